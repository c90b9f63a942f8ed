/- When lists are a network, as plain functions. Conditions: the lists are short. -/
import Derived.Test.YtiehjihckndgkaaGreatL6
import Derived.Test.YtiehjihckndgkaaGreatNet
namespace Go.Proofs.YtiehjihckndgkaaGreat
open Go Dv
set_option linter.unusedSimpArgs false
set_option linter.unusedVariables false
set_option maxRecDepth 100000
set_option maxHeartbeats 4000000
noncomputable def FM(list:AB)(low:Int)(high:Int)(Aj:Int):Option ((Int)⊕(Unit⊕Unit)):= if Aj<(list.length:Int)then ck (0≤Aj∧Aj.toNat<list.length)<| if(La (list.getD Aj.toNat default) low high)=true then if 0<Aj then ck (0≤IntKind.i64.wrap (Aj-1)∧(IntKind.i64.wrap (Aj-1)).toNat<list.length)<| if(list.getD Aj.toNat default)≤(list.getD ((IntKind.i64.wrap (Aj-1)).toNat) default)then some (Sum.inr (Sum.inl ())) else some (Sum.inl (IntKind.i64.wrap (Aj+1))) else some (Sum.inl (IntKind.i64.wrap (Aj+1))) else some (Sum.inr (Sum.inl ())) else some (Sum.inr (Sum.inr ()))
noncomputable def Lx(list:AB)(low:Int)(high:Int)(v:Int):Option (Unit⊕Unit):=Fb (fun v=>FM list low high v) v
noncomputable def Ob(list:AB)(low:Int)(high:Int):Option (Bool):=
 (Lx list low high 0).bind fun Aa=>
 match Aa with
 | .inl q1000_=>
  some false
 | .inr q1000_=>
  some true
def bM:SC:= .seq (.ops [oB 12 .lss 3 (tK 11) (tK 10) 3 0]) (.seq (.cond (tK 12) .skip (.exit 0)) (.seq (.block 1 (.seq (.ops [oM 13 11 3,oI 14 26 9 11,oL 15 3 14 3,oA 7 13 3,oA 8 15 3]) (.seq (.ops [oM 16 8 3,oM 17 1 3,oM 18 2 3,oC 19 64 [(tK 16),(tK 17),(tK 18)] [3,3,3] 4,oX 20 (.unOp .not 4 (tK 19)) 4,oM 21 20 4,⟨(some 22),(.move (tK 7)),3,(some (some 21,false))⟩,⟨(some 23),(.binOp .gtr 3 (tK 22) (iK 0) 3),4,(some (some 21,false))⟩,⟨(some 24),(.move (tK 23)),4,(some (some 21,false))⟩,⟨(some 25),(.move (tK 0)),26,(some (some 24,true))⟩,⟨(some 26),(.move (tK 7)),3,(some (some 24,true))⟩,⟨(some 27),(.binOp .sub 3 (tK 26) (iK 1) 3),3,(some (some 24,true))⟩,⟨(some 28),(.indexAddr 26 (tK 25) (tK 27)),0,(some (some 24,true))⟩,⟨(some 29),(.load 3 (tK 28)),3,(some (some 24,true))⟩,⟨(some 30),(.move (tK 8)),3,(some (some 24,true))⟩,⟨(some 31),(.binOp .geq 3 (tK 29) (tK 30) 3),4,(some (some 24,true))⟩,⟨(some 32),(.pick (tK 24) (tK 31) MS),4,(some (some 21,false))⟩,oX 33 (.pick (tK 21) F7 (tK 32)) 4]) (.cond (tK 33) (.seq (.ops [oX 6 CY 4]) .ret) .skip)))) (.ops [oB 34 .add 3 (tK 11) (iK 1) 3 3,oM 11 34 3])))
def xW:SC:= .loop bM
def AAV:SC:= .seq (.ops [oX 6 CY 4]) (.seq (.seq (.ops [oM 9 0 26,oN 10 9 26,oX 11 (.move (iK 0)) 3]) (.block 0 xW)) (.seq (.ops [oX 6 (.assign F7) 4]) .ret))
theorem A4Y:Tryz.f101.body.map (BX lends)=some AAV:=by kernel_rfl
theorem AHx:Bj Tryz.f101 3=true:=by kernel_rfl
theorem ANj{a l:List D}{r:D×List D}(h:Br Y.env AAV (fin Ap l.length [ResultVar.tmp 6] r) (entry a l))(ha:a.length=3):Y.call 101 a l=some r:=
 AZ (Y:=Y) rfl Tryz.func101 (ha▸AHx) A4Y h
def DR(list:AB)(low:Int)(high:Int)(Aj:Int)(s:St):Prop:=s.v 0=D.sl 3 (AQ (D.int .i64) list)∧s.v 1=D.int .i64 low∧s.v 2=D.int .i64 high∧s.v 9=D.sl 3 (AQ (D.int .i64) list)∧s.v 10=D.int .i64 (list.length:Int)∧s.v 11=D.int .i64 Aj
def EY(list:AB)(low:Int)(high:Int)(r:Unit⊕Unit)(ex:Ex)(s:St):Prop:=match r with
 | .inl q=>ex= .ret∧s.v 6=D.bool false
 | .inr q=>ex= .exit 0
theorem Ut(list:AB)(low:Int)(high:Int){v:Int}{s:St}{r:Unit⊕Unit}(h:Lx list low high v=some r)(hM:DR list low high v s):Br Y.env xW (EY list low high r) s:=by
 unfold Lx at h;refine BH (c:=bM) (fun v=>FM list low high v) (fun v s=>DR list low high v s) (EY list low high) ?_ h hM;clear h hM s v r;intro Aj s o hM h;unfold FM at h;unfold DR at hM;obtain⟨m0,m1,m2,m3,m4,m5⟩:=hM;unfold bM;rcases iS h with⟨e1,h⟩|⟨e1,h⟩
 ·obtain⟨e2,h⟩:=ES h;have c3:=KY (list.getD Aj.toNat default) low high;rcases iS h with⟨e4,h⟩|⟨e4,h⟩
  ·rcases iS h with⟨e5,h⟩|⟨e5,h⟩
   ·obtain⟨e6,h⟩:=ES h;rcases iS h with⟨e7,h⟩|⟨e7,h⟩
    ·obtain rfl:=Option.some.inj h
     simp (maxDischargeDepth:=9) only [↓AL,AO,↓reduceIte,Nat.reduceEqDiff,Nat.reduceLT,Nat.reduceAdd,m0,m1,m2,m3,m4,m5,e1,e2.1,e2.2,c3,e4,e5,e6.1,e6.2,e7,DR,EY,Qu]
    ·obtain rfl:=Option.some.inj h
     simp (maxDischargeDepth:=9) only [↓AL,AO,↓reduceIte,Nat.reduceEqDiff,Nat.reduceLT,Nat.reduceAdd,m0,m1,m2,m3,m4,m5,e1,e2.1,e2.2,c3,e4,e5,e6.1,e6.2,e7,DR,En]
   ·obtain rfl:=Option.some.inj h
    simp (maxDischargeDepth:=9) only [↓AL,AO,↓reduceIte,Nat.reduceEqDiff,Nat.reduceLT,Nat.reduceAdd,m0,m1,m2,m3,m4,m5,e1,e2.1,e2.2,c3,e4,e5,DR,En]
  ·have e4f:(La (list.getD Aj.toNat default) low high)=false:=Jw.mpr e4
   obtain rfl:=Option.some.inj h
   simp (maxDischargeDepth:=9) only [↓AL,AO,↓reduceIte,Nat.reduceEqDiff,Nat.reduceLT,Nat.reduceAdd,m1,m2,m3,m4,m5,e1,e2.1,e2.2,c3,e4f,DR,EY,Qu]
 ·obtain rfl:=Option.some.inj h
  simp (maxDischargeDepth:=9) only [↓AL,AO,↓reduceIte,Nat.reduceLT,m4,m5,e1,DR,EY,K3]
theorem WF(list:AB)(low:Int)(high:Int){r:Bool}(h:Ob list low high=some r):Y.call 101 [D.sl 3 (AQ (D.int .i64) list),D.int .i64 low,D.int .i64 high] []=some (D.bool r,[]):=by
 refine ANj ?_ rfl;unfold AAV;unfold Ob at h;obtain⟨Aa,hl2,h⟩:=Ak h;try dsimp only at h
 simp (maxDischargeDepth:=9) only [↓AL,AO,↓reduceIte,Nat.reduceEqDiff,Nat.reduceLT];refine Aw (Ut list low high hl2 ?_) ?_
 ·simp (maxDischargeDepth:=9) only [BZ,Ei,↓reduceIte,Nat.reduceEqDiff,Nat.reduceLT,DR]
 ·intro ex2 s2 hX2;rcases Aa with q1000_|q1000_
  ·unfold EY at hX2;dsimp only at hX2 h;obtain⟨rfl,n2_0⟩:=hX2
   obtain rfl:=Option.some.inj h
   simp (maxDischargeDepth:=9) only [↓AL,AO,↓reduceIte,n2_0]
  ·unfold EY at hX2;dsimp only at hX2 h
   obtain rfl:=hX2
   obtain rfl:=Option.some.inj h
   simp (maxDischargeDepth:=9) only [↓AL,AO,↓reduceIte,Nat.reduceEqDiff,Nat.reduceLT]
def bN(l:AB)(lo hi:Int):Bool:=(List.range l.length).all fun i=>La (l.getD i default) lo hi&&(decide (i=0)||decide (l.getD (i-1) default<l.getD i default))
theorem Ya(l:AB)(lo hi:Int)(h:l.length<1099511627776):Ob l lo hi=some (bN l lo hi):=by
 have key:=Fe (fun v=>FM l lo hi v) (fun i=>(i:Int)) l.length (fun i=>La (l.getD i default) lo hi&&(decide (i=0)||decide (l.getD (i-1) default<l.getD i default))) (.inl ()) (.inr ()) ?_ ?_
 ·rw [Gn]at key;unfold Ob Lx bN;rw [key]
  cases (List.range l.length).all fun i=>La (l.getD i default) lo hi&&(decide (i=0)||decide (l.getD (i-1) default<l.getD i default))<;>rfl
 ·intro i hi';simp only [FM,EC];rw [if_pos (CL hi'),BL (by omega),K4 i (by omega)]
  cases hr:La (l.getD i default) lo hi with
  |false=>simp
  |true=>
   by_cases h0:i=0
   ·subst h0;rw [if_pos rfl,if_neg (by omega)]
    simp
   ·rw [if_pos rfl,if_pos (by omega),I7 _ (by omega),BL (by omega),show((i:Int)-1).toNat=i-1 by omega,decide_eq_false h0]
    by_cases hlt:l.getD (i-1) default<l.getD i default
    ·rw [if_neg (by omega),decide_eq_true hlt];rfl
    ·rw [if_pos (by omega),decide_eq_false hlt];rfl
 ·simp only [FM];rw [if_neg (Az _)]
theorem Yb(list:AB)(low:Int)(high:Int)(h0:list.length<1099511627776):Y.call 101 [D.sl 3 (AQ (D.int .i64) list),D.int .i64 low,D.int .i64 high] []=some (D.bool (bN list low high),[]):=WF list low high (Ya list low high h0)
theorem vg{l:AB}{lo hi:Int}(h:bN l lo hi=true):l.Pairwise (fun a b=>a<b)∧ ∀x∈l,La x lo hi=true:=by
 have h0:=DV.1 h
 have step: ∀i,i+1<l.length→l.getD i default<l.getD (i+1) default:=fun i hi=>by
  have:=h0 (i+1) hi
  rw [Gb]at this;simpa using this.2
 have wz: ∀(d i:Nat),i+d+1<l.length→l.getD i default<l.getD (i+d+1) default:=by
  intro d
  induction d with
  |zero=>intro i hi;exact step i hi
  |succ d ih=>
   intro i hi;have h1:=ih i (by omega)
   have h2:=step (i+d+1) (by omega)
   rw [show i+(d+1)+1=i+d+1+1 by omega]
   omega
 refine⟨yH.2 fun i j hi hj hij=> ?_,fun x hx=> ?_⟩
 ·have:=wz (j-i-1) i (by omega)
  rw [show i+(j-i-1)+1=j by omega,Ao _ _ hi,Ao _ _ hj]at this
  exact this
 ·obtain⟨i,hi,rfl⟩:=jm hx;have:=h0 i hi
  rw [Gb,Ao _ _ hi]at this;exact this.1
theorem A29{l:AB}{lo hi:Int}(h1:l.Pairwise (fun a b=>a<b))(h2: ∀x∈l,La x lo hi=true):bN l lo hi=true:=by
 refine DV.2 fun i hi=> ?_;rw [Gb]
 refine⟨by rw [Ao _ _ hi];exact h2 _ (Nh hi), ?_⟩
 by_cases h0:i=0
 ·rw [decide_eq_true h0];rfl
 ·have:=yH.1 h1 (i-1) i (by omega) hi (by omega)
  rw [UI]
  right
  rw [decide_eq_true_eq,Ao _ _ hi,Ao _ _ (by omega:i-1<l.length)]
  exact this
def XG(ids:AB)(n:Int):Bool:=decide (ids.length=0)||(decide ((ids.length:Int)=n)&&(decide ids.Nodup&&GG ids 1 999999))
theorem vk(ids:AB)(lo hi:Int):bN (Me ids) lo hi=(decide ids.Nodup&&GG ids lo hi):=by
 rw [VE,Gb,decide_eq_true_eq];have hp:=Pd ids;unfold GG;rw [KN]
 constructor
 ·intro h;obtain⟨h1,h2⟩:=vg h
  refine⟨hp.nodup_iff.1 (h1.imp fun h=>by omega),fun x hx=>h2 x (hp.mem_iff.2 hx)⟩
 ·rintro⟨h1,h2⟩
  refine A29 ?_ fun x hx=>h2 x (hp.mem_iff.1 hx);have hn:(Me ids).Pairwise (fun a b=>a≠b):=hp.nodup_iff.2 h1
  exact((Uq ids).and hn).imp fun h=>by omega
theorem Pf(xs:AB)(h:xs.length<1099511627776):Y.call 99 [.sl 3 (AQ (D.int .i64) xs)] []=some (.own 3 (AQ (D.int .i64) xs),[]):=by
 refine A1q (AQ (D.int .i64) xs) (by rw [aJ];exact h) (jG _ _ (fun x=>rfl)) (aK _ _ (fun x=>by first|exact hoI .. |exact ADE .. |exact hoB .. |exact hoS ..)) ?_
 simp (maxDischargeDepth:=9) only [BZ,AEW,Ei]
noncomputable def Z5(ids:AB)(nodes:Int):Option (Bool):= if(ids.length:Int)=0 then some true else ck (ids.length<1099511627776)<| ck (ids.length<4611686018427387904)<| if(ids.length:Int)=nodes then ck ((LZ ids).length<1099511627776)<| some (bN (LZ ids) (1:Int) (999999:Int)) else some false
def k66:SC:= .seq (.ops [oX 4 CY 4]) (.seq (.seq (.ops [oM 6 0 26,oN 7 6 26,oB 8 .eql 3 (tK 7) (iK 0) 3 4]) (.cond (tK 8) (.seq (.ops [oX 4 (.assign F7) 4]) .ret) .skip)) (.seq (.ops [oM 9 0 26,oC 10 99 [(tK 9)] [26] 26,oA 5 10 26]) (.seq (.ops [oM 11 5 26,oC 12 100 [(tK 11)] [26] 0]) (.seq (.ops [oM 13 0 26,oN 14 13 26,oM 15 1 3,oB 16 .eql 3 (tK 14) (tK 15) 3 4,oM 17 16 4,⟨(some 18),(.move (tK 5)),26,(some (some 17,true))⟩,⟨(some 19),(.call ⟨(.value (.func 101)), #[(tK 18),(iK 1),(iK 999999)], #[26,3,3]⟩),4,(some (some 17,true))⟩,oX 20 (.pick (tK 17) (tK 19) MS) 4,oA 4 20 4]) .ret))))
theorem AAW:Tryz.f66.body.map (BX lends)=some k66:=by kernel_rfl
theorem ANl:Bj Tryz.f66 2=true:=by kernel_rfl
theorem c66{a l:List D}{r:D×List D}(h:Br Y.env k66 (fin Ap l.length [ResultVar.tmp 4] r) (entry a l))(ha:a.length=2):Y.call 66 a l=some r:=
 AZ (Y:=Y) rfl Tryz.func66 (ha▸ANl) AAW h
theorem mI(ids:AB)(nodes:Int){r:Bool}(h:Z5 ids nodes=some r):Y.call 66 [D.sl 3 (AQ (D.int .i64) ids),D.int .i64 nodes] []=some (D.bool r,[]):=by
 refine c66 ?_ rfl;unfold k66;unfold Z5 at h;rcases iS h with⟨e1,h⟩|⟨e1,h⟩
 ·obtain rfl:=Option.some.inj h
  simp (maxDischargeDepth:=9) only [↓AL,AO,↓reduceIte,Nat.reduceEqDiff,Nat.reduceLT,decide_eq_true e1]
 ·obtain⟨e2,h⟩:=ES h;have c3:=Pf ids e2;obtain⟨e4,h⟩:=ES h;have c5:=A1p ids e4;rcases iS h with⟨e6,h⟩|⟨e6,h⟩
  ·obtain⟨e7,h⟩:=ES h;have c8:=Yb (LZ ids) (1:Int) (999999:Int) e7
   obtain rfl:=Option.some.inj h
   simp (maxDischargeDepth:=9) only [↓AL,AO,↓reduceIte,Nat.reduceEqDiff,Nat.reduceLT,Nat.reduceAdd,e1,c3,c5,decide_eq_true e6,c8]
  ·obtain rfl:=Option.some.inj h
   simp (maxDischargeDepth:=9) only [↓AL,AO,↓reduceIte,Nat.reduceEqDiff,Nat.reduceLT,Nat.reduceAdd,e1,c3,c5,e6]
noncomputable def L6(ids:AB)(nodes:Int)(Gv:Int):Option ((Int)⊕(Unit⊕Unit)):= if Gv<(ids.length:Int)then ck (0≤Gv∧Gv.toNat<ids.length)<| if(La (ids.getD Gv.toNat default) (1:Int) (999999:Int))=true then ck (0≤Gv)<| ck (Gv.toNat≤ids.length)<| ck (((ids.take Gv.toNat).drop 0).length<1099511627776)<| if(((ids.take Gv.toNat).drop 0).contains (ids.getD Gv.toNat default))=true then some (Sum.inr (Sum.inl ())) else some (Sum.inl (IntKind.i64.wrap (Gv+1))) else some (Sum.inr (Sum.inl ())) else some (Sum.inr (Sum.inr ()))
noncomputable def Rj(ids:AB)(nodes:Int)(v:Int):Option (Unit⊕Unit):=Fb (fun v=>L6 ids nodes v) v
noncomputable def Z6(ids:AB)(nodes:Int):Option (Bool):=
 (Rj ids nodes 0).bind fun Aa=>
 match Aa with
 | .inl q1000_=>
  some false
 | .inr q1000_=>
  if(ids.length:Int)=0 then
   some true
  else
   some (decide ((ids.length:Int)=nodes))
def mJ:SC:= .seq (.ops [oB 10 .lss 3 (tK 9) (tK 8) 3 0]) (.seq (.cond (tK 10) .skip (.exit 0)) (.seq (.block 1 (.seq (.ops [oM 11 9 3,oI 12 26 7 9,oL 13 3 12 3,oA 5 11 3,oA 6 13 3]) (.seq (.ops [oM 14 6 3,oC 15 82 [(tK 14),(iK 1),(iK 999999)] [3,3,3] 4,oX 16 (.unOp .not 4 (tK 15)) 4,oM 17 16 4,⟨(some 18),(.move (tK 0)),26,(some (some 17,false))⟩,⟨(some 19),(.move (tK 5)),3,(some (some 17,false))⟩,⟨(some 20),(.slice 26 (tK 18) none (some (tK 19)) none),900001,(some (some 17,false))⟩,⟨(some 21),(.move (tK 6)),3,(some (some 17,false))⟩,⟨(some 22),(.call ⟨(.value (.func 36)), #[(tK 20),(tK 21)], #[26,3]⟩),4,(some (some 17,false))⟩,oX 23 (.pick (tK 17) F7 (tK 22)) 4]) (.cond (tK 23) (.seq (.ops [oX 4 CY 4]) .ret) .skip)))) (.ops [oB 24 .add 3 (tK 9) (iK 1) 3 3,oM 9 24 3])))
def A2A:SC:= .loop mJ
def k91:SC:= .seq (.ops [oX 4 CY 4]) (.seq (.seq (.ops [oM 7 0 26,oN 8 7 26,oX 9 (.move (iK 0)) 3]) (.block 0 A2A)) (.seq (.ops [oM 25 0 26,oN 26 25 26,oB 27 .eql 3 (tK 26) (iK 0) 3 4,oM 28 27 4,⟨(some 29),(.move (tK 0)),26,(some (some 28,false))⟩,⟨(some 30),(.call ⟨(.builtin .len), #[(tK 29)], #[26]⟩),3,(some (some 28,false))⟩,⟨(some 31),(.move (tK 1)),3,(some (some 28,false))⟩,⟨(some 32),(.binOp .eql 3 (tK 30) (tK 31) 3),4,(some (some 28,false))⟩,oX 33 (.pick (tK 28) F7 (tK 32)) 4,oA 4 33 4]) .ret))
theorem AAX:Tryz.f91.body.map (BX lends)=some k91:=by kernel_rfl
theorem ANn:Bj Tryz.f91 2=true:=by kernel_rfl
theorem c91{a l:List D}{r:D×List D}(h:Br Y.env k91 (fin Ap l.length [ResultVar.tmp 4] r) (entry a l))(ha:a.length=2):Y.call 91 a l=some r:=
 AZ (Y:=Y) rfl Tryz.func91 (ha▸ANn) AAX h
def Gx(ids:AB)(nodes:Int)(Gv:Int)(s:St):Prop:=s.v 0=D.sl 3 (AQ (D.int .i64) ids)∧s.v 1=D.int .i64 nodes∧s.v 7=D.sl 3 (AQ (D.int .i64) ids)∧s.v 8=D.int .i64 (ids.length:Int)∧s.v 9=D.int .i64 Gv
def J4(ids:AB)(nodes:Int)(r:Unit⊕Unit)(ex:Ex)(s:St):Prop:=match r with
 | .inl q=>ex= .ret∧s.v 4=D.bool false
 | .inr q=>ex= .exit 0∧s.v 0=D.sl 3 (AQ (D.int .i64) ids)∧s.v 1=D.int .i64 nodes
theorem gY(ids:AB)(nodes:Int){v:Int}{s:St}{r:Unit⊕Unit}(h:Rj ids nodes v=some r)(hM:Gx ids nodes v s):Br Y.env A2A (J4 ids nodes r) s:=by
 unfold Rj at h;refine BH (c:=mJ) (fun v=>L6 ids nodes v) (fun v s=>Gx ids nodes v s) (J4 ids nodes) ?_ h hM;clear h hM s v r;intro Gv s o hM h;unfold L6 at h;unfold Gx at hM;obtain⟨m0,m1,m2,m3,m4⟩:=hM;unfold mJ;rcases iS h with⟨e1,h⟩|⟨e1,h⟩
 ·obtain⟨e2,h⟩:=ES h;have c3:=MG (ids.getD Gv.toNat default) (1:Int) (999999:Int);rcases iS h with⟨e4,h⟩|⟨e4,h⟩
  ·obtain⟨e5,e6,e7,h⟩:=Q3 h;have c8:=vW ((ids.take Gv.toNat).drop 0) (ids.getD Gv.toNat default) e7;rcases iS h with⟨e9,h⟩|⟨e9,h⟩
   ·obtain rfl:=Option.some.inj h
    simp (maxDischargeDepth:=9) only [↓AL,AO,↓reduceIte,Nat.reduceEqDiff,Nat.reduceLT,Nat.reduceAdd,m0,m2,m3,m4,e1,e2.1,e2.2,c3,e4,e6,c8,e9,Gx,J4,Qu]
   ·have e9f:(((ids.take Gv.toNat).drop 0).contains (ids.getD Gv.toNat default))=false:=Jw.mpr e9
    obtain rfl:=Option.some.inj h
    simp (maxDischargeDepth:=9) only [↓AL,AO,↓reduceIte,Nat.reduceEqDiff,Nat.reduceLT,Nat.reduceAdd,m0,m1,m2,m3,m4,e1,e2.1,e2.2,c3,e4,e6,c8,e9f,Gx,En]
  ·have e4f:(La (ids.getD Gv.toNat default) (1:Int) (999999:Int))=false:=Jw.mpr e4
   obtain rfl:=Option.some.inj h
   simp (maxDischargeDepth:=9) only [↓AL,AO,↓reduceIte,Nat.reduceEqDiff,Nat.reduceLT,Nat.reduceAdd,m2,m3,m4,e1,e2.1,e2.2,c3,e4f,Gx,J4,Qu]
 ·obtain rfl:=Option.some.inj h
  simp (maxDischargeDepth:=9) only [↓AL,AO,↓reduceIte,Nat.reduceEqDiff,Nat.reduceLT,m0,m1,m3,m4,e1,Gx,J4,K3]
theorem mK(ids:AB)(nodes:Int){r:Bool}(h:Z6 ids nodes=some r):Y.call 91 [D.sl 3 (AQ (D.int .i64) ids),D.int .i64 nodes] []=some (D.bool r,[]):=by
 refine c91 ?_ rfl;unfold k91;unfold Z6 at h;obtain⟨Aa,hl2,h⟩:=Ak h;try dsimp only at h
 simp (maxDischargeDepth:=9) only [↓AL,AO,↓reduceIte,Nat.reduceEqDiff,Nat.reduceLT];refine Aw (gY ids nodes hl2 ?_) ?_
 ·simp (maxDischargeDepth:=9) only [BZ,Ei,↓reduceIte,Nat.reduceEqDiff,Nat.reduceLT,Gx]
 ·intro ex2 s2 hX2;rcases Aa with q1000_|q1000_
  ·unfold J4 at hX2;dsimp only at hX2 h;obtain⟨rfl,n2_0⟩:=hX2
   obtain rfl:=Option.some.inj h
   simp (maxDischargeDepth:=9) only [↓AL,AO,↓reduceIte,n2_0]
  ·unfold J4 at hX2;dsimp only at hX2 h;obtain⟨rfl,n2_0,n2_1⟩:=hX2;rcases iS h with⟨e3,h⟩|⟨e3,h⟩
   ·obtain rfl:=Option.some.inj h
    simp (maxDischargeDepth:=9) only [↓AL,AO,↓reduceIte,Nat.reduceEqDiff,Nat.reduceLT,n2_0,decide_eq_true e3]
   ·obtain rfl:=Option.some.inj h
    simp (maxDischargeDepth:=9) only [↓AL,AO,↓reduceIte,Nat.reduceEqDiff,Nat.reduceLT,n2_0,n2_1,e3]
theorem vo(ids:AB)(n:Int)(h:ids.length<1099511627776):Z5 ids n=some (XG ids n):=by
 unfold Z5 XG;by_cases h0:ids.length=0
 ·rw [if_pos (by omega),decide_eq_true h0];rfl
 ·rw [if_neg (by omega),BL h,BL (by omega),decide_eq_false h0,Bool.false_or]
  by_cases h1:(ids.length:Int)=n
  ·rw [if_pos h1,rG,BL (by rw [jR];exact h),vk,decide_eq_true h1];rfl
  ·rw [if_neg h1,decide_eq_false h1];rfl
theorem zq(ids:AB):(List.range ids.length).all (fun i=>La (ids.getD i default) 1 999999&& !(ids.take i).contains (ids.getD i default))=(decide ids.Nodup&&GG ids 1 999999):=by
 rw [VE,DV,Gb,decide_eq_true_eq];unfold GG;rw [KN]
 constructor
 ·intro h
  refine⟨yH.2 fun i j hi hj hij he=> ?_,fun x hx=> ?_⟩
  ·have:=h j hj
   rw [Gb,OT,←fB,jl,Ao _ _ hj]at this;refine this.2 ?_;rw [←he];exact List.mem_take_iff_getElem.2 ⟨i,by omega,rfl⟩
  ·obtain⟨i,hi,rfl⟩:=jm hx;have:=h i hi
   rw [Gb,Ao _ _ hi]at this;exact this.1
 ·rintro⟨h1,h2⟩ i hi
  rw [Gb,OT,←fB,jl,Ao _ _ hi]
  refine⟨h2 _ (Nh hi),fun hm=> ?_⟩
  obtain⟨j,hj,he⟩:=List.mem_take_iff_getElem.1 hm;exact yH.1 h1 j i (by omega) hi (by omega) he
theorem vz(ids:AB)(n:Int)(h:ids.length<1099511627776):Z6 ids n=some (XG ids n):=by
 have key:=Fe (fun v=>L6 ids n v) (fun i=>(i:Int)) ids.length (fun i=>La (ids.getD i default) 1 999999&& !(ids.take i).contains (ids.getD i default)) (.inl ()) (.inr ()) ?_ ?_
 ·rw [Gn,zq]at key;unfold Z6 Rj XG;rw [key,Cz];by_cases h0:ids.length=0
  ·have:ids=[]:=sP h0
   subst this;simp [GG]
  ·rw [decide_eq_false h0,Bool.false_or]
   cases decide ids.Nodup&&GG ids 1 999999 with
   |false=>rw [Bool.and_false];rfl
   |true=>rw [fG,if_pos rfl];simp only;rw [if_neg (by omega)]
 ·intro i hi;simp only [L6,EC,YC];rw [if_pos (CL hi),BL (by omega),BL (by omega),BL (by omega),BL (by rw [Ud];omega),K4 i (by omega)]
  cases La (ids.getD i default) 1 999999<;>cases (ids.take i).contains (ids.getD i default)<;>rfl
 ·simp only [L6];rw [if_neg (Az _)]
theorem w9(ids:AB)(nodes:Int)(h0:ids.length<1099511627776):Y.call 66 [D.sl 3 (AQ (D.int .i64) ids),D.int .i64 nodes] []=some (D.bool (XG ids nodes),[]):=mI ids nodes (vo ids nodes h0)
theorem wB(ids:AB)(nodes:Int)(h0:ids.length<1099511627776):Y.call 91 [D.sl 3 (AQ (D.int .i64) ids),D.int .i64 nodes] []=some (D.bool (XG ids nodes),[]):=mK ids nodes (vz ids nodes h0)
noncomputable def Rk(inputs:AB)(nodes:Int):Option (Bool):= if(inputs.length:Int)=nodes then ck (inputs.length<1099511627776)<| some (GG inputs (0:Int) (9:Int)) else some false
def k67:SC:= .seq (.ops [oX 4 CY 4]) (.seq (.ops [oM 5 0 26,oN 6 5 26,oM 7 1 3,oB 8 .eql 3 (tK 6) (tK 7) 3 4,oM 9 8 4,⟨(some 10),(.move (tK 0)),26,(some (some 9,true))⟩,⟨(some 11),(.call ⟨(.value (.func 71)), #[(tK 10),(iK 0),(iK 9)], #[26,3,3]⟩),4,(some (some 9,true))⟩,oX 12 (.pick (tK 9) (tK 11) MS) 4,oA 4 12 4]) .ret)
theorem AAY:Tryz.f67.body.map (BX lends)=some k67:=by kernel_rfl
theorem ANp:Bj Tryz.f67 2=true:=by kernel_rfl
theorem c67{a l:List D}{r:D×List D}(h:Br Y.env k67 (fin Ap l.length [ResultVar.tmp 4] r) (entry a l))(ha:a.length=2):Y.call 67 a l=some r:=
 AZ (Y:=Y) rfl Tryz.func67 (ha▸ANp) AAY h
theorem Yc(inputs:AB)(nodes:Int){r:Bool}(h:Rk inputs nodes=some r):Y.call 67 [D.sl 3 (AQ (D.int .i64) inputs),D.int .i64 nodes] []=some (D.bool r,[]):=by
 refine c67 ?_ rfl;unfold k67;unfold Rk at h;rcases iS h with⟨e1,h⟩|⟨e1,h⟩
 ·obtain⟨e2,h⟩:=ES h;have c3:=TP inputs (0:Int) (9:Int) e2
  obtain rfl:=Option.some.inj h
  simp (maxDischargeDepth:=9) only [↓AL,AO,↓reduceIte,Nat.reduceEqDiff,Nat.reduceLT,Nat.reduceAdd,decide_eq_true e1,c3]
 ·obtain rfl:=Option.some.inj h
  simp (maxDischargeDepth:=9) only [↓AL,AO,↓reduceIte,Nat.reduceEqDiff,Nat.reduceLT,e1]
noncomputable def KD(A8:List (List (Int×Int)))(AR:AB)(A9:AB)(v_:Int):Option (Bool):= some (La v_ (0:Int) (IntKind.i64.wrap ((A8.length:Int)-1)))
def k86:SC:= .seq (.ops [oX 2 (.box 38 (tK 0)) 0,oX 4 CY 4]) (.seq (.ops [oM 5 1 3,oF 6 38 2 0,oL 7 36 6 36,oN 8 7 36,oB 9 .sub 3 (tK 8) (iK 1) 3 3,oC 10 64 [(tK 5),(iK 0),(tK 9)] [3,3,3] 4,oA 4 10 4]) .ret)
theorem AAZ:Tryz.f86.body.map (BX lends)=some k86:=by kernel_rfl
theorem ANr:Bj Tryz.f86 2=true:=by kernel_rfl
theorem c86{a l:List D}{r:D×List D}(h:Br Y.env k86 (fin Ap l.length [ResultVar.tmp 4] r) (entry a l))(ha:a.length=2):Y.call 86 a l=some r:=
 AZ (Y:=Y) rfl Tryz.func86 (ha▸ANr) AAZ h
theorem Rl(A8:List (List (Int×Int)))(AR:AB)(A9:AB)(v_:Int){r:Bool}(h:KD A8 AR A9 v_=some r):Y.call 86 [D.agg [D.sl 79 (AQ (fun x=>D.sl 87 (Au .i64 .i64 x)) A8),D.sl 3 (AQ (D.int .i64) AR),D.sl 3 (AQ (D.int .i64) A9)],D.int .i64 v_] []=some (D.bool r,[]):=by
 refine c86 ?_ rfl;unfold k86;unfold KD at h;have c1:=KY v_ (0:Int) (IntKind.i64.wrap ((A8.length:Int)-1))
 obtain rfl:=Option.some.inj h
 simp (maxDischargeDepth:=9) only [↓AL,AO,↓reduceIte,Nat.reduceEqDiff,Nat.reduceLT,Nat.reduceAdd,c1]
noncomputable def KE(A8:List (List (Int×Int)))(AR:AB)(A9:AB)(v_:Int)(i:Int):Option (Bool):= (KD A8 AR A9 v_).bind fun xQ=> if xQ=true then ck (0≤v_∧v_.toNat<A8.length)<| some (La i (0:Int) (IntKind.i64.wrap (((A8.getD v_.toNat default).length:Int)-1))) else some false
def k52:SC:= .seq (.ops [oX 3 (.box 38 (tK 0)) 0,oX 6 CY 4]) (.seq (.ops [oL 7 38 3 38,oM 8 1 3,oC 9 86 [(tK 7),(tK 8)] [38,3] 4,oM 10 9 4,⟨(some 11),(.move (tK 2)),3,(some (some 10,true))⟩,⟨(some 12),(.fieldAddr 38 (tK 3) 0),0,(some (some 10,true))⟩,⟨(some 13),(.load 36 (tK 12)),36,(some (some 10,true))⟩,⟨(some 14),(.move (tK 1)),3,(some (some 10,true))⟩,⟨(some 15),(.indexAddr 36 (tK 13) (tK 14)),0,(some (some 10,true))⟩,⟨(some 16),(.load 79 (tK 15)),79,(some (some 10,true))⟩,⟨(some 17),(.call ⟨(.builtin .len), #[(tK 16)], #[79]⟩),3,(some (some 10,true))⟩,⟨(some 18),(.binOp .sub 3 (tK 17) (iK 1) 3),3,(some (some 10,true))⟩,⟨(some 19),(.call ⟨(.value (.func 64)), #[(tK 11),(iK 0),(tK 18)], #[3,3,3]⟩),4,(some (some 10,true))⟩,oX 20 (.pick (tK 10) (tK 19) MS) 4,oA 6 20 4]) .ret)
theorem AAa:Tryz.f52.body.map (BX lends)=some k52:=by kernel_rfl
theorem ANt:Bj Tryz.f52 3=true:=by kernel_rfl
theorem c52{a l:List D}{r:D×List D}(h:Br Y.env k52 (fin Ap l.length [ResultVar.tmp 6] r) (entry a l))(ha:a.length=3):Y.call 52 a l=some r:=
 AZ (Y:=Y) rfl Tryz.func52 (ha▸ANt) AAa h
theorem Rm(A8:List (List (Int×Int)))(AR:AB)(A9:AB)(v_:Int)(i:Int){r:Bool}(h:KE A8 AR A9 v_ i=some r):Y.call 52 [D.agg [D.sl 79 (AQ (fun x=>D.sl 87 (Au .i64 .i64 x)) A8),D.sl 3 (AQ (D.int .i64) AR),D.sl 3 (AQ (D.int .i64) A9)],D.int .i64 v_,D.int .i64 i] []=some (D.bool r,[]):=by
 refine c52 ?_ rfl;unfold k52;unfold KE at h;obtain⟨xQ,hl1,h⟩:=Ak h;have c1:=Rl A8 AR A9 v_ hl1;rcases iS h with⟨e2,h⟩|⟨e2,h⟩
 ·obtain⟨e3,h⟩:=ES h;have c4:=KY i (0:Int) (IntKind.i64.wrap (((A8.getD v_.toNat default).length:Int)-1))
  obtain rfl:=Option.some.inj h
  simp (maxDischargeDepth:=9) only [↓AL,AO,↓reduceIte,Nat.reduceEqDiff,Nat.reduceLT,Nat.reduceAdd,c1,e2,e3.1,e3.2,c4]
 ·have e2f:xQ=false:=Jw.mpr e2
  obtain rfl:=Option.some.inj h
  simp (maxDischargeDepth:=9) only [↓AL,AO,↓reduceIte,Nat.reduceEqDiff,Nat.reduceLT,Nat.reduceAdd,c1,e2f]
noncomputable def Fx(AA:List (List (Int×Int)))(Ac:AB)(AC:AB)(Fy:Int)(Nu:Int):Option ((Int)⊕(Unit⊕Unit)):= if Nu<((AA.getD Fy.toNat default).length:Int)then ck (0≤Nu∧Nu.toNat<(AA.getD Fy.toNat default).length)<| (KE AA Ac AC (BP (AA.getD Fy.toNat default) Nu.toNat) (Ck (AA.getD Fy.toNat default) Nu.toNat)).bind fun zt=> if zt=true then ck (0≤(BP (AA.getD Fy.toNat default) Nu.toNat)∧(BP (AA.getD Fy.toNat default) Nu.toNat).toNat<AA.length)<| ck (0≤(Ck (AA.getD Fy.toNat default) Nu.toNat)∧(Ck (AA.getD Fy.toNat default) Nu.toNat).toNat<(AA.getD ((BP (AA.getD Fy.toNat default) Nu.toNat).toNat) default).length)<| if(((BP (AA.getD ((BP (AA.getD Fy.toNat default) Nu.toNat).toNat) default) ((Ck (AA.getD Fy.toNat default) Nu.toNat).toNat))==Fy)&&((Ck (AA.getD ((BP (AA.getD Fy.toNat default) Nu.toNat).toNat) default) ((Ck (AA.getD Fy.toNat default) Nu.toNat).toNat))==Nu))=true then some (Sum.inl (IntKind.i64.wrap (Nu+1))) else some (Sum.inr (Sum.inl ())) else some (Sum.inr (Sum.inl ())) else some (Sum.inr (Sum.inr ()))
noncomputable def Kb(AA:List (List (Int×Int)))(Ac:AB)(AC:AB)(Fy:Int)(v:Int):Option (Unit⊕Unit):=Fb (fun v=>Fx AA Ac AC Fy v) v
noncomputable def Fz(AA:List (List (Int×Int)))(Ac:AB)(AC:AB)(Fy:Int):Option ((Int)⊕(Unit⊕Unit)):=
 if Fy<(AA.length:Int)then
  ck (0≤Fy∧Fy.toNat<AA.length)<|
  if 6<((AA.getD Fy.toNat default).length:Int)then
   some (Sum.inr (Sum.inl ()))
  else
   (Kb AA Ac AC Fy 0).bind fun Aa=>
   match Aa with
   | .inl q1000_=>
    some (Sum.inr (Sum.inl ()))
   | .inr q1000_=>
    some (Sum.inl (IntKind.i64.wrap (Fy+1)))
 else
  some (Sum.inr (Sum.inr ()))
noncomputable def Kc(AA:List (List (Int×Int)))(Ac:AB)(AC:AB)(v:Int):Option (Unit⊕Unit):=Fb (fun v=>Fz AA Ac AC v) v
noncomputable def QP(AA:List (List (Int×Int)))(Ac:AB)(AC:AB):Option (Bool):=
 if(La (AA.length:Int) (1:Int) (40:Int))=true then
  ck (Ac.length<1099511627776)<|
  if(XG Ac (AA.length:Int))=true then
   (Rk AC (AA.length:Int)).bind fun XH=>
   if XH=true then
    (Kc AA Ac AC 0).bind fun BA=>
    match BA with
    | .inl q1001_=>
     some false
    | .inr q1001_=>
     some true
   else
    some false
  else
   some false
 else
  some false
abbrev Pg:List Nat:=[48,49,50,51,52,53,54,55,56,57,58,59,60,61,62,63,64,65,66,67,68,66,67,69,70]
def mM:SC:= .seq (.ops [oB 44 .lss 3 (tK 43) (tK 42) 3 0]) (.seq (.cond (tK 44) .skip (.exit 2)) (.seq (.block 3 (.seq (.ops [oM 45 43 3,oI 46 79 41 43,oL 47 87 46 87,oX 6 (.alloc 87) 0,oA 5 45 3,oS 87 6 47]) (.seq (.draws [(⟨[48,1,1],Pg,[48]⟩,oL 48 38 1 38),(⟨[49,6,6],Pg,[49]⟩,oF 49 87 6 0),(⟨[50,49,6],Pg,[50]⟩,oL 50 3 49 3),(⟨[51,6,6],Pg,[51]⟩,oF 51 87 6 1),(⟨[52,51,6],Pg,[52]⟩,oL 52 3 51 3),(⟨[53,48,50,52,1,6,6],Pg,[53]⟩,oC 53 52 [(tK 48),(tK 50),(tK 52)] [38,3,3] 4),(⟨[54,53,53],Pg,[54]⟩,oX 54 (.unOp .not 4 (tK 53)) 4),(⟨[55,54,54],Pg,[55]⟩,oM 55 54 4),(⟨[56,1,1,55],Pg,[56]⟩,⟨(some 56),vI,0,(some (some 55,false))⟩),(⟨[57,56,1,55],Pg,[57]⟩,⟨(some 57),(.load 36 (tK 56)),36,(some (some 55,false))⟩),(⟨[58,6,6,55],Pg,[58]⟩,⟨(some 58),(.fieldAddr 87 (tK 6) 0),0,(some (some 55,false))⟩),(⟨[59,58,6,55],Pg,[59]⟩,⟨(some 59),(.load 3 (tK 58)),3,(some (some 55,false))⟩),(⟨[60,57,59,1,6,55],Pg,[60]⟩,⟨(some 60),(.indexAddr 36 (tK 57) (tK 59)),0,(some (some 55,false))⟩),(⟨[61,60,1,55],Pg,[61]⟩,⟨(some 61),(.load 79 (tK 60)),79,(some (some 55,false))⟩),(⟨[62,6,6,55],Pg,[62]⟩,⟨(some 62),(.fieldAddr 87 (tK 6) 1),0,(some (some 55,false))⟩),(⟨[63,62,6,55],Pg,[63]⟩,⟨(some 63),(.load 3 (tK 62)),3,(some (some 55,false))⟩),
 (⟨[64,61,63,1,6,55],Pg,[64]⟩,⟨(some 64),(.indexAddr 79 (tK 61) (tK 63)),0,(some (some 55,false))⟩),(⟨[65,64,1,55],Pg,[65]⟩,⟨(some 65),(.load 87 (tK 64)),87,(some (some 55,false))⟩),(⟨[66,3,3,55],Pg,[66]⟩,⟨(some 66),(.move (tK 3)),3,(some (some 55,false))⟩),(⟨[67,5,5,55],Pg,[67]⟩,⟨(some 67),(.move (tK 5)),3,(some (some 55,false))⟩),(⟨[68,66,67,3,5,55],Pg,[68,66,67]⟩,⟨(some 68),(.build 87 #[(0,(tK 66)),(1,(tK 67))]),87,(some (some 55,false))⟩),(⟨[69,65,68,1,68,55],Pg,[69]⟩,⟨(some 69),(.binOp .neq 87 (tK 65) (tK 68) 87),4,(some (some 55,false))⟩),(⟨[70,55,69,54,69],Pg,[70]⟩,oX 70 (.pick (tK 55) F7 (tK 69)) 4)]) (.cond (tK 70) (.seq (.ops [oX 2 CY 4]) .ret) .skip)))) (.ops [oB 71 .add 3 (tK 43) (iK 1) 3 3,oM 43 71 3])))
def A2B:SC:= .loop mM
def mO:SC:= .seq (.ops [oB 34 .lss 3 (tK 33) (tK 32) 3 0]) (.seq (.cond (tK 34) .skip (.exit 0)) (.seq (.block 1 (.seq (.ops [oM 35 33 3,oI 36 36 31 33,oL 37 79 36 79,oA 3 35 3,oA 4 37 79]) (.seq (.seq (.ops [oM 38 4 79,oN 39 38 79,oB 40 .gtr 3 (tK 39) (iK 6) 3 4]) (.cond (tK 40) (.seq (.ops [oX 2 CY 4]) .ret) .skip)) (.seq (.ops [oM 41 4 79,oN 42 41 79,oX 43 (.move (iK 0)) 3]) (.block 2 A2B))))) (.ops [oB 72 .add 3 (tK 33) (iK 1) 3 3,oM 33 72 3])))
def A2C:SC:= .loop mO
def k40:SC:= .seq (.ops [oX 1 (.box 38 (tK 0)) 0,oX 2 CY 4]) (.seq (.seq (.ops [oF 7 38 1 0,oL 8 36 7 36,oN 9 8 36,oC 10 64 [(tK 9),(iK 1),(iK 40)] [3,3,3] 4,oX 11 (.unOp .not 4 (tK 10)) 4,oM 12 11 4,⟨(some 13),(.fieldAddr 38 (tK 1) 1),0,(some (some 12,false))⟩,⟨(some 14),(.load 26 (tK 13)),26,(some (some 12,false))⟩,⟨(some 15),vI,0,(some (some 12,false))⟩,⟨(some 16),(.load 36 (tK 15)),36,(some (some 12,false))⟩,⟨(some 17),(.call ⟨(.builtin .len), #[(tK 16)], #[36]⟩),3,(some (some 12,false))⟩,⟨(some 18),(.call ⟨(.value (.func 66)), #[(tK 14),(tK 17)], #[26,3]⟩),4,(some (some 12,false))⟩,⟨(some 19),(.unOp .not 4 (tK 18)),4,(some (some 12,false))⟩,oX 20 (.pick (tK 12) F7 (tK 19)) 4,oM 21 20 4,⟨(some 22),(.fieldAddr 38 (tK 1) 2),0,(some (some 21,false))⟩,⟨(some 23),(.load 26 (tK 22)),26,(some (some 21,false))⟩,⟨(some 24),vI,0,(some (some 21,false))⟩,⟨(some 25),(.load 36 (tK 24)),36,(some (some 21,false))⟩,⟨(some 26),(.call ⟨(.builtin .len), #[(tK 25)], #[36]⟩),3,(some (some 21,false))⟩,⟨(some 27),(.call ⟨(.value (.func 67)), #[(tK 23),(tK 26)], #[26,3]⟩),4,(some (some 21,false))⟩,⟨(some 28),(.unOp .not 4 (tK 27)),4,(some (some 21,false))⟩,oX 29 (.pick (tK 21) F7 (tK 28)) 4])
 (.cond (tK 29) (.seq (.ops [oX 2 CY 4]) .ret) .skip)) (.seq (.seq (.ops [oF 30 38 1 0,oL 31 36 30 36,oN 32 31 36,oX 33 (.move (iK 0)) 3]) (.block 0 A2C)) (.seq (.ops [oX 2 (.assign F7) 4]) .ret)))
theorem AAb:Tryz.f40.body.map (BX lends)=some k40:=by kernel_rfl
theorem ANv:Bj Tryz.f40 1=true:=by kernel_rfl
theorem c40{a l:List D}{r:D×List D}(h:Br Y.env k40 (fin Ap l.length [ResultVar.tmp 2] r) (entry a l))(ha:a.length=1):Y.call 40 a l=some r:=
 AZ (Y:=Y) rfl Tryz.func40 (ha▸ANv) AAb h
def EG(AA:List (List (Int×Int)))(Ac:AB)(AC:AB)(Fy:Int)(Nu:Int)(s:St):Prop:=s.v 1=D.box [D.sl 79 (AQ (fun x=>D.sl 87 (Au .i64 .i64 x)) AA),D.sl 3 (AQ (D.int .i64) Ac),D.sl 3 (AQ (D.int .i64) AC)]∧s.v 3=D.int .i64 Fy∧s.v 31=D.sl 79 (AQ (fun x=>D.sl 87 (Au .i64 .i64 x)) AA)∧s.v 32=D.int .i64 (AA.length:Int)∧s.v 33=D.int .i64 Fy∧s.v 41=D.sl 87 (Au .i64 .i64 (AA.getD Fy.toNat default))∧s.v 42=D.int .i64 ((AA.getD Fy.toNat default).length:Int)∧s.v 43=D.int .i64 Nu
def Er(AA:List (List (Int×Int)))(Ac:AB)(AC:AB)(Fy:Int)(r:Unit⊕Unit)(ex:Ex)(s:St):Prop:=match r with
 | .inl q=>ex= .ret∧s.v 2=D.bool false
 | .inr q=>ex= .exit 2∧s.v 1=D.box [D.sl 79 (AQ (fun x=>D.sl 87 (Au .i64 .i64 x)) AA),D.sl 3 (AQ (D.int .i64) Ac),D.sl 3 (AQ (D.int .i64) AC)]∧s.v 31=D.sl 79 (AQ (fun x=>D.sl 87 (Au .i64 .i64 x)) AA)∧s.v 32=D.int .i64 (AA.length:Int)∧s.v 33=D.int .i64 Fy
theorem WG(AA:List (List (Int×Int)))(Ac:AB)(AC:AB)(Fy:Int){v:Int}{s:St}{r:Unit⊕Unit}(h:Kb AA Ac AC Fy v=some r)(hM:EG AA Ac AC Fy v s):Br Y.env A2B (Er AA Ac AC Fy r) s:=by
 unfold Kb at h;refine BH (c:=mM) (fun v=>Fx AA Ac AC Fy v) (fun v s=>EG AA Ac AC Fy v s) (Er AA Ac AC Fy) ?_ h hM;clear h hM s v r;intro Nu s o hM h;unfold Fx at h;unfold EG at hM;obtain⟨m0,m1,m2,m3,m4,m5,m6,m7⟩:=hM;unfold mM;rcases iS h with⟨e11,h⟩|⟨e11,h⟩
 ·obtain⟨e12,h⟩:=ES h;obtain⟨zt,hl13,h⟩:=Ak h;have c13:=Rm AA Ac AC (BP (AA.getD Fy.toNat default) Nu.toNat) (Ck (AA.getD Fy.toNat default) Nu.toNat) hl13;rcases iS h with⟨e14,h⟩|⟨e14,h⟩
  ·obtain⟨e15,e16,h⟩:=GX h;rcases iS h with⟨e17,h⟩|⟨e17,h⟩
   ·obtain rfl:=Option.some.inj h
    simp (maxDischargeDepth:=9) only [↓AL,AO,↓reduceIte,Nat.reduceEqDiff,Nat.reduceLT,Nat.reduceLeDiff,Nat.reduceAdd,Nat.reduceBEq,m0,m1,m2,m3,m4,m5,m6,m7,e11,e12.1,e12.2,c13,e14,e15.1,e15.2,e16.1,e16.2,e17,EG,En]
   ·have e17f:(((BP (AA.getD ((BP (AA.getD Fy.toNat default) Nu.toNat).toNat) default) ((Ck (AA.getD Fy.toNat default) Nu.toNat).toNat))==Fy)&&((Ck (AA.getD ((BP (AA.getD Fy.toNat default) Nu.toNat).toNat) default) ((Ck (AA.getD Fy.toNat default) Nu.toNat).toNat))==Nu))=false:=Jw.mpr e17
    obtain rfl:=Option.some.inj h
    simp (maxDischargeDepth:=9) only [↓AL,AO,↓reduceIte,Nat.reduceEqDiff,Nat.reduceLT,Nat.reduceLeDiff,Nat.reduceAdd,Nat.reduceBEq,m0,m1,m5,m6,m7,e11,e12.1,e12.2,c13,e14,e15.1,e15.2,e16.1,e16.2,e17f,EG,Er,Qu]
  ·have e14f:zt=false:=Jw.mpr e14
   obtain rfl:=Option.some.inj h
   simp (maxDischargeDepth:=9) only [↓AL,AO,↓reduceIte,Nat.reduceEqDiff,Nat.reduceLT,Nat.reduceAdd,Nat.reduceBEq,m0,m1,m5,m6,m7,e11,e12.1,e12.2,c13,e14f,EG,Er,Qu]
 ·obtain rfl:=Option.some.inj h
  simp (maxDischargeDepth:=9) only [↓AL,AO,↓reduceIte,Nat.reduceEqDiff,Nat.reduceLT,m0,m2,m3,m4,m6,m7,e11,EG,Er,K3]
def EH(AA:List (List (Int×Int)))(Ac:AB)(AC:AB)(Fy:Int)(s:St):Prop:=s.v 1=D.box [D.sl 79 (AQ (fun x=>D.sl 87 (Au .i64 .i64 x)) AA),D.sl 3 (AQ (D.int .i64) Ac),D.sl 3 (AQ (D.int .i64) AC)]∧s.v 31=D.sl 79 (AQ (fun x=>D.sl 87 (Au .i64 .i64 x)) AA)∧s.v 32=D.int .i64 (AA.length:Int)∧s.v 33=D.int .i64 Fy
def Es(AA:List (List (Int×Int)))(Ac:AB)(AC:AB)(r:Unit⊕Unit)(ex:Ex)(s:St):Prop:=match r with
 | .inl q=>ex= .ret∧s.v 2=D.bool false
 | .inr q=>ex= .exit 0
theorem WH(AA:List (List (Int×Int)))(Ac:AB)(AC:AB){v:Int}{s:St}{r:Unit⊕Unit}(h:Kc AA Ac AC v=some r)(hM:EH AA Ac AC v s):Br Y.env A2C (Es AA Ac AC r) s:=by
 unfold Kc at h;refine BH (c:=mO) (fun v=>Fz AA Ac AC v) (fun v s=>EH AA Ac AC v s) (Es AA Ac AC) ?_ h hM;clear h hM s v r;intro Fy s o hM h;unfold Fz at h;unfold EH at hM;obtain⟨m0,m1,m2,m3⟩:=hM;unfold mO;rcases iS h with⟨e8,h⟩|⟨e8,h⟩
 ·obtain⟨e9,h⟩:=ES h;rcases iS h with⟨e10,h⟩|⟨e10,h⟩
  ·obtain rfl:=Option.some.inj h
   simp (maxDischargeDepth:=9) only [↓AL,AO,↓reduceIte,Nat.reduceEqDiff,Nat.reduceLT,m1,m2,m3,e8,e9.1,e9.2,e10,EH,Es,Qu]
  ·obtain⟨Aa,hl12,h⟩:=Ak h;try dsimp only at h
   simp (maxDischargeDepth:=9) only [↓AL,AO,↓reduceIte,Nat.reduceEqDiff,Nat.reduceLT,m1,m2,m3,e8,e9.1,e9.2,e10];refine Aw (WG AA Ac AC Fy hl12 ?_) ?_
   ·simp (maxDischargeDepth:=9) only [BZ,↓reduceIte,Nat.reduceEqDiff,m0,m1,m2,m3,EG]
   ·intro ex12 s12 hX12;rcases Aa with q1000_|q1000_
    ·unfold Er at hX12;dsimp only at hX12 h;obtain⟨rfl,n12_0⟩:=hX12
     obtain rfl:=Option.some.inj h
     simp (maxDischargeDepth:=9) only [↓AL,AO,n12_0,EH,Es,Qu]
    ·unfold Er at hX12;dsimp only at hX12 h;obtain⟨rfl,n12_0,n12_1,n12_2,n12_3⟩:=hX12
     obtain rfl:=Option.some.inj h
     simp (maxDischargeDepth:=9) only [↓AL,AO,↓reduceIte,Nat.reduceEqDiff,Nat.reduceLT,n12_0,n12_1,n12_2,n12_3,EH,En]
 ·obtain rfl:=Option.some.inj h
  simp (maxDischargeDepth:=9) only [↓AL,AO,↓reduceIte,Nat.reduceLT,m2,m3,e8,EH,Es,K3]
theorem XI(AA:List (List (Int×Int)))(Ac:AB)(AC:AB){r:Bool}(h:QP AA Ac AC=some r):Y.call 40 [D.agg [D.sl 79 (AQ (fun x=>D.sl 87 (Au .i64 .i64 x)) AA),D.sl 3 (AQ (D.int .i64) Ac),D.sl 3 (AQ (D.int .i64) AC)]] []=some (D.bool r,[]):=by
 refine c40 ?_ rfl;unfold k40;unfold QP at h;have c1:=KY (AA.length:Int) (1:Int) (40:Int);rcases iS h with⟨e2,h⟩|⟨e2,h⟩
 ·obtain⟨e3,h⟩:=ES h;have c4:=w9 Ac (AA.length:Int) e3;rcases iS h with⟨e5,h⟩|⟨e5,h⟩
  ·obtain⟨XH,hl6,h⟩:=Ak h;have c6:=Yc AC (AA.length:Int) hl6;rcases iS h with⟨e7,h⟩|⟨e7,h⟩
   ·obtain⟨BA,hl9,h⟩:=Ak h;try dsimp only at h
    simp (maxDischargeDepth:=9) only [↓AL,AO,↓reduceIte,Nat.reduceEqDiff,Nat.reduceLT,Nat.reduceAdd,c1,e2,c4,e5,c6,e7];refine Aw (WH AA Ac AC hl9 ?_) ?_
    ·simp (maxDischargeDepth:=9) only [BZ,↓reduceIte,Nat.reduceEqDiff,EH]
    ·intro ex9 s9 hX9;rcases BA with q1001_|q1001_
     ·unfold Es at hX9;dsimp only at hX9 h;obtain⟨rfl,n9_0⟩:=hX9
      obtain rfl:=Option.some.inj h
      simp (maxDischargeDepth:=9) only [↓AL,AO,↓reduceIte,n9_0]
     ·unfold Es at hX9;dsimp only at hX9 h
      obtain rfl:=hX9
      obtain rfl:=Option.some.inj h
      simp (maxDischargeDepth:=9) only [↓AL,AO,↓reduceIte,Nat.reduceEqDiff,Nat.reduceLT]
   ·have e7f:XH=false:=Jw.mpr e7
    obtain rfl:=Option.some.inj h
    simp (maxDischargeDepth:=9) only [↓AL,AO,↓reduceIte,Nat.reduceEqDiff,Nat.reduceLT,Nat.reduceAdd,c1,e2,c4,e5,c6,e7f]
  ·have e5f:(XG Ac (AA.length:Int))=false:=Jw.mpr e5
   obtain rfl:=Option.some.inj h
   simp (maxDischargeDepth:=9) only [↓AL,AO,↓reduceIte,Nat.reduceEqDiff,Nat.reduceLT,Nat.reduceAdd,c1,e2,c4,e5f]
 ·have e2f:(La (AA.length:Int) (1:Int) (40:Int))=false:=Jw.mpr e2
  obtain rfl:=Option.some.inj h
  simp (maxDischargeDepth:=9) only [↓AL,AO,↓reduceIte,Nat.reduceEqDiff,Nat.reduceLT,Nat.reduceAdd,c1,e2f]
noncomputable def Je(AA:List (List (Int×Int)))(Ac:AB)(AC:AB)(FB:Int)(Gy:Int):Option ((Int)⊕(Unit⊕Unit)):= if Gy<((AA.getD FB.toNat default).length:Int)then ck (0≤Gy∧Gy.toNat<(AA.getD FB.toNat default).length)<| if(La (BP (AA.getD FB.toNat default) Gy.toNat) (0:Int) (IntKind.i64.wrap ((AA.length:Int)-1)))=true then ck (0≤(BP (AA.getD FB.toNat default) Gy.toNat)∧(BP (AA.getD FB.toNat default) Gy.toNat).toNat<AA.length)<| if(La (Ck (AA.getD FB.toNat default) Gy.toNat) (0:Int) (IntKind.i64.wrap (((AA.getD ((BP (AA.getD FB.toNat default) Gy.toNat).toNat) default).length:Int)-1)))=true then ck (0≤(Ck (AA.getD FB.toNat default) Gy.toNat)∧(Ck (AA.getD FB.toNat default) Gy.toNat).toNat<(AA.getD ((BP (AA.getD FB.toNat default) Gy.toNat).toNat) default).length)<| if(((BP (AA.getD ((BP (AA.getD FB.toNat default) Gy.toNat).toNat) default) ((Ck (AA.getD FB.toNat default) Gy.toNat).toNat))==FB)&&((Ck (AA.getD ((BP (AA.getD FB.toNat default) Gy.toNat).toNat) default) ((Ck (AA.getD FB.toNat default) Gy.toNat).toNat))==Gy))=true then some (Sum.inl (IntKind.i64.wrap (Gy+1))) else some (Sum.inr (Sum.inl ())) else some (Sum.inr (Sum.inl ())) else some (Sum.inr (Sum.inl ())) else some (Sum.inr (Sum.inr ()))
noncomputable def Nw(AA:List (List (Int×Int)))(Ac:AB)(AC:AB)(FB:Int)(v:Int):Option (Unit⊕Unit):=Fb (fun v=>Je AA Ac AC FB v) v
noncomputable def Jf(AA:List (List (Int×Int)))(Ac:AB)(AC:AB)(FB:Int):Option ((Int)⊕(Unit⊕Unit)):=
 if FB<(AA.length:Int)then
  ck (0≤FB∧FB.toNat<AA.length)<|
  if 6<((AA.getD FB.toNat default).length:Int)then
   some (Sum.inr (Sum.inl ()))
  else
   (Nw AA Ac AC FB 0).bind fun Aa=>
   match Aa with
   | .inl q1000_=>
    some (Sum.inr (Sum.inl ()))
   | .inr q1000_=>
    some (Sum.inl (IntKind.i64.wrap (FB+1)))
 else
  some (Sum.inr (Sum.inr ()))
noncomputable def Ny(AA:List (List (Int×Int)))(Ac:AB)(AC:AB)(v:Int):Option (Unit⊕Unit):=Fb (fun v=>Jf AA Ac AC v) v
noncomputable def WI(AA:List (List (Int×Int)))(Ac:AB)(AC:AB):Option (Bool):=
 if(La (AA.length:Int) (1:Int) (40:Int))=true then
  ck (Ac.length<1099511627776)<|
  if(XG Ac (AA.length:Int))=true then
   if(AC.length:Int)=(AA.length:Int)then
    ck (AC.length<1099511627776)<|
    if(GG AC (0:Int) (9:Int))=true then
     (Ny AA Ac AC 0).bind fun BA=>
     match BA with
     | .inl q1001_=>
      some false
     | .inr q1001_=>
      some true
    else
     some false
   else
    some false
  else
   some false
 else
  some false
abbrev JG:List Nat:=[54,55,56,57,58,59,60,61,62,63,64,65,66,67,68,69,70,71,72,73,74,75,76,77,78,79,80,81,82,83,84,85,86,87,88,89,87,88,90,91]
def mP:SC:= .seq (.ops [oB 50 .lss 3 (tK 49) (tK 48) 3 0]) (.seq (.cond (tK 50) .skip (.exit 2)) (.seq (.block 3 (.seq (.ops [oM 51 49 3,oI 52 79 47 49,oL 53 87 52 87,oX 6 (.alloc 87) 0,oA 5 51 3,oS 87 6 53]) (.seq (.draws [(⟨[54,6,6],JG,[54]⟩,oF 54 87 6 0),(⟨[55,54,6],JG,[55]⟩,oL 55 3 54 3),(⟨[56,1,1],JG,[56]⟩,oF 56 38 1 0),(⟨[57,56,1],JG,[57]⟩,oL 57 36 56 36),(⟨[58,57,1],JG,[58]⟩,oN 58 57 36),(⟨[59,58,58],JG,[59]⟩,oB 59 .sub 3 (tK 58) (iK 1) 3 3),(⟨[60,55,59,6,59],JG,[60]⟩,oC 60 82 [(tK 55),(iK 0),(tK 59)] [3,3,3] 4),(⟨[61,60,60],JG,[61]⟩,oX 61 (.unOp .not 4 (tK 60)) 4),(⟨[62,61,61],JG,[62]⟩,oM 62 61 4),(⟨[63,6,6,62],JG,[63]⟩,⟨(some 63),(.fieldAddr 87 (tK 6) 1),0,(some (some 62,false))⟩),(⟨[64,63,6,62],JG,[64]⟩,⟨(some 64),(.load 3 (tK 63)),3,(some (some 62,false))⟩),(⟨[65,1,1,62],JG,[65]⟩,⟨(some 65),vI,0,(some (some 62,false))⟩),(⟨[66,65,1,62],JG,[66]⟩,⟨(some 66),(.load 36 (tK 65)),36,(some (some 62,false))⟩),(⟨[67,6,6,62],JG,[67]⟩,⟨(some 67),(.fieldAddr 87 (tK 6) 0),0,(some (some 62,false))⟩),(⟨[68,67,6,62],JG,[68]⟩,⟨(some 68),(.load 3 (tK 67)),3,(some (some 62,false))⟩),(⟨[69,66,68,1,6,62],JG,[69]⟩,⟨(some 69),(.indexAddr 36 (tK 66) (tK 68)),0,(some (some 62,false))⟩),
 (⟨[70,69,1,62],JG,[70]⟩,⟨(some 70),(.load 79 (tK 69)),79,(some (some 62,false))⟩),(⟨[71,70,1,62],JG,[71]⟩,⟨(some 71),(.call ⟨(.builtin .len), #[(tK 70)], #[79]⟩),3,(some (some 62,false))⟩),(⟨[72,71,71,62],JG,[72]⟩,⟨(some 72),(.binOp .sub 3 (tK 71) (iK 1) 3),3,(some (some 62,false))⟩),(⟨[73,64,72,6,72,62],JG,[73]⟩,⟨(some 73),(.call ⟨(.value (.func 82)), #[(tK 64),(iK 0),(tK 72)], #[3,3,3]⟩),4,(some (some 62,false))⟩),(⟨[74,73,73,62],JG,[74]⟩,⟨(some 74),(.unOp .not 4 (tK 73)),4,(some (some 62,false))⟩),(⟨[75,62,74,61,74],JG,[75]⟩,oX 75 (.pick (tK 62) F7 (tK 74)) 4),(⟨[76,75,75],JG,[76]⟩,oM 76 75 4),(⟨[77,1,1,76],JG,[77]⟩,⟨(some 77),vI,0,(some (some 76,false))⟩),(⟨[78,77,1,76],JG,[78]⟩,⟨(some 78),(.load 36 (tK 77)),36,(some (some 76,false))⟩),(⟨[79,6,6,76],JG,[79]⟩,⟨(some 79),(.fieldAddr 87 (tK 6) 0),0,(some (some 76,false))⟩),(⟨[80,79,6,76],JG,[80]⟩,⟨(some 80),(.load 3 (tK 79)),3,(some (some 76,false))⟩),(⟨[81,78,80,1,6,76],JG,[81]⟩,⟨(some 81),(.indexAddr 36 (tK 78) (tK 80)),0,(some (some 76,false))⟩),(⟨[82,81,1,76],JG,[82]⟩,⟨(some 82),(.load 79 (tK 81)),79,(some (some 76,false))⟩),(⟨[83,6,6,76],JG,[83]⟩,⟨(some 83),(.fieldAddr 87 (tK 6) 1),0,(some (some 76,false))⟩),(⟨[84,83,6,76],JG,[84]⟩,⟨(some 84),(.load 3 (tK 83)),3,(some (some 76,false))⟩),
 (⟨[85,82,84,1,6,76],JG,[85]⟩,⟨(some 85),(.indexAddr 79 (tK 82) (tK 84)),0,(some (some 76,false))⟩),(⟨[86,85,1,76],JG,[86]⟩,⟨(some 86),(.load 87 (tK 85)),87,(some (some 76,false))⟩),(⟨[87,3,3,76],JG,[87]⟩,⟨(some 87),(.move (tK 3)),3,(some (some 76,false))⟩),(⟨[88,5,5,76],JG,[88]⟩,⟨(some 88),(.move (tK 5)),3,(some (some 76,false))⟩),(⟨[89,87,88,3,5,76],JG,[89,87,88]⟩,⟨(some 89),(.build 87 #[(0,(tK 87)),(1,(tK 88))]),87,(some (some 76,false))⟩),(⟨[90,86,89,1,89,76],JG,[90]⟩,⟨(some 90),(.binOp .neq 87 (tK 86) (tK 89) 87),4,(some (some 76,false))⟩),(⟨[91,76,90,75,90],JG,[91]⟩,oX 91 (.pick (tK 76) F7 (tK 90)) 4)]) (.cond (tK 91) (.seq (.ops [oX 2 CY 4]) .ret) .skip)))) (.ops [oB 92 .add 3 (tK 49) (iK 1) 3 3,oM 49 92 3])))
def A2D:SC:= .loop mP
def mQ:SC:= .seq (.ops [oB 40 .lss 3 (tK 39) (tK 38) 3 0]) (.seq (.cond (tK 40) .skip (.exit 0)) (.seq (.block 1 (.seq (.ops [oM 41 39 3,oI 42 36 37 39,oL 43 79 42 79,oA 3 41 3,oA 4 43 79]) (.seq (.seq (.ops [oM 44 4 79,oN 45 44 79,oB 46 .gtr 3 (tK 45) (iK 6) 3 4]) (.cond (tK 46) (.seq (.ops [oX 2 CY 4]) .ret) .skip)) (.seq (.ops [oM 47 4 79,oN 48 47 79,oX 49 (.move (iK 0)) 3]) (.block 2 A2D))))) (.ops [oB 93 .add 3 (tK 39) (iK 1) 3 3,oM 39 93 3])))
def A2E:SC:= .loop mQ
def k58:SC:= .seq (.ops [oX 1 (.box 38 (tK 0)) 0,oX 2 CY 4]) (.seq (.seq (.ops [oF 7 38 1 0,oL 8 36 7 36,oN 9 8 36,oC 10 82 [(tK 9),(iK 1),(iK 40)] [3,3,3] 4,oX 11 (.unOp .not 4 (tK 10)) 4,oM 12 11 4,⟨(some 13),(.fieldAddr 38 (tK 1) 1),0,(some (some 12,false))⟩,⟨(some 14),(.load 26 (tK 13)),26,(some (some 12,false))⟩,⟨(some 15),vI,0,(some (some 12,false))⟩,⟨(some 16),(.load 36 (tK 15)),36,(some (some 12,false))⟩,⟨(some 17),(.call ⟨(.builtin .len), #[(tK 16)], #[36]⟩),3,(some (some 12,false))⟩,⟨(some 18),(.call ⟨(.value (.func 91)), #[(tK 14),(tK 17)], #[26,3]⟩),4,(some (some 12,false))⟩,⟨(some 19),(.unOp .not 4 (tK 18)),4,(some (some 12,false))⟩,oX 20 (.pick (tK 12) F7 (tK 19)) 4,oM 21 20 4,⟨(some 22),(.fieldAddr 38 (tK 1) 2),0,(some (some 21,false))⟩,⟨(some 23),(.load 26 (tK 22)),26,(some (some 21,false))⟩,⟨(some 24),(.call ⟨(.builtin .len), #[(tK 23)], #[26]⟩),3,(some (some 21,false))⟩,⟨(some 25),vI,0,(some (some 21,false))⟩,⟨(some 26),(.load 36 (tK 25)),36,(some (some 21,false))⟩,⟨(some 27),(.call ⟨(.builtin .len), #[(tK 26)], #[36]⟩),3,(some (some 21,false))⟩,⟨(some 28),(.binOp .neq 3 (tK 24) (tK 27) 3),4,(some (some 21,false))⟩,oX 29 (.pick (tK 21) F7 (tK 28)) 4,
 oM 30 29 4,⟨(some 31),(.fieldAddr 38 (tK 1) 2),0,(some (some 30,false))⟩,⟨(some 32),(.load 26 (tK 31)),26,(some (some 30,false))⟩,⟨(some 33),(.call ⟨(.value (.func 59)), #[(tK 32),(iK 0),(iK 9)], #[26,3,3]⟩),4,(some (some 30,false))⟩,⟨(some 34),(.unOp .not 4 (tK 33)),4,(some (some 30,false))⟩,oX 35 (.pick (tK 30) F7 (tK 34)) 4]) (.cond (tK 35) (.seq (.ops [oX 2 CY 4]) .ret) .skip)) (.seq (.seq (.ops [oF 36 38 1 0,oL 37 36 36 36,oN 38 37 36,oX 39 (.move (iK 0)) 3]) (.block 0 A2E)) (.seq (.ops [oX 2 (.assign F7) 4]) .ret)))
theorem AAc:Tryz.f58.body.map (BX lends)=some k58:=by kernel_rfl
theorem ANx:Bj Tryz.f58 1=true:=by kernel_rfl
theorem c58{a l:List D}{r:D×List D}(h:Br Y.env k58 (fin Ap l.length [ResultVar.tmp 2] r) (entry a l))(ha:a.length=1):Y.call 58 a l=some r:=
 AZ (Y:=Y) rfl Tryz.func58 (ha▸ANx) AAc h
def Ev(AA:List (List (Int×Int)))(Ac:AB)(AC:AB)(FB:Int)(Gy:Int)(s:St):Prop:=s.v 1=D.box [D.sl 79 (AQ (fun x=>D.sl 87 (Au .i64 .i64 x)) AA),D.sl 3 (AQ (D.int .i64) Ac),D.sl 3 (AQ (D.int .i64) AC)]∧s.v 3=D.int .i64 FB∧s.v 37=D.sl 79 (AQ (fun x=>D.sl 87 (Au .i64 .i64 x)) AA)∧s.v 38=D.int .i64 (AA.length:Int)∧s.v 39=D.int .i64 FB∧s.v 47=D.sl 87 (Au .i64 .i64 (AA.getD FB.toNat default))∧s.v 48=D.int .i64 ((AA.getD FB.toNat default).length:Int)∧s.v 49=D.int .i64 Gy
def Fq(AA:List (List (Int×Int)))(Ac:AB)(AC:AB)(FB:Int)(r:Unit⊕Unit)(ex:Ex)(s:St):Prop:=match r with
 | .inl q=>ex= .ret∧s.v 2=D.bool false
 | .inr q=>ex= .exit 2∧s.v 1=D.box [D.sl 79 (AQ (fun x=>D.sl 87 (Au .i64 .i64 x)) AA),D.sl 3 (AQ (D.int .i64) Ac),D.sl 3 (AQ (D.int .i64) AC)]∧s.v 37=D.sl 79 (AQ (fun x=>D.sl 87 (Au .i64 .i64 x)) AA)∧s.v 38=D.int .i64 (AA.length:Int)∧s.v 39=D.int .i64 FB
theorem bP(AA:List (List (Int×Int)))(Ac:AB)(AC:AB)(FB:Int){v:Int}{s:St}{r:Unit⊕Unit}(h:Nw AA Ac AC FB v=some r)(hM:Ev AA Ac AC FB v s):Br Y.env A2D (Fq AA Ac AC FB r) s:=by
 unfold Nw at h;refine BH (c:=mP) (fun v=>Je AA Ac AC FB v) (fun v s=>Ev AA Ac AC FB v s) (Fq AA Ac AC FB) ?_ h hM;clear h hM s v r;intro Gy s o hM h;unfold Je at h;unfold Ev at hM;obtain⟨m0,m1,m2,m3,m4,m5,m6,m7⟩:=hM;unfold mP;rcases iS h with⟨e13,h⟩|⟨e13,h⟩
 ·obtain⟨e14,h⟩:=ES h;have vJ:=MG (BP (AA.getD FB.toNat default) Gy.toNat) (0:Int) (IntKind.i64.wrap ((AA.length:Int)-1));rcases iS h with⟨e16,h⟩|⟨e16,h⟩
  ·obtain⟨e17,h⟩:=ES h;have jM:=MG (Ck (AA.getD FB.toNat default) Gy.toNat) (0:Int) (IntKind.i64.wrap (((AA.getD ((BP (AA.getD FB.toNat default) Gy.toNat).toNat) default).length:Int)-1));rcases iS h with⟨e19,h⟩|⟨e19,h⟩
   ·obtain⟨e20,h⟩:=ES h;rcases iS h with⟨e21,h⟩|⟨e21,h⟩
    ·obtain rfl:=Option.some.inj h
     simp (maxDischargeDepth:=9) only [↓AL,AO,↓reduceIte,Nat.reduceEqDiff,Nat.reduceLT,Nat.reduceLeDiff,Nat.reduceAdd,Nat.reduceBEq,m0,m1,m2,m3,m4,m5,m6,m7,e13,e14.1,e14.2,vJ,e16,e17.1,e17.2,jM,e19,e20.1,e20.2,e21,Ev,En]
    ·have e21f:(((BP (AA.getD ((BP (AA.getD FB.toNat default) Gy.toNat).toNat) default) ((Ck (AA.getD FB.toNat default) Gy.toNat).toNat))==FB)&&((Ck (AA.getD ((BP (AA.getD FB.toNat default) Gy.toNat).toNat) default) ((Ck (AA.getD FB.toNat default) Gy.toNat).toNat))==Gy))=false:=Jw.mpr e21
     obtain rfl:=Option.some.inj h
     simp (maxDischargeDepth:=9) only [↓AL,AO,↓reduceIte,Nat.reduceEqDiff,Nat.reduceLT,Nat.reduceLeDiff,Nat.reduceAdd,Nat.reduceBEq,m0,m1,m5,m6,m7,e13,e14.1,e14.2,vJ,e16,e17.1,e17.2,jM,e19,e20.1,e20.2,e21f,Ev,Fq,Qu]
   ·have e19f:(La (Ck (AA.getD FB.toNat default) Gy.toNat) (0:Int) (IntKind.i64.wrap (((AA.getD ((BP (AA.getD FB.toNat default) Gy.toNat).toNat) default).length:Int)-1)))=false:=Jw.mpr e19
    obtain rfl:=Option.some.inj h
    simp (maxDischargeDepth:=9) only [↓AL,AO,↓reduceIte,Nat.reduceEqDiff,Nat.reduceLT,Nat.reduceAdd,Nat.reduceBEq,m0,m1,m5,m6,m7,e13,e14.1,e14.2,vJ,e16,e17.1,e17.2,jM,e19f,Ev,Fq,Qu]
  ·have e16f:(La (BP (AA.getD FB.toNat default) Gy.toNat) (0:Int) (IntKind.i64.wrap ((AA.length:Int)-1)))=false:=Jw.mpr e16
   obtain rfl:=Option.some.inj h
   simp (maxDischargeDepth:=9) only [↓AL,AO,↓reduceIte,Nat.reduceEqDiff,Nat.reduceLT,Nat.reduceAdd,Nat.reduceBEq,m0,m1,m5,m6,m7,e13,e14.1,e14.2,vJ,e16f,Ev,Fq,Qu]
 ·obtain rfl:=Option.some.inj h
  simp (maxDischargeDepth:=9) only [↓AL,AO,↓reduceIte,Nat.reduceEqDiff,Nat.reduceLT,m0,m2,m3,m4,m6,m7,e13,Ev,Fq,K3]
def Fv(AA:List (List (Int×Int)))(Ac:AB)(AC:AB)(FB:Int)(s:St):Prop:=s.v 1=D.box [D.sl 79 (AQ (fun x=>D.sl 87 (Au .i64 .i64 x)) AA),D.sl 3 (AQ (D.int .i64) Ac),D.sl 3 (AQ (D.int .i64) AC)]∧s.v 37=D.sl 79 (AQ (fun x=>D.sl 87 (Au .i64 .i64 x)) AA)∧s.v 38=D.int .i64 (AA.length:Int)∧s.v 39=D.int .i64 FB
def Hf(AA:List (List (Int×Int)))(Ac:AB)(AC:AB)(r:Unit⊕Unit)(ex:Ex)(s:St):Prop:=match r with
 | .inl q=>ex= .ret∧s.v 2=D.bool false
 | .inr q=>ex= .exit 0
theorem bQ(AA:List (List (Int×Int)))(Ac:AB)(AC:AB){v:Int}{s:St}{r:Unit⊕Unit}(h:Ny AA Ac AC v=some r)(hM:Fv AA Ac AC v s):Br Y.env A2E (Hf AA Ac AC r) s:=by
 unfold Ny at h;refine BH (c:=mQ) (fun v=>Jf AA Ac AC v) (fun v s=>Fv AA Ac AC v s) (Hf AA Ac AC) ?_ h hM;clear h hM s v r;intro FB s o hM h;unfold Jf at h;unfold Fv at hM;obtain⟨m0,m1,m2,m3⟩:=hM;unfold mQ;rcases iS h with⟨e10,h⟩|⟨e10,h⟩
 ·obtain⟨e11,h⟩:=ES h;rcases iS h with⟨e12,h⟩|⟨e12,h⟩
  ·obtain rfl:=Option.some.inj h
   simp (maxDischargeDepth:=9) only [↓AL,AO,↓reduceIte,Nat.reduceEqDiff,Nat.reduceLT,m1,m2,m3,e10,e11.1,e11.2,e12,Fv,Hf,Qu]
  ·obtain⟨Aa,hl14,h⟩:=Ak h;try dsimp only at h
   simp (maxDischargeDepth:=9) only [↓AL,AO,↓reduceIte,Nat.reduceEqDiff,Nat.reduceLT,m1,m2,m3,e10,e11.1,e11.2,e12];refine Aw (bP AA Ac AC FB hl14 ?_) ?_
   ·simp (maxDischargeDepth:=9) only [BZ,↓reduceIte,Nat.reduceEqDiff,m0,m1,m2,m3,Ev]
   ·intro ex14 s14 hX14;rcases Aa with q1000_|q1000_
    ·unfold Fq at hX14;dsimp only at hX14 h;obtain⟨rfl,n14_0⟩:=hX14
     obtain rfl:=Option.some.inj h
     simp (maxDischargeDepth:=9) only [↓AL,AO,n14_0,Fv,Hf,Qu]
    ·unfold Fq at hX14;dsimp only at hX14 h;obtain⟨rfl,n14_0,n14_1,n14_2,n14_3⟩:=hX14
     obtain rfl:=Option.some.inj h
     simp (maxDischargeDepth:=9) only [↓AL,AO,↓reduceIte,Nat.reduceEqDiff,Nat.reduceLT,n14_0,n14_1,n14_2,n14_3,Fv,En]
 ·obtain rfl:=Option.some.inj h
  simp (maxDischargeDepth:=9) only [↓AL,AO,↓reduceIte,Nat.reduceLT,m2,m3,e10,Fv,Hf,K3]
theorem gZ(AA:List (List (Int×Int)))(Ac:AB)(AC:AB){r:Bool}(h:WI AA Ac AC=some r):Y.call 58 [D.agg [D.sl 79 (AQ (fun x=>D.sl 87 (Au .i64 .i64 x)) AA),D.sl 3 (AQ (D.int .i64) Ac),D.sl 3 (AQ (D.int .i64) AC)]] []=some (D.bool r,[]):=by
 refine c58 ?_ rfl;unfold k58;unfold WI at h;have c1:=MG (AA.length:Int) (1:Int) (40:Int);rcases iS h with⟨e2,h⟩|⟨e2,h⟩
 ·obtain⟨e3,h⟩:=ES h;have c4:=wB Ac (AA.length:Int) e3;rcases iS h with⟨e5,h⟩|⟨e5,h⟩
  ·rcases iS h with⟨e6,h⟩|⟨e6,h⟩
   ·obtain⟨e7,h⟩:=ES h;have c8:=aZ AC (0:Int) (9:Int) e7;rcases iS h with⟨e9,h⟩|⟨e9,h⟩
    ·obtain⟨BA,hl11,h⟩:=Ak h;try dsimp only at h
     simp (maxDischargeDepth:=9) only [↓AL,AO,↓reduceIte,Nat.reduceEqDiff,Nat.reduceLT,Nat.reduceAdd,c1,e2,c4,e5,decide_eq_true e6,c8,e9];refine Aw (bQ AA Ac AC hl11 ?_) ?_
     ·simp (maxDischargeDepth:=9) only [BZ,↓reduceIte,Nat.reduceEqDiff,Fv]
     ·intro ex11 s11 hX11;rcases BA with q1001_|q1001_
      ·unfold Hf at hX11;dsimp only at hX11 h;obtain⟨rfl,n11_0⟩:=hX11
       obtain rfl:=Option.some.inj h
       simp (maxDischargeDepth:=9) only [↓AL,AO,↓reduceIte,n11_0]
      ·unfold Hf at hX11;dsimp only at hX11 h
       obtain rfl:=hX11
       obtain rfl:=Option.some.inj h
       simp (maxDischargeDepth:=9) only [↓AL,AO,↓reduceIte,Nat.reduceEqDiff,Nat.reduceLT]
    ·have e9f:(GG AC (0:Int) (9:Int))=false:=Jw.mpr e9
     obtain rfl:=Option.some.inj h
     simp (maxDischargeDepth:=9) only [↓AL,AO,↓reduceIte,Nat.reduceEqDiff,Nat.reduceLT,Nat.reduceAdd,c1,e2,c4,e5,decide_eq_true e6,c8,e9f]
   ·obtain rfl:=Option.some.inj h
    simp (maxDischargeDepth:=9) only [↓AL,AO,↓reduceIte,Nat.reduceEqDiff,Nat.reduceLT,Nat.reduceAdd,c1,e2,c4,e5,e6]
  ·have e5f:(XG Ac (AA.length:Int))=false:=Jw.mpr e5
   obtain rfl:=Option.some.inj h
   simp (maxDischargeDepth:=9) only [↓AL,AO,↓reduceIte,Nat.reduceEqDiff,Nat.reduceLT,Nat.reduceAdd,c1,e2,c4,e5f]
 ·have e2f:(La (AA.length:Int) (1:Int) (40:Int))=false:=Jw.mpr e2
  obtain rfl:=Option.some.inj h
  simp (maxDischargeDepth:=9) only [↓AL,AO,↓reduceIte,Nat.reduceEqDiff,Nat.reduceLT,Nat.reduceAdd,c1,e2f]
def UZ(es:List (List (Int×Int)))(v i:Nat):Bool:=
 La (BP (es.getD v default) i) 0 ((es.length:Int)-1)&&
 (La (Ck (es.getD v default) i) 0 (((es.getD (BP (es.getD v default) i).toNat default).length:Int)-1)&&
 ((BP (es.getD (BP (es.getD v default) i).toNat default) (Ck (es.getD v default) i).toNat==(v:Int))&&(Ck (es.getD (BP (es.getD v default) i).toNat default) (Ck (es.getD v default) i).toNat==(i:Int))))
theorem UB(es:List (List (Int×Int)))(v i:Nat):UZ es v i=(La (BP (es.getD v default) i) 0 ((es.length:Int)-1)&&
 (La (Ck (es.getD v default) i) 0 (((es.getD (BP (es.getD v default) i).toNat default).length:Int)-1)&&
 ((BP (es.getD (BP (es.getD v default) i).toNat default) (Ck (es.getD v default) i).toNat==(v:Int))&&(Ck (es.getD (BP (es.getD v default) i).toNat default) (Ck (es.getD v default) i).toNat==(i:Int))))):=rfl
def WJ(es:List (List (Int×Int)))(v:Nat):Bool:=decide ((es.getD v default).length≤6)&&(List.range (es.getD v default).length).all (UZ es v)
theorem PH(es:List (List (Int×Int)))(v:Nat):WJ es v=(decide ((es.getD v default).length≤6)&&(List.range (es.getD v default).length).all (UZ es v)):=rfl
def FX(es:List (List (Int×Int)))(ids ins:AB):Bool:=
 La es.length 1 40&&(XG ids es.length&&(decide ((ins.length:Int)=es.length)&&(GG ins 0 9&&(List.range es.length).all (WJ es))))
theorem A2F(es:List (List (Int×Int)))(ids ins:AB)(h:EX es)(v:Nat):Kb es ids ins (v:Int) 0=some (if(List.range (es.getD v default).length).all (UZ es v)=true then .inr ()else .inl ()):=by
 have h1:=h.1;have h2:=h.getD v;unfold Kb;refine Fe (fun x=>Fx es ids ins (v:Int) x) (fun i=>(i:Int)) (es.getD v default).length (UZ es v) (.inl ()) (.inr ()) ?_ ?_
 ·intro i hi;have h3:=h.getD (BP (es.getD v default) i).toNat;simp only [Fx,KE,KD,EC];rw [UB,if_pos (CL hi),BL (by omega),Cz,I7 _ (by omega),I7 _ (by omega),K4 i (by omega)]
  cases r1:La (BP (es.getD v default) i) 0 ((es.length:Int)-1)with
  |false=>simp
  |true=>
   have r1':=Fg.1 r1;rw [if_pos rfl,BL (by omega),Cz]
   cases r2:La (Ck (es.getD v default) i) 0 (((es.getD (BP (es.getD v default) i).toNat default).length:Int)-1)with
   |false=>simp
   |true=>
    have r2':=Fg.1 r2;rw [if_pos rfl,BL (by omega),BL (by omega),fF,fF]
 ·simp only [Fx,EC];rw [if_neg (Az _)]
theorem A2G(es:List (List (Int×Int)))(ids ins:AB)(h:EX es)(v:Nat):Nw es ids ins (v:Int) 0=some (if(List.range (es.getD v default).length).all (UZ es v)=true then .inr ()else .inl ()):=by
 have h1:=h.1;have h2:=h.getD v;unfold Nw;refine Fe (fun x=>Je es ids ins (v:Int) x) (fun i=>(i:Int)) (es.getD v default).length (UZ es v) (.inl ()) (.inr ()) ?_ ?_
 ·intro i hi;have h3:=h.getD (BP (es.getD v default) i).toNat;simp only [Je,EC];rw [UB,if_pos (CL hi),BL (by omega),I7 _ (by omega),I7 _ (by omega),K4 i (by omega)]
  cases r1:La (BP (es.getD v default) i) 0 ((es.length:Int)-1)with
  |false=>simp
  |true=>
   have r1':=Fg.1 r1;rw [if_pos rfl,BL (by omega)]
   cases r2:La (Ck (es.getD v default) i) 0 (((es.getD (BP (es.getD v default) i).toNat default).length:Int)-1)with
   |false=>simp
   |true=>
    have r2':=Fg.1 r2;rw [if_pos rfl,BL (by omega),fF,fF]
 ·simp only [Je,EC];rw [if_neg (Az _)]
theorem A2H(es:List (List (Int×Int)))(ids ins:AB)(h:EX es):Kc es ids ins 0=some (if(List.range es.length).all (WJ es)=true then .inr ()else .inl ()):=by
 have h1:=h.1;unfold Kc;refine Fe (fun x=>Fz es ids ins x) (fun i=>(i:Int)) es.length (WJ es) (.inl ()) (.inr ()) ?_ ?_
 ·intro v hv;simp only [Fz,EC];rw [PH,if_pos (CL hv),BL (by omega),A2F es ids ins h v,Cz,K4 v (by omega)]
  by_cases h6:(es.getD v default).length≤6
  ·rw [if_neg (by omega),decide_eq_true h6,fF]
   cases (List.range (es.getD v default).length).all (UZ es v)<;>rfl
  ·rw [if_pos (by omega),decide_eq_false h6];rfl
 ·simp only [Fz];rw [if_neg (Az _)]
theorem A2I(es:List (List (Int×Int)))(ids ins:AB)(h:EX es):Ny es ids ins 0=some (if(List.range es.length).all (WJ es)=true then .inr ()else .inl ()):=by
 have h1:=h.1;unfold Ny;refine Fe (fun x=>Jf es ids ins x) (fun i=>(i:Int)) es.length (WJ es) (.inl ()) (.inr ()) ?_ ?_
 ·intro v hv;simp only [Jf,EC];rw [PH,if_pos (CL hv),BL (by omega),A2G es ids ins h v,Cz,K4 v (by omega)]
  by_cases h6:(es.getD v default).length≤6
  ·rw [if_neg (by omega),decide_eq_true h6,fF]
   cases (List.range (es.getD v default).length).all (UZ es v)<;>rfl
  ·rw [if_pos (by omega),decide_eq_false h6];rfl
 ·simp only [Jf];rw [if_neg (Az _)]
theorem bR(es:List (List (Int×Int)))(ids ins:AB)(h:EX es)(h2:ids.length<1099511627776)(h3:ins.length<1099511627776):QP es ids ins=some (FX es ids ins):=by
 unfold QP FX;rw [BL h2,A2H es ids ins h];unfold Rk;rw [BL h3]
 cases La es.length 1 40 with
 |false=>rfl
 |true=>
  cases XG ids es.length with
  |false=>rfl
  |true=>
   by_cases hl:(ins.length:Int)=es.length
   ·rw [if_pos hl,decide_eq_true hl]
    cases GG ins 0 9 with
    |false=>rfl
    |true=>cases (List.range es.length).all (WJ es)<;>rfl
   ·rw [if_neg hl,decide_eq_false hl];rfl
theorem rR(es:List (List (Int×Int)))(ids ins:AB)(h:EX es)(h2:ids.length<1099511627776)(h3:ins.length<1099511627776):WI es ids ins=some (FX es ids ins):=by
 unfold WI FX;rw [BL h2,BL h3,A2I es ids ins h]
 cases La es.length 1 40 with
 |false=>rfl
 |true=>
  cases XG ids es.length with
  |false=>rfl
  |true=>
   by_cases hl:(ins.length:Int)=es.length
   ·rw [if_pos hl,decide_eq_true hl]
    cases GG ins 0 9 with
    |false=>rfl
    |true=>cases (List.range es.length).all (WJ es)<;>rfl
   ·rw [if_neg hl,decide_eq_false hl];rfl
theorem bS(AA:List (List (Int×Int)))(Ac:AB)(AC:AB)(h0:EX AA)(h1:Ac.length<1099511627776)(h2:AC.length<1099511627776):Y.call 40 [D.agg [D.sl 79 (AQ (fun x=>D.sl 87 (Au .i64 .i64 x)) AA),D.sl 3 (AQ (D.int .i64) Ac),D.sl 3 (AQ (D.int .i64) AC)]] []=some (D.bool (FX AA Ac AC),[]):=XI AA Ac AC (bR AA Ac AC h0 h1 h2)
theorem rT(AA:List (List (Int×Int)))(Ac:AB)(AC:AB)(h0:EX AA)(h1:Ac.length<1099511627776)(h2:AC.length<1099511627776):Y.call 58 [D.agg [D.sl 79 (AQ (fun x=>D.sl 87 (Au .i64 .i64 x)) AA),D.sl 3 (AQ (D.int .i64) Ac),D.sl 3 (AQ (D.int .i64) AC)]] []=some (D.bool (FX AA Ac AC),[]):=gZ AA Ac AC (rR AA Ac AC h0 h1 h2)
end Go.Proofs.YtiehjihckndgkaaGreat
