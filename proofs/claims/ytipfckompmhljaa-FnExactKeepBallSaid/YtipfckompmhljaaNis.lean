/- When lists are a network, as plain functions. Conditions: the lists are short. -/
import Derived.Test.YtipfckompmhljaaL6
import Derived.Test.YtipfckompmhljaaNet
namespace Go.Proofs.Ytipfckompmhljaa
open Go Dv
set_option linter.unusedSimpArgs false
set_option linter.unusedVariables false
set_option maxRecDepth 100000
set_option maxHeartbeats 4000000
noncomputable def DT(list:List Int)(low:Int)(high:Int)(Bn:Int):Option ((Int)⊕(Unit⊕Unit)):=
 if Bn<(list.length:Int)then
  ck (0≤Bn∧Bn.toNat<list.length)<|
  if(Gq (list.getD Bn.toNat default) low high)=true then
   if 0<Bn then
    ck (0≤IntKind.i64.wrap (Bn-1)∧(IntKind.i64.wrap (Bn-1)).toNat<list.length)<|
    if(list.getD Bn.toNat default)≤(list.getD ((IntKind.i64.wrap (Bn-1)).toNat) default)then
     some (Sum.inr (Sum.inl ()))
    else
     some (Sum.inl (IntKind.i64.wrap (Bn+1)))
   else
    some (Sum.inl (IntKind.i64.wrap (Bn+1)))
  else
   some (Sum.inr (Sum.inl ()))
 else
  some (Sum.inr (Sum.inr ()))
noncomputable def IE(list:List Int)(low:Int)(high:Int)(v:Int):Option (Unit⊕Unit):=Hy (fun v=>DT list low high v) v
noncomputable def Jz(list:List Int)(low:Int)(high:Int):Option (Bool):=
 (IE list low high 0).bind fun Be=>
 match Be with
 | .inl q2_=>
  some false
 | .inr q2_=>
  some true
def TL:SC:=
 .seq
 (.ops [
 ⟨(some 12),(.binOp .lss 3 (.tmp 11) (.tmp 10) 3),0,none⟩])
 (.seq
 (.cond (.tmp 12)
 .skip
 (.exit 0))
 (.seq
 (.block 1
 (.seq
 (.ops [
 ⟨(some 13),(.move (.tmp 11)),3,none⟩,
 ⟨(some 14),(.indexAddr 23 (.tmp 9) (.tmp 11)),0,none⟩,
 ⟨(some 15),(.load 3 (.tmp 14)),3,none⟩,
 ⟨(some 7),(.assign (.tmp 13)),3,none⟩,
 ⟨(some 8),(.assign (.tmp 15)),3,none⟩])
 (.seq
 (.ops [
 ⟨(some 16),(.move (.tmp 8)),3,none⟩,
 ⟨(some 17),(.move (.tmp 1)),3,none⟩,
 ⟨(some 18),(.move (.tmp 2)),3,none⟩,
 ⟨(some 19),(.call ⟨(.value (.func 77)), #[(.tmp 16),(.tmp 17),(.tmp 18)], #[3,3,3]⟩),4,none⟩,
 ⟨(some 20),(.unOp .not 4 (.tmp 19)),4,none⟩,
 ⟨(some 21),(.move (.tmp 20)),4,none⟩,
 ⟨(some 22),(.move (.tmp 7)),3,(some (some 21,false))⟩,
 ⟨(some 23),(.binOp .gtr 3 (.tmp 22) (.const (.int .i64 0)) 3),4,(some (some 21,false))⟩,
 ⟨(some 24),(.move (.tmp 23)),4,(some (some 21,false))⟩,
 ⟨(some 25),(.move (.tmp 0)),23,(some (some 24,true))⟩,
 ⟨(some 26),(.move (.tmp 7)),3,(some (some 24,true))⟩,
 ⟨(some 27),(.binOp .sub 3 (.tmp 26) (.const (.int .i64 1)) 3),3,(some (some 24,true))⟩,
 ⟨(some 28),(.indexAddr 23 (.tmp 25) (.tmp 27)),0,(some (some 24,true))⟩,
 ⟨(some 29),(.load 3 (.tmp 28)),3,(some (some 24,true))⟩,
 ⟨(some 30),(.move (.tmp 8)),3,(some (some 24,true))⟩,
 ⟨(some 31),(.binOp .geq 3 (.tmp 29) (.tmp 30) 3),4,(some (some 24,true))⟩,
 ⟨(some 32),(.pick (.tmp 24) (.tmp 31) (.const (.bool false))),4,(some (some 21,false))⟩,
 ⟨(some 33),(.pick (.tmp 21) (.const (.bool true)) (.tmp 32)),4,none⟩])
 (.cond (.tmp 33)
 (.seq
 (.ops [
 ⟨(some 6),(.assign (.const (.bool false))),4,none⟩])
 .ret)
 .skip))))
 (.ops [
 ⟨(some 34),(.binOp .add 3 (.tmp 11) (.const (.int .i64 1)) 3),3,none⟩,
 ⟨(some 11),(.move (.tmp 34)),3,none⟩])))
def eO:SC:= .loop TL
def A2B:SC:=
 .seq
 (.ops [
 ⟨(some 6),(.assign (.const (.bool false))),4,none⟩])
 (.seq
 (.seq
 (.ops [
 ⟨(some 9),(.move (.tmp 0)),23,none⟩,
 ⟨(some 10),(.call ⟨(.builtin .len), #[(.tmp 9)], #[23]⟩),3,none⟩,
 ⟨(some 11),(.move (.const (.int .i64 0))),3,none⟩])
 (.block 0
 eO))
 (.seq
 (.ops [
 ⟨(some 6),(.assign (.const (.bool true))),4,none⟩])
 .ret))
theorem rE:Try.f128.body.map (Bh lends)=some A2B:=by kernel_rfl
theorem AAZ:CB Try.f128 3=true:=by kernel_rfl
theorem AGu{a l:List D}{r:D×List D}(h:Bq Y.env A2B (fin AX l.length [ResultVar.tmp 6] r) (entry a l))(ha:a.length=3):Y.call 128 a l=some r:=
 AU (Y:=Y) rfl Try.func128 (ha▸AAZ) rE h
def Bw(list:List Int)(low:Int)(high:Int)(Bn:Int)(s:St):Prop:=s.v 0=D.sl 3 (AP (D.int .i64) list)∧s.v 1=D.int .i64 low∧s.v 2=D.int .i64 high∧s.v 9=D.sl 3 (AP (D.int .i64) list)∧s.v 10=D.int .i64 (list.length:Int)∧s.v 11=D.int .i64 Bn
def Cr(list:List Int)(low:Int)(high:Int)(r:Unit⊕Unit)(ex:Ex)(s:St):Prop:=match r with
 | .inl q=>ex= .ret∧s.v 6=D.bool false
 | .inr q=>ex= .exit 0
theorem OD(list:List Int)(low:Int)(high:Int){v:Int}{s:St}{r:Unit⊕Unit}(h:IE list low high v=some r)(hM:Bw list low high v s):Bq Y.env eO (Cr list low high r) s:=by
 unfold IE at h
 refine BN (c:=TL) (fun v=>DT list low high v) (fun v s=>Bw list low high v s) (Cr list low high) ?_ h hM
 clear h hM s v r
 intro Bn s o hM h
 unfold DT at h
 unfold Bw at hM
 obtain⟨m0,m1,m2,m3,m4,m5⟩:=hM
 unfold TL
 by_cases e1:Bn<(list.length:Int)
 ·rw [if_pos e1]at h
  obtain⟨e2,h⟩:=BF h
  have c3:=Gj (list.getD Bn.toNat default) low high
  by_cases e4:(Gq (list.getD Bn.toNat default) low high)=true
  ·rw [if_pos e4]at h
   by_cases e5:0<Bn
   ·rw [if_pos e5]at h
    obtain⟨e6,h⟩:=BF h
    by_cases e7:(list.getD Bn.toNat default)≤(list.getD ((IntKind.i64.wrap (Bn-1)).toNat) default)
    ·rw [if_pos e7]at h
     obtain rfl:=Option.some.inj h
     simp (maxDischargeDepth:=9) only [↓AO,AB,Ac,BP,AJ,AQ,↓reduceIte,Nat.reduceEqDiff,Nat.reduceLT,Nat.reduceAdd,m0,m1,m2,m3,m4,m5,e1,e2.1,e2.2,c3,e4,e5,e6.1,e6.2,e7,Bw,Cr,Qp]
    ·rw [if_neg e7]at h
     obtain rfl:=Option.some.inj h
     simp (maxDischargeDepth:=9) only [↓AO,AB,Ac,BP,AJ,AQ,↓reduceIte,Nat.reduceEqDiff,Nat.reduceLT,Nat.reduceAdd,m0,m1,m2,m3,m4,m5,e1,e2.1,e2.2,c3,e4,e5,e6.1,e6.2,e7,Bw,Ik]
   ·rw [if_neg e5]at h
    obtain rfl:=Option.some.inj h
    simp (maxDischargeDepth:=9) only [↓AO,AB,Ac,BP,AJ,AQ,↓reduceIte,Nat.reduceEqDiff,Nat.reduceLT,Nat.reduceAdd,m0,m1,m2,m3,m4,m5,e1,e2.1,e2.2,c3,e4,e5,Bw,Ik]
  ·rw [if_neg e4]at h
   have e4f:(Gq (list.getD Bn.toNat default) low high)=false:=Bool.eq_false_iff.mpr e4
   obtain rfl:=Option.some.inj h
   simp (maxDischargeDepth:=9) only [↓AO,AB,Ac,BP,AJ,AQ,↓reduceIte,Nat.reduceEqDiff,Nat.reduceLT,Nat.reduceAdd,m1,m2,m3,m4,m5,e1,e2.1,e2.2,c3,e4f,Bw,Cr,Qp]
 ·rw [if_neg e1]at h
  obtain rfl:=Option.some.inj h
  simp (maxDischargeDepth:=9) only [↓AO,AB,AQ,↓reduceIte,Nat.reduceLT,m4,m5,e1,Bw,Cr,KF]
theorem PD(list:List Int)(low:Int)(high:Int){r:Bool}(h:Jz list low high=some r):Y.call 128 [D.sl 3 (AP (D.int .i64) list),D.int .i64 low,D.int .i64 high] []=some (D.bool r,[]):=by
 refine AGu ?_ rfl
 unfold A2B
 unfold Jz at h
 obtain⟨Be,hl2,h⟩:=Ao h
 try dsimp only at h
 simp (maxDischargeDepth:=9) only [↓AO,AB,Ac,AJ,AQ,↓reduceIte,Nat.reduceEqDiff,Nat.reduceLT]
 refine Ay (OD list low high hl2 ?_) ?_
 ·simp (maxDischargeDepth:=9) only [AB,AJ,↓reduceIte,Nat.reduceEqDiff,Nat.reduceLT,Bw]
 ·intro ex2 s2 hX2
  rcases Be with q2_ | q2_
  ·unfold Cr at hX2
   dsimp only at hX2 h
   obtain⟨rfl,n2_0⟩:=hX2
   obtain rfl:=Option.some.inj h
   simp (maxDischargeDepth:=9) only [↓AO,AB,AJ,↓reduceIte,n2_0]
  ·unfold Cr at hX2
   dsimp only at hX2 h
   obtain rfl:=hX2
   obtain rfl:=Option.some.inj h
   simp (maxDischargeDepth:=9) only [↓AO,AB,AJ,AQ,↓reduceIte,Nat.reduceEqDiff,Nat.reduceLT]
def TM(l:List Int)(lo hi:Int):Bool:=(List.range l.length).all fun i=>Gq (l.getD i default) lo hi&&(decide (i=0)||decide (l.getD (i-1) default<l.getD i default))
theorem Qz(l:List Int)(lo hi:Int)(h:l.length<1099511627776):Jz l lo hi=some (TM l lo hi):=by
 have key:=IZ (fun v=>DT l lo hi v) (fun i=>(i:Int)) l.length (fun i=>Gq (l.getD i default) lo hi&&(decide (i=0)||decide (l.getD (i-1) default<l.getD i default))) (.inl ()) (.inr ()) ?_ ?_
 ·rw [Int.natCast_zero]at key
  unfold Jz IE TM
  rw [key]
  cases (List.range l.length).all fun i=>Gq (l.getD i default) lo hi&&(decide (i=0)||decide (l.getD (i-1) default<l.getD i default))<;>rfl
 ·intro i hi'
  simp only [DT,Int.toNat_natCast]
  rw [if_pos (BV hi'),BL (by omega),KH i (by omega)]
  cases hr:Gq (l.getD i default) lo hi with
  | false=>simp
  | true=>
   by_cases h0:i=0
   ·subst h0
    rw [if_pos rfl,if_neg (by omega)]
    simp
   ·rw [if_pos rfl,if_pos (by omega),LP _ (by omega),BL (by omega),show((i:Int)-1).toNat=i-1 by omega,decide_eq_false h0]
    by_cases hlt:l.getD (i-1) default<l.getD i default
    ·rw [if_neg (by omega),decide_eq_true hlt];rfl
    ·rw [if_pos (by omega),decide_eq_false hlt];rfl
 ·simp only [DT]
  rw [if_neg (Ag _)]
theorem R3(list:List Int)(low:Int)(high:Int)(h0:list.length<1099511627776):Y.call 128 [D.sl 3 (AP (D.int .i64) list),D.int .i64 low,D.int .i64 high] []=some (D.bool (TM list low high),[]):=PD list low high (Qz list low high h0)
theorem cu{l:List Int}{lo hi:Int}(h:TM l lo hi=true):l.Pairwise (fun a b=>a<b)∧ ∀x∈l,Gq x lo hi=true:=by
 have h0:=Gw.1 h
 have step: ∀i,i+1<l.length→l.getD i default<l.getD (i+1) default:=fun i hi=>by
  have:=h0 (i+1) hi
  rw [Bool.and_eq_true]at this
  simpa using this.2
 have dU: ∀(d i:Nat),i+d+1<l.length→l.getD i default<l.getD (i+d+1) default:=by
  intro d
  induction d with
  | zero=>intro i hi;exact step i hi
  | succ d ih=>
   intro i hi
   have h1:=ih i (by omega)
   have h2:=step (i+d+1) (by omega)
   rw [show i+(d+1)+1=i+d+1+1 by omega]
   omega
 refine⟨List.pairwise_iff_getElem.2 fun i j hi hj hij=> ?_,fun x hx=> ?_⟩
 ·have:=dU (j-i-1) i (by omega)
  rw [show i+(j-i-1)+1=j by omega,Av _ _ hi,Av _ _ hj]at this
  exact this
 ·obtain⟨i,hi,rfl⟩:=List.getElem_of_mem hx
  have:=h0 i hi
  rw [Bool.and_eq_true,Av _ _ hi]at this
  exact this.1
theorem mq{l:List Int}{lo hi:Int}(h1:l.Pairwise (fun a b=>a<b))(h2: ∀x∈l,Gq x lo hi=true):TM l lo hi=true:=by
 refine Gw.2 fun i hi=> ?_
 rw [Bool.and_eq_true]
 refine⟨by rw [Av _ _ hi];exact h2 _ (List.getElem_mem hi), ?_⟩
 by_cases h0:i=0
 ·rw [decide_eq_true h0];rfl
 ·have:=List.pairwise_iff_getElem.1 h1 (i-1) i (by omega) hi (by omega)
  rw [Bool.or_eq_true]
  right
  rw [decide_eq_true_eq,Av _ _ hi,Av _ _ (by omega:i-1<l.length)]
  exact this
def Nj(ids:List Int)(n:Int):Bool:=decide (ids.length=0)||(decide ((ids.length:Int)=n)&&(decide ids.Nodup&&IK ids 1 999999))
theorem cz(ids:List Int)(lo hi:Int):TM (Qc ids) lo hi=(decide ids.Nodup&&IK ids lo hi):=by
 rw [Bool.eq_iff_iff,Bool.and_eq_true,decide_eq_true_eq]
 have hp:=OB ids
 unfold IK
 rw [List.all_eq_true]
 constructor
 ·intro h
  obtain⟨h1,h2⟩:=cu h
  refine⟨hp.nodup_iff.1 (h1.imp fun h=>by omega),fun x hx=>h2 x (hp.mem_iff.2 hx)⟩
 ·rintro⟨h1,h2⟩
  refine mq ?_ fun x hx=>h2 x (hp.mem_iff.1 hx)
  have hn:(Qc ids).Pairwise (fun a b=>a≠b):=hp.nodup_iff.2 h1
  exact((T9 ids).and hn).imp fun h=>by omega
theorem KY(xs:List Int)(h:xs.length<1099511627776):Y.call 126 [.sl 3 (AP (D.int .i64) xs)] []=some (.own 3 (AP (D.int .i64) xs),[]):=by
 refine iE (AP (D.int .i64) xs) (by rw [Si];exact h) (VN _ _ (fun x=>rfl)) (Sj _ _ (fun x=>by first | exact hoI .. | exact A5M .. | exact hoB .. | exact hoS ..)) ?_
 simp (maxDischargeDepth:=9) only [AB,Ac,AJ]
noncomputable def RS(ids:List Int)(nodes:Int):Option (Bool):=
 if(ids.length:Int)=0 then
  some true
 else
  ck (ids.length<1099511627776)<|
  ck (ids.length<4611686018427387904)<|
  if(ids.length:Int)=nodes then
   ck ((IJ ids).length<1099511627776)<|
   some (TM (IJ ids) (1:Int) (999999:Int))
  else
   some false
def k78:SC:=
 .seq
 (.ops [
 ⟨(some 4),(.assign (.const (.bool false))),4,none⟩])
 (.seq
 (.seq
 (.ops [
 ⟨(some 6),(.move (.tmp 0)),23,none⟩,
 ⟨(some 7),(.call ⟨(.builtin .len), #[(.tmp 6)], #[23]⟩),3,none⟩,
 ⟨(some 8),(.binOp .eql 3 (.tmp 7) (.const (.int .i64 0)) 3),4,none⟩])
 (.cond (.tmp 8)
 (.seq
 (.ops [
 ⟨(some 4),(.assign (.const (.bool true))),4,none⟩])
 .ret)
 .skip))
 (.seq
 (.ops [
 ⟨(some 9),(.move (.tmp 0)),23,none⟩,
 ⟨(some 10),(.call ⟨(.value (.func 126)), #[(.tmp 9)], #[23]⟩),23,none⟩,
 ⟨(some 5),(.assign (.tmp 10)),23,none⟩])
 (.seq
 (.ops [
 ⟨(some 11),(.move (.tmp 5)),23,none⟩,
 ⟨(some 12),(.call ⟨(.value (.func 127)), #[(.tmp 11)], #[23]⟩),0,none⟩])
 (.seq
 (.ops [
 ⟨(some 13),(.move (.tmp 0)),23,none⟩,
 ⟨(some 14),(.call ⟨(.builtin .len), #[(.tmp 13)], #[23]⟩),3,none⟩,
 ⟨(some 15),(.move (.tmp 1)),3,none⟩,
 ⟨(some 16),(.binOp .eql 3 (.tmp 14) (.tmp 15) 3),4,none⟩,
 ⟨(some 17),(.move (.tmp 16)),4,none⟩,
 ⟨(some 18),(.move (.tmp 5)),23,(some (some 17,true))⟩,
 ⟨(some 19),(.call ⟨(.value (.func 128)), #[(.tmp 18),(.const (.int .i64 1)),(.const (.int .i64 999999))], #[23,3,3]⟩),4,(some (some 17,true))⟩,
 ⟨(some 20),(.pick (.tmp 17) (.tmp 19) (.const (.bool false))),4,none⟩,
 ⟨(some 4),(.assign (.tmp 20)),4,none⟩])
 .ret))))
theorem A2C:Try.f78.body.map (Bh lends)=some k78:=by kernel_rfl
theorem AGw:CB Try.f78 2=true:=by kernel_rfl
theorem c78{a l:List D}{r:D×List D}(h:Bq Y.env k78 (fin AX l.length [ResultVar.tmp 4] r) (entry a l))(ha:a.length=2):Y.call 78 a l=some r:=
 AU (Y:=Y) rfl Try.func78 (ha▸AGw) A2C h
theorem X7(ids:List Int)(nodes:Int){r:Bool}(h:RS ids nodes=some r):Y.call 78 [D.sl 3 (AP (D.int .i64) ids),D.int .i64 nodes] []=some (D.bool r,[]):=by
 refine c78 ?_ rfl
 unfold k78
 unfold RS at h
 by_cases e1:(ids.length:Int)=0
 ·rw [if_pos e1]at h
  obtain rfl:=Option.some.inj h
  simp (maxDischargeDepth:=9) only [↓AO,AB,Ac,AJ,AQ,↓reduceIte,Nat.reduceEqDiff,Nat.reduceLT,decide_eq_true e1]
 ·rw [if_neg e1]at h
  obtain⟨e2,h⟩:=BF h
  have c3:=KY ids e2
  obtain⟨e4,h⟩:=BF h
  have c5:=mK ids e4
  by_cases e6:(ids.length:Int)=nodes
  ·rw [if_pos e6]at h
   obtain⟨e7,h⟩:=BF h
   have c8:=R3 (IJ ids) (1:Int) (999999:Int) e7
   obtain rfl:=Option.some.inj h
   simp (maxDischargeDepth:=9) only [↓AO,AB,Ac,BP,AJ,AQ,↓reduceIte,Nat.reduceEqDiff,Nat.reduceLT,Nat.reduceAdd,e1,c3,c5,decide_eq_true e6,c8]
  ·rw [if_neg e6]at h
   obtain rfl:=Option.some.inj h
   simp (maxDischargeDepth:=9) only [↓AO,AB,Ac,BP,AJ,AQ,↓reduceIte,Nat.reduceEqDiff,Nat.reduceLT,Nat.reduceAdd,e1,c3,c5,e6]
noncomputable def H6(ids:List Int)(nodes:Int)(NZ:Int):Option ((Int)⊕(Unit⊕Unit)):=
 if NZ<(ids.length:Int)then
  ck (0≤NZ∧NZ.toNat<ids.length)<|
  if(Gq (ids.getD NZ.toNat default) (1:Int) (999999:Int))=true then
   ck (0≤NZ)<|
   ck (NZ.toNat≤ids.length)<|
   ck (((ids.take NZ.toNat).drop 0).length<1099511627776)<|
   if(((ids.take NZ.toNat).drop 0).contains (ids.getD NZ.toNat default))=true then
    some (Sum.inr (Sum.inl ()))
   else
    some (Sum.inl (IntKind.i64.wrap (NZ+1)))
  else
   some (Sum.inr (Sum.inl ()))
 else
  some (Sum.inr (Sum.inr ()))
noncomputable def MJ(ids:List Int)(nodes:Int)(v:Int):Option (Unit⊕Unit):=Hy (fun v=>H6 ids nodes v) v
noncomputable def RU(ids:List Int)(nodes:Int):Option (Bool):=
 (MJ ids nodes 0).bind fun Be=>
 match Be with
 | .inl q2_=>
  some false
 | .inr q2_=>
  if(ids.length:Int)=0 then
   some true
  else
   some (decide ((ids.length:Int)=nodes))
def X8:SC:=
 .seq
 (.ops [
 ⟨(some 10),(.binOp .lss 3 (.tmp 9) (.tmp 8) 3),0,none⟩])
 (.seq
 (.cond (.tmp 10)
 .skip
 (.exit 0))
 (.seq
 (.block 1
 (.seq
 (.ops [
 ⟨(some 11),(.move (.tmp 9)),3,none⟩,
 ⟨(some 12),(.indexAddr 23 (.tmp 7) (.tmp 9)),0,none⟩,
 ⟨(some 13),(.load 3 (.tmp 12)),3,none⟩,
 ⟨(some 5),(.assign (.tmp 11)),3,none⟩,
 ⟨(some 6),(.assign (.tmp 13)),3,none⟩])
 (.seq
 (.ops [
 ⟨(some 14),(.move (.tmp 6)),3,none⟩,
 ⟨(some 15),(.call ⟨(.value (.func 43)), #[(.tmp 14),(.const (.int .i64 1)),(.const (.int .i64 999999))], #[3,3,3]⟩),4,none⟩,
 ⟨(some 16),(.unOp .not 4 (.tmp 15)),4,none⟩,
 ⟨(some 17),(.move (.tmp 16)),4,none⟩,
 ⟨(some 18),(.move (.tmp 0)),23,(some (some 17,false))⟩,
 ⟨(some 19),(.move (.tmp 5)),3,(some (some 17,false))⟩,
 ⟨(some 20),(.slice 23 (.tmp 18) none (some (.tmp 19)) none),900001,(some (some 17,false))⟩,
 ⟨(some 21),(.move (.tmp 6)),3,(some (some 17,false))⟩,
 ⟨(some 22),(.call ⟨(.value (.func 92)), #[(.tmp 20),(.tmp 21)], #[23,3]⟩),4,(some (some 17,false))⟩,
 ⟨(some 23),(.pick (.tmp 17) (.const (.bool true)) (.tmp 22)),4,none⟩])
 (.cond (.tmp 23)
 (.seq
 (.ops [
 ⟨(some 4),(.assign (.const (.bool false))),4,none⟩])
 .ret)
 .skip))))
 (.ops [
 ⟨(some 24),(.binOp .add 3 (.tmp 9) (.const (.int .i64 1)) 3),3,none⟩,
 ⟨(some 9),(.move (.tmp 24)),3,none⟩])))
def mr:SC:= .loop X8
def k71:SC:=
 .seq
 (.ops [
 ⟨(some 4),(.assign (.const (.bool false))),4,none⟩])
 (.seq
 (.seq
 (.ops [
 ⟨(some 7),(.move (.tmp 0)),23,none⟩,
 ⟨(some 8),(.call ⟨(.builtin .len), #[(.tmp 7)], #[23]⟩),3,none⟩,
 ⟨(some 9),(.move (.const (.int .i64 0))),3,none⟩])
 (.block 0
 mr))
 (.seq
 (.ops [
 ⟨(some 25),(.move (.tmp 0)),23,none⟩,
 ⟨(some 26),(.call ⟨(.builtin .len), #[(.tmp 25)], #[23]⟩),3,none⟩,
 ⟨(some 27),(.binOp .eql 3 (.tmp 26) (.const (.int .i64 0)) 3),4,none⟩,
 ⟨(some 28),(.move (.tmp 27)),4,none⟩,
 ⟨(some 29),(.move (.tmp 0)),23,(some (some 28,false))⟩,
 ⟨(some 30),(.call ⟨(.builtin .len), #[(.tmp 29)], #[23]⟩),3,(some (some 28,false))⟩,
 ⟨(some 31),(.move (.tmp 1)),3,(some (some 28,false))⟩,
 ⟨(some 32),(.binOp .eql 3 (.tmp 30) (.tmp 31) 3),4,(some (some 28,false))⟩,
 ⟨(some 33),(.pick (.tmp 28) (.const (.bool true)) (.tmp 32)),4,none⟩,
 ⟨(some 4),(.assign (.tmp 33)),4,none⟩])
 .ret))
theorem A2D:Try.f71.body.map (Bh lends)=some k71:=by kernel_rfl
theorem AGy:CB Try.f71 2=true:=by kernel_rfl
theorem c71{a l:List D}{r:D×List D}(h:Bq Y.env k71 (fin AX l.length [ResultVar.tmp 4] r) (entry a l))(ha:a.length=2):Y.call 71 a l=some r:=
 AU (Y:=Y) rfl Try.func71 (ha▸AGy) A2D h
def EL(ids:List Int)(nodes:Int)(NZ:Int)(s:St):Prop:=s.v 0=D.sl 3 (AP (D.int .i64) ids)∧s.v 1=D.int .i64 nodes∧s.v 7=D.sl 3 (AP (D.int .i64) ids)∧s.v 8=D.int .i64 (ids.length:Int)∧s.v 9=D.int .i64 NZ
def FN(ids:List Int)(nodes:Int)(r:Unit⊕Unit)(ex:Ex)(s:St):Prop:=match r with
 | .inl q=>ex= .ret∧s.v 4=D.bool false
 | .inr q=>ex= .exit 0∧s.v 0=D.sl 3 (AP (D.int .i64) ids)∧s.v 1=D.int .i64 nodes
theorem UW(ids:List Int)(nodes:Int){v:Int}{s:St}{r:Unit⊕Unit}(h:MJ ids nodes v=some r)(hM:EL ids nodes v s):Bq Y.env mr (FN ids nodes r) s:=by
 unfold MJ at h
 refine BN (c:=X8) (fun v=>H6 ids nodes v) (fun v s=>EL ids nodes v s) (FN ids nodes) ?_ h hM
 clear h hM s v r
 intro NZ s o hM h
 unfold H6 at h
 unfold EL at hM
 obtain⟨m0,m1,m2,m3,m4⟩:=hM
 unfold X8
 by_cases e1:NZ<(ids.length:Int)
 ·rw [if_pos e1]at h
  obtain⟨e2,h⟩:=BF h
  have c3:=Iy (ids.getD NZ.toNat default) (1:Int) (999999:Int)
  by_cases e4:(Gq (ids.getD NZ.toNat default) (1:Int) (999999:Int))=true
  ·rw [if_pos e4]at h
   obtain⟨e5,h⟩:=BF h
   obtain⟨e6,h⟩:=BF h
   obtain⟨e7,h⟩:=BF h
   have c8:=OC ((ids.take NZ.toNat).drop 0) (ids.getD NZ.toNat default) e7
   by_cases e9:(((ids.take NZ.toNat).drop 0).contains (ids.getD NZ.toNat default))=true
   ·rw [if_pos e9]at h
    obtain rfl:=Option.some.inj h
    simp (maxDischargeDepth:=9) only [↓AO,AB,Ac,BP,AJ,AQ,↓reduceIte,Nat.reduceEqDiff,Nat.reduceLT,Nat.reduceAdd,m0,m2,m3,m4,e1,e2.1,e2.2,c3,e4,e6,c8,e9,EL,FN,Qp]
   ·rw [if_neg e9]at h
    have e9f:(((ids.take NZ.toNat).drop 0).contains (ids.getD NZ.toNat default))=false:=Bool.eq_false_iff.mpr e9
    obtain rfl:=Option.some.inj h
    simp (maxDischargeDepth:=9) only [↓AO,AB,Ac,BP,AJ,AQ,↓reduceIte,Nat.reduceEqDiff,Nat.reduceLT,Nat.reduceAdd,m0,m1,m2,m3,m4,e1,e2.1,e2.2,c3,e4,e6,c8,e9f,EL,Ik]
  ·rw [if_neg e4]at h
   have e4f:(Gq (ids.getD NZ.toNat default) (1:Int) (999999:Int))=false:=Bool.eq_false_iff.mpr e4
   obtain rfl:=Option.some.inj h
   simp (maxDischargeDepth:=9) only [↓AO,AB,Ac,BP,AJ,AQ,↓reduceIte,Nat.reduceEqDiff,Nat.reduceLT,Nat.reduceAdd,m2,m3,m4,e1,e2.1,e2.2,c3,e4f,EL,FN,Qp]
 ·rw [if_neg e1]at h
  obtain rfl:=Option.some.inj h
  simp (maxDischargeDepth:=9) only [↓AO,AB,AQ,↓reduceIte,Nat.reduceEqDiff,Nat.reduceLT,m0,m1,m3,m4,e1,EL,FN,KF]
theorem X9(ids:List Int)(nodes:Int){r:Bool}(h:RU ids nodes=some r):Y.call 71 [D.sl 3 (AP (D.int .i64) ids),D.int .i64 nodes] []=some (D.bool r,[]):=by
 refine c71 ?_ rfl
 unfold k71
 unfold RU at h
 obtain⟨Be,hl2,h⟩:=Ao h
 try dsimp only at h
 simp (maxDischargeDepth:=9) only [↓AO,AB,Ac,AJ,AQ,↓reduceIte,Nat.reduceEqDiff,Nat.reduceLT]
 refine Ay (UW ids nodes hl2 ?_) ?_
 ·simp (maxDischargeDepth:=9) only [AB,AJ,↓reduceIte,Nat.reduceEqDiff,Nat.reduceLT,EL]
 ·intro ex2 s2 hX2
  rcases Be with q2_ | q2_
  ·unfold FN at hX2
   dsimp only at hX2 h
   obtain⟨rfl,n2_0⟩:=hX2
   obtain rfl:=Option.some.inj h
   simp (maxDischargeDepth:=9) only [↓AO,AB,AJ,↓reduceIte,n2_0]
  ·unfold FN at hX2
   dsimp only at hX2 h
   obtain⟨rfl,n2_0,n2_1⟩:=hX2
   by_cases e3:(ids.length:Int)=0
   ·rw [if_pos e3]at h
    obtain rfl:=Option.some.inj h
    simp (maxDischargeDepth:=9) only [↓AO,AB,Ac,AJ,AQ,↓reduceIte,Nat.reduceEqDiff,Nat.reduceLT,n2_0,decide_eq_true e3]
   ·rw [if_neg e3]at h
    obtain rfl:=Option.some.inj h
    simp (maxDischargeDepth:=9) only [↓AO,AB,Ac,AJ,AQ,↓reduceIte,Nat.reduceEqDiff,Nat.reduceLT,n2_0,n2_1,e3]
theorem d9(ids:List Int)(n:Int)(h:ids.length<1099511627776):RS ids n=some (Nj ids n):=by
 unfold RS Nj
 by_cases h0:ids.length=0
 ·rw [if_pos (by omega),decide_eq_true h0];rfl
 ·rw [if_neg (by omega),BL h,BL (by omega),decide_eq_false h0,Bool.false_or]
  by_cases h1:(ids.length:Int)=n
  ·rw [if_pos h1,mW,BL (by rw [iH];exact h),cz,decide_eq_true h1];rfl
  ·rw [if_neg h1,decide_eq_false h1];rfl
theorem iI(ids:List Int):(List.range ids.length).all (fun i=>Gq (ids.getD i default) 1 999999&& !(ids.take i).contains (ids.getD i default))=(decide ids.Nodup&&IK ids 1 999999):=by
 rw [Bool.eq_iff_iff,Gw,Bool.and_eq_true,decide_eq_true_eq]
 unfold IK
 rw [List.all_eq_true]
 constructor
 ·intro h
  refine⟨List.pairwise_iff_getElem.2 fun i j hi hj hij he=> ?_,fun x hx=> ?_⟩
  ·have:=h j hj
   rw [Bool.and_eq_true,Bool.not_eq_true',←Bool.not_eq_true,List.contains_iff_mem,Av _ _ hj]at this
   refine this.2 ?_
   rw [←he]
   exact List.mem_take_iff_getElem.2 ⟨i,by omega,rfl⟩
  ·obtain⟨i,hi,rfl⟩:=List.getElem_of_mem hx
   have:=h i hi
   rw [Bool.and_eq_true,Av _ _ hi]at this
   exact this.1
 ·rintro⟨h1,h2⟩ i hi
  rw [Bool.and_eq_true,Bool.not_eq_true',←Bool.not_eq_true,List.contains_iff_mem,Av _ _ hi]
  refine⟨h2 _ (List.getElem_mem hi),fun hm=> ?_⟩
  obtain⟨j,hj,he⟩:=List.mem_take_iff_getElem.1 hm
  exact List.pairwise_iff_getElem.1 h1 j i (by omega) hi (by omega) he
theorem dA(ids:List Int)(n:Int)(h:ids.length<1099511627776):RU ids n=some (Nj ids n):=by
 have key:=IZ (fun v=>H6 ids n v) (fun i=>(i:Int)) ids.length (fun i=>Gq (ids.getD i default) 1 999999&& !(ids.take i).contains (ids.getD i default)) (.inl ()) (.inr ()) ?_ ?_
 ·rw [Int.natCast_zero,iI]at key
  unfold RU MJ Nj
  rw [key,Option.bind_some]
  by_cases h0:ids.length=0
  ·have:ids=[]:=List.eq_nil_of_length_eq_zero h0
   subst this
   simp [IK]
  ·rw [decide_eq_false h0,Bool.false_or]
   cases decide ids.Nodup&&IK ids 1 999999 with
   | false=>rw [Bool.and_false];rfl
   | true=>rw [Bool.and_true,if_pos rfl];simp only;rw [if_neg (by omega)]
 ·intro i hi
  simp only [H6,Int.toNat_natCast,List.drop_zero]
  rw [if_pos (BV hi),BL (by omega),BL (by omega),BL (by omega),BL (by rw [List.length_take];omega),KH i (by omega)]
  cases Gq (ids.getD i default) 1 999999<;>cases (ids.take i).contains (ids.getD i default)<;>rfl
 ·simp only [H6]
  rw [if_neg (Ag _)]
theorem dB(ids:List Int)(nodes:Int)(h0:ids.length<1099511627776):Y.call 78 [D.sl 3 (AP (D.int .i64) ids),D.int .i64 nodes] []=some (D.bool (Nj ids nodes),[]):=X7 ids nodes (d9 ids nodes h0)
theorem dC(ids:List Int)(nodes:Int)(h0:ids.length<1099511627776):Y.call 71 [D.sl 3 (AP (D.int .i64) ids),D.int .i64 nodes] []=some (D.bool (Nj ids nodes),[]):=X9 ids nodes (dA ids nodes h0)
noncomputable def MK(inputs:List Int)(nodes:Int):Option (Bool):=
 if(inputs.length:Int)=nodes then
  ck (inputs.length<1099511627776)<|
  some (IK inputs (0:Int) (9:Int))
 else
  some false
def k79:SC:=
 .seq
 (.ops [
 ⟨(some 4),(.assign (.const (.bool false))),4,none⟩])
 (.seq
 (.ops [
 ⟨(some 5),(.move (.tmp 0)),23,none⟩,
 ⟨(some 6),(.call ⟨(.builtin .len), #[(.tmp 5)], #[23]⟩),3,none⟩,
 ⟨(some 7),(.move (.tmp 1)),3,none⟩,
 ⟨(some 8),(.binOp .eql 3 (.tmp 6) (.tmp 7) 3),4,none⟩,
 ⟨(some 9),(.move (.tmp 8)),4,none⟩,
 ⟨(some 10),(.move (.tmp 0)),23,(some (some 9,true))⟩,
 ⟨(some 11),(.call ⟨(.value (.func 83)), #[(.tmp 10),(.const (.int .i64 0)),(.const (.int .i64 9))], #[23,3,3]⟩),4,(some (some 9,true))⟩,
 ⟨(some 12),(.pick (.tmp 9) (.tmp 11) (.const (.bool false))),4,none⟩,
 ⟨(some 4),(.assign (.tmp 12)),4,none⟩])
 .ret)
theorem A2E:Try.f79.body.map (Bh lends)=some k79:=by kernel_rfl
theorem AH0:CB Try.f79 2=true:=by kernel_rfl
theorem c79{a l:List D}{r:D×List D}(h:Bq Y.env k79 (fin AX l.length [ResultVar.tmp 4] r) (entry a l))(ha:a.length=2):Y.call 79 a l=some r:=
 AU (Y:=Y) rfl Try.func79 (ha▸AH0) A2E h
theorem R4(inputs:List Int)(nodes:Int){r:Bool}(h:MK inputs nodes=some r):Y.call 79 [D.sl 3 (AP (D.int .i64) inputs),D.int .i64 nodes] []=some (D.bool r,[]):=by
 refine c79 ?_ rfl
 unfold k79
 unfold MK at h
 by_cases e1:(inputs.length:Int)=nodes
 ·rw [if_pos e1]at h
  obtain⟨e2,h⟩:=BF h
  have c3:=Sz inputs (0:Int) (9:Int) e2
  obtain rfl:=Option.some.inj h
  simp (maxDischargeDepth:=9) only [↓AO,AB,Ac,BP,AJ,AQ,↓reduceIte,Nat.reduceEqDiff,Nat.reduceLT,Nat.reduceAdd,decide_eq_true e1,c3]
 ·rw [if_neg e1]at h
  obtain rfl:=Option.some.inj h
  simp (maxDischargeDepth:=9) only [↓AO,AB,Ac,AJ,AQ,↓reduceIte,Nat.reduceEqDiff,Nat.reduceLT,e1]
noncomputable def DU(AC:List (List (Int×Int)))(AV:List Int)(AL:List Int)(v_:Int):Option (Bool):=
 some (Gq v_ (0:Int) (IntKind.i64.wrap ((AC.length:Int)-1)))
def k94:SC:=
 .seq
 (.ops [
 ⟨(some 2),(.box 31 (.tmp 0)),0,none⟩,
 ⟨(some 4),(.assign (.const (.bool false))),4,none⟩])
 (.seq
 (.ops [
 ⟨(some 5),(.move (.tmp 1)),3,none⟩,
 ⟨(some 6),(.fieldAddr 31 (.tmp 2) 0),0,none⟩,
 ⟨(some 7),(.load 29 (.tmp 6)),29,none⟩,
 ⟨(some 8),(.call ⟨(.builtin .len), #[(.tmp 7)], #[29]⟩),3,none⟩,
 ⟨(some 9),(.binOp .sub 3 (.tmp 8) (.const (.int .i64 1)) 3),3,none⟩,
 ⟨(some 10),(.call ⟨(.value (.func 77)), #[(.tmp 5),(.const (.int .i64 0)),(.tmp 9)], #[3,3,3]⟩),4,none⟩,
 ⟨(some 4),(.assign (.tmp 10)),4,none⟩])
 .ret)
theorem A2F:Try.f94.body.map (Bh lends)=some k94:=by kernel_rfl
theorem AH2:CB Try.f94 2=true:=by kernel_rfl
theorem c94{a l:List D}{r:D×List D}(h:Bq Y.env k94 (fin AX l.length [ResultVar.tmp 4] r) (entry a l))(ha:a.length=2):Y.call 94 a l=some r:=
 AU (Y:=Y) rfl Try.func94 (ha▸AH2) A2F h
theorem Ie(AC:List (List (Int×Int)))(AV:List Int)(AL:List Int)(v_:Int){r:Bool}(h:DU AC AV AL v_=some r):Y.call 94 [D.agg [D.sl 100 (AP (fun x=>D.sl 102 (AY .i64 .i64 x)) AC),D.sl 3 (AP (D.int .i64) AV),D.sl 3 (AP (D.int .i64) AL)],D.int .i64 v_] []=some (D.bool r,[]):=by
 refine c94 ?_ rfl
 unfold k94
 unfold DU at h
 have c1:=Gj v_ (0:Int) (IntKind.i64.wrap ((AC.length:Int)-1))
 obtain rfl:=Option.some.inj h
 simp (maxDischargeDepth:=9) only [↓AO,AB,Ac,BP,AJ,AQ,↓reduceIte,Nat.reduceEqDiff,Nat.reduceLT,Nat.reduceAdd,c1]
noncomputable def GR(AC:List (List (Int×Int)))(AV:List Int)(AL:List Int)(v_:Int)(i:Int):Option (Bool):=
 (DU AC AV AL v_).bind fun Il=>
 if Il=true then
  ck (0≤v_∧v_.toNat<AC.length)<|
  some (Gq i (0:Int) (IntKind.i64.wrap (((AC.getD v_.toNat default).length:Int)-1)))
 else
  some false
def k80:SC:=
 .seq
 (.ops [
 ⟨(some 3),(.box 31 (.tmp 0)),0,none⟩,
 ⟨(some 6),(.assign (.const (.bool false))),4,none⟩])
 (.seq
 (.ops [
 ⟨(some 7),(.load 31 (.tmp 3)),31,none⟩,
 ⟨(some 8),(.move (.tmp 1)),3,none⟩,
 ⟨(some 9),(.call ⟨(.value (.func 94)), #[(.tmp 7),(.tmp 8)], #[31,3]⟩),4,none⟩,
 ⟨(some 10),(.move (.tmp 9)),4,none⟩,
 ⟨(some 11),(.move (.tmp 2)),3,(some (some 10,true))⟩,
 ⟨(some 12),(.fieldAddr 31 (.tmp 3) 0),0,(some (some 10,true))⟩,
 ⟨(some 13),(.load 29 (.tmp 12)),29,(some (some 10,true))⟩,
 ⟨(some 14),(.move (.tmp 1)),3,(some (some 10,true))⟩,
 ⟨(some 15),(.indexAddr 29 (.tmp 13) (.tmp 14)),0,(some (some 10,true))⟩,
 ⟨(some 16),(.load 100 (.tmp 15)),100,(some (some 10,true))⟩,
 ⟨(some 17),(.call ⟨(.builtin .len), #[(.tmp 16)], #[100]⟩),3,(some (some 10,true))⟩,
 ⟨(some 18),(.binOp .sub 3 (.tmp 17) (.const (.int .i64 1)) 3),3,(some (some 10,true))⟩,
 ⟨(some 19),(.call ⟨(.value (.func 77)), #[(.tmp 11),(.const (.int .i64 0)),(.tmp 18)], #[3,3,3]⟩),4,(some (some 10,true))⟩,
 ⟨(some 20),(.pick (.tmp 10) (.tmp 19) (.const (.bool false))),4,none⟩,
 ⟨(some 6),(.assign (.tmp 20)),4,none⟩])
 .ret)
theorem A2G:Try.f80.body.map (Bh lends)=some k80:=by kernel_rfl
theorem AH4:CB Try.f80 3=true:=by kernel_rfl
theorem c80{a l:List D}{r:D×List D}(h:Bq Y.env k80 (fin AX l.length [ResultVar.tmp 6] r) (entry a l))(ha:a.length=3):Y.call 80 a l=some r:=
 AU (Y:=Y) rfl Try.func80 (ha▸AH4) A2G h
theorem ML(AC:List (List (Int×Int)))(AV:List Int)(AL:List Int)(v_:Int)(i:Int){r:Bool}(h:GR AC AV AL v_ i=some r):Y.call 80 [D.agg [D.sl 100 (AP (fun x=>D.sl 102 (AY .i64 .i64 x)) AC),D.sl 3 (AP (D.int .i64) AV),D.sl 3 (AP (D.int .i64) AL)],D.int .i64 v_,D.int .i64 i] []=some (D.bool r,[]):=by
 refine c80 ?_ rfl
 unfold k80
 unfold GR at h
 obtain⟨Il,hl1,h⟩:=Ao h
 try dsimp only at h
 have c1:=Ie AC AV AL v_ hl1
 by_cases e2:Il=true
 ·rw [if_pos e2]at h
  obtain⟨e3,h⟩:=BF h
  have c4:=Gj i (0:Int) (IntKind.i64.wrap (((AC.getD v_.toNat default).length:Int)-1))
  obtain rfl:=Option.some.inj h
  simp (maxDischargeDepth:=9) only [↓AO,AB,Ac,BP,AJ,AQ,↓reduceIte,Nat.reduceEqDiff,Nat.reduceLT,Nat.reduceAdd,c1,e2,e3.1,e3.2,c4]
 ·rw [if_neg e2]at h
  have e2f:Il=false:=Bool.eq_false_iff.mpr e2
  obtain rfl:=Option.some.inj h
  simp (maxDischargeDepth:=9) only [↓AO,AB,BP,AJ,AQ,↓reduceIte,Nat.reduceEqDiff,Nat.reduceLT,Nat.reduceAdd,c1,e2f]
noncomputable def Dn(A7:List (List (Int×Int)))(A9:List Int)(A8:List Int)(D8:Int)(I8:Int):Option ((Int)⊕(Unit⊕Unit)):=
 if I8<((A7.getD D8.toNat default).length:Int)then
  ck (0≤I8∧I8.toNat<(A7.getD D8.toNat default).length)<|
  (GR A7 A9 A8 (BB (A7.getD D8.toNat default) I8.toNat) (Bt (A7.getD D8.toNat default) I8.toNat)).bind fun rF=>
  if rF=true then
   ck (0≤(BB (A7.getD D8.toNat default) I8.toNat)∧(BB (A7.getD D8.toNat default) I8.toNat).toNat<A7.length)<|
   ck (0≤(Bt (A7.getD D8.toNat default) I8.toNat)∧(Bt (A7.getD D8.toNat default) I8.toNat).toNat<(A7.getD ((BB (A7.getD D8.toNat default) I8.toNat).toNat) default).length)<|
   if(((BB (A7.getD ((BB (A7.getD D8.toNat default) I8.toNat).toNat) default) ((Bt (A7.getD D8.toNat default) I8.toNat).toNat))==D8)&&((Bt (A7.getD ((BB (A7.getD D8.toNat default) I8.toNat).toNat) default) ((Bt (A7.getD D8.toNat default) I8.toNat).toNat))==I8))=true then
    some (Sum.inl (IntKind.i64.wrap (I8+1)))
   else
    some (Sum.inr (Sum.inl ()))
  else
   some (Sum.inr (Sum.inl ()))
 else
  some (Sum.inr (Sum.inr ()))
noncomputable def Gl(A7:List (List (Int×Int)))(A9:List Int)(A8:List Int)(D8:Int)(v:Int):Option (Unit⊕Unit):=Hy (fun v=>Dn A7 A9 A8 D8 v) v
noncomputable def Dp(A7:List (List (Int×Int)))(A9:List Int)(A8:List Int)(D8:Int):Option ((Int)⊕(Unit⊕Unit)):=
 if D8<(A7.length:Int)then
  ck (0≤D8∧D8.toNat<A7.length)<|
  if 6<((A7.getD D8.toNat default).length:Int)then
   some (Sum.inr (Sum.inl ()))
  else
   (Gl A7 A9 A8 D8 0).bind fun UX=>
   match UX with
   | .inl q12_=>
    some (Sum.inr (Sum.inl ()))
   | .inr q12_=>
    some (Sum.inl (IntKind.i64.wrap (D8+1)))
 else
  some (Sum.inr (Sum.inr ()))
noncomputable def Gm(A7:List (List (Int×Int)))(A9:List Int)(A8:List Int)(v:Int):Option (Unit⊕Unit):=Hy (fun v=>Dp A7 A9 A8 v) v
noncomputable def LB(A7:List (List (Int×Int)))(A9:List Int)(A8:List Int):Option (Bool):=
 if(Gq (A7.length:Int) (1:Int) (40:Int))=true then
  ck (A9.length<1099511627776)<|
  if(Nj A9 (A7.length:Int))=true then
   (MK A8 (A7.length:Int)).bind fun eP=>
   if eP=true then
    (Gm A7 A9 A8 0).bind fun nA=>
    match nA with
    | .inl q9_=>
     some false
    | .inr q9_=>
     some true
   else
    some false
  else
   some false
 else
  some false
def XA:SC:=
 .seq
 (.ops [
 ⟨(some 44),(.binOp .lss 3 (.tmp 43) (.tmp 42) 3),0,none⟩])
 (.seq
 (.cond (.tmp 44)
 .skip
 (.exit 2))
 (.seq
 (.block 3
 (.seq
 (.ops [
 ⟨(some 45),(.move (.tmp 43)),3,none⟩,
 ⟨(some 46),(.indexAddr 100 (.tmp 41) (.tmp 43)),0,none⟩,
 ⟨(some 47),(.load 102 (.tmp 46)),102,none⟩,
 ⟨(some 6),(.alloc 102),0,none⟩,
 ⟨(some 5),(.assign (.tmp 45)),3,none⟩,
 ⟨none,(.store 102 (.tmp 6) (.tmp 47)),0,none⟩])
 (.seq
 (.draws [
 (⟨[48,1,1],[48,49,50,51,52,53,54,55,56,57,58,59,60,61,62,63,64,65,66,67,68,66,67,69,70],[48]⟩,⟨(some 48),(.load 31 (.tmp 1)),31,none⟩),
 (⟨[49,6,6],[48,49,50,51,52,53,54,55,56,57,58,59,60,61,62,63,64,65,66,67,68,66,67,69,70],[49]⟩,⟨(some 49),(.fieldAddr 102 (.tmp 6) 0),0,none⟩),
 (⟨[50,49,6],[48,49,50,51,52,53,54,55,56,57,58,59,60,61,62,63,64,65,66,67,68,66,67,69,70],[50]⟩,⟨(some 50),(.load 3 (.tmp 49)),3,none⟩),
 (⟨[51,6,6],[48,49,50,51,52,53,54,55,56,57,58,59,60,61,62,63,64,65,66,67,68,66,67,69,70],[51]⟩,⟨(some 51),(.fieldAddr 102 (.tmp 6) 1),0,none⟩),
 (⟨[52,51,6],[48,49,50,51,52,53,54,55,56,57,58,59,60,61,62,63,64,65,66,67,68,66,67,69,70],[52]⟩,⟨(some 52),(.load 3 (.tmp 51)),3,none⟩),
 (⟨[53,48,50,52,1,6,6],[48,49,50,51,52,53,54,55,56,57,58,59,60,61,62,63,64,65,66,67,68,66,67,69,70],[53]⟩,⟨(some 53),(.call ⟨(.value (.func 80)), #[(.tmp 48),(.tmp 50),(.tmp 52)], #[31,3,3]⟩),4,none⟩),
 (⟨[54,53,53],[48,49,50,51,52,53,54,55,56,57,58,59,60,61,62,63,64,65,66,67,68,66,67,69,70],[54]⟩,⟨(some 54),(.unOp .not 4 (.tmp 53)),4,none⟩),
 (⟨[55,54,54],[48,49,50,51,52,53,54,55,56,57,58,59,60,61,62,63,64,65,66,67,68,66,67,69,70],[55]⟩,⟨(some 55),(.move (.tmp 54)),4,none⟩),
 (⟨[56,1,1,55],[48,49,50,51,52,53,54,55,56,57,58,59,60,61,62,63,64,65,66,67,68,66,67,69,70],[56]⟩,⟨(some 56),(.fieldAddr 31 (.tmp 1) 0),0,(some (some 55,false))⟩),
 (⟨[57,56,1,55],[48,49,50,51,52,53,54,55,56,57,58,59,60,61,62,63,64,65,66,67,68,66,67,69,70],[57]⟩,⟨(some 57),(.load 29 (.tmp 56)),29,(some (some 55,false))⟩),
 (⟨[58,6,6,55],[48,49,50,51,52,53,54,55,56,57,58,59,60,61,62,63,64,65,66,67,68,66,67,69,70],[58]⟩,⟨(some 58),(.fieldAddr 102 (.tmp 6) 0),0,(some (some 55,false))⟩),
 (⟨[59,58,6,55],[48,49,50,51,52,53,54,55,56,57,58,59,60,61,62,63,64,65,66,67,68,66,67,69,70],[59]⟩,⟨(some 59),(.load 3 (.tmp 58)),3,(some (some 55,false))⟩),
 (⟨[60,57,59,1,6,55],[48,49,50,51,52,53,54,55,56,57,58,59,60,61,62,63,64,65,66,67,68,66,67,69,70],[60]⟩,⟨(some 60),(.indexAddr 29 (.tmp 57) (.tmp 59)),0,(some (some 55,false))⟩),
 (⟨[61,60,1,55],[48,49,50,51,52,53,54,55,56,57,58,59,60,61,62,63,64,65,66,67,68,66,67,69,70],[61]⟩,⟨(some 61),(.load 100 (.tmp 60)),100,(some (some 55,false))⟩),
 (⟨[62,6,6,55],[48,49,50,51,52,53,54,55,56,57,58,59,60,61,62,63,64,65,66,67,68,66,67,69,70],[62]⟩,⟨(some 62),(.fieldAddr 102 (.tmp 6) 1),0,(some (some 55,false))⟩),
 (⟨[63,62,6,55],[48,49,50,51,52,53,54,55,56,57,58,59,60,61,62,63,64,65,66,67,68,66,67,69,70],[63]⟩,⟨(some 63),(.load 3 (.tmp 62)),3,(some (some 55,false))⟩),
 (⟨[64,61,63,1,6,55],[48,49,50,51,52,53,54,55,56,57,58,59,60,61,62,63,64,65,66,67,68,66,67,69,70],[64]⟩,⟨(some 64),(.indexAddr 100 (.tmp 61) (.tmp 63)),0,(some (some 55,false))⟩),
 (⟨[65,64,1,55],[48,49,50,51,52,53,54,55,56,57,58,59,60,61,62,63,64,65,66,67,68,66,67,69,70],[65]⟩,⟨(some 65),(.load 102 (.tmp 64)),102,(some (some 55,false))⟩),
 (⟨[66,3,3,55],[48,49,50,51,52,53,54,55,56,57,58,59,60,61,62,63,64,65,66,67,68,66,67,69,70],[66]⟩,⟨(some 66),(.move (.tmp 3)),3,(some (some 55,false))⟩),
 (⟨[67,5,5,55],[48,49,50,51,52,53,54,55,56,57,58,59,60,61,62,63,64,65,66,67,68,66,67,69,70],[67]⟩,⟨(some 67),(.move (.tmp 5)),3,(some (some 55,false))⟩),
 (⟨[68,66,67,3,5,55],[48,49,50,51,52,53,54,55,56,57,58,59,60,61,62,63,64,65,66,67,68,66,67,69,70],[68,66,67]⟩,⟨(some 68),(.build 102 #[(0,(.tmp 66)),(1,(.tmp 67))]),102,(some (some 55,false))⟩),
 (⟨[69,65,68,1,68,55],[48,49,50,51,52,53,54,55,56,57,58,59,60,61,62,63,64,65,66,67,68,66,67,69,70],[69]⟩,⟨(some 69),(.binOp .neq 102 (.tmp 65) (.tmp 68) 102),4,(some (some 55,false))⟩),
 (⟨[70,55,69,54,69],[48,49,50,51,52,53,54,55,56,57,58,59,60,61,62,63,64,65,66,67,68,66,67,69,70],[70]⟩,⟨(some 70),(.pick (.tmp 55) (.const (.bool true)) (.tmp 69)),4,none⟩)])
 (.cond (.tmp 70)
 (.seq
 (.ops [
 ⟨(some 2),(.assign (.const (.bool false))),4,none⟩])
 .ret)
 .skip))))
 (.ops [
 ⟨(some 71),(.binOp .add 3 (.tmp 43) (.const (.int .i64 1)) 3),3,none⟩,
 ⟨(some 43),(.move (.tmp 71)),3,none⟩])))
def nC:SC:= .loop XA
def XB:SC:=
 .seq
 (.ops [
 ⟨(some 34),(.binOp .lss 3 (.tmp 33) (.tmp 32) 3),0,none⟩])
 (.seq
 (.cond (.tmp 34)
 .skip
 (.exit 0))
 (.seq
 (.block 1
 (.seq
 (.ops [
 ⟨(some 35),(.move (.tmp 33)),3,none⟩,
 ⟨(some 36),(.indexAddr 29 (.tmp 31) (.tmp 33)),0,none⟩,
 ⟨(some 37),(.load 100 (.tmp 36)),100,none⟩,
 ⟨(some 3),(.assign (.tmp 35)),3,none⟩,
 ⟨(some 4),(.assign (.tmp 37)),100,none⟩])
 (.seq
 (.seq
 (.ops [
 ⟨(some 38),(.move (.tmp 4)),100,none⟩,
 ⟨(some 39),(.call ⟨(.builtin .len), #[(.tmp 38)], #[100]⟩),3,none⟩,
 ⟨(some 40),(.binOp .gtr 3 (.tmp 39) (.const (.int .i64 6)) 3),4,none⟩])
 (.cond (.tmp 40)
 (.seq
 (.ops [
 ⟨(some 2),(.assign (.const (.bool false))),4,none⟩])
 .ret)
 .skip))
 (.seq
 (.ops [
 ⟨(some 41),(.move (.tmp 4)),100,none⟩,
 ⟨(some 42),(.call ⟨(.builtin .len), #[(.tmp 41)], #[100]⟩),3,none⟩,
 ⟨(some 43),(.move (.const (.int .i64 0))),3,none⟩])
 (.block 2
 nC)))))
 (.ops [
 ⟨(some 72),(.binOp .add 3 (.tmp 33) (.const (.int .i64 1)) 3),3,none⟩,
 ⟨(some 33),(.move (.tmp 72)),3,none⟩])))
def nD:SC:= .loop XB
def k37:SC:=
 .seq
 (.ops [
 ⟨(some 1),(.box 31 (.tmp 0)),0,none⟩,
 ⟨(some 2),(.assign (.const (.bool false))),4,none⟩])
 (.seq
 (.seq
 (.ops [
 ⟨(some 7),(.fieldAddr 31 (.tmp 1) 0),0,none⟩,
 ⟨(some 8),(.load 29 (.tmp 7)),29,none⟩,
 ⟨(some 9),(.call ⟨(.builtin .len), #[(.tmp 8)], #[29]⟩),3,none⟩,
 ⟨(some 10),(.call ⟨(.value (.func 77)), #[(.tmp 9),(.const (.int .i64 1)),(.const (.int .i64 40))], #[3,3,3]⟩),4,none⟩,
 ⟨(some 11),(.unOp .not 4 (.tmp 10)),4,none⟩,
 ⟨(some 12),(.move (.tmp 11)),4,none⟩,
 ⟨(some 13),(.fieldAddr 31 (.tmp 1) 1),0,(some (some 12,false))⟩,
 ⟨(some 14),(.load 23 (.tmp 13)),23,(some (some 12,false))⟩,
 ⟨(some 15),(.fieldAddr 31 (.tmp 1) 0),0,(some (some 12,false))⟩,
 ⟨(some 16),(.load 29 (.tmp 15)),29,(some (some 12,false))⟩,
 ⟨(some 17),(.call ⟨(.builtin .len), #[(.tmp 16)], #[29]⟩),3,(some (some 12,false))⟩,
 ⟨(some 18),(.call ⟨(.value (.func 78)), #[(.tmp 14),(.tmp 17)], #[23,3]⟩),4,(some (some 12,false))⟩,
 ⟨(some 19),(.unOp .not 4 (.tmp 18)),4,(some (some 12,false))⟩,
 ⟨(some 20),(.pick (.tmp 12) (.const (.bool true)) (.tmp 19)),4,none⟩,
 ⟨(some 21),(.move (.tmp 20)),4,none⟩,
 ⟨(some 22),(.fieldAddr 31 (.tmp 1) 2),0,(some (some 21,false))⟩,
 ⟨(some 23),(.load 23 (.tmp 22)),23,(some (some 21,false))⟩,
 ⟨(some 24),(.fieldAddr 31 (.tmp 1) 0),0,(some (some 21,false))⟩,
 ⟨(some 25),(.load 29 (.tmp 24)),29,(some (some 21,false))⟩,
 ⟨(some 26),(.call ⟨(.builtin .len), #[(.tmp 25)], #[29]⟩),3,(some (some 21,false))⟩,
 ⟨(some 27),(.call ⟨(.value (.func 79)), #[(.tmp 23),(.tmp 26)], #[23,3]⟩),4,(some (some 21,false))⟩,
 ⟨(some 28),(.unOp .not 4 (.tmp 27)),4,(some (some 21,false))⟩,
 ⟨(some 29),(.pick (.tmp 21) (.const (.bool true)) (.tmp 28)),4,none⟩])
 (.cond (.tmp 29)
 (.seq
 (.ops [
 ⟨(some 2),(.assign (.const (.bool false))),4,none⟩])
 .ret)
 .skip))
 (.seq
 (.seq
 (.ops [
 ⟨(some 30),(.fieldAddr 31 (.tmp 1) 0),0,none⟩,
 ⟨(some 31),(.load 29 (.tmp 30)),29,none⟩,
 ⟨(some 32),(.call ⟨(.builtin .len), #[(.tmp 31)], #[29]⟩),3,none⟩,
 ⟨(some 33),(.move (.const (.int .i64 0))),3,none⟩])
 (.block 0
 nD))
 (.seq
 (.ops [
 ⟨(some 2),(.assign (.const (.bool true))),4,none⟩])
 .ret)))
theorem A2H:Try.f37.body.map (Bh lends)=some k37:=by kernel_rfl
theorem AH6:CB Try.f37 1=true:=by kernel_rfl
theorem UY{a l:List D}{r:D×List D}(h:Bq Y.env k37 (fin AX l.length [ResultVar.tmp 2] r) (entry a l))(ha:a.length=1):Y.call 37 a l=some r:=
 AU (Y:=Y) rfl Try.func37 (ha▸AH6) A2H h
def Cc(A7:List (List (Int×Int)))(A9:List Int)(A8:List Int)(D8:Int)(I8:Int)(s:St):Prop:=s.v 1=D.box [D.sl 100 (AP (fun x=>D.sl 102 (AY .i64 .i64 x)) A7),D.sl 3 (AP (D.int .i64) A9),D.sl 3 (AP (D.int .i64) A8)]∧s.v 3=D.int .i64 D8∧s.v 31=D.sl 100 (AP (fun x=>D.sl 102 (AY .i64 .i64 x)) A7)∧s.v 32=D.int .i64 (A7.length:Int)∧s.v 33=D.int .i64 D8∧s.v 41=D.sl 102 (AY .i64 .i64 (A7.getD D8.toNat default))∧s.v 42=D.int .i64 ((A7.getD D8.toNat default).length:Int)∧s.v 43=D.int .i64 I8
def DC(A7:List (List (Int×Int)))(A9:List Int)(A8:List Int)(D8:Int)(r:Unit⊕Unit)(ex:Ex)(s:St):Prop:=match r with
 | .inl q=>ex= .ret∧s.v 2=D.bool false
 | .inr q=>ex= .exit 2∧s.v 1=D.box [D.sl 100 (AP (fun x=>D.sl 102 (AY .i64 .i64 x)) A7),D.sl 3 (AP (D.int .i64) A9),D.sl 3 (AP (D.int .i64) A8)]∧s.v 31=D.sl 100 (AP (fun x=>D.sl 102 (AY .i64 .i64 x)) A7)∧s.v 32=D.int .i64 (A7.length:Int)∧s.v 33=D.int .i64 D8
theorem PE(A7:List (List (Int×Int)))(A9:List Int)(A8:List Int)(D8:Int){v:Int}{s:St}{r:Unit⊕Unit}(h:Gl A7 A9 A8 D8 v=some r)(hM:Cc A7 A9 A8 D8 v s):Bq Y.env nC (DC A7 A9 A8 D8 r) s:=by
 unfold Gl at h
 refine BN (c:=XA) (fun v=>Dn A7 A9 A8 D8 v) (fun v s=>Cc A7 A9 A8 D8 v s) (DC A7 A9 A8 D8) ?_ h hM
 clear h hM s v r
 intro I8 s o hM h
 unfold Dn at h
 unfold Cc at hM
 obtain⟨m0,m1,m2,m3,m4,m5,m6,m7⟩:=hM
 unfold XA
 by_cases e11:I8<((A7.getD D8.toNat default).length:Int)
 ·rw [if_pos e11]at h
  obtain⟨e12,h⟩:=BF h
  obtain⟨rF,hl13,h⟩:=Ao h
  try dsimp only at h
  have oo:=ML A7 A9 A8 (BB (A7.getD D8.toNat default) I8.toNat) (Bt (A7.getD D8.toNat default) I8.toNat) hl13
  by_cases e14:rF=true
  ·rw [if_pos e14]at h
   obtain⟨e15,h⟩:=BF h
   obtain⟨e16,h⟩:=BF h
   by_cases e17:(((BB (A7.getD ((BB (A7.getD D8.toNat default) I8.toNat).toNat) default) ((Bt (A7.getD D8.toNat default) I8.toNat).toNat))==D8)&&((Bt (A7.getD ((BB (A7.getD D8.toNat default) I8.toNat).toNat) default) ((Bt (A7.getD D8.toNat default) I8.toNat).toNat))==I8))=true
   ·rw [if_pos e17]at h
    obtain rfl:=Option.some.inj h
    simp (maxDischargeDepth:=9) only [↓AO,AB,Ac,BP,AJ,AQ,↓reduceIte,Nat.reduceEqDiff,Nat.reduceLT,Nat.reduceLeDiff,Nat.reduceAdd,Nat.reduceBEq,m0,m1,m2,m3,m4,m5,m6,m7,e11,e12.1,e12.2,oo,e14,e15.1,e15.2,e16.1,e16.2,e17,Cc,Ik]
   ·rw [if_neg e17]at h
    have e17f:(((BB (A7.getD ((BB (A7.getD D8.toNat default) I8.toNat).toNat) default) ((Bt (A7.getD D8.toNat default) I8.toNat).toNat))==D8)&&((Bt (A7.getD ((BB (A7.getD D8.toNat default) I8.toNat).toNat) default) ((Bt (A7.getD D8.toNat default) I8.toNat).toNat))==I8))=false:=Bool.eq_false_iff.mpr e17
    obtain rfl:=Option.some.inj h
    simp (maxDischargeDepth:=9) only [↓AO,AB,Ac,BP,AJ,AQ,↓reduceIte,Nat.reduceEqDiff,Nat.reduceLT,Nat.reduceLeDiff,Nat.reduceAdd,Nat.reduceBEq,m0,m1,m5,m6,m7,e11,e12.1,e12.2,oo,e14,e15.1,e15.2,e16.1,e16.2,e17f,Cc,DC,Qp]
  ·rw [if_neg e14]at h
   have e14f:rF=false:=Bool.eq_false_iff.mpr e14
   obtain rfl:=Option.some.inj h
   simp (maxDischargeDepth:=9) only [↓AO,AB,BP,AJ,AQ,↓reduceIte,Nat.reduceEqDiff,Nat.reduceLT,Nat.reduceAdd,Nat.reduceBEq,m0,m1,m5,m6,m7,e11,e12.1,e12.2,oo,e14f,Cc,DC,Qp]
 ·rw [if_neg e11]at h
  obtain rfl:=Option.some.inj h
  simp (maxDischargeDepth:=9) only [↓AO,AB,AQ,↓reduceIte,Nat.reduceEqDiff,Nat.reduceLT,m0,m2,m3,m4,m6,m7,e11,Cc,DC,KF]
def Ce(A7:List (List (Int×Int)))(A9:List Int)(A8:List Int)(D8:Int)(s:St):Prop:=s.v 1=D.box [D.sl 100 (AP (fun x=>D.sl 102 (AY .i64 .i64 x)) A7),D.sl 3 (AP (D.int .i64) A9),D.sl 3 (AP (D.int .i64) A8)]∧s.v 31=D.sl 100 (AP (fun x=>D.sl 102 (AY .i64 .i64 x)) A7)∧s.v 32=D.int .i64 (A7.length:Int)∧s.v 33=D.int .i64 D8
def DD(A7:List (List (Int×Int)))(A9:List Int)(A8:List Int)(r:Unit⊕Unit)(ex:Ex)(s:St):Prop:=match r with
 | .inl q=>ex= .ret∧s.v 2=D.bool false
 | .inr q=>ex= .exit 0
theorem PG(A7:List (List (Int×Int)))(A9:List Int)(A8:List Int){v:Int}{s:St}{r:Unit⊕Unit}(h:Gm A7 A9 A8 v=some r)(hM:Ce A7 A9 A8 v s):Bq Y.env nD (DD A7 A9 A8 r) s:=by
 unfold Gm at h
 refine BN (c:=XB) (fun v=>Dp A7 A9 A8 v) (fun v s=>Ce A7 A9 A8 v s) (DD A7 A9 A8) ?_ h hM
 clear h hM s v r
 intro D8 s o hM h
 unfold Dp at h
 unfold Ce at hM
 obtain⟨m0,m1,m2,m3⟩:=hM
 unfold XB
 by_cases e8:D8<(A7.length:Int)
 ·rw [if_pos e8]at h
  obtain⟨e9,h⟩:=BF h
  by_cases e10:6<((A7.getD D8.toNat default).length:Int)
  ·rw [if_pos e10]at h
   obtain rfl:=Option.some.inj h
   simp (maxDischargeDepth:=9) only [↓AO,AB,Ac,BP,AJ,AQ,↓reduceIte,Nat.reduceEqDiff,Nat.reduceLT,m1,m2,m3,e8,e9.1,e9.2,e10,Ce,DD,Qp]
  ·rw [if_neg e10]at h
   obtain⟨UX,hl12,h⟩:=Ao h
   try dsimp only at h
   simp (maxDischargeDepth:=9) only [↓AO,AB,Ac,BP,AJ,AQ,↓reduceIte,Nat.reduceEqDiff,Nat.reduceLT,m1,m2,m3,e8,e9.1,e9.2,e10]
   refine Ay (PE A7 A9 A8 D8 hl12 ?_) ?_
   ·simp (maxDischargeDepth:=9) only [AB,↓reduceIte,Nat.reduceEqDiff,m0,m1,m2,m3,Cc]
   ·intro ex12 s12 hX12
    rcases UX with q12_ | q12_
    ·unfold DC at hX12
     dsimp only at hX12 h
     obtain⟨rfl,n12_0⟩:=hX12
     obtain rfl:=Option.some.inj h
     simp (maxDischargeDepth:=9) only [↓AO,AB,n12_0,Ce,DD,Qp]
    ·unfold DC at hX12
     dsimp only at hX12 h
     obtain⟨rfl,n12_0,n12_1,n12_2,n12_3⟩:=hX12
     obtain rfl:=Option.some.inj h
     simp (maxDischargeDepth:=9) only [↓AO,AB,AQ,↓reduceIte,Nat.reduceEqDiff,Nat.reduceLT,n12_0,n12_1,n12_2,n12_3,Ce,Ik]
 ·rw [if_neg e8]at h
  obtain rfl:=Option.some.inj h
  simp (maxDischargeDepth:=9) only [↓AO,AB,AQ,↓reduceIte,Nat.reduceLT,m2,m3,e8,Ce,DD,KF]
theorem Pz(A7:List (List (Int×Int)))(A9:List Int)(A8:List Int){r:Bool}(h:LB A7 A9 A8=some r):Y.call 37 [D.agg [D.sl 100 (AP (fun x=>D.sl 102 (AY .i64 .i64 x)) A7),D.sl 3 (AP (D.int .i64) A9),D.sl 3 (AP (D.int .i64) A8)]] []=some (D.bool r,[]):=by
 refine UY ?_ rfl
 unfold k37
 unfold LB at h
 have c1:=Gj (A7.length:Int) (1:Int) (40:Int)
 by_cases e2:(Gq (A7.length:Int) (1:Int) (40:Int))=true
 ·rw [if_pos e2]at h
  obtain⟨e3,h⟩:=BF h
  have c4:=dB A9 (A7.length:Int) e3
  by_cases e5:(Nj A9 (A7.length:Int))=true
  ·rw [if_pos e5]at h
   obtain⟨eP,hl6,h⟩:=Ao h
   try dsimp only at h
   have c6:=R4 A8 (A7.length:Int) hl6
   by_cases e7:eP=true
   ·rw [if_pos e7]at h
    obtain⟨nA,hl9,h⟩:=Ao h
    try dsimp only at h
    simp (maxDischargeDepth:=9) only [↓AO,AB,Ac,BP,AJ,AQ,↓reduceIte,Nat.reduceEqDiff,Nat.reduceLT,Nat.reduceAdd,c1,e2,c4,e5,c6,e7]
    refine Ay (PG A7 A9 A8 hl9 ?_) ?_
    ·simp (maxDischargeDepth:=9) only [AB,↓reduceIte,Nat.reduceEqDiff,Ce]
    ·intro ex9 s9 hX9
     rcases nA with q9_ | q9_
     ·unfold DD at hX9
      dsimp only at hX9 h
      obtain⟨rfl,n9_0⟩:=hX9
      obtain rfl:=Option.some.inj h
      simp (maxDischargeDepth:=9) only [↓AO,AB,AJ,↓reduceIte,n9_0]
     ·unfold DD at hX9
      dsimp only at hX9 h
      obtain rfl:=hX9
      obtain rfl:=Option.some.inj h
      simp (maxDischargeDepth:=9) only [↓AO,AB,AJ,AQ,↓reduceIte,Nat.reduceEqDiff,Nat.reduceLT]
   ·rw [if_neg e7]at h
    have e7f:eP=false:=Bool.eq_false_iff.mpr e7
    obtain rfl:=Option.some.inj h
    simp (maxDischargeDepth:=9) only [↓AO,AB,Ac,BP,AJ,AQ,↓reduceIte,Nat.reduceEqDiff,Nat.reduceLT,Nat.reduceAdd,c1,e2,c4,e5,c6,e7f]
  ·rw [if_neg e5]at h
   have e5f:(Nj A9 (A7.length:Int))=false:=Bool.eq_false_iff.mpr e5
   obtain rfl:=Option.some.inj h
   simp (maxDischargeDepth:=9) only [↓AO,AB,Ac,BP,AJ,AQ,↓reduceIte,Nat.reduceEqDiff,Nat.reduceLT,Nat.reduceAdd,c1,e2,c4,e5f]
 ·rw [if_neg e2]at h
  have e2f:(Gq (A7.length:Int) (1:Int) (40:Int))=false:=Bool.eq_false_iff.mpr e2
  obtain rfl:=Option.some.inj h
  simp (maxDischargeDepth:=9) only [↓AO,AB,Ac,BP,AJ,AQ,↓reduceIte,Nat.reduceEqDiff,Nat.reduceLT,Nat.reduceAdd,c1,e2f]
noncomputable def Fw(A7:List (List (Int×Int)))(A9:List Int)(A8:List Int)(CX:Int)(FE:Int):Option ((Int)⊕(Unit⊕Unit)):=
 if FE<((A7.getD CX.toNat default).length:Int)then
  ck (0≤FE∧FE.toNat<(A7.getD CX.toNat default).length)<|
  if(Gq (BB (A7.getD CX.toNat default) FE.toNat) (0:Int) (IntKind.i64.wrap ((A7.length:Int)-1)))=true then
   ck (0≤(BB (A7.getD CX.toNat default) FE.toNat)∧(BB (A7.getD CX.toNat default) FE.toNat).toNat<A7.length)<|
   if(Gq (Bt (A7.getD CX.toNat default) FE.toNat) (0:Int) (IntKind.i64.wrap (((A7.getD ((BB (A7.getD CX.toNat default) FE.toNat).toNat) default).length:Int)-1)))=true then
    ck (0≤(Bt (A7.getD CX.toNat default) FE.toNat)∧(Bt (A7.getD CX.toNat default) FE.toNat).toNat<(A7.getD ((BB (A7.getD CX.toNat default) FE.toNat).toNat) default).length)<|
    if(((BB (A7.getD ((BB (A7.getD CX.toNat default) FE.toNat).toNat) default) ((Bt (A7.getD CX.toNat default) FE.toNat).toNat))==CX)&&((Bt (A7.getD ((BB (A7.getD CX.toNat default) FE.toNat).toNat) default) ((Bt (A7.getD CX.toNat default) FE.toNat).toNat))==FE))=true then
     some (Sum.inl (IntKind.i64.wrap (FE+1)))
    else
     some (Sum.inr (Sum.inl ()))
   else
    some (Sum.inr (Sum.inl ()))
  else
   some (Sum.inr (Sum.inl ()))
 else
  some (Sum.inr (Sum.inr ()))
noncomputable def Jd(A7:List (List (Int×Int)))(A9:List Int)(A8:List Int)(CX:Int)(v:Int):Option (Unit⊕Unit):=Hy (fun v=>Fw A7 A9 A8 CX v) v
noncomputable def Fx(A7:List (List (Int×Int)))(A9:List Int)(A8:List Int)(CX:Int):Option ((Int)⊕(Unit⊕Unit)):=
 if CX<(A7.length:Int)then
  ck (0≤CX∧CX.toNat<A7.length)<|
  if 6<((A7.getD CX.toNat default).length:Int)then
   some (Sum.inr (Sum.inl ()))
  else
   (Jd A7 A9 A8 CX 0).bind fun AR=>
   match AR with
   | .inl q14_=>
    some (Sum.inr (Sum.inl ()))
   | .inr q14_=>
    some (Sum.inl (IntKind.i64.wrap (CX+1)))
 else
  some (Sum.inr (Sum.inr ()))
noncomputable def Je(A7:List (List (Int×Int)))(A9:List Int)(A8:List Int)(v:Int):Option (Unit⊕Unit):=Hy (fun v=>Fx A7 A9 A8 v) v
noncomputable def PH(A7:List (List (Int×Int)))(A9:List Int)(A8:List Int):Option (Bool):=
 if(Gq (A7.length:Int) (1:Int) (40:Int))=true then
  ck (A9.length<1099511627776)<|
  if(Nj A9 (A7.length:Int))=true then
   if(A8.length:Int)=(A7.length:Int)then
    ck (A8.length<1099511627776)<|
    if(IK A8 (0:Int) (9:Int))=true then
     (Je A7 A9 A8 0).bind fun dD=>
     match dD with
     | .inl q11_=>
      some false
     | .inr q11_=>
      some true
    else
     some false
   else
    some false
  else
   some false
 else
  some false
def XC:SC:=
 .seq
 (.ops [
 ⟨(some 50),(.binOp .lss 3 (.tmp 49) (.tmp 48) 3),0,none⟩])
 (.seq
 (.cond (.tmp 50)
 .skip
 (.exit 2))
 (.seq
 (.block 3
 (.seq
 (.ops [
 ⟨(some 51),(.move (.tmp 49)),3,none⟩,
 ⟨(some 52),(.indexAddr 100 (.tmp 47) (.tmp 49)),0,none⟩,
 ⟨(some 53),(.load 102 (.tmp 52)),102,none⟩,
 ⟨(some 6),(.alloc 102),0,none⟩,
 ⟨(some 5),(.assign (.tmp 51)),3,none⟩,
 ⟨none,(.store 102 (.tmp 6) (.tmp 53)),0,none⟩])
 (.seq
 (.draws [
 (⟨[54,6,6],[54,55,56,57,58,59,60,61,62,63,64,65,66,67,68,69,70,71,72,73,74,75,76,77,78,79,80,81,82,83,84,85,86,87,88,89,87,88,90,91],[54]⟩,⟨(some 54),(.fieldAddr 102 (.tmp 6) 0),0,none⟩),
 (⟨[55,54,6],[54,55,56,57,58,59,60,61,62,63,64,65,66,67,68,69,70,71,72,73,74,75,76,77,78,79,80,81,82,83,84,85,86,87,88,89,87,88,90,91],[55]⟩,⟨(some 55),(.load 3 (.tmp 54)),3,none⟩),
 (⟨[56,1,1],[54,55,56,57,58,59,60,61,62,63,64,65,66,67,68,69,70,71,72,73,74,75,76,77,78,79,80,81,82,83,84,85,86,87,88,89,87,88,90,91],[56]⟩,⟨(some 56),(.fieldAddr 31 (.tmp 1) 0),0,none⟩),
 (⟨[57,56,1],[54,55,56,57,58,59,60,61,62,63,64,65,66,67,68,69,70,71,72,73,74,75,76,77,78,79,80,81,82,83,84,85,86,87,88,89,87,88,90,91],[57]⟩,⟨(some 57),(.load 29 (.tmp 56)),29,none⟩),
 (⟨[58,57,1],[54,55,56,57,58,59,60,61,62,63,64,65,66,67,68,69,70,71,72,73,74,75,76,77,78,79,80,81,82,83,84,85,86,87,88,89,87,88,90,91],[58]⟩,⟨(some 58),(.call ⟨(.builtin .len), #[(.tmp 57)], #[29]⟩),3,none⟩),
 (⟨[59,58,58],[54,55,56,57,58,59,60,61,62,63,64,65,66,67,68,69,70,71,72,73,74,75,76,77,78,79,80,81,82,83,84,85,86,87,88,89,87,88,90,91],[59]⟩,⟨(some 59),(.binOp .sub 3 (.tmp 58) (.const (.int .i64 1)) 3),3,none⟩),
 (⟨[60,55,59,6,59],[54,55,56,57,58,59,60,61,62,63,64,65,66,67,68,69,70,71,72,73,74,75,76,77,78,79,80,81,82,83,84,85,86,87,88,89,87,88,90,91],[60]⟩,⟨(some 60),(.call ⟨(.value (.func 43)), #[(.tmp 55),(.const (.int .i64 0)),(.tmp 59)], #[3,3,3]⟩),4,none⟩),
 (⟨[61,60,60],[54,55,56,57,58,59,60,61,62,63,64,65,66,67,68,69,70,71,72,73,74,75,76,77,78,79,80,81,82,83,84,85,86,87,88,89,87,88,90,91],[61]⟩,⟨(some 61),(.unOp .not 4 (.tmp 60)),4,none⟩),
 (⟨[62,61,61],[54,55,56,57,58,59,60,61,62,63,64,65,66,67,68,69,70,71,72,73,74,75,76,77,78,79,80,81,82,83,84,85,86,87,88,89,87,88,90,91],[62]⟩,⟨(some 62),(.move (.tmp 61)),4,none⟩),
 (⟨[63,6,6,62],[54,55,56,57,58,59,60,61,62,63,64,65,66,67,68,69,70,71,72,73,74,75,76,77,78,79,80,81,82,83,84,85,86,87,88,89,87,88,90,91],[63]⟩,⟨(some 63),(.fieldAddr 102 (.tmp 6) 1),0,(some (some 62,false))⟩),
 (⟨[64,63,6,62],[54,55,56,57,58,59,60,61,62,63,64,65,66,67,68,69,70,71,72,73,74,75,76,77,78,79,80,81,82,83,84,85,86,87,88,89,87,88,90,91],[64]⟩,⟨(some 64),(.load 3 (.tmp 63)),3,(some (some 62,false))⟩),
 (⟨[65,1,1,62],[54,55,56,57,58,59,60,61,62,63,64,65,66,67,68,69,70,71,72,73,74,75,76,77,78,79,80,81,82,83,84,85,86,87,88,89,87,88,90,91],[65]⟩,⟨(some 65),(.fieldAddr 31 (.tmp 1) 0),0,(some (some 62,false))⟩),
 (⟨[66,65,1,62],[54,55,56,57,58,59,60,61,62,63,64,65,66,67,68,69,70,71,72,73,74,75,76,77,78,79,80,81,82,83,84,85,86,87,88,89,87,88,90,91],[66]⟩,⟨(some 66),(.load 29 (.tmp 65)),29,(some (some 62,false))⟩),
 (⟨[67,6,6,62],[54,55,56,57,58,59,60,61,62,63,64,65,66,67,68,69,70,71,72,73,74,75,76,77,78,79,80,81,82,83,84,85,86,87,88,89,87,88,90,91],[67]⟩,⟨(some 67),(.fieldAddr 102 (.tmp 6) 0),0,(some (some 62,false))⟩),
 (⟨[68,67,6,62],[54,55,56,57,58,59,60,61,62,63,64,65,66,67,68,69,70,71,72,73,74,75,76,77,78,79,80,81,82,83,84,85,86,87,88,89,87,88,90,91],[68]⟩,⟨(some 68),(.load 3 (.tmp 67)),3,(some (some 62,false))⟩),
 (⟨[69,66,68,1,6,62],[54,55,56,57,58,59,60,61,62,63,64,65,66,67,68,69,70,71,72,73,74,75,76,77,78,79,80,81,82,83,84,85,86,87,88,89,87,88,90,91],[69]⟩,⟨(some 69),(.indexAddr 29 (.tmp 66) (.tmp 68)),0,(some (some 62,false))⟩),
 (⟨[70,69,1,62],[54,55,56,57,58,59,60,61,62,63,64,65,66,67,68,69,70,71,72,73,74,75,76,77,78,79,80,81,82,83,84,85,86,87,88,89,87,88,90,91],[70]⟩,⟨(some 70),(.load 100 (.tmp 69)),100,(some (some 62,false))⟩),
 (⟨[71,70,1,62],[54,55,56,57,58,59,60,61,62,63,64,65,66,67,68,69,70,71,72,73,74,75,76,77,78,79,80,81,82,83,84,85,86,87,88,89,87,88,90,91],[71]⟩,⟨(some 71),(.call ⟨(.builtin .len), #[(.tmp 70)], #[100]⟩),3,(some (some 62,false))⟩),
 (⟨[72,71,71,62],[54,55,56,57,58,59,60,61,62,63,64,65,66,67,68,69,70,71,72,73,74,75,76,77,78,79,80,81,82,83,84,85,86,87,88,89,87,88,90,91],[72]⟩,⟨(some 72),(.binOp .sub 3 (.tmp 71) (.const (.int .i64 1)) 3),3,(some (some 62,false))⟩),
 (⟨[73,64,72,6,72,62],[54,55,56,57,58,59,60,61,62,63,64,65,66,67,68,69,70,71,72,73,74,75,76,77,78,79,80,81,82,83,84,85,86,87,88,89,87,88,90,91],[73]⟩,⟨(some 73),(.call ⟨(.value (.func 43)), #[(.tmp 64),(.const (.int .i64 0)),(.tmp 72)], #[3,3,3]⟩),4,(some (some 62,false))⟩),
 (⟨[74,73,73,62],[54,55,56,57,58,59,60,61,62,63,64,65,66,67,68,69,70,71,72,73,74,75,76,77,78,79,80,81,82,83,84,85,86,87,88,89,87,88,90,91],[74]⟩,⟨(some 74),(.unOp .not 4 (.tmp 73)),4,(some (some 62,false))⟩),
 (⟨[75,62,74,61,74],[54,55,56,57,58,59,60,61,62,63,64,65,66,67,68,69,70,71,72,73,74,75,76,77,78,79,80,81,82,83,84,85,86,87,88,89,87,88,90,91],[75]⟩,⟨(some 75),(.pick (.tmp 62) (.const (.bool true)) (.tmp 74)),4,none⟩),
 (⟨[76,75,75],[54,55,56,57,58,59,60,61,62,63,64,65,66,67,68,69,70,71,72,73,74,75,76,77,78,79,80,81,82,83,84,85,86,87,88,89,87,88,90,91],[76]⟩,⟨(some 76),(.move (.tmp 75)),4,none⟩),
 (⟨[77,1,1,76],[54,55,56,57,58,59,60,61,62,63,64,65,66,67,68,69,70,71,72,73,74,75,76,77,78,79,80,81,82,83,84,85,86,87,88,89,87,88,90,91],[77]⟩,⟨(some 77),(.fieldAddr 31 (.tmp 1) 0),0,(some (some 76,false))⟩),
 (⟨[78,77,1,76],[54,55,56,57,58,59,60,61,62,63,64,65,66,67,68,69,70,71,72,73,74,75,76,77,78,79,80,81,82,83,84,85,86,87,88,89,87,88,90,91],[78]⟩,⟨(some 78),(.load 29 (.tmp 77)),29,(some (some 76,false))⟩),
 (⟨[79,6,6,76],[54,55,56,57,58,59,60,61,62,63,64,65,66,67,68,69,70,71,72,73,74,75,76,77,78,79,80,81,82,83,84,85,86,87,88,89,87,88,90,91],[79]⟩,⟨(some 79),(.fieldAddr 102 (.tmp 6) 0),0,(some (some 76,false))⟩),
 (⟨[80,79,6,76],[54,55,56,57,58,59,60,61,62,63,64,65,66,67,68,69,70,71,72,73,74,75,76,77,78,79,80,81,82,83,84,85,86,87,88,89,87,88,90,91],[80]⟩,⟨(some 80),(.load 3 (.tmp 79)),3,(some (some 76,false))⟩),
 (⟨[81,78,80,1,6,76],[54,55,56,57,58,59,60,61,62,63,64,65,66,67,68,69,70,71,72,73,74,75,76,77,78,79,80,81,82,83,84,85,86,87,88,89,87,88,90,91],[81]⟩,⟨(some 81),(.indexAddr 29 (.tmp 78) (.tmp 80)),0,(some (some 76,false))⟩),
 (⟨[82,81,1,76],[54,55,56,57,58,59,60,61,62,63,64,65,66,67,68,69,70,71,72,73,74,75,76,77,78,79,80,81,82,83,84,85,86,87,88,89,87,88,90,91],[82]⟩,⟨(some 82),(.load 100 (.tmp 81)),100,(some (some 76,false))⟩),
 (⟨[83,6,6,76],[54,55,56,57,58,59,60,61,62,63,64,65,66,67,68,69,70,71,72,73,74,75,76,77,78,79,80,81,82,83,84,85,86,87,88,89,87,88,90,91],[83]⟩,⟨(some 83),(.fieldAddr 102 (.tmp 6) 1),0,(some (some 76,false))⟩),
 (⟨[84,83,6,76],[54,55,56,57,58,59,60,61,62,63,64,65,66,67,68,69,70,71,72,73,74,75,76,77,78,79,80,81,82,83,84,85,86,87,88,89,87,88,90,91],[84]⟩,⟨(some 84),(.load 3 (.tmp 83)),3,(some (some 76,false))⟩),
 (⟨[85,82,84,1,6,76],[54,55,56,57,58,59,60,61,62,63,64,65,66,67,68,69,70,71,72,73,74,75,76,77,78,79,80,81,82,83,84,85,86,87,88,89,87,88,90,91],[85]⟩,⟨(some 85),(.indexAddr 100 (.tmp 82) (.tmp 84)),0,(some (some 76,false))⟩),
 (⟨[86,85,1,76],[54,55,56,57,58,59,60,61,62,63,64,65,66,67,68,69,70,71,72,73,74,75,76,77,78,79,80,81,82,83,84,85,86,87,88,89,87,88,90,91],[86]⟩,⟨(some 86),(.load 102 (.tmp 85)),102,(some (some 76,false))⟩),
 (⟨[87,3,3,76],[54,55,56,57,58,59,60,61,62,63,64,65,66,67,68,69,70,71,72,73,74,75,76,77,78,79,80,81,82,83,84,85,86,87,88,89,87,88,90,91],[87]⟩,⟨(some 87),(.move (.tmp 3)),3,(some (some 76,false))⟩),
 (⟨[88,5,5,76],[54,55,56,57,58,59,60,61,62,63,64,65,66,67,68,69,70,71,72,73,74,75,76,77,78,79,80,81,82,83,84,85,86,87,88,89,87,88,90,91],[88]⟩,⟨(some 88),(.move (.tmp 5)),3,(some (some 76,false))⟩),
 (⟨[89,87,88,3,5,76],[54,55,56,57,58,59,60,61,62,63,64,65,66,67,68,69,70,71,72,73,74,75,76,77,78,79,80,81,82,83,84,85,86,87,88,89,87,88,90,91],[89,87,88]⟩,⟨(some 89),(.build 102 #[(0,(.tmp 87)),(1,(.tmp 88))]),102,(some (some 76,false))⟩),
 (⟨[90,86,89,1,89,76],[54,55,56,57,58,59,60,61,62,63,64,65,66,67,68,69,70,71,72,73,74,75,76,77,78,79,80,81,82,83,84,85,86,87,88,89,87,88,90,91],[90]⟩,⟨(some 90),(.binOp .neq 102 (.tmp 86) (.tmp 89) 102),4,(some (some 76,false))⟩),
 (⟨[91,76,90,75,90],[54,55,56,57,58,59,60,61,62,63,64,65,66,67,68,69,70,71,72,73,74,75,76,77,78,79,80,81,82,83,84,85,86,87,88,89,87,88,90,91],[91]⟩,⟨(some 91),(.pick (.tmp 76) (.const (.bool true)) (.tmp 90)),4,none⟩)])
 (.cond (.tmp 91)
 (.seq
 (.ops [
 ⟨(some 2),(.assign (.const (.bool false))),4,none⟩])
 .ret)
 .skip))))
 (.ops [
 ⟨(some 92),(.binOp .add 3 (.tmp 49) (.const (.int .i64 1)) 3),3,none⟩,
 ⟨(some 49),(.move (.tmp 92)),3,none⟩])))
def nE:SC:= .loop XC
def XD:SC:=
 .seq
 (.ops [
 ⟨(some 40),(.binOp .lss 3 (.tmp 39) (.tmp 38) 3),0,none⟩])
 (.seq
 (.cond (.tmp 40)
 .skip
 (.exit 0))
 (.seq
 (.block 1
 (.seq
 (.ops [
 ⟨(some 41),(.move (.tmp 39)),3,none⟩,
 ⟨(some 42),(.indexAddr 29 (.tmp 37) (.tmp 39)),0,none⟩,
 ⟨(some 43),(.load 100 (.tmp 42)),100,none⟩,
 ⟨(some 3),(.assign (.tmp 41)),3,none⟩,
 ⟨(some 4),(.assign (.tmp 43)),100,none⟩])
 (.seq
 (.seq
 (.ops [
 ⟨(some 44),(.move (.tmp 4)),100,none⟩,
 ⟨(some 45),(.call ⟨(.builtin .len), #[(.tmp 44)], #[100]⟩),3,none⟩,
 ⟨(some 46),(.binOp .gtr 3 (.tmp 45) (.const (.int .i64 6)) 3),4,none⟩])
 (.cond (.tmp 46)
 (.seq
 (.ops [
 ⟨(some 2),(.assign (.const (.bool false))),4,none⟩])
 .ret)
 .skip))
 (.seq
 (.ops [
 ⟨(some 47),(.move (.tmp 4)),100,none⟩,
 ⟨(some 48),(.call ⟨(.builtin .len), #[(.tmp 47)], #[100]⟩),3,none⟩,
 ⟨(some 49),(.move (.const (.int .i64 0))),3,none⟩])
 (.block 2
 nE)))))
 (.ops [
 ⟨(some 93),(.binOp .add 3 (.tmp 39) (.const (.int .i64 1)) 3),3,none⟩,
 ⟨(some 39),(.move (.tmp 93)),3,none⟩])))
def nG:SC:= .loop XD
def k33:SC:=
 .seq
 (.ops [
 ⟨(some 1),(.box 31 (.tmp 0)),0,none⟩,
 ⟨(some 2),(.assign (.const (.bool false))),4,none⟩])
 (.seq
 (.seq
 (.ops [
 ⟨(some 7),(.fieldAddr 31 (.tmp 1) 0),0,none⟩,
 ⟨(some 8),(.load 29 (.tmp 7)),29,none⟩,
 ⟨(some 9),(.call ⟨(.builtin .len), #[(.tmp 8)], #[29]⟩),3,none⟩,
 ⟨(some 10),(.call ⟨(.value (.func 43)), #[(.tmp 9),(.const (.int .i64 1)),(.const (.int .i64 40))], #[3,3,3]⟩),4,none⟩,
 ⟨(some 11),(.unOp .not 4 (.tmp 10)),4,none⟩,
 ⟨(some 12),(.move (.tmp 11)),4,none⟩,
 ⟨(some 13),(.fieldAddr 31 (.tmp 1) 1),0,(some (some 12,false))⟩,
 ⟨(some 14),(.load 23 (.tmp 13)),23,(some (some 12,false))⟩,
 ⟨(some 15),(.fieldAddr 31 (.tmp 1) 0),0,(some (some 12,false))⟩,
 ⟨(some 16),(.load 29 (.tmp 15)),29,(some (some 12,false))⟩,
 ⟨(some 17),(.call ⟨(.builtin .len), #[(.tmp 16)], #[29]⟩),3,(some (some 12,false))⟩,
 ⟨(some 18),(.call ⟨(.value (.func 71)), #[(.tmp 14),(.tmp 17)], #[23,3]⟩),4,(some (some 12,false))⟩,
 ⟨(some 19),(.unOp .not 4 (.tmp 18)),4,(some (some 12,false))⟩,
 ⟨(some 20),(.pick (.tmp 12) (.const (.bool true)) (.tmp 19)),4,none⟩,
 ⟨(some 21),(.move (.tmp 20)),4,none⟩,
 ⟨(some 22),(.fieldAddr 31 (.tmp 1) 2),0,(some (some 21,false))⟩,
 ⟨(some 23),(.load 23 (.tmp 22)),23,(some (some 21,false))⟩,
 ⟨(some 24),(.call ⟨(.builtin .len), #[(.tmp 23)], #[23]⟩),3,(some (some 21,false))⟩,
 ⟨(some 25),(.fieldAddr 31 (.tmp 1) 0),0,(some (some 21,false))⟩,
 ⟨(some 26),(.load 29 (.tmp 25)),29,(some (some 21,false))⟩,
 ⟨(some 27),(.call ⟨(.builtin .len), #[(.tmp 26)], #[29]⟩),3,(some (some 21,false))⟩,
 ⟨(some 28),(.binOp .neq 3 (.tmp 24) (.tmp 27) 3),4,(some (some 21,false))⟩,
 ⟨(some 29),(.pick (.tmp 21) (.const (.bool true)) (.tmp 28)),4,none⟩,
 ⟨(some 30),(.move (.tmp 29)),4,none⟩,
 ⟨(some 31),(.fieldAddr 31 (.tmp 1) 2),0,(some (some 30,false))⟩,
 ⟨(some 32),(.load 23 (.tmp 31)),23,(some (some 30,false))⟩,
 ⟨(some 33),(.call ⟨(.value (.func 72)), #[(.tmp 32),(.const (.int .i64 0)),(.const (.int .i64 9))], #[23,3,3]⟩),4,(some (some 30,false))⟩,
 ⟨(some 34),(.unOp .not 4 (.tmp 33)),4,(some (some 30,false))⟩,
 ⟨(some 35),(.pick (.tmp 30) (.const (.bool true)) (.tmp 34)),4,none⟩])
 (.cond (.tmp 35)
 (.seq
 (.ops [
 ⟨(some 2),(.assign (.const (.bool false))),4,none⟩])
 .ret)
 .skip))
 (.seq
 (.seq
 (.ops [
 ⟨(some 36),(.fieldAddr 31 (.tmp 1) 0),0,none⟩,
 ⟨(some 37),(.load 29 (.tmp 36)),29,none⟩,
 ⟨(some 38),(.call ⟨(.builtin .len), #[(.tmp 37)], #[29]⟩),3,none⟩,
 ⟨(some 39),(.move (.const (.int .i64 0))),3,none⟩])
 (.block 0
 nG))
 (.seq
 (.ops [
 ⟨(some 2),(.assign (.const (.bool true))),4,none⟩])
 .ret)))
theorem A2I:Try.f33.body.map (Bh lends)=some k33:=by kernel_rfl
theorem AH8:CB Try.f33 1=true:=by kernel_rfl
theorem dE{a l:List D}{r:D×List D}(h:Bq Y.env k33 (fin AX l.length [ResultVar.tmp 2] r) (entry a l))(ha:a.length=1):Y.call 33 a l=some r:=
 AU (Y:=Y) rfl Try.func33 (ha▸AH8) A2I h
def DJ(A7:List (List (Int×Int)))(A9:List Int)(A8:List Int)(CX:Int)(FE:Int)(s:St):Prop:=s.v 1=D.box [D.sl 100 (AP (fun x=>D.sl 102 (AY .i64 .i64 x)) A7),D.sl 3 (AP (D.int .i64) A9),D.sl 3 (AP (D.int .i64) A8)]∧s.v 3=D.int .i64 CX∧s.v 37=D.sl 100 (AP (fun x=>D.sl 102 (AY .i64 .i64 x)) A7)∧s.v 38=D.int .i64 (A7.length:Int)∧s.v 39=D.int .i64 CX∧s.v 47=D.sl 102 (AY .i64 .i64 (A7.getD CX.toNat default))∧s.v 48=D.int .i64 ((A7.getD CX.toNat default).length:Int)∧s.v 49=D.int .i64 FE
def Dj(A7:List (List (Int×Int)))(A9:List Int)(A8:List Int)(CX:Int)(r:Unit⊕Unit)(ex:Ex)(s:St):Prop:=match r with
 | .inl q=>ex= .ret∧s.v 2=D.bool false
 | .inr q=>ex= .exit 2∧s.v 1=D.box [D.sl 100 (AP (fun x=>D.sl 102 (AY .i64 .i64 x)) A7),D.sl 3 (AP (D.int .i64) A9),D.sl 3 (AP (D.int .i64) A8)]∧s.v 37=D.sl 100 (AP (fun x=>D.sl 102 (AY .i64 .i64 x)) A7)∧s.v 38=D.int .i64 (A7.length:Int)∧s.v 39=D.int .i64 CX
theorem TN(A7:List (List (Int×Int)))(A9:List Int)(A8:List Int)(CX:Int){v:Int}{s:St}{r:Unit⊕Unit}(h:Jd A7 A9 A8 CX v=some r)(hM:DJ A7 A9 A8 CX v s):Bq Y.env nE (Dj A7 A9 A8 CX r) s:=by
 unfold Jd at h
 refine BN (c:=XC) (fun v=>Fw A7 A9 A8 CX v) (fun v s=>DJ A7 A9 A8 CX v s) (Dj A7 A9 A8 CX) ?_ h hM
 clear h hM s v r
 intro FE s o hM h
 unfold Fw at h
 unfold DJ at hM
 obtain⟨m0,m1,m2,m3,m4,m5,m6,m7⟩:=hM
 unfold XC
 by_cases e13:FE<((A7.getD CX.toNat default).length:Int)
 ·rw [if_pos e13]at h
  obtain⟨e14,h⟩:=BF h
  have c15:=Iy (BB (A7.getD CX.toNat default) FE.toNat) (0:Int) (IntKind.i64.wrap ((A7.length:Int)-1))
  by_cases e16:(Gq (BB (A7.getD CX.toNat default) FE.toNat) (0:Int) (IntKind.i64.wrap ((A7.length:Int)-1)))=true
  ·rw [if_pos e16]at h
   obtain⟨e17,h⟩:=BF h
   have MC:=Iy (Bt (A7.getD CX.toNat default) FE.toNat) (0:Int) (IntKind.i64.wrap (((A7.getD ((BB (A7.getD CX.toNat default) FE.toNat).toNat) default).length:Int)-1))
   by_cases e19:(Gq (Bt (A7.getD CX.toNat default) FE.toNat) (0:Int) (IntKind.i64.wrap (((A7.getD ((BB (A7.getD CX.toNat default) FE.toNat).toNat) default).length:Int)-1)))=true
   ·rw [if_pos e19]at h
    obtain⟨e20,h⟩:=BF h
    by_cases e21:(((BB (A7.getD ((BB (A7.getD CX.toNat default) FE.toNat).toNat) default) ((Bt (A7.getD CX.toNat default) FE.toNat).toNat))==CX)&&((Bt (A7.getD ((BB (A7.getD CX.toNat default) FE.toNat).toNat) default) ((Bt (A7.getD CX.toNat default) FE.toNat).toNat))==FE))=true
    ·rw [if_pos e21]at h
     obtain rfl:=Option.some.inj h
     simp (maxDischargeDepth:=9) only [↓AO,AB,Ac,BP,AJ,AQ,↓reduceIte,Nat.reduceEqDiff,Nat.reduceLT,Nat.reduceLeDiff,Nat.reduceAdd,Nat.reduceBEq,m0,m1,m2,m3,m4,m5,m6,m7,e13,e14.1,e14.2,c15,e16,e17.1,e17.2,MC,e19,e20.1,e20.2,e21,DJ,Ik]
    ·rw [if_neg e21]at h
     have e21f:(((BB (A7.getD ((BB (A7.getD CX.toNat default) FE.toNat).toNat) default) ((Bt (A7.getD CX.toNat default) FE.toNat).toNat))==CX)&&((Bt (A7.getD ((BB (A7.getD CX.toNat default) FE.toNat).toNat) default) ((Bt (A7.getD CX.toNat default) FE.toNat).toNat))==FE))=false:=Bool.eq_false_iff.mpr e21
     obtain rfl:=Option.some.inj h
     simp (maxDischargeDepth:=9) only [↓AO,AB,Ac,BP,AJ,AQ,↓reduceIte,Nat.reduceEqDiff,Nat.reduceLT,Nat.reduceLeDiff,Nat.reduceAdd,Nat.reduceBEq,m0,m1,m5,m6,m7,e13,e14.1,e14.2,c15,e16,e17.1,e17.2,MC,e19,e20.1,e20.2,e21f,DJ,Dj,Qp]
   ·rw [if_neg e19]at h
    have e19f:(Gq (Bt (A7.getD CX.toNat default) FE.toNat) (0:Int) (IntKind.i64.wrap (((A7.getD ((BB (A7.getD CX.toNat default) FE.toNat).toNat) default).length:Int)-1)))=false:=Bool.eq_false_iff.mpr e19
    obtain rfl:=Option.some.inj h
    simp (maxDischargeDepth:=9) only [↓AO,AB,Ac,BP,AJ,AQ,↓reduceIte,Nat.reduceEqDiff,Nat.reduceLT,Nat.reduceAdd,Nat.reduceBEq,m0,m1,m5,m6,m7,e13,e14.1,e14.2,c15,e16,e17.1,e17.2,MC,e19f,DJ,Dj,Qp]
  ·rw [if_neg e16]at h
   have e16f:(Gq (BB (A7.getD CX.toNat default) FE.toNat) (0:Int) (IntKind.i64.wrap ((A7.length:Int)-1)))=false:=Bool.eq_false_iff.mpr e16
   obtain rfl:=Option.some.inj h
   simp (maxDischargeDepth:=9) only [↓AO,AB,Ac,BP,AJ,AQ,↓reduceIte,Nat.reduceEqDiff,Nat.reduceLT,Nat.reduceAdd,Nat.reduceBEq,m0,m1,m5,m6,m7,e13,e14.1,e14.2,c15,e16f,DJ,Dj,Qp]
 ·rw [if_neg e13]at h
  obtain rfl:=Option.some.inj h
  simp (maxDischargeDepth:=9) only [↓AO,AB,AQ,↓reduceIte,Nat.reduceEqDiff,Nat.reduceLT,m0,m2,m3,m4,m6,m7,e13,DJ,Dj,KF]
def Dk(A7:List (List (Int×Int)))(A9:List Int)(A8:List Int)(CX:Int)(s:St):Prop:=s.v 1=D.box [D.sl 100 (AP (fun x=>D.sl 102 (AY .i64 .i64 x)) A7),D.sl 3 (AP (D.int .i64) A9),D.sl 3 (AP (D.int .i64) A8)]∧s.v 37=D.sl 100 (AP (fun x=>D.sl 102 (AY .i64 .i64 x)) A7)∧s.v 38=D.int .i64 (A7.length:Int)∧s.v 39=D.int .i64 CX
def Ea(A7:List (List (Int×Int)))(A9:List Int)(A8:List Int)(r:Unit⊕Unit)(ex:Ex)(s:St):Prop:=match r with
 | .inl q=>ex= .ret∧s.v 2=D.bool false
 | .inr q=>ex= .exit 0
theorem TP(A7:List (List (Int×Int)))(A9:List Int)(A8:List Int){v:Int}{s:St}{r:Unit⊕Unit}(h:Je A7 A9 A8 v=some r)(hM:Dk A7 A9 A8 v s):Bq Y.env nG (Ea A7 A9 A8 r) s:=by
 unfold Je at h
 refine BN (c:=XD) (fun v=>Fx A7 A9 A8 v) (fun v s=>Dk A7 A9 A8 v s) (Ea A7 A9 A8) ?_ h hM
 clear h hM s v r
 intro CX s o hM h
 unfold Fx at h
 unfold Dk at hM
 obtain⟨m0,m1,m2,m3⟩:=hM
 unfold XD
 by_cases e10:CX<(A7.length:Int)
 ·rw [if_pos e10]at h
  obtain⟨e11,h⟩:=BF h
  by_cases e12:6<((A7.getD CX.toNat default).length:Int)
  ·rw [if_pos e12]at h
   obtain rfl:=Option.some.inj h
   simp (maxDischargeDepth:=9) only [↓AO,AB,Ac,BP,AJ,AQ,↓reduceIte,Nat.reduceEqDiff,Nat.reduceLT,m1,m2,m3,e10,e11.1,e11.2,e12,Dk,Ea,Qp]
  ·rw [if_neg e12]at h
   obtain⟨AR,hl14,h⟩:=Ao h
   try dsimp only at h
   simp (maxDischargeDepth:=9) only [↓AO,AB,Ac,BP,AJ,AQ,↓reduceIte,Nat.reduceEqDiff,Nat.reduceLT,m1,m2,m3,e10,e11.1,e11.2,e12]
   refine Ay (TN A7 A9 A8 CX hl14 ?_) ?_
   ·simp (maxDischargeDepth:=9) only [AB,↓reduceIte,Nat.reduceEqDiff,m0,m1,m2,m3,DJ]
   ·intro ex14 s14 hX14
    rcases AR with q14_ | q14_
    ·unfold Dj at hX14
     dsimp only at hX14 h
     obtain⟨rfl,n14_0⟩:=hX14
     obtain rfl:=Option.some.inj h
     simp (maxDischargeDepth:=9) only [↓AO,AB,n14_0,Dk,Ea,Qp]
    ·unfold Dj at hX14
     dsimp only at hX14 h
     obtain⟨rfl,n14_0,n14_1,n14_2,n14_3⟩:=hX14
     obtain rfl:=Option.some.inj h
     simp (maxDischargeDepth:=9) only [↓AO,AB,AQ,↓reduceIte,Nat.reduceEqDiff,Nat.reduceLT,n14_0,n14_1,n14_2,n14_3,Dk,Ik]
 ·rw [if_neg e10]at h
  obtain rfl:=Option.some.inj h
  simp (maxDischargeDepth:=9) only [↓AO,AB,AQ,↓reduceIte,Nat.reduceLT,m2,m3,e10,Dk,Ea,KF]
theorem UZ(A7:List (List (Int×Int)))(A9:List Int)(A8:List Int){r:Bool}(h:PH A7 A9 A8=some r):Y.call 33 [D.agg [D.sl 100 (AP (fun x=>D.sl 102 (AY .i64 .i64 x)) A7),D.sl 3 (AP (D.int .i64) A9),D.sl 3 (AP (D.int .i64) A8)]] []=some (D.bool r,[]):=by
 refine dE ?_ rfl
 unfold k33
 unfold PH at h
 have c1:=Iy (A7.length:Int) (1:Int) (40:Int)
 by_cases e2:(Gq (A7.length:Int) (1:Int) (40:Int))=true
 ·rw [if_pos e2]at h
  obtain⟨e3,h⟩:=BF h
  have c4:=dC A9 (A7.length:Int) e3
  by_cases e5:(Nj A9 (A7.length:Int))=true
  ·rw [if_pos e5]at h
   by_cases e6:(A8.length:Int)=(A7.length:Int)
   ·rw [if_pos e6]at h
    obtain⟨e7,h⟩:=BF h
    have c8:=bz A8 (0:Int) (9:Int) e7
    by_cases e9:(IK A8 (0:Int) (9:Int))=true
    ·rw [if_pos e9]at h
     obtain⟨dD,hl11,h⟩:=Ao h
     try dsimp only at h
     simp (maxDischargeDepth:=9) only [↓AO,AB,Ac,BP,AJ,AQ,↓reduceIte,Nat.reduceEqDiff,Nat.reduceLT,Nat.reduceAdd,c1,e2,c4,e5,decide_eq_true e6,c8,e9]
     refine Ay (TP A7 A9 A8 hl11 ?_) ?_
     ·simp (maxDischargeDepth:=9) only [AB,↓reduceIte,Nat.reduceEqDiff,Dk]
     ·intro ex11 s11 hX11
      rcases dD with q11_ | q11_
      ·unfold Ea at hX11
       dsimp only at hX11 h
       obtain⟨rfl,n11_0⟩:=hX11
       obtain rfl:=Option.some.inj h
       simp (maxDischargeDepth:=9) only [↓AO,AB,AJ,↓reduceIte,n11_0]
      ·unfold Ea at hX11
       dsimp only at hX11 h
       obtain rfl:=hX11
       obtain rfl:=Option.some.inj h
       simp (maxDischargeDepth:=9) only [↓AO,AB,AJ,AQ,↓reduceIte,Nat.reduceEqDiff,Nat.reduceLT]
    ·rw [if_neg e9]at h
     have e9f:(IK A8 (0:Int) (9:Int))=false:=Bool.eq_false_iff.mpr e9
     obtain rfl:=Option.some.inj h
     simp (maxDischargeDepth:=9) only [↓AO,AB,Ac,BP,AJ,AQ,↓reduceIte,Nat.reduceEqDiff,Nat.reduceLT,Nat.reduceAdd,c1,e2,c4,e5,decide_eq_true e6,c8,e9f]
   ·rw [if_neg e6]at h
    obtain rfl:=Option.some.inj h
    simp (maxDischargeDepth:=9) only [↓AO,AB,Ac,BP,AJ,AQ,↓reduceIte,Nat.reduceEqDiff,Nat.reduceLT,Nat.reduceAdd,c1,e2,c4,e5,e6]
  ·rw [if_neg e5]at h
   have e5f:(Nj A9 (A7.length:Int))=false:=Bool.eq_false_iff.mpr e5
   obtain rfl:=Option.some.inj h
   simp (maxDischargeDepth:=9) only [↓AO,AB,Ac,BP,AJ,AQ,↓reduceIte,Nat.reduceEqDiff,Nat.reduceLT,Nat.reduceAdd,c1,e2,c4,e5f]
 ·rw [if_neg e2]at h
  have e2f:(Gq (A7.length:Int) (1:Int) (40:Int))=false:=Bool.eq_false_iff.mpr e2
  obtain rfl:=Option.some.inj h
  simp (maxDischargeDepth:=9) only [↓AO,AB,Ac,BP,AJ,AQ,↓reduceIte,Nat.reduceEqDiff,Nat.reduceLT,Nat.reduceAdd,c1,e2f]
def PI(es:List (List (Int×Int)))(v i:Nat):Bool:=
 Gq (BB (es.getD v default) i) 0 ((es.length:Int)-1)&&
 (Gq (Bt (es.getD v default) i) 0 (((es.getD (BB (es.getD v default) i).toNat default).length:Int)-1)&&
 ((BB (es.getD (BB (es.getD v default) i).toNat default) (Bt (es.getD v default) i).toNat==(v:Int))&&(Bt (es.getD (BB (es.getD v default) i).toNat default) (Bt (es.getD v default) i).toNat==(i:Int))))
theorem Q3(es:List (List (Int×Int)))(v i:Nat):PI es v i=(Gq (BB (es.getD v default) i) 0 ((es.length:Int)-1)&&
 (Gq (Bt (es.getD v default) i) 0 (((es.getD (BB (es.getD v default) i).toNat default).length:Int)-1)&&
 ((BB (es.getD (BB (es.getD v default) i).toNat default) (Bt (es.getD v default) i).toNat==(v:Int))&&(Bt (es.getD (BB (es.getD v default) i).toNat default) (Bt (es.getD v default) i).toNat==(i:Int))))):=rfl
def PK(es:List (List (Int×Int)))(v:Nat):Bool:=decide ((es.getD v default).length≤6)&&(List.range (es.getD v default).length).all (PI es v)
theorem Nf(es:List (List (Int×Int)))(v:Nat):PK es v=(decide ((es.getD v default).length≤6)&&(List.range (es.getD v default).length).all (PI es v)):=rfl
def Eg(es:List (List (Int×Int)))(ids ins:List Int):Bool:=
 Gq es.length 1 40&&(Nj ids es.length&&(decide ((ins.length:Int)=es.length)&&(IK ins 0 9&&(List.range es.length).all (PK es))))
theorem nH(es:List (List (Int×Int)))(ids ins:List Int)(h:BX es)(v:Nat):Gl es ids ins (v:Int) 0=some (if(List.range (es.getD v default).length).all (PI es v)=true then .inr ()else .inl ()):=by
 have h1:=h.1
 have h2:=h.getD v
 unfold Gl
 refine IZ (fun x=>Dn es ids ins (v:Int) x) (fun i=>(i:Int)) (es.getD v default).length (PI es v) (.inl ()) (.inr ()) ?_ ?_
 ·intro i hi
  have h3:=h.getD (BB (es.getD v default) i).toNat
  simp only [Dn,GR,DU,Int.toNat_natCast]
  rw [Q3,if_pos (BV hi),BL (by omega),Option.bind_some,LP _ (by omega),LP _ (by omega),KH i (by omega)]
  cases r1:Gq (BB (es.getD v default) i) 0 ((es.length:Int)-1)with
  | false=>simp
  | true=>
   have r1':=Jv.1 r1
   rw [if_pos rfl,BL (by omega),Option.bind_some]
   cases r2:Gq (Bt (es.getD v default) i) 0 (((es.getD (BB (es.getD v default) i).toNat default).length:Int)-1)with
   | false=>simp
   | true=>
    have r2':=Jv.1 r2
    rw [if_pos rfl,BL (by omega),BL (by omega),Bool.true_and,Bool.true_and]
 ·simp only [Dn,Int.toNat_natCast]
  rw [if_neg (Ag _)]
theorem nI(es:List (List (Int×Int)))(ids ins:List Int)(h:BX es)(v:Nat):Jd es ids ins (v:Int) 0=some (if(List.range (es.getD v default).length).all (PI es v)=true then .inr ()else .inl ()):=by
 have h1:=h.1
 have h2:=h.getD v
 unfold Jd
 refine IZ (fun x=>Fw es ids ins (v:Int) x) (fun i=>(i:Int)) (es.getD v default).length (PI es v) (.inl ()) (.inr ()) ?_ ?_
 ·intro i hi
  have h3:=h.getD (BB (es.getD v default) i).toNat
  simp only [Fw,Int.toNat_natCast]
  rw [Q3,if_pos (BV hi),BL (by omega),LP _ (by omega),LP _ (by omega),KH i (by omega)]
  cases r1:Gq (BB (es.getD v default) i) 0 ((es.length:Int)-1)with
  | false=>simp
  | true=>
   have r1':=Jv.1 r1
   rw [if_pos rfl,BL (by omega)]
   cases r2:Gq (Bt (es.getD v default) i) 0 (((es.getD (BB (es.getD v default) i).toNat default).length:Int)-1)with
   | false=>simp
   | true=>
    have r2':=Jv.1 r2
    rw [if_pos rfl,BL (by omega),Bool.true_and,Bool.true_and]
 ·simp only [Fw,Int.toNat_natCast]
  rw [if_neg (Ag _)]
theorem nJ(es:List (List (Int×Int)))(ids ins:List Int)(h:BX es):Gm es ids ins 0=some (if(List.range es.length).all (PK es)=true then .inr ()else .inl ()):=by
 have h1:=h.1
 unfold Gm
 refine IZ (fun x=>Dp es ids ins x) (fun i=>(i:Int)) es.length (PK es) (.inl ()) (.inr ()) ?_ ?_
 ·intro v hv
  simp only [Dp,Int.toNat_natCast]
  rw [Nf,if_pos (BV hv),BL (by omega),nH es ids ins h v,Option.bind_some,KH v (by omega)]
  by_cases h6:(es.getD v default).length≤6
  ·rw [if_neg (by omega),decide_eq_true h6,Bool.true_and]
   cases (List.range (es.getD v default).length).all (PI es v)<;>rfl
  ·rw [if_pos (by omega),decide_eq_false h6];rfl
 ·simp only [Dp]
  rw [if_neg (Ag _)]
theorem nK(es:List (List (Int×Int)))(ids ins:List Int)(h:BX es):Je es ids ins 0=some (if(List.range es.length).all (PK es)=true then .inr ()else .inl ()):=by
 have h1:=h.1
 unfold Je
 refine IZ (fun x=>Fx es ids ins x) (fun i=>(i:Int)) es.length (PK es) (.inl ()) (.inr ()) ?_ ?_
 ·intro v hv
  simp only [Fx,Int.toNat_natCast]
  rw [Nf,if_pos (BV hv),BL (by omega),nI es ids ins h v,Option.bind_some,KH v (by omega)]
  by_cases h6:(es.getD v default).length≤6
  ·rw [if_neg (by omega),decide_eq_true h6,Bool.true_and]
   cases (List.range (es.getD v default).length).all (PI es v)<;>rfl
  ·rw [if_pos (by omega),decide_eq_false h6];rfl
 ·simp only [Fx]
  rw [if_neg (Ag _)]
theorem TQ(es:List (List (Int×Int)))(ids ins:List Int)(h:BX es)(h2:ids.length<1099511627776)(h3:ins.length<1099511627776):LB es ids ins=some (Eg es ids ins):=by
 unfold LB Eg
 rw [BL h2,nJ es ids ins h]
 unfold MK
 rw [BL h3]
 cases Gq es.length 1 40 with
 | false=>rfl
 | true=>
  cases Nj ids es.length with
  | false=>rfl
  | true=>
   by_cases hl:(ins.length:Int)=es.length
   ·rw [if_pos hl,decide_eq_true hl]
    cases IK ins 0 9 with
    | false=>rfl
    | true=>cases (List.range es.length).all (PK es)<;>rfl
   ·rw [if_neg hl,decide_eq_false hl];rfl
theorem ZV(es:List (List (Int×Int)))(ids ins:List Int)(h:BX es)(h2:ids.length<1099511627776)(h3:ins.length<1099511627776):PH es ids ins=some (Eg es ids ins):=by
 unfold PH Eg
 rw [BL h2,BL h3,nK es ids ins h]
 cases Gq es.length 1 40 with
 | false=>rfl
 | true=>
  cases Nj ids es.length with
  | false=>rfl
  | true=>
   by_cases hl:(ins.length:Int)=es.length
   ·rw [if_pos hl,decide_eq_true hl]
    cases IK ins 0 9 with
    | false=>rfl
    | true=>cases (List.range es.length).all (PK es)<;>rfl
   ·rw [if_neg hl,decide_eq_false hl];rfl
theorem TR(A7:List (List (Int×Int)))(A9:List Int)(A8:List Int)(h0:BX A7)(h1:A9.length<1099511627776)(h2:A8.length<1099511627776):Y.call 37 [D.agg [D.sl 100 (AP (fun x=>D.sl 102 (AY .i64 .i64 x)) A7),D.sl 3 (AP (D.int .i64) A9),D.sl 3 (AP (D.int .i64) A8)]] []=some (D.bool (Eg A7 A9 A8),[]):=Pz A7 A9 A8 (TQ A7 A9 A8 h0 h1 h2)
theorem ZW(A7:List (List (Int×Int)))(A9:List Int)(A8:List Int)(h0:BX A7)(h1:A9.length<1099511627776)(h2:A8.length<1099511627776):Y.call 33 [D.agg [D.sl 100 (AP (fun x=>D.sl 102 (AY .i64 .i64 x)) A7),D.sl 3 (AP (D.int .i64) A9),D.sl 3 (AP (D.int .i64) A8)]] []=some (D.bool (Eg A7 A9 A8),[]):=UZ A7 A9 A8 (ZV A7 A9 A8 h0 h1 h2)
end Go.Proofs.Ytipfckompmhljaa
