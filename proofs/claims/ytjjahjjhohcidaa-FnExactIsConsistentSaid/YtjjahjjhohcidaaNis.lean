/- When lists are a network, as plain functions. Conditions: the lists are short. -/
import Derived.Test.YtjjahjjhohcidaaL6
import Derived.Test.YtjjahjjhohcidaaNet
namespace Go.Proofs.Ytjjahjjhohcidaa
open Go Dv
set_option linter.unusedSimpArgs false
set_option linter.unusedVariables false
set_option maxRecDepth 100000
set_option maxHeartbeats 4000000
noncomputable def Bl(list:List Int)(low:Int)(high:Int)(Da:Int):Option ((Int)⊕(Unit⊕Unit)):=
 if Da<(list.length:Int)then
  ck (0≤Da∧Da.toNat<list.length)<|
  if(EC (list.getD Da.toNat default) low high)=true then
   if 0<Da then
    ck (0≤IntKind.i64.wrap (Da-1)∧(IntKind.i64.wrap (Da-1)).toNat<list.length)<|
    if(list.getD Da.toNat default)≤(list.getD ((IntKind.i64.wrap (Da-1)).toNat) default)then
     some (Sum.inr (Sum.inl ()))
    else
     some (Sum.inl (IntKind.i64.wrap (Da+1)))
   else
    some (Sum.inl (IntKind.i64.wrap (Da+1)))
  else
   some (Sum.inr (Sum.inl ()))
 else
  some (Sum.inr (Sum.inr ()))
noncomputable def Du(list:List Int)(low:Int)(high:Int)(v:Int):Option (Unit⊕Unit):=Gc (fun v=>Bl list low high v) v
noncomputable def Ef(list:List Int)(low:Int)(high:Int):Option (Bool):=
 (Du list low high 0).bind fun JO=>
 match JO with
 | .inl q2_=>
  some false
 | .inr q2_=>
  some true
def Kg:SC:=
 .seq
 (.ops [
 ⟨(some 12),(.binOp .lss 3 (.tmp 11) (.tmp 10) 3),0,none⟩])
 (.seq
 (.cond (.tmp 12)
 .skip
 (.exit 0))
 (.seq
 (.block 1
 (.seq
 (.ops [
 ⟨(some 13),(.move (.tmp 11)),3,none⟩,
 ⟨(some 14),(.indexAddr 23 (.tmp 9) (.tmp 11)),0,none⟩,
 ⟨(some 15),(.load 3 (.tmp 14)),3,none⟩,
 ⟨(some 7),(.assign (.tmp 13)),3,none⟩,
 ⟨(some 8),(.assign (.tmp 15)),3,none⟩])
 (.seq
 (.ops [
 ⟨(some 16),(.move (.tmp 8)),3,none⟩,
 ⟨(some 17),(.move (.tmp 1)),3,none⟩,
 ⟨(some 18),(.move (.tmp 2)),3,none⟩,
 ⟨(some 19),(.call ⟨(.value (.func 84)), #[(.tmp 16),(.tmp 17),(.tmp 18)], #[3,3,3]⟩),4,none⟩,
 ⟨(some 20),(.unOp .not 4 (.tmp 19)),4,none⟩,
 ⟨(some 21),(.move (.tmp 20)),4,none⟩,
 ⟨(some 22),(.move (.tmp 7)),3,(some (some 21,false))⟩,
 ⟨(some 23),(.binOp .gtr 3 (.tmp 22) (.const (.int .i64 0)) 3),4,(some (some 21,false))⟩,
 ⟨(some 24),(.move (.tmp 23)),4,(some (some 21,false))⟩,
 ⟨(some 25),(.move (.tmp 0)),23,(some (some 24,true))⟩,
 ⟨(some 26),(.move (.tmp 7)),3,(some (some 24,true))⟩,
 ⟨(some 27),(.binOp .sub 3 (.tmp 26) (.const (.int .i64 1)) 3),3,(some (some 24,true))⟩,
 ⟨(some 28),(.indexAddr 23 (.tmp 25) (.tmp 27)),0,(some (some 24,true))⟩,
 ⟨(some 29),(.load 3 (.tmp 28)),3,(some (some 24,true))⟩,
 ⟨(some 30),(.move (.tmp 8)),3,(some (some 24,true))⟩,
 ⟨(some 31),(.binOp .geq 3 (.tmp 29) (.tmp 30) 3),4,(some (some 24,true))⟩,
 ⟨(some 32),(.pick (.tmp 24) (.tmp 31) (.const (.bool false))),4,(some (some 21,false))⟩,
 ⟨(some 33),(.pick (.tmp 21) (.const (.bool true)) (.tmp 32)),4,none⟩])
 (.cond (.tmp 33)
 (.seq
 (.ops [
 ⟨(some 6),(.assign (.const (.bool false))),4,none⟩])
 .ret)
 .skip))))
 (.ops [
 ⟨(some 34),(.binOp .add 3 (.tmp 11) (.const (.int .i64 1)) 3),3,none⟩,
 ⟨(some 11),(.move (.tmp 34)),3,none⟩])))
def Qy:SC:= .loop Kg
def bz:SC:=
 .seq
 (.ops [
 ⟨(some 6),(.assign (.const (.bool false))),4,none⟩])
 (.seq
 (.seq
 (.ops [
 ⟨(some 9),(.move (.tmp 0)),23,none⟩,
 ⟨(some 10),(.call ⟨(.builtin .len), #[(.tmp 9)], #[23]⟩),3,none⟩,
 ⟨(some 11),(.move (.const (.int .i64 0))),3,none⟩])
 (.block 0
 Qy))
 (.seq
 (.ops [
 ⟨(some 6),(.assign (.const (.bool true))),4,none⟩])
 .ret))
theorem Vm:Try.f121.body.map (BZ lends)=some bz:=by kernel_rfl
theorem mt:CD Try.f121 3=true:=by kernel_rfl
theorem uT{a l:List D}{r:D×List D}(h:Bw Y.env bz (Ew AE l.length [ResultVar.tmp 6] r) (entry a l))(ha:a.length=3):Y.call 121 a l=some r:=
 AN (Y:=Y) rfl Try.func121 (ha▸mt) Vm h
def B2(list:List Int)(low:Int)(high:Int)(Da:Int)(s:St):Prop:=s.v 0=D.sl 3 (A8 (D.int .i64) list)∧s.v 1=D.int .i64 low∧s.v 2=D.int .i64 high∧s.v 9=D.sl 3 (A8 (D.int .i64) list)∧s.v 10=D.int .i64 (list.length:Int)∧s.v 11=D.int .i64 Da
def B3(list:List Int)(low:Int)(high:Int)(r:Unit⊕Unit)(ex:Ex)(s:St):Prop:=match r with
 | .inl q=>ex= .ret∧s.v 6=D.bool false
 | .inr q=>ex= .exit 0
theorem HN(list:List Int)(low:Int)(high:Int){v:Int}{s:St}{r:Unit⊕Unit}(h:Du list low high v=some r)(hM:B2 list low high v s):Bw Y.env Qy (B3 list low high r) s:=by
 unfold Du at h
 refine CO (c:=Kg) (fun v=>Bl list low high v) (fun v s=>B2 list low high v s) (B3 list low high) ?_ h hM
 clear h hM s v r
 intro Da s o hM h
 unfold Bl at h
 unfold B2 at hM
 obtain⟨m0,m1,m2,m3,m4,m5⟩:=hM
 unfold Kg
 by_cases e1:Da<(list.length:Int)
 ·rw [if_pos e1]at h
  obtain⟨e2,h⟩:=C7 h
  have c3:=EV (list.getD Da.toNat default) low high
  by_cases e4:(EC (list.getD Da.toNat default) low high)=true
  ·rw [if_pos e4]at h
   by_cases e5:0<Da
   ·rw [if_pos e5]at h
    obtain⟨e6,h⟩:=C7 h
    by_cases e7:(list.getD Da.toNat default)≤(list.getD ((IntKind.i64.wrap (Da-1)).toNat) default)
    ·rw [if_pos e7]at h
     obtain rfl:=Option.some.inj h
     simp (maxDischargeDepth:=9) only [↓A9,A5,AB,AY,A6,AA,AZ,↓reduceIte,Nat.reduceEqDiff,Nat.reduceLT,Nat.reduceLeDiff,Nat.reduceAdd,Nat.reduceMul,Nat.reduceMod,Nat.reduceDiv,Nat.reducePow,Nat.reduceSub,Nat.reduceBEq,Int.reduceLE,Int.reduceLT,Int.reduceEq,Int.reduceSub,Int.reduceAdd,Int.reduceToNat,Int.reduceNeg,m0,m1,m2,m3,m4,m5,e1,e2.1,e2.2,c3,e4,e5,e6.1,e6.2,e7,B2,B3,D6,D7,D8]<;>(repeat' apply And.intro)<;>first | rfl | exact⟨_,rfl⟩ | exact⟨_,_,rfl⟩ | simp [A8,A3]
    ·rw [if_neg e7]at h
     obtain rfl:=Option.some.inj h
     simp (maxDischargeDepth:=9) only [↓A9,A5,AB,AY,A6,AA,AZ,↓reduceIte,Nat.reduceEqDiff,Nat.reduceLT,Nat.reduceLeDiff,Nat.reduceAdd,Nat.reduceMul,Nat.reduceMod,Nat.reduceDiv,Nat.reducePow,Nat.reduceSub,Nat.reduceBEq,Int.reduceLE,Int.reduceLT,Int.reduceEq,Int.reduceSub,Int.reduceAdd,Int.reduceToNat,Int.reduceNeg,m0,m1,m2,m3,m4,m5,e1,e2.1,e2.2,c3,e4,e5,e6.1,e6.2,e7,B2,B3,D6,D7,D8]<;>(repeat' apply And.intro)<;>first | rfl | exact⟨_,rfl⟩ | exact⟨_,_,rfl⟩ | simp [A8,A3]
   ·rw [if_neg e5]at h
    obtain rfl:=Option.some.inj h
    simp (maxDischargeDepth:=9) only [↓A9,A5,AB,AY,A6,AA,AZ,↓reduceIte,Nat.reduceEqDiff,Nat.reduceLT,Nat.reduceLeDiff,Nat.reduceAdd,Nat.reduceMul,Nat.reduceMod,Nat.reduceDiv,Nat.reducePow,Nat.reduceSub,Nat.reduceBEq,Int.reduceLE,Int.reduceLT,Int.reduceEq,Int.reduceSub,Int.reduceAdd,Int.reduceToNat,Int.reduceNeg,m0,m1,m2,m3,m4,m5,e1,e2.1,e2.2,c3,e4,e5,B2,B3,D6,D7,D8]<;>(repeat' apply And.intro)<;>first | rfl | exact⟨_,rfl⟩ | exact⟨_,_,rfl⟩ | simp [A8,A3]
  ·rw [if_neg e4]at h
   have e4f:(EC (list.getD Da.toNat default) low high)=false:=Bool.eq_false_iff.mpr e4
   obtain rfl:=Option.some.inj h
   simp (maxDischargeDepth:=9) only [↓A9,A5,AB,AY,A6,AA,AZ,↓reduceIte,Nat.reduceEqDiff,Nat.reduceLT,Nat.reduceLeDiff,Nat.reduceAdd,Nat.reduceMul,Nat.reduceMod,Nat.reduceDiv,Nat.reducePow,Nat.reduceSub,Nat.reduceBEq,Int.reduceLE,Int.reduceLT,Int.reduceEq,Int.reduceSub,Int.reduceAdd,Int.reduceToNat,Int.reduceNeg,m0,m1,m2,m3,m4,m5,e1,e2.1,e2.2,c3,e4f,B2,B3,D6,D7,D8]<;>(repeat' apply And.intro)<;>first | rfl | exact⟨_,rfl⟩ | exact⟨_,_,rfl⟩ | simp [A8,A3]
 ·rw [if_neg e1]at h
  obtain rfl:=Option.some.inj h
  simp (maxDischargeDepth:=9) only [↓A9,A5,AB,AY,A6,AA,AZ,↓reduceIte,Nat.reduceEqDiff,Nat.reduceLT,Nat.reduceLeDiff,Nat.reduceAdd,Nat.reduceMul,Nat.reduceMod,Nat.reduceDiv,Nat.reducePow,Nat.reduceSub,Nat.reduceBEq,Int.reduceLE,Int.reduceLT,Int.reduceEq,Int.reduceSub,Int.reduceAdd,Int.reduceToNat,Int.reduceNeg,m0,m1,m2,m3,m4,m5,e1,B2,B3,D6,D7,D8]<;>(repeat' apply And.intro)<;>first | rfl | exact⟨_,rfl⟩ | exact⟨_,_,rfl⟩ | simp [A8,A3]
theorem I5(list:List Int)(low:Int)(high:Int){r:Bool}(h:Ef list low high=some r):Y.call 121 [D.sl 3 (A8 (D.int .i64) list),D.int .i64 low,D.int .i64 high] []=some (D.bool r,[]):=by
 refine uT ?_ rfl
 unfold bz
 unfold Ef at h
 obtain⟨JO,hl2,h⟩:=Bg h
 try dsimp only at h
 simp (maxDischargeDepth:=9) only [↓A9,A5,AB,AY,A6,AA,AZ,↓reduceIte,Nat.reduceEqDiff,Nat.reduceLT,Nat.reduceLeDiff,Nat.reduceAdd,Nat.reduceMul,Nat.reduceMod,Nat.reduceDiv,Nat.reducePow,Nat.reduceSub,Nat.reduceBEq,Int.reduceLE,Int.reduceLT,Int.reduceEq,Int.reduceSub,Int.reduceAdd,Int.reduceToNat,Int.reduceNeg]
 refine Ba (HN list low high hl2 ?_) ?_
 ·simp (maxDischargeDepth:=9) only [↓A9,A5,AB,AY,A6,AA,AZ,↓reduceIte,Nat.reduceEqDiff,Nat.reduceLT,Nat.reduceLeDiff,Nat.reduceAdd,Nat.reduceMul,Nat.reduceMod,Nat.reduceDiv,Nat.reducePow,Nat.reduceSub,Nat.reduceBEq,Int.reduceLE,Int.reduceLT,Int.reduceEq,Int.reduceSub,Int.reduceAdd,Int.reduceToNat,Int.reduceNeg,B2]<;>(repeat' apply And.intro)<;>first | rfl | exact⟨_,rfl⟩ | exact⟨_,_,rfl⟩ | simp [A8,A3]
 ·intro ex2 s2 hX2
  rcases JO with q2_ | q2_
  ·unfold B3 at hX2
   dsimp only at hX2 h
   obtain⟨rfl,n2_0⟩:=hX2
   obtain rfl:=Option.some.inj h
   simp (maxDischargeDepth:=9) only [↓A9,A5,AB,AY,A6,AA,AZ,↓reduceIte,Nat.reduceEqDiff,Nat.reduceLT,Nat.reduceLeDiff,Nat.reduceAdd,Nat.reduceMul,Nat.reduceMod,Nat.reduceDiv,Nat.reducePow,Nat.reduceSub,Nat.reduceBEq,Int.reduceLE,Int.reduceLT,Int.reduceEq,Int.reduceSub,Int.reduceAdd,Int.reduceToNat,Int.reduceNeg,n2_0]<;>(repeat' apply And.intro)<;>first | rfl | exact⟨_,rfl⟩ | exact⟨_,_,rfl⟩ | simp [A8,A3]
  ·unfold B3 at hX2
   dsimp only at hX2 h
   obtain rfl:=hX2
   obtain rfl:=Option.some.inj h
   simp (maxDischargeDepth:=9) only [↓A9,A5,AB,AY,A6,AA,AZ,↓reduceIte,Nat.reduceEqDiff,Nat.reduceLT,Nat.reduceLeDiff,Nat.reduceAdd,Nat.reduceMul,Nat.reduceMod,Nat.reduceDiv,Nat.reducePow,Nat.reduceSub,Nat.reduceBEq,Int.reduceLE,Int.reduceLT,Int.reduceEq,Int.reduceSub,Int.reduceAdd,Int.reduceToNat,Int.reduceNeg]<;>(repeat' apply And.intro)<;>first | rfl | exact⟨_,rfl⟩ | exact⟨_,_,rfl⟩ | simp [A8,A3]
def Kh(l:List Int)(lo hi:Int):Bool:=(List.range l.length).all fun i=>EC (l.getD i default) lo hi&&(decide (i=0)||decide (l.getD (i-1) default<l.getD i default))
theorem JD(l:List Int)(lo hi:Int)(h:l.length<1099511627776):Ef l lo hi=some (Kh l lo hi):=by
 have key:=CT (fun v=>Bl l lo hi v) (fun i=>(i:Int)) l.length (fun i=>EC (l.getD i default) lo hi&&(decide (i=0)||decide (l.getD (i-1) default<l.getD i default))) (.inl ()) (.inr ()) ?_ ?_
 ·rw [Int.natCast_zero]at key
  unfold Ef Du Kh
  rw [key]
  cases (List.range l.length).all fun i=>EC (l.getD i default) lo hi&&(decide (i=0)||decide (l.getD (i-1) default<l.getD i default))<;>rfl
 ·intro i hi'
  simp only [Bl,Int.toNat_natCast]
  rw [if_pos (CE hi'),C3 (by omega),KQ i (by omega)]
  cases hr:EC (l.getD i default) lo hi with
  | false=>simp
  | true=>
   by_cases h0:i=0
   ·subst h0
    rw [if_pos rfl,if_neg (by omega)]
    simp
   ·rw [if_pos rfl,if_pos (by omega),MZ _ (by omega),C3 (by omega),show((i:Int)-1).toNat=i-1 by omega,decide_eq_false h0]
    by_cases hlt:l.getD (i-1) default<l.getD i default
    ·rw [if_neg (by omega),decide_eq_true hlt];rfl
    ·rw [if_pos (by omega),decide_eq_false hlt];rfl
 ·simp only [Bl]
  rw [if_neg (Am _)]
theorem JE(list:List Int)(low:Int)(high:Int)(h0:list.length<1099511627776):Y.call 121 [D.sl 3 (A8 (D.int .i64) list),D.int .i64 low,D.int .i64 high] []=some (D.bool (Kh list low high),[]):=I5 list low high (JD list low high h0)
theorem QT{l:List Int}{lo hi:Int}(h:Kh l lo hi=true):l.Pairwise (fun a b=>a<b)∧ ∀x∈l,EC x lo hi=true:=by
 have h0:=BR.1 h
 have step: ∀i,i+1<l.length→l.getD i default<l.getD (i+1) default:=fun i hi=>by
  have:=h0 (i+1) hi
  rw [Bool.and_eq_true]at this
  simpa using this.2
 have Qj: ∀(d i:Nat),i+d+1<l.length→l.getD i default<l.getD (i+d+1) default:=by
  intro d
  induction d with
  | zero=>intro i hi;exact step i hi
  | succ d ih=>
   intro i hi
   have h1:=ih i (by omega)
   have h2:=step (i+d+1) (by omega)
   rw [show i+(d+1)+1=i+d+1+1 by omega]
   omega
 refine⟨List.pairwise_iff_getElem.2 fun i j hi hj hij=> ?_,fun x hx=> ?_⟩
 ·have:=Qj (j-i-1) i (by omega)
  rw [show i+(j-i-1)+1=j by omega,B0 _ _ hi,B0 _ _ hj]at this
  exact this
 ·obtain⟨i,hi,rfl⟩:=List.getElem_of_mem hx
  have:=h0 i hi
  rw [Bool.and_eq_true,B0 _ _ hi]at this
  exact this.1
theorem UD{l:List Int}{lo hi:Int}(h1:l.Pairwise (fun a b=>a<b))(h2: ∀x∈l,EC x lo hi=true):Kh l lo hi=true:=by
 refine BR.2 fun i hi=> ?_
 rw [Bool.and_eq_true]
 refine⟨by rw [B0 _ _ hi];exact h2 _ (List.getElem_mem hi), ?_⟩
 by_cases h0:i=0
 ·rw [decide_eq_true h0];rfl
 ·have:=List.pairwise_iff_getElem.1 h1 (i-1) i (by omega) hi (by omega)
  rw [Bool.or_eq_true]
  right
  rw [decide_eq_true_eq,B0 _ _ hi,B0 _ _ (by omega:i-1<l.length)]
  exact this
def HO(ids:List Int)(n:Int):Bool:=decide (ids.length=0)||(decide ((ids.length:Int)=n)&&(decide ids.Nodup&&Dz ids 1 999999))
theorem QU(ids:List Int)(lo hi:Int):Kh (Ix ids) lo hi=(decide ids.Nodup&&Dz ids lo hi):=by
 rw [Bool.eq_iff_iff,Bool.and_eq_true,decide_eq_true_eq]
 have hp:=HM ids
 unfold Dz
 rw [List.all_eq_true]
 constructor
 ·intro h
  obtain⟨h1,h2⟩:=QT h
  refine⟨hp.nodup_iff.1 (h1.imp fun h=>by omega),fun x hx=>h2 x (hp.mem_iff.2 hx)⟩
 ·rintro⟨h1,h2⟩
  refine UD ?_ fun x hx=>h2 x (hp.mem_iff.1 hx)
  have hn:(Ix ids).Pairwise (fun a b=>a≠b):=hp.nodup_iff.2 h1
  exact((KW ids).and hn).imp fun h=>by omega
theorem F4(xs:List Int)(h:xs.length<1099511627776):Y.call 104 [.sl 3 (A8 (D.int .i64) xs)] []=some (.own 3 (A8 (D.int .i64) xs),[]):=by
 refine Rw (A8 (D.int .i64) xs) (by rw [KI];exact h) (Lq _ _ (fun x=>rfl)) (KJ _ _ (fun x=>by first | exact v6 .. | exact fe .. | exact uz .. | exact v7 ..)) ?_
 simp (maxDischargeDepth:=9) only [↓A9,A5,AB,AY,A6,AA,AZ,↓reduceIte,Nat.reduceEqDiff,Nat.reduceLT,Nat.reduceLeDiff,Nat.reduceAdd,Nat.reduceMul,Nat.reduceMod,Nat.reduceDiv,Nat.reducePow,Nat.reduceSub,Nat.reduceBEq,Int.reduceLE,Int.reduceLT,Int.reduceEq,Int.reduceSub,Int.reduceAdd,Int.reduceToNat,Int.reduceNeg,Option.isSome_some]
noncomputable def JR(ids:List Int)(nodes:Int):Option (Bool):=
 if(ids.length:Int)=0 then
  some true
 else
  ck (ids.length<1099511627776)<|
  ck (ids.length<4611686018427387904)<|
  if(ids.length:Int)=nodes then
   ck ((Dx ids).length<1099511627776)<|
   some (Kh (Dx ids) (1:Int) (999999:Int))
  else
   some false
def uU:SC:=
 .seq
 (.ops [
 ⟨(some 4),(.assign (.const (.bool false))),4,none⟩])
 (.seq
 (.seq
 (.ops [
 ⟨(some 6),(.move (.tmp 0)),23,none⟩,
 ⟨(some 7),(.call ⟨(.builtin .len), #[(.tmp 6)], #[23]⟩),3,none⟩,
 ⟨(some 8),(.binOp .eql 3 (.tmp 7) (.const (.int .i64 0)) 3),4,none⟩])
 (.cond (.tmp 8)
 (.seq
 (.ops [
 ⟨(some 4),(.assign (.const (.bool true))),4,none⟩])
 .ret)
 .skip))
 (.seq
 (.ops [
 ⟨(some 9),(.move (.tmp 0)),23,none⟩,
 ⟨(some 10),(.call ⟨(.value (.func 104)), #[(.tmp 9)], #[23]⟩),23,none⟩,
 ⟨(some 5),(.assign (.tmp 10)),23,none⟩])
 (.seq
 (.ops [
 ⟨(some 11),(.move (.tmp 5)),23,none⟩,
 ⟨(some 12),(.call ⟨(.value (.func 120)), #[(.tmp 11)], #[23]⟩),0,none⟩])
 (.seq
 (.ops [
 ⟨(some 13),(.move (.tmp 0)),23,none⟩,
 ⟨(some 14),(.call ⟨(.builtin .len), #[(.tmp 13)], #[23]⟩),3,none⟩,
 ⟨(some 15),(.move (.tmp 1)),3,none⟩,
 ⟨(some 16),(.binOp .eql 3 (.tmp 14) (.tmp 15) 3),4,none⟩,
 ⟨(some 17),(.move (.tmp 16)),4,none⟩,
 ⟨(some 18),(.move (.tmp 5)),23,(some (some 17,true))⟩,
 ⟨(some 19),(.call ⟨(.value (.func 121)), #[(.tmp 18),(.const (.int .i64 1)),(.const (.int .i64 999999))], #[23,3,3]⟩),4,(some (some 17,true))⟩,
 ⟨(some 20),(.pick (.tmp 17) (.tmp 19) (.const (.bool false))),4,none⟩,
 ⟨(some 4),(.assign (.tmp 20)),4,none⟩])
 .ret))))
theorem c9:Try.f85.body.map (BZ lends)=some uU:=by kernel_rfl
theorem uV:CD Try.f85 2=true:=by kernel_rfl
theorem c85{a l:List D}{r:D×List D}(h:Bw Y.env uU (Ew AE l.length [ResultVar.tmp 4] r) (entry a l))(ha:a.length=2):Y.call 85 a l=some r:=
 AN (Y:=Y) rfl Try.func85 (ha▸uV) c9 h
theorem N5(ids:List Int)(nodes:Int){r:Bool}(h:JR ids nodes=some r):Y.call 85 [D.sl 3 (A8 (D.int .i64) ids),D.int .i64 nodes] []=some (D.bool r,[]):=by
 refine c85 ?_ rfl
 unfold uU
 unfold JR at h
 by_cases e1:(ids.length:Int)=0
 ·rw [if_pos e1]at h
  obtain rfl:=Option.some.inj h
  simp (maxDischargeDepth:=9) only [↓A9,A5,AB,AY,A6,AA,AZ,↓reduceIte,Nat.reduceEqDiff,Nat.reduceLT,Nat.reduceLeDiff,Nat.reduceAdd,Nat.reduceMul,Nat.reduceMod,Nat.reduceDiv,Nat.reducePow,Nat.reduceSub,Nat.reduceBEq,Int.reduceLE,Int.reduceLT,Int.reduceEq,Int.reduceSub,Int.reduceAdd,Int.reduceToNat,Int.reduceNeg,decide_eq_true e1]<;>(repeat' apply And.intro)<;>first | rfl | exact⟨_,rfl⟩ | exact⟨_,_,rfl⟩ | simp [A8,A3]
 ·rw [if_neg e1]at h
  obtain⟨e2,h⟩:=C7 h
  have c3:=F4 ids e2
  obtain⟨e4,h⟩:=C7 h
  have c5:=U1 ids e4
  by_cases e6:(ids.length:Int)=nodes
  ·rw [if_pos e6]at h
   obtain⟨e7,h⟩:=C7 h
   have c8:=JE (Dx ids) (1:Int) (999999:Int) e7
   obtain rfl:=Option.some.inj h
   simp (maxDischargeDepth:=9) only [↓A9,A5,AB,AY,A6,AA,AZ,↓reduceIte,Nat.reduceEqDiff,Nat.reduceLT,Nat.reduceLeDiff,Nat.reduceAdd,Nat.reduceMul,Nat.reduceMod,Nat.reduceDiv,Nat.reducePow,Nat.reduceSub,Nat.reduceBEq,Int.reduceLE,Int.reduceLT,Int.reduceEq,Int.reduceSub,Int.reduceAdd,Int.reduceToNat,Int.reduceNeg,e1,e2,c3,e4,c5,decide_eq_true e6,e7,c8]<;>(repeat' apply And.intro)<;>first | rfl | exact⟨_,rfl⟩ | exact⟨_,_,rfl⟩ | simp [A8,A3]
  ·rw [if_neg e6]at h
   obtain rfl:=Option.some.inj h
   simp (maxDischargeDepth:=9) only [↓A9,A5,AB,AY,A6,AA,AZ,↓reduceIte,Nat.reduceEqDiff,Nat.reduceLT,Nat.reduceLeDiff,Nat.reduceAdd,Nat.reduceMul,Nat.reduceMod,Nat.reduceDiv,Nat.reducePow,Nat.reduceSub,Nat.reduceBEq,Int.reduceLE,Int.reduceLT,Int.reduceEq,Int.reduceSub,Int.reduceAdd,Int.reduceToNat,Int.reduceNeg,e1,e2,c3,e4,c5,e6]<;>(repeat' apply And.intro)<;>first | rfl | exact⟨_,rfl⟩ | exact⟨_,_,rfl⟩ | simp [A8,A3]
noncomputable def Dc(ids:List Int)(nodes:Int)(Gv:Int):Option ((Int)⊕(Unit⊕Unit)):=
 if Gv<(ids.length:Int)then
  ck (0≤Gv∧Gv.toNat<ids.length)<|
  if(EC (ids.getD Gv.toNat default) (1:Int) (999999:Int))=true then
   ck (0≤Gv)<|
   ck (Gv.toNat≤ids.length)<|
   ck (((ids.take Gv.toNat).drop 0).length<1099511627776)<|
   if(((ids.take Gv.toNat).drop 0).contains (ids.getD Gv.toNat default))=true then
    some (Sum.inr (Sum.inl ()))
   else
    some (Sum.inl (IntKind.i64.wrap (Gv+1)))
  else
   some (Sum.inr (Sum.inl ()))
 else
  some (Sum.inr (Sum.inr ()))
noncomputable def G7(ids:List Int)(nodes:Int)(v:Int):Option (Unit⊕Unit):=Gc (fun v=>Dc ids nodes v) v
noncomputable def JS(ids:List Int)(nodes:Int):Option (Bool):=
 (G7 ids nodes 0).bind fun JO=>
 match JO with
 | .inl q2_=>
  some false
 | .inr q2_=>
  if(ids.length:Int)=0 then
   some true
  else
   some (decide ((ids.length:Int)=nodes))
def N6:SC:=
 .seq
 (.ops [
 ⟨(some 10),(.binOp .lss 3 (.tmp 9) (.tmp 8) 3),0,none⟩])
 (.seq
 (.cond (.tmp 10)
 .skip
 (.exit 0))
 (.seq
 (.block 1
 (.seq
 (.ops [
 ⟨(some 11),(.move (.tmp 9)),3,none⟩,
 ⟨(some 12),(.indexAddr 23 (.tmp 7) (.tmp 9)),0,none⟩,
 ⟨(some 13),(.load 3 (.tmp 12)),3,none⟩,
 ⟨(some 5),(.assign (.tmp 11)),3,none⟩,
 ⟨(some 6),(.assign (.tmp 13)),3,none⟩])
 (.seq
 (.ops [
 ⟨(some 14),(.move (.tmp 6)),3,none⟩,
 ⟨(some 15),(.call ⟨(.value (.func 79)), #[(.tmp 14),(.const (.int .i64 1)),(.const (.int .i64 999999))], #[3,3,3]⟩),4,none⟩,
 ⟨(some 16),(.unOp .not 4 (.tmp 15)),4,none⟩,
 ⟨(some 17),(.move (.tmp 16)),4,none⟩,
 ⟨(some 18),(.move (.tmp 0)),23,(some (some 17,false))⟩,
 ⟨(some 19),(.move (.tmp 5)),3,(some (some 17,false))⟩,
 ⟨(some 20),(.slice 23 (.tmp 18) none (some (.tmp 19)) none),900001,(some (some 17,false))⟩,
 ⟨(some 21),(.move (.tmp 6)),3,(some (some 17,false))⟩,
 ⟨(some 22),(.call ⟨(.value (.func 92)), #[(.tmp 20),(.tmp 21)], #[23,3]⟩),4,(some (some 17,false))⟩,
 ⟨(some 23),(.pick (.tmp 17) (.const (.bool true)) (.tmp 22)),4,none⟩])
 (.cond (.tmp 23)
 (.seq
 (.ops [
 ⟨(some 4),(.assign (.const (.bool false))),4,none⟩])
 .ret)
 .skip))))
 (.ops [
 ⟨(some 24),(.binOp .add 3 (.tmp 9) (.const (.int .i64 1)) 3),3,none⟩,
 ⟨(some 9),(.move (.tmp 24)),3,none⟩])))
def UE:SC:= .loop N6
def uW:SC:=
 .seq
 (.ops [
 ⟨(some 4),(.assign (.const (.bool false))),4,none⟩])
 (.seq
 (.seq
 (.ops [
 ⟨(some 7),(.move (.tmp 0)),23,none⟩,
 ⟨(some 8),(.call ⟨(.builtin .len), #[(.tmp 7)], #[23]⟩),3,none⟩,
 ⟨(some 9),(.move (.const (.int .i64 0))),3,none⟩])
 (.block 0
 UE))
 (.seq
 (.ops [
 ⟨(some 25),(.move (.tmp 0)),23,none⟩,
 ⟨(some 26),(.call ⟨(.builtin .len), #[(.tmp 25)], #[23]⟩),3,none⟩,
 ⟨(some 27),(.binOp .eql 3 (.tmp 26) (.const (.int .i64 0)) 3),4,none⟩,
 ⟨(some 28),(.move (.tmp 27)),4,none⟩,
 ⟨(some 29),(.move (.tmp 0)),23,(some (some 28,false))⟩,
 ⟨(some 30),(.call ⟨(.builtin .len), #[(.tmp 29)], #[23]⟩),3,(some (some 28,false))⟩,
 ⟨(some 31),(.move (.tmp 1)),3,(some (some 28,false))⟩,
 ⟨(some 32),(.binOp .eql 3 (.tmp 30) (.tmp 31) 3),4,(some (some 28,false))⟩,
 ⟨(some 33),(.pick (.tmp 28) (.const (.bool true)) (.tmp 32)),4,none⟩,
 ⟨(some 4),(.assign (.tmp 33)),4,none⟩])
 .ret))
theorem cA:Try.f80.body.map (BZ lends)=some uW:=by kernel_rfl
theorem uX:CD Try.f80 2=true:=by kernel_rfl
theorem c80{a l:List D}{r:D×List D}(h:Bw Y.env uW (Ew AE l.length [ResultVar.tmp 4] r) (entry a l))(ha:a.length=2):Y.call 80 a l=some r:=
 AN (Y:=Y) rfl Try.func80 (ha▸uX) cA h
def CK(ids:List Int)(nodes:Int)(Gv:Int)(s:St):Prop:=s.v 0=D.sl 3 (A8 (D.int .i64) ids)∧s.v 1=D.int .i64 nodes∧s.v 7=D.sl 3 (A8 (D.int .i64) ids)∧s.v 8=D.int .i64 (ids.length:Int)∧s.v 9=D.int .i64 Gv
def CL(ids:List Int)(nodes:Int)(r:Unit⊕Unit)(ex:Ex)(s:St):Prop:=match r with
 | .inl q=>ex= .ret∧s.v 4=D.bool false
 | .inr q=>ex= .exit 0∧s.v 0=D.sl 3 (A8 (D.int .i64) ids)∧s.v 1=D.int .i64 nodes
theorem LL(ids:List Int)(nodes:Int){v:Int}{s:St}{r:Unit⊕Unit}(h:G7 ids nodes v=some r)(hM:CK ids nodes v s):Bw Y.env UE (CL ids nodes r) s:=by
 unfold G7 at h
 refine CO (c:=N6) (fun v=>Dc ids nodes v) (fun v s=>CK ids nodes v s) (CL ids nodes) ?_ h hM
 clear h hM s v r
 intro Gv s o hM h
 unfold Dc at h
 unfold CK at hM
 obtain⟨m0,m1,m2,m3,m4⟩:=hM
 unfold N6
 by_cases e1:Gv<(ids.length:Int)
 ·rw [if_pos e1]at h
  obtain⟨e2,h⟩:=C7 h
  have c3:=Fl (ids.getD Gv.toNat default) (1:Int) (999999:Int)
  by_cases e4:(EC (ids.getD Gv.toNat default) (1:Int) (999999:Int))=true
  ·rw [if_pos e4]at h
   obtain⟨e5,h⟩:=C7 h
   obtain⟨e6,h⟩:=C7 h
   obtain⟨e7,h⟩:=C7 h
   have c8:=QQ ((ids.take Gv.toNat).drop 0) (ids.getD Gv.toNat default) e7
   by_cases e9:(((ids.take Gv.toNat).drop 0).contains (ids.getD Gv.toNat default))=true
   ·rw [if_pos e9]at h
    obtain rfl:=Option.some.inj h
    simp (maxDischargeDepth:=9) only [↓A9,A5,AB,AY,A6,AA,AZ,↓reduceIte,Nat.reduceEqDiff,Nat.reduceLT,Nat.reduceLeDiff,Nat.reduceAdd,Nat.reduceMul,Nat.reduceMod,Nat.reduceDiv,Nat.reducePow,Nat.reduceSub,Nat.reduceBEq,Int.reduceLE,Int.reduceLT,Int.reduceEq,Int.reduceSub,Int.reduceAdd,Int.reduceToNat,Int.reduceNeg,m0,m1,m2,m3,m4,e1,e2.1,e2.2,c3,e4,e5,e6,e7,c8,e9,CK,CL,D6,D7,D8]<;>(repeat' apply And.intro)<;>first | rfl | exact⟨_,rfl⟩ | exact⟨_,_,rfl⟩ | simp [A8,A3]
   ·rw [if_neg e9]at h
    have e9f:(((ids.take Gv.toNat).drop 0).contains (ids.getD Gv.toNat default))=false:=Bool.eq_false_iff.mpr e9
    obtain rfl:=Option.some.inj h
    simp (maxDischargeDepth:=9) only [↓A9,A5,AB,AY,A6,AA,AZ,↓reduceIte,Nat.reduceEqDiff,Nat.reduceLT,Nat.reduceLeDiff,Nat.reduceAdd,Nat.reduceMul,Nat.reduceMod,Nat.reduceDiv,Nat.reducePow,Nat.reduceSub,Nat.reduceBEq,Int.reduceLE,Int.reduceLT,Int.reduceEq,Int.reduceSub,Int.reduceAdd,Int.reduceToNat,Int.reduceNeg,m0,m1,m2,m3,m4,e1,e2.1,e2.2,c3,e4,e5,e6,e7,c8,e9f,CK,CL,D6,D7,D8]<;>(repeat' apply And.intro)<;>first | rfl | exact⟨_,rfl⟩ | exact⟨_,_,rfl⟩ | simp [A8,A3]
  ·rw [if_neg e4]at h
   have e4f:(EC (ids.getD Gv.toNat default) (1:Int) (999999:Int))=false:=Bool.eq_false_iff.mpr e4
   obtain rfl:=Option.some.inj h
   simp (maxDischargeDepth:=9) only [↓A9,A5,AB,AY,A6,AA,AZ,↓reduceIte,Nat.reduceEqDiff,Nat.reduceLT,Nat.reduceLeDiff,Nat.reduceAdd,Nat.reduceMul,Nat.reduceMod,Nat.reduceDiv,Nat.reducePow,Nat.reduceSub,Nat.reduceBEq,Int.reduceLE,Int.reduceLT,Int.reduceEq,Int.reduceSub,Int.reduceAdd,Int.reduceToNat,Int.reduceNeg,m0,m1,m2,m3,m4,e1,e2.1,e2.2,c3,e4f,CK,CL,D6,D7,D8]<;>(repeat' apply And.intro)<;>first | rfl | exact⟨_,rfl⟩ | exact⟨_,_,rfl⟩ | simp [A8,A3]
 ·rw [if_neg e1]at h
  obtain rfl:=Option.some.inj h
  simp (maxDischargeDepth:=9) only [↓A9,A5,AB,AY,A6,AA,AZ,↓reduceIte,Nat.reduceEqDiff,Nat.reduceLT,Nat.reduceLeDiff,Nat.reduceAdd,Nat.reduceMul,Nat.reduceMod,Nat.reduceDiv,Nat.reducePow,Nat.reduceSub,Nat.reduceBEq,Int.reduceLE,Int.reduceLT,Int.reduceEq,Int.reduceSub,Int.reduceAdd,Int.reduceToNat,Int.reduceNeg,m0,m1,m2,m3,m4,e1,CK,CL,D6,D7,D8]<;>(repeat' apply And.intro)<;>first | rfl | exact⟨_,rfl⟩ | exact⟨_,_,rfl⟩ | simp [A8,A3]
theorem N7(ids:List Int)(nodes:Int){r:Bool}(h:JS ids nodes=some r):Y.call 80 [D.sl 3 (A8 (D.int .i64) ids),D.int .i64 nodes] []=some (D.bool r,[]):=by
 refine c80 ?_ rfl
 unfold uW
 unfold JS at h
 obtain⟨JO,hl2,h⟩:=Bg h
 try dsimp only at h
 simp (maxDischargeDepth:=9) only [↓A9,A5,AB,AY,A6,AA,AZ,↓reduceIte,Nat.reduceEqDiff,Nat.reduceLT,Nat.reduceLeDiff,Nat.reduceAdd,Nat.reduceMul,Nat.reduceMod,Nat.reduceDiv,Nat.reducePow,Nat.reduceSub,Nat.reduceBEq,Int.reduceLE,Int.reduceLT,Int.reduceEq,Int.reduceSub,Int.reduceAdd,Int.reduceToNat,Int.reduceNeg]
 refine Ba (LL ids nodes hl2 ?_) ?_
 ·simp (maxDischargeDepth:=9) only [↓A9,A5,AB,AY,A6,AA,AZ,↓reduceIte,Nat.reduceEqDiff,Nat.reduceLT,Nat.reduceLeDiff,Nat.reduceAdd,Nat.reduceMul,Nat.reduceMod,Nat.reduceDiv,Nat.reducePow,Nat.reduceSub,Nat.reduceBEq,Int.reduceLE,Int.reduceLT,Int.reduceEq,Int.reduceSub,Int.reduceAdd,Int.reduceToNat,Int.reduceNeg,CK]<;>(repeat' apply And.intro)<;>first | rfl | exact⟨_,rfl⟩ | exact⟨_,_,rfl⟩ | simp [A8,A3]
 ·intro ex2 s2 hX2
  rcases JO with q2_ | q2_
  ·unfold CL at hX2
   dsimp only at hX2 h
   obtain⟨rfl,n2_0⟩:=hX2
   obtain rfl:=Option.some.inj h
   simp (maxDischargeDepth:=9) only [↓A9,A5,AB,AY,A6,AA,AZ,↓reduceIte,Nat.reduceEqDiff,Nat.reduceLT,Nat.reduceLeDiff,Nat.reduceAdd,Nat.reduceMul,Nat.reduceMod,Nat.reduceDiv,Nat.reducePow,Nat.reduceSub,Nat.reduceBEq,Int.reduceLE,Int.reduceLT,Int.reduceEq,Int.reduceSub,Int.reduceAdd,Int.reduceToNat,Int.reduceNeg,n2_0]<;>(repeat' apply And.intro)<;>first | rfl | exact⟨_,rfl⟩ | exact⟨_,_,rfl⟩ | simp [A8,A3]
  ·unfold CL at hX2
   dsimp only at hX2 h
   obtain⟨rfl,n2_0,n2_1⟩:=hX2
   by_cases e3:(ids.length:Int)=0
   ·rw [if_pos e3]at h
    obtain rfl:=Option.some.inj h
    simp (maxDischargeDepth:=9) only [↓A9,A5,AB,AY,A6,AA,AZ,↓reduceIte,Nat.reduceEqDiff,Nat.reduceLT,Nat.reduceLeDiff,Nat.reduceAdd,Nat.reduceMul,Nat.reduceMod,Nat.reduceDiv,Nat.reducePow,Nat.reduceSub,Nat.reduceBEq,Int.reduceLE,Int.reduceLT,Int.reduceEq,Int.reduceSub,Int.reduceAdd,Int.reduceToNat,Int.reduceNeg,n2_0,n2_1,decide_eq_true e3]<;>(repeat' apply And.intro)<;>first | rfl | exact⟨_,rfl⟩ | exact⟨_,_,rfl⟩ | simp [A8,A3]
   ·rw [if_neg e3]at h
    obtain rfl:=Option.some.inj h
    simp (maxDischargeDepth:=9) only [↓A9,A5,AB,AY,A6,AA,AZ,↓reduceIte,Nat.reduceEqDiff,Nat.reduceLT,Nat.reduceLeDiff,Nat.reduceAdd,Nat.reduceMul,Nat.reduceMod,Nat.reduceDiv,Nat.reducePow,Nat.reduceSub,Nat.reduceBEq,Int.reduceLE,Int.reduceLT,Int.reduceEq,Int.reduceSub,Int.reduceAdd,Int.reduceToNat,Int.reduceNeg,n2_0,n2_1,e3]<;>(repeat' apply And.intro)<;>first | rfl | exact⟨_,rfl⟩ | exact⟨_,_,rfl⟩ | simp [A8,A3]
theorem QV(ids:List Int)(n:Int)(h:ids.length<1099511627776):JR ids n=some (HO ids n):=by
 unfold JR HO
 by_cases h0:ids.length=0
 ·rw [if_pos (by omega),decide_eq_true h0];rfl
 ·rw [if_neg (by omega),C3 h,C3 (by omega),decide_eq_false h0,Bool.false_or]
  by_cases h1:(ids.length:Int)=n
  ·rw [if_pos h1,U5,C3 (by rw [Rz];exact h),QU,decide_eq_true h1];rfl
  ·rw [if_neg h1,decide_eq_false h1];rfl
theorem S3(ids:List Int):(List.range ids.length).all (fun i=>EC (ids.getD i default) 1 999999&& !(ids.take i).contains (ids.getD i default))=(decide ids.Nodup&&Dz ids 1 999999):=by
 rw [Bool.eq_iff_iff,BR,Bool.and_eq_true,decide_eq_true_eq]
 unfold Dz
 rw [List.all_eq_true]
 constructor
 ·intro h
  refine⟨List.pairwise_iff_getElem.2 fun i j hi hj hij he=> ?_,fun x hx=> ?_⟩
  ·have:=h j hj
   rw [Bool.and_eq_true,Bool.not_eq_true',←Bool.not_eq_true,List.contains_iff_mem,B0 _ _ hj]at this
   refine this.2 ?_
   rw [←he]
   exact List.mem_take_iff_getElem.2 ⟨i,by omega,rfl⟩
  ·obtain⟨i,hi,rfl⟩:=List.getElem_of_mem hx
   have:=h i hi
   rw [Bool.and_eq_true,B0 _ _ hi]at this
   exact this.1
 ·rintro⟨h1,h2⟩ i hi
  rw [Bool.and_eq_true,Bool.not_eq_true',←Bool.not_eq_true,List.contains_iff_mem,B0 _ _ hi]
  refine⟨h2 _ (List.getElem_mem hi),fun hm=> ?_⟩
  obtain⟨j,hj,he⟩:=List.mem_take_iff_getElem.1 hm
  exact List.pairwise_iff_getElem.1 h1 j i (by omega) hi (by omega) he
theorem QW(ids:List Int)(n:Int)(h:ids.length<1099511627776):JS ids n=some (HO ids n):=by
 have key:=CT (fun v=>Dc ids n v) (fun i=>(i:Int)) ids.length (fun i=>EC (ids.getD i default) 1 999999&& !(ids.take i).contains (ids.getD i default)) (.inl ()) (.inr ()) ?_ ?_
 ·rw [Int.natCast_zero,S3]at key
  unfold JS G7 HO
  rw [key,Option.bind_some]
  by_cases h0:ids.length=0
  ·have:ids=[]:=List.eq_nil_of_length_eq_zero h0
   subst this
   simp [Dz]
  ·rw [decide_eq_false h0,Bool.false_or]
   cases decide ids.Nodup&&Dz ids 1 999999 with
   | false=>rw [Bool.and_false];rfl
   | true=>rw [Bool.and_true,if_pos rfl];simp only;rw [if_neg (by omega)]
 ·intro i hi
  simp only [Dc,Int.toNat_natCast,List.drop_zero]
  rw [if_pos (CE hi),C3 (by omega),C3 (by omega),C3 (by omega),C3 (by rw [List.length_take];omega),KQ i (by omega)]
  cases EC (ids.getD i default) 1 999999<;>cases (ids.take i).contains (ids.getD i default)<;>rfl
 ·simp only [Dc]
  rw [if_neg (Am _)]
theorem QX(ids:List Int)(nodes:Int)(h0:ids.length<1099511627776):Y.call 85 [D.sl 3 (A8 (D.int .i64) ids),D.int .i64 nodes] []=some (D.bool (HO ids nodes),[]):=N5 ids nodes (QV ids nodes h0)
theorem QY(ids:List Int)(nodes:Int)(h0:ids.length<1099511627776):Y.call 80 [D.sl 3 (A8 (D.int .i64) ids),D.int .i64 nodes] []=some (D.bool (HO ids nodes),[]):=N7 ids nodes (QW ids nodes h0)
noncomputable def G8(inputs:List Int)(nodes:Int):Option (Bool):=
 if(inputs.length:Int)=nodes then
  ck (inputs.length<1099511627776)<|
  some (Dz inputs (0:Int) (9:Int))
 else
  some false
def uY:SC:=
 .seq
 (.ops [
 ⟨(some 4),(.assign (.const (.bool false))),4,none⟩])
 (.seq
 (.ops [
 ⟨(some 5),(.move (.tmp 0)),23,none⟩,
 ⟨(some 6),(.call ⟨(.builtin .len), #[(.tmp 5)], #[23]⟩),3,none⟩,
 ⟨(some 7),(.move (.tmp 1)),3,none⟩,
 ⟨(some 8),(.binOp .eql 3 (.tmp 6) (.tmp 7) 3),4,none⟩,
 ⟨(some 9),(.move (.tmp 8)),4,none⟩,
 ⟨(some 10),(.move (.tmp 0)),23,(some (some 9,true))⟩,
 ⟨(some 11),(.call ⟨(.value (.func 122)), #[(.tmp 10),(.const (.int .i64 0)),(.const (.int .i64 9))], #[23,3,3]⟩),4,(some (some 9,true))⟩,
 ⟨(some 12),(.pick (.tmp 9) (.tmp 11) (.const (.bool false))),4,none⟩,
 ⟨(some 4),(.assign (.tmp 12)),4,none⟩])
 .ret)
theorem cB:Try.f86.body.map (BZ lends)=some uY:=by kernel_rfl
theorem uZ:CD Try.f86 2=true:=by kernel_rfl
theorem c86{a l:List D}{r:D×List D}(h:Bw Y.env uY (Ew AE l.length [ResultVar.tmp 4] r) (entry a l))(ha:a.length=2):Y.call 86 a l=some r:=
 AN (Y:=Y) rfl Try.func86 (ha▸uZ) cB h
theorem JF(inputs:List Int)(nodes:Int){r:Bool}(h:G8 inputs nodes=some r):Y.call 86 [D.sl 3 (A8 (D.int .i64) inputs),D.int .i64 nodes] []=some (D.bool r,[]):=by
 refine c86 ?_ rfl
 unfold uY
 unfold G8 at h
 by_cases e1:(inputs.length:Int)=nodes
 ·rw [if_pos e1]at h
  obtain⟨e2,h⟩:=C7 h
  have c3:=KV inputs (0:Int) (9:Int) e2
  obtain rfl:=Option.some.inj h
  simp (maxDischargeDepth:=9) only [↓A9,A5,AB,AY,A6,AA,AZ,↓reduceIte,Nat.reduceEqDiff,Nat.reduceLT,Nat.reduceLeDiff,Nat.reduceAdd,Nat.reduceMul,Nat.reduceMod,Nat.reduceDiv,Nat.reducePow,Nat.reduceSub,Nat.reduceBEq,Int.reduceLE,Int.reduceLT,Int.reduceEq,Int.reduceSub,Int.reduceAdd,Int.reduceToNat,Int.reduceNeg,decide_eq_true e1,e2,c3]<;>(repeat' apply And.intro)<;>first | rfl | exact⟨_,rfl⟩ | exact⟨_,_,rfl⟩ | simp [A8,A3]
 ·rw [if_neg e1]at h
  obtain rfl:=Option.some.inj h
  simp (maxDischargeDepth:=9) only [↓A9,A5,AB,AY,A6,AA,AZ,↓reduceIte,Nat.reduceEqDiff,Nat.reduceLT,Nat.reduceLeDiff,Nat.reduceAdd,Nat.reduceMul,Nat.reduceMod,Nat.reduceDiv,Nat.reducePow,Nat.reduceSub,Nat.reduceBEq,Int.reduceLE,Int.reduceLT,Int.reduceEq,Int.reduceSub,Int.reduceAdd,Int.reduceToNat,Int.reduceNeg,e1]<;>(repeat' apply And.intro)<;>first | rfl | exact⟨_,rfl⟩ | exact⟨_,_,rfl⟩ | simp [A8,A3]
noncomputable def DB(AK:List (List (Int×Int)))(Ab:List Int)(AF:List Int)(v_:Int):Option (Bool):=
 some (EC v_ (0:Int) (IntKind.i64.wrap ((AK.length:Int)-1)))
def ua:SC:=
 .seq
 (.ops [
 ⟨(some 2),(.box 31 (.tmp 0)),0,none⟩,
 ⟨(some 4),(.assign (.const (.bool false))),4,none⟩])
 (.seq
 (.ops [
 ⟨(some 5),(.move (.tmp 1)),3,none⟩,
 ⟨(some 6),(.fieldAddr 31 (.tmp 2) 0),0,none⟩,
 ⟨(some 7),(.load 29 (.tmp 6)),29,none⟩,
 ⟨(some 8),(.call ⟨(.builtin .len), #[(.tmp 7)], #[29]⟩),3,none⟩,
 ⟨(some 9),(.binOp .sub 3 (.tmp 8) (.const (.int .i64 1)) 3),3,none⟩,
 ⟨(some 10),(.call ⟨(.value (.func 84)), #[(.tmp 5),(.const (.int .i64 0)),(.tmp 9)], #[3,3,3]⟩),4,none⟩,
 ⟨(some 4),(.assign (.tmp 10)),4,none⟩])
 .ret)
theorem cC:Try.f94.body.map (BZ lends)=some ua:=by kernel_rfl
theorem ub:CD Try.f94 2=true:=by kernel_rfl
theorem c94{a l:List D}{r:D×List D}(h:Bw Y.env ua (Ew AE l.length [ResultVar.tmp 4] r) (entry a l))(ha:a.length=2):Y.call 94 a l=some r:=
 AN (Y:=Y) rfl Try.func94 (ha▸ub) cC h
theorem G9(AK:List (List (Int×Int)))(Ab:List Int)(AF:List Int)(v_:Int){r:Bool}(h:DB AK Ab AF v_=some r):Y.call 94 [D.agg [D.sl 104 (A8 (fun x=>D.sl 106 (AT .i64 .i64 x)) AK),D.sl 3 (A8 (D.int .i64) Ab),D.sl 3 (A8 (D.int .i64) AF)],D.int .i64 v_] []=some (D.bool r,[]):=by
 refine c94 ?_ rfl
 unfold ua
 unfold DB at h
 have c1:=EV v_ (0:Int) (IntKind.i64.wrap ((AK.length:Int)-1))
 obtain rfl:=Option.some.inj h
 simp (maxDischargeDepth:=9) only [↓A9,A5,AB,AY,A6,AA,AZ,↓reduceIte,Nat.reduceEqDiff,Nat.reduceLT,Nat.reduceLeDiff,Nat.reduceAdd,Nat.reduceMul,Nat.reduceMod,Nat.reduceDiv,Nat.reducePow,Nat.reduceSub,Nat.reduceBEq,Int.reduceLE,Int.reduceLT,Int.reduceEq,Int.reduceSub,Int.reduceAdd,Int.reduceToNat,Int.reduceNeg,c1]<;>(repeat' apply And.intro)<;>first | rfl | exact⟨_,rfl⟩ | exact⟨_,_,rfl⟩ | simp [A8,A3]
noncomputable def DC(AK:List (List (Int×Int)))(Ab:List Int)(AF:List Int)(v_:Int)(i:Int):Option (Bool):=
 (DB AK Ab AF v_).bind fun Ua=>
 if Ua=true then
  ck (0≤v_∧v_.toNat<AK.length)<|
  some (EC i (0:Int) (IntKind.i64.wrap (((AK.getD v_.toNat default).length:Int)-1)))
 else
  some false
def uc:SC:=
 .seq
 (.ops [
 ⟨(some 3),(.box 31 (.tmp 0)),0,none⟩,
 ⟨(some 6),(.assign (.const (.bool false))),4,none⟩])
 (.seq
 (.ops [
 ⟨(some 7),(.load 31 (.tmp 3)),31,none⟩,
 ⟨(some 8),(.move (.tmp 1)),3,none⟩,
 ⟨(some 9),(.call ⟨(.value (.func 94)), #[(.tmp 7),(.tmp 8)], #[31,3]⟩),4,none⟩,
 ⟨(some 10),(.move (.tmp 9)),4,none⟩,
 ⟨(some 11),(.move (.tmp 2)),3,(some (some 10,true))⟩,
 ⟨(some 12),(.fieldAddr 31 (.tmp 3) 0),0,(some (some 10,true))⟩,
 ⟨(some 13),(.load 29 (.tmp 12)),29,(some (some 10,true))⟩,
 ⟨(some 14),(.move (.tmp 1)),3,(some (some 10,true))⟩,
 ⟨(some 15),(.indexAddr 29 (.tmp 13) (.tmp 14)),0,(some (some 10,true))⟩,
 ⟨(some 16),(.load 104 (.tmp 15)),104,(some (some 10,true))⟩,
 ⟨(some 17),(.call ⟨(.builtin .len), #[(.tmp 16)], #[104]⟩),3,(some (some 10,true))⟩,
 ⟨(some 18),(.binOp .sub 3 (.tmp 17) (.const (.int .i64 1)) 3),3,(some (some 10,true))⟩,
 ⟨(some 19),(.call ⟨(.value (.func 84)), #[(.tmp 11),(.const (.int .i64 0)),(.tmp 18)], #[3,3,3]⟩),4,(some (some 10,true))⟩,
 ⟨(some 20),(.pick (.tmp 10) (.tmp 19) (.const (.bool false))),4,none⟩,
 ⟨(some 6),(.assign (.tmp 20)),4,none⟩])
 .ret)
theorem cD:Try.f87.body.map (BZ lends)=some uc:=by kernel_rfl
theorem ud:CD Try.f87 3=true:=by kernel_rfl
theorem c87{a l:List D}{r:D×List D}(h:Bw Y.env uc (Ew AE l.length [ResultVar.tmp 6] r) (entry a l))(ha:a.length=3):Y.call 87 a l=some r:=
 AN (Y:=Y) rfl Try.func87 (ha▸ud) cD h
theorem GA(AK:List (List (Int×Int)))(Ab:List Int)(AF:List Int)(v_:Int)(i:Int){r:Bool}(h:DC AK Ab AF v_ i=some r):Y.call 87 [D.agg [D.sl 104 (A8 (fun x=>D.sl 106 (AT .i64 .i64 x)) AK),D.sl 3 (A8 (D.int .i64) Ab),D.sl 3 (A8 (D.int .i64) AF)],D.int .i64 v_,D.int .i64 i] []=some (D.bool r,[]):=by
 refine c87 ?_ rfl
 unfold uc
 unfold DC at h
 obtain⟨Ua,hl1,h⟩:=Bg h
 try dsimp only at h
 have c1:=G9 AK Ab AF v_ hl1
 by_cases e2:Ua=true
 ·rw [if_pos e2]at h
  obtain⟨e3,h⟩:=C7 h
  have c4:=EV i (0:Int) (IntKind.i64.wrap (((AK.getD v_.toNat default).length:Int)-1))
  obtain rfl:=Option.some.inj h
  simp (maxDischargeDepth:=9) only [↓A9,A5,AB,AY,A6,AA,AZ,↓reduceIte,Nat.reduceEqDiff,Nat.reduceLT,Nat.reduceLeDiff,Nat.reduceAdd,Nat.reduceMul,Nat.reduceMod,Nat.reduceDiv,Nat.reducePow,Nat.reduceSub,Nat.reduceBEq,Int.reduceLE,Int.reduceLT,Int.reduceEq,Int.reduceSub,Int.reduceAdd,Int.reduceToNat,Int.reduceNeg,c1,e2,e3.1,e3.2,c4]<;>(repeat' apply And.intro)<;>first | rfl | exact⟨_,rfl⟩ | exact⟨_,_,rfl⟩ | simp [A8,A3]
 ·rw [if_neg e2]at h
  have e2f:Ua=false:=Bool.eq_false_iff.mpr e2
  obtain rfl:=Option.some.inj h
  simp (maxDischargeDepth:=9) only [↓A9,A5,AB,AY,A6,AA,AZ,↓reduceIte,Nat.reduceEqDiff,Nat.reduceLT,Nat.reduceLeDiff,Nat.reduceAdd,Nat.reduceMul,Nat.reduceMod,Nat.reduceDiv,Nat.reducePow,Nat.reduceSub,Nat.reduceBEq,Int.reduceLE,Int.reduceLT,Int.reduceEq,Int.reduceSub,Int.reduceAdd,Int.reduceToNat,Int.reduceNeg,c1,e2f]<;>(repeat' apply And.intro)<;>first | rfl | exact⟨_,rfl⟩ | exact⟨_,_,rfl⟩ | simp [A8,A3]
noncomputable def C4(A1:List (List (Int×Int)))(A7:List Int)(A4:List Int)(BY:Int)(Dr:Int):Option ((Int)⊕(Unit⊕Unit)):=
 if Dr<((A1.getD BY.toNat default).length:Int)then
  ck (0≤Dr∧Dr.toNat<(A1.getD BY.toNat default).length)<|
  (DC A1 A7 A4 (Ad (A1.getD BY.toNat default) Dr.toNat) (Az (A1.getD BY.toNat default) Dr.toNat)).bind fun Vn=>
  if Vn=true then
   ck (0≤(Ad (A1.getD BY.toNat default) Dr.toNat)∧(Ad (A1.getD BY.toNat default) Dr.toNat).toNat<A1.length)<|
   ck (0≤(Az (A1.getD BY.toNat default) Dr.toNat)∧(Az (A1.getD BY.toNat default) Dr.toNat).toNat<(A1.getD ((Ad (A1.getD BY.toNat default) Dr.toNat).toNat) default).length)<|
   if(((Ad (A1.getD ((Ad (A1.getD BY.toNat default) Dr.toNat).toNat) default) ((Az (A1.getD BY.toNat default) Dr.toNat).toNat))==BY)&&((Az (A1.getD ((Ad (A1.getD BY.toNat default) Dr.toNat).toNat) default) ((Az (A1.getD BY.toNat default) Dr.toNat).toNat))==Dr))=true then
    some (Sum.inl (IntKind.i64.wrap (Dr+1)))
   else
    some (Sum.inr (Sum.inl ()))
  else
   some (Sum.inr (Sum.inl ()))
 else
  some (Sum.inr (Sum.inr ()))
noncomputable def DO(A1:List (List (Int×Int)))(A7:List Int)(A4:List Int)(BY:Int)(v:Int):Option (Unit⊕Unit):=Gc (fun v=>C4 A1 A7 A4 BY v) v
noncomputable def C5(A1:List (List (Int×Int)))(A7:List Int)(A4:List Int)(BY:Int):Option ((Int)⊕(Unit⊕Unit)):=
 if BY<(A1.length:Int)then
  ck (0≤BY∧BY.toNat<A1.length)<|
  if 6<((A1.getD BY.toNat default).length:Int)then
   some (Sum.inr (Sum.inl ()))
  else
   (DO A1 A7 A4 BY 0).bind fun cE=>
   match cE with
   | .inl q12_=>
    some (Sum.inr (Sum.inl ()))
   | .inr q12_=>
    some (Sum.inl (IntKind.i64.wrap (BY+1)))
 else
  some (Sum.inr (Sum.inr ()))
noncomputable def DP(A1:List (List (Int×Int)))(A7:List Int)(A4:List Int)(v:Int):Option (Unit⊕Unit):=Gc (fun v=>C5 A1 A7 A4 v) v
noncomputable def FP(A1:List (List (Int×Int)))(A7:List Int)(A4:List Int):Option (Bool):=
 if(EC (A1.length:Int) (1:Int) (40:Int))=true then
  ck (A7.length<1099511627776)<|
  if(HO A7 (A1.length:Int))=true then
   (G8 A4 (A1.length:Int)).bind fun Uc=>
   if Uc=true then
    (DP A1 A7 A4 0).bind fun ue=>
    match ue with
    | .inl q9_=>
     some false
    | .inr q9_=>
     some true
   else
    some false
  else
   some false
 else
  some false
def N8:SC:=
 .seq
 (.ops [
 ⟨(some 44),(.binOp .lss 3 (.tmp 43) (.tmp 42) 3),0,none⟩])
 (.seq
 (.cond (.tmp 44)
 .skip
 (.exit 2))
 (.seq
 (.block 3
 (.seq
 (.ops [
 ⟨(some 45),(.move (.tmp 43)),3,none⟩,
 ⟨(some 46),(.indexAddr 104 (.tmp 41) (.tmp 43)),0,none⟩,
 ⟨(some 47),(.load 106 (.tmp 46)),106,none⟩,
 ⟨(some 6),(.alloc 106),0,none⟩,
 ⟨(some 5),(.assign (.tmp 45)),3,none⟩,
 ⟨none,(.store 106 (.tmp 6) (.tmp 47)),0,none⟩])
 (.seq
 (.draws [
 (⟨[48,1,1],[48,49,50,51,52,53,54,55,56,57,58,59,60,61,62,63,64,65,66,67,68,66,67,69,70],[48]⟩,⟨(some 48),(.load 31 (.tmp 1)),31,none⟩),
 (⟨[49,6,6],[48,49,50,51,52,53,54,55,56,57,58,59,60,61,62,63,64,65,66,67,68,66,67,69,70],[49]⟩,⟨(some 49),(.fieldAddr 106 (.tmp 6) 0),0,none⟩),
 (⟨[50,49,6],[48,49,50,51,52,53,54,55,56,57,58,59,60,61,62,63,64,65,66,67,68,66,67,69,70],[50]⟩,⟨(some 50),(.load 3 (.tmp 49)),3,none⟩),
 (⟨[51,6,6],[48,49,50,51,52,53,54,55,56,57,58,59,60,61,62,63,64,65,66,67,68,66,67,69,70],[51]⟩,⟨(some 51),(.fieldAddr 106 (.tmp 6) 1),0,none⟩),
 (⟨[52,51,6],[48,49,50,51,52,53,54,55,56,57,58,59,60,61,62,63,64,65,66,67,68,66,67,69,70],[52]⟩,⟨(some 52),(.load 3 (.tmp 51)),3,none⟩),
 (⟨[53,48,50,52,1,6,6],[48,49,50,51,52,53,54,55,56,57,58,59,60,61,62,63,64,65,66,67,68,66,67,69,70],[53]⟩,⟨(some 53),(.call ⟨(.value (.func 87)), #[(.tmp 48),(.tmp 50),(.tmp 52)], #[31,3,3]⟩),4,none⟩),
 (⟨[54,53,53],[48,49,50,51,52,53,54,55,56,57,58,59,60,61,62,63,64,65,66,67,68,66,67,69,70],[54]⟩,⟨(some 54),(.unOp .not 4 (.tmp 53)),4,none⟩),
 (⟨[55,54,54],[48,49,50,51,52,53,54,55,56,57,58,59,60,61,62,63,64,65,66,67,68,66,67,69,70],[55]⟩,⟨(some 55),(.move (.tmp 54)),4,none⟩),
 (⟨[56,1,1,55],[48,49,50,51,52,53,54,55,56,57,58,59,60,61,62,63,64,65,66,67,68,66,67,69,70],[56]⟩,⟨(some 56),(.fieldAddr 31 (.tmp 1) 0),0,(some (some 55,false))⟩),
 (⟨[57,56,1,55],[48,49,50,51,52,53,54,55,56,57,58,59,60,61,62,63,64,65,66,67,68,66,67,69,70],[57]⟩,⟨(some 57),(.load 29 (.tmp 56)),29,(some (some 55,false))⟩),
 (⟨[58,6,6,55],[48,49,50,51,52,53,54,55,56,57,58,59,60,61,62,63,64,65,66,67,68,66,67,69,70],[58]⟩,⟨(some 58),(.fieldAddr 106 (.tmp 6) 0),0,(some (some 55,false))⟩),
 (⟨[59,58,6,55],[48,49,50,51,52,53,54,55,56,57,58,59,60,61,62,63,64,65,66,67,68,66,67,69,70],[59]⟩,⟨(some 59),(.load 3 (.tmp 58)),3,(some (some 55,false))⟩),
 (⟨[60,57,59,1,6,55],[48,49,50,51,52,53,54,55,56,57,58,59,60,61,62,63,64,65,66,67,68,66,67,69,70],[60]⟩,⟨(some 60),(.indexAddr 29 (.tmp 57) (.tmp 59)),0,(some (some 55,false))⟩),
 (⟨[61,60,1,55],[48,49,50,51,52,53,54,55,56,57,58,59,60,61,62,63,64,65,66,67,68,66,67,69,70],[61]⟩,⟨(some 61),(.load 104 (.tmp 60)),104,(some (some 55,false))⟩),
 (⟨[62,6,6,55],[48,49,50,51,52,53,54,55,56,57,58,59,60,61,62,63,64,65,66,67,68,66,67,69,70],[62]⟩,⟨(some 62),(.fieldAddr 106 (.tmp 6) 1),0,(some (some 55,false))⟩),
 (⟨[63,62,6,55],[48,49,50,51,52,53,54,55,56,57,58,59,60,61,62,63,64,65,66,67,68,66,67,69,70],[63]⟩,⟨(some 63),(.load 3 (.tmp 62)),3,(some (some 55,false))⟩),
 (⟨[64,61,63,1,6,55],[48,49,50,51,52,53,54,55,56,57,58,59,60,61,62,63,64,65,66,67,68,66,67,69,70],[64]⟩,⟨(some 64),(.indexAddr 104 (.tmp 61) (.tmp 63)),0,(some (some 55,false))⟩),
 (⟨[65,64,1,55],[48,49,50,51,52,53,54,55,56,57,58,59,60,61,62,63,64,65,66,67,68,66,67,69,70],[65]⟩,⟨(some 65),(.load 106 (.tmp 64)),106,(some (some 55,false))⟩),
 (⟨[66,3,3,55],[48,49,50,51,52,53,54,55,56,57,58,59,60,61,62,63,64,65,66,67,68,66,67,69,70],[66]⟩,⟨(some 66),(.move (.tmp 3)),3,(some (some 55,false))⟩),
 (⟨[67,5,5,55],[48,49,50,51,52,53,54,55,56,57,58,59,60,61,62,63,64,65,66,67,68,66,67,69,70],[67]⟩,⟨(some 67),(.move (.tmp 5)),3,(some (some 55,false))⟩),
 (⟨[68,66,67,3,5,55],[48,49,50,51,52,53,54,55,56,57,58,59,60,61,62,63,64,65,66,67,68,66,67,69,70],[68,66,67]⟩,⟨(some 68),(.build 106 #[(0,(.tmp 66)),(1,(.tmp 67))]),106,(some (some 55,false))⟩),
 (⟨[69,65,68,1,68,55],[48,49,50,51,52,53,54,55,56,57,58,59,60,61,62,63,64,65,66,67,68,66,67,69,70],[69]⟩,⟨(some 69),(.binOp .neq 106 (.tmp 65) (.tmp 68) 106),4,(some (some 55,false))⟩),
 (⟨[70,55,69,54,69],[48,49,50,51,52,53,54,55,56,57,58,59,60,61,62,63,64,65,66,67,68,66,67,69,70],[70]⟩,⟨(some 70),(.pick (.tmp 55) (.const (.bool true)) (.tmp 69)),4,none⟩)])
 (.cond (.tmp 70)
 (.seq
 (.ops [
 ⟨(some 2),(.assign (.const (.bool false))),4,none⟩])
 .ret)
 .skip))))
 (.ops [
 ⟨(some 71),(.binOp .add 3 (.tmp 43) (.const (.int .i64 1)) 3),3,none⟩,
 ⟨(some 43),(.move (.tmp 71)),3,none⟩])))
def UF:SC:= .loop N8
def N9:SC:=
 .seq
 (.ops [
 ⟨(some 34),(.binOp .lss 3 (.tmp 33) (.tmp 32) 3),0,none⟩])
 (.seq
 (.cond (.tmp 34)
 .skip
 (.exit 0))
 (.seq
 (.block 1
 (.seq
 (.ops [
 ⟨(some 35),(.move (.tmp 33)),3,none⟩,
 ⟨(some 36),(.indexAddr 29 (.tmp 31) (.tmp 33)),0,none⟩,
 ⟨(some 37),(.load 104 (.tmp 36)),104,none⟩,
 ⟨(some 3),(.assign (.tmp 35)),3,none⟩,
 ⟨(some 4),(.assign (.tmp 37)),104,none⟩])
 (.seq
 (.seq
 (.ops [
 ⟨(some 38),(.move (.tmp 4)),104,none⟩,
 ⟨(some 39),(.call ⟨(.builtin .len), #[(.tmp 38)], #[104]⟩),3,none⟩,
 ⟨(some 40),(.binOp .gtr 3 (.tmp 39) (.const (.int .i64 6)) 3),4,none⟩])
 (.cond (.tmp 40)
 (.seq
 (.ops [
 ⟨(some 2),(.assign (.const (.bool false))),4,none⟩])
 .ret)
 .skip))
 (.seq
 (.ops [
 ⟨(some 41),(.move (.tmp 4)),104,none⟩,
 ⟨(some 42),(.call ⟨(.builtin .len), #[(.tmp 41)], #[104]⟩),3,none⟩,
 ⟨(some 43),(.move (.const (.int .i64 0))),3,none⟩])
 (.block 2
 UF)))))
 (.ops [
 ⟨(some 72),(.binOp .add 3 (.tmp 33) (.const (.int .i64 1)) 3),3,none⟩,
 ⟨(some 33),(.move (.tmp 72)),3,none⟩])))
def UG:SC:= .loop N9
def uf:SC:=
 .seq
 (.ops [
 ⟨(some 1),(.box 31 (.tmp 0)),0,none⟩,
 ⟨(some 2),(.assign (.const (.bool false))),4,none⟩])
 (.seq
 (.seq
 (.ops [
 ⟨(some 7),(.fieldAddr 31 (.tmp 1) 0),0,none⟩,
 ⟨(some 8),(.load 29 (.tmp 7)),29,none⟩,
 ⟨(some 9),(.call ⟨(.builtin .len), #[(.tmp 8)], #[29]⟩),3,none⟩,
 ⟨(some 10),(.call ⟨(.value (.func 84)), #[(.tmp 9),(.const (.int .i64 1)),(.const (.int .i64 40))], #[3,3,3]⟩),4,none⟩,
 ⟨(some 11),(.unOp .not 4 (.tmp 10)),4,none⟩,
 ⟨(some 12),(.move (.tmp 11)),4,none⟩,
 ⟨(some 13),(.fieldAddr 31 (.tmp 1) 1),0,(some (some 12,false))⟩,
 ⟨(some 14),(.load 23 (.tmp 13)),23,(some (some 12,false))⟩,
 ⟨(some 15),(.fieldAddr 31 (.tmp 1) 0),0,(some (some 12,false))⟩,
 ⟨(some 16),(.load 29 (.tmp 15)),29,(some (some 12,false))⟩,
 ⟨(some 17),(.call ⟨(.builtin .len), #[(.tmp 16)], #[29]⟩),3,(some (some 12,false))⟩,
 ⟨(some 18),(.call ⟨(.value (.func 85)), #[(.tmp 14),(.tmp 17)], #[23,3]⟩),4,(some (some 12,false))⟩,
 ⟨(some 19),(.unOp .not 4 (.tmp 18)),4,(some (some 12,false))⟩,
 ⟨(some 20),(.pick (.tmp 12) (.const (.bool true)) (.tmp 19)),4,none⟩,
 ⟨(some 21),(.move (.tmp 20)),4,none⟩,
 ⟨(some 22),(.fieldAddr 31 (.tmp 1) 2),0,(some (some 21,false))⟩,
 ⟨(some 23),(.load 23 (.tmp 22)),23,(some (some 21,false))⟩,
 ⟨(some 24),(.fieldAddr 31 (.tmp 1) 0),0,(some (some 21,false))⟩,
 ⟨(some 25),(.load 29 (.tmp 24)),29,(some (some 21,false))⟩,
 ⟨(some 26),(.call ⟨(.builtin .len), #[(.tmp 25)], #[29]⟩),3,(some (some 21,false))⟩,
 ⟨(some 27),(.call ⟨(.value (.func 86)), #[(.tmp 23),(.tmp 26)], #[23,3]⟩),4,(some (some 21,false))⟩,
 ⟨(some 28),(.unOp .not 4 (.tmp 27)),4,(some (some 21,false))⟩,
 ⟨(some 29),(.pick (.tmp 21) (.const (.bool true)) (.tmp 28)),4,none⟩])
 (.cond (.tmp 29)
 (.seq
 (.ops [
 ⟨(some 2),(.assign (.const (.bool false))),4,none⟩])
 .ret)
 .skip))
 (.seq
 (.seq
 (.ops [
 ⟨(some 30),(.fieldAddr 31 (.tmp 1) 0),0,none⟩,
 ⟨(some 31),(.load 29 (.tmp 30)),29,none⟩,
 ⟨(some 32),(.call ⟨(.builtin .len), #[(.tmp 31)], #[29]⟩),3,none⟩,
 ⟨(some 33),(.move (.const (.int .i64 0))),3,none⟩])
 (.block 0
 UG))
 (.seq
 (.ops [
 ⟨(some 2),(.assign (.const (.bool true))),4,none⟩])
 .ret)))
theorem cF:Try.f46.body.map (BZ lends)=some uf:=by kernel_rfl
theorem ug:CD Try.f46 1=true:=by kernel_rfl
theorem c46{a l:List D}{r:D×List D}(h:Bw Y.env uf (Ew AE l.length [ResultVar.tmp 2] r) (entry a l))(ha:a.length=1):Y.call 46 a l=some r:=
 AN (Y:=Y) rfl Try.func46 (ha▸ug) cF h
def BH(A1:List (List (Int×Int)))(A7:List Int)(A4:List Int)(BY:Int)(Dr:Int)(s:St):Prop:=s.v 1=D.box [D.sl 104 (A8 (fun x=>D.sl 106 (AT .i64 .i64 x)) A1),D.sl 3 (A8 (D.int .i64) A7),D.sl 3 (A8 (D.int .i64) A4)]∧s.v 3=D.int .i64 BY∧s.v 31=D.sl 104 (A8 (fun x=>D.sl 106 (AT .i64 .i64 x)) A1)∧s.v 32=D.int .i64 (A1.length:Int)∧s.v 33=D.int .i64 BY∧s.v 41=D.sl 106 (AT .i64 .i64 (A1.getD BY.toNat default))∧s.v 42=D.int .i64 ((A1.getD BY.toNat default).length:Int)∧s.v 43=D.int .i64 Dr
def BI(A1:List (List (Int×Int)))(A7:List Int)(A4:List Int)(BY:Int)(r:Unit⊕Unit)(ex:Ex)(s:St):Prop:=match r with
 | .inl q=>ex= .ret∧s.v 2=D.bool false
 | .inr q=>ex= .exit 2∧s.v 1=D.box [D.sl 104 (A8 (fun x=>D.sl 106 (AT .i64 .i64 x)) A1),D.sl 3 (A8 (D.int .i64) A7),D.sl 3 (A8 (D.int .i64) A4)]∧s.v 31=D.sl 104 (A8 (fun x=>D.sl 106 (AT .i64 .i64 x)) A1)∧s.v 32=D.int .i64 (A1.length:Int)∧s.v 33=D.int .i64 BY
theorem I6(A1:List (List (Int×Int)))(A7:List Int)(A4:List Int)(BY:Int){v:Int}{s:St}{r:Unit⊕Unit}(h:DO A1 A7 A4 BY v=some r)(hM:BH A1 A7 A4 BY v s):Bw Y.env UF (BI A1 A7 A4 BY r) s:=by
 unfold DO at h
 refine CO (c:=N8) (fun v=>C4 A1 A7 A4 BY v) (fun v s=>BH A1 A7 A4 BY v s) (BI A1 A7 A4 BY) ?_ h hM
 clear h hM s v r
 intro Dr s o hM h
 unfold C4 at h
 unfold BH at hM
 obtain⟨m0,m1,m2,m3,m4,m5,m6,m7⟩:=hM
 unfold N8
 by_cases e11:Dr<((A1.getD BY.toNat default).length:Int)
 ·rw [if_pos e11]at h
  obtain⟨e12,h⟩:=C7 h
  obtain⟨Vn,hl13,h⟩:=Bg h
  try dsimp only at h
  have Lz:=GA A1 A7 A4 (Ad (A1.getD BY.toNat default) Dr.toNat) (Az (A1.getD BY.toNat default) Dr.toNat) hl13
  by_cases e14:Vn=true
  ·rw [if_pos e14]at h
   obtain⟨e15,h⟩:=C7 h
   obtain⟨e16,h⟩:=C7 h
   by_cases e17:(((Ad (A1.getD ((Ad (A1.getD BY.toNat default) Dr.toNat).toNat) default) ((Az (A1.getD BY.toNat default) Dr.toNat).toNat))==BY)&&((Az (A1.getD ((Ad (A1.getD BY.toNat default) Dr.toNat).toNat) default) ((Az (A1.getD BY.toNat default) Dr.toNat).toNat))==Dr))=true
   ·rw [if_pos e17]at h
    obtain rfl:=Option.some.inj h
    simp (maxDischargeDepth:=9) only [↓A9,A5,AB,AY,A6,AA,AZ,↓reduceIte,Nat.reduceEqDiff,Nat.reduceLT,Nat.reduceLeDiff,Nat.reduceAdd,Nat.reduceMul,Nat.reduceMod,Nat.reduceDiv,Nat.reducePow,Nat.reduceSub,Nat.reduceBEq,Int.reduceLE,Int.reduceLT,Int.reduceEq,Int.reduceSub,Int.reduceAdd,Int.reduceToNat,Int.reduceNeg,m0,m1,m2,m3,m4,m5,m6,m7,e11,e12.1,e12.2,Lz,e14,e15.1,e15.2,e16.1,e16.2,e17,BH,BI,D6,D7,D8]<;>(repeat' apply And.intro)<;>first | rfl | exact⟨_,rfl⟩ | exact⟨_,_,rfl⟩ | simp [A8,A3]
   ·rw [if_neg e17]at h
    have e17f:(((Ad (A1.getD ((Ad (A1.getD BY.toNat default) Dr.toNat).toNat) default) ((Az (A1.getD BY.toNat default) Dr.toNat).toNat))==BY)&&((Az (A1.getD ((Ad (A1.getD BY.toNat default) Dr.toNat).toNat) default) ((Az (A1.getD BY.toNat default) Dr.toNat).toNat))==Dr))=false:=Bool.eq_false_iff.mpr e17
    obtain rfl:=Option.some.inj h
    simp (maxDischargeDepth:=9) only [↓A9,A5,AB,AY,A6,AA,AZ,↓reduceIte,Nat.reduceEqDiff,Nat.reduceLT,Nat.reduceLeDiff,Nat.reduceAdd,Nat.reduceMul,Nat.reduceMod,Nat.reduceDiv,Nat.reducePow,Nat.reduceSub,Nat.reduceBEq,Int.reduceLE,Int.reduceLT,Int.reduceEq,Int.reduceSub,Int.reduceAdd,Int.reduceToNat,Int.reduceNeg,m0,m1,m2,m3,m4,m5,m6,m7,e11,e12.1,e12.2,Lz,e14,e15.1,e15.2,e16.1,e16.2,e17f,BH,BI,D6,D7,D8]<;>(repeat' apply And.intro)<;>first | rfl | exact⟨_,rfl⟩ | exact⟨_,_,rfl⟩ | simp [A8,A3]
  ·rw [if_neg e14]at h
   have e14f:Vn=false:=Bool.eq_false_iff.mpr e14
   obtain rfl:=Option.some.inj h
   simp (maxDischargeDepth:=9) only [↓A9,A5,AB,AY,A6,AA,AZ,↓reduceIte,Nat.reduceEqDiff,Nat.reduceLT,Nat.reduceLeDiff,Nat.reduceAdd,Nat.reduceMul,Nat.reduceMod,Nat.reduceDiv,Nat.reducePow,Nat.reduceSub,Nat.reduceBEq,Int.reduceLE,Int.reduceLT,Int.reduceEq,Int.reduceSub,Int.reduceAdd,Int.reduceToNat,Int.reduceNeg,m0,m1,m2,m3,m4,m5,m6,m7,e11,e12.1,e12.2,Lz,e14f,BH,BI,D6,D7,D8]<;>(repeat' apply And.intro)<;>first | rfl | exact⟨_,rfl⟩ | exact⟨_,_,rfl⟩ | simp [A8,A3]
 ·rw [if_neg e11]at h
  obtain rfl:=Option.some.inj h
  simp (maxDischargeDepth:=9) only [↓A9,A5,AB,AY,A6,AA,AZ,↓reduceIte,Nat.reduceEqDiff,Nat.reduceLT,Nat.reduceLeDiff,Nat.reduceAdd,Nat.reduceMul,Nat.reduceMod,Nat.reduceDiv,Nat.reducePow,Nat.reduceSub,Nat.reduceBEq,Int.reduceLE,Int.reduceLT,Int.reduceEq,Int.reduceSub,Int.reduceAdd,Int.reduceToNat,Int.reduceNeg,m0,m1,m2,m3,m4,m5,m6,m7,e11,BH,BI,D6,D7,D8]<;>(repeat' apply And.intro)<;>first | rfl | exact⟨_,rfl⟩ | exact⟨_,_,rfl⟩ | simp [A8,A3]
def BJ(A1:List (List (Int×Int)))(A7:List Int)(A4:List Int)(BY:Int)(s:St):Prop:=s.v 1=D.box [D.sl 104 (A8 (fun x=>D.sl 106 (AT .i64 .i64 x)) A1),D.sl 3 (A8 (D.int .i64) A7),D.sl 3 (A8 (D.int .i64) A4)]∧s.v 31=D.sl 104 (A8 (fun x=>D.sl 106 (AT .i64 .i64 x)) A1)∧s.v 32=D.int .i64 (A1.length:Int)∧s.v 33=D.int .i64 BY
def BK(A1:List (List (Int×Int)))(A7:List Int)(A4:List Int)(r:Unit⊕Unit)(ex:Ex)(s:St):Prop:=match r with
 | .inl q=>ex= .ret∧s.v 2=D.bool false
 | .inr q=>ex= .exit 0
theorem I7(A1:List (List (Int×Int)))(A7:List Int)(A4:List Int){v:Int}{s:St}{r:Unit⊕Unit}(h:DP A1 A7 A4 v=some r)(hM:BJ A1 A7 A4 v s):Bw Y.env UG (BK A1 A7 A4 r) s:=by
 unfold DP at h
 refine CO (c:=N9) (fun v=>C5 A1 A7 A4 v) (fun v s=>BJ A1 A7 A4 v s) (BK A1 A7 A4) ?_ h hM
 clear h hM s v r
 intro BY s o hM h
 unfold C5 at h
 unfold BJ at hM
 obtain⟨m0,m1,m2,m3⟩:=hM
 unfold N9
 by_cases e8:BY<(A1.length:Int)
 ·rw [if_pos e8]at h
  obtain⟨e9,h⟩:=C7 h
  by_cases e10:6<((A1.getD BY.toNat default).length:Int)
  ·rw [if_pos e10]at h
   obtain rfl:=Option.some.inj h
   simp (maxDischargeDepth:=9) only [↓A9,A5,AB,AY,A6,AA,AZ,↓reduceIte,Nat.reduceEqDiff,Nat.reduceLT,Nat.reduceLeDiff,Nat.reduceAdd,Nat.reduceMul,Nat.reduceMod,Nat.reduceDiv,Nat.reducePow,Nat.reduceSub,Nat.reduceBEq,Int.reduceLE,Int.reduceLT,Int.reduceEq,Int.reduceSub,Int.reduceAdd,Int.reduceToNat,Int.reduceNeg,m0,m1,m2,m3,e8,e9.1,e9.2,e10,BJ,BK,D6,D7,D8]<;>(repeat' apply And.intro)<;>first | rfl | exact⟨_,rfl⟩ | exact⟨_,_,rfl⟩ | simp [A8,A3]
  ·rw [if_neg e10]at h
   obtain⟨cE,hl12,h⟩:=Bg h
   try dsimp only at h
   simp (maxDischargeDepth:=9) only [↓A9,A5,AB,AY,A6,AA,AZ,↓reduceIte,Nat.reduceEqDiff,Nat.reduceLT,Nat.reduceLeDiff,Nat.reduceAdd,Nat.reduceMul,Nat.reduceMod,Nat.reduceDiv,Nat.reducePow,Nat.reduceSub,Nat.reduceBEq,Int.reduceLE,Int.reduceLT,Int.reduceEq,Int.reduceSub,Int.reduceAdd,Int.reduceToNat,Int.reduceNeg,m0,m1,m2,m3,e8,e9.1,e9.2,e10]
   refine Ba (I6 A1 A7 A4 BY hl12 ?_) ?_
   ·simp (maxDischargeDepth:=9) only [↓A9,A5,AB,AY,A6,AA,AZ,↓reduceIte,Nat.reduceEqDiff,Nat.reduceLT,Nat.reduceLeDiff,Nat.reduceAdd,Nat.reduceMul,Nat.reduceMod,Nat.reduceDiv,Nat.reducePow,Nat.reduceSub,Nat.reduceBEq,Int.reduceLE,Int.reduceLT,Int.reduceEq,Int.reduceSub,Int.reduceAdd,Int.reduceToNat,Int.reduceNeg,m0,m1,m2,m3,e8,e9.1,e9.2,e10,BH]<;>(repeat' apply And.intro)<;>first | rfl | exact⟨_,rfl⟩ | exact⟨_,_,rfl⟩ | simp [A8,A3]
   ·intro ex12 s12 hX12
    rcases cE with q12_ | q12_
    ·unfold BI at hX12
     dsimp only at hX12 h
     obtain⟨rfl,n12_0⟩:=hX12
     obtain rfl:=Option.some.inj h
     simp (maxDischargeDepth:=9) only [↓A9,A5,AB,AY,A6,AA,AZ,↓reduceIte,Nat.reduceEqDiff,Nat.reduceLT,Nat.reduceLeDiff,Nat.reduceAdd,Nat.reduceMul,Nat.reduceMod,Nat.reduceDiv,Nat.reducePow,Nat.reduceSub,Nat.reduceBEq,Int.reduceLE,Int.reduceLT,Int.reduceEq,Int.reduceSub,Int.reduceAdd,Int.reduceToNat,Int.reduceNeg,e8,e9.1,e9.2,e10,n12_0,BJ,BK,D6,D7,D8]<;>(repeat' apply And.intro)<;>first | rfl | exact⟨_,rfl⟩ | exact⟨_,_,rfl⟩ | simp [A8,A3]
    ·unfold BI at hX12
     dsimp only at hX12 h
     obtain⟨rfl,n12_0,n12_1,n12_2,n12_3⟩:=hX12
     obtain rfl:=Option.some.inj h
     simp (maxDischargeDepth:=9) only [↓A9,A5,AB,AY,A6,AA,AZ,↓reduceIte,Nat.reduceEqDiff,Nat.reduceLT,Nat.reduceLeDiff,Nat.reduceAdd,Nat.reduceMul,Nat.reduceMod,Nat.reduceDiv,Nat.reducePow,Nat.reduceSub,Nat.reduceBEq,Int.reduceLE,Int.reduceLT,Int.reduceEq,Int.reduceSub,Int.reduceAdd,Int.reduceToNat,Int.reduceNeg,e8,e9.1,e9.2,e10,n12_0,n12_1,n12_2,n12_3,BJ,BK,D6,D7,D8]<;>(repeat' apply And.intro)<;>first | rfl | exact⟨_,rfl⟩ | exact⟨_,_,rfl⟩ | simp [A8,A3]
 ·rw [if_neg e8]at h
  obtain rfl:=Option.some.inj h
  simp (maxDischargeDepth:=9) only [↓A9,A5,AB,AY,A6,AA,AZ,↓reduceIte,Nat.reduceEqDiff,Nat.reduceLT,Nat.reduceLeDiff,Nat.reduceAdd,Nat.reduceMul,Nat.reduceMod,Nat.reduceDiv,Nat.reducePow,Nat.reduceSub,Nat.reduceBEq,Int.reduceLE,Int.reduceLT,Int.reduceEq,Int.reduceSub,Int.reduceAdd,Int.reduceToNat,Int.reduceNeg,m0,m1,m2,m3,e8,BJ,BK,D6,D7,D8]<;>(repeat' apply And.intro)<;>first | rfl | exact⟨_,rfl⟩ | exact⟨_,_,rfl⟩ | simp [A8,A3]
theorem IV(A1:List (List (Int×Int)))(A7:List Int)(A4:List Int){r:Bool}(h:FP A1 A7 A4=some r):Y.call 46 [D.agg [D.sl 104 (A8 (fun x=>D.sl 106 (AT .i64 .i64 x)) A1),D.sl 3 (A8 (D.int .i64) A7),D.sl 3 (A8 (D.int .i64) A4)]] []=some (D.bool r,[]):=by
 refine c46 ?_ rfl
 unfold uf
 unfold FP at h
 have c1:=EV (A1.length:Int) (1:Int) (40:Int)
 by_cases e2:(EC (A1.length:Int) (1:Int) (40:Int))=true
 ·rw [if_pos e2]at h
  obtain⟨e3,h⟩:=C7 h
  have c4:=QX A7 (A1.length:Int) e3
  by_cases e5:(HO A7 (A1.length:Int))=true
  ·rw [if_pos e5]at h
   obtain⟨Uc,hl6,h⟩:=Bg h
   try dsimp only at h
   have c6:=JF A4 (A1.length:Int) hl6
   by_cases e7:Uc=true
   ·rw [if_pos e7]at h
    obtain⟨ue,hl9,h⟩:=Bg h
    try dsimp only at h
    simp (maxDischargeDepth:=9) only [↓A9,A5,AB,AY,A6,AA,AZ,↓reduceIte,Nat.reduceEqDiff,Nat.reduceLT,Nat.reduceLeDiff,Nat.reduceAdd,Nat.reduceMul,Nat.reduceMod,Nat.reduceDiv,Nat.reducePow,Nat.reduceSub,Nat.reduceBEq,Int.reduceLE,Int.reduceLT,Int.reduceEq,Int.reduceSub,Int.reduceAdd,Int.reduceToNat,Int.reduceNeg,c1,e2,e3,c4,e5,c6,e7]
    refine Ba (I7 A1 A7 A4 hl9 ?_) ?_
    ·simp (maxDischargeDepth:=9) only [↓A9,A5,AB,AY,A6,AA,AZ,↓reduceIte,Nat.reduceEqDiff,Nat.reduceLT,Nat.reduceLeDiff,Nat.reduceAdd,Nat.reduceMul,Nat.reduceMod,Nat.reduceDiv,Nat.reducePow,Nat.reduceSub,Nat.reduceBEq,Int.reduceLE,Int.reduceLT,Int.reduceEq,Int.reduceSub,Int.reduceAdd,Int.reduceToNat,Int.reduceNeg,c1,e2,e3,c4,e5,c6,e7,BJ]<;>(repeat' apply And.intro)<;>first | rfl | exact⟨_,rfl⟩ | exact⟨_,_,rfl⟩ | simp [A8,A3]
    ·intro ex9 s9 hX9
     rcases ue with q9_ | q9_
     ·unfold BK at hX9
      dsimp only at hX9 h
      obtain⟨rfl,n9_0⟩:=hX9
      obtain rfl:=Option.some.inj h
      simp (maxDischargeDepth:=9) only [↓A9,A5,AB,AY,A6,AA,AZ,↓reduceIte,Nat.reduceEqDiff,Nat.reduceLT,Nat.reduceLeDiff,Nat.reduceAdd,Nat.reduceMul,Nat.reduceMod,Nat.reduceDiv,Nat.reducePow,Nat.reduceSub,Nat.reduceBEq,Int.reduceLE,Int.reduceLT,Int.reduceEq,Int.reduceSub,Int.reduceAdd,Int.reduceToNat,Int.reduceNeg,c1,e2,e3,c4,e5,c6,e7,n9_0]<;>(repeat' apply And.intro)<;>first | rfl | exact⟨_,rfl⟩ | exact⟨_,_,rfl⟩ | simp [A8,A3]
     ·unfold BK at hX9
      dsimp only at hX9 h
      obtain rfl:=hX9
      obtain rfl:=Option.some.inj h
      simp (maxDischargeDepth:=9) only [↓A9,A5,AB,AY,A6,AA,AZ,↓reduceIte,Nat.reduceEqDiff,Nat.reduceLT,Nat.reduceLeDiff,Nat.reduceAdd,Nat.reduceMul,Nat.reduceMod,Nat.reduceDiv,Nat.reducePow,Nat.reduceSub,Nat.reduceBEq,Int.reduceLE,Int.reduceLT,Int.reduceEq,Int.reduceSub,Int.reduceAdd,Int.reduceToNat,Int.reduceNeg,c1,e2,e3,c4,e5,c6,e7]<;>(repeat' apply And.intro)<;>first | rfl | exact⟨_,rfl⟩ | exact⟨_,_,rfl⟩ | simp [A8,A3]
   ·rw [if_neg e7]at h
    have e7f:Uc=false:=Bool.eq_false_iff.mpr e7
    obtain rfl:=Option.some.inj h
    simp (maxDischargeDepth:=9) only [↓A9,A5,AB,AY,A6,AA,AZ,↓reduceIte,Nat.reduceEqDiff,Nat.reduceLT,Nat.reduceLeDiff,Nat.reduceAdd,Nat.reduceMul,Nat.reduceMod,Nat.reduceDiv,Nat.reducePow,Nat.reduceSub,Nat.reduceBEq,Int.reduceLE,Int.reduceLT,Int.reduceEq,Int.reduceSub,Int.reduceAdd,Int.reduceToNat,Int.reduceNeg,c1,e2,e3,c4,e5,c6,e7f]<;>(repeat' apply And.intro)<;>first | rfl | exact⟨_,rfl⟩ | exact⟨_,_,rfl⟩ | simp [A8,A3]
  ·rw [if_neg e5]at h
   have e5f:(HO A7 (A1.length:Int))=false:=Bool.eq_false_iff.mpr e5
   obtain rfl:=Option.some.inj h
   simp (maxDischargeDepth:=9) only [↓A9,A5,AB,AY,A6,AA,AZ,↓reduceIte,Nat.reduceEqDiff,Nat.reduceLT,Nat.reduceLeDiff,Nat.reduceAdd,Nat.reduceMul,Nat.reduceMod,Nat.reduceDiv,Nat.reducePow,Nat.reduceSub,Nat.reduceBEq,Int.reduceLE,Int.reduceLT,Int.reduceEq,Int.reduceSub,Int.reduceAdd,Int.reduceToNat,Int.reduceNeg,c1,e2,e3,c4,e5f]<;>(repeat' apply And.intro)<;>first | rfl | exact⟨_,rfl⟩ | exact⟨_,_,rfl⟩ | simp [A8,A3]
 ·rw [if_neg e2]at h
  have e2f:(EC (A1.length:Int) (1:Int) (40:Int))=false:=Bool.eq_false_iff.mpr e2
  obtain rfl:=Option.some.inj h
  simp (maxDischargeDepth:=9) only [↓A9,A5,AB,AY,A6,AA,AZ,↓reduceIte,Nat.reduceEqDiff,Nat.reduceLT,Nat.reduceLeDiff,Nat.reduceAdd,Nat.reduceMul,Nat.reduceMod,Nat.reduceDiv,Nat.reducePow,Nat.reduceSub,Nat.reduceBEq,Int.reduceLE,Int.reduceLT,Int.reduceEq,Int.reduceSub,Int.reduceAdd,Int.reduceToNat,Int.reduceNeg,c1,e2f]<;>(repeat' apply And.intro)<;>first | rfl | exact⟨_,rfl⟩ | exact⟨_,_,rfl⟩ | simp [A8,A3]
noncomputable def D4(A1:List (List (Int×Int)))(A7:List Int)(A4:List Int)(BE:Int)(Ch:Int):Option ((Int)⊕(Unit⊕Unit)):=
 if Ch<((A1.getD BE.toNat default).length:Int)then
  ck (0≤Ch∧Ch.toNat<(A1.getD BE.toNat default).length)<|
  if(EC (Ad (A1.getD BE.toNat default) Ch.toNat) (0:Int) (IntKind.i64.wrap ((A1.length:Int)-1)))=true then
   ck (0≤(Ad (A1.getD BE.toNat default) Ch.toNat)∧(Ad (A1.getD BE.toNat default) Ch.toNat).toNat<A1.length)<|
   if(EC (Az (A1.getD BE.toNat default) Ch.toNat) (0:Int) (IntKind.i64.wrap (((A1.getD ((Ad (A1.getD BE.toNat default) Ch.toNat).toNat) default).length:Int)-1)))=true then
    ck (0≤(Az (A1.getD BE.toNat default) Ch.toNat)∧(Az (A1.getD BE.toNat default) Ch.toNat).toNat<(A1.getD ((Ad (A1.getD BE.toNat default) Ch.toNat).toNat) default).length)<|
    if(((Ad (A1.getD ((Ad (A1.getD BE.toNat default) Ch.toNat).toNat) default) ((Az (A1.getD BE.toNat default) Ch.toNat).toNat))==BE)&&((Az (A1.getD ((Ad (A1.getD BE.toNat default) Ch.toNat).toNat) default) ((Az (A1.getD BE.toNat default) Ch.toNat).toNat))==Ch))=true then
     some (Sum.inl (IntKind.i64.wrap (Ch+1)))
    else
     some (Sum.inr (Sum.inl ()))
   else
    some (Sum.inr (Sum.inl ()))
  else
   some (Sum.inr (Sum.inl ()))
 else
  some (Sum.inr (Sum.inr ()))
noncomputable def EX(A1:List (List (Int×Int)))(A7:List Int)(A4:List Int)(BE:Int)(v:Int):Option (Unit⊕Unit):=Gc (fun v=>D4 A1 A7 A4 BE v) v
noncomputable def D5(A1:List (List (Int×Int)))(A7:List Int)(A4:List Int)(BE:Int):Option ((Int)⊕(Unit⊕Unit)):=
 if BE<(A1.length:Int)then
  ck (0≤BE∧BE.toNat<A1.length)<|
  if 6<((A1.getD BE.toNat default).length:Int)then
   some (Sum.inr (Sum.inl ()))
  else
   (EX A1 A7 A4 BE 0).bind fun EJ=>
   match EJ with
   | .inl q14_=>
    some (Sum.inr (Sum.inl ()))
   | .inr q14_=>
    some (Sum.inl (IntKind.i64.wrap (BE+1)))
 else
  some (Sum.inr (Sum.inr ()))
noncomputable def EY(A1:List (List (Int×Int)))(A7:List Int)(A4:List Int)(v:Int):Option (Unit⊕Unit):=Gc (fun v=>D5 A1 A7 A4 v) v
noncomputable def I8(A1:List (List (Int×Int)))(A7:List Int)(A4:List Int):Option (Bool):=
 if(EC (A1.length:Int) (1:Int) (40:Int))=true then
  ck (A7.length<1099511627776)<|
  if(HO A7 (A1.length:Int))=true then
   if(A4.length:Int)=(A1.length:Int)then
    ck (A4.length<1099511627776)<|
    if(Dz A4 (0:Int) (9:Int))=true then
     (EY A1 A7 A4 0).bind fun Ov=>
     match Ov with
     | .inl q11_=>
      some false
     | .inr q11_=>
      some true
    else
     some false
   else
    some false
  else
   some false
 else
  some false
def NA:SC:=
 .seq
 (.ops [
 ⟨(some 50),(.binOp .lss 3 (.tmp 49) (.tmp 48) 3),0,none⟩])
 (.seq
 (.cond (.tmp 50)
 .skip
 (.exit 2))
 (.seq
 (.block 3
 (.seq
 (.ops [
 ⟨(some 51),(.move (.tmp 49)),3,none⟩,
 ⟨(some 52),(.indexAddr 104 (.tmp 47) (.tmp 49)),0,none⟩,
 ⟨(some 53),(.load 106 (.tmp 52)),106,none⟩,
 ⟨(some 6),(.alloc 106),0,none⟩,
 ⟨(some 5),(.assign (.tmp 51)),3,none⟩,
 ⟨none,(.store 106 (.tmp 6) (.tmp 53)),0,none⟩])
 (.seq
 (.draws [
 (⟨[54,6,6],[54,55,56,57,58,59,60,61,62,63,64,65,66,67,68,69,70,71,72,73,74,75,76,77,78,79,80,81,82,83,84,85,86,87,88,89,87,88,90,91],[54]⟩,⟨(some 54),(.fieldAddr 106 (.tmp 6) 0),0,none⟩),
 (⟨[55,54,6],[54,55,56,57,58,59,60,61,62,63,64,65,66,67,68,69,70,71,72,73,74,75,76,77,78,79,80,81,82,83,84,85,86,87,88,89,87,88,90,91],[55]⟩,⟨(some 55),(.load 3 (.tmp 54)),3,none⟩),
 (⟨[56,1,1],[54,55,56,57,58,59,60,61,62,63,64,65,66,67,68,69,70,71,72,73,74,75,76,77,78,79,80,81,82,83,84,85,86,87,88,89,87,88,90,91],[56]⟩,⟨(some 56),(.fieldAddr 31 (.tmp 1) 0),0,none⟩),
 (⟨[57,56,1],[54,55,56,57,58,59,60,61,62,63,64,65,66,67,68,69,70,71,72,73,74,75,76,77,78,79,80,81,82,83,84,85,86,87,88,89,87,88,90,91],[57]⟩,⟨(some 57),(.load 29 (.tmp 56)),29,none⟩),
 (⟨[58,57,1],[54,55,56,57,58,59,60,61,62,63,64,65,66,67,68,69,70,71,72,73,74,75,76,77,78,79,80,81,82,83,84,85,86,87,88,89,87,88,90,91],[58]⟩,⟨(some 58),(.call ⟨(.builtin .len), #[(.tmp 57)], #[29]⟩),3,none⟩),
 (⟨[59,58,58],[54,55,56,57,58,59,60,61,62,63,64,65,66,67,68,69,70,71,72,73,74,75,76,77,78,79,80,81,82,83,84,85,86,87,88,89,87,88,90,91],[59]⟩,⟨(some 59),(.binOp .sub 3 (.tmp 58) (.const (.int .i64 1)) 3),3,none⟩),
 (⟨[60,55,59,6,59],[54,55,56,57,58,59,60,61,62,63,64,65,66,67,68,69,70,71,72,73,74,75,76,77,78,79,80,81,82,83,84,85,86,87,88,89,87,88,90,91],[60]⟩,⟨(some 60),(.call ⟨(.value (.func 79)), #[(.tmp 55),(.const (.int .i64 0)),(.tmp 59)], #[3,3,3]⟩),4,none⟩),
 (⟨[61,60,60],[54,55,56,57,58,59,60,61,62,63,64,65,66,67,68,69,70,71,72,73,74,75,76,77,78,79,80,81,82,83,84,85,86,87,88,89,87,88,90,91],[61]⟩,⟨(some 61),(.unOp .not 4 (.tmp 60)),4,none⟩),
 (⟨[62,61,61],[54,55,56,57,58,59,60,61,62,63,64,65,66,67,68,69,70,71,72,73,74,75,76,77,78,79,80,81,82,83,84,85,86,87,88,89,87,88,90,91],[62]⟩,⟨(some 62),(.move (.tmp 61)),4,none⟩),
 (⟨[63,6,6,62],[54,55,56,57,58,59,60,61,62,63,64,65,66,67,68,69,70,71,72,73,74,75,76,77,78,79,80,81,82,83,84,85,86,87,88,89,87,88,90,91],[63]⟩,⟨(some 63),(.fieldAddr 106 (.tmp 6) 1),0,(some (some 62,false))⟩),
 (⟨[64,63,6,62],[54,55,56,57,58,59,60,61,62,63,64,65,66,67,68,69,70,71,72,73,74,75,76,77,78,79,80,81,82,83,84,85,86,87,88,89,87,88,90,91],[64]⟩,⟨(some 64),(.load 3 (.tmp 63)),3,(some (some 62,false))⟩),
 (⟨[65,1,1,62],[54,55,56,57,58,59,60,61,62,63,64,65,66,67,68,69,70,71,72,73,74,75,76,77,78,79,80,81,82,83,84,85,86,87,88,89,87,88,90,91],[65]⟩,⟨(some 65),(.fieldAddr 31 (.tmp 1) 0),0,(some (some 62,false))⟩),
 (⟨[66,65,1,62],[54,55,56,57,58,59,60,61,62,63,64,65,66,67,68,69,70,71,72,73,74,75,76,77,78,79,80,81,82,83,84,85,86,87,88,89,87,88,90,91],[66]⟩,⟨(some 66),(.load 29 (.tmp 65)),29,(some (some 62,false))⟩),
 (⟨[67,6,6,62],[54,55,56,57,58,59,60,61,62,63,64,65,66,67,68,69,70,71,72,73,74,75,76,77,78,79,80,81,82,83,84,85,86,87,88,89,87,88,90,91],[67]⟩,⟨(some 67),(.fieldAddr 106 (.tmp 6) 0),0,(some (some 62,false))⟩),
 (⟨[68,67,6,62],[54,55,56,57,58,59,60,61,62,63,64,65,66,67,68,69,70,71,72,73,74,75,76,77,78,79,80,81,82,83,84,85,86,87,88,89,87,88,90,91],[68]⟩,⟨(some 68),(.load 3 (.tmp 67)),3,(some (some 62,false))⟩),
 (⟨[69,66,68,1,6,62],[54,55,56,57,58,59,60,61,62,63,64,65,66,67,68,69,70,71,72,73,74,75,76,77,78,79,80,81,82,83,84,85,86,87,88,89,87,88,90,91],[69]⟩,⟨(some 69),(.indexAddr 29 (.tmp 66) (.tmp 68)),0,(some (some 62,false))⟩),
 (⟨[70,69,1,62],[54,55,56,57,58,59,60,61,62,63,64,65,66,67,68,69,70,71,72,73,74,75,76,77,78,79,80,81,82,83,84,85,86,87,88,89,87,88,90,91],[70]⟩,⟨(some 70),(.load 104 (.tmp 69)),104,(some (some 62,false))⟩),
 (⟨[71,70,1,62],[54,55,56,57,58,59,60,61,62,63,64,65,66,67,68,69,70,71,72,73,74,75,76,77,78,79,80,81,82,83,84,85,86,87,88,89,87,88,90,91],[71]⟩,⟨(some 71),(.call ⟨(.builtin .len), #[(.tmp 70)], #[104]⟩),3,(some (some 62,false))⟩),
 (⟨[72,71,71,62],[54,55,56,57,58,59,60,61,62,63,64,65,66,67,68,69,70,71,72,73,74,75,76,77,78,79,80,81,82,83,84,85,86,87,88,89,87,88,90,91],[72]⟩,⟨(some 72),(.binOp .sub 3 (.tmp 71) (.const (.int .i64 1)) 3),3,(some (some 62,false))⟩),
 (⟨[73,64,72,6,72,62],[54,55,56,57,58,59,60,61,62,63,64,65,66,67,68,69,70,71,72,73,74,75,76,77,78,79,80,81,82,83,84,85,86,87,88,89,87,88,90,91],[73]⟩,⟨(some 73),(.call ⟨(.value (.func 79)), #[(.tmp 64),(.const (.int .i64 0)),(.tmp 72)], #[3,3,3]⟩),4,(some (some 62,false))⟩),
 (⟨[74,73,73,62],[54,55,56,57,58,59,60,61,62,63,64,65,66,67,68,69,70,71,72,73,74,75,76,77,78,79,80,81,82,83,84,85,86,87,88,89,87,88,90,91],[74]⟩,⟨(some 74),(.unOp .not 4 (.tmp 73)),4,(some (some 62,false))⟩),
 (⟨[75,62,74,61,74],[54,55,56,57,58,59,60,61,62,63,64,65,66,67,68,69,70,71,72,73,74,75,76,77,78,79,80,81,82,83,84,85,86,87,88,89,87,88,90,91],[75]⟩,⟨(some 75),(.pick (.tmp 62) (.const (.bool true)) (.tmp 74)),4,none⟩),
 (⟨[76,75,75],[54,55,56,57,58,59,60,61,62,63,64,65,66,67,68,69,70,71,72,73,74,75,76,77,78,79,80,81,82,83,84,85,86,87,88,89,87,88,90,91],[76]⟩,⟨(some 76),(.move (.tmp 75)),4,none⟩),
 (⟨[77,1,1,76],[54,55,56,57,58,59,60,61,62,63,64,65,66,67,68,69,70,71,72,73,74,75,76,77,78,79,80,81,82,83,84,85,86,87,88,89,87,88,90,91],[77]⟩,⟨(some 77),(.fieldAddr 31 (.tmp 1) 0),0,(some (some 76,false))⟩),
 (⟨[78,77,1,76],[54,55,56,57,58,59,60,61,62,63,64,65,66,67,68,69,70,71,72,73,74,75,76,77,78,79,80,81,82,83,84,85,86,87,88,89,87,88,90,91],[78]⟩,⟨(some 78),(.load 29 (.tmp 77)),29,(some (some 76,false))⟩),
 (⟨[79,6,6,76],[54,55,56,57,58,59,60,61,62,63,64,65,66,67,68,69,70,71,72,73,74,75,76,77,78,79,80,81,82,83,84,85,86,87,88,89,87,88,90,91],[79]⟩,⟨(some 79),(.fieldAddr 106 (.tmp 6) 0),0,(some (some 76,false))⟩),
 (⟨[80,79,6,76],[54,55,56,57,58,59,60,61,62,63,64,65,66,67,68,69,70,71,72,73,74,75,76,77,78,79,80,81,82,83,84,85,86,87,88,89,87,88,90,91],[80]⟩,⟨(some 80),(.load 3 (.tmp 79)),3,(some (some 76,false))⟩),
 (⟨[81,78,80,1,6,76],[54,55,56,57,58,59,60,61,62,63,64,65,66,67,68,69,70,71,72,73,74,75,76,77,78,79,80,81,82,83,84,85,86,87,88,89,87,88,90,91],[81]⟩,⟨(some 81),(.indexAddr 29 (.tmp 78) (.tmp 80)),0,(some (some 76,false))⟩),
 (⟨[82,81,1,76],[54,55,56,57,58,59,60,61,62,63,64,65,66,67,68,69,70,71,72,73,74,75,76,77,78,79,80,81,82,83,84,85,86,87,88,89,87,88,90,91],[82]⟩,⟨(some 82),(.load 104 (.tmp 81)),104,(some (some 76,false))⟩),
 (⟨[83,6,6,76],[54,55,56,57,58,59,60,61,62,63,64,65,66,67,68,69,70,71,72,73,74,75,76,77,78,79,80,81,82,83,84,85,86,87,88,89,87,88,90,91],[83]⟩,⟨(some 83),(.fieldAddr 106 (.tmp 6) 1),0,(some (some 76,false))⟩),
 (⟨[84,83,6,76],[54,55,56,57,58,59,60,61,62,63,64,65,66,67,68,69,70,71,72,73,74,75,76,77,78,79,80,81,82,83,84,85,86,87,88,89,87,88,90,91],[84]⟩,⟨(some 84),(.load 3 (.tmp 83)),3,(some (some 76,false))⟩),
 (⟨[85,82,84,1,6,76],[54,55,56,57,58,59,60,61,62,63,64,65,66,67,68,69,70,71,72,73,74,75,76,77,78,79,80,81,82,83,84,85,86,87,88,89,87,88,90,91],[85]⟩,⟨(some 85),(.indexAddr 104 (.tmp 82) (.tmp 84)),0,(some (some 76,false))⟩),
 (⟨[86,85,1,76],[54,55,56,57,58,59,60,61,62,63,64,65,66,67,68,69,70,71,72,73,74,75,76,77,78,79,80,81,82,83,84,85,86,87,88,89,87,88,90,91],[86]⟩,⟨(some 86),(.load 106 (.tmp 85)),106,(some (some 76,false))⟩),
 (⟨[87,3,3,76],[54,55,56,57,58,59,60,61,62,63,64,65,66,67,68,69,70,71,72,73,74,75,76,77,78,79,80,81,82,83,84,85,86,87,88,89,87,88,90,91],[87]⟩,⟨(some 87),(.move (.tmp 3)),3,(some (some 76,false))⟩),
 (⟨[88,5,5,76],[54,55,56,57,58,59,60,61,62,63,64,65,66,67,68,69,70,71,72,73,74,75,76,77,78,79,80,81,82,83,84,85,86,87,88,89,87,88,90,91],[88]⟩,⟨(some 88),(.move (.tmp 5)),3,(some (some 76,false))⟩),
 (⟨[89,87,88,3,5,76],[54,55,56,57,58,59,60,61,62,63,64,65,66,67,68,69,70,71,72,73,74,75,76,77,78,79,80,81,82,83,84,85,86,87,88,89,87,88,90,91],[89,87,88]⟩,⟨(some 89),(.build 106 #[(0,(.tmp 87)),(1,(.tmp 88))]),106,(some (some 76,false))⟩),
 (⟨[90,86,89,1,89,76],[54,55,56,57,58,59,60,61,62,63,64,65,66,67,68,69,70,71,72,73,74,75,76,77,78,79,80,81,82,83,84,85,86,87,88,89,87,88,90,91],[90]⟩,⟨(some 90),(.binOp .neq 106 (.tmp 86) (.tmp 89) 106),4,(some (some 76,false))⟩),
 (⟨[91,76,90,75,90],[54,55,56,57,58,59,60,61,62,63,64,65,66,67,68,69,70,71,72,73,74,75,76,77,78,79,80,81,82,83,84,85,86,87,88,89,87,88,90,91],[91]⟩,⟨(some 91),(.pick (.tmp 76) (.const (.bool true)) (.tmp 90)),4,none⟩)])
 (.cond (.tmp 91)
 (.seq
 (.ops [
 ⟨(some 2),(.assign (.const (.bool false))),4,none⟩])
 .ret)
 .skip))))
 (.ops [
 ⟨(some 92),(.binOp .add 3 (.tmp 49) (.const (.int .i64 1)) 3),3,none⟩,
 ⟨(some 49),(.move (.tmp 92)),3,none⟩])))
def UH:SC:= .loop NA
def NB:SC:=
 .seq
 (.ops [
 ⟨(some 40),(.binOp .lss 3 (.tmp 39) (.tmp 38) 3),0,none⟩])
 (.seq
 (.cond (.tmp 40)
 .skip
 (.exit 0))
 (.seq
 (.block 1
 (.seq
 (.ops [
 ⟨(some 41),(.move (.tmp 39)),3,none⟩,
 ⟨(some 42),(.indexAddr 29 (.tmp 37) (.tmp 39)),0,none⟩,
 ⟨(some 43),(.load 104 (.tmp 42)),104,none⟩,
 ⟨(some 3),(.assign (.tmp 41)),3,none⟩,
 ⟨(some 4),(.assign (.tmp 43)),104,none⟩])
 (.seq
 (.seq
 (.ops [
 ⟨(some 44),(.move (.tmp 4)),104,none⟩,
 ⟨(some 45),(.call ⟨(.builtin .len), #[(.tmp 44)], #[104]⟩),3,none⟩,
 ⟨(some 46),(.binOp .gtr 3 (.tmp 45) (.const (.int .i64 6)) 3),4,none⟩])
 (.cond (.tmp 46)
 (.seq
 (.ops [
 ⟨(some 2),(.assign (.const (.bool false))),4,none⟩])
 .ret)
 .skip))
 (.seq
 (.ops [
 ⟨(some 47),(.move (.tmp 4)),104,none⟩,
 ⟨(some 48),(.call ⟨(.builtin .len), #[(.tmp 47)], #[104]⟩),3,none⟩,
 ⟨(some 49),(.move (.const (.int .i64 0))),3,none⟩])
 (.block 2
 UH)))))
 (.ops [
 ⟨(some 93),(.binOp .add 3 (.tmp 39) (.const (.int .i64 1)) 3),3,none⟩,
 ⟨(some 39),(.move (.tmp 93)),3,none⟩])))
def UI:SC:= .loop NB
def uh:SC:=
 .seq
 (.ops [
 ⟨(some 1),(.box 31 (.tmp 0)),0,none⟩,
 ⟨(some 2),(.assign (.const (.bool false))),4,none⟩])
 (.seq
 (.seq
 (.ops [
 ⟨(some 7),(.fieldAddr 31 (.tmp 1) 0),0,none⟩,
 ⟨(some 8),(.load 29 (.tmp 7)),29,none⟩,
 ⟨(some 9),(.call ⟨(.builtin .len), #[(.tmp 8)], #[29]⟩),3,none⟩,
 ⟨(some 10),(.call ⟨(.value (.func 79)), #[(.tmp 9),(.const (.int .i64 1)),(.const (.int .i64 40))], #[3,3,3]⟩),4,none⟩,
 ⟨(some 11),(.unOp .not 4 (.tmp 10)),4,none⟩,
 ⟨(some 12),(.move (.tmp 11)),4,none⟩,
 ⟨(some 13),(.fieldAddr 31 (.tmp 1) 1),0,(some (some 12,false))⟩,
 ⟨(some 14),(.load 23 (.tmp 13)),23,(some (some 12,false))⟩,
 ⟨(some 15),(.fieldAddr 31 (.tmp 1) 0),0,(some (some 12,false))⟩,
 ⟨(some 16),(.load 29 (.tmp 15)),29,(some (some 12,false))⟩,
 ⟨(some 17),(.call ⟨(.builtin .len), #[(.tmp 16)], #[29]⟩),3,(some (some 12,false))⟩,
 ⟨(some 18),(.call ⟨(.value (.func 80)), #[(.tmp 14),(.tmp 17)], #[23,3]⟩),4,(some (some 12,false))⟩,
 ⟨(some 19),(.unOp .not 4 (.tmp 18)),4,(some (some 12,false))⟩,
 ⟨(some 20),(.pick (.tmp 12) (.const (.bool true)) (.tmp 19)),4,none⟩,
 ⟨(some 21),(.move (.tmp 20)),4,none⟩,
 ⟨(some 22),(.fieldAddr 31 (.tmp 1) 2),0,(some (some 21,false))⟩,
 ⟨(some 23),(.load 23 (.tmp 22)),23,(some (some 21,false))⟩,
 ⟨(some 24),(.call ⟨(.builtin .len), #[(.tmp 23)], #[23]⟩),3,(some (some 21,false))⟩,
 ⟨(some 25),(.fieldAddr 31 (.tmp 1) 0),0,(some (some 21,false))⟩,
 ⟨(some 26),(.load 29 (.tmp 25)),29,(some (some 21,false))⟩,
 ⟨(some 27),(.call ⟨(.builtin .len), #[(.tmp 26)], #[29]⟩),3,(some (some 21,false))⟩,
 ⟨(some 28),(.binOp .neq 3 (.tmp 24) (.tmp 27) 3),4,(some (some 21,false))⟩,
 ⟨(some 29),(.pick (.tmp 21) (.const (.bool true)) (.tmp 28)),4,none⟩,
 ⟨(some 30),(.move (.tmp 29)),4,none⟩,
 ⟨(some 31),(.fieldAddr 31 (.tmp 1) 2),0,(some (some 30,false))⟩,
 ⟨(some 32),(.load 23 (.tmp 31)),23,(some (some 30,false))⟩,
 ⟨(some 33),(.call ⟨(.value (.func 81)), #[(.tmp 32),(.const (.int .i64 0)),(.const (.int .i64 9))], #[23,3,3]⟩),4,(some (some 30,false))⟩,
 ⟨(some 34),(.unOp .not 4 (.tmp 33)),4,(some (some 30,false))⟩,
 ⟨(some 35),(.pick (.tmp 30) (.const (.bool true)) (.tmp 34)),4,none⟩])
 (.cond (.tmp 35)
 (.seq
 (.ops [
 ⟨(some 2),(.assign (.const (.bool false))),4,none⟩])
 .ret)
 .skip))
 (.seq
 (.seq
 (.ops [
 ⟨(some 36),(.fieldAddr 31 (.tmp 1) 0),0,none⟩,
 ⟨(some 37),(.load 29 (.tmp 36)),29,none⟩,
 ⟨(some 38),(.call ⟨(.builtin .len), #[(.tmp 37)], #[29]⟩),3,none⟩,
 ⟨(some 39),(.move (.const (.int .i64 0))),3,none⟩])
 (.block 0
 UI))
 (.seq
 (.ops [
 ⟨(some 2),(.assign (.const (.bool true))),4,none⟩])
 .ret)))
theorem cG:Try.f43.body.map (BZ lends)=some uh:=by kernel_rfl
theorem uj:CD Try.f43 1=true:=by kernel_rfl
theorem c43{a l:List D}{r:D×List D}(h:Bw Y.env uh (Ew AE l.length [ResultVar.tmp 2] r) (entry a l))(ha:a.length=1):Y.call 43 a l=some r:=
 AN (Y:=Y) rfl Try.func43 (ha▸uj) cG h
def Bb(A1:List (List (Int×Int)))(A7:List Int)(A4:List Int)(BE:Int)(Ch:Int)(s:St):Prop:=s.v 1=D.box [D.sl 104 (A8 (fun x=>D.sl 106 (AT .i64 .i64 x)) A1),D.sl 3 (A8 (D.int .i64) A7),D.sl 3 (A8 (D.int .i64) A4)]∧s.v 3=D.int .i64 BE∧s.v 37=D.sl 104 (A8 (fun x=>D.sl 106 (AT .i64 .i64 x)) A1)∧s.v 38=D.int .i64 (A1.length:Int)∧s.v 39=D.int .i64 BE∧s.v 47=D.sl 106 (AT .i64 .i64 (A1.getD BE.toNat default))∧s.v 48=D.int .i64 ((A1.getD BE.toNat default).length:Int)∧s.v 49=D.int .i64 Ch
def Bc(A1:List (List (Int×Int)))(A7:List Int)(A4:List Int)(BE:Int)(r:Unit⊕Unit)(ex:Ex)(s:St):Prop:=match r with
 | .inl q=>ex= .ret∧s.v 2=D.bool false
 | .inr q=>ex= .exit 2∧s.v 1=D.box [D.sl 104 (A8 (fun x=>D.sl 106 (AT .i64 .i64 x)) A1),D.sl 3 (A8 (D.int .i64) A7),D.sl 3 (A8 (D.int .i64) A4)]∧s.v 37=D.sl 104 (A8 (fun x=>D.sl 106 (AT .i64 .i64 x)) A1)∧s.v 38=D.int .i64 (A1.length:Int)∧s.v 39=D.int .i64 BE
theorem Ki(A1:List (List (Int×Int)))(A7:List Int)(A4:List Int)(BE:Int){v:Int}{s:St}{r:Unit⊕Unit}(h:EX A1 A7 A4 BE v=some r)(hM:Bb A1 A7 A4 BE v s):Bw Y.env UH (Bc A1 A7 A4 BE r) s:=by
 unfold EX at h
 refine CO (c:=NA) (fun v=>D4 A1 A7 A4 BE v) (fun v s=>Bb A1 A7 A4 BE v s) (Bc A1 A7 A4 BE) ?_ h hM
 clear h hM s v r
 intro Ch s o hM h
 unfold D4 at h
 unfold Bb at hM
 obtain⟨m0,m1,m2,m3,m4,m5,m6,m7⟩:=hM
 unfold NA
 by_cases e13:Ch<((A1.getD BE.toNat default).length:Int)
 ·rw [if_pos e13]at h
  obtain⟨e14,h⟩:=C7 h
  have LJ:=Fl (Ad (A1.getD BE.toNat default) Ch.toNat) (0:Int) (IntKind.i64.wrap ((A1.length:Int)-1))
  by_cases e16:(EC (Ad (A1.getD BE.toNat default) Ch.toNat) (0:Int) (IntKind.i64.wrap ((A1.length:Int)-1)))=true
  ·rw [if_pos e16]at h
   obtain⟨e17,h⟩:=C7 h
   have c18:=Fl (Az (A1.getD BE.toNat default) Ch.toNat) (0:Int) (IntKind.i64.wrap (((A1.getD ((Ad (A1.getD BE.toNat default) Ch.toNat).toNat) default).length:Int)-1))
   by_cases e19:(EC (Az (A1.getD BE.toNat default) Ch.toNat) (0:Int) (IntKind.i64.wrap (((A1.getD ((Ad (A1.getD BE.toNat default) Ch.toNat).toNat) default).length:Int)-1)))=true
   ·rw [if_pos e19]at h
    obtain⟨e20,h⟩:=C7 h
    by_cases e21:(((Ad (A1.getD ((Ad (A1.getD BE.toNat default) Ch.toNat).toNat) default) ((Az (A1.getD BE.toNat default) Ch.toNat).toNat))==BE)&&((Az (A1.getD ((Ad (A1.getD BE.toNat default) Ch.toNat).toNat) default) ((Az (A1.getD BE.toNat default) Ch.toNat).toNat))==Ch))=true
    ·rw [if_pos e21]at h
     obtain rfl:=Option.some.inj h
     simp (maxDischargeDepth:=9) only [↓A9,A5,AB,AY,A6,AA,AZ,↓reduceIte,Nat.reduceEqDiff,Nat.reduceLT,Nat.reduceLeDiff,Nat.reduceAdd,Nat.reduceMul,Nat.reduceMod,Nat.reduceDiv,Nat.reducePow,Nat.reduceSub,Nat.reduceBEq,Int.reduceLE,Int.reduceLT,Int.reduceEq,Int.reduceSub,Int.reduceAdd,Int.reduceToNat,Int.reduceNeg,m0,m1,m2,m3,m4,m5,m6,m7,e13,e14.1,e14.2,LJ,e16,e17.1,e17.2,c18,e19,e20.1,e20.2,e21,Bb,Bc,D6,D7,D8]<;>(repeat' apply And.intro)<;>first | rfl | exact⟨_,rfl⟩ | exact⟨_,_,rfl⟩ | simp [A8,A3]
    ·rw [if_neg e21]at h
     have e21f:(((Ad (A1.getD ((Ad (A1.getD BE.toNat default) Ch.toNat).toNat) default) ((Az (A1.getD BE.toNat default) Ch.toNat).toNat))==BE)&&((Az (A1.getD ((Ad (A1.getD BE.toNat default) Ch.toNat).toNat) default) ((Az (A1.getD BE.toNat default) Ch.toNat).toNat))==Ch))=false:=Bool.eq_false_iff.mpr e21
     obtain rfl:=Option.some.inj h
     simp (maxDischargeDepth:=9) only [↓A9,A5,AB,AY,A6,AA,AZ,↓reduceIte,Nat.reduceEqDiff,Nat.reduceLT,Nat.reduceLeDiff,Nat.reduceAdd,Nat.reduceMul,Nat.reduceMod,Nat.reduceDiv,Nat.reducePow,Nat.reduceSub,Nat.reduceBEq,Int.reduceLE,Int.reduceLT,Int.reduceEq,Int.reduceSub,Int.reduceAdd,Int.reduceToNat,Int.reduceNeg,m0,m1,m2,m3,m4,m5,m6,m7,e13,e14.1,e14.2,LJ,e16,e17.1,e17.2,c18,e19,e20.1,e20.2,e21f,Bb,Bc,D6,D7,D8]<;>(repeat' apply And.intro)<;>first | rfl | exact⟨_,rfl⟩ | exact⟨_,_,rfl⟩ | simp [A8,A3]
   ·rw [if_neg e19]at h
    have e19f:(EC (Az (A1.getD BE.toNat default) Ch.toNat) (0:Int) (IntKind.i64.wrap (((A1.getD ((Ad (A1.getD BE.toNat default) Ch.toNat).toNat) default).length:Int)-1)))=false:=Bool.eq_false_iff.mpr e19
    obtain rfl:=Option.some.inj h
    simp (maxDischargeDepth:=9) only [↓A9,A5,AB,AY,A6,AA,AZ,↓reduceIte,Nat.reduceEqDiff,Nat.reduceLT,Nat.reduceLeDiff,Nat.reduceAdd,Nat.reduceMul,Nat.reduceMod,Nat.reduceDiv,Nat.reducePow,Nat.reduceSub,Nat.reduceBEq,Int.reduceLE,Int.reduceLT,Int.reduceEq,Int.reduceSub,Int.reduceAdd,Int.reduceToNat,Int.reduceNeg,m0,m1,m2,m3,m4,m5,m6,m7,e13,e14.1,e14.2,LJ,e16,e17.1,e17.2,c18,e19f,Bb,Bc,D6,D7,D8]<;>(repeat' apply And.intro)<;>first | rfl | exact⟨_,rfl⟩ | exact⟨_,_,rfl⟩ | simp [A8,A3]
  ·rw [if_neg e16]at h
   have e16f:(EC (Ad (A1.getD BE.toNat default) Ch.toNat) (0:Int) (IntKind.i64.wrap ((A1.length:Int)-1)))=false:=Bool.eq_false_iff.mpr e16
   obtain rfl:=Option.some.inj h
   simp (maxDischargeDepth:=9) only [↓A9,A5,AB,AY,A6,AA,AZ,↓reduceIte,Nat.reduceEqDiff,Nat.reduceLT,Nat.reduceLeDiff,Nat.reduceAdd,Nat.reduceMul,Nat.reduceMod,Nat.reduceDiv,Nat.reducePow,Nat.reduceSub,Nat.reduceBEq,Int.reduceLE,Int.reduceLT,Int.reduceEq,Int.reduceSub,Int.reduceAdd,Int.reduceToNat,Int.reduceNeg,m0,m1,m2,m3,m4,m5,m6,m7,e13,e14.1,e14.2,LJ,e16f,Bb,Bc,D6,D7,D8]<;>(repeat' apply And.intro)<;>first | rfl | exact⟨_,rfl⟩ | exact⟨_,_,rfl⟩ | simp [A8,A3]
 ·rw [if_neg e13]at h
  obtain rfl:=Option.some.inj h
  simp (maxDischargeDepth:=9) only [↓A9,A5,AB,AY,A6,AA,AZ,↓reduceIte,Nat.reduceEqDiff,Nat.reduceLT,Nat.reduceLeDiff,Nat.reduceAdd,Nat.reduceMul,Nat.reduceMod,Nat.reduceDiv,Nat.reducePow,Nat.reduceSub,Nat.reduceBEq,Int.reduceLE,Int.reduceLT,Int.reduceEq,Int.reduceSub,Int.reduceAdd,Int.reduceToNat,Int.reduceNeg,m0,m1,m2,m3,m4,m5,m6,m7,e13,Bb,Bc,D6,D7,D8]<;>(repeat' apply And.intro)<;>first | rfl | exact⟨_,rfl⟩ | exact⟨_,_,rfl⟩ | simp [A8,A3]
def C0(A1:List (List (Int×Int)))(A7:List Int)(A4:List Int)(BE:Int)(s:St):Prop:=s.v 1=D.box [D.sl 104 (A8 (fun x=>D.sl 106 (AT .i64 .i64 x)) A1),D.sl 3 (A8 (D.int .i64) A7),D.sl 3 (A8 (D.int .i64) A4)]∧s.v 37=D.sl 104 (A8 (fun x=>D.sl 106 (AT .i64 .i64 x)) A1)∧s.v 38=D.int .i64 (A1.length:Int)∧s.v 39=D.int .i64 BE
def C1(A1:List (List (Int×Int)))(A7:List Int)(A4:List Int)(r:Unit⊕Unit)(ex:Ex)(s:St):Prop:=match r with
 | .inl q=>ex= .ret∧s.v 2=D.bool false
 | .inr q=>ex= .exit 0
theorem Kj(A1:List (List (Int×Int)))(A7:List Int)(A4:List Int){v:Int}{s:St}{r:Unit⊕Unit}(h:EY A1 A7 A4 v=some r)(hM:C0 A1 A7 A4 v s):Bw Y.env UI (C1 A1 A7 A4 r) s:=by
 unfold EY at h
 refine CO (c:=NB) (fun v=>D5 A1 A7 A4 v) (fun v s=>C0 A1 A7 A4 v s) (C1 A1 A7 A4) ?_ h hM
 clear h hM s v r
 intro BE s o hM h
 unfold D5 at h
 unfold C0 at hM
 obtain⟨m0,m1,m2,m3⟩:=hM
 unfold NB
 by_cases e10:BE<(A1.length:Int)
 ·rw [if_pos e10]at h
  obtain⟨e11,h⟩:=C7 h
  by_cases e12:6<((A1.getD BE.toNat default).length:Int)
  ·rw [if_pos e12]at h
   obtain rfl:=Option.some.inj h
   simp (maxDischargeDepth:=9) only [↓A9,A5,AB,AY,A6,AA,AZ,↓reduceIte,Nat.reduceEqDiff,Nat.reduceLT,Nat.reduceLeDiff,Nat.reduceAdd,Nat.reduceMul,Nat.reduceMod,Nat.reduceDiv,Nat.reducePow,Nat.reduceSub,Nat.reduceBEq,Int.reduceLE,Int.reduceLT,Int.reduceEq,Int.reduceSub,Int.reduceAdd,Int.reduceToNat,Int.reduceNeg,m0,m1,m2,m3,e10,e11.1,e11.2,e12,C0,C1,D6,D7,D8]<;>(repeat' apply And.intro)<;>first | rfl | exact⟨_,rfl⟩ | exact⟨_,_,rfl⟩ | simp [A8,A3]
  ·rw [if_neg e12]at h
   obtain⟨EJ,hl14,h⟩:=Bg h
   try dsimp only at h
   simp (maxDischargeDepth:=9) only [↓A9,A5,AB,AY,A6,AA,AZ,↓reduceIte,Nat.reduceEqDiff,Nat.reduceLT,Nat.reduceLeDiff,Nat.reduceAdd,Nat.reduceMul,Nat.reduceMod,Nat.reduceDiv,Nat.reducePow,Nat.reduceSub,Nat.reduceBEq,Int.reduceLE,Int.reduceLT,Int.reduceEq,Int.reduceSub,Int.reduceAdd,Int.reduceToNat,Int.reduceNeg,m0,m1,m2,m3,e10,e11.1,e11.2,e12]
   refine Ba (Ki A1 A7 A4 BE hl14 ?_) ?_
   ·simp (maxDischargeDepth:=9) only [↓A9,A5,AB,AY,A6,AA,AZ,↓reduceIte,Nat.reduceEqDiff,Nat.reduceLT,Nat.reduceLeDiff,Nat.reduceAdd,Nat.reduceMul,Nat.reduceMod,Nat.reduceDiv,Nat.reducePow,Nat.reduceSub,Nat.reduceBEq,Int.reduceLE,Int.reduceLT,Int.reduceEq,Int.reduceSub,Int.reduceAdd,Int.reduceToNat,Int.reduceNeg,m0,m1,m2,m3,e10,e11.1,e11.2,e12,Bb]<;>(repeat' apply And.intro)<;>first | rfl | exact⟨_,rfl⟩ | exact⟨_,_,rfl⟩ | simp [A8,A3]
   ·intro ex14 s14 hX14
    rcases EJ with q14_ | q14_
    ·unfold Bc at hX14
     dsimp only at hX14 h
     obtain⟨rfl,n14_0⟩:=hX14
     obtain rfl:=Option.some.inj h
     simp (maxDischargeDepth:=9) only [↓A9,A5,AB,AY,A6,AA,AZ,↓reduceIte,Nat.reduceEqDiff,Nat.reduceLT,Nat.reduceLeDiff,Nat.reduceAdd,Nat.reduceMul,Nat.reduceMod,Nat.reduceDiv,Nat.reducePow,Nat.reduceSub,Nat.reduceBEq,Int.reduceLE,Int.reduceLT,Int.reduceEq,Int.reduceSub,Int.reduceAdd,Int.reduceToNat,Int.reduceNeg,e10,e11.1,e11.2,e12,n14_0,C0,C1,D6,D7,D8]<;>(repeat' apply And.intro)<;>first | rfl | exact⟨_,rfl⟩ | exact⟨_,_,rfl⟩ | simp [A8,A3]
    ·unfold Bc at hX14
     dsimp only at hX14 h
     obtain⟨rfl,n14_0,n14_1,n14_2,n14_3⟩:=hX14
     obtain rfl:=Option.some.inj h
     simp (maxDischargeDepth:=9) only [↓A9,A5,AB,AY,A6,AA,AZ,↓reduceIte,Nat.reduceEqDiff,Nat.reduceLT,Nat.reduceLeDiff,Nat.reduceAdd,Nat.reduceMul,Nat.reduceMod,Nat.reduceDiv,Nat.reducePow,Nat.reduceSub,Nat.reduceBEq,Int.reduceLE,Int.reduceLT,Int.reduceEq,Int.reduceSub,Int.reduceAdd,Int.reduceToNat,Int.reduceNeg,e10,e11.1,e11.2,e12,n14_0,n14_1,n14_2,n14_3,C0,C1,D6,D7,D8]<;>(repeat' apply And.intro)<;>first | rfl | exact⟨_,rfl⟩ | exact⟨_,_,rfl⟩ | simp [A8,A3]
 ·rw [if_neg e10]at h
  obtain rfl:=Option.some.inj h
  simp (maxDischargeDepth:=9) only [↓A9,A5,AB,AY,A6,AA,AZ,↓reduceIte,Nat.reduceEqDiff,Nat.reduceLT,Nat.reduceLeDiff,Nat.reduceAdd,Nat.reduceMul,Nat.reduceMod,Nat.reduceDiv,Nat.reducePow,Nat.reduceSub,Nat.reduceBEq,Int.reduceLE,Int.reduceLT,Int.reduceEq,Int.reduceSub,Int.reduceAdd,Int.reduceToNat,Int.reduceNeg,m0,m1,m2,m3,e10,C0,C1,D6,D7,D8]<;>(repeat' apply And.intro)<;>first | rfl | exact⟨_,rfl⟩ | exact⟨_,_,rfl⟩ | simp [A8,A3]
theorem LM(A1:List (List (Int×Int)))(A7:List Int)(A4:List Int){r:Bool}(h:I8 A1 A7 A4=some r):Y.call 43 [D.agg [D.sl 104 (A8 (fun x=>D.sl 106 (AT .i64 .i64 x)) A1),D.sl 3 (A8 (D.int .i64) A7),D.sl 3 (A8 (D.int .i64) A4)]] []=some (D.bool r,[]):=by
 refine c43 ?_ rfl
 unfold uh
 unfold I8 at h
 have c1:=Fl (A1.length:Int) (1:Int) (40:Int)
 by_cases e2:(EC (A1.length:Int) (1:Int) (40:Int))=true
 ·rw [if_pos e2]at h
  obtain⟨e3,h⟩:=C7 h
  have c4:=QY A7 (A1.length:Int) e3
  by_cases e5:(HO A7 (A1.length:Int))=true
  ·rw [if_pos e5]at h
   by_cases e6:(A4.length:Int)=(A1.length:Int)
   ·rw [if_pos e6]at h
    obtain⟨e7,h⟩:=C7 h
    have c8:=QM A4 (0:Int) (9:Int) e7
    by_cases e9:(Dz A4 (0:Int) (9:Int))=true
    ·rw [if_pos e9]at h
     obtain⟨Ov,hl11,h⟩:=Bg h
     try dsimp only at h
     simp (maxDischargeDepth:=9) only [↓A9,A5,AB,AY,A6,AA,AZ,↓reduceIte,Nat.reduceEqDiff,Nat.reduceLT,Nat.reduceLeDiff,Nat.reduceAdd,Nat.reduceMul,Nat.reduceMod,Nat.reduceDiv,Nat.reducePow,Nat.reduceSub,Nat.reduceBEq,Int.reduceLE,Int.reduceLT,Int.reduceEq,Int.reduceSub,Int.reduceAdd,Int.reduceToNat,Int.reduceNeg,c1,e2,e3,c4,e5,decide_eq_true e6,e7,c8,e9]
     refine Ba (Kj A1 A7 A4 hl11 ?_) ?_
     ·simp (maxDischargeDepth:=9) only [↓A9,A5,AB,AY,A6,AA,AZ,↓reduceIte,Nat.reduceEqDiff,Nat.reduceLT,Nat.reduceLeDiff,Nat.reduceAdd,Nat.reduceMul,Nat.reduceMod,Nat.reduceDiv,Nat.reducePow,Nat.reduceSub,Nat.reduceBEq,Int.reduceLE,Int.reduceLT,Int.reduceEq,Int.reduceSub,Int.reduceAdd,Int.reduceToNat,Int.reduceNeg,c1,e2,e3,c4,e5,decide_eq_true e6,e7,c8,e9,C0]<;>(repeat' apply And.intro)<;>first | rfl | exact⟨_,rfl⟩ | exact⟨_,_,rfl⟩ | simp [A8,A3]
     ·intro ex11 s11 hX11
      rcases Ov with q11_ | q11_
      ·unfold C1 at hX11
       dsimp only at hX11 h
       obtain⟨rfl,n11_0⟩:=hX11
       obtain rfl:=Option.some.inj h
       simp (maxDischargeDepth:=9) only [↓A9,A5,AB,AY,A6,AA,AZ,↓reduceIte,Nat.reduceEqDiff,Nat.reduceLT,Nat.reduceLeDiff,Nat.reduceAdd,Nat.reduceMul,Nat.reduceMod,Nat.reduceDiv,Nat.reducePow,Nat.reduceSub,Nat.reduceBEq,Int.reduceLE,Int.reduceLT,Int.reduceEq,Int.reduceSub,Int.reduceAdd,Int.reduceToNat,Int.reduceNeg,c1,e2,e3,c4,e5,decide_eq_true e6,e7,c8,e9,n11_0]<;>(repeat' apply And.intro)<;>first | rfl | exact⟨_,rfl⟩ | exact⟨_,_,rfl⟩ | simp [A8,A3]
      ·unfold C1 at hX11
       dsimp only at hX11 h
       obtain rfl:=hX11
       obtain rfl:=Option.some.inj h
       simp (maxDischargeDepth:=9) only [↓A9,A5,AB,AY,A6,AA,AZ,↓reduceIte,Nat.reduceEqDiff,Nat.reduceLT,Nat.reduceLeDiff,Nat.reduceAdd,Nat.reduceMul,Nat.reduceMod,Nat.reduceDiv,Nat.reducePow,Nat.reduceSub,Nat.reduceBEq,Int.reduceLE,Int.reduceLT,Int.reduceEq,Int.reduceSub,Int.reduceAdd,Int.reduceToNat,Int.reduceNeg,c1,e2,e3,c4,e5,decide_eq_true e6,e7,c8,e9]<;>(repeat' apply And.intro)<;>first | rfl | exact⟨_,rfl⟩ | exact⟨_,_,rfl⟩ | simp [A8,A3]
    ·rw [if_neg e9]at h
     have e9f:(Dz A4 (0:Int) (9:Int))=false:=Bool.eq_false_iff.mpr e9
     obtain rfl:=Option.some.inj h
     simp (maxDischargeDepth:=9) only [↓A9,A5,AB,AY,A6,AA,AZ,↓reduceIte,Nat.reduceEqDiff,Nat.reduceLT,Nat.reduceLeDiff,Nat.reduceAdd,Nat.reduceMul,Nat.reduceMod,Nat.reduceDiv,Nat.reducePow,Nat.reduceSub,Nat.reduceBEq,Int.reduceLE,Int.reduceLT,Int.reduceEq,Int.reduceSub,Int.reduceAdd,Int.reduceToNat,Int.reduceNeg,c1,e2,e3,c4,e5,decide_eq_true e6,e7,c8,e9f]<;>(repeat' apply And.intro)<;>first | rfl | exact⟨_,rfl⟩ | exact⟨_,_,rfl⟩ | simp [A8,A3]
   ·rw [if_neg e6]at h
    obtain rfl:=Option.some.inj h
    simp (maxDischargeDepth:=9) only [↓A9,A5,AB,AY,A6,AA,AZ,↓reduceIte,Nat.reduceEqDiff,Nat.reduceLT,Nat.reduceLeDiff,Nat.reduceAdd,Nat.reduceMul,Nat.reduceMod,Nat.reduceDiv,Nat.reducePow,Nat.reduceSub,Nat.reduceBEq,Int.reduceLE,Int.reduceLT,Int.reduceEq,Int.reduceSub,Int.reduceAdd,Int.reduceToNat,Int.reduceNeg,c1,e2,e3,c4,e5,e6]<;>(repeat' apply And.intro)<;>first | rfl | exact⟨_,rfl⟩ | exact⟨_,_,rfl⟩ | simp [A8,A3]
  ·rw [if_neg e5]at h
   have e5f:(HO A7 (A1.length:Int))=false:=Bool.eq_false_iff.mpr e5
   obtain rfl:=Option.some.inj h
   simp (maxDischargeDepth:=9) only [↓A9,A5,AB,AY,A6,AA,AZ,↓reduceIte,Nat.reduceEqDiff,Nat.reduceLT,Nat.reduceLeDiff,Nat.reduceAdd,Nat.reduceMul,Nat.reduceMod,Nat.reduceDiv,Nat.reducePow,Nat.reduceSub,Nat.reduceBEq,Int.reduceLE,Int.reduceLT,Int.reduceEq,Int.reduceSub,Int.reduceAdd,Int.reduceToNat,Int.reduceNeg,c1,e2,e3,c4,e5f]<;>(repeat' apply And.intro)<;>first | rfl | exact⟨_,rfl⟩ | exact⟨_,_,rfl⟩ | simp [A8,A3]
 ·rw [if_neg e2]at h
  have e2f:(EC (A1.length:Int) (1:Int) (40:Int))=false:=Bool.eq_false_iff.mpr e2
  obtain rfl:=Option.some.inj h
  simp (maxDischargeDepth:=9) only [↓A9,A5,AB,AY,A6,AA,AZ,↓reduceIte,Nat.reduceEqDiff,Nat.reduceLT,Nat.reduceLeDiff,Nat.reduceAdd,Nat.reduceMul,Nat.reduceMod,Nat.reduceDiv,Nat.reducePow,Nat.reduceSub,Nat.reduceBEq,Int.reduceLE,Int.reduceLT,Int.reduceEq,Int.reduceSub,Int.reduceAdd,Int.reduceToNat,Int.reduceNeg,c1,e2f]<;>(repeat' apply And.intro)<;>first | rfl | exact⟨_,rfl⟩ | exact⟨_,_,rfl⟩ | simp [A8,A3]
def I9(es:List (List (Int×Int)))(v i:Nat):Bool:=
 EC (Ad (es.getD v default) i) 0 ((es.length:Int)-1)&&
 (EC (Az (es.getD v default) i) 0 (((es.getD (Ad (es.getD v default) i).toNat default).length:Int)-1)&&
 ((Ad (es.getD (Ad (es.getD v default) i).toNat default) (Az (es.getD v default) i).toNat==(v:Int))&&(Az (es.getD (Ad (es.getD v default) i).toNat default) (Az (es.getD v default) i).toNat==(i:Int))))
theorem IW(es:List (List (Int×Int)))(v i:Nat):I9 es v i=(EC (Ad (es.getD v default) i) 0 ((es.length:Int)-1)&&
 (EC (Az (es.getD v default) i) 0 (((es.getD (Ad (es.getD v default) i).toNat default).length:Int)-1)&&
 ((Ad (es.getD (Ad (es.getD v default) i).toNat default) (Az (es.getD v default) i).toNat==(v:Int))&&(Az (es.getD (Ad (es.getD v default) i).toNat default) (Az (es.getD v default) i).toNat==(i:Int))))):=rfl
def IA(es:List (List (Int×Int)))(v:Nat):Bool:=decide ((es.getD v default).length≤6)&&(List.range (es.getD v default).length).all (I9 es v)
theorem Gz(es:List (List (Int×Int)))(v:Nat):IA es v=(decide ((es.getD v default).length≤6)&&(List.range (es.getD v default).length).all (I9 es v)):=rfl
def De(es:List (List (Int×Int)))(ids ins:List Int):Bool:=
 EC es.length 1 40&&(HO ids es.length&&(decide ((ins.length:Int)=es.length)&&(Dz ins 0 9&&(List.range es.length).all (IA es))))
theorem UJ(es:List (List (Int×Int)))(ids ins:List Int)(h:BP es)(v:Nat):DO es ids ins (v:Int) 0=some (if(List.range (es.getD v default).length).all (I9 es v)=true then .inr ()else .inl ()):=by
 have h1:=h.1
 have h2:=h.getD v
 unfold DO
 refine CT (fun x=>C4 es ids ins (v:Int) x) (fun i=>(i:Int)) (es.getD v default).length (I9 es v) (.inl ()) (.inr ()) ?_ ?_
 ·intro i hi
  have h3:=h.getD (Ad (es.getD v default) i).toNat
  simp only [C4,DC,DB,Int.toNat_natCast]
  rw [IW,if_pos (CE hi),C3 (by omega),Option.bind_some,MZ _ (by omega),MZ _ (by omega),KQ i (by omega)]
  cases r1:EC (Ad (es.getD v default) i) 0 ((es.length:Int)-1)with
  | false=>simp
  | true=>
   have r1':=G4.1 r1
   rw [if_pos rfl,C3 (by omega),Option.bind_some]
   cases r2:EC (Az (es.getD v default) i) 0 (((es.getD (Ad (es.getD v default) i).toNat default).length:Int)-1)with
   | false=>simp
   | true=>
    have r2':=G4.1 r2
    rw [if_pos rfl,C3 (by omega),C3 (by omega),Bool.true_and,Bool.true_and]
 ·simp only [C4,Int.toNat_natCast]
  rw [if_neg (Am _)]
theorem UK(es:List (List (Int×Int)))(ids ins:List Int)(h:BP es)(v:Nat):EX es ids ins (v:Int) 0=some (if(List.range (es.getD v default).length).all (I9 es v)=true then .inr ()else .inl ()):=by
 have h1:=h.1
 have h2:=h.getD v
 unfold EX
 refine CT (fun x=>D4 es ids ins (v:Int) x) (fun i=>(i:Int)) (es.getD v default).length (I9 es v) (.inl ()) (.inr ()) ?_ ?_
 ·intro i hi
  have h3:=h.getD (Ad (es.getD v default) i).toNat
  simp only [D4,Int.toNat_natCast]
  rw [IW,if_pos (CE hi),C3 (by omega),MZ _ (by omega),MZ _ (by omega),KQ i (by omega)]
  cases r1:EC (Ad (es.getD v default) i) 0 ((es.length:Int)-1)with
  | false=>simp
  | true=>
   have r1':=G4.1 r1
   rw [if_pos rfl,C3 (by omega)]
   cases r2:EC (Az (es.getD v default) i) 0 (((es.getD (Ad (es.getD v default) i).toNat default).length:Int)-1)with
   | false=>simp
   | true=>
    have r2':=G4.1 r2
    rw [if_pos rfl,C3 (by omega),Bool.true_and,Bool.true_and]
 ·simp only [D4,Int.toNat_natCast]
  rw [if_neg (Am _)]
theorem UL(es:List (List (Int×Int)))(ids ins:List Int)(h:BP es):DP es ids ins 0=some (if(List.range es.length).all (IA es)=true then .inr ()else .inl ()):=by
 have h1:=h.1
 unfold DP
 refine CT (fun x=>C5 es ids ins x) (fun i=>(i:Int)) es.length (IA es) (.inl ()) (.inr ()) ?_ ?_
 ·intro v hv
  simp only [C5,Int.toNat_natCast]
  rw [Gz,if_pos (CE hv),C3 (by omega),UJ es ids ins h v,Option.bind_some,KQ v (by omega)]
  by_cases h6:(es.getD v default).length≤6
  ·rw [if_neg (by omega),decide_eq_true h6,Bool.true_and]
   cases (List.range (es.getD v default).length).all (I9 es v)<;>rfl
  ·rw [if_pos (by omega),decide_eq_false h6];rfl
 ·simp only [C5]
  rw [if_neg (Am _)]
theorem UM(es:List (List (Int×Int)))(ids ins:List Int)(h:BP es):EY es ids ins 0=some (if(List.range es.length).all (IA es)=true then .inr ()else .inl ()):=by
 have h1:=h.1
 unfold EY
 refine CT (fun x=>D5 es ids ins x) (fun i=>(i:Int)) es.length (IA es) (.inl ()) (.inr ()) ?_ ?_
 ·intro v hv
  simp only [D5,Int.toNat_natCast]
  rw [Gz,if_pos (CE hv),C3 (by omega),UK es ids ins h v,Option.bind_some,KQ v (by omega)]
  by_cases h6:(es.getD v default).length≤6
  ·rw [if_neg (by omega),decide_eq_true h6,Bool.true_and]
   cases (List.range (es.getD v default).length).all (I9 es v)<;>rfl
  ·rw [if_pos (by omega),decide_eq_false h6];rfl
 ·simp only [D5]
  rw [if_neg (Am _)]
theorem Kk(es:List (List (Int×Int)))(ids ins:List Int)(h:BP es)(h2:ids.length<1099511627776)(h3:ins.length<1099511627776):FP es ids ins=some (De es ids ins):=by
 unfold FP De
 rw [C3 h2,UL es ids ins h]
 unfold G8
 rw [C3 h3]
 cases EC es.length 1 40 with
 | false=>rfl
 | true=>
  cases HO ids es.length with
  | false=>rfl
  | true=>
   by_cases hl:(ins.length:Int)=es.length
   ·rw [if_pos hl,decide_eq_true hl]
    cases Dz ins 0 9 with
    | false=>rfl
    | true=>cases (List.range es.length).all (IA es)<;>rfl
   ·rw [if_neg hl,decide_eq_false hl];rfl
theorem Ow(es:List (List (Int×Int)))(ids ins:List Int)(h:BP es)(h2:ids.length<1099511627776)(h3:ins.length<1099511627776):I8 es ids ins=some (De es ids ins):=by
 unfold I8 De
 rw [C3 h2,C3 h3,UM es ids ins h]
 cases EC es.length 1 40 with
 | false=>rfl
 | true=>
  cases HO ids es.length with
  | false=>rfl
  | true=>
   by_cases hl:(ins.length:Int)=es.length
   ·rw [if_pos hl,decide_eq_true hl]
    cases Dz ins 0 9 with
    | false=>rfl
    | true=>cases (List.range es.length).all (IA es)<;>rfl
   ·rw [if_neg hl,decide_eq_false hl];rfl
theorem Kl(A1:List (List (Int×Int)))(A7:List Int)(A4:List Int)(h0:BP A1)(h1:A7.length<1099511627776)(h2:A4.length<1099511627776):Y.call 46 [D.agg [D.sl 104 (A8 (fun x=>D.sl 106 (AT .i64 .i64 x)) A1),D.sl 3 (A8 (D.int .i64) A7),D.sl 3 (A8 (D.int .i64) A4)]] []=some (D.bool (De A1 A7 A4),[]):=IV A1 A7 A4 (Kk A1 A7 A4 h0 h1 h2)
theorem Ox(A1:List (List (Int×Int)))(A7:List Int)(A4:List Int)(h0:BP A1)(h1:A7.length<1099511627776)(h2:A4.length<1099511627776):Y.call 43 [D.agg [D.sl 104 (A8 (fun x=>D.sl 106 (AT .i64 .i64 x)) A1),D.sl 3 (A8 (D.int .i64) A7),D.sl 3 (A8 (D.int .i64) A4)]] []=some (D.bool (De A1 A7 A4),[]):=LM A1 A7 A4 (Ow A1 A7 A4 h0 h1 h2)
end Go.Proofs.Ytjjahjjhohcidaa
