/- When lists are a network, as plain functions. Conditions: the lists are short. -/
import Derived.Test.YtipfckompmhljaaL6
import Derived.Test.YtipfckompmhljaaNet
namespace Go.Proofs.Ytipfckompmhljaa
open Go Dv
set_option linter.unusedSimpArgs false
set_option linter.unusedVariables false
set_option maxRecDepth 100000
set_option maxHeartbeats 4000000
noncomputable def Dp(list:List Int)(low high BL:Int):Option ((Int)⊕(Unit⊕Unit)):= if BL<(list.length:Int)then ck (0≤BL∧BL.toNat<list.length)<| if(JC (list.getD BL.toNat default) low high)=true then if 0<BL then ck (0≤IntKind.i64.wrap (BL-1)∧(IntKind.i64.wrap (BL-1)).toNat<list.length)<| if(list.getD BL.toNat default)≤(list.getD ((IntKind.i64.wrap (BL-1)).toNat) default)then some (Sum.inr (Sum.inl ())) else some (Sum.inl (IntKind.i64.wrap (BL+1))) else some (Sum.inl (IntKind.i64.wrap (BL+1))) else some (Sum.inr (Sum.inl ())) else some (Sum.inr (Sum.inr ()))
noncomputable def J8(list:List Int)(low high v:Int):Option (Unit⊕Unit):=Ht (fun v=>Dp list low high v) v
noncomputable def Kj(list:List Int)(low high:Int):Option (Bool):=
 (J8 list low high 0).bind fun DX=>
 match DX with
 | .inl q2_=>
  some false
 | .inr q2_=>
  some true
def Uq:SC:= .seq (.ops [⟨some 12,.binOp .lss 3 (.tmp 11) (.tmp 10) 3,0,none⟩]) (.seq (.cond (.tmp 12) .skip (.exit 0)) (.seq (.block 1 (.seq (.ops [⟨some 13,.move (.tmp 11),3,none⟩,⟨some 14,.indexAddr 23 (.tmp 9) (.tmp 11),0,none⟩,⟨some 15,.load 3 (.tmp 14),3,none⟩,⟨some 7,.assign (.tmp 13),3,none⟩,⟨some 8,.assign (.tmp 15),3,none⟩]) (.seq (.ops [⟨some 16,.move (.tmp 8),3,none⟩,⟨some 17,.move (.tmp 1),3,none⟩,⟨some 18,.move (.tmp 2),3,none⟩,⟨some 19,.call ⟨(.value (.func 77)), #[(.tmp 16),(.tmp 17),(.tmp 18)], #[3,3,3]⟩,4,none⟩,⟨some 20,.unOp .not 4 (.tmp 19),4,none⟩,⟨some 21,.move (.tmp 20),4,none⟩,⟨some 22,.move (.tmp 7),3,(some (some 21,false))⟩,⟨some 23,.binOp .gtr 3 (.tmp 22) (.const (.int .i64 0)) 3,4,(some (some 21,false))⟩,⟨some 24,.move (.tmp 23),4,(some (some 21,false))⟩,⟨some 25,.move (.tmp 0),23,(some (some 24,true))⟩,⟨some 26,.move (.tmp 7),3,(some (some 24,true))⟩,⟨some 27,.binOp .sub 3 (.tmp 26) (.const (.int .i64 1)) 3,3,(some (some 24,true))⟩,⟨some 28,.indexAddr 23 (.tmp 25) (.tmp 27),0,(some (some 24,true))⟩,⟨some 29,.load 3 (.tmp 28),3,(some (some 24,true))⟩,⟨some 30,.move (.tmp 8),3,(some (some 24,true))⟩,⟨some 31,.binOp .geq 3 (.tmp 29) (.tmp 30) 3,4,(some (some 24,true))⟩,
 ⟨some 32,.pick (.tmp 24) (.tmp 31) (.const (.bool false)),4,(some (some 21,false))⟩,⟨some 33,.pick (.tmp 21) (.const (.bool true)) (.tmp 32),4,none⟩]) (.cond (.tmp 33) (.seq (.ops [⟨some 6,.assign (.const (.bool false)),4,none⟩]) .ret) .skip)))) (.ops [⟨some 34,.binOp .add 3 (.tmp 11) (.const (.int .i64 1)) 3,3,none⟩,⟨some 11,.move (.tmp 34),3,none⟩])))
def j3:SC:= .loop Uq
def A3s:SC:= .seq (.ops [⟨some 6,.assign (.const (.bool false)),4,none⟩]) (.seq (.seq (.ops [⟨some 9,.move (.tmp 0),23,none⟩,⟨some 10,.call ⟨(.builtin .len), #[(.tmp 9)], #[23]⟩,3,none⟩,⟨some 11,.move (.const (.int .i64 0)),3,none⟩]) (.block 0 j3)) (.seq (.ops [⟨some 6,.assign (.const (.bool true)),4,none⟩]) .ret))
theorem vD:Try.f128.body.map (Be lends)=some A3s:=by kernel_rfl
theorem ACQ:Bu Try.f128 3=true:=by kernel_rfl
theorem AJ4{a l:List D}{r:D×List D}(h:Bo Y.env A3s (fin Ad l.length [ResultVar.tmp 6] r) (entry a l))(ha:a.length=3):Y.call 128 a l=some r:=
 Ab (Y:=Y) rfl Try.func128 (ha▸ACQ) vD h
def CQ(list:List Int)(low high BL:Int)(s:St):Prop:=s.v 0=D.sl 3 (AQ (D.int .i64) list)∧s.v 1=D.int .i64 low∧s.v 2=D.int .i64 high∧s.v 9=D.sl 3 (AQ (D.int .i64) list)∧s.v 10=D.int .i64 (list.length:Int)∧s.v 11=D.int .i64 BL
def DC(list:List Int)(low high:Int)(r:Unit⊕Unit)(ex:Ex)(s:St):Prop:=match r with
 | .inl q=>ex= .ret∧s.v 6=D.bool false
 | .inr q=>ex= .exit 0
theorem PR(list:List Int)(low high:Int){v:Int}{s:St}{r:Unit⊕Unit}(h:J8 list low high v=some r)(hM:CQ list low high v s):Bo Y.env j3 (DC list low high r) s:=by
 unfold J8 at h;refine BR (c:=Uq) (fun v=>Dp list low high v) (fun v s=>CQ list low high v s) (DC list low high) ?_ h hM;clear h hM s v r;intro BL s o hM h;unfold Dp at h;unfold CQ at hM;obtain⟨m0,m1,m2,m3,m4,m5⟩:=hM;unfold Uq;by_cases e1:BL<(list.length:Int)
 ·rw [if_pos e1]at h;obtain⟨e2,h⟩:=BO h;have c3:=IG (list.getD BL.toNat default) low high;by_cases e4:(JC (list.getD BL.toNat default) low high)=true
  ·rw [if_pos e4]at h;by_cases e5:0<BL
   ·rw [if_pos e5]at h;obtain⟨e6,h⟩:=BO h;by_cases e7:(list.getD BL.toNat default)≤(list.getD ((IntKind.i64.wrap (BL-1)).toNat) default)
    ·rw [if_pos e7]at h;cases h;simp (maxDischargeDepth:=9) only [↓AP,AC,Ae,BV,AL,AR,↓reduceIte,Nat.reduceEqDiff,Nat.reduceLT,Nat.reduceAdd,m0,m1,m2,m3,m4,m5,e1,e2.1,e2.2,c3,e4,e5,e6.1,e6.2,e7,CQ,DC,MX]
    ·rw [if_neg e7]at h;cases h;simp (maxDischargeDepth:=9) only [↓AP,AC,Ae,BV,AL,AR,↓reduceIte,Nat.reduceEqDiff,Nat.reduceLT,Nat.reduceAdd,m0,m1,m2,m3,m4,m5,e1,e2.1,e2.2,c3,e4,e5,e6.1,e6.2,e7,CQ,G9]
   ·rw [if_neg e5]at h;cases h;simp (maxDischargeDepth:=9) only [↓AP,AC,Ae,BV,AL,AR,↓reduceIte,Nat.reduceEqDiff,Nat.reduceLT,Nat.reduceAdd,m0,m1,m2,m3,m4,m5,e1,e2.1,e2.2,c3,e4,e5,CQ,G9]
  ·rw [if_neg e4]at h;have e4f:(JC (list.getD BL.toNat default) low high)=false:=Bool.eq_false_iff.mpr e4;cases h;simp (maxDischargeDepth:=9) only [↓AP,AC,Ae,BV,AL,AR,↓reduceIte,Nat.reduceEqDiff,Nat.reduceLT,Nat.reduceAdd,m1,m2,m3,m4,m5,e1,e2.1,e2.2,c3,e4f,CQ,DC,MX]
 ·rw [if_neg e1]at h;cases h;simp (maxDischargeDepth:=9) only [↓AP,AC,AR,↓reduceIte,Nat.reduceLT,m4,m5,e1,CQ,DC,JF]
theorem QQ(list:List Int)(low high:Int){r:Bool}(h:Kj list low high=some r):Y.call 128 [D.sl 3 (AQ (D.int .i64) list),D.int .i64 low,D.int .i64 high] []=some (D.bool r,[]):=by
 refine AJ4 ?_ rfl;unfold A3s;unfold Kj at h;obtain⟨DX,hl2,h⟩:=Aw h;try dsimp only at h
 simp (maxDischargeDepth:=9) only [↓AP,AC,Ae,AL,AR,↓reduceIte,Nat.reduceEqDiff,Nat.reduceLT];refine BC (PR list low high hl2 ?_) ?_
 ·simp (maxDischargeDepth:=9) only [AC,AL,↓reduceIte,Nat.reduceEqDiff,Nat.reduceLT,CQ]
 ·intro ex2 s2 hX2;rcases DX with q2_ | q2_
  ·unfold DC at hX2;dsimp only at hX2 h;obtain⟨rfl,n2_0⟩:=hX2;cases h;simp (maxDischargeDepth:=9) only [↓AP,AC,AL,↓reduceIte,n2_0]
  ·unfold DC at hX2;dsimp only at hX2 h
   obtain rfl:=hX2
   cases h;simp (maxDischargeDepth:=9) only [↓AP,AC,AL,AR,↓reduceIte,Nat.reduceEqDiff,Nat.reduceLT]
def Ur(l:List Int)(lo hi:Int):Bool:=(List.range l.length).all fun i=>JC (l.getD i default) lo hi&&(decide (i=0)||decide (l.getD (i-1) default<l.getD i default))
theorem Sl(l:List Int)(lo hi:Int)(h:l.length<1099511627776):Kj l lo hi=some (Ur l lo hi):=by
 have key:=JN (fun v=>Dp l lo hi v) (fun i=>(i:Int)) l.length (fun i=>JC (l.getD i default) lo hi&&(decide (i=0)||decide (l.getD (i-1) default<l.getD i default))) (.inl ()) (.inr ()) ?_ ?_
 ·rw [Int.natCast_zero]at key;unfold Kj J8 Ur;rw [key]
  cases (List.range l.length).all fun i=>JC (l.getD i default) lo hi&&(decide (i=0)||decide (l.getD (i-1) default<l.getD i default))<;>rfl
 ·intro i hi';simp only [Dp,Int.toNat_natCast];rw [if_pos (BZ hi'),BM (by omega),Je i (by omega)]
  cases hr:JC (l.getD i default) lo hi with
  | false=>simp
  | true=>
   by_cases h0:i=0
   ·subst h0;rw [if_pos rfl,if_neg (by omega)]
    simp
   ·rw [if_pos rfl,if_pos (by omega),Ir _ (by omega),BM (by omega),show((i:Int)-1).toNat=i-1 by omega,decide_eq_false h0]
    by_cases hlt:l.getD (i-1) default<l.getD i default
    ·rw [if_neg (by omega),decide_eq_true hlt];rfl
    ·rw [if_pos (by omega),decide_eq_false hlt];rfl
 ·simp only [Dp];rw [if_neg (Aq _)]
theorem Sm(list:List Int)(low high:Int)(h0:list.length<1099511627776):Y.call 128 [D.sl 3 (AQ (D.int .i64) list),D.int .i64 low,D.int .i64 high] []=some (D.bool (Ur list low high),[]):=QQ list low high (Sl list low high h0)
theorem gU{l:List Int}{lo hi:Int}(h:Ur l lo hi=true):l.Pairwise (fun a b=>a<b)∧ ∀x∈l,JC x lo hi=true:=by
 have h0:=FU.1 h
 have step: ∀i,i+1<l.length→l.getD i default<l.getD (i+1) default:=fun i hi=>by
  have:=h0 (i+1) hi
  rw [Bool.and_eq_true]at this;simpa using this.2
 have Eb: ∀(d i:Nat),i+d+1<l.length→l.getD i default<l.getD (i+d+1) default:=by
  intro d
  induction d with
  | zero=>intro i hi;exact step i hi
  | succ d ih=>
   intro i hi;have h1:=ih i (by omega)
   have h2:=step (i+d+1) (by omega)
   rw [show i+(d+1)+1=i+d+1+1 by omega]
   omega
 refine⟨List.pairwise_iff_getElem.2 fun i j hi hj hij=> ?_,fun x hx=> ?_⟩
 ·have:=Eb (j-i-1) i (by omega)
  rw [show i+(j-i-1)+1=j by omega,Av _ _ hi,Av _ _ hj]at this
  exact this
 ·obtain⟨i,hi,rfl⟩:=List.getElem_of_mem hx;have:=h0 i hi
  rw [Bool.and_eq_true,Av _ _ hi]at this;exact this.1
theorem qM{l:List Int}{lo hi:Int}(h1:l.Pairwise (fun a b=>a<b))(h2: ∀x∈l,JC x lo hi=true):Ur l lo hi=true:=by
 refine FU.2 fun i hi=> ?_;rw [Bool.and_eq_true]
 refine⟨by rw [Av _ _ hi];exact h2 _ (List.getElem_mem hi), ?_⟩
 by_cases h0:i=0
 ·rw [decide_eq_true h0];rfl
 ·have:=List.pairwise_iff_getElem.1 h1 (i-1) i (by omega) hi (by omega)
  rw [Bool.or_eq_true]
  right
  rw [decide_eq_true_eq,Av _ _ hi,Av _ _ (by omega:i-1<l.length)]
  exact this
def PS(ids:List Int)(n:Int):Bool:=decide (ids.length=0)||(decide ((ids.length:Int)=n)&&(decide ids.Nodup&&II ids 1 999999))
theorem gV(ids:List Int)(lo hi:Int):Ur (SB ids) lo hi=(decide ids.Nodup&&II ids lo hi):=by
 rw [Bool.eq_iff_iff,Bool.and_eq_true,decide_eq_true_eq];have hp:=PQ ids;unfold II;rw [List.all_eq_true]
 constructor
 ·intro h;obtain⟨h1,h2⟩:=gU h
  refine⟨hp.nodup_iff.1 (h1.imp fun h=>by omega),fun x hx=>h2 x (hp.mem_iff.2 hx)⟩
 ·rintro⟨h1,h2⟩
  refine qM ?_ fun x hx=>h2 x (hp.mem_iff.1 hx);have hn:(SB ids).Pairwise (fun a b=>a≠b):=hp.nodup_iff.2 h1
  exact((Ue ids).and hn).imp fun h=>by omega
theorem LQ(xs:List Int)(h:xs.length<1099511627776):Y.call 126 [.sl 3 (AQ (D.int .i64) xs)] []=some (.own 3 (AQ (D.int .i64) xs),[]):=by
 refine ku (AQ (D.int .i64) xs) (by rw [UN];exact h) (X3 _ _ (fun x=>rfl)) (UO _ _ (fun x=>by first | exact hoI .. | exact A78 .. | exact hoB .. | exact hoS ..)) ?_
 simp (maxDischargeDepth:=9) only [AC,Ae,AL]
noncomputable def TK(ids:List Int)(nodes:Int):Option (Bool):= if(ids.length:Int)=0 then some true else ck (ids.length<1099511627776)<| ck (ids.length<4611686018427387904)<| if(ids.length:Int)=nodes then ck ((JD ids).length<1099511627776)<| some (Ur (JD ids) (1:Int) (999999:Int)) else some false
def k78:SC:= .seq (.ops [⟨some 4,.assign (.const (.bool false)),4,none⟩]) (.seq (.seq (.ops [⟨some 6,.move (.tmp 0),23,none⟩,⟨some 7,.call ⟨(.builtin .len), #[(.tmp 6)], #[23]⟩,3,none⟩,⟨some 8,.binOp .eql 3 (.tmp 7) (.const (.int .i64 0)) 3,4,none⟩]) (.cond (.tmp 8) (.seq (.ops [⟨some 4,.assign (.const (.bool true)),4,none⟩]) .ret) .skip)) (.seq (.ops [⟨some 9,.move (.tmp 0),23,none⟩,⟨some 10,.call ⟨(.value (.func 126)), #[(.tmp 9)], #[23]⟩,23,none⟩,⟨some 5,.assign (.tmp 10),23,none⟩]) (.seq (.ops [⟨some 11,.move (.tmp 5),23,none⟩,⟨some 12,.call ⟨(.value (.func 127)), #[(.tmp 11)], #[23]⟩,0,none⟩]) (.seq (.ops [⟨some 13,.move (.tmp 0),23,none⟩,⟨some 14,.call ⟨(.builtin .len), #[(.tmp 13)], #[23]⟩,3,none⟩,⟨some 15,.move (.tmp 1),3,none⟩,⟨some 16,.binOp .eql 3 (.tmp 14) (.tmp 15) 3,4,none⟩,⟨some 17,.move (.tmp 16),4,none⟩,⟨some 18,.move (.tmp 5),23,(some (some 17,true))⟩,⟨some 19,.call ⟨(.value (.func 128)), #[(.tmp 18),(.const (.int .i64 1)),(.const (.int .i64 999999))], #[23,3,3]⟩,4,(some (some 17,true))⟩,⟨some 20,.pick (.tmp 17) (.tmp 19) (.const (.bool false)),4,none⟩,⟨some 4,.assign (.tmp 20),4,none⟩]) .ret))))
theorem A3t:Try.f78.body.map (Be lends)=some k78:=by kernel_rfl
theorem AJ6:Bu Try.f78 2=true:=by kernel_rfl
theorem c78{a l:List D}{r:D×List D}(h:Bo Y.env k78 (fin Ad l.length [ResultVar.tmp 4] r) (entry a l))(ha:a.length=2):Y.call 78 a l=some r:=
 Ab (Y:=Y) rfl Try.func78 (ha▸AJ6) A3t h
theorem YY(ids:List Int)(nodes:Int){r:Bool}(h:TK ids nodes=some r):Y.call 78 [D.sl 3 (AQ (D.int .i64) ids),D.int .i64 nodes] []=some (D.bool r,[]):=by
 refine c78 ?_ rfl;unfold k78;unfold TK at h;by_cases e1:(ids.length:Int)=0
 ·rw [if_pos e1]at h;cases h;simp (maxDischargeDepth:=9) only [↓AP,AC,Ae,AL,AR,↓reduceIte,Nat.reduceEqDiff,Nat.reduceLT,decide_eq_true e1]
 ·rw [if_neg e1]at h;obtain⟨e2,h⟩:=BO h;have c3:=LQ ids e2;obtain⟨e4,h⟩:=BO h;have c5:=pW ids e4;by_cases e6:(ids.length:Int)=nodes
  ·rw [if_pos e6]at h;obtain⟨e7,h⟩:=BO h;have c8:=Sm (JD ids) (1:Int) (999999:Int) e7;cases h;simp (maxDischargeDepth:=9) only [↓AP,AC,Ae,BV,AL,AR,↓reduceIte,Nat.reduceEqDiff,Nat.reduceLT,Nat.reduceAdd,e1,c3,c5,decide_eq_true e6,c8]
  ·rw [if_neg e6]at h;cases h;simp (maxDischargeDepth:=9) only [↓AP,AC,Ae,BV,AL,AR,↓reduceIte,Nat.reduceEqDiff,Nat.reduceLT,Nat.reduceAdd,e1,c3,c5,e6]
noncomputable def Ig(ids:List Int)(nodes Og:Int):Option ((Int)⊕(Unit⊕Unit)):= if Og<(ids.length:Int)then ck (0≤Og∧Og.toNat<ids.length)<| if(JC (ids.getD Og.toNat default) (1:Int) (999999:Int))=true then ck (0≤Og)<| ck (Og.toNat≤ids.length)<| ck (((ids.take Og.toNat).drop 0).length<1099511627776)<| if(((ids.take Og.toNat).drop 0).contains (ids.getD Og.toNat default))=true then some (Sum.inr (Sum.inl ())) else some (Sum.inl (IntKind.i64.wrap (Og+1))) else some (Sum.inr (Sum.inl ())) else some (Sum.inr (Sum.inr ()))
noncomputable def NG(ids:List Int)(nodes v:Int):Option (Unit⊕Unit):=Ht (fun v=>Ig ids nodes v) v
noncomputable def TL(ids:List Int)(nodes:Int):Option (Bool):=
 (NG ids nodes 0).bind fun DX=>
 match DX with
 | .inl q2_=>
  some false
 | .inr q2_=>
  if(ids.length:Int)=0 then
   some true
  else
   some (decide ((ids.length:Int)=nodes))
def YZ:SC:= .seq (.ops [⟨some 10,.binOp .lss 3 (.tmp 9) (.tmp 8) 3,0,none⟩]) (.seq (.cond (.tmp 10) .skip (.exit 0)) (.seq (.block 1 (.seq (.ops [⟨some 11,.move (.tmp 9),3,none⟩,⟨some 12,.indexAddr 23 (.tmp 7) (.tmp 9),0,none⟩,⟨some 13,.load 3 (.tmp 12),3,none⟩,⟨some 5,.assign (.tmp 11),3,none⟩,⟨some 6,.assign (.tmp 13),3,none⟩]) (.seq (.ops [⟨some 14,.move (.tmp 6),3,none⟩,⟨some 15,.call ⟨(.value (.func 43)), #[(.tmp 14),(.const (.int .i64 1)),(.const (.int .i64 999999))], #[3,3,3]⟩,4,none⟩,⟨some 16,.unOp .not 4 (.tmp 15),4,none⟩,⟨some 17,.move (.tmp 16),4,none⟩,⟨some 18,.move (.tmp 0),23,(some (some 17,false))⟩,⟨some 19,.move (.tmp 5),3,(some (some 17,false))⟩,⟨some 20,.slice 23 (.tmp 18) none (some (.tmp 19)) none,900001,(some (some 17,false))⟩,⟨some 21,.move (.tmp 6),3,(some (some 17,false))⟩,⟨some 22,.call ⟨(.value (.func 92)), #[(.tmp 20),(.tmp 21)], #[23,3]⟩,4,(some (some 17,false))⟩,⟨some 23,.pick (.tmp 17) (.const (.bool true)) (.tmp 22),4,none⟩]) (.cond (.tmp 23) (.seq (.ops [⟨some 4,.assign (.const (.bool false)),4,none⟩]) .ret) .skip)))) (.ops [⟨some 24,.binOp .add 3 (.tmp 9) (.const (.int .i64 1)) 3,3,none⟩,⟨some 9,.move (.tmp 24),3,none⟩])))
def qN:SC:= .loop YZ
def k71:SC:= .seq (.ops [⟨some 4,.assign (.const (.bool false)),4,none⟩]) (.seq (.seq (.ops [⟨some 7,.move (.tmp 0),23,none⟩,⟨some 8,.call ⟨(.builtin .len), #[(.tmp 7)], #[23]⟩,3,none⟩,⟨some 9,.move (.const (.int .i64 0)),3,none⟩]) (.block 0 qN)) (.seq (.ops [⟨some 25,.move (.tmp 0),23,none⟩,⟨some 26,.call ⟨(.builtin .len), #[(.tmp 25)], #[23]⟩,3,none⟩,⟨some 27,.binOp .eql 3 (.tmp 26) (.const (.int .i64 0)) 3,4,none⟩,⟨some 28,.move (.tmp 27),4,none⟩,⟨some 29,.move (.tmp 0),23,(some (some 28,false))⟩,⟨some 30,.call ⟨(.builtin .len), #[(.tmp 29)], #[23]⟩,3,(some (some 28,false))⟩,⟨some 31,.move (.tmp 1),3,(some (some 28,false))⟩,⟨some 32,.binOp .eql 3 (.tmp 30) (.tmp 31) 3,4,(some (some 28,false))⟩,⟨some 33,.pick (.tmp 28) (.const (.bool true)) (.tmp 32),4,none⟩,⟨some 4,.assign (.tmp 33),4,none⟩]) .ret))
theorem A3u:Try.f71.body.map (Be lends)=some k71:=by kernel_rfl
theorem AJ8:Bu Try.f71 2=true:=by kernel_rfl
theorem c71{a l:List D}{r:D×List D}(h:Bo Y.env k71 (fin Ad l.length [ResultVar.tmp 4] r) (entry a l))(ha:a.length=2):Y.call 71 a l=some r:=
 Ab (Y:=Y) rfl Try.func71 (ha▸AJ8) A3u h
def Ey(ids:List Int)(nodes Og:Int)(s:St):Prop:=s.v 0=D.sl 3 (AQ (D.int .i64) ids)∧s.v 1=D.int .i64 nodes∧s.v 7=D.sl 3 (AQ (D.int .i64) ids)∧s.v 8=D.int .i64 (ids.length:Int)∧s.v 9=D.int .i64 Og
def GH(ids:List Int)(nodes:Int)(r:Unit⊕Unit)(ex:Ex)(s:St):Prop:=match r with
 | .inl q=>ex= .ret∧s.v 4=D.bool false
 | .inr q=>ex= .exit 0∧s.v 0=D.sl 3 (AQ (D.int .i64) ids)∧s.v 1=D.int .i64 nodes
theorem WI(ids:List Int)(nodes:Int){v:Int}{s:St}{r:Unit⊕Unit}(h:NG ids nodes v=some r)(hM:Ey ids nodes v s):Bo Y.env qN (GH ids nodes r) s:=by
 unfold NG at h;refine BR (c:=YZ) (fun v=>Ig ids nodes v) (fun v s=>Ey ids nodes v s) (GH ids nodes) ?_ h hM;clear h hM s v r;intro Og s o hM h;unfold Ig at h;unfold Ey at hM;obtain⟨m0,m1,m2,m3,m4⟩:=hM;unfold YZ;by_cases e1:Og<(ids.length:Int)
 ·rw [if_pos e1]at h;obtain⟨e2,h⟩:=BO h;have c3:=MZ (ids.getD Og.toNat default) (1:Int) (999999:Int);by_cases e4:(JC (ids.getD Og.toNat default) (1:Int) (999999:Int))=true
  ·rw [if_pos e4]at h;obtain⟨e5,h⟩:=BO h;obtain⟨e6,h⟩:=BO h;obtain⟨e7,h⟩:=BO h;have c8:=gP ((ids.take Og.toNat).drop 0) (ids.getD Og.toNat default) e7;by_cases e9:(((ids.take Og.toNat).drop 0).contains (ids.getD Og.toNat default))=true
   ·rw [if_pos e9]at h;cases h;simp (maxDischargeDepth:=9) only [↓AP,AC,Ae,BV,AL,AR,↓reduceIte,Nat.reduceEqDiff,Nat.reduceLT,Nat.reduceAdd,m0,m2,m3,m4,e1,e2.1,e2.2,c3,e4,e6,c8,e9,Ey,GH,MX]
   ·rw [if_neg e9]at h;have e9f:(((ids.take Og.toNat).drop 0).contains (ids.getD Og.toNat default))=false:=Bool.eq_false_iff.mpr e9;cases h;simp (maxDischargeDepth:=9) only [↓AP,AC,Ae,BV,AL,AR,↓reduceIte,Nat.reduceEqDiff,Nat.reduceLT,Nat.reduceAdd,m0,m1,m2,m3,m4,e1,e2.1,e2.2,c3,e4,e6,c8,e9f,Ey,G9]
  ·rw [if_neg e4]at h;have e4f:(JC (ids.getD Og.toNat default) (1:Int) (999999:Int))=false:=Bool.eq_false_iff.mpr e4;cases h;simp (maxDischargeDepth:=9) only [↓AP,AC,Ae,BV,AL,AR,↓reduceIte,Nat.reduceEqDiff,Nat.reduceLT,Nat.reduceAdd,m2,m3,m4,e1,e2.1,e2.2,c3,e4f,Ey,GH,MX]
 ·rw [if_neg e1]at h;cases h;simp (maxDischargeDepth:=9) only [↓AP,AC,AR,↓reduceIte,Nat.reduceEqDiff,Nat.reduceLT,m0,m1,m3,m4,e1,Ey,GH,JF]
theorem Ya(ids:List Int)(nodes:Int){r:Bool}(h:TL ids nodes=some r):Y.call 71 [D.sl 3 (AQ (D.int .i64) ids),D.int .i64 nodes] []=some (D.bool r,[]):=by
 refine c71 ?_ rfl;unfold k71;unfold TL at h;obtain⟨DX,hl2,h⟩:=Aw h;try dsimp only at h
 simp (maxDischargeDepth:=9) only [↓AP,AC,Ae,AL,AR,↓reduceIte,Nat.reduceEqDiff,Nat.reduceLT];refine BC (WI ids nodes hl2 ?_) ?_
 ·simp (maxDischargeDepth:=9) only [AC,AL,↓reduceIte,Nat.reduceEqDiff,Nat.reduceLT,Ey]
 ·intro ex2 s2 hX2;rcases DX with q2_ | q2_
  ·unfold GH at hX2;dsimp only at hX2 h;obtain⟨rfl,n2_0⟩:=hX2;cases h;simp (maxDischargeDepth:=9) only [↓AP,AC,AL,↓reduceIte,n2_0]
  ·unfold GH at hX2;dsimp only at hX2 h;obtain⟨rfl,n2_0,n2_1⟩:=hX2;by_cases e3:(ids.length:Int)=0
   ·rw [if_pos e3]at h;cases h;simp (maxDischargeDepth:=9) only [↓AP,AC,Ae,AL,AR,↓reduceIte,Nat.reduceEqDiff,Nat.reduceLT,n2_0,decide_eq_true e3]
   ·rw [if_neg e3]at h;cases h;simp (maxDischargeDepth:=9) only [↓AP,AC,Ae,AL,AR,↓reduceIte,Nat.reduceEqDiff,Nat.reduceLT,n2_0,n2_1,e3]
theorem gW(ids:List Int)(n:Int)(h:ids.length<1099511627776):TK ids n=some (PS ids n):=by
 unfold TK PS;by_cases h0:ids.length=0
 ·rw [if_pos (by omega),decide_eq_true h0];rfl
 ·rw [if_neg (by omega),BM h,BM (by omega),decide_eq_false h0,Bool.false_or]
  by_cases h1:(ids.length:Int)=n
  ·rw [if_pos h1,qB,BM (by rw [kz];exact h),gV,decide_eq_true h1];rfl
  ·rw [if_neg h1,decide_eq_false h1];rfl
theorem l6(ids:List Int):(List.range ids.length).all (fun i=>JC (ids.getD i default) 1 999999&& !(ids.take i).contains (ids.getD i default))=(decide ids.Nodup&&II ids 1 999999):=by
 rw [Bool.eq_iff_iff,FU,Bool.and_eq_true,decide_eq_true_eq];unfold II;rw [List.all_eq_true]
 constructor
 ·intro h
  refine⟨List.pairwise_iff_getElem.2 fun i j hi hj hij he=> ?_,fun x hx=> ?_⟩
  ·have:=h j hj
   rw [Bool.and_eq_true,Bool.not_eq_true',←Bool.not_eq_true,List.contains_iff_mem,Av _ _ hj]at this;refine this.2 ?_;rw [←he];exact List.mem_take_iff_getElem.2 ⟨i,by omega,rfl⟩
  ·obtain⟨i,hi,rfl⟩:=List.getElem_of_mem hx;have:=h i hi
   rw [Bool.and_eq_true,Av _ _ hi]at this;exact this.1
 ·rintro⟨h1,h2⟩ i hi
  rw [Bool.and_eq_true,Bool.not_eq_true',←Bool.not_eq_true,List.contains_iff_mem,Av _ _ hi]
  refine⟨h2 _ (List.getElem_mem hi),fun hm=> ?_⟩
  obtain⟨j,hj,he⟩:=List.mem_take_iff_getElem.1 hm;exact List.pairwise_iff_getElem.1 h1 j i (by omega) hi (by omega) he
theorem gX(ids:List Int)(n:Int)(h:ids.length<1099511627776):TL ids n=some (PS ids n):=by
 have key:=JN (fun v=>Ig ids n v) (fun i=>(i:Int)) ids.length (fun i=>JC (ids.getD i default) 1 999999&& !(ids.take i).contains (ids.getD i default)) (.inl ()) (.inr ()) ?_ ?_
 ·rw [Int.natCast_zero,l6]at key;unfold TL NG PS;rw [key,Option.bind_some];by_cases h0:ids.length=0
  ·have:ids=[]:=List.eq_nil_of_length_eq_zero h0
   subst this;simp [II]
  ·rw [decide_eq_false h0,Bool.false_or]
   cases decide ids.Nodup&&II ids 1 999999 with
   | false=>rw [Bool.and_false];rfl
   | true=>rw [Bool.and_true,if_pos rfl];simp only;rw [if_neg (by omega)]
 ·intro i hi;simp only [Ig,Int.toNat_natCast,List.drop_zero];rw [if_pos (BZ hi),BM (by omega),BM (by omega),BM (by omega),BM (by rw [List.length_take];omega),Je i (by omega)]
  cases JC (ids.getD i default) 1 999999<;>cases (ids.take i).contains (ids.getD i default)<;>rfl
 ·simp only [Ig];rw [if_neg (Aq _)]
theorem gY(ids:List Int)(nodes:Int)(h0:ids.length<1099511627776):Y.call 78 [D.sl 3 (AQ (D.int .i64) ids),D.int .i64 nodes] []=some (D.bool (PS ids nodes),[]):=YY ids nodes (gW ids nodes h0)
theorem gZ(ids:List Int)(nodes:Int)(h0:ids.length<1099511627776):Y.call 71 [D.sl 3 (AQ (D.int .i64) ids),D.int .i64 nodes] []=some (D.bool (PS ids nodes),[]):=Ya ids nodes (gX ids nodes h0)
noncomputable def NH(inputs:List Int)(nodes:Int):Option (Bool):= if(inputs.length:Int)=nodes then ck (inputs.length<1099511627776)<| some (II inputs (0:Int) (9:Int)) else some false
def k79:SC:= .seq (.ops [⟨some 4,.assign (.const (.bool false)),4,none⟩]) (.seq (.ops [⟨some 5,.move (.tmp 0),23,none⟩,⟨some 6,.call ⟨(.builtin .len), #[(.tmp 5)], #[23]⟩,3,none⟩,⟨some 7,.move (.tmp 1),3,none⟩,⟨some 8,.binOp .eql 3 (.tmp 6) (.tmp 7) 3,4,none⟩,⟨some 9,.move (.tmp 8),4,none⟩,⟨some 10,.move (.tmp 0),23,(some (some 9,true))⟩,⟨some 11,.call ⟨(.value (.func 83)), #[(.tmp 10),(.const (.int .i64 0)),(.const (.int .i64 9))], #[23,3,3]⟩,4,(some (some 9,true))⟩,⟨some 12,.pick (.tmp 9) (.tmp 11) (.const (.bool false)),4,none⟩,⟨some 4,.assign (.tmp 12),4,none⟩]) .ret)
theorem A3v:Try.f79.body.map (Be lends)=some k79:=by kernel_rfl
theorem AJA:Bu Try.f79 2=true:=by kernel_rfl
theorem c79{a l:List D}{r:D×List D}(h:Bo Y.env k79 (fin Ad l.length [ResultVar.tmp 4] r) (entry a l))(ha:a.length=2):Y.call 79 a l=some r:=
 Ab (Y:=Y) rfl Try.func79 (ha▸AJA) A3v h
theorem Sn(inputs:List Int)(nodes:Int){r:Bool}(h:NH inputs nodes=some r):Y.call 79 [D.sl 3 (AQ (D.int .i64) inputs),D.int .i64 nodes] []=some (D.bool r,[]):=by
 refine c79 ?_ rfl;unfold k79;unfold NH at h;by_cases e1:(inputs.length:Int)=nodes
 ·rw [if_pos e1]at h;obtain⟨e2,h⟩:=BO h;have c3:=Ud inputs (0:Int) (9:Int) e2;cases h;simp (maxDischargeDepth:=9) only [↓AP,AC,Ae,BV,AL,AR,↓reduceIte,Nat.reduceEqDiff,Nat.reduceLT,Nat.reduceAdd,decide_eq_true e1,c3]
 ·rw [if_neg e1]at h;cases h;simp (maxDischargeDepth:=9) only [↓AP,AC,Ae,AL,AR,↓reduceIte,Nat.reduceEqDiff,Nat.reduceLT,e1]
noncomputable def DD(A9:List (List (Int×Int)))(AO AA:List Int)(v_:Int):Option (Bool):= some (JC v_ (0:Int) (IntKind.i64.wrap ((A9.length:Int)-1)))
def k94:SC:= .seq (.ops [⟨some 2,.box 31 (.tmp 0),0,none⟩,⟨some 4,.assign (.const (.bool false)),4,none⟩]) (.seq (.ops [⟨some 5,.move (.tmp 1),3,none⟩,⟨some 6,.fieldAddr 31 (.tmp 2) 0,0,none⟩,⟨some 7,.load 29 (.tmp 6),29,none⟩,⟨some 8,.call ⟨(.builtin .len), #[(.tmp 7)], #[29]⟩,3,none⟩,⟨some 9,.binOp .sub 3 (.tmp 8) (.const (.int .i64 1)) 3,3,none⟩,⟨some 10,.call ⟨(.value (.func 77)), #[(.tmp 5),(.const (.int .i64 0)),(.tmp 9)], #[3,3,3]⟩,4,none⟩,⟨some 4,.assign (.tmp 10),4,none⟩]) .ret)
theorem A3w:Try.f94.body.map (Be lends)=some k94:=by kernel_rfl
theorem AJC:Bu Try.f94 2=true:=by kernel_rfl
theorem c94{a l:List D}{r:D×List D}(h:Bo Y.env k94 (fin Ad l.length [ResultVar.tmp 4] r) (entry a l))(ha:a.length=2):Y.call 94 a l=some r:=
 Ab (Y:=Y) rfl Try.func94 (ha▸AJC) A3w h
theorem JS(A9:List (List (Int×Int)))(AO AA:List Int)(v_:Int){r:Bool}(h:DD A9 AO AA v_=some r):Y.call 94 [D.agg [D.sl 100 (AQ (fun x=>D.sl 102 (Ai .i64 .i64 x)) A9),D.sl 3 (AQ (D.int .i64) AO),D.sl 3 (AQ (D.int .i64) AA)],D.int .i64 v_] []=some (D.bool r,[]):=by
 refine c94 ?_ rfl;unfold k94;unfold DD at h;have c1:=IG v_ (0:Int) (IntKind.i64.wrap ((A9.length:Int)-1));cases h;simp (maxDischargeDepth:=9) only [↓AP,AC,Ae,BV,AL,AR,↓reduceIte,Nat.reduceEqDiff,Nat.reduceLT,Nat.reduceAdd,c1]
noncomputable def Hu(A9:List (List (Int×Int)))(AO AA:List Int)(v_ i:Int):Option (Bool):= (DD A9 AO AA v_).bind fun BI=> if BI=true then ck (0≤v_∧v_.toNat<A9.length)<| some (JC i (0:Int) (IntKind.i64.wrap (((A9.getD v_.toNat default).length:Int)-1))) else some false
def k80:SC:= .seq (.ops [⟨some 3,.box 31 (.tmp 0),0,none⟩,⟨some 6,.assign (.const (.bool false)),4,none⟩]) (.seq (.ops [⟨some 7,.load 31 (.tmp 3),31,none⟩,⟨some 8,.move (.tmp 1),3,none⟩,⟨some 9,.call ⟨(.value (.func 94)), #[(.tmp 7),(.tmp 8)], #[31,3]⟩,4,none⟩,⟨some 10,.move (.tmp 9),4,none⟩,⟨some 11,.move (.tmp 2),3,(some (some 10,true))⟩,⟨some 12,.fieldAddr 31 (.tmp 3) 0,0,(some (some 10,true))⟩,⟨some 13,.load 29 (.tmp 12),29,(some (some 10,true))⟩,⟨some 14,.move (.tmp 1),3,(some (some 10,true))⟩,⟨some 15,.indexAddr 29 (.tmp 13) (.tmp 14),0,(some (some 10,true))⟩,⟨some 16,.load 100 (.tmp 15),100,(some (some 10,true))⟩,⟨some 17,.call ⟨(.builtin .len), #[(.tmp 16)], #[100]⟩,3,(some (some 10,true))⟩,⟨some 18,.binOp .sub 3 (.tmp 17) (.const (.int .i64 1)) 3,3,(some (some 10,true))⟩,⟨some 19,.call ⟨(.value (.func 77)), #[(.tmp 11),(.const (.int .i64 0)),(.tmp 18)], #[3,3,3]⟩,4,(some (some 10,true))⟩,⟨some 20,.pick (.tmp 10) (.tmp 19) (.const (.bool false)),4,none⟩,⟨some 6,.assign (.tmp 20),4,none⟩]) .ret)
theorem A3x:Try.f80.body.map (Be lends)=some k80:=by kernel_rfl
theorem AJE:Bu Try.f80 3=true:=by kernel_rfl
theorem c80{a l:List D}{r:D×List D}(h:Bo Y.env k80 (fin Ad l.length [ResultVar.tmp 6] r) (entry a l))(ha:a.length=3):Y.call 80 a l=some r:=
 Ab (Y:=Y) rfl Try.func80 (ha▸AJE) A3x h
theorem NI(A9:List (List (Int×Int)))(AO AA:List Int)(v_ i:Int){r:Bool}(h:Hu A9 AO AA v_ i=some r):Y.call 80 [D.agg [D.sl 100 (AQ (fun x=>D.sl 102 (Ai .i64 .i64 x)) A9),D.sl 3 (AQ (D.int .i64) AO),D.sl 3 (AQ (D.int .i64) AA)],D.int .i64 v_,D.int .i64 i] []=some (D.bool r,[]):=by
 refine c80 ?_ rfl;unfold k80;unfold Hu at h;obtain⟨BI,hl1,h⟩:=Aw h;try dsimp only at h
 have c1:=JS A9 AO AA v_ hl1;by_cases e2:BI=true
 ·rw [if_pos e2]at h;obtain⟨e3,h⟩:=BO h;have c4:=IG i (0:Int) (IntKind.i64.wrap (((A9.getD v_.toNat default).length:Int)-1));cases h;simp (maxDischargeDepth:=9) only [↓AP,AC,Ae,BV,AL,AR,↓reduceIte,Nat.reduceEqDiff,Nat.reduceLT,Nat.reduceAdd,c1,e2,e3.1,e3.2,c4]
 ·rw [if_neg e2]at h;have e2f:BI=false:=Bool.eq_false_iff.mpr e2;cases h;simp (maxDischargeDepth:=9) only [↓AP,AC,BV,AL,AR,↓reduceIte,Nat.reduceEqDiff,Nat.reduceLT,Nat.reduceAdd,c1,e2f]
noncomputable def EJ(A7:List (List (Int×Int)))(AJ A8:List Int)(DY Iz:Int):Option ((Int)⊕(Unit⊕Unit)):= if Iz<((A7.getD DY.toNat default).length:Int)then ck (0≤Iz∧Iz.toNat<(A7.getD DY.toNat default).length)<| (Hu A7 AJ A8 (BA (A7.getD DY.toNat default) Iz.toNat) (Bc (A7.getD DY.toNat default) Iz.toNat)).bind fun Af=> if Af=true then ck (0≤(BA (A7.getD DY.toNat default) Iz.toNat)∧(BA (A7.getD DY.toNat default) Iz.toNat).toNat<A7.length)<| ck (0≤(Bc (A7.getD DY.toNat default) Iz.toNat)∧(Bc (A7.getD DY.toNat default) Iz.toNat).toNat<(A7.getD ((BA (A7.getD DY.toNat default) Iz.toNat).toNat) default).length)<| if(((BA (A7.getD ((BA (A7.getD DY.toNat default) Iz.toNat).toNat) default) ((Bc (A7.getD DY.toNat default) Iz.toNat).toNat))==DY)&&((Bc (A7.getD ((BA (A7.getD DY.toNat default) Iz.toNat).toNat) default) ((Bc (A7.getD DY.toNat default) Iz.toNat).toNat))==Iz))=true then some (Sum.inl (IntKind.i64.wrap (Iz+1))) else some (Sum.inr (Sum.inl ())) else some (Sum.inr (Sum.inl ())) else some (Sum.inr (Sum.inr ()))
noncomputable def IJ(A7:List (List (Int×Int)))(AJ A8:List Int)(DY v:Int):Option (Unit⊕Unit):=Ht (fun v=>EJ A7 AJ A8 DY v) v
noncomputable def EK(A7:List (List (Int×Int)))(AJ A8:List Int)(DY:Int):Option ((Int)⊕(Unit⊕Unit)):=
 if DY<(A7.length:Int)then
  ck (0≤DY∧DY.toNat<A7.length)<|
  if 6<((A7.getD DY.toNat default).length:Int)then
   some (Sum.inr (Sum.inl ()))
  else
   (IJ A7 AJ A8 DY 0).bind fun l7=>
   match l7 with
   | .inl q12_=>
    some (Sum.inr (Sum.inl ()))
   | .inr q12_=>
    some (Sum.inl (IntKind.i64.wrap (DY+1)))
 else
  some (Sum.inr (Sum.inr ()))
noncomputable def IK(A7:List (List (Int×Int)))(AJ A8:List Int)(v:Int):Option (Unit⊕Unit):=Ht (fun v=>EK A7 AJ A8 v) v
noncomputable def M5(A7:List (List (Int×Int)))(AJ A8:List Int):Option (Bool):=
 if(JC (A7.length:Int) (1:Int) (40:Int))=true then
  ck (AJ.length<1099511627776)<|
  if(PS AJ (A7.length:Int))=true then
   (NH A8 (A7.length:Int)).bind fun Qn=>
   if Qn=true then
    (IK A7 AJ A8 0).bind fun Cy=>
    match Cy with
    | .inl q9_=>
     some false
    | .inr q9_=>
     some true
   else
    some false
  else
   some false
 else
  some false
def Yb:SC:= .seq (.ops [⟨some 44,.binOp .lss 3 (.tmp 43) (.tmp 42) 3,0,none⟩]) (.seq (.cond (.tmp 44) .skip (.exit 2)) (.seq (.block 3 (.seq (.ops [⟨some 45,.move (.tmp 43),3,none⟩,⟨some 46,.indexAddr 100 (.tmp 41) (.tmp 43),0,none⟩,⟨some 47,.load 102 (.tmp 46),102,none⟩,⟨some 6,.alloc 102,0,none⟩,⟨some 5,.assign (.tmp 45),3,none⟩,⟨none,.store 102 (.tmp 6) (.tmp 47),0,none⟩]) (.seq (.draws [(⟨[48,1,1],[48,49,50,51,52,53,54,55,56,57,58,59,60,61,62,63,64,65,66,67,68,66,67,69,70],[48]⟩,⟨some 48,.load 31 (.tmp 1),31,none⟩),(⟨[49,6,6],[48,49,50,51,52,53,54,55,56,57,58,59,60,61,62,63,64,65,66,67,68,66,67,69,70],[49]⟩,⟨some 49,.fieldAddr 102 (.tmp 6) 0,0,none⟩),(⟨[50,49,6],[48,49,50,51,52,53,54,55,56,57,58,59,60,61,62,63,64,65,66,67,68,66,67,69,70],[50]⟩,⟨some 50,.load 3 (.tmp 49),3,none⟩),(⟨[51,6,6],[48,49,50,51,52,53,54,55,56,57,58,59,60,61,62,63,64,65,66,67,68,66,67,69,70],[51]⟩,⟨some 51,.fieldAddr 102 (.tmp 6) 1,0,none⟩),(⟨[52,51,6],[48,49,50,51,52,53,54,55,56,57,58,59,60,61,62,63,64,65,66,67,68,66,67,69,70],[52]⟩,⟨some 52,.load 3 (.tmp 51),3,none⟩),(⟨[53,48,50,52,1,6,6],[48,49,50,51,52,53,54,55,56,57,58,59,60,61,62,63,64,65,66,67,68,66,67,69,70],[53]⟩,⟨some 53,.call ⟨(.value (.func 80)), #[(.tmp 48),(.tmp 50),(.tmp 52)], #[31,3,3]⟩,4,none⟩),
 (⟨[54,53,53],[48,49,50,51,52,53,54,55,56,57,58,59,60,61,62,63,64,65,66,67,68,66,67,69,70],[54]⟩,⟨some 54,.unOp .not 4 (.tmp 53),4,none⟩),(⟨[55,54,54],[48,49,50,51,52,53,54,55,56,57,58,59,60,61,62,63,64,65,66,67,68,66,67,69,70],[55]⟩,⟨some 55,.move (.tmp 54),4,none⟩),(⟨[56,1,1,55],[48,49,50,51,52,53,54,55,56,57,58,59,60,61,62,63,64,65,66,67,68,66,67,69,70],[56]⟩,⟨some 56,.fieldAddr 31 (.tmp 1) 0,0,(some (some 55,false))⟩),(⟨[57,56,1,55],[48,49,50,51,52,53,54,55,56,57,58,59,60,61,62,63,64,65,66,67,68,66,67,69,70],[57]⟩,⟨some 57,.load 29 (.tmp 56),29,(some (some 55,false))⟩),(⟨[58,6,6,55],[48,49,50,51,52,53,54,55,56,57,58,59,60,61,62,63,64,65,66,67,68,66,67,69,70],[58]⟩,⟨some 58,.fieldAddr 102 (.tmp 6) 0,0,(some (some 55,false))⟩),(⟨[59,58,6,55],[48,49,50,51,52,53,54,55,56,57,58,59,60,61,62,63,64,65,66,67,68,66,67,69,70],[59]⟩,⟨some 59,.load 3 (.tmp 58),3,(some (some 55,false))⟩),(⟨[60,57,59,1,6,55],[48,49,50,51,52,53,54,55,56,57,58,59,60,61,62,63,64,65,66,67,68,66,67,69,70],[60]⟩,⟨some 60,.indexAddr 29 (.tmp 57) (.tmp 59),0,(some (some 55,false))⟩),(⟨[61,60,1,55],[48,49,50,51,52,53,54,55,56,57,58,59,60,61,62,63,64,65,66,67,68,66,67,69,70],[61]⟩,⟨some 61,.load 100 (.tmp 60),100,(some (some 55,false))⟩),
 (⟨[62,6,6,55],[48,49,50,51,52,53,54,55,56,57,58,59,60,61,62,63,64,65,66,67,68,66,67,69,70],[62]⟩,⟨some 62,.fieldAddr 102 (.tmp 6) 1,0,(some (some 55,false))⟩),(⟨[63,62,6,55],[48,49,50,51,52,53,54,55,56,57,58,59,60,61,62,63,64,65,66,67,68,66,67,69,70],[63]⟩,⟨some 63,.load 3 (.tmp 62),3,(some (some 55,false))⟩),(⟨[64,61,63,1,6,55],[48,49,50,51,52,53,54,55,56,57,58,59,60,61,62,63,64,65,66,67,68,66,67,69,70],[64]⟩,⟨some 64,.indexAddr 100 (.tmp 61) (.tmp 63),0,(some (some 55,false))⟩),(⟨[65,64,1,55],[48,49,50,51,52,53,54,55,56,57,58,59,60,61,62,63,64,65,66,67,68,66,67,69,70],[65]⟩,⟨some 65,.load 102 (.tmp 64),102,(some (some 55,false))⟩),(⟨[66,3,3,55],[48,49,50,51,52,53,54,55,56,57,58,59,60,61,62,63,64,65,66,67,68,66,67,69,70],[66]⟩,⟨some 66,.move (.tmp 3),3,(some (some 55,false))⟩),(⟨[67,5,5,55],[48,49,50,51,52,53,54,55,56,57,58,59,60,61,62,63,64,65,66,67,68,66,67,69,70],[67]⟩,⟨some 67,.move (.tmp 5),3,(some (some 55,false))⟩),(⟨[68,66,67,3,5,55],[48,49,50,51,52,53,54,55,56,57,58,59,60,61,62,63,64,65,66,67,68,66,67,69,70],[68,66,67]⟩,⟨some 68,.build 102 #[(0,(.tmp 66)),(1,(.tmp 67))],102,(some (some 55,false))⟩),(⟨[69,65,68,1,68,55],[48,49,50,51,52,53,54,55,56,57,58,59,60,61,62,63,64,65,66,67,68,66,67,69,70],[69]⟩,⟨some 69,.binOp .neq 102 (.tmp 65) (.tmp 68) 102,4,(some (some 55,false))⟩),
 (⟨[70,55,69,54,69],[48,49,50,51,52,53,54,55,56,57,58,59,60,61,62,63,64,65,66,67,68,66,67,69,70],[70]⟩,⟨some 70,.pick (.tmp 55) (.const (.bool true)) (.tmp 69),4,none⟩)]) (.cond (.tmp 70) (.seq (.ops [⟨some 2,.assign (.const (.bool false)),4,none⟩]) .ret) .skip)))) (.ops [⟨some 71,.binOp .add 3 (.tmp 43) (.const (.int .i64 1)) 3,3,none⟩,⟨some 43,.move (.tmp 71),3,none⟩])))
def qO:SC:= .loop Yb
def Yc:SC:= .seq (.ops [⟨some 34,.binOp .lss 3 (.tmp 33) (.tmp 32) 3,0,none⟩]) (.seq (.cond (.tmp 34) .skip (.exit 0)) (.seq (.block 1 (.seq (.ops [⟨some 35,.move (.tmp 33),3,none⟩,⟨some 36,.indexAddr 29 (.tmp 31) (.tmp 33),0,none⟩,⟨some 37,.load 100 (.tmp 36),100,none⟩,⟨some 3,.assign (.tmp 35),3,none⟩,⟨some 4,.assign (.tmp 37),100,none⟩]) (.seq (.seq (.ops [⟨some 38,.move (.tmp 4),100,none⟩,⟨some 39,.call ⟨(.builtin .len), #[(.tmp 38)], #[100]⟩,3,none⟩,⟨some 40,.binOp .gtr 3 (.tmp 39) (.const (.int .i64 6)) 3,4,none⟩]) (.cond (.tmp 40) (.seq (.ops [⟨some 2,.assign (.const (.bool false)),4,none⟩]) .ret) .skip)) (.seq (.ops [⟨some 41,.move (.tmp 4),100,none⟩,⟨some 42,.call ⟨(.builtin .len), #[(.tmp 41)], #[100]⟩,3,none⟩,⟨some 43,.move (.const (.int .i64 0)),3,none⟩]) (.block 2 qO))))) (.ops [⟨some 72,.binOp .add 3 (.tmp 33) (.const (.int .i64 1)) 3,3,none⟩,⟨some 33,.move (.tmp 72),3,none⟩])))
def qP:SC:= .loop Yc
def k37:SC:= .seq (.ops [⟨some 1,.box 31 (.tmp 0),0,none⟩,⟨some 2,.assign (.const (.bool false)),4,none⟩]) (.seq (.seq (.ops [⟨some 7,.fieldAddr 31 (.tmp 1) 0,0,none⟩,⟨some 8,.load 29 (.tmp 7),29,none⟩,⟨some 9,.call ⟨(.builtin .len), #[(.tmp 8)], #[29]⟩,3,none⟩,⟨some 10,.call ⟨(.value (.func 77)), #[(.tmp 9),(.const (.int .i64 1)),(.const (.int .i64 40))], #[3,3,3]⟩,4,none⟩,⟨some 11,.unOp .not 4 (.tmp 10),4,none⟩,⟨some 12,.move (.tmp 11),4,none⟩,⟨some 13,.fieldAddr 31 (.tmp 1) 1,0,(some (some 12,false))⟩,⟨some 14,.load 23 (.tmp 13),23,(some (some 12,false))⟩,⟨some 15,.fieldAddr 31 (.tmp 1) 0,0,(some (some 12,false))⟩,⟨some 16,.load 29 (.tmp 15),29,(some (some 12,false))⟩,⟨some 17,.call ⟨(.builtin .len), #[(.tmp 16)], #[29]⟩,3,(some (some 12,false))⟩,⟨some 18,.call ⟨(.value (.func 78)), #[(.tmp 14),(.tmp 17)], #[23,3]⟩,4,(some (some 12,false))⟩,⟨some 19,.unOp .not 4 (.tmp 18),4,(some (some 12,false))⟩,⟨some 20,.pick (.tmp 12) (.const (.bool true)) (.tmp 19),4,none⟩,⟨some 21,.move (.tmp 20),4,none⟩,⟨some 22,.fieldAddr 31 (.tmp 1) 2,0,(some (some 21,false))⟩,⟨some 23,.load 23 (.tmp 22),23,(some (some 21,false))⟩,⟨some 24,.fieldAddr 31 (.tmp 1) 0,0,(some (some 21,false))⟩,
 ⟨some 25,.load 29 (.tmp 24),29,(some (some 21,false))⟩,⟨some 26,.call ⟨(.builtin .len), #[(.tmp 25)], #[29]⟩,3,(some (some 21,false))⟩,⟨some 27,.call ⟨(.value (.func 79)), #[(.tmp 23),(.tmp 26)], #[23,3]⟩,4,(some (some 21,false))⟩,⟨some 28,.unOp .not 4 (.tmp 27),4,(some (some 21,false))⟩,⟨some 29,.pick (.tmp 21) (.const (.bool true)) (.tmp 28),4,none⟩]) (.cond (.tmp 29) (.seq (.ops [⟨some 2,.assign (.const (.bool false)),4,none⟩]) .ret) .skip)) (.seq (.seq (.ops [⟨some 30,.fieldAddr 31 (.tmp 1) 0,0,none⟩,⟨some 31,.load 29 (.tmp 30),29,none⟩,⟨some 32,.call ⟨(.builtin .len), #[(.tmp 31)], #[29]⟩,3,none⟩,⟨some 33,.move (.const (.int .i64 0)),3,none⟩]) (.block 0 qP)) (.seq (.ops [⟨some 2,.assign (.const (.bool true)),4,none⟩]) .ret)))
theorem A3y:Try.f37.body.map (Be lends)=some k37:=by kernel_rfl
theorem AJG:Bu Try.f37 1=true:=by kernel_rfl
theorem c37{a l:List D}{r:D×List D}(h:Bo Y.env k37 (fin Ad l.length [ResultVar.tmp 2] r) (entry a l))(ha:a.length=1):Y.call 37 a l=some r:=
 Ab (Y:=Y) rfl Try.func37 (ha▸AJG) A3y h
def Ci(A7:List (List (Int×Int)))(AJ A8:List Int)(DY Iz:Int)(s:St):Prop:=s.v 1=D.box [D.sl 100 (AQ (fun x=>D.sl 102 (Ai .i64 .i64 x)) A7),D.sl 3 (AQ (D.int .i64) AJ),D.sl 3 (AQ (D.int .i64) A8)]∧s.v 3=D.int .i64 DY∧s.v 31=D.sl 100 (AQ (fun x=>D.sl 102 (Ai .i64 .i64 x)) A7)∧s.v 32=D.int .i64 (A7.length:Int)∧s.v 33=D.int .i64 DY∧s.v 41=D.sl 102 (Ai .i64 .i64 (A7.getD DY.toNat default))∧s.v 42=D.int .i64 ((A7.getD DY.toNat default).length:Int)∧s.v 43=D.int .i64 Iz
def DZ(A7:List (List (Int×Int)))(AJ A8:List Int)(DY:Int)(r:Unit⊕Unit)(ex:Ex)(s:St):Prop:=match r with
 | .inl q=>ex= .ret∧s.v 2=D.bool false
 | .inr q=>ex= .exit 2∧s.v 1=D.box [D.sl 100 (AQ (fun x=>D.sl 102 (Ai .i64 .i64 x)) A7),D.sl 3 (AQ (D.int .i64) AJ),D.sl 3 (AQ (D.int .i64) A8)]∧s.v 31=D.sl 100 (AQ (fun x=>D.sl 102 (Ai .i64 .i64 x)) A7)∧s.v 32=D.int .i64 (A7.length:Int)∧s.v 33=D.int .i64 DY
theorem QR(A7:List (List (Int×Int)))(AJ A8:List Int)(DY:Int){v:Int}{s:St}{r:Unit⊕Unit}(h:IJ A7 AJ A8 DY v=some r)(hM:Ci A7 AJ A8 DY v s):Bo Y.env qO (DZ A7 AJ A8 DY r) s:=by
 unfold IJ at h;refine BR (c:=Yb) (fun v=>EJ A7 AJ A8 DY v) (fun v s=>Ci A7 AJ A8 DY v s) (DZ A7 AJ A8 DY) ?_ h hM;clear h hM s v r;intro Iz s o hM h;unfold EJ at h;unfold Ci at hM;obtain⟨m0,m1,m2,m3,m4,m5,m6,m7⟩:=hM;unfold Yb;by_cases e11:Iz<((A7.getD DY.toNat default).length:Int)
 ·rw [if_pos e11]at h;obtain⟨e12,h⟩:=BO h;obtain⟨Af,hl13,h⟩:=Aw h;try dsimp only at h
  have TJ:=NI A7 AJ A8 (BA (A7.getD DY.toNat default) Iz.toNat) (Bc (A7.getD DY.toNat default) Iz.toNat) hl13;by_cases e14:Af=true
  ·rw [if_pos e14]at h;obtain⟨e15,h⟩:=BO h;obtain⟨e16,h⟩:=BO h;by_cases e17:(((BA (A7.getD ((BA (A7.getD DY.toNat default) Iz.toNat).toNat) default) ((Bc (A7.getD DY.toNat default) Iz.toNat).toNat))==DY)&&((Bc (A7.getD ((BA (A7.getD DY.toNat default) Iz.toNat).toNat) default) ((Bc (A7.getD DY.toNat default) Iz.toNat).toNat))==Iz))=true
   ·rw [if_pos e17]at h;cases h;simp (maxDischargeDepth:=9) only [↓AP,AC,Ae,BV,AL,AR,↓reduceIte,Nat.reduceEqDiff,Nat.reduceLT,Nat.reduceLeDiff,Nat.reduceAdd,Nat.reduceBEq,m0,m1,m2,m3,m4,m5,m6,m7,e11,e12.1,e12.2,TJ,e14,e15.1,e15.2,e16.1,e16.2,e17,Ci,G9]
   ·rw [if_neg e17]at h;have e17f:(((BA (A7.getD ((BA (A7.getD DY.toNat default) Iz.toNat).toNat) default) ((Bc (A7.getD DY.toNat default) Iz.toNat).toNat))==DY)&&((Bc (A7.getD ((BA (A7.getD DY.toNat default) Iz.toNat).toNat) default) ((Bc (A7.getD DY.toNat default) Iz.toNat).toNat))==Iz))=false:=Bool.eq_false_iff.mpr e17;cases h;simp (maxDischargeDepth:=9) only [↓AP,AC,Ae,BV,AL,AR,↓reduceIte,Nat.reduceEqDiff,Nat.reduceLT,Nat.reduceLeDiff,Nat.reduceAdd,Nat.reduceBEq,m0,m1,m5,m6,m7,e11,e12.1,e12.2,TJ,e14,e15.1,e15.2,e16.1,e16.2,e17f,Ci,DZ,MX]
  ·rw [if_neg e14]at h;have e14f:Af=false:=Bool.eq_false_iff.mpr e14;cases h;simp (maxDischargeDepth:=9) only [↓AP,AC,BV,AL,AR,↓reduceIte,Nat.reduceEqDiff,Nat.reduceLT,Nat.reduceAdd,Nat.reduceBEq,m0,m1,m5,m6,m7,e11,e12.1,e12.2,TJ,e14f,Ci,DZ,MX]
 ·rw [if_neg e11]at h;cases h;simp (maxDischargeDepth:=9) only [↓AP,AC,AR,↓reduceIte,Nat.reduceEqDiff,Nat.reduceLT,m0,m2,m3,m4,m6,m7,e11,Ci,DZ,JF]
def Cj(A7:List (List (Int×Int)))(AJ A8:List Int)(DY:Int)(s:St):Prop:=s.v 1=D.box [D.sl 100 (AQ (fun x=>D.sl 102 (Ai .i64 .i64 x)) A7),D.sl 3 (AQ (D.int .i64) AJ),D.sl 3 (AQ (D.int .i64) A8)]∧s.v 31=D.sl 100 (AQ (fun x=>D.sl 102 (Ai .i64 .i64 x)) A7)∧s.v 32=D.int .i64 (A7.length:Int)∧s.v 33=D.int .i64 DY
def Da(A7:List (List (Int×Int)))(AJ A8:List Int)(r:Unit⊕Unit)(ex:Ex)(s:St):Prop:=match r with
 | .inl q=>ex= .ret∧s.v 2=D.bool false
 | .inr q=>ex= .exit 0
theorem QS(A7:List (List (Int×Int)))(AJ A8:List Int){v:Int}{s:St}{r:Unit⊕Unit}(h:IK A7 AJ A8 v=some r)(hM:Cj A7 AJ A8 v s):Bo Y.env qP (Da A7 AJ A8 r) s:=by
 unfold IK at h;refine BR (c:=Yc) (fun v=>EK A7 AJ A8 v) (fun v s=>Cj A7 AJ A8 v s) (Da A7 AJ A8) ?_ h hM;clear h hM s v r;intro DY s o hM h;unfold EK at h;unfold Cj at hM;obtain⟨m0,m1,m2,m3⟩:=hM;unfold Yc;by_cases e8:DY<(A7.length:Int)
 ·rw [if_pos e8]at h;obtain⟨e9,h⟩:=BO h;by_cases e10:6<((A7.getD DY.toNat default).length:Int)
  ·rw [if_pos e10]at h;cases h;simp (maxDischargeDepth:=9) only [↓AP,AC,Ae,BV,AL,AR,↓reduceIte,Nat.reduceEqDiff,Nat.reduceLT,m1,m2,m3,e8,e9.1,e9.2,e10,Cj,Da,MX]
  ·rw [if_neg e10]at h;obtain⟨l7,hl12,h⟩:=Aw h;try dsimp only at h
   simp (maxDischargeDepth:=9) only [↓AP,AC,Ae,BV,AL,AR,↓reduceIte,Nat.reduceEqDiff,Nat.reduceLT,m1,m2,m3,e8,e9.1,e9.2,e10];refine BC (QR A7 AJ A8 DY hl12 ?_) ?_
   ·simp (maxDischargeDepth:=9) only [AC,↓reduceIte,Nat.reduceEqDiff,m0,m1,m2,m3,Ci]
   ·intro ex12 s12 hX12;rcases l7 with q12_ | q12_
    ·unfold DZ at hX12;dsimp only at hX12 h;obtain⟨rfl,n12_0⟩:=hX12;cases h;simp (maxDischargeDepth:=9) only [↓AP,AC,n12_0,Cj,Da,MX]
    ·unfold DZ at hX12;dsimp only at hX12 h;obtain⟨rfl,n12_0,n12_1,n12_2,n12_3⟩:=hX12;cases h;simp (maxDischargeDepth:=9) only [↓AP,AC,AR,↓reduceIte,Nat.reduceEqDiff,Nat.reduceLT,n12_0,n12_1,n12_2,n12_3,Cj,G9]
 ·rw [if_neg e8]at h;cases h;simp (maxDischargeDepth:=9) only [↓AP,AC,AR,↓reduceIte,Nat.reduceLT,m2,m3,e8,Cj,Da,JF]
theorem RI(A7:List (List (Int×Int)))(AJ A8:List Int){r:Bool}(h:M5 A7 AJ A8=some r):Y.call 37 [D.agg [D.sl 100 (AQ (fun x=>D.sl 102 (Ai .i64 .i64 x)) A7),D.sl 3 (AQ (D.int .i64) AJ),D.sl 3 (AQ (D.int .i64) A8)]] []=some (D.bool r,[]):=by
 refine c37 ?_ rfl;unfold k37;unfold M5 at h;have c1:=IG (A7.length:Int) (1:Int) (40:Int);by_cases e2:(JC (A7.length:Int) (1:Int) (40:Int))=true
 ·rw [if_pos e2]at h;obtain⟨e3,h⟩:=BO h;have c4:=gY AJ (A7.length:Int) e3;by_cases e5:(PS AJ (A7.length:Int))=true
  ·rw [if_pos e5]at h;obtain⟨Qn,hl6,h⟩:=Aw h;try dsimp only at h
   have c6:=Sn A8 (A7.length:Int) hl6;by_cases e7:Qn=true
   ·rw [if_pos e7]at h;obtain⟨Cy,hl9,h⟩:=Aw h;try dsimp only at h
    simp (maxDischargeDepth:=9) only [↓AP,AC,Ae,BV,AL,AR,↓reduceIte,Nat.reduceEqDiff,Nat.reduceLT,Nat.reduceAdd,c1,e2,c4,e5,c6,e7];refine BC (QS A7 AJ A8 hl9 ?_) ?_
    ·simp (maxDischargeDepth:=9) only [AC,↓reduceIte,Nat.reduceEqDiff,Cj]
    ·intro ex9 s9 hX9;rcases Cy with q9_ | q9_
     ·unfold Da at hX9;dsimp only at hX9 h;obtain⟨rfl,n9_0⟩:=hX9;cases h;simp (maxDischargeDepth:=9) only [↓AP,AC,AL,↓reduceIte,n9_0]
     ·unfold Da at hX9;dsimp only at hX9 h
      obtain rfl:=hX9
      cases h;simp (maxDischargeDepth:=9) only [↓AP,AC,AL,AR,↓reduceIte,Nat.reduceEqDiff,Nat.reduceLT]
   ·rw [if_neg e7]at h;have e7f:Qn=false:=Bool.eq_false_iff.mpr e7;cases h;simp (maxDischargeDepth:=9) only [↓AP,AC,Ae,BV,AL,AR,↓reduceIte,Nat.reduceEqDiff,Nat.reduceLT,Nat.reduceAdd,c1,e2,c4,e5,c6,e7f]
  ·rw [if_neg e5]at h;have e5f:(PS AJ (A7.length:Int))=false:=Bool.eq_false_iff.mpr e5;cases h;simp (maxDischargeDepth:=9) only [↓AP,AC,Ae,BV,AL,AR,↓reduceIte,Nat.reduceEqDiff,Nat.reduceLT,Nat.reduceAdd,c1,e2,c4,e5f]
 ·rw [if_neg e2]at h;have e2f:(JC (A7.length:Int) (1:Int) (40:Int))=false:=Bool.eq_false_iff.mpr e2;cases h;simp (maxDischargeDepth:=9) only [↓AP,AC,Ae,BV,AL,AR,↓reduceIte,Nat.reduceEqDiff,Nat.reduceLT,Nat.reduceAdd,c1,e2f]
noncomputable def Gr(A7:List (List (Int×Int)))(AJ A8:List Int)(Ce Fy:Int):Option ((Int)⊕(Unit⊕Unit)):= if Fy<((A7.getD Ce.toNat default).length:Int)then ck (0≤Fy∧Fy.toNat<(A7.getD Ce.toNat default).length)<| if(JC (BA (A7.getD Ce.toNat default) Fy.toNat) (0:Int) (IntKind.i64.wrap ((A7.length:Int)-1)))=true then ck (0≤(BA (A7.getD Ce.toNat default) Fy.toNat)∧(BA (A7.getD Ce.toNat default) Fy.toNat).toNat<A7.length)<| if(JC (Bc (A7.getD Ce.toNat default) Fy.toNat) (0:Int) (IntKind.i64.wrap (((A7.getD ((BA (A7.getD Ce.toNat default) Fy.toNat).toNat) default).length:Int)-1)))=true then ck (0≤(Bc (A7.getD Ce.toNat default) Fy.toNat)∧(Bc (A7.getD Ce.toNat default) Fy.toNat).toNat<(A7.getD ((BA (A7.getD Ce.toNat default) Fy.toNat).toNat) default).length)<| if(((BA (A7.getD ((BA (A7.getD Ce.toNat default) Fy.toNat).toNat) default) ((Bc (A7.getD Ce.toNat default) Fy.toNat).toNat))==Ce)&&((Bc (A7.getD ((BA (A7.getD Ce.toNat default) Fy.toNat).toNat) default) ((Bc (A7.getD Ce.toNat default) Fy.toNat).toNat))==Fy))=true then some (Sum.inl (IntKind.i64.wrap (Fy+1))) else some (Sum.inr (Sum.inl ())) else some (Sum.inr (Sum.inl ())) else some (Sum.inr (Sum.inl ())) else some (Sum.inr (Sum.inr ()))
noncomputable def KM(A7:List (List (Int×Int)))(AJ A8:List Int)(Ce v:Int):Option (Unit⊕Unit):=Ht (fun v=>Gr A7 AJ A8 Ce v) v
noncomputable def Gs(A7:List (List (Int×Int)))(AJ A8:List Int)(Ce:Int):Option ((Int)⊕(Unit⊕Unit)):=
 if Ce<(A7.length:Int)then
  ck (0≤Ce∧Ce.toNat<A7.length)<|
  if 6<((A7.getD Ce.toNat default).length:Int)then
   some (Sum.inr (Sum.inl ()))
  else
   (KM A7 AJ A8 Ce 0).bind fun Ih=>
   match Ih with
   | .inl q14_=>
    some (Sum.inr (Sum.inl ()))
   | .inr q14_=>
    some (Sum.inl (IntKind.i64.wrap (Ce+1)))
 else
  some (Sum.inr (Sum.inr ()))
noncomputable def KN(A7:List (List (Int×Int)))(AJ A8:List Int)(v:Int):Option (Unit⊕Unit):=Ht (fun v=>Gs A7 AJ A8 v) v
noncomputable def QT(A7:List (List (Int×Int)))(AJ A8:List Int):Option (Bool):=
 if(JC (A7.length:Int) (1:Int) (40:Int))=true then
  ck (AJ.length<1099511627776)<|
  if(PS AJ (A7.length:Int))=true then
   if(A8.length:Int)=(A7.length:Int)then
    ck (A8.length<1099511627776)<|
    if(II A8 (0:Int) (9:Int))=true then
     (KN A7 AJ A8 0).bind fun CJ=>
     match CJ with
     | .inl q11_=>
      some false
     | .inr q11_=>
      some true
    else
     some false
   else
    some false
  else
   some false
 else
  some false
def Yd:SC:= .seq (.ops [⟨some 50,.binOp .lss 3 (.tmp 49) (.tmp 48) 3,0,none⟩]) (.seq (.cond (.tmp 50) .skip (.exit 2)) (.seq (.block 3 (.seq (.ops [⟨some 51,.move (.tmp 49),3,none⟩,⟨some 52,.indexAddr 100 (.tmp 47) (.tmp 49),0,none⟩,⟨some 53,.load 102 (.tmp 52),102,none⟩,⟨some 6,.alloc 102,0,none⟩,⟨some 5,.assign (.tmp 51),3,none⟩,⟨none,.store 102 (.tmp 6) (.tmp 53),0,none⟩]) (.seq (.draws [(⟨[54,6,6],[54,55,56,57,58,59,60,61,62,63,64,65,66,67,68,69,70,71,72,73,74,75,76,77,78,79,80,81,82,83,84,85,86,87,88,89,87,88,90,91],[54]⟩,⟨some 54,.fieldAddr 102 (.tmp 6) 0,0,none⟩),(⟨[55,54,6],[54,55,56,57,58,59,60,61,62,63,64,65,66,67,68,69,70,71,72,73,74,75,76,77,78,79,80,81,82,83,84,85,86,87,88,89,87,88,90,91],[55]⟩,⟨some 55,.load 3 (.tmp 54),3,none⟩),(⟨[56,1,1],[54,55,56,57,58,59,60,61,62,63,64,65,66,67,68,69,70,71,72,73,74,75,76,77,78,79,80,81,82,83,84,85,86,87,88,89,87,88,90,91],[56]⟩,⟨some 56,.fieldAddr 31 (.tmp 1) 0,0,none⟩),(⟨[57,56,1],[54,55,56,57,58,59,60,61,62,63,64,65,66,67,68,69,70,71,72,73,74,75,76,77,78,79,80,81,82,83,84,85,86,87,88,89,87,88,90,91],[57]⟩,⟨some 57,.load 29 (.tmp 56),29,none⟩),(⟨[58,57,1],[54,55,56,57,58,59,60,61,62,63,64,65,66,67,68,69,70,71,72,73,74,75,76,77,78,79,80,81,82,83,84,85,86,87,88,89,87,88,90,91],[58]⟩,⟨some 58,.call ⟨(.builtin .len), #[(.tmp 57)], #[29]⟩,3,none⟩),
 (⟨[59,58,58],[54,55,56,57,58,59,60,61,62,63,64,65,66,67,68,69,70,71,72,73,74,75,76,77,78,79,80,81,82,83,84,85,86,87,88,89,87,88,90,91],[59]⟩,⟨some 59,.binOp .sub 3 (.tmp 58) (.const (.int .i64 1)) 3,3,none⟩),(⟨[60,55,59,6,59],[54,55,56,57,58,59,60,61,62,63,64,65,66,67,68,69,70,71,72,73,74,75,76,77,78,79,80,81,82,83,84,85,86,87,88,89,87,88,90,91],[60]⟩,⟨some 60,.call ⟨(.value (.func 43)), #[(.tmp 55),(.const (.int .i64 0)),(.tmp 59)], #[3,3,3]⟩,4,none⟩),(⟨[61,60,60],[54,55,56,57,58,59,60,61,62,63,64,65,66,67,68,69,70,71,72,73,74,75,76,77,78,79,80,81,82,83,84,85,86,87,88,89,87,88,90,91],[61]⟩,⟨some 61,.unOp .not 4 (.tmp 60),4,none⟩),(⟨[62,61,61],[54,55,56,57,58,59,60,61,62,63,64,65,66,67,68,69,70,71,72,73,74,75,76,77,78,79,80,81,82,83,84,85,86,87,88,89,87,88,90,91],[62]⟩,⟨some 62,.move (.tmp 61),4,none⟩),(⟨[63,6,6,62],[54,55,56,57,58,59,60,61,62,63,64,65,66,67,68,69,70,71,72,73,74,75,76,77,78,79,80,81,82,83,84,85,86,87,88,89,87,88,90,91],[63]⟩,⟨some 63,.fieldAddr 102 (.tmp 6) 1,0,(some (some 62,false))⟩),(⟨[64,63,6,62],[54,55,56,57,58,59,60,61,62,63,64,65,66,67,68,69,70,71,72,73,74,75,76,77,78,79,80,81,82,83,84,85,86,87,88,89,87,88,90,91],[64]⟩,⟨some 64,.load 3 (.tmp 63),3,(some (some 62,false))⟩),
 (⟨[65,1,1,62],[54,55,56,57,58,59,60,61,62,63,64,65,66,67,68,69,70,71,72,73,74,75,76,77,78,79,80,81,82,83,84,85,86,87,88,89,87,88,90,91],[65]⟩,⟨some 65,.fieldAddr 31 (.tmp 1) 0,0,(some (some 62,false))⟩),(⟨[66,65,1,62],[54,55,56,57,58,59,60,61,62,63,64,65,66,67,68,69,70,71,72,73,74,75,76,77,78,79,80,81,82,83,84,85,86,87,88,89,87,88,90,91],[66]⟩,⟨some 66,.load 29 (.tmp 65),29,(some (some 62,false))⟩),(⟨[67,6,6,62],[54,55,56,57,58,59,60,61,62,63,64,65,66,67,68,69,70,71,72,73,74,75,76,77,78,79,80,81,82,83,84,85,86,87,88,89,87,88,90,91],[67]⟩,⟨some 67,.fieldAddr 102 (.tmp 6) 0,0,(some (some 62,false))⟩),(⟨[68,67,6,62],[54,55,56,57,58,59,60,61,62,63,64,65,66,67,68,69,70,71,72,73,74,75,76,77,78,79,80,81,82,83,84,85,86,87,88,89,87,88,90,91],[68]⟩,⟨some 68,.load 3 (.tmp 67),3,(some (some 62,false))⟩),(⟨[69,66,68,1,6,62],[54,55,56,57,58,59,60,61,62,63,64,65,66,67,68,69,70,71,72,73,74,75,76,77,78,79,80,81,82,83,84,85,86,87,88,89,87,88,90,91],[69]⟩,⟨some 69,.indexAddr 29 (.tmp 66) (.tmp 68),0,(some (some 62,false))⟩),(⟨[70,69,1,62],[54,55,56,57,58,59,60,61,62,63,64,65,66,67,68,69,70,71,72,73,74,75,76,77,78,79,80,81,82,83,84,85,86,87,88,89,87,88,90,91],[70]⟩,⟨some 70,.load 100 (.tmp 69),100,(some (some 62,false))⟩),
 (⟨[71,70,1,62],[54,55,56,57,58,59,60,61,62,63,64,65,66,67,68,69,70,71,72,73,74,75,76,77,78,79,80,81,82,83,84,85,86,87,88,89,87,88,90,91],[71]⟩,⟨some 71,.call ⟨(.builtin .len), #[(.tmp 70)], #[100]⟩,3,(some (some 62,false))⟩),(⟨[72,71,71,62],[54,55,56,57,58,59,60,61,62,63,64,65,66,67,68,69,70,71,72,73,74,75,76,77,78,79,80,81,82,83,84,85,86,87,88,89,87,88,90,91],[72]⟩,⟨some 72,.binOp .sub 3 (.tmp 71) (.const (.int .i64 1)) 3,3,(some (some 62,false))⟩),(⟨[73,64,72,6,72,62],[54,55,56,57,58,59,60,61,62,63,64,65,66,67,68,69,70,71,72,73,74,75,76,77,78,79,80,81,82,83,84,85,86,87,88,89,87,88,90,91],[73]⟩,⟨some 73,.call ⟨(.value (.func 43)), #[(.tmp 64),(.const (.int .i64 0)),(.tmp 72)], #[3,3,3]⟩,4,(some (some 62,false))⟩),(⟨[74,73,73,62],[54,55,56,57,58,59,60,61,62,63,64,65,66,67,68,69,70,71,72,73,74,75,76,77,78,79,80,81,82,83,84,85,86,87,88,89,87,88,90,91],[74]⟩,⟨some 74,.unOp .not 4 (.tmp 73),4,(some (some 62,false))⟩),(⟨[75,62,74,61,74],[54,55,56,57,58,59,60,61,62,63,64,65,66,67,68,69,70,71,72,73,74,75,76,77,78,79,80,81,82,83,84,85,86,87,88,89,87,88,90,91],[75]⟩,⟨some 75,.pick (.tmp 62) (.const (.bool true)) (.tmp 74),4,none⟩),(⟨[76,75,75],[54,55,56,57,58,59,60,61,62,63,64,65,66,67,68,69,70,71,72,73,74,75,76,77,78,79,80,81,82,83,84,85,86,87,88,89,87,88,90,91],[76]⟩,⟨some 76,.move (.tmp 75),4,none⟩),
 (⟨[77,1,1,76],[54,55,56,57,58,59,60,61,62,63,64,65,66,67,68,69,70,71,72,73,74,75,76,77,78,79,80,81,82,83,84,85,86,87,88,89,87,88,90,91],[77]⟩,⟨some 77,.fieldAddr 31 (.tmp 1) 0,0,(some (some 76,false))⟩),(⟨[78,77,1,76],[54,55,56,57,58,59,60,61,62,63,64,65,66,67,68,69,70,71,72,73,74,75,76,77,78,79,80,81,82,83,84,85,86,87,88,89,87,88,90,91],[78]⟩,⟨some 78,.load 29 (.tmp 77),29,(some (some 76,false))⟩),(⟨[79,6,6,76],[54,55,56,57,58,59,60,61,62,63,64,65,66,67,68,69,70,71,72,73,74,75,76,77,78,79,80,81,82,83,84,85,86,87,88,89,87,88,90,91],[79]⟩,⟨some 79,.fieldAddr 102 (.tmp 6) 0,0,(some (some 76,false))⟩),(⟨[80,79,6,76],[54,55,56,57,58,59,60,61,62,63,64,65,66,67,68,69,70,71,72,73,74,75,76,77,78,79,80,81,82,83,84,85,86,87,88,89,87,88,90,91],[80]⟩,⟨some 80,.load 3 (.tmp 79),3,(some (some 76,false))⟩),(⟨[81,78,80,1,6,76],[54,55,56,57,58,59,60,61,62,63,64,65,66,67,68,69,70,71,72,73,74,75,76,77,78,79,80,81,82,83,84,85,86,87,88,89,87,88,90,91],[81]⟩,⟨some 81,.indexAddr 29 (.tmp 78) (.tmp 80),0,(some (some 76,false))⟩),(⟨[82,81,1,76],[54,55,56,57,58,59,60,61,62,63,64,65,66,67,68,69,70,71,72,73,74,75,76,77,78,79,80,81,82,83,84,85,86,87,88,89,87,88,90,91],[82]⟩,⟨some 82,.load 100 (.tmp 81),100,(some (some 76,false))⟩),
 (⟨[83,6,6,76],[54,55,56,57,58,59,60,61,62,63,64,65,66,67,68,69,70,71,72,73,74,75,76,77,78,79,80,81,82,83,84,85,86,87,88,89,87,88,90,91],[83]⟩,⟨some 83,.fieldAddr 102 (.tmp 6) 1,0,(some (some 76,false))⟩),(⟨[84,83,6,76],[54,55,56,57,58,59,60,61,62,63,64,65,66,67,68,69,70,71,72,73,74,75,76,77,78,79,80,81,82,83,84,85,86,87,88,89,87,88,90,91],[84]⟩,⟨some 84,.load 3 (.tmp 83),3,(some (some 76,false))⟩),(⟨[85,82,84,1,6,76],[54,55,56,57,58,59,60,61,62,63,64,65,66,67,68,69,70,71,72,73,74,75,76,77,78,79,80,81,82,83,84,85,86,87,88,89,87,88,90,91],[85]⟩,⟨some 85,.indexAddr 100 (.tmp 82) (.tmp 84),0,(some (some 76,false))⟩),(⟨[86,85,1,76],[54,55,56,57,58,59,60,61,62,63,64,65,66,67,68,69,70,71,72,73,74,75,76,77,78,79,80,81,82,83,84,85,86,87,88,89,87,88,90,91],[86]⟩,⟨some 86,.load 102 (.tmp 85),102,(some (some 76,false))⟩),(⟨[87,3,3,76],[54,55,56,57,58,59,60,61,62,63,64,65,66,67,68,69,70,71,72,73,74,75,76,77,78,79,80,81,82,83,84,85,86,87,88,89,87,88,90,91],[87]⟩,⟨some 87,.move (.tmp 3),3,(some (some 76,false))⟩),(⟨[88,5,5,76],[54,55,56,57,58,59,60,61,62,63,64,65,66,67,68,69,70,71,72,73,74,75,76,77,78,79,80,81,82,83,84,85,86,87,88,89,87,88,90,91],[88]⟩,⟨some 88,.move (.tmp 5),3,(some (some 76,false))⟩),
 (⟨[89,87,88,3,5,76],[54,55,56,57,58,59,60,61,62,63,64,65,66,67,68,69,70,71,72,73,74,75,76,77,78,79,80,81,82,83,84,85,86,87,88,89,87,88,90,91],[89,87,88]⟩,⟨some 89,.build 102 #[(0,(.tmp 87)),(1,(.tmp 88))],102,(some (some 76,false))⟩),(⟨[90,86,89,1,89,76],[54,55,56,57,58,59,60,61,62,63,64,65,66,67,68,69,70,71,72,73,74,75,76,77,78,79,80,81,82,83,84,85,86,87,88,89,87,88,90,91],[90]⟩,⟨some 90,.binOp .neq 102 (.tmp 86) (.tmp 89) 102,4,(some (some 76,false))⟩),(⟨[91,76,90,75,90],[54,55,56,57,58,59,60,61,62,63,64,65,66,67,68,69,70,71,72,73,74,75,76,77,78,79,80,81,82,83,84,85,86,87,88,89,87,88,90,91],[91]⟩,⟨some 91,.pick (.tmp 76) (.const (.bool true)) (.tmp 90),4,none⟩)]) (.cond (.tmp 91) (.seq (.ops [⟨some 2,.assign (.const (.bool false)),4,none⟩]) .ret) .skip)))) (.ops [⟨some 92,.binOp .add 3 (.tmp 49) (.const (.int .i64 1)) 3,3,none⟩,⟨some 49,.move (.tmp 92),3,none⟩])))
def qQ:SC:= .loop Yd
def Ye:SC:= .seq (.ops [⟨some 40,.binOp .lss 3 (.tmp 39) (.tmp 38) 3,0,none⟩]) (.seq (.cond (.tmp 40) .skip (.exit 0)) (.seq (.block 1 (.seq (.ops [⟨some 41,.move (.tmp 39),3,none⟩,⟨some 42,.indexAddr 29 (.tmp 37) (.tmp 39),0,none⟩,⟨some 43,.load 100 (.tmp 42),100,none⟩,⟨some 3,.assign (.tmp 41),3,none⟩,⟨some 4,.assign (.tmp 43),100,none⟩]) (.seq (.seq (.ops [⟨some 44,.move (.tmp 4),100,none⟩,⟨some 45,.call ⟨(.builtin .len), #[(.tmp 44)], #[100]⟩,3,none⟩,⟨some 46,.binOp .gtr 3 (.tmp 45) (.const (.int .i64 6)) 3,4,none⟩]) (.cond (.tmp 46) (.seq (.ops [⟨some 2,.assign (.const (.bool false)),4,none⟩]) .ret) .skip)) (.seq (.ops [⟨some 47,.move (.tmp 4),100,none⟩,⟨some 48,.call ⟨(.builtin .len), #[(.tmp 47)], #[100]⟩,3,none⟩,⟨some 49,.move (.const (.int .i64 0)),3,none⟩]) (.block 2 qQ))))) (.ops [⟨some 93,.binOp .add 3 (.tmp 39) (.const (.int .i64 1)) 3,3,none⟩,⟨some 39,.move (.tmp 93),3,none⟩])))
def qR:SC:= .loop Ye
def k33:SC:= .seq (.ops [⟨some 1,.box 31 (.tmp 0),0,none⟩,⟨some 2,.assign (.const (.bool false)),4,none⟩]) (.seq (.seq (.ops [⟨some 7,.fieldAddr 31 (.tmp 1) 0,0,none⟩,⟨some 8,.load 29 (.tmp 7),29,none⟩,⟨some 9,.call ⟨(.builtin .len), #[(.tmp 8)], #[29]⟩,3,none⟩,⟨some 10,.call ⟨(.value (.func 43)), #[(.tmp 9),(.const (.int .i64 1)),(.const (.int .i64 40))], #[3,3,3]⟩,4,none⟩,⟨some 11,.unOp .not 4 (.tmp 10),4,none⟩,⟨some 12,.move (.tmp 11),4,none⟩,⟨some 13,.fieldAddr 31 (.tmp 1) 1,0,(some (some 12,false))⟩,⟨some 14,.load 23 (.tmp 13),23,(some (some 12,false))⟩,⟨some 15,.fieldAddr 31 (.tmp 1) 0,0,(some (some 12,false))⟩,⟨some 16,.load 29 (.tmp 15),29,(some (some 12,false))⟩,⟨some 17,.call ⟨(.builtin .len), #[(.tmp 16)], #[29]⟩,3,(some (some 12,false))⟩,⟨some 18,.call ⟨(.value (.func 71)), #[(.tmp 14),(.tmp 17)], #[23,3]⟩,4,(some (some 12,false))⟩,⟨some 19,.unOp .not 4 (.tmp 18),4,(some (some 12,false))⟩,⟨some 20,.pick (.tmp 12) (.const (.bool true)) (.tmp 19),4,none⟩,⟨some 21,.move (.tmp 20),4,none⟩,⟨some 22,.fieldAddr 31 (.tmp 1) 2,0,(some (some 21,false))⟩,⟨some 23,.load 23 (.tmp 22),23,(some (some 21,false))⟩,⟨some 24,.call ⟨(.builtin .len), #[(.tmp 23)], #[23]⟩,3,(some (some 21,false))⟩,
 ⟨some 25,.fieldAddr 31 (.tmp 1) 0,0,(some (some 21,false))⟩,⟨some 26,.load 29 (.tmp 25),29,(some (some 21,false))⟩,⟨some 27,.call ⟨(.builtin .len), #[(.tmp 26)], #[29]⟩,3,(some (some 21,false))⟩,⟨some 28,.binOp .neq 3 (.tmp 24) (.tmp 27) 3,4,(some (some 21,false))⟩,⟨some 29,.pick (.tmp 21) (.const (.bool true)) (.tmp 28),4,none⟩,⟨some 30,.move (.tmp 29),4,none⟩,⟨some 31,.fieldAddr 31 (.tmp 1) 2,0,(some (some 30,false))⟩,⟨some 32,.load 23 (.tmp 31),23,(some (some 30,false))⟩,⟨some 33,.call ⟨(.value (.func 72)), #[(.tmp 32),(.const (.int .i64 0)),(.const (.int .i64 9))], #[23,3,3]⟩,4,(some (some 30,false))⟩,⟨some 34,.unOp .not 4 (.tmp 33),4,(some (some 30,false))⟩,⟨some 35,.pick (.tmp 30) (.const (.bool true)) (.tmp 34),4,none⟩]) (.cond (.tmp 35) (.seq (.ops [⟨some 2,.assign (.const (.bool false)),4,none⟩]) .ret) .skip)) (.seq (.seq (.ops [⟨some 36,.fieldAddr 31 (.tmp 1) 0,0,none⟩,⟨some 37,.load 29 (.tmp 36),29,none⟩,⟨some 38,.call ⟨(.builtin .len), #[(.tmp 37)], #[29]⟩,3,none⟩,⟨some 39,.move (.const (.int .i64 0)),3,none⟩]) (.block 0 qR)) (.seq (.ops [⟨some 2,.assign (.const (.bool true)),4,none⟩]) .ret)))
theorem A3z:Try.f33.body.map (Be lends)=some k33:=by kernel_rfl
theorem AJI:Bu Try.f33 1=true:=by kernel_rfl
theorem qU{a l:List D}{r:D×List D}(h:Bo Y.env k33 (fin Ad l.length [ResultVar.tmp 2] r) (entry a l))(ha:a.length=1):Y.call 33 a l=some r:=
 Ab (Y:=Y) rfl Try.func33 (ha▸AJI) A3z h
def Df(A7:List (List (Int×Int)))(AJ A8:List Int)(Ce Fy:Int)(s:St):Prop:=s.v 1=D.box [D.sl 100 (AQ (fun x=>D.sl 102 (Ai .i64 .i64 x)) A7),D.sl 3 (AQ (D.int .i64) AJ),D.sl 3 (AQ (D.int .i64) A8)]∧s.v 3=D.int .i64 Ce∧s.v 37=D.sl 100 (AQ (fun x=>D.sl 102 (Ai .i64 .i64 x)) A7)∧s.v 38=D.int .i64 (A7.length:Int)∧s.v 39=D.int .i64 Ce∧s.v 47=D.sl 102 (Ai .i64 .i64 (A7.getD Ce.toNat default))∧s.v 48=D.int .i64 ((A7.getD Ce.toNat default).length:Int)∧s.v 49=D.int .i64 Fy
def EF(A7:List (List (Int×Int)))(AJ A8:List Int)(Ce:Int)(r:Unit⊕Unit)(ex:Ex)(s:St):Prop:=match r with
 | .inl q=>ex= .ret∧s.v 2=D.bool false
 | .inr q=>ex= .exit 2∧s.v 1=D.box [D.sl 100 (AQ (fun x=>D.sl 102 (Ai .i64 .i64 x)) A7),D.sl 3 (AQ (D.int .i64) AJ),D.sl 3 (AQ (D.int .i64) A8)]∧s.v 37=D.sl 100 (AQ (fun x=>D.sl 102 (Ai .i64 .i64 x)) A7)∧s.v 38=D.int .i64 (A7.length:Int)∧s.v 39=D.int .i64 Ce
theorem Us(A7:List (List (Int×Int)))(AJ A8:List Int)(Ce:Int){v:Int}{s:St}{r:Unit⊕Unit}(h:KM A7 AJ A8 Ce v=some r)(hM:Df A7 AJ A8 Ce v s):Bo Y.env qQ (EF A7 AJ A8 Ce r) s:=by
 unfold KM at h;refine BR (c:=Yd) (fun v=>Gr A7 AJ A8 Ce v) (fun v s=>Df A7 AJ A8 Ce v s) (EF A7 AJ A8 Ce) ?_ h hM;clear h hM s v r;intro Fy s o hM h;unfold Gr at h;unfold Df at hM;obtain⟨m0,m1,m2,m3,m4,m5,m6,m7⟩:=hM;unfold Yd;by_cases e13:Fy<((A7.getD Ce.toNat default).length:Int)
 ·rw [if_pos e13]at h;obtain⟨e14,h⟩:=BO h;have c15:=MZ (BA (A7.getD Ce.toNat default) Fy.toNat) (0:Int) (IntKind.i64.wrap ((A7.length:Int)-1));by_cases e16:(JC (BA (A7.getD Ce.toNat default) Fy.toNat) (0:Int) (IntKind.i64.wrap ((A7.length:Int)-1)))=true
  ·rw [if_pos e16]at h;obtain⟨e17,h⟩:=BO h;have c18:=MZ (Bc (A7.getD Ce.toNat default) Fy.toNat) (0:Int) (IntKind.i64.wrap (((A7.getD ((BA (A7.getD Ce.toNat default) Fy.toNat).toNat) default).length:Int)-1));by_cases e19:(JC (Bc (A7.getD Ce.toNat default) Fy.toNat) (0:Int) (IntKind.i64.wrap (((A7.getD ((BA (A7.getD Ce.toNat default) Fy.toNat).toNat) default).length:Int)-1)))=true
   ·rw [if_pos e19]at h;obtain⟨e20,h⟩:=BO h;by_cases e21:(((BA (A7.getD ((BA (A7.getD Ce.toNat default) Fy.toNat).toNat) default) ((Bc (A7.getD Ce.toNat default) Fy.toNat).toNat))==Ce)&&((Bc (A7.getD ((BA (A7.getD Ce.toNat default) Fy.toNat).toNat) default) ((Bc (A7.getD Ce.toNat default) Fy.toNat).toNat))==Fy))=true
    ·rw [if_pos e21]at h;cases h;simp (maxDischargeDepth:=9) only [↓AP,AC,Ae,BV,AL,AR,↓reduceIte,Nat.reduceEqDiff,Nat.reduceLT,Nat.reduceLeDiff,Nat.reduceAdd,Nat.reduceBEq,m0,m1,m2,m3,m4,m5,m6,m7,e13,e14.1,e14.2,c15,e16,e17.1,e17.2,c18,e19,e20.1,e20.2,e21,Df,G9]
    ·rw [if_neg e21]at h;have e21f:(((BA (A7.getD ((BA (A7.getD Ce.toNat default) Fy.toNat).toNat) default) ((Bc (A7.getD Ce.toNat default) Fy.toNat).toNat))==Ce)&&((Bc (A7.getD ((BA (A7.getD Ce.toNat default) Fy.toNat).toNat) default) ((Bc (A7.getD Ce.toNat default) Fy.toNat).toNat))==Fy))=false:=Bool.eq_false_iff.mpr e21;cases h;simp (maxDischargeDepth:=9) only [↓AP,AC,Ae,BV,AL,AR,↓reduceIte,Nat.reduceEqDiff,Nat.reduceLT,Nat.reduceLeDiff,Nat.reduceAdd,Nat.reduceBEq,m0,m1,m5,m6,m7,e13,e14.1,e14.2,c15,e16,e17.1,e17.2,c18,e19,e20.1,e20.2,e21f,Df,EF,MX]
   ·rw [if_neg e19]at h;have e19f:(JC (Bc (A7.getD Ce.toNat default) Fy.toNat) (0:Int) (IntKind.i64.wrap (((A7.getD ((BA (A7.getD Ce.toNat default) Fy.toNat).toNat) default).length:Int)-1)))=false:=Bool.eq_false_iff.mpr e19;cases h;simp (maxDischargeDepth:=9) only [↓AP,AC,Ae,BV,AL,AR,↓reduceIte,Nat.reduceEqDiff,Nat.reduceLT,Nat.reduceAdd,Nat.reduceBEq,m0,m1,m5,m6,m7,e13,e14.1,e14.2,c15,e16,e17.1,e17.2,c18,e19f,Df,EF,MX]
  ·rw [if_neg e16]at h;have e16f:(JC (BA (A7.getD Ce.toNat default) Fy.toNat) (0:Int) (IntKind.i64.wrap ((A7.length:Int)-1)))=false:=Bool.eq_false_iff.mpr e16;cases h;simp (maxDischargeDepth:=9) only [↓AP,AC,Ae,BV,AL,AR,↓reduceIte,Nat.reduceEqDiff,Nat.reduceLT,Nat.reduceAdd,Nat.reduceBEq,m0,m1,m5,m6,m7,e13,e14.1,e14.2,c15,e16f,Df,EF,MX]
 ·rw [if_neg e13]at h;cases h;simp (maxDischargeDepth:=9) only [↓AP,AC,AR,↓reduceIte,Nat.reduceEqDiff,Nat.reduceLT,m0,m2,m3,m4,m6,m7,e13,Df,EF,JF]
def EG(A7:List (List (Int×Int)))(AJ A8:List Int)(Ce:Int)(s:St):Prop:=s.v 1=D.box [D.sl 100 (AQ (fun x=>D.sl 102 (Ai .i64 .i64 x)) A7),D.sl 3 (AQ (D.int .i64) AJ),D.sl 3 (AQ (D.int .i64) A8)]∧s.v 37=D.sl 100 (AQ (fun x=>D.sl 102 (Ai .i64 .i64 x)) A7)∧s.v 38=D.int .i64 (A7.length:Int)∧s.v 39=D.int .i64 Ce
def FH(A7:List (List (Int×Int)))(AJ A8:List Int)(r:Unit⊕Unit)(ex:Ex)(s:St):Prop:=match r with
 | .inl q=>ex= .ret∧s.v 2=D.bool false
 | .inr q=>ex= .exit 0
theorem Ut(A7:List (List (Int×Int)))(AJ A8:List Int){v:Int}{s:St}{r:Unit⊕Unit}(h:KN A7 AJ A8 v=some r)(hM:EG A7 AJ A8 v s):Bo Y.env qR (FH A7 AJ A8 r) s:=by
 unfold KN at h;refine BR (c:=Ye) (fun v=>Gs A7 AJ A8 v) (fun v s=>EG A7 AJ A8 v s) (FH A7 AJ A8) ?_ h hM;clear h hM s v r;intro Ce s o hM h;unfold Gs at h;unfold EG at hM;obtain⟨m0,m1,m2,m3⟩:=hM;unfold Ye;by_cases e10:Ce<(A7.length:Int)
 ·rw [if_pos e10]at h;obtain⟨e11,h⟩:=BO h;by_cases e12:6<((A7.getD Ce.toNat default).length:Int)
  ·rw [if_pos e12]at h;cases h;simp (maxDischargeDepth:=9) only [↓AP,AC,Ae,BV,AL,AR,↓reduceIte,Nat.reduceEqDiff,Nat.reduceLT,m1,m2,m3,e10,e11.1,e11.2,e12,EG,FH,MX]
  ·rw [if_neg e12]at h;obtain⟨Ih,hl14,h⟩:=Aw h;try dsimp only at h
   simp (maxDischargeDepth:=9) only [↓AP,AC,Ae,BV,AL,AR,↓reduceIte,Nat.reduceEqDiff,Nat.reduceLT,m1,m2,m3,e10,e11.1,e11.2,e12];refine BC (Us A7 AJ A8 Ce hl14 ?_) ?_
   ·simp (maxDischargeDepth:=9) only [AC,↓reduceIte,Nat.reduceEqDiff,m0,m1,m2,m3,Df]
   ·intro ex14 s14 hX14;rcases Ih with q14_ | q14_
    ·unfold EF at hX14;dsimp only at hX14 h;obtain⟨rfl,n14_0⟩:=hX14;cases h;simp (maxDischargeDepth:=9) only [↓AP,AC,n14_0,EG,FH,MX]
    ·unfold EF at hX14;dsimp only at hX14 h;obtain⟨rfl,n14_0,n14_1,n14_2,n14_3⟩:=hX14;cases h;simp (maxDischargeDepth:=9) only [↓AP,AC,AR,↓reduceIte,Nat.reduceEqDiff,Nat.reduceLT,n14_0,n14_1,n14_2,n14_3,EG,G9]
 ·rw [if_neg e10]at h;cases h;simp (maxDischargeDepth:=9) only [↓AP,AC,AR,↓reduceIte,Nat.reduceLT,m2,m3,e10,EG,FH,JF]
theorem WJ(A7:List (List (Int×Int)))(AJ A8:List Int){r:Bool}(h:QT A7 AJ A8=some r):Y.call 33 [D.agg [D.sl 100 (AQ (fun x=>D.sl 102 (Ai .i64 .i64 x)) A7),D.sl 3 (AQ (D.int .i64) AJ),D.sl 3 (AQ (D.int .i64) A8)]] []=some (D.bool r,[]):=by
 refine qU ?_ rfl;unfold k33;unfold QT at h;have c1:=MZ (A7.length:Int) (1:Int) (40:Int);by_cases e2:(JC (A7.length:Int) (1:Int) (40:Int))=true
 ·rw [if_pos e2]at h;obtain⟨e3,h⟩:=BO h;have c4:=gZ AJ (A7.length:Int) e3;by_cases e5:(PS AJ (A7.length:Int))=true
  ·rw [if_pos e5]at h;by_cases e6:(A8.length:Int)=(A7.length:Int)
   ·rw [if_pos e6]at h;obtain⟨e7,h⟩:=BO h;have c8:=Ua A8 (0:Int) (9:Int) e7;by_cases e9:(II A8 (0:Int) (9:Int))=true
    ·rw [if_pos e9]at h;obtain⟨CJ,hl11,h⟩:=Aw h;try dsimp only at h
     simp (maxDischargeDepth:=9) only [↓AP,AC,Ae,BV,AL,AR,↓reduceIte,Nat.reduceEqDiff,Nat.reduceLT,Nat.reduceAdd,c1,e2,c4,e5,decide_eq_true e6,c8,e9];refine BC (Ut A7 AJ A8 hl11 ?_) ?_
     ·simp (maxDischargeDepth:=9) only [AC,↓reduceIte,Nat.reduceEqDiff,EG]
     ·intro ex11 s11 hX11;rcases CJ with q11_ | q11_
      ·unfold FH at hX11;dsimp only at hX11 h;obtain⟨rfl,n11_0⟩:=hX11;cases h;simp (maxDischargeDepth:=9) only [↓AP,AC,AL,↓reduceIte,n11_0]
      ·unfold FH at hX11;dsimp only at hX11 h
       obtain rfl:=hX11
       cases h;simp (maxDischargeDepth:=9) only [↓AP,AC,AL,AR,↓reduceIte,Nat.reduceEqDiff,Nat.reduceLT]
    ·rw [if_neg e9]at h;have e9f:(II A8 (0:Int) (9:Int))=false:=Bool.eq_false_iff.mpr e9;cases h;simp (maxDischargeDepth:=9) only [↓AP,AC,Ae,BV,AL,AR,↓reduceIte,Nat.reduceEqDiff,Nat.reduceLT,Nat.reduceAdd,c1,e2,c4,e5,decide_eq_true e6,c8,e9f]
   ·rw [if_neg e6]at h;cases h;simp (maxDischargeDepth:=9) only [↓AP,AC,Ae,BV,AL,AR,↓reduceIte,Nat.reduceEqDiff,Nat.reduceLT,Nat.reduceAdd,c1,e2,c4,e5,e6]
  ·rw [if_neg e5]at h;have e5f:(PS AJ (A7.length:Int))=false:=Bool.eq_false_iff.mpr e5;cases h;simp (maxDischargeDepth:=9) only [↓AP,AC,Ae,BV,AL,AR,↓reduceIte,Nat.reduceEqDiff,Nat.reduceLT,Nat.reduceAdd,c1,e2,c4,e5f]
 ·rw [if_neg e2]at h;have e2f:(JC (A7.length:Int) (1:Int) (40:Int))=false:=Bool.eq_false_iff.mpr e2;cases h;simp (maxDischargeDepth:=9) only [↓AP,AC,Ae,BV,AL,AR,↓reduceIte,Nat.reduceEqDiff,Nat.reduceLT,Nat.reduceAdd,c1,e2f]
def QU(es:List (List (Int×Int)))(v i:Nat):Bool:=
 JC (BA (es.getD v default) i) 0 ((es.length:Int)-1)&&
 (JC (Bc (es.getD v default) i) 0 (((es.getD (BA (es.getD v default) i).toNat default).length:Int)-1)&&
 ((BA (es.getD (BA (es.getD v default) i).toNat default) (Bc (es.getD v default) i).toNat==(v:Int))&&(Bc (es.getD (BA (es.getD v default) i).toNat default) (Bc (es.getD v default) i).toNat==(i:Int))))
theorem Md(es:List (List (Int×Int)))(v i:Nat):QU es v i=(JC (BA (es.getD v default) i) 0 ((es.length:Int)-1)&&
 (JC (Bc (es.getD v default) i) 0 (((es.getD (BA (es.getD v default) i).toNat default).length:Int)-1)&&
 ((BA (es.getD (BA (es.getD v default) i).toNat default) (Bc (es.getD v default) i).toNat==(v:Int))&&(Bc (es.getD (BA (es.getD v default) i).toNat default) (Bc (es.getD v default) i).toNat==(i:Int))))):=rfl
def P5(es:List (List (Int×Int)))(v:Nat):Bool:=decide ((es.getD v default).length≤6)&&(List.range (es.getD v default).length).all (QU es v)
theorem Jm(es:List (List (Int×Int)))(v:Nat):P5 es v=(decide ((es.getD v default).length≤6)&&(List.range (es.getD v default).length).all (QU es v)):=rfl
def Bj(es:List (List (Int×Int)))(ids ins:List Int):Bool:=
 JC es.length 1 40&&(PS ids es.length&&(decide ((ins.length:Int)=es.length)&&(II ins 0 9&&(List.range es.length).all (P5 es))))
theorem qV(es:List (List (Int×Int)))(ids ins:List Int)(h:BU es)(v:Nat):IJ es ids ins (v:Int) 0=some (if(List.range (es.getD v default).length).all (QU es v)=true then .inr ()else .inl ()):=by
 have h1:=h.1;have h2:=h.getD v;unfold IJ;refine JN (fun x=>EJ es ids ins (v:Int) x) (fun i=>(i:Int)) (es.getD v default).length (QU es v) (.inl ()) (.inr ()) ?_ ?_
 ·intro i hi;have h3:=h.getD (BA (es.getD v default) i).toNat;simp only [EJ,Hu,DD,Int.toNat_natCast];rw [Md,if_pos (BZ hi),BM (by omega),Option.bind_some,Ir _ (by omega),Ir _ (by omega),Je i (by omega)]
  cases r1:JC (BA (es.getD v default) i) 0 ((es.length:Int)-1)with
  | false=>simp
  | true=>
   have r1':=FK.1 r1;rw [if_pos rfl,BM (by omega),Option.bind_some]
   cases r2:JC (Bc (es.getD v default) i) 0 (((es.getD (BA (es.getD v default) i).toNat default).length:Int)-1)with
   | false=>simp
   | true=>
    have r2':=FK.1 r2;rw [if_pos rfl,BM (by omega),BM (by omega),Bool.true_and,Bool.true_and]
 ·simp only [EJ,Int.toNat_natCast];rw [if_neg (Aq _)]
theorem qW(es:List (List (Int×Int)))(ids ins:List Int)(h:BU es)(v:Nat):KM es ids ins (v:Int) 0=some (if(List.range (es.getD v default).length).all (QU es v)=true then .inr ()else .inl ()):=by
 have h1:=h.1;have h2:=h.getD v;unfold KM;refine JN (fun x=>Gr es ids ins (v:Int) x) (fun i=>(i:Int)) (es.getD v default).length (QU es v) (.inl ()) (.inr ()) ?_ ?_
 ·intro i hi;have h3:=h.getD (BA (es.getD v default) i).toNat;simp only [Gr,Int.toNat_natCast];rw [Md,if_pos (BZ hi),BM (by omega),Ir _ (by omega),Ir _ (by omega),Je i (by omega)]
  cases r1:JC (BA (es.getD v default) i) 0 ((es.length:Int)-1)with
  | false=>simp
  | true=>
   have r1':=FK.1 r1;rw [if_pos rfl,BM (by omega)]
   cases r2:JC (Bc (es.getD v default) i) 0 (((es.getD (BA (es.getD v default) i).toNat default).length:Int)-1)with
   | false=>simp
   | true=>
    have r2':=FK.1 r2;rw [if_pos rfl,BM (by omega),Bool.true_and,Bool.true_and]
 ·simp only [Gr,Int.toNat_natCast];rw [if_neg (Aq _)]
theorem qX(es:List (List (Int×Int)))(ids ins:List Int)(h:BU es):IK es ids ins 0=some (if(List.range es.length).all (P5 es)=true then .inr ()else .inl ()):=by
 have h1:=h.1;unfold IK;refine JN (fun x=>EK es ids ins x) (fun i=>(i:Int)) es.length (P5 es) (.inl ()) (.inr ()) ?_ ?_
 ·intro v hv;simp only [EK,Int.toNat_natCast];rw [Jm,if_pos (BZ hv),BM (by omega),qV es ids ins h v,Option.bind_some,Je v (by omega)]
  by_cases h6:(es.getD v default).length≤6
  ·rw [if_neg (by omega),decide_eq_true h6,Bool.true_and]
   cases (List.range (es.getD v default).length).all (QU es v)<;>rfl
  ·rw [if_pos (by omega),decide_eq_false h6];rfl
 ·simp only [EK];rw [if_neg (Aq _)]
theorem qY(es:List (List (Int×Int)))(ids ins:List Int)(h:BU es):KN es ids ins 0=some (if(List.range es.length).all (P5 es)=true then .inr ()else .inl ()):=by
 have h1:=h.1;unfold KN;refine JN (fun x=>Gs es ids ins x) (fun i=>(i:Int)) es.length (P5 es) (.inl ()) (.inr ()) ?_ ?_
 ·intro v hv;simp only [Gs,Int.toNat_natCast];rw [Jm,if_pos (BZ hv),BM (by omega),qW es ids ins h v,Option.bind_some,Je v (by omega)]
  by_cases h6:(es.getD v default).length≤6
  ·rw [if_neg (by omega),decide_eq_true h6,Bool.true_and]
   cases (List.range (es.getD v default).length).all (QU es v)<;>rfl
  ·rw [if_pos (by omega),decide_eq_false h6];rfl
 ·simp only [Gs];rw [if_neg (Aq _)]
theorem Uu(es:List (List (Int×Int)))(ids ins:List Int)(h:BU es)(h2:ids.length<1099511627776)(h3:ins.length<1099511627776):M5 es ids ins=some (Bj es ids ins):=by
 unfold M5 Bj;rw [BM h2,qX es ids ins h];unfold NH;rw [BM h3]
 cases JC es.length 1 40 with
 | false=>rfl
 | true=>
  cases PS ids es.length with
  | false=>rfl
  | true=>
   by_cases hl:(ins.length:Int)=es.length
   ·rw [if_pos hl,decide_eq_true hl]
    cases II ins 0 9 with
    | false=>rfl
    | true=>cases (List.range es.length).all (P5 es)<;>rfl
   ·rw [if_neg hl,decide_eq_false hl];rfl
theorem bU(es:List (List (Int×Int)))(ids ins:List Int)(h:BU es)(h2:ids.length<1099511627776)(h3:ins.length<1099511627776):QT es ids ins=some (Bj es ids ins):=by
 unfold QT Bj;rw [BM h2,BM h3,qY es ids ins h]
 cases JC es.length 1 40 with
 | false=>rfl
 | true=>
  cases PS ids es.length with
  | false=>rfl
  | true=>
   by_cases hl:(ins.length:Int)=es.length
   ·rw [if_pos hl,decide_eq_true hl]
    cases II ins 0 9 with
    | false=>rfl
    | true=>cases (List.range es.length).all (P5 es)<;>rfl
   ·rw [if_neg hl,decide_eq_false hl];rfl
theorem JU(A7:List (List (Int×Int)))(AJ A8:List Int)(h0:BU A7)(h1:AJ.length<1099511627776)(h2:A8.length<1099511627776):Y.call 37 [D.agg [D.sl 100 (AQ (fun x=>D.sl 102 (Ai .i64 .i64 x)) A7),D.sl 3 (AQ (D.int .i64) AJ),D.sl 3 (AQ (D.int .i64) A8)]] []=some (D.bool (Bj A7 AJ A8),[]):=RI A7 AJ A8 (Uu A7 AJ A8 h0 h1 h2)
theorem bV(A7:List (List (Int×Int)))(AJ A8:List Int)(h0:BU A7)(h1:AJ.length<1099511627776)(h2:A8.length<1099511627776):Y.call 33 [D.agg [D.sl 100 (AQ (fun x=>D.sl 102 (Ai .i64 .i64 x)) A7),D.sl 3 (AQ (D.int .i64) AJ),D.sl 3 (AQ (D.int .i64) A8)]] []=some (D.bool (Bj A7 AJ A8),[]):=WJ A7 AJ A8 (bU A7 AJ A8 h0 h1 h2)
end Go.Proofs.Ytipfckompmhljaa
