/- Copies, comparisons, sizes and marks of numbers in lists, as plain functions. Conditions: the lists are short. -/
import Derived.Test.YtipfckompmhljaaL6
import Derived.Test.YtipfckompmhljaaDt
namespace Go.Proofs.Ytipfckompmhljaa
open Go Dv
set_option linter.unusedSimpArgs false
set_option linter.unusedVariables false
set_option maxRecDepth 100000
set_option maxHeartbeats 4000000
def Rz(l:List (List Int)):Prop:=l.length<1099511627776∧ ∀x∈l,x.length<1099511627776
theorem Rz.nil:Rz []:=⟨by decide,fun _ h=>by cases h⟩
theorem Rz.at{l:List (List Int)}(h:Rz l)(i:Nat)(hi:i<l.length):l[i].length<1099511627776:=h.2 _ (List.getElem_mem hi)
instance (l:List (List Int)):Decidable (Rz l):=by unfold Rz;infer_instance
theorem Y4{α:Type}[Inhabited α](xs:List α)(i:Nat)(h:i<xs.length)(z:α):(xs.take i++List.replicate (xs.length-i) z).set i xs[i]=xs.take (i+1)++List.replicate (xs.length-(i+1)) z:=by
 have e:xs.length-i=(xs.length-(i+1))+1:=by omega
 rw [e,List.replicate_succ,List.set_append_right _ _ (by simp;omega),List.take_succ_eq_append_getElem h]
 have:i-(xs.take i).length=0:=by simp;omega
 rw [this,List.set_cons_zero,List.append_assoc];rfl
noncomputable def Gf(a out:List Int)(i:Int):Option (((List Int)×Int)⊕((List Int))):= if i<(a.length:Int)then ck (0≤i∧i.toNat<a.length)<| ck (0≤i∧i.toNat<out.length)<| some (Sum.inl ((out.set i.toNat (a.getD i.toNat default)),IntKind.i64.wrap (i+1))) else some (Sum.inr out)
noncomputable def Lp(a:List Int)(v:(List Int)×Int):Option ((List Int)):=Ht (fun v=>Gf a v.1 v.2) v
noncomputable def QI(a:List Int):Option ((List Int)):= ck (0≤(a.length:Int)∧(a.length:Int)<1099511627776)<| (Lp a ((List.replicate a.length 0),0)).bind fun E8=> some E8
def Y5:SC:= .seq (.seq (.ops [⟨some 8,.move (.tmp 4),3,none⟩,⟨some 9,.move (.tmp 0),23,none⟩,⟨some 10,.call ⟨(.builtin .len), #[(.tmp 9)], #[23]⟩,3,none⟩,⟨some 11,.binOp .lss 3 (.tmp 8) (.tmp 10) 3,4,none⟩]) (.cond (.tmp 11) .skip (.exit 0))) (.seq (.block 1 (.ops [⟨some 14,.move (.tmp 3),23,none⟩,⟨some 15,.move (.tmp 4),3,none⟩,⟨some 16,.move (.tmp 0),23,none⟩,⟨some 17,.move (.tmp 4),3,none⟩,⟨some 18,.indexAddr 23 (.tmp 16) (.tmp 17),0,none⟩,⟨some 19,.load 3 (.tmp 18),3,none⟩,⟨some 20,.indexAddr 23 (.tmp 14) (.tmp 15),0,none⟩,⟨none,.store 3 (.tmp 20) (.tmp 19),0,none⟩])) (.ops [⟨some 12,.move (.tmp 4),3,none⟩,⟨some 13,.binOp .add 3 (.tmp 12) (.const (.int .i64 1)) 3,3,none⟩,⟨some 4,.assign (.tmp 13),3,none⟩]))
def pX:SC:= .loop Y5
def k11:SC:= .seq (.ops [⟨some 2,.assign (.const (.slice none 0 0)),23,none⟩]) (.seq (.ops [⟨some 5,.move (.tmp 0),23,none⟩,⟨some 6,.call ⟨(.builtin .len), #[(.tmp 5)], #[23]⟩,3,none⟩,⟨some 7,.makeSlice 23 (.tmp 6) (.tmp 6),23,none⟩,⟨some 3,.assign (.tmp 7),23,none⟩]) (.seq (.seq (.ops [⟨some 4,.assign (.const (.int .i64 0)),3,none⟩]) (.block 0 pX)) (.seq (.ops [⟨some 21,.move (.tmp 3),23,none⟩,⟨some 2,.assign (.tmp 21),23,none⟩]) .ret)))
theorem A3Q:Try.f11.body.map (Be lends)=some k11:=by kernel_rfl
theorem AIJ:Bu Try.f11 1=true:=by kernel_rfl
theorem Sa{a l:List D}{r:D×List D}(h:Bo Y.env k11 (fin Ad l.length [ResultVar.tmp 2] r) (entry a l))(ha:a.length=1):Y.call 11 a l=some r:=
 Ab (Y:=Y) rfl Try.func11 (ha▸AIJ) A3Q h
def Gg(a out:List Int)(i:Int)(s:St):Prop:=s.v 0=D.sl 3 (AQ (D.int .i64) a)∧s.v 3=D.own 3 (AQ (D.int .i64) out)∧s.v 4=D.int .i64 i
def Jp(a:List Int)(r:(List Int))(ex:Ex)(s:St):Prop:=ex= .exit 0∧s.v 3=D.own 3 (AQ (D.int .i64) r)
theorem UY(a:List Int){v:(List Int)×Int}{s:St}{r:(List Int)}(h:Lp a v=some r)(hM:Gg a v.1 v.2 s):Bo Y.env pX (Jp a r) s:=by
 unfold Lp at h;refine BR (c:=Y5) (fun v=>Gf a v.1 v.2) (fun v s=>Gg a v.1 v.2 s) (Jp a) ?_ h hM;clear h hM s v r;intro v s o hM h;obtain⟨out,i⟩:=v;dsimp only at h hM;unfold Gf at h;unfold Gg at hM;obtain⟨m0,m1,m2⟩:=hM;unfold Y5;by_cases e2:i<(a.length:Int)
 ·rw [if_pos e2]at h;obtain⟨e3,h⟩:=BO h;obtain⟨e4,h⟩:=BO h;cases h;simp (maxDischargeDepth:=9) only [↓AP,AC,Ae,AL,AR,↓reduceIte,Nat.reduceEqDiff,Nat.reduceLT,m0,m1,m2,e2,e3.1,e3.2,e4.2,Gg,G9]
 ·rw [if_neg e2]at h;cases h;simp (maxDischargeDepth:=9) only [↓AP,AC,Ae,AR,↓reduceIte,Nat.reduceEqDiff,Nat.reduceLT,m0,m1,m2,e2,Gg,Jp,JF]
theorem Vw(a:List Int){r:(List Int)}(h:QI a=some r):Y.call 11 [D.sl 3 (AQ (D.int .i64) a)] []=some (D.own 3 (AQ (D.int .i64) r),[]):=by
 refine Sa ?_ rfl;unfold k11;unfold QI at h;obtain⟨e1,h⟩:=BO h;obtain⟨E8,hl3,h⟩:=Aw h;try dsimp only at h
 simp (maxDischargeDepth:=9) only [↓AP,AC,Ae,AL,AR,↓reduceIte,Nat.reduceEqDiff,Nat.reduceLT,Nat.reduceLeDiff,e1.1,e1.2];refine BC (UY a hl3 ?_) ?_
 ·simp (maxDischargeDepth:=9) only [AC,AL,↓reduceIte,Nat.reduceEqDiff,Nat.reduceLT,Gg]
 ·intro ex3 s3 hX3;unfold Jp at hX3;obtain⟨rfl,n3_0⟩:=hX3;cases h;simp (maxDischargeDepth:=9) only [↓AP,AC,Ae,AL,↓reduceIte,Nat.reduceEqDiff,Nat.reduceLT,n3_0]
theorem bI(a:List Int)(h:a.length<1099511627776):QI a=some a:=by
 have key:=Bb (fun v=>Gf a v.1 v.2) (fun i=>(a.take i++List.replicate (a.length-i) 0,(i:Int))) a.length a ?_ ?_
 ·unfold QI Lp;rw [BM (by omega)]
  simp only [List.take_zero,List.nil_append,Nat.sub_zero,Int.natCast_zero]at key;rw [key];rfl
 ·intro i hi;simp only [Gf];rw [if_pos (BZ hi),BM (FV hi),BM (FV (by simp;omega)),JO _ _ hi,Int.toNat_natCast,Y4 a i hi 0,Je i (by omega)]
 ·simp only [Gf];rw [if_neg (Aq _)];simp
theorem S9(a:List Int)(h0:a.length<1099511627776):Y.call 11 [D.sl 3 (AQ (D.int .i64) a)] []=some (D.own 3 (AQ (D.int .i64) a),[]):=Vw a (bI a h0)
noncomputable def Gh(a b:List Int)(i:Int):Option ((Int)⊕(Unit⊕Unit)):= if i<(a.length:Int)then ck (0≤i∧i.toNat<a.length)<| ck (0≤i∧i.toNat<b.length)<| if(a.getD i.toNat default)=(b.getD i.toNat default)then some (Sum.inl (IntKind.i64.wrap (i+1))) else some (Sum.inr (Sum.inl ())) else some (Sum.inr (Sum.inr ()))
noncomputable def Lr(a b:List Int)(v:Int):Option (Unit⊕Unit):=Ht (fun v=>Gh a b v) v
noncomputable def QJ(a b:List Int):Option (Bool):=
 if(a.length:Int)=(b.length:Int)then
  (Lr a b 0).bind fun E8=>
  match E8 with
  | .inl q3_=>
   some false
  | .inr q3_=>
   some true
 else
  some false
def Y6:SC:= .seq (.seq (.ops [⟨some 11,.move (.tmp 5),3,none⟩,⟨some 12,.move (.tmp 0),23,none⟩,⟨some 13,.call ⟨(.builtin .len), #[(.tmp 12)], #[23]⟩,3,none⟩,⟨some 14,.binOp .lss 3 (.tmp 11) (.tmp 13) 3,4,none⟩]) (.cond (.tmp 14) .skip (.exit 0))) (.seq (.block 1 (.seq (.draws [(⟨[17,0,0],[17,18,19,20,21,22,23,24,25],[17]⟩,⟨some 17,.move (.tmp 0),23,none⟩),(⟨[18,5,5],[17,18,19,20,21,22,23,24,25],[18]⟩,⟨some 18,.move (.tmp 5),3,none⟩),(⟨[19,17,18,0,5],[17,18,19,20,21,22,23,24,25],[19]⟩,⟨some 19,.indexAddr 23 (.tmp 17) (.tmp 18),0,none⟩),(⟨[20,19,0],[17,18,19,20,21,22,23,24,25],[20]⟩,⟨some 20,.load 3 (.tmp 19),3,none⟩),(⟨[21,1,1],[17,18,19,20,21,22,23,24,25],[21]⟩,⟨some 21,.move (.tmp 1),23,none⟩),(⟨[22,5,5],[17,18,19,20,21,22,23,24,25],[22]⟩,⟨some 22,.move (.tmp 5),3,none⟩),(⟨[23,21,22,1,5],[17,18,19,20,21,22,23,24,25],[23]⟩,⟨some 23,.indexAddr 23 (.tmp 21) (.tmp 22),0,none⟩),(⟨[24,23,1],[17,18,19,20,21,22,23,24,25],[24]⟩,⟨some 24,.load 3 (.tmp 23),3,none⟩),(⟨[25,20,24,0,1],[17,18,19,20,21,22,23,24,25],[25]⟩,⟨some 25,.binOp .neq 3 (.tmp 20) (.tmp 24) 3,4,none⟩)]) (.cond (.tmp 25) (.seq (.ops [⟨some 4,.assign (.const (.bool false)),4,none⟩]) .ret) .skip))) (.ops [
 ⟨some 15,.move (.tmp 5),3,none⟩,⟨some 16,.binOp .add 3 (.tmp 15) (.const (.int .i64 1)) 3,3,none⟩,⟨some 5,.assign (.tmp 16),3,none⟩]))
def pY:SC:= .loop Y6
def k14:SC:= .seq (.ops [⟨some 4,.assign (.const (.bool false)),4,none⟩]) (.seq (.seq (.ops [⟨some 6,.move (.tmp 0),23,none⟩,⟨some 7,.call ⟨(.builtin .len), #[(.tmp 6)], #[23]⟩,3,none⟩,⟨some 8,.move (.tmp 1),23,none⟩,⟨some 9,.call ⟨(.builtin .len), #[(.tmp 8)], #[23]⟩,3,none⟩,⟨some 10,.binOp .neq 3 (.tmp 7) (.tmp 9) 3,4,none⟩]) (.cond (.tmp 10) (.seq (.ops [⟨some 4,.assign (.const (.bool false)),4,none⟩]) .ret) .skip)) (.seq (.seq (.ops [⟨some 5,.assign (.const (.int .i64 0)),3,none⟩]) (.block 0 pY)) (.seq (.ops [⟨some 4,.assign (.const (.bool true)),4,none⟩]) .ret)))
theorem A3R:Try.f14.body.map (Be lends)=some k14:=by kernel_rfl
theorem AIL:Bu Try.f14 2=true:=by kernel_rfl
theorem c14{a l:List D}{r:D×List D}(h:Bo Y.env k14 (fin Ad l.length [ResultVar.tmp 4] r) (entry a l))(ha:a.length=2):Y.call 14 a l=some r:=
 Ab (Y:=Y) rfl Try.func14 (ha▸AIL) A3R h
def FD(a b:List Int)(i:Int)(s:St):Prop:=s.v 0=D.sl 3 (AQ (D.int .i64) a)∧s.v 1=D.sl 3 (AQ (D.int .i64) b)∧s.v 5=D.int .i64 i
def Gj(a b:List Int)(r:Unit⊕Unit)(ex:Ex)(s:St):Prop:=match r with
 | .inl q=>ex= .ret∧s.v 4=D.bool false
 | .inr q=>ex= .exit 0
theorem UZ(a b:List Int){v:Int}{s:St}{r:Unit⊕Unit}(h:Lr a b v=some r)(hM:FD a b v s):Bo Y.env pY (Gj a b r) s:=by
 unfold Lr at h;refine BR (c:=Y6) (fun v=>Gh a b v) (fun v s=>FD a b v s) (Gj a b) ?_ h hM;clear h hM s v r;intro i s o hM h;unfold Gh at h;unfold FD at hM;obtain⟨m0,m1,m2⟩:=hM;unfold Y6;by_cases e2:i<(a.length:Int)
 ·rw [if_pos e2]at h;obtain⟨e3,h⟩:=BO h;obtain⟨e4,h⟩:=BO h;by_cases e5:(a.getD i.toNat default)=(b.getD i.toNat default)
  ·rw [if_pos e5]at h;cases h;simp (maxDischargeDepth:=9) only [↓AP,AC,Ae,AL,AR,↓reduceIte,Nat.reduceEqDiff,Nat.reduceLT,m0,m1,m2,e2,e3.1,e3.2,e4.2,decide_eq_true e5,FD,G9]
  ·rw [if_neg e5]at h;cases h;simp (maxDischargeDepth:=9) only [↓AP,AC,Ae,AL,AR,↓reduceIte,Nat.reduceEqDiff,Nat.reduceLT,m0,m1,m2,e2,e3.1,e3.2,e4.2,e5,FD,Gj,MX]
 ·rw [if_neg e2]at h;cases h;simp (maxDischargeDepth:=9) only [↓AP,AC,Ae,AR,↓reduceIte,Nat.reduceEqDiff,Nat.reduceLT,m0,m2,e2,FD,Gj,JF]
theorem Vx(a b:List Int){r:Bool}(h:QJ a b=some r):Y.call 14 [D.sl 3 (AQ (D.int .i64) a),D.sl 3 (AQ (D.int .i64) b)] []=some (D.bool r,[]):=by
 refine c14 ?_ rfl;unfold k14;unfold QJ at h;by_cases e1:(a.length:Int)=(b.length:Int)
 ·rw [if_pos e1]at h;obtain⟨E8,hl3,h⟩:=Aw h;try dsimp only at h
  simp (maxDischargeDepth:=9) only [↓AP,AC,Ae,AL,AR,↓reduceIte,Nat.reduceEqDiff,Nat.reduceLT,decide_eq_true e1];refine BC (UZ a b hl3 ?_) ?_
  ·simp (maxDischargeDepth:=9) only [AC,AL,↓reduceIte,Nat.reduceEqDiff,Nat.reduceLT,FD]
  ·intro ex3 s3 hX3;rcases E8 with q3_ | q3_
   ·unfold Gj at hX3;dsimp only at hX3 h;obtain⟨rfl,n3_0⟩:=hX3;cases h;simp (maxDischargeDepth:=9) only [↓AP,AC,AL,↓reduceIte,n3_0]
   ·unfold Gj at hX3;dsimp only at hX3 h
    obtain rfl:=hX3
    cases h;simp (maxDischargeDepth:=9) only [↓AP,AC,AL,AR,↓reduceIte,Nat.reduceEqDiff,Nat.reduceLT]
 ·rw [if_neg e1]at h;cases h;simp (maxDischargeDepth:=9) only [↓AP,AC,Ae,AL,AR,↓reduceIte,Nat.reduceEqDiff,Nat.reduceLT,e1]
theorem bJ(a b:List Int)(ha:a.length<1099511627776):QJ a b=some (decide (a=b)):=by
 unfold QJ Lr;by_cases hl:a.length=b.length
 ·rw [if_pos (by omega)]
  have key:=JN (fun v=>Gh a b v) (fun i=>(i:Int)) a.length (fun i=>decide (a.getD i default=b.getD i default)) (.inl ()) (.inr ()) ?_ ?_
  ·simp only [Int.natCast_zero]at key;rw [key,UW a b hl];by_cases he:a=b<;>simp [he]
  ·intro i hi;simp only [Gh];rw [if_pos (BZ hi),BM (FV hi),BM (FV (by omega)),Int.toNat_natCast,Je i (by omega)]<;>simp only [decide_eq_true_eq]
  ·simp only [Gh];rw [if_neg (Aq _)]
 ·rw [if_neg (by omega)]
  have: ¬a=b:=fun e=>hl (by rw [e])
  simp [this]
theorem IE(a b:List Int)(h0:a.length<1099511627776):Y.call 14 [D.sl 3 (AQ (D.int .i64) a),D.sl 3 (AQ (D.int .i64) b)] []=some (D.bool (decide (a=b)),[]):=Vx a b (bJ a b h0)
def I4(left n:Int):Int:=if left-n<0 then-1 else left-n
theorem Kr(left n:Int):I4 left n= -1∨(I4 left n=left-n∧0≤left-n):=by unfold I4;split<;>omega
def CW(l:List (List Int)):Int:=(l.map fun xs=>(xs.length:Int)).sum
theorem il:CW []=0:=rfl
theorem OH(x:List Int)(l:List (List Int)):CW (x::l)=x.length+CW l:=rfl
theorem EP(l:List (List Int)):0≤CW l:=by
 induction l with
 | nil=>rw [il];omega
 | cons x l ih=>rw [OH];omega
theorem uq{l:List (List Int)}{x:List Int}(h:x∈l):(x.length:Int)≤CW l:=by
 induction l with
 | nil=>cases h
 | cons y l ih=>
  rw [OH];have:=EP l
  rcases List.mem_cons.1 h with rfl | h
  ·omega
  ·have:=ih h;omega
noncomputable def QK(a:List Int)(left:Int):Option (Int):= if(IntKind.i64.wrap (left-(a.length:Int)))<0 then some (-1) else some (IntKind.i64.wrap (left-(a.length:Int)))
def k32:SC:= .seq (.ops [⟨some 4,.assign (.const (.int .i64 0)),3,none⟩]) (.seq (.ops [⟨some 5,.move (.tmp 1),3,none⟩,⟨some 6,.move (.tmp 0),23,none⟩,⟨some 7,.call ⟨(.builtin .len), #[(.tmp 6)], #[23]⟩,3,none⟩,⟨some 8,.binOp .sub 3 (.tmp 5) (.tmp 7) 3,3,none⟩,⟨some 1,.assign (.tmp 8),3,none⟩]) (.seq (.seq (.ops [⟨some 9,.move (.tmp 1),3,none⟩,⟨some 10,.binOp .lss 3 (.tmp 9) (.const (.int .i64 0)) 3,4,none⟩]) (.cond (.tmp 10) (.seq (.ops [⟨some 4,.assign (.const (.int .i64 (-1))),3,none⟩]) .ret) .skip)) (.seq (.ops [⟨some 11,.move (.tmp 1),3,none⟩,⟨some 4,.assign (.tmp 11),3,none⟩]) .ret)))
theorem A3S:Try.f32.body.map (Be lends)=some k32:=by kernel_rfl
theorem AIN:Bu Try.f32 2=true:=by kernel_rfl
theorem c32{a l:List D}{r:D×List D}(h:Bo Y.env k32 (fin Ad l.length [ResultVar.tmp 4] r) (entry a l))(ha:a.length=2):Y.call 32 a l=some r:=
 Ab (Y:=Y) rfl Try.func32 (ha▸AIN) A3S h
theorem Vy(a:List Int)(left:Int){r:Int}(h:QK a left=some r):Y.call 32 [D.sl 3 (AQ (D.int .i64) a),D.int .i64 left] []=some (D.int .i64 r,[]):=by
 refine c32 ?_ rfl;unfold k32;unfold QK at h;by_cases e1:(IntKind.i64.wrap (left-(a.length:Int)))<0
 ·rw [if_pos e1]at h;cases h;simp (maxDischargeDepth:=9) only [↓AP,AC,Ae,AL,AR,↓reduceIte,Nat.reduceEqDiff,Nat.reduceLT,Int.reduceNeg,e1]
 ·rw [if_neg e1]at h;cases h;simp (maxDischargeDepth:=9) only [↓AP,AC,Ae,AL,AR,↓reduceIte,Nat.reduceEqDiff,Nat.reduceLT,Int.reduceNeg,e1]
theorem bK(a:List Int)(left:Int)(ha:a.length<9223372036854775808)(hl:0≤left∧left≤1048576):QK a left=some (I4 left a.length):=by
 unfold QK I4;rw [Ir _ (by omega)]
 split<;>rfl
theorem SA(a:List Int)(left:Int)(h0:a.length<9223372036854775808)(h1:0≤left∧left≤1048576):Y.call 32 [D.sl 3 (AQ (D.int .i64) a),D.int .i64 left] []=some (D.int .i64 (I4 left a.length),[]):=Vy a left (bK a left h0 h1)
def szL:Int→List (List Int)→Int
 | left,[]=>left
 | left,x::l=>if left-x.length<0 then-1 else szL (left-x.length) l
theorem A3T(l:List (List Int)): ∀(left:Int),0≤left→szL left l=I4 left (CW l):=by
 induction l with
 | nil=>intro left h;unfold szL I4;rw [il,if_neg (by omega)];omega
 | cons x l ih=>
  intro left h;have:=EP l
  unfold szL;by_cases hq:left-x.length<0
  ·rw [if_pos hq];unfold I4;rw [OH,if_pos (by omega)]
  ·rw [if_neg hq,ih _ (by omega)]
   unfold I4;rw [OH];by_cases hr:left-x.length-CW l<0
   ·rw [if_pos hr,if_pos (by omega)]
   ·rw [if_neg hr,if_neg (by omega)];omega
theorem Y7{α:Type}(a b:List α)(x:α):(a.length:Int)<((a++x::b).length:Int):=by rw [List.length_append,List.length_cons];omega
theorem Y8{α:Type}(a b:List α)(x:α):0≤(a.length:Int)∧(a.length:Int).toNat<(a++x::b).length:=by rw [List.length_append,List.length_cons];omega
theorem Y9{α:Type}(a:List α): ¬(a.length:Int)<((a++[]).length:Int):=by rw [List.append_nil];omega
def ACC(l:List (List Int)):Prop:=l.length<9223372036854775808∧ ∀x∈l,x.length<9223372036854775808
instance (l:List (List Int)):Decidable (ACC l):=by unfold ACC;infer_instance
def upto(k:Int)(n:Nat):List Int:=(List.range n).map fun(i:Nat)=>k+i
theorem LK(k:Int)(n:Nat):(upto k n).length=n:=by simp [upto]
theorem pg(xs:List Int)(k:Int)(i:Nat)(h:i<xs.length):(upto k i++xs.drop i).set i (k+i)=upto k (i+1)++xs.drop (i+1):=by
 rw [List.set_append_right _ _ (by simp [LK]),LK,Nat.sub_self,List.drop_eq_getElem_cons h,List.set_cons_zero]
 simp [upto,List.range_succ]
noncomputable def Ef(k k1 i:Int)(BP:List Int):Option ((Int×Int×(List Int))⊕(Int×(List Int))):= if i<(BP.length:Int)then ck (0≤i∧i.toNat<BP.length)<| some (Sum.inl (IntKind.i64.wrap (k1+1),IntKind.i64.wrap (i+1),(BP.set i.toNat k1))) else some (Sum.inr (k1,BP))
noncomputable def Jq(k:Int)(v:Int×Int×(List Int)):Option (Int×(List Int)):=Ht (fun v=>Ef k v.1 v.2.1 v.2.2) v
noncomputable def NC(a:List Int)(k:Int):Option (Int×(List Int)):= (Jq k (k,0,a)).bind fun DX=> some (DX.1,DX.2)
def YA:SC:= .seq (.seq (.ops [⟨some 6,.move (.tmp 5),3,none⟩,⟨some 7,.move (.tmp 0),23,none⟩,⟨some 8,.call ⟨(.builtin .len), #[(.tmp 7)], #[23]⟩,3,none⟩,⟨some 9,.binOp .lss 3 (.tmp 6) (.tmp 8) 3,4,none⟩]) (.cond (.tmp 9) .skip (.exit 0))) (.seq (.block 1 (.seq (.ops [⟨some 12,.move (.tmp 0),23,none⟩,⟨some 13,.move (.tmp 5),3,none⟩,⟨some 14,.move (.tmp 1),3,none⟩,⟨some 15,.indexAddr 23 (.tmp 12) (.tmp 13),0,none⟩,⟨none,.store 3 (.tmp 15) (.tmp 14),0,none⟩]) (.ops [⟨some 16,.move (.tmp 1),3,none⟩,⟨some 17,.binOp .add 3 (.tmp 16) (.const (.int .i64 1)) 3,3,none⟩,⟨some 1,.assign (.tmp 17),3,none⟩]))) (.ops [⟨some 10,.move (.tmp 5),3,none⟩,⟨some 11,.binOp .add 3 (.tmp 10) (.const (.int .i64 1)) 3,3,none⟩,⟨some 5,.assign (.tmp 11),3,none⟩]))
def pq:SC:= .loop YA
def k18:SC:= .seq (.ops [⟨some 4,.assign (.const (.int .i64 0)),3,none⟩]) (.seq (.seq (.ops [⟨some 5,.assign (.const (.int .i64 0)),3,none⟩]) (.block 0 pq)) (.seq (.ops [⟨some 18,.move (.tmp 1),3,none⟩,⟨some 4,.assign (.tmp 18),3,none⟩]) .ret))
theorem A3U:Try.f18.body.map (Be lends)=some k18:=by kernel_rfl
theorem AIP:Bu Try.f18 2=true:=by kernel_rfl
theorem c18{a l:List D}{r:D×List D}(h:Bo Y.env k18 (fin Ad l.length [ResultVar.tmp 4] r) (entry a l))(ha:a.length=2):Y.call 18 a l=some r:=
 Ab (Y:=Y) rfl Try.func18 (ha▸AIP) A3U h
def Eg(k k1 i:Int)(BP:List Int)(s:St):Prop:=(∃w_,s.v 0=D.vw [100000] (s.k 100000) w_)∧s.v 1=D.int .i64 k1∧s.v 5=D.int .i64 i∧s.v 100000=D.own 3 (AQ (D.int .i64) BP)
def J7(k:Int)(r:Int×(List Int))(ex:Ex)(s:St):Prop:=ex= .exit 0∧s.v 1=D.int .i64 r.1∧s.v 100000=D.own 3 (AQ (D.int .i64) r.2)
theorem R8(k:Int){v:Int×Int×(List Int)}{s:St}{r:Int×(List Int)}(h:Jq k v=some r)(hM:Eg k v.1 v.2.1 v.2.2 s):Bo Y.env pq (J7 k r) s:=by
 unfold Jq at h;refine BR (c:=YA) (fun v=>Ef k v.1 v.2.1 v.2.2) (fun v s=>Eg k v.1 v.2.1 v.2.2 s) (J7 k) ?_ h hM;clear h hM s v r;intro v s o hM h;obtain⟨k1,i,BP⟩:=v;dsimp only at h hM;unfold Ef at h;unfold Eg at hM;obtain⟨⟨w0_,m0⟩,m1,m2,m3⟩:=hM;unfold YA;by_cases e1:i<(BP.length:Int)
 ·rw [if_pos e1]at h;obtain⟨e2,h⟩:=BO h;cases h;simp (maxDischargeDepth:=9) only [↓AP,AC,Ae,AL,AR,↓reduceIte,Nat.reduceEqDiff,Nat.reduceLT,m0,m1,m2,m3,e1,e2.1,e2.2,Eg,G9]<;>(repeat' apply And.intro)<;>first | rfl | exact⟨_,rfl⟩ | exact⟨_,_,rfl⟩ | simp [AQ,Ar]
 ·rw [if_neg e1]at h;cases h;simp (maxDischargeDepth:=9) only [↓AP,AC,Ae,AL,AR,↓reduceIte,Nat.reduceEqDiff,Nat.reduceLT,m0,m1,m2,m3,e1,Eg,J7,JF]
theorem Sb(a:List Int)(k:Int){r:Int×(List Int)}(h:NC a k=some r):Y.call 18 [D.vw [100000] 0 0,D.int .i64 k] [D.own 3 (AQ (D.int .i64) a)]=some (D.int .i64 r.1,[D.own 3 (AQ (D.int .i64) r.2)]):=by
 refine c18 ?_ rfl;unfold k18;unfold NC at h;obtain⟨DX,hl2,h⟩:=Aw h;try dsimp only at h
 simp (maxDischargeDepth:=9) only [↓AP,AC,AL,AR,↓reduceIte,Nat.reduceEqDiff,Nat.reduceLT,Nat.reduceAdd];refine BC (R8 k hl2 ?_) ?_
 ·simp (maxDischargeDepth:=9) only [AC,AL,↓reduceIte,Nat.reduceEqDiff,Nat.reduceLT,Nat.reduceSub,Eg]<;>(repeat' apply And.intro)<;>first | rfl | exact⟨_,rfl⟩ | exact⟨_,_,rfl⟩ | simp [AQ,Ar]
 ·intro ex2 s2 hX2;unfold J7 at hX2;obtain⟨rfl,n2_0,n2_1⟩:=hX2;cases h;simp (maxDischargeDepth:=9) only [↓AP,AC,Ae,AL,↓reduceIte,Nat.reduceEqDiff,Nat.reduceLT,n2_0,n2_1]
theorem Vz(a:List Int)(k:Int)(ha:a.length<1099511627776)(hk:0≤k∧k<1099511627776):NC a k=some (k+a.length,upto k a.length):=by
 have key:=Bb (fun v=>Ef k v.1 v.2.1 v.2.2) (fun i=>(k+i,(i:Int),upto k i++a.drop i)) a.length (k+a.length,upto k a.length) ?_ ?_
 ·unfold NC Jq;have e0:upto k 0=[]:=rfl;simp only [Int.natCast_zero,Int.add_zero,List.drop_zero,e0,List.nil_append]at key;rw [key];rfl
 ·intro i hi;simp only [Ef];have el:(upto k i++a.drop i).length=a.length:=by simp [LK];omega
  rw [el,if_pos (BZ hi),BM (FV hi),Int.toNat_natCast,pg a k i hi,Je i (by omega),Ir _ (by omega)]
  rw [show k+(i:Int)+1=k+((i+1:Nat):Int) by omega]
 ·simp only [Ef];have el:(upto k a.length++a.drop a.length).length=a.length:=by simp [LK]
  rw [el,if_neg (Aq _)];simp
theorem Jr(a:List Int)(k:Int)(h0:a.length<1099511627776)(h1:0≤k∧k<1099511627776):Y.call 18 [D.vw [100000] 0 0,D.int .i64 k] [D.own 3 (AQ (D.int .i64) a)]=some (D.int .i64 (k+a.length),[D.own 3 (AQ (D.int .i64) (upto k a.length))]):=Sb a k (Vz a k h0 h1)
def ACE:Int→List (List Int)→List (List Int)
 | _,[]=>[]
 | k,x::l=>upto k x.length::ACE (k+x.length) l
def IB:Int→List Int→Int
 | k,[]=>k
 | k,x::l=>if x=k then IB (k+1) l else-1
noncomputable def Eh(a:List Int)(k1 i:Int):Option ((Int×Int)⊕(Unit⊕Int)):= if i<(a.length:Int)then ck (0≤i∧i.toNat<a.length)<| if(a.getD i.toNat default)=k1 then some (Sum.inl (IntKind.i64.wrap (k1+1),IntKind.i64.wrap (i+1))) else some (Sum.inr (Sum.inl ())) else some (Sum.inr (Sum.inr k1))
noncomputable def FE(a:List Int)(v:Int×Int):Option (Unit⊕Int):=Ht (fun v=>Eh a v.1 v.2) v
noncomputable def ND(a:List Int)(k:Int):Option (Int):=
 (FE a (k,0)).bind fun DX=>
 match DX with
 | .inl q2_=>
  some (-1)
 | .inr q2_=>
  some q2_
def YB:SC:= .seq (.seq (.ops [⟨some 6,.move (.tmp 5),3,none⟩,⟨some 7,.move (.tmp 0),23,none⟩,⟨some 8,.call ⟨(.builtin .len), #[(.tmp 7)], #[23]⟩,3,none⟩,⟨some 9,.binOp .lss 3 (.tmp 6) (.tmp 8) 3,4,none⟩]) (.cond (.tmp 9) .skip (.exit 0))) (.seq (.block 1 (.seq (.seq (.ops [⟨some 12,.move (.tmp 0),23,none⟩,⟨some 13,.move (.tmp 5),3,none⟩,⟨some 14,.indexAddr 23 (.tmp 12) (.tmp 13),0,none⟩,⟨some 15,.load 3 (.tmp 14),3,none⟩,⟨some 16,.move (.tmp 1),3,none⟩,⟨some 17,.binOp .neq 3 (.tmp 15) (.tmp 16) 3,4,none⟩]) (.cond (.tmp 17) (.seq (.ops [⟨some 4,.assign (.const (.int .i64 (-1))),3,none⟩]) .ret) .skip)) (.ops [⟨some 18,.move (.tmp 1),3,none⟩,⟨some 19,.binOp .add 3 (.tmp 18) (.const (.int .i64 1)) 3,3,none⟩,⟨some 1,.assign (.tmp 19),3,none⟩]))) (.ops [⟨some 10,.move (.tmp 5),3,none⟩,⟨some 11,.binOp .add 3 (.tmp 10) (.const (.int .i64 1)) 3,3,none⟩,⟨some 5,.assign (.tmp 11),3,none⟩]))
def pu:SC:= .loop YB
def k20:SC:= .seq (.ops [⟨some 4,.assign (.const (.int .i64 0)),3,none⟩]) (.seq (.seq (.ops [⟨some 5,.assign (.const (.int .i64 0)),3,none⟩]) (.block 0 pu)) (.seq (.ops [⟨some 20,.move (.tmp 1),3,none⟩,⟨some 4,.assign (.tmp 20),3,none⟩]) .ret))
theorem A3V:Try.f20.body.map (Be lends)=some k20:=by kernel_rfl
theorem AIR:Bu Try.f20 2=true:=by kernel_rfl
theorem W9{a l:List D}{r:D×List D}(h:Bo Y.env k20 (fin Ad l.length [ResultVar.tmp 4] r) (entry a l))(ha:a.length=2):Y.call 20 a l=some r:=
 Ab (Y:=Y) rfl Try.func20 (ha▸AIR) A3V h
def Du(a:List Int)(k1 i:Int)(s:St):Prop:=s.v 0=D.sl 3 (AQ (D.int .i64) a)∧s.v 1=D.int .i64 k1∧s.v 5=D.int .i64 i
def Ei(a:List Int)(r:Unit⊕Int)(ex:Ex)(s:St):Prop:=match r with
 | .inl q=>ex= .ret∧s.v 4=D.int .i64 (-1)
 | .inr q=>ex= .exit 0∧s.v 1=D.int .i64 q
theorem R9(a:List Int){v:Int×Int}{s:St}{r:Unit⊕Int}(h:FE a v=some r)(hM:Du a v.1 v.2 s):Bo Y.env pu (Ei a r) s:=by
 unfold FE at h;refine BR (c:=YB) (fun v=>Eh a v.1 v.2) (fun v s=>Du a v.1 v.2 s) (Ei a) ?_ h hM;clear h hM s v r;intro v s o hM h;obtain⟨k1,i⟩:=v;dsimp only at h hM;unfold Eh at h;unfold Du at hM;obtain⟨m0,m1,m2⟩:=hM;unfold YB;by_cases e1:i<(a.length:Int)
 ·rw [if_pos e1]at h;obtain⟨e2,h⟩:=BO h;by_cases e3:(a.getD i.toNat default)=k1
  ·rw [if_pos e3]at h;cases h;simp (maxDischargeDepth:=9) only [↓AP,AC,Ae,AL,AR,↓reduceIte,Nat.reduceEqDiff,Nat.reduceLT,Int.reduceNeg,m0,m1,m2,e1,e2.1,e2.2,decide_eq_true e3,Du,G9]
  ·rw [if_neg e3]at h;cases h;simp (maxDischargeDepth:=9) only [↓AP,AC,Ae,AL,AR,↓reduceIte,Nat.reduceEqDiff,Nat.reduceLT,Int.reduceNeg,m0,m1,m2,e1,e2.1,e2.2,e3,Du,Ei,MX]
 ·rw [if_neg e1]at h;cases h;simp (maxDischargeDepth:=9) only [↓AP,AC,Ae,AR,↓reduceIte,Nat.reduceEqDiff,Nat.reduceLT,Int.reduceNeg,m0,m1,m2,e1,Du,Ei,JF]
theorem Sc(a:List Int)(k:Int){r:Int}(h:ND a k=some r):Y.call 20 [D.sl 3 (AQ (D.int .i64) a),D.int .i64 k] []=some (D.int .i64 r,[]):=by
 refine W9 ?_ rfl;unfold k20;unfold ND at h;obtain⟨DX,hl2,h⟩:=Aw h;try dsimp only at h
 simp (maxDischargeDepth:=9) only [↓AP,AC,AL,AR,↓reduceIte,Nat.reduceEqDiff,Nat.reduceLT];refine BC (R9 a hl2 ?_) ?_
 ·simp (maxDischargeDepth:=9) only [AC,AL,↓reduceIte,Nat.reduceEqDiff,Nat.reduceLT,Du]
 ·intro ex2 s2 hX2;rcases DX with q2_ | q2_
  ·unfold Ei at hX2;dsimp only at hX2 h;obtain⟨rfl,n2_0⟩:=hX2;cases h;simp (maxDischargeDepth:=9) only [↓AP,AC,AL,↓reduceIte,Int.reduceNeg,n2_0]
  ·unfold Ei at hX2;dsimp only at hX2 h;obtain⟨rfl,n2_0⟩:=hX2;cases h;simp (maxDischargeDepth:=9) only [↓AP,AC,AL,↓reduceIte,Nat.reduceEqDiff,Nat.reduceLT,n2_0]
theorem RA: ∀(b a:List Int) (k:Int),a.length+b.length<1099511627776→0≤k→k+b.length<1099511627776→
  FE (a++b) (k,(a.length:Int))=some (if IB k b= -1 then .inl ()else .inr (IB k b)):=by
 intro b
 induction b with
 | nil=>
  intro a k hab hk hkt;unfold FE;rw [JM (r:=Sum.inr k)]
  ·unfold IB;rw [if_neg (by omega)]
  ·simp only [Eh];rw [if_neg (Y9 _)]
 | cons x b ih=>
  intro a k hab hk hkt;simp only [List.length_cons]at hab hkt;have eg:(a++x::b).getD (a.length:Int).toNat default=x:=by rw [Int.toNat_natCast];exact LH a (x::b) a.length rfl (by simp)
  unfold IB;by_cases hq:x=k
  ·rw [if_pos hq];have:=ih (a++[x]) (k+1) (by simp;omega) (by omega) (by omega)
   unfold FE at this ⊢;rw [Lm (s':=(k+1,((a++[x]).length:Int)))]
   ·rw [show a++x::b=a++[x]++b by simp];exact this
   ·simp only [Eh];rw [if_pos (Y7 ..),BM (Y8 ..),eg,if_pos hq,Je _ (by omega),Ir _ (by omega)];simp
  ·rw [if_neg hq];unfold FE;rw [JM (r:=Sum.inl ())]
   ·rfl
   ·simp only [Eh];rw [if_pos (Y7 ..),BM (Y8 ..),eg,if_neg hq]
theorem WA(a:List Int)(k:Int)(ha:a.length<1099511627776)(hk:0≤k∧k+a.length<1099511627776):ND a k=some (IB k a):=by
 unfold ND;have:=RA a [] k (by simpa using ha) hk.1 hk.2
 simp only [List.length_nil,List.nil_append,Int.natCast_zero]at this;rw [this,Option.bind_some];by_cases h:IB k a= -1
 ·rw [if_pos h,h]
 ·rw [if_neg h]
theorem Gl(a:List Int)(k:Int)(h0:a.length<1099511627776)(h1:0≤k∧k+a.length<1099511627776):Y.call 20 [D.sl 3 (AQ (D.int .i64) a),D.int .i64 k] []=some (D.int .i64 (IB k a),[]):=Sc a k (WA a k h0 h1)
theorem RB(n:Nat): ∀k,IB k (upto k n)=k+n:=by
 induction n with
 | zero=>intro k;simp [upto,IB]
 | succ n ih=>
  intro k
  have e:upto k (n+1)=k::upto (k+1) n:=by
   simp only [upto,List.range_succ_eq_map,List.map_cons,List.map_map]
   congr 1
   ·simp
   ·apply List.map_congr_left;intro i _;simp;omega
  rw [e,IB,if_pos rfl,ih];omega
end Go.Proofs.Ytipfckompmhljaa
