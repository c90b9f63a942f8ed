/- Membership of a number, as a plain function. Conditions: the list is short. -/
import Derived.Test.YtipfckompmhljaaL6
import Derived.Test.YtipfckompmhljaaIsP
namespace Go.Proofs.Ytipfckompmhljaa
open Go Dv
set_option linter.unusedSimpArgs false
set_option linter.unusedVariables false
set_option maxRecDepth 100000
set_option maxHeartbeats 4000000
noncomputable def Ic(l:List Int)(n_ Og:Int):Option ((Int)⊕(Unit⊕Unit)):= if Og<(l.length:Int)then ck (0≤Og∧Og.toNat<l.length)<| if(l.getD Og.toNat default)=n_ then some (Sum.inr (Sum.inl ())) else some (Sum.inl (IntKind.i64.wrap (Og+1))) else some (Sum.inr (Sum.inr ()))
noncomputable def NF(l:List Int)(n_ v:Int):Option (Unit⊕Unit):=Ht (fun v=>Ic l n_ v) v
noncomputable def TH(l:List Int)(n_:Int):Option (Bool):=
 (NF l n_ 0).bind fun DX=>
 match DX with
 | .inl q2_=>
  some true
 | .inr q2_=>
  some false
def YI:SC:= .seq (.ops [⟨some 10,.binOp .lss 3 (.tmp 9) (.tmp 8) 3,0,none⟩]) (.seq (.cond (.tmp 10) .skip (.exit 0)) (.seq (.block 1 (.seq (.ops [⟨some 11,.indexAddr 23 (.tmp 7) (.tmp 9),0,none⟩,⟨some 12,.load 3 (.tmp 11),3,none⟩,⟨some 6,.assign (.tmp 12),3,none⟩]) (.seq (.ops [⟨some 13,.move (.tmp 6),3,none⟩,⟨some 14,.move (.tmp 1),3,none⟩,⟨some 15,.binOp .eql 3 (.tmp 13) (.tmp 14) 3,4,none⟩]) (.cond (.tmp 15) (.seq (.ops [⟨some 4,.assign (.const (.bool true)),4,none⟩]) .ret) .skip)))) (.ops [⟨some 16,.binOp .add 3 (.tmp 9) (.const (.int .i64 1)) 3,3,none⟩,⟨some 9,.move (.tmp 16),3,none⟩])))
def qC:SC:= .loop YI
def k92:SC:= .seq (.ops [⟨some 4,.assign (.const (.bool false)),4,none⟩]) (.seq (.seq (.ops [⟨some 7,.move (.tmp 0),23,none⟩,⟨some 8,.call ⟨(.builtin .len), #[(.tmp 7)], #[23]⟩,3,none⟩,⟨some 9,.move (.const (.int .i64 0)),3,none⟩]) (.block 0 qC)) (.seq (.ops [⟨some 4,.assign (.const (.bool false)),4,none⟩]) .ret))
theorem A3f:Try.f92.body.map (Be lends)=some k92:=by kernel_rfl
theorem AIh:Bu Try.f92 2=true:=by kernel_rfl
theorem c92{a l:List D}{r:D×List D}(h:Bo Y.env k92 (fin Ad l.length [ResultVar.tmp 4] r) (entry a l))(ha:a.length=2):Y.call 92 a l=some r:=
 Ab (Y:=Y) rfl Try.func92 (ha▸AIh) A3f h
def GD(l:List Int)(n_ Og:Int)(s:St):Prop:=s.v 1=D.int .i64 n_∧s.v 7=D.sl 3 (AQ (D.int .i64) l)∧s.v 8=D.int .i64 (l.length:Int)∧s.v 9=D.int .i64 Og
def Ie(l:List Int)(n_:Int)(r:Unit⊕Unit)(ex:Ex)(s:St):Prop:=match r with
 | .inl q=>ex= .ret∧s.v 4=D.bool true
 | .inr q=>ex= .exit 0
theorem WE(l:List Int)(n_:Int){v:Int}{s:St}{r:Unit⊕Unit}(h:NF l n_ v=some r)(hM:GD l n_ v s):Bo Y.env qC (Ie l n_ r) s:=by
 unfold NF at h;refine BR (c:=YI) (fun v=>Ic l n_ v) (fun v s=>GD l n_ v s) (Ie l n_) ?_ h hM;clear h hM s v r;intro Og s o hM h;unfold Ic at h;unfold GD at hM;obtain⟨m0,m1,m2,m3⟩:=hM;unfold YI;by_cases e1:Og<(l.length:Int)
 ·rw [if_pos e1]at h;obtain⟨e2,h⟩:=BO h;by_cases e3:(l.getD Og.toNat default)=n_
  ·rw [if_pos e3]at h;cases h;simp (maxDischargeDepth:=9) only [↓AP,AC,Ae,AL,AR,↓reduceIte,Nat.reduceEqDiff,Nat.reduceLT,m0,m1,m2,m3,e1,e2.1,e2.2,decide_eq_true e3,GD,Ie,MX]
  ·rw [if_neg e3]at h;cases h;simp (maxDischargeDepth:=9) only [↓AP,AC,Ae,AL,AR,↓reduceIte,Nat.reduceEqDiff,Nat.reduceLT,m0,m1,m2,m3,e1,e2.1,e2.2,e3,GD,G9]
 ·rw [if_neg e1]at h;cases h;simp (maxDischargeDepth:=9) only [↓AP,AC,AR,↓reduceIte,Nat.reduceLT,m2,m3,e1,GD,Ie,JF]
theorem YJ(l:List Int)(n_:Int){r:Bool}(h:TH l n_=some r):Y.call 92 [D.sl 3 (AQ (D.int .i64) l),D.int .i64 n_] []=some (D.bool r,[]):=by
 refine c92 ?_ rfl;unfold k92;unfold TH at h;obtain⟨DX,hl2,h⟩:=Aw h;try dsimp only at h
 simp (maxDischargeDepth:=9) only [↓AP,AC,Ae,AL,AR,↓reduceIte,Nat.reduceEqDiff,Nat.reduceLT];refine BC (WE l n_ hl2 ?_) ?_
 ·simp (maxDischargeDepth:=9) only [AC,AL,↓reduceIte,Nat.reduceEqDiff,Nat.reduceLT,GD]
 ·intro ex2 s2 hX2;rcases DX with q2_ | q2_
  ·unfold Ie at hX2;dsimp only at hX2 h;obtain⟨rfl,n2_0⟩:=hX2;cases h;simp (maxDischargeDepth:=9) only [↓AP,AC,AL,↓reduceIte,n2_0]
  ·unfold Ie at hX2;dsimp only at hX2 h
   obtain rfl:=hX2
   cases h;simp (maxDischargeDepth:=9) only [↓AP,AC,AL,AR,↓reduceIte,Nat.reduceEqDiff,Nat.reduceLT]
theorem gN(l:List Int)(n:Int)(h:l.length<1099511627776):TH l n=some (l.contains n):=by
 unfold TH NF;have key:=JN (fun v=>Ic l n v) (fun i=>(i:Int)) l.length (fun i=> !decide (l.getD i default=n)) (.inl ()) (.inr ()) ?_ ?_
 ·simp only [Int.natCast_zero]at key;rw [key,bD (fun x=> !decide (x=n))]
  have e:l.all (fun x=> !decide (x=n))= !l.contains n:=by
   rw [List.all_eq_not_any_not,List.contains_eq_any_beq]
   congr 2
   funext x
   rw [Bool.not_not,Bool.eq_iff_iff,decide_eq_true_eq,beq_iff_eq];exact eq_comm
  rw [e]
  cases l.contains n<;>rfl
 ·intro i hi;simp only [Ic];rw [if_pos (BZ hi),BM (FV hi),Int.toNat_natCast,Je i (by omega)]
  by_cases hq:l.getD i default=n
  ·rw [if_pos hq,decide_eq_true hq];rfl
  ·rw [if_neg hq,decide_eq_false hq];rfl
 ·simp only [Ic];rw [if_neg (Aq _)]
theorem gP(l:List Int)(n_:Int)(h0:l.length<1099511627776):Y.call 92 [D.sl 3 (AQ (D.int .i64) l),D.int .i64 n_] []=some (D.bool (l.contains n_),[]):=YJ l n_ (gN l n_ h0)
noncomputable def JQ(s_:List Int)(v_ Ej:Int):Option ((Int)⊕(Int⊕Unit)):= if Ej<(s_.length:Int)then ck (0≤Ej∧Ej.toNat<s_.length)<| if v_=(s_.getD Ej.toNat default)then some (Sum.inr (Sum.inl Ej)) else some (Sum.inl (IntKind.i64.wrap (Ej+1))) else some (Sum.inr (Sum.inr ()))
noncomputable def YK(s_:List Int)(v_ v:Int):Option (Int⊕Unit):=Ht (fun v=>JQ s_ v_ v) v
noncomputable def gIx(s_:List Int)(v_:Int):Option (Int):=
 (YK s_ v_ 0).bind fun DX=>
 match DX with
 | .inl q2_=>
  some q2_
 | .inr q2_=>
  some (-1)
def Uf:SC:= .seq (.ops [⟨some 9,.binOp .lss 3 (.tmp 8) (.tmp 7) 3,0,none⟩]) (.seq (.cond (.tmp 9) .skip (.exit 0)) (.seq (.block 1 (.seq (.ops [⟨some 10,.move (.tmp 8),3,none⟩,⟨some 5,.assign (.tmp 10),3,none⟩]) (.seq (.ops [⟨some 11,.move (.tmp 1),3,none⟩,⟨some 12,.move (.tmp 0),23,none⟩,⟨some 13,.move (.tmp 5),3,none⟩,⟨some 14,.indexAddr 23 (.tmp 12) (.tmp 13),0,none⟩,⟨some 15,.load 3 (.tmp 14),3,none⟩,⟨some 16,.binOp .eql 3 (.tmp 11) (.tmp 15) 3,4,none⟩]) (.cond (.tmp 16) (.seq (.ops [⟨some 17,.move (.tmp 5),3,none⟩,⟨some 4,.assign (.tmp 17),3,none⟩]) .ret) .skip)))) (.ops [⟨some 18,.binOp .add 3 (.tmp 8) (.const (.int .i64 1)) 3,3,none⟩,⟨some 8,.move (.tmp 18),3,none⟩])))
def iy:SC:= .loop Uf
def A3g:SC:= .seq (.ops [⟨some 4,.assign (.const (.int .i64 0)),3,none⟩]) (.seq (.seq (.ops [⟨some 6,.move (.tmp 0),23,none⟩,⟨some 7,.call ⟨(.builtin .len), #[(.tmp 6)], #[23]⟩,3,none⟩,⟨some 8,.move (.const (.int .i64 0)),3,none⟩]) (.block 0 iy)) (.seq (.ops [⟨some 4,.assign (.const (.int .i64 (-1))),3,none⟩]) .ret))
theorem uy:Try.f129.body.map (Be lends)=some A3g:=by kernel_rfl
theorem ACK:Bu Try.f129 2=true:=by kernel_rfl
theorem AIi{a l:List D}{r:D×List D}(h:Bo Y.env A3g (fin Ad l.length [ResultVar.tmp 4] r) (entry a l))(ha:a.length=2):Y.call 129 a l=some r:=
 Ab (Y:=Y) rfl Try.func129 (ha▸ACK) uy h
def LP(s_:List Int)(v_ Ej:Int)(s:St):Prop:=s.v 0=D.sl 3 (AQ (D.int .i64) s_)∧s.v 1=D.int .i64 v_∧s.v 7=D.int .i64 (s_.length:Int)∧s.v 8=D.int .i64 Ej
def Mc(s_:List Int)(v_:Int)(r:Int⊕Unit)(ex:Ex)(s:St):Prop:=match r with
 | .inl q=>ex= .ret∧s.v 4=D.int .i64 q
 | .inr q=>ex= .exit 0
theorem l5(s_:List Int)(v_:Int){v:Int}{s:St}{r:Int⊕Unit}(h:YK s_ v_ v=some r)(hM:LP s_ v_ v s):Bo Y.env iy (Mc s_ v_ r) s:=by
 unfold YK at h;refine BR (c:=Uf) (fun v=>JQ s_ v_ v) (fun v s=>LP s_ v_ v s) (Mc s_ v_) ?_ h hM;clear h hM s v r;intro Ej s o hM h;unfold JQ at h;unfold LP at hM;obtain⟨m0,m1,m2,m3⟩:=hM;unfold Uf;by_cases e1:Ej<(s_.length:Int)
 ·rw [if_pos e1]at h;obtain⟨e2,h⟩:=BO h;by_cases e3:v_=(s_.getD Ej.toNat default)
  ·rw [if_pos e3]at h;cases h;simp (maxDischargeDepth:=9) only [↓AP,AC,Ae,AL,AR,↓reduceIte,Nat.reduceEqDiff,Nat.reduceLT,m0,m1,m2,m3,e1,e2.1,e2.2,decide_eq_true e3,LP,Mc,MX]
  ·rw [if_neg e3]at h;cases h;simp (maxDischargeDepth:=9) only [↓AP,AC,Ae,AL,AR,↓reduceIte,Nat.reduceEqDiff,Nat.reduceLT,m0,m1,m2,m3,e1,e2.1,e2.2,e3,LP,G9]
 ·rw [if_neg e1]at h;cases h;simp (maxDischargeDepth:=9) only [↓AP,AC,AR,↓reduceIte,Nat.reduceLT,m2,m3,e1,LP,Mc,JF]
theorem qD(s_:List Int)(v_:Int){r:Int}(h:gIx s_ v_=some r):Y.call 129 [D.sl 3 (AQ (D.int .i64) s_),D.int .i64 v_] []=some (D.int .i64 r,[]):=by
 refine AIi ?_ rfl;unfold A3g;unfold gIx at h;obtain⟨DX,hl2,h⟩:=Aw h;try dsimp only at h
 simp (maxDischargeDepth:=9) only [↓AP,AC,Ae,AL,AR,↓reduceIte,Nat.reduceEqDiff,Nat.reduceLT,Int.reduceNeg];refine BC (l5 s_ v_ hl2 ?_) ?_
 ·simp (maxDischargeDepth:=9) only [AC,AL,↓reduceIte,Nat.reduceEqDiff,Nat.reduceLT,LP]
 ·intro ex2 s2 hX2;rcases DX with q2_ | q2_
  ·unfold Mc at hX2;dsimp only at hX2 h;obtain⟨rfl,n2_0⟩:=hX2;cases h;simp (maxDischargeDepth:=9) only [↓AP,AC,AL,↓reduceIte,n2_0]
  ·unfold Mc at hX2;dsimp only at hX2 h
   obtain rfl:=hX2
   cases h;simp (maxDischargeDepth:=9) only [↓AP,AC,AL,AR,↓reduceIte,Nat.reduceEqDiff,Nat.reduceLT,Int.reduceNeg]
noncomputable def D9(s_:List Int)(v_:Int):Option (Bool):= (gIx s_ v_).bind fun BI=> some (decide (0≤BI))
def k81:SC:= .seq (.ops [⟨some 4,.assign (.const (.bool false)),4,none⟩]) (.seq (.ops [⟨some 5,.move (.tmp 0),23,none⟩,⟨some 6,.move (.tmp 1),3,none⟩,⟨some 7,.call ⟨(.value (.func 129)), #[(.tmp 5),(.tmp 6)], #[23,3]⟩,3,none⟩,⟨some 8,.binOp .geq 3 (.tmp 7) (.const (.int .i64 0)) 3,4,none⟩,⟨some 4,.assign (.tmp 8),4,none⟩]) .ret)
theorem A3h:Try.f81.body.map (Be lends)=some k81:=by kernel_rfl
theorem AIk:Bu Try.f81 2=true:=by kernel_rfl
theorem c81{a l:List D}{r:D×List D}(h:Bo Y.env k81 (fin Ad l.length [ResultVar.tmp 4] r) (entry a l))(ha:a.length=2):Y.call 81 a l=some r:=
 Ab (Y:=Y) rfl Try.func81 (ha▸AIk) A3h h
theorem Jf(s_:List Int)(v_:Int){r:Bool}(h:D9 s_ v_=some r):Y.call 81 [D.sl 3 (AQ (D.int .i64) s_),D.int .i64 v_] []=some (D.bool r,[]):=by
 refine c81 ?_ rfl;unfold k81;unfold D9 at h;obtain⟨BI,hl1,h⟩:=Aw h;try dsimp only at h
 have c1:=qD s_ v_ hl1;cases h;simp (maxDischargeDepth:=9) only [↓AP,AC,BV,AL,AR,↓reduceIte,Nat.reduceEqDiff,Nat.reduceLT,Nat.reduceAdd,c1]
theorem qE(l:List Int)(n:Int)(h:l.length<1099511627776): ∃r,gIx l n=some r∧(0≤r↔l.contains n=true):=by
 unfold gIx YK;by_cases ha: ∀i,i<l.length→(!decide (n=l.getD i default))=true
 ·have key:=Bb (fun v=>JQ l n v) (fun i=>(i:Int)) l.length (.inr ()) ?_ ?_
  ·simp only [Int.natCast_zero]at key;rw [key]
   refine⟨-1,rfl,by simp,fun hc=> ?_⟩
   obtain⟨i,hi,he⟩:=List.getElem_of_mem (List.contains_iff_mem.1 hc);have:=ha i hi
   rw [Av _ _ hi,he]at this;simp at this
  ·intro i hi;simp only [JQ];have e:=ha i hi;rw [if_pos (BZ hi),BM (FV hi),Int.toNat_natCast,if_neg (by simpa using e),Je i (by omega)]
  ·simp only [JQ];rw [if_neg (Aq _)]
 ·obtain⟨m,h1,h2,h3⟩:=NB (P:=fun i=> !decide (n=l.getD i default)) ha;have h2':n=l.getD m default:=by simpa using h2
  have key:=Bb (fun v=>JQ l n v) (fun i=>(i:Int)) m (.inl (m:Int)) ?_ ?_
  ·simp only [Int.natCast_zero]at key;rw [key]
   refine⟨(m:Int),rfl,fun _=> ?_,fun _=>by omega⟩
   rw [h2',Av _ _ h1];exact List.contains_iff_mem.2 (List.getElem_mem h1)
  ·intro i hi;simp only [JQ];have e:=h3 i hi;rw [if_pos (BZ (by omega)),BM (FV (by omega)),Int.toNat_natCast,if_neg (by simpa using e),Je i (by omega)]
  ·simp only [JQ];rw [if_pos (BZ h1),BM (FV h1),Int.toNat_natCast,if_pos h2']
theorem KJ(l:List Int)(n:Int)(h:l.length<1099511627776):D9 l n=some (l.contains n):=by
 obtain⟨r,h1,h2⟩:=qE l n h;unfold D9;rw [h1,Option.bind_some]
 congr 1
 rw [Bool.eq_iff_iff];simpa using h2
theorem KL(s_:List Int)(v_:Int)(h0:s_.length<1099511627776):Y.call 81 [D.sl 3 (AQ (D.int .i64) s_),D.int .i64 v_] []=some (D.bool (s_.contains v_),[]):=Jf s_ v_ (KJ s_ v_ h0)
end Go.Proofs.Ytipfckompmhljaa
