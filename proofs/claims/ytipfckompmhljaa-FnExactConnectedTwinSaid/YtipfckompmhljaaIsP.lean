/- When lists are a problem, as plain functions. Conditions: the lists are short. -/
import Derived.Test.YtipfckompmhljaaL6
import Derived.Test.YtipfckompmhljaaPB
namespace Go.Proofs.Ytipfckompmhljaa
open Go Dv
set_option linter.unusedSimpArgs false
set_option linter.unusedVariables false
set_option maxRecDepth 100000
set_option maxHeartbeats 4000000
def JC(n lo hi:Int):Bool:=decide (lo≤n∧n≤hi)
theorem FK{n lo hi:Int}:JC n lo hi=true↔lo≤n∧n≤hi:=by simp [JC]
noncomputable def QL(n_ low high:Int):Option (Bool):= if low≤n_ then some (decide (n_≤high)) else some false
def k77:SC:= .seq (.ops [⟨some 6,.assign (.const (.bool false)),4,none⟩]) (.seq (.ops [⟨some 7,.move (.tmp 1),3,none⟩,⟨some 8,.move (.tmp 0),3,none⟩,⟨some 9,.binOp .leq 3 (.tmp 7) (.tmp 8) 3,4,none⟩,⟨some 10,.move (.tmp 9),4,none⟩,⟨some 11,.move (.tmp 0),3,(some (some 10,true))⟩,⟨some 12,.move (.tmp 2),3,(some (some 10,true))⟩,⟨some 13,.binOp .leq 3 (.tmp 11) (.tmp 12) 3,4,(some (some 10,true))⟩,⟨some 14,.pick (.tmp 10) (.tmp 13) (.const (.bool false)),4,none⟩,⟨some 6,.assign (.tmp 14),4,none⟩]) .ret)
theorem A3Y:Try.f77.body.map (Be lends)=some k77:=by kernel_rfl
theorem AIV:Bu Try.f77 3=true:=by kernel_rfl
theorem c77{a l:List D}{r:D×List D}(h:Bo Y.env k77 (fin Ad l.length [ResultVar.tmp 6] r) (entry a l))(ha:a.length=3):Y.call 77 a l=some r:=
 Ab (Y:=Y) rfl Try.func77 (ha▸AIV) A3Y h
theorem WB(n_ low high:Int){r:Bool}(h:QL n_ low high=some r):Y.call 77 [D.int .i64 n_,D.int .i64 low,D.int .i64 high] []=some (D.bool r,[]):=by
 refine c77 ?_ rfl;unfold k77;unfold QL at h;by_cases e1:low≤n_
 ·rw [if_pos e1]at h;cases h;simp (maxDischargeDepth:=9) only [↓AP,AC,AL,AR,↓reduceIte,Nat.reduceEqDiff,Nat.reduceLT,e1]
 ·rw [if_neg e1]at h;cases h;simp (maxDischargeDepth:=9) only [↓AP,AC,AL,AR,↓reduceIte,Nat.reduceEqDiff,Nat.reduceLT,e1]
noncomputable def YC(n_ lo hi:Int):Option (Bool):= if lo≤n_ then some (decide (n_≤hi)) else some false
def k43:SC:= .seq (.ops [⟨some 6,.assign (.const (.bool false)),4,none⟩]) (.seq (.ops [⟨some 7,.move (.tmp 0),3,none⟩,⟨some 8,.move (.tmp 1),3,none⟩,⟨some 9,.binOp .geq 3 (.tmp 7) (.tmp 8) 3,4,none⟩,⟨some 10,.move (.tmp 9),4,none⟩,⟨some 11,.move (.tmp 0),3,(some (some 10,true))⟩,⟨some 12,.move (.tmp 2),3,(some (some 10,true))⟩,⟨some 13,.binOp .leq 3 (.tmp 11) (.tmp 12) 3,4,(some (some 10,true))⟩,⟨some 14,.pick (.tmp 10) (.tmp 13) (.const (.bool false)),4,none⟩,⟨some 6,.assign (.tmp 14),4,none⟩]) .ret)
theorem A3Z:Try.f43.body.map (Be lends)=some k43:=by kernel_rfl
theorem AIX:Bu Try.f43 3=true:=by kernel_rfl
theorem c43{a l:List D}{r:D×List D}(h:Bo Y.env k43 (fin Ad l.length [ResultVar.tmp 6] r) (entry a l))(ha:a.length=3):Y.call 43 a l=some r:=
 Ab (Y:=Y) rfl Try.func43 (ha▸AIX) A3Z h
theorem bL(n_ lo hi:Int){r:Bool}(h:YC n_ lo hi=some r):Y.call 43 [D.int .i64 n_,D.int .i64 lo,D.int .i64 hi] []=some (D.bool r,[]):=by
 refine c43 ?_ rfl;unfold k43;unfold YC at h;by_cases e1:lo≤n_
 ·rw [if_pos e1]at h;cases h;simp (maxDischargeDepth:=9) only [↓AP,AC,AL,AR,↓reduceIte,Nat.reduceEqDiff,Nat.reduceLT,e1]
 ·rw [if_neg e1]at h;cases h;simp (maxDischargeDepth:=9) only [↓AP,AC,AL,AR,↓reduceIte,Nat.reduceEqDiff,Nat.reduceLT,e1]
theorem bM(n lo hi:Int):QL n lo hi=some (JC n lo hi):=by unfold QL JC;by_cases h1:lo≤n<;>by_cases h2:n≤hi<;>simp [h1,h2]
theorem kv(n lo hi:Int):YC n lo hi=some (JC n lo hi):=by unfold YC JC;by_cases h1:lo≤n<;>by_cases h2:n≤hi<;>simp [h1,h2]
theorem IG(n_ low high:Int):Y.call 77 [D.int .i64 n_,D.int .i64 low,D.int .i64 high] []=some (D.bool (JC n_ low high),[]):=WB n_ low high (bM n_ low high)
theorem MZ(n_ lo hi:Int):Y.call 43 [D.int .i64 n_,D.int .i64 lo,D.int .i64 hi] []=some (D.bool (JC n_ lo hi),[]):=bL n_ lo hi (kv n_ lo hi)
noncomputable def Ia(l:List Int)(lo hi BL:Int):Option ((Int)⊕(Unit⊕Unit)):= if BL<(l.length:Int)then ck (0≤BL∧BL.toNat<l.length)<| if(JC (l.getD BL.toNat default) lo hi)=true then some (Sum.inl (IntKind.i64.wrap (BL+1))) else some (Sum.inr (Sum.inl ())) else some (Sum.inr (Sum.inr ()))
noncomputable def NE(l:List Int)(lo hi v:Int):Option (Unit⊕Unit):=Ht (fun v=>Ia l lo hi v) v
noncomputable def TG(l:List Int)(lo hi:Int):Option (Bool):=
 (NE l lo hi 0).bind fun DX=>
 match DX with
 | .inl q2_=>
  some false
 | .inr q2_=>
  some true
def YD:SC:= .seq (.ops [⟨some 12,.binOp .lss 3 (.tmp 11) (.tmp 10) 3,0,none⟩]) (.seq (.cond (.tmp 12) .skip (.exit 0)) (.seq (.block 1 (.seq (.ops [⟨some 13,.indexAddr 23 (.tmp 9) (.tmp 11),0,none⟩,⟨some 14,.load 3 (.tmp 13),3,none⟩,⟨some 8,.assign (.tmp 14),3,none⟩]) (.seq (.ops [⟨some 15,.move (.tmp 8),3,none⟩,⟨some 16,.move (.tmp 1),3,none⟩,⟨some 17,.move (.tmp 2),3,none⟩,⟨some 18,.call ⟨(.value (.func 43)), #[(.tmp 15),(.tmp 16),(.tmp 17)], #[3,3,3]⟩,4,none⟩,⟨some 19,.unOp .not 4 (.tmp 18),4,none⟩]) (.cond (.tmp 19) (.seq (.ops [⟨some 6,.assign (.const (.bool false)),4,none⟩]) .ret) .skip)))) (.ops [⟨some 20,.binOp .add 3 (.tmp 11) (.const (.int .i64 1)) 3,3,none⟩,⟨some 11,.move (.tmp 20),3,none⟩])))
def pz:SC:= .loop YD
def k72:SC:= .seq (.ops [⟨some 6,.assign (.const (.bool false)),4,none⟩]) (.seq (.seq (.ops [⟨some 9,.move (.tmp 0),23,none⟩,⟨some 10,.call ⟨(.builtin .len), #[(.tmp 9)], #[23]⟩,3,none⟩,⟨some 11,.move (.const (.int .i64 0)),3,none⟩]) (.block 0 pz)) (.seq (.ops [⟨some 6,.assign (.const (.bool true)),4,none⟩]) .ret))
theorem A3a:Try.f72.body.map (Be lends)=some k72:=by kernel_rfl
theorem AIa:Bu Try.f72 3=true:=by kernel_rfl
theorem c72{a l:List D}{r:D×List D}(h:Bo Y.env k72 (fin Ad l.length [ResultVar.tmp 6] r) (entry a l))(ha:a.length=3):Y.call 72 a l=some r:=
 Ab (Y:=Y) rfl Try.func72 (ha▸AIa) A3a h
def GA(l:List Int)(lo hi BL:Int)(s:St):Prop:=s.v 1=D.int .i64 lo∧s.v 2=D.int .i64 hi∧s.v 9=D.sl 3 (AQ (D.int .i64) l)∧s.v 10=D.int .i64 (l.length:Int)∧s.v 11=D.int .i64 BL
def Ib(l:List Int)(lo hi:Int)(r:Unit⊕Unit)(ex:Ex)(s:St):Prop:=match r with
 | .inl q=>ex= .ret∧s.v 6=D.bool false
 | .inr q=>ex= .exit 0
theorem WC(l:List Int)(lo hi:Int){v:Int}{s:St}{r:Unit⊕Unit}(h:NE l lo hi v=some r)(hM:GA l lo hi v s):Bo Y.env pz (Ib l lo hi r) s:=by
 unfold NE at h;refine BR (c:=YD) (fun v=>Ia l lo hi v) (fun v s=>GA l lo hi v s) (Ib l lo hi) ?_ h hM;clear h hM s v r;intro BL s o hM h;unfold Ia at h;unfold GA at hM;obtain⟨m0,m1,m2,m3,m4⟩:=hM;unfold YD;by_cases e1:BL<(l.length:Int)
 ·rw [if_pos e1]at h;obtain⟨e2,h⟩:=BO h;have c3:=MZ (l.getD BL.toNat default) lo hi;by_cases e4:(JC (l.getD BL.toNat default) lo hi)=true
  ·rw [if_pos e4]at h;cases h;simp (maxDischargeDepth:=9) only [↓AP,AC,Ae,BV,AL,AR,↓reduceIte,Nat.reduceEqDiff,Nat.reduceLT,Nat.reduceAdd,m0,m1,m2,m3,m4,e1,e2.1,e2.2,c3,e4,GA,G9]
  ·rw [if_neg e4]at h;have e4f:(JC (l.getD BL.toNat default) lo hi)=false:=Bool.eq_false_iff.mpr e4;cases h;simp (maxDischargeDepth:=9) only [↓AP,AC,Ae,BV,AL,AR,↓reduceIte,Nat.reduceEqDiff,Nat.reduceLT,Nat.reduceAdd,m0,m1,m2,m3,m4,e1,e2.1,e2.2,c3,e4f,GA,Ib,MX]
 ·rw [if_neg e1]at h;cases h;simp (maxDischargeDepth:=9) only [↓AP,AC,AR,↓reduceIte,Nat.reduceLT,m3,m4,e1,GA,Ib,JF]
theorem YE(l:List Int)(lo hi:Int){r:Bool}(h:TG l lo hi=some r):Y.call 72 [D.sl 3 (AQ (D.int .i64) l),D.int .i64 lo,D.int .i64 hi] []=some (D.bool r,[]):=by
 refine c72 ?_ rfl;unfold k72;unfold TG at h;obtain⟨DX,hl2,h⟩:=Aw h;try dsimp only at h
 simp (maxDischargeDepth:=9) only [↓AP,AC,Ae,AL,AR,↓reduceIte,Nat.reduceEqDiff,Nat.reduceLT];refine BC (WC l lo hi hl2 ?_) ?_
 ·simp (maxDischargeDepth:=9) only [AC,AL,↓reduceIte,Nat.reduceEqDiff,Nat.reduceLT,GA]
 ·intro ex2 s2 hX2;rcases DX with q2_ | q2_
  ·unfold Ib at hX2;dsimp only at hX2 h;obtain⟨rfl,n2_0⟩:=hX2;cases h;simp (maxDischargeDepth:=9) only [↓AP,AC,AL,↓reduceIte,n2_0]
  ·unfold Ib at hX2;dsimp only at hX2 h
   obtain rfl:=hX2
   cases h;simp (maxDischargeDepth:=9) only [↓AP,AC,AL,AR,↓reduceIte,Nat.reduceEqDiff,Nat.reduceLT]
def II(l:List Int)(lo hi:Int):Bool:=l.all fun x=>JC x lo hi
theorem gK(l:List Int)(lo hi:Int)(h:l.length<1099511627776):TG l lo hi=some (II l lo hi):=by
 unfold TG NE;have key:=JN (fun v=>Ia l lo hi v) (fun i=>(i:Int)) l.length (fun i=>JC (l.getD i default) lo hi) (.inl ()) (.inr ()) ?_ ?_
 ·simp only [Int.natCast_zero]at key;rw [key,bD (fun x=>JC x lo hi)];unfold II
  cases l.all (fun x=>JC x lo hi)<;>rfl
 ·intro i hi;simp only [Ia];rw [if_pos (BZ hi),BM (FV hi),Int.toNat_natCast,Je i (by omega)]
 ·simp only [Ia];rw [if_neg (Aq _)]
theorem Ua(l:List Int)(lo hi:Int)(h0:l.length<1099511627776):Y.call 72 [D.sl 3 (AQ (D.int .i64) l),D.int .i64 lo,D.int .i64 hi] []=some (D.bool (II l lo hi),[]):=YE l lo hi (gK l lo hi h0)
noncomputable def JP(s_:List Int)(f:Int→Option Bool)(Ej:Int):Option ((Int)⊕(Int⊕Unit)):= if Ej<(s_.length:Int)then ck (0≤Ej∧Ej.toNat<s_.length)<| (f (s_.getD Ej.toNat default)).bind fun E8=> if E8=true then some (Sum.inr (Sum.inl Ej)) else some (Sum.inl (IntKind.i64.wrap (Ej+1))) else some (Sum.inr (Sum.inr ()))
noncomputable def YF(s_:List Int)(f:Int→Option Bool)(v:Int):Option (Int⊕Unit):=Ht (fun v=>JP s_ f v) v
noncomputable def gIF(s_:List Int)(f:Int→Option Bool):Option (Int):=
 (YF s_ f 0).bind fun DX=>
 match DX with
 | .inl q2_=>
  some q2_
 | .inr q2_=>
  some (-1)
def Ub:SC:= .seq (.ops [⟨some 9,.binOp .lss 3 (.tmp 8) (.tmp 7) 3,0,none⟩]) (.seq (.cond (.tmp 9) .skip (.exit 0)) (.seq (.block 1 (.seq (.ops [⟨some 10,.move (.tmp 8),3,none⟩,⟨some 5,.assign (.tmp 10),3,none⟩]) (.seq (.ops [⟨some 11,.move (.tmp 1),115,none⟩,⟨some 12,.move (.tmp 0),23,none⟩,⟨some 13,.move (.tmp 5),3,none⟩,⟨some 14,.indexAddr 23 (.tmp 12) (.tmp 13),0,none⟩,⟨some 15,.load 3 (.tmp 14),3,none⟩,⟨some 16,.call ⟨(.value (.tmp 11)), #[(.tmp 15)], #[3]⟩,4,none⟩]) (.cond (.tmp 16) (.seq (.ops [⟨some 17,.move (.tmp 5),3,none⟩,⟨some 4,.assign (.tmp 17),3,none⟩]) .ret) .skip)))) (.ops [⟨some 18,.binOp .add 3 (.tmp 8) (.const (.int .i64 1)) 3,3,none⟩,⟨some 8,.move (.tmp 18),3,none⟩])))
def iw:SC:= .loop Ub
def A3b:SC:= .seq (.ops [⟨some 4,.assign (.const (.int .i64 0)),3,none⟩]) (.seq (.seq (.ops [⟨some 6,.move (.tmp 0),23,none⟩,⟨some 7,.call ⟨(.builtin .len), #[(.tmp 6)], #[23]⟩,3,none⟩,⟨some 8,.move (.const (.int .i64 0)),3,none⟩]) (.block 0 iw)) (.seq (.ops [⟨some 4,.assign (.const (.int .i64 (-1))),3,none⟩]) .ret))
theorem ut:Try.f155.body.map (Be lends)=some A3b:=by kernel_rfl
theorem ACG:Bu Try.f155 2=true:=by kernel_rfl
theorem AIb{a l:List D}{r:D×List D}(h:Bo Y.env A3b (fin Ad l.length [ResultVar.tmp 4] r) (entry a l))(ha:a.length=2):Y.call 155 a l=some r:=
 Ab (Y:=Y) rfl Try.func155 (ha▸ACG) ut h
def LM(s_:List Int)(f:Int→Option Bool)(f_f:FuncId)(f_c:List D)(Ej:Int)(s:St):Prop:=s.v 0=D.sl 3 (AQ (D.int .i64) s_)∧s.v 1=D.clo f_f f_c∧s.v 7=D.int .i64 (s_.length:Int)∧s.v 8=D.int .i64 Ej
def Ma(s_:List Int)(f:Int→Option Bool)(f_f:FuncId)(f_c:List D)(r:Int⊕Unit)(ex:Ex)(s:St):Prop:=match r with
 | .inl q=>ex= .ret∧s.v 4=D.int .i64 q
 | .inr q=>ex= .exit 0
theorem kw(s_:List Int)(f:Int→Option Bool)(f_f:FuncId)(f_c:List D)(f_h: ∀(a0:Int) (r:Bool),f a0=some r→Y.call f_f (D.int .i64 a0::f_c) []=some (D.bool r,[]))(f_l:lends f_f=false){v:Int}{s:St}{r:Int⊕Unit}(h:YF s_ f v=some r)(hM:LM s_ f f_f f_c v s):Bo Y.env iw (Ma s_ f f_f f_c r) s:=by
 unfold YF at h;refine BR (c:=Ub) (fun v=>JP s_ f v) (fun v s=>LM s_ f f_f f_c v s) (Ma s_ f f_f f_c) ?_ h hM;clear h hM s v r;intro Ej s o hM h;unfold JP at h;unfold LM at hM;obtain⟨m0,m1,m2,m3⟩:=hM;unfold Ub;by_cases e1:Ej<(s_.length:Int)
 ·rw [if_pos e1]at h;obtain⟨e2,h⟩:=BO h;obtain⟨E8,hl3,h⟩:=Aw h;try dsimp only at h
  have c3:=f_h _ _ hl3;by_cases e4:E8=true
  ·rw [if_pos e4]at h;cases h;simp (maxDischargeDepth:=9) only [↓AP,AC,Ae,BV,AL,AR,↓reduceIte,Nat.reduceEqDiff,Nat.reduceLT,Nat.reduceAdd,m0,m1,m2,m3,f_l,e1,e2.1,e2.2,c3,e4,LM,Ma,MX]
  ·rw [if_neg e4]at h;have e4f:E8=false:=Bool.eq_false_iff.mpr e4;cases h;simp (maxDischargeDepth:=9) only [↓AP,AC,Ae,BV,AL,AR,↓reduceIte,Nat.reduceEqDiff,Nat.reduceLT,Nat.reduceAdd,m0,m1,m2,m3,f_l,e1,e2.1,e2.2,c3,e4f,LM,G9]
 ·rw [if_neg e1]at h;cases h;simp (maxDischargeDepth:=9) only [↓AP,AC,AR,↓reduceIte,Nat.reduceLT,m2,m3,e1,LM,Ma,JF]
theorem qA(s_:List Int)(f:Int→Option Bool)(f_f:FuncId)(f_c:List D)(f_h: ∀(a0:Int) (r:Bool),f a0=some r→Y.call f_f (D.int .i64 a0::f_c) []=some (D.bool r,[]))(f_l:lends f_f=false){r:Int}(h:gIF s_ f=some r):Y.call 155 [D.sl 3 (AQ (D.int .i64) s_),D.clo f_f f_c] []=some (D.int .i64 r,[]):=by
 refine AIb ?_ rfl;unfold A3b;unfold gIF at h;obtain⟨DX,hl2,h⟩:=Aw h;try dsimp only at h
 simp (maxDischargeDepth:=9) only [↓AP,AC,Ae,AL,AR,↓reduceIte,Nat.reduceEqDiff,Nat.reduceLT,Int.reduceNeg];refine BC (kw s_ f f_f f_c f_h f_l hl2 ?_) ?_
 ·simp (maxDischargeDepth:=9) only [AC,AL,↓reduceIte,Nat.reduceEqDiff,Nat.reduceLT,LM]
 ·intro ex2 s2 hX2;rcases DX with q2_ | q2_
  ·unfold Ma at hX2;dsimp only at hX2 h;obtain⟨rfl,n2_0⟩:=hX2;cases h;simp (maxDischargeDepth:=9) only [↓AP,AC,AL,↓reduceIte,n2_0]
  ·unfold Ma at hX2;dsimp only at hX2 h
   obtain rfl:=hX2
   cases h;simp (maxDischargeDepth:=9) only [↓AP,AC,AL,AR,↓reduceIte,Nat.reduceEqDiff,Nat.reduceLT,Int.reduceNeg]
noncomputable def Bt(s_:List Int)(f:Int→Option Bool):Option (Bool):= (gIF s_ f).bind fun BI=> some (decide (0≤BI))
def A3c:SC:= .seq (.ops [⟨some 4,.assign (.const (.bool false)),4,none⟩]) (.seq (.ops [⟨some 5,.move (.tmp 0),23,none⟩,⟨some 6,.move (.tmp 1),115,none⟩,⟨some 7,.call ⟨(.value (.func 155)), #[(.tmp 5),(.tmp 6)], #[23,115]⟩,3,none⟩,⟨some 8,.binOp .geq 3 (.tmp 7) (.const (.int .i64 0)) 3,4,none⟩,⟨some 4,.assign (.tmp 8),4,none⟩]) .ret)
theorem uu:Try.f131.body.map (Be lends)=some A3c:=by kernel_rfl
theorem ACH:Bu Try.f131 2=true:=by kernel_rfl
theorem AIc{a l:List D}{r:D×List D}(h:Bo Y.env A3c (fin Ad l.length [ResultVar.tmp 4] r) (entry a l))(ha:a.length=2):Y.call 131 a l=some r:=
 Ab (Y:=Y) rfl Try.func131 (ha▸ACH) uu h
theorem Iw(s_:List Int)(f:Int→Option Bool)(f_f:FuncId)(f_c:List D)(f_h: ∀(a0:Int) (r:Bool),f a0=some r→Y.call f_f (D.int .i64 a0::f_c) []=some (D.bool r,[]))(f_l:lends f_f=false){r:Bool}(h:Bt s_ f=some r):Y.call 131 [D.sl 3 (AQ (D.int .i64) s_),D.clo f_f f_c] []=some (D.bool r,[]):=by
 refine AIc ?_ rfl;unfold A3c;unfold Bt at h;obtain⟨BI,hl1,h⟩:=Aw h;try dsimp only at h
 have c1:=qA s_ f f_f f_c f_h f_l hl1;cases h;simp (maxDischargeDepth:=9) only [↓AP,AC,BV,AL,AR,↓reduceIte,Nat.reduceEqDiff,Nat.reduceLT,Nat.reduceAdd,c1]
noncomputable def Iy(n_ c0_ c1_:Int):Option (Bool):= some (!(JC n_ c0_ c1_))
def A3d:SC:= .seq (.ops [⟨some 4,.assign (.const (.bool false)),4,none⟩]) (.seq (.ops [⟨some 5,.move (.tmp 0),3,none⟩,⟨some 6,.load 3 (.tmp 1),3,none⟩,⟨some 7,.load 3 (.tmp 2),3,none⟩,⟨some 8,.call ⟨(.value (.func 77)), #[(.tmp 5),(.tmp 6),(.tmp 7)], #[3,3,3]⟩,4,none⟩,⟨some 9,.unOp .not 4 (.tmp 8),4,none⟩,⟨some 4,.assign (.tmp 9),4,none⟩]) .ret)
theorem uw:Try.f132.body.map (Be lends)=some A3d:=by kernel_rfl
theorem ACI:Bu Try.f132 3=true:=by kernel_rfl
theorem AId{a l:List D}{r:D×List D}(h:Bo Y.env A3d (fin Ad l.length [ResultVar.tmp 4] r) (entry a l))(ha:a.length=3):Y.call 132 a l=some r:=
 Ab (Y:=Y) rfl Try.func132 (ha▸ACI) uw h
theorem PP(n_ c0_ c1_:Int){r:Bool}(h:Iy n_ c0_ c1_=some r):Y.call 132 [D.int .i64 n_,D.cptr [D.int .i64 c0_],D.cptr [D.int .i64 c1_]] []=some (D.bool r,[]):=by
 refine AId ?_ rfl;unfold A3d;unfold Iy at h;have c1:=IG n_ c0_ c1_;cases h;simp (maxDischargeDepth:=9) only [↓AP,AC,BV,AL,AR,↓reduceIte,Nat.reduceEqDiff,Nat.reduceLT,Nat.reduceAdd,c1]
noncomputable def Lt(list:List Int)(low high:Int):Option (Bool):= (Bt list (fun a0=>Iy a0 low high)).bind fun BI=> some (!BI)
def k83:SC:= .seq (.ops [⟨some 4,.box 3 (.tmp 1),0,none⟩,⟨some 5,.box 3 (.tmp 2),0,none⟩,⟨some 6,.assign (.const (.bool false)),4,none⟩]) (.seq (.ops [⟨some 7,.move (.tmp 0),23,none⟩,⟨some 8,.makeFunc (Fn.func 132) #[] #[(.tmp 4),(.tmp 5)],115,none⟩,⟨some 9,.call ⟨(.value (.func 131)), #[(.tmp 7),(.tmp 8)], #[23,115]⟩,4,none⟩,⟨some 10,.unOp .not 4 (.tmp 9),4,none⟩,⟨some 6,.assign (.tmp 10),4,none⟩]) .ret)
theorem A3e:Try.f83.body.map (Be lends)=some k83:=by kernel_rfl
theorem AIf:Bu Try.f83 3=true:=by kernel_rfl
theorem c83{a l:List D}{r:D×List D}(h:Bo Y.env k83 (fin Ad l.length [ResultVar.tmp 6] r) (entry a l))(ha:a.length=3):Y.call 83 a l=some r:=
 Ab (Y:=Y) rfl Try.func83 (ha▸AIf) A3e h
theorem RD(list:List Int)(low high:Int){r:Bool}(h:Lt list low high=some r):Y.call 83 [D.sl 3 (AQ (D.int .i64) list),D.int .i64 low,D.int .i64 high] []=some (D.bool r,[]):=by
 refine c83 ?_ rfl;unfold k83;unfold Lt at h;obtain⟨BI,hl1,h⟩:=Aw h;try dsimp only at h
 have c1:=Iw list (fun a0=>Iy a0 low high) 132 [D.cptr [D.int .i64 low],D.cptr [D.int .i64 high]] (fun a0 _ hh=>PP a0 low high hh) pO hl1;cases h;simp (maxDischargeDepth:=9) only [↓AP,AC,BV,AL,AR,↓reduceIte,Nat.reduceEqDiff,Nat.reduceLT,Nat.reduceAdd,c1]
theorem YG(l:List Int)(f:Int→Option Bool)(p:Int→Bool)(h:l.length<1099511627776)(hf: ∀x∈l,f x=some (p x)):
  ∃r,gIF l f=some r∧(0≤r↔l.any p=true):=by
 unfold gIF YF;by_cases ha: ∀i,i<l.length→(!p (l.getD i default))=true
 ·have key:=Bb (fun v=>JP l f v) (fun i=>(i:Int)) l.length (.inr ()) ?_ ?_
  ·simp only [Int.natCast_zero]at key;rw [key]
   refine⟨-1,rfl,by simp,fun hc=> ?_⟩
   obtain⟨x,hx,hpx⟩:=List.any_eq_true.1 hc;obtain⟨i,hi,rfl⟩:=List.getElem_of_mem hx;have:=ha i hi
   rw [Av _ _ hi,hpx]at this;cases this
  ·intro i hi;simp only [JP];have e:=ha i hi;rw [Av _ _ hi]at e;rw [if_pos (BZ hi),BM (FV hi),JO _ _ hi,hf _ (List.getElem_mem hi),Option.bind_some,if_neg (by cases hp:p l[i]<;>simp_all),Je i (by omega)]
  ·simp only [JP];rw [if_neg (Aq _)]
 ·obtain⟨m,h1,h2,h3⟩:=NB (P:=fun i=> !p (l.getD i default)) ha;have key:=Bb (fun v=>JP l f v) (fun i=>(i:Int)) m (.inl (m:Int)) ?_ ?_
  ·simp only [Int.natCast_zero]at key;rw [key]
   refine⟨(m:Int),rfl,fun _=> ?_,fun _=>by omega⟩
   have h2':p l[m]=true:=by rw [Av _ _ h1]at h2;simpa using h2
   exact List.any_eq_true.2 ⟨_,List.getElem_mem h1,h2'⟩
  ·intro i hi;simp only [JP];have e:=h3 i hi;rw [Av _ _ (by omega)]at e
   rw [if_pos (BZ (by omega)),BM (FV (by omega)),JO _ _ (by omega),hf _ (List.getElem_mem _),Option.bind_some,if_neg (by cases hp:p l[i]<;>simp_all),Je i (by omega)]
  ·simp only [JP];have h2':p l[m]=true:=by rw [Av _ _ h1]at h2;simpa using h2
   rw [if_pos (BZ h1),BM (FV h1),JO _ _ h1,hf _ (List.getElem_mem _),Option.bind_some,if_pos h2']
theorem Sd(l:List Int)(f:Int→Option Bool)(p:Int→Bool)(h:l.length<1099511627776)(hf: ∀x∈l,f x=some (p x)):Bt l f=some (l.any p):=by
 obtain⟨r,h1,h2⟩:=YG l f p h hf;unfold Bt;rw [h1,Option.bind_some]
 congr 1
 rw [Bool.eq_iff_iff];simpa using h2
theorem Uc(l:List Int)(lo hi:Int)(h:l.length<1099511627776):Lt l lo hi=some (II l lo hi):=by
 unfold Lt;rw [Sd l (fun a0=>Iy a0 lo hi) (fun x=> !JC x lo hi) h (fun x _=>rfl),Option.bind_some];unfold II;rw [List.all_eq_not_any_not]
theorem Ud(list:List Int)(low high:Int)(h0:list.length<1099511627776):Y.call 83 [D.sl 3 (AQ (D.int .i64) list),D.int .i64 low,D.int .i64 high] []=some (D.bool (II list low high),[]):=RD list low high (Uc list low high h0)
theorem Rz.getD{l:List (List Int)}(h:Rz l)(i:Nat):(l.getD i default).length<1099511627776:=by
 rcases Nat.lt_or_ge i l.length with hi | hi
 ·rw [Av _ _ hi];exact h.at i hi
 ·rw [List.getD_eq_getElem?_getD,List.getElem?_eq_none hi];decide
end Go.Proofs.Ytipfckompmhljaa
