/- Networks copied, compared, measured; when lists are a network, as plain functions. Conditions: the lists are short. -/
import Derived.Test.YtipfckompmhljaaL6
import Derived.Test.YtipfckompmhljaaHas
import Derived.Test.YtipfckompmhljaaCon
namespace Go.Proofs.Ytipfckompmhljaa
open Go Dv
set_option linter.unusedSimpArgs false
set_option linter.unusedVariables false
set_option maxRecDepth 100000
set_option maxHeartbeats 4000000
def BU(l:List (List (Int×Int))):Prop:=l.length<1099511627776∧ ∀x∈l,x.length<549755813888
instance (l:List (List (Int×Int))):Decidable (BU l):=by unfold BU;infer_instance
theorem BU.at{l:List (List (Int×Int))}(h:BU l)(i:Nat)(hi:i<l.length):l[i].length<549755813888:=h.2 _ (List.getElem_mem hi)
theorem BU.getD{l:List (List (Int×Int))}(h:BU l)(i:Nat):(l.getD i default).length<549755813888:=by
 by_cases hi:i<l.length
 ·rw [Av _ _ hi];exact h.at i hi
 ·rw [List.getD_eq_getElem?_getD,List.getElem?_eq_none (by omega)];decide
theorem ACM{a:List (Int×Int)}{i:Nat}(h:i<a.length):(BA a i,Bc a i)=a[i]:=by
 unfold BA Bc;rw [Av _ _ h]
noncomputable def TI(a_Node a_Port:Int):Option (Int×Int):= some (a_Node,a_Port)
def A3i:SC:= .seq (.ops [⟨some 1,.box 141 (.tmp 0),0,none⟩,⟨some 2,.alloc 102,0,none⟩]) (.seq (.ops [⟨some 3,.alloc 102,0,none⟩]) (.seq (.ops [⟨some 4,.fieldAddr 141 (.tmp 1) 0,0,none⟩,⟨some 5,.load 3 (.tmp 4),3,none⟩,⟨some 6,.fieldAddr 102 (.tmp 3) 0,0,none⟩,⟨none,.store 3 (.tmp 6) (.tmp 5),0,none⟩]) (.seq (.ops [⟨some 7,.fieldAddr 141 (.tmp 1) 1,0,none⟩,⟨some 8,.load 3 (.tmp 7),3,none⟩,⟨some 9,.fieldAddr 102 (.tmp 3) 1,0,none⟩,⟨none,.store 3 (.tmp 9) (.tmp 8),0,none⟩]) (.seq (.ops [⟨some 10,.load 102 (.tmp 3),102,none⟩,⟨none,.store 102 (.tmp 2) (.tmp 10),0,none⟩]) .ret))))
theorem uz:Try.f125.body.map (Be lends)=some A3i:=by kernel_rfl
theorem ACN:Bu Try.f125 1=true:=by kernel_rfl
theorem AIl{a l:List D}{r:D×List D}(h:Bo Y.env A3i (fin Ad l.length [ResultVar.cell 2 102] r) (entry a l))(ha:a.length=1):Y.call 125 a l=some r:=
 Ab (Y:=Y) rfl Try.func125 (ha▸ACN) uz h
theorem YL(a_Node a_Port:Int){r:Int×Int}(h:TI a_Node a_Port=some r):Y.call 125 [D.agg [D.int .i64 a_Node,D.int .i64 a_Port]] []=some (D.agg [D.int .i64 r.1,D.int .i64 r.2],[]):=by
 refine AIl ?_ rfl;unfold A3i;unfold TI at h;cases h;simp (maxDischargeDepth:=9) only [↓AP,AC,BV,AL,AR,↓reduceIte,Nat.reduceEqDiff,Nat.reduceLT,Nat.reduceAdd]
noncomputable def Gm(a:List (Int×Int))(out:List (Int×Int))(i:Int):Option (((List (Int×Int))×Int)⊕((List (Int×Int)))):= if i<(a.length:Int)then ck (0≤i∧i.toNat<a.length)<| (TI (BA a i.toNat) (Bc a i.toNat)).bind fun DR=> ck (0≤i∧i.toNat<out.length)<| some (Sum.inl ((out.set i.toNat (DR.1,DR.2)),IntKind.i64.wrap (i+1))) else some (Sum.inr out)
noncomputable def Lu(a:List (Int×Int))(v:(List (Int×Int))×Int):Option ((List (Int×Int))):=Ht (fun v=>Gm a v.1 v.2) v
noncomputable def QM(a:List (Int×Int)):Option ((List (Int×Int))):= ck (0≤(a.length:Int)∧(a.length:Int)<1099511627776)<| (Lu a ((List.replicate a.length (0,0)),0)).bind fun E8=> some E8
def YM:SC:= .seq (.seq (.ops [⟨some 8,.move (.tmp 4),3,none⟩,⟨some 9,.move (.tmp 0),97,none⟩,⟨some 10,.call ⟨(.builtin .len), #[(.tmp 9)], #[97]⟩,3,none⟩,⟨some 11,.binOp .lss 3 (.tmp 8) (.tmp 10) 3,4,none⟩]) (.cond (.tmp 11) .skip (.exit 0))) (.seq (.block 1 (.ops [⟨some 14,.move (.tmp 3),100,none⟩,⟨some 15,.move (.tmp 4),3,none⟩,⟨some 16,.move (.tmp 0),97,none⟩,⟨some 17,.move (.tmp 4),3,none⟩,⟨some 18,.indexAddr 97 (.tmp 16) (.tmp 17),0,none⟩,⟨some 19,.load 141 (.tmp 18),141,none⟩,⟨some 20,.call ⟨(.value (.func 125)), #[(.tmp 19)], #[141]⟩,102,none⟩,⟨some 21,.indexAddr 100 (.tmp 14) (.tmp 15),0,none⟩,⟨none,.store 102 (.tmp 21) (.tmp 20),0,none⟩])) (.ops [⟨some 12,.move (.tmp 4),3,none⟩,⟨some 13,.binOp .add 3 (.tmp 12) (.const (.int .i64 1)) 3,3,none⟩,⟨some 4,.assign (.tmp 13),3,none⟩]))
def qF:SC:= .loop YM
def k76:SC:= .seq (.ops [⟨some 2,.assign (.const (.slice none 0 0)),100,none⟩]) (.seq (.ops [⟨some 5,.move (.tmp 0),97,none⟩,⟨some 6,.call ⟨(.builtin .len), #[(.tmp 5)], #[97]⟩,3,none⟩,⟨some 7,.makeSlice 100 (.tmp 6) (.tmp 6),100,none⟩,⟨some 3,.assign (.tmp 7),100,none⟩]) (.seq (.seq (.ops [⟨some 4,.assign (.const (.int .i64 0)),3,none⟩]) (.block 0 qF)) (.seq (.ops [⟨some 22,.move (.tmp 3),100,none⟩,⟨some 2,.assign (.tmp 22),100,none⟩]) .ret)))
theorem A3j:Try.f76.body.map (Be lends)=some k76:=by kernel_rfl
theorem AIn:Bu Try.f76 1=true:=by kernel_rfl
theorem c76{a l:List D}{r:D×List D}(h:Bo Y.env k76 (fin Ad l.length [ResultVar.tmp 2] r) (entry a l))(ha:a.length=1):Y.call 76 a l=some r:=
 Ab (Y:=Y) rfl Try.func76 (ha▸AIn) A3j h
def Gn(a:List (Int×Int))(out:List (Int×Int))(i:Int)(s:St):Prop:=s.v 0=D.sl 141 (Ai .i64 .i64 a)∧s.v 3=D.own 102 (Ai .i64 .i64 out)∧s.v 4=D.int .i64 i
def Js(a:List (Int×Int))(r:(List (Int×Int)))(ex:Ex)(s:St):Prop:=ex= .exit 0∧s.v 3=D.own 102 (Ai .i64 .i64 r)
theorem Ug(a:List (Int×Int)){v:(List (Int×Int))×Int}{s:St}{r:(List (Int×Int))}(h:Lu a v=some r)(hM:Gn a v.1 v.2 s):Bo Y.env qF (Js a r) s:=by
 unfold Lu at h;refine BR (c:=YM) (fun v=>Gm a v.1 v.2) (fun v s=>Gn a v.1 v.2 s) (Js a) ?_ h hM;clear h hM s v r;intro v s o hM h;obtain⟨out,i⟩:=v;dsimp only at h hM;unfold Gm at h;unfold Gn at hM;obtain⟨m0,m1,m2⟩:=hM;unfold YM;by_cases e2:i<(a.length:Int)
 ·rw [if_pos e2]at h;obtain⟨e3,h⟩:=BO h;obtain⟨DR,hl4,h⟩:=Aw h;try dsimp only at h
  have c4:=YL (BA a i.toNat) (Bc a i.toNat) hl4;obtain⟨e5,h⟩:=BO h;cases h;simp (maxDischargeDepth:=9) only [↓AP,AC,BV,AL,AR,↓reduceIte,Nat.reduceEqDiff,Nat.reduceLT,Nat.reduceAdd,m0,m1,m2,e2,e3.1,e3.2,c4,e5.2,Gn,G9]
 ·rw [if_neg e2]at h;cases h;simp (maxDischargeDepth:=9) only [↓AP,AC,BV,AR,↓reduceIte,Nat.reduceEqDiff,Nat.reduceLT,m0,m1,m2,e2,Gn,Js,JF]
theorem WF(a:List (Int×Int)){r:(List (Int×Int))}(h:QM a=some r):Y.call 76 [D.sl 141 (Ai .i64 .i64 a)] []=some (D.own 102 (Ai .i64 .i64 r),[]):=by
 refine c76 ?_ rfl;unfold k76;unfold QM at h;obtain⟨e1,h⟩:=BO h;obtain⟨E8,hl3,h⟩:=Aw h;try dsimp only at h
 simp (maxDischargeDepth:=9) only [↓AP,AC,BV,AL,AR,↓reduceIte,Nat.reduceEqDiff,Nat.reduceLT,Nat.reduceLeDiff,e1.1,e1.2];refine BC (Ug a hl3 ?_) ?_
 ·simp (maxDischargeDepth:=9) only [AC,AL,↓reduceIte,Nat.reduceEqDiff,Nat.reduceLT,Gn]
 ·intro ex3 s3 hX3;unfold Js at hX3;obtain⟨rfl,n3_0⟩:=hX3;cases h;simp (maxDischargeDepth:=9) only [↓AP,AC,BV,AL,↓reduceIte,Nat.reduceEqDiff,Nat.reduceLT,n3_0]
theorem bN(a:List (Int×Int))(h:a.length<549755813888):QM a=some a:=by
 have key:=Bb (fun v=>Gm a v.1 v.2) (fun i=>(a.take i++List.replicate (a.length-i) (0,0),(i:Int))) a.length a ?_ ?_
 ·unfold QM Lu;rw [BM (by omega)]
  simp only [List.take_zero,List.nil_append,Nat.sub_zero,Int.natCast_zero]at key;rw [key];rfl
 ·intro i hi;simp only [Gm,TI,Int.toNat_natCast];rw [if_pos (BZ hi),BM (by omega),Option.bind_some,BM (by simp;omega),ACM hi,Y4 a i hi (0,0),Je i (by omega)]
 ·simp only [Gm];rw [if_neg (Aq _)];simp
theorem bP(a:List (Int×Int))(h0:a.length<549755813888):Y.call 76 [D.sl 141 (Ai .i64 .i64 a)] []=some (D.own 102 (Ai .i64 .i64 a),[]):=WF a (bN a h0)
noncomputable def FW(a:List (List (Int×Int)))(out:List (List (Int×Int)))(i:Int):Option (((List (List (Int×Int)))×Int)⊕((List (List (Int×Int))))):= if i<(a.length:Int)then ck (0≤i∧i.toNat<a.length)<| ck ((a.getD i.toNat default).length<549755813888)<| ck (0≤i∧i.toNat<out.length)<| some (Sum.inl ((out.set i.toNat (a.getD i.toNat default)),IntKind.i64.wrap (i+1))) else some (Sum.inr out)
noncomputable def Kh(a:List (List (Int×Int)))(v:(List (List (Int×Int)))×Int):Option ((List (List (Int×Int)))):=Ht (fun v=>FW a v.1 v.2) v
noncomputable def Oh(a:List (List (Int×Int))):Option ((List (List (Int×Int)))):= ck (0≤(a.length:Int)∧(a.length:Int)<1099511627776)<| (Kh a ((List.replicate a.length ([]:List (Int×Int))),0)).bind fun E8=> some E8
def YN:SC:= .seq (.seq (.ops [⟨some 8,.move (.tmp 4),3,none⟩,⟨some 9,.move (.tmp 0),22,none⟩,⟨some 10,.call ⟨(.builtin .len), #[(.tmp 9)], #[22]⟩,3,none⟩,⟨some 11,.binOp .lss 3 (.tmp 8) (.tmp 10) 3,4,none⟩]) (.cond (.tmp 11) .skip (.exit 0))) (.seq (.block 1 (.ops [⟨some 14,.move (.tmp 3),29,none⟩,⟨some 15,.move (.tmp 4),3,none⟩,⟨some 16,.move (.tmp 0),22,none⟩,⟨some 17,.move (.tmp 4),3,none⟩,⟨some 18,.indexAddr 22 (.tmp 16) (.tmp 17),0,none⟩,⟨some 19,.load 97 (.tmp 18),97,none⟩,⟨some 20,.call ⟨(.value (.func 76)), #[(.tmp 19)], #[97]⟩,100,none⟩,⟨some 21,.indexAddr 29 (.tmp 14) (.tmp 15),0,none⟩,⟨none,.store 100 (.tmp 21) (.tmp 20),0,none⟩])) (.ops [⟨some 12,.move (.tmp 4),3,none⟩,⟨some 13,.binOp .add 3 (.tmp 12) (.const (.int .i64 1)) 3,3,none⟩,⟨some 4,.assign (.tmp 13),3,none⟩]))
def qG:SC:= .loop YN
def k36:SC:= .seq (.ops [⟨some 2,.assign (.const (.slice none 0 0)),29,none⟩]) (.seq (.ops [⟨some 5,.move (.tmp 0),22,none⟩,⟨some 6,.call ⟨(.builtin .len), #[(.tmp 5)], #[22]⟩,3,none⟩,⟨some 7,.makeSlice 29 (.tmp 6) (.tmp 6),29,none⟩,⟨some 3,.assign (.tmp 7),29,none⟩]) (.seq (.seq (.ops [⟨some 4,.assign (.const (.int .i64 0)),3,none⟩]) (.block 0 qG)) (.seq (.ops [⟨some 22,.move (.tmp 3),29,none⟩,⟨some 2,.assign (.tmp 22),29,none⟩]) .ret)))
theorem A3k:Try.f36.body.map (Be lends)=some k36:=by kernel_rfl
theorem AIp:Bu Try.f36 1=true:=by kernel_rfl
theorem qH{a l:List D}{r:D×List D}(h:Bo Y.env k36 (fin Ad l.length [ResultVar.tmp 2] r) (entry a l))(ha:a.length=1):Y.call 36 a l=some r:=
 Ab (Y:=Y) rfl Try.func36 (ha▸AIp) A3k h
def FX(a:List (List (Int×Int)))(out:List (List (Int×Int)))(i:Int)(s:St):Prop:=s.v 0=D.sl 97 (AQ (fun x=>D.sl 141 (Ai .i64 .i64 x)) a)∧s.v 3=D.own 100 (AQ (fun x=>D.own 102 (Ai .i64 .i64 x)) out)∧s.v 4=D.int .i64 i
def JR(a:List (List (Int×Int)))(r:(List (List (Int×Int))))(ex:Ex)(s:St):Prop:=ex= .exit 0∧s.v 3=D.own 100 (AQ (fun x=>D.own 102 (Ai .i64 .i64 x)) r)
theorem Sg(a:List (List (Int×Int))){v:(List (List (Int×Int)))×Int}{s:St}{r:(List (List (Int×Int)))}(h:Kh a v=some r)(hM:FX a v.1 v.2 s):Bo Y.env qG (JR a r) s:=by
 unfold Kh at h;refine BR (c:=YN) (fun v=>FW a v.1 v.2) (fun v s=>FX a v.1 v.2 s) (JR a) ?_ h hM;clear h hM s v r;intro v s o hM h;obtain⟨out,i⟩:=v;dsimp only at h hM;unfold FW at h;unfold FX at hM;obtain⟨m0,m1,m2⟩:=hM;unfold YN;by_cases e2:i<(a.length:Int)
 ·rw [if_pos e2]at h;obtain⟨e3,h⟩:=BO h;obtain⟨e4,h⟩:=BO h;have c5:=bP (a.getD i.toNat default) e4;obtain⟨e6,h⟩:=BO h;cases h;simp (maxDischargeDepth:=9) only [↓AP,AC,Ae,BV,AL,AR,↓reduceIte,Nat.reduceEqDiff,Nat.reduceLT,Nat.reduceAdd,m0,m1,m2,e2,e3.1,e3.2,c5,e6.2,FX,G9]
 ·rw [if_neg e2]at h;cases h;simp (maxDischargeDepth:=9) only [↓AP,AC,Ae,AR,↓reduceIte,Nat.reduceEqDiff,Nat.reduceLT,m0,m1,m2,e2,FX,JR,JF]
theorem Uh(a:List (List (Int×Int))){r:(List (List (Int×Int)))}(h:Oh a=some r):Y.call 36 [D.sl 97 (AQ (fun x=>D.sl 141 (Ai .i64 .i64 x)) a)] []=some (D.own 100 (AQ (fun x=>D.own 102 (Ai .i64 .i64 x)) r),[]):=by
 refine qH ?_ rfl;unfold k36;unfold Oh at h;obtain⟨e1,h⟩:=BO h;obtain⟨E8,hl3,h⟩:=Aw h;try dsimp only at h
 simp (maxDischargeDepth:=9) only [↓AP,AC,Ae,AL,AR,↓reduceIte,Nat.reduceEqDiff,Nat.reduceLT,Nat.reduceLeDiff,e1.1,e1.2];refine BC (Sg a hl3 ?_) ?_
 ·simp (maxDischargeDepth:=9) only [AC,AL,↓reduceIte,Nat.reduceEqDiff,Nat.reduceLT,FX]<;>(repeat' apply And.intro)<;>first | rfl | exact⟨_,rfl⟩ | exact⟨_,_,rfl⟩ | simp [AQ,Ar]
 ·intro ex3 s3 hX3;unfold JR at hX3;obtain⟨rfl,n3_0⟩:=hX3;cases h;simp (maxDischargeDepth:=9) only [↓AP,AC,Ae,BV,AL,↓reduceIte,Nat.reduceEqDiff,Nat.reduceLT,n3_0]
theorem YO(a:List (List (Int×Int)))(h:BU a):Oh a=some a:=by
 have h1:=h.1;have key:=Bb (fun v=>FW a v.1 v.2) (fun i=>(a.take i++List.replicate (a.length-i) [],(i:Int))) a.length a ?_ ?_
 ·unfold Oh Kh;rw [BM (by omega)]
  simp only [List.take_zero,List.nil_append,Nat.sub_zero,Int.natCast_zero]at key;rw [key];rfl
 ·intro i hi;simp only [FW];rw [if_pos (BZ hi),BM (FV hi),BM (by rw [JO _ _ hi];exact h.at i hi),BM (FV (by simp;omega)),JO _ _ hi,Int.toNat_natCast,Y4 a i hi [],Je i (by omega)]
 ·simp only [FW];rw [if_neg (Aq _)];simp
theorem YP(a:List (List (Int×Int)))(h0:BU a):Y.call 36 [D.sl 97 (AQ (fun x=>D.sl 141 (Ai .i64 .i64 x)) a)] []=some (D.own 100 (AQ (fun x=>D.own 102 (Ai .i64 .i64 x)) a),[]):=Uh a (YO a h0)
noncomputable def Lv(Am:List (List (Int×Int)))(BH Ak:List Int):Option ((List (List (Int×Int)))×(List Int)×(List Int)):= ck (BU Am)<| ck (BH.length<1099511627776)<| ck (Ak.length<1099511627776)<| some (Am,BH,Ak)
def k10:SC:= .seq (.ops [⟨some 1,.box 25 (.tmp 0),0,none⟩,⟨some 2,.alloc 31,0,none⟩]) (.seq (.ops [⟨some 3,.alloc 31,0,none⟩]) (.seq (.ops [⟨some 4,.fieldAddr 25 (.tmp 1) 0,0,none⟩,⟨some 5,.load 22 (.tmp 4),22,none⟩,⟨some 6,.call ⟨(.value (.func 36)), #[(.tmp 5)], #[22]⟩,29,none⟩,⟨some 7,.fieldAddr 31 (.tmp 3) 0,0,none⟩,⟨none,.store 29 (.tmp 7) (.tmp 6),0,none⟩]) (.seq (.ops [⟨some 8,.fieldAddr 25 (.tmp 1) 1,0,none⟩,⟨some 9,.load 23 (.tmp 8),23,none⟩,⟨some 10,.call ⟨(.value (.func 11)), #[(.tmp 9)], #[23]⟩,23,none⟩,⟨some 11,.fieldAddr 31 (.tmp 3) 1,0,none⟩,⟨none,.store 23 (.tmp 11) (.tmp 10),0,none⟩]) (.seq (.ops [⟨some 12,.fieldAddr 25 (.tmp 1) 2,0,none⟩,⟨some 13,.load 23 (.tmp 12),23,none⟩,⟨some 14,.call ⟨(.value (.func 11)), #[(.tmp 13)], #[23]⟩,23,none⟩,⟨some 15,.fieldAddr 31 (.tmp 3) 2,0,none⟩,⟨none,.store 23 (.tmp 15) (.tmp 14),0,none⟩]) (.seq (.ops [⟨some 16,.load 31 (.tmp 3),31,none⟩,⟨none,.store 31 (.tmp 2) (.tmp 16),0,none⟩]) .ret)))))
theorem A3l:Try.f10.body.map (Be lends)=some k10:=by kernel_rfl
theorem AIr:Bu Try.f10 1=true:=by kernel_rfl
theorem XC{a l:List D}{r:D×List D}(h:Bo Y.env k10 (fin Ad l.length [ResultVar.cell 2 31] r) (entry a l))(ha:a.length=1):Y.call 10 a l=some r:=
 Ab (Y:=Y) rfl Try.func10 (ha▸AIr) A3l h
theorem RF(Am:List (List (Int×Int)))(BH Ak:List Int){r:(List (List (Int×Int)))×(List Int)×(List Int)}(h:Lv Am BH Ak=some r):Y.call 10 [D.agg [D.sl 97 (AQ (fun x=>D.sl 141 (Ai .i64 .i64 x)) Am),D.sl 3 (AQ (D.int .i64) BH),D.sl 3 (AQ (D.int .i64) Ak)]] []=some (D.agg [D.own 100 (AQ (fun x=>D.own 102 (Ai .i64 .i64 x)) r.1),D.own 3 (AQ (D.int .i64) r.2.1),D.own 3 (AQ (D.int .i64) r.2.2)],[]):=by
 refine XC ?_ rfl;unfold k10;unfold Lv at h;obtain⟨e1,h⟩:=BO h;have c2:=YP Am e1;obtain⟨e3,h⟩:=BO h;have c4:=S9 BH e3;obtain⟨e5,h⟩:=BO h;have c6:=S9 Ak e5;cases h;simp (maxDischargeDepth:=9) only [↓AP,AC,Ae,BV,AL,AR,↓reduceIte,Nat.reduceEqDiff,Nat.reduceLT,Nat.reduceAdd,c2,c4,c6]
theorem Ui(a:List (List (Int×Int)))(b c:List Int)(h:BU a)(hb:b.length<1099511627776)(hc:c.length<1099511627776):Lv a b c=some (a,b,c):=by
 unfold Lv;rw [BM h,BM hb,BM hc]
theorem FY(Am:List (List (Int×Int)))(BH Ak:List Int)(h0:BU Am)(h1:BH.length<1099511627776)(h2:Ak.length<1099511627776):Y.call 10 [D.agg [D.sl 97 (AQ (fun x=>D.sl 141 (Ai .i64 .i64 x)) Am),D.sl 3 (AQ (D.int .i64) BH),D.sl 3 (AQ (D.int .i64) Ak)]] []=some (D.agg [D.own 100 (AQ (fun x=>D.own 102 (Ai .i64 .i64 x)) Am),D.own 3 (AQ (D.int .i64) BH),D.own 3 (AQ (D.int .i64) Ak)],[]):=RF Am BH Ak (Ui Am BH Ak h0 h1 h2)
noncomputable def QN(a_Node a_Port b_Node b_Port:Int):Option (Bool):= if a_Node=b_Node then if a_Port=b_Port then some true else some false else some false
def A3m:SC:= .seq (.ops [⟨some 2,.box 102 (.tmp 0),0,none⟩,⟨some 3,.box 102 (.tmp 1),0,none⟩,⟨some 4,.assign (.const (.bool false)),4,none⟩]) (.seq (.seq (.ops [⟨some 5,.fieldAddr 102 (.tmp 2) 0,0,none⟩,⟨some 6,.load 3 (.tmp 5),3,none⟩,⟨some 7,.fieldAddr 102 (.tmp 3) 0,0,none⟩,⟨some 8,.load 3 (.tmp 7),3,none⟩,⟨some 9,.binOp .neq 3 (.tmp 6) (.tmp 8) 3,4,none⟩]) (.cond (.tmp 9) (.seq (.ops [⟨some 4,.assign (.const (.bool false)),4,none⟩]) .ret) .skip)) (.seq (.seq (.ops [⟨some 10,.fieldAddr 102 (.tmp 2) 1,0,none⟩,⟨some 11,.load 3 (.tmp 10),3,none⟩,⟨some 12,.fieldAddr 102 (.tmp 3) 1,0,none⟩,⟨some 13,.load 3 (.tmp 12),3,none⟩,⟨some 14,.binOp .neq 3 (.tmp 11) (.tmp 13) 3,4,none⟩]) (.cond (.tmp 14) (.seq (.ops [⟨some 4,.assign (.const (.bool false)),4,none⟩]) .ret) .skip)) (.seq (.ops [⟨some 4,.assign (.const (.bool true)),4,none⟩]) .ret)))
theorem vB:Try.f134.body.map (Be lends)=some A3m:=by kernel_rfl
theorem ACO:Bu Try.f134 2=true:=by kernel_rfl
theorem AIs{a l:List D}{r:D×List D}(h:Bo Y.env A3m (fin Ad l.length [ResultVar.tmp 4] r) (entry a l))(ha:a.length=2):Y.call 134 a l=some r:=
 Ab (Y:=Y) rfl Try.func134 (ha▸ACO) vB h
theorem YQ(a_Node a_Port b_Node b_Port:Int){r:Bool}(h:QN a_Node a_Port b_Node b_Port=some r):Y.call 134 [D.agg [D.int .i64 a_Node,D.int .i64 a_Port],D.agg [D.int .i64 b_Node,D.int .i64 b_Port]] []=some (D.bool r,[]):=by
 refine AIs ?_ rfl;unfold A3m;unfold QN at h;by_cases e1:a_Node=b_Node
 ·rw [if_pos e1]at h;by_cases e2:a_Port=b_Port
  ·rw [if_pos e2]at h;cases h;simp (maxDischargeDepth:=9) only [↓AP,AC,AL,AR,↓reduceIte,Nat.reduceEqDiff,Nat.reduceLT,Nat.reduceAdd,decide_eq_true e1,decide_eq_true e2]
  ·rw [if_neg e2]at h;cases h;simp (maxDischargeDepth:=9) only [↓AP,AC,AL,AR,↓reduceIte,Nat.reduceEqDiff,Nat.reduceLT,Nat.reduceAdd,decide_eq_true e1,e2]
 ·rw [if_neg e1]at h;cases h;simp (maxDischargeDepth:=9) only [↓AP,AC,AL,AR,↓reduceIte,Nat.reduceEqDiff,Nat.reduceLT,Nat.reduceAdd,e1]
noncomputable def Gp(a:List (Int×Int))(b:List (Int×Int))(i:Int):Option ((Int)⊕(Unit⊕Unit)):= if i<(a.length:Int)then ck (0≤i∧i.toNat<a.length)<| ck (0≤i∧i.toNat<b.length)<| (QN (BA a i.toNat) (Bc a i.toNat) (BA b i.toNat) (Bc b i.toNat)).bind fun Nj=> if Nj=true then some (Sum.inl (IntKind.i64.wrap (i+1))) else some (Sum.inr (Sum.inl ())) else some (Sum.inr (Sum.inr ()))
noncomputable def Lx(a:List (Int×Int))(b:List (Int×Int))(v:Int):Option (Unit⊕Unit):=Ht (fun v=>Gp a b v) v
noncomputable def QO(a:List (Int×Int))(b:List (Int×Int)):Option (Bool):=
 if(a.length:Int)=(b.length:Int)then
  (Lx a b 0).bind fun E8=>
  match E8 with
  | .inl q3_=>
   some false
  | .inr q3_=>
   some true
 else
  some false
def YR:SC:= .seq (.seq (.ops [⟨some 11,.move (.tmp 5),3,none⟩,⟨some 12,.move (.tmp 0),100,none⟩,⟨some 13,.call ⟨(.builtin .len), #[(.tmp 12)], #[100]⟩,3,none⟩,⟨some 14,.binOp .lss 3 (.tmp 11) (.tmp 13) 3,4,none⟩]) (.cond (.tmp 14) .skip (.exit 0))) (.seq (.block 1 (.seq (.draws [(⟨[17,0,0],[17,18,19,20,21,22,23,24,25,26],[17]⟩,⟨some 17,.move (.tmp 0),100,none⟩),(⟨[18,5,5],[17,18,19,20,21,22,23,24,25,26],[18]⟩,⟨some 18,.move (.tmp 5),3,none⟩),(⟨[19,17,18,0,5],[17,18,19,20,21,22,23,24,25,26],[19]⟩,⟨some 19,.indexAddr 100 (.tmp 17) (.tmp 18),0,none⟩),(⟨[20,19,0],[17,18,19,20,21,22,23,24,25,26],[20]⟩,⟨some 20,.load 102 (.tmp 19),102,none⟩),(⟨[21,1,1],[17,18,19,20,21,22,23,24,25,26],[21]⟩,⟨some 21,.move (.tmp 1),100,none⟩),(⟨[22,5,5],[17,18,19,20,21,22,23,24,25,26],[22]⟩,⟨some 22,.move (.tmp 5),3,none⟩),(⟨[23,21,22,1,5],[17,18,19,20,21,22,23,24,25,26],[23]⟩,⟨some 23,.indexAddr 100 (.tmp 21) (.tmp 22),0,none⟩),(⟨[24,23,1],[17,18,19,20,21,22,23,24,25,26],[24]⟩,⟨some 24,.load 102 (.tmp 23),102,none⟩),(⟨[25,20,24,0,1],[17,18,19,20,21,22,23,24,25,26],[25]⟩,⟨some 25,.call ⟨(.value (.func 134)), #[(.tmp 20),(.tmp 24)], #[102,102]⟩,4,none⟩),(⟨[26,25,25],[17,18,19,20,21,22,23,24,25,26],[26]⟩,⟨some 26,.unOp .not 4 (.tmp 25),4,none⟩)])
 (.cond (.tmp 26) (.seq (.ops [⟨some 4,.assign (.const (.bool false)),4,none⟩]) .ret) .skip))) (.ops [⟨some 15,.move (.tmp 5),3,none⟩,⟨some 16,.binOp .add 3 (.tmp 15) (.const (.int .i64 1)) 3,3,none⟩,⟨some 5,.assign (.tmp 16),3,none⟩]))
def qI:SC:= .loop YR
def k87:SC:= .seq (.ops [⟨some 4,.assign (.const (.bool false)),4,none⟩]) (.seq (.seq (.ops [⟨some 6,.move (.tmp 0),100,none⟩,⟨some 7,.call ⟨(.builtin .len), #[(.tmp 6)], #[100]⟩,3,none⟩,⟨some 8,.move (.tmp 1),100,none⟩,⟨some 9,.call ⟨(.builtin .len), #[(.tmp 8)], #[100]⟩,3,none⟩,⟨some 10,.binOp .neq 3 (.tmp 7) (.tmp 9) 3,4,none⟩]) (.cond (.tmp 10) (.seq (.ops [⟨some 4,.assign (.const (.bool false)),4,none⟩]) .ret) .skip)) (.seq (.seq (.ops [⟨some 5,.assign (.const (.int .i64 0)),3,none⟩]) (.block 0 qI)) (.seq (.ops [⟨some 4,.assign (.const (.bool true)),4,none⟩]) .ret)))
theorem A3n:Try.f87.body.map (Be lends)=some k87:=by kernel_rfl
theorem AIu:Bu Try.f87 2=true:=by kernel_rfl
theorem c87{a l:List D}{r:D×List D}(h:Bo Y.env k87 (fin Ad l.length [ResultVar.tmp 4] r) (entry a l))(ha:a.length=2):Y.call 87 a l=some r:=
 Ab (Y:=Y) rfl Try.func87 (ha▸AIu) A3n h
def FF(a:List (Int×Int))(b:List (Int×Int))(i:Int)(s:St):Prop:=s.v 0=D.sl 102 (Ai .i64 .i64 a)∧s.v 1=D.sl 102 (Ai .i64 .i64 b)∧s.v 5=D.int .i64 i
def Gq(a:List (Int×Int))(b:List (Int×Int))(r:Unit⊕Unit)(ex:Ex)(s:St):Prop:=match r with
 | .inl q=>ex= .ret∧s.v 4=D.bool false
 | .inr q=>ex= .exit 0
theorem Uj(a:List (Int×Int))(b:List (Int×Int)){v:Int}{s:St}{r:Unit⊕Unit}(h:Lx a b v=some r)(hM:FF a b v s):Bo Y.env qI (Gq a b r) s:=by
 unfold Lx at h;refine BR (c:=YR) (fun v=>Gp a b v) (fun v s=>FF a b v s) (Gq a b) ?_ h hM;clear h hM s v r;intro i s o hM h;unfold Gp at h;unfold FF at hM;obtain⟨m0,m1,m2⟩:=hM;unfold YR;by_cases e2:i<(a.length:Int)
 ·rw [if_pos e2]at h;obtain⟨e3,h⟩:=BO h;obtain⟨e4,h⟩:=BO h;obtain⟨Nj,hl5,h⟩:=Aw h;try dsimp only at h
  have c5:=YQ (BA a i.toNat) (Bc a i.toNat) (BA b i.toNat) (Bc b i.toNat) hl5;by_cases e6:Nj=true
  ·rw [if_pos e6]at h;cases h;simp (maxDischargeDepth:=9) only [↓AP,AC,BV,AL,AR,↓reduceIte,Nat.reduceEqDiff,Nat.reduceLT,Nat.reduceAdd,m0,m1,m2,e2,e3.1,e3.2,e4.2,c5,e6,FF,G9]
  ·rw [if_neg e6]at h;have e6f:Nj=false:=Bool.eq_false_iff.mpr e6;cases h;simp (maxDischargeDepth:=9) only [↓AP,AC,BV,AL,AR,↓reduceIte,Nat.reduceEqDiff,Nat.reduceLT,Nat.reduceAdd,m0,m1,m2,e2,e3.1,e3.2,e4.2,c5,e6f,FF,Gq,MX]
 ·rw [if_neg e2]at h;cases h;simp (maxDischargeDepth:=9) only [↓AP,AC,BV,AR,↓reduceIte,Nat.reduceEqDiff,Nat.reduceLT,m0,m2,e2,FF,Gq,JF]
theorem WG(a:List (Int×Int))(b:List (Int×Int)){r:Bool}(h:QO a b=some r):Y.call 87 [D.sl 102 (Ai .i64 .i64 a),D.sl 102 (Ai .i64 .i64 b)] []=some (D.bool r,[]):=by
 refine c87 ?_ rfl;unfold k87;unfold QO at h;by_cases e1:(a.length:Int)=(b.length:Int)
 ·rw [if_pos e1]at h;obtain⟨E8,hl3,h⟩:=Aw h;try dsimp only at h
  simp (maxDischargeDepth:=9) only [↓AP,AC,BV,AL,AR,↓reduceIte,Nat.reduceEqDiff,Nat.reduceLT,decide_eq_true e1];refine BC (Uj a b hl3 ?_) ?_
  ·simp (maxDischargeDepth:=9) only [AC,AL,↓reduceIte,Nat.reduceEqDiff,Nat.reduceLT,FF]
  ·intro ex3 s3 hX3;rcases E8 with q3_ | q3_
   ·unfold Gq at hX3;dsimp only at hX3 h;obtain⟨rfl,n3_0⟩:=hX3;cases h;simp (maxDischargeDepth:=9) only [↓AP,AC,AL,↓reduceIte,n3_0]
   ·unfold Gq at hX3;dsimp only at hX3 h
    obtain rfl:=hX3
    cases h;simp (maxDischargeDepth:=9) only [↓AP,AC,AL,AR,↓reduceIte,Nat.reduceEqDiff,Nat.reduceLT]
 ·rw [if_neg e1]at h;cases h;simp (maxDischargeDepth:=9) only [↓AP,AC,BV,AL,AR,↓reduceIte,Nat.reduceEqDiff,Nat.reduceLT,e1]
theorem gQ(a b c d:Int):QN a b c d=some (decide ((a,b)=(c,d))):=by
 unfold QN;by_cases h1:a=c<;>by_cases h2:b=d<;>simp [h1,h2]
theorem bQ(a b:List (Int×Int))(ha:a.length<549755813888):QO a b=some (decide (a=b)):=by
 unfold QO Lx;by_cases hl:a.length=b.length
 ·rw [if_pos (by omega)]
  have key:=JN (fun v=>Gp a b v) (fun i=>(i:Int)) a.length (fun i=>decide (a.getD i default=b.getD i default)) (.inl ()) (.inr ()) ?_ ?_
  ·simp only [Int.natCast_zero]at key;rw [key,UW a b hl];by_cases he:a=b<;>simp [he]
  ·intro i hi;simp only [Gp,Int.toNat_natCast];rw [if_pos (BZ hi),BM (by omega),BM (by omega),gQ,Option.bind_some,Je i (by omega)]
   rfl
  ·simp only [Gp];rw [if_neg (Aq _)]
 ·rw [if_neg (by omega)]
  have: ¬a=b:=fun e=>hl (by rw [e])
  simp [this]
theorem bR(a:List (Int×Int))(b:List (Int×Int))(h0:a.length<549755813888):Y.call 87 [D.sl 102 (Ai .i64 .i64 a),D.sl 102 (Ai .i64 .i64 b)] []=some (D.bool (decide (a=b)),[]):=WG a b (bQ a b h0)
noncomputable def FZ(a:List (List (Int×Int)))(b:List (List (Int×Int)))(i:Int):Option ((Int)⊕(Unit⊕Unit)):= if i<(a.length:Int)then ck (0≤i∧i.toNat<a.length)<| ck (0≤i∧i.toNat<b.length)<| ck ((a.getD i.toNat default).length<549755813888)<| if(decide ((a.getD i.toNat default)=(b.getD i.toNat default)))=true then some (Sum.inl (IntKind.i64.wrap (i+1))) else some (Sum.inr (Sum.inl ())) else some (Sum.inr (Sum.inr ()))
noncomputable def Ki(a:List (List (Int×Int)))(b:List (List (Int×Int)))(v:Int):Option (Unit⊕Unit):=Ht (fun v=>FZ a b v) v
noncomputable def Oi(a:List (List (Int×Int)))(b:List (List (Int×Int))):Option (Bool):=
 if(a.length:Int)=(b.length:Int)then
  (Ki a b 0).bind fun E8=>
  match E8 with
  | .inl q3_=>
   some false
  | .inr q3_=>
   some true
 else
  some false
def YS:SC:= .seq (.seq (.ops [⟨some 11,.move (.tmp 5),3,none⟩,⟨some 12,.move (.tmp 0),29,none⟩,⟨some 13,.call ⟨(.builtin .len), #[(.tmp 12)], #[29]⟩,3,none⟩,⟨some 14,.binOp .lss 3 (.tmp 11) (.tmp 13) 3,4,none⟩]) (.cond (.tmp 14) .skip (.exit 0))) (.seq (.block 1 (.seq (.draws [(⟨[17,0,0],[17,18,19,20,21,22,23,24,25,26],[17]⟩,⟨some 17,.move (.tmp 0),29,none⟩),(⟨[18,5,5],[17,18,19,20,21,22,23,24,25,26],[18]⟩,⟨some 18,.move (.tmp 5),3,none⟩),(⟨[19,17,18,0,5],[17,18,19,20,21,22,23,24,25,26],[19]⟩,⟨some 19,.indexAddr 29 (.tmp 17) (.tmp 18),0,none⟩),(⟨[20,19,0],[17,18,19,20,21,22,23,24,25,26],[20]⟩,⟨some 20,.load 100 (.tmp 19),100,none⟩),(⟨[21,1,1],[17,18,19,20,21,22,23,24,25,26],[21]⟩,⟨some 21,.move (.tmp 1),29,none⟩),(⟨[22,5,5],[17,18,19,20,21,22,23,24,25,26],[22]⟩,⟨some 22,.move (.tmp 5),3,none⟩),(⟨[23,21,22,1,5],[17,18,19,20,21,22,23,24,25,26],[23]⟩,⟨some 23,.indexAddr 29 (.tmp 21) (.tmp 22),0,none⟩),(⟨[24,23,1],[17,18,19,20,21,22,23,24,25,26],[24]⟩,⟨some 24,.load 100 (.tmp 23),100,none⟩),(⟨[25,20,24,0,1],[17,18,19,20,21,22,23,24,25,26],[25]⟩,⟨some 25,.call ⟨(.value (.func 87)), #[(.tmp 20),(.tmp 24)], #[100,100]⟩,4,none⟩),(⟨[26,25,25],[17,18,19,20,21,22,23,24,25,26],[26]⟩,⟨some 26,.unOp .not 4 (.tmp 25),4,none⟩)])
 (.cond (.tmp 26) (.seq (.ops [⟨some 4,.assign (.const (.bool false)),4,none⟩]) .ret) .skip))) (.ops [⟨some 15,.move (.tmp 5),3,none⟩,⟨some 16,.binOp .add 3 (.tmp 15) (.const (.int .i64 1)) 3,3,none⟩,⟨some 5,.assign (.tmp 16),3,none⟩]))
def qJ:SC:= .loop YS
def k41:SC:= .seq (.ops [⟨some 4,.assign (.const (.bool false)),4,none⟩]) (.seq (.seq (.ops [⟨some 6,.move (.tmp 0),29,none⟩,⟨some 7,.call ⟨(.builtin .len), #[(.tmp 6)], #[29]⟩,3,none⟩,⟨some 8,.move (.tmp 1),29,none⟩,⟨some 9,.call ⟨(.builtin .len), #[(.tmp 8)], #[29]⟩,3,none⟩,⟨some 10,.binOp .neq 3 (.tmp 7) (.tmp 9) 3,4,none⟩]) (.cond (.tmp 10) (.seq (.ops [⟨some 4,.assign (.const (.bool false)),4,none⟩]) .ret) .skip)) (.seq (.seq (.ops [⟨some 5,.assign (.const (.int .i64 0)),3,none⟩]) (.block 0 qJ)) (.seq (.ops [⟨some 4,.assign (.const (.bool true)),4,none⟩]) .ret)))
theorem A3o:Try.f41.body.map (Be lends)=some k41:=by kernel_rfl
theorem AIw:Bu Try.f41 2=true:=by kernel_rfl
theorem c41{a l:List D}{r:D×List D}(h:Bo Y.env k41 (fin Ad l.length [ResultVar.tmp 4] r) (entry a l))(ha:a.length=2):Y.call 41 a l=some r:=
 Ab (Y:=Y) rfl Try.func41 (ha▸AIw) A3o h
def EQ(a:List (List (Int×Int)))(b:List (List (Int×Int)))(i:Int)(s:St):Prop:=s.v 0=D.sl 100 (AQ (fun x=>D.sl 102 (Ai .i64 .i64 x)) a)∧s.v 1=D.sl 100 (AQ (fun x=>D.sl 102 (Ai .i64 .i64 x)) b)∧s.v 5=D.int .i64 i
def Fa(a:List (List (Int×Int)))(b:List (List (Int×Int)))(r:Unit⊕Unit)(ex:Ex)(s:St):Prop:=match r with
 | .inl q=>ex= .ret∧s.v 4=D.bool false
 | .inr q=>ex= .exit 0
theorem Si(a:List (List (Int×Int)))(b:List (List (Int×Int))){v:Int}{s:St}{r:Unit⊕Unit}(h:Ki a b v=some r)(hM:EQ a b v s):Bo Y.env qJ (Fa a b r) s:=by
 unfold Ki at h;refine BR (c:=YS) (fun v=>FZ a b v) (fun v s=>EQ a b v s) (Fa a b) ?_ h hM;clear h hM s v r;intro i s o hM h;unfold FZ at h;unfold EQ at hM;obtain⟨m0,m1,m2⟩:=hM;unfold YS;by_cases e2:i<(a.length:Int)
 ·rw [if_pos e2]at h;obtain⟨e3,h⟩:=BO h;obtain⟨e4,h⟩:=BO h;obtain⟨e5,h⟩:=BO h;have c6:=bR (a.getD i.toNat default) (b.getD i.toNat default) e5;by_cases e7:(decide ((a.getD i.toNat default)=(b.getD i.toNat default)))=true
  ·rw [if_pos e7]at h;cases h;simp (maxDischargeDepth:=9) only [↓AP,AC,Ae,BV,AL,AR,↓reduceIte,Nat.reduceEqDiff,Nat.reduceLT,Nat.reduceAdd,m0,m1,m2,e2,e3.1,e3.2,e4.2,c6,e7,EQ,G9]
  ·rw [if_neg e7]at h;have e7f:(decide ((a.getD i.toNat default)=(b.getD i.toNat default)))=false:=Bool.eq_false_iff.mpr e7;cases h;simp (maxDischargeDepth:=9) only [↓AP,AC,Ae,BV,AL,AR,↓reduceIte,Nat.reduceEqDiff,Nat.reduceLT,Nat.reduceAdd,m0,m1,m2,e2,e3.1,e3.2,e4.2,c6,e7f,EQ,Fa,MX]
 ·rw [if_neg e2]at h;cases h;simp (maxDischargeDepth:=9) only [↓AP,AC,Ae,AR,↓reduceIte,Nat.reduceEqDiff,Nat.reduceLT,m0,m2,e2,EQ,Fa,JF]
theorem Uk(a:List (List (Int×Int)))(b:List (List (Int×Int))){r:Bool}(h:Oi a b=some r):Y.call 41 [D.sl 100 (AQ (fun x=>D.sl 102 (Ai .i64 .i64 x)) a),D.sl 100 (AQ (fun x=>D.sl 102 (Ai .i64 .i64 x)) b)] []=some (D.bool r,[]):=by
 refine c41 ?_ rfl;unfold k41;unfold Oi at h;by_cases e1:(a.length:Int)=(b.length:Int)
 ·rw [if_pos e1]at h;obtain⟨E8,hl3,h⟩:=Aw h;try dsimp only at h
  simp (maxDischargeDepth:=9) only [↓AP,AC,Ae,AL,AR,↓reduceIte,Nat.reduceEqDiff,Nat.reduceLT,decide_eq_true e1];refine BC (Si a b hl3 ?_) ?_
  ·simp (maxDischargeDepth:=9) only [AC,AL,↓reduceIte,Nat.reduceEqDiff,Nat.reduceLT,EQ]
  ·intro ex3 s3 hX3;rcases E8 with q3_ | q3_
   ·unfold Fa at hX3;dsimp only at hX3 h;obtain⟨rfl,n3_0⟩:=hX3;cases h;simp (maxDischargeDepth:=9) only [↓AP,AC,AL,↓reduceIte,n3_0]
   ·unfold Fa at hX3;dsimp only at hX3 h
    obtain rfl:=hX3
    cases h;simp (maxDischargeDepth:=9) only [↓AP,AC,AL,AR,↓reduceIte,Nat.reduceEqDiff,Nat.reduceLT]
 ·rw [if_neg e1]at h;cases h;simp (maxDischargeDepth:=9) only [↓AP,AC,Ae,AL,AR,↓reduceIte,Nat.reduceEqDiff,Nat.reduceLT,e1]
theorem YT(a b:List (List (Int×Int)))(ha:BU a):Oi a b=some (decide (a=b)):=by
 have h1:=ha.1;unfold Oi Ki;by_cases hl:a.length=b.length
 ·rw [if_pos (by omega)]
  have key:=JN (fun v=>FZ a b v) (fun i=>(i:Int)) a.length (fun i=>decide (a.getD i default=b.getD i default)) (.inl ()) (.inr ()) ?_ ?_
  ·simp only [Int.natCast_zero]at key;rw [key,UW a b hl];by_cases he:a=b<;>simp [he]
  ·intro i hi;simp only [FZ];rw [if_pos (BZ hi),BM (FV hi),BM (FV (by omega)),BM (by rw [JO _ _ hi];exact ha.at i hi),Int.toNat_natCast,Je i (by omega)]<;>simp only [decide_eq_true_eq]
  ·simp only [FZ];rw [if_neg (Aq _)]
 ·rw [if_neg (by omega)]
  have: ¬a=b:=fun e=>hl (by rw [e])
  simp [this]
theorem YU(a:List (List (Int×Int)))(b:List (List (Int×Int)))(h0:BU a):Y.call 41 [D.sl 100 (AQ (fun x=>D.sl 102 (Ai .i64 .i64 x)) a),D.sl 100 (AQ (fun x=>D.sl 102 (Ai .i64 .i64 x)) b)] []=some (D.bool (decide (a=b)),[]):=Uk a b (YT a b h0)
noncomputable def M0(Am:List (List (Int×Int)))(BH Ak:List Int)(Ka:List (List (Int×Int)))(NR GQ:List Int):Option (Bool):= ck (BU Am)<| if(decide (Am=Ka))=true then ck (BH.length<1099511627776)<| if(decide (BH=NR))=true then ck (Ak.length<1099511627776)<| if(decide (Ak=GQ))=true then some true else some false else some false else some false
def k13:SC:= .seq (.ops [⟨some 2,.box 31 (.tmp 0),0,none⟩,⟨some 3,.box 31 (.tmp 1),0,none⟩,⟨some 4,.assign (.const (.bool false)),4,none⟩]) (.seq (.seq (.ops [⟨some 5,.fieldAddr 31 (.tmp 2) 0,0,none⟩,⟨some 6,.load 29 (.tmp 5),29,none⟩,⟨some 7,.fieldAddr 31 (.tmp 3) 0,0,none⟩,⟨some 8,.load 29 (.tmp 7),29,none⟩,⟨some 9,.call ⟨(.value (.func 41)), #[(.tmp 6),(.tmp 8)], #[29,29]⟩,4,none⟩,⟨some 10,.unOp .not 4 (.tmp 9),4,none⟩]) (.cond (.tmp 10) (.seq (.ops [⟨some 4,.assign (.const (.bool false)),4,none⟩]) .ret) .skip)) (.seq (.seq (.ops [⟨some 11,.fieldAddr 31 (.tmp 2) 1,0,none⟩,⟨some 12,.load 23 (.tmp 11),23,none⟩,⟨some 13,.fieldAddr 31 (.tmp 3) 1,0,none⟩,⟨some 14,.load 23 (.tmp 13),23,none⟩,⟨some 15,.call ⟨(.value (.func 14)), #[(.tmp 12),(.tmp 14)], #[23,23]⟩,4,none⟩,⟨some 16,.unOp .not 4 (.tmp 15),4,none⟩]) (.cond (.tmp 16) (.seq (.ops [⟨some 4,.assign (.const (.bool false)),4,none⟩]) .ret) .skip)) (.seq (.seq (.ops [⟨some 17,.fieldAddr 31 (.tmp 2) 2,0,none⟩,⟨some 18,.load 23 (.tmp 17),23,none⟩,⟨some 19,.fieldAddr 31 (.tmp 3) 2,0,none⟩,⟨some 20,.load 23 (.tmp 19),23,none⟩,⟨some 21,.call ⟨(.value (.func 14)), #[(.tmp 18),(.tmp 20)], #[23,23]⟩,4,none⟩,
 ⟨some 22,.unOp .not 4 (.tmp 21),4,none⟩]) (.cond (.tmp 22) (.seq (.ops [⟨some 4,.assign (.const (.bool false)),4,none⟩]) .ret) .skip)) (.seq (.ops [⟨some 4,.assign (.const (.bool true)),4,none⟩]) .ret))))
theorem A3p:Try.f13.body.map (Be lends)=some k13:=by kernel_rfl
theorem AIy:Bu Try.f13 2=true:=by kernel_rfl
theorem TJ{a l:List D}{r:D×List D}(h:Bo Y.env k13 (fin Ad l.length [ResultVar.tmp 4] r) (entry a l))(ha:a.length=2):Y.call 13 a l=some r:=
 Ab (Y:=Y) rfl Try.func13 (ha▸AIy) A3p h
theorem RG(Am:List (List (Int×Int)))(BH Ak:List Int)(Ka:List (List (Int×Int)))(NR GQ:List Int){r:Bool}(h:M0 Am BH Ak Ka NR GQ=some r):Y.call 13 [D.agg [D.sl 100 (AQ (fun x=>D.sl 102 (Ai .i64 .i64 x)) Am),D.sl 3 (AQ (D.int .i64) BH),D.sl 3 (AQ (D.int .i64) Ak)],D.agg [D.sl 100 (AQ (fun x=>D.sl 102 (Ai .i64 .i64 x)) Ka),D.sl 3 (AQ (D.int .i64) NR),D.sl 3 (AQ (D.int .i64) GQ)]] []=some (D.bool r,[]):=by
 refine TJ ?_ rfl;unfold k13;unfold M0 at h;obtain⟨e1,h⟩:=BO h;have c2:=YU Am Ka e1;by_cases e3:(decide (Am=Ka))=true
 ·rw [if_pos e3]at h;obtain⟨e4,h⟩:=BO h;have c5:=IE BH NR e4;by_cases e6:(decide (BH=NR))=true
  ·rw [if_pos e6]at h;obtain⟨e7,h⟩:=BO h;have c8:=IE Ak GQ e7;by_cases e9:(decide (Ak=GQ))=true
   ·rw [if_pos e9]at h;cases h;simp (maxDischargeDepth:=9) only [↓AP,AC,BV,AL,AR,↓reduceIte,Nat.reduceEqDiff,Nat.reduceLT,Nat.reduceAdd,c2,e3,c5,e6,c8,e9]
   ·rw [if_neg e9]at h;have e9f:(decide (Ak=GQ))=false:=Bool.eq_false_iff.mpr e9;cases h;simp (maxDischargeDepth:=9) only [↓AP,AC,BV,AL,AR,↓reduceIte,Nat.reduceEqDiff,Nat.reduceLT,Nat.reduceAdd,c2,e3,c5,e6,c8,e9f]
  ·rw [if_neg e6]at h;have e6f:(decide (BH=NR))=false:=Bool.eq_false_iff.mpr e6;cases h;simp (maxDischargeDepth:=9) only [↓AP,AC,BV,AL,AR,↓reduceIte,Nat.reduceEqDiff,Nat.reduceLT,Nat.reduceAdd,c2,e3,c5,e6f]
 ·rw [if_neg e3]at h;have e3f:(decide (Am=Ka))=false:=Bool.eq_false_iff.mpr e3;cases h;simp (maxDischargeDepth:=9) only [↓AP,AC,BV,AL,AR,↓reduceIte,Nat.reduceEqDiff,Nat.reduceLT,Nat.reduceAdd,c2,e3f]
def M3(a:List (List (Int×Int)))(b c:List Int)(a':List (List (Int×Int)))(b' c':List Int):Bool:=decide (a=a'∧b=b'∧c=c')
theorem gT(a:List (List (Int×Int)))(b c:List Int):M3 a b c a b c=true:=by simp [M3]
theorem Ul(a:List (List (Int×Int)))(b c:List Int)(a':List (List (Int×Int)))(b' c':List Int)(h:BU a)(hb:b.length<1099511627776)(hc:c.length<1099511627776):M0 a b c a' b' c'=some (M3 a b c a' b' c'):=by
 unfold M0 M3;rw [BM h,BM hb,BM hc];by_cases h1:a=a'<;>by_cases h2:b=b'<;>by_cases h3:c=c'<;>simp [h1,h2,h3]
theorem ER(Am:List (List (Int×Int)))(BH Ak:List Int)(Ka:List (List (Int×Int)))(NR GQ:List Int)(h0:BU Am)(h1:BH.length<1099511627776)(h2:Ak.length<1099511627776):Y.call 13 [D.agg [D.sl 100 (AQ (fun x=>D.sl 102 (Ai .i64 .i64 x)) Am),D.sl 3 (AQ (D.int .i64) BH),D.sl 3 (AQ (D.int .i64) Ak)],D.agg [D.sl 100 (AQ (fun x=>D.sl 102 (Ai .i64 .i64 x)) Ka),D.sl 3 (AQ (D.int .i64) NR),D.sl 3 (AQ (D.int .i64) GQ)]] []=some (D.bool (M3 Am BH Ak Ka NR GQ),[]):=RG Am BH Ak Ka NR GQ (Ul Am BH Ak Ka NR GQ h0 h1 h2)
noncomputable def QP(a:List (Int×Int))(left:Int):Option (Int):= if(IntKind.i64.wrap (left-(a.length:Int)))<0 then some (-1) else some (IntKind.i64.wrap (left-(a.length:Int)))
def k70:SC:= .seq (.ops [⟨some 4,.assign (.const (.int .i64 0)),3,none⟩]) (.seq (.ops [⟨some 5,.move (.tmp 1),3,none⟩,⟨some 6,.move (.tmp 0),97,none⟩,⟨some 7,.call ⟨(.builtin .len), #[(.tmp 6)], #[97]⟩,3,none⟩,⟨some 8,.binOp .sub 3 (.tmp 5) (.tmp 7) 3,3,none⟩,⟨some 1,.assign (.tmp 8),3,none⟩]) (.seq (.seq (.ops [⟨some 9,.move (.tmp 1),3,none⟩,⟨some 10,.binOp .lss 3 (.tmp 9) (.const (.int .i64 0)) 3,4,none⟩]) (.cond (.tmp 10) (.seq (.ops [⟨some 4,.assign (.const (.int .i64 (-1))),3,none⟩]) .ret) .skip)) (.seq (.ops [⟨some 11,.move (.tmp 1),3,none⟩,⟨some 4,.assign (.tmp 11),3,none⟩]) .ret)))
theorem A3q:Try.f70.body.map (Be lends)=some k70:=by kernel_rfl
theorem AJ0:Bu Try.f70 2=true:=by kernel_rfl
theorem c70{a l:List D}{r:D×List D}(h:Bo Y.env k70 (fin Ad l.length [ResultVar.tmp 4] r) (entry a l))(ha:a.length=2):Y.call 70 a l=some r:=
 Ab (Y:=Y) rfl Try.func70 (ha▸AJ0) A3q h
theorem WH(a:List (Int×Int))(left:Int){r:Int}(h:QP a left=some r):Y.call 70 [D.sl 141 (Ai .i64 .i64 a),D.int .i64 left] []=some (D.int .i64 r,[]):=by
 refine c70 ?_ rfl;unfold k70;unfold QP at h;by_cases e1:(IntKind.i64.wrap (left-(a.length:Int)))<0
 ·rw [if_pos e1]at h;cases h;simp (maxDischargeDepth:=9) only [↓AP,AC,BV,AL,AR,↓reduceIte,Nat.reduceEqDiff,Nat.reduceLT,Int.reduceNeg,e1]
 ·rw [if_neg e1]at h;cases h;simp (maxDischargeDepth:=9) only [↓AP,AC,BV,AL,AR,↓reduceIte,Nat.reduceEqDiff,Nat.reduceLT,Int.reduceNeg,e1]
theorem bS(a:List (Int×Int))(left:Int)(ha:a.length<9223372036854775808)(hl:0≤left∧left≤1048576):QP a left=some (I4 left a.length):=by
 unfold QP I4;rw [Ir _ (by omega)]
 split<;>rfl
theorem bT(a:List (Int×Int))(left:Int)(h0:a.length<9223372036854775808)(h1:0≤left∧left≤1048576):Y.call 70 [D.sl 141 (Ai .i64 .i64 a),D.int .i64 left] []=some (D.int .i64 (I4 left a.length),[]):=WH a left (bS a left h0 h1)
noncomputable def Fb(a:List (List (Int×Int)))(left1 i:Int):Option ((Int×Int)⊕(Unit⊕Int)):= if i<(a.length:Int)then ck (0≤i∧i.toNat<a.length)<| ck ((a.getD i.toNat default).length<9223372036854775808)<| ck (0≤left1∧left1≤1048576)<| if(I4 left1 (a.getD i.toNat default).length)<0 then some (Sum.inr (Sum.inl ())) else some (Sum.inl ((I4 left1 (a.getD i.toNat default).length),IntKind.i64.wrap (i+1))) else some (Sum.inr (Sum.inr left1))
noncomputable def GG(a:List (List (Int×Int)))(v:Int×Int):Option (Unit⊕Int):=Ht (fun v=>Fb a v.1 v.2) v
noncomputable def Oj(a:List (List (Int×Int)))(left:Int):Option (Int):=
 if(IntKind.i64.wrap (left-(a.length:Int)))<0 then
  some (-1)
 else
  (GG a (IntKind.i64.wrap (left-(a.length:Int)),0)).bind fun E8=>
  match E8 with
  | .inl q3_=>
   some (-1)
  | .inr q3_=>
   some q3_
def YV:SC:= .seq (.seq (.ops [⟨some 12,.move (.tmp 5),3,none⟩,⟨some 13,.move (.tmp 0),22,none⟩,⟨some 14,.call ⟨(.builtin .len), #[(.tmp 13)], #[22]⟩,3,none⟩,⟨some 15,.binOp .lss 3 (.tmp 12) (.tmp 14) 3,4,none⟩]) (.cond (.tmp 15) .skip (.exit 0))) (.seq (.block 1 (.seq (.ops [⟨some 18,.move (.tmp 0),22,none⟩,⟨some 19,.move (.tmp 5),3,none⟩,⟨some 20,.indexAddr 22 (.tmp 18) (.tmp 19),0,none⟩,⟨some 21,.load 97 (.tmp 20),97,none⟩,⟨some 22,.move (.tmp 1),3,none⟩,⟨some 23,.call ⟨(.value (.func 70)), #[(.tmp 21),(.tmp 22)], #[97,3]⟩,3,none⟩,⟨some 1,.assign (.tmp 23),3,none⟩]) (.seq (.ops [⟨some 24,.move (.tmp 1),3,none⟩,⟨some 25,.binOp .lss 3 (.tmp 24) (.const (.int .i64 0)) 3,4,none⟩]) (.cond (.tmp 25) (.seq (.ops [⟨some 4,.assign (.const (.int .i64 (-1))),3,none⟩]) .ret) .skip)))) (.ops [⟨some 16,.move (.tmp 5),3,none⟩,⟨some 17,.binOp .add 3 (.tmp 16) (.const (.int .i64 1)) 3,3,none⟩,⟨some 5,.assign (.tmp 17),3,none⟩]))
def qK:SC:= .loop YV
def k31:SC:= .seq (.ops [⟨some 4,.assign (.const (.int .i64 0)),3,none⟩]) (.seq (.ops [⟨some 6,.move (.tmp 1),3,none⟩,⟨some 7,.move (.tmp 0),22,none⟩,⟨some 8,.call ⟨(.builtin .len), #[(.tmp 7)], #[22]⟩,3,none⟩,⟨some 9,.binOp .sub 3 (.tmp 6) (.tmp 8) 3,3,none⟩,⟨some 1,.assign (.tmp 9),3,none⟩]) (.seq (.seq (.ops [⟨some 10,.move (.tmp 1),3,none⟩,⟨some 11,.binOp .lss 3 (.tmp 10) (.const (.int .i64 0)) 3,4,none⟩]) (.cond (.tmp 11) (.seq (.ops [⟨some 4,.assign (.const (.int .i64 (-1))),3,none⟩]) .ret) .skip)) (.seq (.seq (.ops [⟨some 5,.assign (.const (.int .i64 0)),3,none⟩]) (.block 0 qK)) (.seq (.ops [⟨some 26,.move (.tmp 1),3,none⟩,⟨some 4,.assign (.tmp 26),3,none⟩]) .ret))))
theorem A3r:Try.f31.body.map (Be lends)=some k31:=by kernel_rfl
theorem AJ2:Bu Try.f31 2=true:=by kernel_rfl
theorem c31{a l:List D}{r:D×List D}(h:Bo Y.env k31 (fin Ad l.length [ResultVar.tmp 4] r) (entry a l))(ha:a.length=2):Y.call 31 a l=some r:=
 Ab (Y:=Y) rfl Try.func31 (ha▸AJ2) A3r h
def ES(a:List (List (Int×Int)))(left1 i:Int)(s:St):Prop:=s.v 0=D.sl 97 (AQ (fun x=>D.sl 141 (Ai .i64 .i64 x)) a)∧s.v 1=D.int .i64 left1∧s.v 5=D.int .i64 i
def Fe(a:List (List (Int×Int)))(r:Unit⊕Int)(ex:Ex)(s:St):Prop:=match r with
 | .inl q=>ex= .ret∧s.v 4=D.int .i64 (-1)
 | .inr q=>ex= .exit 0∧s.v 1=D.int .i64 q
theorem Sj(a:List (List (Int×Int))){v:Int×Int}{s:St}{r:Unit⊕Int}(h:GG a v=some r)(hM:ES a v.1 v.2 s):Bo Y.env qK (Fe a r) s:=by
 unfold GG at h;refine BR (c:=YV) (fun v=>Fb a v.1 v.2) (fun v s=>ES a v.1 v.2 s) (Fe a) ?_ h hM;clear h hM s v r;intro v s o hM h;obtain⟨left1,i⟩:=v;dsimp only at h hM;unfold Fb at h;unfold ES at hM;obtain⟨m0,m1,m2⟩:=hM;unfold YV;by_cases e2:i<(a.length:Int)
 ·rw [if_pos e2]at h;obtain⟨e3,h⟩:=BO h;obtain⟨e4,h⟩:=BO h;obtain⟨e5,h⟩:=BO h;have c6:=bT (a.getD i.toNat default) left1 e4 e5;by_cases e7:(I4 left1 (a.getD i.toNat default).length)<0
  ·rw [if_pos e7]at h;cases h;simp (maxDischargeDepth:=9) only [↓AP,AC,Ae,BV,AL,AR,↓reduceIte,Nat.reduceEqDiff,Nat.reduceLT,Nat.reduceAdd,Int.reduceNeg,m0,m1,m2,e2,e3.1,e3.2,c6,e7,ES,Fe,MX]
  ·rw [if_neg e7]at h;cases h;simp (maxDischargeDepth:=9) only [↓AP,AC,Ae,BV,AL,AR,↓reduceIte,Nat.reduceEqDiff,Nat.reduceLT,Nat.reduceAdd,Int.reduceNeg,m0,m1,m2,e2,e3.1,e3.2,c6,e7,ES,G9]
 ·rw [if_neg e2]at h;cases h;simp (maxDischargeDepth:=9) only [↓AP,AC,Ae,AR,↓reduceIte,Nat.reduceEqDiff,Nat.reduceLT,Int.reduceNeg,m0,m1,m2,e2,ES,Fe,JF]
theorem Um(a:List (List (Int×Int)))(left:Int){r:Int}(h:Oj a left=some r):Y.call 31 [D.sl 97 (AQ (fun x=>D.sl 141 (Ai .i64 .i64 x)) a),D.int .i64 left] []=some (D.int .i64 r,[]):=by
 refine c31 ?_ rfl;unfold k31;unfold Oj at h;by_cases e1:(IntKind.i64.wrap (left-(a.length:Int)))<0
 ·rw [if_pos e1]at h;cases h;simp (maxDischargeDepth:=9) only [↓AP,AC,Ae,AL,AR,↓reduceIte,Nat.reduceEqDiff,Nat.reduceLT,Int.reduceNeg,e1]
 ·rw [if_neg e1]at h;obtain⟨E8,hl3,h⟩:=Aw h;try dsimp only at h
  simp (maxDischargeDepth:=9) only [↓AP,AC,Ae,AL,AR,↓reduceIte,Nat.reduceEqDiff,Nat.reduceLT,Int.reduceNeg,e1];refine BC (Sj a hl3 ?_) ?_
  ·simp (maxDischargeDepth:=9) only [AC,AL,↓reduceIte,Nat.reduceEqDiff,Nat.reduceLT,ES]
  ·intro ex3 s3 hX3;rcases E8 with q3_ | q3_
   ·unfold Fe at hX3;dsimp only at hX3 h;obtain⟨rfl,n3_0⟩:=hX3;cases h;simp (maxDischargeDepth:=9) only [↓AP,AC,AL,↓reduceIte,Int.reduceNeg,n3_0]
   ·unfold Fe at hX3;dsimp only at hX3 h;obtain⟨rfl,n3_0⟩:=hX3;cases h;simp (maxDischargeDepth:=9) only [↓AP,AC,AL,↓reduceIte,Nat.reduceEqDiff,Nat.reduceLT,n3_0]
def fE(l:List (List (Int×Int))):List (List Int):=l.map fun x=>x.map Prod.fst
theorem Sk(a:List (List (Int×Int)))(ha:a.length<4611686018427387904)(hx: ∀x∈a,x.length<9223372036854775808): ∀(n i:Nat) (left:Int),n=a.length-i→i≤a.length→0≤left∧left≤1048576→
  GG a (left,(i:Int))=some (if szL left (fE (a.drop i))= -1 then .inl ()else .inr (szL left (fE (a.drop i)))):=by
 intro n
 induction n with
 | zero=>
  intro i left hn hi hl;have e:i=a.length:=by omega
  subst e;unfold GG;rw [JM (r:=Sum.inr left)]
  ·rw [List.drop_length,show fE []=[]from rfl];unfold szL;rw [if_neg (by omega)]
  ·simp only [Fb];rw [if_neg (Aq _)]
 | succ n ih=>
  intro i left hn hi hl;have hlt:i<a.length:=by omega
  have hm:a[i]∈a:=List.getElem_mem hlt;have hxm:=hx _ hm
  have step:Fb a left i=if I4 left a[i].length<0 then some (Sum.inr (Sum.inl ()))else some (Sum.inl (I4 left a[i].length,((i+1:Nat):Int))):=by
   unfold Fb;rw [if_pos (BZ hlt),BM (FV hlt),BM (by rw [JO _ _ hlt];exact hxm),BM hl,JO _ _ hlt,Je i (by omega)]
  rw [List.drop_eq_getElem_cons hlt,show fE (a[i]::a.drop (i+1))=a[i].map Prod.fst::fE (a.drop (i+1))from rfl];unfold szL;rw [List.length_map];by_cases hq:left-(a[i].length:Int)<0
  ·rw [if_pos hq];unfold GG;rw [JM (r:=Sum.inl ())]
   ·rfl
   ·rw [step];unfold I4;rw [if_pos hq];rfl
  ·rw [if_neg hq];have e2:I4 left a[i].length=left-a[i].length:=by unfold I4;rw [if_neg hq]
   have:=ih (i+1) (left-a[i].length) (by omega) (by omega) (by omega)
   unfold GG at this ⊢;rw [Lm (s':=(left-(a[i].length:Int),((i+1:Nat):Int))),this]
   ·rw [step,e2,if_neg hq]
def Oz(l:List (List (Int×Int))):Prop:=l.length<9223372036854775808∧ ∀x∈l,x.length<9223372036854775808
instance (l:List (List (Int×Int))):Decidable (Oz l):=by unfold Oz;infer_instance
theorem YW(a:List (List (Int×Int)))(left:Int)(hw:Oz a)(hl:0≤left∧left≤1048576):Oj a left=some (I4 left (a.length+CW (fE a))):=by
 have ht:=EP (fE a);have ha:=hw.1;unfold Oj;rw [Ir _ (by omega)]
 by_cases hq:left-(a.length:Int)<0
 ·rw [if_pos hq];unfold I4;rw [if_pos (by omega)]
 ·rw [if_neg hq];have h0:=Sk a (by omega) hw.2 a.length 0 (left-a.length) (by omega) (by omega) (by omega)
  simp only [Int.natCast_zero,List.drop_zero]at h0;rw [h0,Option.bind_some,A3T _ _ (by omega)]
  have e:I4 (left-a.length) (CW (fE a))=I4 left (a.length+CW (fE a)):=by unfold I4;rw [show left- ↑a.length-CW (fE a)=left-(↑a.length+CW (fE a)) by omega]
  rw [e];by_cases h1:I4 left (a.length+CW (fE a))= -1
  ·rw [if_pos h1,h1]
  ·rw [if_neg h1]
theorem YX(a:List (List (Int×Int)))(left:Int)(h0:Oz a)(h1:0≤left∧left≤1048576):Y.call 31 [D.sl 97 (AQ (fun x=>D.sl 141 (Ai .i64 .i64 x)) a),D.int .i64 left] []=some (D.int .i64 (I4 left (a.length+CW (fE a))),[]):=Um a left (YW a left h0 h1)
noncomputable def M4(Am:List (List (Int×Int)))(BH Ak:List Int)(left:Int):Option (Int):= ck (Oz Am)<| ck (0≤left∧left≤1048576)<| if(I4 left (Am.length+CW (fE Am)))<0 then some (-1) else ck (BH.length<9223372036854775808)<| ck (0≤(I4 left (Am.length+CW (fE Am)))∧(I4 left (Am.length+CW (fE Am)))≤1048576)<| if(I4 (I4 left (Am.length+CW (fE Am))) BH.length)<0 then some (-1) else ck (Ak.length<9223372036854775808)<| ck (0≤(I4 (I4 left (Am.length+CW (fE Am))) BH.length)∧(I4 (I4 left (Am.length+CW (fE Am))) BH.length)≤1048576)<| if(I4 (I4 (I4 left (Am.length+CW (fE Am))) BH.length) Ak.length)<0 then some (-1) else some (I4 (I4 (I4 left (Am.length+CW (fE Am))) BH.length) Ak.length)
def k8:SC:= .seq (.ops [⟨some 2,.box 25 (.tmp 0),0,none⟩,⟨some 4,.assign (.const (.int .i64 0)),3,none⟩]) (.seq (.ops [⟨some 5,.fieldAddr 25 (.tmp 2) 0,0,none⟩,⟨some 6,.load 22 (.tmp 5),22,none⟩,⟨some 7,.move (.tmp 1),3,none⟩,⟨some 8,.call ⟨(.value (.func 31)), #[(.tmp 6),(.tmp 7)], #[22,3]⟩,3,none⟩,⟨some 1,.assign (.tmp 8),3,none⟩]) (.seq (.seq (.ops [⟨some 9,.move (.tmp 1),3,none⟩,⟨some 10,.binOp .lss 3 (.tmp 9) (.const (.int .i64 0)) 3,4,none⟩]) (.cond (.tmp 10) (.seq (.ops [⟨some 4,.assign (.const (.int .i64 (-1))),3,none⟩]) .ret) .skip)) (.seq (.ops [⟨some 11,.fieldAddr 25 (.tmp 2) 1,0,none⟩,⟨some 12,.load 23 (.tmp 11),23,none⟩,⟨some 13,.move (.tmp 1),3,none⟩,⟨some 14,.call ⟨(.value (.func 32)), #[(.tmp 12),(.tmp 13)], #[23,3]⟩,3,none⟩,⟨some 1,.assign (.tmp 14),3,none⟩]) (.seq (.seq (.ops [⟨some 15,.move (.tmp 1),3,none⟩,⟨some 16,.binOp .lss 3 (.tmp 15) (.const (.int .i64 0)) 3,4,none⟩]) (.cond (.tmp 16) (.seq (.ops [⟨some 4,.assign (.const (.int .i64 (-1))),3,none⟩]) .ret) .skip)) (.seq (.ops [⟨some 17,.fieldAddr 25 (.tmp 2) 2,0,none⟩,⟨some 18,.load 23 (.tmp 17),23,none⟩,⟨some 19,.move (.tmp 1),3,none⟩,⟨some 20,.call ⟨(.value (.func 32)), #[(.tmp 18),(.tmp 19)], #[23,3]⟩,3,none⟩,
 ⟨some 1,.assign (.tmp 20),3,none⟩]) (.seq (.seq (.ops [⟨some 21,.move (.tmp 1),3,none⟩,⟨some 22,.binOp .lss 3 (.tmp 21) (.const (.int .i64 0)) 3,4,none⟩]) (.cond (.tmp 22) (.seq (.ops [⟨some 4,.assign (.const (.int .i64 (-1))),3,none⟩]) .ret) .skip)) (.seq (.ops [⟨some 23,.move (.tmp 1),3,none⟩,⟨some 4,.assign (.tmp 23),3,none⟩]) .ret)))))))
theorem ACP:Try.f8.body.map (Be lends)=some k8:=by kernel_rfl
theorem ok8:Bu Try.f8 2=true:=by kernel_rfl
theorem c8{a l:List D}{r:D×List D}(h:Bo Y.env k8 (fin Ad l.length [ResultVar.tmp 4] r) (entry a l))(ha:a.length=2):Y.call 8 a l=some r:=
 Ab (Y:=Y) rfl Try.func8 (ha▸ok8) ACP h
theorem RH(Am:List (List (Int×Int)))(BH Ak:List Int)(left:Int){r:Int}(h:M4 Am BH Ak left=some r):Y.call 8 [D.agg [D.sl 97 (AQ (fun x=>D.sl 141 (Ai .i64 .i64 x)) Am),D.sl 3 (AQ (D.int .i64) BH),D.sl 3 (AQ (D.int .i64) Ak)],D.int .i64 left] []=some (D.int .i64 r,[]):=by
 refine c8 ?_ rfl;unfold k8;unfold M4 at h;obtain⟨e1,h⟩:=BO h;obtain⟨e2,h⟩:=BO h;have c3:=YX Am left e1 e2;by_cases e4:(I4 left (Am.length+CW (fE Am)))<0
 ·rw [if_pos e4]at h;cases h;simp (maxDischargeDepth:=9) only [↓AP,AC,BV,AL,AR,↓reduceIte,Nat.reduceEqDiff,Nat.reduceLT,Nat.reduceAdd,Int.reduceNeg,c3,e4]
 ·rw [if_neg e4]at h;obtain⟨e5,h⟩:=BO h;obtain⟨e6,h⟩:=BO h;have c7:=SA BH (I4 left (Am.length+CW (fE Am))) e5 e6;by_cases e8:(I4 (I4 left (Am.length+CW (fE Am))) BH.length)<0
  ·rw [if_pos e8]at h;cases h;simp (maxDischargeDepth:=9) only [↓AP,AC,BV,AL,AR,↓reduceIte,Nat.reduceEqDiff,Nat.reduceLT,Nat.reduceAdd,Int.reduceNeg,c3,e4,c7,e8]
  ·rw [if_neg e8]at h;obtain⟨e9,h⟩:=BO h;obtain⟨e10,h⟩:=BO h;have Sa:=SA Ak (I4 (I4 left (Am.length+CW (fE Am))) BH.length) e9 e10;by_cases e12:(I4 (I4 (I4 left (Am.length+CW (fE Am))) BH.length) Ak.length)<0
   ·rw [if_pos e12]at h;cases h;simp (maxDischargeDepth:=9) only [↓AP,AC,BV,AL,AR,↓reduceIte,Nat.reduceEqDiff,Nat.reduceLT,Nat.reduceAdd,Int.reduceNeg,c3,e4,c7,e8,Sa,e12]
   ·rw [if_neg e12]at h;cases h;simp (maxDischargeDepth:=9) only [↓AP,AC,BV,AL,AR,↓reduceIte,Nat.reduceEqDiff,Nat.reduceLT,Nat.reduceAdd,Int.reduceNeg,c3,e4,c7,e8,Sa,e12]
def sN(left:Int)(a:List (List (Int×Int)))(b c:List Int):Int:=
 if I4 left (a.length+CW (fE a))<0 then-1 else if I4 (I4 left (a.length+CW (fE a))) b.length<0 then-1 else I4 (I4 (I4 left (a.length+CW (fE a))) b.length) c.length
theorem Un(a:List (List (Int×Int)))(b c:List Int)(left:Int)(ha:Oz a)(hb:b.length<9223372036854775808)(hc:c.length<9223372036854775808)(hl:0≤left∧left≤1048576):M4 a b c left=some (sN left a b c):=by
 have ht:=EP (fE a);unfold M4 sN;rw [BM ha,BM hl];by_cases h1:I4 left (a.length+CW (fE a))<0
 ·rw [if_pos h1,if_pos h1]
 ·rw [if_neg h1,if_neg h1]
  have b1:0≤I4 left (a.length+CW (fE a))∧I4 left (a.length+CW (fE a))≤1048576:=by
   rcases Kr left (a.length+CW (fE a))with c | ⟨c,c'⟩<;>omega
  rw [BM hb,BM b1];by_cases h2:I4 (I4 left (a.length+CW (fE a))) b.length<0
  ·rw [if_pos h2,if_pos h2]
  ·rw [if_neg h2,if_neg h2]
   have b2:0≤I4 (I4 left (a.length+CW (fE a))) b.length∧I4 (I4 left (a.length+CW (fE a))) b.length≤1048576:=by
    rcases Kr (I4 left (a.length+CW (fE a))) b.length with c | ⟨c,c'⟩<;>omega
   rw [BM hc,BM b2];by_cases h3:I4 (I4 (I4 left (a.length+CW (fE a))) b.length) c.length<0
   ·rw [if_pos h3];rcases Kr (I4 (I4 left (a.length+CW (fE a))) b.length) c.length with d | ⟨d,d'⟩
    ·rw [d]
    ·omega
   ·rw [if_neg h3]
theorem Uo(Am:List (List (Int×Int)))(BH Ak:List Int)(left:Int)(h0:Oz Am)(h1:BH.length<9223372036854775808)(h2:Ak.length<9223372036854775808)(h3:0≤left∧left≤1048576):Y.call 8 [D.agg [D.sl 97 (AQ (fun x=>D.sl 141 (Ai .i64 .i64 x)) Am),D.sl 3 (AQ (D.int .i64) BH),D.sl 3 (AQ (D.int .i64) Ak)],D.int .i64 left] []=some (D.int .i64 (sN left Am BH Ak),[]):=RH Am BH Ak left (Un Am BH Ak left h0 h1 h2 h3)
theorem vC{a:List (List (Int×Int))}{b c:List Int}{left:Int}(hl:left≤1048576)(h: ¬sN left a b c<0):a.length+CW (fE a)+b.length+c.length≤1048576∧BU a∧sN left a b c≤left:=by
 have ht:=EP (fE a)
 have key:(a.length:Int)+CW (fE a)+b.length+c.length≤1048576∧sN left a b c≤left:=by
  unfold sN at h ⊢;rcases Kr left (a.length+CW (fE a))with d | ⟨d,d'⟩
  ·rw [d]at h;simp at h
  ·rw [d,if_neg (by omega)]at h
   rw [d,if_neg (by omega)]
   rcases Kr (left-(a.length+CW (fE a))) b.length with e | ⟨e,e'⟩
   ·rw [e]at h;simp at h
   ·rw [e,if_neg (by omega)]at h
    rw [e,if_neg (by omega)]
    rcases Kr (left-(a.length+CW (fE a))-b.length) c.length with g | ⟨g,g'⟩
    ·rw [g]at h;simp at h
    ·rw [g];omega
 refine⟨key.1,⟨by omega,fun x hx=> ?_⟩,key.2⟩
 have:x.map Prod.fst∈fE a:=List.mem_map.2 ⟨x,hx,rfl⟩
 have:=uq this
 rw [List.length_map]at this;omega
theorem qL{l:List (List (Int×Int))}(h:gD l):Oz l:=⟨Nat.lt_of_le_of_lt h.1 (by decide),fun x hx=>Nat.lt_of_le_of_lt (h.2 x hx).1 (by decide)⟩
end Go.Proofs.Ytipfckompmhljaa
