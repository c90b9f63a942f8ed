/- Networks marked, and marks held, as plain functions. Conditions: the lists are short. -/
import Derived.Test.YtipfckompmhljaaL6
import Derived.Test.YtipfckompmhljaaNis
namespace Go.Proofs.Ytipfckompmhljaa
open Go Dv
set_option linter.unusedSimpArgs false
set_option linter.unusedVariables false
set_option maxRecDepth 100000
set_option maxHeartbeats 4000000
def RN(k:Int)(n:Nat):List (Int×Int):=(List.range n).map fun(i:Nat)=>(k+2*(i:Int),k+2*(i:Int)+1)
theorem NK(k:Int)(n:Nat):(RN k n).length=n:=by simp [RN]
theorem rG(k:Int)(n:Nat):RN k (n+1)=RN k n++[(k+2*(n:Int),k+2*(n:Int)+1)]:=by simp [RN,List.range_succ]
theorem RO{α:Type}(A xs:List α)(i:Nat)(v:α)(hA:A.length=i)(h:i<xs.length):(A++xs.drop i).set i v=(A++[v])++xs.drop (i+1):=by
 rw [List.set_append_right _ _ (by omega),hA,Nat.sub_self,List.drop_eq_getElem_cons h,List.set_cons_zero,List.append_assoc];rfl
theorem rH(t:List (Int×Int))(i:Nat)(p:Int×Int)(h:i<t.length):BA (t.set i p) i=p.1:=by
 unfold BA;simp [List.getD_eq_getElem?_getD,h]
theorem vT(k:Int)(n i:Nat)(h:i<n):BA (RN k n) i=k+2*(i:Int):=by
 unfold BA;rw [Av _ _ (by rw [NK];exact h)];simp [RN]
theorem vU(k:Int)(n i:Nat)(h:i<n):Bc (RN k n) i=k+2*(i:Int)+1:=by
 unfold Bc;rw [Av _ _ (by rw [NK];exact h)];simp [RN]
noncomputable def Ep(k k1 i:Int)(BP:List (Int×Int)):Option ((Int×Int×(List (Int×Int)))⊕(Int×(List (Int×Int)))):= if i<(BP.length:Int)then ck (0≤i∧i.toNat<BP.length)<| ck (0≤i∧i.toNat<(BP.set i.toNat (k1,(Bc BP i.toNat))).length)<| some (Sum.inl (IntKind.i64.wrap ((IntKind.i64.wrap (k1+1))+1),IntKind.i64.wrap (i+1),((BP.set i.toNat (k1,(Bc BP i.toNat))).set i.toNat ((BA (BP.set i.toNat (k1,(Bc BP i.toNat))) i.toNat),IntKind.i64.wrap (k1+1))))) else some (Sum.inr (k1,BP))
noncomputable def K8(k:Int)(v:Int×Int×(List (Int×Int))):Option (Int×(List (Int×Int))):=Ht (fun v=>Ep k v.1 v.2.1 v.2.2) v
noncomputable def NL(a:List (Int×Int))(k:Int):Option (Int×(List (Int×Int))):= (K8 k (k,0,a)).bind fun DX=> some (DX.1,DX.2)
def Z6:SC:= .seq (.seq (.ops [⟨some 6,.move (.tmp 5),3,none⟩,⟨some 7,.move (.tmp 0),100,none⟩,⟨some 8,.call ⟨(.builtin .len), #[(.tmp 7)], #[100]⟩,3,none⟩,⟨some 9,.binOp .lss 3 (.tmp 6) (.tmp 8) 3,4,none⟩]) (.cond (.tmp 9) .skip (.exit 0))) (.seq (.block 1 (.seq (.ops [⟨some 12,.move (.tmp 0),100,none⟩,⟨some 13,.move (.tmp 5),3,none⟩,⟨some 14,.move (.tmp 1),3,none⟩,⟨some 15,.indexAddr 100 (.tmp 12) (.tmp 13),0,none⟩,⟨some 16,.fieldAddr 102 (.tmp 15) 0,0,none⟩,⟨none,.store 3 (.tmp 16) (.tmp 14),0,none⟩]) (.seq (.ops [⟨some 17,.move (.tmp 1),3,none⟩,⟨some 18,.binOp .add 3 (.tmp 17) (.const (.int .i64 1)) 3,3,none⟩,⟨some 1,.assign (.tmp 18),3,none⟩]) (.seq (.ops [⟨some 19,.move (.tmp 0),100,none⟩,⟨some 20,.move (.tmp 5),3,none⟩,⟨some 21,.move (.tmp 1),3,none⟩,⟨some 22,.indexAddr 100 (.tmp 19) (.tmp 20),0,none⟩,⟨some 23,.fieldAddr 102 (.tmp 22) 1,0,none⟩,⟨none,.store 3 (.tmp 23) (.tmp 21),0,none⟩]) (.ops [⟨some 24,.move (.tmp 1),3,none⟩,⟨some 25,.binOp .add 3 (.tmp 24) (.const (.int .i64 1)) 3,3,none⟩,⟨some 1,.assign (.tmp 25),3,none⟩]))))) (.ops [⟨some 10,.move (.tmp 5),3,none⟩,⟨some 11,.binOp .add 3 (.tmp 10) (.const (.int .i64 1)) 3,3,none⟩,
 ⟨some 5,.assign (.tmp 11),3,none⟩]))
def rJ:SC:= .loop Z6
def k97:SC:= .seq (.ops [⟨some 4,.assign (.const (.int .i64 0)),3,none⟩]) (.seq (.seq (.ops [⟨some 5,.assign (.const (.int .i64 0)),3,none⟩]) (.block 0 rJ)) (.seq (.ops [⟨some 26,.move (.tmp 1),3,none⟩,⟨some 4,.assign (.tmp 26),3,none⟩]) .ret))
theorem A4X:Try.f97.body.map (Be lends)=some k97:=by kernel_rfl
theorem AK3:Bu Try.f97 2=true:=by kernel_rfl
theorem c97{a l:List D}{r:D×List D}(h:Bo Y.env k97 (fin Ad l.length [ResultVar.tmp 4] r) (entry a l))(ha:a.length=2):Y.call 97 a l=some r:=
 Ab (Y:=Y) rfl Try.func97 (ha▸AK3) A4X h
def Er(k k1 i:Int)(BP:List (Int×Int))(s:St):Prop:=(∃w_,s.v 0=D.vw [100000] (s.k 100000) w_)∧s.v 1=D.int .i64 k1∧s.v 5=D.int .i64 i∧s.v 100000=D.own 102 (Ai .i64 .i64 BP)
def Ga(k:Int)(r:Int×(List (Int×Int)))(ex:Ex)(s:St):Prop:=ex= .exit 0∧s.v 1=D.int .i64 r.1∧s.v 100000=D.own 102 (Ai .i64 .i64 r.2)
theorem RP(k:Int){v:Int×Int×(List (Int×Int))}{s:St}{r:Int×(List (Int×Int))}(h:K8 k v=some r)(hM:Er k v.1 v.2.1 v.2.2 s):Bo Y.env rJ (Ga k r) s:=by
 unfold K8 at h;refine BR (c:=Z6) (fun v=>Ep k v.1 v.2.1 v.2.2) (fun v s=>Er k v.1 v.2.1 v.2.2 s) (Ga k) ?_ h hM;clear h hM s v r;intro v s o hM h;obtain⟨k1,i,BP⟩:=v;dsimp only at h hM;unfold Ep at h;unfold Er at hM;obtain⟨⟨w0_,m0⟩,m1,m2,m3⟩:=hM;unfold Z6;by_cases e1:i<(BP.length:Int)
 ·rw [if_pos e1]at h;obtain⟨e2,h⟩:=BO h;obtain⟨e3,h⟩:=BO h;cases h;simp (maxDischargeDepth:=9) only [↓AP,AC,Ae,BV,AL,AR,Pe,↓reduceIte,Nat.reduceEqDiff,Nat.reduceLT,Nat.reduceLeDiff,Nat.reduceAdd,Nat.reduceMul,Nat.reduceMod,Nat.reduceDiv,Nat.reducePow,Nat.reduceSub,Nat.reduceBEq,Int.reduceLE,Int.reduceLT,Int.reduceEq,Int.reduceSub,Int.reduceAdd,Int.reduceToNat,Int.reduceNeg,m0,m1,m2,m3,e1,e2.1,e2.2,e3.1,e3.2,Er,Ga,G9,JF,MX]<;>(repeat' apply And.intro)<;>first | rfl | exact⟨_,rfl⟩ | exact⟨_,_,rfl⟩ | simp [AQ,Ar]
 ·rw [if_neg e1]at h;cases h;simp (maxDischargeDepth:=9) only [↓AP,AC,Ae,BV,AL,AR,Pe,↓reduceIte,Nat.reduceEqDiff,Nat.reduceLT,Nat.reduceLeDiff,Nat.reduceAdd,Nat.reduceMul,Nat.reduceMod,Nat.reduceDiv,Nat.reducePow,Nat.reduceSub,Nat.reduceBEq,Int.reduceLE,Int.reduceLT,Int.reduceEq,Int.reduceSub,Int.reduceAdd,Int.reduceToNat,Int.reduceNeg,m0,m1,m2,m3,e1,Er,Ga,G9,JF,MX]<;>(repeat' apply And.intro)<;>first | rfl | exact⟨_,rfl⟩ | exact⟨_,_,rfl⟩ | simp [AQ,Ar]
theorem Sz(a:List (Int×Int))(k:Int){r:Int×(List (Int×Int))}(h:NL a k=some r):Y.call 97 [D.vw [100000] 0 0,D.int .i64 k] [D.own 102 (Ai .i64 .i64 a)]=some (D.int .i64 r.1,[D.own 102 (Ai .i64 .i64 r.2)]):=by
 refine c97 ?_ rfl;unfold k97;unfold NL at h;obtain⟨DX,hl2,h⟩:=Aw h;try dsimp only at h
 simp (maxDischargeDepth:=9) only [↓AP,AC,Ae,BV,AL,AR,Pe,↓reduceIte,Nat.reduceEqDiff,Nat.reduceLT,Nat.reduceLeDiff,Nat.reduceAdd,Nat.reduceMul,Nat.reduceMod,Nat.reduceDiv,Nat.reducePow,Nat.reduceSub,Nat.reduceBEq,Int.reduceLE,Int.reduceLT,Int.reduceEq,Int.reduceSub,Int.reduceAdd,Int.reduceToNat,Int.reduceNeg];refine BC (RP k hl2 ?_) ?_
 ·simp (maxDischargeDepth:=9) only [↓AP,AC,Ae,BV,AL,AR,Pe,↓reduceIte,Nat.reduceEqDiff,Nat.reduceLT,Nat.reduceLeDiff,Nat.reduceAdd,Nat.reduceMul,Nat.reduceMod,Nat.reduceDiv,Nat.reducePow,Nat.reduceSub,Nat.reduceBEq,Int.reduceLE,Int.reduceLT,Int.reduceEq,Int.reduceSub,Int.reduceAdd,Int.reduceToNat,Int.reduceNeg,Er]<;>(repeat' apply And.intro)<;>first | rfl | exact⟨_,rfl⟩ | exact⟨_,_,rfl⟩ | simp [AQ,Ar]
 ·intro ex2 s2 hX2;unfold Ga at hX2;obtain⟨rfl,n2_0,n2_1⟩:=hX2;cases h;simp (maxDischargeDepth:=9) only [↓AP,AC,Ae,BV,AL,AR,Pe,↓reduceIte,Nat.reduceEqDiff,Nat.reduceLT,Nat.reduceLeDiff,Nat.reduceAdd,Nat.reduceMul,Nat.reduceMod,Nat.reduceDiv,Nat.reducePow,Nat.reduceSub,Nat.reduceBEq,Int.reduceLE,Int.reduceLT,Int.reduceEq,Int.reduceSub,Int.reduceAdd,Int.reduceToNat,Int.reduceNeg,n2_0,n2_1]<;>(repeat' apply And.intro)<;>first | rfl | exact⟨_,rfl⟩ | exact⟨_,_,rfl⟩ | simp [AQ,Ar]
theorem WO(a:List (Int×Int))(k:Int)(ha:a.length<549755813888)(hk:0≤k∧k+2*(a.length:Int)<1099511627776):NL a k=some (k+2*(a.length:Int),RN k a.length):=by
 have key:=Bb (fun v=>Ep k v.1 v.2.1 v.2.2) (fun i=>(k+2*(i:Int),(i:Int),RN k i++a.drop i)) a.length (k+2*(a.length:Int),RN k a.length) ?_ ?_
 ·unfold NL K8;have e0:RN k 0=[]:=rfl;simp only [Int.natCast_zero,Int.mul_zero,Int.add_zero,List.drop_zero,e0,List.nil_append]at key;rw [key];rfl
 ·intro i hi;simp only [Ep];have el:(RN k i++a.drop i).length=a.length:=by simp [NK];omega
  rw [el,if_pos (BZ hi),BM (FV hi),Int.toNat_natCast,BM (by rw [List.length_set,el];omega),rH _ _ _ (by rw [el];exact hi),List.set_set,Je i (by omega),Ir (k+2*(i:Int)+1) (by omega),Ir (k+2*(i:Int)+1+1) (by omega),RO _ _ _ _ (NK k i) hi,←rG]
  rw [show k+2*(i:Int)+1+1=k+2*((i+1:Nat):Int) by omega]
 ·simp only [Ep];have el:(RN k a.length++a.drop a.length).length=a.length:=by simp [NK]
  rw [el,if_neg (Aq _)];simp
theorem WP(a:List (Int×Int))(k:Int)(h0:a.length<549755813888)(h1:0≤k∧k+2*(a.length:Int)<1099511627776):Y.call 97 [D.vw [100000] 0 0,D.int .i64 k] [D.own 102 (Ai .i64 .i64 a)]=some (D.int .i64 (k+2*(a.length:Int)),[D.own 102 (Ai .i64 .i64 (RN k a.length))]):=Sz a k (WO a k h0 h1)
noncomputable def Fp(k k1 i:Int)(BP:List (List (Int×Int))):Option ((Int×Int×(List (List (Int×Int))))⊕(Int×(List (List (Int×Int))))):= if i<(BP.length:Int)then ck (0≤i∧i.toNat<BP.length)<| ck ((BP.getD i.toNat default).length<549755813888)<| ck (0≤k1∧k1+2*((BP.getD i.toNat default).length:Int)<1099511627776)<| some (Sum.inl ((k1+2*((BP.getD i.toNat default).length:Int)),IntKind.i64.wrap (i+1),(BP.set i.toNat (RN k1 (BP.getD i.toNat default).length)))) else some (Sum.inr (k1,BP))
noncomputable def Fq(k:Int)(v:Int×Int×(List (List (Int×Int)))):Option (Int×(List (List (Int×Int)))):=Ht (fun v=>Fp k v.1 v.2.1 v.2.2) v
noncomputable def MC(a:List (List (Int×Int)))(k:Int):Option (Int×(List (List (Int×Int)))):= (Fq k (k,0,a)).bind fun DX=> some (DX.1,DX.2)
def Z7:SC:= .seq (.seq (.ops [⟨some 6,.move (.tmp 5),3,none⟩,⟨some 7,.move (.tmp 0),29,none⟩,⟨some 8,.call ⟨(.builtin .len), #[(.tmp 7)], #[29]⟩,3,none⟩,⟨some 9,.binOp .lss 3 (.tmp 6) (.tmp 8) 3,4,none⟩]) (.cond (.tmp 9) .skip (.exit 0))) (.seq (.block 1 (.ops [⟨some 12,.move (.tmp 0),29,none⟩,⟨some 13,.move (.tmp 5),3,none⟩,⟨some 14,.indexAddr 29 (.tmp 12) (.tmp 13),0,none⟩,⟨some 15,.load 100 (.tmp 14),100,none⟩,⟨some 16,.move (.tmp 1),3,none⟩,⟨some 17,.call ⟨(.value (.func 97)), #[(.tmp 15),(.tmp 16)], #[100,3]⟩,3,none⟩,⟨some 1,.assign (.tmp 17),3,none⟩])) (.ops [⟨some 10,.move (.tmp 5),3,none⟩,⟨some 11,.binOp .add 3 (.tmp 10) (.const (.int .i64 1)) 3,3,none⟩,⟨some 5,.assign (.tmp 11),3,none⟩]))
def rM:SC:= .loop Z7
def k48:SC:= .seq (.ops [⟨some 4,.assign (.const (.int .i64 0)),3,none⟩]) (.seq (.seq (.ops [⟨some 5,.assign (.const (.int .i64 0)),3,none⟩]) (.block 0 rM)) (.seq (.ops [⟨some 18,.move (.tmp 1),3,none⟩,⟨some 4,.assign (.tmp 18),3,none⟩]) .ret))
theorem A4Y:Try.f48.body.map (Be lends)=some k48:=by kernel_rfl
theorem AK5:Bu Try.f48 2=true:=by kernel_rfl
theorem c48{a l:List D}{r:D×List D}(h:Bo Y.env k48 (fin Ad l.length [ResultVar.tmp 4] r) (entry a l))(ha:a.length=2):Y.call 48 a l=some r:=
 Ab (Y:=Y) rfl Try.func48 (ha▸AK5) A4Y h
def EL(k k1 i:Int)(BP:List (List (Int×Int)))(s:St):Prop:=(∃w_,s.v 0=D.vw [100000] (s.k 100000) w_)∧s.v 1=D.int .i64 k1∧s.v 5=D.int .i64 i∧s.v 100000=D.own 100 (AQ (fun x=>D.own 102 (Ai .i64 .i64 x)) BP)
def Fv(k:Int)(r:Int×(List (List (Int×Int))))(ex:Ex)(s:St):Prop:=ex= .exit 0∧s.v 1=D.int .i64 r.1∧s.v 100000=D.own 100 (AQ (fun x=>D.own 102 (Ai .i64 .i64 x)) r.2)
theorem Qa(k:Int){v:Int×Int×(List (List (Int×Int)))}{s:St}{r:Int×(List (List (Int×Int)))}(h:Fq k v=some r)(hM:EL k v.1 v.2.1 v.2.2 s):Bo Y.env rM (Fv k r) s:=by
 unfold Fq at h;refine BR (c:=Z7) (fun v=>Fp k v.1 v.2.1 v.2.2) (fun v s=>EL k v.1 v.2.1 v.2.2 s) (Fv k) ?_ h hM;clear h hM s v r;intro v s o hM h;obtain⟨k1,i,BP⟩:=v;dsimp only at h hM;unfold Fp at h;unfold EL at hM;obtain⟨⟨w0_,m0⟩,m1,m2,m3⟩:=hM;unfold Z7;by_cases e1:i<(BP.length:Int)
 ·rw [if_pos e1]at h;obtain⟨e2,h⟩:=BO h;obtain⟨e3,h⟩:=BO h;obtain⟨e4,h⟩:=BO h;have c5:=WP (BP.getD i.toNat default) k1 e3 e4;cases h;simp (maxDischargeDepth:=9) only [↓AP,AC,Ae,BV,AL,AR,Pe,↓reduceIte,Nat.reduceEqDiff,Nat.reduceLT,Nat.reduceLeDiff,Nat.reduceAdd,Nat.reduceMul,Nat.reduceMod,Nat.reduceDiv,Nat.reducePow,Nat.reduceSub,Nat.reduceBEq,Int.reduceLE,Int.reduceLT,Int.reduceEq,Int.reduceSub,Int.reduceAdd,Int.reduceToNat,Int.reduceNeg,m0,m1,m2,m3,e1,e2.1,e2.2,e3,e4.1,e4.2,c5,EL,Fv,G9,JF,MX]<;>(repeat' apply And.intro)<;>first | rfl | exact⟨_,rfl⟩ | exact⟨_,_,rfl⟩ | simp [AQ,Ar]
 ·rw [if_neg e1]at h;cases h;simp (maxDischargeDepth:=9) only [↓AP,AC,Ae,BV,AL,AR,Pe,↓reduceIte,Nat.reduceEqDiff,Nat.reduceLT,Nat.reduceLeDiff,Nat.reduceAdd,Nat.reduceMul,Nat.reduceMod,Nat.reduceDiv,Nat.reducePow,Nat.reduceSub,Nat.reduceBEq,Int.reduceLE,Int.reduceLT,Int.reduceEq,Int.reduceSub,Int.reduceAdd,Int.reduceToNat,Int.reduceNeg,m0,m1,m2,m3,e1,EL,Fv,G9,JF,MX]<;>(repeat' apply And.intro)<;>first | rfl | exact⟨_,rfl⟩ | exact⟨_,_,rfl⟩ | simp [AQ,Ar]
theorem RQ(a:List (List (Int×Int)))(k:Int){r:Int×(List (List (Int×Int)))}(h:MC a k=some r):Y.call 48 [D.vw [100000] 0 0,D.int .i64 k] [D.own 100 (AQ (fun x=>D.own 102 (Ai .i64 .i64 x)) a)]=some (D.int .i64 r.1,[D.own 100 (AQ (fun x=>D.own 102 (Ai .i64 .i64 x)) r.2)]):=by
 refine c48 ?_ rfl;unfold k48;unfold MC at h;obtain⟨DX,hl2,h⟩:=Aw h;try dsimp only at h
 simp (maxDischargeDepth:=9) only [↓AP,AC,Ae,BV,AL,AR,Pe,↓reduceIte,Nat.reduceEqDiff,Nat.reduceLT,Nat.reduceLeDiff,Nat.reduceAdd,Nat.reduceMul,Nat.reduceMod,Nat.reduceDiv,Nat.reducePow,Nat.reduceSub,Nat.reduceBEq,Int.reduceLE,Int.reduceLT,Int.reduceEq,Int.reduceSub,Int.reduceAdd,Int.reduceToNat,Int.reduceNeg];refine BC (Qa k hl2 ?_) ?_
 ·simp (maxDischargeDepth:=9) only [↓AP,AC,Ae,BV,AL,AR,Pe,↓reduceIte,Nat.reduceEqDiff,Nat.reduceLT,Nat.reduceLeDiff,Nat.reduceAdd,Nat.reduceMul,Nat.reduceMod,Nat.reduceDiv,Nat.reducePow,Nat.reduceSub,Nat.reduceBEq,Int.reduceLE,Int.reduceLT,Int.reduceEq,Int.reduceSub,Int.reduceAdd,Int.reduceToNat,Int.reduceNeg,EL]<;>(repeat' apply And.intro)<;>first | rfl | exact⟨_,rfl⟩ | exact⟨_,_,rfl⟩ | simp [AQ,Ar]
 ·intro ex2 s2 hX2;unfold Fv at hX2;obtain⟨rfl,n2_0,n2_1⟩:=hX2;cases h;simp (maxDischargeDepth:=9) only [↓AP,AC,Ae,BV,AL,AR,Pe,↓reduceIte,Nat.reduceEqDiff,Nat.reduceLT,Nat.reduceLeDiff,Nat.reduceAdd,Nat.reduceMul,Nat.reduceMod,Nat.reduceDiv,Nat.reducePow,Nat.reduceSub,Nat.reduceBEq,Int.reduceLE,Int.reduceLT,Int.reduceEq,Int.reduceSub,Int.reduceAdd,Int.reduceToNat,Int.reduceNeg,n2_0,n2_1]<;>(repeat' apply And.intro)<;>first | rfl | exact⟨_,rfl⟩ | exact⟨_,_,rfl⟩ | simp [AQ,Ar]
def EZ:Int→List (List (Int×Int))→List (List (Int×Int))
 | _,[]=>[]
 | k,x::l=>RN k x.length::EZ (k+2*(x.length:Int)) l
theorem Qb(x:List (Int×Int))(l:List (List (Int×Int))):CW (fE (x::l))=x.length+CW (fE l):=by
 rw [show fE (x::l)=x.map Prod.fst::fE l from rfl,OH,List.length_map]
theorem Qc(kk:Int): ∀(b a:List (List (Int×Int))) (k:Int),BU b→a.length+b.length<1099511627776→0≤k→k+2*CW (fE b)<1099511627776→
  Fq kk (k,(a.length:Int),a++b)=some (k+2*CW (fE b),a++EZ k b):=by
 intro b
 induction b with
 | nil=>
  intro a k hb hab hk hkt;unfold Fq;rw [JM (r:=(k,a++[]))]
  ·rw [show CW (fE [])=0 from rfl,Int.mul_zero,Int.add_zero];rfl
  ·simp only [Fp];rw [if_neg (Y9 _)]
 | cons x b ih=>
  intro a k hb hab hk hkt;rw [Qb]at hkt;simp only [List.length_cons]at hab;have hx:x.length<549755813888:=hb.2 x (List.mem_cons_self ..);have ht:=EP (fE b);have:=ih (a++[RN k x.length]) (k+2*(x.length:Int)) ⟨by omega,fun y hy=>hb.2 y (List.mem_cons_of_mem _ hy)⟩ (by simp;omega) (by omega) (by omega)
  unfold Fq at this ⊢;have eg:(a++x::b).getD (a.length:Int).toNat default=x:=by rw [Int.toNat_natCast];exact LH a (x::b) a.length rfl (by simp)
  rw [Lm (s':=(k+2*(x.length:Int),((a++[RN k x.length]).length:Int),(a++[RN k x.length])++b)),this]
  ·rw [Qb,show k+2*(x.length:Int)+2*CW (fE b)=k+2*(x.length+CW (fE b)) by omega]
   simp [EZ]
  ·simp only [Fp];rw [if_pos (Y7 ..),BM (Y8 ..),BM (by rw [eg];exact hx),BM (by rw [eg];omega),eg,Je _ (by omega),Int.toNat_natCast,List.set_append_right _ _ (Nat.le_refl _),Nat.sub_self,List.set_cons_zero]
   simp
theorem VP(a:List (List (Int×Int)))(k:Int)(ha:BU a)(hk:0≤k∧k+2*CW (fE a)<1099511627776):MC a k=some (k+2*CW (fE a),EZ k a):=by
 unfold MC;have:=Qc k a [] k ha (by have:=ha.1;simp;omega) hk.1 hk.2
 simp only [List.length_nil,List.nil_append,Int.natCast_zero]at this;rw [this];rfl
theorem VQ(a:List (List (Int×Int)))(k:Int)(h0:BU a)(h1:0≤k∧k+2*CW (fE a)<1099511627776):Y.call 48 [D.vw [100000] 0 0,D.int .i64 k] [D.own 100 (AQ (fun x=>D.own 102 (Ai .i64 .i64 x)) a)]=some (D.int .i64 (k+2*CW (fE a)),[D.own 100 (AQ (fun x=>D.own 102 (Ai .i64 .i64 x)) (EZ k a))]):=RQ a k (VP a k h0 h1)
noncomputable def Es(a:List (Int×Int))(k1 i:Int):Option ((Int×Int)⊕(Unit⊕Int)):= if i<(a.length:Int)then ck (0≤i∧i.toNat<a.length)<| if(BA a i.toNat)=k1 then if(Bc a i.toNat)=(IntKind.i64.wrap (k1+1))then some (Sum.inl (IntKind.i64.wrap ((IntKind.i64.wrap (k1+1))+1),IntKind.i64.wrap (i+1))) else some (Sum.inr (Sum.inl ())) else some (Sum.inr (Sum.inl ())) else some (Sum.inr (Sum.inr k1))
noncomputable def K9(a:List (Int×Int))(v:Int×Int):Option (Unit⊕Int):=Ht (fun v=>Es a v.1 v.2) v
noncomputable def LZ(a:List (Int×Int))(k:Int):Option (Int):=
 (K9 a (k,0)).bind fun DX=>
 match DX with
 | .inl q2_=>
  some (-1)
 | .inr q2_=>
  some q2_
def Z8:SC:= .seq (.seq (.ops [⟨some 6,.move (.tmp 5),3,none⟩,⟨some 7,.move (.tmp 0),100,none⟩,⟨some 8,.call ⟨(.builtin .len), #[(.tmp 7)], #[100]⟩,3,none⟩,⟨some 9,.binOp .lss 3 (.tmp 6) (.tmp 8) 3,4,none⟩]) (.cond (.tmp 9) .skip (.exit 0))) (.seq (.block 1 (.seq (.seq (.ops [⟨some 12,.move (.tmp 0),100,none⟩,⟨some 13,.move (.tmp 5),3,none⟩,⟨some 14,.indexAddr 100 (.tmp 12) (.tmp 13),0,none⟩,⟨some 15,.fieldAddr 102 (.tmp 14) 0,0,none⟩,⟨some 16,.load 3 (.tmp 15),3,none⟩,⟨some 17,.move (.tmp 1),3,none⟩,⟨some 18,.binOp .neq 3 (.tmp 16) (.tmp 17) 3,4,none⟩]) (.cond (.tmp 18) (.seq (.ops [⟨some 4,.assign (.const (.int .i64 (-1))),3,none⟩]) .ret) .skip)) (.seq (.ops [⟨some 19,.move (.tmp 1),3,none⟩,⟨some 20,.binOp .add 3 (.tmp 19) (.const (.int .i64 1)) 3,3,none⟩,⟨some 1,.assign (.tmp 20),3,none⟩]) (.seq (.seq (.ops [⟨some 21,.move (.tmp 0),100,none⟩,⟨some 22,.move (.tmp 5),3,none⟩,⟨some 23,.indexAddr 100 (.tmp 21) (.tmp 22),0,none⟩,⟨some 24,.fieldAddr 102 (.tmp 23) 1,0,none⟩,⟨some 25,.load 3 (.tmp 24),3,none⟩,⟨some 26,.move (.tmp 1),3,none⟩,⟨some 27,.binOp .neq 3 (.tmp 25) (.tmp 26) 3,4,none⟩]) (.cond (.tmp 27) (.seq (.ops [⟨some 4,.assign (.const (.int .i64 (-1))),3,none⟩])
 .ret) .skip)) (.ops [⟨some 28,.move (.tmp 1),3,none⟩,⟨some 29,.binOp .add 3 (.tmp 28) (.const (.int .i64 1)) 3,3,none⟩,⟨some 1,.assign (.tmp 29),3,none⟩]))))) (.ops [⟨some 10,.move (.tmp 5),3,none⟩,⟨some 11,.binOp .add 3 (.tmp 10) (.const (.int .i64 1)) 3,3,none⟩,⟨some 5,.assign (.tmp 11),3,none⟩]))
def rO:SC:= .loop Z8
def k98:SC:= .seq (.ops [⟨some 4,.assign (.const (.int .i64 0)),3,none⟩]) (.seq (.seq (.ops [⟨some 5,.assign (.const (.int .i64 0)),3,none⟩]) (.block 0 rO)) (.seq (.ops [⟨some 30,.move (.tmp 1),3,none⟩,⟨some 4,.assign (.tmp 30),3,none⟩]) .ret))
theorem A4Z:Try.f98.body.map (Be lends)=some k98:=by kernel_rfl
theorem AK7:Bu Try.f98 2=true:=by kernel_rfl
theorem c98{a l:List D}{r:D×List D}(h:Bo Y.env k98 (fin Ad l.length [ResultVar.tmp 4] r) (entry a l))(ha:a.length=2):Y.call 98 a l=some r:=
 Ab (Y:=Y) rfl Try.func98 (ha▸AK7) A4Z h
def DV(a:List (Int×Int))(k1 i:Int)(s:St):Prop:=s.v 0=D.sl 102 (Ai .i64 .i64 a)∧s.v 1=D.int .i64 k1∧s.v 5=D.int .i64 i
def DW(a:List (Int×Int))(r:Unit⊕Int)(ex:Ex)(s:St):Prop:=match r with
 | .inl q=>ex= .ret∧s.v 4=D.int .i64 (-1)
 | .inr q=>ex= .exit 0∧s.v 1=D.int .i64 q
theorem RS(a:List (Int×Int)){v:Int×Int}{s:St}{r:Unit⊕Int}(h:K9 a v=some r)(hM:DV a v.1 v.2 s):Bo Y.env rO (DW a r) s:=by
 unfold K9 at h;refine BR (c:=Z8) (fun v=>Es a v.1 v.2) (fun v s=>DV a v.1 v.2 s) (DW a) ?_ h hM;clear h hM s v r;intro v s o hM h;obtain⟨k1,i⟩:=v;dsimp only at h hM;unfold Es at h;unfold DV at hM;obtain⟨m0,m1,m2⟩:=hM;unfold Z8;by_cases e1:i<(a.length:Int)
 ·rw [if_pos e1]at h;obtain⟨e2,h⟩:=BO h;by_cases e3:(BA a i.toNat)=k1
  ·rw [if_pos e3]at h;by_cases e4:(Bc a i.toNat)=(IntKind.i64.wrap (k1+1))
   ·rw [if_pos e4]at h;cases h;simp (maxDischargeDepth:=9) only [↓AP,AC,Ae,BV,AL,AR,Pe,↓reduceIte,Nat.reduceEqDiff,Nat.reduceLT,Nat.reduceLeDiff,Nat.reduceAdd,Nat.reduceMul,Nat.reduceMod,Nat.reduceDiv,Nat.reducePow,Nat.reduceSub,Nat.reduceBEq,Int.reduceLE,Int.reduceLT,Int.reduceEq,Int.reduceSub,Int.reduceAdd,Int.reduceToNat,Int.reduceNeg,m0,m1,m2,e1,e2.1,e2.2,decide_eq_true e3,decide_eq_true e4,DV,DW,G9,JF,MX]<;>(repeat' apply And.intro)<;>first | rfl | exact⟨_,rfl⟩ | exact⟨_,_,rfl⟩ | simp [AQ,Ar]
   ·rw [if_neg e4]at h;cases h;simp (maxDischargeDepth:=9) only [↓AP,AC,Ae,BV,AL,AR,Pe,↓reduceIte,Nat.reduceEqDiff,Nat.reduceLT,Nat.reduceLeDiff,Nat.reduceAdd,Nat.reduceMul,Nat.reduceMod,Nat.reduceDiv,Nat.reducePow,Nat.reduceSub,Nat.reduceBEq,Int.reduceLE,Int.reduceLT,Int.reduceEq,Int.reduceSub,Int.reduceAdd,Int.reduceToNat,Int.reduceNeg,m0,m1,m2,e1,e2.1,e2.2,decide_eq_true e3,e4,DV,DW,G9,JF,MX]<;>(repeat' apply And.intro)<;>first | rfl | exact⟨_,rfl⟩ | exact⟨_,_,rfl⟩ | simp [AQ,Ar]
  ·rw [if_neg e3]at h;cases h;simp (maxDischargeDepth:=9) only [↓AP,AC,Ae,BV,AL,AR,Pe,↓reduceIte,Nat.reduceEqDiff,Nat.reduceLT,Nat.reduceLeDiff,Nat.reduceAdd,Nat.reduceMul,Nat.reduceMod,Nat.reduceDiv,Nat.reducePow,Nat.reduceSub,Nat.reduceBEq,Int.reduceLE,Int.reduceLT,Int.reduceEq,Int.reduceSub,Int.reduceAdd,Int.reduceToNat,Int.reduceNeg,m0,m1,m2,e1,e2.1,e2.2,e3,DV,DW,G9,JF,MX]<;>(repeat' apply And.intro)<;>first | rfl | exact⟨_,rfl⟩ | exact⟨_,_,rfl⟩ | simp [AQ,Ar]
 ·rw [if_neg e1]at h;cases h;simp (maxDischargeDepth:=9) only [↓AP,AC,Ae,BV,AL,AR,Pe,↓reduceIte,Nat.reduceEqDiff,Nat.reduceLT,Nat.reduceLeDiff,Nat.reduceAdd,Nat.reduceMul,Nat.reduceMod,Nat.reduceDiv,Nat.reducePow,Nat.reduceSub,Nat.reduceBEq,Int.reduceLE,Int.reduceLT,Int.reduceEq,Int.reduceSub,Int.reduceAdd,Int.reduceToNat,Int.reduceNeg,m0,m1,m2,e1,DV,DW,G9,JF,MX]<;>(repeat' apply And.intro)<;>first | rfl | exact⟨_,rfl⟩ | exact⟨_,_,rfl⟩ | simp [AQ,Ar]
theorem T9(a:List (Int×Int))(k:Int){r:Int}(h:LZ a k=some r):Y.call 98 [D.sl 102 (Ai .i64 .i64 a),D.int .i64 k] []=some (D.int .i64 r,[]):=by
 refine c98 ?_ rfl;unfold k98;unfold LZ at h;obtain⟨DX,hl2,h⟩:=Aw h;try dsimp only at h
 simp (maxDischargeDepth:=9) only [↓AP,AC,Ae,BV,AL,AR,Pe,↓reduceIte,Nat.reduceEqDiff,Nat.reduceLT,Nat.reduceLeDiff,Nat.reduceAdd,Nat.reduceMul,Nat.reduceMod,Nat.reduceDiv,Nat.reducePow,Nat.reduceSub,Nat.reduceBEq,Int.reduceLE,Int.reduceLT,Int.reduceEq,Int.reduceSub,Int.reduceAdd,Int.reduceToNat,Int.reduceNeg];refine BC (RS a hl2 ?_) ?_
 ·simp (maxDischargeDepth:=9) only [↓AP,AC,Ae,BV,AL,AR,Pe,↓reduceIte,Nat.reduceEqDiff,Nat.reduceLT,Nat.reduceLeDiff,Nat.reduceAdd,Nat.reduceMul,Nat.reduceMod,Nat.reduceDiv,Nat.reducePow,Nat.reduceSub,Nat.reduceBEq,Int.reduceLE,Int.reduceLT,Int.reduceEq,Int.reduceSub,Int.reduceAdd,Int.reduceToNat,Int.reduceNeg,DV]<;>(repeat' apply And.intro)<;>first | rfl | exact⟨_,rfl⟩ | exact⟨_,_,rfl⟩ | simp [AQ,Ar]
 ·intro ex2 s2 hX2;rcases DX with q2_ | q2_
  ·unfold DW at hX2;dsimp only at hX2 h;obtain⟨rfl,n2_0⟩:=hX2;cases h;simp (maxDischargeDepth:=9) only [↓AP,AC,Ae,BV,AL,AR,Pe,↓reduceIte,Nat.reduceEqDiff,Nat.reduceLT,Nat.reduceLeDiff,Nat.reduceAdd,Nat.reduceMul,Nat.reduceMod,Nat.reduceDiv,Nat.reducePow,Nat.reduceSub,Nat.reduceBEq,Int.reduceLE,Int.reduceLT,Int.reduceEq,Int.reduceSub,Int.reduceAdd,Int.reduceToNat,Int.reduceNeg,n2_0]<;>(repeat' apply And.intro)<;>first | rfl | exact⟨_,rfl⟩ | exact⟨_,_,rfl⟩ | simp [AQ,Ar]
  ·unfold DW at hX2;dsimp only at hX2 h;obtain⟨rfl,n2_0⟩:=hX2;cases h;simp (maxDischargeDepth:=9) only [↓AP,AC,Ae,BV,AL,AR,Pe,↓reduceIte,Nat.reduceEqDiff,Nat.reduceLT,Nat.reduceLeDiff,Nat.reduceAdd,Nat.reduceMul,Nat.reduceMod,Nat.reduceDiv,Nat.reducePow,Nat.reduceSub,Nat.reduceBEq,Int.reduceLE,Int.reduceLT,Int.reduceEq,Int.reduceSub,Int.reduceAdd,Int.reduceToNat,Int.reduceNeg,n2_0]<;>(repeat' apply And.intro)<;>first | rfl | exact⟨_,rfl⟩ | exact⟨_,_,rfl⟩ | simp [AQ,Ar]
noncomputable def Fw(a:List (List (Int×Int)))(k1 i:Int):Option ((Int×Int)⊕(Unit⊕Int)):= if i<(a.length:Int)then ck (0≤i∧i.toNat<a.length)<| (LZ (a.getD i.toNat default) k1).bind fun E8=> if E8<0 then some (Sum.inr (Sum.inl ())) else some (Sum.inl (E8,IntKind.i64.wrap (i+1))) else some (Sum.inr (Sum.inr k1))
noncomputable def Fx(a:List (List (Int×Int)))(v:Int×Int):Option (Unit⊕Int):=Ht (fun v=>Fw a v.1 v.2) v
noncomputable def KX(a:List (List (Int×Int)))(k:Int):Option (Int):=
 (Fx a (k,0)).bind fun DX=>
 match DX with
 | .inl q2_=>
  some (-1)
 | .inr q2_=>
  some q2_
def Z9:SC:= .seq (.seq (.ops [⟨some 6,.move (.tmp 5),3,none⟩,⟨some 7,.move (.tmp 0),29,none⟩,⟨some 8,.call ⟨(.builtin .len), #[(.tmp 7)], #[29]⟩,3,none⟩,⟨some 9,.binOp .lss 3 (.tmp 6) (.tmp 8) 3,4,none⟩]) (.cond (.tmp 9) .skip (.exit 0))) (.seq (.block 1 (.seq (.ops [⟨some 12,.move (.tmp 0),29,none⟩,⟨some 13,.move (.tmp 5),3,none⟩,⟨some 14,.indexAddr 29 (.tmp 12) (.tmp 13),0,none⟩,⟨some 15,.load 100 (.tmp 14),100,none⟩,⟨some 16,.move (.tmp 1),3,none⟩,⟨some 17,.call ⟨(.value (.func 98)), #[(.tmp 15),(.tmp 16)], #[100,3]⟩,3,none⟩,⟨some 1,.assign (.tmp 17),3,none⟩]) (.seq (.ops [⟨some 18,.move (.tmp 1),3,none⟩,⟨some 19,.binOp .lss 3 (.tmp 18) (.const (.int .i64 0)) 3,4,none⟩]) (.cond (.tmp 19) (.seq (.ops [⟨some 4,.assign (.const (.int .i64 (-1))),3,none⟩]) .ret) .skip)))) (.ops [⟨some 10,.move (.tmp 5),3,none⟩,⟨some 11,.binOp .add 3 (.tmp 10) (.const (.int .i64 1)) 3,3,none⟩,⟨some 5,.assign (.tmp 11),3,none⟩]))
def rP:SC:= .loop Z9
def k49:SC:= .seq (.ops [⟨some 4,.assign (.const (.int .i64 0)),3,none⟩]) (.seq (.seq (.ops [⟨some 5,.assign (.const (.int .i64 0)),3,none⟩]) (.block 0 rP)) (.seq (.ops [⟨some 20,.move (.tmp 1),3,none⟩,⟨some 4,.assign (.tmp 20),3,none⟩]) .ret))
theorem A4a:Try.f49.body.map (Be lends)=some k49:=by kernel_rfl
theorem AK9:Bu Try.f49 2=true:=by kernel_rfl
theorem c49{a l:List D}{r:D×List D}(h:Bo Y.env k49 (fin Ad l.length [ResultVar.tmp 4] r) (entry a l))(ha:a.length=2):Y.call 49 a l=some r:=
 Ab (Y:=Y) rfl Try.func49 (ha▸AK9) A4a h
def Dc(a:List (List (Int×Int)))(k1 i:Int)(s:St):Prop:=s.v 0=D.sl 100 (AQ (fun x=>D.sl 102 (Ai .i64 .i64 x)) a)∧s.v 1=D.int .i64 k1∧s.v 5=D.int .i64 i
def De(a:List (List (Int×Int)))(r:Unit⊕Int)(ex:Ex)(s:St):Prop:=match r with
 | .inl q=>ex= .ret∧s.v 4=D.int .i64 (-1)
 | .inr q=>ex= .exit 0∧s.v 1=D.int .i64 q
theorem Qd(a:List (List (Int×Int))){v:Int×Int}{s:St}{r:Unit⊕Int}(h:Fx a v=some r)(hM:Dc a v.1 v.2 s):Bo Y.env rP (De a r) s:=by
 unfold Fx at h;refine BR (c:=Z9) (fun v=>Fw a v.1 v.2) (fun v s=>Dc a v.1 v.2 s) (De a) ?_ h hM;clear h hM s v r;intro v s o hM h;obtain⟨k1,i⟩:=v;dsimp only at h hM;unfold Fw at h;unfold Dc at hM;obtain⟨m0,m1,m2⟩:=hM;unfold Z9;by_cases e1:i<(a.length:Int)
 ·rw [if_pos e1]at h;obtain⟨e2,h⟩:=BO h;obtain⟨E8,hl3,h⟩:=Aw h;try dsimp only at h
  have c3:=T9 (a.getD i.toNat default) k1 hl3;by_cases e4:E8<0
  ·rw [if_pos e4]at h;cases h;simp (maxDischargeDepth:=9) only [↓AP,AC,Ae,BV,AL,AR,Pe,↓reduceIte,Nat.reduceEqDiff,Nat.reduceLT,Nat.reduceLeDiff,Nat.reduceAdd,Nat.reduceMul,Nat.reduceMod,Nat.reduceDiv,Nat.reducePow,Nat.reduceSub,Nat.reduceBEq,Int.reduceLE,Int.reduceLT,Int.reduceEq,Int.reduceSub,Int.reduceAdd,Int.reduceToNat,Int.reduceNeg,m0,m1,m2,e1,e2.1,e2.2,c3,e4,Dc,De,G9,JF,MX]<;>(repeat' apply And.intro)<;>first | rfl | exact⟨_,rfl⟩ | exact⟨_,_,rfl⟩ | simp [AQ,Ar]
  ·rw [if_neg e4]at h;cases h;simp (maxDischargeDepth:=9) only [↓AP,AC,Ae,BV,AL,AR,Pe,↓reduceIte,Nat.reduceEqDiff,Nat.reduceLT,Nat.reduceLeDiff,Nat.reduceAdd,Nat.reduceMul,Nat.reduceMod,Nat.reduceDiv,Nat.reducePow,Nat.reduceSub,Nat.reduceBEq,Int.reduceLE,Int.reduceLT,Int.reduceEq,Int.reduceSub,Int.reduceAdd,Int.reduceToNat,Int.reduceNeg,m0,m1,m2,e1,e2.1,e2.2,c3,e4,Dc,De,G9,JF,MX]<;>(repeat' apply And.intro)<;>first | rfl | exact⟨_,rfl⟩ | exact⟨_,_,rfl⟩ | simp [AQ,Ar]
 ·rw [if_neg e1]at h;cases h;simp (maxDischargeDepth:=9) only [↓AP,AC,Ae,BV,AL,AR,Pe,↓reduceIte,Nat.reduceEqDiff,Nat.reduceLT,Nat.reduceLeDiff,Nat.reduceAdd,Nat.reduceMul,Nat.reduceMod,Nat.reduceDiv,Nat.reducePow,Nat.reduceSub,Nat.reduceBEq,Int.reduceLE,Int.reduceLT,Int.reduceEq,Int.reduceSub,Int.reduceAdd,Int.reduceToNat,Int.reduceNeg,m0,m1,m2,e1,Dc,De,G9,JF,MX]<;>(repeat' apply And.intro)<;>first | rfl | exact⟨_,rfl⟩ | exact⟨_,_,rfl⟩ | simp [AQ,Ar]
theorem RU(a:List (List (Int×Int)))(k:Int){r:Int}(h:KX a k=some r):Y.call 49 [D.sl 100 (AQ (fun x=>D.sl 102 (Ai .i64 .i64 x)) a),D.int .i64 k] []=some (D.int .i64 r,[]):=by
 refine c49 ?_ rfl;unfold k49;unfold KX at h;obtain⟨DX,hl2,h⟩:=Aw h;try dsimp only at h
 simp (maxDischargeDepth:=9) only [↓AP,AC,Ae,BV,AL,AR,Pe,↓reduceIte,Nat.reduceEqDiff,Nat.reduceLT,Nat.reduceLeDiff,Nat.reduceAdd,Nat.reduceMul,Nat.reduceMod,Nat.reduceDiv,Nat.reducePow,Nat.reduceSub,Nat.reduceBEq,Int.reduceLE,Int.reduceLT,Int.reduceEq,Int.reduceSub,Int.reduceAdd,Int.reduceToNat,Int.reduceNeg];refine BC (Qd a hl2 ?_) ?_
 ·simp (maxDischargeDepth:=9) only [↓AP,AC,Ae,BV,AL,AR,Pe,↓reduceIte,Nat.reduceEqDiff,Nat.reduceLT,Nat.reduceLeDiff,Nat.reduceAdd,Nat.reduceMul,Nat.reduceMod,Nat.reduceDiv,Nat.reducePow,Nat.reduceSub,Nat.reduceBEq,Int.reduceLE,Int.reduceLT,Int.reduceEq,Int.reduceSub,Int.reduceAdd,Int.reduceToNat,Int.reduceNeg,Dc]<;>(repeat' apply And.intro)<;>first | rfl | exact⟨_,rfl⟩ | exact⟨_,_,rfl⟩ | simp [AQ,Ar]
 ·intro ex2 s2 hX2;rcases DX with q2_ | q2_
  ·unfold De at hX2;dsimp only at hX2 h;obtain⟨rfl,n2_0⟩:=hX2;cases h;simp (maxDischargeDepth:=9) only [↓AP,AC,Ae,BV,AL,AR,Pe,↓reduceIte,Nat.reduceEqDiff,Nat.reduceLT,Nat.reduceLeDiff,Nat.reduceAdd,Nat.reduceMul,Nat.reduceMod,Nat.reduceDiv,Nat.reducePow,Nat.reduceSub,Nat.reduceBEq,Int.reduceLE,Int.reduceLT,Int.reduceEq,Int.reduceSub,Int.reduceAdd,Int.reduceToNat,Int.reduceNeg,n2_0]<;>(repeat' apply And.intro)<;>first | rfl | exact⟨_,rfl⟩ | exact⟨_,_,rfl⟩ | simp [AQ,Ar]
  ·unfold De at hX2;dsimp only at hX2 h;obtain⟨rfl,n2_0⟩:=hX2;cases h;simp (maxDischargeDepth:=9) only [↓AP,AC,Ae,BV,AL,AR,Pe,↓reduceIte,Nat.reduceEqDiff,Nat.reduceLT,Nat.reduceLeDiff,Nat.reduceAdd,Nat.reduceMul,Nat.reduceMod,Nat.reduceDiv,Nat.reducePow,Nat.reduceSub,Nat.reduceBEq,Int.reduceLE,Int.reduceLT,Int.reduceEq,Int.reduceSub,Int.reduceAdd,Int.reduceToNat,Int.reduceNeg,n2_0]<;>(repeat' apply And.intro)<;>first | rfl | exact⟨_,rfl⟩ | exact⟨_,_,rfl⟩ | simp [AQ,Ar]
theorem WQ(n:Nat)(k:Int)(hn:n<549755813888)(hk:0≤k∧k+2*(n:Int)<1099511627776):LZ (RN k n) k=some (k+2*(n:Int)):=by
 have key:=Bb (fun v=>Es (RN k n) v.1 v.2) (fun i=>(k+2*(i:Int),(i:Int))) n (.inr (k+2*(n:Int))) ?_ ?_
 ·unfold LZ K9;simp only [Int.natCast_zero,Int.mul_zero,Int.add_zero]at key;rw [key];rfl
 ·intro i hi;simp only [Es];rw [NK,if_pos (BZ hi),BM (FV hi),Int.toNat_natCast,vT k n i hi,vU k n i hi,if_pos rfl,Ir (k+2*(i:Int)+1) (by omega),if_pos rfl,Je i (by omega),Ir _ (by omega)]
  rw [show k+2*(i:Int)+1+1=k+2*((i+1:Nat):Int) by omega]
 ·simp only [Es];rw [NK,if_neg (Aq _)]
theorem Qe: ∀(b a:List (List (Int×Int))) (k:Int),BU b→a.length+b.length<1099511627776→0≤k→k+2*CW (fE b)<1099511627776→
  Fx (a++EZ k b) (k,(a.length:Int))=some (.inr (k+2*CW (fE b))):=by
 intro b
 induction b with
 | nil=>
  intro a k hb hab hk hkt;unfold Fx;rw [JM (r:=Sum.inr k)]
  ·rw [show CW (fE [])=0 from rfl,Int.mul_zero,Int.add_zero]
  ·rw [show EZ k []=[]from rfl];simp only [Fw];rw [if_neg (Y9 _)]
 | cons x b ih=>
  intro a k hb hab hk hkt;rw [Qb]at hkt;simp only [List.length_cons]at hab;have hx:x.length<549755813888:=hb.2 x (List.mem_cons_self ..);have ht:=EP (fE b);have:=ih (a++[RN k x.length]) (k+2*(x.length:Int)) ⟨by omega,fun y hy=>hb.2 y (List.mem_cons_of_mem _ hy)⟩ (by simp;omega) (by omega) (by omega)
  unfold Fx at this ⊢;have eg:(a++EZ k (x::b)).getD (a.length:Int).toNat default=RN k x.length:=by rw [Int.toNat_natCast];exact LH a (EZ k (x::b)) a.length rfl (by simp [EZ])
  rw [Lm (s':=(k+2*(x.length:Int),((a++[RN k x.length]).length:Int)))]
  ·rw [show a++EZ k (x::b)=a++[RN k x.length]++EZ (k+2*(x.length:Int)) b by simp [EZ],this,Qb]
   rw [show k+2*(x.length:Int)+2*CW (fE b)=k+2*(x.length+CW (fE b)) by omega]
  ·simp only [Fw];rw [EZ]at eg ⊢;rw [if_pos (Y7 ..),BM (Y8 ..),eg,WQ _ _ hx (by omega),Option.bind_some,if_neg (by omega),Je _ (by omega)];simp
theorem VS(a:List (List (Int×Int)))(k:Int)(ha:BU a)(hk:0≤k∧k+2*CW (fE a)<1099511627776):KX (EZ k a) k=some (k+2*CW (fE a)):=by
 unfold KX;have:=Qe a [] k ha (by have:=ha.1;simp;omega) hk.1 hk.2
 simp only [List.length_nil,List.nil_append,Int.natCast_zero]at this;rw [this];rfl
noncomputable def KA(Am:List (List (Int×Int)))(BH Ak:List Int)(k:Int):Option (Int×(List (List (Int×Int)))×(List Int)×(List Int)):= ck (BU Am)<| ck (0≤k∧k+2*CW (fE Am)<1099511627776)<| ck (BH.length<1099511627776)<| ck (0≤(k+2*CW (fE Am))∧(k+2*CW (fE Am))<1099511627776)<| ck (Ak.length<1099511627776)<| ck (0≤((k+2*CW (fE Am))+BH.length)∧((k+2*CW (fE Am))+BH.length)<1099511627776)<| some ((((k+2*CW (fE Am))+BH.length)+Ak.length),(EZ k Am),(upto (k+2*CW (fE Am)) BH.length),(upto ((k+2*CW (fE Am))+BH.length) Ak.length))
def k17:SC:= .seq (.ops [⟨some 2,.box 31 (.tmp 0),0,none⟩,⟨some 4,.assign (.const (.int .i64 0)),3,none⟩]) (.seq (.ops [⟨some 5,.fieldAddr 31 (.tmp 2) 0,0,none⟩,⟨some 6,.load 29 (.tmp 5),29,none⟩,⟨some 7,.move (.tmp 1),3,none⟩,⟨some 8,.call ⟨(.value (.func 48)), #[(.tmp 6),(.tmp 7)], #[29,3]⟩,3,none⟩,⟨some 1,.assign (.tmp 8),3,none⟩]) (.seq (.ops [⟨some 9,.fieldAddr 31 (.tmp 2) 1,0,none⟩,⟨some 10,.load 23 (.tmp 9),23,none⟩,⟨some 11,.move (.tmp 1),3,none⟩,⟨some 12,.call ⟨(.value (.func 18)), #[(.tmp 10),(.tmp 11)], #[23,3]⟩,3,none⟩,⟨some 1,.assign (.tmp 12),3,none⟩]) (.seq (.ops [⟨some 13,.fieldAddr 31 (.tmp 2) 2,0,none⟩,⟨some 14,.load 23 (.tmp 13),23,none⟩,⟨some 15,.move (.tmp 1),3,none⟩,⟨some 16,.call ⟨(.value (.func 18)), #[(.tmp 14),(.tmp 15)], #[23,3]⟩,3,none⟩,⟨some 1,.assign (.tmp 16),3,none⟩]) (.seq (.ops [⟨some 17,.move (.tmp 1),3,none⟩,⟨some 4,.assign (.tmp 17),3,none⟩]) .ret))))
theorem A4b:Try.f17.body.map (Be lends)=some k17:=by kernel_rfl
theorem AKB:Bu Try.f17 2=true:=by kernel_rfl
theorem WK{a l:List D}{r:D×List D}(h:Bo Y.env k17 (fin Ad l.length [ResultVar.tmp 4] r) (entry a l))(ha:a.length=2):Y.call 17 a l=some r:=
 Ab (Y:=Y) rfl Try.func17 (ha▸AKB) A4b h
theorem PZ(Am:List (List (Int×Int)))(BH Ak:List Int)(k:Int){r:Int×(List (List (Int×Int)))×(List Int)×(List Int)}(h:KA Am BH Ak k=some r):Y.call 17 [D.agg [D.vw [100000] 0 0,D.vw [100001] 0 0,D.vw [100002] 0 0],D.int .i64 k] [D.own 100 (AQ (fun x=>D.own 102 (Ai .i64 .i64 x)) Am),D.own 3 (AQ (D.int .i64) BH),D.own 3 (AQ (D.int .i64) Ak)]=some (D.int .i64 r.1,[D.own 100 (AQ (fun x=>D.own 102 (Ai .i64 .i64 x)) r.2.1),D.own 3 (AQ (D.int .i64) r.2.2.1),D.own 3 (AQ (D.int .i64) r.2.2.2)]):=by
 refine WK ?_ rfl;unfold k17;unfold KA at h;obtain⟨e1,h⟩:=BO h;obtain⟨e2,h⟩:=BO h;have c3:=VQ Am k e1 e2;obtain⟨e4,h⟩:=BO h;obtain⟨e5,h⟩:=BO h;have c6:=Jr BH (k+2*CW (fE Am)) e4 e5;obtain⟨e7,h⟩:=BO h;obtain⟨e8,h⟩:=BO h;have c9:=Jr Ak ((k+2*CW (fE Am))+BH.length) e7 e8;cases h;simp (maxDischargeDepth:=9) only [↓AP,AC,Ae,BV,AL,AR,Pe,↓reduceIte,Nat.reduceEqDiff,Nat.reduceLT,Nat.reduceLeDiff,Nat.reduceAdd,Nat.reduceMul,Nat.reduceMod,Nat.reduceDiv,Nat.reducePow,Nat.reduceSub,Nat.reduceBEq,Int.reduceLE,Int.reduceLT,Int.reduceEq,Int.reduceSub,Int.reduceAdd,Int.reduceToNat,Int.reduceNeg,e1,e2.1,e2.2,c3,e4,e5.1,e5.2,c6,e7,e8.1,e8.2,c9]<;>(repeat' apply And.intro)<;>first | rfl | exact⟨_,rfl⟩ | exact⟨_,_,rfl⟩ | simp [AQ,Ar]
theorem RV(a:List (List (Int×Int)))(b c:List Int)(k:Int)(ha:BU a)(hb:b.length<1099511627776)(hc:c.length<1099511627776)(hk:0≤k∧k+2*CW (fE a)+b.length+c.length<1099511627776):
  KA a b c k=some (k+2*CW (fE a)+b.length+c.length,EZ k a,upto (k+2*CW (fE a)) b.length,upto (k+2*CW (fE a)+b.length) c.length):=by
 have ht:=EP (fE a);unfold KA;rw [BM ha,BM (by omega),BM hb,BM (by omega),BM hc,BM (by omega)]
theorem Ii(Am:List (List (Int×Int)))(BH Ak:List Int)(k:Int)(h0:BU Am)(h1:BH.length<1099511627776)(h2:Ak.length<1099511627776)(h3:0≤k∧k+2*CW (fE Am)+BH.length+Ak.length<1099511627776):Y.call 17 [D.agg [D.vw [100000] 0 0,D.vw [100001] 0 0,D.vw [100002] 0 0],D.int .i64 k] [D.own 100 (AQ (fun x=>D.own 102 (Ai .i64 .i64 x)) Am),D.own 3 (AQ (D.int .i64) BH),D.own 3 (AQ (D.int .i64) Ak)]=some (D.int .i64 (k+2*CW (fE Am)+BH.length+Ak.length),[D.own 100 (AQ (fun x=>D.own 102 (Ai .i64 .i64 x)) (EZ k Am)),D.own 3 (AQ (D.int .i64) (upto (k+2*CW (fE Am)) BH.length)),D.own 3 (AQ (D.int .i64) (upto (k+2*CW (fE Am)+BH.length) Ak.length))]):=PZ Am BH Ak k (RV Am BH Ak k h0 h1 h2 h3)
noncomputable def Ho(Am:List (List (Int×Int)))(BH Ak:List Int)(k:Int):Option (Int):= (KX Am k).bind fun BI=> if BI<0 then some (-1) else ck (BH.length<1099511627776)<| ck (0≤BI∧BI+BH.length<1099511627776)<| if(IB BI BH)<0 then some (-1) else ck (Ak.length<1099511627776)<| ck (0≤(IB BI BH)∧(IB BI BH)+Ak.length<1099511627776)<| if(IB (IB BI BH) Ak)<0 then some (-1) else some (IB (IB BI BH) Ak)
def k19:SC:= .seq (.ops [⟨some 2,.box 31 (.tmp 0),0,none⟩,⟨some 4,.assign (.const (.int .i64 0)),3,none⟩]) (.seq (.ops [⟨some 5,.fieldAddr 31 (.tmp 2) 0,0,none⟩,⟨some 6,.load 29 (.tmp 5),29,none⟩,⟨some 7,.move (.tmp 1),3,none⟩,⟨some 8,.call ⟨(.value (.func 49)), #[(.tmp 6),(.tmp 7)], #[29,3]⟩,3,none⟩,⟨some 1,.assign (.tmp 8),3,none⟩]) (.seq (.seq (.ops [⟨some 9,.move (.tmp 1),3,none⟩,⟨some 10,.binOp .lss 3 (.tmp 9) (.const (.int .i64 0)) 3,4,none⟩]) (.cond (.tmp 10) (.seq (.ops [⟨some 4,.assign (.const (.int .i64 (-1))),3,none⟩]) .ret) .skip)) (.seq (.ops [⟨some 11,.fieldAddr 31 (.tmp 2) 1,0,none⟩,⟨some 12,.load 23 (.tmp 11),23,none⟩,⟨some 13,.move (.tmp 1),3,none⟩,⟨some 14,.call ⟨(.value (.func 20)), #[(.tmp 12),(.tmp 13)], #[23,3]⟩,3,none⟩,⟨some 1,.assign (.tmp 14),3,none⟩]) (.seq (.seq (.ops [⟨some 15,.move (.tmp 1),3,none⟩,⟨some 16,.binOp .lss 3 (.tmp 15) (.const (.int .i64 0)) 3,4,none⟩]) (.cond (.tmp 16) (.seq (.ops [⟨some 4,.assign (.const (.int .i64 (-1))),3,none⟩]) .ret) .skip)) (.seq (.ops [⟨some 17,.fieldAddr 31 (.tmp 2) 2,0,none⟩,⟨some 18,.load 23 (.tmp 17),23,none⟩,⟨some 19,.move (.tmp 1),3,none⟩,⟨some 20,.call ⟨(.value (.func 20)), #[(.tmp 18),(.tmp 19)], #[23,3]⟩,3,none⟩,
 ⟨some 1,.assign (.tmp 20),3,none⟩]) (.seq (.seq (.ops [⟨some 21,.move (.tmp 1),3,none⟩,⟨some 22,.binOp .lss 3 (.tmp 21) (.const (.int .i64 0)) 3,4,none⟩]) (.cond (.tmp 22) (.seq (.ops [⟨some 4,.assign (.const (.int .i64 (-1))),3,none⟩]) .ret) .skip)) (.seq (.ops [⟨some 23,.move (.tmp 1),3,none⟩,⟨some 4,.assign (.tmp 23),3,none⟩]) .ret)))))))
theorem A4c:Try.f19.body.map (Be lends)=some k19:=by kernel_rfl
theorem AKD:Bu Try.f19 2=true:=by kernel_rfl
theorem c19{a l:List D}{r:D×List D}(h:Bo Y.env k19 (fin Ad l.length [ResultVar.tmp 4] r) (entry a l))(ha:a.length=2):Y.call 19 a l=some r:=
 Ab (Y:=Y) rfl Try.func19 (ha▸AKD) A4c h
theorem La(Am:List (List (Int×Int)))(BH Ak:List Int)(k:Int){r:Int}(h:Ho Am BH Ak k=some r):Y.call 19 [D.agg [D.sl 100 (AQ (fun x=>D.sl 102 (Ai .i64 .i64 x)) Am),D.sl 3 (AQ (D.int .i64) BH),D.sl 3 (AQ (D.int .i64) Ak)],D.int .i64 k] []=some (D.int .i64 r,[]):=by
 refine c19 ?_ rfl;unfold k19;unfold Ho at h;obtain⟨BI,hl1,h⟩:=Aw h;try dsimp only at h
 have c1:=RU Am k hl1;by_cases e2:BI<0
 ·rw [if_pos e2]at h;cases h;simp (maxDischargeDepth:=9) only [↓AP,AC,Ae,BV,AL,AR,Pe,↓reduceIte,Nat.reduceEqDiff,Nat.reduceLT,Nat.reduceLeDiff,Nat.reduceAdd,Nat.reduceMul,Nat.reduceMod,Nat.reduceDiv,Nat.reducePow,Nat.reduceSub,Nat.reduceBEq,Int.reduceLE,Int.reduceLT,Int.reduceEq,Int.reduceSub,Int.reduceAdd,Int.reduceToNat,Int.reduceNeg,c1,e2]<;>(repeat' apply And.intro)<;>first | rfl | exact⟨_,rfl⟩ | exact⟨_,_,rfl⟩ | simp [AQ,Ar]
 ·rw [if_neg e2]at h;obtain⟨e3,h⟩:=BO h;obtain⟨e4,h⟩:=BO h;have c5:=Gl BH BI e3 e4;by_cases e6:(IB BI BH)<0
  ·rw [if_pos e6]at h;cases h;simp (maxDischargeDepth:=9) only [↓AP,AC,Ae,BV,AL,AR,Pe,↓reduceIte,Nat.reduceEqDiff,Nat.reduceLT,Nat.reduceLeDiff,Nat.reduceAdd,Nat.reduceMul,Nat.reduceMod,Nat.reduceDiv,Nat.reducePow,Nat.reduceSub,Nat.reduceBEq,Int.reduceLE,Int.reduceLT,Int.reduceEq,Int.reduceSub,Int.reduceAdd,Int.reduceToNat,Int.reduceNeg,c1,e2,e3,e4.1,e4.2,c5,e6]<;>(repeat' apply And.intro)<;>first | rfl | exact⟨_,rfl⟩ | exact⟨_,_,rfl⟩ | simp [AQ,Ar]
  ·rw [if_neg e6]at h;obtain⟨e7,h⟩:=BO h;obtain⟨e8,h⟩:=BO h;have c9:=Gl Ak (IB BI BH) e7 e8;by_cases e10:(IB (IB BI BH) Ak)<0
   ·rw [if_pos e10]at h;cases h;simp (maxDischargeDepth:=9) only [↓AP,AC,Ae,BV,AL,AR,Pe,↓reduceIte,Nat.reduceEqDiff,Nat.reduceLT,Nat.reduceLeDiff,Nat.reduceAdd,Nat.reduceMul,Nat.reduceMod,Nat.reduceDiv,Nat.reducePow,Nat.reduceSub,Nat.reduceBEq,Int.reduceLE,Int.reduceLT,Int.reduceEq,Int.reduceSub,Int.reduceAdd,Int.reduceToNat,Int.reduceNeg,c1,e2,e3,e4.1,e4.2,c5,e6,e7,e8.1,e8.2,c9,e10]<;>(repeat' apply And.intro)<;>first | rfl | exact⟨_,rfl⟩ | exact⟨_,_,rfl⟩ | simp [AQ,Ar]
   ·rw [if_neg e10]at h;cases h;simp (maxDischargeDepth:=9) only [↓AP,AC,Ae,BV,AL,AR,Pe,↓reduceIte,Nat.reduceEqDiff,Nat.reduceLT,Nat.reduceLeDiff,Nat.reduceAdd,Nat.reduceMul,Nat.reduceMod,Nat.reduceDiv,Nat.reducePow,Nat.reduceSub,Nat.reduceBEq,Int.reduceLE,Int.reduceLT,Int.reduceEq,Int.reduceSub,Int.reduceAdd,Int.reduceToNat,Int.reduceNeg,c1,e2,e3,e4.1,e4.2,c5,e6,e7,e8.1,e8.2,c9,e10]<;>(repeat' apply And.intro)<;>first | rfl | exact⟨_,rfl⟩ | exact⟨_,_,rfl⟩ | simp [AQ,Ar]
theorem RX(a:List (List (Int×Int)))(b c:List Int)(k:Int)(ha:BU a)(hb:b.length<1099511627776)(hc:c.length<1099511627776)(hk:0≤k∧k+2*CW (fE a)+b.length+c.length<1099511627776):
  Ho (EZ k a) (upto (k+2*CW (fE a)) b.length) (upto (k+2*CW (fE a)+b.length) c.length) k=some (k+2*CW (fE a)+b.length+c.length):=by
 have ht:=EP (fE a);unfold Ho;rw [VS a k ha (by omega),Option.bind_some,if_neg (by omega),LK,BM hb,BM (by omega),RB,if_neg (by omega),LK,BM hc,BM (by omega),RB,if_neg (by omega)]
end Go.Proofs.Ytipfckompmhljaa
