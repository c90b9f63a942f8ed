/- Copies, comparisons, sizes and marks of numbers in lists, as plain functions. Conditions: the lists are short. -/
import Derived.Test.YtclkfhhdikfcpaaL6
import Derived.Test.YtclkfhhdikfcpaaDt
namespace Go.Proofs.Ytclkfhhdikfcpaa
open Go Dv
set_option linter.unusedSimpArgs false
set_option linter.unusedVariables false
set_option maxRecDepth 100000
set_option maxHeartbeats 4000000
def BM(l:List (List Int)):Prop:=l.length<1099511627776∧ ∀x∈l,x.length<1099511627776
theorem BM.nil:BM []:=⟨by decide,fun _ h=>by cases h⟩
theorem BM.at{l:List (List Int)}(h:BM l)(i:Nat)(hi:i<l.length):l[i].length<1099511627776:=h.2 _ (Ij hi)
instance (l:List (List Int)):Decidable (BM l):=by unfold BM;infer_instance
theorem aQ{α:Type}[Inhabited α](xs:List α)(i:Nat)(h:i<xs.length)(z:α):(xs.take i++List.replicate (xs.length-i) z).set i xs[i]=xs.take (i+1)++List.replicate (xs.length-(i+1)) z:=by
 have e:xs.length-i=(xs.length-(i+1))+1:=by omega
 rw [e,ak,aj _ _ (by simp;omega),dm h]
 have:i-(xs.take i).length=0:=by simp;omega
 rw [this,List.set_cons_zero,Pb];rfl
noncomputable def Gr(a:List Int)(out:List Int)(i:Int):Option (((List Int)×Int)⊕((List Int))):= if i<(a.length:Int)then ck (0≤i∧i.toNat<a.length)<| ck (0≤i∧i.toNat<out.length)<| some (Sum.inl ((out.set i.toNat (a.getD i.toNat default)),IntKind.i64.wrap (i+1))) else some (Sum.inr out)
noncomputable def Kb(a:List Int)(v:(List Int)×Int):Option ((List Int)):=Iw (fun v=>Gr a v.1 v.2) v
noncomputable def P9(a:List Int):Option ((List Int)):= ck (0≤(a.length:Int)∧(a.length:Int)<1099511627776)<| (Kb a ((List.replicate a.length 0),0)).bind fun AO=> some AO
def Vs:SC:= .seq (.seq (.ops [oM 8 4 3,oM 9 0 26,oN 10 9 26,oB 11 .lss 3 (tK 8) (tK 10) 3 4]) (.cond (tK 11) .skip (.exit 0))) (.seq (.block 1 (.ops [oM 14 3 26,oM 15 4 3,oM 16 0 26,oM 17 4 3,oI 18 26 16 17,oL 19 3 18 3,oI 20 26 14 15,oS 3 20 19])) (.ops [oM 12 4 3,oB 13 .add 3 (tK 12) (iK 1) 3 3,oA 4 13 3]))
def ib:SC:= .loop Vs
def k66:SC:= .seq (.ops [oX 2 (.assign (.const (.slice none 0 0))) 26]) (.seq (.ops [oM 5 0 26,oN 6 5 26,oX 7 (.makeSlice 26 (tK 6) (tK 6)) 26,oA 3 7 26]) (.seq (.seq (.ops [oX 4 (.assign (iK 0)) 3]) (.block 0 ib)) (.seq (.ops [oM 21 3 26,oA 2 21 26]) .ret)))
theorem yK:Try.f66.body.map (Ct lends)=some k66:=by kernel_rfl
theorem A9F:DL Try.f66 1=true:=by kernel_rfl
theorem c66{a l:List D}{r:D×List D}(h:D6 Y.env k66 (I6 Aa l.length [ResultVar.tmp 2] r) (entry a l))(ha:a.length=1):Y.call 66 a l=some r:=
 Ag (Y:=Y) rfl Try.func66 (ha▸A9F) yK h
def Gs(a:List Int)(out:List Int)(i:Int)(s:St):Prop:=s.v 0=D.sl 3 (A9 (D.int .i64) a)∧s.v 3=D.own 3 (A9 (D.int .i64) out)∧s.v 4=D.int .i64 i
def IM(a:List Int)(r:(List Int))(ex:Ex)(s:St):Prop:=ex= .exit 0∧s.v 3=D.own 3 (A9 (D.int .i64) r)
theorem Sr(a:List Int){v:(List Int)×Int}{s:St}{r:(List Int)}(h:Kb a v=some r)(hM:Gs a v.1 v.2 s):D6 Y.env ib (IM a r) s:=by
 unfold Kb at h;refine CX (c:=Vs) (fun v=>Gr a v.1 v.2) (fun v s=>Gs a v.1 v.2 s) (IM a) ?_ h hM;clear h hM s v r;intro v s o hM h;obtain⟨out,i⟩:=v;dsimp only at h hM;unfold Gr at h;unfold Gs at hM;obtain⟨m0,m1,m2⟩:=hM;unfold Vs;by_cases e2:i<(a.length:Int)
 ·rw [if_pos e2]at h;obtain⟨e3,h⟩:=Bw h;obtain⟨e4,h⟩:=Bw h
  obtain rfl:=Option.some.inj h
  simp (maxDischargeDepth:=9) only [↓AB,AC,Ah,↓reduceIte,Nat.reduceEqDiff,Nat.reduceLT,Nat.reduceLeDiff,Nat.reduceAdd,Nat.reduceMul,Nat.reduceMod,Nat.reduceDiv,Nat.reducePow,Nat.reduceSub,Nat.reduceBEq,Int.reduceLE,Int.reduceLT,Int.reduceEq,Int.reduceSub,Int.reduceAdd,Int.reduceToNat,Int.reduceNeg,m0,m1,m2,e2,e3.1,e3.2,e4.1,e4.2,Gs,IM,DN,DR,DT]<;>(repeat' apply A7)<;>first|rfl|exact⟨_,rfl⟩|exact⟨_,_,rfl⟩|simp [A9,A8]
 ·rw [if_neg e2]at h
  obtain rfl:=Option.some.inj h
  simp (maxDischargeDepth:=9) only [↓AB,AC,Ah,↓reduceIte,Nat.reduceEqDiff,Nat.reduceLT,Nat.reduceLeDiff,Nat.reduceAdd,Nat.reduceMul,Nat.reduceMod,Nat.reduceDiv,Nat.reducePow,Nat.reduceSub,Nat.reduceBEq,Int.reduceLE,Int.reduceLT,Int.reduceEq,Int.reduceSub,Int.reduceAdd,Int.reduceToNat,Int.reduceNeg,m0,m1,m2,e2,Gs,IM,DN,DR,DT]<;>(repeat' apply A7)<;>first|rfl|exact⟨_,rfl⟩|exact⟨_,_,rfl⟩|simp [A9,A8]
theorem UB(a:List Int){r:(List Int)}(h:P9 a=some r):Y.call 66 [D.sl 3 (A9 (D.int .i64) a)] []=some (D.own 3 (A9 (D.int .i64) r),[]):=by
 refine c66 ?_ rfl;unfold k66;unfold P9 at h;obtain⟨e1,h⟩:=Bw h;obtain⟨AO,hl3,h⟩:=BC h;try dsimp only at h
 simp (maxDischargeDepth:=9) only [↓AB,AC,Ah,↓reduceIte,Nat.reduceEqDiff,Nat.reduceLT,Nat.reduceLeDiff,Nat.reduceAdd,Nat.reduceMul,Nat.reduceMod,Nat.reduceDiv,Nat.reducePow,Nat.reduceSub,Nat.reduceBEq,Int.reduceLE,Int.reduceLT,Int.reduceEq,Int.reduceSub,Int.reduceAdd,Int.reduceToNat,Int.reduceNeg,e1.1,e1.2];refine Bh (Sr a hl3 ?_) ?_
 ·simp (maxDischargeDepth:=9) only [↓AB,AC,Ah,↓reduceIte,Nat.reduceEqDiff,Nat.reduceLT,Nat.reduceLeDiff,Nat.reduceAdd,Nat.reduceMul,Nat.reduceMod,Nat.reduceDiv,Nat.reducePow,Nat.reduceSub,Nat.reduceBEq,Int.reduceLE,Int.reduceLT,Int.reduceEq,Int.reduceSub,Int.reduceAdd,Int.reduceToNat,Int.reduceNeg,e1.1,e1.2,Gs]<;>(repeat' apply A7)<;>first|rfl|exact⟨_,rfl⟩|exact⟨_,_,rfl⟩|simp [A9,A8]
 ·intro ex3 s3 hX3;unfold IM at hX3;obtain⟨rfl,n3_0⟩:=hX3
  obtain rfl:=Option.some.inj h
  simp (maxDischargeDepth:=9) only [↓AB,AC,Ah,↓reduceIte,Nat.reduceEqDiff,Nat.reduceLT,Nat.reduceLeDiff,Nat.reduceAdd,Nat.reduceMul,Nat.reduceMod,Nat.reduceDiv,Nat.reducePow,Nat.reduceSub,Nat.reduceBEq,Int.reduceLE,Int.reduceLT,Int.reduceEq,Int.reduceSub,Int.reduceAdd,Int.reduceToNat,Int.reduceNeg,e1.1,e1.2,n3_0]<;>(repeat' apply A7)<;>first|rfl|exact⟨_,rfl⟩|exact⟨_,_,rfl⟩|simp [A9,A8]
theorem YD(a:List Int)(h:a.length<1099511627776):P9 a=some a:=by
 have key:=Hy (fun v=>Gr a v.1 v.2) (fun i=>(a.take i++List.replicate (a.length-i) 0,(i:Int))) a.length a ?_ ?_
 ·unfold P9 Kb;rw [CU (by omega)]
  simp only [List.take_zero,LA,Nat.sub_zero,Jo]at key;rw [key];rfl
 ·intro i hi;simp only [Gr];rw [if_pos (GJ hi),CU (Fh hi),CU (Fh (by simp;omega)),Iy _ _ hi,KP,aQ a i hi 0,Ny i (by omega)]
 ·simp only [Gr];rw [if_neg (CY _)];simp
theorem YE(a:List Int)(h0:a.length<1099511627776):Y.call 66 [D.sl 3 (A9 (D.int .i64) a)] []=some (D.own 3 (A9 (D.int .i64) a),[]):=UB a (YD a h0)
noncomputable def Fj(a:List (List Int))(out:List (List Int))(i:Int):Option (((List (List Int))×Int)⊕((List (List Int)))):= if i<(a.length:Int)then ck (0≤i∧i.toNat<a.length)<| ck ((a.getD i.toNat default).length<1099511627776)<| ck (0≤i∧i.toNat<out.length)<| some (Sum.inl ((out.set i.toNat (a.getD i.toNat default)),IntKind.i64.wrap (i+1))) else some (Sum.inr out)
noncomputable def Jp(a:List (List Int))(v:(List (List Int))×Int):Option ((List (List Int))):=Iw (fun v=>Fj a v.1 v.2) v
noncomputable def Nf(a:List (List Int)):Option ((List (List Int))):= ck (0≤(a.length:Int)∧(a.length:Int)<1099511627776)<| (Jp a ((List.replicate a.length ([]:List Int)),0)).bind fun AO=> some AO
def Vt:SC:= .seq (.seq (.ops [oM 8 4 3,oM 9 0 22,oN 10 9 22,oB 11 .lss 3 (tK 8) (tK 10) 3 4]) (.cond (tK 11) .skip (.exit 0))) (.seq (.block 1 (.ops [oM 14 3 22,oM 15 4 3,oM 16 0 22,oM 17 4 3,oI 18 22 16 17,oL 19 26 18 26,oC 20 66 [(tK 19)] [26] 26,oI 21 22 14 15,oS 26 21 20])) (.ops [oM 12 4 3,oB 13 .add 3 (tK 12) (iK 1) 3 3,oA 4 13 3]))
def ic:SC:= .loop Vt
def k45:SC:= .seq (.ops [oX 2 (.assign (.const (.slice none 0 0))) 22]) (.seq (.ops [oM 5 0 22,oN 6 5 22,oX 7 (.makeSlice 22 (tK 6) (tK 6)) 22,oA 3 7 22]) (.seq (.seq (.ops [oX 4 (.assign (iK 0)) 3]) (.block 0 ic)) (.seq (.ops [oM 22 3 22,oA 2 22 22]) .ret)))
theorem yM:Try.f45.body.map (Ct lends)=some k45:=by kernel_rfl
theorem A9H:DL Try.f45 1=true:=by kernel_rfl
theorem c45{a l:List D}{r:D×List D}(h:D6 Y.env k45 (I6 Aa l.length [ResultVar.tmp 2] r) (entry a l))(ha:a.length=1):Y.call 45 a l=some r:=
 Ag (Y:=Y) rfl Try.func45 (ha▸A9H) yM h
def Fp(a:List (List Int))(out:List (List Int))(i:Int)(s:St):Prop:=s.v 0=D.sl 26 (A9 (fun x=>D.sl 3 (A9 (D.int .i64) x)) a)∧s.v 3=D.own 26 (A9 (fun x=>D.own 3 (A9 (D.int .i64) x)) out)∧s.v 4=D.int .i64 i
def HZ(a:List (List Int))(r:(List (List Int)))(ex:Ex)(s:St):Prop:=ex= .exit 0∧s.v 3=D.own 26 (A9 (fun x=>D.own 3 (A9 (D.int .i64) x)) r)
theorem Qw(a:List (List Int)){v:(List (List Int))×Int}{s:St}{r:(List (List Int))}(h:Jp a v=some r)(hM:Fp a v.1 v.2 s):D6 Y.env ic (HZ a r) s:=by
 unfold Jp at h;refine CX (c:=Vt) (fun v=>Fj a v.1 v.2) (fun v s=>Fp a v.1 v.2 s) (HZ a) ?_ h hM;clear h hM s v r;intro v s o hM h;obtain⟨out,i⟩:=v;dsimp only at h hM;unfold Fj at h;unfold Fp at hM;obtain⟨m0,m1,m2⟩:=hM;unfold Vt;by_cases e2:i<(a.length:Int)
 ·rw [if_pos e2]at h;obtain⟨e3,h⟩:=Bw h;obtain⟨e4,h⟩:=Bw h;have c5:=YE (a.getD i.toNat default) e4;obtain⟨e6,h⟩:=Bw h
  obtain rfl:=Option.some.inj h
  simp (maxDischargeDepth:=9) only [↓AB,AC,Ah,↓reduceIte,Nat.reduceEqDiff,Nat.reduceLT,Nat.reduceLeDiff,Nat.reduceAdd,Nat.reduceMul,Nat.reduceMod,Nat.reduceDiv,Nat.reducePow,Nat.reduceSub,Nat.reduceBEq,Int.reduceLE,Int.reduceLT,Int.reduceEq,Int.reduceSub,Int.reduceAdd,Int.reduceToNat,Int.reduceNeg,m0,m1,m2,e2,e3.1,e3.2,e4,c5,e6.1,e6.2,Fp,HZ,DN,DR,DT]<;>(repeat' apply A7)<;>first|rfl|exact⟨_,rfl⟩|exact⟨_,_,rfl⟩|simp [A9,A8]
 ·rw [if_neg e2]at h
  obtain rfl:=Option.some.inj h
  simp (maxDischargeDepth:=9) only [↓AB,AC,Ah,↓reduceIte,Nat.reduceEqDiff,Nat.reduceLT,Nat.reduceLeDiff,Nat.reduceAdd,Nat.reduceMul,Nat.reduceMod,Nat.reduceDiv,Nat.reducePow,Nat.reduceSub,Nat.reduceBEq,Int.reduceLE,Int.reduceLT,Int.reduceEq,Int.reduceSub,Int.reduceAdd,Int.reduceToNat,Int.reduceNeg,m0,m1,m2,e2,Fp,HZ,DN,DR,DT]<;>(repeat' apply A7)<;>first|rfl|exact⟨_,rfl⟩|exact⟨_,_,rfl⟩|simp [A9,A8]
theorem Su(a:List (List Int)){r:(List (List Int))}(h:Nf a=some r):Y.call 45 [D.sl 26 (A9 (fun x=>D.sl 3 (A9 (D.int .i64) x)) a)] []=some (D.own 26 (A9 (fun x=>D.own 3 (A9 (D.int .i64) x)) r),[]):=by
 refine c45 ?_ rfl;unfold k45;unfold Nf at h;obtain⟨e1,h⟩:=Bw h;obtain⟨AO,hl3,h⟩:=BC h;try dsimp only at h
 simp (maxDischargeDepth:=9) only [↓AB,AC,Ah,↓reduceIte,Nat.reduceEqDiff,Nat.reduceLT,Nat.reduceLeDiff,Nat.reduceAdd,Nat.reduceMul,Nat.reduceMod,Nat.reduceDiv,Nat.reducePow,Nat.reduceSub,Nat.reduceBEq,Int.reduceLE,Int.reduceLT,Int.reduceEq,Int.reduceSub,Int.reduceAdd,Int.reduceToNat,Int.reduceNeg,e1.1,e1.2];refine Bh (Qw a hl3 ?_) ?_
 ·simp (maxDischargeDepth:=9) only [↓AB,AC,Ah,↓reduceIte,Nat.reduceEqDiff,Nat.reduceLT,Nat.reduceLeDiff,Nat.reduceAdd,Nat.reduceMul,Nat.reduceMod,Nat.reduceDiv,Nat.reducePow,Nat.reduceSub,Nat.reduceBEq,Int.reduceLE,Int.reduceLT,Int.reduceEq,Int.reduceSub,Int.reduceAdd,Int.reduceToNat,Int.reduceNeg,e1.1,e1.2,Fp]<;>(repeat' apply A7)<;>first|rfl|exact⟨_,rfl⟩|exact⟨_,_,rfl⟩|simp [A9,A8]
 ·intro ex3 s3 hX3;unfold HZ at hX3;obtain⟨rfl,n3_0⟩:=hX3
  obtain rfl:=Option.some.inj h
  simp (maxDischargeDepth:=9) only [↓AB,AC,Ah,↓reduceIte,Nat.reduceEqDiff,Nat.reduceLT,Nat.reduceLeDiff,Nat.reduceAdd,Nat.reduceMul,Nat.reduceMod,Nat.reduceDiv,Nat.reducePow,Nat.reduceSub,Nat.reduceBEq,Int.reduceLE,Int.reduceLT,Int.reduceEq,Int.reduceSub,Int.reduceAdd,Int.reduceToNat,Int.reduceNeg,e1.1,e1.2,n3_0]<;>(repeat' apply A7)<;>first|rfl|exact⟨_,rfl⟩|exact⟨_,_,rfl⟩|simp [A9,A8]
theorem Vu(a:List (List Int))(h:BM a):Nf a=some a:=by
 have h1:=h.1;have key:=Hy (fun v=>Fj a v.1 v.2) (fun i=>(a.take i++List.replicate (a.length-i) [],(i:Int))) a.length a ?_ ?_
 ·unfold Nf Jp;rw [CU (by omega)]
  simp only [List.take_zero,LA,Nat.sub_zero,Jo]at key;rw [key];rfl
 ·intro i hi;simp only [Fj];rw [if_pos (GJ hi),CU (Fh hi),CU (by rw [Iy _ _ hi];exact h.at i hi),CU (Fh (by simp;omega)),Iy _ _ hi,KP,aQ a i hi [],Ny i (by omega)]
 ·simp only [Fj];rw [if_neg (CY _)];simp
theorem PD(a:List (List Int))(h0:BM a):Y.call 45 [D.sl 26 (A9 (fun x=>D.sl 3 (A9 (D.int .i64) x)) a)] []=some (D.own 26 (A9 (fun x=>D.own 3 (A9 (D.int .i64) x)) a),[]):=Su a (Vu a h0)
noncomputable def Gt(a:List Int)(b:List Int)(i:Int):Option ((Int)⊕(Unit⊕Unit)):= if i<(a.length:Int)then ck (0≤i∧i.toNat<a.length)<| ck (0≤i∧i.toNat<b.length)<| if(a.getD i.toNat default)=(b.getD i.toNat default)then some (Sum.inl (IntKind.i64.wrap (i+1))) else some (Sum.inr (Sum.inl ())) else some (Sum.inr (Sum.inr ()))
noncomputable def Kc(a:List Int)(b:List Int)(v:Int):Option (Unit⊕Unit):=Iw (fun v=>Gt a b v) v
noncomputable def PE(a:List Int)(b:List Int):Option (Bool):=
 if(a.length:Int)=(b.length:Int)then
  (Kc a b 0).bind fun AO=>
  match AO with
  | .inl q1000_=>
   some false
  | .inr q1000_=>
   some true
 else
  some false
def Vv:SC:= .seq (.seq (.ops [oM 11 5 3,oM 12 0 26,oN 13 12 26,oB 14 .lss 3 (tK 11) (tK 13) 3 4]) (.cond (tK 14) .skip (.exit 0))) (.seq (.block 1 (.seq (.draws [(⟨[17,0,0],[17,18,19,20,21,22,23,24,25],[17]⟩,oM 17 0 26),(⟨[18,5,5],[17,18,19,20,21,22,23,24,25],[18]⟩,oM 18 5 3),(⟨[19,17,18,0,5],[17,18,19,20,21,22,23,24,25],[19]⟩,oI 19 26 17 18),(⟨[20,19,0],[17,18,19,20,21,22,23,24,25],[20]⟩,oL 20 3 19 3),(⟨[21,1,1],[17,18,19,20,21,22,23,24,25],[21]⟩,oM 21 1 26),(⟨[22,5,5],[17,18,19,20,21,22,23,24,25],[22]⟩,oM 22 5 3),(⟨[23,21,22,1,5],[17,18,19,20,21,22,23,24,25],[23]⟩,oI 23 26 21 22),(⟨[24,23,1],[17,18,19,20,21,22,23,24,25],[24]⟩,oL 24 3 23 3),(⟨[25,20,24,0,1],[17,18,19,20,21,22,23,24,25],[25]⟩,oB 25 .neq 3 (tK 20) (tK 24) 3 4)]) (.cond (tK 25) (.seq (.ops [oX 4 (.assign (.const (.bool false))) 4]) .ret) .skip))) (.ops [oM 15 5 3,oB 16 .add 3 (tK 15) (iK 1) 3 3,oA 5 16 3]))
def ig:SC:= .loop Vv
def k14:SC:= .seq (.ops [oX 4 (.assign (.const (.bool false))) 4]) (.seq (.seq (.ops [oM 6 0 26,oN 7 6 26,oM 8 1 26,oN 9 8 26,oB 10 .neq 3 (tK 7) (tK 9) 3 4]) (.cond (tK 10) (.seq (.ops [oX 4 (.assign (.const (.bool false))) 4]) .ret) .skip)) (.seq (.seq (.ops [oX 5 (.assign (iK 0)) 3]) (.block 0 ig)) (.seq (.ops [oX 4 (.assign (.const (.bool true))) 4]) .ret)))
theorem yN:Try.f14.body.map (Ct lends)=some k14:=by kernel_rfl
theorem A9J:DL Try.f14 2=true:=by kernel_rfl
theorem c14{a l:List D}{r:D×List D}(h:D6 Y.env k14 (I6 Aa l.length [ResultVar.tmp 4] r) (entry a l))(ha:a.length=2):Y.call 14 a l=some r:=
 Ag (Y:=Y) rfl Try.func14 (ha▸A9J) yN h
def FQ(a:List Int)(b:List Int)(i:Int)(s:St):Prop:=s.v 0=D.sl 3 (A9 (D.int .i64) a)∧s.v 1=D.sl 3 (A9 (D.int .i64) b)∧s.v 5=D.int .i64 i
def FR(a:List Int)(b:List Int)(r:Unit⊕Unit)(ex:Ex)(s:St):Prop:=match r with
 | .inl q=>ex= .ret∧s.v 4=D.bool false
 | .inr q=>ex= .exit 0
theorem Sv(a:List Int)(b:List Int){v:Int}{s:St}{r:Unit⊕Unit}(h:Kc a b v=some r)(hM:FQ a b v s):D6 Y.env ig (FR a b r) s:=by
 unfold Kc at h;refine CX (c:=Vv) (fun v=>Gt a b v) (fun v s=>FQ a b v s) (FR a b) ?_ h hM;clear h hM s v r;intro i s o hM h;unfold Gt at h;unfold FQ at hM;obtain⟨m0,m1,m2⟩:=hM;unfold Vv;by_cases e2:i<(a.length:Int)
 ·rw [if_pos e2]at h;obtain⟨e3,h⟩:=Bw h;obtain⟨e4,h⟩:=Bw h;by_cases e5:(a.getD i.toNat default)=(b.getD i.toNat default)
  ·rw [if_pos e5]at h
   obtain rfl:=Option.some.inj h
   simp (maxDischargeDepth:=9) only [↓AB,AC,Ah,↓reduceIte,Nat.reduceEqDiff,Nat.reduceLT,Nat.reduceLeDiff,Nat.reduceAdd,Nat.reduceMul,Nat.reduceMod,Nat.reduceDiv,Nat.reducePow,Nat.reduceSub,Nat.reduceBEq,Int.reduceLE,Int.reduceLT,Int.reduceEq,Int.reduceSub,Int.reduceAdd,Int.reduceToNat,Int.reduceNeg,m0,m1,m2,e2,e3.1,e3.2,e4.1,e4.2,decide_eq_true e5,FQ,FR,DN,DR,DT]<;>(repeat' apply A7)<;>first|rfl|exact⟨_,rfl⟩|exact⟨_,_,rfl⟩|simp [A9,A8]
  ·rw [if_neg e5]at h
   obtain rfl:=Option.some.inj h
   simp (maxDischargeDepth:=9) only [↓AB,AC,Ah,↓reduceIte,Nat.reduceEqDiff,Nat.reduceLT,Nat.reduceLeDiff,Nat.reduceAdd,Nat.reduceMul,Nat.reduceMod,Nat.reduceDiv,Nat.reducePow,Nat.reduceSub,Nat.reduceBEq,Int.reduceLE,Int.reduceLT,Int.reduceEq,Int.reduceSub,Int.reduceAdd,Int.reduceToNat,Int.reduceNeg,m0,m1,m2,e2,e3.1,e3.2,e4.1,e4.2,e5,FQ,FR,DN,DR,DT]<;>(repeat' apply A7)<;>first|rfl|exact⟨_,rfl⟩|exact⟨_,_,rfl⟩|simp [A9,A8]
 ·rw [if_neg e2]at h
  obtain rfl:=Option.some.inj h
  simp (maxDischargeDepth:=9) only [↓AB,AC,Ah,↓reduceIte,Nat.reduceEqDiff,Nat.reduceLT,Nat.reduceLeDiff,Nat.reduceAdd,Nat.reduceMul,Nat.reduceMod,Nat.reduceDiv,Nat.reducePow,Nat.reduceSub,Nat.reduceBEq,Int.reduceLE,Int.reduceLT,Int.reduceEq,Int.reduceSub,Int.reduceAdd,Int.reduceToNat,Int.reduceNeg,m0,m1,m2,e2,FQ,FR,DN,DR,DT]<;>(repeat' apply A7)<;>first|rfl|exact⟨_,rfl⟩|exact⟨_,_,rfl⟩|simp [A9,A8]
theorem UC(a:List Int)(b:List Int){r:Bool}(h:PE a b=some r):Y.call 14 [D.sl 3 (A9 (D.int .i64) a),D.sl 3 (A9 (D.int .i64) b)] []=some (D.bool r,[]):=by
 refine c14 ?_ rfl;unfold k14;unfold PE at h;by_cases e1:(a.length:Int)=(b.length:Int)
 ·rw [if_pos e1]at h;obtain⟨AO,hl3,h⟩:=BC h;try dsimp only at h
  simp (maxDischargeDepth:=9) only [↓AB,AC,Ah,↓reduceIte,Nat.reduceEqDiff,Nat.reduceLT,Nat.reduceLeDiff,Nat.reduceAdd,Nat.reduceMul,Nat.reduceMod,Nat.reduceDiv,Nat.reducePow,Nat.reduceSub,Nat.reduceBEq,Int.reduceLE,Int.reduceLT,Int.reduceEq,Int.reduceSub,Int.reduceAdd,Int.reduceToNat,Int.reduceNeg,decide_eq_true e1];refine Bh (Sv a b hl3 ?_) ?_
  ·simp (maxDischargeDepth:=9) only [↓AB,AC,Ah,↓reduceIte,Nat.reduceEqDiff,Nat.reduceLT,Nat.reduceLeDiff,Nat.reduceAdd,Nat.reduceMul,Nat.reduceMod,Nat.reduceDiv,Nat.reducePow,Nat.reduceSub,Nat.reduceBEq,Int.reduceLE,Int.reduceLT,Int.reduceEq,Int.reduceSub,Int.reduceAdd,Int.reduceToNat,Int.reduceNeg,decide_eq_true e1,FQ]<;>(repeat' apply A7)<;>first|rfl|exact⟨_,rfl⟩|exact⟨_,_,rfl⟩|simp [A9,A8]
  ·intro ex3 s3 hX3;rcases AO with q1000_|q1000_
   ·unfold FR at hX3;dsimp only at hX3 h;obtain⟨rfl,n3_0⟩:=hX3
    obtain rfl:=Option.some.inj h
    simp (maxDischargeDepth:=9) only [↓AB,AC,Ah,↓reduceIte,Nat.reduceEqDiff,Nat.reduceLT,Nat.reduceLeDiff,Nat.reduceAdd,Nat.reduceMul,Nat.reduceMod,Nat.reduceDiv,Nat.reducePow,Nat.reduceSub,Nat.reduceBEq,Int.reduceLE,Int.reduceLT,Int.reduceEq,Int.reduceSub,Int.reduceAdd,Int.reduceToNat,Int.reduceNeg,decide_eq_true e1,n3_0]<;>(repeat' apply A7)<;>first|rfl|exact⟨_,rfl⟩|exact⟨_,_,rfl⟩|simp [A9,A8]
   ·unfold FR at hX3;dsimp only at hX3 h
    obtain rfl:=hX3
    obtain rfl:=Option.some.inj h
    simp (maxDischargeDepth:=9) only [↓AB,AC,Ah,↓reduceIte,Nat.reduceEqDiff,Nat.reduceLT,Nat.reduceLeDiff,Nat.reduceAdd,Nat.reduceMul,Nat.reduceMod,Nat.reduceDiv,Nat.reducePow,Nat.reduceSub,Nat.reduceBEq,Int.reduceLE,Int.reduceLT,Int.reduceEq,Int.reduceSub,Int.reduceAdd,Int.reduceToNat,Int.reduceNeg,decide_eq_true e1]<;>(repeat' apply A7)<;>first|rfl|exact⟨_,rfl⟩|exact⟨_,_,rfl⟩|simp [A9,A8]
 ·rw [if_neg e1]at h
  obtain rfl:=Option.some.inj h
  simp (maxDischargeDepth:=9) only [↓AB,AC,Ah,↓reduceIte,Nat.reduceEqDiff,Nat.reduceLT,Nat.reduceLeDiff,Nat.reduceAdd,Nat.reduceMul,Nat.reduceMod,Nat.reduceDiv,Nat.reducePow,Nat.reduceSub,Nat.reduceBEq,Int.reduceLE,Int.reduceLT,Int.reduceEq,Int.reduceSub,Int.reduceAdd,Int.reduceToNat,Int.reduceNeg,e1]<;>(repeat' apply A7)<;>first|rfl|exact⟨_,rfl⟩|exact⟨_,_,rfl⟩|simp [A9,A8]
theorem YF(a b:List Int)(ha:a.length<1099511627776):PE a b=some (decide (a=b)):=by
 unfold PE Kc;by_cases hl:a.length=b.length
 ·rw [if_pos (by omega)]
  have key:=JO (fun v=>Gt a b v) (fun i=>(i:Int)) a.length (fun i=>decide (a.getD i default=b.getD i default)) (.inl ()) (.inr ()) ?_ ?_
  ·simp only [Jo]at key;rw [key,Sn a b hl];by_cases he:a=b<;>simp [he]
  ·intro i hi;simp only [Gt];rw [if_pos (GJ hi),CU (Fh hi),CU (Fh (by omega)),KP,Ny i (by omega)]<;>simp only [decide_eq_true_eq]
  ·simp only [Gt];rw [if_neg (CY _)]
 ·rw [if_neg (by omega)]
  have: ¬a=b:=fun e=>hl (by rw [e])
  simp [this]
theorem CV(a:List Int)(b:List Int)(h0:a.length<1099511627776):Y.call 14 [D.sl 3 (A9 (D.int .i64) a),D.sl 3 (A9 (D.int .i64) b)] []=some (D.bool (decide (a=b)),[]):=UC a b (YF a b h0)
noncomputable def Fq(a:List (List Int))(b:List (List Int))(i:Int):Option ((Int)⊕(Unit⊕Unit)):= if i<(a.length:Int)then ck (0≤i∧i.toNat<a.length)<| ck (0≤i∧i.toNat<b.length)<| ck ((a.getD i.toNat default).length<1099511627776)<| if(decide ((a.getD i.toNat default)=(b.getD i.toNat default)))=true then some (Sum.inl (IntKind.i64.wrap (i+1))) else some (Sum.inr (Sum.inl ())) else some (Sum.inr (Sum.inr ()))
noncomputable def Jq(a:List (List Int))(b:List (List Int))(v:Int):Option (Unit⊕Unit):=Iw (fun v=>Fq a b v) v
noncomputable def Ng(a:List (List Int))(b:List (List Int)):Option (Bool):=
 if(a.length:Int)=(b.length:Int)then
  (Jq a b 0).bind fun AO=>
  match AO with
  | .inl q1000_=>
   some false
  | .inr q1000_=>
   some true
 else
  some false
def Vw:SC:= .seq (.seq (.ops [oM 11 5 3,oM 12 0 22,oN 13 12 22,oB 14 .lss 3 (tK 11) (tK 13) 3 4]) (.cond (tK 14) .skip (.exit 0))) (.seq (.block 1 (.seq (.draws [(⟨[17,0,0],[17,18,19,20,21,22,23,24,25,26],[17]⟩,oM 17 0 22),(⟨[18,5,5],[17,18,19,20,21,22,23,24,25,26],[18]⟩,oM 18 5 3),(⟨[19,17,18,0,5],[17,18,19,20,21,22,23,24,25,26],[19]⟩,oI 19 22 17 18),(⟨[20,19,0],[17,18,19,20,21,22,23,24,25,26],[20]⟩,oL 20 26 19 26),(⟨[21,1,1],[17,18,19,20,21,22,23,24,25,26],[21]⟩,oM 21 1 22),(⟨[22,5,5],[17,18,19,20,21,22,23,24,25,26],[22]⟩,oM 22 5 3),(⟨[23,21,22,1,5],[17,18,19,20,21,22,23,24,25,26],[23]⟩,oI 23 22 21 22),(⟨[24,23,1],[17,18,19,20,21,22,23,24,25,26],[24]⟩,oL 24 26 23 26),(⟨[25,20,24,0,1],[17,18,19,20,21,22,23,24,25,26],[25]⟩,oC 25 14 [(tK 20),(tK 24)] [26,26] 4),(⟨[26,25,25],[17,18,19,20,21,22,23,24,25,26],[26]⟩,oX 26 (.unOp .not 4 (tK 25)) 4)]) (.cond (tK 26) (.seq (.ops [oX 4 (.assign (.const (.bool false))) 4]) .ret) .skip))) (.ops [oM 15 5 3,oB 16 .add 3 (tK 15) (iK 1) 3 3,oA 5 16 3]))
def ik:SC:= .loop Vw
def k48:SC:= .seq (.ops [oX 4 (.assign (.const (.bool false))) 4]) (.seq (.seq (.ops [oM 6 0 22,oN 7 6 22,oM 8 1 22,oN 9 8 22,oB 10 .neq 3 (tK 7) (tK 9) 3 4]) (.cond (tK 10) (.seq (.ops [oX 4 (.assign (.const (.bool false))) 4]) .ret) .skip)) (.seq (.seq (.ops [oX 5 (.assign (iK 0)) 3]) (.block 0 ik)) (.seq (.ops [oX 4 (.assign (.const (.bool true))) 4]) .ret)))
theorem yO:Try.f48.body.map (Ct lends)=some k48:=by kernel_rfl
theorem A9M:DL Try.f48 2=true:=by kernel_rfl
theorem lZ{a l:List D}{r:D×List D}(h:D6 Y.env k48 (I6 Aa l.length [ResultVar.tmp 4] r) (entry a l))(ha:a.length=2):Y.call 48 a l=some r:=
 Ag (Y:=Y) rfl Try.func48 (ha▸A9M) yO h
def Ei(a:List (List Int))(b:List (List Int))(i:Int)(s:St):Prop:=s.v 0=D.sl 26 (A9 (fun x=>D.sl 3 (A9 (D.int .i64) x)) a)∧s.v 1=D.sl 26 (A9 (fun x=>D.sl 3 (A9 (D.int .i64) x)) b)∧s.v 5=D.int .i64 i
def Ej(a:List (List Int))(b:List (List Int))(r:Unit⊕Unit)(ex:Ex)(s:St):Prop:=match r with
 | .inl q=>ex= .ret∧s.v 4=D.bool false
 | .inr q=>ex= .exit 0
theorem Qx(a:List (List Int))(b:List (List Int)){v:Int}{s:St}{r:Unit⊕Unit}(h:Jq a b v=some r)(hM:Ei a b v s):D6 Y.env ik (Ej a b r) s:=by
 unfold Jq at h;refine CX (c:=Vw) (fun v=>Fq a b v) (fun v s=>Ei a b v s) (Ej a b) ?_ h hM;clear h hM s v r;intro i s o hM h;unfold Fq at h;unfold Ei at hM;obtain⟨m0,m1,m2⟩:=hM;unfold Vw;by_cases e2:i<(a.length:Int)
 ·rw [if_pos e2]at h;obtain⟨e3,h⟩:=Bw h;obtain⟨e4,h⟩:=Bw h;obtain⟨e5,h⟩:=Bw h;have c6:=CV (a.getD i.toNat default) (b.getD i.toNat default) e5;by_cases e7:(decide ((a.getD i.toNat default)=(b.getD i.toNat default)))=true
  ·rw [if_pos e7]at h
   obtain rfl:=Option.some.inj h
   simp (maxDischargeDepth:=9) only [↓AB,AC,Ah,↓reduceIte,Nat.reduceEqDiff,Nat.reduceLT,Nat.reduceLeDiff,Nat.reduceAdd,Nat.reduceMul,Nat.reduceMod,Nat.reduceDiv,Nat.reducePow,Nat.reduceSub,Nat.reduceBEq,Int.reduceLE,Int.reduceLT,Int.reduceEq,Int.reduceSub,Int.reduceAdd,Int.reduceToNat,Int.reduceNeg,m0,m1,m2,e2,e3.1,e3.2,e4.1,e4.2,e5,c6,e7,Ei,Ej,DN,DR,DT]<;>(repeat' apply A7)<;>first|rfl|exact⟨_,rfl⟩|exact⟨_,_,rfl⟩|simp [A9,A8]
  ·rw [if_neg e7]at h;have e7f:(decide ((a.getD i.toNat default)=(b.getD i.toNat default)))=false:=Gm.mpr e7
   obtain rfl:=Option.some.inj h
   simp (maxDischargeDepth:=9) only [↓AB,AC,Ah,↓reduceIte,Nat.reduceEqDiff,Nat.reduceLT,Nat.reduceLeDiff,Nat.reduceAdd,Nat.reduceMul,Nat.reduceMod,Nat.reduceDiv,Nat.reducePow,Nat.reduceSub,Nat.reduceBEq,Int.reduceLE,Int.reduceLT,Int.reduceEq,Int.reduceSub,Int.reduceAdd,Int.reduceToNat,Int.reduceNeg,m0,m1,m2,e2,e3.1,e3.2,e4.1,e4.2,e5,c6,e7f,Ei,Ej,DN,DR,DT]<;>(repeat' apply A7)<;>first|rfl|exact⟨_,rfl⟩|exact⟨_,_,rfl⟩|simp [A9,A8]
 ·rw [if_neg e2]at h
  obtain rfl:=Option.some.inj h
  simp (maxDischargeDepth:=9) only [↓AB,AC,Ah,↓reduceIte,Nat.reduceEqDiff,Nat.reduceLT,Nat.reduceLeDiff,Nat.reduceAdd,Nat.reduceMul,Nat.reduceMod,Nat.reduceDiv,Nat.reducePow,Nat.reduceSub,Nat.reduceBEq,Int.reduceLE,Int.reduceLT,Int.reduceEq,Int.reduceSub,Int.reduceAdd,Int.reduceToNat,Int.reduceNeg,m0,m1,m2,e2,Ei,Ej,DN,DR,DT]<;>(repeat' apply A7)<;>first|rfl|exact⟨_,rfl⟩|exact⟨_,_,rfl⟩|simp [A9,A8]
theorem Sw(a:List (List Int))(b:List (List Int)){r:Bool}(h:Ng a b=some r):Y.call 48 [D.sl 26 (A9 (fun x=>D.sl 3 (A9 (D.int .i64) x)) a),D.sl 26 (A9 (fun x=>D.sl 3 (A9 (D.int .i64) x)) b)] []=some (D.bool r,[]):=by
 refine lZ ?_ rfl;unfold k48;unfold Ng at h;by_cases e1:(a.length:Int)=(b.length:Int)
 ·rw [if_pos e1]at h;obtain⟨AO,hl3,h⟩:=BC h;try dsimp only at h
  simp (maxDischargeDepth:=9) only [↓AB,AC,Ah,↓reduceIte,Nat.reduceEqDiff,Nat.reduceLT,Nat.reduceLeDiff,Nat.reduceAdd,Nat.reduceMul,Nat.reduceMod,Nat.reduceDiv,Nat.reducePow,Nat.reduceSub,Nat.reduceBEq,Int.reduceLE,Int.reduceLT,Int.reduceEq,Int.reduceSub,Int.reduceAdd,Int.reduceToNat,Int.reduceNeg,decide_eq_true e1];refine Bh (Qx a b hl3 ?_) ?_
  ·simp (maxDischargeDepth:=9) only [↓AB,AC,Ah,↓reduceIte,Nat.reduceEqDiff,Nat.reduceLT,Nat.reduceLeDiff,Nat.reduceAdd,Nat.reduceMul,Nat.reduceMod,Nat.reduceDiv,Nat.reducePow,Nat.reduceSub,Nat.reduceBEq,Int.reduceLE,Int.reduceLT,Int.reduceEq,Int.reduceSub,Int.reduceAdd,Int.reduceToNat,Int.reduceNeg,decide_eq_true e1,Ei]<;>(repeat' apply A7)<;>first|rfl|exact⟨_,rfl⟩|exact⟨_,_,rfl⟩|simp [A9,A8]
  ·intro ex3 s3 hX3;rcases AO with q1000_|q1000_
   ·unfold Ej at hX3;dsimp only at hX3 h;obtain⟨rfl,n3_0⟩:=hX3
    obtain rfl:=Option.some.inj h
    simp (maxDischargeDepth:=9) only [↓AB,AC,Ah,↓reduceIte,Nat.reduceEqDiff,Nat.reduceLT,Nat.reduceLeDiff,Nat.reduceAdd,Nat.reduceMul,Nat.reduceMod,Nat.reduceDiv,Nat.reducePow,Nat.reduceSub,Nat.reduceBEq,Int.reduceLE,Int.reduceLT,Int.reduceEq,Int.reduceSub,Int.reduceAdd,Int.reduceToNat,Int.reduceNeg,decide_eq_true e1,n3_0]<;>(repeat' apply A7)<;>first|rfl|exact⟨_,rfl⟩|exact⟨_,_,rfl⟩|simp [A9,A8]
   ·unfold Ej at hX3;dsimp only at hX3 h
    obtain rfl:=hX3
    obtain rfl:=Option.some.inj h
    simp (maxDischargeDepth:=9) only [↓AB,AC,Ah,↓reduceIte,Nat.reduceEqDiff,Nat.reduceLT,Nat.reduceLeDiff,Nat.reduceAdd,Nat.reduceMul,Nat.reduceMod,Nat.reduceDiv,Nat.reducePow,Nat.reduceSub,Nat.reduceBEq,Int.reduceLE,Int.reduceLT,Int.reduceEq,Int.reduceSub,Int.reduceAdd,Int.reduceToNat,Int.reduceNeg,decide_eq_true e1]<;>(repeat' apply A7)<;>first|rfl|exact⟨_,rfl⟩|exact⟨_,_,rfl⟩|simp [A9,A8]
 ·rw [if_neg e1]at h
  obtain rfl:=Option.some.inj h
  simp (maxDischargeDepth:=9) only [↓AB,AC,Ah,↓reduceIte,Nat.reduceEqDiff,Nat.reduceLT,Nat.reduceLeDiff,Nat.reduceAdd,Nat.reduceMul,Nat.reduceMod,Nat.reduceDiv,Nat.reducePow,Nat.reduceSub,Nat.reduceBEq,Int.reduceLE,Int.reduceLT,Int.reduceEq,Int.reduceSub,Int.reduceAdd,Int.reduceToNat,Int.reduceNeg,e1]<;>(repeat' apply A7)<;>first|rfl|exact⟨_,rfl⟩|exact⟨_,_,rfl⟩|simp [A9,A8]
theorem Vx(a b:List (List Int))(ha:BM a):Ng a b=some (decide (a=b)):=by
 have h1:=ha.1;unfold Ng Jq;by_cases hl:a.length=b.length
 ·rw [if_pos (by omega)]
  have key:=JO (fun v=>Fq a b v) (fun i=>(i:Int)) a.length (fun i=>decide (a.getD i default=b.getD i default)) (.inl ()) (.inr ()) ?_ ?_
  ·simp only [Jo]at key;rw [key,Sn a b hl];by_cases he:a=b<;>simp [he]
  ·intro i hi;simp only [Fq];rw [if_pos (GJ hi),CU (Fh hi),CU (Fh (by omega)),CU (by rw [Iy _ _ hi];exact ha.at i hi),KP,Ny i (by omega)]<;>simp only [decide_eq_true_eq]
  ·simp only [Fq];rw [if_neg (CY _)]
 ·rw [if_neg (by omega)]
  have: ¬a=b:=fun e=>hl (by rw [e])
  simp [this]
theorem PG(a:List (List Int))(b:List (List Int))(h0:BM a):Y.call 48 [D.sl 26 (A9 (fun x=>D.sl 3 (A9 (D.int .i64) x)) a),D.sl 26 (A9 (fun x=>D.sl 3 (A9 (D.int .i64) x)) b)] []=some (D.bool (decide (a=b)),[]):=Sw a b (Vx a b h0)
def Lf(left n:Int):Int:=if left-n<0 then-1 else left-n
theorem Nh(left n:Int):Lf left n= -1∨(Lf left n=left-n∧0≤left-n):=by unfold Lf;split<;>omega
def CF(l:List (List Int)):Int:=(l.map fun xs=>(xs.length:Int)).sum
theorem Vy:CF []=0:=rfl
theorem LV(x:List Int)(l:List (List Int)):CF (x::l)=x.length+CF l:=rfl
theorem Cv(l:List (List Int)):0≤CF l:=by
 induction l with
 |nil=>rw [Vy];omega
 |cons x l ih=>rw [LV];omega
theorem lg{l:List (List Int)}{x:List Int}(h:x∈l):(x.length:Int)≤CF l:=by
 induction l with
 |nil=>cases h
 |cons y l ih=>
  rw [LV];have:=Cv l
  rcases Pg.1 h with rfl|h
  ·omega
  ·have:=ih h;omega
theorem Uv{l:List (List Int)}(h:l.length+CF l<1099511627776):BM l:=by
 have:=Cv l
 exact⟨by omega,fun x hx=>by have:=lg hx;omega⟩
noncomputable def PH(a:List Int)(left:Int):Option (Int):= if(IntKind.i64.wrap (left-(a.length:Int)))<0 then some (-1) else some (IntKind.i64.wrap (left-(a.length:Int)))
def k59:SC:= .seq (.ops [oX 4 (.assign (iK 0)) 3]) (.seq (.ops [oM 5 1 3,oM 6 0 26,oN 7 6 26,oB 8 .sub 3 (tK 5) (tK 7) 3 3,oA 1 8 3]) (.seq (.seq (.ops [oM 9 1 3,oB 10 .lss 3 (tK 9) (iK 0) 3 4]) (.cond (tK 10) (.seq (.ops [oX 4 (.assign (.const (.int .i64 (-1)))) 3]) .ret) .skip)) (.seq (.ops [oM 11 1 3,oA 4 11 3]) .ret)))
theorem yP:Try.f59.body.map (Ct lends)=some k59:=by kernel_rfl
theorem A9O:DL Try.f59 2=true:=by kernel_rfl
theorem c59{a l:List D}{r:D×List D}(h:D6 Y.env k59 (I6 Aa l.length [ResultVar.tmp 4] r) (entry a l))(ha:a.length=2):Y.call 59 a l=some r:=
 Ag (Y:=Y) rfl Try.func59 (ha▸A9O) yP h
theorem UD(a:List Int)(left:Int){r:Int}(h:PH a left=some r):Y.call 59 [D.sl 3 (A9 (D.int .i64) a),D.int .i64 left] []=some (D.int .i64 r,[]):=by
 refine c59 ?_ rfl;unfold k59;unfold PH at h;by_cases e1:(IntKind.i64.wrap (left-(a.length:Int)))<0
 ·rw [if_pos e1]at h
  obtain rfl:=Option.some.inj h
  simp (maxDischargeDepth:=9) only [↓AB,AC,Ah,↓reduceIte,Nat.reduceEqDiff,Nat.reduceLT,Nat.reduceLeDiff,Nat.reduceAdd,Nat.reduceMul,Nat.reduceMod,Nat.reduceDiv,Nat.reducePow,Nat.reduceSub,Nat.reduceBEq,Int.reduceLE,Int.reduceLT,Int.reduceEq,Int.reduceSub,Int.reduceAdd,Int.reduceToNat,Int.reduceNeg,e1]<;>(repeat' apply A7)<;>first|rfl|exact⟨_,rfl⟩|exact⟨_,_,rfl⟩|simp [A9,A8]
 ·rw [if_neg e1]at h
  obtain rfl:=Option.some.inj h
  simp (maxDischargeDepth:=9) only [↓AB,AC,Ah,↓reduceIte,Nat.reduceEqDiff,Nat.reduceLT,Nat.reduceLeDiff,Nat.reduceAdd,Nat.reduceMul,Nat.reduceMod,Nat.reduceDiv,Nat.reducePow,Nat.reduceSub,Nat.reduceBEq,Int.reduceLE,Int.reduceLT,Int.reduceEq,Int.reduceSub,Int.reduceAdd,Int.reduceToNat,Int.reduceNeg,e1]<;>(repeat' apply A7)<;>first|rfl|exact⟨_,rfl⟩|exact⟨_,_,rfl⟩|simp [A9,A8]
theorem YG(a:List Int)(left:Int)(ha:a.length<9223372036854775808)(hl:0≤left∧left≤1048576):PH a left=some (Lf left a.length):=by
 unfold PH Lf;rw [IK _ (by omega)]
 split<;>rfl
theorem YH(a:List Int)(left:Int)(h0:a.length<9223372036854775808)(h1:0≤left∧left≤1048576):Y.call 59 [D.sl 3 (A9 (D.int .i64) a),D.int .i64 left] []=some (D.int .i64 (Lf left a.length),[]):=UD a left (YG a left h0 h1)
noncomputable def Fv(a:List (List Int))(left1:Int)(i:Int):Option ((Int×Int)⊕(Unit⊕Int)):= if i<(a.length:Int)then ck (0≤i∧i.toNat<a.length)<| ck ((a.getD i.toNat default).length<9223372036854775808)<| ck (0≤left1∧left1≤1048576)<| if(Lf left1 (a.getD i.toNat default).length)<0 then some (Sum.inr (Sum.inl ())) else some (Sum.inl ((Lf left1 (a.getD i.toNat default).length),IntKind.i64.wrap (i+1))) else some (Sum.inr (Sum.inr left1))
noncomputable def GK(a:List (List Int))(v:Int×Int):Option (Unit⊕Int):=Iw (fun v=>Fv a v.1 v.2) v
noncomputable def LW(a:List (List Int))(left:Int):Option (Int):=
 if(IntKind.i64.wrap (left-(a.length:Int)))<0 then
  some (-1)
 else
  (GK a (IntKind.i64.wrap (left-(a.length:Int)),0)).bind fun AO=>
  match AO with
  | .inl q1000_=>
   some (-1)
  | .inr q1000_=>
   some q1000_
def Vz:SC:= .seq (.seq (.ops [oM 12 5 3,oM 13 0 22,oN 14 13 22,oB 15 .lss 3 (tK 12) (tK 14) 3 4]) (.cond (tK 15) .skip (.exit 0))) (.seq (.block 1 (.seq (.ops [oM 18 0 22,oM 19 5 3,oI 20 22 18 19,oL 21 26 20 26,oM 22 1 3,oC 23 59 [(tK 21),(tK 22)] [26,3] 3,oA 1 23 3]) (.seq (.ops [oM 24 1 3,oB 25 .lss 3 (tK 24) (iK 0) 3 4]) (.cond (tK 25) (.seq (.ops [oX 4 (.assign (.const (.int .i64 (-1)))) 3]) .ret) .skip)))) (.ops [oM 16 5 3,oB 17 .add 3 (tK 16) (iK 1) 3 3,oA 5 17 3]))
def il:SC:= .loop Vz
def k40:SC:= .seq (.ops [oX 4 (.assign (iK 0)) 3]) (.seq (.ops [oM 6 1 3,oM 7 0 22,oN 8 7 22,oB 9 .sub 3 (tK 6) (tK 8) 3 3,oA 1 9 3]) (.seq (.seq (.ops [oM 10 1 3,oB 11 .lss 3 (tK 10) (iK 0) 3 4]) (.cond (tK 11) (.seq (.ops [oX 4 (.assign (.const (.int .i64 (-1)))) 3]) .ret) .skip)) (.seq (.seq (.ops [oX 5 (.assign (iK 0)) 3]) (.block 0 il)) (.seq (.ops [oM 26 1 3,oA 4 26 3]) .ret))))
theorem yQ:Try.f40.body.map (Ct lends)=some k40:=by kernel_rfl
theorem A9Q:DL Try.f40 2=true:=by kernel_rfl
theorem Q5{a l:List D}{r:D×List D}(h:D6 Y.env k40 (I6 Aa l.length [ResultVar.tmp 4] r) (entry a l))(ha:a.length=2):Y.call 40 a l=some r:=
 Ag (Y:=Y) rfl Try.func40 (ha▸A9Q) yQ h
def El(a:List (List Int))(left1:Int)(i:Int)(s:St):Prop:=s.v 0=D.sl 26 (A9 (fun x=>D.sl 3 (A9 (D.int .i64) x)) a)∧s.v 1=D.int .i64 left1∧s.v 5=D.int .i64 i
def En(a:List (List Int))(r:Unit⊕Int)(ex:Ex)(s:St):Prop:=match r with
 | .inl q=>ex= .ret∧s.v 4=D.int .i64 (-1)
 | .inr q=>ex= .exit 0∧s.v 1=D.int .i64 q
theorem Qy(a:List (List Int)){v:Int×Int}{s:St}{r:Unit⊕Int}(h:GK a v=some r)(hM:El a v.1 v.2 s):D6 Y.env il (En a r) s:=by
 unfold GK at h;refine CX (c:=Vz) (fun v=>Fv a v.1 v.2) (fun v s=>El a v.1 v.2 s) (En a) ?_ h hM;clear h hM s v r;intro v s o hM h;obtain⟨left1,i⟩:=v;dsimp only at h hM;unfold Fv at h;unfold El at hM;obtain⟨m0,m1,m2⟩:=hM;unfold Vz;by_cases e2:i<(a.length:Int)
 ·rw [if_pos e2]at h;obtain⟨e3,h⟩:=Bw h;obtain⟨e4,h⟩:=Bw h;obtain⟨e5,h⟩:=Bw h;have c6:=YH (a.getD i.toNat default) left1 e4 e5;by_cases e7:(Lf left1 (a.getD i.toNat default).length)<0
  ·rw [if_pos e7]at h
   obtain rfl:=Option.some.inj h
   simp (maxDischargeDepth:=9) only [↓AB,AC,Ah,↓reduceIte,Nat.reduceEqDiff,Nat.reduceLT,Nat.reduceLeDiff,Nat.reduceAdd,Nat.reduceMul,Nat.reduceMod,Nat.reduceDiv,Nat.reducePow,Nat.reduceSub,Nat.reduceBEq,Int.reduceLE,Int.reduceLT,Int.reduceEq,Int.reduceSub,Int.reduceAdd,Int.reduceToNat,Int.reduceNeg,m0,m1,m2,e2,e3.1,e3.2,e4,e5.1,e5.2,c6,e7,El,En,DN,DR,DT]<;>(repeat' apply A7)<;>first|rfl|exact⟨_,rfl⟩|exact⟨_,_,rfl⟩|simp [A9,A8]
  ·rw [if_neg e7]at h
   obtain rfl:=Option.some.inj h
   simp (maxDischargeDepth:=9) only [↓AB,AC,Ah,↓reduceIte,Nat.reduceEqDiff,Nat.reduceLT,Nat.reduceLeDiff,Nat.reduceAdd,Nat.reduceMul,Nat.reduceMod,Nat.reduceDiv,Nat.reducePow,Nat.reduceSub,Nat.reduceBEq,Int.reduceLE,Int.reduceLT,Int.reduceEq,Int.reduceSub,Int.reduceAdd,Int.reduceToNat,Int.reduceNeg,m0,m1,m2,e2,e3.1,e3.2,e4,e5.1,e5.2,c6,e7,El,En,DN,DR,DT]<;>(repeat' apply A7)<;>first|rfl|exact⟨_,rfl⟩|exact⟨_,_,rfl⟩|simp [A9,A8]
 ·rw [if_neg e2]at h
  obtain rfl:=Option.some.inj h
  simp (maxDischargeDepth:=9) only [↓AB,AC,Ah,↓reduceIte,Nat.reduceEqDiff,Nat.reduceLT,Nat.reduceLeDiff,Nat.reduceAdd,Nat.reduceMul,Nat.reduceMod,Nat.reduceDiv,Nat.reducePow,Nat.reduceSub,Nat.reduceBEq,Int.reduceLE,Int.reduceLT,Int.reduceEq,Int.reduceSub,Int.reduceAdd,Int.reduceToNat,Int.reduceNeg,m0,m1,m2,e2,El,En,DN,DR,DT]<;>(repeat' apply A7)<;>first|rfl|exact⟨_,rfl⟩|exact⟨_,_,rfl⟩|simp [A9,A8]
theorem Sy(a:List (List Int))(left:Int){r:Int}(h:LW a left=some r):Y.call 40 [D.sl 26 (A9 (fun x=>D.sl 3 (A9 (D.int .i64) x)) a),D.int .i64 left] []=some (D.int .i64 r,[]):=by
 refine Q5 ?_ rfl;unfold k40;unfold LW at h;by_cases e1:(IntKind.i64.wrap (left-(a.length:Int)))<0
 ·rw [if_pos e1]at h
  obtain rfl:=Option.some.inj h
  simp (maxDischargeDepth:=9) only [↓AB,AC,Ah,↓reduceIte,Nat.reduceEqDiff,Nat.reduceLT,Nat.reduceLeDiff,Nat.reduceAdd,Nat.reduceMul,Nat.reduceMod,Nat.reduceDiv,Nat.reducePow,Nat.reduceSub,Nat.reduceBEq,Int.reduceLE,Int.reduceLT,Int.reduceEq,Int.reduceSub,Int.reduceAdd,Int.reduceToNat,Int.reduceNeg,e1]<;>(repeat' apply A7)<;>first|rfl|exact⟨_,rfl⟩|exact⟨_,_,rfl⟩|simp [A9,A8]
 ·rw [if_neg e1]at h;obtain⟨AO,hl3,h⟩:=BC h;try dsimp only at h
  simp (maxDischargeDepth:=9) only [↓AB,AC,Ah,↓reduceIte,Nat.reduceEqDiff,Nat.reduceLT,Nat.reduceLeDiff,Nat.reduceAdd,Nat.reduceMul,Nat.reduceMod,Nat.reduceDiv,Nat.reducePow,Nat.reduceSub,Nat.reduceBEq,Int.reduceLE,Int.reduceLT,Int.reduceEq,Int.reduceSub,Int.reduceAdd,Int.reduceToNat,Int.reduceNeg,e1];refine Bh (Qy a hl3 ?_) ?_
  ·simp (maxDischargeDepth:=9) only [↓AB,AC,Ah,↓reduceIte,Nat.reduceEqDiff,Nat.reduceLT,Nat.reduceLeDiff,Nat.reduceAdd,Nat.reduceMul,Nat.reduceMod,Nat.reduceDiv,Nat.reducePow,Nat.reduceSub,Nat.reduceBEq,Int.reduceLE,Int.reduceLT,Int.reduceEq,Int.reduceSub,Int.reduceAdd,Int.reduceToNat,Int.reduceNeg,e1,El]<;>(repeat' apply A7)<;>first|rfl|exact⟨_,rfl⟩|exact⟨_,_,rfl⟩|simp [A9,A8]
  ·intro ex3 s3 hX3;rcases AO with q1000_|q1000_
   ·unfold En at hX3;dsimp only at hX3 h;obtain⟨rfl,n3_0⟩:=hX3
    obtain rfl:=Option.some.inj h
    simp (maxDischargeDepth:=9) only [↓AB,AC,Ah,↓reduceIte,Nat.reduceEqDiff,Nat.reduceLT,Nat.reduceLeDiff,Nat.reduceAdd,Nat.reduceMul,Nat.reduceMod,Nat.reduceDiv,Nat.reducePow,Nat.reduceSub,Nat.reduceBEq,Int.reduceLE,Int.reduceLT,Int.reduceEq,Int.reduceSub,Int.reduceAdd,Int.reduceToNat,Int.reduceNeg,e1,n3_0]<;>(repeat' apply A7)<;>first|rfl|exact⟨_,rfl⟩|exact⟨_,_,rfl⟩|simp [A9,A8]
   ·unfold En at hX3;dsimp only at hX3 h;obtain⟨rfl,n3_0⟩:=hX3
    obtain rfl:=Option.some.inj h
    simp (maxDischargeDepth:=9) only [↓AB,AC,Ah,↓reduceIte,Nat.reduceEqDiff,Nat.reduceLT,Nat.reduceLeDiff,Nat.reduceAdd,Nat.reduceMul,Nat.reduceMod,Nat.reduceDiv,Nat.reducePow,Nat.reduceSub,Nat.reduceBEq,Int.reduceLE,Int.reduceLT,Int.reduceEq,Int.reduceSub,Int.reduceAdd,Int.reduceToNat,Int.reduceNeg,e1,n3_0]<;>(repeat' apply A7)<;>first|rfl|exact⟨_,rfl⟩|exact⟨_,_,rfl⟩|simp [A9,A8]
def vX:Int→List (List Int)→Int
 |left,[]=>left
 |left,x::l=>if left-x.length<0 then-1 else vX (left-x.length) l
theorem yR(l:List (List Int)): ∀(left:Int),0≤left→vX left l=Lf left (CF l):=by
 induction l with
 |nil=>intro left h;unfold vX Lf;rw [Vy,if_neg (by omega)];omega
 |cons x l ih=>
  intro left h;have:=Cv l
  unfold vX;by_cases hq:left-x.length<0
  ·rw [if_pos hq];unfold Lf;rw [LV,if_pos (by omega)]
  ·rw [if_neg hq,ih _ (by omega)]
   unfold Lf;rw [LV];by_cases hr:left-x.length-CF l<0
   ·rw [if_pos hr,if_pos (by omega)]
   ·rw [if_neg hr,if_neg (by omega)];omega
theorem Qz(a:List (List Int))(ha:a.length<4611686018427387904)(hx: ∀x∈a,x.length<9223372036854775808): ∀(n i:Nat) (left:Int),n=a.length-i→i≤a.length→0≤left∧left≤1048576→
  GK a (left,(i:Int))=some (if vX left (a.drop i)= -1 then .inl ()else .inr (vX left (a.drop i))):=by
 intro n
 induction n with
 |zero=>
  intro i left hn hi hl;have e:i=a.length:=by omega
  subst e;unfold GK;rw [Dy (r:=Sum.inr left)]
  ·rw [List.drop_length];unfold vX;rw [if_neg (by omega)]
  ·simp only [Fv];rw [if_neg (CY _)]
 |succ n ih=>
  intro i left hn hi hl;have hlt:i<a.length:=by omega
  have hm:a[i]∈a:=Ij hlt;have hxm:=hx _ hm
  have step:Fv a left i=if Lf left a[i].length<0 then some (Sum.inr (Sum.inl ()))else some (Sum.inl (Lf left a[i].length,((i+1:Nat):Int))):=by
   unfold Fv;rw [if_pos (GJ hlt),CU (Fh hlt),CU (by rw [Iy _ _ hlt];exact hxm),CU hl,Iy _ _ hlt,Ny i (by omega)]
  rw [ah hlt];unfold vX;by_cases hq:left-(a[i].length:Int)<0
  ·rw [if_pos hq];unfold GK;rw [Dy (r:=Sum.inl ())]
   ·rfl
   ·rw [step];unfold Lf;rw [if_pos hq];rfl
  ·rw [if_neg hq];have e2:Lf left a[i].length=left-a[i].length:=by unfold Lf;rw [if_neg hq]
   have:=ih (i+1) (left-a[i].length) (by omega) (by omega) (by omega)
   unfold GK at this ⊢;rw [IX (s':=(left-(a[i].length:Int),((i+1:Nat):Int))),this]
   ·rw [step,e2,if_neg hq]
theorem UE(a:List (List Int))(left:Int)(ha:a.length<9223372036854775808)(hx: ∀x∈a,x.length<9223372036854775808)(hl:0≤left∧left≤1048576):LW a left=some (Lf left (a.length+CF a)):=by
 have ht:=Cv a;unfold LW;rw [IK _ (by omega)]
 by_cases hq:left-(a.length:Int)<0
 ·rw [if_pos hq];unfold Lf;rw [if_pos (by omega)]
 ·rw [if_neg hq];have h0:=Qz a (by omega) hx a.length 0 (left-a.length) (by omega) (by omega) (by omega)
  simp only [Jo,List.drop_zero]at h0;rw [h0,Ee,yR _ _ (by omega)]
  have e:Lf (left-a.length) (CF a)=Lf left (a.length+CF a):=by unfold Lf;rw [show left- ↑a.length-CF a=left-(↑a.length+CF a) by omega]
  rw [e];by_cases h1:Lf left (a.length+CF a)= -1
  ·rw [if_pos h1,h1]
  ·rw [if_neg h1]
theorem Q6{α:Type}(a b:List α)(x:α):(a.length:Int)<((a++x::b).length:Int):=by rw [Jz,Jn];omega
theorem Q7{α:Type}(a b:List α)(x:α):0≤(a.length:Int)∧(a.length:Int).toNat<(a++x::b).length:=by rw [Jz,Jn];omega
theorem RL{α:Type}(a:List α): ¬(a.length:Int)<((a++[]).length:Int):=by rw [O9];omega
def M0(l:List (List Int)):Prop:=l.length<9223372036854775808∧ ∀x∈l,x.length<9223372036854775808
instance (l:List (List Int)):Decidable (M0 l):=by unfold M0;infer_instance
theorem W9(a:List (List Int))(left:Int)(hw:M0 a)(hl:0≤left∧left≤1048576):LW a left=some (Lf left (a.length+CF a)):=UE a left hw.1 hw.2 hl
theorem PI(a:List (List Int))(left:Int)(h0:M0 a)(h1:0≤left∧left≤1048576):Y.call 40 [D.sl 26 (A9 (fun x=>D.sl 3 (A9 (D.int .i64) x)) a),D.int .i64 left] []=some (D.int .i64 (Lf left (a.length+CF a)),[]):=Sy a left (W9 a left h0 h1)
def upto(k:Int)(n:Nat):List Int:=(List.range n).map fun(i:Nat)=>k+i
theorem LX(k:Int)(n:Nat):(upto k n).length=n:=by simp [upto]
theorem iq(xs:List Int)(k:Int)(i:Nat)(h:i<xs.length):(upto k i++xs.drop i).set i (k+i)=upto k (i+1)++xs.drop (i+1):=by
 rw [aj _ _ (by simp [LX]),LX,Nat.sub_self,ah h,List.set_cons_zero]
 simp [upto,List.range_succ]
noncomputable def F6(k:Int)(k1:Int)(i:Int)(Be:List Int):Option ((Int×Int×(List Int))⊕(Int×(List Int))):= if i<(Be.length:Int)then ck (0≤i∧i.toNat<Be.length)<| some (Sum.inl (IntKind.i64.wrap (k1+1),IntKind.i64.wrap (i+1),(Be.set i.toNat k1))) else some (Sum.inr (k1,Be))
noncomputable def JP(k:Int)(v:Int×Int×(List Int)):Option (Int×(List Int)):=Iw (fun v=>F6 k v.1 v.2.1 v.2.2) v
noncomputable def M3(a:List Int)(k:Int):Option (Int×(List Int)):= (JP k (k,0,a)).bind fun AO=> some (AO.1,AO.2)
def WA:SC:= .seq (.seq (.ops [oM 6 5 3,oM 7 0 26,oN 8 7 26,oB 9 .lss 3 (tK 6) (tK 8) 3 4]) (.cond (tK 9) .skip (.exit 0))) (.seq (.block 1 (.seq (.ops [oM 12 0 26,oM 13 5 3,oM 14 1 3,oI 15 26 12 13,oS 3 15 14]) (.ops [oM 16 1 3,oB 17 .add 3 (tK 16) (iK 1) 3 3,oA 1 17 3]))) (.ops [oM 10 5 3,oB 11 .add 3 (tK 10) (iK 1) 3 3,oA 5 11 3]))
def iw:SC:= .loop WA
def k17:SC:= .seq (.ops [oX 4 (.assign (iK 0)) 3]) (.seq (.seq (.ops [oX 5 (.assign (iK 0)) 3]) (.block 0 iw)) (.seq (.ops [oM 18 1 3,oA 4 18 3]) .ret))
theorem yS:Try.f17.body.map (Ct lends)=some k17:=by kernel_rfl
theorem A9S:DL Try.f17 2=true:=by kernel_rfl
theorem Jr{a l:List D}{r:D×List D}(h:D6 Y.env k17 (I6 Aa l.length [ResultVar.tmp 4] r) (entry a l))(ha:a.length=2):Y.call 17 a l=some r:=
 Ag (Y:=Y) rfl Try.func17 (ha▸A9S) yS h
def F7(k:Int)(k1:Int)(i:Int)(Be:List Int)(s:St):Prop:=(∃w_,s.v 0=D.vw [100000] (s.k 100000) w_)∧s.v 1=D.int .i64 k1∧s.v 5=D.int .i64 i∧s.v 100000=D.own 3 (A9 (D.int .i64) Be)
def Gh(k:Int)(r:Int×(List Int))(ex:Ex)(s:St):Prop:=ex= .exit 0∧s.v 1=D.int .i64 r.1∧s.v 100000=D.own 3 (A9 (D.int .i64) r.2)
theorem Q8(k:Int){v:Int×Int×(List Int)}{s:St}{r:Int×(List Int)}(h:JP k v=some r)(hM:F7 k v.1 v.2.1 v.2.2 s):D6 Y.env iw (Gh k r) s:=by
 unfold JP at h;refine CX (c:=WA) (fun v=>F6 k v.1 v.2.1 v.2.2) (fun v s=>F7 k v.1 v.2.1 v.2.2 s) (Gh k) ?_ h hM;clear h hM s v r;intro v s o hM h;obtain⟨k1,i,Be⟩:=v;dsimp only at h hM;unfold F6 at h;unfold F7 at hM;obtain⟨⟨w0_,m0⟩,m1,m2,m3⟩:=hM;unfold WA;by_cases e1:i<(Be.length:Int)
 ·rw [if_pos e1]at h;obtain⟨e2,h⟩:=Bw h
  obtain rfl:=Option.some.inj h
  simp (maxDischargeDepth:=9) only [↓AB,AC,Ah,↓reduceIte,Nat.reduceEqDiff,Nat.reduceLT,Nat.reduceLeDiff,Nat.reduceAdd,Nat.reduceMul,Nat.reduceMod,Nat.reduceDiv,Nat.reducePow,Nat.reduceSub,Nat.reduceBEq,Int.reduceLE,Int.reduceLT,Int.reduceEq,Int.reduceSub,Int.reduceAdd,Int.reduceToNat,Int.reduceNeg,m0,m1,m2,m3,e1,e2.1,e2.2,F7,Gh,DN,DR,DT]<;>(repeat' apply A7)<;>first|rfl|exact⟨_,rfl⟩|exact⟨_,_,rfl⟩|simp [A9,A8]
 ·rw [if_neg e1]at h
  obtain rfl:=Option.some.inj h
  simp (maxDischargeDepth:=9) only [↓AB,AC,Ah,↓reduceIte,Nat.reduceEqDiff,Nat.reduceLT,Nat.reduceLeDiff,Nat.reduceAdd,Nat.reduceMul,Nat.reduceMod,Nat.reduceDiv,Nat.reducePow,Nat.reduceSub,Nat.reduceBEq,Int.reduceLE,Int.reduceLT,Int.reduceEq,Int.reduceSub,Int.reduceAdd,Int.reduceToNat,Int.reduceNeg,m0,m1,m2,m3,e1,F7,Gh,DN,DR,DT]<;>(repeat' apply A7)<;>first|rfl|exact⟨_,rfl⟩|exact⟨_,_,rfl⟩|simp [A9,A8]
theorem R3(a:List Int)(k:Int){r:Int×(List Int)}(h:M3 a k=some r):Y.call 17 [D.vw [100000] 0 0,D.int .i64 k] [D.own 3 (A9 (D.int .i64) a)]=some (D.int .i64 r.1,[D.own 3 (A9 (D.int .i64) r.2)]):=by
 refine Jr ?_ rfl;unfold k17;unfold M3 at h;obtain⟨AO,hl2,h⟩:=BC h;try dsimp only at h
 simp (maxDischargeDepth:=9) only [↓AB,AC,Ah,↓reduceIte,Nat.reduceEqDiff,Nat.reduceLT,Nat.reduceLeDiff,Nat.reduceAdd,Nat.reduceMul,Nat.reduceMod,Nat.reduceDiv,Nat.reducePow,Nat.reduceSub,Nat.reduceBEq,Int.reduceLE,Int.reduceLT,Int.reduceEq,Int.reduceSub,Int.reduceAdd,Int.reduceToNat,Int.reduceNeg];refine Bh (Q8 k hl2 ?_) ?_
 ·simp (maxDischargeDepth:=9) only [↓AB,AC,Ah,↓reduceIte,Nat.reduceEqDiff,Nat.reduceLT,Nat.reduceLeDiff,Nat.reduceAdd,Nat.reduceMul,Nat.reduceMod,Nat.reduceDiv,Nat.reducePow,Nat.reduceSub,Nat.reduceBEq,Int.reduceLE,Int.reduceLT,Int.reduceEq,Int.reduceSub,Int.reduceAdd,Int.reduceToNat,Int.reduceNeg,F7]<;>(repeat' apply A7)<;>first|rfl|exact⟨_,rfl⟩|exact⟨_,_,rfl⟩|simp [A9,A8]
 ·intro ex2 s2 hX2;unfold Gh at hX2;obtain⟨rfl,n2_0,n2_1⟩:=hX2
  obtain rfl:=Option.some.inj h
  simp (maxDischargeDepth:=9) only [↓AB,AC,Ah,↓reduceIte,Nat.reduceEqDiff,Nat.reduceLT,Nat.reduceLeDiff,Nat.reduceAdd,Nat.reduceMul,Nat.reduceMod,Nat.reduceDiv,Nat.reducePow,Nat.reduceSub,Nat.reduceBEq,Int.reduceLE,Int.reduceLT,Int.reduceEq,Int.reduceSub,Int.reduceAdd,Int.reduceToNat,Int.reduceNeg,n2_0,n2_1]<;>(repeat' apply A7)<;>first|rfl|exact⟨_,rfl⟩|exact⟨_,_,rfl⟩|simp [A9,A8]
theorem UF(a:List Int)(k:Int)(ha:a.length<1099511627776)(hk:0≤k∧k<1099511627776):M3 a k=some (k+a.length,upto k a.length):=by
 have key:=Hy (fun v=>F6 k v.1 v.2.1 v.2.2) (fun i=>(k+i,(i:Int),upto k i++a.drop i)) a.length (k+a.length,upto k a.length) ?_ ?_
 ·unfold M3 JP;have e0:upto k 0=[]:=rfl;simp only [Jo,Int.add_zero,List.drop_zero,e0,LA]at key;rw [key];rfl
 ·intro i hi;simp only [F6];have el:(upto k i++a.drop i).length=a.length:=by simp [LX];omega
  rw [el,if_pos (GJ hi),CU (Fh hi),KP,iq a k i hi,Ny i (by omega),IK _ (by omega)]
  rw [show k+(i:Int)+1=k+((i+1:Nat):Int) by omega]
 ·simp only [F6];have el:(upto k a.length++a.drop a.length).length=a.length:=by simp [LX]
  rw [el,if_neg (CY _)];simp
theorem FT(a:List Int)(k:Int)(h0:a.length<1099511627776)(h1:0≤k∧k<1099511627776):Y.call 17 [D.vw [100000] 0 0,D.int .i64 k] [D.own 3 (A9 (D.int .i64) a)]=some (D.int .i64 (k+a.length),[D.own 3 (A9 (D.int .i64) (upto k a.length))]):=R3 a k (UF a k h0 h1)
def NF:Int→List (List Int)→List (List Int)
 |_,[]=>[]
 |k,x::l=>upto k x.length::NF (k+x.length) l
noncomputable def Fw(k:Int)(k1:Int)(i:Int)(Be:List (List Int)):Option ((Int×Int×(List (List Int)))⊕(Int×(List (List Int)))):= if i<(Be.length:Int)then ck (0≤i∧i.toNat<Be.length)<| ck ((Be.getD i.toNat default).length<1099511627776)<| ck (0≤k1∧k1<1099511627776)<| some (Sum.inl ((k1+(Be.getD i.toNat default).length),IntKind.i64.wrap (i+1),(Be.set i.toNat (upto k1 (Be.getD i.toNat default).length)))) else some (Sum.inr (k1,Be))
noncomputable def Fx(k:Int)(v:Int×Int×(List (List Int))):Option (Int×(List (List Int))):=Iw (fun v=>Fw k v.1 v.2.1 v.2.2) v
noncomputable def Ke(a:List (List Int))(k:Int):Option (Int×(List (List Int))):= (Fx k (k,0,a)).bind fun AO=> some (AO.1,AO.2)
def WB:SC:= .seq (.seq (.ops [oM 6 5 3,oM 7 0 22,oN 8 7 22,oB 9 .lss 3 (tK 6) (tK 8) 3 4]) (.cond (tK 9) .skip (.exit 0))) (.seq (.block 1 (.ops [oM 12 0 22,oM 13 5 3,oI 14 22 12 13,oL 15 26 14 26,oM 16 1 3,oC 17 17 [(tK 15),(tK 16)] [26,3] 3,oA 1 17 3])) (.ops [oM 10 5 3,oB 11 .add 3 (tK 10) (iK 1) 3 3,oA 5 11 3]))
def iy:SC:= .loop WB
def k49:SC:= .seq (.ops [oX 4 (.assign (iK 0)) 3]) (.seq (.seq (.ops [oX 5 (.assign (iK 0)) 3]) (.block 0 iy)) (.seq (.ops [oM 18 1 3,oA 4 18 3]) .ret))
theorem yU:Try.f49.body.map (Ct lends)=some k49:=by kernel_rfl
theorem A9U:DL Try.f49 2=true:=by kernel_rfl
theorem YI{a l:List D}{r:D×List D}(h:D6 Y.env k49 (I6 Aa l.length [ResultVar.tmp 4] r) (entry a l))(ha:a.length=2):Y.call 49 a l=some r:=
 Ag (Y:=Y) rfl Try.func49 (ha▸A9U) yU h
def Eb(k:Int)(k1:Int)(i:Int)(Be:List (List Int))(s:St):Prop:=(∃w_,s.v 0=D.vw [100000] (s.k 100000) w_)∧s.v 1=D.int .i64 k1∧s.v 5=D.int .i64 i∧s.v 100000=D.own 26 (A9 (fun x=>D.own 3 (A9 (D.int .i64) x)) Be)
def Fy(k:Int)(r:Int×(List (List Int)))(ex:Ex)(s:St):Prop:=ex= .exit 0∧s.v 1=D.int .i64 r.1∧s.v 100000=D.own 26 (A9 (fun x=>D.own 3 (A9 (D.int .i64) x)) r.2)
theorem PK(k:Int){v:Int×Int×(List (List Int))}{s:St}{r:Int×(List (List Int))}(h:Fx k v=some r)(hM:Eb k v.1 v.2.1 v.2.2 s):D6 Y.env iy (Fy k r) s:=by
 unfold Fx at h;refine CX (c:=WB) (fun v=>Fw k v.1 v.2.1 v.2.2) (fun v s=>Eb k v.1 v.2.1 v.2.2 s) (Fy k) ?_ h hM;clear h hM s v r;intro v s o hM h;obtain⟨k1,i,Be⟩:=v;dsimp only at h hM;unfold Fw at h;unfold Eb at hM;obtain⟨⟨w0_,m0⟩,m1,m2,m3⟩:=hM;unfold WB;by_cases e1:i<(Be.length:Int)
 ·rw [if_pos e1]at h;obtain⟨e2,h⟩:=Bw h;obtain⟨e3,h⟩:=Bw h;obtain⟨e4,h⟩:=Bw h;have c5:=FT (Be.getD i.toNat default) k1 e3 e4
  obtain rfl:=Option.some.inj h
  simp (maxDischargeDepth:=9) only [↓AB,AC,Ah,↓reduceIte,Nat.reduceEqDiff,Nat.reduceLT,Nat.reduceLeDiff,Nat.reduceAdd,Nat.reduceMul,Nat.reduceMod,Nat.reduceDiv,Nat.reducePow,Nat.reduceSub,Nat.reduceBEq,Int.reduceLE,Int.reduceLT,Int.reduceEq,Int.reduceSub,Int.reduceAdd,Int.reduceToNat,Int.reduceNeg,m0,m1,m2,m3,e1,e2.1,e2.2,e3,e4.1,e4.2,c5,Eb,Fy,DN,DR,DT]<;>(repeat' apply A7)<;>first|rfl|exact⟨_,rfl⟩|exact⟨_,_,rfl⟩|simp [A9,A8]
 ·rw [if_neg e1]at h
  obtain rfl:=Option.some.inj h
  simp (maxDischargeDepth:=9) only [↓AB,AC,Ah,↓reduceIte,Nat.reduceEqDiff,Nat.reduceLT,Nat.reduceLeDiff,Nat.reduceAdd,Nat.reduceMul,Nat.reduceMod,Nat.reduceDiv,Nat.reducePow,Nat.reduceSub,Nat.reduceBEq,Int.reduceLE,Int.reduceLT,Int.reduceEq,Int.reduceSub,Int.reduceAdd,Int.reduceToNat,Int.reduceNeg,m0,m1,m2,m3,e1,Eb,Fy,DN,DR,DT]<;>(repeat' apply A7)<;>first|rfl|exact⟨_,rfl⟩|exact⟨_,_,rfl⟩|simp [A9,A8]
theorem Q9(a:List (List Int))(k:Int){r:Int×(List (List Int))}(h:Ke a k=some r):Y.call 49 [D.vw [100000] 0 0,D.int .i64 k] [D.own 26 (A9 (fun x=>D.own 3 (A9 (D.int .i64) x)) a)]=some (D.int .i64 r.1,[D.own 26 (A9 (fun x=>D.own 3 (A9 (D.int .i64) x)) r.2)]):=by
 refine YI ?_ rfl;unfold k49;unfold Ke at h;obtain⟨AO,hl2,h⟩:=BC h;try dsimp only at h
 simp (maxDischargeDepth:=9) only [↓AB,AC,Ah,↓reduceIte,Nat.reduceEqDiff,Nat.reduceLT,Nat.reduceLeDiff,Nat.reduceAdd,Nat.reduceMul,Nat.reduceMod,Nat.reduceDiv,Nat.reducePow,Nat.reduceSub,Nat.reduceBEq,Int.reduceLE,Int.reduceLT,Int.reduceEq,Int.reduceSub,Int.reduceAdd,Int.reduceToNat,Int.reduceNeg];refine Bh (PK k hl2 ?_) ?_
 ·simp (maxDischargeDepth:=9) only [↓AB,AC,Ah,↓reduceIte,Nat.reduceEqDiff,Nat.reduceLT,Nat.reduceLeDiff,Nat.reduceAdd,Nat.reduceMul,Nat.reduceMod,Nat.reduceDiv,Nat.reducePow,Nat.reduceSub,Nat.reduceBEq,Int.reduceLE,Int.reduceLT,Int.reduceEq,Int.reduceSub,Int.reduceAdd,Int.reduceToNat,Int.reduceNeg,Eb]<;>(repeat' apply A7)<;>first|rfl|exact⟨_,rfl⟩|exact⟨_,_,rfl⟩|simp [A9,A8]
 ·intro ex2 s2 hX2;unfold Fy at hX2;obtain⟨rfl,n2_0,n2_1⟩:=hX2
  obtain rfl:=Option.some.inj h
  simp (maxDischargeDepth:=9) only [↓AB,AC,Ah,↓reduceIte,Nat.reduceEqDiff,Nat.reduceLT,Nat.reduceLeDiff,Nat.reduceAdd,Nat.reduceMul,Nat.reduceMod,Nat.reduceDiv,Nat.reducePow,Nat.reduceSub,Nat.reduceBEq,Int.reduceLE,Int.reduceLT,Int.reduceEq,Int.reduceSub,Int.reduceAdd,Int.reduceToNat,Int.reduceNeg,n2_0,n2_1]<;>(repeat' apply A7)<;>first|rfl|exact⟨_,rfl⟩|exact⟨_,_,rfl⟩|simp [A9,A8]
theorem PL(kk:Int): ∀(b a:List (List Int)) (k:Int),BM b→a.length+b.length<1099511627776→0≤k→k+CF b<1099511627776→
  Fx kk (k,(a.length:Int),a++b)=some (k+CF b,a++NF k b):=by
 intro b
 induction b with
 |nil=>
  intro a k hb hab hk hkt;unfold Fx;rw [Dy (r:=(k,a++[]))]
  ·rw [Vy,Int.add_zero];rfl
  ·simp only [Fw];rw [if_neg (RL _)]
 |cons x b ih=>
  intro a k hb hab hk hkt;rw [LV]at hkt;simp only [Jn]at hab;have hx:x.length<1099511627776:=hb.2 x (Jm ..);have ht:=Cv b;have:=ih (a++[upto k x.length]) (k+x.length) ⟨by omega,fun y hy=>hb.2 y (Il _ hy)⟩ (by simp;omega) (by omega) (by omega)
  unfold Fx at this ⊢;have eg:(a++x::b).getD (a.length:Int).toNat default=x:=by rw [KP];exact DU a (x::b) a.length rfl (by simp)
  rw [IX (s':=(k+x.length,((a++[upto k x.length]).length:Int),(a++[upto k x.length])++b)),this]
  ·rw [LV,show k+(x.length:Int)+CF b=k+(x.length+CF b) by omega]
   simp [NF]
  ·simp only [Fw];rw [if_pos (Q6 ..),CU (Q7 ..),CU (by rw [eg];exact hx),CU ⟨hk,by omega⟩,eg,Ny _ (by omega),KP,aj _ _ (I7 _),Nat.sub_self,List.set_cons_zero]
   simp
theorem Sz(a:List (List Int))(k:Int)(ha:BM a)(hk:0≤k∧k+CF a<1099511627776):Ke a k=some (k+CF a,NF k a):=by
 unfold Ke;have:=PL k a [] k ha (by have:=ha.1;simp;omega) hk.1 hk.2
 simp only [OU,LA,Jo]at this;rw [this];rfl
theorem NG(a:List (List Int))(k:Int)(h0:BM a)(h1:0≤k∧k+CF a<1099511627776):Y.call 49 [D.vw [100000] 0 0,D.int .i64 k] [D.own 26 (A9 (fun x=>D.own 3 (A9 (D.int .i64) x)) a)]=some (D.int .i64 (k+CF a),[D.own 26 (A9 (fun x=>D.own 3 (A9 (D.int .i64) x)) (NF k a))]):=Q9 a k (Sz a k h0 h1)
def Gz:Int→List Int→Int
 |k,[]=>k
 |k,x::l=>if x=k then Gz (k+1) l else-1
noncomputable def F8(a:List Int)(k1:Int)(i:Int):Option ((Int×Int)⊕(Unit⊕Int)):= if i<(a.length:Int)then ck (0≤i∧i.toNat<a.length)<| if(a.getD i.toNat default)=k1 then some (Sum.inl (IntKind.i64.wrap (k1+1),IntKind.i64.wrap (i+1))) else some (Sum.inr (Sum.inl ())) else some (Sum.inr (Sum.inr k1))
noncomputable def FU(a:List Int)(v:Int×Int):Option (Unit⊕Int):=Iw (fun v=>F8 a v.1 v.2) v
noncomputable def M4(a:List Int)(k:Int):Option (Int):=
 (FU a (k,0)).bind fun AO=>
 match AO with
 | .inl q1000_=>
  some (-1)
 | .inr q1000_=>
  some q1000_
def WC:SC:= .seq (.seq (.ops [oM 6 5 3,oM 7 0 26,oN 8 7 26,oB 9 .lss 3 (tK 6) (tK 8) 3 4]) (.cond (tK 9) .skip (.exit 0))) (.seq (.block 1 (.seq (.seq (.ops [oM 12 0 26,oM 13 5 3,oI 14 26 12 13,oL 15 3 14 3,oM 16 1 3,oB 17 .neq 3 (tK 15) (tK 16) 3 4]) (.cond (tK 17) (.seq (.ops [oX 4 (.assign (.const (.int .i64 (-1)))) 3]) .ret) .skip)) (.ops [oM 18 1 3,oB 19 .add 3 (tK 18) (iK 1) 3 3,oA 1 19 3]))) (.ops [oM 10 5 3,oB 11 .add 3 (tK 10) (iK 1) 3 3,oA 5 11 3]))
def j3:SC:= .loop WC
def k18:SC:= .seq (.ops [oX 4 (.assign (iK 0)) 3]) (.seq (.seq (.ops [oX 5 (.assign (iK 0)) 3]) (.block 0 j3)) (.seq (.ops [oM 20 1 3,oA 4 20 3]) .ret))
theorem yV:Try.f18.body.map (Ct lends)=some k18:=by kernel_rfl
theorem A9W:DL Try.f18 2=true:=by kernel_rfl
theorem c18{a l:List D}{r:D×List D}(h:D6 Y.env k18 (I6 Aa l.length [ResultVar.tmp 4] r) (entry a l))(ha:a.length=2):Y.call 18 a l=some r:=
 Ag (Y:=Y) rfl Try.func18 (ha▸A9W) yV h
def EP(a:List Int)(k1:Int)(i:Int)(s:St):Prop:=s.v 0=D.sl 3 (A9 (D.int .i64) a)∧s.v 1=D.int .i64 k1∧s.v 5=D.int .i64 i
def EQ(a:List Int)(r:Unit⊕Int)(ex:Ex)(s:St):Prop:=match r with
 | .inl q=>ex= .ret∧s.v 4=D.int .i64 (-1)
 | .inr q=>ex= .exit 0∧s.v 1=D.int .i64 q
theorem QA(a:List Int){v:Int×Int}{s:St}{r:Unit⊕Int}(h:FU a v=some r)(hM:EP a v.1 v.2 s):D6 Y.env j3 (EQ a r) s:=by
 unfold FU at h;refine CX (c:=WC) (fun v=>F8 a v.1 v.2) (fun v s=>EP a v.1 v.2 s) (EQ a) ?_ h hM;clear h hM s v r;intro v s o hM h;obtain⟨k1,i⟩:=v;dsimp only at h hM;unfold F8 at h;unfold EP at hM;obtain⟨m0,m1,m2⟩:=hM;unfold WC;by_cases e1:i<(a.length:Int)
 ·rw [if_pos e1]at h;obtain⟨e2,h⟩:=Bw h;by_cases e3:(a.getD i.toNat default)=k1
  ·rw [if_pos e3]at h
   obtain rfl:=Option.some.inj h
   simp (maxDischargeDepth:=9) only [↓AB,AC,Ah,↓reduceIte,Nat.reduceEqDiff,Nat.reduceLT,Nat.reduceLeDiff,Nat.reduceAdd,Nat.reduceMul,Nat.reduceMod,Nat.reduceDiv,Nat.reducePow,Nat.reduceSub,Nat.reduceBEq,Int.reduceLE,Int.reduceLT,Int.reduceEq,Int.reduceSub,Int.reduceAdd,Int.reduceToNat,Int.reduceNeg,m0,m1,m2,e1,e2.1,e2.2,decide_eq_true e3,EP,EQ,DN,DR,DT]<;>(repeat' apply A7)<;>first|rfl|exact⟨_,rfl⟩|exact⟨_,_,rfl⟩|simp [A9,A8]
  ·rw [if_neg e3]at h
   obtain rfl:=Option.some.inj h
   simp (maxDischargeDepth:=9) only [↓AB,AC,Ah,↓reduceIte,Nat.reduceEqDiff,Nat.reduceLT,Nat.reduceLeDiff,Nat.reduceAdd,Nat.reduceMul,Nat.reduceMod,Nat.reduceDiv,Nat.reducePow,Nat.reduceSub,Nat.reduceBEq,Int.reduceLE,Int.reduceLT,Int.reduceEq,Int.reduceSub,Int.reduceAdd,Int.reduceToNat,Int.reduceNeg,m0,m1,m2,e1,e2.1,e2.2,e3,EP,EQ,DN,DR,DT]<;>(repeat' apply A7)<;>first|rfl|exact⟨_,rfl⟩|exact⟨_,_,rfl⟩|simp [A9,A8]
 ·rw [if_neg e1]at h
  obtain rfl:=Option.some.inj h
  simp (maxDischargeDepth:=9) only [↓AB,AC,Ah,↓reduceIte,Nat.reduceEqDiff,Nat.reduceLT,Nat.reduceLeDiff,Nat.reduceAdd,Nat.reduceMul,Nat.reduceMod,Nat.reduceDiv,Nat.reducePow,Nat.reduceSub,Nat.reduceBEq,Int.reduceLE,Int.reduceLT,Int.reduceEq,Int.reduceSub,Int.reduceAdd,Int.reduceToNat,Int.reduceNeg,m0,m1,m2,e1,EP,EQ,DN,DR,DT]<;>(repeat' apply A7)<;>first|rfl|exact⟨_,rfl⟩|exact⟨_,_,rfl⟩|simp [A9,A8]
theorem R4(a:List Int)(k:Int){r:Int}(h:M4 a k=some r):Y.call 18 [D.sl 3 (A9 (D.int .i64) a),D.int .i64 k] []=some (D.int .i64 r,[]):=by
 refine c18 ?_ rfl;unfold k18;unfold M4 at h;obtain⟨AO,hl2,h⟩:=BC h;try dsimp only at h
 simp (maxDischargeDepth:=9) only [↓AB,AC,Ah,↓reduceIte,Nat.reduceEqDiff,Nat.reduceLT,Nat.reduceLeDiff,Nat.reduceAdd,Nat.reduceMul,Nat.reduceMod,Nat.reduceDiv,Nat.reducePow,Nat.reduceSub,Nat.reduceBEq,Int.reduceLE,Int.reduceLT,Int.reduceEq,Int.reduceSub,Int.reduceAdd,Int.reduceToNat,Int.reduceNeg];refine Bh (QA a hl2 ?_) ?_
 ·simp (maxDischargeDepth:=9) only [↓AB,AC,Ah,↓reduceIte,Nat.reduceEqDiff,Nat.reduceLT,Nat.reduceLeDiff,Nat.reduceAdd,Nat.reduceMul,Nat.reduceMod,Nat.reduceDiv,Nat.reducePow,Nat.reduceSub,Nat.reduceBEq,Int.reduceLE,Int.reduceLT,Int.reduceEq,Int.reduceSub,Int.reduceAdd,Int.reduceToNat,Int.reduceNeg,EP]<;>(repeat' apply A7)<;>first|rfl|exact⟨_,rfl⟩|exact⟨_,_,rfl⟩|simp [A9,A8]
 ·intro ex2 s2 hX2;rcases AO with q1000_|q1000_
  ·unfold EQ at hX2;dsimp only at hX2 h;obtain⟨rfl,n2_0⟩:=hX2
   obtain rfl:=Option.some.inj h
   simp (maxDischargeDepth:=9) only [↓AB,AC,Ah,↓reduceIte,Nat.reduceEqDiff,Nat.reduceLT,Nat.reduceLeDiff,Nat.reduceAdd,Nat.reduceMul,Nat.reduceMod,Nat.reduceDiv,Nat.reducePow,Nat.reduceSub,Nat.reduceBEq,Int.reduceLE,Int.reduceLT,Int.reduceEq,Int.reduceSub,Int.reduceAdd,Int.reduceToNat,Int.reduceNeg,n2_0]<;>(repeat' apply A7)<;>first|rfl|exact⟨_,rfl⟩|exact⟨_,_,rfl⟩|simp [A9,A8]
  ·unfold EQ at hX2;dsimp only at hX2 h;obtain⟨rfl,n2_0⟩:=hX2
   obtain rfl:=Option.some.inj h
   simp (maxDischargeDepth:=9) only [↓AB,AC,Ah,↓reduceIte,Nat.reduceEqDiff,Nat.reduceLT,Nat.reduceLeDiff,Nat.reduceAdd,Nat.reduceMul,Nat.reduceMod,Nat.reduceDiv,Nat.reducePow,Nat.reduceSub,Nat.reduceBEq,Int.reduceLE,Int.reduceLT,Int.reduceEq,Int.reduceSub,Int.reduceAdd,Int.reduceToNat,Int.reduceNeg,n2_0]<;>(repeat' apply A7)<;>first|rfl|exact⟨_,rfl⟩|exact⟨_,_,rfl⟩|simp [A9,A8]
theorem QB: ∀(b a:List Int) (k:Int),a.length+b.length<1099511627776→0≤k→k+b.length<1099511627776→
  FU (a++b) (k,(a.length:Int))=some (if Gz k b= -1 then .inl ()else .inr (Gz k b)):=by
 intro b
 induction b with
 |nil=>
  intro a k hab hk hkt;unfold FU;rw [Dy (r:=Sum.inr k)]
  ·unfold Gz;rw [if_neg (by omega)]
  ·simp only [F8];rw [if_neg (RL _)]
 |cons x b ih=>
  intro a k hab hk hkt;simp only [Jn]at hab hkt;have eg:(a++x::b).getD (a.length:Int).toNat default=x:=by rw [KP];exact DU a (x::b) a.length rfl (by simp)
  unfold Gz;by_cases hq:x=k
  ·rw [if_pos hq];have:=ih (a++[x]) (k+1) (by simp;omega) (by omega) (by omega)
   unfold FU at this ⊢;rw [IX (s':=(k+1,((a++[x]).length:Int)))]
   ·rw [show a++x::b=a++[x]++b by simp];exact this
   ·simp only [F8];rw [if_pos (Q6 ..),CU (Q7 ..),eg,if_pos hq,Ny _ (by omega),IK _ (by omega)];simp
  ·rw [if_neg hq];unfold FU;rw [Dy (r:=Sum.inl ())]
   ·rfl
   ·simp only [F8];rw [if_pos (Q6 ..),CU (Q7 ..),eg,if_neg hq]
theorem UG(a:List Int)(k:Int)(ha:a.length<1099511627776)(hk:0≤k∧k+a.length<1099511627776):M4 a k=some (Gz k a):=by
 unfold M4;have:=QB a [] k (by simpa using ha) hk.1 hk.2
 simp only [OU,LA,Jo]at this;rw [this,Ee];by_cases h:Gz k a= -1
 ·rw [if_pos h,h]
 ·rw [if_neg h]
theorem Ck(a:List Int)(k:Int)(h0:a.length<1099511627776)(h1:0≤k∧k+a.length<1099511627776):Y.call 18 [D.sl 3 (A9 (D.int .i64) a),D.int .i64 k] []=some (D.int .i64 (Gz k a),[]):=R4 a k (UG a k h0 h1)
theorem Uw(n:Nat): ∀k,Gz k (upto k n)=k+n:=by
 induction n with
 |zero=>intro k;simp [upto,Gz]
 |succ n ih=>
  intro k
  have e:upto k (n+1)=k::upto (k+1) n:=by
   simp only [upto,List.range_succ_eq_map,Pf,List.map_map]
   congr 1
   ·simp
   ·apply List.map_congr_left;intro i _;simp;omega
  rw [e,Gz,if_pos rfl,ih];omega
end Go.Proofs.Ytclkfhhdikfcpaa
