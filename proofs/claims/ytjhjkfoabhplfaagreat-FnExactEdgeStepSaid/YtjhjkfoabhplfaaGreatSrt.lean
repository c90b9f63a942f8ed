/- Sorting by insertion, as a plain function. Conditions: the list is short. -/
import Derived.Test.YtjhjkfoabhplfaaGreatL6
import Derived.Test.YtjhjkfoabhplfaaGreatIsP
namespace Go.Proofs.YtjhjkfoabhplfaaGreat
open Go Dv
set_option linter.unusedSimpArgs false
set_option linter.unusedVariables false
set_option maxRecDepth 100000
set_option maxHeartbeats 4000000
noncomputable def Jb(l:List Int):Option ((List Int)):= ck (0+l.length<1099511627776)<| some l
def k79:SC:= .seq (.ops [oX 2 (.assign (.const (.slice none 0 0))) 27]) (.seq (.ops [oX 3 (.buildSlice 27 0 #[]) 27,oM 4 0 27,oX 5 (.call ⟨(.builtin .append), #[(tK 3),(tK 4)], #[27,27]⟩) 27,oA 2 5 27]) .ret)
theorem A3V:Tryz.f79.body.map (BO lends)=some k79:=by kernel_rfl
theorem AIr:Bi Tryz.f79 1=true:=by kernel_rfl
theorem c79{a l:List D}{r:D×List D}(h:Bf Y.env k79 (EG AV l.length [ResultVar.tmp 2] r) (entry a l))(ha:a.length=1):Y.call 79 a l=some r:=
 AL (Y:=Y) rfl Tryz.func79 (ha▸AIr) A3V h
theorem LG(l:List Int){r:(List Int)}(h:Jb l=some r):Y.call 79 [D.sl 3 (AB (D.int .i64) l)] []=some (D.own 3 (AB (D.int .i64) r),[]):=by
 refine c79 ?_ rfl;unfold k79;unfold Jb at h;obtain⟨e1,h⟩:=Av h;cases h;simp (maxDischargeDepth:=9) only [↓AC,A7,AO,AA,AJ,↓reduceIte,Nat.reduceEqDiff,Nat.reduceLT,Nat.reduceLeDiff,e1]
def QB(x:Int):List Int→List Int
 | []=>[x]
 | y::r=>if x<y then y::QB x r else x::y::r
theorem tY(x:Int): ∀r,(QB x r).length=r.length+1:=by
 intro r
 induction r with
 | nil=>rfl
 | cons y r ih=>unfold QB;split<;>simp [ih]
def DI(l:List Int):List Int:=(l.foldl (fun r x=>QB x r) []).reverse
noncomputable def NT(Cv:(List Int))(BP:Int)(out1:List Int)(k:Int):Option (((List Int)×Int)⊕((List Int))):= if 0<k then ck (0≤IntKind.i64.wrap (k-1)∧(IntKind.i64.wrap (k-1)).toNat<out1.length)<| ck (0≤k∧k.toNat<out1.length)<| if(out1.getD k.toNat default)<(out1.getD ((IntKind.i64.wrap (k-1)).toNat) default)then ck (0≤IntKind.i64.wrap (k-1)∧(IntKind.i64.wrap (k-1)).toNat<(out1.set k.toNat (out1.getD ((IntKind.i64.wrap (k-1)).toNat) default)).length)<| some (Sum.inl (((out1.set k.toNat (out1.getD ((IntKind.i64.wrap (k-1)).toNat) default)).set ((IntKind.i64.wrap (k-1)).toNat) (out1.getD k.toNat default)),IntKind.i64.wrap (k-1))) else some (Sum.inr out1) else some (Sum.inr out1)
noncomputable def QC(Cv:(List Int))(BP:Int)(v:(List Int)×Int):Option ((List Int)):=Gb (fun v=>NT Cv BP v.1 v.2) v
noncomputable def NU(Cv:(List Int))(out:List Int)(BP:Int):Option (((List Int)×Int)⊕((List Int))):= if BP<(Cv.length:Int)then (QC Cv BP (out,BP)).bind fun DF=> some (Sum.inl (DF,IntKind.i64.wrap (BP+1))) else some (Sum.inr out)
noncomputable def ZH(Cv:(List Int))(v:(List Int)×Int):Option ((List Int)):=Gb (fun v=>NU Cv v.1 v.2) v
noncomputable def sPS(l:List Int):Option ((List Int)):= (Jb l).bind fun Cv=> (ZH Cv (Cv,0)).bind fun D6=> some D6
def ZI:SC:= .seq (.seq (.draws [(⟨[15,5,5],[15,16,17,18,19,20,21,22,23,24,25,26,27,28],[15]⟩,oM 15 5 3),(⟨[16,15,5],[15,16,17,18,19,20,21,22,23,24,25,26,27,28],[16]⟩,oB 16 .gtr 3 (tK 15) (iK 0) 3 4),(⟨[17,16,16],[15,16,17,18,19,20,21,22,23,24,25,26,27,28],[17]⟩,oM 17 16 4),(⟨[18,3,3,17],[15,16,17,18,19,20,21,22,23,24,25,26,27,28],[18]⟩,⟨some 18,.move (tK 3),27,(some (some 17,true))⟩),(⟨[19,5,5,17],[15,16,17,18,19,20,21,22,23,24,25,26,27,28],[19]⟩,⟨some 19,.move (tK 5),3,(some (some 17,true))⟩),(⟨[20,19,5,17],[15,16,17,18,19,20,21,22,23,24,25,26,27,28],[20]⟩,⟨some 20,.binOp .sub 3 (tK 19) (iK 1) 3,3,(some (some 17,true))⟩),(⟨[21,18,20,3,20,17],[15,16,17,18,19,20,21,22,23,24,25,26,27,28],[21]⟩,⟨some 21,.indexAddr 27 (tK 18) (tK 20),0,(some (some 17,true))⟩),(⟨[22,21,3,17],[15,16,17,18,19,20,21,22,23,24,25,26,27,28],[22]⟩,⟨some 22,.load 3 (tK 21),3,(some (some 17,true))⟩),(⟨[23,3,3,17],[15,16,17,18,19,20,21,22,23,24,25,26,27,28],[23]⟩,⟨some 23,.move (tK 3),27,(some (some 17,true))⟩),(⟨[24,5,5,17],[15,16,17,18,19,20,21,22,23,24,25,26,27,28],[24]⟩,⟨some 24,.move (tK 5),3,(some (some 17,true))⟩),(⟨[25,23,24,3,5,17],[15,16,17,18,19,20,21,22,23,24,25,26,27,28],[25]⟩,⟨some 25,.indexAddr 27 (tK 23) (tK 24),0,(some (some 17,true))⟩),
 (⟨[26,25,3,17],[15,16,17,18,19,20,21,22,23,24,25,26,27,28],[26]⟩,⟨some 26,.load 3 (tK 25),3,(some (some 17,true))⟩),(⟨[27,22,26,3,3,17],[15,16,17,18,19,20,21,22,23,24,25,26,27,28],[27]⟩,⟨some 27,.binOp .gtr 3 (tK 22) (tK 26) 3,4,(some (some 17,true))⟩),(⟨[28,17,27,16,27],[15,16,17,18,19,20,21,22,23,24,25,26,27,28],[28]⟩,oX 28 (.pick (tK 17) (tK 27) (.const (.bool false))) 4)]) (.cond (tK 28) .skip (.exit 2))) (.seq (.block 3 (.seq (.ops [oM 31 3 27,oM 32 5 3,oI 33 27 31 32,oL 34 3 33 3,oA 6 34 3]) (.seq (.ops [oM 35 3 27,oM 36 5 3,oM 37 3 27,oM 38 5 3,oB 39 .sub 3 (tK 38) (iK 1) 3 3,oI 40 27 37 39,oL 41 3 40 3,oI 42 27 35 36,oS 3 42 41]) (.ops [oM 43 3 27,oM 44 5 3,oB 45 .sub 3 (tK 44) (iK 1) 3 3,oM 46 6 3,oI 47 27 43 45,oS 3 47 46])))) (.ops [oM 29 5 3,oB 30 .sub 3 (tK 29) (iK 1) 3 3,oA 5 30 3]))
def tZ:SC:= .loop ZI
def ZJ:SC:= .seq (.ops [oB 12 .lss 3 (tK 11) (tK 10) 3 0]) (.seq (.cond (tK 12) .skip (.exit 0)) (.seq (.block 1 (.seq (.ops [oM 13 11 3,oA 4 13 3]) (.seq (.ops [oM 14 4 3,oA 5 14 3]) (.block 2 tZ)))) (.ops [oB 48 .add 3 (tK 11) (iK 1) 3 3,oM 11 48 3])))
def tq:SC:= .loop ZJ
def k90:SC:= .seq (.ops [oX 2 (.assign (.const (.slice none 0 0))) 27]) (.seq (.ops [oM 7 0 27,oC 8 79 [(tK 7)] [27] 27,oA 3 8 27]) (.seq (.seq (.ops [oM 9 3 27,oN 10 9 27,oX 11 (.move (iK 0)) 3]) (.block 0 tq)) (.seq (.ops [oM 49 3 27,oA 2 49 27]) .ret)))
theorem A3W:Tryz.f90.body.map (BO lends)=some k90:=by kernel_rfl
theorem AIt:Bi Tryz.f90 1=true:=by kernel_rfl
theorem c90{a l:List D}{r:D×List D}(h:Bf Y.env k90 (EG AV l.length [ResultVar.tmp 2] r) (entry a l))(ha:a.length=1):Y.call 90 a l=some r:=
 AL (Y:=Y) rfl Tryz.func90 (ha▸AIt) A3W h
def M4(Cv:(List Int))(BP:Int)(out1:List Int)(k:Int)(s:St):Prop:=s.v 3=D.own 3 (AB (D.int .i64) out1)∧s.v 5=D.int .i64 k∧s.v 10=D.int .i64 (Cv.length:Int)∧s.v 11=D.int .i64 BP
def P6(Cv:(List Int))(BP:Int)(r:(List Int))(ex:Ex)(s:St):Prop:=ex= .exit 2∧s.v 3=D.own 3 (AB (D.int .i64) r)∧s.v 10=D.int .i64 (Cv.length:Int)∧s.v 11=D.int .i64 BP
theorem nJ(Cv:(List Int))(BP:Int){v:(List Int)×Int}{s:St}{r:(List Int)}(h:QC Cv BP v=some r)(hM:M4 Cv BP v.1 v.2 s):Bf Y.env tZ (P6 Cv BP r) s:=by
 unfold QC at h;refine BA (c:=ZI) (fun v=>NT Cv BP v.1 v.2) (fun v s=>M4 Cv BP v.1 v.2 s) (P6 Cv BP) ?_ h hM;clear h hM s v r;intro v s o hM h;obtain⟨out1,k⟩:=v;dsimp only at h hM;unfold NT at h;unfold M4 at hM;obtain⟨m0,m1,m2,m3⟩:=hM;unfold ZI;by_cases e3:0<k
 ·rw [if_pos e3]at h;obtain⟨e4,h⟩:=Av h;obtain⟨e5,h⟩:=Av h;by_cases e6:(out1.getD k.toNat default)<(out1.getD ((IntKind.i64.wrap (k-1)).toNat) default)
  ·rw [if_pos e6]at h;obtain⟨e7,h⟩:=Av h;cases h;simp (maxDischargeDepth:=9) only [↓AC,A7,AO,BM,AA,AJ,↓reduceIte,Nat.reduceEqDiff,Nat.reduceLT,Nat.reduceBEq,m0,m1,m2,m3,e3,e4.1,e4.2,e5.1,e5.2,e6,M4,FD]
  ·rw [if_neg e6]at h;cases h;simp (maxDischargeDepth:=9) only [↓AC,A7,AO,AA,AJ,↓reduceIte,Nat.reduceEqDiff,Nat.reduceLT,Nat.reduceBEq,m0,m1,m2,m3,e3,e4.1,e4.2,e5.1,e5.2,e6,M4,P6,JH]
 ·rw [if_neg e3]at h;cases h;simp (maxDischargeDepth:=9) only [↓AC,A7,AJ,↓reduceIte,Nat.reduceEqDiff,Nat.reduceLT,m0,m1,m2,m3,e3,M4,P6,JH]
def NV(Cv:(List Int))(out:List Int)(BP:Int)(s:St):Prop:=s.v 3=D.own 3 (AB (D.int .i64) out)∧s.v 10=D.int .i64 (Cv.length:Int)∧s.v 11=D.int .i64 BP
def RG(Cv:(List Int))(r:(List Int))(ex:Ex)(s:St):Prop:=ex= .exit 0∧s.v 3=D.own 3 (AB (D.int .i64) r)
theorem nK(Cv:(List Int)){v:(List Int)×Int}{s:St}{r:(List Int)}(h:ZH Cv v=some r)(hM:NV Cv v.1 v.2 s):Bf Y.env tq (RG Cv r) s:=by
 unfold ZH at h;refine BA (c:=ZJ) (fun v=>NU Cv v.1 v.2) (fun v s=>NV Cv v.1 v.2 s) (RG Cv) ?_ h hM;clear h hM s v r;intro v s o hM h;obtain⟨out,BP⟩:=v;dsimp only at h hM;unfold NU at h;unfold NV at hM;obtain⟨m0,m1,m2⟩:=hM;unfold ZJ;by_cases e2:BP<(Cv.length:Int)
 ·rw [if_pos e2]at h;obtain⟨DF,hl4,h⟩:=AU h;try dsimp only at h
  simp (maxDischargeDepth:=9) only [↓AC,A7,AJ,↓reduceIte,Nat.reduceEqDiff,Nat.reduceLT,m1,m2,e2];refine Ag (nJ Cv BP hl4 ?_) ?_
  ·simp (maxDischargeDepth:=9) only [A7,↓reduceIte,Nat.reduceEqDiff,m0,m1,m2,M4]
  ·intro ex4 s4 hX4;unfold P6 at hX4;obtain⟨rfl,n4_0,n4_1,n4_2⟩:=hX4;cases h;simp (maxDischargeDepth:=9) only [↓AC,A7,AJ,↓reduceIte,Nat.reduceEqDiff,Nat.reduceLT,n4_0,n4_1,n4_2,NV,FD]
 ·rw [if_neg e2]at h;cases h;simp (maxDischargeDepth:=9) only [↓AC,A7,AJ,↓reduceIte,Nat.reduceEqDiff,Nat.reduceLT,m0,m1,m2,e2,NV,RG,JH]
theorem tu(l:List Int){r:(List Int)}(h:sPS l=some r):Y.call 90 [D.sl 3 (AB (D.int .i64) l)] []=some (D.own 3 (AB (D.int .i64) r),[]):=by
 refine c90 ?_ rfl;unfold k90;unfold sPS at h;obtain⟨Cv,hl1,h⟩:=AU h;try dsimp only at h
 have c1:=LG l hl1;obtain⟨D6,hl3,h⟩:=AU h;try dsimp only at h
 simp (maxDischargeDepth:=9) only [↓AC,A7,AO,BM,AA,AJ,↓reduceIte,Nat.reduceEqDiff,Nat.reduceLT,Nat.reduceAdd,c1];refine Ag (nK Cv hl3 ?_) ?_
 ·simp (maxDischargeDepth:=9) only [A7,↓reduceIte,Nat.reduceEqDiff,NV]
 ·intro ex3 s3 hX3;unfold RG at hX3;obtain⟨rfl,n3_0⟩:=hX3;cases h;simp (maxDischargeDepth:=9) only [↓AC,A7,AO,AA,↓reduceIte,Nat.reduceEqDiff,Nat.reduceLT,n3_0]
theorem Vi(rr:List Int)(tt x:Int): ∀(r b:List Int),r.length<1099511627776→QC rr tt (r.reverse++x::b,(r.length:Int))=some ((QB x r).reverse++b):=by
 intro r
 induction r with
 | nil=>
  intro b _;unfold QC;rw [Ep (r:=x::b)]
  ·rfl
  ·simp only [NT];rw [if_neg (by simp)];rfl
 | cons y r ih=>
  intro b hl;simp only [List.length_cons]at hl;have e0:(y::r).reverse++x::b=r.reverse++y::x::b:=by simp
  have el:(r.reverse++y::x::b).length=r.length+(b.length+2):=by simp
  have e1:(r.reverse++y::x::b).getD r.length default=y:=by rw [DD r.reverse (y::x::b) r.length (by simp) (by simp)];rfl
  have e2:(r.reverse++y::x::b).getD (r.length+1) default=x:=by
   rw [show r.reverse++y::x::b=(r.reverse++[y])++x::b by simp,DD (r.reverse++[y]) (x::b) (r.length+1) (by simp) (by simp)];rfl
  have t1:((r.length+1:Nat):Int).toNat=r.length+1:=by omega
  have t2:(((r.length+1:Nat):Int)-1).toNat=r.length:=by omega
  have s1:(r.reverse++y::x::b).set (r.length+1) y=r.reverse++y::y::b:=by
   rw [List.set_append_right _ _ (by simp)];simp
  have s2:(r.reverse++y::y::b).set r.length x=r.reverse++x::y::b:=by
   rw [List.set_append_right _ _ (by simp)];simp
  unfold QB;by_cases hq:x<y
  ·rw [if_pos hq];have:=ih (y::b) (by omega)
   unfold QC at this ⊢;rw [KC (s':=(r.reverse++x::y::b,(r.length:Int))),this]
   ·simp
   ·simp only [NT];rw [e0,List.length_cons,if_pos (by omega),Ie _ (by omega),Az (by rw [el];omega),Az (by rw [el];omega),t1,t2,e1,e2,if_pos hq,s1,Az (by rw [List.length_append,List.length_cons,List.length_reverse];omega),s2]
    rw [show((r.length+1:Nat):Int)-1=(r.length:Int) by omega]
  ·rw [if_neg hq];unfold QC;rw [Ep (r:=r.reverse++y::x::b)]
   ·simp
   ·simp only [NT];rw [e0,List.length_cons,if_pos (by omega),Ie _ (by omega),Az (by rw [el];omega),Az (by rw [el];omega),t1,t2,e1,e2,if_neg hq]
theorem A3X(l:List Int)(h:l.length<1099511627776):sPS l=some (DI l):=by
 unfold sPS Jb ZH;rw [Az (by omega),Option.bind_some]
 have key:=rQ (fun v=>NU l v.1 v.2) (fun i r=>(r.reverse++l.drop i,(i:Int))) (fun i r=>r.length=i) l (fun r x=>QB x r) (fun r=>r.reverse) ?_ ?_ [] rfl
 ·have h1:=key.1;simp only [List.reverse_nil,List.nil_append,List.drop_zero,Int.natCast_zero]at h1;rw [h1];rfl
 ·intro i r hi hr
  refine⟨?_,by rw [tY,hr]⟩
  simp only [NU];rw [if_pos (CJ hi),List.drop_eq_getElem_cons hi];have:=Vi l (i:Int) l[i] r (l.drop (i+1)) (by omega)
  rw [hr]at this;rw [this,Option.bind_some,JM i (by omega)]
 ·intro r hr;simp only [NU];rw [if_neg (Ak _)];simp
theorem u6(l:List Int)(h0:l.length<1099511627776):Y.call 90 [D.sl 3 (AB (D.int .i64) l)] []=some (D.own 3 (AB (D.int .i64) (DI l)),[]):=tu l (A3X l h0)
end Go.Proofs.YtjhjkfoabhplfaaGreat
