/- Sorting by insertion, as a plain function. Conditions: the list is short. -/
import Derived.Test.YtjhjkfoabhplfaaGreatL6
import Derived.Test.YtjhjkfoabhplfaaGreatIsP
namespace Go.Proofs.YtjhjkfoabhplfaaGreat
open Go Dv
set_option linter.unusedSimpArgs false
set_option linter.unusedVariables false
set_option maxRecDepth 100000
set_option maxHeartbeats 4000000
noncomputable def LH(l:List Int):Option ((List Int)):= ck (0+l.length<1099511627776)<| some l
def k79:SC:= .seq (.ops [oX 2 (.assign (.const (.slice none 0 0))) 27]) (.seq (.ops [oX 3 (.buildSlice 27 0 #[]) 27,oM 4 0 27,oX 5 (.call ⟨(.builtin .append), #[(tK 3),(tK 4)], #[27,27]⟩) 27,oA 2 5 27]) .ret)
theorem A5H:Tryz.f79.body.map (BP lends)=some k79:=by kernel_rfl
theorem AHe:Be Tryz.f79 1=true:=by kernel_rfl
theorem c79{a l:List D}{r:D×List D}(h:BZ Y.env k79 (Eh AX l.length [ResultVar.tmp 2] r) (entry a l))(ha:a.length=1):Y.call 79 a l=some r:=
 AJ (Y:=Y) rfl Tryz.func79 (ha▸AHe) A5H h
theorem NJ(l:List Int){r:(List Int)}(h:LH l=some r):Y.call 79 [D.sl 3 (A8 (D.int .i64) l)] []=some (D.own 3 (A8 (D.int .i64) r),[]):=by
 refine c79 ?_ rfl;unfold k79;unfold LH at h;obtain⟨e1,h⟩:=Ar h;cases h;simp only [↓AB,AC,↓reduceIte,Nat.reduceEqDiff,Nat.reduceLT,Nat.reduceLeDiff,e1]
def TE(x:Int):List Int→List Int
 | []=>[x]
 | y::r=>if x<y then y::TE x r else x::y::r
theorem xU(x:Int): ∀r,(TE x r).length=r.length+1:=by
 intro r
 induction r with
 | nil=>rfl
 | cons y r ih=>unfold TE;split<;>simp [ih]
def Bn(l:List Int):List Int:=(l.foldl (fun r x=>TE x r) []).reverse
noncomputable def Pd(Kb:(List Int))(BS:Int)(out1:List Int)(k:Int):Option (((List Int)×Int)⊕((List Int))):= if 0<k then ck (0≤IntKind.i64.wrap (k-1)∧(IntKind.i64.wrap (k-1)).toNat<out1.length)<| ck (0≤k∧k.toNat<out1.length)<| if(out1.getD k.toNat default)<(out1.getD ((IntKind.i64.wrap (k-1)).toNat) default)then ck (0≤IntKind.i64.wrap (k-1)∧(IntKind.i64.wrap (k-1)).toNat<(out1.set k.toNat (out1.getD ((IntKind.i64.wrap (k-1)).toNat) default)).length)<| some (Sum.inl (((out1.set k.toNat (out1.getD ((IntKind.i64.wrap (k-1)).toNat) default)).set ((IntKind.i64.wrap (k-1)).toNat) (out1.getD k.toNat default)),IntKind.i64.wrap (k-1))) else some (Sum.inr out1) else some (Sum.inr out1)
noncomputable def TF(Kb:(List Int))(BS:Int)(v:(List Int)×Int):Option ((List Int)):=GQ (fun v=>Pd Kb BS v.1 v.2) v
noncomputable def Pe(Kb:(List Int))(out:List Int)(BS:Int):Option (((List Int)×Int)⊕((List Int))):= if BS<(Kb.length:Int)then (TF Kb BS (out,BS)).bind fun sK=> some (Sum.inl (sK,IntKind.i64.wrap (BS+1))) else some (Sum.inr out)
noncomputable def dO(Kb:(List Int))(v:(List Int)×Int):Option ((List Int)):=GQ (fun v=>Pe Kb v.1 v.2) v
noncomputable def sPS(l:List Int):Option ((List Int)):= (LH l).bind fun Kb=> (dO Kb (Kb,0)).bind fun NR=> some NR
def dP:SC:= .seq (.seq (.draws [(⟨[15,5,5],[15,16,17,18,19,20,21,22,23,24,25,26,27,28],[15]⟩,oM 15 5 3),(⟨[16,15,5],[15,16,17,18,19,20,21,22,23,24,25,26,27,28],[16]⟩,oB 16 .gtr 3 (tK 15) (iK 0) 3 4),(⟨[17,16,16],[15,16,17,18,19,20,21,22,23,24,25,26,27,28],[17]⟩,oM 17 16 4),(⟨[18,3,3,17],[15,16,17,18,19,20,21,22,23,24,25,26,27,28],[18]⟩,⟨some 18,.move (tK 3),27,(some (some 17,true))⟩),(⟨[19,5,5,17],[15,16,17,18,19,20,21,22,23,24,25,26,27,28],[19]⟩,⟨some 19,.move (tK 5),3,(some (some 17,true))⟩),(⟨[20,19,5,17],[15,16,17,18,19,20,21,22,23,24,25,26,27,28],[20]⟩,⟨some 20,.binOp .sub 3 (tK 19) (iK 1) 3,3,(some (some 17,true))⟩),(⟨[21,18,20,3,20,17],[15,16,17,18,19,20,21,22,23,24,25,26,27,28],[21]⟩,⟨some 21,.indexAddr 27 (tK 18) (tK 20),0,(some (some 17,true))⟩),(⟨[22,21,3,17],[15,16,17,18,19,20,21,22,23,24,25,26,27,28],[22]⟩,⟨some 22,.load 3 (tK 21),3,(some (some 17,true))⟩),(⟨[23,3,3,17],[15,16,17,18,19,20,21,22,23,24,25,26,27,28],[23]⟩,⟨some 23,.move (tK 3),27,(some (some 17,true))⟩),(⟨[24,5,5,17],[15,16,17,18,19,20,21,22,23,24,25,26,27,28],[24]⟩,⟨some 24,.move (tK 5),3,(some (some 17,true))⟩),(⟨[25,23,24,3,5,17],[15,16,17,18,19,20,21,22,23,24,25,26,27,28],[25]⟩,⟨some 25,.indexAddr 27 (tK 23) (tK 24),0,(some (some 17,true))⟩),
 (⟨[26,25,3,17],[15,16,17,18,19,20,21,22,23,24,25,26,27,28],[26]⟩,⟨some 26,.load 3 (tK 25),3,(some (some 17,true))⟩),(⟨[27,22,26,3,3,17],[15,16,17,18,19,20,21,22,23,24,25,26,27,28],[27]⟩,⟨some 27,.binOp .gtr 3 (tK 22) (tK 26) 3,4,(some (some 17,true))⟩),(⟨[28,17,27,16,27],[15,16,17,18,19,20,21,22,23,24,25,26,27,28],[28]⟩,oX 28 (.pick (tK 17) (tK 27) (.const (.bool false))) 4)]) (.cond (tK 28) .skip (.exit 2))) (.seq (.block 3 (.seq (.ops [oM 31 3 27,oM 32 5 3,oI 33 27 31 32,oL 34 3 33 3,oA 6 34 3]) (.seq (.ops [oM 35 3 27,oM 36 5 3,oM 37 3 27,oM 38 5 3,oB 39 .sub 3 (tK 38) (iK 1) 3 3,oI 40 27 37 39,oL 41 3 40 3,oI 42 27 35 36,oS 3 42 41]) (.ops [oM 43 3 27,oM 44 5 3,oB 45 .sub 3 (tK 44) (iK 1) 3 3,oM 46 6 3,oI 47 27 43 45,oS 3 47 46])))) (.ops [oM 29 5 3,oB 30 .sub 3 (tK 29) (iK 1) 3 3,oA 5 30 3]))
def xV:SC:= .loop dP
def dQ:SC:= .seq (.ops [oB 12 .lss 3 (tK 11) (tK 10) 3 0]) (.seq (.cond (tK 12) .skip (.exit 0)) (.seq (.block 1 (.seq (.ops [oM 13 11 3,oA 4 13 3]) (.seq (.ops [oM 14 4 3,oA 5 14 3]) (.block 2 xV)))) (.ops [oB 48 .add 3 (tK 11) (iK 1) 3 3,oM 11 48 3])))
def xW:SC:= .loop dQ
def k90:SC:= .seq (.ops [oX 2 (.assign (.const (.slice none 0 0))) 27]) (.seq (.ops [oM 7 0 27,oC 8 79 [(tK 7)] [27] 27,oA 3 8 27]) (.seq (.seq (.ops [oM 9 3 27,oN 10 9 27,oX 11 (.move (iK 0)) 3]) (.block 0 xW)) (.seq (.ops [oM 49 3 27,oA 2 49 27]) .ret)))
theorem A5I:Tryz.f90.body.map (BP lends)=some k90:=by kernel_rfl
theorem AHg:Be Tryz.f90 1=true:=by kernel_rfl
theorem c90{a l:List D}{r:D×List D}(h:BZ Y.env k90 (Eh AX l.length [ResultVar.tmp 2] r) (entry a l))(ha:a.length=1):Y.call 90 a l=some r:=
 AJ (Y:=Y) rfl Tryz.func90 (ha▸AHg) A5I h
def Nu(Kb:(List Int))(BS:Int)(out1:List Int)(k:Int)(s:St):Prop:=s.v 3=D.own 3 (A8 (D.int .i64) out1)∧s.v 5=D.int .i64 k∧s.v 10=D.int .i64 (Kb.length:Int)∧s.v 11=D.int .i64 BS
def RD(Kb:(List Int))(BS:Int)(r:(List Int))(ex:Ex)(s:St):Prop:=ex= .exit 2∧s.v 3=D.own 3 (A8 (D.int .i64) r)∧s.v 10=D.int .i64 (Kb.length:Int)∧s.v 11=D.int .i64 BS
theorem sU(Kb:(List Int))(BS:Int){v:(List Int)×Int}{s:St}{r:(List Int)}(h:TF Kb BS v=some r)(hM:Nu Kb BS v.1 v.2 s):BZ Y.env xV (RD Kb BS r) s:=by
 unfold TF at h;refine Ao (c:=dP) (fun v=>Pd Kb BS v.1 v.2) (fun v s=>Nu Kb BS v.1 v.2 s) (RD Kb BS) ?_ h hM;clear h hM s v r;intro v s o hM h;obtain⟨out1,k⟩:=v;dsimp only at h hM;unfold Pd at h;unfold Nu at hM;obtain⟨m0,m1,m2,m3⟩:=hM;unfold dP;by_cases e3:0<k
 ·rw [if_pos e3]at h;obtain⟨e4,h⟩:=Ar h;obtain⟨e5,h⟩:=Ar h;by_cases e6:(out1.getD k.toNat default)<(out1.getD ((IntKind.i64.wrap (k-1)).toNat) default)
  ·rw [if_pos e6]at h;obtain⟨e7,h⟩:=Ar h;cases h;simp only [↓AB,AC,↓reduceIte,Nat.reduceEqDiff,Nat.reduceLT,m0,m1,m2,m3,e3,e4.1,e4.2,e5.1,e5.2,e6,Nu,Ef]
  ·rw [if_neg e6]at h;cases h;simp only [↓AB,AC,↓reduceIte,Nat.reduceEqDiff,Nat.reduceLT,m0,m1,m2,m3,e3,e4.1,e4.2,e5.1,e5.2,e6,Nu,RD,JK]
 ·rw [if_neg e3]at h;cases h;simp only [↓AB,AC,↓reduceIte,Nat.reduceEqDiff,Nat.reduceLT,m0,m1,m2,m3,e3,Nu,RD,JK]
def Pf(Kb:(List Int))(out:List Int)(BS:Int)(s:St):Prop:=s.v 3=D.own 3 (A8 (D.int .i64) out)∧s.v 10=D.int .i64 (Kb.length:Int)∧s.v 11=D.int .i64 BS
def UK(Kb:(List Int))(r:(List Int))(ex:Ex)(s:St):Prop:=ex= .exit 0∧s.v 3=D.own 3 (A8 (D.int .i64) r)
theorem sV(Kb:(List Int)){v:(List Int)×Int}{s:St}{r:(List Int)}(h:dO Kb v=some r)(hM:Pf Kb v.1 v.2 s):BZ Y.env xW (UK Kb r) s:=by
 unfold dO at h;refine Ao (c:=dQ) (fun v=>Pe Kb v.1 v.2) (fun v s=>Pf Kb v.1 v.2 s) (UK Kb) ?_ h hM;clear h hM s v r;intro v s o hM h;obtain⟨out,BS⟩:=v;dsimp only at h hM;unfold Pe at h;unfold Pf at hM;obtain⟨m0,m1,m2⟩:=hM;unfold dQ;by_cases e2:BS<(Kb.length:Int)
 ·rw [if_pos e2]at h;obtain⟨sK,hl4,h⟩:=AO h;try dsimp only at h
  simp only [↓AB,AC,↓reduceIte,Nat.reduceEqDiff,Nat.reduceLT,m1,m2,e2];refine AY (sU Kb BS hl4 ?_) ?_
  ·simp only [BG,↓reduceIte,Nat.reduceEqDiff,m0,m1,m2,Nu]
  ·intro ex4 s4 hX4;unfold RD at hX4;obtain⟨rfl,n4_0,n4_1,n4_2⟩:=hX4;cases h;simp only [↓AB,AC,↓reduceIte,Nat.reduceEqDiff,Nat.reduceLT,n4_0,n4_1,n4_2,Pf,Ef]
 ·rw [if_neg e2]at h;cases h;simp only [↓AB,AC,↓reduceIte,Nat.reduceEqDiff,Nat.reduceLT,m0,m1,m2,e2,Pf,UK,JK]
theorem xX(l:List Int){r:(List Int)}(h:sPS l=some r):Y.call 90 [D.sl 3 (A8 (D.int .i64) l)] []=some (D.own 3 (A8 (D.int .i64) r),[]):=by
 refine c90 ?_ rfl;unfold k90;unfold sPS at h;obtain⟨Kb,hl1,h⟩:=AO h;try dsimp only at h
 have c1:=NJ l hl1;obtain⟨NR,hl3,h⟩:=AO h;try dsimp only at h
 simp only [↓AB,AC,↓reduceIte,Nat.reduceEqDiff,Nat.reduceLT,c1];refine AY (sV Kb hl3 ?_) ?_
 ·simp only [BG,↓reduceIte,Nat.reduceEqDiff,Pf]
 ·intro ex3 s3 hX3;unfold UK at hX3;obtain⟨rfl,n3_0⟩:=hX3;cases h;simp only [↓AB,AC,↓reduceIte,Nat.reduceEqDiff,Nat.reduceLT,n3_0]
theorem YC(rr:List Int)(tt x:Int): ∀(r b:List Int),r.length<1099511627776→TF rr tt (r.reverse++x::b,(r.length:Int))=some ((TE x r).reverse++b):=by
 intro r
 induction r with
 | nil=>
  intro b _;unfold TF;rw [FR (r:=x::b)]
  ·rfl
  ·simp only [Pd];rw [if_neg (by simp)];rfl
 | cons y r ih=>
  intro b hl;simp only [Ik]at hl;have e0:(y::r).reverse++x::b=r.reverse++y::x::b:=by simp
  have el:(r.reverse++y::x::b).length=r.length+(b.length+2):=by simp
  have e1:(r.reverse++y::x::b).getD r.length default=y:=by rw [DX r.reverse (y::x::b) r.length (by simp) (by simp)];rfl
  have e2:(r.reverse++y::x::b).getD (r.length+1) default=x:=by
   rw [show r.reverse++y::x::b=(r.reverse++[y])++x::b by simp,DX (r.reverse++[y]) (x::b) (r.length+1) (by simp) (by simp)];rfl
  have t1:((r.length+1:Nat):Int).toNat=r.length+1:=by omega
  have t2:(((r.length+1:Nat):Int)-1).toNat=r.length:=by omega
  have s1:(r.reverse++y::x::b).set (r.length+1) y=r.reverse++y::y::b:=by
   rw [kX _ _ (by simp)];simp
  have s2:(r.reverse++y::y::b).set r.length x=r.reverse++x::y::b:=by
   rw [kX _ _ (by simp)];simp
  unfold TE;by_cases hq:x<y
  ·rw [if_pos hq];have:=ih (y::b) (by omega)
   unfold TF at this ⊢;rw [MC (s':=(r.reverse++x::y::b,(r.length:Int))),this]
   ·simp
   ·simp only [Pd];rw [e0,Ik,if_pos (by omega),Dw _ (by omega),Am (by rw [el];omega),Am (by rw [el];omega),t1,t2,e1,e2,if_pos hq,s1,Am (by rw [Jq,Ik,List.length_reverse];omega),s2]
    rw [show((r.length+1:Nat):Int)-1=(r.length:Int) by omega]
  ·rw [if_neg hq];unfold TF;rw [FR (r:=r.reverse++y::x::b)]
   ·simp
   ·simp only [Pd];rw [e0,Ik,if_pos (by omega),Dw _ (by omega),Am (by rw [el];omega),Am (by rw [el];omega),t1,t2,e1,e2,if_neg hq]
theorem A5J(l:List Int)(h:l.length<1099511627776):sPS l=some (Bn l):=by
 unfold sPS LH dO;rw [Am (by omega),CO]
 have key:=wQ (fun v=>Pe l v.1 v.2) (fun i r=>(r.reverse++l.drop i,(i:Int))) (fun i r=>r.length=i) l (fun r x=>TE x r) (fun r=>r.reverse) ?_ ?_ [] rfl
 ·have h1:=key.1;simp only [List.reverse_nil,QV,Sk,Js]at h1;rw [h1];rfl
 ·intro i r hi hr
  refine⟨?_,by rw [xU,hr]⟩
  simp only [Pe];rw [if_pos (Bi hi),aS hi];have:=YC l (i:Int) l[i] r (l.drop (i+1)) (by omega)
  rw [hr]at this;rw [this,CO,IR i (by omega)]
 ·intro r hr;simp only [Pe];rw [if_neg (Af _)];simp
theorem nP(l:List Int)(h0:l.length<1099511627776):Y.call 90 [D.sl 3 (A8 (D.int .i64) l)] []=some (D.own 3 (A8 (D.int .i64) (Bn l)),[]):=xX l (A5J l h0)
end Go.Proofs.YtjhjkfoabhplfaaGreat
