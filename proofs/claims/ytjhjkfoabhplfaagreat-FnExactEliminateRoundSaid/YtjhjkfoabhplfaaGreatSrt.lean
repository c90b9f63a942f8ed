/- Sorting by insertion, as a plain function. Conditions: the list is short. -/
import Derived.Test.YtjhjkfoabhplfaaGreatL6
import Derived.Test.YtjhjkfoabhplfaaGreatIsP
namespace Go.Proofs.YtjhjkfoabhplfaaGreat
open Go Dv
set_option linter.unusedSimpArgs false
set_option linter.unusedVariables false
set_option maxRecDepth 100000
set_option maxHeartbeats 4000000
noncomputable def NL(l:AA):Option (AA):= ck (0+l.length<1099511627776)<| some l
def k79:SC:= .seq (.ops [oX 2 CG 27]) (.seq (.ops [oX 3 (.buildSlice 27 0 #[]) 27,oM 4 0 27,oX 5 (.call ⟨(.builtin .append), #[(tK 3),(tK 4)], #[27,27]⟩) 27,oA 2 5 27]) .ret)
theorem A7p:Tryz.f79.body.map (BI lends)=some k79:=by kernel_rfl
theorem AKT:BR Tryz.f79 1=true:=by kernel_rfl
theorem c79{a l:List D}{r:D×List D}(h:BU Y.env k79 (Du Ab l.length [ResultVar.tmp 2] r) (entry a l))(ha:a.length=1):Y.call 79 a l=some r:=
 AP (Y:=Y) rfl Tryz.func79 (ha▸AKT) A7p h
theorem OT(l:AA){r:AA}(h:NL l=some r):Y.call 79 [D.sl 3 (AJ (D.int .i64) l)] []=some (D.own 3 (AJ (D.int .i64) r),[]):=by
 refine c79 ?_ rfl;unfold k79;unfold NL at h;obtain⟨e1,h⟩:=DL h;cases h;simp only [↓AB,AC,↓reduceIte,Nat.reduceEqDiff,Nat.reduceLT,Nat.reduceLeDiff,e1]
def Ui(x:Int):AA→AA
 | []=>[x]
 |y::r=>if x<y then y::Ui x r else x::y::r
theorem A0j(x:Int): ∀r,(Ui x r).length=r.length+1:=by
 intro r
 induction r with
 |nil=>rfl
 |cons y r ih=>unfold Ui;split<;>simp [ih]
def Bt(l:AA):AA:=(l.foldl (fun r x=>Ui x r) []).reverse
noncomputable def Ql(O7:AA)(Bv:Int)(out1:AA)(k:Int):Option ((AA×Int)⊕(AA)):= if 0<k then ck (0≤IntKind.i64.wrap (k-1)∧(IntKind.i64.wrap (k-1)).toNat<out1.length)<| ck (0≤k∧k.toNat<out1.length)<| if(out1.getD k.toNat default)<(out1.getD ((IntKind.i64.wrap (k-1)).toNat) default)then ck (0≤IntKind.i64.wrap (k-1)∧(IntKind.i64.wrap (k-1)).toNat<(out1.set k.toNat (out1.getD ((IntKind.i64.wrap (k-1)).toNat) default)).length)<| some (Sum.inl (((out1.set k.toNat (out1.getD ((IntKind.i64.wrap (k-1)).toNat) default)).set ((IntKind.i64.wrap (k-1)).toNat) (out1.getD k.toNat default)),IntKind.i64.wrap (k-1))) else some (Sum.inr out1) else some (Sum.inr out1)
noncomputable def Uj(O7:AA)(Bv:Int)(v:AA×Int):Option (AA):=Fv (fun v=>Ql O7 Bv v.1 v.2) v
noncomputable def Qm(O7:AA)(out:AA)(Bv:Int):Option ((AA×Int)⊕(AA)):= if Bv<(O7.length:Int)then (Uj O7 Bv (out,Bv)).bind fun A8=> some (Sum.inl (A8,IntKind.i64.wrap (Bv+1))) else some (Sum.inr out)
noncomputable def jP(O7:AA)(v:AA×Int):Option (AA):=Fv (fun v=>Qm O7 v.1 v.2) v
noncomputable def sPS(l:AA):Option (AA):= (NL l).bind fun O7=> (jP O7 (O7,0)).bind fun Ad=> some Ad
abbrev ut:List Nat:=[15,16,17,18,19,20,21,22,23,24,25,26,27,28]
def jQ:SC:= .seq (.seq (.draws [(⟨[15,5,5],ut,[15]⟩,oM 15 5 3),(⟨[16,15,5],ut,[16]⟩,oB 16 .gtr 3 (tK 15) (iK 0) 3 4),(⟨[17,16,16],ut,[17]⟩,oM 17 16 4),(⟨[18,3,3,17],ut,[18]⟩,⟨some 18,.move (tK 3),27,(some (some 17,true))⟩),(⟨[19,5,5,17],ut,[19]⟩,⟨some 19,.move (tK 5),3,(some (some 17,true))⟩),(⟨[20,19,5,17],ut,[20]⟩,⟨some 20,.binOp .sub 3 (tK 19) (iK 1) 3,3,(some (some 17,true))⟩),(⟨[21,18,20,3,20,17],ut,[21]⟩,⟨some 21,.indexAddr 27 (tK 18) (tK 20),0,(some (some 17,true))⟩),(⟨[22,21,3,17],ut,[22]⟩,⟨some 22,.load 3 (tK 21),3,(some (some 17,true))⟩),(⟨[23,3,3,17],ut,[23]⟩,⟨some 23,.move (tK 3),27,(some (some 17,true))⟩),(⟨[24,5,5,17],ut,[24]⟩,⟨some 24,.move (tK 5),3,(some (some 17,true))⟩),(⟨[25,23,24,3,5,17],ut,[25]⟩,⟨some 25,.indexAddr 27 (tK 23) (tK 24),0,(some (some 17,true))⟩),(⟨[26,25,3,17],ut,[26]⟩,⟨some 26,.load 3 (tK 25),3,(some (some 17,true))⟩),(⟨[27,22,26,3,3,17],ut,[27]⟩,⟨some 27,.binOp .gtr 3 (tK 22) (tK 26) 3,4,(some (some 17,true))⟩),(⟨[28,17,27,16,27],ut,[28]⟩,oX 28 (.pick (tK 17) (tK 27) Mq) 4)]) (.cond (tK 28) .skip (.exit 2))) (.seq (.block 3 (.seq (.ops [oM 31 3 27,oM 32 5 3,oI 33 27 31 32,oL 34 3 33 3,oA 6 34 3]) (.seq (.ops [oM 35 3 27,
 oM 36 5 3,oM 37 3 27,oM 38 5 3,oB 39 .sub 3 (tK 38) (iK 1) 3 3,oI 40 27 37 39,oL 41 3 40 3,oI 42 27 35 36,oS 3 42 41]) (.ops [oM 43 3 27,oM 44 5 3,oB 45 .sub 3 (tK 44) (iK 1) 3 3,oM 46 6 3,oI 47 27 43 45,oS 3 47 46])))) (.ops [oM 29 5 3,oB 30 .sub 3 (tK 29) (iK 1) 3 3,oA 5 30 3]))
def A0k:SC:= .loop jQ
def jR:SC:= .seq (.ops [oB 12 .lss 3 (tK 11) (tK 10) 3 0]) (.seq (.cond (tK 12) .skip (.exit 0)) (.seq (.block 1 (.seq (.ops [oM 13 11 3,oA 4 13 3]) (.seq (.ops [oM 14 4 3,oA 5 14 3]) (.block 2 A0k)))) (.ops [oB 48 .add 3 (tK 11) (iK 1) 3 3,oM 11 48 3])))
def A0l:SC:= .loop jR
def k90:SC:= .seq (.ops [oX 2 CG 27]) (.seq (.ops [oM 7 0 27,oC 8 79 [(tK 7)] [27] 27,oA 3 8 27]) (.seq (.seq (.ops [oM 9 3 27,oN 10 9 27,oX 11 (.move (iK 0)) 3]) (.block 0 A0l)) (.seq (.ops [oM 49 3 27,oA 2 49 27]) .ret)))
theorem A7q:Tryz.f90.body.map (BI lends)=some k90:=by kernel_rfl
theorem AKV:BR Tryz.f90 1=true:=by kernel_rfl
theorem c90{a l:List D}{r:D×List D}(h:BU Y.env k90 (Du Ab l.length [ResultVar.tmp 2] r) (entry a l))(ha:a.length=1):Y.call 90 a l=some r:=
 AP (Y:=Y) rfl Tryz.func90 (ha▸AKV) A7q h
def PH(O7:AA)(Bv:Int)(out1:AA)(k:Int)(s:St):Prop:=s.v 3=D.own 3 (AJ (D.int .i64) out1)∧s.v 5=D.int .i64 k∧s.v 10=D.int .i64 (O7.length:Int)∧s.v 11=D.int .i64 Bv
def Sz(O7:AA)(Bv:Int)(r:AA)(ex:Ex)(s:St):Prop:=ex= .exit 2∧s.v 3=D.own 3 (AJ (D.int .i64) r)∧s.v 10=D.int .i64 (O7.length:Int)∧s.v 11=D.int .i64 Bv
theorem xX(O7:AA)(Bv:Int){v:AA×Int}{s:St}{r:AA}(h:Uj O7 Bv v=some r)(hM:PH O7 Bv v.1 v.2 s):BU Y.env A0k (Sz O7 Bv r) s:=by
 unfold Uj at h;refine Ap (c:=jQ) (fun v=>Ql O7 Bv v.1 v.2) (fun v s=>PH O7 Bv v.1 v.2 s) (Sz O7 Bv) ?_ h hM;clear h hM s v r;intro v s o hM h;obtain⟨out1,k⟩:=v;dsimp only at h hM;unfold Ql at h;unfold PH at hM;obtain⟨m0,m1,m2,m3⟩:=hM;unfold jQ;rcases iS h with⟨e3,h⟩|⟨e3,h⟩
 ·obtain⟨e4,e5,h⟩:=Fy h;rcases iS h with⟨e6,h⟩|⟨e6,h⟩
  ·obtain⟨e7,h⟩:=DL h;cases h;simp only [↓AB,AC,↓reduceIte,Nat.reduceEqDiff,Nat.reduceLT,m0,m1,m2,m3,e3,e4.1,e4.2,e5.1,e5.2,e6,PH,Dw]
  ·cases h;simp only [↓AB,AC,↓reduceIte,Nat.reduceEqDiff,Nat.reduceLT,m0,m1,m2,m3,e3,e4.1,e4.2,e5.1,e5.2,e6,PH,Sz,Ir]
 ·cases h;simp only [↓AB,AC,↓reduceIte,Nat.reduceEqDiff,Nat.reduceLT,m0,m1,m2,m3,e3,PH,Sz,Ir]
def Qn(O7:AA)(out:AA)(Bv:Int)(s:St):Prop:=s.v 3=D.own 3 (AJ (D.int .i64) out)∧s.v 10=D.int .i64 (O7.length:Int)∧s.v 11=D.int .i64 Bv
def Vk(O7:AA)(r:AA)(ex:Ex)(s:St):Prop:=ex= .exit 0∧s.v 3=D.own 3 (AJ (D.int .i64) r)
theorem xY(O7:AA){v:AA×Int}{s:St}{r:AA}(h:jP O7 v=some r)(hM:Qn O7 v.1 v.2 s):BU Y.env A0l (Vk O7 r) s:=by
 unfold jP at h;refine Ap (c:=jR) (fun v=>Qm O7 v.1 v.2) (fun v s=>Qn O7 v.1 v.2 s) (Vk O7) ?_ h hM;clear h hM s v r;intro v s o hM h;obtain⟨out,Bv⟩:=v;dsimp only at h hM;unfold Qm at h;unfold Qn at hM;obtain⟨m0,m1,m2⟩:=hM;unfold jR;rcases iS h with⟨e2,h⟩|⟨e2,h⟩
 ·obtain⟨A8,hl4,h⟩:=AQ h;try dsimp only at h
  simp only [↓AB,AC,↓reduceIte,Nat.reduceEqDiff,Nat.reduceLT,m1,m2,e2];refine AZ (xX O7 Bv hl4 ?_) ?_
  ·simp only [BC,↓reduceIte,Nat.reduceEqDiff,m0,m1,m2,PH]
  ·intro ex4 s4 hX4;unfold Sz at hX4;obtain⟨rfl,n4_0,n4_1,n4_2⟩:=hX4;cases h;simp only [↓AB,AC,↓reduceIte,Nat.reduceEqDiff,Nat.reduceLT,n4_0,n4_1,n4_2,Qn,Dw]
 ·cases h;simp only [↓AB,AC,↓reduceIte,Nat.reduceEqDiff,Nat.reduceLT,m0,m1,m2,e2,Qn,Vk,Ir]
theorem A0m(l:AA){r:AA}(h:sPS l=some r):Y.call 90 [D.sl 3 (AJ (D.int .i64) l)] []=some (D.own 3 (AJ (D.int .i64) r),[]):=by
 refine c90 ?_ rfl;unfold k90;unfold sPS at h;obtain⟨O7,hl1,h⟩:=AQ h;have c1:=OT l hl1;obtain⟨Ad,hl3,h⟩:=AQ h;try dsimp only at h
 simp only [↓AB,AC,↓reduceIte,Nat.reduceEqDiff,Nat.reduceLT,c1];refine AZ (xY O7 hl3 ?_) ?_
 ·simp only [BC,↓reduceIte,Nat.reduceEqDiff,Qn]
 ·intro ex3 s3 hX3;unfold Vk at hX3;obtain⟨rfl,n3_0⟩:=hX3;cases h;simp only [↓AB,AC,↓reduceIte,Nat.reduceEqDiff,Nat.reduceLT,n3_0]
theorem Zq(rr:AA)(tt x:Int): ∀(r b:AA),r.length<1099511627776→Uj rr tt (r.reverse++x::b,(r.length:Int))=some ((Ui x r).reverse++b):=by
 intro r
 induction r with
 |nil=>
  intro b _;unfold Uj;rw [Fp (r:=x::b)]
  ·rfl
  ·simp only [Ql];rw [if_neg (by simp)];rfl
 |cons y r ih=>
  intro b hl;simp only [JS]at hl;have e0:(y::r).reverse++x::b=r.reverse++y::x::b:=by simp
  have el:(r.reverse++y::x::b).length=r.length+(b.length+2):=by simp
  have e1:(r.reverse++y::x::b).getD r.length default=y:=by rw [Dc r.reverse (y::x::b) r.length (by simp) (by simp)];rfl
  have e2:(r.reverse++y::x::b).getD (r.length+1) default=x:=by
   rw [show r.reverse++y::x::b=(r.reverse++[y])++x::b by simp,Dc (r.reverse++[y]) (x::b) (r.length+1) (by simp) (by simp)];rfl
  have t1:((r.length+1:Nat):Int).toNat=r.length+1:=by omega
  have t2:(((r.length+1:Nat):Int)-1).toNat=r.length:=by omega
  have s1:(r.reverse++y::x::b).set (r.length+1) y=r.reverse++y::y::b:=by
   rw [qG _ _ (by simp)];simp
  have s2:(r.reverse++y::y::b).set r.length x=r.reverse++x::y::b:=by
   rw [qG _ _ (by simp)];simp
  unfold Ui;by_cases hq:x<y
  ·rw [if_pos hq];have:=ih (y::b) (by omega)
   unfold Uj at this ⊢;rw [NH (s':=(r.reverse++x::y::b,(r.length:Int))),this]
   ·simp
   ·simp only [Ql];rw [e0,JS,if_pos (by omega),Db _ (by omega),Ao (by rw [el];omega),Ao (by rw [el];omega),t1,t2,e1,e2,if_pos hq,s1,Ao (by rw [KU,JS,List.length_reverse];omega),s2]
    rw [show((r.length+1:Nat):Int)-1=(r.length:Int) by omega]
  ·rw [if_neg hq];unfold Uj;rw [Fp (r:=r.reverse++y::x::b)]
   ·simp
   ·simp only [Ql];rw [e0,JS,if_pos (by omega),Db _ (by omega),Ao (by rw [el];omega),Ao (by rw [el];omega),t1,t2,e1,e2,if_neg hq]
theorem A7r(l:AA)(h:l.length<1099511627776):sPS l=some (Bt l):=by
 unfold sPS NL jP;rw [Ao (by omega),Bl]
 have key:=A08 (fun v=>Qm l v.1 v.2) (fun i r=>(r.reverse++l.drop i,(i:Int))) (fun i r=>r.length=i) l (fun r x=>Ui x r) (fun r=>r.reverse) ?_ ?_ [] rfl
 ·have h1:=key.1;simp only [List.reverse_nil,R5,UT,Jb]at h1;rw [h1];rfl
 ·intro i r hi hr
  refine⟨?_,by rw [A0j,hr]⟩
  simp only [Qm];rw [if_pos (BZ hi),fw hi];have:=Zq l (i:Int) l[i] r (l.drop (i+1)) (by omega)
  rw [hr]at this;rw [this,Bl,H9 i (by omega)]
 ·intro r hr;simp only [Qm];rw [if_neg (Ae _)];simp
theorem tQ(l:AA)(h0:l.length<1099511627776):Y.call 90 [D.sl 3 (AJ (D.int .i64) l)] []=some (D.own 3 (AJ (D.int .i64) (Bt l)),[]):=A0m l (A7r l h0)
end Go.Proofs.YtjhjkfoabhplfaaGreat
