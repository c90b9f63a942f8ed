/- Sorting by insertion, as a plain function. Conditions: the list is short. -/
import Derived.Test.YtjhjkfoabhplfaaGreatL6
import Derived.Test.YtjhjkfoabhplfaaGreatIsP
namespace Go.Proofs.YtjhjkfoabhplfaaGreat
open Go Dv
set_option linter.unusedSimpArgs false
set_option linter.unusedVariables false
set_option maxRecDepth 100000
set_option maxHeartbeats 4000000
noncomputable def NS(l:AL):Option (AL):= ck (0+l.length<1099511627776)<| some l
def k79:SC:= .seq (.ops [oX 2 Ev 27]) (.seq (.ops [oX 3 (.buildSlice 27 0 #[]) 27,oM 4 0 27,oX 5 (.call ⟨(.builtin .append), #[(tK 3),(tK 4)], #[27,27]⟩) 27,oA 2 5 27]) .ret)
theorem A5w:Tryz.f79.body.map (Bw lends)=some k79:=by kernel_rfl
theorem AIJ:CP Tryz.f79 1=true:=by kernel_rfl
theorem c79{a l:List D}{r:D×List D}(h:CG Y.env k79 (FX Ah l.length [ResultVar.tmp 2] r) (entry a l))(ha:a.length=1):Y.call 79 a l=some r:=
 AZ (Y:=Y) rfl Tryz.func79 (ha▸AIJ) A5w h
theorem OQ(l:AL){r:AL}(h:NS l=some r):Y.call 79 [D.sl 3 (AV (D.int .i64) l)] []=some (D.own 3 (AV (D.int .i64) r),[]):=by
 refine c79 ?_ rfl;unfold k79;unfold NS at h;obtain⟨e1,h⟩:=EQ h
 obtain rfl:=Option.some.inj h
 simp only [↓AR,AU,↓reduceIte,Nat.reduceEqDiff,Nat.reduceLT,Nat.reduceLeDiff,e1]
def UC(x:Int):AL→AL
 | []=>[x]
 |y::r=>if x<y then y::UC x r else x::y::r
theorem yg(x:Int): ∀r,(UC x r).length=r.length+1:=by
 intro r
 induction r with
 |nil=>rfl
 |cons y r ih=>unfold UC;split<;>simp [ih]
def CY(l:AL):AL:=(l.foldl (fun r x=>UC x r) []).reverse
noncomputable def Gh(Ov:AL)(Ca:Int)(out1:AL)(k:Int):Option ((AL×Int)⊕(AL)):= if 0<k then ck (0≤IntKind.i64.wrap (k-1)∧(IntKind.i64.wrap (k-1)).toNat<out1.length)<| ck (0≤k∧k.toNat<out1.length)<| if(out1.getD k.toNat default)<(out1.getD ((IntKind.i64.wrap (k-1)).toNat) default)then ck (0≤IntKind.i64.wrap (k-1)∧(IntKind.i64.wrap (k-1)).toNat<(out1.set k.toNat (out1.getD ((IntKind.i64.wrap (k-1)).toNat) default)).length)<| some (Sum.inl (((out1.set k.toNat (out1.getD ((IntKind.i64.wrap (k-1)).toNat) default)).set ((IntKind.i64.wrap (k-1)).toNat) (out1.getD k.toNat default)),IntKind.i64.wrap (k-1))) else some (Sum.inr out1) else some (Sum.inr out1)
noncomputable def Hf(Ov:AL)(Ca:Int)(v:AL×Int):Option (AL):=Hu (fun v=>Gh Ov Ca v.1 v.2) v
noncomputable def Gj(Ov:AL)(out:AL)(Ca:Int):Option ((AL×Int)⊕(AL)):= if Ca<(Ov.length:Int)then (Hf Ov Ca (out,Ca)).bind fun AC=> some (Sum.inl (AC,IntKind.i64.wrap (Ca+1))) else some (Sum.inr out)
noncomputable def NT(Ov:AL)(v:AL×Int):Option (AL):=Hu (fun v=>Gj Ov v.1 v.2) v
noncomputable def Qy(l:AL):Option (AL):= (NS l).bind fun Ov=> (NT Ov (Ov,0)).bind fun Ao=> some Ao
abbrev rG:List Nat:=[15,16,17,18,19,20,21,22,23,24,25,26,27,28]
def gQ:SC:= .seq (.seq (.draws [(⟨[15,5,5],rG,[15]⟩,oM 15 5 3),(⟨[16,15,5],rG,[16]⟩,oB 16 .gtr 3 (tK 15) (iK 0) 3 4),(⟨[17,16,16],rG,[17]⟩,oM 17 16 4),(⟨[18,3,3,17],rG,[18]⟩,⟨(some 18),(.move (tK 3)),27,(some (some 17,true))⟩),(⟨[19,5,5,17],rG,[19]⟩,⟨(some 19),(.move (tK 5)),3,(some (some 17,true))⟩),(⟨[20,19,5,17],rG,[20]⟩,⟨(some 20),(.binOp .sub 3 (tK 19) (iK 1) 3),3,(some (some 17,true))⟩),(⟨[21,18,20,3,20,17],rG,[21]⟩,⟨(some 21),(.indexAddr 27 (tK 18) (tK 20)),0,(some (some 17,true))⟩),(⟨[22,21,3,17],rG,[22]⟩,⟨(some 22),(.load 3 (tK 21)),3,(some (some 17,true))⟩),(⟨[23,3,3,17],rG,[23]⟩,⟨(some 23),(.move (tK 3)),27,(some (some 17,true))⟩),(⟨[24,5,5,17],rG,[24]⟩,⟨(some 24),(.move (tK 5)),3,(some (some 17,true))⟩),(⟨[25,23,24,3,5,17],rG,[25]⟩,⟨(some 25),(.indexAddr 27 (tK 23) (tK 24)),0,(some (some 17,true))⟩),(⟨[26,25,3,17],rG,[26]⟩,⟨(some 26),(.load 3 (tK 25)),3,(some (some 17,true))⟩),(⟨[27,22,26,3,3,17],rG,[27]⟩,⟨(some 27),(.binOp .gtr 3 (tK 22) (tK 26) 3),4,(some (some 17,true))⟩),(⟨[28,17,27,16,27],rG,[28]⟩,oX 28 (.pick (tK 17) (tK 27) OL) 4)]) (.cond (tK 28) .skip (.exit 2))) (.seq (.block 3 (.seq (.ops [oM 31 3 27,oM 32 5 3,oI 33 27 31 32,oL 34 3 33 3,oA 6 34 3])
 (.seq (.ops [oM 35 3 27,oM 36 5 3,oM 37 3 27,oM 38 5 3,oB 39 .sub 3 (tK 38) (iK 1) 3 3,oI 40 27 37 39,oL 41 3 40 3,oI 42 27 35 36,oS 3 42 41]) (.ops [oM 43 3 27,oM 44 5 3,oB 45 .sub 3 (tK 44) (iK 1) 3 3,oM 46 6 3,oI 47 27 43 45,oS 3 47 46])))) (.ops [oM 29 5 3,oB 30 .sub 3 (tK 29) (iK 1) 3 3,oA 5 30 3]))
def yh:SC:= .loop gQ
def gT:SC:= .seq (.ops [oB 12 .lss 3 (tK 11) (tK 10) 3 0]) (.seq (.cond (tK 12) .skip (.exit 0)) (.seq (.block 1 (.seq (.ops [oM 13 11 3,oA 4 13 3]) (.seq (.ops [oM 14 4 3,oA 5 14 3]) (.block 2 yh)))) (.ops [oB 48 .add 3 (tK 11) (iK 1) 3 3,oM 11 48 3])))
def yj:SC:= .loop gT
def k90:SC:= .seq (.ops [oX 2 Ev 27]) (.seq (.ops [oM 7 0 27,oC 8 79 [(tK 7)] [27] 27,oA 3 8 27]) (.seq (.seq (.ops [oM 9 3 27,oN 10 9 27,oX 11 (.move (iK 0)) 3]) (.block 0 yj)) (.seq (.ops [oM 49 3 27,oA 2 49 27]) .ret)))
theorem A5x:Tryz.f90.body.map (Bw lends)=some k90:=by kernel_rfl
theorem AIL:CP Tryz.f90 1=true:=by kernel_rfl
theorem c90{a l:List D}{r:D×List D}(h:CG Y.env k90 (FX Ah l.length [ResultVar.tmp 2] r) (entry a l))(ha:a.length=1):Y.call 90 a l=some r:=
 AZ (Y:=Y) rfl Tryz.func90 (ha▸AIL) A5x h
def FM(Ov:AL)(Ca:Int)(out1:AL)(k:Int)(s:St):Prop:=s.v 3=D.own 3 (AV (D.int .i64) out1)∧s.v 5=D.int .i64 k∧s.v 10=D.int .i64 (Ov.length:Int)∧s.v 11=D.int .i64 Ca
def JI(Ov:AL)(Ca:Int)(r:AL)(ex:Ex)(s:St):Prop:=ex= .exit 2∧s.v 3=D.own 3 (AV (D.int .i64) r)∧s.v 10=D.int .i64 (Ov.length:Int)∧s.v 11=D.int .i64 Ca
theorem WH(Ov:AL)(Ca:Int){v:AL×Int}{s:St}{r:AL}(h:Hf Ov Ca v=some r)(hM:FM Ov Ca v.1 v.2 s):CG Y.env yh (JI Ov Ca r) s:=by
 unfold Hf at h;refine BD (c:=gQ) (fun v=>Gh Ov Ca v.1 v.2) (fun v s=>FM Ov Ca v.1 v.2 s) (JI Ov Ca) ?_ h hM;clear h hM s v r;intro v s o hM h;obtain⟨out1,k⟩:=v;dsimp only at h hM;unfold Gh at h;unfold FM at hM;obtain⟨m0,m1,m2,m3⟩:=hM;unfold gQ;rcases iS h with⟨e3,h⟩|⟨e3,h⟩
 ·obtain⟨e4,e5,h⟩:=Hw h;rcases iS h with⟨e6,h⟩|⟨e6,h⟩
  ·obtain⟨e7,h⟩:=EQ h
   obtain rfl:=Option.some.inj h
   simp only [↓AR,AU,↓reduceIte,Nat.reduceEqDiff,Nat.reduceLT,m0,m1,m2,m3,e3,e4.1,e4.2,e5.1,e5.2,e6,FM,FV]
  ·obtain rfl:=Option.some.inj h
   simp only [↓AR,AU,↓reduceIte,Nat.reduceEqDiff,Nat.reduceLT,m0,m1,m2,m3,e3,e4.1,e4.2,e5.1,e5.2,e6,FM,JI,KF]
 ·obtain rfl:=Option.some.inj h
  simp only [↓AR,AU,↓reduceIte,Nat.reduceEqDiff,Nat.reduceLT,m0,m1,m2,m3,e3,FM,JI,KF]
def Gl(Ov:AL)(out:AL)(Ca:Int)(s:St):Prop:=s.v 3=D.own 3 (AV (D.int .i64) out)∧s.v 10=D.int .i64 (Ov.length:Int)∧s.v 11=D.int .i64 Ca
def LZ(Ov:AL)(r:AL)(ex:Ex)(s:St):Prop:=ex= .exit 0∧s.v 3=D.own 3 (AV (D.int .i64) r)
theorem WI(Ov:AL){v:AL×Int}{s:St}{r:AL}(h:NT Ov v=some r)(hM:Gl Ov v.1 v.2 s):CG Y.env yj (LZ Ov r) s:=by
 unfold NT at h;refine BD (c:=gT) (fun v=>Gj Ov v.1 v.2) (fun v s=>Gl Ov v.1 v.2 s) (LZ Ov) ?_ h hM;clear h hM s v r;intro v s o hM h;obtain⟨out,Ca⟩:=v;dsimp only at h hM;unfold Gj at h;unfold Gl at hM;obtain⟨m0,m1,m2⟩:=hM;unfold gT;rcases iS h with⟨e2,h⟩|⟨e2,h⟩
 ·obtain⟨AC,hl4,h⟩:=Aa h;try dsimp only at h
  simp only [↓AR,AU,↓reduceIte,Nat.reduceEqDiff,Nat.reduceLT,m1,m2,e2];refine Ai (WH Ov Ca hl4 ?_) ?_
  ·simp only [Bd,↓reduceIte,Nat.reduceEqDiff,m0,m1,m2,FM]
  ·intro ex4 s4 hX4;unfold JI at hX4;obtain⟨rfl,n4_0,n4_1,n4_2⟩:=hX4
   obtain rfl:=Option.some.inj h
   simp only [↓AR,AU,↓reduceIte,Nat.reduceEqDiff,Nat.reduceLT,n4_0,n4_1,n4_2,Gl,FV]
 ·obtain rfl:=Option.some.inj h
  simp only [↓AR,AU,↓reduceIte,Nat.reduceEqDiff,Nat.reduceLT,m0,m1,m2,e2,Gl,LZ,KF]
theorem XP(l:AL){r:AL}(h:Qy l=some r):Y.call 90 [D.sl 3 (AV (D.int .i64) l)] []=some (D.own 3 (AV (D.int .i64) r),[]):=by
 refine c90 ?_ rfl;unfold k90;unfold Qy at h;obtain⟨Ov,hl1,h⟩:=Aa h;have c1:=OQ l hl1;obtain⟨Ao,hl3,h⟩:=Aa h;try dsimp only at h
 simp only [↓AR,AU,↓reduceIte,Nat.reduceEqDiff,Nat.reduceLT,c1];refine Ai (WI Ov hl3 ?_) ?_
 ·simp only [Bd,↓reduceIte,Nat.reduceEqDiff,Gl]
 ·intro ex3 s3 hX3;unfold LZ at hX3;obtain⟨rfl,n3_0⟩:=hX3
  obtain rfl:=Option.some.inj h
  simp only [↓AR,AU,↓reduceIte,Nat.reduceEqDiff,Nat.reduceLT,n3_0]
theorem ZB(rr:AL)(tt x:Int): ∀(r b:AL),r.length<1099511627776→Hf rr tt (r.reverse++x::b,(r.length:Int))=some ((UC x r).reverse++b):=by
 intro r
 induction r with
 |nil=>
  intro b _;unfold Hf;rw [GV (r:=x::b)]
  ·rfl
  ·simp only [Gh];rw [if_neg (by simp)];rfl
 |cons y r ih=>
  intro b hl;simp only [Ji]at hl;have e0:(y::r).reverse++x::b=r.reverse++y::x::b:=by simp
  have el:(r.reverse++y::x::b).length=r.length+(b.length+2):=by simp
  have e1:(r.reverse++y::x::b).getD r.length default=y:=by rw [EG r.reverse (y::x::b) r.length (by simp) (by simp)];rfl
  have e2:(r.reverse++y::x::b).getD (r.length+1) default=x:=by
   rw [show r.reverse++y::x::b=(r.reverse++[y])++x::b by simp,EG (r.reverse++[y]) (x::b) (r.length+1) (by simp) (by simp)];rfl
  have t1:((r.length+1:Nat):Int).toNat=r.length+1:=by omega
  have t2:(((r.length+1:Nat):Int)-1).toNat=r.length:=by omega
  have s1:(r.reverse++y::x::b).set (r.length+1) y=r.reverse++y::y::b:=by
   rw [mg _ _ (by simp)];simp
  have s2:(r.reverse++y::y::b).set r.length x=r.reverse++x::y::b:=by
   rw [mg _ _ (by simp)];simp
  unfold UC;by_cases hq:x<y
  ·rw [if_pos hq];have:=ih (y::b) (by omega)
   unfold Hf at this ⊢;rw [NM (s':=(r.reverse++x::y::b,(r.length:Int))),this]
   ·simp
   ·simp only [Gh];rw [e0,Ji,if_pos (by omega),Ec _ (by omega),BF (by rw [el];omega),BF (by rw [el];omega),t1,t2,e1,e2,if_pos hq,s1,BF (by rw [Ko,Ji,List.length_reverse];omega),s2]
    rw [show((r.length+1:Nat):Int)-1=(r.length:Int) by omega]
  ·rw [if_neg hq];unfold Hf;rw [GV (r:=r.reverse++y::x::b)]
   ·simp
   ·simp only [Gh];rw [e0,Ji,if_pos (by omega),Ec _ (by omega),BF (by rw [el];omega),BF (by rw [el];omega),t1,t2,e1,e2,if_neg hq]
theorem aY(l:AL)(h:l.length<1099511627776):Qy l=some (CY l):=by
 unfold Qy NS NT;rw [BF (by omega),Cs]
 have key:=xy (fun v=>Gj l v.1 v.2) (fun i r=>(r.reverse++l.drop i,(i:Int))) (fun i r=>r.length=i) l (fun r x=>UC x r) (fun r=>r.reverse) ?_ ?_ [] rfl
 ·have h1:=key.1;simp only [List.reverse_nil,RP,Tu,Kr]at h1;rw [h1];rfl
 ·intro i r hi hr
  refine⟨?_,by rw [yg,hr]⟩
  simp only [Gj];rw [if_pos (CV hi),dI hi];have:=ZB l (i:Int) l[i] r (l.drop (i+1)) (by omega)
  rw [hr]at this;rw [this,Cs,JS i (by omega)]
 ·intro r hr;simp only [Gj];rw [if_neg (Au _)];simp
theorem Q5(l:AL)(h0:l.length<1099511627776):Y.call 90 [D.sl 3 (AV (D.int .i64) l)] []=some (D.own 3 (AV (D.int .i64) (CY l)),[]):=XP l (aY l h0)
end Go.Proofs.YtjhjkfoabhplfaaGreat
