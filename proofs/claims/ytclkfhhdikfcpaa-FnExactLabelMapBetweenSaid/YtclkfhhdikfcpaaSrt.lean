/- Sorting by insertion, as a plain function. Conditions: the list is short. -/
import Derived.Test.YtclkfhhdikfcpaaL6
import Derived.Test.YtclkfhhdikfcpaaIsP
namespace Go.Proofs.Ytclkfhhdikfcpaa
open Go Dv
set_option linter.unusedSimpArgs false
set_option linter.unusedVariables false
set_option maxRecDepth 100000
set_option maxHeartbeats 4000000
noncomputable def Gy(l:List Int):Option ((List Int)):= ck (0+l.length<1099511627776)<| some l
def k87:SC:= .seq (.ops [oX 2 (.assign (.const (.slice none 0 0))) 26]) (.seq (.ops [oX 3 (.buildSlice 26 0 #[]) 26,oM 4 0 26,oX 5 (.call ⟨(.builtin .append), #[(tK 3),(tK 4)], #[26,26]⟩) 26,oA 2 5 26]) .ret)
theorem zG:Try.f87.body.map (Ct lends)=some k87:=by kernel_rfl
theorem AA4:DL Try.f87 1=true:=by kernel_rfl
theorem c87{a l:List D}{r:D×List D}(h:D6 Y.env k87 (I6 Aa l.length [ResultVar.tmp 2] r) (entry a l))(ha:a.length=1):Y.call 87 a l=some r:=
 Ag (Y:=Y) rfl Try.func87 (ha▸AA4) zG h
theorem GR(l:List Int){r:(List Int)}(h:Gy l=some r):Y.call 87 [D.sl 3 (A9 (D.int .i64) l)] []=some (D.own 3 (A9 (D.int .i64) r),[]):=by
 refine c87 ?_ rfl;unfold k87;unfold Gy at h;obtain⟨e1,h⟩:=Bw h
 obtain rfl:=Option.some.inj h
 simp (maxDischargeDepth:=9) only [↓AB,AC,Ah,↓reduceIte,Nat.reduceEqDiff,Nat.reduceLT,Nat.reduceLeDiff,Nat.reduceAdd,Nat.reduceMul,Nat.reduceMod,Nat.reduceDiv,Nat.reducePow,Nat.reduceSub,Nat.reduceBEq,Int.reduceLE,Int.reduceLT,Int.reduceEq,Int.reduceSub,Int.reduceAdd,Int.reduceToNat,Int.reduceNeg,e1]<;>(repeat' apply A7)<;>first|rfl|exact⟨_,rfl⟩|exact⟨_,_,rfl⟩|simp [A9,A8]
def PP(x:Int):List Int→List Int
 | []=>[x]
 |y::r=>if x<y then y::PP x r else x::y::r
theorem jA(x:Int): ∀r,(PP x r).length=r.length+1:=by
 intro r
 induction r with
 |nil=>rfl
 |cons y r ih=>unfold PP;split<;>simp [ih]
def Dp(l:List Int):List Int:=(l.foldl (fun r x=>PP x r) []).reverse
noncomputable def F9(Lg:(List Int))(Bz:Int)(out1:List Int)(k:Int):Option (((List Int)×Int)⊕((List Int))):= if 0<k then ck (0≤IntKind.i64.wrap (k-1)∧(IntKind.i64.wrap (k-1)).toNat<out1.length)<| ck (0≤k∧k.toNat<out1.length)<| if(out1.getD k.toNat default)<(out1.getD ((IntKind.i64.wrap (k-1)).toNat) default)then ck (0≤IntKind.i64.wrap (k-1)∧(IntKind.i64.wrap (k-1)).toNat<(out1.set k.toNat (out1.getD ((IntKind.i64.wrap (k-1)).toNat) default)).length)<| some (Sum.inl (((out1.set k.toNat (out1.getD ((IntKind.i64.wrap (k-1)).toNat) default)).set ((IntKind.i64.wrap (k-1)).toNat) (out1.getD k.toNat default)),IntKind.i64.wrap (k-1))) else some (Sum.inr out1) else some (Sum.inr out1)
noncomputable def FV(Lg:(List Int))(Bz:Int)(v:(List Int)×Int):Option ((List Int)):=Iw (fun v=>F9 Lg Bz v.1 v.2) v
noncomputable def FB(Lg:(List Int))(out:List Int)(Bz:Int):Option (((List Int)×Int)⊕((List Int))):= if Bz<(Lg.length:Int)then (FV Lg Bz (out,Bz)).bind fun AO=> some (Sum.inl (AO,IntKind.i64.wrap (Bz+1))) else some (Sum.inr out)
noncomputable def JR(Lg:(List Int))(v:(List Int)×Int):Option ((List Int)):=Iw (fun v=>FB Lg v.1 v.2) v
noncomputable def M7(l:List Int):Option ((List Int)):= (Gy l).bind fun Lg=> (JR Lg (Lg,0)).bind fun Dk=> some Dk
def WO:SC:= .seq (.seq (.draws [(⟨[15,5,5],[15,16,17,18,19,20,21,22,23,24,25,26,27,28],[15]⟩,oM 15 5 3),(⟨[16,15,5],[15,16,17,18,19,20,21,22,23,24,25,26,27,28],[16]⟩,oB 16 .gtr 3 (tK 15) (iK 0) 3 4),(⟨[17,16,16],[15,16,17,18,19,20,21,22,23,24,25,26,27,28],[17]⟩,oM 17 16 4),(⟨[18,3,3,17],[15,16,17,18,19,20,21,22,23,24,25,26,27,28],[18]⟩,⟨(some 18),(.move (tK 3)),26,(some (some 17,true))⟩),(⟨[19,5,5,17],[15,16,17,18,19,20,21,22,23,24,25,26,27,28],[19]⟩,⟨(some 19),(.move (tK 5)),3,(some (some 17,true))⟩),(⟨[20,19,5,17],[15,16,17,18,19,20,21,22,23,24,25,26,27,28],[20]⟩,⟨(some 20),(.binOp .sub 3 (tK 19) (iK 1) 3),3,(some (some 17,true))⟩),(⟨[21,18,20,3,20,17],[15,16,17,18,19,20,21,22,23,24,25,26,27,28],[21]⟩,⟨(some 21),(.indexAddr 26 (tK 18) (tK 20)),0,(some (some 17,true))⟩),(⟨[22,21,3,17],[15,16,17,18,19,20,21,22,23,24,25,26,27,28],[22]⟩,⟨(some 22),(.load 3 (tK 21)),3,(some (some 17,true))⟩),(⟨[23,3,3,17],[15,16,17,18,19,20,21,22,23,24,25,26,27,28],[23]⟩,⟨(some 23),(.move (tK 3)),26,(some (some 17,true))⟩),(⟨[24,5,5,17],[15,16,17,18,19,20,21,22,23,24,25,26,27,28],[24]⟩,⟨(some 24),(.move (tK 5)),3,(some (some 17,true))⟩),(⟨[25,23,24,3,5,17],[15,16,17,18,19,20,21,22,23,24,25,26,27,28],[25]⟩,⟨(some 25),(.indexAddr 26 (tK 23) (tK 24)),0,(some (some 17,true))⟩),
 (⟨[26,25,3,17],[15,16,17,18,19,20,21,22,23,24,25,26,27,28],[26]⟩,⟨(some 26),(.load 3 (tK 25)),3,(some (some 17,true))⟩),(⟨[27,22,26,3,3,17],[15,16,17,18,19,20,21,22,23,24,25,26,27,28],[27]⟩,⟨(some 27),(.binOp .gtr 3 (tK 22) (tK 26) 3),4,(some (some 17,true))⟩),(⟨[28,17,27,16,27],[15,16,17,18,19,20,21,22,23,24,25,26,27,28],[28]⟩,oX 28 (.pick (tK 17) (tK 27) (.const (.bool false))) 4)]) (.cond (tK 28) .skip (.exit 2))) (.seq (.block 3 (.seq (.ops [oM 31 3 26,oM 32 5 3,oI 33 26 31 32,oL 34 3 33 3,oA 6 34 3]) (.seq (.ops [oM 35 3 26,oM 36 5 3,oM 37 3 26,oM 38 5 3,oB 39 .sub 3 (tK 38) (iK 1) 3 3,oI 40 26 37 39,oL 41 3 40 3,oI 42 26 35 36,oS 3 42 41]) (.ops [oM 43 3 26,oM 44 5 3,oB 45 .sub 3 (tK 44) (iK 1) 3 3,oM 46 6 3,oI 47 26 43 45,oS 3 47 46])))) (.ops [oM 29 5 3,oB 30 .sub 3 (tK 29) (iK 1) 3 3,oA 5 30 3]))
def jB:SC:= .loop WO
def WP:SC:= .seq (.ops [oB 12 .lss 3 (tK 11) (tK 10) 3 0]) (.seq (.cond (tK 12) .skip (.exit 0)) (.seq (.block 1 (.seq (.ops [oM 13 11 3,oA 4 13 3]) (.seq (.ops [oM 14 4 3,oA 5 14 3]) (.block 2 jB)))) (.ops [oB 48 .add 3 (tK 11) (iK 1) 3 3,oM 11 48 3])))
def jC:SC:= .loop WP
def k86:SC:= .seq (.ops [oX 2 (.assign (.const (.slice none 0 0))) 26]) (.seq (.ops [oM 7 0 26,oC 8 87 [(tK 7)] [26] 26,oA 3 8 26]) (.seq (.seq (.ops [oM 9 3 26,oN 10 9 26,oX 11 (.move (iK 0)) 3]) (.block 0 jC)) (.seq (.ops [oM 49 3 26,oA 2 49 26]) .ret)))
theorem zH:Try.f86.body.map (Ct lends)=some k86:=by kernel_rfl
theorem AA6:DL Try.f86 1=true:=by kernel_rfl
theorem c86{a l:List D}{r:D×List D}(h:D6 Y.env k86 (I6 Aa l.length [ResultVar.tmp 2] r) (entry a l))(ha:a.length=1):Y.call 86 a l=some r:=
 Ag (Y:=Y) rfl Try.func86 (ha▸AA6) zH h
def ER(Lg:(List Int))(Bz:Int)(out1:List Int)(k:Int)(s:St):Prop:=s.v 3=D.own 3 (A9 (D.int .i64) out1)∧s.v 5=D.int .i64 k∧s.v 10=D.int .i64 (Lg.length:Int)∧s.v 11=D.int .i64 Bz
def FC(Lg:(List Int))(Bz:Int)(r:(List Int))(ex:Ex)(s:St):Prop:=ex= .exit 2∧s.v 3=D.own 3 (A9 (D.int .i64) r)∧s.v 10=D.int .i64 (Lg.length:Int)∧s.v 11=D.int .i64 Bz
theorem QL(Lg:(List Int))(Bz:Int){v:(List Int)×Int}{s:St}{r:(List Int)}(h:FV Lg Bz v=some r)(hM:ER Lg Bz v.1 v.2 s):D6 Y.env jB (FC Lg Bz r) s:=by
 unfold FV at h;refine CX (c:=WO) (fun v=>F9 Lg Bz v.1 v.2) (fun v s=>ER Lg Bz v.1 v.2 s) (FC Lg Bz) ?_ h hM;clear h hM s v r;intro v s o hM h;obtain⟨out1,k⟩:=v;dsimp only at h hM;unfold F9 at h;unfold ER at hM;obtain⟨m0,m1,m2,m3⟩:=hM;unfold WO;by_cases e3:0<k
 ·rw [if_pos e3]at h;obtain⟨e4,h⟩:=Bw h;obtain⟨e5,h⟩:=Bw h;by_cases e6:(out1.getD k.toNat default)<(out1.getD ((IntKind.i64.wrap (k-1)).toNat) default)
  ·rw [if_pos e6]at h;obtain⟨e7,h⟩:=Bw h
   obtain rfl:=Option.some.inj h
   simp (maxDischargeDepth:=9) only [↓AB,AC,Ah,↓reduceIte,Nat.reduceEqDiff,Nat.reduceLT,Nat.reduceLeDiff,Nat.reduceAdd,Nat.reduceMul,Nat.reduceMod,Nat.reduceDiv,Nat.reducePow,Nat.reduceSub,Nat.reduceBEq,Int.reduceLE,Int.reduceLT,Int.reduceEq,Int.reduceSub,Int.reduceAdd,Int.reduceToNat,Int.reduceNeg,m0,m1,m2,m3,e3,e4.1,e4.2,e5.1,e5.2,e6,e7.1,e7.2,ER,FC,DN,DR,DT]<;>(repeat' apply A7)<;>first|rfl|exact⟨_,rfl⟩|exact⟨_,_,rfl⟩|simp [A9,A8]
  ·rw [if_neg e6]at h
   obtain rfl:=Option.some.inj h
   simp (maxDischargeDepth:=9) only [↓AB,AC,Ah,↓reduceIte,Nat.reduceEqDiff,Nat.reduceLT,Nat.reduceLeDiff,Nat.reduceAdd,Nat.reduceMul,Nat.reduceMod,Nat.reduceDiv,Nat.reducePow,Nat.reduceSub,Nat.reduceBEq,Int.reduceLE,Int.reduceLT,Int.reduceEq,Int.reduceSub,Int.reduceAdd,Int.reduceToNat,Int.reduceNeg,m0,m1,m2,m3,e3,e4.1,e4.2,e5.1,e5.2,e6,ER,FC,DN,DR,DT]<;>(repeat' apply A7)<;>first|rfl|exact⟨_,rfl⟩|exact⟨_,_,rfl⟩|simp [A9,A8]
 ·rw [if_neg e3]at h
  obtain rfl:=Option.some.inj h
  simp (maxDischargeDepth:=9) only [↓AB,AC,Ah,↓reduceIte,Nat.reduceEqDiff,Nat.reduceLT,Nat.reduceLeDiff,Nat.reduceAdd,Nat.reduceMul,Nat.reduceMod,Nat.reduceDiv,Nat.reducePow,Nat.reduceSub,Nat.reduceBEq,Int.reduceLE,Int.reduceLT,Int.reduceEq,Int.reduceSub,Int.reduceAdd,Int.reduceToNat,Int.reduceNeg,m0,m1,m2,m3,e3,ER,FC,DN,DR,DT]<;>(repeat' apply A7)<;>first|rfl|exact⟨_,rfl⟩|exact⟨_,_,rfl⟩|simp [A9,A8]
def FD(Lg:(List Int))(out:List Int)(Bz:Int)(s:St):Prop:=s.v 3=D.own 3 (A9 (D.int .i64) out)∧s.v 10=D.int .i64 (Lg.length:Int)∧s.v 11=D.int .i64 Bz
def Gl(Lg:(List Int))(r:(List Int))(ex:Ex)(s:St):Prop:=ex= .exit 0∧s.v 3=D.own 3 (A9 (D.int .i64) r)
theorem QM(Lg:(List Int)){v:(List Int)×Int}{s:St}{r:(List Int)}(h:JR Lg v=some r)(hM:FD Lg v.1 v.2 s):D6 Y.env jC (Gl Lg r) s:=by
 unfold JR at h;refine CX (c:=WP) (fun v=>FB Lg v.1 v.2) (fun v s=>FD Lg v.1 v.2 s) (Gl Lg) ?_ h hM;clear h hM s v r;intro v s o hM h;obtain⟨out,Bz⟩:=v;dsimp only at h hM;unfold FB at h;unfold FD at hM;obtain⟨m0,m1,m2⟩:=hM;unfold WP;by_cases e2:Bz<(Lg.length:Int)
 ·rw [if_pos e2]at h;obtain⟨AO,hl4,h⟩:=BC h;try dsimp only at h
  simp (maxDischargeDepth:=9) only [↓AB,AC,Ah,↓reduceIte,Nat.reduceEqDiff,Nat.reduceLT,Nat.reduceLeDiff,Nat.reduceAdd,Nat.reduceMul,Nat.reduceMod,Nat.reduceDiv,Nat.reducePow,Nat.reduceSub,Nat.reduceBEq,Int.reduceLE,Int.reduceLT,Int.reduceEq,Int.reduceSub,Int.reduceAdd,Int.reduceToNat,Int.reduceNeg,m0,m1,m2,e2];refine Bh (QL Lg Bz hl4 ?_) ?_
  ·simp (maxDischargeDepth:=9) only [↓AB,AC,Ah,↓reduceIte,Nat.reduceEqDiff,Nat.reduceLT,Nat.reduceLeDiff,Nat.reduceAdd,Nat.reduceMul,Nat.reduceMod,Nat.reduceDiv,Nat.reducePow,Nat.reduceSub,Nat.reduceBEq,Int.reduceLE,Int.reduceLT,Int.reduceEq,Int.reduceSub,Int.reduceAdd,Int.reduceToNat,Int.reduceNeg,m0,m1,m2,e2,ER]<;>(repeat' apply A7)<;>first|rfl|exact⟨_,rfl⟩|exact⟨_,_,rfl⟩|simp [A9,A8]
  ·intro ex4 s4 hX4;unfold FC at hX4;obtain⟨rfl,n4_0,n4_1,n4_2⟩:=hX4
   obtain rfl:=Option.some.inj h
   simp (maxDischargeDepth:=9) only [↓AB,AC,Ah,↓reduceIte,Nat.reduceEqDiff,Nat.reduceLT,Nat.reduceLeDiff,Nat.reduceAdd,Nat.reduceMul,Nat.reduceMod,Nat.reduceDiv,Nat.reducePow,Nat.reduceSub,Nat.reduceBEq,Int.reduceLE,Int.reduceLT,Int.reduceEq,Int.reduceSub,Int.reduceAdd,Int.reduceToNat,Int.reduceNeg,e2,n4_0,n4_1,n4_2,FD,Gl,DN,DR,DT]<;>(repeat' apply A7)<;>first|rfl|exact⟨_,rfl⟩|exact⟨_,_,rfl⟩|simp [A9,A8]
 ·rw [if_neg e2]at h
  obtain rfl:=Option.some.inj h
  simp (maxDischargeDepth:=9) only [↓AB,AC,Ah,↓reduceIte,Nat.reduceEqDiff,Nat.reduceLT,Nat.reduceLeDiff,Nat.reduceAdd,Nat.reduceMul,Nat.reduceMod,Nat.reduceDiv,Nat.reducePow,Nat.reduceSub,Nat.reduceBEq,Int.reduceLE,Int.reduceLT,Int.reduceEq,Int.reduceSub,Int.reduceAdd,Int.reduceToNat,Int.reduceNeg,m0,m1,m2,e2,FD,Gl,DN,DR,DT]<;>(repeat' apply A7)<;>first|rfl|exact⟨_,rfl⟩|exact⟨_,_,rfl⟩|simp [A9,A8]
theorem R8(l:List Int){r:(List Int)}(h:M7 l=some r):Y.call 86 [D.sl 3 (A9 (D.int .i64) l)] []=some (D.own 3 (A9 (D.int .i64) r),[]):=by
 refine c86 ?_ rfl;unfold k86;unfold M7 at h;obtain⟨Lg,hl1,h⟩:=BC h;try dsimp only at h
 have c1:=GR l hl1;obtain⟨Dk,hl3,h⟩:=BC h;try dsimp only at h
 simp (maxDischargeDepth:=9) only [↓AB,AC,Ah,↓reduceIte,Nat.reduceEqDiff,Nat.reduceLT,Nat.reduceLeDiff,Nat.reduceAdd,Nat.reduceMul,Nat.reduceMod,Nat.reduceDiv,Nat.reducePow,Nat.reduceSub,Nat.reduceBEq,Int.reduceLE,Int.reduceLT,Int.reduceEq,Int.reduceSub,Int.reduceAdd,Int.reduceToNat,Int.reduceNeg,c1];refine Bh (QM Lg hl3 ?_) ?_
 ·simp (maxDischargeDepth:=9) only [↓AB,AC,Ah,↓reduceIte,Nat.reduceEqDiff,Nat.reduceLT,Nat.reduceLeDiff,Nat.reduceAdd,Nat.reduceMul,Nat.reduceMod,Nat.reduceDiv,Nat.reducePow,Nat.reduceSub,Nat.reduceBEq,Int.reduceLE,Int.reduceLT,Int.reduceEq,Int.reduceSub,Int.reduceAdd,Int.reduceToNat,Int.reduceNeg,c1,FD]<;>(repeat' apply A7)<;>first|rfl|exact⟨_,rfl⟩|exact⟨_,_,rfl⟩|simp [A9,A8]
 ·intro ex3 s3 hX3;unfold Gl at hX3;obtain⟨rfl,n3_0⟩:=hX3
  obtain rfl:=Option.some.inj h
  simp (maxDischargeDepth:=9) only [↓AB,AC,Ah,↓reduceIte,Nat.reduceEqDiff,Nat.reduceLT,Nat.reduceLeDiff,Nat.reduceAdd,Nat.reduceMul,Nat.reduceMod,Nat.reduceDiv,Nat.reducePow,Nat.reduceSub,Nat.reduceBEq,Int.reduceLE,Int.reduceLT,Int.reduceEq,Int.reduceSub,Int.reduceAdd,Int.reduceToNat,Int.reduceNeg,c1,n3_0]<;>(repeat' apply A7)<;>first|rfl|exact⟨_,rfl⟩|exact⟨_,_,rfl⟩|simp [A9,A8]
theorem TP(rr:List Int)(tt x:Int): ∀(r b:List Int),r.length<1099511627776→FV rr tt (r.reverse++x::b,(r.length:Int))=some ((PP x r).reverse++b):=by
 intro r
 induction r with
 |nil=>
  intro b _;unfold FV;rw [Dy (r:=x::b)]
  ·rfl
  ·simp only [F9];rw [if_neg (by simp)];rfl
 |cons y r ih=>
  intro b hl;simp only [Jn]at hl;have e0:(y::r).reverse++x::b=r.reverse++y::x::b:=by simp
  have el:(r.reverse++y::x::b).length=r.length+(b.length+2):=by simp
  have e1:(r.reverse++y::x::b).getD r.length default=y:=by rw [DU r.reverse (y::x::b) r.length (by simp) (by simp)];rfl
  have e2:(r.reverse++y::x::b).getD (r.length+1) default=x:=by
   rw [show r.reverse++y::x::b=(r.reverse++[y])++x::b by simp,DU (r.reverse++[y]) (x::b) (r.length+1) (by simp) (by simp)];rfl
  have t1:((r.length+1:Nat):Int).toNat=r.length+1:=by omega
  have t2:(((r.length+1:Nat):Int)-1).toNat=r.length:=by omega
  have s1:(r.reverse++y::x::b).set (r.length+1) y=r.reverse++y::y::b:=by
   rw [aj _ _ (by simp)];simp
  have s2:(r.reverse++y::y::b).set r.length x=r.reverse++x::y::b:=by
   rw [aj _ _ (by simp)];simp
  unfold PP;by_cases hq:x<y
  ·rw [if_pos hq];have:=ih (y::b) (by omega)
   unfold FV at this ⊢;rw [IX (s':=(r.reverse++x::y::b,(r.length:Int))),this]
   ·simp
   ·simp only [F9];rw [e0,Jn,if_pos (by omega),IK _ (by omega),CU (by rw [el];omega),CU (by rw [el];omega),t1,t2,e1,e2,if_pos hq,s1,CU (by rw [Jz,Jn,List.length_reverse];omega),s2]
    rw [show((r.length+1:Nat):Int)-1=(r.length:Int) by omega]
  ·rw [if_neg hq];unfold FV;rw [Dy (r:=r.reverse++y::x::b)]
   ·simp
   ·simp only [F9];rw [e0,Jn,if_pos (by omega),IK _ (by omega),CU (by rw [el];omega),CU (by rw [el];omega),t1,t2,e1,e2,if_neg hq]
theorem UO(l:List Int)(h:l.length<1099511627776):M7 l=some (Dp l):=by
 unfold M7 Gy JR;rw [CU (by omega),Ee]
 have key:=iH (fun v=>FB l v.1 v.2) (fun i r=>(r.reverse++l.drop i,(i:Int))) (fun i r=>r.length=i) l (fun r x=>PP x r) (fun r=>r.reverse) ?_ ?_ [] rfl
 ·have h1:=key.1;simp only [List.reverse_nil,LA,List.drop_zero,Jo]at h1;rw [h1];rfl
 ·intro i r hi hr
  refine⟨?_,by rw [jA,hr]⟩
  simp only [FB];rw [if_pos (GJ hi),ah hi];have:=TP l (i:Int) l[i] r (l.drop (i+1)) (by omega)
  rw [hr]at this;rw [this,Ee,Ny i (by omega)]
 ·intro r hr;simp only [FB];rw [if_neg (CY _)];simp
theorem UQ(l:List Int)(h0:l.length<1099511627776):Y.call 86 [D.sl 3 (A9 (D.int .i64) l)] []=some (D.own 3 (A9 (D.int .i64) (Dp l)),[]):=R8 l (UO l h0)
end Go.Proofs.Ytclkfhhdikfcpaa
