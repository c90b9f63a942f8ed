/- Configurations looked up by halving and one by one, as membership. Conditions: the lists are short and increasing. -/
import Derived.Test.YtclkfhhdikfcpaaL6
import Derived.Test.YtclkfhhdikfcpaaSrt
namespace Go.Proofs.Ytclkfhhdikfcpaa
open Go Dv
set_option linter.unusedSimpArgs false
set_option linter.unusedVariables false
set_option maxRecDepth 100000
set_option maxHeartbeats 4000000
theorem wrU(n:Int)(h:0≤n∧n<18446744073709551616):IntKind.u64.wrap n=n:=by
 unfold IntKind.wrap;simp only [IntKind.signed,IntKind.bits]
 simp
 omega
theorem Uy(x:Int): ∀r,(PP x r).Perm (x::r):=by
 intro r
 induction r with
 |nil=>exact List.Perm.refl _
 |cons y r ih=>
  unfold PP;split
  ·exact((List.perm_cons y).2 ih).trans (List.Perm.swap x y r)
  ·exact List.Perm.refl _
theorem dM(x:Int): ∀r,r.Pairwise (fun a b=>b≤a)→(PP x r).Pairwise (fun a b=>b≤a):=by
 intro r
 induction r with
 |nil=>intro _;simp [PP]
 |cons y r ih=>
  intro h;obtain⟨h1,h2⟩:=List.pairwise_cons.1 h;unfold PP;split
  ·rename_i hxy
   refine List.pairwise_cons.2 ⟨fun z hz=> ?_,ih h2⟩;rcases Pg.1 ((Uy x r).mem_iff.1 hz)with rfl|hz
   ·omega
   ·exact h1 z hz
  ·rename_i hxy
   refine List.pairwise_cons.2 ⟨fun z hz=> ?_,h⟩;rcases Pg.1 hz with rfl|hz
   ·omega
   ·have:=h1 z hz;omega
theorem Zp: ∀(l r:List Int),(l.foldl (fun r x=>PP x r) r).Perm (l++r):=by
 intro l
 induction l with
 |nil=>intro r;exact List.Perm.refl _
 |cons x l ih=>
  intro r;simp only [Tp]
  exact(ih _).trans (((List.Perm.refl l).append (Uy x r)).trans List.perm_middle)
theorem Zq: ∀(l r:List Int),r.Pairwise (fun a b=>b≤a)→(l.foldl (fun r x=>PP x r) r).Pairwise (fun a b=>b≤a):=by
 intro l
 induction l with
 |nil=>intro r h;exact h
 |cons x l ih=>intro r h;exact ih _ (dM x r h)
theorem KI(l:List Int):(Dp l).Perm l:=by
 unfold Dp;have:=Zp l []
 rw [O9]at this
 exact(List.reverse_perm _).trans this
theorem OM(l:List Int):(Dp l).Pairwise (fun a b=>a≤b):=by
 unfold Dp;exact List.pairwise_reverse.2 (Zq l [] List.Pairwise.nil)
theorem jD(l:List Int):Iz l=Dp l:=by
 refine List.Perm.eq_of_pairwise (le:=fun a b:Int=>a≤b) (fun a b _ _ h1 h2=>Int.le_antisymm h1 h2) ?_ (OM l) ((List.mergeSort_perm _ _).trans (KI l).symm);have:=List.pairwise_mergeSort (le:=fun x y:Int=>decide (x≤y)) (fun a b c h1 h2=>by simp only [decide_eq_true_eq]at*;omega) (fun a b=>by simp only [OT,decide_eq_true_eq];omega) l
 unfold Iz;exact this.imp (fun h=>by simpa using h)
theorem dN(l:List Int):(Dp l).length=l.length:=(KI l).length_eq
theorem QN: ∀a:List Int,FZ a a=0:=by
 intro a
 induction a with
 |nil=>rfl
 |cons x a ih=>unfold FZ;rw [if_pos rfl,ih]
theorem mK: ∀(a b:List Int),FZ a b=0→a=b:=by
 intro a
 induction a with
 |nil=>intro b h;cases b with
  |nil=>rfl
  |cons y b=>simp [FZ]at h
 |cons x a ih=>intro b h;cases b with
  |nil=>simp [FZ]at h
  |cons y b=>
   unfold FZ at h
   split at h
   ·rename_i e;rw [e,ih b h]
   ·split at h<;>simp at h
theorem OO: ∀(a b c:List Int),FZ a b<0→FZ b c<0→FZ a c<0:=by
 intro a
 induction a with
 |nil=>intro b c h1 h2;cases c with
  |nil=>cases b with
   |nil=>simp [FZ]at h1
   |cons y b=>simp [FZ]at h2
  |cons z c=>simp [FZ]
 |cons x a ih=>intro b c h1 h2;cases b with
  |nil=>simp [FZ]at h1
  |cons y b=>cases c with
   |nil=>simp [FZ]at h2
   |cons z c=>
    unfold FZ at h1 h2 ⊢;by_cases e1:x=y
    ·subst e1;rw [if_pos rfl]at h1;by_cases e2:x=z
     ·subst e2;rw [if_pos rfl]at h2 ⊢;exact ih b c h1 h2
     ·rw [if_neg e2]at h2 ⊢;exact h2
    ·rw [if_neg e1]at h1
     have l1:x<y:=by
      by_cases hl:x<y
      ·exact hl
      ·rw [if_neg hl]at h1;omega
     by_cases e2:y=z
     ·subst e2;rw [if_neg e1,if_pos l1];decide
     ·rw [if_neg e2]at h2
      have l2:y<z:=by
       by_cases hl:y<z
       ·exact hl
       ·rw [if_neg hl]at h2;omega
      rw [if_neg (by omega),if_pos (by omega)];decide
def UR(l:List (List Int)):Bool:=(List.range l.length).all fun i=>decide (i=0)||decide (FZ (l.getD (i-1) default) (l.getD i default)<0)
theorem mM{l:List (List Int)}(h:UR l=true): ∀(d i:Nat),i+d+1<l.length→FZ (l.getD i default) (l.getD (i+d+1) default)<0:=by
 have step: ∀i,i+1<l.length→FZ (l.getD i default) (l.getD (i+1) default)<0:=fun i hi=>by
  have:=F5.1 h (i+1) hi
  simpa using this
 intro d
 induction d with
 |zero=>intro i hi;exact step i hi
 |succ d ih=>
  intro i hi;exact OO _ _ _ (ih i (by omega)) (step (i+d+1) (by omega))
theorem TQ{l:List (List Int)}(h:UR l=true){i j:Nat}(hij:i<j)(hj:j<l.length):FZ (l.getD i default) (l.getD j default)<0:=by
 have:=mM h (j-i-1) i (by omega)
 rwa [show i+(j-i-1)+1=j by omega]at this
theorem Uz{l:List (List Int)}{s n:Int}(h:Hd l s n=true):UR l=true:=by
 refine F5.2 fun i hi=> ?_;have:=F5.1 h i hi
 unfold Kt at this;rw [Hm]at this;exact this.2
theorem TR{l:List (List Int)}{x:List Int}:x∈l↔ ∃k,k<l.length∧l.getD k default=x:=by
 constructor
 ·intro h;obtain⟨k,hk,e⟩:=RV h
  exact⟨k,hk,by rw [JL,IC hk];exact e⟩
 ·rintro⟨k,hk,rfl⟩
  rw [JL,IC hk];exact Ij hk
noncomputable def Dz(s_:List Int):Option ((List Int)):= some s_
def zI:SC:= .seq (.ops [oX 1 (.box 26 (tK 0)) 0,oX 2 (.assign (.const .nilFunc)) 132]) (.seq (.ops [oX 3 (.makeFunc (Fn.func 155) #[] #[(tK 1)]) 131,oA 2 3 132]) .ret)
theorem mO:Try.f116.body.map (Ct lends)=some zI:=by kernel_rfl
theorem A5p:DL Try.f116 1=true:=by kernel_rfl
theorem AA7{a l:List D}{r:D×List D}(h:D6 Y.env zI (I6 Aa l.length [ResultVar.tmp 2] r) (entry a l))(ha:a.length=1):Y.call 116 a l=some r:=
 Ag (Y:=Y) rfl Try.func116 (ha▸A5p) mO h
theorem Jb(s_:List Int){r:(List Int)}(h:Dz s_=some r):Y.call 116 [D.sl 3 (A9 (D.int .i64) s_)] []=some (D.clo 155 [D.cptr [D.sl 3 (A9 (D.int .i64) r)]],[]):=by
 refine AA7 ?_ rfl;unfold zI;unfold Dz at h
 obtain rfl:=Option.some.inj h
 simp (maxDischargeDepth:=9) only [↓AB,AC,Ah,↓reduceIte,Nat.reduceEqDiff,Nat.reduceLT,Nat.reduceLeDiff,Nat.reduceAdd,Nat.reduceMul,Nat.reduceMod,Nat.reduceDiv,Nat.reducePow,Nat.reduceSub,Nat.reduceBEq,Int.reduceLE,Int.reduceLT,Int.reduceEq,Int.reduceSub,Int.reduceAdd,Int.reduceToNat,Int.reduceNeg]<;>(repeat' apply A7)<;>first|rfl|exact⟨_,rfl⟩|exact⟨_,_,rfl⟩|simp [A9,A8]
noncomputable def BB(x_:List (List Int))(target:List Int)(cmp:(List Int)→(List Int)→Option Int)(i:Int)(j:Int):Option ((Int×Int)⊕(Int)):= if i<j then ck (0≤IntKind.i64.wrap ((IntKind.u64.wrap (IntKind.i64.wrap (i+j))).fdiv (2 ^ (min 1 (IntKind.u64.bits))))∧(IntKind.i64.wrap ((IntKind.u64.wrap (IntKind.i64.wrap (i+j))).fdiv (2 ^ (min 1 (IntKind.u64.bits))))).toNat<x_.length)<| (cmp (x_.getD ((IntKind.i64.wrap ((IntKind.u64.wrap (IntKind.i64.wrap (i+j))).fdiv (2 ^ (min 1 (IntKind.u64.bits))))).toNat) default) target).bind fun zJ=> if zJ<0 then some (Sum.inl (IntKind.i64.wrap ((IntKind.i64.wrap ((IntKind.u64.wrap (IntKind.i64.wrap (i+j))).fdiv (2 ^ (min 1 (IntKind.u64.bits)))))+1),j)) else some (Sum.inl (i,IntKind.i64.wrap ((IntKind.u64.wrap (IntKind.i64.wrap (i+j))).fdiv (2 ^ (min 1 (IntKind.u64.bits)))))) else some (Sum.inr i)
noncomputable def Bf(x_:List (List Int))(target:List Int)(cmp:(List Int)→(List Int)→Option Int)(v:Int×Int):Option (Int):=Iw (fun v=>BB x_ target cmp v.1 v.2) v
noncomputable def BO(x_:List (List Int))(target:List Int)(cmp:(List Int)→(List Int)→Option Int):Option (Int×Bool):= (Bf x_ target cmp (0,(x_.length:Int))).bind fun AO=> if AO<(x_.length:Int)then ck (0≤AO∧AO.toNat<x_.length)<| (cmp (x_.getD AO.toNat default) target).bind fun WQ=> some (AO,(decide (WQ=0))) else some (AO,false)
def TS:SC:= .seq (.seq (.ops [oM 15 9 3,oM 16 10 3,oB 17 .lss 3 (tK 15) (tK 16) 3 4]) (.cond (tK 17) .skip (.exit 0))) (.block 1 (.seq (.ops [oM 18 9 3,oM 19 10 3,oB 20 .add 3 (tK 18) (tK 19) 3 3,oX 21 (.convert 3 110 (tK 20)) 110,oB 22 .shr 110 (tK 21) (.const (.int .u64 1)) 110 110,oX 23 (.convert 110 3 (tK 22)) 3,oA 11 23 3]) (.seq (.ops [oM 24 2 148,oM 25 0 22,oM 26 11 3,oI 27 22 25 26,oL 28 26 27 26,oM 29 1 26,oX 30 (.call ⟨(.value (tK 24)), #[(tK 28),(tK 29)], #[26,26]⟩) 3,oB 31 .lss 3 (tK 30) (iK 0) 3 4]) (.cond (tK 31) (.ops [oM 32 11 3,oB 33 .add 3 (tK 32) (iK 1) 3 3,oA 9 33 3]) (.ops [oM 34 11 3,oA 10 34 3])))))
def aX:SC:= .loop TS
def zK:SC:= .seq (.ops [oX 6 (.assign (iK 0)) 3,oX 7 (.assign (.const (.bool false))) 4]) (.seq (.ops [oM 12 0 22,oN 13 12 22,oA 8 13 3]) (.seq (.ops [oM 14 8 3,oX 9 (.assign (iK 0)) 3,oA 10 14 3]) (.seq (.block 0 aX) (.seq (.ops [oM 35 9 3,oM 36 9 3,oM 37 8 3,oB 38 .lss 3 (tK 36) (tK 37) 3 4,oM 39 38 4,⟨(some 40),(.move (tK 2)),148,(some (some 39,true))⟩,⟨(some 41),(.move (tK 0)),22,(some (some 39,true))⟩,⟨(some 42),(.move (tK 9)),3,(some (some 39,true))⟩,⟨(some 43),(.indexAddr 22 (tK 41) (tK 42)),0,(some (some 39,true))⟩,⟨(some 44),(.load 26 (tK 43)),26,(some (some 39,true))⟩,⟨(some 45),(.move (tK 1)),26,(some (some 39,true))⟩,⟨(some 46),(.call ⟨(.value (tK 40)), #[(tK 44),(tK 45)], #[26,26]⟩),3,(some (some 39,true))⟩,⟨(some 47),(.binOp .eql 3 (tK 46) (iK 0) 3),4,(some (some 39,true))⟩,oX 48 (.pick (tK 39) (tK 47) (.const (.bool false))) 4,oA 6 35 3,oA 7 48 4]) .ret))))
theorem mP:Try.f164.body.map (Ct lends)=some zK:=by kernel_rfl
theorem A5q:DL Try.f164 3=true:=by kernel_rfl
theorem AA8{a l:List D}{r:D×List D}(h:D6 Y.env zK (I6 Aa l.length [ResultVar.tmp 6,ResultVar.tmp 7] r) (entry a l))(ha:a.length=3):Y.call 164 a l=some r:=
 Ag (Y:=Y) rfl Try.func164 (ha▸A5q) mP h
def Ai(x_:List (List Int))(target:List Int)(cmp:(List Int)→(List Int)→Option Int)(cmp_f:FuncId)(cmp_c:List D)(i:Int)(j:Int)(s:St):Prop:=s.v 0=D.sl 26 (A9 (fun x=>D.sl 3 (A9 (D.int .i64) x)) x_)∧s.v 1=D.sl 3 (A9 (D.int .i64) target)∧s.v 2=D.clo cmp_f cmp_c∧s.v 8=D.int .i64 (x_.length:Int)∧s.v 9=D.int .i64 i∧s.v 10=D.int .i64 j
def Ar(x_:List (List Int))(target:List Int)(cmp:(List Int)→(List Int)→Option Int)(cmp_f:FuncId)(cmp_c:List D)(r:Int)(ex:Ex)(s:St):Prop:=ex= .exit 0∧s.v 0=D.sl 26 (A9 (fun x=>D.sl 3 (A9 (D.int .i64) x)) x_)∧s.v 1=D.sl 3 (A9 (D.int .i64) target)∧s.v 2=D.clo cmp_f cmp_c∧s.v 8=D.int .i64 (x_.length:Int)∧s.v 9=D.int .i64 r
theorem FM(x_:List (List Int))(target:List Int)(cmp:(List Int)→(List Int)→Option Int)(cmp_f:FuncId)(cmp_c:List D)(cmp_h: ∀(a0:List Int) (a1:List Int) (r:Int),cmp a0 a1=some r→Y.call cmp_f (D.sl 3 (A9 (D.int .i64) a0)::D.sl 3 (A9 (D.int .i64) a1)::cmp_c) []=some (D.int .i64 r,[]))(cmp_l:lends cmp_f=false){v:Int×Int}{s:St}{r:Int}(h:Bf x_ target cmp v=some r)(hM:Ai x_ target cmp cmp_f cmp_c v.1 v.2 s):D6 Y.env aX (Ar x_ target cmp cmp_f cmp_c r) s:=by
 unfold Bf at h;refine CX (c:=TS) (fun v=>BB x_ target cmp v.1 v.2) (fun v s=>Ai x_ target cmp cmp_f cmp_c v.1 v.2 s) (Ar x_ target cmp cmp_f cmp_c) ?_ h hM;clear h hM s v r;intro v s o hM h;obtain⟨i,j⟩:=v;dsimp only at h hM;unfold BB at h;unfold Ai at hM;obtain⟨m0,m1,m2,m3,m4,m5⟩:=hM;unfold TS;by_cases e1:i<j
 ·rw [if_pos e1]at h;obtain⟨e2,h⟩:=Bw h;obtain⟨zJ,hl3,h⟩:=BC h;try dsimp only at h
  have c3:=cmp_h _ _ _ hl3;by_cases e4:zJ<0
  ·rw [if_pos e4]at h
   obtain rfl:=Option.some.inj h
   simp (maxDischargeDepth:=9) only [↓AB,AC,Ah,↓reduceIte,Nat.reduceEqDiff,Nat.reduceLT,Nat.reduceLeDiff,Nat.reduceAdd,Nat.reduceMul,Nat.reduceMod,Nat.reduceDiv,Nat.reducePow,Nat.reduceSub,Nat.reduceBEq,Int.reduceLE,Int.reduceLT,Int.reduceEq,Int.reduceSub,Int.reduceAdd,Int.reduceToNat,Int.reduceNeg,m0,m1,m2,m3,m4,m5,cmp_l,e1,e2.1,e2.2,c3,e4,Ai,Ar,DN,DR,DT]<;>(repeat' apply A7)<;>first|rfl|exact⟨_,rfl⟩|exact⟨_,_,rfl⟩|simp [A9,A8]
  ·rw [if_neg e4]at h
   obtain rfl:=Option.some.inj h
   simp (maxDischargeDepth:=9) only [↓AB,AC,Ah,↓reduceIte,Nat.reduceEqDiff,Nat.reduceLT,Nat.reduceLeDiff,Nat.reduceAdd,Nat.reduceMul,Nat.reduceMod,Nat.reduceDiv,Nat.reducePow,Nat.reduceSub,Nat.reduceBEq,Int.reduceLE,Int.reduceLT,Int.reduceEq,Int.reduceSub,Int.reduceAdd,Int.reduceToNat,Int.reduceNeg,m0,m1,m2,m3,m4,m5,cmp_l,e1,e2.1,e2.2,c3,e4,Ai,Ar,DN,DR,DT]<;>(repeat' apply A7)<;>first|rfl|exact⟨_,rfl⟩|exact⟨_,_,rfl⟩|simp [A9,A8]
 ·rw [if_neg e1]at h
  obtain rfl:=Option.some.inj h
  simp (maxDischargeDepth:=9) only [↓AB,AC,Ah,↓reduceIte,Nat.reduceEqDiff,Nat.reduceLT,Nat.reduceLeDiff,Nat.reduceAdd,Nat.reduceMul,Nat.reduceMod,Nat.reduceDiv,Nat.reducePow,Nat.reduceSub,Nat.reduceBEq,Int.reduceLE,Int.reduceLT,Int.reduceEq,Int.reduceSub,Int.reduceAdd,Int.reduceToNat,Int.reduceNeg,m0,m1,m2,m3,m4,m5,cmp_l,e1,Ai,Ar,DN,DR,DT]<;>(repeat' apply A7)<;>first|rfl|exact⟨_,rfl⟩|exact⟨_,_,rfl⟩|simp [A9,A8]
theorem FW(x_:List (List Int))(target:List Int)(cmp:(List Int)→(List Int)→Option Int)(cmp_f:FuncId)(cmp_c:List D)(cmp_h: ∀(a0:List Int) (a1:List Int) (r:Int),cmp a0 a1=some r→Y.call cmp_f (D.sl 3 (A9 (D.int .i64) a0)::D.sl 3 (A9 (D.int .i64) a1)::cmp_c) []=some (D.int .i64 r,[]))(cmp_l:lends cmp_f=false){r:Int×Bool}(h:BO x_ target cmp=some r):Y.call 164 [D.sl 26 (A9 (fun x=>D.sl 3 (A9 (D.int .i64) x)) x_),D.sl 3 (A9 (D.int .i64) target),D.clo cmp_f cmp_c] []=some (D.tup [D.int .i64 r.1,D.bool r.2],[]):=by
 refine AA8 ?_ rfl;unfold zK;unfold BO at h;obtain⟨AO,hl2,h⟩:=BC h;try dsimp only at h
 simp (maxDischargeDepth:=9) only [↓AB,AC,Ah,↓reduceIte,Nat.reduceEqDiff,Nat.reduceLT,Nat.reduceLeDiff,Nat.reduceAdd,Nat.reduceMul,Nat.reduceMod,Nat.reduceDiv,Nat.reducePow,Nat.reduceSub,Nat.reduceBEq,Int.reduceLE,Int.reduceLT,Int.reduceEq,Int.reduceSub,Int.reduceAdd,Int.reduceToNat,Int.reduceNeg,cmp_l];refine Bh (FM x_ target cmp cmp_f cmp_c cmp_h cmp_l hl2 ?_) ?_
 ·simp (maxDischargeDepth:=9) only [↓AB,AC,Ah,↓reduceIte,Nat.reduceEqDiff,Nat.reduceLT,Nat.reduceLeDiff,Nat.reduceAdd,Nat.reduceMul,Nat.reduceMod,Nat.reduceDiv,Nat.reducePow,Nat.reduceSub,Nat.reduceBEq,Int.reduceLE,Int.reduceLT,Int.reduceEq,Int.reduceSub,Int.reduceAdd,Int.reduceToNat,Int.reduceNeg,cmp_l,Ai]<;>(repeat' apply A7)<;>first|rfl|exact⟨_,rfl⟩|exact⟨_,_,rfl⟩|simp [A9,A8]
 ·intro ex2 s2 hX2;unfold Ar at hX2;obtain⟨rfl,n2_0,n2_1,n2_2,n2_3,n2_4⟩:=hX2;by_cases e3:AO<(x_.length:Int)
  ·rw [if_pos e3]at h;obtain⟨e4,h⟩:=Bw h;obtain⟨WQ,hl5,h⟩:=BC h;try dsimp only at h
   have c5:=cmp_h _ _ _ hl5
   obtain rfl:=Option.some.inj h
   simp (maxDischargeDepth:=9) only [↓AB,AC,Ah,↓reduceIte,Nat.reduceEqDiff,Nat.reduceLT,Nat.reduceLeDiff,Nat.reduceAdd,Nat.reduceMul,Nat.reduceMod,Nat.reduceDiv,Nat.reducePow,Nat.reduceSub,Nat.reduceBEq,Int.reduceLE,Int.reduceLT,Int.reduceEq,Int.reduceSub,Int.reduceAdd,Int.reduceToNat,Int.reduceNeg,cmp_l,n2_0,n2_1,n2_2,n2_3,n2_4,e3,e4.1,e4.2,c5]<;>(repeat' apply A7)<;>first|rfl|exact⟨_,rfl⟩|exact⟨_,_,rfl⟩|simp [A9,A8]
  ·rw [if_neg e3]at h
   obtain rfl:=Option.some.inj h
   simp (maxDischargeDepth:=9) only [↓AB,AC,Ah,↓reduceIte,Nat.reduceEqDiff,Nat.reduceLT,Nat.reduceLeDiff,Nat.reduceAdd,Nat.reduceMul,Nat.reduceMod,Nat.reduceDiv,Nat.reducePow,Nat.reduceSub,Nat.reduceBEq,Int.reduceLE,Int.reduceLT,Int.reduceEq,Int.reduceSub,Int.reduceAdd,Int.reduceToNat,Int.reduceNeg,cmp_l,n2_0,n2_1,n2_2,n2_3,n2_4,e3]<;>(repeat' apply A7)<;>first|rfl|exact⟨_,rfl⟩|exact⟨_,_,rfl⟩|simp [A9,A8]
noncomputable def GU(list:List (List Int))(labels:List Int):Option (Bool):= (Dz labels).bind fun QI=> ck (QI.length<1099511627776)<| (BO list (Iz QI) (fun a0 a1=>Bl a0 a1)).bind fun A5r=> some A5r.2
def zL:SC:= .seq (.ops [oX 4 (.assign (.const (.bool false))) 4]) (.seq (.ops [oM 8 0 22,oM 9 1 26,oC 10 116 [(tK 9)] [26] 132,oC 11 115 [(tK 10)] [132] 26,oC 12 164 [(tK 8),(tK 11),(.func 145)] [22,26,148] 51,oM 7 12 51,oE 13 7 0 3,oE 14 7 1 4,oA 5 13 3,oA 6 14 4]) (.seq (.ops [oM 15 6 4,oA 4 15 4]) .ret))
theorem mQ:Try.f137.body.map (Ct lends)=some zL:=by kernel_rfl
theorem A5s:DL Try.f137 2=true:=by kernel_rfl
theorem AA9{a l:List D}{r:D×List D}(h:D6 Y.env zL (I6 Aa l.length [ResultVar.tmp 4] r) (entry a l))(ha:a.length=2):Y.call 137 a l=some r:=
 Ag (Y:=Y) rfl Try.func137 (ha▸A5s) mQ h
theorem LZ(list:List (List Int))(labels:List Int){r:Bool}(h:GU list labels=some r):Y.call 137 [D.sl 26 (A9 (fun x=>D.sl 3 (A9 (D.int .i64) x)) list),D.sl 3 (A9 (D.int .i64) labels)] []=some (D.bool r,[]):=by
 refine AA9 ?_ rfl;unfold zL;unfold GU at h;obtain⟨QI,hl1,h⟩:=BC h;try dsimp only at h
 have c1:=Jb labels hl1;obtain⟨e2,h⟩:=Bw h;have c3:=Zl QI e2;obtain⟨A5r,hl4,h⟩:=BC h;try dsimp only at h
 have c4:=FW list (Iz QI) (fun a0 a1=>Bl a0 a1) 145 [] (fun a0 a1 _ hh=>Fz a0 a1 hh) iU hl4
 obtain rfl:=Option.some.inj h
 simp (maxDischargeDepth:=9) only [↓AB,AC,Ah,↓reduceIte,Nat.reduceEqDiff,Nat.reduceLT,Nat.reduceLeDiff,Nat.reduceAdd,Nat.reduceMul,Nat.reduceMod,Nat.reduceDiv,Nat.reducePow,Nat.reduceSub,Nat.reduceBEq,Int.reduceLE,Int.reduceLT,Int.reduceEq,Int.reduceSub,Int.reduceAdd,Int.reduceToNat,Int.reduceNeg,c1,e2,c3,c4]<;>(repeat' apply A7)<;>first|rfl|exact⟨_,rfl⟩|exact⟨_,_,rfl⟩|simp [A9,A8]
theorem dO(l:List (List Int))(x:List Int)(f:List Int→List Int→Option Int)(hl:l.length<1099511627776)(hf: ∀i,i<l.length→f (l.getD i default) x=some (FZ (l.getD i default) x))(h:UR l=true):
  ∃r,BO l x f=some (r,l.contains x):=by
 have key:=Nc (fun v=>BB l x f v.1 v.2)
  (fun m v=> ∃i j:Nat,v=((i:Int),(j:Int))∧i≤j∧j≤l.length∧m=j-i∧(∀k,k<i→FZ (l.getD k default) x<0)∧(∀k,j≤k→k<l.length→ ¬FZ (l.getD k default) x<0))
  (fun r=> ∃i:Nat,r=(i:Int)∧i≤l.length∧(∀k,k<i→FZ (l.getD k default) x<0)∧(∀k,i≤k→k<l.length→ ¬FZ (l.getD k default) x<0)) ?_ l.length (0,(l.length:Int)) ⟨0,l.length,rfl,Nat.zero_le _,I7 _,by omega,fun k hk=>by omega,fun k h1 h2=>by omega⟩
 ·obtain⟨r,h1,i,rfl,hi,h2,h3⟩:=key;unfold BO Bf;rw [h1,Ee];by_cases hlt:i<l.length
  ·rw [if_pos (by omega),CU (by omega),KP,hf i hlt,Ee]
   refine⟨(i:Int), ?_⟩
   congr 2
   rw [Bool.eq_iff_iff,decide_eq_true_eq,RU,TR]
   constructor
   ·intro e;exact⟨i,hlt,mK _ _ e⟩
   ·rintro⟨k,hk,rfl⟩
    have k1: ¬k<i:=fun hki=>by have:=h2 k hki;rw [QN]at this;omega
    have k2: ¬i<k:=fun hik=>h3 i (I7 _) hlt (TQ h hik hk);have:k=i:=by omega
    subst this;exact QN _
  ·rw [if_neg (by omega)]
   refine⟨(i:Int), ?_⟩
   congr 2
   symm
   rw [Gm];intro hc;obtain⟨k,hk,rfl⟩:=TR.1 (RU.1 hc);have:=h2 k (by omega)
   rw [QN]at this;omega
 ·rintro m v ⟨i,j,rfl,hij,hj,rfl,h2,h3⟩
  simp only [BB];by_cases hlt:i<j
  ·have e1:(2:Int) ^ (min 1 (IntKind.u64.bits))=2:=by decide
   have e2:(((i:Int)+(j:Int)).fdiv 2)=(((i+j) / 2:Nat):Int):=by
    rw [Int.fdiv_eq_ediv_of_nonneg _ (by omega)];omega
   rw [if_pos (by omega),IK ((i:Int)+j) (by omega),wrU _ (by omega),e1,e2,IK _ (by omega),CU (by omega),KP,hf _ (by omega),Ee]
   left
   by_cases hc:FZ (l.getD ((i+j) / 2) default) x<0
   ·rw [if_pos hc,IK _ (by omega)]
    refine⟨_,j-((i+j) / 2+1),rfl,by omega,(i+j) / 2+1,j,rfl,by omega,hj,rfl,fun k hk=> ?_,h3⟩
    by_cases e:k=(i+j) / 2
    ·rw [e];exact hc
    ·exact OO _ _ _ (TQ h (by omega:k<(i+j) / 2) (by omega)) hc
   ·rw [if_neg hc]
    refine⟨_,(i+j) / 2-i,rfl,by omega,i,(i+j) / 2,rfl,by omega,by omega,rfl,h2,fun k hk1 hk2 hck=> ?_⟩
    by_cases e:k=(i+j) / 2
    ·rw [e]at hck;exact hc hck
    ·exact hc (OO _ _ _ (TQ h (by omega:(i+j) / 2<k) hk2) hck)
  ·rw [if_neg (by omega)]
   right
   have:i=j:=by omega
   subst this
   exact⟨_,rfl,i,rfl,hj,h2,h3⟩
theorem MV(l:List (List Int))(x:List Int)(hl:BM l)(hx:x.length<1099511627776)(h:UR l=true):GU l x=some (l.contains (Dp x)):=by
 unfold GU Dz;rw [Ee,CU hx,jD];obtain⟨r,e⟩:=dO l (Dp x) (fun a0 a1=>Bl a0 a1) hl.1 (fun i hi=>Gj _ _ (hl.getD i) (by rw [dN];exact hx)) h
 rw [e];rfl
theorem MW(list:List (List Int))(labels:List Int)(h0:BM list)(h1:labels.length<1099511627776)(h2:UR list=true):Y.call 137 [D.sl 26 (A9 (fun x=>D.sl 3 (A9 (D.int .i64) x)) list),D.sl 3 (A9 (D.int .i64) labels)] []=some (D.bool (list.contains (Dp labels)),[]):=LZ list labels (MV list labels h0 h1 h2)
noncomputable def Gu(a:List Int)(b:List Int)(IV:Int):Option ((Int)⊕(Unit⊕Unit)):= if IV<(a.length:Int)then ck (0≤IV∧IV.toNat<a.length)<| ck (0≤IV∧IV.toNat<b.length)<| if(a.getD IV.toNat default)=(b.getD IV.toNat default)then some (Sum.inl (IntKind.i64.wrap (IV+1))) else some (Sum.inr (Sum.inl ())) else some (Sum.inr (Sum.inr ()))
noncomputable def Km(a:List Int)(b:List Int)(v:Int):Option (Unit⊕Unit):=Iw (fun v=>Gu a b v) v
noncomputable def NM(a:List Int)(b:List Int):Option (Bool):=
 if(a.length:Int)=(b.length:Int)then
  (Km a b 0).bind fun AO=>
  match AO with
  | .inl q1000_=>
   some false
  | .inr q1000_=>
   some true
 else
  some false
def TT:SC:= .seq (.ops [oB 14 .lss 3 (tK 13) (tK 12) 3 0]) (.seq (.cond (tK 14) .skip (.exit 0)) (.seq (.block 1 (.seq (.ops [oM 15 13 3,oA 5 15 3]) (.seq (.draws [(⟨[16,0,0],[16,17,18,19,20,21,22,23,24],[16]⟩,oM 16 0 26),(⟨[17,5,5],[16,17,18,19,20,21,22,23,24],[17]⟩,oM 17 5 3),(⟨[18,16,17,0,5],[16,17,18,19,20,21,22,23,24],[18]⟩,oI 18 26 16 17),(⟨[19,18,0],[16,17,18,19,20,21,22,23,24],[19]⟩,oL 19 3 18 3),(⟨[20,1,1],[16,17,18,19,20,21,22,23,24],[20]⟩,oM 20 1 26),(⟨[21,5,5],[16,17,18,19,20,21,22,23,24],[21]⟩,oM 21 5 3),(⟨[22,20,21,1,5],[16,17,18,19,20,21,22,23,24],[22]⟩,oI 22 26 20 21),(⟨[23,22,1],[16,17,18,19,20,21,22,23,24],[23]⟩,oL 23 3 22 3),(⟨[24,19,23,0,1],[16,17,18,19,20,21,22,23,24],[24]⟩,oB 24 .neq 3 (tK 19) (tK 23) 3 4)]) (.cond (tK 24) (.seq (.ops [oX 4 (.assign (.const (.bool false))) 4]) .ret) .skip)))) (.ops [oB 25 .add 3 (tK 13) (iK 1) 3 3,oM 13 25 3])))
def aY:SC:= .loop TT
def zM:SC:= .seq (.ops [oX 4 (.assign (.const (.bool false))) 4]) (.seq (.seq (.ops [oM 6 0 26,oN 7 6 26,oM 8 1 26,oN 9 8 26,oB 10 .neq 3 (tK 7) (tK 9) 3 4]) (.cond (tK 10) (.seq (.ops [oX 4 (.assign (.const (.bool false))) 4]) .ret) .skip)) (.seq (.seq (.ops [oM 11 0 26,oN 12 11 26,oX 13 (.move (iK 0)) 3]) (.block 0 aY)) (.seq (.ops [oX 4 (.assign (.const (.bool true))) 4]) .ret)))
theorem mR:Try.f135.body.map (Ct lends)=some zM:=by kernel_rfl
theorem A5t:DL Try.f135 2=true:=by kernel_rfl
theorem AAA{a l:List D}{r:D×List D}(h:D6 Y.env zM (I6 Aa l.length [ResultVar.tmp 4] r) (entry a l))(ha:a.length=2):Y.call 135 a l=some r:=
 Ag (Y:=Y) rfl Try.func135 (ha▸A5t) mR h
def FX(a:List Int)(b:List Int)(IV:Int)(s:St):Prop:=s.v 0=D.sl 3 (A9 (D.int .i64) a)∧s.v 1=D.sl 3 (A9 (D.int .i64) b)∧s.v 12=D.int .i64 (a.length:Int)∧s.v 13=D.int .i64 IV
def FY(a:List Int)(b:List Int)(r:Unit⊕Unit)(ex:Ex)(s:St):Prop:=match r with
 | .inl q=>ex= .ret∧s.v 4=D.bool false
 | .inr q=>ex= .exit 0
theorem TU(a:List Int)(b:List Int){v:Int}{s:St}{r:Unit⊕Unit}(h:Km a b v=some r)(hM:FX a b v s):D6 Y.env aY (FY a b r) s:=by
 unfold Km at h;refine CX (c:=TT) (fun v=>Gu a b v) (fun v s=>FX a b v s) (FY a b) ?_ h hM;clear h hM s v r;intro IV s o hM h;unfold Gu at h;unfold FX at hM;obtain⟨m0,m1,m2,m3⟩:=hM;unfold TT;by_cases e2:IV<(a.length:Int)
 ·rw [if_pos e2]at h;obtain⟨e3,h⟩:=Bw h;obtain⟨e4,h⟩:=Bw h;by_cases e5:(a.getD IV.toNat default)=(b.getD IV.toNat default)
  ·rw [if_pos e5]at h
   obtain rfl:=Option.some.inj h
   simp (maxDischargeDepth:=9) only [↓AB,AC,Ah,↓reduceIte,Nat.reduceEqDiff,Nat.reduceLT,Nat.reduceLeDiff,Nat.reduceAdd,Nat.reduceMul,Nat.reduceMod,Nat.reduceDiv,Nat.reducePow,Nat.reduceSub,Nat.reduceBEq,Int.reduceLE,Int.reduceLT,Int.reduceEq,Int.reduceSub,Int.reduceAdd,Int.reduceToNat,Int.reduceNeg,m0,m1,m2,m3,e2,e3.1,e3.2,e4.1,e4.2,decide_eq_true e5,FX,FY,DN,DR,DT]<;>(repeat' apply A7)<;>first|rfl|exact⟨_,rfl⟩|exact⟨_,_,rfl⟩|simp [A9,A8]
  ·rw [if_neg e5]at h
   obtain rfl:=Option.some.inj h
   simp (maxDischargeDepth:=9) only [↓AB,AC,Ah,↓reduceIte,Nat.reduceEqDiff,Nat.reduceLT,Nat.reduceLeDiff,Nat.reduceAdd,Nat.reduceMul,Nat.reduceMod,Nat.reduceDiv,Nat.reducePow,Nat.reduceSub,Nat.reduceBEq,Int.reduceLE,Int.reduceLT,Int.reduceEq,Int.reduceSub,Int.reduceAdd,Int.reduceToNat,Int.reduceNeg,m0,m1,m2,m3,e2,e3.1,e3.2,e4.1,e4.2,e5,FX,FY,DN,DR,DT]<;>(repeat' apply A7)<;>first|rfl|exact⟨_,rfl⟩|exact⟨_,_,rfl⟩|simp [A9,A8]
 ·rw [if_neg e2]at h
  obtain rfl:=Option.some.inj h
  simp (maxDischargeDepth:=9) only [↓AB,AC,Ah,↓reduceIte,Nat.reduceEqDiff,Nat.reduceLT,Nat.reduceLeDiff,Nat.reduceAdd,Nat.reduceMul,Nat.reduceMod,Nat.reduceDiv,Nat.reducePow,Nat.reduceSub,Nat.reduceBEq,Int.reduceLE,Int.reduceLT,Int.reduceEq,Int.reduceSub,Int.reduceAdd,Int.reduceToNat,Int.reduceNeg,m0,m1,m2,m3,e2,FX,FY,DN,DR,DT]<;>(repeat' apply A7)<;>first|rfl|exact⟨_,rfl⟩|exact⟨_,_,rfl⟩|simp [A9,A8]
theorem UT(a:List Int)(b:List Int){r:Bool}(h:NM a b=some r):Y.call 135 [D.sl 3 (A9 (D.int .i64) a),D.sl 3 (A9 (D.int .i64) b)] []=some (D.bool r,[]):=by
 refine AAA ?_ rfl;unfold zM;unfold NM at h;by_cases e1:(a.length:Int)=(b.length:Int)
 ·rw [if_pos e1]at h;obtain⟨AO,hl3,h⟩:=BC h;try dsimp only at h
  simp (maxDischargeDepth:=9) only [↓AB,AC,Ah,↓reduceIte,Nat.reduceEqDiff,Nat.reduceLT,Nat.reduceLeDiff,Nat.reduceAdd,Nat.reduceMul,Nat.reduceMod,Nat.reduceDiv,Nat.reducePow,Nat.reduceSub,Nat.reduceBEq,Int.reduceLE,Int.reduceLT,Int.reduceEq,Int.reduceSub,Int.reduceAdd,Int.reduceToNat,Int.reduceNeg,decide_eq_true e1];refine Bh (TU a b hl3 ?_) ?_
  ·simp (maxDischargeDepth:=9) only [↓AB,AC,Ah,↓reduceIte,Nat.reduceEqDiff,Nat.reduceLT,Nat.reduceLeDiff,Nat.reduceAdd,Nat.reduceMul,Nat.reduceMod,Nat.reduceDiv,Nat.reducePow,Nat.reduceSub,Nat.reduceBEq,Int.reduceLE,Int.reduceLT,Int.reduceEq,Int.reduceSub,Int.reduceAdd,Int.reduceToNat,Int.reduceNeg,decide_eq_true e1,FX]<;>(repeat' apply A7)<;>first|rfl|exact⟨_,rfl⟩|exact⟨_,_,rfl⟩|simp [A9,A8]
  ·intro ex3 s3 hX3;rcases AO with q1000_|q1000_
   ·unfold FY at hX3;dsimp only at hX3 h;obtain⟨rfl,n3_0⟩:=hX3
    obtain rfl:=Option.some.inj h
    simp (maxDischargeDepth:=9) only [↓AB,AC,Ah,↓reduceIte,Nat.reduceEqDiff,Nat.reduceLT,Nat.reduceLeDiff,Nat.reduceAdd,Nat.reduceMul,Nat.reduceMod,Nat.reduceDiv,Nat.reducePow,Nat.reduceSub,Nat.reduceBEq,Int.reduceLE,Int.reduceLT,Int.reduceEq,Int.reduceSub,Int.reduceAdd,Int.reduceToNat,Int.reduceNeg,decide_eq_true e1,n3_0]<;>(repeat' apply A7)<;>first|rfl|exact⟨_,rfl⟩|exact⟨_,_,rfl⟩|simp [A9,A8]
   ·unfold FY at hX3;dsimp only at hX3 h
    obtain rfl:=hX3
    obtain rfl:=Option.some.inj h
    simp (maxDischargeDepth:=9) only [↓AB,AC,Ah,↓reduceIte,Nat.reduceEqDiff,Nat.reduceLT,Nat.reduceLeDiff,Nat.reduceAdd,Nat.reduceMul,Nat.reduceMod,Nat.reduceDiv,Nat.reducePow,Nat.reduceSub,Nat.reduceBEq,Int.reduceLE,Int.reduceLT,Int.reduceEq,Int.reduceSub,Int.reduceAdd,Int.reduceToNat,Int.reduceNeg,decide_eq_true e1]<;>(repeat' apply A7)<;>first|rfl|exact⟨_,rfl⟩|exact⟨_,_,rfl⟩|simp [A9,A8]
 ·rw [if_neg e1]at h
  obtain rfl:=Option.some.inj h
  simp (maxDischargeDepth:=9) only [↓AB,AC,Ah,↓reduceIte,Nat.reduceEqDiff,Nat.reduceLT,Nat.reduceLeDiff,Nat.reduceAdd,Nat.reduceMul,Nat.reduceMod,Nat.reduceDiv,Nat.reducePow,Nat.reduceSub,Nat.reduceBEq,Int.reduceLE,Int.reduceLT,Int.reduceEq,Int.reduceSub,Int.reduceAdd,Int.reduceToNat,Int.reduceNeg,e1]<;>(repeat' apply A7)<;>first|rfl|exact⟨_,rfl⟩|exact⟨_,_,rfl⟩|simp [A9,A8]
noncomputable def I4(l:List (List Int))(x_:List Int)(Lh:Int):Option ((Int)⊕(Unit⊕Unit)):= if Lh<(l.length:Int)then ck (0≤Lh∧Lh.toNat<l.length)<| (NM x_ (l.getD Lh.toNat default)).bind fun Zr=> if Zr=true then some (Sum.inr (Sum.inl ())) else some (Sum.inl (IntKind.i64.wrap (Lh+1))) else some (Sum.inr (Sum.inr ()))
noncomputable def M8(l:List (List Int))(x_:List Int)(v:Int):Option (Unit⊕Unit):=Iw (fun v=>I4 l x_ v) v
noncomputable def RP(l:List (List Int))(x_:List Int):Option (Bool):=
 (M8 l x_ 0).bind fun AO=>
 match AO with
 | .inl q1000_=>
  some true
 | .inr q1000_=>
  some false
def WS:SC:= .seq (.ops [oB 10 .lss 3 (tK 9) (tK 8) 3 0]) (.seq (.cond (tK 10) .skip (.exit 0)) (.seq (.block 1 (.seq (.ops [oI 11 22 7 9,oL 12 26 11 26,oA 6 12 26]) (.seq (.ops [oM 13 1 26,oM 14 6 26,oC 15 135 [(tK 13),(tK 14)] [26,26] 4]) (.cond (tK 15) (.seq (.ops [oX 4 (.assign (.const (.bool true))) 4]) .ret) .skip)))) (.ops [oB 16 .add 3 (tK 9) (iK 1) 3 3,oM 9 16 3])))
def jE:SC:= .loop WS
def k85:SC:= .seq (.ops [oX 4 (.assign (.const (.bool false))) 4]) (.seq (.seq (.ops [oM 7 0 22,oN 8 7 22,oX 9 (.move (iK 0)) 3]) (.block 0 jE)) (.seq (.ops [oX 4 (.assign (.const (.bool false))) 4]) .ret))
theorem zN:Try.f85.body.map (Ct lends)=some k85:=by kernel_rfl
theorem AAC:DL Try.f85 2=true:=by kernel_rfl
theorem c85{a l:List D}{r:D×List D}(h:D6 Y.env k85 (I6 Aa l.length [ResultVar.tmp 4] r) (entry a l))(ha:a.length=2):Y.call 85 a l=some r:=
 Ag (Y:=Y) rfl Try.func85 (ha▸AAC) zN h
def GV(l:List (List Int))(x_:List Int)(Lh:Int)(s:St):Prop:=s.v 1=D.sl 3 (A9 (D.int .i64) x_)∧s.v 7=D.sl 26 (A9 (fun x=>D.sl 3 (A9 (D.int .i64) x)) l)∧s.v 8=D.int .i64 (l.length:Int)∧s.v 9=D.int .i64 Lh
def GX(l:List (List Int))(x_:List Int)(r:Unit⊕Unit)(ex:Ex)(s:St):Prop:=match r with
 | .inl q=>ex= .ret∧s.v 4=D.bool true
 | .inr q=>ex= .exit 0
theorem UU(l:List (List Int))(x_:List Int){v:Int}{s:St}{r:Unit⊕Unit}(h:M8 l x_ v=some r)(hM:GV l x_ v s):D6 Y.env jE (GX l x_ r) s:=by
 unfold M8 at h;refine CX (c:=WS) (fun v=>I4 l x_ v) (fun v s=>GV l x_ v s) (GX l x_) ?_ h hM;clear h hM s v r;intro Lh s o hM h;unfold I4 at h;unfold GV at hM;obtain⟨m0,m1,m2,m3⟩:=hM;unfold WS;by_cases e1:Lh<(l.length:Int)
 ·rw [if_pos e1]at h;obtain⟨e2,h⟩:=Bw h;obtain⟨Zr,hl3,h⟩:=BC h;try dsimp only at h
  have c3:=UT x_ (l.getD Lh.toNat default) hl3;by_cases e4:Zr=true
  ·rw [if_pos e4]at h
   obtain rfl:=Option.some.inj h
   simp (maxDischargeDepth:=9) only [↓AB,AC,Ah,↓reduceIte,Nat.reduceEqDiff,Nat.reduceLT,Nat.reduceLeDiff,Nat.reduceAdd,Nat.reduceMul,Nat.reduceMod,Nat.reduceDiv,Nat.reducePow,Nat.reduceSub,Nat.reduceBEq,Int.reduceLE,Int.reduceLT,Int.reduceEq,Int.reduceSub,Int.reduceAdd,Int.reduceToNat,Int.reduceNeg,m0,m1,m2,m3,e1,e2.1,e2.2,c3,e4,GV,GX,DN,DR,DT]<;>(repeat' apply A7)<;>first|rfl|exact⟨_,rfl⟩|exact⟨_,_,rfl⟩|simp [A9,A8]
  ·rw [if_neg e4]at h;have e4f:Zr=false:=Gm.mpr e4
   obtain rfl:=Option.some.inj h
   simp (maxDischargeDepth:=9) only [↓AB,AC,Ah,↓reduceIte,Nat.reduceEqDiff,Nat.reduceLT,Nat.reduceLeDiff,Nat.reduceAdd,Nat.reduceMul,Nat.reduceMod,Nat.reduceDiv,Nat.reducePow,Nat.reduceSub,Nat.reduceBEq,Int.reduceLE,Int.reduceLT,Int.reduceEq,Int.reduceSub,Int.reduceAdd,Int.reduceToNat,Int.reduceNeg,m0,m1,m2,m3,e1,e2.1,e2.2,c3,e4f,GV,GX,DN,DR,DT]<;>(repeat' apply A7)<;>first|rfl|exact⟨_,rfl⟩|exact⟨_,_,rfl⟩|simp [A9,A8]
 ·rw [if_neg e1]at h
  obtain rfl:=Option.some.inj h
  simp (maxDischargeDepth:=9) only [↓AB,AC,Ah,↓reduceIte,Nat.reduceEqDiff,Nat.reduceLT,Nat.reduceLeDiff,Nat.reduceAdd,Nat.reduceMul,Nat.reduceMod,Nat.reduceDiv,Nat.reducePow,Nat.reduceSub,Nat.reduceBEq,Int.reduceLE,Int.reduceLT,Int.reduceEq,Int.reduceSub,Int.reduceAdd,Int.reduceToNat,Int.reduceNeg,m0,m1,m2,m3,e1,GV,GX,DN,DR,DT]<;>(repeat' apply A7)<;>first|rfl|exact⟨_,rfl⟩|exact⟨_,_,rfl⟩|simp [A9,A8]
theorem WT(l:List (List Int))(x_:List Int){r:Bool}(h:RP l x_=some r):Y.call 85 [D.sl 26 (A9 (fun x=>D.sl 3 (A9 (D.int .i64) x)) l),D.sl 3 (A9 (D.int .i64) x_)] []=some (D.bool r,[]):=by
 refine c85 ?_ rfl;unfold k85;unfold RP at h;obtain⟨AO,hl2,h⟩:=BC h;try dsimp only at h
 simp (maxDischargeDepth:=9) only [↓AB,AC,Ah,↓reduceIte,Nat.reduceEqDiff,Nat.reduceLT,Nat.reduceLeDiff,Nat.reduceAdd,Nat.reduceMul,Nat.reduceMod,Nat.reduceDiv,Nat.reducePow,Nat.reduceSub,Nat.reduceBEq,Int.reduceLE,Int.reduceLT,Int.reduceEq,Int.reduceSub,Int.reduceAdd,Int.reduceToNat,Int.reduceNeg];refine Bh (UU l x_ hl2 ?_) ?_
 ·simp (maxDischargeDepth:=9) only [↓AB,AC,Ah,↓reduceIte,Nat.reduceEqDiff,Nat.reduceLT,Nat.reduceLeDiff,Nat.reduceAdd,Nat.reduceMul,Nat.reduceMod,Nat.reduceDiv,Nat.reducePow,Nat.reduceSub,Nat.reduceBEq,Int.reduceLE,Int.reduceLT,Int.reduceEq,Int.reduceSub,Int.reduceAdd,Int.reduceToNat,Int.reduceNeg,GV]<;>(repeat' apply A7)<;>first|rfl|exact⟨_,rfl⟩|exact⟨_,_,rfl⟩|simp [A9,A8]
 ·intro ex2 s2 hX2;rcases AO with q1000_|q1000_
  ·unfold GX at hX2;dsimp only at hX2 h;obtain⟨rfl,n2_0⟩:=hX2
   obtain rfl:=Option.some.inj h
   simp (maxDischargeDepth:=9) only [↓AB,AC,Ah,↓reduceIte,Nat.reduceEqDiff,Nat.reduceLT,Nat.reduceLeDiff,Nat.reduceAdd,Nat.reduceMul,Nat.reduceMod,Nat.reduceDiv,Nat.reducePow,Nat.reduceSub,Nat.reduceBEq,Int.reduceLE,Int.reduceLT,Int.reduceEq,Int.reduceSub,Int.reduceAdd,Int.reduceToNat,Int.reduceNeg,n2_0]<;>(repeat' apply A7)<;>first|rfl|exact⟨_,rfl⟩|exact⟨_,_,rfl⟩|simp [A9,A8]
  ·unfold GX at hX2;dsimp only at hX2 h
   obtain rfl:=hX2
   obtain rfl:=Option.some.inj h
   simp (maxDischargeDepth:=9) only [↓AB,AC,Ah,↓reduceIte,Nat.reduceEqDiff,Nat.reduceLT,Nat.reduceLeDiff,Nat.reduceAdd,Nat.reduceMul,Nat.reduceMod,Nat.reduceDiv,Nat.reducePow,Nat.reduceSub,Nat.reduceBEq,Int.reduceLE,Int.reduceLT,Int.reduceEq,Int.reduceSub,Int.reduceAdd,Int.reduceToNat,Int.reduceNeg]<;>(repeat' apply A7)<;>first|rfl|exact⟨_,rfl⟩|exact⟨_,_,rfl⟩|simp [A9,A8]
theorem dP(a b:List Int)(ha:a.length<1099511627776):NM a b=some (decide (a=b)):=by
 unfold NM Km;by_cases hl:a.length=b.length
 ·rw [if_pos (by omega)]
  have key:=JO (fun v=>Gu a b v) (fun i=>(i:Int)) a.length (fun i=>decide (a.getD i default=b.getD i default)) (.inl ()) (.inr ()) ?_ ?_
  ·simp only [Jo]at key;rw [key,Sn a b hl];by_cases he:a=b<;>simp [he]
  ·intro i hi;simp only [Gu];rw [if_pos (GJ hi),CU (Fh hi),CU (Fh (by omega)),KP,Ny i (by omega)]<;>simp only [decide_eq_true_eq]
  ·simp only [Gu];rw [if_neg (CY _)]
 ·rw [if_neg (by omega)]
  have: ¬a=b:=fun e=>hl (by rw [e])
  simp [this]
theorem Zt(l:List (List Int))(x:List Int)(hl:l.length<1099511627776)(hx:x.length<1099511627776):RP l x=some (l.contains x):=by
 unfold RP M8;have key:=JO (fun v=>I4 l x v) (fun i=>(i:Int)) l.length (fun i=> !decide (x=l.getD i default)) (.inl ()) (.inr ()) ?_ ?_
 ·simp only [Jo]at key;rw [key,Ee];rw [P8 (fun y=> !decide (x=y)) l];by_cases hm:x∈l
  ·have:l.all (fun y=> !decide (x=y))=false:=by
    rw [Gm];intro hc;have:=Ho.1 hc x hm
    simp at this
   rw [this,if_neg (by decide)]
   simp [hm]
  ·have:l.all (fun y=> !decide (x=y))=true:=by
    refine Ho.2 fun y hy=> ?_;have: ¬x=y:=fun e=>hm (e▸hy)
    simp [this]
   rw [this,if_pos rfl];simp [hm]
 ·intro i hi;simp only [I4];rw [if_pos (GJ hi),CU (Fh hi),KP,dP _ _ hx,Ee,Ny i (by omega)]
  by_cases e:x=l.getD i default<;>simp [e]
 ·simp only [I4];rw [if_neg (CY _)]
theorem Zu(l:List (List Int))(x_:List Int)(h0:l.length<1099511627776)(h1:x_.length<1099511627776):Y.call 85 [D.sl 26 (A9 (fun x=>D.sl 3 (A9 (D.int .i64) x)) l),D.sl 3 (A9 (D.int .i64) x_)] []=some (D.bool (l.contains x_),[]):=WT l x_ (Zt l x_ h0 h1)
end Go.Proofs.Ytclkfhhdikfcpaa
