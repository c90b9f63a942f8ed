/- Configurations looked up by halving and one by one, as membership. Conditions: the lists are short and increasing. -/
import Derived.Test.YtjhjkfoabhplfaaGreatL6
import Derived.Test.YtjhjkfoabhplfaaGreatSrt
namespace Go.Proofs.YtjhjkfoabhplfaaGreat
open Go Dv
set_option linter.unusedSimpArgs false
set_option linter.unusedVariables false
set_option maxRecDepth 100000
set_option maxHeartbeats 4000000
theorem wrU(n:Int)(h:0≤n∧n<18446744073709551616):IntKind.u64.wrap n=n:=by
 unfold IntKind.wrap;simp only [IntKind.signed,IntKind.bits]
 simp
 omega
theorem Xt(x:Int): ∀r,(QB x r).Perm (x::r):=by
 intro r
 induction r with
 | nil=>exact List.Perm.refl _
 | cons y r ih=>
  unfold QB;split
  ·exact((List.perm_cons y).2 ih).trans (List.Perm.swap x y r)
  ·exact List.Perm.refl _
theorem nL(x:Int): ∀r,r.Pairwise (fun a b=>b≤a)→(QB x r).Pairwise (fun a b=>b≤a):=by
 intro r
 induction r with
 | nil=>intro _;simp [QB]
 | cons y r ih=>
  intro h;obtain⟨h1,h2⟩:=List.pairwise_cons.1 h;unfold QB;split
  ·rename_i hxy
   refine List.pairwise_cons.2 ⟨fun z hz=> ?_,ih h2⟩;rcases List.mem_cons.1 ((Xt x r).mem_iff.1 hz)with rfl | hz
   ·omega
   ·exact h1 z hz
  ·rename_i hxy
   refine List.pairwise_cons.2 ⟨fun z hz=> ?_,h⟩;rcases List.mem_cons.1 hz with rfl | hz
   ·omega
   ·have:=h1 z hz;omega
theorem jP: ∀(l r:List Int),(l.foldl (fun r x=>QB x r) r).Perm (l++r):=by
 intro l
 induction l with
 | nil=>intro r;exact List.Perm.refl _
 | cons x l ih=>
  intro r;simp only [List.foldl_cons]
  exact(ih _).trans (((List.Perm.refl l).append (Xt x r)).trans List.perm_middle)
theorem jQ: ∀(l r:List Int),r.Pairwise (fun a b=>b≤a)→(l.foldl (fun r x=>QB x r) r).Pairwise (fun a b=>b≤a):=by
 intro l
 induction l with
 | nil=>intro r h;exact h
 | cons x l ih=>intro r h;exact ih _ (nL x r h)
theorem QD(l:List Int):(DI l).Perm l:=by
 unfold DI;have:=jP l []
 rw [List.append_nil]at this
 exact(List.reverse_perm _).trans this
theorem jR(l:List Int):(DI l).Pairwise (fun a b=>a≤b):=by
 unfold DI;exact List.pairwise_reverse.2 (jQ l [] List.Pairwise.nil)
theorem eQ(l:List Int):GK l=DI l:=by
 refine List.Perm.eq_of_pairwise (le:=fun a b:Int=>a≤b) (fun a b _ _ h1 h2=>Int.le_antisymm h1 h2) ?_ (jR l) ((List.mergeSort_perm _ _).trans (QD l).symm);have:=List.pairwise_mergeSort (le:=fun x y:Int=>decide (x≤y)) (fun a b c h1 h2=>by simp only [decide_eq_true_eq]at*;omega) (fun a b=>by simp only [Bool.or_eq_true,decide_eq_true_eq];omega) l
 unfold GK;exact this.imp (fun h=>by simpa using h)
theorem Sc(l:List Int):(DI l).length=l.length:=(QD l).length_eq
theorem nM(a b:Int):DI [a,b]=if b<a then [b,a]else [a,b]:=by
 unfold DI;simp only [List.foldl_cons,List.foldl_nil,QB];by_cases h:b<a<;>simp [h]
theorem Sd: ∀a:List Int,cmpL a a=0:=by
 intro a
 induction a with
 | nil=>rfl
 | cons x a ih=>unfold cmpL;rw [if_pos rfl,ih]
theorem cmpL_eq: ∀(a b:List Int),cmpL a b=0→a=b:=by
 intro a
 induction a with
 | nil=>intro b h;cases b with
  | nil=>rfl
  | cons y b=>simp [cmpL]at h
 | cons x a ih=>intro b h;cases b with
  | nil=>simp [cmpL]at h
  | cons y b=>
   unfold cmpL at h
   split at h
   ·rename_i e;rw [e,ih b h]
   ·split at h<;>simp at h
theorem QE: ∀(a b c:List Int),cmpL a b<0→cmpL b c<0→cmpL a c<0:=by
 intro a
 induction a with
 | nil=>intro b c h1 h2;cases c with
  | nil=>cases b with
   | nil=>simp [cmpL]at h1
   | cons y b=>simp [cmpL]at h2
  | cons z c=>simp [cmpL]
 | cons x a ih=>intro b c h1 h2;cases b with
  | nil=>simp [cmpL]at h1
  | cons y b=>cases c with
   | nil=>simp [cmpL]at h2
   | cons z c=>
    unfold cmpL at h1 h2 ⊢;by_cases e1:x=y
    ·subst e1;rw [if_pos rfl]at h1;by_cases e2:x=z
     ·subst e2;rw [if_pos rfl]at h2 ⊢;exact ih b c h1 h2
     ·rw [if_neg e2]at h2 ⊢;exact h2
    ·rw [if_neg e1]at h1
     have l1:x<y:=by
      by_cases hl:x<y
      ·exact hl
      ·rw [if_neg hl]at h1;omega
     by_cases e2:y=z
     ·subst e2;rw [if_neg e1,if_pos l1];decide
     ·rw [if_neg e2]at h2
      have l2:y<z:=by
       by_cases hl:y<z
       ·exact hl
       ·rw [if_neg hl]at h2;omega
      rw [if_neg (by omega),if_pos (by omega)];decide
def QF(l:List (List Int)):Bool:=(List.range l.length).all fun i=>decide (i=0)||decide (cmpL (l.getD (i-1) default) (l.getD i default)<0)
theorem xW{l:List (List Int)}(h:QF l=true): ∀(d i:Nat),i+d+1<l.length→cmpL (l.getD i default) (l.getD (i+d+1) default)<0:=by
 have step: ∀i,i+1<l.length→cmpL (l.getD i default) (l.getD (i+1) default)<0:=fun i hi=>by
  have:=IB.1 h (i+1) hi
  simpa using this
 intro d
 induction d with
 | zero=>intro i hi;exact step i hi
 | succ d ih=>
  intro i hi;exact QE _ _ _ (ih i (by omega)) (step (i+d+1) (by omega))
theorem Vj{l:List (List Int)}(h:QF l=true){i j:Nat}(hij:i<j)(hj:j<l.length):cmpL (l.getD i default) (l.getD j default)<0:=by
 have:=xW h (j-i-1) i (by omega)
 rwa [show i+(j-i-1)+1=j by omega]at this
theorem Xu{l:List (List Int)}{s n:Int}(h:Ir l s n=true):QF l=true:=by
 refine IB.2 fun i hi=> ?_;have:=IB.1 h i hi
 unfold O7 at this;rw [Bool.and_eq_true]at this;exact this.2
theorem eT{l:List (List Int)}{x:List Int}:x∈l↔ ∃k,k<l.length∧l.getD k default=x:=by
 constructor
 ·intro h;obtain⟨k,hk,e⟩:=List.getElem_of_mem h
  exact⟨k,hk,by rw [List.getD_eq_getElem?_getD,List.getElem?_eq_getElem hk];exact e⟩
 ·rintro⟨k,hk,rfl⟩
  rw [List.getD_eq_getElem?_getD,List.getElem?_eq_getElem hk];exact List.getElem_mem hk
noncomputable def De(s_:List Int):Option ((List Int)):= some s_
def A3Y:SC:= .seq (.ops [oX 1 (.box 27 (tK 0)) 0,oX 2 (.assign (.const .nilFunc)) 113]) (.seq (.ops [oX 3 (.makeFunc (Fn.func 141) #[] #[(tK 1)]) 112,oA 2 3 113]) .ret)
theorem xX:Tryz.f126.body.map (BO lends)=some A3Y:=by kernel_rfl
theorem ABy:Bi Tryz.f126 1=true:=by kernel_rfl
theorem AIu{a l:List D}{r:D×List D}(h:Bf Y.env A3Y (EG AV l.length [ResultVar.tmp 2] r) (entry a l))(ha:a.length=1):Y.call 126 a l=some r:=
 AL (Y:=Y) rfl Tryz.func126 (ha▸ABy) xX h
theorem Kj(s_:List Int){r:(List Int)}(h:De s_=some r):Y.call 126 [D.sl 3 (AB (D.int .i64) s_)] []=some (D.clo 141 [D.cptr [D.sl 3 (AB (D.int .i64) r)]],[]):=by
 refine AIu ?_ rfl;unfold A3Y;unfold De at h;cases h;simp (maxDischargeDepth:=9) only [↓AC,A7,AA,AJ,↓reduceIte,Nat.reduceEqDiff,Nat.reduceLT]
noncomputable def P7(x_:List (List Int))(target:List Int)(cmp:(List Int)→(List Int)→Option Int)(i j:Int):Option ((Int×Int)⊕(Int)):= if i<j then ck (0≤IntKind.i64.wrap ((IntKind.u64.wrap (IntKind.i64.wrap (i+j))).fdiv (2 ^ (min 1 (IntKind.u64.bits))))∧(IntKind.i64.wrap ((IntKind.u64.wrap (IntKind.i64.wrap (i+j))).fdiv (2 ^ (min 1 (IntKind.u64.bits))))).toNat<x_.length)<| (cmp (x_.getD ((IntKind.i64.wrap ((IntKind.u64.wrap (IntKind.i64.wrap (i+j))).fdiv (2 ^ (min 1 (IntKind.u64.bits))))).toNat) default) target).bind fun D6=> if D6<0 then some (Sum.inl (IntKind.i64.wrap ((IntKind.i64.wrap ((IntKind.u64.wrap (IntKind.i64.wrap (i+j))).fdiv (2 ^ (min 1 (IntKind.u64.bits)))))+1),j)) else some (Sum.inl (i,IntKind.i64.wrap ((IntKind.u64.wrap (IntKind.i64.wrap (i+j))).fdiv (2 ^ (min 1 (IntKind.u64.bits)))))) else some (Sum.inr i)
noncomputable def ZK(x_:List (List Int))(target:List Int)(cmp:(List Int)→(List Int)→Option Int)(v:Int×Int):Option (Int):=Gb (fun v=>P7 x_ target cmp v.1 v.2) v
noncomputable def gBS(x_:List (List Int))(target:List Int)(cmp:(List Int)→(List Int)→Option Int):Option (Int×Bool):= (ZK x_ target cmp (0,(x_.length:Int))).bind fun Au=> if Au<(x_.length:Int)then ck (0≤Au∧Au.toNat<x_.length)<| (cmp (x_.getD Au.toNat default) target).bind fun Lv=> some (Au,(decide (Lv=0))) else some (Au,false)
def Vk:SC:= .seq (.seq (.ops [oM 15 9 3,oM 16 10 3,oB 17 .lss 3 (tK 15) (tK 16) 3 4]) (.cond (tK 17) .skip (.exit 0))) (.block 1 (.seq (.ops [oM 18 9 3,oM 19 10 3,oB 20 .add 3 (tK 18) (tK 19) 3 3,oX 21 (.convert 3 91 (tK 20)) 91,oB 22 .shr 91 (tK 21) (.const (.int .u64 1)) 91 91,oX 23 (.convert 91 3 (tK 22)) 3,oA 11 23 3]) (.seq (.ops [oM 24 2 62,oM 25 0 22,oM 26 11 3,oI 27 22 25 26,oL 28 27 27 27,oM 29 1 27,oX 30 (.call ⟨(.value (tK 24)), #[(tK 28),(tK 29)], #[27,27]⟩) 3,oB 31 .lss 3 (tK 30) (iK 0) 3 4]) (.cond (tK 31) (.ops [oM 32 11 3,oB 33 .add 3 (tK 32) (iK 1) 3 3,oA 9 33 3]) (.ops [oM 34 11 3,oA 10 34 3])))))
def kR:SC:= .loop Vk
def A3Z:SC:= .seq (.ops [oX 6 (.assign (iK 0)) 3,oX 7 (.assign (.const (.bool false))) 4]) (.seq (.ops [oM 12 0 22,oN 13 12 22,oA 8 13 3]) (.seq (.ops [oM 14 8 3,oX 9 (.assign (iK 0)) 3,oA 10 14 3]) (.seq (.block 0 kR) (.seq (.ops [oM 35 9 3,oM 36 9 3,oM 37 8 3,oB 38 .lss 3 (tK 36) (tK 37) 3 4,oM 39 38 4,⟨some 40,.move (tK 2),62,(some (some 39,true))⟩,⟨some 41,.move (tK 0),22,(some (some 39,true))⟩,⟨some 42,.move (tK 9),3,(some (some 39,true))⟩,⟨some 43,.indexAddr 22 (tK 41) (tK 42),0,(some (some 39,true))⟩,⟨some 44,.load 27 (tK 43),27,(some (some 39,true))⟩,⟨some 45,.move (tK 1),27,(some (some 39,true))⟩,⟨some 46,.call ⟨(.value (tK 40)), #[(tK 44),(tK 45)], #[27,27]⟩,3,(some (some 39,true))⟩,⟨some 47,.binOp .eql 3 (tK 46) (iK 0) 3,4,(some (some 39,true))⟩,oX 48 (.pick (tK 39) (tK 47) (.const (.bool false))) 4,oA 6 35 3,oA 7 48 4]) .ret))))
theorem xY:Tryz.f124.body.map (BO lends)=some A3Z:=by kernel_rfl
theorem AC0:Bi Tryz.f124 3=true:=by kernel_rfl
theorem AIv{a l:List D}{r:D×List D}(h:Bf Y.env A3Z (EG AV l.length [ResultVar.tmp 6,ResultVar.tmp 7] r) (entry a l))(ha:a.length=3):Y.call 124 a l=some r:=
 AL (Y:=Y) rfl Tryz.func124 (ha▸AC0) xY h
def M5(x_:List (List Int))(target:List Int)(cmp:(List Int)→(List Int)→Option Int)(cmp_f:FuncId)(cmp_c:List D)(i j:Int)(s:St):Prop:=s.v 0=D.sl 27 (AB (fun x=>D.sl 3 (AB (D.int .i64) x)) x_)∧s.v 1=D.sl 3 (AB (D.int .i64) target)∧s.v 2=D.clo cmp_f cmp_c∧s.v 8=D.int .i64 (x_.length:Int)∧s.v 9=D.int .i64 i∧s.v 10=D.int .i64 j
def RH(x_:List (List Int))(target:List Int)(cmp:(List Int)→(List Int)→Option Int)(cmp_f:FuncId)(cmp_c:List D)(r:Int)(ex:Ex)(s:St):Prop:=ex= .exit 0∧s.v 0=D.sl 27 (AB (fun x=>D.sl 3 (AB (D.int .i64) x)) x_)∧s.v 1=D.sl 3 (AB (D.int .i64) target)∧s.v 2=D.clo cmp_f cmp_c∧s.v 8=D.int .i64 (x_.length:Int)∧s.v 9=D.int .i64 r
theorem nN(x_:List (List Int))(target:List Int)(cmp:(List Int)→(List Int)→Option Int)(cmp_f:FuncId)(cmp_c:List D)(cmp_h: ∀(a0 a1:List Int) (r:Int),cmp a0 a1=some r→Y.call cmp_f (D.sl 3 (AB (D.int .i64) a0)::D.sl 3 (AB (D.int .i64) a1)::cmp_c) []=some (D.int .i64 r,[]))(cmp_l:lends cmp_f=false){v:Int×Int}{s:St}{r:Int}(h:ZK x_ target cmp v=some r)(hM:M5 x_ target cmp cmp_f cmp_c v.1 v.2 s):Bf Y.env kR (RH x_ target cmp cmp_f cmp_c r) s:=by
 unfold ZK at h;refine BA (c:=Vk) (fun v=>P7 x_ target cmp v.1 v.2) (fun v s=>M5 x_ target cmp cmp_f cmp_c v.1 v.2 s) (RH x_ target cmp cmp_f cmp_c) ?_ h hM;clear h hM s v r;intro v s o hM h;obtain⟨i,j⟩:=v;dsimp only at h hM;unfold P7 at h;unfold M5 at hM;obtain⟨m0,m1,m2,m3,m4,m5⟩:=hM;unfold Vk;by_cases e1:i<j
 ·rw [if_pos e1]at h;obtain⟨e2,h⟩:=Av h;obtain⟨D6,hl3,h⟩:=AU h;try dsimp only at h
  have c3:=cmp_h _ _ _ hl3;by_cases e4:D6<0
  ·rw [if_pos e4]at h;cases h;simp (maxDischargeDepth:=9) only [↓AC,A7,AO,BM,AA,AJ,↓reduceIte,Nat.reduceEqDiff,Nat.reduceLT,Nat.reduceAdd,Int.reduceLT,Int.reduceToNat,m0,m1,m2,m3,m4,m5,cmp_l,e1,e2.1,e2.2,c3,e4,M5,FD]
  ·rw [if_neg e4]at h;cases h;simp (maxDischargeDepth:=9) only [↓AC,A7,AO,BM,AA,AJ,↓reduceIte,Nat.reduceEqDiff,Nat.reduceLT,Nat.reduceAdd,Int.reduceLT,Int.reduceToNat,m0,m1,m2,m3,m4,m5,cmp_l,e1,e2.1,e2.2,c3,e4,M5,FD]
 ·rw [if_neg e1]at h;cases h;simp (maxDischargeDepth:=9) only [↓AC,A7,AJ,↓reduceIte,Nat.reduceEqDiff,Nat.reduceLT,m0,m1,m2,m3,m4,m5,e1,M5,RH,JH]
theorem u7(x_:List (List Int))(target:List Int)(cmp:(List Int)→(List Int)→Option Int)(cmp_f:FuncId)(cmp_c:List D)(cmp_h: ∀(a0 a1:List Int) (r:Int),cmp a0 a1=some r→Y.call cmp_f (D.sl 3 (AB (D.int .i64) a0)::D.sl 3 (AB (D.int .i64) a1)::cmp_c) []=some (D.int .i64 r,[]))(cmp_l:lends cmp_f=false){r:Int×Bool}(h:gBS x_ target cmp=some r):Y.call 124 [D.sl 27 (AB (fun x=>D.sl 3 (AB (D.int .i64) x)) x_),D.sl 3 (AB (D.int .i64) target),D.clo cmp_f cmp_c] []=some (D.tup [D.int .i64 r.1,D.bool r.2],[]):=by
 refine AIv ?_ rfl;unfold A3Z;unfold gBS at h;obtain⟨Au,hl2,h⟩:=AU h;try dsimp only at h
 simp (maxDischargeDepth:=9) only [↓AC,A7,AO,AA,AJ,↓reduceIte,Nat.reduceEqDiff,Nat.reduceLT];refine Ag (nN x_ target cmp cmp_f cmp_c cmp_h cmp_l hl2 ?_) ?_
 ·simp (maxDischargeDepth:=9) only [A7,AA,↓reduceIte,Nat.reduceEqDiff,Nat.reduceLT,M5]
 ·intro ex2 s2 hX2;unfold RH at hX2;obtain⟨rfl,n2_0,n2_1,n2_2,n2_3,n2_4⟩:=hX2;by_cases e3:Au<(x_.length:Int)
  ·rw [if_pos e3]at h;obtain⟨e4,h⟩:=Av h;obtain⟨Lv,hl5,h⟩:=AU h;try dsimp only at h
   have c5:=cmp_h _ _ _ hl5;cases h;simp (maxDischargeDepth:=9) only [↓AC,A7,AO,BM,AA,AJ,↓reduceIte,Nat.reduceEqDiff,Nat.reduceLT,Nat.reduceAdd,cmp_l,n2_0,n2_1,n2_2,n2_3,n2_4,e3,e4.1,e4.2,c5]
  ·rw [if_neg e3]at h;cases h;simp (maxDischargeDepth:=9) only [↓AC,A7,AA,AJ,↓reduceIte,Nat.reduceEqDiff,Nat.reduceLT,n2_3,n2_4,e3]
noncomputable def GV(list:List (List Int))(labels:List Int):Option (Bool):= (De labels).bind fun Cv=> ck (Cv.length<1099511627776)<| (gBS list (GK Cv) (fun a0 a1=>gCp a0 a1)).bind fun DF=> some DF.2
def A3a:SC:= .seq (.ops [oX 4 (.assign (.const (.bool false))) 4]) (.seq (.ops [oM 8 0 22,oM 9 1 27,oC 10 126 [(tK 9)] [27] 113,oC 11 125 [(tK 10)] [113] 27,oC 12 124 [(tK 8),(tK 11),(.func 64)] [22,27,62] 72,oM 7 12 72,oE 13 7 0 3,oE 14 7 1 4,oA 5 13 3,oA 6 14 4]) (.seq (.ops [oM 15 6 4,oA 4 15 4]) .ret))
theorem xZ:Tryz.f108.body.map (BO lends)=some A3a:=by kernel_rfl
theorem AC1:Bi Tryz.f108 2=true:=by kernel_rfl
theorem AIw{a l:List D}{r:D×List D}(h:Bf Y.env A3a (EG AV l.length [ResultVar.tmp 4] r) (entry a l))(ha:a.length=2):Y.call 108 a l=some r:=
 AL (Y:=Y) rfl Tryz.func108 (ha▸AC1) xZ h
theorem NW(list:List (List Int))(labels:List Int){r:Bool}(h:GV list labels=some r):Y.call 108 [D.sl 27 (AB (fun x=>D.sl 3 (AB (D.int .i64) x)) list),D.sl 3 (AB (D.int .i64) labels)] []=some (D.bool r,[]):=by
 refine AIw ?_ rfl;unfold A3a;unfold GV at h;obtain⟨Cv,hl1,h⟩:=AU h;try dsimp only at h
 have c1:=Kj labels hl1;obtain⟨e2,h⟩:=Av h;have c3:=jJ Cv e2;obtain⟨DF,hl4,h⟩:=AU h;try dsimp only at h
 have c4:=u7 list (GK Cv) (fun a0 a1=>gCp a0 a1) 64 [] (fun a0 a1 _ hh=>eD a0 a1 hh) A2o hl4;cases h;simp (maxDischargeDepth:=9) only [↓AC,A7,AO,BM,AA,AJ,↓reduceIte,Nat.reduceEqDiff,Nat.reduceLT,Nat.reduceAdd,c1,c3,c4]
theorem nO(l:List (List Int))(x:List Int)(f:List Int→List Int→Option Int)(hl:l.length<1099511627776)(hf: ∀i,i<l.length→f (l.getD i default) x=some (cmpL (l.getD i default) x))(h:QF l=true):
  ∃r,gBS l x f=some (r,l.contains x):=by
 have key:=KD (fun v=>P7 l x f v.1 v.2)
  (fun m v=> ∃i j:Nat,v=((i:Int),(j:Int))∧i≤j∧j≤l.length∧m=j-i∧(∀k,k<i→cmpL (l.getD k default) x<0)∧(∀k,j≤k→k<l.length→ ¬cmpL (l.getD k default) x<0))
  (fun r=> ∃i:Nat,r=(i:Int)∧i≤l.length∧(∀k,k<i→cmpL (l.getD k default) x<0)∧(∀k,i≤k→k<l.length→ ¬cmpL (l.getD k default) x<0)) ?_ l.length (0,(l.length:Int)) ⟨0,l.length,rfl,Nat.zero_le _,Nat.le_refl _,by omega,fun k hk=>by omega,fun k h1 h2=>by omega⟩
 ·obtain⟨r,h1,i,rfl,hi,h2,h3⟩:=key;unfold gBS ZK;rw [h1,Option.bind_some];by_cases hlt:i<l.length
  ·rw [if_pos (by omega),Az (by omega),Int.toNat_natCast,hf i hlt,Option.bind_some]
   refine⟨(i:Int), ?_⟩
   congr 2
   rw [Bool.eq_iff_iff,decide_eq_true_eq,List.contains_iff_mem,eT]
   constructor
   ·intro e;exact⟨i,hlt,cmpL_eq _ _ e⟩
   ·rintro⟨k,hk,rfl⟩
    have k1: ¬k<i:=fun hki=>by have:=h2 k hki;rw [Sd]at this;omega
    have k2: ¬i<k:=fun hik=>h3 i (Nat.le_refl _) hlt (Vj h hik hk);have:k=i:=by omega
    subst this;exact Sd _
  ·rw [if_neg (by omega)]
   refine⟨(i:Int), ?_⟩
   congr 2
   symm
   rw [Bool.eq_false_iff];intro hc;obtain⟨k,hk,rfl⟩:=eT.1 (List.contains_iff_mem.1 hc);have:=h2 k (by omega)
   rw [Sd]at this;omega
 ·rintro m v ⟨i,j,rfl,hij,hj,rfl,h2,h3⟩
  simp only [P7];by_cases hlt:i<j
  ·have e1:(2:Int) ^ (min 1 (IntKind.u64.bits))=2:=by decide
   have e2:(((i:Int)+(j:Int)).fdiv 2)=(((i+j) / 2:Nat):Int):=by
    rw [Int.fdiv_eq_ediv_of_nonneg _ (by omega)];omega
   rw [if_pos (by omega),Ie ((i:Int)+j) (by omega),wrU _ (by omega),e1,e2,Ie _ (by omega),Az (by omega),Int.toNat_natCast,hf _ (by omega),Option.bind_some]
   left
   by_cases hc:cmpL (l.getD ((i+j) / 2) default) x<0
   ·rw [if_pos hc,Ie _ (by omega)]
    refine⟨_,j-((i+j) / 2+1),rfl,by omega,(i+j) / 2+1,j,rfl,by omega,hj,rfl,fun k hk=> ?_,h3⟩
    by_cases e:k=(i+j) / 2
    ·rw [e];exact hc
    ·exact QE _ _ _ (Vj h (by omega:k<(i+j) / 2) (by omega)) hc
   ·rw [if_neg hc]
    refine⟨_,(i+j) / 2-i,rfl,by omega,i,(i+j) / 2,rfl,by omega,by omega,rfl,h2,fun k hk1 hk2 hck=> ?_⟩
    by_cases e:k=(i+j) / 2
    ·rw [e]at hck;exact hc hck
    ·exact hc (QE _ _ _ (Vj h (by omega:(i+j) / 2<k) hk2) hck)
  ·rw [if_neg (by omega)]
   right
   have:i=j:=by omega
   subst this
   exact⟨_,rfl,i,rfl,hj,h2,h3⟩
theorem OL(l:List (List Int))(x:List Int)(hl:Ai l)(hx:x.length<1099511627776)(h:QF l=true):GV l x=some (l.contains (DI x)):=by
 unfold GV De;rw [Option.bind_some,Az hx,eQ];obtain⟨r,e⟩:=nO l (DI x) (fun a0 a1=>gCp a0 a1) hl.1 (fun i hi=>tC _ _ (hl.getD i) (by rw [Sc];exact hx)) h
 rw [e];rfl
theorem Jt(list:List (List Int))(labels:List Int)(h0:Ai list)(h1:labels.length<1099511627776)(h2:QF list=true):Y.call 108 [D.sl 27 (AB (fun x=>D.sl 3 (AB (D.int .i64) x)) list),D.sl 3 (AB (D.int .i64) labels)] []=some (D.bool (list.contains (DI labels)),[]):=NW list labels (OL list labels h0 h1 h2)
noncomputable def Gs(a b:List Int)(DY:Int):Option ((Int)⊕(Unit⊕Unit)):= if DY<(a.length:Int)then ck (0≤DY∧DY.toNat<a.length)<| ck (0≤DY∧DY.toNat<b.length)<| if(a.getD DY.toNat default)=(b.getD DY.toNat default)then some (Sum.inl (IntKind.i64.wrap (DY+1))) else some (Sum.inr (Sum.inl ())) else some (Sum.inr (Sum.inr ()))
noncomputable def Me(a b:List Int)(v:Int):Option (Unit⊕Unit):=Gb (fun v=>Gs a b v) v
noncomputable def NY(a b:List Int):Option (Bool):=
 if(a.length:Int)=(b.length:Int)then
  (Me a b 0).bind fun D6=>
  match D6 with
  | .inl q3_=>
   some false
  | .inr q3_=>
   some true
 else
  some false
def ZL:SC:= .seq (.ops [oB 14 .lss 3 (tK 13) (tK 12) 3 0]) (.seq (.cond (tK 14) .skip (.exit 0)) (.seq (.block 1 (.seq (.ops [oM 15 13 3,oA 5 15 3]) (.seq (.draws [(⟨[16,0,0],[16,17,18,19,20,21,22,23,24],[16]⟩,oM 16 0 27),(⟨[17,5,5],[16,17,18,19,20,21,22,23,24],[17]⟩,oM 17 5 3),(⟨[18,16,17,0,5],[16,17,18,19,20,21,22,23,24],[18]⟩,oI 18 27 16 17),(⟨[19,18,0],[16,17,18,19,20,21,22,23,24],[19]⟩,oL 19 3 18 3),(⟨[20,1,1],[16,17,18,19,20,21,22,23,24],[20]⟩,oM 20 1 27),(⟨[21,5,5],[16,17,18,19,20,21,22,23,24],[21]⟩,oM 21 5 3),(⟨[22,20,21,1,5],[16,17,18,19,20,21,22,23,24],[22]⟩,oI 22 27 20 21),(⟨[23,22,1],[16,17,18,19,20,21,22,23,24],[23]⟩,oL 23 3 22 3),(⟨[24,19,23,0,1],[16,17,18,19,20,21,22,23,24],[24]⟩,oB 24 .neq 3 (tK 19) (tK 23) 3 4)]) (.cond (tK 24) (.seq (.ops [oX 4 (.assign (.const (.bool false))) 4]) .ret) .skip)))) (.ops [oB 25 .add 3 (tK 13) (iK 1) 3 3,oM 13 25 3])))
def uA:SC:= .loop ZL
def k89:SC:= .seq (.ops [oX 4 (.assign (.const (.bool false))) 4]) (.seq (.seq (.ops [oM 6 0 27,oN 7 6 27,oM 8 1 27,oN 9 8 27,oB 10 .neq 3 (tK 7) (tK 9) 3 4]) (.cond (tK 10) (.seq (.ops [oX 4 (.assign (.const (.bool false))) 4]) .ret) .skip)) (.seq (.seq (.ops [oM 11 0 27,oN 12 11 27,oX 13 (.move (iK 0)) 3]) (.block 0 uA)) (.seq (.ops [oX 4 (.assign (.const (.bool true))) 4]) .ret)))
theorem A3b:Tryz.f89.body.map (BO lends)=some k89:=by kernel_rfl
theorem AIy:Bi Tryz.f89 2=true:=by kernel_rfl
theorem c89{a l:List D}{r:D×List D}(h:Bf Y.env k89 (EG AV l.length [ResultVar.tmp 4] r) (entry a l))(ha:a.length=2):Y.call 89 a l=some r:=
 AL (Y:=Y) rfl Tryz.func89 (ha▸AIy) A3b h
def FM(a b:List Int)(DY:Int)(s:St):Prop:=s.v 0=D.sl 3 (AB (D.int .i64) a)∧s.v 1=D.sl 3 (AB (D.int .i64) b)∧s.v 12=D.int .i64 (a.length:Int)∧s.v 13=D.int .i64 DY
def Gt(a b:List Int)(r:Unit⊕Unit)(ex:Ex)(s:St):Prop:=match r with
 | .inl q=>ex= .ret∧s.v 4=D.bool false
 | .inr q=>ex= .exit 0
theorem Vl(a b:List Int){v:Int}{s:St}{r:Unit⊕Unit}(h:Me a b v=some r)(hM:FM a b v s):Bf Y.env uA (Gt a b r) s:=by
 unfold Me at h;refine BA (c:=ZL) (fun v=>Gs a b v) (fun v s=>FM a b v s) (Gt a b) ?_ h hM;clear h hM s v r;intro DY s o hM h;unfold Gs at h;unfold FM at hM;obtain⟨m0,m1,m2,m3⟩:=hM;unfold ZL;by_cases e2:DY<(a.length:Int)
 ·rw [if_pos e2]at h;obtain⟨e3,h⟩:=Av h;obtain⟨e4,h⟩:=Av h;by_cases e5:(a.getD DY.toNat default)=(b.getD DY.toNat default)
  ·rw [if_pos e5]at h;cases h;simp (maxDischargeDepth:=9) only [↓AC,A7,AO,AA,AJ,↓reduceIte,Nat.reduceEqDiff,Nat.reduceLT,m0,m1,m2,m3,e2,e3.1,e3.2,e4.2,decide_eq_true e5,FM,FD]
  ·rw [if_neg e5]at h;cases h;simp (maxDischargeDepth:=9) only [↓AC,A7,AO,AA,AJ,↓reduceIte,Nat.reduceEqDiff,Nat.reduceLT,m0,m1,m2,m3,e2,e3.1,e3.2,e4.2,e5,FM,Gt,Pz]
 ·rw [if_neg e2]at h;cases h;simp (maxDischargeDepth:=9) only [↓AC,A7,AJ,↓reduceIte,Nat.reduceLT,m2,m3,e2,FM,Gt,JH]
theorem Pi(a b:List Int){r:Bool}(h:NY a b=some r):Y.call 89 [D.sl 3 (AB (D.int .i64) a),D.sl 3 (AB (D.int .i64) b)] []=some (D.bool r,[]):=by
 refine c89 ?_ rfl;unfold k89;unfold NY at h;by_cases e1:(a.length:Int)=(b.length:Int)
 ·rw [if_pos e1]at h;obtain⟨D6,hl3,h⟩:=AU h;try dsimp only at h
  simp (maxDischargeDepth:=9) only [↓AC,A7,AO,AA,AJ,↓reduceIte,Nat.reduceEqDiff,Nat.reduceLT,decide_eq_true e1];refine Ag (Vl a b hl3 ?_) ?_
  ·simp (maxDischargeDepth:=9) only [A7,AA,↓reduceIte,Nat.reduceEqDiff,Nat.reduceLT,FM]
  ·intro ex3 s3 hX3;rcases D6 with q3_ | q3_
   ·unfold Gt at hX3;dsimp only at hX3 h;obtain⟨rfl,n3_0⟩:=hX3;cases h;simp (maxDischargeDepth:=9) only [↓AC,A7,AA,↓reduceIte,n3_0]
   ·unfold Gt at hX3;dsimp only at hX3 h
    obtain rfl:=hX3
    cases h;simp (maxDischargeDepth:=9) only [↓AC,A7,AA,AJ,↓reduceIte,Nat.reduceEqDiff,Nat.reduceLT]
 ·rw [if_neg e1]at h;cases h;simp (maxDischargeDepth:=9) only [↓AC,A7,AO,AA,AJ,↓reduceIte,Nat.reduceEqDiff,Nat.reduceLT,e1]
noncomputable def II(l:List (List Int))(x_:List Int)(M0:Int):Option ((Int)⊕(Unit⊕Unit)):= if M0<(l.length:Int)then ck (0≤M0∧M0.toNat<l.length)<| (NY x_ (l.getD M0.toNat default)).bind fun D6=> if D6=true then some (Sum.inr (Sum.inl ())) else some (Sum.inl (IntKind.i64.wrap (M0+1))) else some (Sum.inr (Sum.inr ()))
noncomputable def O8(l:List (List Int))(x_:List Int)(v:Int):Option (Unit⊕Unit):=Gb (fun v=>II l x_ v) v
noncomputable def UG(l:List (List Int))(x_:List Int):Option (Bool):=
 (O8 l x_ 0).bind fun Au=>
 match Au with
 | .inl q2_=>
  some true
 | .inr q2_=>
  some false
def ZM:SC:= .seq (.ops [oB 10 .lss 3 (tK 9) (tK 8) 3 0]) (.seq (.cond (tK 10) .skip (.exit 0)) (.seq (.block 1 (.seq (.ops [oI 11 22 7 9,oL 12 27 11 27,oA 6 12 27]) (.seq (.ops [oM 13 1 27,oM 14 6 27,oC 15 89 [(tK 13),(tK 14)] [27,27] 4]) (.cond (tK 15) (.seq (.ops [oX 4 (.assign (.const (.bool true))) 4]) .ret) .skip)))) (.ops [oB 16 .add 3 (tK 9) (iK 1) 3 3,oM 9 16 3])))
def uB:SC:= .loop ZM
def k86:SC:= .seq (.ops [oX 4 (.assign (.const (.bool false))) 4]) (.seq (.seq (.ops [oM 7 0 22,oN 8 7 22,oX 9 (.move (iK 0)) 3]) (.block 0 uB)) (.seq (.ops [oX 4 (.assign (.const (.bool false))) 4]) .ret))
theorem A3c:Tryz.f86.body.map (BO lends)=some k86:=by kernel_rfl
theorem AJ0:Bi Tryz.f86 2=true:=by kernel_rfl
theorem c86{a l:List D}{r:D×List D}(h:Bf Y.env k86 (EG AV l.length [ResultVar.tmp 4] r) (entry a l))(ha:a.length=2):Y.call 86 a l=some r:=
 AL (Y:=Y) rfl Tryz.func86 (ha▸AJ0) A3c h
def GX(l:List (List Int))(x_:List Int)(M0:Int)(s:St):Prop:=s.v 1=D.sl 3 (AB (D.int .i64) x_)∧s.v 7=D.sl 27 (AB (fun x=>D.sl 3 (AB (D.int .i64) x)) l)∧s.v 8=D.int .i64 (l.length:Int)∧s.v 9=D.int .i64 M0
def IJ(l:List (List Int))(x_:List Int)(r:Unit⊕Unit)(ex:Ex)(s:St):Prop:=match r with
 | .inl q=>ex= .ret∧s.v 4=D.bool true
 | .inr q=>ex= .exit 0
theorem X9(l:List (List Int))(x_:List Int){v:Int}{s:St}{r:Unit⊕Unit}(h:O8 l x_ v=some r)(hM:GX l x_ v s):Bf Y.env uB (IJ l x_ r) s:=by
 unfold O8 at h;refine BA (c:=ZM) (fun v=>II l x_ v) (fun v s=>GX l x_ v s) (IJ l x_) ?_ h hM;clear h hM s v r;intro M0 s o hM h;unfold II at h;unfold GX at hM;obtain⟨m0,m1,m2,m3⟩:=hM;unfold ZM;by_cases e1:M0<(l.length:Int)
 ·rw [if_pos e1]at h;obtain⟨e2,h⟩:=Av h;obtain⟨D6,hl3,h⟩:=AU h;try dsimp only at h
  have c3:=Pi x_ (l.getD M0.toNat default) hl3;by_cases e4:D6=true
  ·rw [if_pos e4]at h;cases h;simp (maxDischargeDepth:=9) only [↓AC,A7,AO,BM,AA,AJ,↓reduceIte,Nat.reduceEqDiff,Nat.reduceLT,Nat.reduceAdd,m0,m1,m2,m3,e1,e2.1,e2.2,c3,e4,GX,IJ,Pz]
  ·rw [if_neg e4]at h;have e4f:D6=false:=Bool.eq_false_iff.mpr e4;cases h;simp (maxDischargeDepth:=9) only [↓AC,A7,AO,BM,AA,AJ,↓reduceIte,Nat.reduceEqDiff,Nat.reduceLT,Nat.reduceAdd,m0,m1,m2,m3,e1,e2.1,e2.2,c3,e4f,GX,FD]
 ·rw [if_neg e1]at h;cases h;simp (maxDischargeDepth:=9) only [↓AC,A7,AJ,↓reduceIte,Nat.reduceLT,m2,m3,e1,GX,IJ,JH]
theorem ZN(l:List (List Int))(x_:List Int){r:Bool}(h:UG l x_=some r):Y.call 86 [D.sl 27 (AB (fun x=>D.sl 3 (AB (D.int .i64) x)) l),D.sl 3 (AB (D.int .i64) x_)] []=some (D.bool r,[]):=by
 refine c86 ?_ rfl;unfold k86;unfold UG at h;obtain⟨Au,hl2,h⟩:=AU h;try dsimp only at h
 simp (maxDischargeDepth:=9) only [↓AC,A7,AO,AA,AJ,↓reduceIte,Nat.reduceEqDiff,Nat.reduceLT];refine Ag (X9 l x_ hl2 ?_) ?_
 ·simp (maxDischargeDepth:=9) only [A7,AA,↓reduceIte,Nat.reduceEqDiff,Nat.reduceLT,GX]
 ·intro ex2 s2 hX2;rcases Au with q2_ | q2_
  ·unfold IJ at hX2;dsimp only at hX2 h;obtain⟨rfl,n2_0⟩:=hX2;cases h;simp (maxDischargeDepth:=9) only [↓AC,A7,AA,↓reduceIte,n2_0]
  ·unfold IJ at hX2;dsimp only at hX2 h
   obtain rfl:=hX2
   cases h;simp (maxDischargeDepth:=9) only [↓AC,A7,AA,AJ,↓reduceIte,Nat.reduceEqDiff,Nat.reduceLT]
theorem Xv(a b:List Int)(ha:a.length<1099511627776):NY a b=some (decide (a=b)):=by
 unfold NY Me;by_cases hl:a.length=b.length
 ·rw [if_pos (by omega)]
  have key:=MN (fun v=>Gs a b v) (fun i=>(i:Int)) a.length (fun i=>decide (a.getD i default=b.getD i default)) (.inl ()) (.inr ()) ?_ ?_
  ·simp only [Int.natCast_zero]at key;rw [key,VK a b hl];by_cases he:a=b<;>simp [he]
  ·intro i hi;simp only [Gs];rw [if_pos (CJ hi),Az (FH hi),Az (FH (by omega)),Int.toNat_natCast,JM i (by omega)]<;>simp only [decide_eq_true_eq]
  ·simp only [Gs];rw [if_neg (Ak _)]
 ·rw [if_neg (by omega)]
  have: ¬a=b:=fun e=>hl (by rw [e])
  simp [this]
theorem jS(l:List (List Int))(x:List Int)(hl:l.length<1099511627776)(hx:x.length<1099511627776):UG l x=some (l.contains x):=by
 unfold UG O8;have key:=MN (fun v=>II l x v) (fun i=>(i:Int)) l.length (fun i=> !decide (x=l.getD i default)) (.inl ()) (.inr ()) ?_ ?_
 ·simp only [Int.natCast_zero]at key;rw [key,Option.bind_some];rw [VJ (fun y=> !decide (x=y)) l];by_cases hm:x∈l
  ·have:l.all (fun y=> !decide (x=y))=false:=by
    rw [Bool.eq_false_iff];intro hc;have:=List.all_eq_true.1 hc x hm
    simp at this
   rw [this,if_neg (by decide)]
   simp [hm]
  ·have:l.all (fun y=> !decide (x=y))=true:=by
    refine List.all_eq_true.2 fun y hy=> ?_;have: ¬x=y:=fun e=>hm (e▸hy)
    simp [this]
   rw [this,if_pos rfl];simp [hm]
 ·intro i hi;simp only [II];rw [if_pos (CJ hi),Az (FH hi),Int.toNat_natCast,Xv _ _ hx,Option.bind_some,JM i (by omega)]
  by_cases e:x=l.getD i default<;>simp [e]
 ·simp only [II];rw [if_neg (Ak _)]
theorem Vm(l:List (List Int))(x_:List Int)(h0:l.length<1099511627776)(h1:x_.length<1099511627776):Y.call 86 [D.sl 27 (AB (fun x=>D.sl 3 (AB (D.int .i64) x)) l),D.sl 3 (AB (D.int .i64) x_)] []=some (D.bool (l.contains x_),[]):=ZN l x_ (jS l x_ h0 h1)
end Go.Proofs.YtjhjkfoabhplfaaGreat
