/- Configurations looked up by halving and one by one, as membership. Conditions: the lists are short and increasing. -/
import Derived.Test.YtipfckompmhljaaGreatL6
import Derived.Test.YtipfckompmhljaaGreatSrt
namespace Go.Proofs.YtipfckompmhljaaGreat
open Go Dv
set_option linter.unusedSimpArgs false
set_option linter.unusedVariables false
set_option maxRecDepth 100000
set_option maxHeartbeats 4000000
theorem wrU(n:Int)(h:0≤n∧n<18446744073709551616):IntKind.u64.wrap n=n:=by
 unfold IntKind.wrap
 simp only [IntKind.signed,IntKind.bits]
 simp
 omega
theorem Sh(x:Int): ∀r,(Rf x r).Perm (x::r):=by
 intro r
 induction r with
 | nil=>exact List.Perm.refl _
 | cons y r ih=>
  unfold Rf
  split
  ·exact((List.perm_cons y).2 ih).trans (List.Perm.swap x y r)
  ·exact List.Perm.refl _
theorem ab(x:Int): ∀r,r.Pairwise (fun a b=>b≤a)→(Rf x r).Pairwise (fun a b=>b≤a):=by
 intro r
 induction r with
 | nil=>intro _;simp [Rf]
 | cons y r ih=>
  intro h
  obtain⟨h1,h2⟩:=List.pairwise_cons.1 h
  unfold Rf
  split
  ·rename_i hxy
   refine List.pairwise_cons.2 ⟨fun z hz=> ?_,ih h2⟩
   rcases List.mem_cons.1 ((Sh x r).mem_iff.1 hz)with rfl | hz
   ·omega
   ·exact h1 z hz
  ·rename_i hxy
   refine List.pairwise_cons.2 ⟨fun z hz=> ?_,h⟩
   rcases List.mem_cons.1 hz with rfl | hz
   ·omega
   ·have:=h1 z hz;omega
theorem YW: ∀(l r:List Int),(l.foldl (fun r x=>Rf x r) r).Perm (l++r):=by
 intro l
 induction l with
 | nil=>intro r;exact List.Perm.refl _
 | cons x l ih=>
  intro r
  simp only [List.foldl_cons]
  exact(ih _).trans (((List.Perm.refl l).append (Sh x r)).trans List.perm_middle)
theorem YX: ∀(l r:List Int),r.Pairwise (fun a b=>b≤a)→(l.foldl (fun r x=>Rf x r) r).Pairwise (fun a b=>b≤a):=by
 intro l
 induction l with
 | nil=>intro r h;exact h
 | cons x l ih=>intro r h;exact ih _ (ab x r h)
theorem M3(l:List Int):(Iv l).Perm l:=by
 unfold Iv
 have:=YW l []
 rw [List.append_nil]at this
 exact(List.reverse_perm _).trans this
theorem QV(l:List Int):(Iv l).Pairwise (fun a b=>a≤b):=by
 unfold Iv
 exact List.pairwise_reverse.2 (YX l [] List.Pairwise.nil)
theorem Wp(l:List Int):GA l=Iv l:=by
 refine List.Perm.eq_of_pairwise (le:=fun a b:Int=>a≤b) (fun a b _ _ h1 h2=>Int.le_antisymm h1 h2) ?_ (QV l) ((List.mergeSort_perm _ _).trans (M3 l).symm)
 have:=List.pairwise_mergeSort (le:=fun x y:Int=>decide (x≤y)) (fun a b c h1 h2=>by simp only [decide_eq_true_eq]at*;omega) (fun a b=>by simp only [Bool.or_eq_true,decide_eq_true_eq];omega) l
 unfold GA
 exact this.imp (fun h=>by simpa using h)
theorem Si(l:List Int):(Iv l).length=l.length:=(M3 l).length_eq
theorem ac(a b:Int):Iv [a,b]=if b<a then [b,a]else [a,b]:=by
 unfold Iv
 simp only [List.foldl_cons,List.foldl_nil,Rf]
 by_cases h:b<a<;>simp [h]
theorem Nv: ∀a:List Int,DR a a=0:=by
 intro a
 induction a with
 | nil=>rfl
 | cons x a ih=>unfold DR;rw [if_pos rfl,ih]
theorem gM: ∀(a b:List Int),DR a b=0→a=b:=by
 intro a
 induction a with
 | nil=>intro b h;cases b with
  | nil=>rfl
  | cons y b=>simp [DR]at h
 | cons x a ih=>intro b h;cases b with
  | nil=>simp [DR]at h
  | cons y b=>
   unfold DR at h
   split at h
   ·rename_i e;rw [e,ih b h]
   ·split at h<;>simp at h
theorem M4: ∀(a b c:List Int),DR a b<0→DR b c<0→DR a c<0:=by
 intro a
 induction a with
 | nil=>intro b c h1 h2;cases c with
  | nil=>cases b with
   | nil=>simp [DR]at h1
   | cons y b=>simp [DR]at h2
  | cons z c=>simp [DR]
 | cons x a ih=>intro b c h1 h2;cases b with
  | nil=>simp [DR]at h1
  | cons y b=>cases c with
   | nil=>simp [DR]at h2
   | cons z c=>
    unfold DR at h1 h2 ⊢
    by_cases e1:x=y
    ·subst e1
     rw [if_pos rfl]at h1
     by_cases e2:x=z
     ·subst e2
      rw [if_pos rfl]at h2 ⊢
      exact ih b c h1 h2
     ·rw [if_neg e2]at h2 ⊢;exact h2
    ·rw [if_neg e1]at h1
     have l1:x<y:=by
      by_cases hl:x<y
      ·exact hl
      ·rw [if_neg hl]at h1;omega
     by_cases e2:y=z
     ·subst e2
      rw [if_neg e1,if_pos l1];decide
     ·rw [if_neg e2]at h2
      have l2:y<z:=by
       by_cases hl:y<z
       ·exact hl
       ·rw [if_neg hl]at h2;omega
      rw [if_neg (by omega),if_pos (by omega)];decide
def Om(l:List (List Int)):Bool:=(List.range l.length).all fun i=>decide (i=0)||decide (DR (l.getD (i-1) default) (l.getD i default)<0)
theorem gN{l:List (List Int)}(h:Om l=true): ∀(d i:Nat),i+d+1<l.length→DR (l.getD i default) (l.getD (i+d+1) default)<0:=by
 have step: ∀i,i+1<l.length→DR (l.getD i default) (l.getD (i+1) default)<0:=fun i hi=>by
  have:=BW.1 h (i+1) hi
  simpa using this
 intro d
 induction d with
 | zero=>intro i hi;exact step i hi
 | succ d ih=>
  intro i hi
  exact M4 _ _ _ (ih i (by omega)) (step (i+d+1) (by omega))
theorem QW{l:List (List Int)}(h:Om l=true){i j:Nat}(hij:i<j)(hj:j<l.length):DR (l.getD i default) (l.getD j default)<0:=by
 have:=gN h (j-i-1) i (by omega)
 rwa [show i+(j-i-1)+1=j by omega]at this
theorem ae{l:List (List Int)}{s n:Int}(h:GB l s n=true):Om l=true:=by
 refine BW.2 fun i hi=> ?_
 have:=BW.1 h i hi
 unfold JD at this
 rw [Bool.and_eq_true]at this
 exact this.2
theorem Mx{l:List (List Int)}{x:List Int}:x∈l↔ ∃k,k<l.length∧l.getD k default=x:=by
 constructor
 ·intro h
  obtain⟨k,hk,e⟩:=List.getElem_of_mem h
  exact⟨k,hk,by rw [List.getD_eq_getElem?_getD,List.getElem?_eq_getElem hk];exact e⟩
 ·rintro⟨k,hk,rfl⟩
  rw [List.getD_eq_getElem?_getD,List.getElem?_eq_getElem hk];exact List.getElem_mem hk
noncomputable def C6(s_:List Int):Option ((List Int)):=
 some s_
def k97:SC:=
 .seq
 (.ops [
 ⟨some 1, .box 26 (.tmp 0),0,none⟩,
 ⟨some 2, .assign (.const .nilFunc),116,none⟩])
 (.seq
 (.ops [
 ⟨some 3, .makeFunc (Fn.func 110) #[] #[(.tmp 1)],115,none⟩,
 ⟨some 2, .assign (.tmp 3),116,none⟩])
 .ret)
theorem mV:Tryz.f97.body.map (Am lends)=some k97:=by kernel_rfl
theorem A3h:As Tryz.f97 1=true:=by kernel_rfl
theorem c97{a l:List D}{r:D×List D}(h:Av Y.env k97 (fin AJ l.length [ResultVar.tmp 2] r) (entry a l))(ha:a.length=1):Y.call 97 a l=some r:=
 AC (Y:=Y) rfl Tryz.func97 (ha▸A3h) mV h
theorem He(s_:List Int){r:(List Int)}(h:C6 s_=some r):Y.call 97 [D.sl 3 (A9 (D.int .i64) s_)] []=some (D.clo 110 [D.cptr [D.sl 3 (A9 (D.int .i64) r)]],[]):=by
 refine c97 ?_ rfl
 unfold k97
 unfold C6 at h
 cases h
 simp (maxDischargeDepth:=9) only [↓A8,A1,A6,AA,↓reduceIte,Nat.reduceEqDiff,Nat.reduceLT]
noncomputable def Ky(x_:List (List Int))(target:List Int)(cmp:(List Int)→(List Int)→Option Int)(i j:Int):Option ((Int×Int)⊕(Int)):=
 if i<j then
  ck (0≤IntKind.i64.wrap ((IntKind.u64.wrap (IntKind.i64.wrap (i+j))).fdiv (2 ^ (min 1 (IntKind.u64.bits))))∧(IntKind.i64.wrap ((IntKind.u64.wrap (IntKind.i64.wrap (i+j))).fdiv (2 ^ (min 1 (IntKind.u64.bits))))).toNat<x_.length)<|
  (cmp (x_.getD ((IntKind.i64.wrap ((IntKind.u64.wrap (IntKind.i64.wrap (i+j))).fdiv (2 ^ (min 1 (IntKind.u64.bits))))).toNat) default) target).bind fun FF=>
  if FF<0 then
   some (Sum.inl (IntKind.i64.wrap ((IntKind.i64.wrap ((IntKind.u64.wrap (IntKind.i64.wrap (i+j))).fdiv (2 ^ (min 1 (IntKind.u64.bits)))))+1),j))
  else
   some (Sum.inl (i,IntKind.i64.wrap ((IntKind.u64.wrap (IntKind.i64.wrap (i+j))).fdiv (2 ^ (min 1 (IntKind.u64.bits))))))
 else
  some (Sum.inr i)
noncomputable def U0(x_:List (List Int))(target:List Int)(cmp:(List Int)→(List Int)→Option Int)(v:Int×Int):Option (Int):=DT (fun v=>Ky x_ target cmp v.1 v.2) v
noncomputable def xQ(x_:List (List Int))(target:List Int)(cmp:(List Int)→(List Int)→Option Int):Option (Int×Bool):=
 (U0 x_ target cmp (0,(x_.length:Int))).bind fun Au=>
 if Au<(x_.length:Int)then
  ck (0≤Au∧Au.toNat<x_.length)<|
  (cmp (x_.getD Au.toNat default) target).bind fun Gn=>
  some (Au,(decide (Gn=0)))
 else
  some (Au,false)
def U1:SC:=
 .seq
 (.seq
 (.ops [
 ⟨some 15, .move (.tmp 9),3,none⟩,
 ⟨some 16, .move (.tmp 10),3,none⟩,
 ⟨some 17, .binOp .lss 3 (.tmp 15) (.tmp 16) 3,4,none⟩])
 (.cond (.tmp 17)
 .skip
 (.exit 0)))
 (.block 1
 (.seq
 (.ops [
 ⟨some 18, .move (.tmp 9),3,none⟩,
 ⟨some 19, .move (.tmp 10),3,none⟩,
 ⟨some 20, .binOp .add 3 (.tmp 18) (.tmp 19) 3,3,none⟩,
 ⟨some 21, .convert 3 87 (.tmp 20),87,none⟩,
 ⟨some 22, .binOp .shr 87 (.tmp 21) (.const (.int .u64 1)) 87,87,none⟩,
 ⟨some 23, .convert 87 3 (.tmp 22),3,none⟩,
 ⟨some 11, .assign (.tmp 23),3,none⟩])
 (.seq
 (.ops [
 ⟨some 24, .move (.tmp 2),91,none⟩,
 ⟨some 25, .move (.tmp 0),22,none⟩,
 ⟨some 26, .move (.tmp 11),3,none⟩,
 ⟨some 27, .indexAddr 22 (.tmp 25) (.tmp 26),0,none⟩,
 ⟨some 28, .load 26 (.tmp 27),26,none⟩,
 ⟨some 29, .move (.tmp 1),26,none⟩,
 ⟨some 30, .call ⟨(.value (.tmp 24)), #[(.tmp 28),(.tmp 29)], #[26,26]⟩,3,none⟩,
 ⟨some 31, .binOp .lss 3 (.tmp 30) (.const (.int .i64 0)) 3,4,none⟩])
 (.cond (.tmp 31)
 (.ops [
 ⟨some 32, .move (.tmp 11),3,none⟩,
 ⟨some 33, .binOp .add 3 (.tmp 32) (.const (.int .i64 1)) 3,3,none⟩,
 ⟨some 9, .assign (.tmp 33),3,none⟩])
 (.ops [
 ⟨some 34, .move (.tmp 11),3,none⟩,
 ⟨some 10, .assign (.tmp 34),3,none⟩])))))
def dO:SC:= .loop U1
def k95:SC:=
 .seq
 (.ops [
 ⟨some 6, .assign (.const (.int .i64 0)),3,none⟩,
 ⟨some 7, .assign (.const (.bool false)),4,none⟩])
 (.seq
 (.ops [
 ⟨some 12, .move (.tmp 0),22,none⟩,
 ⟨some 13, .call ⟨(.builtin .len), #[(.tmp 12)], #[22]⟩,3,none⟩,
 ⟨some 8, .assign (.tmp 13),3,none⟩])
 (.seq
 (.ops [
 ⟨some 14, .move (.tmp 8),3,none⟩,
 ⟨some 9, .assign (.const (.int .i64 0)),3,none⟩,
 ⟨some 10, .assign (.tmp 14),3,none⟩])
 (.seq
 (.block 0
 dO)
 (.seq
 (.ops [
 ⟨some 35, .move (.tmp 9),3,none⟩,
 ⟨some 36, .move (.tmp 9),3,none⟩,
 ⟨some 37, .move (.tmp 8),3,none⟩,
 ⟨some 38, .binOp .lss 3 (.tmp 36) (.tmp 37) 3,4,none⟩,
 ⟨some 39, .move (.tmp 38),4,none⟩,
 ⟨some 40, .move (.tmp 2),91,(some (some 39,true))⟩,
 ⟨some 41, .move (.tmp 0),22,(some (some 39,true))⟩,
 ⟨some 42, .move (.tmp 9),3,(some (some 39,true))⟩,
 ⟨some 43, .indexAddr 22 (.tmp 41) (.tmp 42),0,(some (some 39,true))⟩,
 ⟨some 44, .load 26 (.tmp 43),26,(some (some 39,true))⟩,
 ⟨some 45, .move (.tmp 1),26,(some (some 39,true))⟩,
 ⟨some 46, .call ⟨(.value (.tmp 40)), #[(.tmp 44),(.tmp 45)], #[26,26]⟩,3,(some (some 39,true))⟩,
 ⟨some 47, .binOp .eql 3 (.tmp 46) (.const (.int .i64 0)) 3,4,(some (some 39,true))⟩,
 ⟨some 48, .pick (.tmp 39) (.tmp 47) (.const (.bool false)),4,none⟩,
 ⟨some 6, .assign (.tmp 35),3,none⟩,
 ⟨some 7, .assign (.tmp 48),4,none⟩])
 .ret))))
theorem mW:Tryz.f95.body.map (Am lends)=some k95:=by kernel_rfl
theorem A3j:As Tryz.f95 3=true:=by kernel_rfl
theorem c95{a l:List D}{r:D×List D}(h:Av Y.env k95 (fin AJ l.length [ResultVar.tmp 6,ResultVar.tmp 7] r) (entry a l))(ha:a.length=3):Y.call 95 a l=some r:=
 AC (Y:=Y) rfl Tryz.func95 (ha▸A3j) mW h
def IV(x_:List (List Int))(target:List Int)(cmp:(List Int)→(List Int)→Option Int)(cmp_f:FuncId)(cmp_c:List D)(i j:Int)(s:St):Prop:=s.v 0=D.sl 26 (A9 (fun x=>D.sl 3 (A9 (D.int .i64) x)) x_)∧s.v 1=D.sl 3 (A9 (D.int .i64) target)∧s.v 2=D.clo cmp_f cmp_c∧s.v 8=D.int .i64 (x_.length:Int)∧s.v 9=D.int .i64 i∧s.v 10=D.int .i64 j
def My(x_:List (List Int))(target:List Int)(cmp:(List Int)→(List Int)→Option Int)(cmp_f:FuncId)(cmp_c:List D)(r:Int)(ex:Ex)(s:St):Prop:=ex= .exit 0∧s.v 0=D.sl 26 (A9 (fun x=>D.sl 3 (A9 (D.int .i64) x)) x_)∧s.v 1=D.sl 3 (A9 (D.int .i64) target)∧s.v 2=D.clo cmp_f cmp_c∧s.v 8=D.int .i64 (x_.length:Int)∧s.v 9=D.int .i64 r
theorem af(x_:List (List Int))(target:List Int)(cmp:(List Int)→(List Int)→Option Int)(cmp_f:FuncId)(cmp_c:List D)(cmp_h: ∀(a0 a1:List Int) (r:Int),cmp a0 a1=some r→Y.call cmp_f (D.sl 3 (A9 (D.int .i64) a0)::D.sl 3 (A9 (D.int .i64) a1)::cmp_c) []=some (D.int .i64 r,[]))(cmp_l:lends cmp_f=false){v:Int×Int}{s:St}{r:Int}(h:U0 x_ target cmp v=some r)(hM:IV x_ target cmp cmp_f cmp_c v.1 v.2 s):Av Y.env dO (My x_ target cmp cmp_f cmp_c r) s:=by
 unfold U0 at h
 refine Aa (c:=U1) (fun v=>Ky x_ target cmp v.1 v.2) (fun v s=>IV x_ target cmp cmp_f cmp_c v.1 v.2 s) (My x_ target cmp cmp_f cmp_c) ?_ h hM
 clear h hM s v r
 intro v s o hM h
 obtain⟨i,j⟩:=v
 dsimp only at h hM
 unfold Ky at h
 unfold IV at hM
 obtain⟨m0,m1,m2,m3,m4,m5⟩:=hM
 unfold U1
 by_cases e1:i<j
 ·rw [if_pos e1]at h
  obtain⟨e2,h⟩:=Ae h
  obtain⟨FF,hl3,h⟩:=AL h
  try dsimp only at h
  have c3:=cmp_h _ _ _ hl3
  by_cases e4:FF<0
  ·rw [if_pos e4]at h
   cases h
   simp (maxDischargeDepth:=9) only [↓A8,A1,AE,Ap,A6,AA,↓reduceIte,Nat.reduceEqDiff,Nat.reduceLT,Nat.reduceAdd,Int.reduceLT,Int.reduceToNat,m0,m1,m2,m3,m4,m5,cmp_l,e1,e2.1,e2.2,c3,e4,IV,Ei]
  ·rw [if_neg e4]at h
   cases h
   simp (maxDischargeDepth:=9) only [↓A8,A1,AE,Ap,A6,AA,↓reduceIte,Nat.reduceEqDiff,Nat.reduceLT,Nat.reduceAdd,Int.reduceLT,Int.reduceToNat,m0,m1,m2,m3,m4,m5,cmp_l,e1,e2.1,e2.2,c3,e4,IV,Ei]
 ·rw [if_neg e1]at h
  cases h
  simp (maxDischargeDepth:=9) only [↓A8,A1,AA,↓reduceIte,Nat.reduceEqDiff,Nat.reduceLT,m0,m1,m2,m3,m4,m5,e1,IV,My,Ge]
theorem dP(x_:List (List Int))(target:List Int)(cmp:(List Int)→(List Int)→Option Int)(cmp_f:FuncId)(cmp_c:List D)(cmp_h: ∀(a0 a1:List Int) (r:Int),cmp a0 a1=some r→Y.call cmp_f (D.sl 3 (A9 (D.int .i64) a0)::D.sl 3 (A9 (D.int .i64) a1)::cmp_c) []=some (D.int .i64 r,[]))(cmp_l:lends cmp_f=false){r:Int×Bool}(h:xQ x_ target cmp=some r):Y.call 95 [D.sl 26 (A9 (fun x=>D.sl 3 (A9 (D.int .i64) x)) x_),D.sl 3 (A9 (D.int .i64) target),D.clo cmp_f cmp_c] []=some (D.tup [D.int .i64 r.1,D.bool r.2],[]):=by
 refine c95 ?_ rfl
 unfold k95
 unfold xQ at h
 obtain⟨Au,hl2,h⟩:=AL h
 try dsimp only at h
 simp (maxDischargeDepth:=9) only [↓A8,A1,AE,A6,AA,↓reduceIte,Nat.reduceEqDiff,Nat.reduceLT]
 refine AP (af x_ target cmp cmp_f cmp_c cmp_h cmp_l hl2 ?_) ?_
 ·simp (maxDischargeDepth:=9) only [A1,A6,↓reduceIte,Nat.reduceEqDiff,Nat.reduceLT,IV]
 ·intro ex2 s2 hX2
  unfold My at hX2
  obtain⟨rfl,n2_0,n2_1,n2_2,n2_3,n2_4⟩:=hX2
  by_cases e3:Au<(x_.length:Int)
  ·rw [if_pos e3]at h
   obtain⟨e4,h⟩:=Ae h
   obtain⟨Gn,hl5,h⟩:=AL h
   try dsimp only at h
   have c5:=cmp_h _ _ _ hl5
   cases h
   simp (maxDischargeDepth:=9) only [↓A8,A1,AE,Ap,A6,AA,↓reduceIte,Nat.reduceEqDiff,Nat.reduceLT,Nat.reduceAdd,cmp_l,n2_0,n2_1,n2_2,n2_3,n2_4,e3,e4.1,e4.2,c5]
  ·rw [if_neg e3]at h
   cases h
   simp (maxDischargeDepth:=9) only [↓A8,A1,A6,AA,↓reduceIte,Nat.reduceEqDiff,Nat.reduceLT,n2_3,n2_4,e3]
noncomputable def EJ(list:List (List Int))(labels:List Int):Option (Bool):=
 (C6 labels).bind fun BB=>
 ck (BB.length<1099511627776)<|
 (xQ list (GA BB) (fun a0 a1=>mI a0 a1)).bind fun EV=>
 some EV.2
def k87:SC:=
 .seq
 (.ops [
 ⟨some 4, .assign (.const (.bool false)),4,none⟩])
 (.seq
 (.ops [
 ⟨some 8, .move (.tmp 0),22,none⟩,
 ⟨some 9, .move (.tmp 1),26,none⟩,
 ⟨some 10, .call ⟨(.value (.func 97)), #[(.tmp 9)], #[26]⟩,116,none⟩,
 ⟨some 11, .call ⟨(.value (.func 96)), #[(.tmp 10)], #[116]⟩,26,none⟩,
 ⟨some 12, .call ⟨(.value (.func 95)), #[(.tmp 8),(.tmp 11),(.func 74)], #[22,26,91]⟩,112,none⟩,
 ⟨some 7, .move (.tmp 12),112,none⟩,
 ⟨some 13, .extract (.tmp 7) 0,3,none⟩,
 ⟨some 14, .extract (.tmp 7) 1,4,none⟩,
 ⟨some 5, .assign (.tmp 13),3,none⟩,
 ⟨some 6, .assign (.tmp 14),4,none⟩])
 (.seq
 (.ops [
 ⟨some 15, .move (.tmp 6),4,none⟩,
 ⟨some 4, .assign (.tmp 15),4,none⟩])
 .ret))
theorem mX:Tryz.f87.body.map (Am lends)=some k87:=by kernel_rfl
theorem A3l:As Tryz.f87 2=true:=by kernel_rfl
theorem c87{a l:List D}{r:D×List D}(h:Av Y.env k87 (fin AJ l.length [ResultVar.tmp 4] r) (entry a l))(ha:a.length=2):Y.call 87 a l=some r:=
 AC (Y:=Y) rfl Tryz.func87 (ha▸A3l) mX h
theorem JZ(list:List (List Int))(labels:List Int){r:Bool}(h:EJ list labels=some r):Y.call 87 [D.sl 26 (A9 (fun x=>D.sl 3 (A9 (D.int .i64) x)) list),D.sl 3 (A9 (D.int .i64) labels)] []=some (D.bool r,[]):=by
 refine c87 ?_ rfl
 unfold k87
 unfold EJ at h
 obtain⟨BB,hl1,h⟩:=AL h
 try dsimp only at h
 have c1:=He labels hl1
 obtain⟨e2,h⟩:=Ae h
 have c3:=aS BB e2
 obtain⟨EV,hl4,h⟩:=AL h
 try dsimp only at h
 have c4:=dP list (GA BB) (fun a0 a1=>mI a0 a1) 74 [] (fun a0 a1 _ hh=>Wk a0 a1 hh) lY hl4
 cases h
 simp (maxDischargeDepth:=9) only [↓A8,A1,AE,Ap,A6,AA,↓reduceIte,Nat.reduceEqDiff,Nat.reduceLT,Nat.reduceAdd,c1,c3,c4]
theorem ah(l:List (List Int))(x:List Int)(f:List Int→List Int→Option Int)(hl:l.length<1099511627776)(hf: ∀i,i<l.length→f (l.getD i default) x=some (DR (l.getD i default) x))(h:Om l=true):
  ∃r,xQ l x f=some (r,l.contains x):=by
 have key:=ZG (fun v=>Ky l x f v.1 v.2)
  (fun m v=> ∃i j:Nat,v=((i:Int),(j:Int))∧i≤j∧j≤l.length∧m=j-i∧(∀k,k<i→DR (l.getD k default) x<0)∧(∀k,j≤k→k<l.length→ ¬DR (l.getD k default) x<0))
  (fun r=> ∃i:Nat,r=(i:Int)∧i≤l.length∧(∀k,k<i→DR (l.getD k default) x<0)∧(∀k,i≤k→k<l.length→ ¬DR (l.getD k default) x<0)) ?_ l.length (0,(l.length:Int)) ⟨0,l.length,rfl,Nat.zero_le _,Nat.le_refl _,by omega,fun k hk=>by omega,fun k h1 h2=>by omega⟩
 ·obtain⟨r,h1,i,rfl,hi,h2,h3⟩:=key
  unfold xQ U0
  rw [h1,Option.bind_some]
  by_cases hlt:i<l.length
  ·rw [if_pos (by omega),Ac (by omega),Int.toNat_natCast,hf i hlt,Option.bind_some]
   refine⟨(i:Int), ?_⟩
   congr 2
   rw [Bool.eq_iff_iff,decide_eq_true_eq,List.contains_iff_mem,Mx]
   constructor
   ·intro e;exact⟨i,hlt,gM _ _ e⟩
   ·rintro⟨k,hk,rfl⟩
    have k1: ¬k<i:=fun hki=>by have:=h2 k hki;rw [Nv]at this;omega
    have k2: ¬i<k:=fun hik=>h3 i (Nat.le_refl _) hlt (QW h hik hk)
    have:k=i:=by omega
    subst this
    exact Nv _
  ·rw [if_neg (by omega)]
   refine⟨(i:Int), ?_⟩
   congr 2
   symm
   rw [Bool.eq_false_iff]
   intro hc
   obtain⟨k,hk,rfl⟩:=Mx.1 (List.contains_iff_mem.1 hc)
   have:=h2 k (by omega)
   rw [Nv]at this
   omega
 ·rintro m v ⟨i,j,rfl,hij,hj,rfl,h2,h3⟩
  simp only [Ky]
  by_cases hlt:i<j
  ·have e1:(2:Int) ^ (min 1 (IntKind.u64.bits))=2:=by decide
   have e2:(((i:Int)+(j:Int)).fdiv 2)=(((i+j) / 2:Nat):Int):=by
    rw [Int.fdiv_eq_ediv_of_nonneg _ (by omega)];omega
   rw [if_pos (by omega),Gl ((i:Int)+j) (by omega),wrU _ (by omega),e1,e2,Gl _ (by omega),Ac (by omega),Int.toNat_natCast,hf _ (by omega),Option.bind_some]
   left
   by_cases hc:DR (l.getD ((i+j) / 2) default) x<0
   ·rw [if_pos hc,Gl _ (by omega)]
    refine⟨_,j-((i+j) / 2+1),rfl,by omega,(i+j) / 2+1,j,rfl,by omega,hj,rfl,fun k hk=> ?_,h3⟩
    by_cases e:k=(i+j) / 2
    ·rw [e];exact hc
    ·exact M4 _ _ _ (QW h (by omega:k<(i+j) / 2) (by omega)) hc
   ·rw [if_neg hc]
    refine⟨_,(i+j) / 2-i,rfl,by omega,i,(i+j) / 2,rfl,by omega,by omega,rfl,h2,fun k hk1 hk2 hck=> ?_⟩
    by_cases e:k=(i+j) / 2
    ·rw [e]at hck;exact hc hck
    ·exact hc (M4 _ _ _ (QW h (by omega:(i+j) / 2<k) hk2) hck)
  ·rw [if_neg (by omega)]
   right
   have:i=j:=by omega
   subst this
   exact⟨_,rfl,i,rfl,hj,h2,h3⟩
theorem KI(l:List (List Int))(x:List Int)(hl:Ab l)(hx:x.length<1099511627776)(h:Om l=true):EJ l x=some (l.contains (Iv x)):=by
 unfold EJ C6
 rw [Option.bind_some,Ac hx,Wp]
 obtain⟨r,e⟩:=ah l (Iv x) (fun a0 a1=>mI a0 a1) hl.1 (fun i hi=>dD _ _ (hl.getD i) (by rw [Si];exact hx)) h
 rw [e];rfl
theorem KJ(list:List (List Int))(labels:List Int)(h0:Ab list)(h1:labels.length<1099511627776)(h2:Om list=true):Y.call 87 [D.sl 26 (A9 (fun x=>D.sl 3 (A9 (D.int .i64) x)) list),D.sl 3 (A9 (D.int .i64) labels)] []=some (D.bool (list.contains (Iv labels)),[]):=JZ list labels (KI list labels h0 h1 h2)
noncomputable def Ep(a b:List Int)(Mz:Int):Option ((Int)⊕(Unit⊕Unit)):=
 if Mz<(a.length:Int)then
  ck (0≤Mz∧Mz.toNat<a.length)<|
  ck (0≤Mz∧Mz.toNat<b.length)<|
  if(a.getD Mz.toNat default)=(b.getD Mz.toNat default)then
   some (Sum.inl (IntKind.i64.wrap (Mz+1)))
  else
   some (Sum.inr (Sum.inl ()))
 else
  some (Sum.inr (Sum.inr ()))
noncomputable def Iw(a b:List Int)(v:Int):Option (Unit⊕Unit):=DT (fun v=>Ep a b v) v
noncomputable def Kz(a b:List Int):Option (Bool):=
 if(a.length:Int)=(b.length:Int)then
  (Iw a b 0).bind fun FF=>
  match FF with
  | .inl q3_=>
   some false
  | .inr q3_=>
   some true
 else
  some false
def QX:SC:=
 .seq
 (.ops [
 ⟨some 14, .binOp .lss 3 (.tmp 13) (.tmp 12) 3,0,none⟩])
 (.seq
 (.cond (.tmp 14)
 .skip
 (.exit 0))
 (.seq
 (.block 1
 (.seq
 (.ops [
 ⟨some 15, .move (.tmp 13),3,none⟩,
 ⟨some 5, .assign (.tmp 15),3,none⟩])
 (.seq
 (.draws [
 (⟨[16,0,0],[16,17,18,19,20,21,22,23,24],[16]⟩,⟨some 16, .move (.tmp 0),26,none⟩),
 (⟨[17,5,5],[16,17,18,19,20,21,22,23,24],[17]⟩,⟨some 17, .move (.tmp 5),3,none⟩),
 (⟨[18,16,17,0,5],[16,17,18,19,20,21,22,23,24],[18]⟩,⟨some 18, .indexAddr 26 (.tmp 16) (.tmp 17),0,none⟩),
 (⟨[19,18,0],[16,17,18,19,20,21,22,23,24],[19]⟩,⟨some 19, .load 3 (.tmp 18),3,none⟩),
 (⟨[20,1,1],[16,17,18,19,20,21,22,23,24],[20]⟩,⟨some 20, .move (.tmp 1),26,none⟩),
 (⟨[21,5,5],[16,17,18,19,20,21,22,23,24],[21]⟩,⟨some 21, .move (.tmp 5),3,none⟩),
 (⟨[22,20,21,1,5],[16,17,18,19,20,21,22,23,24],[22]⟩,⟨some 22, .indexAddr 26 (.tmp 20) (.tmp 21),0,none⟩),
 (⟨[23,22,1],[16,17,18,19,20,21,22,23,24],[23]⟩,⟨some 23, .load 3 (.tmp 22),3,none⟩),
 (⟨[24,19,23,0,1],[16,17,18,19,20,21,22,23,24],[24]⟩,⟨some 24, .binOp .neq 3 (.tmp 19) (.tmp 23) 3,4,none⟩)])
 (.cond (.tmp 24)
 (.seq
 (.ops [
 ⟨some 4, .assign (.const (.bool false)),4,none⟩])
 .ret)
 .skip))))
 (.ops [
 ⟨some 25, .binOp .add 3 (.tmp 13) (.const (.int .i64 1)) 3,3,none⟩,
 ⟨some 13, .move (.tmp 25),3,none⟩])))
def ZJ:SC:= .loop QX
def mY:SC:=
 .seq
 (.ops [
 ⟨some 4, .assign (.const (.bool false)),4,none⟩])
 (.seq
 (.seq
 (.ops [
 ⟨some 6, .move (.tmp 0),26,none⟩,
 ⟨some 7, .call ⟨(.builtin .len), #[(.tmp 6)], #[26]⟩,3,none⟩,
 ⟨some 8, .move (.tmp 1),26,none⟩,
 ⟨some 9, .call ⟨(.builtin .len), #[(.tmp 8)], #[26]⟩,3,none⟩,
 ⟨some 10, .binOp .neq 3 (.tmp 7) (.tmp 9) 3,4,none⟩])
 (.cond (.tmp 10)
 (.seq
 (.ops [
 ⟨some 4, .assign (.const (.bool false)),4,none⟩])
 .ret)
 .skip))
 (.seq
 (.seq
 (.ops [
 ⟨some 11, .move (.tmp 0),26,none⟩,
 ⟨some 12, .call ⟨(.builtin .len), #[(.tmp 11)], #[26]⟩,3,none⟩,
 ⟨some 13, .move (.const (.int .i64 0)),3,none⟩])
 (.block 0
 ZJ))
 (.seq
 (.ops [
 ⟨some 4, .assign (.const (.bool true)),4,none⟩])
 .ret)))
theorem gO:Tryz.f108.body.map (Am lends)=some mY:=by kernel_rfl
theorem xR:As Tryz.f108 2=true:=by kernel_rfl
theorem A3m{a l:List D}{r:D×List D}(h:Av Y.env mY (fin AJ l.length [ResultVar.tmp 4] r) (entry a l))(ha:a.length=2):Y.call 108 a l=some r:=
 AC (Y:=Y) rfl Tryz.func108 (ha▸xR) gO h
def DJ(a b:List Int)(Mz:Int)(s:St):Prop:=s.v 0=D.sl 3 (A9 (D.int .i64) a)∧s.v 1=D.sl 3 (A9 (D.int .i64) b)∧s.v 12=D.int .i64 (a.length:Int)∧s.v 13=D.int .i64 Mz
def Er(a b:List Int)(r:Unit⊕Unit)(ex:Ex)(s:St):Prop:=match r with
 | .inl q=>ex= .ret∧s.v 4=D.bool false
 | .inr q=>ex= .exit 0
theorem QY(a b:List Int){v:Int}{s:St}{r:Unit⊕Unit}(h:Iw a b v=some r)(hM:DJ a b v s):Av Y.env ZJ (Er a b r) s:=by
 unfold Iw at h
 refine Aa (c:=QX) (fun v=>Ep a b v) (fun v s=>DJ a b v s) (Er a b) ?_ h hM
 clear h hM s v r
 intro Mz s o hM h
 unfold Ep at h
 unfold DJ at hM
 obtain⟨m0,m1,m2,m3⟩:=hM
 unfold QX
 by_cases e2:Mz<(a.length:Int)
 ·rw [if_pos e2]at h
  obtain⟨e3,h⟩:=Ae h
  obtain⟨e4,h⟩:=Ae h
  by_cases e5:(a.getD Mz.toNat default)=(b.getD Mz.toNat default)
  ·rw [if_pos e5]at h
   cases h
   simp (maxDischargeDepth:=9) only [↓A8,A1,AE,A6,AA,↓reduceIte,Nat.reduceEqDiff,Nat.reduceLT,m0,m1,m2,m3,e2,e3.1,e3.2,e4.2,decide_eq_true e5,DJ,Ei]
  ·rw [if_neg e5]at h
   cases h
   simp (maxDischargeDepth:=9) only [↓A8,A1,AE,A6,AA,↓reduceIte,Nat.reduceEqDiff,Nat.reduceLT,m0,m1,m2,m3,e2,e3.1,e3.2,e4.2,e5,DJ,Er,Ho]
 ·rw [if_neg e2]at h
  cases h
  simp (maxDischargeDepth:=9) only [↓A8,A1,AA,↓reduceIte,Nat.reduceLT,m2,m3,e2,DJ,Er,Ge]
theorem Rg(a b:List Int){r:Bool}(h:Kz a b=some r):Y.call 108 [D.sl 3 (A9 (D.int .i64) a),D.sl 3 (A9 (D.int .i64) b)] []=some (D.bool r,[]):=by
 refine A3m ?_ rfl
 unfold mY
 unfold Kz at h
 by_cases e1:(a.length:Int)=(b.length:Int)
 ·rw [if_pos e1]at h
  obtain⟨FF,hl3,h⟩:=AL h
  try dsimp only at h
  simp (maxDischargeDepth:=9) only [↓A8,A1,AE,A6,AA,↓reduceIte,Nat.reduceEqDiff,Nat.reduceLT,decide_eq_true e1]
  refine AP (QY a b hl3 ?_) ?_
  ·simp (maxDischargeDepth:=9) only [A1,A6,↓reduceIte,Nat.reduceEqDiff,Nat.reduceLT,DJ]
  ·intro ex3 s3 hX3
   rcases FF with q3_ | q3_
   ·unfold Er at hX3
    dsimp only at hX3 h
    obtain⟨rfl,n3_0⟩:=hX3
    cases h
    simp (maxDischargeDepth:=9) only [↓A8,A1,A6,↓reduceIte,n3_0]
   ·unfold Er at hX3
    dsimp only at hX3 h
    obtain rfl:=hX3
    cases h
    simp (maxDischargeDepth:=9) only [↓A8,A1,A6,AA,↓reduceIte,Nat.reduceEqDiff,Nat.reduceLT]
 ·rw [if_neg e1]at h
  cases h
  simp (maxDischargeDepth:=9) only [↓A8,A1,AE,A6,AA,↓reduceIte,Nat.reduceEqDiff,Nat.reduceLT,e1]
noncomputable def Fm(l:List (List Int))(x_:List Int)(GY:Int):Option ((Int)⊕(Unit⊕Unit)):=
 if GY<(l.length:Int)then
  ck (0≤GY∧GY.toNat<l.length)<|
  (Kz x_ (l.getD GY.toNat default)).bind fun FF=>
  if FF=true then
   some (Sum.inr (Sum.inl ()))
  else
   some (Sum.inl (IntKind.i64.wrap (GY+1)))
 else
  some (Sum.inr (Sum.inr ()))
noncomputable def K4(l:List (List Int))(x_:List Int)(v:Int):Option (Unit⊕Unit):=DT (fun v=>Fm l x_ v) v
noncomputable def PE(l:List (List Int))(x_:List Int):Option (Bool):=
 (K4 l x_ 0).bind fun Au=>
 match Au with
 | .inl q2_=>
  some true
 | .inr q2_=>
  some false
def U2:SC:=
 .seq
 (.ops [
 ⟨some 10, .binOp .lss 3 (.tmp 9) (.tmp 8) 3,0,none⟩])
 (.seq
 (.cond (.tmp 10)
 .skip
 (.exit 0))
 (.seq
 (.block 1
 (.seq
 (.ops [
 ⟨some 11, .indexAddr 22 (.tmp 7) (.tmp 9),0,none⟩,
 ⟨some 12, .load 26 (.tmp 11),26,none⟩,
 ⟨some 6, .assign (.tmp 12),26,none⟩])
 (.seq
 (.ops [
 ⟨some 13, .move (.tmp 1),26,none⟩,
 ⟨some 14, .move (.tmp 6),26,none⟩,
 ⟨some 15, .call ⟨(.value (.func 108)), #[(.tmp 13),(.tmp 14)], #[26,26]⟩,4,none⟩])
 (.cond (.tmp 15)
 (.seq
 (.ops [
 ⟨some 4, .assign (.const (.bool true)),4,none⟩])
 .ret)
 .skip))))
 (.ops [
 ⟨some 16, .binOp .add 3 (.tmp 9) (.const (.int .i64 1)) 3,3,none⟩,
 ⟨some 9, .move (.tmp 16),3,none⟩])))
def dQ:SC:= .loop U2
def k90:SC:=
 .seq
 (.ops [
 ⟨some 4, .assign (.const (.bool false)),4,none⟩])
 (.seq
 (.seq
 (.ops [
 ⟨some 7, .move (.tmp 0),22,none⟩,
 ⟨some 8, .call ⟨(.builtin .len), #[(.tmp 7)], #[22]⟩,3,none⟩,
 ⟨some 9, .move (.const (.int .i64 0)),3,none⟩])
 (.block 0
 dQ))
 (.seq
 (.ops [
 ⟨some 4, .assign (.const (.bool false)),4,none⟩])
 .ret))
theorem mZ:Tryz.f90.body.map (Am lends)=some k90:=by kernel_rfl
theorem A3o:As Tryz.f90 2=true:=by kernel_rfl
theorem c90{a l:List D}{r:D×List D}(h:Av Y.env k90 (fin AJ l.length [ResultVar.tmp 4] r) (entry a l))(ha:a.length=2):Y.call 90 a l=some r:=
 AC (Y:=Y) rfl Tryz.func90 (ha▸A3o) mZ h
def EK(l:List (List Int))(x_:List Int)(GY:Int)(s:St):Prop:=s.v 1=D.sl 3 (A9 (D.int .i64) x_)∧s.v 7=D.sl 26 (A9 (fun x=>D.sl 3 (A9 (D.int .i64) x)) l)∧s.v 8=D.int .i64 (l.length:Int)∧s.v 9=D.int .i64 GY
def Fp(l:List (List Int))(x_:List Int)(r:Unit⊕Unit)(ex:Ex)(s:St):Prop:=match r with
 | .inl q=>ex= .ret∧s.v 4=D.bool true
 | .inr q=>ex= .exit 0
theorem Rh(l:List (List Int))(x_:List Int){v:Int}{s:St}{r:Unit⊕Unit}(h:K4 l x_ v=some r)(hM:EK l x_ v s):Av Y.env dQ (Fp l x_ r) s:=by
 unfold K4 at h
 refine Aa (c:=U2) (fun v=>Fm l x_ v) (fun v s=>EK l x_ v s) (Fp l x_) ?_ h hM
 clear h hM s v r
 intro GY s o hM h
 unfold Fm at h
 unfold EK at hM
 obtain⟨m0,m1,m2,m3⟩:=hM
 unfold U2
 by_cases e1:GY<(l.length:Int)
 ·rw [if_pos e1]at h
  obtain⟨e2,h⟩:=Ae h
  obtain⟨FF,hl3,h⟩:=AL h
  try dsimp only at h
  have c3:=Rg x_ (l.getD GY.toNat default) hl3
  by_cases e4:FF=true
  ·rw [if_pos e4]at h
   cases h
   simp (maxDischargeDepth:=9) only [↓A8,A1,AE,Ap,A6,AA,↓reduceIte,Nat.reduceEqDiff,Nat.reduceLT,Nat.reduceAdd,m0,m1,m2,m3,e1,e2.1,e2.2,c3,e4,EK,Fp,Ho]
  ·rw [if_neg e4]at h
   have e4f:FF=false:=Bool.eq_false_iff.mpr e4
   cases h
   simp (maxDischargeDepth:=9) only [↓A8,A1,AE,Ap,A6,AA,↓reduceIte,Nat.reduceEqDiff,Nat.reduceLT,Nat.reduceAdd,m0,m1,m2,m3,e1,e2.1,e2.2,c3,e4f,EK,Ei]
 ·rw [if_neg e1]at h
  cases h
  simp (maxDischargeDepth:=9) only [↓A8,A1,AA,↓reduceIte,Nat.reduceLT,m2,m3,e1,EK,Fp,Ge]
theorem U3(l:List (List Int))(x_:List Int){r:Bool}(h:PE l x_=some r):Y.call 90 [D.sl 26 (A9 (fun x=>D.sl 3 (A9 (D.int .i64) x)) l),D.sl 3 (A9 (D.int .i64) x_)] []=some (D.bool r,[]):=by
 refine c90 ?_ rfl
 unfold k90
 unfold PE at h
 obtain⟨Au,hl2,h⟩:=AL h
 try dsimp only at h
 simp (maxDischargeDepth:=9) only [↓A8,A1,AE,A6,AA,↓reduceIte,Nat.reduceEqDiff,Nat.reduceLT]
 refine AP (Rh l x_ hl2 ?_) ?_
 ·simp (maxDischargeDepth:=9) only [A1,A6,↓reduceIte,Nat.reduceEqDiff,Nat.reduceLT,EK]
 ·intro ex2 s2 hX2
  rcases Au with q2_ | q2_
  ·unfold Fp at hX2
   dsimp only at hX2 h
   obtain⟨rfl,n2_0⟩:=hX2
   cases h
   simp (maxDischargeDepth:=9) only [↓A8,A1,A6,↓reduceIte,n2_0]
  ·unfold Fp at hX2
   dsimp only at hX2 h
   obtain rfl:=hX2
   cases h
   simp (maxDischargeDepth:=9) only [↓A8,A1,A6,AA,↓reduceIte,Nat.reduceEqDiff,Nat.reduceLT]
theorem ai(a b:List Int)(ha:a.length<1099511627776):Kz a b=some (decide (a=b)):=by
 unfold Kz Iw
 by_cases hl:a.length=b.length
 ·rw [if_pos (by omega)]
  have key:=CE (fun v=>Ep a b v) (fun i=>(i:Int)) a.length (fun i=>decide (a.getD i default=b.getD i default)) (.inl ()) (.inr ()) ?_ ?_
  ·simp only [Int.natCast_zero]at key
   rw [key,Kl a b hl]
   by_cases he:a=b<;>simp [he]
  ·intro i hi
   simp only [Ep]
   rw [if_pos (Ak hi),Ac (BS hi),Ac (BS (by omega)),Int.toNat_natCast,Gm i (by omega)]<;>simp only [decide_eq_true_eq]
  ·simp only [Ep]
   rw [if_neg (AH _)]
 ·rw [if_neg (by omega)]
  have: ¬a=b:=fun e=>hl (by rw [e])
  simp [this]
theorem YY(l:List (List Int))(x:List Int)(hl:l.length<1099511627776)(hx:x.length<1099511627776):PE l x=some (l.contains x):=by
 unfold PE K4
 have key:=CE (fun v=>Fm l x v) (fun i=>(i:Int)) l.length (fun i=> !decide (x=l.getD i default)) (.inl ()) (.inr ()) ?_ ?_
 ·simp only [Int.natCast_zero]at key
  rw [key,Option.bind_some]
  rw [Mk (fun y=> !decide (x=y)) l]
  by_cases hm:x∈l
  ·have:l.all (fun y=> !decide (x=y))=false:=by
    rw [Bool.eq_false_iff];intro hc
    have:=List.all_eq_true.1 hc x hm
    simp at this
   rw [this,if_neg (by decide)]
   simp [hm]
  ·have:l.all (fun y=> !decide (x=y))=true:=by
    refine List.all_eq_true.2 fun y hy=> ?_
    have: ¬x=y:=fun e=>hm (e▸hy)
    simp [this]
   rw [this,if_pos rfl]
   simp [hm]
 ·intro i hi
  simp only [Fm]
  rw [if_pos (Ak hi),Ac (BS hi),Int.toNat_natCast,ai _ _ hx,Option.bind_some,Gm i (by omega)]
  by_cases e:x=l.getD i default<;>simp [e]
 ·simp only [Fm]
  rw [if_neg (AH _)]
theorem YZ(l:List (List Int))(x_:List Int)(h0:l.length<1099511627776)(h1:x_.length<1099511627776):Y.call 90 [D.sl 26 (A9 (fun x=>D.sl 3 (A9 (D.int .i64) x)) l),D.sl 3 (A9 (D.int .i64) x_)] []=some (D.bool (l.contains x_),[]):=U3 l x_ (YY l x_ h0 h1)
end Go.Proofs.YtipfckompmhljaaGreat
