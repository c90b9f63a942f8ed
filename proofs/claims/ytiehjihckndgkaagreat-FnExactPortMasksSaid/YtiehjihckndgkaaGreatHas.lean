/- Configurations looked up by halving and one by one, as membership. Conditions: the lists are short and increasing. -/
import Derived.Test.YtiehjihckndgkaaGreatL6
import Derived.Test.YtiehjihckndgkaaGreatSrt
namespace Go.Proofs.YtiehjihckndgkaaGreat
open Go Dv
set_option linter.unusedSimpArgs false
set_option linter.unusedVariables false
set_option maxRecDepth 100000
set_option maxHeartbeats 4000000
theorem wrU(n:Int)(h:0≤n∧n<18446744073709551616):IntKind.u64.wrap n=n:=by
 unfold IntKind.wrap;simp only [IntKind.signed,IntKind.bits]
 simp
 omega
theorem aJ(x:Int): ∀r,(ZM x r).Perm (x::r):=by
 intro r
 induction r with
 |nil=>exact List.Perm.refl _
 |cons y r ih=>
  unfold ZM;split
  ·exact((List.perm_cons y).2 ih).trans (List.Perm.swap x y r)
  ·exact List.Perm.refl _
theorem qo(x:Int): ∀r,r.Pairwise (fun a b=>b≤a)→(ZM x r).Pairwise (fun a b=>b≤a):=by
 intro r
 induction r with
 |nil=>intro _;simp [ZM]
 |cons y r ih=>
  intro h;obtain⟨h1,h2⟩:=List.pairwise_cons.1 h;unfold ZM;split
  ·rename_i hxy
   refine List.pairwise_cons.2 ⟨fun z hz=> ?_,ih h2⟩;rcases Rv.1 ((aJ x r).mem_iff.1 hz)with rfl|hz
   ·omega
   ·exact h1 z hz
  ·rename_i hxy
   refine List.pairwise_cons.2 ⟨fun z hz=> ?_,h⟩;rcases Rv.1 hz with rfl|hz
   ·omega
   ·have:=h1 z hz;omega
theorem mM: ∀(l r:List Int),(l.foldl (fun r x=>ZM x r) r).Perm (l++r):=by
 intro l
 induction l with
 |nil=>intro r;exact List.Perm.refl _
 |cons x l ih=>
  intro r;simp only [VE]
  exact(ih _).trans (((List.Perm.refl l).append (aJ x r)).trans List.perm_middle)
theorem mO: ∀(l r:List Int),r.Pairwise (fun a b=>b≤a)→(l.foldl (fun r x=>ZM x r) r).Pairwise (fun a b=>b≤a):=by
 intro l
 induction l with
 |nil=>intro r h;exact h
 |cons x l ih=>intro r h;exact ih _ (qo x r h)
theorem NN(l:List Int):(LK l).Perm l:=by
 unfold LK;have:=mM l []
 rw [WK]at this
 exact(List.reverse_perm _).trans this
theorem Re(l:List Int):(LK l).Pairwise (fun a b=>a≤b):=by
 unfold LK;exact List.pairwise_reverse.2 (mO l [] List.Pairwise.nil)
theorem jO(l:List Int):K3 l=LK l:=by
 refine List.Perm.eq_of_pairwise (le:=fun a b:Int=>a≤b) (fun a b _ _ h1 h2=>Int.le_antisymm h1 h2) ?_ (Re l) ((List.mergeSort_perm _ _).trans (NN l).symm);have:=List.pairwise_mergeSort (le:=fun x y:Int=>decide (x≤y)) (fun a b c h1 h2=>by simp only [decide_eq_true_eq]at*;omega) (fun a b=>by simp only [Rs,decide_eq_true_eq];omega) l
 unfold K3;exact this.imp (fun h=>by simpa using h)
theorem aK(l:List Int):(LK l).length=l.length:=(NN l).length_eq
theorem qp(a b:Int):LK [a,b]=if b<a then [b,a]else [a,b]:=by
 unfold LK;simp only [VE,List.foldl_nil,ZM];by_cases h:b<a<;>simp [h]
theorem UG: ∀a:List Int,I5 a a=0:=by
 intro a
 induction a with
 |nil=>rfl
 |cons x a ih=>unfold I5;rw [if_pos rfl,ih]
theorem zI: ∀(a b:List Int),I5 a b=0→a=b:=by
 intro a
 induction a with
 |nil=>intro b h;cases b with
  |nil=>rfl
  |cons y b=>simp [I5]at h
 |cons x a ih=>intro b h;cases b with
  |nil=>simp [I5]at h
  |cons y b=>
   unfold I5 at h
   split at h
   ·rename_i e;rw [e,ih b h]
   ·split at h<;>simp at h
theorem Rf: ∀(a b c:List Int),I5 a b<0→I5 b c<0→I5 a c<0:=by
 intro a
 induction a with
 |nil=>intro b c h1 h2;cases c with
  |nil=>cases b with
   |nil=>simp [I5]at h1
   |cons y b=>simp [I5]at h2
  |cons z c=>simp [I5]
 |cons x a ih=>intro b c h1 h2;cases b with
  |nil=>simp [I5]at h1
  |cons y b=>cases c with
   |nil=>simp [I5]at h2
   |cons z c=>
    unfold I5 at h1 h2 ⊢;by_cases e1:x=y
    ·subst e1;rw [if_pos rfl]at h1;by_cases e2:x=z
     ·subst e2;rw [if_pos rfl]at h2 ⊢;exact ih b c h1 h2
     ·rw [if_neg e2]at h2 ⊢;exact h2
    ·rw [if_neg e1]at h1
     have l1:x<y:=by
      by_cases hl:x<y
      ·exact hl
      ·rw [if_neg hl]at h1;omega
     by_cases e2:y=z
     ·subst e2;rw [if_neg e1,if_pos l1];decide
     ·rw [if_neg e2]at h2
      have l2:y<z:=by
       by_cases hl:y<z
       ·exact hl
       ·rw [if_neg hl]at h2;omega
      rw [if_neg (by omega),if_pos (by omega)];decide
def QQ(l:List (List Int)):Bool:=(List.range l.length).all fun i=>decide (i=0)||decide (I5 (l.getD (i-1) default) (l.getD i default)<0)
theorem zJ{l:List (List Int)}(h:QQ l=true): ∀(d i:Nat),i+d+1<l.length→I5 (l.getD i default) (l.getD (i+d+1) default)<0:=by
 have step: ∀i,i+1<l.length→I5 (l.getD i default) (l.getD (i+1) default)<0:=fun i hi=>by
  have:=CW.1 h (i+1) hi
  simpa using this
 intro d
 induction d with
 |zero=>intro i hi;exact step i hi
 |succ d ih=>
  intro i hi;exact Rf _ _ _ (ih i (by omega)) (step (i+d+1) (by omega))
theorem Xn{l:List (List Int)}(h:QQ l=true){i j:Nat}(hij:i<j)(hj:j<l.length):I5 (l.getD i default) (l.getD j default)<0:=by
 have:=zJ h (j-i-1) i (by omega)
 rwa [show i+(j-i-1)+1=j by omega]at this
theorem aL{l:List (List Int)}{s n:Int}(h:KU l s n=true):QQ l=true:=by
 refine CW.2 fun i hi=> ?_;have:=CW.1 h i hi
 unfold OD at this;rw [Fa]at this;exact this.2
theorem Xo{l:List (List Int)}{x:List Int}:x∈l↔ ∃k,k<l.length∧l.getD k default=x:=by
 constructor
 ·intro h;obtain⟨k,hk,e⟩:=VB h
  exact⟨k,hk,by rw [MQ,K4 hk];exact e⟩
 ·rintro⟨k,hk,rfl⟩
  rw [MQ,K4 hk];exact OA hk
noncomputable def EI(s_:List Int):Option ((List Int)):= some s_
def A4x:SC:= .seq (.ops [oX 1 (.box 26 (tK 0)) 0,oX 2 (.assign (.const .nilFunc)) 142]) (.seq (.ops [oX 3 (.makeFunc (Fn.func 156) #[] #[(tK 1)]) 141,oA 2 3 142]) .ret)
theorem zK:Tryz.f138.body.map (Bf lends)=some A4x:=by kernel_rfl
theorem ACI:Bz Tryz.f138 1=true:=by kernel_rfl
theorem AHM{a l:List D}{r:D×List D}(h:CF Y.env A4x (ES Ae l.length [ResultVar.tmp 2] r) (entry a l))(ha:a.length=1):Y.call 138 a l=some r:=
 Ab (Y:=Y) rfl Tryz.func138 (ha▸ACI) zK h
theorem M5(s_:List Int){r:(List Int)}(h:EI s_=some r):Y.call 138 [D.sl 3 (AL (D.int .i64) s_)] []=some (D.clo 156 [D.cptr [D.sl 3 (AL (D.int .i64) r)]],[]):=by
 refine AHM ?_ rfl;unfold A4x;unfold EI at h
 obtain rfl:=Option.some.inj h
 simp (maxDischargeDepth:=9) only [↓AP,AQ,↓reduceIte,Nat.reduceEqDiff,Nat.reduceLT]
noncomputable def BH(x_:List (List Int))(target:List Int)(cmp:(List Int)→(List Int)→Option Int)(i:Int)(j:Int):Option ((Int×Int)⊕(Int)):= if i<j then ck (0≤IntKind.i64.wrap ((IntKind.u64.wrap (IntKind.i64.wrap (i+j))).fdiv (2 ^ (min 1 (IntKind.u64.bits))))∧(IntKind.i64.wrap ((IntKind.u64.wrap (IntKind.i64.wrap (i+j))).fdiv (2 ^ (min 1 (IntKind.u64.bits))))).toNat<x_.length)<| (cmp (x_.getD ((IntKind.i64.wrap ((IntKind.u64.wrap (IntKind.i64.wrap (i+j))).fdiv (2 ^ (min 1 (IntKind.u64.bits))))).toNat) default) target).bind fun qw=> if qw<0 then some (Sum.inl (IntKind.i64.wrap ((IntKind.i64.wrap ((IntKind.u64.wrap (IntKind.i64.wrap (i+j))).fdiv (2 ^ (min 1 (IntKind.u64.bits)))))+1),j)) else some (Sum.inl (i,IntKind.i64.wrap ((IntKind.u64.wrap (IntKind.i64.wrap (i+j))).fdiv (2 ^ (min 1 (IntKind.u64.bits)))))) else some (Sum.inr i)
noncomputable def Bu(x_:List (List Int))(target:List Int)(cmp:(List Int)→(List Int)→Option Int)(v:Int×Int):Option (Int):=I4 (fun v=>BH x_ target cmp v.1 v.2) v
noncomputable def BU(x_:List (List Int))(target:List Int)(cmp:(List Int)→(List Int)→Option Int):Option (Int×Bool):= (Bu x_ target cmp (0,(x_.length:Int))).bind fun AY=> if AY<(x_.length:Int)then ck (0≤AY∧AY.toNat<x_.length)<| (cmp (x_.getD AY.toNat default) target).bind fun ACJ=> some (AY,(decide (ACJ=0))) else some (AY,false)
def Xp:SC:= .seq (.seq (.ops [oM 15 9 3,oM 16 10 3,oB 17 .lss 3 (tK 15) (tK 16) 3 4]) (.cond (tK 17) .skip (.exit 0))) (.block 1 (.seq (.ops [oM 18 9 3,oM 19 10 3,oB 20 .add 3 (tK 18) (tK 19) 3 3,oX 21 (.convert 3 82 (tK 20)) 82,oB 22 .shr 82 (tK 21) (.const (.int .u64 1)) 82 82,oX 23 (.convert 82 3 (tK 22)) 3,oA 11 23 3]) (.seq (.ops [oM 24 2 112,oM 25 0 22,oM 26 11 3,oI 27 22 25 26,oL 28 26 27 26,oM 29 1 26,oX 30 (.call ⟨(.value (tK 24)), #[(tK 28),(tK 29)], #[26,26]⟩) 3,oB 31 .lss 3 (tK 30) (iK 0) 3 4]) (.cond (tK 31) (.ops [oM 32 11 3,oB 33 .add 3 (tK 32) (iK 1) 3 3,oA 9 33 3]) (.ops [oM 34 11 3,oA 10 34 3])))))
def oG:SC:= .loop Xp
def A4y:SC:= .seq (.ops [oX 6 (.assign (iK 0)) 3,oX 7 (.assign (.const (.bool false))) 4]) (.seq (.ops [oM 12 0 22,oN 13 12 22,oA 8 13 3]) (.seq (.ops [oM 14 8 3,oX 9 (.assign (iK 0)) 3,oA 10 14 3]) (.seq (.block 0 oG) (.seq (.ops [oM 35 9 3,oM 36 9 3,oM 37 8 3,oB 38 .lss 3 (tK 36) (tK 37) 3 4,oM 39 38 4,⟨(some 40),(.move (tK 2)),112,(some (some 39,true))⟩,⟨(some 41),(.move (tK 0)),22,(some (some 39,true))⟩,⟨(some 42),(.move (tK 9)),3,(some (some 39,true))⟩,⟨(some 43),(.indexAddr 22 (tK 41) (tK 42)),0,(some (some 39,true))⟩,⟨(some 44),(.load 26 (tK 43)),26,(some (some 39,true))⟩,⟨(some 45),(.move (tK 1)),26,(some (some 39,true))⟩,⟨(some 46),(.call ⟨(.value (tK 40)), #[(tK 44),(tK 45)], #[26,26]⟩),3,(some (some 39,true))⟩,⟨(some 47),(.binOp .eql 3 (tK 46) (iK 0) 3),4,(some (some 39,true))⟩,oX 48 (.pick (tK 39) (tK 47) (.const (.bool false))) 4,oA 6 35 3,oA 7 48 4]) .ret))))
theorem zL:Tryz.f136.body.map (Bf lends)=some A4y:=by kernel_rfl
theorem ACK:Bz Tryz.f136 3=true:=by kernel_rfl
theorem AHN{a l:List D}{r:D×List D}(h:CF Y.env A4y (ES Ae l.length [ResultVar.tmp 6,ResultVar.tmp 7] r) (entry a l))(ha:a.length=3):Y.call 136 a l=some r:=
 Ab (Y:=Y) rfl Tryz.func136 (ha▸ACK) zL h
def Al(x_:List (List Int))(target:List Int)(cmp:(List Int)→(List Int)→Option Int)(cmp_f:FuncId)(cmp_c:List D)(i:Int)(j:Int)(s:St):Prop:=s.v 0=D.sl 26 (AL (fun x=>D.sl 3 (AL (D.int .i64) x)) x_)∧s.v 1=D.sl 3 (AL (D.int .i64) target)∧s.v 2=D.clo cmp_f cmp_c∧s.v 8=D.int .i64 (x_.length:Int)∧s.v 9=D.int .i64 i∧s.v 10=D.int .i64 j
def Bh(x_:List (List Int))(target:List Int)(cmp:(List Int)→(List Int)→Option Int)(cmp_f:FuncId)(cmp_c:List D)(r:Int)(ex:Ex)(s:St):Prop:=ex= .exit 0∧s.v 0=D.sl 26 (AL (fun x=>D.sl 3 (AL (D.int .i64) x)) x_)∧s.v 1=D.sl 3 (AL (D.int .i64) target)∧s.v 2=D.clo cmp_f cmp_c∧s.v 8=D.int .i64 (x_.length:Int)∧s.v 9=D.int .i64 r
theorem GA(x_:List (List Int))(target:List Int)(cmp:(List Int)→(List Int)→Option Int)(cmp_f:FuncId)(cmp_c:List D)(cmp_h: ∀(a0:List Int) (a1:List Int) (r:Int),cmp a0 a1=some r→Y.call cmp_f (D.sl 3 (AL (D.int .i64) a0)::D.sl 3 (AL (D.int .i64) a1)::cmp_c) []=some (D.int .i64 r,[]))(cmp_l:lends cmp_f=false){v:Int×Int}{s:St}{r:Int}(h:Bu x_ target cmp v=some r)(hM:Al x_ target cmp cmp_f cmp_c v.1 v.2 s):CF Y.env oG (Bh x_ target cmp cmp_f cmp_c r) s:=by
 unfold Bu at h;refine BN (c:=Xp) (fun v=>BH x_ target cmp v.1 v.2) (fun v s=>Al x_ target cmp cmp_f cmp_c v.1 v.2 s) (Bh x_ target cmp cmp_f cmp_c) ?_ h hM;clear h hM s v r;intro v s o hM h;obtain⟨i,j⟩:=v;dsimp only at h hM;unfold BH at h;unfold Al at hM;obtain⟨m0,m1,m2,m3,m4,m5⟩:=hM;unfold Xp;rcases iS h with⟨e1,h⟩|⟨e1,h⟩
 ·obtain⟨e2,h⟩:=FK h;obtain⟨qw,hl3,h⟩:=Ag h;have c3:=cmp_h _ _ _ hl3;rcases iS h with⟨e4,h⟩|⟨e4,h⟩
  ·obtain rfl:=Option.some.inj h
   simp (maxDischargeDepth:=9) only [↓AP,AQ,↓reduceIte,Nat.reduceEqDiff,Nat.reduceLT,Nat.reduceAdd,Int.reduceLT,Int.reduceToNat,m0,m1,m2,m3,m4,m5,cmp_l,e1,e2.1,e2.2,c3,e4,Al,GZ]
  ·obtain rfl:=Option.some.inj h
   simp (maxDischargeDepth:=9) only [↓AP,AQ,↓reduceIte,Nat.reduceEqDiff,Nat.reduceLT,Nat.reduceAdd,Int.reduceLT,Int.reduceToNat,m0,m1,m2,m3,m4,m5,cmp_l,e1,e2.1,e2.2,c3,e4,Al,GZ]
 ·obtain rfl:=Option.some.inj h
  simp (maxDischargeDepth:=9) only [↓AP,AQ,↓reduceIte,Nat.reduceEqDiff,Nat.reduceLT,m0,m1,m2,m3,m4,m5,e1,Al,Bh,KW]
theorem GN(x_:List (List Int))(target:List Int)(cmp:(List Int)→(List Int)→Option Int)(cmp_f:FuncId)(cmp_c:List D)(cmp_h: ∀(a0:List Int) (a1:List Int) (r:Int),cmp a0 a1=some r→Y.call cmp_f (D.sl 3 (AL (D.int .i64) a0)::D.sl 3 (AL (D.int .i64) a1)::cmp_c) []=some (D.int .i64 r,[]))(cmp_l:lends cmp_f=false){r:Int×Bool}(h:BU x_ target cmp=some r):Y.call 136 [D.sl 26 (AL (fun x=>D.sl 3 (AL (D.int .i64) x)) x_),D.sl 3 (AL (D.int .i64) target),D.clo cmp_f cmp_c] []=some (D.tup [D.int .i64 r.1,D.bool r.2],[]):=by
 refine AHN ?_ rfl;unfold A4y;unfold BU at h;obtain⟨AY,hl2,h⟩:=Ag h;try dsimp only at h
 simp (maxDischargeDepth:=9) only [↓AP,AQ,↓reduceIte,Nat.reduceEqDiff,Nat.reduceLT];refine Av (GA x_ target cmp cmp_f cmp_c cmp_h cmp_l hl2 ?_) ?_
 ·simp (maxDischargeDepth:=9) only [C9,DK,↓reduceIte,Nat.reduceEqDiff,Nat.reduceLT,Al]
 ·intro ex2 s2 hX2;unfold Bh at hX2;obtain⟨rfl,n2_0,n2_1,n2_2,n2_3,n2_4⟩:=hX2;rcases iS h with⟨e3,h⟩|⟨e3,h⟩
  ·obtain⟨e4,h⟩:=FK h;obtain⟨ACJ,hl5,h⟩:=Ag h;try dsimp only at h
   have c5:=cmp_h _ _ _ hl5
   obtain rfl:=Option.some.inj h
   simp (maxDischargeDepth:=9) only [↓AP,AQ,↓reduceIte,Nat.reduceEqDiff,Nat.reduceLT,Nat.reduceAdd,cmp_l,n2_0,n2_1,n2_2,n2_3,n2_4,e3,e4.1,e4.2,c5]
  ·obtain rfl:=Option.some.inj h
   simp (maxDischargeDepth:=9) only [↓AP,AQ,↓reduceIte,Nat.reduceEqDiff,Nat.reduceLT,n2_3,n2_4,e3]
noncomputable def IE(list:List (List Int))(labels:List Int):Option (Bool):= (EI labels).bind fun Xg=> ck (Xg.length<1099511627776)<| (BU list (K3 Xg) (fun a0 a1=>CO a0 a1)).bind fun ACM=> some ACM.2
def A4z:SC:= .seq (.ops [oX 4 (.assign (.const (.bool false))) 4]) (.seq (.ops [oM 8 0 22,oM 9 1 26,oC 10 138 [(tK 9)] [26] 142,oC 11 137 [(tK 10)] [142] 26,oC 12 136 [(tK 8),(tK 11),(.func 98)] [22,26,112] 54,oM 7 12 54,oE 13 7 0 3,oE 14 7 1 4,oA 5 13 3,oA 6 14 4]) (.seq (.ops [oM 15 6 4,oA 4 15 4]) .ret))
theorem zM:Tryz.f117.body.map (Bf lends)=some A4z:=by kernel_rfl
theorem ACN:Bz Tryz.f117 2=true:=by kernel_rfl
theorem AHO{a l:List D}{r:D×List D}(h:CF Y.env A4z (ES Ae l.length [ResultVar.tmp 4] r) (entry a l))(ha:a.length=2):Y.call 117 a l=some r:=
 Ab (Y:=Y) rfl Tryz.func117 (ha▸ACN) zM h
theorem Oj(list:List (List Int))(labels:List Int){r:Bool}(h:IE list labels=some r):Y.call 117 [D.sl 26 (AL (fun x=>D.sl 3 (AL (D.int .i64) x)) list),D.sl 3 (AL (D.int .i64) labels)] []=some (D.bool r,[]):=by
 refine AHO ?_ rfl;unfold A4z;unfold IE at h;obtain⟨Xg,hl1,h⟩:=Ag h;have c1:=M5 labels hl1;obtain⟨e2,h⟩:=FK h;have c3:=mH Xg e2;obtain⟨ACM,hl4,h⟩:=Ag h;try dsimp only at h
 have c4:=GN list (K3 Xg) (fun a0 a1=>CO a0 a1) 98 [] (fun a0 a1 _ hh=>Gw a0 a1 hh) A4O hl4
 obtain rfl:=Option.some.inj h
 simp (maxDischargeDepth:=9) only [↓AP,AQ,↓reduceIte,Nat.reduceEqDiff,Nat.reduceLT,Nat.reduceAdd,c1,c3,c4]
theorem qx(l:List (List Int))(x:List Int)(f:List Int→List Int→Option Int)(hl:l.length<1099511627776)(hf: ∀i,i<l.length→f (l.getD i default) x=some (I5 (l.getD i default) x))(h:QQ l=true):
  ∃r,BU l x f=some (r,l.contains x):=by
 have key:=bV (fun v=>BH l x f v.1 v.2)
  (fun m v=> ∃i j:Nat,v=((i:Int),(j:Int))∧i≤j∧j≤l.length∧m=j-i∧(∀k,k<i→I5 (l.getD k default) x<0)∧(∀k,j≤k→k<l.length→ ¬I5 (l.getD k default) x<0))
  (fun r=> ∃i:Nat,r=(i:Int)∧i≤l.length∧(∀k,k<i→I5 (l.getD k default) x<0)∧(∀k,i≤k→k<l.length→ ¬I5 (l.getD k default) x<0)) ?_ l.length (0,(l.length:Int)) ⟨0,l.length,rfl,Nat.zero_le _,KS _,by omega,fun k hk=>by omega,fun k h1 h2=>by omega⟩
 ·obtain⟨r,h1,i,rfl,hi,h2,h3⟩:=key;unfold BU Bu;rw [h1,DJ];by_cases hlt:i<l.length
  ·rw [if_pos (by omega),BJ (by omega),IV,hf i hlt,DJ]
   refine⟨(i:Int), ?_⟩
   congr 2
   rw [Rt,decide_eq_true_eq,RP,Xo]
   constructor
   ·intro e;exact⟨i,hlt,zI _ _ e⟩
   ·rintro⟨k,hk,rfl⟩
    have k1: ¬k<i:=fun hki=>by have:=h2 k hki;rw [UG]at this;omega
    have k2: ¬i<k:=fun hik=>h3 i (KS _) hlt (Xn h hik hk);have:k=i:=by omega
    subst this;exact UG _
  ·rw [if_neg (by omega)]
   refine⟨(i:Int), ?_⟩
   congr 2
   symm
   rw [Fx];intro hc;obtain⟨k,hk,rfl⟩:=Xo.1 (RP.1 hc);have:=h2 k (by omega)
   rw [UG]at this;omega
 ·rintro m v ⟨i,j,rfl,hij,hj,rfl,h2,h3⟩
  simp only [BH];by_cases hlt:i<j
  ·have e1:(2:Int) ^ (min 1 (IntKind.u64.bits))=2:=by decide
   have e2:(((i:Int)+(j:Int)).fdiv 2)=(((i+j) / 2:Nat):Int):=by
    rw [rR _ (by omega)];omega
   rw [if_pos (by omega),J9 ((i:Int)+j) (by omega),wrU _ (by omega),e1,e2,J9 _ (by omega),BJ (by omega),IV,hf _ (by omega),DJ]
   left
   by_cases hc:I5 (l.getD ((i+j) / 2) default) x<0
   ·rw [if_pos hc,J9 _ (by omega)]
    refine⟨_,j-((i+j) / 2+1),rfl,by omega,(i+j) / 2+1,j,rfl,by omega,hj,rfl,fun k hk=> ?_,h3⟩
    by_cases e:k=(i+j) / 2
    ·rw [e];exact hc
    ·exact Rf _ _ _ (Xn h (by omega:k<(i+j) / 2) (by omega)) hc
   ·rw [if_neg hc]
    refine⟨_,(i+j) / 2-i,rfl,by omega,i,(i+j) / 2,rfl,by omega,by omega,rfl,h2,fun k hk1 hk2 hck=> ?_⟩
    by_cases e:k=(i+j) / 2
    ·rw [e]at hck;exact hc hck
    ·exact hc (Rf _ _ _ (Xn h (by omega:(i+j) / 2<k) hk2) hck)
  ·rw [if_neg (by omega)]
   right
   have:i=j:=by omega
   subst this
   exact⟨_,rfl,i,rfl,hj,h2,h3⟩
theorem Pf(l:List (List Int))(x:List Int)(hl:BB l)(hx:x.length<1099511627776)(h:QQ l=true):IE l x=some (l.contains (LK x)):=by
 unfold IE EI;rw [DJ,BJ hx,jO];obtain⟨r,e⟩:=qx l (LK x) (fun a0 a1=>CO a0 a1) hl.1 (fun i hi=>Ia _ _ (hl.getD i) (by rw [aK];exact hx)) h
 rw [e];rfl
theorem LM(list:List (List Int))(labels:List Int)(h0:BB list)(h1:labels.length<1099511627776)(h2:QQ list=true):Y.call 117 [D.sl 26 (AL (fun x=>D.sl 3 (AL (D.int .i64) x)) list),D.sl 3 (AL (D.int .i64) labels)] []=some (D.bool (list.contains (LK labels)),[]):=Oj list labels (Pf list labels h0 h1 h2)
noncomputable def Io(a:List Int)(b:List Int)(Xq:Int):Option ((Int)⊕(Unit⊕Unit)):= if Xq<(a.length:Int)then ck (0≤Xq∧Xq.toNat<a.length)<| ck (0≤Xq∧Xq.toNat<b.length)<| if(a.getD Xq.toNat default)=(b.getD Xq.toNat default)then some (Sum.inl (IntKind.i64.wrap (Xq+1))) else some (Sum.inr (Sum.inl ())) else some (Sum.inr (Sum.inr ()))
noncomputable def Nt(a:List Int)(b:List Int)(v:Int):Option (Unit⊕Unit):=I4 (fun v=>Io a b v) v
noncomputable def QR(a:List Int)(b:List Int):Option (Bool):=
 if(a.length:Int)=(b.length:Int)then
  (Nt a b 0).bind fun AY=>
  match AY with
  | .inl q1000_=>
   some false
  | .inr q1000_=>
   some true
 else
  some false
def Xr:SC:= .seq (.ops [oB 14 .lss 3 (tK 13) (tK 12) 3 0]) (.seq (.cond (tK 14) .skip (.exit 0)) (.seq (.block 1 (.seq (.ops [oM 15 13 3,oA 5 15 3]) (.seq (.draws [(⟨[16,0,0],[16,17,18,19,20,21,22,23,24],[16]⟩,oM 16 0 26),(⟨[17,5,5],[16,17,18,19,20,21,22,23,24],[17]⟩,oM 17 5 3),(⟨[18,16,17,0,5],[16,17,18,19,20,21,22,23,24],[18]⟩,oI 18 26 16 17),(⟨[19,18,0],[16,17,18,19,20,21,22,23,24],[19]⟩,oL 19 3 18 3),(⟨[20,1,1],[16,17,18,19,20,21,22,23,24],[20]⟩,oM 20 1 26),(⟨[21,5,5],[16,17,18,19,20,21,22,23,24],[21]⟩,oM 21 5 3),(⟨[22,20,21,1,5],[16,17,18,19,20,21,22,23,24],[22]⟩,oI 22 26 20 21),(⟨[23,22,1],[16,17,18,19,20,21,22,23,24],[23]⟩,oL 23 3 22 3),(⟨[24,19,23,0,1],[16,17,18,19,20,21,22,23,24],[24]⟩,oB 24 .neq 3 (tK 19) (tK 23) 3 4)]) (.cond (tK 24) (.seq (.ops [oX 4 (.assign (.const (.bool false))) 4]) .ret) .skip)))) (.ops [oB 25 .add 3 (tK 13) (iK 1) 3 3,oM 13 25 3])))
def oH:SC:= .loop Xr
def A50:SC:= .seq (.ops [oX 4 (.assign (.const (.bool false))) 4]) (.seq (.seq (.ops [oM 6 0 26,oN 7 6 26,oM 8 1 26,oN 9 8 26,oB 10 .neq 3 (tK 7) (tK 9) 3 4]) (.cond (tK 10) (.seq (.ops [oX 4 (.assign (.const (.bool false))) 4]) .ret) .skip)) (.seq (.seq (.ops [oM 11 0 26,oN 12 11 26,oX 13 (.move (iK 0)) 3]) (.block 0 oH)) (.seq (.ops [oX 4 (.assign (.const (.bool true))) 4]) .ret)))
theorem zN:Tryz.f140.body.map (Bf lends)=some A50:=by kernel_rfl
theorem ACO:Bz Tryz.f140 2=true:=by kernel_rfl
theorem AHP{a l:List D}{r:D×List D}(h:CF Y.env A50 (ES Ae l.length [ResultVar.tmp 4] r) (entry a l))(ha:a.length=2):Y.call 140 a l=some r:=
 Ab (Y:=Y) rfl Tryz.func140 (ha▸ACO) zN h
def GQ(a:List Int)(b:List Int)(Xq:Int)(s:St):Prop:=s.v 0=D.sl 3 (AL (D.int .i64) a)∧s.v 1=D.sl 3 (AL (D.int .i64) b)∧s.v 12=D.int .i64 (a.length:Int)∧s.v 13=D.int .i64 Xq
def Ip(a:List Int)(b:List Int)(r:Unit⊕Unit)(ex:Ex)(s:St):Prop:=match r with
 | .inl q=>ex= .ret∧s.v 4=D.bool false
 | .inr q=>ex= .exit 0
theorem Xt(a:List Int)(b:List Int){v:Int}{s:St}{r:Unit⊕Unit}(h:Nt a b v=some r)(hM:GQ a b v s):CF Y.env oH (Ip a b r) s:=by
 unfold Nt at h;refine BN (c:=Xr) (fun v=>Io a b v) (fun v s=>GQ a b v s) (Ip a b) ?_ h hM;clear h hM s v r;intro Xq s o hM h;unfold Io at h;unfold GQ at hM;obtain⟨m0,m1,m2,m3⟩:=hM;unfold Xr;rcases iS h with⟨e2,h⟩|⟨e2,h⟩
 ·obtain⟨e3,e4,h⟩:=Ei h;rcases iS h with⟨e5,h⟩|⟨e5,h⟩
  ·obtain rfl:=Option.some.inj h
   simp (maxDischargeDepth:=9) only [↓AP,AQ,↓reduceIte,Nat.reduceEqDiff,Nat.reduceLT,m0,m1,m2,m3,e2,e3.1,e3.2,e4.2,decide_eq_true e5,GQ,GZ]
  ·obtain rfl:=Option.some.inj h
   simp (maxDischargeDepth:=9) only [↓AP,AQ,↓reduceIte,Nat.reduceEqDiff,Nat.reduceLT,m0,m1,m2,m3,e2,e3.1,e3.2,e4.2,e5,GQ,Ip,MP]
 ·obtain rfl:=Option.some.inj h
  simp (maxDischargeDepth:=9) only [↓AP,AQ,↓reduceIte,Nat.reduceLT,m2,m3,e2,GQ,Ip,KW]
theorem ZN(a:List Int)(b:List Int){r:Bool}(h:QR a b=some r):Y.call 140 [D.sl 3 (AL (D.int .i64) a),D.sl 3 (AL (D.int .i64) b)] []=some (D.bool r,[]):=by
 refine AHP ?_ rfl;unfold A50;unfold QR at h;rcases iS h with⟨e1,h⟩|⟨e1,h⟩
 ·obtain⟨AY,hl3,h⟩:=Ag h;try dsimp only at h
  simp (maxDischargeDepth:=9) only [↓AP,AQ,↓reduceIte,Nat.reduceEqDiff,Nat.reduceLT,decide_eq_true e1];refine Av (Xt a b hl3 ?_) ?_
  ·simp (maxDischargeDepth:=9) only [C9,DK,↓reduceIte,Nat.reduceEqDiff,Nat.reduceLT,GQ]
  ·intro ex3 s3 hX3;rcases AY with q1000_|q1000_
   ·unfold Ip at hX3;dsimp only at hX3 h;obtain⟨rfl,n3_0⟩:=hX3
    obtain rfl:=Option.some.inj h
    simp (maxDischargeDepth:=9) only [↓AP,AQ,↓reduceIte,n3_0]
   ·unfold Ip at hX3;dsimp only at hX3 h
    obtain rfl:=hX3
    obtain rfl:=Option.some.inj h
    simp (maxDischargeDepth:=9) only [↓AP,AQ,↓reduceIte,Nat.reduceEqDiff,Nat.reduceLT]
 ·obtain rfl:=Option.some.inj h
  simp (maxDischargeDepth:=9) only [↓AP,AQ,↓reduceIte,Nat.reduceEqDiff,Nat.reduceLT,e1]
noncomputable def Jl(l:List (List Int))(x_:List Int)(Lf:Int):Option ((Int)⊕(Unit⊕Unit)):= if Lf<(l.length:Int)then ck (0≤Lf∧Lf.toNat<l.length)<| (QR x_ (l.getD Lf.toNat default)).bind fun A51=> if A51=true then some (Sum.inr (Sum.inl ())) else some (Sum.inl (IntKind.i64.wrap (Lf+1))) else some (Sum.inr (Sum.inr ()))
noncomputable def PN(l:List (List Int))(x_:List Int)(v:Int):Option (Unit⊕Unit):=I4 (fun v=>Jl l x_ v) v
noncomputable def Vz(l:List (List Int))(x_:List Int):Option (Bool):=
 (PN l x_ 0).bind fun AY=>
 match AY with
 | .inl q1000_=>
  some true
 | .inr q1000_=>
  some false
def Xu:SC:= .seq (.ops [oB 10 .lss 3 (tK 9) (tK 8) 3 0]) (.seq (.cond (tK 10) .skip (.exit 0)) (.seq (.block 1 (.seq (.ops [oI 11 22 7 9,oL 12 26 11 26,oA 6 12 26]) (.seq (.ops [oM 13 1 26,oM 14 6 26,oC 15 140 [(tK 13),(tK 14)] [26,26] 4]) (.cond (tK 15) (.seq (.ops [oX 4 (.assign (.const (.bool true))) 4]) .ret) .skip)))) (.ops [oB 16 .add 3 (tK 9) (iK 1) 3 3,oM 9 16 3])))
def oJ:SC:= .loop Xu
def A52:SC:= .seq (.ops [oX 4 (.assign (.const (.bool false))) 4]) (.seq (.seq (.ops [oM 7 0 22,oN 8 7 22,oX 9 (.move (iK 0)) 3]) (.block 0 oJ)) (.seq (.ops [oX 4 (.assign (.const (.bool false))) 4]) .ret))
theorem zO:Tryz.f122.body.map (Bf lends)=some A52:=by kernel_rfl
theorem ACP:Bz Tryz.f122 2=true:=by kernel_rfl
theorem AHQ{a l:List D}{r:D×List D}(h:CF Y.env A52 (ES Ae l.length [ResultVar.tmp 4] r) (entry a l))(ha:a.length=2):Y.call 122 a l=some r:=
 Ab (Y:=Y) rfl Tryz.func122 (ha▸ACP) zO h
def IG(l:List (List Int))(x_:List Int)(Lf:Int)(s:St):Prop:=s.v 1=D.sl 3 (AL (D.int .i64) x_)∧s.v 7=D.sl 26 (AL (fun x=>D.sl 3 (AL (D.int .i64) x)) l)∧s.v 8=D.int .i64 (l.length:Int)∧s.v 9=D.int .i64 Lf
def Jm(l:List (List Int))(x_:List Int)(r:Unit⊕Unit)(ex:Ex)(s:St):Prop:=match r with
 | .inl q=>ex= .ret∧s.v 4=D.bool true
 | .inr q=>ex= .exit 0
theorem ZO(l:List (List Int))(x_:List Int){v:Int}{s:St}{r:Unit⊕Unit}(h:PN l x_ v=some r)(hM:IG l x_ v s):CF Y.env oJ (Jm l x_ r) s:=by
 unfold PN at h;refine BN (c:=Xu) (fun v=>Jl l x_ v) (fun v s=>IG l x_ v s) (Jm l x_) ?_ h hM;clear h hM s v r;intro Lf s o hM h;unfold Jl at h;unfold IG at hM;obtain⟨m0,m1,m2,m3⟩:=hM;unfold Xu;rcases iS h with⟨e1,h⟩|⟨e1,h⟩
 ·obtain⟨e2,h⟩:=FK h;obtain⟨A51,hl3,h⟩:=Ag h;have c3:=ZN x_ (l.getD Lf.toNat default) hl3;rcases iS h with⟨e4,h⟩|⟨e4,h⟩
  ·obtain rfl:=Option.some.inj h
   simp (maxDischargeDepth:=9) only [↓AP,AQ,↓reduceIte,Nat.reduceEqDiff,Nat.reduceLT,Nat.reduceAdd,m0,m1,m2,m3,e1,e2.1,e2.2,c3,e4,IG,Jm,MP]
  ·have e4f:A51=false:=Fx.mpr e4
   obtain rfl:=Option.some.inj h
   simp (maxDischargeDepth:=9) only [↓AP,AQ,↓reduceIte,Nat.reduceEqDiff,Nat.reduceLT,Nat.reduceAdd,m0,m1,m2,m3,e1,e2.1,e2.2,c3,e4f,IG,GZ]
 ·obtain rfl:=Option.some.inj h
  simp (maxDischargeDepth:=9) only [↓AP,AQ,↓reduceIte,Nat.reduceLT,m2,m3,e1,IG,Jm,KW]
theorem dF(l:List (List Int))(x_:List Int){r:Bool}(h:Vz l x_=some r):Y.call 122 [D.sl 26 (AL (fun x=>D.sl 3 (AL (D.int .i64) x)) l),D.sl 3 (AL (D.int .i64) x_)] []=some (D.bool r,[]):=by
 refine AHQ ?_ rfl;unfold A52;unfold Vz at h;obtain⟨AY,hl2,h⟩:=Ag h;try dsimp only at h
 simp (maxDischargeDepth:=9) only [↓AP,AQ,↓reduceIte,Nat.reduceEqDiff,Nat.reduceLT];refine Av (ZO l x_ hl2 ?_) ?_
 ·simp (maxDischargeDepth:=9) only [C9,DK,↓reduceIte,Nat.reduceEqDiff,Nat.reduceLT,IG]
 ·intro ex2 s2 hX2;rcases AY with q1000_|q1000_
  ·unfold Jm at hX2;dsimp only at hX2 h;obtain⟨rfl,n2_0⟩:=hX2
   obtain rfl:=Option.some.inj h
   simp (maxDischargeDepth:=9) only [↓AP,AQ,↓reduceIte,n2_0]
  ·unfold Jm at hX2;dsimp only at hX2 h
   obtain rfl:=hX2
   obtain rfl:=Option.some.inj h
   simp (maxDischargeDepth:=9) only [↓AP,AQ,↓reduceIte,Nat.reduceEqDiff,Nat.reduceLT]
theorem qy(a b:List Int)(ha:a.length<1099511627776):QR a b=some (decide (a=b)):=by
 unfold QR Nt;by_cases hl:a.length=b.length
 ·rw [if_pos (by omega)]
  have key:=Db (fun v=>Io a b v) (fun i=>(i:Int)) a.length (fun i=>decide (a.getD i default=b.getD i default)) (.inl ()) (.inr ()) ?_ ?_
  ·simp only [GY]at key;rw [key,QF a b hl];by_cases he:a=b<;>simp [he]
  ·intro i hi;simp only [Io];rw [if_pos (CJ hi),BJ (Df hi),BJ (Df (by omega)),IV,Kh i (by omega)]<;>simp only [decide_eq_true_eq]
  ·simp only [Io];rw [if_neg (Ar _)]
 ·rw [if_neg (by omega)]
  have: ¬a=b:=fun e=>hl (by rw [e])
  simp [this]
theorem mP(l:List (List Int))(x:List Int)(hl:l.length<1099511627776)(hx:x.length<1099511627776):Vz l x=some (l.contains x):=by
 unfold Vz PN;have key:=Db (fun v=>Jl l x v) (fun i=>(i:Int)) l.length (fun i=> !decide (x=l.getD i default)) (.inl ()) (.inr ()) ?_ ?_
 ·simp only [GY]at key;rw [key,DJ];rw [NK (fun y=> !decide (x=y)) l];by_cases hm:x∈l
  ·have:l.all (fun y=> !decide (x=y))=false:=by
    rw [Fx];intro hc;have:=JG.1 hc x hm
    simp at this
   rw [this,if_neg (by decide)]
   simp [hm]
  ·have:l.all (fun y=> !decide (x=y))=true:=by
    refine JG.2 fun y hy=> ?_;have: ¬x=y:=fun e=>hm (e▸hy)
    simp [this]
   rw [this,if_pos rfl];simp [hm]
 ·intro i hi;simp only [Jl];rw [if_pos (CJ hi),BJ (Df hi),IV,qy _ _ hx,DJ,Kh i (by omega)]
  by_cases e:x=l.getD i default<;>simp [e]
 ·simp only [Jl];rw [if_neg (Ar _)]
theorem mQ(l:List (List Int))(x_:List Int)(h0:l.length<1099511627776)(h1:x_.length<1099511627776):Y.call 122 [D.sl 26 (AL (fun x=>D.sl 3 (AL (D.int .i64) x)) l),D.sl 3 (AL (D.int .i64) x_)] []=some (D.bool (l.contains x_),[]):=dF l x_ (mP l x_ h0 h1)
end Go.Proofs.YtiehjihckndgkaaGreat
