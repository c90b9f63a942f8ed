/- Configurations looked up by halving and one by one, as membership. Conditions: the lists are short and increasing. -/
import Derived.Test.YtjhjkfoabhplfaaGreatL6
import Derived.Test.YtjhjkfoabhplfaaGreatSrt
namespace Go.Proofs.YtjhjkfoabhplfaaGreat
open Go Dv
set_option linter.unusedSimpArgs false
set_option linter.unusedVariables false
set_option maxRecDepth 100000
set_option maxHeartbeats 4000000
theorem wrU(n:Int)(h:0≤n∧n<18446744073709551616):IntKind.u64.wrap n=n:=by
 unfold IntKind.wrap;simp only [IntKind.signed,IntKind.bits]
 simp
 omega
theorem fC(x:Int): ∀r,(Ui x r).Perm (x::r):=by
 intro r
 induction r with
 |nil=>exact List.Perm.refl _
 |cons y r ih=>
  unfold Ui;split
  ·exact((List.perm_cons y).2 ih).trans (List.Perm.swap x y r)
  ·exact List.Perm.refl _
theorem xZ(x:Int): ∀r,r.Pairwise (fun a b=>b≤a)→(Ui x r).Pairwise (fun a b=>b≤a):=by
 intro r
 induction r with
 |nil=>intro _;simp [Ui]
 |cons y r ih=>
  intro h;obtain⟨h1,h2⟩:=WM.1 h;unfold Ui;split
  ·rename_i hxy
   refine WM.2 ⟨fun z hz=> ?_,ih h2⟩;rcases MW.1 ((fC x r).mem_iff.1 hz)with rfl|hz
   ·omega
   ·exact h1 z hz
  ·rename_i hxy
   refine WM.2 ⟨fun z hz=> ?_,h⟩;rcases MW.1 hz with rfl|hz
   ·omega
   ·have:=h1 z hz;omega
theorem tT: ∀(l r:AA),(l.foldl (fun r x=>Ui x r) r).Perm (l++r):=by
 intro l
 induction l with
 |nil=>intro r;exact List.Perm.refl _
 |cons x l ih=>
  intro r;simp only [Xn]
  exact(ih _).trans (((List.Perm.refl l).append (fC x r)).trans List.perm_middle)
theorem tV: ∀(l r:AA),r.Pairwise (fun a b=>b≤a)→(l.foldl (fun r x=>Ui x r) r).Pairwise (fun a b=>b≤a):=by
 intro l
 induction l with
 |nil=>intro r h;exact h
 |cons x l ih=>intro r h;exact ih _ (xZ x r h)
theorem PI(l:AA):(Bt l).Perm l:=by
 unfold Bt;have:=tT l []
 rw [O6]at this
 exact(List.reverse_perm _).trans this
theorem Uk(l:AA):(Bt l).Pairwise (fun a b=>a≤b):=by
 unfold Bt;exact List.pairwise_reverse.2 (tV l [] List.Pairwise.nil)
theorem oV(l:AA):Dn l=Bt l:=by
 refine List.Perm.eq_of_pairwise (le:=fun a b:Int=>a≤b) (fun a b _ _ h1 h2=>Int.le_antisymm h1 h2) ?_ (Uk l) ((List.mergeSort_perm _ _).trans (PI l).symm);have:=List.pairwise_mergeSort (le:=fun x y:Int=>decide (x≤y)) (fun a b c h1 h2=>by simp only [decide_eq_true_eq]at*;omega) (fun a b=>by simp only [Uv,decide_eq_true_eq];omega) l
 unfold Dn;exact this.imp (fun h=>by simpa using h)
theorem Tf(l:AA):(Bt l).length=l.length:=(PI l).length_eq
theorem fD(a b:Int):Bt [a,b]=if b<a then [b,a]else [a,b]:=by
 unfold Bt;simp only [Xn,List.foldl_nil,Ui];by_cases h:b<a<;>simp [h]
theorem X3: ∀a:AA,cmpL a a=0:=by
 intro a
 induction a with
 |nil=>rfl
 |cons x a ih=>unfold cmpL;rw [if_pos rfl,ih]
theorem cmpL_eq: ∀(a b:AA),cmpL a b=0→a=b:=by
 intro a
 induction a with
 |nil=>intro b h;cases b with
  |nil=>rfl
  |cons y b=>simp [cmpL]at h
 |cons x a ih=>intro b h;cases b with
  |nil=>simp [cmpL]at h
  |cons y b=>
   unfold cmpL at h
   split at h
   ·rename_i e;rw [e,ih b h]
   ·split at h<;>simp at h
theorem Ul: ∀(a b c:AA),cmpL a b<0→cmpL b c<0→cmpL a c<0:=by
 intro a
 induction a with
 |nil=>intro b c h1 h2;cases c with
  |nil=>cases b with
   |nil=>simp [cmpL]at h1
   |cons y b=>simp [cmpL]at h2
  |cons z c=>simp [cmpL]
 |cons x a ih=>intro b c h1 h2;cases b with
  |nil=>simp [cmpL]at h1
  |cons y b=>cases c with
   |nil=>simp [cmpL]at h2
   |cons z c=>
    unfold cmpL at h1 h2 ⊢;by_cases e1:x=y
    ·subst e1;rw [if_pos rfl]at h1;by_cases e2:x=z
     ·subst e2;rw [if_pos rfl]at h2 ⊢;exact ih b c h1 h2
     ·rw [if_neg e2]at h2 ⊢;exact h2
    ·rw [if_neg e1]at h1
     have l1:x<y:=by
      by_cases hl:x<y
      ·exact hl
      ·rw [if_neg hl]at h1;omega
     by_cases e2:y=z
     ·subst e2;rw [if_neg e1,if_pos l1];decide
     ·rw [if_neg e2]at h2
      have l2:y<z:=by
       by_cases hl:y<z
       ·exact hl
       ·rw [if_neg hl]at h2;omega
      rw [if_neg (by omega),if_pos (by omega)];decide
def LP(l:AL):Bool:=(List.range l.length).all fun i=>decide (i=0)||decide (cmpL (l.getD (i-1) default) (l.getD i default)<0)
theorem A37{l:AL}(h:LP l=true): ∀(d i:Nat),i+d+1<l.length→cmpL (l.getD i default) (l.getD (i+d+1) default)<0:=by
 have step: ∀i,i+1<l.length→cmpL (l.getD i default) (l.getD (i+1) default)<0:=fun i hi=>by
  have:=K5.1 h (i+1) hi
  simpa using this
 intro d
 induction d with
 |zero=>intro i hi;exact step i hi
 |succ d ih=>
  intro i hi;exact Ul _ _ _ (ih i (by omega)) (step (i+d+1) (by omega))
theorem Zr{l:AL}(h:LP l=true){i j:Nat}(hij:i<j)(hj:j<l.length):cmpL (l.getD i default) (l.getD j default)<0:=by
 have:=A37 h (j-i-1) i (by omega)
 rwa [show i+(j-i-1)+1=j by omega]at this
theorem Tg{l:AL}{s n:Int}(h:MI l s n=true):LP l=true:=by
 refine K5.2 fun i hi=> ?_;have:=K5.1 h i hi
 unfold RO at this;rw [Ju]at this;exact this.2
theorem oW{l:AL}{x:AA}:x∈l↔ ∃k,k<l.length∧l.getD k default=x:=by
 constructor
 ·intro h;obtain⟨k,hk,e⟩:=UO h
  exact⟨k,hk,by rw [Lp,Fz hk];exact e⟩
 ·rintro⟨k,hk,rfl⟩
  rw [Lp,Fz hk];exact FT hk
noncomputable def EQ(s_:AA):Option (AA):= some s_
def A7s:SC:= .seq (.ops [oX 1 (.box 27 (tK 0)) 0,oX 2 (.assign (.const .nilFunc)) 113]) (.seq (.ops [oX 3 (.makeFunc (Fn.func 141) #[] #[(tK 1)]) 112,oA 2 3 113]) .ret)
theorem A38:Tryz.f126.body.map (BI lends)=some A7s:=by kernel_rfl
theorem AF4:BR Tryz.f126 1=true:=by kernel_rfl
theorem AKW{a l:List D}{r:D×List D}(h:BU Y.env A7s (Du Ab l.length [ResultVar.tmp 2] r) (entry a l))(ha:a.length=1):Y.call 126 a l=some r:=
 AP (Y:=Y) rfl Tryz.func126 (ha▸AF4) A38 h
theorem Nk(s_:AA){r:AA}(h:EQ s_=some r):Y.call 126 [D.sl 3 (AJ (D.int .i64) s_)] []=some (D.clo 141 [D.cptr [D.sl 3 (AJ (D.int .i64) r)]],[]):=by
 refine AKW ?_ rfl;unfold A7s;unfold EQ at h;cases h;simp only [↓AB,AC,↓reduceIte,Nat.reduceEqDiff,Nat.reduceLT]
noncomputable def T9(x_:AL)(target:AA)(cmp:AA→AA→Option Int)(i j:Int):Option ((Int×Int)⊕(Int)):= if i<j then ck (0≤IntKind.i64.wrap ((IntKind.u64.wrap (IntKind.i64.wrap (i+j))).fdiv (2 ^ (min 1 (IntKind.u64.bits))))∧(IntKind.i64.wrap ((IntKind.u64.wrap (IntKind.i64.wrap (i+j))).fdiv (2 ^ (min 1 (IntKind.u64.bits))))).toNat<x_.length)<| (cmp (x_.getD ((IntKind.i64.wrap ((IntKind.u64.wrap (IntKind.i64.wrap (i+j))).fdiv (2 ^ (min 1 (IntKind.u64.bits))))).toNat) default) target).bind fun AF5=> if AF5<0 then some (Sum.inl (IntKind.i64.wrap ((IntKind.i64.wrap ((IntKind.u64.wrap (IntKind.i64.wrap (i+j))).fdiv (2 ^ (min 1 (IntKind.u64.bits)))))+1),j)) else some (Sum.inl (i,IntKind.i64.wrap ((IntKind.u64.wrap (IntKind.i64.wrap (i+j))).fdiv (2 ^ (min 1 (IntKind.u64.bits)))))) else some (Sum.inr i)
noncomputable def jS(x_:AL)(target:AA)(cmp:AA→AA→Option Int)(v:Int×Int):Option (Int):=Fv (fun v=>T9 x_ target cmp v.1 v.2) v
noncomputable def gBS(x_:AL)(target:AA)(cmp:AA→AA→Option Int):Option (Int×Bool):= (jS x_ target cmp (0,(x_.length:Int))).bind fun A8=> if A8<(x_.length:Int)then ck (0≤A8∧A8.toNat<x_.length)<| (cmp (x_.getD A8.toNat default) target).bind fun PK=> some (A8,(decide (PK=0))) else some (A8,false)
def Zt:SC:= .seq (.seq (.ops [oM 15 9 3,oM 16 10 3,oB 17 .lss 3 (tK 15) (tK 16) 3 4]) (.cond (tK 17) .skip (.exit 0))) (.block 1 (.seq (.ops [oM 18 9 3,oM 19 10 3,oB 20 .add 3 (tK 18) (tK 19) 3 3,oX 21 (.convert 3 91 (tK 20)) 91,oB 22 .shr 91 (tK 21) (.const (.int .u64 1)) 91 91,oX 23 (.convert 91 3 (tK 22)) 3,oA 11 23 3]) (.seq (.ops [oM 24 2 62,oM 25 0 22,oM 26 11 3,oI 27 22 25 26,oL 28 27 27 27,oM 29 1 27,oX 30 (.call ⟨(.value (tK 24)), #[(tK 28),(tK 29)], #[27,27]⟩) 3,oB 31 .lss 3 (tK 30) (iK 0) 3 4]) (.cond (tK 31) (.ops [oM 32 11 3,oB 33 .add 3 (tK 32) (iK 1) 3 3,oA 9 33 3]) (.ops [oM 34 11 3,oA 10 34 3])))))
def uu:SC:= .loop Zt
def A7t:SC:= .seq (.ops [oX 6 (.assign (iK 0)) 3,oX 7 BX 4]) (.seq (.ops [oM 12 0 22,oN 13 12 22,oA 8 13 3]) (.seq (.ops [oM 14 8 3,oX 9 (.assign (iK 0)) 3,oA 10 14 3]) (.seq (.block 0 uu) (.seq (.ops [oM 35 9 3,oM 36 9 3,oM 37 8 3,oB 38 .lss 3 (tK 36) (tK 37) 3 4,oM 39 38 4,⟨some 40,.move (tK 2),62,(some (some 39,true))⟩,⟨some 41,.move (tK 0),22,(some (some 39,true))⟩,⟨some 42,.move (tK 9),3,(some (some 39,true))⟩,⟨some 43,.indexAddr 22 (tK 41) (tK 42),0,(some (some 39,true))⟩,⟨some 44,.load 27 (tK 43),27,(some (some 39,true))⟩,⟨some 45,.move (tK 1),27,(some (some 39,true))⟩,⟨some 46,.call ⟨(.value (tK 40)), #[(tK 44),(tK 45)], #[27,27]⟩,3,(some (some 39,true))⟩,⟨some 47,.binOp .eql 3 (tK 46) (iK 0) 3,4,(some (some 39,true))⟩,oX 48 (.pick (tK 39) (tK 47) Mq) 4,oA 6 35 3,oA 7 48 4]) .ret))))
theorem A39:Tryz.f124.body.map (BI lends)=some A7t:=by kernel_rfl
theorem AF7:BR Tryz.f124 3=true:=by kernel_rfl
theorem AKX{a l:List D}{r:D×List D}(h:BU Y.env A7t (Du Ab l.length [ResultVar.tmp 6,ResultVar.tmp 7] r) (entry a l))(ha:a.length=3):Y.call 124 a l=some r:=
 AP (Y:=Y) rfl Tryz.func124 (ha▸AF7) A39 h
def PL(x_:AL)(target:AA)(cmp:AA→AA→Option Int)(cmp_f:FuncId)(cmp_c:List D)(i j:Int)(s:St):Prop:=s.v 0=D.sl 27 (AJ Ac x_)∧s.v 1=D.sl 3 (AJ (D.int .i64) target)∧s.v 2=D.clo cmp_f cmp_c∧s.v 8=D.int .i64 (x_.length:Int)∧s.v 9=D.int .i64 i∧s.v 10=D.int .i64 j
def Vl(x_:AL)(target:AA)(cmp:AA→AA→Option Int)(cmp_f:FuncId)(cmp_c:List D)(r:Int)(ex:Ex)(s:St):Prop:=ex= .exit 0∧s.v 0=D.sl 27 (AJ Ac x_)∧s.v 1=D.sl 3 (AJ (D.int .i64) target)∧s.v 2=D.clo cmp_f cmp_c∧s.v 8=D.int .i64 (x_.length:Int)∧s.v 9=D.int .i64 r
theorem xc(x_:AL)(target:AA)(cmp:AA→AA→Option Int)(cmp_f:FuncId)(cmp_c:List D)(cmp_h: ∀(a0 a1:AA) (r:Int),cmp a0 a1=some r→Y.call cmp_f (D.sl 3 (AJ (D.int .i64) a0)::D.sl 3 (AJ (D.int .i64) a1)::cmp_c) []=some (D.int .i64 r,[]))(cmp_l:lends cmp_f=false){v:Int×Int}{s:St}{r:Int}(h:jS x_ target cmp v=some r)(hM:PL x_ target cmp cmp_f cmp_c v.1 v.2 s):BU Y.env uu (Vl x_ target cmp cmp_f cmp_c r) s:=by
 unfold jS at h;refine Ap (c:=Zt) (fun v=>T9 x_ target cmp v.1 v.2) (fun v s=>PL x_ target cmp cmp_f cmp_c v.1 v.2 s) (Vl x_ target cmp cmp_f cmp_c) ?_ h hM;clear h hM s v r;intro v s o hM h;obtain⟨i,j⟩:=v;dsimp only at h hM;unfold T9 at h;unfold PL at hM;obtain⟨m0,m1,m2,m3,m4,m5⟩:=hM;unfold Zt;rcases iS h with⟨e1,h⟩|⟨e1,h⟩
 ·obtain⟨e2,h⟩:=DL h;obtain⟨AF5,hl3,h⟩:=AQ h;have c3:=cmp_h _ _ _ hl3;rcases iS h with⟨e4,h⟩|⟨e4,h⟩
  ·cases h;simp only [↓AB,AC,↓reduceIte,Nat.reduceEqDiff,Nat.reduceLT,Int.reduceLT,Int.reduceToNat,m0,m1,m2,m3,m4,m5,cmp_l,e1,e2.1,e2.2,c3,e4,PL,Dw]
  ·cases h;simp only [↓AB,AC,↓reduceIte,Nat.reduceEqDiff,Nat.reduceLT,Int.reduceLT,Int.reduceToNat,m0,m1,m2,m3,m4,m5,cmp_l,e1,e2.1,e2.2,c3,e4,PL,Dw]
 ·cases h;simp only [↓AB,AC,↓reduceIte,Nat.reduceEqDiff,Nat.reduceLT,m0,m1,m2,m3,m4,m5,e1,PL,Vl,Ir]
theorem A0n(x_:AL)(target:AA)(cmp:AA→AA→Option Int)(cmp_f:FuncId)(cmp_c:List D)(cmp_h: ∀(a0 a1:AA) (r:Int),cmp a0 a1=some r→Y.call cmp_f (D.sl 3 (AJ (D.int .i64) a0)::D.sl 3 (AJ (D.int .i64) a1)::cmp_c) []=some (D.int .i64 r,[]))(cmp_l:lends cmp_f=false){r:Int×Bool}(h:gBS x_ target cmp=some r):Y.call 124 [D.sl 27 (AJ Ac x_),D.sl 3 (AJ (D.int .i64) target),D.clo cmp_f cmp_c] []=some (D.tup [D.int .i64 r.1,D.bool r.2],[]):=by
 refine AKX ?_ rfl;unfold A7t;unfold gBS at h;obtain⟨A8,hl2,h⟩:=AQ h;try dsimp only at h
 simp only [↓AB,AC,↓reduceIte,Nat.reduceEqDiff,Nat.reduceLT];refine AZ (xc x_ target cmp cmp_f cmp_c cmp_h cmp_l hl2 ?_) ?_
 ·simp only [BC,Ce,↓reduceIte,Nat.reduceEqDiff,Nat.reduceLT,PL]
 ·intro ex2 s2 hX2;unfold Vl at hX2;obtain⟨rfl,n2_0,n2_1,n2_2,n2_3,n2_4⟩:=hX2;rcases iS h with⟨e3,h⟩|⟨e3,h⟩
  ·obtain⟨e4,h⟩:=DL h;obtain⟨PK,hl5,h⟩:=AQ h;try dsimp only at h
   have c5:=cmp_h _ _ _ hl5;cases h;simp only [↓AB,AC,↓reduceIte,Nat.reduceEqDiff,Nat.reduceLT,cmp_l,n2_0,n2_1,n2_2,n2_3,n2_4,e3,e4.1,e4.2,c5]
  ·cases h;simp only [↓AB,AC,↓reduceIte,Nat.reduceEqDiff,Nat.reduceLT,n2_3,n2_4,e3]
noncomputable def Ic(list:AL)(labels:AA):Option (Bool):= (EQ labels).bind fun Mr=> ck (Mr.length<1099511627776)<| (gBS list (Dn Mr) (fun a0 a1=>gCp a0 a1)).bind fun oZ=> some oZ.2
def A7u:SC:= .seq (.ops [oX 4 BX 4]) (.seq (.ops [oM 8 0 22,oM 9 1 27,oC 10 126 [(tK 9)] [27] 113,oC 11 125 [(tK 10)] [113] 27,oC 12 124 [(tK 8),(tK 11),(.func 64)] [22,27,62] 72,oM 7 12 72,oE 13 7 0 3,oE 14 7 1 4,oA 5 13 3,oA 6 14 4]) (.seq (.ops [oM 15 6 4,oA 4 15 4]) .ret))
theorem A3A:Tryz.f108.body.map (BI lends)=some A7u:=by kernel_rfl
theorem AF8:BR Tryz.f108 2=true:=by kernel_rfl
theorem AKY{a l:List D}{r:D×List D}(h:BU Y.env A7u (Du Ab l.length [ResultVar.tmp 4] r) (entry a l))(ha:a.length=2):Y.call 108 a l=some r:=
 AP (Y:=Y) rfl Tryz.func108 (ha▸AF8) A3A h
theorem Qo(list:AL)(labels:AA){r:Bool}(h:Ic list labels=some r):Y.call 108 [D.sl 27 (AJ Ac list),D.sl 3 (AJ (D.int .i64) labels)] []=some (D.bool r,[]):=by
 refine AKY ?_ rfl;unfold A7u;unfold Ic at h;obtain⟨Mr,hl1,h⟩:=AQ h;have c1:=Nk labels hl1;obtain⟨e2,h⟩:=DL h;have c3:=tC Mr e2;obtain⟨oZ,hl4,h⟩:=AQ h;try dsimp only at h
 have c4:=A0n list (Dn Mr) (fun a0 a1=>gCp a0 a1) 64 [] (fun a0 a1 _ hh=>oJ a0 a1 hh) A78 hl4;cases h;simp only [↓AB,AC,↓reduceIte,Nat.reduceEqDiff,Nat.reduceLT,c1,c3,c4]
theorem xe(l:AL)(x:AA)(f:AA→AA→Option Int)(hl:l.length<1099511627776)(hf: ∀i,i<l.length→f (l.getD i default) x=some (cmpL (l.getD i default) x))(h:LP l=true):
  ∃r,gBS l x f=some (r,l.contains x):=by
 have key:=JV (fun v=>T9 l x f v.1 v.2)
  (fun m v=> ∃i j:Nat,v=((i:Int),(j:Int))∧i≤j∧j≤l.length∧m=j-i∧(∀k,k<i→cmpL (l.getD k default) x<0)∧(∀k,j≤k→k<l.length→ ¬cmpL (l.getD k default) x<0))
  (fun r=> ∃i:Nat,r=(i:Int)∧i≤l.length∧(∀k,k<i→cmpL (l.getD k default) x<0)∧(∀k,i≤k→k<l.length→ ¬cmpL (l.getD k default) x<0)) ?_ l.length (0,(l.length:Int)) ⟨0,l.length,rfl,Tx _,Io _,by omega,fun k hk=>by omega,fun k h1 h2=>by omega⟩
 ·obtain⟨r,h1,i,rfl,hi,h2,h3⟩:=key;unfold gBS jS;rw [h1,Bl];by_cases hlt:i<l.length
  ·rw [if_pos (by omega),Ao (by omega),H5,hf i hlt,Bl]
   refine⟨(i:Int), ?_⟩
   congr 2
   rw [Bool.eq_iff_iff,decide_eq_true_eq,List.contains_iff_mem,oW]
   constructor
   ·intro e;exact⟨i,hlt,cmpL_eq _ _ e⟩
   ·rintro⟨k,hk,rfl⟩
    have k1: ¬k<i:=fun hki=>by have:=h2 k hki;rw [X3]at this;omega
    have k2: ¬i<k:=fun hik=>h3 i (Io _) hlt (Zr h hik hk);have:k=i:=by omega
    subst this;exact X3 _
  ·rw [if_neg (by omega)]
   refine⟨(i:Int), ?_⟩
   congr 2
   symm
   rw [Gf];intro hc;obtain⟨k,hk,rfl⟩:=oW.1 (List.contains_iff_mem.1 hc);have:=h2 k (by omega)
   rw [X3]at this;omega
 ·rintro m v ⟨i,j,rfl,hij,hj,rfl,h2,h3⟩
  simp only [T9];by_cases hlt:i<j
  ·have e1:(2:Int) ^ (min 1 (IntKind.u64.bits))=2:=by decide
   have e2:(((i:Int)+(j:Int)).fdiv 2)=(((i+j) / 2:Nat):Int):=by
    rw [Int.fdiv_eq_ediv_of_nonneg _ (by omega)];omega
   rw [if_pos (by omega),Db ((i:Int)+j) (by omega),wrU _ (by omega),e1,e2,Db _ (by omega),Ao (by omega),H5,hf _ (by omega),Bl]
   left
   by_cases hc:cmpL (l.getD ((i+j) / 2) default) x<0
   ·rw [if_pos hc,Db _ (by omega)]
    refine⟨_,j-((i+j) / 2+1),rfl,by omega,(i+j) / 2+1,j,rfl,by omega,hj,rfl,fun k hk=> ?_,h3⟩
    by_cases e:k=(i+j) / 2
    ·rw [e];exact hc
    ·exact Ul _ _ _ (Zr h (by omega:k<(i+j) / 2) (by omega)) hc
   ·rw [if_neg hc]
    refine⟨_,(i+j) / 2-i,rfl,by omega,i,(i+j) / 2,rfl,by omega,by omega,rfl,h2,fun k hk1 hk2 hck=> ?_⟩
    by_cases e:k=(i+j) / 2
    ·rw [e]at hck;exact hc hck
    ·exact hc (Ul _ _ _ (Zr h (by omega:(i+j) / 2<k) hk2) hck)
  ·rw [if_neg (by omega)]
   right
   have:i=j:=by omega
   subst this
   exact⟨_,rfl,i,rfl,hj,h2,h3⟩
theorem Rs(l:AL)(x:AA)(hl:Ah l)(hx:x.length<1099511627776)(h:LP l=true):Ic l x=some (l.contains (Bt x)):=by
 unfold Ic EQ;rw [Bl,Ao hx,oV];obtain⟨r,e⟩:=xe l (Bt x) (fun a0 a1=>gCp a0 a1) hl.1 (fun i hi=>A0a _ _ (hl.getD i) (by rw [Tf];exact hx)) h
 rw [e];rfl
theorem Mh(list:AL)(labels:AA)(h0:Ah list)(h1:labels.length<1099511627776)(h2:LP list=true):Y.call 108 [D.sl 27 (AJ Ac list),D.sl 3 (AJ (D.int .i64) labels)] []=some (D.bool (list.contains (Bt labels)),[]):=Qo list labels (Rs list labels h0 h1 h2)
noncomputable def JC(a b:AA)(Dx:Int):Option ((Int)⊕(Unit⊕Unit)):= if Dx<(a.length:Int)then ck (0≤Dx∧Dx.toNat<a.length)<| ck (0≤Dx∧Dx.toNat<b.length)<| if(a.getD Dx.toNat default)=(b.getD Dx.toNat default)then some (Sum.inl (IntKind.i64.wrap (Dx+1))) else some (Sum.inr (Sum.inl ())) else some (Sum.inr (Sum.inr ()))
noncomputable def Py(a b:AA)(v:Int):Option (Unit⊕Unit):=Fv (fun v=>JC a b v) v
noncomputable def Qp(a b:AA):Option (Bool):=
 if(a.length:Int)=(b.length:Int)then
  (Py a b 0).bind fun A8=>
  match A8 with
  | .inl q1000_=>
   some false
  | .inr q1000_=>
   some true
 else
  some false
abbrev qd9:List Nat:=[16,17,18,19,20,21,22,23,24]
def jT:SC:= .seq (.ops [oB 14 .lss 3 (tK 13) (tK 12) 3 0]) (.seq (.cond (tK 14) .skip (.exit 0)) (.seq (.block 1 (.seq (.ops [oM 15 13 3,oA 5 15 3]) (.seq (.draws [(⟨[16,0,0],qd9,[16]⟩,oM 16 0 27),(⟨[17,5,5],qd9,[17]⟩,oM 17 5 3),(⟨[18,16,17,0,5],qd9,[18]⟩,oI 18 27 16 17),(⟨[19,18,0],qd9,[19]⟩,oL 19 3 18 3),(⟨[20,1,1],qd9,[20]⟩,oM 20 1 27),(⟨[21,5,5],qd9,[21]⟩,oM 21 5 3),(⟨[22,20,21,1,5],qd9,[22]⟩,oI 22 27 20 21),(⟨[23,22,1],qd9,[23]⟩,oL 23 3 22 3),(⟨[24,19,23,0,1],qd9,[24]⟩,oB 24 .neq 3 (tK 19) (tK 23) 3 4)]) (.cond (tK 24) (.seq (.ops [oX 4 BX 4]) .ret) .skip)))) (.ops [oB 25 .add 3 (tK 13) (iK 1) 3 3,oM 13 25 3])))
def A0o:SC:= .loop jT
def k89:SC:= .seq (.ops [oX 4 BX 4]) (.seq (.seq (.ops [oM 6 0 27,oN 7 6 27,oM 8 1 27,oN 9 8 27,oB 10 .neq 3 (tK 7) (tK 9) 3 4]) (.cond (tK 10) (.seq (.ops [oX 4 BX 4]) .ret) .skip)) (.seq (.seq (.ops [oM 11 0 27,oN 12 11 27,oX 13 (.move (iK 0)) 3]) (.block 0 A0o)) (.seq (.ops [oX 4 (.assign Gx) 4]) .ret)))
theorem A7v:Tryz.f89.body.map (BI lends)=some k89:=by kernel_rfl
theorem AKa:BR Tryz.f89 2=true:=by kernel_rfl
theorem c89{a l:List D}{r:D×List D}(h:BU Y.env k89 (Du Ab l.length [ResultVar.tmp 4] r) (entry a l))(ha:a.length=2):Y.call 89 a l=some r:=
 AP (Y:=Y) rfl Tryz.func89 (ha▸AKa) A7v h
def Gn(a b:AA)(Dx:Int)(s:St):Prop:=s.v 0=D.sl 3 (AJ (D.int .i64) a)∧s.v 1=D.sl 3 (AJ (D.int .i64) b)∧s.v 12=D.int .i64 (a.length:Int)∧s.v 13=D.int .i64 Dx
def JD(a b:AA)(r:Unit⊕Unit)(ex:Ex)(s:St):Prop:=match r with
 | .inl q=>ex= .ret∧s.v 4=D.bool false
 | .inr q=>ex= .exit 0
theorem Zu(a b:AA){v:Int}{s:St}{r:Unit⊕Unit}(h:Py a b v=some r)(hM:Gn a b v s):BU Y.env A0o (JD a b r) s:=by
 unfold Py at h;refine Ap (c:=jT) (fun v=>JC a b v) (fun v s=>Gn a b v s) (JD a b) ?_ h hM;clear h hM s v r;intro Dx s o hM h;unfold JC at h;unfold Gn at hM;obtain⟨m0,m1,m2,m3⟩:=hM;unfold jT;rcases iS h with⟨e2,h⟩|⟨e2,h⟩
 ·obtain⟨e3,e4,h⟩:=Fy h;rcases iS h with⟨e5,h⟩|⟨e5,h⟩
  ·cases h;simp only [↓AB,AC,↓reduceIte,Nat.reduceEqDiff,Nat.reduceLT,m0,m1,m2,m3,e2,e3.1,e3.2,e4.2,decide_eq_true e5,Gn,Dw]
  ·cases h;simp only [↓AB,AC,↓reduceIte,Nat.reduceEqDiff,Nat.reduceLT,m0,m1,m2,m3,e2,e3.1,e3.2,e4.2,e5,Gn,JD,Tz]
 ·cases h;simp only [↓AB,AC,↓reduceIte,Nat.reduceLT,m2,m3,e2,Gn,JD,Ir]
theorem UG(a b:AA){r:Bool}(h:Qp a b=some r):Y.call 89 [D.sl 3 (AJ (D.int .i64) a),D.sl 3 (AJ (D.int .i64) b)] []=some (D.bool r,[]):=by
 refine c89 ?_ rfl;unfold k89;unfold Qp at h;rcases iS h with⟨e1,h⟩|⟨e1,h⟩
 ·obtain⟨A8,hl3,h⟩:=AQ h;try dsimp only at h
  simp only [↓AB,AC,↓reduceIte,Nat.reduceEqDiff,Nat.reduceLT,decide_eq_true e1];refine AZ (Zu a b hl3 ?_) ?_
  ·simp only [BC,Ce,↓reduceIte,Nat.reduceEqDiff,Nat.reduceLT,Gn]
  ·intro ex3 s3 hX3;rcases A8 with q1000_|q1000_
   ·unfold JD at hX3;dsimp only at hX3 h;obtain⟨rfl,n3_0⟩:=hX3;cases h;simp only [↓AB,AC,↓reduceIte,n3_0]
   ·unfold JD at hX3;dsimp only at hX3 h
    obtain rfl:=hX3
    cases h;simp only [↓AB,AC,↓reduceIte,Nat.reduceEqDiff,Nat.reduceLT]
 ·cases h;simp only [↓AB,AC,↓reduceIte,Nat.reduceEqDiff,Nat.reduceLT,e1]
noncomputable def KC(l:AL)(x_:AA)(MZ:Int):Option ((Int)⊕(Unit⊕Unit)):= if MZ<(l.length:Int)then ck (0≤MZ∧MZ.toNat<l.length)<| (Qp x_ (l.getD MZ.toNat default)).bind fun Ll=> if Ll=true then some (Sum.inr (Sum.inl ())) else some (Sum.inl (IntKind.i64.wrap (MZ+1))) else some (Sum.inr (Sum.inr ()))
noncomputable def RP(l:AL)(x_:AA)(v:Int):Option (Unit⊕Unit):=Fv (fun v=>KC l x_ v) v
noncomputable def YP(l:AL)(x_:AA):Option (Bool):=
 (RP l x_ 0).bind fun A8=>
 match A8 with
 | .inl q1000_=>
  some true
 | .inr q1000_=>
  some false
def jU:SC:= .seq (.ops [oB 10 .lss 3 (tK 9) (tK 8) 3 0]) (.seq (.cond (tK 10) .skip (.exit 0)) (.seq (.block 1 (.seq (.ops [oI 11 22 7 9,oL 12 27 11 27,oA 6 12 27]) (.seq (.ops [oM 13 1 27,oM 14 6 27,oC 15 89 [(tK 13),(tK 14)] [27,27] 4]) (.cond (tK 15) (.seq (.ops [oX 4 (.assign Gx) 4]) .ret) .skip)))) (.ops [oB 16 .add 3 (tK 9) (iK 1) 3 3,oM 9 16 3])))
def A0p:SC:= .loop jU
def k86:SC:= .seq (.ops [oX 4 BX 4]) (.seq (.seq (.ops [oM 7 0 22,oN 8 7 22,oX 9 (.move (iK 0)) 3]) (.block 0 A0p)) (.seq (.ops [oX 4 BX 4]) .ret))
theorem A7w:Tryz.f86.body.map (BI lends)=some k86:=by kernel_rfl
theorem AKc:BR Tryz.f86 2=true:=by kernel_rfl
theorem c86{a l:List D}{r:D×List D}(h:BU Y.env k86 (Du Ab l.length [ResultVar.tmp 4] r) (entry a l))(ha:a.length=2):Y.call 86 a l=some r:=
 AP (Y:=Y) rfl Tryz.func86 (ha▸AKc) A7w h
def Ie(l:AL)(x_:AA)(MZ:Int)(s:St):Prop:=s.v 1=D.sl 3 (AJ (D.int .i64) x_)∧s.v 7=D.sl 27 (AJ Ac l)∧s.v 8=D.int .i64 (l.length:Int)∧s.v 9=D.int .i64 MZ
def KD(l:AL)(x_:AA)(r:Unit⊕Unit)(ex:Ex)(s:St):Prop:=match r with
 | .inl q=>ex= .ret∧s.v 4=D.bool true
 | .inr q=>ex= .exit 0
theorem dA(l:AL)(x_:AA){v:Int}{s:St}{r:Unit⊕Unit}(h:RP l x_ v=some r)(hM:Ie l x_ v s):BU Y.env A0p (KD l x_ r) s:=by
 unfold RP at h;refine Ap (c:=jU) (fun v=>KC l x_ v) (fun v s=>Ie l x_ v s) (KD l x_) ?_ h hM;clear h hM s v r;intro MZ s o hM h;unfold KC at h;unfold Ie at hM;obtain⟨m0,m1,m2,m3⟩:=hM;unfold jU;rcases iS h with⟨e1,h⟩|⟨e1,h⟩
 ·obtain⟨e2,h⟩:=DL h;obtain⟨Ll,hl3,h⟩:=AQ h;have c3:=UG x_ (l.getD MZ.toNat default) hl3;rcases iS h with⟨e4,h⟩|⟨e4,h⟩
  ·cases h;simp only [↓AB,AC,↓reduceIte,Nat.reduceEqDiff,Nat.reduceLT,m0,m1,m2,m3,e1,e2.1,e2.2,c3,e4,Ie,KD,Tz]
  ·have e4f:Ll=false:=Gf.mpr e4;cases h;simp only [↓AB,AC,↓reduceIte,Nat.reduceEqDiff,Nat.reduceLT,m0,m1,m2,m3,e1,e2.1,e2.2,c3,e4f,Ie,Dw]
 ·cases h;simp only [↓AB,AC,↓reduceIte,Nat.reduceLT,m2,m3,e1,Ie,KD,Ir]
theorem jV(l:AL)(x_:AA){r:Bool}(h:YP l x_=some r):Y.call 86 [D.sl 27 (AJ Ac l),D.sl 3 (AJ (D.int .i64) x_)] []=some (D.bool r,[]):=by
 refine c86 ?_ rfl;unfold k86;unfold YP at h;obtain⟨A8,hl2,h⟩:=AQ h;try dsimp only at h
 simp only [↓AB,AC,↓reduceIte,Nat.reduceEqDiff,Nat.reduceLT];refine AZ (dA l x_ hl2 ?_) ?_
 ·simp only [BC,Ce,↓reduceIte,Nat.reduceEqDiff,Nat.reduceLT,Ie]
 ·intro ex2 s2 hX2;rcases A8 with q1000_|q1000_
  ·unfold KD at hX2;dsimp only at hX2 h;obtain⟨rfl,n2_0⟩:=hX2;cases h;simp only [↓AB,AC,↓reduceIte,n2_0]
  ·unfold KD at hX2;dsimp only at hX2 h
   obtain rfl:=hX2
   cases h;simp only [↓AB,AC,↓reduceIte,Nat.reduceEqDiff,Nat.reduceLT]
theorem fE(a b:AA)(ha:a.length<1099511627776):Qp a b=some (decide (a=b)):=by
 unfold Qp Py;by_cases hl:a.length=b.length
 ·rw [if_pos (by omega)]
  have key:=Pi (fun v=>JC a b v) (fun i=>(i:Int)) a.length (fun i=>decide (a.getD i default=b.getD i default)) (.inl ()) (.inr ()) ?_ ?_
  ·simp only [Jb]at key;rw [key,ZU a b hl];by_cases he:a=b<;>simp [he]
  ·intro i hi;simp only [JC];rw [if_pos (BZ hi),Ao (Gj hi),Ao (Gj (by omega)),H5,H9 i (by omega)]<;>simp only [decide_eq_true_eq]
  ·simp only [JC];rw [if_neg (Ae _)]
 ·rw [if_neg (by omega)]
  have: ¬a=b:=fun e=>hl (by rw [e])
  simp [this]
theorem tX(l:AL)(x:AA)(hl:l.length<1099511627776)(hx:x.length<1099511627776):YP l x=some (l.contains x):=by
 unfold YP RP;have key:=Pi (fun v=>KC l x v) (fun i=>(i:Int)) l.length (fun i=> !decide (x=l.getD i default)) (.inl ()) (.inr ()) ?_ ?_
 ·simp only [Jb]at key;rw [key,Bl];rw [ZT (fun y=> !decide (x=y)) l];by_cases hm:x∈l
  ·have:l.all (fun y=> !decide (x=y))=false:=by
    rw [Gf];intro hc;have:=JR.1 hc x hm
    simp at this
   rw [this,if_neg (by decide)]
   simp [hm]
  ·have:l.all (fun y=> !decide (x=y))=true:=by
    refine JR.2 fun y hy=> ?_;have: ¬x=y:=fun e=>hm (e▸hy)
    simp [this]
   rw [this,if_pos rfl];simp [hm]
 ·intro i hi;simp only [KC];rw [if_pos (BZ hi),Ao (Gj hi),H5,fE _ _ hx,Bl,H9 i (by omega)]
  by_cases e:x=l.getD i default<;>simp [e]
 ·simp only [KC];rw [if_neg (Ae _)]
theorem Um(l:AL)(x_:AA)(h0:l.length<1099511627776)(h1:x_.length<1099511627776):Y.call 86 [D.sl 27 (AJ Ac l),D.sl 3 (AJ (D.int .i64) x_)] []=some (D.bool (l.contains x_),[]):=jV l x_ (tX l x_ h0 h1)
end Go.Proofs.YtjhjkfoabhplfaaGreat
