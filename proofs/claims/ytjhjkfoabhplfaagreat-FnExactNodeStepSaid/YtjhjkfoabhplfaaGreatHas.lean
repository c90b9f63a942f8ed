/- Configurations looked up by halving and one by one, as membership. Conditions: the lists are short and increasing. -/
import Derived.Test.YtjhjkfoabhplfaaGreatL6
import Derived.Test.YtjhjkfoabhplfaaGreatSrt
namespace Go.Proofs.YtjhjkfoabhplfaaGreat
open Go Dv
set_option linter.unusedSimpArgs false
set_option linter.unusedVariables false
set_option maxRecDepth 100000
set_option maxHeartbeats 4000000
theorem wrU(n:Int)(h:0≤n∧n<18446744073709551616):IntKind.u64.wrap n=n:=by
 unfold IntKind.wrap;simp only [IntKind.signed,IntKind.bits]
 simp
 omega
theorem bv(x:Int): ∀r,(UC x r).Perm (x::r):=by
 intro r
 induction r with
 |nil=>exact List.Perm.refl _
 |cons y r ih=>
  unfold UC;split
  ·exact((List.perm_cons y).2 ih).trans (List.Perm.swap x y r)
  ·exact List.Perm.refl _
theorem ut(x:Int): ∀r,r.Pairwise (fun a b=>b≤a)→(UC x r).Pairwise (fun a b=>b≤a):=by
 intro r
 induction r with
 |nil=>intro _;simp [UC]
 |cons y r ih=>
  intro h;obtain⟨h1,h2⟩:=Va.1 h;unfold UC;split
  ·rename_i hxy
   refine Va.2 ⟨fun z hz=> ?_,ih h2⟩;rcases Ms.1 ((bv x r).mem_iff.1 hz)with rfl|hz
   ·omega
   ·exact h1 z hz
  ·rename_i hxy
   refine Va.2 ⟨fun z hz=> ?_,h⟩;rcases Ms.1 hz with rfl|hz
   ·omega
   ·have:=h1 z hz;omega
theorem qC: ∀(l r:AL),(l.foldl (fun r x=>UC x r) r).Perm (l++r):=by
 intro l
 induction l with
 |nil=>intro r;exact List.Perm.refl _
 |cons x l ih=>
  intro r;simp only [X5]
  exact(ih _).trans (((List.Perm.refl l).append (bv x r)).trans List.perm_middle)
theorem qD: ∀(l r:AL),r.Pairwise (fun a b=>b≤a)→(l.foldl (fun r x=>UC x r) r).Pairwise (fun a b=>b≤a):=by
 intro l
 induction l with
 |nil=>intro r h;exact h
 |cons x l ih=>intro r h;exact ih _ (ut x r h)
theorem Oy(l:AL):(CY l).Perm l:=by
 unfold CY;have:=qC l []
 rw [Pv]at this
 exact(List.reverse_perm _).trans this
theorem UD(l:AL):(CY l).Pairwise (fun a b=>a≤b):=by
 unfold CY;exact List.pairwise_reverse.2 (qD l [] List.Pairwise.nil)
theorem ll(l:AL):ER l=CY l:=by
 refine List.Perm.eq_of_pairwise (le:=fun a b:Int=>a≤b) (fun a b _ _ h1 h2=>Int.le_antisymm h1 h2) ?_ (UD l) ((List.mergeSort_perm _ _).trans (Oy l).symm);have:=List.pairwise_mergeSort (le:=fun x y:Int=>decide (x≤y)) (fun a b c h1 h2=>by simp only [decide_eq_true_eq]at*;omega) (fun a b=>by simp only [UQ,decide_eq_true_eq];omega) l
 unfold ER;exact this.imp (fun h=>by simpa using h)
theorem TB(l:AL):(CY l).length=l.length:=(Oy l).length_eq
theorem bz(a b:Int):CY [a,b]=if b<a then [b,a]else [a,b]:=by
 unfold CY;simp only [X5,List.foldl_nil,UC];by_cases h:b<a<;>simp [h]
theorem WJ: ∀a:AL,cmpL a a=0:=by
 intro a
 induction a with
 |nil=>rfl
 |cons x a ih=>unfold cmpL;rw [if_pos rfl,ih]
theorem cmpL_eq: ∀(a b:AL),cmpL a b=0→a=b:=by
 intro a
 induction a with
 |nil=>intro b h;cases b with
  |nil=>rfl
  |cons y b=>simp [cmpL]at h
 |cons x a ih=>intro b h;cases b with
  |nil=>simp [cmpL]at h
  |cons y b=>
   unfold cmpL at h
   split at h
   ·rename_i e;rw [e,ih b h]
   ·split at h<;>simp at h
theorem UE: ∀(a b c:AL),cmpL a b<0→cmpL b c<0→cmpL a c<0:=by
 intro a
 induction a with
 |nil=>intro b c h1 h2;cases c with
  |nil=>cases b with
   |nil=>simp [cmpL]at h1
   |cons y b=>simp [cmpL]at h2
  |cons z c=>simp [cmpL]
 |cons x a ih=>intro b c h1 h2;cases b with
  |nil=>simp [cmpL]at h1
  |cons y b=>cases c with
   |nil=>simp [cmpL]at h2
   |cons z c=>
    unfold cmpL at h1 h2 ⊢;by_cases e1:x=y
    ·subst e1;rw [if_pos rfl]at h1;by_cases e2:x=z
     ·subst e2;rw [if_pos rfl]at h2 ⊢;exact ih b c h1 h2
     ·rw [if_neg e2]at h2 ⊢;exact h2
    ·rw [if_neg e1]at h1
     have l1:x<y:=by
      by_cases hl:x<y
      ·exact hl
      ·rw [if_neg hl]at h1;omega
     by_cases e2:y=z
     ·subst e2;rw [if_neg e1,if_pos l1];decide
     ·rw [if_neg e2]at h2
      have l2:y<z:=by
       by_cases hl:y<z
       ·exact hl
       ·rw [if_neg hl]at h2;omega
      rw [if_neg (by omega),if_pos (by omega)];decide
def RV(l:AO):Bool:=(List.range l.length).all fun i=>decide (i=0)||decide (cmpL (l.getD (i-1) default) (l.getD i default)<0)
theorem A1J{l:AO}(h:RV l=true): ∀(d i:Nat),i+d+1<l.length→cmpL (l.getD i default) (l.getD (i+d+1) default)<0:=by
 have step: ∀i,i+1<l.length→cmpL (l.getD i default) (l.getD (i+1) default)<0:=fun i hi=>by
  have:=KO.1 h (i+1) hi
  simpa using this
 intro d
 induction d with
 |zero=>intro i hi;exact step i hi
 |succ d ih=>
  intro i hi;exact UE _ _ _ (ih i (by omega)) (step (i+d+1) (by omega))
theorem ZC{l:AO}(h:RV l=true){i j:Nat}(hij:i<j)(hj:j<l.length):cmpL (l.getD i default) (l.getD j default)<0:=by
 have:=A1J h (j-i-1) i (by omega)
 rwa [show i+(j-i-1)+1=j by omega]at this
theorem cB{l:AO}{s n:Int}(h:MQ l s n=true):RV l=true:=by
 refine KO.2 fun i hi=> ?_;have:=KO.1 h i hi
 unfold Qx at this;rw [KG]at this;exact this.2
theorem lm{l:AO}{x:AL}:x∈l↔ ∃k,k<l.length∧l.getD k default=x:=by
 constructor
 ·intro h;obtain⟨k,hk,e⟩:=Tt h
  exact⟨k,hk,by rw [M8,Ga hk];exact e⟩
 ·rintro⟨k,hk,rfl⟩
  rw [M8,Ga hk];exact GG hk
noncomputable def Ew(s_:AL):Option (AL):= some s_
def A5y:SC:= .seq (.ops [oX 1 (.box 27 (tK 0)) 0,oX 2 (.assign (.const .nilFunc)) 113]) (.seq (.ops [oX 3 (.makeFunc (Fn.func 141) #[] #[(tK 1)]) 112,oA 2 3 113]) .ret)
theorem A1K:Tryz.f126.body.map (Bw lends)=some A5y:=by kernel_rfl
theorem AD0:CP Tryz.f126 1=true:=by kernel_rfl
theorem AIM{a l:List D}{r:D×List D}(h:CG Y.env A5y (FX Ah l.length [ResultVar.tmp 2] r) (entry a l))(ha:a.length=1):Y.call 126 a l=some r:=
 AZ (Y:=Y) rfl Tryz.func126 (ha▸AD0) A1K h
theorem Nr(s_:AL){r:AL}(h:Ew s_=some r):Y.call 126 [D.sl 3 (AV (D.int .i64) s_)] []=some (D.clo 141 [D.cptr [D.sl 3 (AV (D.int .i64) r)]],[]):=by
 refine AIM ?_ rfl;unfold A5y;unfold Ew at h
 obtain rfl:=Option.some.inj h
 simp only [↓AR,AU,↓reduceIte,Nat.reduceEqDiff,Nat.reduceLT]
noncomputable def BI(x_:AO)(target:AL)(cmp:AL→AL→Option Int)(i:Int)(j:Int):Option ((Int×Int)⊕(Int)):= if i<j then ck (0≤IntKind.i64.wrap ((IntKind.u64.wrap (IntKind.i64.wrap (i+j))).fdiv (2 ^ (min 1 (IntKind.u64.bits))))∧(IntKind.i64.wrap ((IntKind.u64.wrap (IntKind.i64.wrap (i+j))).fdiv (2 ^ (min 1 (IntKind.u64.bits))))).toNat<x_.length)<| (cmp (x_.getD ((IntKind.i64.wrap ((IntKind.u64.wrap (IntKind.i64.wrap (i+j))).fdiv (2 ^ (min 1 (IntKind.u64.bits))))).toNat) default) target).bind fun AD1=> if AD1<0 then some (Sum.inl (IntKind.i64.wrap ((IntKind.i64.wrap ((IntKind.u64.wrap (IntKind.i64.wrap (i+j))).fdiv (2 ^ (min 1 (IntKind.u64.bits)))))+1),j)) else some (Sum.inl (i,IntKind.i64.wrap ((IntKind.u64.wrap (IntKind.i64.wrap (i+j))).fdiv (2 ^ (min 1 (IntKind.u64.bits)))))) else some (Sum.inr i)
noncomputable def Bt(x_:AO)(target:AL)(cmp:AL→AL→Option Int)(v:Int×Int):Option (Int):=Hu (fun v=>BI x_ target cmp v.1 v.2) v
noncomputable def BV(x_:AO)(target:AL)(cmp:AL→AL→Option Int):Option (Int×Bool):= (Bt x_ target cmp (0,(x_.length:Int))).bind fun AC=> if AC<(x_.length:Int)then ck (0≤AC∧AC.toNat<x_.length)<| (cmp (x_.getD AC.toNat default) target).bind fun Oz=> some (AC,(decide (Oz=0))) else some (AC,false)
def ZE:SC:= .seq (.seq (.ops [oM 15 9 3,oM 16 10 3,oB 17 .lss 3 (tK 15) (tK 16) 3 4]) (.cond (tK 17) .skip (.exit 0))) (.block 1 (.seq (.ops [oM 18 9 3,oM 19 10 3,oB 20 .add 3 (tK 18) (tK 19) 3 3,oX 21 (.convert 3 91 (tK 20)) 91,oB 22 .shr 91 (tK 21) (.const (.int .u64 1)) 91 91,oX 23 (.convert 91 3 (tK 22)) 3,oA 11 23 3]) (.seq (.ops [oM 24 2 62,oM 25 0 22,oM 26 11 3,oI 27 22 25 26,oL 28 27 27 27,oM 29 1 27,oX 30 (.call ⟨(.value (tK 24)), #[(tK 28),(tK 29)], #[27,27]⟩) 3,oB 31 .lss 3 (tK 30) (iK 0) 3 4]) (.cond (tK 31) (.ops [oM 32 11 3,oB 33 .add 3 (tK 32) (iK 1) 3 3,oA 9 33 3]) (.ops [oM 34 11 3,oA 10 34 3])))))
def rH:SC:= .loop ZE
def A5z:SC:= .seq (.ops [oX 6 (.assign (iK 0)) 3,oX 7 Cr 4]) (.seq (.ops [oM 12 0 22,oN 13 12 22,oA 8 13 3]) (.seq (.ops [oM 14 8 3,oX 9 (.assign (iK 0)) 3,oA 10 14 3]) (.seq (.block 0 rH) (.seq (.ops [oM 35 9 3,oM 36 9 3,oM 37 8 3,oB 38 .lss 3 (tK 36) (tK 37) 3 4,oM 39 38 4,⟨(some 40),(.move (tK 2)),62,(some (some 39,true))⟩,⟨(some 41),(.move (tK 0)),22,(some (some 39,true))⟩,⟨(some 42),(.move (tK 9)),3,(some (some 39,true))⟩,⟨(some 43),(.indexAddr 22 (tK 41) (tK 42)),0,(some (some 39,true))⟩,⟨(some 44),(.load 27 (tK 43)),27,(some (some 39,true))⟩,⟨(some 45),(.move (tK 1)),27,(some (some 39,true))⟩,⟨(some 46),(.call ⟨(.value (tK 40)), #[(tK 44),(tK 45)], #[27,27]⟩),3,(some (some 39,true))⟩,⟨(some 47),(.binOp .eql 3 (tK 46) (iK 0) 3),4,(some (some 39,true))⟩,oX 48 (.pick (tK 39) (tK 47) OL) 4,oA 6 35 3,oA 7 48 4]) .ret))))
theorem A1L:Tryz.f124.body.map (Bw lends)=some A5z:=by kernel_rfl
theorem AD2:CP Tryz.f124 3=true:=by kernel_rfl
theorem AIN{a l:List D}{r:D×List D}(h:CG Y.env A5z (FX Ah l.length [ResultVar.tmp 6,ResultVar.tmp 7] r) (entry a l))(ha:a.length=3):Y.call 124 a l=some r:=
 AZ (Y:=Y) rfl Tryz.func124 (ha▸AD2) A1L h
def Ak(x_:AO)(target:AL)(cmp:AL→AL→Option Int)(cmp_f:FuncId)(cmp_c:List D)(i:Int)(j:Int)(s:St):Prop:=s.v 0=D.sl 27 (AV Aw x_)∧s.v 1=D.sl 3 (AV (D.int .i64) target)∧s.v 2=D.clo cmp_f cmp_c∧s.v 8=D.int .i64 (x_.length:Int)∧s.v 9=D.int .i64 i∧s.v 10=D.int .i64 j
def Bl(x_:AO)(target:AL)(cmp:AL→AL→Option Int)(cmp_f:FuncId)(cmp_c:List D)(r:Int)(ex:Ex)(s:St):Prop:=ex= .exit 0∧s.v 0=D.sl 27 (AV Aw x_)∧s.v 1=D.sl 3 (AV (D.int .i64) target)∧s.v 2=D.clo cmp_f cmp_c∧s.v 8=D.int .i64 (x_.length:Int)∧s.v 9=D.int .i64 r
theorem H6(x_:AO)(target:AL)(cmp:AL→AL→Option Int)(cmp_f:FuncId)(cmp_c:List D)(cmp_h: ∀(a0:AL) (a1:AL) (r:Int),cmp a0 a1=some r→Y.call cmp_f (D.sl 3 (AV (D.int .i64) a0)::D.sl 3 (AV (D.int .i64) a1)::cmp_c) []=some (D.int .i64 r,[]))(cmp_l:lends cmp_f=false){v:Int×Int}{s:St}{r:Int}(h:Bt x_ target cmp v=some r)(hM:Ak x_ target cmp cmp_f cmp_c v.1 v.2 s):CG Y.env rH (Bl x_ target cmp cmp_f cmp_c r) s:=by
 unfold Bt at h;refine BD (c:=ZE) (fun v=>BI x_ target cmp v.1 v.2) (fun v s=>Ak x_ target cmp cmp_f cmp_c v.1 v.2 s) (Bl x_ target cmp cmp_f cmp_c) ?_ h hM;clear h hM s v r;intro v s o hM h;obtain⟨i,j⟩:=v;dsimp only at h hM;unfold BI at h;unfold Ak at hM;obtain⟨m0,m1,m2,m3,m4,m5⟩:=hM;unfold ZE;rcases iS h with⟨e1,h⟩|⟨e1,h⟩
 ·obtain⟨e2,h⟩:=EQ h;obtain⟨AD1,hl3,h⟩:=Aa h;have c3:=cmp_h _ _ _ hl3;rcases iS h with⟨e4,h⟩|⟨e4,h⟩
  ·obtain rfl:=Option.some.inj h
   simp only [↓AR,AU,↓reduceIte,Nat.reduceEqDiff,Nat.reduceLT,Int.reduceLT,Int.reduceToNat,m0,m1,m2,m3,m4,m5,cmp_l,e1,e2.1,e2.2,c3,e4,Ak,FV]
  ·obtain rfl:=Option.some.inj h
   simp only [↓AR,AU,↓reduceIte,Nat.reduceEqDiff,Nat.reduceLT,Int.reduceLT,Int.reduceToNat,m0,m1,m2,m3,m4,m5,cmp_l,e1,e2.1,e2.2,c3,e4,Ak,FV]
 ·obtain rfl:=Option.some.inj h
  simp only [↓AR,AU,↓reduceIte,Nat.reduceEqDiff,Nat.reduceLT,m0,m1,m2,m3,m4,m5,e1,Ak,Bl,KF]
theorem Hg(x_:AO)(target:AL)(cmp:AL→AL→Option Int)(cmp_f:FuncId)(cmp_c:List D)(cmp_h: ∀(a0:AL) (a1:AL) (r:Int),cmp a0 a1=some r→Y.call cmp_f (D.sl 3 (AV (D.int .i64) a0)::D.sl 3 (AV (D.int .i64) a1)::cmp_c) []=some (D.int .i64 r,[]))(cmp_l:lends cmp_f=false){r:Int×Bool}(h:BV x_ target cmp=some r):Y.call 124 [D.sl 27 (AV Aw x_),D.sl 3 (AV (D.int .i64) target),D.clo cmp_f cmp_c] []=some (D.tup [D.int .i64 r.1,D.bool r.2],[]):=by
 refine AIN ?_ rfl;unfold A5z;unfold BV at h;obtain⟨AC,hl2,h⟩:=Aa h;try dsimp only at h
 simp only [↓AR,AU,↓reduceIte,Nat.reduceEqDiff,Nat.reduceLT];refine Ai (H6 x_ target cmp cmp_f cmp_c cmp_h cmp_l hl2 ?_) ?_
 ·simp only [Bd,Da,↓reduceIte,Nat.reduceEqDiff,Nat.reduceLT,Ak]
 ·intro ex2 s2 hX2;unfold Bl at hX2;obtain⟨rfl,n2_0,n2_1,n2_2,n2_3,n2_4⟩:=hX2;rcases iS h with⟨e3,h⟩|⟨e3,h⟩
  ·obtain⟨e4,h⟩:=EQ h;obtain⟨Oz,hl5,h⟩:=Aa h;try dsimp only at h
   have c5:=cmp_h _ _ _ hl5
   obtain rfl:=Option.some.inj h
   simp only [↓AR,AU,↓reduceIte,Nat.reduceEqDiff,Nat.reduceLT,cmp_l,n2_0,n2_1,n2_2,n2_3,n2_4,e3,e4.1,e4.2,c5]
  ·obtain rfl:=Option.some.inj h
   simp only [↓AR,AU,↓reduceIte,Nat.reduceEqDiff,Nat.reduceLT,n2_3,n2_4,e3]
noncomputable def J4(list:AO)(labels:AL):Option (Bool):= (Ew labels).bind fun Mg=> ck (Mg.length<1099511627776)<| (BV list (ER Mg) (fun a0 a1=>CR a0 a1)).bind fun yl=> some yl.2
def A60:SC:= .seq (.ops [oX 4 Cr 4]) (.seq (.ops [oM 8 0 22,oM 9 1 27,oC 10 126 [(tK 9)] [27] 113,oC 11 125 [(tK 10)] [113] 27,oC 12 124 [(tK 8),(tK 11),(.func 64)] [22,27,62] 72,oM 7 12 72,oE 13 7 0 3,oE 14 7 1 4,oA 5 13 3,oA 6 14 4]) (.seq (.ops [oM 15 6 4,oA 4 15 4]) .ret))
theorem A1M:Tryz.f108.body.map (Bw lends)=some A60:=by kernel_rfl
theorem AD3:CP Tryz.f108 2=true:=by kernel_rfl
theorem AIO{a l:List D}{r:D×List D}(h:CG Y.env A60 (FX Ah l.length [ResultVar.tmp 4] r) (entry a l))(ha:a.length=2):Y.call 108 a l=some r:=
 AZ (Y:=Y) rfl Tryz.func108 (ha▸AD3) A1M h
theorem QX(list:AO)(labels:AL){r:Bool}(h:J4 list labels=some r):Y.call 108 [D.sl 27 (AV Aw list),D.sl 3 (AV (D.int .i64) labels)] []=some (D.bool r,[]):=by
 refine AIO ?_ rfl;unfold A60;unfold J4 at h;obtain⟨Mg,hl1,h⟩:=Aa h;have c1:=Nr labels hl1;obtain⟨e2,h⟩:=EQ h;have c3:=pq Mg e2;obtain⟨yl,hl4,h⟩:=Aa h;try dsimp only at h
 have c4:=Hg list (ER Mg) (fun a0 a1=>CR a0 a1) 64 [] (fun a0 a1 _ hh=>IL a0 a1 hh) A5M hl4
 obtain rfl:=Option.some.inj h
 simp only [↓AR,AU,↓reduceIte,Nat.reduceEqDiff,Nat.reduceLT,c1,c3,c4]
theorem uu(l:AO)(x:AL)(f:AL→AL→Option Int)(hl:l.length<1099511627776)(hf: ∀i,i<l.length→f (l.getD i default) x=some (cmpL (l.getD i default) x))(h:RV l=true):
  ∃r,BV l x f=some (r,l.contains x):=by
 have key:=Jk (fun v=>BI l x f v.1 v.2)
  (fun m v=> ∃i j:Nat,v=((i:Int),(j:Int))∧i≤j∧j≤l.length∧m=j-i∧(∀k,k<i→cmpL (l.getD k default) x<0)∧(∀k,j≤k→k<l.length→ ¬cmpL (l.getD k default) x<0))
  (fun r=> ∃i:Nat,r=(i:Int)∧i≤l.length∧(∀k,k<i→cmpL (l.getD k default) x<0)∧(∀k,i≤k→k<l.length→ ¬cmpL (l.getD k default) x<0)) ?_ l.length (0,(l.length:Int)) ⟨0,l.length,rfl,TM _,JE _,by omega,fun k hk=>by omega,fun k h1 h2=>by omega⟩
 ·obtain⟨r,h1,i,rfl,hi,h2,h3⟩:=key;unfold BV Bt;rw [h1,Cs];by_cases hlt:i<l.length
  ·rw [if_pos (by omega),BF (by omega),JD,hf i hlt,Cs]
   refine⟨(i:Int), ?_⟩
   congr 2
   rw [Bool.eq_iff_iff,decide_eq_true_eq,List.contains_iff_mem,lm]
   constructor
   ·intro e;exact⟨i,hlt,cmpL_eq _ _ e⟩
   ·rintro⟨k,hk,rfl⟩
    have k1: ¬k<i:=fun hki=>by have:=h2 k hki;rw [WJ]at this;omega
    have k2: ¬i<k:=fun hik=>h3 i (JE _) hlt (ZC h hik hk);have:k=i:=by omega
    subst this;exact WJ _
  ·rw [if_neg (by omega)]
   refine⟨(i:Int), ?_⟩
   congr 2
   symm
   rw [Ju];intro hc;obtain⟨k,hk,rfl⟩:=lm.1 (List.contains_iff_mem.1 hc);have:=h2 k (by omega)
   rw [WJ]at this;omega
 ·rintro m v ⟨i,j,rfl,hij,hj,rfl,h2,h3⟩
  simp only [BI];by_cases hlt:i<j
  ·have e1:(2:Int) ^ (min 1 (IntKind.u64.bits))=2:=by decide
   have e2:(((i:Int)+(j:Int)).fdiv 2)=(((i+j) / 2:Nat):Int):=by
    rw [Int.fdiv_eq_ediv_of_nonneg _ (by omega)];omega
   rw [if_pos (by omega),Ec ((i:Int)+j) (by omega),wrU _ (by omega),e1,e2,Ec _ (by omega),BF (by omega),JD,hf _ (by omega),Cs]
   left
   by_cases hc:cmpL (l.getD ((i+j) / 2) default) x<0
   ·rw [if_pos hc,Ec _ (by omega)]
    refine⟨_,j-((i+j) / 2+1),rfl,by omega,(i+j) / 2+1,j,rfl,by omega,hj,rfl,fun k hk=> ?_,h3⟩
    by_cases e:k=(i+j) / 2
    ·rw [e];exact hc
    ·exact UE _ _ _ (ZC h (by omega:k<(i+j) / 2) (by omega)) hc
   ·rw [if_neg hc]
    refine⟨_,(i+j) / 2-i,rfl,by omega,i,(i+j) / 2,rfl,by omega,by omega,rfl,h2,fun k hk1 hk2 hck=> ?_⟩
    by_cases e:k=(i+j) / 2
    ·rw [e]at hck;exact hc hck
    ·exact hc (UE _ _ _ (ZC h (by omega:(i+j) / 2<k) hk2) hck)
  ·rw [if_neg (by omega)]
   right
   have:i=j:=by omega
   subst this
   exact⟨_,rfl,i,rfl,hj,h2,h3⟩
theorem RX(l:AO)(x:AL)(hl:BB l)(hx:x.length<1099511627776)(h:RV l=true):J4 l x=some (l.contains (CY x)):=by
 unfold J4 Ew;rw [Cs,BF hx,ll];obtain⟨r,e⟩:=uu l (CY x) (fun a0 a1=>CR a0 a1) hl.1 (fun i hi=>JH _ _ (hl.getD i) (by rw [TB];exact hx)) h
 rw [e];rfl
theorem Mr(list:AO)(labels:AL)(h0:BB list)(h1:labels.length<1099511627776)(h2:RV list=true):Y.call 108 [D.sl 27 (AV Aw list),D.sl 3 (AV (D.int .i64) labels)] []=some (D.bool (list.contains (CY labels)),[]):=QX list labels (RX list labels h0 h1 h2)
noncomputable def JY(a:AL)(b:AL)(EW:Int):Option ((Int)⊕(Unit⊕Unit)):= if EW<(a.length:Int)then ck (0≤EW∧EW.toNat<a.length)<| ck (0≤EW∧EW.toNat<b.length)<| if(a.getD EW.toNat default)=(b.getD EW.toNat default)then some (Sum.inl (IntKind.i64.wrap (EW+1))) else some (Sum.inr (Sum.inl ())) else some (Sum.inr (Sum.inr ()))
noncomputable def Pk(a:AL)(b:AL)(v:Int):Option (Unit⊕Unit):=Hu (fun v=>JY a b v) v
noncomputable def QY(a:AL)(b:AL):Option (Bool):=
 if(a.length:Int)=(b.length:Int)then
  (Pk a b 0).bind fun AC=>
  match AC with
  | .inl q1000_=>
   some false
  | .inr q1000_=>
   some true
 else
  some false
abbrev qd9:List Nat:=[16,17,18,19,20,21,22,23,24]
def gU:SC:= .seq (.ops [oB 14 .lss 3 (tK 13) (tK 12) 3 0]) (.seq (.cond (tK 14) .skip (.exit 0)) (.seq (.block 1 (.seq (.ops [oM 15 13 3,oA 5 15 3]) (.seq (.draws [(⟨[16,0,0],qd9,[16]⟩,oM 16 0 27),(⟨[17,5,5],qd9,[17]⟩,oM 17 5 3),(⟨[18,16,17,0,5],qd9,[18]⟩,oI 18 27 16 17),(⟨[19,18,0],qd9,[19]⟩,oL 19 3 18 3),(⟨[20,1,1],qd9,[20]⟩,oM 20 1 27),(⟨[21,5,5],qd9,[21]⟩,oM 21 5 3),(⟨[22,20,21,1,5],qd9,[22]⟩,oI 22 27 20 21),(⟨[23,22,1],qd9,[23]⟩,oL 23 3 22 3),(⟨[24,19,23,0,1],qd9,[24]⟩,oB 24 .neq 3 (tK 19) (tK 23) 3 4)]) (.cond (tK 24) (.seq (.ops [oX 4 Cr 4]) .ret) .skip)))) (.ops [oB 25 .add 3 (tK 13) (iK 1) 3 3,oM 13 25 3])))
def ym:SC:= .loop gU
def k89:SC:= .seq (.ops [oX 4 Cr 4]) (.seq (.seq (.ops [oM 6 0 27,oN 7 6 27,oM 8 1 27,oN 9 8 27,oB 10 .neq 3 (tK 7) (tK 9) 3 4]) (.cond (tK 10) (.seq (.ops [oX 4 Cr 4]) .ret) .skip)) (.seq (.seq (.ops [oM 11 0 27,oN 12 11 27,oX 13 (.move (iK 0)) 3]) (.block 0 ym)) (.seq (.ops [oX 4 (.assign Kv) 4]) .ret)))
theorem A61:Tryz.f89.body.map (Bw lends)=some k89:=by kernel_rfl
theorem AIQ:CP Tryz.f89 2=true:=by kernel_rfl
theorem c89{a l:List D}{r:D×List D}(h:CG Y.env k89 (FX Ah l.length [ResultVar.tmp 4] r) (entry a l))(ha:a.length=2):Y.call 89 a l=some r:=
 AZ (Y:=Y) rfl Tryz.func89 (ha▸AIQ) A61 h
def Hl(a:AL)(b:AL)(EW:Int)(s:St):Prop:=s.v 0=D.sl 3 (AV (D.int .i64) a)∧s.v 1=D.sl 3 (AV (D.int .i64) b)∧s.v 12=D.int .i64 (a.length:Int)∧s.v 13=D.int .i64 EW
def JZ(a:AL)(b:AL)(r:Unit⊕Unit)(ex:Ex)(s:St):Prop:=match r with
 | .inl q=>ex= .ret∧s.v 4=D.bool false
 | .inr q=>ex= .exit 0
theorem ZF(a:AL)(b:AL){v:Int}{s:St}{r:Unit⊕Unit}(h:Pk a b v=some r)(hM:Hl a b v s):CG Y.env ym (JZ a b r) s:=by
 unfold Pk at h;refine BD (c:=gU) (fun v=>JY a b v) (fun v s=>Hl a b v s) (JZ a b) ?_ h hM;clear h hM s v r;intro EW s o hM h;unfold JY at h;unfold Hl at hM;obtain⟨m0,m1,m2,m3⟩:=hM;unfold gU;rcases iS h with⟨e2,h⟩|⟨e2,h⟩
 ·obtain⟨e3,e4,h⟩:=Hw h;rcases iS h with⟨e5,h⟩|⟨e5,h⟩
  ·obtain rfl:=Option.some.inj h
   simp only [↓AR,AU,↓reduceIte,Nat.reduceEqDiff,Nat.reduceLT,m0,m1,m2,m3,e2,e3.1,e3.2,e4.2,decide_eq_true e5,Hl,FV]
  ·obtain rfl:=Option.some.inj h
   simp only [↓AR,AU,↓reduceIte,Nat.reduceEqDiff,Nat.reduceLT,m0,m1,m2,m3,e2,e3.1,e3.2,e4.2,e5,Hl,JZ,U2]
 ·obtain rfl:=Option.some.inj h
  simp only [↓AR,AU,↓reduceIte,Nat.reduceLT,m2,m3,e2,Hl,JZ,KF]
theorem Tf(a:AL)(b:AL){r:Bool}(h:QY a b=some r):Y.call 89 [D.sl 3 (AV (D.int .i64) a),D.sl 3 (AV (D.int .i64) b)] []=some (D.bool r,[]):=by
 refine c89 ?_ rfl;unfold k89;unfold QY at h;rcases iS h with⟨e1,h⟩|⟨e1,h⟩
 ·obtain⟨AC,hl3,h⟩:=Aa h;try dsimp only at h
  simp only [↓AR,AU,↓reduceIte,Nat.reduceEqDiff,Nat.reduceLT,decide_eq_true e1];refine Ai (ZF a b hl3 ?_) ?_
  ·simp only [Bd,Da,↓reduceIte,Nat.reduceEqDiff,Nat.reduceLT,Hl]
  ·intro ex3 s3 hX3;rcases AC with q1000_|q1000_
   ·unfold JZ at hX3;dsimp only at hX3 h;obtain⟨rfl,n3_0⟩:=hX3
    obtain rfl:=Option.some.inj h
    simp only [↓AR,AU,↓reduceIte,n3_0]
   ·unfold JZ at hX3;dsimp only at hX3 h
    obtain rfl:=hX3
    obtain rfl:=Option.some.inj h
    simp only [↓AR,AU,↓reduceIte,Nat.reduceEqDiff,Nat.reduceLT]
 ·obtain rfl:=Option.some.inj h
  simp only [↓AR,AU,↓reduceIte,Nat.reduceEqDiff,Nat.reduceLT,e1]
noncomputable def KW(l:AO)(x_:AL)(PM:Int):Option ((Int)⊕(Unit⊕Unit)):= if PM<(l.length:Int)then ck (0≤PM∧PM.toNat<l.length)<| (QY x_ (l.getD PM.toNat default)).bind fun M7=> if M7=true then some (Sum.inr (Sum.inl ())) else some (Sum.inl (IntKind.i64.wrap (PM+1))) else some (Sum.inr (Sum.inr ()))
noncomputable def Qz(l:AO)(x_:AL)(v:Int):Option (Unit⊕Unit):=Hu (fun v=>KW l x_ v) v
noncomputable def Xh(l:AO)(x_:AL):Option (Bool):=
 (Qz l x_ 0).bind fun AC=>
 match AC with
 | .inl q1000_=>
  some true
 | .inr q1000_=>
  some false
def gV:SC:= .seq (.ops [oB 10 .lss 3 (tK 9) (tK 8) 3 0]) (.seq (.cond (tK 10) .skip (.exit 0)) (.seq (.block 1 (.seq (.ops [oI 11 22 7 9,oL 12 27 11 27,oA 6 12 27]) (.seq (.ops [oM 13 1 27,oM 14 6 27,oC 15 89 [(tK 13),(tK 14)] [27,27] 4]) (.cond (tK 15) (.seq (.ops [oX 4 (.assign Kv) 4]) .ret) .skip)))) (.ops [oB 16 .add 3 (tK 9) (iK 1) 3 3,oM 9 16 3])))
def yn:SC:= .loop gV
def k86:SC:= .seq (.ops [oX 4 Cr 4]) (.seq (.seq (.ops [oM 7 0 22,oN 8 7 22,oX 9 (.move (iK 0)) 3]) (.block 0 yn)) (.seq (.ops [oX 4 Cr 4]) .ret))
theorem A62:Tryz.f86.body.map (Bw lends)=some k86:=by kernel_rfl
theorem AIS:CP Tryz.f86 2=true:=by kernel_rfl
theorem c86{a l:List D}{r:D×List D}(h:CG Y.env k86 (FX Ah l.length [ResultVar.tmp 4] r) (entry a l))(ha:a.length=2):Y.call 86 a l=some r:=
 AZ (Y:=Y) rfl Tryz.func86 (ha▸AIS) A62 h
def J5(l:AO)(x_:AL)(PM:Int)(s:St):Prop:=s.v 1=D.sl 3 (AV (D.int .i64) x_)∧s.v 7=D.sl 27 (AV Aw l)∧s.v 8=D.int .i64 (l.length:Int)∧s.v 9=D.int .i64 PM
def KX(l:AO)(x_:AL)(r:Unit⊕Unit)(ex:Ex)(s:St):Prop:=match r with
 | .inl q=>ex= .ret∧s.v 4=D.bool true
 | .inr q=>ex= .exit 0
theorem aZ(l:AO)(x_:AL){v:Int}{s:St}{r:Unit⊕Unit}(h:Qz l x_ v=some r)(hM:J5 l x_ v s):CG Y.env yn (KX l x_ r) s:=by
 unfold Qz at h;refine BD (c:=gV) (fun v=>KW l x_ v) (fun v s=>J5 l x_ v s) (KX l x_) ?_ h hM;clear h hM s v r;intro PM s o hM h;unfold KW at h;unfold J5 at hM;obtain⟨m0,m1,m2,m3⟩:=hM;unfold gV;rcases iS h with⟨e1,h⟩|⟨e1,h⟩
 ·obtain⟨e2,h⟩:=EQ h;obtain⟨M7,hl3,h⟩:=Aa h;have c3:=Tf x_ (l.getD PM.toNat default) hl3;rcases iS h with⟨e4,h⟩|⟨e4,h⟩
  ·obtain rfl:=Option.some.inj h
   simp only [↓AR,AU,↓reduceIte,Nat.reduceEqDiff,Nat.reduceLT,m0,m1,m2,m3,e1,e2.1,e2.2,c3,e4,J5,KX,U2]
  ·have e4f:M7=false:=Ju.mpr e4
   obtain rfl:=Option.some.inj h
   simp only [↓AR,AU,↓reduceIte,Nat.reduceEqDiff,Nat.reduceLT,m0,m1,m2,m3,e1,e2.1,e2.2,c3,e4f,J5,FV]
 ·obtain rfl:=Option.some.inj h
  simp only [↓AR,AU,↓reduceIte,Nat.reduceLT,m2,m3,e1,J5,KX,KF]
theorem gW(l:AO)(x_:AL){r:Bool}(h:Xh l x_=some r):Y.call 86 [D.sl 27 (AV Aw l),D.sl 3 (AV (D.int .i64) x_)] []=some (D.bool r,[]):=by
 refine c86 ?_ rfl;unfold k86;unfold Xh at h;obtain⟨AC,hl2,h⟩:=Aa h;try dsimp only at h
 simp only [↓AR,AU,↓reduceIte,Nat.reduceEqDiff,Nat.reduceLT];refine Ai (aZ l x_ hl2 ?_) ?_
 ·simp only [Bd,Da,↓reduceIte,Nat.reduceEqDiff,Nat.reduceLT,J5]
 ·intro ex2 s2 hX2;rcases AC with q1000_|q1000_
  ·unfold KX at hX2;dsimp only at hX2 h;obtain⟨rfl,n2_0⟩:=hX2
   obtain rfl:=Option.some.inj h
   simp only [↓AR,AU,↓reduceIte,n2_0]
  ·unfold KX at hX2;dsimp only at hX2 h
   obtain rfl:=hX2
   obtain rfl:=Option.some.inj h
   simp only [↓AR,AU,↓reduceIte,Nat.reduceEqDiff,Nat.reduceLT]
theorem cK(a b:AL)(ha:a.length<1099511627776):QY a b=some (decide (a=b)):=by
 unfold QY Pk;by_cases hl:a.length=b.length
 ·rw [if_pos (by omega)]
  have key:=PW (fun v=>JY a b v) (fun i=>(i:Int)) a.length (fun i=>decide (a.getD i default=b.getD i default)) (.inl ()) (.inr ()) ?_ ?_
  ·simp only [Kr]at key;rw [key,Yi a b hl];by_cases he:a=b<;>simp [he]
  ·intro i hi;simp only [JY];rw [if_pos (CV hi),BF (Iu hi),BF (Iu (by omega)),JD,JS i (by omega)]<;>simp only [decide_eq_true_eq]
  ·simp only [JY];rw [if_neg (Au _)]
 ·rw [if_neg (by omega)]
  have: ¬a=b:=fun e=>hl (by rw [e])
  simp [this]
theorem qE(l:AO)(x:AL)(hl:l.length<1099511627776)(hx:x.length<1099511627776):Xh l x=some (l.contains x):=by
 unfold Xh Qz;have key:=PW (fun v=>KW l x v) (fun i=>(i:Int)) l.length (fun i=> !decide (x=l.getD i default)) (.inl ()) (.inr ()) ?_ ?_
 ·simp only [Kr]at key;rw [key,Cs];rw [lH (fun y=> !decide (x=y)) l];by_cases hm:x∈l
  ·have:l.all (fun y=> !decide (x=y))=false:=by
    rw [Ju];intro hc;have:=Jr.1 hc x hm
    simp at this
   rw [this,if_neg (by decide)]
   simp [hm]
  ·have:l.all (fun y=> !decide (x=y))=true:=by
    refine Jr.2 fun y hy=> ?_;have: ¬x=y:=fun e=>hm (e▸hy)
    simp [this]
   rw [this,if_pos rfl];simp [hm]
 ·intro i hi;simp only [KW];rw [if_pos (CV hi),BF (Iu hi),JD,cK _ _ hx,Cs,JS i (by omega)]
  by_cases e:x=l.getD i default<;>simp [e]
 ·simp only [KW];rw [if_neg (Au _)]
theorem ZG(l:AO)(x_:AL)(h0:l.length<1099511627776)(h1:x_.length<1099511627776):Y.call 86 [D.sl 27 (AV Aw l),D.sl 3 (AV (D.int .i64) x_)] []=some (D.bool (l.contains x_),[]):=gW l x_ (qE l x_ h0 h1)
end Go.Proofs.YtjhjkfoabhplfaaGreat
