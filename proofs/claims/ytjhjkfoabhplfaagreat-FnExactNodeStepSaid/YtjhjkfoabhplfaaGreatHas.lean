/- Configurations looked up by halving and one by one, as membership. Conditions: the lists are short and increasing. -/
import Derived.Test.YtjhjkfoabhplfaaGreatL6
import Derived.Test.YtjhjkfoabhplfaaGreatSrt
namespace Go.Proofs.YtjhjkfoabhplfaaGreat
open Go Dv
set_option linter.unusedSimpArgs false
set_option linter.unusedVariables false
set_option maxRecDepth 100000
set_option maxHeartbeats 4000000
theorem wrU(n:Int)(h:0≤n∧n<18446744073709551616):IntKind.u64.wrap n=n:=by
 unfold IntKind.wrap;simp only [IntKind.signed,IntKind.bits]
 simp
 omega
theorem Zz(x:Int): ∀r,(TE x r).Perm (x::r):=by
 intro r
 induction r with
 | nil=>exact List.Perm.refl _
 | cons y r ih=>
  unfold TE;split
  ·exact((List.perm_cons y).2 ih).trans (List.Perm.swap x y r)
  ·exact List.Perm.refl _
theorem sW(x:Int): ∀r,r.Pairwise (fun a b=>b≤a)→(TE x r).Pairwise (fun a b=>b≤a):=by
 intro r
 induction r with
 | nil=>intro _;simp [TE]
 | cons y r ih=>
  intro h;obtain⟨h1,h2⟩:=Ug.1 h;unfold TE;split
  ·rename_i hxy
   refine Ug.2 ⟨fun z hz=> ?_,ih h2⟩;rcases Li.1 ((Zz x r).mem_iff.1 hz)with rfl | hz
   ·omega
   ·exact h1 z hz
  ·rename_i hxy
   refine Ug.2 ⟨fun z hz=> ?_,h⟩;rcases Li.1 hz with rfl | hz
   ·omega
   ·have:=h1 z hz;omega
theorem nQ: ∀(l r:List Int),(l.foldl (fun r x=>TE x r) r).Perm (l++r):=by
 intro l
 induction l with
 | nil=>intro r;exact List.Perm.refl _
 | cons x l ih=>
  intro r;simp only [Vv]
  exact(ih _).trans (((List.Perm.refl l).append (Zz x r)).trans List.perm_middle)
theorem nR: ∀(l r:List Int),r.Pairwise (fun a b=>b≤a)→(l.foldl (fun r x=>TE x r) r).Pairwise (fun a b=>b≤a):=by
 intro l
 induction l with
 | nil=>intro r h;exact h
 | cons x l ih=>intro r h;exact ih _ (sW x r h)
theorem Nw(l:List Int):(Bn l).Perm l:=by
 unfold Bn;have:=nQ l []
 rw [Oj]at this
 exact(List.reverse_perm _).trans this
theorem TG(l:List Int):(Bn l).Pairwise (fun a b=>a≤b):=by
 unfold Bn;exact List.pairwise_reverse.2 (nR l [] List.Pairwise.nil)
theorem jv(l:List Int):Dj l=Bn l:=by
 refine List.Perm.eq_of_pairwise (le:=fun a b:Int=>a≤b) (fun a b _ _ h1 h2=>Int.le_antisymm h1 h2) ?_ (TG l) ((List.mergeSort_perm _ _).trans (Nw l).symm);have:=List.pairwise_mergeSort (le:=fun x y:Int=>decide (x≤y)) (fun a b c h1 h2=>by simp only [decide_eq_true_eq]at*;omega) (fun a b=>by simp only [TS,decide_eq_true_eq];omega) l
 unfold Dj;exact this.imp (fun h=>by simpa using h)
theorem Rp(l:List Int):(Bn l).length=l.length:=(Nw l).length_eq
theorem aA(a b:Int):Bn [a,b]=if b<a then [b,a]else [a,b]:=by
 unfold Bn;simp only [Vv,List.foldl_nil,TE];by_cases h:b<a<;>simp [h]
theorem VF: ∀a:List Int,cmpL a a=0:=by
 intro a
 induction a with
 | nil=>rfl
 | cons x a ih=>unfold cmpL;rw [if_pos rfl,ih]
theorem cmpL_eq: ∀(a b:List Int),cmpL a b=0→a=b:=by
 intro a
 induction a with
 | nil=>intro b h;cases b with
  | nil=>rfl
  | cons y b=>simp [cmpL]at h
 | cons x a ih=>intro b h;cases b with
  | nil=>simp [cmpL]at h
  | cons y b=>
   unfold cmpL at h
   split at h
   ·rename_i e;rw [e,ih b h]
   ·split at h<;>simp at h
theorem TH: ∀(a b c:List Int),cmpL a b<0→cmpL b c<0→cmpL a c<0:=by
 intro a
 induction a with
 | nil=>intro b c h1 h2;cases c with
  | nil=>cases b with
   | nil=>simp [cmpL]at h1
   | cons y b=>simp [cmpL]at h2
  | cons z c=>simp [cmpL]
 | cons x a ih=>intro b c h1 h2;cases b with
  | nil=>simp [cmpL]at h1
  | cons y b=>cases c with
   | nil=>simp [cmpL]at h2
   | cons z c=>
    unfold cmpL at h1 h2 ⊢;by_cases e1:x=y
    ·subst e1;rw [if_pos rfl]at h1;by_cases e2:x=z
     ·subst e2;rw [if_pos rfl]at h2 ⊢;exact ih b c h1 h2
     ·rw [if_neg e2]at h2 ⊢;exact h2
    ·rw [if_neg e1]at h1
     have l1:x<y:=by
      by_cases hl:x<y
      ·exact hl
      ·rw [if_neg hl]at h1;omega
     by_cases e2:y=z
     ·subst e2;rw [if_neg e1,if_pos l1];decide
     ·rw [if_neg e2]at h2
      have l2:y<z:=by
       by_cases hl:y<z
       ·exact hl
       ·rw [if_neg hl]at h2;omega
      rw [if_neg (by omega),if_pos (by omega)];decide
def QY(l:List (List Int)):Bool:=(List.range l.length).all fun i=>decide (i=0)||decide (cmpL (l.getD (i-1) default) (l.getD i default)<0)
theorem A0V{l:List (List Int)}(h:QY l=true): ∀(d i:Nat),i+d+1<l.length→cmpL (l.getD i default) (l.getD (i+d+1) default)<0:=by
 have step: ∀i,i+1<l.length→cmpL (l.getD i default) (l.getD (i+1) default)<0:=fun i hi=>by
  have:=JU.1 h (i+1) hi
  simpa using this
 intro d
 induction d with
 | zero=>intro i hi;exact step i hi
 | succ d ih=>
  intro i hi;exact TH _ _ _ (ih i (by omega)) (step (i+d+1) (by omega))
theorem YD{l:List (List Int)}(h:QY l=true){i j:Nat}(hij:i<j)(hj:j<l.length):cmpL (l.getD i default) (l.getD j default)<0:=by
 have:=A0V h (j-i-1) i (by omega)
 rwa [show i+(j-i-1)+1=j by omega]at this
theorem aB{l:List (List Int)}{s n:Int}(h:KC l s n=true):QY l=true:=by
 refine JU.2 fun i hi=> ?_;have:=JU.1 h i hi
 unfold QE at this;rw [JM]at this;exact this.2
theorem jw{l:List (List Int)}{x:List Int}:x∈l↔ ∃k,k<l.length∧l.getD k default=x:=by
 constructor
 ·intro h;obtain⟨k,hk,e⟩:=Sj h
  exact⟨k,hk,by rw [Kw,FV hk];exact e⟩
 ·rintro⟨k,hk,rfl⟩
  rw [Kw,FV hk];exact FE hk
noncomputable def EI(s_:List Int):Option ((List Int)):= some s_
def A5K:SC:= .seq (.ops [oX 1 (.box 27 (tK 0)) 0,oX 2 (.assign (.const .nilFunc)) 113]) (.seq (.ops [oX 3 (.makeFunc (Fn.func 141) #[] #[(tK 1)]) 112,oA 2 3 113]) .ret)
theorem A0W:Tryz.f126.body.map (BP lends)=some A5K:=by kernel_rfl
theorem ACH:Be Tryz.f126 1=true:=by kernel_rfl
theorem AHh{a l:List D}{r:D×List D}(h:BZ Y.env A5K (Eh AX l.length [ResultVar.tmp 2] r) (entry a l))(ha:a.length=1):Y.call 126 a l=some r:=
 AJ (Y:=Y) rfl Tryz.func126 (ha▸ACH) A0W h
theorem Mh(s_:List Int){r:(List Int)}(h:EI s_=some r):Y.call 126 [D.sl 3 (A8 (D.int .i64) s_)] []=some (D.clo 141 [D.cptr [D.sl 3 (A8 (D.int .i64) r)]],[]):=by
 refine AHh ?_ rfl;unfold A5K;unfold EI at h;cases h;simp only [↓AB,AC,↓reduceIte,Nat.reduceEqDiff,Nat.reduceLT]
noncomputable def RF(x_:List (List Int))(target:List Int)(cmp:(List Int)→(List Int)→Option Int)(i j:Int):Option ((Int×Int)⊕(Int)):= if i<j then ck (0≤IntKind.i64.wrap ((IntKind.u64.wrap (IntKind.i64.wrap (i+j))).fdiv (2 ^ (min 1 (IntKind.u64.bits))))∧(IntKind.i64.wrap ((IntKind.u64.wrap (IntKind.i64.wrap (i+j))).fdiv (2 ^ (min 1 (IntKind.u64.bits))))).toNat<x_.length)<| (cmp (x_.getD ((IntKind.i64.wrap ((IntKind.u64.wrap (IntKind.i64.wrap (i+j))).fdiv (2 ^ (min 1 (IntKind.u64.bits))))).toNat) default) target).bind fun NR=> if NR<0 then some (Sum.inl (IntKind.i64.wrap ((IntKind.i64.wrap ((IntKind.u64.wrap (IntKind.i64.wrap (i+j))).fdiv (2 ^ (min 1 (IntKind.u64.bits)))))+1),j)) else some (Sum.inl (i,IntKind.i64.wrap ((IntKind.u64.wrap (IntKind.i64.wrap (i+j))).fdiv (2 ^ (min 1 (IntKind.u64.bits)))))) else some (Sum.inr i)
noncomputable def dR(x_:List (List Int))(target:List Int)(cmp:(List Int)→(List Int)→Option Int)(v:Int×Int):Option (Int):=GQ (fun v=>RF x_ target cmp v.1 v.2) v
noncomputable def gBS(x_:List (List Int))(target:List Int)(cmp:(List Int)→(List Int)→Option Int):Option (Int×Bool):= (dR x_ target cmp (0,(x_.length:Int))).bind fun JL=> if JL<(x_.length:Int)then ck (0≤JL∧JL.toNat<x_.length)<| (cmp (x_.getD JL.toNat default) target).bind fun zM=> some (JL,(decide (zM=0))) else some (JL,false)
def YE:SC:= .seq (.seq (.ops [oM 15 9 3,oM 16 10 3,oB 17 .lss 3 (tK 15) (tK 16) 3 4]) (.cond (tK 17) .skip (.exit 0))) (.block 1 (.seq (.ops [oM 18 9 3,oM 19 10 3,oB 20 .add 3 (tK 18) (tK 19) 3 3,oX 21 (.convert 3 91 (tK 20)) 91,oB 22 .shr 91 (tK 21) (.const (.int .u64 1)) 91 91,oX 23 (.convert 91 3 (tK 22)) 3,oA 11 23 3]) (.seq (.ops [oM 24 2 62,oM 25 0 22,oM 26 11 3,oI 27 22 25 26,oL 28 27 27 27,oM 29 1 27,oX 30 (.call ⟨(.value (tK 24)), #[(tK 28),(tK 29)], #[27,27]⟩) 3,oB 31 .lss 3 (tK 30) (iK 0) 3 4]) (.cond (tK 31) (.ops [oM 32 11 3,oB 33 .add 3 (tK 32) (iK 1) 3 3,oA 9 33 3]) (.ops [oM 34 11 3,oA 10 34 3])))))
def pJ:SC:= .loop YE
def A5L:SC:= .seq (.ops [oX 6 (.assign (iK 0)) 3,oX 7 (.assign (.const (.bool false))) 4]) (.seq (.ops [oM 12 0 22,oN 13 12 22,oA 8 13 3]) (.seq (.ops [oM 14 8 3,oX 9 (.assign (iK 0)) 3,oA 10 14 3]) (.seq (.block 0 pJ) (.seq (.ops [oM 35 9 3,oM 36 9 3,oM 37 8 3,oB 38 .lss 3 (tK 36) (tK 37) 3 4,oM 39 38 4,⟨some 40,.move (tK 2),62,(some (some 39,true))⟩,⟨some 41,.move (tK 0),22,(some (some 39,true))⟩,⟨some 42,.move (tK 9),3,(some (some 39,true))⟩,⟨some 43,.indexAddr 22 (tK 41) (tK 42),0,(some (some 39,true))⟩,⟨some 44,.load 27 (tK 43),27,(some (some 39,true))⟩,⟨some 45,.move (tK 1),27,(some (some 39,true))⟩,⟨some 46,.call ⟨(.value (tK 40)), #[(tK 44),(tK 45)], #[27,27]⟩,3,(some (some 39,true))⟩,⟨some 47,.binOp .eql 3 (tK 46) (iK 0) 3,4,(some (some 39,true))⟩,oX 48 (.pick (tK 39) (tK 47) (.const (.bool false))) 4,oA 6 35 3,oA 7 48 4]) .ret))))
theorem A0X:Tryz.f124.body.map (BP lends)=some A5L:=by kernel_rfl
theorem ACJ:Be Tryz.f124 3=true:=by kernel_rfl
theorem AHi{a l:List D}{r:D×List D}(h:BZ Y.env A5L (Eh AX l.length [ResultVar.tmp 6,ResultVar.tmp 7] r) (entry a l))(ha:a.length=3):Y.call 124 a l=some r:=
 AJ (Y:=Y) rfl Tryz.func124 (ha▸ACJ) A0X h
def Ny(x_:List (List Int))(target:List Int)(cmp:(List Int)→(List Int)→Option Int)(cmp_f:FuncId)(cmp_c:List D)(i j:Int)(s:St):Prop:=s.v 0=D.sl 27 (A8 (fun x=>D.sl 3 (A8 (D.int .i64) x)) x_)∧s.v 1=D.sl 3 (A8 (D.int .i64) target)∧s.v 2=D.clo cmp_f cmp_c∧s.v 8=D.int .i64 (x_.length:Int)∧s.v 9=D.int .i64 i∧s.v 10=D.int .i64 j
def UL(x_:List (List Int))(target:List Int)(cmp:(List Int)→(List Int)→Option Int)(cmp_f:FuncId)(cmp_c:List D)(r:Int)(ex:Ex)(s:St):Prop:=ex= .exit 0∧s.v 0=D.sl 27 (A8 (fun x=>D.sl 3 (A8 (D.int .i64) x)) x_)∧s.v 1=D.sl 3 (A8 (D.int .i64) target)∧s.v 2=D.clo cmp_f cmp_c∧s.v 8=D.int .i64 (x_.length:Int)∧s.v 9=D.int .i64 r
theorem sZ(x_:List (List Int))(target:List Int)(cmp:(List Int)→(List Int)→Option Int)(cmp_f:FuncId)(cmp_c:List D)(cmp_h: ∀(a0 a1:List Int) (r:Int),cmp a0 a1=some r→Y.call cmp_f (D.sl 3 (A8 (D.int .i64) a0)::D.sl 3 (A8 (D.int .i64) a1)::cmp_c) []=some (D.int .i64 r,[]))(cmp_l:lends cmp_f=false){v:Int×Int}{s:St}{r:Int}(h:dR x_ target cmp v=some r)(hM:Ny x_ target cmp cmp_f cmp_c v.1 v.2 s):BZ Y.env pJ (UL x_ target cmp cmp_f cmp_c r) s:=by
 unfold dR at h;refine Ao (c:=YE) (fun v=>RF x_ target cmp v.1 v.2) (fun v s=>Ny x_ target cmp cmp_f cmp_c v.1 v.2 s) (UL x_ target cmp cmp_f cmp_c) ?_ h hM;clear h hM s v r;intro v s o hM h;obtain⟨i,j⟩:=v;dsimp only at h hM;unfold RF at h;unfold Ny at hM;obtain⟨m0,m1,m2,m3,m4,m5⟩:=hM;unfold YE;by_cases e1:i<j
 ·rw [if_pos e1]at h;obtain⟨e2,h⟩:=Ar h;obtain⟨NR,hl3,h⟩:=AO h;try dsimp only at h
  have c3:=cmp_h _ _ _ hl3;by_cases e4:NR<0
  ·rw [if_pos e4]at h;cases h;simp only [↓AB,AC,↓reduceIte,Nat.reduceEqDiff,Nat.reduceLT,Int.reduceLT,Int.reduceToNat,m0,m1,m2,m3,m4,m5,cmp_l,e1,e2.1,e2.2,c3,e4,Ny,Ef]
  ·rw [if_neg e4]at h;cases h;simp only [↓AB,AC,↓reduceIte,Nat.reduceEqDiff,Nat.reduceLT,Int.reduceLT,Int.reduceToNat,m0,m1,m2,m3,m4,m5,cmp_l,e1,e2.1,e2.2,c3,e4,Ny,Ef]
 ·rw [if_neg e1]at h;cases h;simp only [↓AB,AC,↓reduceIte,Nat.reduceEqDiff,Nat.reduceLT,m0,m1,m2,m3,m4,m5,e1,Ny,UL,JK]
theorem xY(x_:List (List Int))(target:List Int)(cmp:(List Int)→(List Int)→Option Int)(cmp_f:FuncId)(cmp_c:List D)(cmp_h: ∀(a0 a1:List Int) (r:Int),cmp a0 a1=some r→Y.call cmp_f (D.sl 3 (A8 (D.int .i64) a0)::D.sl 3 (A8 (D.int .i64) a1)::cmp_c) []=some (D.int .i64 r,[]))(cmp_l:lends cmp_f=false){r:Int×Bool}(h:gBS x_ target cmp=some r):Y.call 124 [D.sl 27 (A8 (fun x=>D.sl 3 (A8 (D.int .i64) x)) x_),D.sl 3 (A8 (D.int .i64) target),D.clo cmp_f cmp_c] []=some (D.tup [D.int .i64 r.1,D.bool r.2],[]):=by
 refine AHi ?_ rfl;unfold A5L;unfold gBS at h;obtain⟨JL,hl2,h⟩:=AO h;try dsimp only at h
 simp only [↓AB,AC,↓reduceIte,Nat.reduceEqDiff,Nat.reduceLT];refine AY (sZ x_ target cmp cmp_f cmp_c cmp_h cmp_l hl2 ?_) ?_
 ·simp only [BG,Co,↓reduceIte,Nat.reduceEqDiff,Nat.reduceLT,Ny]
 ·intro ex2 s2 hX2;unfold UL at hX2;obtain⟨rfl,n2_0,n2_1,n2_2,n2_3,n2_4⟩:=hX2;by_cases e3:JL<(x_.length:Int)
  ·rw [if_pos e3]at h;obtain⟨e4,h⟩:=Ar h;obtain⟨zM,hl5,h⟩:=AO h;try dsimp only at h
   have c5:=cmp_h _ _ _ hl5;cases h;simp only [↓AB,AC,↓reduceIte,Nat.reduceEqDiff,Nat.reduceLT,cmp_l,n2_0,n2_1,n2_2,n2_3,n2_4,e3,e4.1,e4.2,c5]
  ·rw [if_neg e3]at h;cases h;simp only [↓AB,AC,↓reduceIte,Nat.reduceEqDiff,Nat.reduceLT,n2_3,n2_4,e3]
noncomputable def Hy(list:List (List Int))(labels:List Int):Option (Bool):= (EI labels).bind fun Kb=> ck (Kb.length<1099511627776)<| (gBS list (Dj Kb) (fun a0 a1=>gCp a0 a1)).bind fun sK=> some sK.2
def A5M:SC:= .seq (.ops [oX 4 (.assign (.const (.bool false))) 4]) (.seq (.ops [oM 8 0 22,oM 9 1 27,oC 10 126 [(tK 9)] [27] 113,oC 11 125 [(tK 10)] [113] 27,oC 12 124 [(tK 8),(tK 11),(.func 64)] [22,27,62] 72,oM 7 12 72,oE 13 7 0 3,oE 14 7 1 4,oA 5 13 3,oA 6 14 4]) (.seq (.ops [oM 15 6 4,oA 4 15 4]) .ret))
theorem A0Y:Tryz.f108.body.map (BP lends)=some A5M:=by kernel_rfl
theorem ACK:Be Tryz.f108 2=true:=by kernel_rfl
theorem AHj{a l:List D}{r:D×List D}(h:BZ Y.env A5M (Eh AX l.length [ResultVar.tmp 4] r) (entry a l))(ha:a.length=2):Y.call 108 a l=some r:=
 AJ (Y:=Y) rfl Tryz.func108 (ha▸ACK) A0Y h
theorem Pg(list:List (List Int))(labels:List Int){r:Bool}(h:Hy list labels=some r):Y.call 108 [D.sl 27 (A8 (fun x=>D.sl 3 (A8 (D.int .i64) x)) list),D.sl 3 (A8 (D.int .i64) labels)] []=some (D.bool r,[]):=by
 refine AHj ?_ rfl;unfold A5M;unfold Hy at h;obtain⟨Kb,hl1,h⟩:=AO h;try dsimp only at h
 have c1:=Mh labels hl1;obtain⟨e2,h⟩:=Ar h;have c3:=nK Kb e2;obtain⟨sK,hl4,h⟩:=AO h;try dsimp only at h
 have c4:=xY list (Dj Kb) (fun a0 a1=>gCp a0 a1) 64 [] (fun a0 a1 _ hh=>jl a0 a1 hh) A4a hl4;cases h;simp only [↓AB,AC,↓reduceIte,Nat.reduceEqDiff,Nat.reduceLT,c1,c3,c4]
theorem su(l:List (List Int))(x:List Int)(f:List Int→List Int→Option Int)(hl:l.length<1099511627776)(hf: ∀i,i<l.length→f (l.getD i default) x=some (cmpL (l.getD i default) x))(h:QY l=true):
  ∃r,gBS l x f=some (r,l.contains x):=by
 have key:=Im (fun v=>RF l x f v.1 v.2)
  (fun m v=> ∃i j:Nat,v=((i:Int),(j:Int))∧i≤j∧j≤l.length∧m=j-i∧(∀k,k<i→cmpL (l.getD k default) x<0)∧(∀k,j≤k→k<l.length→ ¬cmpL (l.getD k default) x<0))
  (fun r=> ∃i:Nat,r=(i:Int)∧i≤l.length∧(∀k,k<i→cmpL (l.getD k default) x<0)∧(∀k,i≤k→k<l.length→ ¬cmpL (l.getD k default) x<0)) ?_ l.length (0,(l.length:Int)) ⟨0,l.length,rfl,SA _,IB _,by omega,fun k hk=>by omega,fun k h1 h2=>by omega⟩
 ·obtain⟨r,h1,i,rfl,hi,h2,h3⟩:=key;unfold gBS dR;rw [h1,CO];by_cases hlt:i<l.length
  ·rw [if_pos (by omega),Am (by omega),IA,hf i hlt,CO]
   refine⟨(i:Int), ?_⟩
   congr 2
   rw [Bool.eq_iff_iff,decide_eq_true_eq,List.contains_iff_mem,jw]
   constructor
   ·intro e;exact⟨i,hlt,cmpL_eq _ _ e⟩
   ·rintro⟨k,hk,rfl⟩
    have k1: ¬k<i:=fun hki=>by have:=h2 k hki;rw [VF]at this;omega
    have k2: ¬i<k:=fun hik=>h3 i (IB _) hlt (YD h hik hk);have:k=i:=by omega
    subst this;exact VF _
  ·rw [if_neg (by omega)]
   refine⟨(i:Int), ?_⟩
   congr 2
   symm
   rw [J2];intro hc;obtain⟨k,hk,rfl⟩:=jw.1 (List.contains_iff_mem.1 hc);have:=h2 k (by omega)
   rw [VF]at this;omega
 ·rintro m v ⟨i,j,rfl,hij,hj,rfl,h2,h3⟩
  simp only [RF];by_cases hlt:i<j
  ·have e1:(2:Int) ^ (min 1 (IntKind.u64.bits))=2:=by decide
   have e2:(((i:Int)+(j:Int)).fdiv 2)=(((i+j) / 2:Nat):Int):=by
    rw [Int.fdiv_eq_ediv_of_nonneg _ (by omega)];omega
   rw [if_pos (by omega),Dw ((i:Int)+j) (by omega),wrU _ (by omega),e1,e2,Dw _ (by omega),Am (by omega),IA,hf _ (by omega),CO]
   left
   by_cases hc:cmpL (l.getD ((i+j) / 2) default) x<0
   ·rw [if_pos hc,Dw _ (by omega)]
    refine⟨_,j-((i+j) / 2+1),rfl,by omega,(i+j) / 2+1,j,rfl,by omega,hj,rfl,fun k hk=> ?_,h3⟩
    by_cases e:k=(i+j) / 2
    ·rw [e];exact hc
    ·exact TH _ _ _ (YD h (by omega:k<(i+j) / 2) (by omega)) hc
   ·rw [if_neg hc]
    refine⟨_,(i+j) / 2-i,rfl,by omega,i,(i+j) / 2,rfl,by omega,by omega,rfl,h2,fun k hk1 hk2 hck=> ?_⟩
    by_cases e:k=(i+j) / 2
    ·rw [e]at hck;exact hc hck
    ·exact hc (TH _ _ _ (YD h (by omega:(i+j) / 2<k) hk2) hck)
  ·rw [if_neg (by omega)]
   right
   have:i=j:=by omega
   subst this
   exact⟨_,rfl,i,rfl,hj,h2,h3⟩
theorem QZ(l:List (List Int))(x:List Int)(hl:Ak l)(hx:x.length<1099511627776)(h:QY l=true):Hy l x=some (l.contains (Bn x)):=by
 unfold Hy EI;rw [CO,Am hx,jv];obtain⟨r,e⟩:=su l (Bn x) (fun a0 a1=>gCp a0 a1) hl.1 (fun i hi=>xK _ _ (hl.getD i) (by rw [Rp];exact hx)) h
 rw [e];rfl
theorem Lh(list:List (List Int))(labels:List Int)(h0:Ak list)(h1:labels.length<1099511627776)(h2:QY list=true):Y.call 108 [D.sl 27 (A8 (fun x=>D.sl 3 (A8 (D.int .i64) x)) list),D.sl 3 (A8 (D.int .i64) labels)] []=some (D.bool (list.contains (Bn labels)),[]):=Pg list labels (QZ list labels h0 h1 h2)
noncomputable def IY(a b:List Int)(DK:Int):Option ((Int)⊕(Unit⊕Unit)):= if DK<(a.length:Int)then ck (0≤DK∧DK.toNat<a.length)<| ck (0≤DK∧DK.toNat<b.length)<| if(a.getD DK.toNat default)=(b.getD DK.toNat default)then some (Sum.inl (IntKind.i64.wrap (DK+1))) else some (Sum.inr (Sum.inl ())) else some (Sum.inr (Sum.inr ()))
noncomputable def Ob(a b:List Int)(v:Int):Option (Unit⊕Unit):=GQ (fun v=>IY a b v) v
noncomputable def Ph(a b:List Int):Option (Bool):=
 if(a.length:Int)=(b.length:Int)then
  (Ob a b 0).bind fun NR=>
  match NR with
  | .inl q3_=>
   some false
  | .inr q3_=>
   some true
 else
  some false
def dS:SC:= .seq (.ops [oB 14 .lss 3 (tK 13) (tK 12) 3 0]) (.seq (.cond (tK 14) .skip (.exit 0)) (.seq (.block 1 (.seq (.ops [oM 15 13 3,oA 5 15 3]) (.seq (.draws [(⟨[16,0,0],[16,17,18,19,20,21,22,23,24],[16]⟩,oM 16 0 27),(⟨[17,5,5],[16,17,18,19,20,21,22,23,24],[17]⟩,oM 17 5 3),(⟨[18,16,17,0,5],[16,17,18,19,20,21,22,23,24],[18]⟩,oI 18 27 16 17),(⟨[19,18,0],[16,17,18,19,20,21,22,23,24],[19]⟩,oL 19 3 18 3),(⟨[20,1,1],[16,17,18,19,20,21,22,23,24],[20]⟩,oM 20 1 27),(⟨[21,5,5],[16,17,18,19,20,21,22,23,24],[21]⟩,oM 21 5 3),(⟨[22,20,21,1,5],[16,17,18,19,20,21,22,23,24],[22]⟩,oI 22 27 20 21),(⟨[23,22,1],[16,17,18,19,20,21,22,23,24],[23]⟩,oL 23 3 22 3),(⟨[24,19,23,0,1],[16,17,18,19,20,21,22,23,24],[24]⟩,oB 24 .neq 3 (tK 19) (tK 23) 3 4)]) (.cond (tK 24) (.seq (.ops [oX 4 (.assign (.const (.bool false))) 4]) .ret) .skip)))) (.ops [oB 25 .add 3 (tK 13) (iK 1) 3 3,oM 13 25 3])))
def xZ:SC:= .loop dS
def k89:SC:= .seq (.ops [oX 4 (.assign (.const (.bool false))) 4]) (.seq (.seq (.ops [oM 6 0 27,oN 7 6 27,oM 8 1 27,oN 9 8 27,oB 10 .neq 3 (tK 7) (tK 9) 3 4]) (.cond (tK 10) (.seq (.ops [oX 4 (.assign (.const (.bool false))) 4]) .ret) .skip)) (.seq (.seq (.ops [oM 11 0 27,oN 12 11 27,oX 13 (.move (iK 0)) 3]) (.block 0 xZ)) (.seq (.ops [oX 4 (.assign (.const (.bool true))) 4]) .ret)))
theorem A5N:Tryz.f89.body.map (BP lends)=some k89:=by kernel_rfl
theorem AHl:Be Tryz.f89 2=true:=by kernel_rfl
theorem c89{a l:List D}{r:D×List D}(h:BZ Y.env k89 (Eh AX l.length [ResultVar.tmp 4] r) (entry a l))(ha:a.length=2):Y.call 89 a l=some r:=
 AJ (Y:=Y) rfl Tryz.func89 (ha▸AHl) A5N h
def GI(a b:List Int)(DK:Int)(s:St):Prop:=s.v 0=D.sl 3 (A8 (D.int .i64) a)∧s.v 1=D.sl 3 (A8 (D.int .i64) b)∧s.v 12=D.int .i64 (a.length:Int)∧s.v 13=D.int .i64 DK
def IZ(a b:List Int)(r:Unit⊕Unit)(ex:Ex)(s:St):Prop:=match r with
 | .inl q=>ex= .ret∧s.v 4=D.bool false
 | .inr q=>ex= .exit 0
theorem YF(a b:List Int){v:Int}{s:St}{r:Unit⊕Unit}(h:Ob a b v=some r)(hM:GI a b v s):BZ Y.env xZ (IZ a b r) s:=by
 unfold Ob at h;refine Ao (c:=dS) (fun v=>IY a b v) (fun v s=>GI a b v s) (IZ a b) ?_ h hM;clear h hM s v r;intro DK s o hM h;unfold IY at h;unfold GI at hM;obtain⟨m0,m1,m2,m3⟩:=hM;unfold dS;by_cases e2:DK<(a.length:Int)
 ·rw [if_pos e2]at h;obtain⟨e3,h⟩:=Ar h;obtain⟨e4,h⟩:=Ar h;by_cases e5:(a.getD DK.toNat default)=(b.getD DK.toNat default)
  ·rw [if_pos e5]at h;cases h;simp only [↓AB,AC,↓reduceIte,Nat.reduceEqDiff,Nat.reduceLT,m0,m1,m2,m3,e2,e3.1,e3.2,e4.2,decide_eq_true e5,GI,Ef]
  ·rw [if_neg e5]at h;cases h;simp only [↓AB,AC,↓reduceIte,Nat.reduceEqDiff,Nat.reduceLT,m0,m1,m2,m3,e2,e3.1,e3.2,e4.2,e5,GI,IZ,Sv]
 ·rw [if_neg e2]at h;cases h;simp only [↓AB,AC,↓reduceIte,Nat.reduceLT,m2,m3,e2,GI,IZ,JK]
theorem SX(a b:List Int){r:Bool}(h:Ph a b=some r):Y.call 89 [D.sl 3 (A8 (D.int .i64) a),D.sl 3 (A8 (D.int .i64) b)] []=some (D.bool r,[]):=by
 refine c89 ?_ rfl;unfold k89;unfold Ph at h;by_cases e1:(a.length:Int)=(b.length:Int)
 ·rw [if_pos e1]at h;obtain⟨NR,hl3,h⟩:=AO h;try dsimp only at h
  simp only [↓AB,AC,↓reduceIte,Nat.reduceEqDiff,Nat.reduceLT,decide_eq_true e1];refine AY (YF a b hl3 ?_) ?_
  ·simp only [BG,Co,↓reduceIte,Nat.reduceEqDiff,Nat.reduceLT,GI]
  ·intro ex3 s3 hX3;rcases NR with q3_ | q3_
   ·unfold IZ at hX3;dsimp only at hX3 h;obtain⟨rfl,n3_0⟩:=hX3;cases h;simp only [↓AB,AC,↓reduceIte,n3_0]
   ·unfold IZ at hX3;dsimp only at hX3 h
    obtain rfl:=hX3
    cases h;simp only [↓AB,AC,↓reduceIte,Nat.reduceEqDiff,Nat.reduceLT]
 ·rw [if_neg e1]at h;cases h;simp only [↓AB,AC,↓reduceIte,Nat.reduceEqDiff,Nat.reduceLT,e1]
noncomputable def Ja(l:List (List Int))(x_:List Int)(N7:Int):Option ((Int)⊕(Unit⊕Unit)):= if N7<(l.length:Int)then ck (0≤N7∧N7.toNat<l.length)<| (Ph x_ (l.getD N7.toNat default)).bind fun NR=> if NR=true then some (Sum.inr (Sum.inl ())) else some (Sum.inl (IntKind.i64.wrap (N7+1))) else some (Sum.inr (Sum.inr ()))
noncomputable def QF(l:List (List Int))(x_:List Int)(v:Int):Option (Unit⊕Unit):=GQ (fun v=>Ja l x_ v) v
noncomputable def Wj(l:List (List Int))(x_:List Int):Option (Bool):=
 (QF l x_ 0).bind fun JL=>
 match JL with
 | .inl q2_=>
  some true
 | .inr q2_=>
  some false
def dU:SC:= .seq (.ops [oB 10 .lss 3 (tK 9) (tK 8) 3 0]) (.seq (.cond (tK 10) .skip (.exit 0)) (.seq (.block 1 (.seq (.ops [oI 11 22 7 9,oL 12 27 11 27,oA 6 12 27]) (.seq (.ops [oM 13 1 27,oM 14 6 27,oC 15 89 [(tK 13),(tK 14)] [27,27] 4]) (.cond (tK 15) (.seq (.ops [oX 4 (.assign (.const (.bool true))) 4]) .ret) .skip)))) (.ops [oB 16 .add 3 (tK 9) (iK 1) 3 3,oM 9 16 3])))
def xc:SC:= .loop dU
def k86:SC:= .seq (.ops [oX 4 (.assign (.const (.bool false))) 4]) (.seq (.seq (.ops [oM 7 0 22,oN 8 7 22,oX 9 (.move (iK 0)) 3]) (.block 0 xc)) (.seq (.ops [oX 4 (.assign (.const (.bool false))) 4]) .ret))
theorem A5O:Tryz.f86.body.map (BP lends)=some k86:=by kernel_rfl
theorem AHn:Be Tryz.f86 2=true:=by kernel_rfl
theorem c86{a l:List D}{r:D×List D}(h:BZ Y.env k86 (Eh AX l.length [ResultVar.tmp 4] r) (entry a l))(ha:a.length=2):Y.call 86 a l=some r:=
 AJ (Y:=Y) rfl Tryz.func86 (ha▸AHn) A5O h
def Hz(l:List (List Int))(x_:List Int)(N7:Int)(s:St):Prop:=s.v 1=D.sl 3 (A8 (D.int .i64) x_)∧s.v 7=D.sl 27 (A8 (fun x=>D.sl 3 (A8 (D.int .i64) x)) l)∧s.v 8=D.int .i64 (l.length:Int)∧s.v 9=D.int .i64 N7
def Jb(l:List (List Int))(x_:List Int)(r:Unit⊕Unit)(ex:Ex)(s:St):Prop:=match r with
 | .inl q=>ex= .ret∧s.v 4=D.bool true
 | .inr q=>ex= .exit 0
theorem ZO(l:List (List Int))(x_:List Int){v:Int}{s:St}{r:Unit⊕Unit}(h:QF l x_ v=some r)(hM:Hz l x_ v s):BZ Y.env xc (Jb l x_ r) s:=by
 unfold QF at h;refine Ao (c:=dU) (fun v=>Ja l x_ v) (fun v s=>Hz l x_ v s) (Jb l x_) ?_ h hM;clear h hM s v r;intro N7 s o hM h;unfold Ja at h;unfold Hz at hM;obtain⟨m0,m1,m2,m3⟩:=hM;unfold dU;by_cases e1:N7<(l.length:Int)
 ·rw [if_pos e1]at h;obtain⟨e2,h⟩:=Ar h;obtain⟨NR,hl3,h⟩:=AO h;try dsimp only at h
  have c3:=SX x_ (l.getD N7.toNat default) hl3;by_cases e4:NR=true
  ·rw [if_pos e4]at h;cases h;simp only [↓AB,AC,↓reduceIte,Nat.reduceEqDiff,Nat.reduceLT,m0,m1,m2,m3,e1,e2.1,e2.2,c3,e4,Hz,Jb,Sv]
  ·rw [if_neg e4]at h;have e4f:NR=false:=J2.mpr e4;cases h;simp only [↓AB,AC,↓reduceIte,Nat.reduceEqDiff,Nat.reduceLT,m0,m1,m2,m3,e1,e2.1,e2.2,c3,e4f,Hz,Ef]
 ·rw [if_neg e1]at h;cases h;simp only [↓AB,AC,↓reduceIte,Nat.reduceLT,m2,m3,e1,Hz,Jb,JK]
theorem dV(l:List (List Int))(x_:List Int){r:Bool}(h:Wj l x_=some r):Y.call 86 [D.sl 27 (A8 (fun x=>D.sl 3 (A8 (D.int .i64) x)) l),D.sl 3 (A8 (D.int .i64) x_)] []=some (D.bool r,[]):=by
 refine c86 ?_ rfl;unfold k86;unfold Wj at h;obtain⟨JL,hl2,h⟩:=AO h;try dsimp only at h
 simp only [↓AB,AC,↓reduceIte,Nat.reduceEqDiff,Nat.reduceLT];refine AY (ZO l x_ hl2 ?_) ?_
 ·simp only [BG,Co,↓reduceIte,Nat.reduceEqDiff,Nat.reduceLT,Hz]
 ·intro ex2 s2 hX2;rcases JL with q2_ | q2_
  ·unfold Jb at hX2;dsimp only at hX2 h;obtain⟨rfl,n2_0⟩:=hX2;cases h;simp only [↓AB,AC,↓reduceIte,n2_0]
  ·unfold Jb at hX2;dsimp only at hX2 h
   obtain rfl:=hX2
   cases h;simp only [↓AB,AC,↓reduceIte,Nat.reduceEqDiff,Nat.reduceLT]
theorem aD(a b:List Int)(ha:a.length<1099511627776):Ph a b=some (decide (a=b)):=by
 unfold Ph Ob;by_cases hl:a.length=b.length
 ·rw [if_pos (by omega)]
  have key:=OM (fun v=>IY a b v) (fun i=>(i:Int)) a.length (fun i=>decide (a.getD i default=b.getD i default)) (.inl ()) (.inr ()) ?_ ?_
  ·simp only [Js]at key;rw [key,Xn a b hl];by_cases he:a=b<;>simp [he]
  ·intro i hi;simp only [IY];rw [if_pos (Bi hi),Am (Ho hi),Am (Ho (by omega)),IA,IR i (by omega)]<;>simp only [decide_eq_true_eq]
  ·simp only [IY];rw [if_neg (Af _)]
 ·rw [if_neg (by omega)]
  have: ¬a=b:=fun e=>hl (by rw [e])
  simp [this]
theorem nS(l:List (List Int))(x:List Int)(hl:l.length<1099511627776)(hx:x.length<1099511627776):Wj l x=some (l.contains x):=by
 unfold Wj QF;have key:=OM (fun v=>Ja l x v) (fun i=>(i:Int)) l.length (fun i=> !decide (x=l.getD i default)) (.inl ()) (.inr ()) ?_ ?_
 ·simp only [Js]at key;rw [key,CO];rw [jW (fun y=> !decide (x=y)) l];by_cases hm:x∈l
  ·have:l.all (fun y=> !decide (x=y))=false:=by
    rw [J2];intro hc;have:=Iw.1 hc x hm
    simp at this
   rw [this,if_neg (by decide)]
   simp [hm]
  ·have:l.all (fun y=> !decide (x=y))=true:=by
    refine Iw.2 fun y hy=> ?_;have: ¬x=y:=fun e=>hm (e▸hy)
    simp [this]
   rw [this,if_pos rfl];simp [hm]
 ·intro i hi;simp only [Ja];rw [if_pos (Bi hi),Am (Ho hi),IA,aD _ _ hx,CO,IR i (by omega)]
  by_cases e:x=l.getD i default<;>simp [e]
 ·simp only [Ja];rw [if_neg (Af _)]
theorem YG(l:List (List Int))(x_:List Int)(h0:l.length<1099511627776)(h1:x_.length<1099511627776):Y.call 86 [D.sl 27 (A8 (fun x=>D.sl 3 (A8 (D.int .i64) x)) l),D.sl 3 (A8 (D.int .i64) x_)] []=some (D.bool (l.contains x_),[]):=dV l x_ (nS l x_ h0 h1)
end Go.Proofs.YtjhjkfoabhplfaaGreat
