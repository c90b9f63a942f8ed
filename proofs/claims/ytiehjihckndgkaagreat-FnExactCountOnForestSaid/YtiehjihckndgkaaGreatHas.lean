/- Configurations looked up by halving and one by one, as membership. Conditions: the lists are short and increasing. -/
import Derived.Test.YtiehjihckndgkaaGreatL6
import Derived.Test.YtiehjihckndgkaaGreatSrt
namespace Go.Proofs.YtiehjihckndgkaaGreat
open Go Dv
set_option linter.unusedSimpArgs false
set_option linter.unusedVariables false
set_option maxRecDepth 100000
set_option maxHeartbeats 4000000
theorem wrU(n:Int)(h:0≤n∧n<18446744073709551616):IntKind.u64.wrap n=n:=by
 unfold IntKind.wrap;simp only [IntKind.signed,IntKind.bits]
 simp
 omega
theorem jQ(x:Int): ∀r,(gP x r).Perm (x::r):=by
 intro r
 induction r with
 |nil=>exact List.Perm.refl _
 |cons y r ih=>
  unfold gP;split
  ·exact((List.perm_cons y).2 ih).trans (List.Perm.swap x y r)
  ·exact List.Perm.refl _
theorem zk(x:Int): ∀r,r.Pairwise (fun a b=>b≤a)→(gP x r).Pairwise (fun a b=>b≤a):=by
 intro r
 induction r with
 |nil=>intro _;simp [gP]
 |cons y r ih=>
  intro h;obtain⟨h1,h2⟩:=List.pairwise_cons.1 h;unfold gP;split
  ·rename_i hxy
   refine List.pairwise_cons.2 ⟨fun z hz=> ?_,ih h2⟩;rcases SK.1 ((jQ x r).mem_iff.1 hz)with rfl|hz
   ·omega
   ·exact h1 z hz
  ·rename_i hxy
   refine List.pairwise_cons.2 ⟨fun z hz=> ?_,h⟩;rcases SK.1 hz with rfl|hz
   ·omega
   ·have:=h1 z hz;omega
theorem vQ: ∀(l r:AB),(l.foldl (fun r x=>gP x r) r).Perm (l++r):=by
 intro l
 induction l with
 |nil=>intro r;exact List.Perm.refl _
 |cons x l ih=>
  intro r;simp only [YB]
  exact(ih _).trans (((List.Perm.refl l).append (jQ x r)).trans List.perm_middle)
theorem vR: ∀(l r:AB),r.Pairwise (fun a b=>b≤a)→(l.foldl (fun r x=>gP x r) r).Pairwise (fun a b=>b≤a):=by
 intro l
 induction l with
 |nil=>intro r h;exact h
 |cons x l ih=>intro r h;exact ih _ (zk x r h)
theorem Pd(l:AB):(Me l).Perm l:=by
 unfold Me;have:=vQ l []
 rw [VD]at this
 exact(List.reverse_perm _).trans this
theorem Uq(l:AB):(Me l).Pairwise (fun a b=>a≤b):=by
 unfold Me;exact List.pairwise_reverse.2 (vR l [] List.Pairwise.nil)
theorem rG(l:AB):LZ l=Me l:=by
 refine List.Perm.eq_of_pairwise (le:=fun a b:Int=>a≤b) (fun a b _ _ h1 h2=>Int.le_antisymm h1 h2) ?_ (Uq l) ((List.mergeSort_perm _ _).trans (Pd l).symm);have:=List.pairwise_mergeSort (le:=fun x y:Int=>decide (x≤y)) (fun a b c h1 h2=>by simp only [decide_eq_true_eq]at*;omega) (fun a b=>by simp only [UI,decide_eq_true_eq];omega) l
 unfold LZ;exact this.imp (fun h=>by simpa using h)
theorem jR(l:AB):(Me l).length=l.length:=(Pd l).length_eq
theorem zm(a b:Int):Me [a,b]=if b<a then [b,a]else [a,b]:=by
 unfold Me;simp only [YB,List.foldl_nil,gP];by_cases h:b<a<;>simp [h]
theorem U7: ∀a:AB,Ij a a=0:=by
 intro a
 induction a with
 |nil=>rfl
 |cons x a ih=>unfold Ij;rw [if_pos rfl,ih]
theorem A4N: ∀(a b:AB),Ij a b=0→a=b:=by
 intro a
 induction a with
 |nil=>intro b h;cases b with
  |nil=>rfl
  |cons y b=>simp [Ij]at h
 |cons x a ih=>intro b h;cases b with
  |nil=>simp [Ij]at h
  |cons y b=>
   unfold Ij at h
   split at h
   ·rename_i e;rw [e,ih b h]
   ·split at h<;>simp at h
theorem Ur: ∀(a b c:AB),Ij a b<0→Ij b c<0→Ij a c<0:=by
 intro a
 induction a with
 |nil=>intro b c h1 h2;cases c with
  |nil=>cases b with
   |nil=>simp [Ij]at h1
   |cons y b=>simp [Ij]at h2
  |cons z c=>simp [Ij]
 |cons x a ih=>intro b c h1 h2;cases b with
  |nil=>simp [Ij]at h1
  |cons y b=>cases c with
   |nil=>simp [Ij]at h2
   |cons z c=>
    unfold Ij at h1 h2 ⊢;by_cases e1:x=y
    ·subst e1;rw [if_pos rfl]at h1;by_cases e2:x=z
     ·subst e2;rw [if_pos rfl]at h2 ⊢;exact ih b c h1 h2
     ·rw [if_neg e2]at h2 ⊢;exact h2
    ·rw [if_neg e1]at h1
     have l1:x<y:=by
      by_cases hl:x<y
      ·exact hl
      ·rw [if_neg hl]at h1;omega
     by_cases e2:y=z
     ·subst e2;rw [if_neg e1,if_pos l1];decide
     ·rw [if_neg e2]at h2
      have l2:y<z:=by
       by_cases hl:y<z
       ·exact hl
       ·rw [if_neg hl]at h2;omega
      rw [if_neg (by omega),if_pos (by omega)];decide
def Us(l:AY):Bool:=(List.range l.length).all fun i=>decide (i=0)||decide (Ij (l.getD (i-1) default) (l.getD i default)<0)
theorem A4O{l:AY}(h:Us l=true): ∀(d i:Nat),i+d+1<l.length→Ij (l.getD i default) (l.getD (i+d+1) default)<0:=by
 have step: ∀i,i+1<l.length→Ij (l.getD i default) (l.getD (i+1) default)<0:=fun i hi=>by
  have:=DV.1 h (i+1) hi
  simpa using this
 intro d
 induction d with
 |zero=>intro i hi;exact step i hi
 |succ d ih=>
  intro i hi;exact Ur _ _ _ (ih i (by omega)) (step (i+d+1) (by omega))
theorem Vz{l:AY}(h:Us l=true){i j:Nat}(hij:i<j)(hj:j<l.length):Ij (l.getD i default) (l.getD j default)<0:=by
 have:=A4O h (j-i-1) i (by omega)
 rwa [show i+(j-i-1)+1=j by omega]at this
theorem jS{l:AY}{s n:Int}(h:MH l s n=true):Us l=true:=by
 refine DV.2 fun i hi=> ?_;have:=DV.1 h i hi
 unfold Qa at this;rw [Gb]at this;exact this.2
theorem ay{l:AY}{x:AB}:x∈l↔ ∃k,k<l.length∧l.getD k default=x:=by
 constructor
 ·intro h;obtain⟨k,hk,e⟩:=jm h
  exact⟨k,hk,by rw [Le,Kh hk];exact e⟩
 ·rintro⟨k,hk,rfl⟩
  rw [Le,Kh hk];exact Nh hk
noncomputable def Eu(s_:AB):Option (AB):= some s_
def AAE:SC:= .seq (.ops [oX 1 (.box 26 (tK 0)) 0,oX 2 (.assign (.const .nilFunc)) 142]) (.seq (.ops [oX 3 (.makeFunc (Fn.func 156) #[] #[(tK 1)]) 141,oA 2 3 142]) .ret)
theorem A4P:Tryz.f138.body.map (BX lends)=some AAE:=by kernel_rfl
theorem AHn:Bj Tryz.f138 1=true:=by kernel_rfl
theorem ANH{a l:List D}{r:D×List D}(h:Br Y.env AAE (fin Ap l.length [ResultVar.tmp 2] r) (entry a l))(ha:a.length=1):Y.call 138 a l=some r:=
 AZ (Y:=Y) rfl Tryz.func138 (ha▸AHn) A4P h
theorem Nt(s_:AB){r:AB}(h:Eu s_=some r):Y.call 138 [D.sl 3 (AQ (D.int .i64) s_)] []=some (D.clo 156 [D.cptr [D.sl 3 (AQ (D.int .i64) r)]],[]):=by
 refine ANH ?_ rfl;unfold AAE;unfold Eu at h
 obtain rfl:=Option.some.inj h
 simp (maxDischargeDepth:=9) only [↓AL,AO,↓reduceIte,Nat.reduceEqDiff,Nat.reduceLT]
noncomputable def BO(x_:AY)(target:AB)(cmp:AB→AB→Option Int)(i:Int)(j:Int):Option ((Int×Int)⊕(Int)):= if i<j then ck (0≤IntKind.i64.wrap ((IntKind.u64.wrap (IntKind.i64.wrap (i+j))).fdiv (2 ^ (min 1 (IntKind.u64.bits))))∧(IntKind.i64.wrap ((IntKind.u64.wrap (IntKind.i64.wrap (i+j))).fdiv (2 ^ (min 1 (IntKind.u64.bits))))).toNat<x_.length)<| (cmp (x_.getD ((IntKind.i64.wrap ((IntKind.u64.wrap (IntKind.i64.wrap (i+j))).fdiv (2 ^ (min 1 (IntKind.u64.bits))))).toNat) default) target).bind fun AHo=> if AHo<0 then some (Sum.inl (IntKind.i64.wrap ((IntKind.i64.wrap ((IntKind.u64.wrap (IntKind.i64.wrap (i+j))).fdiv (2 ^ (min 1 (IntKind.u64.bits)))))+1),j)) else some (Sum.inl (i,IntKind.i64.wrap ((IntKind.u64.wrap (IntKind.i64.wrap (i+j))).fdiv (2 ^ (min 1 (IntKind.u64.bits)))))) else some (Sum.inr i)
noncomputable def CF(x_:AY)(target:AB)(cmp:AB→AB→Option Int)(v:Int×Int):Option (Int):=Fb (fun v=>BO x_ target cmp v.1 v.2) v
noncomputable def Bf(x_:AY)(target:AB)(cmp:AB→AB→Option Int):Option (Int×Bool):= (CF x_ target cmp (0,(x_.length:Int))).bind fun Aa=> if Aa<(x_.length:Int)then ck (0≤Aa∧Aa.toNat<x_.length)<| (cmp (x_.getD Aa.toNat default) target).bind fun AHp=> some (Aa,(decide (AHp=0))) else some (Aa,false)
def az:SC:= .seq (.seq (.ops [oM 15 9 3,oM 16 10 3,oB 17 .lss 3 (tK 15) (tK 16) 3 4]) (.cond (tK 17) .skip (.exit 0))) (.block 1 (.seq (.ops [oM 18 9 3,oM 19 10 3,oB 20 .add 3 (tK 18) (tK 19) 3 3,oX 21 (.convert 3 82 (tK 20)) 82,oB 22 .shr 82 (tK 21) (.const (.int .u64 1)) 82 82,oX 23 (.convert 82 3 (tK 22)) 3,oA 11 23 3]) (.seq (.ops [oM 24 2 112,oM 25 0 22,oM 26 11 3,oI 27 22 25 26,oL 28 26 27 26,oM 29 1 26,oX 30 (.call ⟨(.value (tK 24)), #[(tK 28),(tK 29)], #[26,26]⟩) 3,oB 31 .lss 3 (tK 30) (iK 0) 3 4]) (.cond (tK 31) (.ops [oM 32 11 3,oB 33 .add 3 (tK 32) (iK 1) 3 3,oA 9 33 3]) (.ops [oM 34 11 3,oA 10 34 3])))))
def xS:SC:= .loop az
def AAF:SC:= .seq (.ops [oX 6 (.assign (iK 0)) 3,oX 7 CY 4]) (.seq (.ops [oM 12 0 22,oN 13 12 22,oA 8 13 3]) (.seq (.ops [oM 14 8 3,oX 9 (.assign (iK 0)) 3,oA 10 14 3]) (.seq (.block 0 xS) (.seq (.ops [oM 35 9 3,oM 36 9 3,oM 37 8 3,oB 38 .lss 3 (tK 36) (tK 37) 3 4,oM 39 38 4,⟨(some 40),(.move (tK 2)),112,(some (some 39,true))⟩,⟨(some 41),(.move (tK 0)),22,(some (some 39,true))⟩,⟨(some 42),(.move (tK 9)),3,(some (some 39,true))⟩,⟨(some 43),(.indexAddr 22 (tK 41) (tK 42)),0,(some (some 39,true))⟩,⟨(some 44),(.load 26 (tK 43)),26,(some (some 39,true))⟩,⟨(some 45),(.move (tK 1)),26,(some (some 39,true))⟩,⟨(some 46),(.call ⟨(.value (tK 40)), #[(tK 44),(tK 45)], #[26,26]⟩),3,(some (some 39,true))⟩,⟨(some 47),(.binOp .eql 3 (tK 46) (iK 0) 3),4,(some (some 39,true))⟩,oX 48 (.pick (tK 39) (tK 47) MS) 4,oA 6 35 3,oA 7 48 4]) .ret))))
theorem A4Q:Tryz.f136.body.map (BX lends)=some AAF:=by kernel_rfl
theorem AHq:Bj Tryz.f136 3=true:=by kernel_rfl
theorem ANI{a l:List D}{r:D×List D}(h:Br Y.env AAF (fin Ap l.length [ResultVar.tmp 6,ResultVar.tmp 7] r) (entry a l))(ha:a.length=3):Y.call 136 a l=some r:=
 AZ (Y:=Y) rfl Tryz.func136 (ha▸AHq) A4Q h
def BC(x_:AY)(target:AB)(cmp:AB→AB→Option Int)(cmp_f:FuncId)(cmp_c:List D)(i:Int)(j:Int)(s:St):Prop:=s.v 0=D.sl 26 (AQ Bw x_)∧s.v 1=D.sl 3 (AQ (D.int .i64) target)∧s.v 2=D.clo cmp_f cmp_c∧s.v 8=D.int .i64 (x_.length:Int)∧s.v 9=D.int .i64 i∧s.v 10=D.int .i64 j
def Bt(x_:AY)(target:AB)(cmp:AB→AB→Option Int)(cmp_f:FuncId)(cmp_c:List D)(r:Int)(ex:Ex)(s:St):Prop:=ex= .exit 0∧s.v 0=D.sl 26 (AQ Bw x_)∧s.v 1=D.sl 3 (AQ (D.int .i64) target)∧s.v 2=D.clo cmp_f cmp_c∧s.v 8=D.int .i64 (x_.length:Int)∧s.v 9=D.int .i64 r
theorem Gw(x_:AY)(target:AB)(cmp:AB→AB→Option Int)(cmp_f:FuncId)(cmp_c:List D)(cmp_h: ∀(a0:AB) (a1:AB) (r:Int),cmp a0 a1=some r→Y.call cmp_f (D.sl 3 (AQ (D.int .i64) a0)::D.sl 3 (AQ (D.int .i64) a1)::cmp_c) []=some (D.int .i64 r,[]))(cmp_l:lends cmp_f=false){v:Int×Int}{s:St}{r:Int}(h:CF x_ target cmp v=some r)(hM:BC x_ target cmp cmp_f cmp_c v.1 v.2 s):Br Y.env xS (Bt x_ target cmp cmp_f cmp_c r) s:=by
 unfold CF at h;refine BH (c:=az) (fun v=>BO x_ target cmp v.1 v.2) (fun v s=>BC x_ target cmp cmp_f cmp_c v.1 v.2 s) (Bt x_ target cmp cmp_f cmp_c) ?_ h hM;clear h hM s v r;intro v s o hM h;obtain⟨i,j⟩:=v;dsimp only at h hM;unfold BO at h;unfold BC at hM;obtain⟨m0,m1,m2,m3,m4,m5⟩:=hM;unfold az;rcases iS h with⟨e1,h⟩|⟨e1,h⟩
 ·obtain⟨e2,h⟩:=ES h;obtain⟨AHo,hl3,h⟩:=Ak h;have c3:=cmp_h _ _ _ hl3;rcases iS h with⟨e4,h⟩|⟨e4,h⟩
  ·obtain rfl:=Option.some.inj h
   simp (maxDischargeDepth:=9) only [↓AL,AO,↓reduceIte,Nat.reduceEqDiff,Nat.reduceLT,Nat.reduceAdd,Int.reduceLT,Int.reduceToNat,m0,m1,m2,m3,m4,m5,cmp_l,e1,e2.1,e2.2,c3,e4,BC,En]
  ·obtain rfl:=Option.some.inj h
   simp (maxDischargeDepth:=9) only [↓AL,AO,↓reduceIte,Nat.reduceEqDiff,Nat.reduceLT,Nat.reduceAdd,Int.reduceLT,Int.reduceToNat,m0,m1,m2,m3,m4,m5,cmp_l,e1,e2.1,e2.2,c3,e4,BC,En]
 ·obtain rfl:=Option.some.inj h
  simp (maxDischargeDepth:=9) only [↓AL,AO,↓reduceIte,Nat.reduceEqDiff,Nat.reduceLT,m0,m1,m2,m3,m4,m5,e1,BC,Bt,K3]
theorem Ha(x_:AY)(target:AB)(cmp:AB→AB→Option Int)(cmp_f:FuncId)(cmp_c:List D)(cmp_h: ∀(a0:AB) (a1:AB) (r:Int),cmp a0 a1=some r→Y.call cmp_f (D.sl 3 (AQ (D.int .i64) a0)::D.sl 3 (AQ (D.int .i64) a1)::cmp_c) []=some (D.int .i64 r,[]))(cmp_l:lends cmp_f=false){r:Int×Bool}(h:Bf x_ target cmp=some r):Y.call 136 [D.sl 26 (AQ Bw x_),D.sl 3 (AQ (D.int .i64) target),D.clo cmp_f cmp_c] []=some (D.tup [D.int .i64 r.1,D.bool r.2],[]):=by
 refine ANI ?_ rfl;unfold AAF;unfold Bf at h;obtain⟨Aa,hl2,h⟩:=Ak h;try dsimp only at h
 simp (maxDischargeDepth:=9) only [↓AL,AO,↓reduceIte,Nat.reduceEqDiff,Nat.reduceLT];refine Aw (Gw x_ target cmp cmp_f cmp_c cmp_h cmp_l hl2 ?_) ?_
 ·simp (maxDischargeDepth:=9) only [BZ,Ei,↓reduceIte,Nat.reduceEqDiff,Nat.reduceLT,BC]
 ·intro ex2 s2 hX2;unfold Bt at hX2;obtain⟨rfl,n2_0,n2_1,n2_2,n2_3,n2_4⟩:=hX2;rcases iS h with⟨e3,h⟩|⟨e3,h⟩
  ·obtain⟨e4,h⟩:=ES h;obtain⟨AHp,hl5,h⟩:=Ak h;try dsimp only at h
   have c5:=cmp_h _ _ _ hl5
   obtain rfl:=Option.some.inj h
   simp (maxDischargeDepth:=9) only [↓AL,AO,↓reduceIte,Nat.reduceEqDiff,Nat.reduceLT,Nat.reduceAdd,cmp_l,n2_0,n2_1,n2_2,n2_3,n2_4,e3,e4.1,e4.2,c5]
  ·obtain rfl:=Option.some.inj h
   simp (maxDischargeDepth:=9) only [↓AL,AO,↓reduceIte,Nat.reduceEqDiff,Nat.reduceLT,n2_3,n2_4,e3]
noncomputable def Iy(list:AY)(labels:AB):Option (Bool):= (Eu labels).bind fun Uo=> ck (Uo.length<1099511627776)<| (Bf list (LZ Uo) (fun a0 a1=>Ca a0 a1)).bind fun GY=> some GY.2
def AAG:SC:= .seq (.ops [oX 4 CY 4]) (.seq (.ops [oM 8 0 22,oM 9 1 26,oC 10 138 [(tK 9)] [26] 142,oC 11 137 [(tK 10)] [142] 26,oC 12 136 [(tK 8),(tK 11),(.func 98)] [22,26,112] 54,oM 7 12 54,oE 13 7 0 3,oE 14 7 1 4,oA 5 13 3,oA 6 14 4]) (.seq (.ops [oM 15 6 4,oA 4 15 4]) .ret))
theorem A4R:Tryz.f117.body.map (BX lends)=some AAG:=by kernel_rfl
theorem AHr:Bj Tryz.f117 2=true:=by kernel_rfl
theorem ANJ{a l:List D}{r:D×List D}(h:Br Y.env AAG (fin Ap l.length [ResultVar.tmp 4] r) (entry a l))(ha:a.length=2):Y.call 117 a l=some r:=
 AZ (Y:=Y) rfl Tryz.func117 (ha▸AHr) A4R h
theorem Qz(list:AY)(labels:AB){r:Bool}(h:Iy list labels=some r):Y.call 117 [D.sl 26 (AQ Bw list),D.sl 3 (AQ (D.int .i64) labels)] []=some (D.bool r,[]):=by
 refine ANJ ?_ rfl;unfold AAG;unfold Iy at h;obtain⟨Uo,hl1,h⟩:=Ak h;have c1:=Nt labels hl1;obtain⟨e2,h⟩:=ES h;have c3:=vG Uo e2;obtain⟨GY,hl4,h⟩:=Ak h;try dsimp only at h
 have c4:=Ha list (LZ Uo) (fun a0 a1=>Ca a0 a1) 98 [] (fun a0 a1 _ hh=>IG a0 a1 hh) A9d hl4
 obtain rfl:=Option.some.inj h
 simp (maxDischargeDepth:=9) only [↓AL,AO,↓reduceIte,Nat.reduceEqDiff,Nat.reduceLT,Nat.reduceAdd,c1,c3,c4]
theorem zn(l:AY)(x:AB)(f:AB→AB→Option Int)(hl:l.length<1099511627776)(hf: ∀i,i<l.length→f (l.getD i default) x=some (Ij (l.getD i default) x))(h:Us l=true):
  ∃r,Bf l x f=some (r,l.contains x):=by
 have key:=Rc (fun v=>BO l x f v.1 v.2)
  (fun m v=> ∃i j:Nat,v=((i:Int),(j:Int))∧i≤j∧j≤l.length∧m=j-i∧(∀k,k<i→Ij (l.getD k default) x<0)∧(∀k,j≤k→k<l.length→ ¬Ij (l.getD k default) x<0))
  (fun r=> ∃i:Nat,r=(i:Int)∧i≤l.length∧(∀k,k<i→Ij (l.getD k default) x<0)∧(∀k,i≤k→k<l.length→ ¬Ij (l.getD k default) x<0)) ?_ l.length (0,(l.length:Int)) ⟨0,l.length,rfl,Nat.zero_le _,Dh _,by omega,fun k hk=>by omega,fun k h1 h2=>by omega⟩
 ·obtain⟨r,h1,i,rfl,hi,h2,h3⟩:=key;unfold Bf CF;rw [h1,Cz];by_cases hlt:i<l.length
  ·rw [if_pos (by omega),BL (by omega),EC,hf i hlt,Cz]
   refine⟨(i:Int), ?_⟩
   congr 2
   rw [VE,decide_eq_true_eq,jl,ay]
   constructor
   ·intro e;exact⟨i,hlt,A4N _ _ e⟩
   ·rintro⟨k,hk,rfl⟩
    have k1: ¬k<i:=fun hki=>by have:=h2 k hki;rw [U7]at this;omega
    have k2: ¬i<k:=fun hik=>h3 i (Dh _) hlt (Vz h hik hk);have:k=i:=by omega
    subst this;exact U7 _
  ·rw [if_neg (by omega)]
   refine⟨(i:Int), ?_⟩
   congr 2
   symm
   rw [Jw];intro hc;obtain⟨k,hk,rfl⟩:=ay.1 (jl.1 hc);have:=h2 k (by omega)
   rw [U7]at this;omega
 ·rintro m v ⟨i,j,rfl,hij,hj,rfl,h2,h3⟩
  simp only [BO];by_cases hlt:i<j
  ·have e1:(2:Int) ^ (min 1 (IntKind.u64.bits))=2:=by decide
   have e2:(((i:Int)+(j:Int)).fdiv 2)=(((i+j) / 2:Nat):Int):=by
    rw [Int.fdiv_eq_ediv_of_nonneg _ (by omega)];omega
   rw [if_pos (by omega),I7 ((i:Int)+j) (by omega),wrU _ (by omega),e1,e2,I7 _ (by omega),BL (by omega),EC,hf _ (by omega),Cz]
   left
   by_cases hc:Ij (l.getD ((i+j) / 2) default) x<0
   ·rw [if_pos hc,I7 _ (by omega)]
    refine⟨_,j-((i+j) / 2+1),rfl,by omega,(i+j) / 2+1,j,rfl,by omega,hj,rfl,fun k hk=> ?_,h3⟩
    by_cases e:k=(i+j) / 2
    ·rw [e];exact hc
    ·exact Ur _ _ _ (Vz h (by omega:k<(i+j) / 2) (by omega)) hc
   ·rw [if_neg hc]
    refine⟨_,(i+j) / 2-i,rfl,by omega,i,(i+j) / 2,rfl,by omega,by omega,rfl,h2,fun k hk1 hk2 hck=> ?_⟩
    by_cases e:k=(i+j) / 2
    ·rw [e]at hck;exact hc hck
    ·exact hc (Ur _ _ _ (Vz h (by omega:(i+j) / 2<k) hk2) hck)
  ·rw [if_neg (by omega)]
   right
   have:i=j:=by omega
   subst this
   exact⟨_,rfl,i,rfl,hj,h2,h3⟩
theorem SQ(l:AY)(x:AB)(hl:Bv l)(hx:x.length<1099511627776)(h:Us l=true):Iy l x=some (l.contains (Me x)):=by
 unfold Iy Eu;rw [Cz,BL hx,rG];obtain⟨r,e⟩:=zn l (Me x) (fun a0 a1=>Ca a0 a1) hl.1 (fun i hi=>JF _ _ (hl.getD i) (by rw [jR];exact hx)) h
 rw [e];rfl
theorem NG(list:AY)(labels:AB)(h0:Bv list)(h1:labels.length<1099511627776)(h2:Us list=true):Y.call 117 [D.sl 26 (AQ Bw list),D.sl 3 (AQ (D.int .i64) labels)] []=some (D.bool (list.contains (Me labels)),[]):=Qz list labels (SQ list labels h0 h1 h2)
noncomputable def JY(a:AB)(b:AB)(Ll:Int):Option ((Int)⊕(Unit⊕Unit)):= if Ll<(a.length:Int)then ck (0≤Ll∧Ll.toNat<a.length)<| ck (0≤Ll∧Ll.toNat<b.length)<| if(a.getD Ll.toNat default)=(b.getD Ll.toNat default)then some (Sum.inl (IntKind.i64.wrap (Ll+1))) else some (Sum.inr (Sum.inl ())) else some (Sum.inr (Sum.inr ()))
noncomputable def QJ(a:AB)(b:AB)(v:Int):Option (Unit⊕Unit):=Fb (fun v=>JY a b v) v
noncomputable def TR(a:AB)(b:AB):Option (Bool):=
 if(a.length:Int)=(b.length:Int)then
  (QJ a b 0).bind fun Aa=>
  match Aa with
  | .inl q1000_=>
   some false
  | .inr q1000_=>
   some true
 else
  some false
abbrev qd8:List Nat:=[16,17,18,19,20,21,22,23,24]
def bA:SC:= .seq (.ops [oB 14 .lss 3 (tK 13) (tK 12) 3 0]) (.seq (.cond (tK 14) .skip (.exit 0)) (.seq (.block 1 (.seq (.ops [oM 15 13 3,oA 5 15 3]) (.seq (.draws [(⟨[16,0,0],qd8,[16]⟩,oM 16 0 26),(⟨[17,5,5],qd8,[17]⟩,oM 17 5 3),(⟨[18,16,17,0,5],qd8,[18]⟩,oI 18 26 16 17),(⟨[19,18,0],qd8,[19]⟩,oL 19 3 18 3),(⟨[20,1,1],qd8,[20]⟩,oM 20 1 26),(⟨[21,5,5],qd8,[21]⟩,oM 21 5 3),(⟨[22,20,21,1,5],qd8,[22]⟩,oI 22 26 20 21),(⟨[23,22,1],qd8,[23]⟩,oL 23 3 22 3),(⟨[24,19,23,0,1],qd8,[24]⟩,oB 24 .neq 3 (tK 19) (tK 23) 3 4)]) (.cond (tK 24) (.seq (.ops [oX 4 CY 4]) .ret) .skip)))) (.ops [oB 25 .add 3 (tK 13) (iK 1) 3 3,oM 13 25 3])))
def xU:SC:= .loop bA
def AAH:SC:= .seq (.ops [oX 4 CY 4]) (.seq (.seq (.ops [oM 6 0 26,oN 7 6 26,oM 8 1 26,oN 9 8 26,oB 10 .neq 3 (tK 7) (tK 9) 3 4]) (.cond (tK 10) (.seq (.ops [oX 4 CY 4]) .ret) .skip)) (.seq (.seq (.ops [oM 11 0 26,oN 12 11 26,oX 13 (.move (iK 0)) 3]) (.block 0 xU)) (.seq (.ops [oX 4 (.assign F7) 4]) .ret)))
theorem A4T:Tryz.f140.body.map (BX lends)=some AAH:=by kernel_rfl
theorem AHs:Bj Tryz.f140 2=true:=by kernel_rfl
theorem ANK{a l:List D}{r:D×List D}(h:Br Y.env AAH (fin Ap l.length [ResultVar.tmp 4] r) (entry a l))(ha:a.length=2):Y.call 140 a l=some r:=
 AZ (Y:=Y) rfl Tryz.func140 (ha▸AHs) A4T h
def Hd(a:AB)(b:AB)(Ll:Int)(s:St):Prop:=s.v 0=D.sl 3 (AQ (D.int .i64) a)∧s.v 1=D.sl 3 (AQ (D.int .i64) b)∧s.v 12=D.int .i64 (a.length:Int)∧s.v 13=D.int .i64 Ll
def JZ(a:AB)(b:AB)(r:Unit⊕Unit)(ex:Ex)(s:St):Prop:=match r with
 | .inl q=>ex= .ret∧s.v 4=D.bool false
 | .inr q=>ex= .exit 0
theorem bB(a:AB)(b:AB){v:Int}{s:St}{r:Unit⊕Unit}(h:QJ a b v=some r)(hM:Hd a b v s):Br Y.env xU (JZ a b r) s:=by
 unfold QJ at h;refine BH (c:=bA) (fun v=>JY a b v) (fun v s=>Hd a b v s) (JZ a b) ?_ h hM;clear h hM s v r;intro Ll s o hM h;unfold JY at h;unfold Hd at hM;obtain⟨m0,m1,m2,m3⟩:=hM;unfold bA;rcases iS h with⟨e2,h⟩|⟨e2,h⟩
 ·obtain⟨e3,e4,h⟩:=GX h;rcases iS h with⟨e5,h⟩|⟨e5,h⟩
  ·obtain rfl:=Option.some.inj h
   simp (maxDischargeDepth:=9) only [↓AL,AO,↓reduceIte,Nat.reduceEqDiff,Nat.reduceLT,m0,m1,m2,m3,e2,e3.1,e3.2,e4.2,decide_eq_true e5,Hd,En]
  ·obtain rfl:=Option.some.inj h
   simp (maxDischargeDepth:=9) only [↓AL,AO,↓reduceIte,Nat.reduceEqDiff,Nat.reduceLT,m0,m1,m2,m3,e2,e3.1,e3.2,e4.2,e5,Hd,JZ,Qu]
 ·obtain rfl:=Option.some.inj h
  simp (maxDischargeDepth:=9) only [↓AL,AO,↓reduceIte,Nat.reduceLT,m2,m3,e2,Hd,JZ,K3]
theorem gQ(a:AB)(b:AB){r:Bool}(h:TR a b=some r):Y.call 140 [D.sl 3 (AQ (D.int .i64) a),D.sl 3 (AQ (D.int .i64) b)] []=some (D.bool r,[]):=by
 refine ANK ?_ rfl;unfold AAH;unfold TR at h;rcases iS h with⟨e1,h⟩|⟨e1,h⟩
 ·obtain⟨Aa,hl3,h⟩:=Ak h;try dsimp only at h
  simp (maxDischargeDepth:=9) only [↓AL,AO,↓reduceIte,Nat.reduceEqDiff,Nat.reduceLT,decide_eq_true e1];refine Aw (bB a b hl3 ?_) ?_
  ·simp (maxDischargeDepth:=9) only [BZ,Ei,↓reduceIte,Nat.reduceEqDiff,Nat.reduceLT,Hd]
  ·intro ex3 s3 hX3;rcases Aa with q1000_|q1000_
   ·unfold JZ at hX3;dsimp only at hX3 h;obtain⟨rfl,n3_0⟩:=hX3
    obtain rfl:=Option.some.inj h
    simp (maxDischargeDepth:=9) only [↓AL,AO,↓reduceIte,n3_0]
   ·unfold JZ at hX3;dsimp only at hX3 h
    obtain rfl:=hX3
    obtain rfl:=Option.some.inj h
    simp (maxDischargeDepth:=9) only [↓AL,AO,↓reduceIte,Nat.reduceEqDiff,Nat.reduceLT]
 ·obtain rfl:=Option.some.inj h
  simp (maxDischargeDepth:=9) only [↓AL,AO,↓reduceIte,Nat.reduceEqDiff,Nat.reduceLT,e1]
noncomputable def Kv(l:AY)(x_:AB)(Gv:Int):Option ((Int)⊕(Unit⊕Unit)):= if Gv<(l.length:Int)then ck (0≤Gv∧Gv.toNat<l.length)<| (TR x_ (l.getD Gv.toNat default)).bind fun vS=> if vS=true then some (Sum.inr (Sum.inl ())) else some (Sum.inl (IntKind.i64.wrap (Gv+1))) else some (Sum.inr (Sum.inr ()))
noncomputable def Rh(l:AY)(x_:AB)(v:Int):Option (Unit⊕Unit):=Fb (fun v=>Kv l x_ v) v
noncomputable def Yz(l:AY)(x_:AB):Option (Bool):=
 (Rh l x_ 0).bind fun Aa=>
 match Aa with
 | .inl q1000_=>
  some true
 | .inr q1000_=>
  some false
def bC:SC:= .seq (.ops [oB 10 .lss 3 (tK 9) (tK 8) 3 0]) (.seq (.cond (tK 10) .skip (.exit 0)) (.seq (.block 1 (.seq (.ops [oI 11 22 7 9,oL 12 26 11 26,oA 6 12 26]) (.seq (.ops [oM 13 1 26,oM 14 6 26,oC 15 140 [(tK 13),(tK 14)] [26,26] 4]) (.cond (tK 15) (.seq (.ops [oX 4 (.assign F7) 4]) .ret) .skip)))) (.ops [oB 16 .add 3 (tK 9) (iK 1) 3 3,oM 9 16 3])))
def xV:SC:= .loop bC
def AAI:SC:= .seq (.ops [oX 4 CY 4]) (.seq (.seq (.ops [oM 7 0 22,oN 8 7 22,oX 9 (.move (iK 0)) 3]) (.block 0 xV)) (.seq (.ops [oX 4 CY 4]) .ret))
theorem A4U:Tryz.f122.body.map (BX lends)=some AAI:=by kernel_rfl
theorem AHt:Bj Tryz.f122 2=true:=by kernel_rfl
theorem ANL{a l:List D}{r:D×List D}(h:Br Y.env AAI (fin Ap l.length [ResultVar.tmp 4] r) (entry a l))(ha:a.length=2):Y.call 122 a l=some r:=
 AZ (Y:=Y) rfl Tryz.func122 (ha▸AHt) A4U h
def Iz(l:AY)(x_:AB)(Gv:Int)(s:St):Prop:=s.v 1=D.sl 3 (AQ (D.int .i64) x_)∧s.v 7=D.sl 26 (AQ Bw l)∧s.v 8=D.int .i64 (l.length:Int)∧s.v 9=D.int .i64 Gv
def Kw(l:AY)(x_:AB)(r:Unit⊕Unit)(ex:Ex)(s:St):Prop:=match r with
 | .inl q=>ex= .ret∧s.v 4=D.bool true
 | .inr q=>ex= .exit 0
theorem gT(l:AY)(x_:AB){v:Int}{s:St}{r:Unit⊕Unit}(h:Rh l x_ v=some r)(hM:Iz l x_ v s):Br Y.env xV (Kw l x_ r) s:=by
 unfold Rh at h;refine BH (c:=bC) (fun v=>Kv l x_ v) (fun v s=>Iz l x_ v s) (Kw l x_) ?_ h hM;clear h hM s v r;intro Gv s o hM h;unfold Kv at h;unfold Iz at hM;obtain⟨m0,m1,m2,m3⟩:=hM;unfold bC;rcases iS h with⟨e1,h⟩|⟨e1,h⟩
 ·obtain⟨e2,h⟩:=ES h;obtain⟨vS,hl3,h⟩:=Ak h;have c3:=gQ x_ (l.getD Gv.toNat default) hl3;rcases iS h with⟨e4,h⟩|⟨e4,h⟩
  ·obtain rfl:=Option.some.inj h
   simp (maxDischargeDepth:=9) only [↓AL,AO,↓reduceIte,Nat.reduceEqDiff,Nat.reduceLT,Nat.reduceAdd,m0,m1,m2,m3,e1,e2.1,e2.2,c3,e4,Iz,Kw,Qu]
  ·have e4f:vS=false:=Jw.mpr e4
   obtain rfl:=Option.some.inj h
   simp (maxDischargeDepth:=9) only [↓AL,AO,↓reduceIte,Nat.reduceEqDiff,Nat.reduceLT,Nat.reduceAdd,m0,m1,m2,m3,e1,e2.1,e2.2,c3,e4f,Iz,En]
 ·obtain rfl:=Option.some.inj h
  simp (maxDischargeDepth:=9) only [↓AL,AO,↓reduceIte,Nat.reduceLT,m2,m3,e1,Iz,Kw,K3]
theorem lW(l:AY)(x_:AB){r:Bool}(h:Yz l x_=some r):Y.call 122 [D.sl 26 (AQ Bw l),D.sl 3 (AQ (D.int .i64) x_)] []=some (D.bool r,[]):=by
 refine ANL ?_ rfl;unfold AAI;unfold Yz at h;obtain⟨Aa,hl2,h⟩:=Ak h;try dsimp only at h
 simp (maxDischargeDepth:=9) only [↓AL,AO,↓reduceIte,Nat.reduceEqDiff,Nat.reduceLT];refine Aw (gT l x_ hl2 ?_) ?_
 ·simp (maxDischargeDepth:=9) only [BZ,Ei,↓reduceIte,Nat.reduceEqDiff,Nat.reduceLT,Iz]
 ·intro ex2 s2 hX2;rcases Aa with q1000_|q1000_
  ·unfold Kw at hX2;dsimp only at hX2 h;obtain⟨rfl,n2_0⟩:=hX2
   obtain rfl:=Option.some.inj h
   simp (maxDischargeDepth:=9) only [↓AL,AO,↓reduceIte,n2_0]
  ·unfold Kw at hX2;dsimp only at hX2 h
   obtain rfl:=hX2
   obtain rfl:=Option.some.inj h
   simp (maxDischargeDepth:=9) only [↓AL,AO,↓reduceIte,Nat.reduceEqDiff,Nat.reduceLT]
theorem zo(a b:AB)(ha:a.length<1099511627776):TR a b=some (decide (a=b)):=by
 unfold TR QJ;by_cases hl:a.length=b.length
 ·rw [if_pos (by omega)]
  have key:=Fe (fun v=>JY a b v) (fun i=>(i:Int)) a.length (fun i=>decide (a.getD i default=b.getD i default)) (.inl ()) (.inr ()) ?_ ?_
  ·simp only [Gn]at key;rw [key,TG a b hl];by_cases he:a=b<;>simp [he]
  ·intro i hi;simp only [JY];rw [if_pos (CL hi),BL (Ff hi),BL (Ff (by omega)),EC,K4 i (by omega)]<;>simp only [decide_eq_true_eq]
  ·simp only [JY];rw [if_neg (Az _)]
 ·rw [if_neg (by omega)]
  have: ¬a=b:=fun e=>hl (by rw [e])
  simp [this]
theorem vT(l:AY)(x:AB)(hl:l.length<1099511627776)(hx:x.length<1099511627776):Yz l x=some (l.contains x):=by
 unfold Yz Rh;have key:=Fe (fun v=>Kv l x v) (fun i=>(i:Int)) l.length (fun i=> !decide (x=l.getD i default)) (.inl ()) (.inr ()) ?_ ?_
 ·simp only [Gn]at key;rw [key,Cz];rw [aO (fun y=> !decide (x=y)) l];by_cases hm:x∈l
  ·have:l.all (fun y=> !decide (x=y))=false:=by
    rw [Jw];intro hc;have:=KN.1 hc x hm
    simp at this
   rw [this,if_neg (by decide)]
   simp [hm]
  ·have:l.all (fun y=> !decide (x=y))=true:=by
    refine KN.2 fun y hy=> ?_;have: ¬x=y:=fun e=>hm (e▸hy)
    simp [this]
   rw [this,if_pos rfl];simp [hm]
 ·intro i hi;simp only [Kv];rw [if_pos (CL hi),BL (Ff hi),EC,zo _ _ hx,Cz,K4 i (by omega)]
  by_cases e:x=l.getD i default<;>simp [e]
 ·simp only [Kv];rw [if_neg (Az _)]
theorem vU(l:AY)(x_:AB)(h0:l.length<1099511627776)(h1:x_.length<1099511627776):Y.call 122 [D.sl 26 (AQ Bw l),D.sl 3 (AQ (D.int .i64) x_)] []=some (D.bool (l.contains x_),[]):=lW l x_ (vT l x_ h0 h1)
end Go.Proofs.YtiehjihckndgkaaGreat
