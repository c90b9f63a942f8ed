/- Functions of the program as plain functions, and what they compute. Conditions: those in each lemma. -/
import Derived.Test.YtclkfhhdikfcpaaL6
import Derived.Test.YtclkfhhdikfcpaaSrt
import Derived.Test.YtclkfhhdikfcpaaDt
open Dv.D renaming int → bh,sl → ca,bool → cf
open Inhabited renaming default → bj
open Nat renaming reduceEqDiff → bk,reduceLT → bl,reduceLeDiff → bm,reduceAdd → bo,reduceMul → bp,reduceMod → br,reduceDiv → bt,reducePow → bw,reduceSub → bx,reduceBEq → bO
open Int renaming reduceLE → b3,reduceLT → b4,reduceEq → b5,reduceSub → b6,reduceAdd → b7,reduceToNat → b8,reduceNeg → b9
open Go.IntKind renaming u64 → cq,i64 → cb
open Go.ResultVar renaming tmp → ci
open Sum renaming inr → cc,inl → cd
open List renaming replicate → ao,pairwise_cons → cr
noncomputable section
namespace Go.Proofs.Ytclkfhhdikfcpaa
open Go Dv
set_option linter.unusedSimpArgs false
set_option linter.unusedVariables false
set_option maxRecDepth 100000
set_option maxHeartbeats 4000000
theorem wrU(n:Int)(h:0≤n∧n<18446744073709551616):cq.wrap n=n:=by
 unfold IntKind.wrap;simp only [IntKind.signed,IntKind.bits]
 simp
 omega
theorem X7(x:Int): ∀r,(WE x r).Perm (x::r):=by
 intro r
 induction r with
 |nil=>exact List.Perm.refl _
 |cons y r ih=>
  unfold WE;split
  ·exact((List.perm_cons y).2 ih).trans (List.Perm.swap x y r)
  ·exact List.Perm.refl _
theorem jT(x:Int): ∀r,r.Pairwise (fun a b=>b≤a)→(WE x r).Pairwise (fun a b=>b≤a):=by
 intro r
 induction r with
 |nil=>intro _;simp [WE]
 |cons y r ih=>
  intro h;obtain⟨h1,h2⟩:=cr.1 h;unfold WE;split
  ·rename_i hxy
   refine cr.2 ⟨fun z hz=> ?_,ih h2⟩;rcases PV.1 ((X7 x r).mem_iff.1 hz)with rfl|hz
   ·omega
   ·exact h1 z hz
  ·rename_i hxy
   refine cr.2 ⟨fun z hz=> ?_,h⟩;rcases PV.1 hz with rfl|hz
   ·omega
   ·have:=h1 z hz;omega
theorem eB: ∀(l r:AU),(l.foldl (fun r x=>WE x r) r).Perm (l++r):=by
 intro l
 induction l with
 |nil=>intro r;exact List.Perm.refl _
 |cons x l ih=>
  intro r;simp only [VZ]
  exact(ih _).trans (((List.Perm.refl l).append (X7 x r)).trans List.perm_middle)
theorem eD: ∀(l r:AU),r.Pairwise (fun a b=>b≤a)→(l.foldl (fun r x=>WE x r) r).Pairwise (fun a b=>b≤a):=by
 intro l
 induction l with
 |nil=>intro r h;exact h
 |cons x l ih=>intro r h;exact ih _ (jT x r h)
theorem Mi(l:AU):(KM l).Perm l:=by
 unfold KM;have:=eB l []
 rw [La]at this
 exact(List.reverse_perm _).trans this
theorem Us(l:AU):(KM l).Pairwise (fun a b=>a≤b):=by
 unfold KM;exact List.pairwise_reverse.2 (eD l [] List.Pairwise.nil)
theorem nG(l:AU):JE l=KM l:=by
 refine List.Perm.eq_of_pairwise (le:=fun a b:Int=>a≤b) (fun a b _ _ h1 h2=>Int.le_antisymm h1 h2) ?_ (Us l) ((List.mergeSort_perm _ _).trans (Mi l).symm);have:=List.pairwise_mergeSort (le:=fun x y:Int=>decide (x≤y)) (fun a b c h1 h2=>by simp only [decide_eq_true_eq]at*;omega) (fun a b=>by simp only [Qa,decide_eq_true_eq];omega) l
 unfold JE;exact this.imp (fun h=>by simpa using h)
theorem jU(l:AU):(KM l).length=l.length:=(Mi l).length_eq
theorem jV(a b:Int):KM [a,b]=if b<a then [b,a]else [a,b]:=by
 unfold KM;simp only [VZ,List.foldl_nil,WE];by_cases h:b<a<;>simp [h]
theorem RA: ∀a:AU,FX a a=0:=by
 intro a
 induction a with
 |nil=>rfl
 |cons x a ih=>unfold FX;rw [if_pos rfl,ih]
theorem qj: ∀(a b:AU),FX a b=0→a=b:=by
 intro a
 induction a with
 |nil=>intro b h;cases b with
  |nil=>rfl
  |cons y b=>simp [FX]at h
 |cons x a ih=>intro b h;cases b with
  |nil=>simp [FX]at h
  |cons y b=>
   unfold FX at h
   split at h
   ·rename_i e;rw [e,ih b h]
   ·split at h<;>simp at h
theorem PN: ∀(a b c:AU),FX a b<0→FX b c<0→FX a c<0:=by
 intro a
 induction a with
 |nil=>intro b c h1 h2;cases c with
  |nil=>cases b with
   |nil=>simp [FX]at h1
   |cons y b=>simp [FX]at h2
  |cons z c=>simp [FX]
 |cons x a ih=>intro b c h1 h2;cases b with
  |nil=>simp [FX]at h1
  |cons y b=>cases c with
   |nil=>simp [FX]at h2
   |cons z c=>
    unfold FX at h1 h2 ⊢;by_cases e1:x=y
    ·subst e1;rw [if_pos rfl]at h1;by_cases e2:x=z
     ·subst e2;rw [if_pos rfl]at h2 ⊢;exact ih b c h1 h2
     ·rw [if_neg e2]at h2 ⊢;exact h2
    ·rw [if_neg e1]at h1
     have l1:x<y:=by
      by_cases hl:x<y
      ·exact hl
      ·rw [if_neg hl]at h1;omega
     by_cases e2:y=z
     ·subst e2;rw [if_neg e1,if_pos l1];decide
     ·rw [if_neg e2]at h2
      have l2:y<z:=by
       by_cases hl:y<z
       ·exact hl
       ·rw [if_neg hl]at h2;omega
      rw [if_neg (by omega),if_pos (by omega)];decide
def PO(l:AX):Bool:=(List.range l.length).all fun i=>decide (i=0)||decide (FX (l.getD (i-1) bj) (l.getD i bj)<0)
theorem ql{l:AX}(h:PO l=true): ∀(d i:Nat),i+d+1<l.length→FX (l.getD i bj) (l.getD (i+d+1) bj)<0:=by
 have step: ∀i,i+1<l.length→FX (l.getD i bj) (l.getD (i+1) bj)<0:=fun i hi=>by
  have:=Dl.1 h (i+1) hi
  simpa using this
 intro d
 induction d with
 |zero=>intro i hi;exact step i hi
 |succ d ih=>
  intro i hi;exact PN _ _ _ (ih i (by omega)) (step (i+d+1) (by omega))
theorem Ut{l:AX}(h:PO l=true){i j:Nat}(hij:i<j)(hj:j<l.length):FX (l.getD i bj) (l.getD j bj)<0:=by
 have:=ql h (j-i-1) i (by omega)
 rwa [show i+(j-i-1)+1=j by omega]at this
theorem X8{l:AX}{s n:Int}(h:IB l s n=true):PO l=true:=by
 refine Dl.2 fun i hi=> ?_;have:=Dl.1 h i hi
 unfold Le at this;rw [Gl]at this;exact this.2
theorem Uu{l:AX}{x:AU}:x∈l↔ ∃k,k<l.length∧l.getD k bj=x:=by
 constructor
 ·intro h;obtain⟨k,hk,e⟩:=List.getElem_of_mem h
  exact⟨k,hk,by rw [MJ,IC hk];exact e⟩
 ·rintro⟨k,hk,rfl⟩
  rw [MJ,IC hk];exact OX hk
def Dn(s_:AU):Option (AU):= some s_
def A1i:SC:= .seq (.ops [oX 1 (.box 26 (tK 0)) 0,oX 2 (.assign (.const .nilFunc)) 132]) (.seq (.ops [oX 3 (.makeFunc (Fn.func 155) #[] #[(tK 1)]) 131,oA 2 3 132]) .ret)
theorem qm:Try.f116.body.map (Bt lends)=some A1i:=by kernel_rfl
theorem A8W:CW Try.f116 1=true:=by kernel_rfl
theorem ADi{a l:List D}{r:D×List D}(h:CU Y.env A1i (Gq AZ l.length [ci 2] r) (entry a l))(ha:a.length=1):Y.call 116 a l=some r:=
 AY (Y:=Y) rfl Try.func116 (ha▸A8W) qm h
theorem K8(s_:AU){r:AU}(h:Dn s_=some r):Y.call 116 [ca 3 (AP (bh .i64) s_)] []=some (D.clo 155 [D.cptr [ca 3 (AP (bh .i64) r)]],[]):=by
 refine ADi ?_ rfl;unfold A1i;unfold Dn at h
 obtain rfl:=Option.some.inj h
 simp (maxDischargeDepth:=9) only [↓AQ,AR,Aj,↓reduceIte,bk,bl,bm,bo,bp,br,bt,bw,bx,bO,b3,b4,b5,b6,b7,b8,b9]<;>(repeat' apply A7)<;>first|rfl|exact⟨_,rfl⟩|exact⟨_,_,rfl⟩|simp [AP,AC]
def Aw(x_:AX)(target:AU)(cmp:AU→AU→Option Int)(i:Int)(j:Int):Option ((Int×Int)⊕(Int)):= if i<j then ck (0≤cb.wrap ((cq.wrap (cb.wrap (i+j))).fdiv (2 ^ (min 1 (cq.bits))))∧(cb.wrap ((cq.wrap (cb.wrap (i+j))).fdiv (2 ^ (min 1 (cq.bits))))).toNat<x_.length)<| (cmp (x_.getD ((cb.wrap ((cq.wrap (cb.wrap (i+j))).fdiv (2 ^ (min 1 (cq.bits))))).toNat) bj) target).bind fun jW=> if jW<0 then some (cd (cb.wrap ((cb.wrap ((cq.wrap (cb.wrap (i+j))).fdiv (2 ^ (min 1 (cq.bits)))))+1),j)) else some (cd (i,cb.wrap ((cq.wrap (cb.wrap (i+j))).fdiv (2 ^ (min 1 (cq.bits)))))) else some (cc i)
def Bd(x_:AX)(target:AU)(cmp:AU→AU→Option Int)(v:Int×Int):Option (Int):=JZ (fun v=>Aw x_ target cmp v.1 v.2) v
def BM(x_:AX)(target:AU)(cmp:AU→AU→Option Int):Option (Int×Bool):= (Bd x_ target cmp (0,(x_.length:Int))).bind fun AV=> if AV<(x_.length:Int)then ck (0≤AV∧AV.toNat<x_.length)<| (cmp (x_.getD AV.toNat bj) target).bind fun QL=> some (AV,(decide (QL=0))) else some (AV,false)
def Uv:SC:= .seq (.seq (.ops [oM 15 9 3,oM 16 10 3,oB 17 .lss 3 (tK 15) (tK 16) 3 4]) (.cond (tK 17) .skip (.exit 0))) (.block 1 (.seq (.ops [oM 18 9 3,oM 19 10 3,oB 20 .add 3 (tK 18) (tK 19) 3 3,oX 21 (.convert 3 110 (tK 20)) 110,oB 22 .shr 110 (tK 21) (.const (.int .u64 1)) 110 110,oX 23 (.convert 110 3 (tK 22)) 3,oA 11 23 3]) (.seq (.ops [oM 24 2 148,oM 25 0 22,oM 26 11 3,oI 27 22 25 26,oL 28 26 27 26,oM 29 1 26,oX 30 (.call ⟨(.value (tK 24)), #[(tK 28),(tK 29)], #[26,26]⟩) 3,oB 31 .lss 3 (tK 30) (iK 0) 3 4]) (.cond (tK 31) (.ops [oM 32 11 3,oB 33 .add 3 (tK 32) (iK 1) 3 3,oA 9 33 3]) (.ops [oM 34 11 3,oA 10 34 3])))))
def fe:SC:= .loop Uv
def A1j:SC:= .seq (.ops [oX 6 (.assign (iK 0)) 3,oX 7 CX 4]) (.seq (.ops [oM 12 0 22,oN 13 12 22,oA 8 13 3]) (.seq (.ops [oM 14 8 3,oX 9 (.assign (iK 0)) 3,oA 10 14 3]) (.seq (.block 0 fe) (.seq (.ops [oM 35 9 3,oM 36 9 3,oM 37 8 3,oB 38 .lss 3 (tK 36) (tK 37) 3 4,oM 39 38 4,⟨(some 40),(.move (tK 2)),148,(some (some 39,true))⟩,⟨(some 41),(.move (tK 0)),22,(some (some 39,true))⟩,⟨(some 42),(.move (tK 9)),3,(some (some 39,true))⟩,⟨(some 43),(.indexAddr 22 (tK 41) (tK 42)),0,(some (some 39,true))⟩,⟨(some 44),(.load 26 (tK 43)),26,(some (some 39,true))⟩,⟨(some 45),(.move (tK 1)),26,(some (some 39,true))⟩,⟨(some 46),(.call ⟨(.value (tK 40)), #[(tK 44),(tK 45)], #[26,26]⟩),3,(some (some 39,true))⟩,⟨(some 47),(.binOp .eql 3 (tK 46) (iK 0) 3),4,(some (some 39,true))⟩,oX 48 (.pick (tK 39) (tK 47) OZ) 4,oA 6 35 3,oA 7 48 4]) .ret))))
theorem qo:Try.f164.body.map (Bt lends)=some A1j:=by kernel_rfl
theorem A8X:CW Try.f164 3=true:=by kernel_rfl
theorem ADj{a l:List D}{r:D×List D}(h:CU Y.env A1j (Gq AZ l.length [ci 6,ci 7] r) (entry a l))(ha:a.length=3):Y.call 164 a l=some r:=
 AY (Y:=Y) rfl Try.func164 (ha▸A8X) qo h
def Ak(x_:AX)(target:AU)(cmp:AU→AU→Option Int)(cmp_f:FuncId)(cmp_c:List D)(i:Int)(j:Int)(s:St):Prop:=s.v 0=ca 26 (AP CO x_)∧s.v 1=ca 3 (AP (bh .i64) target)∧s.v 2=D.clo cmp_f cmp_c∧s.v 8=bh .i64 (x_.length:Int)∧s.v 9=bh .i64 i∧s.v 10=bh .i64 j
def Ar(x_:AX)(target:AU)(cmp:AU→AU→Option Int)(cmp_f:FuncId)(cmp_c:List D)(r:Int)(ex:Ex)(s:St):Prop:=ex= .exit 0∧s.v 0=ca 26 (AP CO x_)∧s.v 1=ca 3 (AP (bh .i64) target)∧s.v 2=D.clo cmp_f cmp_c∧s.v 8=bh .i64 (x_.length:Int)∧s.v 9=bh .i64 r
theorem FI(x_:AX)(target:AU)(cmp:AU→AU→Option Int)(cmp_f:FuncId)(cmp_c:List D)(cmp_h: ∀(a0:AU) (a1:AU) (r:Int),cmp a0 a1=some r→Y.call cmp_f (ca 3 (AP (bh .i64) a0)::ca 3 (AP (bh .i64) a1)::cmp_c) []=some (bh .i64 r,[]))(cmp_l:lends cmp_f=false){v:Int×Int}{s:St}{r:Int}(h:Bd x_ target cmp v=some r)(hM:Ak x_ target cmp cmp_f cmp_c v.1 v.2 s):CU Y.env fe (Ar x_ target cmp cmp_f cmp_c r) s:=by
 unfold Bd at h;refine CF (c:=Uv) (fun v=>Aw x_ target cmp v.1 v.2) (fun v s=>Ak x_ target cmp cmp_f cmp_c v.1 v.2 s) (Ar x_ target cmp cmp_f cmp_c) ?_ h hM;clear h hM s v r;intro v s o hM h;obtain⟨i,j⟩:=v;dsimp only at h hM;unfold Aw at h;unfold Ak at hM;obtain⟨m0,m1,m2,m3,m4,m5⟩:=hM;unfold Uv;by_cases e1:i<j
 ·rw [if_pos e1]at h;obtain⟨e2,h⟩:=Cb h;obtain⟨jW,hl3,h⟩:=Ao h;try dsimp only at h
  have c3:=cmp_h _ _ _ hl3;by_cases e4:jW<0
  ·rw [if_pos e4]at h
   obtain rfl:=Option.some.inj h
   simp (maxDischargeDepth:=9) only [↓AQ,AR,Aj,↓reduceIte,bk,bl,bm,bo,bp,br,bt,bw,bx,bO,b3,b4,b5,b6,b7,b8,b9,m0,m1,m2,m3,m4,m5,cmp_l,e1,e2.1,e2.2,c3,e4,Ak,Ar,Cx,Cy,Cz]<;>(repeat' apply A7)<;>first|rfl|exact⟨_,rfl⟩|exact⟨_,_,rfl⟩|simp [AP,AC]
  ·rw [if_neg e4]at h
   obtain rfl:=Option.some.inj h
   simp (maxDischargeDepth:=9) only [↓AQ,AR,Aj,↓reduceIte,bk,bl,bm,bo,bp,br,bt,bw,bx,bO,b3,b4,b5,b6,b7,b8,b9,m0,m1,m2,m3,m4,m5,cmp_l,e1,e2.1,e2.2,c3,e4,Ak,Ar,Cx,Cy,Cz]<;>(repeat' apply A7)<;>first|rfl|exact⟨_,rfl⟩|exact⟨_,_,rfl⟩|simp [AP,AC]
 ·rw [if_neg e1]at h
  obtain rfl:=Option.some.inj h
  simp (maxDischargeDepth:=9) only [↓AQ,AR,Aj,↓reduceIte,bk,bl,bm,bo,bp,br,bt,bw,bx,bO,b3,b4,b5,b6,b7,b8,b9,m0,m1,m2,m3,m4,m5,cmp_l,e1,Ak,Ar,Cx,Cy,Cz]<;>(repeat' apply A7)<;>first|rfl|exact⟨_,rfl⟩|exact⟨_,_,rfl⟩|simp [AP,AC]
theorem FP(x_:AX)(target:AU)(cmp:AU→AU→Option Int)(cmp_f:FuncId)(cmp_c:List D)(cmp_h: ∀(a0:AU) (a1:AU) (r:Int),cmp a0 a1=some r→Y.call cmp_f (ca 3 (AP (bh .i64) a0)::ca 3 (AP (bh .i64) a1)::cmp_c) []=some (bh .i64 r,[]))(cmp_l:lends cmp_f=false){r:Int×Bool}(h:BM x_ target cmp=some r):Y.call 164 [ca 26 (AP CO x_),ca 3 (AP (bh .i64) target),D.clo cmp_f cmp_c] []=some (D.tup [bh .i64 r.1,cf r.2],[]):=by
 refine ADj ?_ rfl;unfold A1j;unfold BM at h;obtain⟨AV,hl2,h⟩:=Ao h;try dsimp only at h
 simp (maxDischargeDepth:=9) only [↓AQ,AR,Aj,↓reduceIte,bk,bl,bm,bo,bp,br,bt,bw,bx,bO,b3,b4,b5,b6,b7,b8,b9,cmp_l];refine Bc (FI x_ target cmp cmp_f cmp_c cmp_h cmp_l hl2 ?_) ?_
 ·simp (maxDischargeDepth:=9) only [↓AQ,AR,Aj,↓reduceIte,bk,bl,bm,bo,bp,br,bt,bw,bx,bO,b3,b4,b5,b6,b7,b8,b9,cmp_l,Ak]<;>(repeat' apply A7)<;>first|rfl|exact⟨_,rfl⟩|exact⟨_,_,rfl⟩|simp [AP,AC]
 ·intro ex2 s2 hX2;unfold Ar at hX2;obtain⟨rfl,n2_0,n2_1,n2_2,n2_3,n2_4⟩:=hX2;by_cases e3:AV<(x_.length:Int)
  ·rw [if_pos e3]at h;obtain⟨e4,h⟩:=Cb h;obtain⟨QL,hl5,h⟩:=Ao h;try dsimp only at h
   have c5:=cmp_h _ _ _ hl5
   obtain rfl:=Option.some.inj h
   simp (maxDischargeDepth:=9) only [↓AQ,AR,Aj,↓reduceIte,bk,bl,bm,bo,bp,br,bt,bw,bx,bO,b3,b4,b5,b6,b7,b8,b9,cmp_l,n2_0,n2_1,n2_2,n2_3,n2_4,e3,e4.1,e4.2,c5]<;>(repeat' apply A7)<;>first|rfl|exact⟨_,rfl⟩|exact⟨_,_,rfl⟩|simp [AP,AC]
  ·rw [if_neg e3]at h
   obtain rfl:=Option.some.inj h
   simp (maxDischargeDepth:=9) only [↓AQ,AR,Aj,↓reduceIte,bk,bl,bm,bo,bp,br,bt,bw,bx,bO,b3,b4,b5,b6,b7,b8,b9,cmp_l,n2_0,n2_1,n2_2,n2_3,n2_4,e3]<;>(repeat' apply A7)<;>first|rfl|exact⟨_,rfl⟩|exact⟨_,_,rfl⟩|simp [AP,AC]
def GN(list:AX)(labels:AU):Option (Bool):= (Dn labels).bind fun R7=> ck (R7.length<1099511627776)<| (BM list (JE R7) (fun a0 a1=>Bo a0 a1)).bind fun A8Y=> some A8Y.2
def A1k:SC:= .seq (.ops [oX 4 CX 4]) (.seq (.ops [oM 8 0 22,oM 9 1 26,oC 10 116 [(tK 9)] [26] 132,oC 11 115 [(tK 10)] [132] 26,oC 12 164 [(tK 8),(tK 11),(.func 145)] [22,26,148] 51,oM 7 12 51,oE 13 7 0 3,oE 14 7 1 4,oA 5 13 3,oA 6 14 4]) (.seq (.ops [oM 15 6 4,oA 4 15 4]) .ret))
theorem qp:Try.f137.body.map (Bt lends)=some A1k:=by kernel_rfl
theorem A8Z:CW Try.f137 2=true:=by kernel_rfl
theorem ADk{a l:List D}{r:D×List D}(h:CU Y.env A1k (Gq AZ l.length [ci 4] r) (entry a l))(ha:a.length=2):Y.call 137 a l=some r:=
 AY (Y:=Y) rfl Try.func137 (ha▸A8Z) qp h
theorem MF(list:AX)(labels:AU){r:Bool}(h:GN list labels=some r):Y.call 137 [ca 26 (AP CO list),ca 3 (AP (bh .i64) labels)] []=some (cf r,[]):=by
 refine ADk ?_ rfl;unfold A1k;unfold GN at h;obtain⟨R7,hl1,h⟩:=Ao h;try dsimp only at h
 have c1:=K8 labels hl1;obtain⟨e2,h⟩:=Cb h;have c3:=dm R7 e2;obtain⟨A8Y,hl4,h⟩:=Ao h;try dsimp only at h
 have c4:=FP list (JE R7) (fun a0 a1=>Bo a0 a1) 145 [] (fun a0 a1 _ hh=>Fz a0 a1 hh) mQ hl4
 obtain rfl:=Option.some.inj h
 simp (maxDischargeDepth:=9) only [↓AQ,AR,Aj,↓reduceIte,bk,bl,bm,bo,bp,br,bt,bw,bx,bO,b3,b4,b5,b6,b7,b8,b9,c1,e2,c3,c4]<;>(repeat' apply A7)<;>first|rfl|exact⟨_,rfl⟩|exact⟨_,_,rfl⟩|simp [AP,AC]
theorem jX(l:AX)(x:AU)(f:AU→AU→Option Int)(hl:l.length<1099511627776)(hf: ∀i,i<l.length→f (l.getD i bj) x=some (FX (l.getD i bj) x))(h:PO l=true):
  ∃r,BM l x f=some (r,l.contains x):=by
 have key:=Q8 (fun v=>Aw l x f v.1 v.2)
  (fun m v=> ∃i j:Nat,v=((i:Int),(j:Int))∧i≤j∧j≤l.length∧m=j-i∧(∀k,k<i→FX (l.getD k bj) x<0)∧(∀k,j≤k→k<l.length→ ¬FX (l.getD k bj) x<0))
  (fun r=> ∃i:Nat,r=(i:Int)∧i≤l.length∧(∀k,k<i→FX (l.getD k bj) x<0)∧(∀k,i≤k→k<l.length→ ¬FX (l.getD k bj) x<0)) ?_ l.length (0,(l.length:Int)) ⟨0,l.length,rfl,Nat.zero_le _,Hq _,by omega,fun k hk=>by omega,fun k h1 h2=>by omega⟩
 ·obtain⟨r,h1,i,rfl,hi,h2,h3⟩:=key;unfold BM Bd;rw [h1,Dh];by_cases hlt:i<l.length
  ·rw [if_pos (by omega),Ce (by omega),ML,hf i hlt,Dh]
   refine⟨(i:Int), ?_⟩
   congr 2
   rw [Bool.eq_iff_iff,decide_eq_true_eq,VX,Uu]
   constructor
   ·intro e;exact⟨i,hlt,qj _ _ e⟩
   ·rintro⟨k,hk,rfl⟩
    have k1: ¬k<i:=fun hki=>by have:=h2 k hki;rw [RA]at this;omega
    have k2: ¬i<k:=fun hik=>h3 i (Hq _) hlt (Ut h hik hk);have:k=i:=by omega
    subst this;exact RA _
  ·rw [if_neg (by omega)]
   refine⟨(i:Int), ?_⟩
   congr 2
   symm
   rw [Iw];intro hc;obtain⟨k,hk,rfl⟩:=Uu.1 (VX.1 hc);have:=h2 k (by omega)
   rw [RA]at this;omega
 ·rintro m v ⟨i,j,rfl,hij,hj,rfl,h2,h3⟩
  simp only [Aw];by_cases hlt:i<j
  ·have e1:(2:Int) ^ (min 1 (cq.bits))=2:=by decide
   have e2:(((i:Int)+(j:Int)).fdiv 2)=(((i+j) / 2:Nat):Int):=by
    rw [jk _ (by omega)];omega
   rw [if_pos (by omega),JA ((i:Int)+j) (by omega),wrU _ (by omega),e1,e2,JA _ (by omega),Ce (by omega),ML,hf _ (by omega),Dh]
   left
   by_cases hc:FX (l.getD ((i+j) / 2) bj) x<0
   ·rw [if_pos hc,JA _ (by omega)]
    refine⟨_,j-((i+j) / 2+1),rfl,by omega,(i+j) / 2+1,j,rfl,by omega,hj,rfl,fun k hk=> ?_,h3⟩
    by_cases e:k=(i+j) / 2
    ·rw [e];exact hc
    ·exact PN _ _ _ (Ut h (by omega:k<(i+j) / 2) (by omega)) hc
   ·rw [if_neg hc]
    refine⟨_,(i+j) / 2-i,rfl,by omega,i,(i+j) / 2,rfl,by omega,by omega,rfl,h2,fun k hk1 hk2 hck=> ?_⟩
    by_cases e:k=(i+j) / 2
    ·rw [e]at hck;exact hc hck
    ·exact hc (PN _ _ _ (Ut h (by omega:(i+j) / 2<k) hk2) hck)
  ·rw [if_neg (by omega)]
   right
   have:i=j:=by omega
   subst this
   exact⟨_,rfl,i,rfl,hj,h2,h3⟩
theorem N9(l:AX)(x:AU)(hl:BR l)(hx:x.length<1099511627776)(h:PO l=true):GN l x=some (l.contains (KM x)):=by
 unfold GN Dn;rw [Dh,Ce hx,nG];obtain⟨r,e⟩:=jX l (KM x) (fun a0 a1=>Bo a0 a1) hl.1 (fun i hi=>Gf _ _ (hl.getD i) (by rw [jU];exact hx)) h
 rw [e];rfl
theorem Jb(list:AX)(labels:AU)(h0:BR list)(h1:labels.length<1099511627776)(h2:PO list=true):Y.call 137 [ca 26 (AP CO list),ca 3 (AP (bh .i64) labels)] []=some (cf (list.contains (KM labels)),[]):=MF list labels (N9 list labels h0 h1 h2)
def Gu(a:AU)(b:AU)(QM:Int):Option ((Int)⊕(Unit⊕Unit)):= if QM<(a.length:Int)then ck (0≤QM∧QM.toNat<a.length)<| ck (0≤QM∧QM.toNat<b.length)<| if(a.getD QM.toNat bj)=(b.getD QM.toNat bj)then some (cd (cb.wrap (QM+1))) else some (cc (cd ())) else some (cc (cc ()))
def LV(a:AU)(b:AU)(v:Int):Option (Unit⊕Unit):=JZ (fun v=>Gu a b v) v
def Nt(a:AU)(b:AU):Option (Bool):=
 if(a.length:Int)=(b.length:Int)then
  (LV a b 0).bind fun AV=>
  match AV with
  | .inl q1000_=>
   some false
  | .inr q1000_=>
   some true
 else
  some false
abbrev YN:List Nat:=[16,17,18,19,20,21,22,23,24]
def Uw:SC:= .seq (.ops [oB 14 .lss 3 (tK 13) (tK 12) 3 0]) (.seq (.cond (tK 14) .skip (.exit 0)) (.seq (.block 1 (.seq (.ops [oM 15 13 3,oA 5 15 3]) (.seq (.draws [(⟨[16,0,0],YN,[16]⟩,oM 16 0 26),(⟨[17,5,5],YN,[17]⟩,oM 17 5 3),(⟨[18,16,17,0,5],YN,[18]⟩,oI 18 26 16 17),(⟨[19,18,0],YN,[19]⟩,oL 19 3 18 3),(⟨[20,1,1],YN,[20]⟩,oM 20 1 26),(⟨[21,5,5],YN,[21]⟩,oM 21 5 3),(⟨[22,20,21,1,5],YN,[22]⟩,oI 22 26 20 21),(⟨[23,22,1],YN,[23]⟩,oL 23 3 22 3),(⟨[24,19,23,0,1],YN,[24]⟩,oB 24 .neq 3 (tK 19) (tK 23) 3 4)]) (.cond (tK 24) (.seq (.ops [oX 4 CX 4]) .ret) .skip)))) (.ops [oB 25 .add 3 (tK 13) (iK 1) 3 3,oM 13 25 3])))
def fq:SC:= .loop Uw
def A1l:SC:= .seq (.ops [oX 4 CX 4]) (.seq (.seq (.ops [oM 6 0 26,oN 7 6 26,oM 8 1 26,oN 9 8 26,oB 10 .neq 3 (tK 7) (tK 9) 3 4]) (.cond (tK 10) (.seq (.ops [oX 4 CX 4]) .ret) .skip)) (.seq (.seq (.ops [oM 11 0 26,oN 12 11 26,oX 13 (.move (iK 0)) 3]) (.block 0 fq)) (.seq (.ops [oX 4 (.assign H6) 4]) .ret)))
theorem qw:Try.f135.body.map (Bt lends)=some A1l:=by kernel_rfl
theorem A8a:CW Try.f135 2=true:=by kernel_rfl
theorem ADl{a l:List D}{r:D×List D}(h:CU Y.env A1l (Gq AZ l.length [ci 4] r) (entry a l))(ha:a.length=2):Y.call 135 a l=some r:=
 AY (Y:=Y) rfl Try.func135 (ha▸A8a) qw h
def FQ(a:AU)(b:AU)(QM:Int)(s:St):Prop:=s.v 0=ca 3 (AP (bh .i64) a)∧s.v 1=ca 3 (AP (bh .i64) b)∧s.v 12=bh .i64 (a.length:Int)∧s.v 13=bh .i64 QM
def FR(a:AU)(b:AU)(r:Unit⊕Unit)(ex:Ex)(s:St):Prop:=match r with
 | .inl q=>ex= .ret∧s.v 4=cf false
 | .inr q=>ex= .exit 0
theorem Ux(a:AU)(b:AU){v:Int}{s:St}{r:Unit⊕Unit}(h:LV a b v=some r)(hM:FQ a b v s):CU Y.env fq (FR a b r) s:=by
 unfold LV at h;refine CF (c:=Uw) (fun v=>Gu a b v) (fun v s=>FQ a b v s) (FR a b) ?_ h hM;clear h hM s v r;intro QM s o hM h;unfold Gu at h;unfold FQ at hM;obtain⟨m0,m1,m2,m3⟩:=hM;unfold Uw;by_cases e2:QM<(a.length:Int)
 ·rw [if_pos e2]at h;obtain⟨e3,h⟩:=Cb h;obtain⟨e4,h⟩:=Cb h;by_cases e5:(a.getD QM.toNat bj)=(b.getD QM.toNat bj)
  ·rw [if_pos e5]at h
   obtain rfl:=Option.some.inj h
   simp (maxDischargeDepth:=9) only [↓AQ,AR,Aj,↓reduceIte,bk,bl,bm,bo,bp,br,bt,bw,bx,bO,b3,b4,b5,b6,b7,b8,b9,m0,m1,m2,m3,e2,e3.1,e3.2,e4.1,e4.2,decide_eq_true e5,FQ,FR,Cx,Cy,Cz]<;>(repeat' apply A7)<;>first|rfl|exact⟨_,rfl⟩|exact⟨_,_,rfl⟩|simp [AP,AC]
  ·rw [if_neg e5]at h
   obtain rfl:=Option.some.inj h
   simp (maxDischargeDepth:=9) only [↓AQ,AR,Aj,↓reduceIte,bk,bl,bm,bo,bp,br,bt,bw,bx,bO,b3,b4,b5,b6,b7,b8,b9,m0,m1,m2,m3,e2,e3.1,e3.2,e4.1,e4.2,e5,FQ,FR,Cx,Cy,Cz]<;>(repeat' apply A7)<;>first|rfl|exact⟨_,rfl⟩|exact⟨_,_,rfl⟩|simp [AP,AC]
 ·rw [if_neg e2]at h
  obtain rfl:=Option.some.inj h
  simp (maxDischargeDepth:=9) only [↓AQ,AR,Aj,↓reduceIte,bk,bl,bm,bo,bp,br,bt,bw,bx,bO,b3,b4,b5,b6,b7,b8,b9,m0,m1,m2,m3,e2,FQ,FR,Cx,Cy,Cz]<;>(repeat' apply A7)<;>first|rfl|exact⟨_,rfl⟩|exact⟨_,_,rfl⟩|simp [AP,AC]
theorem WF(a:AU)(b:AU){r:Bool}(h:Nt a b=some r):Y.call 135 [ca 3 (AP (bh .i64) a),ca 3 (AP (bh .i64) b)] []=some (cf r,[]):=by
 refine ADl ?_ rfl;unfold A1l;unfold Nt at h;by_cases e1:(a.length:Int)=(b.length:Int)
 ·rw [if_pos e1]at h;obtain⟨AV,hl3,h⟩:=Ao h;try dsimp only at h
  simp (maxDischargeDepth:=9) only [↓AQ,AR,Aj,↓reduceIte,bk,bl,bm,bo,bp,br,bt,bw,bx,bO,b3,b4,b5,b6,b7,b8,b9,decide_eq_true e1];refine Bc (Ux a b hl3 ?_) ?_
  ·simp (maxDischargeDepth:=9) only [↓AQ,AR,Aj,↓reduceIte,bk,bl,bm,bo,bp,br,bt,bw,bx,bO,b3,b4,b5,b6,b7,b8,b9,decide_eq_true e1,FQ]<;>(repeat' apply A7)<;>first|rfl|exact⟨_,rfl⟩|exact⟨_,_,rfl⟩|simp [AP,AC]
  ·intro ex3 s3 hX3;rcases AV with q1000_|q1000_
   ·unfold FR at hX3;dsimp only at hX3 h;obtain⟨rfl,n3_0⟩:=hX3
    obtain rfl:=Option.some.inj h
    simp (maxDischargeDepth:=9) only [↓AQ,AR,Aj,↓reduceIte,bk,bl,bm,bo,bp,br,bt,bw,bx,bO,b3,b4,b5,b6,b7,b8,b9,decide_eq_true e1,n3_0]<;>(repeat' apply A7)<;>first|rfl|exact⟨_,rfl⟩|exact⟨_,_,rfl⟩|simp [AP,AC]
   ·unfold FR at hX3;dsimp only at hX3 h
    obtain rfl:=hX3
    obtain rfl:=Option.some.inj h
    simp (maxDischargeDepth:=9) only [↓AQ,AR,Aj,↓reduceIte,bk,bl,bm,bo,bp,br,bt,bw,bx,bO,b3,b4,b5,b6,b7,b8,b9,decide_eq_true e1]<;>(repeat' apply A7)<;>first|rfl|exact⟨_,rfl⟩|exact⟨_,_,rfl⟩|simp [AP,AC]
 ·rw [if_neg e1]at h
  obtain rfl:=Option.some.inj h
  simp (maxDischargeDepth:=9) only [↓AQ,AR,Aj,↓reduceIte,bk,bl,bm,bo,bp,br,bt,bw,bx,bO,b3,b4,b5,b6,b7,b8,b9,e1]<;>(repeat' apply A7)<;>first|rfl|exact⟨_,rfl⟩|exact⟨_,_,rfl⟩|simp [AP,AC]
def I5(l:AX)(x_:AU)(MC:Int):Option ((Int)⊕(Unit⊕Unit)):= if MC<(l.length:Int)then ck (0≤MC∧MC.toNat<l.length)<| (Nt x_ (l.getD MC.toNat bj)).bind fun Sb=> if Sb=true then some (cc (cd ())) else some (cd (cb.wrap (MC+1))) else some (cc (cc ()))
def Mj(l:AX)(x_:AU)(v:Int):Option (Unit⊕Unit):=JZ (fun v=>I5 l x_ v) v
def Sz(l:AX)(x_:AU):Option (Bool):=
 (Mj l x_ 0).bind fun AV=>
 match AV with
 | .inl q1000_=>
  some true
 | .inr q1000_=>
  some false
def YO:SC:= .seq (.ops [oB 10 .lss 3 (tK 9) (tK 8) 3 0]) (.seq (.cond (tK 10) .skip (.exit 0)) (.seq (.block 1 (.seq (.ops [oI 11 22 7 9,oL 12 26 11 26,oA 6 12 26]) (.seq (.ops [oM 13 1 26,oM 14 6 26,oC 15 135 [(tK 13),(tK 14)] [26,26] 4]) (.cond (tK 15) (.seq (.ops [oX 4 (.assign H6) 4]) .ret) .skip)))) (.ops [oB 16 .add 3 (tK 9) (iK 1) 3 3,oM 9 16 3])))
def nH:SC:= .loop YO
def k85:SC:= .seq (.ops [oX 4 CX 4]) (.seq (.seq (.ops [oM 7 0 22,oN 8 7 22,oX 9 (.move (iK 0)) 3]) (.block 0 nH)) (.seq (.ops [oX 4 CX 4]) .ret))
theorem A1m:Try.f85.body.map (Bt lends)=some k85:=by kernel_rfl
theorem ADn:CW Try.f85 2=true:=by kernel_rfl
theorem c85{a l:List D}{r:D×List D}(h:CU Y.env k85 (Gq AZ l.length [ci 4] r) (entry a l))(ha:a.length=2):Y.call 85 a l=some r:=
 AY (Y:=Y) rfl Try.func85 (ha▸ADn) A1m h
def GQ(l:AX)(x_:AU)(MC:Int)(s:St):Prop:=s.v 1=ca 3 (AP (bh .i64) x_)∧s.v 7=ca 26 (AP CO l)∧s.v 8=bh .i64 (l.length:Int)∧s.v 9=bh .i64 MC
def GR(l:AX)(x_:AU)(r:Unit⊕Unit)(ex:Ex)(s:St):Prop:=match r with
 | .inl q=>ex= .ret∧s.v 4=cf true
 | .inr q=>ex= .exit 0
theorem WG(l:AX)(x_:AU){v:Int}{s:St}{r:Unit⊕Unit}(h:Mj l x_ v=some r)(hM:GQ l x_ v s):CU Y.env nH (GR l x_ r) s:=by
 unfold Mj at h;refine CF (c:=YO) (fun v=>I5 l x_ v) (fun v s=>GQ l x_ v s) (GR l x_) ?_ h hM;clear h hM s v r;intro MC s o hM h;unfold I5 at h;unfold GQ at hM;obtain⟨m0,m1,m2,m3⟩:=hM;unfold YO;by_cases e1:MC<(l.length:Int)
 ·rw [if_pos e1]at h;obtain⟨e2,h⟩:=Cb h;obtain⟨Sb,hl3,h⟩:=Ao h;try dsimp only at h
  have c3:=WF x_ (l.getD MC.toNat bj) hl3;by_cases e4:Sb=true
  ·rw [if_pos e4]at h
   obtain rfl:=Option.some.inj h
   simp (maxDischargeDepth:=9) only [↓AQ,AR,Aj,↓reduceIte,bk,bl,bm,bo,bp,br,bt,bw,bx,bO,b3,b4,b5,b6,b7,b8,b9,m0,m1,m2,m3,e1,e2.1,e2.2,c3,e4,GQ,GR,Cx,Cy,Cz]<;>(repeat' apply A7)<;>first|rfl|exact⟨_,rfl⟩|exact⟨_,_,rfl⟩|simp [AP,AC]
  ·rw [if_neg e4]at h;have e4f:Sb=false:=Iw.mpr e4
   obtain rfl:=Option.some.inj h
   simp (maxDischargeDepth:=9) only [↓AQ,AR,Aj,↓reduceIte,bk,bl,bm,bo,bp,br,bt,bw,bx,bO,b3,b4,b5,b6,b7,b8,b9,m0,m1,m2,m3,e1,e2.1,e2.2,c3,e4f,GQ,GR,Cx,Cy,Cz]<;>(repeat' apply A7)<;>first|rfl|exact⟨_,rfl⟩|exact⟨_,_,rfl⟩|simp [AP,AC]
 ·rw [if_neg e1]at h
  obtain rfl:=Option.some.inj h
  simp (maxDischargeDepth:=9) only [↓AQ,AR,Aj,↓reduceIte,bk,bl,bm,bo,bp,br,bt,bw,bx,bO,b3,b4,b5,b6,b7,b8,b9,m0,m1,m2,m3,e1,GQ,GR,Cx,Cy,Cz]<;>(repeat' apply A7)<;>first|rfl|exact⟨_,rfl⟩|exact⟨_,_,rfl⟩|simp [AP,AC]
theorem YP(l:AX)(x_:AU){r:Bool}(h:Sz l x_=some r):Y.call 85 [ca 26 (AP CO l),ca 3 (AP (bh .i64) x_)] []=some (cf r,[]):=by
 refine c85 ?_ rfl;unfold k85;unfold Sz at h;obtain⟨AV,hl2,h⟩:=Ao h;try dsimp only at h
 simp (maxDischargeDepth:=9) only [↓AQ,AR,Aj,↓reduceIte,bk,bl,bm,bo,bp,br,bt,bw,bx,bO,b3,b4,b5,b6,b7,b8,b9];refine Bc (WG l x_ hl2 ?_) ?_
 ·simp (maxDischargeDepth:=9) only [↓AQ,AR,Aj,↓reduceIte,bk,bl,bm,bo,bp,br,bt,bw,bx,bO,b3,b4,b5,b6,b7,b8,b9,GQ]<;>(repeat' apply A7)<;>first|rfl|exact⟨_,rfl⟩|exact⟨_,_,rfl⟩|simp [AP,AC]
 ·intro ex2 s2 hX2;rcases AV with q1000_|q1000_
  ·unfold GR at hX2;dsimp only at hX2 h;obtain⟨rfl,n2_0⟩:=hX2
   obtain rfl:=Option.some.inj h
   simp (maxDischargeDepth:=9) only [↓AQ,AR,Aj,↓reduceIte,bk,bl,bm,bo,bp,br,bt,bw,bx,bO,b3,b4,b5,b6,b7,b8,b9,n2_0]<;>(repeat' apply A7)<;>first|rfl|exact⟨_,rfl⟩|exact⟨_,_,rfl⟩|simp [AP,AC]
  ·unfold GR at hX2;dsimp only at hX2 h
   obtain rfl:=hX2
   obtain rfl:=Option.some.inj h
   simp (maxDischargeDepth:=9) only [↓AQ,AR,Aj,↓reduceIte,bk,bl,bm,bo,bp,br,bt,bw,bx,bO,b3,b4,b5,b6,b7,b8,b9]<;>(repeat' apply A7)<;>first|rfl|exact⟨_,rfl⟩|exact⟨_,_,rfl⟩|simp [AP,AC]
theorem jY(a b:AU)(ha:a.length<1099511627776):Nt a b=some (decide (a=b)):=by
 unfold Nt LV;by_cases hl:a.length=b.length
 ·rw [if_pos (by omega)]
  have key:=Jm (fun v=>Gu a b v) (fun i=>(i:Int)) a.length (fun i=>decide (a.getD i bj=b.getD i bj)) (.inl ()) (.inr ()) ?_ ?_
  ·simp only [Ie]at key;rw [key,UR a b hl];by_cases he:a=b<;>simp [he]
  ·intro i hi;simp only [Gu];rw [if_pos (EP hi),Ce (Ea hi),Ce (Ea (by omega)),ML,Md i (by omega)]<;>simp only [decide_eq_true_eq]
  ·simp only [Gu];rw [if_neg (Bj _)]
 ·rw [if_neg (by omega)]
  have: ¬a=b:=fun e=>hl (by rw [e])
  simp [this]
theorem eF(l:AX)(x:AU)(hl:l.length<1099511627776)(hx:x.length<1099511627776):Sz l x=some (l.contains x):=by
 unfold Sz Mj;have key:=Jm (fun v=>I5 l x v) (fun i=>(i:Int)) l.length (fun i=> !decide (x=l.getD i bj)) (.inl ()) (.inr ()) ?_ ?_
 ·simp only [Ie]at key;rw [key,Dh];rw [UQ (fun y=> !decide (x=y)) l];by_cases hm:x∈l
  ·have:l.all (fun y=> !decide (x=y))=false:=by
    rw [Iw];intro hc;have:=Hr.1 hc x hm
    simp at this
   rw [this,if_neg (by decide)]
   simp [hm]
  ·have:l.all (fun y=> !decide (x=y))=true:=by
    refine Hr.2 fun y hy=> ?_;have: ¬x=y:=fun e=>hm (e▸hy)
    simp [this]
   rw [this,if_pos rfl];simp [hm]
 ·intro i hi;simp only [I5];rw [if_pos (EP hi),Ce (Ea hi),ML,jY _ _ hx,Dh,Md i (by omega)]
  by_cases e:x=l.getD i bj<;>simp [e]
 ·simp only [I5];rw [if_neg (Bj _)]
theorem eG(l:AX)(x_:AU)(h0:l.length<1099511627776)(h1:x_.length<1099511627776):Y.call 85 [ca 26 (AP CO l),ca 3 (AP (bh .i64) x_)] []=some (cf (l.contains x_),[]):=YP l x_ (eF l x_ h0 h1)
theorem Rt(n:Int)(h:0≤n∧n<18446744073709551616):cq.wrap n=n:=by
 unfold IntKind.wrap;simp only [IntKind.signed,IntKind.bits]
 simp
 omega
theorem A8b(y:Int)(h:0≤y∧y<1099511627776):H7 .and .u64 y 4294967295=y % 4294967296:=by
 obtain⟨n,rfl⟩:=jo h.1;have hn:n<1099511627776:=by omega
 show cq.wrap (((BitVec.ofInt 64 (n:Int) &&& BitVec.ofInt 64 4294967295).toNat:Nat):Int)=_
 have e1:(BitVec.ofInt 64 (n:Int)).toNat=n:=by
  rw [BitVec.toNat_ofInt];omega
 have e2:(BitVec.ofInt 64 4294967295).toNat=4294967295:=by decide
 rw [BitVec.toNat_and,e1,e2];have e3:n &&& 4294967295=n % 4294967296:=Nat.and_two_pow_sub_one_eq_mod n 32;rw [e3,Rt _ (by omega)]
 rfl
def H9(x_:Int)(y:Int):Option (Int×Int):= some (cq.wrap ((cq.wrap ((cq.wrap ((x_.fdiv (2 ^ (min 32 (cq.bits))))*(y.fdiv (2 ^ (min 32 (cq.bits))))))+((cq.wrap ((cq.wrap ((x_.fdiv (2 ^ (min 32 (cq.bits))))*(H7 .and .u64 y 4294967295)))+((cq.wrap ((H7 .and .u64 x_ 4294967295)*(H7 .and .u64 y 4294967295))).fdiv (2 ^ (min 32 (cq.bits)))))).fdiv (2 ^ (min 32 (cq.bits))))))+((cq.wrap ((H7 .and .u64 (cq.wrap ((cq.wrap ((x_.fdiv (2 ^ (min 32 (cq.bits))))*(H7 .and .u64 y 4294967295)))+((cq.wrap ((H7 .and .u64 x_ 4294967295)*(H7 .and .u64 y 4294967295))).fdiv (2 ^ (min 32 (cq.bits)))))) 4294967295)+(cq.wrap ((H7 .and .u64 x_ 4294967295)*(y.fdiv (2 ^ (min 32 (cq.bits)))))))).fdiv (2 ^ (min 32 (cq.bits))))),cq.wrap (x_*y))
def A1n:SC:= .seq (.ops [oX 4 (.assign (.const (.int .u64 0))) 154,oX 5 (.assign (.const (.int .u64 0))) 154]) (.seq (.ops [oM 14 0 154,oB 15 .and 154 (tK 14) (.const (.int .u64 4294967295)) 154 154,oA 6 15 154]) (.seq (.ops [oM 16 0 154,oB 17 .shr 154 (tK 16) (.const (.int .u64 32)) 110 154,oA 7 17 154]) (.seq (.ops [oM 18 1 154,oB 19 .and 154 (tK 18) (.const (.int .u64 4294967295)) 154 154,oA 8 19 154]) (.seq (.ops [oM 20 1 154,oB 21 .shr 154 (tK 20) (.const (.int .u64 32)) 110 154,oA 9 21 154]) (.seq (.ops [oM 22 6 154,oM 23 8 154,oB 24 .mul 154 (tK 22) (tK 23) 154 154,oA 10 24 154]) (.seq (.ops [oM 25 7 154,oM 26 8 154,oB 27 .mul 154 (tK 25) (tK 26) 154 154,oM 28 10 154,oB 29 .shr 154 (tK 28) (.const (.int .u64 32)) 110 154,oB 30 .add 154 (tK 27) (tK 29) 154 154,oA 11 30 154]) (.seq (.ops [oM 31 11 154,oB 32 .and 154 (tK 31) (.const (.int .u64 4294967295)) 154 154,oA 12 32 154]) (.seq (.ops [oM 33 11 154,oB 34 .shr 154 (tK 33) (.const (.int .u64 32)) 110 154,oA 13 34 154]) (.seq (.ops [oM 35 12 154,oM 36 6 154,oM 37 9 154,oB 38 .mul 154 (tK 36) (tK 37) 154 154,oB 39 .add 154 (tK 35) (tK 38) 154 154,oA 12 39 154]) (.seq (.ops [oM 40 7 154,oM 41 9 154,
 oB 42 .mul 154 (tK 40) (tK 41) 154 154,oM 43 13 154,oB 44 .add 154 (tK 42) (tK 43) 154 154,oM 45 12 154,oB 46 .shr 154 (tK 45) (.const (.int .u64 32)) 110 154,oB 47 .add 154 (tK 44) (tK 46) 154 154,oA 4 47 154]) (.seq (.ops [oM 48 0 154,oM 49 1 154,oB 50 .mul 154 (tK 48) (tK 49) 154 154,oA 5 50 154]) .ret)))))))))))
theorem qx:Try.f148.body.map (Bt lends)=some A1n:=by kernel_rfl
theorem A8c:CW Try.f148 2=true:=by kernel_rfl
theorem ADo{a l:List D}{r:D×List D}(h:CU Y.env A1n (Gq AZ l.length [ci 4,ci 5] r) (entry a l))(ha:a.length=2):Y.call 148 a l=some r:=
 AY (Y:=Y) rfl Try.func148 (ha▸A8c) qx h
theorem Mk(x_:Int)(y:Int){r:Int×Int}(h:H9 x_ y=some r):Y.call 148 [bh .u64 x_,bh .u64 y] []=some (D.tup [bh .u64 r.1,bh .u64 r.2],[]):=by
 refine ADo ?_ rfl;unfold A1n;unfold H9 at h
 obtain rfl:=Option.some.inj h
 simp (maxDischargeDepth:=9) only [↓AQ,AR,Aj,↓reduceIte,bk,bl,bm,bo,bp,br,bt,bw,bx,bO,b3,b4,b5,b6,b7,b8,b9]<;>(repeat' apply A7)<;>first|rfl|exact⟨_,rfl⟩|exact⟨_,_,rfl⟩|simp [AP,AC]
def Gg(x_:Int)(y:Int):Option (Int×Int):= (H9 x_ y).bind fun Im=> some (Im.1,Im.2)
def A1o:SC:= .seq (.ops [oX 4 (.assign (.const (.int .u64 0))) 110,oX 5 (.assign (.const (.int .u64 0))) 110]) (.seq (.cond OZ (.seq (.ops [oM 11 0 110,oX 12 (.convert 110 151 (tK 11)) 151,oM 13 1 110,oX 14 (.convert 110 151 (tK 13)) 151,oC 15 147 [(tK 12),(tK 14)] [151,151] 152,oM 10 15 152,oE 16 10 0 151,oE 17 10 1 151,oA 6 16 151,oA 7 17 151]) (.seq (.ops [oM 18 6 151,oX 19 (.convert 151 110 (tK 18)) 110,oM 20 7 151,oX 21 (.convert 151 110 (tK 20)) 110,oA 4 19 110,oA 5 21 110]) .ret)) .skip) (.seq (.ops [oM 23 0 110,oM 24 1 110,oC 25 148 [(tK 23),(tK 24)] [154,154] 155,oM 22 25 155,oE 26 22 0 154,oE 27 22 1 154,oA 8 26 154,oA 9 27 154]) (.seq (.ops [oM 28 8 154,oM 29 9 154,oA 4 28 110,oA 5 29 110]) .ret)))
theorem qy:Try.f101.body.map (Bt lends)=some A1o:=by kernel_rfl
theorem A8d:CW Try.f101 2=true:=by kernel_rfl
theorem ADp{a l:List D}{r:D×List D}(h:CU Y.env A1o (Gq AZ l.length [ci 4,ci 5] r) (entry a l))(ha:a.length=2):Y.call 101 a l=some r:=
 AY (Y:=Y) rfl Try.func101 (ha▸A8d) qy h
theorem Nu(x_:Int)(y:Int){r:Int×Int}(h:Gg x_ y=some r):Y.call 101 [bh .u64 x_,bh .u64 y] []=some (D.tup [bh .u64 r.1,bh .u64 r.2],[]):=by
 refine ADp ?_ rfl;unfold A1o;unfold Gg at h;obtain⟨Im,hl1,h⟩:=Ao h;try dsimp only at h
 have c1:=Mk x_ y hl1
 obtain rfl:=Option.some.inj h
 simp (maxDischargeDepth:=9) only [↓AQ,AR,Aj,↓reduceIte,bk,bl,bm,bo,bp,br,bt,bw,bx,bO,b3,b4,b5,b6,b7,b8,b9,c1]<;>(repeat' apply A7)<;>first|rfl|exact⟨_,rfl⟩|exact⟨_,_,rfl⟩|simp [AP,AC]
theorem mul_one(n:Int)(h:0≤n∧n<1099511627776):Gg 1 n=some (0,n):=by
 unfold Gg H9;have e32:(2:Int) ^ (min 32 (cq.bits))=4294967296:=rfl;have a1:Int.fdiv 1 4294967296=0:=by decide
 have a2:H7 .and .u64 1 4294967295=1:=by decide
 have a3:Int.fdiv n 4294967296=n / 4294967296:=jk _ (by decide)
 have w0:cq.wrap 0=0:=by decide
 have a4:Int.fdiv 0 4294967296=0:=by decide
 have a5:H7 .and .u64 0 4294967295=0:=by decide
 have a6:cq.wrap (n % 4294967296)=n % 4294967296:=Rt _ (by omega)
 have a7:Int.fdiv (n % 4294967296) 4294967296=0:=by rw [jk _ (by decide)];omega
 have a8:cq.wrap (n / 4294967296)=n / 4294967296:=Rt _ (by omega)
 have a9:Int.fdiv (n / 4294967296) 4294967296=0:=by rw [jk _ (by decide)];omega
 have aA:cq.wrap n=n:=Rt _ (by omega)
 simp only [e32,a1,a2,A8b n h,a3,Int.zero_mul,Int.one_mul,w0,Dh,Int.zero_add,a4,a5,a6,a7,a8,a9,aA]
abbrev LI:=AU
def Ay(newslice:AX)(n_:Int):Option ((AX×Int)⊕(AX)):= if n_<(newslice.length:Int)then ck (0≤n_)<| ck (n_.toNat≤newslice.length)<| ck (n_.toNat+(newslice.length-n_.toNat)≤newslice.length)<| ck (0+(n_.toNat-0)≤newslice.length)<| some (cd ((qK newslice n_.toNat (((newslice.drop 0).take (n_.toNat-0)).take (min (newslice.length-n_.toNat) ((newslice.drop 0).take (n_.toNat-0)).length))),cb.wrap (n_+(((min (newslice.length-n_.toNat) ((newslice.drop 0).take (n_.toNat-0)).length):Nat):Int)))) else some (cc newslice)
def CJ(v:AX×Int):Option (AX):=JZ (fun v=>Ay v.1 v.2) v
def CB(x_:AX)(count:Int):Option (AX):= if count<0 then none else (Gg (cq.wrap (x_.length:Int)) (cq.wrap count)).bind fun WH=> if 0<WH.1 then none else if 9223372036854775807<WH.2 then none else ck (0≤cb.wrap WH.2∧cb.wrap WH.2<1099511627776)<| (CJ ((qK (ao (cb.wrap WH.2).toNat ([]:AU)) 0 (x_.take (min ((ao (cb.wrap WH.2).toNat ([]:AU)).length) x_.length))),(((min ((ao (cb.wrap WH.2).toNat ([]:AU)).length) x_.length):Nat):Int))).bind fun AV=> some AV
abbrev WI:List Nat:=[38,39,40,41,42,43,44,45,41,44,7,7,46,8,46]
def YQ:SC:= .seq (.seq (.ops [oM 34 8 3,oM 35 7 22,oN 36 35 22,oB 37 .lss 3 (tK 34) (tK 36) 3 4]) (.cond (tK 37) .skip (.exit 0))) (.block 1 (.draws [(⟨[38,8,8],WI,[38]⟩,oM 38 8 3),(⟨[39,7,7],WI,[39]⟩,oM 39 7 22),(⟨[40,8,8],WI,[40]⟩,oM 40 8 3),(⟨[41,39,40,7,8],WI,[41]⟩,oX 41 (.slice 22 (tK 39) (some (tK 40)) none none) 22),(⟨[42,7,7],WI,[42]⟩,oM 42 7 22),(⟨[43,8,8],WI,[43]⟩,oM 43 8 3),(⟨[44,42,43,7,8],WI,[44]⟩,oX 44 (.slice 22 (tK 42) none (some (tK 43)) none) 22),(⟨[45,41,44,7,7],WI,[45,41,44,7,7]⟩,oX 45 (.call ⟨(.builtin .copy), #[(tK 41),(tK 44)], #[22,22]⟩) 3),(⟨[46,38,45,8,45],WI,[46]⟩,oB 46 .add 3 (tK 38) (tK 45) 3 3),(⟨[8,46,46],WI,[8,46]⟩,oA 8 46 3)]))
def nI:SC:= .loop YQ
def k56:SC:= .seq (.ops [oX 4 Iy 22]) (.seq (.seq (.ops [oM 9 1 3,oB 10 .lss 3 (tK 9) (iK 0) 3 4]) (.cond (tK 10) (.ops [oX 11 (.makeInterface 9 (.const (.string {data:= #[99,97,110,110,111,116,32,98,101,32,110,101,103,97,116,105,118,101]}))) 20,⟨none,(.panic (tK 11)),0,none⟩]) .skip)) (.seq (.ops [oM 13 0 22,oN 14 13 22,oX 15 (.convert 3 110 (tK 14)) 110,oM 16 1 3,oX 17 (.convert 3 110 (tK 16)) 110,oC 18 101 [(tK 15),(tK 17)] [110,110] 116,oM 12 18 116,oE 19 12 0 110,oE 20 12 1 110,oA 5 19 110,oA 6 20 110]) (.seq (.seq (.ops [oM 21 5 110,oB 22 .gtr 110 (tK 21) (.const (.int .u64 0)) 110 4,oM 23 22 4,⟨(some 24),(.move (tK 6)),110,(some (some 23,false))⟩,⟨(some 25),(.binOp .gtr 110 (tK 24) (.const (.int .u64 9223372036854775807)) 110),4,(some (some 23,false))⟩,oX 26 (.pick (tK 23) H6 (tK 25)) 4]) (.cond (tK 26) (.ops [oX 27 (.makeInterface 9 (.const (.string {data:= #[116,104,101,32,114,101,115,117,108,116,32,111,102,32,40,108,101,110,40,120,41,32,42,32,99,111,117,110,116,41,32,111,118,101,114,102,108,111,119,115]}))) 20,⟨none,(.panic (tK 27)),0,none⟩]) .skip)) (.seq (.ops [oM 28 6 110,oX 29 (.convert 110 3 (tK 28)) 3,oX 30 (.makeSlice 22 (tK 29) (tK 29)) 900012,
 oA 7 30 22]) (.seq (.ops [oM 31 7 22,oM 32 0 22,oX 33 (.call ⟨(.builtin .copy), #[(tK 31),(tK 32)], #[22,22]⟩) 3,oA 8 33 3]) (.seq (.block 0 nI) (.seq (.ops [oM 47 7 22,oA 4 47 22]) .ret)))))))
theorem A1p:Try.f56.body.map (Bt lends)=some k56:=by kernel_rfl
theorem ADr:CW Try.f56 2=true:=by kernel_rfl
theorem c56{a l:List D}{r:D×List D}(h:CU Y.env k56 (Gq AZ l.length [ci 4] r) (entry a l))(ha:a.length=2):Y.call 56 a l=some r:=
 AY (Y:=Y) rfl Try.func56 (ha▸ADr) A1p h
def Bf(newslice:AX)(n_:Int)(s:St):Prop:=s.v 7=D.own 26 (AP CO newslice)∧s.v 8=bh .i64 n_
def Bu(r:AX)(ex:Ex)(s:St):Prop:=ex= .exit 0∧s.v 7=D.own 26 (AP CO r)
theorem JI{v:AX×Int}{s:St}{r:AX}(h:CJ v=some r)(hM:Bf v.1 v.2 s):CU Y.env nI (Bu r) s:=by
 unfold CJ at h;refine CF (c:=YQ) (fun v=>Ay v.1 v.2) (fun v s=>Bf v.1 v.2 s) (Bu) ?_ h hM;clear h hM s v r;intro v s o hM h;obtain⟨newslice,n_⟩:=v;dsimp only at h hM;unfold Ay at h;unfold Bf at hM;obtain⟨m0,m1⟩:=hM;unfold YQ;by_cases e6:n_<(newslice.length:Int)
 ·rw [if_pos e6]at h;obtain⟨e7,h⟩:=Cb h;obtain⟨e8,h⟩:=Cb h;obtain⟨e9,h⟩:=Cb h;obtain⟨e10,h⟩:=Cb h
  obtain rfl:=Option.some.inj h
  simp (maxDischargeDepth:=9) only [↓AQ,AR,Aj,↓reduceIte,bk,bl,bm,bo,bp,br,bt,bw,bx,bO,b3,b4,b5,b6,b7,b8,b9,m0,m1,e6,e7,e8,e9,e10,Bf,Bu,Cx,Cy,Cz]<;>(repeat' apply A7)<;>first|rfl|exact⟨_,rfl⟩|exact⟨_,_,rfl⟩|simp [AP,AC]
 ·rw [if_neg e6]at h
  obtain rfl:=Option.some.inj h
  simp (maxDischargeDepth:=9) only [↓AQ,AR,Aj,↓reduceIte,bk,bl,bm,bo,bp,br,bt,bw,bx,bO,b3,b4,b5,b6,b7,b8,b9,m0,m1,e6,Bf,Bu,Cx,Cy,Cz]<;>(repeat' apply A7)<;>first|rfl|exact⟨_,rfl⟩|exact⟨_,_,rfl⟩|simp [AP,AC]
theorem Df(x_:AX)(count:Int){r:AX}(h:CB x_ count=some r):Y.call 56 [ca 26 (AP CO x_),bh .i64 count] []=some (D.own 26 (AP CO r),[]):=by
 refine c56 ?_ rfl;unfold k56;unfold CB at h;by_cases e1:count<0
 ·rw [if_pos e1]at h;cases h
 ·rw [if_neg e1]at h;obtain⟨WH,hl2,h⟩:=Ao h;try dsimp only at h
  have c2:=Nu (cq.wrap (x_.length:Int)) (cq.wrap count) hl2;by_cases e3:0<WH.1
  ·rw [if_pos e3]at h;cases h
  ·rw [if_neg e3]at h;by_cases e4:9223372036854775807<WH.2
   ·rw [if_pos e4]at h;cases h
   ·rw [if_neg e4]at h;obtain⟨e5,h⟩:=Cb h;obtain⟨AV,hl7,h⟩:=Ao h;try dsimp only at h
    simp (maxDischargeDepth:=9) only [↓AQ,AR,Aj,↓reduceIte,bk,bl,bm,bo,bp,br,bt,bw,bx,bO,b3,b4,b5,b6,b7,b8,b9,e1,c2,e3,e4,e5.1,e5.2];refine Bc (JI hl7 ?_) ?_
    ·simp (maxDischargeDepth:=9) only [↓AQ,AR,Aj,↓reduceIte,bk,bl,bm,bo,bp,br,bt,bw,bx,bO,b3,b4,b5,b6,b7,b8,b9,e1,c2,e3,e4,e5.1,e5.2,Bf]<;>(repeat' apply A7)<;>first|rfl|exact⟨_,rfl⟩|exact⟨_,_,rfl⟩|simp [AP,AC]
    ·intro ex7 s7 hX7;unfold Bu at hX7;obtain⟨rfl,n7_0⟩:=hX7
     obtain rfl:=Option.some.inj h
     simp (maxDischargeDepth:=9) only [↓AQ,AR,Aj,↓reduceIte,bk,bl,bm,bo,bp,br,bt,bw,bx,bO,b3,b4,b5,b6,b7,b8,b9,e1,c2,e3,e4,e5.1,e5.2,n7_0]<;>(repeat' apply A7)<;>first|rfl|exact⟨_,rfl⟩|exact⟨_,_,rfl⟩|simp [AP,AC]
theorem X9(x:LI)(N:Nat)(hN:N<1099511627776)(l:List LI)(k:Nat)(hl:l.length=N)(hk:k≤N)(h1:0<k∨N=0)(he:l.take k=ao k x):CJ (l,(k:Int))=some (ao N x):=by
 have step: ∀(m:Nat) (v:List LI×Int),(∃k:Nat,v.2=(k:Int)∧m=N-k∧v.1.length=N∧k≤N∧(0<k∨N=0)∧v.1.take k=ao k x)→
   (∃s' m',Ay v.1 v.2=some (.inl s')∧m'<m∧ ∃k:Nat,s'.2=(k:Int)∧m'=N-k∧s'.1.length=N∧k≤N∧(0<k∨N=0)∧s'.1.take k=ao k x)∨(∃r,Ay v.1 v.2=some (.inr r)∧r=ao N x):=by
  rintro m ⟨l,kk⟩ ⟨k,hkk,rfl,hl,hk,h1,he⟩
  simp only at hl he hkk;subst hkk;by_cases hlt:k<N
  ·left
   have hk0:0<k:=by omega
   have e0:((l.drop 0).take (k-0))=ao k x:=by rw [XH,Nat.sub_zero,he]
   refine⟨_,N-(k+min (N-k) k),by
    simp only [Ay]
    rw [hl,if_pos (by omega),Ce (by omega),ML,Ce (by omega),Ce (by omega),Ce (by omega),e0,PS],by omega,k+min (N-k) k, ?_,rfl, ?_,by omega,by omega, ?_⟩
   ·rw [JA _ (by omega)];omega
   ·simp only;rw [dV _ _ _ (by simp;omega)];simp;omega
   ·simp only;rw [dV _ _ _ (by simp;omega),List.take_replicate,he,PS,←QY,show min (min (N-k) k) k=min (N-k) k by omega,List.replicate_append_replicate,List.take_append_of_le_length (by simp),List.take_of_length_le (by simp)]
  ·right
   have hkN:k=N:=by omega
   subst hkN
   refine⟨l, ?_, ?_⟩
   ·simp only [Ay];rw [if_neg (by omega)]
   ·rw [←he,List.take_of_length_le (by omega)]
 obtain⟨r,h2,h3⟩:=Q8 (fun v=>Ay v.1 v.2) (fun m v=> ∃k:Nat,v.2=(k:Int)∧m=N-k∧v.1.length=N∧k≤N∧(0<k∨N=0)∧v.1.take k=ao k x) (fun r=>r=ao N x) step (N-k) (l,(k:Int)) ⟨k,rfl,rfl,hl,hk,h1,he⟩;unfold CJ;rw [h2,h3]
theorem aT(x:LI)(n:Int)(h:0≤n∧n<1099511627776):CB [x] n=some (ao n.toNat x):=by
 unfold CB;have e1:cq.wrap (([x]:List LI).length:Int)=1:=by rw [Rt _ (by simp)];rfl
 rw [if_neg (by omega),e1,Rt n (by omega),mul_one n h,Dh]
 simp only;rw [if_neg (by decide),if_neg (by omega),JA n (by omega),Ce (by omega),PS]
 rcases Nat.eq_zero_or_pos n.toNat with h0|h0
 ·rw [h0];rw [show min 0 ([x]:List LI).length=0 by simp]
  have:=X9 x 0 (by decide) [] 0 rfl (Hq _) (.inr rfl) rfl
  simp only [List.replicate_zero,List.take_zero,qK,Ie]at this ⊢;rw [this];rfl
 ·have e2:min n.toNat ([x]:List LI).length=1:=by simp;omega
  rw [e2]
  have e3:qK (ao n.toNat ([]:LI)) 0 ([x].take 1)=x::ao (n.toNat-1) ([]:LI):=by
   rw [dV _ _ _ (by simp;omega)];simp
  rw [e3,X9 x n.toNat (by omega) _ 1 (by simp;omega) (by omega) (.inl (by omega)) (by simp)]
  rfl
theorem eH{a d:Int}{ns es:AX}(h:Il a d ns es=true):(1≤a∧a≤8)∧(1≤d∧d≤4)∧IB ns d a=true∧IB es 2 a=true:=by
 simp only [Il,Gl]at h
 exact⟨LP.1 h.1.1.1,LP.1 h.1.1.2,h.1.2,h.2⟩
theorem aU{l:AX}{s n:Int}(h:IB l s n=true){x:AU}(hx:x∈l):(x.length:Int)=s∧Ep x=true∧Ir x 0 (n-1)=true:=by
 obtain⟨i,hi,rfl⟩:=Uu.1 hx;have:=Dl.1 h i hi
 unfold Le at this;simp only [Gl,decide_eq_true_eq]at this
 exact⟨this.1.1.1,this.1.1.2,this.1.2⟩
theorem YR: ∀ {l:AU},Ep l=true→l.Pairwise (fun a b=>a≤b):=by
 intro l
 induction l with
 |nil=>intro _;exact List.Pairwise.nil
 |cons x l ih=>
  intro h;have h0:=Dl.1 h
  have ht:Ep l=true:=by
   refine Dl.2 fun i hi=> ?_;have:=h0 (i+1) (by simp only [KZ];omega)
   simpa using this
  have hp:=ih ht;refine cr.2 ⟨fun y hy=> ?_,hp⟩
  cases l with
  |nil=>cases hy
  |cons z l=>
   have hz:x≤z:=by
    have:=h0 0 (by simp)
    simpa using this
   rcases PV.1 hy with rfl|hy
   ·exact hz
   ·have:=(cr.1 hp).1 y hy;omega
def Nw(es:AX)(a b:Int):Bool:=es.contains (if b<a then [b,a]else [a,b])
def JJ(AA:Int)(AB:Int)(AJ:AX)(AL:AX)(a:Int)(b:Int):Option (Bool):= ck (BR AL)<| ck ([a,b].length<1099511627776)<| ck (PO AL=true)<| some (AL.contains (KM [a,b]))
def A1q:SC:= .seq (.ops [oX 3 (.box 29 (tK 0)) 0,oX 6 CX 4]) (.seq (.ops [oF 7 29 3 3,oL 8 22 7 22,oM 9 1 3,oM 10 2 3,oX 11 (.buildSlice 26 2 #[(0,(tK 9)),(1,(tK 10))]) 26,oC 12 137 [(tK 8),(tK 11)] [22,26] 4,oA 6 12 4]) .ret)
theorem qz:Try.f172.body.map (Bt lends)=some A1q:=by kernel_rfl
theorem A8e:CW Try.f172 3=true:=by kernel_rfl
theorem ADs{a l:List D}{r:D×List D}(h:CU Y.env A1q (Gq AZ l.length [ci 6] r) (entry a l))(ha:a.length=3):Y.call 172 a l=some r:=
 AY (Y:=Y) rfl Try.func172 (ha▸A8e) qz h
theorem Ob(AA:Int)(AB:Int)(AJ:AX)(AL:AX)(a:Int)(b:Int){r:Bool}(h:JJ AA AB AJ AL a b=some r):Y.call 172 [D.agg [bh .i64 AA,bh .i64 AB,ca 26 (AP CO AJ),ca 26 (AP CO AL)],bh .i64 a,bh .i64 b] []=some (cf r,[]):=by
 refine ADs ?_ rfl;unfold A1q;unfold JJ at h;obtain⟨e1,h⟩:=Cb h;obtain⟨e2,h⟩:=Cb h;obtain⟨e3,h⟩:=Cb h;have c4:=Jb AL [a,b] e1 e2 e3;simp only [DT,JC,Ff,Ia,La,L9,Je]at c4
 obtain rfl:=Option.some.inj h
 simp (maxDischargeDepth:=9) only [↓AQ,AR,Aj,↓reduceIte,bk,bl,bm,bo,bp,br,bt,bw,bx,bO,b3,b4,b5,b6,b7,b8,b9,e1,e2,e3,c4]<;>(repeat' apply A7)<;>first|rfl|exact⟨_,rfl⟩|exact⟨_,_,rfl⟩|simp [AP,AC]
def OU(a:Int)(b:Int):Option (Int):= if a<b then some a else some b
def A1r:SC:= .seq (.ops [oX 4 (.assign (iK 0)) 3]) (.seq (.seq (.ops [oM 5 0 3,oM 6 1 3,oB 7 .lss 3 (tK 5) (tK 6) 3 4]) (.cond (tK 7) (.seq (.ops [oM 8 0 3,oA 4 8 3]) .ret) .skip)) (.seq (.ops [oM 9 1 3,oA 4 9 3]) .ret))
theorem rA:Try.f190.body.map (Bt lends)=some A1r:=by kernel_rfl
theorem A8f:CW Try.f190 2=true:=by kernel_rfl
theorem ADt{a l:List D}{r:D×List D}(h:CU Y.env A1r (Gq AZ l.length [ci 4] r) (entry a l))(ha:a.length=2):Y.call 190 a l=some r:=
 AY (Y:=Y) rfl Try.func190 (ha▸A8f) rA h
theorem Uy(a:Int)(b:Int){r:Int}(h:OU a b=some r):Y.call 190 [bh .i64 a,bh .i64 b] []=some (bh .i64 r,[]):=by
 refine ADt ?_ rfl;unfold A1r;unfold OU at h;by_cases e1:a<b
 ·rw [if_pos e1]at h
  obtain rfl:=Option.some.inj h
  simp (maxDischargeDepth:=9) only [↓AQ,AR,Aj,↓reduceIte,bk,bl,bm,bo,bp,br,bt,bw,bx,bO,b3,b4,b5,b6,b7,b8,b9,e1]<;>(repeat' apply A7)<;>first|rfl|exact⟨_,rfl⟩|exact⟨_,_,rfl⟩|simp [AP,AC]
 ·rw [if_neg e1]at h
  obtain rfl:=Option.some.inj h
  simp (maxDischargeDepth:=9) only [↓AQ,AR,Aj,↓reduceIte,bk,bl,bm,bo,bp,br,bt,bw,bx,bO,b3,b4,b5,b6,b7,b8,b9,e1]<;>(repeat' apply A7)<;>first|rfl|exact⟨_,rfl⟩|exact⟨_,_,rfl⟩|simp [AP,AC]
def QN(a:Int)(b:Int):Option (Int):= if b<a then some a else some b
def A1s:SC:= .seq (.ops [oX 4 (.assign (iK 0)) 3]) (.seq (.seq (.ops [oM 5 0 3,oM 6 1 3,oB 7 .gtr 3 (tK 5) (tK 6) 3 4]) (.cond (tK 7) (.seq (.ops [oM 8 0 3,oA 4 8 3]) .ret) .skip)) (.seq (.ops [oM 9 1 3,oA 4 9 3]) .ret))
theorem rC:Try.f176.body.map (Bt lends)=some A1s:=by kernel_rfl
theorem A8g:CW Try.f176 2=true:=by kernel_rfl
theorem ADu{a l:List D}{r:D×List D}(h:CU Y.env A1s (Gq AZ l.length [ci 4] r) (entry a l))(ha:a.length=2):Y.call 176 a l=some r:=
 AY (Y:=Y) rfl Try.func176 (ha▸A8g) rC h
theorem WJ(a:Int)(b:Int){r:Int}(h:QN a b=some r):Y.call 176 [bh .i64 a,bh .i64 b] []=some (bh .i64 r,[]):=by
 refine ADu ?_ rfl;unfold A1s;unfold QN at h;by_cases e1:b<a
 ·rw [if_pos e1]at h
  obtain rfl:=Option.some.inj h
  simp (maxDischargeDepth:=9) only [↓AQ,AR,Aj,↓reduceIte,bk,bl,bm,bo,bp,br,bt,bw,bx,bO,b3,b4,b5,b6,b7,b8,b9,e1]<;>(repeat' apply A7)<;>first|rfl|exact⟨_,rfl⟩|exact⟨_,_,rfl⟩|simp [AP,AC]
 ·rw [if_neg e1]at h
  obtain rfl:=Option.some.inj h
  simp (maxDischargeDepth:=9) only [↓AQ,AR,Aj,↓reduceIte,bk,bl,bm,bo,bp,br,bt,bw,bx,bO,b3,b4,b5,b6,b7,b8,b9,e1]<;>(repeat' apply A7)<;>first|rfl|exact⟨_,rfl⟩|exact⟨_,_,rfl⟩|simp [AP,AC]
def QO(AA:Int)(AB:Int)(AJ:AX)(AL:AX)(a:Int)(b:Int):Option (Bool):= (OU a b).bind fun rD=> (QN a b).bind fun Uz=> ck (AL.length<1099511627776)<| ck ([rD,Uz].length<1099511627776)<| some (AL.contains [rD,Uz])
abbrev V3:List Nat:=[7,8,9,10,11,12,13,14,15,11,14,11,14,16,6,16,16]
def A1t:SC:= .seq (.ops [oX 3 (.box 29 (tK 0)) 0,oX 6 CX 4]) (.seq (.draws [(⟨[7,3,3],V3,[7]⟩,oF 7 29 3 3),(⟨[8,7,3],V3,[8]⟩,oL 8 22 7 22),(⟨[9,1,1],V3,[9]⟩,oM 9 1 3),(⟨[10,2,2],V3,[10]⟩,oM 10 2 3),(⟨[11,9,10,1,2],V3,[11]⟩,oC 11 190 [(tK 9),(tK 10)] [3,3] 3),(⟨[12,1,1],V3,[12]⟩,oM 12 1 3),(⟨[13,2,2],V3,[13]⟩,oM 13 2 3),(⟨[14,12,13,1,2],V3,[14]⟩,oC 14 176 [(tK 12),(tK 13)] [3,3] 3),(⟨[15,11,14,11,14],V3,[15,11,14,11,14]⟩,oX 15 (.buildSlice 26 2 #[(0,(tK 11)),(1,(tK 14))]) 26),(⟨[16,8,15,3,15],V3,[16]⟩,oC 16 85 [(tK 8),(tK 15)] [22,26] 4),(⟨[6,16,16],V3,[6,16,16]⟩,oA 6 16 4)]) .ret)
theorem rE:Try.f178.body.map (Bt lends)=some A1t:=by kernel_rfl
theorem A8h:CW Try.f178 3=true:=by kernel_rfl
theorem ADv{a l:List D}{r:D×List D}(h:CU Y.env A1t (Gq AZ l.length [ci 6] r) (entry a l))(ha:a.length=3):Y.call 178 a l=some r:=
 AY (Y:=Y) rfl Try.func178 (ha▸A8h) rE h
theorem WK(AA:Int)(AB:Int)(AJ:AX)(AL:AX)(a:Int)(b:Int){r:Bool}(h:QO AA AB AJ AL a b=some r):Y.call 178 [D.agg [bh .i64 AA,bh .i64 AB,ca 26 (AP CO AJ),ca 26 (AP CO AL)],bh .i64 a,bh .i64 b] []=some (cf r,[]):=by
 refine ADv ?_ rfl;unfold A1t;unfold QO at h;obtain⟨rD,hl1,h⟩:=Ao h;try dsimp only at h
 have c1:=Uy a b hl1;obtain⟨Uz,hl2,h⟩:=Ao h;try dsimp only at h
 have c2:=WJ a b hl2;obtain⟨e3,h⟩:=Cb h;obtain⟨e4,h⟩:=Cb h;have c5:=eG AL [rD,Uz] e3 e4;simp only [DT,JC,Ff,Ia,La,L9,Je]at c5
 obtain rfl:=Option.some.inj h
 simp (maxDischargeDepth:=9) only [↓AQ,AR,Aj,↓reduceIte,bk,bl,bm,bo,bp,br,bt,bw,bx,bO,b3,b4,b5,b6,b7,b8,b9,c1,c2,e3,e4,c5]<;>(repeat' apply A7)<;>first|rfl|exact⟨_,rfl⟩|exact⟨_,_,rfl⟩|simp [AP,AC]
theorem QP(l d:Int)(ns es:AX)(a b:Int)(h1:BR es)(h2:PO es=true):JJ l d ns es a b=some (Nw es a b):=by
 unfold JJ Nw;rw [Ce h1,Ce (by simp),Ce h2,jV]
theorem aV(l d:Int)(ns es:AX)(a b:Int)(h1:BR es):QO l d ns es a b=some (Nw es a b):=by
 unfold QO OU QN Nw;by_cases q1:a<b
 ·rw [if_pos q1,if_neg (by omega),if_neg (by omega),Dh,Dh,Ce h1.1,Ce (by simp)]
 ·by_cases q2:b<a
  ·rw [if_neg q1,if_pos q2,if_pos q2,Dh,Dh,Ce h1.1,Ce (by simp)]
  ·have:a=b:=by omega
   subst this;rw [if_neg q1,if_neg q1,Dh,Dh,Ce h1.1,Ce (by simp)]
theorem QQ(AA:Int)(AB:Int)(AJ:AX)(AL:AX)(a:Int)(b:Int)(h0:BR AL)(h1:PO AL=true):Y.call 172 [D.agg [bh .i64 AA,bh .i64 AB,ca 26 (AP CO AJ),ca 26 (AP CO AL)],bh .i64 a,bh .i64 b] []=some (cf (Nw AL a b),[]):=Ob AA AB AJ AL a b (QP AA AB AJ AL a b h0 h1)
theorem aW(AA:Int)(AB:Int)(AJ:AX)(AL:AX)(a:Int)(b:Int)(h0:BR AL):Y.call 178 [D.agg [bh .i64 AA,bh .i64 AB,ca 26 (AP CO AJ),ca 26 (AP CO AL)],bh .i64 a,bh .i64 b] []=some (cf (Nw AL a b),[]):=WK AA AB AJ AL a b (aV AA AB AJ AL a b h0)
def Cw(n:Nat)(P:Nat→Bool):Option Nat:=(List.range n).find? P
theorem QR{n:Nat}{P:Nat→Bool}(h: ∀i,i<n→P i=false):Cw n P=none:=by
 unfold Cw;rw [List.find?_eq_none];intro i hi;rw [h i (Ka.1 hi)];decide
theorem V4{n m:Nat}{P:Nat→Bool}(hm:m<n)(h:P m=true)(h0: ∀i,i<m→P i=false):Cw n P=some m:=by
 unfold Cw;rw [List.find?_range_eq_some]
 exact⟨h,Ka.2 hm,fun j hj=>by rw [h0 j hj];rfl⟩
theorem V5{n m:Nat}{P:Nat→Bool}(h:Cw n P=some m):m<n∧P m=true:=by
 unfold Cw at h
 exact⟨Ka.1 (List.mem_of_find?_eq_some h),List.find?_some h⟩
theorem MG{σ ρ:Type}(f:σ→Option (σ⊕ρ))(st:Nat→σ)(n:Nat)(P:Nat→Bool)(hit:Nat→ρ)(miss:ρ)
  (h: ∀i,i<n→f (st i)=if P i=true then some (.inr (hit i))else some (.inl (st (i+1))))(e:f (st n)=some (.inr miss)):
  JZ f (st 0)=some (match Cw n P with|some i=>hit i|none=>miss):=by
 by_cases hp: ∀i,i<n→(!P i)=true
 ·have h0: ∀i,i<n→P i=false:=fun i hi=>by simpa using hp i hi
  rw [QR h0];exact Fa f st n miss (fun i hi=>by rw [h i hi,h0 i hi,if_neg (by decide)]) e
 ·obtain⟨m,hm,hpm,h0⟩:=PG hp;have hpm':P m=true:=by simpa using hpm
  have h0': ∀i,i<m→P i=false:=fun i hi=>by simpa using h0 i hi
  rw [V4 hm hpm' h0'];exact Fa f st m (hit m) (fun i hi=>by rw [h i (by omega),h0' i hi,if_neg (by decide)]) (by rw [h m hm,if_pos hpm'])
theorem V6{n:Nat}{P:Nat→Bool}:(Cw n P).isSome=true↔ ∃i,i<n∧P i=true:=by
 constructor
 ·intro h
  cases hq:Cw n P with
  |none=>rw [hq]at h;cases h
  |some m=>exact⟨m,V5 hq⟩
 ·rintro⟨i,hi,hp⟩
  cases hq:Cw n P with
  |some m=>rfl
  |none=>
   unfold Cw at hq;rw [List.find?_eq_none]at hq;exact absurd hp (hq i (Ka.2 hi))
theorem aX{n m:Nat}{P:Nat→Bool}(h:Cw n P=some m): ∀i,i<m→P i=false:=by
 unfold Cw at h;rw [List.find?_range_eq_some]at h;intro i hi;simpa using h.2.2 i hi
def Jc(es:AX)(x y:AU)(i:Nat):Option Nat:=Cw y.length fun j=> !Nw es (x.getD i bj) (y.getD j bj)
def Ru(es:AX)(x y:AU):Option (Nat×Nat):=(Cw x.length fun i=>(Jc es x y i).isSome).map fun i=>(i,(Jc es x y i).getD 0)
def G7(AA:Int)(AB:Int)(AJ:AX)(AL:AX)(x_:AU)(y:AU)(J2:Int)(RB:Int):Option ((Int)⊕((AU)⊕Unit)):= if RB<(y.length:Int)then ck (0≤RB∧RB.toNat<y.length)<| ck (BR AL)<| ck (PO AL=true)<| if(Nw AL (x_.getD J2.toNat bj) (y.getD RB.toNat bj))=true then some (cd (cb.wrap (RB+1))) else some (cc (cd [(x_.getD J2.toNat bj),(y.getD RB.toNat bj)])) else some (cc (cc ()))
def JK(AA:Int)(AB:Int)(AJ:AX)(AL:AX)(x_:AU)(y:AU)(J2:Int)(v:Int):Option ((AU)⊕Unit):=JZ (fun v=>G7 AA AB AJ AL x_ y J2 v) v
def G8(AA:Int)(AB:Int)(AJ:AX)(AL:AX)(x_:AU)(y:AU)(J2:Int):Option ((Int)⊕((AU)⊕Unit)):=
 if J2<(x_.length:Int)then
  ck (0≤J2∧J2.toNat<x_.length)<|
  (JK AA AB AJ AL x_ y J2 0).bind fun AV=>
  match AV with
  | .inl q1000_=>
   some (cc (cd q1000_))
  | .inr q1000_=>
   some (cd (cb.wrap (J2+1)))
 else
  some (cc (cc ()))
def JL(AA:Int)(AB:Int)(AJ:AX)(AL:AX)(x_:AU)(y:AU)(v:Int):Option ((AU)⊕Unit):=JZ (fun v=>G8 AA AB AJ AL x_ y v) v
def MH(AA:Int)(AB:Int)(AJ:AX)(AL:AX)(x_:AU)(y:AU):Option (AU×Bool):=
 (JL AA AB AJ AL x_ y 0).bind fun Ev=>
 match Ev with
 | .inl q1001_=>
  some (q1001_,true)
 | .inr q1001_=>
  some ([],false)
def V7:SC:= .seq (.ops [oB 21 .lss 3 (tK 20) (tK 19) 3 0]) (.seq (.cond (tK 21) .skip (.exit 2)) (.seq (.block 3 (.seq (.ops [oI 22 26 18 20,oL 23 3 22 3,oA 11 23 3]) (.seq (.ops [oL 24 29 3 29,oM 25 9 3,oM 26 11 3,oC 27 172 [(tK 24),(tK 25),(tK 26)] [29,3,3] 4,oX 28 (.unOp .not 4 (tK 27)) 4]) (.cond (tK 28) (.seq (.ops [oM 29 9 3,oM 30 11 3,oX 31 (.buildSlice 26 2 #[(0,(tK 29)),(1,(tK 30))]) 26,oA 6 31 26,oX 7 (.assign H6) 4]) .ret) .skip)))) (.ops [oB 32 .add 3 (tK 20) (iK 1) 3 3,oM 20 32 3])))
def fu:SC:= .loop V7
def V8:SC:= .seq (.ops [oB 15 .lss 3 (tK 14) (tK 13) 3 0]) (.seq (.cond (tK 15) .skip (.exit 0)) (.seq (.block 1 (.seq (.ops [oI 16 26 12 14,oL 17 3 16 3,oA 9 17 3]) (.seq (.ops [oM 18 2 26,oN 19 18 26,oX 20 (.move (iK 0)) 3]) (.block 2 fu)))) (.ops [oB 33 .add 3 (tK 14) (iK 1) 3 3,oM 14 33 3])))
def fw:SC:= .loop V8
def A1u:SC:= .seq (.ops [oX 3 (.box 29 (tK 0)) 0,oX 6 Iy 26,oX 7 CX 4]) (.seq (.seq (.ops [oM 12 1 26,oN 13 12 26,oX 14 (.move (iK 0)) 3]) (.block 0 fw)) (.seq (.ops [oX 6 Iy 26,oX 7 CX 4]) .ret))
theorem rF:Try.f146.body.map (Bt lends)=some A1u:=by kernel_rfl
theorem A8i:CW Try.f146 3=true:=by kernel_rfl
theorem ADw{a l:List D}{r:D×List D}(h:CU Y.env A1u (Gq AZ l.length [ci 6,ci 7] r) (entry a l))(ha:a.length=3):Y.call 146 a l=some r:=
 AY (Y:=Y) rfl Try.func146 (ha▸A8i) rF h
def Ei(AA:Int)(AB:Int)(AJ:AX)(AL:AX)(x_:AU)(y:AU)(J2:Int)(RB:Int)(s:St):Prop:=s.v 2=ca 3 (AP (bh .i64) y)∧s.v 3=D.box [bh .i64 AA,bh .i64 AB,ca 26 (AP CO AJ),ca 26 (AP CO AL)]∧s.v 9=bh .i64 (x_.getD J2.toNat bj)∧s.v 12=ca 3 (AP (bh .i64) x_)∧s.v 13=bh .i64 (x_.length:Int)∧s.v 14=bh .i64 J2∧s.v 18=ca 3 (AP (bh .i64) y)∧s.v 19=bh .i64 (y.length:Int)∧s.v 20=bh .i64 RB
def Ej(AA:Int)(AB:Int)(AJ:AX)(AL:AX)(x_:AU)(y:AU)(J2:Int)(r:(AU)⊕Unit)(ex:Ex)(s:St):Prop:=match r with
 | .inl q=>ex= .ret∧s.v 6=D.own 3 (AP (bh .i64) q)∧s.v 7=cf true
 | .inr q=>ex= .exit 2∧s.v 2=ca 3 (AP (bh .i64) y)∧s.v 3=D.box [bh .i64 AA,bh .i64 AB,ca 26 (AP CO AJ),ca 26 (AP CO AL)]∧s.v 12=ca 3 (AP (bh .i64) x_)∧s.v 13=bh .i64 (x_.length:Int)∧s.v 14=bh .i64 J2
theorem Sc(AA:Int)(AB:Int)(AJ:AX)(AL:AX)(x_:AU)(y:AU)(J2:Int){v:Int}{s:St}{r:(AU)⊕Unit}(h:JK AA AB AJ AL x_ y J2 v=some r)(hM:Ei AA AB AJ AL x_ y J2 v s):CU Y.env fu (Ej AA AB AJ AL x_ y J2 r) s:=by
 unfold JK at h;refine CF (c:=V7) (fun v=>G7 AA AB AJ AL x_ y J2 v) (fun v s=>Ei AA AB AJ AL x_ y J2 v s) (Ej AA AB AJ AL x_ y J2) ?_ h hM;clear h hM s v r;intro RB s o hM h;unfold G7 at h;unfold Ei at hM;obtain⟨m0,m1,m2,m3,m4,m5,m6,m7,m8⟩:=hM;unfold V7;by_cases e3:RB<(y.length:Int)
 ·rw [if_pos e3]at h;obtain⟨e4,h⟩:=Cb h;obtain⟨e5,h⟩:=Cb h;obtain⟨e6,h⟩:=Cb h;have c7:=QQ AA AB AJ AL (x_.getD J2.toNat bj) (y.getD RB.toNat bj) e5 e6;by_cases e8:(Nw AL (x_.getD J2.toNat bj) (y.getD RB.toNat bj))=true
  ·rw [if_pos e8]at h
   obtain rfl:=Option.some.inj h
   simp (maxDischargeDepth:=9) only [↓AQ,AR,Aj,↓reduceIte,bk,bl,bm,bo,bp,br,bt,bw,bx,bO,b3,b4,b5,b6,b7,b8,b9,m0,m1,m2,m3,m4,m5,m6,m7,m8,e3,e4.1,e4.2,e5,e6,c7,e8,Ei,Ej,Cx,Cy,Cz]<;>(repeat' apply A7)<;>first|rfl|exact⟨_,rfl⟩|exact⟨_,_,rfl⟩|simp [AP,AC]
  ·rw [if_neg e8]at h;have e8f:(Nw AL (x_.getD J2.toNat bj) (y.getD RB.toNat bj))=false:=Iw.mpr e8
   obtain rfl:=Option.some.inj h
   simp (maxDischargeDepth:=9) only [↓AQ,AR,Aj,↓reduceIte,bk,bl,bm,bo,bp,br,bt,bw,bx,bO,b3,b4,b5,b6,b7,b8,b9,m0,m1,m2,m3,m4,m5,m6,m7,m8,e3,e4.1,e4.2,e5,e6,c7,e8f,Ei,Ej,Cx,Cy,Cz]<;>(repeat' apply A7)<;>first|rfl|exact⟨_,rfl⟩|exact⟨_,_,rfl⟩|simp [AP,AC]
 ·rw [if_neg e3]at h
  obtain rfl:=Option.some.inj h
  simp (maxDischargeDepth:=9) only [↓AQ,AR,Aj,↓reduceIte,bk,bl,bm,bo,bp,br,bt,bw,bx,bO,b3,b4,b5,b6,b7,b8,b9,m0,m1,m2,m3,m4,m5,m6,m7,m8,e3,Ei,Ej,Cx,Cy,Cz]<;>(repeat' apply A7)<;>first|rfl|exact⟨_,rfl⟩|exact⟨_,_,rfl⟩|simp [AP,AC]
def El(AA:Int)(AB:Int)(AJ:AX)(AL:AX)(x_:AU)(y:AU)(J2:Int)(s:St):Prop:=s.v 2=ca 3 (AP (bh .i64) y)∧s.v 3=D.box [bh .i64 AA,bh .i64 AB,ca 26 (AP CO AJ),ca 26 (AP CO AL)]∧s.v 12=ca 3 (AP (bh .i64) x_)∧s.v 13=bh .i64 (x_.length:Int)∧s.v 14=bh .i64 J2
def En(AA:Int)(AB:Int)(AJ:AX)(AL:AX)(x_:AU)(y:AU)(r:(AU)⊕Unit)(ex:Ex)(s:St):Prop:=match r with
 | .inl q=>ex= .ret∧s.v 6=D.own 3 (AP (bh .i64) q)∧s.v 7=cf true
 | .inr q=>ex= .exit 0
theorem Sd(AA:Int)(AB:Int)(AJ:AX)(AL:AX)(x_:AU)(y:AU){v:Int}{s:St}{r:(AU)⊕Unit}(h:JL AA AB AJ AL x_ y v=some r)(hM:El AA AB AJ AL x_ y v s):CU Y.env fw (En AA AB AJ AL x_ y r) s:=by
 unfold JL at h;refine CF (c:=V8) (fun v=>G8 AA AB AJ AL x_ y v) (fun v s=>El AA AB AJ AL x_ y v s) (En AA AB AJ AL x_ y) ?_ h hM;clear h hM s v r;intro J2 s o hM h;unfold G8 at h;unfold El at hM;obtain⟨m0,m1,m2,m3,m4⟩:=hM;unfold V8;by_cases e1:J2<(x_.length:Int)
 ·rw [if_pos e1]at h;obtain⟨e2,h⟩:=Cb h;obtain⟨AV,hl4,h⟩:=Ao h;try dsimp only at h
  simp (maxDischargeDepth:=9) only [↓AQ,AR,Aj,↓reduceIte,bk,bl,bm,bo,bp,br,bt,bw,bx,bO,b3,b4,b5,b6,b7,b8,b9,m0,m1,m2,m3,m4,e1,e2.1,e2.2];refine Bc (Sc AA AB AJ AL x_ y J2 hl4 ?_) ?_
  ·simp (maxDischargeDepth:=9) only [↓AQ,AR,Aj,↓reduceIte,bk,bl,bm,bo,bp,br,bt,bw,bx,bO,b3,b4,b5,b6,b7,b8,b9,m0,m1,m2,m3,m4,e1,e2.1,e2.2,Ei]<;>(repeat' apply A7)<;>first|rfl|exact⟨_,rfl⟩|exact⟨_,_,rfl⟩|simp [AP,AC]
  ·intro ex4 s4 hX4;rcases AV with q1000_|q1000_
   ·unfold Ej at hX4;dsimp only at hX4 h;obtain⟨rfl,n4_0,n4_1⟩:=hX4
    obtain rfl:=Option.some.inj h
    simp (maxDischargeDepth:=9) only [↓AQ,AR,Aj,↓reduceIte,bk,bl,bm,bo,bp,br,bt,bw,bx,bO,b3,b4,b5,b6,b7,b8,b9,e1,e2.1,e2.2,n4_0,n4_1,El,En,Cx,Cy,Cz]<;>(repeat' apply A7)<;>first|rfl|exact⟨_,rfl⟩|exact⟨_,_,rfl⟩|simp [AP,AC]
   ·unfold Ej at hX4;dsimp only at hX4 h;obtain⟨rfl,n4_0,n4_1,n4_2,n4_3,n4_4⟩:=hX4
    obtain rfl:=Option.some.inj h
    simp (maxDischargeDepth:=9) only [↓AQ,AR,Aj,↓reduceIte,bk,bl,bm,bo,bp,br,bt,bw,bx,bO,b3,b4,b5,b6,b7,b8,b9,e1,e2.1,e2.2,n4_0,n4_1,n4_2,n4_3,n4_4,El,En,Cx,Cy,Cz]<;>(repeat' apply A7)<;>first|rfl|exact⟨_,rfl⟩|exact⟨_,_,rfl⟩|simp [AP,AC]
 ·rw [if_neg e1]at h
  obtain rfl:=Option.some.inj h
  simp (maxDischargeDepth:=9) only [↓AQ,AR,Aj,↓reduceIte,bk,bl,bm,bo,bp,br,bt,bw,bx,bO,b3,b4,b5,b6,b7,b8,b9,m0,m1,m2,m3,m4,e1,El,En,Cx,Cy,Cz]<;>(repeat' apply A7)<;>first|rfl|exact⟨_,rfl⟩|exact⟨_,_,rfl⟩|simp [AP,AC]
theorem V9(AA:Int)(AB:Int)(AJ:AX)(AL:AX)(x_:AU)(y:AU){r:AU×Bool}(h:MH AA AB AJ AL x_ y=some r):Y.call 146 [D.agg [bh .i64 AA,bh .i64 AB,ca 26 (AP CO AJ),ca 26 (AP CO AL)],ca 3 (AP (bh .i64) x_),ca 3 (AP (bh .i64) y)] []=some (D.tup [D.own 3 (AP (bh .i64) r.1),cf r.2],[]):=by
 refine ADw ?_ rfl;unfold A1u;unfold MH at h;obtain⟨Ev,hl2,h⟩:=Ao h;try dsimp only at h
 simp (maxDischargeDepth:=9) only [↓AQ,AR,Aj,↓reduceIte,bk,bl,bm,bo,bp,br,bt,bw,bx,bO,b3,b4,b5,b6,b7,b8,b9];refine Bc (Sd AA AB AJ AL x_ y hl2 ?_) ?_
 ·simp (maxDischargeDepth:=9) only [↓AQ,AR,Aj,↓reduceIte,bk,bl,bm,bo,bp,br,bt,bw,bx,bO,b3,b4,b5,b6,b7,b8,b9,El]<;>(repeat' apply A7)<;>first|rfl|exact⟨_,rfl⟩|exact⟨_,_,rfl⟩|simp [AP,AC]
 ·intro ex2 s2 hX2;rcases Ev with q1001_|q1001_
  ·unfold En at hX2;dsimp only at hX2 h;obtain⟨rfl,n2_0,n2_1⟩:=hX2
   obtain rfl:=Option.some.inj h
   simp (maxDischargeDepth:=9) only [↓AQ,AR,Aj,↓reduceIte,bk,bl,bm,bo,bp,br,bt,bw,bx,bO,b3,b4,b5,b6,b7,b8,b9,n2_0,n2_1]<;>(repeat' apply A7)<;>first|rfl|exact⟨_,rfl⟩|exact⟨_,_,rfl⟩|simp [AP,AC]
  ·unfold En at hX2;dsimp only at hX2 h
   obtain rfl:=hX2
   obtain rfl:=Option.some.inj h
   simp (maxDischargeDepth:=9) only [↓AQ,AR,Aj,↓reduceIte,bk,bl,bm,bo,bp,br,bt,bw,bx,bO,b3,b4,b5,b6,b7,b8,b9]<;>(repeat' apply A7)<;>first|rfl|exact⟨_,rfl⟩|exact⟨_,_,rfl⟩|simp [AP,AC]
theorem YS(l d:Int)(ns es:AX)(x y:AU)(h1:BR es)(h2:PO es=true)(hx:x.length<1099511627776)(hy:y.length<1099511627776):
  MH l d ns es x y=some (match Ru es x y with|some q=>([x.getD q.1 bj,y.getD q.2 bj],true)|none=>([],false)):=by
 have inner: ∀i:Nat,i<x.length→JK l d ns es x y (i:Int) 0=some (match Jc es x y i with|some j=> .inl [x.getD i bj,y.getD j bj]|none=> .inr ()):=by
  intro i hi;unfold JK Jc;refine MG (fun v=>G7 l d ns es x y (i:Int) v) (fun j=>(j:Int)) y.length (fun j=> !Nw es (x.getD i bj) (y.getD j bj)) (fun j=> .inl [x.getD i bj,y.getD j bj]) (.inr ()) ?_ ?_
  ·intro j hj;simp only [G7];rw [if_pos (EP hj),Ce (Ea hj),Ce h1,Ce h2,Md j (by omega),ML,ML]
   cases Nw es (x.getD i bj) (y.getD j bj)<;>simp
  ·simp only [G7];rw [if_neg (Bj _)]
 have outer:JL l d ns es x y 0=some (match Cw x.length (fun i=>(Jc es x y i).isSome)with|some i=> .inl [x.getD i bj,y.getD ((Jc es x y i).getD 0) bj]|none=> .inr ()):=by
  unfold JL;refine MG (fun v=>G8 l d ns es x y v) (fun j=>(j:Int)) x.length (fun i=>(Jc es x y i).isSome) (fun i=> .inl [x.getD i bj,y.getD ((Jc es x y i).getD 0) bj]) (.inr ()) ?_ ?_
  ·intro i hi;simp only [G8];rw [if_pos (EP hi),Ce (Ea hi),inner i hi,Dh,Md i (by omega)]
   cases Jc es x y i<;>simp
  ·simp only [G8];rw [if_neg (Bj _)]
 unfold MH Ru;rw [outer,Dh]
 cases Cw x.length (fun i=>(Jc es x y i).isSome)<;>rfl
def I6(AA:Int)(AB:Int)(AJ:AX)(AL:AX)(x_:AU)(y:AU)(Ca:Int)(RD:Int):Option ((Int)⊕(Int⊕Unit)):= if RD<(y.length:Int)then ck (0≤RD∧RD.toNat<y.length)<| ck (BR AL)<| if(Nw AL (x_.getD Ca.toNat bj) (y.getD RD.toNat bj))=true then some (cd (cb.wrap (RD+1))) else some (cc (cd RD)) else some (cc (cc ()))
def Kt(AA:Int)(AB:Int)(AJ:AX)(AL:AX)(x_:AU)(y:AU)(Ca:Int)(v:Int):Option (Int⊕Unit):=JZ (fun v=>I6 AA AB AJ AL x_ y Ca v) v
def I7(AA:Int)(AB:Int)(AJ:AX)(AL:AX)(x_:AU)(y:AU)(Ca:Int):Option ((Int)⊕((Int×Int)⊕Unit)):=
 if Ca<(x_.length:Int)then
  ck (0≤Ca∧Ca.toNat<x_.length)<|
  (Kt AA AB AJ AL x_ y Ca 0).bind fun AV=>
  match AV with
  | .inl q1000_=>
   some (cc (cd (Ca,q1000_)))
  | .inr q1000_=>
   some (cd (cb.wrap (Ca+1)))
 else
  some (cc (cc ()))
def Ku(AA:Int)(AB:Int)(AJ:AX)(AL:AX)(x_:AU)(y:AU)(v:Int):Option ((Int×Int)⊕Unit):=JZ (fun v=>I7 AA AB AJ AL x_ y v) v
def QS(AA:Int)(AB:Int)(AJ:AX)(AL:AX)(x_:AU)(y:AU):Option (Int×Int×Bool):=
 (Ku AA AB AJ AL x_ y 0).bind fun Ev=>
 match Ev with
 | .inl q1001_=>
  some (q1001_.1,q1001_.2,true)
 | .inr q1001_=>
  some (0,0,false)
def VA:SC:= .seq (.ops [oB 23 .lss 3 (tK 22) (tK 21) 3 0]) (.seq (.cond (tK 23) .skip (.exit 2)) (.seq (.block 3 (.seq (.ops [oM 24 22 3,oI 25 26 20 22,oL 26 3 25 3,oA 11 24 3,oA 12 26 3]) (.seq (.ops [oL 27 29 3 29,oM 28 10 3,oM 29 12 3,oC 30 178 [(tK 27),(tK 28),(tK 29)] [29,3,3] 4,oX 31 (.unOp .not 4 (tK 30)) 4]) (.cond (tK 31) (.seq (.ops [oM 32 9 3,oM 33 11 3,oA 6 32 3,oA 7 33 3,oX 8 (.assign H6) 4]) .ret) .skip)))) (.ops [oB 34 .add 3 (tK 22) (iK 1) 3 3,oM 22 34 3])))
def gB:SC:= .loop VA
def VB:SC:= .seq (.ops [oB 16 .lss 3 (tK 15) (tK 14) 3 0]) (.seq (.cond (tK 16) .skip (.exit 0)) (.seq (.block 1 (.seq (.ops [oM 17 15 3,oI 18 26 13 15,oL 19 3 18 3,oA 9 17 3,oA 10 19 3]) (.seq (.ops [oM 20 2 26,oN 21 20 26,oX 22 (.move (iK 0)) 3]) (.block 2 gB)))) (.ops [oB 35 .add 3 (tK 15) (iK 1) 3 3,oM 15 35 3])))
def gD:SC:= .loop VB
def A1v:SC:= .seq (.ops [oX 3 (.box 29 (tK 0)) 0,oX 6 (.assign (iK 0)) 3,oX 7 (.assign (iK 0)) 3,oX 8 CX 4]) (.seq (.seq (.ops [oM 13 1 26,oN 14 13 26,oX 15 (.move (iK 0)) 3]) (.block 0 gD)) (.seq (.ops [oX 6 (.assign (iK 0)) 3,oX 7 (.assign (iK 0)) 3,oX 8 CX 4]) .ret))
theorem rG:Try.f167.body.map (Bt lends)=some A1v:=by kernel_rfl
theorem A8j:CW Try.f167 3=true:=by kernel_rfl
theorem ADx{a l:List D}{r:D×List D}(h:CU Y.env A1v (Gq AZ l.length [ci 6,ci 7,ci 8] r) (entry a l))(ha:a.length=3):Y.call 167 a l=some r:=
 AY (Y:=Y) rfl Try.func167 (ha▸A8j) rG h
def GU(AA:Int)(AB:Int)(AJ:AX)(AL:AX)(x_:AU)(y:AU)(Ca:Int)(RD:Int)(s:St):Prop:=s.v 2=ca 3 (AP (bh .i64) y)∧s.v 3=D.box [bh .i64 AA,bh .i64 AB,ca 26 (AP CO AJ),ca 26 (AP CO AL)]∧s.v 9=bh .i64 Ca∧s.v 10=bh .i64 (x_.getD Ca.toNat bj)∧s.v 13=ca 3 (AP (bh .i64) x_)∧s.v 14=bh .i64 (x_.length:Int)∧s.v 15=bh .i64 Ca∧s.v 20=ca 3 (AP (bh .i64) y)∧s.v 21=bh .i64 (y.length:Int)∧s.v 22=bh .i64 RD
def GV(AA:Int)(AB:Int)(AJ:AX)(AL:AX)(x_:AU)(y:AU)(Ca:Int)(r:Int⊕Unit)(ex:Ex)(s:St):Prop:=match r with
 | .inl q=>ex= .ret∧s.v 6=bh .i64 Ca∧s.v 7=bh .i64 q∧s.v 8=cf true
 | .inr q=>ex= .exit 2∧s.v 2=ca 3 (AP (bh .i64) y)∧s.v 3=D.box [bh .i64 AA,bh .i64 AB,ca 26 (AP CO AJ),ca 26 (AP CO AL)]∧s.v 13=ca 3 (AP (bh .i64) x_)∧s.v 14=bh .i64 (x_.length:Int)∧s.v 15=bh .i64 Ca
theorem WL(AA:Int)(AB:Int)(AJ:AX)(AL:AX)(x_:AU)(y:AU)(Ca:Int){v:Int}{s:St}{r:Int⊕Unit}(h:Kt AA AB AJ AL x_ y Ca v=some r)(hM:GU AA AB AJ AL x_ y Ca v s):CU Y.env gB (GV AA AB AJ AL x_ y Ca r) s:=by
 unfold Kt at h;refine CF (c:=VA) (fun v=>I6 AA AB AJ AL x_ y Ca v) (fun v s=>GU AA AB AJ AL x_ y Ca v s) (GV AA AB AJ AL x_ y Ca) ?_ h hM;clear h hM s v r;intro RD s o hM h;unfold I6 at h;unfold GU at hM;obtain⟨m0,m1,m2,m3,m4,m5,m6,m7,m8,m9⟩:=hM;unfold VA;by_cases e3:RD<(y.length:Int)
 ·rw [if_pos e3]at h;obtain⟨e4,h⟩:=Cb h;obtain⟨e5,h⟩:=Cb h;have c6:=aW AA AB AJ AL (x_.getD Ca.toNat bj) (y.getD RD.toNat bj) e5;by_cases e7:(Nw AL (x_.getD Ca.toNat bj) (y.getD RD.toNat bj))=true
  ·rw [if_pos e7]at h
   obtain rfl:=Option.some.inj h
   simp (maxDischargeDepth:=9) only [↓AQ,AR,Aj,↓reduceIte,bk,bl,bm,bo,bp,br,bt,bw,bx,bO,b3,b4,b5,b6,b7,b8,b9,m0,m1,m2,m3,m4,m5,m6,m7,m8,m9,e3,e4.1,e4.2,e5,c6,e7,GU,GV,Cx,Cy,Cz]<;>(repeat' apply A7)<;>first|rfl|exact⟨_,rfl⟩|exact⟨_,_,rfl⟩|simp [AP,AC]
  ·rw [if_neg e7]at h;have e7f:(Nw AL (x_.getD Ca.toNat bj) (y.getD RD.toNat bj))=false:=Iw.mpr e7
   obtain rfl:=Option.some.inj h
   simp (maxDischargeDepth:=9) only [↓AQ,AR,Aj,↓reduceIte,bk,bl,bm,bo,bp,br,bt,bw,bx,bO,b3,b4,b5,b6,b7,b8,b9,m0,m1,m2,m3,m4,m5,m6,m7,m8,m9,e3,e4.1,e4.2,e5,c6,e7f,GU,GV,Cx,Cy,Cz]<;>(repeat' apply A7)<;>first|rfl|exact⟨_,rfl⟩|exact⟨_,_,rfl⟩|simp [AP,AC]
 ·rw [if_neg e3]at h
  obtain rfl:=Option.some.inj h
  simp (maxDischargeDepth:=9) only [↓AQ,AR,Aj,↓reduceIte,bk,bl,bm,bo,bp,br,bt,bw,bx,bO,b3,b4,b5,b6,b7,b8,b9,m0,m1,m2,m3,m4,m5,m6,m7,m8,m9,e3,GU,GV,Cx,Cy,Cz]<;>(repeat' apply A7)<;>first|rfl|exact⟨_,rfl⟩|exact⟨_,_,rfl⟩|simp [AP,AC]
def GX(AA:Int)(AB:Int)(AJ:AX)(AL:AX)(x_:AU)(y:AU)(Ca:Int)(s:St):Prop:=s.v 2=ca 3 (AP (bh .i64) y)∧s.v 3=D.box [bh .i64 AA,bh .i64 AB,ca 26 (AP CO AJ),ca 26 (AP CO AL)]∧s.v 13=ca 3 (AP (bh .i64) x_)∧s.v 14=bh .i64 (x_.length:Int)∧s.v 15=bh .i64 Ca
def GY(AA:Int)(AB:Int)(AJ:AX)(AL:AX)(x_:AU)(y:AU)(r:(Int×Int)⊕Unit)(ex:Ex)(s:St):Prop:=match r with
 | .inl q=>ex= .ret∧s.v 6=bh .i64 q.1∧s.v 7=bh .i64 q.2∧s.v 8=cf true
 | .inr q=>ex= .exit 0
theorem WM(AA:Int)(AB:Int)(AJ:AX)(AL:AX)(x_:AU)(y:AU){v:Int}{s:St}{r:(Int×Int)⊕Unit}(h:Ku AA AB AJ AL x_ y v=some r)(hM:GX AA AB AJ AL x_ y v s):CU Y.env gD (GY AA AB AJ AL x_ y r) s:=by
 unfold Ku at h;refine CF (c:=VB) (fun v=>I7 AA AB AJ AL x_ y v) (fun v s=>GX AA AB AJ AL x_ y v s) (GY AA AB AJ AL x_ y) ?_ h hM;clear h hM s v r;intro Ca s o hM h;unfold I7 at h;unfold GX at hM;obtain⟨m0,m1,m2,m3,m4⟩:=hM;unfold VB;by_cases e1:Ca<(x_.length:Int)
 ·rw [if_pos e1]at h;obtain⟨e2,h⟩:=Cb h;obtain⟨AV,hl4,h⟩:=Ao h;try dsimp only at h
  simp (maxDischargeDepth:=9) only [↓AQ,AR,Aj,↓reduceIte,bk,bl,bm,bo,bp,br,bt,bw,bx,bO,b3,b4,b5,b6,b7,b8,b9,m0,m1,m2,m3,m4,e1,e2.1,e2.2];refine Bc (WL AA AB AJ AL x_ y Ca hl4 ?_) ?_
  ·simp (maxDischargeDepth:=9) only [↓AQ,AR,Aj,↓reduceIte,bk,bl,bm,bo,bp,br,bt,bw,bx,bO,b3,b4,b5,b6,b7,b8,b9,m0,m1,m2,m3,m4,e1,e2.1,e2.2,GU]<;>(repeat' apply A7)<;>first|rfl|exact⟨_,rfl⟩|exact⟨_,_,rfl⟩|simp [AP,AC]
  ·intro ex4 s4 hX4;rcases AV with q1000_|q1000_
   ·unfold GV at hX4;dsimp only at hX4 h;obtain⟨rfl,n4_0,n4_1,n4_2⟩:=hX4
    obtain rfl:=Option.some.inj h
    simp (maxDischargeDepth:=9) only [↓AQ,AR,Aj,↓reduceIte,bk,bl,bm,bo,bp,br,bt,bw,bx,bO,b3,b4,b5,b6,b7,b8,b9,e1,e2.1,e2.2,n4_0,n4_1,n4_2,GX,GY,Cx,Cy,Cz]<;>(repeat' apply A7)<;>first|rfl|exact⟨_,rfl⟩|exact⟨_,_,rfl⟩|simp [AP,AC]
   ·unfold GV at hX4;dsimp only at hX4 h;obtain⟨rfl,n4_0,n4_1,n4_2,n4_3,n4_4⟩:=hX4
    obtain rfl:=Option.some.inj h
    simp (maxDischargeDepth:=9) only [↓AQ,AR,Aj,↓reduceIte,bk,bl,bm,bo,bp,br,bt,bw,bx,bO,b3,b4,b5,b6,b7,b8,b9,e1,e2.1,e2.2,n4_0,n4_1,n4_2,n4_3,n4_4,GX,GY,Cx,Cy,Cz]<;>(repeat' apply A7)<;>first|rfl|exact⟨_,rfl⟩|exact⟨_,_,rfl⟩|simp [AP,AC]
 ·rw [if_neg e1]at h
  obtain rfl:=Option.some.inj h
  simp (maxDischargeDepth:=9) only [↓AQ,AR,Aj,↓reduceIte,bk,bl,bm,bo,bp,br,bt,bw,bx,bO,b3,b4,b5,b6,b7,b8,b9,m0,m1,m2,m3,m4,e1,GX,GY,Cx,Cy,Cz]<;>(repeat' apply A7)<;>first|rfl|exact⟨_,rfl⟩|exact⟨_,_,rfl⟩|simp [AP,AC]
theorem YT(AA:Int)(AB:Int)(AJ:AX)(AL:AX)(x_:AU)(y:AU){r:Int×Int×Bool}(h:QS AA AB AJ AL x_ y=some r):Y.call 167 [D.agg [bh .i64 AA,bh .i64 AB,ca 26 (AP CO AJ),ca 26 (AP CO AL)],ca 3 (AP (bh .i64) x_),ca 3 (AP (bh .i64) y)] []=some (D.tup [bh .i64 r.1,bh .i64 r.2.1,cf r.2.2],[]):=by
 refine ADx ?_ rfl;unfold A1v;unfold QS at h;obtain⟨Ev,hl2,h⟩:=Ao h;try dsimp only at h
 simp (maxDischargeDepth:=9) only [↓AQ,AR,Aj,↓reduceIte,bk,bl,bm,bo,bp,br,bt,bw,bx,bO,b3,b4,b5,b6,b7,b8,b9];refine Bc (WM AA AB AJ AL x_ y hl2 ?_) ?_
 ·simp (maxDischargeDepth:=9) only [↓AQ,AR,Aj,↓reduceIte,bk,bl,bm,bo,bp,br,bt,bw,bx,bO,b3,b4,b5,b6,b7,b8,b9,GX]<;>(repeat' apply A7)<;>first|rfl|exact⟨_,rfl⟩|exact⟨_,_,rfl⟩|simp [AP,AC]
 ·intro ex2 s2 hX2;rcases Ev with q1001_|q1001_
  ·unfold GY at hX2;dsimp only at hX2 h;obtain⟨rfl,n2_0,n2_1,n2_2⟩:=hX2
   obtain rfl:=Option.some.inj h
   simp (maxDischargeDepth:=9) only [↓AQ,AR,Aj,↓reduceIte,bk,bl,bm,bo,bp,br,bt,bw,bx,bO,b3,b4,b5,b6,b7,b8,b9,n2_0,n2_1,n2_2]<;>(repeat' apply A7)<;>first|rfl|exact⟨_,rfl⟩|exact⟨_,_,rfl⟩|simp [AP,AC]
  ·unfold GY at hX2;dsimp only at hX2 h
   obtain rfl:=hX2
   obtain rfl:=Option.some.inj h
   simp (maxDischargeDepth:=9) only [↓AQ,AR,Aj,↓reduceIte,bk,bl,bm,bo,bp,br,bt,bw,bx,bO,b3,b4,b5,b6,b7,b8,b9]<;>(repeat' apply A7)<;>first|rfl|exact⟨_,rfl⟩|exact⟨_,_,rfl⟩|simp [AP,AC]
theorem eO(l d:Int)(ns es:AX)(x y:AU)(h1:BR es)(hx:x.length<1099511627776)(hy:y.length<1099511627776):
  QS l d ns es x y=some (match Ru es x y with|some q=>((q.1:Int),(q.2:Int),true)|none=>(0,0,false)):=by
 have inner: ∀i:Nat,i<x.length→Kt l d ns es x y (i:Int) 0=some (match Jc es x y i with|some j=> .inl (j:Int)|none=> .inr ()):=by
  intro i hi;unfold Kt Jc;refine MG (fun v=>I6 l d ns es x y (i:Int) v) (fun j=>(j:Int)) y.length (fun j=> !Nw es (x.getD i bj) (y.getD j bj)) (fun j=> .inl (j:Int)) (.inr ()) ?_ ?_
  ·intro j hj;simp only [I6];rw [if_pos (EP hj),Ce (Ea hj),Ce h1,Md j (by omega),ML,ML]
   cases Nw es (x.getD i bj) (y.getD j bj)<;>simp
  ·simp only [I6];rw [if_neg (Bj _)]
 have outer:Ku l d ns es x y 0=some (match Cw x.length (fun i=>(Jc es x y i).isSome)with|some i=> .inl ((i:Int),(((Jc es x y i).getD 0:Nat):Int))|none=> .inr ()):=by
  unfold Ku;refine MG (fun v=>I7 l d ns es x y v) (fun j=>(j:Int)) x.length (fun i=>(Jc es x y i).isSome) (fun i=> .inl ((i:Int),(((Jc es x y i).getD 0:Nat):Int))) (.inr ()) ?_ ?_
  ·intro i hi;simp only [I7];rw [if_pos (EP hi),Ce (Ea hi),inner i hi,Dh,Md i (by omega)]
   cases Jc es x y i<;>simp
  ·simp only [I7];rw [if_neg (Bj _)]
 unfold QS Ru;rw [outer,Dh]
 cases Cw x.length (fun i=>(Jc es x y i).isSome)<;>rfl
end Go.Proofs.Ytclkfhhdikfcpaa
end
