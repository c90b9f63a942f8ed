/- Networks copied, compared, measured; when lists are a network, as plain functions. Conditions: the lists are short. -/
import Derived.Test.YtiehjihckndgkaaGreatL6
import Derived.Test.YtiehjihckndgkaaGreatHas
import Derived.Test.YtiehjihckndgkaaGreatCon
namespace Go.Proofs.YtiehjihckndgkaaGreat
open Go Dv
set_option linter.unusedSimpArgs false
set_option linter.unusedVariables false
set_option maxRecDepth 100000
set_option maxHeartbeats 4000000
def Cw(l:List (List (Int×Int))):Prop:=l.length<1099511627776∧ ∀x∈l,x.length<549755813888
instance (l:List (List (Int×Int))):Decidable (Cw l):=by unfold Cw;infer_instance
theorem Cw.at{l:List (List (Int×Int))}(h:Cw l)(i:Nat)(hi:i<l.length):l[i].length<549755813888:=h.2 _ (OA hi)
theorem Cw.getD{l:List (List (Int×Int))}(h:Cw l)(i:Nat):(l.getD i default).length<549755813888:=by
 by_cases hi:i<l.length
 ·rw [Am _ _ hi];exact h.at i hi
 ·rw [MQ,List.getElem?_eq_none (by omega)];decide
theorem ACR{a:List (Int×Int)}{i:Nat}(h:i<a.length):(CV a i,Cx a i)=a[i]:=by
 unfold CV Cx;rw [Am _ _ h]
noncomputable def WA(a_Node:Int)(a_Port:Int):Option (Int×Int):= some (a_Node,a_Port)
def k96:SC:= .seq (.ops [oX 1 (.box 111 (tK 0)) 0,oX 2 (.alloc 87) 0]) (.seq (.ops [oX 3 (.alloc 87) 0]) (.seq (.ops [oF 4 111 1 0,oL 5 3 4 3,oF 6 87 3 0,oS 3 6 5]) (.seq (.ops [oF 7 111 1 1,oL 8 3 7 3,oF 9 87 3 1,oS 3 9 8]) (.seq (.ops [oL 10 87 3 87,oS 87 2 10]) .ret))))
theorem A56:Tryz.f96.body.map (Bf lends)=some k96:=by kernel_rfl
theorem AHX:Bz Tryz.f96 1=true:=by kernel_rfl
theorem c96{a l:List D}{r:D×List D}(h:CF Y.env k96 (ES Ae l.length [ResultVar.cell 2 87] r) (entry a l))(ha:a.length=1):Y.call 96 a l=some r:=
 Ab (Y:=Y) rfl Tryz.func96 (ha▸AHX) A56 h
theorem dI(a_Node:Int)(a_Port:Int){r:Int×Int}(h:WA a_Node a_Port=some r):Y.call 96 [D.agg [D.int .i64 a_Node,D.int .i64 a_Port]] []=some (D.agg [D.int .i64 r.1,D.int .i64 r.2],[]):=by
 refine c96 ?_ rfl;unfold k96;unfold WA at h
 obtain rfl:=Option.some.inj h
 simp (maxDischargeDepth:=9) only [↓AP,AQ,↓reduceIte,Nat.reduceEqDiff,Nat.reduceLT,Nat.reduceAdd]
noncomputable def Iq(a:List (Int×Int))(out:List (Int×Int))(i:Int):Option (((List (Int×Int))×Int)⊕((List (Int×Int)))):= if i<(a.length:Int)then ck (0≤i∧i.toNat<a.length)<| (WA (CV a i.toNat) (Cx a i.toNat)).bind fun Rc=> ck (0≤i∧i.toNat<out.length)<| some (Sum.inl ((out.set i.toNat (Rc.1,Rc.2)),IntKind.i64.wrap (i+1))) else some (Sum.inr out)
noncomputable def Nu(a:List (Int×Int))(v:(List (Int×Int))×Int):Option ((List (Int×Int))):=I4 (fun v=>Iq a v.1 v.2) v
noncomputable def TD(a:List (Int×Int)):Option ((List (Int×Int))):= ck (0≤(a.length:Int)∧(a.length:Int)<1099511627776)<| (Nu a ((List.replicate a.length (0,0)),0)).bind fun AY=> some AY
def dJ:SC:= .seq (.seq (.ops [oM 8 4 3,oM 9 0 78,oN 10 9 78,oB 11 .lss 3 (tK 8) (tK 10) 3 4]) (.cond (tK 11) .skip (.exit 0))) (.seq (.block 1 (.ops [oM 14 3 79,oM 15 4 3,oM 16 0 78,oM 17 4 3,oI 18 78 16 17,oL 19 111 18 111,oC 20 96 [(tK 19)] [111] 87,oI 21 79 14 15,oS 87 21 20])) (.ops [oM 12 4 3,oB 13 .add 3 (tK 12) (iK 1) 3 3,oA 4 13 3]))
def wB:SC:= .loop dJ
def k63:SC:= .seq (.ops [oX 2 (.assign (.const (.slice none 0 0))) 79]) (.seq (.ops [oM 5 0 78,oN 6 5 78,oX 7 (.makeSlice 79 (tK 6) (tK 6)) 79,oA 3 7 79]) (.seq (.seq (.ops [oX 4 (.assign (iK 0)) 3]) (.block 0 wB)) (.seq (.ops [oM 22 3 79,oA 2 22 79]) .ret)))
theorem A57:Tryz.f63.body.map (Bf lends)=some k63:=by kernel_rfl
theorem AHZ:Bz Tryz.f63 1=true:=by kernel_rfl
theorem c63{a l:List D}{r:D×List D}(h:CF Y.env k63 (ES Ae l.length [ResultVar.tmp 2] r) (entry a l))(ha:a.length=1):Y.call 63 a l=some r:=
 Ab (Y:=Y) rfl Tryz.func63 (ha▸AHZ) A57 h
def Ir(a:List (Int×Int))(out:List (Int×Int))(i:Int)(s:St):Prop:=s.v 0=D.sl 111 (Ay .i64 .i64 a)∧s.v 3=D.own 87 (Ay .i64 .i64 out)∧s.v 4=D.int .i64 i
def Lh(a:List (Int×Int))(r:(List (Int×Int)))(ex:Ex)(s:St):Prop:=ex= .exit 0∧s.v 3=D.own 87 (Ay .i64 .i64 r)
theorem Xx(a:List (Int×Int)){v:(List (Int×Int))×Int}{s:St}{r:(List (Int×Int))}(h:Nu a v=some r)(hM:Ir a v.1 v.2 s):CF Y.env wB (Lh a r) s:=by
 unfold Nu at h;refine BN (c:=dJ) (fun v=>Iq a v.1 v.2) (fun v s=>Ir a v.1 v.2 s) (Lh a) ?_ h hM;clear h hM s v r;intro v s o hM h;obtain⟨out,i⟩:=v;dsimp only at h hM;unfold Iq at h;unfold Ir at hM;obtain⟨m0,m1,m2⟩:=hM;unfold dJ;rcases iS h with⟨e2,h⟩|⟨e2,h⟩
 ·obtain⟨e3,h⟩:=FK h;obtain⟨Rc,hl4,h⟩:=Ag h;have c4:=dI (CV a i.toNat) (Cx a i.toNat) hl4;obtain⟨e5,h⟩:=FK h
  obtain rfl:=Option.some.inj h
  simp (maxDischargeDepth:=9) only [↓AP,AQ,↓reduceIte,Nat.reduceEqDiff,Nat.reduceLT,Nat.reduceAdd,m0,m1,m2,e2,e3.1,e3.2,c4,e5.2,Ir,GZ]
 ·obtain rfl:=Option.some.inj h
  simp (maxDischargeDepth:=9) only [↓AP,AQ,↓reduceIte,Nat.reduceEqDiff,Nat.reduceLT,m0,m1,m2,e2,Ir,Lh,KW]
theorem ZQ(a:List (Int×Int)){r:(List (Int×Int))}(h:TD a=some r):Y.call 63 [D.sl 111 (Ay .i64 .i64 a)] []=some (D.own 87 (Ay .i64 .i64 r),[]):=by
 refine c63 ?_ rfl;unfold k63;unfold TD at h;obtain⟨e1,h⟩:=FK h;obtain⟨AY,hl3,h⟩:=Ag h;try dsimp only at h
 simp (maxDischargeDepth:=9) only [↓AP,AQ,↓reduceIte,Nat.reduceEqDiff,Nat.reduceLT,Nat.reduceLeDiff,e1.1,e1.2];refine Av (Xx a hl3 ?_) ?_
 ·simp (maxDischargeDepth:=9) only [C9,DK,↓reduceIte,Nat.reduceEqDiff,Nat.reduceLT,Ir]
 ·intro ex3 s3 hX3;unfold Lh at hX3;obtain⟨rfl,n3_0⟩:=hX3
  obtain rfl:=Option.some.inj h
  simp (maxDischargeDepth:=9) only [↓AP,AQ,↓reduceIte,Nat.reduceEqDiff,Nat.reduceLT,n3_0]
theorem jP(a:List (Int×Int))(h:a.length<549755813888):TD a=some a:=by
 have key:=EX (fun v=>Iq a v.1 v.2) (fun i=>(a.take i++List.replicate (a.length-i) (0,0),(i:Int))) a.length a ?_ ?_
 ·unfold TD Nu;rw [BJ (by omega)]
  simp only [Yk,NV,Nat.sub_zero,GY]at key;rw [key];rfl
 ·intro i hi;simp only [Iq,WA,IV];rw [if_pos (CJ hi),BJ (by omega),DJ,BJ (by simp;omega),ACR hi,Vw a i hi (0,0),Kh i (by omega)]
 ·simp only [Iq];rw [if_neg (Ar _)];simp
theorem jQ(a:List (Int×Int))(h0:a.length<549755813888):Y.call 63 [D.sl 111 (Ay .i64 .i64 a)] []=some (D.own 87 (Ay .i64 .i64 a),[]):=ZQ a (jP a h0)
noncomputable def H5(a:List (List (Int×Int)))(out:List (List (Int×Int)))(i:Int):Option (((List (List (Int×Int)))×Int)⊕((List (List (Int×Int))))):= if i<(a.length:Int)then ck (0≤i∧i.toNat<a.length)<| ck ((a.getD i.toNat default).length<549755813888)<| ck (0≤i∧i.toNat<out.length)<| some (Sum.inl ((out.set i.toNat (a.getD i.toNat default)),IntKind.i64.wrap (i+1))) else some (Sum.inr out)
noncomputable def Mi(a:List (List (Int×Int)))(v:(List (List (Int×Int)))×Int):Option ((List (List (Int×Int)))):=I4 (fun v=>H5 a v.1 v.2) v
noncomputable def Qn(a:List (List (Int×Int))):Option ((List (List (Int×Int)))):= ck (0≤(a.length:Int)∧(a.length:Int)<1099511627776)<| (Mi a ((List.replicate a.length ([]:List (Int×Int))),0)).bind fun AY=> some AY
def dK:SC:= .seq (.seq (.ops [oM 8 4 3,oM 9 0 25,oN 10 9 25,oB 11 .lss 3 (tK 8) (tK 10) 3 4]) (.cond (tK 11) .skip (.exit 0))) (.seq (.block 1 (.ops [oM 14 3 36,oM 15 4 3,oM 16 0 25,oM 17 4 3,oI 18 25 16 17,oL 19 78 18 78,oC 20 63 [(tK 19)] [78] 79,oI 21 36 14 15,oS 79 21 20])) (.ops [oM 12 4 3,oB 13 .add 3 (tK 12) (iK 1) 3 3,oA 4 13 3]))
def wC:SC:= .loop dK
def k37:SC:= .seq (.ops [oX 2 (.assign (.const (.slice none 0 0))) 36]) (.seq (.ops [oM 5 0 25,oN 6 5 25,oX 7 (.makeSlice 36 (tK 6) (tK 6)) 36,oA 3 7 36]) (.seq (.seq (.ops [oX 4 (.assign (iK 0)) 3]) (.block 0 wC)) (.seq (.ops [oM 22 3 36,oA 2 22 36]) .ret)))
theorem A58:Tryz.f37.body.map (Bf lends)=some k37:=by kernel_rfl
theorem AHb:Bz Tryz.f37 1=true:=by kernel_rfl
theorem c37{a l:List D}{r:D×List D}(h:CF Y.env k37 (ES Ae l.length [ResultVar.tmp 2] r) (entry a l))(ha:a.length=1):Y.call 37 a l=some r:=
 Ab (Y:=Y) rfl Tryz.func37 (ha▸AHb) A58 h
def H6(a:List (List (Int×Int)))(out:List (List (Int×Int)))(i:Int)(s:St):Prop:=s.v 0=D.sl 78 (AL (fun x=>D.sl 111 (Ay .i64 .i64 x)) a)∧s.v 3=D.own 79 (AL (fun x=>D.own 87 (Ay .i64 .i64 x)) out)∧s.v 4=D.int .i64 i
def Kr(a:List (List (Int×Int)))(r:(List (List (Int×Int))))(ex:Ex)(s:St):Prop:=ex= .exit 0∧s.v 3=D.own 79 (AL (fun x=>D.own 87 (Ay .i64 .i64 x)) r)
theorem Va(a:List (List (Int×Int))){v:(List (List (Int×Int)))×Int}{s:St}{r:(List (List (Int×Int)))}(h:Mi a v=some r)(hM:H6 a v.1 v.2 s):CF Y.env wC (Kr a r) s:=by
 unfold Mi at h;refine BN (c:=dK) (fun v=>H5 a v.1 v.2) (fun v s=>H6 a v.1 v.2 s) (Kr a) ?_ h hM;clear h hM s v r;intro v s o hM h;obtain⟨out,i⟩:=v;dsimp only at h hM;unfold H5 at h;unfold H6 at hM;obtain⟨m0,m1,m2⟩:=hM;unfold dK;rcases iS h with⟨e2,h⟩|⟨e2,h⟩
 ·obtain⟨e3,e4,h⟩:=Ei h;have c5:=jQ (a.getD i.toNat default) e4;obtain⟨e6,h⟩:=FK h
  obtain rfl:=Option.some.inj h
  simp (maxDischargeDepth:=9) only [↓AP,AQ,↓reduceIte,Nat.reduceEqDiff,Nat.reduceLT,Nat.reduceAdd,m0,m1,m2,e2,e3.1,e3.2,c5,e6.2,H6,GZ]
 ·obtain rfl:=Option.some.inj h
  simp (maxDischargeDepth:=9) only [↓AP,AQ,↓reduceIte,Nat.reduceEqDiff,Nat.reduceLT,m0,m1,m2,e2,H6,Kr,KW]
theorem Xy(a:List (List (Int×Int))){r:(List (List (Int×Int)))}(h:Qn a=some r):Y.call 37 [D.sl 78 (AL (fun x=>D.sl 111 (Ay .i64 .i64 x)) a)] []=some (D.own 79 (AL (fun x=>D.own 87 (Ay .i64 .i64 x)) r),[]):=by
 refine c37 ?_ rfl;unfold k37;unfold Qn at h;obtain⟨e1,h⟩:=FK h;obtain⟨AY,hl3,h⟩:=Ag h;try dsimp only at h
 simp (maxDischargeDepth:=9) only [↓AP,AQ,↓reduceIte,Nat.reduceEqDiff,Nat.reduceLT,Nat.reduceLeDiff,e1.1,e1.2];refine Av (Va a hl3 ?_) ?_
 ·simp (maxDischargeDepth:=9) only [C9,DK,↓reduceIte,Nat.reduceEqDiff,Nat.reduceLT,H6]<;>(repeat' apply A7)<;>first|rfl|exact⟨_,rfl⟩|exact⟨_,_,rfl⟩|simp [AL,BP]
 ·intro ex3 s3 hX3;unfold Kr at hX3;obtain⟨rfl,n3_0⟩:=hX3
  obtain rfl:=Option.some.inj h
  simp (maxDischargeDepth:=9) only [↓AP,AQ,↓reduceIte,Nat.reduceEqDiff,Nat.reduceLT,n3_0]
theorem dL(a:List (List (Int×Int)))(h:Cw a):Qn a=some a:=by
 have h1:=h.1;have key:=EX (fun v=>H5 a v.1 v.2) (fun i=>(a.take i++List.replicate (a.length-i) [],(i:Int))) a.length a ?_ ?_
 ·unfold Qn Mi;rw [BJ (by omega)]
  simp only [Yk,NV,Nat.sub_zero,GY]at key;rw [key];rfl
 ·intro i hi;simp only [H5];rw [if_pos (CJ hi),BJ (Df hi),BJ (by rw [G5 _ _ hi];exact h.at i hi),BJ (Df (by simp;omega)),G5 _ _ hi,IV,Vw a i hi [],Kh i (by omega)]
 ·simp only [H5];rw [if_neg (Ar _)];simp
theorem dM(a:List (List (Int×Int)))(h0:Cw a):Y.call 37 [D.sl 78 (AL (fun x=>D.sl 111 (Ay .i64 .i64 x)) a)] []=some (D.own 79 (AL (fun x=>D.own 87 (Ay .i64 .i64 x)) a),[]):=Xy a (dL a h0)
noncomputable def Nw(Ap:List (List (Int×Int)))(CB:List Int)(Aq:List Int):Option ((List (List (Int×Int)))×(List Int)×(List Int)):= ck (Cw Ap)<| ck (CB.length<1099511627776)<| ck (Aq.length<1099511627776)<| some (Ap,CB,Aq)
def k12:SC:= .seq (.ops [oX 1 (.box 28 (tK 0)) 0,oX 2 (.alloc 38) 0]) (.seq (.ops [oX 3 (.alloc 38) 0]) (.seq (.ops [oF 4 28 1 0,oL 5 25 4 25,oC 6 37 [(tK 5)] [25] 36,oF 7 38 3 0,oS 36 7 6]) (.seq (.ops [oF 8 28 1 1,oL 9 26 8 26,oC 10 38 [(tK 9)] [26] 26,oF 11 38 3 1,oS 26 11 10]) (.seq (.ops [oF 12 28 1 2,oL 13 26 12 26,oC 14 38 [(tK 13)] [26] 26,oF 15 38 3 2,oS 26 15 14]) (.seq (.ops [oL 16 38 3 38,oS 38 2 16]) .ret)))))
theorem A59:Tryz.f12.body.map (Bf lends)=some k12:=by kernel_rfl
theorem AHd:Bz Tryz.f12 1=true:=by kernel_rfl
theorem oD{a l:List D}{r:D×List D}(h:CF Y.env k12 (ES Ae l.length [ResultVar.cell 2 38] r) (entry a l))(ha:a.length=1):Y.call 12 a l=some r:=
 Ab (Y:=Y) rfl Tryz.func12 (ha▸AHd) A59 h
theorem UH(Ap:List (List (Int×Int)))(CB:List Int)(Aq:List Int){r:(List (List (Int×Int)))×(List Int)×(List Int)}(h:Nw Ap CB Aq=some r):Y.call 12 [D.agg [D.sl 78 (AL (fun x=>D.sl 111 (Ay .i64 .i64 x)) Ap),D.sl 3 (AL (D.int .i64) CB),D.sl 3 (AL (D.int .i64) Aq)]] []=some (D.agg [D.own 79 (AL (fun x=>D.own 87 (Ay .i64 .i64 x)) r.1),D.own 3 (AL (D.int .i64) r.2.1),D.own 3 (AL (D.int .i64) r.2.2)],[]):=by
 refine oD ?_ rfl;unfold k12;unfold Nw at h;obtain⟨e1,h⟩:=FK h;have c2:=dM Ap e1;obtain⟨e3,h⟩:=FK h;have c4:=QI CB e3;obtain⟨e5,h⟩:=FK h;have c6:=QI Aq e5
 obtain rfl:=Option.some.inj h
 simp (maxDischargeDepth:=9) only [↓AP,AQ,↓reduceIte,Nat.reduceEqDiff,Nat.reduceLT,Nat.reduceAdd,c2,c4,c6]
theorem Xz(a:List (List (Int×Int)))(b c:List Int)(h:Cw a)(hb:b.length<1099511627776)(hc:c.length<1099511627776):Nw a b c=some (a,b,c):=by
 unfold Nw;rw [BJ h,BJ hb,BJ hc]
theorem H7(Ap:List (List (Int×Int)))(CB:List Int)(Aq:List Int)(h0:Cw Ap)(h1:CB.length<1099511627776)(h2:Aq.length<1099511627776):Y.call 12 [D.agg [D.sl 78 (AL (fun x=>D.sl 111 (Ay .i64 .i64 x)) Ap),D.sl 3 (AL (D.int .i64) CB),D.sl 3 (AL (D.int .i64) Aq)]] []=some (D.agg [D.own 79 (AL (fun x=>D.own 87 (Ay .i64 .i64 x)) Ap),D.own 3 (AL (D.int .i64) CB),D.own 3 (AL (D.int .i64) Aq)],[]):=UH Ap CB Aq (Xz Ap CB Aq h0 h1 h2)
noncomputable def TE(a_Node:Int)(a_Port:Int)(b_Node:Int)(b_Port:Int):Option (Bool):= if a_Node=b_Node then if a_Port=b_Port then some true else some false else some false
def A5A:SC:= .seq (.ops [oX 2 (.box 87 (tK 0)) 0,oX 3 (.box 87 (tK 1)) 0,oX 4 (.assign (.const (.bool false))) 4]) (.seq (.seq (.ops [oF 5 87 2 0,oL 6 3 5 3,oF 7 87 3 0,oL 8 3 7 3,oB 9 .neq 3 (tK 6) (tK 8) 3 4]) (.cond (tK 9) (.seq (.ops [oX 4 (.assign (.const (.bool false))) 4]) .ret) .skip)) (.seq (.seq (.ops [oF 10 87 2 1,oL 11 3 10 3,oF 12 87 3 1,oL 13 3 12 3,oB 14 .neq 3 (tK 11) (tK 13) 3 4]) (.cond (tK 14) (.seq (.ops [oX 4 (.assign (.const (.bool false))) 4]) .ret) .skip)) (.seq (.ops [oX 4 (.assign (.const (.bool true))) 4]) .ret)))
theorem zQ:Tryz.f108.body.map (Bf lends)=some A5A:=by kernel_rfl
theorem ACS:Bz Tryz.f108 2=true:=by kernel_rfl
theorem AHe{a l:List D}{r:D×List D}(h:CF Y.env A5A (ES Ae l.length [ResultVar.tmp 4] r) (entry a l))(ha:a.length=2):Y.call 108 a l=some r:=
 Ab (Y:=Y) rfl Tryz.func108 (ha▸ACS) zQ h
theorem dN(a_Node:Int)(a_Port:Int)(b_Node:Int)(b_Port:Int){r:Bool}(h:TE a_Node a_Port b_Node b_Port=some r):Y.call 108 [D.agg [D.int .i64 a_Node,D.int .i64 a_Port],D.agg [D.int .i64 b_Node,D.int .i64 b_Port]] []=some (D.bool r,[]):=by
 refine AHe ?_ rfl;unfold A5A;unfold TE at h;rcases iS h with⟨e1,h⟩|⟨e1,h⟩
 ·rcases iS h with⟨e2,h⟩|⟨e2,h⟩
  ·obtain rfl:=Option.some.inj h
   simp (maxDischargeDepth:=9) only [↓AP,AQ,↓reduceIte,Nat.reduceEqDiff,Nat.reduceLT,Nat.reduceAdd,decide_eq_true e1,decide_eq_true e2]
  ·obtain rfl:=Option.some.inj h
   simp (maxDischargeDepth:=9) only [↓AP,AQ,↓reduceIte,Nat.reduceEqDiff,Nat.reduceLT,Nat.reduceAdd,decide_eq_true e1,e2]
 ·obtain rfl:=Option.some.inj h
  simp (maxDischargeDepth:=9) only [↓AP,AQ,↓reduceIte,Nat.reduceEqDiff,Nat.reduceLT,Nat.reduceAdd,e1]
noncomputable def Iu(a:List (Int×Int))(b:List (Int×Int))(i:Int):Option ((Int)⊕(Unit⊕Unit)):= if i<(a.length:Int)then ck (0≤i∧i.toNat<a.length)<| ck (0≤i∧i.toNat<b.length)<| (TE (CV a i.toNat) (Cx a i.toNat) (CV b i.toNat) (Cx b i.toNat)).bind fun mV=> if mV=true then some (Sum.inl (IntKind.i64.wrap (i+1))) else some (Sum.inr (Sum.inl ())) else some (Sum.inr (Sum.inr ()))
noncomputable def Ny(a:List (Int×Int))(b:List (Int×Int))(v:Int):Option (Unit⊕Unit):=I4 (fun v=>Iu a b v) v
noncomputable def TF(a:List (Int×Int))(b:List (Int×Int)):Option (Bool):=
 if(a.length:Int)=(b.length:Int)then
  (Ny a b 0).bind fun AY=>
  match AY with
  | .inl q1000_=>
   some false
  | .inr q1000_=>
   some true
 else
  some false
def dO:SC:= .seq (.seq (.ops [oM 11 5 3,oM 12 0 79,oN 13 12 79,oB 14 .lss 3 (tK 11) (tK 13) 3 4]) (.cond (tK 14) .skip (.exit 0))) (.seq (.block 1 (.seq (.draws [(⟨[17,0,0],[17,18,19,20,21,22,23,24,25,26],[17]⟩,oM 17 0 79),(⟨[18,5,5],[17,18,19,20,21,22,23,24,25,26],[18]⟩,oM 18 5 3),(⟨[19,17,18,0,5],[17,18,19,20,21,22,23,24,25,26],[19]⟩,oI 19 79 17 18),(⟨[20,19,0],[17,18,19,20,21,22,23,24,25,26],[20]⟩,oL 20 87 19 87),(⟨[21,1,1],[17,18,19,20,21,22,23,24,25,26],[21]⟩,oM 21 1 79),(⟨[22,5,5],[17,18,19,20,21,22,23,24,25,26],[22]⟩,oM 22 5 3),(⟨[23,21,22,1,5],[17,18,19,20,21,22,23,24,25,26],[23]⟩,oI 23 79 21 22),(⟨[24,23,1],[17,18,19,20,21,22,23,24,25,26],[24]⟩,oL 24 87 23 87),(⟨[25,20,24,0,1],[17,18,19,20,21,22,23,24,25,26],[25]⟩,oC 25 108 [(tK 20),(tK 24)] [87,87] 4),(⟨[26,25,25],[17,18,19,20,21,22,23,24,25,26],[26]⟩,oX 26 (.unOp .not 4 (tK 25)) 4)]) (.cond (tK 26) (.seq (.ops [oX 4 (.assign (.const (.bool false))) 4]) .ret) .skip))) (.ops [oM 15 5 3,oB 16 .add 3 (tK 15) (iK 1) 3 3,oA 5 16 3]))
def wD:SC:= .loop dO
def k75:SC:= .seq (.ops [oX 4 (.assign (.const (.bool false))) 4]) (.seq (.seq (.ops [oM 6 0 79,oN 7 6 79,oM 8 1 79,oN 9 8 79,oB 10 .neq 3 (tK 7) (tK 9) 3 4]) (.cond (tK 10) (.seq (.ops [oX 4 (.assign (.const (.bool false))) 4]) .ret) .skip)) (.seq (.seq (.ops [oX 5 (.assign (iK 0)) 3]) (.block 0 wD)) (.seq (.ops [oX 4 (.assign (.const (.bool true))) 4]) .ret)))
theorem A5B:Tryz.f75.body.map (Bf lends)=some k75:=by kernel_rfl
theorem AHg:Bz Tryz.f75 2=true:=by kernel_rfl
theorem c75{a l:List D}{r:D×List D}(h:CF Y.env k75 (ES Ae l.length [ResultVar.tmp 4] r) (entry a l))(ha:a.length=2):Y.call 75 a l=some r:=
 Ab (Y:=Y) rfl Tryz.func75 (ha▸AHg) A5B h
def GR(a:List (Int×Int))(b:List (Int×Int))(i:Int)(s:St):Prop:=s.v 0=D.sl 87 (Ay .i64 .i64 a)∧s.v 1=D.sl 87 (Ay .i64 .i64 b)∧s.v 5=D.int .i64 i
def Iw(a:List (Int×Int))(b:List (Int×Int))(r:Unit⊕Unit)(ex:Ex)(s:St):Prop:=match r with
 | .inl q=>ex= .ret∧s.v 4=D.bool false
 | .inr q=>ex= .exit 0
theorem Y1(a:List (Int×Int))(b:List (Int×Int)){v:Int}{s:St}{r:Unit⊕Unit}(h:Ny a b v=some r)(hM:GR a b v s):CF Y.env wD (Iw a b r) s:=by
 unfold Ny at h;refine BN (c:=dO) (fun v=>Iu a b v) (fun v s=>GR a b v s) (Iw a b) ?_ h hM;clear h hM s v r;intro i s o hM h;unfold Iu at h;unfold GR at hM;obtain⟨m0,m1,m2⟩:=hM;unfold dO;rcases iS h with⟨e2,h⟩|⟨e2,h⟩
 ·obtain⟨e3,e4,h⟩:=Ei h;obtain⟨mV,hl5,h⟩:=Ag h;have c5:=dN (CV a i.toNat) (Cx a i.toNat) (CV b i.toNat) (Cx b i.toNat) hl5;rcases iS h with⟨e6,h⟩|⟨e6,h⟩
  ·obtain rfl:=Option.some.inj h
   simp (maxDischargeDepth:=9) only [↓AP,AQ,↓reduceIte,Nat.reduceEqDiff,Nat.reduceLT,Nat.reduceAdd,m0,m1,m2,e2,e3.1,e3.2,e4.2,c5,e6,GR,GZ]
  ·have e6f:mV=false:=Fx.mpr e6
   obtain rfl:=Option.some.inj h
   simp (maxDischargeDepth:=9) only [↓AP,AQ,↓reduceIte,Nat.reduceEqDiff,Nat.reduceLT,Nat.reduceAdd,m0,m1,m2,e2,e3.1,e3.2,e4.2,c5,e6f,GR,Iw,MP]
 ·obtain rfl:=Option.some.inj h
  simp (maxDischargeDepth:=9) only [↓AP,AQ,↓reduceIte,Nat.reduceEqDiff,Nat.reduceLT,m0,m2,e2,GR,Iw,KW]
theorem ZR(a:List (Int×Int))(b:List (Int×Int)){r:Bool}(h:TF a b=some r):Y.call 75 [D.sl 87 (Ay .i64 .i64 a),D.sl 87 (Ay .i64 .i64 b)] []=some (D.bool r,[]):=by
 refine c75 ?_ rfl;unfold k75;unfold TF at h;rcases iS h with⟨e1,h⟩|⟨e1,h⟩
 ·obtain⟨AY,hl3,h⟩:=Ag h;try dsimp only at h
  simp (maxDischargeDepth:=9) only [↓AP,AQ,↓reduceIte,Nat.reduceEqDiff,Nat.reduceLT,decide_eq_true e1];refine Av (Y1 a b hl3 ?_) ?_
  ·simp (maxDischargeDepth:=9) only [C9,DK,↓reduceIte,Nat.reduceEqDiff,Nat.reduceLT,GR]
  ·intro ex3 s3 hX3;rcases AY with q1000_|q1000_
   ·unfold Iw at hX3;dsimp only at hX3 h;obtain⟨rfl,n3_0⟩:=hX3
    obtain rfl:=Option.some.inj h
    simp (maxDischargeDepth:=9) only [↓AP,AQ,↓reduceIte,n3_0]
   ·unfold Iw at hX3;dsimp only at hX3 h
    obtain rfl:=hX3
    obtain rfl:=Option.some.inj h
    simp (maxDischargeDepth:=9) only [↓AP,AQ,↓reduceIte,Nat.reduceEqDiff,Nat.reduceLT]
 ·obtain rfl:=Option.some.inj h
  simp (maxDischargeDepth:=9) only [↓AP,AQ,↓reduceIte,Nat.reduceEqDiff,Nat.reduceLT,e1]
theorem mW(a b c d:Int):TE a b c d=some (decide ((a,b)=(c,d))):=by
 unfold TE;by_cases h1:a=c<;>by_cases h2:b=d<;>simp [h1,h2]
theorem jR(a b:List (Int×Int))(ha:a.length<549755813888):TF a b=some (decide (a=b)):=by
 unfold TF Ny;by_cases hl:a.length=b.length
 ·rw [if_pos (by omega)]
  have key:=Db (fun v=>Iu a b v) (fun i=>(i:Int)) a.length (fun i=>decide (a.getD i default=b.getD i default)) (.inl ()) (.inr ()) ?_ ?_
  ·simp only [GY]at key;rw [key,QF a b hl];by_cases he:a=b<;>simp [he]
  ·intro i hi;simp only [Iu,IV];rw [if_pos (CJ hi),BJ (by omega),BJ (by omega),mW,DJ,Kh i (by omega)]
   rfl
  ·simp only [Iu];rw [if_neg (Ar _)]
 ·rw [if_neg (by omega)]
  have: ¬a=b:=fun e=>hl (by rw [e])
  simp [this]
theorem jS(a:List (Int×Int))(b:List (Int×Int))(h0:a.length<549755813888):Y.call 75 [D.sl 87 (Ay .i64 .i64 a),D.sl 87 (Ay .i64 .i64 b)] []=some (D.bool (decide (a=b)),[]):=ZR a b (jR a b h0)
noncomputable def H8(a:List (List (Int×Int)))(b:List (List (Int×Int)))(i:Int):Option ((Int)⊕(Unit⊕Unit)):= if i<(a.length:Int)then ck (0≤i∧i.toNat<a.length)<| ck (0≤i∧i.toNat<b.length)<| ck ((a.getD i.toNat default).length<549755813888)<| if(decide ((a.getD i.toNat default)=(b.getD i.toNat default)))=true then some (Sum.inl (IntKind.i64.wrap (i+1))) else some (Sum.inr (Sum.inl ())) else some (Sum.inr (Sum.inr ()))
noncomputable def Mj(a:List (List (Int×Int)))(b:List (List (Int×Int)))(v:Int):Option (Unit⊕Unit):=I4 (fun v=>H8 a b v) v
noncomputable def Qo(a:List (List (Int×Int)))(b:List (List (Int×Int))):Option (Bool):=
 if(a.length:Int)=(b.length:Int)then
  (Mj a b 0).bind fun AY=>
  match AY with
  | .inl q1000_=>
   some false
  | .inr q1000_=>
   some true
 else
  some false
def dP:SC:= .seq (.seq (.ops [oM 11 5 3,oM 12 0 36,oN 13 12 36,oB 14 .lss 3 (tK 11) (tK 13) 3 4]) (.cond (tK 14) .skip (.exit 0))) (.seq (.block 1 (.seq (.draws [(⟨[17,0,0],[17,18,19,20,21,22,23,24,25,26],[17]⟩,oM 17 0 36),(⟨[18,5,5],[17,18,19,20,21,22,23,24,25,26],[18]⟩,oM 18 5 3),(⟨[19,17,18,0,5],[17,18,19,20,21,22,23,24,25,26],[19]⟩,oI 19 36 17 18),(⟨[20,19,0],[17,18,19,20,21,22,23,24,25,26],[20]⟩,oL 20 79 19 79),(⟨[21,1,1],[17,18,19,20,21,22,23,24,25,26],[21]⟩,oM 21 1 36),(⟨[22,5,5],[17,18,19,20,21,22,23,24,25,26],[22]⟩,oM 22 5 3),(⟨[23,21,22,1,5],[17,18,19,20,21,22,23,24,25,26],[23]⟩,oI 23 36 21 22),(⟨[24,23,1],[17,18,19,20,21,22,23,24,25,26],[24]⟩,oL 24 79 23 79),(⟨[25,20,24,0,1],[17,18,19,20,21,22,23,24,25,26],[25]⟩,oC 25 75 [(tK 20),(tK 24)] [79,79] 4),(⟨[26,25,25],[17,18,19,20,21,22,23,24,25,26],[26]⟩,oX 26 (.unOp .not 4 (tK 25)) 4)]) (.cond (tK 26) (.seq (.ops [oX 4 (.assign (.const (.bool false))) 4]) .ret) .skip))) (.ops [oM 15 5 3,oB 16 .add 3 (tK 15) (iK 1) 3 3,oA 5 16 3]))
def wE:SC:= .loop dP
def k43:SC:= .seq (.ops [oX 4 (.assign (.const (.bool false))) 4]) (.seq (.seq (.ops [oM 6 0 36,oN 7 6 36,oM 8 1 36,oN 9 8 36,oB 10 .neq 3 (tK 7) (tK 9) 3 4]) (.cond (tK 10) (.seq (.ops [oX 4 (.assign (.const (.bool false))) 4]) .ret) .skip)) (.seq (.seq (.ops [oX 5 (.assign (iK 0)) 3]) (.block 0 wE)) (.seq (.ops [oX 4 (.assign (.const (.bool true))) 4]) .ret)))
theorem A5C:Tryz.f43.body.map (Bf lends)=some k43:=by kernel_rfl
theorem AHi:Bz Tryz.f43 2=true:=by kernel_rfl
theorem c43{a l:List D}{r:D×List D}(h:CF Y.env k43 (ES Ae l.length [ResultVar.tmp 4] r) (entry a l))(ha:a.length=2):Y.call 43 a l=some r:=
 Ab (Y:=Y) rfl Tryz.func43 (ha▸AHi) A5C h
def FQ(a:List (List (Int×Int)))(b:List (List (Int×Int)))(i:Int)(s:St):Prop:=s.v 0=D.sl 79 (AL (fun x=>D.sl 87 (Ay .i64 .i64 x)) a)∧s.v 1=D.sl 79 (AL (fun x=>D.sl 87 (Ay .i64 .i64 x)) b)∧s.v 5=D.int .i64 i
def H9(a:List (List (Int×Int)))(b:List (List (Int×Int)))(r:Unit⊕Unit)(ex:Ex)(s:St):Prop:=match r with
 | .inl q=>ex= .ret∧s.v 4=D.bool false
 | .inr q=>ex= .exit 0
theorem Vb(a:List (List (Int×Int)))(b:List (List (Int×Int))){v:Int}{s:St}{r:Unit⊕Unit}(h:Mj a b v=some r)(hM:FQ a b v s):CF Y.env wE (H9 a b r) s:=by
 unfold Mj at h;refine BN (c:=dP) (fun v=>H8 a b v) (fun v s=>FQ a b v s) (H9 a b) ?_ h hM;clear h hM s v r;intro i s o hM h;unfold H8 at h;unfold FQ at hM;obtain⟨m0,m1,m2⟩:=hM;unfold dP;rcases iS h with⟨e2,h⟩|⟨e2,h⟩
 ·obtain⟨e3,e4,e5,h⟩:=Oa h;have c6:=jS (a.getD i.toNat default) (b.getD i.toNat default) e5;rcases iS h with⟨e7,h⟩|⟨e7,h⟩
  ·obtain rfl:=Option.some.inj h
   simp (maxDischargeDepth:=9) only [↓AP,AQ,↓reduceIte,Nat.reduceEqDiff,Nat.reduceLT,Nat.reduceAdd,m0,m1,m2,e2,e3.1,e3.2,e4.2,c6,e7,FQ,GZ]
  ·have e7f:(decide ((a.getD i.toNat default)=(b.getD i.toNat default)))=false:=Fx.mpr e7
   obtain rfl:=Option.some.inj h
   simp (maxDischargeDepth:=9) only [↓AP,AQ,↓reduceIte,Nat.reduceEqDiff,Nat.reduceLT,Nat.reduceAdd,m0,m1,m2,e2,e3.1,e3.2,e4.2,c6,e7f,FQ,H9,MP]
 ·obtain rfl:=Option.some.inj h
  simp (maxDischargeDepth:=9) only [↓AP,AQ,↓reduceIte,Nat.reduceEqDiff,Nat.reduceLT,m0,m2,e2,FQ,H9,KW]
theorem Y2(a:List (List (Int×Int)))(b:List (List (Int×Int))){r:Bool}(h:Qo a b=some r):Y.call 43 [D.sl 79 (AL (fun x=>D.sl 87 (Ay .i64 .i64 x)) a),D.sl 79 (AL (fun x=>D.sl 87 (Ay .i64 .i64 x)) b)] []=some (D.bool r,[]):=by
 refine c43 ?_ rfl;unfold k43;unfold Qo at h;rcases iS h with⟨e1,h⟩|⟨e1,h⟩
 ·obtain⟨AY,hl3,h⟩:=Ag h;try dsimp only at h
  simp (maxDischargeDepth:=9) only [↓AP,AQ,↓reduceIte,Nat.reduceEqDiff,Nat.reduceLT,decide_eq_true e1];refine Av (Vb a b hl3 ?_) ?_
  ·simp (maxDischargeDepth:=9) only [C9,DK,↓reduceIte,Nat.reduceEqDiff,Nat.reduceLT,FQ]
  ·intro ex3 s3 hX3;rcases AY with q1000_|q1000_
   ·unfold H9 at hX3;dsimp only at hX3 h;obtain⟨rfl,n3_0⟩:=hX3
    obtain rfl:=Option.some.inj h
    simp (maxDischargeDepth:=9) only [↓AP,AQ,↓reduceIte,n3_0]
   ·unfold H9 at hX3;dsimp only at hX3 h
    obtain rfl:=hX3
    obtain rfl:=Option.some.inj h
    simp (maxDischargeDepth:=9) only [↓AP,AQ,↓reduceIte,Nat.reduceEqDiff,Nat.reduceLT]
 ·obtain rfl:=Option.some.inj h
  simp (maxDischargeDepth:=9) only [↓AP,AQ,↓reduceIte,Nat.reduceEqDiff,Nat.reduceLT,e1]
theorem dQ(a b:List (List (Int×Int)))(ha:Cw a):Qo a b=some (decide (a=b)):=by
 have h1:=ha.1;unfold Qo Mj;by_cases hl:a.length=b.length
 ·rw [if_pos (by omega)]
  have key:=Db (fun v=>H8 a b v) (fun i=>(i:Int)) a.length (fun i=>decide (a.getD i default=b.getD i default)) (.inl ()) (.inr ()) ?_ ?_
  ·simp only [GY]at key;rw [key,QF a b hl];by_cases he:a=b<;>simp [he]
  ·intro i hi;simp only [H8];rw [if_pos (CJ hi),BJ (Df hi),BJ (Df (by omega)),BJ (by rw [G5 _ _ hi];exact ha.at i hi),IV,Kh i (by omega)]<;>simp only [decide_eq_true_eq]
  ·simp only [H8];rw [if_neg (Ar _)]
 ·rw [if_neg (by omega)]
  have: ¬a=b:=fun e=>hl (by rw [e])
  simp [this]
theorem dR(a:List (List (Int×Int)))(b:List (List (Int×Int)))(h0:Cw a):Y.call 43 [D.sl 79 (AL (fun x=>D.sl 87 (Ay .i64 .i64 x)) a),D.sl 79 (AL (fun x=>D.sl 87 (Ay .i64 .i64 x)) b)] []=some (D.bool (decide (a=b)),[]):=Y2 a b (dQ a b h0)
noncomputable def Nz(Ap:List (List (Int×Int)))(CB:List Int)(Aq:List Int)(NP:List (List (Int×Int)))(QS:List Int)(JP:List Int):Option (Bool):= ck (Cw Ap)<| if(decide (Ap=NP))=true then ck (CB.length<1099511627776)<| if(decide (CB=QS))=true then ck (Aq.length<1099511627776)<| if(decide (Aq=JP))=true then some true else some false else some false else some false
def k17:SC:= .seq (.ops [oX 2 (.box 38 (tK 0)) 0,oX 3 (.box 38 (tK 1)) 0,oX 4 (.assign (.const (.bool false))) 4]) (.seq (.seq (.ops [oF 5 38 2 0,oL 6 36 5 36,oF 7 38 3 0,oL 8 36 7 36,oC 9 43 [(tK 6),(tK 8)] [36,36] 4,oX 10 (.unOp .not 4 (tK 9)) 4]) (.cond (tK 10) (.seq (.ops [oX 4 (.assign (.const (.bool false))) 4]) .ret) .skip)) (.seq (.seq (.ops [oF 11 38 2 1,oL 12 26 11 26,oF 13 38 3 1,oL 14 26 13 26,oC 15 26 [(tK 12),(tK 14)] [26,26] 4,oX 16 (.unOp .not 4 (tK 15)) 4]) (.cond (tK 16) (.seq (.ops [oX 4 (.assign (.const (.bool false))) 4]) .ret) .skip)) (.seq (.seq (.ops [oF 17 38 2 2,oL 18 26 17 26,oF 19 38 3 2,oL 20 26 19 26,oC 21 26 [(tK 18),(tK 20)] [26,26] 4,oX 22 (.unOp .not 4 (tK 21)) 4]) (.cond (tK 22) (.seq (.ops [oX 4 (.assign (.const (.bool false))) 4]) .ret) .skip)) (.seq (.ops [oX 4 (.assign (.const (.bool true))) 4]) .ret))))
theorem A5D:Tryz.f17.body.map (Bf lends)=some k17:=by kernel_rfl
theorem AHk:Bz Tryz.f17 2=true:=by kernel_rfl
theorem c17{a l:List D}{r:D×List D}(h:CF Y.env k17 (ES Ae l.length [ResultVar.tmp 4] r) (entry a l))(ha:a.length=2):Y.call 17 a l=some r:=
 Ab (Y:=Y) rfl Tryz.func17 (ha▸AHk) A5D h
theorem UI(Ap:List (List (Int×Int)))(CB:List Int)(Aq:List Int)(NP:List (List (Int×Int)))(QS:List Int)(JP:List Int){r:Bool}(h:Nz Ap CB Aq NP QS JP=some r):Y.call 17 [D.agg [D.sl 79 (AL (fun x=>D.sl 87 (Ay .i64 .i64 x)) Ap),D.sl 3 (AL (D.int .i64) CB),D.sl 3 (AL (D.int .i64) Aq)],D.agg [D.sl 79 (AL (fun x=>D.sl 87 (Ay .i64 .i64 x)) NP),D.sl 3 (AL (D.int .i64) QS),D.sl 3 (AL (D.int .i64) JP)]] []=some (D.bool r,[]):=by
 refine c17 ?_ rfl;unfold k17;unfold Nz at h;obtain⟨e1,h⟩:=FK h;have c2:=dR Ap NP e1;rcases iS h with⟨e3,h⟩|⟨e3,h⟩
 ·obtain⟨e4,h⟩:=FK h;have c5:=QJ CB QS e4;rcases iS h with⟨e6,h⟩|⟨e6,h⟩
  ·obtain⟨e7,h⟩:=FK h;have c8:=QJ Aq JP e7;rcases iS h with⟨e9,h⟩|⟨e9,h⟩
   ·obtain rfl:=Option.some.inj h
    simp (maxDischargeDepth:=9) only [↓AP,AQ,↓reduceIte,Nat.reduceEqDiff,Nat.reduceLT,Nat.reduceAdd,c2,e3,c5,e6,c8,e9]
   ·have e9f:(decide (Aq=JP))=false:=Fx.mpr e9
    obtain rfl:=Option.some.inj h
    simp (maxDischargeDepth:=9) only [↓AP,AQ,↓reduceIte,Nat.reduceEqDiff,Nat.reduceLT,Nat.reduceAdd,c2,e3,c5,e6,c8,e9f]
  ·have e6f:(decide (CB=QS))=false:=Fx.mpr e6
   obtain rfl:=Option.some.inj h
   simp (maxDischargeDepth:=9) only [↓AP,AQ,↓reduceIte,Nat.reduceEqDiff,Nat.reduceLT,Nat.reduceAdd,c2,e3,c5,e6f]
 ·have e3f:(decide (Ap=NP))=false:=Fx.mpr e3
  obtain rfl:=Option.some.inj h
  simp (maxDischargeDepth:=9) only [↓AP,AQ,↓reduceIte,Nat.reduceEqDiff,Nat.reduceLT,Nat.reduceAdd,c2,e3f]
def TG(a:List (List (Int×Int)))(b c:List Int)(a':List (List (Int×Int)))(b' c':List Int):Bool:=decide (a=a'∧b=b'∧c=c')
theorem mX(a:List (List (Int×Int)))(b c:List Int):TG a b c a b c=true:=by simp [TG]
theorem Y3(a:List (List (Int×Int)))(b c:List Int)(a':List (List (Int×Int)))(b' c':List Int)(h:Cw a)(hb:b.length<1099511627776)(hc:c.length<1099511627776):Nz a b c a' b' c'=some (TG a b c a' b' c'):=by
 unfold Nz TG;rw [BJ h,BJ hb,BJ hc];by_cases h1:a=a'<;>by_cases h2:b=b'<;>by_cases h3:c=c'<;>simp [h1,h2,h3]
theorem QT(Ap:List (List (Int×Int)))(CB:List Int)(Aq:List Int)(NP:List (List (Int×Int)))(QS:List Int)(JP:List Int)(h0:Cw Ap)(h1:CB.length<1099511627776)(h2:Aq.length<1099511627776):Y.call 17 [D.agg [D.sl 79 (AL (fun x=>D.sl 87 (Ay .i64 .i64 x)) Ap),D.sl 3 (AL (D.int .i64) CB),D.sl 3 (AL (D.int .i64) Aq)],D.agg [D.sl 79 (AL (fun x=>D.sl 87 (Ay .i64 .i64 x)) NP),D.sl 3 (AL (D.int .i64) QS),D.sl 3 (AL (D.int .i64) JP)]] []=some (D.bool (TG Ap CB Aq NP QS JP),[]):=UI Ap CB Aq NP QS JP (Y3 Ap CB Aq NP QS JP h0 h1 h2)
noncomputable def TH(a:List (Int×Int))(left:Int):Option (Int):= if(IntKind.i64.wrap (left-(a.length:Int)))<0 then some (-1) else some (IntKind.i64.wrap (left-(a.length:Int)))
def k56:SC:= .seq (.ops [oX 4 (.assign (iK 0)) 3]) (.seq (.ops [oM 5 1 3,oM 6 0 78,oN 7 6 78,oB 8 .sub 3 (tK 5) (tK 7) 3 3,oA 1 8 3]) (.seq (.seq (.ops [oM 9 1 3,oB 10 .lss 3 (tK 9) (iK 0) 3 4]) (.cond (tK 10) (.seq (.ops [oX 4 (.assign (.const (.int .i64 (-1)))) 3]) .ret) .skip)) (.seq (.ops [oM 11 1 3,oA 4 11 3]) .ret)))
theorem A5E:Tryz.f56.body.map (Bf lends)=some k56:=by kernel_rfl
theorem AHm:Bz Tryz.f56 2=true:=by kernel_rfl
theorem c56{a l:List D}{r:D×List D}(h:CF Y.env k56 (ES Ae l.length [ResultVar.tmp 4] r) (entry a l))(ha:a.length=2):Y.call 56 a l=some r:=
 Ab (Y:=Y) rfl Tryz.func56 (ha▸AHm) A5E h
theorem ZT(a:List (Int×Int))(left:Int){r:Int}(h:TH a left=some r):Y.call 56 [D.sl 111 (Ay .i64 .i64 a),D.int .i64 left] []=some (D.int .i64 r,[]):=by
 refine c56 ?_ rfl;unfold k56;unfold TH at h;rcases iS h with⟨e1,h⟩|⟨e1,h⟩
 ·obtain rfl:=Option.some.inj h
  simp (maxDischargeDepth:=9) only [↓AP,AQ,↓reduceIte,Nat.reduceEqDiff,Nat.reduceLT,Int.reduceNeg,e1]
 ·obtain rfl:=Option.some.inj h
  simp (maxDischargeDepth:=9) only [↓AP,AQ,↓reduceIte,Nat.reduceEqDiff,Nat.reduceLT,Int.reduceNeg,e1]
theorem jT(a:List (Int×Int))(left:Int)(ha:a.length<9223372036854775808)(hl:0≤left∧left≤1048576):TH a left=some (FW left a.length):=by
 unfold TH FW;rw [J9 _ (by omega)]
 split<;>rfl
theorem jU(a:List (Int×Int))(left:Int)(h0:a.length<9223372036854775808)(h1:0≤left∧left≤1048576):Y.call 56 [D.sl 111 (Ay .i64 .i64 a),D.int .i64 left] []=some (D.int .i64 (FW left a.length),[]):=ZT a left (jT a left h0 h1)
noncomputable def HV(a:List (List (Int×Int)))(left1:Int)(i:Int):Option ((Int×Int)⊕(Unit⊕Int)):= if i<(a.length:Int)then ck (0≤i∧i.toNat<a.length)<| ck ((a.getD i.toNat default).length<9223372036854775808)<| ck (0≤left1∧left1≤1048576)<| if(FW left1 (a.getD i.toNat default).length)<0 then some (Sum.inr (Sum.inl ())) else some (Sum.inl ((FW left1 (a.getD i.toNat default).length),IntKind.i64.wrap (i+1))) else some (Sum.inr (Sum.inr left1))
noncomputable def IJ(a:List (List (Int×Int)))(v:Int×Int):Option (Unit⊕Int):=I4 (fun v=>HV a v.1 v.2) v
noncomputable def Qp(a:List (List (Int×Int)))(left:Int):Option (Int):=
 if(IntKind.i64.wrap (left-(a.length:Int)))<0 then
  some (-1)
 else
  (IJ a (IntKind.i64.wrap (left-(a.length:Int)),0)).bind fun AY=>
  match AY with
  | .inl q1000_=>
   some (-1)
  | .inr q1000_=>
   some q1000_
def dS:SC:= .seq (.seq (.ops [oM 12 5 3,oM 13 0 25,oN 14 13 25,oB 15 .lss 3 (tK 12) (tK 14) 3 4]) (.cond (tK 15) .skip (.exit 0))) (.seq (.block 1 (.seq (.ops [oM 18 0 25,oM 19 5 3,oI 20 25 18 19,oL 21 78 20 78,oM 22 1 3,oC 23 56 [(tK 21),(tK 22)] [78,3] 3,oA 1 23 3]) (.seq (.ops [oM 24 1 3,oB 25 .lss 3 (tK 24) (iK 0) 3 4]) (.cond (tK 25) (.seq (.ops [oX 4 (.assign (.const (.int .i64 (-1)))) 3]) .ret) .skip)))) (.ops [oM 16 5 3,oB 17 .add 3 (tK 16) (iK 1) 3 3,oA 5 17 3]))
def wF:SC:= .loop dS
def k31:SC:= .seq (.ops [oX 4 (.assign (iK 0)) 3]) (.seq (.ops [oM 6 1 3,oM 7 0 25,oN 8 7 25,oB 9 .sub 3 (tK 6) (tK 8) 3 3,oA 1 9 3]) (.seq (.seq (.ops [oM 10 1 3,oB 11 .lss 3 (tK 10) (iK 0) 3 4]) (.cond (tK 11) (.seq (.ops [oX 4 (.assign (.const (.int .i64 (-1)))) 3]) .ret) .skip)) (.seq (.seq (.ops [oX 5 (.assign (iK 0)) 3]) (.block 0 wF)) (.seq (.ops [oM 26 1 3,oA 4 26 3]) .ret))))
theorem A5F:Tryz.f31.body.map (Bf lends)=some k31:=by kernel_rfl
theorem AHo:Bz Tryz.f31 2=true:=by kernel_rfl
theorem jV{a l:List D}{r:D×List D}(h:CF Y.env k31 (ES Ae l.length [ResultVar.tmp 4] r) (entry a l))(ha:a.length=2):Y.call 31 a l=some r:=
 Ab (Y:=Y) rfl Tryz.func31 (ha▸AHo) A5F h
def FR(a:List (List (Int×Int)))(left1:Int)(i:Int)(s:St):Prop:=s.v 0=D.sl 78 (AL (fun x=>D.sl 111 (Ay .i64 .i64 x)) a)∧s.v 1=D.int .i64 left1∧s.v 5=D.int .i64 i
def HY(a:List (List (Int×Int)))(r:Unit⊕Int)(ex:Ex)(s:St):Prop:=match r with
 | .inl q=>ex= .ret∧s.v 4=D.int .i64 (-1)
 | .inr q=>ex= .exit 0∧s.v 1=D.int .i64 q
theorem Vd(a:List (List (Int×Int))){v:Int×Int}{s:St}{r:Unit⊕Int}(h:IJ a v=some r)(hM:FR a v.1 v.2 s):CF Y.env wF (HY a r) s:=by
 unfold IJ at h;refine BN (c:=dS) (fun v=>HV a v.1 v.2) (fun v s=>FR a v.1 v.2 s) (HY a) ?_ h hM;clear h hM s v r;intro v s o hM h;obtain⟨left1,i⟩:=v;dsimp only at h hM;unfold HV at h;unfold FR at hM;obtain⟨m0,m1,m2⟩:=hM;unfold dS;rcases iS h with⟨e2,h⟩|⟨e2,h⟩
 ·obtain⟨e3,e4,e5,h⟩:=Oa h;have c6:=jU (a.getD i.toNat default) left1 e4 e5;rcases iS h with⟨e7,h⟩|⟨e7,h⟩
  ·obtain rfl:=Option.some.inj h
   simp (maxDischargeDepth:=9) only [↓AP,AQ,↓reduceIte,Nat.reduceEqDiff,Nat.reduceLT,Nat.reduceAdd,Int.reduceNeg,m0,m1,m2,e2,e3.1,e3.2,c6,e7,FR,HY,MP]
  ·obtain rfl:=Option.some.inj h
   simp (maxDischargeDepth:=9) only [↓AP,AQ,↓reduceIte,Nat.reduceEqDiff,Nat.reduceLT,Nat.reduceAdd,Int.reduceNeg,m0,m1,m2,e2,e3.1,e3.2,c6,e7,FR,GZ]
 ·obtain rfl:=Option.some.inj h
  simp (maxDischargeDepth:=9) only [↓AP,AQ,↓reduceIte,Nat.reduceEqDiff,Nat.reduceLT,Int.reduceNeg,m0,m1,m2,e2,FR,HY,KW]
theorem Y4(a:List (List (Int×Int)))(left:Int){r:Int}(h:Qp a left=some r):Y.call 31 [D.sl 78 (AL (fun x=>D.sl 111 (Ay .i64 .i64 x)) a),D.int .i64 left] []=some (D.int .i64 r,[]):=by
 refine jV ?_ rfl;unfold k31;unfold Qp at h;rcases iS h with⟨e1,h⟩|⟨e1,h⟩
 ·obtain rfl:=Option.some.inj h
  simp (maxDischargeDepth:=9) only [↓AP,AQ,↓reduceIte,Nat.reduceEqDiff,Nat.reduceLT,Int.reduceNeg,e1]
 ·obtain⟨AY,hl3,h⟩:=Ag h;try dsimp only at h
  simp (maxDischargeDepth:=9) only [↓AP,AQ,↓reduceIte,Nat.reduceEqDiff,Nat.reduceLT,Int.reduceNeg,e1];refine Av (Vd a hl3 ?_) ?_
  ·simp (maxDischargeDepth:=9) only [C9,DK,↓reduceIte,Nat.reduceEqDiff,Nat.reduceLT,FR]
  ·intro ex3 s3 hX3;rcases AY with q1000_|q1000_
   ·unfold HY at hX3;dsimp only at hX3 h;obtain⟨rfl,n3_0⟩:=hX3
    obtain rfl:=Option.some.inj h
    simp (maxDischargeDepth:=9) only [↓AP,AQ,↓reduceIte,Int.reduceNeg,n3_0]
   ·unfold HY at hX3;dsimp only at hX3 h;obtain⟨rfl,n3_0⟩:=hX3
    obtain rfl:=Option.some.inj h
    simp (maxDischargeDepth:=9) only [↓AP,AQ,↓reduceIte,Nat.reduceEqDiff,Nat.reduceLT,n3_0]
def fE(l:List (List (Int×Int))):List (List Int):=l.map fun x=>x.map Prod.fst
theorem Ve(a:List (List (Int×Int)))(ha:a.length<4611686018427387904)(hx: ∀x∈a,x.length<9223372036854775808): ∀(n i:Nat) (left:Int),n=a.length-i→i≤a.length→0≤left∧left≤1048576→
  IJ a (left,(i:Int))=some (if rQ left (fE (a.drop i))= -1 then .inl ()else .inr (rQ left (fE (a.drop i)))):=by
 intro n
 induction n with
 |zero=>
  intro i left hn hi hl;have e:i=a.length:=by omega
  subst e;unfold IJ;rw [EH (r:=Sum.inr left)]
  ·rw [List.drop_length,show fE []=[]from rfl];unfold rQ;rw [if_neg (by omega)]
  ·simp only [HV];rw [if_neg (Ar _)]
 |succ n ih=>
  intro i left hn hi hl;have hlt:i<a.length:=by omega
  have hm:a[i]∈a:=OA hlt;have hxm:=hx _ hm
  have step:HV a left i=if FW left a[i].length<0 then some (Sum.inr (Sum.inl ()))else some (Sum.inl (FW left a[i].length,((i+1:Nat):Int))):=by
   unfold HV;rw [if_pos (CJ hlt),BJ (Df hlt),BJ (by rw [G5 _ _ hlt];exact hxm),BJ hl,G5 _ _ hlt,Kh i (by omega)]
  rw [WH hlt,show fE (a[i]::a.drop (i+1))=a[i].map Prod.fst::fE (a.drop (i+1))from rfl];unfold rQ;rw [VD];by_cases hq:left-(a[i].length:Int)<0
  ·rw [if_pos hq];unfold IJ;rw [EH (r:=Sum.inl ())]
   ·rfl
   ·rw [step];unfold FW;rw [if_pos hq];rfl
  ·rw [if_neg hq];have e2:FW left a[i].length=left-a[i].length:=by unfold FW;rw [if_neg hq]
   have:=ih (i+1) (left-a[i].length) (by omega) (by omega) (by omega)
   unfold IJ at this ⊢;rw [Jg (s':=(left-(a[i].length:Int),((i+1:Nat):Int))),this]
   ·rw [step,e2,if_neg hq]
def RI(l:List (List (Int×Int))):Prop:=l.length<9223372036854775808∧ ∀x∈l,x.length<9223372036854775808
instance (l:List (List (Int×Int))):Decidable (RI l):=by unfold RI;infer_instance
theorem dU(a:List (List (Int×Int)))(left:Int)(hw:RI a)(hl:0≤left∧left≤1048576):Qp a left=some (FW left (a.length+Bl (fE a))):=by
 have ht:=CU (fE a);have ha:=hw.1;unfold Qp;rw [J9 _ (by omega)]
 by_cases hq:left-(a.length:Int)<0
 ·rw [if_pos hq];unfold FW;rw [if_pos (by omega)]
 ·rw [if_neg hq];have h0:=Ve a (by omega) hw.2 a.length 0 (left-a.length) (by omega) (by omega) (by omega)
  simp only [GY,Ru]at h0;rw [h0,DJ,vQ _ _ (by omega)]
  have e:FW (left-a.length) (Bl (fE a))=FW left (a.length+Bl (fE a)):=by unfold FW;rw [show left- ↑a.length-Bl (fE a)=left-(↑a.length+Bl (fE a)) by omega]
  rw [e];by_cases h1:FW left (a.length+Bl (fE a))= -1
  ·rw [if_pos h1,h1]
  ·rw [if_neg h1]
theorem dV(a:List (List (Int×Int)))(left:Int)(h0:RI a)(h1:0≤left∧left≤1048576):Y.call 31 [D.sl 78 (AL (fun x=>D.sl 111 (Ay .i64 .i64 x)) a),D.int .i64 left] []=some (D.int .i64 (FW left (a.length+Bl (fE a))),[]):=Y4 a left (dU a left h0 h1)
noncomputable def O0(Ap:List (List (Int×Int)))(CB:List Int)(Aq:List Int)(left:Int):Option (Int):= ck (RI Ap)<| ck (0≤left∧left≤1048576)<| if(FW left (Ap.length+Bl (fE Ap)))<0 then some (-1) else ck (CB.length<9223372036854775808)<| ck (0≤(FW left (Ap.length+Bl (fE Ap)))∧(FW left (Ap.length+Bl (fE Ap)))≤1048576)<| if(FW (FW left (Ap.length+Bl (fE Ap))) CB.length)<0 then some (-1) else ck (Aq.length<9223372036854775808)<| ck (0≤(FW (FW left (Ap.length+Bl (fE Ap))) CB.length)∧(FW (FW left (Ap.length+Bl (fE Ap))) CB.length)≤1048576)<| if(FW (FW (FW left (Ap.length+Bl (fE Ap))) CB.length) Aq.length)<0 then some (-1) else some (FW (FW (FW left (Ap.length+Bl (fE Ap))) CB.length) Aq.length)
def k8:SC:= .seq (.ops [oX 2 (.box 28 (tK 0)) 0,oX 4 (.assign (iK 0)) 3]) (.seq (.ops [oF 5 28 2 0,oL 6 25 5 25,oM 7 1 3,oC 8 31 [(tK 6),(tK 7)] [25,3] 3,oA 1 8 3]) (.seq (.seq (.ops [oM 9 1 3,oB 10 .lss 3 (tK 9) (iK 0) 3 4]) (.cond (tK 10) (.seq (.ops [oX 4 (.assign (.const (.int .i64 (-1)))) 3]) .ret) .skip)) (.seq (.ops [oF 11 28 2 1,oL 12 26 11 26,oM 13 1 3,oC 14 32 [(tK 12),(tK 13)] [26,3] 3,oA 1 14 3]) (.seq (.seq (.ops [oM 15 1 3,oB 16 .lss 3 (tK 15) (iK 0) 3 4]) (.cond (tK 16) (.seq (.ops [oX 4 (.assign (.const (.int .i64 (-1)))) 3]) .ret) .skip)) (.seq (.ops [oF 17 28 2 2,oL 18 26 17 26,oM 19 1 3,oC 20 32 [(tK 18),(tK 19)] [26,3] 3,oA 1 20 3]) (.seq (.seq (.ops [oM 21 1 3,oB 22 .lss 3 (tK 21) (iK 0) 3 4]) (.cond (tK 22) (.seq (.ops [oX 4 (.assign (.const (.int .i64 (-1)))) 3]) .ret) .skip)) (.seq (.ops [oM 23 1 3,oA 4 23 3]) .ret)))))))
theorem ACT:Tryz.f8.body.map (Bf lends)=some k8:=by kernel_rfl
theorem ok8:Bz Tryz.f8 2=true:=by kernel_rfl
theorem c8{a l:List D}{r:D×List D}(h:CF Y.env k8 (ES Ae l.length [ResultVar.tmp 4] r) (entry a l))(ha:a.length=2):Y.call 8 a l=some r:=
 Ab (Y:=Y) rfl Tryz.func8 (ha▸ok8) ACT h
theorem UJ(Ap:List (List (Int×Int)))(CB:List Int)(Aq:List Int)(left:Int){r:Int}(h:O0 Ap CB Aq left=some r):Y.call 8 [D.agg [D.sl 78 (AL (fun x=>D.sl 111 (Ay .i64 .i64 x)) Ap),D.sl 3 (AL (D.int .i64) CB),D.sl 3 (AL (D.int .i64) Aq)],D.int .i64 left] []=some (D.int .i64 r,[]):=by
 refine c8 ?_ rfl;unfold k8;unfold O0 at h;obtain⟨e1,e2,h⟩:=Ei h;have c3:=dV Ap left e1 e2;rcases iS h with⟨e4,h⟩|⟨e4,h⟩
 ·obtain rfl:=Option.some.inj h
  simp (maxDischargeDepth:=9) only [↓AP,AQ,↓reduceIte,Nat.reduceEqDiff,Nat.reduceLT,Nat.reduceAdd,Int.reduceNeg,c3,e4]
 ·obtain⟨e5,e6,h⟩:=Ei h;have c7:=QK CB (FW left (Ap.length+Bl (fE Ap))) e5 e6;rcases iS h with⟨e8,h⟩|⟨e8,h⟩
  ·obtain rfl:=Option.some.inj h
   simp (maxDischargeDepth:=9) only [↓AP,AQ,↓reduceIte,Nat.reduceEqDiff,Nat.reduceLT,Nat.reduceAdd,Int.reduceNeg,c3,e4,c7,e8]
  ·obtain⟨e9,e10,h⟩:=Ei h;have o6:=QK Aq (FW (FW left (Ap.length+Bl (fE Ap))) CB.length) e9 e10;rcases iS h with⟨e12,h⟩|⟨e12,h⟩
   ·obtain rfl:=Option.some.inj h
    simp (maxDischargeDepth:=9) only [↓AP,AQ,↓reduceIte,Nat.reduceEqDiff,Nat.reduceLT,Nat.reduceAdd,Int.reduceNeg,c3,e4,c7,e8,o6,e12]
   ·obtain rfl:=Option.some.inj h
    simp (maxDischargeDepth:=9) only [↓AP,AQ,↓reduceIte,Nat.reduceEqDiff,Nat.reduceLT,Nat.reduceAdd,Int.reduceNeg,c3,e4,c7,e8,o6,e12]
def jm(left:Int)(a:List (List (Int×Int)))(b c:List Int):Int:=
 if FW left (a.length+Bl (fE a))<0 then-1 else if FW (FW left (a.length+Bl (fE a))) b.length<0 then-1 else FW (FW (FW left (a.length+Bl (fE a))) b.length) c.length
theorem Y5(a:List (List (Int×Int)))(b c:List Int)(left:Int)(ha:RI a)(hb:b.length<9223372036854775808)(hc:c.length<9223372036854775808)(hl:0≤left∧left≤1048576):O0 a b c left=some (jm left a b c):=by
 have ht:=CU (fE a);unfold O0 jm;rw [BJ ha,BJ hl];by_cases h1:FW left (a.length+Bl (fE a))<0
 ·rw [if_pos h1,if_pos h1]
 ·rw [if_neg h1,if_neg h1]
  have b1:0≤FW left (a.length+Bl (fE a))∧FW left (a.length+Bl (fE a))≤1048576:=by
   rcases Fe left (a.length+Bl (fE a))with c|⟨c,c'⟩<;>omega
  rw [BJ hb,BJ b1];by_cases h2:FW (FW left (a.length+Bl (fE a))) b.length<0
  ·rw [if_pos h2,if_pos h2]
  ·rw [if_neg h2,if_neg h2]
   have b2:0≤FW (FW left (a.length+Bl (fE a))) b.length∧FW (FW left (a.length+Bl (fE a))) b.length≤1048576:=by
    rcases Fe (FW left (a.length+Bl (fE a))) b.length with c|⟨c,c'⟩<;>omega
   rw [BJ hc,BJ b2];by_cases h3:FW (FW (FW left (a.length+Bl (fE a))) b.length) c.length<0
   ·rw [if_pos h3];rcases Fe (FW (FW left (a.length+Bl (fE a))) b.length) c.length with d|⟨d,d'⟩
    ·rw [d]
    ·omega
   ·rw [if_neg h3]
theorem Y6(Ap:List (List (Int×Int)))(CB:List Int)(Aq:List Int)(left:Int)(h0:RI Ap)(h1:CB.length<9223372036854775808)(h2:Aq.length<9223372036854775808)(h3:0≤left∧left≤1048576):Y.call 8 [D.agg [D.sl 78 (AL (fun x=>D.sl 111 (Ay .i64 .i64 x)) Ap),D.sl 3 (AL (D.int .i64) CB),D.sl 3 (AL (D.int .i64) Aq)],D.int .i64 left] []=some (D.int .i64 (jm left Ap CB Aq),[]):=UJ Ap CB Aq left (Y5 Ap CB Aq left h0 h1 h2 h3)
theorem zR{a:List (List (Int×Int))}{b c:List Int}{left:Int}(hl:left≤1048576)(h: ¬jm left a b c<0):a.length+Bl (fE a)+b.length+c.length≤1048576∧Cw a∧jm left a b c≤left:=by
 have ht:=CU (fE a)
 have key:(a.length:Int)+Bl (fE a)+b.length+c.length≤1048576∧jm left a b c≤left:=by
  unfold jm at h ⊢;rcases Fe left (a.length+Bl (fE a))with d|⟨d,d'⟩
  ·rw [d]at h;simp at h
  ·rw [d,if_neg (by omega)]at h
   rw [d,if_neg (by omega)]
   rcases Fe (left-(a.length+Bl (fE a))) b.length with e|⟨e,e'⟩
   ·rw [e]at h;simp at h
   ·rw [e,if_neg (by omega)]at h
    rw [e,if_neg (by omega)]
    rcases Fe (left-(a.length+Bl (fE a))-b.length) c.length with g|⟨g,g'⟩
    ·rw [g]at h;simp at h
    ·rw [g];omega
 refine⟨key.1,⟨by omega,fun x hx=> ?_⟩,key.2⟩
 have:x.map Prod.fst∈fE a:=Mx.2 ⟨x,hx,rfl⟩
 have:=o5 this
 rw [VD]at this;omega
theorem wG{l:List (List (Int×Int))}(h:mD l):RI l:=⟨kC h.1 (by decide),fun x hx=>kC (h.2 x hx).1 (by decide)⟩
end Go.Proofs.YtiehjihckndgkaaGreat
