/- Copies, comparisons, sizes and marks of numbers in lists, as plain functions. Conditions: the lists are short. -/
import Derived.Test.YtjhjkfoabhplfaaGreatL6
import Derived.Test.YtjhjkfoabhplfaaGreatDt
namespace Go.Proofs.YtjhjkfoabhplfaaGreat
open Go Dv
set_option linter.unusedSimpArgs false
set_option linter.unusedVariables false
set_option maxRecDepth 100000
set_option maxHeartbeats 4000000
def Ai(l:List (List Int)):Prop:=l.length<1099511627776∧ ∀x∈l,x.length<1099511627776
theorem Ai.nil:Ai []:=⟨by decide,fun _ h=>by cases h⟩
theorem Ai.at{l:List (List Int)}(h:Ai l)(i:Nat)(hi:i<l.length):l[i].length<1099511627776:=h.2 _ (List.getElem_mem hi)
instance (l:List (List Int)):Decidable (Ai l):=by unfold Ai;infer_instance
theorem kN{α:Type}[Inhabited α](xs:List α)(i:Nat)(h:i<xs.length)(z:α):(xs.take i++List.replicate (xs.length-i) z).set i xs[i]=xs.take (i+1)++List.replicate (xs.length-(i+1)) z:=by
 have e:xs.length-i=(xs.length-(i+1))+1:=by omega
 rw [e,List.replicate_succ,List.set_append_right _ _ (by simp;omega),List.take_succ_eq_append_getElem h]
 have:i-(xs.take i).length=0:=by simp;omega
 rw [this,List.set_cons_zero,List.append_assoc];rfl
noncomputable def Gn(a out:List Int)(i:Int):Option (((List Int)×Int)⊕((List Int))):= if i<(a.length:Int)then ck (0≤i∧i.toNat<a.length)<| ck (0≤i∧i.toNat<out.length)<| some (Sum.inl ((out.set i.toNat (a.getD i.toNat default)),IntKind.i64.wrap (i+1))) else some (Sum.inr out)
noncomputable def MR(a:List Int)(v:(List Int)×Int):Option ((List Int)):=Gb (fun v=>Gn a v.1 v.2) v
noncomputable def Qv(a:List Int):Option ((List Int)):= ck (0≤(a.length:Int)∧(a.length:Int)<1099511627776)<| (MR a ((List.replicate a.length 0),0)).bind fun D6=> some D6
def Yk:SC:= .seq (.seq (.ops [oM 8 4 3,oM 9 0 27,oN 10 9 27,oB 11 .lss 3 (tK 8) (tK 10) 3 4]) (.cond (tK 11) .skip (.exit 0))) (.seq (.block 1 (.ops [oM 14 3 27,oM 15 4 3,oM 16 0 27,oM 17 4 3,oI 18 27 16 17,oL 19 3 18 3,oI 20 27 14 15,oS 3 20 19])) (.ops [oM 12 4 3,oB 13 .add 3 (tK 12) (iK 1) 3 3,oA 4 13 3]))
def rz:SC:= .loop Yk
def k37:SC:= .seq (.ops [oX 2 (.assign (.const (.slice none 0 0))) 27]) (.seq (.ops [oM 5 0 27,oN 6 5 27,oX 7 (.makeSlice 27 (tK 6) (tK 6)) 27,oA 3 7 27]) (.seq (.seq (.ops [oX 4 (.assign (iK 0)) 3]) (.block 0 rz)) (.seq (.ops [oM 21 3 27,oA 2 21 27]) .ret)))
theorem A2s:Tryz.f37.body.map (BO lends)=some k37:=by kernel_rfl
theorem AHq:Bi Tryz.f37 1=true:=by kernel_rfl
theorem Wt{a l:List D}{r:D×List D}(h:Bf Y.env k37 (EG AV l.length [ResultVar.tmp 2] r) (entry a l))(ha:a.length=1):Y.call 37 a l=some r:=
 AL (Y:=Y) rfl Tryz.func37 (ha▸AHq) A2s h
def Gp(a out:List Int)(i:Int)(s:St):Prop:=s.v 0=D.sl 3 (AB (D.int .i64) a)∧s.v 3=D.own 3 (AB (D.int .i64) out)∧s.v 4=D.int .i64 i
def KE(a:List Int)(r:(List Int))(ex:Ex)(s:St):Prop:=ex= .exit 0∧s.v 3=D.own 3 (AB (D.int .i64) r)
theorem VP(a:List Int){v:(List Int)×Int}{s:St}{r:(List Int)}(h:MR a v=some r)(hM:Gp a v.1 v.2 s):Bf Y.env rz (KE a r) s:=by
 unfold MR at h;refine BA (c:=Yk) (fun v=>Gn a v.1 v.2) (fun v s=>Gp a v.1 v.2 s) (KE a) ?_ h hM;clear h hM s v r;intro v s o hM h;obtain⟨out,i⟩:=v;dsimp only at h hM;unfold Gn at h;unfold Gp at hM;obtain⟨m0,m1,m2⟩:=hM;unfold Yk;by_cases e2:i<(a.length:Int)
 ·rw [if_pos e2]at h;obtain⟨e3,h⟩:=Av h;obtain⟨e4,h⟩:=Av h;cases h;simp (maxDischargeDepth:=9) only [↓AC,A7,AO,AA,AJ,↓reduceIte,Nat.reduceEqDiff,Nat.reduceLT,m0,m1,m2,e2,e3.1,e3.2,e4.2,Gp,FD]
 ·rw [if_neg e2]at h;cases h;simp (maxDischargeDepth:=9) only [↓AC,A7,AO,AJ,↓reduceIte,Nat.reduceEqDiff,Nat.reduceLT,m0,m1,m2,e2,Gp,KE,JH]
theorem Wu(a:List Int){r:(List Int)}(h:Qv a=some r):Y.call 37 [D.sl 3 (AB (D.int .i64) a)] []=some (D.own 3 (AB (D.int .i64) r),[]):=by
 refine Wt ?_ rfl;unfold k37;unfold Qv at h;obtain⟨e1,h⟩:=Av h;obtain⟨D6,hl3,h⟩:=AU h;try dsimp only at h
 simp (maxDischargeDepth:=9) only [↓AC,A7,AO,AA,AJ,↓reduceIte,Nat.reduceEqDiff,Nat.reduceLT,Nat.reduceLeDiff,e1.1,e1.2];refine Ag (VP a hl3 ?_) ?_
 ·simp (maxDischargeDepth:=9) only [A7,AA,↓reduceIte,Nat.reduceEqDiff,Nat.reduceLT,Gp]
 ·intro ex3 s3 hX3;unfold KE at hX3;obtain⟨rfl,n3_0⟩:=hX3;cases h;simp (maxDischargeDepth:=9) only [↓AC,A7,AO,AA,↓reduceIte,Nat.reduceEqDiff,Nat.reduceLT,n3_0]
theorem dZ(a:List Int)(h:a.length<1099511627776):Qv a=some a:=by
 have key:=Be (fun v=>Gn a v.1 v.2) (fun i=>(a.take i++List.replicate (a.length-i) 0,(i:Int))) a.length a ?_ ?_
 ·unfold Qv MR;rw [Az (by omega)]
  simp only [List.take_zero,List.nil_append,Nat.sub_zero,Int.natCast_zero]at key;rw [key];rfl
 ·intro i hi;simp only [Gn];rw [if_pos (CJ hi),Az (FH hi),Az (FH (by simp;omega)),JW _ _ hi,Int.toNat_natCast,kN a i hi 0,JM i (by omega)]
 ·simp only [Gn];rw [if_neg (Ak _)];simp
theorem df(a:List Int)(h0:a.length<1099511627776):Y.call 37 [D.sl 3 (AB (D.int .i64) a)] []=some (D.own 3 (AB (D.int .i64) a),[]):=Wu a (dZ a h0)
noncomputable def Fe(a out:List (List Int))(i:Int):Option (((List (List Int))×Int)⊕((List (List Int)))):= if i<(a.length:Int)then ck (0≤i∧i.toNat<a.length)<| ck ((a.getD i.toNat default).length<1099511627776)<| ck (0≤i∧i.toNat<out.length)<| some (Sum.inl ((out.set i.toNat (a.getD i.toNat default)),IntKind.i64.wrap (i+1))) else some (Sum.inr out)
noncomputable def LD(a:List (List Int))(v:(List (List Int))×Int):Option ((List (List Int))):=Gb (fun v=>Fe a v.1 v.2) v
noncomputable def PQ(a:List (List Int)):Option ((List (List Int))):= ck (0≤(a.length:Int)∧(a.length:Int)<1099511627776)<| (LD a ((List.replicate a.length ([]:List Int)),0)).bind fun D6=> some D6
def Yl:SC:= .seq (.seq (.ops [oM 8 4 3,oM 9 0 22,oN 10 9 22,oB 11 .lss 3 (tK 8) (tK 10) 3 4]) (.cond (tK 11) .skip (.exit 0))) (.seq (.block 1 (.ops [oM 14 3 22,oM 15 4 3,oM 16 0 22,oM 17 4 3,oI 18 22 16 17,oL 19 27 18 27,oC 20 37 [(tK 19)] [27] 27,oI 21 22 14 15,oS 27 21 20])) (.ops [oM 12 4 3,oB 13 .add 3 (tK 12) (iK 1) 3 3,oA 4 13 3]))
def sD:SC:= .loop Yl
def k23:SC:= .seq (.ops [oX 2 (.assign (.const (.slice none 0 0))) 22]) (.seq (.ops [oM 5 0 22,oN 6 5 22,oX 7 (.makeSlice 22 (tK 6) (tK 6)) 22,oA 3 7 22]) (.seq (.seq (.ops [oX 4 (.assign (iK 0)) 3]) (.block 0 sD)) (.seq (.ops [oM 22 3 22,oA 2 22 22]) .ret)))
theorem A2t:Tryz.f23.body.map (BO lends)=some k23:=by kernel_rfl
theorem AHs:Bi Tryz.f23 1=true:=by kernel_rfl
theorem PR{a l:List D}{r:D×List D}(h:Bf Y.env k23 (EG AV l.length [ResultVar.tmp 2] r) (entry a l))(ha:a.length=1):Y.call 23 a l=some r:=
 AL (Y:=Y) rfl Tryz.func23 (ha▸AHs) A2t h
def Ff(a out:List (List Int))(i:Int)(s:St):Prop:=s.v 0=D.sl 27 (AB (fun x=>D.sl 3 (AB (D.int .i64) x)) a)∧s.v 3=D.own 27 (AB (fun x=>D.own 3 (AB (D.int .i64) x)) out)∧s.v 4=D.int .i64 i
def JX(a:List (List Int))(r:(List (List Int)))(ex:Ex)(s:St):Prop:=ex= .exit 0∧s.v 3=D.own 27 (AB (fun x=>D.own 3 (AB (D.int .i64) x)) r)
theorem Tp(a:List (List Int)){v:(List (List Int))×Int}{s:St}{r:(List (List Int))}(h:LD a v=some r)(hM:Ff a v.1 v.2 s):Bf Y.env sD (JX a r) s:=by
 unfold LD at h;refine BA (c:=Yl) (fun v=>Fe a v.1 v.2) (fun v s=>Ff a v.1 v.2 s) (JX a) ?_ h hM;clear h hM s v r;intro v s o hM h;obtain⟨out,i⟩:=v;dsimp only at h hM;unfold Fe at h;unfold Ff at hM;obtain⟨m0,m1,m2⟩:=hM;unfold Yl;by_cases e2:i<(a.length:Int)
 ·rw [if_pos e2]at h;obtain⟨e3,h⟩:=Av h;obtain⟨e4,h⟩:=Av h;have c5:=df (a.getD i.toNat default) e4;obtain⟨e6,h⟩:=Av h;cases h;simp (maxDischargeDepth:=9) only [↓AC,A7,AO,BM,AA,AJ,↓reduceIte,Nat.reduceEqDiff,Nat.reduceLT,Nat.reduceAdd,m0,m1,m2,e2,e3.1,e3.2,c5,e6.2,Ff,FD]
 ·rw [if_neg e2]at h;cases h;simp (maxDischargeDepth:=9) only [↓AC,A7,AO,AJ,↓reduceIte,Nat.reduceEqDiff,Nat.reduceLT,m0,m1,m2,e2,Ff,JX,JH]
theorem VQ(a:List (List Int)){r:(List (List Int))}(h:PQ a=some r):Y.call 23 [D.sl 27 (AB (fun x=>D.sl 3 (AB (D.int .i64) x)) a)] []=some (D.own 27 (AB (fun x=>D.own 3 (AB (D.int .i64) x)) r),[]):=by
 refine PR ?_ rfl;unfold k23;unfold PQ at h;obtain⟨e1,h⟩:=Av h;obtain⟨D6,hl3,h⟩:=AU h;try dsimp only at h
 simp (maxDischargeDepth:=9) only [↓AC,A7,AO,AA,AJ,↓reduceIte,Nat.reduceEqDiff,Nat.reduceLT,Nat.reduceLeDiff,e1.1,e1.2];refine Ag (Tp a hl3 ?_) ?_
 ·simp (maxDischargeDepth:=9) only [A7,AA,↓reduceIte,Nat.reduceEqDiff,Nat.reduceLT,Ff]
 ·intro ex3 s3 hX3;unfold JX at hX3;obtain⟨rfl,n3_0⟩:=hX3;cases h;simp (maxDischargeDepth:=9) only [↓AC,A7,AO,AA,↓reduceIte,Nat.reduceEqDiff,Nat.reduceLT,n3_0]
theorem Ym(a:List (List Int))(h:Ai a):PQ a=some a:=by
 have h1:=h.1;have key:=Be (fun v=>Fe a v.1 v.2) (fun i=>(a.take i++List.replicate (a.length-i) [],(i:Int))) a.length a ?_ ?_
 ·unfold PQ LD;rw [Az (by omega)]
  simp only [List.take_zero,List.nil_append,Nat.sub_zero,Int.natCast_zero]at key;rw [key];rfl
 ·intro i hi;simp only [Fe];rw [if_pos (CJ hi),Az (FH hi),Az (by rw [JW _ _ hi];exact h.at i hi),Az (FH (by simp;omega)),JW _ _ hi,Int.toNat_natCast,kN a i hi [],JM i (by omega)]
 ·simp only [Fe];rw [if_neg (Ak _)];simp
theorem Qw(a:List (List Int))(h0:Ai a):Y.call 23 [D.sl 27 (AB (fun x=>D.sl 3 (AB (D.int .i64) x)) a)] []=some (D.own 27 (AB (fun x=>D.own 3 (AB (D.int .i64) x)) a),[]):=VQ a (Ym a h0)
noncomputable def Gq(a b:List Int)(i:Int):Option ((Int)⊕(Unit⊕Unit)):= if i<(a.length:Int)then ck (0≤i∧i.toNat<a.length)<| ck (0≤i∧i.toNat<b.length)<| if(a.getD i.toNat default)=(b.getD i.toNat default)then some (Sum.inl (IntKind.i64.wrap (i+1))) else some (Sum.inr (Sum.inl ())) else some (Sum.inr (Sum.inr ()))
noncomputable def MS(a b:List Int)(v:Int):Option (Unit⊕Unit):=Gb (fun v=>Gq a b v) v
noncomputable def Qx(a b:List Int):Option (Bool):=
 if(a.length:Int)=(b.length:Int)then
  (MS a b 0).bind fun D6=>
  match D6 with
  | .inl q3_=>
   some false
  | .inr q3_=>
   some true
 else
  some false
def Yn:SC:= .seq (.seq (.ops [oM 11 5 3,oM 12 0 27,oN 13 12 27,oB 14 .lss 3 (tK 11) (tK 13) 3 4]) (.cond (tK 14) .skip (.exit 0))) (.seq (.block 1 (.seq (.draws [(⟨[17,0,0],[17,18,19,20,21,22,23,24,25],[17]⟩,oM 17 0 27),(⟨[18,5,5],[17,18,19,20,21,22,23,24,25],[18]⟩,oM 18 5 3),(⟨[19,17,18,0,5],[17,18,19,20,21,22,23,24,25],[19]⟩,oI 19 27 17 18),(⟨[20,19,0],[17,18,19,20,21,22,23,24,25],[20]⟩,oL 20 3 19 3),(⟨[21,1,1],[17,18,19,20,21,22,23,24,25],[21]⟩,oM 21 1 27),(⟨[22,5,5],[17,18,19,20,21,22,23,24,25],[22]⟩,oM 22 5 3),(⟨[23,21,22,1,5],[17,18,19,20,21,22,23,24,25],[23]⟩,oI 23 27 21 22),(⟨[24,23,1],[17,18,19,20,21,22,23,24,25],[24]⟩,oL 24 3 23 3),(⟨[25,20,24,0,1],[17,18,19,20,21,22,23,24,25],[25]⟩,oB 25 .neq 3 (tK 20) (tK 24) 3 4)]) (.cond (tK 25) (.seq (.ops [oX 4 (.assign (.const (.bool false))) 4]) .ret) .skip))) (.ops [oM 15 5 3,oB 16 .add 3 (tK 15) (iK 1) 3 3,oA 5 16 3]))
def sG:SC:= .loop Yn
def k11:SC:= .seq (.ops [oX 4 (.assign (.const (.bool false))) 4]) (.seq (.seq (.ops [oM 6 0 27,oN 7 6 27,oM 8 1 27,oN 9 8 27,oB 10 .neq 3 (tK 7) (tK 9) 3 4]) (.cond (tK 10) (.seq (.ops [oX 4 (.assign (.const (.bool false))) 4]) .ret) .skip)) (.seq (.seq (.ops [oX 5 (.assign (iK 0)) 3]) (.block 0 sG)) (.seq (.ops [oX 4 (.assign (.const (.bool true))) 4]) .ret)))
theorem A2u:Tryz.f11.body.map (BO lends)=some k11:=by kernel_rfl
theorem AHu:Bi Tryz.f11 2=true:=by kernel_rfl
theorem aI{a l:List D}{r:D×List D}(h:Bf Y.env k11 (EG AV l.length [ResultVar.tmp 4] r) (entry a l))(ha:a.length=2):Y.call 11 a l=some r:=
 AL (Y:=Y) rfl Tryz.func11 (ha▸AHu) A2u h
def FI(a b:List Int)(i:Int)(s:St):Prop:=s.v 0=D.sl 3 (AB (D.int .i64) a)∧s.v 1=D.sl 3 (AB (D.int .i64) b)∧s.v 5=D.int .i64 i
def Gr(a b:List Int)(r:Unit⊕Unit)(ex:Ex)(s:St):Prop:=match r with
 | .inl q=>ex= .ret∧s.v 4=D.bool false
 | .inr q=>ex= .exit 0
theorem VS(a b:List Int){v:Int}{s:St}{r:Unit⊕Unit}(h:MS a b v=some r)(hM:FI a b v s):Bf Y.env sG (Gr a b r) s:=by
 unfold MS at h;refine BA (c:=Yn) (fun v=>Gq a b v) (fun v s=>FI a b v s) (Gr a b) ?_ h hM;clear h hM s v r;intro i s o hM h;unfold Gq at h;unfold FI at hM;obtain⟨m0,m1,m2⟩:=hM;unfold Yn;by_cases e2:i<(a.length:Int)
 ·rw [if_pos e2]at h;obtain⟨e3,h⟩:=Av h;obtain⟨e4,h⟩:=Av h;by_cases e5:(a.getD i.toNat default)=(b.getD i.toNat default)
  ·rw [if_pos e5]at h;cases h;simp (maxDischargeDepth:=9) only [↓AC,A7,AO,AA,AJ,↓reduceIte,Nat.reduceEqDiff,Nat.reduceLT,m0,m1,m2,e2,e3.1,e3.2,e4.2,decide_eq_true e5,FI,FD]
  ·rw [if_neg e5]at h;cases h;simp (maxDischargeDepth:=9) only [↓AC,A7,AO,AA,AJ,↓reduceIte,Nat.reduceEqDiff,Nat.reduceLT,m0,m1,m2,e2,e3.1,e3.2,e4.2,e5,FI,Gr,Pz]
 ·rw [if_neg e2]at h;cases h;simp (maxDischargeDepth:=9) only [↓AC,A7,AO,AJ,↓reduceIte,Nat.reduceEqDiff,Nat.reduceLT,m0,m2,e2,FI,Gr,JH]
theorem Wv(a b:List Int){r:Bool}(h:Qx a b=some r):Y.call 11 [D.sl 3 (AB (D.int .i64) a),D.sl 3 (AB (D.int .i64) b)] []=some (D.bool r,[]):=by
 refine aI ?_ rfl;unfold k11;unfold Qx at h;by_cases e1:(a.length:Int)=(b.length:Int)
 ·rw [if_pos e1]at h;obtain⟨D6,hl3,h⟩:=AU h;try dsimp only at h
  simp (maxDischargeDepth:=9) only [↓AC,A7,AO,AA,AJ,↓reduceIte,Nat.reduceEqDiff,Nat.reduceLT,decide_eq_true e1];refine Ag (VS a b hl3 ?_) ?_
  ·simp (maxDischargeDepth:=9) only [A7,AA,↓reduceIte,Nat.reduceEqDiff,Nat.reduceLT,FI]
  ·intro ex3 s3 hX3;rcases D6 with q3_ | q3_
   ·unfold Gr at hX3;dsimp only at hX3 h;obtain⟨rfl,n3_0⟩:=hX3;cases h;simp (maxDischargeDepth:=9) only [↓AC,A7,AA,↓reduceIte,n3_0]
   ·unfold Gr at hX3;dsimp only at hX3 h
    obtain rfl:=hX3
    cases h;simp (maxDischargeDepth:=9) only [↓AC,A7,AA,AJ,↓reduceIte,Nat.reduceEqDiff,Nat.reduceLT]
 ·rw [if_neg e1]at h;cases h;simp (maxDischargeDepth:=9) only [↓AC,A7,AO,AA,AJ,↓reduceIte,Nat.reduceEqDiff,Nat.reduceLT,e1]
theorem dh(a b:List Int)(ha:a.length<1099511627776):Qx a b=some (decide (a=b)):=by
 unfold Qx MS;by_cases hl:a.length=b.length
 ·rw [if_pos (by omega)]
  have key:=MN (fun v=>Gq a b v) (fun i=>(i:Int)) a.length (fun i=>decide (a.getD i default=b.getD i default)) (.inl ()) (.inr ()) ?_ ?_
  ·simp only [Int.natCast_zero]at key;rw [key,VK a b hl];by_cases he:a=b<;>simp [he]
  ·intro i hi;simp only [Gq];rw [if_pos (CJ hi),Az (FH hi),Az (FH (by omega)),Int.toNat_natCast,JM i (by omega)]<;>simp only [decide_eq_true_eq]
  ·simp only [Gq];rw [if_neg (Ak _)]
 ·rw [if_neg (by omega)]
  have: ¬a=b:=fun e=>hl (by rw [e])
  simp [this]
theorem CQ(a b:List Int)(h0:a.length<1099511627776):Y.call 11 [D.sl 3 (AB (D.int .i64) a),D.sl 3 (AB (D.int .i64) b)] []=some (D.bool (decide (a=b)),[]):=Wv a b (dh a b h0)
noncomputable def Fg(a b:List (List Int))(i:Int):Option ((Int)⊕(Unit⊕Unit)):= if i<(a.length:Int)then ck (0≤i∧i.toNat<a.length)<| ck (0≤i∧i.toNat<b.length)<| ck ((a.getD i.toNat default).length<1099511627776)<| if(decide ((a.getD i.toNat default)=(b.getD i.toNat default)))=true then some (Sum.inl (IntKind.i64.wrap (i+1))) else some (Sum.inr (Sum.inl ())) else some (Sum.inr (Sum.inr ()))
noncomputable def LF(a b:List (List Int))(v:Int):Option (Unit⊕Unit):=Gb (fun v=>Fg a b v) v
noncomputable def PS(a b:List (List Int)):Option (Bool):=
 if(a.length:Int)=(b.length:Int)then
  (LF a b 0).bind fun D6=>
  match D6 with
  | .inl q3_=>
   some false
  | .inr q3_=>
   some true
 else
  some false
def Yo:SC:= .seq (.seq (.ops [oM 11 5 3,oM 12 0 22,oN 13 12 22,oB 14 .lss 3 (tK 11) (tK 13) 3 4]) (.cond (tK 14) .skip (.exit 0))) (.seq (.block 1 (.seq (.draws [(⟨[17,0,0],[17,18,19,20,21,22,23,24,25,26],[17]⟩,oM 17 0 22),(⟨[18,5,5],[17,18,19,20,21,22,23,24,25,26],[18]⟩,oM 18 5 3),(⟨[19,17,18,0,5],[17,18,19,20,21,22,23,24,25,26],[19]⟩,oI 19 22 17 18),(⟨[20,19,0],[17,18,19,20,21,22,23,24,25,26],[20]⟩,oL 20 27 19 27),(⟨[21,1,1],[17,18,19,20,21,22,23,24,25,26],[21]⟩,oM 21 1 22),(⟨[22,5,5],[17,18,19,20,21,22,23,24,25,26],[22]⟩,oM 22 5 3),(⟨[23,21,22,1,5],[17,18,19,20,21,22,23,24,25,26],[23]⟩,oI 23 22 21 22),(⟨[24,23,1],[17,18,19,20,21,22,23,24,25,26],[24]⟩,oL 24 27 23 27),(⟨[25,20,24,0,1],[17,18,19,20,21,22,23,24,25,26],[25]⟩,oC 25 11 [(tK 20),(tK 24)] [27,27] 4),(⟨[26,25,25],[17,18,19,20,21,22,23,24,25,26],[26]⟩,oX 26 (.unOp .not 4 (tK 25)) 4)]) (.cond (tK 26) (.seq (.ops [oX 4 (.assign (.const (.bool false))) 4]) .ret) .skip))) (.ops [oM 15 5 3,oB 16 .add 3 (tK 15) (iK 1) 3 3,oA 5 16 3]))
def sI:SC:= .loop Yo
def k26:SC:= .seq (.ops [oX 4 (.assign (.const (.bool false))) 4]) (.seq (.seq (.ops [oM 6 0 22,oN 7 6 22,oM 8 1 22,oN 9 8 22,oB 10 .neq 3 (tK 7) (tK 9) 3 4]) (.cond (tK 10) (.seq (.ops [oX 4 (.assign (.const (.bool false))) 4]) .ret) .skip)) (.seq (.seq (.ops [oX 5 (.assign (iK 0)) 3]) (.block 0 sI)) (.seq (.ops [oX 4 (.assign (.const (.bool true))) 4]) .ret)))
theorem A2v:Tryz.f26.body.map (BO lends)=some k26:=by kernel_rfl
theorem AHw:Bi Tryz.f26 2=true:=by kernel_rfl
theorem aJ{a l:List D}{r:D×List D}(h:Bf Y.env k26 (EG AV l.length [ResultVar.tmp 4] r) (entry a l))(ha:a.length=2):Y.call 26 a l=some r:=
 AL (Y:=Y) rfl Tryz.func26 (ha▸AHw) A2v h
def Ef(a b:List (List Int))(i:Int)(s:St):Prop:=s.v 0=D.sl 27 (AB (fun x=>D.sl 3 (AB (D.int .i64) x)) a)∧s.v 1=D.sl 27 (AB (fun x=>D.sl 3 (AB (D.int .i64) x)) b)∧s.v 5=D.int .i64 i
def Fh(a b:List (List Int))(r:Unit⊕Unit)(ex:Ex)(s:St):Prop:=match r with
 | .inl q=>ex= .ret∧s.v 4=D.bool false
 | .inr q=>ex= .exit 0
theorem Tq(a b:List (List Int)){v:Int}{s:St}{r:Unit⊕Unit}(h:LF a b v=some r)(hM:Ef a b v s):Bf Y.env sI (Fh a b r) s:=by
 unfold LF at h;refine BA (c:=Yo) (fun v=>Fg a b v) (fun v s=>Ef a b v s) (Fh a b) ?_ h hM;clear h hM s v r;intro i s o hM h;unfold Fg at h;unfold Ef at hM;obtain⟨m0,m1,m2⟩:=hM;unfold Yo;by_cases e2:i<(a.length:Int)
 ·rw [if_pos e2]at h;obtain⟨e3,h⟩:=Av h;obtain⟨e4,h⟩:=Av h;obtain⟨e5,h⟩:=Av h;have c6:=CQ (a.getD i.toNat default) (b.getD i.toNat default) e5;by_cases e7:(decide ((a.getD i.toNat default)=(b.getD i.toNat default)))=true
  ·rw [if_pos e7]at h;cases h;simp (maxDischargeDepth:=9) only [↓AC,A7,AO,BM,AA,AJ,↓reduceIte,Nat.reduceEqDiff,Nat.reduceLT,Nat.reduceAdd,m0,m1,m2,e2,e3.1,e3.2,e4.2,c6,e7,Ef,FD]
  ·rw [if_neg e7]at h;have e7f:(decide ((a.getD i.toNat default)=(b.getD i.toNat default)))=false:=Bool.eq_false_iff.mpr e7;cases h;simp (maxDischargeDepth:=9) only [↓AC,A7,AO,BM,AA,AJ,↓reduceIte,Nat.reduceEqDiff,Nat.reduceLT,Nat.reduceAdd,m0,m1,m2,e2,e3.1,e3.2,e4.2,c6,e7f,Ef,Fh,Pz]
 ·rw [if_neg e2]at h;cases h;simp (maxDischargeDepth:=9) only [↓AC,A7,AO,AJ,↓reduceIte,Nat.reduceEqDiff,Nat.reduceLT,m0,m2,e2,Ef,Fh,JH]
theorem VT(a b:List (List Int)){r:Bool}(h:PS a b=some r):Y.call 26 [D.sl 27 (AB (fun x=>D.sl 3 (AB (D.int .i64) x)) a),D.sl 27 (AB (fun x=>D.sl 3 (AB (D.int .i64) x)) b)] []=some (D.bool r,[]):=by
 refine aJ ?_ rfl;unfold k26;unfold PS at h;by_cases e1:(a.length:Int)=(b.length:Int)
 ·rw [if_pos e1]at h;obtain⟨D6,hl3,h⟩:=AU h;try dsimp only at h
  simp (maxDischargeDepth:=9) only [↓AC,A7,AO,AA,AJ,↓reduceIte,Nat.reduceEqDiff,Nat.reduceLT,decide_eq_true e1];refine Ag (Tq a b hl3 ?_) ?_
  ·simp (maxDischargeDepth:=9) only [A7,AA,↓reduceIte,Nat.reduceEqDiff,Nat.reduceLT,Ef]
  ·intro ex3 s3 hX3;rcases D6 with q3_ | q3_
   ·unfold Fh at hX3;dsimp only at hX3 h;obtain⟨rfl,n3_0⟩:=hX3;cases h;simp (maxDischargeDepth:=9) only [↓AC,A7,AA,↓reduceIte,n3_0]
   ·unfold Fh at hX3;dsimp only at hX3 h
    obtain rfl:=hX3
    cases h;simp (maxDischargeDepth:=9) only [↓AC,A7,AA,AJ,↓reduceIte,Nat.reduceEqDiff,Nat.reduceLT]
 ·rw [if_neg e1]at h;cases h;simp (maxDischargeDepth:=9) only [↓AC,A7,AO,AA,AJ,↓reduceIte,Nat.reduceEqDiff,Nat.reduceLT,e1]
theorem Yp(a b:List (List Int))(ha:Ai a):PS a b=some (decide (a=b)):=by
 have h1:=ha.1;unfold PS LF;by_cases hl:a.length=b.length
 ·rw [if_pos (by omega)]
  have key:=MN (fun v=>Fg a b v) (fun i=>(i:Int)) a.length (fun i=>decide (a.getD i default=b.getD i default)) (.inl ()) (.inr ()) ?_ ?_
  ·simp only [Int.natCast_zero]at key;rw [key,VK a b hl];by_cases he:a=b<;>simp [he]
  ·intro i hi;simp only [Fg];rw [if_pos (CJ hi),Az (FH hi),Az (FH (by omega)),Az (by rw [JW _ _ hi];exact ha.at i hi),Int.toNat_natCast,JM i (by omega)]<;>simp only [decide_eq_true_eq]
  ·simp only [Fg];rw [if_neg (Ak _)]
 ·rw [if_neg (by omega)]
  have: ¬a=b:=fun e=>hl (by rw [e])
  simp [this]
theorem Qy(a b:List (List Int))(h0:Ai a):Y.call 26 [D.sl 27 (AB (fun x=>D.sl 3 (AB (D.int .i64) x)) a),D.sl 27 (AB (fun x=>D.sl 3 (AB (D.int .i64) x)) b)] []=some (D.bool (decide (a=b)),[]):=VT a b (Yp a b h0)
def Nj(left n:Int):Int:=if left-n<0 then-1 else left-n
theorem PT(left n:Int):Nj left n= -1∨(Nj left n=left-n∧0≤left-n):=by unfold Nj;split<;>omega
def Ab(l:List (List Int)):Int:=(l.map fun xs=>(xs.length:Int)).sum
theorem Qz:Ab []=0:=rfl
theorem JY(x:List Int)(l:List (List Int)):Ab (x::l)=x.length+Ab l:=rfl
theorem CZ(l:List (List Int)):0≤Ab l:=by
 induction l with
 | nil=>rw [Qz];omega
 | cons x l ih=>rw [JY];omega
theorem xR{l:List (List Int)}{x:List Int}(h:x∈l):(x.length:Int)≤Ab l:=by
 induction l with
 | nil=>cases h
 | cons y l ih=>
  rw [JY];have:=CZ l
  rcases List.mem_cons.1 h with rfl | h
  ·omega
  ·have:=ih h;omega
theorem Xo{l:List (List Int)}(h:l.length+Ab l<1099511627776):Ai l:=by
 have:=CZ l
 exact⟨by omega,fun x hx=>by have:=xR hx;omega⟩
noncomputable def R3(a:List Int)(left:Int):Option (Int):= if(IntKind.i64.wrap (left-(a.length:Int)))<0 then some (-1) else some (IntKind.i64.wrap (left-(a.length:Int)))
def k32:SC:= .seq (.ops [oX 4 (.assign (iK 0)) 3]) (.seq (.ops [oM 5 1 3,oM 6 0 27,oN 7 6 27,oB 8 .sub 3 (tK 5) (tK 7) 3 3,oA 1 8 3]) (.seq (.seq (.ops [oM 9 1 3,oB 10 .lss 3 (tK 9) (iK 0) 3 4]) (.cond (tK 10) (.seq (.ops [oX 4 (.assign (.const (.int .i64 (-1)))) 3]) .ret) .skip)) (.seq (.ops [oM 11 1 3,oA 4 11 3]) .ret)))
theorem A2w:Tryz.f32.body.map (BO lends)=some k32:=by kernel_rfl
theorem AHy:Bi Tryz.f32 2=true:=by kernel_rfl
theorem sJ{a l:List D}{r:D×List D}(h:Bf Y.env k32 (EG AV l.length [ResultVar.tmp 4] r) (entry a l))(ha:a.length=2):Y.call 32 a l=some r:=
 AL (Y:=Y) rfl Tryz.func32 (ha▸AHy) A2w h
theorem Ww(a:List Int)(left:Int){r:Int}(h:R3 a left=some r):Y.call 32 [D.sl 3 (AB (D.int .i64) a),D.int .i64 left] []=some (D.int .i64 r,[]):=by
 refine sJ ?_ rfl;unfold k32;unfold R3 at h;by_cases e1:(IntKind.i64.wrap (left-(a.length:Int)))<0
 ·rw [if_pos e1]at h;cases h;simp (maxDischargeDepth:=9) only [↓AC,A7,AO,AA,AJ,↓reduceIte,Nat.reduceEqDiff,Nat.reduceLT,Int.reduceNeg,e1]
 ·rw [if_neg e1]at h;cases h;simp (maxDischargeDepth:=9) only [↓AC,A7,AO,AA,AJ,↓reduceIte,Nat.reduceEqDiff,Nat.reduceLT,Int.reduceNeg,e1]
theorem dm(a:List Int)(left:Int)(ha:a.length<9223372036854775808)(hl:0≤left∧left≤1048576):R3 a left=some (Nj left a.length):=by
 unfold R3 Nj;rw [Ie _ (by omega)]
 split<;>rfl
theorem dn(a:List Int)(left:Int)(h0:a.length<9223372036854775808)(h1:0≤left∧left≤1048576):Y.call 32 [D.sl 3 (AB (D.int .i64) a),D.int .i64 left] []=some (D.int .i64 (Nj left a.length),[]):=Ww a left (dm a left h0 h1)
noncomputable def Fj(a:List (List Int))(left1 i:Int):Option ((Int×Int)⊕(Unit⊕Int)):= if i<(a.length:Int)then ck (0≤i∧i.toNat<a.length)<| ck ((a.getD i.toNat default).length<9223372036854775808)<| ck (0≤left1∧left1≤1048576)<| if(Nj left1 (a.getD i.toNat default).length)<0 then some (Sum.inr (Sum.inl ())) else some (Sum.inl ((Nj left1 (a.getD i.toNat default).length),IntKind.i64.wrap (i+1))) else some (Sum.inr (Sum.inr left1))
noncomputable def GM(a:List (List Int))(v:Int×Int):Option (Unit⊕Int):=Gb (fun v=>Fj a v.1 v.2) v
noncomputable def NM(a:List (List Int))(left:Int):Option (Int):=
 if(IntKind.i64.wrap (left-(a.length:Int)))<0 then
  some (-1)
 else
  (GM a (IntKind.i64.wrap (left-(a.length:Int)),0)).bind fun D6=>
  match D6 with
  | .inl q3_=>
   some (-1)
  | .inr q3_=>
   some q3_
def Yq:SC:= .seq (.seq (.ops [oM 12 5 3,oM 13 0 22,oN 14 13 22,oB 15 .lss 3 (tK 12) (tK 14) 3 4]) (.cond (tK 15) .skip (.exit 0))) (.seq (.block 1 (.seq (.ops [oM 18 0 22,oM 19 5 3,oI 20 22 18 19,oL 21 27 20 27,oM 22 1 3,oC 23 32 [(tK 21),(tK 22)] [27,3] 3,oA 1 23 3]) (.seq (.ops [oM 24 1 3,oB 25 .lss 3 (tK 24) (iK 0) 3 4]) (.cond (tK 25) (.seq (.ops [oX 4 (.assign (.const (.int .i64 (-1)))) 3]) .ret) .skip)))) (.ops [oM 16 5 3,oB 17 .add 3 (tK 16) (iK 1) 3 3,oA 5 17 3]))
def sK:SC:= .loop Yq
def k20:SC:= .seq (.ops [oX 4 (.assign (iK 0)) 3]) (.seq (.ops [oM 6 1 3,oM 7 0 22,oN 8 7 22,oB 9 .sub 3 (tK 6) (tK 8) 3 3,oA 1 9 3]) (.seq (.seq (.ops [oM 10 1 3,oB 11 .lss 3 (tK 10) (iK 0) 3 4]) (.cond (tK 11) (.seq (.ops [oX 4 (.assign (.const (.int .i64 (-1)))) 3]) .ret) .skip)) (.seq (.seq (.ops [oX 5 (.assign (iK 0)) 3]) (.block 0 sK)) (.seq (.ops [oM 26 1 3,oA 4 26 3]) .ret))))
theorem A2x:Tryz.f20.body.map (BO lends)=some k20:=by kernel_rfl
theorem AI0:Bi Tryz.f20 2=true:=by kernel_rfl
theorem aK{a l:List D}{r:D×List D}(h:Bf Y.env k20 (EG AV l.length [ResultVar.tmp 4] r) (entry a l))(ha:a.length=2):Y.call 20 a l=some r:=
 AL (Y:=Y) rfl Tryz.func20 (ha▸AI0) A2x h
def Eg(a:List (List Int))(left1 i:Int)(s:St):Prop:=s.v 0=D.sl 27 (AB (fun x=>D.sl 3 (AB (D.int .i64) x)) a)∧s.v 1=D.int .i64 left1∧s.v 5=D.int .i64 i
def Fp(a:List (List Int))(r:Unit⊕Int)(ex:Ex)(s:St):Prop:=match r with
 | .inl q=>ex= .ret∧s.v 4=D.int .i64 (-1)
 | .inr q=>ex= .exit 0∧s.v 1=D.int .i64 q
theorem Tt(a:List (List Int)){v:Int×Int}{s:St}{r:Unit⊕Int}(h:GM a v=some r)(hM:Eg a v.1 v.2 s):Bf Y.env sK (Fp a r) s:=by
 unfold GM at h;refine BA (c:=Yq) (fun v=>Fj a v.1 v.2) (fun v s=>Eg a v.1 v.2 s) (Fp a) ?_ h hM;clear h hM s v r;intro v s o hM h;obtain⟨left1,i⟩:=v;dsimp only at h hM;unfold Fj at h;unfold Eg at hM;obtain⟨m0,m1,m2⟩:=hM;unfold Yq;by_cases e2:i<(a.length:Int)
 ·rw [if_pos e2]at h;obtain⟨e3,h⟩:=Av h;obtain⟨e4,h⟩:=Av h;obtain⟨e5,h⟩:=Av h;have c6:=dn (a.getD i.toNat default) left1 e4 e5;by_cases e7:(Nj left1 (a.getD i.toNat default).length)<0
  ·rw [if_pos e7]at h;cases h;simp (maxDischargeDepth:=9) only [↓AC,A7,AO,BM,AA,AJ,↓reduceIte,Nat.reduceEqDiff,Nat.reduceLT,Nat.reduceAdd,Int.reduceNeg,m0,m1,m2,e2,e3.1,e3.2,c6,e7,Eg,Fp,Pz]
  ·rw [if_neg e7]at h;cases h;simp (maxDischargeDepth:=9) only [↓AC,A7,AO,BM,AA,AJ,↓reduceIte,Nat.reduceEqDiff,Nat.reduceLT,Nat.reduceAdd,Int.reduceNeg,m0,m1,m2,e2,e3.1,e3.2,c6,e7,Eg,FD]
 ·rw [if_neg e2]at h;cases h;simp (maxDischargeDepth:=9) only [↓AC,A7,AO,AJ,↓reduceIte,Nat.reduceEqDiff,Nat.reduceLT,Int.reduceNeg,m0,m1,m2,e2,Eg,Fp,JH]
theorem VU(a:List (List Int))(left:Int){r:Int}(h:NM a left=some r):Y.call 20 [D.sl 27 (AB (fun x=>D.sl 3 (AB (D.int .i64) x)) a),D.int .i64 left] []=some (D.int .i64 r,[]):=by
 refine aK ?_ rfl;unfold k20;unfold NM at h;by_cases e1:(IntKind.i64.wrap (left-(a.length:Int)))<0
 ·rw [if_pos e1]at h;cases h;simp (maxDischargeDepth:=9) only [↓AC,A7,AO,AA,AJ,↓reduceIte,Nat.reduceEqDiff,Nat.reduceLT,Int.reduceNeg,e1]
 ·rw [if_neg e1]at h;obtain⟨D6,hl3,h⟩:=AU h;try dsimp only at h
  simp (maxDischargeDepth:=9) only [↓AC,A7,AO,AA,AJ,↓reduceIte,Nat.reduceEqDiff,Nat.reduceLT,Int.reduceNeg,e1];refine Ag (Tt a hl3 ?_) ?_
  ·simp (maxDischargeDepth:=9) only [A7,AA,↓reduceIte,Nat.reduceEqDiff,Nat.reduceLT,Eg]
  ·intro ex3 s3 hX3;rcases D6 with q3_ | q3_
   ·unfold Fp at hX3;dsimp only at hX3 h;obtain⟨rfl,n3_0⟩:=hX3;cases h;simp (maxDischargeDepth:=9) only [↓AC,A7,AA,↓reduceIte,Int.reduceNeg,n3_0]
   ·unfold Fp at hX3;dsimp only at hX3 h;obtain⟨rfl,n3_0⟩:=hX3;cases h;simp (maxDischargeDepth:=9) only [↓AC,A7,AA,↓reduceIte,Nat.reduceEqDiff,Nat.reduceLT,n3_0]
def szL:Int→List (List Int)→Int
 | left,[]=>left
 | left,x::l=>if left-x.length<0 then-1 else szL (left-x.length) l
theorem A2y(l:List (List Int)): ∀(left:Int),0≤left→szL left l=Nj left (Ab l):=by
 induction l with
 | nil=>intro left h;unfold szL Nj;rw [Qz,if_neg (by omega)];omega
 | cons x l ih=>
  intro left h;have:=CZ l
  unfold szL;by_cases hq:left-x.length<0
  ·rw [if_pos hq];unfold Nj;rw [JY,if_pos (by omega)]
  ·rw [if_neg hq,ih _ (by omega)]
   unfold Nj;rw [JY];by_cases hr:left-x.length-Ab l<0
   ·rw [if_pos hr,if_pos (by omega)]
   ·rw [if_neg hr,if_neg (by omega)];omega
theorem Tu(a:List (List Int))(ha:a.length<4611686018427387904)(hx: ∀x∈a,x.length<9223372036854775808): ∀(n i:Nat) (left:Int),n=a.length-i→i≤a.length→0≤left∧left≤1048576→
  GM a (left,(i:Int))=some (if szL left (a.drop i)= -1 then .inl ()else .inr (szL left (a.drop i))):=by
 intro n
 induction n with
 | zero=>
  intro i left hn hi hl;have e:i=a.length:=by omega
  subst e;unfold GM;rw [Ep (r:=Sum.inr left)]
  ·rw [List.drop_length];unfold szL;rw [if_neg (by omega)]
  ·simp only [Fj];rw [if_neg (Ak _)]
 | succ n ih=>
  intro i left hn hi hl;have hlt:i<a.length:=by omega
  have hm:a[i]∈a:=List.getElem_mem hlt;have hxm:=hx _ hm
  have step:Fj a left i=if Nj left a[i].length<0 then some (Sum.inr (Sum.inl ()))else some (Sum.inl (Nj left a[i].length,((i+1:Nat):Int))):=by
   unfold Fj;rw [if_pos (CJ hlt),Az (FH hlt),Az (by rw [JW _ _ hlt];exact hxm),Az hl,JW _ _ hlt,JM i (by omega)]
  rw [List.drop_eq_getElem_cons hlt];unfold szL;by_cases hq:left-(a[i].length:Int)<0
  ·rw [if_pos hq];unfold GM;rw [Ep (r:=Sum.inl ())]
   ·rfl
   ·rw [step];unfold Nj;rw [if_pos hq];rfl
  ·rw [if_neg hq];have e2:Nj left a[i].length=left-a[i].length:=by unfold Nj;rw [if_neg hq]
   have:=ih (i+1) (left-a[i].length) (by omega) (by omega) (by omega)
   unfold GM at this ⊢;rw [KC (s':=(left-(a[i].length:Int),((i+1:Nat):Int))),this]
   ·rw [step,e2,if_neg hq]
theorem Wx(a:List (List Int))(left:Int)(ha:a.length<9223372036854775808)(hx: ∀x∈a,x.length<9223372036854775808)(hl:0≤left∧left≤1048576):NM a left=some (Nj left (a.length+Ab a)):=by
 have ht:=CZ a;unfold NM;rw [Ie _ (by omega)]
 by_cases hq:left-(a.length:Int)<0
 ·rw [if_pos hq];unfold Nj;rw [if_pos (by omega)]
 ·rw [if_neg hq];have h0:=Tu a (by omega) hx a.length 0 (left-a.length) (by omega) (by omega) (by omega)
  simp only [Int.natCast_zero,List.drop_zero]at h0;rw [h0,Option.bind_some,A2y _ _ (by omega)]
  have e:Nj (left-a.length) (Ab a)=Nj left (a.length+Ab a):=by unfold Nj;rw [show left- ↑a.length-Ab a=left-(↑a.length+Ab a) by omega]
  rw [e];by_cases h1:Nj left (a.length+Ab a)= -1
  ·rw [if_pos h1,h1]
  ·rw [if_neg h1]
theorem Q6{α:Type}(a b:List α)(x:α):(a.length:Int)<((a++x::b).length:Int):=by rw [List.length_append,List.length_cons];omega
theorem Q7{α:Type}(a b:List α)(x:α):0≤(a.length:Int)∧(a.length:Int).toNat<(a++x::b).length:=by rw [List.length_append,List.length_cons];omega
theorem R4{α:Type}(a:List α): ¬(a.length:Int)<((a++[]).length:Int):=by rw [List.append_nil];omega
def Q8(l:List (List Int)):Prop:=l.length<9223372036854775808∧ ∀x∈l,x.length<9223372036854775808
instance (l:List (List Int)):Decidable (Q8 l):=by unfold Q8;infer_instance
theorem Yr(a:List (List Int))(left:Int)(hw:Q8 a)(hl:0≤left∧left≤1048576):NM a left=some (Nj left (a.length+Ab a)):=Wx a left hw.1 hw.2 hl
theorem R5(a:List (List Int))(left:Int)(h0:Q8 a)(h1:0≤left∧left≤1048576):Y.call 20 [D.sl 27 (AB (fun x=>D.sl 3 (AB (D.int .i64) x)) a),D.int .i64 left] []=some (D.int .i64 (Nj left (a.length+Ab a)),[]):=VU a left (Yr a left h0 h1)
def upto(k:Int)(n:Nat):List Int:=(List.range n).map fun(i:Nat)=>k+i
theorem Kc(k:Int)(n:Nat):(upto k n).length=n:=by simp [upto]
theorem sM(xs:List Int)(k:Int)(i:Nat)(h:i<xs.length):(upto k i++xs.drop i).set i (k+i)=upto k (i+1)++xs.drop (i+1):=by
 rw [List.set_append_right _ _ (by simp [Kc]),Kc,Nat.sub_self,List.drop_eq_getElem_cons h,List.set_cons_zero]
 simp [upto,List.range_succ]
noncomputable def Et(k k1 i:Int)(Af:List Int):Option ((Int×Int×(List Int))⊕(Int×(List Int))):= if i<(Af.length:Int)then ck (0≤i∧i.toNat<Af.length)<| some (Sum.inl (IntKind.i64.wrap (k1+1),IntKind.i64.wrap (i+1),(Af.set i.toNat k1))) else some (Sum.inr (k1,Af))
noncomputable def KF(k:Int)(v:Int×Int×(List Int)):Option (Int×(List Int)):=Gb (fun v=>Et k v.1 v.2.1 v.2.2) v
noncomputable def O3(a:List Int)(k:Int):Option (Int×(List Int)):= (KF k (k,0,a)).bind fun Au=> some (Au.1,Au.2)
def Yt:SC:= .seq (.seq (.ops [oM 6 5 3,oM 7 0 27,oN 8 7 27,oB 9 .lss 3 (tK 6) (tK 8) 3 4]) (.cond (tK 9) .skip (.exit 0))) (.seq (.block 1 (.seq (.ops [oM 12 0 27,oM 13 5 3,oM 14 1 3,oI 15 27 12 13,oS 3 15 14]) (.ops [oM 16 1 3,oB 17 .add 3 (tK 16) (iK 1) 3 3,oA 1 17 3]))) (.ops [oM 10 5 3,oB 11 .add 3 (tK 10) (iK 1) 3 3,oA 5 11 3]))
def sN:SC:= .loop Yt
def k13:SC:= .seq (.ops [oX 4 (.assign (iK 0)) 3]) (.seq (.seq (.ops [oX 5 (.assign (iK 0)) 3]) (.block 0 sN)) (.seq (.ops [oM 18 1 3,oA 4 18 3]) .ret))
theorem A2z:Tryz.f13.body.map (BO lends)=some k13:=by kernel_rfl
theorem AI2:Bi Tryz.f13 2=true:=by kernel_rfl
theorem c13{a l:List D}{r:D×List D}(h:Bf Y.env k13 (EG AV l.length [ResultVar.tmp 4] r) (entry a l))(ha:a.length=2):Y.call 13 a l=some r:=
 AL (Y:=Y) rfl Tryz.func13 (ha▸AI2) A2z h
def Eu(k k1 i:Int)(Af:List Int)(s:St):Prop:=(∃w_,s.v 0=D.vw [100000] (s.k 100000) w_)∧s.v 1=D.int .i64 k1∧s.v 5=D.int .i64 i∧s.v 100000=D.own 3 (AB (D.int .i64) Af)
def J8(k:Int)(r:Int×(List Int))(ex:Ex)(s:St):Prop:=ex= .exit 0∧s.v 1=D.int .i64 r.1∧s.v 100000=D.own 3 (AB (D.int .i64) r.2)
theorem SG(k:Int){v:Int×Int×(List Int)}{s:St}{r:Int×(List Int)}(h:KF k v=some r)(hM:Eu k v.1 v.2.1 v.2.2 s):Bf Y.env sN (J8 k r) s:=by
 unfold KF at h;refine BA (c:=Yt) (fun v=>Et k v.1 v.2.1 v.2.2) (fun v s=>Eu k v.1 v.2.1 v.2.2 s) (J8 k) ?_ h hM;clear h hM s v r;intro v s o hM h;obtain⟨k1,i,Af⟩:=v;dsimp only at h hM;unfold Et at h;unfold Eu at hM;obtain⟨⟨w0_,m0⟩,m1,m2,m3⟩:=hM;unfold Yt;by_cases e1:i<(Af.length:Int)
 ·rw [if_pos e1]at h;obtain⟨e2,h⟩:=Av h;cases h;simp (maxDischargeDepth:=9) only [↓AC,A7,AO,AA,AJ,↓reduceIte,Nat.reduceEqDiff,Nat.reduceLT,m0,m1,m2,m3,e1,e2.1,e2.2,Eu,FD]<;>(repeat' apply And.intro)<;>first | rfl | exact⟨_,rfl⟩ | exact⟨_,_,rfl⟩ | simp [AB,Aa]
 ·rw [if_neg e1]at h;cases h;simp (maxDischargeDepth:=9) only [↓AC,A7,AO,AA,AJ,↓reduceIte,Nat.reduceEqDiff,Nat.reduceLT,m0,m1,m2,m3,e1,Eu,J8,JH]
theorem Tv(a:List Int)(k:Int){r:Int×(List Int)}(h:O3 a k=some r):Y.call 13 [D.vw [100000] 0 0,D.int .i64 k] [D.own 3 (AB (D.int .i64) a)]=some (D.int .i64 r.1,[D.own 3 (AB (D.int .i64) r.2)]):=by
 refine c13 ?_ rfl;unfold k13;unfold O3 at h;obtain⟨Au,hl2,h⟩:=AU h;try dsimp only at h
 simp (maxDischargeDepth:=9) only [↓AC,A7,AA,AJ,↓reduceIte,Nat.reduceEqDiff,Nat.reduceLT,Nat.reduceAdd];refine Ag (SG k hl2 ?_) ?_
 ·simp (maxDischargeDepth:=9) only [A7,AA,↓reduceIte,Nat.reduceEqDiff,Nat.reduceLT,Nat.reduceSub,Eu]<;>(repeat' apply And.intro)<;>first | rfl | exact⟨_,rfl⟩ | exact⟨_,_,rfl⟩ | simp [AB,Aa]
 ·intro ex2 s2 hX2;unfold J8 at hX2;obtain⟨rfl,n2_0,n2_1⟩:=hX2;cases h;simp (maxDischargeDepth:=9) only [↓AC,A7,AO,AA,↓reduceIte,Nat.reduceEqDiff,Nat.reduceLT,n2_0,n2_1]
theorem Wy(a:List Int)(k:Int)(ha:a.length<1099511627776)(hk:0≤k∧k<1099511627776):O3 a k=some (k+a.length,upto k a.length):=by
 have key:=Be (fun v=>Et k v.1 v.2.1 v.2.2) (fun i=>(k+i,(i:Int),upto k i++a.drop i)) a.length (k+a.length,upto k a.length) ?_ ?_
 ·unfold O3 KF;have e0:upto k 0=[]:=rfl;simp only [Int.natCast_zero,Int.add_zero,List.drop_zero,e0,List.nil_append]at key;rw [key];rfl
 ·intro i hi;simp only [Et];have el:(upto k i++a.drop i).length=a.length:=by simp [Kc];omega
  rw [el,if_pos (CJ hi),Az (FH hi),Int.toNat_natCast,sM a k i hi,JM i (by omega),Ie _ (by omega)]
  rw [show k+(i:Int)+1=k+((i+1:Nat):Int) by omega]
 ·simp only [Et];have el:(upto k a.length++a.drop a.length).length=a.length:=by simp [Kc]
  rw [el,if_neg (Ak _)];simp
theorem FJ(a:List Int)(k:Int)(h0:a.length<1099511627776)(h1:0≤k∧k<1099511627776):Y.call 13 [D.vw [100000] 0 0,D.int .i64 k] [D.own 3 (AB (D.int .i64) a)]=some (D.int .i64 (k+a.length),[D.own 3 (AB (D.int .i64) (upto k a.length))]):=Tv a k (Wy a k h0 h1)
def Ca:Int→List (List Int)→List (List Int)
 | _,[]=>[]
 | k,x::l=>upto k x.length::Ca (k+x.length) l
noncomputable def Fq(k k1 i:Int)(Af:List (List Int)):Option ((Int×Int×(List (List Int)))⊕(Int×(List (List Int)))):= if i<(Af.length:Int)then ck (0≤i∧i.toNat<Af.length)<| ck ((Af.getD i.toNat default).length<1099511627776)<| ck (0≤k1∧k1<1099511627776)<| some (Sum.inl ((k1+(Af.getD i.toNat default).length),IntKind.i64.wrap (i+1),(Af.set i.toNat (upto k1 (Af.getD i.toNat default).length)))) else some (Sum.inr (k1,Af))
noncomputable def Fv(k:Int)(v:Int×Int×(List (List Int))):Option (Int×(List (List Int))):=Gb (fun v=>Fq k v.1 v.2.1 v.2.2) v
noncomputable def MU(a:List (List Int))(k:Int):Option (Int×(List (List Int))):= (Fv k (k,0,a)).bind fun Au=> some (Au.1,Au.2)
def Yu:SC:= .seq (.seq (.ops [oM 6 5 3,oM 7 0 22,oN 8 7 22,oB 9 .lss 3 (tK 6) (tK 8) 3 4]) (.cond (tK 9) .skip (.exit 0))) (.seq (.block 1 (.ops [oM 12 0 22,oM 13 5 3,oI 14 22 12 13,oL 15 27 14 27,oM 16 1 3,oC 17 13 [(tK 15),(tK 16)] [27,3] 3,oA 1 17 3])) (.ops [oM 10 5 3,oB 11 .add 3 (tK 10) (iK 1) 3 3,oA 5 11 3]))
def sO:SC:= .loop Yu
def k27:SC:= .seq (.ops [oX 4 (.assign (iK 0)) 3]) (.seq (.seq (.ops [oX 5 (.assign (iK 0)) 3]) (.block 0 sO)) (.seq (.ops [oM 18 1 3,oA 4 18 3]) .ret))
theorem A30:Tryz.f27.body.map (BO lends)=some k27:=by kernel_rfl
theorem AI4:Bi Tryz.f27 2=true:=by kernel_rfl
theorem c27{a l:List D}{r:D×List D}(h:Bf Y.env k27 (EG AV l.length [ResultVar.tmp 4] r) (entry a l))(ha:a.length=2):Y.call 27 a l=some r:=
 AL (Y:=Y) rfl Tryz.func27 (ha▸AI4) A30 h
def EH(k k1 i:Int)(Af:List (List Int))(s:St):Prop:=(∃w_,s.v 0=D.vw [100000] (s.k 100000) w_)∧s.v 1=D.int .i64 k1∧s.v 5=D.int .i64 i∧s.v 100000=D.own 27 (AB (fun x=>D.own 3 (AB (D.int .i64) x)) Af)
def IC(k:Int)(r:Int×(List (List Int)))(ex:Ex)(s:St):Prop:=ex= .exit 0∧s.v 1=D.int .i64 r.1∧s.v 100000=D.own 27 (AB (fun x=>D.own 3 (AB (D.int .i64) x)) r.2)
theorem R6(k:Int){v:Int×Int×(List (List Int))}{s:St}{r:Int×(List (List Int))}(h:Fv k v=some r)(hM:EH k v.1 v.2.1 v.2.2 s):Bf Y.env sO (IC k r) s:=by
 unfold Fv at h;refine BA (c:=Yu) (fun v=>Fq k v.1 v.2.1 v.2.2) (fun v s=>EH k v.1 v.2.1 v.2.2 s) (IC k) ?_ h hM;clear h hM s v r;intro v s o hM h;obtain⟨k1,i,Af⟩:=v;dsimp only at h hM;unfold Fq at h;unfold EH at hM;obtain⟨⟨w0_,m0⟩,m1,m2,m3⟩:=hM;unfold Yu;by_cases e1:i<(Af.length:Int)
 ·rw [if_pos e1]at h;obtain⟨e2,h⟩:=Av h;obtain⟨e3,h⟩:=Av h;obtain⟨e4,h⟩:=Av h;have c5:=FJ (Af.getD i.toNat default) k1 e3 e4;cases h;simp (maxDischargeDepth:=9) only [↓AC,A7,AO,BM,AA,AJ,↓reduceIte,Nat.reduceEqDiff,Nat.reduceLT,Nat.reduceAdd,m0,m1,m2,m3,e1,e2.1,e2.2,c5,EH,FD]<;>(repeat' apply And.intro)<;>first | rfl | exact⟨_,rfl⟩ | exact⟨_,_,rfl⟩ | simp [AB,Aa]
 ·rw [if_neg e1]at h;cases h;simp (maxDischargeDepth:=9) only [↓AC,A7,AO,AA,AJ,↓reduceIte,Nat.reduceEqDiff,Nat.reduceLT,m0,m1,m2,m3,e1,EH,IC,JH]
theorem SH(a:List (List Int))(k:Int){r:Int×(List (List Int))}(h:MU a k=some r):Y.call 27 [D.vw [100000] 0 0,D.int .i64 k] [D.own 27 (AB (fun x=>D.own 3 (AB (D.int .i64) x)) a)]=some (D.int .i64 r.1,[D.own 27 (AB (fun x=>D.own 3 (AB (D.int .i64) x)) r.2)]):=by
 refine c27 ?_ rfl;unfold k27;unfold MU at h;obtain⟨Au,hl2,h⟩:=AU h;try dsimp only at h
 simp (maxDischargeDepth:=9) only [↓AC,A7,AA,AJ,↓reduceIte,Nat.reduceEqDiff,Nat.reduceLT,Nat.reduceAdd];refine Ag (R6 k hl2 ?_) ?_
 ·simp (maxDischargeDepth:=9) only [A7,AA,↓reduceIte,Nat.reduceEqDiff,Nat.reduceLT,Nat.reduceSub,EH]<;>(repeat' apply And.intro)<;>first | rfl | exact⟨_,rfl⟩ | exact⟨_,_,rfl⟩ | simp [AB,Aa]
 ·intro ex2 s2 hX2;unfold IC at hX2;obtain⟨rfl,n2_0,n2_1⟩:=hX2;cases h;simp (maxDischargeDepth:=9) only [↓AC,A7,AO,AA,↓reduceIte,Nat.reduceEqDiff,Nat.reduceLT,n2_0,n2_1]
theorem R7(kk:Int): ∀(b a:List (List Int)) (k:Int),Ai b→a.length+b.length<1099511627776→0≤k→k+Ab b<1099511627776→
  Fv kk (k,(a.length:Int),a++b)=some (k+Ab b,a++Ca k b):=by
 intro b
 induction b with
 | nil=>
  intro a k hb hab hk hkt;unfold Fv;rw [Ep (r:=(k,a++[]))]
  ·rw [Qz,Int.add_zero];rfl
  ·simp only [Fq];rw [if_neg (R4 _)]
 | cons x b ih=>
  intro a k hb hab hk hkt;rw [JY]at hkt;simp only [List.length_cons]at hab;have hx:x.length<1099511627776:=hb.2 x (List.mem_cons_self ..);have ht:=CZ b;have:=ih (a++[upto k x.length]) (k+x.length) ⟨by omega,fun y hy=>hb.2 y (List.mem_cons_of_mem _ hy)⟩ (by simp;omega) (by omega) (by omega)
  unfold Fv at this ⊢;have eg:(a++x::b).getD (a.length:Int).toNat default=x:=by rw [Int.toNat_natCast];exact DD a (x::b) a.length rfl (by simp)
  rw [KC (s':=(k+x.length,((a++[upto k x.length]).length:Int),(a++[upto k x.length])++b)),this]
  ·rw [JY,show k+(x.length:Int)+Ab b=k+(x.length+Ab b) by omega]
   simp [Ca]
  ·simp only [Fq];rw [if_pos (Q6 ..),Az (Q7 ..),Az (by rw [eg];exact hx),Az ⟨hk,by omega⟩,eg,JM _ (by omega),Int.toNat_natCast,List.set_append_right _ _ (Nat.le_refl _),Nat.sub_self,List.set_cons_zero]
   simp
theorem VV(a:List (List Int))(k:Int)(ha:Ai a)(hk:0≤k∧k+Ab a<1099511627776):MU a k=some (k+Ab a,Ca k a):=by
 unfold MU;have:=R7 k a [] k ha (by have:=ha.1;simp;omega) hk.1 hk.2
 simp only [List.length_nil,List.nil_append,Int.natCast_zero]at this;rw [this];rfl
theorem Ox(a:List (List Int))(k:Int)(h0:Ai a)(h1:0≤k∧k+Ab a<1099511627776):Y.call 27 [D.vw [100000] 0 0,D.int .i64 k] [D.own 27 (AB (fun x=>D.own 3 (AB (D.int .i64) x)) a)]=some (D.int .i64 (k+Ab a),[D.own 27 (AB (fun x=>D.own 3 (AB (D.int .i64) x)) (Ca k a))]):=SH a k (VV a k h0 h1)
def F6:Int→List Int→Int
 | k,[]=>k
 | k,x::l=>if x=k then F6 (k+1) l else-1
noncomputable def Ev(a:List Int)(k1 i:Int):Option ((Int×Int)⊕(Unit⊕Int)):= if i<(a.length:Int)then ck (0≤i∧i.toNat<a.length)<| if(a.getD i.toNat default)=k1 then some (Sum.inl (IntKind.i64.wrap (k1+1),IntKind.i64.wrap (i+1))) else some (Sum.inr (Sum.inl ())) else some (Sum.inr (Sum.inr k1))
noncomputable def FK(a:List Int)(v:Int×Int):Option (Unit⊕Int):=Gb (fun v=>Ev a v.1 v.2) v
noncomputable def O4(a:List Int)(k:Int):Option (Int):=
 (FK a (k,0)).bind fun Au=>
 match Au with
 | .inl q2_=>
  some (-1)
 | .inr q2_=>
  some q2_
def Yv:SC:= .seq (.seq (.ops [oM 6 5 3,oM 7 0 27,oN 8 7 27,oB 9 .lss 3 (tK 6) (tK 8) 3 4]) (.cond (tK 9) .skip (.exit 0))) (.seq (.block 1 (.seq (.seq (.ops [oM 12 0 27,oM 13 5 3,oI 14 27 12 13,oL 15 3 14 3,oM 16 1 3,oB 17 .neq 3 (tK 15) (tK 16) 3 4]) (.cond (tK 17) (.seq (.ops [oX 4 (.assign (.const (.int .i64 (-1)))) 3]) .ret) .skip)) (.ops [oM 18 1 3,oB 19 .add 3 (tK 18) (iK 1) 3 3,oA 1 19 3]))) (.ops [oM 10 5 3,oB 11 .add 3 (tK 10) (iK 1) 3 3,oA 5 11 3]))
def sP:SC:= .loop Yv
def k15:SC:= .seq (.ops [oX 4 (.assign (iK 0)) 3]) (.seq (.seq (.ops [oX 5 (.assign (iK 0)) 3]) (.block 0 sP)) (.seq (.ops [oM 20 1 3,oA 4 20 3]) .ret))
theorem A31:Tryz.f15.body.map (BO lends)=some k15:=by kernel_rfl
theorem AI6:Bi Tryz.f15 2=true:=by kernel_rfl
theorem c15{a l:List D}{r:D×List D}(h:Bf Y.env k15 (EG AV l.length [ResultVar.tmp 4] r) (entry a l))(ha:a.length=2):Y.call 15 a l=some r:=
 AL (Y:=Y) rfl Tryz.func15 (ha▸AI6) A31 h
def Du(a:List Int)(k1 i:Int)(s:St):Prop:=s.v 0=D.sl 3 (AB (D.int .i64) a)∧s.v 1=D.int .i64 k1∧s.v 5=D.int .i64 i
def Ew(a:List Int)(r:Unit⊕Int)(ex:Ex)(s:St):Prop:=match r with
 | .inl q=>ex= .ret∧s.v 4=D.int .i64 (-1)
 | .inr q=>ex= .exit 0∧s.v 1=D.int .i64 q
theorem SI(a:List Int){v:Int×Int}{s:St}{r:Unit⊕Int}(h:FK a v=some r)(hM:Du a v.1 v.2 s):Bf Y.env sP (Ew a r) s:=by
 unfold FK at h;refine BA (c:=Yv) (fun v=>Ev a v.1 v.2) (fun v s=>Du a v.1 v.2 s) (Ew a) ?_ h hM;clear h hM s v r;intro v s o hM h;obtain⟨k1,i⟩:=v;dsimp only at h hM;unfold Ev at h;unfold Du at hM;obtain⟨m0,m1,m2⟩:=hM;unfold Yv;by_cases e1:i<(a.length:Int)
 ·rw [if_pos e1]at h;obtain⟨e2,h⟩:=Av h;by_cases e3:(a.getD i.toNat default)=k1
  ·rw [if_pos e3]at h;cases h;simp (maxDischargeDepth:=9) only [↓AC,A7,AO,AA,AJ,↓reduceIte,Nat.reduceEqDiff,Nat.reduceLT,Int.reduceNeg,m0,m1,m2,e1,e2.1,e2.2,decide_eq_true e3,Du,FD]
  ·rw [if_neg e3]at h;cases h;simp (maxDischargeDepth:=9) only [↓AC,A7,AO,AA,AJ,↓reduceIte,Nat.reduceEqDiff,Nat.reduceLT,Int.reduceNeg,m0,m1,m2,e1,e2.1,e2.2,e3,Du,Ew,Pz]
 ·rw [if_neg e1]at h;cases h;simp (maxDischargeDepth:=9) only [↓AC,A7,AO,AJ,↓reduceIte,Nat.reduceEqDiff,Nat.reduceLT,Int.reduceNeg,m0,m1,m2,e1,Du,Ew,JH]
theorem Tw(a:List Int)(k:Int){r:Int}(h:O4 a k=some r):Y.call 15 [D.sl 3 (AB (D.int .i64) a),D.int .i64 k] []=some (D.int .i64 r,[]):=by
 refine c15 ?_ rfl;unfold k15;unfold O4 at h;obtain⟨Au,hl2,h⟩:=AU h;try dsimp only at h
 simp (maxDischargeDepth:=9) only [↓AC,A7,AA,AJ,↓reduceIte,Nat.reduceEqDiff,Nat.reduceLT];refine Ag (SI a hl2 ?_) ?_
 ·simp (maxDischargeDepth:=9) only [A7,AA,↓reduceIte,Nat.reduceEqDiff,Nat.reduceLT,Du]
 ·intro ex2 s2 hX2;rcases Au with q2_ | q2_
  ·unfold Ew at hX2;dsimp only at hX2 h;obtain⟨rfl,n2_0⟩:=hX2;cases h;simp (maxDischargeDepth:=9) only [↓AC,A7,AA,↓reduceIte,Int.reduceNeg,n2_0]
  ·unfold Ew at hX2;dsimp only at hX2 h;obtain⟨rfl,n2_0⟩:=hX2;cases h;simp (maxDischargeDepth:=9) only [↓AC,A7,AA,↓reduceIte,Nat.reduceEqDiff,Nat.reduceLT,n2_0]
theorem SK: ∀(b a:List Int) (k:Int),a.length+b.length<1099511627776→0≤k→k+b.length<1099511627776→
  FK (a++b) (k,(a.length:Int))=some (if F6 k b= -1 then .inl ()else .inr (F6 k b)):=by
 intro b
 induction b with
 | nil=>
  intro a k hab hk hkt;unfold FK;rw [Ep (r:=Sum.inr k)]
  ·unfold F6;rw [if_neg (by omega)]
  ·simp only [Ev];rw [if_neg (R4 _)]
 | cons x b ih=>
  intro a k hab hk hkt;simp only [List.length_cons]at hab hkt;have eg:(a++x::b).getD (a.length:Int).toNat default=x:=by rw [Int.toNat_natCast];exact DD a (x::b) a.length rfl (by simp)
  unfold F6;by_cases hq:x=k
  ·rw [if_pos hq];have:=ih (a++[x]) (k+1) (by simp;omega) (by omega) (by omega)
   unfold FK at this ⊢;rw [KC (s':=(k+1,((a++[x]).length:Int)))]
   ·rw [show a++x::b=a++[x]++b by simp];exact this
   ·simp only [Ev];rw [if_pos (Q6 ..),Az (Q7 ..),eg,if_pos hq,JM _ (by omega),Ie _ (by omega)];simp
  ·rw [if_neg hq];unfold FK;rw [Ep (r:=Sum.inl ())]
   ·rfl
   ·simp only [Ev];rw [if_pos (Q6 ..),Az (Q7 ..),eg,if_neg hq]
theorem Wz(a:List Int)(k:Int)(ha:a.length<1099511627776)(hk:0≤k∧k+a.length<1099511627776):O4 a k=some (F6 k a):=by
 unfold O4;have:=SK a [] k (by simpa using ha) hk.1 hk.2
 simp only [List.length_nil,List.nil_append,Int.natCast_zero]at this;rw [this,Option.bind_some];by_cases h:F6 k a= -1
 ·rw [if_pos h,h]
 ·rw [if_neg h]
theorem CO(a:List Int)(k:Int)(h0:a.length<1099511627776)(h1:0≤k∧k+a.length<1099511627776):Y.call 15 [D.sl 3 (AB (D.int .i64) a),D.int .i64 k] []=some (D.int .i64 (F6 k a),[]):=Tw a k (Wz a k h0 h1)
theorem Xp(n:Nat): ∀k,F6 k (upto k n)=k+n:=by
 induction n with
 | zero=>intro k;simp [upto,F6]
 | succ n ih=>
  intro k
  have e:upto k (n+1)=k::upto (k+1) n:=by
   simp only [upto,List.range_succ_eq_map,List.map_cons,List.map_map]
   congr 1
   ·simp
   ·apply List.map_congr_left;intro i _;simp;omega
  rw [e,F6,if_pos rfl,ih];omega
noncomputable def Fw(a:List (List Int))(k1 i:Int):Option ((Int×Int)⊕(Unit⊕Int)):= if i<(a.length:Int)then ck (0≤i∧i.toNat<a.length)<| ck ((a.getD i.toNat default).length<1099511627776)<| ck (0≤k1∧k1+(a.getD i.toNat default).length<1099511627776)<| if(F6 k1 (a.getD i.toNat default))<0 then some (Sum.inr (Sum.inl ())) else some (Sum.inl ((F6 k1 (a.getD i.toNat default)),IntKind.i64.wrap (i+1))) else some (Sum.inr (Sum.inr k1))
noncomputable def Fx(a:List (List Int))(v:Int×Int):Option (Unit⊕Int):=Gb (fun v=>Fw a v.1 v.2) v
noncomputable def JJ(a:List (List Int))(k:Int):Option (Int):=
 (Fx a (k,0)).bind fun Au=>
 match Au with
 | .inl q2_=>
  some (-1)
 | .inr q2_=>
  some q2_
def Yw:SC:= .seq (.seq (.ops [oM 6 5 3,oM 7 0 22,oN 8 7 22,oB 9 .lss 3 (tK 6) (tK 8) 3 4]) (.cond (tK 9) .skip (.exit 0))) (.seq (.block 1 (.seq (.ops [oM 12 0 22,oM 13 5 3,oI 14 22 12 13,oL 15 27 14 27,oM 16 1 3,oC 17 15 [(tK 15),(tK 16)] [27,3] 3,oA 1 17 3]) (.seq (.ops [oM 18 1 3,oB 19 .lss 3 (tK 18) (iK 0) 3 4]) (.cond (tK 19) (.seq (.ops [oX 4 (.assign (.const (.int .i64 (-1)))) 3]) .ret) .skip)))) (.ops [oM 10 5 3,oB 11 .add 3 (tK 10) (iK 1) 3 3,oA 5 11 3]))
def sQ:SC:= .loop Yw
def k28:SC:= .seq (.ops [oX 4 (.assign (iK 0)) 3]) (.seq (.seq (.ops [oX 5 (.assign (iK 0)) 3]) (.block 0 sQ)) (.seq (.ops [oM 20 1 3,oA 4 20 3]) .ret))
theorem A32:Tryz.f28.body.map (BO lends)=some k28:=by kernel_rfl
theorem AI8:Bi Tryz.f28 2=true:=by kernel_rfl
theorem dw{a l:List D}{r:D×List D}(h:Bf Y.env k28 (EG AV l.length [ResultVar.tmp 4] r) (entry a l))(ha:a.length=2):Y.call 28 a l=some r:=
 AL (Y:=Y) rfl Tryz.func28 (ha▸AI8) A32 h
def DW(a:List (List Int))(k1 i:Int)(s:St):Prop:=s.v 0=D.sl 27 (AB (fun x=>D.sl 3 (AB (D.int .i64) x)) a)∧s.v 1=D.int .i64 k1∧s.v 5=D.int .i64 i
def EI(a:List (List Int))(r:Unit⊕Int)(ex:Ex)(s:St):Prop:=match r with
 | .inl q=>ex= .ret∧s.v 4=D.int .i64 (-1)
 | .inr q=>ex= .exit 0∧s.v 1=D.int .i64 q
theorem R8(a:List (List Int)){v:Int×Int}{s:St}{r:Unit⊕Int}(h:Fx a v=some r)(hM:DW a v.1 v.2 s):Bf Y.env sQ (EI a r) s:=by
 unfold Fx at h;refine BA (c:=Yw) (fun v=>Fw a v.1 v.2) (fun v s=>DW a v.1 v.2 s) (EI a) ?_ h hM;clear h hM s v r;intro v s o hM h;obtain⟨k1,i⟩:=v;dsimp only at h hM;unfold Fw at h;unfold DW at hM;obtain⟨m0,m1,m2⟩:=hM;unfold Yw;by_cases e1:i<(a.length:Int)
 ·rw [if_pos e1]at h;obtain⟨e2,h⟩:=Av h;obtain⟨e3,h⟩:=Av h;obtain⟨e4,h⟩:=Av h;have c5:=CO (a.getD i.toNat default) k1 e3 e4;by_cases e6:(F6 k1 (a.getD i.toNat default))<0
  ·rw [if_pos e6]at h;cases h;simp (maxDischargeDepth:=9) only [↓AC,A7,AO,BM,AA,AJ,↓reduceIte,Nat.reduceEqDiff,Nat.reduceLT,Nat.reduceAdd,Int.reduceNeg,m0,m1,m2,e1,e2.1,e2.2,c5,e6,DW,EI,Pz]
  ·rw [if_neg e6]at h;cases h;simp (maxDischargeDepth:=9) only [↓AC,A7,AO,BM,AA,AJ,↓reduceIte,Nat.reduceEqDiff,Nat.reduceLT,Nat.reduceAdd,Int.reduceNeg,m0,m1,m2,e1,e2.1,e2.2,c5,e6,DW,FD]
 ·rw [if_neg e1]at h;cases h;simp (maxDischargeDepth:=9) only [↓AC,A7,AO,AJ,↓reduceIte,Nat.reduceEqDiff,Nat.reduceLT,Int.reduceNeg,m0,m1,m2,e1,DW,EI,JH]
theorem NN(a:List (List Int))(k:Int){r:Int}(h:JJ a k=some r):Y.call 28 [D.sl 27 (AB (fun x=>D.sl 3 (AB (D.int .i64) x)) a),D.int .i64 k] []=some (D.int .i64 r,[]):=by
 refine dw ?_ rfl;unfold k28;unfold JJ at h;obtain⟨Au,hl2,h⟩:=AU h;try dsimp only at h
 simp (maxDischargeDepth:=9) only [↓AC,A7,AA,AJ,↓reduceIte,Nat.reduceEqDiff,Nat.reduceLT];refine Ag (R8 a hl2 ?_) ?_
 ·simp (maxDischargeDepth:=9) only [A7,AA,↓reduceIte,Nat.reduceEqDiff,Nat.reduceLT,DW]
 ·intro ex2 s2 hX2;rcases Au with q2_ | q2_
  ·unfold EI at hX2;dsimp only at hX2 h;obtain⟨rfl,n2_0⟩:=hX2;cases h;simp (maxDischargeDepth:=9) only [↓AC,A7,AA,↓reduceIte,Int.reduceNeg,n2_0]
  ·unfold EI at hX2;dsimp only at hX2 h;obtain⟨rfl,n2_0⟩:=hX2;cases h;simp (maxDischargeDepth:=9) only [↓AC,A7,AA,↓reduceIte,Nat.reduceEqDiff,Nat.reduceLT,n2_0]
theorem R9: ∀(b a:List (List Int)) (k:Int),Ai b→a.length+b.length<1099511627776→0≤k→k+Ab b<1099511627776→
  Fx (a++Ca k b) (k,(a.length:Int))=some (.inr (k+Ab b)):=by
 intro b
 induction b with
 | nil=>
  intro a k hb hab hk hkt;unfold Fx;rw [Ep (r:=Sum.inr k)]
  ·rw [Qz,Int.add_zero]
  ·rw [show Ca k []=[]from rfl];simp only [Fw];rw [if_neg (R4 _)]
 | cons x b ih=>
  intro a k hb hab hk hkt;rw [JY]at hkt;simp only [List.length_cons]at hab;have hx:x.length<1099511627776:=hb.2 x (List.mem_cons_self ..);have ht:=CZ b;have:=ih (a++[upto k x.length]) (k+x.length) ⟨by omega,fun y hy=>hb.2 y (List.mem_cons_of_mem _ hy)⟩ (by simp;omega) (by omega) (by omega)
  unfold Fx at this ⊢;have eg:(a++Ca k (x::b)).getD (a.length:Int).toNat default=upto k x.length:=by rw [Int.toNat_natCast];exact DD a (Ca k (x::b)) a.length rfl (by simp [Ca])
  rw [KC (s':=(k+x.length,((a++[upto k x.length]).length:Int)))]
  ·rw [show a++Ca k (x::b)=a++[upto k x.length]++Ca (k+x.length) b by simp [Ca],this,JY]
   rw [show k+(x.length:Int)+Ab b=k+(x.length+Ab b) by omega]
  ·simp only [Fw];rw [Ca]at eg ⊢;rw [if_pos (Q6 ..),Az (Q7 ..),Az (by rw [eg,Kc];exact hx),Az (by rw [eg,Kc];omega),eg,Xp,if_neg (by omega),JM _ (by omega)];simp
theorem Oy(a:List (List Int))(k:Int)(ha:Ai a)(hk:0≤k∧k+Ab a<1099511627776):JJ (Ca k a) k=some (k+Ab a):=by
 unfold JJ;have:=R9 a [] k ha (by have:=ha.1;simp;omega) hk.1 hk.2
 simp only [List.length_nil,List.nil_append,Int.natCast_zero]at this;rw [this];rfl
end Go.Proofs.YtjhjkfoabhplfaaGreat
