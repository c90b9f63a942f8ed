/- Functions of the program as plain functions, and what they compute. Conditions: those in each lemma. -/
import Derived.Test.YtiehjihckndgkaaGreatL6
import Derived.Test.YtiehjihckndgkaaGreatDt
open Dv.D renaming int → bc,sl → bk,bool → bp,own → br,agg → bw
open Nat renaming reduceLT → bh,reduceEqDiff → bj,reduceAdd → bx,reduceLeDiff → b5
open Inhabited renaming default → be
open Sum renaming inr → bl,inl → bo
open Go.IntKind renaming i64 → bm,u64 → bO
open Go.ResultVar renaming tmp → bt
open List renaming replicate → ap,range → ao,pairwise_cons → b6
open Go renaming FuncId → an
open Int renaming reduceNeg → b4
noncomputable section
namespace Go.Proofs.YtiehjihckndgkaaGreat
open Go Dv
set_option linter.unusedSimpArgs false
set_option linter.unusedVariables false
set_option maxRecDepth 100000
set_option maxHeartbeats 4000000
def BQ(l:AX):Prop:=l.length<1099511627776∧ ∀x∈l,x.length<1099511627776
theorem BQ.nil:BQ []:=⟨by decide,fun _ h=>by cases h⟩
theorem BQ.at{l:AX}(h:BQ l)(i:Nat)(hi:i<l.length):l[i].length<1099511627776:=h.2 _ (NA hi)
instance (l:AX):Decidable (BQ l):=by unfold BQ;infer_instance
theorem ak{α:Type}[Inhabited α](xs:List α)(i:Nat)(h:i<xs.length)(z:α):(xs.take i++ap (xs.length-i) z).set i xs[i]=xs.take (i+1)++ap (xs.length-(i+1)) z:=by
 have e:xs.length-i=(xs.length-(i+1))+1:=by omega
 rw [e,uJ,nJ _ _ (by simp;omega),bI h]
 have:i-(xs.take i).length=0:=by simp;omega
 rw [this,uK,M4];rfl
def JC(a out:AO)(i:Int):Option ((AO×Int)⊕(AO)):= if i<(a.length:Int)then ck (0≤i∧i.toNat<a.length)<| ck (0≤i∧i.toNat<out.length)<| some (bo ((out.set i.toNat (a.getD i.toNat be)),bm.wrap (i+1))) else some (bl out)
def QO(a:AO)(v:AO×Int):Option (AO):=Dq (fun v=>JC a v.1 v.2) v
def Wp(a:AO):Option (AO):= ck (0≤(a.length:Int)∧(a.length:Int)<1099511627776)<| (QO a ((ap a.length 0),0)).bind fun AU=> some AU
def oo:SC:= .seq (.seq (.ops [oM 8 4 3,oM 9 0 26,oN 10 9 26,oB 11 .lss 3 (tK 8) (tK 10) 3 4]) (.cond (tK 11) .skip (.exit 0))) (.seq (.block 1 (.ops [oM 14 3 26,oM 15 4 3,oM 16 0 26,oM 17 4 3,oI 18 26 16 17,oL 19 3 18 3,oI 20 26 14 15,oS 3 20 19])) (.ops [oM 12 4 3,oB 13 .add 3 (tK 12) (iK 1) 3 3,oA 4 13 3]))
def A4a:SC:= .loop oo
def k38:SC:= .seq (.ops [oX 2 Gv 26]) (.seq (.ops [oM 5 0 26,oN 6 5 26,oX 7 (.makeSlice 26 (tK 6) (tK 6)) 26,oA 3 7 26]) (.seq (.seq (.ops [oX 4 (.assign (iK 0)) 3]) (.block 0 A4a)) (.seq (.ops [oM 21 3 26,oA 2 21 26]) .ret)))
theorem ADJ:Tryz.f38.body.map (BP lends)=some k38:=by kernel_rfl
theorem AQd:BR Tryz.f38 1=true:=by kernel_rfl
theorem c38{a l:List D}{r:D×List D}(h:BS Y.env k38 (fin Aj l.length [bt 2] r) (entry a l))(ha:a.length=1):Y.call 38 a l=some r:=
 AY (Y:=Y) rfl Tryz.func38 (ha▸AQd) ADJ h
def JD(a out:AO)(i:Int)(s:St):Prop:=s.v 0=bk 3 (AQ (bc .i64) a)∧s.v 3=br 3 (AQ (bc .i64) out)∧s.v 4=bc .i64 i
def NR(a:AO)(r:AO)(ex:Ex)(s:St):Prop:=ex= .exit 0∧s.v 3=br 3 (AQ (bc .i64) r)
theorem dz(a:AO){v:AO×Int}{s:St}{r:AO}(h:QO a v=some r)(hM:JD a v.1 v.2 s):BS Y.env A4a (NR a r) s:=by
 unfold QO at h;refine Aw (c:=oo) (fun v=>JC a v.1 v.2) (fun v s=>JD a v.1 v.2 s) (NR a) ?_ h hM;clear h hM s v r;intro v s o hM h;obtain⟨out,i⟩:=v;dsimp only at h hM;unfold JC at h;unfold JD at hM;obtain⟨m0,m1,m2⟩:=hM;unfold oo;rcases iS h with⟨e2,h⟩|⟨e2,h⟩
 ·obtain⟨e3,e4,h⟩:=Dr h;cases h;simp only [↓AJ,AL,↓reduceIte,bj,bh,m0,m1,m2,e2,e3.1,e3.2,e4.2,JD,Cx]
 ·cases h;simp only [↓AJ,AL,↓reduceIte,bj,bh,m0,m1,m2,e2,JD,NR,Gf]
theorem jm(a:AO){r:AO}(h:Wp a=some r):Y.call 38 [bk 3 (AQ (bc .i64) a)] []=some (br 3 (AQ (bc .i64) r),[]):=by
 refine c38 ?_ rfl;unfold k38;unfold Wp at h;obtain⟨e1,h⟩:=Cu h;obtain⟨AU,hl3,h⟩:=Ag h;try dsimp only at h
 simp only [↓AJ,AL,↓reduceIte,bj,bh,b5,e1.1,e1.2];refine Al (dz a hl3 ?_) ?_
 ·simp only [BK,Cg,↓reduceIte,bj,bh,JD]
 ·intro ex3 s3 hX3;unfold NR at hX3;obtain⟨rfl,n3_0⟩:=hX3;cases h;simp only [↓AJ,AL,↓reduceIte,bj,bh,n3_0]
theorem wM(a:AO)(h:a.length<1099511627776):Wp a=some a:=by
 have key:=Bn (fun v=>JC a v.1 v.2) (fun i=>(a.take i++ap (a.length-i) 0,(i:Int))) a.length a ?_ ?_
 ·unfold Wp QO;rw [BC (by omega)]
  simp only [bJ,PO,Nat.sub_zero,EW]at key;rw [key];rfl
 ·intro i hi;simp only [JC];rw [if_pos (BU hi),BC (DY hi),BC (DY (by simp;omega)),GH _ _ hi,Cq,ak a i hi 0,Gc i (by omega)]
 ·simp only [JC];rw [if_neg (Am _)];simp
theorem U6(a:AO)(h0:a.length<1099511627776):Y.call 38 [bk 3 (AQ (bc .i64) a)] []=some (br 3 (AQ (bc .i64) a),[]):=jm a (wM a h0)
def H8(a out:AX)(i:Int):Option ((AX×Int)⊕(AX)):= if i<(a.length:Int)then ck (0≤i∧i.toNat<a.length)<| ck ((a.getD i.toNat be).length<1099511627776)<| ck (0≤i∧i.toNat<out.length)<| some (bo ((out.set i.toNat (a.getD i.toNat be)),bm.wrap (i+1))) else some (bl out)
def Ob(a:AX)(v:AX×Int):Option (AX):=Dq (fun v=>H8 a v.1 v.2) v
def Um(a:AX):Option (AX):= ck (0≤(a.length:Int)∧(a.length:Int)<1099511627776)<| (Ob a ((ap a.length ([]:AO)),0)).bind fun AU=> some AU
def oq:SC:= .seq (.seq (.ops [oM 8 4 3,oM 9 0 22,oN 10 9 22,oB 11 .lss 3 (tK 8) (tK 10) 3 4]) (.cond (tK 11) .skip (.exit 0))) (.seq (.block 1 (.ops [oM 14 3 22,oM 15 4 3,oM 16 0 22,oM 17 4 3,oI 18 22 16 17,oL 19 26 18 26,oC 20 38 [(tK 19)] [26] 26,oI 21 22 14 15,oS 26 21 20])) (.ops [oM 12 4 3,oB 13 .add 3 (tK 12) (iK 1) 3 3,oA 4 13 3]))
def A4b:SC:= .loop oq
def k13:SC:= .seq (.ops [oX 2 Gv 22]) (.seq (.ops [oM 5 0 22,oN 6 5 22,oX 7 (.makeSlice 22 (tK 6) (tK 6)) 22,oA 3 7 22]) (.seq (.seq (.ops [oX 4 (.assign (iK 0)) 3]) (.block 0 A4b)) (.seq (.ops [oM 22 3 22,oA 2 22 22]) .ret)))
theorem ADK:Tryz.f13.body.map (BP lends)=some k13:=by kernel_rfl
theorem AQf:BR Tryz.f13 1=true:=by kernel_rfl
theorem c13{a l:List D}{r:D×List D}(h:BS Y.env k13 (fin Aj l.length [bt 2] r) (entry a l))(ha:a.length=1):Y.call 13 a l=some r:=
 AY (Y:=Y) rfl Tryz.func13 (ha▸AQf) ADK h
def H9(a out:AX)(i:Int)(s:St):Prop:=s.v 0=bk 26 (AQ BX a)∧s.v 3=br 26 (AQ Jp out)∧s.v 4=bc .i64 i
def MS(a:AX)(r:AX)(ex:Ex)(s:St):Prop:=ex= .exit 0∧s.v 3=br 26 (AQ Jp r)
theorem Zn(a:AX){v:AX×Int}{s:St}{r:AX}(h:Ob a v=some r)(hM:H9 a v.1 v.2 s):BS Y.env A4b (MS a r) s:=by
 unfold Ob at h;refine Aw (c:=oq) (fun v=>H8 a v.1 v.2) (fun v s=>H9 a v.1 v.2 s) (MS a) ?_ h hM;clear h hM s v r;intro v s o hM h;obtain⟨out,i⟩:=v;dsimp only at h hM;unfold H8 at h;unfold H9 at hM;obtain⟨m0,m1,m2⟩:=hM;unfold oq;rcases iS h with⟨e2,h⟩|⟨e2,h⟩
 ·obtain⟨e3,e4,h⟩:=Dr h;have c5:=U6 (a.getD i.toNat be) e4;obtain⟨e6,h⟩:=Cu h;cases h;simp only [↓AJ,AL,↓reduceIte,bj,bh,m0,m1,m2,e2,e3.1,e3.2,c5,e6.2,H9,Cx]
 ·cases h;simp only [↓AJ,AL,↓reduceIte,bj,bh,m0,m1,m2,e2,H9,MS,Gf]
theorem eB(a:AX){r:AX}(h:Um a=some r):Y.call 13 [bk 26 (AQ BX a)] []=some (br 26 (AQ Jp r),[]):=by
 refine c13 ?_ rfl;unfold k13;unfold Um at h;obtain⟨e1,h⟩:=Cu h;obtain⟨AU,hl3,h⟩:=Ag h;try dsimp only at h
 simp only [↓AJ,AL,↓reduceIte,bj,bh,b5,e1.1,e1.2];refine Al (Zn a hl3 ?_) ?_
 ·simp only [BK,Cg,↓reduceIte,bj,bh,H9]
 ·intro ex3 s3 hX3;unfold MS at hX3;obtain⟨rfl,n3_0⟩:=hX3;cases h;simp only [↓AJ,AL,↓reduceIte,bj,bh,n3_0]
theorem ou(a:AX)(h:BQ a):Um a=some a:=by
 have h1:=h.1;have key:=Bn (fun v=>H8 a v.1 v.2) (fun i=>(a.take i++ap (a.length-i) [],(i:Int))) a.length a ?_ ?_
 ·unfold Um Ob;rw [BC (by omega)]
  simp only [bJ,PO,Nat.sub_zero,EW]at key;rw [key];rfl
 ·intro i hi;simp only [H8];rw [if_pos (BU hi),BC (DY hi),BC (by rw [GH _ _ hi];exact h.at i hi),BC (DY (by simp;omega)),GH _ _ hi,Cq,ak a i hi [],Gc i (by omega)]
 ·simp only [H8];rw [if_neg (Am _)];simp
theorem Wq(a:AX)(h0:BQ a):Y.call 13 [bk 26 (AQ BX a)] []=some (br 26 (AQ Jp a),[]):=eB a (ou a h0)
def JE(a b:AO)(i:Int):Option ((Int)⊕(Unit⊕Unit)):= if i<(a.length:Int)then ck (0≤i∧i.toNat<a.length)<| ck (0≤i∧i.toNat<b.length)<| if(a.getD i.toNat be)=(b.getD i.toNat be)then some (bo (bm.wrap (i+1))) else some (bl (bo ())) else some (bl (bl ()))
def QP(a b:AO)(v:Int):Option (Unit⊕Unit):=Dq (fun v=>JE a b v) v
def Wt(a b:AO):Option (Bool):=
 if(a.length:Int)=(b.length:Int)then
  (QP a b 0).bind fun AU=>
  match AU with
  | .inl q1000_=>
   some false
  | .inr q1000_=>
   some true
 else
  some false
abbrev qd6:List Nat:=[17,18,19,20,21,22,23,24,25]
def oz:SC:= .seq (.seq (.ops [oM 11 5 3,oM 12 0 26,oN 13 12 26,oB 14 .lss 3 (tK 11) (tK 13) 3 4]) (.cond (tK 14) .skip (.exit 0))) (.seq (.block 1 (.seq (.draws [(⟨[17,0,0],qd6,[17]⟩,oM 17 0 26),(⟨[18,5,5],qd6,[18]⟩,oM 18 5 3),(⟨[19,17,18,0,5],qd6,[19]⟩,oI 19 26 17 18),(⟨[20,19,0],qd6,[20]⟩,oL 20 3 19 3),(⟨[21,1,1],qd6,[21]⟩,oM 21 1 26),(⟨[22,5,5],qd6,[22]⟩,oM 22 5 3),(⟨[23,21,22,1,5],qd6,[23]⟩,oI 23 26 21 22),(⟨[24,23,1],qd6,[24]⟩,oL 24 3 23 3),(⟨[25,20,24,0,1],qd6,[25]⟩,oB 25 .neq 3 (tK 20) (tK 24) 3 4)]) (.cond (tK 25) (.seq (.ops [oX 4 Ba 4]) .ret) .skip))) (.ops [oM 15 5 3,oB 16 .add 3 (tK 15) (iK 1) 3 3,oA 5 16 3]))
def A4c:SC:= .loop oz
def k26:SC:= .seq (.ops [oX 4 Ba 4]) (.seq (.seq (.ops [oM 6 0 26,oN 7 6 26,oM 8 1 26,oN 9 8 26,oB 10 .neq 3 (tK 7) (tK 9) 3 4]) (.cond (tK 10) (.seq (.ops [oX 4 Ba 4]) .ret) .skip)) (.seq (.seq (.ops [oX 5 (.assign (iK 0)) 3]) (.block 0 A4c)) (.seq (.ops [oX 4 (.assign Cy) 4]) .ret)))
theorem ADL:Tryz.f26.body.map (BP lends)=some k26:=by kernel_rfl
theorem AQh:BR Tryz.f26 2=true:=by kernel_rfl
theorem c26{a l:List D}{r:D×List D}(h:BS Y.env k26 (fin Aj l.length [bt 4] r) (entry a l))(ha:a.length=2):Y.call 26 a l=some r:=
 AY (Y:=Y) rfl Tryz.func26 (ha▸AQh) ADL h
def Gg(a b:AO)(i:Int)(s:St):Prop:=s.v 0=bk 3 (AQ (bc .i64) a)∧s.v 1=bk 3 (AQ (bc .i64) b)∧s.v 5=bc .i64 i
def JF(a b:AO)(r:Unit⊕Unit)(ex:Ex)(s:St):Prop:=match r with
 | .inl q=>ex= .ret∧s.v 4=bp false
 | .inr q=>ex= .exit 0
theorem eD(a b:AO){v:Int}{s:St}{r:Unit⊕Unit}(h:QP a b v=some r)(hM:Gg a b v s):BS Y.env A4c (JF a b r) s:=by
 unfold QP at h;refine Aw (c:=oz) (fun v=>JE a b v) (fun v s=>Gg a b v s) (JF a b) ?_ h hM;clear h hM s v r;intro i s o hM h;unfold JE at h;unfold Gg at hM;obtain⟨m0,m1,m2⟩:=hM;unfold oz;rcases iS h with⟨e2,h⟩|⟨e2,h⟩
 ·obtain⟨e3,e4,h⟩:=Dr h;rcases iS h with⟨e5,h⟩|⟨e5,h⟩
  ·cases h;simp only [↓AJ,AL,↓reduceIte,bj,bh,m0,m1,m2,e2,e3.1,e3.2,e4.2,decide_eq_true e5,Gg,Cx]
  ·cases h;simp only [↓AJ,AL,↓reduceIte,bj,bh,m0,m1,m2,e2,e3.1,e3.2,e4.2,e5,Gg,JF,QC]
 ·cases h;simp only [↓AJ,AL,↓reduceIte,bj,bh,m0,m2,e2,Gg,JF,Gf]
theorem jo(a b:AO){r:Bool}(h:Wt a b=some r):Y.call 26 [bk 3 (AQ (bc .i64) a),bk 3 (AQ (bc .i64) b)] []=some (bp r,[]):=by
 refine c26 ?_ rfl;unfold k26;unfold Wt at h;rcases iS h with⟨e1,h⟩|⟨e1,h⟩
 ·obtain⟨AU,hl3,h⟩:=Ag h;try dsimp only at h
  simp only [↓AJ,AL,↓reduceIte,bj,bh,decide_eq_true e1];refine Al (eD a b hl3 ?_) ?_
  ·simp only [BK,Cg,↓reduceIte,bj,bh,Gg]
  ·intro ex3 s3 hX3;rcases AU with q1000_|q1000_
   ·unfold JF at hX3;dsimp only at hX3 h;obtain⟨rfl,n3_0⟩:=hX3;cases h;simp only [↓AJ,AL,↓reduceIte,n3_0]
   ·unfold JF at hX3;dsimp only at hX3 h
    obtain rfl:=hX3
    cases h;simp only [↓AJ,AL,↓reduceIte,bj,bh]
 ·cases h;simp only [↓AJ,AL,↓reduceIte,bj,bh,e1]
theorem wN(a b:AO)(ha:a.length<1099511627776):Wt a b=some (decide (a=b)):=by
 unfold Wt QP;by_cases hl:a.length=b.length
 ·rw [if_pos (by omega)]
  have key:=E9 (fun v=>JE a b v) (fun i=>(i:Int)) a.length (fun i=>decide (a.getD i be=b.getD i be)) (.inl ()) (.inr ()) ?_ ?_
  ·simp only [EW]at key;rw [key,U3 a b hl];by_cases he:a=b<;>simp [he]
  ·intro i hi;simp only [JE];rw [if_pos (BU hi),BC (DY hi),BC (DY (by omega)),Cq,Gc i (by omega)]<;>simp only [decide_eq_true_eq]
  ·simp only [JE];rw [if_neg (Am _)]
 ·rw [if_neg (by omega)]
  have: ¬a=b:=fun e=>hl (by rw [e])
  simp [this]
theorem IU(a b:AO)(h0:a.length<1099511627776):Y.call 26 [bk 3 (AQ (bc .i64) a),bk 3 (AQ (bc .i64) b)] []=some (bp (decide (a=b)),[]):=jo a b (wN a b h0)
def HV(a b:AX)(i:Int):Option ((Int)⊕(Unit⊕Unit)):= if i<(a.length:Int)then ck (0≤i∧i.toNat<a.length)<| ck (0≤i∧i.toNat<b.length)<| ck ((a.getD i.toNat be).length<1099511627776)<| if(decide ((a.getD i.toNat be)=(b.getD i.toNat be)))=true then some (bo (bm.wrap (i+1))) else some (bl (bo ())) else some (bl (bl ()))
def Oc(a b:AX)(v:Int):Option (Unit⊕Unit):=Dq (fun v=>HV a b v) v
def Un(a b:AX):Option (Bool):=
 if(a.length:Int)=(b.length:Int)then
  (Oc a b 0).bind fun AU=>
  match AU with
  | .inl q1000_=>
   some false
  | .inr q1000_=>
   some true
 else
  some false
abbrev qd7:List Nat:=[17,18,19,20,21,22,23,24,25,26]
def p8:SC:= .seq (.seq (.ops [oM 11 5 3,oM 12 0 22,oN 13 12 22,oB 14 .lss 3 (tK 11) (tK 13) 3 4]) (.cond (tK 14) .skip (.exit 0))) (.seq (.block 1 (.seq (.draws [(⟨[17,0,0],qd7,[17]⟩,oM 17 0 22),(⟨[18,5,5],qd7,[18]⟩,oM 18 5 3),(⟨[19,17,18,0,5],qd7,[19]⟩,oI 19 22 17 18),(⟨[20,19,0],qd7,[20]⟩,oL 20 26 19 26),(⟨[21,1,1],qd7,[21]⟩,oM 21 1 22),(⟨[22,5,5],qd7,[22]⟩,oM 22 5 3),(⟨[23,21,22,1,5],qd7,[23]⟩,oI 23 22 21 22),(⟨[24,23,1],qd7,[24]⟩,oL 24 26 23 26),(⟨[25,20,24,0,1],qd7,[25]⟩,oC 25 26 [(tK 20),(tK 24)] [26,26] 4),(⟨[26,25,25],qd7,[26]⟩,oX 26 (.unOp .not 4 (tK 25)) 4)]) (.cond (tK 26) (.seq (.ops [oX 4 Ba 4]) .ret) .skip))) (.ops [oM 15 5 3,oB 16 .add 3 (tK 15) (iK 1) 3 3,oA 5 16 3]))
def A4d:SC:= .loop p8
def k15:SC:= .seq (.ops [oX 4 Ba 4]) (.seq (.seq (.ops [oM 6 0 22,oN 7 6 22,oM 8 1 22,oN 9 8 22,oB 10 .neq 3 (tK 7) (tK 9) 3 4]) (.cond (tK 10) (.seq (.ops [oX 4 Ba 4]) .ret) .skip)) (.seq (.seq (.ops [oX 5 (.assign (iK 0)) 3]) (.block 0 A4d)) (.seq (.ops [oX 4 (.assign Cy) 4]) .ret)))
theorem ADM:Tryz.f15.body.map (BP lends)=some k15:=by kernel_rfl
theorem AQj:BR Tryz.f15 2=true:=by kernel_rfl
theorem uC{a l:List D}{r:D×List D}(h:BS Y.env k15 (fin Aj l.length [bt 4] r) (entry a l))(ha:a.length=2):Y.call 15 a l=some r:=
 AY (Y:=Y) rfl Tryz.func15 (ha▸AQj) ADM h
def FM(a b:AX)(i:Int)(s:St):Prop:=s.v 0=bk 26 (AQ BX a)∧s.v 1=bk 26 (AQ BX b)∧s.v 5=bc .i64 i
def HY(a b:AX)(r:Unit⊕Unit)(ex:Ex)(s:St):Prop:=match r with
 | .inl q=>ex= .ret∧s.v 4=bp false
 | .inr q=>ex= .exit 0
theorem Zo(a b:AX){v:Int}{s:St}{r:Unit⊕Unit}(h:Oc a b v=some r)(hM:FM a b v s):BS Y.env A4d (HY a b r) s:=by
 unfold Oc at h;refine Aw (c:=p8) (fun v=>HV a b v) (fun v s=>FM a b v s) (HY a b) ?_ h hM;clear h hM s v r;intro i s o hM h;unfold HV at h;unfold FM at hM;obtain⟨m0,m1,m2⟩:=hM;unfold p8;rcases iS h with⟨e2,h⟩|⟨e2,h⟩
 ·obtain⟨e3,e4,e5,h⟩:=NC h;have c6:=IU (a.getD i.toNat be) (b.getD i.toNat be) e5;rcases iS h with⟨e7,h⟩|⟨e7,h⟩
  ·cases h;simp only [↓AJ,AL,↓reduceIte,bj,bh,m0,m1,m2,e2,e3.1,e3.2,e4.2,c6,e7,FM,Cx]
  ·have e7f:(decide ((a.getD i.toNat be)=(b.getD i.toNat be)))=false:=G8.mpr e7;cases h;simp only [↓AJ,AL,↓reduceIte,bj,bh,m0,m1,m2,e2,e3.1,e3.2,e4.2,c6,e7f,FM,HY,QC]
 ·cases h;simp only [↓AJ,AL,↓reduceIte,bj,bh,m0,m2,e2,FM,HY,Gf]
theorem eF(a b:AX){r:Bool}(h:Un a b=some r):Y.call 15 [bk 26 (AQ BX a),bk 26 (AQ BX b)] []=some (bp r,[]):=by
 refine uC ?_ rfl;unfold k15;unfold Un at h;rcases iS h with⟨e1,h⟩|⟨e1,h⟩
 ·obtain⟨AU,hl3,h⟩:=Ag h;try dsimp only at h
  simp only [↓AJ,AL,↓reduceIte,bj,bh,decide_eq_true e1];refine Al (Zo a b hl3 ?_) ?_
  ·simp only [BK,Cg,↓reduceIte,bj,bh,FM]
  ·intro ex3 s3 hX3;rcases AU with q1000_|q1000_
   ·unfold HY at hX3;dsimp only at hX3 h;obtain⟨rfl,n3_0⟩:=hX3;cases h;simp only [↓AJ,AL,↓reduceIte,n3_0]
   ·unfold HY at hX3;dsimp only at hX3 h
    obtain rfl:=hX3
    cases h;simp only [↓AJ,AL,↓reduceIte,bj,bh]
 ·cases h;simp only [↓AJ,AL,↓reduceIte,bj,bh,e1]
theorem p9(a b:AX)(ha:BQ a):Un a b=some (decide (a=b)):=by
 have h1:=ha.1;unfold Un Oc;by_cases hl:a.length=b.length
 ·rw [if_pos (by omega)]
  have key:=E9 (fun v=>HV a b v) (fun i=>(i:Int)) a.length (fun i=>decide (a.getD i be=b.getD i be)) (.inl ()) (.inr ()) ?_ ?_
  ·simp only [EW]at key;rw [key,U3 a b hl];by_cases he:a=b<;>simp [he]
  ·intro i hi;simp only [HV];rw [if_pos (BU hi),BC (DY hi),BC (DY (by omega)),BC (by rw [GH _ _ hi];exact ha.at i hi),Cq,Gc i (by omega)]<;>simp only [decide_eq_true_eq]
  ·simp only [HV];rw [if_neg (Am _)]
 ·rw [if_neg (by omega)]
  have: ¬a=b:=fun e=>hl (by rw [e])
  simp [this]
theorem Wu(a b:AX)(h0:BQ a):Y.call 15 [bk 26 (AQ BX a),bk 26 (AQ BX b)] []=some (bp (decide (a=b)),[]):=eF a b (p9 a b h0)
def FZ(left n:Int):Int:=if left-n<0 then-1 else left-n
theorem JG(left n:Int):FZ left n= -1∨(FZ left n=left-n∧0≤left-n):=by unfold FZ;split<;>omega
def CL(l:AX):Int:=(l.map fun xs=>(xs.length:Int)).sum
theorem pF:CL []=0:=rfl
theorem Pf(x:AO)(l:AX):CL (x::l)=x.length+CL l:=rfl
theorem Cb(l:AX):0≤CL l:=by
 induction l with
 |nil=>rw [pF];omega
 |cons x l ih=>rw [Pf];omega
theorem A0Y{l:AX}{x:AO}(h:x∈l):(x.length:Int)≤CL l:=by
 induction l with
 |nil=>cases h
 |cons y l ih=>
  rw [Pf];have:=Cb l
  rcases Rw.1 h with rfl|h
  ·omega
  ·have:=ih h;omega
theorem mQ{l:AX}(h:l.length+CL l<1099511627776):BQ l:=by
 have:=Cb l
 exact⟨by omega,fun x hx=>by have:=A0Y hx;omega⟩
def Wv(a:AO)(left:Int):Option (Int):= if(bm.wrap (left-(a.length:Int)))<0 then some (-1) else some (bm.wrap (left-(a.length:Int)))
def k32:SC:= .seq (.ops [oX 4 (.assign (iK 0)) 3]) (.seq (.ops [oM 5 1 3,oM 6 0 26,oN 7 6 26,oB 8 .sub 3 (tK 5) (tK 7) 3 3,oA 1 8 3]) (.seq (.seq (.ops [oM 9 1 3,oB 10 .lss 3 (tK 9) (iK 0) 3 4]) (.cond (tK 10) (.seq (.ops [oX 4 RH 3]) .ret) .skip)) (.seq (.ops [oM 11 1 3,oA 4 11 3]) .ret)))
theorem ADN:Tryz.f32.body.map (BP lends)=some k32:=by kernel_rfl
theorem AQl:BR Tryz.f32 2=true:=by kernel_rfl
theorem c32{a l:List D}{r:D×List D}(h:BS Y.env k32 (fin Aj l.length [bt 4] r) (entry a l))(ha:a.length=2):Y.call 32 a l=some r:=
 AY (Y:=Y) rfl Tryz.func32 (ha▸AQl) ADN h
theorem jq(a:AO)(left:Int){r:Int}(h:Wv a left=some r):Y.call 32 [bk 3 (AQ (bc .i64) a),bc .i64 left] []=some (bc .i64 r,[]):=by
 refine c32 ?_ rfl;unfold k32;unfold Wv at h;rcases iS h with⟨e1,h⟩|⟨e1,h⟩
 ·cases h;simp only [↓AJ,AL,↓reduceIte,bj,bh,e1]
 ·cases h;simp only [↓AJ,AL,↓reduceIte,bj,bh,e1]
theorem wO(a:AO)(left:Int)(ha:a.length<9223372036854775808)(hl:0≤left∧left≤1048576):Wv a left=some (FZ left a.length):=by
 unfold Wv FZ;rw [GG _ (by omega)]
 split<;>rfl
theorem U7(a:AO)(left:Int)(h0:a.length<9223372036854775808)(h1:0≤left∧left≤1048576):Y.call 32 [bk 3 (AQ (bc .i64) a),bc .i64 left] []=some (bc .i64 (FZ left a.length),[]):=jq a left (wO a left h0 h1)
def HZ(a:AX)(left1 i:Int):Option ((Int×Int)⊕(Unit⊕Int)):= if i<(a.length:Int)then ck (0≤i∧i.toNat<a.length)<| ck ((a.getD i.toNat be).length<9223372036854775808)<| ck (0≤left1∧left1≤1048576)<| if(FZ left1 (a.getD i.toNat be).length)<0 then some (bl (bo ())) else some (bo ((FZ left1 (a.getD i.toNat be).length),bm.wrap (i+1))) else some (bl (bl left1))
def IW(a:AX)(v:Int×Int):Option (Unit⊕Int):=Dq (fun v=>HZ a v.1 v.2) v
def RI(a:AX)(left:Int):Option (Int):=
 if(bm.wrap (left-(a.length:Int)))<0 then
  some (-1)
 else
  (IW a (bm.wrap (left-(a.length:Int)),0)).bind fun AU=>
  match AU with
  | .inl q1000_=>
   some (-1)
  | .inr q1000_=>
   some q1000_
def zM:SC:= .seq (.seq (.ops [oM 12 5 3,oM 13 0 22,oN 14 13 22,oB 15 .lss 3 (tK 12) (tK 14) 3 4]) (.cond (tK 15) .skip (.exit 0))) (.seq (.block 1 (.seq (.ops [oM 18 0 22,oM 19 5 3,oI 20 22 18 19,oL 21 26 20 26,oM 22 1 3,oC 23 32 [(tK 21),(tK 22)] [26,3] 3,oA 1 23 3]) (.seq (.ops [oM 24 1 3,oB 25 .lss 3 (tK 24) (iK 0) 3 4]) (.cond (tK 25) (.seq (.ops [oX 4 RH 3]) .ret) .skip)))) (.ops [oM 16 5 3,oB 17 .add 3 (tK 16) (iK 1) 3 3,oA 5 17 3]))
def ABU:SC:= .loop zM
def k9:SC:= .seq (.ops [oX 4 (.assign (iK 0)) 3]) (.seq (.ops [oM 6 1 3,oM 7 0 22,oN 8 7 22,oB 9 .sub 3 (tK 6) (tK 8) 3 3,oA 1 9 3]) (.seq (.seq (.ops [oM 10 1 3,oB 11 .lss 3 (tK 10) (iK 0) 3 4]) (.cond (tK 11) (.seq (.ops [oX 4 RH 3]) .ret) .skip)) (.seq (.seq (.ops [oX 5 (.assign (iK 0)) 3]) (.block 0 ABU)) (.seq (.ops [oM 26 1 3,oA 4 26 3]) .ret))))
theorem ALZ:Tryz.f9.body.map (BP lends)=some k9:=by kernel_rfl
theorem ok9:BR Tryz.f9 2=true:=by kernel_rfl
theorem c9{a l:List D}{r:D×List D}(h:BS Y.env k9 (fin Aj l.length [bt 4] r) (entry a l))(ha:a.length=2):Y.call 9 a l=some r:=
 AY (Y:=Y) rfl Tryz.func9 (ha▸ok9) ALZ h
def FN(a:AX)(left1 i:Int)(s:St):Prop:=s.v 0=bk 26 (AQ BX a)∧s.v 1=bc .i64 left1∧s.v 5=bc .i64 i
def Ha(a:AX)(r:Unit⊕Int)(ex:Ex)(s:St):Prop:=match r with
 | .inl q=>ex= .ret∧s.v 4=bc .i64 (-1)
 | .inr q=>ex= .exit 0∧s.v 1=bc .i64 q
theorem Zp(a:AX){v:Int×Int}{s:St}{r:Unit⊕Int}(h:IW a v=some r)(hM:FN a v.1 v.2 s):BS Y.env ABU (Ha a r) s:=by
 unfold IW at h;refine Aw (c:=zM) (fun v=>HZ a v.1 v.2) (fun v s=>FN a v.1 v.2 s) (Ha a) ?_ h hM;clear h hM s v r;intro v s o hM h;obtain⟨left1,i⟩:=v;dsimp only at h hM;unfold HZ at h;unfold FN at hM;obtain⟨m0,m1,m2⟩:=hM;unfold zM;rcases iS h with⟨e2,h⟩|⟨e2,h⟩
 ·obtain⟨e3,e4,e5,h⟩:=NC h;have c6:=U7 (a.getD i.toNat be) left1 e4 e5;rcases iS h with⟨e7,h⟩|⟨e7,h⟩
  ·cases h;simp only [↓AJ,AL,↓reduceIte,bj,bh,m0,m1,m2,e2,e3.1,e3.2,c6,e7,FN,Ha,QC]
  ·cases h;simp only [↓AJ,AL,↓reduceIte,bj,bh,m0,m1,m2,e2,e3.1,e3.2,c6,e7,FN,Cx]
 ·cases h;simp only [↓AJ,AL,↓reduceIte,bj,bh,m0,m1,m2,e2,FN,Ha,Gf]
theorem eG(a:AX)(left:Int){r:Int}(h:RI a left=some r):Y.call 9 [bk 26 (AQ BX a),bc .i64 left] []=some (bc .i64 r,[]):=by
 refine c9 ?_ rfl;unfold k9;unfold RI at h;rcases iS h with⟨e1,h⟩|⟨e1,h⟩
 ·cases h;simp only [↓AJ,AL,↓reduceIte,bj,bh,e1]
 ·obtain⟨AU,hl3,h⟩:=Ag h;try dsimp only at h
  simp only [↓AJ,AL,↓reduceIte,bj,bh,e1];refine Al (Zp a hl3 ?_) ?_
  ·simp only [BK,Cg,↓reduceIte,bj,bh,FN]
  ·intro ex3 s3 hX3;rcases AU with q1000_|q1000_
   ·unfold Ha at hX3;dsimp only at hX3 h;obtain⟨rfl,n3_0⟩:=hX3;cases h;simp only [↓AJ,AL,↓reduceIte,n3_0]
   ·unfold Ha at hX3;dsimp only at hX3 h;obtain⟨rfl,n3_0⟩:=hX3;cases h;simp only [↓AJ,AL,↓reduceIte,bj,bh,n3_0]
def szL:Int→AX→Int
 |left,[]=>left
 |left,x::l=>if left-x.length<0 then-1 else szL (left-x.length) l
theorem A4e(l:AX): ∀(left:Int),0≤left→szL left l=FZ left (CL l):=by
 induction l with
 |nil=>intro left h;unfold szL FZ;rw [pF,if_neg (by omega)];omega
 |cons x l ih=>
  intro left h;have:=Cb l
  unfold szL;by_cases hq:left-x.length<0
  ·rw [if_pos hq];unfold FZ;rw [Pf,if_pos (by omega)]
  ·rw [if_neg hq,ih _ (by omega)]
   unfold FZ;rw [Pf];by_cases hr:left-x.length-CL l<0
   ·rw [if_pos hr,if_pos (by omega)]
   ·rw [if_neg hr,if_neg (by omega)];omega
theorem Zq(a:AX)(ha:a.length<4611686018427387904)(hx: ∀x∈a,x.length<9223372036854775808): ∀(n i:Nat) (left:Int),n=a.length-i→i≤a.length→0≤left∧left≤1048576→
  IW a (left,(i:Int))=some (if szL left (a.drop i)= -1 then .inl ()else .inr (szL left (a.drop i))):=by
 intro n
 induction n with
 |zero=>
  intro i left hn hi hl;have e:i=a.length:=by omega
  subst e;unfold IW;rw [E8 (r:=bl left)]
  ·rw [List.drop_length];unfold szL;rw [if_neg (by omega)]
  ·simp only [HZ];rw [if_neg (Am _)]
 |succ n ih=>
  intro i left hn hi hl;have hlt:i<a.length:=by omega
  have hm:a[i]∈a:=NA hlt;have hxm:=hx _ hm
  have step:HZ a left i=if FZ left a[i].length<0 then some (bl (bo ()))else some (bo (FZ left a[i].length,((i+1:Nat):Int))):=by
   unfold HZ;rw [if_pos (BU hlt),BC (DY hlt),BC (by rw [GH _ _ hlt];exact hxm),BC hl,GH _ _ hlt,Gc i (by omega)]
  rw [ZY hlt];unfold szL;by_cases hq:left-(a[i].length:Int)<0
  ·rw [if_pos hq];unfold IW;rw [E8 (r:=bo ())]
   ·rfl
   ·rw [step];unfold FZ;rw [if_pos hq];rfl
  ·rw [if_neg hq];have e2:FZ left a[i].length=left-a[i].length:=by unfold FZ;rw [if_neg hq]
   have:=ih (i+1) (left-a[i].length) (by omega) (by omega) (by omega)
   unfold IW at this ⊢;rw [Lh (s':=(left-(a[i].length:Int),((i+1:Nat):Int))),this]
   ·rw [step,e2,if_neg hq]
theorem jr(a:AX)(left:Int)(ha:a.length<9223372036854775808)(hx: ∀x∈a,x.length<9223372036854775808)(hl:0≤left∧left≤1048576):RI a left=some (FZ left (a.length+CL a)):=by
 have ht:=Cb a;unfold RI;rw [GG _ (by omega)]
 by_cases hq:left-(a.length:Int)<0
 ·rw [if_pos hq];unfold FZ;rw [if_pos (by omega)]
 ·rw [if_neg hq];have h0:=Zq a (by omega) hx a.length 0 (left-a.length) (by omega) (by omega) (by omega)
  simp only [EW,WC]at h0;rw [h0,CB,A4e _ _ (by omega)]
  have e:FZ (left-a.length) (CL a)=FZ left (a.length+CL a):=by unfold FZ;rw [show left- ↑a.length-CL a=left-(↑a.length+CL a) by omega]
  rw [e];by_cases h1:FZ left (a.length+CL a)= -1
  ·rw [if_pos h1,h1]
  ·rw [if_neg h1]
theorem Ve{α:Type}(a b:List α)(x:α):(a.length:Int)<((a++x::b).length:Int):=by rw [Np,Jw];omega
theorem Vf{α:Type}(a b:List α)(x:α):0≤(a.length:Int)∧(a.length:Int).toNat<(a++x::b).length:=by rw [Np,Jw];omega
theorem Ww{α:Type}(a:List α): ¬(a.length:Int)<((a++[]).length:Int):=by rw [TI];omega
def Vg(l:AX):Prop:=l.length<9223372036854775808∧ ∀x∈l,x.length<9223372036854775808
instance (l:AX):Decidable (Vg l):=by unfold Vg;infer_instance
theorem pG(a:AX)(left:Int)(hw:Vg a)(hl:0≤left∧left≤1048576):RI a left=some (FZ left (a.length+CL a)):=jr a left hw.1 hw.2 hl
theorem Wx(a:AX)(left:Int)(h0:Vg a)(h1:0≤left∧left≤1048576):Y.call 9 [bk 26 (AQ BX a),bc .i64 left] []=some (bc .i64 (FZ left (a.length+CL a)),[]):=eG a left (pG a left h0 h1)
def upto(k:Int)(n:Nat):AO:=(ao n).map fun(i:Nat)=>k+i
theorem U8(k:Int)(n:Nat):(upto k n).length=n:=by simp [upto]
theorem A4f(xs:AO)(k:Int)(i:Nat)(h:i<xs.length):(upto k i++xs.drop i).set i (k+i)=upto k (i+1)++xs.drop (i+1):=by
 rw [nJ _ _ (by simp [U8]),U8,WE,ZY h,uK]
 simp [upto,VT]
def Fh(k k1 i:Int)(BL:AO):Option ((Int×Int×AO)⊕(Int×AO)):= if i<(BL.length:Int)then ck (0≤i∧i.toNat<BL.length)<| some (bo (bm.wrap (k1+1),bm.wrap (i+1),(BL.set i.toNat k1))) else some (bl (k1,BL))
def NS(k:Int)(v:Int×Int×AO):Option (Int×AO):=Dq (fun v=>Fh k v.1 v.2.1 v.2.2) v
def SQ(a:AO)(k:Int):Option (Int×AO):= (NS k (k,0,a)).bind fun AU=> some (AU.1,AU.2)
def pI:SC:= .seq (.seq (.ops [oM 6 5 3,oM 7 0 26,oN 8 7 26,oB 9 .lss 3 (tK 6) (tK 8) 3 4]) (.cond (tK 9) .skip (.exit 0))) (.seq (.block 1 (.seq (.ops [oM 12 0 26,oM 13 5 3,oM 14 1 3,oI 15 26 12 13,oS 3 15 14]) (.ops [oM 16 1 3,oB 17 .add 3 (tK 16) (iK 1) 3 3,oA 1 17 3]))) (.ops [oM 10 5 3,oB 11 .add 3 (tK 10) (iK 1) 3 3,oA 5 11 3]))
def A4g:SC:= .loop pI
def k27:SC:= .seq (.ops [oX 4 (.assign (iK 0)) 3]) (.seq (.seq (.ops [oX 5 (.assign (iK 0)) 3]) (.block 0 A4g)) (.seq (.ops [oM 18 1 3,oA 4 18 3]) .ret))
theorem ADO:Tryz.f27.body.map (BP lends)=some k27:=by kernel_rfl
theorem AQn:BR Tryz.f27 2=true:=by kernel_rfl
theorem c27{a l:List D}{r:D×List D}(h:BS Y.env k27 (fin Aj l.length [bt 4] r) (entry a l))(ha:a.length=2):Y.call 27 a l=some r:=
 AY (Y:=Y) rfl Tryz.func27 (ha▸AQn) ADO h
def Fj(k k1 i:Int)(BL:AO)(s:St):Prop:=(∃w_,s.v 0=D.vw [100000] (s.k 100000) w_)∧s.v 1=bc .i64 k1∧s.v 5=bc .i64 i∧s.v 100000=br 3 (AQ (bc .i64) BL)
def Li(k:Int)(r:Int×AO)(ex:Ex)(s:St):Prop:=ex= .exit 0∧s.v 1=bc .i64 r.1∧s.v 100000=br 3 (AQ (bc .i64) r.2)
theorem YE(k:Int){v:Int×Int×AO}{s:St}{r:Int×AO}(h:NS k v=some r)(hM:Fj k v.1 v.2.1 v.2.2 s):BS Y.env A4g (Li k r) s:=by
 unfold NS at h;refine Aw (c:=pI) (fun v=>Fh k v.1 v.2.1 v.2.2) (fun v s=>Fj k v.1 v.2.1 v.2.2 s) (Li k) ?_ h hM;clear h hM s v r;intro v s o hM h;obtain⟨k1,i,BL⟩:=v;dsimp only at h hM;unfold Fh at h;unfold Fj at hM;obtain⟨⟨w0_,m0⟩,m1,m2,m3⟩:=hM;unfold pI;rcases iS h with⟨e1,h⟩|⟨e1,h⟩
 ·obtain⟨e2,h⟩:=Cu h;cases h;simp only [↓AJ,AL,↓reduceIte,bj,bh,m0,m1,m2,m3,e1,e2.1,e2.2,Fj,Cx]<;>(repeat' apply A7)<;>first|rfl|exact⟨_,rfl⟩|exact⟨_,_,rfl⟩|simp [AQ,Ay]
 ·cases h;simp only [↓AJ,AL,↓reduceIte,bj,bh,m0,m1,m2,m3,e1,Fj,Li,Gf]
theorem Zr(a:AO)(k:Int){r:Int×AO}(h:SQ a k=some r):Y.call 27 [D.vw [100000] 0 0,bc .i64 k] [br 3 (AQ (bc .i64) a)]=some (bc .i64 r.1,[br 3 (AQ (bc .i64) r.2)]):=by
 refine c27 ?_ rfl;unfold k27;unfold SQ at h;obtain⟨AU,hl2,h⟩:=Ag h;try dsimp only at h
 simp only [↓AJ,AL,↓reduceIte,bj,bh,bx];refine Al (YE k hl2 ?_) ?_
 ·simp only [BK,Cg,↓reduceIte,bj,bh,Nat.reduceSub,Fj]<;>(repeat' apply A7)<;>first|rfl|exact⟨_,rfl⟩|exact⟨_,_,rfl⟩|simp [AQ,Ay]
 ·intro ex2 s2 hX2;unfold Li at hX2;obtain⟨rfl,n2_0,n2_1⟩:=hX2;cases h;simp only [↓AJ,AL,↓reduceIte,bj,bh,n2_0,n2_1]
theorem jv(a:AO)(k:Int)(ha:a.length<1099511627776)(hk:0≤k∧k<1099511627776):SQ a k=some (k+a.length,upto k a.length):=by
 have key:=Bn (fun v=>Fh k v.1 v.2.1 v.2.2) (fun i=>(k+i,(i:Int),upto k i++a.drop i)) a.length (k+a.length,upto k a.length) ?_ ?_
 ·unfold SQ NS;have e0:upto k 0=[]:=rfl;simp only [EW,Int.add_zero,WC,e0,PO]at key;rw [key];rfl
 ·intro i hi;simp only [Fh];have el:(upto k i++a.drop i).length=a.length:=by simp [U8];omega
  rw [el,if_pos (BU hi),BC (DY hi),Cq,A4f a k i hi,Gc i (by omega),GG _ (by omega)]
  rw [show k+(i:Int)+1=k+((i+1:Nat):Int) by omega]
 ·simp only [Fh];have el:(upto k a.length++a.drop a.length).length=a.length:=by simp [U8]
  rw [el,if_neg (Am _)];simp
theorem LX(a:AO)(k:Int)(h0:a.length<1099511627776)(h1:0≤k∧k<1099511627776):Y.call 27 [D.vw [100000] 0 0,bc .i64 k] [br 3 (AQ (bc .i64) a)]=some (bc .i64 (k+a.length),[br 3 (AQ (bc .i64) (upto k a.length))]):=Zr a k (jv a k h0 h1)
def U9:Int→AX→AX
 |_,[]=>[]
 |k,x::l=>upto k x.length::U9 (k+x.length) l
def Hd(k k1 i:Int)(BL:AX):Option ((Int×Int×AX)⊕(Int×AX)):= if i<(BL.length:Int)then ck (0≤i∧i.toNat<BL.length)<| ck ((BL.getD i.toNat be).length<1099511627776)<| ck (0≤k1∧k1<1099511627776)<| some (bo ((k1+(BL.getD i.toNat be).length),bm.wrap (i+1),(BL.set i.toNat (upto k1 (BL.getD i.toNat be).length)))) else some (bl (k1,BL))
def He(k:Int)(v:Int×Int×AX):Option (Int×AX):=Dq (fun v=>Hd k v.1 v.2.1 v.2.2) v
def QQ(a:AX)(k:Int):Option (Int×AX):= (He k (k,0,a)).bind fun AU=> some (AU.1,AU.2)
def pJ:SC:= .seq (.seq (.ops [oM 6 5 3,oM 7 0 22,oN 8 7 22,oB 9 .lss 3 (tK 6) (tK 8) 3 4]) (.cond (tK 9) .skip (.exit 0))) (.seq (.block 1 (.ops [oM 12 0 22,oM 13 5 3,oI 14 22 12 13,oL 15 26 14 26,oM 16 1 3,oC 17 27 [(tK 15),(tK 16)] [26,3] 3,oA 1 17 3])) (.ops [oM 10 5 3,oB 11 .add 3 (tK 10) (iK 1) 3 3,oA 5 11 3]))
def A4h:SC:= .loop pJ
def k20:SC:= .seq (.ops [oX 4 (.assign (iK 0)) 3]) (.seq (.seq (.ops [oX 5 (.assign (iK 0)) 3]) (.block 0 A4h)) (.seq (.ops [oM 18 1 3,oA 4 18 3]) .ret))
theorem ADP:Tryz.f20.body.map (BP lends)=some k20:=by kernel_rfl
theorem AQp:BR Tryz.f20 2=true:=by kernel_rfl
theorem c20{a l:List D}{r:D×List D}(h:BS Y.env k20 (fin Aj l.length [bt 4] r) (entry a l))(ha:a.length=2):Y.call 20 a l=some r:=
 AY (Y:=Y) rfl Tryz.func20 (ha▸AQp) ADP h
def Eu(k k1 i:Int)(BL:AX)(s:St):Prop:=(∃w_,s.v 0=D.vw [100000] (s.k 100000) w_)∧s.v 1=bc .i64 k1∧s.v 5=bc .i64 i∧s.v 100000=br 26 (AQ Jp BL)
def KW(k:Int)(r:Int×AX)(ex:Ex)(s:St):Prop:=ex= .exit 0∧s.v 1=bc .i64 r.1∧s.v 100000=br 26 (AQ Jp r.2)
theorem Wy(k:Int){v:Int×Int×AX}{s:St}{r:Int×AX}(h:He k v=some r)(hM:Eu k v.1 v.2.1 v.2.2 s):BS Y.env A4h (KW k r) s:=by
 unfold He at h;refine Aw (c:=pJ) (fun v=>Hd k v.1 v.2.1 v.2.2) (fun v s=>Eu k v.1 v.2.1 v.2.2 s) (KW k) ?_ h hM;clear h hM s v r;intro v s o hM h;obtain⟨k1,i,BL⟩:=v;dsimp only at h hM;unfold Hd at h;unfold Eu at hM;obtain⟨⟨w0_,m0⟩,m1,m2,m3⟩:=hM;unfold pJ;rcases iS h with⟨e1,h⟩|⟨e1,h⟩
 ·obtain⟨e2,e3,e4,h⟩:=NC h;have c5:=LX (BL.getD i.toNat be) k1 e3 e4;cases h;simp only [↓AJ,AL,↓reduceIte,bj,bh,m0,m1,m2,m3,e1,e2.1,e2.2,c5,Eu,Cx]<;>(repeat' apply A7)<;>first|rfl|exact⟨_,rfl⟩|exact⟨_,_,rfl⟩|simp [AQ,Ay]
 ·cases h;simp only [↓AJ,AL,↓reduceIte,bj,bh,m0,m1,m2,m3,e1,Eu,KW,Gf]
theorem YF(a:AX)(k:Int){r:Int×AX}(h:QQ a k=some r):Y.call 20 [D.vw [100000] 0 0,bc .i64 k] [br 26 (AQ Jp a)]=some (bc .i64 r.1,[br 26 (AQ Jp r.2)]):=by
 refine c20 ?_ rfl;unfold k20;unfold QQ at h;obtain⟨AU,hl2,h⟩:=Ag h;try dsimp only at h
 simp only [↓AJ,AL,↓reduceIte,bj,bh,bx];refine Al (Wy k hl2 ?_) ?_
 ·simp only [BK,Cg,↓reduceIte,bj,bh,Nat.reduceSub,Eu]<;>(repeat' apply A7)<;>first|rfl|exact⟨_,rfl⟩|exact⟨_,_,rfl⟩|simp [AQ,Ay]
 ·intro ex2 s2 hX2;unfold KW at hX2;obtain⟨rfl,n2_0,n2_1⟩:=hX2;cases h;simp only [↓AJ,AL,↓reduceIte,bj,bh,n2_0,n2_1]
theorem Wz(kk:Int): ∀(b a:AX) (k:Int),BQ b→a.length+b.length<1099511627776→0≤k→k+CL b<1099511627776→
  He kk (k,(a.length:Int),a++b)=some (k+CL b,a++U9 k b):=by
 intro b
 induction b with
 |nil=>
  intro a k hb hab hk hkt;unfold He;rw [E8 (r:=(k,a++[]))]
  ·rw [pF,Int.add_zero];rfl
  ·simp only [Hd];rw [if_neg (Ww _)]
 |cons x b ih=>
  intro a k hb hab hk hkt;rw [Pf]at hkt;simp only [Jw]at hab;have hx:x.length<1099511627776:=hb.2 x (Gu ..);have ht:=Cb b;have:=ih (a++[upto k x.length]) (k+x.length) ⟨by omega,fun y hy=>hb.2 y (PL _ hy)⟩ (by simp;omega) (by omega) (by omega)
  unfold He at this ⊢;have eg:(a++x::b).getD (a.length:Int).toNat be=x:=by rw [Cq];exact FK a (x::b) a.length rfl (by simp)
  rw [Lh (s':=(k+x.length,((a++[upto k x.length]).length:Int),(a++[upto k x.length])++b)),this]
  ·rw [Pf,show k+(x.length:Int)+CL b=k+(x.length+CL b) by omega]
   simp [U9]
  ·simp only [Hd];rw [if_pos (Ve ..),BC (Vf ..),BC (by rw [eg];exact hx),BC ⟨hk,by omega⟩,eg,Gc _ (by omega),Cq,nJ _ _ (Cc _),WE,uK]
   simp
theorem eH(a:AX)(k:Int)(ha:BQ a)(hk:0≤k∧k+CL a<1099511627776):QQ a k=some (k+CL a,U9 k a):=by
 unfold QQ;have:=Wz k a [] k ha (by have:=ha.1;simp;omega) hk.1 hk.2
 simp only [Qu,PO,EW]at this;rw [this];rfl
theorem UA(a:AX)(k:Int)(h0:BQ a)(h1:0≤k∧k+CL a<1099511627776):Y.call 20 [D.vw [100000] 0 0,bc .i64 k] [br 26 (AQ Jp a)]=some (bc .i64 (k+CL a),[br 26 (AQ Jp (U9 k a))]):=YF a k (eH a k h0 h1)
def RA:Int→AO→Int
 |k,[]=>k
 |k,x::l=>if x=k then RA (k+1) l else-1
def Fp(a:AO)(k1 i:Int):Option ((Int×Int)⊕(Unit⊕Int)):= if i<(a.length:Int)then ck (0≤i∧i.toNat<a.length)<| if(a.getD i.toNat be)=k1 then some (bo (bm.wrap (k1+1),bm.wrap (i+1))) else some (bl (bo ())) else some (bl (bl k1))
def Gh(a:AO)(v:Int×Int):Option (Unit⊕Int):=Dq (fun v=>Fp a v.1 v.2) v
def SS(a:AO)(k:Int):Option (Int):=
 (Gh a (k,0)).bind fun AU=>
 match AU with
 | .inl q1000_=>
  some (-1)
 | .inr q1000_=>
  some q1000_
def pK:SC:= .seq (.seq (.ops [oM 6 5 3,oM 7 0 26,oN 8 7 26,oB 9 .lss 3 (tK 6) (tK 8) 3 4]) (.cond (tK 9) .skip (.exit 0))) (.seq (.block 1 (.seq (.seq (.ops [oM 12 0 26,oM 13 5 3,oI 14 26 12 13,oL 15 3 14 3,oM 16 1 3,oB 17 .neq 3 (tK 15) (tK 16) 3 4]) (.cond (tK 17) (.seq (.ops [oX 4 RH 3]) .ret) .skip)) (.ops [oM 18 1 3,oB 19 .add 3 (tK 18) (iK 1) 3 3,oA 1 19 3]))) (.ops [oM 10 5 3,oB 11 .add 3 (tK 10) (iK 1) 3 3,oA 5 11 3]))
def A4i:SC:= .loop pK
def k28:SC:= .seq (.ops [oX 4 (.assign (iK 0)) 3]) (.seq (.seq (.ops [oX 5 (.assign (iK 0)) 3]) (.block 0 A4i)) (.seq (.ops [oM 20 1 3,oA 4 20 3]) .ret))
theorem ADQ:Tryz.f28.body.map (BP lends)=some k28:=by kernel_rfl
theorem AQr:BR Tryz.f28 2=true:=by kernel_rfl
theorem c28{a l:List D}{r:D×List D}(h:BS Y.env k28 (fin Aj l.length [bt 4] r) (entry a l))(ha:a.length=2):Y.call 28 a l=some r:=
 AY (Y:=Y) rfl Tryz.func28 (ha▸AQr) ADQ h
def EY(a:AO)(k1 i:Int)(s:St):Prop:=s.v 0=bk 3 (AQ (bc .i64) a)∧s.v 1=bc .i64 k1∧s.v 5=bc .i64 i
def Fq(a:AO)(r:Unit⊕Int)(ex:Ex)(s:St):Prop:=match r with
 | .inl q=>ex= .ret∧s.v 4=bc .i64 (-1)
 | .inr q=>ex= .exit 0∧s.v 1=bc .i64 q
theorem YG(a:AO){v:Int×Int}{s:St}{r:Unit⊕Int}(h:Gh a v=some r)(hM:EY a v.1 v.2 s):BS Y.env A4i (Fq a r) s:=by
 unfold Gh at h;refine Aw (c:=pK) (fun v=>Fp a v.1 v.2) (fun v s=>EY a v.1 v.2 s) (Fq a) ?_ h hM;clear h hM s v r;intro v s o hM h;obtain⟨k1,i⟩:=v;dsimp only at h hM;unfold Fp at h;unfold EY at hM;obtain⟨m0,m1,m2⟩:=hM;unfold pK;rcases iS h with⟨e1,h⟩|⟨e1,h⟩
 ·obtain⟨e2,h⟩:=Cu h;rcases iS h with⟨e3,h⟩|⟨e3,h⟩
  ·cases h;simp only [↓AJ,AL,↓reduceIte,bj,bh,m0,m1,m2,e1,e2.1,e2.2,decide_eq_true e3,EY,Cx]
  ·cases h;simp only [↓AJ,AL,↓reduceIte,bj,bh,m0,m1,m2,e1,e2.1,e2.2,e3,EY,Fq,QC]
 ·cases h;simp only [↓AJ,AL,↓reduceIte,bj,bh,m0,m1,m2,e1,EY,Fq,Gf]
theorem Zt(a:AO)(k:Int){r:Int}(h:SS a k=some r):Y.call 28 [bk 3 (AQ (bc .i64) a),bc .i64 k] []=some (bc .i64 r,[]):=by
 refine c28 ?_ rfl;unfold k28;unfold SS at h;obtain⟨AU,hl2,h⟩:=Ag h;try dsimp only at h
 simp only [↓AJ,AL,↓reduceIte,bj,bh];refine Al (YG a hl2 ?_) ?_
 ·simp only [BK,Cg,↓reduceIte,bj,bh,EY]
 ·intro ex2 s2 hX2;rcases AU with q1000_|q1000_
  ·unfold Fq at hX2;dsimp only at hX2 h;obtain⟨rfl,n2_0⟩:=hX2;cases h;simp only [↓AJ,AL,↓reduceIte,n2_0]
  ·unfold Fq at hX2;dsimp only at hX2 h;obtain⟨rfl,n2_0⟩:=hX2;cases h;simp only [↓AJ,AL,↓reduceIte,bj,bh,n2_0]
theorem YH: ∀(b a:AO) (k:Int),a.length+b.length<1099511627776→0≤k→k+b.length<1099511627776→
  Gh (a++b) (k,(a.length:Int))=some (if RA k b= -1 then .inl ()else .inr (RA k b)):=by
 intro b
 induction b with
 |nil=>
  intro a k hab hk hkt;unfold Gh;rw [E8 (r:=bl k)]
  ·unfold RA;rw [if_neg (by omega)]
  ·simp only [Fp];rw [if_neg (Ww _)]
 |cons x b ih=>
  intro a k hab hk hkt;simp only [Jw]at hab hkt;have eg:(a++x::b).getD (a.length:Int).toNat be=x:=by rw [Cq];exact FK a (x::b) a.length rfl (by simp)
  unfold RA;by_cases hq:x=k
  ·rw [if_pos hq];have:=ih (a++[x]) (k+1) (by simp;omega) (by omega) (by omega)
   unfold Gh at this ⊢;rw [Lh (s':=(k+1,((a++[x]).length:Int)))]
   ·rw [show a++x::b=a++[x]++b by simp];exact this
   ·simp only [Fp];rw [if_pos (Ve ..),BC (Vf ..),eg,if_pos hq,Gc _ (by omega),GG _ (by omega)];simp
  ·rw [if_neg hq];unfold Gh;rw [E8 (r:=bo ())]
   ·rfl
   ·simp only [Fp];rw [if_pos (Ve ..),BC (Vf ..),eg,if_neg hq]
theorem jw(a:AO)(k:Int)(ha:a.length<1099511627776)(hk:0≤k∧k+a.length<1099511627776):SS a k=some (RA k a):=by
 unfold SS;have:=YH a [] k (by simpa using ha) hk.1 hk.2
 simp only [Qu,PO,EW]at this;rw [this,CB];by_cases h:RA k a= -1
 ·rw [if_pos h,h]
 ·rw [if_neg h]
theorem NT(a:AO)(k:Int)(h0:a.length<1099511627776)(h1:0≤k∧k+a.length<1099511627776):Y.call 28 [bk 3 (AQ (bc .i64) a),bc .i64 k] []=some (bc .i64 (RA k a),[]):=Zt a k (jw a k h0 h1)
theorem A2J(n:Nat): ∀k,RA k (upto k n)=k+n:=by
 induction n with
 |zero=>intro k;simp [upto,RA]
 |succ n ih=>
  intro k
  have e:upto k (n+1)=k::upto (k+1) n:=by
   simp only [upto,List.range_succ_eq_map,VU,List.map_map]
   congr 1
   ·simp
   ·apply lM;intro i _;simp;omega
  rw [e,RA,if_pos rfl,ih];omega
def A7T:SC:= .seq (.seq (.ops [oM 6 5 3,oM 7 0 22,oN 8 7 22,oB 9 .lss 3 (tK 6) (tK 8) 3 4]) (.cond (tK 9) .skip (.exit 0))) (.seq (.block 1 (.seq (.ops [oM 12 0 22,oM 13 5 3,oI 14 22 12 13,oL 15 26 14 26,oM 16 1 3,oC 17 28 [(tK 15),(tK 16)] [26,3] 3,oA 1 17 3]) (.seq (.ops [oM 18 1 3,oB 19 .lss 3 (tK 18) (iK 0) 3 4]) (.cond (tK 19) (.seq (.ops [oX 4 RH 3]) .ret) .skip)))) (.ops [oM 10 5 3,oB 11 .add 3 (tK 10) (iK 1) 3 3,oA 5 11 3]))
def ADR:SC:= .loop A7T
def k21:SC:= .seq (.ops [oX 4 (.assign (iK 0)) 3]) (.seq (.seq (.ops [oX 5 (.assign (iK 0)) 3]) (.block 0 ADR)) (.seq (.ops [oM 20 1 3,oA 4 20 3]) .ret))
theorem ADS:Tryz.f21.body.map (BP lends)=some k21:=by kernel_rfl
theorem AQt:BR Tryz.f21 2=true:=by kernel_rfl
theorem c21{a l:List D}{r:D×List D}(h:BS Y.env k21 (fin Aj l.length [bt 4] r) (entry a l))(ha:a.length=2):Y.call 21 a l=some r:=
 AY (Y:=Y) rfl Tryz.func21 (ha▸AQt) ADS h
def QR(Bg Bh:Int)(Ar BG:AX):Option (Int×Int×AX×AX):= ck (BQ Ar)<| ck (BQ BG)<| some (Bg,Bh,Ar,BG)
def k11:SC:= .seq (.ops [oX 1 (.box 24 (tK 0)) 0,oX 2 (.alloc 34) 0]) (.seq (.ops [oX 3 (.alloc 34) 0]) (.seq (.ops [oF 4 24 1 0,oL 5 3 4 3,oF 6 34 3 0,oS 3 6 5]) (.seq (.ops [oF 7 24 1 1,oL 8 3 7 3,oF 9 34 3 1,oS 3 9 8]) (.seq (.ops [oF 10 24 1 2,oL 11 22 10 22,oC 12 13 [(tK 11)] [22] 22,oF 13 34 3 2,oS 22 13 12]) (.seq (.ops [oF 14 24 1 3,oL 15 22 14 22,oC 16 13 [(tK 15)] [22] 22,oF 17 34 3 3,oS 22 17 16]) (.seq (.ops [oL 18 34 3 34,oS 34 2 18]) .ret))))))
theorem ADT:Tryz.f11.body.map (BP lends)=some k11:=by kernel_rfl
theorem AQv:BR Tryz.f11 1=true:=by kernel_rfl
theorem c11{a l:List D}{r:D×List D}(h:BS Y.env k11 (fin Aj l.length [ResultVar.cell 2 34] r) (entry a l))(ha:a.length=1):Y.call 11 a l=some r:=
 AY (Y:=Y) rfl Tryz.func11 (ha▸AQv) ADT h
theorem YI(Bg Bh:Int)(Ar BG:AX){r:Int×Int×AX×AX}(h:QR Bg Bh Ar BG=some r):Y.call 11 [bw [bc .i64 Bg,bc .i64 Bh,bk 26 (AQ BX Ar),bk 26 (AQ BX BG)]] []=some (bw [bc .i64 r.1,bc .i64 r.2.1,br 26 (AQ Jp r.2.2.1),br 26 (AQ Jp r.2.2.2)],[]):=by
 refine c11 ?_ rfl;unfold k11;unfold QR at h;obtain⟨e1,h⟩:=Cu h;have c2:=Wq Ar e1;obtain⟨e3,h⟩:=Cu h;have c4:=Wq BG e3;cases h;simp (maxDischargeDepth:=9) only [↓AJ,AL,↓reduceIte,bj,bh,bx,c2,c4]
theorem eO(a b:Int)(n e:AX)(hn:BQ n)(he:BQ e):QR a b n e=some (a,b,n,e):=by
 unfold QR;rw [BC hn,BC he]
theorem Hf(Bg Bh:Int)(Ar BG:AX)(h0:BQ Ar)(h1:BQ BG):Y.call 11 [bw [bc .i64 Bg,bc .i64 Bh,bk 26 (AQ BX Ar),bk 26 (AQ BX BG)]] []=some (bw [bc .i64 Bg,bc .i64 Bh,br 26 (AQ Jp Ar),br 26 (AQ Jp BG)],[]):=YI Bg Bh Ar BG (eO Bg Bh Ar BG h0 h1)
def QS(Bg Bh:Int)(Ar BG:AX)(MU MV:Int)(MW MX:AX):Option (Bool):= if Bg=MU then if Bh=MV then ck (BQ Ar)<| if(decide (Ar=MW))=true then ck (BQ BG)<| if(decide (BG=MX))=true then some true else some false else some false else some false else some false
def k16:SC:= .seq (.ops [oX 2 (.box 34 (tK 0)) 0,oX 3 (.box 34 (tK 1)) 0,oX 4 Ba 4]) (.seq (.seq (.ops [oF 5 34 2 0,oL 6 3 5 3,oF 7 34 3 0,oL 8 3 7 3,oB 9 .neq 3 (tK 6) (tK 8) 3 4]) (.cond (tK 9) (.seq (.ops [oX 4 Ba 4]) .ret) .skip)) (.seq (.seq (.ops [oF 10 34 2 1,oL 11 3 10 3,oF 12 34 3 1,oL 13 3 12 3,oB 14 .neq 3 (tK 11) (tK 13) 3 4]) (.cond (tK 14) (.seq (.ops [oX 4 Ba 4]) .ret) .skip)) (.seq (.seq (.ops [oF 15 34 2 2,oL 16 22 15 22,oF 17 34 3 2,oL 18 22 17 22,oC 19 15 [(tK 16),(tK 18)] [22,22] 4,oX 20 (.unOp .not 4 (tK 19)) 4]) (.cond (tK 20) (.seq (.ops [oX 4 Ba 4]) .ret) .skip)) (.seq (.seq (.ops [oF 21 34 2 3,oL 22 22 21 22,oF 23 34 3 3,oL 24 22 23 22,oC 25 15 [(tK 22),(tK 24)] [22,22] 4,oX 26 (.unOp .not 4 (tK 25)) 4]) (.cond (tK 26) (.seq (.ops [oX 4 Ba 4]) .ret) .skip)) (.seq (.ops [oX 4 (.assign Cy) 4]) .ret)))))
theorem ADU:Tryz.f16.body.map (BP lends)=some k16:=by kernel_rfl
theorem AQx:BR Tryz.f16 2=true:=by kernel_rfl
theorem c16{a l:List D}{r:D×List D}(h:BS Y.env k16 (fin Aj l.length [bt 4] r) (entry a l))(ha:a.length=2):Y.call 16 a l=some r:=
 AY (Y:=Y) rfl Tryz.func16 (ha▸AQx) ADU h
theorem YJ(Bg Bh:Int)(Ar BG:AX)(MU MV:Int)(MW MX:AX){r:Bool}(h:QS Bg Bh Ar BG MU MV MW MX=some r):Y.call 16 [bw [bc .i64 Bg,bc .i64 Bh,bk 26 (AQ BX Ar),bk 26 (AQ BX BG)],bw [bc .i64 MU,bc .i64 MV,bk 26 (AQ BX MW),bk 26 (AQ BX MX)]] []=some (bp r,[]):=by
 refine c16 ?_ rfl;unfold k16;unfold QS at h;rcases iS h with⟨e1,h⟩|⟨e1,h⟩
 ·rcases iS h with⟨e2,h⟩|⟨e2,h⟩
  ·obtain⟨e3,h⟩:=Cu h;have c4:=Wu Ar MW e3;rcases iS h with⟨e5,h⟩|⟨e5,h⟩
   ·obtain⟨e6,h⟩:=Cu h;have c7:=Wu BG MX e6;rcases iS h with⟨e8,h⟩|⟨e8,h⟩
    ·cases h;simp (maxDischargeDepth:=9) only [↓AJ,AL,↓reduceIte,bj,bh,bx,decide_eq_true e1,decide_eq_true e2,c4,e5,c7,e8]
    ·have e8f:(decide (BG=MX))=false:=G8.mpr e8;cases h;simp (maxDischargeDepth:=9) only [↓AJ,AL,↓reduceIte,bj,bh,bx,decide_eq_true e1,decide_eq_true e2,c4,e5,c7,e8f]
   ·have e5f:(decide (Ar=MW))=false:=G8.mpr e5;cases h;simp (maxDischargeDepth:=9) only [↓AJ,AL,↓reduceIte,bj,bh,bx,decide_eq_true e1,decide_eq_true e2,c4,e5f]
  ·cases h;simp (maxDischargeDepth:=9) only [↓AJ,AL,↓reduceIte,bj,bh,bx,decide_eq_true e1,e2]
 ·cases h;simp (maxDischargeDepth:=9) only [↓AJ,AL,↓reduceIte,bj,bh,bx,e1]
def X0(a b:Int)(n e:AX)(a' b':Int)(n' e':AX):Bool:=decide (a=a'∧b=b'∧n=n'∧e=e')
theorem zN(a b:Int)(n e:AX):X0 a b n e a b n e=true:=by simp [X0]
theorem eP(a b:Int)(n e:AX)(a' b':Int)(n' e':AX)(hn:BQ n)(he:BQ e):QS a b n e a' b' n' e'=some (X0 a b n e a' b' n' e'):=by
 unfold QS X0;by_cases h1:a=a'<;>by_cases h2:b=b'<;>by_cases h3:n=n'<;>by_cases h4:e=e'<;>simp [h1,h2,h3,h4,ck]<;>(try subst h3)<;>(try subst h4)<;>simp_all
theorem UB(Bg Bh:Int)(Ar BG:AX)(MU MV:Int)(MW MX:AX)(h0:BQ Ar)(h1:BQ BG):Y.call 16 [bw [bc .i64 Bg,bc .i64 Bh,bk 26 (AQ BX Ar),bk 26 (AQ BX BG)],bw [bc .i64 MU,bc .i64 MV,bk 26 (AQ BX MW),bk 26 (AQ BX MX)]] []=some (bp (X0 Bg Bh Ar BG MU MV MW MX),[]):=YJ Bg Bh Ar BG MU MV MW MX (eP Bg Bh Ar BG MU MV MW MX h0 h1)
def QT(Bg Bh:Int)(Ar BG:AX)(left:Int):Option (Int):= ck (Vg Ar)<| ck (0≤left∧left≤1048576)<| if(FZ left (Ar.length+CL Ar))<0 then some (-1) else ck (Vg BG)<| ck (0≤(FZ left (Ar.length+CL Ar))∧(FZ left (Ar.length+CL Ar))≤1048576)<| if(FZ (FZ left (Ar.length+CL Ar)) (BG.length+CL BG))<0 then some (-1) else some (FZ (FZ left (Ar.length+CL Ar)) (BG.length+CL BG))
def k7:SC:= .seq (.ops [oX 2 (.box 24 (tK 0)) 0,oX 4 (.assign (iK 0)) 3]) (.seq (.ops [oF 5 24 2 2,oL 6 22 5 22,oM 7 1 3,oC 8 9 [(tK 6),(tK 7)] [22,3] 3,oA 1 8 3]) (.seq (.seq (.ops [oM 9 1 3,oB 10 .lss 3 (tK 9) (iK 0) 3 4]) (.cond (tK 10) (.seq (.ops [oX 4 RH 3]) .ret) .skip)) (.seq (.ops [oF 11 24 2 3,oL 12 22 11 22,oM 13 1 3,oC 14 9 [(tK 12),(tK 13)] [22,3] 3,oA 1 14 3]) (.seq (.seq (.ops [oM 15 1 3,oB 16 .lss 3 (tK 15) (iK 0) 3 4]) (.cond (tK 16) (.seq (.ops [oX 4 RH 3]) .ret) .skip)) (.seq (.ops [oM 17 1 3,oA 4 17 3]) .ret)))))
theorem ALb:Tryz.f7.body.map (BP lends)=some k7:=by kernel_rfl
theorem ok7:BR Tryz.f7 2=true:=by kernel_rfl
theorem c7{a l:List D}{r:D×List D}(h:BS Y.env k7 (fin Aj l.length [bt 4] r) (entry a l))(ha:a.length=2):Y.call 7 a l=some r:=
 AY (Y:=Y) rfl Tryz.func7 (ha▸ok7) ALb h
theorem YK(Bg Bh:Int)(Ar BG:AX)(left:Int){r:Int}(h:QT Bg Bh Ar BG left=some r):Y.call 7 [bw [bc .i64 Bg,bc .i64 Bh,bk 26 (AQ BX Ar),bk 26 (AQ BX BG)],bc .i64 left] []=some (bc .i64 r,[]):=by
 refine c7 ?_ rfl;unfold k7;unfold QT at h;obtain⟨e1,e2,h⟩:=Dr h;have c3:=Wx Ar left e1 e2;rcases iS h with⟨e4,h⟩|⟨e4,h⟩
 ·cases h;simp (maxDischargeDepth:=9) only [↓AJ,AL,↓reduceIte,bj,bh,bx,b4,c3,e4]
 ·obtain⟨e5,e6,h⟩:=Dr h;have c7:=Wx BG (FZ left (Ar.length+CL Ar)) e5 e6;rcases iS h with⟨e8,h⟩|⟨e8,h⟩
  ·cases h;simp (maxDischargeDepth:=9) only [↓AJ,AL,↓reduceIte,bj,bh,bx,b4,c3,e4,c7,e8]
  ·cases h;simp (maxDischargeDepth:=9) only [↓AJ,AL,↓reduceIte,bj,bh,bx,b4,c3,e4,c7,e8]
def szP(left:Int)(ns es:AX):Int:=if FZ left (ns.length+CL ns)<0 then-1 else FZ (FZ left (ns.length+CL ns)) (es.length+CL es)
theorem eQ(a b:Int)(n e:AX)(left:Int)(hn:Vg n)(he:Vg e)(hl:0≤left∧left≤1048576):QT a b n e left=some (szP left n e):=by
 have h1:=Cb n;unfold QT szP;rw [BC hn,BC hl];rcases JG left (n.length+CL n)with c|⟨c,c'⟩
 ·rw [c];rfl
 ·have hc: ¬left-(n.length+CL n)<0:=by omega
  have hd:0≤left-(n.length+CL n)∧left-(n.length+CL n)≤1048576:=by omega
  rw [c];simp only [if_neg hc,BC he,BC hd];split
  ·rename_i h
   rcases JG (left-(n.length+CL n)) (e.length+CL e)with d|⟨d,d'⟩
   ·rw [d]
   ·omega
  ·rfl
theorem eT(Bg Bh:Int)(Ar BG:AX)(left:Int)(h0:Vg Ar)(h1:Vg BG)(h2:0≤left∧left≤1048576):Y.call 7 [bw [bc .i64 Bg,bc .i64 Bh,bk 26 (AQ BX Ar),bk 26 (AQ BX BG)],bc .i64 left] []=some (bc .i64 (szP left Ar BG),[]):=YK Bg Bh Ar BG left (eQ Bg Bh Ar BG left h0 h1 h2)
theorem A7U{ns es:AX}{left:Int}(hl:left≤1048576)(h: ¬szP left ns es<0):ns.length+CL ns+es.length+CL es≤1048576∧BQ ns∧BQ es∧szP left ns es≤left:=by
 have t1:=Cb ns;have t2:=Cb es
 have key:(ns.length:Int)+CL ns+es.length+CL es≤1048576∧szP left ns es≤left:=by
  unfold szP at h ⊢;rcases JG left (ns.length+CL ns)with c|⟨c,c'⟩
  ·rw [c]at h;simp at h
  ·rw [c,if_neg (by omega)]at h
   rw [c,if_neg (by omega)]
   rcases JG (left-(ns.length+CL ns)) (es.length+CL es)with d|⟨d,d'⟩
   ·rw [d]at h;simp at h
   ·omega
 exact⟨key.1,mQ (by omega),mQ (by omega),key.2⟩
def NU(Bg Bh:Int)(Ar BG:AX)(k:Int):Option (Int×AX×AX):= ck (BQ Ar)<| ck (0≤k∧k+CL Ar<1099511627776)<| ck (BQ BG)<| ck (0≤(k+CL Ar)∧(k+CL Ar)+CL BG<1099511627776)<| some (((k+CL Ar)+CL BG),(U9 k Ar),(U9 (k+CL Ar) BG))
def k18:SC:= .seq (.ops [oX 2 (.box 34 (tK 0)) 0,oX 4 (.assign (iK 0)) 3]) (.seq (.ops [oF 5 34 2 2,oL 6 22 5 22,oM 7 1 3,oC 8 20 [(tK 6),(tK 7)] [22,3] 3,oA 1 8 3]) (.seq (.ops [oF 9 34 2 3,oL 10 22 9 22,oM 11 1 3,oC 12 20 [(tK 10),(tK 11)] [22,3] 3,oA 1 12 3]) (.seq (.ops [oM 13 1 3,oA 4 13 3]) .ret)))
theorem ADV:Tryz.f18.body.map (BP lends)=some k18:=by kernel_rfl
theorem AQz:BR Tryz.f18 2=true:=by kernel_rfl
theorem Zu{a l:List D}{r:D×List D}(h:BS Y.env k18 (fin Aj l.length [bt 4] r) (entry a l))(ha:a.length=2):Y.call 18 a l=some r:=
 AY (Y:=Y) rfl Tryz.func18 (ha▸AQz) ADV h
theorem Vh(Bg Bh:Int)(Ar BG:AX)(k:Int){r:Int×AX×AX}(h:NU Bg Bh Ar BG k=some r):Y.call 18 [bw [bc .i64 Bg,bc .i64 Bh,D.vw [100000] 0 0,D.vw [100001] 0 0],bc .i64 k] [br 26 (AQ Jp Ar),br 26 (AQ Jp BG)]=some (bc .i64 r.1,[br 26 (AQ Jp r.2.1),br 26 (AQ Jp r.2.2)]):=by
 refine Zu ?_ rfl;unfold k18;unfold NU at h;obtain⟨e1,e2,h⟩:=Dr h;have c3:=UA Ar k e1 e2;obtain⟨e4,e5,h⟩:=Dr h;have c6:=UA BG (k+CL Ar) e4 e5;cases h;simp (maxDischargeDepth:=9) only [↓AJ,AL,↓reduceIte,bj,bh,bx,Nat.reduceSub,c3,c6]
theorem YL(a b:Int)(n e:AX)(k:Int)(hn:BQ n)(he:BQ e)(hk:0≤k∧k+CL n+CL e<1099511627776):NU a b n e k=some (k+CL n+CL e,U9 k n,U9 (k+CL n) e):=by
 have h1:=Cb n;have h2:=Cb e;unfold NU;rw [BC hn,BC (by omega),BC he,BC (by omega)]
theorem RJ(Bg Bh:Int)(Ar BG:AX)(k:Int)(h0:BQ Ar)(h1:BQ BG)(h2:0≤k∧k+CL Ar+CL BG<1099511627776):Y.call 18 [bw [bc .i64 Bg,bc .i64 Bh,D.vw [100000] 0 0,D.vw [100001] 0 0],bc .i64 k] [br 26 (AQ Jp Ar),br 26 (AQ Jp BG)]=some (bc .i64 (k+CL Ar+CL BG),[br 26 (AQ Jp (U9 k Ar)),br 26 (AQ Jp (U9 (k+CL Ar) BG))]):=Vh Bg Bh Ar BG k (YL Bg Bh Ar BG k h0 h1 h2)
theorem A0a{l:AX}(h:A0S l):Vg l:=⟨xZ h.1 (by decide),fun x hx=>xZ (h.2 x hx).1 (by decide)⟩
def Jz(n lo hi:Int):Bool:=decide (lo≤n∧n≤hi)
theorem EA{n lo hi:Int}:Jz n lo hi=true↔lo≤n∧n≤hi:=by simp [Jz]
def X3(n_ low high:Int):Option (Bool):= if low≤n_ then some (decide (n_≤high)) else some false
def k64:SC:= .seq (.ops [oX 6 Ba 4]) (.seq (.ops [oM 7 1 3,oM 8 0 3,oB 9 .leq 3 (tK 7) (tK 8) 3 4,oM 10 9 4,⟨some 11,.move (tK 0),3,(some (some 10,true))⟩,⟨some 12,.move (tK 2),3,(some (some 10,true))⟩,⟨some 13,.binOp .leq 3 (tK 11) (tK 12) 3,4,(some (some 10,true))⟩,oX 14 (.pick (tK 10) (tK 13) LK) 4,oA 6 14 4]) .ret)
theorem ADW:Tryz.f64.body.map (BP lends)=some k64:=by kernel_rfl
theorem AR1:BR Tryz.f64 3=true:=by kernel_rfl
theorem c64{a l:List D}{r:D×List D}(h:BS Y.env k64 (fin Aj l.length [bt 6] r) (entry a l))(ha:a.length=3):Y.call 64 a l=some r:=
 AY (Y:=Y) rfl Tryz.func64 (ha▸AR1) ADW h
theorem jy(n_ low high:Int){r:Bool}(h:X3 n_ low high=some r):Y.call 64 [bc .i64 n_,bc .i64 low,bc .i64 high] []=some (bp r,[]):=by
 refine c64 ?_ rfl;unfold k64;unfold X3 at h;rcases iS h with⟨e1,h⟩|⟨e1,h⟩
 ·cases h;simp only [↓AJ,AL,↓reduceIte,bj,bh,e1]
 ·cases h;simp only [↓AJ,AL,↓reduceIte,bj,bh,e1]
def pM(n_ lo hi:Int):Option (Bool):= if lo≤n_ then some (decide (n_≤hi)) else some false
def k82:SC:= .seq (.ops [oX 6 Ba 4]) (.seq (.ops [oM 7 0 3,oM 8 1 3,oB 9 .geq 3 (tK 7) (tK 8) 3 4,oM 10 9 4,⟨some 11,.move (tK 0),3,(some (some 10,true))⟩,⟨some 12,.move (tK 2),3,(some (some 10,true))⟩,⟨some 13,.binOp .leq 3 (tK 11) (tK 12) 3,4,(some (some 10,true))⟩,oX 14 (.pick (tK 10) (tK 13) LK) 4,oA 6 14 4]) .ret)
theorem ADX:Tryz.f82.body.map (BP lends)=some k82:=by kernel_rfl
theorem AR3:BR Tryz.f82 3=true:=by kernel_rfl
theorem c82{a l:List D}{r:D×List D}(h:BS Y.env k82 (fin Aj l.length [bt 6] r) (entry a l))(ha:a.length=3):Y.call 82 a l=some r:=
 AY (Y:=Y) rfl Tryz.func82 (ha▸AR3) ADX h
theorem wP(n_ lo hi:Int){r:Bool}(h:pM n_ lo hi=some r):Y.call 82 [bc .i64 n_,bc .i64 lo,bc .i64 hi] []=some (bp r,[]):=by
 refine c82 ?_ rfl;unfold k82;unfold pM at h;rcases iS h with⟨e1,h⟩|⟨e1,h⟩
 ·cases h;simp only [↓AJ,AL,↓reduceIte,bj,bh,e1]
 ·cases h;simp only [↓AJ,AL,↓reduceIte,bj,bh,e1]
theorem wQ(n lo hi:Int):X3 n lo hi=some (Jz n lo hi):=by unfold X3 Jz;by_cases h1:lo≤n<;>by_cases h2:n≤hi<;>simp [h1,h2]
theorem A2L(n lo hi:Int):pM n lo hi=some (Jz n lo hi):=by unfold pM Jz;by_cases h1:lo≤n<;>by_cases h2:n≤hi<;>simp [h1,h2]
theorem KA(n_ low high:Int):Y.call 64 [bc .i64 n_,bc .i64 low,bc .i64 high] []=some (bp (Jz n_ low high),[]):=jy n_ low high (wQ n_ low high)
theorem JH(n_ lo hi:Int):Y.call 82 [bc .i64 n_,bc .i64 lo,bc .i64 hi] []=some (bp (Jz n_ lo hi),[]):=wP n_ lo hi (A2L n_ lo hi)
def KX(l:AO)(lo hi Ah:Int):Option ((Int)⊕(Unit⊕Unit)):= if Ah<(l.length:Int)then ck (0≤Ah∧Ah.toNat<l.length)<| if(Jz (l.getD Ah.toNat be) lo hi)=true then some (bo (bm.wrap (Ah+1))) else some (bl (bo ())) else some (bl (bl ()))
def SV(l:AO)(lo hi v:Int):Option (Unit⊕Unit):=Dq (fun v=>KX l lo hi v) v
def au(l:AO)(lo hi:Int):Option (Bool):=
 (SV l lo hi 0).bind fun AU=>
 match AU with
 | .inl q1000_=>
  some false
 | .inr q1000_=>
  some true
def pO:SC:= .seq (.ops [oB 12 .lss 3 (tK 11) (tK 10) 3 0]) (.seq (.cond (tK 12) .skip (.exit 0)) (.seq (.block 1 (.seq (.ops [oI 13 26 9 11,oL 14 3 13 3,oA 8 14 3]) (.seq (.ops [oM 15 8 3,oM 16 1 3,oM 17 2 3,oC 18 82 [(tK 15),(tK 16),(tK 17)] [3,3,3] 4,oX 19 (.unOp .not 4 (tK 18)) 4]) (.cond (tK 19) (.seq (.ops [oX 6 Ba 4]) .ret) .skip)))) (.ops [oB 20 .add 3 (tK 11) (iK 1) 3 3,oM 11 20 3])))
def A4j:SC:= .loop pO
def k59:SC:= .seq (.ops [oX 6 Ba 4]) (.seq (.seq (.ops [oM 9 0 26,oN 10 9 26,oX 11 (.move (iK 0)) 3]) (.block 0 A4j)) (.seq (.ops [oX 6 (.assign Cy) 4]) .ret))
theorem ADY:Tryz.f59.body.map (BP lends)=some k59:=by kernel_rfl
theorem AR5:BR Tryz.f59 3=true:=by kernel_rfl
theorem c59{a l:List D}{r:D×List D}(h:BS Y.env k59 (fin Aj l.length [bt 6] r) (entry a l))(ha:a.length=3):Y.call 59 a l=some r:=
 AY (Y:=Y) rfl Tryz.func59 (ha▸AR5) ADY h
def IX(l:AO)(lo hi Ah:Int)(s:St):Prop:=s.v 1=bc .i64 lo∧s.v 2=bc .i64 hi∧s.v 9=bk 3 (AQ (bc .i64) l)∧s.v 10=bc .i64 (l.length:Int)∧s.v 11=bc .i64 Ah
def KY(l:AO)(lo hi:Int)(r:Unit⊕Unit)(ex:Ex)(s:St):Prop:=match r with
 | .inl q=>ex= .ret∧s.v 6=bp false
 | .inr q=>ex= .exit 0
theorem kC(l:AO)(lo hi:Int){v:Int}{s:St}{r:Unit⊕Unit}(h:SV l lo hi v=some r)(hM:IX l lo hi v s):BS Y.env A4j (KY l lo hi r) s:=by
 unfold SV at h;refine Aw (c:=pO) (fun v=>KX l lo hi v) (fun v s=>IX l lo hi v s) (KY l lo hi) ?_ h hM;clear h hM s v r;intro Ah s o hM h;unfold KX at h;unfold IX at hM;obtain⟨m0,m1,m2,m3,m4⟩:=hM;unfold pO;rcases iS h with⟨e1,h⟩|⟨e1,h⟩
 ·obtain⟨e2,h⟩:=Cu h;have c3:=JH (l.getD Ah.toNat be) lo hi;rcases iS h with⟨e4,h⟩|⟨e4,h⟩
  ·cases h;simp only [↓AJ,AL,↓reduceIte,bj,bh,m0,m1,m2,m3,m4,e1,e2.1,e2.2,c3,e4,IX,Cx]
  ·have e4f:(Jz (l.getD Ah.toNat be) lo hi)=false:=G8.mpr e4;cases h;simp only [↓AJ,AL,↓reduceIte,bj,bh,m0,m1,m2,m3,m4,e1,e2.1,e2.2,c3,e4f,IX,KY,QC]
 ·cases h;simp only [↓AJ,AL,↓reduceIte,bh,m3,m4,e1,IX,KY,Gf]
theorem pQ(l:AO)(lo hi:Int){r:Bool}(h:au l lo hi=some r):Y.call 59 [bk 3 (AQ (bc .i64) l),bc .i64 lo,bc .i64 hi] []=some (bp r,[]):=by
 refine c59 ?_ rfl;unfold k59;unfold au at h;obtain⟨AU,hl2,h⟩:=Ag h;try dsimp only at h
 simp only [↓AJ,AL,↓reduceIte,bj,bh];refine Al (kC l lo hi hl2 ?_) ?_
 ·simp only [BK,Cg,↓reduceIte,bj,bh,IX]
 ·intro ex2 s2 hX2;rcases AU with q1000_|q1000_
  ·unfold KY at hX2;dsimp only at hX2 h;obtain⟨rfl,n2_0⟩:=hX2;cases h;simp only [↓AJ,AL,↓reduceIte,n2_0]
  ·unfold KY at hX2;dsimp only at hX2 h
   obtain rfl:=hX2
   cases h;simp only [↓AJ,AL,↓reduceIte,bj,bh]
def FO(l:AO)(lo hi:Int):Bool:=l.all fun x=>Jz x lo hi
theorem zO(l:AO)(lo hi:Int)(h:l.length<1099511627776):au l lo hi=some (FO l lo hi):=by
 unfold au SV;have key:=E9 (fun v=>KX l lo hi v) (fun i=>(i:Int)) l.length (fun i=>Jz (l.getD i be) lo hi) (.inl ()) (.inr ()) ?_ ?_
 ·simp only [EW]at key;rw [key,Wo (fun x=>Jz x lo hi)];unfold FO
  cases l.all (fun x=>Jz x lo hi)<;>rfl
 ·intro i hi;simp only [KX];rw [if_pos (BU hi),BC (DY hi),Cq,Gc i (by omega)]
 ·simp only [KX];rw [if_neg (Am _)]
theorem eU(l:AO)(lo hi:Int)(h0:l.length<1099511627776):Y.call 59 [bk 3 (AQ (bc .i64) l),bc .i64 lo,bc .i64 hi] []=some (bp (FO l lo hi),[]):=pQ l lo hi (zO l lo hi h0)
def MZ(s_:AO)(f:Int→Option Bool)(GI:Int):Option ((Int)⊕(Int⊕Unit)):= if GI<(s_.length:Int)then ck (0≤GI∧GI.toNat<s_.length)<| (f (s_.getD GI.toNat be)).bind fun YM=> if YM=true then some (bl (bo GI)) else some (bo (bm.wrap (GI+1))) else some (bl (bl ()))
def pR(s_:AO)(f:Int→Option Bool)(v:Int):Option (Int⊕Unit):=Dq (fun v=>MZ s_ f v) v
def gIF(s_:AO)(f:Int→Option Bool):Option (Int):=
 (pR s_ f 0).bind fun AU=>
 match AU with
 | .inl q1000_=>
  some q1000_
 | .inr q1000_=>
  some (-1)
def eX:SC:= .seq (.ops [oB 9 .lss 3 (tK 8) (tK 7) 3 0]) (.seq (.cond (tK 9) .skip (.exit 0)) (.seq (.block 1 (.seq (.ops [oM 10 8 3,oA 5 10 3]) (.seq (.ops [oM 11 1 105,oM 12 0 26,oM 13 5 3,oI 14 26 12 13,oL 15 3 14 3,oX 16 (.call ⟨(.value (tK 11)), #[(tK 15)], #[3]⟩) 4]) (.cond (tK 16) (.seq (.ops [oM 17 5 3,oA 4 17 3]) .ret) .skip)))) (.ops [oB 18 .add 3 (tK 8) (iK 1) 3 3,oM 8 18 3])))
def A0b:SC:= .loop eX
def ADZ:SC:= .seq (.ops [oX 4 (.assign (iK 0)) 3]) (.seq (.seq (.ops [oM 6 0 26,oN 7 6 26,oX 8 (.move (iK 0)) 3]) (.block 0 A0b)) (.seq (.ops [oX 4 RH 3]) .ret))
theorem A7V:Tryz.f129.body.map (BP lends)=some ADZ:=by kernel_rfl
theorem ALd:BR Tryz.f129 2=true:=by kernel_rfl
theorem AR6{a l:List D}{r:D×List D}(h:BS Y.env ADZ (fin Aj l.length [bt 4] r) (entry a l))(ha:a.length=2):Y.call 129 a l=some r:=
 AY (Y:=Y) rfl Tryz.func129 (ha▸ALd) A7V h
def Pg(s_:AO)(f:Int→Option Bool)(f_f:an)(f_c:List D)(GI:Int)(s:St):Prop:=s.v 0=bk 3 (AQ (bc .i64) s_)∧s.v 1=D.clo f_f f_c∧s.v 7=bc .i64 (s_.length:Int)∧s.v 8=bc .i64 GI
def RL(s_:AO)(f:Int→Option Bool)(f_f:an)(f_c:List D)(r:Int⊕Unit)(ex:Ex)(s:St):Prop:=match r with
 | .inl q=>ex= .ret∧s.v 4=bc .i64 q
 | .inr q=>ex= .exit 0
theorem A2M(s_:AO)(f:Int→Option Bool)(f_f:an)(f_c:List D)(f_h: ∀(a0:Int) (r:Bool),f a0=some r→Y.call f_f (bc .i64 a0::f_c) []=some (bp r,[]))(f_l:lends f_f=false){v:Int}{s:St}{r:Int⊕Unit}(h:pR s_ f v=some r)(hM:Pg s_ f f_f f_c v s):BS Y.env A0b (RL s_ f f_f f_c r) s:=by
 unfold pR at h;refine Aw (c:=eX) (fun v=>MZ s_ f v) (fun v s=>Pg s_ f f_f f_c v s) (RL s_ f f_f f_c) ?_ h hM;clear h hM s v r;intro GI s o hM h;unfold MZ at h;unfold Pg at hM;obtain⟨m0,m1,m2,m3⟩:=hM;unfold eX;rcases iS h with⟨e1,h⟩|⟨e1,h⟩
 ·obtain⟨e2,h⟩:=Cu h;obtain⟨YM,hl3,h⟩:=Ag h;have c3:=f_h _ _ hl3;rcases iS h with⟨e4,h⟩|⟨e4,h⟩
  ·cases h;simp only [↓AJ,AL,↓reduceIte,bj,bh,m0,m1,m2,m3,f_l,e1,e2.1,e2.2,c3,e4,Pg,RL,QC]
  ·have e4f:YM=false:=G8.mpr e4;cases h;simp only [↓AJ,AL,↓reduceIte,bj,bh,m0,m1,m2,m3,f_l,e1,e2.1,e2.2,c3,e4f,Pg,Cx]
 ·cases h;simp only [↓AJ,AL,↓reduceIte,bh,m2,m3,e1,Pg,RL,Gf]
theorem A4k(s_:AO)(f:Int→Option Bool)(f_f:an)(f_c:List D)(f_h: ∀(a0:Int) (r:Bool),f a0=some r→Y.call f_f (bc .i64 a0::f_c) []=some (bp r,[]))(f_l:lends f_f=false){r:Int}(h:gIF s_ f=some r):Y.call 129 [bk 3 (AQ (bc .i64) s_),D.clo f_f f_c] []=some (bc .i64 r,[]):=by
 refine AR6 ?_ rfl;unfold ADZ;unfold gIF at h;obtain⟨AU,hl2,h⟩:=Ag h;try dsimp only at h
 simp only [↓AJ,AL,↓reduceIte,bj,bh,b4];refine Al (A2M s_ f f_f f_c f_h f_l hl2 ?_) ?_
 ·simp only [BK,Cg,↓reduceIte,bj,bh,Pg]
 ·intro ex2 s2 hX2;rcases AU with q1000_|q1000_
  ·unfold RL at hX2;dsimp only at hX2 h;obtain⟨rfl,n2_0⟩:=hX2;cases h;simp only [↓AJ,AL,↓reduceIte,n2_0]
  ·unfold RL at hX2;dsimp only at hX2 h
   obtain rfl:=hX2
   cases h;simp only [↓AJ,AL,↓reduceIte,bj,bh,b4]
def CE(s_:AO)(f:Int→Option Bool):Option (Bool):= (gIF s_ f).bind fun r7_=> some (decide (0≤r7_))
def ADa:SC:= .seq (.ops [oX 4 Ba 4]) (.seq (.ops [oM 5 0 26,oM 6 1 105,oC 7 129 [(tK 5),(tK 6)] [26,105] 3,oB 8 .geq 3 (tK 7) (iK 0) 3 4,oA 4 8 4]) .ret)
theorem A7W:Tryz.f103.body.map (BP lends)=some ADa:=by kernel_rfl
theorem ALe:BR Tryz.f103 2=true:=by kernel_rfl
theorem AR7{a l:List D}{r:D×List D}(h:BS Y.env ADa (fin Aj l.length [bt 4] r) (entry a l))(ha:a.length=2):Y.call 103 a l=some r:=
 AY (Y:=Y) rfl Tryz.func103 (ha▸ALe) A7W h
theorem LY(s_:AO)(f:Int→Option Bool)(f_f:an)(f_c:List D)(f_h: ∀(a0:Int) (r:Bool),f a0=some r→Y.call f_f (bc .i64 a0::f_c) []=some (bp r,[]))(f_l:lends f_f=false){r:Bool}(h:CE s_ f=some r):Y.call 103 [bk 3 (AQ (bc .i64) s_),D.clo f_f f_c] []=some (bp r,[]):=by
 refine AR7 ?_ rfl;unfold ADa;unfold CE at h;obtain⟨r7_,hl1,h⟩:=Ag h;try dsimp only at h
 have c1:=A4k s_ f f_f f_c f_h f_l hl1;cases h;simp only [↓AJ,AL,↓reduceIte,bj,bh,c1]
def LZ(n_ c0_ c1_:Int):Option (Bool):= some (!(Jz n_ c0_ c1_))
def ADb:SC:= .seq (.ops [oX 4 Ba 4]) (.seq (.ops [oM 5 0 3,oL 6 3 1 3,oL 7 3 2 3,oC 8 64 [(tK 5),(tK 6),(tK 7)] [3,3,3] 4,oX 9 (.unOp .not 4 (tK 8)) 4,oA 4 9 4]) .ret)
theorem A7X:Tryz.f104.body.map (BP lends)=some ADb:=by kernel_rfl
theorem ALf:BR Tryz.f104 3=true:=by kernel_rfl
theorem AR8{a l:List D}{r:D×List D}(h:BS Y.env ADb (fin Aj l.length [bt 4] r) (entry a l))(ha:a.length=3):Y.call 104 a l=some r:=
 AY (Y:=Y) rfl Tryz.func104 (ha▸ALf) A7X h
theorem Vi(n_ c0_ c1_:Int){r:Bool}(h:LZ n_ c0_ c1_=some r):Y.call 104 [bc .i64 n_,D.cptr [bc .i64 c0_],D.cptr [bc .i64 c1_]] []=some (bp r,[]):=by
 refine AR8 ?_ rfl;unfold ADb;unfold LZ at h;have c1:=KA n_ c0_ c1_;cases h;simp only [↓AJ,AL,↓reduceIte,bj,bh,c1]
def QU(list:AO)(low high:Int):Option (Bool):= (CE list (fun a0=>LZ a0 low high)).bind fun r9_=> some (!r9_)
def k71:SC:= .seq (.ops [oX 4 (.box 3 (tK 1)) 0,oX 5 (.box 3 (tK 2)) 0,oX 6 Ba 4]) (.seq (.ops [oM 7 0 26,oX 8 (.makeFunc (Fn.func 104) #[] #[(tK 4),(tK 5)]) 105,oC 9 103 [(tK 7),(tK 8)] [26,105] 4,oX 10 (.unOp .not 4 (tK 9)) 4,oA 6 10 4]) .ret)
theorem ADc:Tryz.f71.body.map (BP lends)=some k71:=by kernel_rfl
theorem ARA:BR Tryz.f71 3=true:=by kernel_rfl
theorem c71{a l:List D}{r:D×List D}(h:BS Y.env k71 (fin Aj l.length [bt 6] r) (entry a l))(ha:a.length=3):Y.call 71 a l=some r:=
 AY (Y:=Y) rfl Tryz.func71 (ha▸ARA) ADc h
theorem YN(list:AO)(low high:Int){r:Bool}(h:QU list low high=some r):Y.call 71 [bk 3 (AQ (bc .i64) list),bc .i64 low,bc .i64 high] []=some (bp r,[]):=by
 refine c71 ?_ rfl;unfold k71;unfold QU at h;obtain⟨r9_,hl1,h⟩:=Ag h;try dsimp only at h
 have c1:=LY list (fun a0=>LZ a0 low high) 104 [D.cptr [bc .i64 low],D.cptr [bc .i64 high]] (fun a0 _ hh=>Vi a0 low high hh) A4T hl1;cases h;simp only [↓AJ,AL,↓reduceIte,bj,bh,c1]
theorem pU(l:AO)(f:Int→Option Bool)(p:Int→Bool)(h:l.length<1099511627776)(hf: ∀x∈l,f x=some (p x)):
  ∃r,gIF l f=some r∧(0≤r↔l.any p=true):=by
 unfold gIF pR;by_cases ha: ∀i,i<l.length→(!p (l.getD i be))=true
 ·have key:=Bn (fun v=>MZ l f v) (fun i=>(i:Int)) l.length (.inr ()) ?_ ?_
  ·simp only [EW]at key;rw [key]
   refine⟨-1,rfl,by simp,fun hc=> ?_⟩
   obtain⟨x,hx,hpx⟩:=Zb.1 hc;obtain⟨i,hi,rfl⟩:=V4 hx;have:=ha i hi
   rw [Ac _ _ hi,hpx]at this;cases this
  ·intro i hi;simp only [MZ];have e:=ha i hi;rw [Ac _ _ hi]at e;rw [if_pos (BU hi),BC (DY hi),GH _ _ hi,hf _ (NA hi),CB,if_neg (by cases hp:p l[i]<;>simp_all),Gc i (by omega)]
  ·simp only [MZ];rw [if_neg (Am _)]
 ·obtain⟨m,h1,h2,h3⟩:=SN (P:=fun i=> !p (l.getD i be)) ha;have key:=Bn (fun v=>MZ l f v) (fun i=>(i:Int)) m (.inl (m:Int)) ?_ ?_
  ·simp only [EW]at key;rw [key]
   refine⟨(m:Int),rfl,fun _=> ?_,fun _=>by omega⟩
   have h2':p l[m]=true:=by rw [Ac _ _ h1]at h2;simpa using h2
   exact Zb.2 ⟨_,NA h1,h2'⟩
  ·intro i hi;simp only [MZ];have e:=h3 i hi;rw [Ac _ _ (by omega)]at e
   rw [if_pos (BU (by omega)),BC (DY (by omega)),GH _ _ (by omega),hf _ (NA _),CB,if_neg (by cases hp:p l[i]<;>simp_all),Gc i (by omega)]
  ·simp only [MZ];have h2':p l[m]=true:=by rw [Ac _ _ h1]at h2;simpa using h2
   rw [if_pos (BU h1),BC (DY h1),GH _ _ h1,hf _ (NA _),CB,if_pos h2']
theorem Zv(l:AO)(f:Int→Option Bool)(p:Int→Bool)(h:l.length<1099511627776)(hf: ∀x∈l,f x=some (p x)):CE l f=some (l.any p):=by
 obtain⟨r,h1,h2⟩:=pU l f p h hf;unfold CE;rw [h1,CB]
 congr 1
 rw [V7];simpa using h2
theorem eY(l:AO)(lo hi:Int)(h:l.length<1099511627776):QU l lo hi=some (FO l lo hi):=by
 unfold QU;rw [Zv l (fun a0=>LZ a0 lo hi) (fun x=> !Jz x lo hi) h (fun x _=>rfl),CB];unfold FO;rw [List.all_eq_not_any_not]
theorem UC(list:AO)(low high:Int)(h0:list.length<1099511627776):Y.call 71 [bk 3 (AQ (bc .i64) list),bc .i64 low,bc .i64 high] []=some (bp (FO list low high),[]):=YN list low high (eY list low high h0)
def Dl(x_:Int):Option (Bool):= some false
def ADd:SC:= .seq (.ops [oX 2 Ba 4]) (.seq (.ops [oM 3 0 3,oM 4 0 3,oB 5 .neq 3 (tK 3) (tK 4) 3 4,oA 2 5 4]) .ret)
theorem A7Y:Tryz.f141.body.map (BP lends)=some ADd:=by kernel_rfl
theorem ALg:BR Tryz.f141 1=true:=by kernel_rfl
theorem ARB{a l:List D}{r:D×List D}(h:BS Y.env ADd (fin Aj l.length [bt 2] r) (entry a l))(ha:a.length=1):Y.call 141 a l=some r:=
 AY (Y:=Y) rfl Tryz.func141 (ha▸ALg) A7Y h
theorem GJ(x_:Int){r:Bool}(h:Dl x_=some r):Y.call 141 [bc .i64 x_] []=some (bp r,[]):=by
 refine ARB ?_ rfl;unfold ADd;unfold Dl at h;cases h;simp only [↓AJ,AL,↓reduceIte,bj,bh]
def KC(x_ y:Int):Option (Bool):= (Dl x_).bind fun r6_=> if r6_=true then (Dl y).bind fun r9_=> if r9_=true then some (decide (x_<y)) else some true else some (decide (x_<y))
def ADe:SC:= .seq (.ops [oX 4 Ba 4]) (.seq (.ops [oM 5 0 3,oC 6 141 [(tK 5)] [3] 4,oM 7 6 4,⟨some 8,.move (tK 1),3,(some (some 7,true))⟩,⟨some 9,.call ⟨(.value (.func 141)), #[(tK 8)], #[3]⟩,4,(some (some 7,true))⟩,⟨some 10,.unOp .not 4 (tK 9),4,(some (some 7,true))⟩,oX 11 (.pick (tK 7) (tK 10) LK) 4,oM 12 11 4,⟨some 13,.move (tK 0),3,(some (some 12,false))⟩,⟨some 14,.move (tK 1),3,(some (some 12,false))⟩,⟨some 15,.binOp .lss 3 (tK 13) (tK 14) 3,4,(some (some 12,false))⟩,oX 16 (.pick (tK 12) Cy (tK 15)) 4,oA 4 16 4]) .ret)
theorem A7Z:Tryz.f125.body.map (BP lends)=some ADe:=by kernel_rfl
theorem ALh:BR Tryz.f125 2=true:=by kernel_rfl
theorem ARD{a l:List D}{r:D×List D}(h:BS Y.env ADe (fin Aj l.length [bt 4] r) (entry a l))(ha:a.length=2):Y.call 125 a l=some r:=
 AY (Y:=Y) rfl Tryz.func125 (ha▸ALh) A7Z h
theorem V8(x_ y:Int){r:Bool}(h:KC x_ y=some r):Y.call 125 [bc .i64 x_,bc .i64 y] []=some (bp r,[]):=by
 refine ARD ?_ rfl;unfold ADe;unfold KC at h;obtain⟨r6_,hl1,h⟩:=Ag h;have c1:=GJ x_ hl1;rcases iS h with⟨e2,h⟩|⟨e2,h⟩
 ·obtain⟨r9_,hl3,h⟩:=Ag h;have c3:=GJ y hl3;rcases iS h with⟨e4,h⟩|⟨e4,h⟩
  ·cases h;simp only [↓AJ,AL,↓reduceIte,bj,bh,c1,e2,c3,e4]
  ·have e4f:r9_=false:=G8.mpr e4;cases h;simp only [↓AJ,AL,↓reduceIte,bj,bh,c1,e2,c3,e4f]
 ·have e2f:r6_=false:=G8.mpr e2;cases h;simp only [↓AJ,AL,↓reduceIte,bj,bh,c1,e2f]
def Ph(x_:AO)(i:Int):Option ((Int)⊕(Unit⊕Unit)):= if 0<i then ck (0≤i∧i.toNat<x_.length)<| ck (0≤bm.wrap (i-1)∧(bm.wrap (i-1)).toNat<x_.length)<| (KC (x_.getD i.toNat be) (x_.getD ((bm.wrap (i-1)).toNat) be)).bind fun zP=> if zP=true then some (bl (bo ())) else some (bo (bm.wrap (i-1))) else some (bl (bl ()))
def pV(x_:AO)(v:Int):Option (Unit⊕Unit):=Dq (fun v=>Ph x_ v) v
def gIS(x_:AO):Option (Bool):=
 (pV x_ (bm.wrap ((x_.length:Int)-1))).bind fun AU=>
 match AU with
 | .inl q1000_=>
  some false
 | .inr q1000_=>
  some true
abbrev qd8:List Nat:=[11,12,13,14,15,16,17,18,19,20]
def pW:SC:= .seq (.seq (.ops [oM 7 3 3,oB 8 .gtr 3 (tK 7) (iK 0) 3 4]) (.cond (tK 8) .skip (.exit 0))) (.seq (.block 1 (.seq (.draws [(⟨[11,0,0],qd8,[11]⟩,oM 11 0 26),(⟨[12,3,3],qd8,[12]⟩,oM 12 3 3),(⟨[13,11,12,0,3],qd8,[13]⟩,oI 13 26 11 12),(⟨[14,13,0],qd8,[14]⟩,oL 14 3 13 3),(⟨[15,0,0],qd8,[15]⟩,oM 15 0 26),(⟨[16,3,3],qd8,[16]⟩,oM 16 3 3),(⟨[17,16,3],qd8,[17]⟩,oB 17 .sub 3 (tK 16) (iK 1) 3 3),(⟨[18,15,17,0,17],qd8,[18]⟩,oI 18 26 15 17),(⟨[19,18,0],qd8,[19]⟩,oL 19 3 18 3),(⟨[20,14,19,0,0],qd8,[20]⟩,oC 20 125 [(tK 14),(tK 19)] [3,3] 4)]) (.cond (tK 20) (.seq (.ops [oX 2 Ba 4]) .ret) .skip))) (.ops [oM 9 3 3,oB 10 .sub 3 (tK 9) (iK 1) 3 3,oA 3 10 3]))
def A4m:SC:= .loop pW
def k97:SC:= .seq (.ops [oX 2 Ba 4]) (.seq (.seq (.ops [oM 4 0 26,oN 5 4 26,oB 6 .sub 3 (tK 5) (iK 1) 3 3,oA 3 6 3]) (.block 0 A4m)) (.seq (.ops [oX 2 (.assign Cy) 4]) .ret))
theorem ADf:Tryz.f97.body.map (BP lends)=some k97:=by kernel_rfl
theorem ARG:BR Tryz.f97 1=true:=by kernel_rfl
theorem c97{a l:List D}{r:D×List D}(h:BS Y.env k97 (fin Aj l.length [bt 2] r) (entry a l))(ha:a.length=1):Y.call 97 a l=some r:=
 AY (Y:=Y) rfl Tryz.func97 (ha▸ARG) ADf h
def Pi(x_:AO)(i:Int)(s:St):Prop:=s.v 0=bk 3 (AQ (bc .i64) x_)∧s.v 3=bc .i64 i
def RN(x_:AO)(r:Unit⊕Unit)(ex:Ex)(s:St):Prop:=match r with
 | .inl q=>ex= .ret∧s.v 2=bp false
 | .inr q=>ex= .exit 0
theorem A2N(x_:AO){v:Int}{s:St}{r:Unit⊕Unit}(h:pV x_ v=some r)(hM:Pi x_ v s):BS Y.env A4m (RN x_ r) s:=by
 unfold pV at h;refine Aw (c:=pW) (fun v=>Ph x_ v) (fun v s=>Pi x_ v s) (RN x_) ?_ h hM;clear h hM s v r;intro i s o hM h;unfold Ph at h;unfold Pi at hM;obtain⟨m0,m1⟩:=hM;unfold pW;rcases iS h with⟨e1,h⟩|⟨e1,h⟩
 ·obtain⟨e2,e3,h⟩:=Dr h;obtain⟨zP,hl4,h⟩:=Ag h;have c4:=V8 (x_.getD i.toNat be) (x_.getD ((bm.wrap (i-1)).toNat) be) hl4;rcases iS h with⟨e5,h⟩|⟨e5,h⟩
  ·cases h;simp only [↓AJ,AL,↓reduceIte,bj,bh,m0,m1,e1,e2.1,e2.2,e3.1,e3.2,c4,e5,Pi,RN,QC]
  ·have e5f:zP=false:=G8.mpr e5;cases h;simp only [↓AJ,AL,↓reduceIte,bj,bh,m0,m1,e1,e2.1,e2.2,e3.1,e3.2,c4,e5f,Pi,Cx]
 ·cases h;simp only [↓AJ,AL,↓reduceIte,bh,m1,e1,Pi,RN,Gf]
theorem A4n(x_:AO){r:Bool}(h:gIS x_=some r):Y.call 97 [bk 3 (AQ (bc .i64) x_)] []=some (bp r,[]):=by
 refine c97 ?_ rfl;unfold k97;unfold gIS at h;obtain⟨AU,hl2,h⟩:=Ag h;try dsimp only at h
 simp only [↓AJ,AL,↓reduceIte,bj,bh];refine Al (A2N x_ hl2 ?_) ?_
 ·simp only [BK,Cg,↓reduceIte,bj,bh,Pi]
 ·intro ex2 s2 hX2;rcases AU with q1000_|q1000_
  ·unfold RN at hX2;dsimp only at hX2 h;obtain⟨rfl,n2_0⟩:=hX2;cases h;simp only [↓AJ,AL,↓reduceIte,n2_0]
  ·unfold RN at hX2;dsimp only at hX2 h
   obtain rfl:=hX2
   cases h;simp only [↓AJ,AL,↓reduceIte,bj,bh]
def GK(l:AO):Bool:=(ao (l.length-1)).all fun i=>decide (l.getD i be≤l.getD (i+1) be)
theorem ADg(l:AO)(h:l.length<1099511627776):gIS l=some (GK l):=by
 unfold gIS pV;rw [GG _ (by omega)]
 rcases Nat.eq_zero_or_pos l.length with h0|h0
 ·rw [E8 (r:=bl ())]
  ·simp [GK,h0]
  ·simp only [Ph];rw [if_neg (by omega)]
 ·have key:=E9 (fun v=>Ph l v) (fun j=>(l.length:Int)-1-j) (l.length-1) (fun j=>decide (l.getD (l.length-1-j-1) be≤l.getD (l.length-1-j) be)) (.inl ()) (.inr ()) ?_ ?_
  ·simp only [EW,Int.sub_zero]at key;rw [key]
   have e:(ao (l.length-1)).all (fun j=>decide (l.getD (l.length-1-j-1) be≤l.getD (l.length-1-j) be))=GK l:=by
    unfold GK;rw [V7,Ch,Ch]
    constructor
    ·intro hh i hi;have:=hh (l.length-1-i-1) (by omega)
     rwa [show l.length-1-(l.length-1-i-1)=i+1 by omega,Nat.add_sub_cancel]at this
    ·intro hh i hi;have:=hh (l.length-1-i-1) (by omega)
     rwa [show l.length-1-i-1+1=l.length-1-i by omega]at this
   rw [e]
   cases GK l<;>rfl
  ·intro i hi;simp only [Ph];rw [if_pos (by omega),GG _ (by omega)]
   rw [BC (by omega),BC (by omega),show((l.length:Int)-1-i).toNat=l.length-1-i by omega,show((l.length:Int)-1-i-1).toNat=l.length-1-i-1 by omega]
   have e:KC (l.getD (l.length-1-i) be) (l.getD (l.length-1-i-1) be)=some (decide (l.getD (l.length-1-i) be<l.getD (l.length-1-i-1) be)):=by
    unfold KC Dl;by_cases hq:l.getD (l.length-1-i) be<l.getD (l.length-1-i-1) be<;>simp [hq]
   rw [e,CB];simp only [decide_eq_true_eq];by_cases hq:l.getD (l.length-1-i) be<l.getD (l.length-1-i-1) be
   ·rw [if_pos hq,if_neg (by omega)]
   ·rw [if_neg hq,if_pos (by omega),show(l.length:Int)-1-i-1=(l.length:Int)-1-((i+1:Nat):Int) by omega]
  ·simp only [Ph];rw [if_neg (by omega)]
theorem ADh(x_:AO)(h0:x_.length<1099511627776):Y.call 97 [bk 3 (AQ (bc .i64) x_)] []=some (bp (GK x_),[]):=A4n x_ (ADg x_ h0)
def IM:AO→AO→Int
 | [],[]=>0
 | [],_::_=> -1
 |_::_,[]=>1
 |x::a,y::b=>if x=y then IM a b else if x<y then-1 else 1
def GL(x_ y:Int):Option (Int):= (Dl x_).bind fun Vz=> (Dl y).bind fun Vj=> if Vz=true then if Vj=true then some 0 else some (-1) else if Vj=true then some 1 else if x_<y then some (-1) else if y<x_ then some 1 else some 0
def ADi:SC:= .seq (.ops [oX 4 (.assign (iK 0)) 3]) (.seq (.ops [oM 7 0 3,oC 8 141 [(tK 7)] [3] 4,oA 5 8 4]) (.seq (.ops [oM 9 1 3,oC 10 141 [(tK 9)] [3] 4,oA 6 10 4]) (.seq (.seq (.ops [oM 11 5 4]) (.cond (tK 11) (.seq (.seq (.ops [oM 12 6 4]) (.cond (tK 12) (.seq (.ops [oX 4 (.assign (iK 0)) 3]) .ret) .skip)) (.seq (.ops [oX 4 RH 3]) .ret)) .skip)) (.seq (.seq (.ops [oM 13 6 4]) (.cond (tK 13) (.seq (.ops [oX 4 (.assign (iK 1)) 3]) .ret) .skip)) (.seq (.seq (.ops [oM 14 0 3,oM 15 1 3,oB 16 .lss 3 (tK 14) (tK 15) 3 4]) (.cond (tK 16) (.seq (.ops [oX 4 RH 3]) .ret) .skip)) (.seq (.seq (.ops [oM 17 0 3,oM 18 1 3,oB 19 .gtr 3 (tK 17) (tK 18) 3 4]) (.cond (tK 19) (.seq (.ops [oX 4 (.assign (iK 1)) 3]) .ret) .skip)) (.seq (.ops [oX 4 (.assign (iK 0)) 3]) .ret)))))))
theorem A7a:Tryz.f126.body.map (BP lends)=some ADi:=by kernel_rfl
theorem ALi:BR Tryz.f126 2=true:=by kernel_rfl
theorem ARH{a l:List D}{r:D×List D}(h:BS Y.env ADi (fin Aj l.length [bt 4] r) (entry a l))(ha:a.length=2):Y.call 126 a l=some r:=
 AY (Y:=Y) rfl Tryz.func126 (ha▸ALi) A7a h
theorem SX(x_ y:Int){r:Int}(h:GL x_ y=some r):Y.call 126 [bc .i64 x_,bc .i64 y] []=some (bc .i64 r,[]):=by
 refine ARH ?_ rfl;unfold ADi;unfold GL at h;obtain⟨Vz,hl1,h⟩:=Ag h;have c1:=GJ x_ hl1;obtain⟨Vj,hl2,h⟩:=Ag h;have c2:=GJ y hl2;rcases iS h with⟨e3,h⟩|⟨e3,h⟩
 ·rcases iS h with⟨e4,h⟩|⟨e4,h⟩
  ·cases h;simp only [↓AJ,AL,↓reduceIte,bj,bh,c1,c2,e3,e4]
  ·have e4f:Vj=false:=G8.mpr e4;cases h;simp only [↓AJ,AL,↓reduceIte,bj,bh,c1,c2,e3,e4f]
 ·have e3f:Vz=false:=G8.mpr e3;rcases iS h with⟨e4,h⟩|⟨e4,h⟩
  ·cases h;simp only [↓AJ,AL,↓reduceIte,bj,bh,c1,c2,e3f,e4]
  ·have e4f:Vj=false:=G8.mpr e4;rcases iS h with⟨e5,h⟩|⟨e5,h⟩
   ·cases h;simp only [↓AJ,AL,↓reduceIte,bj,bh,c1,c2,e3f,e4f,e5]
   ·rcases iS h with⟨e6,h⟩|⟨e6,h⟩
    ·cases h;simp only [↓AJ,AL,↓reduceIte,bj,bh,c1,c2,e3f,e4f,e5,e6]
    ·cases h;simp only [↓AJ,AL,↓reduceIte,bj,bh,c1,c2,e3f,e4f,e5,e6]
def Pj(s1_ s2_:AO)(Ah:Int):Option ((Int)⊕(Int⊕Unit)):= if Ah<(s1_.length:Int)then ck (0≤Ah∧Ah.toNat<s1_.length)<| if(s2_.length:Int)≤Ah then some (bl (bo 1)) else ck (0≤Ah∧Ah.toNat<s2_.length)<| (GL (s1_.getD Ah.toNat be) (s2_.getD Ah.toNat be)).bind fun eZ=> if eZ=0 then some (bo (bm.wrap (Ah+1))) else some (bl (bo eZ)) else some (bl (bl ()))
def UD(s1_ s2_:AO)(v:Int):Option (Int⊕Unit):=Dq (fun v=>Pj s1_ s2_ v) v
def gCp(s1_ s2_:AO):Option (Int):=
 (UD s1_ s2_ 0).bind fun AU=>
 match AU with
 | .inl q1000_=>
  some q1000_
 | .inr q1000_=>
  if(s1_.length:Int)<(s2_.length:Int)then
   some (-1)
  else
   some 0
def pX:SC:= .seq (.ops [oB 12 .lss 3 (tK 11) (tK 10) 3 0]) (.seq (.cond (tK 12) .skip (.exit 0)) (.seq (.block 1 (.seq (.ops [oM 13 11 3,oI 14 26 9 11,oL 15 3 14 3,oA 5 13 3,oA 6 15 3]) (.seq (.seq (.ops [oM 16 5 3,oM 17 1 26,oN 18 17 26,oB 19 .geq 3 (tK 16) (tK 18) 3 4]) (.cond (tK 19) (.seq (.ops [oX 4 (.assign (iK 1)) 3]) .ret) .skip)) (.seq (.ops [oM 20 1 26,oM 21 5 3,oI 22 26 20 21,oL 23 3 22 3,oA 7 23 3]) (.seq (.ops [oM 24 6 3,oM 25 7 3,oC 26 126 [(tK 24),(tK 25)] [3,3] 3,oA 8 26 3]) (.seq (.ops [oM 27 8 3,oB 28 .neq 3 (tK 27) (iK 0) 3 4]) (.cond (tK 28) (.seq (.ops [oM 29 8 3,oA 4 29 3]) .ret) .skip))))))) (.ops [oB 30 .add 3 (tK 11) (iK 1) 3 3,oM 11 30 3])))
def A4o:SC:= .loop pX
def k98:SC:= .seq (.ops [oX 4 (.assign (iK 0)) 3]) (.seq (.seq (.ops [oM 9 0 26,oN 10 9 26,oX 11 (.move (iK 0)) 3]) (.block 0 A4o)) (.seq (.seq (.ops [oM 31 0 26,oN 32 31 26,oM 33 1 26,oN 34 33 26,oB 35 .lss 3 (tK 32) (tK 34) 3 4]) (.cond (tK 35) (.seq (.ops [oX 4 RH 3]) .ret) .skip)) (.seq (.ops [oX 4 (.assign (iK 0)) 3]) .ret)))
theorem ADk:Tryz.f98.body.map (BP lends)=some k98:=by kernel_rfl
theorem ARJ:BR Tryz.f98 2=true:=by kernel_rfl
theorem c98{a l:List D}{r:D×List D}(h:BS Y.env k98 (fin Aj l.length [bt 4] r) (entry a l))(ha:a.length=2):Y.call 98 a l=some r:=
 AY (Y:=Y) rfl Tryz.func98 (ha▸ARJ) ADk h
def Nz(s1_ s2_:AO)(Ah:Int)(s:St):Prop:=s.v 0=bk 3 (AQ (bc .i64) s1_)∧s.v 1=bk 3 (AQ (bc .i64) s2_)∧s.v 9=bk 3 (AQ (bc .i64) s1_)∧s.v 10=bc .i64 (s1_.length:Int)∧s.v 11=bc .i64 Ah
def Pk(s1_ s2_:AO)(r:Int⊕Unit)(ex:Ex)(s:St):Prop:=match r with
 | .inl q=>ex= .ret∧s.v 4=bc .i64 q
 | .inr q=>ex= .exit 0∧s.v 0=bk 3 (AQ (bc .i64) s1_)∧s.v 1=bk 3 (AQ (bc .i64) s2_)
theorem A2O(s1_ s2_:AO){v:Int}{s:St}{r:Int⊕Unit}(h:UD s1_ s2_ v=some r)(hM:Nz s1_ s2_ v s):BS Y.env A4o (Pk s1_ s2_ r) s:=by
 unfold UD at h;refine Aw (c:=pX) (fun v=>Pj s1_ s2_ v) (fun v s=>Nz s1_ s2_ v s) (Pk s1_ s2_) ?_ h hM;clear h hM s v r;intro Ah s o hM h;unfold Pj at h;unfold Nz at hM;obtain⟨m0,m1,m2,m3,m4⟩:=hM;unfold pX;rcases iS h with⟨e1,h⟩|⟨e1,h⟩
 ·obtain⟨e2,h⟩:=Cu h;rcases iS h with⟨e3,h⟩|⟨e3,h⟩
  ·cases h;simp only [↓AJ,AL,↓reduceIte,bj,bh,m1,m2,m3,m4,e1,e2.1,e2.2,e3,Nz,Pk,QC]
  ·obtain⟨e4,h⟩:=Cu h;obtain⟨eZ,hl5,h⟩:=Ag h;have c5:=SX (s1_.getD Ah.toNat be) (s2_.getD Ah.toNat be) hl5;rcases iS h with⟨e6,h⟩|⟨e6,h⟩
   ·cases h;simp only [↓AJ,AL,↓reduceIte,bj,bh,m0,m1,m2,m3,m4,e1,e2.1,e2.2,e3,e4.2,c5,decide_eq_true e6,Nz,Cx]
   ·cases h;simp only [↓AJ,AL,↓reduceIte,bj,bh,m1,m2,m3,m4,e1,e2.1,e2.2,e3,e4.2,c5,e6,Nz,Pk,QC]
 ·cases h;simp only [↓AJ,AL,↓reduceIte,bj,bh,m0,m1,m3,m4,e1,Nz,Pk,Gf]
theorem wR(s1_ s2_:AO){r:Int}(h:gCp s1_ s2_=some r):Y.call 98 [bk 3 (AQ (bc .i64) s1_),bk 3 (AQ (bc .i64) s2_)] []=some (bc .i64 r,[]):=by
 refine c98 ?_ rfl;unfold k98;unfold gCp at h;obtain⟨AU,hl2,h⟩:=Ag h;try dsimp only at h
 simp only [↓AJ,AL,↓reduceIte,bj,bh,b4];refine Al (A2O s1_ s2_ hl2 ?_) ?_
 ·simp only [BK,Cg,↓reduceIte,bj,bh,Nz]
 ·intro ex2 s2 hX2;rcases AU with q1000_|q1000_
  ·unfold Pk at hX2;dsimp only at hX2 h;obtain⟨rfl,n2_0⟩:=hX2;cases h;simp only [↓AJ,AL,↓reduceIte,n2_0]
  ·unfold Pk at hX2;dsimp only at hX2 h;obtain⟨rfl,n2_0,n2_1⟩:=hX2;rcases iS h with⟨e3,h⟩|⟨e3,h⟩
   ·cases h;simp only [↓AJ,AL,↓reduceIte,bj,bh,n2_0,n2_1,e3]
   ·cases h;simp only [↓AJ,AL,↓reduceIte,bj,bh,n2_0,n2_1,e3]
theorem YO(x y:Int):GL x y=some (if x<y then-1 else if y<x then 1 else 0):=by
 unfold GL Dl;by_cases h1:x<y<;>by_cases h2:y<x<;>simp [h1,h2]
theorem kD: ∀(a b p q:AO),p.length=q.length→p.length+a.length<1099511627776→q.length+b.length<1099511627776→
  (UD (p++a) (q++b) (p.length:Int)).bind (fun r=>match r with| .inl q2=>some q2| .inr _=>if((p++a).length:Int)<((q++b).length:Int)then some (-1)else some 0)=some (IM a b):=by
 intro a
 induction a with
 |nil=>
  intro b p q hpq ha hb;unfold UD;rw [E8 (r:=bl ())]
  ·simp only [CB,TI,Np,hpq]
   cases b with
   |nil=>rw [if_neg (by simp)];rfl
   |cons y b=>rw [if_pos (by simp;omega)];rfl
  ·simp only [Pj];rw [if_neg (Ww _)]
 |cons x a ih=>
  intro b p q hpq ha hb;simp only [Jw]at ha hb;have ex:(p++x::a).getD (p.length:Int).toNat be=x:=by rw [Cq];exact FK p (x::a) p.length rfl (by simp)
  cases b with
  |nil=>
   unfold UD;rw [E8 (r:=bo 1)]
   ·rfl
   ·simp only [Pj];rw [if_pos (Ve ..),BC (Vf ..),if_pos (by simp;omega)]
  |cons y b=>
   simp only [Jw]at hb;have ey:(q++y::b).getD (p.length:Int).toNat be=y:=by rw [Cq,hpq];exact FK q (y::b) q.length rfl (by simp)
   have step:Pj (p++x::a) (q++y::b) (p.length:Int)=if x=y then some (.inl (((p++[x]).length:Nat):Int))else some (.inr (.inl (if x<y then-1 else 1))):=by
    unfold Pj;rw [if_pos (Ve ..),BC (Vf ..),if_neg (by simp;omega),BC (by simp;omega),ex,ey,YO,CB,Gc _ (by omega)]
    by_cases h1:x=y
    ·subst h1;simp
    ·rw [if_neg h1];by_cases h2:x<y
     ·simp [h2]
     ·have h3:y<x:=by omega
      simp [h2,h3]
   unfold IM;by_cases h1:x=y
   ·rw [if_pos h1];rw [if_pos h1]at step;have:=ih b (p++[x]) (q++[y]) (by simp [hpq]) (by simp;omega) (by simp;omega)
    unfold UD at this ⊢;rw [Lh step];simpa using this
   ·rw [if_neg h1];rw [if_neg h1]at step;unfold UD;rw [E8 step];rfl
theorem A4p(a b:AO)(ha:a.length<1099511627776)(hb:b.length<1099511627776):gCp a b=some (IM a b):=by
 have:=kD a b [] [] rfl (by simpa using ha) (by simpa using hb)
 unfold gCp;simp only [PO,Qu,EW]at this;exact this
theorem ADl(s1_ s2_:AO)(h0:s1_.length<1099511627776)(h1:s2_.length<1099511627776):Y.call 98 [bk 3 (AQ (bc .i64) s1_),bk 3 (AQ (bc .i64) s2_)] []=some (bc .i64 (IM s1_ s2_),[]):=wR s1_ s2_ (A4p s1_ s2_ h0 h1)
def UE(n_:Int):Option (Int):= if 0<n_ then some 1 else if n_<0 then some (-1) else some 0
def ADm:SC:= .seq (.ops [oX 2 (.assign (iK 0)) 3]) (.seq (.block 0 (.seq (.ops [oM 4 0 3,oB 5 .gtr 3 (tK 4) (iK 0) 3 4,oA 3 5 4]) (.cond (tK 3) (.seq (.ops [oX 2 (.assign (iK 1)) 3]) .ret) (.seq (.ops [oM 7 0 3,oB 8 .lss 3 (tK 7) (iK 0) 3 4,oA 6 8 4]) (.cond (tK 6) (.seq (.ops [oX 2 RH 3]) .ret) .skip))))) (.seq (.ops [oX 2 (.assign (iK 0)) 3]) .ret))
theorem A7b:Tryz.f139.body.map (BP lends)=some ADm:=by kernel_rfl
theorem ALj:BR Tryz.f139 1=true:=by kernel_rfl
theorem ARK{a l:List D}{r:D×List D}(h:BS Y.env ADm (fin Aj l.length [bt 2] r) (entry a l))(ha:a.length=1):Y.call 139 a l=some r:=
 AY (Y:=Y) rfl Tryz.func139 (ha▸ALj) A7b h
theorem kE(n_:Int){r:Int}(h:UE n_=some r):Y.call 139 [bc .i64 n_] []=some (bc .i64 r,[]):=by
 refine ARK ?_ rfl;unfold ADm;unfold UE at h;rcases iS h with⟨e1,h⟩|⟨e1,h⟩
 ·cases h;simp only [↓AJ,AL,↓reduceIte,bj,bh,e1]
 ·rcases iS h with⟨e2,h⟩|⟨e2,h⟩
  ·cases h;simp only [↓AJ,AL,↓reduceIte,bj,bh,e1,e2]
  ·cases h;simp only [↓AJ,AL,↓reduceIte,bj,bh,e1,e2]
def Hg(a b:AO)(GM:Int):Option ((Int)⊕(Int⊕Unit)):= if GM<(a.length:Int)then ck (0≤GM∧GM.toNat<a.length)<| ck (0≤GM∧GM.toNat<b.length)<| if(a.getD GM.toNat be)=(b.getD GM.toNat be)then some (bo (bm.wrap (GM+1))) else (UE (bm.wrap ((a.getD GM.toNat be)-(b.getD GM.toNat be)))).bind fun eZ=> some (bl (bo eZ)) else some (bl (bl ()))
def IY(a b:AO)(v:Int):Option (Int⊕Unit):=Dq (fun v=>Hg a b v) v
def Uo(a b:AO):Option (Int):=
 (IY a b 0).bind fun AU=>
 match AU with
 | .inl q1000_=>
  some q1000_
 | .inr q1000_=>
  some 0
def ed:SC:= .seq (.ops [oB 10 .lss 3 (tK 9) (tK 8) 3 0]) (.seq (.cond (tK 10) .skip (.exit 0)) (.seq (.block 1 (.seq (.ops [oM 11 9 3,oI 12 26 7 9,oL 13 3 12 3,oA 5 11 3,oA 6 13 3]) (.seq (.ops [oM 14 6 3,oM 15 1 26,oM 16 5 3,oI 17 26 15 16,oL 18 3 17 3,oB 19 .neq 3 (tK 14) (tK 18) 3 4]) (.cond (tK 19) (.seq (.ops [oM 20 6 3,oM 21 1 26,oM 22 5 3,oI 23 26 21 22,oL 24 3 23 3,oB 25 .sub 3 (tK 20) (tK 24) 3 3,oC 26 139 [(tK 25)] [3] 3,oA 4 26 3]) .ret) .skip)))) (.ops [oB 27 .add 3 (tK 9) (iK 1) 3 3,oM 9 27 3])))
def A0c:SC:= .loop ed
def ADn:SC:= .seq (.ops [oX 4 (.assign (iK 0)) 3]) (.seq (.seq (.ops [oM 7 0 26,oN 8 7 26,oX 9 (.move (iK 0)) 3]) (.block 0 A0c)) (.seq (.ops [oX 4 (.assign (iK 0)) 3]) .ret))
theorem A7c:Tryz.f121.body.map (BP lends)=some ADn:=by kernel_rfl
theorem ALk:BR Tryz.f121 2=true:=by kernel_rfl
theorem ARL{a l:List D}{r:D×List D}(h:BS Y.env ADn (fin Aj l.length [bt 4] r) (entry a l))(ha:a.length=2):Y.call 121 a l=some r:=
 AY (Y:=Y) rfl Tryz.func121 (ha▸ALk) A7c h
def FP(a b:AO)(GM:Int)(s:St):Prop:=s.v 1=bk 3 (AQ (bc .i64) b)∧s.v 7=bk 3 (AQ (bc .i64) a)∧s.v 8=bc .i64 (a.length:Int)∧s.v 9=bc .i64 GM
def Hl(a b:AO)(r:Int⊕Unit)(ex:Ex)(s:St):Prop:=match r with
 | .inl q=>ex= .ret∧s.v 4=bc .i64 q
 | .inr q=>ex= .exit 0
theorem Zw(a b:AO){v:Int}{s:St}{r:Int⊕Unit}(h:IY a b v=some r)(hM:FP a b v s):BS Y.env A0c (Hl a b r) s:=by
 unfold IY at h;refine Aw (c:=ed) (fun v=>Hg a b v) (fun v s=>FP a b v s) (Hl a b) ?_ h hM;clear h hM s v r;intro GM s o hM h;unfold Hg at h;unfold FP at hM;obtain⟨m0,m1,m2,m3⟩:=hM;unfold ed;rcases iS h with⟨e1,h⟩|⟨e1,h⟩
 ·obtain⟨e2,e3,h⟩:=Dr h;rcases iS h with⟨e4,h⟩|⟨e4,h⟩
  ·cases h;simp only [↓AJ,AL,↓reduceIte,bj,bh,m0,m1,m2,m3,e1,e2.1,e2.2,e3.2,decide_eq_true e4,FP,Cx]
  ·obtain⟨eZ,hl5,h⟩:=Ag h;try dsimp only at h
   have c5:=kE (bm.wrap ((a.getD GM.toNat be)-(b.getD GM.toNat be))) hl5;cases h;simp only [↓AJ,AL,↓reduceIte,bj,bh,m0,m1,m2,m3,e1,e2.1,e2.2,e3.2,e4,c5,FP,Hl,QC]
 ·cases h;simp only [↓AJ,AL,↓reduceIte,bh,m2,m3,e1,FP,Hl,Gf]
theorem eu(a b:AO){r:Int}(h:Uo a b=some r):Y.call 121 [bk 3 (AQ (bc .i64) a),bk 3 (AQ (bc .i64) b)] []=some (bc .i64 r,[]):=by
 refine ARL ?_ rfl;unfold ADn;unfold Uo at h;obtain⟨AU,hl2,h⟩:=Ag h;try dsimp only at h
 simp only [↓AJ,AL,↓reduceIte,bj,bh];refine Al (Zw a b hl2 ?_) ?_
 ·simp only [BK,Cg,↓reduceIte,bj,bh,FP]
 ·intro ex2 s2 hX2;rcases AU with q1000_|q1000_
  ·unfold Hl at hX2;dsimp only at hX2 h;obtain⟨rfl,n2_0⟩:=hX2;cases h;simp only [↓AJ,AL,↓reduceIte,n2_0]
  ·unfold Hl at hX2;dsimp only at hX2 h
   obtain rfl:=hX2
   cases h;simp only [↓AJ,AL,↓reduceIte,bj,bh]
def OV(l:AO):Bool:=FO l (-1099511627776) 1099511627776
theorem fA{l:AO}(h:OV l=true){x:Int}(hx:x∈l): -1099511627776≤x∧x≤1099511627776:=by
 have:=Jv.1 h x hx;exact EA.1 this
theorem mR{l:AO}{lo hi:Int}(h:FO l lo hi=true)(h1: -1099511627776≤lo)(h2:hi≤1099511627776):OV l=true:=by
 refine Jv.2 fun x hx=> ?_;have:=EA.1 (Jv.1 h x hx)
 exact EA.2 ⟨by omega,by omega⟩
theorem wS(n:Int):UE n=some (if n<0 then-1 else if 0<n then 1 else 0):=by
 unfold UE;by_cases h1:n<0<;>by_cases h2:0<n<;>simp [h1,h2]<;>omega
theorem wT: ∀(a b p q:AO),p.length=q.length→a.length=b.length→p.length+a.length<1099511627776→OV a=true→OV b=true→
  (IY (p++a) (q++b) (p.length:Int)).bind (fun r=>match r with| .inl q2=>some q2| .inr _=>some 0)=some (IM a b):=by
 intro a
 induction a with
 |nil=>
  intro b p q hpq hab ha h1 h2;have:b=[]:=by cases b with|nil=>rfl|cons _ _=>simp at hab
  subst this;unfold IY;rw [E8 (r:=bl ())]
  ·rfl
  ·simp only [Hg];rw [if_neg (Ww _)]
 |cons x a ih=>
  intro b p q hpq hab ha h1 h2
  cases b with
  |nil=>simp at hab
  |cons y b=>
   simp only [Jw]at ha hab;have sx1:=fA h1 (Gu ..);have sy1:=fA h2 (Gu ..);have ex:(p++x::a).getD (p.length:Int).toNat be=x:=by rw [Cq];exact FK p (x::a) p.length rfl (by simp)
   have ey:(q++y::b).getD (p.length:Int).toNat be=y:=by rw [Cq,hpq];exact FK q (y::b) q.length rfl (by simp)
   have step:Hg (p++x::a) (q++y::b) (p.length:Int)=if x=y then some (.inl (((p++[x]).length:Nat):Int))else some (.inr (.inl (if x<y then-1 else 1))):=by
    unfold Hg;rw [if_pos (Ve ..),BC (Vf ..),BC (by simp;omega),ex,ey,Gc _ (by omega),GG _ (by omega),wS,CB]
    by_cases h1:x=y
    ·subst h1;simp
    ·rw [if_neg h1,if_neg h1];by_cases h2:x<y
     ·rw [if_pos (by omega),if_pos h2]
     ·rw [if_neg (by omega),if_pos (by omega),if_neg h2]
   have s1:OV a=true:=Jv.2 fun z hz=>Jv.1 h1 z (PL _ hz);have s2:OV b=true:=Jv.2 fun z hz=>Jv.1 h2 z (PL _ hz);unfold IM;by_cases h1:x=y
   ·rw [if_pos h1];rw [if_pos h1]at step;have:=ih b (p++[x]) (q++[y]) (by simp [hpq]) (by omega) (by simp;omega) s1 s2
    unfold IY at this ⊢;rw [Lh step];simpa using this
   ·rw [if_neg h1];rw [if_neg h1]at step;unfold IY;rw [E8 step];rfl
theorem pY(a b:AO)(ha:a.length<1099511627776)(hab:a.length=b.length)(h1:OV a=true)(h2:OV b=true):Uo a b=some (IM a b):=by
 have:=wT a b [] [] rfl hab (by simpa using ha) h1 h2
 unfold Uo;simp only [PO,Qu,EW]at this;exact this
theorem pg(a b:AO)(h0:a.length<1099511627776)(h1:a.length=b.length)(h2:OV a=true)(h3:OV b=true):Y.call 121 [bk 3 (AQ (bc .i64) a),bk 3 (AQ (bc .i64) b)] []=some (bc .i64 (IM a b),[]):=eu a b (pY a b h0 h1 h2 h3)
def Qn(l:AX)(size labels:Int)(i:Nat):Bool:=
 ((decide (((l.getD i be).length:Int)=size)&&GK (l.getD i be))&&FO (l.getD i be) 0 (labels-1))&&(decide (i=0)||decide (IM (l.getD (i-1) be) (l.getD i be)<0))
def MF(l:AX)(size labels:Int):Bool:=(ao l.length).all (Qn l size labels)
def M7(labels degree:Int)(ns es:AX):Bool:=((Jz labels 1 8&&Jz degree 1 4)&&MF ns degree labels)&&MF es 2 labels
theorem BQ.getD{l:AX}(h:BQ l)(i:Nat):(l.getD i be).length<1099511627776:=by
 rcases Nat.lt_or_ge i l.length with hi|hi
 ·rw [Ac _ _ hi];exact h.at i hi
 ·rw [LQ,jO hi];decide
def RO(list:AX)(size labels Ah:Int):Option ((Int)⊕(Unit⊕Unit)):= if Ah<(list.length:Int)then ck (0≤Ah∧Ah.toNat<list.length)<| if((list.getD Ah.toNat be).length:Int)=size then ck ((list.getD Ah.toNat be).length<1099511627776)<| if(GK (list.getD Ah.toNat be))=true then if(FO (list.getD Ah.toNat be) (0:Int) (bm.wrap (labels-1)))=true then if 0<Ah then ck (0≤bm.wrap (Ah-1)∧(bm.wrap (Ah-1)).toNat<list.length)<| ck ((list.getD ((bm.wrap (Ah-1)).toNat) be).length<1099511627776)<| if 0≤(IM (list.getD ((bm.wrap (Ah-1)).toNat) be) (list.getD Ah.toNat be))then some (bl (bo ())) else some (bo (bm.wrap (Ah+1))) else some (bo (bm.wrap (Ah+1))) else some (bl (bo ())) else some (bl (bo ())) else some (bl (bo ())) else some (bl (bl ()))
def pq(list:AX)(size labels v:Int):Option (Unit⊕Unit):=Dq (fun v=>RO list size labels v) v
def iCO(list:AX)(size labels:Int):Option (Bool):=
 (pq list size labels 0).bind fun AU=>
 match AU with
 | .inl q1000_=>
  some false
 | .inr q1000_=>
  some true
def pu:SC:= .seq (.ops [oB 12 .lss 3 (tK 11) (tK 10) 3 0]) (.seq (.cond (tK 12) .skip (.exit 0)) (.seq (.block 1 (.seq (.ops [oM 13 11 3,oI 14 22 9 11,oL 15 26 14 26,oA 7 13 3,oA 8 15 26]) (.seq (.ops [oM 16 8 26,oN 17 16 26,oM 18 1 3,oB 19 .neq 3 (tK 17) (tK 18) 3 4,oM 20 19 4,⟨some 21,.move (tK 8),26,(some (some 20,false))⟩,⟨some 22,.call ⟨(.value (.func 97)), #[(tK 21)], #[26]⟩,4,(some (some 20,false))⟩,⟨some 23,.unOp .not 4 (tK 22),4,(some (some 20,false))⟩,oX 24 (.pick (tK 20) Cy (tK 23)) 4,oM 25 24 4,⟨some 26,.move (tK 8),26,(some (some 25,false))⟩,⟨some 27,.move (tK 2),3,(some (some 25,false))⟩,⟨some 28,.binOp .sub 3 (tK 27) (iK 1) 3,3,(some (some 25,false))⟩,⟨some 29,.call ⟨(.value (.func 71)), #[(tK 26),(iK 0),(tK 28)], #[26,3,3]⟩,4,(some (some 25,false))⟩,⟨some 30,.unOp .not 4 (tK 29),4,(some (some 25,false))⟩,oX 31 (.pick (tK 25) Cy (tK 30)) 4,oM 32 31 4,⟨some 33,.move (tK 7),3,(some (some 32,false))⟩,⟨some 34,.binOp .gtr 3 (tK 33) (iK 0) 3,4,(some (some 32,false))⟩,⟨some 35,.move (tK 34),4,(some (some 32,false))⟩,⟨some 36,.move (tK 0),22,(some (some 35,true))⟩,⟨some 37,.move (tK 7),3,(some (some 35,true))⟩,⟨some 38,.binOp .sub 3 (tK 37) (iK 1) 3,3,(some (some 35,true))⟩,
 ⟨some 39,.indexAddr 22 (tK 36) (tK 38),0,(some (some 35,true))⟩,⟨some 40,.load 26 (tK 39),26,(some (some 35,true))⟩,⟨some 41,.move (tK 8),26,(some (some 35,true))⟩,⟨some 42,.call ⟨(.value (.func 98)), #[(tK 40),(tK 41)], #[26,26]⟩,3,(some (some 35,true))⟩,⟨some 43,.binOp .geq 3 (tK 42) (iK 0) 3,4,(some (some 35,true))⟩,⟨some 44,.pick (tK 35) (tK 43) LK,4,(some (some 32,false))⟩,oX 45 (.pick (tK 32) Cy (tK 44)) 4]) (.cond (tK 45) (.seq (.ops [oX 6 Ba 4]) .ret) .skip)))) (.ops [oB 46 .add 3 (tK 11) (iK 1) 3 3,oM 11 46 3])))
def A4q:SC:= .loop pu
def k65:SC:= .seq (.ops [oX 6 Ba 4]) (.seq (.seq (.ops [oM 9 0 22,oN 10 9 22,oX 11 (.move (iK 0)) 3]) (.block 0 A4q)) (.seq (.ops [oX 6 (.assign Cy) 4]) .ret))
theorem ADo:Tryz.f65.body.map (BP lends)=some k65:=by kernel_rfl
theorem ARO:BR Tryz.f65 3=true:=by kernel_rfl
theorem c65{a l:List D}{r:D×List D}(h:BS Y.env k65 (fin Aj l.length [bt 6] r) (entry a l))(ha:a.length=3):Y.call 65 a l=some r:=
 AY (Y:=Y) rfl Tryz.func65 (ha▸ARO) ADo h
def KD(list:AX)(size labels Ah:Int)(s:St):Prop:=s.v 0=bk 26 (AQ BX list)∧s.v 1=bc .i64 size∧s.v 2=bc .i64 labels∧s.v 9=bk 26 (AQ BX list)∧s.v 10=bc .i64 (list.length:Int)∧s.v 11=bc .i64 Ah
def Ma(list:AX)(size labels:Int)(r:Unit⊕Unit)(ex:Ex)(s:St):Prop:=match r with
 | .inl q=>ex= .ret∧s.v 6=bp false
 | .inr q=>ex= .exit 0
theorem A2P(list:AX)(size labels:Int){v:Int}{s:St}{r:Unit⊕Unit}(h:pq list size labels v=some r)(hM:KD list size labels v s):BS Y.env A4q (Ma list size labels r) s:=by
 unfold pq at h;refine Aw (c:=pu) (fun v=>RO list size labels v) (fun v s=>KD list size labels v s) (Ma list size labels) ?_ h hM;clear h hM s v r;intro Ah s o hM h;unfold RO at h;unfold KD at hM;obtain⟨m0,m1,m2,m3,m4,m5⟩:=hM;unfold pu;rcases iS h with⟨e1,h⟩|⟨e1,h⟩
 ·obtain⟨e2,h⟩:=Cu h;rcases iS h with⟨e3,h⟩|⟨e3,h⟩
  ·obtain⟨e4,h⟩:=Cu h;have c5:=ADh (list.getD Ah.toNat be) e4;rcases iS h with⟨e6,h⟩|⟨e6,h⟩
   ·have c7:=UC (list.getD Ah.toNat be) (0:Int) (bm.wrap (labels-1)) e4;rcases iS h with⟨e8,h⟩|⟨e8,h⟩
    ·rcases iS h with⟨e9,h⟩|⟨e9,h⟩
     ·obtain⟨e10,e11,h⟩:=Dr h;have zQ:=ADl (list.getD ((bm.wrap (Ah-1)).toNat) be) (list.getD Ah.toNat be) e11 e4;rcases iS h with⟨e13,h⟩|⟨e13,h⟩
      ·cases h;simp only [↓AJ,AL,↓reduceIte,bj,bh,m0,m1,m2,m3,m4,m5,e1,e2.1,e2.2,decide_eq_true e3,c5,e6,c7,e8,e9,e10.1,e10.2,zQ,e13,KD,Ma,QC]
      ·cases h;simp only [↓AJ,AL,↓reduceIte,bj,bh,m0,m1,m2,m3,m4,m5,e1,e2.1,e2.2,decide_eq_true e3,c5,e6,c7,e8,e9,e10.1,e10.2,zQ,e13,KD,Cx]
     ·cases h;simp only [↓AJ,AL,↓reduceIte,bj,bh,m0,m1,m2,m3,m4,m5,e1,e2.1,e2.2,decide_eq_true e3,c5,e6,c7,e8,e9,KD,Cx]
    ·have e8f:(FO (list.getD Ah.toNat be) (0:Int) (bm.wrap (labels-1)))=false:=G8.mpr e8;cases h;simp only [↓AJ,AL,↓reduceIte,bj,bh,m1,m2,m3,m4,m5,e1,e2.1,e2.2,decide_eq_true e3,c5,e6,c7,e8f,KD,Ma,QC]
   ·have e6f:(GK (list.getD Ah.toNat be))=false:=G8.mpr e6;cases h;simp only [↓AJ,AL,↓reduceIte,bj,bh,m1,m3,m4,m5,e1,e2.1,e2.2,decide_eq_true e3,c5,e6f,KD,Ma,QC]
  ·cases h;simp only [↓AJ,AL,↓reduceIte,bj,bh,m1,m3,m4,m5,e1,e2.1,e2.2,e3,KD,Ma,QC]
 ·cases h;simp only [↓AJ,AL,↓reduceIte,bh,m4,m5,e1,KD,Ma,Gf]
theorem A4r(list:AX)(size labels:Int){r:Bool}(h:iCO list size labels=some r):Y.call 65 [bk 26 (AQ BX list),bc .i64 size,bc .i64 labels] []=some (bp r,[]):=by
 refine c65 ?_ rfl;unfold k65;unfold iCO at h;obtain⟨AU,hl2,h⟩:=Ag h;try dsimp only at h
 simp only [↓AJ,AL,↓reduceIte,bj,bh];refine Al (A2P list size labels hl2 ?_) ?_
 ·simp only [BK,Cg,↓reduceIte,bj,bh,KD]
 ·intro ex2 s2 hX2;rcases AU with q1000_|q1000_
  ·unfold Ma at hX2;dsimp only at hX2 h;obtain⟨rfl,n2_0⟩:=hX2;cases h;simp only [↓AJ,AL,↓reduceIte,n2_0]
  ·unfold Ma at hX2;dsimp only at hX2 h
   obtain rfl:=hX2
   cases h;simp only [↓AJ,AL,↓reduceIte,bj,bh]
theorem ADp(l:AX)(size labels:Int)(h:BQ l)(hl:1≤labels∧labels≤8):iCO l size labels=some (MF l size labels):=by
 have h1:=h.1;unfold iCO pq;have key:=E9 (fun v=>RO l size labels v) (fun i=>(i:Int)) l.length (Qn l size labels) (.inl ()) (.inr ()) ?_ ?_
 ·simp only [EW]at key;rw [key];unfold MF
  cases (ao l.length).all (Qn l size labels)<;>rfl
 ·intro i hi;simp only [RO];rw [if_pos (BU hi),BC (DY hi),Cq,Gc i (by omega),GG (labels-1) (by omega)]
  have hs:=h.getD i;have hs1:=h.getD (i-1);rw [BC hs];unfold Qn;generalize l.getD i be=x at*;by_cases q1:(x.length:Int)=size
  ·rw [if_pos q1]
   cases q2:GK x with
   |false=>simp
   |true=>
    rw [if_pos rfl]
    cases q3:FO x 0 (labels-1)with
    |false=>simp
    |true=>
     rw [if_pos rfl];by_cases q4:i=0
     ·simp [q1,q4]
     ·rw [if_pos (by omega),GG _ (by omega),BC (by omega),show((i:Int)-1).toNat=i-1 by omega,BC hs1]
      generalize l.getD (i-1) be=y at*;by_cases q5:0≤IM y x
      ·rw [if_pos q5,if_neg (by simp;intro _;exact⟨q4,q5⟩)]
      ·rw [if_neg q5,if_pos (by simp [q1,q4];omega)]
  ·have e:=decide_eq_false q1;rw [if_neg q1,if_neg (by rw [e];simp)]
 ·simp only [RO];rw [if_neg (Am _)]
theorem A4s(list:AX)(size labels:Int)(h0:BQ list)(h1:1≤labels∧labels≤8):Y.call 65 [bk 26 (AQ BX list),bc .i64 size,bc .i64 labels] []=some (bp (MF list size labels),[]):=A4r list size labels (ADp list size labels h0 h1)
def Pn(l:AX)(size labels Bb k:Int):Option ((Int)⊕(Unit⊕Unit)):= if k<size then ck (0≤bm.wrap (k-1)∧(bm.wrap (k-1)).toNat<(l.getD Bb.toNat be).length)<| ck (0≤k∧k.toNat<(l.getD Bb.toNat be).length)<| if((l.getD Bb.toNat be).getD k.toNat be)<((l.getD Bb.toNat be).getD ((bm.wrap (k-1)).toNat) be)then some (bl (bo ())) else some (bo (bm.wrap (k+1))) else some (bl (bl ()))
def YP(l:AX)(size labels Bb v:Int):Option (Unit⊕Unit):=Dq (fun v=>Pn l size labels Bb v) v
def RP(l:AX)(size labels Bb:Int):Option ((Int)⊕(Unit⊕Unit)):=
 if Bb<(l.length:Int)then
  ck (0≤Bb∧Bb.toNat<l.length)<|
  if((l.getD Bb.toNat be).length:Int)=size then
   ck ((l.getD Bb.toNat be).length<1099511627776)<|
   if(FO (l.getD Bb.toNat be) (0:Int) (bm.wrap (labels-1)))=true then
    if 0<Bb then
     ck (0≤bm.wrap (Bb-1)∧(bm.wrap (Bb-1)).toNat<l.length)<|
     ck ((l.getD ((bm.wrap (Bb-1)).toNat) be).length<1099511627776)<|
     ck ((l.getD ((bm.wrap (Bb-1)).toNat) be).length=(l.getD Bb.toNat be).length)<|
     ck (OV (l.getD ((bm.wrap (Bb-1)).toNat) be)=true)<|
     ck (OV (l.getD Bb.toNat be)=true)<|
     if 0≤(IM (l.getD ((bm.wrap (Bb-1)).toNat) be) (l.getD Bb.toNat be))then
      some (bl (bo ()))
     else
      (YP l size labels Bb 1).bind fun AU=>
      match AU with
      | .inl q1000_=>
       some (bl (bo ()))
      | .inr q1000_=>
       some (bo (bm.wrap (Bb+1)))
    else
     (YP l size labels Bb 1).bind fun AU=>
     match AU with
     | .inl q1000_=>
      some (bl (bo ()))
     | .inr q1000_=>
      some (bo (bm.wrap (Bb+1)))
   else
    some (bl (bo ()))
  else
   some (bl (bo ()))
 else
  some (bl (bl ()))
def pz(l:AX)(size labels v:Int):Option (Unit⊕Unit):=Dq (fun v=>RP l size labels v) v
def sPL(l:AX)(size labels:Int):Option (Bool):=
 (pz l size labels 0).bind fun Au=>
 match Au with
 | .inl q1001_=>
  some false
 | .inr q1001_=>
  some true
abbrev qd9:List Nat:=[47,48,49,50,51,52,53,54,55,56]
def qA:SC:= .seq (.seq (.ops [oM 42 9 3,oM 43 1 3,oB 44 .lss 3 (tK 42) (tK 43) 3 4]) (.cond (tK 44) .skip (.exit 2))) (.seq (.block 3 (.seq (.draws [(⟨[47,8,8],qd9,[47]⟩,oM 47 8 26),(⟨[48,9,9],qd9,[48]⟩,oM 48 9 3),(⟨[49,48,9],qd9,[49]⟩,oB 49 .sub 3 (tK 48) (iK 1) 3 3),(⟨[50,47,49,8,49],qd9,[50]⟩,oI 50 26 47 49),(⟨[51,50,8],qd9,[51]⟩,oL 51 3 50 3),(⟨[52,8,8],qd9,[52]⟩,oM 52 8 26),(⟨[53,9,9],qd9,[53]⟩,oM 53 9 3),(⟨[54,52,53,8,9],qd9,[54]⟩,oI 54 26 52 53),(⟨[55,54,8],qd9,[55]⟩,oL 55 3 54 3),(⟨[56,51,55,8,8],qd9,[56]⟩,oB 56 .gtr 3 (tK 51) (tK 55) 3 4)]) (.cond (tK 56) (.seq (.ops [oX 6 Ba 4]) .ret) .skip))) (.ops [oM 45 9 3,oB 46 .add 3 (tK 45) (iK 1) 3 3,oA 9 46 3]))
def A4t:SC:= .loop qA
def qB:SC:= .seq (.ops [oB 13 .lss 3 (tK 12) (tK 11) 3 0]) (.seq (.cond (tK 13) .skip (.exit 0)) (.seq (.block 1 (.seq (.ops [oM 14 12 3,oI 15 22 10 12,oL 16 26 15 26,oA 7 14 3,oA 8 16 26]) (.seq (.seq (.ops [oM 17 8 26,oN 18 17 26,oM 19 1 3,oB 20 .neq 3 (tK 18) (tK 19) 3 4,oM 21 20 4,⟨some 22,.move (tK 8),26,(some (some 21,false))⟩,⟨some 23,.move (tK 2),3,(some (some 21,false))⟩,⟨some 24,.binOp .sub 3 (tK 23) (iK 1) 3,3,(some (some 21,false))⟩,⟨some 25,.call ⟨(.value (.func 59)), #[(tK 22),(iK 0),(tK 24)], #[26,3,3]⟩,4,(some (some 21,false))⟩,⟨some 26,.unOp .not 4 (tK 25),4,(some (some 21,false))⟩,oX 27 (.pick (tK 21) Cy (tK 26)) 4,oM 28 27 4,⟨some 29,.move (tK 7),3,(some (some 28,false))⟩,⟨some 30,.binOp .gtr 3 (tK 29) (iK 0) 3,4,(some (some 28,false))⟩,⟨some 31,.move (tK 30),4,(some (some 28,false))⟩,⟨some 32,.move (tK 0),22,(some (some 31,true))⟩,⟨some 33,.move (tK 7),3,(some (some 31,true))⟩,⟨some 34,.binOp .sub 3 (tK 33) (iK 1) 3,3,(some (some 31,true))⟩,⟨some 35,.indexAddr 22 (tK 32) (tK 34),0,(some (some 31,true))⟩,⟨some 36,.load 26 (tK 35),26,(some (some 31,true))⟩,⟨some 37,.move (tK 8),26,(some (some 31,true))⟩,⟨some 38,.call ⟨(.value (.func 121)), #[(tK 36),(tK 37)], #[26,26]⟩,3,(some (some 31,true))⟩,
 ⟨some 39,.binOp .geq 3 (tK 38) (iK 0) 3,4,(some (some 31,true))⟩,⟨some 40,.pick (tK 31) (tK 39) LK,4,(some (some 28,false))⟩,oX 41 (.pick (tK 28) Cy (tK 40)) 4]) (.cond (tK 41) (.seq (.ops [oX 6 Ba 4]) .ret) .skip)) (.seq (.ops [oX 9 (.assign (iK 1)) 3]) (.block 2 A4t))))) (.ops [oB 57 .add 3 (tK 12) (iK 1) 3 3,oM 12 57 3])))
def A4u:SC:= .loop qB
def k90:SC:= .seq (.ops [oX 6 Ba 4]) (.seq (.seq (.ops [oM 10 0 22,oN 11 10 22,oX 12 (.move (iK 0)) 3]) (.block 0 A4u)) (.seq (.ops [oX 6 (.assign Cy) 4]) .ret))
theorem ADq:Tryz.f90.body.map (BP lends)=some k90:=by kernel_rfl
theorem ARQ:BR Tryz.f90 3=true:=by kernel_rfl
theorem c90{a l:List D}{r:D×List D}(h:BS Y.env k90 (fin Aj l.length [bt 6] r) (entry a l))(ha:a.length=3):Y.call 90 a l=some r:=
 AY (Y:=Y) rfl Tryz.func90 (ha▸ARQ) ADq h
def O0(l:AX)(size labels Bb k:Int)(s:St):Prop:=s.v 0=bk 26 (AQ BX l)∧s.v 1=bc .i64 size∧s.v 2=bc .i64 labels∧s.v 8=bk 3 (AQ (bc .i64) (l.getD Bb.toNat be))∧s.v 9=bc .i64 k∧s.v 10=bk 26 (AQ BX l)∧s.v 11=bc .i64 (l.length:Int)∧s.v 12=bc .i64 Bb
def O1(l:AX)(size labels Bb:Int)(r:Unit⊕Unit)(ex:Ex)(s:St):Prop:=match r with
 | .inl q=>ex= .ret∧s.v 6=bp false
 | .inr q=>ex= .exit 2∧s.v 0=bk 26 (AQ BX l)∧s.v 1=bc .i64 size∧s.v 2=bc .i64 labels∧s.v 10=bk 26 (AQ BX l)∧s.v 11=bc .i64 (l.length:Int)∧s.v 12=bc .i64 Bb
theorem mU(l:AX)(size labels Bb:Int){v:Int}{s:St}{r:Unit⊕Unit}(h:YP l size labels Bb v=some r)(hM:O0 l size labels Bb v s):BS Y.env A4t (O1 l size labels Bb r) s:=by
 unfold YP at h;refine Aw (c:=qA) (fun v=>Pn l size labels Bb v) (fun v s=>O0 l size labels Bb v s) (O1 l size labels Bb) ?_ h hM;clear h hM s v r;intro k s o hM h;unfold Pn at h;unfold O0 at hM;obtain⟨m0,m1,m2,m3,m4,m5,m6,m7⟩:=hM;unfold qA;rcases iS h with⟨e15,h⟩|⟨e15,h⟩
 ·obtain⟨e16,e17,h⟩:=Dr h;rcases iS h with⟨e18,h⟩|⟨e18,h⟩
  ·cases h;simp only [↓AJ,AL,↓reduceIte,bj,bh,m1,m3,m4,e15,e16.1,e16.2,e17.1,e17.2,e18,O0,O1,QC]
  ·cases h;simp only [↓AJ,AL,↓reduceIte,bj,bh,m0,m1,m2,m3,m4,m5,m6,m7,e15,e16.1,e16.2,e17.1,e17.2,e18,O0,Cx]
 ·cases h;simp only [↓AJ,AL,↓reduceIte,bj,bh,m0,m1,m2,m4,m5,m6,m7,e15,O0,O1,Gf]
def Iy(l:AX)(size labels Bb:Int)(s:St):Prop:=s.v 0=bk 26 (AQ BX l)∧s.v 1=bc .i64 size∧s.v 2=bc .i64 labels∧s.v 10=bk 26 (AQ BX l)∧s.v 11=bc .i64 (l.length:Int)∧s.v 12=bc .i64 Bb
def La(l:AX)(size labels:Int)(r:Unit⊕Unit)(ex:Ex)(s:St):Prop:=match r with
 | .inl q=>ex= .ret∧s.v 6=bp false
 | .inr q=>ex= .exit 0
theorem A2Q(l:AX)(size labels:Int){v:Int}{s:St}{r:Unit⊕Unit}(h:pz l size labels v=some r)(hM:Iy l size labels v s):BS Y.env A4u (La l size labels r) s:=by
 unfold pz at h;refine Aw (c:=qB) (fun v=>RP l size labels v) (fun v s=>Iy l size labels v s) (La l size labels) ?_ h hM;clear h hM s v r;intro Bb s o hM h;unfold RP at h;unfold Iy at hM;obtain⟨m0,m1,m2,m3,m4,m5⟩:=hM;unfold qB;rcases iS h with⟨e1,h⟩|⟨e1,h⟩
 ·obtain⟨e2,h⟩:=Cu h;rcases iS h with⟨e3,h⟩|⟨e3,h⟩
  ·obtain⟨e4,h⟩:=Cu h;have c5:=eU (l.getD Bb.toNat be) (0:Int) (bm.wrap (labels-1)) e4;rcases iS h with⟨e6,h⟩|⟨e6,h⟩
   ·rcases iS h with⟨e7,h⟩|⟨e7,h⟩
    ·obtain⟨e8,e9,e10,e11,h⟩:=A26 h;obtain⟨e12,h⟩:=Cu h;have c13:=pg (l.getD ((bm.wrap (Bb-1)).toNat) be) (l.getD Bb.toNat be) e9 e10 e11 e12;rcases iS h with⟨e14,h⟩|⟨e14,h⟩
     ·cases h;simp only [↓AJ,AL,↓reduceIte,bj,bh,m0,m1,m2,m3,m4,m5,e1,e2.1,e2.2,decide_eq_true e3,c5,e6,e7,e8.1,e8.2,c13,e14,Iy,La,QC]
     ·obtain⟨AU,hl16,h⟩:=Ag h;try dsimp only at h
      simp only [↓AJ,AL,↓reduceIte,bj,bh,m0,m1,m2,m3,m4,m5,e1,e2.1,e2.2,decide_eq_true e3,c5,e6,e7,e8.1,e8.2,c13,e14];refine Al (mU l size labels Bb hl16 ?_) ?_
      ·simp only [BK,↓reduceIte,bj,m0,m1,m2,m3,m4,m5,O0]
      ·intro ex16 s16 hX16;rcases AU with q1000_|q1000_
       ·unfold O1 at hX16;dsimp only at hX16 h;obtain⟨rfl,n16_0⟩:=hX16;cases h;simp only [↓AJ,AL,n16_0,Iy,La,QC]
       ·unfold O1 at hX16;dsimp only at hX16 h;obtain⟨rfl,n16_0,n16_1,n16_2,n16_3,n16_4,n16_5⟩:=hX16;cases h;simp only [↓AJ,AL,↓reduceIte,bj,bh,n16_0,n16_1,n16_2,n16_3,n16_4,n16_5,Iy,Cx]
    ·obtain⟨AU,hl9,h⟩:=Ag h;try dsimp only at h
     simp only [↓AJ,AL,↓reduceIte,bj,bh,m1,m2,m3,m4,m5,e1,e2.1,e2.2,decide_eq_true e3,c5,e6,e7];refine Al (mU l size labels Bb hl9 ?_) ?_
     ·simp only [BK,↓reduceIte,bj,m0,m1,m2,m3,m4,m5,O0]
     ·intro ex9 s9 hX9;rcases AU with q1000_|q1000_
      ·unfold O1 at hX9;dsimp only at hX9 h;obtain⟨rfl,n9_0⟩:=hX9;cases h;simp only [↓AJ,AL,n9_0,Iy,La,QC]
      ·unfold O1 at hX9;dsimp only at hX9 h;obtain⟨rfl,n9_0,n9_1,n9_2,n9_3,n9_4,n9_5⟩:=hX9;cases h;simp only [↓AJ,AL,↓reduceIte,bj,bh,n9_0,n9_1,n9_2,n9_3,n9_4,n9_5,Iy,Cx]
   ·have e6f:(FO (l.getD Bb.toNat be) (0:Int) (bm.wrap (labels-1)))=false:=G8.mpr e6;cases h;simp only [↓AJ,AL,↓reduceIte,bj,bh,m1,m2,m3,m4,m5,e1,e2.1,e2.2,decide_eq_true e3,c5,e6f,Iy,La,QC]
  ·cases h;simp only [↓AJ,AL,↓reduceIte,bj,bh,m1,m3,m4,m5,e1,e2.1,e2.2,e3,Iy,La,QC]
 ·cases h;simp only [↓AJ,AL,↓reduceIte,bh,m4,m5,e1,Iy,La,Gf]
theorem A4v(l:AX)(size labels:Int){r:Bool}(h:sPL l size labels=some r):Y.call 90 [bk 26 (AQ BX l),bc .i64 size,bc .i64 labels] []=some (bp r,[]):=by
 refine c90 ?_ rfl;unfold k90;unfold sPL at h;obtain⟨Au,hl2,h⟩:=Ag h;try dsimp only at h
 simp only [↓AJ,AL,↓reduceIte,bj,bh];refine Al (A2Q l size labels hl2 ?_) ?_
 ·simp only [BK,Cg,↓reduceIte,bj,bh,Iy]
 ·intro ex2 s2 hX2;rcases Au with q1001_|q1001_
  ·unfold La at hX2;dsimp only at hX2 h;obtain⟨rfl,n2_0⟩:=hX2;cases h;simp only [↓AJ,AL,↓reduceIte,n2_0]
  ·unfold La at hX2;dsimp only at hX2 h
   obtain rfl:=hX2
   cases h;simp only [↓AJ,AL,↓reduceIte,bj,bh]
theorem kF(l:AX)(size labels t:Int)(x:AO)(hx:l.getD t.toNat be=x)(hs:(x.length:Int)=size)(hb:x.length<1099511627776):
  YP l size labels t 1=some (if GK x=true then .inr ()else .inl ()):=by
 unfold YP;rcases Nat.eq_zero_or_pos x.length with h0|h0
 ·rw [E8 (r:=bl ())]
  ·simp [GK,h0]
  ·simp only [Pn];rw [if_neg (by omega)]
 ·have key:=E9 (fun v=>Pn l size labels t v) (fun j=>(j:Int)+1) (x.length-1) (fun i=>decide (x.getD i be≤x.getD (i+1) be)) (.inl ()) (.inr ()) ?_ ?_
  ·simp only [EW,Int.zero_add]at key;rw [key];rfl
  ·intro i hi;simp only [Pn];rw [hx,if_pos (by omega),GG _ (by omega),GG _ (by omega),BC (by omega),BC (by omega),show((i:Int)+1).toNat=i+1 by omega,show((i:Int)+1-1).toNat=i by omega]
   simp only [decide_eq_true_eq];by_cases hq:x.getD (i+1) be<x.getD i be
   ·rw [if_pos hq,if_neg (by omega)]
   ·rw [if_neg hq,if_pos (by omega)];rfl
  ·simp only [Pn];rw [if_neg (by omega)]
theorem ADr(l:AX)(size labels:Int)(h:BQ l)(hl:1≤labels∧labels≤8):sPL l size labels=some (MF l size labels):=by
 have h1:=h.1;unfold sPL pz;have key:=wG (fun v=>RP l size labels v) (fun i=>(i:Int)) l.length (Qn l size labels) (.inl ()) (.inr ()) ?_ ?_
 ·simp only [EW]at key;rw [key];unfold MF
  cases (ao l.length).all (Qn l size labels)<;>rfl
 ·intro i hi hp;simp only [RP];rw [if_pos (BU hi),BC (DY hi),Gc i (by omega),GG (labels-1) (by omega)]
  have hs:=h.getD i;have hs1:=h.getD (i-1);rw [Cq,BC hs];by_cases q1:((l.getD i be).length:Int)=size
  ·rw [if_pos q1];have inner:=kF l size labels (i:Int) (l.getD i be) (by rw [Cq]) q1 hs
   rw [inner];have hprev:=hp (i-1);unfold Qn at hprev ⊢;generalize l.getD i be=x at*
   cases q3:FO x 0 (labels-1)with
   |false=>simp
   |true=>
    rw [if_pos rfl];by_cases q4:i=0
    ·rw [if_neg (by omega)]
     cases q2:GK x<;>simp [q1,q4]
    ·rw [if_pos (by omega),GG _ (by omega),BC (by omega),show((i:Int)-1).toNat=i-1 by omega,BC hs1]
     have hprev:=hprev (by omega)
     generalize l.getD (i-1) be=y at*;simp only [El,decide_eq_true_eq]at hprev;rw [BC (by omega),BC (mR hprev.1.2 (by omega) (by omega)),BC (mR q3 (by omega) (by omega))]
     by_cases q5:0≤IM y x
     ·rw [if_pos q5,if_neg (by simp;intro _ _;exact⟨q4,q5⟩)]
     ·rw [if_neg q5];have q6:IM y x<0:=by omega
      cases q2:GK x<;>simp [q1,q6]
  ·have e:=decide_eq_false q1;unfold Qn;rw [if_neg q1,if_neg (by rw [e];simp)]
 ·intro _;simp only [RP];rw [if_neg (Am _)]
theorem A4w(l:AX)(size labels:Int)(h0:BQ l)(h1:1≤labels∧labels≤8):Y.call 90 [bk 26 (AQ BX l),bc .i64 size,bc .i64 labels] []=some (bp (MF l size labels),[]):=A4v l size labels (ADr l size labels h0 h1)
def QV(pL pD:Int)(pN pE:AX):Option (Bool):= if(Jz pL (1:Int) (8:Int))=true then if(Jz pD (1:Int) (4:Int))=true then ck (BQ pN)<| ck (1≤pL∧pL≤8)<| if(MF pN pD pL)=true then ck (BQ pE)<| some (MF pE (2:Int) pL) else some false else some false else some false
def k39:SC:= .seq (.ops [oX 1 (.box 34 (tK 0)) 0,oX 2 Ba 4]) (.seq (.ops [oF 3 34 1 0,oL 4 3 3 3,oC 5 64 [(tK 4),(iK 1),(iK 8)] [3,3,3] 4,oM 6 5 4,⟨some 7,.fieldAddr 34 (tK 1) 1,0,(some (some 6,true))⟩,⟨some 8,.load 3 (tK 7),3,(some (some 6,true))⟩,⟨some 9,.call ⟨(.value (.func 64)), #[(tK 8),(iK 1),(iK 4)], #[3,3,3]⟩,4,(some (some 6,true))⟩,oX 10 (.pick (tK 6) (tK 9) LK) 4,oM 11 10 4,⟨some 12,.fieldAddr 34 (tK 1) 2,0,(some (some 11,true))⟩,⟨some 13,.load 22 (tK 12),22,(some (some 11,true))⟩,⟨some 14,.fieldAddr 34 (tK 1) 1,0,(some (some 11,true))⟩,⟨some 15,.load 3 (tK 14),3,(some (some 11,true))⟩,⟨some 16,.fieldAddr 34 (tK 1) 0,0,(some (some 11,true))⟩,⟨some 17,.load 3 (tK 16),3,(some (some 11,true))⟩,⟨some 18,.call ⟨(.value (.func 65)), #[(tK 13),(tK 15),(tK 17)], #[22,3,3]⟩,4,(some (some 11,true))⟩,oX 19 (.pick (tK 11) (tK 18) LK) 4,oM 20 19 4,⟨some 21,.fieldAddr 34 (tK 1) 3,0,(some (some 20,true))⟩,⟨some 22,.load 22 (tK 21),22,(some (some 20,true))⟩,⟨some 23,.fieldAddr 34 (tK 1) 0,0,(some (some 20,true))⟩,⟨some 24,.load 3 (tK 23),3,(some (some 20,true))⟩,⟨some 25,.call ⟨(.value (.func 65)), #[(tK 22),(iK 2),(tK 24)], #[22,3,3]⟩,4,(some (some 20,true))⟩,
 oX 26 (.pick (tK 20) (tK 25) LK) 4,oA 2 26 4]) .ret)
theorem ADs:Tryz.f39.body.map (BP lends)=some k39:=by kernel_rfl
theorem ARS:BR Tryz.f39 1=true:=by kernel_rfl
theorem c39{a l:List D}{r:D×List D}(h:BS Y.env k39 (fin Aj l.length [bt 2] r) (entry a l))(ha:a.length=1):Y.call 39 a l=some r:=
 AY (Y:=Y) rfl Tryz.func39 (ha▸ARS) ADs h
theorem YQ(pL pD:Int)(pN pE:AX){r:Bool}(h:QV pL pD pN pE=some r):Y.call 39 [bw [bc .i64 pL,bc .i64 pD,bk 26 (AQ BX pN),bk 26 (AQ BX pE)]] []=some (bp r,[]):=by
 refine c39 ?_ rfl;unfold k39;unfold QV at h;have c1:=KA pL (1:Int) (8:Int);rcases iS h with⟨e2,h⟩|⟨e2,h⟩
 ·have c3:=KA pD (1:Int) (4:Int);rcases iS h with⟨e4,h⟩|⟨e4,h⟩
  ·obtain⟨e5,e6,h⟩:=Dr h;have c7:=A4s pN pD pL e5 e6;rcases iS h with⟨e8,h⟩|⟨e8,h⟩
   ·obtain⟨e9,h⟩:=Cu h;have Uq:=A4s pE (2:Int) pL e9 e6;cases h;simp only [↓AJ,AL,↓reduceIte,bj,bh,c1,e2,c3,e4,c7,e8,Uq]
   ·have e8f:(MF pN pD pL)=false:=G8.mpr e8;cases h;simp only [↓AJ,AL,↓reduceIte,bj,bh,c1,e2,c3,e4,c7,e8f]
  ·have e4f:(Jz pD (1:Int) (4:Int))=false:=G8.mpr e4;cases h;simp only [↓AJ,AL,↓reduceIte,bj,bh,c1,e2,c3,e4f]
 ·have e2f:(Jz pL (1:Int) (8:Int))=false:=G8.mpr e2;cases h;simp only [↓AJ,AL,↓reduceIte,bj,bh,c1,e2f]
def X4(pL pD:Int)(pN pE:AX):Option (Bool):= if(Jz pL (1:Int) (8:Int))=true then if(Jz pD (1:Int) (4:Int))=true then ck (BQ pN)<| ck (1≤pL∧pL≤8)<| if(MF pN pD pL)=true then ck (BQ pE)<| some (MF pE (2:Int) pL) else some false else some false else some false
def k57:SC:= .seq (.ops [oX 1 (.box 34 (tK 0)) 0,oX 2 Ba 4]) (.seq (.ops [oF 3 34 1 0,oL 4 3 3 3,oC 5 82 [(tK 4),(iK 1),(iK 8)] [3,3,3] 4,oM 6 5 4,⟨some 7,.fieldAddr 34 (tK 1) 1,0,(some (some 6,true))⟩,⟨some 8,.load 3 (tK 7),3,(some (some 6,true))⟩,⟨some 9,.call ⟨(.value (.func 82)), #[(tK 8),(iK 1),(iK 4)], #[3,3,3]⟩,4,(some (some 6,true))⟩,oX 10 (.pick (tK 6) (tK 9) LK) 4,oM 11 10 4,⟨some 12,.fieldAddr 34 (tK 1) 2,0,(some (some 11,true))⟩,⟨some 13,.load 22 (tK 12),22,(some (some 11,true))⟩,⟨some 14,.fieldAddr 34 (tK 1) 1,0,(some (some 11,true))⟩,⟨some 15,.load 3 (tK 14),3,(some (some 11,true))⟩,⟨some 16,.fieldAddr 34 (tK 1) 0,0,(some (some 11,true))⟩,⟨some 17,.load 3 (tK 16),3,(some (some 11,true))⟩,⟨some 18,.call ⟨(.value (.func 90)), #[(tK 13),(tK 15),(tK 17)], #[22,3,3]⟩,4,(some (some 11,true))⟩,oX 19 (.pick (tK 11) (tK 18) LK) 4,oM 20 19 4,⟨some 21,.fieldAddr 34 (tK 1) 3,0,(some (some 20,true))⟩,⟨some 22,.load 22 (tK 21),22,(some (some 20,true))⟩,⟨some 23,.fieldAddr 34 (tK 1) 0,0,(some (some 20,true))⟩,⟨some 24,.load 3 (tK 23),3,(some (some 20,true))⟩,⟨some 25,.call ⟨(.value (.func 90)), #[(tK 22),(iK 2),(tK 24)], #[22,3,3]⟩,4,(some (some 20,true))⟩,
 oX 26 (.pick (tK 20) (tK 25) LK) 4,oA 2 26 4]) .ret)
theorem ADt:Tryz.f57.body.map (BP lends)=some k57:=by kernel_rfl
theorem ARV:BR Tryz.f57 1=true:=by kernel_rfl
theorem c57{a l:List D}{r:D×List D}(h:BS Y.env k57 (fin Aj l.length [bt 2] r) (entry a l))(ha:a.length=1):Y.call 57 a l=some r:=
 AY (Y:=Y) rfl Tryz.func57 (ha▸ARV) ADt h
theorem kG(pL pD:Int)(pN pE:AX){r:Bool}(h:X4 pL pD pN pE=some r):Y.call 57 [bw [bc .i64 pL,bc .i64 pD,bk 26 (AQ BX pN),bk 26 (AQ BX pE)]] []=some (bp r,[]):=by
 refine c57 ?_ rfl;unfold k57;unfold X4 at h;have c1:=JH pL (1:Int) (8:Int);rcases iS h with⟨e2,h⟩|⟨e2,h⟩
 ·have c3:=JH pD (1:Int) (4:Int);rcases iS h with⟨e4,h⟩|⟨e4,h⟩
  ·obtain⟨e5,e6,h⟩:=Dr h;have c7:=A4w pN pD pL e5 e6;rcases iS h with⟨e8,h⟩|⟨e8,h⟩
   ·obtain⟨e9,h⟩:=Cu h;have Uq:=A4w pE (2:Int) pL e9 e6;cases h;simp only [↓AJ,AL,↓reduceIte,bj,bh,c1,e2,c3,e4,c7,e8,Uq]
   ·have e8f:(MF pN pD pL)=false:=G8.mpr e8;cases h;simp only [↓AJ,AL,↓reduceIte,bj,bh,c1,e2,c3,e4,c7,e8f]
  ·have e4f:(Jz pD (1:Int) (4:Int))=false:=G8.mpr e4;cases h;simp only [↓AJ,AL,↓reduceIte,bj,bh,c1,e2,c3,e4f]
 ·have e2f:(Jz pL (1:Int) (8:Int))=false:=G8.mpr e2;cases h;simp only [↓AJ,AL,↓reduceIte,bj,bh,c1,e2f]
theorem fB(a b:Int)(n e:AX)(hn:BQ n)(he:BQ e):QV a b n e=some (M7 a b n e):=by
 unfold QV M7;by_cases h1:Jz a 1 8=true
 ·have h1':=EA.1 h1;by_cases h2:Jz b 1 4=true
  ·rw [if_pos h1,if_pos h2,BC hn,BC h1',BC he]
   cases h3:MF n b a<;>simp [h1,h2]
  ·rw [if_pos h1,if_neg h2];simp [h2]
 ·rw [if_neg h1];simp [h1]
theorem wU(a b:Int)(n e:AX)(hn:BQ n)(he:BQ e):X4 a b n e=some (M7 a b n e):=by
 unfold X4 M7;by_cases h1:Jz a 1 8=true
 ·have h1':=EA.1 h1;by_cases h2:Jz b 1 4=true
  ·rw [if_pos h1,if_pos h2,BC hn,BC h1',BC he]
   cases h3:MF n b a<;>simp [h1,h2]
  ·rw [if_pos h1,if_neg h2];simp [h2]
 ·rw [if_neg h1];simp [h1]
theorem fC(pL pD:Int)(pN pE:AX)(h0:BQ pN)(h1:BQ pE):Y.call 39 [bw [bc .i64 pL,bc .i64 pD,bk 26 (AQ BX pN),bk 26 (AQ BX pE)]] []=some (bp (M7 pL pD pN pE),[]):=YQ pL pD pN pE (fB pL pD pN pE h0 h1)
theorem wV(pL pD:Int)(pN pE:AX)(h0:BQ pN)(h1:BQ pE):Y.call 57 [bw [bc .i64 pL,bc .i64 pD,bk 26 (AQ BX pN),bk 26 (AQ BX pE)]] []=some (bp (M7 pL pD pN pE),[]):=kG pL pD pN pE (wU pL pD pN pE h0 h1)
def KZ(l:AO):Option (AO):= ck (0+l.length<1099511627776)<| some l
def k92:SC:= .seq (.ops [oX 2 Gv 26]) (.seq (.ops [oX 3 (.buildSlice 26 0 #[]) 26,oM 4 0 26,oX 5 (.call ⟨(.builtin .append), #[(tK 3),(tK 4)], #[26,26]⟩) 26,oA 2 5 26]) .ret)
theorem ADu:Tryz.f92.body.map (BP lends)=some k92:=by kernel_rfl
theorem ARX:BR Tryz.f92 1=true:=by kernel_rfl
theorem c92{a l:List D}{r:D×List D}(h:BS Y.env k92 (fin Aj l.length [bt 2] r) (entry a l))(ha:a.length=1):Y.call 92 a l=some r:=
 AY (Y:=Y) rfl Tryz.func92 (ha▸ARX) ADu h
theorem IZ(l:AO){r:AO}(h:KZ l=some r):Y.call 92 [bk 3 (AQ (bc .i64) l)] []=some (br 3 (AQ (bc .i64) r),[]):=by
 refine c92 ?_ rfl;unfold k92;unfold KZ at h;obtain⟨e1,h⟩:=Cu h;cases h;simp (maxDischargeDepth:=9) only [↓AJ,AL,↓reduceIte,bj,bh,b5,e1]
def kH(x:Int):AO→AO
 | []=>[x]
 |y::r=>if x<y then y::kH x r else x::y::r
def Hm(l:AO):AO:=(l.foldl (fun r x=>kH x r) []).reverse
theorem wrU(n:Int)(h:0≤n∧n<18446744073709551616):bO.wrap n=n:=by
 unfold IntKind.wrap;simp only [IntKind.signed,IntKind.bits]
 simp
 omega
theorem mV(x:Int): ∀r,(kH x r).Perm (x::r):=by
 intro r
 induction r with
 |nil=>exact List.Perm.refl _
 |cons y r ih=>
  unfold kH;split
  ·exact((List.perm_cons y).2 ih).trans (List.Perm.swap x y r)
  ·exact List.Perm.refl _
theorem A2R(x:Int): ∀r,r.Pairwise (fun a b=>b≤a)→(kH x r).Pairwise (fun a b=>b≤a):=by
 intro r
 induction r with
 |nil=>intro _;simp [kH]
 |cons y r ih=>
  intro h;obtain⟨h1,h2⟩:=b6.1 h;unfold kH;split
  ·rename_i hxy
   refine b6.2 ⟨fun z hz=> ?_,ih h2⟩;rcases Rw.1 ((mV x r).mem_iff.1 hz)with rfl|hz
   ·omega
   ·exact h1 z hz
  ·rename_i hxy
   refine b6.2 ⟨fun z hz=> ?_,h⟩;rcases Rw.1 hz with rfl|hz
   ·omega
   ·have:=h1 z hz;omega
theorem zR: ∀(l r:AO),(l.foldl (fun r x=>kH x r) r).Perm (l++r):=by
 intro l
 induction l with
 |nil=>intro r;exact List.Perm.refl _
 |cons x l ih=>
  intro r;simp only [VS]
  exact(ih _).trans (((List.Perm.refl l).append (mV x r)).trans List.perm_middle)
theorem zS: ∀(l r:AO),r.Pairwise (fun a b=>b≤a)→(l.foldl (fun r x=>kH x r) r).Pairwise (fun a b=>b≤a):=by
 intro l
 induction l with
 |nil=>intro r h;exact h
 |cons x l ih=>intro r h;exact ih _ (A2R x r h)
theorem M8(l:AO):(Hm l).Perm l:=by
 unfold Hm;have:=zR l []
 rw [TI]at this
 exact(List.reverse_perm _).trans this
theorem SY(l:AO):(Hm l).Pairwise (fun a b=>a≤b):=by
 unfold Hm;exact List.pairwise_reverse.2 (zS l [] List.Pairwise.nil)
theorem wW(l:AO):LH l=Hm l:=by
 refine List.Perm.eq_of_pairwise (le:=fun a b:Int=>a≤b) (fun a b _ _ h1 h2=>Int.le_antisymm h1 h2) ?_ (SY l) ((List.mergeSort_perm _ _).trans (M8 l).symm);have:=List.pairwise_mergeSort (le:=fun x y:Int=>decide (x≤y)) (fun a b c h1 h2=>by simp only [decide_eq_true_eq]at*;omega) (fun a b=>by simp only [TW,decide_eq_true_eq];omega) l
 unfold LH;exact this.imp (fun h=>by simpa using h)
theorem mW(l:AO):(Hm l).length=l.length:=(M8 l).length_eq
theorem A2S(a b:Int):Hm [a,b]=if b<a then [b,a]else [a,b]:=by
 unfold Hm;simp only [VS,List.foldl_nil,kH];by_cases h:b<a<;>simp [h]
theorem Ur: ∀a:AO,IM a a=0:=by
 intro a
 induction a with
 |nil=>rfl
 |cons x a ih=>unfold IM;rw [if_pos rfl,ih]
theorem A7d: ∀(a b:AO),IM a b=0→a=b:=by
 intro a
 induction a with
 |nil=>intro b h;cases b with
  |nil=>rfl
  |cons y b=>simp [IM]at h
 |cons x a ih=>intro b h;cases b with
  |nil=>simp [IM]at h
  |cons y b=>
   unfold IM at h
   split at h
   ·rename_i e;rw [e,ih b h]
   ·split at h<;>simp at h
theorem Vk: ∀(a b c:AO),IM a b<0→IM b c<0→IM a c<0:=by
 intro a
 induction a with
 |nil=>intro b c h1 h2;cases c with
  |nil=>cases b with
   |nil=>simp [IM]at h1
   |cons y b=>simp [IM]at h2
  |cons z c=>simp [IM]
 |cons x a ih=>intro b c h1 h2;cases b with
  |nil=>simp [IM]at h1
  |cons y b=>cases c with
   |nil=>simp [IM]at h2
   |cons z c=>
    unfold IM at h1 h2 ⊢;by_cases e1:x=y
    ·subst e1;rw [if_pos rfl]at h1;by_cases e2:x=z
     ·subst e2;rw [if_pos rfl]at h2 ⊢;exact ih b c h1 h2
     ·rw [if_neg e2]at h2 ⊢;exact h2
    ·rw [if_neg e1]at h1
     have l1:x<y:=by
      by_cases hl:x<y
      ·exact hl
      ·rw [if_neg hl]at h1;omega
     by_cases e2:y=z
     ·subst e2;rw [if_neg e1,if_pos l1];decide
     ·rw [if_neg e2]at h2
      have l2:y<z:=by
       by_cases hl:y<z
       ·exact hl
       ·rw [if_neg hl]at h2;omega
      rw [if_neg (by omega),if_pos (by omega)];decide
def TK(l:AX):Bool:=(ao l.length).all fun i=>decide (i=0)||decide (IM (l.getD (i-1) be) (l.getD i be)<0)
theorem A7e{l:AX}(h:TK l=true): ∀(d i:Nat),i+d+1<l.length→IM (l.getD i be) (l.getD (i+d+1) be)<0:=by
 have step: ∀i,i+1<l.length→IM (l.getD i be) (l.getD (i+1) be)<0:=fun i hi=>by
  have:=Ch.1 h (i+1) hi
  simpa using this
 intro d
 induction d with
 |zero=>intro i hi;exact step i hi
 |succ d ih=>
  intro i hi;exact Vk _ _ _ (ih i (by omega)) (step (i+d+1) (by omega))
theorem X5{l:AX}(h:TK l=true){i j:Nat}(hij:i<j)(hj:j<l.length):IM (l.getD i be) (l.getD j be)<0:=by
 have:=A7e h (j-i-1) i (by omega)
 rwa [show i+(j-i-1)+1=j by omega]at this
theorem mX{l:AX}{s n:Int}(h:MF l s n=true):TK l=true:=by
 refine Ch.2 fun i hi=> ?_;have:=Ch.1 h i hi
 unfold Qn at this;rw [El]at this;exact this.2
theorem fD{l:AX}{x:AO}:x∈l↔ ∃k,k<l.length∧l.getD k be=x:=by
 constructor
 ·intro h;obtain⟨k,hk,e⟩:=V4 h
  exact⟨k,hk,by rw [LQ,KP hk];exact e⟩
 ·rintro⟨k,hk,rfl⟩
  rw [LQ,KP hk];exact NA hk
def EB(s_:AO):Option (AO):= some s_
def ADv:SC:= .seq (.ops [oX 1 (.box 26 (tK 0)) 0,oX 2 (.assign (.const .nilFunc)) 142]) (.seq (.ops [oX 3 (.makeFunc (Fn.func 156) #[] #[(tK 1)]) 141,oA 2 3 142]) .ret)
theorem A7f:Tryz.f138.body.map (BP lends)=some ADv:=by kernel_rfl
theorem ALl:BR Tryz.f138 1=true:=by kernel_rfl
theorem ARY{a l:List D}{r:D×List D}(h:BS Y.env ADv (fin Aj l.length [bt 2] r) (entry a l))(ha:a.length=1):Y.call 138 a l=some r:=
 AY (Y:=Y) rfl Tryz.func138 (ha▸ALl) A7f h
theorem O3(s_:AO){r:AO}(h:EB s_=some r):Y.call 138 [bk 3 (AQ (bc .i64) s_)] []=some (D.clo 156 [D.cptr [bk 3 (AQ (bc .i64) r)]],[]):=by
 refine ARY ?_ rfl;unfold ADv;unfold EB at h;cases h;simp only [↓AJ,AL,↓reduceIte,bj,bh]
def UF(x_:AX)(target:AO)(cmp:AO→AO→Option Int)(i j:Int):Option ((Int×Int)⊕(Int)):= if i<j then ck (0≤bm.wrap ((bO.wrap (bm.wrap (i+j))).fdiv (2 ^ (min 1 (bO.bits))))∧(bm.wrap ((bO.wrap (bm.wrap (i+j))).fdiv (2 ^ (min 1 (bO.bits))))).toNat<x_.length)<| (cmp (x_.getD ((bm.wrap ((bO.wrap (bm.wrap (i+j))).fdiv (2 ^ (min 1 (bO.bits))))).toNat) be) target).bind fun A2T=> if A2T<0 then some (bo (bm.wrap ((bm.wrap ((bO.wrap (bm.wrap (i+j))).fdiv (2 ^ (min 1 (bO.bits)))))+1),j)) else some (bo (i,bm.wrap ((bO.wrap (bm.wrap (i+j))).fdiv (2 ^ (min 1 (bO.bits)))))) else some (bl i)
def qC(x_:AX)(target:AO)(cmp:AO→AO→Option Int)(v:Int×Int):Option (Int):=Dq (fun v=>UF x_ target cmp v.1 v.2) v
def gBS(x_:AX)(target:AO)(cmp:AO→AO→Option Int):Option (Int×Bool):= (qC x_ target cmp (0,(x_.length:Int))).bind fun AU=> if AU<(x_.length:Int)then ck (0≤AU∧AU.toNat<x_.length)<| (cmp (x_.getD AU.toNat be) target).bind fun ALn=> some (AU,(decide (ALn=0))) else some (AU,false)
def fF:SC:= .seq (.seq (.ops [oM 15 9 3,oM 16 10 3,oB 17 .lss 3 (tK 15) (tK 16) 3 4]) (.cond (tK 17) .skip (.exit 0))) (.block 1 (.seq (.ops [oM 18 9 3,oM 19 10 3,oB 20 .add 3 (tK 18) (tK 19) 3 3,oX 21 (.convert 3 82 (tK 20)) 82,oB 22 .shr 82 (tK 21) (.const (.int .u64 1)) 82 82,oX 23 (.convert 82 3 (tK 22)) 3,oA 11 23 3]) (.seq (.ops [oM 24 2 112,oM 25 0 22,oM 26 11 3,oI 27 22 25 26,oL 28 26 27 26,oM 29 1 26,oX 30 (.call ⟨(.value (tK 24)), #[(tK 28),(tK 29)], #[26,26]⟩) 3,oB 31 .lss 3 (tK 30) (iK 0) 3 4]) (.cond (tK 31) (.ops [oM 32 11 3,oB 33 .add 3 (tK 32) (iK 1) 3 3,oA 9 33 3]) (.ops [oM 34 11 3,oA 10 34 3])))))
def A0d:SC:= .loop fF
def ADw:SC:= .seq (.ops [oX 6 (.assign (iK 0)) 3,oX 7 Ba 4]) (.seq (.ops [oM 12 0 22,oN 13 12 22,oA 8 13 3]) (.seq (.ops [oM 14 8 3,oX 9 (.assign (iK 0)) 3,oA 10 14 3]) (.seq (.block 0 A0d) (.seq (.ops [oM 35 9 3,oM 36 9 3,oM 37 8 3,oB 38 .lss 3 (tK 36) (tK 37) 3 4,oM 39 38 4,⟨some 40,.move (tK 2),112,(some (some 39,true))⟩,⟨some 41,.move (tK 0),22,(some (some 39,true))⟩,⟨some 42,.move (tK 9),3,(some (some 39,true))⟩,⟨some 43,.indexAddr 22 (tK 41) (tK 42),0,(some (some 39,true))⟩,⟨some 44,.load 26 (tK 43),26,(some (some 39,true))⟩,⟨some 45,.move (tK 1),26,(some (some 39,true))⟩,⟨some 46,.call ⟨(.value (tK 40)), #[(tK 44),(tK 45)], #[26,26]⟩,3,(some (some 39,true))⟩,⟨some 47,.binOp .eql 3 (tK 46) (iK 0) 3,4,(some (some 39,true))⟩,oX 48 (.pick (tK 39) (tK 47) LK) 4,oA 6 35 3,oA 7 48 4]) .ret))))
theorem A7g:Tryz.f136.body.map (BP lends)=some ADw:=by kernel_rfl
theorem ALo:BR Tryz.f136 3=true:=by kernel_rfl
theorem ARZ{a l:List D}{r:D×List D}(h:BS Y.env ADw (fin Aj l.length [bt 6,bt 7] r) (entry a l))(ha:a.length=3):Y.call 136 a l=some r:=
 AY (Y:=Y) rfl Tryz.func136 (ha▸ALo) A7g h
def Po(x_:AX)(target:AO)(cmp:AO→AO→Option Int)(cmp_f:an)(cmp_c:List D)(i j:Int)(s:St):Prop:=s.v 0=bk 26 (AQ BX x_)∧s.v 1=bk 3 (AQ (bc .i64) target)∧s.v 2=D.clo cmp_f cmp_c∧s.v 8=bc .i64 (x_.length:Int)∧s.v 9=bc .i64 i∧s.v 10=bc .i64 j
def X6(x_:AX)(target:AO)(cmp:AO→AO→Option Int)(cmp_f:an)(cmp_c:List D)(r:Int)(ex:Ex)(s:St):Prop:=ex= .exit 0∧s.v 0=bk 26 (AQ BX x_)∧s.v 1=bk 3 (AQ (bc .i64) target)∧s.v 2=D.clo cmp_f cmp_c∧s.v 8=bc .i64 (x_.length:Int)∧s.v 9=bc .i64 r
theorem A2U(x_:AX)(target:AO)(cmp:AO→AO→Option Int)(cmp_f:an)(cmp_c:List D)(cmp_h: ∀(a0 a1:AO) (r:Int),cmp a0 a1=some r→Y.call cmp_f (bk 3 (AQ (bc .i64) a0)::bk 3 (AQ (bc .i64) a1)::cmp_c) []=some (bc .i64 r,[]))(cmp_l:lends cmp_f=false){v:Int×Int}{s:St}{r:Int}(h:qC x_ target cmp v=some r)(hM:Po x_ target cmp cmp_f cmp_c v.1 v.2 s):BS Y.env A0d (X6 x_ target cmp cmp_f cmp_c r) s:=by
 unfold qC at h;refine Aw (c:=fF) (fun v=>UF x_ target cmp v.1 v.2) (fun v s=>Po x_ target cmp cmp_f cmp_c v.1 v.2 s) (X6 x_ target cmp cmp_f cmp_c) ?_ h hM;clear h hM s v r;intro v s o hM h;obtain⟨i,j⟩:=v;dsimp only at h hM;unfold UF at h;unfold Po at hM;obtain⟨m0,m1,m2,m3,m4,m5⟩:=hM;unfold fF;rcases iS h with⟨e1,h⟩|⟨e1,h⟩
 ·obtain⟨e2,h⟩:=Cu h;obtain⟨A2T,hl3,h⟩:=Ag h;have c3:=cmp_h _ _ _ hl3;rcases iS h with⟨e4,h⟩|⟨e4,h⟩
  ·cases h;simp only [↓AJ,AL,↓reduceIte,bj,bh,Int.reduceLT,Int.reduceToNat,m0,m1,m2,m3,m4,m5,cmp_l,e1,e2.1,e2.2,c3,e4,Po,Cx]
  ·cases h;simp only [↓AJ,AL,↓reduceIte,bj,bh,Int.reduceLT,Int.reduceToNat,m0,m1,m2,m3,m4,m5,cmp_l,e1,e2.1,e2.2,c3,e4,Po,Cx]
 ·cases h;simp only [↓AJ,AL,↓reduceIte,bj,bh,m0,m1,m2,m3,m4,m5,e1,Po,X6,Gf]
theorem A4x(x_:AX)(target:AO)(cmp:AO→AO→Option Int)(cmp_f:an)(cmp_c:List D)(cmp_h: ∀(a0 a1:AO) (r:Int),cmp a0 a1=some r→Y.call cmp_f (bk 3 (AQ (bc .i64) a0)::bk 3 (AQ (bc .i64) a1)::cmp_c) []=some (bc .i64 r,[]))(cmp_l:lends cmp_f=false){r:Int×Bool}(h:gBS x_ target cmp=some r):Y.call 136 [bk 26 (AQ BX x_),bk 3 (AQ (bc .i64) target),D.clo cmp_f cmp_c] []=some (D.tup [bc .i64 r.1,bp r.2],[]):=by
 refine ARZ ?_ rfl;unfold ADw;unfold gBS at h;obtain⟨AU,hl2,h⟩:=Ag h;try dsimp only at h
 simp only [↓AJ,AL,↓reduceIte,bj,bh];refine Al (A2U x_ target cmp cmp_f cmp_c cmp_h cmp_l hl2 ?_) ?_
 ·simp only [BK,Cg,↓reduceIte,bj,bh,Po]
 ·intro ex2 s2 hX2;unfold X6 at hX2;obtain⟨rfl,n2_0,n2_1,n2_2,n2_3,n2_4⟩:=hX2;rcases iS h with⟨e3,h⟩|⟨e3,h⟩
  ·obtain⟨e4,h⟩:=Cu h;obtain⟨ALn,hl5,h⟩:=Ag h;try dsimp only at h
   have c5:=cmp_h _ _ _ hl5;cases h;simp only [↓AJ,AL,↓reduceIte,bj,bh,cmp_l,n2_0,n2_1,n2_2,n2_3,n2_4,e3,e4.1,e4.2,c5]
  ·cases h;simp only [↓AJ,AL,↓reduceIte,bj,bh,n2_3,n2_4,e3]
def Ia(list:AX)(labels:AO):Option (Bool):= (EB labels).bind fun Vj=> ck (Vj.length<1099511627776)<| (gBS list (LH Vj) (fun a0 a1=>gCp a0 a1)).bind fun FY=> some FY.2
def ADx:SC:= .seq (.ops [oX 4 Ba 4]) (.seq (.ops [oM 8 0 22,oM 9 1 26,oC 10 138 [(tK 9)] [26] 142,oC 11 137 [(tK 10)] [142] 26,oC 12 136 [(tK 8),(tK 11),(.func 98)] [22,26,112] 54,oM 7 12 54,oE 13 7 0 3,oE 14 7 1 4,oA 5 13 3,oA 6 14 4]) (.seq (.ops [oM 15 6 4,oA 4 15 4]) .ret))
theorem A7h:Tryz.f117.body.map (BP lends)=some ADx:=by kernel_rfl
theorem ALp:BR Tryz.f117 2=true:=by kernel_rfl
theorem ARa{a l:List D}{r:D×List D}(h:BS Y.env ADx (fin Aj l.length [bt 4] r) (entry a l))(ha:a.length=2):Y.call 117 a l=some r:=
 AY (Y:=Y) rfl Tryz.func117 (ha▸ALp) A7h h
theorem RQ(list:AX)(labels:AO){r:Bool}(h:Ia list labels=some r):Y.call 117 [bk 26 (AQ BX list),bk 3 (AQ (bc .i64) labels)] []=some (bp r,[]):=by
 refine ARa ?_ rfl;unfold ADx;unfold Ia at h;obtain⟨Vj,hl1,h⟩:=Ag h;have c1:=O3 labels hl1;obtain⟨e2,h⟩:=Cu h;have c3:=zL Vj e2;obtain⟨FY,hl4,h⟩:=Ag h;try dsimp only at h
 have c4:=A4x list (LH Vj) (fun a0 a1=>gCp a0 a1) 98 [] (fun a0 a1 _ hh=>wR a0 a1 hh) ADG hl4;cases h;simp only [↓AJ,AL,↓reduceIte,bj,bh,c1,c3,c4]
theorem A2V(l:AX)(x:AO)(f:AO→AO→Option Int)(hl:l.length<1099511627776)(hf: ∀i,i<l.length→f (l.getD i be) x=some (IM (l.getD i be) x))(h:TK l=true):
  ∃r,gBS l x f=some (r,l.contains x):=by
 have key:=SL (fun v=>UF l x f v.1 v.2)
  (fun m v=> ∃i j:Nat,v=((i:Int),(j:Int))∧i≤j∧j≤l.length∧m=j-i∧(∀k,k<i→IM (l.getD k be) x<0)∧(∀k,j≤k→k<l.length→ ¬IM (l.getD k be) x<0))
  (fun r=> ∃i:Nat,r=(i:Int)∧i≤l.length∧(∀k,k<i→IM (l.getD k be) x<0)∧(∀k,i≤k→k<l.length→ ¬IM (l.getD k be) x<0)) ?_ l.length (0,(l.length:Int)) ⟨0,l.length,rfl,Nat.zero_le _,Cc _,by omega,fun k hk=>by omega,fun k h1 h2=>by omega⟩
 ·obtain⟨r,h1,i,rfl,hi,h2,h3⟩:=key;unfold gBS qC;rw [h1,CB];by_cases hlt:i<l.length
  ·rw [if_pos (by omega),BC (by omega),Cq,hf i hlt,CB]
   refine⟨(i:Int), ?_⟩
   congr 2
   rw [V7,decide_eq_true_eq,TU,fD]
   constructor
   ·intro e;exact⟨i,hlt,A7d _ _ e⟩
   ·rintro⟨k,hk,rfl⟩
    have k1: ¬k<i:=fun hki=>by have:=h2 k hki;rw [Ur]at this;omega
    have k2: ¬i<k:=fun hik=>h3 i (Cc _) hlt (X5 h hik hk);have:k=i:=by omega
    subst this;exact Ur _
  ·rw [if_neg (by omega)]
   refine⟨(i:Int), ?_⟩
   congr 2
   symm
   rw [G8];intro hc;obtain⟨k,hk,rfl⟩:=fD.1 (TU.1 hc);have:=h2 k (by omega)
   rw [Ur]at this;omega
 ·rintro m v ⟨i,j,rfl,hij,hj,rfl,h2,h3⟩
  simp only [UF];by_cases hlt:i<j
  ·have e1:(2:Int) ^ (min 1 (bO.bits))=2:=by decide
   have e2:(((i:Int)+(j:Int)).fdiv 2)=(((i+j) / 2:Nat):Int):=by
    rw [A33 _ (by omega)];omega
   rw [if_pos (by omega),GG ((i:Int)+j) (by omega),wrU _ (by omega),e1,e2,GG _ (by omega),BC (by omega),Cq,hf _ (by omega),CB]
   left
   by_cases hc:IM (l.getD ((i+j) / 2) be) x<0
   ·rw [if_pos hc,GG _ (by omega)]
    refine⟨_,j-((i+j) / 2+1),rfl,by omega,(i+j) / 2+1,j,rfl,by omega,hj,rfl,fun k hk=> ?_,h3⟩
    by_cases e:k=(i+j) / 2
    ·rw [e];exact hc
    ·exact Vk _ _ _ (X5 h (by omega:k<(i+j) / 2) (by omega)) hc
   ·rw [if_neg hc]
    refine⟨_,(i+j) / 2-i,rfl,by omega,i,(i+j) / 2,rfl,by omega,by omega,rfl,h2,fun k hk1 hk2 hck=> ?_⟩
    by_cases e:k=(i+j) / 2
    ·rw [e]at hck;exact hc hck
    ·exact hc (Vk _ _ _ (X5 h (by omega:(i+j) / 2<k) hk2) hck)
  ·rw [if_neg (by omega)]
   right
   have:i=j:=by omega
   subst this
   exact⟨_,rfl,i,rfl,hj,h2,h3⟩
theorem TL(l:AX)(x:AO)(hl:BQ l)(hx:x.length<1099511627776)(h:TK l=true):Ia l x=some (l.contains (Hm x)):=by
 unfold Ia EB;rw [CB,BC hx,wW];obtain⟨r,e⟩:=A2V l (Hm x) (fun a0 a1=>gCp a0 a1) hl.1 (fun i hi=>A4p _ _ (hl.getD i) (by rw [mW];exact hx)) h
 rw [e];rfl
theorem NG(list:AX)(labels:AO)(h0:BQ list)(h1:labels.length<1099511627776)(h2:TK list=true):Y.call 117 [bk 26 (AQ BX list),bk 3 (AQ (bc .i64) labels)] []=some (bp (list.contains (Hm labels)),[]):=RQ list labels (TL list labels h0 h1 h2)
def JI(a b:AO)(Fe:Int):Option ((Int)⊕(Unit⊕Unit)):= if Fe<(a.length:Int)then ck (0≤Fe∧Fe.toNat<a.length)<| ck (0≤Fe∧Fe.toNat<b.length)<| if(a.getD Fe.toNat be)=(b.getD Fe.toNat be)then some (bo (bm.wrap (Fe+1))) else some (bl (bo ())) else some (bl (bl ()))
def QW(a b:AO)(v:Int):Option (Unit⊕Unit):=Dq (fun v=>JI a b v) v
def UG(a b:AO):Option (Bool):=
 if(a.length:Int)=(b.length:Int)then
  (QW a b 0).bind fun AU=>
  match AU with
  | .inl q1000_=>
   some false
  | .inr q1000_=>
   some true
 else
  some false
abbrev qD:List Nat:=[16,17,18,19,20,21,22,23,24]
def fG:SC:= .seq (.ops [oB 14 .lss 3 (tK 13) (tK 12) 3 0]) (.seq (.cond (tK 14) .skip (.exit 0)) (.seq (.block 1 (.seq (.ops [oM 15 13 3,oA 5 15 3]) (.seq (.draws [(⟨[16,0,0],qD,[16]⟩,oM 16 0 26),(⟨[17,5,5],qD,[17]⟩,oM 17 5 3),(⟨[18,16,17,0,5],qD,[18]⟩,oI 18 26 16 17),(⟨[19,18,0],qD,[19]⟩,oL 19 3 18 3),(⟨[20,1,1],qD,[20]⟩,oM 20 1 26),(⟨[21,5,5],qD,[21]⟩,oM 21 5 3),(⟨[22,20,21,1,5],qD,[22]⟩,oI 22 26 20 21),(⟨[23,22,1],qD,[23]⟩,oL 23 3 22 3),(⟨[24,19,23,0,1],qD,[24]⟩,oB 24 .neq 3 (tK 19) (tK 23) 3 4)]) (.cond (tK 24) (.seq (.ops [oX 4 Ba 4]) .ret) .skip)))) (.ops [oB 25 .add 3 (tK 13) (iK 1) 3 3,oM 13 25 3])))
def A0e:SC:= .loop fG
def ADy:SC:= .seq (.ops [oX 4 Ba 4]) (.seq (.seq (.ops [oM 6 0 26,oN 7 6 26,oM 8 1 26,oN 9 8 26,oB 10 .neq 3 (tK 7) (tK 9) 3 4]) (.cond (tK 10) (.seq (.ops [oX 4 Ba 4]) .ret) .skip)) (.seq (.seq (.ops [oM 11 0 26,oN 12 11 26,oX 13 (.move (iK 0)) 3]) (.block 0 A0e)) (.seq (.ops [oX 4 (.assign Cy) 4]) .ret)))
theorem A7i:Tryz.f140.body.map (BP lends)=some ADy:=by kernel_rfl
theorem ALq:BR Tryz.f140 2=true:=by kernel_rfl
theorem ARb{a l:List D}{r:D×List D}(h:BS Y.env ADy (fin Aj l.length [bt 4] r) (entry a l))(ha:a.length=2):Y.call 140 a l=some r:=
 AY (Y:=Y) rfl Tryz.func140 (ha▸ALq) A7i h
def Gj(a b:AO)(Fe:Int)(s:St):Prop:=s.v 0=bk 3 (AQ (bc .i64) a)∧s.v 1=bk 3 (AQ (bc .i64) b)∧s.v 12=bc .i64 (a.length:Int)∧s.v 13=bc .i64 Fe
def JJ(a b:AO)(r:Unit⊕Unit)(ex:Ex)(s:St):Prop:=match r with
 | .inl q=>ex= .ret∧s.v 4=bp false
 | .inr q=>ex= .exit 0
theorem fH(a b:AO){v:Int}{s:St}{r:Unit⊕Unit}(h:QW a b v=some r)(hM:Gj a b v s):BS Y.env A0e (JJ a b r) s:=by
 unfold QW at h;refine Aw (c:=fG) (fun v=>JI a b v) (fun v s=>Gj a b v s) (JJ a b) ?_ h hM;clear h hM s v r;intro Fe s o hM h;unfold JI at h;unfold Gj at hM;obtain⟨m0,m1,m2,m3⟩:=hM;unfold fG;rcases iS h with⟨e2,h⟩|⟨e2,h⟩
 ·obtain⟨e3,e4,h⟩:=Dr h;rcases iS h with⟨e5,h⟩|⟨e5,h⟩
  ·cases h;simp only [↓AJ,AL,↓reduceIte,bj,bh,m0,m1,m2,m3,e2,e3.1,e3.2,e4.2,decide_eq_true e5,Gj,Cx]
  ·cases h;simp only [↓AJ,AL,↓reduceIte,bj,bh,m0,m1,m2,m3,e2,e3.1,e3.2,e4.2,e5,Gj,JJ,QC]
 ·cases h;simp only [↓AJ,AL,↓reduceIte,bh,m2,m3,e2,Gj,JJ,Gf]
theorem kI(a b:AO){r:Bool}(h:UG a b=some r):Y.call 140 [bk 3 (AQ (bc .i64) a),bk 3 (AQ (bc .i64) b)] []=some (bp r,[]):=by
 refine ARb ?_ rfl;unfold ADy;unfold UG at h;rcases iS h with⟨e1,h⟩|⟨e1,h⟩
 ·obtain⟨AU,hl3,h⟩:=Ag h;try dsimp only at h
  simp only [↓AJ,AL,↓reduceIte,bj,bh,decide_eq_true e1];refine Al (fH a b hl3 ?_) ?_
  ·simp only [BK,Cg,↓reduceIte,bj,bh,Gj]
  ·intro ex3 s3 hX3;rcases AU with q1000_|q1000_
   ·unfold JJ at hX3;dsimp only at hX3 h;obtain⟨rfl,n3_0⟩:=hX3;cases h;simp only [↓AJ,AL,↓reduceIte,n3_0]
   ·unfold JJ at hX3;dsimp only at hX3 h
    obtain rfl:=hX3
    cases h;simp only [↓AJ,AL,↓reduceIte,bj,bh]
 ·cases h;simp only [↓AJ,AL,↓reduceIte,bj,bh,e1]
def Ka(l:AX)(x_:AO)(GM:Int):Option ((Int)⊕(Unit⊕Unit)):= if GM<(l.length:Int)then ck (0≤GM∧GM.toNat<l.length)<| (UG x_ (l.getD GM.toNat be)).bind fun zT=> if zT=true then some (bl (bo ())) else some (bo (bm.wrap (GM+1))) else some (bl (bl ()))
def Sa(l:AX)(x_:AO)(v:Int):Option (Unit⊕Unit):=Dq (fun v=>Ka l x_ v) v
def av(l:AX)(x_:AO):Option (Bool):=
 (Sa l x_ 0).bind fun AU=>
 match AU with
 | .inl q1000_=>
  some true
 | .inr q1000_=>
  some false
def fI:SC:= .seq (.ops [oB 10 .lss 3 (tK 9) (tK 8) 3 0]) (.seq (.cond (tK 10) .skip (.exit 0)) (.seq (.block 1 (.seq (.ops [oI 11 22 7 9,oL 12 26 11 26,oA 6 12 26]) (.seq (.ops [oM 13 1 26,oM 14 6 26,oC 15 140 [(tK 13),(tK 14)] [26,26] 4]) (.cond (tK 15) (.seq (.ops [oX 4 (.assign Cy) 4]) .ret) .skip)))) (.ops [oB 16 .add 3 (tK 9) (iK 1) 3 3,oM 9 16 3])))
def A0f:SC:= .loop fI
def ADz:SC:= .seq (.ops [oX 4 Ba 4]) (.seq (.seq (.ops [oM 7 0 22,oN 8 7 22,oX 9 (.move (iK 0)) 3]) (.block 0 A0f)) (.seq (.ops [oX 4 Ba 4]) .ret))
theorem A7j:Tryz.f122.body.map (BP lends)=some ADz:=by kernel_rfl
theorem ALr:BR Tryz.f122 2=true:=by kernel_rfl
theorem ARc{a l:List D}{r:D×List D}(h:BS Y.env ADz (fin Aj l.length [bt 4] r) (entry a l))(ha:a.length=2):Y.call 122 a l=some r:=
 AY (Y:=Y) rfl Tryz.func122 (ha▸ALr) A7j h
def Ib(l:AX)(x_:AO)(GM:Int)(s:St):Prop:=s.v 1=bk 3 (AQ (bc .i64) x_)∧s.v 7=bk 26 (AQ BX l)∧s.v 8=bc .i64 (l.length:Int)∧s.v 9=bc .i64 GM
def Kb(l:AX)(x_:AO)(r:Unit⊕Unit)(ex:Ex)(s:St):Prop:=match r with
 | .inl q=>ex= .ret∧s.v 4=bp true
 | .inr q=>ex= .exit 0
theorem kJ(l:AX)(x_:AO){v:Int}{s:St}{r:Unit⊕Unit}(h:Sa l x_ v=some r)(hM:Ib l x_ v s):BS Y.env A0f (Kb l x_ r) s:=by
 unfold Sa at h;refine Aw (c:=fI) (fun v=>Ka l x_ v) (fun v s=>Ib l x_ v s) (Kb l x_) ?_ h hM;clear h hM s v r;intro GM s o hM h;unfold Ka at h;unfold Ib at hM;obtain⟨m0,m1,m2,m3⟩:=hM;unfold fI;rcases iS h with⟨e1,h⟩|⟨e1,h⟩
 ·obtain⟨e2,h⟩:=Cu h;obtain⟨zT,hl3,h⟩:=Ag h;have c3:=kI x_ (l.getD GM.toNat be) hl3;rcases iS h with⟨e4,h⟩|⟨e4,h⟩
  ·cases h;simp only [↓AJ,AL,↓reduceIte,bj,bh,m0,m1,m2,m3,e1,e2.1,e2.2,c3,e4,Ib,Kb,QC]
  ·have e4f:zT=false:=G8.mpr e4;cases h;simp only [↓AJ,AL,↓reduceIte,bj,bh,m0,m1,m2,m3,e1,e2.1,e2.2,c3,e4f,Ib,Cx]
 ·cases h;simp only [↓AJ,AL,↓reduceIte,bh,m2,m3,e1,Ib,Kb,Gf]
theorem qE(l:AX)(x_:AO){r:Bool}(h:av l x_=some r):Y.call 122 [bk 26 (AQ BX l),bk 3 (AQ (bc .i64) x_)] []=some (bp r,[]):=by
 refine ARc ?_ rfl;unfold ADz;unfold av at h;obtain⟨AU,hl2,h⟩:=Ag h;try dsimp only at h
 simp only [↓AJ,AL,↓reduceIte,bj,bh];refine Al (kJ l x_ hl2 ?_) ?_
 ·simp only [BK,Cg,↓reduceIte,bj,bh,Ib]
 ·intro ex2 s2 hX2;rcases AU with q1000_|q1000_
  ·unfold Kb at hX2;dsimp only at hX2 h;obtain⟨rfl,n2_0⟩:=hX2;cases h;simp only [↓AJ,AL,↓reduceIte,n2_0]
  ·unfold Kb at hX2;dsimp only at hX2 h
   obtain rfl:=hX2
   cases h;simp only [↓AJ,AL,↓reduceIte,bj,bh]
theorem A2W(a b:AO)(ha:a.length<1099511627776):UG a b=some (decide (a=b)):=by
 unfold UG QW;by_cases hl:a.length=b.length
 ·rw [if_pos (by omega)]
  have key:=E9 (fun v=>JI a b v) (fun i=>(i:Int)) a.length (fun i=>decide (a.getD i be=b.getD i be)) (.inl ()) (.inr ()) ?_ ?_
  ·simp only [EW]at key;rw [key,U3 a b hl];by_cases he:a=b<;>simp [he]
  ·intro i hi;simp only [JI];rw [if_pos (BU hi),BC (DY hi),BC (DY (by omega)),Cq,Gc i (by omega)]<;>simp only [decide_eq_true_eq]
  ·simp only [JI];rw [if_neg (Am _)]
 ·rw [if_neg (by omega)]
  have: ¬a=b:=fun e=>hl (by rw [e])
  simp [this]
theorem zU(l:AX)(x:AO)(hl:l.length<1099511627776)(hx:x.length<1099511627776):av l x=some (l.contains x):=by
 unfold av Sa;have key:=E9 (fun v=>Ka l x v) (fun i=>(i:Int)) l.length (fun i=> !decide (x=l.getD i be)) (.inl ()) (.inr ()) ?_ ?_
 ·simp only [EW]at key;rw [key,CB];rw [Wo (fun y=> !decide (x=y)) l];by_cases hm:x∈l
  ·have:l.all (fun y=> !decide (x=y))=false:=by
    rw [G8];intro hc;have:=Jv.1 hc x hm
    simp at this
   rw [this,if_neg (by decide)]
   simp [hm]
  ·have:l.all (fun y=> !decide (x=y))=true:=by
    refine Jv.2 fun y hy=> ?_;have: ¬x=y:=fun e=>hm (e▸hy)
    simp [this]
   rw [this,if_pos rfl];simp [hm]
 ·intro i hi;simp only [Ka];rw [if_pos (BU hi),BC (DY hi),Cq,A2W _ _ hx,CB,Gc i (by omega)]
  by_cases e:x=l.getD i be<;>simp [e]
 ·simp only [Ka];rw [if_neg (Am _)]
theorem zV(l:AX)(x_:AO)(h0:l.length<1099511627776)(h1:x_.length<1099511627776):Y.call 122 [bk 26 (AQ BX l),bk 3 (AQ (bc .i64) x_)] []=some (bp (l.contains x_),[]):=qE l x_ (zU l x_ h0 h1)
def Kc(l:AO)(n_ GM:Int):Option ((Int)⊕(Unit⊕Unit)):= if GM<(l.length:Int)then ck (0≤GM∧GM.toNat<l.length)<| if(l.getD GM.toNat be)=n_ then some (bl (bo ())) else some (bo (bm.wrap (GM+1))) else some (bl (bl ()))
def Sb(l:AO)(n_ v:Int):Option (Unit⊕Unit):=Dq (fun v=>Kc l n_ v) v
def ay(l:AO)(n_:Int):Option (Bool):=
 (Sb l n_ 0).bind fun AU=>
 match AU with
 | .inl q1000_=>
  some true
 | .inr q1000_=>
  some false
def qF:SC:= .seq (.ops [oB 10 .lss 3 (tK 9) (tK 8) 3 0]) (.seq (.cond (tK 10) .skip (.exit 0)) (.seq (.block 1 (.seq (.ops [oI 11 26 7 9,oL 12 3 11 3,oA 6 12 3]) (.seq (.ops [oM 13 6 3,oM 14 1 3,oB 15 .eql 3 (tK 13) (tK 14) 3 4]) (.cond (tK 15) (.seq (.ops [oX 4 (.assign Cy) 4]) .ret) .skip)))) (.ops [oB 16 .add 3 (tK 9) (iK 1) 3 3,oM 9 16 3])))
def A4y:SC:= .loop qF
def k36:SC:= .seq (.ops [oX 4 Ba 4]) (.seq (.seq (.ops [oM 7 0 26,oN 8 7 26,oX 9 (.move (iK 0)) 3]) (.block 0 A4y)) (.seq (.ops [oX 4 Ba 4]) .ret))
theorem AE0:Tryz.f36.body.map (BP lends)=some k36:=by kernel_rfl
theorem ARe:BR Tryz.f36 2=true:=by kernel_rfl
theorem c36{a l:List D}{r:D×List D}(h:BS Y.env k36 (fin Aj l.length [bt 4] r) (entry a l))(ha:a.length=2):Y.call 36 a l=some r:=
 AY (Y:=Y) rfl Tryz.func36 (ha▸ARe) AE0 h
def Ic(l:AO)(n_ GM:Int)(s:St):Prop:=s.v 1=bc .i64 n_∧s.v 7=bk 3 (AQ (bc .i64) l)∧s.v 8=bc .i64 (l.length:Int)∧s.v 9=bc .i64 GM
def Ke(l:AO)(n_:Int)(r:Unit⊕Unit)(ex:Ex)(s:St):Prop:=match r with
 | .inl q=>ex= .ret∧s.v 4=bp true
 | .inr q=>ex= .exit 0
theorem kK(l:AO)(n_:Int){v:Int}{s:St}{r:Unit⊕Unit}(h:Sb l n_ v=some r)(hM:Ic l n_ v s):BS Y.env A4y (Ke l n_ r) s:=by
 unfold Sb at h;refine Aw (c:=qF) (fun v=>Kc l n_ v) (fun v s=>Ic l n_ v s) (Ke l n_) ?_ h hM;clear h hM s v r;intro GM s o hM h;unfold Kc at h;unfold Ic at hM;obtain⟨m0,m1,m2,m3⟩:=hM;unfold qF;rcases iS h with⟨e1,h⟩|⟨e1,h⟩
 ·obtain⟨e2,h⟩:=Cu h;rcases iS h with⟨e3,h⟩|⟨e3,h⟩
  ·cases h;simp (maxDischargeDepth:=9) only [↓AJ,AL,↓reduceIte,bj,bh,m0,m1,m2,m3,e1,e2.1,e2.2,decide_eq_true e3,Ic,Ke,QC]
  ·cases h;simp (maxDischargeDepth:=9) only [↓AJ,AL,↓reduceIte,bj,bh,m0,m1,m2,m3,e1,e2.1,e2.2,e3,Ic,Cx]
 ·cases h;simp (maxDischargeDepth:=9) only [↓AJ,AL,↓reduceIte,bh,m2,m3,e1,Ic,Ke,Gf]
theorem qG(l:AO)(n_:Int){r:Bool}(h:ay l n_=some r):Y.call 36 [bk 3 (AQ (bc .i64) l),bc .i64 n_] []=some (bp r,[]):=by
 refine c36 ?_ rfl;unfold k36;unfold ay at h;obtain⟨AU,hl2,h⟩:=Ag h;try dsimp only at h
 simp (maxDischargeDepth:=9) only [↓AJ,AL,↓reduceIte,bj,bh];refine Al (kK l n_ hl2 ?_) ?_
 ·simp (maxDischargeDepth:=9) only [BK,Cg,↓reduceIte,bj,bh,Ic]
 ·intro ex2 s2 hX2;rcases AU with q1000_|q1000_
  ·unfold Ke at hX2;dsimp only at hX2 h;obtain⟨rfl,n2_0⟩:=hX2;cases h;simp (maxDischargeDepth:=9) only [↓AJ,AL,↓reduceIte,n2_0]
  ·unfold Ke at hX2;dsimp only at hX2 h
   obtain rfl:=hX2
   cases h;simp (maxDischargeDepth:=9) only [↓AJ,AL,↓reduceIte,bj,bh]
theorem zW(l:AO)(n:Int)(h:l.length<1099511627776):ay l n=some (l.contains n):=by
 unfold ay Sb;have key:=E9 (fun v=>Kc l n v) (fun i=>(i:Int)) l.length (fun i=> !decide (l.getD i be=n)) (.inl ()) (.inr ()) ?_ ?_
 ·simp only [EW]at key;rw [key,Wo (fun x=> !decide (x=n))]
  have e:l.all (fun x=> !decide (x=n))= !l.contains n:=by
   rw [List.all_eq_not_any_not,List.contains_eq_any_beq]
   congr 2
   funext x
   rw [Bool.not_not,V7,decide_eq_true_eq,beq_iff_eq];exact eq_comm
  rw [e]
  cases l.contains n<;>rfl
 ·intro i hi;simp only [Kc];rw [if_pos (BU hi),BC (DY hi),Cq,Gc i (by omega)]
  by_cases hq:l.getD i be=n
  ·rw [if_pos hq,decide_eq_true hq];rfl
  ·rw [if_neg hq,decide_eq_false hq];rfl
 ·simp only [Kc];rw [if_neg (Am _)]
theorem zX(l:AO)(n_:Int)(h0:l.length<1099511627776):Y.call 36 [bk 3 (AQ (bc .i64) l),bc .i64 n_] []=some (bp (l.contains n_),[]):=qG l n_ (zW l n_ h0)
def Mc(s_:AO)(v_ GI:Int):Option ((Int)⊕(Int⊕Unit)):= if GI<(s_.length:Int)then ck (0≤GI∧GI.toNat<s_.length)<| if v_=(s_.getD GI.toNat be)then some (bl (bo GI)) else some (bo (bm.wrap (GI+1))) else some (bl (bl ()))
def qH(s_:AO)(v_ v:Int):Option (Int⊕Unit):=Dq (fun v=>Mc s_ v_ v) v
def gIx(s_:AO)(v_:Int):Option (Int):=
 (qH s_ v_ 0).bind fun AU=>
 match AU with
 | .inl q1000_=>
  some q1000_
 | .inr q1000_=>
  some (-1)
def fJ:SC:= .seq (.ops [oB 9 .lss 3 (tK 8) (tK 7) 3 0]) (.seq (.cond (tK 9) .skip (.exit 0)) (.seq (.block 1 (.seq (.ops [oM 10 8 3,oA 5 10 3]) (.seq (.ops [oM 11 1 3,oM 12 0 26,oM 13 5 3,oI 14 26 12 13,oL 15 3 14 3,oB 16 .eql 3 (tK 11) (tK 15) 3 4]) (.cond (tK 16) (.seq (.ops [oM 17 5 3,oA 4 17 3]) .ret) .skip)))) (.ops [oB 18 .add 3 (tK 8) (iK 1) 3 3,oM 8 18 3])))
def A0g:SC:= .loop fJ
def AE1:SC:= .seq (.ops [oX 4 (.assign (iK 0)) 3]) (.seq (.seq (.ops [oM 6 0 26,oN 7 6 26,oX 8 (.move (iK 0)) 3]) (.block 0 A0g)) (.seq (.ops [oX 4 RH 3]) .ret))
theorem A7k:Tryz.f107.body.map (BP lends)=some AE1:=by kernel_rfl
theorem ALt:BR Tryz.f107 2=true:=by kernel_rfl
theorem ARf{a l:List D}{r:D×List D}(h:BS Y.env AE1 (fin Aj l.length [bt 4] r) (entry a l))(ha:a.length=2):Y.call 107 a l=some r:=
 AY (Y:=Y) rfl Tryz.func107 (ha▸ALt) A7k h
def Pp(s_:AO)(v_ GI:Int)(s:St):Prop:=s.v 0=bk 3 (AQ (bc .i64) s_)∧s.v 1=bc .i64 v_∧s.v 7=bc .i64 (s_.length:Int)∧s.v 8=bc .i64 GI
def RS(s_:AO)(v_:Int)(r:Int⊕Unit)(ex:Ex)(s:St):Prop:=match r with
 | .inl q=>ex= .ret∧s.v 4=bc .i64 q
 | .inr q=>ex= .exit 0
theorem A2X(s_:AO)(v_:Int){v:Int}{s:St}{r:Int⊕Unit}(h:qH s_ v_ v=some r)(hM:Pp s_ v_ v s):BS Y.env A0g (RS s_ v_ r) s:=by
 unfold qH at h;refine Aw (c:=fJ) (fun v=>Mc s_ v_ v) (fun v s=>Pp s_ v_ v s) (RS s_ v_) ?_ h hM;clear h hM s v r;intro GI s o hM h;unfold Mc at h;unfold Pp at hM;obtain⟨m0,m1,m2,m3⟩:=hM;unfold fJ;rcases iS h with⟨e1,h⟩|⟨e1,h⟩
 ·obtain⟨e2,h⟩:=Cu h;rcases iS h with⟨e3,h⟩|⟨e3,h⟩
  ·cases h;simp (maxDischargeDepth:=9) only [↓AJ,AL,↓reduceIte,bj,bh,m0,m1,m2,m3,e1,e2.1,e2.2,decide_eq_true e3,Pp,RS,QC]
  ·cases h;simp (maxDischargeDepth:=9) only [↓AJ,AL,↓reduceIte,bj,bh,m0,m1,m2,m3,e1,e2.1,e2.2,e3,Pp,Cx]
 ·cases h;simp (maxDischargeDepth:=9) only [↓AJ,AL,↓reduceIte,bh,m2,m3,e1,Pp,RS,Gf]
theorem A4z(s_:AO)(v_:Int){r:Int}(h:gIx s_ v_=some r):Y.call 107 [bk 3 (AQ (bc .i64) s_),bc .i64 v_] []=some (bc .i64 r,[]):=by
 refine ARf ?_ rfl;unfold AE1;unfold gIx at h;obtain⟨AU,hl2,h⟩:=Ag h;try dsimp only at h
 simp (maxDischargeDepth:=9) only [↓AJ,AL,↓reduceIte,bj,bh,b4];refine Al (A2X s_ v_ hl2 ?_) ?_
 ·simp (maxDischargeDepth:=9) only [BK,Cg,↓reduceIte,bj,bh,Pp]
 ·intro ex2 s2 hX2;rcases AU with q1000_|q1000_
  ·unfold RS at hX2;dsimp only at hX2 h;obtain⟨rfl,n2_0⟩:=hX2;cases h;simp (maxDischargeDepth:=9) only [↓AJ,AL,↓reduceIte,n2_0]
  ·unfold RS at hX2;dsimp only at hX2 h
   obtain rfl:=hX2
   cases h;simp (maxDischargeDepth:=9) only [↓AJ,AL,↓reduceIte,bj,bh,b4]
def DZ(s_:AO)(v_:Int):Option (Bool):= (gIx s_ v_).bind fun r7_=> some (decide (0≤r7_))
def k74:SC:= .seq (.ops [oX 4 Ba 4]) (.seq (.ops [oM 5 0 26,oM 6 1 3,oC 7 107 [(tK 5),(tK 6)] [26,3] 3,oB 8 .geq 3 (tK 7) (iK 0) 3 4,oA 4 8 4]) .ret)
theorem AE2:Tryz.f74.body.map (BP lends)=some k74:=by kernel_rfl
theorem ARh:BR Tryz.f74 2=true:=by kernel_rfl
theorem c74{a l:List D}{r:D×List D}(h:BS Y.env k74 (fin Aj l.length [bt 4] r) (entry a l))(ha:a.length=2):Y.call 74 a l=some r:=
 AY (Y:=Y) rfl Tryz.func74 (ha▸ARh) AE2 h
theorem ND(s_:AO)(v_:Int){r:Bool}(h:DZ s_ v_=some r):Y.call 74 [bk 3 (AQ (bc .i64) s_),bc .i64 v_] []=some (bp r,[]):=by
 refine c74 ?_ rfl;unfold k74;unfold DZ at h;obtain⟨r7_,hl1,h⟩:=Ag h;try dsimp only at h
 have c1:=A4z s_ v_ hl1;cases h;simp (maxDischargeDepth:=9) only [↓AJ,AL,↓reduceIte,bj,bh,bx,c1]
theorem A50(l:AO)(n:Int)(h:l.length<1099511627776): ∃r,gIx l n=some r∧(0≤r↔l.contains n=true):=by
 unfold gIx qH;by_cases ha: ∀i,i<l.length→(!decide (n=l.getD i be))=true
 ·have key:=Bn (fun v=>Mc l n v) (fun i=>(i:Int)) l.length (.inr ()) ?_ ?_
  ·simp only [EW]at key;rw [key]
   refine⟨-1,rfl,by simp,fun hc=> ?_⟩
   obtain⟨i,hi,he⟩:=V4 (TU.1 hc);have:=ha i hi
   rw [Ac _ _ hi,he]at this;simp at this
  ·intro i hi;simp only [Mc];have e:=ha i hi;rw [if_pos (BU hi),BC (DY hi),Cq,if_neg (by simpa using e),Gc i (by omega)]
  ·simp only [Mc];rw [if_neg (Am _)]
 ·obtain⟨m,h1,h2,h3⟩:=SN (P:=fun i=> !decide (n=l.getD i be)) ha;have h2':n=l.getD m be:=by simpa using h2
  have key:=Bn (fun v=>Mc l n v) (fun i=>(i:Int)) m (.inl (m:Int)) ?_ ?_
  ·simp only [EW]at key;rw [key]
   refine⟨(m:Int),rfl,fun _=> ?_,fun _=>by omega⟩
   rw [h2',Ac _ _ h1];exact TU.2 (NA h1)
  ·intro i hi;simp only [Mc];have e:=h3 i hi;rw [if_pos (BU (by omega)),BC (DY (by omega)),Cq,if_neg (by simpa using e),Gc i (by omega)]
  ·simp only [Mc];rw [if_pos (BU h1),BC (DY h1),Cq,if_pos h2']
theorem O4(l:AO)(n:Int)(h:l.length<1099511627776):DZ l n=some (l.contains n):=by
 obtain⟨r,h1,h2⟩:=A50 l n h;unfold DZ;rw [h1,CB]
 congr 1
 rw [V7];simpa using h2
theorem O5(s_:AO)(v_:Int)(h0:s_.length<1099511627776):Y.call 74 [bk 3 (AQ (bc .i64) s_),bc .i64 v_] []=some (bp (s_.contains v_),[]):=ND s_ v_ (O4 s_ v_ h0)
def Cf(l:Ad):Prop:=l.length<1099511627776∧ ∀x∈l,x.length<549755813888
instance (l:Ad):Decidable (Cf l):=by unfold Cf;infer_instance
theorem Cf.at{l:Ad}(h:Cf l)(i:Nat)(hi:i<l.length):l[i].length<549755813888:=h.2 _ (NA hi)
theorem Cf.getD{l:Ad}(h:Cf l)(i:Nat):(l.getD i be).length<549755813888:=by
 by_cases hi:i<l.length
 ·rw [Ac _ _ hi];exact h.at i hi
 ·rw [LQ,jO (by omega)];decide
theorem ALu{a:Fg}{i:Nat}(h:i<a.length):(BJ a i,Bu a i)=a[i]:=by
 unfold BJ Bu;rw [Ac _ _ h]
def az(a_Node a_Port:Int):Option (Int×Int):= some (a_Node,a_Port)
def k96:SC:= .seq (.ops [oX 1 (.box 111 (tK 0)) 0,oX 2 (.alloc 87) 0]) (.seq (.ops [oX 3 (.alloc 87) 0]) (.seq (.ops [oF 4 111 1 0,oL 5 3 4 3,oF 6 87 3 0,oS 3 6 5]) (.seq (.ops [oF 7 111 1 1,oL 8 3 7 3,oF 9 87 3 1,oS 3 9 8]) (.seq (.ops [oL 10 87 3 87,oS 87 2 10]) .ret))))
theorem AE3:Tryz.f96.body.map (BP lends)=some k96:=by kernel_rfl
theorem ARj:BR Tryz.f96 1=true:=by kernel_rfl
theorem c96{a l:List D}{r:D×List D}(h:BS Y.env k96 (fin Aj l.length [ResultVar.cell 2 87] r) (entry a l))(ha:a.length=1):Y.call 96 a l=some r:=
 AY (Y:=Y) rfl Tryz.func96 (ha▸ARj) AE3 h
theorem qI(a_Node a_Port:Int){r:Int×Int}(h:az a_Node a_Port=some r):Y.call 96 [bw [bc .i64 a_Node,bc .i64 a_Port]] []=some (bw [bc .i64 r.1,bc .i64 r.2],[]):=by
 refine c96 ?_ rfl;unfold k96;unfold az at h;cases h;simp only [↓AJ,AL,↓reduceIte,bj,bh,bx]
def JK(a:Fg)(out:Fg)(i:Int):Option ((Fg×Int)⊕(Fg)):= if i<(a.length:Int)then ck (0≤i∧i.toNat<a.length)<| (az (BJ a i.toNat) (Bu a i.toNat)).bind fun zP=> ck (0≤i∧i.toNat<out.length)<| some (bo ((out.set i.toNat (zP.1,zP.2)),bm.wrap (i+1))) else some (bl out)
def QX(a:Fg)(v:Fg×Int):Option (Fg):=Dq (fun v=>JK a v.1 v.2) v
def X7(a:Fg):Option (Fg):= ck (0≤(a.length:Int)∧(a.length:Int)<1099511627776)<| (QX a ((ap a.length (0,0)),0)).bind fun AU=> some AU
def qJ:SC:= .seq (.seq (.ops [oM 8 4 3,oM 9 0 78,oN 10 9 78,oB 11 .lss 3 (tK 8) (tK 10) 3 4]) (.cond (tK 11) .skip (.exit 0))) (.seq (.block 1 (.ops [oM 14 3 79,oM 15 4 3,oM 16 0 78,oM 17 4 3,oI 18 78 16 17,oL 19 111 18 111,oC 20 96 [(tK 19)] [111] 87,oI 21 79 14 15,oS 87 21 20])) (.ops [oM 12 4 3,oB 13 .add 3 (tK 12) (iK 1) 3 3,oA 4 13 3]))
def A51:SC:= .loop qJ
def k63:SC:= .seq (.ops [oX 2 Gv 79]) (.seq (.ops [oM 5 0 78,oN 6 5 78,oX 7 (.makeSlice 79 (tK 6) (tK 6)) 79,oA 3 7 79]) (.seq (.seq (.ops [oX 4 (.assign (iK 0)) 3]) (.block 0 A51)) (.seq (.ops [oM 22 3 79,oA 2 22 79]) .ret)))
theorem AE4:Tryz.f63.body.map (BP lends)=some k63:=by kernel_rfl
theorem ARl:BR Tryz.f63 1=true:=by kernel_rfl
theorem c63{a l:List D}{r:D×List D}(h:BS Y.env k63 (fin Aj l.length [bt 2] r) (entry a l))(ha:a.length=1):Y.call 63 a l=some r:=
 AY (Y:=Y) rfl Tryz.func63 (ha▸ARl) AE4 h
def JL(a:Fg)(out:Fg)(i:Int)(s:St):Prop:=s.v 0=bk 111 (Ak .i64 .i64 a)∧s.v 3=br 87 (Ak .i64 .i64 out)∧s.v 4=bc .i64 i
def NV(a:Fg)(r:Fg)(ex:Ex)(s:St):Prop:=ex= .exit 0∧s.v 3=br 87 (Ak .i64 .i64 r)
theorem fK(a:Fg){v:Fg×Int}{s:St}{r:Fg}(h:QX a v=some r)(hM:JL a v.1 v.2 s):BS Y.env A51 (NV a r) s:=by
 unfold QX at h;refine Aw (c:=qJ) (fun v=>JK a v.1 v.2) (fun v s=>JL a v.1 v.2 s) (NV a) ?_ h hM;clear h hM s v r;intro v s o hM h;obtain⟨out,i⟩:=v;dsimp only at h hM;unfold JK at h;unfold JL at hM;obtain⟨m0,m1,m2⟩:=hM;unfold qJ;rcases iS h with⟨e2,h⟩|⟨e2,h⟩
 ·obtain⟨e3,h⟩:=Cu h;obtain⟨zP,hl4,h⟩:=Ag h;have c4:=qI (BJ a i.toNat) (Bu a i.toNat) hl4;obtain⟨e5,h⟩:=Cu h;cases h;simp only [↓AJ,AL,↓reduceIte,bj,bh,m0,m1,m2,e2,e3.1,e3.2,c4,e5.2,JL,Cx]
 ·cases h;simp only [↓AJ,AL,↓reduceIte,bj,bh,m0,m1,m2,e2,JL,NV,Gf]
theorem kL(a:Fg){r:Fg}(h:X7 a=some r):Y.call 63 [bk 111 (Ak .i64 .i64 a)] []=some (br 87 (Ak .i64 .i64 r),[]):=by
 refine c63 ?_ rfl;unfold k63;unfold X7 at h;obtain⟨e1,h⟩:=Cu h;obtain⟨AU,hl3,h⟩:=Ag h;try dsimp only at h
 simp only [↓AJ,AL,↓reduceIte,bj,bh,b5,e1.1,e1.2];refine Al (fK a hl3 ?_) ?_
 ·simp only [BK,Cg,↓reduceIte,bj,bh,JL]
 ·intro ex3 s3 hX3;unfold NV at hX3;obtain⟨rfl,n3_0⟩:=hX3;cases h;simp only [↓AJ,AL,↓reduceIte,bj,bh,n3_0]
theorem wX(a:Fg)(h:a.length<549755813888):X7 a=some a:=by
 have key:=Bn (fun v=>JK a v.1 v.2) (fun i=>(a.take i++ap (a.length-i) (0,0),(i:Int))) a.length a ?_ ?_
 ·unfold X7 QX;rw [BC (by omega)]
  simp only [bJ,PO,Nat.sub_zero,EW]at key;rw [key];rfl
 ·intro i hi;simp only [JK,az,Cq];rw [if_pos (BU hi),BC (by omega),CB,BC (by simp;omega),ALu hi,ak a i hi (0,0),Gc i (by omega)]
 ·simp only [JK];rw [if_neg (Am _)];simp
theorem wY(a:Fg)(h0:a.length<549755813888):Y.call 63 [bk 111 (Ak .i64 .i64 a)] []=some (br 87 (Ak .i64 .i64 a),[]):=kL a (wX a h0)
def Ho(a:Ad)(out:Ad)(i:Int):Option ((Ad×Int)⊕(Ad)):= if i<(a.length:Int)then ck (0≤i∧i.toNat<a.length)<| ck ((a.getD i.toNat be).length<549755813888)<| ck (0≤i∧i.toNat<out.length)<| some (bo ((out.set i.toNat (a.getD i.toNat be)),bm.wrap (i+1))) else some (bl out)
def Od(a:Ad)(v:Ad×Int):Option (Ad):=Dq (fun v=>Ho a v.1 v.2) v
def Us(a:Ad):Option (Ad):= ck (0≤(a.length:Int)∧(a.length:Int)<1099511627776)<| (Od a ((ap a.length ([]:Fg)),0)).bind fun AU=> some AU
def qK:SC:= .seq (.seq (.ops [oM 8 4 3,oM 9 0 25,oN 10 9 25,oB 11 .lss 3 (tK 8) (tK 10) 3 4]) (.cond (tK 11) .skip (.exit 0))) (.seq (.block 1 (.ops [oM 14 3 36,oM 15 4 3,oM 16 0 25,oM 17 4 3,oI 18 25 16 17,oL 19 78 18 78,oC 20 63 [(tK 19)] [78] 79,oI 21 36 14 15,oS 79 21 20])) (.ops [oM 12 4 3,oB 13 .add 3 (tK 12) (iK 1) 3 3,oA 4 13 3]))
def A52:SC:= .loop qK
def k37:SC:= .seq (.ops [oX 2 Gv 36]) (.seq (.ops [oM 5 0 25,oN 6 5 25,oX 7 (.makeSlice 36 (tK 6) (tK 6)) 36,oA 3 7 36]) (.seq (.seq (.ops [oX 4 (.assign (iK 0)) 3]) (.block 0 A52)) (.seq (.ops [oM 22 3 36,oA 2 22 36]) .ret)))
theorem AE5:Tryz.f37.body.map (BP lends)=some k37:=by kernel_rfl
theorem ARn:BR Tryz.f37 1=true:=by kernel_rfl
theorem c37{a l:List D}{r:D×List D}(h:BS Y.env k37 (fin Aj l.length [bt 2] r) (entry a l))(ha:a.length=1):Y.call 37 a l=some r:=
 AY (Y:=Y) rfl Tryz.func37 (ha▸ARn) AE5 h
def Hq(a:Ad)(out:Ad)(i:Int)(s:St):Prop:=s.v 0=bk 78 (AQ (fun x=>bk 111 (Ak .i64 .i64 x)) a)∧s.v 3=br 79 (AQ (fun x=>br 87 (Ak .i64 .i64 x)) out)∧s.v 4=bc .i64 i
def Md(a:Ad)(r:Ad)(ex:Ex)(s:St):Prop:=ex= .exit 0∧s.v 3=br 79 (AQ (fun x=>br 87 (Ak .i64 .i64 x)) r)
theorem Zx(a:Ad){v:Ad×Int}{s:St}{r:Ad}(h:Od a v=some r)(hM:Hq a v.1 v.2 s):BS Y.env A52 (Md a r) s:=by
 unfold Od at h;refine Aw (c:=qK) (fun v=>Ho a v.1 v.2) (fun v s=>Hq a v.1 v.2 s) (Md a) ?_ h hM;clear h hM s v r;intro v s o hM h;obtain⟨out,i⟩:=v;dsimp only at h hM;unfold Ho at h;unfold Hq at hM;obtain⟨m0,m1,m2⟩:=hM;unfold qK;rcases iS h with⟨e2,h⟩|⟨e2,h⟩
 ·obtain⟨e3,e4,h⟩:=Dr h;have c5:=wY (a.getD i.toNat be) e4;obtain⟨e6,h⟩:=Cu h;cases h;simp only [↓AJ,AL,↓reduceIte,bj,bh,m0,m1,m2,e2,e3.1,e3.2,c5,e6.2,Hq,Cx]
 ·cases h;simp only [↓AJ,AL,↓reduceIte,bj,bh,m0,m1,m2,e2,Hq,Md,Gf]
theorem fM(a:Ad){r:Ad}(h:Us a=some r):Y.call 37 [bk 78 (AQ (fun x=>bk 111 (Ak .i64 .i64 x)) a)] []=some (br 79 (AQ (fun x=>br 87 (Ak .i64 .i64 x)) r),[]):=by
 refine c37 ?_ rfl;unfold k37;unfold Us at h;obtain⟨e1,h⟩:=Cu h;obtain⟨AU,hl3,h⟩:=Ag h;try dsimp only at h
 simp only [↓AJ,AL,↓reduceIte,bj,bh,b5,e1.1,e1.2];refine Al (Zx a hl3 ?_) ?_
 ·simp only [BK,Cg,↓reduceIte,bj,bh,Hq]<;>(repeat' apply A7)<;>first|rfl|exact⟨_,rfl⟩|exact⟨_,_,rfl⟩|simp [AQ,Ay]
 ·intro ex3 s3 hX3;unfold Md at hX3;obtain⟨rfl,n3_0⟩:=hX3;cases h;simp only [↓AJ,AL,↓reduceIte,bj,bh,n3_0]
theorem qL(a:Ad)(h:Cf a):Us a=some a:=by
 have h1:=h.1;have key:=Bn (fun v=>Ho a v.1 v.2) (fun i=>(a.take i++ap (a.length-i) [],(i:Int))) a.length a ?_ ?_
 ·unfold Us Od;rw [BC (by omega)]
  simp only [bJ,PO,Nat.sub_zero,EW]at key;rw [key];rfl
 ·intro i hi;simp only [Ho];rw [if_pos (BU hi),BC (DY hi),BC (by rw [GH _ _ hi];exact h.at i hi),BC (DY (by simp;omega)),GH _ _ hi,Cq,ak a i hi [],Gc i (by omega)]
 ·simp only [Ho];rw [if_neg (Am _)];simp
theorem qM(a:Ad)(h0:Cf a):Y.call 37 [bk 78 (AQ (fun x=>bk 111 (Ak .i64 .i64 x)) a)] []=some (br 79 (AQ (fun x=>br 87 (Ak .i64 .i64 x)) a),[]):=fM a (qL a h0)
def QY(BA:Ad)(Bo BB:AO):Option (Ad×AO×AO):= ck (Cf BA)<| ck (Bo.length<1099511627776)<| ck (BB.length<1099511627776)<| some (BA,Bo,BB)
def k12:SC:= .seq (.ops [oX 1 (.box 28 (tK 0)) 0,oX 2 (.alloc 38) 0]) (.seq (.ops [oX 3 (.alloc 38) 0]) (.seq (.ops [oF 4 28 1 0,oL 5 25 4 25,oC 6 37 [(tK 5)] [25] 36,oF 7 38 3 0,oS 36 7 6]) (.seq (.ops [oF 8 28 1 1,oL 9 26 8 26,oC 10 38 [(tK 9)] [26] 26,oF 11 38 3 1,oS 26 11 10]) (.seq (.ops [oF 12 28 1 2,oL 13 26 12 26,oC 14 38 [(tK 13)] [26] 26,oF 15 38 3 2,oS 26 15 14]) (.seq (.ops [oL 16 38 3 38,oS 38 2 16]) .ret)))))
theorem AE6:Tryz.f12.body.map (BP lends)=some k12:=by kernel_rfl
theorem ARp:BR Tryz.f12 1=true:=by kernel_rfl
theorem zQ{a l:List D}{r:D×List D}(h:BS Y.env k12 (fin Aj l.length [ResultVar.cell 2 38] r) (entry a l))(ha:a.length=1):Y.call 12 a l=some r:=
 AY (Y:=Y) rfl Tryz.func12 (ha▸ARp) AE6 h
theorem YR(BA:Ad)(Bo BB:AO){r:Ad×AO×AO}(h:QY BA Bo BB=some r):Y.call 12 [bw [bk 78 (AQ (fun x=>bk 111 (Ak .i64 .i64 x)) BA),bk 3 (AQ (bc .i64) Bo),bk 3 (AQ (bc .i64) BB)]] []=some (bw [br 79 (AQ (fun x=>br 87 (Ak .i64 .i64 x)) r.1),br 3 (AQ (bc .i64) r.2.1),br 3 (AQ (bc .i64) r.2.2)],[]):=by
 refine zQ ?_ rfl;unfold k12;unfold QY at h;obtain⟨e1,h⟩:=Cu h;have c2:=qM BA e1;obtain⟨e3,h⟩:=Cu h;have c4:=U6 Bo e3;obtain⟨e5,h⟩:=Cu h;have c6:=U6 BB e5;cases h;simp only [↓AJ,AL,↓reduceIte,bj,bh,bx,c2,c4,c6]
theorem fO(a:Ad)(b c:AO)(h:Cf a)(hb:b.length<1099511627776)(hc:c.length<1099511627776):QY a b c=some (a,b,c):=by
 unfold QY;rw [BC h,BC hb,BC hc]
theorem Hr(BA:Ad)(Bo BB:AO)(h0:Cf BA)(h1:Bo.length<1099511627776)(h2:BB.length<1099511627776):Y.call 12 [bw [bk 78 (AQ (fun x=>bk 111 (Ak .i64 .i64 x)) BA),bk 3 (AQ (bc .i64) Bo),bk 3 (AQ (bc .i64) BB)]] []=some (bw [br 79 (AQ (fun x=>br 87 (Ak .i64 .i64 x)) BA),br 3 (AQ (bc .i64) Bo),br 3 (AQ (bc .i64) BB)],[]):=YR BA Bo BB (fO BA Bo BB h0 h1 h2)
def X8(a_Node a_Port b_Node b_Port:Int):Option (Bool):= if a_Node=b_Node then if a_Port=b_Port then some true else some false else some false
def AE7:SC:= .seq (.ops [oX 2 (.box 87 (tK 0)) 0,oX 3 (.box 87 (tK 1)) 0,oX 4 Ba 4]) (.seq (.seq (.ops [oF 5 87 2 0,oL 6 3 5 3,oF 7 87 3 0,oL 8 3 7 3,oB 9 .neq 3 (tK 6) (tK 8) 3 4]) (.cond (tK 9) (.seq (.ops [oX 4 Ba 4]) .ret) .skip)) (.seq (.seq (.ops [oF 10 87 2 1,oL 11 3 10 3,oF 12 87 3 1,oL 13 3 12 3,oB 14 .neq 3 (tK 11) (tK 13) 3 4]) (.cond (tK 14) (.seq (.ops [oX 4 Ba 4]) .ret) .skip)) (.seq (.ops [oX 4 (.assign Cy) 4]) .ret)))
theorem A7l:Tryz.f108.body.map (BP lends)=some AE7:=by kernel_rfl
theorem ALv:BR Tryz.f108 2=true:=by kernel_rfl
theorem ARq{a l:List D}{r:D×List D}(h:BS Y.env AE7 (fin Aj l.length [bt 4] r) (entry a l))(ha:a.length=2):Y.call 108 a l=some r:=
 AY (Y:=Y) rfl Tryz.func108 (ha▸ALv) A7l h
theorem qN(a_Node a_Port b_Node b_Port:Int){r:Bool}(h:X8 a_Node a_Port b_Node b_Port=some r):Y.call 108 [bw [bc .i64 a_Node,bc .i64 a_Port],bw [bc .i64 b_Node,bc .i64 b_Port]] []=some (bp r,[]):=by
 refine ARq ?_ rfl;unfold AE7;unfold X8 at h;rcases iS h with⟨e1,h⟩|⟨e1,h⟩
 ·rcases iS h with⟨e2,h⟩|⟨e2,h⟩
  ·cases h;simp only [↓AJ,AL,↓reduceIte,bj,bh,decide_eq_true e1,decide_eq_true e2]
  ·cases h;simp only [↓AJ,AL,↓reduceIte,bj,bh,decide_eq_true e1,e2]
 ·cases h;simp only [↓AJ,AL,↓reduceIte,bj,bh,e1]
def JM(a:Fg)(b:Fg)(i:Int):Option ((Int)⊕(Unit⊕Unit)):= if i<(a.length:Int)then ck (0≤i∧i.toNat<a.length)<| ck (0≤i∧i.toNat<b.length)<| (X8 (BJ a i.toNat) (Bu a i.toNat) (BJ b i.toNat) (Bu b i.toNat)).bind fun kM=> if kM=true then some (bo (bm.wrap (i+1))) else some (bl (bo ())) else some (bl (bl ()))
def QZ(a:Fg)(b:Fg)(v:Int):Option (Unit⊕Unit):=Dq (fun v=>JM a b v) v
def X9(a:Fg)(b:Fg):Option (Bool):=
 if(a.length:Int)=(b.length:Int)then
  (QZ a b 0).bind fun AU=>
  match AU with
  | .inl q1000_=>
   some false
  | .inr q1000_=>
   some true
 else
  some false
abbrev RU:List Nat:=[17,18,19,20,21,22,23,24,25,26]
def qO:SC:= .seq (.seq (.ops [oM 11 5 3,oM 12 0 79,oN 13 12 79,oB 14 .lss 3 (tK 11) (tK 13) 3 4]) (.cond (tK 14) .skip (.exit 0))) (.seq (.block 1 (.seq (.draws [(⟨[17,0,0],RU,[17]⟩,oM 17 0 79),(⟨[18,5,5],RU,[18]⟩,oM 18 5 3),(⟨[19,17,18,0,5],RU,[19]⟩,oI 19 79 17 18),(⟨[20,19,0],RU,[20]⟩,oL 20 87 19 87),(⟨[21,1,1],RU,[21]⟩,oM 21 1 79),(⟨[22,5,5],RU,[22]⟩,oM 22 5 3),(⟨[23,21,22,1,5],RU,[23]⟩,oI 23 79 21 22),(⟨[24,23,1],RU,[24]⟩,oL 24 87 23 87),(⟨[25,20,24,0,1],RU,[25]⟩,oC 25 108 [(tK 20),(tK 24)] [87,87] 4),(⟨[26,25,25],RU,[26]⟩,oX 26 (.unOp .not 4 (tK 25)) 4)]) (.cond (tK 26) (.seq (.ops [oX 4 Ba 4]) .ret) .skip))) (.ops [oM 15 5 3,oB 16 .add 3 (tK 15) (iK 1) 3 3,oA 5 16 3]))
def A54:SC:= .loop qO
def k75:SC:= .seq (.ops [oX 4 Ba 4]) (.seq (.seq (.ops [oM 6 0 79,oN 7 6 79,oM 8 1 79,oN 9 8 79,oB 10 .neq 3 (tK 7) (tK 9) 3 4]) (.cond (tK 10) (.seq (.ops [oX 4 Ba 4]) .ret) .skip)) (.seq (.seq (.ops [oX 5 (.assign (iK 0)) 3]) (.block 0 A54)) (.seq (.ops [oX 4 (.assign Cy) 4]) .ret)))
theorem AE8:Tryz.f75.body.map (BP lends)=some k75:=by kernel_rfl
theorem ARs:BR Tryz.f75 2=true:=by kernel_rfl
theorem c75{a l:List D}{r:D×List D}(h:BS Y.env k75 (fin Aj l.length [bt 4] r) (entry a l))(ha:a.length=2):Y.call 75 a l=some r:=
 AY (Y:=Y) rfl Tryz.func75 (ha▸ARs) AE8 h
def Gl(a:Fg)(b:Fg)(i:Int)(s:St):Prop:=s.v 0=bk 87 (Ak .i64 .i64 a)∧s.v 1=bk 87 (Ak .i64 .i64 b)∧s.v 5=bc .i64 i
def JN(a:Fg)(b:Fg)(r:Unit⊕Unit)(ex:Ex)(s:St):Prop:=match r with
 | .inl q=>ex= .ret∧s.v 4=bp false
 | .inr q=>ex= .exit 0
theorem fP(a:Fg)(b:Fg){v:Int}{s:St}{r:Unit⊕Unit}(h:QZ a b v=some r)(hM:Gl a b v s):BS Y.env A54 (JN a b r) s:=by
 unfold QZ at h;refine Aw (c:=qO) (fun v=>JM a b v) (fun v s=>Gl a b v s) (JN a b) ?_ h hM;clear h hM s v r;intro i s o hM h;unfold JM at h;unfold Gl at hM;obtain⟨m0,m1,m2⟩:=hM;unfold qO;rcases iS h with⟨e2,h⟩|⟨e2,h⟩
 ·obtain⟨e3,e4,h⟩:=Dr h;obtain⟨kM,hl5,h⟩:=Ag h;have c5:=qN (BJ a i.toNat) (Bu a i.toNat) (BJ b i.toNat) (Bu b i.toNat) hl5;rcases iS h with⟨e6,h⟩|⟨e6,h⟩
  ·cases h;simp only [↓AJ,AL,↓reduceIte,bj,bh,m0,m1,m2,e2,e3.1,e3.2,e4.2,c5,e6,Gl,Cx]
  ·have e6f:kM=false:=G8.mpr e6;cases h;simp only [↓AJ,AL,↓reduceIte,bj,bh,m0,m1,m2,e2,e3.1,e3.2,e4.2,c5,e6f,Gl,JN,QC]
 ·cases h;simp only [↓AJ,AL,↓reduceIte,bj,bh,m0,m2,e2,Gl,JN,Gf]
theorem kN(a:Fg)(b:Fg){r:Bool}(h:X9 a b=some r):Y.call 75 [bk 87 (Ak .i64 .i64 a),bk 87 (Ak .i64 .i64 b)] []=some (bp r,[]):=by
 refine c75 ?_ rfl;unfold k75;unfold X9 at h;rcases iS h with⟨e1,h⟩|⟨e1,h⟩
 ·obtain⟨AU,hl3,h⟩:=Ag h;try dsimp only at h
  simp only [↓AJ,AL,↓reduceIte,bj,bh,decide_eq_true e1];refine Al (fP a b hl3 ?_) ?_
  ·simp only [BK,Cg,↓reduceIte,bj,bh,Gl]
  ·intro ex3 s3 hX3;rcases AU with q1000_|q1000_
   ·unfold JN at hX3;dsimp only at hX3 h;obtain⟨rfl,n3_0⟩:=hX3;cases h;simp only [↓AJ,AL,↓reduceIte,n3_0]
   ·unfold JN at hX3;dsimp only at hX3 h
    obtain rfl:=hX3
    cases h;simp only [↓AJ,AL,↓reduceIte,bj,bh]
 ·cases h;simp only [↓AJ,AL,↓reduceIte,bj,bh,e1]
theorem zY(a b c d:Int):X8 a b c d=some (decide ((a,b)=(c,d))):=by
 unfold X8;by_cases h1:a=c<;>by_cases h2:b=d<;>simp [h1,h2]
theorem wZ(a b:Fg)(ha:a.length<549755813888):X9 a b=some (decide (a=b)):=by
 unfold X9 QZ;by_cases hl:a.length=b.length
 ·rw [if_pos (by omega)]
  have key:=E9 (fun v=>JM a b v) (fun i=>(i:Int)) a.length (fun i=>decide (a.getD i be=b.getD i be)) (.inl ()) (.inr ()) ?_ ?_
  ·simp only [EW]at key;rw [key,U3 a b hl];by_cases he:a=b<;>simp [he]
  ·intro i hi;simp only [JM,Cq];rw [if_pos (BU hi),BC (by omega),BC (by omega),zY,CB,Gc i (by omega)]
   rfl
  ·simp only [JM];rw [if_neg (Am _)]
 ·rw [if_neg (by omega)]
  have: ¬a=b:=fun e=>hl (by rw [e])
  simp [this]
theorem wh(a:Fg)(b:Fg)(h0:a.length<549755813888):Y.call 75 [bk 87 (Ak .i64 .i64 a),bk 87 (Ak .i64 .i64 b)] []=some (bp (decide (a=b)),[]):=kN a b (wZ a b h0)
def Ht(a:Ad)(b:Ad)(i:Int):Option ((Int)⊕(Unit⊕Unit)):= if i<(a.length:Int)then ck (0≤i∧i.toNat<a.length)<| ck (0≤i∧i.toNat<b.length)<| ck ((a.getD i.toNat be).length<549755813888)<| if(decide ((a.getD i.toNat be)=(b.getD i.toNat be)))=true then some (bo (bm.wrap (i+1))) else some (bl (bo ())) else some (bl (bl ()))
def Oe(a:Ad)(b:Ad)(v:Int):Option (Unit⊕Unit):=Dq (fun v=>Ht a b v) v
def Ut(a:Ad)(b:Ad):Option (Bool):=
 if(a.length:Int)=(b.length:Int)then
  (Oe a b 0).bind fun AU=>
  match AU with
  | .inl q1000_=>
   some false
  | .inr q1000_=>
   some true
 else
  some false
def qP:SC:= .seq (.seq (.ops [oM 11 5 3,oM 12 0 36,oN 13 12 36,oB 14 .lss 3 (tK 11) (tK 13) 3 4]) (.cond (tK 14) .skip (.exit 0))) (.seq (.block 1 (.seq (.draws [(⟨[17,0,0],RU,[17]⟩,oM 17 0 36),(⟨[18,5,5],RU,[18]⟩,oM 18 5 3),(⟨[19,17,18,0,5],RU,[19]⟩,oI 19 36 17 18),(⟨[20,19,0],RU,[20]⟩,oL 20 79 19 79),(⟨[21,1,1],RU,[21]⟩,oM 21 1 36),(⟨[22,5,5],RU,[22]⟩,oM 22 5 3),(⟨[23,21,22,1,5],RU,[23]⟩,oI 23 36 21 22),(⟨[24,23,1],RU,[24]⟩,oL 24 79 23 79),(⟨[25,20,24,0,1],RU,[25]⟩,oC 25 75 [(tK 20),(tK 24)] [79,79] 4),(⟨[26,25,25],RU,[26]⟩,oX 26 (.unOp .not 4 (tK 25)) 4)]) (.cond (tK 26) (.seq (.ops [oX 4 Ba 4]) .ret) .skip))) (.ops [oM 15 5 3,oB 16 .add 3 (tK 15) (iK 1) 3 3,oA 5 16 3]))
def A55:SC:= .loop qP
def k43:SC:= .seq (.ops [oX 4 Ba 4]) (.seq (.seq (.ops [oM 6 0 36,oN 7 6 36,oM 8 1 36,oN 9 8 36,oB 10 .neq 3 (tK 7) (tK 9) 3 4]) (.cond (tK 10) (.seq (.ops [oX 4 Ba 4]) .ret) .skip)) (.seq (.seq (.ops [oX 5 (.assign (iK 0)) 3]) (.block 0 A55)) (.seq (.ops [oX 4 (.assign Cy) 4]) .ret)))
theorem AE9:Tryz.f43.body.map (BP lends)=some k43:=by kernel_rfl
theorem ARu:BR Tryz.f43 2=true:=by kernel_rfl
theorem c43{a l:List D}{r:D×List D}(h:BS Y.env k43 (fin Aj l.length [bt 4] r) (entry a l))(ha:a.length=2):Y.call 43 a l=some r:=
 AY (Y:=Y) rfl Tryz.func43 (ha▸ARu) AE9 h
def FQ(a:Ad)(b:Ad)(i:Int)(s:St):Prop:=s.v 0=bk 79 (AQ (fun x=>bk 87 (Ak .i64 .i64 x)) a)∧s.v 1=bk 79 (AQ (fun x=>bk 87 (Ak .i64 .i64 x)) b)∧s.v 5=bc .i64 i
def Hu(a:Ad)(b:Ad)(r:Unit⊕Unit)(ex:Ex)(s:St):Prop:=match r with
 | .inl q=>ex= .ret∧s.v 4=bp false
 | .inr q=>ex= .exit 0
theorem Zy(a:Ad)(b:Ad){v:Int}{s:St}{r:Unit⊕Unit}(h:Oe a b v=some r)(hM:FQ a b v s):BS Y.env A55 (Hu a b r) s:=by
 unfold Oe at h;refine Aw (c:=qP) (fun v=>Ht a b v) (fun v s=>FQ a b v s) (Hu a b) ?_ h hM;clear h hM s v r;intro i s o hM h;unfold Ht at h;unfold FQ at hM;obtain⟨m0,m1,m2⟩:=hM;unfold qP;rcases iS h with⟨e2,h⟩|⟨e2,h⟩
 ·obtain⟨e3,e4,e5,h⟩:=NC h;have c6:=wh (a.getD i.toNat be) (b.getD i.toNat be) e5;rcases iS h with⟨e7,h⟩|⟨e7,h⟩
  ·cases h;simp only [↓AJ,AL,↓reduceIte,bj,bh,m0,m1,m2,e2,e3.1,e3.2,e4.2,c6,e7,FQ,Cx]
  ·have e7f:(decide ((a.getD i.toNat be)=(b.getD i.toNat be)))=false:=G8.mpr e7;cases h;simp only [↓AJ,AL,↓reduceIte,bj,bh,m0,m1,m2,e2,e3.1,e3.2,e4.2,c6,e7f,FQ,Hu,QC]
 ·cases h;simp only [↓AJ,AL,↓reduceIte,bj,bh,m0,m2,e2,FQ,Hu,Gf]
theorem fQ(a:Ad)(b:Ad){r:Bool}(h:Ut a b=some r):Y.call 43 [bk 79 (AQ (fun x=>bk 87 (Ak .i64 .i64 x)) a),bk 79 (AQ (fun x=>bk 87 (Ak .i64 .i64 x)) b)] []=some (bp r,[]):=by
 refine c43 ?_ rfl;unfold k43;unfold Ut at h;rcases iS h with⟨e1,h⟩|⟨e1,h⟩
 ·obtain⟨AU,hl3,h⟩:=Ag h;try dsimp only at h
  simp only [↓AJ,AL,↓reduceIte,bj,bh,decide_eq_true e1];refine Al (Zy a b hl3 ?_) ?_
  ·simp only [BK,Cg,↓reduceIte,bj,bh,FQ]
  ·intro ex3 s3 hX3;rcases AU with q1000_|q1000_
   ·unfold Hu at hX3;dsimp only at hX3 h;obtain⟨rfl,n3_0⟩:=hX3;cases h;simp only [↓AJ,AL,↓reduceIte,n3_0]
   ·unfold Hu at hX3;dsimp only at hX3 h
    obtain rfl:=hX3
    cases h;simp only [↓AJ,AL,↓reduceIte,bj,bh]
 ·cases h;simp only [↓AJ,AL,↓reduceIte,bj,bh,e1]
theorem qQ(a b:Ad)(ha:Cf a):Ut a b=some (decide (a=b)):=by
 have h1:=ha.1;unfold Ut Oe;by_cases hl:a.length=b.length
 ·rw [if_pos (by omega)]
  have key:=E9 (fun v=>Ht a b v) (fun i=>(i:Int)) a.length (fun i=>decide (a.getD i be=b.getD i be)) (.inl ()) (.inr ()) ?_ ?_
  ·simp only [EW]at key;rw [key,U3 a b hl];by_cases he:a=b<;>simp [he]
  ·intro i hi;simp only [Ht];rw [if_pos (BU hi),BC (DY hi),BC (DY (by omega)),BC (by rw [GH _ _ hi];exact ha.at i hi),Cq,Gc i (by omega)]<;>simp only [decide_eq_true_eq]
  ·simp only [Ht];rw [if_neg (Am _)]
 ·rw [if_neg (by omega)]
  have: ¬a=b:=fun e=>hl (by rw [e])
  simp [this]
theorem qR(a:Ad)(b:Ad)(h0:Cf a):Y.call 43 [bk 79 (AQ (fun x=>bk 87 (Ak .i64 .i64 x)) a),bk 79 (AQ (fun x=>bk 87 (Ak .i64 .i64 x)) b)] []=some (bp (decide (a=b)),[]):=fQ a b (qQ a b h0)
def Qa(BA:Ad)(Bo BB:AO)(Pq:Ad)(UH KE:AO):Option (Bool):= ck (Cf BA)<| if(decide (BA=Pq))=true then ck (Bo.length<1099511627776)<| if(decide (Bo=UH))=true then ck (BB.length<1099511627776)<| if(decide (BB=KE))=true then some true else some false else some false else some false
def k17:SC:= .seq (.ops [oX 2 (.box 38 (tK 0)) 0,oX 3 (.box 38 (tK 1)) 0,oX 4 Ba 4]) (.seq (.seq (.ops [oF 5 38 2 0,oL 6 36 5 36,oF 7 38 3 0,oL 8 36 7 36,oC 9 43 [(tK 6),(tK 8)] [36,36] 4,oX 10 (.unOp .not 4 (tK 9)) 4]) (.cond (tK 10) (.seq (.ops [oX 4 Ba 4]) .ret) .skip)) (.seq (.seq (.ops [oF 11 38 2 1,oL 12 26 11 26,oF 13 38 3 1,oL 14 26 13 26,oC 15 26 [(tK 12),(tK 14)] [26,26] 4,oX 16 (.unOp .not 4 (tK 15)) 4]) (.cond (tK 16) (.seq (.ops [oX 4 Ba 4]) .ret) .skip)) (.seq (.seq (.ops [oF 17 38 2 2,oL 18 26 17 26,oF 19 38 3 2,oL 20 26 19 26,oC 21 26 [(tK 18),(tK 20)] [26,26] 4,oX 22 (.unOp .not 4 (tK 21)) 4]) (.cond (tK 22) (.seq (.ops [oX 4 Ba 4]) .ret) .skip)) (.seq (.ops [oX 4 (.assign Cy) 4]) .ret))))
theorem AEA:Tryz.f17.body.map (BP lends)=some k17:=by kernel_rfl
theorem ARw:BR Tryz.f17 2=true:=by kernel_rfl
theorem c17{a l:List D}{r:D×List D}(h:BS Y.env k17 (fin Aj l.length [bt 4] r) (entry a l))(ha:a.length=2):Y.call 17 a l=some r:=
 AY (Y:=Y) rfl Tryz.func17 (ha▸ARw) AEA h
theorem YS(BA:Ad)(Bo BB:AO)(Pq:Ad)(UH KE:AO){r:Bool}(h:Qa BA Bo BB Pq UH KE=some r):Y.call 17 [bw [bk 79 (AQ (fun x=>bk 87 (Ak .i64 .i64 x)) BA),bk 3 (AQ (bc .i64) Bo),bk 3 (AQ (bc .i64) BB)],bw [bk 79 (AQ (fun x=>bk 87 (Ak .i64 .i64 x)) Pq),bk 3 (AQ (bc .i64) UH),bk 3 (AQ (bc .i64) KE)]] []=some (bp r,[]):=by
 refine c17 ?_ rfl;unfold k17;unfold Qa at h;obtain⟨e1,h⟩:=Cu h;have c2:=qR BA Pq e1;rcases iS h with⟨e3,h⟩|⟨e3,h⟩
 ·obtain⟨e4,h⟩:=Cu h;have c5:=IU Bo UH e4;rcases iS h with⟨e6,h⟩|⟨e6,h⟩
  ·obtain⟨e7,h⟩:=Cu h;have c8:=IU BB KE e7;rcases iS h with⟨e9,h⟩|⟨e9,h⟩
   ·cases h;simp only [↓AJ,AL,↓reduceIte,bj,bh,c2,e3,c5,e6,c8,e9]
   ·have e9f:(decide (BB=KE))=false:=G8.mpr e9;cases h;simp only [↓AJ,AL,↓reduceIte,bj,bh,c2,e3,c5,e6,c8,e9f]
  ·have e6f:(decide (Bo=UH))=false:=G8.mpr e6;cases h;simp only [↓AJ,AL,↓reduceIte,bj,bh,c2,e3,c5,e6f]
 ·have e3f:(decide (BA=Pq))=false:=G8.mpr e3;cases h;simp only [↓AJ,AL,↓reduceIte,bj,bh,c2,e3f]
def XA(a:Ad)(b c:AO)(a':Ad)(b' c':AO):Bool:=decide (a=a'∧b=b'∧c=c')
theorem zZ(a:Ad)(b c:AO):XA a b c a b c=true:=by simp [XA]
theorem fT(a:Ad)(b c:AO)(a':Ad)(b' c':AO)(h:Cf a)(hb:b.length<1099511627776)(hc:c.length<1099511627776):Qa a b c a' b' c'=some (XA a b c a' b' c'):=by
 unfold Qa XA;rw [BC h,BC hb,BC hc];by_cases h1:a=a'<;>by_cases h2:b=b'<;>by_cases h3:c=c'<;>simp [h1,h2,h3]
theorem UI(BA:Ad)(Bo BB:AO)(Pq:Ad)(UH KE:AO)(h0:Cf BA)(h1:Bo.length<1099511627776)(h2:BB.length<1099511627776):Y.call 17 [bw [bk 79 (AQ (fun x=>bk 87 (Ak .i64 .i64 x)) BA),bk 3 (AQ (bc .i64) Bo),bk 3 (AQ (bc .i64) BB)],bw [bk 79 (AQ (fun x=>bk 87 (Ak .i64 .i64 x)) Pq),bk 3 (AQ (bc .i64) UH),bk 3 (AQ (bc .i64) KE)]] []=some (bp (XA BA Bo BB Pq UH KE),[]):=YS BA Bo BB Pq UH KE (fT BA Bo BB Pq UH KE h0 h1 h2)
def XB(a:Fg)(left:Int):Option (Int):= if(bm.wrap (left-(a.length:Int)))<0 then some (-1) else some (bm.wrap (left-(a.length:Int)))
def k56:SC:= .seq (.ops [oX 4 (.assign (iK 0)) 3]) (.seq (.ops [oM 5 1 3,oM 6 0 78,oN 7 6 78,oB 8 .sub 3 (tK 5) (tK 7) 3 3,oA 1 8 3]) (.seq (.seq (.ops [oM 9 1 3,oB 10 .lss 3 (tK 9) (iK 0) 3 4]) (.cond (tK 10) (.seq (.ops [oX 4 RH 3]) .ret) .skip)) (.seq (.ops [oM 11 1 3,oA 4 11 3]) .ret)))
theorem AEC:Tryz.f56.body.map (BP lends)=some k56:=by kernel_rfl
theorem ARy:BR Tryz.f56 2=true:=by kernel_rfl
theorem c56{a l:List D}{r:D×List D}(h:BS Y.env k56 (fin Aj l.length [bt 4] r) (entry a l))(ha:a.length=2):Y.call 56 a l=some r:=
 AY (Y:=Y) rfl Tryz.func56 (ha▸ARy) AEC h
theorem kP(a:Fg)(left:Int){r:Int}(h:XB a left=some r):Y.call 56 [bk 111 (Ak .i64 .i64 a),bc .i64 left] []=some (bc .i64 r,[]):=by
 refine c56 ?_ rfl;unfold k56;unfold XB at h;rcases iS h with⟨e1,h⟩|⟨e1,h⟩
 ·cases h;simp only [↓AJ,AL,↓reduceIte,bj,bh,e1]
 ·cases h;simp only [↓AJ,AL,↓reduceIte,bj,bh,e1]
theorem wm(a:Fg)(left:Int)(ha:a.length<9223372036854775808)(hl:0≤left∧left≤1048576):XB a left=some (FZ left a.length):=by
 unfold XB FZ;rw [GG _ (by omega)]
 split<;>rfl
theorem wo(a:Fg)(left:Int)(h0:a.length<9223372036854775808)(h1:0≤left∧left≤1048576):Y.call 56 [bk 111 (Ak .i64 .i64 a),bc .i64 left] []=some (bc .i64 (FZ left a.length),[]):=kP a left (wm a left h0 h1)
def Hw(a:Ad)(left1 i:Int):Option ((Int×Int)⊕(Unit⊕Int)):= if i<(a.length:Int)then ck (0≤i∧i.toNat<a.length)<| ck ((a.getD i.toNat be).length<9223372036854775808)<| ck (0≤left1∧left1≤1048576)<| if(FZ left1 (a.getD i.toNat be).length)<0 then some (bl (bo ())) else some (bo ((FZ left1 (a.getD i.toNat be).length),bm.wrap (i+1))) else some (bl (bl left1))
def Ie(a:Ad)(v:Int×Int):Option (Unit⊕Int):=Dq (fun v=>Hw a v.1 v.2) v
def Uu(a:Ad)(left:Int):Option (Int):=
 if(bm.wrap (left-(a.length:Int)))<0 then
  some (-1)
 else
  (Ie a (bm.wrap (left-(a.length:Int)),0)).bind fun AU=>
  match AU with
  | .inl q1000_=>
   some (-1)
  | .inr q1000_=>
   some q1000_
def qU:SC:= .seq (.seq (.ops [oM 12 5 3,oM 13 0 25,oN 14 13 25,oB 15 .lss 3 (tK 12) (tK 14) 3 4]) (.cond (tK 15) .skip (.exit 0))) (.seq (.block 1 (.seq (.ops [oM 18 0 25,oM 19 5 3,oI 20 25 18 19,oL 21 78 20 78,oM 22 1 3,oC 23 56 [(tK 21),(tK 22)] [78,3] 3,oA 1 23 3]) (.seq (.ops [oM 24 1 3,oB 25 .lss 3 (tK 24) (iK 0) 3 4]) (.cond (tK 25) (.seq (.ops [oX 4 RH 3]) .ret) .skip)))) (.ops [oM 16 5 3,oB 17 .add 3 (tK 16) (iK 1) 3 3,oA 5 17 3]))
def A56:SC:= .loop qU
def k31:SC:= .seq (.ops [oX 4 (.assign (iK 0)) 3]) (.seq (.ops [oM 6 1 3,oM 7 0 25,oN 8 7 25,oB 9 .sub 3 (tK 6) (tK 8) 3 3,oA 1 9 3]) (.seq (.seq (.ops [oM 10 1 3,oB 11 .lss 3 (tK 10) (iK 0) 3 4]) (.cond (tK 11) (.seq (.ops [oX 4 RH 3]) .ret) .skip)) (.seq (.seq (.ops [oX 5 (.assign (iK 0)) 3]) (.block 0 A56)) (.seq (.ops [oM 26 1 3,oA 4 26 3]) .ret))))
theorem AED:Tryz.f31.body.map (BP lends)=some k31:=by kernel_rfl
theorem AS0:BR Tryz.f31 2=true:=by kernel_rfl
theorem c31{a l:List D}{r:D×List D}(h:BS Y.env k31 (fin Aj l.length [bt 4] r) (entry a l))(ha:a.length=2):Y.call 31 a l=some r:=
 AY (Y:=Y) rfl Tryz.func31 (ha▸AS0) AED h
def FR(a:Ad)(left1 i:Int)(s:St):Prop:=s.v 0=bk 78 (AQ (fun x=>bk 111 (Ak .i64 .i64 x)) a)∧s.v 1=bc .i64 left1∧s.v 5=bc .i64 i
def Hy(a:Ad)(r:Unit⊕Int)(ex:Ex)(s:St):Prop:=match r with
 | .inl q=>ex= .ret∧s.v 4=bc .i64 (-1)
 | .inr q=>ex= .exit 0∧s.v 1=bc .i64 q
theorem Zz(a:Ad){v:Int×Int}{s:St}{r:Unit⊕Int}(h:Ie a v=some r)(hM:FR a v.1 v.2 s):BS Y.env A56 (Hy a r) s:=by
 unfold Ie at h;refine Aw (c:=qU) (fun v=>Hw a v.1 v.2) (fun v s=>FR a v.1 v.2 s) (Hy a) ?_ h hM;clear h hM s v r;intro v s o hM h;obtain⟨left1,i⟩:=v;dsimp only at h hM;unfold Hw at h;unfold FR at hM;obtain⟨m0,m1,m2⟩:=hM;unfold qU;rcases iS h with⟨e2,h⟩|⟨e2,h⟩
 ·obtain⟨e3,e4,e5,h⟩:=NC h;have c6:=wo (a.getD i.toNat be) left1 e4 e5;rcases iS h with⟨e7,h⟩|⟨e7,h⟩
  ·cases h;simp only [↓AJ,AL,↓reduceIte,bj,bh,m0,m1,m2,e2,e3.1,e3.2,c6,e7,FR,Hy,QC]
  ·cases h;simp only [↓AJ,AL,↓reduceIte,bj,bh,m0,m1,m2,e2,e3.1,e3.2,c6,e7,FR,Cx]
 ·cases h;simp only [↓AJ,AL,↓reduceIte,bj,bh,m0,m1,m2,e2,FR,Hy,Gf]
theorem fU(a:Ad)(left:Int){r:Int}(h:Uu a left=some r):Y.call 31 [bk 78 (AQ (fun x=>bk 111 (Ak .i64 .i64 x)) a),bc .i64 left] []=some (bc .i64 r,[]):=by
 refine c31 ?_ rfl;unfold k31;unfold Uu at h;rcases iS h with⟨e1,h⟩|⟨e1,h⟩
 ·cases h;simp only [↓AJ,AL,↓reduceIte,bj,bh,e1]
 ·obtain⟨AU,hl3,h⟩:=Ag h;try dsimp only at h
  simp only [↓AJ,AL,↓reduceIte,bj,bh,e1];refine Al (Zz a hl3 ?_) ?_
  ·simp only [BK,Cg,↓reduceIte,bj,bh,FR]
  ·intro ex3 s3 hX3;rcases AU with q1000_|q1000_
   ·unfold Hy at hX3;dsimp only at hX3 h;obtain⟨rfl,n3_0⟩:=hX3;cases h;simp only [↓AJ,AL,↓reduceIte,n3_0]
   ·unfold Hy at hX3;dsimp only at hX3 h;obtain⟨rfl,n3_0⟩:=hX3;cases h;simp only [↓AJ,AL,↓reduceIte,bj,bh,n3_0]
def fE(l:Ad):AX:=l.map fun x=>x.map Prod.fst
theorem aB(a:Ad)(ha:a.length<4611686018427387904)(hx: ∀x∈a,x.length<9223372036854775808): ∀(n i:Nat) (left:Int),n=a.length-i→i≤a.length→0≤left∧left≤1048576→
  Ie a (left,(i:Int))=some (if szL left (fE (a.drop i))= -1 then .inl ()else .inr (szL left (fE (a.drop i)))):=by
 intro n
 induction n with
 |zero=>
  intro i left hn hi hl;have e:i=a.length:=by omega
  subst e;unfold Ie;rw [E8 (r:=bl left)]
  ·rw [List.drop_length,show fE []=[]from rfl];unfold szL;rw [if_neg (by omega)]
  ·simp only [Hw];rw [if_neg (Am _)]
 |succ n ih=>
  intro i left hn hi hl;have hlt:i<a.length:=by omega
  have hm:a[i]∈a:=NA hlt;have hxm:=hx _ hm
  have step:Hw a left i=if FZ left a[i].length<0 then some (bl (bo ()))else some (bo (FZ left a[i].length,((i+1:Nat):Int))):=by
   unfold Hw;rw [if_pos (BU hlt),BC (DY hlt),BC (by rw [GH _ _ hlt];exact hxm),BC hl,GH _ _ hlt,Gc i (by omega)]
  rw [ZY hlt,show fE (a[i]::a.drop (i+1))=a[i].map Prod.fst::fE (a.drop (i+1))from rfl];unfold szL;rw [QD];by_cases hq:left-(a[i].length:Int)<0
  ·rw [if_pos hq];unfold Ie;rw [E8 (r:=bo ())]
   ·rfl
   ·rw [step];unfold FZ;rw [if_pos hq];rfl
  ·rw [if_neg hq];have e2:FZ left a[i].length=left-a[i].length:=by unfold FZ;rw [if_neg hq]
   have:=ih (i+1) (left-a[i].length) (by omega) (by omega) (by omega)
   unfold Ie at this ⊢;rw [Lh (s':=(left-(a[i].length:Int),((i+1:Nat):Int))),this]
   ·rw [step,e2,if_neg hq]
def VM(l:Ad):Prop:=l.length<9223372036854775808∧ ∀x∈l,x.length<9223372036854775808
instance (l:Ad):Decidable (VM l):=by unfold VM;infer_instance
theorem qV(a:Ad)(left:Int)(hw:VM a)(hl:0≤left∧left≤1048576):Uu a left=some (FZ left (a.length+CL (fE a))):=by
 have ht:=Cb (fE a);have ha:=hw.1;unfold Uu;rw [GG _ (by omega)]
 by_cases hq:left-(a.length:Int)<0
 ·rw [if_pos hq];unfold FZ;rw [if_pos (by omega)]
 ·rw [if_neg hq];have h0:=aB a (by omega) hw.2 a.length 0 (left-a.length) (by omega) (by omega) (by omega)
  simp only [EW,WC]at h0;rw [h0,CB,A4e _ _ (by omega)]
  have e:FZ (left-a.length) (CL (fE a))=FZ left (a.length+CL (fE a)):=by unfold FZ;rw [show left- ↑a.length-CL (fE a)=left-(↑a.length+CL (fE a)) by omega]
  rw [e];by_cases h1:FZ left (a.length+CL (fE a))= -1
  ·rw [if_pos h1,h1]
  ·rw [if_neg h1]
theorem qW(a:Ad)(left:Int)(h0:VM a)(h1:0≤left∧left≤1048576):Y.call 31 [bk 78 (AQ (fun x=>bk 111 (Ak .i64 .i64 x)) a),bc .i64 left] []=some (bc .i64 (FZ left (a.length+CL (fE a))),[]):=fU a left (qV a left h0 h1)
def Qb(BA:Ad)(Bo BB:AO)(left:Int):Option (Int):= ck (VM BA)<| ck (0≤left∧left≤1048576)<| if(FZ left (BA.length+CL (fE BA)))<0 then some (-1) else ck (Bo.length<9223372036854775808)<| ck (0≤(FZ left (BA.length+CL (fE BA)))∧(FZ left (BA.length+CL (fE BA)))≤1048576)<| if(FZ (FZ left (BA.length+CL (fE BA))) Bo.length)<0 then some (-1) else ck (BB.length<9223372036854775808)<| ck (0≤(FZ (FZ left (BA.length+CL (fE BA))) Bo.length)∧(FZ (FZ left (BA.length+CL (fE BA))) Bo.length)≤1048576)<| if(FZ (FZ (FZ left (BA.length+CL (fE BA))) Bo.length) BB.length)<0 then some (-1) else some (FZ (FZ (FZ left (BA.length+CL (fE BA))) Bo.length) BB.length)
def k8:SC:= .seq (.ops [oX 2 (.box 28 (tK 0)) 0,oX 4 (.assign (iK 0)) 3]) (.seq (.ops [oF 5 28 2 0,oL 6 25 5 25,oM 7 1 3,oC 8 31 [(tK 6),(tK 7)] [25,3] 3,oA 1 8 3]) (.seq (.seq (.ops [oM 9 1 3,oB 10 .lss 3 (tK 9) (iK 0) 3 4]) (.cond (tK 10) (.seq (.ops [oX 4 RH 3]) .ret) .skip)) (.seq (.ops [oF 11 28 2 1,oL 12 26 11 26,oM 13 1 3,oC 14 32 [(tK 12),(tK 13)] [26,3] 3,oA 1 14 3]) (.seq (.seq (.ops [oM 15 1 3,oB 16 .lss 3 (tK 15) (iK 0) 3 4]) (.cond (tK 16) (.seq (.ops [oX 4 RH 3]) .ret) .skip)) (.seq (.ops [oF 17 28 2 2,oL 18 26 17 26,oM 19 1 3,oC 20 32 [(tK 18),(tK 19)] [26,3] 3,oA 1 20 3]) (.seq (.seq (.ops [oM 21 1 3,oB 22 .lss 3 (tK 21) (iK 0) 3 4]) (.cond (tK 22) (.seq (.ops [oX 4 RH 3]) .ret) .skip)) (.seq (.ops [oM 23 1 3,oA 4 23 3]) .ret)))))))
theorem ALw:Tryz.f8.body.map (BP lends)=some k8:=by kernel_rfl
theorem ok8:BR Tryz.f8 2=true:=by kernel_rfl
theorem c8{a l:List D}{r:D×List D}(h:BS Y.env k8 (fin Aj l.length [bt 4] r) (entry a l))(ha:a.length=2):Y.call 8 a l=some r:=
 AY (Y:=Y) rfl Tryz.func8 (ha▸ok8) ALw h
theorem YT(BA:Ad)(Bo BB:AO)(left:Int){r:Int}(h:Qb BA Bo BB left=some r):Y.call 8 [bw [bk 78 (AQ (fun x=>bk 111 (Ak .i64 .i64 x)) BA),bk 3 (AQ (bc .i64) Bo),bk 3 (AQ (bc .i64) BB)],bc .i64 left] []=some (bc .i64 r,[]):=by
 refine c8 ?_ rfl;unfold k8;unfold Qb at h;obtain⟨e1,e2,h⟩:=Dr h;have c3:=qW BA left e1 e2;rcases iS h with⟨e4,h⟩|⟨e4,h⟩
 ·cases h;simp only [↓AJ,AL,↓reduceIte,bj,bh,c3,e4]
 ·obtain⟨e5,e6,h⟩:=Dr h;have c7:=U7 Bo (FZ left (BA.length+CL (fE BA))) e5 e6;rcases iS h with⟨e8,h⟩|⟨e8,h⟩
  ·cases h;simp only [↓AJ,AL,↓reduceIte,bj,bh,c3,e4,c7,e8]
  ·obtain⟨e9,e10,h⟩:=Dr h;have c11:=U7 BB (FZ (FZ left (BA.length+CL (fE BA))) Bo.length) e9 e10;rcases iS h with⟨e12,h⟩|⟨e12,h⟩
   ·cases h;simp only [↓AJ,AL,↓reduceIte,bj,bh,c3,e4,c7,e8,c11,e12]
   ·cases h;simp only [↓AJ,AL,↓reduceIte,bj,bh,c3,e4,c7,e8,c11,e12]
def szW(left:Int)(a:Ad)(b c:AO):Int:=
 if FZ left (a.length+CL (fE a))<0 then-1 else if FZ (FZ left (a.length+CL (fE a))) b.length<0 then-1 else FZ (FZ (FZ left (a.length+CL (fE a))) b.length) c.length
theorem fV(a:Ad)(b c:AO)(left:Int)(ha:VM a)(hb:b.length<9223372036854775808)(hc:c.length<9223372036854775808)(hl:0≤left∧left≤1048576):Qb a b c left=some (szW left a b c):=by
 have ht:=Cb (fE a);unfold Qb szW;rw [BC ha,BC hl];by_cases h1:FZ left (a.length+CL (fE a))<0
 ·rw [if_pos h1,if_pos h1]
 ·rw [if_neg h1,if_neg h1]
  have b1:0≤FZ left (a.length+CL (fE a))∧FZ left (a.length+CL (fE a))≤1048576:=by
   rcases JG left (a.length+CL (fE a))with c|⟨c,c'⟩<;>omega
  rw [BC hb,BC b1];by_cases h2:FZ (FZ left (a.length+CL (fE a))) b.length<0
  ·rw [if_pos h2,if_pos h2]
  ·rw [if_neg h2,if_neg h2]
   have b2:0≤FZ (FZ left (a.length+CL (fE a))) b.length∧FZ (FZ left (a.length+CL (fE a))) b.length≤1048576:=by
    rcases JG (FZ left (a.length+CL (fE a))) b.length with c|⟨c,c'⟩<;>omega
   rw [BC hc,BC b2];by_cases h3:FZ (FZ (FZ left (a.length+CL (fE a))) b.length) c.length<0
   ·rw [if_pos h3];rcases JG (FZ (FZ left (a.length+CL (fE a))) b.length) c.length with d|⟨d,d'⟩
    ·rw [d]
    ·omega
   ·rw [if_neg h3]
theorem fZ(BA:Ad)(Bo BB:AO)(left:Int)(h0:VM BA)(h1:Bo.length<9223372036854775808)(h2:BB.length<9223372036854775808)(h3:0≤left∧left≤1048576):Y.call 8 [bw [bk 78 (AQ (fun x=>bk 111 (Ak .i64 .i64 x)) BA),bk 3 (AQ (bc .i64) Bo),bk 3 (AQ (bc .i64) BB)],bc .i64 left] []=some (bc .i64 (szW left BA Bo BB),[]):=YT BA Bo BB left (fV BA Bo BB left h0 h1 h2 h3)
theorem A7n{a:Ad}{b c:AO}{left:Int}(hl:left≤1048576)(h: ¬szW left a b c<0):a.length+CL (fE a)+b.length+c.length≤1048576∧Cf a∧szW left a b c≤left:=by
 have ht:=Cb (fE a)
 have key:(a.length:Int)+CL (fE a)+b.length+c.length≤1048576∧szW left a b c≤left:=by
  unfold szW at h ⊢;rcases JG left (a.length+CL (fE a))with d|⟨d,d'⟩
  ·rw [d]at h;simp at h
  ·rw [d,if_neg (by omega)]at h
   rw [d,if_neg (by omega)]
   rcases JG (left-(a.length+CL (fE a))) b.length with e|⟨e,e'⟩
   ·rw [e]at h;simp at h
   ·rw [e,if_neg (by omega)]at h
    rw [e,if_neg (by omega)]
    rcases JG (left-(a.length+CL (fE a))-b.length) c.length with g|⟨g,g'⟩
    ·rw [g]at h;simp at h
    ·rw [g];omega
 refine⟨key.1,⟨by omega,fun x hx=> ?_⟩,key.2⟩
 have:x.map Prod.fst∈fE a:=MI.2 ⟨x,hx,rfl⟩
 have:=A0Y this
 rw [QD]at this;omega
theorem A57{l:Ad}(h:zH l):VM l:=⟨xZ h.1 (by decide),fun x hx=>xZ (h.2 x hx).1 (by decide)⟩
end Go.Proofs.YtiehjihckndgkaaGreat
end
