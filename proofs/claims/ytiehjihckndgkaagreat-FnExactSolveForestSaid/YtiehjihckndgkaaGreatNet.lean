/- Functions of the program as plain functions, and what they compute. Conditions: those in each lemma. -/
import Derived.Test.YtiehjihckndgkaaGreatL6
import Derived.Test.YtiehjihckndgkaaGreatDt
open Dv.D renaming int → bc,sl → bk,bool → bp,own → br,agg → bw
open Nat renaming reduceLT → bh,reduceEqDiff → bj,reduceAdd → bx,reduceLeDiff → b5
open Inhabited renaming default → be
open Sum renaming inr → bl,inl → bo
open Go.IntKind renaming i64 → bm,u64 → bO
open Go.ResultVar renaming tmp → bt
open List renaming replicate → ap,range → ao,pairwise_cons → b6
open Go renaming FuncId → an
open Int renaming reduceNeg → b4
noncomputable section
namespace Go.Proofs.YtiehjihckndgkaaGreat
open Go Dv
set_option linter.unusedSimpArgs false
set_option linter.unusedVariables false
set_option maxRecDepth 100000
set_option maxHeartbeats 4000000
def BK(l:AV):Prop:=l.length<1099511627776∧ ∀x∈l,x.length<1099511627776
theorem BK.nil:BK []:=⟨by decide,fun _ h=>by cases h⟩
theorem BK.at{l:AV}(h:BK l)(i:Nat)(hi:i<l.length):l[i].length<1099511627776:=h.2 _ (O6 hi)
instance (l:AV):Decidable (BK l):=by unfold BK;infer_instance
theorem ae{α:Type}[Inhabited α](xs:List α)(i:Nat)(h:i<xs.length)(z:α):(xs.take i++ap (xs.length-i) z).set i xs[i]=xs.take (i+1)++ap (xs.length-(i+1)) z:=by
 have e:xs.length-i=(xs.length-(i+1))+1:=by omega
 rw [e,tX,mX _ _ (by simp;omega),mV h]
 have:i-(xs.take i).length=0:=by simp;omega
 rw [this,tY,NV];rfl
def JV(a out:AU)(i:Int):Option ((AU×Int)⊕(AU)):= if i<(a.length:Int)then ck (0≤i∧i.toNat<a.length)<| ck (0≤i∧i.toNat<out.length)<| some (bo ((out.set i.toNat (a.getD i.toNat be)),bm.wrap (i+1))) else some (bl out)
def QZ(a:AU)(v:AU×Int):Option (AU):=E9 (fun v=>JV a v.1 v.2) v
def Wy(a:AU):Option (AU):= ck (0≤(a.length:Int)∧(a.length:Int)<1099511627776)<| (QZ a ((ap a.length 0),0)).bind fun AX=> some AX
def o8:SC:= .seq (.seq (.ops [oM 8 4 3,oM 9 0 26,oN 10 9 26,oB 11 .lss 3 (tK 8) (tK 10) 3 4]) (.cond (tK 11) .skip (.exit 0))) (.seq (.block 1 (.ops [oM 14 3 26,oM 15 4 3,oM 16 0 26,oM 17 4 3,oI 18 26 16 17,oL 19 3 18 3,oI 20 26 14 15,oS 3 20 19])) (.ops [oM 12 4 3,oB 13 .add 3 (tK 12) (iK 1) 3 3,oA 4 13 3]))
def A4D:SC:= .loop o8
def k38:SC:= .seq (.ops [oX 2 Gt 26]) (.seq (.ops [oM 5 0 26,oN 6 5 26,oX 7 (.makeSlice 26 (tK 6) (tK 6)) 26,oA 3 7 26]) (.seq (.seq (.ops [oX 4 (.assign (iK 0)) 3]) (.block 0 A4D)) (.seq (.ops [oM 21 3 26,oA 2 21 26]) .ret)))
theorem ACs:Tryz.f38.body.map (BQ lends)=some k38:=by kernel_rfl
theorem AQ0:BV Tryz.f38 1=true:=by kernel_rfl
theorem c38{a l:List D}{r:D×List D}(h:BU Y.env k38 (fin Ai l.length [bt 2] r) (entry a l))(ha:a.length=1):Y.call 38 a l=some r:=
 AY (Y:=Y) rfl Tryz.func38 (ha▸AQ0) ACs h
def JW(a out:AU)(i:Int)(s:St):Prop:=s.v 0=bk 3 (AR (bc .i64) a)∧s.v 3=br 3 (AR (bc .i64) out)∧s.v 4=bc .i64 i
def Nl(a:AU)(r:AU)(ex:Ex)(s:St):Prop:=ex= .exit 0∧s.v 3=br 3 (AR (bc .i64) r)
theorem dW(a:AU){v:AU×Int}{s:St}{r:AU}(h:QZ a v=some r)(hM:JW a v.1 v.2 s):BU Y.env A4D (Nl a r) s:=by
 unfold QZ at h;refine Aw (c:=o8) (fun v=>JV a v.1 v.2) (fun v s=>JW a v.1 v.2 s) (Nl a) ?_ h hM;clear h hM s v r;intro v s o hM h;obtain⟨out,i⟩:=v;dsimp only at h hM;unfold JV at h;unfold JW at hM;obtain⟨m0,m1,m2⟩:=hM;unfold o8;rcases iS h with⟨e2,h⟩|⟨e2,h⟩
 ·obtain⟨e3,e4,h⟩:=EC h;cases h;simp only [↓AO,AP,↓reduceIte,bj,bh,m0,m1,m2,e2,e3.1,e3.2,e4.2,JW,D6]
 ·cases h;simp only [↓AO,AP,↓reduceIte,bj,bh,m0,m1,m2,e2,JW,Nl,GH]
theorem je(a:AU){r:AU}(h:Wy a=some r):Y.call 38 [bk 3 (AR (bc .i64) a)] []=some (br 3 (AR (bc .i64) r),[]):=by
 refine c38 ?_ rfl;unfold k38;unfold Wy at h;obtain⟨e1,h⟩:=De h;obtain⟨AX,hl3,h⟩:=Ag h;try dsimp only at h
 simp only [↓AO,AP,↓reduceIte,bj,bh,b5,e1.1,e1.2];refine Ak (dW a hl3 ?_) ?_
 ·simp only [BL,Cv,↓reduceIte,bj,bh,JW]
 ·intro ex3 s3 hX3;unfold Nl at hX3;obtain⟨rfl,n3_0⟩:=hX3;cases h;simp only [↓AO,AP,↓reduceIte,bj,bh,n3_0]
theorem vg(a:AU)(h:a.length<1099511627776):Wy a=some a:=by
 have key:=CO (fun v=>JV a v.1 v.2) (fun i=>(a.take i++ap (a.length-i) 0,(i:Int))) a.length a ?_ ?_
 ·unfold Wy QZ;rw [BC (by omega)]
  simp only [bD,PW,Nat.sub_zero,Et]at key;rw [key];rfl
 ·intro i hi;simp only [JV];rw [if_pos (BX hi),BC (Dl hi),BC (Dl (by simp;omega)),GI _ _ hi,Cg,ae a i hi 0,Gf i (by omega)]
 ·simp only [JV];rw [if_neg (Am _)];simp
theorem U4(a:AU)(h0:a.length<1099511627776):Y.call 38 [bk 3 (AR (bc .i64) a)] []=some (br 3 (AR (bc .i64) a),[]):=je a (vg a h0)
def H5(a out:AV)(i:Int):Option ((AV×Int)⊕(AV)):= if i<(a.length:Int)then ck (0≤i∧i.toNat<a.length)<| ck ((a.getD i.toNat be).length<1099511627776)<| ck (0≤i∧i.toNat<out.length)<| some (bo ((out.set i.toNat (a.getD i.toNat be)),bm.wrap (i+1))) else some (bl out)
def Oq(a:AV)(v:AV×Int):Option (AV):=E9 (fun v=>H5 a v.1 v.2) v
def Un(a:AV):Option (AV):= ck (0≤(a.length:Int)∧(a.length:Int)<1099511627776)<| (Oq a ((ap a.length ([]:AU)),0)).bind fun AX=> some AX
def o9:SC:= .seq (.seq (.ops [oM 8 4 3,oM 9 0 22,oN 10 9 22,oB 11 .lss 3 (tK 8) (tK 10) 3 4]) (.cond (tK 11) .skip (.exit 0))) (.seq (.block 1 (.ops [oM 14 3 22,oM 15 4 3,oM 16 0 22,oM 17 4 3,oI 18 22 16 17,oL 19 26 18 26,oC 20 38 [(tK 19)] [26] 26,oI 21 22 14 15,oS 26 21 20])) (.ops [oM 12 4 3,oB 13 .add 3 (tK 12) (iK 1) 3 3,oA 4 13 3]))
def A4E:SC:= .loop o9
def k13:SC:= .seq (.ops [oX 2 Gt 22]) (.seq (.ops [oM 5 0 22,oN 6 5 22,oX 7 (.makeSlice 22 (tK 6) (tK 6)) 22,oA 3 7 22]) (.seq (.seq (.ops [oX 4 (.assign (iK 0)) 3]) (.block 0 A4E)) (.seq (.ops [oM 22 3 22,oA 2 22 22]) .ret)))
theorem ACt:Tryz.f13.body.map (BQ lends)=some k13:=by kernel_rfl
theorem AQ2:BV Tryz.f13 1=true:=by kernel_rfl
theorem c13{a l:List D}{r:D×List D}(h:BU Y.env k13 (fin Ai l.length [bt 2] r) (entry a l))(ha:a.length=1):Y.call 13 a l=some r:=
 AY (Y:=Y) rfl Tryz.func13 (ha▸AQ2) ACt h
def H6(a out:AV)(i:Int)(s:St):Prop:=s.v 0=bk 26 (AR Ba a)∧s.v 3=br 26 (AR Ew out)∧s.v 4=bc .i64 i
def Ma(a:AV)(r:AV)(ex:Ex)(s:St):Prop:=ex= .exit 0∧s.v 3=br 26 (AR Ew r)
theorem Zd(a:AV){v:AV×Int}{s:St}{r:AV}(h:Oq a v=some r)(hM:H6 a v.1 v.2 s):BU Y.env A4E (Ma a r) s:=by
 unfold Oq at h;refine Aw (c:=o9) (fun v=>H5 a v.1 v.2) (fun v s=>H6 a v.1 v.2 s) (Ma a) ?_ h hM;clear h hM s v r;intro v s o hM h;obtain⟨out,i⟩:=v;dsimp only at h hM;unfold H5 at h;unfold H6 at hM;obtain⟨m0,m1,m2⟩:=hM;unfold o9;rcases iS h with⟨e2,h⟩|⟨e2,h⟩
 ·obtain⟨e3,e4,h⟩:=EC h;have c5:=U4 (a.getD i.toNat be) e4;obtain⟨e6,h⟩:=De h;cases h;simp only [↓AO,AP,↓reduceIte,bj,bh,m0,m1,m2,e2,e3.1,e3.2,c5,e6.2,H6,D6]
 ·cases h;simp only [↓AO,AP,↓reduceIte,bj,bh,m0,m1,m2,e2,H6,Ma,GH]
theorem dX(a:AV){r:AV}(h:Un a=some r):Y.call 13 [bk 26 (AR Ba a)] []=some (br 26 (AR Ew r),[]):=by
 refine c13 ?_ rfl;unfold k13;unfold Un at h;obtain⟨e1,h⟩:=De h;obtain⟨AX,hl3,h⟩:=Ag h;try dsimp only at h
 simp only [↓AO,AP,↓reduceIte,bj,bh,b5,e1.1,e1.2];refine Ak (Zd a hl3 ?_) ?_
 ·simp only [BL,Cv,↓reduceIte,bj,bh,H6]
 ·intro ex3 s3 hX3;unfold Ma at hX3;obtain⟨rfl,n3_0⟩:=hX3;cases h;simp only [↓AO,AP,↓reduceIte,bj,bh,n3_0]
theorem oD(a:AV)(h:BK a):Un a=some a:=by
 have h1:=h.1;have key:=CO (fun v=>H5 a v.1 v.2) (fun i=>(a.take i++ap (a.length-i) [],(i:Int))) a.length a ?_ ?_
 ·unfold Un Oq;rw [BC (by omega)]
  simp only [bD,PW,Nat.sub_zero,Et]at key;rw [key];rfl
 ·intro i hi;simp only [H5];rw [if_pos (BX hi),BC (Dl hi),BC (by rw [GI _ _ hi];exact h.at i hi),BC (Dl (by simp;omega)),GI _ _ hi,Cg,ae a i hi [],Gf i (by omega)]
 ·simp only [H5];rw [if_neg (Am _)];simp
theorem Wz(a:AV)(h0:BK a):Y.call 13 [bk 26 (AR Ba a)] []=some (br 26 (AR Ew a),[]):=dX a (oD a h0)
def JX(a b:AU)(i:Int):Option ((Int)⊕(Unit⊕Unit)):= if i<(a.length:Int)then ck (0≤i∧i.toNat<a.length)<| ck (0≤i∧i.toNat<b.length)<| if(a.getD i.toNat be)=(b.getD i.toNat be)then some (bo (bm.wrap (i+1))) else some (bl (bo ())) else some (bl (bl ()))
def Qa(a b:AU)(v:Int):Option (Unit⊕Unit):=E9 (fun v=>JX a b v) v
def X0(a b:AU):Option (Bool):=
 if(a.length:Int)=(b.length:Int)then
  (Qa a b 0).bind fun AX=>
  match AX with
  | .inl q1000_=>
   some false
  | .inr q1000_=>
   some true
 else
  some false
abbrev qd6:List Nat:=[17,18,19,20,21,22,23,24,25]
def oG:SC:= .seq (.seq (.ops [oM 11 5 3,oM 12 0 26,oN 13 12 26,oB 14 .lss 3 (tK 11) (tK 13) 3 4]) (.cond (tK 14) .skip (.exit 0))) (.seq (.block 1 (.seq (.draws [(⟨[17,0,0],qd6,[17]⟩,oM 17 0 26),(⟨[18,5,5],qd6,[18]⟩,oM 18 5 3),(⟨[19,17,18,0,5],qd6,[19]⟩,oI 19 26 17 18),(⟨[20,19,0],qd6,[20]⟩,oL 20 3 19 3),(⟨[21,1,1],qd6,[21]⟩,oM 21 1 26),(⟨[22,5,5],qd6,[22]⟩,oM 22 5 3),(⟨[23,21,22,1,5],qd6,[23]⟩,oI 23 26 21 22),(⟨[24,23,1],qd6,[24]⟩,oL 24 3 23 3),(⟨[25,20,24,0,1],qd6,[25]⟩,oB 25 .neq 3 (tK 20) (tK 24) 3 4)]) (.cond (tK 25) (.seq (.ops [oX 4 BR 4]) .ret) .skip))) (.ops [oM 15 5 3,oB 16 .add 3 (tK 15) (iK 1) 3 3,oA 5 16 3]))
def A4F:SC:= .loop oG
def k26:SC:= .seq (.ops [oX 4 BR 4]) (.seq (.seq (.ops [oM 6 0 26,oN 7 6 26,oM 8 1 26,oN 9 8 26,oB 10 .neq 3 (tK 7) (tK 9) 3 4]) (.cond (tK 10) (.seq (.ops [oX 4 BR 4]) .ret) .skip)) (.seq (.seq (.ops [oX 5 (.assign (iK 0)) 3]) (.block 0 A4F)) (.seq (.ops [oX 4 (.assign Ck) 4]) .ret)))
theorem ACu:Tryz.f26.body.map (BQ lends)=some k26:=by kernel_rfl
theorem AQ4:BV Tryz.f26 2=true:=by kernel_rfl
theorem c26{a l:List D}{r:D×List D}(h:BU Y.env k26 (fin Ai l.length [bt 4] r) (entry a l))(ha:a.length=2):Y.call 26 a l=some r:=
 AY (Y:=Y) rfl Tryz.func26 (ha▸AQ4) ACu h
def Gg(a b:AU)(i:Int)(s:St):Prop:=s.v 0=bk 3 (AR (bc .i64) a)∧s.v 1=bk 3 (AR (bc .i64) b)∧s.v 5=bc .i64 i
def JY(a b:AU)(r:Unit⊕Unit)(ex:Ex)(s:St):Prop:=match r with
 | .inl q=>ex= .ret∧s.v 4=bp false
 | .inr q=>ex= .exit 0
theorem dY(a b:AU){v:Int}{s:St}{r:Unit⊕Unit}(h:Qa a b v=some r)(hM:Gg a b v s):BU Y.env A4F (JY a b r) s:=by
 unfold Qa at h;refine Aw (c:=oG) (fun v=>JX a b v) (fun v s=>Gg a b v s) (JY a b) ?_ h hM;clear h hM s v r;intro i s o hM h;unfold JX at h;unfold Gg at hM;obtain⟨m0,m1,m2⟩:=hM;unfold oG;rcases iS h with⟨e2,h⟩|⟨e2,h⟩
 ·obtain⟨e3,e4,h⟩:=EC h;rcases iS h with⟨e5,h⟩|⟨e5,h⟩
  ·cases h;simp only [↓AO,AP,↓reduceIte,bj,bh,m0,m1,m2,e2,e3.1,e3.2,e4.2,decide_eq_true e5,Gg,D6]
  ·cases h;simp only [↓AO,AP,↓reduceIte,bj,bh,m0,m1,m2,e2,e3.1,e3.2,e4.2,e5,Gg,JY,OC]
 ·cases h;simp only [↓AO,AP,↓reduceIte,bj,bh,m0,m2,e2,Gg,JY,GH]
theorem jf(a b:AU){r:Bool}(h:X0 a b=some r):Y.call 26 [bk 3 (AR (bc .i64) a),bk 3 (AR (bc .i64) b)] []=some (bp r,[]):=by
 refine c26 ?_ rfl;unfold k26;unfold X0 at h;rcases iS h with⟨e1,h⟩|⟨e1,h⟩
 ·obtain⟨AX,hl3,h⟩:=Ag h;try dsimp only at h
  simp only [↓AO,AP,↓reduceIte,bj,bh,decide_eq_true e1];refine Ak (dY a b hl3 ?_) ?_
  ·simp only [BL,Cv,↓reduceIte,bj,bh,Gg]
  ·intro ex3 s3 hX3;rcases AX with q1000_|q1000_
   ·unfold JY at hX3;dsimp only at hX3 h;obtain⟨rfl,n3_0⟩:=hX3;cases h;simp only [↓AO,AP,↓reduceIte,n3_0]
   ·unfold JY at hX3;dsimp only at hX3 h
    obtain rfl:=hX3
    cases h;simp only [↓AO,AP,↓reduceIte,bj,bh]
 ·cases h;simp only [↓AO,AP,↓reduceIte,bj,bh,e1]
theorem vk(a b:AU)(ha:a.length<1099511627776):X0 a b=some (decide (a=b)):=by
 unfold X0 Qa;by_cases hl:a.length=b.length
 ·rw [if_pos (by omega)]
  have key:=Df (fun v=>JX a b v) (fun i=>(i:Int)) a.length (fun i=>decide (a.getD i be=b.getD i be)) (.inl ()) (.inr ()) ?_ ?_
  ·simp only [Et]at key;rw [key,U1 a b hl];by_cases he:a=b<;>simp [he]
  ·intro i hi;simp only [JX];rw [if_pos (BX hi),BC (Dl hi),BC (Dl (by omega)),Cg,Gf i (by omega)]<;>simp only [decide_eq_true_eq]
  ·simp only [JX];rw [if_neg (Am _)]
 ·rw [if_neg (by omega)]
  have: ¬a=b:=fun e=>hl (by rw [e])
  simp [this]
theorem U5(a b:AU)(h0:a.length<1099511627776):Y.call 26 [bk 3 (AR (bc .i64) a),bk 3 (AR (bc .i64) b)] []=some (bp (decide (a=b)),[]):=jf a b (vk a b h0)
def H7(a b:AV)(i:Int):Option ((Int)⊕(Unit⊕Unit)):= if i<(a.length:Int)then ck (0≤i∧i.toNat<a.length)<| ck (0≤i∧i.toNat<b.length)<| ck ((a.getD i.toNat be).length<1099511627776)<| if(decide ((a.getD i.toNat be)=(b.getD i.toNat be)))=true then some (bo (bm.wrap (i+1))) else some (bl (bo ())) else some (bl (bl ()))
def Ot(a b:AV)(v:Int):Option (Unit⊕Unit):=E9 (fun v=>H7 a b v) v
def Uo(a b:AV):Option (Bool):=
 if(a.length:Int)=(b.length:Int)then
  (Ot a b 0).bind fun AX=>
  match AX with
  | .inl q1000_=>
   some false
  | .inr q1000_=>
   some true
 else
  some false
abbrev qd7:List Nat:=[17,18,19,20,21,22,23,24,25,26]
def oH:SC:= .seq (.seq (.ops [oM 11 5 3,oM 12 0 22,oN 13 12 22,oB 14 .lss 3 (tK 11) (tK 13) 3 4]) (.cond (tK 14) .skip (.exit 0))) (.seq (.block 1 (.seq (.draws [(⟨[17,0,0],qd7,[17]⟩,oM 17 0 22),(⟨[18,5,5],qd7,[18]⟩,oM 18 5 3),(⟨[19,17,18,0,5],qd7,[19]⟩,oI 19 22 17 18),(⟨[20,19,0],qd7,[20]⟩,oL 20 26 19 26),(⟨[21,1,1],qd7,[21]⟩,oM 21 1 22),(⟨[22,5,5],qd7,[22]⟩,oM 22 5 3),(⟨[23,21,22,1,5],qd7,[23]⟩,oI 23 22 21 22),(⟨[24,23,1],qd7,[24]⟩,oL 24 26 23 26),(⟨[25,20,24,0,1],qd7,[25]⟩,oC 25 26 [(tK 20),(tK 24)] [26,26] 4),(⟨[26,25,25],qd7,[26]⟩,oX 26 (.unOp .not 4 (tK 25)) 4)]) (.cond (tK 26) (.seq (.ops [oX 4 BR 4]) .ret) .skip))) (.ops [oM 15 5 3,oB 16 .add 3 (tK 15) (iK 1) 3 3,oA 5 16 3]))
def A4G:SC:= .loop oH
def k15:SC:= .seq (.ops [oX 4 BR 4]) (.seq (.seq (.ops [oM 6 0 22,oN 7 6 22,oM 8 1 22,oN 9 8 22,oB 10 .neq 3 (tK 7) (tK 9) 3 4]) (.cond (tK 10) (.seq (.ops [oX 4 BR 4]) .ret) .skip)) (.seq (.seq (.ops [oX 5 (.assign (iK 0)) 3]) (.block 0 A4G)) (.seq (.ops [oX 4 (.assign Ck) 4]) .ret)))
theorem ACv:Tryz.f15.body.map (BQ lends)=some k15:=by kernel_rfl
theorem AQ6:BV Tryz.f15 2=true:=by kernel_rfl
theorem c15{a l:List D}{r:D×List D}(h:BU Y.env k15 (fin Ai l.length [bt 4] r) (entry a l))(ha:a.length=2):Y.call 15 a l=some r:=
 AY (Y:=Y) rfl Tryz.func15 (ha▸AQ6) ACv h
def FU(a b:AV)(i:Int)(s:St):Prop:=s.v 0=bk 26 (AR Ba a)∧s.v 1=bk 26 (AR Ba b)∧s.v 5=bc .i64 i
def H8(a b:AV)(r:Unit⊕Unit)(ex:Ex)(s:St):Prop:=match r with
 | .inl q=>ex= .ret∧s.v 4=bp false
 | .inr q=>ex= .exit 0
theorem Ze(a b:AV){v:Int}{s:St}{r:Unit⊕Unit}(h:Ot a b v=some r)(hM:FU a b v s):BU Y.env A4G (H8 a b r) s:=by
 unfold Ot at h;refine Aw (c:=oH) (fun v=>H7 a b v) (fun v s=>FU a b v s) (H8 a b) ?_ h hM;clear h hM s v r;intro i s o hM h;unfold H7 at h;unfold FU at hM;obtain⟨m0,m1,m2⟩:=hM;unfold oH;rcases iS h with⟨e2,h⟩|⟨e2,h⟩
 ·obtain⟨e3,e4,e5,h⟩:=Om h;have c6:=U5 (a.getD i.toNat be) (b.getD i.toNat be) e5;rcases iS h with⟨e7,h⟩|⟨e7,h⟩
  ·cases h;simp only [↓AO,AP,↓reduceIte,bj,bh,m0,m1,m2,e2,e3.1,e3.2,e4.2,c6,e7,FU,D6]
  ·have e7f:(decide ((a.getD i.toNat be)=(b.getD i.toNat be)))=false:=Es.mpr e7;cases h;simp only [↓AO,AP,↓reduceIte,bj,bh,m0,m1,m2,e2,e3.1,e3.2,e4.2,c6,e7f,FU,H8,OC]
 ·cases h;simp only [↓AO,AP,↓reduceIte,bj,bh,m0,m2,e2,FU,H8,GH]
theorem dZ(a b:AV){r:Bool}(h:Uo a b=some r):Y.call 15 [bk 26 (AR Ba a),bk 26 (AR Ba b)] []=some (bp r,[]):=by
 refine c15 ?_ rfl;unfold k15;unfold Uo at h;rcases iS h with⟨e1,h⟩|⟨e1,h⟩
 ·obtain⟨AX,hl3,h⟩:=Ag h;try dsimp only at h
  simp only [↓AO,AP,↓reduceIte,bj,bh,decide_eq_true e1];refine Ak (Ze a b hl3 ?_) ?_
  ·simp only [BL,Cv,↓reduceIte,bj,bh,FU]
  ·intro ex3 s3 hX3;rcases AX with q1000_|q1000_
   ·unfold H8 at hX3;dsimp only at hX3 h;obtain⟨rfl,n3_0⟩:=hX3;cases h;simp only [↓AO,AP,↓reduceIte,n3_0]
   ·unfold H8 at hX3;dsimp only at hX3 h
    obtain rfl:=hX3
    cases h;simp only [↓AO,AP,↓reduceIte,bj,bh]
 ·cases h;simp only [↓AO,AP,↓reduceIte,bj,bh,e1]
theorem oJ(a b:AV)(ha:BK a):Uo a b=some (decide (a=b)):=by
 have h1:=ha.1;unfold Uo Ot;by_cases hl:a.length=b.length
 ·rw [if_pos (by omega)]
  have key:=Df (fun v=>H7 a b v) (fun i=>(i:Int)) a.length (fun i=>decide (a.getD i be=b.getD i be)) (.inl ()) (.inr ()) ?_ ?_
  ·simp only [Et]at key;rw [key,U1 a b hl];by_cases he:a=b<;>simp [he]
  ·intro i hi;simp only [H7];rw [if_pos (BX hi),BC (Dl hi),BC (Dl (by omega)),BC (by rw [GI _ _ hi];exact ha.at i hi),Cg,Gf i (by omega)]<;>simp only [decide_eq_true_eq]
  ·simp only [H7];rw [if_neg (Am _)]
 ·rw [if_neg (by omega)]
  have: ¬a=b:=fun e=>hl (by rw [e])
  simp [this]
theorem Il(a b:AV)(h0:BK a):Y.call 15 [bk 26 (AR Ba a),bk 26 (AR Ba b)] []=some (bp (decide (a=b)),[]):=dZ a b (oJ a b h0)
def Fj(left n:Int):Int:=if left-n<0 then-1 else left-n
theorem JZ(left n:Int):Fj left n= -1∨(Fj left n=left-n∧0≤left-n):=by unfold Fj;split<;>omega
def Bw(l:AV):Int:=(l.map fun xs=>(xs.length:Int)).sum
theorem af:Bw []=0:=rfl
theorem Lp(x:AU)(l:AV):Bw (x::l)=x.length+Bw l:=rfl
theorem CE(l:AV):0≤Bw l:=by
 induction l with
 |nil=>rw [af];omega
 |cons x l ih=>rw [Lp];omega
theorem A0K{l:AV}{x:AU}(h:x∈l):(x.length:Int)≤Bw l:=by
 induction l with
 |nil=>cases h
 |cons y l ih=>
  rw [Lp];have:=CE l
  rcases TF.1 h with rfl|h
  ·omega
  ·have:=ih h;omega
theorem lq{l:AV}(h:l.length+Bw l<1099511627776):BK l:=by
 have:=CE l
 exact⟨by omega,fun x hx=>by have:=A0K hx;omega⟩
def X3(a:AU)(left:Int):Option (Int):= if(bm.wrap (left-(a.length:Int)))<0 then some (-1) else some (bm.wrap (left-(a.length:Int)))
def k32:SC:= .seq (.ops [oX 4 (.assign (iK 0)) 3]) (.seq (.ops [oM 5 1 3,oM 6 0 26,oN 7 6 26,oB 8 .sub 3 (tK 5) (tK 7) 3 3,oA 1 8 3]) (.seq (.seq (.ops [oM 9 1 3,oB 10 .lss 3 (tK 9) (iK 0) 3 4]) (.cond (tK 10) (.seq (.ops [oX 4 RV 3]) .ret) .skip)) (.seq (.ops [oM 11 1 3,oA 4 11 3]) .ret)))
theorem ACw:Tryz.f32.body.map (BQ lends)=some k32:=by kernel_rfl
theorem AQ8:BV Tryz.f32 2=true:=by kernel_rfl
theorem c32{a l:List D}{r:D×List D}(h:BU Y.env k32 (fin Ai l.length [bt 4] r) (entry a l))(ha:a.length=2):Y.call 32 a l=some r:=
 AY (Y:=Y) rfl Tryz.func32 (ha▸AQ8) ACw h
theorem jg(a:AU)(left:Int){r:Int}(h:X3 a left=some r):Y.call 32 [bk 3 (AR (bc .i64) a),bc .i64 left] []=some (bc .i64 r,[]):=by
 refine c32 ?_ rfl;unfold k32;unfold X3 at h;rcases iS h with⟨e1,h⟩|⟨e1,h⟩
 ·cases h;simp only [↓AO,AP,↓reduceIte,bj,bh,e1]
 ·cases h;simp only [↓AO,AP,↓reduceIte,bj,bh,e1]
theorem vo(a:AU)(left:Int)(ha:a.length<9223372036854775808)(hl:0≤left∧left≤1048576):X3 a left=some (Fj left a.length):=by
 unfold X3 Fj;rw [Ib _ (by omega)]
 split<;>rfl
theorem U6(a:AU)(left:Int)(h0:a.length<9223372036854775808)(h1:0≤left∧left≤1048576):Y.call 32 [bk 3 (AR (bc .i64) a),bc .i64 left] []=some (bc .i64 (Fj left a.length),[]):=jg a left (vo a left h0 h1)
def H9(a:AV)(left1 i:Int):Option ((Int×Int)⊕(Unit⊕Int)):= if i<(a.length:Int)then ck (0≤i∧i.toNat<a.length)<| ck ((a.getD i.toNat be).length<9223372036854775808)<| ck (0≤left1∧left1≤1048576)<| if(Fj left1 (a.getD i.toNat be).length)<0 then some (bl (bo ())) else some (bo ((Fj left1 (a.getD i.toNat be).length),bm.wrap (i+1))) else some (bl (bl left1))
def Im(a:AV)(v:Int×Int):Option (Unit⊕Int):=E9 (fun v=>H9 a v.1 v.2) v
def RX(a:AV)(left:Int):Option (Int):=
 if(bm.wrap (left-(a.length:Int)))<0 then
  some (-1)
 else
  (Im a (bm.wrap (left-(a.length:Int)),0)).bind fun AX=>
  match AX with
  | .inl q1000_=>
   some (-1)
  | .inr q1000_=>
   some q1000_
def yz:SC:= .seq (.seq (.ops [oM 12 5 3,oM 13 0 22,oN 14 13 22,oB 15 .lss 3 (tK 12) (tK 14) 3 4]) (.cond (tK 15) .skip (.exit 0))) (.seq (.block 1 (.seq (.ops [oM 18 0 22,oM 19 5 3,oI 20 22 18 19,oL 21 26 20 26,oM 22 1 3,oC 23 32 [(tK 21),(tK 22)] [26,3] 3,oA 1 23 3]) (.seq (.ops [oM 24 1 3,oB 25 .lss 3 (tK 24) (iK 0) 3 4]) (.cond (tK 25) (.seq (.ops [oX 4 RV 3]) .ret) .skip)))) (.ops [oM 16 5 3,oB 17 .add 3 (tK 16) (iK 1) 3 3,oA 5 17 3]))
def AB5:SC:= .loop yz
def k9:SC:= .seq (.ops [oX 4 (.assign (iK 0)) 3]) (.seq (.ops [oM 6 1 3,oM 7 0 22,oN 8 7 22,oB 9 .sub 3 (tK 6) (tK 8) 3 3,oA 1 9 3]) (.seq (.seq (.ops [oM 10 1 3,oB 11 .lss 3 (tK 10) (iK 0) 3 4]) (.cond (tK 11) (.seq (.ops [oX 4 RV 3]) .ret) .skip)) (.seq (.seq (.ops [oX 5 (.assign (iK 0)) 3]) (.block 0 AB5)) (.seq (.ops [oM 26 1 3,oA 4 26 3]) .ret))))
theorem AL1:Tryz.f9.body.map (BQ lends)=some k9:=by kernel_rfl
theorem ok9:BV Tryz.f9 2=true:=by kernel_rfl
theorem c9{a l:List D}{r:D×List D}(h:BU Y.env k9 (fin Ai l.length [bt 4] r) (entry a l))(ha:a.length=2):Y.call 9 a l=some r:=
 AY (Y:=Y) rfl Tryz.func9 (ha▸ok9) AL1 h
def FV(a:AV)(left1 i:Int)(s:St):Prop:=s.v 0=bk 26 (AR Ba a)∧s.v 1=bc .i64 left1∧s.v 5=bc .i64 i
def HV(a:AV)(r:Unit⊕Int)(ex:Ex)(s:St):Prop:=match r with
 | .inl q=>ex= .ret∧s.v 4=bc .i64 (-1)
 | .inr q=>ex= .exit 0∧s.v 1=bc .i64 q
theorem Zf(a:AV){v:Int×Int}{s:St}{r:Unit⊕Int}(h:Im a v=some r)(hM:FV a v.1 v.2 s):BU Y.env AB5 (HV a r) s:=by
 unfold Im at h;refine Aw (c:=yz) (fun v=>H9 a v.1 v.2) (fun v s=>FV a v.1 v.2 s) (HV a) ?_ h hM;clear h hM s v r;intro v s o hM h;obtain⟨left1,i⟩:=v;dsimp only at h hM;unfold H9 at h;unfold FV at hM;obtain⟨m0,m1,m2⟩:=hM;unfold yz;rcases iS h with⟨e2,h⟩|⟨e2,h⟩
 ·obtain⟨e3,e4,e5,h⟩:=Om h;have c6:=U6 (a.getD i.toNat be) left1 e4 e5;rcases iS h with⟨e7,h⟩|⟨e7,h⟩
  ·cases h;simp only [↓AO,AP,↓reduceIte,bj,bh,m0,m1,m2,e2,e3.1,e3.2,c6,e7,FV,HV,OC]
  ·cases h;simp only [↓AO,AP,↓reduceIte,bj,bh,m0,m1,m2,e2,e3.1,e3.2,c6,e7,FV,D6]
 ·cases h;simp only [↓AO,AP,↓reduceIte,bj,bh,m0,m1,m2,e2,FV,HV,GH]
theorem df(a:AV)(left:Int){r:Int}(h:RX a left=some r):Y.call 9 [bk 26 (AR Ba a),bc .i64 left] []=some (bc .i64 r,[]):=by
 refine c9 ?_ rfl;unfold k9;unfold RX at h;rcases iS h with⟨e1,h⟩|⟨e1,h⟩
 ·cases h;simp only [↓AO,AP,↓reduceIte,bj,bh,e1]
 ·obtain⟨AX,hl3,h⟩:=Ag h;try dsimp only at h
  simp only [↓AO,AP,↓reduceIte,bj,bh,e1];refine Ak (Zf a hl3 ?_) ?_
  ·simp only [BL,Cv,↓reduceIte,bj,bh,FV]
  ·intro ex3 s3 hX3;rcases AX with q1000_|q1000_
   ·unfold HV at hX3;dsimp only at hX3 h;obtain⟨rfl,n3_0⟩:=hX3;cases h;simp only [↓AO,AP,↓reduceIte,n3_0]
   ·unfold HV at hX3;dsimp only at hX3 h;obtain⟨rfl,n3_0⟩:=hX3;cases h;simp only [↓AO,AP,↓reduceIte,bj,bh,n3_0]
def szL:Int→AV→Int
 |left,[]=>left
 |left,x::l=>if left-x.length<0 then-1 else szL (left-x.length) l
theorem A4H(l:AV): ∀(left:Int),0≤left→szL left l=Fj left (Bw l):=by
 induction l with
 |nil=>intro left h;unfold szL Fj;rw [af,if_neg (by omega)];omega
 |cons x l ih=>
  intro left h;have:=CE l
  unfold szL;by_cases hq:left-x.length<0
  ·rw [if_pos hq];unfold Fj;rw [Lp,if_pos (by omega)]
  ·rw [if_neg hq,ih _ (by omega)]
   unfold Fj;rw [Lp];by_cases hr:left-x.length-Bw l<0
   ·rw [if_pos hr,if_pos (by omega)]
   ·rw [if_neg hr,if_neg (by omega)];omega
theorem Zg(a:AV)(ha:a.length<4611686018427387904)(hx: ∀x∈a,x.length<9223372036854775808): ∀(n i:Nat) (left:Int),n=a.length-i→i≤a.length→0≤left∧left≤1048576→
  Im a (left,(i:Int))=some (if szL left (a.drop i)= -1 then .inl ()else .inr (szL left (a.drop i))):=by
 intro n
 induction n with
 |zero=>
  intro i left hn hi hl;have e:i=a.length:=by omega
  subst e;unfold Im;rw [D5 (r:=bl left)]
  ·rw [List.drop_length];unfold szL;rw [if_neg (by omega)]
  ·simp only [H9];rw [if_neg (Am _)]
 |succ n ih=>
  intro i left hn hi hl;have hlt:i<a.length:=by omega
  have hm:a[i]∈a:=O6 hlt;have hxm:=hx _ hm
  have step:H9 a left i=if Fj left a[i].length<0 then some (bl (bo ()))else some (bo (Fj left a[i].length,((i+1:Nat):Int))):=by
   unfold H9;rw [if_pos (BX hlt),BC (Dl hlt),BC (by rw [GI _ _ hlt];exact hxm),BC hl,GI _ _ hlt,Gf i (by omega)]
  rw [ZN hlt];unfold szL;by_cases hq:left-(a[i].length:Int)<0
  ·rw [if_pos hq];unfold Im;rw [D5 (r:=bo ())]
   ·rfl
   ·rw [step];unfold Fj;rw [if_pos hq];rfl
  ·rw [if_neg hq];have e2:Fj left a[i].length=left-a[i].length:=by unfold Fj;rw [if_neg hq]
   have:=ih (i+1) (left-a[i].length) (by omega) (by omega) (by omega)
   unfold Im at this ⊢;rw [KC (s':=(left-(a[i].length:Int),((i+1:Nat):Int))),this]
   ·rw [step,e2,if_neg hq]
theorem jh(a:AV)(left:Int)(ha:a.length<9223372036854775808)(hx: ∀x∈a,x.length<9223372036854775808)(hl:0≤left∧left≤1048576):RX a left=some (Fj left (a.length+Bw a)):=by
 have ht:=CE a;unfold RX;rw [Ib _ (by omega)]
 by_cases hq:left-(a.length:Int)<0
 ·rw [if_pos hq];unfold Fj;rw [if_pos (by omega)]
 ·rw [if_neg hq];have h0:=Zg a (by omega) hx a.length 0 (left-a.length) (by omega) (by omega) (by omega)
  simp only [Et,WK]at h0;rw [h0,C8,A4H _ _ (by omega)]
  have e:Fj (left-a.length) (Bw a)=Fj left (a.length+Bw a):=by unfold Fj;rw [show left- ↑a.length-Bw a=left-(↑a.length+Bw a) by omega]
  rw [e];by_cases h1:Fj left (a.length+Bw a)= -1
  ·rw [if_pos h1,h1]
  ·rw [if_neg h1]
theorem U7{α:Type}(a b:List α)(x:α):(a.length:Int)<((a++x::b).length:Int):=by rw [Ol,KL];omega
theorem U8{α:Type}(a b:List α)(x:α):0≤(a.length:Int)∧(a.length:Int).toNat<(a++x::b).length:=by rw [Ol,KL];omega
theorem Uq{α:Type}(a:List α): ¬(a.length:Int)<((a++[]).length:Int):=by rw [V8];omega
def Vl(l:AV):Prop:=l.length<9223372036854775808∧ ∀x∈l,x.length<9223372036854775808
instance (l:AV):Decidable (Vl l):=by unfold Vl;infer_instance
theorem oK(a:AV)(left:Int)(hw:Vl a)(hl:0≤left∧left≤1048576):RX a left=some (Fj left (a.length+Bw a)):=jh a left hw.1 hw.2 hl
theorem X4(a:AV)(left:Int)(h0:Vl a)(h1:0≤left∧left≤1048576):Y.call 9 [bk 26 (AR Ba a),bc .i64 left] []=some (bc .i64 (Fj left (a.length+Bw a)),[]):=df a left (oK a left h0 h1)
def upto(k:Int)(n:Nat):AU:=(ao n).map fun(i:Nat)=>k+i
theorem RY(k:Int)(n:Nat):(upto k n).length=n:=by simp [upto]
theorem A4I(xs:AU)(k:Int)(i:Nat)(h:i<xs.length):(upto k i++xs.drop i).set i (k+i)=upto k (i+1)++xs.drop (i+1):=by
 rw [mX _ _ (by simp [RY]),RY,Xt,ZN h,tY]
 simp [upto,ZQ]
def Fw(k k1 i:Int)(BM:AU):Option ((Int×Int×AU)⊕(Int×AU)):= if i<(BM.length:Int)then ck (0≤i∧i.toNat<BM.length)<| some (bo (bm.wrap (k1+1),bm.wrap (i+1),(BM.set i.toNat k1))) else some (bl (k1,BM))
def Nn(k:Int)(v:Int×Int×AU):Option (Int×AU):=E9 (fun v=>Fw k v.1 v.2.1 v.2.2) v
def SX(a:AU)(k:Int):Option (Int×AU):= (Nn k (k,0,a)).bind fun AX=> some (AX.1,AX.2)
def oO:SC:= .seq (.seq (.ops [oM 6 5 3,oM 7 0 26,oN 8 7 26,oB 9 .lss 3 (tK 6) (tK 8) 3 4]) (.cond (tK 9) .skip (.exit 0))) (.seq (.block 1 (.seq (.ops [oM 12 0 26,oM 13 5 3,oM 14 1 3,oI 15 26 12 13,oS 3 15 14]) (.ops [oM 16 1 3,oB 17 .add 3 (tK 16) (iK 1) 3 3,oA 1 17 3]))) (.ops [oM 10 5 3,oB 11 .add 3 (tK 10) (iK 1) 3 3,oA 5 11 3]))
def A4J:SC:= .loop oO
def k27:SC:= .seq (.ops [oX 4 (.assign (iK 0)) 3]) (.seq (.seq (.ops [oX 5 (.assign (iK 0)) 3]) (.block 0 A4J)) (.seq (.ops [oM 18 1 3,oA 4 18 3]) .ret))
theorem ACx:Tryz.f27.body.map (BQ lends)=some k27:=by kernel_rfl
theorem AQA:BV Tryz.f27 2=true:=by kernel_rfl
theorem c27{a l:List D}{r:D×List D}(h:BU Y.env k27 (fin Ai l.length [bt 4] r) (entry a l))(ha:a.length=2):Y.call 27 a l=some r:=
 AY (Y:=Y) rfl Tryz.func27 (ha▸AQA) ACx h
def Fx(k k1 i:Int)(BM:AU)(s:St):Prop:=(∃w_,s.v 0=D.vw [100000] (s.k 100000) w_)∧s.v 1=bc .i64 k1∧s.v 5=bc .i64 i∧s.v 100000=br 3 (AR (bc .i64) BM)
def M8(k:Int)(r:Int×AU)(ex:Ex)(s:St):Prop:=ex= .exit 0∧s.v 1=bc .i64 r.1∧s.v 100000=br 3 (AR (bc .i64) r.2)
theorem YB(k:Int){v:Int×Int×AU}{s:St}{r:Int×AU}(h:Nn k v=some r)(hM:Fx k v.1 v.2.1 v.2.2 s):BU Y.env A4J (M8 k r) s:=by
 unfold Nn at h;refine Aw (c:=oO) (fun v=>Fw k v.1 v.2.1 v.2.2) (fun v s=>Fx k v.1 v.2.1 v.2.2 s) (M8 k) ?_ h hM;clear h hM s v r;intro v s o hM h;obtain⟨k1,i,BM⟩:=v;dsimp only at h hM;unfold Fw at h;unfold Fx at hM;obtain⟨⟨w0_,m0⟩,m1,m2,m3⟩:=hM;unfold oO;rcases iS h with⟨e1,h⟩|⟨e1,h⟩
 ·obtain⟨e2,h⟩:=De h;cases h;simp only [↓AO,AP,↓reduceIte,bj,bh,m0,m1,m2,m3,e1,e2.1,e2.2,Fx,D6]<;>(repeat' apply A7)<;>first|rfl|exact⟨_,rfl⟩|exact⟨_,_,rfl⟩|simp [AR,Ay]
 ·cases h;simp only [↓AO,AP,↓reduceIte,bj,bh,m0,m1,m2,m3,e1,Fx,M8,GH]
theorem Zh(a:AU)(k:Int){r:Int×AU}(h:SX a k=some r):Y.call 27 [D.vw [100000] 0 0,bc .i64 k] [br 3 (AR (bc .i64) a)]=some (bc .i64 r.1,[br 3 (AR (bc .i64) r.2)]):=by
 refine c27 ?_ rfl;unfold k27;unfold SX at h;obtain⟨AX,hl2,h⟩:=Ag h;try dsimp only at h
 simp only [↓AO,AP,↓reduceIte,bj,bh,bx];refine Ak (YB k hl2 ?_) ?_
 ·simp only [BL,Cv,↓reduceIte,bj,bh,Nat.reduceSub,Fx]<;>(repeat' apply A7)<;>first|rfl|exact⟨_,rfl⟩|exact⟨_,_,rfl⟩|simp [AR,Ay]
 ·intro ex2 s2 hX2;unfold M8 at hX2;obtain⟨rfl,n2_0,n2_1⟩:=hX2;cases h;simp only [↓AO,AP,↓reduceIte,bj,bh,n2_0,n2_1]
theorem ji(a:AU)(k:Int)(ha:a.length<1099511627776)(hk:0≤k∧k<1099511627776):SX a k=some (k+a.length,upto k a.length):=by
 have key:=CO (fun v=>Fw k v.1 v.2.1 v.2.2) (fun i=>(k+i,(i:Int),upto k i++a.drop i)) a.length (k+a.length,upto k a.length) ?_ ?_
 ·unfold SX Nn;have e0:upto k 0=[]:=rfl;simp only [Et,Int.add_zero,WK,e0,PW]at key;rw [key];rfl
 ·intro i hi;simp only [Fw];have el:(upto k i++a.drop i).length=a.length:=by simp [RY];omega
  rw [el,if_pos (BX hi),BC (Dl hi),Cg,A4I a k i hi,Gf i (by omega),Ib _ (by omega)]
  rw [show k+(i:Int)+1=k+((i+1:Nat):Int) by omega]
 ·simp only [Fw];have el:(upto k a.length++a.drop a.length).length=a.length:=by simp [RY]
  rw [el,if_neg (Am _)];simp
theorem R4(a:AU)(k:Int)(h0:a.length<1099511627776)(h1:0≤k∧k<1099511627776):Y.call 27 [D.vw [100000] 0 0,bc .i64 k] [br 3 (AR (bc .i64) a)]=some (bc .i64 (k+a.length),[br 3 (AR (bc .i64) (upto k a.length))]):=Zh a k (ji a k h0 h1)
def JH:Int→AV→AV
 |_,[]=>[]
 |k,x::l=>upto k x.length::JH (k+x.length) l
def HY(k k1 i:Int)(BM:AV):Option ((Int×Int×AV)⊕(Int×AV)):= if i<(BM.length:Int)then ck (0≤i∧i.toNat<BM.length)<| ck ((BM.getD i.toNat be).length<1099511627776)<| ck (0≤k1∧k1<1099511627776)<| some (bo ((k1+(BM.getD i.toNat be).length),bm.wrap (i+1),(BM.set i.toNat (upto k1 (BM.getD i.toNat be).length)))) else some (bl (k1,BM))
def HZ(k:Int)(v:Int×Int×AV):Option (Int×AV):=E9 (fun v=>HY k v.1 v.2.1 v.2.2) v
def Qb(a:AV)(k:Int):Option (Int×AV):= (HZ k (k,0,a)).bind fun AX=> some (AX.1,AX.2)
def oP:SC:= .seq (.seq (.ops [oM 6 5 3,oM 7 0 22,oN 8 7 22,oB 9 .lss 3 (tK 6) (tK 8) 3 4]) (.cond (tK 9) .skip (.exit 0))) (.seq (.block 1 (.ops [oM 12 0 22,oM 13 5 3,oI 14 22 12 13,oL 15 26 14 26,oM 16 1 3,oC 17 27 [(tK 15),(tK 16)] [26,3] 3,oA 1 17 3])) (.ops [oM 10 5 3,oB 11 .add 3 (tK 10) (iK 1) 3 3,oA 5 11 3]))
def A4K:SC:= .loop oP
def k20:SC:= .seq (.ops [oX 4 (.assign (iK 0)) 3]) (.seq (.seq (.ops [oX 5 (.assign (iK 0)) 3]) (.block 0 A4K)) (.seq (.ops [oM 18 1 3,oA 4 18 3]) .ret))
theorem ACy:Tryz.f20.body.map (BQ lends)=some k20:=by kernel_rfl
theorem AQC:BV Tryz.f20 2=true:=by kernel_rfl
theorem c20{a l:List D}{r:D×List D}(h:BU Y.env k20 (fin Ai l.length [bt 4] r) (entry a l))(ha:a.length=2):Y.call 20 a l=some r:=
 AY (Y:=Y) rfl Tryz.func20 (ha▸AQC) ACy h
def F6(k k1 i:Int)(BM:AV)(s:St):Prop:=(∃w_,s.v 0=D.vw [100000] (s.k 100000) w_)∧s.v 1=bc .i64 k1∧s.v 5=bc .i64 i∧s.v 100000=br 26 (AR Ew BM)
def Kt(k:Int)(r:Int×AV)(ex:Ex)(s:St):Prop:=ex= .exit 0∧s.v 1=bc .i64 r.1∧s.v 100000=br 26 (AR Ew r.2)
theorem X5(k:Int){v:Int×Int×AV}{s:St}{r:Int×AV}(h:HZ k v=some r)(hM:F6 k v.1 v.2.1 v.2.2 s):BU Y.env A4K (Kt k r) s:=by
 unfold HZ at h;refine Aw (c:=oP) (fun v=>HY k v.1 v.2.1 v.2.2) (fun v s=>F6 k v.1 v.2.1 v.2.2 s) (Kt k) ?_ h hM;clear h hM s v r;intro v s o hM h;obtain⟨k1,i,BM⟩:=v;dsimp only at h hM;unfold HY at h;unfold F6 at hM;obtain⟨⟨w0_,m0⟩,m1,m2,m3⟩:=hM;unfold oP;rcases iS h with⟨e1,h⟩|⟨e1,h⟩
 ·obtain⟨e2,e3,e4,h⟩:=Om h;have c5:=R4 (BM.getD i.toNat be) k1 e3 e4;cases h;simp only [↓AO,AP,↓reduceIte,bj,bh,m0,m1,m2,m3,e1,e2.1,e2.2,c5,F6,D6]<;>(repeat' apply A7)<;>first|rfl|exact⟨_,rfl⟩|exact⟨_,_,rfl⟩|simp [AR,Ay]
 ·cases h;simp only [↓AO,AP,↓reduceIte,bj,bh,m0,m1,m2,m3,e1,F6,Kt,GH]
theorem YC(a:AV)(k:Int){r:Int×AV}(h:Qb a k=some r):Y.call 20 [D.vw [100000] 0 0,bc .i64 k] [br 26 (AR Ew a)]=some (bc .i64 r.1,[br 26 (AR Ew r.2)]):=by
 refine c20 ?_ rfl;unfold k20;unfold Qb at h;obtain⟨AX,hl2,h⟩:=Ag h;try dsimp only at h
 simp only [↓AO,AP,↓reduceIte,bj,bh,bx];refine Ak (X5 k hl2 ?_) ?_
 ·simp only [BL,Cv,↓reduceIte,bj,bh,Nat.reduceSub,F6]<;>(repeat' apply A7)<;>first|rfl|exact⟨_,rfl⟩|exact⟨_,_,rfl⟩|simp [AR,Ay]
 ·intro ex2 s2 hX2;unfold Kt at hX2;obtain⟨rfl,n2_0,n2_1⟩:=hX2;cases h;simp only [↓AO,AP,↓reduceIte,bj,bh,n2_0,n2_1]
theorem X6(kk:Int): ∀(b a:AV) (k:Int),BK b→a.length+b.length<1099511627776→0≤k→k+Bw b<1099511627776→
  HZ kk (k,(a.length:Int),a++b)=some (k+Bw b,a++JH k b):=by
 intro b
 induction b with
 |nil=>
  intro a k hb hab hk hkt;unfold HZ;rw [D5 (r:=(k,a++[]))]
  ·rw [af,Int.add_zero];rfl
  ·simp only [HY];rw [if_neg (Uq _)]
 |cons x b ih=>
  intro a k hb hab hk hkt;rw [Lp]at hkt;simp only [KL]at hab;have hx:x.length<1099511627776:=hb.2 x (Ia ..);have ht:=CE b;have:=ih (a++[upto k x.length]) (k+x.length) ⟨by omega,fun y hy=>hb.2 y (QL _ hy)⟩ (by simp;omega) (by omega) (by omega)
  unfold HZ at this ⊢;have eg:(a++x::b).getD (a.length:Int).toNat be=x:=by rw [Cg];exact EX a (x::b) a.length rfl (by simp)
  rw [KC (s':=(k+x.length,((a++[upto k x.length]).length:Int),(a++[upto k x.length])++b)),this]
  ·rw [Lp,show k+(x.length:Int)+Bw b=k+(x.length+Bw b) by omega]
   simp [JH]
  ·simp only [HY];rw [if_pos (U7 ..),BC (U8 ..),BC (by rw [eg];exact hx),BC ⟨hk,by omega⟩,eg,Gf _ (by omega),Cg,mX _ _ (Ch _),Xt,tY]
   simp
theorem dh(a:AV)(k:Int)(ha:BK a)(hk:0≤k∧k+Bw a<1099511627776):Qb a k=some (k+Bw a,JH k a):=by
 unfold Qb;have:=X6 k a [] k ha (by have:=ha.1;simp;omega) hk.1 hk.2
 simp only [R8,PW,Et]at this;rw [this];rfl
theorem Mc(a:AV)(k:Int)(h0:BK a)(h1:0≤k∧k+Bw a<1099511627776):Y.call 20 [D.vw [100000] 0 0,bc .i64 k] [br 26 (AR Ew a)]=some (bc .i64 (k+Bw a),[br 26 (AR Ew (JH k a))]):=YC a k (dh a k h0 h1)
def TG:Int→AU→Int
 |k,[]=>k
 |k,x::l=>if x=k then TG (k+1) l else-1
def Fy(a:AU)(k1 i:Int):Option ((Int×Int)⊕(Unit⊕Int)):= if i<(a.length:Int)then ck (0≤i∧i.toNat<a.length)<| if(a.getD i.toNat be)=k1 then some (bo (bm.wrap (k1+1),bm.wrap (i+1))) else some (bl (bo ())) else some (bl (bl k1))
def Gh(a:AU)(v:Int×Int):Option (Unit⊕Int):=E9 (fun v=>Fy a v.1 v.2) v
def SY(a:AU)(k:Int):Option (Int):=
 (Gh a (k,0)).bind fun AX=>
 match AX with
 | .inl q1000_=>
  some (-1)
 | .inr q1000_=>
  some q1000_
def oQ:SC:= .seq (.seq (.ops [oM 6 5 3,oM 7 0 26,oN 8 7 26,oB 9 .lss 3 (tK 6) (tK 8) 3 4]) (.cond (tK 9) .skip (.exit 0))) (.seq (.block 1 (.seq (.seq (.ops [oM 12 0 26,oM 13 5 3,oI 14 26 12 13,oL 15 3 14 3,oM 16 1 3,oB 17 .neq 3 (tK 15) (tK 16) 3 4]) (.cond (tK 17) (.seq (.ops [oX 4 RV 3]) .ret) .skip)) (.ops [oM 18 1 3,oB 19 .add 3 (tK 18) (iK 1) 3 3,oA 1 19 3]))) (.ops [oM 10 5 3,oB 11 .add 3 (tK 10) (iK 1) 3 3,oA 5 11 3]))
def A4L:SC:= .loop oQ
def k28:SC:= .seq (.ops [oX 4 (.assign (iK 0)) 3]) (.seq (.seq (.ops [oX 5 (.assign (iK 0)) 3]) (.block 0 A4L)) (.seq (.ops [oM 20 1 3,oA 4 20 3]) .ret))
theorem ACz:Tryz.f28.body.map (BQ lends)=some k28:=by kernel_rfl
theorem AQE:BV Tryz.f28 2=true:=by kernel_rfl
theorem c28{a l:List D}{r:D×List D}(h:BU Y.env k28 (fin Ai l.length [bt 4] r) (entry a l))(ha:a.length=2):Y.call 28 a l=some r:=
 AY (Y:=Y) rfl Tryz.func28 (ha▸AQE) ACz h
def Ei(a:AU)(k1 i:Int)(s:St):Prop:=s.v 0=bk 3 (AR (bc .i64) a)∧s.v 1=bc .i64 k1∧s.v 5=bc .i64 i
def Fz(a:AU)(r:Unit⊕Int)(ex:Ex)(s:St):Prop:=match r with
 | .inl q=>ex= .ret∧s.v 4=bc .i64 (-1)
 | .inr q=>ex= .exit 0∧s.v 1=bc .i64 q
theorem YD(a:AU){v:Int×Int}{s:St}{r:Unit⊕Int}(h:Gh a v=some r)(hM:Ei a v.1 v.2 s):BU Y.env A4L (Fz a r) s:=by
 unfold Gh at h;refine Aw (c:=oQ) (fun v=>Fy a v.1 v.2) (fun v s=>Ei a v.1 v.2 s) (Fz a) ?_ h hM;clear h hM s v r;intro v s o hM h;obtain⟨k1,i⟩:=v;dsimp only at h hM;unfold Fy at h;unfold Ei at hM;obtain⟨m0,m1,m2⟩:=hM;unfold oQ;rcases iS h with⟨e1,h⟩|⟨e1,h⟩
 ·obtain⟨e2,h⟩:=De h;rcases iS h with⟨e3,h⟩|⟨e3,h⟩
  ·cases h;simp only [↓AO,AP,↓reduceIte,bj,bh,m0,m1,m2,e1,e2.1,e2.2,decide_eq_true e3,Ei,D6]
  ·cases h;simp only [↓AO,AP,↓reduceIte,bj,bh,m0,m1,m2,e1,e2.1,e2.2,e3,Ei,Fz,OC]
 ·cases h;simp only [↓AO,AP,↓reduceIte,bj,bh,m0,m1,m2,e1,Ei,Fz,GH]
theorem Zi(a:AU)(k:Int){r:Int}(h:SY a k=some r):Y.call 28 [bk 3 (AR (bc .i64) a),bc .i64 k] []=some (bc .i64 r,[]):=by
 refine c28 ?_ rfl;unfold k28;unfold SY at h;obtain⟨AX,hl2,h⟩:=Ag h;try dsimp only at h
 simp only [↓AO,AP,↓reduceIte,bj,bh];refine Ak (YD a hl2 ?_) ?_
 ·simp only [BL,Cv,↓reduceIte,bj,bh,Ei]
 ·intro ex2 s2 hX2;rcases AX with q1000_|q1000_
  ·unfold Fz at hX2;dsimp only at hX2 h;obtain⟨rfl,n2_0⟩:=hX2;cases h;simp only [↓AO,AP,↓reduceIte,n2_0]
  ·unfold Fz at hX2;dsimp only at hX2 h;obtain⟨rfl,n2_0⟩:=hX2;cases h;simp only [↓AO,AP,↓reduceIte,bj,bh,n2_0]
theorem YE: ∀(b a:AU) (k:Int),a.length+b.length<1099511627776→0≤k→k+b.length<1099511627776→
  Gh (a++b) (k,(a.length:Int))=some (if TG k b= -1 then .inl ()else .inr (TG k b)):=by
 intro b
 induction b with
 |nil=>
  intro a k hab hk hkt;unfold Gh;rw [D5 (r:=bl k)]
  ·unfold TG;rw [if_neg (by omega)]
  ·simp only [Fy];rw [if_neg (Uq _)]
 |cons x b ih=>
  intro a k hab hk hkt;simp only [KL]at hab hkt;have eg:(a++x::b).getD (a.length:Int).toNat be=x:=by rw [Cg];exact EX a (x::b) a.length rfl (by simp)
  unfold TG;by_cases hq:x=k
  ·rw [if_pos hq];have:=ih (a++[x]) (k+1) (by simp;omega) (by omega) (by omega)
   unfold Gh at this ⊢;rw [KC (s':=(k+1,((a++[x]).length:Int)))]
   ·rw [show a++x::b=a++[x]++b by simp];exact this
   ·simp only [Fy];rw [if_pos (U7 ..),BC (U8 ..),eg,if_pos hq,Gf _ (by omega),Ib _ (by omega)];simp
  ·rw [if_neg hq];unfold Gh;rw [D5 (r:=bo ())]
   ·rfl
   ·simp only [Fy];rw [if_pos (U7 ..),BC (U8 ..),eg,if_neg hq]
theorem jk(a:AU)(k:Int)(ha:a.length<1099511627776)(hk:0≤k∧k+a.length<1099511627776):SY a k=some (TG k a):=by
 unfold SY;have:=YE a [] k (by simpa using ha) hk.1 hk.2
 simp only [R8,PW,Et]at this;rw [this,C8];by_cases h:TG k a= -1
 ·rw [if_pos h,h]
 ·rw [if_neg h]
theorem jl(a:AU)(k:Int)(h0:a.length<1099511627776)(h1:0≤k∧k+a.length<1099511627776):Y.call 28 [bk 3 (AR (bc .i64) a),bc .i64 k] []=some (bc .i64 (TG k a),[]):=Zi a k (jk a k h0 h1)
theorem A1w(n:Nat): ∀k,TG k (upto k n)=k+n:=by
 induction n with
 |zero=>intro k;simp [upto,TG]
 |succ n ih=>
  intro k
  have e:upto k (n+1)=k::upto (k+1) n:=by
   simp only [upto,List.range_succ_eq_map,WL,List.map_map]
   congr 1
   ·simp
   ·apply xK;intro i _;simp;omega
  rw [e,TG,if_pos rfl,ih];omega
def Ha(a:AV)(k1 i:Int):Option ((Int×Int)⊕(Unit⊕Int)):= if i<(a.length:Int)then ck (0≤i∧i.toNat<a.length)<| ck ((a.getD i.toNat be).length<1099511627776)<| ck (0≤k1∧k1+(a.getD i.toNat be).length<1099511627776)<| if(TG k1 (a.getD i.toNat be))<0 then some (bl (bo ())) else some (bo ((TG k1 (a.getD i.toNat be)),bm.wrap (i+1))) else some (bl (bl k1))
def Hd(a:AV)(v:Int×Int):Option (Unit⊕Int):=E9 (fun v=>Ha a v.1 v.2) v
def MK(a:AV)(k:Int):Option (Int):=
 (Hd a (k,0)).bind fun AX=>
 match AX with
 | .inl q1000_=>
  some (-1)
 | .inr q1000_=>
  some q1000_
def oU:SC:= .seq (.seq (.ops [oM 6 5 3,oM 7 0 22,oN 8 7 22,oB 9 .lss 3 (tK 6) (tK 8) 3 4]) (.cond (tK 9) .skip (.exit 0))) (.seq (.block 1 (.seq (.ops [oM 12 0 22,oM 13 5 3,oI 14 22 12 13,oL 15 26 14 26,oM 16 1 3,oC 17 28 [(tK 15),(tK 16)] [26,3] 3,oA 1 17 3]) (.seq (.ops [oM 18 1 3,oB 19 .lss 3 (tK 18) (iK 0) 3 4]) (.cond (tK 19) (.seq (.ops [oX 4 RV 3]) .ret) .skip)))) (.ops [oM 10 5 3,oB 11 .add 3 (tK 10) (iK 1) 3 3,oA 5 11 3]))
def A4M:SC:= .loop oU
def k21:SC:= .seq (.ops [oX 4 (.assign (iK 0)) 3]) (.seq (.seq (.ops [oX 5 (.assign (iK 0)) 3]) (.block 0 A4M)) (.seq (.ops [oM 20 1 3,oA 4 20 3]) .ret))
theorem AD0:Tryz.f21.body.map (BQ lends)=some k21:=by kernel_rfl
theorem AQH:BV Tryz.f21 2=true:=by kernel_rfl
theorem c21{a l:List D}{r:D×List D}(h:BU Y.env k21 (fin Ai l.length [bt 4] r) (entry a l))(ha:a.length=2):Y.call 21 a l=some r:=
 AY (Y:=Y) rfl Tryz.func21 (ha▸AQH) AD0 h
def ED(a:AV)(k1 i:Int)(s:St):Prop:=s.v 0=bk 26 (AR Ba a)∧s.v 1=bc .i64 k1∧s.v 5=bc .i64 i
def F7(a:AV)(r:Unit⊕Int)(ex:Ex)(s:St):Prop:=match r with
 | .inl q=>ex= .ret∧s.v 4=bc .i64 (-1)
 | .inr q=>ex= .exit 0∧s.v 1=bc .i64 q
theorem X7(a:AV){v:Int×Int}{s:St}{r:Unit⊕Int}(h:Hd a v=some r)(hM:ED a v.1 v.2 s):BU Y.env A4M (F7 a r) s:=by
 unfold Hd at h;refine Aw (c:=oU) (fun v=>Ha a v.1 v.2) (fun v s=>ED a v.1 v.2 s) (F7 a) ?_ h hM;clear h hM s v r;intro v s o hM h;obtain⟨k1,i⟩:=v;dsimp only at h hM;unfold Ha at h;unfold ED at hM;obtain⟨m0,m1,m2⟩:=hM;unfold oU;rcases iS h with⟨e1,h⟩|⟨e1,h⟩
 ·obtain⟨e2,e3,e4,h⟩:=Om h;have c5:=jl (a.getD i.toNat be) k1 e3 e4;rcases iS h with⟨e6,h⟩|⟨e6,h⟩
  ·cases h;simp only [↓AO,AP,↓reduceIte,bj,bh,m0,m1,m2,e1,e2.1,e2.2,c5,e6,ED,F7,OC]
  ·cases h;simp only [↓AO,AP,↓reduceIte,bj,bh,m0,m1,m2,e1,e2.1,e2.2,c5,e6,ED,D6]
 ·cases h;simp only [↓AO,AP,↓reduceIte,bj,bh,m0,m1,m2,e1,ED,F7,GH]
theorem RZ(a:AV)(k:Int){r:Int}(h:MK a k=some r):Y.call 21 [bk 26 (AR Ba a),bc .i64 k] []=some (bc .i64 r,[]):=by
 refine c21 ?_ rfl;unfold k21;unfold MK at h;obtain⟨AX,hl2,h⟩:=Ag h;try dsimp only at h
 simp only [↓AO,AP,↓reduceIte,bj,bh];refine Ak (X7 a hl2 ?_) ?_
 ·simp only [BL,Cv,↓reduceIte,bj,bh,ED]
 ·intro ex2 s2 hX2;rcases AX with q1000_|q1000_
  ·unfold F7 at hX2;dsimp only at hX2 h;obtain⟨rfl,n2_0⟩:=hX2;cases h;simp only [↓AO,AP,↓reduceIte,n2_0]
  ·unfold F7 at hX2;dsimp only at hX2 h;obtain⟨rfl,n2_0⟩:=hX2;cases h;simp only [↓AO,AP,↓reduceIte,bj,bh,n2_0]
theorem X8: ∀(b a:AV) (k:Int),BK b→a.length+b.length<1099511627776→0≤k→k+Bw b<1099511627776→
  Hd (a++JH k b) (k,(a.length:Int))=some (.inr (k+Bw b)):=by
 intro b
 induction b with
 |nil=>
  intro a k hb hab hk hkt;unfold Hd;rw [D5 (r:=bl k)]
  ·rw [af,Int.add_zero]
  ·rw [show JH k []=[]from rfl];simp only [Ha];rw [if_neg (Uq _)]
 |cons x b ih=>
  intro a k hb hab hk hkt;rw [Lp]at hkt;simp only [KL]at hab;have hx:x.length<1099511627776:=hb.2 x (Ia ..);have ht:=CE b;have:=ih (a++[upto k x.length]) (k+x.length) ⟨by omega,fun y hy=>hb.2 y (QL _ hy)⟩ (by simp;omega) (by omega) (by omega)
  unfold Hd at this ⊢;have eg:(a++JH k (x::b)).getD (a.length:Int).toNat be=upto k x.length:=by rw [Cg];exact EX a (JH k (x::b)) a.length rfl (by simp [JH])
  rw [KC (s':=(k+x.length,((a++[upto k x.length]).length:Int)))]
  ·rw [show a++JH k (x::b)=a++[upto k x.length]++JH (k+x.length) b by simp [JH],this,Lp]
   rw [show k+(x.length:Int)+Bw b=k+(x.length+Bw b) by omega]
  ·simp only [Ha];rw [JH]at eg ⊢;rw [if_pos (U7 ..),BC (U8 ..),BC (by rw [eg,RY];exact hx),BC (by rw [eg,RY];omega),eg,A1w,if_neg (by omega),Gf _ (by omega)];simp
theorem dm(a:AV)(k:Int)(ha:BK a)(hk:0≤k∧k+Bw a<1099511627776):MK (JH k a) k=some (k+Bw a):=by
 unfold MK;have:=X8 a [] k ha (by have:=ha.1;simp;omega) hk.1 hk.2
 simp only [R8,PW,Et]at this;rw [this];rfl
def Qc(Bg Bh:Int)(Au BI:AV):Option (Int×Int×AV×AV):= ck (BK Au)<| ck (BK BI)<| some (Bg,Bh,Au,BI)
def k11:SC:= .seq (.ops [oX 1 (.box 24 (tK 0)) 0,oX 2 (.alloc 34) 0]) (.seq (.ops [oX 3 (.alloc 34) 0]) (.seq (.ops [oF 4 24 1 0,oL 5 3 4 3,oF 6 34 3 0,oS 3 6 5]) (.seq (.ops [oF 7 24 1 1,oL 8 3 7 3,oF 9 34 3 1,oS 3 9 8]) (.seq (.ops [oF 10 24 1 2,oL 11 22 10 22,oC 12 13 [(tK 11)] [22] 22,oF 13 34 3 2,oS 22 13 12]) (.seq (.ops [oF 14 24 1 3,oL 15 22 14 22,oC 16 13 [(tK 15)] [22] 22,oF 17 34 3 3,oS 22 17 16]) (.seq (.ops [oL 18 34 3 34,oS 34 2 18]) .ret))))))
theorem AD1:Tryz.f11.body.map (BQ lends)=some k11:=by kernel_rfl
theorem AQJ:BV Tryz.f11 1=true:=by kernel_rfl
theorem vz{a l:List D}{r:D×List D}(h:BU Y.env k11 (fin Ai l.length [ResultVar.cell 2 34] r) (entry a l))(ha:a.length=1):Y.call 11 a l=some r:=
 AY (Y:=Y) rfl Tryz.func11 (ha▸AQJ) AD1 h
theorem YF(Bg Bh:Int)(Au BI:AV){r:Int×Int×AV×AV}(h:Qc Bg Bh Au BI=some r):Y.call 11 [bw [bc .i64 Bg,bc .i64 Bh,bk 26 (AR Ba Au),bk 26 (AR Ba BI)]] []=some (bw [bc .i64 r.1,bc .i64 r.2.1,br 26 (AR Ew r.2.2.1),br 26 (AR Ew r.2.2.2)],[]):=by
 refine vz ?_ rfl;unfold k11;unfold Qc at h;obtain⟨e1,h⟩:=De h;have c2:=Wz Au e1;obtain⟨e3,h⟩:=De h;have c4:=Wz BI e3;cases h;simp (maxDischargeDepth:=9) only [↓AO,AP,↓reduceIte,bj,bh,bx,c2,c4]
theorem dw(a b:Int)(n e:AV)(hn:BK n)(he:BK e):Qc a b n e=some (a,b,n,e):=by
 unfold Qc;rw [BC hn,BC he]
theorem He(Bg Bh:Int)(Au BI:AV)(h0:BK Au)(h1:BK BI):Y.call 11 [bw [bc .i64 Bg,bc .i64 Bh,bk 26 (AR Ba Au),bk 26 (AR Ba BI)]] []=some (bw [bc .i64 Bg,bc .i64 Bh,br 26 (AR Ew Au),br 26 (AR Ew BI)],[]):=YF Bg Bh Au BI (dw Bg Bh Au BI h0 h1)
def Qd(Bg Bh:Int)(Au BI:AV)(Md Me:Int)(Mf Mg:AV):Option (Bool):= if Bg=Md then if Bh=Me then ck (BK Au)<| if(decide (Au=Mf))=true then ck (BK BI)<| if(decide (BI=Mg))=true then some true else some false else some false else some false else some false
def k16:SC:= .seq (.ops [oX 2 (.box 34 (tK 0)) 0,oX 3 (.box 34 (tK 1)) 0,oX 4 BR 4]) (.seq (.seq (.ops [oF 5 34 2 0,oL 6 3 5 3,oF 7 34 3 0,oL 8 3 7 3,oB 9 .neq 3 (tK 6) (tK 8) 3 4]) (.cond (tK 9) (.seq (.ops [oX 4 BR 4]) .ret) .skip)) (.seq (.seq (.ops [oF 10 34 2 1,oL 11 3 10 3,oF 12 34 3 1,oL 13 3 12 3,oB 14 .neq 3 (tK 11) (tK 13) 3 4]) (.cond (tK 14) (.seq (.ops [oX 4 BR 4]) .ret) .skip)) (.seq (.seq (.ops [oF 15 34 2 2,oL 16 22 15 22,oF 17 34 3 2,oL 18 22 17 22,oC 19 15 [(tK 16),(tK 18)] [22,22] 4,oX 20 (.unOp .not 4 (tK 19)) 4]) (.cond (tK 20) (.seq (.ops [oX 4 BR 4]) .ret) .skip)) (.seq (.seq (.ops [oF 21 34 2 3,oL 22 22 21 22,oF 23 34 3 3,oL 24 22 23 22,oC 25 15 [(tK 22),(tK 24)] [22,22] 4,oX 26 (.unOp .not 4 (tK 25)) 4]) (.cond (tK 26) (.seq (.ops [oX 4 BR 4]) .ret) .skip)) (.seq (.ops [oX 4 (.assign Ck) 4]) .ret)))))
theorem AD2:Tryz.f16.body.map (BQ lends)=some k16:=by kernel_rfl
theorem AQL:BV Tryz.f16 2=true:=by kernel_rfl
theorem c16{a l:List D}{r:D×List D}(h:BU Y.env k16 (fin Ai l.length [bt 4] r) (entry a l))(ha:a.length=2):Y.call 16 a l=some r:=
 AY (Y:=Y) rfl Tryz.func16 (ha▸AQL) AD2 h
theorem YG(Bg Bh:Int)(Au BI:AV)(Md Me:Int)(Mf Mg:AV){r:Bool}(h:Qd Bg Bh Au BI Md Me Mf Mg=some r):Y.call 16 [bw [bc .i64 Bg,bc .i64 Bh,bk 26 (AR Ba Au),bk 26 (AR Ba BI)],bw [bc .i64 Md,bc .i64 Me,bk 26 (AR Ba Mf),bk 26 (AR Ba Mg)]] []=some (bp r,[]):=by
 refine c16 ?_ rfl;unfold k16;unfold Qd at h;rcases iS h with⟨e1,h⟩|⟨e1,h⟩
 ·rcases iS h with⟨e2,h⟩|⟨e2,h⟩
  ·obtain⟨e3,h⟩:=De h;have c4:=Il Au Mf e3;rcases iS h with⟨e5,h⟩|⟨e5,h⟩
   ·obtain⟨e6,h⟩:=De h;have c7:=Il BI Mg e6;rcases iS h with⟨e8,h⟩|⟨e8,h⟩
    ·cases h;simp (maxDischargeDepth:=9) only [↓AO,AP,↓reduceIte,bj,bh,bx,decide_eq_true e1,decide_eq_true e2,c4,e5,c7,e8]
    ·have e8f:(decide (BI=Mg))=false:=Es.mpr e8;cases h;simp (maxDischargeDepth:=9) only [↓AO,AP,↓reduceIte,bj,bh,bx,decide_eq_true e1,decide_eq_true e2,c4,e5,c7,e8f]
   ·have e5f:(decide (Au=Mf))=false:=Es.mpr e5;cases h;simp (maxDischargeDepth:=9) only [↓AO,AP,↓reduceIte,bj,bh,bx,decide_eq_true e1,decide_eq_true e2,c4,e5f]
  ·cases h;simp (maxDischargeDepth:=9) only [↓AO,AP,↓reduceIte,bj,bh,bx,decide_eq_true e1,e2]
 ·cases h;simp (maxDischargeDepth:=9) only [↓AO,AP,↓reduceIte,bj,bh,bx,e1]
def X9(a b:Int)(n e:AV)(a' b':Int)(n' e':AV):Bool:=decide (a=a'∧b=b'∧n=n'∧e=e')
theorem z8(a b:Int)(n e:AV):X9 a b n e a b n e=true:=by simp [X9]
theorem dz(a b:Int)(n e:AV)(a' b':Int)(n' e':AV)(hn:BK n)(he:BK e):Qd a b n e a' b' n' e'=some (X9 a b n e a' b' n' e'):=by
 unfold Qd X9;by_cases h1:a=a'<;>by_cases h2:b=b'<;>by_cases h3:n=n'<;>by_cases h4:e=e'<;>simp [h1,h2,h3,h4,ck]<;>(try subst h3)<;>(try subst h4)<;>simp_all
theorem U9(Bg Bh:Int)(Au BI:AV)(Md Me:Int)(Mf Mg:AV)(h0:BK Au)(h1:BK BI):Y.call 16 [bw [bc .i64 Bg,bc .i64 Bh,bk 26 (AR Ba Au),bk 26 (AR Ba BI)],bw [bc .i64 Md,bc .i64 Me,bk 26 (AR Ba Mf),bk 26 (AR Ba Mg)]] []=some (bp (X9 Bg Bh Au BI Md Me Mf Mg),[]):=YG Bg Bh Au BI Md Me Mf Mg (dz Bg Bh Au BI Md Me Mf Mg h0 h1)
def Qe(Bg Bh:Int)(Au BI:AV)(left:Int):Option (Int):= ck (Vl Au)<| ck (0≤left∧left≤1048576)<| if(Fj left (Au.length+Bw Au))<0 then some (-1) else ck (Vl BI)<| ck (0≤(Fj left (Au.length+Bw Au))∧(Fj left (Au.length+Bw Au))≤1048576)<| if(Fj (Fj left (Au.length+Bw Au)) (BI.length+Bw BI))<0 then some (-1) else some (Fj (Fj left (Au.length+Bw Au)) (BI.length+Bw BI))
def k7:SC:= .seq (.ops [oX 2 (.box 24 (tK 0)) 0,oX 4 (.assign (iK 0)) 3]) (.seq (.ops [oF 5 24 2 2,oL 6 22 5 22,oM 7 1 3,oC 8 9 [(tK 6),(tK 7)] [22,3] 3,oA 1 8 3]) (.seq (.seq (.ops [oM 9 1 3,oB 10 .lss 3 (tK 9) (iK 0) 3 4]) (.cond (tK 10) (.seq (.ops [oX 4 RV 3]) .ret) .skip)) (.seq (.ops [oF 11 24 2 3,oL 12 22 11 22,oM 13 1 3,oC 14 9 [(tK 12),(tK 13)] [22,3] 3,oA 1 14 3]) (.seq (.seq (.ops [oM 15 1 3,oB 16 .lss 3 (tK 15) (iK 0) 3 4]) (.cond (tK 16) (.seq (.ops [oX 4 RV 3]) .ret) .skip)) (.seq (.ops [oM 17 1 3,oA 4 17 3]) .ret)))))
theorem AL2:Tryz.f7.body.map (BQ lends)=some k7:=by kernel_rfl
theorem ok7:BV Tryz.f7 2=true:=by kernel_rfl
theorem c7{a l:List D}{r:D×List D}(h:BU Y.env k7 (fin Ai l.length [bt 4] r) (entry a l))(ha:a.length=2):Y.call 7 a l=some r:=
 AY (Y:=Y) rfl Tryz.func7 (ha▸ok7) AL2 h
theorem YH(Bg Bh:Int)(Au BI:AV)(left:Int){r:Int}(h:Qe Bg Bh Au BI left=some r):Y.call 7 [bw [bc .i64 Bg,bc .i64 Bh,bk 26 (AR Ba Au),bk 26 (AR Ba BI)],bc .i64 left] []=some (bc .i64 r,[]):=by
 refine c7 ?_ rfl;unfold k7;unfold Qe at h;obtain⟨e1,e2,h⟩:=EC h;have c3:=X4 Au left e1 e2;rcases iS h with⟨e4,h⟩|⟨e4,h⟩
 ·cases h;simp (maxDischargeDepth:=9) only [↓AO,AP,↓reduceIte,bj,bh,bx,b4,c3,e4]
 ·obtain⟨e5,e6,h⟩:=EC h;have c7:=X4 BI (Fj left (Au.length+Bw Au)) e5 e6;rcases iS h with⟨e8,h⟩|⟨e8,h⟩
  ·cases h;simp (maxDischargeDepth:=9) only [↓AO,AP,↓reduceIte,bj,bh,bx,b4,c3,e4,c7,e8]
  ·cases h;simp (maxDischargeDepth:=9) only [↓AO,AP,↓reduceIte,bj,bh,bx,b4,c3,e4,c7,e8]
def szP(left:Int)(ns es:AV):Int:=if Fj left (ns.length+Bw ns)<0 then-1 else Fj (Fj left (ns.length+Bw ns)) (es.length+Bw es)
theorem eB(a b:Int)(n e:AV)(left:Int)(hn:Vl n)(he:Vl e)(hl:0≤left∧left≤1048576):Qe a b n e left=some (szP left n e):=by
 have h1:=CE n;unfold Qe szP;rw [BC hn,BC hl];rcases JZ left (n.length+Bw n)with c|⟨c,c'⟩
 ·rw [c];rfl
 ·have hc: ¬left-(n.length+Bw n)<0:=by omega
  have hd:0≤left-(n.length+Bw n)∧left-(n.length+Bw n)≤1048576:=by omega
  rw [c];simp only [if_neg hc,BC he,BC hd];split
  ·rename_i h
   rcases JZ (left-(n.length+Bw n)) (e.length+Bw e)with d|⟨d,d'⟩
   ·rw [d]
   ·omega
  ·rfl
theorem eD(Bg Bh:Int)(Au BI:AV)(left:Int)(h0:Vl Au)(h1:Vl BI)(h2:0≤left∧left≤1048576):Y.call 7 [bw [bc .i64 Bg,bc .i64 Bh,bk 26 (AR Ba Au),bk 26 (AR Ba BI)],bc .i64 left] []=some (bc .i64 (szP left Au BI),[]):=YH Bg Bh Au BI left (eB Bg Bh Au BI left h0 h1 h2)
theorem A7B{ns es:AV}{left:Int}(hl:left≤1048576)(h: ¬szP left ns es<0):ns.length+Bw ns+es.length+Bw es≤1048576∧BK ns∧BK es∧szP left ns es≤left:=by
 have t1:=CE ns;have t2:=CE es
 have key:(ns.length:Int)+Bw ns+es.length+Bw es≤1048576∧szP left ns es≤left:=by
  unfold szP at h ⊢;rcases JZ left (ns.length+Bw ns)with c|⟨c,c'⟩
  ·rw [c]at h;simp at h
  ·rw [c,if_neg (by omega)]at h
   rw [c,if_neg (by omega)]
   rcases JZ (left-(ns.length+Bw ns)) (es.length+Bw es)with d|⟨d,d'⟩
   ·rw [d]at h;simp at h
   ·omega
 exact⟨key.1,lq (by omega),lq (by omega),key.2⟩
def Np(Bg Bh:Int)(Au BI:AV)(k:Int):Option (Int×AV×AV):= ck (BK Au)<| ck (0≤k∧k+Bw Au<1099511627776)<| ck (BK BI)<| ck (0≤(k+Bw Au)∧(k+Bw Au)+Bw BI<1099511627776)<| some (((k+Bw Au)+Bw BI),(JH k Au),(JH (k+Bw Au) BI))
def k18:SC:= .seq (.ops [oX 2 (.box 34 (tK 0)) 0,oX 4 (.assign (iK 0)) 3]) (.seq (.ops [oF 5 34 2 2,oL 6 22 5 22,oM 7 1 3,oC 8 20 [(tK 6),(tK 7)] [22,3] 3,oA 1 8 3]) (.seq (.ops [oF 9 34 2 3,oL 10 22 9 22,oM 11 1 3,oC 12 20 [(tK 10),(tK 11)] [22,3] 3,oA 1 12 3]) (.seq (.ops [oM 13 1 3,oA 4 13 3]) .ret)))
theorem AD4:Tryz.f18.body.map (BQ lends)=some k18:=by kernel_rfl
theorem AQN:BV Tryz.f18 2=true:=by kernel_rfl
theorem jm{a l:List D}{r:D×List D}(h:BU Y.env k18 (fin Ai l.length [bt 4] r) (entry a l))(ha:a.length=2):Y.call 18 a l=some r:=
 AY (Y:=Y) rfl Tryz.func18 (ha▸AQN) AD4 h
theorem Vm(Bg Bh:Int)(Au BI:AV)(k:Int){r:Int×AV×AV}(h:Np Bg Bh Au BI k=some r):Y.call 18 [bw [bc .i64 Bg,bc .i64 Bh,D.vw [100000] 0 0,D.vw [100001] 0 0],bc .i64 k] [br 26 (AR Ew Au),br 26 (AR Ew BI)]=some (bc .i64 r.1,[br 26 (AR Ew r.2.1),br 26 (AR Ew r.2.2)]):=by
 refine jm ?_ rfl;unfold k18;unfold Np at h;obtain⟨e1,e2,h⟩:=EC h;have c3:=Mc Au k e1 e2;obtain⟨e4,e5,h⟩:=EC h;have c6:=Mc BI (k+Bw Au) e4 e5;cases h;simp (maxDischargeDepth:=9) only [↓AO,AP,↓reduceIte,bj,bh,bx,Nat.reduceSub,c3,c6]
theorem YI(a b:Int)(n e:AV)(k:Int)(hn:BK n)(he:BK e)(hk:0≤k∧k+Bw n+Bw e<1099511627776):Np a b n e k=some (k+Bw n+Bw e,JH k n,JH (k+Bw n) e):=by
 have h1:=CE n;have h2:=CE e;unfold Np;rw [BC hn,BC (by omega),BC he,BC (by omega)]
theorem Ra(Bg Bh:Int)(Au BI:AV)(k:Int)(h0:BK Au)(h1:BK BI)(h2:0≤k∧k+Bw Au+Bw BI<1099511627776):Y.call 18 [bw [bc .i64 Bg,bc .i64 Bh,D.vw [100000] 0 0,D.vw [100001] 0 0],bc .i64 k] [br 26 (AR Ew Au),br 26 (AR Ew BI)]=some (bc .i64 (k+Bw Au+Bw BI),[br 26 (AR Ew (JH k Au)),br 26 (AR Ew (JH (k+Bw Au) BI))]):=Vm Bg Bh Au BI k (YI Bg Bh Au BI k h0 h1 h2)
theorem A0M{l:AV}(h:A0E l):Vl l:=⟨xM h.1 (by decide),fun x hx=>xM (h.2 x hx).1 (by decide)⟩
def M9(n lo hi:Int):Bool:=decide (lo≤n∧n≤hi)
theorem Ey{n lo hi:Int}:M9 n lo hi=true↔lo≤n∧n≤hi:=by simp [M9]
def XA(n_ low high:Int):Option (Bool):= if low≤n_ then some (decide (n_≤high)) else some false
def k64:SC:= .seq (.ops [oX 6 BR 4]) (.seq (.ops [oM 7 1 3,oM 8 0 3,oB 9 .leq 3 (tK 7) (tK 8) 3 4,oM 10 9 4,⟨some 11,.move (tK 0),3,(some (some 10,true))⟩,⟨some 12,.move (tK 2),3,(some (some 10,true))⟩,⟨some 13,.binOp .leq 3 (tK 11) (tK 12) 3,4,(some (some 10,true))⟩,oX 14 (.pick (tK 10) (tK 13) Lm) 4,oA 6 14 4]) .ret)
theorem AD5:Tryz.f64.body.map (BQ lends)=some k64:=by kernel_rfl
theorem AQP:BV Tryz.f64 3=true:=by kernel_rfl
theorem c64{a l:List D}{r:D×List D}(h:BU Y.env k64 (fin Ai l.length [bt 6] r) (entry a l))(ha:a.length=3):Y.call 64 a l=some r:=
 AY (Y:=Y) rfl Tryz.func64 (ha▸AQP) AD5 h
theorem jo(n_ low high:Int){r:Bool}(h:XA n_ low high=some r):Y.call 64 [bc .i64 n_,bc .i64 low,bc .i64 high] []=some (bp r,[]):=by
 refine c64 ?_ rfl;unfold k64;unfold XA at h;rcases iS h with⟨e1,h⟩|⟨e1,h⟩
 ·cases h;simp only [↓AO,AP,↓reduceIte,bj,bh,e1]
 ·cases h;simp only [↓AO,AP,↓reduceIte,bj,bh,e1]
def oV(n_ lo hi:Int):Option (Bool):= if lo≤n_ then some (decide (n_≤hi)) else some false
def k82:SC:= .seq (.ops [oX 6 BR 4]) (.seq (.ops [oM 7 0 3,oM 8 1 3,oB 9 .geq 3 (tK 7) (tK 8) 3 4,oM 10 9 4,⟨some 11,.move (tK 0),3,(some (some 10,true))⟩,⟨some 12,.move (tK 2),3,(some (some 10,true))⟩,⟨some 13,.binOp .leq 3 (tK 11) (tK 12) 3,4,(some (some 10,true))⟩,oX 14 (.pick (tK 10) (tK 13) Lm) 4,oA 6 14 4]) .ret)
theorem AD6:Tryz.f82.body.map (BQ lends)=some k82:=by kernel_rfl
theorem AQR:BV Tryz.f82 3=true:=by kernel_rfl
theorem c82{a l:List D}{r:D×List D}(h:BU Y.env k82 (fin Ai l.length [bt 6] r) (entry a l))(ha:a.length=3):Y.call 82 a l=some r:=
 AY (Y:=Y) rfl Tryz.func82 (ha▸AQR) AD6 h
theorem w9(n_ lo hi:Int){r:Bool}(h:oV n_ lo hi=some r):Y.call 82 [bc .i64 n_,bc .i64 lo,bc .i64 hi] []=some (bp r,[]):=by
 refine c82 ?_ rfl;unfold k82;unfold oV at h;rcases iS h with⟨e1,h⟩|⟨e1,h⟩
 ·cases h;simp only [↓AO,AP,↓reduceIte,bj,bh,e1]
 ·cases h;simp only [↓AO,AP,↓reduceIte,bj,bh,e1]
theorem wB(n lo hi:Int):XA n lo hi=some (M9 n lo hi):=by unfold XA M9;by_cases h1:lo≤n<;>by_cases h2:n≤hi<;>simp [h1,h2]
theorem A1x(n lo hi:Int):oV n lo hi=some (M9 n lo hi):=by unfold oV M9;by_cases h1:lo≤n<;>by_cases h2:n≤hi<;>simp [h1,h2]
theorem KT(n_ low high:Int):Y.call 64 [bc .i64 n_,bc .i64 low,bc .i64 high] []=some (bp (M9 n_ low high),[]):=jo n_ low high (wB n_ low high)
theorem Na(n_ lo hi:Int):Y.call 82 [bc .i64 n_,bc .i64 lo,bc .i64 hi] []=some (bp (M9 n_ lo hi),[]):=w9 n_ lo hi (A1x n_ lo hi)
def Ku(l:AU)(lo hi Al:Int):Option ((Int)⊕(Unit⊕Unit)):= if Al<(l.length:Int)then ck (0≤Al∧Al.toNat<l.length)<| if(M9 (l.getD Al.toNat be) lo hi)=true then some (bo (bm.wrap (Al+1))) else some (bl (bo ())) else some (bl (bl ()))
def Sa(l:AU)(lo hi v:Int):Option (Unit⊕Unit):=E9 (fun v=>Ku l lo hi v) v
def ah(l:AU)(lo hi:Int):Option (Bool):=
 (Sa l lo hi 0).bind fun AX=>
 match AX with
 | .inl q1000_=>
  some false
 | .inr q1000_=>
  some true
def oW:SC:= .seq (.ops [oB 12 .lss 3 (tK 11) (tK 10) 3 0]) (.seq (.cond (tK 12) .skip (.exit 0)) (.seq (.block 1 (.seq (.ops [oI 13 26 9 11,oL 14 3 13 3,oA 8 14 3]) (.seq (.ops [oM 15 8 3,oM 16 1 3,oM 17 2 3,oC 18 82 [(tK 15),(tK 16),(tK 17)] [3,3,3] 4,oX 19 (.unOp .not 4 (tK 18)) 4]) (.cond (tK 19) (.seq (.ops [oX 6 BR 4]) .ret) .skip)))) (.ops [oB 20 .add 3 (tK 11) (iK 1) 3 3,oM 11 20 3])))
def A4N:SC:= .loop oW
def k59:SC:= .seq (.ops [oX 6 BR 4]) (.seq (.seq (.ops [oM 9 0 26,oN 10 9 26,oX 11 (.move (iK 0)) 3]) (.block 0 A4N)) (.seq (.ops [oX 6 (.assign Ck) 4]) .ret))
theorem AD7:Tryz.f59.body.map (BQ lends)=some k59:=by kernel_rfl
theorem AQT:BV Tryz.f59 3=true:=by kernel_rfl
theorem c59{a l:List D}{r:D×List D}(h:BU Y.env k59 (fin Ai l.length [bt 6] r) (entry a l))(ha:a.length=3):Y.call 59 a l=some r:=
 AY (Y:=Y) rfl Tryz.func59 (ha▸AQT) AD7 h
def Io(l:AU)(lo hi Al:Int)(s:St):Prop:=s.v 1=bc .i64 lo∧s.v 2=bc .i64 hi∧s.v 9=bk 3 (AR (bc .i64) l)∧s.v 10=bc .i64 (l.length:Int)∧s.v 11=bc .i64 Al
def Kv(l:AU)(lo hi:Int)(r:Unit⊕Unit)(ex:Ex)(s:St):Prop:=match r with
 | .inl q=>ex= .ret∧s.v 6=bp false
 | .inr q=>ex= .exit 0
theorem jq(l:AU)(lo hi:Int){v:Int}{s:St}{r:Unit⊕Unit}(h:Sa l lo hi v=some r)(hM:Io l lo hi v s):BU Y.env A4N (Kv l lo hi r) s:=by
 unfold Sa at h;refine Aw (c:=oW) (fun v=>Ku l lo hi v) (fun v s=>Io l lo hi v s) (Kv l lo hi) ?_ h hM;clear h hM s v r;intro Al s o hM h;unfold Ku at h;unfold Io at hM;obtain⟨m0,m1,m2,m3,m4⟩:=hM;unfold oW;rcases iS h with⟨e1,h⟩|⟨e1,h⟩
 ·obtain⟨e2,h⟩:=De h;have c3:=Na (l.getD Al.toNat be) lo hi;rcases iS h with⟨e4,h⟩|⟨e4,h⟩
  ·cases h;simp only [↓AO,AP,↓reduceIte,bj,bh,m0,m1,m2,m3,m4,e1,e2.1,e2.2,c3,e4,Io,D6]
  ·have e4f:(M9 (l.getD Al.toNat be) lo hi)=false:=Es.mpr e4;cases h;simp only [↓AO,AP,↓reduceIte,bj,bh,m0,m1,m2,m3,m4,e1,e2.1,e2.2,c3,e4f,Io,Kv,OC]
 ·cases h;simp only [↓AO,AP,↓reduceIte,bh,m3,m4,e1,Io,Kv,GH]
theorem oZ(l:AU)(lo hi:Int){r:Bool}(h:ah l lo hi=some r):Y.call 59 [bk 3 (AR (bc .i64) l),bc .i64 lo,bc .i64 hi] []=some (bp r,[]):=by
 refine c59 ?_ rfl;unfold k59;unfold ah at h;obtain⟨AX,hl2,h⟩:=Ag h;try dsimp only at h
 simp only [↓AO,AP,↓reduceIte,bj,bh];refine Ak (jq l lo hi hl2 ?_) ?_
 ·simp only [BL,Cv,↓reduceIte,bj,bh,Io]
 ·intro ex2 s2 hX2;rcases AX with q1000_|q1000_
  ·unfold Kv at hX2;dsimp only at hX2 h;obtain⟨rfl,n2_0⟩:=hX2;cases h;simp only [↓AO,AP,↓reduceIte,n2_0]
  ·unfold Kv at hX2;dsimp only at hX2 h
   obtain rfl:=hX2
   cases h;simp only [↓AO,AP,↓reduceIte,bj,bh]
def FW(l:AU)(lo hi:Int):Bool:=l.all fun x=>M9 x lo hi
theorem zA(l:AU)(lo hi:Int)(h:l.length<1099511627776):ah l lo hi=some (FW l lo hi):=by
 unfold ah Sa;have key:=Df (fun v=>Ku l lo hi v) (fun i=>(i:Int)) l.length (fun i=>M9 (l.getD i be) lo hi) (.inl ()) (.inr ()) ?_ ?_
 ·simp only [Et]at key;rw [key,RU (fun x=>M9 x lo hi)];unfold FW
  cases l.all (fun x=>M9 x lo hi)<;>rfl
 ·intro i hi;simp only [Ku];rw [if_pos (BX hi),BC (Dl hi),Cg,Gf i (by omega)]
 ·simp only [Ku];rw [if_neg (Am _)]
theorem eF(l:AU)(lo hi:Int)(h0:l.length<1099511627776):Y.call 59 [bk 3 (AR (bc .i64) l),bc .i64 lo,bc .i64 hi] []=some (bp (FW l lo hi),[]):=oZ l lo hi (zA l lo hi h0)
def Mh(s_:AU)(f:Int→Option Bool)(Gj:Int):Option ((Int)⊕(Int⊕Unit)):= if Gj<(s_.length:Int)then ck (0≤Gj∧Gj.toNat<s_.length)<| (f (s_.getD Gj.toNat be)).bind fun eG=> if eG=true then some (bl (bo Gj)) else some (bo (bm.wrap (Gj+1))) else some (bl (bl ()))
def og(s_:AU)(f:Int→Option Bool)(v:Int):Option (Int⊕Unit):=E9 (fun v=>Mh s_ f v) v
def gIF(s_:AU)(f:Int→Option Bool):Option (Int):=
 (og s_ f 0).bind fun AX=>
 match AX with
 | .inl q1000_=>
  some q1000_
 | .inr q1000_=>
  some (-1)
def eH:SC:= .seq (.ops [oB 9 .lss 3 (tK 8) (tK 7) 3 0]) (.seq (.cond (tK 9) .skip (.exit 0)) (.seq (.block 1 (.seq (.ops [oM 10 8 3,oA 5 10 3]) (.seq (.ops [oM 11 1 105,oM 12 0 26,oM 13 5 3,oI 14 26 12 13,oL 15 3 14 3,oX 16 (.call ⟨(.value (tK 11)), #[(tK 15)], #[3]⟩) 4]) (.cond (tK 16) (.seq (.ops [oM 17 5 3,oA 4 17 3]) .ret) .skip)))) (.ops [oB 18 .add 3 (tK 8) (iK 1) 3 3,oM 8 18 3])))
def A0N:SC:= .loop eH
def AD8:SC:= .seq (.ops [oX 4 (.assign (iK 0)) 3]) (.seq (.seq (.ops [oM 6 0 26,oN 7 6 26,oX 8 (.move (iK 0)) 3]) (.block 0 A0N)) (.seq (.ops [oX 4 RV 3]) .ret))
theorem A7C:Tryz.f129.body.map (BQ lends)=some AD8:=by kernel_rfl
theorem AL4:BV Tryz.f129 2=true:=by kernel_rfl
theorem AQU{a l:List D}{r:D×List D}(h:BU Y.env AD8 (fin Ai l.length [bt 4] r) (entry a l))(ha:a.length=2):Y.call 129 a l=some r:=
 AY (Y:=Y) rfl Tryz.func129 (ha▸AL4) A7C h
def Pp(s_:AU)(f:Int→Option Bool)(f_f:an)(f_c:List D)(Gj:Int)(s:St):Prop:=s.v 0=bk 3 (AR (bc .i64) s_)∧s.v 1=D.clo f_f f_c∧s.v 7=bc .i64 (s_.length:Int)∧s.v 8=bc .i64 Gj
def Rb(s_:AU)(f:Int→Option Bool)(f_f:an)(f_c:List D)(r:Int⊕Unit)(ex:Ex)(s:St):Prop:=match r with
 | .inl q=>ex= .ret∧s.v 4=bc .i64 q
 | .inr q=>ex= .exit 0
theorem A1y(s_:AU)(f:Int→Option Bool)(f_f:an)(f_c:List D)(f_h: ∀(a0:Int) (r:Bool),f a0=some r→Y.call f_f (bc .i64 a0::f_c) []=some (bp r,[]))(f_l:lends f_f=false){v:Int}{s:St}{r:Int⊕Unit}(h:og s_ f v=some r)(hM:Pp s_ f f_f f_c v s):BU Y.env A0N (Rb s_ f f_f f_c r) s:=by
 unfold og at h;refine Aw (c:=eH) (fun v=>Mh s_ f v) (fun v s=>Pp s_ f f_f f_c v s) (Rb s_ f f_f f_c) ?_ h hM;clear h hM s v r;intro Gj s o hM h;unfold Mh at h;unfold Pp at hM;obtain⟨m0,m1,m2,m3⟩:=hM;unfold eH;rcases iS h with⟨e1,h⟩|⟨e1,h⟩
 ·obtain⟨e2,h⟩:=De h;obtain⟨eG,hl3,h⟩:=Ag h;have c3:=f_h _ _ hl3;rcases iS h with⟨e4,h⟩|⟨e4,h⟩
  ·cases h;simp only [↓AO,AP,↓reduceIte,bj,bh,m0,m1,m2,m3,f_l,e1,e2.1,e2.2,c3,e4,Pp,Rb,OC]
  ·have e4f:eG=false:=Es.mpr e4;cases h;simp only [↓AO,AP,↓reduceIte,bj,bh,m0,m1,m2,m3,f_l,e1,e2.1,e2.2,c3,e4f,Pp,D6]
 ·cases h;simp only [↓AO,AP,↓reduceIte,bh,m2,m3,e1,Pp,Rb,GH]
theorem A4O(s_:AU)(f:Int→Option Bool)(f_f:an)(f_c:List D)(f_h: ∀(a0:Int) (r:Bool),f a0=some r→Y.call f_f (bc .i64 a0::f_c) []=some (bp r,[]))(f_l:lends f_f=false){r:Int}(h:gIF s_ f=some r):Y.call 129 [bk 3 (AR (bc .i64) s_),D.clo f_f f_c] []=some (bc .i64 r,[]):=by
 refine AQU ?_ rfl;unfold AD8;unfold gIF at h;obtain⟨AX,hl2,h⟩:=Ag h;try dsimp only at h
 simp only [↓AO,AP,↓reduceIte,bj,bh,b4];refine Ak (A1y s_ f f_f f_c f_h f_l hl2 ?_) ?_
 ·simp only [BL,Cv,↓reduceIte,bj,bh,Pp]
 ·intro ex2 s2 hX2;rcases AX with q1000_|q1000_
  ·unfold Rb at hX2;dsimp only at hX2 h;obtain⟨rfl,n2_0⟩:=hX2;cases h;simp only [↓AO,AP,↓reduceIte,n2_0]
  ·unfold Rb at hX2;dsimp only at hX2 h
   obtain rfl:=hX2
   cases h;simp only [↓AO,AP,↓reduceIte,bj,bh,b4]
def CF(s_:AU)(f:Int→Option Bool):Option (Bool):= (gIF s_ f).bind fun r7_=> some (decide (0≤r7_))
def AD9:SC:= .seq (.ops [oX 4 BR 4]) (.seq (.ops [oM 5 0 26,oM 6 1 105,oC 7 129 [(tK 5),(tK 6)] [26,105] 3,oB 8 .geq 3 (tK 7) (iK 0) 3 4,oA 4 8 4]) .ret)
theorem A7D:Tryz.f103.body.map (BQ lends)=some AD9:=by kernel_rfl
theorem AL5:BV Tryz.f103 2=true:=by kernel_rfl
theorem AQV{a l:List D}{r:D×List D}(h:BU Y.env AD9 (fin Ai l.length [bt 4] r) (entry a l))(ha:a.length=2):Y.call 103 a l=some r:=
 AY (Y:=Y) rfl Tryz.func103 (ha▸AL5) A7D h
theorem Lr(s_:AU)(f:Int→Option Bool)(f_f:an)(f_c:List D)(f_h: ∀(a0:Int) (r:Bool),f a0=some r→Y.call f_f (bc .i64 a0::f_c) []=some (bp r,[]))(f_l:lends f_f=false){r:Bool}(h:CF s_ f=some r):Y.call 103 [bk 3 (AR (bc .i64) s_),D.clo f_f f_c] []=some (bp r,[]):=by
 refine AQV ?_ rfl;unfold AD9;unfold CF at h;obtain⟨r7_,hl1,h⟩:=Ag h;try dsimp only at h
 have c1:=A4O s_ f f_f f_c f_h f_l hl1;cases h;simp only [↓AO,AP,↓reduceIte,bj,bh,c1]
def Lt(n_ c0_ c1_:Int):Option (Bool):= some (!(M9 n_ c0_ c1_))
def ADA:SC:= .seq (.ops [oX 4 BR 4]) (.seq (.ops [oM 5 0 3,oL 6 3 1 3,oL 7 3 2 3,oC 8 64 [(tK 5),(tK 6),(tK 7)] [3,3,3] 4,oX 9 (.unOp .not 4 (tK 8)) 4,oA 4 9 4]) .ret)
theorem A7E:Tryz.f104.body.map (BQ lends)=some ADA:=by kernel_rfl
theorem AL6:BV Tryz.f104 3=true:=by kernel_rfl
theorem AQW{a l:List D}{r:D×List D}(h:BU Y.env ADA (fin Ai l.length [bt 4] r) (entry a l))(ha:a.length=3):Y.call 104 a l=some r:=
 AY (Y:=Y) rfl Tryz.func104 (ha▸AL6) A7E h
theorem Vn(n_ c0_ c1_:Int){r:Bool}(h:Lt n_ c0_ c1_=some r):Y.call 104 [bc .i64 n_,D.cptr [bc .i64 c0_],D.cptr [bc .i64 c1_]] []=some (bp r,[]):=by
 refine AQW ?_ rfl;unfold ADA;unfold Lt at h;have c1:=KT n_ c0_ c1_;cases h;simp only [↓AO,AP,↓reduceIte,bj,bh,c1]
def Qf(list:AU)(low high:Int):Option (Bool):= (CF list (fun a0=>Lt a0 low high)).bind fun r9_=> some (!r9_)
def k71:SC:= .seq (.ops [oX 4 (.box 3 (tK 1)) 0,oX 5 (.box 3 (tK 2)) 0,oX 6 BR 4]) (.seq (.ops [oM 7 0 26,oX 8 (.makeFunc (Fn.func 104) #[] #[(tK 4),(tK 5)]) 105,oC 9 103 [(tK 7),(tK 8)] [26,105] 4,oX 10 (.unOp .not 4 (tK 9)) 4,oA 6 10 4]) .ret)
theorem ADB:Tryz.f71.body.map (BQ lends)=some k71:=by kernel_rfl
theorem AQY:BV Tryz.f71 3=true:=by kernel_rfl
theorem c71{a l:List D}{r:D×List D}(h:BU Y.env k71 (fin Ai l.length [bt 6] r) (entry a l))(ha:a.length=3):Y.call 71 a l=some r:=
 AY (Y:=Y) rfl Tryz.func71 (ha▸AQY) ADB h
theorem YJ(list:AU)(low high:Int){r:Bool}(h:Qf list low high=some r):Y.call 71 [bk 3 (AR (bc .i64) list),bc .i64 low,bc .i64 high] []=some (bp r,[]):=by
 refine c71 ?_ rfl;unfold k71;unfold Qf at h;obtain⟨r9_,hl1,h⟩:=Ag h;try dsimp only at h
 have c1:=Lr list (fun a0=>Lt a0 low high) 104 [D.cptr [bc .i64 low],D.cptr [bc .i64 high]] (fun a0 _ hh=>Vn a0 low high hh) A46 hl1;cases h;simp only [↓AO,AP,↓reduceIte,bj,bh,c1]
theorem ol(l:AU)(f:Int→Option Bool)(p:Int→Bool)(h:l.length<1099511627776)(hf: ∀x∈l,f x=some (p x)):
  ∃r,gIF l f=some r∧(0≤r↔l.any p=true):=by
 unfold gIF og;by_cases ha: ∀i,i<l.length→(!p (l.getD i be))=true
 ·have key:=CO (fun v=>Mh l f v) (fun i=>(i:Int)) l.length (.inr ()) ?_ ?_
  ·simp only [Et]at key;rw [key]
   refine⟨-1,rfl,by simp,fun hc=> ?_⟩
   obtain⟨x,hx,hpx⟩:=Vd.1 hc;obtain⟨i,hi,rfl⟩:=V6 hx;have:=ha i hi
   rw [Ad _ _ hi,hpx]at this;cases this
  ·intro i hi;simp only [Mh];have e:=ha i hi;rw [Ad _ _ hi]at e;rw [if_pos (BX hi),BC (Dl hi),GI _ _ hi,hf _ (O6 hi),C8,if_neg (by cases hp:p l[i]<;>simp_all),Gf i (by omega)]
  ·simp only [Mh];rw [if_neg (Am _)]
 ·obtain⟨m,h1,h2,h3⟩:=SV (P:=fun i=> !p (l.getD i be)) ha;have key:=CO (fun v=>Mh l f v) (fun i=>(i:Int)) m (.inl (m:Int)) ?_ ?_
  ·simp only [Et]at key;rw [key]
   refine⟨(m:Int),rfl,fun _=> ?_,fun _=>by omega⟩
   have h2':p l[m]=true:=by rw [Ad _ _ h1]at h2;simpa using h2
   exact Vd.2 ⟨_,O6 h1,h2'⟩
  ·intro i hi;simp only [Mh];have e:=h3 i hi;rw [Ad _ _ (by omega)]at e
   rw [if_pos (BX (by omega)),BC (Dl (by omega)),GI _ _ (by omega),hf _ (O6 _),C8,if_neg (by cases hp:p l[i]<;>simp_all),Gf i (by omega)]
  ·simp only [Mh];have h2':p l[m]=true:=by rw [Ad _ _ h1]at h2;simpa using h2
   rw [if_pos (BX h1),BC (Dl h1),GI _ _ h1,hf _ (O6 _),C8,if_pos h2']
theorem Zj(l:AU)(f:Int→Option Bool)(p:Int→Bool)(h:l.length<1099511627776)(hf: ∀x∈l,f x=some (p x)):CF l f=some (l.any p):=by
 obtain⟨r,h1,h2⟩:=ol l f p h hf;unfold CF;rw [h1,C8]
 congr 1
 rw [S9];simpa using h2
theorem eO(l:AU)(lo hi:Int)(h:l.length<1099511627776):Qf l lo hi=some (FW l lo hi):=by
 unfold Qf;rw [Zj l (fun a0=>Lt a0 lo hi) (fun x=> !M9 x lo hi) h (fun x _=>rfl),C8];unfold FW;rw [List.all_eq_not_any_not]
theorem UA(list:AU)(low high:Int)(h0:list.length<1099511627776):Y.call 71 [bk 3 (AR (bc .i64) list),bc .i64 low,bc .i64 high] []=some (bp (FW list low high),[]):=YJ list low high (eO list low high h0)
def Dx(x_:Int):Option (Bool):= some false
def ADC:SC:= .seq (.ops [oX 2 BR 4]) (.seq (.ops [oM 3 0 3,oM 4 0 3,oB 5 .neq 3 (tK 3) (tK 4) 3 4,oA 2 5 4]) .ret)
theorem A7F:Tryz.f141.body.map (BQ lends)=some ADC:=by kernel_rfl
theorem AL7:BV Tryz.f141 1=true:=by kernel_rfl
theorem AQZ{a l:List D}{r:D×List D}(h:BU Y.env ADC (fin Ai l.length [bt 2] r) (entry a l))(ha:a.length=1):Y.call 141 a l=some r:=
 AY (Y:=Y) rfl Tryz.func141 (ha▸AL7) A7F h
theorem GJ(x_:Int){r:Bool}(h:Dx x_=some r):Y.call 141 [bc .i64 x_] []=some (bp r,[]):=by
 refine AQZ ?_ rfl;unfold ADC;unfold Dx at h;cases h;simp only [↓AO,AP,↓reduceIte,bj,bh]
def KU(x_ y:Int):Option (Bool):= (Dx x_).bind fun r6_=> if r6_=true then (Dx y).bind fun r9_=> if r9_=true then some (decide (x_<y)) else some true else some (decide (x_<y))
def ADE:SC:= .seq (.ops [oX 4 BR 4]) (.seq (.ops [oM 5 0 3,oC 6 141 [(tK 5)] [3] 4,oM 7 6 4,⟨some 8,.move (tK 1),3,(some (some 7,true))⟩,⟨some 9,.call ⟨(.value (.func 141)), #[(tK 8)], #[3]⟩,4,(some (some 7,true))⟩,⟨some 10,.unOp .not 4 (tK 9),4,(some (some 7,true))⟩,oX 11 (.pick (tK 7) (tK 10) Lm) 4,oM 12 11 4,⟨some 13,.move (tK 0),3,(some (some 12,false))⟩,⟨some 14,.move (tK 1),3,(some (some 12,false))⟩,⟨some 15,.binOp .lss 3 (tK 13) (tK 14) 3,4,(some (some 12,false))⟩,oX 16 (.pick (tK 12) Ck (tK 15)) 4,oA 4 16 4]) .ret)
theorem A7G:Tryz.f125.body.map (BQ lends)=some ADE:=by kernel_rfl
theorem AL8:BV Tryz.f125 2=true:=by kernel_rfl
theorem AQb{a l:List D}{r:D×List D}(h:BU Y.env ADE (fin Ai l.length [bt 4] r) (entry a l))(ha:a.length=2):Y.call 125 a l=some r:=
 AY (Y:=Y) rfl Tryz.func125 (ha▸AL8) A7G h
theorem VA(x_ y:Int){r:Bool}(h:KU x_ y=some r):Y.call 125 [bc .i64 x_,bc .i64 y] []=some (bp r,[]):=by
 refine AQb ?_ rfl;unfold ADE;unfold KU at h;obtain⟨r6_,hl1,h⟩:=Ag h;have c1:=GJ x_ hl1;rcases iS h with⟨e2,h⟩|⟨e2,h⟩
 ·obtain⟨r9_,hl3,h⟩:=Ag h;have c3:=GJ y hl3;rcases iS h with⟨e4,h⟩|⟨e4,h⟩
  ·cases h;simp only [↓AO,AP,↓reduceIte,bj,bh,c1,e2,c3,e4]
  ·have e4f:r9_=false:=Es.mpr e4;cases h;simp only [↓AO,AP,↓reduceIte,bj,bh,c1,e2,c3,e4f]
 ·have e2f:r6_=false:=Es.mpr e2;cases h;simp only [↓AO,AP,↓reduceIte,bj,bh,c1,e2f]
def Pq(x_:AU)(i:Int):Option ((Int)⊕(Unit⊕Unit)):= if 0<i then ck (0≤i∧i.toNat<x_.length)<| ck (0≤bm.wrap (i-1)∧(bm.wrap (i-1)).toNat<x_.length)<| (KU (x_.getD i.toNat be) (x_.getD ((bm.wrap (i-1)).toNat) be)).bind fun eP=> if eP=true then some (bl (bo ())) else some (bo (bm.wrap (i-1))) else some (bl (bl ()))
def oo(x_:AU)(v:Int):Option (Unit⊕Unit):=E9 (fun v=>Pq x_ v) v
def gIS(x_:AU):Option (Bool):=
 (oo x_ (bm.wrap ((x_.length:Int)-1))).bind fun AX=>
 match AX with
 | .inl q1000_=>
  some false
 | .inr q1000_=>
  some true
abbrev qd8:List Nat:=[11,12,13,14,15,16,17,18,19,20]
def oq:SC:= .seq (.seq (.ops [oM 7 3 3,oB 8 .gtr 3 (tK 7) (iK 0) 3 4]) (.cond (tK 8) .skip (.exit 0))) (.seq (.block 1 (.seq (.draws [(⟨[11,0,0],qd8,[11]⟩,oM 11 0 26),(⟨[12,3,3],qd8,[12]⟩,oM 12 3 3),(⟨[13,11,12,0,3],qd8,[13]⟩,oI 13 26 11 12),(⟨[14,13,0],qd8,[14]⟩,oL 14 3 13 3),(⟨[15,0,0],qd8,[15]⟩,oM 15 0 26),(⟨[16,3,3],qd8,[16]⟩,oM 16 3 3),(⟨[17,16,3],qd8,[17]⟩,oB 17 .sub 3 (tK 16) (iK 1) 3 3),(⟨[18,15,17,0,17],qd8,[18]⟩,oI 18 26 15 17),(⟨[19,18,0],qd8,[19]⟩,oL 19 3 18 3),(⟨[20,14,19,0,0],qd8,[20]⟩,oC 20 125 [(tK 14),(tK 19)] [3,3] 4)]) (.cond (tK 20) (.seq (.ops [oX 2 BR 4]) .ret) .skip))) (.ops [oM 9 3 3,oB 10 .sub 3 (tK 9) (iK 1) 3 3,oA 3 10 3]))
def A4Q:SC:= .loop oq
def k97:SC:= .seq (.ops [oX 2 BR 4]) (.seq (.seq (.ops [oM 4 0 26,oN 5 4 26,oB 6 .sub 3 (tK 5) (iK 1) 3 3,oA 3 6 3]) (.block 0 A4Q)) (.seq (.ops [oX 2 (.assign Ck) 4]) .ret))
theorem ADF:Tryz.f97.body.map (BQ lends)=some k97:=by kernel_rfl
theorem AQd:BV Tryz.f97 1=true:=by kernel_rfl
theorem c97{a l:List D}{r:D×List D}(h:BU Y.env k97 (fin Ai l.length [bt 2] r) (entry a l))(ha:a.length=1):Y.call 97 a l=some r:=
 AY (Y:=Y) rfl Tryz.func97 (ha▸AQd) ADF h
def Ps(x_:AU)(i:Int)(s:St):Prop:=s.v 0=bk 3 (AR (bc .i64) x_)∧s.v 3=bc .i64 i
def Rc(x_:AU)(r:Unit⊕Unit)(ex:Ex)(s:St):Prop:=match r with
 | .inl q=>ex= .ret∧s.v 2=bp false
 | .inr q=>ex= .exit 0
theorem A1z(x_:AU){v:Int}{s:St}{r:Unit⊕Unit}(h:oo x_ v=some r)(hM:Ps x_ v s):BU Y.env A4Q (Rc x_ r) s:=by
 unfold oo at h;refine Aw (c:=oq) (fun v=>Pq x_ v) (fun v s=>Ps x_ v s) (Rc x_) ?_ h hM;clear h hM s v r;intro i s o hM h;unfold Pq at h;unfold Ps at hM;obtain⟨m0,m1⟩:=hM;unfold oq;rcases iS h with⟨e1,h⟩|⟨e1,h⟩
 ·obtain⟨e2,e3,h⟩:=EC h;obtain⟨eP,hl4,h⟩:=Ag h;have c4:=VA (x_.getD i.toNat be) (x_.getD ((bm.wrap (i-1)).toNat) be) hl4;rcases iS h with⟨e5,h⟩|⟨e5,h⟩
  ·cases h;simp only [↓AO,AP,↓reduceIte,bj,bh,m0,m1,e1,e2.1,e2.2,e3.1,e3.2,c4,e5,Ps,Rc,OC]
  ·have e5f:eP=false:=Es.mpr e5;cases h;simp only [↓AO,AP,↓reduceIte,bj,bh,m0,m1,e1,e2.1,e2.2,e3.1,e3.2,c4,e5f,Ps,D6]
 ·cases h;simp only [↓AO,AP,↓reduceIte,bh,m1,e1,Ps,Rc,GH]
theorem A4R(x_:AU){r:Bool}(h:gIS x_=some r):Y.call 97 [bk 3 (AR (bc .i64) x_)] []=some (bp r,[]):=by
 refine c97 ?_ rfl;unfold k97;unfold gIS at h;obtain⟨AX,hl2,h⟩:=Ag h;try dsimp only at h
 simp only [↓AO,AP,↓reduceIte,bj,bh];refine Ak (A1z x_ hl2 ?_) ?_
 ·simp only [BL,Cv,↓reduceIte,bj,bh,Ps]
 ·intro ex2 s2 hX2;rcases AX with q1000_|q1000_
  ·unfold Rc at hX2;dsimp only at hX2 h;obtain⟨rfl,n2_0⟩:=hX2;cases h;simp only [↓AO,AP,↓reduceIte,n2_0]
  ·unfold Rc at hX2;dsimp only at hX2 h
   obtain rfl:=hX2
   cases h;simp only [↓AO,AP,↓reduceIte,bj,bh]
def GK(l:AU):Bool:=(ao (l.length-1)).all fun i=>decide (l.getD i be≤l.getD (i+1) be)
theorem ADG(l:AU)(h:l.length<1099511627776):gIS l=some (GK l):=by
 unfold gIS oo;rw [Ib _ (by omega)]
 rcases Nat.eq_zero_or_pos l.length with h0|h0
 ·rw [D5 (r:=bl ())]
  ·simp [GK,h0]
  ·simp only [Pq];rw [if_neg (by omega)]
 ·have key:=Df (fun v=>Pq l v) (fun j=>(l.length:Int)-1-j) (l.length-1) (fun j=>decide (l.getD (l.length-1-j-1) be≤l.getD (l.length-1-j) be)) (.inl ()) (.inr ()) ?_ ?_
  ·simp only [Et,Int.sub_zero]at key;rw [key]
   have e:(ao (l.length-1)).all (fun j=>decide (l.getD (l.length-1-j-1) be≤l.getD (l.length-1-j) be))=GK l:=by
    unfold GK;rw [S9,Cc,Cc]
    constructor
    ·intro hh i hi;have:=hh (l.length-1-i-1) (by omega)
     rwa [show l.length-1-(l.length-1-i-1)=i+1 by omega,Nat.add_sub_cancel]at this
    ·intro hh i hi;have:=hh (l.length-1-i-1) (by omega)
     rwa [show l.length-1-i-1+1=l.length-1-i by omega]at this
   rw [e]
   cases GK l<;>rfl
  ·intro i hi;simp only [Pq];rw [if_pos (by omega),Ib _ (by omega)]
   rw [BC (by omega),BC (by omega),show((l.length:Int)-1-i).toNat=l.length-1-i by omega,show((l.length:Int)-1-i-1).toNat=l.length-1-i-1 by omega]
   have e:KU (l.getD (l.length-1-i) be) (l.getD (l.length-1-i-1) be)=some (decide (l.getD (l.length-1-i) be<l.getD (l.length-1-i-1) be)):=by
    unfold KU Dx;by_cases hq:l.getD (l.length-1-i) be<l.getD (l.length-1-i-1) be<;>simp [hq]
   rw [e,C8];simp only [decide_eq_true_eq];by_cases hq:l.getD (l.length-1-i) be<l.getD (l.length-1-i-1) be
   ·rw [if_pos hq,if_neg (by omega)]
   ·rw [if_neg hq,if_pos (by omega),show(l.length:Int)-1-i-1=(l.length:Int)-1-((i+1:Nat):Int) by omega]
  ·simp only [Pq];rw [if_neg (by omega)]
theorem ADH(x_:AU)(h0:x_.length<1099511627776):Y.call 97 [bk 3 (AR (bc .i64) x_)] []=some (bp (GK x_),[]):=A4R x_ (ADG x_ h0)
def Ic:AU→AU→Int
 | [],[]=>0
 | [],_::_=> -1
 |_::_,[]=>1
 |x::a,y::b=>if x=y then Ic a b else if x<y then-1 else 1
def GL(x_ y:Int):Option (Int):= (Dx x_).bind fun Vo=> (Dx y).bind fun Vq=> if Vo=true then if Vq=true then some 0 else some (-1) else if Vq=true then some 1 else if x_<y then some (-1) else if y<x_ then some 1 else some 0
def ADI:SC:= .seq (.ops [oX 4 (.assign (iK 0)) 3]) (.seq (.ops [oM 7 0 3,oC 8 141 [(tK 7)] [3] 4,oA 5 8 4]) (.seq (.ops [oM 9 1 3,oC 10 141 [(tK 9)] [3] 4,oA 6 10 4]) (.seq (.seq (.ops [oM 11 5 4]) (.cond (tK 11) (.seq (.seq (.ops [oM 12 6 4]) (.cond (tK 12) (.seq (.ops [oX 4 (.assign (iK 0)) 3]) .ret) .skip)) (.seq (.ops [oX 4 RV 3]) .ret)) .skip)) (.seq (.seq (.ops [oM 13 6 4]) (.cond (tK 13) (.seq (.ops [oX 4 (.assign (iK 1)) 3]) .ret) .skip)) (.seq (.seq (.ops [oM 14 0 3,oM 15 1 3,oB 16 .lss 3 (tK 14) (tK 15) 3 4]) (.cond (tK 16) (.seq (.ops [oX 4 RV 3]) .ret) .skip)) (.seq (.seq (.ops [oM 17 0 3,oM 18 1 3,oB 19 .gtr 3 (tK 17) (tK 18) 3 4]) (.cond (tK 19) (.seq (.ops [oX 4 (.assign (iK 1)) 3]) .ret) .skip)) (.seq (.ops [oX 4 (.assign (iK 0)) 3]) .ret)))))))
theorem A7H:Tryz.f126.body.map (BQ lends)=some ADI:=by kernel_rfl
theorem AL9:BV Tryz.f126 2=true:=by kernel_rfl
theorem AQe{a l:List D}{r:D×List D}(h:BU Y.env ADI (fin Ai l.length [bt 4] r) (entry a l))(ha:a.length=2):Y.call 126 a l=some r:=
 AY (Y:=Y) rfl Tryz.func126 (ha▸AL9) A7H h
theorem Sb(x_ y:Int){r:Int}(h:GL x_ y=some r):Y.call 126 [bc .i64 x_,bc .i64 y] []=some (bc .i64 r,[]):=by
 refine AQe ?_ rfl;unfold ADI;unfold GL at h;obtain⟨Vo,hl1,h⟩:=Ag h;have c1:=GJ x_ hl1;obtain⟨Vq,hl2,h⟩:=Ag h;have c2:=GJ y hl2;rcases iS h with⟨e3,h⟩|⟨e3,h⟩
 ·rcases iS h with⟨e4,h⟩|⟨e4,h⟩
  ·cases h;simp only [↓AO,AP,↓reduceIte,bj,bh,c1,c2,e3,e4]
  ·have e4f:Vq=false:=Es.mpr e4;cases h;simp only [↓AO,AP,↓reduceIte,bj,bh,c1,c2,e3,e4f]
 ·have e3f:Vo=false:=Es.mpr e3;rcases iS h with⟨e4,h⟩|⟨e4,h⟩
  ·cases h;simp only [↓AO,AP,↓reduceIte,bj,bh,c1,c2,e3f,e4]
  ·have e4f:Vq=false:=Es.mpr e4;rcases iS h with⟨e5,h⟩|⟨e5,h⟩
   ·cases h;simp only [↓AO,AP,↓reduceIte,bj,bh,c1,c2,e3f,e4f,e5]
   ·rcases iS h with⟨e6,h⟩|⟨e6,h⟩
    ·cases h;simp only [↓AO,AP,↓reduceIte,bj,bh,c1,c2,e3f,e4f,e5,e6]
    ·cases h;simp only [↓AO,AP,↓reduceIte,bj,bh,c1,c2,e3f,e4f,e5,e6]
def Pt(s1_ s2_:AU)(Al:Int):Option ((Int)⊕(Int⊕Unit)):= if Al<(s1_.length:Int)then ck (0≤Al∧Al.toNat<s1_.length)<| if(s2_.length:Int)≤Al then some (bl (bo 1)) else ck (0≤Al∧Al.toNat<s2_.length)<| (GL (s1_.getD Al.toNat be) (s2_.getD Al.toNat be)).bind fun A20=> if A20=0 then some (bo (bm.wrap (Al+1))) else some (bl (bo A20)) else some (bl (bl ()))
def UB(s1_ s2_:AU)(v:Int):Option (Int⊕Unit):=E9 (fun v=>Pt s1_ s2_ v) v
def gCp(s1_ s2_:AU):Option (Int):=
 (UB s1_ s2_ 0).bind fun AX=>
 match AX with
 | .inl q1000_=>
  some q1000_
 | .inr q1000_=>
  if(s1_.length:Int)<(s2_.length:Int)then
   some (-1)
  else
   some 0
def ou:SC:= .seq (.ops [oB 12 .lss 3 (tK 11) (tK 10) 3 0]) (.seq (.cond (tK 12) .skip (.exit 0)) (.seq (.block 1 (.seq (.ops [oM 13 11 3,oI 14 26 9 11,oL 15 3 14 3,oA 5 13 3,oA 6 15 3]) (.seq (.seq (.ops [oM 16 5 3,oM 17 1 26,oN 18 17 26,oB 19 .geq 3 (tK 16) (tK 18) 3 4]) (.cond (tK 19) (.seq (.ops [oX 4 (.assign (iK 1)) 3]) .ret) .skip)) (.seq (.ops [oM 20 1 26,oM 21 5 3,oI 22 26 20 21,oL 23 3 22 3,oA 7 23 3]) (.seq (.ops [oM 24 6 3,oM 25 7 3,oC 26 126 [(tK 24),(tK 25)] [3,3] 3,oA 8 26 3]) (.seq (.ops [oM 27 8 3,oB 28 .neq 3 (tK 27) (iK 0) 3 4]) (.cond (tK 28) (.seq (.ops [oM 29 8 3,oA 4 29 3]) .ret) .skip))))))) (.ops [oB 30 .add 3 (tK 11) (iK 1) 3 3,oM 11 30 3])))
def A4S:SC:= .loop ou
def k98:SC:= .seq (.ops [oX 4 (.assign (iK 0)) 3]) (.seq (.seq (.ops [oM 9 0 26,oN 10 9 26,oX 11 (.move (iK 0)) 3]) (.block 0 A4S)) (.seq (.seq (.ops [oM 31 0 26,oN 32 31 26,oM 33 1 26,oN 34 33 26,oB 35 .lss 3 (tK 32) (tK 34) 3 4]) (.cond (tK 35) (.seq (.ops [oX 4 RV 3]) .ret) .skip)) (.seq (.ops [oX 4 (.assign (iK 0)) 3]) .ret)))
theorem ADK:Tryz.f98.body.map (BQ lends)=some k98:=by kernel_rfl
theorem AQg:BV Tryz.f98 2=true:=by kernel_rfl
theorem c98{a l:List D}{r:D×List D}(h:BU Y.env k98 (fin Ai l.length [bt 4] r) (entry a l))(ha:a.length=2):Y.call 98 a l=some r:=
 AY (Y:=Y) rfl Tryz.func98 (ha▸AQg) ADK h
def OD(s1_ s2_:AU)(Al:Int)(s:St):Prop:=s.v 0=bk 3 (AR (bc .i64) s1_)∧s.v 1=bk 3 (AR (bc .i64) s2_)∧s.v 9=bk 3 (AR (bc .i64) s1_)∧s.v 10=bc .i64 (s1_.length:Int)∧s.v 11=bc .i64 Al
def Pv(s1_ s2_:AU)(r:Int⊕Unit)(ex:Ex)(s:St):Prop:=match r with
 | .inl q=>ex= .ret∧s.v 4=bc .i64 q
 | .inr q=>ex= .exit 0∧s.v 0=bk 3 (AR (bc .i64) s1_)∧s.v 1=bk 3 (AR (bc .i64) s2_)
theorem A21(s1_ s2_:AU){v:Int}{s:St}{r:Int⊕Unit}(h:UB s1_ s2_ v=some r)(hM:OD s1_ s2_ v s):BU Y.env A4S (Pv s1_ s2_ r) s:=by
 unfold UB at h;refine Aw (c:=ou) (fun v=>Pt s1_ s2_ v) (fun v s=>OD s1_ s2_ v s) (Pv s1_ s2_) ?_ h hM;clear h hM s v r;intro Al s o hM h;unfold Pt at h;unfold OD at hM;obtain⟨m0,m1,m2,m3,m4⟩:=hM;unfold ou;rcases iS h with⟨e1,h⟩|⟨e1,h⟩
 ·obtain⟨e2,h⟩:=De h;rcases iS h with⟨e3,h⟩|⟨e3,h⟩
  ·cases h;simp only [↓AO,AP,↓reduceIte,bj,bh,m1,m2,m3,m4,e1,e2.1,e2.2,e3,OD,Pv,OC]
  ·obtain⟨e4,h⟩:=De h;obtain⟨A20,hl5,h⟩:=Ag h;have c5:=Sb (s1_.getD Al.toNat be) (s2_.getD Al.toNat be) hl5;rcases iS h with⟨e6,h⟩|⟨e6,h⟩
   ·cases h;simp only [↓AO,AP,↓reduceIte,bj,bh,m0,m1,m2,m3,m4,e1,e2.1,e2.2,e3,e4.2,c5,decide_eq_true e6,OD,D6]
   ·cases h;simp only [↓AO,AP,↓reduceIte,bj,bh,m1,m2,m3,m4,e1,e2.1,e2.2,e3,e4.2,c5,e6,OD,Pv,OC]
 ·cases h;simp only [↓AO,AP,↓reduceIte,bj,bh,m0,m1,m3,m4,e1,OD,Pv,GH]
theorem wC(s1_ s2_:AU){r:Int}(h:gCp s1_ s2_=some r):Y.call 98 [bk 3 (AR (bc .i64) s1_),bk 3 (AR (bc .i64) s2_)] []=some (bc .i64 r,[]):=by
 refine c98 ?_ rfl;unfold k98;unfold gCp at h;obtain⟨AX,hl2,h⟩:=Ag h;try dsimp only at h
 simp only [↓AO,AP,↓reduceIte,bj,bh,b4];refine Ak (A21 s1_ s2_ hl2 ?_) ?_
 ·simp only [BL,Cv,↓reduceIte,bj,bh,OD]
 ·intro ex2 s2 hX2;rcases AX with q1000_|q1000_
  ·unfold Pv at hX2;dsimp only at hX2 h;obtain⟨rfl,n2_0⟩:=hX2;cases h;simp only [↓AO,AP,↓reduceIte,n2_0]
  ·unfold Pv at hX2;dsimp only at hX2 h;obtain⟨rfl,n2_0,n2_1⟩:=hX2;rcases iS h with⟨e3,h⟩|⟨e3,h⟩
   ·cases h;simp only [↓AO,AP,↓reduceIte,bj,bh,n2_0,n2_1,e3]
   ·cases h;simp only [↓AO,AP,↓reduceIte,bj,bh,n2_0,n2_1,e3]
theorem YK(x y:Int):GL x y=some (if x<y then-1 else if y<x then 1 else 0):=by
 unfold GL Dx;by_cases h1:x<y<;>by_cases h2:y<x<;>simp [h1,h2]
theorem jr: ∀(a b p q:AU),p.length=q.length→p.length+a.length<1099511627776→q.length+b.length<1099511627776→
  (UB (p++a) (q++b) (p.length:Int)).bind (fun r=>match r with| .inl q2=>some q2| .inr _=>if((p++a).length:Int)<((q++b).length:Int)then some (-1)else some 0)=some (Ic a b):=by
 intro a
 induction a with
 |nil=>
  intro b p q hpq ha hb;unfold UB;rw [D5 (r:=bl ())]
  ·simp only [C8,V8,Ol,hpq]
   cases b with
   |nil=>rw [if_neg (by simp)];rfl
   |cons y b=>rw [if_pos (by simp;omega)];rfl
  ·simp only [Pt];rw [if_neg (Uq _)]
 |cons x a ih=>
  intro b p q hpq ha hb;simp only [KL]at ha hb;have ex:(p++x::a).getD (p.length:Int).toNat be=x:=by rw [Cg];exact EX p (x::a) p.length rfl (by simp)
  cases b with
  |nil=>
   unfold UB;rw [D5 (r:=bo 1)]
   ·rfl
   ·simp only [Pt];rw [if_pos (U7 ..),BC (U8 ..),if_pos (by simp;omega)]
  |cons y b=>
   simp only [KL]at hb;have ey:(q++y::b).getD (p.length:Int).toNat be=y:=by rw [Cg,hpq];exact EX q (y::b) q.length rfl (by simp)
   have step:Pt (p++x::a) (q++y::b) (p.length:Int)=if x=y then some (.inl (((p++[x]).length:Nat):Int))else some (.inr (.inl (if x<y then-1 else 1))):=by
    unfold Pt;rw [if_pos (U7 ..),BC (U8 ..),if_neg (by simp;omega),BC (by simp;omega),ex,ey,YK,C8,Gf _ (by omega)]
    by_cases h1:x=y
    ·subst h1;simp
    ·rw [if_neg h1];by_cases h2:x<y
     ·simp [h2]
     ·have h3:y<x:=by omega
      simp [h2,h3]
   unfold Ic;by_cases h1:x=y
   ·rw [if_pos h1];rw [if_pos h1]at step;have:=ih b (p++[x]) (q++[y]) (by simp [hpq]) (by simp;omega) (by simp;omega)
    unfold UB at this ⊢;rw [KC step];simpa using this
   ·rw [if_neg h1];rw [if_neg h1]at step;unfold UB;rw [D5 step];rfl
theorem A4T(a b:AU)(ha:a.length<1099511627776)(hb:b.length<1099511627776):gCp a b=some (Ic a b):=by
 have:=jr a b [] [] rfl (by simpa using ha) (by simpa using hb)
 unfold gCp;simp only [PW,R8,Et]at this;exact this
theorem ADL(s1_ s2_:AU)(h0:s1_.length<1099511627776)(h1:s2_.length<1099511627776):Y.call 98 [bk 3 (AR (bc .i64) s1_),bk 3 (AR (bc .i64) s2_)] []=some (bc .i64 (Ic s1_ s2_),[]):=wC s1_ s2_ (A4T s1_ s2_ h0 h1)
def UC(n_:Int):Option (Int):= if 0<n_ then some 1 else if n_<0 then some (-1) else some 0
def ADM:SC:= .seq (.ops [oX 2 (.assign (iK 0)) 3]) (.seq (.block 0 (.seq (.ops [oM 4 0 3,oB 5 .gtr 3 (tK 4) (iK 0) 3 4,oA 3 5 4]) (.cond (tK 3) (.seq (.ops [oX 2 (.assign (iK 1)) 3]) .ret) (.seq (.ops [oM 7 0 3,oB 8 .lss 3 (tK 7) (iK 0) 3 4,oA 6 8 4]) (.cond (tK 6) (.seq (.ops [oX 2 RV 3]) .ret) .skip))))) (.seq (.ops [oX 2 (.assign (iK 0)) 3]) .ret))
theorem A7I:Tryz.f139.body.map (BQ lends)=some ADM:=by kernel_rfl
theorem ALA:BV Tryz.f139 1=true:=by kernel_rfl
theorem AQh{a l:List D}{r:D×List D}(h:BU Y.env ADM (fin Ai l.length [bt 2] r) (entry a l))(ha:a.length=1):Y.call 139 a l=some r:=
 AY (Y:=Y) rfl Tryz.func139 (ha▸ALA) A7I h
theorem jv(n_:Int){r:Int}(h:UC n_=some r):Y.call 139 [bc .i64 n_] []=some (bc .i64 r,[]):=by
 refine AQh ?_ rfl;unfold ADM;unfold UC at h;rcases iS h with⟨e1,h⟩|⟨e1,h⟩
 ·cases h;simp only [↓AO,AP,↓reduceIte,bj,bh,e1]
 ·rcases iS h with⟨e2,h⟩|⟨e2,h⟩
  ·cases h;simp only [↓AO,AP,↓reduceIte,bj,bh,e1,e2]
  ·cases h;simp only [↓AO,AP,↓reduceIte,bj,bh,e1,e2]
def Hf(a b:AU)(GM:Int):Option ((Int)⊕(Int⊕Unit)):= if GM<(a.length:Int)then ck (0≤GM∧GM.toNat<a.length)<| ck (0≤GM∧GM.toNat<b.length)<| if(a.getD GM.toNat be)=(b.getD GM.toNat be)then some (bo (bm.wrap (GM+1))) else (UC (bm.wrap ((a.getD GM.toNat be)-(b.getD GM.toNat be)))).bind fun A20=> some (bl (bo A20)) else some (bl (bl ()))
def Ip(a b:AU)(v:Int):Option (Int⊕Unit):=E9 (fun v=>Hf a b v) v
def Ur(a b:AU):Option (Int):=
 (Ip a b 0).bind fun AX=>
 match AX with
 | .inl q1000_=>
  some q1000_
 | .inr q1000_=>
  some 0
def eQ:SC:= .seq (.ops [oB 10 .lss 3 (tK 9) (tK 8) 3 0]) (.seq (.cond (tK 10) .skip (.exit 0)) (.seq (.block 1 (.seq (.ops [oM 11 9 3,oI 12 26 7 9,oL 13 3 12 3,oA 5 11 3,oA 6 13 3]) (.seq (.ops [oM 14 6 3,oM 15 1 26,oM 16 5 3,oI 17 26 15 16,oL 18 3 17 3,oB 19 .neq 3 (tK 14) (tK 18) 3 4]) (.cond (tK 19) (.seq (.ops [oM 20 6 3,oM 21 1 26,oM 22 5 3,oI 23 26 21 22,oL 24 3 23 3,oB 25 .sub 3 (tK 20) (tK 24) 3 3,oC 26 139 [(tK 25)] [3] 3,oA 4 26 3]) .ret) .skip)))) (.ops [oB 27 .add 3 (tK 9) (iK 1) 3 3,oM 9 27 3])))
def A0O:SC:= .loop eQ
def ADN:SC:= .seq (.ops [oX 4 (.assign (iK 0)) 3]) (.seq (.seq (.ops [oM 7 0 26,oN 8 7 26,oX 9 (.move (iK 0)) 3]) (.block 0 A0O)) (.seq (.ops [oX 4 (.assign (iK 0)) 3]) .ret))
theorem A7J:Tryz.f121.body.map (BQ lends)=some ADN:=by kernel_rfl
theorem ALB:BV Tryz.f121 2=true:=by kernel_rfl
theorem AQi{a l:List D}{r:D×List D}(h:BU Y.env ADN (fin Ai l.length [bt 4] r) (entry a l))(ha:a.length=2):Y.call 121 a l=some r:=
 AY (Y:=Y) rfl Tryz.func121 (ha▸ALB) A7J h
def FX(a b:AU)(GM:Int)(s:St):Prop:=s.v 1=bk 3 (AR (bc .i64) b)∧s.v 7=bk 3 (AR (bc .i64) a)∧s.v 8=bc .i64 (a.length:Int)∧s.v 9=bc .i64 GM
def Hg(a b:AU)(r:Int⊕Unit)(ex:Ex)(s:St):Prop:=match r with
 | .inl q=>ex= .ret∧s.v 4=bc .i64 q
 | .inr q=>ex= .exit 0
theorem Zk(a b:AU){v:Int}{s:St}{r:Int⊕Unit}(h:Ip a b v=some r)(hM:FX a b v s):BU Y.env A0O (Hg a b r) s:=by
 unfold Ip at h;refine Aw (c:=eQ) (fun v=>Hf a b v) (fun v s=>FX a b v s) (Hg a b) ?_ h hM;clear h hM s v r;intro GM s o hM h;unfold Hf at h;unfold FX at hM;obtain⟨m0,m1,m2,m3⟩:=hM;unfold eQ;rcases iS h with⟨e1,h⟩|⟨e1,h⟩
 ·obtain⟨e2,e3,h⟩:=EC h;rcases iS h with⟨e4,h⟩|⟨e4,h⟩
  ·cases h;simp only [↓AO,AP,↓reduceIte,bj,bh,m0,m1,m2,m3,e1,e2.1,e2.2,e3.2,decide_eq_true e4,FX,D6]
  ·obtain⟨A20,hl5,h⟩:=Ag h;try dsimp only at h
   have c5:=jv (bm.wrap ((a.getD GM.toNat be)-(b.getD GM.toNat be))) hl5;cases h;simp only [↓AO,AP,↓reduceIte,bj,bh,m0,m1,m2,m3,e1,e2.1,e2.2,e3.2,e4,c5,FX,Hg,OC]
 ·cases h;simp only [↓AO,AP,↓reduceIte,bh,m2,m3,e1,FX,Hg,GH]
theorem eT(a b:AU){r:Int}(h:Ur a b=some r):Y.call 121 [bk 3 (AR (bc .i64) a),bk 3 (AR (bc .i64) b)] []=some (bc .i64 r,[]):=by
 refine AQi ?_ rfl;unfold ADN;unfold Ur at h;obtain⟨AX,hl2,h⟩:=Ag h;try dsimp only at h
 simp only [↓AO,AP,↓reduceIte,bj,bh];refine Ak (Zk a b hl2 ?_) ?_
 ·simp only [BL,Cv,↓reduceIte,bj,bh,FX]
 ·intro ex2 s2 hX2;rcases AX with q1000_|q1000_
  ·unfold Hg at hX2;dsimp only at hX2 h;obtain⟨rfl,n2_0⟩:=hX2;cases h;simp only [↓AO,AP,↓reduceIte,n2_0]
  ·unfold Hg at hX2;dsimp only at hX2 h
   obtain rfl:=hX2
   cases h;simp only [↓AO,AP,↓reduceIte,bj,bh]
def Oa(l:AU):Bool:=FW l (-1099511627776) 1099511627776
theorem eU{l:AU}(h:Oa l=true){x:Int}(hx:x∈l): -1099511627776≤x∧x≤1099511627776:=by
 have:=KJ.1 h x hx;exact Ey.1 this
theorem lu{l:AU}{lo hi:Int}(h:FW l lo hi=true)(h1: -1099511627776≤lo)(h2:hi≤1099511627776):Oa l=true:=by
 refine KJ.2 fun x hx=> ?_;have:=Ey.1 (KJ.1 h x hx)
 exact Ey.2 ⟨by omega,by omega⟩
theorem wD(n:Int):UC n=some (if n<0 then-1 else if 0<n then 1 else 0):=by
 unfold UC;by_cases h1:n<0<;>by_cases h2:0<n<;>simp [h1,h2]<;>omega
theorem wE: ∀(a b p q:AU),p.length=q.length→a.length=b.length→p.length+a.length<1099511627776→Oa a=true→Oa b=true→
  (Ip (p++a) (q++b) (p.length:Int)).bind (fun r=>match r with| .inl q2=>some q2| .inr _=>some 0)=some (Ic a b):=by
 intro a
 induction a with
 |nil=>
  intro b p q hpq hab ha h1 h2;have:b=[]:=by cases b with|nil=>rfl|cons _ _=>simp at hab
  subst this;unfold Ip;rw [D5 (r:=bl ())]
  ·rfl
  ·simp only [Hf];rw [if_neg (Uq _)]
 |cons x a ih=>
  intro b p q hpq hab ha h1 h2
  cases b with
  |nil=>simp at hab
  |cons y b=>
   simp only [KL]at ha hab;have sx1:=eU h1 (Ia ..);have sy1:=eU h2 (Ia ..);have ex:(p++x::a).getD (p.length:Int).toNat be=x:=by rw [Cg];exact EX p (x::a) p.length rfl (by simp)
   have ey:(q++y::b).getD (p.length:Int).toNat be=y:=by rw [Cg,hpq];exact EX q (y::b) q.length rfl (by simp)
   have step:Hf (p++x::a) (q++y::b) (p.length:Int)=if x=y then some (.inl (((p++[x]).length:Nat):Int))else some (.inr (.inl (if x<y then-1 else 1))):=by
    unfold Hf;rw [if_pos (U7 ..),BC (U8 ..),BC (by simp;omega),ex,ey,Gf _ (by omega),Ib _ (by omega),wD,C8]
    by_cases h1:x=y
    ·subst h1;simp
    ·rw [if_neg h1,if_neg h1];by_cases h2:x<y
     ·rw [if_pos (by omega),if_pos h2]
     ·rw [if_neg (by omega),if_pos (by omega),if_neg h2]
   have s1:Oa a=true:=KJ.2 fun z hz=>KJ.1 h1 z (QL _ hz);have s2:Oa b=true:=KJ.2 fun z hz=>KJ.1 h2 z (QL _ hz);unfold Ic;by_cases h1:x=y
   ·rw [if_pos h1];rw [if_pos h1]at step;have:=ih b (p++[x]) (q++[y]) (by simp [hpq]) (by omega) (by simp;omega) s1 s2
    unfold Ip at this ⊢;rw [KC step];simpa using this
   ·rw [if_neg h1];rw [if_neg h1]at step;unfold Ip;rw [D5 step];rfl
theorem oz(a b:AU)(ha:a.length<1099511627776)(hab:a.length=b.length)(h1:Oa a=true)(h2:Oa b=true):Ur a b=some (Ic a b):=by
 have:=wE a b [] [] rfl hab (by simpa using ha) h1 h2
 unfold Ur;simp only [PW,R8,Et]at this;exact this
theorem p8(a b:AU)(h0:a.length<1099511627776)(h1:a.length=b.length)(h2:Oa a=true)(h3:Oa b=true):Y.call 121 [bk 3 (AR (bc .i64) a),bk 3 (AR (bc .i64) b)] []=some (bc .i64 (Ic a b),[]):=eT a b (oz a b h0 h1 h2 h3)
def R5(l:AV)(size labels:Int)(i:Nat):Bool:=
 ((decide (((l.getD i be).length:Int)=size)&&GK (l.getD i be))&&FW (l.getD i be) 0 (labels-1))&&(decide (i=0)||decide (Ic (l.getD (i-1) be) (l.getD i be)<0))
def ML(l:AV)(size labels:Int):Bool:=(ao l.length).all (R5 l size labels)
def MI(labels degree:Int)(ns es:AV):Bool:=((M9 labels 1 8&&M9 degree 1 4)&&ML ns degree labels)&&ML es 2 labels
theorem BK.getD{l:AV}(h:BK l)(i:Nat):(l.getD i be).length<1099511627776:=by
 rcases Nat.lt_or_ge i l.length with hi|hi
 ·rw [Ad _ _ hi];exact h.at i hi
 ·rw [Lh,jI hi];decide
def Re(list:AV)(size labels Al:Int):Option ((Int)⊕(Unit⊕Unit)):= if Al<(list.length:Int)then ck (0≤Al∧Al.toNat<list.length)<| if((list.getD Al.toNat be).length:Int)=size then ck ((list.getD Al.toNat be).length<1099511627776)<| if(GK (list.getD Al.toNat be))=true then if(FW (list.getD Al.toNat be) (0:Int) (bm.wrap (labels-1)))=true then if 0<Al then ck (0≤bm.wrap (Al-1)∧(bm.wrap (Al-1)).toNat<list.length)<| ck ((list.getD ((bm.wrap (Al-1)).toNat) be).length<1099511627776)<| if 0≤(Ic (list.getD ((bm.wrap (Al-1)).toNat) be) (list.getD Al.toNat be))then some (bl (bo ())) else some (bo (bm.wrap (Al+1))) else some (bo (bm.wrap (Al+1))) else some (bl (bo ())) else some (bl (bo ())) else some (bl (bo ())) else some (bl (bl ()))
def p9(list:AV)(size labels v:Int):Option (Unit⊕Unit):=E9 (fun v=>Re list size labels v) v
def iCO(list:AV)(size labels:Int):Option (Bool):=
 (p9 list size labels 0).bind fun AX=>
 match AX with
 | .inl q1000_=>
  some false
 | .inr q1000_=>
  some true
def pF:SC:= .seq (.ops [oB 12 .lss 3 (tK 11) (tK 10) 3 0]) (.seq (.cond (tK 12) .skip (.exit 0)) (.seq (.block 1 (.seq (.ops [oM 13 11 3,oI 14 22 9 11,oL 15 26 14 26,oA 7 13 3,oA 8 15 26]) (.seq (.ops [oM 16 8 26,oN 17 16 26,oM 18 1 3,oB 19 .neq 3 (tK 17) (tK 18) 3 4,oM 20 19 4,⟨some 21,.move (tK 8),26,(some (some 20,false))⟩,⟨some 22,.call ⟨(.value (.func 97)), #[(tK 21)], #[26]⟩,4,(some (some 20,false))⟩,⟨some 23,.unOp .not 4 (tK 22),4,(some (some 20,false))⟩,oX 24 (.pick (tK 20) Ck (tK 23)) 4,oM 25 24 4,⟨some 26,.move (tK 8),26,(some (some 25,false))⟩,⟨some 27,.move (tK 2),3,(some (some 25,false))⟩,⟨some 28,.binOp .sub 3 (tK 27) (iK 1) 3,3,(some (some 25,false))⟩,⟨some 29,.call ⟨(.value (.func 71)), #[(tK 26),(iK 0),(tK 28)], #[26,3,3]⟩,4,(some (some 25,false))⟩,⟨some 30,.unOp .not 4 (tK 29),4,(some (some 25,false))⟩,oX 31 (.pick (tK 25) Ck (tK 30)) 4,oM 32 31 4,⟨some 33,.move (tK 7),3,(some (some 32,false))⟩,⟨some 34,.binOp .gtr 3 (tK 33) (iK 0) 3,4,(some (some 32,false))⟩,⟨some 35,.move (tK 34),4,(some (some 32,false))⟩,⟨some 36,.move (tK 0),22,(some (some 35,true))⟩,⟨some 37,.move (tK 7),3,(some (some 35,true))⟩,⟨some 38,.binOp .sub 3 (tK 37) (iK 1) 3,3,(some (some 35,true))⟩,
 ⟨some 39,.indexAddr 22 (tK 36) (tK 38),0,(some (some 35,true))⟩,⟨some 40,.load 26 (tK 39),26,(some (some 35,true))⟩,⟨some 41,.move (tK 8),26,(some (some 35,true))⟩,⟨some 42,.call ⟨(.value (.func 98)), #[(tK 40),(tK 41)], #[26,26]⟩,3,(some (some 35,true))⟩,⟨some 43,.binOp .geq 3 (tK 42) (iK 0) 3,4,(some (some 35,true))⟩,⟨some 44,.pick (tK 35) (tK 43) Lm,4,(some (some 32,false))⟩,oX 45 (.pick (tK 32) Ck (tK 44)) 4]) (.cond (tK 45) (.seq (.ops [oX 6 BR 4]) .ret) .skip)))) (.ops [oB 46 .add 3 (tK 11) (iK 1) 3 3,oM 11 46 3])))
def A4U:SC:= .loop pF
def k65:SC:= .seq (.ops [oX 6 BR 4]) (.seq (.seq (.ops [oM 9 0 22,oN 10 9 22,oX 11 (.move (iK 0)) 3]) (.block 0 A4U)) (.seq (.ops [oX 6 (.assign Ck) 4]) .ret))
theorem ADO:Tryz.f65.body.map (BQ lends)=some k65:=by kernel_rfl
theorem AQk:BV Tryz.f65 3=true:=by kernel_rfl
theorem c65{a l:List D}{r:D×List D}(h:BU Y.env k65 (fin Ai l.length [bt 6] r) (entry a l))(ha:a.length=3):Y.call 65 a l=some r:=
 AY (Y:=Y) rfl Tryz.func65 (ha▸AQk) ADO h
def KV(list:AV)(size labels Al:Int)(s:St):Prop:=s.v 0=bk 26 (AR Ba list)∧s.v 1=bc .i64 size∧s.v 2=bc .i64 labels∧s.v 9=bk 26 (AR Ba list)∧s.v 10=bc .i64 (list.length:Int)∧s.v 11=bc .i64 Al
def Mi(list:AV)(size labels:Int)(r:Unit⊕Unit)(ex:Ex)(s:St):Prop:=match r with
 | .inl q=>ex= .ret∧s.v 6=bp false
 | .inr q=>ex= .exit 0
theorem A22(list:AV)(size labels:Int){v:Int}{s:St}{r:Unit⊕Unit}(h:p9 list size labels v=some r)(hM:KV list size labels v s):BU Y.env A4U (Mi list size labels r) s:=by
 unfold p9 at h;refine Aw (c:=pF) (fun v=>Re list size labels v) (fun v s=>KV list size labels v s) (Mi list size labels) ?_ h hM;clear h hM s v r;intro Al s o hM h;unfold Re at h;unfold KV at hM;obtain⟨m0,m1,m2,m3,m4,m5⟩:=hM;unfold pF;rcases iS h with⟨e1,h⟩|⟨e1,h⟩
 ·obtain⟨e2,h⟩:=De h;rcases iS h with⟨e3,h⟩|⟨e3,h⟩
  ·obtain⟨e4,h⟩:=De h;have c5:=ADH (list.getD Al.toNat be) e4;rcases iS h with⟨e6,h⟩|⟨e6,h⟩
   ·have c7:=UA (list.getD Al.toNat be) (0:Int) (bm.wrap (labels-1)) e4;rcases iS h with⟨e8,h⟩|⟨e8,h⟩
    ·rcases iS h with⟨e9,h⟩|⟨e9,h⟩
     ·obtain⟨e10,e11,h⟩:=EC h;have c12:=ADL (list.getD ((bm.wrap (Al-1)).toNat) be) (list.getD Al.toNat be) e11 e4;rcases iS h with⟨e13,h⟩|⟨e13,h⟩
      ·cases h;simp only [↓AO,AP,↓reduceIte,bj,bh,m0,m1,m2,m3,m4,m5,e1,e2.1,e2.2,decide_eq_true e3,c5,e6,c7,e8,e9,e10.1,e10.2,c12,e13,KV,Mi,OC]
      ·cases h;simp only [↓AO,AP,↓reduceIte,bj,bh,m0,m1,m2,m3,m4,m5,e1,e2.1,e2.2,decide_eq_true e3,c5,e6,c7,e8,e9,e10.1,e10.2,c12,e13,KV,D6]
     ·cases h;simp only [↓AO,AP,↓reduceIte,bj,bh,m0,m1,m2,m3,m4,m5,e1,e2.1,e2.2,decide_eq_true e3,c5,e6,c7,e8,e9,KV,D6]
    ·have e8f:(FW (list.getD Al.toNat be) (0:Int) (bm.wrap (labels-1)))=false:=Es.mpr e8;cases h;simp only [↓AO,AP,↓reduceIte,bj,bh,m1,m2,m3,m4,m5,e1,e2.1,e2.2,decide_eq_true e3,c5,e6,c7,e8f,KV,Mi,OC]
   ·have e6f:(GK (list.getD Al.toNat be))=false:=Es.mpr e6;cases h;simp only [↓AO,AP,↓reduceIte,bj,bh,m1,m3,m4,m5,e1,e2.1,e2.2,decide_eq_true e3,c5,e6f,KV,Mi,OC]
  ·cases h;simp only [↓AO,AP,↓reduceIte,bj,bh,m1,m3,m4,m5,e1,e2.1,e2.2,e3,KV,Mi,OC]
 ·cases h;simp only [↓AO,AP,↓reduceIte,bh,m4,m5,e1,KV,Mi,GH]
theorem A4V(list:AV)(size labels:Int){r:Bool}(h:iCO list size labels=some r):Y.call 65 [bk 26 (AR Ba list),bc .i64 size,bc .i64 labels] []=some (bp r,[]):=by
 refine c65 ?_ rfl;unfold k65;unfold iCO at h;obtain⟨AX,hl2,h⟩:=Ag h;try dsimp only at h
 simp only [↓AO,AP,↓reduceIte,bj,bh];refine Ak (A22 list size labels hl2 ?_) ?_
 ·simp only [BL,Cv,↓reduceIte,bj,bh,KV]
 ·intro ex2 s2 hX2;rcases AX with q1000_|q1000_
  ·unfold Mi at hX2;dsimp only at hX2 h;obtain⟨rfl,n2_0⟩:=hX2;cases h;simp only [↓AO,AP,↓reduceIte,n2_0]
  ·unfold Mi at hX2;dsimp only at hX2 h
   obtain rfl:=hX2
   cases h;simp only [↓AO,AP,↓reduceIte,bj,bh]
theorem ADP(l:AV)(size labels:Int)(h:BK l)(hl:1≤labels∧labels≤8):iCO l size labels=some (ML l size labels):=by
 have h1:=h.1;unfold iCO p9;have key:=Df (fun v=>Re l size labels v) (fun i=>(i:Int)) l.length (R5 l size labels) (.inl ()) (.inr ()) ?_ ?_
 ·simp only [Et]at key;rw [key];unfold ML
  cases (ao l.length).all (R5 l size labels)<;>rfl
 ·intro i hi;simp only [Re];rw [if_pos (BX hi),BC (Dl hi),Cg,Gf i (by omega),Ib (labels-1) (by omega)]
  have hs:=h.getD i;have hs1:=h.getD (i-1);rw [BC hs];unfold R5;generalize l.getD i be=x at*;by_cases q1:(x.length:Int)=size
  ·rw [if_pos q1]
   cases q2:GK x with
   |false=>simp
   |true=>
    rw [if_pos rfl]
    cases q3:FW x 0 (labels-1)with
    |false=>simp
    |true=>
     rw [if_pos rfl];by_cases q4:i=0
     ·simp [q1,q4]
     ·rw [if_pos (by omega),Ib _ (by omega),BC (by omega),show((i:Int)-1).toNat=i-1 by omega,BC hs1]
      generalize l.getD (i-1) be=y at*;by_cases q5:0≤Ic y x
      ·rw [if_pos q5,if_neg (by simp;intro _;exact⟨q4,q5⟩)]
      ·rw [if_neg q5,if_pos (by simp [q1,q4];omega)]
  ·have e:=decide_eq_false q1;rw [if_neg q1,if_neg (by rw [e];simp)]
 ·simp only [Re];rw [if_neg (Am _)]
theorem A4W(list:AV)(size labels:Int)(h0:BK list)(h1:1≤labels∧labels≤8):Y.call 65 [bk 26 (AR Ba list),bc .i64 size,bc .i64 labels] []=some (bp (ML list size labels),[]):=A4V list size labels (ADP list size labels h0 h1)
def Pw(l:AV)(size labels Bd k:Int):Option ((Int)⊕(Unit⊕Unit)):= if k<size then ck (0≤bm.wrap (k-1)∧(bm.wrap (k-1)).toNat<(l.getD Bd.toNat be).length)<| ck (0≤k∧k.toNat<(l.getD Bd.toNat be).length)<| if((l.getD Bd.toNat be).getD k.toNat be)<((l.getD Bd.toNat be).getD ((bm.wrap (k-1)).toNat) be)then some (bl (bo ())) else some (bo (bm.wrap (k+1))) else some (bl (bl ()))
def YL(l:AV)(size labels Bd v:Int):Option (Unit⊕Unit):=E9 (fun v=>Pw l size labels Bd v) v
def Rf(l:AV)(size labels Bd:Int):Option ((Int)⊕(Unit⊕Unit)):=
 if Bd<(l.length:Int)then
  ck (0≤Bd∧Bd.toNat<l.length)<|
  if((l.getD Bd.toNat be).length:Int)=size then
   ck ((l.getD Bd.toNat be).length<1099511627776)<|
   if(FW (l.getD Bd.toNat be) (0:Int) (bm.wrap (labels-1)))=true then
    if 0<Bd then
     ck (0≤bm.wrap (Bd-1)∧(bm.wrap (Bd-1)).toNat<l.length)<|
     ck ((l.getD ((bm.wrap (Bd-1)).toNat) be).length<1099511627776)<|
     ck ((l.getD ((bm.wrap (Bd-1)).toNat) be).length=(l.getD Bd.toNat be).length)<|
     ck (Oa (l.getD ((bm.wrap (Bd-1)).toNat) be)=true)<|
     ck (Oa (l.getD Bd.toNat be)=true)<|
     if 0≤(Ic (l.getD ((bm.wrap (Bd-1)).toNat) be) (l.getD Bd.toNat be))then
      some (bl (bo ()))
     else
      (YL l size labels Bd 1).bind fun AX=>
      match AX with
      | .inl q1000_=>
       some (bl (bo ()))
      | .inr q1000_=>
       some (bo (bm.wrap (Bd+1)))
    else
     (YL l size labels Bd 1).bind fun AX=>
     match AX with
     | .inl q1000_=>
      some (bl (bo ()))
     | .inr q1000_=>
      some (bo (bm.wrap (Bd+1)))
   else
    some (bl (bo ()))
  else
   some (bl (bo ()))
 else
  some (bl (bl ()))
def pG(l:AV)(size labels v:Int):Option (Unit⊕Unit):=E9 (fun v=>Rf l size labels v) v
def sPL(l:AV)(size labels:Int):Option (Bool):=
 (pG l size labels 0).bind fun Ap=>
 match Ap with
 | .inl q1001_=>
  some false
 | .inr q1001_=>
  some true
abbrev qd9:List Nat:=[47,48,49,50,51,52,53,54,55,56]
def pI:SC:= .seq (.seq (.ops [oM 42 9 3,oM 43 1 3,oB 44 .lss 3 (tK 42) (tK 43) 3 4]) (.cond (tK 44) .skip (.exit 2))) (.seq (.block 3 (.seq (.draws [(⟨[47,8,8],qd9,[47]⟩,oM 47 8 26),(⟨[48,9,9],qd9,[48]⟩,oM 48 9 3),(⟨[49,48,9],qd9,[49]⟩,oB 49 .sub 3 (tK 48) (iK 1) 3 3),(⟨[50,47,49,8,49],qd9,[50]⟩,oI 50 26 47 49),(⟨[51,50,8],qd9,[51]⟩,oL 51 3 50 3),(⟨[52,8,8],qd9,[52]⟩,oM 52 8 26),(⟨[53,9,9],qd9,[53]⟩,oM 53 9 3),(⟨[54,52,53,8,9],qd9,[54]⟩,oI 54 26 52 53),(⟨[55,54,8],qd9,[55]⟩,oL 55 3 54 3),(⟨[56,51,55,8,8],qd9,[56]⟩,oB 56 .gtr 3 (tK 51) (tK 55) 3 4)]) (.cond (tK 56) (.seq (.ops [oX 6 BR 4]) .ret) .skip))) (.ops [oM 45 9 3,oB 46 .add 3 (tK 45) (iK 1) 3 3,oA 9 46 3]))
def A4X:SC:= .loop pI
def pJ:SC:= .seq (.ops [oB 13 .lss 3 (tK 12) (tK 11) 3 0]) (.seq (.cond (tK 13) .skip (.exit 0)) (.seq (.block 1 (.seq (.ops [oM 14 12 3,oI 15 22 10 12,oL 16 26 15 26,oA 7 14 3,oA 8 16 26]) (.seq (.seq (.ops [oM 17 8 26,oN 18 17 26,oM 19 1 3,oB 20 .neq 3 (tK 18) (tK 19) 3 4,oM 21 20 4,⟨some 22,.move (tK 8),26,(some (some 21,false))⟩,⟨some 23,.move (tK 2),3,(some (some 21,false))⟩,⟨some 24,.binOp .sub 3 (tK 23) (iK 1) 3,3,(some (some 21,false))⟩,⟨some 25,.call ⟨(.value (.func 59)), #[(tK 22),(iK 0),(tK 24)], #[26,3,3]⟩,4,(some (some 21,false))⟩,⟨some 26,.unOp .not 4 (tK 25),4,(some (some 21,false))⟩,oX 27 (.pick (tK 21) Ck (tK 26)) 4,oM 28 27 4,⟨some 29,.move (tK 7),3,(some (some 28,false))⟩,⟨some 30,.binOp .gtr 3 (tK 29) (iK 0) 3,4,(some (some 28,false))⟩,⟨some 31,.move (tK 30),4,(some (some 28,false))⟩,⟨some 32,.move (tK 0),22,(some (some 31,true))⟩,⟨some 33,.move (tK 7),3,(some (some 31,true))⟩,⟨some 34,.binOp .sub 3 (tK 33) (iK 1) 3,3,(some (some 31,true))⟩,⟨some 35,.indexAddr 22 (tK 32) (tK 34),0,(some (some 31,true))⟩,⟨some 36,.load 26 (tK 35),26,(some (some 31,true))⟩,⟨some 37,.move (tK 8),26,(some (some 31,true))⟩,⟨some 38,.call ⟨(.value (.func 121)), #[(tK 36),(tK 37)], #[26,26]⟩,3,(some (some 31,true))⟩,
 ⟨some 39,.binOp .geq 3 (tK 38) (iK 0) 3,4,(some (some 31,true))⟩,⟨some 40,.pick (tK 31) (tK 39) Lm,4,(some (some 28,false))⟩,oX 41 (.pick (tK 28) Ck (tK 40)) 4]) (.cond (tK 41) (.seq (.ops [oX 6 BR 4]) .ret) .skip)) (.seq (.ops [oX 9 (.assign (iK 1)) 3]) (.block 2 A4X))))) (.ops [oB 57 .add 3 (tK 12) (iK 1) 3 3,oM 12 57 3])))
def A4Y:SC:= .loop pJ
def k90:SC:= .seq (.ops [oX 6 BR 4]) (.seq (.seq (.ops [oM 10 0 22,oN 11 10 22,oX 12 (.move (iK 0)) 3]) (.block 0 A4Y)) (.seq (.ops [oX 6 (.assign Ck) 4]) .ret))
theorem ADQ:Tryz.f90.body.map (BQ lends)=some k90:=by kernel_rfl
theorem AQm:BV Tryz.f90 3=true:=by kernel_rfl
theorem c90{a l:List D}{r:D×List D}(h:BU Y.env k90 (fin Ai l.length [bt 6] r) (entry a l))(ha:a.length=3):Y.call 90 a l=some r:=
 AY (Y:=Y) rfl Tryz.func90 (ha▸AQm) ADQ h
def OE(l:AV)(size labels Bd k:Int)(s:St):Prop:=s.v 0=bk 26 (AR Ba l)∧s.v 1=bc .i64 size∧s.v 2=bc .i64 labels∧s.v 8=bk 3 (AR (bc .i64) (l.getD Bd.toNat be))∧s.v 9=bc .i64 k∧s.v 10=bk 26 (AR Ba l)∧s.v 11=bc .i64 (l.length:Int)∧s.v 12=bc .i64 Bd
def OG(l:AV)(size labels Bd:Int)(r:Unit⊕Unit)(ex:Ex)(s:St):Prop:=match r with
 | .inl q=>ex= .ret∧s.v 6=bp false
 | .inr q=>ex= .exit 2∧s.v 0=bk 26 (AR Ba l)∧s.v 1=bc .i64 size∧s.v 2=bc .i64 labels∧s.v 10=bk 26 (AR Ba l)∧s.v 11=bc .i64 (l.length:Int)∧s.v 12=bc .i64 Bd
theorem lw(l:AV)(size labels Bd:Int){v:Int}{s:St}{r:Unit⊕Unit}(h:YL l size labels Bd v=some r)(hM:OE l size labels Bd v s):BU Y.env A4X (OG l size labels Bd r) s:=by
 unfold YL at h;refine Aw (c:=pI) (fun v=>Pw l size labels Bd v) (fun v s=>OE l size labels Bd v s) (OG l size labels Bd) ?_ h hM;clear h hM s v r;intro k s o hM h;unfold Pw at h;unfold OE at hM;obtain⟨m0,m1,m2,m3,m4,m5,m6,m7⟩:=hM;unfold pI;rcases iS h with⟨e15,h⟩|⟨e15,h⟩
 ·obtain⟨e16,e17,h⟩:=EC h;rcases iS h with⟨e18,h⟩|⟨e18,h⟩
  ·cases h;simp only [↓AO,AP,↓reduceIte,bj,bh,m1,m3,m4,e15,e16.1,e16.2,e17.1,e17.2,e18,OE,OG,OC]
  ·cases h;simp only [↓AO,AP,↓reduceIte,bj,bh,m0,m1,m2,m3,m4,m5,m6,m7,e15,e16.1,e16.2,e17.1,e17.2,e18,OE,D6]
 ·cases h;simp only [↓AO,AP,↓reduceIte,bj,bh,m0,m1,m2,m4,m5,m6,m7,e15,OE,OG,GH]
def JI(l:AV)(size labels Bd:Int)(s:St):Prop:=s.v 0=bk 26 (AR Ba l)∧s.v 1=bc .i64 size∧s.v 2=bc .i64 labels∧s.v 10=bk 26 (AR Ba l)∧s.v 11=bc .i64 (l.length:Int)∧s.v 12=bc .i64 Bd
def Lu(l:AV)(size labels:Int)(r:Unit⊕Unit)(ex:Ex)(s:St):Prop:=match r with
 | .inl q=>ex= .ret∧s.v 6=bp false
 | .inr q=>ex= .exit 0
theorem A23(l:AV)(size labels:Int){v:Int}{s:St}{r:Unit⊕Unit}(h:pG l size labels v=some r)(hM:JI l size labels v s):BU Y.env A4Y (Lu l size labels r) s:=by
 unfold pG at h;refine Aw (c:=pJ) (fun v=>Rf l size labels v) (fun v s=>JI l size labels v s) (Lu l size labels) ?_ h hM;clear h hM s v r;intro Bd s o hM h;unfold Rf at h;unfold JI at hM;obtain⟨m0,m1,m2,m3,m4,m5⟩:=hM;unfold pJ;rcases iS h with⟨e1,h⟩|⟨e1,h⟩
 ·obtain⟨e2,h⟩:=De h;rcases iS h with⟨e3,h⟩|⟨e3,h⟩
  ·obtain⟨e4,h⟩:=De h;have c5:=eF (l.getD Bd.toNat be) (0:Int) (bm.wrap (labels-1)) e4;rcases iS h with⟨e6,h⟩|⟨e6,h⟩
   ·rcases iS h with⟨e7,h⟩|⟨e7,h⟩
    ·obtain⟨e8,e9,e10,e11,h⟩:=vR h;obtain⟨e12,h⟩:=De h;have c13:=p8 (l.getD ((bm.wrap (Bd-1)).toNat) be) (l.getD Bd.toNat be) e9 e10 e11 e12;rcases iS h with⟨e14,h⟩|⟨e14,h⟩
     ·cases h;simp only [↓AO,AP,↓reduceIte,bj,bh,m0,m1,m2,m3,m4,m5,e1,e2.1,e2.2,decide_eq_true e3,c5,e6,e7,e8.1,e8.2,c13,e14,JI,Lu,OC]
     ·obtain⟨AX,hl16,h⟩:=Ag h;try dsimp only at h
      simp only [↓AO,AP,↓reduceIte,bj,bh,m0,m1,m2,m3,m4,m5,e1,e2.1,e2.2,decide_eq_true e3,c5,e6,e7,e8.1,e8.2,c13,e14];refine Ak (lw l size labels Bd hl16 ?_) ?_
      ·simp only [BL,↓reduceIte,bj,m0,m1,m2,m3,m4,m5,OE]
      ·intro ex16 s16 hX16;rcases AX with q1000_|q1000_
       ·unfold OG at hX16;dsimp only at hX16 h;obtain⟨rfl,n16_0⟩:=hX16;cases h;simp only [↓AO,AP,n16_0,JI,Lu,OC]
       ·unfold OG at hX16;dsimp only at hX16 h;obtain⟨rfl,n16_0,n16_1,n16_2,n16_3,n16_4,n16_5⟩:=hX16;cases h;simp only [↓AO,AP,↓reduceIte,bj,bh,n16_0,n16_1,n16_2,n16_3,n16_4,n16_5,JI,D6]
    ·obtain⟨AX,hl9,h⟩:=Ag h;try dsimp only at h
     simp only [↓AO,AP,↓reduceIte,bj,bh,m1,m2,m3,m4,m5,e1,e2.1,e2.2,decide_eq_true e3,c5,e6,e7];refine Ak (lw l size labels Bd hl9 ?_) ?_
     ·simp only [BL,↓reduceIte,bj,m0,m1,m2,m3,m4,m5,OE]
     ·intro ex9 s9 hX9;rcases AX with q1000_|q1000_
      ·unfold OG at hX9;dsimp only at hX9 h;obtain⟨rfl,n9_0⟩:=hX9;cases h;simp only [↓AO,AP,n9_0,JI,Lu,OC]
      ·unfold OG at hX9;dsimp only at hX9 h;obtain⟨rfl,n9_0,n9_1,n9_2,n9_3,n9_4,n9_5⟩:=hX9;cases h;simp only [↓AO,AP,↓reduceIte,bj,bh,n9_0,n9_1,n9_2,n9_3,n9_4,n9_5,JI,D6]
   ·have e6f:(FW (l.getD Bd.toNat be) (0:Int) (bm.wrap (labels-1)))=false:=Es.mpr e6;cases h;simp only [↓AO,AP,↓reduceIte,bj,bh,m1,m2,m3,m4,m5,e1,e2.1,e2.2,decide_eq_true e3,c5,e6f,JI,Lu,OC]
  ·cases h;simp only [↓AO,AP,↓reduceIte,bj,bh,m1,m3,m4,m5,e1,e2.1,e2.2,e3,JI,Lu,OC]
 ·cases h;simp only [↓AO,AP,↓reduceIte,bh,m4,m5,e1,JI,Lu,GH]
theorem A4Z(l:AV)(size labels:Int){r:Bool}(h:sPL l size labels=some r):Y.call 90 [bk 26 (AR Ba l),bc .i64 size,bc .i64 labels] []=some (bp r,[]):=by
 refine c90 ?_ rfl;unfold k90;unfold sPL at h;obtain⟨Ap,hl2,h⟩:=Ag h;try dsimp only at h
 simp only [↓AO,AP,↓reduceIte,bj,bh];refine Ak (A23 l size labels hl2 ?_) ?_
 ·simp only [BL,Cv,↓reduceIte,bj,bh,JI]
 ·intro ex2 s2 hX2;rcases Ap with q1001_|q1001_
  ·unfold Lu at hX2;dsimp only at hX2 h;obtain⟨rfl,n2_0⟩:=hX2;cases h;simp only [↓AO,AP,↓reduceIte,n2_0]
  ·unfold Lu at hX2;dsimp only at hX2 h
   obtain rfl:=hX2
   cases h;simp only [↓AO,AP,↓reduceIte,bj,bh]
theorem jw(l:AV)(size labels t:Int)(x:AU)(hx:l.getD t.toNat be=x)(hs:(x.length:Int)=size)(hb:x.length<1099511627776):
  YL l size labels t 1=some (if GK x=true then .inr ()else .inl ()):=by
 unfold YL;rcases Nat.eq_zero_or_pos x.length with h0|h0
 ·rw [D5 (r:=bl ())]
  ·simp [GK,h0]
  ·simp only [Pw];rw [if_neg (by omega)]
 ·have key:=Df (fun v=>Pw l size labels t v) (fun j=>(j:Int)+1) (x.length-1) (fun i=>decide (x.getD i be≤x.getD (i+1) be)) (.inl ()) (.inr ()) ?_ ?_
  ·simp only [Et,Int.zero_add]at key;rw [key];rfl
  ·intro i hi;simp only [Pw];rw [hx,if_pos (by omega),Ib _ (by omega),Ib _ (by omega),BC (by omega),BC (by omega),show((i:Int)+1).toNat=i+1 by omega,show((i:Int)+1-1).toNat=i by omega]
   simp only [decide_eq_true_eq];by_cases hq:x.getD (i+1) be<x.getD i be
   ·rw [if_pos hq,if_neg (by omega)]
   ·rw [if_neg hq,if_pos (by omega)];rfl
  ·simp only [Pw];rw [if_neg (by omega)]
theorem ADR(l:AV)(size labels:Int)(h:BK l)(hl:1≤labels∧labels≤8):sPL l size labels=some (ML l size labels):=by
 have h1:=h.1;unfold sPL pG;have key:=vU (fun v=>Rf l size labels v) (fun i=>(i:Int)) l.length (R5 l size labels) (.inl ()) (.inr ()) ?_ ?_
 ·simp only [Et]at key;rw [key];unfold ML
  cases (ao l.length).all (R5 l size labels)<;>rfl
 ·intro i hi hp;simp only [Rf];rw [if_pos (BX hi),BC (Dl hi),Gf i (by omega),Ib (labels-1) (by omega)]
  have hs:=h.getD i;have hs1:=h.getD (i-1);rw [Cg,BC hs];by_cases q1:((l.getD i be).length:Int)=size
  ·rw [if_pos q1];have inner:=jw l size labels (i:Int) (l.getD i be) (by rw [Cg]) q1 hs
   rw [inner];have hprev:=hp (i-1);unfold R5 at hprev ⊢;generalize l.getD i be=x at*
   cases q3:FW x 0 (labels-1)with
   |false=>simp
   |true=>
    rw [if_pos rfl];by_cases q4:i=0
    ·rw [if_neg (by omega)]
     cases q2:GK x<;>simp [q1,q4]
    ·rw [if_pos (by omega),Ib _ (by omega),BC (by omega),show((i:Int)-1).toNat=i-1 by omega,BC hs1]
     have hprev:=hprev (by omega)
     generalize l.getD (i-1) be=y at*;simp only [En,decide_eq_true_eq]at hprev;rw [BC (by omega),BC (lu hprev.1.2 (by omega) (by omega)),BC (lu q3 (by omega) (by omega))]
     by_cases q5:0≤Ic y x
     ·rw [if_pos q5,if_neg (by simp;intro _ _;exact⟨q4,q5⟩)]
     ·rw [if_neg q5];have q6:Ic y x<0:=by omega
      cases q2:GK x<;>simp [q1,q6]
  ·have e:=decide_eq_false q1;unfold R5;rw [if_neg q1,if_neg (by rw [e];simp)]
 ·intro _;simp only [Rf];rw [if_neg (Am _)]
theorem A4a(l:AV)(size labels:Int)(h0:BK l)(h1:1≤labels∧labels≤8):Y.call 90 [bk 26 (AR Ba l),bc .i64 size,bc .i64 labels] []=some (bp (ML l size labels),[]):=A4Z l size labels (ADR l size labels h0 h1)
def Qg(pL pD:Int)(pN pE:AV):Option (Bool):= if(M9 pL (1:Int) (8:Int))=true then if(M9 pD (1:Int) (4:Int))=true then ck (BK pN)<| ck (1≤pL∧pL≤8)<| if(ML pN pD pL)=true then ck (BK pE)<| some (ML pE (2:Int) pL) else some false else some false else some false
def k39:SC:= .seq (.ops [oX 1 (.box 34 (tK 0)) 0,oX 2 BR 4]) (.seq (.ops [oF 3 34 1 0,oL 4 3 3 3,oC 5 64 [(tK 4),(iK 1),(iK 8)] [3,3,3] 4,oM 6 5 4,⟨some 7,.fieldAddr 34 (tK 1) 1,0,(some (some 6,true))⟩,⟨some 8,.load 3 (tK 7),3,(some (some 6,true))⟩,⟨some 9,.call ⟨(.value (.func 64)), #[(tK 8),(iK 1),(iK 4)], #[3,3,3]⟩,4,(some (some 6,true))⟩,oX 10 (.pick (tK 6) (tK 9) Lm) 4,oM 11 10 4,⟨some 12,.fieldAddr 34 (tK 1) 2,0,(some (some 11,true))⟩,⟨some 13,.load 22 (tK 12),22,(some (some 11,true))⟩,⟨some 14,.fieldAddr 34 (tK 1) 1,0,(some (some 11,true))⟩,⟨some 15,.load 3 (tK 14),3,(some (some 11,true))⟩,⟨some 16,.fieldAddr 34 (tK 1) 0,0,(some (some 11,true))⟩,⟨some 17,.load 3 (tK 16),3,(some (some 11,true))⟩,⟨some 18,.call ⟨(.value (.func 65)), #[(tK 13),(tK 15),(tK 17)], #[22,3,3]⟩,4,(some (some 11,true))⟩,oX 19 (.pick (tK 11) (tK 18) Lm) 4,oM 20 19 4,⟨some 21,.fieldAddr 34 (tK 1) 3,0,(some (some 20,true))⟩,⟨some 22,.load 22 (tK 21),22,(some (some 20,true))⟩,⟨some 23,.fieldAddr 34 (tK 1) 0,0,(some (some 20,true))⟩,⟨some 24,.load 3 (tK 23),3,(some (some 20,true))⟩,⟨some 25,.call ⟨(.value (.func 65)), #[(tK 22),(iK 2),(tK 24)], #[22,3,3]⟩,4,(some (some 20,true))⟩,
 oX 26 (.pick (tK 20) (tK 25) Lm) 4,oA 2 26 4]) .ret)
theorem ADS:Tryz.f39.body.map (BQ lends)=some k39:=by kernel_rfl
theorem AQo:BV Tryz.f39 1=true:=by kernel_rfl
theorem c39{a l:List D}{r:D×List D}(h:BU Y.env k39 (fin Ai l.length [bt 2] r) (entry a l))(ha:a.length=1):Y.call 39 a l=some r:=
 AY (Y:=Y) rfl Tryz.func39 (ha▸AQo) ADS h
theorem YM(pL pD:Int)(pN pE:AV){r:Bool}(h:Qg pL pD pN pE=some r):Y.call 39 [bw [bc .i64 pL,bc .i64 pD,bk 26 (AR Ba pN),bk 26 (AR Ba pE)]] []=some (bp r,[]):=by
 refine c39 ?_ rfl;unfold k39;unfold Qg at h;have c1:=KT pL (1:Int) (8:Int);rcases iS h with⟨e2,h⟩|⟨e2,h⟩
 ·have c3:=KT pD (1:Int) (4:Int);rcases iS h with⟨e4,h⟩|⟨e4,h⟩
  ·obtain⟨e5,e6,h⟩:=EC h;have c7:=A4W pN pD pL e5 e6;rcases iS h with⟨e8,h⟩|⟨e8,h⟩
   ·obtain⟨e9,h⟩:=De h;have VS:=A4W pE (2:Int) pL e9 e6;cases h;simp only [↓AO,AP,↓reduceIte,bj,bh,c1,e2,c3,e4,c7,e8,VS]
   ·have e8f:(ML pN pD pL)=false:=Es.mpr e8;cases h;simp only [↓AO,AP,↓reduceIte,bj,bh,c1,e2,c3,e4,c7,e8f]
  ·have e4f:(M9 pD (1:Int) (4:Int))=false:=Es.mpr e4;cases h;simp only [↓AO,AP,↓reduceIte,bj,bh,c1,e2,c3,e4f]
 ·have e2f:(M9 pL (1:Int) (8:Int))=false:=Es.mpr e2;cases h;simp only [↓AO,AP,↓reduceIte,bj,bh,c1,e2f]
def XB(pL pD:Int)(pN pE:AV):Option (Bool):= if(M9 pL (1:Int) (8:Int))=true then if(M9 pD (1:Int) (4:Int))=true then ck (BK pN)<| ck (1≤pL∧pL≤8)<| if(ML pN pD pL)=true then ck (BK pE)<| some (ML pE (2:Int) pL) else some false else some false else some false
def k57:SC:= .seq (.ops [oX 1 (.box 34 (tK 0)) 0,oX 2 BR 4]) (.seq (.ops [oF 3 34 1 0,oL 4 3 3 3,oC 5 82 [(tK 4),(iK 1),(iK 8)] [3,3,3] 4,oM 6 5 4,⟨some 7,.fieldAddr 34 (tK 1) 1,0,(some (some 6,true))⟩,⟨some 8,.load 3 (tK 7),3,(some (some 6,true))⟩,⟨some 9,.call ⟨(.value (.func 82)), #[(tK 8),(iK 1),(iK 4)], #[3,3,3]⟩,4,(some (some 6,true))⟩,oX 10 (.pick (tK 6) (tK 9) Lm) 4,oM 11 10 4,⟨some 12,.fieldAddr 34 (tK 1) 2,0,(some (some 11,true))⟩,⟨some 13,.load 22 (tK 12),22,(some (some 11,true))⟩,⟨some 14,.fieldAddr 34 (tK 1) 1,0,(some (some 11,true))⟩,⟨some 15,.load 3 (tK 14),3,(some (some 11,true))⟩,⟨some 16,.fieldAddr 34 (tK 1) 0,0,(some (some 11,true))⟩,⟨some 17,.load 3 (tK 16),3,(some (some 11,true))⟩,⟨some 18,.call ⟨(.value (.func 90)), #[(tK 13),(tK 15),(tK 17)], #[22,3,3]⟩,4,(some (some 11,true))⟩,oX 19 (.pick (tK 11) (tK 18) Lm) 4,oM 20 19 4,⟨some 21,.fieldAddr 34 (tK 1) 3,0,(some (some 20,true))⟩,⟨some 22,.load 22 (tK 21),22,(some (some 20,true))⟩,⟨some 23,.fieldAddr 34 (tK 1) 0,0,(some (some 20,true))⟩,⟨some 24,.load 3 (tK 23),3,(some (some 20,true))⟩,⟨some 25,.call ⟨(.value (.func 90)), #[(tK 22),(iK 2),(tK 24)], #[22,3,3]⟩,4,(some (some 20,true))⟩,
 oX 26 (.pick (tK 20) (tK 25) Lm) 4,oA 2 26 4]) .ret)
theorem ADT:Tryz.f57.body.map (BQ lends)=some k57:=by kernel_rfl
theorem AQr:BV Tryz.f57 1=true:=by kernel_rfl
theorem c57{a l:List D}{r:D×List D}(h:BU Y.env k57 (fin Ai l.length [bt 2] r) (entry a l))(ha:a.length=1):Y.call 57 a l=some r:=
 AY (Y:=Y) rfl Tryz.func57 (ha▸AQr) ADT h
theorem jy(pL pD:Int)(pN pE:AV){r:Bool}(h:XB pL pD pN pE=some r):Y.call 57 [bw [bc .i64 pL,bc .i64 pD,bk 26 (AR Ba pN),bk 26 (AR Ba pE)]] []=some (bp r,[]):=by
 refine c57 ?_ rfl;unfold k57;unfold XB at h;have c1:=Na pL (1:Int) (8:Int);rcases iS h with⟨e2,h⟩|⟨e2,h⟩
 ·have c3:=Na pD (1:Int) (4:Int);rcases iS h with⟨e4,h⟩|⟨e4,h⟩
  ·obtain⟨e5,e6,h⟩:=EC h;have c7:=A4a pN pD pL e5 e6;rcases iS h with⟨e8,h⟩|⟨e8,h⟩
   ·obtain⟨e9,h⟩:=De h;have VS:=A4a pE (2:Int) pL e9 e6;cases h;simp only [↓AO,AP,↓reduceIte,bj,bh,c1,e2,c3,e4,c7,e8,VS]
   ·have e8f:(ML pN pD pL)=false:=Es.mpr e8;cases h;simp only [↓AO,AP,↓reduceIte,bj,bh,c1,e2,c3,e4,c7,e8f]
  ·have e4f:(M9 pD (1:Int) (4:Int))=false:=Es.mpr e4;cases h;simp only [↓AO,AP,↓reduceIte,bj,bh,c1,e2,c3,e4f]
 ·have e2f:(M9 pL (1:Int) (8:Int))=false:=Es.mpr e2;cases h;simp only [↓AO,AP,↓reduceIte,bj,bh,c1,e2f]
theorem eX(a b:Int)(n e:AV)(hn:BK n)(he:BK e):Qg a b n e=some (MI a b n e):=by
 unfold Qg MI;by_cases h1:M9 a 1 8=true
 ·have h1':=Ey.1 h1;by_cases h2:M9 b 1 4=true
  ·rw [if_pos h1,if_pos h2,BC hn,BC h1',BC he]
   cases h3:ML n b a<;>simp [h1,h2]
  ·rw [if_pos h1,if_neg h2];simp [h2]
 ·rw [if_neg h1];simp [h1]
theorem wF(a b:Int)(n e:AV)(hn:BK n)(he:BK e):XB a b n e=some (MI a b n e):=by
 unfold XB MI;by_cases h1:M9 a 1 8=true
 ·have h1':=Ey.1 h1;by_cases h2:M9 b 1 4=true
  ·rw [if_pos h1,if_pos h2,BC hn,BC h1',BC he]
   cases h3:ML n b a<;>simp [h1,h2]
  ·rw [if_pos h1,if_neg h2];simp [h2]
 ·rw [if_neg h1];simp [h1]
theorem eY(pL pD:Int)(pN pE:AV)(h0:BK pN)(h1:BK pE):Y.call 39 [bw [bc .i64 pL,bc .i64 pD,bk 26 (AR Ba pN),bk 26 (AR Ba pE)]] []=some (bp (MI pL pD pN pE),[]):=YM pL pD pN pE (eX pL pD pN pE h0 h1)
theorem wG(pL pD:Int)(pN pE:AV)(h0:BK pN)(h1:BK pE):Y.call 57 [bw [bc .i64 pL,bc .i64 pD,bk 26 (AR Ba pN),bk 26 (AR Ba pE)]] []=some (bp (MI pL pD pN pE),[]):=jy pL pD pN pE (wF pL pD pN pE h0 h1)
def Kw(l:AU):Option (AU):= ck (0+l.length<1099511627776)<| some l
def k92:SC:= .seq (.ops [oX 2 Gt 26]) (.seq (.ops [oX 3 (.buildSlice 26 0 #[]) 26,oM 4 0 26,oX 5 (.call ⟨(.builtin .append), #[(tK 3),(tK 4)], #[26,26]⟩) 26,oA 2 5 26]) .ret)
theorem ADU:Tryz.f92.body.map (BQ lends)=some k92:=by kernel_rfl
theorem AQt:BV Tryz.f92 1=true:=by kernel_rfl
theorem c92{a l:List D}{r:D×List D}(h:BU Y.env k92 (fin Ai l.length [bt 2] r) (entry a l))(ha:a.length=1):Y.call 92 a l=some r:=
 AY (Y:=Y) rfl Tryz.func92 (ha▸AQt) ADU h
theorem Ky(l:AU){r:AU}(h:Kw l=some r):Y.call 92 [bk 3 (AR (bc .i64) l)] []=some (br 3 (AR (bc .i64) r),[]):=by
 refine c92 ?_ rfl;unfold k92;unfold Kw at h;obtain⟨e1,h⟩:=De h;cases h;simp (maxDischargeDepth:=9) only [↓AO,AP,↓reduceIte,bj,bh,b5,e1]
def kC(x:Int):AU→AU
 | []=>[x]
 |y::r=>if x<y then y::kC x r else x::y::r
def JJ(l:AU):AU:=(l.foldl (fun r x=>kC x r) []).reverse
theorem wrU(n:Int)(h:0≤n∧n<18446744073709551616):bO.wrap n=n:=by
 unfold IntKind.wrap;simp only [IntKind.signed,IntKind.bits]
 simp
 omega
theorem mD(x:Int): ∀r,(kC x r).Perm (x::r):=by
 intro r
 induction r with
 |nil=>exact List.Perm.refl _
 |cons y r ih=>
  unfold kC;split
  ·exact((List.perm_cons y).2 ih).trans (List.Perm.swap x y r)
  ·exact List.Perm.refl _
theorem A24(x:Int): ∀r,r.Pairwise (fun a b=>b≤a)→(kC x r).Pairwise (fun a b=>b≤a):=by
 intro r
 induction r with
 |nil=>intro _;simp [kC]
 |cons y r ih=>
  intro h;obtain⟨h1,h2⟩:=b6.1 h;unfold kC;split
  ·rename_i hxy
   refine b6.2 ⟨fun z hz=> ?_,ih h2⟩;rcases TF.1 ((mD x r).mem_iff.1 hz)with rfl|hz
   ·omega
   ·exact h1 z hz
  ·rename_i hxy
   refine b6.2 ⟨fun z hz=> ?_,h⟩;rcases TF.1 hz with rfl|hz
   ·omega
   ·have:=h1 z hz;omega
theorem zC: ∀(l r:AU),(l.foldl (fun r x=>kC x r) r).Perm (l++r):=by
 intro l
 induction l with
 |nil=>intro r;exact List.Perm.refl _
 |cons x l ih=>
  intro r;simp only [Ve]
  exact(ih _).trans (((List.Perm.refl l).append (mD x r)).trans List.perm_middle)
theorem zD: ∀(l r:AU),r.Pairwise (fun a b=>b≤a)→(l.foldl (fun r x=>kC x r) r).Pairwise (fun a b=>b≤a):=by
 intro l
 induction l with
 |nil=>intro r h;exact h
 |cons x l ih=>intro r h;exact ih _ (A24 x r h)
theorem Px(l:AU):(JJ l).Perm l:=by
 unfold JJ;have:=zC l []
 rw [V8]at this
 exact(List.reverse_perm _).trans this
theorem Vr(l:AU):(JJ l).Pairwise (fun a b=>a≤b):=by
 unfold JJ;exact List.pairwise_reverse.2 (zD l [] List.Pairwise.nil)
theorem wH(l:AU):Le l=JJ l:=by
 refine List.Perm.eq_of_pairwise (le:=fun a b:Int=>a≤b) (fun a b _ _ h1 h2=>Int.le_antisymm h1 h2) ?_ (Vr l) ((List.mergeSort_perm _ _).trans (Px l).symm);have:=List.pairwise_mergeSort (le:=fun x y:Int=>decide (x≤y)) (fun a b c h1 h2=>by simp only [decide_eq_true_eq]at*;omega) (fun a b=>by simp only [TU,decide_eq_true_eq];omega) l
 unfold Le;exact this.imp (fun h=>by simpa using h)
theorem mE(l:AU):(JJ l).length=l.length:=(Px l).length_eq
theorem A25(a b:Int):JJ [a,b]=if b<a then [b,a]else [a,b]:=by
 unfold JJ;simp only [Ve,List.foldl_nil,kC];by_cases h:b<a<;>simp [h]
theorem YN: ∀a:AU,Ic a a=0:=by
 intro a
 induction a with
 |nil=>rfl
 |cons x a ih=>unfold Ic;rw [if_pos rfl,ih]
theorem A7K: ∀(a b:AU),Ic a b=0→a=b:=by
 intro a
 induction a with
 |nil=>intro b h;cases b with
  |nil=>rfl
  |cons y b=>simp [Ic]at h
 |cons x a ih=>intro b h;cases b with
  |nil=>simp [Ic]at h
  |cons y b=>
   unfold Ic at h
   split at h
   ·rename_i e;rw [e,ih b h]
   ·split at h<;>simp at h
theorem Vs: ∀(a b c:AU),Ic a b<0→Ic b c<0→Ic a c<0:=by
 intro a
 induction a with
 |nil=>intro b c h1 h2;cases c with
  |nil=>cases b with
   |nil=>simp [Ic]at h1
   |cons y b=>simp [Ic]at h2
  |cons z c=>simp [Ic]
 |cons x a ih=>intro b c h1 h2;cases b with
  |nil=>simp [Ic]at h1
  |cons y b=>cases c with
   |nil=>simp [Ic]at h2
   |cons z c=>
    unfold Ic at h1 h2 ⊢;by_cases e1:x=y
    ·subst e1;rw [if_pos rfl]at h1;by_cases e2:x=z
     ·subst e2;rw [if_pos rfl]at h2 ⊢;exact ih b c h1 h2
     ·rw [if_neg e2]at h2 ⊢;exact h2
    ·rw [if_neg e1]at h1
     have l1:x<y:=by
      by_cases hl:x<y
      ·exact hl
      ·rw [if_neg hl]at h1;omega
     by_cases e2:y=z
     ·subst e2;rw [if_neg e1,if_pos l1];decide
     ·rw [if_neg e2]at h2
      have l2:y<z:=by
       by_cases hl:y<z
       ·exact hl
       ·rw [if_neg hl]at h2;omega
      rw [if_neg (by omega),if_pos (by omega)];decide
def UD(l:AV):Bool:=(ao l.length).all fun i=>decide (i=0)||decide (Ic (l.getD (i-1) be) (l.getD i be)<0)
theorem A7L{l:AV}(h:UD l=true): ∀(d i:Nat),i+d+1<l.length→Ic (l.getD i be) (l.getD (i+d+1) be)<0:=by
 have step: ∀i,i+1<l.length→Ic (l.getD i be) (l.getD (i+1) be)<0:=fun i hi=>by
  have:=Cc.1 h (i+1) hi
  simpa using this
 intro d
 induction d with
 |zero=>intro i hi;exact step i hi
 |succ d ih=>
  intro i hi;exact Vs _ _ _ (ih i (by omega)) (step (i+d+1) (by omega))
theorem eZ{l:AV}(h:UD l=true){i j:Nat}(hij:i<j)(hj:j<l.length):Ic (l.getD i be) (l.getD j be)<0:=by
 have:=A7L h (j-i-1) i (by omega)
 rwa [show i+(j-i-1)+1=j by omega]at this
theorem mF{l:AV}{s n:Int}(h:ML l s n=true):UD l=true:=by
 refine Cc.2 fun i hi=> ?_;have:=Cc.1 h i hi
 unfold R5 at this;rw [En]at this;exact this.2
theorem ed{l:AV}{x:AU}:x∈l↔ ∃k,k<l.length∧l.getD k be=x:=by
 constructor
 ·intro h;obtain⟨k,hk,e⟩:=V6 h
  exact⟨k,hk,by rw [Lh,Kk hk];exact e⟩
 ·rintro⟨k,hk,rfl⟩
  rw [Lh,Kk hk];exact O6 hk
def EN(s_:AU):Option (AU):= some s_
def ADV:SC:= .seq (.ops [oX 1 (.box 26 (tK 0)) 0,oX 2 (.assign (.const .nilFunc)) 142]) (.seq (.ops [oX 3 (.makeFunc (Fn.func 156) #[] #[(tK 1)]) 141,oA 2 3 142]) .ret)
theorem A7M:Tryz.f138.body.map (BQ lends)=some ADV:=by kernel_rfl
theorem ALC:BV Tryz.f138 1=true:=by kernel_rfl
theorem AQu{a l:List D}{r:D×List D}(h:BU Y.env ADV (fin Ai l.length [bt 2] r) (entry a l))(ha:a.length=1):Y.call 138 a l=some r:=
 AY (Y:=Y) rfl Tryz.func138 (ha▸ALC) A7M h
theorem OH(s_:AU){r:AU}(h:EN s_=some r):Y.call 138 [bk 3 (AR (bc .i64) s_)] []=some (D.clo 156 [D.cptr [bk 3 (AR (bc .i64) r)]],[]):=by
 refine AQu ?_ rfl;unfold ADV;unfold EN at h;cases h;simp only [↓AO,AP,↓reduceIte,bj,bh]
def UE(x_:AV)(target:AU)(cmp:AU→AU→Option Int)(i j:Int):Option ((Int×Int)⊕(Int)):= if i<j then ck (0≤bm.wrap ((bO.wrap (bm.wrap (i+j))).fdiv (2 ^ (min 1 (bO.bits))))∧(bm.wrap ((bO.wrap (bm.wrap (i+j))).fdiv (2 ^ (min 1 (bO.bits))))).toNat<x_.length)<| (cmp (x_.getD ((bm.wrap ((bO.wrap (bm.wrap (i+j))).fdiv (2 ^ (min 1 (bO.bits))))).toNat) be) target).bind fun A26=> if A26<0 then some (bo (bm.wrap ((bm.wrap ((bO.wrap (bm.wrap (i+j))).fdiv (2 ^ (min 1 (bO.bits)))))+1),j)) else some (bo (i,bm.wrap ((bO.wrap (bm.wrap (i+j))).fdiv (2 ^ (min 1 (bO.bits)))))) else some (bl i)
def pK(x_:AV)(target:AU)(cmp:AU→AU→Option Int)(v:Int×Int):Option (Int):=E9 (fun v=>UE x_ target cmp v.1 v.2) v
def gBS(x_:AV)(target:AU)(cmp:AU→AU→Option Int):Option (Int×Bool):= (pK x_ target cmp (0,(x_.length:Int))).bind fun AX=> if AX<(x_.length:Int)then ck (0≤AX∧AX.toNat<x_.length)<| (cmp (x_.getD AX.toNat be) target).bind fun ALE=> some (AX,(decide (ALE=0))) else some (AX,false)
def eu:SC:= .seq (.seq (.ops [oM 15 9 3,oM 16 10 3,oB 17 .lss 3 (tK 15) (tK 16) 3 4]) (.cond (tK 17) .skip (.exit 0))) (.block 1 (.seq (.ops [oM 18 9 3,oM 19 10 3,oB 20 .add 3 (tK 18) (tK 19) 3 3,oX 21 (.convert 3 82 (tK 20)) 82,oB 22 .shr 82 (tK 21) (.const (.int .u64 1)) 82 82,oX 23 (.convert 82 3 (tK 22)) 3,oA 11 23 3]) (.seq (.ops [oM 24 2 112,oM 25 0 22,oM 26 11 3,oI 27 22 25 26,oL 28 26 27 26,oM 29 1 26,oX 30 (.call ⟨(.value (tK 24)), #[(tK 28),(tK 29)], #[26,26]⟩) 3,oB 31 .lss 3 (tK 30) (iK 0) 3 4]) (.cond (tK 31) (.ops [oM 32 11 3,oB 33 .add 3 (tK 32) (iK 1) 3 3,oA 9 33 3]) (.ops [oM 34 11 3,oA 10 34 3])))))
def A0Q:SC:= .loop eu
def ADW:SC:= .seq (.ops [oX 6 (.assign (iK 0)) 3,oX 7 BR 4]) (.seq (.ops [oM 12 0 22,oN 13 12 22,oA 8 13 3]) (.seq (.ops [oM 14 8 3,oX 9 (.assign (iK 0)) 3,oA 10 14 3]) (.seq (.block 0 A0Q) (.seq (.ops [oM 35 9 3,oM 36 9 3,oM 37 8 3,oB 38 .lss 3 (tK 36) (tK 37) 3 4,oM 39 38 4,⟨some 40,.move (tK 2),112,(some (some 39,true))⟩,⟨some 41,.move (tK 0),22,(some (some 39,true))⟩,⟨some 42,.move (tK 9),3,(some (some 39,true))⟩,⟨some 43,.indexAddr 22 (tK 41) (tK 42),0,(some (some 39,true))⟩,⟨some 44,.load 26 (tK 43),26,(some (some 39,true))⟩,⟨some 45,.move (tK 1),26,(some (some 39,true))⟩,⟨some 46,.call ⟨(.value (tK 40)), #[(tK 44),(tK 45)], #[26,26]⟩,3,(some (some 39,true))⟩,⟨some 47,.binOp .eql 3 (tK 46) (iK 0) 3,4,(some (some 39,true))⟩,oX 48 (.pick (tK 39) (tK 47) Lm) 4,oA 6 35 3,oA 7 48 4]) .ret))))
theorem A7N:Tryz.f136.body.map (BQ lends)=some ADW:=by kernel_rfl
theorem ALF:BV Tryz.f136 3=true:=by kernel_rfl
theorem AQv{a l:List D}{r:D×List D}(h:BU Y.env ADW (fin Ai l.length [bt 6,bt 7] r) (entry a l))(ha:a.length=3):Y.call 136 a l=some r:=
 AY (Y:=Y) rfl Tryz.func136 (ha▸ALF) A7N h
def Py(x_:AV)(target:AU)(cmp:AU→AU→Option Int)(cmp_f:an)(cmp_c:List D)(i j:Int)(s:St):Prop:=s.v 0=bk 26 (AR Ba x_)∧s.v 1=bk 3 (AR (bc .i64) target)∧s.v 2=D.clo cmp_f cmp_c∧s.v 8=bc .i64 (x_.length:Int)∧s.v 9=bc .i64 i∧s.v 10=bc .i64 j
def XC(x_:AV)(target:AU)(cmp:AU→AU→Option Int)(cmp_f:an)(cmp_c:List D)(r:Int)(ex:Ex)(s:St):Prop:=ex= .exit 0∧s.v 0=bk 26 (AR Ba x_)∧s.v 1=bk 3 (AR (bc .i64) target)∧s.v 2=D.clo cmp_f cmp_c∧s.v 8=bc .i64 (x_.length:Int)∧s.v 9=bc .i64 r
theorem A27(x_:AV)(target:AU)(cmp:AU→AU→Option Int)(cmp_f:an)(cmp_c:List D)(cmp_h: ∀(a0 a1:AU) (r:Int),cmp a0 a1=some r→Y.call cmp_f (bk 3 (AR (bc .i64) a0)::bk 3 (AR (bc .i64) a1)::cmp_c) []=some (bc .i64 r,[]))(cmp_l:lends cmp_f=false){v:Int×Int}{s:St}{r:Int}(h:pK x_ target cmp v=some r)(hM:Py x_ target cmp cmp_f cmp_c v.1 v.2 s):BU Y.env A0Q (XC x_ target cmp cmp_f cmp_c r) s:=by
 unfold pK at h;refine Aw (c:=eu) (fun v=>UE x_ target cmp v.1 v.2) (fun v s=>Py x_ target cmp cmp_f cmp_c v.1 v.2 s) (XC x_ target cmp cmp_f cmp_c) ?_ h hM;clear h hM s v r;intro v s o hM h;obtain⟨i,j⟩:=v;dsimp only at h hM;unfold UE at h;unfold Py at hM;obtain⟨m0,m1,m2,m3,m4,m5⟩:=hM;unfold eu;rcases iS h with⟨e1,h⟩|⟨e1,h⟩
 ·obtain⟨e2,h⟩:=De h;obtain⟨A26,hl3,h⟩:=Ag h;have c3:=cmp_h _ _ _ hl3;rcases iS h with⟨e4,h⟩|⟨e4,h⟩
  ·cases h;simp only [↓AO,AP,↓reduceIte,bj,bh,Int.reduceLT,Int.reduceToNat,m0,m1,m2,m3,m4,m5,cmp_l,e1,e2.1,e2.2,c3,e4,Py,D6]
  ·cases h;simp only [↓AO,AP,↓reduceIte,bj,bh,Int.reduceLT,Int.reduceToNat,m0,m1,m2,m3,m4,m5,cmp_l,e1,e2.1,e2.2,c3,e4,Py,D6]
 ·cases h;simp only [↓AO,AP,↓reduceIte,bj,bh,m0,m1,m2,m3,m4,m5,e1,Py,XC,GH]
theorem A4b(x_:AV)(target:AU)(cmp:AU→AU→Option Int)(cmp_f:an)(cmp_c:List D)(cmp_h: ∀(a0 a1:AU) (r:Int),cmp a0 a1=some r→Y.call cmp_f (bk 3 (AR (bc .i64) a0)::bk 3 (AR (bc .i64) a1)::cmp_c) []=some (bc .i64 r,[]))(cmp_l:lends cmp_f=false){r:Int×Bool}(h:gBS x_ target cmp=some r):Y.call 136 [bk 26 (AR Ba x_),bk 3 (AR (bc .i64) target),D.clo cmp_f cmp_c] []=some (D.tup [bc .i64 r.1,bp r.2],[]):=by
 refine AQv ?_ rfl;unfold ADW;unfold gBS at h;obtain⟨AX,hl2,h⟩:=Ag h;try dsimp only at h
 simp only [↓AO,AP,↓reduceIte,bj,bh];refine Ak (A27 x_ target cmp cmp_f cmp_c cmp_h cmp_l hl2 ?_) ?_
 ·simp only [BL,Cv,↓reduceIte,bj,bh,Py]
 ·intro ex2 s2 hX2;unfold XC at hX2;obtain⟨rfl,n2_0,n2_1,n2_2,n2_3,n2_4⟩:=hX2;rcases iS h with⟨e3,h⟩|⟨e3,h⟩
  ·obtain⟨e4,h⟩:=De h;obtain⟨ALE,hl5,h⟩:=Ag h;try dsimp only at h
   have c5:=cmp_h _ _ _ hl5;cases h;simp only [↓AO,AP,↓reduceIte,bj,bh,cmp_l,n2_0,n2_1,n2_2,n2_3,n2_4,e3,e4.1,e4.2,c5]
  ·cases h;simp only [↓AO,AP,↓reduceIte,bj,bh,n2_3,n2_4,e3]
def Iq(list:AV)(labels:AU):Option (Bool):= (EN labels).bind fun Vq=> ck (Vq.length<1099511627776)<| (gBS list (Le Vq) (fun a0 a1=>gCp a0 a1)).bind fun Nb=> some Nb.2
def ADX:SC:= .seq (.ops [oX 4 BR 4]) (.seq (.ops [oM 8 0 22,oM 9 1 26,oC 10 138 [(tK 9)] [26] 142,oC 11 137 [(tK 10)] [142] 26,oC 12 136 [(tK 8),(tK 11),(.func 98)] [22,26,112] 54,oM 7 12 54,oE 13 7 0 3,oE 14 7 1 4,oA 5 13 3,oA 6 14 4]) (.seq (.ops [oM 15 6 4,oA 4 15 4]) .ret))
theorem A7O:Tryz.f117.body.map (BQ lends)=some ADX:=by kernel_rfl
theorem ALG:BV Tryz.f117 2=true:=by kernel_rfl
theorem AQw{a l:List D}{r:D×List D}(h:BU Y.env ADX (fin Ai l.length [bt 4] r) (entry a l))(ha:a.length=2):Y.call 117 a l=some r:=
 AY (Y:=Y) rfl Tryz.func117 (ha▸ALG) A7O h
theorem Rh(list:AV)(labels:AU){r:Bool}(h:Iq list labels=some r):Y.call 117 [bk 26 (AR Ba list),bk 3 (AR (bc .i64) labels)] []=some (bp r,[]):=by
 refine AQw ?_ rfl;unfold ADX;unfold Iq at h;obtain⟨Vq,hl1,h⟩:=Ag h;have c1:=OH labels hl1;obtain⟨e2,h⟩:=De h;have c3:=yx Vq e2;obtain⟨Nb,hl4,h⟩:=Ag h;try dsimp only at h
 have c4:=A4b list (Le Vq) (fun a0 a1=>gCp a0 a1) 98 [] (fun a0 a1 _ hh=>wC a0 a1 hh) ACp hl4;cases h;simp only [↓AO,AP,↓reduceIte,bj,bh,c1,c3,c4]
theorem A28(l:AV)(x:AU)(f:AU→AU→Option Int)(hl:l.length<1099511627776)(hf: ∀i,i<l.length→f (l.getD i be) x=some (Ic (l.getD i be) x))(h:UD l=true):
  ∃r,gBS l x f=some (r,l.contains x):=by
 have key:=QY (fun v=>UE l x f v.1 v.2)
  (fun m v=> ∃i j:Nat,v=((i:Int),(j:Int))∧i≤j∧j≤l.length∧m=j-i∧(∀k,k<i→Ic (l.getD k be) x<0)∧(∀k,j≤k→k<l.length→ ¬Ic (l.getD k be) x<0))
  (fun r=> ∃i:Nat,r=(i:Int)∧i≤l.length∧(∀k,k<i→Ic (l.getD k be) x<0)∧(∀k,i≤k→k<l.length→ ¬Ic (l.getD k be) x<0)) ?_ l.length (0,(l.length:Int)) ⟨0,l.length,rfl,Nat.zero_le _,Ch _,by omega,fun k hk=>by omega,fun k h1 h2=>by omega⟩
 ·obtain⟨r,h1,i,rfl,hi,h2,h3⟩:=key;unfold gBS pK;rw [h1,C8];by_cases hlt:i<l.length
  ·rw [if_pos (by omega),BC (by omega),Cg,hf i hlt,C8]
   refine⟨(i:Int), ?_⟩
   congr 2
   rw [S9,decide_eq_true_eq,TR,ed]
   constructor
   ·intro e;exact⟨i,hlt,A7K _ _ e⟩
   ·rintro⟨k,hk,rfl⟩
    have k1: ¬k<i:=fun hki=>by have:=h2 k hki;rw [YN]at this;omega
    have k2: ¬i<k:=fun hik=>h3 i (Ch _) hlt (eZ h hik hk);have:k=i:=by omega
    subst this;exact YN _
  ·rw [if_neg (by omega)]
   refine⟨(i:Int), ?_⟩
   congr 2
   symm
   rw [Es];intro hc;obtain⟨k,hk,rfl⟩:=ed.1 (TR.1 hc);have:=h2 k (by omega)
   rw [YN]at this;omega
 ·rintro m v ⟨i,j,rfl,hij,hj,rfl,h2,h3⟩
  simp only [UE];by_cases hlt:i<j
  ·have e1:(2:Int) ^ (min 1 (bO.bits))=2:=by decide
   have e2:(((i:Int)+(j:Int)).fdiv 2)=(((i+j) / 2:Nat):Int):=by
    rw [A2i _ (by omega)];omega
   rw [if_pos (by omega),Ib ((i:Int)+j) (by omega),wrU _ (by omega),e1,e2,Ib _ (by omega),BC (by omega),Cg,hf _ (by omega),C8]
   left
   by_cases hc:Ic (l.getD ((i+j) / 2) be) x<0
   ·rw [if_pos hc,Ib _ (by omega)]
    refine⟨_,j-((i+j) / 2+1),rfl,by omega,(i+j) / 2+1,j,rfl,by omega,hj,rfl,fun k hk=> ?_,h3⟩
    by_cases e:k=(i+j) / 2
    ·rw [e];exact hc
    ·exact Vs _ _ _ (eZ h (by omega:k<(i+j) / 2) (by omega)) hc
   ·rw [if_neg hc]
    refine⟨_,(i+j) / 2-i,rfl,by omega,i,(i+j) / 2,rfl,by omega,by omega,rfl,h2,fun k hk1 hk2 hck=> ?_⟩
    by_cases e:k=(i+j) / 2
    ·rw [e]at hck;exact hc hck
    ·exact hc (Vs _ _ _ (eZ h (by omega:(i+j) / 2<k) hk2) hck)
  ·rw [if_neg (by omega)]
   right
   have:i=j:=by omega
   subst this
   exact⟨_,rfl,i,rfl,hj,h2,h3⟩
theorem TH(l:AV)(x:AU)(hl:BK l)(hx:x.length<1099511627776)(h:UD l=true):Iq l x=some (l.contains (JJ x)):=by
 unfold Iq EN;rw [C8,BC hx,wH];obtain⟨r,e⟩:=A28 l (JJ x) (fun a0 a1=>gCp a0 a1) hl.1 (fun i hi=>A4T _ _ (hl.getD i) (by rw [mE];exact hx)) h
 rw [e];rfl
theorem NU(list:AV)(labels:AU)(h0:BK list)(h1:labels.length<1099511627776)(h2:UD list=true):Y.call 117 [bk 26 (AR Ba list),bk 3 (AR (bc .i64) labels)] []=some (bp (list.contains (JJ labels)),[]):=Rh list labels (TH list labels h0 h1 h2)
def Ja(a b:AU)(Ie:Int):Option ((Int)⊕(Unit⊕Unit)):= if Ie<(a.length:Int)then ck (0≤Ie∧Ie.toNat<a.length)<| ck (0≤Ie∧Ie.toNat<b.length)<| if(a.getD Ie.toNat be)=(b.getD Ie.toNat be)then some (bo (bm.wrap (Ie+1))) else some (bl (bo ())) else some (bl (bl ()))
def Qh(a b:AU)(v:Int):Option (Unit⊕Unit):=E9 (fun v=>Ja a b v) v
def UF(a b:AU):Option (Bool):=
 if(a.length:Int)=(b.length:Int)then
  (Qh a b 0).bind fun AX=>
  match AX with
  | .inl q1000_=>
   some false
  | .inr q1000_=>
   some true
 else
  some false
abbrev pM:List Nat:=[16,17,18,19,20,21,22,23,24]
def fA:SC:= .seq (.ops [oB 14 .lss 3 (tK 13) (tK 12) 3 0]) (.seq (.cond (tK 14) .skip (.exit 0)) (.seq (.block 1 (.seq (.ops [oM 15 13 3,oA 5 15 3]) (.seq (.draws [(⟨[16,0,0],pM,[16]⟩,oM 16 0 26),(⟨[17,5,5],pM,[17]⟩,oM 17 5 3),(⟨[18,16,17,0,5],pM,[18]⟩,oI 18 26 16 17),(⟨[19,18,0],pM,[19]⟩,oL 19 3 18 3),(⟨[20,1,1],pM,[20]⟩,oM 20 1 26),(⟨[21,5,5],pM,[21]⟩,oM 21 5 3),(⟨[22,20,21,1,5],pM,[22]⟩,oI 22 26 20 21),(⟨[23,22,1],pM,[23]⟩,oL 23 3 22 3),(⟨[24,19,23,0,1],pM,[24]⟩,oB 24 .neq 3 (tK 19) (tK 23) 3 4)]) (.cond (tK 24) (.seq (.ops [oX 4 BR 4]) .ret) .skip)))) (.ops [oB 25 .add 3 (tK 13) (iK 1) 3 3,oM 13 25 3])))
def A0R:SC:= .loop fA
def ADY:SC:= .seq (.ops [oX 4 BR 4]) (.seq (.seq (.ops [oM 6 0 26,oN 7 6 26,oM 8 1 26,oN 9 8 26,oB 10 .neq 3 (tK 7) (tK 9) 3 4]) (.cond (tK 10) (.seq (.ops [oX 4 BR 4]) .ret) .skip)) (.seq (.seq (.ops [oM 11 0 26,oN 12 11 26,oX 13 (.move (iK 0)) 3]) (.block 0 A0R)) (.seq (.ops [oX 4 (.assign Ck) 4]) .ret)))
theorem A7P:Tryz.f140.body.map (BQ lends)=some ADY:=by kernel_rfl
theorem ALH:BV Tryz.f140 2=true:=by kernel_rfl
theorem AQx{a l:List D}{r:D×List D}(h:BU Y.env ADY (fin Ai l.length [bt 4] r) (entry a l))(ha:a.length=2):Y.call 140 a l=some r:=
 AY (Y:=Y) rfl Tryz.func140 (ha▸ALH) A7P h
def Gl(a b:AU)(Ie:Int)(s:St):Prop:=s.v 0=bk 3 (AR (bc .i64) a)∧s.v 1=bk 3 (AR (bc .i64) b)∧s.v 12=bc .i64 (a.length:Int)∧s.v 13=bc .i64 Ie
def Jb(a b:AU)(r:Unit⊕Unit)(ex:Ex)(s:St):Prop:=match r with
 | .inl q=>ex= .ret∧s.v 4=bp false
 | .inr q=>ex= .exit 0
theorem fB(a b:AU){v:Int}{s:St}{r:Unit⊕Unit}(h:Qh a b v=some r)(hM:Gl a b v s):BU Y.env A0R (Jb a b r) s:=by
 unfold Qh at h;refine Aw (c:=fA) (fun v=>Ja a b v) (fun v s=>Gl a b v s) (Jb a b) ?_ h hM;clear h hM s v r;intro Ie s o hM h;unfold Ja at h;unfold Gl at hM;obtain⟨m0,m1,m2,m3⟩:=hM;unfold fA;rcases iS h with⟨e2,h⟩|⟨e2,h⟩
 ·obtain⟨e3,e4,h⟩:=EC h;rcases iS h with⟨e5,h⟩|⟨e5,h⟩
  ·cases h;simp only [↓AO,AP,↓reduceIte,bj,bh,m0,m1,m2,m3,e2,e3.1,e3.2,e4.2,decide_eq_true e5,Gl,D6]
  ·cases h;simp only [↓AO,AP,↓reduceIte,bj,bh,m0,m1,m2,m3,e2,e3.1,e3.2,e4.2,e5,Gl,Jb,OC]
 ·cases h;simp only [↓AO,AP,↓reduceIte,bh,m2,m3,e2,Gl,Jb,GH]
theorem kD(a b:AU){r:Bool}(h:UF a b=some r):Y.call 140 [bk 3 (AR (bc .i64) a),bk 3 (AR (bc .i64) b)] []=some (bp r,[]):=by
 refine AQx ?_ rfl;unfold ADY;unfold UF at h;rcases iS h with⟨e1,h⟩|⟨e1,h⟩
 ·obtain⟨AX,hl3,h⟩:=Ag h;try dsimp only at h
  simp only [↓AO,AP,↓reduceIte,bj,bh,decide_eq_true e1];refine Ak (fB a b hl3 ?_) ?_
  ·simp only [BL,Cv,↓reduceIte,bj,bh,Gl]
  ·intro ex3 s3 hX3;rcases AX with q1000_|q1000_
   ·unfold Jb at hX3;dsimp only at hX3 h;obtain⟨rfl,n3_0⟩:=hX3;cases h;simp only [↓AO,AP,↓reduceIte,n3_0]
   ·unfold Jb at hX3;dsimp only at hX3 h
    obtain rfl:=hX3
    cases h;simp only [↓AO,AP,↓reduceIte,bj,bh]
 ·cases h;simp only [↓AO,AP,↓reduceIte,bj,bh,e1]
def Kz(l:AV)(x_:AU)(GM:Int):Option ((Int)⊕(Unit⊕Unit)):= if GM<(l.length:Int)then ck (0≤GM∧GM.toNat<l.length)<| (UF x_ (l.getD GM.toNat be)).bind fun Ce=> if Ce=true then some (bl (bo ())) else some (bo (bm.wrap (GM+1))) else some (bl (bl ()))
def Sc(l:AV)(x_:AU)(v:Int):Option (Unit⊕Unit):=E9 (fun v=>Kz l x_ v) v
def ai(l:AV)(x_:AU):Option (Bool):=
 (Sc l x_ 0).bind fun AX=>
 match AX with
 | .inl q1000_=>
  some true
 | .inr q1000_=>
  some false
def fC:SC:= .seq (.ops [oB 10 .lss 3 (tK 9) (tK 8) 3 0]) (.seq (.cond (tK 10) .skip (.exit 0)) (.seq (.block 1 (.seq (.ops [oI 11 22 7 9,oL 12 26 11 26,oA 6 12 26]) (.seq (.ops [oM 13 1 26,oM 14 6 26,oC 15 140 [(tK 13),(tK 14)] [26,26] 4]) (.cond (tK 15) (.seq (.ops [oX 4 (.assign Ck) 4]) .ret) .skip)))) (.ops [oB 16 .add 3 (tK 9) (iK 1) 3 3,oM 9 16 3])))
def A0S:SC:= .loop fC
def ADZ:SC:= .seq (.ops [oX 4 BR 4]) (.seq (.seq (.ops [oM 7 0 22,oN 8 7 22,oX 9 (.move (iK 0)) 3]) (.block 0 A0S)) (.seq (.ops [oX 4 BR 4]) .ret))
theorem A7Q:Tryz.f122.body.map (BQ lends)=some ADZ:=by kernel_rfl
theorem ALI:BV Tryz.f122 2=true:=by kernel_rfl
theorem AQy{a l:List D}{r:D×List D}(h:BU Y.env ADZ (fin Ai l.length [bt 4] r) (entry a l))(ha:a.length=2):Y.call 122 a l=some r:=
 AY (Y:=Y) rfl Tryz.func122 (ha▸ALI) A7Q h
def Ir(l:AV)(x_:AU)(GM:Int)(s:St):Prop:=s.v 1=bk 3 (AR (bc .i64) x_)∧s.v 7=bk 26 (AR Ba l)∧s.v 8=bc .i64 (l.length:Int)∧s.v 9=bc .i64 GM
def L6(l:AV)(x_:AU)(r:Unit⊕Unit)(ex:Ex)(s:St):Prop:=match r with
 | .inl q=>ex= .ret∧s.v 4=bp true
 | .inr q=>ex= .exit 0
theorem kE(l:AV)(x_:AU){v:Int}{s:St}{r:Unit⊕Unit}(h:Sc l x_ v=some r)(hM:Ir l x_ v s):BU Y.env A0S (L6 l x_ r) s:=by
 unfold Sc at h;refine Aw (c:=fC) (fun v=>Kz l x_ v) (fun v s=>Ir l x_ v s) (L6 l x_) ?_ h hM;clear h hM s v r;intro GM s o hM h;unfold Kz at h;unfold Ir at hM;obtain⟨m0,m1,m2,m3⟩:=hM;unfold fC;rcases iS h with⟨e1,h⟩|⟨e1,h⟩
 ·obtain⟨e2,h⟩:=De h;obtain⟨Ce,hl3,h⟩:=Ag h;have c3:=kD x_ (l.getD GM.toNat be) hl3;rcases iS h with⟨e4,h⟩|⟨e4,h⟩
  ·cases h;simp only [↓AO,AP,↓reduceIte,bj,bh,m0,m1,m2,m3,e1,e2.1,e2.2,c3,e4,Ir,L6,OC]
  ·have e4f:Ce=false:=Es.mpr e4;cases h;simp only [↓AO,AP,↓reduceIte,bj,bh,m0,m1,m2,m3,e1,e2.1,e2.2,c3,e4f,Ir,D6]
 ·cases h;simp only [↓AO,AP,↓reduceIte,bh,m2,m3,e1,Ir,L6,GH]
theorem pO(l:AV)(x_:AU){r:Bool}(h:ai l x_=some r):Y.call 122 [bk 26 (AR Ba l),bk 3 (AR (bc .i64) x_)] []=some (bp r,[]):=by
 refine AQy ?_ rfl;unfold ADZ;unfold ai at h;obtain⟨AX,hl2,h⟩:=Ag h;try dsimp only at h
 simp only [↓AO,AP,↓reduceIte,bj,bh];refine Ak (kE l x_ hl2 ?_) ?_
 ·simp only [BL,Cv,↓reduceIte,bj,bh,Ir]
 ·intro ex2 s2 hX2;rcases AX with q1000_|q1000_
  ·unfold L6 at hX2;dsimp only at hX2 h;obtain⟨rfl,n2_0⟩:=hX2;cases h;simp only [↓AO,AP,↓reduceIte,n2_0]
  ·unfold L6 at hX2;dsimp only at hX2 h
   obtain rfl:=hX2
   cases h;simp only [↓AO,AP,↓reduceIte,bj,bh]
theorem A29(a b:AU)(ha:a.length<1099511627776):UF a b=some (decide (a=b)):=by
 unfold UF Qh;by_cases hl:a.length=b.length
 ·rw [if_pos (by omega)]
  have key:=Df (fun v=>Ja a b v) (fun i=>(i:Int)) a.length (fun i=>decide (a.getD i be=b.getD i be)) (.inl ()) (.inr ()) ?_ ?_
  ·simp only [Et]at key;rw [key,U1 a b hl];by_cases he:a=b<;>simp [he]
  ·intro i hi;simp only [Ja];rw [if_pos (BX hi),BC (Dl hi),BC (Dl (by omega)),Cg,Gf i (by omega)]<;>simp only [decide_eq_true_eq]
  ·simp only [Ja];rw [if_neg (Am _)]
 ·rw [if_neg (by omega)]
  have: ¬a=b:=fun e=>hl (by rw [e])
  simp [this]
theorem zF(l:AV)(x:AU)(hl:l.length<1099511627776)(hx:x.length<1099511627776):ai l x=some (l.contains x):=by
 unfold ai Sc;have key:=Df (fun v=>Kz l x v) (fun i=>(i:Int)) l.length (fun i=> !decide (x=l.getD i be)) (.inl ()) (.inr ()) ?_ ?_
 ·simp only [Et]at key;rw [key,C8];rw [RU (fun y=> !decide (x=y)) l];by_cases hm:x∈l
  ·have:l.all (fun y=> !decide (x=y))=false:=by
    rw [Es];intro hc;have:=KJ.1 hc x hm
    simp at this
   rw [this,if_neg (by decide)]
   simp [hm]
  ·have:l.all (fun y=> !decide (x=y))=true:=by
    refine KJ.2 fun y hy=> ?_;have: ¬x=y:=fun e=>hm (e▸hy)
    simp [this]
   rw [this,if_pos rfl];simp [hm]
 ·intro i hi;simp only [Kz];rw [if_pos (BX hi),BC (Dl hi),Cg,A29 _ _ hx,C8,Gf i (by omega)]
  by_cases e:x=l.getD i be<;>simp [e]
 ·simp only [Kz];rw [if_neg (Am _)]
theorem zG(l:AV)(x_:AU)(h0:l.length<1099511627776)(h1:x_.length<1099511627776):Y.call 122 [bk 26 (AR Ba l),bk 3 (AR (bc .i64) x_)] []=some (bp (l.contains x_),[]):=pO l x_ (zF l x_ h0 h1)
def L8(l:AU)(n_ GM:Int):Option ((Int)⊕(Unit⊕Unit)):= if GM<(l.length:Int)then ck (0≤GM∧GM.toNat<l.length)<| if(l.getD GM.toNat be)=n_ then some (bl (bo ())) else some (bo (bm.wrap (GM+1))) else some (bl (bl ()))
def Sd(l:AU)(n_ v:Int):Option (Unit⊕Unit):=E9 (fun v=>L8 l n_ v) v
def aj(l:AU)(n_:Int):Option (Bool):=
 (Sd l n_ 0).bind fun AX=>
 match AX with
 | .inl q1000_=>
  some true
 | .inr q1000_=>
  some false
def pQ:SC:= .seq (.ops [oB 10 .lss 3 (tK 9) (tK 8) 3 0]) (.seq (.cond (tK 10) .skip (.exit 0)) (.seq (.block 1 (.seq (.ops [oI 11 26 7 9,oL 12 3 11 3,oA 6 12 3]) (.seq (.ops [oM 13 6 3,oM 14 1 3,oB 15 .eql 3 (tK 13) (tK 14) 3 4]) (.cond (tK 15) (.seq (.ops [oX 4 (.assign Ck) 4]) .ret) .skip)))) (.ops [oB 16 .add 3 (tK 9) (iK 1) 3 3,oM 9 16 3])))
def A4c:SC:= .loop pQ
def k36:SC:= .seq (.ops [oX 4 BR 4]) (.seq (.seq (.ops [oM 7 0 26,oN 8 7 26,oX 9 (.move (iK 0)) 3]) (.block 0 A4c)) (.seq (.ops [oX 4 BR 4]) .ret))
theorem ADa:Tryz.f36.body.map (BQ lends)=some k36:=by kernel_rfl
theorem AR0:BV Tryz.f36 2=true:=by kernel_rfl
theorem c36{a l:List D}{r:D×List D}(h:BU Y.env k36 (fin Ai l.length [bt 4] r) (entry a l))(ha:a.length=2):Y.call 36 a l=some r:=
 AY (Y:=Y) rfl Tryz.func36 (ha▸AR0) ADa h
def Iu(l:AU)(n_ GM:Int)(s:St):Prop:=s.v 1=bc .i64 n_∧s.v 7=bk 3 (AR (bc .i64) l)∧s.v 8=bc .i64 (l.length:Int)∧s.v 9=bc .i64 GM
def L9(l:AU)(n_:Int)(r:Unit⊕Unit)(ex:Ex)(s:St):Prop:=match r with
 | .inl q=>ex= .ret∧s.v 4=bp true
 | .inr q=>ex= .exit 0
theorem kF(l:AU)(n_:Int){v:Int}{s:St}{r:Unit⊕Unit}(h:Sd l n_ v=some r)(hM:Iu l n_ v s):BU Y.env A4c (L9 l n_ r) s:=by
 unfold Sd at h;refine Aw (c:=pQ) (fun v=>L8 l n_ v) (fun v s=>Iu l n_ v s) (L9 l n_) ?_ h hM;clear h hM s v r;intro GM s o hM h;unfold L8 at h;unfold Iu at hM;obtain⟨m0,m1,m2,m3⟩:=hM;unfold pQ;rcases iS h with⟨e1,h⟩|⟨e1,h⟩
 ·obtain⟨e2,h⟩:=De h;rcases iS h with⟨e3,h⟩|⟨e3,h⟩
  ·cases h;simp (maxDischargeDepth:=9) only [↓AO,AP,↓reduceIte,bj,bh,m0,m1,m2,m3,e1,e2.1,e2.2,decide_eq_true e3,Iu,L9,OC]
  ·cases h;simp (maxDischargeDepth:=9) only [↓AO,AP,↓reduceIte,bj,bh,m0,m1,m2,m3,e1,e2.1,e2.2,e3,Iu,D6]
 ·cases h;simp (maxDischargeDepth:=9) only [↓AO,AP,↓reduceIte,bh,m2,m3,e1,Iu,L9,GH]
theorem pR(l:AU)(n_:Int){r:Bool}(h:aj l n_=some r):Y.call 36 [bk 3 (AR (bc .i64) l),bc .i64 n_] []=some (bp r,[]):=by
 refine c36 ?_ rfl;unfold k36;unfold aj at h;obtain⟨AX,hl2,h⟩:=Ag h;try dsimp only at h
 simp (maxDischargeDepth:=9) only [↓AO,AP,↓reduceIte,bj,bh];refine Ak (kF l n_ hl2 ?_) ?_
 ·simp (maxDischargeDepth:=9) only [BL,Cv,↓reduceIte,bj,bh,Iu]
 ·intro ex2 s2 hX2;rcases AX with q1000_|q1000_
  ·unfold L9 at hX2;dsimp only at hX2 h;obtain⟨rfl,n2_0⟩:=hX2;cases h;simp (maxDischargeDepth:=9) only [↓AO,AP,↓reduceIte,n2_0]
  ·unfold L9 at hX2;dsimp only at hX2 h
   obtain rfl:=hX2
   cases h;simp (maxDischargeDepth:=9) only [↓AO,AP,↓reduceIte,bj,bh]
theorem zH(l:AU)(n:Int)(h:l.length<1099511627776):aj l n=some (l.contains n):=by
 unfold aj Sd;have key:=Df (fun v=>L8 l n v) (fun i=>(i:Int)) l.length (fun i=> !decide (l.getD i be=n)) (.inl ()) (.inr ()) ?_ ?_
 ·simp only [Et]at key;rw [key,RU (fun x=> !decide (x=n))]
  have e:l.all (fun x=> !decide (x=n))= !l.contains n:=by
   rw [List.all_eq_not_any_not,List.contains_eq_any_beq]
   congr 2
   funext x
   rw [Bool.not_not,S9,decide_eq_true_eq,beq_iff_eq];exact eq_comm
  rw [e]
  cases l.contains n<;>rfl
 ·intro i hi;simp only [L8];rw [if_pos (BX hi),BC (Dl hi),Cg,Gf i (by omega)]
  by_cases hq:l.getD i be=n
  ·rw [if_pos hq,decide_eq_true hq];rfl
  ·rw [if_neg hq,decide_eq_false hq];rfl
 ·simp only [L8];rw [if_neg (Am _)]
theorem fD(l:AU)(n_:Int)(h0:l.length<1099511627776):Y.call 36 [bk 3 (AR (bc .i64) l),bc .i64 n_] []=some (bp (l.contains n_),[]):=pR l n_ (zH l n_ h0)
def Mj(s_:AU)(v_ Gj:Int):Option ((Int)⊕(Int⊕Unit)):= if Gj<(s_.length:Int)then ck (0≤Gj∧Gj.toNat<s_.length)<| if v_=(s_.getD Gj.toNat be)then some (bl (bo Gj)) else some (bo (bm.wrap (Gj+1))) else some (bl (bl ()))
def pU(s_:AU)(v_ v:Int):Option (Int⊕Unit):=E9 (fun v=>Mj s_ v_ v) v
def gIx(s_:AU)(v_:Int):Option (Int):=
 (pU s_ v_ 0).bind fun AX=>
 match AX with
 | .inl q1000_=>
  some q1000_
 | .inr q1000_=>
  some (-1)
def fF:SC:= .seq (.ops [oB 9 .lss 3 (tK 8) (tK 7) 3 0]) (.seq (.cond (tK 9) .skip (.exit 0)) (.seq (.block 1 (.seq (.ops [oM 10 8 3,oA 5 10 3]) (.seq (.ops [oM 11 1 3,oM 12 0 26,oM 13 5 3,oI 14 26 12 13,oL 15 3 14 3,oB 16 .eql 3 (tK 11) (tK 15) 3 4]) (.cond (tK 16) (.seq (.ops [oM 17 5 3,oA 4 17 3]) .ret) .skip)))) (.ops [oB 18 .add 3 (tK 8) (iK 1) 3 3,oM 8 18 3])))
def A0T:SC:= .loop fF
def ADb:SC:= .seq (.ops [oX 4 (.assign (iK 0)) 3]) (.seq (.seq (.ops [oM 6 0 26,oN 7 6 26,oX 8 (.move (iK 0)) 3]) (.block 0 A0T)) (.seq (.ops [oX 4 RV 3]) .ret))
theorem A7R:Tryz.f107.body.map (BQ lends)=some ADb:=by kernel_rfl
theorem ALK:BV Tryz.f107 2=true:=by kernel_rfl
theorem AR1{a l:List D}{r:D×List D}(h:BU Y.env ADb (fin Ai l.length [bt 4] r) (entry a l))(ha:a.length=2):Y.call 107 a l=some r:=
 AY (Y:=Y) rfl Tryz.func107 (ha▸ALK) A7R h
def Pz(s_:AU)(v_ Gj:Int)(s:St):Prop:=s.v 0=bk 3 (AR (bc .i64) s_)∧s.v 1=bc .i64 v_∧s.v 7=bc .i64 (s_.length:Int)∧s.v 8=bc .i64 Gj
def Ri(s_:AU)(v_:Int)(r:Int⊕Unit)(ex:Ex)(s:St):Prop:=match r with
 | .inl q=>ex= .ret∧s.v 4=bc .i64 q
 | .inr q=>ex= .exit 0
theorem A2A(s_:AU)(v_:Int){v:Int}{s:St}{r:Int⊕Unit}(h:pU s_ v_ v=some r)(hM:Pz s_ v_ v s):BU Y.env A0T (Ri s_ v_ r) s:=by
 unfold pU at h;refine Aw (c:=fF) (fun v=>Mj s_ v_ v) (fun v s=>Pz s_ v_ v s) (Ri s_ v_) ?_ h hM;clear h hM s v r;intro Gj s o hM h;unfold Mj at h;unfold Pz at hM;obtain⟨m0,m1,m2,m3⟩:=hM;unfold fF;rcases iS h with⟨e1,h⟩|⟨e1,h⟩
 ·obtain⟨e2,h⟩:=De h;rcases iS h with⟨e3,h⟩|⟨e3,h⟩
  ·cases h;simp (maxDischargeDepth:=9) only [↓AO,AP,↓reduceIte,bj,bh,m0,m1,m2,m3,e1,e2.1,e2.2,decide_eq_true e3,Pz,Ri,OC]
  ·cases h;simp (maxDischargeDepth:=9) only [↓AO,AP,↓reduceIte,bj,bh,m0,m1,m2,m3,e1,e2.1,e2.2,e3,Pz,D6]
 ·cases h;simp (maxDischargeDepth:=9) only [↓AO,AP,↓reduceIte,bh,m2,m3,e1,Pz,Ri,GH]
theorem A4d(s_:AU)(v_:Int){r:Int}(h:gIx s_ v_=some r):Y.call 107 [bk 3 (AR (bc .i64) s_),bc .i64 v_] []=some (bc .i64 r,[]):=by
 refine AR1 ?_ rfl;unfold ADb;unfold gIx at h;obtain⟨AX,hl2,h⟩:=Ag h;try dsimp only at h
 simp (maxDischargeDepth:=9) only [↓AO,AP,↓reduceIte,bj,bh,b4];refine Ak (A2A s_ v_ hl2 ?_) ?_
 ·simp (maxDischargeDepth:=9) only [BL,Cv,↓reduceIte,bj,bh,Pz]
 ·intro ex2 s2 hX2;rcases AX with q1000_|q1000_
  ·unfold Ri at hX2;dsimp only at hX2 h;obtain⟨rfl,n2_0⟩:=hX2;cases h;simp (maxDischargeDepth:=9) only [↓AO,AP,↓reduceIte,n2_0]
  ·unfold Ri at hX2;dsimp only at hX2 h
   obtain rfl:=hX2
   cases h;simp (maxDischargeDepth:=9) only [↓AO,AP,↓reduceIte,bj,bh,b4]
def Dm(s_:AU)(v_:Int):Option (Bool):= (gIx s_ v_).bind fun r7_=> some (decide (0≤r7_))
def k74:SC:= .seq (.ops [oX 4 BR 4]) (.seq (.ops [oM 5 0 26,oM 6 1 3,oC 7 107 [(tK 5),(tK 6)] [26,3] 3,oB 8 .geq 3 (tK 7) (iK 0) 3 4,oA 4 8 4]) .ret)
theorem ADc:Tryz.f74.body.map (BQ lends)=some k74:=by kernel_rfl
theorem AR3:BV Tryz.f74 2=true:=by kernel_rfl
theorem c74{a l:List D}{r:D×List D}(h:BU Y.env k74 (fin Ai l.length [bt 4] r) (entry a l))(ha:a.length=2):Y.call 74 a l=some r:=
 AY (Y:=Y) rfl Tryz.func74 (ha▸AR3) ADc h
theorem NR(s_:AU)(v_:Int){r:Bool}(h:Dm s_ v_=some r):Y.call 74 [bk 3 (AR (bc .i64) s_),bc .i64 v_] []=some (bp r,[]):=by
 refine c74 ?_ rfl;unfold k74;unfold Dm at h;obtain⟨r7_,hl1,h⟩:=Ag h;try dsimp only at h
 have c1:=A4d s_ v_ hl1;cases h;simp (maxDischargeDepth:=9) only [↓AO,AP,↓reduceIte,bj,bh,bx,c1]
theorem A4e(l:AU)(n:Int)(h:l.length<1099511627776): ∃r,gIx l n=some r∧(0≤r↔l.contains n=true):=by
 unfold gIx pU;by_cases ha: ∀i,i<l.length→(!decide (n=l.getD i be))=true
 ·have key:=CO (fun v=>Mj l n v) (fun i=>(i:Int)) l.length (.inr ()) ?_ ?_
  ·simp only [Et]at key;rw [key]
   refine⟨-1,rfl,by simp,fun hc=> ?_⟩
   obtain⟨i,hi,he⟩:=V6 (TR.1 hc);have:=ha i hi
   rw [Ad _ _ hi,he]at this;simp at this
  ·intro i hi;simp only [Mj];have e:=ha i hi;rw [if_pos (BX hi),BC (Dl hi),Cg,if_neg (by simpa using e),Gf i (by omega)]
  ·simp only [Mj];rw [if_neg (Am _)]
 ·obtain⟨m,h1,h2,h3⟩:=SV (P:=fun i=> !decide (n=l.getD i be)) ha;have h2':n=l.getD m be:=by simpa using h2
  have key:=CO (fun v=>Mj l n v) (fun i=>(i:Int)) m (.inl (m:Int)) ?_ ?_
  ·simp only [Et]at key;rw [key]
   refine⟨(m:Int),rfl,fun _=> ?_,fun _=>by omega⟩
   rw [h2',Ad _ _ h1];exact TR.2 (O6 h1)
  ·intro i hi;simp only [Mj];have e:=h3 i hi;rw [if_pos (BX (by omega)),BC (Dl (by omega)),Cg,if_neg (by simpa using e),Gf i (by omega)]
  ·simp only [Mj];rw [if_pos (BX h1),BC (Dl h1),Cg,if_pos h2']
theorem OI(l:AU)(n:Int)(h:l.length<1099511627776):Dm l n=some (l.contains n):=by
 obtain⟨r,h1,h2⟩:=A4e l n h;unfold Dm;rw [h1,C8]
 congr 1
 rw [S9];simpa using h2
theorem OJ(s_:AU)(v_:Int)(h0:s_.length<1099511627776):Y.call 74 [bk 3 (AR (bc .i64) s_),bc .i64 v_] []=some (bp (s_.contains v_),[]):=NR s_ v_ (OI s_ v_ h0)
def Cm(l:Ac):Prop:=l.length<1099511627776∧ ∀x∈l,x.length<549755813888
instance (l:Ac):Decidable (Cm l):=by unfold Cm;infer_instance
theorem Cm.at{l:Ac}(h:Cm l)(i:Nat)(hi:i<l.length):l[i].length<549755813888:=h.2 _ (O6 hi)
theorem Cm.getD{l:Ac}(h:Cm l)(i:Nat):(l.getD i be).length<549755813888:=by
 by_cases hi:i<l.length
 ·rw [Ad _ _ hi];exact h.at i hi
 ·rw [Lh,jI (by omega)];decide
theorem ALM{a:Fv}{i:Nat}(h:i<a.length):(BH a i,Bj a i)=a[i]:=by
 unfold BH Bj;rw [Ad _ _ h]
def ak(a_Node a_Port:Int):Option (Int×Int):= some (a_Node,a_Port)
def k96:SC:= .seq (.ops [oX 1 (.box 111 (tK 0)) 0,oX 2 (.alloc 87) 0]) (.seq (.ops [oX 3 (.alloc 87) 0]) (.seq (.ops [oF 4 111 1 0,oL 5 3 4 3,oF 6 87 3 0,oS 3 6 5]) (.seq (.ops [oF 7 111 1 1,oL 8 3 7 3,oF 9 87 3 1,oS 3 9 8]) (.seq (.ops [oL 10 87 3 87,oS 87 2 10]) .ret))))
theorem ADd:Tryz.f96.body.map (BQ lends)=some k96:=by kernel_rfl
theorem AR5:BV Tryz.f96 1=true:=by kernel_rfl
theorem c96{a l:List D}{r:D×List D}(h:BU Y.env k96 (fin Ai l.length [ResultVar.cell 2 87] r) (entry a l))(ha:a.length=1):Y.call 96 a l=some r:=
 AY (Y:=Y) rfl Tryz.func96 (ha▸AR5) ADd h
theorem pV(a_Node a_Port:Int){r:Int×Int}(h:ak a_Node a_Port=some r):Y.call 96 [bw [bc .i64 a_Node,bc .i64 a_Port]] []=some (bw [bc .i64 r.1,bc .i64 r.2],[]):=by
 refine c96 ?_ rfl;unfold k96;unfold ak at h;cases h;simp only [↓AO,AP,↓reduceIte,bj,bh,bx]
def Jc(a:Fv)(out:Fv)(i:Int):Option ((Fv×Int)⊕(Fv)):= if i<(a.length:Int)then ck (0≤i∧i.toNat<a.length)<| (ak (BH a i.toNat) (Bj a i.toNat)).bind fun eP=> ck (0≤i∧i.toNat<out.length)<| some (bo ((out.set i.toNat (eP.1,eP.2)),bm.wrap (i+1))) else some (bl out)
def Qi(a:Fv)(v:Fv×Int):Option (Fv):=E9 (fun v=>Jc a v.1 v.2) v
def XD(a:Fv):Option (Fv):= ck (0≤(a.length:Int)∧(a.length:Int)<1099511627776)<| (Qi a ((ap a.length (0,0)),0)).bind fun AX=> some AX
def pW:SC:= .seq (.seq (.ops [oM 8 4 3,oM 9 0 78,oN 10 9 78,oB 11 .lss 3 (tK 8) (tK 10) 3 4]) (.cond (tK 11) .skip (.exit 0))) (.seq (.block 1 (.ops [oM 14 3 79,oM 15 4 3,oM 16 0 78,oM 17 4 3,oI 18 78 16 17,oL 19 111 18 111,oC 20 96 [(tK 19)] [111] 87,oI 21 79 14 15,oS 87 21 20])) (.ops [oM 12 4 3,oB 13 .add 3 (tK 12) (iK 1) 3 3,oA 4 13 3]))
def A4f:SC:= .loop pW
def k63:SC:= .seq (.ops [oX 2 Gt 79]) (.seq (.ops [oM 5 0 78,oN 6 5 78,oX 7 (.makeSlice 79 (tK 6) (tK 6)) 79,oA 3 7 79]) (.seq (.seq (.ops [oX 4 (.assign (iK 0)) 3]) (.block 0 A4f)) (.seq (.ops [oM 22 3 79,oA 2 22 79]) .ret)))
theorem ADe:Tryz.f63.body.map (BQ lends)=some k63:=by kernel_rfl
theorem AR7:BV Tryz.f63 1=true:=by kernel_rfl
theorem c63{a l:List D}{r:D×List D}(h:BU Y.env k63 (fin Ai l.length [bt 2] r) (entry a l))(ha:a.length=1):Y.call 63 a l=some r:=
 AY (Y:=Y) rfl Tryz.func63 (ha▸AR7) ADe h
def Jd(a:Fv)(out:Fv)(i:Int)(s:St):Prop:=s.v 0=bk 111 (Aj .i64 .i64 a)∧s.v 3=br 87 (Aj .i64 .i64 out)∧s.v 4=bc .i64 i
def Nq(a:Fv)(r:Fv)(ex:Ex)(s:St):Prop:=ex= .exit 0∧s.v 3=br 87 (Aj .i64 .i64 r)
theorem fG(a:Fv){v:Fv×Int}{s:St}{r:Fv}(h:Qi a v=some r)(hM:Jd a v.1 v.2 s):BU Y.env A4f (Nq a r) s:=by
 unfold Qi at h;refine Aw (c:=pW) (fun v=>Jc a v.1 v.2) (fun v s=>Jd a v.1 v.2 s) (Nq a) ?_ h hM;clear h hM s v r;intro v s o hM h;obtain⟨out,i⟩:=v;dsimp only at h hM;unfold Jc at h;unfold Jd at hM;obtain⟨m0,m1,m2⟩:=hM;unfold pW;rcases iS h with⟨e2,h⟩|⟨e2,h⟩
 ·obtain⟨e3,h⟩:=De h;obtain⟨eP,hl4,h⟩:=Ag h;have c4:=pV (BH a i.toNat) (Bj a i.toNat) hl4;obtain⟨e5,h⟩:=De h;cases h;simp only [↓AO,AP,↓reduceIte,bj,bh,m0,m1,m2,e2,e3.1,e3.2,c4,e5.2,Jd,D6]
 ·cases h;simp only [↓AO,AP,↓reduceIte,bj,bh,m0,m1,m2,e2,Jd,Nq,GH]
theorem kG(a:Fv){r:Fv}(h:XD a=some r):Y.call 63 [bk 111 (Aj .i64 .i64 a)] []=some (br 87 (Aj .i64 .i64 r),[]):=by
 refine c63 ?_ rfl;unfold k63;unfold XD at h;obtain⟨e1,h⟩:=De h;obtain⟨AX,hl3,h⟩:=Ag h;try dsimp only at h
 simp only [↓AO,AP,↓reduceIte,bj,bh,b5,e1.1,e1.2];refine Ak (fG a hl3 ?_) ?_
 ·simp only [BL,Cv,↓reduceIte,bj,bh,Jd]
 ·intro ex3 s3 hX3;unfold Nq at hX3;obtain⟨rfl,n3_0⟩:=hX3;cases h;simp only [↓AO,AP,↓reduceIte,bj,bh,n3_0]
theorem wI(a:Fv)(h:a.length<549755813888):XD a=some a:=by
 have key:=CO (fun v=>Jc a v.1 v.2) (fun i=>(a.take i++ap (a.length-i) (0,0),(i:Int))) a.length a ?_ ?_
 ·unfold XD Qi;rw [BC (by omega)]
  simp only [bD,PW,Nat.sub_zero,Et]at key;rw [key];rfl
 ·intro i hi;simp only [Jc,ak,Cg];rw [if_pos (BX hi),BC (by omega),C8,BC (by simp;omega),ALM hi,ae a i hi (0,0),Gf i (by omega)]
 ·simp only [Jc];rw [if_neg (Am _)];simp
theorem wJ(a:Fv)(h0:a.length<549755813888):Y.call 63 [bk 111 (Aj .i64 .i64 a)] []=some (br 87 (Aj .i64 .i64 a),[]):=kG a (wI a h0)
def Hl(a:Ac)(out:Ac)(i:Int):Option ((Ac×Int)⊕(Ac)):= if i<(a.length:Int)then ck (0≤i∧i.toNat<a.length)<| ck ((a.getD i.toNat be).length<549755813888)<| ck (0≤i∧i.toNat<out.length)<| some (bo ((out.set i.toNat (a.getD i.toNat be)),bm.wrap (i+1))) else some (bl out)
def Ou(a:Ac)(v:Ac×Int):Option (Ac):=E9 (fun v=>Hl a v.1 v.2) v
def Us(a:Ac):Option (Ac):= ck (0≤(a.length:Int)∧(a.length:Int)<1099511627776)<| (Ou a ((ap a.length ([]:Fv)),0)).bind fun AX=> some AX
def pX:SC:= .seq (.seq (.ops [oM 8 4 3,oM 9 0 25,oN 10 9 25,oB 11 .lss 3 (tK 8) (tK 10) 3 4]) (.cond (tK 11) .skip (.exit 0))) (.seq (.block 1 (.ops [oM 14 3 36,oM 15 4 3,oM 16 0 25,oM 17 4 3,oI 18 25 16 17,oL 19 78 18 78,oC 20 63 [(tK 19)] [78] 79,oI 21 36 14 15,oS 79 21 20])) (.ops [oM 12 4 3,oB 13 .add 3 (tK 12) (iK 1) 3 3,oA 4 13 3]))
def A4g:SC:= .loop pX
def k37:SC:= .seq (.ops [oX 2 Gt 36]) (.seq (.ops [oM 5 0 25,oN 6 5 25,oX 7 (.makeSlice 36 (tK 6) (tK 6)) 36,oA 3 7 36]) (.seq (.seq (.ops [oX 4 (.assign (iK 0)) 3]) (.block 0 A4g)) (.seq (.ops [oM 22 3 36,oA 2 22 36]) .ret)))
theorem ADf:Tryz.f37.body.map (BQ lends)=some k37:=by kernel_rfl
theorem AR9:BV Tryz.f37 1=true:=by kernel_rfl
theorem c37{a l:List D}{r:D×List D}(h:BU Y.env k37 (fin Ai l.length [bt 2] r) (entry a l))(ha:a.length=1):Y.call 37 a l=some r:=
 AY (Y:=Y) rfl Tryz.func37 (ha▸AR9) ADf h
def Hm(a:Ac)(out:Ac)(i:Int)(s:St):Prop:=s.v 0=bk 78 (AR (fun x=>bk 111 (Aj .i64 .i64 x)) a)∧s.v 3=br 79 (AR (fun x=>br 87 (Aj .i64 .i64 x)) out)∧s.v 4=bc .i64 i
def Mk(a:Ac)(r:Ac)(ex:Ex)(s:St):Prop:=ex= .exit 0∧s.v 3=br 79 (AR (fun x=>br 87 (Aj .i64 .i64 x)) r)
theorem Zl(a:Ac){v:Ac×Int}{s:St}{r:Ac}(h:Ou a v=some r)(hM:Hm a v.1 v.2 s):BU Y.env A4g (Mk a r) s:=by
 unfold Ou at h;refine Aw (c:=pX) (fun v=>Hl a v.1 v.2) (fun v s=>Hm a v.1 v.2 s) (Mk a) ?_ h hM;clear h hM s v r;intro v s o hM h;obtain⟨out,i⟩:=v;dsimp only at h hM;unfold Hl at h;unfold Hm at hM;obtain⟨m0,m1,m2⟩:=hM;unfold pX;rcases iS h with⟨e2,h⟩|⟨e2,h⟩
 ·obtain⟨e3,e4,h⟩:=EC h;have c5:=wJ (a.getD i.toNat be) e4;obtain⟨e6,h⟩:=De h;cases h;simp only [↓AO,AP,↓reduceIte,bj,bh,m0,m1,m2,e2,e3.1,e3.2,c5,e6.2,Hm,D6]
 ·cases h;simp only [↓AO,AP,↓reduceIte,bj,bh,m0,m1,m2,e2,Hm,Mk,GH]
theorem fH(a:Ac){r:Ac}(h:Us a=some r):Y.call 37 [bk 78 (AR (fun x=>bk 111 (Aj .i64 .i64 x)) a)] []=some (br 79 (AR (fun x=>br 87 (Aj .i64 .i64 x)) r),[]):=by
 refine c37 ?_ rfl;unfold k37;unfold Us at h;obtain⟨e1,h⟩:=De h;obtain⟨AX,hl3,h⟩:=Ag h;try dsimp only at h
 simp only [↓AO,AP,↓reduceIte,bj,bh,b5,e1.1,e1.2];refine Ak (Zl a hl3 ?_) ?_
 ·simp only [BL,Cv,↓reduceIte,bj,bh,Hm]<;>(repeat' apply A7)<;>first|rfl|exact⟨_,rfl⟩|exact⟨_,_,rfl⟩|simp [AR,Ay]
 ·intro ex3 s3 hX3;unfold Mk at hX3;obtain⟨rfl,n3_0⟩:=hX3;cases h;simp only [↓AO,AP,↓reduceIte,bj,bh,n3_0]
theorem pY(a:Ac)(h:Cm a):Us a=some a:=by
 have h1:=h.1;have key:=CO (fun v=>Hl a v.1 v.2) (fun i=>(a.take i++ap (a.length-i) [],(i:Int))) a.length a ?_ ?_
 ·unfold Us Ou;rw [BC (by omega)]
  simp only [bD,PW,Nat.sub_zero,Et]at key;rw [key];rfl
 ·intro i hi;simp only [Hl];rw [if_pos (BX hi),BC (Dl hi),BC (by rw [GI _ _ hi];exact h.at i hi),BC (Dl (by simp;omega)),GI _ _ hi,Cg,ae a i hi [],Gf i (by omega)]
 ·simp only [Hl];rw [if_neg (Am _)];simp
theorem pg(a:Ac)(h0:Cm a):Y.call 37 [bk 78 (AR (fun x=>bk 111 (Aj .i64 .i64 x)) a)] []=some (br 79 (AR (fun x=>br 87 (Aj .i64 .i64 x)) a),[]):=fH a (pY a h0)
def Qj(BA:Ac)(Bo BB:AU):Option (Ac×AU×AU):= ck (Cm BA)<| ck (Bo.length<1099511627776)<| ck (BB.length<1099511627776)<| some (BA,Bo,BB)
def k12:SC:= .seq (.ops [oX 1 (.box 28 (tK 0)) 0,oX 2 (.alloc 38) 0]) (.seq (.ops [oX 3 (.alloc 38) 0]) (.seq (.ops [oF 4 28 1 0,oL 5 25 4 25,oC 6 37 [(tK 5)] [25] 36,oF 7 38 3 0,oS 36 7 6]) (.seq (.ops [oF 8 28 1 1,oL 9 26 8 26,oC 10 38 [(tK 9)] [26] 26,oF 11 38 3 1,oS 26 11 10]) (.seq (.ops [oF 12 28 1 2,oL 13 26 12 26,oC 14 38 [(tK 13)] [26] 26,oF 15 38 3 2,oS 26 15 14]) (.seq (.ops [oL 16 38 3 38,oS 38 2 16]) .ret)))))
theorem ADg:Tryz.f12.body.map (BQ lends)=some k12:=by kernel_rfl
theorem ARB:BV Tryz.f12 1=true:=by kernel_rfl
theorem c12{a l:List D}{r:D×List D}(h:BU Y.env k12 (fin Ai l.length [ResultVar.cell 2 38] r) (entry a l))(ha:a.length=1):Y.call 12 a l=some r:=
 AY (Y:=Y) rfl Tryz.func12 (ha▸ARB) ADg h
theorem YO(BA:Ac)(Bo BB:AU){r:Ac×AU×AU}(h:Qj BA Bo BB=some r):Y.call 12 [bw [bk 78 (AR (fun x=>bk 111 (Aj .i64 .i64 x)) BA),bk 3 (AR (bc .i64) Bo),bk 3 (AR (bc .i64) BB)]] []=some (bw [br 79 (AR (fun x=>br 87 (Aj .i64 .i64 x)) r.1),br 3 (AR (bc .i64) r.2.1),br 3 (AR (bc .i64) r.2.2)],[]):=by
 refine c12 ?_ rfl;unfold k12;unfold Qj at h;obtain⟨e1,h⟩:=De h;have c2:=pg BA e1;obtain⟨e3,h⟩:=De h;have c4:=U4 Bo e3;obtain⟨e5,h⟩:=De h;have c6:=U4 BB e5;cases h;simp only [↓AO,AP,↓reduceIte,bj,bh,bx,c2,c4,c6]
theorem fI(a:Ac)(b c:AU)(h:Cm a)(hb:b.length<1099511627776)(hc:c.length<1099511627776):Qj a b c=some (a,b,c):=by
 unfold Qj;rw [BC h,BC hb,BC hc]
theorem Ho(BA:Ac)(Bo BB:AU)(h0:Cm BA)(h1:Bo.length<1099511627776)(h2:BB.length<1099511627776):Y.call 12 [bw [bk 78 (AR (fun x=>bk 111 (Aj .i64 .i64 x)) BA),bk 3 (AR (bc .i64) Bo),bk 3 (AR (bc .i64) BB)]] []=some (bw [br 79 (AR (fun x=>br 87 (Aj .i64 .i64 x)) BA),br 3 (AR (bc .i64) Bo),br 3 (AR (bc .i64) BB)],[]):=YO BA Bo BB (fI BA Bo BB h0 h1 h2)
def XE(a_Node a_Port b_Node b_Port:Int):Option (Bool):= if a_Node=b_Node then if a_Port=b_Port then some true else some false else some false
def ADh:SC:= .seq (.ops [oX 2 (.box 87 (tK 0)) 0,oX 3 (.box 87 (tK 1)) 0,oX 4 BR 4]) (.seq (.seq (.ops [oF 5 87 2 0,oL 6 3 5 3,oF 7 87 3 0,oL 8 3 7 3,oB 9 .neq 3 (tK 6) (tK 8) 3 4]) (.cond (tK 9) (.seq (.ops [oX 4 BR 4]) .ret) .skip)) (.seq (.seq (.ops [oF 10 87 2 1,oL 11 3 10 3,oF 12 87 3 1,oL 13 3 12 3,oB 14 .neq 3 (tK 11) (tK 13) 3 4]) (.cond (tK 14) (.seq (.ops [oX 4 BR 4]) .ret) .skip)) (.seq (.ops [oX 4 (.assign Ck) 4]) .ret)))
theorem A7S:Tryz.f108.body.map (BQ lends)=some ADh:=by kernel_rfl
theorem ALN:BV Tryz.f108 2=true:=by kernel_rfl
theorem ARC{a l:List D}{r:D×List D}(h:BU Y.env ADh (fin Ai l.length [bt 4] r) (entry a l))(ha:a.length=2):Y.call 108 a l=some r:=
 AY (Y:=Y) rfl Tryz.func108 (ha▸ALN) A7S h
theorem pq(a_Node a_Port b_Node b_Port:Int){r:Bool}(h:XE a_Node a_Port b_Node b_Port=some r):Y.call 108 [bw [bc .i64 a_Node,bc .i64 a_Port],bw [bc .i64 b_Node,bc .i64 b_Port]] []=some (bp r,[]):=by
 refine ARC ?_ rfl;unfold ADh;unfold XE at h;rcases iS h with⟨e1,h⟩|⟨e1,h⟩
 ·rcases iS h with⟨e2,h⟩|⟨e2,h⟩
  ·cases h;simp only [↓AO,AP,↓reduceIte,bj,bh,decide_eq_true e1,decide_eq_true e2]
  ·cases h;simp only [↓AO,AP,↓reduceIte,bj,bh,decide_eq_true e1,e2]
 ·cases h;simp only [↓AO,AP,↓reduceIte,bj,bh,e1]
def Je(a:Fv)(b:Fv)(i:Int):Option ((Int)⊕(Unit⊕Unit)):= if i<(a.length:Int)then ck (0≤i∧i.toNat<a.length)<| ck (0≤i∧i.toNat<b.length)<| (XE (BH a i.toNat) (Bj a i.toNat) (BH b i.toNat) (Bj b i.toNat)).bind fun zI=> if zI=true then some (bo (bm.wrap (i+1))) else some (bl (bo ())) else some (bl (bl ()))
def Qk(a:Fv)(b:Fv)(v:Int):Option (Unit⊕Unit):=E9 (fun v=>Je a b v) v
def XF(a:Fv)(b:Fv):Option (Bool):=
 if(a.length:Int)=(b.length:Int)then
  (Qk a b 0).bind fun AX=>
  match AX with
  | .inl q1000_=>
   some false
  | .inr q1000_=>
   some true
 else
  some false
abbrev Rj:List Nat:=[17,18,19,20,21,22,23,24,25,26]
def pu:SC:= .seq (.seq (.ops [oM 11 5 3,oM 12 0 79,oN 13 12 79,oB 14 .lss 3 (tK 11) (tK 13) 3 4]) (.cond (tK 14) .skip (.exit 0))) (.seq (.block 1 (.seq (.draws [(⟨[17,0,0],Rj,[17]⟩,oM 17 0 79),(⟨[18,5,5],Rj,[18]⟩,oM 18 5 3),(⟨[19,17,18,0,5],Rj,[19]⟩,oI 19 79 17 18),(⟨[20,19,0],Rj,[20]⟩,oL 20 87 19 87),(⟨[21,1,1],Rj,[21]⟩,oM 21 1 79),(⟨[22,5,5],Rj,[22]⟩,oM 22 5 3),(⟨[23,21,22,1,5],Rj,[23]⟩,oI 23 79 21 22),(⟨[24,23,1],Rj,[24]⟩,oL 24 87 23 87),(⟨[25,20,24,0,1],Rj,[25]⟩,oC 25 108 [(tK 20),(tK 24)] [87,87] 4),(⟨[26,25,25],Rj,[26]⟩,oX 26 (.unOp .not 4 (tK 25)) 4)]) (.cond (tK 26) (.seq (.ops [oX 4 BR 4]) .ret) .skip))) (.ops [oM 15 5 3,oB 16 .add 3 (tK 15) (iK 1) 3 3,oA 5 16 3]))
def A4i:SC:= .loop pu
def k75:SC:= .seq (.ops [oX 4 BR 4]) (.seq (.seq (.ops [oM 6 0 79,oN 7 6 79,oM 8 1 79,oN 9 8 79,oB 10 .neq 3 (tK 7) (tK 9) 3 4]) (.cond (tK 10) (.seq (.ops [oX 4 BR 4]) .ret) .skip)) (.seq (.seq (.ops [oX 5 (.assign (iK 0)) 3]) (.block 0 A4i)) (.seq (.ops [oX 4 (.assign Ck) 4]) .ret)))
theorem ADi:Tryz.f75.body.map (BQ lends)=some k75:=by kernel_rfl
theorem ARF:BV Tryz.f75 2=true:=by kernel_rfl
theorem c75{a l:List D}{r:D×List D}(h:BU Y.env k75 (fin Ai l.length [bt 4] r) (entry a l))(ha:a.length=2):Y.call 75 a l=some r:=
 AY (Y:=Y) rfl Tryz.func75 (ha▸ARF) ADi h
def Gm(a:Fv)(b:Fv)(i:Int)(s:St):Prop:=s.v 0=bk 87 (Aj .i64 .i64 a)∧s.v 1=bk 87 (Aj .i64 .i64 b)∧s.v 5=bc .i64 i
def Jf(a:Fv)(b:Fv)(r:Unit⊕Unit)(ex:Ex)(s:St):Prop:=match r with
 | .inl q=>ex= .ret∧s.v 4=bp false
 | .inr q=>ex= .exit 0
theorem fJ(a:Fv)(b:Fv){v:Int}{s:St}{r:Unit⊕Unit}(h:Qk a b v=some r)(hM:Gm a b v s):BU Y.env A4i (Jf a b r) s:=by
 unfold Qk at h;refine Aw (c:=pu) (fun v=>Je a b v) (fun v s=>Gm a b v s) (Jf a b) ?_ h hM;clear h hM s v r;intro i s o hM h;unfold Je at h;unfold Gm at hM;obtain⟨m0,m1,m2⟩:=hM;unfold pu;rcases iS h with⟨e2,h⟩|⟨e2,h⟩
 ·obtain⟨e3,e4,h⟩:=EC h;obtain⟨zI,hl5,h⟩:=Ag h;have c5:=pq (BH a i.toNat) (Bj a i.toNat) (BH b i.toNat) (Bj b i.toNat) hl5;rcases iS h with⟨e6,h⟩|⟨e6,h⟩
  ·cases h;simp only [↓AO,AP,↓reduceIte,bj,bh,m0,m1,m2,e2,e3.1,e3.2,e4.2,c5,e6,Gm,D6]
  ·have e6f:zI=false:=Es.mpr e6;cases h;simp only [↓AO,AP,↓reduceIte,bj,bh,m0,m1,m2,e2,e3.1,e3.2,e4.2,c5,e6f,Gm,Jf,OC]
 ·cases h;simp only [↓AO,AP,↓reduceIte,bj,bh,m0,m2,e2,Gm,Jf,GH]
theorem kH(a:Fv)(b:Fv){r:Bool}(h:XF a b=some r):Y.call 75 [bk 87 (Aj .i64 .i64 a),bk 87 (Aj .i64 .i64 b)] []=some (bp r,[]):=by
 refine c75 ?_ rfl;unfold k75;unfold XF at h;rcases iS h with⟨e1,h⟩|⟨e1,h⟩
 ·obtain⟨AX,hl3,h⟩:=Ag h;try dsimp only at h
  simp only [↓AO,AP,↓reduceIte,bj,bh,decide_eq_true e1];refine Ak (fJ a b hl3 ?_) ?_
  ·simp only [BL,Cv,↓reduceIte,bj,bh,Gm]
  ·intro ex3 s3 hX3;rcases AX with q1000_|q1000_
   ·unfold Jf at hX3;dsimp only at hX3 h;obtain⟨rfl,n3_0⟩:=hX3;cases h;simp only [↓AO,AP,↓reduceIte,n3_0]
   ·unfold Jf at hX3;dsimp only at hX3 h
    obtain rfl:=hX3
    cases h;simp only [↓AO,AP,↓reduceIte,bj,bh]
 ·cases h;simp only [↓AO,AP,↓reduceIte,bj,bh,e1]
theorem zJ(a b c d:Int):XE a b c d=some (decide ((a,b)=(c,d))):=by
 unfold XE;by_cases h1:a=c<;>by_cases h2:b=d<;>simp [h1,h2]
theorem wK(a b:Fv)(ha:a.length<549755813888):XF a b=some (decide (a=b)):=by
 unfold XF Qk;by_cases hl:a.length=b.length
 ·rw [if_pos (by omega)]
  have key:=Df (fun v=>Je a b v) (fun i=>(i:Int)) a.length (fun i=>decide (a.getD i be=b.getD i be)) (.inl ()) (.inr ()) ?_ ?_
  ·simp only [Et]at key;rw [key,U1 a b hl];by_cases he:a=b<;>simp [he]
  ·intro i hi;simp only [Je,Cg];rw [if_pos (BX hi),BC (by omega),BC (by omega),zJ,C8,Gf i (by omega)]
   rfl
  ·simp only [Je];rw [if_neg (Am _)]
 ·rw [if_neg (by omega)]
  have: ¬a=b:=fun e=>hl (by rw [e])
  simp [this]
theorem wL(a:Fv)(b:Fv)(h0:a.length<549755813888):Y.call 75 [bk 87 (Aj .i64 .i64 a),bk 87 (Aj .i64 .i64 b)] []=some (bp (decide (a=b)),[]):=kH a b (wK a b h0)
def Hq(a:Ac)(b:Ac)(i:Int):Option ((Int)⊕(Unit⊕Unit)):= if i<(a.length:Int)then ck (0≤i∧i.toNat<a.length)<| ck (0≤i∧i.toNat<b.length)<| ck ((a.getD i.toNat be).length<549755813888)<| if(decide ((a.getD i.toNat be)=(b.getD i.toNat be)))=true then some (bo (bm.wrap (i+1))) else some (bl (bo ())) else some (bl (bl ()))
def Ov(a:Ac)(b:Ac)(v:Int):Option (Unit⊕Unit):=E9 (fun v=>Hq a b v) v
def Ut(a:Ac)(b:Ac):Option (Bool):=
 if(a.length:Int)=(b.length:Int)then
  (Ov a b 0).bind fun AX=>
  match AX with
  | .inl q1000_=>
   some false
  | .inr q1000_=>
   some true
 else
  some false
def pz:SC:= .seq (.seq (.ops [oM 11 5 3,oM 12 0 36,oN 13 12 36,oB 14 .lss 3 (tK 11) (tK 13) 3 4]) (.cond (tK 14) .skip (.exit 0))) (.seq (.block 1 (.seq (.draws [(⟨[17,0,0],Rj,[17]⟩,oM 17 0 36),(⟨[18,5,5],Rj,[18]⟩,oM 18 5 3),(⟨[19,17,18,0,5],Rj,[19]⟩,oI 19 36 17 18),(⟨[20,19,0],Rj,[20]⟩,oL 20 79 19 79),(⟨[21,1,1],Rj,[21]⟩,oM 21 1 36),(⟨[22,5,5],Rj,[22]⟩,oM 22 5 3),(⟨[23,21,22,1,5],Rj,[23]⟩,oI 23 36 21 22),(⟨[24,23,1],Rj,[24]⟩,oL 24 79 23 79),(⟨[25,20,24,0,1],Rj,[25]⟩,oC 25 75 [(tK 20),(tK 24)] [79,79] 4),(⟨[26,25,25],Rj,[26]⟩,oX 26 (.unOp .not 4 (tK 25)) 4)]) (.cond (tK 26) (.seq (.ops [oX 4 BR 4]) .ret) .skip))) (.ops [oM 15 5 3,oB 16 .add 3 (tK 15) (iK 1) 3 3,oA 5 16 3]))
def A4j:SC:= .loop pz
def k43:SC:= .seq (.ops [oX 4 BR 4]) (.seq (.seq (.ops [oM 6 0 36,oN 7 6 36,oM 8 1 36,oN 9 8 36,oB 10 .neq 3 (tK 7) (tK 9) 3 4]) (.cond (tK 10) (.seq (.ops [oX 4 BR 4]) .ret) .skip)) (.seq (.seq (.ops [oX 5 (.assign (iK 0)) 3]) (.block 0 A4j)) (.seq (.ops [oX 4 (.assign Ck) 4]) .ret)))
theorem ADj:Tryz.f43.body.map (BQ lends)=some k43:=by kernel_rfl
theorem ARH:BV Tryz.f43 2=true:=by kernel_rfl
theorem c43{a l:List D}{r:D×List D}(h:BU Y.env k43 (fin Ai l.length [bt 4] r) (entry a l))(ha:a.length=2):Y.call 43 a l=some r:=
 AY (Y:=Y) rfl Tryz.func43 (ha▸ARH) ADj h
def FY(a:Ac)(b:Ac)(i:Int)(s:St):Prop:=s.v 0=bk 79 (AR (fun x=>bk 87 (Aj .i64 .i64 x)) a)∧s.v 1=bk 79 (AR (fun x=>bk 87 (Aj .i64 .i64 x)) b)∧s.v 5=bc .i64 i
def Hr(a:Ac)(b:Ac)(r:Unit⊕Unit)(ex:Ex)(s:St):Prop:=match r with
 | .inl q=>ex= .ret∧s.v 4=bp false
 | .inr q=>ex= .exit 0
theorem Zm(a:Ac)(b:Ac){v:Int}{s:St}{r:Unit⊕Unit}(h:Ov a b v=some r)(hM:FY a b v s):BU Y.env A4j (Hr a b r) s:=by
 unfold Ov at h;refine Aw (c:=pz) (fun v=>Hq a b v) (fun v s=>FY a b v s) (Hr a b) ?_ h hM;clear h hM s v r;intro i s o hM h;unfold Hq at h;unfold FY at hM;obtain⟨m0,m1,m2⟩:=hM;unfold pz;rcases iS h with⟨e2,h⟩|⟨e2,h⟩
 ·obtain⟨e3,e4,e5,h⟩:=Om h;have c6:=wL (a.getD i.toNat be) (b.getD i.toNat be) e5;rcases iS h with⟨e7,h⟩|⟨e7,h⟩
  ·cases h;simp only [↓AO,AP,↓reduceIte,bj,bh,m0,m1,m2,e2,e3.1,e3.2,e4.2,c6,e7,FY,D6]
  ·have e7f:(decide ((a.getD i.toNat be)=(b.getD i.toNat be)))=false:=Es.mpr e7;cases h;simp only [↓AO,AP,↓reduceIte,bj,bh,m0,m1,m2,e2,e3.1,e3.2,e4.2,c6,e7f,FY,Hr,OC]
 ·cases h;simp only [↓AO,AP,↓reduceIte,bj,bh,m0,m2,e2,FY,Hr,GH]
theorem fK(a:Ac)(b:Ac){r:Bool}(h:Ut a b=some r):Y.call 43 [bk 79 (AR (fun x=>bk 87 (Aj .i64 .i64 x)) a),bk 79 (AR (fun x=>bk 87 (Aj .i64 .i64 x)) b)] []=some (bp r,[]):=by
 refine c43 ?_ rfl;unfold k43;unfold Ut at h;rcases iS h with⟨e1,h⟩|⟨e1,h⟩
 ·obtain⟨AX,hl3,h⟩:=Ag h;try dsimp only at h
  simp only [↓AO,AP,↓reduceIte,bj,bh,decide_eq_true e1];refine Ak (Zm a b hl3 ?_) ?_
  ·simp only [BL,Cv,↓reduceIte,bj,bh,FY]
  ·intro ex3 s3 hX3;rcases AX with q1000_|q1000_
   ·unfold Hr at hX3;dsimp only at hX3 h;obtain⟨rfl,n3_0⟩:=hX3;cases h;simp only [↓AO,AP,↓reduceIte,n3_0]
   ·unfold Hr at hX3;dsimp only at hX3 h
    obtain rfl:=hX3
    cases h;simp only [↓AO,AP,↓reduceIte,bj,bh]
 ·cases h;simp only [↓AO,AP,↓reduceIte,bj,bh,e1]
theorem qA(a b:Ac)(ha:Cm a):Ut a b=some (decide (a=b)):=by
 have h1:=ha.1;unfold Ut Ov;by_cases hl:a.length=b.length
 ·rw [if_pos (by omega)]
  have key:=Df (fun v=>Hq a b v) (fun i=>(i:Int)) a.length (fun i=>decide (a.getD i be=b.getD i be)) (.inl ()) (.inr ()) ?_ ?_
  ·simp only [Et]at key;rw [key,U1 a b hl];by_cases he:a=b<;>simp [he]
  ·intro i hi;simp only [Hq];rw [if_pos (BX hi),BC (Dl hi),BC (Dl (by omega)),BC (by rw [GI _ _ hi];exact ha.at i hi),Cg,Gf i (by omega)]<;>simp only [decide_eq_true_eq]
  ·simp only [Hq];rw [if_neg (Am _)]
 ·rw [if_neg (by omega)]
  have: ¬a=b:=fun e=>hl (by rw [e])
  simp [this]
theorem qB(a:Ac)(b:Ac)(h0:Cm a):Y.call 43 [bk 79 (AR (fun x=>bk 87 (Aj .i64 .i64 x)) a),bk 79 (AR (fun x=>bk 87 (Aj .i64 .i64 x)) b)] []=some (bp (decide (a=b)),[]):=fK a b (qA a b h0)
def Ql(BA:Ac)(Bo BB:AU)(Q3:Ac)(UG KW:AU):Option (Bool):= ck (Cm BA)<| if(decide (BA=Q3))=true then ck (Bo.length<1099511627776)<| if(decide (Bo=UG))=true then ck (BB.length<1099511627776)<| if(decide (BB=KW))=true then some true else some false else some false else some false
def k17:SC:= .seq (.ops [oX 2 (.box 38 (tK 0)) 0,oX 3 (.box 38 (tK 1)) 0,oX 4 BR 4]) (.seq (.seq (.ops [oF 5 38 2 0,oL 6 36 5 36,oF 7 38 3 0,oL 8 36 7 36,oC 9 43 [(tK 6),(tK 8)] [36,36] 4,oX 10 (.unOp .not 4 (tK 9)) 4]) (.cond (tK 10) (.seq (.ops [oX 4 BR 4]) .ret) .skip)) (.seq (.seq (.ops [oF 11 38 2 1,oL 12 26 11 26,oF 13 38 3 1,oL 14 26 13 26,oC 15 26 [(tK 12),(tK 14)] [26,26] 4,oX 16 (.unOp .not 4 (tK 15)) 4]) (.cond (tK 16) (.seq (.ops [oX 4 BR 4]) .ret) .skip)) (.seq (.seq (.ops [oF 17 38 2 2,oL 18 26 17 26,oF 19 38 3 2,oL 20 26 19 26,oC 21 26 [(tK 18),(tK 20)] [26,26] 4,oX 22 (.unOp .not 4 (tK 21)) 4]) (.cond (tK 22) (.seq (.ops [oX 4 BR 4]) .ret) .skip)) (.seq (.ops [oX 4 (.assign Ck) 4]) .ret))))
theorem ADk:Tryz.f17.body.map (BQ lends)=some k17:=by kernel_rfl
theorem ARJ:BV Tryz.f17 2=true:=by kernel_rfl
theorem c17{a l:List D}{r:D×List D}(h:BU Y.env k17 (fin Ai l.length [bt 4] r) (entry a l))(ha:a.length=2):Y.call 17 a l=some r:=
 AY (Y:=Y) rfl Tryz.func17 (ha▸ARJ) ADk h
theorem YP(BA:Ac)(Bo BB:AU)(Q3:Ac)(UG KW:AU){r:Bool}(h:Ql BA Bo BB Q3 UG KW=some r):Y.call 17 [bw [bk 79 (AR (fun x=>bk 87 (Aj .i64 .i64 x)) BA),bk 3 (AR (bc .i64) Bo),bk 3 (AR (bc .i64) BB)],bw [bk 79 (AR (fun x=>bk 87 (Aj .i64 .i64 x)) Q3),bk 3 (AR (bc .i64) UG),bk 3 (AR (bc .i64) KW)]] []=some (bp r,[]):=by
 refine c17 ?_ rfl;unfold k17;unfold Ql at h;obtain⟨e1,h⟩:=De h;have c2:=qB BA Q3 e1;rcases iS h with⟨e3,h⟩|⟨e3,h⟩
 ·obtain⟨e4,h⟩:=De h;have c5:=U5 Bo UG e4;rcases iS h with⟨e6,h⟩|⟨e6,h⟩
  ·obtain⟨e7,h⟩:=De h;have c8:=U5 BB KW e7;rcases iS h with⟨e9,h⟩|⟨e9,h⟩
   ·cases h;simp only [↓AO,AP,↓reduceIte,bj,bh,c2,e3,c5,e6,c8,e9]
   ·have e9f:(decide (BB=KW))=false:=Es.mpr e9;cases h;simp only [↓AO,AP,↓reduceIte,bj,bh,c2,e3,c5,e6,c8,e9f]
  ·have e6f:(decide (Bo=UG))=false:=Es.mpr e6;cases h;simp only [↓AO,AP,↓reduceIte,bj,bh,c2,e3,c5,e6f]
 ·have e3f:(decide (BA=Q3))=false:=Es.mpr e3;cases h;simp only [↓AO,AP,↓reduceIte,bj,bh,c2,e3f]
def XG(a:Ac)(b c:AU)(a':Ac)(b' c':AU):Bool:=decide (a=a'∧b=b'∧c=c')
theorem zK(a:Ac)(b c:AU):XG a b c a b c=true:=by simp [XG]
theorem fM(a:Ac)(b c:AU)(a':Ac)(b' c':AU)(h:Cm a)(hb:b.length<1099511627776)(hc:c.length<1099511627776):Ql a b c a' b' c'=some (XG a b c a' b' c'):=by
 unfold Ql XG;rw [BC h,BC hb,BC hc];by_cases h1:a=a'<;>by_cases h2:b=b'<;>by_cases h3:c=c'<;>simp [h1,h2,h3]
theorem UH(BA:Ac)(Bo BB:AU)(Q3:Ac)(UG KW:AU)(h0:Cm BA)(h1:Bo.length<1099511627776)(h2:BB.length<1099511627776):Y.call 17 [bw [bk 79 (AR (fun x=>bk 87 (Aj .i64 .i64 x)) BA),bk 3 (AR (bc .i64) Bo),bk 3 (AR (bc .i64) BB)],bw [bk 79 (AR (fun x=>bk 87 (Aj .i64 .i64 x)) Q3),bk 3 (AR (bc .i64) UG),bk 3 (AR (bc .i64) KW)]] []=some (bp (XG BA Bo BB Q3 UG KW),[]):=YP BA Bo BB Q3 UG KW (fM BA Bo BB Q3 UG KW h0 h1 h2)
def XH(a:Fv)(left:Int):Option (Int):= if(bm.wrap (left-(a.length:Int)))<0 then some (-1) else some (bm.wrap (left-(a.length:Int)))
def k56:SC:= .seq (.ops [oX 4 (.assign (iK 0)) 3]) (.seq (.ops [oM 5 1 3,oM 6 0 78,oN 7 6 78,oB 8 .sub 3 (tK 5) (tK 7) 3 3,oA 1 8 3]) (.seq (.seq (.ops [oM 9 1 3,oB 10 .lss 3 (tK 9) (iK 0) 3 4]) (.cond (tK 10) (.seq (.ops [oX 4 RV 3]) .ret) .skip)) (.seq (.ops [oM 11 1 3,oA 4 11 3]) .ret)))
theorem ADl:Tryz.f56.body.map (BQ lends)=some k56:=by kernel_rfl
theorem ARL:BV Tryz.f56 2=true:=by kernel_rfl
theorem c56{a l:List D}{r:D×List D}(h:BU Y.env k56 (fin Ai l.length [bt 4] r) (entry a l))(ha:a.length=2):Y.call 56 a l=some r:=
 AY (Y:=Y) rfl Tryz.func56 (ha▸ARL) ADl h
theorem kI(a:Fv)(left:Int){r:Int}(h:XH a left=some r):Y.call 56 [bk 111 (Aj .i64 .i64 a),bc .i64 left] []=some (bc .i64 r,[]):=by
 refine c56 ?_ rfl;unfold k56;unfold XH at h;rcases iS h with⟨e1,h⟩|⟨e1,h⟩
 ·cases h;simp only [↓AO,AP,↓reduceIte,bj,bh,e1]
 ·cases h;simp only [↓AO,AP,↓reduceIte,bj,bh,e1]
theorem wM(a:Fv)(left:Int)(ha:a.length<9223372036854775808)(hl:0≤left∧left≤1048576):XH a left=some (Fj left a.length):=by
 unfold XH Fj;rw [Ib _ (by omega)]
 split<;>rfl
theorem wN(a:Fv)(left:Int)(h0:a.length<9223372036854775808)(h1:0≤left∧left≤1048576):Y.call 56 [bk 111 (Aj .i64 .i64 a),bc .i64 left] []=some (bc .i64 (Fj left a.length),[]):=kI a left (wM a left h0 h1)
def Ht(a:Ac)(left1 i:Int):Option ((Int×Int)⊕(Unit⊕Int)):= if i<(a.length:Int)then ck (0≤i∧i.toNat<a.length)<| ck ((a.getD i.toNat be).length<9223372036854775808)<| ck (0≤left1∧left1≤1048576)<| if(Fj left1 (a.getD i.toNat be).length)<0 then some (bl (bo ())) else some (bo ((Fj left1 (a.getD i.toNat be).length),bm.wrap (i+1))) else some (bl (bl left1))
def Iw(a:Ac)(v:Int×Int):Option (Unit⊕Int):=E9 (fun v=>Ht a v.1 v.2) v
def Uu(a:Ac)(left:Int):Option (Int):=
 if(bm.wrap (left-(a.length:Int)))<0 then
  some (-1)
 else
  (Iw a (bm.wrap (left-(a.length:Int)),0)).bind fun AX=>
  match AX with
  | .inl q1000_=>
   some (-1)
  | .inr q1000_=>
   some q1000_
def qC:SC:= .seq (.seq (.ops [oM 12 5 3,oM 13 0 25,oN 14 13 25,oB 15 .lss 3 (tK 12) (tK 14) 3 4]) (.cond (tK 15) .skip (.exit 0))) (.seq (.block 1 (.seq (.ops [oM 18 0 25,oM 19 5 3,oI 20 25 18 19,oL 21 78 20 78,oM 22 1 3,oC 23 56 [(tK 21),(tK 22)] [78,3] 3,oA 1 23 3]) (.seq (.ops [oM 24 1 3,oB 25 .lss 3 (tK 24) (iK 0) 3 4]) (.cond (tK 25) (.seq (.ops [oX 4 RV 3]) .ret) .skip)))) (.ops [oM 16 5 3,oB 17 .add 3 (tK 16) (iK 1) 3 3,oA 5 17 3]))
def A4k:SC:= .loop qC
def k31:SC:= .seq (.ops [oX 4 (.assign (iK 0)) 3]) (.seq (.ops [oM 6 1 3,oM 7 0 25,oN 8 7 25,oB 9 .sub 3 (tK 6) (tK 8) 3 3,oA 1 9 3]) (.seq (.seq (.ops [oM 10 1 3,oB 11 .lss 3 (tK 10) (iK 0) 3 4]) (.cond (tK 11) (.seq (.ops [oX 4 RV 3]) .ret) .skip)) (.seq (.seq (.ops [oX 5 (.assign (iK 0)) 3]) (.block 0 A4k)) (.seq (.ops [oM 26 1 3,oA 4 26 3]) .ret))))
theorem ADm:Tryz.f31.body.map (BQ lends)=some k31:=by kernel_rfl
theorem ARO:BV Tryz.f31 2=true:=by kernel_rfl
theorem c31{a l:List D}{r:D×List D}(h:BU Y.env k31 (fin Ai l.length [bt 4] r) (entry a l))(ha:a.length=2):Y.call 31 a l=some r:=
 AY (Y:=Y) rfl Tryz.func31 (ha▸ARO) ADm h
def FZ(a:Ac)(left1 i:Int)(s:St):Prop:=s.v 0=bk 78 (AR (fun x=>bk 111 (Aj .i64 .i64 x)) a)∧s.v 1=bc .i64 left1∧s.v 5=bc .i64 i
def Hu(a:Ac)(r:Unit⊕Int)(ex:Ex)(s:St):Prop:=match r with
 | .inl q=>ex= .ret∧s.v 4=bc .i64 (-1)
 | .inr q=>ex= .exit 0∧s.v 1=bc .i64 q
theorem Zn(a:Ac){v:Int×Int}{s:St}{r:Unit⊕Int}(h:Iw a v=some r)(hM:FZ a v.1 v.2 s):BU Y.env A4k (Hu a r) s:=by
 unfold Iw at h;refine Aw (c:=qC) (fun v=>Ht a v.1 v.2) (fun v s=>FZ a v.1 v.2 s) (Hu a) ?_ h hM;clear h hM s v r;intro v s o hM h;obtain⟨left1,i⟩:=v;dsimp only at h hM;unfold Ht at h;unfold FZ at hM;obtain⟨m0,m1,m2⟩:=hM;unfold qC;rcases iS h with⟨e2,h⟩|⟨e2,h⟩
 ·obtain⟨e3,e4,e5,h⟩:=Om h;have c6:=wN (a.getD i.toNat be) left1 e4 e5;rcases iS h with⟨e7,h⟩|⟨e7,h⟩
  ·cases h;simp only [↓AO,AP,↓reduceIte,bj,bh,m0,m1,m2,e2,e3.1,e3.2,c6,e7,FZ,Hu,OC]
  ·cases h;simp only [↓AO,AP,↓reduceIte,bj,bh,m0,m1,m2,e2,e3.1,e3.2,c6,e7,FZ,D6]
 ·cases h;simp only [↓AO,AP,↓reduceIte,bj,bh,m0,m1,m2,e2,FZ,Hu,GH]
theorem fO(a:Ac)(left:Int){r:Int}(h:Uu a left=some r):Y.call 31 [bk 78 (AR (fun x=>bk 111 (Aj .i64 .i64 x)) a),bc .i64 left] []=some (bc .i64 r,[]):=by
 refine c31 ?_ rfl;unfold k31;unfold Uu at h;rcases iS h with⟨e1,h⟩|⟨e1,h⟩
 ·cases h;simp only [↓AO,AP,↓reduceIte,bj,bh,e1]
 ·obtain⟨AX,hl3,h⟩:=Ag h;try dsimp only at h
  simp only [↓AO,AP,↓reduceIte,bj,bh,e1];refine Ak (Zn a hl3 ?_) ?_
  ·simp only [BL,Cv,↓reduceIte,bj,bh,FZ]
  ·intro ex3 s3 hX3;rcases AX with q1000_|q1000_
   ·unfold Hu at hX3;dsimp only at hX3 h;obtain⟨rfl,n3_0⟩:=hX3;cases h;simp only [↓AO,AP,↓reduceIte,n3_0]
   ·unfold Hu at hX3;dsimp only at hX3 h;obtain⟨rfl,n3_0⟩:=hX3;cases h;simp only [↓AO,AP,↓reduceIte,bj,bh,n3_0]
def fE(l:Ac):AV:=l.map fun x=>x.map Prod.fst
theorem Zo(a:Ac)(ha:a.length<4611686018427387904)(hx: ∀x∈a,x.length<9223372036854775808): ∀(n i:Nat) (left:Int),n=a.length-i→i≤a.length→0≤left∧left≤1048576→
  Iw a (left,(i:Int))=some (if szL left (fE (a.drop i))= -1 then .inl ()else .inr (szL left (fE (a.drop i)))):=by
 intro n
 induction n with
 |zero=>
  intro i left hn hi hl;have e:i=a.length:=by omega
  subst e;unfold Iw;rw [D5 (r:=bl left)]
  ·rw [List.drop_length,show fE []=[]from rfl];unfold szL;rw [if_neg (by omega)]
  ·simp only [Ht];rw [if_neg (Am _)]
 |succ n ih=>
  intro i left hn hi hl;have hlt:i<a.length:=by omega
  have hm:a[i]∈a:=O6 hlt;have hxm:=hx _ hm
  have step:Ht a left i=if Fj left a[i].length<0 then some (bl (bo ()))else some (bo (Fj left a[i].length,((i+1:Nat):Int))):=by
   unfold Ht;rw [if_pos (BX hlt),BC (Dl hlt),BC (by rw [GI _ _ hlt];exact hxm),BC hl,GI _ _ hlt,Gf i (by omega)]
  rw [ZN hlt,show fE (a[i]::a.drop (i+1))=a[i].map Prod.fst::fE (a.drop (i+1))from rfl];unfold szL;rw [Qz];by_cases hq:left-(a[i].length:Int)<0
  ·rw [if_pos hq];unfold Iw;rw [D5 (r:=bo ())]
   ·rfl
   ·rw [step];unfold Fj;rw [if_pos hq];rfl
  ·rw [if_neg hq];have e2:Fj left a[i].length=left-a[i].length:=by unfold Fj;rw [if_neg hq]
   have:=ih (i+1) (left-a[i].length) (by omega) (by omega) (by omega)
   unfold Iw at this ⊢;rw [KC (s':=(left-(a[i].length:Int),((i+1:Nat):Int))),this]
   ·rw [step,e2,if_neg hq]
def VT(l:Ac):Prop:=l.length<9223372036854775808∧ ∀x∈l,x.length<9223372036854775808
instance (l:Ac):Decidable (VT l):=by unfold VT;infer_instance
theorem qD(a:Ac)(left:Int)(hw:VT a)(hl:0≤left∧left≤1048576):Uu a left=some (Fj left (a.length+Bw (fE a))):=by
 have ht:=CE (fE a);have ha:=hw.1;unfold Uu;rw [Ib _ (by omega)]
 by_cases hq:left-(a.length:Int)<0
 ·rw [if_pos hq];unfold Fj;rw [if_pos (by omega)]
 ·rw [if_neg hq];have h0:=Zo a (by omega) hw.2 a.length 0 (left-a.length) (by omega) (by omega) (by omega)
  simp only [Et,WK]at h0;rw [h0,C8,A4H _ _ (by omega)]
  have e:Fj (left-a.length) (Bw (fE a))=Fj left (a.length+Bw (fE a)):=by unfold Fj;rw [show left- ↑a.length-Bw (fE a)=left-(↑a.length+Bw (fE a)) by omega]
  rw [e];by_cases h1:Fj left (a.length+Bw (fE a))= -1
  ·rw [if_pos h1,h1]
  ·rw [if_neg h1]
theorem qE(a:Ac)(left:Int)(h0:VT a)(h1:0≤left∧left≤1048576):Y.call 31 [bk 78 (AR (fun x=>bk 111 (Aj .i64 .i64 x)) a),bc .i64 left] []=some (bc .i64 (Fj left (a.length+Bw (fE a))),[]):=fO a left (qD a left h0 h1)
def Qm(BA:Ac)(Bo BB:AU)(left:Int):Option (Int):= ck (VT BA)<| ck (0≤left∧left≤1048576)<| if(Fj left (BA.length+Bw (fE BA)))<0 then some (-1) else ck (Bo.length<9223372036854775808)<| ck (0≤(Fj left (BA.length+Bw (fE BA)))∧(Fj left (BA.length+Bw (fE BA)))≤1048576)<| if(Fj (Fj left (BA.length+Bw (fE BA))) Bo.length)<0 then some (-1) else ck (BB.length<9223372036854775808)<| ck (0≤(Fj (Fj left (BA.length+Bw (fE BA))) Bo.length)∧(Fj (Fj left (BA.length+Bw (fE BA))) Bo.length)≤1048576)<| if(Fj (Fj (Fj left (BA.length+Bw (fE BA))) Bo.length) BB.length)<0 then some (-1) else some (Fj (Fj (Fj left (BA.length+Bw (fE BA))) Bo.length) BB.length)
def k8:SC:= .seq (.ops [oX 2 (.box 28 (tK 0)) 0,oX 4 (.assign (iK 0)) 3]) (.seq (.ops [oF 5 28 2 0,oL 6 25 5 25,oM 7 1 3,oC 8 31 [(tK 6),(tK 7)] [25,3] 3,oA 1 8 3]) (.seq (.seq (.ops [oM 9 1 3,oB 10 .lss 3 (tK 9) (iK 0) 3 4]) (.cond (tK 10) (.seq (.ops [oX 4 RV 3]) .ret) .skip)) (.seq (.ops [oF 11 28 2 1,oL 12 26 11 26,oM 13 1 3,oC 14 32 [(tK 12),(tK 13)] [26,3] 3,oA 1 14 3]) (.seq (.seq (.ops [oM 15 1 3,oB 16 .lss 3 (tK 15) (iK 0) 3 4]) (.cond (tK 16) (.seq (.ops [oX 4 RV 3]) .ret) .skip)) (.seq (.ops [oF 17 28 2 2,oL 18 26 17 26,oM 19 1 3,oC 20 32 [(tK 18),(tK 19)] [26,3] 3,oA 1 20 3]) (.seq (.seq (.ops [oM 21 1 3,oB 22 .lss 3 (tK 21) (iK 0) 3 4]) (.cond (tK 22) (.seq (.ops [oX 4 RV 3]) .ret) .skip)) (.seq (.ops [oM 23 1 3,oA 4 23 3]) .ret)))))))
theorem ALO:Tryz.f8.body.map (BQ lends)=some k8:=by kernel_rfl
theorem ok8:BV Tryz.f8 2=true:=by kernel_rfl
theorem c8{a l:List D}{r:D×List D}(h:BU Y.env k8 (fin Ai l.length [bt 4] r) (entry a l))(ha:a.length=2):Y.call 8 a l=some r:=
 AY (Y:=Y) rfl Tryz.func8 (ha▸ok8) ALO h
theorem YQ(BA:Ac)(Bo BB:AU)(left:Int){r:Int}(h:Qm BA Bo BB left=some r):Y.call 8 [bw [bk 78 (AR (fun x=>bk 111 (Aj .i64 .i64 x)) BA),bk 3 (AR (bc .i64) Bo),bk 3 (AR (bc .i64) BB)],bc .i64 left] []=some (bc .i64 r,[]):=by
 refine c8 ?_ rfl;unfold k8;unfold Qm at h;obtain⟨e1,e2,h⟩:=EC h;have c3:=qE BA left e1 e2;rcases iS h with⟨e4,h⟩|⟨e4,h⟩
 ·cases h;simp only [↓AO,AP,↓reduceIte,bj,bh,c3,e4]
 ·obtain⟨e5,e6,h⟩:=EC h;have c7:=U6 Bo (Fj left (BA.length+Bw (fE BA))) e5 e6;rcases iS h with⟨e8,h⟩|⟨e8,h⟩
  ·cases h;simp only [↓AO,AP,↓reduceIte,bj,bh,c3,e4,c7,e8]
  ·obtain⟨e9,e10,h⟩:=EC h;have vz:=U6 BB (Fj (Fj left (BA.length+Bw (fE BA))) Bo.length) e9 e10;rcases iS h with⟨e12,h⟩|⟨e12,h⟩
   ·cases h;simp only [↓AO,AP,↓reduceIte,bj,bh,c3,e4,c7,e8,vz,e12]
   ·cases h;simp only [↓AO,AP,↓reduceIte,bj,bh,c3,e4,c7,e8,vz,e12]
def szW(left:Int)(a:Ac)(b c:AU):Int:=
 if Fj left (a.length+Bw (fE a))<0 then-1 else if Fj (Fj left (a.length+Bw (fE a))) b.length<0 then-1 else Fj (Fj (Fj left (a.length+Bw (fE a))) b.length) c.length
theorem fP(a:Ac)(b c:AU)(left:Int)(ha:VT a)(hb:b.length<9223372036854775808)(hc:c.length<9223372036854775808)(hl:0≤left∧left≤1048576):Qm a b c left=some (szW left a b c):=by
 have ht:=CE (fE a);unfold Qm szW;rw [BC ha,BC hl];by_cases h1:Fj left (a.length+Bw (fE a))<0
 ·rw [if_pos h1,if_pos h1]
 ·rw [if_neg h1,if_neg h1]
  have b1:0≤Fj left (a.length+Bw (fE a))∧Fj left (a.length+Bw (fE a))≤1048576:=by
   rcases JZ left (a.length+Bw (fE a))with c|⟨c,c'⟩<;>omega
  rw [BC hb,BC b1];by_cases h2:Fj (Fj left (a.length+Bw (fE a))) b.length<0
  ·rw [if_pos h2,if_pos h2]
  ·rw [if_neg h2,if_neg h2]
   have b2:0≤Fj (Fj left (a.length+Bw (fE a))) b.length∧Fj (Fj left (a.length+Bw (fE a))) b.length≤1048576:=by
    rcases JZ (Fj left (a.length+Bw (fE a))) b.length with c|⟨c,c'⟩<;>omega
   rw [BC hc,BC b2];by_cases h3:Fj (Fj (Fj left (a.length+Bw (fE a))) b.length) c.length<0
   ·rw [if_pos h3];rcases JZ (Fj (Fj left (a.length+Bw (fE a))) b.length) c.length with d|⟨d,d'⟩
    ·rw [d]
    ·omega
   ·rw [if_neg h3]
theorem fQ(BA:Ac)(Bo BB:AU)(left:Int)(h0:VT BA)(h1:Bo.length<9223372036854775808)(h2:BB.length<9223372036854775808)(h3:0≤left∧left≤1048576):Y.call 8 [bw [bk 78 (AR (fun x=>bk 111 (Aj .i64 .i64 x)) BA),bk 3 (AR (bc .i64) Bo),bk 3 (AR (bc .i64) BB)],bc .i64 left] []=some (bc .i64 (szW left BA Bo BB),[]):=YQ BA Bo BB left (fP BA Bo BB left h0 h1 h2 h3)
theorem A7U{a:Ac}{b c:AU}{left:Int}(hl:left≤1048576)(h: ¬szW left a b c<0):a.length+Bw (fE a)+b.length+c.length≤1048576∧Cm a∧szW left a b c≤left:=by
 have ht:=CE (fE a)
 have key:(a.length:Int)+Bw (fE a)+b.length+c.length≤1048576∧szW left a b c≤left:=by
  unfold szW at h ⊢;rcases JZ left (a.length+Bw (fE a))with d|⟨d,d'⟩
  ·rw [d]at h;simp at h
  ·rw [d,if_neg (by omega)]at h
   rw [d,if_neg (by omega)]
   rcases JZ (left-(a.length+Bw (fE a))) b.length with e|⟨e,e'⟩
   ·rw [e]at h;simp at h
   ·rw [e,if_neg (by omega)]at h
    rw [e,if_neg (by omega)]
    rcases JZ (left-(a.length+Bw (fE a))-b.length) c.length with g|⟨g,g'⟩
    ·rw [g]at h;simp at h
    ·rw [g];omega
 refine⟨key.1,⟨by omega,fun x hx=> ?_⟩,key.2⟩
 have:x.map Prod.fst∈fE a:=MO.2 ⟨x,hx,rfl⟩
 have:=A0K this
 rw [Qz]at this;omega
theorem A4l{l:Ac}(h:yo l):VT l:=⟨xM h.1 (by decide),fun x hx=>xM (h.2 x hx).1 (by decide)⟩
end Go.Proofs.YtiehjihckndgkaaGreat
end
