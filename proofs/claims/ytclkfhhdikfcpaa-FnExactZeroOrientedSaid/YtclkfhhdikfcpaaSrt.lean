/- Functions of the program as plain functions, and what they compute. Conditions: those in each lemma. -/
import Derived.Test.YtclkfhhdikfcpaaL6
import Derived.Test.YtclkfhhdikfcpaaDt
open Dv.D renaming int → bh,sl → ca,bool → cf,own → cg,agg → cj
open Nat renaming reduceEqDiff → bk,reduceLT → bl,reduceLeDiff → bm,reduceAdd → bo,reduceMul → bp,reduceMod → br,reduceDiv → bt,reducePow → bw,reduceSub → bx,reduceBEq → bO
open Int renaming reduceLE → b3,reduceLT → b4,reduceEq → b5,reduceSub → b6,reduceAdd → b7,reduceToNat → b8,reduceNeg → b9
open Inhabited renaming default → bj
open Go.IntKind renaming i64 → cb
open Sum renaming inr → cc,inl → cd
open Go.ResultVar renaming tmp → ci
open List renaming replicate → ao,range → an,set_append_right → cm,set_cons_zero → co
noncomputable section
namespace Go.Proofs.Ytclkfhhdikfcpaa
open Go Dv
set_option linter.unusedSimpArgs false
set_option linter.unusedVariables false
set_option maxRecDepth 100000
set_option maxHeartbeats 4000000
def BR(l:AX):Prop:=l.length<1099511627776∧ ∀x∈l,x.length<1099511627776
theorem BR.nil:BR []:=⟨by decide,fun _ h=>by cases h⟩
theorem BR.at{l:AX}(h:BR l)(i:Nat)(hi:i<l.length):l[i].length<1099511627776:=h.2 _ (OX hi)
instance (l:AX):Decidable (BR l):=by unfold BR;infer_instance
theorem fO{α:Type}[Inhabited α](xs:List α)(i:Nat)(h:i<xs.length)(z:α):(xs.take i++ao (xs.length-i) z).set i xs[i]=xs.take (i+1)++ao (xs.length-(i+1)) z:=by
 have e:xs.length-i=(xs.length-(i+1))+1:=by omega
 rw [e,gT,cm _ _ (by simp;omega),oO h]
 have:i-(xs.take i).length=0:=by simp;omega
 rw [this,co,QY];rfl
def Gr(a:AU)(out:AU)(i:Int):Option ((AU×Int)⊕(AU)):= if i<(a.length:Int)then ck (0≤i∧i.toNat<a.length)<| ck (0≤i∧i.toNat<out.length)<| some (cd ((out.set i.toNat (a.getD i.toNat bj)),cb.wrap (i+1))) else some (cc out)
def LF(a:AU)(v:AU×Int):Option (AU):=JZ (fun v=>Gr a v.1 v.2) v
def Q9(a:AU):Option (AU):= ck (0≤(a.length:Int)∧(a.length:Int)<1099511627776)<| (LF a ((ao a.length 0),0)).bind fun AV=> some AV
def Y1:SC:= .seq (.seq (.ops [oM 8 4 3,oM 9 0 26,oN 10 9 26,oB 11 .lss 3 (tK 8) (tK 10) 3 4]) (.cond (tK 11) .skip (.exit 0))) (.seq (.block 1 (.ops [oM 14 3 26,oM 15 4 3,oM 16 0 26,oM 17 4 3,oI 18 26 16 17,oL 19 3 18 3,oI 20 26 14 15,oS 3 20 19])) (.ops [oM 12 4 3,oB 13 .add 3 (tK 12) (iK 1) 3 3,oA 4 13 3]))
def mZ:SC:= .loop Y1
def k66:SC:= .seq (.ops [oX 2 Iy 26]) (.seq (.ops [oM 5 0 26,oN 6 5 26,oX 7 (.makeSlice 26 (tK 6) (tK 6)) 26,oA 3 7 26]) (.seq (.seq (.ops [oX 4 (.assign (iK 0)) 3]) (.block 0 mZ)) (.seq (.ops [oM 21 3 26,oA 2 21 26]) .ret)))
theorem A1A:Try.f66.body.map (Bt lends)=some k66:=by kernel_rfl
theorem ACs:CW Try.f66 1=true:=by kernel_rfl
theorem c66{a l:List D}{r:D×List D}(h:CU Y.env k66 (Gq AZ l.length [ci 2] r) (entry a l))(ha:a.length=1):Y.call 66 a l=some r:=
 AY (Y:=Y) rfl Try.func66 (ha▸ACs) A1A h
def Gs(a:AU)(out:AU)(i:Int)(s:St):Prop:=s.v 0=ca 3 (AP (bh .i64) a)∧s.v 3=cg 3 (AP (bh .i64) out)∧s.v 4=bh .i64 i
def IM(a:AU)(r:AU)(ex:Ex)(s:St):Prop:=ex= .exit 0∧s.v 3=cg 3 (AP (bh .i64) r)
theorem UV(a:AU){v:AU×Int}{s:St}{r:AU}(h:LF a v=some r)(hM:Gs a v.1 v.2 s):CU Y.env mZ (IM a r) s:=by
 unfold LF at h;refine CF (c:=Y1) (fun v=>Gr a v.1 v.2) (fun v s=>Gs a v.1 v.2 s) (IM a) ?_ h hM;clear h hM s v r;intro v s o hM h;obtain⟨out,i⟩:=v;dsimp only at h hM;unfold Gr at h;unfold Gs at hM;obtain⟨m0,m1,m2⟩:=hM;unfold Y1;by_cases e2:i<(a.length:Int)
 ·rw [if_pos e2]at h;obtain⟨e3,h⟩:=Cb h;obtain⟨e4,h⟩:=Cb h
  obtain rfl:=Option.some.inj h
  simp (maxDischargeDepth:=9) only [↓AQ,AR,Aj,↓reduceIte,bk,bl,bm,bo,bp,br,bt,bw,bx,bO,b3,b4,b5,b6,b7,b8,b9,m0,m1,m2,e2,e3.1,e3.2,e4.1,e4.2,Gs,IM,Cx,Cy,Cz]<;>(repeat' apply A7)<;>first|rfl|exact⟨_,rfl⟩|exact⟨_,_,rfl⟩|simp [AP,AC]
 ·rw [if_neg e2]at h
  obtain rfl:=Option.some.inj h
  simp (maxDischargeDepth:=9) only [↓AQ,AR,Aj,↓reduceIte,bk,bl,bm,bo,bp,br,bt,bw,bx,bO,b3,b4,b5,b6,b7,b8,b9,m0,m1,m2,e2,Gs,IM,Cx,Cy,Cz]<;>(repeat' apply A7)<;>first|rfl|exact⟨_,rfl⟩|exact⟨_,_,rfl⟩|simp [AP,AC]
theorem Vr(a:AU){r:AU}(h:Q9 a=some r):Y.call 66 [ca 3 (AP (bh .i64) a)] []=some (cg 3 (AP (bh .i64) r),[]):=by
 refine c66 ?_ rfl;unfold k66;unfold Q9 at h;obtain⟨e1,h⟩:=Cb h;obtain⟨AV,hl3,h⟩:=Ao h;try dsimp only at h
 simp (maxDischargeDepth:=9) only [↓AQ,AR,Aj,↓reduceIte,bk,bl,bm,bo,bp,br,bt,bw,bx,bO,b3,b4,b5,b6,b7,b8,b9,e1.1,e1.2];refine Bc (UV a hl3 ?_) ?_
 ·simp (maxDischargeDepth:=9) only [↓AQ,AR,Aj,↓reduceIte,bk,bl,bm,bo,bp,br,bt,bw,bx,bO,b3,b4,b5,b6,b7,b8,b9,e1.1,e1.2,Gs]<;>(repeat' apply A7)<;>first|rfl|exact⟨_,rfl⟩|exact⟨_,_,rfl⟩|simp [AP,AC]
 ·intro ex3 s3 hX3;unfold IM at hX3;obtain⟨rfl,n3_0⟩:=hX3
  obtain rfl:=Option.some.inj h
  simp (maxDischargeDepth:=9) only [↓AQ,AR,Aj,↓reduceIte,bk,bl,bm,bo,bp,br,bt,bw,bx,bO,b3,b4,b5,b6,b7,b8,b9,e1.1,e1.2,n3_0]<;>(repeat' apply A7)<;>first|rfl|exact⟨_,rfl⟩|exact⟨_,_,rfl⟩|simp [AP,AC]
theorem aG(a:AU)(h:a.length<1099511627776):Q9 a=some a:=by
 have key:=Fa (fun v=>Gr a v.1 v.2) (fun i=>(a.take i++ao (a.length-i) 0,(i:Int))) a.length a ?_ ?_
 ·unfold Q9 LF;rw [Ce (by omega)]
  simp only [List.take_zero,Je,Nat.sub_zero,Ie]at key;rw [key];rfl
 ·intro i hi;simp only [Gr];rw [if_pos (EP hi),Ce (Ea hi),Ce (Ea (by simp;omega)),JD _ _ hi,ML,fO a i hi 0,Md i (by omega)]
 ·simp only [Gr];rw [if_neg (Bj _)];simp
theorem aH(a:AU)(h0:a.length<1099511627776):Y.call 66 [ca 3 (AP (bh .i64) a)] []=some (cg 3 (AP (bh .i64) a),[]):=Vr a (aG a h0)
def Fh(a:AX)(out:AX)(i:Int):Option ((AX×Int)⊕(AX)):= if i<(a.length:Int)then ck (0≤i∧i.toNat<a.length)<| ck ((a.getD i.toNat bj).length<1099511627776)<| ck (0≤i∧i.toNat<out.length)<| some (cd ((out.set i.toNat (a.getD i.toNat bj)),cb.wrap (i+1))) else some (cc out)
def KN(a:AX)(v:AX×Int):Option (AX):=JZ (fun v=>Fh a v.1 v.2) v
def OL(a:AX):Option (AX):= ck (0≤(a.length:Int)∧(a.length:Int)<1099511627776)<| (KN a ((ao a.length ([]:AU)),0)).bind fun AV=> some AV
def Y2:SC:= .seq (.seq (.ops [oM 8 4 3,oM 9 0 22,oN 10 9 22,oB 11 .lss 3 (tK 8) (tK 10) 3 4]) (.cond (tK 11) .skip (.exit 0))) (.seq (.block 1 (.ops [oM 14 3 22,oM 15 4 3,oM 16 0 22,oM 17 4 3,oI 18 22 16 17,oL 19 26 18 26,oC 20 66 [(tK 19)] [26] 26,oI 21 22 14 15,oS 26 21 20])) (.ops [oM 12 4 3,oB 13 .add 3 (tK 12) (iK 1) 3 3,oA 4 13 3]))
def ma:SC:= .loop Y2
def k45:SC:= .seq (.ops [oX 2 Iy 22]) (.seq (.ops [oM 5 0 22,oN 6 5 22,oX 7 (.makeSlice 22 (tK 6) (tK 6)) 22,oA 3 7 22]) (.seq (.seq (.ops [oX 4 (.assign (iK 0)) 3]) (.block 0 ma)) (.seq (.ops [oM 22 3 22,oA 2 22 22]) .ret)))
theorem A1B:Try.f45.body.map (Bt lends)=some k45:=by kernel_rfl
theorem ACu:CW Try.f45 1=true:=by kernel_rfl
theorem c45{a l:List D}{r:D×List D}(h:CU Y.env k45 (Gq AZ l.length [ci 2] r) (entry a l))(ha:a.length=1):Y.call 45 a l=some r:=
 AY (Y:=Y) rfl Try.func45 (ha▸ACu) A1B h
def Fj(a:AX)(out:AX)(i:Int)(s:St):Prop:=s.v 0=ca 26 (AP CO a)∧s.v 3=cg 26 (AP VU out)∧s.v 4=bh .i64 i
def He(a:AX)(r:AX)(ex:Ex)(s:St):Prop:=ex= .exit 0∧s.v 3=cg 26 (AP VU r)
theorem SI(a:AX){v:AX×Int}{s:St}{r:AX}(h:KN a v=some r)(hM:Fj a v.1 v.2 s):CU Y.env ma (He a r) s:=by
 unfold KN at h;refine CF (c:=Y2) (fun v=>Fh a v.1 v.2) (fun v s=>Fj a v.1 v.2 s) (He a) ?_ h hM;clear h hM s v r;intro v s o hM h;obtain⟨out,i⟩:=v;dsimp only at h hM;unfold Fh at h;unfold Fj at hM;obtain⟨m0,m1,m2⟩:=hM;unfold Y2;by_cases e2:i<(a.length:Int)
 ·rw [if_pos e2]at h;obtain⟨e3,h⟩:=Cb h;obtain⟨e4,h⟩:=Cb h;have c5:=aH (a.getD i.toNat bj) e4;obtain⟨e6,h⟩:=Cb h
  obtain rfl:=Option.some.inj h
  simp (maxDischargeDepth:=9) only [↓AQ,AR,Aj,↓reduceIte,bk,bl,bm,bo,bp,br,bt,bw,bx,bO,b3,b4,b5,b6,b7,b8,b9,m0,m1,m2,e2,e3.1,e3.2,e4,c5,e6.1,e6.2,Fj,He,Cx,Cy,Cz]<;>(repeat' apply A7)<;>first|rfl|exact⟨_,rfl⟩|exact⟨_,_,rfl⟩|simp [AP,AC]
 ·rw [if_neg e2]at h
  obtain rfl:=Option.some.inj h
  simp (maxDischargeDepth:=9) only [↓AQ,AR,Aj,↓reduceIte,bk,bl,bm,bo,bp,br,bt,bw,bx,bO,b3,b4,b5,b6,b7,b8,b9,m0,m1,m2,e2,Fj,He,Cx,Cy,Cz]<;>(repeat' apply A7)<;>first|rfl|exact⟨_,rfl⟩|exact⟨_,_,rfl⟩|simp [AP,AC]
theorem UW(a:AX){r:AX}(h:OL a=some r):Y.call 45 [ca 26 (AP CO a)] []=some (cg 26 (AP VU r),[]):=by
 refine c45 ?_ rfl;unfold k45;unfold OL at h;obtain⟨e1,h⟩:=Cb h;obtain⟨AV,hl3,h⟩:=Ao h;try dsimp only at h
 simp (maxDischargeDepth:=9) only [↓AQ,AR,Aj,↓reduceIte,bk,bl,bm,bo,bp,br,bt,bw,bx,bO,b3,b4,b5,b6,b7,b8,b9,e1.1,e1.2];refine Bc (SI a hl3 ?_) ?_
 ·simp (maxDischargeDepth:=9) only [↓AQ,AR,Aj,↓reduceIte,bk,bl,bm,bo,bp,br,bt,bw,bx,bO,b3,b4,b5,b6,b7,b8,b9,e1.1,e1.2,Fj]<;>(repeat' apply A7)<;>first|rfl|exact⟨_,rfl⟩|exact⟨_,_,rfl⟩|simp [AP,AC]
 ·intro ex3 s3 hX3;unfold He at hX3;obtain⟨rfl,n3_0⟩:=hX3
  obtain rfl:=Option.some.inj h
  simp (maxDischargeDepth:=9) only [↓AQ,AR,Aj,↓reduceIte,bk,bl,bm,bo,bp,br,bt,bw,bx,bO,b3,b4,b5,b6,b7,b8,b9,e1.1,e1.2,n3_0]<;>(repeat' apply A7)<;>first|rfl|exact⟨_,rfl⟩|exact⟨_,_,rfl⟩|simp [AP,AC]
theorem Y3(a:AX)(h:BR a):OL a=some a:=by
 have h1:=h.1;have key:=Fa (fun v=>Fh a v.1 v.2) (fun i=>(a.take i++ao (a.length-i) [],(i:Int))) a.length a ?_ ?_
 ·unfold OL KN;rw [Ce (by omega)]
  simp only [List.take_zero,Je,Nat.sub_zero,Ie]at key;rw [key];rfl
 ·intro i hi;simp only [Fh];rw [if_pos (EP hi),Ce (Ea hi),Ce (by rw [JD _ _ hi];exact h.at i hi),Ce (Ea (by simp;omega)),JD _ _ hi,ML,fO a i hi [],Md i (by omega)]
 ·simp only [Fh];rw [if_neg (Bj _)];simp
theorem QA(a:AX)(h0:BR a):Y.call 45 [ca 26 (AP CO a)] []=some (cg 26 (AP VU a),[]):=UW a (Y3 a h0)
def Gt(a:AU)(b:AU)(i:Int):Option ((Int)⊕(Unit⊕Unit)):= if i<(a.length:Int)then ck (0≤i∧i.toNat<a.length)<| ck (0≤i∧i.toNat<b.length)<| if(a.getD i.toNat bj)=(b.getD i.toNat bj)then some (cd (cb.wrap (i+1))) else some (cc (cd ())) else some (cc (cc ()))
def LG(a:AU)(b:AU)(v:Int):Option (Unit⊕Unit):=JZ (fun v=>Gt a b v) v
def QB(a:AU)(b:AU):Option (Bool):=
 if(a.length:Int)=(b.length:Int)then
  (LG a b 0).bind fun AV=>
  match AV with
  | .inl q1000_=>
   some false
  | .inr q1000_=>
   some true
 else
  some false
abbrev qR:List Nat:=[17,18,19,20,21,22,23,24,25]
def Y4:SC:= .seq (.seq (.ops [oM 11 5 3,oM 12 0 26,oN 13 12 26,oB 14 .lss 3 (tK 11) (tK 13) 3 4]) (.cond (tK 14) .skip (.exit 0))) (.seq (.block 1 (.seq (.draws [(⟨[17,0,0],qR,[17]⟩,oM 17 0 26),(⟨[18,5,5],qR,[18]⟩,oM 18 5 3),(⟨[19,17,18,0,5],qR,[19]⟩,oI 19 26 17 18),(⟨[20,19,0],qR,[20]⟩,oL 20 3 19 3),(⟨[21,1,1],qR,[21]⟩,oM 21 1 26),(⟨[22,5,5],qR,[22]⟩,oM 22 5 3),(⟨[23,21,22,1,5],qR,[23]⟩,oI 23 26 21 22),(⟨[24,23,1],qR,[24]⟩,oL 24 3 23 3),(⟨[25,20,24,0,1],qR,[25]⟩,oB 25 .neq 3 (tK 20) (tK 24) 3 4)]) (.cond (tK 25) (.seq (.ops [oX 4 CX 4]) .ret) .skip))) (.ops [oM 15 5 3,oB 16 .add 3 (tK 15) (iK 1) 3 3,oA 5 16 3]))
def mf:SC:= .loop Y4
def k14:SC:= .seq (.ops [oX 4 CX 4]) (.seq (.seq (.ops [oM 6 0 26,oN 7 6 26,oM 8 1 26,oN 9 8 26,oB 10 .neq 3 (tK 7) (tK 9) 3 4]) (.cond (tK 10) (.seq (.ops [oX 4 CX 4]) .ret) .skip)) (.seq (.seq (.ops [oX 5 (.assign (iK 0)) 3]) (.block 0 mf)) (.seq (.ops [oX 4 (.assign H6) 4]) .ret)))
theorem A1C:Try.f14.body.map (Bt lends)=some k14:=by kernel_rfl
theorem ACw:CW Try.f14 2=true:=by kernel_rfl
theorem av{a l:List D}{r:D×List D}(h:CU Y.env k14 (Gq AZ l.length [ci 4] r) (entry a l))(ha:a.length=2):Y.call 14 a l=some r:=
 AY (Y:=Y) rfl Try.func14 (ha▸ACw) A1C h
def FM(a:AU)(b:AU)(i:Int)(s:St):Prop:=s.v 0=ca 3 (AP (bh .i64) a)∧s.v 1=ca 3 (AP (bh .i64) b)∧s.v 5=bh .i64 i
def FN(a:AU)(b:AU)(r:Unit⊕Unit)(ex:Ex)(s:St):Prop:=match r with
 | .inl q=>ex= .ret∧s.v 4=cf false
 | .inr q=>ex= .exit 0
theorem UX(a:AU)(b:AU){v:Int}{s:St}{r:Unit⊕Unit}(h:LG a b v=some r)(hM:FM a b v s):CU Y.env mf (FN a b r) s:=by
 unfold LG at h;refine CF (c:=Y4) (fun v=>Gt a b v) (fun v s=>FM a b v s) (FN a b) ?_ h hM;clear h hM s v r;intro i s o hM h;unfold Gt at h;unfold FM at hM;obtain⟨m0,m1,m2⟩:=hM;unfold Y4;by_cases e2:i<(a.length:Int)
 ·rw [if_pos e2]at h;obtain⟨e3,h⟩:=Cb h;obtain⟨e4,h⟩:=Cb h;by_cases e5:(a.getD i.toNat bj)=(b.getD i.toNat bj)
  ·rw [if_pos e5]at h
   obtain rfl:=Option.some.inj h
   simp (maxDischargeDepth:=9) only [↓AQ,AR,Aj,↓reduceIte,bk,bl,bm,bo,bp,br,bt,bw,bx,bO,b3,b4,b5,b6,b7,b8,b9,m0,m1,m2,e2,e3.1,e3.2,e4.1,e4.2,decide_eq_true e5,FM,FN,Cx,Cy,Cz]<;>(repeat' apply A7)<;>first|rfl|exact⟨_,rfl⟩|exact⟨_,_,rfl⟩|simp [AP,AC]
  ·rw [if_neg e5]at h
   obtain rfl:=Option.some.inj h
   simp (maxDischargeDepth:=9) only [↓AQ,AR,Aj,↓reduceIte,bk,bl,bm,bo,bp,br,bt,bw,bx,bO,b3,b4,b5,b6,b7,b8,b9,m0,m1,m2,e2,e3.1,e3.2,e4.1,e4.2,e5,FM,FN,Cx,Cy,Cz]<;>(repeat' apply A7)<;>first|rfl|exact⟨_,rfl⟩|exact⟨_,_,rfl⟩|simp [AP,AC]
 ·rw [if_neg e2]at h
  obtain rfl:=Option.some.inj h
  simp (maxDischargeDepth:=9) only [↓AQ,AR,Aj,↓reduceIte,bk,bl,bm,bo,bp,br,bt,bw,bx,bO,b3,b4,b5,b6,b7,b8,b9,m0,m1,m2,e2,FM,FN,Cx,Cy,Cz]<;>(repeat' apply A7)<;>first|rfl|exact⟨_,rfl⟩|exact⟨_,_,rfl⟩|simp [AP,AC]
theorem Vs(a:AU)(b:AU){r:Bool}(h:QB a b=some r):Y.call 14 [ca 3 (AP (bh .i64) a),ca 3 (AP (bh .i64) b)] []=some (cf r,[]):=by
 refine av ?_ rfl;unfold k14;unfold QB at h;by_cases e1:(a.length:Int)=(b.length:Int)
 ·rw [if_pos e1]at h;obtain⟨AV,hl3,h⟩:=Ao h;try dsimp only at h
  simp (maxDischargeDepth:=9) only [↓AQ,AR,Aj,↓reduceIte,bk,bl,bm,bo,bp,br,bt,bw,bx,bO,b3,b4,b5,b6,b7,b8,b9,decide_eq_true e1];refine Bc (UX a b hl3 ?_) ?_
  ·simp (maxDischargeDepth:=9) only [↓AQ,AR,Aj,↓reduceIte,bk,bl,bm,bo,bp,br,bt,bw,bx,bO,b3,b4,b5,b6,b7,b8,b9,decide_eq_true e1,FM]<;>(repeat' apply A7)<;>first|rfl|exact⟨_,rfl⟩|exact⟨_,_,rfl⟩|simp [AP,AC]
  ·intro ex3 s3 hX3;rcases AV with q1000_|q1000_
   ·unfold FN at hX3;dsimp only at hX3 h;obtain⟨rfl,n3_0⟩:=hX3
    obtain rfl:=Option.some.inj h
    simp (maxDischargeDepth:=9) only [↓AQ,AR,Aj,↓reduceIte,bk,bl,bm,bo,bp,br,bt,bw,bx,bO,b3,b4,b5,b6,b7,b8,b9,decide_eq_true e1,n3_0]<;>(repeat' apply A7)<;>first|rfl|exact⟨_,rfl⟩|exact⟨_,_,rfl⟩|simp [AP,AC]
   ·unfold FN at hX3;dsimp only at hX3 h
    obtain rfl:=hX3
    obtain rfl:=Option.some.inj h
    simp (maxDischargeDepth:=9) only [↓AQ,AR,Aj,↓reduceIte,bk,bl,bm,bo,bp,br,bt,bw,bx,bO,b3,b4,b5,b6,b7,b8,b9,decide_eq_true e1]<;>(repeat' apply A7)<;>first|rfl|exact⟨_,rfl⟩|exact⟨_,_,rfl⟩|simp [AP,AC]
 ·rw [if_neg e1]at h
  obtain rfl:=Option.some.inj h
  simp (maxDischargeDepth:=9) only [↓AQ,AR,Aj,↓reduceIte,bk,bl,bm,bo,bp,br,bt,bw,bx,bO,b3,b4,b5,b6,b7,b8,b9,e1]<;>(repeat' apply A7)<;>first|rfl|exact⟨_,rfl⟩|exact⟨_,_,rfl⟩|simp [AP,AC]
theorem aI(a b:AU)(ha:a.length<1099511627776):QB a b=some (decide (a=b)):=by
 unfold QB LG;by_cases hl:a.length=b.length
 ·rw [if_pos (by omega)]
  have key:=Jm (fun v=>Gt a b v) (fun i=>(i:Int)) a.length (fun i=>decide (a.getD i bj=b.getD i bj)) (.inl ()) (.inr ()) ?_ ?_
  ·simp only [Ie]at key;rw [key,UR a b hl];by_cases he:a=b<;>simp [he]
  ·intro i hi;simp only [Gt];rw [if_pos (EP hi),Ce (Ea hi),Ce (Ea (by omega)),ML,Md i (by omega)]<;>simp only [decide_eq_true_eq]
  ·simp only [Gt];rw [if_neg (Bj _)]
 ·rw [if_neg (by omega)]
  have: ¬a=b:=fun e=>hl (by rw [e])
  simp [this]
theorem Du(a:AU)(b:AU)(h0:a.length<1099511627776):Y.call 14 [ca 3 (AP (bh .i64) a),ca 3 (AP (bh .i64) b)] []=some (cf (decide (a=b)),[]):=Vs a b (aI a b h0)
def Fp(a:AX)(b:AX)(i:Int):Option ((Int)⊕(Unit⊕Unit)):= if i<(a.length:Int)then ck (0≤i∧i.toNat<a.length)<| ck (0≤i∧i.toNat<b.length)<| ck ((a.getD i.toNat bj).length<1099511627776)<| if(decide ((a.getD i.toNat bj)=(b.getD i.toNat bj)))=true then some (cd (cb.wrap (i+1))) else some (cc (cd ())) else some (cc (cc ()))
def KO(a:AX)(b:AX)(v:Int):Option (Unit⊕Unit):=JZ (fun v=>Fp a b v) v
def OM(a:AX)(b:AX):Option (Bool):=
 if(a.length:Int)=(b.length:Int)then
  (KO a b 0).bind fun AV=>
  match AV with
  | .inl q1000_=>
   some false
  | .inr q1000_=>
   some true
 else
  some false
abbrev oG:List Nat:=[17,18,19,20,21,22,23,24,25,26]
def Y5:SC:= .seq (.seq (.ops [oM 11 5 3,oM 12 0 22,oN 13 12 22,oB 14 .lss 3 (tK 11) (tK 13) 3 4]) (.cond (tK 14) .skip (.exit 0))) (.seq (.block 1 (.seq (.draws [(⟨[17,0,0],oG,[17]⟩,oM 17 0 22),(⟨[18,5,5],oG,[18]⟩,oM 18 5 3),(⟨[19,17,18,0,5],oG,[19]⟩,oI 19 22 17 18),(⟨[20,19,0],oG,[20]⟩,oL 20 26 19 26),(⟨[21,1,1],oG,[21]⟩,oM 21 1 22),(⟨[22,5,5],oG,[22]⟩,oM 22 5 3),(⟨[23,21,22,1,5],oG,[23]⟩,oI 23 22 21 22),(⟨[24,23,1],oG,[24]⟩,oL 24 26 23 26),(⟨[25,20,24,0,1],oG,[25]⟩,oC 25 14 [(tK 20),(tK 24)] [26,26] 4),(⟨[26,25,25],oG,[26]⟩,oX 26 (.unOp .not 4 (tK 25)) 4)]) (.cond (tK 26) (.seq (.ops [oX 4 CX 4]) .ret) .skip))) (.ops [oM 15 5 3,oB 16 .add 3 (tK 15) (iK 1) 3 3,oA 5 16 3]))
def mg:SC:= .loop Y5
def k48:SC:= .seq (.ops [oX 4 CX 4]) (.seq (.seq (.ops [oM 6 0 22,oN 7 6 22,oM 8 1 22,oN 9 8 22,oB 10 .neq 3 (tK 7) (tK 9) 3 4]) (.cond (tK 10) (.seq (.ops [oX 4 CX 4]) .ret) .skip)) (.seq (.seq (.ops [oX 5 (.assign (iK 0)) 3]) (.block 0 mg)) (.seq (.ops [oX 4 (.assign H6) 4]) .ret)))
theorem A1D:Try.f48.body.map (Bt lends)=some k48:=by kernel_rfl
theorem ACy:CW Try.f48 2=true:=by kernel_rfl
theorem c48{a l:List D}{r:D×List D}(h:CU Y.env k48 (Gq AZ l.length [ci 4] r) (entry a l))(ha:a.length=2):Y.call 48 a l=some r:=
 AY (Y:=Y) rfl Try.func48 (ha▸ACy) A1D h
def Eb(a:AX)(b:AX)(i:Int)(s:St):Prop:=s.v 0=ca 26 (AP CO a)∧s.v 1=ca 26 (AP CO b)∧s.v 5=bh .i64 i
def Ec(a:AX)(b:AX)(r:Unit⊕Unit)(ex:Ex)(s:St):Prop:=match r with
 | .inl q=>ex= .ret∧s.v 4=cf false
 | .inr q=>ex= .exit 0
theorem SK(a:AX)(b:AX){v:Int}{s:St}{r:Unit⊕Unit}(h:KO a b v=some r)(hM:Eb a b v s):CU Y.env mg (Ec a b r) s:=by
 unfold KO at h;refine CF (c:=Y5) (fun v=>Fp a b v) (fun v s=>Eb a b v s) (Ec a b) ?_ h hM;clear h hM s v r;intro i s o hM h;unfold Fp at h;unfold Eb at hM;obtain⟨m0,m1,m2⟩:=hM;unfold Y5;by_cases e2:i<(a.length:Int)
 ·rw [if_pos e2]at h;obtain⟨e3,h⟩:=Cb h;obtain⟨e4,h⟩:=Cb h;obtain⟨e5,h⟩:=Cb h;have c6:=Du (a.getD i.toNat bj) (b.getD i.toNat bj) e5;by_cases e7:(decide ((a.getD i.toNat bj)=(b.getD i.toNat bj)))=true
  ·rw [if_pos e7]at h
   obtain rfl:=Option.some.inj h
   simp (maxDischargeDepth:=9) only [↓AQ,AR,Aj,↓reduceIte,bk,bl,bm,bo,bp,br,bt,bw,bx,bO,b3,b4,b5,b6,b7,b8,b9,m0,m1,m2,e2,e3.1,e3.2,e4.1,e4.2,e5,c6,e7,Eb,Ec,Cx,Cy,Cz]<;>(repeat' apply A7)<;>first|rfl|exact⟨_,rfl⟩|exact⟨_,_,rfl⟩|simp [AP,AC]
  ·rw [if_neg e7]at h;have e7f:(decide ((a.getD i.toNat bj)=(b.getD i.toNat bj)))=false:=Iw.mpr e7
   obtain rfl:=Option.some.inj h
   simp (maxDischargeDepth:=9) only [↓AQ,AR,Aj,↓reduceIte,bk,bl,bm,bo,bp,br,bt,bw,bx,bO,b3,b4,b5,b6,b7,b8,b9,m0,m1,m2,e2,e3.1,e3.2,e4.1,e4.2,e5,c6,e7f,Eb,Ec,Cx,Cy,Cz]<;>(repeat' apply A7)<;>first|rfl|exact⟨_,rfl⟩|exact⟨_,_,rfl⟩|simp [AP,AC]
 ·rw [if_neg e2]at h
  obtain rfl:=Option.some.inj h
  simp (maxDischargeDepth:=9) only [↓AQ,AR,Aj,↓reduceIte,bk,bl,bm,bo,bp,br,bt,bw,bx,bO,b3,b4,b5,b6,b7,b8,b9,m0,m1,m2,e2,Eb,Ec,Cx,Cy,Cz]<;>(repeat' apply A7)<;>first|rfl|exact⟨_,rfl⟩|exact⟨_,_,rfl⟩|simp [AP,AC]
theorem UY(a:AX)(b:AX){r:Bool}(h:OM a b=some r):Y.call 48 [ca 26 (AP CO a),ca 26 (AP CO b)] []=some (cf r,[]):=by
 refine c48 ?_ rfl;unfold k48;unfold OM at h;by_cases e1:(a.length:Int)=(b.length:Int)
 ·rw [if_pos e1]at h;obtain⟨AV,hl3,h⟩:=Ao h;try dsimp only at h
  simp (maxDischargeDepth:=9) only [↓AQ,AR,Aj,↓reduceIte,bk,bl,bm,bo,bp,br,bt,bw,bx,bO,b3,b4,b5,b6,b7,b8,b9,decide_eq_true e1];refine Bc (SK a b hl3 ?_) ?_
  ·simp (maxDischargeDepth:=9) only [↓AQ,AR,Aj,↓reduceIte,bk,bl,bm,bo,bp,br,bt,bw,bx,bO,b3,b4,b5,b6,b7,b8,b9,decide_eq_true e1,Eb]<;>(repeat' apply A7)<;>first|rfl|exact⟨_,rfl⟩|exact⟨_,_,rfl⟩|simp [AP,AC]
  ·intro ex3 s3 hX3;rcases AV with q1000_|q1000_
   ·unfold Ec at hX3;dsimp only at hX3 h;obtain⟨rfl,n3_0⟩:=hX3
    obtain rfl:=Option.some.inj h
    simp (maxDischargeDepth:=9) only [↓AQ,AR,Aj,↓reduceIte,bk,bl,bm,bo,bp,br,bt,bw,bx,bO,b3,b4,b5,b6,b7,b8,b9,decide_eq_true e1,n3_0]<;>(repeat' apply A7)<;>first|rfl|exact⟨_,rfl⟩|exact⟨_,_,rfl⟩|simp [AP,AC]
   ·unfold Ec at hX3;dsimp only at hX3 h
    obtain rfl:=hX3
    obtain rfl:=Option.some.inj h
    simp (maxDischargeDepth:=9) only [↓AQ,AR,Aj,↓reduceIte,bk,bl,bm,bo,bp,br,bt,bw,bx,bO,b3,b4,b5,b6,b7,b8,b9,decide_eq_true e1]<;>(repeat' apply A7)<;>first|rfl|exact⟨_,rfl⟩|exact⟨_,_,rfl⟩|simp [AP,AC]
 ·rw [if_neg e1]at h
  obtain rfl:=Option.some.inj h
  simp (maxDischargeDepth:=9) only [↓AQ,AR,Aj,↓reduceIte,bk,bl,bm,bo,bp,br,bt,bw,bx,bO,b3,b4,b5,b6,b7,b8,b9,e1]<;>(repeat' apply A7)<;>first|rfl|exact⟨_,rfl⟩|exact⟨_,_,rfl⟩|simp [AP,AC]
theorem Y6(a b:AX)(ha:BR a):OM a b=some (decide (a=b)):=by
 have h1:=ha.1;unfold OM KO;by_cases hl:a.length=b.length
 ·rw [if_pos (by omega)]
  have key:=Jm (fun v=>Fp a b v) (fun i=>(i:Int)) a.length (fun i=>decide (a.getD i bj=b.getD i bj)) (.inl ()) (.inr ()) ?_ ?_
  ·simp only [Ie]at key;rw [key,UR a b hl];by_cases he:a=b<;>simp [he]
  ·intro i hi;simp only [Fp];rw [if_pos (EP hi),Ce (Ea hi),Ce (Ea (by omega)),Ce (by rw [JD _ _ hi];exact ha.at i hi),ML,Md i (by omega)]<;>simp only [decide_eq_true_eq]
  ·simp only [Fp];rw [if_neg (Bj _)]
 ·rw [if_neg (by omega)]
  have: ¬a=b:=fun e=>hl (by rw [e])
  simp [this]
theorem QC(a:AX)(b:AX)(h0:BR a):Y.call 48 [ca 26 (AP CO a),ca 26 (AP CO b)] []=some (cf (decide (a=b)),[]):=UY a b (Y6 a b h0)
def MK(left n:Int):Int:=if left-n<0 then-1 else left-n
theorem OO(left n:Int):MK left n= -1∨(MK left n=left-n∧0≤left-n):=by unfold MK;split<;>omega
def FW(l:AX):Int:=(l.map fun xs=>(xs.length:Int)).sum
theorem Y7:FW []=0:=rfl
theorem M8(x:AU)(l:AX):FW (x::l)=x.length+FW l:=rfl
theorem ED(l:AX):0≤FW l:=by
 induction l with
 |nil=>rw [Y7];omega
 |cons x l ih=>rw [M8];omega
theorem qU{l:AX}{x:AU}(h:x∈l):(x.length:Int)≤FW l:=by
 induction l with
 |nil=>cases h
 |cons y l ih=>
  rw [M8];have:=ED l
  rcases PV.1 h with rfl|h
  ·omega
  ·have:=ih h;omega
theorem X5{l:AX}(h:l.length+FW l<1099511627776):BR l:=by
 have:=ED l
 exact⟨by omega,fun x hx=>by have:=qU hx;omega⟩
def QD(a:AU)(left:Int):Option (Int):= if(cb.wrap (left-(a.length:Int)))<0 then some (-1) else some (cb.wrap (left-(a.length:Int)))
def k59:SC:= .seq (.ops [oX 4 (.assign (iK 0)) 3]) (.seq (.ops [oM 5 1 3,oM 6 0 26,oN 7 6 26,oB 8 .sub 3 (tK 5) (tK 7) 3 3,oA 1 8 3]) (.seq (.seq (.ops [oM 9 1 3,oB 10 .lss 3 (tK 9) (iK 0) 3 4]) (.cond (tK 10) (.seq (.ops [oX 4 UU 3]) .ret) .skip)) (.seq (.ops [oM 11 1 3,oA 4 11 3]) .ret)))
theorem A1E:Try.f59.body.map (Bt lends)=some k59:=by kernel_rfl
theorem AD0:CW Try.f59 2=true:=by kernel_rfl
theorem c59{a l:List D}{r:D×List D}(h:CU Y.env k59 (Gq AZ l.length [ci 4] r) (entry a l))(ha:a.length=2):Y.call 59 a l=some r:=
 AY (Y:=Y) rfl Try.func59 (ha▸AD0) A1E h
theorem Vt(a:AU)(left:Int){r:Int}(h:QD a left=some r):Y.call 59 [ca 3 (AP (bh .i64) a),bh .i64 left] []=some (bh .i64 r,[]):=by
 refine c59 ?_ rfl;unfold k59;unfold QD at h;by_cases e1:(cb.wrap (left-(a.length:Int)))<0
 ·rw [if_pos e1]at h
  obtain rfl:=Option.some.inj h
  simp (maxDischargeDepth:=9) only [↓AQ,AR,Aj,↓reduceIte,bk,bl,bm,bo,bp,br,bt,bw,bx,bO,b3,b4,b5,b6,b7,b8,b9,e1]<;>(repeat' apply A7)<;>first|rfl|exact⟨_,rfl⟩|exact⟨_,_,rfl⟩|simp [AP,AC]
 ·rw [if_neg e1]at h
  obtain rfl:=Option.some.inj h
  simp (maxDischargeDepth:=9) only [↓AQ,AR,Aj,↓reduceIte,bk,bl,bm,bo,bp,br,bt,bw,bx,bO,b3,b4,b5,b6,b7,b8,b9,e1]<;>(repeat' apply A7)<;>first|rfl|exact⟨_,rfl⟩|exact⟨_,_,rfl⟩|simp [AP,AC]
theorem aJ(a:AU)(left:Int)(ha:a.length<9223372036854775808)(hl:0≤left∧left≤1048576):QD a left=some (MK left a.length):=by
 unfold QD MK;rw [JA _ (by omega)]
 split<;>rfl
theorem aK(a:AU)(left:Int)(h0:a.length<9223372036854775808)(h1:0≤left∧left≤1048576):Y.call 59 [ca 3 (AP (bh .i64) a),bh .i64 left] []=some (bh .i64 (MK left a.length),[]):=Vt a left (aJ a left h0 h1)
def Fq(a:AX)(left1:Int)(i:Int):Option ((Int×Int)⊕(Unit⊕Int)):= if i<(a.length:Int)then ck (0≤i∧i.toNat<a.length)<| ck ((a.getD i.toNat bj).length<9223372036854775808)<| ck (0≤left1∧left1≤1048576)<| if(MK left1 (a.getD i.toNat bj).length)<0 then some (cc (cd ())) else some (cd ((MK left1 (a.getD i.toNat bj).length),cb.wrap (i+1))) else some (cc (cc left1))
def GI(a:AX)(v:Int×Int):Option (Unit⊕Int):=JZ (fun v=>Fq a v.1 v.2) v
def M9(a:AX)(left:Int):Option (Int):=
 if(cb.wrap (left-(a.length:Int)))<0 then
  some (-1)
 else
  (GI a (cb.wrap (left-(a.length:Int)),0)).bind fun AV=>
  match AV with
  | .inl q1000_=>
   some (-1)
  | .inr q1000_=>
   some q1000_
def Y8:SC:= .seq (.seq (.ops [oM 12 5 3,oM 13 0 22,oN 14 13 22,oB 15 .lss 3 (tK 12) (tK 14) 3 4]) (.cond (tK 15) .skip (.exit 0))) (.seq (.block 1 (.seq (.ops [oM 18 0 22,oM 19 5 3,oI 20 22 18 19,oL 21 26 20 26,oM 22 1 3,oC 23 59 [(tK 21),(tK 22)] [26,3] 3,oA 1 23 3]) (.seq (.ops [oM 24 1 3,oB 25 .lss 3 (tK 24) (iK 0) 3 4]) (.cond (tK 25) (.seq (.ops [oX 4 UU 3]) .ret) .skip)))) (.ops [oM 16 5 3,oB 17 .add 3 (tK 16) (iK 1) 3 3,oA 5 17 3]))
def mh:SC:= .loop Y8
def k40:SC:= .seq (.ops [oX 4 (.assign (iK 0)) 3]) (.seq (.ops [oM 6 1 3,oM 7 0 22,oN 8 7 22,oB 9 .sub 3 (tK 6) (tK 8) 3 3,oA 1 9 3]) (.seq (.seq (.ops [oM 10 1 3,oB 11 .lss 3 (tK 10) (iK 0) 3 4]) (.cond (tK 11) (.seq (.ops [oX 4 UU 3]) .ret) .skip)) (.seq (.seq (.ops [oX 5 (.assign (iK 0)) 3]) (.block 0 mh)) (.seq (.ops [oM 26 1 3,oA 4 26 3]) .ret))))
theorem A1F:Try.f40.body.map (Bt lends)=some k40:=by kernel_rfl
theorem AD2:CW Try.f40 2=true:=by kernel_rfl
theorem c40{a l:List D}{r:D×List D}(h:CU Y.env k40 (Gq AZ l.length [ci 4] r) (entry a l))(ha:a.length=2):Y.call 40 a l=some r:=
 AY (Y:=Y) rfl Try.func40 (ha▸AD2) A1F h
def Ed(a:AX)(left1:Int)(i:Int)(s:St):Prop:=s.v 0=ca 26 (AP CO a)∧s.v 1=bh .i64 left1∧s.v 5=bh .i64 i
def Ee(a:AX)(r:Unit⊕Int)(ex:Ex)(s:St):Prop:=match r with
 | .inl q=>ex= .ret∧s.v 4=bh .i64 (-1)
 | .inr q=>ex= .exit 0∧s.v 1=bh .i64 q
theorem SL(a:AX){v:Int×Int}{s:St}{r:Unit⊕Int}(h:GI a v=some r)(hM:Ed a v.1 v.2 s):CU Y.env mh (Ee a r) s:=by
 unfold GI at h;refine CF (c:=Y8) (fun v=>Fq a v.1 v.2) (fun v s=>Ed a v.1 v.2 s) (Ee a) ?_ h hM;clear h hM s v r;intro v s o hM h;obtain⟨left1,i⟩:=v;dsimp only at h hM;unfold Fq at h;unfold Ed at hM;obtain⟨m0,m1,m2⟩:=hM;unfold Y8;by_cases e2:i<(a.length:Int)
 ·rw [if_pos e2]at h;obtain⟨e3,h⟩:=Cb h;obtain⟨e4,h⟩:=Cb h;obtain⟨e5,h⟩:=Cb h;have c6:=aK (a.getD i.toNat bj) left1 e4 e5;by_cases e7:(MK left1 (a.getD i.toNat bj).length)<0
  ·rw [if_pos e7]at h
   obtain rfl:=Option.some.inj h
   simp (maxDischargeDepth:=9) only [↓AQ,AR,Aj,↓reduceIte,bk,bl,bm,bo,bp,br,bt,bw,bx,bO,b3,b4,b5,b6,b7,b8,b9,m0,m1,m2,e2,e3.1,e3.2,e4,e5.1,e5.2,c6,e7,Ed,Ee,Cx,Cy,Cz]<;>(repeat' apply A7)<;>first|rfl|exact⟨_,rfl⟩|exact⟨_,_,rfl⟩|simp [AP,AC]
  ·rw [if_neg e7]at h
   obtain rfl:=Option.some.inj h
   simp (maxDischargeDepth:=9) only [↓AQ,AR,Aj,↓reduceIte,bk,bl,bm,bo,bp,br,bt,bw,bx,bO,b3,b4,b5,b6,b7,b8,b9,m0,m1,m2,e2,e3.1,e3.2,e4,e5.1,e5.2,c6,e7,Ed,Ee,Cx,Cy,Cz]<;>(repeat' apply A7)<;>first|rfl|exact⟨_,rfl⟩|exact⟨_,_,rfl⟩|simp [AP,AC]
 ·rw [if_neg e2]at h
  obtain rfl:=Option.some.inj h
  simp (maxDischargeDepth:=9) only [↓AQ,AR,Aj,↓reduceIte,bk,bl,bm,bo,bp,br,bt,bw,bx,bO,b3,b4,b5,b6,b7,b8,b9,m0,m1,m2,e2,Ed,Ee,Cx,Cy,Cz]<;>(repeat' apply A7)<;>first|rfl|exact⟨_,rfl⟩|exact⟨_,_,rfl⟩|simp [AP,AC]
theorem UZ(a:AX)(left:Int){r:Int}(h:M9 a left=some r):Y.call 40 [ca 26 (AP CO a),bh .i64 left] []=some (bh .i64 r,[]):=by
 refine c40 ?_ rfl;unfold k40;unfold M9 at h;by_cases e1:(cb.wrap (left-(a.length:Int)))<0
 ·rw [if_pos e1]at h
  obtain rfl:=Option.some.inj h
  simp (maxDischargeDepth:=9) only [↓AQ,AR,Aj,↓reduceIte,bk,bl,bm,bo,bp,br,bt,bw,bx,bO,b3,b4,b5,b6,b7,b8,b9,e1]<;>(repeat' apply A7)<;>first|rfl|exact⟨_,rfl⟩|exact⟨_,_,rfl⟩|simp [AP,AC]
 ·rw [if_neg e1]at h;obtain⟨AV,hl3,h⟩:=Ao h;try dsimp only at h
  simp (maxDischargeDepth:=9) only [↓AQ,AR,Aj,↓reduceIte,bk,bl,bm,bo,bp,br,bt,bw,bx,bO,b3,b4,b5,b6,b7,b8,b9,e1];refine Bc (SL a hl3 ?_) ?_
  ·simp (maxDischargeDepth:=9) only [↓AQ,AR,Aj,↓reduceIte,bk,bl,bm,bo,bp,br,bt,bw,bx,bO,b3,b4,b5,b6,b7,b8,b9,e1,Ed]<;>(repeat' apply A7)<;>first|rfl|exact⟨_,rfl⟩|exact⟨_,_,rfl⟩|simp [AP,AC]
  ·intro ex3 s3 hX3;rcases AV with q1000_|q1000_
   ·unfold Ee at hX3;dsimp only at hX3 h;obtain⟨rfl,n3_0⟩:=hX3
    obtain rfl:=Option.some.inj h
    simp (maxDischargeDepth:=9) only [↓AQ,AR,Aj,↓reduceIte,bk,bl,bm,bo,bp,br,bt,bw,bx,bO,b3,b4,b5,b6,b7,b8,b9,e1,n3_0]<;>(repeat' apply A7)<;>first|rfl|exact⟨_,rfl⟩|exact⟨_,_,rfl⟩|simp [AP,AC]
   ·unfold Ee at hX3;dsimp only at hX3 h;obtain⟨rfl,n3_0⟩:=hX3
    obtain rfl:=Option.some.inj h
    simp (maxDischargeDepth:=9) only [↓AQ,AR,Aj,↓reduceIte,bk,bl,bm,bo,bp,br,bt,bw,bx,bO,b3,b4,b5,b6,b7,b8,b9,e1,n3_0]<;>(repeat' apply A7)<;>first|rfl|exact⟨_,rfl⟩|exact⟨_,_,rfl⟩|simp [AP,AC]
def zT:Int→AX→Int
 |left,[]=>left
 |left,x::l=>if left-x.length<0 then-1 else zT (left-x.length) l
theorem A1G(l:AX): ∀(left:Int),0≤left→zT left l=MK left (FW l):=by
 induction l with
 |nil=>intro left h;unfold zT MK;rw [Y7,if_neg (by omega)];omega
 |cons x l ih=>
  intro left h;have:=ED l
  unfold zT;by_cases hq:left-x.length<0
  ·rw [if_pos hq];unfold MK;rw [M8,if_pos (by omega)]
  ·rw [if_neg hq,ih _ (by omega)]
   unfold MK;rw [M8];by_cases hr:left-x.length-FW l<0
   ·rw [if_pos hr,if_pos (by omega)]
   ·rw [if_neg hr,if_neg (by omega)];omega
theorem SN(a:AX)(ha:a.length<4611686018427387904)(hx: ∀x∈a,x.length<9223372036854775808): ∀(n i:Nat) (left:Int),n=a.length-i→i≤a.length→0≤left∧left≤1048576→
  GI a (left,(i:Int))=some (if zT left (a.drop i)= -1 then .inl ()else .inr (zT left (a.drop i))):=by
 intro n
 induction n with
 |zero=>
  intro i left hn hi hl;have e:i=a.length:=by omega
  subst e;unfold GI;rw [FZ (r:=cc left)]
  ·rw [List.drop_length];unfold zT;rw [if_neg (by omega)]
  ·simp only [Fq];rw [if_neg (Bj _)]
 |succ n ih=>
  intro i left hn hi hl;have hlt:i<a.length:=by omega
  have hm:a[i]∈a:=OX hlt;have hxm:=hx _ hm
  have step:Fq a left i=if MK left a[i].length<0 then some (cc (cd ()))else some (cd (MK left a[i].length,((i+1:Nat):Int))):=by
   unfold Fq;rw [if_pos (EP hlt),Ce (Ea hlt),Ce (by rw [JD _ _ hlt];exact hxm),Ce hl,JD _ _ hlt,Md i (by omega)]
  rw [gP hlt];unfold zT;by_cases hq:left-(a[i].length:Int)<0
  ·rw [if_pos hq];unfold GI;rw [FZ (r:=cd ())]
   ·rfl
   ·rw [step];unfold MK;rw [if_pos hq];rfl
  ·rw [if_neg hq];have e2:MK left a[i].length=left-a[i].length:=by unfold MK;rw [if_neg hq]
   have:=ih (i+1) (left-a[i].length) (by omega) (by omega) (by omega)
   unfold GI at this ⊢;rw [JB (s':=(left-(a[i].length:Int),((i+1:Nat):Int))),this]
   ·rw [step,e2,if_neg hq]
theorem Vu(a:AX)(left:Int)(ha:a.length<9223372036854775808)(hx: ∀x∈a,x.length<9223372036854775808)(hl:0≤left∧left≤1048576):M9 a left=some (MK left (a.length+FW a)):=by
 have ht:=ED a;unfold M9;rw [JA _ (by omega)]
 by_cases hq:left-(a.length:Int)<0
 ·rw [if_pos hq];unfold MK;rw [if_pos (by omega)]
 ·rw [if_neg hq];have h0:=SN a (by omega) hx a.length 0 (left-a.length) (by omega) (by omega) (by omega)
  simp only [Ie,XH]at h0;rw [h0,Dh,A1G _ _ (by omega)]
  have e:MK (left-a.length) (FW a)=MK left (a.length+FW a):=by unfold MK;rw [show left- ↑a.length-FW a=left-(↑a.length+FW a) by omega]
  rw [e];by_cases h1:MK left (a.length+FW a)= -1
  ·rw [if_pos h1,h1]
  ·rw [if_neg h1]
theorem Qs{α:Type}(a b:List α)(x:α):(a.length:Int)<((a++x::b).length:Int):=by rw [Ow,KZ];omega
theorem Qt{α:Type}(a b:List α)(x:α):0≤(a.length:Int)∧(a.length:Int).toNat<(a++x::b).length:=by rw [Ow,KZ];omega
theorem Sw{α:Type}(a:List α): ¬(a.length:Int)<((a++[]).length:Int):=by rw [La];omega
def PK(l:AX):Prop:=l.length<9223372036854775808∧ ∀x∈l,x.length<9223372036854775808
instance (l:AX):Decidable (PK l):=by unfold PK;infer_instance
theorem Y9(a:AX)(left:Int)(hw:PK a)(hl:0≤left∧left≤1048576):M9 a left=some (MK left (a.length+FW a)):=Vu a left hw.1 hw.2 hl
theorem QE(a:AX)(left:Int)(h0:PK a)(h1:0≤left∧left≤1048576):Y.call 40 [ca 26 (AP CO a),bh .i64 left] []=some (bh .i64 (MK left (a.length+FW a)),[]):=UZ a left (Y9 a left h0 h1)
def upto(k:Int)(n:Nat):AU:=(an n).map fun(i:Nat)=>k+i
theorem K5(k:Int)(n:Nat):(upto k n).length=n:=by simp [upto]
theorem mo(xs:AU)(k:Int)(i:Nat)(h:i<xs.length):(upto k i++xs.drop i).set i (k+i)=upto k (i+1)++xs.drop (i+1):=by
 rw [cm _ _ (by simp [K5]),K5,Nat.sub_self,gP h,co]
 simp [upto,Ym]
def Ew(k:Int)(k1:Int)(i:Int)(D7:AU):Option ((Int×Int×AU)⊕(Int×AU)):= if i<(D7.length:Int)then ck (0≤i∧i.toNat<D7.length)<| some (cd (cb.wrap (k1+1),cb.wrap (i+1),(D7.set i.toNat k1))) else some (cc (k1,D7))
def Jn(k:Int)(v:Int×Int×AU):Option (Int×AU):=JZ (fun v=>Ew k v.1 v.2.1 v.2.2) v
def Me(a:AU)(k:Int):Option (Int×AU):= (Jn k (k,0,a)).bind fun AV=> some (AV.1,AV.2)
def YA:SC:= .seq (.seq (.ops [oM 6 5 3,oM 7 0 26,oN 8 7 26,oB 9 .lss 3 (tK 6) (tK 8) 3 4]) (.cond (tK 9) .skip (.exit 0))) (.seq (.block 1 (.seq (.ops [oM 12 0 26,oM 13 5 3,oM 14 1 3,oI 15 26 12 13,oS 3 15 14]) (.ops [oM 16 1 3,oB 17 .add 3 (tK 16) (iK 1) 3 3,oA 1 17 3]))) (.ops [oM 10 5 3,oB 11 .add 3 (tK 10) (iK 1) 3 3,oA 5 11 3]))
def mq:SC:= .loop YA
def k17:SC:= .seq (.ops [oX 4 (.assign (iK 0)) 3]) (.seq (.seq (.ops [oX 5 (.assign (iK 0)) 3]) (.block 0 mq)) (.seq (.ops [oM 18 1 3,oA 4 18 3]) .ret))
theorem A1H:Try.f17.body.map (Bt lends)=some k17:=by kernel_rfl
theorem AD4:CW Try.f17 2=true:=by kernel_rfl
theorem c17{a l:List D}{r:D×List D}(h:CU Y.env k17 (Gq AZ l.length [ci 4] r) (entry a l))(ha:a.length=2):Y.call 17 a l=some r:=
 AY (Y:=Y) rfl Try.func17 (ha▸AD4) A1H h
def Ey(k:Int)(k1:Int)(i:Int)(D7:AU)(s:St):Prop:=(∃w_,s.v 0=D.vw [100000] (s.k 100000) w_)∧s.v 1=bh .i64 k1∧s.v 5=bh .i64 i∧s.v 100000=cg 3 (AP (bh .i64) D7)
def Gd(k:Int)(r:Int×AU)(ex:Ex)(s:St):Prop:=ex= .exit 0∧s.v 1=bh .i64 r.1∧s.v 100000=cg 3 (AP (bh .i64) r.2)
theorem Qu(k:Int){v:Int×Int×AU}{s:St}{r:Int×AU}(h:Jn k v=some r)(hM:Ey k v.1 v.2.1 v.2.2 s):CU Y.env mq (Gd k r) s:=by
 unfold Jn at h;refine CF (c:=YA) (fun v=>Ew k v.1 v.2.1 v.2.2) (fun v s=>Ey k v.1 v.2.1 v.2.2 s) (Gd k) ?_ h hM;clear h hM s v r;intro v s o hM h;obtain⟨k1,i,D7⟩:=v;dsimp only at h hM;unfold Ew at h;unfold Ey at hM;obtain⟨⟨w0_,m0⟩,m1,m2,m3⟩:=hM;unfold YA;by_cases e1:i<(D7.length:Int)
 ·rw [if_pos e1]at h;obtain⟨e2,h⟩:=Cb h
  obtain rfl:=Option.some.inj h
  simp (maxDischargeDepth:=9) only [↓AQ,AR,Aj,↓reduceIte,bk,bl,bm,bo,bp,br,bt,bw,bx,bO,b3,b4,b5,b6,b7,b8,b9,m0,m1,m2,m3,e1,e2.1,e2.2,Ey,Gd,Cx,Cy,Cz]<;>(repeat' apply A7)<;>first|rfl|exact⟨_,rfl⟩|exact⟨_,_,rfl⟩|simp [AP,AC]
 ·rw [if_neg e1]at h
  obtain rfl:=Option.some.inj h
  simp (maxDischargeDepth:=9) only [↓AQ,AR,Aj,↓reduceIte,bk,bl,bm,bo,bp,br,bt,bw,bx,bO,b3,b4,b5,b6,b7,b8,b9,m0,m1,m2,m3,e1,Ey,Gd,Cx,Cy,Cz]<;>(repeat' apply A7)<;>first|rfl|exact⟨_,rfl⟩|exact⟨_,_,rfl⟩|simp [AP,AC]
theorem SQ(a:AU)(k:Int){r:Int×AU}(h:Me a k=some r):Y.call 17 [D.vw [100000] 0 0,bh .i64 k] [cg 3 (AP (bh .i64) a)]=some (bh .i64 r.1,[cg 3 (AP (bh .i64) r.2)]):=by
 refine c17 ?_ rfl;unfold k17;unfold Me at h;obtain⟨AV,hl2,h⟩:=Ao h;try dsimp only at h
 simp (maxDischargeDepth:=9) only [↓AQ,AR,Aj,↓reduceIte,bk,bl,bm,bo,bp,br,bt,bw,bx,bO,b3,b4,b5,b6,b7,b8,b9];refine Bc (Qu k hl2 ?_) ?_
 ·simp (maxDischargeDepth:=9) only [↓AQ,AR,Aj,↓reduceIte,bk,bl,bm,bo,bp,br,bt,bw,bx,bO,b3,b4,b5,b6,b7,b8,b9,Ey]<;>(repeat' apply A7)<;>first|rfl|exact⟨_,rfl⟩|exact⟨_,_,rfl⟩|simp [AP,AC]
 ·intro ex2 s2 hX2;unfold Gd at hX2;obtain⟨rfl,n2_0,n2_1⟩:=hX2
  obtain rfl:=Option.some.inj h
  simp (maxDischargeDepth:=9) only [↓AQ,AR,Aj,↓reduceIte,bk,bl,bm,bo,bp,br,bt,bw,bx,bO,b3,b4,b5,b6,b7,b8,b9,n2_0,n2_1]<;>(repeat' apply A7)<;>first|rfl|exact⟨_,rfl⟩|exact⟨_,_,rfl⟩|simp [AP,AC]
theorem Vv(a:AU)(k:Int)(ha:a.length<1099511627776)(hk:0≤k∧k<1099511627776):Me a k=some (k+a.length,upto k a.length):=by
 have key:=Fa (fun v=>Ew k v.1 v.2.1 v.2.2) (fun i=>(k+i,(i:Int),upto k i++a.drop i)) a.length (k+a.length,upto k a.length) ?_ ?_
 ·unfold Me Jn;have e0:upto k 0=[]:=rfl;simp only [Ie,Int.add_zero,XH,e0,Je]at key;rw [key];rfl
 ·intro i hi;simp only [Ew];have el:(upto k i++a.drop i).length=a.length:=by simp [K5];omega
  rw [el,if_pos (EP hi),Ce (Ea hi),ML,mo a k i hi,Md i (by omega),JA _ (by omega)]
  rw [show k+(i:Int)+1=k+((i+1:Nat):Int) by omega]
 ·simp only [Ew];have el:(upto k a.length++a.drop a.length).length=a.length:=by simp [K5]
  rw [el,if_neg (Bj _)];simp
theorem IP(a:AU)(k:Int)(h0:a.length<1099511627776)(h1:0≤k∧k<1099511627776):Y.call 17 [D.vw [100000] 0 0,bh .i64 k] [cg 3 (AP (bh .i64) a)]=some (bh .i64 (k+a.length),[cg 3 (AP (bh .i64) (upto k a.length))]):=SQ a k (Vv a k h0 h1)
def Nj:Int→AX→AX
 |_,[]=>[]
 |k,x::l=>upto k x.length::Nj (k+x.length) l
def Fv(k:Int)(k1:Int)(i:Int)(D7:AX):Option ((Int×Int×AX)⊕(Int×AX)):= if i<(D7.length:Int)then ck (0≤i∧i.toNat<D7.length)<| ck ((D7.getD i.toNat bj).length<1099511627776)<| ck (0≤k1∧k1<1099511627776)<| some (cd ((k1+(D7.getD i.toNat bj).length),cb.wrap (i+1),(D7.set i.toNat (upto k1 (D7.getD i.toNat bj).length)))) else some (cc (k1,D7))
def Fw(k:Int)(v:Int×Int×AX):Option (Int×AX):=JZ (fun v=>Fv k v.1 v.2.1 v.2.2) v
def LH(a:AX)(k:Int):Option (Int×AX):= (Fw k (k,0,a)).bind fun AV=> some (AV.1,AV.2)
def YB:SC:= .seq (.seq (.ops [oM 6 5 3,oM 7 0 22,oN 8 7 22,oB 9 .lss 3 (tK 6) (tK 8) 3 4]) (.cond (tK 9) .skip (.exit 0))) (.seq (.block 1 (.ops [oM 12 0 22,oM 13 5 3,oI 14 22 12 13,oL 15 26 14 26,oM 16 1 3,oC 17 17 [(tK 15),(tK 16)] [26,3] 3,oA 1 17 3])) (.ops [oM 10 5 3,oB 11 .add 3 (tK 10) (iK 1) 3 3,oA 5 11 3]))
def mr:SC:= .loop YB
def k49:SC:= .seq (.ops [oX 4 (.assign (iK 0)) 3]) (.seq (.seq (.ops [oX 5 (.assign (iK 0)) 3]) (.block 0 mr)) (.seq (.ops [oM 18 1 3,oA 4 18 3]) .ret))
theorem A1I:Try.f49.body.map (Bt lends)=some k49:=by kernel_rfl
theorem AD6:CW Try.f49 2=true:=by kernel_rfl
theorem c49{a l:List D}{r:D×List D}(h:CU Y.env k49 (Gq AZ l.length [ci 4] r) (entry a l))(ha:a.length=2):Y.call 49 a l=some r:=
 AY (Y:=Y) rfl Try.func49 (ha▸AD6) A1I h
def EW(k:Int)(k1:Int)(i:Int)(D7:AX)(s:St):Prop:=(∃w_,s.v 0=D.vw [100000] (s.k 100000) w_)∧s.v 1=bh .i64 k1∧s.v 5=bh .i64 i∧s.v 100000=cg 26 (AP VU D7)
def Fx(k:Int)(r:Int×AX)(ex:Ex)(s:St):Prop:=ex= .exit 0∧s.v 1=bh .i64 r.1∧s.v 100000=cg 26 (AP VU r.2)
theorem QF(k:Int){v:Int×Int×AX}{s:St}{r:Int×AX}(h:Fw k v=some r)(hM:EW k v.1 v.2.1 v.2.2 s):CU Y.env mr (Fx k r) s:=by
 unfold Fw at h;refine CF (c:=YB) (fun v=>Fv k v.1 v.2.1 v.2.2) (fun v s=>EW k v.1 v.2.1 v.2.2 s) (Fx k) ?_ h hM;clear h hM s v r;intro v s o hM h;obtain⟨k1,i,D7⟩:=v;dsimp only at h hM;unfold Fv at h;unfold EW at hM;obtain⟨⟨w0_,m0⟩,m1,m2,m3⟩:=hM;unfold YB;by_cases e1:i<(D7.length:Int)
 ·rw [if_pos e1]at h;obtain⟨e2,h⟩:=Cb h;obtain⟨e3,h⟩:=Cb h;obtain⟨e4,h⟩:=Cb h;have c5:=IP (D7.getD i.toNat bj) k1 e3 e4
  obtain rfl:=Option.some.inj h
  simp (maxDischargeDepth:=9) only [↓AQ,AR,Aj,↓reduceIte,bk,bl,bm,bo,bp,br,bt,bw,bx,bO,b3,b4,b5,b6,b7,b8,b9,m0,m1,m2,m3,e1,e2.1,e2.2,e3,e4.1,e4.2,c5,EW,Fx,Cx,Cy,Cz]<;>(repeat' apply A7)<;>first|rfl|exact⟨_,rfl⟩|exact⟨_,_,rfl⟩|simp [AP,AC]
 ·rw [if_neg e1]at h
  obtain rfl:=Option.some.inj h
  simp (maxDischargeDepth:=9) only [↓AQ,AR,Aj,↓reduceIte,bk,bl,bm,bo,bp,br,bt,bw,bx,bO,b3,b4,b5,b6,b7,b8,b9,m0,m1,m2,m3,e1,EW,Fx,Cx,Cy,Cz]<;>(repeat' apply A7)<;>first|rfl|exact⟨_,rfl⟩|exact⟨_,_,rfl⟩|simp [AP,AC]
theorem Qv(a:AX)(k:Int){r:Int×AX}(h:LH a k=some r):Y.call 49 [D.vw [100000] 0 0,bh .i64 k] [cg 26 (AP VU a)]=some (bh .i64 r.1,[cg 26 (AP VU r.2)]):=by
 refine c49 ?_ rfl;unfold k49;unfold LH at h;obtain⟨AV,hl2,h⟩:=Ao h;try dsimp only at h
 simp (maxDischargeDepth:=9) only [↓AQ,AR,Aj,↓reduceIte,bk,bl,bm,bo,bp,br,bt,bw,bx,bO,b3,b4,b5,b6,b7,b8,b9];refine Bc (QF k hl2 ?_) ?_
 ·simp (maxDischargeDepth:=9) only [↓AQ,AR,Aj,↓reduceIte,bk,bl,bm,bo,bp,br,bt,bw,bx,bO,b3,b4,b5,b6,b7,b8,b9,EW]<;>(repeat' apply A7)<;>first|rfl|exact⟨_,rfl⟩|exact⟨_,_,rfl⟩|simp [AP,AC]
 ·intro ex2 s2 hX2;unfold Fx at hX2;obtain⟨rfl,n2_0,n2_1⟩:=hX2
  obtain rfl:=Option.some.inj h
  simp (maxDischargeDepth:=9) only [↓AQ,AR,Aj,↓reduceIte,bk,bl,bm,bo,bp,br,bt,bw,bx,bO,b3,b4,b5,b6,b7,b8,b9,n2_0,n2_1]<;>(repeat' apply A7)<;>first|rfl|exact⟨_,rfl⟩|exact⟨_,_,rfl⟩|simp [AP,AC]
theorem QG(kk:Int): ∀(b a:AX) (k:Int),BR b→a.length+b.length<1099511627776→0≤k→k+FW b<1099511627776→
  Fw kk (k,(a.length:Int),a++b)=some (k+FW b,a++Nj k b):=by
 intro b
 induction b with
 |nil=>
  intro a k hb hab hk hkt;unfold Fw;rw [FZ (r:=(k,a++[]))]
  ·rw [Y7,Int.add_zero];rfl
  ·simp only [Fv];rw [if_neg (Sw _)]
 |cons x b ih=>
  intro a k hb hab hk hkt;rw [M8]at hkt;simp only [KZ]at hab;have hx:x.length<1099511627776:=hb.2 x (KY ..);have ht:=ED b;have:=ih (a++[upto k x.length]) (k+x.length) ⟨by omega,fun y hy=>hb.2 y (Jd _ hy)⟩ (by simp;omega) (by omega) (by omega)
  unfold Fw at this ⊢;have eg:(a++x::b).getD (a.length:Int).toNat bj=x:=by rw [ML];exact Fg a (x::b) a.length rfl (by simp)
  rw [JB (s':=(k+x.length,((a++[upto k x.length]).length:Int),(a++[upto k x.length])++b)),this]
  ·rw [M8,show k+(x.length:Int)+FW b=k+(x.length+FW b) by omega]
   simp [Nj]
  ·simp only [Fv];rw [if_pos (Qs ..),Ce (Qt ..),Ce (by rw [eg];exact hx),Ce ⟨hk,by omega⟩,eg,Md _ (by omega),ML,cm _ _ (Hq _),Nat.sub_self,co]
   simp
theorem Ua(a:AX)(k:Int)(ha:BR a)(hk:0≤k∧k+FW a<1099511627776):LH a k=some (k+FW a,Nj k a):=by
 unfold LH;have:=QG k a [] k ha (by have:=ha.1;simp;omega) hk.1 hk.2
 simp only [Oy,Je,Ie]at this;rw [this];rfl
theorem Nk(a:AX)(k:Int)(h0:BR a)(h1:0≤k∧k+FW a<1099511627776):Y.call 49 [D.vw [100000] 0 0,bh .i64 k] [cg 26 (AP VU a)]=some (bh .i64 (k+FW a),[cg 26 (AP VU (Nj k a))]):=Qv a k (Ua a k h0 h1)
def FE:Int→AU→Int
 |k,[]=>k
 |k,x::l=>if x=k then FE (k+1) l else-1
def Ez(a:AU)(k1:Int)(i:Int):Option ((Int×Int)⊕(Unit⊕Int)):= if i<(a.length:Int)then ck (0≤i∧i.toNat<a.length)<| if(a.getD i.toNat bj)=k1 then some (cd (cb.wrap (k1+1),cb.wrap (i+1))) else some (cc (cd ())) else some (cc (cc k1))
def FO(a:AU)(v:Int×Int):Option (Unit⊕Int):=JZ (fun v=>Ez a v.1 v.2) v
def Mf(a:AU)(k:Int):Option (Int):=
 (FO a (k,0)).bind fun AV=>
 match AV with
 | .inl q1000_=>
  some (-1)
 | .inr q1000_=>
  some q1000_
def YC:SC:= .seq (.seq (.ops [oM 6 5 3,oM 7 0 26,oN 8 7 26,oB 9 .lss 3 (tK 6) (tK 8) 3 4]) (.cond (tK 9) .skip (.exit 0))) (.seq (.block 1 (.seq (.seq (.ops [oM 12 0 26,oM 13 5 3,oI 14 26 12 13,oL 15 3 14 3,oM 16 1 3,oB 17 .neq 3 (tK 15) (tK 16) 3 4]) (.cond (tK 17) (.seq (.ops [oX 4 UU 3]) .ret) .skip)) (.ops [oM 18 1 3,oB 19 .add 3 (tK 18) (iK 1) 3 3,oA 1 19 3]))) (.ops [oM 10 5 3,oB 11 .add 3 (tK 10) (iK 1) 3 3,oA 5 11 3]))
def nA:SC:= .loop YC
def k18:SC:= .seq (.ops [oX 4 (.assign (iK 0)) 3]) (.seq (.seq (.ops [oX 5 (.assign (iK 0)) 3]) (.block 0 nA)) (.seq (.ops [oM 20 1 3,oA 4 20 3]) .ret))
theorem A1J:Try.f18.body.map (Bt lends)=some k18:=by kernel_rfl
theorem AD8:CW Try.f18 2=true:=by kernel_rfl
theorem aL{a l:List D}{r:D×List D}(h:CU Y.env k18 (Gq AZ l.length [ci 4] r) (entry a l))(ha:a.length=2):Y.call 18 a l=some r:=
 AY (Y:=Y) rfl Try.func18 (ha▸AD8) A1J h
def EE(a:AU)(k1:Int)(i:Int)(s:St):Prop:=s.v 0=ca 3 (AP (bh .i64) a)∧s.v 1=bh .i64 k1∧s.v 5=bh .i64 i
def EF(a:AU)(r:Unit⊕Int)(ex:Ex)(s:St):Prop:=match r with
 | .inl q=>ex= .ret∧s.v 4=bh .i64 (-1)
 | .inr q=>ex= .exit 0∧s.v 1=bh .i64 q
theorem Qw(a:AU){v:Int×Int}{s:St}{r:Unit⊕Int}(h:FO a v=some r)(hM:EE a v.1 v.2 s):CU Y.env nA (EF a r) s:=by
 unfold FO at h;refine CF (c:=YC) (fun v=>Ez a v.1 v.2) (fun v s=>EE a v.1 v.2 s) (EF a) ?_ h hM;clear h hM s v r;intro v s o hM h;obtain⟨k1,i⟩:=v;dsimp only at h hM;unfold Ez at h;unfold EE at hM;obtain⟨m0,m1,m2⟩:=hM;unfold YC;by_cases e1:i<(a.length:Int)
 ·rw [if_pos e1]at h;obtain⟨e2,h⟩:=Cb h;by_cases e3:(a.getD i.toNat bj)=k1
  ·rw [if_pos e3]at h
   obtain rfl:=Option.some.inj h
   simp (maxDischargeDepth:=9) only [↓AQ,AR,Aj,↓reduceIte,bk,bl,bm,bo,bp,br,bt,bw,bx,bO,b3,b4,b5,b6,b7,b8,b9,m0,m1,m2,e1,e2.1,e2.2,decide_eq_true e3,EE,EF,Cx,Cy,Cz]<;>(repeat' apply A7)<;>first|rfl|exact⟨_,rfl⟩|exact⟨_,_,rfl⟩|simp [AP,AC]
  ·rw [if_neg e3]at h
   obtain rfl:=Option.some.inj h
   simp (maxDischargeDepth:=9) only [↓AQ,AR,Aj,↓reduceIte,bk,bl,bm,bo,bp,br,bt,bw,bx,bO,b3,b4,b5,b6,b7,b8,b9,m0,m1,m2,e1,e2.1,e2.2,e3,EE,EF,Cx,Cy,Cz]<;>(repeat' apply A7)<;>first|rfl|exact⟨_,rfl⟩|exact⟨_,_,rfl⟩|simp [AP,AC]
 ·rw [if_neg e1]at h
  obtain rfl:=Option.some.inj h
  simp (maxDischargeDepth:=9) only [↓AQ,AR,Aj,↓reduceIte,bk,bl,bm,bo,bp,br,bt,bw,bx,bO,b3,b4,b5,b6,b7,b8,b9,m0,m1,m2,e1,EE,EF,Cx,Cy,Cz]<;>(repeat' apply A7)<;>first|rfl|exact⟨_,rfl⟩|exact⟨_,_,rfl⟩|simp [AP,AC]
theorem SS(a:AU)(k:Int){r:Int}(h:Mf a k=some r):Y.call 18 [ca 3 (AP (bh .i64) a),bh .i64 k] []=some (bh .i64 r,[]):=by
 refine aL ?_ rfl;unfold k18;unfold Mf at h;obtain⟨AV,hl2,h⟩:=Ao h;try dsimp only at h
 simp (maxDischargeDepth:=9) only [↓AQ,AR,Aj,↓reduceIte,bk,bl,bm,bo,bp,br,bt,bw,bx,bO,b3,b4,b5,b6,b7,b8,b9];refine Bc (Qw a hl2 ?_) ?_
 ·simp (maxDischargeDepth:=9) only [↓AQ,AR,Aj,↓reduceIte,bk,bl,bm,bo,bp,br,bt,bw,bx,bO,b3,b4,b5,b6,b7,b8,b9,EE]<;>(repeat' apply A7)<;>first|rfl|exact⟨_,rfl⟩|exact⟨_,_,rfl⟩|simp [AP,AC]
 ·intro ex2 s2 hX2;rcases AV with q1000_|q1000_
  ·unfold EF at hX2;dsimp only at hX2 h;obtain⟨rfl,n2_0⟩:=hX2
   obtain rfl:=Option.some.inj h
   simp (maxDischargeDepth:=9) only [↓AQ,AR,Aj,↓reduceIte,bk,bl,bm,bo,bp,br,bt,bw,bx,bO,b3,b4,b5,b6,b7,b8,b9,n2_0]<;>(repeat' apply A7)<;>first|rfl|exact⟨_,rfl⟩|exact⟨_,_,rfl⟩|simp [AP,AC]
  ·unfold EF at hX2;dsimp only at hX2 h;obtain⟨rfl,n2_0⟩:=hX2
   obtain rfl:=Option.some.inj h
   simp (maxDischargeDepth:=9) only [↓AQ,AR,Aj,↓reduceIte,bk,bl,bm,bo,bp,br,bt,bw,bx,bO,b3,b4,b5,b6,b7,b8,b9,n2_0]<;>(repeat' apply A7)<;>first|rfl|exact⟨_,rfl⟩|exact⟨_,_,rfl⟩|simp [AP,AC]
theorem Qx: ∀(b a:AU) (k:Int),a.length+b.length<1099511627776→0≤k→k+b.length<1099511627776→
  FO (a++b) (k,(a.length:Int))=some (if FE k b= -1 then .inl ()else .inr (FE k b)):=by
 intro b
 induction b with
 |nil=>
  intro a k hab hk hkt;unfold FO;rw [FZ (r:=cc k)]
  ·unfold FE;rw [if_neg (by omega)]
  ·simp only [Ez];rw [if_neg (Sw _)]
 |cons x b ih=>
  intro a k hab hk hkt;simp only [KZ]at hab hkt;have eg:(a++x::b).getD (a.length:Int).toNat bj=x:=by rw [ML];exact Fg a (x::b) a.length rfl (by simp)
  unfold FE;by_cases hq:x=k
  ·rw [if_pos hq];have:=ih (a++[x]) (k+1) (by simp;omega) (by omega) (by omega)
   unfold FO at this ⊢;rw [JB (s':=(k+1,((a++[x]).length:Int)))]
   ·rw [show a++x::b=a++[x]++b by simp];exact this
   ·simp only [Ez];rw [if_pos (Qs ..),Ce (Qt ..),eg,if_pos hq,Md _ (by omega),JA _ (by omega)];simp
  ·rw [if_neg hq];unfold FO;rw [FZ (r:=cd ())]
   ·rfl
   ·simp only [Ez];rw [if_pos (Qs ..),Ce (Qt ..),eg,if_neg hq]
theorem Vw(a:AU)(k:Int)(ha:a.length<1099511627776)(hk:0≤k∧k+a.length<1099511627776):Mf a k=some (FE k a):=by
 unfold Mf;have:=Qx a [] k (by simpa using ha) hk.1 hk.2
 simp only [Oy,Je,Ie]at this;rw [this,Dh];by_cases h:FE k a= -1
 ·rw [if_pos h,h]
 ·rw [if_neg h]
theorem EU(a:AU)(k:Int)(h0:a.length<1099511627776)(h1:0≤k∧k+a.length<1099511627776):Y.call 18 [ca 3 (AP (bh .i64) a),bh .i64 k] []=some (bh .i64 (FE k a),[]):=SS a k (Vw a k h0 h1)
theorem jR(n:Nat): ∀k,FE k (upto k n)=k+n:=by
 induction n with
 |zero=>intro k;simp [upto,FE]
 |succ n ih=>
  intro k
  have e:upto k (n+1)=k::upto (k+1) n:=by
   simp only [upto,List.range_succ_eq_map,OY,List.map_map]
   congr 1
   ·simp
   ·apply List.map_congr_left;intro i _;simp;omega
  rw [e,FE,if_pos rfl,ih];omega
def LJ(BX:Int)(BZ:Int)(Af:AX)(Aq:AX):Option (Int×Int×AX×AX):= ck (BR Af)<| ck (BR Aq)<| some (BX,BZ,Af,Aq)
def k12:SC:= .seq (.ops [oX 1 (.box 24 (tK 0)) 0,oX 2 (.alloc 29) 0]) (.seq (.ops [oX 3 (.alloc 29) 0]) (.seq (.ops [oF 4 24 1 0,oL 5 3 4 3,oF 6 29 3 0,oS 3 6 5]) (.seq (.ops [oF 7 24 1 1,oL 8 3 7 3,oF 9 29 3 1,oS 3 9 8]) (.seq (.ops [oF 10 24 1 2,oL 11 22 10 22,oC 12 45 [(tK 11)] [22] 22,oF 13 29 3 2,oS 22 13 12]) (.seq (.ops [oF 14 24 1 3,oL 15 22 14 22,oC 16 45 [(tK 15)] [22] 22,oF 17 29 3 3,oS 22 17 16]) (.seq (.ops [oL 18 29 3 29,oS 29 2 18]) .ret))))))
theorem A1K:Try.f12.body.map (Bt lends)=some k12:=by kernel_rfl
theorem ADA:CW Try.f12 1=true:=by kernel_rfl
theorem aM{a l:List D}{r:D×List D}(h:CU Y.env k12 (Gq AZ l.length [ResultVar.cell 2 29] r) (entry a l))(ha:a.length=1):Y.call 12 a l=some r:=
 AY (Y:=Y) rfl Try.func12 (ha▸ADA) A1K h
theorem Qy(BX:Int)(BZ:Int)(Af:AX)(Aq:AX){r:Int×Int×AX×AX}(h:LJ BX BZ Af Aq=some r):Y.call 12 [cj [bh .i64 BX,bh .i64 BZ,ca 26 (AP CO Af),ca 26 (AP CO Aq)]] []=some (cj [bh .i64 r.1,bh .i64 r.2.1,cg 26 (AP VU r.2.2.1),cg 26 (AP VU r.2.2.2)],[]):=by
 refine aM ?_ rfl;unfold k12;unfold LJ at h;obtain⟨e1,h⟩:=Cb h;have c2:=QA Af e1;obtain⟨e3,h⟩:=Cb h;have c4:=QA Aq e3
 obtain rfl:=Option.some.inj h
 simp (maxDischargeDepth:=9) only [↓AQ,AR,Aj,↓reduceIte,bk,bl,bm,bo,bp,br,bt,bw,bx,bO,b3,b4,b5,b6,b7,b8,b9,e1,c2,e3,c4]<;>(repeat' apply A7)<;>first|rfl|exact⟨_,rfl⟩|exact⟨_,_,rfl⟩|simp [AP,AC]
theorem Ub(a b:Int)(n e:AX)(hn:BR n)(he:BR e):LJ a b n e=some (a,b,n,e):=by
 unfold LJ;rw [Ce hn,Ce he]
theorem Fy(BX:Int)(BZ:Int)(Af:AX)(Aq:AX)(h0:BR Af)(h1:BR Aq):Y.call 12 [cj [bh .i64 BX,bh .i64 BZ,ca 26 (AP CO Af),ca 26 (AP CO Aq)]] []=some (cj [bh .i64 BX,bh .i64 BZ,cg 26 (AP VU Af),cg 26 (AP VU Aq)],[]):=Qy BX BZ Af Aq (Ub BX BZ Af Aq h0 h1)
def LK(BX:Int)(BZ:Int)(Af:AX)(Aq:AX)(IQ:Int)(IR:Int)(Ib:AX)(Ic:AX):Option (Bool):= if BX=IQ then if BZ=IR then ck (BR Af)<| if(decide (Af=Ib))=true then ck (BR Aq)<| if(decide (Aq=Ic))=true then some true else some false else some false else some false else some false
def k15:SC:= .seq (.ops [oX 2 (.box 29 (tK 0)) 0,oX 3 (.box 29 (tK 1)) 0,oX 4 CX 4]) (.seq (.seq (.ops [oF 5 29 2 0,oL 6 3 5 3,oF 7 29 3 0,oL 8 3 7 3,oB 9 .neq 3 (tK 6) (tK 8) 3 4]) (.cond (tK 9) (.seq (.ops [oX 4 CX 4]) .ret) .skip)) (.seq (.seq (.ops [oF 10 29 2 1,oL 11 3 10 3,oF 12 29 3 1,oL 13 3 12 3,oB 14 .neq 3 (tK 11) (tK 13) 3 4]) (.cond (tK 14) (.seq (.ops [oX 4 CX 4]) .ret) .skip)) (.seq (.seq (.ops [oF 15 29 2 2,oL 16 22 15 22,oF 17 29 3 2,oL 18 22 17 22,oC 19 48 [(tK 16),(tK 18)] [22,22] 4,oX 20 (.unOp .not 4 (tK 19)) 4]) (.cond (tK 20) (.seq (.ops [oX 4 CX 4]) .ret) .skip)) (.seq (.seq (.ops [oF 21 29 2 3,oL 22 22 21 22,oF 23 29 3 3,oL 24 22 23 22,oC 25 48 [(tK 22),(tK 24)] [22,22] 4,oX 26 (.unOp .not 4 (tK 25)) 4]) (.cond (tK 26) (.seq (.ops [oX 4 CX 4]) .ret) .skip)) (.seq (.ops [oX 4 (.assign H6) 4]) .ret)))))
theorem A1L:Try.f15.body.map (Bt lends)=some k15:=by kernel_rfl
theorem ADC:CW Try.f15 2=true:=by kernel_rfl
theorem c15{a l:List D}{r:D×List D}(h:CU Y.env k15 (Gq AZ l.length [ci 4] r) (entry a l))(ha:a.length=2):Y.call 15 a l=some r:=
 AY (Y:=Y) rfl Try.func15 (ha▸ADC) A1L h
theorem Qz(BX:Int)(BZ:Int)(Af:AX)(Aq:AX)(IQ:Int)(IR:Int)(Ib:AX)(Ic:AX){r:Bool}(h:LK BX BZ Af Aq IQ IR Ib Ic=some r):Y.call 15 [cj [bh .i64 BX,bh .i64 BZ,ca 26 (AP CO Af),ca 26 (AP CO Aq)],cj [bh .i64 IQ,bh .i64 IR,ca 26 (AP CO Ib),ca 26 (AP CO Ic)]] []=some (cf r,[]):=by
 refine c15 ?_ rfl;unfold k15;unfold LK at h;by_cases e1:BX=IQ
 ·rw [if_pos e1]at h;by_cases e2:BZ=IR
  ·rw [if_pos e2]at h;obtain⟨e3,h⟩:=Cb h;have c4:=QC Af Ib e3;by_cases e5:(decide (Af=Ib))=true
   ·rw [if_pos e5]at h;obtain⟨e6,h⟩:=Cb h;have c7:=QC Aq Ic e6;by_cases e8:(decide (Aq=Ic))=true
    ·rw [if_pos e8]at h
     obtain rfl:=Option.some.inj h
     simp (maxDischargeDepth:=9) only [↓AQ,AR,Aj,↓reduceIte,bk,bl,bm,bo,bp,br,bt,bw,bx,bO,b3,b4,b5,b6,b7,b8,b9,decide_eq_true e1,decide_eq_true e2,e3,c4,e5,e6,c7,e8]<;>(repeat' apply A7)<;>first|rfl|exact⟨_,rfl⟩|exact⟨_,_,rfl⟩|simp [AP,AC]
    ·rw [if_neg e8]at h;have e8f:(decide (Aq=Ic))=false:=Iw.mpr e8
     obtain rfl:=Option.some.inj h
     simp (maxDischargeDepth:=9) only [↓AQ,AR,Aj,↓reduceIte,bk,bl,bm,bo,bp,br,bt,bw,bx,bO,b3,b4,b5,b6,b7,b8,b9,decide_eq_true e1,decide_eq_true e2,e3,c4,e5,e6,c7,e8f]<;>(repeat' apply A7)<;>first|rfl|exact⟨_,rfl⟩|exact⟨_,_,rfl⟩|simp [AP,AC]
   ·rw [if_neg e5]at h;have e5f:(decide (Af=Ib))=false:=Iw.mpr e5
    obtain rfl:=Option.some.inj h
    simp (maxDischargeDepth:=9) only [↓AQ,AR,Aj,↓reduceIte,bk,bl,bm,bo,bp,br,bt,bw,bx,bO,b3,b4,b5,b6,b7,b8,b9,decide_eq_true e1,decide_eq_true e2,e3,c4,e5f]<;>(repeat' apply A7)<;>first|rfl|exact⟨_,rfl⟩|exact⟨_,_,rfl⟩|simp [AP,AC]
  ·rw [if_neg e2]at h
   obtain rfl:=Option.some.inj h
   simp (maxDischargeDepth:=9) only [↓AQ,AR,Aj,↓reduceIte,bk,bl,bm,bo,bp,br,bt,bw,bx,bO,b3,b4,b5,b6,b7,b8,b9,decide_eq_true e1,e2]<;>(repeat' apply A7)<;>first|rfl|exact⟨_,rfl⟩|exact⟨_,_,rfl⟩|simp [AP,AC]
 ·rw [if_neg e1]at h
  obtain rfl:=Option.some.inj h
  simp (maxDischargeDepth:=9) only [↓AQ,AR,Aj,↓reduceIte,bk,bl,bm,bo,bp,br,bt,bw,bx,bO,b3,b4,b5,b6,b7,b8,b9,e1]<;>(repeat' apply A7)<;>first|rfl|exact⟨_,rfl⟩|exact⟨_,_,rfl⟩|simp [AP,AC]
def Nl(a b:Int)(n e:AX)(a' b':Int)(n' e':AX):Bool:=decide (a=a'∧b=b'∧n=n'∧e=e')
theorem dn(a b:Int)(n e:AX):Nl a b n e a b n e=true:=by simp [Nl]
theorem Uc(a b:Int)(n e:AX)(a' b':Int)(n' e':AX)(hn:BR n)(he:BR e):LK a b n e a' b' n' e'=some (Nl a b n e a' b' n' e'):=by
 unfold LK Nl;by_cases h1:a=a'<;>by_cases h2:b=b'<;>by_cases h3:n=n'<;>by_cases h4:e=e'<;>simp [h1,h2,h3,h4,ck]<;>(try subst h3)<;>(try subst h4)<;>simp_all
theorem Nn(BX:Int)(BZ:Int)(Af:AX)(Aq:AX)(IQ:Int)(IR:Int)(Ib:AX)(Ic:AX)(h0:BR Af)(h1:BR Aq):Y.call 15 [cj [bh .i64 BX,bh .i64 BZ,ca 26 (AP CO Af),ca 26 (AP CO Aq)],cj [bh .i64 IQ,bh .i64 IR,ca 26 (AP CO Ib),ca 26 (AP CO Ic)]] []=some (cf (Nl BX BZ Af Aq IQ IR Ib Ic),[]):=Qz BX BZ Af Aq IQ IR Ib Ic (Uc BX BZ Af Aq IQ IR Ib Ic h0 h1)
def LM(BX:Int)(BZ:Int)(Af:AX)(Aq:AX)(left:Int):Option (Int):= ck (PK Af)<| ck (0≤left∧left≤1048576)<| if(MK left (Af.length+FW Af))<0 then some (-1) else ck (PK Aq)<| ck (0≤(MK left (Af.length+FW Af))∧(MK left (Af.length+FW Af))≤1048576)<| if(MK (MK left (Af.length+FW Af)) (Aq.length+FW Aq))<0 then some (-1) else some (MK (MK left (Af.length+FW Af)) (Aq.length+FW Aq))
def k10:SC:= .seq (.ops [oX 2 (.box 24 (tK 0)) 0,oX 4 (.assign (iK 0)) 3]) (.seq (.ops [oF 5 24 2 2,oL 6 22 5 22,oM 7 1 3,oC 8 40 [(tK 6),(tK 7)] [22,3] 3,oA 1 8 3]) (.seq (.seq (.ops [oM 9 1 3,oB 10 .lss 3 (tK 9) (iK 0) 3 4]) (.cond (tK 10) (.seq (.ops [oX 4 UU 3]) .ret) .skip)) (.seq (.ops [oF 11 24 2 3,oL 12 22 11 22,oM 13 1 3,oC 14 40 [(tK 12),(tK 13)] [22,3] 3,oA 1 14 3]) (.seq (.seq (.ops [oM 15 1 3,oB 16 .lss 3 (tK 15) (iK 0) 3 4]) (.cond (tK 16) (.seq (.ops [oX 4 UU 3]) .ret) .skip)) (.seq (.ops [oM 17 1 3,oA 4 17 3]) .ret)))))
theorem A1M:Try.f10.body.map (Bt lends)=some k10:=by kernel_rfl
theorem ADF:CW Try.f10 2=true:=by kernel_rfl
theorem SV{a l:List D}{r:D×List D}(h:CU Y.env k10 (Gq AZ l.length [ci 4] r) (entry a l))(ha:a.length=2):Y.call 10 a l=some r:=
 AY (Y:=Y) rfl Try.func10 (ha▸ADF) A1M h
theorem R3(BX:Int)(BZ:Int)(Af:AX)(Aq:AX)(left:Int){r:Int}(h:LM BX BZ Af Aq left=some r):Y.call 10 [cj [bh .i64 BX,bh .i64 BZ,ca 26 (AP CO Af),ca 26 (AP CO Aq)],bh .i64 left] []=some (bh .i64 r,[]):=by
 refine SV ?_ rfl;unfold k10;unfold LM at h;obtain⟨e1,h⟩:=Cb h;obtain⟨e2,h⟩:=Cb h;have c3:=QE Af left e1 e2;by_cases e4:(MK left (Af.length+FW Af))<0
 ·rw [if_pos e4]at h
  obtain rfl:=Option.some.inj h
  simp (maxDischargeDepth:=9) only [↓AQ,AR,Aj,↓reduceIte,bk,bl,bm,bo,bp,br,bt,bw,bx,bO,b3,b4,b5,b6,b7,b8,b9,e1,e2.1,e2.2,c3,e4]<;>(repeat' apply A7)<;>first|rfl|exact⟨_,rfl⟩|exact⟨_,_,rfl⟩|simp [AP,AC]
 ·rw [if_neg e4]at h;obtain⟨e5,h⟩:=Cb h;obtain⟨e6,h⟩:=Cb h;have c7:=QE Aq (MK left (Af.length+FW Af)) e5 e6;by_cases e8:(MK (MK left (Af.length+FW Af)) (Aq.length+FW Aq))<0
  ·rw [if_pos e8]at h
   obtain rfl:=Option.some.inj h
   simp (maxDischargeDepth:=9) only [↓AQ,AR,Aj,↓reduceIte,bk,bl,bm,bo,bp,br,bt,bw,bx,bO,b3,b4,b5,b6,b7,b8,b9,e1,e2.1,e2.2,c3,e4,e5,e6.1,e6.2,c7,e8]<;>(repeat' apply A7)<;>first|rfl|exact⟨_,rfl⟩|exact⟨_,_,rfl⟩|simp [AP,AC]
  ·rw [if_neg e8]at h
   obtain rfl:=Option.some.inj h
   simp (maxDischargeDepth:=9) only [↓AQ,AR,Aj,↓reduceIte,bk,bl,bm,bo,bp,br,bt,bw,bx,bO,b3,b4,b5,b6,b7,b8,b9,e1,e2.1,e2.2,c3,e4,e5,e6.1,e6.2,c7,e8]<;>(repeat' apply A7)<;>first|rfl|exact⟨_,rfl⟩|exact⟨_,_,rfl⟩|simp [AP,AC]
def oH(left:Int)(ns es:AX):Int:=if MK left (ns.length+FW ns)<0 then-1 else MK (MK left (ns.length+FW ns)) (es.length+FW es)
theorem Ud(a b:Int)(n e:AX)(left:Int)(hn:PK n)(he:PK e)(hl:0≤left∧left≤1048576):LM a b n e left=some (oH left n e):=by
 have h1:=ED n;unfold LM oH;rw [Ce hn,Ce hl];rcases OO left (n.length+FW n)with c|⟨c,c'⟩
 ·rw [c];rfl
 ·have hc: ¬left-(n.length+FW n)<0:=by omega
  have hd:0≤left-(n.length+FW n)∧left-(n.length+FW n)≤1048576:=by omega
  rw [c];simp only [if_neg hc,Ce he,Ce hd];split
  ·rename_i h
   rcases OO (left-(n.length+FW n)) (e.length+FW e)with d|⟨d,d'⟩
   ·rw [d]
   ·omega
  ·rfl
theorem Ue(BX:Int)(BZ:Int)(Af:AX)(Aq:AX)(left:Int)(h0:PK Af)(h1:PK Aq)(h2:0≤left∧left≤1048576):Y.call 10 [cj [bh .i64 BX,bh .i64 BZ,ca 26 (AP CO Af),ca 26 (AP CO Aq)],bh .i64 left] []=some (bh .i64 (oH left Af Aq),[]):=R3 BX BZ Af Aq left (Ud BX BZ Af Aq left h0 h1 h2)
theorem qV{ns es:AX}{left:Int}(hl:left≤1048576)(h: ¬oH left ns es<0):ns.length+FW ns+es.length+FW es≤1048576∧BR ns∧BR es∧oH left ns es≤left:=by
 have t1:=ED ns;have t2:=ED es
 have key:(ns.length:Int)+FW ns+es.length+FW es≤1048576∧oH left ns es≤left:=by
  unfold oH at h ⊢;rcases OO left (ns.length+FW ns)with c|⟨c,c'⟩
  ·rw [c]at h;simp at h
  ·rw [c,if_neg (by omega)]at h
   rw [c,if_neg (by omega)]
   rcases OO (left-(ns.length+FW ns)) (es.length+FW es)with d|⟨d,d'⟩
   ·rw [d]at h;simp at h
   ·omega
 exact⟨key.1,X5 (by omega),X5 (by omega),key.2⟩
def Jo(BX:Int)(BZ:Int)(Af:AX)(Aq:AX)(k:Int):Option (Int×AX×AX):= ck (BR Af)<| ck (0≤k∧k+FW Af<1099511627776)<| ck (BR Aq)<| ck (0≤(k+FW Af)∧(k+FW Af)+FW Aq<1099511627776)<| some (((k+FW Af)+FW Aq),(Nj k Af),(Nj (k+FW Af) Aq))
def k16:SC:= .seq (.ops [oX 2 (.box 29 (tK 0)) 0,oX 4 (.assign (iK 0)) 3]) (.seq (.ops [oF 5 29 2 2,oL 6 22 5 22,oM 7 1 3,oC 8 49 [(tK 6),(tK 7)] [22,3] 3,oA 1 8 3]) (.seq (.ops [oF 9 29 2 3,oL 10 22 9 22,oM 11 1 3,oC 12 49 [(tK 10),(tK 11)] [22,3] 3,oA 1 12 3]) (.seq (.ops [oM 13 1 3,oA 4 13 3]) .ret)))
theorem A1N:Try.f16.body.map (Bt lends)=some k16:=by kernel_rfl
theorem ADH:CW Try.f16 2=true:=by kernel_rfl
theorem NC{a l:List D}{r:D×List D}(h:CU Y.env k16 (Gq AZ l.length [ci 4] r) (entry a l))(ha:a.length=2):Y.call 16 a l=some r:=
 AY (Y:=Y) rfl Try.func16 (ha▸ADH) A1N h
theorem PL(BX:Int)(BZ:Int)(Af:AX)(Aq:AX)(k:Int){r:Int×AX×AX}(h:Jo BX BZ Af Aq k=some r):Y.call 16 [cj [bh .i64 BX,bh .i64 BZ,D.vw [100000] 0 0,D.vw [100001] 0 0],bh .i64 k] [cg 26 (AP VU Af),cg 26 (AP VU Aq)]=some (bh .i64 r.1,[cg 26 (AP VU r.2.1),cg 26 (AP VU r.2.2)]):=by
 refine NC ?_ rfl;unfold k16;unfold Jo at h;obtain⟨e1,h⟩:=Cb h;obtain⟨e2,h⟩:=Cb h;have c3:=Nk Af k e1 e2;obtain⟨e4,h⟩:=Cb h;obtain⟨e5,h⟩:=Cb h;have c6:=Nk Aq (k+FW Af) e4 e5
 obtain rfl:=Option.some.inj h
 simp (maxDischargeDepth:=9) only [↓AQ,AR,Aj,↓reduceIte,bk,bl,bm,bo,bp,br,bt,bw,bx,bO,b3,b4,b5,b6,b7,b8,b9,e1,e2.1,e2.2,c3,e4,e5.1,e5.2,c6]<;>(repeat' apply A7)<;>first|rfl|exact⟨_,rfl⟩|exact⟨_,_,rfl⟩|simp [AP,AC]
theorem R4(a b:Int)(n e:AX)(k:Int)(hn:BR n)(he:BR e)(hk:0≤k∧k+FW n+FW e<1099511627776):Jo a b n e k=some (k+FW n+FW e,Nj k n,Nj (k+FW n) e):=by
 have h1:=ED n;have h2:=ED e;unfold Jo;rw [Ce hn,Ce (by omega),Ce he,Ce (by omega)]
theorem MB(BX:Int)(BZ:Int)(Af:AX)(Aq:AX)(k:Int)(h0:BR Af)(h1:BR Aq)(h2:0≤k∧k+FW Af+FW Aq<1099511627776):Y.call 16 [cj [bh .i64 BX,bh .i64 BZ,D.vw [100000] 0 0,D.vw [100001] 0 0],bh .i64 k] [cg 26 (AP VU Af),cg 26 (AP VU Aq)]=some (bh .i64 (k+FW Af+FW Aq),[cg 26 (AP VU (Nj k Af)),cg 26 (AP VU (Nj (k+FW Af) Aq))]):=PL BX BZ Af Aq k (R4 BX BZ Af Aq k h0 h1 h2)
theorem fP{l:AX}(h:fH l):PK l:=⟨Nat.lt_of_le_of_lt h.1 (by decide),fun x hx=>Nat.lt_of_le_of_lt (h.2 x hx).1 (by decide)⟩
def Np(n lo hi:Int):Bool:=decide (lo≤n∧n≤hi)
theorem LP{n lo hi:Int}:Np n lo hi=true↔lo≤n∧n≤hi:=by simp [Np]
def QH(n_:Int)(low:Int)(high:Int):Option (Bool):= if low≤n_ then some (decide (n_≤high)) else some false
def k97:SC:= .seq (.ops [oX 6 CX 4]) (.seq (.ops [oM 7 1 3,oM 8 0 3,oB 9 .leq 3 (tK 7) (tK 8) 3 4,oM 10 9 4,⟨(some 11),(.move (tK 0)),3,(some (some 10,true))⟩,⟨(some 12),(.move (tK 2)),3,(some (some 10,true))⟩,⟨(some 13),(.binOp .leq 3 (tK 11) (tK 12) 3),4,(some (some 10,true))⟩,oX 14 (.pick (tK 10) (tK 13) OZ) 4,oA 6 14 4]) .ret)
theorem A1O:Try.f97.body.map (Bt lends)=some k97:=by kernel_rfl
theorem ADJ:CW Try.f97 3=true:=by kernel_rfl
theorem c97{a l:List D}{r:D×List D}(h:CU Y.env k97 (Gq AZ l.length [ci 6] r) (entry a l))(ha:a.length=3):Y.call 97 a l=some r:=
 AY (Y:=Y) rfl Try.func97 (ha▸ADJ) A1O h
theorem Vx(n_:Int)(low:Int)(high:Int){r:Bool}(h:QH n_ low high=some r):Y.call 97 [bh .i64 n_,bh .i64 low,bh .i64 high] []=some (cf r,[]):=by
 refine c97 ?_ rfl;unfold k97;unfold QH at h;by_cases e1:low≤n_
 ·rw [if_pos e1]at h
  obtain rfl:=Option.some.inj h
  simp (maxDischargeDepth:=9) only [↓AQ,AR,Aj,↓reduceIte,bk,bl,bm,bo,bp,br,bt,bw,bx,bO,b3,b4,b5,b6,b7,b8,b9,e1]<;>(repeat' apply A7)<;>first|rfl|exact⟨_,rfl⟩|exact⟨_,_,rfl⟩|simp [AP,AC]
 ·rw [if_neg e1]at h
  obtain rfl:=Option.some.inj h
  simp (maxDischargeDepth:=9) only [↓AQ,AR,Aj,↓reduceIte,bk,bl,bm,bo,bp,br,bt,bw,bx,bO,b3,b4,b5,b6,b7,b8,b9,e1]<;>(repeat' apply A7)<;>first|rfl|exact⟨_,rfl⟩|exact⟨_,_,rfl⟩|simp [AP,AC]
def YD(n_:Int)(lo:Int)(hi:Int):Option (Bool):= if lo≤n_ then some (decide (n_≤hi)) else some false
def k92:SC:= .seq (.ops [oX 6 CX 4]) (.seq (.ops [oM 7 0 3,oM 8 1 3,oB 9 .geq 3 (tK 7) (tK 8) 3 4,oM 10 9 4,⟨(some 11),(.move (tK 0)),3,(some (some 10,true))⟩,⟨(some 12),(.move (tK 2)),3,(some (some 10,true))⟩,⟨(some 13),(.binOp .leq 3 (tK 11) (tK 12) 3),4,(some (some 10,true))⟩,oX 14 (.pick (tK 10) (tK 13) OZ) 4,oA 6 14 4]) .ret)
theorem A1P:Try.f92.body.map (Bt lends)=some k92:=by kernel_rfl
theorem ADL:CW Try.f92 3=true:=by kernel_rfl
theorem c92{a l:List D}{r:D×List D}(h:CU Y.env k92 (Gq AZ l.length [ci 6] r) (entry a l))(ha:a.length=3):Y.call 92 a l=some r:=
 AY (Y:=Y) rfl Try.func92 (ha▸ADL) A1P h
theorem aN(n_:Int)(lo:Int)(hi:Int){r:Bool}(h:YD n_ lo hi=some r):Y.call 92 [bh .i64 n_,bh .i64 lo,bh .i64 hi] []=some (cf r,[]):=by
 refine c92 ?_ rfl;unfold k92;unfold YD at h;by_cases e1:lo≤n_
 ·rw [if_pos e1]at h
  obtain rfl:=Option.some.inj h
  simp (maxDischargeDepth:=9) only [↓AQ,AR,Aj,↓reduceIte,bk,bl,bm,bo,bp,br,bt,bw,bx,bO,b3,b4,b5,b6,b7,b8,b9,e1]<;>(repeat' apply A7)<;>first|rfl|exact⟨_,rfl⟩|exact⟨_,_,rfl⟩|simp [AP,AC]
 ·rw [if_neg e1]at h
  obtain rfl:=Option.some.inj h
  simp (maxDischargeDepth:=9) only [↓AQ,AR,Aj,↓reduceIte,bk,bl,bm,bo,bp,br,bt,bw,bx,bO,b3,b4,b5,b6,b7,b8,b9,e1]<;>(repeat' apply A7)<;>first|rfl|exact⟨_,rfl⟩|exact⟨_,_,rfl⟩|simp [AP,AC]
theorem aO(n lo hi:Int):QH n lo hi=some (Np n lo hi):=by unfold QH Np;by_cases h1:lo≤n<;>by_cases h2:n≤hi<;>simp [h1,h2]
theorem jS(n lo hi:Int):YD n lo hi=some (Np n lo hi):=by unfold YD Np;by_cases h1:lo≤n<;>by_cases h2:n≤hi<;>simp [h1,h2]
theorem Nq(n_:Int)(low:Int)(high:Int):Y.call 97 [bh .i64 n_,bh .i64 low,bh .i64 high] []=some (cf (Np n_ low high),[]):=Vx n_ low high (aO n_ low high)
theorem R5(n_:Int)(lo:Int)(hi:Int):Y.call 92 [bh .i64 n_,bh .i64 lo,bh .i64 hi] []=some (cf (Np n_ lo hi),[]):=aN n_ lo hi (jS n_ lo hi)
def I1(l:AU)(lo:Int)(hi:Int)(CZ:Int):Option ((Int)⊕(Unit⊕Unit)):= if CZ<(l.length:Int)then ck (0≤CZ∧CZ.toNat<l.length)<| if(Np (l.getD CZ.toNat bj) lo hi)=true then some (cd (cb.wrap (CZ+1))) else some (cc (cd ())) else some (cc (cc ()))
def Mg(l:AU)(lo:Int)(hi:Int)(v:Int):Option (Unit⊕Unit):=JZ (fun v=>I1 l lo hi v) v
def Sy(l:AU)(lo:Int)(hi:Int):Option (Bool):=
 (Mg l lo hi 0).bind fun AV=>
 match AV with
 | .inl q1000_=>
  some false
 | .inr q1000_=>
  some true
def Uf:SC:= .seq (.ops [oB 12 .lss 3 (tK 11) (tK 10) 3 0]) (.seq (.cond (tK 12) .skip (.exit 0)) (.seq (.block 1 (.seq (.ops [oI 13 26 9 11,oL 14 3 13 3,oA 8 14 3]) (.seq (.ops [oM 15 8 3,oM 16 1 3,oM 17 2 3,oC 18 92 [(tK 15),(tK 16),(tK 17)] [3,3,3] 4,oX 19 (.unOp .not 4 (tK 18)) 4]) (.cond (tK 19) (.seq (.ops [oX 6 CX 4]) .ret) .skip)))) (.ops [oB 20 .add 3 (tK 11) (iK 1) 3 3,oM 11 20 3])))
def fQ:SC:= .loop Uf
def A1Q:SC:= .seq (.ops [oX 6 CX 4]) (.seq (.seq (.ops [oM 9 0 26,oN 10 9 26,oX 11 (.move (iK 0)) 3]) (.block 0 fQ)) (.seq (.ops [oX 6 (.assign H6) 4]) .ret))
theorem qW:Try.f107.body.map (Bt lends)=some A1Q:=by kernel_rfl
theorem A8J:CW Try.f107 3=true:=by kernel_rfl
theorem ADM{a l:List D}{r:D×List D}(h:CU Y.env A1Q (Gq AZ l.length [ci 6] r) (entry a l))(ha:a.length=3):Y.call 107 a l=some r:=
 AY (Y:=Y) rfl Try.func107 (ha▸A8J) qW h
def GJ(l:AU)(lo:Int)(hi:Int)(CZ:Int)(s:St):Prop:=s.v 1=bh .i64 lo∧s.v 2=bh .i64 hi∧s.v 9=ca 3 (AP (bh .i64) l)∧s.v 10=bh .i64 (l.length:Int)∧s.v 11=bh .i64 CZ
def GK(l:AU)(lo:Int)(hi:Int)(r:Unit⊕Unit)(ex:Ex)(s:St):Prop:=match r with
 | .inl q=>ex= .ret∧s.v 6=cf false
 | .inr q=>ex= .exit 0
theorem Vy(l:AU)(lo:Int)(hi:Int){v:Int}{s:St}{r:Unit⊕Unit}(h:Mg l lo hi v=some r)(hM:GJ l lo hi v s):CU Y.env fQ (GK l lo hi r) s:=by
 unfold Mg at h;refine CF (c:=Uf) (fun v=>I1 l lo hi v) (fun v s=>GJ l lo hi v s) (GK l lo hi) ?_ h hM;clear h hM s v r;intro CZ s o hM h;unfold I1 at h;unfold GJ at hM;obtain⟨m0,m1,m2,m3,m4⟩:=hM;unfold Uf;by_cases e1:CZ<(l.length:Int)
 ·rw [if_pos e1]at h;obtain⟨e2,h⟩:=Cb h;have c3:=R5 (l.getD CZ.toNat bj) lo hi;by_cases e4:(Np (l.getD CZ.toNat bj) lo hi)=true
  ·rw [if_pos e4]at h
   obtain rfl:=Option.some.inj h
   simp (maxDischargeDepth:=9) only [↓AQ,AR,Aj,↓reduceIte,bk,bl,bm,bo,bp,br,bt,bw,bx,bO,b3,b4,b5,b6,b7,b8,b9,m0,m1,m2,m3,m4,e1,e2.1,e2.2,c3,e4,GJ,GK,Cx,Cy,Cz]<;>(repeat' apply A7)<;>first|rfl|exact⟨_,rfl⟩|exact⟨_,_,rfl⟩|simp [AP,AC]
  ·rw [if_neg e4]at h;have e4f:(Np (l.getD CZ.toNat bj) lo hi)=false:=Iw.mpr e4
   obtain rfl:=Option.some.inj h
   simp (maxDischargeDepth:=9) only [↓AQ,AR,Aj,↓reduceIte,bk,bl,bm,bo,bp,br,bt,bw,bx,bO,b3,b4,b5,b6,b7,b8,b9,m0,m1,m2,m3,m4,e1,e2.1,e2.2,c3,e4f,GJ,GK,Cx,Cy,Cz]<;>(repeat' apply A7)<;>first|rfl|exact⟨_,rfl⟩|exact⟨_,_,rfl⟩|simp [AP,AC]
 ·rw [if_neg e1]at h
  obtain rfl:=Option.some.inj h
  simp (maxDischargeDepth:=9) only [↓AQ,AR,Aj,↓reduceIte,bk,bl,bm,bo,bp,br,bt,bw,bx,bO,b3,b4,b5,b6,b7,b8,b9,m0,m1,m2,m3,m4,e1,GJ,GK,Cx,Cy,Cz]<;>(repeat' apply A7)<;>first|rfl|exact⟨_,rfl⟩|exact⟨_,_,rfl⟩|simp [AP,AC]
theorem YE(l:AU)(lo:Int)(hi:Int){r:Bool}(h:Sy l lo hi=some r):Y.call 107 [ca 3 (AP (bh .i64) l),bh .i64 lo,bh .i64 hi] []=some (cf r,[]):=by
 refine ADM ?_ rfl;unfold A1Q;unfold Sy at h;obtain⟨AV,hl2,h⟩:=Ao h;try dsimp only at h
 simp (maxDischargeDepth:=9) only [↓AQ,AR,Aj,↓reduceIte,bk,bl,bm,bo,bp,br,bt,bw,bx,bO,b3,b4,b5,b6,b7,b8,b9];refine Bc (Vy l lo hi hl2 ?_) ?_
 ·simp (maxDischargeDepth:=9) only [↓AQ,AR,Aj,↓reduceIte,bk,bl,bm,bo,bp,br,bt,bw,bx,bO,b3,b4,b5,b6,b7,b8,b9,GJ]<;>(repeat' apply A7)<;>first|rfl|exact⟨_,rfl⟩|exact⟨_,_,rfl⟩|simp [AP,AC]
 ·intro ex2 s2 hX2;rcases AV with q1000_|q1000_
  ·unfold GK at hX2;dsimp only at hX2 h;obtain⟨rfl,n2_0⟩:=hX2
   obtain rfl:=Option.some.inj h
   simp (maxDischargeDepth:=9) only [↓AQ,AR,Aj,↓reduceIte,bk,bl,bm,bo,bp,br,bt,bw,bx,bO,b3,b4,b5,b6,b7,b8,b9,n2_0]<;>(repeat' apply A7)<;>first|rfl|exact⟨_,rfl⟩|exact⟨_,_,rfl⟩|simp [AP,AC]
  ·unfold GK at hX2;dsimp only at hX2 h
   obtain rfl:=hX2
   obtain rfl:=Option.some.inj h
   simp (maxDischargeDepth:=9) only [↓AQ,AR,Aj,↓reduceIte,bk,bl,bm,bo,bp,br,bt,bw,bx,bO,b3,b4,b5,b6,b7,b8,b9]<;>(repeat' apply A7)<;>first|rfl|exact⟨_,rfl⟩|exact⟨_,_,rfl⟩|simp [AP,AC]
def Ir(l:AU)(lo hi:Int):Bool:=l.all fun x=>Np x lo hi
theorem dw(l:AU)(lo hi:Int)(h:l.length<1099511627776):Sy l lo hi=some (Ir l lo hi):=by
 unfold Sy Mg;have key:=Jm (fun v=>I1 l lo hi v) (fun i=>(i:Int)) l.length (fun i=>Np (l.getD i bj) lo hi) (.inl ()) (.inr ()) ?_ ?_
 ·simp only [Ie]at key;rw [key,UQ (fun x=>Np x lo hi)];unfold Ir
  cases l.all (fun x=>Np x lo hi)<;>rfl
 ·intro i hi;simp only [I1];rw [if_pos (EP hi),Ce (Ea hi),ML,Md i (by omega)]
 ·simp only [I1];rw [if_neg (Bj _)]
theorem dz(l:AU)(lo:Int)(hi:Int)(h0:l.length<1099511627776):Y.call 107 [ca 3 (AP (bh .i64) l),bh .i64 lo,bh .i64 hi] []=some (cf (Ir l lo hi),[]):=YE l lo hi (dw l lo hi h0)
def Au(s_:AU)(f:Int→Option Bool)(Vz:Int):Option ((Int)⊕(Int⊕Unit)):= if Vz<(s_.length:Int)then ck (0≤Vz∧Vz.toNat<s_.length)<| (f (s_.getD Vz.toNat bj)).bind fun YF=> if YF=true then some (cc (cd Vz)) else some (cd (cb.wrap (Vz+1))) else some (cc (cc ()))
def Co(s_:AU)(f:Int→Option Bool)(v:Int):Option (Int⊕Unit):=JZ (fun v=>Au s_ f v) v
def CY(s_:AU)(f:Int→Option Bool):Option (Int):=
 (Co s_ f 0).bind fun AV=>
 match AV with
 | .inl q1000_=>
  some q1000_
 | .inr q1000_=>
  some (-1)
def Ug:SC:= .seq (.ops [oB 9 .lss 3 (tK 8) (tK 7) 3 0]) (.seq (.cond (tK 9) .skip (.exit 0)) (.seq (.block 1 (.seq (.ops [oM 10 8 3,oA 5 10 3]) (.seq (.ops [oM 11 1 87,oM 12 0 26,oM 13 5 3,oI 14 26 12 13,oL 15 3 14 3,oX 16 (.call ⟨(.value (tK 11)), #[(tK 15)], #[3]⟩) 4]) (.cond (tK 16) (.seq (.ops [oM 17 5 3,oA 4 17 3]) .ret) .skip)))) (.ops [oB 18 .add 3 (tK 8) (iK 1) 3 3,oM 8 18 3])))
def fT:SC:= .loop Ug
def A1R:SC:= .seq (.ops [oX 4 (.assign (iK 0)) 3]) (.seq (.seq (.ops [oM 6 0 26,oN 7 6 26,oX 8 (.move (iK 0)) 3]) (.block 0 fT)) (.seq (.ops [oX 4 UU 3]) .ret))
theorem qX:Try.f163.body.map (Bt lends)=some A1R:=by kernel_rfl
theorem A8K:CW Try.f163 2=true:=by kernel_rfl
theorem ADN{a l:List D}{r:D×List D}(h:CU Y.env A1R (Gq AZ l.length [ci 4] r) (entry a l))(ha:a.length=2):Y.call 163 a l=some r:=
 AY (Y:=Y) rfl Try.func163 (ha▸A8K) qX h
def BI(s_:AU)(f:Int→Option Bool)(f_f:FuncId)(f_c:List D)(Vz:Int)(s:St):Prop:=s.v 0=ca 3 (AP (bh .i64) s_)∧s.v 1=D.clo f_f f_c∧s.v 7=bh .i64 (s_.length:Int)∧s.v 8=bh .i64 Vz
def BJ(s_:AU)(f:Int→Option Bool)(f_f:FuncId)(f_c:List D)(r:Int⊕Unit)(ex:Ex)(s:St):Prop:=match r with
 | .inl q=>ex= .ret∧s.v 4=bh .i64 q
 | .inr q=>ex= .exit 0
theorem Iz(s_:AU)(f:Int→Option Bool)(f_f:FuncId)(f_c:List D)(f_h: ∀(a0:Int) (r:Bool),f a0=some r→Y.call f_f (bh .i64 a0::f_c) []=some (cf r,[]))(f_l:lends f_f=false){v:Int}{s:St}{r:Int⊕Unit}(h:Co s_ f v=some r)(hM:BI s_ f f_f f_c v s):CU Y.env fT (BJ s_ f f_f f_c r) s:=by
 unfold Co at h;refine CF (c:=Ug) (fun v=>Au s_ f v) (fun v s=>BI s_ f f_f f_c v s) (BJ s_ f f_f f_c) ?_ h hM;clear h hM s v r;intro Vz s o hM h;unfold Au at h;unfold BI at hM;obtain⟨m0,m1,m2,m3⟩:=hM;unfold Ug;by_cases e1:Vz<(s_.length:Int)
 ·rw [if_pos e1]at h;obtain⟨e2,h⟩:=Cb h;obtain⟨YF,hl3,h⟩:=Ao h;try dsimp only at h
  have c3:=f_h _ _ hl3;by_cases e4:YF=true
  ·rw [if_pos e4]at h
   obtain rfl:=Option.some.inj h
   simp (maxDischargeDepth:=9) only [↓AQ,AR,Aj,↓reduceIte,bk,bl,bm,bo,bp,br,bt,bw,bx,bO,b3,b4,b5,b6,b7,b8,b9,m0,m1,m2,m3,f_l,e1,e2.1,e2.2,c3,e4,BI,BJ,Cx,Cy,Cz]<;>(repeat' apply A7)<;>first|rfl|exact⟨_,rfl⟩|exact⟨_,_,rfl⟩|simp [AP,AC]
  ·rw [if_neg e4]at h;have e4f:YF=false:=Iw.mpr e4
   obtain rfl:=Option.some.inj h
   simp (maxDischargeDepth:=9) only [↓AQ,AR,Aj,↓reduceIte,bk,bl,bm,bo,bp,br,bt,bw,bx,bO,b3,b4,b5,b6,b7,b8,b9,m0,m1,m2,m3,f_l,e1,e2.1,e2.2,c3,e4f,BI,BJ,Cx,Cy,Cz]<;>(repeat' apply A7)<;>first|rfl|exact⟨_,rfl⟩|exact⟨_,_,rfl⟩|simp [AP,AC]
 ·rw [if_neg e1]at h
  obtain rfl:=Option.some.inj h
  simp (maxDischargeDepth:=9) only [↓AQ,AR,Aj,↓reduceIte,bk,bl,bm,bo,bp,br,bt,bw,bx,bO,b3,b4,b5,b6,b7,b8,b9,m0,m1,m2,m3,f_l,e1,BI,BJ,Cx,Cy,Cz]<;>(repeat' apply A7)<;>first|rfl|exact⟨_,rfl⟩|exact⟨_,_,rfl⟩|simp [AP,AC]
theorem JF(s_:AU)(f:Int→Option Bool)(f_f:FuncId)(f_c:List D)(f_h: ∀(a0:Int) (r:Bool),f a0=some r→Y.call f_f (bh .i64 a0::f_c) []=some (cf r,[]))(f_l:lends f_f=false){r:Int}(h:CY s_ f=some r):Y.call 163 [ca 3 (AP (bh .i64) s_),D.clo f_f f_c] []=some (bh .i64 r,[]):=by
 refine ADN ?_ rfl;unfold A1R;unfold CY at h;obtain⟨AV,hl2,h⟩:=Ao h;try dsimp only at h
 simp (maxDischargeDepth:=9) only [↓AQ,AR,Aj,↓reduceIte,bk,bl,bm,bo,bp,br,bt,bw,bx,bO,b3,b4,b5,b6,b7,b8,b9,f_l];refine Bc (Iz s_ f f_f f_c f_h f_l hl2 ?_) ?_
 ·simp (maxDischargeDepth:=9) only [↓AQ,AR,Aj,↓reduceIte,bk,bl,bm,bo,bp,br,bt,bw,bx,bO,b3,b4,b5,b6,b7,b8,b9,f_l,BI]<;>(repeat' apply A7)<;>first|rfl|exact⟨_,rfl⟩|exact⟨_,_,rfl⟩|simp [AP,AC]
 ·intro ex2 s2 hX2;rcases AV with q1000_|q1000_
  ·unfold BJ at hX2;dsimp only at hX2 h;obtain⟨rfl,n2_0⟩:=hX2
   obtain rfl:=Option.some.inj h
   simp (maxDischargeDepth:=9) only [↓AQ,AR,Aj,↓reduceIte,bk,bl,bm,bo,bp,br,bt,bw,bx,bO,b3,b4,b5,b6,b7,b8,b9,f_l,n2_0]<;>(repeat' apply A7)<;>first|rfl|exact⟨_,rfl⟩|exact⟨_,_,rfl⟩|simp [AP,AC]
  ·unfold BJ at hX2;dsimp only at hX2 h
   obtain rfl:=hX2
   obtain rfl:=Option.some.inj h
   simp (maxDischargeDepth:=9) only [↓AQ,AR,Aj,↓reduceIte,bk,bl,bm,bo,bp,br,bt,bw,bx,bO,b3,b4,b5,b6,b7,b8,b9,f_l]<;>(repeat' apply A7)<;>first|rfl|exact⟨_,rfl⟩|exact⟨_,_,rfl⟩|simp [AP,AC]
def C9(s_:AU)(f:Int→Option Bool):Option (Bool):= (CY s_ f).bind fun r7_=> some (decide (0≤r7_))
def A1S:SC:= .seq (.ops [oX 4 CX 4]) (.seq (.ops [oM 5 0 26,oM 6 1 87,oC 7 163 [(tK 5),(tK 6)] [26,87] 3,oB 8 .geq 3 (tK 7) (iK 0) 3 4,oA 4 8 4]) .ret)
theorem qY:Try.f133.body.map (Bt lends)=some A1S:=by kernel_rfl
theorem A8M:CW Try.f133 2=true:=by kernel_rfl
theorem ADO{a l:List D}{r:D×List D}(h:CU Y.env A1S (Gq AZ l.length [ci 4] r) (entry a l))(ha:a.length=2):Y.call 133 a l=some r:=
 AY (Y:=Y) rfl Try.func133 (ha▸A8M) qY h
theorem IU(s_:AU)(f:Int→Option Bool)(f_f:FuncId)(f_c:List D)(f_h: ∀(a0:Int) (r:Bool),f a0=some r→Y.call f_f (bh .i64 a0::f_c) []=some (cf r,[]))(f_l:lends f_f=false){r:Bool}(h:C9 s_ f=some r):Y.call 133 [ca 3 (AP (bh .i64) s_),D.clo f_f f_c] []=some (cf r,[]):=by
 refine ADO ?_ rfl;unfold A1S;unfold C9 at h;obtain⟨r7_,hl1,h⟩:=Ao h;try dsimp only at h
 have c1:=JF s_ f f_f f_c f_h f_l hl1
 obtain rfl:=Option.some.inj h
 simp (maxDischargeDepth:=9) only [↓AQ,AR,Aj,↓reduceIte,bk,bl,bm,bo,bp,br,bt,bw,bx,bO,b3,b4,b5,b6,b7,b8,b9,f_l,c1]<;>(repeat' apply A7)<;>first|rfl|exact⟨_,rfl⟩|exact⟨_,_,rfl⟩|simp [AP,AC]
def IV(n_:Int)(c0_:Int)(c1_:Int):Option (Bool):= some (!(Np n_ c0_ c1_))
def A1T:SC:= .seq (.ops [oX 4 CX 4]) (.seq (.ops [oM 5 0 3,oL 6 3 1 3,oL 7 3 2 3,oC 8 97 [(tK 5),(tK 6),(tK 7)] [3,3,3] 4,oX 9 (.unOp .not 4 (tK 8)) 4,oA 4 9 4]) .ret)
theorem qZ:Try.f170.body.map (Bt lends)=some A1T:=by kernel_rfl
theorem A8N:CW Try.f170 3=true:=by kernel_rfl
theorem ADP{a l:List D}{r:D×List D}(h:CU Y.env A1T (Gq AZ l.length [ci 4] r) (entry a l))(ha:a.length=3):Y.call 170 a l=some r:=
 AY (Y:=Y) rfl Try.func170 (ha▸A8N) qZ h
theorem PM(n_:Int)(c0_:Int)(c1_:Int){r:Bool}(h:IV n_ c0_ c1_=some r):Y.call 170 [bh .i64 n_,D.cptr [bh .i64 c0_],D.cptr [bh .i64 c1_]] []=some (cf r,[]):=by
 refine ADP ?_ rfl;unfold A1T;unfold IV at h;have c1:=Nq n_ c0_ c1_
 obtain rfl:=Option.some.inj h
 simp (maxDischargeDepth:=9) only [↓AQ,AR,Aj,↓reduceIte,bk,bl,bm,bo,bp,br,bt,bw,bx,bO,b3,b4,b5,b6,b7,b8,b9,c1]<;>(repeat' apply A7)<;>first|rfl|exact⟨_,rfl⟩|exact⟨_,_,rfl⟩|simp [AP,AC]
def LQ(list:AU)(low:Int)(high:Int):Option (Bool):= (C9 list (fun a0=>IV a0 low high)).bind fun jg=> some (!jg)
def A1U:SC:= .seq (.ops [oX 4 (.box 3 (tK 1)) 0,oX 5 (.box 3 (tK 2)) 0,oX 6 CX 4]) (.seq (.ops [oM 7 0 26,oX 8 (.makeFunc (Fn.func 170) #[] #[(tK 4),(tK 5)]) 87,oC 9 133 [(tK 7),(tK 8)] [26,87] 4,oX 10 (.unOp .not 4 (tK 9)) 4,oA 6 10 4]) .ret)
theorem qa:Try.f144.body.map (Bt lends)=some A1U:=by kernel_rfl
theorem A8O:CW Try.f144 3=true:=by kernel_rfl
theorem ADQ{a l:List D}{r:D×List D}(h:CU Y.env A1U (Gq AZ l.length [ci 6] r) (entry a l))(ha:a.length=3):Y.call 144 a l=some r:=
 AY (Y:=Y) rfl Try.func144 (ha▸A8O) qa h
theorem R6(list:AU)(low:Int)(high:Int){r:Bool}(h:LQ list low high=some r):Y.call 144 [ca 3 (AP (bh .i64) list),bh .i64 low,bh .i64 high] []=some (cf r,[]):=by
 refine ADQ ?_ rfl;unfold A1U;unfold LQ at h;obtain⟨jg,hl1,h⟩:=Ao h;try dsimp only at h
 have c1:=IU list (fun a0=>IV a0 low high) 170 [D.cptr [bh .i64 low],D.cptr [bh .i64 high]] (fun a0 _ hh=>PM a0 low high hh) mR hl1
 obtain rfl:=Option.some.inj h
 simp (maxDischargeDepth:=9) only [↓AQ,AR,Aj,↓reduceIte,bk,bl,bm,bo,bp,br,bt,bw,bx,bO,b3,b4,b5,b6,b7,b8,b9,c1]<;>(repeat' apply A7)<;>first|rfl|exact⟨_,rfl⟩|exact⟨_,_,rfl⟩|simp [AP,AC]
theorem YG(l:AU)(f:Int→Option Bool)(p:Int→Bool)(h:l.length<1099511627776)(hf: ∀x∈l,f x=some (p x)):
  ∃r,CY l f=some r∧(0≤r↔l.any p=true):=by
 unfold CY Co;by_cases ha: ∀i,i<l.length→(!p (l.getD i bj))=true
 ·have key:=Fa (fun v=>Au l f v) (fun i=>(i:Int)) l.length (.inr ()) ?_ ?_
  ·simp only [Ie]at key;rw [key]
   refine⟨-1,rfl,by simp,fun hc=> ?_⟩
   obtain⟨x,hx,hpx⟩:=TD.1 hc;obtain⟨i,hi,rfl⟩:=List.getElem_of_mem hx;have:=ha i hi
   rw [DF _ _ hi,hpx]at this;cases this
  ·intro i hi;simp only [Au];have e:=ha i hi;rw [DF _ _ hi]at e;rw [if_pos (EP hi),Ce (Ea hi),JD _ _ hi,hf _ (OX hi),Dh,if_neg (by cases hp:p l[i]<;>simp_all),Md i (by omega)]
  ·simp only [Au];rw [if_neg (Bj _)]
 ·obtain⟨m,h1,h2,h3⟩:=PG (P:=fun i=> !p (l.getD i bj)) ha;have key:=Fa (fun v=>Au l f v) (fun i=>(i:Int)) m (.inl (m:Int)) ?_ ?_
  ·simp only [Ie]at key;rw [key]
   refine⟨(m:Int),rfl,fun _=> ?_,fun _=>by omega⟩
   have h2':p l[m]=true:=by rw [DF _ _ h1]at h2;simpa using h2
   exact TD.2 ⟨_,OX h1,h2'⟩
  ·intro i hi;simp only [Au];have e:=h3 i hi;rw [DF _ _ (by omega)]at e
   rw [if_pos (EP (by omega)),Ce (Ea (by omega)),JD _ _ (by omega),hf _ (OX _),Dh,if_neg (by cases hp:p l[i]<;>simp_all),Md i (by omega)]
  ·simp only [Au];have h2':p l[m]=true:=by rw [DF _ _ h1]at h2;simpa using h2
   rw [if_pos (EP h1),Ce (Ea h1),JD _ _ h1,hf _ (OX _),Dh,if_pos h2']
theorem SX(l:AU)(f:Int→Option Bool)(p:Int→Bool)(h:l.length<1099511627776)(hf: ∀x∈l,f x=some (p x)):C9 l f=some (l.any p):=by
 obtain⟨r,h1,h2⟩:=YG l f p h hf;unfold C9;rw [h1,Dh]
 congr 1
 rw [Bool.eq_iff_iff];simpa using h2
theorem Uh(l:AU)(lo hi:Int)(h:l.length<1099511627776):LQ l lo hi=some (Ir l lo hi):=by
 unfold LQ;rw [SX l (fun a0=>IV a0 lo hi) (fun x=> !Np x lo hi) h (fun x _=>rfl),Dh];unfold Ir;rw [List.all_eq_not_any_not]
theorem Ui(list:AU)(low:Int)(high:Int)(h0:list.length<1099511627776):Y.call 144 [ca 3 (AP (bh .i64) list),bh .i64 low,bh .i64 high] []=some (cf (Ir list low high),[]):=R6 list low high (Uh list low high h0)
def De(x_:Int):Option (Bool):= some false
def A1V:SC:= .seq (.ops [oX 2 CX 4]) (.seq (.ops [oM 3 0 3,oM 4 0 3,oB 5 .neq 3 (tK 3) (tK 4) 3 4,oA 2 5 4]) .ret)
theorem qb:Try.f179.body.map (Bt lends)=some A1V:=by kernel_rfl
theorem A8P:CW Try.f179 1=true:=by kernel_rfl
theorem ADR{a l:List D}{r:D×List D}(h:CU Y.env A1V (Gq AZ l.length [ci 2] r) (entry a l))(ha:a.length=1):Y.call 179 a l=some r:=
 AY (Y:=Y) rfl Try.func179 (ha▸A8P) qb h
theorem FF(x_:Int){r:Bool}(h:De x_=some r):Y.call 179 [bh .i64 x_] []=some (cf r,[]):=by
 refine ADR ?_ rfl;unfold A1V;unfold De at h
 obtain rfl:=Option.some.inj h
 simp (maxDischargeDepth:=9) only [↓AQ,AR,Aj,↓reduceIte,bk,bl,bm,bo,bp,br,bt,bw,bx,bO,b3,b4,b5,b6,b7,b8,b9]<;>(repeat' apply A7)<;>first|rfl|exact⟨_,rfl⟩|exact⟨_,_,rfl⟩|simp [AP,AC]
def Hf(x_:Int)(y:Int):Option (Bool):= (De x_).bind fun r6_=> if r6_=true then (De y).bind fun jg=> if jg=true then some (decide (x_<y)) else some true else some (decide (x_<y))
def A1X:SC:= .seq (.ops [oX 4 CX 4]) (.seq (.ops [oM 5 0 3,oC 6 179 [(tK 5)] [3] 4,oM 7 6 4,⟨(some 8),(.move (tK 1)),3,(some (some 7,true))⟩,⟨(some 9),(.call ⟨(.value (.func 179)), #[(tK 8)], #[3]⟩),4,(some (some 7,true))⟩,⟨(some 10),(.unOp .not 4 (tK 9)),4,(some (some 7,true))⟩,oX 11 (.pick (tK 7) (tK 10) OZ) 4,oM 12 11 4,⟨(some 13),(.move (tK 0)),3,(some (some 12,false))⟩,⟨(some 14),(.move (tK 1)),3,(some (some 12,false))⟩,⟨(some 15),(.binOp .lss 3 (tK 13) (tK 14) 3),4,(some (some 12,false))⟩,oX 16 (.pick (tK 12) H6 (tK 15)) 4,oA 4 16 4]) .ret)
theorem qc:Try.f169.body.map (Bt lends)=some A1X:=by kernel_rfl
theorem A8Q:CW Try.f169 2=true:=by kernel_rfl
theorem ADS{a l:List D}{r:D×List D}(h:CU Y.env A1X (Gq AZ l.length [ci 4] r) (entry a l))(ha:a.length=2):Y.call 169 a l=some r:=
 AY (Y:=Y) rfl Try.func169 (ha▸A8Q) qc h
theorem Oa(x_:Int)(y:Int){r:Bool}(h:Hf x_ y=some r):Y.call 169 [bh .i64 x_,bh .i64 y] []=some (cf r,[]):=by
 refine ADS ?_ rfl;unfold A1X;unfold Hf at h;obtain⟨r6_,hl1,h⟩:=Ao h;try dsimp only at h
 have c1:=FF x_ hl1;by_cases e2:r6_=true
 ·rw [if_pos e2]at h;obtain⟨jg,hl3,h⟩:=Ao h;try dsimp only at h
  have c3:=FF y hl3;by_cases e4:jg=true
  ·rw [if_pos e4]at h
   obtain rfl:=Option.some.inj h
   simp (maxDischargeDepth:=9) only [↓AQ,AR,Aj,↓reduceIte,bk,bl,bm,bo,bp,br,bt,bw,bx,bO,b3,b4,b5,b6,b7,b8,b9,c1,e2,c3,e4]<;>(repeat' apply A7)<;>first|rfl|exact⟨_,rfl⟩|exact⟨_,_,rfl⟩|simp [AP,AC]
  ·rw [if_neg e4]at h;have e4f:jg=false:=Iw.mpr e4
   obtain rfl:=Option.some.inj h
   simp (maxDischargeDepth:=9) only [↓AQ,AR,Aj,↓reduceIte,bk,bl,bm,bo,bp,br,bt,bw,bx,bO,b3,b4,b5,b6,b7,b8,b9,c1,e2,c3,e4f]<;>(repeat' apply A7)<;>first|rfl|exact⟨_,rfl⟩|exact⟨_,_,rfl⟩|simp [AP,AC]
 ·rw [if_neg e2]at h;have e2f:r6_=false:=Iw.mpr e2
  obtain rfl:=Option.some.inj h
  simp (maxDischargeDepth:=9) only [↓AQ,AR,Aj,↓reduceIte,bk,bl,bm,bo,bp,br,bt,bw,bx,bO,b3,b4,b5,b6,b7,b8,b9,c1,e2f]<;>(repeat' apply A7)<;>first|rfl|exact⟨_,rfl⟩|exact⟨_,_,rfl⟩|simp [AP,AC]
def BN(x_:AU)(i:Int):Option ((Int)⊕(Unit⊕Unit)):= if 0<i then ck (0≤i∧i.toNat<x_.length)<| ck (0≤cb.wrap (i-1)∧(cb.wrap (i-1)).toNat<x_.length)<| (Hf (x_.getD i.toNat bj) (x_.getD ((cb.wrap (i-1)).toNat) bj)).bind fun Jj=> if Jj=true then some (cc (cd ())) else some (cd (cb.wrap (i-1))) else some (cc (cc ()))
def Cv(x_:AU)(v:Int):Option (Unit⊕Unit):=JZ (fun v=>BN x_ v) v
def DU(x_:AU):Option (Bool):=
 (Cv x_ (cb.wrap ((x_.length:Int)-1))).bind fun AV=>
 match AV with
 | .inl q1000_=>
  some false
 | .inr q1000_=>
  some true
abbrev oJ:List Nat:=[11,12,13,14,15,16,17,18,19,20]
def Uj:SC:= .seq (.seq (.ops [oM 7 3 3,oB 8 .gtr 3 (tK 7) (iK 0) 3 4]) (.cond (tK 8) .skip (.exit 0))) (.seq (.block 1 (.seq (.draws [(⟨[11,0,0],oJ,[11]⟩,oM 11 0 26),(⟨[12,3,3],oJ,[12]⟩,oM 12 3 3),(⟨[13,11,12,0,3],oJ,[13]⟩,oI 13 26 11 12),(⟨[14,13,0],oJ,[14]⟩,oL 14 3 13 3),(⟨[15,0,0],oJ,[15]⟩,oM 15 0 26),(⟨[16,3,3],oJ,[16]⟩,oM 16 3 3),(⟨[17,16,3],oJ,[17]⟩,oB 17 .sub 3 (tK 16) (iK 1) 3 3),(⟨[18,15,17,0,17],oJ,[18]⟩,oI 18 26 15 17),(⟨[19,18,0],oJ,[19]⟩,oL 19 3 18 3),(⟨[20,14,19,0,0],oJ,[20]⟩,oC 20 169 [(tK 14),(tK 19)] [3,3] 4)]) (.cond (tK 20) (.seq (.ops [oX 2 CX 4]) .ret) .skip))) (.ops [oM 9 3 3,oB 10 .sub 3 (tK 9) (iK 1) 3 3,oA 3 10 3]))
def fU:SC:= .loop Uj
def A1Y:SC:= .seq (.ops [oX 2 CX 4]) (.seq (.seq (.ops [oM 4 0 26,oN 5 4 26,oB 6 .sub 3 (tK 5) (iK 1) 3 3,oA 3 6 3]) (.block 0 fU)) (.seq (.ops [oX 2 (.assign H6) 4]) .ret))
theorem qd:Try.f143.body.map (Bt lends)=some A1Y:=by kernel_rfl
theorem A8R:CW Try.f143 1=true:=by kernel_rfl
theorem ADT{a l:List D}{r:D×List D}(h:CU Y.env A1Y (Gq AZ l.length [ci 2] r) (entry a l))(ha:a.length=1):Y.call 143 a l=some r:=
 AY (Y:=Y) rfl Try.func143 (ha▸A8R) qd h
def BO(x_:AU)(i:Int)(s:St):Prop:=s.v 0=ca 3 (AP (bh .i64) x_)∧s.v 3=bh .i64 i
def BP(x_:AU)(r:Unit⊕Unit)(ex:Ex)(s:St):Prop:=match r with
 | .inl q=>ex= .ret∧s.v 2=cf false
 | .inr q=>ex= .exit 0
theorem JG(x_:AU){v:Int}{s:St}{r:Unit⊕Unit}(h:Cv x_ v=some r)(hM:BO x_ v s):CU Y.env fU (BP x_ r) s:=by
 unfold Cv at h;refine CF (c:=Uj) (fun v=>BN x_ v) (fun v s=>BO x_ v s) (BP x_) ?_ h hM;clear h hM s v r;intro i s o hM h;unfold BN at h;unfold BO at hM;obtain⟨m0,m1⟩:=hM;unfold Uj;by_cases e1:0<i
 ·rw [if_pos e1]at h;obtain⟨e2,h⟩:=Cb h;obtain⟨e3,h⟩:=Cb h;obtain⟨Jj,hl4,h⟩:=Ao h;try dsimp only at h
  have c4:=Oa (x_.getD i.toNat bj) (x_.getD ((cb.wrap (i-1)).toNat) bj) hl4;by_cases e5:Jj=true
  ·rw [if_pos e5]at h
   obtain rfl:=Option.some.inj h
   simp (maxDischargeDepth:=9) only [↓AQ,AR,Aj,↓reduceIte,bk,bl,bm,bo,bp,br,bt,bw,bx,bO,b3,b4,b5,b6,b7,b8,b9,m0,m1,e1,e2.1,e2.2,e3.1,e3.2,c4,e5,BO,BP,Cx,Cy,Cz]<;>(repeat' apply A7)<;>first|rfl|exact⟨_,rfl⟩|exact⟨_,_,rfl⟩|simp [AP,AC]
  ·rw [if_neg e5]at h;have e5f:Jj=false:=Iw.mpr e5
   obtain rfl:=Option.some.inj h
   simp (maxDischargeDepth:=9) only [↓AQ,AR,Aj,↓reduceIte,bk,bl,bm,bo,bp,br,bt,bw,bx,bO,b3,b4,b5,b6,b7,b8,b9,m0,m1,e1,e2.1,e2.2,e3.1,e3.2,c4,e5f,BO,BP,Cx,Cy,Cz]<;>(repeat' apply A7)<;>first|rfl|exact⟨_,rfl⟩|exact⟨_,_,rfl⟩|simp [AP,AC]
 ·rw [if_neg e1]at h
  obtain rfl:=Option.some.inj h
  simp (maxDischargeDepth:=9) only [↓AQ,AR,Aj,↓reduceIte,bk,bl,bm,bo,bp,br,bt,bw,bx,bO,b3,b4,b5,b6,b7,b8,b9,m0,m1,e1,BO,BP,Cx,Cy,Cz]<;>(repeat' apply A7)<;>first|rfl|exact⟨_,rfl⟩|exact⟨_,_,rfl⟩|simp [AP,AC]
theorem JV(x_:AU){r:Bool}(h:DU x_=some r):Y.call 143 [ca 3 (AP (bh .i64) x_)] []=some (cf r,[]):=by
 refine ADT ?_ rfl;unfold A1Y;unfold DU at h;obtain⟨AV,hl2,h⟩:=Ao h;try dsimp only at h
 simp (maxDischargeDepth:=9) only [↓AQ,AR,Aj,↓reduceIte,bk,bl,bm,bo,bp,br,bt,bw,bx,bO,b3,b4,b5,b6,b7,b8,b9];refine Bc (JG x_ hl2 ?_) ?_
 ·simp (maxDischargeDepth:=9) only [↓AQ,AR,Aj,↓reduceIte,bk,bl,bm,bo,bp,br,bt,bw,bx,bO,b3,b4,b5,b6,b7,b8,b9,BO]<;>(repeat' apply A7)<;>first|rfl|exact⟨_,rfl⟩|exact⟨_,_,rfl⟩|simp [AP,AC]
 ·intro ex2 s2 hX2;rcases AV with q1000_|q1000_
  ·unfold BP at hX2;dsimp only at hX2 h;obtain⟨rfl,n2_0⟩:=hX2
   obtain rfl:=Option.some.inj h
   simp (maxDischargeDepth:=9) only [↓AQ,AR,Aj,↓reduceIte,bk,bl,bm,bo,bp,br,bt,bw,bx,bO,b3,b4,b5,b6,b7,b8,b9,n2_0]<;>(repeat' apply A7)<;>first|rfl|exact⟨_,rfl⟩|exact⟨_,_,rfl⟩|simp [AP,AC]
  ·unfold BP at hX2;dsimp only at hX2 h
   obtain rfl:=hX2
   obtain rfl:=Option.some.inj h
   simp (maxDischargeDepth:=9) only [↓AQ,AR,Aj,↓reduceIte,bk,bl,bm,bo,bp,br,bt,bw,bx,bO,b3,b4,b5,b6,b7,b8,b9]<;>(repeat' apply A7)<;>first|rfl|exact⟨_,rfl⟩|exact⟨_,_,rfl⟩|simp [AP,AC]
def Ep(l:AU):Bool:=(an (l.length-1)).all fun i=>decide (l.getD i bj≤l.getD (i+1) bj)
theorem K6(l:AU)(h:l.length<1099511627776):DU l=some (Ep l):=by
 unfold DU Cv;rw [JA _ (by omega)]
 rcases Nat.eq_zero_or_pos l.length with h0|h0
 ·rw [FZ (r:=cc ())]
  ·simp [Ep,h0]
  ·simp only [BN];rw [if_neg (by omega)]
 ·have key:=Jm (fun v=>BN l v) (fun j=>(l.length:Int)-1-j) (l.length-1) (fun j=>decide (l.getD (l.length-1-j-1) bj≤l.getD (l.length-1-j) bj)) (.inl ()) (.inr ()) ?_ ?_
  ·simp only [Ie,Int.sub_zero]at key;rw [key]
   have e:(an (l.length-1)).all (fun j=>decide (l.getD (l.length-1-j-1) bj≤l.getD (l.length-1-j) bj))=Ep l:=by
    unfold Ep;rw [Bool.eq_iff_iff,Dl,Dl]
    constructor
    ·intro hh i hi;have:=hh (l.length-1-i-1) (by omega)
     rwa [show l.length-1-(l.length-1-i-1)=i+1 by omega,Nat.add_sub_cancel]at this
    ·intro hh i hi;have:=hh (l.length-1-i-1) (by omega)
     rwa [show l.length-1-i-1+1=l.length-1-i by omega]at this
   rw [e]
   cases Ep l<;>rfl
  ·intro i hi;simp only [BN];rw [if_pos (by omega),JA _ (by omega)]
   rw [Ce (by omega),Ce (by omega),show((l.length:Int)-1-i).toNat=l.length-1-i by omega,show((l.length:Int)-1-i-1).toNat=l.length-1-i-1 by omega]
   have e:Hf (l.getD (l.length-1-i) bj) (l.getD (l.length-1-i-1) bj)=some (decide (l.getD (l.length-1-i) bj<l.getD (l.length-1-i-1) bj)):=by
    unfold Hf De;by_cases hq:l.getD (l.length-1-i) bj<l.getD (l.length-1-i-1) bj<;>simp [hq]
   rw [e,Dh];simp only [decide_eq_true_eq];by_cases hq:l.getD (l.length-1-i) bj<l.getD (l.length-1-i-1) bj
   ·rw [if_pos hq,if_neg (by omega)]
   ·rw [if_neg hq,if_pos (by omega),show(l.length:Int)-1-i-1=(l.length:Int)-1-((i+1:Nat):Int) by omega]
  ·simp only [BN];rw [if_neg (by omega)]
theorem K7(x_:AU)(h0:x_.length<1099511627776):Y.call 143 [ca 3 (AP (bh .i64) x_)] []=some (cf (Ep x_),[]):=JV x_ (K6 x_ h0)
def FX:AU→AU→Int
 | [],[]=>0
 | [],_::_=> -1
 |_::_,[]=>1
 |x::a,y::b=>if x=y then FX a b else if x<y then-1 else 1
def FH(x_:Int)(y:Int):Option (Int):= (De x_).bind fun zU=> (De y).bind fun R7=> if zU=true then if R7=true then some 0 else some (-1) else if R7=true then some 1 else if x_<y then some (-1) else if y<x_ then some 1 else some 0
def A1Z:SC:= .seq (.ops [oX 4 (.assign (iK 0)) 3]) (.seq (.ops [oM 7 0 3,oC 8 179 [(tK 7)] [3] 4,oA 5 8 4]) (.seq (.ops [oM 9 1 3,oC 10 179 [(tK 9)] [3] 4,oA 6 10 4]) (.seq (.seq (.ops [oM 11 5 4]) (.cond (tK 11) (.seq (.seq (.ops [oM 12 6 4]) (.cond (tK 12) (.seq (.ops [oX 4 (.assign (iK 0)) 3]) .ret) .skip)) (.seq (.ops [oX 4 UU 3]) .ret)) .skip)) (.seq (.seq (.ops [oM 13 6 4]) (.cond (tK 13) (.seq (.ops [oX 4 (.assign (iK 1)) 3]) .ret) .skip)) (.seq (.seq (.ops [oM 14 0 3,oM 15 1 3,oB 16 .lss 3 (tK 14) (tK 15) 3 4]) (.cond (tK 16) (.seq (.ops [oX 4 UU 3]) .ret) .skip)) (.seq (.seq (.ops [oM 17 0 3,oM 18 1 3,oB 19 .gtr 3 (tK 17) (tK 18) 3 4]) (.cond (tK 19) (.seq (.ops [oX 4 (.assign (iK 1)) 3]) .ret) .skip)) (.seq (.ops [oX 4 (.assign (iK 0)) 3]) .ret)))))))
theorem qf:Try.f171.body.map (Bt lends)=some A1Z:=by kernel_rfl
theorem A8S:CW Try.f171 2=true:=by kernel_rfl
theorem ADU{a l:List D}{r:D×List D}(h:CU Y.env A1Z (Gq AZ l.length [ci 4] r) (entry a l))(ha:a.length=2):Y.call 171 a l=some r:=
 AY (Y:=Y) rfl Try.func171 (ha▸A8S) qf h
theorem Mh(x_:Int)(y:Int){r:Int}(h:FH x_ y=some r):Y.call 171 [bh .i64 x_,bh .i64 y] []=some (bh .i64 r,[]):=by
 refine ADU ?_ rfl;unfold A1Z;unfold FH at h;obtain⟨zU,hl1,h⟩:=Ao h;try dsimp only at h
 have c1:=FF x_ hl1;obtain⟨R7,hl2,h⟩:=Ao h;try dsimp only at h
 have c2:=FF y hl2;by_cases e3:zU=true
 ·rw [if_pos e3]at h;by_cases e4:R7=true
  ·rw [if_pos e4]at h
   obtain rfl:=Option.some.inj h
   simp (maxDischargeDepth:=9) only [↓AQ,AR,Aj,↓reduceIte,bk,bl,bm,bo,bp,br,bt,bw,bx,bO,b3,b4,b5,b6,b7,b8,b9,c1,c2,e3,e4]<;>(repeat' apply A7)<;>first|rfl|exact⟨_,rfl⟩|exact⟨_,_,rfl⟩|simp [AP,AC]
  ·rw [if_neg e4]at h;have e4f:R7=false:=Iw.mpr e4
   obtain rfl:=Option.some.inj h
   simp (maxDischargeDepth:=9) only [↓AQ,AR,Aj,↓reduceIte,bk,bl,bm,bo,bp,br,bt,bw,bx,bO,b3,b4,b5,b6,b7,b8,b9,c1,c2,e3,e4f]<;>(repeat' apply A7)<;>first|rfl|exact⟨_,rfl⟩|exact⟨_,_,rfl⟩|simp [AP,AC]
 ·rw [if_neg e3]at h;have e3f:zU=false:=Iw.mpr e3;by_cases e4:R7=true
  ·rw [if_pos e4]at h
   obtain rfl:=Option.some.inj h
   simp (maxDischargeDepth:=9) only [↓AQ,AR,Aj,↓reduceIte,bk,bl,bm,bo,bp,br,bt,bw,bx,bO,b3,b4,b5,b6,b7,b8,b9,c1,c2,e3f,e4]<;>(repeat' apply A7)<;>first|rfl|exact⟨_,rfl⟩|exact⟨_,_,rfl⟩|simp [AP,AC]
  ·rw [if_neg e4]at h;have e4f:R7=false:=Iw.mpr e4;by_cases e5:x_<y
   ·rw [if_pos e5]at h
    obtain rfl:=Option.some.inj h
    simp (maxDischargeDepth:=9) only [↓AQ,AR,Aj,↓reduceIte,bk,bl,bm,bo,bp,br,bt,bw,bx,bO,b3,b4,b5,b6,b7,b8,b9,c1,c2,e3f,e4f,e5]<;>(repeat' apply A7)<;>first|rfl|exact⟨_,rfl⟩|exact⟨_,_,rfl⟩|simp [AP,AC]
   ·rw [if_neg e5]at h;by_cases e6:y<x_
    ·rw [if_pos e6]at h
     obtain rfl:=Option.some.inj h
     simp (maxDischargeDepth:=9) only [↓AQ,AR,Aj,↓reduceIte,bk,bl,bm,bo,bp,br,bt,bw,bx,bO,b3,b4,b5,b6,b7,b8,b9,c1,c2,e3f,e4f,e5,e6]<;>(repeat' apply A7)<;>first|rfl|exact⟨_,rfl⟩|exact⟨_,_,rfl⟩|simp [AP,AC]
    ·rw [if_neg e6]at h
     obtain rfl:=Option.some.inj h
     simp (maxDischargeDepth:=9) only [↓AQ,AR,Aj,↓reduceIte,bk,bl,bm,bo,bp,br,bt,bw,bx,bO,b3,b4,b5,b6,b7,b8,b9,c1,c2,e3f,e4f,e5,e6]<;>(repeat' apply A7)<;>first|rfl|exact⟨_,rfl⟩|exact⟨_,_,rfl⟩|simp [AP,AC]
def BV(s1_:AU)(s2_:AU)(CZ:Int):Option ((Int)⊕(Int⊕Unit)):= if CZ<(s1_.length:Int)then ck (0≤CZ∧CZ.toNat<s1_.length)<| if(s2_.length:Int)≤CZ then some (cc (cd 1)) else ck (0≤CZ∧CZ.toNat<s2_.length)<| (FH (s1_.getD CZ.toNat bj) (s2_.getD CZ.toNat bj)).bind fun JH=> if JH=0 then some (cd (cb.wrap (CZ+1))) else some (cc (cd JH)) else some (cc (cc ()))
def BL(s1_:AU)(s2_:AU)(v:Int):Option (Int⊕Unit):=JZ (fun v=>BV s1_ s2_ v) v
def Bo(s1_:AU)(s2_:AU):Option (Int):=
 (BL s1_ s2_ 0).bind fun AV=>
 match AV with
 | .inl q1000_=>
  some q1000_
 | .inr q1000_=>
  if(s1_.length:Int)<(s2_.length:Int)then
   some (-1)
  else
   some 0
def Uk:SC:= .seq (.ops [oB 12 .lss 3 (tK 11) (tK 10) 3 0]) (.seq (.cond (tK 12) .skip (.exit 0)) (.seq (.block 1 (.seq (.ops [oM 13 11 3,oI 14 26 9 11,oL 15 3 14 3,oA 5 13 3,oA 6 15 3]) (.seq (.seq (.ops [oM 16 5 3,oM 17 1 26,oN 18 17 26,oB 19 .geq 3 (tK 16) (tK 18) 3 4]) (.cond (tK 19) (.seq (.ops [oX 4 (.assign (iK 1)) 3]) .ret) .skip)) (.seq (.ops [oM 20 1 26,oM 21 5 3,oI 22 26 20 21,oL 23 3 22 3,oA 7 23 3]) (.seq (.ops [oM 24 6 3,oM 25 7 3,oC 26 171 [(tK 24),(tK 25)] [3,3] 3,oA 8 26 3]) (.seq (.ops [oM 27 8 3,oB 28 .neq 3 (tK 27) (iK 0) 3 4]) (.cond (tK 28) (.seq (.ops [oM 29 8 3,oA 4 29 3]) .ret) .skip))))))) (.ops [oB 30 .add 3 (tK 11) (iK 1) 3 3,oM 11 30 3])))
def fV:SC:= .loop Uk
def A1a:SC:= .seq (.ops [oX 4 (.assign (iK 0)) 3]) (.seq (.seq (.ops [oM 9 0 26,oN 10 9 26,oX 11 (.move (iK 0)) 3]) (.block 0 fV)) (.seq (.seq (.ops [oM 31 0 26,oN 32 31 26,oM 33 1 26,oN 34 33 26,oB 35 .lss 3 (tK 32) (tK 34) 3 4]) (.cond (tK 35) (.seq (.ops [oX 4 UU 3]) .ret) .skip)) (.seq (.ops [oX 4 (.assign (iK 0)) 3]) .ret)))
theorem qg:Try.f145.body.map (Bt lends)=some A1a:=by kernel_rfl
theorem A8T:CW Try.f145 2=true:=by kernel_rfl
theorem ADV{a l:List D}{r:D×List D}(h:CU Y.env A1a (Gq AZ l.length [ci 4] r) (entry a l))(ha:a.length=2):Y.call 145 a l=some r:=
 AY (Y:=Y) rfl Try.func145 (ha▸A8T) qg h
def BD(s1_:AU)(s2_:AU)(CZ:Int)(s:St):Prop:=s.v 0=ca 3 (AP (bh .i64) s1_)∧s.v 1=ca 3 (AP (bh .i64) s2_)∧s.v 9=ca 3 (AP (bh .i64) s1_)∧s.v 10=bh .i64 (s1_.length:Int)∧s.v 11=bh .i64 CZ
def BF(s1_:AU)(s2_:AU)(r:Int⊕Unit)(ex:Ex)(s:St):Prop:=match r with
 | .inl q=>ex= .ret∧s.v 4=bh .i64 q
 | .inr q=>ex= .exit 0∧s.v 0=ca 3 (AP (bh .i64) s1_)∧s.v 1=ca 3 (AP (bh .i64) s2_)
theorem JW(s1_:AU)(s2_:AU){v:Int}{s:St}{r:Int⊕Unit}(h:BL s1_ s2_ v=some r)(hM:BD s1_ s2_ v s):CU Y.env fV (BF s1_ s2_ r) s:=by
 unfold BL at h;refine CF (c:=Uk) (fun v=>BV s1_ s2_ v) (fun v s=>BD s1_ s2_ v s) (BF s1_ s2_) ?_ h hM;clear h hM s v r;intro CZ s o hM h;unfold BV at h;unfold BD at hM;obtain⟨m0,m1,m2,m3,m4⟩:=hM;unfold Uk;by_cases e1:CZ<(s1_.length:Int)
 ·rw [if_pos e1]at h;obtain⟨e2,h⟩:=Cb h;by_cases e3:(s2_.length:Int)≤CZ
  ·rw [if_pos e3]at h
   obtain rfl:=Option.some.inj h
   simp (maxDischargeDepth:=9) only [↓AQ,AR,Aj,↓reduceIte,bk,bl,bm,bo,bp,br,bt,bw,bx,bO,b3,b4,b5,b6,b7,b8,b9,m0,m1,m2,m3,m4,e1,e2.1,e2.2,e3,BD,BF,Cx,Cy,Cz]<;>(repeat' apply A7)<;>first|rfl|exact⟨_,rfl⟩|exact⟨_,_,rfl⟩|simp [AP,AC]
  ·rw [if_neg e3]at h;obtain⟨e4,h⟩:=Cb h;obtain⟨JH,hl5,h⟩:=Ao h;try dsimp only at h
   have c5:=Mh (s1_.getD CZ.toNat bj) (s2_.getD CZ.toNat bj) hl5;by_cases e6:JH=0
   ·rw [if_pos e6]at h
    obtain rfl:=Option.some.inj h
    simp (maxDischargeDepth:=9) only [↓AQ,AR,Aj,↓reduceIte,bk,bl,bm,bo,bp,br,bt,bw,bx,bO,b3,b4,b5,b6,b7,b8,b9,m0,m1,m2,m3,m4,e1,e2.1,e2.2,e3,e4.1,e4.2,c5,decide_eq_true e6,BD,BF,Cx,Cy,Cz]<;>(repeat' apply A7)<;>first|rfl|exact⟨_,rfl⟩|exact⟨_,_,rfl⟩|simp [AP,AC]
   ·rw [if_neg e6]at h
    obtain rfl:=Option.some.inj h
    simp (maxDischargeDepth:=9) only [↓AQ,AR,Aj,↓reduceIte,bk,bl,bm,bo,bp,br,bt,bw,bx,bO,b3,b4,b5,b6,b7,b8,b9,m0,m1,m2,m3,m4,e1,e2.1,e2.2,e3,e4.1,e4.2,c5,e6,BD,BF,Cx,Cy,Cz]<;>(repeat' apply A7)<;>first|rfl|exact⟨_,rfl⟩|exact⟨_,_,rfl⟩|simp [AP,AC]
 ·rw [if_neg e1]at h
  obtain rfl:=Option.some.inj h
  simp (maxDischargeDepth:=9) only [↓AQ,AR,Aj,↓reduceIte,bk,bl,bm,bo,bp,br,bt,bw,bx,bO,b3,b4,b5,b6,b7,b8,b9,m0,m1,m2,m3,m4,e1,BD,BF,Cx,Cy,Cz]<;>(repeat' apply A7)<;>first|rfl|exact⟨_,rfl⟩|exact⟨_,_,rfl⟩|simp [AP,AC]
theorem Fz(s1_:AU)(s2_:AU){r:Int}(h:Bo s1_ s2_=some r):Y.call 145 [ca 3 (AP (bh .i64) s1_),ca 3 (AP (bh .i64) s2_)] []=some (bh .i64 r,[]):=by
 refine ADV ?_ rfl;unfold A1a;unfold Bo at h;obtain⟨AV,hl2,h⟩:=Ao h;try dsimp only at h
 simp (maxDischargeDepth:=9) only [↓AQ,AR,Aj,↓reduceIte,bk,bl,bm,bo,bp,br,bt,bw,bx,bO,b3,b4,b5,b6,b7,b8,b9];refine Bc (JW s1_ s2_ hl2 ?_) ?_
 ·simp (maxDischargeDepth:=9) only [↓AQ,AR,Aj,↓reduceIte,bk,bl,bm,bo,bp,br,bt,bw,bx,bO,b3,b4,b5,b6,b7,b8,b9,BD]<;>(repeat' apply A7)<;>first|rfl|exact⟨_,rfl⟩|exact⟨_,_,rfl⟩|simp [AP,AC]
 ·intro ex2 s2 hX2;rcases AV with q1000_|q1000_
  ·unfold BF at hX2;dsimp only at hX2 h;obtain⟨rfl,n2_0⟩:=hX2
   obtain rfl:=Option.some.inj h
   simp (maxDischargeDepth:=9) only [↓AQ,AR,Aj,↓reduceIte,bk,bl,bm,bo,bp,br,bt,bw,bx,bO,b3,b4,b5,b6,b7,b8,b9,n2_0]<;>(repeat' apply A7)<;>first|rfl|exact⟨_,rfl⟩|exact⟨_,_,rfl⟩|simp [AP,AC]
  ·unfold BF at hX2;dsimp only at hX2 h;obtain⟨rfl,n2_0,n2_1⟩:=hX2;by_cases e3:(s1_.length:Int)<(s2_.length:Int)
   ·rw [if_pos e3]at h
    obtain rfl:=Option.some.inj h
    simp (maxDischargeDepth:=9) only [↓AQ,AR,Aj,↓reduceIte,bk,bl,bm,bo,bp,br,bt,bw,bx,bO,b3,b4,b5,b6,b7,b8,b9,n2_0,n2_1,e3]<;>(repeat' apply A7)<;>first|rfl|exact⟨_,rfl⟩|exact⟨_,_,rfl⟩|simp [AP,AC]
   ·rw [if_neg e3]at h
    obtain rfl:=Option.some.inj h
    simp (maxDischargeDepth:=9) only [↓AQ,AR,Aj,↓reduceIte,bk,bl,bm,bo,bp,br,bt,bw,bx,bO,b3,b4,b5,b6,b7,b8,b9,n2_0,n2_1,e3]<;>(repeat' apply A7)<;>first|rfl|exact⟨_,rfl⟩|exact⟨_,_,rfl⟩|simp [AP,AC]
theorem R8(x y:Int):FH x y=some (if x<y then-1 else if y<x then 1 else 0):=by
 unfold FH De;by_cases h1:x<y<;>by_cases h2:y<x<;>simp [h1,h2]
theorem W9: ∀(a b p q:AU),p.length=q.length→p.length+a.length<1099511627776→q.length+b.length<1099511627776→
  (BL (p++a) (q++b) (p.length:Int)).bind (fun r=>match r with| .inl q2=>some q2| .inr _=>if((p++a).length:Int)<((q++b).length:Int)then some (-1)else some 0)=some (FX a b):=by
 intro a
 induction a with
 |nil=>
  intro b p q hpq ha hb;unfold BL;rw [FZ (r:=cc ())]
  ·simp only [Dh,La,Ow,hpq]
   cases b with
   |nil=>rw [if_neg (by simp)];rfl
   |cons y b=>rw [if_pos (by simp;omega)];rfl
  ·simp only [BV];rw [if_neg (Sw _)]
 |cons x a ih=>
  intro b p q hpq ha hb;simp only [KZ]at ha hb;have ex:(p++x::a).getD (p.length:Int).toNat bj=x:=by rw [ML];exact Fg p (x::a) p.length rfl (by simp)
  cases b with
  |nil=>
   unfold BL;rw [FZ (r:=cd 1)]
   ·rfl
   ·simp only [BV];rw [if_pos (Qs ..),Ce (Qt ..),if_pos (by simp;omega)]
  |cons y b=>
   simp only [KZ]at hb;have ey:(q++y::b).getD (p.length:Int).toNat bj=y:=by rw [ML,hpq];exact Fg q (y::b) q.length rfl (by simp)
   have step:BV (p++x::a) (q++y::b) (p.length:Int)=if x=y then some (.inl (((p++[x]).length:Nat):Int))else some (.inr (.inl (if x<y then-1 else 1))):=by
    unfold BV;rw [if_pos (Qs ..),Ce (Qt ..),if_neg (by simp;omega),Ce (by simp;omega),ex,ey,R8,Dh,Md _ (by omega)]
    by_cases h1:x=y
    ·subst h1;simp
    ·rw [if_neg h1];by_cases h2:x<y
     ·simp [h2]
     ·have h3:y<x:=by omega
      simp [h2,h3]
   unfold FX;by_cases h1:x=y
   ·rw [if_pos h1];rw [if_pos h1]at step;have:=ih b (p++[x]) (q++[y]) (by simp [hpq]) (by simp;omega) (by simp;omega)
    unfold BL at this ⊢;rw [JB step];simpa using this
   ·rw [if_neg h1];rw [if_neg h1]at step;unfold BL;rw [FZ step];rfl
theorem Gf(a b:AU)(ha:a.length<1099511627776)(hb:b.length<1099511627776):Bo a b=some (FX a b):=by
 have:=W9 a b [] [] rfl (by simpa using ha) (by simpa using hb)
 unfold Bo;simp only [Je,Oy,Ie]at this;exact this
theorem KE(s1_:AU)(s2_:AU)(h0:s1_.length<1099511627776)(h1:s2_.length<1099511627776):Y.call 145 [ca 3 (AP (bh .i64) s1_),ca 3 (AP (bh .i64) s2_)] []=some (bh .i64 (FX s1_ s2_),[]):=Fz s1_ s2_ (Gf s1_ s2_ h0 h1)
def Nr(n_:Int):Option (Int):= if 0<n_ then some 1 else if n_<0 then some (-1) else some 0
def A1b:SC:= .seq (.ops [oX 2 (.assign (iK 0)) 3]) (.seq (.block 0 (.seq (.ops [oM 4 0 3,oB 5 .gtr 3 (tK 4) (iK 0) 3 4,oA 3 5 4]) (.cond (tK 3) (.seq (.ops [oX 2 (.assign (iK 1)) 3]) .ret) (.seq (.ops [oM 7 0 3,oB 8 .lss 3 (tK 7) (iK 0) 3 4,oA 6 8 4]) (.cond (tK 6) (.seq (.ops [oX 2 UU 3]) .ret) .skip))))) (.seq (.ops [oX 2 (.assign (iK 0)) 3]) .ret))
theorem qh:Try.f165.body.map (Bt lends)=some A1b:=by kernel_rfl
theorem A8U:CW Try.f165 1=true:=by kernel_rfl
theorem ADW{a l:List D}{r:D×List D}(h:CU Y.env A1b (Gq AZ l.length [ci 2] r) (entry a l))(ha:a.length=1):Y.call 165 a l=some r:=
 AY (Y:=Y) rfl Try.func165 (ha▸A8U) qh h
theorem WA(n_:Int){r:Int}(h:Nr n_=some r):Y.call 165 [bh .i64 n_] []=some (bh .i64 r,[]):=by
 refine ADW ?_ rfl;unfold A1b;unfold Nr at h;by_cases e1:0<n_
 ·rw [if_pos e1]at h
  obtain rfl:=Option.some.inj h
  simp (maxDischargeDepth:=9) only [↓AQ,AR,Aj,↓reduceIte,bk,bl,bm,bo,bp,br,bt,bw,bx,bO,b3,b4,b5,b6,b7,b8,b9,e1]<;>(repeat' apply A7)<;>first|rfl|exact⟨_,rfl⟩|exact⟨_,_,rfl⟩|simp [AP,AC]
 ·rw [if_neg e1]at h;by_cases e2:n_<0
  ·rw [if_pos e2]at h
   obtain rfl:=Option.some.inj h
   simp (maxDischargeDepth:=9) only [↓AQ,AR,Aj,↓reduceIte,bk,bl,bm,bo,bp,br,bt,bw,bx,bO,b3,b4,b5,b6,b7,b8,b9,e1,e2]<;>(repeat' apply A7)<;>first|rfl|exact⟨_,rfl⟩|exact⟨_,_,rfl⟩|simp [AP,AC]
  ·rw [if_neg e2]at h
   obtain rfl:=Option.some.inj h
   simp (maxDischargeDepth:=9) only [↓AQ,AR,Aj,↓reduceIte,bk,bl,bm,bo,bp,br,bt,bw,bx,bO,b3,b4,b5,b6,b7,b8,b9,e1,e2]<;>(repeat' apply A7)<;>first|rfl|exact⟨_,rfl⟩|exact⟨_,_,rfl⟩|simp [AP,AC]
def G5(a:AU)(b:AU)(MC:Int):Option ((Int)⊕(Int⊕Unit)):= if MC<(a.length:Int)then ck (0≤MC∧MC.toNat<a.length)<| ck (0≤MC∧MC.toNat<b.length)<| if(a.getD MC.toNat bj)=(b.getD MC.toNat bj)then some (cd (cb.wrap (MC+1))) else (Nr (cb.wrap ((a.getD MC.toNat bj)-(b.getD MC.toNat bj)))).bind fun JH=> some (cc (cd JH)) else some (cc (cc ()))
def GL(a:AU)(b:AU)(v:Int):Option (Int⊕Unit):=JZ (fun v=>G5 a b v) v
def OP(a:AU)(b:AU):Option (Int):=
 (GL a b 0).bind fun AV=>
 match AV with
 | .inl q1000_=>
  some q1000_
 | .inr q1000_=>
  some 0
def Ul:SC:= .seq (.ops [oB 10 .lss 3 (tK 9) (tK 8) 3 0]) (.seq (.cond (tK 10) .skip (.exit 0)) (.seq (.block 1 (.seq (.ops [oM 11 9 3,oI 12 26 7 9,oL 13 3 12 3,oA 5 11 3,oA 6 13 3]) (.seq (.ops [oM 14 6 3,oM 15 1 26,oM 16 5 3,oI 17 26 15 16,oL 18 3 17 3,oB 19 .neq 3 (tK 14) (tK 18) 3 4]) (.cond (tK 19) (.seq (.ops [oM 20 6 3,oM 21 1 26,oM 22 5 3,oI 23 26 21 22,oL 24 3 23 3,oB 25 .sub 3 (tK 20) (tK 24) 3 3,oC 26 165 [(tK 25)] [3] 3,oA 4 26 3]) .ret) .skip)))) (.ops [oB 27 .add 3 (tK 9) (iK 1) 3 3,oM 9 27 3])))
def fZ:SC:= .loop Ul
def A1c:SC:= .seq (.ops [oX 4 (.assign (iK 0)) 3]) (.seq (.seq (.ops [oM 7 0 26,oN 8 7 26,oX 9 (.move (iK 0)) 3]) (.block 0 fZ)) (.seq (.ops [oX 4 (.assign (iK 0)) 3]) .ret))
theorem qi:Try.f138.body.map (Bt lends)=some A1c:=by kernel_rfl
theorem A8V:CW Try.f138 2=true:=by kernel_rfl
theorem ADX{a l:List D}{r:D×List D}(h:CU Y.env A1c (Gq AZ l.length [ci 4] r) (entry a l))(ha:a.length=2):Y.call 138 a l=some r:=
 AY (Y:=Y) rfl Try.func138 (ha▸A8V) qi h
def Ef(a:AU)(b:AU)(MC:Int)(s:St):Prop:=s.v 1=ca 3 (AP (bh .i64) b)∧s.v 7=ca 3 (AP (bh .i64) a)∧s.v 8=bh .i64 (a.length:Int)∧s.v 9=bh .i64 MC
def Eg(a:AU)(b:AU)(r:Int⊕Unit)(ex:Ex)(s:St):Prop:=match r with
 | .inl q=>ex= .ret∧s.v 4=bh .i64 q
 | .inr q=>ex= .exit 0
theorem SY(a:AU)(b:AU){v:Int}{s:St}{r:Int⊕Unit}(h:GL a b v=some r)(hM:Ef a b v s):CU Y.env fZ (Eg a b r) s:=by
 unfold GL at h;refine CF (c:=Ul) (fun v=>G5 a b v) (fun v s=>Ef a b v s) (Eg a b) ?_ h hM;clear h hM s v r;intro MC s o hM h;unfold G5 at h;unfold Ef at hM;obtain⟨m0,m1,m2,m3⟩:=hM;unfold Ul;by_cases e1:MC<(a.length:Int)
 ·rw [if_pos e1]at h;obtain⟨e2,h⟩:=Cb h;obtain⟨e3,h⟩:=Cb h;by_cases e4:(a.getD MC.toNat bj)=(b.getD MC.toNat bj)
  ·rw [if_pos e4]at h
   obtain rfl:=Option.some.inj h
   simp (maxDischargeDepth:=9) only [↓AQ,AR,Aj,↓reduceIte,bk,bl,bm,bo,bp,br,bt,bw,bx,bO,b3,b4,b5,b6,b7,b8,b9,m0,m1,m2,m3,e1,e2.1,e2.2,e3.1,e3.2,decide_eq_true e4,Ef,Eg,Cx,Cy,Cz]<;>(repeat' apply A7)<;>first|rfl|exact⟨_,rfl⟩|exact⟨_,_,rfl⟩|simp [AP,AC]
  ·rw [if_neg e4]at h;obtain⟨JH,hl5,h⟩:=Ao h;try dsimp only at h
   have c5:=WA (cb.wrap ((a.getD MC.toNat bj)-(b.getD MC.toNat bj))) hl5
   obtain rfl:=Option.some.inj h
   simp (maxDischargeDepth:=9) only [↓AQ,AR,Aj,↓reduceIte,bk,bl,bm,bo,bp,br,bt,bw,bx,bO,b3,b4,b5,b6,b7,b8,b9,m0,m1,m2,m3,e1,e2.1,e2.2,e3.1,e3.2,e4,c5,Ef,Eg,Cx,Cy,Cz]<;>(repeat' apply A7)<;>first|rfl|exact⟨_,rfl⟩|exact⟨_,_,rfl⟩|simp [AP,AC]
 ·rw [if_neg e1]at h
  obtain rfl:=Option.some.inj h
  simp (maxDischargeDepth:=9) only [↓AQ,AR,Aj,↓reduceIte,bk,bl,bm,bo,bp,br,bt,bw,bx,bO,b3,b4,b5,b6,b7,b8,b9,m0,m1,m2,m3,e1,Ef,Eg,Cx,Cy,Cz]<;>(repeat' apply A7)<;>first|rfl|exact⟨_,rfl⟩|exact⟨_,_,rfl⟩|simp [AP,AC]
theorem Um(a:AU)(b:AU){r:Int}(h:OP a b=some r):Y.call 138 [ca 3 (AP (bh .i64) a),ca 3 (AP (bh .i64) b)] []=some (bh .i64 r,[]):=by
 refine ADX ?_ rfl;unfold A1c;unfold OP at h;obtain⟨AV,hl2,h⟩:=Ao h;try dsimp only at h
 simp (maxDischargeDepth:=9) only [↓AQ,AR,Aj,↓reduceIte,bk,bl,bm,bo,bp,br,bt,bw,bx,bO,b3,b4,b5,b6,b7,b8,b9];refine Bc (SY a b hl2 ?_) ?_
 ·simp (maxDischargeDepth:=9) only [↓AQ,AR,Aj,↓reduceIte,bk,bl,bm,bo,bp,br,bt,bw,bx,bO,b3,b4,b5,b6,b7,b8,b9,Ef]<;>(repeat' apply A7)<;>first|rfl|exact⟨_,rfl⟩|exact⟨_,_,rfl⟩|simp [AP,AC]
 ·intro ex2 s2 hX2;rcases AV with q1000_|q1000_
  ·unfold Eg at hX2;dsimp only at hX2 h;obtain⟨rfl,n2_0⟩:=hX2
   obtain rfl:=Option.some.inj h
   simp (maxDischargeDepth:=9) only [↓AQ,AR,Aj,↓reduceIte,bk,bl,bm,bo,bp,br,bt,bw,bx,bO,b3,b4,b5,b6,b7,b8,b9,n2_0]<;>(repeat' apply A7)<;>first|rfl|exact⟨_,rfl⟩|exact⟨_,_,rfl⟩|simp [AP,AC]
  ·unfold Eg at hX2;dsimp only at hX2 h
   obtain rfl:=hX2
   obtain rfl:=Option.some.inj h
   simp (maxDischargeDepth:=9) only [↓AQ,AR,Aj,↓reduceIte,bk,bl,bm,bo,bp,br,bt,bw,bx,bO,b3,b4,b5,b6,b7,b8,b9]<;>(repeat' apply A7)<;>first|rfl|exact⟨_,rfl⟩|exact⟨_,_,rfl⟩|simp [AP,AC]
def KF(l:AU):Bool:=Ir l (-1099511627776) 1099511627776
theorem Un{l:AU}(h:KF l=true){x:Int}(hx:x∈l): -1099511627776≤x∧x≤1099511627776:=by
 have:=Hr.1 h x hx;exact LP.1 this
theorem X6{l:AU}{lo hi:Int}(h:Ir l lo hi=true)(h1: -1099511627776≤lo)(h2:hi≤1099511627776):KF l=true:=by
 refine Hr.2 fun x hx=> ?_;have:=LP.1 (Hr.1 h x hx)
 exact LP.2 ⟨by omega,by omega⟩
theorem aP(n:Int):Nr n=some (if n<0 then-1 else if 0<n then 1 else 0):=by
 unfold Nr;by_cases h1:n<0<;>by_cases h2:0<n<;>simp [h1,h2]<;>omega
theorem aQ: ∀(a b p q:AU),p.length=q.length→a.length=b.length→p.length+a.length<1099511627776→KF a=true→KF b=true→
  (GL (p++a) (q++b) (p.length:Int)).bind (fun r=>match r with| .inl q2=>some q2| .inr _=>some 0)=some (FX a b):=by
 intro a
 induction a with
 |nil=>
  intro b p q hpq hab ha h1 h2;have:b=[]:=by cases b with|nil=>rfl|cons _ _=>simp at hab
  subst this;unfold GL;rw [FZ (r:=cc ())]
  ·rfl
  ·simp only [G5];rw [if_neg (Sw _)]
 |cons x a ih=>
  intro b p q hpq hab ha h1 h2
  cases b with
  |nil=>simp at hab
  |cons y b=>
   simp only [KZ]at ha hab;have sx1:=Un h1 (KY ..);have sy1:=Un h2 (KY ..);have ex:(p++x::a).getD (p.length:Int).toNat bj=x:=by rw [ML];exact Fg p (x::a) p.length rfl (by simp)
   have ey:(q++y::b).getD (p.length:Int).toNat bj=y:=by rw [ML,hpq];exact Fg q (y::b) q.length rfl (by simp)
   have step:G5 (p++x::a) (q++y::b) (p.length:Int)=if x=y then some (.inl (((p++[x]).length:Nat):Int))else some (.inr (.inl (if x<y then-1 else 1))):=by
    unfold G5;rw [if_pos (Qs ..),Ce (Qt ..),Ce (by simp;omega),ex,ey,Md _ (by omega),JA _ (by omega),aP,Dh]
    by_cases h1:x=y
    ·subst h1;simp
    ·rw [if_neg h1,if_neg h1];by_cases h2:x<y
     ·rw [if_pos (by omega),if_pos h2]
     ·rw [if_neg (by omega),if_pos (by omega),if_neg h2]
   have s1:KF a=true:=Hr.2 fun z hz=>Hr.1 h1 z (Jd _ hz);have s2:KF b=true:=Hr.2 fun z hz=>Hr.1 h2 z (Jd _ hz);unfold FX;by_cases h1:x=y
   ·rw [if_pos h1];rw [if_pos h1]at step;have:=ih b (p++[x]) (q++[y]) (by simp [hpq]) (by omega) (by simp;omega) s1 s2
    unfold GL at this ⊢;rw [JB step];simpa using this
   ·rw [if_neg h1];rw [if_neg h1]at step;unfold GL;rw [FZ step];rfl
theorem YH(a b:AU)(ha:a.length<1099511627776)(hab:a.length=b.length)(h1:KF a=true)(h2:KF b=true):OP a b=some (FX a b):=by
 have:=aQ a b [] [] rfl hab (by simpa using ha) h1 h2
 unfold OP;simp only [Je,Oy,Ie]at this;exact this
theorem YI(a:AU)(b:AU)(h0:a.length<1099511627776)(h1:a.length=b.length)(h2:KF a=true)(h3:KF b=true):Y.call 138 [ca 3 (AP (bh .i64) a),ca 3 (AP (bh .i64) b)] []=some (bh .i64 (FX a b),[]):=Um a b (YH a b h0 h1 h2 h3)
def Le(l:AX)(size labels:Int)(i:Nat):Bool:=
 ((decide (((l.getD i bj).length:Int)=size)&&Ep (l.getD i bj))&&Ir (l.getD i bj) 0 (labels-1))&&(decide (i=0)||decide (FX (l.getD (i-1) bj) (l.getD i bj)<0))
def IB(l:AX)(size labels:Int):Bool:=(an l.length).all (Le l size labels)
def Il(labels degree:Int)(ns es:AX):Bool:=((Np labels 1 8&&Np degree 1 4)&&IB ns degree labels)&&IB es 2 labels
theorem BR.getD{l:AX}(h:BR l)(i:Nat):(l.getD i bj).length<1099511627776:=by
 rcases Nat.lt_or_ge i l.length with hi|hi
 ·rw [DF _ _ hi];exact h.at i hi
 ·rw [MJ,List.getElem?_eq_none hi];decide
def Cc(list:AX)(size:Int)(labels:Int)(CZ:Int):Option ((Int)⊕(Unit⊕Unit)):= if CZ<(list.length:Int)then ck (0≤CZ∧CZ.toNat<list.length)<| if((list.getD CZ.toNat bj).length:Int)=size then ck ((list.getD CZ.toNat bj).length<1099511627776)<| if(Ep (list.getD CZ.toNat bj))=true then if(Ir (list.getD CZ.toNat bj) (0:Int) (cb.wrap (labels-1)))=true then if 0<CZ then ck (0≤cb.wrap (CZ-1)∧(cb.wrap (CZ-1)).toNat<list.length)<| ck ((list.getD ((cb.wrap (CZ-1)).toNat) bj).length<1099511627776)<| if 0≤(FX (list.getD ((cb.wrap (CZ-1)).toNat) bj) (list.getD CZ.toNat bj))then some (cc (cd ())) else some (cd (cb.wrap (CZ+1))) else some (cd (cb.wrap (CZ+1))) else some (cc (cd ())) else some (cc (cd ())) else some (cc (cd ())) else some (cc (cc ()))
def Er(list:AX)(size:Int)(labels:Int)(v:Int):Option (Unit⊕Unit):=JZ (fun v=>Cc list size labels v) v
def GM(list:AX)(size:Int)(labels:Int):Option (Bool):=
 (Er list size labels 0).bind fun AV=>
 match AV with
 | .inl q1000_=>
  some false
 | .inr q1000_=>
  some true
def YJ:SC:= .seq (.ops [oB 12 .lss 3 (tK 11) (tK 10) 3 0]) (.seq (.cond (tK 12) .skip (.exit 0)) (.seq (.block 1 (.seq (.ops [oM 13 11 3,oI 14 22 9 11,oL 15 26 14 26,oA 7 13 3,oA 8 15 26]) (.seq (.ops [oM 16 8 26,oN 17 16 26,oM 18 1 3,oB 19 .neq 3 (tK 17) (tK 18) 3 4,oM 20 19 4,⟨(some 21),(.move (tK 8)),26,(some (some 20,false))⟩,⟨(some 22),(.call ⟨(.value (.func 143)), #[(tK 21)], #[26]⟩),4,(some (some 20,false))⟩,⟨(some 23),(.unOp .not 4 (tK 22)),4,(some (some 20,false))⟩,oX 24 (.pick (tK 20) H6 (tK 23)) 4,oM 25 24 4,⟨(some 26),(.move (tK 8)),26,(some (some 25,false))⟩,⟨(some 27),(.move (tK 2)),3,(some (some 25,false))⟩,⟨(some 28),(.binOp .sub 3 (tK 27) (iK 1) 3),3,(some (some 25,false))⟩,⟨(some 29),(.call ⟨(.value (.func 144)), #[(tK 26),(iK 0),(tK 28)], #[26,3,3]⟩),4,(some (some 25,false))⟩,⟨(some 30),(.unOp .not 4 (tK 29)),4,(some (some 25,false))⟩,oX 31 (.pick (tK 25) H6 (tK 30)) 4,oM 32 31 4,⟨(some 33),(.move (tK 7)),3,(some (some 32,false))⟩,⟨(some 34),(.binOp .gtr 3 (tK 33) (iK 0) 3),4,(some (some 32,false))⟩,⟨(some 35),(.move (tK 34)),4,(some (some 32,false))⟩,⟨(some 36),(.move (tK 0)),22,(some (some 35,true))⟩,⟨(some 37),(.move (tK 7)),3,(some (some 35,true))⟩,
 ⟨(some 38),(.binOp .sub 3 (tK 37) (iK 1) 3),3,(some (some 35,true))⟩,⟨(some 39),(.indexAddr 22 (tK 36) (tK 38)),0,(some (some 35,true))⟩,⟨(some 40),(.load 26 (tK 39)),26,(some (some 35,true))⟩,⟨(some 41),(.move (tK 8)),26,(some (some 35,true))⟩,⟨(some 42),(.call ⟨(.value (.func 145)), #[(tK 40),(tK 41)], #[26,26]⟩),3,(some (some 35,true))⟩,⟨(some 43),(.binOp .geq 3 (tK 42) (iK 0) 3),4,(some (some 35,true))⟩,⟨(some 44),(.pick (tK 35) (tK 43) OZ),4,(some (some 32,false))⟩,oX 45 (.pick (tK 32) H6 (tK 44)) 4]) (.cond (tK 45) (.seq (.ops [oX 6 CX 4]) .ret) .skip)))) (.ops [oB 46 .add 3 (tK 11) (iK 1) 3 3,oM 11 46 3])))
def nC:SC:= .loop YJ
def k98:SC:= .seq (.ops [oX 6 CX 4]) (.seq (.seq (.ops [oM 9 0 22,oN 10 9 22,oX 11 (.move (iK 0)) 3]) (.block 0 nC)) (.seq (.ops [oX 6 (.assign H6) 4]) .ret))
theorem A1d:Try.f98.body.map (Bt lends)=some k98:=by kernel_rfl
theorem ADZ:CW Try.f98 3=true:=by kernel_rfl
theorem c98{a l:List D}{r:D×List D}(h:CU Y.env k98 (Gq AZ l.length [ci 6] r) (entry a l))(ha:a.length=3):Y.call 98 a l=some r:=
 AY (Y:=Y) rfl Try.func98 (ha▸ADZ) A1d h
def BG(list:AX)(size:Int)(labels:Int)(CZ:Int)(s:St):Prop:=s.v 0=ca 26 (AP CO list)∧s.v 1=bh .i64 size∧s.v 2=bh .i64 labels∧s.v 9=ca 26 (AP CO list)∧s.v 10=bh .i64 (list.length:Int)∧s.v 11=bh .i64 CZ
def BH(list:AX)(size:Int)(labels:Int)(r:Unit⊕Unit)(ex:Ex)(s:St):Prop:=match r with
 | .inl q=>ex= .ret∧s.v 6=cf false
 | .inr q=>ex= .exit 0
theorem Lf(list:AX)(size:Int)(labels:Int){v:Int}{s:St}{r:Unit⊕Unit}(h:Er list size labels v=some r)(hM:BG list size labels v s):CU Y.env nC (BH list size labels r) s:=by
 unfold Er at h;refine CF (c:=YJ) (fun v=>Cc list size labels v) (fun v s=>BG list size labels v s) (BH list size labels) ?_ h hM;clear h hM s v r;intro CZ s o hM h;unfold Cc at h;unfold BG at hM;obtain⟨m0,m1,m2,m3,m4,m5⟩:=hM;unfold YJ;by_cases e1:CZ<(list.length:Int)
 ·rw [if_pos e1]at h;obtain⟨e2,h⟩:=Cb h;by_cases e3:((list.getD CZ.toNat bj).length:Int)=size
  ·rw [if_pos e3]at h;obtain⟨e4,h⟩:=Cb h;have c5:=K7 (list.getD CZ.toNat bj) e4;by_cases e6:(Ep (list.getD CZ.toNat bj))=true
   ·rw [if_pos e6]at h;have c7:=Ui (list.getD CZ.toNat bj) (0:Int) (cb.wrap (labels-1)) e4;by_cases e8:(Ir (list.getD CZ.toNat bj) (0:Int) (cb.wrap (labels-1)))=true
    ·rw [if_pos e8]at h;by_cases e9:0<CZ
     ·rw [if_pos e9]at h;obtain⟨e10,h⟩:=Cb h;obtain⟨e11,h⟩:=Cb h;have aM:=KE (list.getD ((cb.wrap (CZ-1)).toNat) bj) (list.getD CZ.toNat bj) e11 e4;by_cases e13:0≤(FX (list.getD ((cb.wrap (CZ-1)).toNat) bj) (list.getD CZ.toNat bj))
      ·rw [if_pos e13]at h
       obtain rfl:=Option.some.inj h
       simp (maxDischargeDepth:=9) only [↓AQ,AR,Aj,↓reduceIte,bk,bl,bm,bo,bp,br,bt,bw,bx,bO,b3,b4,b5,b6,b7,b8,b9,m0,m1,m2,m3,m4,m5,e1,e2.1,e2.2,decide_eq_true e3,e4,c5,e6,c7,e8,e9,e10.1,e10.2,e11,aM,e13,BG,BH,Cx,Cy,Cz]<;>(repeat' apply A7)<;>first|rfl|exact⟨_,rfl⟩|exact⟨_,_,rfl⟩|simp [AP,AC]
      ·rw [if_neg e13]at h
       obtain rfl:=Option.some.inj h
       simp (maxDischargeDepth:=9) only [↓AQ,AR,Aj,↓reduceIte,bk,bl,bm,bo,bp,br,bt,bw,bx,bO,b3,b4,b5,b6,b7,b8,b9,m0,m1,m2,m3,m4,m5,e1,e2.1,e2.2,decide_eq_true e3,e4,c5,e6,c7,e8,e9,e10.1,e10.2,e11,aM,e13,BG,BH,Cx,Cy,Cz]<;>(repeat' apply A7)<;>first|rfl|exact⟨_,rfl⟩|exact⟨_,_,rfl⟩|simp [AP,AC]
     ·rw [if_neg e9]at h
      obtain rfl:=Option.some.inj h
      simp (maxDischargeDepth:=9) only [↓AQ,AR,Aj,↓reduceIte,bk,bl,bm,bo,bp,br,bt,bw,bx,bO,b3,b4,b5,b6,b7,b8,b9,m0,m1,m2,m3,m4,m5,e1,e2.1,e2.2,decide_eq_true e3,e4,c5,e6,c7,e8,e9,BG,BH,Cx,Cy,Cz]<;>(repeat' apply A7)<;>first|rfl|exact⟨_,rfl⟩|exact⟨_,_,rfl⟩|simp [AP,AC]
    ·rw [if_neg e8]at h;have e8f:(Ir (list.getD CZ.toNat bj) (0:Int) (cb.wrap (labels-1)))=false:=Iw.mpr e8
     obtain rfl:=Option.some.inj h
     simp (maxDischargeDepth:=9) only [↓AQ,AR,Aj,↓reduceIte,bk,bl,bm,bo,bp,br,bt,bw,bx,bO,b3,b4,b5,b6,b7,b8,b9,m0,m1,m2,m3,m4,m5,e1,e2.1,e2.2,decide_eq_true e3,e4,c5,e6,c7,e8f,BG,BH,Cx,Cy,Cz]<;>(repeat' apply A7)<;>first|rfl|exact⟨_,rfl⟩|exact⟨_,_,rfl⟩|simp [AP,AC]
   ·rw [if_neg e6]at h;have e6f:(Ep (list.getD CZ.toNat bj))=false:=Iw.mpr e6
    obtain rfl:=Option.some.inj h
    simp (maxDischargeDepth:=9) only [↓AQ,AR,Aj,↓reduceIte,bk,bl,bm,bo,bp,br,bt,bw,bx,bO,b3,b4,b5,b6,b7,b8,b9,m0,m1,m2,m3,m4,m5,e1,e2.1,e2.2,decide_eq_true e3,e4,c5,e6f,BG,BH,Cx,Cy,Cz]<;>(repeat' apply A7)<;>first|rfl|exact⟨_,rfl⟩|exact⟨_,_,rfl⟩|simp [AP,AC]
  ·rw [if_neg e3]at h
   obtain rfl:=Option.some.inj h
   simp (maxDischargeDepth:=9) only [↓AQ,AR,Aj,↓reduceIte,bk,bl,bm,bo,bp,br,bt,bw,bx,bO,b3,b4,b5,b6,b7,b8,b9,m0,m1,m2,m3,m4,m5,e1,e2.1,e2.2,e3,BG,BH,Cx,Cy,Cz]<;>(repeat' apply A7)<;>first|rfl|exact⟨_,rfl⟩|exact⟨_,_,rfl⟩|simp [AP,AC]
 ·rw [if_neg e1]at h
  obtain rfl:=Option.some.inj h
  simp (maxDischargeDepth:=9) only [↓AQ,AR,Aj,↓reduceIte,bk,bl,bm,bo,bp,br,bt,bw,bx,bO,b3,b4,b5,b6,b7,b8,b9,m0,m1,m2,m3,m4,m5,e1,BG,BH,Cx,Cy,Cz]<;>(repeat' apply A7)<;>first|rfl|exact⟨_,rfl⟩|exact⟨_,_,rfl⟩|simp [AP,AC]
theorem ME(list:AX)(size:Int)(labels:Int){r:Bool}(h:GM list size labels=some r):Y.call 98 [ca 26 (AP CO list),bh .i64 size,bh .i64 labels] []=some (cf r,[]):=by
 refine c98 ?_ rfl;unfold k98;unfold GM at h;obtain⟨AV,hl2,h⟩:=Ao h;try dsimp only at h
 simp (maxDischargeDepth:=9) only [↓AQ,AR,Aj,↓reduceIte,bk,bl,bm,bo,bp,br,bt,bw,bx,bO,b3,b4,b5,b6,b7,b8,b9];refine Bc (Lf list size labels hl2 ?_) ?_
 ·simp (maxDischargeDepth:=9) only [↓AQ,AR,Aj,↓reduceIte,bk,bl,bm,bo,bp,br,bt,bw,bx,bO,b3,b4,b5,b6,b7,b8,b9,BG]<;>(repeat' apply A7)<;>first|rfl|exact⟨_,rfl⟩|exact⟨_,_,rfl⟩|simp [AP,AC]
 ·intro ex2 s2 hX2;rcases AV with q1000_|q1000_
  ·unfold BH at hX2;dsimp only at hX2 h;obtain⟨rfl,n2_0⟩:=hX2
   obtain rfl:=Option.some.inj h
   simp (maxDischargeDepth:=9) only [↓AQ,AR,Aj,↓reduceIte,bk,bl,bm,bo,bp,br,bt,bw,bx,bO,b3,b4,b5,b6,b7,b8,b9,n2_0]<;>(repeat' apply A7)<;>first|rfl|exact⟨_,rfl⟩|exact⟨_,_,rfl⟩|simp [AP,AC]
  ·unfold BH at hX2;dsimp only at hX2 h
   obtain rfl:=hX2
   obtain rfl:=Option.some.inj h
   simp (maxDischargeDepth:=9) only [↓AQ,AR,Aj,↓reduceIte,bk,bl,bm,bo,bp,br,bt,bw,bx,bO,b3,b4,b5,b6,b7,b8,b9]<;>(repeat' apply A7)<;>first|rfl|exact⟨_,rfl⟩|exact⟨_,_,rfl⟩|simp [AP,AC]
theorem N8(l:AX)(size labels:Int)(h:BR l)(hl:1≤labels∧labels≤8):GM l size labels=some (IB l size labels):=by
 have h1:=h.1;unfold GM Er;have key:=Jm (fun v=>Cc l size labels v) (fun i=>(i:Int)) l.length (Le l size labels) (.inl ()) (.inr ()) ?_ ?_
 ·simp only [Ie]at key;rw [key];unfold IB
  cases (an l.length).all (Le l size labels)<;>rfl
 ·intro i hi;simp only [Cc];rw [if_pos (EP hi),Ce (Ea hi),ML,Md i (by omega),JA (labels-1) (by omega)]
  have hs:=h.getD i;have hs1:=h.getD (i-1);rw [Ce hs];unfold Le;generalize l.getD i bj=x at*;by_cases q1:(x.length:Int)=size
  ·rw [if_pos q1]
   cases q2:Ep x with
   |false=>simp
   |true=>
    rw [if_pos rfl]
    cases q3:Ir x 0 (labels-1)with
    |false=>simp
    |true=>
     rw [if_pos rfl];by_cases q4:i=0
     ·simp [q1,q4]
     ·rw [if_pos (by omega),JA _ (by omega),Ce (by omega),show((i:Int)-1).toNat=i-1 by omega,Ce hs1]
      generalize l.getD (i-1) bj=y at*;by_cases q5:0≤FX y x
      ·rw [if_pos q5,if_neg (by simp;intro _;exact⟨q4,q5⟩)]
      ·rw [if_neg q5,if_pos (by simp [q1,q4];omega)]
  ·have e:=decide_eq_false q1;rw [if_neg q1,if_neg (by rw [e];simp)]
 ·simp only [Cc];rw [if_neg (Bj _)]
theorem Ja(list:AX)(size:Int)(labels:Int)(h0:BR list)(h1:1≤labels∧labels≤8):Y.call 98 [ca 26 (AP CO list),bh .i64 size,bh .i64 labels] []=some (cf (IB list size labels),[]):=ME list size labels (N8 list size labels h0 h1)
def Eh(l:AX)(size:Int)(labels:Int)(Di:Int)(k:Int):Option ((Int)⊕(Unit⊕Unit)):= if k<size then ck (0≤cb.wrap (k-1)∧(cb.wrap (k-1)).toNat<(l.getD Di.toNat bj).length)<| ck (0≤k∧k.toNat<(l.getD Di.toNat bj).length)<| if((l.getD Di.toNat bj).getD k.toNat bj)<((l.getD Di.toNat bj).getD ((cb.wrap (k-1)).toNat) bj)then some (cc (cd ())) else some (cd (cb.wrap (k+1))) else some (cc (cc ()))
def I4(l:AX)(size:Int)(labels:Int)(Di:Int)(v:Int):Option (Unit⊕Unit):=JZ (fun v=>Eh l size labels Di v) v
def G6(l:AX)(size:Int)(labels:Int)(Di:Int):Option ((Int)⊕(Unit⊕Unit)):=
 if Di<(l.length:Int)then
  ck (0≤Di∧Di.toNat<l.length)<|
  if((l.getD Di.toNat bj).length:Int)=size then
   ck ((l.getD Di.toNat bj).length<1099511627776)<|
   if(Ir (l.getD Di.toNat bj) (0:Int) (cb.wrap (labels-1)))=true then
    if 0<Di then
     ck (0≤cb.wrap (Di-1)∧(cb.wrap (Di-1)).toNat<l.length)<|
     ck ((l.getD ((cb.wrap (Di-1)).toNat) bj).length<1099511627776)<|
     ck ((l.getD ((cb.wrap (Di-1)).toNat) bj).length=(l.getD Di.toNat bj).length)<|
     ck (KF (l.getD ((cb.wrap (Di-1)).toNat) bj)=true)<|
     ck (KF (l.getD Di.toNat bj)=true)<|
     if 0≤(FX (l.getD ((cb.wrap (Di-1)).toNat) bj) (l.getD Di.toNat bj))then
      some (cc (cd ()))
     else
      (I4 l size labels Di 1).bind fun AV=>
      match AV with
      | .inl q1000_=>
       some (cc (cd ()))
      | .inr q1000_=>
       some (cd (cb.wrap (Di+1)))
    else
     (I4 l size labels Di 1).bind fun AV=>
     match AV with
     | .inl q1000_=>
      some (cc (cd ()))
     | .inr q1000_=>
      some (cd (cb.wrap (Di+1)))
   else
    some (cc (cd ()))
  else
   some (cc (cd ()))
 else
  some (cc (cc ()))
def KP(l:AX)(size:Int)(labels:Int)(v:Int):Option (Unit⊕Unit):=JZ (fun v=>G6 l size labels v) v
def OQ(l:AX)(size:Int)(labels:Int):Option (Bool):=
 (KP l size labels 0).bind fun Ev=>
 match Ev with
 | .inl q1001_=>
  some false
 | .inr q1001_=>
  some true
abbrev oK:List Nat:=[47,48,49,50,51,52,53,54,55,56]
def YK:SC:= .seq (.seq (.ops [oM 42 9 3,oM 43 1 3,oB 44 .lss 3 (tK 42) (tK 43) 3 4]) (.cond (tK 44) .skip (.exit 2))) (.seq (.block 3 (.seq (.draws [(⟨[47,8,8],oK,[47]⟩,oM 47 8 26),(⟨[48,9,9],oK,[48]⟩,oM 48 9 3),(⟨[49,48,9],oK,[49]⟩,oB 49 .sub 3 (tK 48) (iK 1) 3 3),(⟨[50,47,49,8,49],oK,[50]⟩,oI 50 26 47 49),(⟨[51,50,8],oK,[51]⟩,oL 51 3 50 3),(⟨[52,8,8],oK,[52]⟩,oM 52 8 26),(⟨[53,9,9],oK,[53]⟩,oM 53 9 3),(⟨[54,52,53,8,9],oK,[54]⟩,oI 54 26 52 53),(⟨[55,54,8],oK,[55]⟩,oL 55 3 54 3),(⟨[56,51,55,8,8],oK,[56]⟩,oB 56 .gtr 3 (tK 51) (tK 55) 3 4)]) (.cond (tK 56) (.seq (.ops [oX 6 CX 4]) .ret) .skip))) (.ops [oM 45 9 3,oB 46 .add 3 (tK 45) (iK 1) 3 3,oA 9 46 3]))
def nD:SC:= .loop YK
def YL:SC:= .seq (.ops [oB 13 .lss 3 (tK 12) (tK 11) 3 0]) (.seq (.cond (tK 13) .skip (.exit 0)) (.seq (.block 1 (.seq (.ops [oM 14 12 3,oI 15 22 10 12,oL 16 26 15 26,oA 7 14 3,oA 8 16 26]) (.seq (.seq (.ops [oM 17 8 26,oN 18 17 26,oM 19 1 3,oB 20 .neq 3 (tK 18) (tK 19) 3 4,oM 21 20 4,⟨(some 22),(.move (tK 8)),26,(some (some 21,false))⟩,⟨(some 23),(.move (tK 2)),3,(some (some 21,false))⟩,⟨(some 24),(.binOp .sub 3 (tK 23) (iK 1) 3),3,(some (some 21,false))⟩,⟨(some 25),(.call ⟨(.value (.func 107)), #[(tK 22),(iK 0),(tK 24)], #[26,3,3]⟩),4,(some (some 21,false))⟩,⟨(some 26),(.unOp .not 4 (tK 25)),4,(some (some 21,false))⟩,oX 27 (.pick (tK 21) H6 (tK 26)) 4,oM 28 27 4,⟨(some 29),(.move (tK 7)),3,(some (some 28,false))⟩,⟨(some 30),(.binOp .gtr 3 (tK 29) (iK 0) 3),4,(some (some 28,false))⟩,⟨(some 31),(.move (tK 30)),4,(some (some 28,false))⟩,⟨(some 32),(.move (tK 0)),22,(some (some 31,true))⟩,⟨(some 33),(.move (tK 7)),3,(some (some 31,true))⟩,⟨(some 34),(.binOp .sub 3 (tK 33) (iK 1) 3),3,(some (some 31,true))⟩,⟨(some 35),(.indexAddr 22 (tK 32) (tK 34)),0,(some (some 31,true))⟩,⟨(some 36),(.load 26 (tK 35)),26,(some (some 31,true))⟩,⟨(some 37),(.move (tK 8)),26,(some (some 31,true))⟩,
 ⟨(some 38),(.call ⟨(.value (.func 138)), #[(tK 36),(tK 37)], #[26,26]⟩),3,(some (some 31,true))⟩,⟨(some 39),(.binOp .geq 3 (tK 38) (iK 0) 3),4,(some (some 31,true))⟩,⟨(some 40),(.pick (tK 31) (tK 39) OZ),4,(some (some 28,false))⟩,oX 41 (.pick (tK 28) H6 (tK 40)) 4]) (.cond (tK 41) (.seq (.ops [oX 6 CX 4]) .ret) .skip)) (.seq (.ops [oX 9 (.assign (iK 1)) 3]) (.block 2 nD))))) (.ops [oB 57 .add 3 (tK 12) (iK 1) 3 3,oM 12 57 3])))
def nE:SC:= .loop YL
def k93:SC:= .seq (.ops [oX 6 CX 4]) (.seq (.seq (.ops [oM 10 0 22,oN 11 10 22,oX 12 (.move (iK 0)) 3]) (.block 0 nE)) (.seq (.ops [oX 6 (.assign H6) 4]) .ret))
theorem A1e:Try.f93.body.map (Bt lends)=some k93:=by kernel_rfl
theorem ADb:CW Try.f93 3=true:=by kernel_rfl
theorem c93{a l:List D}{r:D×List D}(h:CU Y.env k93 (Gq AZ l.length [ci 6] r) (entry a l))(ha:a.length=3):Y.call 93 a l=some r:=
 AY (Y:=Y) rfl Try.func93 (ha▸ADb) A1e h
def Dw(l:AX)(size:Int)(labels:Int)(Di:Int)(k:Int)(s:St):Prop:=s.v 0=ca 26 (AP CO l)∧s.v 1=bh .i64 size∧s.v 2=bh .i64 labels∧s.v 8=ca 3 (AP (bh .i64) (l.getD Di.toNat bj))∧s.v 9=bh .i64 k∧s.v 10=ca 26 (AP CO l)∧s.v 11=bh .i64 (l.length:Int)∧s.v 12=bh .i64 Di
def DV(l:AX)(size:Int)(labels:Int)(Di:Int)(r:Unit⊕Unit)(ex:Ex)(s:St):Prop:=match r with
 | .inl q=>ex= .ret∧s.v 6=cf false
 | .inr q=>ex= .exit 2∧s.v 0=ca 26 (AP CO l)∧s.v 1=bh .i64 size∧s.v 2=bh .i64 labels∧s.v 10=ca 26 (AP CO l)∧s.v 11=bh .i64 (l.length:Int)∧s.v 12=bh .i64 Di
theorem Mv(l:AX)(size:Int)(labels:Int)(Di:Int){v:Int}{s:St}{r:Unit⊕Unit}(h:I4 l size labels Di v=some r)(hM:Dw l size labels Di v s):CU Y.env nD (DV l size labels Di r) s:=by
 unfold I4 at h;refine CF (c:=YK) (fun v=>Eh l size labels Di v) (fun v s=>Dw l size labels Di v s) (DV l size labels Di) ?_ h hM;clear h hM s v r;intro k s o hM h;unfold Eh at h;unfold Dw at hM;obtain⟨m0,m1,m2,m3,m4,m5,m6,m7⟩:=hM;unfold YK;by_cases e15:k<size
 ·rw [if_pos e15]at h;obtain⟨e16,h⟩:=Cb h;obtain⟨e17,h⟩:=Cb h;by_cases e18:((l.getD Di.toNat bj).getD k.toNat bj)<((l.getD Di.toNat bj).getD ((cb.wrap (k-1)).toNat) bj)
  ·rw [if_pos e18]at h
   obtain rfl:=Option.some.inj h
   simp (maxDischargeDepth:=9) only [↓AQ,AR,Aj,↓reduceIte,bk,bl,bm,bo,bp,br,bt,bw,bx,bO,b3,b4,b5,b6,b7,b8,b9,m0,m1,m2,m3,m4,m5,m6,m7,e15,e16.1,e16.2,e17.1,e17.2,e18,Dw,DV,Cx,Cy,Cz]<;>(repeat' apply A7)<;>first|rfl|exact⟨_,rfl⟩|exact⟨_,_,rfl⟩|simp [AP,AC]
  ·rw [if_neg e18]at h
   obtain rfl:=Option.some.inj h
   simp (maxDischargeDepth:=9) only [↓AQ,AR,Aj,↓reduceIte,bk,bl,bm,bo,bp,br,bt,bw,bx,bO,b3,b4,b5,b6,b7,b8,b9,m0,m1,m2,m3,m4,m5,m6,m7,e15,e16.1,e16.2,e17.1,e17.2,e18,Dw,DV,Cx,Cy,Cz]<;>(repeat' apply A7)<;>first|rfl|exact⟨_,rfl⟩|exact⟨_,_,rfl⟩|simp [AP,AC]
 ·rw [if_neg e15]at h
  obtain rfl:=Option.some.inj h
  simp (maxDischargeDepth:=9) only [↓AQ,AR,Aj,↓reduceIte,bk,bl,bm,bo,bp,br,bt,bw,bx,bO,b3,b4,b5,b6,b7,b8,b9,m0,m1,m2,m3,m4,m5,m6,m7,e15,Dw,DV,Cx,Cy,Cz]<;>(repeat' apply A7)<;>first|rfl|exact⟨_,rfl⟩|exact⟨_,_,rfl⟩|simp [AP,AC]
def CP(l:AX)(size:Int)(labels:Int)(Di:Int)(s:St):Prop:=s.v 0=ca 26 (AP CO l)∧s.v 1=bh .i64 size∧s.v 2=bh .i64 labels∧s.v 10=ca 26 (AP CO l)∧s.v 11=bh .i64 (l.length:Int)∧s.v 12=bh .i64 Di
def CQ(l:AX)(size:Int)(labels:Int)(r:Unit⊕Unit)(ex:Ex)(s:St):Prop:=match r with
 | .inl q=>ex= .ret∧s.v 6=cf false
 | .inr q=>ex= .exit 0
theorem Sa(l:AX)(size:Int)(labels:Int){v:Int}{s:St}{r:Unit⊕Unit}(h:KP l size labels v=some r)(hM:CP l size labels v s):CU Y.env nE (CQ l size labels r) s:=by
 unfold KP at h;refine CF (c:=YL) (fun v=>G6 l size labels v) (fun v s=>CP l size labels v s) (CQ l size labels) ?_ h hM;clear h hM s v r;intro Di s o hM h;unfold G6 at h;unfold CP at hM;obtain⟨m0,m1,m2,m3,m4,m5⟩:=hM;unfold YL;by_cases e1:Di<(l.length:Int)
 ·rw [if_pos e1]at h;obtain⟨e2,h⟩:=Cb h;by_cases e3:((l.getD Di.toNat bj).length:Int)=size
  ·rw [if_pos e3]at h;obtain⟨e4,h⟩:=Cb h;have c5:=dz (l.getD Di.toNat bj) (0:Int) (cb.wrap (labels-1)) e4;by_cases e6:(Ir (l.getD Di.toNat bj) (0:Int) (cb.wrap (labels-1)))=true
   ·rw [if_pos e6]at h;by_cases e7:0<Di
    ·rw [if_pos e7]at h;obtain⟨e8,h⟩:=Cb h;obtain⟨e9,h⟩:=Cb h;obtain⟨e10,h⟩:=Cb h;obtain⟨e11,h⟩:=Cb h;obtain⟨e12,h⟩:=Cb h;have c13:=YI (l.getD ((cb.wrap (Di-1)).toNat) bj) (l.getD Di.toNat bj) e9 e10 e11 e12;by_cases e14:0≤(FX (l.getD ((cb.wrap (Di-1)).toNat) bj) (l.getD Di.toNat bj))
     ·rw [if_pos e14]at h
      obtain rfl:=Option.some.inj h
      simp (maxDischargeDepth:=9) only [↓AQ,AR,Aj,↓reduceIte,bk,bl,bm,bo,bp,br,bt,bw,bx,bO,b3,b4,b5,b6,b7,b8,b9,m0,m1,m2,m3,m4,m5,e1,e2.1,e2.2,decide_eq_true e3,e4,c5,e6,e7,e8.1,e8.2,e9,decide_eq_true e10,e11,e12,c13,e14,CP,CQ,Cx,Cy,Cz]<;>(repeat' apply A7)<;>first|rfl|exact⟨_,rfl⟩|exact⟨_,_,rfl⟩|simp [AP,AC]
     ·rw [if_neg e14]at h;obtain⟨AV,hl16,h⟩:=Ao h;try dsimp only at h
      simp (maxDischargeDepth:=9) only [↓AQ,AR,Aj,↓reduceIte,bk,bl,bm,bo,bp,br,bt,bw,bx,bO,b3,b4,b5,b6,b7,b8,b9,m0,m1,m2,m3,m4,m5,e1,e2.1,e2.2,decide_eq_true e3,e4,c5,e6,e7,e8.1,e8.2,e9,decide_eq_true e10,e11,e12,c13,e14];refine Bc (Mv l size labels Di hl16 ?_) ?_
      ·simp (maxDischargeDepth:=9) only [↓AQ,AR,Aj,↓reduceIte,bk,bl,bm,bo,bp,br,bt,bw,bx,bO,b3,b4,b5,b6,b7,b8,b9,m0,m1,m2,m3,m4,m5,e1,e2.1,e2.2,decide_eq_true e3,e4,c5,e6,e7,e8.1,e8.2,e9,decide_eq_true e10,e11,e12,c13,e14,Dw]<;>(repeat' apply A7)<;>first|rfl|exact⟨_,rfl⟩|exact⟨_,_,rfl⟩|simp [AP,AC]
      ·intro ex16 s16 hX16;rcases AV with q1000_|q1000_
       ·unfold DV at hX16;dsimp only at hX16 h;obtain⟨rfl,n16_0⟩:=hX16
        obtain rfl:=Option.some.inj h
        simp (maxDischargeDepth:=9) only [↓AQ,AR,Aj,↓reduceIte,bk,bl,bm,bo,bp,br,bt,bw,bx,bO,b3,b4,b5,b6,b7,b8,b9,e1,e2.1,e2.2,decide_eq_true e3,e4,c5,e6,e7,e8.1,e8.2,e9,decide_eq_true e10,e11,e12,c13,e14,n16_0,CP,CQ,Cx,Cy,Cz]<;>(repeat' apply A7)<;>first|rfl|exact⟨_,rfl⟩|exact⟨_,_,rfl⟩|simp [AP,AC]
       ·unfold DV at hX16;dsimp only at hX16 h;obtain⟨rfl,n16_0,n16_1,n16_2,n16_3,n16_4,n16_5⟩:=hX16
        obtain rfl:=Option.some.inj h
        simp (maxDischargeDepth:=9) only [↓AQ,AR,Aj,↓reduceIte,bk,bl,bm,bo,bp,br,bt,bw,bx,bO,b3,b4,b5,b6,b7,b8,b9,e1,e2.1,e2.2,decide_eq_true e3,e4,c5,e6,e7,e8.1,e8.2,e9,decide_eq_true e10,e11,e12,c13,e14,n16_0,n16_1,n16_2,n16_3,n16_4,n16_5,CP,CQ,Cx,Cy,Cz]<;>(repeat' apply A7)<;>first|rfl|exact⟨_,rfl⟩|exact⟨_,_,rfl⟩|simp [AP,AC]
    ·rw [if_neg e7]at h;obtain⟨AV,hl9,h⟩:=Ao h;try dsimp only at h
     simp (maxDischargeDepth:=9) only [↓AQ,AR,Aj,↓reduceIte,bk,bl,bm,bo,bp,br,bt,bw,bx,bO,b3,b4,b5,b6,b7,b8,b9,m0,m1,m2,m3,m4,m5,e1,e2.1,e2.2,decide_eq_true e3,e4,c5,e6,e7];refine Bc (Mv l size labels Di hl9 ?_) ?_
     ·simp (maxDischargeDepth:=9) only [↓AQ,AR,Aj,↓reduceIte,bk,bl,bm,bo,bp,br,bt,bw,bx,bO,b3,b4,b5,b6,b7,b8,b9,m0,m1,m2,m3,m4,m5,e1,e2.1,e2.2,decide_eq_true e3,e4,c5,e6,e7,Dw]<;>(repeat' apply A7)<;>first|rfl|exact⟨_,rfl⟩|exact⟨_,_,rfl⟩|simp [AP,AC]
     ·intro ex9 s9 hX9;rcases AV with q1000_|q1000_
      ·unfold DV at hX9;dsimp only at hX9 h;obtain⟨rfl,n9_0⟩:=hX9
       obtain rfl:=Option.some.inj h
       simp (maxDischargeDepth:=9) only [↓AQ,AR,Aj,↓reduceIte,bk,bl,bm,bo,bp,br,bt,bw,bx,bO,b3,b4,b5,b6,b7,b8,b9,e1,e2.1,e2.2,decide_eq_true e3,e4,c5,e6,e7,n9_0,CP,CQ,Cx,Cy,Cz]<;>(repeat' apply A7)<;>first|rfl|exact⟨_,rfl⟩|exact⟨_,_,rfl⟩|simp [AP,AC]
      ·unfold DV at hX9;dsimp only at hX9 h;obtain⟨rfl,n9_0,n9_1,n9_2,n9_3,n9_4,n9_5⟩:=hX9
       obtain rfl:=Option.some.inj h
       simp (maxDischargeDepth:=9) only [↓AQ,AR,Aj,↓reduceIte,bk,bl,bm,bo,bp,br,bt,bw,bx,bO,b3,b4,b5,b6,b7,b8,b9,e1,e2.1,e2.2,decide_eq_true e3,e4,c5,e6,e7,n9_0,n9_1,n9_2,n9_3,n9_4,n9_5,CP,CQ,Cx,Cy,Cz]<;>(repeat' apply A7)<;>first|rfl|exact⟨_,rfl⟩|exact⟨_,_,rfl⟩|simp [AP,AC]
   ·rw [if_neg e6]at h;have e6f:(Ir (l.getD Di.toNat bj) (0:Int) (cb.wrap (labels-1)))=false:=Iw.mpr e6
    obtain rfl:=Option.some.inj h
    simp (maxDischargeDepth:=9) only [↓AQ,AR,Aj,↓reduceIte,bk,bl,bm,bo,bp,br,bt,bw,bx,bO,b3,b4,b5,b6,b7,b8,b9,m0,m1,m2,m3,m4,m5,e1,e2.1,e2.2,decide_eq_true e3,e4,c5,e6f,CP,CQ,Cx,Cy,Cz]<;>(repeat' apply A7)<;>first|rfl|exact⟨_,rfl⟩|exact⟨_,_,rfl⟩|simp [AP,AC]
  ·rw [if_neg e3]at h
   obtain rfl:=Option.some.inj h
   simp (maxDischargeDepth:=9) only [↓AQ,AR,Aj,↓reduceIte,bk,bl,bm,bo,bp,br,bt,bw,bx,bO,b3,b4,b5,b6,b7,b8,b9,m0,m1,m2,m3,m4,m5,e1,e2.1,e2.2,e3,CP,CQ,Cx,Cy,Cz]<;>(repeat' apply A7)<;>first|rfl|exact⟨_,rfl⟩|exact⟨_,_,rfl⟩|simp [AP,AC]
 ·rw [if_neg e1]at h
  obtain rfl:=Option.some.inj h
  simp (maxDischargeDepth:=9) only [↓AQ,AR,Aj,↓reduceIte,bk,bl,bm,bo,bp,br,bt,bw,bx,bO,b3,b4,b5,b6,b7,b8,b9,m0,m1,m2,m3,m4,m5,e1,CP,CQ,Cx,Cy,Cz]<;>(repeat' apply A7)<;>first|rfl|exact⟨_,rfl⟩|exact⟨_,_,rfl⟩|simp [AP,AC]
theorem Uo(l:AX)(size:Int)(labels:Int){r:Bool}(h:OQ l size labels=some r):Y.call 93 [ca 26 (AP CO l),bh .i64 size,bh .i64 labels] []=some (cf r,[]):=by
 refine c93 ?_ rfl;unfold k93;unfold OQ at h;obtain⟨Ev,hl2,h⟩:=Ao h;try dsimp only at h
 simp (maxDischargeDepth:=9) only [↓AQ,AR,Aj,↓reduceIte,bk,bl,bm,bo,bp,br,bt,bw,bx,bO,b3,b4,b5,b6,b7,b8,b9];refine Bc (Sa l size labels hl2 ?_) ?_
 ·simp (maxDischargeDepth:=9) only [↓AQ,AR,Aj,↓reduceIte,bk,bl,bm,bo,bp,br,bt,bw,bx,bO,b3,b4,b5,b6,b7,b8,b9,CP]<;>(repeat' apply A7)<;>first|rfl|exact⟨_,rfl⟩|exact⟨_,_,rfl⟩|simp [AP,AC]
 ·intro ex2 s2 hX2;rcases Ev with q1001_|q1001_
  ·unfold CQ at hX2;dsimp only at hX2 h;obtain⟨rfl,n2_0⟩:=hX2
   obtain rfl:=Option.some.inj h
   simp (maxDischargeDepth:=9) only [↓AQ,AR,Aj,↓reduceIte,bk,bl,bm,bo,bp,br,bt,bw,bx,bO,b3,b4,b5,b6,b7,b8,b9,n2_0]<;>(repeat' apply A7)<;>first|rfl|exact⟨_,rfl⟩|exact⟨_,_,rfl⟩|simp [AP,AC]
  ·unfold CQ at hX2;dsimp only at hX2 h
   obtain rfl:=hX2
   obtain rfl:=Option.some.inj h
   simp (maxDischargeDepth:=9) only [↓AQ,AR,Aj,↓reduceIte,bk,bl,bm,bo,bp,br,bt,bw,bx,bO,b3,b4,b5,b6,b7,b8,b9]<;>(repeat' apply A7)<;>first|rfl|exact⟨_,rfl⟩|exact⟨_,_,rfl⟩|simp [AP,AC]
theorem WB(l:AX)(size labels t:Int)(x:AU)(hx:l.getD t.toNat bj=x)(hs:(x.length:Int)=size)(hb:x.length<1099511627776):
  I4 l size labels t 1=some (if Ep x=true then .inr ()else .inl ()):=by
 unfold I4;rcases Nat.eq_zero_or_pos x.length with h0|h0
 ·rw [FZ (r:=cc ())]
  ·simp [Ep,h0]
  ·simp only [Eh];rw [if_neg (by omega)]
 ·have key:=Jm (fun v=>Eh l size labels t v) (fun j=>(j:Int)+1) (x.length-1) (fun i=>decide (x.getD i bj≤x.getD (i+1) bj)) (.inl ()) (.inr ()) ?_ ?_
  ·simp only [Ie,Int.zero_add]at key;rw [key];rfl
  ·intro i hi;simp only [Eh];rw [hx,if_pos (by omega),JA _ (by omega),JA _ (by omega),Ce (by omega),Ce (by omega),show((i:Int)+1).toNat=i+1 by omega,show((i:Int)+1-1).toNat=i by omega]
   simp only [decide_eq_true_eq];by_cases hq:x.getD (i+1) bj<x.getD i bj
   ·rw [if_pos hq,if_neg (by omega)]
   ·rw [if_neg hq,if_pos (by omega)];rfl
  ·simp only [Eh];rw [if_neg (by omega)]
theorem YM(l:AX)(size labels:Int)(h:BR l)(hl:1≤labels∧labels≤8):OQ l size labels=some (IB l size labels):=by
 have h1:=h.1;unfold OQ KP;have key:=Zy (fun v=>G6 l size labels v) (fun i=>(i:Int)) l.length (Le l size labels) (.inl ()) (.inr ()) ?_ ?_
 ·simp only [Ie]at key;rw [key];unfold IB
  cases (an l.length).all (Le l size labels)<;>rfl
 ·intro i hi hp;simp only [G6];rw [if_pos (EP hi),Ce (Ea hi),Md i (by omega),JA (labels-1) (by omega)]
  have hs:=h.getD i;have hs1:=h.getD (i-1);rw [ML,Ce hs];by_cases q1:((l.getD i bj).length:Int)=size
  ·rw [if_pos q1];have inner:=WB l size labels (i:Int) (l.getD i bj) (by rw [ML]) q1 hs
   rw [inner];have hprev:=hp (i-1);unfold Le at hprev ⊢;generalize l.getD i bj=x at*
   cases q3:Ir x 0 (labels-1)with
   |false=>simp
   |true=>
    rw [if_pos rfl];by_cases q4:i=0
    ·rw [if_neg (by omega)]
     cases q2:Ep x<;>simp [q1,q4]
    ·rw [if_pos (by omega),JA _ (by omega),Ce (by omega),show((i:Int)-1).toNat=i-1 by omega,Ce hs1]
     have hprev:=hprev (by omega)
     generalize l.getD (i-1) bj=y at*;simp only [Gl,decide_eq_true_eq]at hprev;rw [Ce (by omega),Ce (X6 hprev.1.2 (by omega) (by omega)),Ce (X6 q3 (by omega) (by omega))]
     by_cases q5:0≤FX y x
     ·rw [if_pos q5,if_neg (by simp;intro _ _;exact⟨q4,q5⟩)]
     ·rw [if_neg q5];have q6:FX y x<0:=by omega
      cases q2:Ep x<;>simp [q1,q6]
  ·have e:=decide_eq_false q1;unfold Le;rw [if_neg q1,if_neg (by rw [e];simp)]
 ·intro _;simp only [G6];rw [if_neg (Bj _)]
theorem QI(l:AX)(size:Int)(labels:Int)(h0:BR l)(h1:1≤labels∧labels≤8):Y.call 93 [ca 26 (AP CO l),bh .i64 size,bh .i64 labels] []=some (cf (IB l size labels),[]):=Uo l size labels (YM l size labels h0 h1)
def LU(AA:Int)(AB:Int)(AJ:AX)(AL:AX):Option (Bool):= if(Np AA (1:Int) (8:Int))=true then if(Np AB (1:Int) (4:Int))=true then ck (BR AJ)<| ck (1≤AA∧AA≤8)<| if(IB AJ AB AA)=true then ck (BR AL)<| some (IB AL (2:Int) AA) else some false else some false else some false
def k52:SC:= .seq (.ops [oX 1 (.box 29 (tK 0)) 0,oX 2 CX 4]) (.seq (.ops [oF 3 29 1 0,oL 4 3 3 3,oC 5 97 [(tK 4),(iK 1),(iK 8)] [3,3,3] 4,oM 6 5 4,⟨(some 7),(.fieldAddr 29 (tK 1) 1),0,(some (some 6,true))⟩,⟨(some 8),(.load 3 (tK 7)),3,(some (some 6,true))⟩,⟨(some 9),(.call ⟨(.value (.func 97)), #[(tK 8),(iK 1),(iK 4)], #[3,3,3]⟩),4,(some (some 6,true))⟩,oX 10 (.pick (tK 6) (tK 9) OZ) 4,oM 11 10 4,⟨(some 12),(.fieldAddr 29 (tK 1) 2),0,(some (some 11,true))⟩,⟨(some 13),(.load 22 (tK 12)),22,(some (some 11,true))⟩,⟨(some 14),(.fieldAddr 29 (tK 1) 1),0,(some (some 11,true))⟩,⟨(some 15),(.load 3 (tK 14)),3,(some (some 11,true))⟩,⟨(some 16),(.fieldAddr 29 (tK 1) 0),0,(some (some 11,true))⟩,⟨(some 17),(.load 3 (tK 16)),3,(some (some 11,true))⟩,⟨(some 18),(.call ⟨(.value (.func 98)), #[(tK 13),(tK 15),(tK 17)], #[22,3,3]⟩),4,(some (some 11,true))⟩,oX 19 (.pick (tK 11) (tK 18) OZ) 4,oM 20 19 4,⟨(some 21),(.fieldAddr 29 (tK 1) 3),0,(some (some 20,true))⟩,⟨(some 22),(.load 22 (tK 21)),22,(some (some 20,true))⟩,⟨(some 23),(.fieldAddr 29 (tK 1) 0),0,(some (some 20,true))⟩,⟨(some 24),(.load 3 (tK 23)),3,(some (some 20,true))⟩,⟨(some 25),(.call ⟨(.value (.func 98)), #[(tK 22),(iK 2),(tK 24)], #[22,3,3]⟩),4,(some (some 20,true))⟩,
 oX 26 (.pick (tK 20) (tK 25) OZ) 4,oA 2 26 4]) .ret)
theorem A1f:Try.f52.body.map (Bt lends)=some k52:=by kernel_rfl
theorem ADd:CW Try.f52 1=true:=by kernel_rfl
theorem c52{a l:List D}{r:D×List D}(h:CU Y.env k52 (Gq AZ l.length [ci 2] r) (entry a l))(ha:a.length=1):Y.call 52 a l=some r:=
 AY (Y:=Y) rfl Try.func52 (ha▸ADd) A1f h
theorem R9(AA:Int)(AB:Int)(AJ:AX)(AL:AX){r:Bool}(h:LU AA AB AJ AL=some r):Y.call 52 [cj [bh .i64 AA,bh .i64 AB,ca 26 (AP CO AJ),ca 26 (AP CO AL)]] []=some (cf r,[]):=by
 refine c52 ?_ rfl;unfold k52;unfold LU at h;have c1:=Nq AA (1:Int) (8:Int);by_cases e2:(Np AA (1:Int) (8:Int))=true
 ·rw [if_pos e2]at h;have c3:=Nq AB (1:Int) (4:Int);by_cases e4:(Np AB (1:Int) (4:Int))=true
  ·rw [if_pos e4]at h;obtain⟨e5,h⟩:=Cb h;obtain⟨e6,h⟩:=Cb h;have c7:=Ja AJ AB AA e5 e6;by_cases e8:(IB AJ AB AA)=true
   ·rw [if_pos e8]at h;obtain⟨e9,h⟩:=Cb h;have SV:=Ja AL (2:Int) AA e9 e6
    obtain rfl:=Option.some.inj h
    simp (maxDischargeDepth:=9) only [↓AQ,AR,Aj,↓reduceIte,bk,bl,bm,bo,bp,br,bt,bw,bx,bO,b3,b4,b5,b6,b7,b8,b9,c1,e2,c3,e4,e5,e6.1,e6.2,c7,e8,e9,SV]<;>(repeat' apply A7)<;>first|rfl|exact⟨_,rfl⟩|exact⟨_,_,rfl⟩|simp [AP,AC]
   ·rw [if_neg e8]at h;have e8f:(IB AJ AB AA)=false:=Iw.mpr e8
    obtain rfl:=Option.some.inj h
    simp (maxDischargeDepth:=9) only [↓AQ,AR,Aj,↓reduceIte,bk,bl,bm,bo,bp,br,bt,bw,bx,bO,b3,b4,b5,b6,b7,b8,b9,c1,e2,c3,e4,e5,e6.1,e6.2,c7,e8f]<;>(repeat' apply A7)<;>first|rfl|exact⟨_,rfl⟩|exact⟨_,_,rfl⟩|simp [AP,AC]
  ·rw [if_neg e4]at h;have e4f:(Np AB (1:Int) (4:Int))=false:=Iw.mpr e4
   obtain rfl:=Option.some.inj h
   simp (maxDischargeDepth:=9) only [↓AQ,AR,Aj,↓reduceIte,bk,bl,bm,bo,bp,br,bt,bw,bx,bO,b3,b4,b5,b6,b7,b8,b9,c1,e2,c3,e4f]<;>(repeat' apply A7)<;>first|rfl|exact⟨_,rfl⟩|exact⟨_,_,rfl⟩|simp [AP,AC]
 ·rw [if_neg e2]at h;have e2f:(Np AA (1:Int) (8:Int))=false:=Iw.mpr e2
  obtain rfl:=Option.some.inj h
  simp (maxDischargeDepth:=9) only [↓AQ,AR,Aj,↓reduceIte,bk,bl,bm,bo,bp,br,bt,bw,bx,bO,b3,b4,b5,b6,b7,b8,b9,c1,e2f]<;>(repeat' apply A7)<;>first|rfl|exact⟨_,rfl⟩|exact⟨_,_,rfl⟩|simp [AP,AC]
def QJ(AA:Int)(AB:Int)(AJ:AX)(AL:AX):Option (Bool):= if(Np AA (1:Int) (8:Int))=true then if(Np AB (1:Int) (4:Int))=true then ck (BR AJ)<| ck (1≤AA∧AA≤8)<| if(IB AJ AB AA)=true then ck (BR AL)<| some (IB AL (2:Int) AA) else some false else some false else some false
def k50:SC:= .seq (.ops [oX 1 (.box 29 (tK 0)) 0,oX 2 CX 4]) (.seq (.ops [oF 3 29 1 0,oL 4 3 3 3,oC 5 92 [(tK 4),(iK 1),(iK 8)] [3,3,3] 4,oM 6 5 4,⟨(some 7),(.fieldAddr 29 (tK 1) 1),0,(some (some 6,true))⟩,⟨(some 8),(.load 3 (tK 7)),3,(some (some 6,true))⟩,⟨(some 9),(.call ⟨(.value (.func 92)), #[(tK 8),(iK 1),(iK 4)], #[3,3,3]⟩),4,(some (some 6,true))⟩,oX 10 (.pick (tK 6) (tK 9) OZ) 4,oM 11 10 4,⟨(some 12),(.fieldAddr 29 (tK 1) 2),0,(some (some 11,true))⟩,⟨(some 13),(.load 22 (tK 12)),22,(some (some 11,true))⟩,⟨(some 14),(.fieldAddr 29 (tK 1) 1),0,(some (some 11,true))⟩,⟨(some 15),(.load 3 (tK 14)),3,(some (some 11,true))⟩,⟨(some 16),(.fieldAddr 29 (tK 1) 0),0,(some (some 11,true))⟩,⟨(some 17),(.load 3 (tK 16)),3,(some (some 11,true))⟩,⟨(some 18),(.call ⟨(.value (.func 93)), #[(tK 13),(tK 15),(tK 17)], #[22,3,3]⟩),4,(some (some 11,true))⟩,oX 19 (.pick (tK 11) (tK 18) OZ) 4,oM 20 19 4,⟨(some 21),(.fieldAddr 29 (tK 1) 3),0,(some (some 20,true))⟩,⟨(some 22),(.load 22 (tK 21)),22,(some (some 20,true))⟩,⟨(some 23),(.fieldAddr 29 (tK 1) 0),0,(some (some 20,true))⟩,⟨(some 24),(.load 3 (tK 23)),3,(some (some 20,true))⟩,⟨(some 25),(.call ⟨(.value (.func 93)), #[(tK 22),(iK 2),(tK 24)], #[22,3,3]⟩),4,(some (some 20,true))⟩,
 oX 26 (.pick (tK 20) (tK 25) OZ) 4,oA 2 26 4]) .ret)
theorem A1g:Try.f50.body.map (Bt lends)=some k50:=by kernel_rfl
theorem ADf:CW Try.f50 1=true:=by kernel_rfl
theorem c50{a l:List D}{r:D×List D}(h:CU Y.env k50 (Gq AZ l.length [ci 2] r) (entry a l))(ha:a.length=1):Y.call 50 a l=some r:=
 AY (Y:=Y) rfl Try.func50 (ha▸ADf) A1g h
theorem WC(AA:Int)(AB:Int)(AJ:AX)(AL:AX){r:Bool}(h:QJ AA AB AJ AL=some r):Y.call 50 [cj [bh .i64 AA,bh .i64 AB,ca 26 (AP CO AJ),ca 26 (AP CO AL)]] []=some (cf r,[]):=by
 refine c50 ?_ rfl;unfold k50;unfold QJ at h;have c1:=R5 AA (1:Int) (8:Int);by_cases e2:(Np AA (1:Int) (8:Int))=true
 ·rw [if_pos e2]at h;have c3:=R5 AB (1:Int) (4:Int);by_cases e4:(Np AB (1:Int) (4:Int))=true
  ·rw [if_pos e4]at h;obtain⟨e5,h⟩:=Cb h;obtain⟨e6,h⟩:=Cb h;have c7:=QI AJ AB AA e5 e6;by_cases e8:(IB AJ AB AA)=true
   ·rw [if_pos e8]at h;obtain⟨e9,h⟩:=Cb h;have SV:=QI AL (2:Int) AA e9 e6
    obtain rfl:=Option.some.inj h
    simp (maxDischargeDepth:=9) only [↓AQ,AR,Aj,↓reduceIte,bk,bl,bm,bo,bp,br,bt,bw,bx,bO,b3,b4,b5,b6,b7,b8,b9,c1,e2,c3,e4,e5,e6.1,e6.2,c7,e8,e9,SV]<;>(repeat' apply A7)<;>first|rfl|exact⟨_,rfl⟩|exact⟨_,_,rfl⟩|simp [AP,AC]
   ·rw [if_neg e8]at h;have e8f:(IB AJ AB AA)=false:=Iw.mpr e8
    obtain rfl:=Option.some.inj h
    simp (maxDischargeDepth:=9) only [↓AQ,AR,Aj,↓reduceIte,bk,bl,bm,bo,bp,br,bt,bw,bx,bO,b3,b4,b5,b6,b7,b8,b9,c1,e2,c3,e4,e5,e6.1,e6.2,c7,e8f]<;>(repeat' apply A7)<;>first|rfl|exact⟨_,rfl⟩|exact⟨_,_,rfl⟩|simp [AP,AC]
  ·rw [if_neg e4]at h;have e4f:(Np AB (1:Int) (4:Int))=false:=Iw.mpr e4
   obtain rfl:=Option.some.inj h
   simp (maxDischargeDepth:=9) only [↓AQ,AR,Aj,↓reduceIte,bk,bl,bm,bo,bp,br,bt,bw,bx,bO,b3,b4,b5,b6,b7,b8,b9,c1,e2,c3,e4f]<;>(repeat' apply A7)<;>first|rfl|exact⟨_,rfl⟩|exact⟨_,_,rfl⟩|simp [AP,AC]
 ·rw [if_neg e2]at h;have e2f:(Np AA (1:Int) (8:Int))=false:=Iw.mpr e2
  obtain rfl:=Option.some.inj h
  simp (maxDischargeDepth:=9) only [↓AQ,AR,Aj,↓reduceIte,bk,bl,bm,bo,bp,br,bt,bw,bx,bO,b3,b4,b5,b6,b7,b8,b9,c1,e2f]<;>(repeat' apply A7)<;>first|rfl|exact⟨_,rfl⟩|exact⟨_,_,rfl⟩|simp [AP,AC]
theorem Uq(a b:Int)(n e:AX)(hn:BR n)(he:BR e):LU a b n e=some (Il a b n e):=by
 unfold LU Il;by_cases h1:Np a 1 8=true
 ·have h1':=LP.1 h1;by_cases h2:Np b 1 4=true
  ·rw [if_pos h1,if_pos h2,Ce hn,Ce h1',Ce he]
   cases h3:IB n b a<;>simp [h1,h2]
  ·rw [if_pos h1,if_neg h2];simp [h2]
 ·rw [if_neg h1];simp [h1]
theorem aR(a b:Int)(n e:AX)(hn:BR n)(he:BR e):QJ a b n e=some (Il a b n e):=by
 unfold QJ Il;by_cases h1:Np a 1 8=true
 ·have h1':=LP.1 h1;by_cases h2:Np b 1 4=true
  ·rw [if_pos h1,if_pos h2,Ce hn,Ce h1',Ce he]
   cases h3:IB n b a<;>simp [h1,h2]
  ·rw [if_pos h1,if_neg h2];simp [h2]
 ·rw [if_neg h1];simp [h1]
theorem Ur(AA:Int)(AB:Int)(AJ:AX)(AL:AX)(h0:BR AJ)(h1:BR AL):Y.call 52 [cj [bh .i64 AA,bh .i64 AB,ca 26 (AP CO AJ),ca 26 (AP CO AL)]] []=some (cf (Il AA AB AJ AL),[]):=R9 AA AB AJ AL (Uq AA AB AJ AL h0 h1)
theorem aS(AA:Int)(AB:Int)(AJ:AX)(AL:AX)(h0:BR AJ)(h1:BR AL):Y.call 50 [cj [bh .i64 AA,bh .i64 AB,ca 26 (AP CO AJ),ca 26 (AP CO AL)]] []=some (cf (Il AA AB AJ AL),[]):=WC AA AB AJ AL (aR AA AB AJ AL h0 h1)

def OT(l:AU):Option (AU):= ck (0+l.length<1099511627776)<| some l
def k87:SC:= .seq (.ops [oX 2 Iy 26]) (.seq (.ops [oX 3 (.buildSlice 26 0 #[]) 26,oM 4 0 26,oX 5 (.call ⟨(.builtin .append), #[(tK 3),(tK 4)], #[26,26]⟩) 26,oA 2 5 26]) .ret)
theorem A1h:Try.f87.body.map (Bt lends)=some k87:=by kernel_rfl
theorem ADh:CW Try.f87 1=true:=by kernel_rfl
theorem c87{a l:List D}{r:D×List D}(h:CU Y.env k87 (Gq AZ l.length [ci 2] r) (entry a l))(ha:a.length=1):Y.call 87 a l=some r:=
 AY (Y:=Y) rfl Try.func87 (ha▸ADh) A1h h
theorem QK(l:AU){r:AU}(h:OT l=some r):Y.call 87 [ca 3 (AP (bh .i64) l)] []=some (cg 3 (AP (bh .i64) r),[]):=by
 refine c87 ?_ rfl;unfold k87;unfold OT at h;obtain⟨e1,h⟩:=Cb h
 obtain rfl:=Option.some.inj h
 simp (maxDischargeDepth:=9) only [↓AQ,AR,Aj,↓reduceIte,bk,bl,bm,bo,bp,br,bt,bw,bx,bO,b3,b4,b5,b6,b7,b8,b9,e1]<;>(repeat' apply A7)<;>first|rfl|exact⟨_,rfl⟩|exact⟨_,_,rfl⟩|simp [AP,AC]
def WE(x:Int):AU→AU
 | []=>[x]
 |y::r=>if x<y then y::WE x r else x::y::r
def KM(l:AU):AU:=(l.foldl (fun r x=>WE x r) []).reverse
end Go.Proofs.Ytclkfhhdikfcpaa
end
