/- Functions of the program as plain functions, and what they compute. Conditions: those in each lemma. -/
import Derived.Test.YtclkfhhdikfcpaaL6
import Derived.Test.YtclkfhhdikfcpaaDt
open Inhabited renaming default → bl
open Dv.D renaming int → bk,sl → bm,bool → cd,own → ci,agg → cj
open Nat renaming reduceEqDiff → bo,reduceLT → bp,reduceLeDiff → br,reduceAdd → bt,reduceMul → bw,reduceMod → bx,reduceDiv → bO,reducePow → b0,reduceSub → b3,reduceBEq → b4
open Int renaming reduceLE → b5,reduceLT → b6,reduceEq → b7,reduceSub → b8,reduceAdd → b9,reduceToNat → ca,reduceNeg → cb
open Sum renaming inr → cc,inl → cf
open Go.IntKind renaming i64 → ce
open Go.ResultVar renaming tmp → cg
open List renaming range → an,replicate → ao,pairwise_iff_getElem → co,pairwise_cons → cq
open Bool renaming eq_iff_iff → cm
noncomputable section
namespace Go.Proofs.Ytclkfhhdikfcpaa
open Go Dv
set_option linter.unusedSimpArgs false
set_option linter.unusedVariables false
set_option maxRecDepth 100000
set_option maxHeartbeats 4000000
def OW(l:We):Prop:=l.length<1099511627776∧ ∀x∈l,x.length<1099511627776
theorem OW.nil:OW []:=⟨by decide,fun _ h=>by cases h⟩
theorem OW.at{l:We}(h:OW l)(i:Nat)(hi:i<l.length):l[i].length<1099511627776:=h.2 _ (KO hi)
instance (l:We):Decidable (OW l):=by unfold OW;infer_instance
theorem U7{α:Type}[Inhabited α](xs:List α)(i:Nat)(h:i<xs.length)(z:α):(xs.take i++ao (xs.length-i) z).set i xs[i]=xs.take (i+1)++ao (xs.length-(i+1)) z:=by
 have e:xs.length-i=(xs.length-(i+1))+1:=by omega
 rw [e,List.replicate_succ,List.set_append_right _ _ (by simp;omega),List.take_succ_eq_append_getElem h]
 have:i-(xs.take i).length=0:=by simp;omega
 rw [this,List.set_cons_zero,RU];rfl
def F3(a:AX)(out:AX)(i:Int):Option ((AX×Int)⊕(AX)):= if i<(a.length:Int)then ck (0≤i∧i.toNat<a.length)<| ck (0≤i∧i.toNat<out.length)<| some (cf ((out.set i.toNat (a.getD i.toNat bl)),ce.wrap (i+1))) else some (cc out)
def J2(a:AX)(v:AX×Int):Option (AX):=Jf (fun v=>F3 a v.1 v.2) v
def N8(a:AX):Option (AX):= ck (0≤(a.length:Int)∧(a.length:Int)<1099511627776)<| (J2 a ((ao a.length 0),0)).bind fun Ap=> some Ap
def U8:SC:= .seq (.seq (.ops [oM 8 4 3,oM 9 0 26,oN 10 9 26,oB 11 .lss 3 (tK 8) (tK 10) 3 4]) (.cond (tK 11) .skip (.exit 0))) (.seq (.block 1 (.ops [oM 14 3 26,oM 15 4 3,oM 16 0 26,oM 17 4 3,oI 18 26 16 17,oL 19 3 18 3,oI 20 26 14 15,oS 3 20 19])) (.ops [oM 12 4 3,oB 13 .add 3 (tK 12) (iK 1) 3 3,oA 4 13 3]))
def eT:SC:= .loop U8
def k66:SC:= .seq (.ops [oX 2 eQ 26]) (.seq (.ops [oM 5 0 26,oN 6 5 26,oX 7 (.makeSlice 26 (tK 6) (tK 6)) 26,oA 3 7 26]) (.seq (.seq (.ops [oX 4 (.assign (iK 0)) 3]) (.block 0 eT)) (.seq (.ops [oM 21 3 26,oA 2 21 26]) .ret)))
theorem vU:Try.f66.body.map (Bw lends)=some k66:=by kernel_rfl
theorem A8R:CV Try.f66 1=true:=by kernel_rfl
theorem c66{a l:List D}{r:D×List D}(h:Cb Y.env k66 (GX Ad l.length [cg 2] r) (entry a l))(ha:a.length=1):Y.call 66 a l=some r:=
 Ag (Y:=Y) rfl Try.func66 (ha▸A8R) vU h
def F4(a:AX)(out:AX)(i:Int)(s:St):Prop:=s.v 0=bm 3 (AV (bk .i64) a)∧s.v 3=ci 3 (AV (bk .i64) out)∧s.v 4=bk .i64 i
def GH(a:AX)(r:AX)(ex:Ex)(s:St):Prop:=ex= .exit 0∧s.v 3=ci 3 (AV (bk .i64) r)
theorem Qc(a:AX){v:AX×Int}{s:St}{r:AX}(h:J2 a v=some r)(hM:F4 a v.1 v.2 s):Cb Y.env eT (GH a r) s:=by
 unfold J2 at h;refine DK (c:=U8) (fun v=>F3 a v.1 v.2) (fun v s=>F4 a v.1 v.2 s) (GH a) ?_ h hM;clear h hM s v r;intro v s o hM h;obtain⟨out,i⟩:=v;dsimp only at h hM;unfold F3 at h;unfold F4 at hM;obtain⟨m0,m1,m2⟩:=hM;unfold U8;by_cases e2:i<(a.length:Int)
 ·rw [if_pos e2]at h;obtain⟨e3,h⟩:=Cq h;obtain⟨e4,h⟩:=Cq h
  obtain rfl:=Option.some.inj h
  simp (maxDischargeDepth:=9) only [↓AQ,AR,Au,↓reduceIte,bo,bp,br,bt,bw,bx,bO,b0,b3,b4,b5,b6,b7,b8,b9,ca,cb,m0,m1,m2,e2,e3.1,e3.2,e4.1,e4.2,F4,GH,EA,EB,EC]<;>(repeat' apply A7)<;>first|rfl|exact⟨_,rfl⟩|exact⟨_,_,rfl⟩|simp [AV,AB]
 ·rw [if_neg e2]at h
  obtain rfl:=Option.some.inj h
  simp (maxDischargeDepth:=9) only [↓AQ,AR,Au,↓reduceIte,bo,bp,br,bt,bw,bx,bO,b0,b3,b4,b5,b6,b7,b8,b9,ca,cb,m0,m1,m2,e2,F4,GH,EA,EB,EC]<;>(repeat' apply A7)<;>first|rfl|exact⟨_,rfl⟩|exact⟨_,_,rfl⟩|simp [AV,AB]
theorem Ru(a:AX){r:AX}(h:N8 a=some r):Y.call 66 [bm 3 (AV (bk .i64) a)] []=some (ci 3 (AV (bk .i64) r),[]):=by
 refine c66 ?_ rfl;unfold k66;unfold N8 at h;obtain⟨e1,h⟩:=Cq h;obtain⟨Ap,hl3,h⟩:=BS h;try dsimp only at h
 simp (maxDischargeDepth:=9) only [↓AQ,AR,Au,↓reduceIte,bo,bp,br,bt,bw,bx,bO,b0,b3,b4,b5,b6,b7,b8,b9,ca,cb,e1.1,e1.2];refine CQ (Qc a hl3 ?_) ?_
 ·simp (maxDischargeDepth:=9) only [↓AQ,AR,Au,↓reduceIte,bo,bp,br,bt,bw,bx,bO,b0,b3,b4,b5,b6,b7,b8,b9,ca,cb,e1.1,e1.2,F4]<;>(repeat' apply A7)<;>first|rfl|exact⟨_,rfl⟩|exact⟨_,_,rfl⟩|simp [AV,AB]
 ·intro ex3 s3 hX3;unfold GH at hX3;obtain⟨rfl,n3_0⟩:=hX3
  obtain rfl:=Option.some.inj h
  simp (maxDischargeDepth:=9) only [↓AQ,AR,Au,↓reduceIte,bo,bp,br,bt,bw,bx,bO,b0,b3,b4,b5,b6,b7,b8,b9,ca,cb,e1.1,e1.2,n3_0]<;>(repeat' apply A7)<;>first|rfl|exact⟨_,rfl⟩|exact⟨_,_,rfl⟩|simp [AV,AB]
theorem WE(a:AX)(h:a.length<1099511627776):N8 a=some a:=by
 have key:=GN (fun v=>F3 a v.1 v.2) (fun i=>(a.take i++ao (a.length-i) 0,(i:Int))) a.length a ?_ ?_
 ·unfold N8 J2;rw [Ch (by omega)]
  simp only [List.take_zero,TM,Nat.sub_zero,Lc]at key;rw [key];rfl
 ·intro i hi;simp only [F3];rw [if_pos (D8 hi),Ch (Gs hi),Ch (Gs (by simp;omega)),Gr _ _ hi,Fj,U7 a i hi 0,Nr i (by omega)]
 ·simp only [F3];rw [if_neg (BK _)];simp
theorem Kw(a:AX)(h0:a.length<1099511627776):Y.call 66 [bm 3 (AV (bk .i64) a)] []=some (ci 3 (AV (bk .i64) a),[]):=Ru a (WE a h0)
def F5(a:AX)(b:AX)(i:Int):Option ((Int)⊕(Unit⊕Unit)):= if i<(a.length:Int)then ck (0≤i∧i.toNat<a.length)<| ck (0≤i∧i.toNat<b.length)<| if(a.getD i.toNat bl)=(b.getD i.toNat bl)then some (cf (ce.wrap (i+1))) else some (cc (cf ())) else some (cc (cc ()))
def J3(a:AX)(b:AX)(v:Int):Option (Unit⊕Unit):=Jf (fun v=>F5 a b v) v
def N9(a:AX)(b:AX):Option (Bool):=
 if(a.length:Int)=(b.length:Int)then
  (J3 a b 0).bind fun Ap=>
  match Ap with
  | .inl q1000_=>
   some false
  | .inr q1000_=>
   some true
 else
  some false
abbrev ik:List Nat:=[17,18,19,20,21,22,23,24,25]
def U9:SC:= .seq (.seq (.ops [oM 11 5 3,oM 12 0 26,oN 13 12 26,oB 14 .lss 3 (tK 11) (tK 13) 3 4]) (.cond (tK 14) .skip (.exit 0))) (.seq (.block 1 (.seq (.draws [(⟨[17,0,0],ik,[17]⟩,oM 17 0 26),(⟨[18,5,5],ik,[18]⟩,oM 18 5 3),(⟨[19,17,18,0,5],ik,[19]⟩,oI 19 26 17 18),(⟨[20,19,0],ik,[20]⟩,oL 20 3 19 3),(⟨[21,1,1],ik,[21]⟩,oM 21 1 26),(⟨[22,5,5],ik,[22]⟩,oM 22 5 3),(⟨[23,21,22,1,5],ik,[23]⟩,oI 23 26 21 22),(⟨[24,23,1],ik,[24]⟩,oL 24 3 23 3),(⟨[25,20,24,0,1],ik,[25]⟩,oB 25 .neq 3 (tK 20) (tK 24) 3 4)]) (.cond (tK 25) (.seq (.ops [oX 4 BU 4]) .ret) .skip))) (.ops [oM 15 5 3,oB 16 .add 3 (tK 15) (iK 1) 3 3,oA 5 16 3]))
def eU:SC:= .loop U9
def k14:SC:= .seq (.ops [oX 4 BU 4]) (.seq (.seq (.ops [oM 6 0 26,oN 7 6 26,oM 8 1 26,oN 9 8 26,oB 10 .neq 3 (tK 7) (tK 9) 3 4]) (.cond (tK 10) (.seq (.ops [oX 4 BU 4]) .ret) .skip)) (.seq (.seq (.ops [oX 5 (.assign (iK 0)) 3]) (.block 0 eU)) (.seq (.ops [oX 4 (.assign Dz) 4]) .ret)))
theorem vV:Try.f14.body.map (Bw lends)=some k14:=by kernel_rfl
theorem A8T:CV Try.f14 2=true:=by kernel_rfl
theorem RO{a l:List D}{r:D×List D}(h:Cb Y.env k14 (GX Ad l.length [cg 4] r) (entry a l))(ha:a.length=2):Y.call 14 a l=some r:=
 Ag (Y:=Y) rfl Try.func14 (ha▸A8T) vV h
def EG(a:AX)(b:AX)(i:Int)(s:St):Prop:=s.v 0=bm 3 (AV (bk .i64) a)∧s.v 1=bm 3 (AV (bk .i64) b)∧s.v 5=bk .i64 i
def EH(a:AX)(b:AX)(r:Unit⊕Unit)(ex:Ex)(s:St):Prop:=match r with
 | .inl q=>ex= .ret∧s.v 4=cd false
 | .inr q=>ex= .exit 0
theorem Qd(a:AX)(b:AX){v:Int}{s:St}{r:Unit⊕Unit}(h:J3 a b v=some r)(hM:EG a b v s):Cb Y.env eU (EH a b r) s:=by
 unfold J3 at h;refine DK (c:=U9) (fun v=>F5 a b v) (fun v s=>EG a b v s) (EH a b) ?_ h hM;clear h hM s v r;intro i s o hM h;unfold F5 at h;unfold EG at hM;obtain⟨m0,m1,m2⟩:=hM;unfold U9;by_cases e2:i<(a.length:Int)
 ·rw [if_pos e2]at h;obtain⟨e3,h⟩:=Cq h;obtain⟨e4,h⟩:=Cq h;by_cases e5:(a.getD i.toNat bl)=(b.getD i.toNat bl)
  ·rw [if_pos e5]at h
   obtain rfl:=Option.some.inj h
   simp (maxDischargeDepth:=9) only [↓AQ,AR,Au,↓reduceIte,bo,bp,br,bt,bw,bx,bO,b0,b3,b4,b5,b6,b7,b8,b9,ca,cb,m0,m1,m2,e2,e3.1,e3.2,e4.1,e4.2,decide_eq_true e5,EG,EH,EA,EB,EC]<;>(repeat' apply A7)<;>first|rfl|exact⟨_,rfl⟩|exact⟨_,_,rfl⟩|simp [AV,AB]
  ·rw [if_neg e5]at h
   obtain rfl:=Option.some.inj h
   simp (maxDischargeDepth:=9) only [↓AQ,AR,Au,↓reduceIte,bo,bp,br,bt,bw,bx,bO,b0,b3,b4,b5,b6,b7,b8,b9,ca,cb,m0,m1,m2,e2,e3.1,e3.2,e4.1,e4.2,e5,EG,EH,EA,EB,EC]<;>(repeat' apply A7)<;>first|rfl|exact⟨_,rfl⟩|exact⟨_,_,rfl⟩|simp [AV,AB]
 ·rw [if_neg e2]at h
  obtain rfl:=Option.some.inj h
  simp (maxDischargeDepth:=9) only [↓AQ,AR,Au,↓reduceIte,bo,bp,br,bt,bw,bx,bO,b0,b3,b4,b5,b6,b7,b8,b9,ca,cb,m0,m1,m2,e2,EG,EH,EA,EB,EC]<;>(repeat' apply A7)<;>first|rfl|exact⟨_,rfl⟩|exact⟨_,_,rfl⟩|simp [AV,AB]
theorem Rv(a:AX)(b:AX){r:Bool}(h:N9 a b=some r):Y.call 14 [bm 3 (AV (bk .i64) a),bm 3 (AV (bk .i64) b)] []=some (cd r,[]):=by
 refine RO ?_ rfl;unfold k14;unfold N9 at h;by_cases e1:(a.length:Int)=(b.length:Int)
 ·rw [if_pos e1]at h;obtain⟨Ap,hl3,h⟩:=BS h;try dsimp only at h
  simp (maxDischargeDepth:=9) only [↓AQ,AR,Au,↓reduceIte,bo,bp,br,bt,bw,bx,bO,b0,b3,b4,b5,b6,b7,b8,b9,ca,cb,decide_eq_true e1];refine CQ (Qd a b hl3 ?_) ?_
  ·simp (maxDischargeDepth:=9) only [↓AQ,AR,Au,↓reduceIte,bo,bp,br,bt,bw,bx,bO,b0,b3,b4,b5,b6,b7,b8,b9,ca,cb,decide_eq_true e1,EG]<;>(repeat' apply A7)<;>first|rfl|exact⟨_,rfl⟩|exact⟨_,_,rfl⟩|simp [AV,AB]
  ·intro ex3 s3 hX3;rcases Ap with q1000_|q1000_
   ·unfold EH at hX3;dsimp only at hX3 h;obtain⟨rfl,n3_0⟩:=hX3
    obtain rfl:=Option.some.inj h
    simp (maxDischargeDepth:=9) only [↓AQ,AR,Au,↓reduceIte,bo,bp,br,bt,bw,bx,bO,b0,b3,b4,b5,b6,b7,b8,b9,ca,cb,decide_eq_true e1,n3_0]<;>(repeat' apply A7)<;>first|rfl|exact⟨_,rfl⟩|exact⟨_,_,rfl⟩|simp [AV,AB]
   ·unfold EH at hX3;dsimp only at hX3 h
    obtain rfl:=hX3
    obtain rfl:=Option.some.inj h
    simp (maxDischargeDepth:=9) only [↓AQ,AR,Au,↓reduceIte,bo,bp,br,bt,bw,bx,bO,b0,b3,b4,b5,b6,b7,b8,b9,ca,cb,decide_eq_true e1]<;>(repeat' apply A7)<;>first|rfl|exact⟨_,rfl⟩|exact⟨_,_,rfl⟩|simp [AV,AB]
 ·rw [if_neg e1]at h
  obtain rfl:=Option.some.inj h
  simp (maxDischargeDepth:=9) only [↓AQ,AR,Au,↓reduceIte,bo,bp,br,bt,bw,bx,bO,b0,b3,b4,b5,b6,b7,b8,b9,ca,cb,e1]<;>(repeat' apply A7)<;>first|rfl|exact⟨_,rfl⟩|exact⟨_,_,rfl⟩|simp [AV,AB]
theorem WF(a b:AX)(ha:a.length<1099511627776):N9 a b=some (decide (a=b)):=by
 unfold N9 J3;by_cases hl:a.length=b.length
 ·rw [if_pos (by omega)]
  have key:=EO (fun v=>F5 a b v) (fun i=>(i:Int)) a.length (fun i=>decide (a.getD i bl=b.getD i bl)) (.inl ()) (.inr ()) ?_ ?_
  ·simp only [Lc]at key;rw [key,Qa a b hl];by_cases he:a=b<;>simp [he]
  ·intro i hi;simp only [F5];rw [if_pos (D8 hi),Ch (Gs hi),Ch (Gs (by omega)),Fj,Nr i (by omega)]<;>simp only [decide_eq_true_eq]
  ·simp only [F5];rw [if_neg (BK _)]
 ·rw [if_neg (by omega)]
  have: ¬a=b:=fun e=>hl (by rw [e])
  simp [this]
theorem Ky(a:AX)(b:AX)(h0:a.length<1099511627776):Y.call 14 [bm 3 (AV (bk .i64) a),bm 3 (AV (bk .i64) b)] []=some (cd (decide (a=b)),[]):=Rv a b (WF a b h0)
def Et(left n:Int):Int:=if left-n<0 then-1 else left-n
theorem HY(left n:Int):Et left n= -1∨(Et left n=left-n∧0≤left-n):=by unfold Et;split<;>omega
def Io(l:We):Int:=(l.map fun xs=>(xs.length:Int)).sum
theorem YZ:Io []=0:=rfl
theorem NA(x:AX)(l:We):Io (x::l)=x.length+Io l:=rfl
theorem HZ(l:We):0≤Io l:=by
 induction l with
 |nil=>rw [YZ];omega
 |cons x l ih=>rw [NA];omega
theorem il{l:We}{x:AX}(h:x∈l):(x.length:Int)≤Io l:=by
 induction l with
 |nil=>cases h
 |cons y l ih=>
  rw [NA];have:=HZ l
  rcases M4.1 h with rfl|h
  ·omega
  ·have:=ih h;omega
def NB(a:AX)(left:Int):Option (Int):= if(ce.wrap (left-(a.length:Int)))<0 then some (-1) else some (ce.wrap (left-(a.length:Int)))
def k59:SC:= .seq (.ops [oX 4 (.assign (iK 0)) 3]) (.seq (.ops [oM 5 1 3,oM 6 0 26,oN 7 6 26,oB 8 .sub 3 (tK 5) (tK 7) 3 3,oA 1 8 3]) (.seq (.seq (.ops [oM 9 1 3,oB 10 .lss 3 (tK 9) (iK 0) 3 4]) (.cond (tK 10) (.seq (.ops [oX 4 N7 3]) .ret) .skip)) (.seq (.ops [oM 11 1 3,oA 4 11 3]) .ret)))
theorem vW:Try.f59.body.map (Bw lends)=some k59:=by kernel_rfl
theorem A8V:CV Try.f59 2=true:=by kernel_rfl
theorem c59{a l:List D}{r:D×List D}(h:Cb Y.env k59 (GX Ad l.length [cg 4] r) (entry a l))(ha:a.length=2):Y.call 59 a l=some r:=
 Ag (Y:=Y) rfl Try.func59 (ha▸A8V) vW h
theorem Rw(a:AX)(left:Int){r:Int}(h:NB a left=some r):Y.call 59 [bm 3 (AV (bk .i64) a),bk .i64 left] []=some (bk .i64 r,[]):=by
 refine c59 ?_ rfl;unfold k59;unfold NB at h;by_cases e1:(ce.wrap (left-(a.length:Int)))<0
 ·rw [if_pos e1]at h
  obtain rfl:=Option.some.inj h
  simp (maxDischargeDepth:=9) only [↓AQ,AR,Au,↓reduceIte,bo,bp,br,bt,bw,bx,bO,b0,b3,b4,b5,b6,b7,b8,b9,ca,cb,e1]<;>(repeat' apply A7)<;>first|rfl|exact⟨_,rfl⟩|exact⟨_,_,rfl⟩|simp [AV,AB]
 ·rw [if_neg e1]at h
  obtain rfl:=Option.some.inj h
  simp (maxDischargeDepth:=9) only [↓AQ,AR,Au,↓reduceIte,bo,bp,br,bt,bw,bx,bO,b0,b3,b4,b5,b6,b7,b8,b9,ca,cb,e1]<;>(repeat' apply A7)<;>first|rfl|exact⟨_,rfl⟩|exact⟨_,_,rfl⟩|simp [AV,AB]
theorem WG(a:AX)(left:Int)(ha:a.length<9223372036854775808)(hl:0≤left∧left≤1048576):NB a left=some (Et left a.length):=by
 unfold NB Et;rw [Oj _ (by omega)]
 split<;>rfl
theorem Kz(a:AX)(left:Int)(h0:a.length<9223372036854775808)(h1:0≤left∧left≤1048576):Y.call 59 [bm 3 (AV (bk .i64) a),bk .i64 left] []=some (bk .i64 (Et left a.length),[]):=Rw a left (WG a left h0 h1)
def sG:Int→We→Int
 |left,[]=>left
 |left,x::l=>if left-x.length<0 then-1 else sG (left-x.length) l
theorem vX(l:We): ∀(left:Int),0≤left→sG left l=Et left (Io l):=by
 induction l with
 |nil=>intro left h;unfold sG Et;rw [YZ,if_neg (by omega)];omega
 |cons x l ih=>
  intro left h;have:=HZ l
  unfold sG;by_cases hq:left-x.length<0
  ·rw [if_pos hq];unfold Et;rw [NA,if_pos (by omega)]
  ·rw [if_neg hq,ih _ (by omega)]
   unfold Et;rw [NA];by_cases hr:left-x.length-Io l<0
   ·rw [if_pos hr,if_pos (by omega)]
   ·rw [if_neg hr,if_neg (by omega)];omega
def A43(l:We):Prop:=l.length<9223372036854775808∧ ∀x∈l,x.length<9223372036854775808
instance (l:We):Decidable (A43 l):=by unfold A43;infer_instance
def upto(k:Int)(n:Nat):AX:=(an n).map fun(i:Nat)=>k+i
def A44:Int→We→We
 |_,[]=>[]
 |k,x::l=>upto k x.length::A44 (k+x.length) l
def Zb:Int→AX→Int
 |k,[]=>k
 |k,x::l=>if x=k then Zb (k+1) l else-1
def iq:SC:= .seq (.seq (.ops [oM 6 5 3,oM 7 0 26,oN 8 7 26,oB 9 .lss 3 (tK 6) (tK 8) 3 4]) (.cond (tK 9) .skip (.exit 0))) (.seq (.block 1 (.seq (.seq (.ops [oM 12 0 26,oM 13 5 3,oI 14 26 12 13,oL 15 3 14 3,oM 16 1 3,oB 17 .neq 3 (tK 15) (tK 16) 3 4]) (.cond (tK 17) (.seq (.ops [oX 4 N7 3]) .ret) .skip)) (.ops [oM 18 1 3,oB 19 .add 3 (tK 18) (iK 1) 3 3,oA 1 19 3]))) (.ops [oM 10 5 3,oB 11 .add 3 (tK 10) (iK 1) 3 3,oA 5 11 3]))
def vY:SC:= .loop iq
def k18:SC:= .seq (.ops [oX 4 (.assign (iK 0)) 3]) (.seq (.seq (.ops [oX 5 (.assign (iK 0)) 3]) (.block 0 vY)) (.seq (.ops [oM 20 1 3,oA 4 20 3]) .ret))
theorem vZ:Try.f18.body.map (Bw lends)=some k18:=by kernel_rfl
theorem A8W:CV Try.f18 2=true:=by kernel_rfl
theorem c18{a l:List D}{r:D×List D}(h:Cb Y.env k18 (GX Ad l.length [cg 4] r) (entry a l))(ha:a.length=2):Y.call 18 a l=some r:=
 Ag (Y:=Y) rfl Try.func18 (ha▸A8W) vZ h
def k12:SC:= .seq (.ops [oX 1 (.box 24 (tK 0)) 0,oX 2 (.alloc 29) 0]) (.seq (.ops [oX 3 (.alloc 29) 0]) (.seq (.ops [oF 4 24 1 0,oL 5 3 4 3,oF 6 29 3 0,oS 3 6 5]) (.seq (.ops [oF 7 24 1 1,oL 8 3 7 3,oF 9 29 3 1,oS 3 9 8]) (.seq (.ops [oF 10 24 1 2,oL 11 22 10 22,oC 12 45 [(tK 11)] [22] 22,oF 13 29 3 2,oS 22 13 12]) (.seq (.ops [oF 14 24 1 3,oL 15 22 14 22,oC 16 45 [(tK 15)] [22] 22,oF 17 29 3 3,oS 22 17 16]) (.seq (.ops [oL 18 29 3 29,oS 29 2 18]) .ret))))))
theorem vg:Try.f12.body.map (Bw lends)=some k12:=by kernel_rfl
theorem A8X:CV Try.f12 1=true:=by kernel_rfl
theorem UA{a l:List D}{r:D×List D}(h:Cb Y.env k12 (GX Ad l.length [ResultVar.cell 2 29] r) (entry a l))(ha:a.length=1):Y.call 12 a l=some r:=
 Ag (Y:=Y) rfl Try.func12 (ha▸A8X) vg h
def k15:SC:= .seq (.ops [oX 2 (.box 29 (tK 0)) 0,oX 3 (.box 29 (tK 1)) 0,oX 4 BU 4]) (.seq (.seq (.ops [oF 5 29 2 0,oL 6 3 5 3,oF 7 29 3 0,oL 8 3 7 3,oB 9 .neq 3 (tK 6) (tK 8) 3 4]) (.cond (tK 9) (.seq (.ops [oX 4 BU 4]) .ret) .skip)) (.seq (.seq (.ops [oF 10 29 2 1,oL 11 3 10 3,oF 12 29 3 1,oL 13 3 12 3,oB 14 .neq 3 (tK 11) (tK 13) 3 4]) (.cond (tK 14) (.seq (.ops [oX 4 BU 4]) .ret) .skip)) (.seq (.seq (.ops [oF 15 29 2 2,oL 16 22 15 22,oF 17 29 3 2,oL 18 22 17 22,oC 19 48 [(tK 16),(tK 18)] [22,22] 4,oX 20 (.unOp .not 4 (tK 19)) 4]) (.cond (tK 20) (.seq (.ops [oX 4 BU 4]) .ret) .skip)) (.seq (.seq (.ops [oF 21 29 2 3,oL 22 22 21 22,oF 23 29 3 3,oL 24 22 23 22,oC 25 48 [(tK 22),(tK 24)] [22,22] 4,oX 26 (.unOp .not 4 (tK 25)) 4]) (.cond (tK 26) (.seq (.ops [oX 4 BU 4]) .ret) .skip)) (.seq (.ops [oX 4 (.assign Dz) 4]) .ret)))))
theorem vk:Try.f15.body.map (Bw lends)=some k15:=by kernel_rfl
theorem A8Y:CV Try.f15 2=true:=by kernel_rfl
theorem PH{a l:List D}{r:D×List D}(h:Cb Y.env k15 (GX Ad l.length [cg 4] r) (entry a l))(ha:a.length=2):Y.call 15 a l=some r:=
 Ag (Y:=Y) rfl Try.func15 (ha▸A8Y) vk h
def k10:SC:= .seq (.ops [oX 2 (.box 24 (tK 0)) 0,oX 4 (.assign (iK 0)) 3]) (.seq (.ops [oF 5 24 2 2,oL 6 22 5 22,oM 7 1 3,oC 8 40 [(tK 6),(tK 7)] [22,3] 3,oA 1 8 3]) (.seq (.seq (.ops [oM 9 1 3,oB 10 .lss 3 (tK 9) (iK 0) 3 4]) (.cond (tK 10) (.seq (.ops [oX 4 N7 3]) .ret) .skip)) (.seq (.ops [oF 11 24 2 3,oL 12 22 11 22,oM 13 1 3,oC 14 40 [(tK 12),(tK 13)] [22,3] 3,oA 1 14 3]) (.seq (.seq (.ops [oM 15 1 3,oB 16 .lss 3 (tK 15) (iK 0) 3 4]) (.cond (tK 16) (.seq (.ops [oX 4 N7 3]) .ret) .skip)) (.seq (.ops [oM 17 1 3,oA 4 17 3]) .ret)))))
theorem vo:Try.f10.body.map (Bw lends)=some k10:=by kernel_rfl
theorem A8Z:CV Try.f10 2=true:=by kernel_rfl
theorem c10{a l:List D}{r:D×List D}(h:Cb Y.env k10 (GX Ad l.length [cg 4] r) (entry a l))(ha:a.length=2):Y.call 10 a l=some r:=
 Ag (Y:=Y) rfl Try.func10 (ha▸A8Z) vo h
def k16:SC:= .seq (.ops [oX 2 (.box 29 (tK 0)) 0,oX 4 (.assign (iK 0)) 3]) (.seq (.ops [oF 5 29 2 2,oL 6 22 5 22,oM 7 1 3,oC 8 49 [(tK 6),(tK 7)] [22,3] 3,oA 1 8 3]) (.seq (.ops [oF 9 29 2 3,oL 10 22 9 22,oM 11 1 3,oC 12 49 [(tK 10),(tK 11)] [22,3] 3,oA 1 12 3]) (.seq (.ops [oM 13 1 3,oA 4 13 3]) .ret)))
theorem vz:Try.f16.body.map (Bw lends)=some k16:=by kernel_rfl
theorem A8a:CV Try.f16 2=true:=by kernel_rfl
theorem Rx{a l:List D}{r:D×List D}(h:Cb Y.env k16 (GX Ad l.length [cg 4] r) (entry a l))(ha:a.length=2):Y.call 16 a l=some r:=
 Ag (Y:=Y) rfl Try.func16 (ha▸A8a) vz h
def Eo(n lo hi:Int):Bool:=decide (lo≤n∧n≤hi)
theorem DW{n lo hi:Int}:Eo n lo hi=true↔lo≤n∧n≤hi:=by simp [Eo]
def NC(n_:Int)(low:Int)(high:Int):Option (Bool):= if low≤n_ then some (decide (n_≤high)) else some false
def k97:SC:= .seq (.ops [oX 6 BU 4]) (.seq (.ops [oM 7 1 3,oM 8 0 3,oB 9 .leq 3 (tK 7) (tK 8) 3 4,oM 10 9 4,⟨(some 11),(.move (tK 0)),3,(some (some 10,true))⟩,⟨(some 12),(.move (tK 2)),3,(some (some 10,true))⟩,⟨(some 13),(.binOp .leq 3 (tK 11) (tK 12) 3),4,(some (some 10,true))⟩,oX 14 (.pick (tK 10) (tK 13) MI) 4,oA 6 14 4]) .ret)
theorem w9:Try.f97.body.map (Bw lends)=some k97:=by kernel_rfl
theorem A8c:CV Try.f97 3=true:=by kernel_rfl
theorem c97{a l:List D}{r:D×List D}(h:Cb Y.env k97 (GX Ad l.length [cg 6] r) (entry a l))(ha:a.length=3):Y.call 97 a l=some r:=
 Ag (Y:=Y) rfl Try.func97 (ha▸A8c) w9 h
theorem Ry(n_:Int)(low:Int)(high:Int){r:Bool}(h:NC n_ low high=some r):Y.call 97 [bk .i64 n_,bk .i64 low,bk .i64 high] []=some (cd r,[]):=by
 refine c97 ?_ rfl;unfold k97;unfold NC at h;by_cases e1:low≤n_
 ·rw [if_pos e1]at h
  obtain rfl:=Option.some.inj h
  simp (maxDischargeDepth:=9) only [↓AQ,AR,Au,↓reduceIte,bo,bp,br,bt,bw,bx,bO,b0,b3,b4,b5,b6,b7,b8,b9,ca,cb,e1]<;>(repeat' apply A7)<;>first|rfl|exact⟨_,rfl⟩|exact⟨_,_,rfl⟩|simp [AV,AB]
 ·rw [if_neg e1]at h
  obtain rfl:=Option.some.inj h
  simp (maxDischargeDepth:=9) only [↓AQ,AR,Au,↓reduceIte,bo,bp,br,bt,bw,bx,bO,b0,b3,b4,b5,b6,b7,b8,b9,ca,cb,e1]<;>(repeat' apply A7)<;>first|rfl|exact⟨_,rfl⟩|exact⟨_,_,rfl⟩|simp [AV,AB]
def UB(n_:Int)(lo:Int)(hi:Int):Option (Bool):= if lo≤n_ then some (decide (n_≤hi)) else some false
def k92:SC:= .seq (.ops [oX 6 BU 4]) (.seq (.ops [oM 7 0 3,oM 8 1 3,oB 9 .geq 3 (tK 7) (tK 8) 3 4,oM 10 9 4,⟨(some 11),(.move (tK 0)),3,(some (some 10,true))⟩,⟨(some 12),(.move (tK 2)),3,(some (some 10,true))⟩,⟨(some 13),(.binOp .leq 3 (tK 11) (tK 12) 3),4,(some (some 10,true))⟩,oX 14 (.pick (tK 10) (tK 13) MI) 4,oA 6 14 4]) .ret)
theorem wB:Try.f92.body.map (Bw lends)=some k92:=by kernel_rfl
theorem A8e:CV Try.f92 3=true:=by kernel_rfl
theorem c92{a l:List D}{r:D×List D}(h:Cb Y.env k92 (GX Ad l.length [cg 6] r) (entry a l))(ha:a.length=3):Y.call 92 a l=some r:=
 Ag (Y:=Y) rfl Try.func92 (ha▸A8e) wB h
theorem WH(n_:Int)(lo:Int)(hi:Int){r:Bool}(h:UB n_ lo hi=some r):Y.call 92 [bk .i64 n_,bk .i64 lo,bk .i64 hi] []=some (cd r,[]):=by
 refine c92 ?_ rfl;unfold k92;unfold UB at h;by_cases e1:lo≤n_
 ·rw [if_pos e1]at h
  obtain rfl:=Option.some.inj h
  simp (maxDischargeDepth:=9) only [↓AQ,AR,Au,↓reduceIte,bo,bp,br,bt,bw,bx,bO,b0,b3,b4,b5,b6,b7,b8,b9,ca,cb,e1]<;>(repeat' apply A7)<;>first|rfl|exact⟨_,rfl⟩|exact⟨_,_,rfl⟩|simp [AV,AB]
 ·rw [if_neg e1]at h
  obtain rfl:=Option.some.inj h
  simp (maxDischargeDepth:=9) only [↓AQ,AR,Au,↓reduceIte,bo,bp,br,bt,bw,bx,bO,b0,b3,b4,b5,b6,b7,b8,b9,ca,cb,e1]<;>(repeat' apply A7)<;>first|rfl|exact⟨_,rfl⟩|exact⟨_,_,rfl⟩|simp [AV,AB]
theorem WI(n lo hi:Int):NC n lo hi=some (Eo n lo hi):=by unfold NC Eo;by_cases h1:lo≤n<;>by_cases h2:n≤hi<;>simp [h1,h2]
theorem Zz(n lo hi:Int):UB n lo hi=some (Eo n lo hi):=by unfold UB Eo;by_cases h1:lo≤n<;>by_cases h2:n≤hi<;>simp [h1,h2]
theorem Ga(n_:Int)(low:Int)(high:Int):Y.call 97 [bk .i64 n_,bk .i64 low,bk .i64 high] []=some (cd (Eo n_ low high),[]):=Ry n_ low high (WI n_ low high)
theorem Gb(n_:Int)(lo:Int)(hi:Int):Y.call 92 [bk .i64 n_,bk .i64 lo,bk .i64 hi] []=some (cd (Eo n_ lo hi),[]):=WH n_ lo hi (Zz n_ lo hi)
def G5(l:AX)(lo:Int)(hi:Int)(G6:Int):Option ((Int)⊕(Unit⊕Unit)):= if G6<(l.length:Int)then ck (0≤G6∧G6.toNat<l.length)<| if(Eo (l.getD G6.toNat bl) lo hi)=true then some (cf (ce.wrap (G6+1))) else some (cc (cf ())) else some (cc (cc ()))
def Jv(l:AX)(lo:Int)(hi:Int)(v:Int):Option (Unit⊕Unit):=Jf (fun v=>G5 l lo hi v) v
def PI(l:AX)(lo:Int)(hi:Int):Option (Bool):=
 (Jv l lo hi 0).bind fun Ap=>
 match Ap with
 | .inl q1000_=>
  some false
 | .inr q1000_=>
  some true
def Qe:SC:= .seq (.ops [oB 12 .lss 3 (tK 11) (tK 10) 3 0]) (.seq (.cond (tK 12) .skip (.exit 0)) (.seq (.block 1 (.seq (.ops [oI 13 26 9 11,oL 14 3 13 3,oA 8 14 3]) (.seq (.ops [oM 15 8 3,oM 16 1 3,oM 17 2 3,oC 18 92 [(tK 15),(tK 16),(tK 17)] [3,3,3] 4,oX 19 (.unOp .not 4 (tK 18)) 4]) (.cond (tK 19) (.seq (.ops [oX 6 BU 4]) .ret) .skip)))) (.ops [oB 20 .add 3 (tK 11) (iK 1) 3 3,oM 11 20 3])))
def Ya:SC:= .loop Qe
def wC:SC:= .seq (.ops [oX 6 BU 4]) (.seq (.seq (.ops [oM 9 0 26,oN 10 9 26,oX 11 (.move (iK 0)) 3]) (.block 0 Ya)) (.seq (.ops [oX 6 (.assign Dz) 4]) .ret))
theorem iw:Try.f107.body.map (Bw lends)=some wC:=by kernel_rfl
theorem A45:CV Try.f107 3=true:=by kernel_rfl
theorem A8f{a l:List D}{r:D×List D}(h:Cb Y.env wC (GX Ad l.length [cg 6] r) (entry a l))(ha:a.length=3):Y.call 107 a l=some r:=
 Ag (Y:=Y) rfl Try.func107 (ha▸A45) iw h
def Eg(l:AX)(lo:Int)(hi:Int)(G6:Int)(s:St):Prop:=s.v 1=bk .i64 lo∧s.v 2=bk .i64 hi∧s.v 9=bm 3 (AV (bk .i64) l)∧s.v 10=bk .i64 (l.length:Int)∧s.v 11=bk .i64 G6
def Eh(l:AX)(lo:Int)(hi:Int)(r:Unit⊕Unit)(ex:Ex)(s:St):Prop:=match r with
 | .inl q=>ex= .ret∧s.v 6=cd false
 | .inr q=>ex= .exit 0
theorem Rz(l:AX)(lo:Int)(hi:Int){v:Int}{s:St}{r:Unit⊕Unit}(h:Jv l lo hi v=some r)(hM:Eg l lo hi v s):Cb Y.env Ya (Eh l lo hi r) s:=by
 unfold Jv at h;refine DK (c:=Qe) (fun v=>G5 l lo hi v) (fun v s=>Eg l lo hi v s) (Eh l lo hi) ?_ h hM;clear h hM s v r;intro G6 s o hM h;unfold G5 at h;unfold Eg at hM;obtain⟨m0,m1,m2,m3,m4⟩:=hM;unfold Qe;by_cases e1:G6<(l.length:Int)
 ·rw [if_pos e1]at h;obtain⟨e2,h⟩:=Cq h;have c3:=Gb (l.getD G6.toNat bl) lo hi;by_cases e4:(Eo (l.getD G6.toNat bl) lo hi)=true
  ·rw [if_pos e4]at h
   obtain rfl:=Option.some.inj h
   simp (maxDischargeDepth:=9) only [↓AQ,AR,Au,↓reduceIte,bo,bp,br,bt,bw,bx,bO,b0,b3,b4,b5,b6,b7,b8,b9,ca,cb,m0,m1,m2,m3,m4,e1,e2.1,e2.2,c3,e4,Eg,Eh,EA,EB,EC]<;>(repeat' apply A7)<;>first|rfl|exact⟨_,rfl⟩|exact⟨_,_,rfl⟩|simp [AV,AB]
  ·rw [if_neg e4]at h;have e4f:(Eo (l.getD G6.toNat bl) lo hi)=false:=Gw.mpr e4
   obtain rfl:=Option.some.inj h
   simp (maxDischargeDepth:=9) only [↓AQ,AR,Au,↓reduceIte,bo,bp,br,bt,bw,bx,bO,b0,b3,b4,b5,b6,b7,b8,b9,ca,cb,m0,m1,m2,m3,m4,e1,e2.1,e2.2,c3,e4f,Eg,Eh,EA,EB,EC]<;>(repeat' apply A7)<;>first|rfl|exact⟨_,rfl⟩|exact⟨_,_,rfl⟩|simp [AV,AB]
 ·rw [if_neg e1]at h
  obtain rfl:=Option.some.inj h
  simp (maxDischargeDepth:=9) only [↓AQ,AR,Au,↓reduceIte,bo,bp,br,bt,bw,bx,bO,b0,b3,b4,b5,b6,b7,b8,b9,ca,cb,m0,m1,m2,m3,m4,e1,Eg,Eh,EA,EB,EC]<;>(repeat' apply A7)<;>first|rfl|exact⟨_,rfl⟩|exact⟨_,_,rfl⟩|simp [AV,AB]
theorem UC(l:AX)(lo:Int)(hi:Int){r:Bool}(h:PI l lo hi=some r):Y.call 107 [bm 3 (AV (bk .i64) l),bk .i64 lo,bk .i64 hi] []=some (cd r,[]):=by
 refine A8f ?_ rfl;unfold wC;unfold PI at h;obtain⟨Ap,hl2,h⟩:=BS h;try dsimp only at h
 simp (maxDischargeDepth:=9) only [↓AQ,AR,Au,↓reduceIte,bo,bp,br,bt,bw,bx,bO,b0,b3,b4,b5,b6,b7,b8,b9,ca,cb];refine CQ (Rz l lo hi hl2 ?_) ?_
 ·simp (maxDischargeDepth:=9) only [↓AQ,AR,Au,↓reduceIte,bo,bp,br,bt,bw,bx,bO,b0,b3,b4,b5,b6,b7,b8,b9,ca,cb,Eg]<;>(repeat' apply A7)<;>first|rfl|exact⟨_,rfl⟩|exact⟨_,_,rfl⟩|simp [AV,AB]
 ·intro ex2 s2 hX2;rcases Ap with q1000_|q1000_
  ·unfold Eh at hX2;dsimp only at hX2 h;obtain⟨rfl,n2_0⟩:=hX2
   obtain rfl:=Option.some.inj h
   simp (maxDischargeDepth:=9) only [↓AQ,AR,Au,↓reduceIte,bo,bp,br,bt,bw,bx,bO,b0,b3,b4,b5,b6,b7,b8,b9,ca,cb,n2_0]<;>(repeat' apply A7)<;>first|rfl|exact⟨_,rfl⟩|exact⟨_,_,rfl⟩|simp [AV,AB]
  ·unfold Eh at hX2;dsimp only at hX2 h
   obtain rfl:=hX2
   obtain rfl:=Option.some.inj h
   simp (maxDischargeDepth:=9) only [↓AQ,AR,Au,↓reduceIte,bo,bp,br,bt,bw,bx,bO,b0,b3,b4,b5,b6,b7,b8,b9,ca,cb]<;>(repeat' apply A7)<;>first|rfl|exact⟨_,rfl⟩|exact⟨_,_,rfl⟩|simp [AV,AB]
def Gc(l:AX)(lo hi:Int):Bool:=l.all fun x=>Eo x lo hi
theorem Xr(l:AX)(lo hi:Int)(h:l.length<1099511627776):PI l lo hi=some (Gc l lo hi):=by
 unfold PI Jv;have key:=EO (fun v=>G5 l lo hi v) (fun i=>(i:Int)) l.length (fun i=>Eo (l.getD i bl) lo hi) (.inl ()) (.inr ()) ?_ ?_
 ·simp only [Lc]at key;rw [key,Vy (fun x=>Eo x lo hi)];unfold Gc
  cases l.all (fun x=>Eo x lo hi)<;>rfl
 ·intro i hi;simp only [G5];rw [if_pos (D8 hi),Ch (Gs hi),Fj,Nr i (by omega)]
 ·simp only [G5];rw [if_neg (BK _)]
theorem Xt(l:AX)(lo:Int)(hi:Int)(h0:l.length<1099511627776):Y.call 107 [bm 3 (AV (bk .i64) l),bk .i64 lo,bk .i64 hi] []=some (cd (Gc l lo hi),[]):=UC l lo hi (Xr l lo hi h0)
def Ar(s_:AX)(f:Int→Option Bool)(Gf:Int):Option ((Int)⊕(Int⊕Unit)):= if Gf<(s_.length:Int)then ck (0≤Gf∧Gf.toNat<s_.length)<| (f (s_.getD Gf.toNat bl)).bind fun ND=> if ND=true then some (cc (cf Gf)) else some (cf (ce.wrap (Gf+1))) else some (cc (cc ()))
def CE(s_:AX)(f:Int→Option Bool)(v:Int):Option (Int⊕Unit):=Jf (fun v=>Ar s_ f v) v
def Bq(s_:AX)(f:Int→Option Bool):Option (Int):=
 (CE s_ f 0).bind fun Ap=>
 match Ap with
 | .inl q1000_=>
  some q1000_
 | .inr q1000_=>
  some (-1)
def Qf:SC:= .seq (.ops [oB 9 .lss 3 (tK 8) (tK 7) 3 0]) (.seq (.cond (tK 9) .skip (.exit 0)) (.seq (.block 1 (.seq (.ops [oM 10 8 3,oA 5 10 3]) (.seq (.ops [oM 11 1 87,oM 12 0 26,oM 13 5 3,oI 14 26 12 13,oL 15 3 14 3,oX 16 (.call ⟨(.value (tK 11)), #[(tK 15)], #[3]⟩) 4]) (.cond (tK 16) (.seq (.ops [oM 17 5 3,oA 4 17 3]) .ret) .skip)))) (.ops [oB 18 .add 3 (tK 8) (iK 1) 3 3,oM 8 18 3])))
def Yb:SC:= .loop Qf
def wD:SC:= .seq (.ops [oX 4 (.assign (iK 0)) 3]) (.seq (.seq (.ops [oM 6 0 26,oN 7 6 26,oX 8 (.move (iK 0)) 3]) (.block 0 Yb)) (.seq (.ops [oX 4 N7 3]) .ret))
theorem iy:Try.f163.body.map (Bw lends)=some wD:=by kernel_rfl
theorem A46:CV Try.f163 2=true:=by kernel_rfl
theorem A8g{a l:List D}{r:D×List D}(h:Cb Y.env wD (GX Ad l.length [cg 4] r) (entry a l))(ha:a.length=2):Y.call 163 a l=some r:=
 Ag (Y:=Y) rfl Try.func163 (ha▸A46) iy h
def BB(s_:AX)(f:Int→Option Bool)(f_f:FuncId)(f_c:List D)(Gf:Int)(s:St):Prop:=s.v 0=bm 3 (AV (bk .i64) s_)∧s.v 1=D.clo f_f f_c∧s.v 7=bk .i64 (s_.length:Int)∧s.v 8=bk .i64 Gf
def BC(s_:AX)(f:Int→Option Bool)(f_f:FuncId)(f_c:List D)(r:Int⊕Unit)(ex:Ex)(s:St):Prop:=match r with
 | .inl q=>ex= .ret∧s.v 4=bk .i64 q
 | .inr q=>ex= .exit 0
theorem Gg(s_:AX)(f:Int→Option Bool)(f_f:FuncId)(f_c:List D)(f_h: ∀(a0:Int) (r:Bool),f a0=some r→Y.call f_f (bk .i64 a0::f_c) []=some (cd r,[]))(f_l:lends f_f=false){v:Int}{s:St}{r:Int⊕Unit}(h:CE s_ f v=some r)(hM:BB s_ f f_f f_c v s):Cb Y.env Yb (BC s_ f f_f f_c r) s:=by
 unfold CE at h;refine DK (c:=Qf) (fun v=>Ar s_ f v) (fun v s=>BB s_ f f_f f_c v s) (BC s_ f f_f f_c) ?_ h hM;clear h hM s v r;intro Gf s o hM h;unfold Ar at h;unfold BB at hM;obtain⟨m0,m1,m2,m3⟩:=hM;unfold Qf;by_cases e1:Gf<(s_.length:Int)
 ·rw [if_pos e1]at h;obtain⟨e2,h⟩:=Cq h;obtain⟨ND,hl3,h⟩:=BS h;try dsimp only at h
  have c3:=f_h _ _ hl3;by_cases e4:ND=true
  ·rw [if_pos e4]at h
   obtain rfl:=Option.some.inj h
   simp (maxDischargeDepth:=9) only [↓AQ,AR,Au,↓reduceIte,bo,bp,br,bt,bw,bx,bO,b0,b3,b4,b5,b6,b7,b8,b9,ca,cb,m0,m1,m2,m3,f_l,e1,e2.1,e2.2,c3,e4,BB,BC,EA,EB,EC]<;>(repeat' apply A7)<;>first|rfl|exact⟨_,rfl⟩|exact⟨_,_,rfl⟩|simp [AV,AB]
  ·rw [if_neg e4]at h;have e4f:ND=false:=Gw.mpr e4
   obtain rfl:=Option.some.inj h
   simp (maxDischargeDepth:=9) only [↓AQ,AR,Au,↓reduceIte,bo,bp,br,bt,bw,bx,bO,b0,b3,b4,b5,b6,b7,b8,b9,ca,cb,m0,m1,m2,m3,f_l,e1,e2.1,e2.2,c3,e4f,BB,BC,EA,EB,EC]<;>(repeat' apply A7)<;>first|rfl|exact⟨_,rfl⟩|exact⟨_,_,rfl⟩|simp [AV,AB]
 ·rw [if_neg e1]at h
  obtain rfl:=Option.some.inj h
  simp (maxDischargeDepth:=9) only [↓AQ,AR,Au,↓reduceIte,bo,bp,br,bt,bw,bx,bO,b0,b3,b4,b5,b6,b7,b8,b9,ca,cb,m0,m1,m2,m3,f_l,e1,BB,BC,EA,EB,EC]<;>(repeat' apply A7)<;>first|rfl|exact⟨_,rfl⟩|exact⟨_,_,rfl⟩|simp [AV,AB]
theorem Gt(s_:AX)(f:Int→Option Bool)(f_f:FuncId)(f_c:List D)(f_h: ∀(a0:Int) (r:Bool),f a0=some r→Y.call f_f (bk .i64 a0::f_c) []=some (cd r,[]))(f_l:lends f_f=false){r:Int}(h:Bq s_ f=some r):Y.call 163 [bm 3 (AV (bk .i64) s_),D.clo f_f f_c] []=some (bk .i64 r,[]):=by
 refine A8g ?_ rfl;unfold wD;unfold Bq at h;obtain⟨Ap,hl2,h⟩:=BS h;try dsimp only at h
 simp (maxDischargeDepth:=9) only [↓AQ,AR,Au,↓reduceIte,bo,bp,br,bt,bw,bx,bO,b0,b3,b4,b5,b6,b7,b8,b9,ca,cb,f_l];refine CQ (Gg s_ f f_f f_c f_h f_l hl2 ?_) ?_
 ·simp (maxDischargeDepth:=9) only [↓AQ,AR,Au,↓reduceIte,bo,bp,br,bt,bw,bx,bO,b0,b3,b4,b5,b6,b7,b8,b9,ca,cb,f_l,BB]<;>(repeat' apply A7)<;>first|rfl|exact⟨_,rfl⟩|exact⟨_,_,rfl⟩|simp [AV,AB]
 ·intro ex2 s2 hX2;rcases Ap with q1000_|q1000_
  ·unfold BC at hX2;dsimp only at hX2 h;obtain⟨rfl,n2_0⟩:=hX2
   obtain rfl:=Option.some.inj h
   simp (maxDischargeDepth:=9) only [↓AQ,AR,Au,↓reduceIte,bo,bp,br,bt,bw,bx,bO,b0,b3,b4,b5,b6,b7,b8,b9,ca,cb,f_l,n2_0]<;>(repeat' apply A7)<;>first|rfl|exact⟨_,rfl⟩|exact⟨_,_,rfl⟩|simp [AV,AB]
  ·unfold BC at hX2;dsimp only at hX2 h
   obtain rfl:=hX2
   obtain rfl:=Option.some.inj h
   simp (maxDischargeDepth:=9) only [↓AQ,AR,Au,↓reduceIte,bo,bp,br,bt,bw,bx,bO,b0,b3,b4,b5,b6,b7,b8,b9,ca,cb,f_l]<;>(repeat' apply A7)<;>first|rfl|exact⟨_,rfl⟩|exact⟨_,_,rfl⟩|simp [AV,AB]
def BM(s_:AX)(f:Int→Option Bool):Option (Bool):= (Bq s_ f).bind fun r7_=> some (decide (0≤r7_))
def wE:SC:= .seq (.ops [oX 4 BU 4]) (.seq (.ops [oM 5 0 26,oM 6 1 87,oC 7 163 [(tK 5),(tK 6)] [26,87] 3,oB 8 .geq 3 (tK 7) (iK 0) 3 4,oA 4 8 4]) .ret)
theorem j3:Try.f133.body.map (Bw lends)=some wE:=by kernel_rfl
theorem A48:CV Try.f133 2=true:=by kernel_rfl
theorem A8h{a l:List D}{r:D×List D}(h:Cb Y.env wE (GX Ad l.length [cg 4] r) (entry a l))(ha:a.length=2):Y.call 133 a l=some r:=
 Ag (Y:=Y) rfl Try.func133 (ha▸A48) j3 h
theorem Db(s_:AX)(f:Int→Option Bool)(f_f:FuncId)(f_c:List D)(f_h: ∀(a0:Int) (r:Bool),f a0=some r→Y.call f_f (bk .i64 a0::f_c) []=some (cd r,[]))(f_l:lends f_f=false){r:Bool}(h:BM s_ f=some r):Y.call 133 [bm 3 (AV (bk .i64) s_),D.clo f_f f_c] []=some (cd r,[]):=by
 refine A8h ?_ rfl;unfold wE;unfold BM at h;obtain⟨r7_,hl1,h⟩:=BS h;try dsimp only at h
 have c1:=Gt s_ f f_f f_c f_h f_l hl1
 obtain rfl:=Option.some.inj h
 simp (maxDischargeDepth:=9) only [↓AQ,AR,Au,↓reduceIte,bo,bp,br,bt,bw,bx,bO,b0,b3,b4,b5,b6,b7,b8,b9,ca,cb,f_l,c1]<;>(repeat' apply A7)<;>first|rfl|exact⟨_,rfl⟩|exact⟨_,_,rfl⟩|simp [AV,AB]
def GI(n_:Int)(c0_:Int)(c1_:Int):Option (Bool):= some (!(Eo n_ c0_ c1_))
def wF:SC:= .seq (.ops [oX 4 BU 4]) (.seq (.ops [oM 5 0 3,oL 6 3 1 3,oL 7 3 2 3,oC 8 97 [(tK 5),(tK 6),(tK 7)] [3,3,3] 4,oX 9 (.unOp .not 4 (tK 8)) 4,oA 4 9 4]) .ret)
theorem j4:Try.f170.body.map (Bw lends)=some wF:=by kernel_rfl
theorem A49:CV Try.f170 3=true:=by kernel_rfl
theorem A8i{a l:List D}{r:D×List D}(h:Cb Y.env wF (GX Ad l.length [cg 4] r) (entry a l))(ha:a.length=3):Y.call 170 a l=some r:=
 Ag (Y:=Y) rfl Try.func170 (ha▸A49) j4 h
theorem MJ(n_:Int)(c0_:Int)(c1_:Int){r:Bool}(h:GI n_ c0_ c1_=some r):Y.call 170 [bk .i64 n_,D.cptr [bk .i64 c0_],D.cptr [bk .i64 c1_]] []=some (cd r,[]):=by
 refine A8i ?_ rfl;unfold wF;unfold GI at h;have c1:=Ga n_ c0_ c1_
 obtain rfl:=Option.some.inj h
 simp (maxDischargeDepth:=9) only [↓AQ,AR,Au,↓reduceIte,bo,bp,br,bt,bw,bx,bO,b0,b3,b4,b5,b6,b7,b8,b9,ca,cb,c1]<;>(repeat' apply A7)<;>first|rfl|exact⟨_,rfl⟩|exact⟨_,_,rfl⟩|simp [AV,AB]
def J4(list:AX)(low:Int)(high:Int):Option (Bool):= (BM list (fun a0=>GI a0 low high)).bind fun wG=> some (!wG)
def wH:SC:= .seq (.ops [oX 4 (.box 3 (tK 1)) 0,oX 5 (.box 3 (tK 2)) 0,oX 6 BU 4]) (.seq (.ops [oM 7 0 26,oX 8 (.makeFunc (Fn.func 170) #[] #[(tK 4),(tK 5)]) 87,oC 9 133 [(tK 7),(tK 8)] [26,87] 4,oX 10 (.unOp .not 4 (tK 9)) 4,oA 6 10 4]) .ret)
theorem j5:Try.f144.body.map (Bw lends)=some wH:=by kernel_rfl
theorem A4A:CV Try.f144 3=true:=by kernel_rfl
theorem A8j{a l:List D}{r:D×List D}(h:Cb Y.env wH (GX Ad l.length [cg 6] r) (entry a l))(ha:a.length=3):Y.call 144 a l=some r:=
 Ag (Y:=Y) rfl Try.func144 (ha▸A4A) j5 h
theorem Nt(list:AX)(low:Int)(high:Int){r:Bool}(h:J4 list low high=some r):Y.call 144 [bm 3 (AV (bk .i64) list),bk .i64 low,bk .i64 high] []=some (cd r,[]):=by
 refine A8j ?_ rfl;unfold wH;unfold J4 at h;obtain⟨wG,hl1,h⟩:=BS h;try dsimp only at h
 have c1:=Db list (fun a0=>GI a0 low high) 170 [D.cptr [bk .i64 low],D.cptr [bk .i64 high]] (fun a0 _ hh=>MJ a0 low high hh) eD hl1
 obtain rfl:=Option.some.inj h
 simp (maxDischargeDepth:=9) only [↓AQ,AR,Au,↓reduceIte,bo,bp,br,bt,bw,bx,bO,b0,b3,b4,b5,b6,b7,b8,b9,ca,cb,c1]<;>(repeat' apply A7)<;>first|rfl|exact⟨_,rfl⟩|exact⟨_,_,rfl⟩|simp [AV,AB]
theorem UD(l:AX)(f:Int→Option Bool)(p:Int→Bool)(h:l.length<1099511627776)(hf: ∀x∈l,f x=some (p x)):
  ∃r,Bq l f=some r∧(0≤r↔l.any p=true):=by
 unfold Bq CE;by_cases ha: ∀i,i<l.length→(!p (l.getD i bl))=true
 ·have key:=GN (fun v=>Ar l f v) (fun i=>(i:Int)) l.length (.inr ()) ?_ ?_
  ·simp only [Lc]at key;rw [key]
   refine⟨-1,rfl,by simp,fun hc=> ?_⟩
   obtain⟨x,hx,hpx⟩:=List.any_eq_true.1 hc;obtain⟨i,hi,rfl⟩:=Ul hx;have:=ha i hi
   rw [BL _ _ hi,hpx]at this;cases this
  ·intro i hi;simp only [Ar];have e:=ha i hi;rw [BL _ _ hi]at e;rw [if_pos (D8 hi),Ch (Gs hi),Gr _ _ hi,hf _ (KO hi),EM,if_neg (by cases hp:p l[i]<;>simp_all),Nr i (by omega)]
  ·simp only [Ar];rw [if_neg (BK _)]
 ·obtain⟨m,h1,h2,h3⟩:=MF (P:=fun i=> !p (l.getD i bl)) ha;have key:=GN (fun v=>Ar l f v) (fun i=>(i:Int)) m (.inl (m:Int)) ?_ ?_
  ·simp only [Lc]at key;rw [key]
   refine⟨(m:Int),rfl,fun _=> ?_,fun _=>by omega⟩
   have h2':p l[m]=true:=by rw [BL _ _ h1]at h2;simpa using h2
   exact List.any_eq_true.2 ⟨_,KO h1,h2'⟩
  ·intro i hi;simp only [Ar];have e:=h3 i hi;rw [BL _ _ (by omega)]at e
   rw [if_pos (D8 (by omega)),Ch (Gs (by omega)),Gr _ _ (by omega),hf _ (KO _),EM,if_neg (by cases hp:p l[i]<;>simp_all),Nr i (by omega)]
  ·simp only [Ar];have h2':p l[m]=true:=by rw [BL _ _ h1]at h2;simpa using h2
   rw [if_pos (D8 h1),Ch (Gs h1),Gr _ _ h1,hf _ (KO _),EM,if_pos h2']
theorem KD(l:AX)(f:Int→Option Bool)(p:Int→Bool)(h:l.length<1099511627776)(hf: ∀x∈l,f x=some (p x)):BM l f=some (l.any p):=by
 obtain⟨r,h1,h2⟩:=UD l f p h hf;unfold BM;rw [h1,EM]
 congr 1
 rw [cm];simpa using h2
theorem Qg(l:AX)(lo hi:Int)(h:l.length<1099511627776):J4 l lo hi=some (Gc l lo hi):=by
 unfold J4;rw [KD l (fun a0=>GI a0 lo hi) (fun x=> !Eo x lo hi) h (fun x _=>rfl),EM];unfold Gc;rw [List.all_eq_not_any_not]
theorem Qh(list:AX)(low:Int)(high:Int)(h0:list.length<1099511627776):Y.call 144 [bm 3 (AV (bk .i64) list),bk .i64 low,bk .i64 high] []=some (cd (Gc list low high),[]):=Nt list low high (Qg list low high h0)
theorem OW.getD{l:We}(h:OW l)(i:Nat):(l.getD i bl).length<1099511627776:=by
 rcases Nat.lt_or_ge i l.length with hi|hi
 ·rw [BL _ _ hi];exact h.at i hi
 ·rw [Je,List.getElem?_eq_none hi];decide
def UE(x:Int):AX→AX
 | []=>[x]
 |y::r=>if x<y then y::UE x r else x::y::r
def OX(l:AX):AX:=(l.foldl (fun r x=>UE x r) []).reverse
theorem TG(x:Int): ∀r,(UE x r).Perm (x::r):=by
 intro r
 induction r with
 |nil=>exact List.Perm.refl _
 |cons y r ih=>
  unfold UE;split
  ·exact((List.perm_cons y).2 ih).trans (List.Perm.swap x y r)
  ·exact List.Perm.refl _
theorem aA(x:Int): ∀r,r.Pairwise (fun a b=>b≤a)→(UE x r).Pairwise (fun a b=>b≤a):=by
 intro r
 induction r with
 |nil=>intro _;simp [UE]
 |cons y r ih=>
  intro h;obtain⟨h1,h2⟩:=cq.1 h;unfold UE;split
  ·rename_i hxy
   refine cq.2 ⟨fun z hz=> ?_,ih h2⟩;rcases M4.1 ((TG x r).mem_iff.1 hz)with rfl|hz
   ·omega
   ·exact h1 z hz
  ·rename_i hxy
   refine cq.2 ⟨fun z hz=> ?_,h⟩;rcases M4.1 hz with rfl|hz
   ·omega
   ·have:=h1 z hz;omega
theorem Xu: ∀(l r:AX),(l.foldl (fun r x=>UE x r) r).Perm (l++r):=by
 intro l
 induction l with
 |nil=>intro r;exact List.Perm.refl _
 |cons x l ih=>
  intro r;simp only [TN]
  exact(ih _).trans (((List.Perm.refl l).append (TG x r)).trans List.perm_middle)
theorem Xv: ∀(l r:AX),r.Pairwise (fun a b=>b≤a)→(l.foldl (fun r x=>UE x r) r).Pairwise (fun a b=>b≤a):=by
 intro l
 induction l with
 |nil=>intro r h;exact h
 |cons x l ih=>intro r h;exact ih _ (aA x r h)
theorem MK(l:AX):(OX l).Perm l:=by
 unfold OX;have:=Xu l []
 rw [List.append_nil]at this
 exact(List.reverse_perm _).trans this
theorem Qi(l:AX):(OX l).Pairwise (fun a b=>a≤b):=by
 unfold OX;exact List.pairwise_reverse.2 (Xv l [] List.Pairwise.nil)
theorem eX(l:AX):GZ l=OX l:=by
 refine List.Perm.eq_of_pairwise (le:=fun a b:Int=>a≤b) (fun a b _ _ h1 h2=>Int.le_antisymm h1 h2) ?_ (Qi l) ((List.mergeSort_perm _ _).trans (MK l).symm);have:=List.pairwise_mergeSort (le:=fun x y:Int=>decide (x≤y)) (fun a b c h1 h2=>by simp only [decide_eq_true_eq]at*;omega) (fun a b=>by simp only [M3,decide_eq_true_eq];omega) l
 unfold GZ;exact this.imp (fun h=>by simpa using h)
theorem aB(l:AX):(OX l).length=l.length:=(MK l).length_eq
def G7(l:AX)(n_:Int)(LW:Int):Option ((Int)⊕(Unit⊕Unit)):= if LW<(l.length:Int)then ck (0≤LW∧LW.toNat<l.length)<| if(l.getD LW.toNat bl)=n_ then some (cc (cf ())) else some (cf (ce.wrap (LW+1))) else some (cc (cc ()))
def Jw(l:AX)(n_:Int)(v:Int):Option (Unit⊕Unit):=Jf (fun v=>G7 l n_ v) v
def PK(l:AX)(n_:Int):Option (Bool):=
 (Jw l n_ 0).bind fun Ap=>
 match Ap with
 | .inl q1000_=>
  some true
 | .inr q1000_=>
  some false
def UF:SC:= .seq (.ops [oB 10 .lss 3 (tK 9) (tK 8) 3 0]) (.seq (.cond (tK 10) .skip (.exit 0)) (.seq (.block 1 (.seq (.ops [oI 11 26 7 9,oL 12 3 11 3,oA 6 12 3]) (.seq (.ops [oM 13 6 3,oM 14 1 3,oB 15 .eql 3 (tK 13) (tK 14) 3 4]) (.cond (tK 15) (.seq (.ops [oX 4 (.assign Dz) 4]) .ret) .skip)))) (.ops [oB 16 .add 3 (tK 9) (iK 1) 3 3,oM 9 16 3])))
def eY:SC:= .loop UF
def k89:SC:= .seq (.ops [oX 4 BU 4]) (.seq (.seq (.ops [oM 7 0 26,oN 8 7 26,oX 9 (.move (iK 0)) 3]) (.block 0 eY)) (.seq (.ops [oX 4 BU 4]) .ret))
theorem wI:Try.f89.body.map (Bw lends)=some k89:=by kernel_rfl
theorem A8l:CV Try.f89 2=true:=by kernel_rfl
theorem c89{a l:List D}{r:D×List D}(h:Cb Y.env k89 (GX Ad l.length [cg 4] r) (entry a l))(ha:a.length=2):Y.call 89 a l=some r:=
 Ag (Y:=Y) rfl Try.func89 (ha▸A8l) wI h
def Ei(l:AX)(n_:Int)(LW:Int)(s:St):Prop:=s.v 1=bk .i64 n_∧s.v 7=bm 3 (AV (bk .i64) l)∧s.v 8=bk .i64 (l.length:Int)∧s.v 9=bk .i64 LW
def Ej(l:AX)(n_:Int)(r:Unit⊕Unit)(ex:Ex)(s:St):Prop:=match r with
 | .inl q=>ex= .ret∧s.v 4=cd true
 | .inr q=>ex= .exit 0
theorem S9(l:AX)(n_:Int){v:Int}{s:St}{r:Unit⊕Unit}(h:Jw l n_ v=some r)(hM:Ei l n_ v s):Cb Y.env eY (Ej l n_ r) s:=by
 unfold Jw at h;refine DK (c:=UF) (fun v=>G7 l n_ v) (fun v s=>Ei l n_ v s) (Ej l n_) ?_ h hM;clear h hM s v r;intro LW s o hM h;unfold G7 at h;unfold Ei at hM;obtain⟨m0,m1,m2,m3⟩:=hM;unfold UF;by_cases e1:LW<(l.length:Int)
 ·rw [if_pos e1]at h;obtain⟨e2,h⟩:=Cq h;by_cases e3:(l.getD LW.toNat bl)=n_
  ·rw [if_pos e3]at h
   obtain rfl:=Option.some.inj h
   simp (maxDischargeDepth:=9) only [↓AQ,AR,Au,↓reduceIte,bo,bp,br,bt,bw,bx,bO,b0,b3,b4,b5,b6,b7,b8,b9,ca,cb,m0,m1,m2,m3,e1,e2.1,e2.2,decide_eq_true e3,Ei,Ej,EA,EB,EC]<;>(repeat' apply A7)<;>first|rfl|exact⟨_,rfl⟩|exact⟨_,_,rfl⟩|simp [AV,AB]
  ·rw [if_neg e3]at h
   obtain rfl:=Option.some.inj h
   simp (maxDischargeDepth:=9) only [↓AQ,AR,Au,↓reduceIte,bo,bp,br,bt,bw,bx,bO,b0,b3,b4,b5,b6,b7,b8,b9,ca,cb,m0,m1,m2,m3,e1,e2.1,e2.2,e3,Ei,Ej,EA,EB,EC]<;>(repeat' apply A7)<;>first|rfl|exact⟨_,rfl⟩|exact⟨_,_,rfl⟩|simp [AV,AB]
 ·rw [if_neg e1]at h
  obtain rfl:=Option.some.inj h
  simp (maxDischargeDepth:=9) only [↓AQ,AR,Au,↓reduceIte,bo,bp,br,bt,bw,bx,bO,b0,b3,b4,b5,b6,b7,b8,b9,ca,cb,m0,m1,m2,m3,e1,Ei,Ej,EA,EB,EC]<;>(repeat' apply A7)<;>first|rfl|exact⟨_,rfl⟩|exact⟨_,_,rfl⟩|simp [AV,AB]
theorem UG(l:AX)(n_:Int){r:Bool}(h:PK l n_=some r):Y.call 89 [bm 3 (AV (bk .i64) l),bk .i64 n_] []=some (cd r,[]):=by
 refine c89 ?_ rfl;unfold k89;unfold PK at h;obtain⟨Ap,hl2,h⟩:=BS h;try dsimp only at h
 simp (maxDischargeDepth:=9) only [↓AQ,AR,Au,↓reduceIte,bo,bp,br,bt,bw,bx,bO,b0,b3,b4,b5,b6,b7,b8,b9,ca,cb];refine CQ (S9 l n_ hl2 ?_) ?_
 ·simp (maxDischargeDepth:=9) only [↓AQ,AR,Au,↓reduceIte,bo,bp,br,bt,bw,bx,bO,b0,b3,b4,b5,b6,b7,b8,b9,ca,cb,Ei]<;>(repeat' apply A7)<;>first|rfl|exact⟨_,rfl⟩|exact⟨_,_,rfl⟩|simp [AV,AB]
 ·intro ex2 s2 hX2;rcases Ap with q1000_|q1000_
  ·unfold Ej at hX2;dsimp only at hX2 h;obtain⟨rfl,n2_0⟩:=hX2
   obtain rfl:=Option.some.inj h
   simp (maxDischargeDepth:=9) only [↓AQ,AR,Au,↓reduceIte,bo,bp,br,bt,bw,bx,bO,b0,b3,b4,b5,b6,b7,b8,b9,ca,cb,n2_0]<;>(repeat' apply A7)<;>first|rfl|exact⟨_,rfl⟩|exact⟨_,_,rfl⟩|simp [AV,AB]
  ·unfold Ej at hX2;dsimp only at hX2 h
   obtain rfl:=hX2
   obtain rfl:=Option.some.inj h
   simp (maxDischargeDepth:=9) only [↓AQ,AR,Au,↓reduceIte,bo,bp,br,bt,bw,bx,bO,b0,b3,b4,b5,b6,b7,b8,b9,ca,cb]<;>(repeat' apply A7)<;>first|rfl|exact⟨_,rfl⟩|exact⟨_,_,rfl⟩|simp [AV,AB]
theorem Xw(l:AX)(n:Int)(h:l.length<1099511627776):PK l n=some (l.contains n):=by
 unfold PK Jw;have key:=EO (fun v=>G7 l n v) (fun i=>(i:Int)) l.length (fun i=> !decide (l.getD i bl=n)) (.inl ()) (.inr ()) ?_ ?_
 ·simp only [Lc]at key;rw [key,Vy (fun x=> !decide (x=n))]
  have e:l.all (fun x=> !decide (x=n))= !l.contains n:=by
   rw [List.all_eq_not_any_not,List.contains_eq_any_beq]
   congr 2
   funext x
   rw [Bool.not_not,cm,decide_eq_true_eq,beq_iff_eq];exact eq_comm
  rw [e]
  cases l.contains n<;>rfl
 ·intro i hi;simp only [G7];rw [if_pos (D8 hi),Ch (Gs hi),Fj,Nr i (by omega)]
  by_cases hq:l.getD i bl=n
  ·rw [if_pos hq,decide_eq_true hq];rfl
  ·rw [if_neg hq,decide_eq_false hq];rfl
 ·simp only [G7];rw [if_neg (BK _)]
theorem Jy(l:AX)(n_:Int)(h0:l.length<1099511627776):Y.call 89 [bm 3 (AV (bk .i64) l),bk .i64 n_] []=some (cd (l.contains n_),[]):=UG l n_ (Xw l n_ h0)
def Cg(l:BN):Prop:=l.length<1099511627776∧ ∀x∈l,x.length<549755813888
instance (l:BN):Decidable (Cg l):=by unfold Cg;infer_instance
theorem Cg.at{l:BN}(h:Cg l)(i:Nat)(hi:i<l.length):l[i].length<549755813888:=h.2 _ (KO hi)
theorem Cg.getD{l:BN}(h:Cg l)(i:Nat):(l.getD i bl).length<549755813888:=by
 by_cases hi:i<l.length
 ·rw [BL _ _ hi];exact h.at i hi
 ·rw [Je,List.getElem?_eq_none (by omega)];decide
theorem A4B{a:Cz}{i:Nat}(h:i<a.length):(BJ a i,Bo a i)=a[i]:=by
 unfold BJ Bo;rw [BL _ _ h]
def PL(a_Node:Int)(a_Port:Int):Option (Int×Int):= some (a_Node,a_Port)
def wJ:SC:= .seq (.ops [oX 1 (.box 159 (tK 0)) 0,oX 2 (.alloc 125) 0]) (.seq (.ops [oX 3 (.alloc 125) 0]) (.seq (.ops [oF 4 159 1 0,oL 5 3 4 3,oF 6 125 3 0,oS 3 6 5]) (.seq (.ops [oF 7 159 1 1,oL 8 3 7 3,oF 9 125 3 1,oS 3 9 8]) (.seq (.ops [oL 10 125 3 125,oS 125 2 10]) .ret))))
theorem j6:Try.f151.body.map (Bw lends)=some wJ:=by kernel_rfl
theorem A4C:CV Try.f151 1=true:=by kernel_rfl
theorem A8m{a l:List D}{r:D×List D}(h:Cb Y.env wJ (GX Ad l.length [ResultVar.cell 2 125] r) (entry a l))(ha:a.length=1):Y.call 151 a l=some r:=
 Ag (Y:=Y) rfl Try.func151 (ha▸A4C) j6 h
theorem UH(a_Node:Int)(a_Port:Int){r:Int×Int}(h:PL a_Node a_Port=some r):Y.call 151 [cj [bk .i64 a_Node,bk .i64 a_Port]] []=some (cj [bk .i64 r.1,bk .i64 r.2],[]):=by
 refine A8m ?_ rfl;unfold wJ;unfold PL at h
 obtain rfl:=Option.some.inj h
 simp (maxDischargeDepth:=9) only [↓AQ,AR,Au,↓reduceIte,bo,bp,br,bt,bw,bx,bO,b0,b3,b4,b5,b6,b7,b8,b9,ca,cb]<;>(repeat' apply A7)<;>first|rfl|exact⟨_,rfl⟩|exact⟨_,_,rfl⟩|simp [AV,AB]
def F6(a:Cz)(out:Cz)(i:Int):Option ((Cz×Int)⊕(Cz)):= if i<(a.length:Int)then ck (0≤i∧i.toNat<a.length)<| (PL (BJ a i.toNat) (Bo a i.toNat)).bind fun wK=> ck (0≤i∧i.toNat<out.length)<| some (cf ((out.set i.toNat (wK.1,wK.2)),ce.wrap (i+1))) else some (cc out)
def J5(a:Cz)(v:Cz×Int):Option (Cz):=Jf (fun v=>F6 a v.1 v.2) v
def NE(a:Cz):Option (Cz):= ck (0≤(a.length:Int)∧(a.length:Int)<1099511627776)<| (J5 a ((ao a.length (0,0)),0)).bind fun Ap=> some Ap
def Qj:SC:= .seq (.seq (.ops [oM 8 4 3,oM 9 0 121,oN 10 9 121,oB 11 .lss 3 (tK 8) (tK 10) 3 4]) (.cond (tK 11) .skip (.exit 0))) (.seq (.block 1 (.ops [oM 14 3 123,oM 15 4 3,oM 16 0 121,oM 17 4 3,oI 18 121 16 17,oL 19 159 18 159,oC 20 151 [(tK 19)] [159] 125,oI 21 123 14 15,oS 125 21 20])) (.ops [oM 12 4 3,oB 13 .add 3 (tK 12) (iK 1) 3 3,oA 4 13 3]))
def Yc:SC:= .loop Qj
def wL:SC:= .seq (.ops [oX 2 eQ 123]) (.seq (.ops [oM 5 0 121,oN 6 5 121,oX 7 (.makeSlice 123 (tK 6) (tK 6)) 123,oA 3 7 123]) (.seq (.seq (.ops [oX 4 (.assign (iK 0)) 3]) (.block 0 Yc)) (.seq (.ops [oM 22 3 123,oA 2 22 123]) .ret)))
theorem jA:Try.f111.body.map (Bw lends)=some wL:=by kernel_rfl
theorem A4D:CV Try.f111 1=true:=by kernel_rfl
theorem A8n{a l:List D}{r:D×List D}(h:Cb Y.env wL (GX Ad l.length [cg 2] r) (entry a l))(ha:a.length=1):Y.call 111 a l=some r:=
 Ag (Y:=Y) rfl Try.func111 (ha▸A4D) jA h
def F7(a:Cz)(out:Cz)(i:Int)(s:St):Prop:=s.v 0=bm 159 (BG .i64 .i64 a)∧s.v 3=ci 125 (BG .i64 .i64 out)∧s.v 4=bk .i64 i
def GJ(a:Cz)(r:Cz)(ex:Ex)(s:St):Prop:=ex= .exit 0∧s.v 3=ci 125 (BG .i64 .i64 r)
theorem Qk(a:Cz){v:Cz×Int}{s:St}{r:Cz}(h:J5 a v=some r)(hM:F7 a v.1 v.2 s):Cb Y.env Yc (GJ a r) s:=by
 unfold J5 at h;refine DK (c:=Qj) (fun v=>F6 a v.1 v.2) (fun v s=>F7 a v.1 v.2 s) (GJ a) ?_ h hM;clear h hM s v r;intro v s o hM h;obtain⟨out,i⟩:=v;dsimp only at h hM;unfold F6 at h;unfold F7 at hM;obtain⟨m0,m1,m2⟩:=hM;unfold Qj;by_cases e2:i<(a.length:Int)
 ·rw [if_pos e2]at h;obtain⟨e3,h⟩:=Cq h;obtain⟨wK,hl4,h⟩:=BS h;try dsimp only at h
  have c4:=UH (BJ a i.toNat) (Bo a i.toNat) hl4;obtain⟨e5,h⟩:=Cq h
  obtain rfl:=Option.some.inj h
  simp (maxDischargeDepth:=9) only [↓AQ,AR,Au,↓reduceIte,bo,bp,br,bt,bw,bx,bO,b0,b3,b4,b5,b6,b7,b8,b9,ca,cb,m0,m1,m2,e2,e3.1,e3.2,c4,e5.1,e5.2,F7,GJ,EA,EB,EC]<;>(repeat' apply A7)<;>first|rfl|exact⟨_,rfl⟩|exact⟨_,_,rfl⟩|simp [AV,AB]
 ·rw [if_neg e2]at h
  obtain rfl:=Option.some.inj h
  simp (maxDischargeDepth:=9) only [↓AQ,AR,Au,↓reduceIte,bo,bp,br,bt,bw,bx,bO,b0,b3,b4,b5,b6,b7,b8,b9,ca,cb,m0,m1,m2,e2,F7,GJ,EA,EB,EC]<;>(repeat' apply A7)<;>first|rfl|exact⟨_,rfl⟩|exact⟨_,_,rfl⟩|simp [AV,AB]
theorem SA(a:Cz){r:Cz}(h:NE a=some r):Y.call 111 [bm 159 (BG .i64 .i64 a)] []=some (ci 125 (BG .i64 .i64 r),[]):=by
 refine A8n ?_ rfl;unfold wL;unfold NE at h;obtain⟨e1,h⟩:=Cq h;obtain⟨Ap,hl3,h⟩:=BS h;try dsimp only at h
 simp (maxDischargeDepth:=9) only [↓AQ,AR,Au,↓reduceIte,bo,bp,br,bt,bw,bx,bO,b0,b3,b4,b5,b6,b7,b8,b9,ca,cb,e1.1,e1.2];refine CQ (Qk a hl3 ?_) ?_
 ·simp (maxDischargeDepth:=9) only [↓AQ,AR,Au,↓reduceIte,bo,bp,br,bt,bw,bx,bO,b0,b3,b4,b5,b6,b7,b8,b9,ca,cb,e1.1,e1.2,F7]<;>(repeat' apply A7)<;>first|rfl|exact⟨_,rfl⟩|exact⟨_,_,rfl⟩|simp [AV,AB]
 ·intro ex3 s3 hX3;unfold GJ at hX3;obtain⟨rfl,n3_0⟩:=hX3
  obtain rfl:=Option.some.inj h
  simp (maxDischargeDepth:=9) only [↓AQ,AR,Au,↓reduceIte,bo,bp,br,bt,bw,bx,bO,b0,b3,b4,b5,b6,b7,b8,b9,ca,cb,e1.1,e1.2,n3_0]<;>(repeat' apply A7)<;>first|rfl|exact⟨_,rfl⟩|exact⟨_,_,rfl⟩|simp [AV,AB]
theorem WJ(a:Cz)(h:a.length<549755813888):NE a=some a:=by
 have key:=GN (fun v=>F6 a v.1 v.2) (fun i=>(a.take i++ao (a.length-i) (0,0),(i:Int))) a.length a ?_ ?_
 ·unfold NE J5;rw [Ch (by omega)]
  simp only [List.take_zero,TM,Nat.sub_zero,Lc]at key;rw [key];rfl
 ·intro i hi;simp only [F6,PL,Fj];rw [if_pos (D8 hi),Ch (by omega),EM,Ch (by simp;omega),A4B hi,U7 a i hi (0,0),Nr i (by omega)]
 ·simp only [F6];rw [if_neg (BK _)];simp
theorem WK(a:Cz)(h0:a.length<549755813888):Y.call 111 [bm 159 (BG .i64 .i64 a)] []=some (ci 125 (BG .i64 .i64 a),[]):=SA a (WJ a h0)
def ER(a:BN)(out:BN)(i:Int):Option ((BN×Int)⊕(BN)):= if i<(a.length:Int)then ck (0≤i∧i.toNat<a.length)<| ck ((a.getD i.toNat bl).length<549755813888)<| ck (0≤i∧i.toNat<out.length)<| some (cf ((out.set i.toNat (a.getD i.toNat bl)),ce.wrap (i+1))) else some (cc out)
def I9(a:BN)(v:BN×Int):Option (BN):=Jf (fun v=>ER a v.1 v.2) v
def LX(a:BN):Option (BN):= ck (0≤(a.length:Int)∧(a.length:Int)<1099511627776)<| (I9 a ((ao a.length ([]:Cz)),0)).bind fun Ap=> some Ap
def UI:SC:= .seq (.seq (.ops [oM 8 4 3,oM 9 0 39,oN 10 9 39,oB 11 .lss 3 (tK 8) (tK 10) 3 4]) (.cond (tK 11) .skip (.exit 0))) (.seq (.block 1 (.ops [oM 14 3 45,oM 15 4 3,oM 16 0 39,oM 17 4 3,oI 18 39 16 17,oL 19 121 18 121,oC 20 111 [(tK 19)] [121] 123,oI 21 45 14 15,oS 123 21 20])) (.ops [oM 12 4 3,oB 13 .add 3 (tK 12) (iK 1) 3 3,oA 4 13 3]))
def eZ:SC:= .loop UI
def k65:SC:= .seq (.ops [oX 2 eQ 45]) (.seq (.ops [oM 5 0 39,oN 6 5 39,oX 7 (.makeSlice 45 (tK 6) (tK 6)) 45,oA 3 7 45]) (.seq (.seq (.ops [oX 4 (.assign (iK 0)) 3]) (.block 0 eZ)) (.seq (.ops [oM 22 3 45,oA 2 22 45]) .ret)))
theorem wM:Try.f65.body.map (Bw lends)=some k65:=by kernel_rfl
theorem A8p:CV Try.f65 1=true:=by kernel_rfl
theorem c65{a l:List D}{r:D×List D}(h:Cb Y.env k65 (GX Ad l.length [cg 2] r) (entry a l))(ha:a.length=1):Y.call 65 a l=some r:=
 Ag (Y:=Y) rfl Try.func65 (ha▸A8p) wM h
def ES(a:BN)(out:BN)(i:Int)(s:St):Prop:=s.v 0=bm 121 (AV (fun x=>bm 159 (BG .i64 .i64 x)) a)∧s.v 3=ci 123 (AV (fun x=>ci 125 (BG .i64 .i64 x)) out)∧s.v 4=bk .i64 i
def FV(a:BN)(r:BN)(ex:Ex)(s:St):Prop:=ex= .exit 0∧s.v 3=ci 123 (AV (fun x=>ci 125 (BG .i64 .i64 x)) r)
theorem Oo(a:BN){v:BN×Int}{s:St}{r:BN}(h:I9 a v=some r)(hM:ES a v.1 v.2 s):Cb Y.env eZ (FV a r) s:=by
 unfold I9 at h;refine DK (c:=UI) (fun v=>ER a v.1 v.2) (fun v s=>ES a v.1 v.2 s) (FV a) ?_ h hM;clear h hM s v r;intro v s o hM h;obtain⟨out,i⟩:=v;dsimp only at h hM;unfold ER at h;unfold ES at hM;obtain⟨m0,m1,m2⟩:=hM;unfold UI;by_cases e2:i<(a.length:Int)
 ·rw [if_pos e2]at h;obtain⟨e3,h⟩:=Cq h;obtain⟨e4,h⟩:=Cq h;have c5:=WK (a.getD i.toNat bl) e4;obtain⟨e6,h⟩:=Cq h
  obtain rfl:=Option.some.inj h
  simp (maxDischargeDepth:=9) only [↓AQ,AR,Au,↓reduceIte,bo,bp,br,bt,bw,bx,bO,b0,b3,b4,b5,b6,b7,b8,b9,ca,cb,m0,m1,m2,e2,e3.1,e3.2,e4,c5,e6.1,e6.2,ES,FV,EA,EB,EC]<;>(repeat' apply A7)<;>first|rfl|exact⟨_,rfl⟩|exact⟨_,_,rfl⟩|simp [AV,AB]
 ·rw [if_neg e2]at h
  obtain rfl:=Option.some.inj h
  simp (maxDischargeDepth:=9) only [↓AQ,AR,Au,↓reduceIte,bo,bp,br,bt,bw,bx,bO,b0,b3,b4,b5,b6,b7,b8,b9,ca,cb,m0,m1,m2,e2,ES,FV,EA,EB,EC]<;>(repeat' apply A7)<;>first|rfl|exact⟨_,rfl⟩|exact⟨_,_,rfl⟩|simp [AV,AB]
theorem Ql(a:BN){r:BN}(h:LX a=some r):Y.call 65 [bm 121 (AV (fun x=>bm 159 (BG .i64 .i64 x)) a)] []=some (ci 123 (AV (fun x=>ci 125 (BG .i64 .i64 x)) r),[]):=by
 refine c65 ?_ rfl;unfold k65;unfold LX at h;obtain⟨e1,h⟩:=Cq h;obtain⟨Ap,hl3,h⟩:=BS h;try dsimp only at h
 simp (maxDischargeDepth:=9) only [↓AQ,AR,Au,↓reduceIte,bo,bp,br,bt,bw,bx,bO,b0,b3,b4,b5,b6,b7,b8,b9,ca,cb,e1.1,e1.2];refine CQ (Oo a hl3 ?_) ?_
 ·simp (maxDischargeDepth:=9) only [↓AQ,AR,Au,↓reduceIte,bo,bp,br,bt,bw,bx,bO,b0,b3,b4,b5,b6,b7,b8,b9,ca,cb,e1.1,e1.2,ES]<;>(repeat' apply A7)<;>first|rfl|exact⟨_,rfl⟩|exact⟨_,_,rfl⟩|simp [AV,AB]
 ·intro ex3 s3 hX3;unfold FV at hX3;obtain⟨rfl,n3_0⟩:=hX3
  obtain rfl:=Option.some.inj h
  simp (maxDischargeDepth:=9) only [↓AQ,AR,Au,↓reduceIte,bo,bp,br,bt,bw,bx,bO,b0,b3,b4,b5,b6,b7,b8,b9,ca,cb,e1.1,e1.2,n3_0]<;>(repeat' apply A7)<;>first|rfl|exact⟨_,rfl⟩|exact⟨_,_,rfl⟩|simp [AV,AB]
theorem UJ(a:BN)(h:Cg a):LX a=some a:=by
 have h1:=h.1;have key:=GN (fun v=>ER a v.1 v.2) (fun i=>(a.take i++ao (a.length-i) [],(i:Int))) a.length a ?_ ?_
 ·unfold LX I9;rw [Ch (by omega)]
  simp only [List.take_zero,TM,Nat.sub_zero,Lc]at key;rw [key];rfl
 ·intro i hi;simp only [ER];rw [if_pos (D8 hi),Ch (Gs hi),Ch (by rw [Gr _ _ hi];exact h.at i hi),Ch (Gs (by simp;omega)),Gr _ _ hi,Fj,U7 a i hi [],Nr i (by omega)]
 ·simp only [ER];rw [if_neg (BK _)];simp
theorem UK(a:BN)(h0:Cg a):Y.call 65 [bm 121 (AV (fun x=>bm 159 (BG .i64 .i64 x)) a)] []=some (ci 123 (AV (fun x=>ci 125 (BG .i64 .i64 x)) a),[]):=Ql a (UJ a h0)
def J6(Ay:BN)(Bz:AX)(Az:AX):Option (BN×AX×AX):= ck (Cg Ay)<| ck (Bz.length<1099511627776)<| ck (Az.length<1099511627776)<| some (Ay,Bz,Az)
def k23:SC:= .seq (.ops [oX 1 (.box 41 (tK 0)) 0,oX 2 (.alloc 47) 0]) (.seq (.ops [oX 3 (.alloc 47) 0]) (.seq (.ops [oF 4 41 1 0,oL 5 39 4 39,oC 6 65 [(tK 5)] [39] 45,oF 7 47 3 0,oS 45 7 6]) (.seq (.ops [oF 8 41 1 1,oL 9 26 8 26,oC 10 66 [(tK 9)] [26] 26,oF 11 47 3 1,oS 26 11 10]) (.seq (.ops [oF 12 41 1 2,oL 13 26 12 26,oC 14 66 [(tK 13)] [26] 26,oF 15 47 3 2,oS 26 15 14]) (.seq (.ops [oL 16 47 3 47,oS 47 2 16]) .ret)))))
theorem wN:Try.f23.body.map (Bw lends)=some k23:=by kernel_rfl
theorem A8r:CV Try.f23 1=true:=by kernel_rfl
theorem c23{a l:List D}{r:D×List D}(h:Cb Y.env k23 (GX Ad l.length [ResultVar.cell 2 47] r) (entry a l))(ha:a.length=1):Y.call 23 a l=some r:=
 Ag (Y:=Y) rfl Try.func23 (ha▸A8r) wN h
theorem Nu(Ay:BN)(Bz:AX)(Az:AX){r:BN×AX×AX}(h:J6 Ay Bz Az=some r):Y.call 23 [cj [bm 121 (AV (fun x=>bm 159 (BG .i64 .i64 x)) Ay),bm 3 (AV (bk .i64) Bz),bm 3 (AV (bk .i64) Az)]] []=some (cj [ci 123 (AV (fun x=>ci 125 (BG .i64 .i64 x)) r.1),ci 3 (AV (bk .i64) r.2.1),ci 3 (AV (bk .i64) r.2.2)],[]):=by
 refine c23 ?_ rfl;unfold k23;unfold J6 at h;obtain⟨e1,h⟩:=Cq h;have c2:=UK Ay e1;obtain⟨e3,h⟩:=Cq h;have c4:=Kw Bz e3;obtain⟨e5,h⟩:=Cq h;have c6:=Kw Az e5
 obtain rfl:=Option.some.inj h
 simp (maxDischargeDepth:=9) only [↓AQ,AR,Au,↓reduceIte,bo,bp,br,bt,bw,bx,bO,b0,b3,b4,b5,b6,b7,b8,b9,ca,cb,e1,c2,e3,c4,e5,c6]<;>(repeat' apply A7)<;>first|rfl|exact⟨_,rfl⟩|exact⟨_,_,rfl⟩|simp [AV,AB]
theorem Qm(a:BN)(b c:AX)(h:Cg a)(hb:b.length<1099511627776)(hc:c.length<1099511627776):J6 a b c=some (a,b,c):=by
 unfold J6;rw [Ch h,Ch hb,Ch hc]
theorem ET(Ay:BN)(Bz:AX)(Az:AX)(h0:Cg Ay)(h1:Bz.length<1099511627776)(h2:Az.length<1099511627776):Y.call 23 [cj [bm 121 (AV (fun x=>bm 159 (BG .i64 .i64 x)) Ay),bm 3 (AV (bk .i64) Bz),bm 3 (AV (bk .i64) Az)]] []=some (cj [ci 123 (AV (fun x=>ci 125 (BG .i64 .i64 x)) Ay),ci 3 (AV (bk .i64) Bz),ci 3 (AV (bk .i64) Az)],[]):=Nu Ay Bz Az (Qm Ay Bz Az h0 h1 h2)
def NF(a_Node:Int)(a_Port:Int)(b_Node:Int)(b_Port:Int):Option (Bool):= if a_Node=b_Node then if a_Port=b_Port then some true else some false else some false
def wO:SC:= .seq (.ops [oX 2 (.box 125 (tK 0)) 0,oX 3 (.box 125 (tK 1)) 0,oX 4 BU 4]) (.seq (.seq (.ops [oF 5 125 2 0,oL 6 3 5 3,oF 7 125 3 0,oL 8 3 7 3,oB 9 .neq 3 (tK 6) (tK 8) 3 4]) (.cond (tK 9) (.seq (.ops [oX 4 BU 4]) .ret) .skip)) (.seq (.seq (.ops [oF 10 125 2 1,oL 11 3 10 3,oF 12 125 3 1,oL 13 3 12 3,oB 14 .neq 3 (tK 11) (tK 13) 3 4]) (.cond (tK 14) (.seq (.ops [oX 4 BU 4]) .ret) .skip)) (.seq (.ops [oX 4 (.assign Dz) 4]) .ret)))
theorem jB:Try.f158.body.map (Bw lends)=some wO:=by kernel_rfl
theorem A4E:CV Try.f158 2=true:=by kernel_rfl
theorem A8s{a l:List D}{r:D×List D}(h:Cb Y.env wO (GX Ad l.length [cg 4] r) (entry a l))(ha:a.length=2):Y.call 158 a l=some r:=
 Ag (Y:=Y) rfl Try.func158 (ha▸A4E) jB h
theorem UL(a_Node:Int)(a_Port:Int)(b_Node:Int)(b_Port:Int){r:Bool}(h:NF a_Node a_Port b_Node b_Port=some r):Y.call 158 [cj [bk .i64 a_Node,bk .i64 a_Port],cj [bk .i64 b_Node,bk .i64 b_Port]] []=some (cd r,[]):=by
 refine A8s ?_ rfl;unfold wO;unfold NF at h;by_cases e1:a_Node=b_Node
 ·rw [if_pos e1]at h;by_cases e2:a_Port=b_Port
  ·rw [if_pos e2]at h
   obtain rfl:=Option.some.inj h
   simp (maxDischargeDepth:=9) only [↓AQ,AR,Au,↓reduceIte,bo,bp,br,bt,bw,bx,bO,b0,b3,b4,b5,b6,b7,b8,b9,ca,cb,decide_eq_true e1,decide_eq_true e2]<;>(repeat' apply A7)<;>first|rfl|exact⟨_,rfl⟩|exact⟨_,_,rfl⟩|simp [AV,AB]
  ·rw [if_neg e2]at h
   obtain rfl:=Option.some.inj h
   simp (maxDischargeDepth:=9) only [↓AQ,AR,Au,↓reduceIte,bo,bp,br,bt,bw,bx,bO,b0,b3,b4,b5,b6,b7,b8,b9,ca,cb,decide_eq_true e1,e2]<;>(repeat' apply A7)<;>first|rfl|exact⟨_,rfl⟩|exact⟨_,_,rfl⟩|simp [AV,AB]
 ·rw [if_neg e1]at h
  obtain rfl:=Option.some.inj h
  simp (maxDischargeDepth:=9) only [↓AQ,AR,Au,↓reduceIte,bo,bp,br,bt,bw,bx,bO,b0,b3,b4,b5,b6,b7,b8,b9,ca,cb,e1]<;>(repeat' apply A7)<;>first|rfl|exact⟨_,rfl⟩|exact⟨_,_,rfl⟩|simp [AV,AB]
def F8(a:Cz)(b:Cz)(i:Int):Option ((Int)⊕(Unit⊕Unit)):= if i<(a.length:Int)then ck (0≤i∧i.toNat<a.length)<| ck (0≤i∧i.toNat<b.length)<| (NF (BJ a i.toNat) (Bo a i.toNat) (BJ b i.toNat) (Bo b i.toNat)).bind fun jC=> if jC=true then some (cf (ce.wrap (i+1))) else some (cc (cf ())) else some (cc (cc ()))
def J7(a:Cz)(b:Cz)(v:Int):Option (Unit⊕Unit):=Jf (fun v=>F8 a b v) v
def NG(a:Cz)(b:Cz):Option (Bool):=
 if(a.length:Int)=(b.length:Int)then
  (J7 a b 0).bind fun Ap=>
  match Ap with
  | .inl q1000_=>
   some false
  | .inr q1000_=>
   some true
 else
  some false
abbrev TH:List Nat:=[17,18,19,20,21,22,23,24,25,26]
def Qn:SC:= .seq (.seq (.ops [oM 11 5 3,oM 12 0 123,oN 13 12 123,oB 14 .lss 3 (tK 11) (tK 13) 3 4]) (.cond (tK 14) .skip (.exit 0))) (.seq (.block 1 (.seq (.draws [(⟨[17,0,0],TH,[17]⟩,oM 17 0 123),(⟨[18,5,5],TH,[18]⟩,oM 18 5 3),(⟨[19,17,18,0,5],TH,[19]⟩,oI 19 123 17 18),(⟨[20,19,0],TH,[20]⟩,oL 20 125 19 125),(⟨[21,1,1],TH,[21]⟩,oM 21 1 123),(⟨[22,5,5],TH,[22]⟩,oM 22 5 3),(⟨[23,21,22,1,5],TH,[23]⟩,oI 23 123 21 22),(⟨[24,23,1],TH,[24]⟩,oL 24 125 23 125),(⟨[25,20,24,0,1],TH,[25]⟩,oC 25 158 [(tK 20),(tK 24)] [125,125] 4),(⟨[26,25,25],TH,[26]⟩,oX 26 (.unOp .not 4 (tK 25)) 4)]) (.cond (tK 26) (.seq (.ops [oX 4 BU 4]) .ret) .skip))) (.ops [oM 15 5 3,oB 16 .add 3 (tK 15) (iK 1) 3 3,oA 5 16 3]))
def Yd:SC:= .loop Qn
def wP:SC:= .seq (.ops [oX 4 BU 4]) (.seq (.seq (.ops [oM 6 0 123,oN 7 6 123,oM 8 1 123,oN 9 8 123,oB 10 .neq 3 (tK 7) (tK 9) 3 4]) (.cond (tK 10) (.seq (.ops [oX 4 BU 4]) .ret) .skip)) (.seq (.seq (.ops [oX 5 (.assign (iK 0)) 3]) (.block 0 Yd)) (.seq (.ops [oX 4 (.assign Dz) 4]) .ret)))
theorem jD:Try.f126.body.map (Bw lends)=some wP:=by kernel_rfl
theorem A4F:CV Try.f126 2=true:=by kernel_rfl
theorem A8t{a l:List D}{r:D×List D}(h:Cb Y.env wP (GX Ad l.length [cg 4] r) (entry a l))(ha:a.length=2):Y.call 126 a l=some r:=
 Ag (Y:=Y) rfl Try.func126 (ha▸A4F) jD h
def EI(a:Cz)(b:Cz)(i:Int)(s:St):Prop:=s.v 0=bm 125 (BG .i64 .i64 a)∧s.v 1=bm 125 (BG .i64 .i64 b)∧s.v 5=bk .i64 i
def EJ(a:Cz)(b:Cz)(r:Unit⊕Unit)(ex:Ex)(s:St):Prop:=match r with
 | .inl q=>ex= .ret∧s.v 4=cd false
 | .inr q=>ex= .exit 0
theorem Qo(a:Cz)(b:Cz){v:Int}{s:St}{r:Unit⊕Unit}(h:J7 a b v=some r)(hM:EI a b v s):Cb Y.env Yd (EJ a b r) s:=by
 unfold J7 at h;refine DK (c:=Qn) (fun v=>F8 a b v) (fun v s=>EI a b v s) (EJ a b) ?_ h hM;clear h hM s v r;intro i s o hM h;unfold F8 at h;unfold EI at hM;obtain⟨m0,m1,m2⟩:=hM;unfold Qn;by_cases e2:i<(a.length:Int)
 ·rw [if_pos e2]at h;obtain⟨e3,h⟩:=Cq h;obtain⟨e4,h⟩:=Cq h;obtain⟨jC,hl5,h⟩:=BS h;try dsimp only at h
  have c5:=UL (BJ a i.toNat) (Bo a i.toNat) (BJ b i.toNat) (Bo b i.toNat) hl5;by_cases e6:jC=true
  ·rw [if_pos e6]at h
   obtain rfl:=Option.some.inj h
   simp (maxDischargeDepth:=9) only [↓AQ,AR,Au,↓reduceIte,bo,bp,br,bt,bw,bx,bO,b0,b3,b4,b5,b6,b7,b8,b9,ca,cb,m0,m1,m2,e2,e3.1,e3.2,e4.1,e4.2,c5,e6,EI,EJ,EA,EB,EC]<;>(repeat' apply A7)<;>first|rfl|exact⟨_,rfl⟩|exact⟨_,_,rfl⟩|simp [AV,AB]
  ·rw [if_neg e6]at h;have e6f:jC=false:=Gw.mpr e6
   obtain rfl:=Option.some.inj h
   simp (maxDischargeDepth:=9) only [↓AQ,AR,Au,↓reduceIte,bo,bp,br,bt,bw,bx,bO,b0,b3,b4,b5,b6,b7,b8,b9,ca,cb,m0,m1,m2,e2,e3.1,e3.2,e4.1,e4.2,c5,e6f,EI,EJ,EA,EB,EC]<;>(repeat' apply A7)<;>first|rfl|exact⟨_,rfl⟩|exact⟨_,_,rfl⟩|simp [AV,AB]
 ·rw [if_neg e2]at h
  obtain rfl:=Option.some.inj h
  simp (maxDischargeDepth:=9) only [↓AQ,AR,Au,↓reduceIte,bo,bp,br,bt,bw,bx,bO,b0,b3,b4,b5,b6,b7,b8,b9,ca,cb,m0,m1,m2,e2,EI,EJ,EA,EB,EC]<;>(repeat' apply A7)<;>first|rfl|exact⟨_,rfl⟩|exact⟨_,_,rfl⟩|simp [AV,AB]
theorem SB(a:Cz)(b:Cz){r:Bool}(h:NG a b=some r):Y.call 126 [bm 125 (BG .i64 .i64 a),bm 125 (BG .i64 .i64 b)] []=some (cd r,[]):=by
 refine A8t ?_ rfl;unfold wP;unfold NG at h;by_cases e1:(a.length:Int)=(b.length:Int)
 ·rw [if_pos e1]at h;obtain⟨Ap,hl3,h⟩:=BS h;try dsimp only at h
  simp (maxDischargeDepth:=9) only [↓AQ,AR,Au,↓reduceIte,bo,bp,br,bt,bw,bx,bO,b0,b3,b4,b5,b6,b7,b8,b9,ca,cb,decide_eq_true e1];refine CQ (Qo a b hl3 ?_) ?_
  ·simp (maxDischargeDepth:=9) only [↓AQ,AR,Au,↓reduceIte,bo,bp,br,bt,bw,bx,bO,b0,b3,b4,b5,b6,b7,b8,b9,ca,cb,decide_eq_true e1,EI]<;>(repeat' apply A7)<;>first|rfl|exact⟨_,rfl⟩|exact⟨_,_,rfl⟩|simp [AV,AB]
  ·intro ex3 s3 hX3;rcases Ap with q1000_|q1000_
   ·unfold EJ at hX3;dsimp only at hX3 h;obtain⟨rfl,n3_0⟩:=hX3
    obtain rfl:=Option.some.inj h
    simp (maxDischargeDepth:=9) only [↓AQ,AR,Au,↓reduceIte,bo,bp,br,bt,bw,bx,bO,b0,b3,b4,b5,b6,b7,b8,b9,ca,cb,decide_eq_true e1,n3_0]<;>(repeat' apply A7)<;>first|rfl|exact⟨_,rfl⟩|exact⟨_,_,rfl⟩|simp [AV,AB]
   ·unfold EJ at hX3;dsimp only at hX3 h
    obtain rfl:=hX3
    obtain rfl:=Option.some.inj h
    simp (maxDischargeDepth:=9) only [↓AQ,AR,Au,↓reduceIte,bo,bp,br,bt,bw,bx,bO,b0,b3,b4,b5,b6,b7,b8,b9,ca,cb,decide_eq_true e1]<;>(repeat' apply A7)<;>first|rfl|exact⟨_,rfl⟩|exact⟨_,_,rfl⟩|simp [AV,AB]
 ·rw [if_neg e1]at h
  obtain rfl:=Option.some.inj h
  simp (maxDischargeDepth:=9) only [↓AQ,AR,Au,↓reduceIte,bo,bp,br,bt,bw,bx,bO,b0,b3,b4,b5,b6,b7,b8,b9,ca,cb,e1]<;>(repeat' apply A7)<;>first|rfl|exact⟨_,rfl⟩|exact⟨_,_,rfl⟩|simp [AV,AB]
theorem Xx(a b c d:Int):NF a b c d=some (decide ((a,b)=(c,d))):=by
 unfold NF;by_cases h1:a=c<;>by_cases h2:b=d<;>simp [h1,h2]
theorem WL(a b:Cz)(ha:a.length<549755813888):NG a b=some (decide (a=b)):=by
 unfold NG J7;by_cases hl:a.length=b.length
 ·rw [if_pos (by omega)]
  have key:=EO (fun v=>F8 a b v) (fun i=>(i:Int)) a.length (fun i=>decide (a.getD i bl=b.getD i bl)) (.inl ()) (.inr ()) ?_ ?_
  ·simp only [Lc]at key;rw [key,Qa a b hl];by_cases he:a=b<;>simp [he]
  ·intro i hi;simp only [F8,Fj];rw [if_pos (D8 hi),Ch (by omega),Ch (by omega),Xx,EM,Nr i (by omega)]
   rfl
  ·simp only [F8];rw [if_neg (BK _)]
 ·rw [if_neg (by omega)]
  have: ¬a=b:=fun e=>hl (by rw [e])
  simp [this]
theorem WM(a:Cz)(b:Cz)(h0:a.length<549755813888):Y.call 126 [bm 125 (BG .i64 .i64 a),bm 125 (BG .i64 .i64 b)] []=some (cd (decide (a=b)),[]):=SB a b (WL a b h0)
def EU(a:BN)(b:BN)(i:Int):Option ((Int)⊕(Unit⊕Unit)):= if i<(a.length:Int)then ck (0≤i∧i.toNat<a.length)<| ck (0≤i∧i.toNat<b.length)<| ck ((a.getD i.toNat bl).length<549755813888)<| if(decide ((a.getD i.toNat bl)=(b.getD i.toNat bl)))=true then some (cf (ce.wrap (i+1))) else some (cc (cf ())) else some (cc (cc ()))
def IA(a:BN)(b:BN)(v:Int):Option (Unit⊕Unit):=Jf (fun v=>EU a b v) v
def LY(a:BN)(b:BN):Option (Bool):=
 if(a.length:Int)=(b.length:Int)then
  (IA a b 0).bind fun Ap=>
  match Ap with
  | .inl q1000_=>
   some false
  | .inr q1000_=>
   some true
 else
  some false
def UM:SC:= .seq (.seq (.ops [oM 11 5 3,oM 12 0 45,oN 13 12 45,oB 14 .lss 3 (tK 11) (tK 13) 3 4]) (.cond (tK 14) .skip (.exit 0))) (.seq (.block 1 (.seq (.draws [(⟨[17,0,0],TH,[17]⟩,oM 17 0 45),(⟨[18,5,5],TH,[18]⟩,oM 18 5 3),(⟨[19,17,18,0,5],TH,[19]⟩,oI 19 45 17 18),(⟨[20,19,0],TH,[20]⟩,oL 20 123 19 123),(⟨[21,1,1],TH,[21]⟩,oM 21 1 45),(⟨[22,5,5],TH,[22]⟩,oM 22 5 3),(⟨[23,21,22,1,5],TH,[23]⟩,oI 23 45 21 22),(⟨[24,23,1],TH,[24]⟩,oL 24 123 23 123),(⟨[25,20,24,0,1],TH,[25]⟩,oC 25 126 [(tK 20),(tK 24)] [123,123] 4),(⟨[26,25,25],TH,[26]⟩,oX 26 (.unOp .not 4 (tK 25)) 4)]) (.cond (tK 26) (.seq (.ops [oX 4 BU 4]) .ret) .skip))) (.ops [oM 15 5 3,oB 16 .add 3 (tK 15) (iK 1) 3 3,oA 5 16 3]))
def ed:SC:= .loop UM
def k73:SC:= .seq (.ops [oX 4 BU 4]) (.seq (.seq (.ops [oM 6 0 45,oN 7 6 45,oM 8 1 45,oN 9 8 45,oB 10 .neq 3 (tK 7) (tK 9) 3 4]) (.cond (tK 10) (.seq (.ops [oX 4 BU 4]) .ret) .skip)) (.seq (.seq (.ops [oX 5 (.assign (iK 0)) 3]) (.block 0 ed)) (.seq (.ops [oX 4 (.assign Dz) 4]) .ret)))
theorem wQ:Try.f73.body.map (Bw lends)=some k73:=by kernel_rfl
theorem A8v:CV Try.f73 2=true:=by kernel_rfl
theorem c73{a l:List D}{r:D×List D}(h:Cb Y.env k73 (GX Ad l.length [cg 4] r) (entry a l))(ha:a.length=2):Y.call 73 a l=some r:=
 Ag (Y:=Y) rfl Try.func73 (ha▸A8v) wQ h
def Dl(a:BN)(b:BN)(i:Int)(s:St):Prop:=s.v 0=bm 123 (AV (fun x=>bm 125 (BG .i64 .i64 x)) a)∧s.v 1=bm 123 (AV (fun x=>bm 125 (BG .i64 .i64 x)) b)∧s.v 5=bk .i64 i
def Dm(a:BN)(b:BN)(r:Unit⊕Unit)(ex:Ex)(s:St):Prop:=match r with
 | .inl q=>ex= .ret∧s.v 4=cd false
 | .inr q=>ex= .exit 0
theorem Oq(a:BN)(b:BN){v:Int}{s:St}{r:Unit⊕Unit}(h:IA a b v=some r)(hM:Dl a b v s):Cb Y.env ed (Dm a b r) s:=by
 unfold IA at h;refine DK (c:=UM) (fun v=>EU a b v) (fun v s=>Dl a b v s) (Dm a b) ?_ h hM;clear h hM s v r;intro i s o hM h;unfold EU at h;unfold Dl at hM;obtain⟨m0,m1,m2⟩:=hM;unfold UM;by_cases e2:i<(a.length:Int)
 ·rw [if_pos e2]at h;obtain⟨e3,h⟩:=Cq h;obtain⟨e4,h⟩:=Cq h;obtain⟨e5,h⟩:=Cq h;have c6:=WM (a.getD i.toNat bl) (b.getD i.toNat bl) e5;by_cases e7:(decide ((a.getD i.toNat bl)=(b.getD i.toNat bl)))=true
  ·rw [if_pos e7]at h
   obtain rfl:=Option.some.inj h
   simp (maxDischargeDepth:=9) only [↓AQ,AR,Au,↓reduceIte,bo,bp,br,bt,bw,bx,bO,b0,b3,b4,b5,b6,b7,b8,b9,ca,cb,m0,m1,m2,e2,e3.1,e3.2,e4.1,e4.2,e5,c6,e7,Dl,Dm,EA,EB,EC]<;>(repeat' apply A7)<;>first|rfl|exact⟨_,rfl⟩|exact⟨_,_,rfl⟩|simp [AV,AB]
  ·rw [if_neg e7]at h;have e7f:(decide ((a.getD i.toNat bl)=(b.getD i.toNat bl)))=false:=Gw.mpr e7
   obtain rfl:=Option.some.inj h
   simp (maxDischargeDepth:=9) only [↓AQ,AR,Au,↓reduceIte,bo,bp,br,bt,bw,bx,bO,b0,b3,b4,b5,b6,b7,b8,b9,ca,cb,m0,m1,m2,e2,e3.1,e3.2,e4.1,e4.2,e5,c6,e7f,Dl,Dm,EA,EB,EC]<;>(repeat' apply A7)<;>first|rfl|exact⟨_,rfl⟩|exact⟨_,_,rfl⟩|simp [AV,AB]
 ·rw [if_neg e2]at h
  obtain rfl:=Option.some.inj h
  simp (maxDischargeDepth:=9) only [↓AQ,AR,Au,↓reduceIte,bo,bp,br,bt,bw,bx,bO,b0,b3,b4,b5,b6,b7,b8,b9,ca,cb,m0,m1,m2,e2,Dl,Dm,EA,EB,EC]<;>(repeat' apply A7)<;>first|rfl|exact⟨_,rfl⟩|exact⟨_,_,rfl⟩|simp [AV,AB]
theorem Qp(a:BN)(b:BN){r:Bool}(h:LY a b=some r):Y.call 73 [bm 123 (AV (fun x=>bm 125 (BG .i64 .i64 x)) a),bm 123 (AV (fun x=>bm 125 (BG .i64 .i64 x)) b)] []=some (cd r,[]):=by
 refine c73 ?_ rfl;unfold k73;unfold LY at h;by_cases e1:(a.length:Int)=(b.length:Int)
 ·rw [if_pos e1]at h;obtain⟨Ap,hl3,h⟩:=BS h;try dsimp only at h
  simp (maxDischargeDepth:=9) only [↓AQ,AR,Au,↓reduceIte,bo,bp,br,bt,bw,bx,bO,b0,b3,b4,b5,b6,b7,b8,b9,ca,cb,decide_eq_true e1];refine CQ (Oq a b hl3 ?_) ?_
  ·simp (maxDischargeDepth:=9) only [↓AQ,AR,Au,↓reduceIte,bo,bp,br,bt,bw,bx,bO,b0,b3,b4,b5,b6,b7,b8,b9,ca,cb,decide_eq_true e1,Dl]<;>(repeat' apply A7)<;>first|rfl|exact⟨_,rfl⟩|exact⟨_,_,rfl⟩|simp [AV,AB]
  ·intro ex3 s3 hX3;rcases Ap with q1000_|q1000_
   ·unfold Dm at hX3;dsimp only at hX3 h;obtain⟨rfl,n3_0⟩:=hX3
    obtain rfl:=Option.some.inj h
    simp (maxDischargeDepth:=9) only [↓AQ,AR,Au,↓reduceIte,bo,bp,br,bt,bw,bx,bO,b0,b3,b4,b5,b6,b7,b8,b9,ca,cb,decide_eq_true e1,n3_0]<;>(repeat' apply A7)<;>first|rfl|exact⟨_,rfl⟩|exact⟨_,_,rfl⟩|simp [AV,AB]
   ·unfold Dm at hX3;dsimp only at hX3 h
    obtain rfl:=hX3
    obtain rfl:=Option.some.inj h
    simp (maxDischargeDepth:=9) only [↓AQ,AR,Au,↓reduceIte,bo,bp,br,bt,bw,bx,bO,b0,b3,b4,b5,b6,b7,b8,b9,ca,cb,decide_eq_true e1]<;>(repeat' apply A7)<;>first|rfl|exact⟨_,rfl⟩|exact⟨_,_,rfl⟩|simp [AV,AB]
 ·rw [if_neg e1]at h
  obtain rfl:=Option.some.inj h
  simp (maxDischargeDepth:=9) only [↓AQ,AR,Au,↓reduceIte,bo,bp,br,bt,bw,bx,bO,b0,b3,b4,b5,b6,b7,b8,b9,ca,cb,e1]<;>(repeat' apply A7)<;>first|rfl|exact⟨_,rfl⟩|exact⟨_,_,rfl⟩|simp [AV,AB]
theorem UN(a b:BN)(ha:Cg a):LY a b=some (decide (a=b)):=by
 have h1:=ha.1;unfold LY IA;by_cases hl:a.length=b.length
 ·rw [if_pos (by omega)]
  have key:=EO (fun v=>EU a b v) (fun i=>(i:Int)) a.length (fun i=>decide (a.getD i bl=b.getD i bl)) (.inl ()) (.inr ()) ?_ ?_
  ·simp only [Lc]at key;rw [key,Qa a b hl];by_cases he:a=b<;>simp [he]
  ·intro i hi;simp only [EU];rw [if_pos (D8 hi),Ch (Gs hi),Ch (Gs (by omega)),Ch (by rw [Gr _ _ hi];exact ha.at i hi),Fj,Nr i (by omega)]<;>simp only [decide_eq_true_eq]
  ·simp only [EU];rw [if_neg (BK _)]
 ·rw [if_neg (by omega)]
  have: ¬a=b:=fun e=>hl (by rw [e])
  simp [this]
theorem UO(a:BN)(b:BN)(h0:Cg a):Y.call 73 [bm 123 (AV (fun x=>bm 125 (BG .i64 .i64 x)) a),bm 123 (AV (fun x=>bm 125 (BG .i64 .i64 x)) b)] []=some (cd (decide (a=b)),[]):=Qp a b (UN a b h0)
def J8(Ay:BN)(Bz:AX)(Az:AX)(I5:BN)(KE:AX)(Eu:AX):Option (Bool):= ck (Cg Ay)<| if(decide (Ay=I5))=true then ck (Bz.length<1099511627776)<| if(decide (Bz=KE))=true then ck (Az.length<1099511627776)<| if(decide (Az=Eu))=true then some true else some false else some false else some false
def k25:SC:= .seq (.ops [oX 2 (.box 47 (tK 0)) 0,oX 3 (.box 47 (tK 1)) 0,oX 4 BU 4]) (.seq (.seq (.ops [oF 5 47 2 0,oL 6 45 5 45,oF 7 47 3 0,oL 8 45 7 45,oC 9 73 [(tK 6),(tK 8)] [45,45] 4,oX 10 (.unOp .not 4 (tK 9)) 4]) (.cond (tK 10) (.seq (.ops [oX 4 BU 4]) .ret) .skip)) (.seq (.seq (.ops [oF 11 47 2 1,oL 12 26 11 26,oF 13 47 3 1,oL 14 26 13 26,oC 15 14 [(tK 12),(tK 14)] [26,26] 4,oX 16 (.unOp .not 4 (tK 15)) 4]) (.cond (tK 16) (.seq (.ops [oX 4 BU 4]) .ret) .skip)) (.seq (.seq (.ops [oF 17 47 2 2,oL 18 26 17 26,oF 19 47 3 2,oL 20 26 19 26,oC 21 14 [(tK 18),(tK 20)] [26,26] 4,oX 22 (.unOp .not 4 (tK 21)) 4]) (.cond (tK 22) (.seq (.ops [oX 4 BU 4]) .ret) .skip)) (.seq (.ops [oX 4 (.assign Dz) 4]) .ret))))
theorem wR:Try.f25.body.map (Bw lends)=some k25:=by kernel_rfl
theorem A8x:CV Try.f25 2=true:=by kernel_rfl
theorem c25{a l:List D}{r:D×List D}(h:Cb Y.env k25 (GX Ad l.length [cg 4] r) (entry a l))(ha:a.length=2):Y.call 25 a l=some r:=
 Ag (Y:=Y) rfl Try.func25 (ha▸A8x) wR h
theorem Nw(Ay:BN)(Bz:AX)(Az:AX)(I5:BN)(KE:AX)(Eu:AX){r:Bool}(h:J8 Ay Bz Az I5 KE Eu=some r):Y.call 25 [cj [bm 123 (AV (fun x=>bm 125 (BG .i64 .i64 x)) Ay),bm 3 (AV (bk .i64) Bz),bm 3 (AV (bk .i64) Az)],cj [bm 123 (AV (fun x=>bm 125 (BG .i64 .i64 x)) I5),bm 3 (AV (bk .i64) KE),bm 3 (AV (bk .i64) Eu)]] []=some (cd r,[]):=by
 refine c25 ?_ rfl;unfold k25;unfold J8 at h;obtain⟨e1,h⟩:=Cq h;have c2:=UO Ay I5 e1;by_cases e3:(decide (Ay=I5))=true
 ·rw [if_pos e3]at h;obtain⟨e4,h⟩:=Cq h;have c5:=Ky Bz KE e4;by_cases e6:(decide (Bz=KE))=true
  ·rw [if_pos e6]at h;obtain⟨e7,h⟩:=Cq h;have c8:=Ky Az Eu e7;by_cases e9:(decide (Az=Eu))=true
   ·rw [if_pos e9]at h
    obtain rfl:=Option.some.inj h
    simp (maxDischargeDepth:=9) only [↓AQ,AR,Au,↓reduceIte,bo,bp,br,bt,bw,bx,bO,b0,b3,b4,b5,b6,b7,b8,b9,ca,cb,e1,c2,e3,e4,c5,e6,e7,c8,e9]<;>(repeat' apply A7)<;>first|rfl|exact⟨_,rfl⟩|exact⟨_,_,rfl⟩|simp [AV,AB]
   ·rw [if_neg e9]at h;have e9f:(decide (Az=Eu))=false:=Gw.mpr e9
    obtain rfl:=Option.some.inj h
    simp (maxDischargeDepth:=9) only [↓AQ,AR,Au,↓reduceIte,bo,bp,br,bt,bw,bx,bO,b0,b3,b4,b5,b6,b7,b8,b9,ca,cb,e1,c2,e3,e4,c5,e6,e7,c8,e9f]<;>(repeat' apply A7)<;>first|rfl|exact⟨_,rfl⟩|exact⟨_,_,rfl⟩|simp [AV,AB]
  ·rw [if_neg e6]at h;have e6f:(decide (Bz=KE))=false:=Gw.mpr e6
   obtain rfl:=Option.some.inj h
   simp (maxDischargeDepth:=9) only [↓AQ,AR,Au,↓reduceIte,bo,bp,br,bt,bw,bx,bO,b0,b3,b4,b5,b6,b7,b8,b9,ca,cb,e1,c2,e3,e4,c5,e6f]<;>(repeat' apply A7)<;>first|rfl|exact⟨_,rfl⟩|exact⟨_,_,rfl⟩|simp [AV,AB]
 ·rw [if_neg e3]at h;have e3f:(decide (Ay=I5))=false:=Gw.mpr e3
  obtain rfl:=Option.some.inj h
  simp (maxDischargeDepth:=9) only [↓AQ,AR,Au,↓reduceIte,bo,bp,br,bt,bw,bx,bO,b0,b3,b4,b5,b6,b7,b8,b9,ca,cb,e1,c2,e3f]<;>(repeat' apply A7)<;>first|rfl|exact⟨_,rfl⟩|exact⟨_,_,rfl⟩|simp [AV,AB]
def Hm(a:BN)(b c:AX)(a':BN)(b' c':AX):Bool:=decide (a=a'∧b=b'∧c=c')
theorem Xy(a:BN)(b c:AX):Hm a b c a b c=true:=by simp [Hm]
theorem Qq(a:BN)(b c:AX)(a':BN)(b' c':AX)(h:Cg a)(hb:b.length<1099511627776)(hc:c.length<1099511627776):J8 a b c a' b' c'=some (Hm a b c a' b' c'):=by
 unfold J8 Hm;rw [Ch h,Ch hb,Ch hc];by_cases h1:a=a'<;>by_cases h2:b=b'<;>by_cases h3:c=c'<;>simp [h1,h2,h3]
theorem Gu(Ay:BN)(Bz:AX)(Az:AX)(I5:BN)(KE:AX)(Eu:AX)(h0:Cg Ay)(h1:Bz.length<1099511627776)(h2:Az.length<1099511627776):Y.call 25 [cj [bm 123 (AV (fun x=>bm 125 (BG .i64 .i64 x)) Ay),bm 3 (AV (bk .i64) Bz),bm 3 (AV (bk .i64) Az)],cj [bm 123 (AV (fun x=>bm 125 (BG .i64 .i64 x)) I5),bm 3 (AV (bk .i64) KE),bm 3 (AV (bk .i64) Eu)]] []=some (cd (Hm Ay Bz Az I5 KE Eu),[]):=Nw Ay Bz Az I5 KE Eu (Qq Ay Bz Az I5 KE Eu h0 h1 h2)
def NH(a:Cz)(left:Int):Option (Int):= if(ce.wrap (left-(a.length:Int)))<0 then some (-1) else some (ce.wrap (left-(a.length:Int)))
def wS:SC:= .seq (.ops [oX 4 (.assign (iK 0)) 3]) (.seq (.ops [oM 5 1 3,oM 6 0 121,oN 7 6 121,oB 8 .sub 3 (tK 5) (tK 7) 3 3,oA 1 8 3]) (.seq (.seq (.ops [oM 9 1 3,oB 10 .lss 3 (tK 9) (iK 0) 3 4]) (.cond (tK 10) (.seq (.ops [oX 4 N7 3]) .ret) .skip)) (.seq (.ops [oM 11 1 3,oA 4 11 3]) .ret)))
theorem jE:Try.f105.body.map (Bw lends)=some wS:=by kernel_rfl
theorem A4G:CV Try.f105 2=true:=by kernel_rfl
theorem A8y{a l:List D}{r:D×List D}(h:Cb Y.env wS (GX Ad l.length [cg 4] r) (entry a l))(ha:a.length=2):Y.call 105 a l=some r:=
 Ag (Y:=Y) rfl Try.func105 (ha▸A4G) jE h
theorem SE(a:Cz)(left:Int){r:Int}(h:NH a left=some r):Y.call 105 [bm 159 (BG .i64 .i64 a),bk .i64 left] []=some (bk .i64 r,[]):=by
 refine A8y ?_ rfl;unfold wS;unfold NH at h;by_cases e1:(ce.wrap (left-(a.length:Int)))<0
 ·rw [if_pos e1]at h
  obtain rfl:=Option.some.inj h
  simp (maxDischargeDepth:=9) only [↓AQ,AR,Au,↓reduceIte,bo,bp,br,bt,bw,bx,bO,b0,b3,b4,b5,b6,b7,b8,b9,ca,cb,e1]<;>(repeat' apply A7)<;>first|rfl|exact⟨_,rfl⟩|exact⟨_,_,rfl⟩|simp [AV,AB]
 ·rw [if_neg e1]at h
  obtain rfl:=Option.some.inj h
  simp (maxDischargeDepth:=9) only [↓AQ,AR,Au,↓reduceIte,bo,bp,br,bt,bw,bx,bO,b0,b3,b4,b5,b6,b7,b8,b9,ca,cb,e1]<;>(repeat' apply A7)<;>first|rfl|exact⟨_,rfl⟩|exact⟨_,_,rfl⟩|simp [AV,AB]
theorem WN(a:Cz)(left:Int)(ha:a.length<9223372036854775808)(hl:0≤left∧left≤1048576):NH a left=some (Et left a.length):=by
 unfold NH Et;rw [Oj _ (by omega)]
 split<;>rfl
theorem WO(a:Cz)(left:Int)(h0:a.length<9223372036854775808)(h1:0≤left∧left≤1048576):Y.call 105 [bm 159 (BG .i64 .i64 a),bk .i64 left] []=some (bk .i64 (Et left a.length),[]):=SE a left (WN a left h0 h1)
def EW(a:BN)(left1:Int)(i:Int):Option ((Int×Int)⊕(Unit⊕Int)):= if i<(a.length:Int)then ck (0≤i∧i.toNat<a.length)<| ck ((a.getD i.toNat bl).length<9223372036854775808)<| ck (0≤left1∧left1≤1048576)<| if(Et left1 (a.getD i.toNat bl).length)<0 then some (cc (cf ())) else some (cf ((Et left1 (a.getD i.toNat bl).length),ce.wrap (i+1))) else some (cc (cc left1))
def El(a:BN)(v:Int×Int):Option (Unit⊕Int):=Jf (fun v=>EW a v.1 v.2) v
def LZ(a:BN)(left:Int):Option (Int):=
 if(ce.wrap (left-(a.length:Int)))<0 then
  some (-1)
 else
  (El a (ce.wrap (left-(a.length:Int)),0)).bind fun Ap=>
  match Ap with
  | .inl q1000_=>
   some (-1)
  | .inr q1000_=>
   some q1000_
def UQ:SC:= .seq (.seq (.ops [oM 12 5 3,oM 13 0 39,oN 14 13 39,oB 15 .lss 3 (tK 12) (tK 14) 3 4]) (.cond (tK 15) .skip (.exit 0))) (.seq (.block 1 (.seq (.ops [oM 18 0 39,oM 19 5 3,oI 20 39 18 19,oL 21 121 20 121,oM 22 1 3,oC 23 105 [(tK 21),(tK 22)] [121,3] 3,oA 1 23 3]) (.seq (.ops [oM 24 1 3,oB 25 .lss 3 (tK 24) (iK 0) 3 4]) (.cond (tK 25) (.seq (.ops [oX 4 N7 3]) .ret) .skip)))) (.ops [oM 16 5 3,oB 17 .add 3 (tK 16) (iK 1) 3 3,oA 5 17 3]))
def ek:SC:= .loop UQ
def k58:SC:= .seq (.ops [oX 4 (.assign (iK 0)) 3]) (.seq (.ops [oM 6 1 3,oM 7 0 39,oN 8 7 39,oB 9 .sub 3 (tK 6) (tK 8) 3 3,oA 1 9 3]) (.seq (.seq (.ops [oM 10 1 3,oB 11 .lss 3 (tK 10) (iK 0) 3 4]) (.cond (tK 11) (.seq (.ops [oX 4 N7 3]) .ret) .skip)) (.seq (.seq (.ops [oX 5 (.assign (iK 0)) 3]) (.block 0 ek)) (.seq (.ops [oM 26 1 3,oA 4 26 3]) .ret))))
theorem wT:Try.f58.body.map (Bw lends)=some k58:=by kernel_rfl
theorem A90:CV Try.f58 2=true:=by kernel_rfl
theorem c58{a l:List D}{r:D×List D}(h:Cb Y.env k58 (GX Ad l.length [cg 4] r) (entry a l))(ha:a.length=2):Y.call 58 a l=some r:=
 Ag (Y:=Y) rfl Try.func58 (ha▸A90) wT h
def Dn(a:BN)(left1:Int)(i:Int)(s:St):Prop:=s.v 0=bm 121 (AV (fun x=>bm 159 (BG .i64 .i64 x)) a)∧s.v 1=bk .i64 left1∧s.v 5=bk .i64 i
def Dp(a:BN)(r:Unit⊕Int)(ex:Ex)(s:St):Prop:=match r with
 | .inl q=>ex= .ret∧s.v 4=bk .i64 (-1)
 | .inr q=>ex= .exit 0∧s.v 1=bk .i64 q
theorem Ot(a:BN){v:Int×Int}{s:St}{r:Unit⊕Int}(h:El a v=some r)(hM:Dn a v.1 v.2 s):Cb Y.env ek (Dp a r) s:=by
 unfold El at h;refine DK (c:=UQ) (fun v=>EW a v.1 v.2) (fun v s=>Dn a v.1 v.2 s) (Dp a) ?_ h hM;clear h hM s v r;intro v s o hM h;obtain⟨left1,i⟩:=v;dsimp only at h hM;unfold EW at h;unfold Dn at hM;obtain⟨m0,m1,m2⟩:=hM;unfold UQ;by_cases e2:i<(a.length:Int)
 ·rw [if_pos e2]at h;obtain⟨e3,h⟩:=Cq h;obtain⟨e4,h⟩:=Cq h;obtain⟨e5,h⟩:=Cq h;have c6:=WO (a.getD i.toNat bl) left1 e4 e5;by_cases e7:(Et left1 (a.getD i.toNat bl).length)<0
  ·rw [if_pos e7]at h
   obtain rfl:=Option.some.inj h
   simp (maxDischargeDepth:=9) only [↓AQ,AR,Au,↓reduceIte,bo,bp,br,bt,bw,bx,bO,b0,b3,b4,b5,b6,b7,b8,b9,ca,cb,m0,m1,m2,e2,e3.1,e3.2,e4,e5.1,e5.2,c6,e7,Dn,Dp,EA,EB,EC]<;>(repeat' apply A7)<;>first|rfl|exact⟨_,rfl⟩|exact⟨_,_,rfl⟩|simp [AV,AB]
  ·rw [if_neg e7]at h
   obtain rfl:=Option.some.inj h
   simp (maxDischargeDepth:=9) only [↓AQ,AR,Au,↓reduceIte,bo,bp,br,bt,bw,bx,bO,b0,b3,b4,b5,b6,b7,b8,b9,ca,cb,m0,m1,m2,e2,e3.1,e3.2,e4,e5.1,e5.2,c6,e7,Dn,Dp,EA,EB,EC]<;>(repeat' apply A7)<;>first|rfl|exact⟨_,rfl⟩|exact⟨_,_,rfl⟩|simp [AV,AB]
 ·rw [if_neg e2]at h
  obtain rfl:=Option.some.inj h
  simp (maxDischargeDepth:=9) only [↓AQ,AR,Au,↓reduceIte,bo,bp,br,bt,bw,bx,bO,b0,b3,b4,b5,b6,b7,b8,b9,ca,cb,m0,m1,m2,e2,Dn,Dp,EA,EB,EC]<;>(repeat' apply A7)<;>first|rfl|exact⟨_,rfl⟩|exact⟨_,_,rfl⟩|simp [AV,AB]
theorem Qr(a:BN)(left:Int){r:Int}(h:LZ a left=some r):Y.call 58 [bm 121 (AV (fun x=>bm 159 (BG .i64 .i64 x)) a),bk .i64 left] []=some (bk .i64 r,[]):=by
 refine c58 ?_ rfl;unfold k58;unfold LZ at h;by_cases e1:(ce.wrap (left-(a.length:Int)))<0
 ·rw [if_pos e1]at h
  obtain rfl:=Option.some.inj h
  simp (maxDischargeDepth:=9) only [↓AQ,AR,Au,↓reduceIte,bo,bp,br,bt,bw,bx,bO,b0,b3,b4,b5,b6,b7,b8,b9,ca,cb,e1]<;>(repeat' apply A7)<;>first|rfl|exact⟨_,rfl⟩|exact⟨_,_,rfl⟩|simp [AV,AB]
 ·rw [if_neg e1]at h;obtain⟨Ap,hl3,h⟩:=BS h;try dsimp only at h
  simp (maxDischargeDepth:=9) only [↓AQ,AR,Au,↓reduceIte,bo,bp,br,bt,bw,bx,bO,b0,b3,b4,b5,b6,b7,b8,b9,ca,cb,e1];refine CQ (Ot a hl3 ?_) ?_
  ·simp (maxDischargeDepth:=9) only [↓AQ,AR,Au,↓reduceIte,bo,bp,br,bt,bw,bx,bO,b0,b3,b4,b5,b6,b7,b8,b9,ca,cb,e1,Dn]<;>(repeat' apply A7)<;>first|rfl|exact⟨_,rfl⟩|exact⟨_,_,rfl⟩|simp [AV,AB]
  ·intro ex3 s3 hX3;rcases Ap with q1000_|q1000_
   ·unfold Dp at hX3;dsimp only at hX3 h;obtain⟨rfl,n3_0⟩:=hX3
    obtain rfl:=Option.some.inj h
    simp (maxDischargeDepth:=9) only [↓AQ,AR,Au,↓reduceIte,bo,bp,br,bt,bw,bx,bO,b0,b3,b4,b5,b6,b7,b8,b9,ca,cb,e1,n3_0]<;>(repeat' apply A7)<;>first|rfl|exact⟨_,rfl⟩|exact⟨_,_,rfl⟩|simp [AV,AB]
   ·unfold Dp at hX3;dsimp only at hX3 h;obtain⟨rfl,n3_0⟩:=hX3
    obtain rfl:=Option.some.inj h
    simp (maxDischargeDepth:=9) only [↓AQ,AR,Au,↓reduceIte,bo,bp,br,bt,bw,bx,bO,b0,b3,b4,b5,b6,b7,b8,b9,ca,cb,e1,n3_0]<;>(repeat' apply A7)<;>first|rfl|exact⟨_,rfl⟩|exact⟨_,_,rfl⟩|simp [AV,AB]
def fE(l:BN):We:=l.map fun x=>x.map Prod.fst
theorem Ou(a:BN)(ha:a.length<4611686018427387904)(hx: ∀x∈a,x.length<9223372036854775808): ∀(n i:Nat) (left:Int),n=a.length-i→i≤a.length→0≤left∧left≤1048576→
  El a (left,(i:Int))=some (if sG left (fE (a.drop i))= -1 then .inl ()else .inr (sG left (fE (a.drop i)))):=by
 intro n
 induction n with
 |zero=>
  intro i left hn hi hl;have e:i=a.length:=by omega
  subst e;unfold El;rw [U6 (r:=cc left)]
  ·rw [List.drop_length,show fE []=[]from rfl];unfold sG;rw [if_neg (by omega)]
  ·simp only [EW];rw [if_neg (BK _)]
 |succ n ih=>
  intro i left hn hi hl;have hlt:i<a.length:=by omega
  have hm:a[i]∈a:=KO hlt;have hxm:=hx _ hm
  have step:EW a left i=if Et left a[i].length<0 then some (cc (cf ()))else some (cf (Et left a[i].length,((i+1:Nat):Int))):=by
   unfold EW;rw [if_pos (D8 hlt),Ch (Gs hlt),Ch (by rw [Gr _ _ hlt];exact hxm),Ch hl,Gr _ _ hlt,Nr i (by omega)]
  rw [List.drop_eq_getElem_cons hlt,show fE (a[i]::a.drop (i+1))=a[i].map Prod.fst::fE (a.drop (i+1))from rfl];unfold sG;rw [Oa];by_cases hq:left-(a[i].length:Int)<0
  ·rw [if_pos hq];unfold El;rw [U6 (r:=cf ())]
   ·rfl
   ·rw [step];unfold Et;rw [if_pos hq];rfl
  ·rw [if_neg hq];have e2:Et left a[i].length=left-a[i].length:=by unfold Et;rw [if_neg hq]
   have:=ih (i+1) (left-a[i].length) (by omega) (by omega) (by omega)
   unfold El at this ⊢;rw [YS (s':=(left-(a[i].length:Int),((i+1:Nat):Int))),this]
   ·rw [step,e2,if_neg hq]
def Lu(l:BN):Prop:=l.length<9223372036854775808∧ ∀x∈l,x.length<9223372036854775808
instance (l:BN):Decidable (Lu l):=by unfold Lu;infer_instance
theorem UR(a:BN)(left:Int)(hw:Lu a)(hl:0≤left∧left≤1048576):LZ a left=some (Et left (a.length+Io (fE a))):=by
 have ht:=HZ (fE a);have ha:=hw.1;unfold LZ;rw [Oj _ (by omega)]
 by_cases hq:left-(a.length:Int)<0
 ·rw [if_pos hq];unfold Et;rw [if_pos (by omega)]
 ·rw [if_neg hq];have h0:=Ou a (by omega) hw.2 a.length 0 (left-a.length) (by omega) (by omega) (by omega)
  simp only [Lc,List.drop_zero]at h0;rw [h0,EM,vX _ _ (by omega)]
  have e:Et (left-a.length) (Io (fE a))=Et left (a.length+Io (fE a)):=by unfold Et;rw [show left- ↑a.length-Io (fE a)=left-(↑a.length+Io (fE a)) by omega]
  rw [e];by_cases h1:Et left (a.length+Io (fE a))= -1
  ·rw [if_pos h1,h1]
  ·rw [if_neg h1]
theorem UT(a:BN)(left:Int)(h0:Lu a)(h1:0≤left∧left≤1048576):Y.call 58 [bm 121 (AV (fun x=>bm 159 (BG .i64 .i64 x)) a),bk .i64 left] []=some (bk .i64 (Et left (a.length+Io (fE a))),[]):=Qr a left (UR a left h0 h1)
def J9(Ay:BN)(Bz:AX)(Az:AX)(left:Int):Option (Int):= ck (Lu Ay)<| ck (0≤left∧left≤1048576)<| if(Et left (Ay.length+Io (fE Ay)))<0 then some (-1) else ck (Bz.length<9223372036854775808)<| ck (0≤(Et left (Ay.length+Io (fE Ay)))∧(Et left (Ay.length+Io (fE Ay)))≤1048576)<| if(Et (Et left (Ay.length+Io (fE Ay))) Bz.length)<0 then some (-1) else ck (Az.length<9223372036854775808)<| ck (0≤(Et (Et left (Ay.length+Io (fE Ay))) Bz.length)∧(Et (Et left (Ay.length+Io (fE Ay))) Bz.length)≤1048576)<| if(Et (Et (Et left (Ay.length+Io (fE Ay))) Bz.length) Az.length)<0 then some (-1) else some (Et (Et (Et left (Ay.length+Io (fE Ay))) Bz.length) Az.length)
def k21:SC:= .seq (.ops [oX 2 (.box 41 (tK 0)) 0,oX 4 (.assign (iK 0)) 3]) (.seq (.ops [oF 5 41 2 0,oL 6 39 5 39,oM 7 1 3,oC 8 58 [(tK 6),(tK 7)] [39,3] 3,oA 1 8 3]) (.seq (.seq (.ops [oM 9 1 3,oB 10 .lss 3 (tK 9) (iK 0) 3 4]) (.cond (tK 10) (.seq (.ops [oX 4 N7 3]) .ret) .skip)) (.seq (.ops [oF 11 41 2 1,oL 12 26 11 26,oM 13 1 3,oC 14 59 [(tK 12),(tK 13)] [26,3] 3,oA 1 14 3]) (.seq (.seq (.ops [oM 15 1 3,oB 16 .lss 3 (tK 15) (iK 0) 3 4]) (.cond (tK 16) (.seq (.ops [oX 4 N7 3]) .ret) .skip)) (.seq (.ops [oF 17 41 2 2,oL 18 26 17 26,oM 19 1 3,oC 20 59 [(tK 18),(tK 19)] [26,3] 3,oA 1 20 3]) (.seq (.seq (.ops [oM 21 1 3,oB 22 .lss 3 (tK 21) (iK 0) 3 4]) (.cond (tK 22) (.seq (.ops [oX 4 N7 3]) .ret) .skip)) (.seq (.ops [oM 23 1 3,oA 4 23 3]) .ret)))))))
theorem wU:Try.f21.body.map (Bw lends)=some k21:=by kernel_rfl
theorem A92:CV Try.f21 2=true:=by kernel_rfl
theorem WP{a l:List D}{r:D×List D}(h:Cb Y.env k21 (GX Ad l.length [cg 4] r) (entry a l))(ha:a.length=2):Y.call 21 a l=some r:=
 Ag (Y:=Y) rfl Try.func21 (ha▸A92) wU h
theorem Ny(Ay:BN)(Bz:AX)(Az:AX)(left:Int){r:Int}(h:J9 Ay Bz Az left=some r):Y.call 21 [cj [bm 121 (AV (fun x=>bm 159 (BG .i64 .i64 x)) Ay),bm 3 (AV (bk .i64) Bz),bm 3 (AV (bk .i64) Az)],bk .i64 left] []=some (bk .i64 r,[]):=by
 refine WP ?_ rfl;unfold k21;unfold J9 at h;obtain⟨e1,h⟩:=Cq h;obtain⟨e2,h⟩:=Cq h;have c3:=UT Ay left e1 e2;by_cases e4:(Et left (Ay.length+Io (fE Ay)))<0
 ·rw [if_pos e4]at h
  obtain rfl:=Option.some.inj h
  simp (maxDischargeDepth:=9) only [↓AQ,AR,Au,↓reduceIte,bo,bp,br,bt,bw,bx,bO,b0,b3,b4,b5,b6,b7,b8,b9,ca,cb,e1,e2.1,e2.2,c3,e4]<;>(repeat' apply A7)<;>first|rfl|exact⟨_,rfl⟩|exact⟨_,_,rfl⟩|simp [AV,AB]
 ·rw [if_neg e4]at h;obtain⟨e5,h⟩:=Cq h;obtain⟨e6,h⟩:=Cq h;have c7:=Kz Bz (Et left (Ay.length+Io (fE Ay))) e5 e6;by_cases e8:(Et (Et left (Ay.length+Io (fE Ay))) Bz.length)<0
  ·rw [if_pos e8]at h
   obtain rfl:=Option.some.inj h
   simp (maxDischargeDepth:=9) only [↓AQ,AR,Au,↓reduceIte,bo,bp,br,bt,bw,bx,bO,b0,b3,b4,b5,b6,b7,b8,b9,ca,cb,e1,e2.1,e2.2,c3,e4,e5,e6.1,e6.2,c7,e8]<;>(repeat' apply A7)<;>first|rfl|exact⟨_,rfl⟩|exact⟨_,_,rfl⟩|simp [AV,AB]
  ·rw [if_neg e8]at h;obtain⟨e9,h⟩:=Cq h;obtain⟨e10,h⟩:=Cq h;have c11:=Kz Az (Et (Et left (Ay.length+Io (fE Ay))) Bz.length) e9 e10;by_cases e12:(Et (Et (Et left (Ay.length+Io (fE Ay))) Bz.length) Az.length)<0
   ·rw [if_pos e12]at h
    obtain rfl:=Option.some.inj h
    simp (maxDischargeDepth:=9) only [↓AQ,AR,Au,↓reduceIte,bo,bp,br,bt,bw,bx,bO,b0,b3,b4,b5,b6,b7,b8,b9,ca,cb,e1,e2.1,e2.2,c3,e4,e5,e6.1,e6.2,c7,e8,e9,e10.1,e10.2,c11,e12]<;>(repeat' apply A7)<;>first|rfl|exact⟨_,rfl⟩|exact⟨_,_,rfl⟩|simp [AV,AB]
   ·rw [if_neg e12]at h
    obtain rfl:=Option.some.inj h
    simp (maxDischargeDepth:=9) only [↓AQ,AR,Au,↓reduceIte,bo,bp,br,bt,bw,bx,bO,b0,b3,b4,b5,b6,b7,b8,b9,ca,cb,e1,e2.1,e2.2,c3,e4,e5,e6.1,e6.2,c7,e8,e9,e10.1,e10.2,c11,e12]<;>(repeat' apply A7)<;>first|rfl|exact⟨_,rfl⟩|exact⟨_,_,rfl⟩|simp [AV,AB]
def Ye(left:Int)(a:BN)(b c:AX):Int:=
 if Et left (a.length+Io (fE a))<0 then-1 else if Et (Et left (a.length+Io (fE a))) b.length<0 then-1 else Et (Et (Et left (a.length+Io (fE a))) b.length) c.length
theorem Qs(a:BN)(b c:AX)(left:Int)(ha:Lu a)(hb:b.length<9223372036854775808)(hc:c.length<9223372036854775808)(hl:0≤left∧left≤1048576):J9 a b c left=some (Ye left a b c):=by
 have ht:=HZ (fE a);unfold J9 Ye;rw [Ch ha,Ch hl];by_cases h1:Et left (a.length+Io (fE a))<0
 ·rw [if_pos h1,if_pos h1]
 ·rw [if_neg h1,if_neg h1]
  have b1:0≤Et left (a.length+Io (fE a))∧Et left (a.length+Io (fE a))≤1048576:=by
   rcases HY left (a.length+Io (fE a))with c|⟨c,c'⟩<;>omega
  rw [Ch hb,Ch b1];by_cases h2:Et (Et left (a.length+Io (fE a))) b.length<0
  ·rw [if_pos h2,if_pos h2]
  ·rw [if_neg h2,if_neg h2]
   have b2:0≤Et (Et left (a.length+Io (fE a))) b.length∧Et (Et left (a.length+Io (fE a))) b.length≤1048576:=by
    rcases HY (Et left (a.length+Io (fE a))) b.length with c|⟨c,c'⟩<;>omega
   rw [Ch hc,Ch b2];by_cases h3:Et (Et (Et left (a.length+Io (fE a))) b.length) c.length<0
   ·rw [if_pos h3];rcases HY (Et (Et left (a.length+Io (fE a))) b.length) c.length with d|⟨d,d'⟩
    ·rw [d]
    ·omega
   ·rw [if_neg h3]
theorem Qt(Ay:BN)(Bz:AX)(Az:AX)(left:Int)(h0:Lu Ay)(h1:Bz.length<9223372036854775808)(h2:Az.length<9223372036854775808)(h3:0≤left∧left≤1048576):Y.call 21 [cj [bm 121 (AV (fun x=>bm 159 (BG .i64 .i64 x)) Ay),bm 3 (AV (bk .i64) Bz),bm 3 (AV (bk .i64) Az)],bk .i64 left] []=some (bk .i64 (Ye left Ay Bz Az),[]):=Ny Ay Bz Az left (Qs Ay Bz Az left h0 h1 h2 h3)
theorem jF{a:BN}{b c:AX}{left:Int}(hl:left≤1048576)(h: ¬Ye left a b c<0):a.length+Io (fE a)+b.length+c.length≤1048576∧Cg a∧Ye left a b c≤left:=by
 have ht:=HZ (fE a)
 have key:(a.length:Int)+Io (fE a)+b.length+c.length≤1048576∧Ye left a b c≤left:=by
  unfold Ye at h ⊢;rcases HY left (a.length+Io (fE a))with d|⟨d,d'⟩
  ·rw [d]at h;simp at h
  ·rw [d,if_neg (by omega)]at h
   rw [d,if_neg (by omega)]
   rcases HY (left-(a.length+Io (fE a))) b.length with e|⟨e,e'⟩
   ·rw [e]at h;simp at h
   ·rw [e,if_neg (by omega)]at h
    rw [e,if_neg (by omega)]
    rcases HY (left-(a.length+Io (fE a))-b.length) c.length with g|⟨g,g'⟩
    ·rw [g]at h;simp at h
    ·rw [g];omega
 refine⟨key.1,⟨by omega,fun x hx=> ?_⟩,key.2⟩
 have:x.map Prod.fst∈fE a:=Fp.2 ⟨x,hx,rfl⟩
 have:=il this
 rw [Oa]at this;omega
theorem eu{l:BN}(h:Xk l):Lu l:=⟨Nat.lt_of_le_of_lt h.1 (by decide),fun x hx=>Nat.lt_of_le_of_lt (h.2 x hx).1 (by decide)⟩
def DI(list:AX)(low:Int)(high:Int)(G6:Int):Option ((Int)⊕(Unit⊕Unit)):= if G6<(list.length:Int)then ck (0≤G6∧G6.toNat<list.length)<| if(Eo (list.getD G6.toNat bl) low high)=true then if 0<G6 then ck (0≤ce.wrap (G6-1)∧(ce.wrap (G6-1)).toNat<list.length)<| if(list.getD G6.toNat bl)≤(list.getD ((ce.wrap (G6-1)).toNat) bl)then some (cc (cf ())) else some (cf (ce.wrap (G6+1))) else some (cf (ce.wrap (G6+1))) else some (cc (cf ())) else some (cc (cc ()))
def GQ(list:AX)(low:Int)(high:Int)(v:Int):Option (Unit⊕Unit):=Jf (fun v=>DI list low high v) v
def IB(list:AX)(low:Int)(high:Int):Option (Bool):=
 (GQ list low high 0).bind fun Ap=>
 match Ap with
 | .inl q1000_=>
  some false
 | .inr q1000_=>
  some true
def Qu:SC:= .seq (.ops [oB 12 .lss 3 (tK 11) (tK 10) 3 0]) (.seq (.cond (tK 12) .skip (.exit 0)) (.seq (.block 1 (.seq (.ops [oM 13 11 3,oI 14 26 9 11,oL 15 3 14 3,oA 7 13 3,oA 8 15 3]) (.seq (.ops [oM 16 8 3,oM 17 1 3,oM 18 2 3,oC 19 97 [(tK 16),(tK 17),(tK 18)] [3,3,3] 4,oX 20 (.unOp .not 4 (tK 19)) 4,oM 21 20 4,⟨(some 22),(.move (tK 7)),3,(some (some 21,false))⟩,⟨(some 23),(.binOp .gtr 3 (tK 22) (iK 0) 3),4,(some (some 21,false))⟩,⟨(some 24),(.move (tK 23)),4,(some (some 21,false))⟩,⟨(some 25),(.move (tK 0)),26,(some (some 24,true))⟩,⟨(some 26),(.move (tK 7)),3,(some (some 24,true))⟩,⟨(some 27),(.binOp .sub 3 (tK 26) (iK 1) 3),3,(some (some 24,true))⟩,⟨(some 28),(.indexAddr 26 (tK 25) (tK 27)),0,(some (some 24,true))⟩,⟨(some 29),(.load 3 (tK 28)),3,(some (some 24,true))⟩,⟨(some 30),(.move (tK 8)),3,(some (some 24,true))⟩,⟨(some 31),(.binOp .geq 3 (tK 29) (tK 30) 3),4,(some (some 24,true))⟩,⟨(some 32),(.pick (tK 24) (tK 31) MI),4,(some (some 21,false))⟩,oX 33 (.pick (tK 21) Dz (tK 32)) 4]) (.cond (tK 33) (.seq (.ops [oX 6 BU 4]) .ret) .skip)))) (.ops [oB 34 .add 3 (tK 11) (iK 1) 3 3,oM 11 34 3])))
def Yf:SC:= .loop Qu
def wV:SC:= .seq (.ops [oX 6 BU 4]) (.seq (.seq (.ops [oM 9 0 26,oN 10 9 26,oX 11 (.move (iK 0)) 3]) (.block 0 Yf)) (.seq (.ops [oX 6 (.assign Dz) 4]) .ret))
theorem jG:Try.f153.body.map (Bw lends)=some wV:=by kernel_rfl
theorem A4H:CV Try.f153 3=true:=by kernel_rfl
theorem A93{a l:List D}{r:D×List D}(h:Cb Y.env wV (GX Ad l.length [cg 6] r) (entry a l))(ha:a.length=3):Y.call 153 a l=some r:=
 Ag (Y:=Y) rfl Try.func153 (ha▸A4H) jG h
def Br(list:AX)(low:Int)(high:Int)(G6:Int)(s:St):Prop:=s.v 0=bm 3 (AV (bk .i64) list)∧s.v 1=bk .i64 low∧s.v 2=bk .i64 high∧s.v 9=bm 3 (AV (bk .i64) list)∧s.v 10=bk .i64 (list.length:Int)∧s.v 11=bk .i64 G6
def Bt(list:AX)(low:Int)(high:Int)(r:Unit⊕Unit)(ex:Ex)(s:St):Prop:=match r with
 | .inl q=>ex= .ret∧s.v 6=cd false
 | .inr q=>ex= .exit 0
theorem ML(list:AX)(low:Int)(high:Int){v:Int}{s:St}{r:Unit⊕Unit}(h:GQ list low high v=some r)(hM:Br list low high v s):Cb Y.env Yf (Bt list low high r) s:=by
 unfold GQ at h;refine DK (c:=Qu) (fun v=>DI list low high v) (fun v s=>Br list low high v s) (Bt list low high) ?_ h hM;clear h hM s v r;intro G6 s o hM h;unfold DI at h;unfold Br at hM;obtain⟨m0,m1,m2,m3,m4,m5⟩:=hM;unfold Qu;by_cases e1:G6<(list.length:Int)
 ·rw [if_pos e1]at h;obtain⟨e2,h⟩:=Cq h;have c3:=Ga (list.getD G6.toNat bl) low high;by_cases e4:(Eo (list.getD G6.toNat bl) low high)=true
  ·rw [if_pos e4]at h;by_cases e5:0<G6
   ·rw [if_pos e5]at h;obtain⟨e6,h⟩:=Cq h;by_cases e7:(list.getD G6.toNat bl)≤(list.getD ((ce.wrap (G6-1)).toNat) bl)
    ·rw [if_pos e7]at h
     obtain rfl:=Option.some.inj h
     simp (maxDischargeDepth:=9) only [↓AQ,AR,Au,↓reduceIte,bo,bp,br,bt,bw,bx,bO,b0,b3,b4,b5,b6,b7,b8,b9,ca,cb,m0,m1,m2,m3,m4,m5,e1,e2.1,e2.2,c3,e4,e5,e6.1,e6.2,e7,Br,Bt,EA,EB,EC]<;>(repeat' apply A7)<;>first|rfl|exact⟨_,rfl⟩|exact⟨_,_,rfl⟩|simp [AV,AB]
    ·rw [if_neg e7]at h
     obtain rfl:=Option.some.inj h
     simp (maxDischargeDepth:=9) only [↓AQ,AR,Au,↓reduceIte,bo,bp,br,bt,bw,bx,bO,b0,b3,b4,b5,b6,b7,b8,b9,ca,cb,m0,m1,m2,m3,m4,m5,e1,e2.1,e2.2,c3,e4,e5,e6.1,e6.2,e7,Br,Bt,EA,EB,EC]<;>(repeat' apply A7)<;>first|rfl|exact⟨_,rfl⟩|exact⟨_,_,rfl⟩|simp [AV,AB]
   ·rw [if_neg e5]at h
    obtain rfl:=Option.some.inj h
    simp (maxDischargeDepth:=9) only [↓AQ,AR,Au,↓reduceIte,bo,bp,br,bt,bw,bx,bO,b0,b3,b4,b5,b6,b7,b8,b9,ca,cb,m0,m1,m2,m3,m4,m5,e1,e2.1,e2.2,c3,e4,e5,Br,Bt,EA,EB,EC]<;>(repeat' apply A7)<;>first|rfl|exact⟨_,rfl⟩|exact⟨_,_,rfl⟩|simp [AV,AB]
  ·rw [if_neg e4]at h;have e4f:(Eo (list.getD G6.toNat bl) low high)=false:=Gw.mpr e4
   obtain rfl:=Option.some.inj h
   simp (maxDischargeDepth:=9) only [↓AQ,AR,Au,↓reduceIte,bo,bp,br,bt,bw,bx,bO,b0,b3,b4,b5,b6,b7,b8,b9,ca,cb,m0,m1,m2,m3,m4,m5,e1,e2.1,e2.2,c3,e4f,Br,Bt,EA,EB,EC]<;>(repeat' apply A7)<;>first|rfl|exact⟨_,rfl⟩|exact⟨_,_,rfl⟩|simp [AV,AB]
 ·rw [if_neg e1]at h
  obtain rfl:=Option.some.inj h
  simp (maxDischargeDepth:=9) only [↓AQ,AR,Au,↓reduceIte,bo,bp,br,bt,bw,bx,bO,b0,b3,b4,b5,b6,b7,b8,b9,ca,cb,m0,m1,m2,m3,m4,m5,e1,Br,Bt,EA,EB,EC]<;>(repeat' apply A7)<;>first|rfl|exact⟨_,rfl⟩|exact⟨_,_,rfl⟩|simp [AV,AB]
theorem NI(list:AX)(low:Int)(high:Int){r:Bool}(h:IB list low high=some r):Y.call 153 [bm 3 (AV (bk .i64) list),bk .i64 low,bk .i64 high] []=some (cd r,[]):=by
 refine A93 ?_ rfl;unfold wV;unfold IB at h;obtain⟨Ap,hl2,h⟩:=BS h;try dsimp only at h
 simp (maxDischargeDepth:=9) only [↓AQ,AR,Au,↓reduceIte,bo,bp,br,bt,bw,bx,bO,b0,b3,b4,b5,b6,b7,b8,b9,ca,cb];refine CQ (ML list low high hl2 ?_) ?_
 ·simp (maxDischargeDepth:=9) only [↓AQ,AR,Au,↓reduceIte,bo,bp,br,bt,bw,bx,bO,b0,b3,b4,b5,b6,b7,b8,b9,ca,cb,Br]<;>(repeat' apply A7)<;>first|rfl|exact⟨_,rfl⟩|exact⟨_,_,rfl⟩|simp [AV,AB]
 ·intro ex2 s2 hX2;rcases Ap with q1000_|q1000_
  ·unfold Bt at hX2;dsimp only at hX2 h;obtain⟨rfl,n2_0⟩:=hX2
   obtain rfl:=Option.some.inj h
   simp (maxDischargeDepth:=9) only [↓AQ,AR,Au,↓reduceIte,bo,bp,br,bt,bw,bx,bO,b0,b3,b4,b5,b6,b7,b8,b9,ca,cb,n2_0]<;>(repeat' apply A7)<;>first|rfl|exact⟨_,rfl⟩|exact⟨_,_,rfl⟩|simp [AV,AB]
  ·unfold Bt at hX2;dsimp only at hX2 h
   obtain rfl:=hX2
   obtain rfl:=Option.some.inj h
   simp (maxDischargeDepth:=9) only [↓AQ,AR,Au,↓reduceIte,bo,bp,br,bt,bw,bx,bO,b0,b3,b4,b5,b6,b7,b8,b9,ca,cb]<;>(repeat' apply A7)<;>first|rfl|exact⟨_,rfl⟩|exact⟨_,_,rfl⟩|simp [AV,AB]
def Qv(l:AX)(lo hi:Int):Bool:=(an l.length).all fun i=>Eo (l.getD i bl) lo hi&&(decide (i=0)||decide (l.getD (i-1) bl<l.getD i bl))
theorem Ov(l:AX)(lo hi:Int)(h:l.length<1099511627776):IB l lo hi=some (Qv l lo hi):=by
 have key:=EO (fun v=>DI l lo hi v) (fun i=>(i:Int)) l.length (fun i=>Eo (l.getD i bl) lo hi&&(decide (i=0)||decide (l.getD (i-1) bl<l.getD i bl))) (.inl ()) (.inr ()) ?_ ?_
 ·rw [Lc]at key;unfold IB GQ Qv;rw [key]
  cases (an l.length).all fun i=>Eo (l.getD i bl) lo hi&&(decide (i=0)||decide (l.getD (i-1) bl<l.getD i bl))<;>rfl
 ·intro i hi';simp only [DI,Fj];rw [if_pos (D8 hi'),Ch (by omega),Nr i (by omega)]
  cases hr:Eo (l.getD i bl) lo hi with
  |false=>simp
  |true=>
   by_cases h0:i=0
   ·subst h0;rw [if_pos rfl,if_neg (by omega)]
    simp
   ·rw [if_pos rfl,if_pos (by omega),Oj _ (by omega),Ch (by omega),show((i:Int)-1).toNat=i-1 by omega,decide_eq_false h0]
    by_cases hlt:l.getD (i-1) bl<l.getD i bl
    ·rw [if_neg (by omega),decide_eq_true hlt];rfl
    ·rw [if_pos (by omega),decide_eq_false hlt];rfl
 ·simp only [DI];rw [if_neg (BK _)]
theorem Ow(list:AX)(low:Int)(high:Int)(h0:list.length<1099511627776):Y.call 153 [bm 3 (AV (bk .i64) list),bk .i64 low,bk .i64 high] []=some (cd (Qv list low high),[]):=NI list low high (Ov list low high h0)
theorem Xz{l:AX}{lo hi:Int}(h:Qv l lo hi=true):l.Pairwise (fun a b=>a<b)∧ ∀x∈l,Eo x lo hi=true:=by
 have h0:=CB.1 h
 have step: ∀i,i+1<l.length→l.getD i bl<l.getD (i+1) bl:=fun i hi=>by
  have:=h0 (i+1) hi
  rw [ED]at this;simpa using this.2
 have YL: ∀(d i:Nat),i+d+1<l.length→l.getD i bl<l.getD (i+d+1) bl:=by
  intro d
  induction d with
  |zero=>intro i hi;exact step i hi
  |succ d ih=>
   intro i hi;have h1:=ih i (by omega)
   have h2:=step (i+d+1) (by omega)
   rw [show i+(d+1)+1=i+d+1+1 by omega]
   omega
 refine⟨co.2 fun i j hi hj hij=> ?_,fun x hx=> ?_⟩
 ·have:=YL (j-i-1) i (by omega)
  rw [show i+(j-i-1)+1=j by omega,BL _ _ hi,BL _ _ hj]at this
  exact this
 ·obtain⟨i,hi,rfl⟩:=Ul hx;have:=h0 i hi
  rw [ED,BL _ _ hi]at this;exact this.1
theorem fA{l:AX}{lo hi:Int}(h1:l.Pairwise (fun a b=>a<b))(h2: ∀x∈l,Eo x lo hi=true):Qv l lo hi=true:=by
 refine CB.2 fun i hi=> ?_;rw [ED]
 refine⟨by rw [BL _ _ hi];exact h2 _ (KO hi), ?_⟩
 by_cases h0:i=0
 ·rw [decide_eq_true h0];rfl
 ·have:=co.1 h1 (i-1) i (by omega) hi (by omega)
  rw [M3]
  right
  rw [decide_eq_true_eq,BL _ _ hi,BL _ _ (by omega:i-1<l.length)]
  exact this
def MM(ids:AX)(n:Int):Bool:=decide (ids.length=0)||(decide ((ids.length:Int)=n)&&(decide ids.Nodup&&Gc ids 1 999999))
theorem Y1(ids:AX)(lo hi:Int):Qv (OX ids) lo hi=(decide ids.Nodup&&Gc ids lo hi):=by
 rw [cm,ED,decide_eq_true_eq];have hp:=MK ids;unfold Gc;rw [I6]
 constructor
 ·intro h;obtain⟨h1,h2⟩:=Xz h
  refine⟨hp.nodup_iff.1 (h1.imp fun h=>by omega),fun x hx=>h2 x (hp.mem_iff.2 hx)⟩
 ·rintro⟨h1,h2⟩
  refine fA ?_ fun x hx=>h2 x (hp.mem_iff.1 hx);have hn:(OX ids).Pairwise (fun a b=>a≠b):=hp.nodup_iff.2 h1
  exact((Qi ids).and hn).imp fun h=>by omega
theorem Ih(xs:AX)(h:xs.length<1099511627776):Y.call 121 [.sl 3 (AV (bk .i64) xs)] []=some (.own 3 (AV (bk .i64) xs),[]):=by
 refine Zy (AV (bk .i64) xs) (by rw [HV];exact h) (TB _ _ (fun x=>rfl)) (ME _ _ (fun x=>by first|exact hoI .. |exact zf .. |exact hoB .. |exact hoS ..)) ?_
 simp (maxDischargeDepth:=9) only [↓AQ,AR,Au,↓reduceIte,bo,bp,br,bt,bw,bx,bO,b0,b3,b4,b5,b6,b7,b8,b9,ca,cb,Option.isSome_some]
def PM(ids:AX)(nodes:Int):Option (Bool):= if(ids.length:Int)=0 then some true else ck (ids.length<1099511627776)<| ck (ids.length<4611686018427387904)<| if(ids.length:Int)=nodes then ck ((GZ ids).length<1099511627776)<| some (Qv (GZ ids) (1:Int) (999999:Int)) else some false
def wW:SC:= .seq (.ops [oX 4 BU 4]) (.seq (.seq (.ops [oM 6 0 26,oN 7 6 26,oB 8 .eql 3 (tK 7) (iK 0) 3 4]) (.cond (tK 8) (.seq (.ops [oX 4 (.assign Dz) 4]) .ret) .skip)) (.seq (.ops [oM 9 0 26,oC 10 121 [(tK 9)] [26] 26,oA 5 10 26]) (.seq (.ops [oM 11 5 26,oC 12 152 [(tK 11)] [26] 0]) (.seq (.ops [oM 13 0 26,oN 14 13 26,oM 15 1 3,oB 16 .eql 3 (tK 14) (tK 15) 3 4,oM 17 16 4,⟨(some 18),(.move (tK 5)),26,(some (some 17,true))⟩,⟨(some 19),(.call ⟨(.value (.func 153)), #[(tK 18),(iK 1),(iK 999999)], #[26,3,3]⟩),4,(some (some 17,true))⟩,oX 20 (.pick (tK 17) (tK 19) MI) 4,oA 4 20 4]) .ret))))
theorem jH:Try.f112.body.map (Bw lends)=some wW:=by kernel_rfl
theorem A4I:CV Try.f112 2=true:=by kernel_rfl
theorem A94{a l:List D}{r:D×List D}(h:Cb Y.env wW (GX Ad l.length [cg 4] r) (entry a l))(ha:a.length=2):Y.call 112 a l=some r:=
 Ag (Y:=Y) rfl Try.func112 (ha▸A4I) jH h
theorem UU(ids:AX)(nodes:Int){r:Bool}(h:PM ids nodes=some r):Y.call 112 [bm 3 (AV (bk .i64) ids),bk .i64 nodes] []=some (cd r,[]):=by
 refine A94 ?_ rfl;unfold wW;unfold PM at h;by_cases e1:(ids.length:Int)=0
 ·rw [if_pos e1]at h
  obtain rfl:=Option.some.inj h
  simp (maxDischargeDepth:=9) only [↓AQ,AR,Au,↓reduceIte,bo,bp,br,bt,bw,bx,bO,b0,b3,b4,b5,b6,b7,b8,b9,ca,cb,decide_eq_true e1]<;>(repeat' apply A7)<;>first|rfl|exact⟨_,rfl⟩|exact⟨_,_,rfl⟩|simp [AV,AB]
 ·rw [if_neg e1]at h;obtain⟨e2,h⟩:=Cq h;have c3:=Ih ids e2;obtain⟨e4,h⟩:=Cq h;have c5:=eP ids e4;by_cases e6:(ids.length:Int)=nodes
  ·rw [if_pos e6]at h;obtain⟨e7,h⟩:=Cq h;have c8:=Ow (GZ ids) (1:Int) (999999:Int) e7
   obtain rfl:=Option.some.inj h
   simp (maxDischargeDepth:=9) only [↓AQ,AR,Au,↓reduceIte,bo,bp,br,bt,bw,bx,bO,b0,b3,b4,b5,b6,b7,b8,b9,ca,cb,e1,e2,c3,e4,c5,decide_eq_true e6,e7,c8]<;>(repeat' apply A7)<;>first|rfl|exact⟨_,rfl⟩|exact⟨_,_,rfl⟩|simp [AV,AB]
  ·rw [if_neg e6]at h
   obtain rfl:=Option.some.inj h
   simp (maxDischargeDepth:=9) only [↓AQ,AR,Au,↓reduceIte,bo,bp,br,bt,bw,bx,bO,b0,b3,b4,b5,b6,b7,b8,b9,ca,cb,e1,e2,c3,e4,c5,e6]<;>(repeat' apply A7)<;>first|rfl|exact⟨_,rfl⟩|exact⟨_,_,rfl⟩|simp [AV,AB]
def G8(ids:AX)(nodes:Int)(LW:Int):Option ((Int)⊕(Unit⊕Unit)):= if LW<(ids.length:Int)then ck (0≤LW∧LW.toNat<ids.length)<| if(Eo (ids.getD LW.toNat bl) (1:Int) (999999:Int))=true then ck (0≤LW)<| ck (LW.toNat≤ids.length)<| ck (((ids.take LW.toNat).drop 0).length<1099511627776)<| if(((ids.take LW.toNat).drop 0).contains (ids.getD LW.toNat bl))=true then some (cc (cf ())) else some (cf (ce.wrap (LW+1))) else some (cc (cf ())) else some (cc (cc ()))
def Jz(ids:AX)(nodes:Int)(v:Int):Option (Unit⊕Unit):=Jf (fun v=>G8 ids nodes v) v
def PN(ids:AX)(nodes:Int):Option (Bool):=
 (Jz ids nodes 0).bind fun Ap=>
 match Ap with
 | .inl q1000_=>
  some false
 | .inr q1000_=>
  if(ids.length:Int)=0 then
   some true
  else
   some (decide ((ids.length:Int)=nodes))
def Qw:SC:= .seq (.ops [oB 10 .lss 3 (tK 9) (tK 8) 3 0]) (.seq (.cond (tK 10) .skip (.exit 0)) (.seq (.block 1 (.seq (.ops [oM 11 9 3,oI 12 26 7 9,oL 13 3 12 3,oA 5 11 3,oA 6 13 3]) (.seq (.ops [oM 14 6 3,oC 15 92 [(tK 14),(iK 1),(iK 999999)] [3,3,3] 4,oX 16 (.unOp .not 4 (tK 15)) 4,oM 17 16 4,⟨(some 18),(.move (tK 0)),26,(some (some 17,false))⟩,⟨(some 19),(.move (tK 5)),3,(some (some 17,false))⟩,⟨(some 20),(.slice 26 (tK 18) none (some (tK 19)) none),900001,(some (some 17,false))⟩,⟨(some 21),(.move (tK 6)),3,(some (some 17,false))⟩,⟨(some 22),(.call ⟨(.value (.func 89)), #[(tK 20),(tK 21)], #[26,3]⟩),4,(some (some 17,false))⟩,oX 23 (.pick (tK 17) Dz (tK 22)) 4]) (.cond (tK 23) (.seq (.ops [oX 4 BU 4]) .ret) .skip)))) (.ops [oB 24 .add 3 (tK 9) (iK 1) 3 3,oM 9 24 3])))
def Yg:SC:= .loop Qw
def wX:SC:= .seq (.ops [oX 4 BU 4]) (.seq (.seq (.ops [oM 7 0 26,oN 8 7 26,oX 9 (.move (iK 0)) 3]) (.block 0 Yg)) (.seq (.ops [oM 25 0 26,oN 26 25 26,oB 27 .eql 3 (tK 26) (iK 0) 3 4,oM 28 27 4,⟨(some 29),(.move (tK 0)),26,(some (some 28,false))⟩,⟨(some 30),(.call ⟨(.builtin .len), #[(tK 29)], #[26]⟩),3,(some (some 28,false))⟩,⟨(some 31),(.move (tK 1)),3,(some (some 28,false))⟩,⟨(some 32),(.binOp .eql 3 (tK 30) (tK 31) 3),4,(some (some 28,false))⟩,oX 33 (.pick (tK 28) Dz (tK 32)) 4,oA 4 33 4]) .ret))
theorem jI:Try.f106.body.map (Bw lends)=some wX:=by kernel_rfl
theorem A4J:CV Try.f106 2=true:=by kernel_rfl
theorem A95{a l:List D}{r:D×List D}(h:Cb Y.env wX (GX Ad l.length [cg 4] r) (entry a l))(ha:a.length=2):Y.call 106 a l=some r:=
 Ag (Y:=Y) rfl Try.func106 (ha▸A4J) jI h
def E5(ids:AX)(nodes:Int)(LW:Int)(s:St):Prop:=s.v 0=bm 3 (AV (bk .i64) ids)∧s.v 1=bk .i64 nodes∧s.v 7=bm 3 (AV (bk .i64) ids)∧s.v 8=bk .i64 (ids.length:Int)∧s.v 9=bk .i64 LW
def E8(ids:AX)(nodes:Int)(r:Unit⊕Unit)(ex:Ex)(s:St):Prop:=match r with
 | .inl q=>ex= .ret∧s.v 4=cd false
 | .inr q=>ex= .exit 0∧s.v 0=bm 3 (AV (bk .i64) ids)∧s.v 1=bk .i64 nodes
theorem SF(ids:AX)(nodes:Int){v:Int}{s:St}{r:Unit⊕Unit}(h:Jz ids nodes v=some r)(hM:E5 ids nodes v s):Cb Y.env Yg (E8 ids nodes r) s:=by
 unfold Jz at h;refine DK (c:=Qw) (fun v=>G8 ids nodes v) (fun v s=>E5 ids nodes v s) (E8 ids nodes) ?_ h hM;clear h hM s v r;intro LW s o hM h;unfold G8 at h;unfold E5 at hM;obtain⟨m0,m1,m2,m3,m4⟩:=hM;unfold Qw;by_cases e1:LW<(ids.length:Int)
 ·rw [if_pos e1]at h;obtain⟨e2,h⟩:=Cq h;have c3:=Gb (ids.getD LW.toNat bl) (1:Int) (999999:Int);by_cases e4:(Eo (ids.getD LW.toNat bl) (1:Int) (999999:Int))=true
  ·rw [if_pos e4]at h;obtain⟨e5,h⟩:=Cq h;obtain⟨e6,h⟩:=Cq h;obtain⟨e7,h⟩:=Cq h;have c8:=Jy ((ids.take LW.toNat).drop 0) (ids.getD LW.toNat bl) e7;by_cases e9:(((ids.take LW.toNat).drop 0).contains (ids.getD LW.toNat bl))=true
   ·rw [if_pos e9]at h
    obtain rfl:=Option.some.inj h
    simp (maxDischargeDepth:=9) only [↓AQ,AR,Au,↓reduceIte,bo,bp,br,bt,bw,bx,bO,b0,b3,b4,b5,b6,b7,b8,b9,ca,cb,m0,m1,m2,m3,m4,e1,e2.1,e2.2,c3,e4,e5,e6,e7,c8,e9,E5,E8,EA,EB,EC]<;>(repeat' apply A7)<;>first|rfl|exact⟨_,rfl⟩|exact⟨_,_,rfl⟩|simp [AV,AB]
   ·rw [if_neg e9]at h;have e9f:(((ids.take LW.toNat).drop 0).contains (ids.getD LW.toNat bl))=false:=Gw.mpr e9
    obtain rfl:=Option.some.inj h
    simp (maxDischargeDepth:=9) only [↓AQ,AR,Au,↓reduceIte,bo,bp,br,bt,bw,bx,bO,b0,b3,b4,b5,b6,b7,b8,b9,ca,cb,m0,m1,m2,m3,m4,e1,e2.1,e2.2,c3,e4,e5,e6,e7,c8,e9f,E5,E8,EA,EB,EC]<;>(repeat' apply A7)<;>first|rfl|exact⟨_,rfl⟩|exact⟨_,_,rfl⟩|simp [AV,AB]
  ·rw [if_neg e4]at h;have e4f:(Eo (ids.getD LW.toNat bl) (1:Int) (999999:Int))=false:=Gw.mpr e4
   obtain rfl:=Option.some.inj h
   simp (maxDischargeDepth:=9) only [↓AQ,AR,Au,↓reduceIte,bo,bp,br,bt,bw,bx,bO,b0,b3,b4,b5,b6,b7,b8,b9,ca,cb,m0,m1,m2,m3,m4,e1,e2.1,e2.2,c3,e4f,E5,E8,EA,EB,EC]<;>(repeat' apply A7)<;>first|rfl|exact⟨_,rfl⟩|exact⟨_,_,rfl⟩|simp [AV,AB]
 ·rw [if_neg e1]at h
  obtain rfl:=Option.some.inj h
  simp (maxDischargeDepth:=9) only [↓AQ,AR,Au,↓reduceIte,bo,bp,br,bt,bw,bx,bO,b0,b3,b4,b5,b6,b7,b8,b9,ca,cb,m0,m1,m2,m3,m4,e1,E5,E8,EA,EB,EC]<;>(repeat' apply A7)<;>first|rfl|exact⟨_,rfl⟩|exact⟨_,_,rfl⟩|simp [AV,AB]
theorem UV(ids:AX)(nodes:Int){r:Bool}(h:PN ids nodes=some r):Y.call 106 [bm 3 (AV (bk .i64) ids),bk .i64 nodes] []=some (cd r,[]):=by
 refine A95 ?_ rfl;unfold wX;unfold PN at h;obtain⟨Ap,hl2,h⟩:=BS h;try dsimp only at h
 simp (maxDischargeDepth:=9) only [↓AQ,AR,Au,↓reduceIte,bo,bp,br,bt,bw,bx,bO,b0,b3,b4,b5,b6,b7,b8,b9,ca,cb];refine CQ (SF ids nodes hl2 ?_) ?_
 ·simp (maxDischargeDepth:=9) only [↓AQ,AR,Au,↓reduceIte,bo,bp,br,bt,bw,bx,bO,b0,b3,b4,b5,b6,b7,b8,b9,ca,cb,E5]<;>(repeat' apply A7)<;>first|rfl|exact⟨_,rfl⟩|exact⟨_,_,rfl⟩|simp [AV,AB]
 ·intro ex2 s2 hX2;rcases Ap with q1000_|q1000_
  ·unfold E8 at hX2;dsimp only at hX2 h;obtain⟨rfl,n2_0⟩:=hX2
   obtain rfl:=Option.some.inj h
   simp (maxDischargeDepth:=9) only [↓AQ,AR,Au,↓reduceIte,bo,bp,br,bt,bw,bx,bO,b0,b3,b4,b5,b6,b7,b8,b9,ca,cb,n2_0]<;>(repeat' apply A7)<;>first|rfl|exact⟨_,rfl⟩|exact⟨_,_,rfl⟩|simp [AV,AB]
  ·unfold E8 at hX2;dsimp only at hX2 h;obtain⟨rfl,n2_0,n2_1⟩:=hX2;by_cases e3:(ids.length:Int)=0
   ·rw [if_pos e3]at h
    obtain rfl:=Option.some.inj h
    simp (maxDischargeDepth:=9) only [↓AQ,AR,Au,↓reduceIte,bo,bp,br,bt,bw,bx,bO,b0,b3,b4,b5,b6,b7,b8,b9,ca,cb,n2_0,n2_1,decide_eq_true e3]<;>(repeat' apply A7)<;>first|rfl|exact⟨_,rfl⟩|exact⟨_,_,rfl⟩|simp [AV,AB]
   ·rw [if_neg e3]at h
    obtain rfl:=Option.some.inj h
    simp (maxDischargeDepth:=9) only [↓AQ,AR,Au,↓reduceIte,bo,bp,br,bt,bw,bx,bO,b0,b3,b4,b5,b6,b7,b8,b9,ca,cb,n2_0,n2_1,e3]<;>(repeat' apply A7)<;>first|rfl|exact⟨_,rfl⟩|exact⟨_,_,rfl⟩|simp [AV,AB]
theorem Y2(ids:AX)(n:Int)(h:ids.length<1099511627776):PM ids n=some (MM ids n):=by
 unfold PM MM;by_cases h0:ids.length=0
 ·rw [if_pos (by omega),decide_eq_true h0];rfl
 ·rw [if_neg (by omega),Ch h,Ch (by omega),decide_eq_false h0,Bool.false_or]
  by_cases h1:(ids.length:Int)=n
  ·rw [if_pos h1,eX,Ch (by rw [aB];exact h),Y1,decide_eq_true h1];rfl
  ·rw [if_neg h1,decide_eq_false h1];rfl
theorem aD(ids:AX):(an ids.length).all (fun i=>Eo (ids.getD i bl) 1 999999&& !(ids.take i).contains (ids.getD i bl))=(decide ids.Nodup&&Gc ids 1 999999):=by
 rw [cm,CB,ED,decide_eq_true_eq];unfold Gc;rw [I6]
 constructor
 ·intro h
  refine⟨co.2 fun i j hi hj hij he=> ?_,fun x hx=> ?_⟩
  ·have:=h j hj
   rw [ED,Ik,←Bool.not_eq_true,TK,BL _ _ hj]at this;refine this.2 ?_;rw [←he];exact List.mem_take_iff_getElem.2 ⟨i,by omega,rfl⟩
  ·obtain⟨i,hi,rfl⟩:=Ul hx;have:=h i hi
   rw [ED,BL _ _ hi]at this;exact this.1
 ·rintro⟨h1,h2⟩ i hi
  rw [ED,Ik,←Bool.not_eq_true,TK,BL _ _ hi]
  refine⟨h2 _ (KO hi),fun hm=> ?_⟩
  obtain⟨j,hj,he⟩:=List.mem_take_iff_getElem.1 hm;exact co.1 h1 j i (by omega) hi (by omega) he
theorem Y3(ids:AX)(n:Int)(h:ids.length<1099511627776):PN ids n=some (MM ids n):=by
 have key:=EO (fun v=>G8 ids n v) (fun i=>(i:Int)) ids.length (fun i=>Eo (ids.getD i bl) 1 999999&& !(ids.take i).contains (ids.getD i bl)) (.inl ()) (.inr ()) ?_ ?_
 ·rw [Lc,aD]at key;unfold PN Jz MM;rw [key,EM];by_cases h0:ids.length=0
  ·have:ids=[]:=aO h0
   subst this;simp [Gc]
  ·rw [decide_eq_false h0,Bool.false_or]
   cases decide ids.Nodup&&Gc ids 1 999999 with
   |false=>rw [Bool.and_false];rfl
   |true=>rw [PT,if_pos rfl];simp only;rw [if_neg (by omega)]
 ·intro i hi;simp only [G8,Fj,List.drop_zero];rw [if_pos (D8 hi),Ch (by omega),Ch (by omega),Ch (by omega),Ch (by rw [KP];omega),Nr i (by omega)]
  cases Eo (ids.getD i bl) 1 999999<;>cases (ids.take i).contains (ids.getD i bl)<;>rfl
 ·simp only [G8];rw [if_neg (BK _)]
theorem Y4(ids:AX)(nodes:Int)(h0:ids.length<1099511627776):Y.call 112 [bm 3 (AV (bk .i64) ids),bk .i64 nodes] []=some (cd (MM ids nodes),[]):=UU ids nodes (Y2 ids nodes h0)
theorem Y5(ids:AX)(nodes:Int)(h0:ids.length<1099511627776):Y.call 106 [bm 3 (AV (bk .i64) ids),bk .i64 nodes] []=some (cd (MM ids nodes),[]):=UV ids nodes (Y3 ids nodes h0)
def K3(inputs:AX)(nodes:Int):Option (Bool):= if(inputs.length:Int)=nodes then ck (inputs.length<1099511627776)<| some (Gc inputs (0:Int) (9:Int)) else some false
def wY:SC:= .seq (.ops [oX 4 BU 4]) (.seq (.ops [oM 5 0 26,oN 6 5 26,oM 7 1 3,oB 8 .eql 3 (tK 6) (tK 7) 3 4,oM 9 8 4,⟨(some 10),(.move (tK 0)),26,(some (some 9,true))⟩,⟨(some 11),(.call ⟨(.value (.func 144)), #[(tK 10),(iK 0),(iK 9)], #[26,3,3]⟩),4,(some (some 9,true))⟩,oX 12 (.pick (tK 9) (tK 11) MI) 4,oA 4 12 4]) .ret)
theorem jJ:Try.f113.body.map (Bw lends)=some wY:=by kernel_rfl
theorem A4K:CV Try.f113 2=true:=by kernel_rfl
theorem A96{a l:List D}{r:D×List D}(h:Cb Y.env wY (GX Ad l.length [cg 4] r) (entry a l))(ha:a.length=2):Y.call 113 a l=some r:=
 Ag (Y:=Y) rfl Try.func113 (ha▸A4K) jJ h
theorem Ox(inputs:AX)(nodes:Int){r:Bool}(h:K3 inputs nodes=some r):Y.call 113 [bm 3 (AV (bk .i64) inputs),bk .i64 nodes] []=some (cd r,[]):=by
 refine A96 ?_ rfl;unfold wY;unfold K3 at h;by_cases e1:(inputs.length:Int)=nodes
 ·rw [if_pos e1]at h;obtain⟨e2,h⟩:=Cq h;have c3:=Qh inputs (0:Int) (9:Int) e2
  obtain rfl:=Option.some.inj h
  simp (maxDischargeDepth:=9) only [↓AQ,AR,Au,↓reduceIte,bo,bp,br,bt,bw,bx,bO,b0,b3,b4,b5,b6,b7,b8,b9,ca,cb,decide_eq_true e1,e2,c3]<;>(repeat' apply A7)<;>first|rfl|exact⟨_,rfl⟩|exact⟨_,_,rfl⟩|simp [AV,AB]
 ·rw [if_neg e1]at h
  obtain rfl:=Option.some.inj h
  simp (maxDischargeDepth:=9) only [↓AQ,AR,Au,↓reduceIte,bo,bp,br,bt,bw,bx,bO,b0,b3,b4,b5,b6,b7,b8,b9,ca,cb,e1]<;>(repeat' apply A7)<;>first|rfl|exact⟨_,rfl⟩|exact⟨_,_,rfl⟩|simp [AV,AB]
def CL(Af:BN)(BD:AX)(AY:AX)(v_:Int):Option (Bool):= some (Eo v_ (0:Int) (ce.wrap ((Af.length:Int)-1)))
def wZ:SC:= .seq (.ops [oX 2 (.box 47 (tK 0)) 0,oX 4 BU 4]) (.seq (.ops [oM 5 1 3,oF 6 47 2 0,oL 7 45 6 45,oN 8 7 45,oB 9 .sub 3 (tK 8) (iK 1) 3 3,oC 10 97 [(tK 5),(iK 0),(tK 9)] [3,3,3] 4,oA 4 10 4]) .ret)
theorem jK:Try.f130.body.map (Bw lends)=some wZ:=by kernel_rfl
theorem A4L:CV Try.f130 2=true:=by kernel_rfl
theorem A97{a l:List D}{r:D×List D}(h:Cb Y.env wZ (GX Ad l.length [cg 4] r) (entry a l))(ha:a.length=2):Y.call 130 a l=some r:=
 Ag (Y:=Y) rfl Try.func130 (ha▸A4L) jK h
theorem En(Af:BN)(BD:AX)(AY:AX)(v_:Int){r:Bool}(h:CL Af BD AY v_=some r):Y.call 130 [cj [bm 123 (AV (fun x=>bm 125 (BG .i64 .i64 x)) Af),bm 3 (AV (bk .i64) BD),bm 3 (AV (bk .i64) AY)],bk .i64 v_] []=some (cd r,[]):=by
 refine A97 ?_ rfl;unfold wZ;unfold CL at h;have c1:=Ga v_ (0:Int) (ce.wrap ((Af.length:Int)-1))
 obtain rfl:=Option.some.inj h
 simp (maxDischargeDepth:=9) only [↓AQ,AR,Au,↓reduceIte,bo,bp,br,bt,bw,bx,bO,b0,b3,b4,b5,b6,b7,b8,b9,ca,cb,c1]<;>(repeat' apply A7)<;>first|rfl|exact⟨_,rfl⟩|exact⟨_,_,rfl⟩|simp [AV,AB]
def FJ(Af:BN)(BD:AX)(AY:AX)(v_:Int)(i:Int):Option (Bool):= (CL Af BD AY v_).bind fun wG=> if wG=true then ck (0≤v_∧v_.toNat<Af.length)<| some (Eo i (0:Int) (ce.wrap (((Af.getD v_.toNat bl).length:Int)-1))) else some false
def wh:SC:= .seq (.ops [oX 3 (.box 47 (tK 0)) 0,oX 6 BU 4]) (.seq (.ops [oL 7 47 3 47,oM 8 1 3,oC 9 130 [(tK 7),(tK 8)] [47,3] 4,oM 10 9 4,⟨(some 11),(.move (tK 2)),3,(some (some 10,true))⟩,⟨(some 12),(.fieldAddr 47 (tK 3) 0),0,(some (some 10,true))⟩,⟨(some 13),(.load 45 (tK 12)),45,(some (some 10,true))⟩,⟨(some 14),(.move (tK 1)),3,(some (some 10,true))⟩,⟨(some 15),(.indexAddr 45 (tK 13) (tK 14)),0,(some (some 10,true))⟩,⟨(some 16),(.load 123 (tK 15)),123,(some (some 10,true))⟩,⟨(some 17),(.call ⟨(.builtin .len), #[(tK 16)], #[123]⟩),3,(some (some 10,true))⟩,⟨(some 18),(.binOp .sub 3 (tK 17) (iK 1) 3),3,(some (some 10,true))⟩,⟨(some 19),(.call ⟨(.value (.func 97)), #[(tK 11),(iK 0),(tK 18)], #[3,3,3]⟩),4,(some (some 10,true))⟩,oX 20 (.pick (tK 10) (tK 19) MI) 4,oA 6 20 4]) .ret)
theorem jL:Try.f114.body.map (Bw lends)=some wh:=by kernel_rfl
theorem A4M:CV Try.f114 3=true:=by kernel_rfl
theorem A98{a l:List D}{r:D×List D}(h:Cb Y.env wh (GX Ad l.length [cg 6] r) (entry a l))(ha:a.length=3):Y.call 114 a l=some r:=
 Ag (Y:=Y) rfl Try.func114 (ha▸A4M) jL h
theorem K4(Af:BN)(BD:AX)(AY:AX)(v_:Int)(i:Int){r:Bool}(h:FJ Af BD AY v_ i=some r):Y.call 114 [cj [bm 123 (AV (fun x=>bm 125 (BG .i64 .i64 x)) Af),bm 3 (AV (bk .i64) BD),bm 3 (AV (bk .i64) AY)],bk .i64 v_,bk .i64 i] []=some (cd r,[]):=by
 refine A98 ?_ rfl;unfold wh;unfold FJ at h;obtain⟨wG,hl1,h⟩:=BS h;try dsimp only at h
 have c1:=En Af BD AY v_ hl1;by_cases e2:wG=true
 ·rw [if_pos e2]at h;obtain⟨e3,h⟩:=Cq h;have c4:=Ga i (0:Int) (ce.wrap (((Af.getD v_.toNat bl).length:Int)-1))
  obtain rfl:=Option.some.inj h
  simp (maxDischargeDepth:=9) only [↓AQ,AR,Au,↓reduceIte,bo,bp,br,bt,bw,bx,bO,b0,b3,b4,b5,b6,b7,b8,b9,ca,cb,c1,e2,e3.1,e3.2,c4]<;>(repeat' apply A7)<;>first|rfl|exact⟨_,rfl⟩|exact⟨_,_,rfl⟩|simp [AV,AB]
 ·rw [if_neg e2]at h;have e2f:wG=false:=Gw.mpr e2
  obtain rfl:=Option.some.inj h
  simp (maxDischargeDepth:=9) only [↓AQ,AR,Au,↓reduceIte,bo,bp,br,bt,bw,bx,bO,b0,b3,b4,b5,b6,b7,b8,b9,ca,cb,c1,e2f]<;>(repeat' apply A7)<;>first|rfl|exact⟨_,rfl⟩|exact⟨_,_,rfl⟩|simp [AV,AB]
def Dh(AA:BN)(AL:AX)(AC:AX)(Ct:Int)(GK:Int):Option ((Int)⊕(Unit⊕Unit)):= if GK<((AA.getD Ct.toNat bl).length:Int)then ck (0≤GK∧GK.toNat<(AA.getD Ct.toNat bl).length)<| (FJ AA AL AC (BJ (AA.getD Ct.toNat bl) GK.toNat) (Bo (AA.getD Ct.toNat bl) GK.toNat)).bind fun jM=> if jM=true then ck (0≤(BJ (AA.getD Ct.toNat bl) GK.toNat)∧(BJ (AA.getD Ct.toNat bl) GK.toNat).toNat<AA.length)<| ck (0≤(Bo (AA.getD Ct.toNat bl) GK.toNat)∧(Bo (AA.getD Ct.toNat bl) GK.toNat).toNat<(AA.getD ((BJ (AA.getD Ct.toNat bl) GK.toNat).toNat) bl).length)<| if(((BJ (AA.getD ((BJ (AA.getD Ct.toNat bl) GK.toNat).toNat) bl) ((Bo (AA.getD Ct.toNat bl) GK.toNat).toNat))==Ct)&&((Bo (AA.getD ((BJ (AA.getD Ct.toNat bl) GK.toNat).toNat) bl) ((Bo (AA.getD Ct.toNat bl) GK.toNat).toNat))==GK))=true then some (cf (ce.wrap (GK+1))) else some (cc (cf ())) else some (cc (cf ())) else some (cc (cc ()))
def FW(AA:BN)(AL:AX)(AC:AX)(Ct:Int)(v:Int):Option (Unit⊕Unit):=Jf (fun v=>Dh AA AL AC Ct v) v
def Di(AA:BN)(AL:AX)(AC:AX)(Ct:Int):Option ((Int)⊕(Unit⊕Unit)):=
 if Ct<(AA.length:Int)then
  ck (0≤Ct∧Ct.toNat<AA.length)<|
  if 6<((AA.getD Ct.toNat bl).length:Int)then
   some (cc (cf ()))
  else
   (FW AA AL AC Ct 0).bind fun Ap=>
   match Ap with
   | .inl q1000_=>
    some (cc (cf ()))
   | .inr q1000_=>
    some (cf (ce.wrap (Ct+1)))
 else
  some (cc (cc ()))
def FX(AA:BN)(AL:AX)(AC:AX)(v:Int):Option (Unit⊕Unit):=Jf (fun v=>Di AA AL AC v) v
def JA(AA:BN)(AL:AX)(AC:AX):Option (Bool):=
 if(Eo (AA.length:Int) (1:Int) (40:Int))=true then
  ck (AL.length<1099511627776)<|
  if(MM AL (AA.length:Int))=true then
   (K3 AC (AA.length:Int)).bind fun IC=>
   if IC=true then
    (FX AA AL AC 0).bind fun GY=>
    match GY with
    | .inl q1001_=>
     some false
    | .inr q1001_=>
     some true
   else
    some false
  else
   some false
 else
  some false
abbrev Qx:List Nat:=[48,49,50,51,52,53,54,55,56,57,58,59,60,61,62,63,64,65,66,67,68,66,67,69,70]
def UW:SC:= .seq (.ops [oB 44 .lss 3 (tK 43) (tK 42) 3 0]) (.seq (.cond (tK 44) .skip (.exit 2)) (.seq (.block 3 (.seq (.ops [oM 45 43 3,oI 46 123 41 43,oL 47 125 46 125,oX 6 (.alloc 125) 0,oA 5 45 3,oS 125 6 47]) (.seq (.draws [(⟨[48,1,1],Qx,[48]⟩,oL 48 47 1 47),(⟨[49,6,6],Qx,[49]⟩,oF 49 125 6 0),(⟨[50,49,6],Qx,[50]⟩,oL 50 3 49 3),(⟨[51,6,6],Qx,[51]⟩,oF 51 125 6 1),(⟨[52,51,6],Qx,[52]⟩,oL 52 3 51 3),(⟨[53,48,50,52,1,6,6],Qx,[53]⟩,oC 53 114 [(tK 48),(tK 50),(tK 52)] [47,3,3] 4),(⟨[54,53,53],Qx,[54]⟩,oX 54 (.unOp .not 4 (tK 53)) 4),(⟨[55,54,54],Qx,[55]⟩,oM 55 54 4),(⟨[56,1,1,55],Qx,[56]⟩,⟨(some 56),Xq,0,(some (some 55,false))⟩),(⟨[57,56,1,55],Qx,[57]⟩,⟨(some 57),(.load 45 (tK 56)),45,(some (some 55,false))⟩),(⟨[58,6,6,55],Qx,[58]⟩,⟨(some 58),(.fieldAddr 125 (tK 6) 0),0,(some (some 55,false))⟩),(⟨[59,58,6,55],Qx,[59]⟩,⟨(some 59),(.load 3 (tK 58)),3,(some (some 55,false))⟩),(⟨[60,57,59,1,6,55],Qx,[60]⟩,⟨(some 60),(.indexAddr 45 (tK 57) (tK 59)),0,(some (some 55,false))⟩),(⟨[61,60,1,55],Qx,[61]⟩,⟨(some 61),(.load 123 (tK 60)),123,(some (some 55,false))⟩),(⟨[62,6,6,55],Qx,[62]⟩,⟨(some 62),(.fieldAddr 125 (tK 6) 1),0,(some (some 55,false))⟩),(⟨[63,62,6,55],Qx,[63]⟩,⟨(some 63),(.load 3 (tK 62)),3,(some (some 55,false))⟩),
 (⟨[64,61,63,1,6,55],Qx,[64]⟩,⟨(some 64),(.indexAddr 123 (tK 61) (tK 63)),0,(some (some 55,false))⟩),(⟨[65,64,1,55],Qx,[65]⟩,⟨(some 65),(.load 125 (tK 64)),125,(some (some 55,false))⟩),(⟨[66,3,3,55],Qx,[66]⟩,⟨(some 66),(.move (tK 3)),3,(some (some 55,false))⟩),(⟨[67,5,5,55],Qx,[67]⟩,⟨(some 67),(.move (tK 5)),3,(some (some 55,false))⟩),(⟨[68,66,67,3,5,55],Qx,[68,66,67]⟩,⟨(some 68),(.build 125 #[(0,(tK 66)),(1,(tK 67))]),125,(some (some 55,false))⟩),(⟨[69,65,68,1,68,55],Qx,[69]⟩,⟨(some 69),(.binOp .neq 125 (tK 65) (tK 68) 125),4,(some (some 55,false))⟩),(⟨[70,55,69,54,69],Qx,[70]⟩,oX 70 (.pick (tK 55) Dz (tK 69)) 4)]) (.cond (tK 70) (.seq (.ops [oX 2 BU 4]) .ret) .skip)))) (.ops [oB 71 .add 3 (tK 43) (iK 1) 3 3,oM 43 71 3])))
def fB:SC:= .loop UW
def UX:SC:= .seq (.ops [oB 34 .lss 3 (tK 33) (tK 32) 3 0]) (.seq (.cond (tK 34) .skip (.exit 0)) (.seq (.block 1 (.seq (.ops [oM 35 33 3,oI 36 45 31 33,oL 37 123 36 123,oA 3 35 3,oA 4 37 123]) (.seq (.seq (.ops [oM 38 4 123,oN 39 38 123,oB 40 .gtr 3 (tK 39) (iK 6) 3 4]) (.cond (tK 40) (.seq (.ops [oX 2 BU 4]) .ret) .skip)) (.seq (.ops [oM 41 4 123,oN 42 41 123,oX 43 (.move (iK 0)) 3]) (.block 2 fB))))) (.ops [oB 72 .add 3 (tK 33) (iK 1) 3 3,oM 33 72 3])))
def fC:SC:= .loop UX
def k67:SC:= .seq (.ops [oX 1 (.box 47 (tK 0)) 0,oX 2 BU 4]) (.seq (.seq (.ops [oF 7 47 1 0,oL 8 45 7 45,oN 9 8 45,oC 10 97 [(tK 9),(iK 1),(iK 40)] [3,3,3] 4,oX 11 (.unOp .not 4 (tK 10)) 4,oM 12 11 4,⟨(some 13),(.fieldAddr 47 (tK 1) 1),0,(some (some 12,false))⟩,⟨(some 14),(.load 26 (tK 13)),26,(some (some 12,false))⟩,⟨(some 15),Xq,0,(some (some 12,false))⟩,⟨(some 16),(.load 45 (tK 15)),45,(some (some 12,false))⟩,⟨(some 17),(.call ⟨(.builtin .len), #[(tK 16)], #[45]⟩),3,(some (some 12,false))⟩,⟨(some 18),(.call ⟨(.value (.func 112)), #[(tK 14),(tK 17)], #[26,3]⟩),4,(some (some 12,false))⟩,⟨(some 19),(.unOp .not 4 (tK 18)),4,(some (some 12,false))⟩,oX 20 (.pick (tK 12) Dz (tK 19)) 4,oM 21 20 4,⟨(some 22),(.fieldAddr 47 (tK 1) 2),0,(some (some 21,false))⟩,⟨(some 23),(.load 26 (tK 22)),26,(some (some 21,false))⟩,⟨(some 24),Xq,0,(some (some 21,false))⟩,⟨(some 25),(.load 45 (tK 24)),45,(some (some 21,false))⟩,⟨(some 26),(.call ⟨(.builtin .len), #[(tK 25)], #[45]⟩),3,(some (some 21,false))⟩,⟨(some 27),(.call ⟨(.value (.func 113)), #[(tK 23),(tK 26)], #[26,3]⟩),4,(some (some 21,false))⟩,⟨(some 28),(.unOp .not 4 (tK 27)),4,(some (some 21,false))⟩,oX 29 (.pick (tK 21) Dz (tK 28)) 4])
 (.cond (tK 29) (.seq (.ops [oX 2 BU 4]) .ret) .skip)) (.seq (.seq (.ops [oF 30 47 1 0,oL 31 45 30 45,oN 32 31 45,oX 33 (.move (iK 0)) 3]) (.block 0 fC)) (.seq (.ops [oX 2 (.assign Dz) 4]) .ret)))
theorem wm:Try.f67.body.map (Bw lends)=some k67:=by kernel_rfl
theorem A9A:CV Try.f67 1=true:=by kernel_rfl
theorem c67{a l:List D}{r:D×List D}(h:Cb Y.env k67 (GX Ad l.length [cg 2] r) (entry a l))(ha:a.length=1):Y.call 67 a l=some r:=
 Ag (Y:=Y) rfl Try.func67 (ha▸A9A) wm h
def CW(AA:BN)(AL:AX)(AC:AX)(Ct:Int)(GK:Int)(s:St):Prop:=s.v 1=D.box [bm 123 (AV (fun x=>bm 125 (BG .i64 .i64 x)) AA),bm 3 (AV (bk .i64) AL),bm 3 (AV (bk .i64) AC)]∧s.v 3=bk .i64 Ct∧s.v 31=bm 123 (AV (fun x=>bm 125 (BG .i64 .i64 x)) AA)∧s.v 32=bk .i64 (AA.length:Int)∧s.v 33=bk .i64 Ct∧s.v 41=bm 125 (BG .i64 .i64 (AA.getD Ct.toNat bl))∧s.v 42=bk .i64 ((AA.getD Ct.toNat bl).length:Int)∧s.v 43=bk .i64 GK
def CX(AA:BN)(AL:AX)(AC:AX)(Ct:Int)(r:Unit⊕Unit)(ex:Ex)(s:St):Prop:=match r with
 | .inl q=>ex= .ret∧s.v 2=cd false
 | .inr q=>ex= .exit 2∧s.v 1=D.box [bm 123 (AV (fun x=>bm 125 (BG .i64 .i64 x)) AA),bm 3 (AV (bk .i64) AL),bm 3 (AV (bk .i64) AC)]∧s.v 31=bm 123 (AV (fun x=>bm 125 (BG .i64 .i64 x)) AA)∧s.v 32=bk .i64 (AA.length:Int)∧s.v 33=bk .i64 Ct
theorem NJ(AA:BN)(AL:AX)(AC:AX)(Ct:Int){v:Int}{s:St}{r:Unit⊕Unit}(h:FW AA AL AC Ct v=some r)(hM:CW AA AL AC Ct v s):Cb Y.env fB (CX AA AL AC Ct r) s:=by
 unfold FW at h;refine DK (c:=UW) (fun v=>Dh AA AL AC Ct v) (fun v s=>CW AA AL AC Ct v s) (CX AA AL AC Ct) ?_ h hM;clear h hM s v r;intro GK s o hM h;unfold Dh at h;unfold CW at hM;obtain⟨m0,m1,m2,m3,m4,m5,m6,m7⟩:=hM;unfold UW;by_cases e11:GK<((AA.getD Ct.toNat bl).length:Int)
 ·rw [if_pos e11]at h;obtain⟨e12,h⟩:=Cq h;obtain⟨jM,hl13,h⟩:=BS h;try dsimp only at h
  have c13:=K4 AA AL AC (BJ (AA.getD Ct.toNat bl) GK.toNat) (Bo (AA.getD Ct.toNat bl) GK.toNat) hl13;by_cases e14:jM=true
  ·rw [if_pos e14]at h;obtain⟨e15,h⟩:=Cq h;obtain⟨e16,h⟩:=Cq h;by_cases e17:(((BJ (AA.getD ((BJ (AA.getD Ct.toNat bl) GK.toNat).toNat) bl) ((Bo (AA.getD Ct.toNat bl) GK.toNat).toNat))==Ct)&&((Bo (AA.getD ((BJ (AA.getD Ct.toNat bl) GK.toNat).toNat) bl) ((Bo (AA.getD Ct.toNat bl) GK.toNat).toNat))==GK))=true
   ·rw [if_pos e17]at h
    obtain rfl:=Option.some.inj h
    simp (maxDischargeDepth:=9) only [↓AQ,AR,Au,↓reduceIte,bo,bp,br,bt,bw,bx,bO,b0,b3,b4,b5,b6,b7,b8,b9,ca,cb,m0,m1,m2,m3,m4,m5,m6,m7,e11,e12.1,e12.2,c13,e14,e15.1,e15.2,e16.1,e16.2,e17,CW,CX,EA,EB,EC]<;>(repeat' apply A7)<;>first|rfl|exact⟨_,rfl⟩|exact⟨_,_,rfl⟩|simp [AV,AB]
   ·rw [if_neg e17]at h;have e17f:(((BJ (AA.getD ((BJ (AA.getD Ct.toNat bl) GK.toNat).toNat) bl) ((Bo (AA.getD Ct.toNat bl) GK.toNat).toNat))==Ct)&&((Bo (AA.getD ((BJ (AA.getD Ct.toNat bl) GK.toNat).toNat) bl) ((Bo (AA.getD Ct.toNat bl) GK.toNat).toNat))==GK))=false:=Gw.mpr e17
    obtain rfl:=Option.some.inj h
    simp (maxDischargeDepth:=9) only [↓AQ,AR,Au,↓reduceIte,bo,bp,br,bt,bw,bx,bO,b0,b3,b4,b5,b6,b7,b8,b9,ca,cb,m0,m1,m2,m3,m4,m5,m6,m7,e11,e12.1,e12.2,c13,e14,e15.1,e15.2,e16.1,e16.2,e17f,CW,CX,EA,EB,EC]<;>(repeat' apply A7)<;>first|rfl|exact⟨_,rfl⟩|exact⟨_,_,rfl⟩|simp [AV,AB]
  ·rw [if_neg e14]at h;have e14f:jM=false:=Gw.mpr e14
   obtain rfl:=Option.some.inj h
   simp (maxDischargeDepth:=9) only [↓AQ,AR,Au,↓reduceIte,bo,bp,br,bt,bw,bx,bO,b0,b3,b4,b5,b6,b7,b8,b9,ca,cb,m0,m1,m2,m3,m4,m5,m6,m7,e11,e12.1,e12.2,c13,e14f,CW,CX,EA,EB,EC]<;>(repeat' apply A7)<;>first|rfl|exact⟨_,rfl⟩|exact⟨_,_,rfl⟩|simp [AV,AB]
 ·rw [if_neg e11]at h
  obtain rfl:=Option.some.inj h
  simp (maxDischargeDepth:=9) only [↓AQ,AR,Au,↓reduceIte,bo,bp,br,bt,bw,bx,bO,b0,b3,b4,b5,b6,b7,b8,b9,ca,cb,m0,m1,m2,m3,m4,m5,m6,m7,e11,CW,CX,EA,EB,EC]<;>(repeat' apply A7)<;>first|rfl|exact⟨_,rfl⟩|exact⟨_,_,rfl⟩|simp [AV,AB]
def CY(AA:BN)(AL:AX)(AC:AX)(Ct:Int)(s:St):Prop:=s.v 1=D.box [bm 123 (AV (fun x=>bm 125 (BG .i64 .i64 x)) AA),bm 3 (AV (bk .i64) AL),bm 3 (AV (bk .i64) AC)]∧s.v 31=bm 123 (AV (fun x=>bm 125 (BG .i64 .i64 x)) AA)∧s.v 32=bk .i64 (AA.length:Int)∧s.v 33=bk .i64 Ct
def CZ(AA:BN)(AL:AX)(AC:AX)(r:Unit⊕Unit)(ex:Ex)(s:St):Prop:=match r with
 | .inl q=>ex= .ret∧s.v 2=cd false
 | .inr q=>ex= .exit 0
theorem NK(AA:BN)(AL:AX)(AC:AX){v:Int}{s:St}{r:Unit⊕Unit}(h:FX AA AL AC v=some r)(hM:CY AA AL AC v s):Cb Y.env fC (CZ AA AL AC r) s:=by
 unfold FX at h;refine DK (c:=UX) (fun v=>Di AA AL AC v) (fun v s=>CY AA AL AC v s) (CZ AA AL AC) ?_ h hM;clear h hM s v r;intro Ct s o hM h;unfold Di at h;unfold CY at hM;obtain⟨m0,m1,m2,m3⟩:=hM;unfold UX;by_cases e8:Ct<(AA.length:Int)
 ·rw [if_pos e8]at h;obtain⟨e9,h⟩:=Cq h;by_cases e10:6<((AA.getD Ct.toNat bl).length:Int)
  ·rw [if_pos e10]at h
   obtain rfl:=Option.some.inj h
   simp (maxDischargeDepth:=9) only [↓AQ,AR,Au,↓reduceIte,bo,bp,br,bt,bw,bx,bO,b0,b3,b4,b5,b6,b7,b8,b9,ca,cb,m0,m1,m2,m3,e8,e9.1,e9.2,e10,CY,CZ,EA,EB,EC]<;>(repeat' apply A7)<;>first|rfl|exact⟨_,rfl⟩|exact⟨_,_,rfl⟩|simp [AV,AB]
  ·rw [if_neg e10]at h;obtain⟨Ap,hl12,h⟩:=BS h;try dsimp only at h
   simp (maxDischargeDepth:=9) only [↓AQ,AR,Au,↓reduceIte,bo,bp,br,bt,bw,bx,bO,b0,b3,b4,b5,b6,b7,b8,b9,ca,cb,m0,m1,m2,m3,e8,e9.1,e9.2,e10];refine CQ (NJ AA AL AC Ct hl12 ?_) ?_
   ·simp (maxDischargeDepth:=9) only [↓AQ,AR,Au,↓reduceIte,bo,bp,br,bt,bw,bx,bO,b0,b3,b4,b5,b6,b7,b8,b9,ca,cb,m0,m1,m2,m3,e8,e9.1,e9.2,e10,CW]<;>(repeat' apply A7)<;>first|rfl|exact⟨_,rfl⟩|exact⟨_,_,rfl⟩|simp [AV,AB]
   ·intro ex12 s12 hX12;rcases Ap with q1000_|q1000_
    ·unfold CX at hX12;dsimp only at hX12 h;obtain⟨rfl,n12_0⟩:=hX12
     obtain rfl:=Option.some.inj h
     simp (maxDischargeDepth:=9) only [↓AQ,AR,Au,↓reduceIte,bo,bp,br,bt,bw,bx,bO,b0,b3,b4,b5,b6,b7,b8,b9,ca,cb,e8,e9.1,e9.2,e10,n12_0,CY,CZ,EA,EB,EC]<;>(repeat' apply A7)<;>first|rfl|exact⟨_,rfl⟩|exact⟨_,_,rfl⟩|simp [AV,AB]
    ·unfold CX at hX12;dsimp only at hX12 h;obtain⟨rfl,n12_0,n12_1,n12_2,n12_3⟩:=hX12
     obtain rfl:=Option.some.inj h
     simp (maxDischargeDepth:=9) only [↓AQ,AR,Au,↓reduceIte,bo,bp,br,bt,bw,bx,bO,b0,b3,b4,b5,b6,b7,b8,b9,ca,cb,e8,e9.1,e9.2,e10,n12_0,n12_1,n12_2,n12_3,CY,CZ,EA,EB,EC]<;>(repeat' apply A7)<;>first|rfl|exact⟨_,rfl⟩|exact⟨_,_,rfl⟩|simp [AV,AB]
 ·rw [if_neg e8]at h
  obtain rfl:=Option.some.inj h
  simp (maxDischargeDepth:=9) only [↓AQ,AR,Au,↓reduceIte,bo,bp,br,bt,bw,bx,bO,b0,b3,b4,b5,b6,b7,b8,b9,ca,cb,m0,m1,m2,m3,e8,CY,CZ,EA,EB,EC]<;>(repeat' apply A7)<;>first|rfl|exact⟨_,rfl⟩|exact⟨_,_,rfl⟩|simp [AV,AB]
theorem Nz(AA:BN)(AL:AX)(AC:AX){r:Bool}(h:JA AA AL AC=some r):Y.call 67 [cj [bm 123 (AV (fun x=>bm 125 (BG .i64 .i64 x)) AA),bm 3 (AV (bk .i64) AL),bm 3 (AV (bk .i64) AC)]] []=some (cd r,[]):=by
 refine c67 ?_ rfl;unfold k67;unfold JA at h;have c1:=Ga (AA.length:Int) (1:Int) (40:Int);by_cases e2:(Eo (AA.length:Int) (1:Int) (40:Int))=true
 ·rw [if_pos e2]at h;obtain⟨e3,h⟩:=Cq h;have c4:=Y4 AL (AA.length:Int) e3;by_cases e5:(MM AL (AA.length:Int))=true
  ·rw [if_pos e5]at h;obtain⟨IC,hl6,h⟩:=BS h;try dsimp only at h
   have c6:=Ox AC (AA.length:Int) hl6;by_cases e7:IC=true
   ·rw [if_pos e7]at h;obtain⟨GY,hl9,h⟩:=BS h;try dsimp only at h
    simp (maxDischargeDepth:=9) only [↓AQ,AR,Au,↓reduceIte,bo,bp,br,bt,bw,bx,bO,b0,b3,b4,b5,b6,b7,b8,b9,ca,cb,c1,e2,e3,c4,e5,c6,e7];refine CQ (NK AA AL AC hl9 ?_) ?_
    ·simp (maxDischargeDepth:=9) only [↓AQ,AR,Au,↓reduceIte,bo,bp,br,bt,bw,bx,bO,b0,b3,b4,b5,b6,b7,b8,b9,ca,cb,c1,e2,e3,c4,e5,c6,e7,CY]<;>(repeat' apply A7)<;>first|rfl|exact⟨_,rfl⟩|exact⟨_,_,rfl⟩|simp [AV,AB]
    ·intro ex9 s9 hX9;rcases GY with q1001_|q1001_
     ·unfold CZ at hX9;dsimp only at hX9 h;obtain⟨rfl,n9_0⟩:=hX9
      obtain rfl:=Option.some.inj h
      simp (maxDischargeDepth:=9) only [↓AQ,AR,Au,↓reduceIte,bo,bp,br,bt,bw,bx,bO,b0,b3,b4,b5,b6,b7,b8,b9,ca,cb,c1,e2,e3,c4,e5,c6,e7,n9_0]<;>(repeat' apply A7)<;>first|rfl|exact⟨_,rfl⟩|exact⟨_,_,rfl⟩|simp [AV,AB]
     ·unfold CZ at hX9;dsimp only at hX9 h
      obtain rfl:=hX9
      obtain rfl:=Option.some.inj h
      simp (maxDischargeDepth:=9) only [↓AQ,AR,Au,↓reduceIte,bo,bp,br,bt,bw,bx,bO,b0,b3,b4,b5,b6,b7,b8,b9,ca,cb,c1,e2,e3,c4,e5,c6,e7]<;>(repeat' apply A7)<;>first|rfl|exact⟨_,rfl⟩|exact⟨_,_,rfl⟩|simp [AV,AB]
   ·rw [if_neg e7]at h;have e7f:IC=false:=Gw.mpr e7
    obtain rfl:=Option.some.inj h
    simp (maxDischargeDepth:=9) only [↓AQ,AR,Au,↓reduceIte,bo,bp,br,bt,bw,bx,bO,b0,b3,b4,b5,b6,b7,b8,b9,ca,cb,c1,e2,e3,c4,e5,c6,e7f]<;>(repeat' apply A7)<;>first|rfl|exact⟨_,rfl⟩|exact⟨_,_,rfl⟩|simp [AV,AB]
  ·rw [if_neg e5]at h;have e5f:(MM AL (AA.length:Int))=false:=Gw.mpr e5
   obtain rfl:=Option.some.inj h
   simp (maxDischargeDepth:=9) only [↓AQ,AR,Au,↓reduceIte,bo,bp,br,bt,bw,bx,bO,b0,b3,b4,b5,b6,b7,b8,b9,ca,cb,c1,e2,e3,c4,e5f]<;>(repeat' apply A7)<;>first|rfl|exact⟨_,rfl⟩|exact⟨_,_,rfl⟩|simp [AV,AB]
 ·rw [if_neg e2]at h;have e2f:(Eo (AA.length:Int) (1:Int) (40:Int))=false:=Gw.mpr e2
  obtain rfl:=Option.some.inj h
  simp (maxDischargeDepth:=9) only [↓AQ,AR,Au,↓reduceIte,bo,bp,br,bt,bw,bx,bO,b0,b3,b4,b5,b6,b7,b8,b9,ca,cb,c1,e2f]<;>(repeat' apply A7)<;>first|rfl|exact⟨_,rfl⟩|exact⟨_,_,rfl⟩|simp [AV,AB]
def F9(AA:BN)(AL:AX)(AC:AX)(CR:Int)(Eb:Int):Option ((Int)⊕(Unit⊕Unit)):= if Eb<((AA.getD CR.toNat bl).length:Int)then ck (0≤Eb∧Eb.toNat<(AA.getD CR.toNat bl).length)<| if(Eo (BJ (AA.getD CR.toNat bl) Eb.toNat) (0:Int) (ce.wrap ((AA.length:Int)-1)))=true then ck (0≤(BJ (AA.getD CR.toNat bl) Eb.toNat)∧(BJ (AA.getD CR.toNat bl) Eb.toNat).toNat<AA.length)<| if(Eo (Bo (AA.getD CR.toNat bl) Eb.toNat) (0:Int) (ce.wrap (((AA.getD ((BJ (AA.getD CR.toNat bl) Eb.toNat).toNat) bl).length:Int)-1)))=true then ck (0≤(Bo (AA.getD CR.toNat bl) Eb.toNat)∧(Bo (AA.getD CR.toNat bl) Eb.toNat).toNat<(AA.getD ((BJ (AA.getD CR.toNat bl) Eb.toNat).toNat) bl).length)<| if(((BJ (AA.getD ((BJ (AA.getD CR.toNat bl) Eb.toNat).toNat) bl) ((Bo (AA.getD CR.toNat bl) Eb.toNat).toNat))==CR)&&((Bo (AA.getD ((BJ (AA.getD CR.toNat bl) Eb.toNat).toNat) bl) ((Bo (AA.getD CR.toNat bl) Eb.toNat).toNat))==Eb))=true then some (cf (ce.wrap (Eb+1))) else some (cc (cf ())) else some (cc (cf ())) else some (cc (cf ())) else some (cc (cc ()))
def Ho(AA:BN)(AL:AX)(AC:AX)(CR:Int)(v:Int):Option (Unit⊕Unit):=Jf (fun v=>F9 AA AL AC CR v) v
def FB(AA:BN)(AL:AX)(AC:AX)(CR:Int):Option ((Int)⊕(Unit⊕Unit)):=
 if CR<(AA.length:Int)then
  ck (0≤CR∧CR.toNat<AA.length)<|
  if 6<((AA.getD CR.toNat bl).length:Int)then
   some (cc (cf ()))
  else
   (Ho AA AL AC CR 0).bind fun Ap=>
   match Ap with
   | .inl q1000_=>
    some (cc (cf ()))
   | .inr q1000_=>
    some (cf (ce.wrap (CR+1)))
 else
  some (cc (cc ()))
def Hq(AA:BN)(AL:AX)(AC:AX)(v:Int):Option (Unit⊕Unit):=Jf (fun v=>FB AA AL AC v) v
def NL(AA:BN)(AL:AX)(AC:AX):Option (Bool):=
 if(Eo (AA.length:Int) (1:Int) (40:Int))=true then
  ck (AL.length<1099511627776)<|
  if(MM AL (AA.length:Int))=true then
   if(AC.length:Int)=(AA.length:Int)then
    ck (AC.length<1099511627776)<|
    if(Gc AC (0:Int) (9:Int))=true then
     (Hq AA AL AC 0).bind fun GY=>
     match GY with
     | .inl q1001_=>
      some false
     | .inr q1001_=>
      some true
    else
     some false
   else
    some false
  else
   some false
 else
  some false
abbrev KF:List Nat:=[54,55,56,57,58,59,60,61,62,63,64,65,66,67,68,69,70,71,72,73,74,75,76,77,78,79,80,81,82,83,84,85,86,87,88,89,87,88,90,91]
def UY:SC:= .seq (.ops [oB 50 .lss 3 (tK 49) (tK 48) 3 0]) (.seq (.cond (tK 50) .skip (.exit 2)) (.seq (.block 3 (.seq (.ops [oM 51 49 3,oI 52 123 47 49,oL 53 125 52 125,oX 6 (.alloc 125) 0,oA 5 51 3,oS 125 6 53]) (.seq (.draws [(⟨[54,6,6],KF,[54]⟩,oF 54 125 6 0),(⟨[55,54,6],KF,[55]⟩,oL 55 3 54 3),(⟨[56,1,1],KF,[56]⟩,oF 56 47 1 0),(⟨[57,56,1],KF,[57]⟩,oL 57 45 56 45),(⟨[58,57,1],KF,[58]⟩,oN 58 57 45),(⟨[59,58,58],KF,[59]⟩,oB 59 .sub 3 (tK 58) (iK 1) 3 3),(⟨[60,55,59,6,59],KF,[60]⟩,oC 60 92 [(tK 55),(iK 0),(tK 59)] [3,3,3] 4),(⟨[61,60,60],KF,[61]⟩,oX 61 (.unOp .not 4 (tK 60)) 4),(⟨[62,61,61],KF,[62]⟩,oM 62 61 4),(⟨[63,6,6,62],KF,[63]⟩,⟨(some 63),(.fieldAddr 125 (tK 6) 1),0,(some (some 62,false))⟩),(⟨[64,63,6,62],KF,[64]⟩,⟨(some 64),(.load 3 (tK 63)),3,(some (some 62,false))⟩),(⟨[65,1,1,62],KF,[65]⟩,⟨(some 65),Xq,0,(some (some 62,false))⟩),(⟨[66,65,1,62],KF,[66]⟩,⟨(some 66),(.load 45 (tK 65)),45,(some (some 62,false))⟩),(⟨[67,6,6,62],KF,[67]⟩,⟨(some 67),(.fieldAddr 125 (tK 6) 0),0,(some (some 62,false))⟩),(⟨[68,67,6,62],KF,[68]⟩,⟨(some 68),(.load 3 (tK 67)),3,(some (some 62,false))⟩),(⟨[69,66,68,1,6,62],KF,[69]⟩,⟨(some 69),(.indexAddr 45 (tK 66) (tK 68)),0,(some (some 62,false))⟩),
 (⟨[70,69,1,62],KF,[70]⟩,⟨(some 70),(.load 123 (tK 69)),123,(some (some 62,false))⟩),(⟨[71,70,1,62],KF,[71]⟩,⟨(some 71),(.call ⟨(.builtin .len), #[(tK 70)], #[123]⟩),3,(some (some 62,false))⟩),(⟨[72,71,71,62],KF,[72]⟩,⟨(some 72),(.binOp .sub 3 (tK 71) (iK 1) 3),3,(some (some 62,false))⟩),(⟨[73,64,72,6,72,62],KF,[73]⟩,⟨(some 73),(.call ⟨(.value (.func 92)), #[(tK 64),(iK 0),(tK 72)], #[3,3,3]⟩),4,(some (some 62,false))⟩),(⟨[74,73,73,62],KF,[74]⟩,⟨(some 74),(.unOp .not 4 (tK 73)),4,(some (some 62,false))⟩),(⟨[75,62,74,61,74],KF,[75]⟩,oX 75 (.pick (tK 62) Dz (tK 74)) 4),(⟨[76,75,75],KF,[76]⟩,oM 76 75 4),(⟨[77,1,1,76],KF,[77]⟩,⟨(some 77),Xq,0,(some (some 76,false))⟩),(⟨[78,77,1,76],KF,[78]⟩,⟨(some 78),(.load 45 (tK 77)),45,(some (some 76,false))⟩),(⟨[79,6,6,76],KF,[79]⟩,⟨(some 79),(.fieldAddr 125 (tK 6) 0),0,(some (some 76,false))⟩),(⟨[80,79,6,76],KF,[80]⟩,⟨(some 80),(.load 3 (tK 79)),3,(some (some 76,false))⟩),(⟨[81,78,80,1,6,76],KF,[81]⟩,⟨(some 81),(.indexAddr 45 (tK 78) (tK 80)),0,(some (some 76,false))⟩),(⟨[82,81,1,76],KF,[82]⟩,⟨(some 82),(.load 123 (tK 81)),123,(some (some 76,false))⟩),(⟨[83,6,6,76],KF,[83]⟩,⟨(some 83),(.fieldAddr 125 (tK 6) 1),0,(some (some 76,false))⟩),
 (⟨[84,83,6,76],KF,[84]⟩,⟨(some 84),(.load 3 (tK 83)),3,(some (some 76,false))⟩),(⟨[85,82,84,1,6,76],KF,[85]⟩,⟨(some 85),(.indexAddr 123 (tK 82) (tK 84)),0,(some (some 76,false))⟩),(⟨[86,85,1,76],KF,[86]⟩,⟨(some 86),(.load 125 (tK 85)),125,(some (some 76,false))⟩),(⟨[87,3,3,76],KF,[87]⟩,⟨(some 87),(.move (tK 3)),3,(some (some 76,false))⟩),(⟨[88,5,5,76],KF,[88]⟩,⟨(some 88),(.move (tK 5)),3,(some (some 76,false))⟩),(⟨[89,87,88,3,5,76],KF,[89,87,88]⟩,⟨(some 89),(.build 125 #[(0,(tK 87)),(1,(tK 88))]),125,(some (some 76,false))⟩),(⟨[90,86,89,1,89,76],KF,[90]⟩,⟨(some 90),(.binOp .neq 125 (tK 86) (tK 89) 125),4,(some (some 76,false))⟩),(⟨[91,76,90,75,90],KF,[91]⟩,oX 91 (.pick (tK 76) Dz (tK 90)) 4)]) (.cond (tK 91) (.seq (.ops [oX 2 BU 4]) .ret) .skip)))) (.ops [oB 92 .add 3 (tK 49) (iK 1) 3 3,oM 49 92 3])))
def fD:SC:= .loop UY
def UZ:SC:= .seq (.ops [oB 40 .lss 3 (tK 39) (tK 38) 3 0]) (.seq (.cond (tK 40) .skip (.exit 0)) (.seq (.block 1 (.seq (.ops [oM 41 39 3,oI 42 45 37 39,oL 43 123 42 123,oA 3 41 3,oA 4 43 123]) (.seq (.seq (.ops [oM 44 4 123,oN 45 44 123,oB 46 .gtr 3 (tK 45) (iK 6) 3 4]) (.cond (tK 46) (.seq (.ops [oX 2 BU 4]) .ret) .skip)) (.seq (.ops [oM 47 4 123,oN 48 47 123,oX 49 (.move (iK 0)) 3]) (.block 2 fD))))) (.ops [oB 93 .add 3 (tK 39) (iK 1) 3 3,oM 39 93 3])))
def fF:SC:= .loop UZ
def k60:SC:= .seq (.ops [oX 1 (.box 47 (tK 0)) 0,oX 2 BU 4]) (.seq (.seq (.ops [oF 7 47 1 0,oL 8 45 7 45,oN 9 8 45,oC 10 92 [(tK 9),(iK 1),(iK 40)] [3,3,3] 4,oX 11 (.unOp .not 4 (tK 10)) 4,oM 12 11 4,⟨(some 13),(.fieldAddr 47 (tK 1) 1),0,(some (some 12,false))⟩,⟨(some 14),(.load 26 (tK 13)),26,(some (some 12,false))⟩,⟨(some 15),Xq,0,(some (some 12,false))⟩,⟨(some 16),(.load 45 (tK 15)),45,(some (some 12,false))⟩,⟨(some 17),(.call ⟨(.builtin .len), #[(tK 16)], #[45]⟩),3,(some (some 12,false))⟩,⟨(some 18),(.call ⟨(.value (.func 106)), #[(tK 14),(tK 17)], #[26,3]⟩),4,(some (some 12,false))⟩,⟨(some 19),(.unOp .not 4 (tK 18)),4,(some (some 12,false))⟩,oX 20 (.pick (tK 12) Dz (tK 19)) 4,oM 21 20 4,⟨(some 22),(.fieldAddr 47 (tK 1) 2),0,(some (some 21,false))⟩,⟨(some 23),(.load 26 (tK 22)),26,(some (some 21,false))⟩,⟨(some 24),(.call ⟨(.builtin .len), #[(tK 23)], #[26]⟩),3,(some (some 21,false))⟩,⟨(some 25),Xq,0,(some (some 21,false))⟩,⟨(some 26),(.load 45 (tK 25)),45,(some (some 21,false))⟩,⟨(some 27),(.call ⟨(.builtin .len), #[(tK 26)], #[45]⟩),3,(some (some 21,false))⟩,⟨(some 28),(.binOp .neq 3 (tK 24) (tK 27) 3),4,(some (some 21,false))⟩,oX 29 (.pick (tK 21) Dz (tK 28)) 4,
 oM 30 29 4,⟨(some 31),(.fieldAddr 47 (tK 1) 2),0,(some (some 30,false))⟩,⟨(some 32),(.load 26 (tK 31)),26,(some (some 30,false))⟩,⟨(some 33),(.call ⟨(.value (.func 107)), #[(tK 32),(iK 0),(iK 9)], #[26,3,3]⟩),4,(some (some 30,false))⟩,⟨(some 34),(.unOp .not 4 (tK 33)),4,(some (some 30,false))⟩,oX 35 (.pick (tK 30) Dz (tK 34)) 4]) (.cond (tK 35) (.seq (.ops [oX 2 BU 4]) .ret) .skip)) (.seq (.seq (.ops [oF 36 47 1 0,oL 37 45 36 45,oN 38 37 45,oX 39 (.move (iK 0)) 3]) (.block 0 fF)) (.seq (.ops [oX 2 (.assign Dz) 4]) .ret)))
theorem wo:Try.f60.body.map (Bw lends)=some k60:=by kernel_rfl
theorem A9C:CV Try.f60 1=true:=by kernel_rfl
theorem c60{a l:List D}{r:D×List D}(h:Cb Y.env k60 (GX Ad l.length [cg 2] r) (entry a l))(ha:a.length=1):Y.call 60 a l=some r:=
 Ag (Y:=Y) rfl Try.func60 (ha▸A9C) wo h
def Cw(AA:BN)(AL:AX)(AC:AX)(CR:Int)(Eb:Int)(s:St):Prop:=s.v 1=D.box [bm 123 (AV (fun x=>bm 125 (BG .i64 .i64 x)) AA),bm 3 (AV (bk .i64) AL),bm 3 (AV (bk .i64) AC)]∧s.v 3=bk .i64 CR∧s.v 37=bm 123 (AV (fun x=>bm 125 (BG .i64 .i64 x)) AA)∧s.v 38=bk .i64 (AA.length:Int)∧s.v 39=bk .i64 CR∧s.v 47=bm 125 (BG .i64 .i64 (AA.getD CR.toNat bl))∧s.v 48=bk .i64 ((AA.getD CR.toNat bl).length:Int)∧s.v 49=bk .i64 Eb
def Cx(AA:BN)(AL:AX)(AC:AX)(CR:Int)(r:Unit⊕Unit)(ex:Ex)(s:St):Prop:=match r with
 | .inl q=>ex= .ret∧s.v 2=cd false
 | .inr q=>ex= .exit 2∧s.v 1=D.box [bm 123 (AV (fun x=>bm 125 (BG .i64 .i64 x)) AA),bm 3 (AV (bk .i64) AL),bm 3 (AV (bk .i64) AC)]∧s.v 37=bm 123 (AV (fun x=>bm 125 (BG .i64 .i64 x)) AA)∧s.v 38=bk .i64 (AA.length:Int)∧s.v 39=bk .i64 CR
theorem Qy(AA:BN)(AL:AX)(AC:AX)(CR:Int){v:Int}{s:St}{r:Unit⊕Unit}(h:Ho AA AL AC CR v=some r)(hM:Cw AA AL AC CR v s):Cb Y.env fD (Cx AA AL AC CR r) s:=by
 unfold Ho at h;refine DK (c:=UY) (fun v=>F9 AA AL AC CR v) (fun v s=>Cw AA AL AC CR v s) (Cx AA AL AC CR) ?_ h hM;clear h hM s v r;intro Eb s o hM h;unfold F9 at h;unfold Cw at hM;obtain⟨m0,m1,m2,m3,m4,m5,m6,m7⟩:=hM;unfold UY;by_cases e13:Eb<((AA.getD CR.toNat bl).length:Int)
 ·rw [if_pos e13]at h;obtain⟨e14,h⟩:=Cq h;have PH:=Gb (BJ (AA.getD CR.toNat bl) Eb.toNat) (0:Int) (ce.wrap ((AA.length:Int)-1));by_cases e16:(Eo (BJ (AA.getD CR.toNat bl) Eb.toNat) (0:Int) (ce.wrap ((AA.length:Int)-1)))=true
  ·rw [if_pos e16]at h;obtain⟨e17,h⟩:=Cq h;have c18:=Gb (Bo (AA.getD CR.toNat bl) Eb.toNat) (0:Int) (ce.wrap (((AA.getD ((BJ (AA.getD CR.toNat bl) Eb.toNat).toNat) bl).length:Int)-1));by_cases e19:(Eo (Bo (AA.getD CR.toNat bl) Eb.toNat) (0:Int) (ce.wrap (((AA.getD ((BJ (AA.getD CR.toNat bl) Eb.toNat).toNat) bl).length:Int)-1)))=true
   ·rw [if_pos e19]at h;obtain⟨e20,h⟩:=Cq h;by_cases e21:(((BJ (AA.getD ((BJ (AA.getD CR.toNat bl) Eb.toNat).toNat) bl) ((Bo (AA.getD CR.toNat bl) Eb.toNat).toNat))==CR)&&((Bo (AA.getD ((BJ (AA.getD CR.toNat bl) Eb.toNat).toNat) bl) ((Bo (AA.getD CR.toNat bl) Eb.toNat).toNat))==Eb))=true
    ·rw [if_pos e21]at h
     obtain rfl:=Option.some.inj h
     simp (maxDischargeDepth:=9) only [↓AQ,AR,Au,↓reduceIte,bo,bp,br,bt,bw,bx,bO,b0,b3,b4,b5,b6,b7,b8,b9,ca,cb,m0,m1,m2,m3,m4,m5,m6,m7,e13,e14.1,e14.2,PH,e16,e17.1,e17.2,c18,e19,e20.1,e20.2,e21,Cw,Cx,EA,EB,EC]<;>(repeat' apply A7)<;>first|rfl|exact⟨_,rfl⟩|exact⟨_,_,rfl⟩|simp [AV,AB]
    ·rw [if_neg e21]at h;have e21f:(((BJ (AA.getD ((BJ (AA.getD CR.toNat bl) Eb.toNat).toNat) bl) ((Bo (AA.getD CR.toNat bl) Eb.toNat).toNat))==CR)&&((Bo (AA.getD ((BJ (AA.getD CR.toNat bl) Eb.toNat).toNat) bl) ((Bo (AA.getD CR.toNat bl) Eb.toNat).toNat))==Eb))=false:=Gw.mpr e21
     obtain rfl:=Option.some.inj h
     simp (maxDischargeDepth:=9) only [↓AQ,AR,Au,↓reduceIte,bo,bp,br,bt,bw,bx,bO,b0,b3,b4,b5,b6,b7,b8,b9,ca,cb,m0,m1,m2,m3,m4,m5,m6,m7,e13,e14.1,e14.2,PH,e16,e17.1,e17.2,c18,e19,e20.1,e20.2,e21f,Cw,Cx,EA,EB,EC]<;>(repeat' apply A7)<;>first|rfl|exact⟨_,rfl⟩|exact⟨_,_,rfl⟩|simp [AV,AB]
   ·rw [if_neg e19]at h;have e19f:(Eo (Bo (AA.getD CR.toNat bl) Eb.toNat) (0:Int) (ce.wrap (((AA.getD ((BJ (AA.getD CR.toNat bl) Eb.toNat).toNat) bl).length:Int)-1)))=false:=Gw.mpr e19
    obtain rfl:=Option.some.inj h
    simp (maxDischargeDepth:=9) only [↓AQ,AR,Au,↓reduceIte,bo,bp,br,bt,bw,bx,bO,b0,b3,b4,b5,b6,b7,b8,b9,ca,cb,m0,m1,m2,m3,m4,m5,m6,m7,e13,e14.1,e14.2,PH,e16,e17.1,e17.2,c18,e19f,Cw,Cx,EA,EB,EC]<;>(repeat' apply A7)<;>first|rfl|exact⟨_,rfl⟩|exact⟨_,_,rfl⟩|simp [AV,AB]
  ·rw [if_neg e16]at h;have e16f:(Eo (BJ (AA.getD CR.toNat bl) Eb.toNat) (0:Int) (ce.wrap ((AA.length:Int)-1)))=false:=Gw.mpr e16
   obtain rfl:=Option.some.inj h
   simp (maxDischargeDepth:=9) only [↓AQ,AR,Au,↓reduceIte,bo,bp,br,bt,bw,bx,bO,b0,b3,b4,b5,b6,b7,b8,b9,ca,cb,m0,m1,m2,m3,m4,m5,m6,m7,e13,e14.1,e14.2,PH,e16f,Cw,Cx,EA,EB,EC]<;>(repeat' apply A7)<;>first|rfl|exact⟨_,rfl⟩|exact⟨_,_,rfl⟩|simp [AV,AB]
 ·rw [if_neg e13]at h
  obtain rfl:=Option.some.inj h
  simp (maxDischargeDepth:=9) only [↓AQ,AR,Au,↓reduceIte,bo,bp,br,bt,bw,bx,bO,b0,b3,b4,b5,b6,b7,b8,b9,ca,cb,m0,m1,m2,m3,m4,m5,m6,m7,e13,Cw,Cx,EA,EB,EC]<;>(repeat' apply A7)<;>first|rfl|exact⟨_,rfl⟩|exact⟨_,_,rfl⟩|simp [AV,AB]
def Dc(AA:BN)(AL:AX)(AC:AX)(CR:Int)(s:St):Prop:=s.v 1=D.box [bm 123 (AV (fun x=>bm 125 (BG .i64 .i64 x)) AA),bm 3 (AV (bk .i64) AL),bm 3 (AV (bk .i64) AC)]∧s.v 37=bm 123 (AV (fun x=>bm 125 (BG .i64 .i64 x)) AA)∧s.v 38=bk .i64 (AA.length:Int)∧s.v 39=bk .i64 CR
def De(AA:BN)(AL:AX)(AC:AX)(r:Unit⊕Unit)(ex:Ex)(s:St):Prop:=match r with
 | .inl q=>ex= .ret∧s.v 2=cd false
 | .inr q=>ex= .exit 0
theorem Qz(AA:BN)(AL:AX)(AC:AX){v:Int}{s:St}{r:Unit⊕Unit}(h:Hq AA AL AC v=some r)(hM:Dc AA AL AC v s):Cb Y.env fF (De AA AL AC r) s:=by
 unfold Hq at h;refine DK (c:=UZ) (fun v=>FB AA AL AC v) (fun v s=>Dc AA AL AC v s) (De AA AL AC) ?_ h hM;clear h hM s v r;intro CR s o hM h;unfold FB at h;unfold Dc at hM;obtain⟨m0,m1,m2,m3⟩:=hM;unfold UZ;by_cases e10:CR<(AA.length:Int)
 ·rw [if_pos e10]at h;obtain⟨e11,h⟩:=Cq h;by_cases e12:6<((AA.getD CR.toNat bl).length:Int)
  ·rw [if_pos e12]at h
   obtain rfl:=Option.some.inj h
   simp (maxDischargeDepth:=9) only [↓AQ,AR,Au,↓reduceIte,bo,bp,br,bt,bw,bx,bO,b0,b3,b4,b5,b6,b7,b8,b9,ca,cb,m0,m1,m2,m3,e10,e11.1,e11.2,e12,Dc,De,EA,EB,EC]<;>(repeat' apply A7)<;>first|rfl|exact⟨_,rfl⟩|exact⟨_,_,rfl⟩|simp [AV,AB]
  ·rw [if_neg e12]at h;obtain⟨Ap,hl14,h⟩:=BS h;try dsimp only at h
   simp (maxDischargeDepth:=9) only [↓AQ,AR,Au,↓reduceIte,bo,bp,br,bt,bw,bx,bO,b0,b3,b4,b5,b6,b7,b8,b9,ca,cb,m0,m1,m2,m3,e10,e11.1,e11.2,e12];refine CQ (Qy AA AL AC CR hl14 ?_) ?_
   ·simp (maxDischargeDepth:=9) only [↓AQ,AR,Au,↓reduceIte,bo,bp,br,bt,bw,bx,bO,b0,b3,b4,b5,b6,b7,b8,b9,ca,cb,m0,m1,m2,m3,e10,e11.1,e11.2,e12,Cw]<;>(repeat' apply A7)<;>first|rfl|exact⟨_,rfl⟩|exact⟨_,_,rfl⟩|simp [AV,AB]
   ·intro ex14 s14 hX14;rcases Ap with q1000_|q1000_
    ·unfold Cx at hX14;dsimp only at hX14 h;obtain⟨rfl,n14_0⟩:=hX14
     obtain rfl:=Option.some.inj h
     simp (maxDischargeDepth:=9) only [↓AQ,AR,Au,↓reduceIte,bo,bp,br,bt,bw,bx,bO,b0,b3,b4,b5,b6,b7,b8,b9,ca,cb,e10,e11.1,e11.2,e12,n14_0,Dc,De,EA,EB,EC]<;>(repeat' apply A7)<;>first|rfl|exact⟨_,rfl⟩|exact⟨_,_,rfl⟩|simp [AV,AB]
    ·unfold Cx at hX14;dsimp only at hX14 h;obtain⟨rfl,n14_0,n14_1,n14_2,n14_3⟩:=hX14
     obtain rfl:=Option.some.inj h
     simp (maxDischargeDepth:=9) only [↓AQ,AR,Au,↓reduceIte,bo,bp,br,bt,bw,bx,bO,b0,b3,b4,b5,b6,b7,b8,b9,ca,cb,e10,e11.1,e11.2,e12,n14_0,n14_1,n14_2,n14_3,Dc,De,EA,EB,EC]<;>(repeat' apply A7)<;>first|rfl|exact⟨_,rfl⟩|exact⟨_,_,rfl⟩|simp [AV,AB]
 ·rw [if_neg e10]at h
  obtain rfl:=Option.some.inj h
  simp (maxDischargeDepth:=9) only [↓AQ,AR,Au,↓reduceIte,bo,bp,br,bt,bw,bx,bO,b0,b3,b4,b5,b6,b7,b8,b9,ca,cb,m0,m1,m2,m3,e10,Dc,De,EA,EB,EC]<;>(repeat' apply A7)<;>first|rfl|exact⟨_,rfl⟩|exact⟨_,_,rfl⟩|simp [AV,AB]
theorem SG(AA:BN)(AL:AX)(AC:AX){r:Bool}(h:NL AA AL AC=some r):Y.call 60 [cj [bm 123 (AV (fun x=>bm 125 (BG .i64 .i64 x)) AA),bm 3 (AV (bk .i64) AL),bm 3 (AV (bk .i64) AC)]] []=some (cd r,[]):=by
 refine c60 ?_ rfl;unfold k60;unfold NL at h;have c1:=Gb (AA.length:Int) (1:Int) (40:Int);by_cases e2:(Eo (AA.length:Int) (1:Int) (40:Int))=true
 ·rw [if_pos e2]at h;obtain⟨e3,h⟩:=Cq h;have c4:=Y5 AL (AA.length:Int) e3;by_cases e5:(MM AL (AA.length:Int))=true
  ·rw [if_pos e5]at h;by_cases e6:(AC.length:Int)=(AA.length:Int)
   ·rw [if_pos e6]at h;obtain⟨e7,h⟩:=Cq h;have c8:=Xt AC (0:Int) (9:Int) e7;by_cases e9:(Gc AC (0:Int) (9:Int))=true
    ·rw [if_pos e9]at h;obtain⟨GY,hl11,h⟩:=BS h;try dsimp only at h
     simp (maxDischargeDepth:=9) only [↓AQ,AR,Au,↓reduceIte,bo,bp,br,bt,bw,bx,bO,b0,b3,b4,b5,b6,b7,b8,b9,ca,cb,c1,e2,e3,c4,e5,decide_eq_true e6,e7,c8,e9];refine CQ (Qz AA AL AC hl11 ?_) ?_
     ·simp (maxDischargeDepth:=9) only [↓AQ,AR,Au,↓reduceIte,bo,bp,br,bt,bw,bx,bO,b0,b3,b4,b5,b6,b7,b8,b9,ca,cb,c1,e2,e3,c4,e5,decide_eq_true e6,e7,c8,e9,Dc]<;>(repeat' apply A7)<;>first|rfl|exact⟨_,rfl⟩|exact⟨_,_,rfl⟩|simp [AV,AB]
     ·intro ex11 s11 hX11;rcases GY with q1001_|q1001_
      ·unfold De at hX11;dsimp only at hX11 h;obtain⟨rfl,n11_0⟩:=hX11
       obtain rfl:=Option.some.inj h
       simp (maxDischargeDepth:=9) only [↓AQ,AR,Au,↓reduceIte,bo,bp,br,bt,bw,bx,bO,b0,b3,b4,b5,b6,b7,b8,b9,ca,cb,c1,e2,e3,c4,e5,decide_eq_true e6,e7,c8,e9,n11_0]<;>(repeat' apply A7)<;>first|rfl|exact⟨_,rfl⟩|exact⟨_,_,rfl⟩|simp [AV,AB]
      ·unfold De at hX11;dsimp only at hX11 h
       obtain rfl:=hX11
       obtain rfl:=Option.some.inj h
       simp (maxDischargeDepth:=9) only [↓AQ,AR,Au,↓reduceIte,bo,bp,br,bt,bw,bx,bO,b0,b3,b4,b5,b6,b7,b8,b9,ca,cb,c1,e2,e3,c4,e5,decide_eq_true e6,e7,c8,e9]<;>(repeat' apply A7)<;>first|rfl|exact⟨_,rfl⟩|exact⟨_,_,rfl⟩|simp [AV,AB]
    ·rw [if_neg e9]at h;have e9f:(Gc AC (0:Int) (9:Int))=false:=Gw.mpr e9
     obtain rfl:=Option.some.inj h
     simp (maxDischargeDepth:=9) only [↓AQ,AR,Au,↓reduceIte,bo,bp,br,bt,bw,bx,bO,b0,b3,b4,b5,b6,b7,b8,b9,ca,cb,c1,e2,e3,c4,e5,decide_eq_true e6,e7,c8,e9f]<;>(repeat' apply A7)<;>first|rfl|exact⟨_,rfl⟩|exact⟨_,_,rfl⟩|simp [AV,AB]
   ·rw [if_neg e6]at h
    obtain rfl:=Option.some.inj h
    simp (maxDischargeDepth:=9) only [↓AQ,AR,Au,↓reduceIte,bo,bp,br,bt,bw,bx,bO,b0,b3,b4,b5,b6,b7,b8,b9,ca,cb,c1,e2,e3,c4,e5,e6]<;>(repeat' apply A7)<;>first|rfl|exact⟨_,rfl⟩|exact⟨_,_,rfl⟩|simp [AV,AB]
  ·rw [if_neg e5]at h;have e5f:(MM AL (AA.length:Int))=false:=Gw.mpr e5
   obtain rfl:=Option.some.inj h
   simp (maxDischargeDepth:=9) only [↓AQ,AR,Au,↓reduceIte,bo,bp,br,bt,bw,bx,bO,b0,b3,b4,b5,b6,b7,b8,b9,ca,cb,c1,e2,e3,c4,e5f]<;>(repeat' apply A7)<;>first|rfl|exact⟨_,rfl⟩|exact⟨_,_,rfl⟩|simp [AV,AB]
 ·rw [if_neg e2]at h;have e2f:(Eo (AA.length:Int) (1:Int) (40:Int))=false:=Gw.mpr e2
  obtain rfl:=Option.some.inj h
  simp (maxDischargeDepth:=9) only [↓AQ,AR,Au,↓reduceIte,bo,bp,br,bt,bw,bx,bO,b0,b3,b4,b5,b6,b7,b8,b9,ca,cb,c1,e2f]<;>(repeat' apply A7)<;>first|rfl|exact⟨_,rfl⟩|exact⟨_,_,rfl⟩|simp [AV,AB]
def NM(es:BN)(v i:Nat):Bool:=
 Eo (BJ (es.getD v bl) i) 0 ((es.length:Int)-1)&&
 (Eo (Bo (es.getD v bl) i) 0 (((es.getD (BJ (es.getD v bl) i).toNat bl).length:Int)-1)&&
 ((BJ (es.getD (BJ (es.getD v bl) i).toNat bl) (Bo (es.getD v bl) i).toNat==(v:Int))&&(Bo (es.getD (BJ (es.getD v bl) i).toNat bl) (Bo (es.getD v bl) i).toNat==(i:Int))))
theorem La(es:BN)(v i:Nat):NM es v i=(Eo (BJ (es.getD v bl) i) 0 ((es.length:Int)-1)&&
 (Eo (Bo (es.getD v bl) i) 0 (((es.getD (BJ (es.getD v bl) i).toNat bl).length:Int)-1)&&
 ((BJ (es.getD (BJ (es.getD v bl) i).toNat bl) (Bo (es.getD v bl) i).toNat==(v:Int))&&(Bo (es.getD (BJ (es.getD v bl) i).toNat bl) (Bo (es.getD v bl) i).toNat==(i:Int))))):=rfl
def Lv(es:BN)(v:Nat):Bool:=decide ((es.getD v bl).length≤6)&&(an (es.getD v bl).length).all (NM es v)
theorem IP(es:BN)(v:Nat):Lv es v=(decide ((es.getD v bl).length≤6)&&(an (es.getD v bl).length).all (NM es v)):=rfl
def Ee(es:BN)(ids ins:AX):Bool:=
 Eo es.length 1 40&&(MM ids es.length&&(decide ((ins.length:Int)=es.length)&&(Gc ins 0 9&&(an es.length).all (Lv es))))
theorem fG(es:BN)(ids ins:AX)(h:Cg es)(v:Nat):FW es ids ins (v:Int) 0=some (if(an (es.getD v bl).length).all (NM es v)=true then .inr ()else .inl ()):=by
 have h1:=h.1;have h2:=h.getD v;unfold FW;refine EO (fun x=>Dh es ids ins (v:Int) x) (fun i=>(i:Int)) (es.getD v bl).length (NM es v) (.inl ()) (.inr ()) ?_ ?_
 ·intro i hi;have h3:=h.getD (BJ (es.getD v bl) i).toNat;simp only [Dh,FJ,CL,Fj];rw [La,if_pos (D8 hi),Ch (by omega),EM,Oj _ (by omega),Oj _ (by omega),Nr i (by omega)]
  cases r1:Eo (BJ (es.getD v bl) i) 0 ((es.length:Int)-1)with
  |false=>simp
  |true=>
   have r1':=DW.1 r1;rw [if_pos rfl,Ch (by omega),EM]
   cases r2:Eo (Bo (es.getD v bl) i) 0 (((es.getD (BJ (es.getD v bl) i).toNat bl).length:Int)-1)with
   |false=>simp
   |true=>
    have r2':=DW.1 r2;rw [if_pos rfl,Ch (by omega),Ch (by omega),Gd,Gd]
 ·simp only [Dh,Fj];rw [if_neg (BK _)]
theorem fH(es:BN)(ids ins:AX)(h:Cg es)(v:Nat):Ho es ids ins (v:Int) 0=some (if(an (es.getD v bl).length).all (NM es v)=true then .inr ()else .inl ()):=by
 have h1:=h.1;have h2:=h.getD v;unfold Ho;refine EO (fun x=>F9 es ids ins (v:Int) x) (fun i=>(i:Int)) (es.getD v bl).length (NM es v) (.inl ()) (.inr ()) ?_ ?_
 ·intro i hi;have h3:=h.getD (BJ (es.getD v bl) i).toNat;simp only [F9,Fj];rw [La,if_pos (D8 hi),Ch (by omega),Oj _ (by omega),Oj _ (by omega),Nr i (by omega)]
  cases r1:Eo (BJ (es.getD v bl) i) 0 ((es.length:Int)-1)with
  |false=>simp
  |true=>
   have r1':=DW.1 r1;rw [if_pos rfl,Ch (by omega)]
   cases r2:Eo (Bo (es.getD v bl) i) 0 (((es.getD (BJ (es.getD v bl) i).toNat bl).length:Int)-1)with
   |false=>simp
   |true=>
    have r2':=DW.1 r2;rw [if_pos rfl,Ch (by omega),Gd,Gd]
 ·simp only [F9,Fj];rw [if_neg (BK _)]
theorem fI(es:BN)(ids ins:AX)(h:Cg es):FX es ids ins 0=some (if(an es.length).all (Lv es)=true then .inr ()else .inl ()):=by
 have h1:=h.1;unfold FX;refine EO (fun x=>Di es ids ins x) (fun i=>(i:Int)) es.length (Lv es) (.inl ()) (.inr ()) ?_ ?_
 ·intro v hv;simp only [Di,Fj];rw [IP,if_pos (D8 hv),Ch (by omega),fG es ids ins h v,EM,Nr v (by omega)]
  by_cases h6:(es.getD v bl).length≤6
  ·rw [if_neg (by omega),decide_eq_true h6,Gd]
   cases (an (es.getD v bl).length).all (NM es v)<;>rfl
  ·rw [if_pos (by omega),decide_eq_false h6];rfl
 ·simp only [Di];rw [if_neg (BK _)]
theorem fJ(es:BN)(ids ins:AX)(h:Cg es):Hq es ids ins 0=some (if(an es.length).all (Lv es)=true then .inr ()else .inl ()):=by
 have h1:=h.1;unfold Hq;refine EO (fun x=>FB es ids ins x) (fun i=>(i:Int)) es.length (Lv es) (.inl ()) (.inr ()) ?_ ?_
 ·intro v hv;simp only [FB,Fj];rw [IP,if_pos (D8 hv),Ch (by omega),fH es ids ins h v,EM,Nr v (by omega)]
  by_cases h6:(es.getD v bl).length≤6
  ·rw [if_neg (by omega),decide_eq_true h6,Gd]
   cases (an (es.getD v bl).length).all (NM es v)<;>rfl
  ·rw [if_pos (by omega),decide_eq_false h6];rfl
 ·simp only [FB];rw [if_neg (BK _)]
theorem R3(es:BN)(ids ins:AX)(h:Cg es)(h2:ids.length<1099511627776)(h3:ins.length<1099511627776):JA es ids ins=some (Ee es ids ins):=by
 unfold JA Ee;rw [Ch h2,fI es ids ins h];unfold K3;rw [Ch h3]
 cases Eo es.length 1 40 with
 |false=>rfl
 |true=>
  cases MM ids es.length with
  |false=>rfl
  |true=>
   by_cases hl:(ins.length:Int)=es.length
   ·rw [if_pos hl,decide_eq_true hl]
    cases Gc ins 0 9 with
    |false=>rfl
    |true=>cases (an es.length).all (Lv es)<;>rfl
   ·rw [if_neg hl,decide_eq_false hl];rfl
theorem WQ(es:BN)(ids ins:AX)(h:Cg es)(h2:ids.length<1099511627776)(h3:ins.length<1099511627776):NL es ids ins=some (Ee es ids ins):=by
 unfold NL Ee;rw [Ch h2,Ch h3,fJ es ids ins h]
 cases Eo es.length 1 40 with
 |false=>rfl
 |true=>
  cases MM ids es.length with
  |false=>rfl
  |true=>
   by_cases hl:(ins.length:Int)=es.length
   ·rw [if_pos hl,decide_eq_true hl]
    cases Gc ins 0 9 with
    |false=>rfl
    |true=>cases (an es.length).all (Lv es)<;>rfl
   ·rw [if_neg hl,decide_eq_false hl];rfl
theorem R4(AA:BN)(AL:AX)(AC:AX)(h0:Cg AA)(h1:AL.length<1099511627776)(h2:AC.length<1099511627776):Y.call 67 [cj [bm 123 (AV (fun x=>bm 125 (BG .i64 .i64 x)) AA),bm 3 (AV (bk .i64) AL),bm 3 (AV (bk .i64) AC)]] []=some (cd (Ee AA AL AC),[]):=Nz AA AL AC (R3 AA AL AC h0 h1 h2)
theorem WS(AA:BN)(AL:AX)(AC:AX)(h0:Cg AA)(h1:AL.length<1099511627776)(h2:AC.length<1099511627776):Y.call 60 [cj [bm 123 (AV (fun x=>bm 125 (BG .i64 .i64 x)) AA),bm 3 (AV (bk .i64) AL),bm 3 (AV (bk .i64) AC)]] []=some (cd (Ee AA AL AC),[]):=SG AA AL AC (WQ AA AL AC h0 h1 h2)
end Go.Proofs.Ytclkfhhdikfcpaa
end
