/- Functions of the program as plain functions, and what they compute. Conditions: those in each lemma. -/
import Derived.Test.YtclkfhhdikfcpaaL6
import Derived.Test.YtclkfhhdikfcpaaNet
open Dv.D renaming int → bh,sl → b9,bool → cc,own → cb,box → cj,agg → cm
open Inhabited renaming default → bj
open Nat renaming reduceEqDiff → bk,reduceLT → bl,reduceLeDiff → bm,reduceAdd → bo,reduceMul → bp,reduceMod → br,reduceDiv → bt,reducePow → bw,reduceSub → bx,reduceBEq → bO
open Int renaming reduceLE → b0,reduceLT → b3,reduceEq → b4,reduceSub → b5,reduceAdd → b6,reduceToNat → b7,reduceNeg → b8
open Go.IntKind renaming i64 → cf
open Sum renaming inr → ca,inl → cd
open Go.ResultVar renaming tmp → ce
open List renaming range → an
noncomputable section
namespace Go.Proofs.Ytclkfhhdikfcpaa
open Go Dv
set_option linter.unusedSimpArgs false
set_option linter.unusedVariables false
set_option maxRecDepth 100000
set_option maxHeartbeats 4000000
def Dm(list:AP)(low:Int)(high:Int)(Hz:Int):Option ((Int)⊕(Unit⊕Unit)):= if Hz<(list.length:Int)then ck (0≤Hz∧Hz.toNat<list.length)<| if(I9 (list.getD Hz.toNat bj) low high)=true then if 0<Hz then ck (0≤cf.wrap (Hz-1)∧(cf.wrap (Hz-1)).toNat<list.length)<| if(list.getD Hz.toNat bj)≤(list.getD ((cf.wrap (Hz-1)).toNat) bj)then some (ca (cd ())) else some (cd (cf.wrap (Hz+1))) else some (cd (cf.wrap (Hz+1))) else some (ca (cd ())) else some (ca (ca ()))
def Ia(list:AP)(low:Int)(high:Int)(v:Int):Option (Unit⊕Unit):=JB (fun v=>Dm list low high v) v
def KE(list:AP)(low:Int)(high:Int):Option (Bool):=
 (Ia list low high 0).bind fun Ae=>
 match Ae with
 | .inl q1000_=>
  some false
 | .inr q1000_=>
  some true
def Uj:SC:= .seq (.ops [oB 12 .lss 3 (tK 11) (tK 10) 3 0]) (.seq (.cond (tK 12) .skip (.exit 0)) (.seq (.block 1 (.seq (.ops [oM 13 11 3,oI 14 26 9 11,oL 15 3 14 3,oA 7 13 3,oA 8 15 3]) (.seq (.ops [oM 16 8 3,oM 17 1 3,oM 18 2 3,oC 19 97 [(tK 16),(tK 17),(tK 18)] [3,3,3] 4,oX 20 (.unOp .not 4 (tK 19)) 4,oM 21 20 4,⟨(some 22),(.move (tK 7)),3,(some (some 21,false))⟩,⟨(some 23),(.binOp .gtr 3 (tK 22) (iK 0) 3),4,(some (some 21,false))⟩,⟨(some 24),(.move (tK 23)),4,(some (some 21,false))⟩,⟨(some 25),(.move (tK 0)),26,(some (some 24,true))⟩,⟨(some 26),(.move (tK 7)),3,(some (some 24,true))⟩,⟨(some 27),(.binOp .sub 3 (tK 26) (iK 1) 3),3,(some (some 24,true))⟩,⟨(some 28),(.indexAddr 26 (tK 25) (tK 27)),0,(some (some 24,true))⟩,⟨(some 29),(.load 3 (tK 28)),3,(some (some 24,true))⟩,⟨(some 30),(.move (tK 8)),3,(some (some 24,true))⟩,⟨(some 31),(.binOp .geq 3 (tK 29) (tK 30) 3),4,(some (some 24,true))⟩,⟨(some 32),(.pick (tK 24) (tK 31) Py),4,(some (some 21,false))⟩,oX 33 (.pick (tK 21) Dl (tK 32)) 4]) (.cond (tK 33) (.seq (.ops [oX 6 BS 4]) .ret) .skip)))) (.ops [oB 34 .add 3 (tK 11) (iK 1) 3 3,oM 11 34 3])))
def gV:SC:= .loop Uj
def A2y:SC:= .seq (.ops [oX 6 BS 4]) (.seq (.seq (.ops [oM 9 0 26,oN 10 9 26,oX 11 (.move (iK 0)) 3]) (.block 0 gV)) (.seq (.ops [oX 6 (.assign Dl) 4]) .ret))
theorem uB:Try.f153.body.map (BV lends)=some A2y:=by kernel_rfl
theorem AAI:Bl Try.f153 3=true:=by kernel_rfl
theorem AFo{a l:List D}{r:D×List D}(h:Br Y.env A2y (Fa Ag l.length [ce 6] r) (entry a l))(ha:a.length=3):Y.call 153 a l=some r:=
 Af (Y:=Y) rfl Try.func153 (ha▸AAI) uB h
def Bu(list:AP)(low:Int)(high:Int)(Hz:Int)(s:St):Prop:=s.v 0=b9 3 (AR (bh .i64) list)∧s.v 1=bh .i64 low∧s.v 2=bh .i64 high∧s.v 9=b9 3 (AR (bh .i64) list)∧s.v 10=bh .i64 (list.length:Int)∧s.v 11=bh .i64 Hz
def Bv(list:AP)(low:Int)(high:Int)(r:Unit⊕Unit)(ex:Ex)(s:St):Prop:=match r with
 | .inl q=>ex= .ret∧s.v 6=cc false
 | .inr q=>ex= .exit 0
theorem P9(list:AP)(low:Int)(high:Int){v:Int}{s:St}{r:Unit⊕Unit}(h:Ia list low high v=some r)(hM:Bu list low high v s):Br Y.env gV (Bv list low high r) s:=by
 unfold Ia at h;refine BX (c:=Uj) (fun v=>Dm list low high v) (fun v s=>Bu list low high v s) (Bv list low high) ?_ h hM;clear h hM s v r;intro Hz s o hM h;unfold Dm at h;unfold Bu at hM;obtain⟨m0,m1,m2,m3,m4,m5⟩:=hM;unfold Uj;by_cases e1:Hz<(list.length:Int)
 ·rw [if_pos e1]at h;obtain⟨e2,h⟩:=Bw h;have c3:=Ik (list.getD Hz.toNat bj) low high;by_cases e4:(I9 (list.getD Hz.toNat bj) low high)=true
  ·rw [if_pos e4]at h;by_cases e5:0<Hz
   ·rw [if_pos e5]at h;obtain⟨e6,h⟩:=Bw h;by_cases e7:(list.getD Hz.toNat bj)≤(list.getD ((cf.wrap (Hz-1)).toNat) bj)
    ·rw [if_pos e7]at h
     obtain rfl:=Option.some.inj h
     simp (maxDischargeDepth:=9) only [↓AU,AV,Ap,↓reduceIte,bk,bl,bm,bo,bp,br,bt,bw,bx,bO,b0,b3,b4,b5,b6,b7,b8,m0,m1,m2,m3,m4,m5,e1,e2.1,e2.2,c3,e4,e5,e6.1,e6.2,e7,Bu,Bv,Ca,Cb,Cc]<;>(repeat' apply A7)<;>first|rfl|exact⟨_,rfl⟩|exact⟨_,_,rfl⟩|simp [AR,AB]
    ·rw [if_neg e7]at h
     obtain rfl:=Option.some.inj h
     simp (maxDischargeDepth:=9) only [↓AU,AV,Ap,↓reduceIte,bk,bl,bm,bo,bp,br,bt,bw,bx,bO,b0,b3,b4,b5,b6,b7,b8,m0,m1,m2,m3,m4,m5,e1,e2.1,e2.2,c3,e4,e5,e6.1,e6.2,e7,Bu,Bv,Ca,Cb,Cc]<;>(repeat' apply A7)<;>first|rfl|exact⟨_,rfl⟩|exact⟨_,_,rfl⟩|simp [AR,AB]
   ·rw [if_neg e5]at h
    obtain rfl:=Option.some.inj h
    simp (maxDischargeDepth:=9) only [↓AU,AV,Ap,↓reduceIte,bk,bl,bm,bo,bp,br,bt,bw,bx,bO,b0,b3,b4,b5,b6,b7,b8,m0,m1,m2,m3,m4,m5,e1,e2.1,e2.2,c3,e4,e5,Bu,Bv,Ca,Cb,Cc]<;>(repeat' apply A7)<;>first|rfl|exact⟨_,rfl⟩|exact⟨_,_,rfl⟩|simp [AR,AB]
  ·rw [if_neg e4]at h;have e4f:(I9 (list.getD Hz.toNat bj) low high)=false:=K7.mpr e4
   obtain rfl:=Option.some.inj h
   simp (maxDischargeDepth:=9) only [↓AU,AV,Ap,↓reduceIte,bk,bl,bm,bo,bp,br,bt,bw,bx,bO,b0,b3,b4,b5,b6,b7,b8,m0,m1,m2,m3,m4,m5,e1,e2.1,e2.2,c3,e4f,Bu,Bv,Ca,Cb,Cc]<;>(repeat' apply A7)<;>first|rfl|exact⟨_,rfl⟩|exact⟨_,_,rfl⟩|simp [AR,AB]
 ·rw [if_neg e1]at h
  obtain rfl:=Option.some.inj h
  simp (maxDischargeDepth:=9) only [↓AU,AV,Ap,↓reduceIte,bk,bl,bm,bo,bp,br,bt,bw,bx,bO,b0,b3,b4,b5,b6,b7,b8,m0,m1,m2,m3,m4,m5,e1,Bu,Bv,Ca,Cb,Cc]<;>(repeat' apply A7)<;>first|rfl|exact⟨_,rfl⟩|exact⟨_,_,rfl⟩|simp [AR,AB]
theorem QA(list:AP)(low:Int)(high:Int){r:Bool}(h:KE list low high=some r):Y.call 153 [b9 3 (AR (bh .i64) list),bh .i64 low,bh .i64 high] []=some (cc r,[]):=by
 refine AFo ?_ rfl;unfold A2y;unfold KE at h;obtain⟨Ae,hl2,h⟩:=BD h;try dsimp only at h
 simp (maxDischargeDepth:=9) only [↓AU,AV,Ap,↓reduceIte,bk,bl,bm,bo,bp,br,bt,bw,bx,bO,b0,b3,b4,b5,b6,b7,b8];refine BL (P9 list low high hl2 ?_) ?_
 ·simp (maxDischargeDepth:=9) only [↓AU,AV,Ap,↓reduceIte,bk,bl,bm,bo,bp,br,bt,bw,bx,bO,b0,b3,b4,b5,b6,b7,b8,Bu]<;>(repeat' apply A7)<;>first|rfl|exact⟨_,rfl⟩|exact⟨_,_,rfl⟩|simp [AR,AB]
 ·intro ex2 s2 hX2;rcases Ae with q1000_|q1000_
  ·unfold Bv at hX2;dsimp only at hX2 h;obtain⟨rfl,n2_0⟩:=hX2
   obtain rfl:=Option.some.inj h
   simp (maxDischargeDepth:=9) only [↓AU,AV,Ap,↓reduceIte,bk,bl,bm,bo,bp,br,bt,bw,bx,bO,b0,b3,b4,b5,b6,b7,b8,n2_0]<;>(repeat' apply A7)<;>first|rfl|exact⟨_,rfl⟩|exact⟨_,_,rfl⟩|simp [AR,AB]
  ·unfold Bv at hX2;dsimp only at hX2 h
   obtain rfl:=hX2
   obtain rfl:=Option.some.inj h
   simp (maxDischargeDepth:=9) only [↓AU,AV,Ap,↓reduceIte,bk,bl,bm,bo,bp,br,bt,bw,bx,bO,b0,b3,b4,b5,b6,b7,b8]<;>(repeat' apply A7)<;>first|rfl|exact⟨_,rfl⟩|exact⟨_,_,rfl⟩|simp [AR,AB]
def Uk(l:AP)(lo hi:Int):Bool:=(an l.length).all fun i=>I9 (l.getD i bj) lo hi&&(decide (i=0)||decide (l.getD (i-1) bj<l.getD i bj))
theorem SG(l:AP)(lo hi:Int)(h:l.length<1099511627776):KE l lo hi=some (Uk l lo hi):=by
 have key:=IZ (fun v=>Dm l lo hi v) (fun i=>(i:Int)) l.length (fun i=>I9 (l.getD i bj) lo hi&&(decide (i=0)||decide (l.getD (i-1) bj<l.getD i bj))) (.inl ()) (.inr ()) ?_ ?_
 ·rw [LQ]at key;unfold KE Ia Uk;rw [key]
  cases (an l.length).all fun i=>I9 (l.getD i bj) lo hi&&(decide (i=0)||decide (l.getD (i-1) bj<l.getD i bj))<;>rfl
 ·intro i hi';simp only [Dm,K3];rw [if_pos (Bb hi'),Bq (by omega),KO i (by omega)]
  cases hr:I9 (l.getD i bj) lo hi with
  |false=>simp
  |true=>
   by_cases h0:i=0
   ·subst h0;rw [if_pos rfl,if_neg (by omega)]
    simp
   ·rw [if_pos rfl,if_pos (by omega),LZ _ (by omega),Bq (by omega),show((i:Int)-1).toNat=i-1 by omega,decide_eq_false h0]
    by_cases hlt:l.getD (i-1) bj<l.getD i bj
    ·rw [if_neg (by omega),decide_eq_true hlt];rfl
    ·rw [if_pos (by omega),decide_eq_false hlt];rfl
 ·simp only [Dm];rw [if_neg (BB _)]
theorem SH(list:AP)(low:Int)(high:Int)(h0:list.length<1099511627776):Y.call 153 [b9 3 (AR (bh .i64) list),bh .i64 low,bh .i64 high] []=some (cc (Uk list low high),[]):=QA list low high (SG list low high h0)
theorem eQ{l:AP}{lo hi:Int}(h:Uk l lo hi=true):l.Pairwise (fun a b=>a<b)∧ ∀x∈l,I9 x lo hi=true:=by
 have h0:=GG.1 h
 have step: ∀i,i+1<l.length→l.getD i bj<l.getD (i+1) bj:=fun i hi=>by
  have:=h0 (i+1) hi
  rw [FU]at this;simpa using this.2
 have fZ: ∀(d i:Nat),i+d+1<l.length→l.getD i bj<l.getD (i+d+1) bj:=by
  intro d
  induction d with
  |zero=>intro i hi;exact step i hi
  |succ d ih=>
   intro i hi;have h1:=ih i (by omega)
   have h2:=step (i+d+1) (by omega)
   rw [show i+(d+1)+1=i+d+1+1 by omega]
   omega
 refine⟨lD.2 fun i j hi hj hij=> ?_,fun x hx=> ?_⟩
 ·have:=fZ (j-i-1) i (by omega)
  rw [show i+(j-i-1)+1=j by omega,BN _ _ hi,BN _ _ hj]at this
  exact this
 ·obtain⟨i,hi,rfl⟩:=iY hx;have:=h0 i hi
  rw [FU,BN _ _ hi]at this;exact this.1
theorem pQ{l:AP}{lo hi:Int}(h1:l.Pairwise (fun a b=>a<b))(h2: ∀x∈l,I9 x lo hi=true):Uk l lo hi=true:=by
 refine GG.2 fun i hi=> ?_;rw [FU]
 refine⟨by rw [BN _ _ hi];exact h2 _ (LP hi), ?_⟩
 by_cases h0:i=0
 ·rw [decide_eq_true h0];rfl
 ·have:=lD.1 h1 (i-1) i (by omega) hi (by omega)
  rw [OO]
  right
  rw [decide_eq_true_eq,BN _ _ hi,BN _ _ (by omega:i-1<l.length)]
  exact this
def PD(ids:AP)(n:Int):Bool:=decide (ids.length=0)||(decide ((ids.length:Int)=n)&&(decide ids.Nodup&&Gy ids 1 999999))
theorem eT(ids:AP)(lo hi:Int):Uk (Rm ids) lo hi=(decide ids.Nodup&&Gy ids lo hi):=by
 rw [QT,FU,decide_eq_true_eq];have hp:=P8 ids;unfold Gy;rw [Jt]
 constructor
 ·intro h;obtain⟨h1,h2⟩:=eQ h
  refine⟨hp.nodup_iff.1 (h1.imp fun h=>by omega),fun x hx=>h2 x (hp.mem_iff.2 hx)⟩
 ·rintro⟨h1,h2⟩
  refine pQ ?_ fun x hx=>h2 x (hp.mem_iff.1 hx);have hn:(Rm ids).Pairwise (fun a b=>a≠b):=hp.nodup_iff.2 h1
  exact((UX ids).and hn).imp fun h=>by omega
theorem Kb(xs:AP)(h:xs.length<1099511627776):Y.call 121 [.sl 3 (AR (bh .i64) xs)] []=some (.own 3 (AR (bh .i64) xs),[]):=by
 refine kN (AR (bh .i64) xs) (by rw [JO];exact h) (Wy _ _ (fun x=>rfl)) (Ox _ _ (fun x=>by first|exact hoI .. |exact A5V .. |exact hoB .. |exact hoS ..)) ?_
 simp (maxDischargeDepth:=9) only [↓AU,AV,Ap,↓reduceIte,bk,bl,bm,bo,bp,br,bt,bw,bx,bO,b0,b3,b4,b5,b6,b7,b8,Option.isSome_some]
def Sn(ids:AP)(nodes:Int):Option (Bool):= if(ids.length:Int)=0 then some true else ck (ids.length<1099511627776)<| ck (ids.length<4611686018427387904)<| if(ids.length:Int)=nodes then ck ((Ij ids).length<1099511627776)<| some (Uk (Ij ids) (1:Int) (999999:Int)) else some false
def A2z:SC:= .seq (.ops [oX 4 BS 4]) (.seq (.seq (.ops [oM 6 0 26,oN 7 6 26,oB 8 .eql 3 (tK 7) (iK 0) 3 4]) (.cond (tK 8) (.seq (.ops [oX 4 (.assign Dl) 4]) .ret) .skip)) (.seq (.ops [oM 9 0 26,oC 10 121 [(tK 9)] [26] 26,oA 5 10 26]) (.seq (.ops [oM 11 5 26,oC 12 152 [(tK 11)] [26] 0]) (.seq (.ops [oM 13 0 26,oN 14 13 26,oM 15 1 3,oB 16 .eql 3 (tK 14) (tK 15) 3 4,oM 17 16 4,⟨(some 18),(.move (tK 5)),26,(some (some 17,true))⟩,⟨(some 19),(.call ⟨(.value (.func 153)), #[(tK 18),(iK 1),(iK 999999)], #[26,3,3]⟩),4,(some (some 17,true))⟩,oX 20 (.pick (tK 17) (tK 19) Py) 4,oA 4 20 4]) .ret))))
theorem uC:Try.f112.body.map (BV lends)=some A2z:=by kernel_rfl
theorem AAJ:Bl Try.f112 2=true:=by kernel_rfl
theorem AFp{a l:List D}{r:D×List D}(h:Br Y.env A2z (Fa Ag l.length [ce 4] r) (entry a l))(ha:a.length=2):Y.call 112 a l=some r:=
 Af (Y:=Y) rfl Try.func112 (ha▸AAJ) uC h
theorem YE(ids:AP)(nodes:Int){r:Bool}(h:Sn ids nodes=some r):Y.call 112 [b9 3 (AR (bh .i64) ids),bh .i64 nodes] []=some (cc r,[]):=by
 refine AFp ?_ rfl;unfold A2z;unfold Sn at h;by_cases e1:(ids.length:Int)=0
 ·rw [if_pos e1]at h
  obtain rfl:=Option.some.inj h
  simp (maxDischargeDepth:=9) only [↓AU,AV,Ap,↓reduceIte,bk,bl,bm,bo,bp,br,bt,bw,bx,bO,b0,b3,b4,b5,b6,b7,b8,decide_eq_true e1]<;>(repeat' apply A7)<;>first|rfl|exact⟨_,rfl⟩|exact⟨_,_,rfl⟩|simp [AR,AB]
 ·rw [if_neg e1]at h;obtain⟨e2,h⟩:=Bw h;have c3:=Kb ids e2;obtain⟨e4,h⟩:=Bw h;have c5:=ou ids e4;by_cases e6:(ids.length:Int)=nodes
  ·rw [if_pos e6]at h;obtain⟨e7,h⟩:=Bw h;have c8:=SH (Ij ids) (1:Int) (999999:Int) e7
   obtain rfl:=Option.some.inj h
   simp (maxDischargeDepth:=9) only [↓AU,AV,Ap,↓reduceIte,bk,bl,bm,bo,bp,br,bt,bw,bx,bO,b0,b3,b4,b5,b6,b7,b8,e1,e2,c3,e4,c5,decide_eq_true e6,e7,c8]<;>(repeat' apply A7)<;>first|rfl|exact⟨_,rfl⟩|exact⟨_,_,rfl⟩|simp [AR,AB]
  ·rw [if_neg e6]at h
   obtain rfl:=Option.some.inj h
   simp (maxDischargeDepth:=9) only [↓AU,AV,Ap,↓reduceIte,bk,bl,bm,bo,bp,br,bt,bw,bx,bO,b0,b3,b4,b5,b6,b7,b8,e1,e2,c3,e4,c5,e6]<;>(repeat' apply A7)<;>first|rfl|exact⟨_,rfl⟩|exact⟨_,_,rfl⟩|simp [AR,AB]
def I4(ids:AP)(nodes:Int)(Gj:Int):Option ((Int)⊕(Unit⊕Unit)):= if Gj<(ids.length:Int)then ck (0≤Gj∧Gj.toNat<ids.length)<| if(I9 (ids.getD Gj.toNat bj) (1:Int) (999999:Int))=true then ck (0≤Gj)<| ck (Gj.toNat≤ids.length)<| ck (((ids.take Gj.toNat).drop 0).length<1099511627776)<| if(((ids.take Gj.toNat).drop 0).contains (ids.getD Gj.toNat bj))=true then some (ca (cd ())) else some (cd (cf.wrap (Gj+1))) else some (ca (cd ())) else some (ca (ca ()))
def Mi(ids:AP)(nodes:Int)(v:Int):Option (Unit⊕Unit):=JB (fun v=>I4 ids nodes v) v
def Sq(ids:AP)(nodes:Int):Option (Bool):=
 (Mi ids nodes 0).bind fun Ae=>
 match Ae with
 | .inl q1000_=>
  some false
 | .inr q1000_=>
  if(ids.length:Int)=0 then
   some true
  else
   some (decide ((ids.length:Int)=nodes))
def Ul:SC:= .seq (.ops [oB 10 .lss 3 (tK 9) (tK 8) 3 0]) (.seq (.cond (tK 10) .skip (.exit 0)) (.seq (.block 1 (.seq (.ops [oM 11 9 3,oI 12 26 7 9,oL 13 3 12 3,oA 5 11 3,oA 6 13 3]) (.seq (.ops [oM 14 6 3,oC 15 92 [(tK 14),(iK 1),(iK 999999)] [3,3,3] 4,oX 16 (.unOp .not 4 (tK 15)) 4,oM 17 16 4,⟨(some 18),(.move (tK 0)),26,(some (some 17,false))⟩,⟨(some 19),(.move (tK 5)),3,(some (some 17,false))⟩,⟨(some 20),(.slice 26 (tK 18) none (some (tK 19)) none),900001,(some (some 17,false))⟩,⟨(some 21),(.move (tK 6)),3,(some (some 17,false))⟩,⟨(some 22),(.call ⟨(.value (.func 89)), #[(tK 20),(tK 21)], #[26,3]⟩),4,(some (some 17,false))⟩,oX 23 (.pick (tK 17) Dl (tK 22)) 4]) (.cond (tK 23) (.seq (.ops [oX 4 BS 4]) .ret) .skip)))) (.ops [oB 24 .add 3 (tK 9) (iK 1) 3 3,oM 9 24 3])))
def gW:SC:= .loop Ul
def A30:SC:= .seq (.ops [oX 4 BS 4]) (.seq (.seq (.ops [oM 7 0 26,oN 8 7 26,oX 9 (.move (iK 0)) 3]) (.block 0 gW)) (.seq (.ops [oM 25 0 26,oN 26 25 26,oB 27 .eql 3 (tK 26) (iK 0) 3 4,oM 28 27 4,⟨(some 29),(.move (tK 0)),26,(some (some 28,false))⟩,⟨(some 30),(.call ⟨(.builtin .len), #[(tK 29)], #[26]⟩),3,(some (some 28,false))⟩,⟨(some 31),(.move (tK 1)),3,(some (some 28,false))⟩,⟨(some 32),(.binOp .eql 3 (tK 30) (tK 31) 3),4,(some (some 28,false))⟩,oX 33 (.pick (tK 28) Dl (tK 32)) 4,oA 4 33 4]) .ret))
theorem uD:Try.f106.body.map (BV lends)=some A30:=by kernel_rfl
theorem AAK:Bl Try.f106 2=true:=by kernel_rfl
theorem AFq{a l:List D}{r:D×List D}(h:Br Y.env A30 (Fa Ag l.length [ce 4] r) (entry a l))(ha:a.length=2):Y.call 106 a l=some r:=
 Af (Y:=Y) rfl Try.func106 (ha▸AAK) uD h
def Ej(ids:AP)(nodes:Int)(Gj:Int)(s:St):Prop:=s.v 0=b9 3 (AR (bh .i64) ids)∧s.v 1=bh .i64 nodes∧s.v 7=b9 3 (AR (bh .i64) ids)∧s.v 8=bh .i64 (ids.length:Int)∧s.v 9=bh .i64 Gj
def El(ids:AP)(nodes:Int)(r:Unit⊕Unit)(ex:Ex)(s:St):Prop:=match r with
 | .inl q=>ex= .ret∧s.v 4=cc false
 | .inr q=>ex= .exit 0∧s.v 0=b9 3 (AR (bh .i64) ids)∧s.v 1=bh .i64 nodes
theorem WI(ids:AP)(nodes:Int){v:Int}{s:St}{r:Unit⊕Unit}(h:Mi ids nodes v=some r)(hM:Ej ids nodes v s):Br Y.env gW (El ids nodes r) s:=by
 unfold Mi at h;refine BX (c:=Ul) (fun v=>I4 ids nodes v) (fun v s=>Ej ids nodes v s) (El ids nodes) ?_ h hM;clear h hM s v r;intro Gj s o hM h;unfold I4 at h;unfold Ej at hM;obtain⟨m0,m1,m2,m3,m4⟩:=hM;unfold Ul;by_cases e1:Gj<(ids.length:Int)
 ·rw [if_pos e1]at h;obtain⟨e2,h⟩:=Bw h;have c3:=KQ (ids.getD Gj.toNat bj) (1:Int) (999999:Int);by_cases e4:(I9 (ids.getD Gj.toNat bj) (1:Int) (999999:Int))=true
  ·rw [if_pos e4]at h;obtain⟨e5,h⟩:=Bw h;obtain⟨e6,h⟩:=Bw h;obtain⟨e7,h⟩:=Bw h;have c8:=Mh ((ids.take Gj.toNat).drop 0) (ids.getD Gj.toNat bj) e7;by_cases e9:(((ids.take Gj.toNat).drop 0).contains (ids.getD Gj.toNat bj))=true
   ·rw [if_pos e9]at h
    obtain rfl:=Option.some.inj h
    simp (maxDischargeDepth:=9) only [↓AU,AV,Ap,↓reduceIte,bk,bl,bm,bo,bp,br,bt,bw,bx,bO,b0,b3,b4,b5,b6,b7,b8,m0,m1,m2,m3,m4,e1,e2.1,e2.2,c3,e4,e5,e6,e7,c8,e9,Ej,El,Ca,Cb,Cc]<;>(repeat' apply A7)<;>first|rfl|exact⟨_,rfl⟩|exact⟨_,_,rfl⟩|simp [AR,AB]
   ·rw [if_neg e9]at h;have e9f:(((ids.take Gj.toNat).drop 0).contains (ids.getD Gj.toNat bj))=false:=K7.mpr e9
    obtain rfl:=Option.some.inj h
    simp (maxDischargeDepth:=9) only [↓AU,AV,Ap,↓reduceIte,bk,bl,bm,bo,bp,br,bt,bw,bx,bO,b0,b3,b4,b5,b6,b7,b8,m0,m1,m2,m3,m4,e1,e2.1,e2.2,c3,e4,e5,e6,e7,c8,e9f,Ej,El,Ca,Cb,Cc]<;>(repeat' apply A7)<;>first|rfl|exact⟨_,rfl⟩|exact⟨_,_,rfl⟩|simp [AR,AB]
  ·rw [if_neg e4]at h;have e4f:(I9 (ids.getD Gj.toNat bj) (1:Int) (999999:Int))=false:=K7.mpr e4
   obtain rfl:=Option.some.inj h
   simp (maxDischargeDepth:=9) only [↓AU,AV,Ap,↓reduceIte,bk,bl,bm,bo,bp,br,bt,bw,bx,bO,b0,b3,b4,b5,b6,b7,b8,m0,m1,m2,m3,m4,e1,e2.1,e2.2,c3,e4f,Ej,El,Ca,Cb,Cc]<;>(repeat' apply A7)<;>first|rfl|exact⟨_,rfl⟩|exact⟨_,_,rfl⟩|simp [AR,AB]
 ·rw [if_neg e1]at h
  obtain rfl:=Option.some.inj h
  simp (maxDischargeDepth:=9) only [↓AU,AV,Ap,↓reduceIte,bk,bl,bm,bo,bp,br,bt,bw,bx,bO,b0,b3,b4,b5,b6,b7,b8,m0,m1,m2,m3,m4,e1,Ej,El,Ca,Cb,Cc]<;>(repeat' apply A7)<;>first|rfl|exact⟨_,rfl⟩|exact⟨_,_,rfl⟩|simp [AR,AB]
theorem YF(ids:AP)(nodes:Int){r:Bool}(h:Sq ids nodes=some r):Y.call 106 [b9 3 (AR (bh .i64) ids),bh .i64 nodes] []=some (cc r,[]):=by
 refine AFq ?_ rfl;unfold A30;unfold Sq at h;obtain⟨Ae,hl2,h⟩:=BD h;try dsimp only at h
 simp (maxDischargeDepth:=9) only [↓AU,AV,Ap,↓reduceIte,bk,bl,bm,bo,bp,br,bt,bw,bx,bO,b0,b3,b4,b5,b6,b7,b8];refine BL (WI ids nodes hl2 ?_) ?_
 ·simp (maxDischargeDepth:=9) only [↓AU,AV,Ap,↓reduceIte,bk,bl,bm,bo,bp,br,bt,bw,bx,bO,b0,b3,b4,b5,b6,b7,b8,Ej]<;>(repeat' apply A7)<;>first|rfl|exact⟨_,rfl⟩|exact⟨_,_,rfl⟩|simp [AR,AB]
 ·intro ex2 s2 hX2;rcases Ae with q1000_|q1000_
  ·unfold El at hX2;dsimp only at hX2 h;obtain⟨rfl,n2_0⟩:=hX2
   obtain rfl:=Option.some.inj h
   simp (maxDischargeDepth:=9) only [↓AU,AV,Ap,↓reduceIte,bk,bl,bm,bo,bp,br,bt,bw,bx,bO,b0,b3,b4,b5,b6,b7,b8,n2_0]<;>(repeat' apply A7)<;>first|rfl|exact⟨_,rfl⟩|exact⟨_,_,rfl⟩|simp [AR,AB]
  ·unfold El at hX2;dsimp only at hX2 h;obtain⟨rfl,n2_0,n2_1⟩:=hX2;by_cases e3:(ids.length:Int)=0
   ·rw [if_pos e3]at h
    obtain rfl:=Option.some.inj h
    simp (maxDischargeDepth:=9) only [↓AU,AV,Ap,↓reduceIte,bk,bl,bm,bo,bp,br,bt,bw,bx,bO,b0,b3,b4,b5,b6,b7,b8,n2_0,n2_1,decide_eq_true e3]<;>(repeat' apply A7)<;>first|rfl|exact⟨_,rfl⟩|exact⟨_,_,rfl⟩|simp [AR,AB]
   ·rw [if_neg e3]at h
    obtain rfl:=Option.some.inj h
    simp (maxDischargeDepth:=9) only [↓AU,AV,Ap,↓reduceIte,bk,bl,bm,bo,bp,br,bt,bw,bx,bO,b0,b3,b4,b5,b6,b7,b8,n2_0,n2_1,e3]<;>(repeat' apply A7)<;>first|rfl|exact⟨_,rfl⟩|exact⟨_,_,rfl⟩|simp [AR,AB]
theorem eU(ids:AP)(n:Int)(h:ids.length<1099511627776):Sn ids n=some (PD ids n):=by
 unfold Sn PD;by_cases h0:ids.length=0
 ·rw [if_pos (by omega),decide_eq_true h0];rfl
 ·rw [if_neg (by omega),Bq h,Bq (by omega),decide_eq_false h0,VZ]
  by_cases h1:(ids.length:Int)=n
  ·rw [if_pos h1,pG,Bq (by rw [kT];exact h),eT,decide_eq_true h1];rfl
  ·rw [if_neg h1,decide_eq_false h1];rfl
theorem kU(ids:AP):(an ids.length).all (fun i=>I9 (ids.getD i bj) 1 999999&& !(ids.take i).contains (ids.getD i bj))=(decide ids.Nodup&&Gy ids 1 999999):=by
 rw [QT,GG,FU,decide_eq_true_eq];unfold Gy;rw [Jt]
 constructor
 ·intro h
  refine⟨lD.2 fun i j hi hj hij he=> ?_,fun x hx=> ?_⟩
  ·have:=h j hj
   rw [FU,LM,←Bool.not_eq_true,T9,BN _ _ hj]at this;refine this.2 ?_;rw [←he];exact List.mem_take_iff_getElem.2 ⟨i,by omega,rfl⟩
  ·obtain⟨i,hi,rfl⟩:=iY hx;have:=h i hi
   rw [FU,BN _ _ hi]at this;exact this.1
 ·rintro⟨h1,h2⟩ i hi
  rw [FU,LM,←Bool.not_eq_true,T9,BN _ _ hi]
  refine⟨h2 _ (LP hi),fun hm=> ?_⟩
  obtain⟨j,hj,he⟩:=List.mem_take_iff_getElem.1 hm;exact lD.1 h1 j i (by omega) hi (by omega) he
theorem eX(ids:AP)(n:Int)(h:ids.length<1099511627776):Sq ids n=some (PD ids n):=by
 have key:=IZ (fun v=>I4 ids n v) (fun i=>(i:Int)) ids.length (fun i=>I9 (ids.getD i bj) 1 999999&& !(ids.take i).contains (ids.getD i bj)) (.inl ()) (.inr ()) ?_ ?_
 ·rw [LQ,kU]at key;unfold Sq Mi PD;rw [key,Cn];by_cases h0:ids.length=0
  ·have:ids=[]:=lC h0
   subst this;simp [Gy]
  ·rw [decide_eq_false h0,VZ]
   cases decide ids.Nodup&&Gy ids 1 999999 with
   |false=>rw [Bool.and_false];rfl
   |true=>rw [TC,if_pos rfl];simp only;rw [if_neg (by omega)]
 ·intro i hi;simp only [I4,K3,List.drop_zero];rw [if_pos (Bb hi),Bq (by omega),Bq (by omega),Bq (by omega),Bq (by rw [OM];omega),KO i (by omega)]
  cases I9 (ids.getD i bj) 1 999999<;>cases (ids.take i).contains (ids.getD i bj)<;>rfl
 ·simp only [I4];rw [if_neg (BB _)]
theorem eY(ids:AP)(nodes:Int)(h0:ids.length<1099511627776):Y.call 112 [b9 3 (AR (bh .i64) ids),bh .i64 nodes] []=some (cc (PD ids nodes),[]):=YE ids nodes (eU ids nodes h0)
theorem eZ(ids:AP)(nodes:Int)(h0:ids.length<1099511627776):Y.call 106 [b9 3 (AR (bh .i64) ids),bh .i64 nodes] []=some (cc (PD ids nodes),[]):=YF ids nodes (eX ids nodes h0)
def Mj(inputs:AP)(nodes:Int):Option (Bool):= if(inputs.length:Int)=nodes then ck (inputs.length<1099511627776)<| some (Gy inputs (0:Int) (9:Int)) else some false
def A31:SC:= .seq (.ops [oX 4 BS 4]) (.seq (.ops [oM 5 0 26,oN 6 5 26,oM 7 1 3,oB 8 .eql 3 (tK 6) (tK 7) 3 4,oM 9 8 4,⟨(some 10),(.move (tK 0)),26,(some (some 9,true))⟩,⟨(some 11),(.call ⟨(.value (.func 144)), #[(tK 10),(iK 0),(iK 9)], #[26,3,3]⟩),4,(some (some 9,true))⟩,oX 12 (.pick (tK 9) (tK 11) Py) 4,oA 4 12 4]) .ret)
theorem uE:Try.f113.body.map (BV lends)=some A31:=by kernel_rfl
theorem AAL:Bl Try.f113 2=true:=by kernel_rfl
theorem AFr{a l:List D}{r:D×List D}(h:Br Y.env A31 (Fa Ag l.length [ce 4] r) (entry a l))(ha:a.length=2):Y.call 113 a l=some r:=
 Af (Y:=Y) rfl Try.func113 (ha▸AAL) uE h
theorem SI(inputs:AP)(nodes:Int){r:Bool}(h:Mj inputs nodes=some r):Y.call 113 [b9 3 (AR (bh .i64) inputs),bh .i64 nodes] []=some (cc r,[]):=by
 refine AFr ?_ rfl;unfold A31;unfold Mj at h;by_cases e1:(inputs.length:Int)=nodes
 ·rw [if_pos e1]at h;obtain⟨e2,h⟩:=Bw h;have c3:=UW inputs (0:Int) (9:Int) e2
  obtain rfl:=Option.some.inj h
  simp (maxDischargeDepth:=9) only [↓AU,AV,Ap,↓reduceIte,bk,bl,bm,bo,bp,br,bt,bw,bx,bO,b0,b3,b4,b5,b6,b7,b8,decide_eq_true e1,e2,c3]<;>(repeat' apply A7)<;>first|rfl|exact⟨_,rfl⟩|exact⟨_,_,rfl⟩|simp [AR,AB]
 ·rw [if_neg e1]at h
  obtain rfl:=Option.some.inj h
  simp (maxDischargeDepth:=9) only [↓AU,AV,Ap,↓reduceIte,bk,bl,bm,bo,bp,br,bt,bw,bx,bO,b0,b3,b4,b5,b6,b7,b8,e1]<;>(repeat' apply A7)<;>first|rfl|exact⟨_,rfl⟩|exact⟨_,_,rfl⟩|simp [AR,AB]
def CS(AO:Ay)(AX:AP)(AJ:AP)(v_:Int):Option (Bool):= some (I9 v_ (0:Int) (cf.wrap ((AO.length:Int)-1)))
def A32:SC:= .seq (.ops [oX 2 (.box 47 (tK 0)) 0,oX 4 BS 4]) (.seq (.ops [oM 5 1 3,oF 6 47 2 0,oL 7 45 6 45,oN 8 7 45,oB 9 .sub 3 (tK 8) (iK 1) 3 3,oC 10 97 [(tK 5),(iK 0),(tK 9)] [3,3,3] 4,oA 4 10 4]) .ret)
theorem uF:Try.f130.body.map (BV lends)=some A32:=by kernel_rfl
theorem AAM:Bl Try.f130 2=true:=by kernel_rfl
theorem AFs{a l:List D}{r:D×List D}(h:Br Y.env A32 (Fa Ag l.length [ce 4] r) (entry a l))(ha:a.length=2):Y.call 130 a l=some r:=
 Af (Y:=Y) rfl Try.func130 (ha▸AAM) uF h
theorem Fq(AO:Ay)(AX:AP)(AJ:AP)(v_:Int){r:Bool}(h:CS AO AX AJ v_=some r):Y.call 130 [cm [b9 123 (AR (fun x=>b9 125 (Az .i64 .i64 x)) AO),b9 3 (AR (bh .i64) AX),b9 3 (AR (bh .i64) AJ)],bh .i64 v_] []=some (cc r,[]):=by
 refine AFs ?_ rfl;unfold A32;unfold CS at h;have c1:=Ik v_ (0:Int) (cf.wrap ((AO.length:Int)-1))
 obtain rfl:=Option.some.inj h
 simp (maxDischargeDepth:=9) only [↓AU,AV,Ap,↓reduceIte,bk,bl,bm,bo,bp,br,bt,bw,bx,bO,b0,b3,b4,b5,b6,b7,b8,c1]<;>(repeat' apply A7)<;>first|rfl|exact⟨_,rfl⟩|exact⟨_,_,rfl⟩|simp [AR,AB]
def Gf(AO:Ay)(AX:AP)(AJ:AP)(v_:Int)(i:Int):Option (Bool):= (CS AO AX AJ v_).bind fun r9_=> if r9_=true then ck (0≤v_∧v_.toNat<AO.length)<| some (I9 i (0:Int) (cf.wrap (((AO.getD v_.toNat bj).length:Int)-1))) else some false
def A33:SC:= .seq (.ops [oX 3 (.box 47 (tK 0)) 0,oX 6 BS 4]) (.seq (.ops [oL 7 47 3 47,oM 8 1 3,oC 9 130 [(tK 7),(tK 8)] [47,3] 4,oM 10 9 4,⟨(some 11),(.move (tK 2)),3,(some (some 10,true))⟩,⟨(some 12),(.fieldAddr 47 (tK 3) 0),0,(some (some 10,true))⟩,⟨(some 13),(.load 45 (tK 12)),45,(some (some 10,true))⟩,⟨(some 14),(.move (tK 1)),3,(some (some 10,true))⟩,⟨(some 15),(.indexAddr 45 (tK 13) (tK 14)),0,(some (some 10,true))⟩,⟨(some 16),(.load 123 (tK 15)),123,(some (some 10,true))⟩,⟨(some 17),(.call ⟨(.builtin .len), #[(tK 16)], #[123]⟩),3,(some (some 10,true))⟩,⟨(some 18),(.binOp .sub 3 (tK 17) (iK 1) 3),3,(some (some 10,true))⟩,⟨(some 19),(.call ⟨(.value (.func 97)), #[(tK 11),(iK 0),(tK 18)], #[3,3,3]⟩),4,(some (some 10,true))⟩,oX 20 (.pick (tK 10) (tK 19) Py) 4,oA 6 20 4]) .ret)
theorem uG:Try.f114.body.map (BV lends)=some A33:=by kernel_rfl
theorem AAN:Bl Try.f114 3=true:=by kernel_rfl
theorem AFt{a l:List D}{r:D×List D}(h:Br Y.env A33 (Fa Ag l.length [ce 6] r) (entry a l))(ha:a.length=3):Y.call 114 a l=some r:=
 Af (Y:=Y) rfl Try.func114 (ha▸AAN) uG h
theorem Mk(AO:Ay)(AX:AP)(AJ:AP)(v_:Int)(i:Int){r:Bool}(h:Gf AO AX AJ v_ i=some r):Y.call 114 [cm [b9 123 (AR (fun x=>b9 125 (Az .i64 .i64 x)) AO),b9 3 (AR (bh .i64) AX),b9 3 (AR (bh .i64) AJ)],bh .i64 v_,bh .i64 i] []=some (cc r,[]):=by
 refine AFt ?_ rfl;unfold A33;unfold Gf at h;obtain⟨r9_,hl1,h⟩:=BD h;try dsimp only at h
 have c1:=Fq AO AX AJ v_ hl1;by_cases e2:r9_=true
 ·rw [if_pos e2]at h;obtain⟨e3,h⟩:=Bw h;have c4:=Ik i (0:Int) (cf.wrap (((AO.getD v_.toNat bj).length:Int)-1))
  obtain rfl:=Option.some.inj h
  simp (maxDischargeDepth:=9) only [↓AU,AV,Ap,↓reduceIte,bk,bl,bm,bo,bp,br,bt,bw,bx,bO,b0,b3,b4,b5,b6,b7,b8,c1,e2,e3.1,e3.2,c4]<;>(repeat' apply A7)<;>first|rfl|exact⟨_,rfl⟩|exact⟨_,_,rfl⟩|simp [AR,AB]
 ·rw [if_neg e2]at h;have e2f:r9_=false:=K7.mpr e2
  obtain rfl:=Option.some.inj h
  simp (maxDischargeDepth:=9) only [↓AU,AV,Ap,↓reduceIte,bk,bl,bm,bo,bp,br,bt,bw,bx,bO,b0,b3,b4,b5,b6,b7,b8,c1,e2f]<;>(repeat' apply A7)<;>first|rfl|exact⟨_,rfl⟩|exact⟨_,_,rfl⟩|simp [AR,AB]
def EB(AA:Ay)(AQ:AP)(AC:AP)(D5:Int)(IK:Int):Option ((Int)⊕(Unit⊕Unit)):= if IK<((AA.getD D5.toNat bj).length:Int)then ck (0≤IK∧IK.toNat<(AA.getD D5.toNat bj).length)<| (Gf AA AQ AC (BQ (AA.getD D5.toNat bj) IK.toNat) (CU (AA.getD D5.toNat bj) IK.toNat)).bind fun aQ=> if aQ=true then ck (0≤(BQ (AA.getD D5.toNat bj) IK.toNat)∧(BQ (AA.getD D5.toNat bj) IK.toNat).toNat<AA.length)<| ck (0≤(CU (AA.getD D5.toNat bj) IK.toNat)∧(CU (AA.getD D5.toNat bj) IK.toNat).toNat<(AA.getD ((BQ (AA.getD D5.toNat bj) IK.toNat).toNat) bj).length)<| if(((BQ (AA.getD ((BQ (AA.getD D5.toNat bj) IK.toNat).toNat) bj) ((CU (AA.getD D5.toNat bj) IK.toNat).toNat))==D5)&&((CU (AA.getD ((BQ (AA.getD D5.toNat bj) IK.toNat).toNat) bj) ((CU (AA.getD D5.toNat bj) IK.toNat).toNat))==IK))=true then some (cd (cf.wrap (IK+1))) else some (ca (cd ())) else some (ca (cd ())) else some (ca (ca ()))
def H5(AA:Ay)(AQ:AP)(AC:AP)(D5:Int)(v:Int):Option (Unit⊕Unit):=JB (fun v=>EB AA AQ AC D5 v) v
def EC(AA:Ay)(AQ:AP)(AC:AP)(D5:Int):Option ((Int)⊕(Unit⊕Unit)):=
 if D5<(AA.length:Int)then
  ck (0≤D5∧D5.toNat<AA.length)<|
  if 6<((AA.getD D5.toNat bj).length:Int)then
   some (ca (cd ()))
  else
   (H5 AA AQ AC D5 0).bind fun Ae=>
   match Ae with
   | .inl q1000_=>
    some (ca (cd ()))
   | .inr q1000_=>
    some (cd (cf.wrap (D5+1)))
 else
  some (ca (ca ()))
def H6(AA:Ay)(AQ:AP)(AC:AP)(v:Int):Option (Unit⊕Unit):=JB (fun v=>EC AA AQ AC v) v
def LD(AA:Ay)(AQ:AP)(AC:AP):Option (Bool):=
 if(I9 (AA.length:Int) (1:Int) (40:Int))=true then
  ck (AQ.length<1099511627776)<|
  if(PD AQ (AA.length:Int))=true then
   (Mj AC (AA.length:Int)).bind fun uH=>
   if uH=true then
    (H6 AA AQ AC 0).bind fun Cz=>
    match Cz with
    | .inl q1001_=>
     some false
    | .inr q1001_=>
     some true
   else
    some false
  else
   some false
 else
  some false
abbrev Um:List Nat:=[48,49,50,51,52,53,54,55,56,57,58,59,60,61,62,63,64,65,66,67,68,66,67,69,70]
def YG:SC:= .seq (.ops [oB 44 .lss 3 (tK 43) (tK 42) 3 0]) (.seq (.cond (tK 44) .skip (.exit 2)) (.seq (.block 3 (.seq (.ops [oM 45 43 3,oI 46 123 41 43,oL 47 125 46 125,oX 6 (.alloc 125) 0,oA 5 45 3,oS 125 6 47]) (.seq (.draws [(⟨[48,1,1],Um,[48]⟩,oL 48 47 1 47),(⟨[49,6,6],Um,[49]⟩,oF 49 125 6 0),(⟨[50,49,6],Um,[50]⟩,oL 50 3 49 3),(⟨[51,6,6],Um,[51]⟩,oF 51 125 6 1),(⟨[52,51,6],Um,[52]⟩,oL 52 3 51 3),(⟨[53,48,50,52,1,6,6],Um,[53]⟩,oC 53 114 [(tK 48),(tK 50),(tK 52)] [47,3,3] 4),(⟨[54,53,53],Um,[54]⟩,oX 54 (.unOp .not 4 (tK 53)) 4),(⟨[55,54,54],Um,[55]⟩,oM 55 54 4),(⟨[56,1,1,55],Um,[56]⟩,⟨(some 56),dn,0,(some (some 55,false))⟩),(⟨[57,56,1,55],Um,[57]⟩,⟨(some 57),(.load 45 (tK 56)),45,(some (some 55,false))⟩),(⟨[58,6,6,55],Um,[58]⟩,⟨(some 58),(.fieldAddr 125 (tK 6) 0),0,(some (some 55,false))⟩),(⟨[59,58,6,55],Um,[59]⟩,⟨(some 59),(.load 3 (tK 58)),3,(some (some 55,false))⟩),(⟨[60,57,59,1,6,55],Um,[60]⟩,⟨(some 60),(.indexAddr 45 (tK 57) (tK 59)),0,(some (some 55,false))⟩),(⟨[61,60,1,55],Um,[61]⟩,⟨(some 61),(.load 123 (tK 60)),123,(some (some 55,false))⟩),(⟨[62,6,6,55],Um,[62]⟩,⟨(some 62),(.fieldAddr 125 (tK 6) 1),0,(some (some 55,false))⟩),(⟨[63,62,6,55],Um,[63]⟩,⟨(some 63),(.load 3 (tK 62)),3,(some (some 55,false))⟩),
 (⟨[64,61,63,1,6,55],Um,[64]⟩,⟨(some 64),(.indexAddr 123 (tK 61) (tK 63)),0,(some (some 55,false))⟩),(⟨[65,64,1,55],Um,[65]⟩,⟨(some 65),(.load 125 (tK 64)),125,(some (some 55,false))⟩),(⟨[66,3,3,55],Um,[66]⟩,⟨(some 66),(.move (tK 3)),3,(some (some 55,false))⟩),(⟨[67,5,5,55],Um,[67]⟩,⟨(some 67),(.move (tK 5)),3,(some (some 55,false))⟩),(⟨[68,66,67,3,5,55],Um,[68,66,67]⟩,⟨(some 68),(.build 125 #[(0,(tK 66)),(1,(tK 67))]),125,(some (some 55,false))⟩),(⟨[69,65,68,1,68,55],Um,[69]⟩,⟨(some 69),(.binOp .neq 125 (tK 65) (tK 68) 125),4,(some (some 55,false))⟩),(⟨[70,55,69,54,69],Um,[70]⟩,oX 70 (.pick (tK 55) Dl (tK 69)) 4)]) (.cond (tK 70) (.seq (.ops [oX 2 BS 4]) .ret) .skip)))) (.ops [oB 71 .add 3 (tK 43) (iK 1) 3 3,oM 43 71 3])))
def pR:SC:= .loop YG
def YH:SC:= .seq (.ops [oB 34 .lss 3 (tK 33) (tK 32) 3 0]) (.seq (.cond (tK 34) .skip (.exit 0)) (.seq (.block 1 (.seq (.ops [oM 35 33 3,oI 36 45 31 33,oL 37 123 36 123,oA 3 35 3,oA 4 37 123]) (.seq (.seq (.ops [oM 38 4 123,oN 39 38 123,oB 40 .gtr 3 (tK 39) (iK 6) 3 4]) (.cond (tK 40) (.seq (.ops [oX 2 BS 4]) .ret) .skip)) (.seq (.ops [oM 41 4 123,oN 42 41 123,oX 43 (.move (iK 0)) 3]) (.block 2 pR))))) (.ops [oB 72 .add 3 (tK 33) (iK 1) 3 3,oM 33 72 3])))
def pU:SC:= .loop YH
def k67:SC:= .seq (.ops [oX 1 (.box 47 (tK 0)) 0,oX 2 BS 4]) (.seq (.seq (.ops [oF 7 47 1 0,oL 8 45 7 45,oN 9 8 45,oC 10 97 [(tK 9),(iK 1),(iK 40)] [3,3,3] 4,oX 11 (.unOp .not 4 (tK 10)) 4,oM 12 11 4,⟨(some 13),(.fieldAddr 47 (tK 1) 1),0,(some (some 12,false))⟩,⟨(some 14),(.load 26 (tK 13)),26,(some (some 12,false))⟩,⟨(some 15),dn,0,(some (some 12,false))⟩,⟨(some 16),(.load 45 (tK 15)),45,(some (some 12,false))⟩,⟨(some 17),(.call ⟨(.builtin .len), #[(tK 16)], #[45]⟩),3,(some (some 12,false))⟩,⟨(some 18),(.call ⟨(.value (.func 112)), #[(tK 14),(tK 17)], #[26,3]⟩),4,(some (some 12,false))⟩,⟨(some 19),kP,4,(some (some 12,false))⟩,oX 20 (.pick (tK 12) Dl (tK 19)) 4,oM 21 20 4,⟨(some 22),(.fieldAddr 47 (tK 1) 2),0,(some (some 21,false))⟩,⟨(some 23),(.load 26 (tK 22)),26,(some (some 21,false))⟩,⟨(some 24),dn,0,(some (some 21,false))⟩,⟨(some 25),(.load 45 (tK 24)),45,(some (some 21,false))⟩,⟨(some 26),(.call ⟨(.builtin .len), #[(tK 25)], #[45]⟩),3,(some (some 21,false))⟩,⟨(some 27),(.call ⟨(.value (.func 113)), #[(tK 23),(tK 26)], #[26,3]⟩),4,(some (some 21,false))⟩,⟨(some 28),(.unOp .not 4 (tK 27)),4,(some (some 21,false))⟩,oX 29 (.pick (tK 21) Dl (tK 28)) 4]) (.cond (tK 29)
 (.seq (.ops [oX 2 BS 4]) .ret) .skip)) (.seq (.seq (.ops [oF 30 47 1 0,oL 31 45 30 45,oN 32 31 45,oX 33 (.move (iK 0)) 3]) (.block 0 pU)) (.seq (.ops [oX 2 (.assign Dl) 4]) .ret)))
theorem A34:Try.f67.body.map (BV lends)=some k67:=by kernel_rfl
theorem AFv:Bl Try.f67 1=true:=by kernel_rfl
theorem c67{a l:List D}{r:D×List D}(h:Br Y.env k67 (Fa Ag l.length [ce 2] r) (entry a l))(ha:a.length=1):Y.call 67 a l=some r:=
 Af (Y:=Y) rfl Try.func67 (ha▸AFv) A34 h
def Ch(AA:Ay)(AQ:AP)(AC:AP)(D5:Int)(IK:Int)(s:St):Prop:=s.v 1=cj [b9 123 (AR (fun x=>b9 125 (Az .i64 .i64 x)) AA),b9 3 (AR (bh .i64) AQ),b9 3 (AR (bh .i64) AC)]∧s.v 3=bh .i64 D5∧s.v 31=b9 123 (AR (fun x=>b9 125 (Az .i64 .i64 x)) AA)∧s.v 32=bh .i64 (AA.length:Int)∧s.v 33=bh .i64 D5∧s.v 41=b9 125 (Az .i64 .i64 (AA.getD D5.toNat bj))∧s.v 42=bh .i64 ((AA.getD D5.toNat bj).length:Int)∧s.v 43=bh .i64 IK
def Ci(AA:Ay)(AQ:AP)(AC:AP)(D5:Int)(r:Unit⊕Unit)(ex:Ex)(s:St):Prop:=match r with
 | .inl q=>ex= .ret∧s.v 2=cc false
 | .inr q=>ex= .exit 2∧s.v 1=cj [b9 123 (AR (fun x=>b9 125 (Az .i64 .i64 x)) AA),b9 3 (AR (bh .i64) AQ),b9 3 (AR (bh .i64) AC)]∧s.v 31=b9 123 (AR (fun x=>b9 125 (Az .i64 .i64 x)) AA)∧s.v 32=bh .i64 (AA.length:Int)∧s.v 33=bh .i64 D5
theorem QB(AA:Ay)(AQ:AP)(AC:AP)(D5:Int){v:Int}{s:St}{r:Unit⊕Unit}(h:H5 AA AQ AC D5 v=some r)(hM:Ch AA AQ AC D5 v s):Br Y.env pR (Ci AA AQ AC D5 r) s:=by
 unfold H5 at h;refine BX (c:=YG) (fun v=>EB AA AQ AC D5 v) (fun v s=>Ch AA AQ AC D5 v s) (Ci AA AQ AC D5) ?_ h hM;clear h hM s v r;intro IK s o hM h;unfold EB at h;unfold Ch at hM;obtain⟨m0,m1,m2,m3,m4,m5,m6,m7⟩:=hM;unfold YG;by_cases e11:IK<((AA.getD D5.toNat bj).length:Int)
 ·rw [if_pos e11]at h;obtain⟨e12,h⟩:=Bw h;obtain⟨aQ,hl13,h⟩:=BD h;try dsimp only at h
  have c13:=Mk AA AQ AC (BQ (AA.getD D5.toNat bj) IK.toNat) (CU (AA.getD D5.toNat bj) IK.toNat) hl13;by_cases e14:aQ=true
  ·rw [if_pos e14]at h;obtain⟨e15,h⟩:=Bw h;obtain⟨e16,h⟩:=Bw h;by_cases e17:(((BQ (AA.getD ((BQ (AA.getD D5.toNat bj) IK.toNat).toNat) bj) ((CU (AA.getD D5.toNat bj) IK.toNat).toNat))==D5)&&((CU (AA.getD ((BQ (AA.getD D5.toNat bj) IK.toNat).toNat) bj) ((CU (AA.getD D5.toNat bj) IK.toNat).toNat))==IK))=true
   ·rw [if_pos e17]at h
    obtain rfl:=Option.some.inj h
    simp (maxDischargeDepth:=9) only [↓AU,AV,Ap,↓reduceIte,bk,bl,bm,bo,bp,br,bt,bw,bx,bO,b0,b3,b4,b5,b6,b7,b8,m0,m1,m2,m3,m4,m5,m6,m7,e11,e12.1,e12.2,c13,e14,e15.1,e15.2,e16.1,e16.2,e17,Ch,Ci,Ca,Cb,Cc]<;>(repeat' apply A7)<;>first|rfl|exact⟨_,rfl⟩|exact⟨_,_,rfl⟩|simp [AR,AB]
   ·rw [if_neg e17]at h;have e17f:(((BQ (AA.getD ((BQ (AA.getD D5.toNat bj) IK.toNat).toNat) bj) ((CU (AA.getD D5.toNat bj) IK.toNat).toNat))==D5)&&((CU (AA.getD ((BQ (AA.getD D5.toNat bj) IK.toNat).toNat) bj) ((CU (AA.getD D5.toNat bj) IK.toNat).toNat))==IK))=false:=K7.mpr e17
    obtain rfl:=Option.some.inj h
    simp (maxDischargeDepth:=9) only [↓AU,AV,Ap,↓reduceIte,bk,bl,bm,bo,bp,br,bt,bw,bx,bO,b0,b3,b4,b5,b6,b7,b8,m0,m1,m2,m3,m4,m5,m6,m7,e11,e12.1,e12.2,c13,e14,e15.1,e15.2,e16.1,e16.2,e17f,Ch,Ci,Ca,Cb,Cc]<;>(repeat' apply A7)<;>first|rfl|exact⟨_,rfl⟩|exact⟨_,_,rfl⟩|simp [AR,AB]
  ·rw [if_neg e14]at h;have e14f:aQ=false:=K7.mpr e14
   obtain rfl:=Option.some.inj h
   simp (maxDischargeDepth:=9) only [↓AU,AV,Ap,↓reduceIte,bk,bl,bm,bo,bp,br,bt,bw,bx,bO,b0,b3,b4,b5,b6,b7,b8,m0,m1,m2,m3,m4,m5,m6,m7,e11,e12.1,e12.2,c13,e14f,Ch,Ci,Ca,Cb,Cc]<;>(repeat' apply A7)<;>first|rfl|exact⟨_,rfl⟩|exact⟨_,_,rfl⟩|simp [AR,AB]
 ·rw [if_neg e11]at h
  obtain rfl:=Option.some.inj h
  simp (maxDischargeDepth:=9) only [↓AU,AV,Ap,↓reduceIte,bk,bl,bm,bo,bp,br,bt,bw,bx,bO,b0,b3,b4,b5,b6,b7,b8,m0,m1,m2,m3,m4,m5,m6,m7,e11,Ch,Ci,Ca,Cb,Cc]<;>(repeat' apply A7)<;>first|rfl|exact⟨_,rfl⟩|exact⟨_,_,rfl⟩|simp [AR,AB]
def Cj(AA:Ay)(AQ:AP)(AC:AP)(D5:Int)(s:St):Prop:=s.v 1=cj [b9 123 (AR (fun x=>b9 125 (Az .i64 .i64 x)) AA),b9 3 (AR (bh .i64) AQ),b9 3 (AR (bh .i64) AC)]∧s.v 31=b9 123 (AR (fun x=>b9 125 (Az .i64 .i64 x)) AA)∧s.v 32=bh .i64 (AA.length:Int)∧s.v 33=bh .i64 D5
def Ck(AA:Ay)(AQ:AP)(AC:AP)(r:Unit⊕Unit)(ex:Ex)(s:St):Prop:=match r with
 | .inl q=>ex= .ret∧s.v 2=cc false
 | .inr q=>ex= .exit 0
theorem QC(AA:Ay)(AQ:AP)(AC:AP){v:Int}{s:St}{r:Unit⊕Unit}(h:H6 AA AQ AC v=some r)(hM:Cj AA AQ AC v s):Br Y.env pU (Ck AA AQ AC r) s:=by
 unfold H6 at h;refine BX (c:=YH) (fun v=>EC AA AQ AC v) (fun v s=>Cj AA AQ AC v s) (Ck AA AQ AC) ?_ h hM;clear h hM s v r;intro D5 s o hM h;unfold EC at h;unfold Cj at hM;obtain⟨m0,m1,m2,m3⟩:=hM;unfold YH;by_cases e8:D5<(AA.length:Int)
 ·rw [if_pos e8]at h;obtain⟨e9,h⟩:=Bw h;by_cases e10:6<((AA.getD D5.toNat bj).length:Int)
  ·rw [if_pos e10]at h
   obtain rfl:=Option.some.inj h
   simp (maxDischargeDepth:=9) only [↓AU,AV,Ap,↓reduceIte,bk,bl,bm,bo,bp,br,bt,bw,bx,bO,b0,b3,b4,b5,b6,b7,b8,m0,m1,m2,m3,e8,e9.1,e9.2,e10,Cj,Ck,Ca,Cb,Cc]<;>(repeat' apply A7)<;>first|rfl|exact⟨_,rfl⟩|exact⟨_,_,rfl⟩|simp [AR,AB]
  ·rw [if_neg e10]at h;obtain⟨Ae,hl12,h⟩:=BD h;try dsimp only at h
   simp (maxDischargeDepth:=9) only [↓AU,AV,Ap,↓reduceIte,bk,bl,bm,bo,bp,br,bt,bw,bx,bO,b0,b3,b4,b5,b6,b7,b8,m0,m1,m2,m3,e8,e9.1,e9.2,e10];refine BL (QB AA AQ AC D5 hl12 ?_) ?_
   ·simp (maxDischargeDepth:=9) only [↓AU,AV,Ap,↓reduceIte,bk,bl,bm,bo,bp,br,bt,bw,bx,bO,b0,b3,b4,b5,b6,b7,b8,m0,m1,m2,m3,e8,e9.1,e9.2,e10,Ch]<;>(repeat' apply A7)<;>first|rfl|exact⟨_,rfl⟩|exact⟨_,_,rfl⟩|simp [AR,AB]
   ·intro ex12 s12 hX12;rcases Ae with q1000_|q1000_
    ·unfold Ci at hX12;dsimp only at hX12 h;obtain⟨rfl,n12_0⟩:=hX12
     obtain rfl:=Option.some.inj h
     simp (maxDischargeDepth:=9) only [↓AU,AV,Ap,↓reduceIte,bk,bl,bm,bo,bp,br,bt,bw,bx,bO,b0,b3,b4,b5,b6,b7,b8,e8,e9.1,e9.2,e10,n12_0,Cj,Ck,Ca,Cb,Cc]<;>(repeat' apply A7)<;>first|rfl|exact⟨_,rfl⟩|exact⟨_,_,rfl⟩|simp [AR,AB]
    ·unfold Ci at hX12;dsimp only at hX12 h;obtain⟨rfl,n12_0,n12_1,n12_2,n12_3⟩:=hX12
     obtain rfl:=Option.some.inj h
     simp (maxDischargeDepth:=9) only [↓AU,AV,Ap,↓reduceIte,bk,bl,bm,bo,bp,br,bt,bw,bx,bO,b0,b3,b4,b5,b6,b7,b8,e8,e9.1,e9.2,e10,n12_0,n12_1,n12_2,n12_3,Cj,Ck,Ca,Cb,Cc]<;>(repeat' apply A7)<;>first|rfl|exact⟨_,rfl⟩|exact⟨_,_,rfl⟩|simp [AR,AB]
 ·rw [if_neg e8]at h
  obtain rfl:=Option.some.inj h
  simp (maxDischargeDepth:=9) only [↓AU,AV,Ap,↓reduceIte,bk,bl,bm,bo,bp,br,bt,bw,bx,bO,b0,b3,b4,b5,b6,b7,b8,m0,m1,m2,m3,e8,Cj,Ck,Ca,Cb,Cc]<;>(repeat' apply A7)<;>first|rfl|exact⟨_,rfl⟩|exact⟨_,_,rfl⟩|simp [AR,AB]
theorem Qv(AA:Ay)(AQ:AP)(AC:AP){r:Bool}(h:LD AA AQ AC=some r):Y.call 67 [cm [b9 123 (AR (fun x=>b9 125 (Az .i64 .i64 x)) AA),b9 3 (AR (bh .i64) AQ),b9 3 (AR (bh .i64) AC)]] []=some (cc r,[]):=by
 refine c67 ?_ rfl;unfold k67;unfold LD at h;have c1:=Ik (AA.length:Int) (1:Int) (40:Int);by_cases e2:(I9 (AA.length:Int) (1:Int) (40:Int))=true
 ·rw [if_pos e2]at h;obtain⟨e3,h⟩:=Bw h;have c4:=eY AQ (AA.length:Int) e3;by_cases e5:(PD AQ (AA.length:Int))=true
  ·rw [if_pos e5]at h;obtain⟨uH,hl6,h⟩:=BD h;try dsimp only at h
   have c6:=SI AC (AA.length:Int) hl6;by_cases e7:uH=true
   ·rw [if_pos e7]at h;obtain⟨Cz,hl9,h⟩:=BD h;try dsimp only at h
    simp (maxDischargeDepth:=9) only [↓AU,AV,Ap,↓reduceIte,bk,bl,bm,bo,bp,br,bt,bw,bx,bO,b0,b3,b4,b5,b6,b7,b8,c1,e2,e3,c4,e5,c6,e7];refine BL (QC AA AQ AC hl9 ?_) ?_
    ·simp (maxDischargeDepth:=9) only [↓AU,AV,Ap,↓reduceIte,bk,bl,bm,bo,bp,br,bt,bw,bx,bO,b0,b3,b4,b5,b6,b7,b8,c1,e2,e3,c4,e5,c6,e7,Cj]<;>(repeat' apply A7)<;>first|rfl|exact⟨_,rfl⟩|exact⟨_,_,rfl⟩|simp [AR,AB]
    ·intro ex9 s9 hX9;rcases Cz with q1001_|q1001_
     ·unfold Ck at hX9;dsimp only at hX9 h;obtain⟨rfl,n9_0⟩:=hX9
      obtain rfl:=Option.some.inj h
      simp (maxDischargeDepth:=9) only [↓AU,AV,Ap,↓reduceIte,bk,bl,bm,bo,bp,br,bt,bw,bx,bO,b0,b3,b4,b5,b6,b7,b8,c1,e2,e3,c4,e5,c6,e7,n9_0]<;>(repeat' apply A7)<;>first|rfl|exact⟨_,rfl⟩|exact⟨_,_,rfl⟩|simp [AR,AB]
     ·unfold Ck at hX9;dsimp only at hX9 h
      obtain rfl:=hX9
      obtain rfl:=Option.some.inj h
      simp (maxDischargeDepth:=9) only [↓AU,AV,Ap,↓reduceIte,bk,bl,bm,bo,bp,br,bt,bw,bx,bO,b0,b3,b4,b5,b6,b7,b8,c1,e2,e3,c4,e5,c6,e7]<;>(repeat' apply A7)<;>first|rfl|exact⟨_,rfl⟩|exact⟨_,_,rfl⟩|simp [AR,AB]
   ·rw [if_neg e7]at h;have e7f:uH=false:=K7.mpr e7
    obtain rfl:=Option.some.inj h
    simp (maxDischargeDepth:=9) only [↓AU,AV,Ap,↓reduceIte,bk,bl,bm,bo,bp,br,bt,bw,bx,bO,b0,b3,b4,b5,b6,b7,b8,c1,e2,e3,c4,e5,c6,e7f]<;>(repeat' apply A7)<;>first|rfl|exact⟨_,rfl⟩|exact⟨_,_,rfl⟩|simp [AR,AB]
  ·rw [if_neg e5]at h;have e5f:(PD AQ (AA.length:Int))=false:=K7.mpr e5
   obtain rfl:=Option.some.inj h
   simp (maxDischargeDepth:=9) only [↓AU,AV,Ap,↓reduceIte,bk,bl,bm,bo,bp,br,bt,bw,bx,bO,b0,b3,b4,b5,b6,b7,b8,c1,e2,e3,c4,e5f]<;>(repeat' apply A7)<;>first|rfl|exact⟨_,rfl⟩|exact⟨_,_,rfl⟩|simp [AR,AB]
 ·rw [if_neg e2]at h;have e2f:(I9 (AA.length:Int) (1:Int) (40:Int))=false:=K7.mpr e2
  obtain rfl:=Option.some.inj h
  simp (maxDischargeDepth:=9) only [↓AU,AV,Ap,↓reduceIte,bk,bl,bm,bo,bp,br,bt,bw,bx,bO,b0,b3,b4,b5,b6,b7,b8,c1,e2f]<;>(repeat' apply A7)<;>first|rfl|exact⟨_,rfl⟩|exact⟨_,_,rfl⟩|simp [AR,AB]
def GN(AA:Ay)(AQ:AP)(AC:AP)(CZ:Int)(FW:Int):Option ((Int)⊕(Unit⊕Unit)):= if FW<((AA.getD CZ.toNat bj).length:Int)then ck (0≤FW∧FW.toNat<(AA.getD CZ.toNat bj).length)<| if(I9 (BQ (AA.getD CZ.toNat bj) FW.toNat) (0:Int) (cf.wrap ((AA.length:Int)-1)))=true then ck (0≤(BQ (AA.getD CZ.toNat bj) FW.toNat)∧(BQ (AA.getD CZ.toNat bj) FW.toNat).toNat<AA.length)<| if(I9 (CU (AA.getD CZ.toNat bj) FW.toNat) (0:Int) (cf.wrap (((AA.getD ((BQ (AA.getD CZ.toNat bj) FW.toNat).toNat) bj).length:Int)-1)))=true then ck (0≤(CU (AA.getD CZ.toNat bj) FW.toNat)∧(CU (AA.getD CZ.toNat bj) FW.toNat).toNat<(AA.getD ((BQ (AA.getD CZ.toNat bj) FW.toNat).toNat) bj).length)<| if(((BQ (AA.getD ((BQ (AA.getD CZ.toNat bj) FW.toNat).toNat) bj) ((CU (AA.getD CZ.toNat bj) FW.toNat).toNat))==CZ)&&((CU (AA.getD ((BQ (AA.getD CZ.toNat bj) FW.toNat).toNat) bj) ((CU (AA.getD CZ.toNat bj) FW.toNat).toNat))==FW))=true then some (cd (cf.wrap (FW+1))) else some (ca (cd ())) else some (ca (cd ())) else some (ca (cd ())) else some (ca (ca ()))
def Je(AA:Ay)(AQ:AP)(AC:AP)(CZ:Int)(v:Int):Option (Unit⊕Unit):=JB (fun v=>GN AA AQ AC CZ v) v
def GQ(AA:Ay)(AQ:AP)(AC:AP)(CZ:Int):Option ((Int)⊕(Unit⊕Unit)):=
 if CZ<(AA.length:Int)then
  ck (0≤CZ∧CZ.toNat<AA.length)<|
  if 6<((AA.getD CZ.toNat bj).length:Int)then
   some (ca (cd ()))
  else
   (Je AA AQ AC CZ 0).bind fun Ae=>
   match Ae with
   | .inl q1000_=>
    some (ca (cd ()))
   | .inr q1000_=>
    some (cd (cf.wrap (CZ+1)))
 else
  some (ca (ca ()))
def Jf(AA:Ay)(AQ:AP)(AC:AP)(v:Int):Option (Unit⊕Unit):=JB (fun v=>GQ AA AQ AC v) v
def QD(AA:Ay)(AQ:AP)(AC:AP):Option (Bool):=
 if(I9 (AA.length:Int) (1:Int) (40:Int))=true then
  ck (AQ.length<1099511627776)<|
  if(PD AQ (AA.length:Int))=true then
   if(AC.length:Int)=(AA.length:Int)then
    ck (AC.length<1099511627776)<|
    if(Gy AC (0:Int) (9:Int))=true then
     (Jf AA AQ AC 0).bind fun Cz=>
     match Cz with
     | .inl q1001_=>
      some false
     | .inr q1001_=>
      some true
    else
     some false
   else
    some false
  else
   some false
 else
  some false
abbrev NA:List Nat:=[54,55,56,57,58,59,60,61,62,63,64,65,66,67,68,69,70,71,72,73,74,75,76,77,78,79,80,81,82,83,84,85,86,87,88,89,87,88,90,91]
def YI:SC:= .seq (.ops [oB 50 .lss 3 (tK 49) (tK 48) 3 0]) (.seq (.cond (tK 50) .skip (.exit 2)) (.seq (.block 3 (.seq (.ops [oM 51 49 3,oI 52 123 47 49,oL 53 125 52 125,oX 6 (.alloc 125) 0,oA 5 51 3,oS 125 6 53]) (.seq (.draws [(⟨[54,6,6],NA,[54]⟩,oF 54 125 6 0),(⟨[55,54,6],NA,[55]⟩,oL 55 3 54 3),(⟨[56,1,1],NA,[56]⟩,oF 56 47 1 0),(⟨[57,56,1],NA,[57]⟩,oL 57 45 56 45),(⟨[58,57,1],NA,[58]⟩,oN 58 57 45),(⟨[59,58,58],NA,[59]⟩,oB 59 .sub 3 (tK 58) (iK 1) 3 3),(⟨[60,55,59,6,59],NA,[60]⟩,oC 60 92 [(tK 55),(iK 0),(tK 59)] [3,3,3] 4),(⟨[61,60,60],NA,[61]⟩,oX 61 (.unOp .not 4 (tK 60)) 4),(⟨[62,61,61],NA,[62]⟩,oM 62 61 4),(⟨[63,6,6,62],NA,[63]⟩,⟨(some 63),(.fieldAddr 125 (tK 6) 1),0,(some (some 62,false))⟩),(⟨[64,63,6,62],NA,[64]⟩,⟨(some 64),(.load 3 (tK 63)),3,(some (some 62,false))⟩),(⟨[65,1,1,62],NA,[65]⟩,⟨(some 65),dn,0,(some (some 62,false))⟩),(⟨[66,65,1,62],NA,[66]⟩,⟨(some 66),(.load 45 (tK 65)),45,(some (some 62,false))⟩),(⟨[67,6,6,62],NA,[67]⟩,⟨(some 67),(.fieldAddr 125 (tK 6) 0),0,(some (some 62,false))⟩),(⟨[68,67,6,62],NA,[68]⟩,⟨(some 68),(.load 3 (tK 67)),3,(some (some 62,false))⟩),(⟨[69,66,68,1,6,62],NA,[69]⟩,⟨(some 69),(.indexAddr 45 (tK 66) (tK 68)),0,(some (some 62,false))⟩),
 (⟨[70,69,1,62],NA,[70]⟩,⟨(some 70),(.load 123 (tK 69)),123,(some (some 62,false))⟩),(⟨[71,70,1,62],NA,[71]⟩,⟨(some 71),(.call ⟨(.builtin .len), #[(tK 70)], #[123]⟩),3,(some (some 62,false))⟩),(⟨[72,71,71,62],NA,[72]⟩,⟨(some 72),(.binOp .sub 3 (tK 71) (iK 1) 3),3,(some (some 62,false))⟩),(⟨[73,64,72,6,72,62],NA,[73]⟩,⟨(some 73),(.call ⟨(.value (.func 92)), #[(tK 64),(iK 0),(tK 72)], #[3,3,3]⟩),4,(some (some 62,false))⟩),(⟨[74,73,73,62],NA,[74]⟩,⟨(some 74),(.unOp .not 4 (tK 73)),4,(some (some 62,false))⟩),(⟨[75,62,74,61,74],NA,[75]⟩,oX 75 (.pick (tK 62) Dl (tK 74)) 4),(⟨[76,75,75],NA,[76]⟩,oM 76 75 4),(⟨[77,1,1,76],NA,[77]⟩,⟨(some 77),dn,0,(some (some 76,false))⟩),(⟨[78,77,1,76],NA,[78]⟩,⟨(some 78),(.load 45 (tK 77)),45,(some (some 76,false))⟩),(⟨[79,6,6,76],NA,[79]⟩,⟨(some 79),(.fieldAddr 125 (tK 6) 0),0,(some (some 76,false))⟩),(⟨[80,79,6,76],NA,[80]⟩,⟨(some 80),(.load 3 (tK 79)),3,(some (some 76,false))⟩),(⟨[81,78,80,1,6,76],NA,[81]⟩,⟨(some 81),(.indexAddr 45 (tK 78) (tK 80)),0,(some (some 76,false))⟩),(⟨[82,81,1,76],NA,[82]⟩,⟨(some 82),(.load 123 (tK 81)),123,(some (some 76,false))⟩),(⟨[83,6,6,76],NA,[83]⟩,⟨(some 83),(.fieldAddr 125 (tK 6) 1),0,(some (some 76,false))⟩),
 (⟨[84,83,6,76],NA,[84]⟩,⟨(some 84),(.load 3 (tK 83)),3,(some (some 76,false))⟩),(⟨[85,82,84,1,6,76],NA,[85]⟩,⟨(some 85),(.indexAddr 123 (tK 82) (tK 84)),0,(some (some 76,false))⟩),(⟨[86,85,1,76],NA,[86]⟩,⟨(some 86),(.load 125 (tK 85)),125,(some (some 76,false))⟩),(⟨[87,3,3,76],NA,[87]⟩,⟨(some 87),(.move (tK 3)),3,(some (some 76,false))⟩),(⟨[88,5,5,76],NA,[88]⟩,⟨(some 88),(.move (tK 5)),3,(some (some 76,false))⟩),(⟨[89,87,88,3,5,76],NA,[89,87,88]⟩,⟨(some 89),(.build 125 #[(0,(tK 87)),(1,(tK 88))]),125,(some (some 76,false))⟩),(⟨[90,86,89,1,89,76],NA,[90]⟩,⟨(some 90),(.binOp .neq 125 (tK 86) (tK 89) 125),4,(some (some 76,false))⟩),(⟨[91,76,90,75,90],NA,[91]⟩,oX 91 (.pick (tK 76) Dl (tK 90)) 4)]) (.cond (tK 91) (.seq (.ops [oX 2 BS 4]) .ret) .skip)))) (.ops [oB 92 .add 3 (tK 49) (iK 1) 3 3,oM 49 92 3])))
def pV:SC:= .loop YI
def YJ:SC:= .seq (.ops [oB 40 .lss 3 (tK 39) (tK 38) 3 0]) (.seq (.cond (tK 40) .skip (.exit 0)) (.seq (.block 1 (.seq (.ops [oM 41 39 3,oI 42 45 37 39,oL 43 123 42 123,oA 3 41 3,oA 4 43 123]) (.seq (.seq (.ops [oM 44 4 123,oN 45 44 123,oB 46 .gtr 3 (tK 45) (iK 6) 3 4]) (.cond (tK 46) (.seq (.ops [oX 2 BS 4]) .ret) .skip)) (.seq (.ops [oM 47 4 123,oN 48 47 123,oX 49 (.move (iK 0)) 3]) (.block 2 pV))))) (.ops [oB 93 .add 3 (tK 39) (iK 1) 3 3,oM 39 93 3])))
def pW:SC:= .loop YJ
def k60:SC:= .seq (.ops [oX 1 (.box 47 (tK 0)) 0,oX 2 BS 4]) (.seq (.seq (.ops [oF 7 47 1 0,oL 8 45 7 45,oN 9 8 45,oC 10 92 [(tK 9),(iK 1),(iK 40)] [3,3,3] 4,oX 11 (.unOp .not 4 (tK 10)) 4,oM 12 11 4,⟨(some 13),(.fieldAddr 47 (tK 1) 1),0,(some (some 12,false))⟩,⟨(some 14),(.load 26 (tK 13)),26,(some (some 12,false))⟩,⟨(some 15),dn,0,(some (some 12,false))⟩,⟨(some 16),(.load 45 (tK 15)),45,(some (some 12,false))⟩,⟨(some 17),(.call ⟨(.builtin .len), #[(tK 16)], #[45]⟩),3,(some (some 12,false))⟩,⟨(some 18),(.call ⟨(.value (.func 106)), #[(tK 14),(tK 17)], #[26,3]⟩),4,(some (some 12,false))⟩,⟨(some 19),kP,4,(some (some 12,false))⟩,oX 20 (.pick (tK 12) Dl (tK 19)) 4,oM 21 20 4,⟨(some 22),(.fieldAddr 47 (tK 1) 2),0,(some (some 21,false))⟩,⟨(some 23),(.load 26 (tK 22)),26,(some (some 21,false))⟩,⟨(some 24),(.call ⟨(.builtin .len), #[(tK 23)], #[26]⟩),3,(some (some 21,false))⟩,⟨(some 25),dn,0,(some (some 21,false))⟩,⟨(some 26),(.load 45 (tK 25)),45,(some (some 21,false))⟩,⟨(some 27),(.call ⟨(.builtin .len), #[(tK 26)], #[45]⟩),3,(some (some 21,false))⟩,⟨(some 28),(.binOp .neq 3 (tK 24) (tK 27) 3),4,(some (some 21,false))⟩,oX 29 (.pick (tK 21) Dl (tK 28)) 4,oM 30 29 4,
 ⟨(some 31),(.fieldAddr 47 (tK 1) 2),0,(some (some 30,false))⟩,⟨(some 32),(.load 26 (tK 31)),26,(some (some 30,false))⟩,⟨(some 33),(.call ⟨(.value (.func 107)), #[(tK 32),(iK 0),(iK 9)], #[26,3,3]⟩),4,(some (some 30,false))⟩,⟨(some 34),(.unOp .not 4 (tK 33)),4,(some (some 30,false))⟩,oX 35 (.pick (tK 30) Dl (tK 34)) 4]) (.cond (tK 35) (.seq (.ops [oX 2 BS 4]) .ret) .skip)) (.seq (.seq (.ops [oF 36 47 1 0,oL 37 45 36 45,oN 38 37 45,oX 39 (.move (iK 0)) 3]) (.block 0 pW)) (.seq (.ops [oX 2 (.assign Dl) 4]) .ret)))
theorem A35:Try.f60.body.map (BV lends)=some k60:=by kernel_rfl
theorem AFx:Bl Try.f60 1=true:=by kernel_rfl
theorem c60{a l:List D}{r:D×List D}(h:Br Y.env k60 (Fa Ag l.length [ce 2] r) (entry a l))(ha:a.length=1):Y.call 60 a l=some r:=
 Af (Y:=Y) rfl Try.func60 (ha▸AFx) A35 h
def DR(AA:Ay)(AQ:AP)(AC:AP)(CZ:Int)(FW:Int)(s:St):Prop:=s.v 1=cj [b9 123 (AR (fun x=>b9 125 (Az .i64 .i64 x)) AA),b9 3 (AR (bh .i64) AQ),b9 3 (AR (bh .i64) AC)]∧s.v 3=bh .i64 CZ∧s.v 37=b9 123 (AR (fun x=>b9 125 (Az .i64 .i64 x)) AA)∧s.v 38=bh .i64 (AA.length:Int)∧s.v 39=bh .i64 CZ∧s.v 47=b9 125 (Az .i64 .i64 (AA.getD CZ.toNat bj))∧s.v 48=bh .i64 ((AA.getD CZ.toNat bj).length:Int)∧s.v 49=bh .i64 FW
def DT(AA:Ay)(AQ:AP)(AC:AP)(CZ:Int)(r:Unit⊕Unit)(ex:Ex)(s:St):Prop:=match r with
 | .inl q=>ex= .ret∧s.v 2=cc false
 | .inr q=>ex= .exit 2∧s.v 1=cj [b9 123 (AR (fun x=>b9 125 (Az .i64 .i64 x)) AA),b9 3 (AR (bh .i64) AQ),b9 3 (AR (bh .i64) AC)]∧s.v 37=b9 123 (AR (fun x=>b9 125 (Az .i64 .i64 x)) AA)∧s.v 38=bh .i64 (AA.length:Int)∧s.v 39=bh .i64 CZ
theorem Un(AA:Ay)(AQ:AP)(AC:AP)(CZ:Int){v:Int}{s:St}{r:Unit⊕Unit}(h:Je AA AQ AC CZ v=some r)(hM:DR AA AQ AC CZ v s):Br Y.env pV (DT AA AQ AC CZ r) s:=by
 unfold Je at h;refine BX (c:=YI) (fun v=>GN AA AQ AC CZ v) (fun v s=>DR AA AQ AC CZ v s) (DT AA AQ AC CZ) ?_ h hM;clear h hM s v r;intro FW s o hM h;unfold GN at h;unfold DR at hM;obtain⟨m0,m1,m2,m3,m4,m5,m6,m7⟩:=hM;unfold YI;by_cases e13:FW<((AA.getD CZ.toNat bj).length:Int)
 ·rw [if_pos e13]at h;obtain⟨e14,h⟩:=Bw h;have c15:=KQ (BQ (AA.getD CZ.toNat bj) FW.toNat) (0:Int) (cf.wrap ((AA.length:Int)-1));by_cases e16:(I9 (BQ (AA.getD CZ.toNat bj) FW.toNat) (0:Int) (cf.wrap ((AA.length:Int)-1)))=true
  ·rw [if_pos e16]at h;obtain⟨e17,h⟩:=Bw h;have aH:=KQ (CU (AA.getD CZ.toNat bj) FW.toNat) (0:Int) (cf.wrap (((AA.getD ((BQ (AA.getD CZ.toNat bj) FW.toNat).toNat) bj).length:Int)-1));by_cases e19:(I9 (CU (AA.getD CZ.toNat bj) FW.toNat) (0:Int) (cf.wrap (((AA.getD ((BQ (AA.getD CZ.toNat bj) FW.toNat).toNat) bj).length:Int)-1)))=true
   ·rw [if_pos e19]at h;obtain⟨e20,h⟩:=Bw h;by_cases e21:(((BQ (AA.getD ((BQ (AA.getD CZ.toNat bj) FW.toNat).toNat) bj) ((CU (AA.getD CZ.toNat bj) FW.toNat).toNat))==CZ)&&((CU (AA.getD ((BQ (AA.getD CZ.toNat bj) FW.toNat).toNat) bj) ((CU (AA.getD CZ.toNat bj) FW.toNat).toNat))==FW))=true
    ·rw [if_pos e21]at h
     obtain rfl:=Option.some.inj h
     simp (maxDischargeDepth:=9) only [↓AU,AV,Ap,↓reduceIte,bk,bl,bm,bo,bp,br,bt,bw,bx,bO,b0,b3,b4,b5,b6,b7,b8,m0,m1,m2,m3,m4,m5,m6,m7,e13,e14.1,e14.2,c15,e16,e17.1,e17.2,aH,e19,e20.1,e20.2,e21,DR,DT,Ca,Cb,Cc]<;>(repeat' apply A7)<;>first|rfl|exact⟨_,rfl⟩|exact⟨_,_,rfl⟩|simp [AR,AB]
    ·rw [if_neg e21]at h;have e21f:(((BQ (AA.getD ((BQ (AA.getD CZ.toNat bj) FW.toNat).toNat) bj) ((CU (AA.getD CZ.toNat bj) FW.toNat).toNat))==CZ)&&((CU (AA.getD ((BQ (AA.getD CZ.toNat bj) FW.toNat).toNat) bj) ((CU (AA.getD CZ.toNat bj) FW.toNat).toNat))==FW))=false:=K7.mpr e21
     obtain rfl:=Option.some.inj h
     simp (maxDischargeDepth:=9) only [↓AU,AV,Ap,↓reduceIte,bk,bl,bm,bo,bp,br,bt,bw,bx,bO,b0,b3,b4,b5,b6,b7,b8,m0,m1,m2,m3,m4,m5,m6,m7,e13,e14.1,e14.2,c15,e16,e17.1,e17.2,aH,e19,e20.1,e20.2,e21f,DR,DT,Ca,Cb,Cc]<;>(repeat' apply A7)<;>first|rfl|exact⟨_,rfl⟩|exact⟨_,_,rfl⟩|simp [AR,AB]
   ·rw [if_neg e19]at h;have e19f:(I9 (CU (AA.getD CZ.toNat bj) FW.toNat) (0:Int) (cf.wrap (((AA.getD ((BQ (AA.getD CZ.toNat bj) FW.toNat).toNat) bj).length:Int)-1)))=false:=K7.mpr e19
    obtain rfl:=Option.some.inj h
    simp (maxDischargeDepth:=9) only [↓AU,AV,Ap,↓reduceIte,bk,bl,bm,bo,bp,br,bt,bw,bx,bO,b0,b3,b4,b5,b6,b7,b8,m0,m1,m2,m3,m4,m5,m6,m7,e13,e14.1,e14.2,c15,e16,e17.1,e17.2,aH,e19f,DR,DT,Ca,Cb,Cc]<;>(repeat' apply A7)<;>first|rfl|exact⟨_,rfl⟩|exact⟨_,_,rfl⟩|simp [AR,AB]
  ·rw [if_neg e16]at h;have e16f:(I9 (BQ (AA.getD CZ.toNat bj) FW.toNat) (0:Int) (cf.wrap ((AA.length:Int)-1)))=false:=K7.mpr e16
   obtain rfl:=Option.some.inj h
   simp (maxDischargeDepth:=9) only [↓AU,AV,Ap,↓reduceIte,bk,bl,bm,bo,bp,br,bt,bw,bx,bO,b0,b3,b4,b5,b6,b7,b8,m0,m1,m2,m3,m4,m5,m6,m7,e13,e14.1,e14.2,c15,e16f,DR,DT,Ca,Cb,Cc]<;>(repeat' apply A7)<;>first|rfl|exact⟨_,rfl⟩|exact⟨_,_,rfl⟩|simp [AR,AB]
 ·rw [if_neg e13]at h
  obtain rfl:=Option.some.inj h
  simp (maxDischargeDepth:=9) only [↓AU,AV,Ap,↓reduceIte,bk,bl,bm,bo,bp,br,bt,bw,bx,bO,b0,b3,b4,b5,b6,b7,b8,m0,m1,m2,m3,m4,m5,m6,m7,e13,DR,DT,Ca,Cb,Cc]<;>(repeat' apply A7)<;>first|rfl|exact⟨_,rfl⟩|exact⟨_,_,rfl⟩|simp [AR,AB]
def Dy(AA:Ay)(AQ:AP)(AC:AP)(CZ:Int)(s:St):Prop:=s.v 1=cj [b9 123 (AR (fun x=>b9 125 (Az .i64 .i64 x)) AA),b9 3 (AR (bh .i64) AQ),b9 3 (AR (bh .i64) AC)]∧s.v 37=b9 123 (AR (fun x=>b9 125 (Az .i64 .i64 x)) AA)∧s.v 38=bh .i64 (AA.length:Int)∧s.v 39=bh .i64 CZ
def Dz(AA:Ay)(AQ:AP)(AC:AP)(r:Unit⊕Unit)(ex:Ex)(s:St):Prop:=match r with
 | .inl q=>ex= .ret∧s.v 2=cc false
 | .inr q=>ex= .exit 0
theorem Uo(AA:Ay)(AQ:AP)(AC:AP){v:Int}{s:St}{r:Unit⊕Unit}(h:Jf AA AQ AC v=some r)(hM:Dy AA AQ AC v s):Br Y.env pW (Dz AA AQ AC r) s:=by
 unfold Jf at h;refine BX (c:=YJ) (fun v=>GQ AA AQ AC v) (fun v s=>Dy AA AQ AC v s) (Dz AA AQ AC) ?_ h hM;clear h hM s v r;intro CZ s o hM h;unfold GQ at h;unfold Dy at hM;obtain⟨m0,m1,m2,m3⟩:=hM;unfold YJ;by_cases e10:CZ<(AA.length:Int)
 ·rw [if_pos e10]at h;obtain⟨e11,h⟩:=Bw h;by_cases e12:6<((AA.getD CZ.toNat bj).length:Int)
  ·rw [if_pos e12]at h
   obtain rfl:=Option.some.inj h
   simp (maxDischargeDepth:=9) only [↓AU,AV,Ap,↓reduceIte,bk,bl,bm,bo,bp,br,bt,bw,bx,bO,b0,b3,b4,b5,b6,b7,b8,m0,m1,m2,m3,e10,e11.1,e11.2,e12,Dy,Dz,Ca,Cb,Cc]<;>(repeat' apply A7)<;>first|rfl|exact⟨_,rfl⟩|exact⟨_,_,rfl⟩|simp [AR,AB]
  ·rw [if_neg e12]at h;obtain⟨Ae,hl14,h⟩:=BD h;try dsimp only at h
   simp (maxDischargeDepth:=9) only [↓AU,AV,Ap,↓reduceIte,bk,bl,bm,bo,bp,br,bt,bw,bx,bO,b0,b3,b4,b5,b6,b7,b8,m0,m1,m2,m3,e10,e11.1,e11.2,e12];refine BL (Un AA AQ AC CZ hl14 ?_) ?_
   ·simp (maxDischargeDepth:=9) only [↓AU,AV,Ap,↓reduceIte,bk,bl,bm,bo,bp,br,bt,bw,bx,bO,b0,b3,b4,b5,b6,b7,b8,m0,m1,m2,m3,e10,e11.1,e11.2,e12,DR]<;>(repeat' apply A7)<;>first|rfl|exact⟨_,rfl⟩|exact⟨_,_,rfl⟩|simp [AR,AB]
   ·intro ex14 s14 hX14;rcases Ae with q1000_|q1000_
    ·unfold DT at hX14;dsimp only at hX14 h;obtain⟨rfl,n14_0⟩:=hX14
     obtain rfl:=Option.some.inj h
     simp (maxDischargeDepth:=9) only [↓AU,AV,Ap,↓reduceIte,bk,bl,bm,bo,bp,br,bt,bw,bx,bO,b0,b3,b4,b5,b6,b7,b8,e10,e11.1,e11.2,e12,n14_0,Dy,Dz,Ca,Cb,Cc]<;>(repeat' apply A7)<;>first|rfl|exact⟨_,rfl⟩|exact⟨_,_,rfl⟩|simp [AR,AB]
    ·unfold DT at hX14;dsimp only at hX14 h;obtain⟨rfl,n14_0,n14_1,n14_2,n14_3⟩:=hX14
     obtain rfl:=Option.some.inj h
     simp (maxDischargeDepth:=9) only [↓AU,AV,Ap,↓reduceIte,bk,bl,bm,bo,bp,br,bt,bw,bx,bO,b0,b3,b4,b5,b6,b7,b8,e10,e11.1,e11.2,e12,n14_0,n14_1,n14_2,n14_3,Dy,Dz,Ca,Cb,Cc]<;>(repeat' apply A7)<;>first|rfl|exact⟨_,rfl⟩|exact⟨_,_,rfl⟩|simp [AR,AB]
 ·rw [if_neg e10]at h
  obtain rfl:=Option.some.inj h
  simp (maxDischargeDepth:=9) only [↓AU,AV,Ap,↓reduceIte,bk,bl,bm,bo,bp,br,bt,bw,bx,bO,b0,b3,b4,b5,b6,b7,b8,m0,m1,m2,m3,e10,Dy,Dz,Ca,Cb,Cc]<;>(repeat' apply A7)<;>first|rfl|exact⟨_,rfl⟩|exact⟨_,_,rfl⟩|simp [AR,AB]
theorem WJ(AA:Ay)(AQ:AP)(AC:AP){r:Bool}(h:QD AA AQ AC=some r):Y.call 60 [cm [b9 123 (AR (fun x=>b9 125 (Az .i64 .i64 x)) AA),b9 3 (AR (bh .i64) AQ),b9 3 (AR (bh .i64) AC)]] []=some (cc r,[]):=by
 refine c60 ?_ rfl;unfold k60;unfold QD at h;have c1:=KQ (AA.length:Int) (1:Int) (40:Int);by_cases e2:(I9 (AA.length:Int) (1:Int) (40:Int))=true
 ·rw [if_pos e2]at h;obtain⟨e3,h⟩:=Bw h;have c4:=eZ AQ (AA.length:Int) e3;by_cases e5:(PD AQ (AA.length:Int))=true
  ·rw [if_pos e5]at h;by_cases e6:(AC.length:Int)=(AA.length:Int)
   ·rw [if_pos e6]at h;obtain⟨e7,h⟩:=Bw h;have c8:=UT AC (0:Int) (9:Int) e7;by_cases e9:(Gy AC (0:Int) (9:Int))=true
    ·rw [if_pos e9]at h;obtain⟨Cz,hl11,h⟩:=BD h;try dsimp only at h
     simp (maxDischargeDepth:=9) only [↓AU,AV,Ap,↓reduceIte,bk,bl,bm,bo,bp,br,bt,bw,bx,bO,b0,b3,b4,b5,b6,b7,b8,c1,e2,e3,c4,e5,decide_eq_true e6,e7,c8,e9];refine BL (Uo AA AQ AC hl11 ?_) ?_
     ·simp (maxDischargeDepth:=9) only [↓AU,AV,Ap,↓reduceIte,bk,bl,bm,bo,bp,br,bt,bw,bx,bO,b0,b3,b4,b5,b6,b7,b8,c1,e2,e3,c4,e5,decide_eq_true e6,e7,c8,e9,Dy]<;>(repeat' apply A7)<;>first|rfl|exact⟨_,rfl⟩|exact⟨_,_,rfl⟩|simp [AR,AB]
     ·intro ex11 s11 hX11;rcases Cz with q1001_|q1001_
      ·unfold Dz at hX11;dsimp only at hX11 h;obtain⟨rfl,n11_0⟩:=hX11
       obtain rfl:=Option.some.inj h
       simp (maxDischargeDepth:=9) only [↓AU,AV,Ap,↓reduceIte,bk,bl,bm,bo,bp,br,bt,bw,bx,bO,b0,b3,b4,b5,b6,b7,b8,c1,e2,e3,c4,e5,decide_eq_true e6,e7,c8,e9,n11_0]<;>(repeat' apply A7)<;>first|rfl|exact⟨_,rfl⟩|exact⟨_,_,rfl⟩|simp [AR,AB]
      ·unfold Dz at hX11;dsimp only at hX11 h
       obtain rfl:=hX11
       obtain rfl:=Option.some.inj h
       simp (maxDischargeDepth:=9) only [↓AU,AV,Ap,↓reduceIte,bk,bl,bm,bo,bp,br,bt,bw,bx,bO,b0,b3,b4,b5,b6,b7,b8,c1,e2,e3,c4,e5,decide_eq_true e6,e7,c8,e9]<;>(repeat' apply A7)<;>first|rfl|exact⟨_,rfl⟩|exact⟨_,_,rfl⟩|simp [AR,AB]
    ·rw [if_neg e9]at h;have e9f:(Gy AC (0:Int) (9:Int))=false:=K7.mpr e9
     obtain rfl:=Option.some.inj h
     simp (maxDischargeDepth:=9) only [↓AU,AV,Ap,↓reduceIte,bk,bl,bm,bo,bp,br,bt,bw,bx,bO,b0,b3,b4,b5,b6,b7,b8,c1,e2,e3,c4,e5,decide_eq_true e6,e7,c8,e9f]<;>(repeat' apply A7)<;>first|rfl|exact⟨_,rfl⟩|exact⟨_,_,rfl⟩|simp [AR,AB]
   ·rw [if_neg e6]at h
    obtain rfl:=Option.some.inj h
    simp (maxDischargeDepth:=9) only [↓AU,AV,Ap,↓reduceIte,bk,bl,bm,bo,bp,br,bt,bw,bx,bO,b0,b3,b4,b5,b6,b7,b8,c1,e2,e3,c4,e5,e6]<;>(repeat' apply A7)<;>first|rfl|exact⟨_,rfl⟩|exact⟨_,_,rfl⟩|simp [AR,AB]
  ·rw [if_neg e5]at h;have e5f:(PD AQ (AA.length:Int))=false:=K7.mpr e5
   obtain rfl:=Option.some.inj h
   simp (maxDischargeDepth:=9) only [↓AU,AV,Ap,↓reduceIte,bk,bl,bm,bo,bp,br,bt,bw,bx,bO,b0,b3,b4,b5,b6,b7,b8,c1,e2,e3,c4,e5f]<;>(repeat' apply A7)<;>first|rfl|exact⟨_,rfl⟩|exact⟨_,_,rfl⟩|simp [AR,AB]
 ·rw [if_neg e2]at h;have e2f:(I9 (AA.length:Int) (1:Int) (40:Int))=false:=K7.mpr e2
  obtain rfl:=Option.some.inj h
  simp (maxDischargeDepth:=9) only [↓AU,AV,Ap,↓reduceIte,bk,bl,bm,bo,bp,br,bt,bw,bx,bO,b0,b3,b4,b5,b6,b7,b8,c1,e2f]<;>(repeat' apply A7)<;>first|rfl|exact⟨_,rfl⟩|exact⟨_,_,rfl⟩|simp [AR,AB]
def QE(es:Ay)(v i:Nat):Bool:=
 I9 (BQ (es.getD v bj) i) 0 ((es.length:Int)-1)&&
 (I9 (CU (es.getD v bj) i) 0 (((es.getD (BQ (es.getD v bj) i).toNat bj).length:Int)-1)&&
 ((BQ (es.getD (BQ (es.getD v bj) i).toNat bj) (CU (es.getD v bj) i).toNat==(v:Int))&&(CU (es.getD (BQ (es.getD v bj) i).toNat bj) (CU (es.getD v bj) i).toNat==(i:Int))))
theorem Qw(es:Ay)(v i:Nat):QE es v i=(I9 (BQ (es.getD v bj) i) 0 ((es.length:Int)-1)&&
 (I9 (CU (es.getD v bj) i) 0 (((es.getD (BQ (es.getD v bj) i).toNat bj).length:Int)-1)&&
 ((BQ (es.getD (BQ (es.getD v bj) i).toNat bj) (CU (es.getD v bj) i).toNat==(v:Int))&&(CU (es.getD (BQ (es.getD v bj) i).toNat bj) (CU (es.getD v bj) i).toNat==(i:Int))))):=rfl
def QF(es:Ay)(v:Nat):Bool:=decide ((es.getD v bj).length≤6)&&(an (es.getD v bj).length).all (QE es v)
theorem OD(es:Ay)(v:Nat):QF es v=(decide ((es.getD v bj).length≤6)&&(an (es.getD v bj).length).all (QE es v)):=rfl
def IL(es:Ay)(ids ins:AP):Bool:=
 I9 es.length 1 40&&(PD ids es.length&&(decide ((ins.length:Int)=es.length)&&(Gy ins 0 9&&(an es.length).all (QF es))))
theorem pX(es:Ay)(ids ins:AP)(h:C9 es)(v:Nat):H5 es ids ins (v:Int) 0=some (if(an (es.getD v bj).length).all (QE es v)=true then .inr ()else .inl ()):=by
 have h1:=h.1;have h2:=h.getD v;unfold H5;refine IZ (fun x=>EB es ids ins (v:Int) x) (fun i=>(i:Int)) (es.getD v bj).length (QE es v) (.inl ()) (.inr ()) ?_ ?_
 ·intro i hi;have h3:=h.getD (BQ (es.getD v bj) i).toNat;simp only [EB,Gf,CS,K3];rw [Qw,if_pos (Bb hi),Bq (by omega),Cn,LZ _ (by omega),LZ _ (by omega),KO i (by omega)]
  cases r1:I9 (BQ (es.getD v bj) i) 0 ((es.length:Int)-1)with
  |false=>simp
  |true=>
   have r1':=J6.1 r1;rw [if_pos rfl,Bq (by omega),Cn]
   cases r2:I9 (CU (es.getD v bj) i) 0 (((es.getD (BQ (es.getD v bj) i).toNat bj).length:Int)-1)with
   |false=>simp
   |true=>
    have r2':=J6.1 r2;rw [if_pos rfl,Bq (by omega),Bq (by omega),Ju,Ju]
 ·simp only [EB,K3];rw [if_neg (BB _)]
theorem pY(es:Ay)(ids ins:AP)(h:C9 es)(v:Nat):Je es ids ins (v:Int) 0=some (if(an (es.getD v bj).length).all (QE es v)=true then .inr ()else .inl ()):=by
 have h1:=h.1;have h2:=h.getD v;unfold Je;refine IZ (fun x=>GN es ids ins (v:Int) x) (fun i=>(i:Int)) (es.getD v bj).length (QE es v) (.inl ()) (.inr ()) ?_ ?_
 ·intro i hi;have h3:=h.getD (BQ (es.getD v bj) i).toNat;simp only [GN,K3];rw [Qw,if_pos (Bb hi),Bq (by omega),LZ _ (by omega),LZ _ (by omega),KO i (by omega)]
  cases r1:I9 (BQ (es.getD v bj) i) 0 ((es.length:Int)-1)with
  |false=>simp
  |true=>
   have r1':=J6.1 r1;rw [if_pos rfl,Bq (by omega)]
   cases r2:I9 (CU (es.getD v bj) i) 0 (((es.getD (BQ (es.getD v bj) i).toNat bj).length:Int)-1)with
   |false=>simp
   |true=>
    have r2':=J6.1 r2;rw [if_pos rfl,Bq (by omega),Ju,Ju]
 ·simp only [GN,K3];rw [if_neg (BB _)]
theorem pg(es:Ay)(ids ins:AP)(h:C9 es):H6 es ids ins 0=some (if(an es.length).all (QF es)=true then .inr ()else .inl ()):=by
 have h1:=h.1;unfold H6;refine IZ (fun x=>EC es ids ins x) (fun i=>(i:Int)) es.length (QF es) (.inl ()) (.inr ()) ?_ ?_
 ·intro v hv;simp only [EC,K3];rw [OD,if_pos (Bb hv),Bq (by omega),pX es ids ins h v,Cn,KO v (by omega)]
  by_cases h6:(es.getD v bj).length≤6
  ·rw [if_neg (by omega),decide_eq_true h6,Ju]
   cases (an (es.getD v bj).length).all (QE es v)<;>rfl
  ·rw [if_pos (by omega),decide_eq_false h6];rfl
 ·simp only [EC];rw [if_neg (BB _)]
theorem pq(es:Ay)(ids ins:AP)(h:C9 es):Jf es ids ins 0=some (if(an es.length).all (QF es)=true then .inr ()else .inl ()):=by
 have h1:=h.1;unfold Jf;refine IZ (fun x=>GQ es ids ins x) (fun i=>(i:Int)) es.length (QF es) (.inl ()) (.inr ()) ?_ ?_
 ·intro v hv;simp only [GQ,K3];rw [OD,if_pos (Bb hv),Bq (by omega),pY es ids ins h v,Cn,KO v (by omega)]
  by_cases h6:(es.getD v bj).length≤6
  ·rw [if_neg (by omega),decide_eq_true h6,Ju]
   cases (an (es.getD v bj).length).all (QE es v)<;>rfl
  ·rw [if_pos (by omega),decide_eq_false h6];rfl
 ·simp only [GQ];rw [if_neg (BB _)]
theorem Uq(es:Ay)(ids ins:AP)(h:C9 es)(h2:ids.length<1099511627776)(h3:ins.length<1099511627776):LD es ids ins=some (IL es ids ins):=by
 unfold LD IL;rw [Bq h2,pg es ids ins h];unfold Mj;rw [Bq h3]
 cases I9 es.length 1 40 with
 |false=>rfl
 |true=>
  cases PD ids es.length with
  |false=>rfl
  |true=>
   by_cases hl:(ins.length:Int)=es.length
   ·rw [if_pos hl,decide_eq_true hl]
    cases Gy ins 0 9 with
    |false=>rfl
    |true=>cases (an es.length).all (QF es)<;>rfl
   ·rw [if_neg hl,decide_eq_false hl];rfl
theorem aR(es:Ay)(ids ins:AP)(h:C9 es)(h2:ids.length<1099511627776)(h3:ins.length<1099511627776):QD es ids ins=some (IL es ids ins):=by
 unfold QD IL;rw [Bq h2,Bq h3,pq es ids ins h]
 cases I9 es.length 1 40 with
 |false=>rfl
 |true=>
  cases PD ids es.length with
  |false=>rfl
  |true=>
   by_cases hl:(ins.length:Int)=es.length
   ·rw [if_pos hl,decide_eq_true hl]
    cases Gy ins 0 9 with
    |false=>rfl
    |true=>cases (an es.length).all (QF es)<;>rfl
   ·rw [if_neg hl,decide_eq_false hl];rfl
theorem Ur(AA:Ay)(AQ:AP)(AC:AP)(h0:C9 AA)(h1:AQ.length<1099511627776)(h2:AC.length<1099511627776):Y.call 67 [cm [b9 123 (AR (fun x=>b9 125 (Az .i64 .i64 x)) AA),b9 3 (AR (bh .i64) AQ),b9 3 (AR (bh .i64) AC)]] []=some (cc (IL AA AQ AC),[]):=Qv AA AQ AC (Uq AA AQ AC h0 h1 h2)
theorem aS(AA:Ay)(AQ:AP)(AC:AP)(h0:C9 AA)(h1:AQ.length<1099511627776)(h2:AC.length<1099511627776):Y.call 60 [cm [b9 123 (AR (fun x=>b9 125 (Az .i64 .i64 x)) AA),b9 3 (AR (bh .i64) AQ),b9 3 (AR (bh .i64) AC)]] []=some (cc (IL AA AQ AC),[]):=WJ AA AQ AC (aR AA AQ AC h0 h1 h2)

def GR(AO:Ay)(v_:Int)(out:AP)(YK:Int):Option ((AP×Int)⊕(AP)):= if YK<((AO.getD v_.toNat bj).length:Int)then ck (0≤YK∧YK.toNat<(AO.getD v_.toNat bj).length)<| ck (out.length+1<1099511627776)<| some (cd ((out++[(BQ (AO.getD v_.toNat bj) YK.toNat)]),cf.wrap (YK+1))) else some (ca out)
def LF(AO:Ay)(v_:Int)(v:AP×Int):Option (AP):=JB (fun v=>GR AO v_ v.1 v.2) v
def Nw(AO:Ay)(AX:AP)(AJ:AP)(v_:Int):Option (AP):= ck (0≤v_∧v_.toNat<AO.length)<| (LF AO v_ ([],0)).bind fun Ae=> some Ae
def Us:SC:= .seq (.ops [oB 15 .lss 3 (tK 14) (tK 13) 3 0]) (.seq (.cond (tK 15) .skip (.exit 0)) (.seq (.block 1 (.seq (.ops [oI 16 123 12 14,oL 17 125 16 125,oX 7 (.alloc 125) 0,oS 125 7 17]) (.ops [oM 18 5 26,oF 19 125 7 0,oL 20 3 19 3,oX 21 (.buildSlice 26 1 #[(0,(tK 20))]) 26,oX 22 (.call ⟨(.builtin .append), #[(tK 18),(tK 21)], #[26,26]⟩) 26,oA 5 22 26]))) (.ops [oB 23 .add 3 (tK 14) (iK 1) 3 3,oM 14 23 3])))
def gX:SC:= .loop Us
def A36:SC:= .seq (.ops [oX 2 (.box 47 (tK 0)) 0,oX 4 Qn 26]) (.seq (.ops [oX 5 Qn 26]) (.seq (.seq (.ops [oF 8 47 2 0,oL 9 45 8 45,oM 10 1 3,oI 11 45 9 10,oL 12 123 11 123,oN 13 12 123,oX 14 (.move (iK 0)) 3]) (.block 0 gX)) (.seq (.ops [oM 24 5 26,oA 4 24 26]) .ret)))
theorem uI:Try.f129.body.map (BV lends)=some A36:=by kernel_rfl
theorem AAO:Bl Try.f129 2=true:=by kernel_rfl
theorem AFy{a l:List D}{r:D×List D}(h:Br Y.env A36 (Fa Ag l.length [ce 4] r) (entry a l))(ha:a.length=2):Y.call 129 a l=some r:=
 Af (Y:=Y) rfl Try.func129 (ha▸AAO) uI h
def GU(AO:Ay)(v_:Int)(out:AP)(YK:Int)(s:St):Prop:=s.v 5=cb 3 (AR (bh .i64) out)∧s.v 12=b9 125 (Az .i64 .i64 (AO.getD v_.toNat bj))∧s.v 13=bh .i64 ((AO.getD v_.toNat bj).length:Int)∧s.v 14=bh .i64 YK
def IM(AO:Ay)(v_:Int)(r:AP)(ex:Ex)(s:St):Prop:=ex= .exit 0∧s.v 5=cb 3 (AR (bh .i64) r)
theorem Ut(AO:Ay)(v_:Int){v:AP×Int}{s:St}{r:AP}(h:LF AO v_ v=some r)(hM:GU AO v_ v.1 v.2 s):Br Y.env gX (IM AO v_ r) s:=by
 unfold LF at h;refine BX (c:=Us) (fun v=>GR AO v_ v.1 v.2) (fun v s=>GU AO v_ v.1 v.2 s) (IM AO v_) ?_ h hM;clear h hM s v r;intro v s o hM h;obtain⟨out,YK⟩:=v;dsimp only at h hM;unfold GR at h;unfold GU at hM;obtain⟨m0,m1,m2,m3⟩:=hM;unfold Us;by_cases e2:YK<((AO.getD v_.toNat bj).length:Int)
 ·rw [if_pos e2]at h;obtain⟨e3,h⟩:=Bw h;obtain⟨e4,h⟩:=Bw h
  obtain rfl:=Option.some.inj h
  simp (maxDischargeDepth:=9) only [↓AU,AV,Ap,↓reduceIte,bk,bl,bm,bo,bp,br,bt,bw,bx,bO,b0,b3,b4,b5,b6,b7,b8,m0,m1,m2,m3,e2,e3.1,e3.2,e4,GU,IM,Ca,Cb,Cc]<;>(repeat' apply A7)<;>first|rfl|exact⟨_,rfl⟩|exact⟨_,_,rfl⟩|simp [AR,AB]
 ·rw [if_neg e2]at h
  obtain rfl:=Option.some.inj h
  simp (maxDischargeDepth:=9) only [↓AU,AV,Ap,↓reduceIte,bk,bl,bm,bo,bp,br,bt,bw,bx,bO,b0,b3,b4,b5,b6,b7,b8,m0,m1,m2,m3,e2,GU,IM,Ca,Cb,Cc]<;>(repeat' apply A7)<;>first|rfl|exact⟨_,rfl⟩|exact⟨_,_,rfl⟩|simp [AR,AB]
theorem WK(AO:Ay)(AX:AP)(AJ:AP)(v_:Int){r:AP}(h:Nw AO AX AJ v_=some r):Y.call 129 [cm [b9 123 (AR (fun x=>b9 125 (Az .i64 .i64 x)) AO),b9 3 (AR (bh .i64) AX),b9 3 (AR (bh .i64) AJ)],bh .i64 v_] []=some (cb 3 (AR (bh .i64) r),[]):=by
 refine AFy ?_ rfl;unfold A36;unfold Nw at h;obtain⟨e1,h⟩:=Bw h;obtain⟨Ae,hl3,h⟩:=BD h;try dsimp only at h
 simp (maxDischargeDepth:=9) only [↓AU,AV,Ap,↓reduceIte,bk,bl,bm,bo,bp,br,bt,bw,bx,bO,b0,b3,b4,b5,b6,b7,b8,e1.1,e1.2];refine BL (Ut AO v_ hl3 ?_) ?_
 ·simp (maxDischargeDepth:=9) only [↓AU,AV,Ap,↓reduceIte,bk,bl,bm,bo,bp,br,bt,bw,bx,bO,b0,b3,b4,b5,b6,b7,b8,e1.1,e1.2,GU]<;>(repeat' apply A7)<;>first|rfl|exact⟨_,rfl⟩|exact⟨_,_,rfl⟩|simp [AR,AB]
 ·intro ex3 s3 hX3;unfold IM at hX3;obtain⟨rfl,n3_0⟩:=hX3
  obtain rfl:=Option.some.inj h
  simp (maxDischargeDepth:=9) only [↓AU,AV,Ap,↓reduceIte,bk,bl,bm,bo,bp,br,bt,bw,bx,bO,b0,b3,b4,b5,b6,b7,b8,e1.1,e1.2,n3_0]<;>(repeat' apply A7)<;>first|rfl|exact⟨_,rfl⟩|exact⟨_,_,rfl⟩|simp [AR,AB]
def DU(AO:Ay)(AX:AP)(AJ:AP)(l:AP)(IP:Int)(Jg:AP)(v_:Int):Option ((Int)⊕(Int⊕Unit)):= if v_<(AO.length:Int)then ck (Jg.length<1099511627776)<| if(Jg.contains v_)=true then ck (0≤IP∧IP.toNat<l.length)<| ck (0≤v_∧v_.toNat<l.length)<| if(l.getD IP.toNat bj)=(l.getD v_.toNat bj)then some (ca (cd v_)) else some (cd (cf.wrap (v_+1))) else some (cd (cf.wrap (v_+1))) else some (ca (ca ()))
def H7(AO:Ay)(AX:AP)(AJ:AP)(l:AP)(IP:Int)(Jg:AP)(v:Int):Option (Int⊕Unit):=JB (fun v=>DU AO AX AJ l IP Jg v) v
def DV(AO:Ay)(AX:AP)(AJ:AP)(l:AP)(IP:Int):Option ((Int)⊕((Int×Int)⊕Unit)):=
 if IP<(AO.length:Int)then
  (Nw AO AX AJ IP).bind fun Jg=>
  (H7 AO AX AJ l IP Jg IP).bind fun Ae=>
  match Ae with
  | .inl q1000_=>
   some (ca (cd (IP,q1000_)))
  | .inr q1000_=>
   some (cd (cf.wrap (IP+1)))
 else
  some (ca (ca ()))
def Jh(AO:Ay)(AX:AP)(AJ:AP)(l:AP)(v:Int):Option ((Int×Int)⊕Unit):=JB (fun v=>DV AO AX AJ l v) v
def Ji(AO:Ay)(AX:AP)(AJ:AP)(l:AP):Option (Int×Int×Bool):=
 (Jh AO AX AJ l 0).bind fun Cz=>
 match Cz with
 | .inl q1001_=>
  some (q1001_.1,q1001_.2,true)
 | .inr q1001_=>
  some (0,0,false)
abbrev gY:List Nat:=[27,28,29,30,29,31,32,33,34,35,36,37,38,39,40]
def YL:SC:= .seq (.seq (.ops [oM 20 9 3,oF 21 47 2 0,oL 22 45 21 45,oN 23 22 45,oB 24 .lss 3 (tK 20) (tK 23) 3 4]) (.cond (tK 24) .skip (.exit 2))) (.seq (.block 3 (.seq (.draws [(⟨[27,8,8],gY,[27]⟩,oM 27 8 26),(⟨[28,9,9],gY,[28]⟩,oM 28 9 3),(⟨[29,27,28,8,9],gY,[29]⟩,oC 29 89 [(tK 27),(tK 28)] [26,3] 4),(⟨[30,29,29],gY,[30,29]⟩,oM 30 29 4),(⟨[31,1,1,30],gY,[31]⟩,⟨(some 31),(.move (tK 1)),26,(some (some 30,true))⟩),(⟨[32,7,7,30],gY,[32]⟩,⟨(some 32),(.move (tK 7)),3,(some (some 30,true))⟩),(⟨[33,31,32,1,7,30],gY,[33]⟩,⟨(some 33),(.indexAddr 26 (tK 31) (tK 32)),0,(some (some 30,true))⟩),(⟨[34,33,1,30],gY,[34]⟩,⟨(some 34),(.load 3 (tK 33)),3,(some (some 30,true))⟩),(⟨[35,1,1,30],gY,[35]⟩,⟨(some 35),(.move (tK 1)),26,(some (some 30,true))⟩),(⟨[36,9,9,30],gY,[36]⟩,⟨(some 36),(.move (tK 9)),3,(some (some 30,true))⟩),(⟨[37,35,36,1,9,30],gY,[37]⟩,⟨(some 37),(.indexAddr 26 (tK 35) (tK 36)),0,(some (some 30,true))⟩),(⟨[38,37,1,30],gY,[38]⟩,⟨(some 38),(.load 3 (tK 37)),3,(some (some 30,true))⟩),(⟨[39,34,38,1,1,30],gY,[39]⟩,⟨(some 39),(.binOp .eql 3 (tK 34) (tK 38) 3),4,(some (some 30,true))⟩),(⟨[40,30,39,29,39],gY,[40]⟩,oX 40 (.pick (tK 30) (tK 39) Py) 4)]) (.cond (tK 40) (.seq
 (.ops [oM 41 7 3,oM 42 9 3,oA 4 41 3,oA 5 42 3,oX 6 (.assign Dl) 4]) .ret) .skip))) (.ops [oM 25 9 3,oB 26 .add 3 (tK 25) (iK 1) 3 3,oA 9 26 3]))
def pu:SC:= .loop YL
def YM:SC:= .seq (.ops [oB 14 .lss 3 (tK 13) (tK 12) 3 0]) (.seq (.cond (tK 14) .skip (.exit 0)) (.seq (.block 1 (.seq (.ops [oM 15 13 3,oA 7 15 3]) (.seq (.ops [oL 16 47 2 47,oM 17 7 3,oC 18 129 [(tK 16),(tK 17)] [47,3] 26,oA 8 18 26]) (.seq (.ops [oM 19 7 3,oA 9 19 3]) (.block 2 pu))))) (.ops [oB 43 .add 3 (tK 13) (iK 1) 3 3,oM 13 43 3])))
def pz:SC:= .loop YM
def k80:SC:= .seq (.ops [oX 2 (.box 47 (tK 0)) 0,oX 4 (.assign (iK 0)) 3,oX 5 (.assign (iK 0)) 3,oX 6 BS 4]) (.seq (.seq (.ops [oF 10 47 2 0,oL 11 45 10 45,oN 12 11 45,oX 13 (.move (iK 0)) 3]) (.block 0 pz)) (.seq (.ops [oX 4 (.assign (iK 0)) 3,oX 5 (.assign (iK 0)) 3,oX 6 BS 4]) .ret))
theorem A37:Try.f80.body.map (BV lends)=some k80:=by kernel_rfl
theorem AG0:Bl Try.f80 2=true:=by kernel_rfl
theorem c80{a l:List D}{r:D×List D}(h:Br Y.env k80 (Fa Ag l.length [ce 4,ce 5,ce 6] r) (entry a l))(ha:a.length=2):Y.call 80 a l=some r:=
 Af (Y:=Y) rfl Try.func80 (ha▸AG0) A37 h
def E5(AO:Ay)(AX:AP)(AJ:AP)(l:AP)(IP:Int)(Jg:AP)(v_:Int)(s:St):Prop:=s.v 1=b9 3 (AR (bh .i64) l)∧s.v 2=cj [b9 123 (AR (fun x=>b9 125 (Az .i64 .i64 x)) AO),b9 3 (AR (bh .i64) AX),b9 3 (AR (bh .i64) AJ)]∧s.v 7=bh .i64 IP∧s.v 8=cb 3 (AR (bh .i64) Jg)∧s.v 9=bh .i64 v_∧s.v 12=bh .i64 (AO.length:Int)∧s.v 13=bh .i64 IP
def E8(AO:Ay)(AX:AP)(AJ:AP)(l:AP)(IP:Int)(Jg:AP)(r:Int⊕Unit)(ex:Ex)(s:St):Prop:=match r with
 | .inl q=>ex= .ret∧s.v 4=bh .i64 IP∧s.v 5=bh .i64 q∧s.v 6=cc true
 | .inr q=>ex= .exit 2∧s.v 1=b9 3 (AR (bh .i64) l)∧s.v 2=cj [b9 123 (AR (fun x=>b9 125 (Az .i64 .i64 x)) AO),b9 3 (AR (bh .i64) AX),b9 3 (AR (bh .i64) AJ)]∧s.v 12=bh .i64 (AO.length:Int)∧s.v 13=bh .i64 IP
theorem Uu(AO:Ay)(AX:AP)(AJ:AP)(l:AP)(IP:Int)(Jg:AP){v:Int}{s:St}{r:Int⊕Unit}(h:H7 AO AX AJ l IP Jg v=some r)(hM:E5 AO AX AJ l IP Jg v s):Br Y.env pu (E8 AO AX AJ l IP Jg r) s:=by
 unfold H7 at h;refine BX (c:=YL) (fun v=>DU AO AX AJ l IP Jg v) (fun v s=>E5 AO AX AJ l IP Jg v s) (E8 AO AX AJ l IP Jg) ?_ h hM;clear h hM s v r;intro v_ s o hM h;unfold DU at h;unfold E5 at hM;obtain⟨m0,m1,m2,m3,m4,m5,m6⟩:=hM;unfold YL;by_cases e3:v_<(AO.length:Int)
 ·rw [if_pos e3]at h;obtain⟨e4,h⟩:=Bw h;have c5:=Mh Jg v_ e4;by_cases e6:(Jg.contains v_)=true
  ·rw [if_pos e6]at h;obtain⟨e7,h⟩:=Bw h;obtain⟨e8,h⟩:=Bw h;by_cases e9:(l.getD IP.toNat bj)=(l.getD v_.toNat bj)
   ·rw [if_pos e9]at h
    obtain rfl:=Option.some.inj h
    simp (maxDischargeDepth:=9) only [↓AU,AV,Ap,↓reduceIte,bk,bl,bm,bo,bp,br,bt,bw,bx,bO,b0,b3,b4,b5,b6,b7,b8,m0,m1,m2,m3,m4,m5,m6,e3,e4,c5,e6,e7.1,e7.2,e8.1,e8.2,decide_eq_true e9,E5,E8,Ca,Cb,Cc]<;>(repeat' apply A7)<;>first|rfl|exact⟨_,rfl⟩|exact⟨_,_,rfl⟩|simp [AR,AB]
   ·rw [if_neg e9]at h
    obtain rfl:=Option.some.inj h
    simp (maxDischargeDepth:=9) only [↓AU,AV,Ap,↓reduceIte,bk,bl,bm,bo,bp,br,bt,bw,bx,bO,b0,b3,b4,b5,b6,b7,b8,m0,m1,m2,m3,m4,m5,m6,e3,e4,c5,e6,e7.1,e7.2,e8.1,e8.2,e9,E5,E8,Ca,Cb,Cc]<;>(repeat' apply A7)<;>first|rfl|exact⟨_,rfl⟩|exact⟨_,_,rfl⟩|simp [AR,AB]
  ·rw [if_neg e6]at h;have e6f:(Jg.contains v_)=false:=K7.mpr e6
   obtain rfl:=Option.some.inj h
   simp (maxDischargeDepth:=9) only [↓AU,AV,Ap,↓reduceIte,bk,bl,bm,bo,bp,br,bt,bw,bx,bO,b0,b3,b4,b5,b6,b7,b8,m0,m1,m2,m3,m4,m5,m6,e3,e4,c5,e6f,E5,E8,Ca,Cb,Cc]<;>(repeat' apply A7)<;>first|rfl|exact⟨_,rfl⟩|exact⟨_,_,rfl⟩|simp [AR,AB]
 ·rw [if_neg e3]at h
  obtain rfl:=Option.some.inj h
  simp (maxDischargeDepth:=9) only [↓AU,AV,Ap,↓reduceIte,bk,bl,bm,bo,bp,br,bt,bw,bx,bO,b0,b3,b4,b5,b6,b7,b8,m0,m1,m2,m3,m4,m5,m6,e3,E5,E8,Ca,Cb,Cc]<;>(repeat' apply A7)<;>first|rfl|exact⟨_,rfl⟩|exact⟨_,_,rfl⟩|simp [AR,AB]
def Ev(AO:Ay)(AX:AP)(AJ:AP)(l:AP)(IP:Int)(s:St):Prop:=s.v 1=b9 3 (AR (bh .i64) l)∧s.v 2=cj [b9 123 (AR (fun x=>b9 125 (Az .i64 .i64 x)) AO),b9 3 (AR (bh .i64) AX),b9 3 (AR (bh .i64) AJ)]∧s.v 12=bh .i64 (AO.length:Int)∧s.v 13=bh .i64 IP
def Ew(AO:Ay)(AX:AP)(AJ:AP)(l:AP)(r:(Int×Int)⊕Unit)(ex:Ex)(s:St):Prop:=match r with
 | .inl q=>ex= .ret∧s.v 4=bh .i64 q.1∧s.v 5=bh .i64 q.2∧s.v 6=cc true
 | .inr q=>ex= .exit 0
theorem Uv(AO:Ay)(AX:AP)(AJ:AP)(l:AP){v:Int}{s:St}{r:(Int×Int)⊕Unit}(h:Jh AO AX AJ l v=some r)(hM:Ev AO AX AJ l v s):Br Y.env pz (Ew AO AX AJ l r) s:=by
 unfold Jh at h;refine BX (c:=YM) (fun v=>DV AO AX AJ l v) (fun v s=>Ev AO AX AJ l v s) (Ew AO AX AJ l) ?_ h hM;clear h hM s v r;intro IP s o hM h;unfold DV at h;unfold Ev at hM;obtain⟨m0,m1,m2,m3⟩:=hM;unfold YM;by_cases e1:IP<(AO.length:Int)
 ·rw [if_pos e1]at h;obtain⟨Jg,hl2,h⟩:=BD h;try dsimp only at h
  have c2:=WK AO AX AJ IP hl2;obtain⟨Ae,hl4,h⟩:=BD h;try dsimp only at h
  simp (maxDischargeDepth:=9) only [↓AU,AV,Ap,↓reduceIte,bk,bl,bm,bo,bp,br,bt,bw,bx,bO,b0,b3,b4,b5,b6,b7,b8,m0,m1,m2,m3,e1,c2];refine BL (Uu AO AX AJ l IP Jg hl4 ?_) ?_
  ·simp (maxDischargeDepth:=9) only [↓AU,AV,Ap,↓reduceIte,bk,bl,bm,bo,bp,br,bt,bw,bx,bO,b0,b3,b4,b5,b6,b7,b8,m0,m1,m2,m3,e1,c2,E5]<;>(repeat' apply A7)<;>first|rfl|exact⟨_,rfl⟩|exact⟨_,_,rfl⟩|simp [AR,AB]
  ·intro ex4 s4 hX4;rcases Ae with q1000_|q1000_
   ·unfold E8 at hX4;dsimp only at hX4 h;obtain⟨rfl,n4_0,n4_1,n4_2⟩:=hX4
    obtain rfl:=Option.some.inj h
    simp (maxDischargeDepth:=9) only [↓AU,AV,Ap,↓reduceIte,bk,bl,bm,bo,bp,br,bt,bw,bx,bO,b0,b3,b4,b5,b6,b7,b8,e1,c2,n4_0,n4_1,n4_2,Ev,Ew,Ca,Cb,Cc]<;>(repeat' apply A7)<;>first|rfl|exact⟨_,rfl⟩|exact⟨_,_,rfl⟩|simp [AR,AB]
   ·unfold E8 at hX4;dsimp only at hX4 h;obtain⟨rfl,n4_0,n4_1,n4_2,n4_3⟩:=hX4
    obtain rfl:=Option.some.inj h
    simp (maxDischargeDepth:=9) only [↓AU,AV,Ap,↓reduceIte,bk,bl,bm,bo,bp,br,bt,bw,bx,bO,b0,b3,b4,b5,b6,b7,b8,e1,c2,n4_0,n4_1,n4_2,n4_3,Ev,Ew,Ca,Cb,Cc]<;>(repeat' apply A7)<;>first|rfl|exact⟨_,rfl⟩|exact⟨_,_,rfl⟩|simp [AR,AB]
 ·rw [if_neg e1]at h
  obtain rfl:=Option.some.inj h
  simp (maxDischargeDepth:=9) only [↓AU,AV,Ap,↓reduceIte,bk,bl,bm,bo,bp,br,bt,bw,bx,bO,b0,b3,b4,b5,b6,b7,b8,m0,m1,m2,m3,e1,Ev,Ew,Ca,Cb,Cc]<;>(repeat' apply A7)<;>first|rfl|exact⟨_,rfl⟩|exact⟨_,_,rfl⟩|simp [AR,AB]
theorem Oe(AO:Ay)(AX:AP)(AJ:AP)(l:AP){r:Int×Int×Bool}(h:Ji AO AX AJ l=some r):Y.call 80 [cm [b9 123 (AR (fun x=>b9 125 (Az .i64 .i64 x)) AO),b9 3 (AR (bh .i64) AX),b9 3 (AR (bh .i64) AJ)],b9 3 (AR (bh .i64) l)] []=some (D.tup [bh .i64 r.1,bh .i64 r.2.1,cc r.2.2],[]):=by
 refine c80 ?_ rfl;unfold k80;unfold Ji at h;obtain⟨Cz,hl2,h⟩:=BD h;try dsimp only at h
 simp (maxDischargeDepth:=9) only [↓AU,AV,Ap,↓reduceIte,bk,bl,bm,bo,bp,br,bt,bw,bx,bO,b0,b3,b4,b5,b6,b7,b8];refine BL (Uv AO AX AJ l hl2 ?_) ?_
 ·simp (maxDischargeDepth:=9) only [↓AU,AV,Ap,↓reduceIte,bk,bl,bm,bo,bp,br,bt,bw,bx,bO,b0,b3,b4,b5,b6,b7,b8,Ev]<;>(repeat' apply A7)<;>first|rfl|exact⟨_,rfl⟩|exact⟨_,_,rfl⟩|simp [AR,AB]
 ·intro ex2 s2 hX2;rcases Cz with q1001_|q1001_
  ·unfold Ew at hX2;dsimp only at hX2 h;obtain⟨rfl,n2_0,n2_1,n2_2⟩:=hX2
   obtain rfl:=Option.some.inj h
   simp (maxDischargeDepth:=9) only [↓AU,AV,Ap,↓reduceIte,bk,bl,bm,bo,bp,br,bt,bw,bx,bO,b0,b3,b4,b5,b6,b7,b8,n2_0,n2_1,n2_2]<;>(repeat' apply A7)<;>first|rfl|exact⟨_,rfl⟩|exact⟨_,_,rfl⟩|simp [AR,AB]
  ·unfold Ew at hX2;dsimp only at hX2 h
   obtain rfl:=hX2
   obtain rfl:=Option.some.inj h
   simp (maxDischargeDepth:=9) only [↓AU,AV,Ap,↓reduceIte,bk,bl,bm,bo,bp,br,bt,bw,bx,bO,b0,b3,b4,b5,b6,b7,b8]<;>(repeat' apply A7)<;>first|rfl|exact⟨_,rfl⟩|exact⟨_,_,rfl⟩|simp [AR,AB]
def DW(l:AP)(Gj:Int)(v_:Int):Option ((Int)⊕(Int⊕Unit)):= if v_<(l.length:Int)then ck (0≤Gj∧Gj.toNat<l.length)<| ck (0≤v_∧v_.toNat<l.length)<| if(l.getD Gj.toNat bj)=(l.getD v_.toNat bj)then some (ca (cd v_)) else some (cd (cf.wrap (v_+1))) else some (ca (ca ()))
def H8(l:AP)(Gj:Int)(v:Int):Option (Int⊕Unit):=JB (fun v=>DW l Gj v) v
def DX(l:AP)(Gj:Int):Option ((Int)⊕((Int×Int)⊕Unit)):=
 if Gj<(l.length:Int)then
  (H8 l Gj (cf.wrap (Gj+1))).bind fun Ae=>
  match Ae with
  | .inl q1000_=>
   some (ca (cd (Gj,q1000_)))
  | .inr q1000_=>
   some (cd (cf.wrap (Gj+1)))
 else
  some (ca (ca ()))
def Jj(l:AP)(v:Int):Option ((Int×Int)⊕Unit):=JB (fun v=>DX l v) v
def Jk(l:AP):Option (Int×Int×Bool):=
 (Jj l 0).bind fun Cz=>
 match Cz with
 | .inl q1001_=>
  some (q1001_.1,q1001_.2,true)
 | .inr q1001_=>
  some (0,0,false)
abbrev uJ:List Nat:=[20,21,22,23,24,25,26,27,28]
def YN:SC:= .seq (.seq (.ops [oM 14 6 3,oM 15 0 26,oN 16 15 26,oB 17 .lss 3 (tK 14) (tK 16) 3 4]) (.cond (tK 17) .skip (.exit 2))) (.seq (.block 3 (.seq (.draws [(⟨[20,0,0],uJ,[20]⟩,oM 20 0 26),(⟨[21,5,5],uJ,[21]⟩,oM 21 5 3),(⟨[22,20,21,0,5],uJ,[22]⟩,oI 22 26 20 21),(⟨[23,22,0],uJ,[23]⟩,oL 23 3 22 3),(⟨[24,0,0],uJ,[24]⟩,oM 24 0 26),(⟨[25,6,6],uJ,[25]⟩,oM 25 6 3),(⟨[26,24,25,0,6],uJ,[26]⟩,oI 26 26 24 25),(⟨[27,26,0],uJ,[27]⟩,oL 27 3 26 3),(⟨[28,23,27,0,0],uJ,[28]⟩,oB 28 .eql 3 (tK 23) (tK 27) 3 4)]) (.cond (tK 28) (.seq (.ops [oM 29 5 3,oM 30 6 3,oA 2 29 3,oA 3 30 3,oX 4 (.assign Dl) 4]) .ret) .skip))) (.ops [oM 18 6 3,oB 19 .add 3 (tK 18) (iK 1) 3 3,oA 6 19 3]))
def qA:SC:= .loop YN
def YO:SC:= .seq (.ops [oB 10 .lss 3 (tK 9) (tK 8) 3 0]) (.seq (.cond (tK 10) .skip (.exit 0)) (.seq (.block 1 (.seq (.ops [oM 11 9 3,oA 5 11 3]) (.seq (.ops [oM 12 5 3,oB 13 .add 3 (tK 12) (iK 1) 3 3,oA 6 13 3]) (.block 2 qA)))) (.ops [oB 31 .add 3 (tK 9) (iK 1) 3 3,oM 9 31 3])))
def qB:SC:= .loop YO
def k81:SC:= .seq (.ops [oX 2 (.assign (iK 0)) 3,oX 3 (.assign (iK 0)) 3,oX 4 BS 4]) (.seq (.seq (.ops [oM 7 0 26,oN 8 7 26,oX 9 (.move (iK 0)) 3]) (.block 0 qB)) (.seq (.ops [oX 2 (.assign (iK 0)) 3,oX 3 (.assign (iK 0)) 3,oX 4 BS 4]) .ret))
theorem A38:Try.f81.body.map (BV lends)=some k81:=by kernel_rfl
theorem AG2:Bl Try.f81 1=true:=by kernel_rfl
theorem c81{a l:List D}{r:D×List D}(h:Br Y.env k81 (Fa Ag l.length [ce 2,ce 3,ce 4] r) (entry a l))(ha:a.length=1):Y.call 81 a l=some r:=
 Af (Y:=Y) rfl Try.func81 (ha▸AG2) A38 h
def Ey(l:AP)(Gj:Int)(v_:Int)(s:St):Prop:=s.v 0=b9 3 (AR (bh .i64) l)∧s.v 5=bh .i64 Gj∧s.v 6=bh .i64 v_∧s.v 8=bh .i64 (l.length:Int)∧s.v 9=bh .i64 Gj
def Ez(l:AP)(Gj:Int)(r:Int⊕Unit)(ex:Ex)(s:St):Prop:=match r with
 | .inl q=>ex= .ret∧s.v 2=bh .i64 Gj∧s.v 3=bh .i64 q∧s.v 4=cc true
 | .inr q=>ex= .exit 2∧s.v 0=b9 3 (AR (bh .i64) l)∧s.v 8=bh .i64 (l.length:Int)∧s.v 9=bh .i64 Gj
theorem Uw(l:AP)(Gj:Int){v:Int}{s:St}{r:Int⊕Unit}(h:H8 l Gj v=some r)(hM:Ey l Gj v s):Br Y.env qA (Ez l Gj r) s:=by
 unfold H8 at h;refine BX (c:=YN) (fun v=>DW l Gj v) (fun v s=>Ey l Gj v s) (Ez l Gj) ?_ h hM;clear h hM s v r;intro v_ s o hM h;unfold DW at h;unfold Ey at hM;obtain⟨m0,m1,m2,m3,m4⟩:=hM;unfold YN;by_cases e2:v_<(l.length:Int)
 ·rw [if_pos e2]at h;obtain⟨e3,h⟩:=Bw h;obtain⟨e4,h⟩:=Bw h;by_cases e5:(l.getD Gj.toNat bj)=(l.getD v_.toNat bj)
  ·rw [if_pos e5]at h
   obtain rfl:=Option.some.inj h
   simp (maxDischargeDepth:=9) only [↓AU,AV,Ap,↓reduceIte,bk,bl,bm,bo,bp,br,bt,bw,bx,bO,b0,b3,b4,b5,b6,b7,b8,m0,m1,m2,m3,m4,e2,e3.1,e3.2,e4.1,e4.2,decide_eq_true e5,Ey,Ez,Ca,Cb,Cc]<;>(repeat' apply A7)<;>first|rfl|exact⟨_,rfl⟩|exact⟨_,_,rfl⟩|simp [AR,AB]
  ·rw [if_neg e5]at h
   obtain rfl:=Option.some.inj h
   simp (maxDischargeDepth:=9) only [↓AU,AV,Ap,↓reduceIte,bk,bl,bm,bo,bp,br,bt,bw,bx,bO,b0,b3,b4,b5,b6,b7,b8,m0,m1,m2,m3,m4,e2,e3.1,e3.2,e4.1,e4.2,e5,Ey,Ez,Ca,Cb,Cc]<;>(repeat' apply A7)<;>first|rfl|exact⟨_,rfl⟩|exact⟨_,_,rfl⟩|simp [AR,AB]
 ·rw [if_neg e2]at h
  obtain rfl:=Option.some.inj h
  simp (maxDischargeDepth:=9) only [↓AU,AV,Ap,↓reduceIte,bk,bl,bm,bo,bp,br,bt,bw,bx,bO,b0,b3,b4,b5,b6,b7,b8,m0,m1,m2,m3,m4,e2,Ey,Ez,Ca,Cb,Cc]<;>(repeat' apply A7)<;>first|rfl|exact⟨_,rfl⟩|exact⟨_,_,rfl⟩|simp [AR,AB]
def F3(l:AP)(Gj:Int)(s:St):Prop:=s.v 0=b9 3 (AR (bh .i64) l)∧s.v 8=bh .i64 (l.length:Int)∧s.v 9=bh .i64 Gj
def F4(l:AP)(r:(Int×Int)⊕Unit)(ex:Ex)(s:St):Prop:=match r with
 | .inl q=>ex= .ret∧s.v 2=bh .i64 q.1∧s.v 3=bh .i64 q.2∧s.v 4=cc true
 | .inr q=>ex= .exit 0
theorem Ux(l:AP){v:Int}{s:St}{r:(Int×Int)⊕Unit}(h:Jj l v=some r)(hM:F3 l v s):Br Y.env qB (F4 l r) s:=by
 unfold Jj at h;refine BX (c:=YO) (fun v=>DX l v) (fun v s=>F3 l v s) (F4 l) ?_ h hM;clear h hM s v r;intro Gj s o hM h;unfold DX at h;unfold F3 at hM;obtain⟨m0,m1,m2⟩:=hM;unfold YO;by_cases e1:Gj<(l.length:Int)
 ·rw [if_pos e1]at h;obtain⟨Ae,hl3,h⟩:=BD h;try dsimp only at h
  simp (maxDischargeDepth:=9) only [↓AU,AV,Ap,↓reduceIte,bk,bl,bm,bo,bp,br,bt,bw,bx,bO,b0,b3,b4,b5,b6,b7,b8,m0,m1,m2,e1];refine BL (Uw l Gj hl3 ?_) ?_
  ·simp (maxDischargeDepth:=9) only [↓AU,AV,Ap,↓reduceIte,bk,bl,bm,bo,bp,br,bt,bw,bx,bO,b0,b3,b4,b5,b6,b7,b8,m0,m1,m2,e1,Ey]<;>(repeat' apply A7)<;>first|rfl|exact⟨_,rfl⟩|exact⟨_,_,rfl⟩|simp [AR,AB]
  ·intro ex3 s3 hX3;rcases Ae with q1000_|q1000_
   ·unfold Ez at hX3;dsimp only at hX3 h;obtain⟨rfl,n3_0,n3_1,n3_2⟩:=hX3
    obtain rfl:=Option.some.inj h
    simp (maxDischargeDepth:=9) only [↓AU,AV,Ap,↓reduceIte,bk,bl,bm,bo,bp,br,bt,bw,bx,bO,b0,b3,b4,b5,b6,b7,b8,e1,n3_0,n3_1,n3_2,F3,F4,Ca,Cb,Cc]<;>(repeat' apply A7)<;>first|rfl|exact⟨_,rfl⟩|exact⟨_,_,rfl⟩|simp [AR,AB]
   ·unfold Ez at hX3;dsimp only at hX3 h;obtain⟨rfl,n3_0,n3_1,n3_2⟩:=hX3
    obtain rfl:=Option.some.inj h
    simp (maxDischargeDepth:=9) only [↓AU,AV,Ap,↓reduceIte,bk,bl,bm,bo,bp,br,bt,bw,bx,bO,b0,b3,b4,b5,b6,b7,b8,e1,n3_0,n3_1,n3_2,F3,F4,Ca,Cb,Cc]<;>(repeat' apply A7)<;>first|rfl|exact⟨_,rfl⟩|exact⟨_,_,rfl⟩|simp [AR,AB]
 ·rw [if_neg e1]at h
  obtain rfl:=Option.some.inj h
  simp (maxDischargeDepth:=9) only [↓AU,AV,Ap,↓reduceIte,bk,bl,bm,bo,bp,br,bt,bw,bx,bO,b0,b3,b4,b5,b6,b7,b8,m0,m1,m2,e1,F3,F4,Ca,Cb,Cc]<;>(repeat' apply A7)<;>first|rfl|exact⟨_,rfl⟩|exact⟨_,_,rfl⟩|simp [AR,AB]
theorem Og(l:AP){r:Int×Int×Bool}(h:Jk l=some r):Y.call 81 [b9 3 (AR (bh .i64) l)] []=some (D.tup [bh .i64 r.1,bh .i64 r.2.1,cc r.2.2],[]):=by
 refine c81 ?_ rfl;unfold k81;unfold Jk at h;obtain⟨Cz,hl2,h⟩:=BD h;try dsimp only at h
 simp (maxDischargeDepth:=9) only [↓AU,AV,Ap,↓reduceIte,bk,bl,bm,bo,bp,br,bt,bw,bx,bO,b0,b3,b4,b5,b6,b7,b8];refine BL (Ux l hl2 ?_) ?_
 ·simp (maxDischargeDepth:=9) only [↓AU,AV,Ap,↓reduceIte,bk,bl,bm,bo,bp,br,bt,bw,bx,bO,b0,b3,b4,b5,b6,b7,b8,F3]<;>(repeat' apply A7)<;>first|rfl|exact⟨_,rfl⟩|exact⟨_,_,rfl⟩|simp [AR,AB]
 ·intro ex2 s2 hX2;rcases Cz with q1001_|q1001_
  ·unfold F4 at hX2;dsimp only at hX2 h;obtain⟨rfl,n2_0,n2_1,n2_2⟩:=hX2
   obtain rfl:=Option.some.inj h
   simp (maxDischargeDepth:=9) only [↓AU,AV,Ap,↓reduceIte,bk,bl,bm,bo,bp,br,bt,bw,bx,bO,b0,b3,b4,b5,b6,b7,b8,n2_0,n2_1,n2_2]<;>(repeat' apply A7)<;>first|rfl|exact⟨_,rfl⟩|exact⟨_,_,rfl⟩|simp [AR,AB]
  ·unfold F4 at hX2;dsimp only at hX2 h
   obtain rfl:=hX2
   obtain rfl:=Option.some.inj h
   simp (maxDischargeDepth:=9) only [↓AU,AV,Ap,↓reduceIte,bk,bl,bm,bo,bp,br,bt,bw,bx,bO,b0,b3,b4,b5,b6,b7,b8]<;>(repeat' apply A7)<;>first|rfl|exact⟨_,rfl⟩|exact⟨_,_,rfl⟩|simp [AR,AB]
def Ke(outputs:AP)(sum:Int)(YP:Int):Option ((Int×Int)⊕(Int)):= if YP<(outputs.length:Int)then ck (0≤YP∧YP.toNat<outputs.length)<| some (cd (cf.wrap (sum+(outputs.getD YP.toNat bj)),cf.wrap (YP+1))) else some (ca sum)
def Ml(outputs:AP)(v:Int×Int):Option (Int):=JB (fun v=>Ke outputs v.1 v.2) v
def M8(AO:Ay)(AX:AP)(AJ:AP)(task:Int)(outputs:AP):Option (Bool):= if task=1 then (Ml outputs (0,0)).bind fun Ae=> ck (outputs.length<1099511627776)<| if(Gy outputs (0:Int) (1:Int))=true then some (decide (Ae=1)) else some false else if task=2 then (Ji AO AX AJ outputs).bind fun kV=> some (!kV.2.2) else (Jk outputs).bind fun AAP=> some (!AAP.2.2)
def Uy:SC:= .seq (.ops [oB 22 .lss 3 (tK 21) (tK 20) 3 0]) (.seq (.cond (tK 22) .skip (.exit 1)) (.seq (.block 2 (.seq (.ops [oI 23 26 19 21,oL 24 3 23 3,oA 9 24 3]) (.ops [oM 25 7 3,oM 26 9 3,oB 27 .add 3 (tK 25) (tK 26) 3 3,oA 7 27 3]))) (.ops [oB 28 .add 3 (tK 21) (iK 1) 3 3,oM 21 28 3])))
def gZ:SC:= .loop Uy
def A39:SC:= .seq (.ops [oX 3 (.box 47 (tK 0)) 0,oX 6 BS 4]) (.seq (.seq (.ops [oM 16 1 3]) (.block 0 (.seq (.ops [oB 18 .eql 3 (tK 16) (iK 1) 3 4,oA 17 18 4]) (.cond (tK 17) (.seq (.ops [oX 7 (.assign (iK 0)) 3]) (.seq (.seq (.ops [oM 19 2 26,oN 20 19 26,oX 21 (.move (iK 0)) 3]) (.block 1 gZ)) (.seq (.ops [oM 29 2 26,oC 30 107 [(tK 29),(iK 0),(iK 1)] [26,3,3] 4,oM 31 30 4,⟨(some 32),(.move (tK 7)),3,(some (some 31,true))⟩,⟨(some 33),(.binOp .eql 3 (tK 32) (iK 1) 3),4,(some (some 31,true))⟩,oX 34 (.pick (tK 31) (tK 33) Py) 4,oA 6 34 4]) .ret))) (.seq (.ops [oB 36 .eql 3 (tK 16) (iK 2) 3 4,oA 35 36 4]) (.cond (tK 35) (.seq (.ops [oL 38 47 3 47,oM 39 2 26,oC 40 80 [(tK 38),(tK 39)] [47,26] 100,oM 37 40 100,oE 41 37 0 3,oE 42 37 1 3,oE 43 37 2 4,oA 10 41 3,oA 11 42 3,oA 12 43 4]) (.seq (.ops [oM 44 12 4,oX 45 (.unOp .not 4 (tK 44)) 4,oA 6 45 4]) .ret)) .skip)))))) (.seq (.ops [oM 47 2 26,oC 48 81 [(tK 47)] [26] 100,oM 46 48 100,oE 49 46 0 3,oE 50 46 1 3,oE 51 46 2 4,oA 13 49 3,oA 14 50 3,oA 15 51 4]) (.seq (.ops [oM 52 15 4,oX 53 (.unOp .not 4 (tK 52)) 4,oA 6 53 4]) .ret)))
theorem uK:Try.f109.body.map (BV lends)=some A39:=by kernel_rfl
theorem AAQ:Bl Try.f109 3=true:=by kernel_rfl
theorem AG3{a l:List D}{r:D×List D}(h:Br Y.env A39 (Fa Ag l.length [ce 6] r) (entry a l))(ha:a.length=3):Y.call 109 a l=some r:=
 Af (Y:=Y) rfl Try.func109 (ha▸AAQ) uK h
def FJ(outputs:AP)(sum:Int)(YP:Int)(s:St):Prop:=s.v 2=b9 3 (AR (bh .i64) outputs)∧s.v 7=bh .i64 sum∧s.v 19=b9 3 (AR (bh .i64) outputs)∧s.v 20=bh .i64 (outputs.length:Int)∧s.v 21=bh .i64 YP
def H9(outputs:AP)(r:Int)(ex:Ex)(s:St):Prop:=ex= .exit 1∧s.v 2=b9 3 (AR (bh .i64) outputs)∧s.v 7=bh .i64 r
theorem SK(outputs:AP){v:Int×Int}{s:St}{r:Int}(h:Ml outputs v=some r)(hM:FJ outputs v.1 v.2 s):Br Y.env gZ (H9 outputs r) s:=by
 unfold Ml at h;refine BX (c:=Uy) (fun v=>Ke outputs v.1 v.2) (fun v s=>FJ outputs v.1 v.2 s) (H9 outputs) ?_ h hM;clear h hM s v r;intro v s o hM h;obtain⟨sum,YP⟩:=v;dsimp only at h hM;unfold Ke at h;unfold FJ at hM;obtain⟨m0,m1,m2,m3,m4⟩:=hM;unfold Uy;by_cases e2:YP<(outputs.length:Int)
 ·rw [if_pos e2]at h;obtain⟨e3,h⟩:=Bw h
  obtain rfl:=Option.some.inj h
  simp (maxDischargeDepth:=9) only [↓AU,AV,Ap,↓reduceIte,bk,bl,bm,bo,bp,br,bt,bw,bx,bO,b0,b3,b4,b5,b6,b7,b8,m0,m1,m2,m3,m4,e2,e3.1,e3.2,FJ,H9,Ca,Cb,Cc]<;>(repeat' apply A7)<;>first|rfl|exact⟨_,rfl⟩|exact⟨_,_,rfl⟩|simp [AR,AB]
 ·rw [if_neg e2]at h
  obtain rfl:=Option.some.inj h
  simp (maxDischargeDepth:=9) only [↓AU,AV,Ap,↓reduceIte,bk,bl,bm,bo,bp,br,bt,bw,bx,bO,b0,b3,b4,b5,b6,b7,b8,m0,m1,m2,m3,m4,e2,FJ,H9,Ca,Cb,Cc]<;>(repeat' apply A7)<;>first|rfl|exact⟨_,rfl⟩|exact⟨_,_,rfl⟩|simp [AR,AB]
theorem Uz(AO:Ay)(AX:AP)(AJ:AP)(task:Int)(outputs:AP){r:Bool}(h:M8 AO AX AJ task outputs=some r):Y.call 109 [cm [b9 123 (AR (fun x=>b9 125 (Az .i64 .i64 x)) AO),b9 3 (AR (bh .i64) AX),b9 3 (AR (bh .i64) AJ)],bh .i64 task,b9 3 (AR (bh .i64) outputs)] []=some (cc r,[]):=by
 refine AG3 ?_ rfl;unfold A39;unfold M8 at h;by_cases e1:task=1
 ·rw [if_pos e1]at h;obtain⟨Ae,hl3,h⟩:=BD h;try dsimp only at h
  simp (maxDischargeDepth:=9) only [↓AU,AV,Ap,↓reduceIte,bk,bl,bm,bo,bp,br,bt,bw,bx,bO,b0,b3,b4,b5,b6,b7,b8,decide_eq_true e1];refine BL (SK outputs hl3 ?_) ?_
  ·simp (maxDischargeDepth:=9) only [↓AU,AV,Ap,↓reduceIte,bk,bl,bm,bo,bp,br,bt,bw,bx,bO,b0,b3,b4,b5,b6,b7,b8,decide_eq_true e1,FJ]<;>(repeat' apply A7)<;>first|rfl|exact⟨_,rfl⟩|exact⟨_,_,rfl⟩|simp [AR,AB]
  ·intro ex3 s3 hX3;unfold H9 at hX3;obtain⟨rfl,n3_0,n3_1⟩:=hX3;obtain⟨e4,h⟩:=Bw h;have c5:=UT outputs (0:Int) (1:Int) e4;by_cases e6:(Gy outputs (0:Int) (1:Int))=true
   ·rw [if_pos e6]at h
    obtain rfl:=Option.some.inj h
    simp (maxDischargeDepth:=9) only [↓AU,AV,Ap,↓reduceIte,bk,bl,bm,bo,bp,br,bt,bw,bx,bO,b0,b3,b4,b5,b6,b7,b8,decide_eq_true e1,n3_0,n3_1,e4,c5,e6]<;>(repeat' apply A7)<;>first|rfl|exact⟨_,rfl⟩|exact⟨_,_,rfl⟩|simp [AR,AB]
   ·rw [if_neg e6]at h;have e6f:(Gy outputs (0:Int) (1:Int))=false:=K7.mpr e6
    obtain rfl:=Option.some.inj h
    simp (maxDischargeDepth:=9) only [↓AU,AV,Ap,↓reduceIte,bk,bl,bm,bo,bp,br,bt,bw,bx,bO,b0,b3,b4,b5,b6,b7,b8,decide_eq_true e1,n3_0,n3_1,e4,c5,e6f]<;>(repeat' apply A7)<;>first|rfl|exact⟨_,rfl⟩|exact⟨_,_,rfl⟩|simp [AR,AB]
 ·rw [if_neg e1]at h;by_cases e2:task=2
  ·rw [if_pos e2]at h;obtain⟨kV,hl3,h⟩:=BD h;try dsimp only at h
   have c3:=Oe AO AX AJ outputs hl3
   obtain rfl:=Option.some.inj h
   simp (maxDischargeDepth:=9) only [↓AU,AV,Ap,↓reduceIte,bk,bl,bm,bo,bp,br,bt,bw,bx,bO,b0,b3,b4,b5,b6,b7,b8,e1,decide_eq_true e2,c3]<;>(repeat' apply A7)<;>first|rfl|exact⟨_,rfl⟩|exact⟨_,_,rfl⟩|simp [AR,AB]
  ·rw [if_neg e2]at h;obtain⟨AAP,hl3,h⟩:=BD h;try dsimp only at h
   have c3:=Og outputs hl3
   obtain rfl:=Option.some.inj h
   simp (maxDischargeDepth:=9) only [↓AU,AV,Ap,↓reduceIte,bk,bl,bm,bo,bp,br,bt,bw,bx,bO,b0,b3,b4,b5,b6,b7,b8,e1,e2,c3]<;>(repeat' apply A7)<;>first|rfl|exact⟨_,rfl⟩|exact⟨_,_,rfl⟩|simp [AR,AB]
def CL(AA:Ay)(AQ:AP)(AC:AP)(Il:List (AP×Int))(KF:AP)(BO:Int)(J8:Int):Option ((Int)⊕(Unit)):= if J8<((AA.getD BO.toNat bj).length:Int)then ck (0≤J8∧J8.toNat<(AA.getD BO.toNat bj).length)<| some (cd (cf.wrap (J8+1))) else some (ca ())
def Di(AA:Ay)(AQ:AP)(AC:AP)(Il:List (AP×Int))(KF:AP)(BO:Int)(v:Int):Option (Unit):=JB (fun v=>CL AA AQ AC Il KF BO v) v
def CO(AA:Ay)(AQ:AP)(AC:AP)(Il:List (AP×Int))(KF:AP)(BO:Int):Option (((List (AP×Int))×AP×Int)⊕(AP)):= if BO<(AA.length:Int)then ck (0≤BO∧BO.toNat<AA.length)<| ck (0≤BO∧BO.toNat<AC.length)<| (Di AA AQ AC Il KF BO 0).bind fun Ae=> if((J4 Il [((AA.getD BO.toNat bj).length:Int),(AC.getD BO.toNat bj),0,0,0,0,0,0,0,0,0,0,0,0]).2)=true then ck (0≤BO∧BO.toNat<KF.length)<| some (cd (Il,(KF.set BO.toNat ((J4 Il [((AA.getD BO.toNat bj).length:Int),(AC.getD BO.toNat bj),0,0,0,0,0,0,0,0,0,0,0,0]).1)),cf.wrap (BO+1))) else ck (0≤BO∧BO.toNat<KF.length)<| some (cd ((UF Il [((AA.getD BO.toNat bj).length:Int),(AC.getD BO.toNat bj),0,0,0,0,0,0,0,0,0,0,0,0] (Il.length:Int)),(KF.set BO.toNat (Il.length:Int)),cf.wrap (BO+1))) else some (ca KF)
def Dj(AA:Ay)(AQ:AP)(AC:AP)(v:(List (AP×Int))×AP×Int):Option (AP):=JB (fun v=>CO AA AQ AC v.1 v.2.1 v.2.2) v
def En(AA:Ay)(AQ:AP)(AC:AP):Option (AP):= ck (0≤(AA.length:Int)∧(AA.length:Int)<1099511627776)<| (Dj AA AQ AC (([]:List (AP×Int)),(List.replicate AA.length 0),0)).bind fun Cz=> some Cz
abbrev I5:List Nat:=[44,45,46,47,48,49,50,51,52,53,54,55,56,57,57,51,9,58,58,56,9]
def Qx:SC:= .seq (.ops [oB 38 .lss 3 (tK 37) (tK 36) 3 0]) (.seq (.cond (tK 38) .skip (.exit 2)) (.seq (.block 3 (.seq (.ops [oM 39 37 3,oI 40 123 35 37,oL 41 125 40 125,oX 11 (.alloc 125) 0,oA 10 39 3,oS 125 11 41]) (.seq (.ops [oM 42 1 26,oB 43 .neq 26 (tK 42) (.const (.slice none 0 0)) 26 4]) (.cond (tK 43) (.draws [(⟨[44,10,10],I5,[44]⟩,oM 44 10 3),(⟨[45,44,10],I5,[45]⟩,oB 45 .mul 3 (iK 2) (tK 44) 3 3),(⟨[46,45,45],I5,[46]⟩,oB 46 .add 3 (iK 2) (tK 45) 3 3),(⟨[47,10,10],I5,[47]⟩,oM 47 10 3),(⟨[48,47,10],I5,[48]⟩,oB 48 .mul 3 (iK 2) (tK 47) 3 3),(⟨[49,48,48],I5,[49]⟩,oB 49 .add 3 (iK 3) (tK 48) 3 3),(⟨[50,11,11],I5,[50]⟩,oF 50 125 11 1),(⟨[51,50,11],I5,[51]⟩,oL 51 3 50 3),(⟨[52,1,1],I5,[52]⟩,oM 52 1 26),(⟨[53,11,11],I5,[53]⟩,oF 53 125 11 0),(⟨[54,53,11],I5,[54]⟩,oL 54 3 53 3),(⟨[55,52,54,1,11],I5,[55]⟩,oI 55 26 52 54),(⟨[56,55,1],I5,[56]⟩,oL 56 3 55 3),(⟨[57,9,46,9,46],I5,[57]⟩,oI 57 164 9 46),(⟨[57,51,9,11],I5,[57,51,9]⟩,oS 3 57 51),(⟨[58,9,49,9,49],I5,[58]⟩,oI 58 164 9 49),(⟨[58,56,9,1],I5,[58,56,9]⟩,oS 3 58 56)]) .skip)))) (.ops [oB 59 .add 3 (tK 37) (iK 1) 3 3,oM 37 59 3])))
def aT:SC:= .loop Qx
def Qy:SC:= .seq (.ops [oB 23 .lss 3 (tK 22) (tK 21) 3 0]) (.seq (.cond (tK 23) .skip (.exit 0)) (.seq (.block 1 (.seq (.ops [oM 24 22 3,oI 25 45 20 22,oL 26 123 25 123,oA 7 24 3,oA 8 26 123]) (.seq (.ops [oM 27 8 123,oN 28 27 123,oF 29 47 2 2,oL 30 26 29 26,oM 31 7 3,oI 32 26 30 31,oL 33 3 32 3,oX 34 (.build 164 #[(0,(tK 28)),(1,(tK 33))]) 164,oX 9 (.alloc 164) 0,oS 164 9 34]) (.seq (.seq (.ops [oM 35 8 123,oN 36 35 123,oX 37 (.move (iK 0)) 3]) (.block 2 aT)) (.seq (.ops [oM 61 5 162,oL 62 164 9 164,oX 63 (.lookup 162 (tK 61) (tK 62) true) 51,oM 60 63 51,oE 64 60 0 3,oE 65 60 1 4,oA 12 64 3,oA 13 65 4]) (.seq (.seq (.ops [oM 66 13 4,oX 67 (.unOp .not 4 (tK 66)) 4]) (.cond (tK 67) (.seq (.ops [oM 68 5 162,oN 69 68 162,oA 12 69 3]) (.ops [oM 70 5 162,oL 71 164 9 164,oM 72 12 3,⟨none,(.mapUpdate 162 (tK 70) (tK 71) (tK 72)),0,none⟩])) .skip)) (.ops [oM 73 6 26,oM 74 7 3,oM 75 12 3,oI 76 26 73 74,oS 3 76 75]))))))) (.ops [oB 77 .add 3 (tK 22) (iK 1) 3 3,oM 22 77 3])))
def aU:SC:= .loop Qy
def qC:SC:= .seq (.ops [oX 2 (.box 47 (tK 0)) 0,oX 4 Qn 26]) (.seq (.ops [oX 14 (.makeMap 162 none) 162,oA 5 14 162]) (.seq (.ops [oF 15 47 2 0,oL 16 45 15 45,oN 17 16 45,oX 18 (.makeSlice 26 (tK 17) (tK 17)) 26,oA 6 18 26]) (.seq (.seq (.ops [oF 19 47 2 0,oL 20 45 19 45,oN 21 20 45,oX 22 (.move (iK 0)) 3]) (.block 0 aU)) (.seq (.ops [oM 78 6 26,oA 4 78 26]) .ret))))
theorem qD:Try.f125.body.map (BV lends)=some qC:=by kernel_rfl
theorem A3A:Bl Try.f125 2=true:=by kernel_rfl
theorem AAR{a l:List D}{r:D×List D}(h:Br Y.env qC (Fa Ag l.length [ce 4] r) (entry a l))(ha:a.length=2):Y.call 125 a l=some r:=
 Af (Y:=Y) rfl Try.func125 (ha▸A3A) qD h
def CP(AA:Ay)(AQ:AP)(AC:AP)(Il:List (AP×Int))(KF:AP)(BO:Int)(J8:Int)(s:St):Prop:=s.v 1=D.konst (.slice none 0 0)∧s.v 2=cj [b9 123 (AR (fun x=>b9 125 (Az .i64 .i64 x)) AA),b9 3 (AR (bh .i64) AQ),b9 3 (AR (bh .i64) AC)]∧s.v 5=D.mp 164 3 (Pw Il)∧s.v 6=cb 3 (AR (bh .i64) KF)∧s.v 7=bh .i64 BO∧s.v 9=cj [bh .i64 ((AA.getD BO.toNat bj).length:Int),bh .i64 (AC.getD BO.toNat bj),bh .i64 0,bh .i64 0,bh .i64 0,bh .i64 0,bh .i64 0,bh .i64 0,bh .i64 0,bh .i64 0,bh .i64 0,bh .i64 0,bh .i64 0,bh .i64 0]∧s.v 20=b9 123 (AR (fun x=>b9 125 (Az .i64 .i64 x)) AA)∧s.v 21=bh .i64 (AA.length:Int)∧s.v 22=bh .i64 BO∧s.v 35=b9 125 (Az .i64 .i64 (AA.getD BO.toNat bj))∧s.v 36=bh .i64 ((AA.getD BO.toNat bj).length:Int)∧s.v 37=bh .i64 J8
def Cr(AA:Ay)(AQ:AP)(AC:AP)(Il:List (AP×Int))(KF:AP)(BO:Int)(r:Unit)(ex:Ex)(s:St):Prop:=ex= .exit 2∧s.v 1=D.konst (.slice none 0 0)∧s.v 2=cj [b9 123 (AR (fun x=>b9 125 (Az .i64 .i64 x)) AA),b9 3 (AR (bh .i64) AQ),b9 3 (AR (bh .i64) AC)]∧s.v 5=D.mp 164 3 (Pw Il)∧s.v 6=cb 3 (AR (bh .i64) KF)∧s.v 7=bh .i64 BO∧s.v 9=cj [bh .i64 ((AA.getD BO.toNat bj).length:Int),bh .i64 (AC.getD BO.toNat bj),bh .i64 0,bh .i64 0,bh .i64 0,bh .i64 0,bh .i64 0,bh .i64 0,bh .i64 0,bh .i64 0,bh .i64 0,bh .i64 0,bh .i64 0,bh .i64 0]∧s.v 20=b9 123 (AR (fun x=>b9 125 (Az .i64 .i64 x)) AA)∧s.v 21=bh .i64 (AA.length:Int)∧s.v 22=bh .i64 BO
theorem M9(AA:Ay)(AQ:AP)(AC:AP)(Il:List (AP×Int))(KF:AP)(BO:Int){v:Int}{s:St}{r:Unit}(h:Di AA AQ AC Il KF BO v=some r)(hM:CP AA AQ AC Il KF BO v s):Br Y.env aT (Cr AA AQ AC Il KF BO r) s:=by
 unfold Di at h;refine BX (c:=Qx) (fun v=>CL AA AQ AC Il KF BO v) (fun v s=>CP AA AQ AC Il KF BO v s) (Cr AA AQ AC Il KF BO) ?_ h hM;clear h hM s v r;intro J8 s o hM h;unfold CL at h;unfold CP at hM;obtain⟨m0,m1,m2,m3,m4,m5,m6,m7,m8,m9,m10,m11⟩:=hM;unfold Qx;by_cases e5:J8<((AA.getD BO.toNat bj).length:Int)
 ·rw [if_pos e5]at h;obtain⟨e6,h⟩:=Bw h
  obtain rfl:=Option.some.inj h
  simp (maxDischargeDepth:=9) only [↓AU,AV,Ap,↓reduceIte,bk,bl,bm,bo,bp,br,bt,bw,bx,bO,b0,b3,b4,b5,b6,b7,b8,m0,m1,m2,m3,m4,m5,m6,m7,m8,m9,m10,m11,e5,e6.1,e6.2,CP,Cr,Ca,Cb,Cc]<;>(repeat' apply A7)<;>first|rfl|exact⟨_,rfl⟩|exact⟨_,_,rfl⟩|simp [AR,AB]
 ·rw [if_neg e5]at h
  obtain rfl:=Option.some.inj h
  simp (maxDischargeDepth:=9) only [↓AU,AV,Ap,↓reduceIte,bk,bl,bm,bo,bp,br,bt,bw,bx,bO,b0,b3,b4,b5,b6,b7,b8,m0,m1,m2,m3,m4,m5,m6,m7,m8,m9,m10,m11,e5,CP,Cr,Ca,Cb,Cc]<;>(repeat' apply A7)<;>first|rfl|exact⟨_,rfl⟩|exact⟨_,_,rfl⟩|simp [AR,AB]
def Bn(AA:Ay)(AQ:AP)(AC:AP)(Il:List (AP×Int))(KF:AP)(BO:Int)(s:St):Prop:=s.v 1=D.konst (.slice none 0 0)∧s.v 2=cj [b9 123 (AR (fun x=>b9 125 (Az .i64 .i64 x)) AA),b9 3 (AR (bh .i64) AQ),b9 3 (AR (bh .i64) AC)]∧s.v 5=D.mp 164 3 (Pw Il)∧s.v 6=cb 3 (AR (bh .i64) KF)∧s.v 20=b9 123 (AR (fun x=>b9 125 (Az .i64 .i64 x)) AA)∧s.v 21=bh .i64 (AA.length:Int)∧s.v 22=bh .i64 BO
def CQ(AA:Ay)(AQ:AP)(AC:AP)(r:AP)(ex:Ex)(s:St):Prop:=ex= .exit 0∧s.v 6=cb 3 (AR (bh .i64) r)
theorem MB(AA:Ay)(AQ:AP)(AC:AP){v:(List (AP×Int))×AP×Int}{s:St}{r:AP}(h:Dj AA AQ AC v=some r)(hM:Bn AA AQ AC v.1 v.2.1 v.2.2 s):Br Y.env aU (CQ AA AQ AC r) s:=by
 unfold Dj at h;refine BX (c:=Qy) (fun v=>CO AA AQ AC v.1 v.2.1 v.2.2) (fun v s=>Bn AA AQ AC v.1 v.2.1 v.2.2 s) (CQ AA AQ AC) ?_ h hM;clear h hM s v r;intro v s o hM h;obtain⟨Il,KF,BO⟩:=v;dsimp only at h hM;unfold CO at h;unfold Bn at hM;obtain⟨m0,m1,m2,m3,m4,m5,m6⟩:=hM;unfold Qy;by_cases e2:BO<(AA.length:Int)
 ·rw [if_pos e2]at h;obtain⟨e3,h⟩:=Bw h;obtain⟨e4,h⟩:=Bw h;obtain⟨Ae,hl6,h⟩:=BD h;try dsimp only at h
  simp (maxDischargeDepth:=9) only [↓AU,AV,Ap,↓reduceIte,bk,bl,bm,bo,bp,br,bt,bw,bx,bO,b0,b3,b4,b5,b6,b7,b8,m0,m1,m2,m3,m4,m5,m6,e2,e3.1,e3.2,e4.1,e4.2];refine BL (M9 AA AQ AC Il KF BO hl6 ?_) ?_
  ·simp (maxDischargeDepth:=9) only [↓AU,AV,Ap,↓reduceIte,bk,bl,bm,bo,bp,br,bt,bw,bx,bO,b0,b3,b4,b5,b6,b7,b8,m0,m1,m2,m3,m4,m5,m6,e2,e3.1,e3.2,e4.1,e4.2,CP]<;>(repeat' apply A7)<;>first|rfl|exact⟨_,rfl⟩|exact⟨_,_,rfl⟩|simp [AR,AB]
  ·intro ex6 s6 hX6;unfold Cr at hX6;obtain⟨rfl,n6_0,n6_1,n6_2,n6_3,n6_4,n6_5,n6_6,n6_7,n6_8⟩:=hX6;by_cases e7:((J4 Il [((AA.getD BO.toNat bj).length:Int),(AC.getD BO.toNat bj),0,0,0,0,0,0,0,0,0,0,0,0]).2)=true
   ·rw [if_pos e7]at h;obtain⟨e8,h⟩:=Bw h
    obtain rfl:=Option.some.inj h
    simp (maxDischargeDepth:=9) only [↓AU,AV,Ap,↓reduceIte,bk,bl,bm,bo,bp,br,bt,bw,bx,bO,b0,b3,b4,b5,b6,b7,b8,e2,e3.1,e3.2,e4.1,e4.2,n6_0,n6_1,n6_2,n6_3,n6_4,n6_5,n6_6,n6_7,n6_8,e7,e8.1,e8.2,Bn,CQ,Ca,Cb,Cc]<;>(repeat' apply A7)<;>first|rfl|exact⟨_,rfl⟩|exact⟨_,_,rfl⟩|simp [AR,AB]
   ·rw [if_neg e7]at h;have e7f:((J4 Il [((AA.getD BO.toNat bj).length:Int),(AC.getD BO.toNat bj),0,0,0,0,0,0,0,0,0,0,0,0]).2)=false:=K7.mpr e7;obtain⟨e8,h⟩:=Bw h
    obtain rfl:=Option.some.inj h
    simp (maxDischargeDepth:=9) only [↓AU,AV,Ap,↓reduceIte,bk,bl,bm,bo,bp,br,bt,bw,bx,bO,b0,b3,b4,b5,b6,b7,b8,e2,e3.1,e3.2,e4.1,e4.2,n6_0,n6_1,n6_2,n6_3,n6_4,n6_5,n6_6,n6_7,n6_8,e7f,e8.1,e8.2,Bn,CQ,Ca,Cb,Cc]<;>(repeat' apply A7)<;>first|rfl|exact⟨_,rfl⟩|exact⟨_,_,rfl⟩|simp [AR,AB]
 ·rw [if_neg e2]at h
  obtain rfl:=Option.some.inj h
  simp (maxDischargeDepth:=9) only [↓AU,AV,Ap,↓reduceIte,bk,bl,bm,bo,bp,br,bt,bw,bx,bO,b0,b3,b4,b5,b6,b7,b8,m0,m1,m2,m3,m4,m5,m6,e2,Bn,CQ,Ca,Cb,Cc]<;>(repeat' apply A7)<;>first|rfl|exact⟨_,rfl⟩|exact⟨_,_,rfl⟩|simp [AR,AB]
theorem Mm(AA:Ay)(AQ:AP)(AC:AP){r:AP}(h:En AA AQ AC=some r):Y.call 125 [cm [b9 123 (AR (fun x=>b9 125 (Az .i64 .i64 x)) AA),b9 3 (AR (bh .i64) AQ),b9 3 (AR (bh .i64) AC)],D.konst (.slice none 0 0)] []=some (cb 3 (AR (bh .i64) r),[]):=by
 refine AAR ?_ rfl;unfold qC;unfold En at h;obtain⟨e1,h⟩:=Bw h;obtain⟨Cz,hl3,h⟩:=BD h;try dsimp only at h
 simp (maxDischargeDepth:=9) only [↓AU,AV,Ap,↓reduceIte,bk,bl,bm,bo,bp,br,bt,bw,bx,bO,b0,b3,b4,b5,b6,b7,b8,e1.1,e1.2];refine BL (MB AA AQ AC hl3 ?_) ?_
 ·simp (maxDischargeDepth:=9) only [↓AU,AV,Ap,↓reduceIte,bk,bl,bm,bo,bp,br,bt,bw,bx,bO,b0,b3,b4,b5,b6,b7,b8,e1.1,e1.2,Bn]<;>(repeat' apply A7)<;>first|rfl|exact⟨_,rfl⟩|exact⟨_,_,rfl⟩|simp [AR,AB]
 ·intro ex3 s3 hX3;unfold CQ at hX3;obtain⟨rfl,n3_0⟩:=hX3
  obtain rfl:=Option.some.inj h
  simp (maxDischargeDepth:=9) only [↓AU,AV,Ap,↓reduceIte,bk,bl,bm,bo,bp,br,bt,bw,bx,bO,b0,b3,b4,b5,b6,b7,b8,e1.1,e1.2,n3_0]<;>(repeat' apply A7)<;>first|rfl|exact⟨_,rfl⟩|exact⟨_,_,rfl⟩|simp [AR,AB]
def D7(AA:Ay)(AQ:AP)(AC:AP)(Gn:AP)(Il:List (AP×Int))(KF:AP)(BO:Int)(Gj:AP)(J8:Int):Option ((AP×Int)⊕(AP)):= if J8<((AA.getD BO.toNat bj).length:Int)then ck (0≤J8∧J8.toNat<(AA.getD BO.toNat bj).length)<| ck (0<Gn.length)<| ck (0≤(BQ (AA.getD BO.toNat bj) J8.toNat)∧(BQ (AA.getD BO.toNat bj) J8.toNat).toNat<Gn.length)<| ck (0≤cf.wrap (2+(cf.wrap (2*J8)))∧(cf.wrap (2+(cf.wrap (2*J8)))).toNat<14)<| ck (((cf.wrap (2+(cf.wrap (2*J8)))).toNat)<Gj.length)<| ck (0≤cf.wrap (3+(cf.wrap (2*J8)))∧(cf.wrap (3+(cf.wrap (2*J8)))).toNat<14)<| ck (((cf.wrap (3+(cf.wrap (2*J8)))).toNat)<Gj.length)<| some (cd (((Gj.set ((cf.wrap (2+(cf.wrap (2*J8)))).toNat) (CU (AA.getD BO.toNat bj) J8.toNat)).set ((cf.wrap (3+(cf.wrap (2*J8)))).toNat) (Gn.getD ((BQ (AA.getD BO.toNat bj) J8.toNat).toNat) bj)),cf.wrap (J8+1))) else some (ca Gj)
def ED(AA:Ay)(AQ:AP)(AC:AP)(Gn:AP)(Il:List (AP×Int))(KF:AP)(BO:Int)(v:AP×Int):Option (AP):=JB (fun v=>D7 AA AQ AC Gn Il KF BO v.1 v.2) v
def D8(AA:Ay)(AQ:AP)(AC:AP)(Gn:AP)(Il:List (AP×Int))(KF:AP)(BO:Int):Option (((List (AP×Int))×AP×Int)⊕(AP)):= if BO<(AA.length:Int)then ck (0≤BO∧BO.toNat<AA.length)<| ck (0≤BO∧BO.toNat<AC.length)<| (ED AA AQ AC Gn Il KF BO ([((AA.getD BO.toNat bj).length:Int),(AC.getD BO.toNat bj),0,0,0,0,0,0,0,0,0,0,0,0],0)).bind fun Ae=> ck (Ae.length≤14∧14≤Ae.length)<| if((J4 Il Ae).2)=true then ck (0≤BO∧BO.toNat<KF.length)<| some (cd (Il,(KF.set BO.toNat ((J4 Il Ae).1)),cf.wrap (BO+1))) else ck (0≤BO∧BO.toNat<KF.length)<| some (cd ((UF Il Ae (Il.length:Int)),(KF.set BO.toNat (Il.length:Int)),cf.wrap (BO+1))) else some (ca KF)
def FK(AA:Ay)(AQ:AP)(AC:AP)(Gn:AP)(v:(List (AP×Int))×AP×Int):Option (AP):=JB (fun v=>D8 AA AQ AC Gn v.1 v.2.1 v.2.2) v
def IQ(AA:Ay)(AQ:AP)(AC:AP)(Gn:AP):Option (AP):= ck (0≤(AA.length:Int)∧(AA.length:Int)<1099511627776)<| (FK AA AQ AC Gn (([]:List (AP×Int)),(List.replicate AA.length 0),0)).bind fun Cz=> some Cz
def V3:SC:= .seq (.ops [oB 38 .lss 3 (tK 37) (tK 36) 3 0]) (.seq (.cond (tK 38) .skip (.exit 2)) (.seq (.block 3 (.seq (.ops [oM 39 37 3,oI 40 123 35 37,oL 41 125 40 125,oX 11 (.alloc 125) 0,oA 10 39 3,oS 125 11 41]) (.seq (.ops [oM 42 1 26,oB 43 .neq 26 (tK 42) (.const (.slice none 0 0)) 26 4]) (.cond (tK 43) (.draws [(⟨[44,10,10],I5,[44]⟩,oM 44 10 3),(⟨[45,44,10],I5,[45]⟩,oB 45 .mul 3 (iK 2) (tK 44) 3 3),(⟨[46,45,45],I5,[46]⟩,oB 46 .add 3 (iK 2) (tK 45) 3 3),(⟨[47,10,10],I5,[47]⟩,oM 47 10 3),(⟨[48,47,10],I5,[48]⟩,oB 48 .mul 3 (iK 2) (tK 47) 3 3),(⟨[49,48,48],I5,[49]⟩,oB 49 .add 3 (iK 3) (tK 48) 3 3),(⟨[50,11,11],I5,[50]⟩,oF 50 125 11 1),(⟨[51,50,11],I5,[51]⟩,oL 51 3 50 3),(⟨[52,1,1],I5,[52]⟩,oM 52 1 26),(⟨[53,11,11],I5,[53]⟩,oF 53 125 11 0),(⟨[54,53,11],I5,[54]⟩,oL 54 3 53 3),(⟨[55,52,54,1,11],I5,[55]⟩,oI 55 26 52 54),(⟨[56,55,1],I5,[56]⟩,oL 56 3 55 3),(⟨[57,9,46,9,46],I5,[57]⟩,oI 57 164 9 46),(⟨[57,51,9,11],I5,[57,51,9]⟩,oS 3 57 51),(⟨[58,9,49,9,49],I5,[58]⟩,oI 58 164 9 49),(⟨[58,56,9,1],I5,[58,56,9]⟩,oS 3 58 56)]) .skip)))) (.ops [oB 59 .add 3 (tK 37) (iK 1) 3 3,oM 37 59 3])))
def gm:SC:= .loop V3
def V4:SC:= .seq (.ops [oB 23 .lss 3 (tK 22) (tK 21) 3 0]) (.seq (.cond (tK 23) .skip (.exit 0)) (.seq (.block 1 (.seq (.ops [oM 24 22 3,oI 25 45 20 22,oL 26 123 25 123,oA 7 24 3,oA 8 26 123]) (.seq (.ops [oM 27 8 123,oN 28 27 123,oF 29 47 2 2,oL 30 26 29 26,oM 31 7 3,oI 32 26 30 31,oL 33 3 32 3,oX 34 (.build 164 #[(0,(tK 28)),(1,(tK 33))]) 164,oX 9 (.alloc 164) 0,oS 164 9 34]) (.seq (.seq (.ops [oM 35 8 123,oN 36 35 123,oX 37 (.move (iK 0)) 3]) (.block 2 gm)) (.seq (.ops [oM 61 5 162,oL 62 164 9 164,oX 63 (.lookup 162 (tK 61) (tK 62) true) 51,oM 60 63 51,oE 64 60 0 3,oE 65 60 1 4,oA 12 64 3,oA 13 65 4]) (.seq (.seq (.ops [oM 66 13 4,oX 67 (.unOp .not 4 (tK 66)) 4]) (.cond (tK 67) (.seq (.ops [oM 68 5 162,oN 69 68 162,oA 12 69 3]) (.ops [oM 70 5 162,oL 71 164 9 164,oM 72 12 3,⟨none,(.mapUpdate 162 (tK 70) (tK 71) (tK 72)),0,none⟩])) .skip)) (.ops [oM 73 6 26,oM 74 7 3,oM 75 12 3,oI 76 26 73 74,oS 3 76 75]))))))) (.ops [oB 77 .add 3 (tK 22) (iK 1) 3 3,oM 22 77 3])))
def gp:SC:= .loop V4
def A3B:SC:= .seq (.ops [oX 2 (.box 47 (tK 0)) 0,oX 4 Qn 26]) (.seq (.ops [oX 14 (.makeMap 162 none) 162,oA 5 14 162]) (.seq (.ops [oF 15 47 2 0,oL 16 45 15 45,oN 17 16 45,oX 18 (.makeSlice 26 (tK 17) (tK 17)) 26,oA 6 18 26]) (.seq (.seq (.ops [oF 19 47 2 0,oL 20 45 19 45,oN 21 20 45,oX 22 (.move (iK 0)) 3]) (.block 0 gp)) (.seq (.ops [oM 78 6 26,oA 4 78 26]) .ret))))
theorem uL:Try.f125.body.map (BV lends)=some A3B:=by kernel_rfl
theorem AAS:Bl Try.f125 2=true:=by kernel_rfl
theorem AG4{a l:List D}{r:D×List D}(h:Br Y.env A3B (Fa Ag l.length [ce 4] r) (entry a l))(ha:a.length=2):Y.call 125 a l=some r:=
 Af (Y:=Y) rfl Try.func125 (ha▸AAS) uL h
def D9(AA:Ay)(AQ:AP)(AC:AP)(Gn:AP)(Il:List (AP×Int))(KF:AP)(BO:Int)(Gj:AP)(J8:Int)(s:St):Prop:=s.v 1=b9 3 (AR (bh .i64) Gn)∧s.v 2=cj [b9 123 (AR (fun x=>b9 125 (Az .i64 .i64 x)) AA),b9 3 (AR (bh .i64) AQ),b9 3 (AR (bh .i64) AC)]∧s.v 5=D.mp 164 3 (Pw Il)∧s.v 6=cb 3 (AR (bh .i64) KF)∧s.v 7=bh .i64 BO∧s.v 9=cj (AR (bh .i64) Gj)∧s.v 20=b9 123 (AR (fun x=>b9 125 (Az .i64 .i64 x)) AA)∧s.v 21=bh .i64 (AA.length:Int)∧s.v 22=bh .i64 BO∧s.v 35=b9 125 (Az .i64 .i64 (AA.getD BO.toNat bj))∧s.v 36=bh .i64 ((AA.getD BO.toNat bj).length:Int)∧s.v 37=bh .i64 J8
def EP(AA:Ay)(AQ:AP)(AC:AP)(Gn:AP)(Il:List (AP×Int))(KF:AP)(BO:Int)(r:AP)(ex:Ex)(s:St):Prop:=ex= .exit 2∧s.v 1=b9 3 (AR (bh .i64) Gn)∧s.v 2=cj [b9 123 (AR (fun x=>b9 125 (Az .i64 .i64 x)) AA),b9 3 (AR (bh .i64) AQ),b9 3 (AR (bh .i64) AC)]∧s.v 5=D.mp 164 3 (Pw Il)∧s.v 6=cb 3 (AR (bh .i64) KF)∧s.v 7=bh .i64 BO∧s.v 9=cj (AR (bh .i64) r)∧s.v 20=b9 123 (AR (fun x=>b9 125 (Az .i64 .i64 x)) AA)∧s.v 21=bh .i64 (AA.length:Int)∧s.v 22=bh .i64 BO
theorem OQ(AA:Ay)(AQ:AP)(AC:AP)(Gn:AP)(Il:List (AP×Int))(KF:AP)(BO:Int){v:AP×Int}{s:St}{r:AP}(h:ED AA AQ AC Gn Il KF BO v=some r)(hM:D9 AA AQ AC Gn Il KF BO v.1 v.2 s):Br Y.env gm (EP AA AQ AC Gn Il KF BO r) s:=by
 unfold ED at h;refine BX (c:=V3) (fun v=>D7 AA AQ AC Gn Il KF BO v.1 v.2) (fun v s=>D9 AA AQ AC Gn Il KF BO v.1 v.2 s) (EP AA AQ AC Gn Il KF BO) ?_ h hM;clear h hM s v r;intro v s o hM h;obtain⟨Gj,J8⟩:=v;dsimp only at h hM;unfold D7 at h;unfold D9 at hM;obtain⟨m0,m1,m2,m3,m4,m5,m6,m7,m8,m9,m10,m11⟩:=hM;unfold V3;by_cases e5:J8<((AA.getD BO.toNat bj).length:Int)
 ·rw [if_pos e5]at h;obtain⟨e6,h⟩:=Bw h;obtain⟨e7,h⟩:=Bw h;obtain⟨e8,h⟩:=Bw h;obtain⟨e9,h⟩:=Bw h;obtain⟨e10,h⟩:=Bw h;obtain⟨e11,h⟩:=Bw h;obtain⟨e12,h⟩:=Bw h
  obtain rfl:=Option.some.inj h
  simp (maxDischargeDepth:=9) only [↓AU,AV,Ap,↓reduceIte,bk,bl,bm,bo,bp,br,bt,bw,bx,bO,b0,b3,b4,b5,b6,b7,b8,m0,m1,m2,m3,m4,m5,m6,m7,m8,m9,m10,m11,e5,e6.1,e6.2,e7,e8.1,e8.2,e9.1,e9.2,e10,e11.1,e11.2,e12,D9,EP,Ca,Cb,Cc]<;>(repeat' apply A7)<;>first|rfl|exact⟨_,rfl⟩|exact⟨_,_,rfl⟩|simp [AR,AB]
 ·rw [if_neg e5]at h
  obtain rfl:=Option.some.inj h
  simp (maxDischargeDepth:=9) only [↓AU,AV,Ap,↓reduceIte,bk,bl,bm,bo,bp,br,bt,bw,bx,bO,b0,b3,b4,b5,b6,b7,b8,m0,m1,m2,m3,m4,m5,m6,m7,m8,m9,m10,m11,e5,D9,EP,Ca,Cb,Cc]<;>(repeat' apply A7)<;>first|rfl|exact⟨_,rfl⟩|exact⟨_,_,rfl⟩|simp [AR,AB]
def Cf(AA:Ay)(AQ:AP)(AC:AP)(Gn:AP)(Il:List (AP×Int))(KF:AP)(BO:Int)(s:St):Prop:=s.v 1=b9 3 (AR (bh .i64) Gn)∧s.v 2=cj [b9 123 (AR (fun x=>b9 125 (Az .i64 .i64 x)) AA),b9 3 (AR (bh .i64) AQ),b9 3 (AR (bh .i64) AC)]∧s.v 5=D.mp 164 3 (Pw Il)∧s.v 6=cb 3 (AR (bh .i64) KF)∧s.v 20=b9 123 (AR (fun x=>b9 125 (Az .i64 .i64 x)) AA)∧s.v 21=bh .i64 (AA.length:Int)∧s.v 22=bh .i64 BO
def DC(AA:Ay)(AQ:AP)(AC:AP)(Gn:AP)(r:AP)(ex:Ex)(s:St):Prop:=ex= .exit 0∧s.v 6=cb 3 (AR (bh .i64) r)
theorem OT(AA:Ay)(AQ:AP)(AC:AP)(Gn:AP){v:(List (AP×Int))×AP×Int}{s:St}{r:AP}(h:FK AA AQ AC Gn v=some r)(hM:Cf AA AQ AC Gn v.1 v.2.1 v.2.2 s):Br Y.env gp (DC AA AQ AC Gn r) s:=by
 unfold FK at h;refine BX (c:=V4) (fun v=>D8 AA AQ AC Gn v.1 v.2.1 v.2.2) (fun v s=>Cf AA AQ AC Gn v.1 v.2.1 v.2.2 s) (DC AA AQ AC Gn) ?_ h hM;clear h hM s v r;intro v s o hM h;obtain⟨Il,KF,BO⟩:=v;dsimp only at h hM;unfold D8 at h;unfold Cf at hM;obtain⟨m0,m1,m2,m3,m4,m5,m6⟩:=hM;unfold V4;by_cases e2:BO<(AA.length:Int)
 ·rw [if_pos e2]at h;obtain⟨e3,h⟩:=Bw h;obtain⟨e4,h⟩:=Bw h;obtain⟨Ae,hl6,h⟩:=BD h;try dsimp only at h
  simp (maxDischargeDepth:=9) only [↓AU,AV,Ap,↓reduceIte,bk,bl,bm,bo,bp,br,bt,bw,bx,bO,b0,b3,b4,b5,b6,b7,b8,m0,m1,m2,m3,m4,m5,m6,e2,e3.1,e3.2,e4.1,e4.2];refine BL (OQ AA AQ AC Gn Il KF BO hl6 ?_) ?_
  ·simp (maxDischargeDepth:=9) only [↓AU,AV,Ap,↓reduceIte,bk,bl,bm,bo,bp,br,bt,bw,bx,bO,b0,b3,b4,b5,b6,b7,b8,m0,m1,m2,m3,m4,m5,m6,e2,e3.1,e3.2,e4.1,e4.2,D9]<;>(repeat' apply A7)<;>first|rfl|exact⟨_,rfl⟩|exact⟨_,_,rfl⟩|simp [AR,AB]
  ·intro ex6 s6 hX6;unfold EP at hX6;obtain⟨rfl,n6_0,n6_1,n6_2,n6_3,n6_4,n6_5,n6_6,n6_7,n6_8⟩:=hX6;obtain⟨e7,h⟩:=Bw h;by_cases e8:((J4 Il Ae).2)=true
   ·rw [if_pos e8]at h;obtain⟨e9,h⟩:=Bw h
    obtain rfl:=Option.some.inj h
    simp (maxDischargeDepth:=9) only [↓AU,AV,Ap,↓reduceIte,bk,bl,bm,bo,bp,br,bt,bw,bx,bO,b0,b3,b4,b5,b6,b7,b8,e2,e3.1,e3.2,e4.1,e4.2,n6_0,n6_1,n6_2,n6_3,n6_4,n6_5,n6_6,n6_7,n6_8,e7.1,e7.2,e8,e9.1,e9.2,Cf,DC,Ca,Cb,Cc]<;>(repeat' apply A7)<;>first|rfl|exact⟨_,rfl⟩|exact⟨_,_,rfl⟩|simp [AR,AB]
   ·rw [if_neg e8]at h;have e8f:((J4 Il Ae).2)=false:=K7.mpr e8;obtain⟨e9,h⟩:=Bw h
    obtain rfl:=Option.some.inj h
    simp (maxDischargeDepth:=9) only [↓AU,AV,Ap,↓reduceIte,bk,bl,bm,bo,bp,br,bt,bw,bx,bO,b0,b3,b4,b5,b6,b7,b8,e2,e3.1,e3.2,e4.1,e4.2,n6_0,n6_1,n6_2,n6_3,n6_4,n6_5,n6_6,n6_7,n6_8,e7.1,e7.2,e8f,e9.1,e9.2,Cf,DC,Ca,Cb,Cc]<;>(repeat' apply A7)<;>first|rfl|exact⟨_,rfl⟩|exact⟨_,_,rfl⟩|simp [AR,AB]
 ·rw [if_neg e2]at h
  obtain rfl:=Option.some.inj h
  simp (maxDischargeDepth:=9) only [↓AU,AV,Ap,↓reduceIte,bk,bl,bm,bo,bp,br,bt,bw,bx,bO,b0,b3,b4,b5,b6,b7,b8,m0,m1,m2,m3,m4,m5,m6,e2,Cf,DC,Ca,Cb,Cc]<;>(repeat' apply A7)<;>first|rfl|exact⟨_,rfl⟩|exact⟨_,_,rfl⟩|simp [AR,AB]
theorem PE(AA:Ay)(AQ:AP)(AC:AP)(Gn:AP){r:AP}(h:IQ AA AQ AC Gn=some r):Y.call 125 [cm [b9 123 (AR (fun x=>b9 125 (Az .i64 .i64 x)) AA),b9 3 (AR (bh .i64) AQ),b9 3 (AR (bh .i64) AC)],b9 3 (AR (bh .i64) Gn)] []=some (cb 3 (AR (bh .i64) r),[]):=by
 refine AG4 ?_ rfl;unfold A3B;unfold IQ at h;obtain⟨e1,h⟩:=Bw h;obtain⟨Cz,hl3,h⟩:=BD h;try dsimp only at h
 simp (maxDischargeDepth:=9) only [↓AU,AV,Ap,↓reduceIte,bk,bl,bm,bo,bp,br,bt,bw,bx,bO,b0,b3,b4,b5,b6,b7,b8,e1.1,e1.2];refine BL (OT AA AQ AC Gn hl3 ?_) ?_
 ·simp (maxDischargeDepth:=9) only [↓AU,AV,Ap,↓reduceIte,bk,bl,bm,bo,bp,br,bt,bw,bx,bO,b0,b3,b4,b5,b6,b7,b8,e1.1,e1.2,Cf]<;>(repeat' apply A7)<;>first|rfl|exact⟨_,rfl⟩|exact⟨_,_,rfl⟩|simp [AR,AB]
 ·intro ex3 s3 hX3;unfold DC at hX3;obtain⟨rfl,n3_0⟩:=hX3
  obtain rfl:=Option.some.inj h
  simp (maxDischargeDepth:=9) only [↓AU,AV,Ap,↓reduceIte,bk,bl,bm,bo,bp,br,bt,bw,bx,bO,b0,b3,b4,b5,b6,b7,b8,e1.1,e1.2,n3_0]<;>(repeat' apply A7)<;>first|rfl|exact⟨_,rfl⟩|exact⟨_,_,rfl⟩|simp [AR,AB]
def FM(AA:Ay)(AQ:AP)(AC:AP)(Gn:AP)(NI:Int)(Ny:Int)(Kg:Int):Option ((Int)⊕(Unit⊕Unit)):= if Kg<((AA.getD NI.toNat bj).length:Int)then ck (0≤Kg∧Kg.toNat<(AA.getD NI.toNat bj).length)<| ck (0≤Ny∧Ny.toNat<AA.length)<| ck (0≤Kg∧Kg.toNat<(AA.getD Ny.toNat bj).length)<| if 0<(Gn.length:Int)then if(CU (AA.getD NI.toNat bj) Kg.toNat)=(CU (AA.getD Ny.toNat bj) Kg.toNat)then ck (0≤(BQ (AA.getD NI.toNat bj) Kg.toNat)∧(BQ (AA.getD NI.toNat bj) Kg.toNat).toNat<Gn.length)<| ck (0≤(BQ (AA.getD Ny.toNat bj) Kg.toNat)∧(BQ (AA.getD Ny.toNat bj) Kg.toNat).toNat<Gn.length)<| if(Gn.getD ((BQ (AA.getD NI.toNat bj) Kg.toNat).toNat) bj)=(Gn.getD ((BQ (AA.getD Ny.toNat bj) Kg.toNat).toNat) bj)then some (cd (cf.wrap (Kg+1))) else some (ca (cd ())) else some (ca (cd ())) else some (cd (cf.wrap (Kg+1))) else some (ca (ca ()))
def J9(AA:Ay)(AQ:AP)(AC:AP)(Gn:AP)(NI:Int)(Ny:Int)(v:Int):Option (Unit⊕Unit):=JB (fun v=>FM AA AQ AC Gn NI Ny v) v
def MC(AA:Ay)(AQ:AP)(AC:AP)(Gn:AP)(NI:Int)(Ny:Int):Option (Bool):=
 ck (0≤NI∧NI.toNat<AA.length)<|
 ck (0≤Ny∧Ny.toNat<AA.length)<|
 if((AA.getD NI.toNat bj).length:Int)=((AA.getD Ny.toNat bj).length:Int)then
  ck (0≤NI∧NI.toNat<AC.length)<|
  ck (0≤Ny∧Ny.toNat<AC.length)<|
  if(AC.getD NI.toNat bj)=(AC.getD Ny.toNat bj)then
   (J9 AA AQ AC Gn NI Ny 0).bind fun Ae=>
   match Ae with
   | .inl q1000_=>
    some false
   | .inr q1000_=>
    some true
  else
   some false
 else
  some false
abbrev Kh:List Nat:=[57,58,59,60,61,62,63,64,65,66,67,68,69,70,71,72,73,74,75,76,77,78,79]
def V5:SC:= .seq (.ops [oB 45 .lss 3 (tK 44) (tK 43) 3 0]) (.seq (.cond (tK 45) .skip (.exit 0)) (.seq (.block 1 (.seq (.ops [oM 46 44 3,oI 47 123 42 44,oL 48 125 47 125,oX 10 (.alloc 125) 0,oA 9 46 3,oS 125 10 48]) (.seq (.ops [oF 49 47 4 0,oL 50 45 49 45,oM 51 3 3,oI 52 45 50 51,oL 53 123 52 123,oM 54 9 3,oI 55 123 53 54,oL 56 125 55 125,oX 11 (.alloc 125) 0,oS 125 11 56]) (.seq (.draws [(⟨[57,1,1],Kh,[57]⟩,oM 57 1 26),(⟨[58,57,1],Kh,[58]⟩,oN 58 57 26),(⟨[59,58,58],Kh,[59]⟩,oB 59 .gtr 3 (tK 58) (iK 0) 3 4),(⟨[60,59,59],Kh,[60]⟩,oM 60 59 4),(⟨[61,10,10,60],Kh,[61]⟩,⟨(some 61),(.fieldAddr 125 (tK 10) 1),0,(some (some 60,true))⟩),(⟨[62,61,10,60],Kh,[62]⟩,⟨(some 62),(.load 3 (tK 61)),3,(some (some 60,true))⟩),(⟨[63,11,11,60],Kh,[63]⟩,⟨(some 63),(.fieldAddr 125 (tK 11) 1),0,(some (some 60,true))⟩),(⟨[64,63,11,60],Kh,[64]⟩,⟨(some 64),(.load 3 (tK 63)),3,(some (some 60,true))⟩),(⟨[65,62,64,10,11,60],Kh,[65]⟩,⟨(some 65),(.binOp .neq 3 (tK 62) (tK 64) 3),4,(some (some 60,true))⟩),(⟨[66,65,65,60],Kh,[66]⟩,⟨(some 66),(.move (tK 65)),4,(some (some 60,true))⟩),(⟨[67,1,1,66],Kh,[67]⟩,⟨(some 67),(.move (tK 1)),26,(some (some 66,false))⟩),(⟨[68,10,10,66],Kh,[68]⟩,⟨(some 68),(.fieldAddr 125 (tK 10) 0),0,(some (some 66,false))⟩),
 (⟨[69,68,10,66],Kh,[69]⟩,⟨(some 69),(.load 3 (tK 68)),3,(some (some 66,false))⟩),(⟨[70,67,69,1,10,66],Kh,[70]⟩,⟨(some 70),(.indexAddr 26 (tK 67) (tK 69)),0,(some (some 66,false))⟩),(⟨[71,70,1,66],Kh,[71]⟩,⟨(some 71),(.load 3 (tK 70)),3,(some (some 66,false))⟩),(⟨[72,1,1,66],Kh,[72]⟩,⟨(some 72),(.move (tK 1)),26,(some (some 66,false))⟩),(⟨[73,11,11,66],Kh,[73]⟩,⟨(some 73),(.fieldAddr 125 (tK 11) 0),0,(some (some 66,false))⟩),(⟨[74,73,11,66],Kh,[74]⟩,⟨(some 74),(.load 3 (tK 73)),3,(some (some 66,false))⟩),(⟨[75,72,74,1,11,66],Kh,[75]⟩,⟨(some 75),(.indexAddr 26 (tK 72) (tK 74)),0,(some (some 66,false))⟩),(⟨[76,75,1,66],Kh,[76]⟩,⟨(some 76),(.load 3 (tK 75)),3,(some (some 66,false))⟩),(⟨[77,71,76,1,1,66],Kh,[77]⟩,⟨(some 77),(.binOp .neq 3 (tK 71) (tK 76) 3),4,(some (some 66,false))⟩),(⟨[78,66,77,65,77,60],Kh,[78]⟩,⟨(some 78),(.pick (tK 66) Dl (tK 77)),4,(some (some 60,true))⟩),(⟨[79,60,78,59,78],Kh,[79]⟩,oX 79 (.pick (tK 60) (tK 78) Py) 4)]) (.cond (tK 79) (.seq (.ops [oX 8 BS 4]) .ret) .skip))))) (.ops [oB 80 .add 3 (tK 44) (iK 1) 3 3,oM 44 80 3])))
def gq:SC:= .loop V5
abbrev Jl:List Nat:=[12,13,14,15,16,17,18,19,20,21,22,23,24,25,26,27,28,29,30,31,32,33,34,35,36,37]
def A3C:SC:= .seq (.ops [oX 4 (.box 47 (tK 0)) 0,oX 8 BS 4]) (.seq (.seq (.draws [(⟨[12,4,4],Jl,[12]⟩,oF 12 47 4 0),(⟨[13,12,4],Jl,[13]⟩,oL 13 45 12 45),(⟨[14,2,2],Jl,[14]⟩,oM 14 2 3),(⟨[15,13,14,4,2],Jl,[15]⟩,oI 15 45 13 14),(⟨[16,15,4],Jl,[16]⟩,oL 16 123 15 123),(⟨[17,16,4],Jl,[17]⟩,oN 17 16 123),(⟨[18,4,4],Jl,[18]⟩,oF 18 47 4 0),(⟨[19,18,4],Jl,[19]⟩,oL 19 45 18 45),(⟨[20,3,3],Jl,[20]⟩,oM 20 3 3),(⟨[21,19,20,4,3],Jl,[21]⟩,oI 21 45 19 20),(⟨[22,21,4],Jl,[22]⟩,oL 22 123 21 123),(⟨[23,22,4],Jl,[23]⟩,oN 23 22 123),(⟨[24,17,23,17,23],Jl,[24]⟩,oB 24 .neq 3 (tK 17) (tK 23) 3 4),(⟨[25,24,24],Jl,[25]⟩,oM 25 24 4),(⟨[26,4,4,25],Jl,[26]⟩,⟨(some 26),(.fieldAddr 47 (tK 4) 2),0,(some (some 25,false))⟩),(⟨[27,26,4,25],Jl,[27]⟩,⟨(some 27),(.load 26 (tK 26)),26,(some (some 25,false))⟩),(⟨[28,2,2,25],Jl,[28]⟩,⟨(some 28),(.move (tK 2)),3,(some (some 25,false))⟩),(⟨[29,27,28,4,2,25],Jl,[29]⟩,⟨(some 29),(.indexAddr 26 (tK 27) (tK 28)),0,(some (some 25,false))⟩),(⟨[30,29,4,25],Jl,[30]⟩,⟨(some 30),(.load 3 (tK 29)),3,(some (some 25,false))⟩),(⟨[31,4,4,25],Jl,[31]⟩,⟨(some 31),(.fieldAddr 47 (tK 4) 2),0,(some (some 25,false))⟩),(⟨[32,31,4,25],Jl,[32]⟩,⟨(some 32),(.load 26 (tK 31)),26,(some (some 25,false))⟩),
 (⟨[33,3,3,25],Jl,[33]⟩,⟨(some 33),(.move (tK 3)),3,(some (some 25,false))⟩),(⟨[34,32,33,4,3,25],Jl,[34]⟩,⟨(some 34),(.indexAddr 26 (tK 32) (tK 33)),0,(some (some 25,false))⟩),(⟨[35,34,4,25],Jl,[35]⟩,⟨(some 35),(.load 3 (tK 34)),3,(some (some 25,false))⟩),(⟨[36,30,35,4,4,25],Jl,[36]⟩,⟨(some 36),(.binOp .neq 3 (tK 30) (tK 35) 3),4,(some (some 25,false))⟩),(⟨[37,25,36,24,36],Jl,[37]⟩,oX 37 (.pick (tK 25) Dl (tK 36)) 4)]) (.cond (tK 37) (.seq (.ops [oX 8 BS 4]) .ret) .skip)) (.seq (.seq (.ops [oF 38 47 4 0,oL 39 45 38 45,oM 40 2 3,oI 41 45 39 40,oL 42 123 41 123,oN 43 42 123,oX 44 (.move (iK 0)) 3]) (.block 0 gq)) (.seq (.ops [oX 8 (.assign Dl) 4]) .ret)))
theorem uM:Try.f150.body.map (BV lends)=some A3C:=by kernel_rfl
theorem AAT:Bl Try.f150 4=true:=by kernel_rfl
theorem AG5{a l:List D}{r:D×List D}(h:Br Y.env A3C (Fa Ag l.length [ce 8] r) (entry a l))(ha:a.length=4):Y.call 150 a l=some r:=
 Af (Y:=Y) rfl Try.func150 (ha▸AAT) uM h
def Cs(AA:Ay)(AQ:AP)(AC:AP)(Gn:AP)(NI:Int)(Ny:Int)(Kg:Int)(s:St):Prop:=s.v 1=b9 3 (AR (bh .i64) Gn)∧s.v 3=bh .i64 Ny∧s.v 4=cj [b9 123 (AR (fun x=>b9 125 (Az .i64 .i64 x)) AA),b9 3 (AR (bh .i64) AQ),b9 3 (AR (bh .i64) AC)]∧s.v 42=b9 125 (Az .i64 .i64 (AA.getD NI.toNat bj))∧s.v 43=bh .i64 ((AA.getD NI.toNat bj).length:Int)∧s.v 44=bh .i64 Kg
def Ct(AA:Ay)(AQ:AP)(AC:AP)(Gn:AP)(NI:Int)(Ny:Int)(r:Unit⊕Unit)(ex:Ex)(s:St):Prop:=match r with
 | .inl q=>ex= .ret∧s.v 8=cc false
 | .inr q=>ex= .exit 0
theorem SL(AA:Ay)(AQ:AP)(AC:AP)(Gn:AP)(NI:Int)(Ny:Int){v:Int}{s:St}{r:Unit⊕Unit}(h:J9 AA AQ AC Gn NI Ny v=some r)(hM:Cs AA AQ AC Gn NI Ny v s):Br Y.env gq (Ct AA AQ AC Gn NI Ny r) s:=by
 unfold J9 at h;refine BX (c:=V5) (fun v=>FM AA AQ AC Gn NI Ny v) (fun v s=>Cs AA AQ AC Gn NI Ny v s) (Ct AA AQ AC Gn NI Ny) ?_ h hM;clear h hM s v r;intro Kg s o hM h;unfold FM at h;unfold Cs at hM;obtain⟨m0,m1,m2,m3,m4,m5⟩:=hM;unfold V5;by_cases e7:Kg<((AA.getD NI.toNat bj).length:Int)
 ·rw [if_pos e7]at h;obtain⟨e8,h⟩:=Bw h;obtain⟨e9,h⟩:=Bw h;obtain⟨e10,h⟩:=Bw h;by_cases e11:0<(Gn.length:Int)
  ·rw [if_pos e11]at h;by_cases e12:(CU (AA.getD NI.toNat bj) Kg.toNat)=(CU (AA.getD Ny.toNat bj) Kg.toNat)
   ·rw [if_pos e12]at h;obtain⟨e13,h⟩:=Bw h;obtain⟨e14,h⟩:=Bw h;by_cases e15:(Gn.getD ((BQ (AA.getD NI.toNat bj) Kg.toNat).toNat) bj)=(Gn.getD ((BQ (AA.getD Ny.toNat bj) Kg.toNat).toNat) bj)
    ·rw [if_pos e15]at h
     obtain rfl:=Option.some.inj h
     simp (maxDischargeDepth:=9) only [↓AU,AV,Ap,↓reduceIte,bk,bl,bm,bo,bp,br,bt,bw,bx,bO,b0,b3,b4,b5,b6,b7,b8,m0,m1,m2,m3,m4,m5,e7,e8.1,e8.2,e9.1,e9.2,e10.1,e10.2,e11,decide_eq_true e12,e13.1,e13.2,e14.1,e14.2,decide_eq_true e15,Cs,Ct,Ca,Cb,Cc]<;>(repeat' apply A7)<;>first|rfl|exact⟨_,rfl⟩|exact⟨_,_,rfl⟩|simp [AR,AB]
    ·rw [if_neg e15]at h
     obtain rfl:=Option.some.inj h
     simp (maxDischargeDepth:=9) only [↓AU,AV,Ap,↓reduceIte,bk,bl,bm,bo,bp,br,bt,bw,bx,bO,b0,b3,b4,b5,b6,b7,b8,m0,m1,m2,m3,m4,m5,e7,e8.1,e8.2,e9.1,e9.2,e10.1,e10.2,e11,decide_eq_true e12,e13.1,e13.2,e14.1,e14.2,e15,Cs,Ct,Ca,Cb,Cc]<;>(repeat' apply A7)<;>first|rfl|exact⟨_,rfl⟩|exact⟨_,_,rfl⟩|simp [AR,AB]
   ·rw [if_neg e12]at h
    obtain rfl:=Option.some.inj h
    simp (maxDischargeDepth:=9) only [↓AU,AV,Ap,↓reduceIte,bk,bl,bm,bo,bp,br,bt,bw,bx,bO,b0,b3,b4,b5,b6,b7,b8,m0,m1,m2,m3,m4,m5,e7,e8.1,e8.2,e9.1,e9.2,e10.1,e10.2,e11,e12,Cs,Ct,Ca,Cb,Cc]<;>(repeat' apply A7)<;>first|rfl|exact⟨_,rfl⟩|exact⟨_,_,rfl⟩|simp [AR,AB]
  ·rw [if_neg e11]at h
   obtain rfl:=Option.some.inj h
   simp (maxDischargeDepth:=9) only [↓AU,AV,Ap,↓reduceIte,bk,bl,bm,bo,bp,br,bt,bw,bx,bO,b0,b3,b4,b5,b6,b7,b8,m0,m1,m2,m3,m4,m5,e7,e8.1,e8.2,e9.1,e9.2,e10.1,e10.2,e11,Cs,Ct,Ca,Cb,Cc]<;>(repeat' apply A7)<;>first|rfl|exact⟨_,rfl⟩|exact⟨_,_,rfl⟩|simp [AR,AB]
 ·rw [if_neg e7]at h
  obtain rfl:=Option.some.inj h
  simp (maxDischargeDepth:=9) only [↓AU,AV,Ap,↓reduceIte,bk,bl,bm,bo,bp,br,bt,bw,bx,bO,b0,b3,b4,b5,b6,b7,b8,m0,m1,m2,m3,m4,m5,e7,Cs,Ct,Ca,Cb,Cc]<;>(repeat' apply A7)<;>first|rfl|exact⟨_,rfl⟩|exact⟨_,_,rfl⟩|simp [AR,AB]
theorem V6(AA:Ay)(AQ:AP)(AC:AP)(Gn:AP)(NI:Int)(Ny:Int){r:Bool}(h:MC AA AQ AC Gn NI Ny=some r):Y.call 150 [cm [b9 123 (AR (fun x=>b9 125 (Az .i64 .i64 x)) AA),b9 3 (AR (bh .i64) AQ),b9 3 (AR (bh .i64) AC)],b9 3 (AR (bh .i64) Gn),bh .i64 NI,bh .i64 Ny] []=some (cc r,[]):=by
 refine AG5 ?_ rfl;unfold A3C;unfold MC at h;obtain⟨e1,h⟩:=Bw h;obtain⟨e2,h⟩:=Bw h;by_cases e3:((AA.getD NI.toNat bj).length:Int)=((AA.getD Ny.toNat bj).length:Int)
 ·rw [if_pos e3]at h;obtain⟨e4,h⟩:=Bw h;obtain⟨e5,h⟩:=Bw h;by_cases e6:(AC.getD NI.toNat bj)=(AC.getD Ny.toNat bj)
  ·rw [if_pos e6]at h;obtain⟨Ae,hl8,h⟩:=BD h;try dsimp only at h
   simp (maxDischargeDepth:=9) only [↓AU,AV,Ap,↓reduceIte,bk,bl,bm,bo,bp,br,bt,bw,bx,bO,b0,b3,b4,b5,b6,b7,b8,e1.1,e1.2,e2.1,e2.2,decide_eq_true e3,e4.1,e4.2,e5.1,e5.2,decide_eq_true e6];refine BL (SL AA AQ AC Gn NI Ny hl8 ?_) ?_
   ·simp (maxDischargeDepth:=9) only [↓AU,AV,Ap,↓reduceIte,bk,bl,bm,bo,bp,br,bt,bw,bx,bO,b0,b3,b4,b5,b6,b7,b8,e1.1,e1.2,e2.1,e2.2,decide_eq_true e3,e4.1,e4.2,e5.1,e5.2,decide_eq_true e6,Cs]<;>(repeat' apply A7)<;>first|rfl|exact⟨_,rfl⟩|exact⟨_,_,rfl⟩|simp [AR,AB]
   ·intro ex8 s8 hX8;rcases Ae with q1000_|q1000_
    ·unfold Ct at hX8;dsimp only at hX8 h;obtain⟨rfl,n8_0⟩:=hX8
     obtain rfl:=Option.some.inj h
     simp (maxDischargeDepth:=9) only [↓AU,AV,Ap,↓reduceIte,bk,bl,bm,bo,bp,br,bt,bw,bx,bO,b0,b3,b4,b5,b6,b7,b8,e1.1,e1.2,e2.1,e2.2,decide_eq_true e3,e4.1,e4.2,e5.1,e5.2,decide_eq_true e6,n8_0]<;>(repeat' apply A7)<;>first|rfl|exact⟨_,rfl⟩|exact⟨_,_,rfl⟩|simp [AR,AB]
    ·unfold Ct at hX8;dsimp only at hX8 h
     obtain rfl:=hX8
     obtain rfl:=Option.some.inj h
     simp (maxDischargeDepth:=9) only [↓AU,AV,Ap,↓reduceIte,bk,bl,bm,bo,bp,br,bt,bw,bx,bO,b0,b3,b4,b5,b6,b7,b8,e1.1,e1.2,e2.1,e2.2,decide_eq_true e3,e4.1,e4.2,e5.1,e5.2,decide_eq_true e6]<;>(repeat' apply A7)<;>first|rfl|exact⟨_,rfl⟩|exact⟨_,_,rfl⟩|simp [AR,AB]
  ·rw [if_neg e6]at h
   obtain rfl:=Option.some.inj h
   simp (maxDischargeDepth:=9) only [↓AU,AV,Ap,↓reduceIte,bk,bl,bm,bo,bp,br,bt,bw,bx,bO,b0,b3,b4,b5,b6,b7,b8,e1.1,e1.2,e2.1,e2.2,decide_eq_true e3,e4.1,e4.2,e5.1,e5.2,e6]<;>(repeat' apply A7)<;>first|rfl|exact⟨_,rfl⟩|exact⟨_,_,rfl⟩|simp [AR,AB]
 ·rw [if_neg e3]at h
  obtain rfl:=Option.some.inj h
  simp (maxDischargeDepth:=9) only [↓AU,AV,Ap,↓reduceIte,bk,bl,bm,bo,bp,br,bt,bw,bx,bO,b0,b3,b4,b5,b6,b7,b8,e1.1,e1.2,e2.1,e2.2,e3]<;>(repeat' apply A7)<;>first|rfl|exact⟨_,rfl⟩|exact⟨_,_,rfl⟩|simp [AR,AB]
def CX(AO:Ay)(AX:AP)(AJ:AP)(class_:AP)(out:AP)(many:Int)(ET:Int)(at_:Int)(u:Int):Option ((Int×Int)⊕(Int)):= if u<ET then if at_<0 then (MC AO AX AJ class_ u ET).bind fun EX=> if EX=true then some (cd (u,cf.wrap (u+1))) else some (cd (at_,cf.wrap (u+1))) else some (ca at_) else some (ca at_)
def Im(AO:Ay)(AX:AP)(AJ:AP)(class_:AP)(out:AP)(many:Int)(ET:Int)(v:Int×Int):Option (Int):=JB (fun v=>CX AO AX AJ class_ out many ET v.1 v.2) v
def GV(AO:Ay)(AX:AP)(AJ:AP)(class_:AP)(out:AP)(many:Int)(ET:Int):Option ((AP×Int×Int)⊕(AP)):= if ET<(AO.length:Int)then (Im AO AX AJ class_ out many ET ((-1),0)).bind fun Ae=> if 0≤Ae then ck (0≤Ae∧Ae.toNat<out.length)<| ck (0≤ET∧ET.toNat<out.length)<| some (cd ((out.set ET.toNat (out.getD Ae.toNat bj)),many,cf.wrap (ET+1))) else ck (0≤ET∧ET.toNat<out.length)<| some (cd ((out.set ET.toNat many),cf.wrap (many+1),cf.wrap (ET+1))) else some (ca out)
def Jm(AO:Ay)(AX:AP)(AJ:AP)(class_:AP)(v:AP×Int×Int):Option (AP):=JB (fun v=>GV AO AX AJ class_ v.1 v.2.1 v.2.2) v
def Ki(AO:Ay)(AX:AP)(AJ:AP)(class_:AP):Option (AP):= ck (0≤(AO.length:Int)∧(AO.length:Int)<1099511627776)<| (Jm AO AX AJ class_ ((List.replicate AO.length 0),0,0)).bind fun Cz=> some Cz
def V7:SC:= .seq (.seq (.ops [oM 20 9 3,oM 21 7 3,oB 22 .lss 3 (tK 20) (tK 21) 3 4,oM 23 22 4,⟨(some 24),(.move (tK 8)),3,(some (some 23,true))⟩,⟨(some 25),(.binOp .lss 3 (tK 24) (iK 0) 3),4,(some (some 23,true))⟩,oX 26 (.pick (tK 23) (tK 25) Py) 4]) (.cond (tK 26) .skip (.exit 2))) (.seq (.block 3 (.seq (.ops [oL 29 47 2 47,oM 30 1 26,oM 31 9 3,oM 32 7 3,oC 33 150 [(tK 29),(tK 30),(tK 31),(tK 32)] [47,26,3,3] 4]) (.cond (tK 33) (.ops [oM 34 9 3,oA 8 34 3]) .skip))) (.ops [oM 27 9 3,oB 28 .add 3 (tK 27) (iK 1) 3 3,oA 9 28 3]))
def gu:SC:= .loop V7
def V8:SC:= .seq (.ops [oB 18 .lss 3 (tK 17) (tK 16) 3 0]) (.seq (.cond (tK 18) .skip (.exit 0)) (.seq (.block 1 (.seq (.ops [oM 19 17 3,oA 7 19 3]) (.seq (.ops [oX 8 P6 3]) (.seq (.seq (.ops [oX 9 (.assign (iK 0)) 3]) (.block 2 gu)) (.seq (.ops [oM 35 8 3,oB 36 .geq 3 (tK 35) (iK 0) 3 4]) (.cond (tK 36) (.ops [oM 37 5 26,oM 38 7 3,oM 39 5 26,oM 40 8 3,oI 41 26 39 40,oL 42 3 41 3,oI 43 26 37 38,oS 3 43 42]) (.seq (.ops [oM 44 5 26,oM 45 7 3,oM 46 6 3,oI 47 26 44 45,oS 3 47 46]) (.ops [oM 48 6 3,oB 49 .add 3 (tK 48) (iK 1) 3 3,oA 6 49 3])))))))) (.ops [oB 50 .add 3 (tK 17) (iK 1) 3 3,oM 17 50 3])))
def gy:SC:= .loop V8
def A3D:SC:= .seq (.ops [oX 2 (.box 47 (tK 0)) 0,oX 4 Qn 26]) (.seq (.ops [oF 10 47 2 0,oL 11 45 10 45,oN 12 11 45,oX 13 (.makeSlice 26 (tK 12) (tK 12)) 26,oA 5 13 26]) (.seq (.ops [oX 6 (.assign (iK 0)) 3]) (.seq (.seq (.ops [oF 14 47 2 0,oL 15 45 14 45,oN 16 15 45,oX 17 (.move (iK 0)) 3]) (.block 0 gy)) (.seq (.ops [oM 51 5 26,oA 4 51 26]) .ret))))
theorem uN:Try.f110.body.map (BV lends)=some A3D:=by kernel_rfl
theorem AAU:Bl Try.f110 2=true:=by kernel_rfl
theorem AG6{a l:List D}{r:D×List D}(h:Br Y.env A3D (Fa Ag l.length [ce 4] r) (entry a l))(ha:a.length=2):Y.call 110 a l=some r:=
 Af (Y:=Y) rfl Try.func110 (ha▸AAU) uN h
def E9(AO:Ay)(AX:AP)(AJ:AP)(class_:AP)(out:AP)(many:Int)(ET:Int)(at_:Int)(u:Int)(s:St):Prop:=s.v 1=b9 3 (AR (bh .i64) class_)∧s.v 2=cj [b9 123 (AR (fun x=>b9 125 (Az .i64 .i64 x)) AO),b9 3 (AR (bh .i64) AX),b9 3 (AR (bh .i64) AJ)]∧s.v 5=cb 3 (AR (bh .i64) out)∧s.v 6=bh .i64 many∧s.v 7=bh .i64 ET∧s.v 8=bh .i64 at_∧s.v 9=bh .i64 u∧s.v 16=bh .i64 (AO.length:Int)∧s.v 17=bh .i64 ET
def F5(AO:Ay)(AX:AP)(AJ:AP)(class_:AP)(out:AP)(many:Int)(ET:Int)(r:Int)(ex:Ex)(s:St):Prop:=ex= .exit 2∧s.v 1=b9 3 (AR (bh .i64) class_)∧s.v 2=cj [b9 123 (AR (fun x=>b9 125 (Az .i64 .i64 x)) AO),b9 3 (AR (bh .i64) AX),b9 3 (AR (bh .i64) AJ)]∧s.v 5=cb 3 (AR (bh .i64) out)∧s.v 6=bh .i64 many∧s.v 7=bh .i64 ET∧s.v 8=bh .i64 r∧s.v 16=bh .i64 (AO.length:Int)∧s.v 17=bh .i64 ET
theorem V9(AO:Ay)(AX:AP)(AJ:AP)(class_:AP)(out:AP)(many:Int)(ET:Int){v:Int×Int}{s:St}{r:Int}(h:Im AO AX AJ class_ out many ET v=some r)(hM:E9 AO AX AJ class_ out many ET v.1 v.2 s):Br Y.env gu (F5 AO AX AJ class_ out many ET r) s:=by
 unfold Im at h;refine BX (c:=V7) (fun v=>CX AO AX AJ class_ out many ET v.1 v.2) (fun v s=>E9 AO AX AJ class_ out many ET v.1 v.2 s) (F5 AO AX AJ class_ out many ET) ?_ h hM;clear h hM s v r;intro v s o hM h;obtain⟨at_,u⟩:=v;dsimp only at h hM;unfold CX at h;unfold E9 at hM;obtain⟨m0,m1,m2,m3,m4,m5,m6,m7,m8⟩:=hM;unfold V7;by_cases e3:u<ET
 ·rw [if_pos e3]at h;by_cases e4:at_<0
  ·rw [if_pos e4]at h;obtain⟨EX,hl5,h⟩:=BD h;try dsimp only at h
   have c5:=V6 AO AX AJ class_ u ET hl5;by_cases e6:EX=true
   ·rw [if_pos e6]at h
    obtain rfl:=Option.some.inj h
    simp (maxDischargeDepth:=9) only [↓AU,AV,Ap,↓reduceIte,bk,bl,bm,bo,bp,br,bt,bw,bx,bO,b0,b3,b4,b5,b6,b7,b8,m0,m1,m2,m3,m4,m5,m6,m7,m8,e3,e4,c5,e6,E9,F5,Ca,Cb,Cc]<;>(repeat' apply A7)<;>first|rfl|exact⟨_,rfl⟩|exact⟨_,_,rfl⟩|simp [AR,AB]
   ·rw [if_neg e6]at h;have e6f:EX=false:=K7.mpr e6
    obtain rfl:=Option.some.inj h
    simp (maxDischargeDepth:=9) only [↓AU,AV,Ap,↓reduceIte,bk,bl,bm,bo,bp,br,bt,bw,bx,bO,b0,b3,b4,b5,b6,b7,b8,m0,m1,m2,m3,m4,m5,m6,m7,m8,e3,e4,c5,e6f,E9,F5,Ca,Cb,Cc]<;>(repeat' apply A7)<;>first|rfl|exact⟨_,rfl⟩|exact⟨_,_,rfl⟩|simp [AR,AB]
  ·rw [if_neg e4]at h
   obtain rfl:=Option.some.inj h
   simp (maxDischargeDepth:=9) only [↓AU,AV,Ap,↓reduceIte,bk,bl,bm,bo,bp,br,bt,bw,bx,bO,b0,b3,b4,b5,b6,b7,b8,m0,m1,m2,m3,m4,m5,m6,m7,m8,e3,e4,E9,F5,Ca,Cb,Cc]<;>(repeat' apply A7)<;>first|rfl|exact⟨_,rfl⟩|exact⟨_,_,rfl⟩|simp [AR,AB]
 ·rw [if_neg e3]at h
  obtain rfl:=Option.some.inj h
  simp (maxDischargeDepth:=9) only [↓AU,AV,Ap,↓reduceIte,bk,bl,bm,bo,bp,br,bt,bw,bx,bO,b0,b3,b4,b5,b6,b7,b8,m0,m1,m2,m3,m4,m5,m6,m7,m8,e3,E9,F5,Ca,Cb,Cc]<;>(repeat' apply A7)<;>first|rfl|exact⟨_,rfl⟩|exact⟨_,_,rfl⟩|simp [AR,AB]
def F6(AO:Ay)(AX:AP)(AJ:AP)(class_:AP)(out:AP)(many:Int)(ET:Int)(s:St):Prop:=s.v 1=b9 3 (AR (bh .i64) class_)∧s.v 2=cj [b9 123 (AR (fun x=>b9 125 (Az .i64 .i64 x)) AO),b9 3 (AR (bh .i64) AX),b9 3 (AR (bh .i64) AJ)]∧s.v 5=cb 3 (AR (bh .i64) out)∧s.v 6=bh .i64 many∧s.v 16=bh .i64 (AO.length:Int)∧s.v 17=bh .i64 ET
def GX(AO:Ay)(AX:AP)(AJ:AP)(class_:AP)(r:AP)(ex:Ex)(s:St):Prop:=ex= .exit 0∧s.v 5=cb 3 (AR (bh .i64) r)
theorem VA(AO:Ay)(AX:AP)(AJ:AP)(class_:AP){v:AP×Int×Int}{s:St}{r:AP}(h:Jm AO AX AJ class_ v=some r)(hM:F6 AO AX AJ class_ v.1 v.2.1 v.2.2 s):Br Y.env gy (GX AO AX AJ class_ r) s:=by
 unfold Jm at h;refine BX (c:=V8) (fun v=>GV AO AX AJ class_ v.1 v.2.1 v.2.2) (fun v s=>F6 AO AX AJ class_ v.1 v.2.1 v.2.2 s) (GX AO AX AJ class_) ?_ h hM;clear h hM s v r;intro v s o hM h;obtain⟨out,many,ET⟩:=v;dsimp only at h hM;unfold GV at h;unfold F6 at hM;obtain⟨m0,m1,m2,m3,m4,m5⟩:=hM;unfold V8;by_cases e2:ET<(AO.length:Int)
 ·rw [if_pos e2]at h;obtain⟨Ae,hl4,h⟩:=BD h;try dsimp only at h
  simp (maxDischargeDepth:=9) only [↓AU,AV,Ap,↓reduceIte,bk,bl,bm,bo,bp,br,bt,bw,bx,bO,b0,b3,b4,b5,b6,b7,b8,m0,m1,m2,m3,m4,m5,e2];refine BL (V9 AO AX AJ class_ out many ET hl4 ?_) ?_
  ·simp (maxDischargeDepth:=9) only [↓AU,AV,Ap,↓reduceIte,bk,bl,bm,bo,bp,br,bt,bw,bx,bO,b0,b3,b4,b5,b6,b7,b8,m0,m1,m2,m3,m4,m5,e2,E9]<;>(repeat' apply A7)<;>first|rfl|exact⟨_,rfl⟩|exact⟨_,_,rfl⟩|simp [AR,AB]
  ·intro ex4 s4 hX4;unfold F5 at hX4;obtain⟨rfl,n4_0,n4_1,n4_2,n4_3,n4_4,n4_5,n4_6,n4_7⟩:=hX4;by_cases e5:0≤Ae
   ·rw [if_pos e5]at h;obtain⟨e6,h⟩:=Bw h;obtain⟨e7,h⟩:=Bw h
    obtain rfl:=Option.some.inj h
    simp (maxDischargeDepth:=9) only [↓AU,AV,Ap,↓reduceIte,bk,bl,bm,bo,bp,br,bt,bw,bx,bO,b0,b3,b4,b5,b6,b7,b8,e2,n4_0,n4_1,n4_2,n4_3,n4_4,n4_5,n4_6,n4_7,e5,e6.1,e6.2,e7.1,e7.2,F6,GX,Ca,Cb,Cc]<;>(repeat' apply A7)<;>first|rfl|exact⟨_,rfl⟩|exact⟨_,_,rfl⟩|simp [AR,AB]
   ·rw [if_neg e5]at h;obtain⟨e6,h⟩:=Bw h
    obtain rfl:=Option.some.inj h
    simp (maxDischargeDepth:=9) only [↓AU,AV,Ap,↓reduceIte,bk,bl,bm,bo,bp,br,bt,bw,bx,bO,b0,b3,b4,b5,b6,b7,b8,e2,n4_0,n4_1,n4_2,n4_3,n4_4,n4_5,n4_6,n4_7,e5,e6.1,e6.2,F6,GX,Ca,Cb,Cc]<;>(repeat' apply A7)<;>first|rfl|exact⟨_,rfl⟩|exact⟨_,_,rfl⟩|simp [AR,AB]
 ·rw [if_neg e2]at h
  obtain rfl:=Option.some.inj h
  simp (maxDischargeDepth:=9) only [↓AU,AV,Ap,↓reduceIte,bk,bl,bm,bo,bp,br,bt,bw,bx,bO,b0,b3,b4,b5,b6,b7,b8,m0,m1,m2,m3,m4,m5,e2,F6,GX,Ca,Cb,Cc]<;>(repeat' apply A7)<;>first|rfl|exact⟨_,rfl⟩|exact⟨_,_,rfl⟩|simp [AR,AB]
theorem Lb(AO:Ay)(AX:AP)(AJ:AP)(class_:AP){r:AP}(h:Ki AO AX AJ class_=some r):Y.call 110 [cm [b9 123 (AR (fun x=>b9 125 (Az .i64 .i64 x)) AO),b9 3 (AR (bh .i64) AX),b9 3 (AR (bh .i64) AJ)],b9 3 (AR (bh .i64) class_)] []=some (cb 3 (AR (bh .i64) r),[]):=by
 refine AG6 ?_ rfl;unfold A3D;unfold Ki at h;obtain⟨e1,h⟩:=Bw h;obtain⟨Cz,hl3,h⟩:=BD h;try dsimp only at h
 simp (maxDischargeDepth:=9) only [↓AU,AV,Ap,↓reduceIte,bk,bl,bm,bo,bp,br,bt,bw,bx,bO,b0,b3,b4,b5,b6,b7,b8,e1.1,e1.2];refine BL (VA AO AX AJ class_ hl3 ?_) ?_
 ·simp (maxDischargeDepth:=9) only [↓AU,AV,Ap,↓reduceIte,bk,bl,bm,bo,bp,br,bt,bw,bx,bO,b0,b3,b4,b5,b6,b7,b8,e1.1,e1.2,F6]<;>(repeat' apply A7)<;>first|rfl|exact⟨_,rfl⟩|exact⟨_,_,rfl⟩|simp [AR,AB]
 ·intro ex3 s3 hX3;unfold GX at hX3;obtain⟨rfl,n3_0⟩:=hX3
  obtain rfl:=Option.some.inj h
  simp (maxDischargeDepth:=9) only [↓AU,AV,Ap,↓reduceIte,bk,bl,bm,bo,bp,br,bt,bw,bx,bO,b0,b3,b4,b5,b6,b7,b8,e1.1,e1.2,n3_0]<;>(repeat' apply A7)<;>first|rfl|exact⟨_,rfl⟩|exact⟨_,_,rfl⟩|simp [AR,AB]
def EE(AO:Ay)(AX:AP)(AJ:AP)(t_1:Int)(class_:AP):Option ((Int×AP)⊕(AP)):= if 0<t_1 then (Ki AO AX AJ class_).bind fun kW=> some (cd (cf.wrap (t_1-1),kW)) else some (ca class_)
def HV(AO:Ay)(AX:AP)(AJ:AP)(v:Int×AP):Option (AP):=JB (fun v=>EE AO AX AJ v.1 v.2) v
def HY(AO:Ay)(AX:AP)(AJ:AP)(t_:Int):Option (AP):= (Ki AO AX AJ []).bind fun pF=> (HV AO AX AJ (t_,pF)).bind fun Ae=> some Ae
def YQ:SC:= .seq (.seq (.ops [oM 8 1 3,oB 9 .gtr 3 (tK 8) (iK 0) 3 4]) (.cond (tK 9) .skip (.exit 0))) (.seq (.block 1 (.ops [oL 12 47 2 47,oM 13 5 26,oC 14 110 [(tK 12),(tK 13)] [47,26] 26,oA 5 14 26])) (.ops [oM 10 1 3,oB 11 .sub 3 (tK 10) (iK 1) 3 3,oA 1 11 3]))
def qE:SC:= .loop YQ
def k64:SC:= .seq (.ops [oX 2 (.box 47 (tK 0)) 0,oX 4 Qn 26]) (.seq (.ops [oL 6 47 2 47,oC 7 110 [(tK 6),(.const (.slice none 0 0))] [47,26] 26,oA 5 7 26]) (.seq (.block 0 qE) (.seq (.ops [oM 15 5 26,oA 4 15 26]) .ret)))
theorem A3E:Try.f64.body.map (BV lends)=some k64:=by kernel_rfl
theorem AG8:Bl Try.f64 2=true:=by kernel_rfl
theorem c64{a l:List D}{r:D×List D}(h:Br Y.env k64 (Fa Ag l.length [ce 4] r) (entry a l))(ha:a.length=2):Y.call 64 a l=some r:=
 Af (Y:=Y) rfl Try.func64 (ha▸AG8) A3E h
def EF(AO:Ay)(AX:AP)(AJ:AP)(t_1:Int)(class_:AP)(s:St):Prop:=s.v 1=bh .i64 t_1∧s.v 2=cj [b9 123 (AR (fun x=>b9 125 (Az .i64 .i64 x)) AO),b9 3 (AR (bh .i64) AX),b9 3 (AR (bh .i64) AJ)]∧s.v 5=cb 3 (AR (bh .i64) class_)
def FN(AO:Ay)(AX:AP)(AJ:AP)(r:AP)(ex:Ex)(s:St):Prop:=ex= .exit 0∧s.v 5=cb 3 (AR (bh .i64) r)
theorem QG(AO:Ay)(AX:AP)(AJ:AP){v:Int×AP}{s:St}{r:AP}(h:HV AO AX AJ v=some r)(hM:EF AO AX AJ v.1 v.2 s):Br Y.env qE (FN AO AX AJ r) s:=by
 unfold HV at h;refine BX (c:=YQ) (fun v=>EE AO AX AJ v.1 v.2) (fun v s=>EF AO AX AJ v.1 v.2 s) (FN AO AX AJ) ?_ h hM;clear h hM s v r;intro v s o hM h;obtain⟨t_1,class_⟩:=v;dsimp only at h hM;unfold EE at h;unfold EF at hM;obtain⟨m0,m1,m2⟩:=hM;unfold YQ;by_cases e2:0<t_1
 ·rw [if_pos e2]at h;obtain⟨kW,hl3,h⟩:=BD h;try dsimp only at h
  have c3:=Lb AO AX AJ class_ hl3
  obtain rfl:=Option.some.inj h
  simp (maxDischargeDepth:=9) only [↓AU,AV,Ap,↓reduceIte,bk,bl,bm,bo,bp,br,bt,bw,bx,bO,b0,b3,b4,b5,b6,b7,b8,m0,m1,m2,e2,c3,EF,FN,Ca,Cb,Cc]<;>(repeat' apply A7)<;>first|rfl|exact⟨_,rfl⟩|exact⟨_,_,rfl⟩|simp [AR,AB]
 ·rw [if_neg e2]at h
  obtain rfl:=Option.some.inj h
  simp (maxDischargeDepth:=9) only [↓AU,AV,Ap,↓reduceIte,bk,bl,bm,bo,bp,br,bt,bw,bx,bO,b0,b3,b4,b5,b6,b7,b8,m0,m1,m2,e2,EF,FN,Ca,Cb,Cc]<;>(repeat' apply A7)<;>first|rfl|exact⟨_,rfl⟩|exact⟨_,_,rfl⟩|simp [AR,AB]
theorem ME(AO:Ay)(AX:AP)(AJ:AP)(t_:Int){r:AP}(h:HY AO AX AJ t_=some r):Y.call 64 [cm [b9 123 (AR (fun x=>b9 125 (Az .i64 .i64 x)) AO),b9 3 (AR (bh .i64) AX),b9 3 (AR (bh .i64) AJ)],bh .i64 t_] []=some (cb 3 (AR (bh .i64) r),[]):=by
 refine c64 ?_ rfl;unfold k64;unfold HY at h;obtain⟨pF,hl1,h⟩:=BD h;try dsimp only at h
 have c1:=Lb AO AX AJ [] hl1;simp only [Jd,sV,M5,Xp,VY,PN,PP]at c1;obtain⟨Ae,hl3,h⟩:=BD h;try dsimp only at h
 simp (maxDischargeDepth:=9) only [↓AU,AV,Ap,↓reduceIte,bk,bl,bm,bo,bp,br,bt,bw,bx,bO,b0,b3,b4,b5,b6,b7,b8,c1];refine BL (QG AO AX AJ hl3 ?_) ?_
 ·simp (maxDischargeDepth:=9) only [↓AU,AV,Ap,↓reduceIte,bk,bl,bm,bo,bp,br,bt,bw,bx,bO,b0,b3,b4,b5,b6,b7,b8,c1,EF]<;>(repeat' apply A7)<;>first|rfl|exact⟨_,rfl⟩|exact⟨_,_,rfl⟩|simp [AR,AB]
 ·intro ex3 s3 hX3;unfold FN at hX3;obtain⟨rfl,n3_0⟩:=hX3
  obtain rfl:=Option.some.inj h
  simp (maxDischargeDepth:=9) only [↓AU,AV,Ap,↓reduceIte,bk,bl,bm,bo,bp,br,bt,bw,bx,bO,b0,b3,b4,b5,b6,b7,b8,c1,n3_0]<;>(repeat' apply A7)<;>first|rfl|exact⟨_,rfl⟩|exact⟨_,_,rfl⟩|simp [AR,AB]
def Bd(x_:AP)(m_:Int)(i:Int):Option ((Int×Int)⊕(Int)):= if i<(x_.length:Int)then ck (0≤i∧i.toNat<x_.length)<| some (cd ((TD m_ (x_.getD i.toNat bj)),cf.wrap (i+1))) else some (ca m_)
def CY(x_:AP)(v:Int×Int):Option (Int):=JB (fun v=>Bd x_ v.1 v.2) v
def ER(x_:AP):Option (Int):= if(x_.length:Int)<1 then none else ck (0<x_.length)<| (CY x_ ((x_.getD 0 bj),1)).bind fun Ae=> some Ae
def VB:SC:= .seq (.seq (.ops [oM 12 4 3,oM 13 0 26,oN 14 13 26,oB 15 .lss 3 (tK 12) (tK 14) 3 4]) (.cond (tK 15) .skip (.exit 0))) (.seq (.block 1 (.ops [oM 18 3 3,oM 19 0 26,oM 20 4 3,oI 21 26 19 20,oL 22 3 21 3,oX 23 (.call ⟨(.builtin .max), #[(tK 18),(tK 22)], #[3,3]⟩) 3,oA 3 23 3])) (.ops [oM 16 4 3,oB 17 .add 3 (tK 16) (iK 1) 3 3,oA 4 17 3]))
def gz:SC:= .loop VB
def A3F:SC:= .seq (.ops [oX 2 (.assign (iK 0)) 3]) (.seq (.seq (.ops [oM 5 0 26,oN 6 5 26,oB 7 .lss 3 (tK 6) (iK 1) 3 4]) (.cond (tK 7) (.ops [oX 8 (.makeInterface 9 (.const (.string {data:= #[115,108,105,99,101,115,46,77,97,120,58,32,101,109,112,116,121,32,108,105,115,116]}))) 20,⟨none,(.panic (tK 8)),0,none⟩]) .skip)) (.seq (.ops [oM 9 0 26,oX 10 (.indexAddr 26 (tK 9) (iK 0)) 0,oL 11 3 10 3,oA 3 11 3]) (.seq (.seq (.ops [oX 4 (.assign (iK 1)) 3]) (.block 0 gz)) (.seq (.ops [oM 24 3 3,oA 2 24 3]) .ret))))
theorem uO:Try.f157.body.map (BV lends)=some A3F:=by kernel_rfl
theorem AAV:Bl Try.f157 1=true:=by kernel_rfl
theorem AG9{a l:List D}{r:D×List D}(h:Br Y.env A3F (Fa Ag l.length [ce 2] r) (entry a l))(ha:a.length=1):Y.call 157 a l=some r:=
 Af (Y:=Y) rfl Try.func157 (ha▸AAV) uO h
def Be(x_:AP)(m_:Int)(i:Int)(s:St):Prop:=s.v 0=b9 3 (AR (bh .i64) x_)∧s.v 3=bh .i64 m_∧s.v 4=bh .i64 i
def CB(x_:AP)(r:Int)(ex:Ex)(s:St):Prop:=ex= .exit 0∧s.v 3=bh .i64 r
theorem KG(x_:AP){v:Int×Int}{s:St}{r:Int}(h:CY x_ v=some r)(hM:Be x_ v.1 v.2 s):Br Y.env gz (CB x_ r) s:=by
 unfold CY at h;refine BX (c:=VB) (fun v=>Bd x_ v.1 v.2) (fun v s=>Be x_ v.1 v.2 s) (CB x_) ?_ h hM;clear h hM s v r;intro v s o hM h;obtain⟨m_,i⟩:=v;dsimp only at h hM;unfold Bd at h;unfold Be at hM;obtain⟨m0,m1,m2⟩:=hM;unfold VB;by_cases e3:i<(x_.length:Int)
 ·rw [if_pos e3]at h;obtain⟨e4,h⟩:=Bw h
  obtain rfl:=Option.some.inj h
  simp (maxDischargeDepth:=9) only [↓AU,AV,Ap,↓reduceIte,bk,bl,bm,bo,bp,br,bt,bw,bx,bO,b0,b3,b4,b5,b6,b7,b8,m0,m1,m2,e3,e4.1,e4.2,Be,CB,Ca,Cb,Cc]<;>(repeat' apply A7)<;>first|rfl|exact⟨_,rfl⟩|exact⟨_,_,rfl⟩|simp [AR,AB]
 ·rw [if_neg e3]at h
  obtain rfl:=Option.some.inj h
  simp (maxDischargeDepth:=9) only [↓AU,AV,Ap,↓reduceIte,bk,bl,bm,bo,bp,br,bt,bw,bx,bO,b0,b3,b4,b5,b6,b7,b8,m0,m1,m2,e3,Be,CB,Ca,Cb,Cc]<;>(repeat' apply A7)<;>first|rfl|exact⟨_,rfl⟩|exact⟨_,_,rfl⟩|simp [AR,AB]
theorem Kj(x_:AP){r:Int}(h:ER x_=some r):Y.call 157 [b9 3 (AR (bh .i64) x_)] []=some (bh .i64 r,[]):=by
 refine AG9 ?_ rfl;unfold A3F;unfold ER at h;by_cases e1:(x_.length:Int)<1
 ·rw [if_pos e1]at h;cases h
 ·rw [if_neg e1]at h;obtain⟨e2,h⟩:=Bw h;obtain⟨Ae,hl4,h⟩:=BD h;try dsimp only at h
  simp (maxDischargeDepth:=9) only [↓AU,AV,Ap,↓reduceIte,bk,bl,bm,bo,bp,br,bt,bw,bx,bO,b0,b3,b4,b5,b6,b7,b8,e1,e2];refine BL (KG x_ hl4 ?_) ?_
  ·simp (maxDischargeDepth:=9) only [↓AU,AV,Ap,↓reduceIte,bk,bl,bm,bo,bp,br,bt,bw,bx,bO,b0,b3,b4,b5,b6,b7,b8,e1,e2,Be]<;>(repeat' apply A7)<;>first|rfl|exact⟨_,rfl⟩|exact⟨_,_,rfl⟩|simp [AR,AB]
  ·intro ex4 s4 hX4;unfold CB at hX4;obtain⟨rfl,n4_0⟩:=hX4
   obtain rfl:=Option.some.inj h
   simp (maxDischargeDepth:=9) only [↓AU,AV,Ap,↓reduceIte,bk,bl,bm,bo,bp,br,bt,bw,bx,bO,b0,b3,b4,b5,b6,b7,b8,e1,e2,n4_0]<;>(repeat' apply A7)<;>first|rfl|exact⟨_,rfl⟩|exact⟨_,_,rfl⟩|simp [AR,AB]
def Fv(class_:AP):Option (Int):= (ER class_).bind fun r4_=> some (cf.wrap (r4_+1))
def A3G:SC:= .seq (.ops [oX 2 (.assign (iK 0)) 3]) (.seq (.ops [oM 3 0 26,oC 4 157 [(tK 3)] [26] 3,oB 5 .add 3 (tK 4) (iK 1) 3 3,oA 2 5 3]) .ret)
theorem uP:Try.f122.body.map (BV lends)=some A3G:=by kernel_rfl
theorem AAW:Bl Try.f122 1=true:=by kernel_rfl
theorem AGA{a l:List D}{r:D×List D}(h:Br Y.env A3G (Fa Ag l.length [ce 2] r) (entry a l))(ha:a.length=1):Y.call 122 a l=some r:=
 Af (Y:=Y) rfl Try.func122 (ha▸AAW) uP h
theorem LG(class_:AP){r:Int}(h:Fv class_=some r):Y.call 122 [b9 3 (AR (bh .i64) class_)] []=some (bh .i64 r,[]):=by
 refine AGA ?_ rfl;unfold A3G;unfold Fv at h;obtain⟨r4_,hl1,h⟩:=BD h;try dsimp only at h
 have c1:=Kj class_ hl1
 obtain rfl:=Option.some.inj h
 simp (maxDischargeDepth:=9) only [↓AU,AV,Ap,↓reduceIte,bk,bl,bm,bo,bp,br,bt,bw,bx,bO,b0,b3,b4,b5,b6,b7,b8,c1]<;>(repeat' apply A7)<;>first|rfl|exact⟨_,rfl⟩|exact⟨_,_,rfl⟩|simp [AR,AB]
def GY(AO:Ay)(AX:AP)(AJ:AP)(class_:AP)(t_:Int):Option ((AP×Int)⊕(Int×AP)):= (IQ AO AX AJ class_).bind fun ed=> (Fv ed).bind fun YR=> (Fv class_).bind fun A3H=> if YR=A3H then some (ca (t_,class_)) else some (cd (ed,cf.wrap (t_+1)))
def Jn(AO:Ay)(AX:AP)(AJ:AP)(v:AP×Int):Option (Int×AP):=JB (fun v=>GY AO AX AJ v.1 v.2) v
def Nz(AO:Ay)(AX:AP)(AJ:AP):Option (Int×AP):= (En AO AX AJ).bind fun r8_=> (Jn AO AX AJ (r8_,0)).bind fun Ae=> some (Ae.1,Ae.2)
def YS:SC:= .seq (.block 1 (.seq (.ops [oL 11 47 1 47,oM 12 4 26,oC 13 125 [(tK 11),(tK 12)] [47,26] 26,oA 6 13 26]) (.seq (.seq (.ops [oM 14 6 26,oC 15 122 [(tK 14)] [26] 3,oM 16 4 26,oC 17 122 [(tK 16)] [26] 3,oB 18 .eql 3 (tK 15) (tK 17) 3 4]) (.cond (tK 18) (.seq (.ops [oM 19 5 3,oM 20 4 26,oA 2 19 3,oA 3 20 26]) .ret) .skip)) (.ops [oM 21 6 26,oA 4 21 26])))) (.ops [oM 9 5 3,oB 10 .add 3 (tK 9) (iK 1) 3 3,oA 5 10 3])
def qF:SC:= .loop YS
def k78:SC:= .seq (.ops [oX 1 (.box 47 (tK 0)) 0,oX 2 (.assign (iK 0)) 3,oX 3 Qn 26]) (.seq (.ops [oL 7 47 1 47,oC 8 125 [(tK 7),(.const (.slice none 0 0))] [47,26] 900013,oA 4 8 26]) (.seq (.ops [oX 5 (.assign (iK 0)) 3]) (.block 0 qF)))
theorem A3I:Try.f78.body.map (BV lends)=some k78:=by kernel_rfl
theorem AGC:Bl Try.f78 1=true:=by kernel_rfl
theorem c78{a l:List D}{r:D×List D}(h:Br Y.env k78 (Fa Ag l.length [ce 2,ce 3] r) (entry a l))(ha:a.length=1):Y.call 78 a l=some r:=
 Af (Y:=Y) rfl Try.func78 (ha▸AGC) A3I h
def GZ(AO:Ay)(AX:AP)(AJ:AP)(class_:AP)(t_:Int)(s:St):Prop:=s.v 1=cj [b9 123 (AR (fun x=>b9 125 (Az .i64 .i64 x)) AO),b9 3 (AR (bh .i64) AX),b9 3 (AR (bh .i64) AJ)]∧s.v 4=cb 3 (AR (bh .i64) class_)∧s.v 5=bh .i64 t_
def IR(AO:Ay)(AX:AP)(AJ:AP)(r:Int×AP)(ex:Ex)(s:St):Prop:=ex= .ret∧s.v 2=bh .i64 r.1∧s.v 3=cb 3 (AR (bh .i64) r.2)
theorem VC(AO:Ay)(AX:AP)(AJ:AP){v:AP×Int}{s:St}{r:Int×AP}(h:Jn AO AX AJ v=some r)(hM:GZ AO AX AJ v.1 v.2 s):Br Y.env qF (IR AO AX AJ r) s:=by
 unfold Jn at h;refine BX (c:=YS) (fun v=>GY AO AX AJ v.1 v.2) (fun v s=>GZ AO AX AJ v.1 v.2 s) (IR AO AX AJ) ?_ h hM;clear h hM s v r;intro v s o hM h;obtain⟨class_,t_⟩:=v;dsimp only at h hM;unfold GY at h;unfold GZ at hM;obtain⟨m0,m1,m2⟩:=hM;unfold YS;obtain⟨ed,hl2,h⟩:=BD h;try dsimp only at h
 have c2:=PE AO AX AJ class_ hl2;obtain⟨YR,hl3,h⟩:=BD h;try dsimp only at h
 have c3:=LG ed hl3;obtain⟨A3H,hl4,h⟩:=BD h;try dsimp only at h
 have c4:=LG class_ hl4;by_cases e5:YR=A3H
 ·rw [if_pos e5]at h
  obtain rfl:=Option.some.inj h
  simp (maxDischargeDepth:=9) only [↓AU,AV,Ap,↓reduceIte,bk,bl,bm,bo,bp,br,bt,bw,bx,bO,b0,b3,b4,b5,b6,b7,b8,m0,m1,m2,c2,c3,c4,decide_eq_true e5,GZ,IR,Ca,Cb,Cc]<;>(repeat' apply A7)<;>first|rfl|exact⟨_,rfl⟩|exact⟨_,_,rfl⟩|simp [AR,AB]
 ·rw [if_neg e5]at h
  obtain rfl:=Option.some.inj h
  simp (maxDischargeDepth:=9) only [↓AU,AV,Ap,↓reduceIte,bk,bl,bm,bo,bp,br,bt,bw,bx,bO,b0,b3,b4,b5,b6,b7,b8,m0,m1,m2,c2,c3,c4,e5,GZ,IR,Ca,Cb,Cc]<;>(repeat' apply A7)<;>first|rfl|exact⟨_,rfl⟩|exact⟨_,_,rfl⟩|simp [AR,AB]
theorem WL(AO:Ay)(AX:AP)(AJ:AP){r:Int×AP}(h:Nz AO AX AJ=some r):Y.call 78 [cm [b9 123 (AR (fun x=>b9 125 (Az .i64 .i64 x)) AO),b9 3 (AR (bh .i64) AX),b9 3 (AR (bh .i64) AJ)]] []=some (D.tup [bh .i64 r.1,cb 3 (AR (bh .i64) r.2)],[]):=by
 refine c78 ?_ rfl;unfold k78;unfold Nz at h;obtain⟨r8_,hl1,h⟩:=BD h;try dsimp only at h
 have c1:=Mm AO AX AJ hl1;obtain⟨Ae,hl6,h⟩:=BD h;try dsimp only at h
 simp (maxDischargeDepth:=9) only [↓AU,AV,Ap,↓reduceIte,bk,bl,bm,bo,bp,br,bt,bw,bx,bO,b0,b3,b4,b5,b6,b7,b8,c1];refine BL (VC AO AX AJ hl6 ?_) ?_
 ·simp (maxDischargeDepth:=9) only [↓AU,AV,Ap,↓reduceIte,bk,bl,bm,bo,bp,br,bt,bw,bx,bO,b0,b3,b4,b5,b6,b7,b8,c1,GZ]<;>(repeat' apply A7)<;>first|rfl|exact⟨_,rfl⟩|exact⟨_,_,rfl⟩|simp [AR,AB]
 ·intro ex6 s6 hX6;unfold IR at hX6;obtain⟨rfl,n6_0,n6_1⟩:=hX6
  obtain rfl:=Option.some.inj h
  simp (maxDischargeDepth:=9) only [↓AU,AV,Ap,↓reduceIte,bk,bl,bm,bo,bp,br,bt,bw,bx,bO,b0,b3,b4,b5,b6,b7,b8,c1,n6_0,n6_1]<;>(repeat' apply A7)<;>first|rfl|exact⟨_,rfl⟩|exact⟨_,_,rfl⟩|simp [AR,AB]
def QH(a:Int)(b:Int):Option (Int):= if b<a then some a else some b
def A3J:SC:= .seq (.ops [oX 4 (.assign (iK 0)) 3]) (.seq (.seq (.ops [oM 5 0 3,oM 6 1 3,oB 7 .gtr 3 (tK 5) (tK 6) 3 4]) (.cond (tK 7) (.seq (.ops [oM 8 0 3,oA 4 8 3]) .ret) .skip)) (.seq (.ops [oM 9 1 3,oA 4 9 3]) .ret))
theorem uQ:Try.f176.body.map (BV lends)=some A3J:=by kernel_rfl
theorem AAX:Bl Try.f176 2=true:=by kernel_rfl
theorem AGD{a l:List D}{r:D×List D}(h:Br Y.env A3J (Fa Ag l.length [ce 4] r) (entry a l))(ha:a.length=2):Y.call 176 a l=some r:=
 Af (Y:=Y) rfl Try.func176 (ha▸AAX) uQ h
theorem WM(a:Int)(b:Int){r:Int}(h:QH a b=some r):Y.call 176 [bh .i64 a,bh .i64 b] []=some (bh .i64 r,[]):=by
 refine AGD ?_ rfl;unfold A3J;unfold QH at h;by_cases e1:b<a
 ·rw [if_pos e1]at h
  obtain rfl:=Option.some.inj h
  simp (maxDischargeDepth:=9) only [↓AU,AV,Ap,↓reduceIte,bk,bl,bm,bo,bp,br,bt,bw,bx,bO,b0,b3,b4,b5,b6,b7,b8,e1]<;>(repeat' apply A7)<;>first|rfl|exact⟨_,rfl⟩|exact⟨_,_,rfl⟩|simp [AR,AB]
 ·rw [if_neg e1]at h
  obtain rfl:=Option.some.inj h
  simp (maxDischargeDepth:=9) only [↓AU,AV,Ap,↓reduceIte,bk,bl,bm,bo,bp,br,bt,bw,bx,bO,b0,b3,b4,b5,b6,b7,b8,e1]<;>(repeat' apply A7)<;>first|rfl|exact⟨_,rfl⟩|exact⟨_,_,rfl⟩|simp [AR,AB]
def Ga(class_:AP)(n_:Int)(Gm:Int):Option ((Int×Int)⊕(Int)):= if Gm<(class_.length:Int)then ck (0≤Gm∧Gm.toNat<class_.length)<| (QH n_ (cf.wrap ((class_.getD Gm.toNat bj)+1))).bind fun YR=> some (cd (YR,cf.wrap (Gm+1))) else some (ca n_)
def Jo(class_:AP)(v:Int×Int):Option (Int):=JB (fun v=>Ga class_ v.1 v.2) v
def Kk(class_:AP):Option (Int):= (Jo class_ (0,0)).bind fun Ae=> some Ae
def VD:SC:= .seq (.ops [oB 9 .lss 3 (tK 8) (tK 7) 3 0]) (.seq (.cond (tK 9) .skip (.exit 0)) (.seq (.block 1 (.seq (.ops [oI 10 26 6 8,oL 11 3 10 3,oA 5 11 3]) (.ops [oM 12 3 3,oM 13 5 3,oB 14 .add 3 (tK 13) (iK 1) 3 3,oC 15 176 [(tK 12),(tK 14)] [3,3] 3,oA 3 15 3]))) (.ops [oB 16 .add 3 (tK 8) (iK 1) 3 3,oM 8 16 3])))
def iA:SC:= .loop VD
def A3K:SC:= .seq (.ops [oX 2 (.assign (iK 0)) 3]) (.seq (.ops [oX 3 (.assign (iK 0)) 3]) (.seq (.seq (.ops [oM 6 0 26,oN 7 6 26,oX 8 (.move (iK 0)) 3]) (.block 0 iA)) (.seq (.ops [oM 17 3 3,oA 2 17 3]) .ret)))
theorem uR:Try.f159.body.map (BV lends)=some A3K:=by kernel_rfl
theorem AAY:Bl Try.f159 1=true:=by kernel_rfl
theorem AGE{a l:List D}{r:D×List D}(h:Br Y.env A3K (Fa Ag l.length [ce 2] r) (entry a l))(ha:a.length=1):Y.call 159 a l=some r:=
 Af (Y:=Y) rfl Try.func159 (ha▸AAY) uR h
def Gb(class_:AP)(n_:Int)(Gm:Int)(s:St):Prop:=s.v 3=bh .i64 n_∧s.v 6=b9 3 (AR (bh .i64) class_)∧s.v 7=bh .i64 (class_.length:Int)∧s.v 8=bh .i64 Gm
def IU(class_:AP)(r:Int)(ex:Ex)(s:St):Prop:=ex= .exit 0∧s.v 3=bh .i64 r
theorem VE(class_:AP){v:Int×Int}{s:St}{r:Int}(h:Jo class_ v=some r)(hM:Gb class_ v.1 v.2 s):Br Y.env iA (IU class_ r) s:=by
 unfold Jo at h;refine BX (c:=VD) (fun v=>Ga class_ v.1 v.2) (fun v s=>Gb class_ v.1 v.2 s) (IU class_) ?_ h hM;clear h hM s v r;intro v s o hM h;obtain⟨n_,Gm⟩:=v;dsimp only at h hM;unfold Ga at h;unfold Gb at hM;obtain⟨m0,m1,m2,m3⟩:=hM;unfold VD;by_cases e1:Gm<(class_.length:Int)
 ·rw [if_pos e1]at h;obtain⟨e2,h⟩:=Bw h;obtain⟨YR,hl3,h⟩:=BD h;try dsimp only at h
  have c3:=WM n_ (cf.wrap ((class_.getD Gm.toNat bj)+1)) hl3
  obtain rfl:=Option.some.inj h
  simp (maxDischargeDepth:=9) only [↓AU,AV,Ap,↓reduceIte,bk,bl,bm,bo,bp,br,bt,bw,bx,bO,b0,b3,b4,b5,b6,b7,b8,m0,m1,m2,m3,e1,e2.1,e2.2,c3,Gb,IU,Ca,Cb,Cc]<;>(repeat' apply A7)<;>first|rfl|exact⟨_,rfl⟩|exact⟨_,_,rfl⟩|simp [AR,AB]
 ·rw [if_neg e1]at h
  obtain rfl:=Option.some.inj h
  simp (maxDischargeDepth:=9) only [↓AU,AV,Ap,↓reduceIte,bk,bl,bm,bo,bp,br,bt,bw,bx,bO,b0,b3,b4,b5,b6,b7,b8,m0,m1,m2,m3,e1,Gb,IU,Ca,Cb,Cc]<;>(repeat' apply A7)<;>first|rfl|exact⟨_,rfl⟩|exact⟨_,_,rfl⟩|simp [AR,AB]
theorem Oh(class_:AP){r:Int}(h:Kk class_=some r):Y.call 159 [b9 3 (AR (bh .i64) class_)] []=some (bh .i64 r,[]):=by
 refine AGE ?_ rfl;unfold A3K;unfold Kk at h;obtain⟨Ae,hl2,h⟩:=BD h;try dsimp only at h
 simp (maxDischargeDepth:=9) only [↓AU,AV,Ap,↓reduceIte,bk,bl,bm,bo,bp,br,bt,bw,bx,bO,b0,b3,b4,b5,b6,b7,b8];refine BL (VE class_ hl2 ?_) ?_
 ·simp (maxDischargeDepth:=9) only [↓AU,AV,Ap,↓reduceIte,bk,bl,bm,bo,bp,br,bt,bw,bx,bO,b0,b3,b4,b5,b6,b7,b8,Gb]<;>(repeat' apply A7)<;>first|rfl|exact⟨_,rfl⟩|exact⟨_,_,rfl⟩|simp [AR,AB]
 ·intro ex2 s2 hX2;unfold IU at hX2;obtain⟨rfl,n2_0⟩:=hX2
  obtain rfl:=Option.some.inj h
  simp (maxDischargeDepth:=9) only [↓AU,AV,Ap,↓reduceIte,bk,bl,bm,bo,bp,br,bt,bw,bx,bO,b0,b3,b4,b5,b6,b7,b8,n2_0]<;>(repeat' apply A7)<;>first|rfl|exact⟨_,rfl⟩|exact⟨_,_,rfl⟩|simp [AR,AB]
def Ec(AO:Ay)(AX:AP)(AJ:AP)(class_:AP)(t_:Int):Option ((AP×Int)⊕(Int)):= (Ki AO AX AJ class_).bind fun uS=> (Kk uS).bind fun kW=> (Kk class_).bind fun NH=> if kW=NH then some (ca t_) else some (cd (uS,cf.wrap (t_+1)))
def IV(AO:Ay)(AX:AP)(AJ:AP)(v:AP×Int):Option (Int):=JB (fun v=>Ec AO AX AJ v.1 v.2) v
def Kl(AO:Ay)(AX:AP)(AJ:AP):Option (Int):= (HY AO AX AJ (0:Int)).bind fun pF=> (IV AO AX AJ (pF,0)).bind fun Ae=> some Ae
def VF:SC:= .seq (.block 1 (.seq (.ops [oL 10 47 1 47,oM 11 3 26,oC 12 110 [(tK 10),(tK 11)] [47,26] 26,oA 5 12 26]) (.seq (.seq (.ops [oM 13 5 26,oC 14 159 [(tK 13)] [26] 3,oM 15 3 26,oC 16 159 [(tK 15)] [26] 3,oB 17 .eql 3 (tK 14) (tK 16) 3 4]) (.cond (tK 17) (.seq (.ops [oM 18 4 3,oA 2 18 3]) .ret) .skip)) (.ops [oM 19 5 26,oA 3 19 26])))) (.ops [oM 8 4 3,oB 9 .add 3 (tK 8) (iK 1) 3 3,oA 4 9 3])
def iB:SC:= .loop VF
def A3L:SC:= .seq (.ops [oX 1 (.box 47 (tK 0)) 0,oX 2 (.assign (iK 0)) 3]) (.seq (.ops [oL 6 47 1 47,oC 7 64 [(tK 6),(iK 0)] [47,3] 26,oA 3 7 26]) (.seq (.ops [oX 4 (.assign (iK 0)) 3]) (.block 0 iB)))
theorem uT:Try.f127.body.map (BV lends)=some A3L:=by kernel_rfl
theorem AAZ:Bl Try.f127 1=true:=by kernel_rfl
theorem AGF{a l:List D}{r:D×List D}(h:Br Y.env A3L (Fa Ag l.length [ce 2] r) (entry a l))(ha:a.length=1):Y.call 127 a l=some r:=
 Af (Y:=Y) rfl Try.func127 (ha▸AAZ) uT h
def Ed(AO:Ay)(AX:AP)(AJ:AP)(class_:AP)(t_:Int)(s:St):Prop:=s.v 1=cj [b9 123 (AR (fun x=>b9 125 (Az .i64 .i64 x)) AO),b9 3 (AR (bh .i64) AX),b9 3 (AR (bh .i64) AJ)]∧s.v 3=cb 3 (AR (bh .i64) class_)∧s.v 4=bh .i64 t_
def G7(AO:Ay)(AX:AP)(AJ:AP)(r:Int)(ex:Ex)(s:St):Prop:=ex= .ret∧s.v 2=bh .i64 r
theorem Qz(AO:Ay)(AX:AP)(AJ:AP){v:AP×Int}{s:St}{r:Int}(h:IV AO AX AJ v=some r)(hM:Ed AO AX AJ v.1 v.2 s):Br Y.env iB (G7 AO AX AJ r) s:=by
 unfold IV at h;refine BX (c:=VF) (fun v=>Ec AO AX AJ v.1 v.2) (fun v s=>Ed AO AX AJ v.1 v.2 s) (G7 AO AX AJ) ?_ h hM;clear h hM s v r;intro v s o hM h;obtain⟨class_,t_⟩:=v;dsimp only at h hM;unfold Ec at h;unfold Ed at hM;obtain⟨m0,m1,m2⟩:=hM;unfold VF;obtain⟨uS,hl2,h⟩:=BD h;try dsimp only at h
 have c2:=Lb AO AX AJ class_ hl2;obtain⟨kW,hl3,h⟩:=BD h;try dsimp only at h
 have c3:=Oh uS hl3;obtain⟨NH,hl4,h⟩:=BD h;try dsimp only at h
 have c4:=Oh class_ hl4;by_cases e5:kW=NH
 ·rw [if_pos e5]at h
  obtain rfl:=Option.some.inj h
  simp (maxDischargeDepth:=9) only [↓AU,AV,Ap,↓reduceIte,bk,bl,bm,bo,bp,br,bt,bw,bx,bO,b0,b3,b4,b5,b6,b7,b8,m0,m1,m2,c2,c3,c4,decide_eq_true e5,Ed,G7,Ca,Cb,Cc]<;>(repeat' apply A7)<;>first|rfl|exact⟨_,rfl⟩|exact⟨_,_,rfl⟩|simp [AR,AB]
 ·rw [if_neg e5]at h
  obtain rfl:=Option.some.inj h
  simp (maxDischargeDepth:=9) only [↓AU,AV,Ap,↓reduceIte,bk,bl,bm,bo,bp,br,bt,bw,bx,bO,b0,b3,b4,b5,b6,b7,b8,m0,m1,m2,c2,c3,c4,e5,Ed,G7,Ca,Cb,Cc]<;>(repeat' apply A7)<;>first|rfl|exact⟨_,rfl⟩|exact⟨_,_,rfl⟩|simp [AR,AB]
theorem SN(AO:Ay)(AX:AP)(AJ:AP){r:Int}(h:Kl AO AX AJ=some r):Y.call 127 [cm [b9 123 (AR (fun x=>b9 125 (Az .i64 .i64 x)) AO),b9 3 (AR (bh .i64) AX),b9 3 (AR (bh .i64) AJ)]] []=some (bh .i64 r,[]):=by
 refine AGF ?_ rfl;unfold A3L;unfold Kl at h;obtain⟨pF,hl1,h⟩:=BD h;try dsimp only at h
 have c1:=ME AO AX AJ (0:Int) hl1;obtain⟨Ae,hl6,h⟩:=BD h;try dsimp only at h
 simp (maxDischargeDepth:=9) only [↓AU,AV,Ap,↓reduceIte,bk,bl,bm,bo,bp,br,bt,bw,bx,bO,b0,b3,b4,b5,b6,b7,b8,c1];refine BL (Qz AO AX AJ hl6 ?_) ?_
 ·simp (maxDischargeDepth:=9) only [↓AU,AV,Ap,↓reduceIte,bk,bl,bm,bo,bp,br,bt,bw,bx,bO,b0,b3,b4,b5,b6,b7,b8,c1,Ed]<;>(repeat' apply A7)<;>first|rfl|exact⟨_,rfl⟩|exact⟨_,_,rfl⟩|simp [AR,AB]
 ·intro ex6 s6 hX6;unfold G7 at hX6;obtain⟨rfl,n6_0⟩:=hX6
  obtain rfl:=Option.some.inj h
  simp (maxDischargeDepth:=9) only [↓AU,AV,Ap,↓reduceIte,bk,bl,bm,bo,bp,br,bt,bw,bx,bO,b0,b3,b4,b5,b6,b7,b8,c1,n6_0]<;>(repeat' apply A7)<;>first|rfl|exact⟨_,rfl⟩|exact⟨_,_,rfl⟩|simp [AR,AB]
def MF(AO:Ay)(AX:AP)(AJ:AP):Option (AP):= (Kl AO AX AJ).bind fun r5_=> (HY AO AX AJ r5_).bind fun r6_=> some r6_
def k74:SC:= .seq (.ops [oX 1 (.box 47 (tK 0)) 0,oX 2 Qn 26]) (.seq (.draws [(⟨[3,1,1],[3,4,5,6,2,6,6],[3]⟩,oL 3 47 1 47),(⟨[4,1,1],[3,4,5,6,2,6,6],[4]⟩,oL 4 47 1 47),(⟨[5,4,1],[3,4,5,6,2,6,6],[5]⟩,oC 5 127 [(tK 4)] [47] 3),(⟨[6,3,5,1,5],[3,4,5,6,2,6,6],[6]⟩,oC 6 64 [(tK 3),(tK 5)] [47,3] 26),(⟨[2,6,6],[3,4,5,6,2,6,6],[2,6,6]⟩,oA 2 6 26)]) .ret)
theorem A3M:Try.f74.body.map (BV lends)=some k74:=by kernel_rfl
theorem AGI:Bl Try.f74 1=true:=by kernel_rfl
theorem c74{a l:List D}{r:D×List D}(h:Br Y.env k74 (Fa Ag l.length [ce 2] r) (entry a l))(ha:a.length=1):Y.call 74 a l=some r:=
 Af (Y:=Y) rfl Try.func74 (ha▸AGI) A3M h
theorem VH(AO:Ay)(AX:AP)(AJ:AP){r:AP}(h:MF AO AX AJ=some r):Y.call 74 [cm [b9 123 (AR (fun x=>b9 125 (Az .i64 .i64 x)) AO),b9 3 (AR (bh .i64) AX),b9 3 (AR (bh .i64) AJ)]] []=some (cb 3 (AR (bh .i64) r),[]):=by
 refine c74 ?_ rfl;unfold k74;unfold MF at h;obtain⟨r5_,hl1,h⟩:=BD h;try dsimp only at h
 have c1:=SN AO AX AJ hl1;obtain⟨r6_,hl2,h⟩:=BD h;try dsimp only at h
 have c2:=ME AO AX AJ r5_ hl2
 obtain rfl:=Option.some.inj h
 simp (maxDischargeDepth:=9) only [↓AU,AV,Ap,↓reduceIte,bk,bl,bm,bo,bp,br,bt,bw,bx,bO,b0,b3,b4,b5,b6,b7,b8,c1,c2]<;>(repeat' apply A7)<;>first|rfl|exact⟨_,rfl⟩|exact⟨_,_,rfl⟩|simp [AR,AB]
end Go.Proofs.Ytclkfhhdikfcpaa
end
