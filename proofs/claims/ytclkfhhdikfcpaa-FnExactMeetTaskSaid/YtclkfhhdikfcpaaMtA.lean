/- Functions of the program as plain functions, and what they compute. Conditions: those in each lemma. -/
import Derived.Test.YtclkfhhdikfcpaaL6
import Derived.Test.YtclkfhhdikfcpaaNet
open Inhabited renaming default → be
open Dv.D renaming int → bd,sl → b7,bool → ca,own → b9
open Nat renaming reduceEqDiff → bh,reduceLT → bj,reduceLeDiff → bk,reduceAdd → bl,reduceMul → bm,reduceMod → bo,reduceDiv → bp,reducePow → br,reduceSub → bt,reduceBEq → bw
open Int renaming reduceLE → bx,reduceLT → bO,reduceEq → b0,reduceSub → b3,reduceAdd → b4,reduceToNat → b5,reduceNeg → b6
open Go.IntKind renaming i64 → cd
open Sum renaming inr → b8,inl → cc
open Go.ResultVar renaming tmp → cb
open List renaming range → an
noncomputable section
namespace Go.Proofs.Ytclkfhhdikfcpaa
open Go Dv
set_option linter.unusedSimpArgs false
set_option linter.unusedVariables false
set_option maxRecDepth 100000
set_option maxHeartbeats 4000000
def Dy(list:AO)(low:Int)(high:Int)(Br:Int):Option ((Int)⊕(Unit⊕Unit)):= if Br<(list.length:Int)then ck (0≤Br∧Br.toNat<list.length)<| if(JB (list.getD Br.toNat be) low high)=true then if 0<Br then ck (0≤cd.wrap (Br-1)∧(cd.wrap (Br-1)).toNat<list.length)<| if(list.getD Br.toNat be)≤(list.getD ((cd.wrap (Br-1)).toNat) be)then some (b8 (cc ())) else some (cc (cd.wrap (Br+1))) else some (cc (cd.wrap (Br+1))) else some (b8 (cc ())) else some (b8 (b8 ()))
def J2(list:AO)(low:Int)(high:Int)(v:Int):Option (Unit⊕Unit):=Iy (fun v=>Dy list low high v) v
def KZ(list:AO)(low:Int)(high:Int):Option (Bool):=
 (J2 list low high 0).bind fun AX=>
 match AX with
 | .inl q1000_=>
  some false
 | .inr q1000_=>
  some true
def Uj:SC:= .seq (.ops [oB 12 .lss 3 (tK 11) (tK 10) 3 0]) (.seq (.cond (tK 12) .skip (.exit 0)) (.seq (.block 1 (.seq (.ops [oM 13 11 3,oI 14 26 9 11,oL 15 3 14 3,oA 7 13 3,oA 8 15 3]) (.seq (.ops [oM 16 8 3,oM 17 1 3,oM 18 2 3,oC 19 97 [(tK 16),(tK 17),(tK 18)] [3,3,3] 4,oX 20 (.unOp .not 4 (tK 19)) 4,oM 21 20 4,⟨(some 22),(.move (tK 7)),3,(some (some 21,false))⟩,⟨(some 23),(.binOp .gtr 3 (tK 22) (iK 0) 3),4,(some (some 21,false))⟩,⟨(some 24),(.move (tK 23)),4,(some (some 21,false))⟩,⟨(some 25),(.move (tK 0)),26,(some (some 24,true))⟩,⟨(some 26),(.move (tK 7)),3,(some (some 24,true))⟩,⟨(some 27),(.binOp .sub 3 (tK 26) (iK 1) 3),3,(some (some 24,true))⟩,⟨(some 28),(.indexAddr 26 (tK 25) (tK 27)),0,(some (some 24,true))⟩,⟨(some 29),(.load 3 (tK 28)),3,(some (some 24,true))⟩,⟨(some 30),(.move (tK 8)),3,(some (some 24,true))⟩,⟨(some 31),(.binOp .geq 3 (tK 29) (tK 30) 3),4,(some (some 24,true))⟩,⟨(some 32),(.pick (tK 24) (tK 31) PO),4,(some (some 21,false))⟩,oX 33 (.pick (tK 21) Eh (tK 32)) 4]) (.cond (tK 33) (.seq (.ops [oX 6 CF 4]) .ret) .skip)))) (.ops [oB 34 .add 3 (tK 11) (iK 1) 3 3,oM 11 34 3])))
def iA:SC:= .loop Uj
def A2w:SC:= .seq (.ops [oX 6 CF 4]) (.seq (.seq (.ops [oM 9 0 26,oN 10 9 26,oX 11 (.move (iK 0)) 3]) (.block 0 iA)) (.seq (.ops [oX 6 (.assign Eh) 4]) .ret))
theorem u7:Try.f153.body.map (Bc lends)=some A2w:=by kernel_rfl
theorem A9x:Bn Try.f153 3=true:=by kernel_rfl
theorem AFK{a l:List D}{r:D×List D}(h:Bq Y.env A2w (F9 Ab l.length [cb 6] r) (entry a l))(ha:a.length=3):Y.call 153 a l=some r:=
 Aa (Y:=Y) rfl Try.func153 (ha▸A9x) u7 h
def CP(list:AO)(low:Int)(high:Int)(Br:Int)(s:St):Prop:=s.v 0=b7 3 (AR (bd .i64) list)∧s.v 1=bd .i64 low∧s.v 2=bd .i64 high∧s.v 9=b7 3 (AR (bd .i64) list)∧s.v 10=bd .i64 (list.length:Int)∧s.v 11=bd .i64 Br
def CQ(list:AO)(low:Int)(high:Int)(r:Unit⊕Unit)(ex:Ex)(s:St):Prop:=match r with
 | .inl q=>ex= .ret∧s.v 6=ca false
 | .inr q=>ex= .exit 0
theorem PQ(list:AO)(low:Int)(high:Int){v:Int}{s:St}{r:Unit⊕Unit}(h:J2 list low high v=some r)(hM:CP list low high v s):Bq Y.env iA (CQ list low high r) s:=by
 unfold J2 at h;refine BV (c:=Uj) (fun v=>Dy list low high v) (fun v s=>CP list low high v s) (CQ list low high) ?_ h hM;clear h hM s v r;intro Br s o hM h;unfold Dy at h;unfold CP at hM;obtain⟨m0,m1,m2,m3,m4,m5⟩:=hM;unfold Uj;by_cases e1:Br<(list.length:Int)
 ·rw [if_pos e1]at h;obtain⟨e2,h⟩:=BS h;have c3:=J5 (list.getD Br.toNat be) low high;by_cases e4:(JB (list.getD Br.toNat be) low high)=true
  ·rw [if_pos e4]at h;by_cases e5:0<Br
   ·rw [if_pos e5]at h;obtain⟨e6,h⟩:=BS h;by_cases e7:(list.getD Br.toNat be)≤(list.getD ((cd.wrap (Br-1)).toNat) be)
    ·rw [if_pos e7]at h
     obtain rfl:=Option.some.inj h
     simp (maxDischargeDepth:=9) only [↓AP,AQ,Ae,↓reduceIte,bh,bj,bk,bl,bm,bo,bp,br,bt,bw,bx,bO,b0,b3,b4,b5,b6,m0,m1,m2,m3,m4,m5,e1,e2.1,e2.2,c3,e4,e5,e6.1,e6.2,e7,CP,CQ,CU,CV,CW]<;>(repeat' apply A7)<;>first|rfl|exact⟨_,rfl⟩|exact⟨_,_,rfl⟩|simp [AR,A9]
    ·rw [if_neg e7]at h
     obtain rfl:=Option.some.inj h
     simp (maxDischargeDepth:=9) only [↓AP,AQ,Ae,↓reduceIte,bh,bj,bk,bl,bm,bo,bp,br,bt,bw,bx,bO,b0,b3,b4,b5,b6,m0,m1,m2,m3,m4,m5,e1,e2.1,e2.2,c3,e4,e5,e6.1,e6.2,e7,CP,CQ,CU,CV,CW]<;>(repeat' apply A7)<;>first|rfl|exact⟨_,rfl⟩|exact⟨_,_,rfl⟩|simp [AR,A9]
   ·rw [if_neg e5]at h
    obtain rfl:=Option.some.inj h
    simp (maxDischargeDepth:=9) only [↓AP,AQ,Ae,↓reduceIte,bh,bj,bk,bl,bm,bo,bp,br,bt,bw,bx,bO,b0,b3,b4,b5,b6,m0,m1,m2,m3,m4,m5,e1,e2.1,e2.2,c3,e4,e5,CP,CQ,CU,CV,CW]<;>(repeat' apply A7)<;>first|rfl|exact⟨_,rfl⟩|exact⟨_,_,rfl⟩|simp [AR,A9]
  ·rw [if_neg e4]at h;have e4f:(JB (list.getD Br.toNat be) low high)=false:=JA.mpr e4
   obtain rfl:=Option.some.inj h
   simp (maxDischargeDepth:=9) only [↓AP,AQ,Ae,↓reduceIte,bh,bj,bk,bl,bm,bo,bp,br,bt,bw,bx,bO,b0,b3,b4,b5,b6,m0,m1,m2,m3,m4,m5,e1,e2.1,e2.2,c3,e4f,CP,CQ,CU,CV,CW]<;>(repeat' apply A7)<;>first|rfl|exact⟨_,rfl⟩|exact⟨_,_,rfl⟩|simp [AR,A9]
 ·rw [if_neg e1]at h
  obtain rfl:=Option.some.inj h
  simp (maxDischargeDepth:=9) only [↓AP,AQ,Ae,↓reduceIte,bh,bj,bk,bl,bm,bo,bp,br,bt,bw,bx,bO,b0,b3,b4,b5,b6,m0,m1,m2,m3,m4,m5,e1,CP,CQ,CU,CV,CW]<;>(repeat' apply A7)<;>first|rfl|exact⟨_,rfl⟩|exact⟨_,_,rfl⟩|simp [AR,A9]
theorem QI(list:AO)(low:Int)(high:Int){r:Bool}(h:KZ list low high=some r):Y.call 153 [b7 3 (AR (bd .i64) list),bd .i64 low,bd .i64 high] []=some (ca r,[]):=by
 refine AFK ?_ rfl;unfold A2w;unfold KZ at h;obtain⟨AX,hl2,h⟩:=Av h;try dsimp only at h
 simp (maxDischargeDepth:=9) only [↓AP,AQ,Ae,↓reduceIte,bh,bj,bk,bl,bm,bo,bp,br,bt,bw,bx,bO,b0,b3,b4,b5,b6];refine BB (PQ list low high hl2 ?_) ?_
 ·simp (maxDischargeDepth:=9) only [↓AP,AQ,Ae,↓reduceIte,bh,bj,bk,bl,bm,bo,bp,br,bt,bw,bx,bO,b0,b3,b4,b5,b6,CP]<;>(repeat' apply A7)<;>first|rfl|exact⟨_,rfl⟩|exact⟨_,_,rfl⟩|simp [AR,A9]
 ·intro ex2 s2 hX2;rcases AX with q1000_|q1000_
  ·unfold CQ at hX2;dsimp only at hX2 h;obtain⟨rfl,n2_0⟩:=hX2
   obtain rfl:=Option.some.inj h
   simp (maxDischargeDepth:=9) only [↓AP,AQ,Ae,↓reduceIte,bh,bj,bk,bl,bm,bo,bp,br,bt,bw,bx,bO,b0,b3,b4,b5,b6,n2_0]<;>(repeat' apply A7)<;>first|rfl|exact⟨_,rfl⟩|exact⟨_,_,rfl⟩|simp [AR,A9]
  ·unfold CQ at hX2;dsimp only at hX2 h
   obtain rfl:=hX2
   obtain rfl:=Option.some.inj h
   simp (maxDischargeDepth:=9) only [↓AP,AQ,Ae,↓reduceIte,bh,bj,bk,bl,bm,bo,bp,br,bt,bw,bx,bO,b0,b3,b4,b5,b6]<;>(repeat' apply A7)<;>first|rfl|exact⟨_,rfl⟩|exact⟨_,_,rfl⟩|simp [AR,A9]
def Uk(l:AO)(lo hi:Int):Bool:=(an l.length).all fun i=>JB (l.getD i be) lo hi&&(decide (i=0)||decide (l.getD (i-1) be<l.getD i be))
theorem SH(l:AO)(lo hi:Int)(h:l.length<1099511627776):KZ l lo hi=some (Uk l lo hi):=by
 have key:=Iz (fun v=>Dy l lo hi v) (fun i=>(i:Int)) l.length (fun i=>JB (l.getD i be) lo hi&&(decide (i=0)||decide (l.getD (i-1) be<l.getD i be))) (.inl ()) (.inr ()) ?_ ?_
 ·rw [Lu]at key;unfold KZ J2 Uk;rw [key]
  cases (an l.length).all fun i=>JB (l.getD i be) lo hi&&(decide (i=0)||decide (l.getD (i-1) be<l.getD i be))<;>rfl
 ·intro i hi';simp only [Dy,JX];rw [if_pos (Be hi'),Bb (by omega),KO i (by omega)]
  cases hr:JB (l.getD i be) lo hi with
  |false=>simp
  |true=>
   by_cases h0:i=0
   ·subst h0;rw [if_pos rfl,if_neg (by omega)]
    simp
   ·rw [if_pos rfl,if_pos (by omega),KI _ (by omega),Bb (by omega),show((i:Int)-1).toNat=i-1 by omega,decide_eq_false h0]
    by_cases hlt:l.getD (i-1) be<l.getD i be
    ·rw [if_neg (by omega),decide_eq_true hlt];rfl
    ·rw [if_pos (by omega),decide_eq_false hlt];rfl
 ·simp only [Dy];rw [if_neg (Am _)]
theorem SI(list:AO)(low:Int)(high:Int)(h0:list.length<1099511627776):Y.call 153 [b7 3 (AR (bd .i64) list),bd .i64 low,bd .i64 high] []=some (ca (Uk list low high),[]):=QI list low high (SH list low high h0)
theorem fB{l:AO}{lo hi:Int}(h:Uk l lo hi=true):l.Pairwise (fun a b=>a<b)∧ ∀x∈l,JB x lo hi=true:=by
 have h0:=Gf.1 h
 have step: ∀i,i+1<l.length→l.getD i be<l.getD (i+1) be:=fun i hi=>by
  have:=h0 (i+1) hi
  rw [FV]at this;simpa using this.2
 have gI: ∀(d i:Nat),i+d+1<l.length→l.getD i be<l.getD (i+d+1) be:=by
  intro d
  induction d with
  |zero=>intro i hi;exact step i hi
  |succ d ih=>
   intro i hi;have h1:=ih i (by omega)
   have h2:=step (i+d+1) (by omega)
   rw [show i+(d+1)+1=i+d+1+1 by omega]
   omega
 refine⟨Yw.2 fun i j hi hj hij=> ?_,fun x hx=> ?_⟩
 ·have:=gI (j-i-1) i (by omega)
  rw [show i+(j-i-1)+1=j by omega,BA _ _ hi,BA _ _ hj]at this
  exact this
 ·obtain⟨i,hi,rfl⟩:=bJ hx;have:=h0 i hi
  rw [FV,BA _ _ hi]at this;exact this.1
theorem pG{l:AO}{lo hi:Int}(h1:l.Pairwise (fun a b=>a<b))(h2: ∀x∈l,JB x lo hi=true):Uk l lo hi=true:=by
 refine Gf.2 fun i hi=> ?_;rw [FV]
 refine⟨by rw [BA _ _ hi];exact h2 _ (Jc hi), ?_⟩
 by_cases h0:i=0
 ·rw [decide_eq_true h0];rfl
 ·have:=Yw.1 h1 (i-1) i (by omega) hi (by omega)
  rw [NW]
  right
  rw [decide_eq_true_eq,BA _ _ hi,BA _ _ (by omega:i-1<l.length)]
  exact this
def PR(ids:AO)(n:Int):Bool:=decide (ids.length=0)||(decide ((ids.length:Int)=n)&&(decide ids.Nodup&&EF ids 1 999999))
theorem fC(ids:AO)(lo hi:Int):Uk (J6 ids) lo hi=(decide ids.Nodup&&EF ids lo hi):=by
 rw [Qb,FV,decide_eq_true_eq];have hp:=Ji ids;unfold EF;rw [JC]
 constructor
 ·intro h;obtain⟨h1,h2⟩:=fB h
  refine⟨hp.nodup_iff.1 (h1.imp fun h=>by omega),fun x hx=>h2 x (hp.mem_iff.2 hx)⟩
 ·rintro⟨h1,h2⟩
  refine pG ?_ fun x hx=>h2 x (hp.mem_iff.1 hx);have hn:(J6 ids).Pairwise (fun a b=>a≠b):=hp.nodup_iff.2 h1
  exact((Mo ids).and hn).imp fun h=>by omega
theorem I6(xs:AO)(h:xs.length<1099511627776):Y.call 121 [.sl 3 (AR (bd .i64) xs)] []=some (.own 3 (AR (bd .i64) xs),[]):=by
 refine kX (AR (bd .i64) xs) (by rw [Jh];exact h) (X7 _ _ (fun x=>rfl)) (PK _ _ (fun x=>by first|exact hoI .. |exact A5M .. |exact hoB .. |exact hoS ..)) ?_
 simp (maxDischargeDepth:=9) only [↓AP,AQ,Ae,↓reduceIte,bh,bj,bk,bl,bm,bo,bp,br,bt,bw,bx,bO,b0,b3,b4,b5,b6,Option.isSome_some]
def Sr(ids:AO)(nodes:Int):Option (Bool):= if(ids.length:Int)=0 then some true else ck (ids.length<1099511627776)<| ck (ids.length<4611686018427387904)<| if(ids.length:Int)=nodes then ck ((Ct ids).length<1099511627776)<| some (Uk (Ct ids) (1:Int) (999999:Int)) else some false
def A2x:SC:= .seq (.ops [oX 4 CF 4]) (.seq (.seq (.ops [oM 6 0 26,oN 7 6 26,oB 8 .eql 3 (tK 7) (iK 0) 3 4]) (.cond (tK 8) (.seq (.ops [oX 4 (.assign Eh) 4]) .ret) .skip)) (.seq (.ops [oM 9 0 26,oC 10 121 [(tK 9)] [26] 26,oA 5 10 26]) (.seq (.ops [oM 11 5 26,oC 12 152 [(tK 11)] [26] 0]) (.seq (.ops [oM 13 0 26,oN 14 13 26,oM 15 1 3,oB 16 .eql 3 (tK 14) (tK 15) 3 4,oM 17 16 4,⟨(some 18),(.move (tK 5)),26,(some (some 17,true))⟩,⟨(some 19),(.call ⟨(.value (.func 153)), #[(tK 18),(iK 1),(iK 999999)], #[26,3,3]⟩),4,(some (some 17,true))⟩,oX 20 (.pick (tK 17) (tK 19) PO) 4,oA 4 20 4]) .ret))))
theorem uA:Try.f112.body.map (Bc lends)=some A2x:=by kernel_rfl
theorem A9y:Bn Try.f112 2=true:=by kernel_rfl
theorem AFL{a l:List D}{r:D×List D}(h:Bq Y.env A2x (F9 Ab l.length [cb 4] r) (entry a l))(ha:a.length=2):Y.call 112 a l=some r:=
 Aa (Y:=Y) rfl Try.func112 (ha▸A9y) uA h
theorem YP(ids:AO)(nodes:Int){r:Bool}(h:Sr ids nodes=some r):Y.call 112 [b7 3 (AR (bd .i64) ids),bd .i64 nodes] []=some (ca r,[]):=by
 refine AFL ?_ rfl;unfold A2x;unfold Sr at h;by_cases e1:(ids.length:Int)=0
 ·rw [if_pos e1]at h
  obtain rfl:=Option.some.inj h
  simp (maxDischargeDepth:=9) only [↓AP,AQ,Ae,↓reduceIte,bh,bj,bk,bl,bm,bo,bp,br,bt,bw,bx,bO,b0,b3,b4,b5,b6,decide_eq_true e1]<;>(repeat' apply A7)<;>first|rfl|exact⟨_,rfl⟩|exact⟨_,_,rfl⟩|simp [AR,A9]
 ·rw [if_neg e1]at h;obtain⟨e2,h⟩:=BS h;have c3:=I6 ids e2;obtain⟨e4,h⟩:=BS h;have c5:=oW ids e4;by_cases e6:(ids.length:Int)=nodes
  ·rw [if_pos e6]at h;obtain⟨e7,h⟩:=BS h;have c8:=SI (Ct ids) (1:Int) (999999:Int) e7
   obtain rfl:=Option.some.inj h
   simp (maxDischargeDepth:=9) only [↓AP,AQ,Ae,↓reduceIte,bh,bj,bk,bl,bm,bo,bp,br,bt,bw,bx,bO,b0,b3,b4,b5,b6,e1,e2,c3,e4,c5,decide_eq_true e6,e7,c8]<;>(repeat' apply A7)<;>first|rfl|exact⟨_,rfl⟩|exact⟨_,_,rfl⟩|simp [AR,A9]
  ·rw [if_neg e6]at h
   obtain rfl:=Option.some.inj h
   simp (maxDischargeDepth:=9) only [↓AP,AQ,Ae,↓reduceIte,bh,bj,bk,bl,bm,bo,bp,br,bt,bw,bx,bO,b0,b3,b4,b5,b6,e1,e2,c3,e4,c5,e6]<;>(repeat' apply A7)<;>first|rfl|exact⟨_,rfl⟩|exact⟨_,_,rfl⟩|simp [AR,A9]
def IV(ids:AO)(nodes:Int)(Hq:Int):Option ((Int)⊕(Unit⊕Unit)):= if Hq<(ids.length:Int)then ck (0≤Hq∧Hq.toNat<ids.length)<| if(JB (ids.getD Hq.toNat be) (1:Int) (999999:Int))=true then ck (0≤Hq)<| ck (Hq.toNat≤ids.length)<| ck (((ids.take Hq.toNat).drop 0).length<1099511627776)<| if(((ids.take Hq.toNat).drop 0).contains (ids.getD Hq.toNat be))=true then some (b8 (cc ())) else some (cc (cd.wrap (Hq+1))) else some (b8 (cc ())) else some (b8 (b8 ()))
def Ms(ids:AO)(nodes:Int)(v:Int):Option (Unit⊕Unit):=Iy (fun v=>IV ids nodes v) v
def Su(ids:AO)(nodes:Int):Option (Bool):=
 (Ms ids nodes 0).bind fun AX=>
 match AX with
 | .inl q1000_=>
  some false
 | .inr q1000_=>
  if(ids.length:Int)=0 then
   some true
  else
   some (decide ((ids.length:Int)=nodes))
def Ul:SC:= .seq (.ops [oB 10 .lss 3 (tK 9) (tK 8) 3 0]) (.seq (.cond (tK 10) .skip (.exit 0)) (.seq (.block 1 (.seq (.ops [oM 11 9 3,oI 12 26 7 9,oL 13 3 12 3,oA 5 11 3,oA 6 13 3]) (.seq (.ops [oM 14 6 3,oC 15 92 [(tK 14),(iK 1),(iK 999999)] [3,3,3] 4,oX 16 (.unOp .not 4 (tK 15)) 4,oM 17 16 4,⟨(some 18),(.move (tK 0)),26,(some (some 17,false))⟩,⟨(some 19),(.move (tK 5)),3,(some (some 17,false))⟩,⟨(some 20),(.slice 26 (tK 18) none (some (tK 19)) none),900001,(some (some 17,false))⟩,⟨(some 21),(.move (tK 6)),3,(some (some 17,false))⟩,⟨(some 22),(.call ⟨(.value (.func 89)), #[(tK 20),(tK 21)], #[26,3]⟩),4,(some (some 17,false))⟩,oX 23 (.pick (tK 17) Eh (tK 22)) 4]) (.cond (tK 23) (.seq (.ops [oX 4 CF 4]) .ret) .skip)))) (.ops [oB 24 .add 3 (tK 9) (iK 1) 3 3,oM 9 24 3])))
def iB:SC:= .loop Ul
def A2y:SC:= .seq (.ops [oX 4 CF 4]) (.seq (.seq (.ops [oM 7 0 26,oN 8 7 26,oX 9 (.move (iK 0)) 3]) (.block 0 iB)) (.seq (.ops [oM 25 0 26,oN 26 25 26,oB 27 .eql 3 (tK 26) (iK 0) 3 4,oM 28 27 4,⟨(some 29),(.move (tK 0)),26,(some (some 28,false))⟩,⟨(some 30),(.call ⟨(.builtin .len), #[(tK 29)], #[26]⟩),3,(some (some 28,false))⟩,⟨(some 31),(.move (tK 1)),3,(some (some 28,false))⟩,⟨(some 32),(.binOp .eql 3 (tK 30) (tK 31) 3),4,(some (some 28,false))⟩,oX 33 (.pick (tK 28) Eh (tK 32)) 4,oA 4 33 4]) .ret))
theorem uB:Try.f106.body.map (Bc lends)=some A2y:=by kernel_rfl
theorem A9z:Bn Try.f106 2=true:=by kernel_rfl
theorem AFM{a l:List D}{r:D×List D}(h:Bq Y.env A2y (F9 Ab l.length [cb 4] r) (entry a l))(ha:a.length=2):Y.call 106 a l=some r:=
 Aa (Y:=Y) rfl Try.func106 (ha▸A9z) uB h
def Ez(ids:AO)(nodes:Int)(Hq:Int)(s:St):Prop:=s.v 0=b7 3 (AR (bd .i64) ids)∧s.v 1=bd .i64 nodes∧s.v 7=b7 3 (AR (bd .i64) ids)∧s.v 8=bd .i64 (ids.length:Int)∧s.v 9=bd .i64 Hq
def F3(ids:AO)(nodes:Int)(r:Unit⊕Unit)(ex:Ex)(s:St):Prop:=match r with
 | .inl q=>ex= .ret∧s.v 4=ca false
 | .inr q=>ex= .exit 0∧s.v 0=b7 3 (AR (bd .i64) ids)∧s.v 1=bd .i64 nodes
theorem WL(ids:AO)(nodes:Int){v:Int}{s:St}{r:Unit⊕Unit}(h:Ms ids nodes v=some r)(hM:Ez ids nodes v s):Bq Y.env iB (F3 ids nodes r) s:=by
 unfold Ms at h;refine BV (c:=Ul) (fun v=>IV ids nodes v) (fun v s=>Ez ids nodes v s) (F3 ids nodes) ?_ h hM;clear h hM s v r;intro Hq s o hM h;unfold IV at h;unfold Ez at hM;obtain⟨m0,m1,m2,m3,m4⟩:=hM;unfold Ul;by_cases e1:Hq<(ids.length:Int)
 ·rw [if_pos e1]at h;obtain⟨e2,h⟩:=BS h;have c3:=Kl (ids.getD Hq.toNat be) (1:Int) (999999:Int);by_cases e4:(JB (ids.getD Hq.toNat be) (1:Int) (999999:Int))=true
  ·rw [if_pos e4]at h;obtain⟨e5,h⟩:=BS h;obtain⟨e6,h⟩:=BS h;obtain⟨e7,h⟩:=BS h;have c8:=Mr ((ids.take Hq.toNat).drop 0) (ids.getD Hq.toNat be) e7;by_cases e9:(((ids.take Hq.toNat).drop 0).contains (ids.getD Hq.toNat be))=true
   ·rw [if_pos e9]at h
    obtain rfl:=Option.some.inj h
    simp (maxDischargeDepth:=9) only [↓AP,AQ,Ae,↓reduceIte,bh,bj,bk,bl,bm,bo,bp,br,bt,bw,bx,bO,b0,b3,b4,b5,b6,m0,m1,m2,m3,m4,e1,e2.1,e2.2,c3,e4,e5,e6,e7,c8,e9,Ez,F3,CU,CV,CW]<;>(repeat' apply A7)<;>first|rfl|exact⟨_,rfl⟩|exact⟨_,_,rfl⟩|simp [AR,A9]
   ·rw [if_neg e9]at h;have e9f:(((ids.take Hq.toNat).drop 0).contains (ids.getD Hq.toNat be))=false:=JA.mpr e9
    obtain rfl:=Option.some.inj h
    simp (maxDischargeDepth:=9) only [↓AP,AQ,Ae,↓reduceIte,bh,bj,bk,bl,bm,bo,bp,br,bt,bw,bx,bO,b0,b3,b4,b5,b6,m0,m1,m2,m3,m4,e1,e2.1,e2.2,c3,e4,e5,e6,e7,c8,e9f,Ez,F3,CU,CV,CW]<;>(repeat' apply A7)<;>first|rfl|exact⟨_,rfl⟩|exact⟨_,_,rfl⟩|simp [AR,A9]
  ·rw [if_neg e4]at h;have e4f:(JB (ids.getD Hq.toNat be) (1:Int) (999999:Int))=false:=JA.mpr e4
   obtain rfl:=Option.some.inj h
   simp (maxDischargeDepth:=9) only [↓AP,AQ,Ae,↓reduceIte,bh,bj,bk,bl,bm,bo,bp,br,bt,bw,bx,bO,b0,b3,b4,b5,b6,m0,m1,m2,m3,m4,e1,e2.1,e2.2,c3,e4f,Ez,F3,CU,CV,CW]<;>(repeat' apply A7)<;>first|rfl|exact⟨_,rfl⟩|exact⟨_,_,rfl⟩|simp [AR,A9]
 ·rw [if_neg e1]at h
  obtain rfl:=Option.some.inj h
  simp (maxDischargeDepth:=9) only [↓AP,AQ,Ae,↓reduceIte,bh,bj,bk,bl,bm,bo,bp,br,bt,bw,bx,bO,b0,b3,b4,b5,b6,m0,m1,m2,m3,m4,e1,Ez,F3,CU,CV,CW]<;>(repeat' apply A7)<;>first|rfl|exact⟨_,rfl⟩|exact⟨_,_,rfl⟩|simp [AR,A9]
theorem YQ(ids:AO)(nodes:Int){r:Bool}(h:Su ids nodes=some r):Y.call 106 [b7 3 (AR (bd .i64) ids),bd .i64 nodes] []=some (ca r,[]):=by
 refine AFM ?_ rfl;unfold A2y;unfold Su at h;obtain⟨AX,hl2,h⟩:=Av h;try dsimp only at h
 simp (maxDischargeDepth:=9) only [↓AP,AQ,Ae,↓reduceIte,bh,bj,bk,bl,bm,bo,bp,br,bt,bw,bx,bO,b0,b3,b4,b5,b6];refine BB (WL ids nodes hl2 ?_) ?_
 ·simp (maxDischargeDepth:=9) only [↓AP,AQ,Ae,↓reduceIte,bh,bj,bk,bl,bm,bo,bp,br,bt,bw,bx,bO,b0,b3,b4,b5,b6,Ez]<;>(repeat' apply A7)<;>first|rfl|exact⟨_,rfl⟩|exact⟨_,_,rfl⟩|simp [AR,A9]
 ·intro ex2 s2 hX2;rcases AX with q1000_|q1000_
  ·unfold F3 at hX2;dsimp only at hX2 h;obtain⟨rfl,n2_0⟩:=hX2
   obtain rfl:=Option.some.inj h
   simp (maxDischargeDepth:=9) only [↓AP,AQ,Ae,↓reduceIte,bh,bj,bk,bl,bm,bo,bp,br,bt,bw,bx,bO,b0,b3,b4,b5,b6,n2_0]<;>(repeat' apply A7)<;>first|rfl|exact⟨_,rfl⟩|exact⟨_,_,rfl⟩|simp [AR,A9]
  ·unfold F3 at hX2;dsimp only at hX2 h;obtain⟨rfl,n2_0,n2_1⟩:=hX2;by_cases e3:(ids.length:Int)=0
   ·rw [if_pos e3]at h
    obtain rfl:=Option.some.inj h
    simp (maxDischargeDepth:=9) only [↓AP,AQ,Ae,↓reduceIte,bh,bj,bk,bl,bm,bo,bp,br,bt,bw,bx,bO,b0,b3,b4,b5,b6,n2_0,n2_1,decide_eq_true e3]<;>(repeat' apply A7)<;>first|rfl|exact⟨_,rfl⟩|exact⟨_,_,rfl⟩|simp [AR,A9]
   ·rw [if_neg e3]at h
    obtain rfl:=Option.some.inj h
    simp (maxDischargeDepth:=9) only [↓AP,AQ,Ae,↓reduceIte,bh,bj,bk,bl,bm,bo,bp,br,bt,bw,bx,bO,b0,b3,b4,b5,b6,n2_0,n2_1,e3]<;>(repeat' apply A7)<;>first|rfl|exact⟨_,rfl⟩|exact⟨_,_,rfl⟩|simp [AR,A9]
theorem fD(ids:AO)(n:Int)(h:ids.length<1099511627776):Sr ids n=some (PR ids n):=by
 unfold Sr PR;by_cases h0:ids.length=0
 ·rw [if_pos (by omega),decide_eq_true h0];rfl
 ·rw [if_neg (by omega),Bb h,Bb (by omega),decide_eq_false h0,TE]
  by_cases h1:(ids.length:Int)=n
  ·rw [if_pos h1,UW,Bb (by rw [XE];exact h),fC,decide_eq_true h1];rfl
  ·rw [if_neg h1,decide_eq_false h1];rfl
theorem kg(ids:AO):(an ids.length).all (fun i=>JB (ids.getD i be) 1 999999&& !(ids.take i).contains (ids.getD i be))=(decide ids.Nodup&&EF ids 1 999999):=by
 rw [Qb,Gf,FV,decide_eq_true_eq];unfold EF;rw [JC]
 constructor
 ·intro h
  refine⟨Yw.2 fun i j hi hj hij he=> ?_,fun x hx=> ?_⟩
  ·have:=h j hj
   rw [FV,Lh,←Bool.not_eq_true,XI,BA _ _ hj]at this;refine this.2 ?_;rw [←he];exact List.mem_take_iff_getElem.2 ⟨i,by omega,rfl⟩
  ·obtain⟨i,hi,rfl⟩:=bJ hx;have:=h i hi
   rw [FV,BA _ _ hi]at this;exact this.1
 ·rintro⟨h1,h2⟩ i hi
  rw [FV,Lh,←Bool.not_eq_true,XI,BA _ _ hi]
  refine⟨h2 _ (Jc hi),fun hm=> ?_⟩
  obtain⟨j,hj,he⟩:=List.mem_take_iff_getElem.1 hm;exact Yw.1 h1 j i (by omega) hi (by omega) he
theorem fF(ids:AO)(n:Int)(h:ids.length<1099511627776):Su ids n=some (PR ids n):=by
 have key:=Iz (fun v=>IV ids n v) (fun i=>(i:Int)) ids.length (fun i=>JB (ids.getD i be) 1 999999&& !(ids.take i).contains (ids.getD i be)) (.inl ()) (.inr ()) ?_ ?_
 ·rw [Lu,kg]at key;unfold Su Ms PR;rw [key,Cq];by_cases h0:ids.length=0
  ·have:ids=[]:=bE h0
   subst this;simp [EF]
  ·rw [decide_eq_false h0,TE]
   cases decide ids.Nodup&&EF ids 1 999999 with
   |false=>rw [Bool.and_false];rfl
   |true=>rw [Vg,if_pos rfl];simp only;rw [if_neg (by omega)]
 ·intro i hi;simp only [IV,JX,List.drop_zero];rw [if_pos (Be hi),Bb (by omega),Bb (by omega),Bb (by omega),Bb (by rw [Lt];omega),KO i (by omega)]
  cases JB (ids.getD i be) 1 999999<;>cases (ids.take i).contains (ids.getD i be)<;>rfl
 ·simp only [IV];rw [if_neg (Am _)]
theorem fG(ids:AO)(nodes:Int)(h0:ids.length<1099511627776):Y.call 112 [b7 3 (AR (bd .i64) ids),bd .i64 nodes] []=some (ca (PR ids nodes),[]):=YP ids nodes (fD ids nodes h0)
theorem fH(ids:AO)(nodes:Int)(h0:ids.length<1099511627776):Y.call 106 [b7 3 (AR (bd .i64) ids),bd .i64 nodes] []=some (ca (PR ids nodes),[]):=YQ ids nodes (fF ids nodes h0)
def Mt(inputs:AO)(nodes:Int):Option (Bool):= if(inputs.length:Int)=nodes then ck (inputs.length<1099511627776)<| some (EF inputs (0:Int) (9:Int)) else some false
def A2z:SC:= .seq (.ops [oX 4 CF 4]) (.seq (.ops [oM 5 0 26,oN 6 5 26,oM 7 1 3,oB 8 .eql 3 (tK 6) (tK 7) 3 4,oM 9 8 4,⟨(some 10),(.move (tK 0)),26,(some (some 9,true))⟩,⟨(some 11),(.call ⟨(.value (.func 144)), #[(tK 10),(iK 0),(iK 9)], #[26,3,3]⟩),4,(some (some 9,true))⟩,oX 12 (.pick (tK 9) (tK 11) PO) 4,oA 4 12 4]) .ret)
theorem uC:Try.f113.body.map (Bc lends)=some A2z:=by kernel_rfl
theorem AA0:Bn Try.f113 2=true:=by kernel_rfl
theorem AFN{a l:List D}{r:D×List D}(h:Bq Y.env A2z (F9 Ab l.length [cb 4] r) (entry a l))(ha:a.length=2):Y.call 113 a l=some r:=
 Aa (Y:=Y) rfl Try.func113 (ha▸AA0) uC h
theorem SK(inputs:AO)(nodes:Int){r:Bool}(h:Mt inputs nodes=some r):Y.call 113 [b7 3 (AR (bd .i64) inputs),bd .i64 nodes] []=some (ca r,[]):=by
 refine AFN ?_ rfl;unfold A2z;unfold Mt at h;by_cases e1:(inputs.length:Int)=nodes
 ·rw [if_pos e1]at h;obtain⟨e2,h⟩:=BS h;have c3:=UV inputs (0:Int) (9:Int) e2
  obtain rfl:=Option.some.inj h
  simp (maxDischargeDepth:=9) only [↓AP,AQ,Ae,↓reduceIte,bh,bj,bk,bl,bm,bo,bp,br,bt,bw,bx,bO,b0,b3,b4,b5,b6,decide_eq_true e1,e2,c3]<;>(repeat' apply A7)<;>first|rfl|exact⟨_,rfl⟩|exact⟨_,_,rfl⟩|simp [AR,A9]
 ·rw [if_neg e1]at h
  obtain rfl:=Option.some.inj h
  simp (maxDischargeDepth:=9) only [↓AP,AQ,Ae,↓reduceIte,bh,bj,bk,bl,bm,bo,bp,br,bt,bw,bx,bO,b0,b3,b4,b5,b6,e1]<;>(repeat' apply A7)<;>first|rfl|exact⟨_,rfl⟩|exact⟨_,_,rfl⟩|simp [AR,A9]
def He(AC:Aq)(AY:AO)(AB:AO)(v_:Int):Option (Bool):= some (JB v_ (0:Int) (cd.wrap ((AC.length:Int)-1)))
def A30:SC:= .seq (.ops [oX 2 (.box 47 (tK 0)) 0,oX 4 CF 4]) (.seq (.ops [oM 5 1 3,oF 6 47 2 0,oL 7 45 6 45,oN 8 7 45,oB 9 .sub 3 (tK 8) (iK 1) 3 3,oC 10 97 [(tK 5),(iK 0),(tK 9)] [3,3,3] 4,oA 4 10 4]) .ret)
theorem uD:Try.f130.body.map (Bc lends)=some A30:=by kernel_rfl
theorem AA1:Bn Try.f130 2=true:=by kernel_rfl
theorem AFO{a l:List D}{r:D×List D}(h:Bq Y.env A30 (F9 Ab l.length [cb 4] r) (entry a l))(ha:a.length=2):Y.call 130 a l=some r:=
 Aa (Y:=Y) rfl Try.func130 (ha▸AA1) uD h
theorem Mv(AC:Aq)(AY:AO)(AB:AO)(v_:Int){r:Bool}(h:He AC AY AB v_=some r):Y.call 130 [D.agg [b7 123 (AR (fun x=>b7 125 (Ay .i64 .i64 x)) AC),b7 3 (AR (bd .i64) AY),b7 3 (AR (bd .i64) AB)],bd .i64 v_] []=some (ca r,[]):=by
 refine AFO ?_ rfl;unfold A30;unfold He at h;have c1:=J5 v_ (0:Int) (cd.wrap ((AC.length:Int)-1))
 obtain rfl:=Option.some.inj h
 simp (maxDischargeDepth:=9) only [↓AP,AQ,Ae,↓reduceIte,bh,bj,bk,bl,bm,bo,bp,br,bt,bw,bx,bO,b0,b3,b4,b5,b6,c1]<;>(repeat' apply A7)<;>first|rfl|exact⟨_,rfl⟩|exact⟨_,_,rfl⟩|simp [AR,A9]
def Hf(AC:Aq)(AY:AO)(AB:AO)(v_:Int)(i:Int):Option (Bool):= (He AC AY AB v_).bind fun r9_=> if r9_=true then ck (0≤v_∧v_.toNat<AC.length)<| some (JB i (0:Int) (cd.wrap (((AC.getD v_.toNat be).length:Int)-1))) else some false
def A31:SC:= .seq (.ops [oX 3 (.box 47 (tK 0)) 0,oX 6 CF 4]) (.seq (.ops [oL 7 47 3 47,oM 8 1 3,oC 9 130 [(tK 7),(tK 8)] [47,3] 4,oM 10 9 4,⟨(some 11),(.move (tK 2)),3,(some (some 10,true))⟩,⟨(some 12),(.fieldAddr 47 (tK 3) 0),0,(some (some 10,true))⟩,⟨(some 13),(.load 45 (tK 12)),45,(some (some 10,true))⟩,⟨(some 14),(.move (tK 1)),3,(some (some 10,true))⟩,⟨(some 15),(.indexAddr 45 (tK 13) (tK 14)),0,(some (some 10,true))⟩,⟨(some 16),(.load 123 (tK 15)),123,(some (some 10,true))⟩,⟨(some 17),(.call ⟨(.builtin .len), #[(tK 16)], #[123]⟩),3,(some (some 10,true))⟩,⟨(some 18),(.binOp .sub 3 (tK 17) (iK 1) 3),3,(some (some 10,true))⟩,⟨(some 19),(.call ⟨(.value (.func 97)), #[(tK 11),(iK 0),(tK 18)], #[3,3,3]⟩),4,(some (some 10,true))⟩,oX 20 (.pick (tK 10) (tK 19) PO) 4,oA 6 20 4]) .ret)
theorem uE:Try.f114.body.map (Bc lends)=some A31:=by kernel_rfl
theorem AA2:Bn Try.f114 3=true:=by kernel_rfl
theorem AFP{a l:List D}{r:D×List D}(h:Bq Y.env A31 (F9 Ab l.length [cb 6] r) (entry a l))(ha:a.length=3):Y.call 114 a l=some r:=
 Aa (Y:=Y) rfl Try.func114 (ha▸AA2) uE h
theorem Mw(AC:Aq)(AY:AO)(AB:AO)(v_:Int)(i:Int){r:Bool}(h:Hf AC AY AB v_ i=some r):Y.call 114 [D.agg [b7 123 (AR (fun x=>b7 125 (Ay .i64 .i64 x)) AC),b7 3 (AR (bd .i64) AY),b7 3 (AR (bd .i64) AB)],bd .i64 v_,bd .i64 i] []=some (ca r,[]):=by
 refine AFP ?_ rfl;unfold A31;unfold Hf at h;obtain⟨r9_,hl1,h⟩:=Av h;try dsimp only at h
 have c1:=Mv AC AY AB v_ hl1;by_cases e2:r9_=true
 ·rw [if_pos e2]at h;obtain⟨e3,h⟩:=BS h;have c4:=J5 i (0:Int) (cd.wrap (((AC.getD v_.toNat be).length:Int)-1))
  obtain rfl:=Option.some.inj h
  simp (maxDischargeDepth:=9) only [↓AP,AQ,Ae,↓reduceIte,bh,bj,bk,bl,bm,bo,bp,br,bt,bw,bx,bO,b0,b3,b4,b5,b6,c1,e2,e3.1,e3.2,c4]<;>(repeat' apply A7)<;>first|rfl|exact⟨_,rfl⟩|exact⟨_,_,rfl⟩|simp [AR,A9]
 ·rw [if_neg e2]at h;have e2f:r9_=false:=JA.mpr e2
  obtain rfl:=Option.some.inj h
  simp (maxDischargeDepth:=9) only [↓AP,AQ,Ae,↓reduceIte,bh,bj,bk,bl,bm,bo,bp,br,bt,bw,bx,bO,b0,b3,b4,b5,b6,c1,e2f]<;>(repeat' apply A7)<;>first|rfl|exact⟨_,rfl⟩|exact⟨_,_,rfl⟩|simp [AR,A9]
def EP(A8:Aq)(AL:AO)(AA:AO)(DW:Int)(Ik:Int):Option ((Int)⊕(Unit⊕Unit)):= if Ik<((A8.getD DW.toNat be).length:Int)then ck (0≤Ik∧Ik.toNat<(A8.getD DW.toNat be).length)<| (Hf A8 AL AA (BH (A8.getD DW.toNat be) Ik.toNat) (CK (A8.getD DW.toNat be) Ik.toNat)).bind fun fI=> if fI=true then ck (0≤(BH (A8.getD DW.toNat be) Ik.toNat)∧(BH (A8.getD DW.toNat be) Ik.toNat).toNat<A8.length)<| ck (0≤(CK (A8.getD DW.toNat be) Ik.toNat)∧(CK (A8.getD DW.toNat be) Ik.toNat).toNat<(A8.getD ((BH (A8.getD DW.toNat be) Ik.toNat).toNat) be).length)<| if(((BH (A8.getD ((BH (A8.getD DW.toNat be) Ik.toNat).toNat) be) ((CK (A8.getD DW.toNat be) Ik.toNat).toNat))==DW)&&((CK (A8.getD ((BH (A8.getD DW.toNat be) Ik.toNat).toNat) be) ((CK (A8.getD DW.toNat be) Ik.toNat).toNat))==Ik))=true then some (cc (cd.wrap (Ik+1))) else some (b8 (cc ())) else some (b8 (cc ())) else some (b8 (b8 ()))
def I7(A8:Aq)(AL:AO)(AA:AO)(DW:Int)(v:Int):Option (Unit⊕Unit):=Iy (fun v=>EP A8 AL AA DW v) v
def EQ(A8:Aq)(AL:AO)(AA:AO)(DW:Int):Option ((Int)⊕(Unit⊕Unit)):=
 if DW<(A8.length:Int)then
  ck (0≤DW∧DW.toNat<A8.length)<|
  if 6<((A8.getD DW.toNat be).length:Int)then
   some (b8 (cc ()))
  else
   (I7 A8 AL AA DW 0).bind fun AX=>
   match AX with
   | .inl q1000_=>
    some (b8 (cc ()))
   | .inr q1000_=>
    some (cc (cd.wrap (DW+1)))
 else
  some (b8 (b8 ()))
def I8(A8:Aq)(AL:AO)(AA:AO)(v:Int):Option (Unit⊕Unit):=Iy (fun v=>EQ A8 AL AA v) v
def Lc(A8:Aq)(AL:AO)(AA:AO):Option (Bool):=
 if(JB (A8.length:Int) (1:Int) (40:Int))=true then
  ck (AL.length<1099511627776)<|
  if(PR AL (A8.length:Int))=true then
   (Mt AA (A8.length:Int)).bind fun uF=>
   if uF=true then
    (I8 A8 AL AA 0).bind fun Ce=>
    match Ce with
    | .inl q1001_=>
     some false
    | .inr q1001_=>
     some true
   else
    some false
  else
   some false
 else
  some false
abbrev Um:List Nat:=[48,49,50,51,52,53,54,55,56,57,58,59,60,61,62,63,64,65,66,67,68,66,67,69,70]
def YR:SC:= .seq (.ops [oB 44 .lss 3 (tK 43) (tK 42) 3 0]) (.seq (.cond (tK 44) .skip (.exit 2)) (.seq (.block 3 (.seq (.ops [oM 45 43 3,oI 46 123 41 43,oL 47 125 46 125,oX 6 (.alloc 125) 0,oA 5 45 3,oS 125 6 47]) (.seq (.draws [(⟨[48,1,1],Um,[48]⟩,oL 48 47 1 47),(⟨[49,6,6],Um,[49]⟩,oF 49 125 6 0),(⟨[50,49,6],Um,[50]⟩,oL 50 3 49 3),(⟨[51,6,6],Um,[51]⟩,oF 51 125 6 1),(⟨[52,51,6],Um,[52]⟩,oL 52 3 51 3),(⟨[53,48,50,52,1,6,6],Um,[53]⟩,oC 53 114 [(tK 48),(tK 50),(tK 52)] [47,3,3] 4),(⟨[54,53,53],Um,[54]⟩,oX 54 (.unOp .not 4 (tK 53)) 4),(⟨[55,54,54],Um,[55]⟩,oM 55 54 4),(⟨[56,1,1,55],Um,[56]⟩,⟨(some 56),eT,0,(some (some 55,false))⟩),(⟨[57,56,1,55],Um,[57]⟩,⟨(some 57),(.load 45 (tK 56)),45,(some (some 55,false))⟩),(⟨[58,6,6,55],Um,[58]⟩,⟨(some 58),(.fieldAddr 125 (tK 6) 0),0,(some (some 55,false))⟩),(⟨[59,58,6,55],Um,[59]⟩,⟨(some 59),(.load 3 (tK 58)),3,(some (some 55,false))⟩),(⟨[60,57,59,1,6,55],Um,[60]⟩,⟨(some 60),(.indexAddr 45 (tK 57) (tK 59)),0,(some (some 55,false))⟩),(⟨[61,60,1,55],Um,[61]⟩,⟨(some 61),(.load 123 (tK 60)),123,(some (some 55,false))⟩),(⟨[62,6,6,55],Um,[62]⟩,⟨(some 62),(.fieldAddr 125 (tK 6) 1),0,(some (some 55,false))⟩),(⟨[63,62,6,55],Um,[63]⟩,⟨(some 63),(.load 3 (tK 62)),3,(some (some 55,false))⟩),
 (⟨[64,61,63,1,6,55],Um,[64]⟩,⟨(some 64),(.indexAddr 123 (tK 61) (tK 63)),0,(some (some 55,false))⟩),(⟨[65,64,1,55],Um,[65]⟩,⟨(some 65),(.load 125 (tK 64)),125,(some (some 55,false))⟩),(⟨[66,3,3,55],Um,[66]⟩,⟨(some 66),(.move (tK 3)),3,(some (some 55,false))⟩),(⟨[67,5,5,55],Um,[67]⟩,⟨(some 67),(.move (tK 5)),3,(some (some 55,false))⟩),(⟨[68,66,67,3,5,55],Um,[68,66,67]⟩,⟨(some 68),(.build 125 #[(0,(tK 66)),(1,(tK 67))]),125,(some (some 55,false))⟩),(⟨[69,65,68,1,68,55],Um,[69]⟩,⟨(some 69),(.binOp .neq 125 (tK 65) (tK 68) 125),4,(some (some 55,false))⟩),(⟨[70,55,69,54,69],Um,[70]⟩,oX 70 (.pick (tK 55) Eh (tK 69)) 4)]) (.cond (tK 70) (.seq (.ops [oX 2 CF 4]) .ret) .skip)))) (.ops [oB 71 .add 3 (tK 43) (iK 1) 3 3,oM 43 71 3])))
def pI:SC:= .loop YR
def YS:SC:= .seq (.ops [oB 34 .lss 3 (tK 33) (tK 32) 3 0]) (.seq (.cond (tK 34) .skip (.exit 0)) (.seq (.block 1 (.seq (.ops [oM 35 33 3,oI 36 45 31 33,oL 37 123 36 123,oA 3 35 3,oA 4 37 123]) (.seq (.seq (.ops [oM 38 4 123,oN 39 38 123,oB 40 .gtr 3 (tK 39) (iK 6) 3 4]) (.cond (tK 40) (.seq (.ops [oX 2 CF 4]) .ret) .skip)) (.seq (.ops [oM 41 4 123,oN 42 41 123,oX 43 (.move (iK 0)) 3]) (.block 2 pI))))) (.ops [oB 72 .add 3 (tK 33) (iK 1) 3 3,oM 33 72 3])))
def pJ:SC:= .loop YS
def k67:SC:= .seq (.ops [oX 1 (.box 47 (tK 0)) 0,oX 2 CF 4]) (.seq (.seq (.ops [oF 7 47 1 0,oL 8 45 7 45,oN 9 8 45,oC 10 97 [(tK 9),(iK 1),(iK 40)] [3,3,3] 4,oX 11 (.unOp .not 4 (tK 10)) 4,oM 12 11 4,⟨(some 13),(.fieldAddr 47 (tK 1) 1),0,(some (some 12,false))⟩,⟨(some 14),(.load 26 (tK 13)),26,(some (some 12,false))⟩,⟨(some 15),eT,0,(some (some 12,false))⟩,⟨(some 16),(.load 45 (tK 15)),45,(some (some 12,false))⟩,⟨(some 17),(.call ⟨(.builtin .len), #[(tK 16)], #[45]⟩),3,(some (some 12,false))⟩,⟨(some 18),(.call ⟨(.value (.func 112)), #[(tK 14),(tK 17)], #[26,3]⟩),4,(some (some 12,false))⟩,⟨(some 19),(.unOp .not 4 (tK 18)),4,(some (some 12,false))⟩,oX 20 (.pick (tK 12) Eh (tK 19)) 4,oM 21 20 4,⟨(some 22),(.fieldAddr 47 (tK 1) 2),0,(some (some 21,false))⟩,⟨(some 23),(.load 26 (tK 22)),26,(some (some 21,false))⟩,⟨(some 24),eT,0,(some (some 21,false))⟩,⟨(some 25),(.load 45 (tK 24)),45,(some (some 21,false))⟩,⟨(some 26),(.call ⟨(.builtin .len), #[(tK 25)], #[45]⟩),3,(some (some 21,false))⟩,⟨(some 27),(.call ⟨(.value (.func 113)), #[(tK 23),(tK 26)], #[26,3]⟩),4,(some (some 21,false))⟩,⟨(some 28),(.unOp .not 4 (tK 27)),4,(some (some 21,false))⟩,oX 29 (.pick (tK 21) Eh (tK 28)) 4])
 (.cond (tK 29) (.seq (.ops [oX 2 CF 4]) .ret) .skip)) (.seq (.seq (.ops [oF 30 47 1 0,oL 31 45 30 45,oN 32 31 45,oX 33 (.move (iK 0)) 3]) (.block 0 pJ)) (.seq (.ops [oX 2 (.assign Eh) 4]) .ret)))
theorem A32:Try.f67.body.map (Bc lends)=some k67:=by kernel_rfl
theorem AFR:Bn Try.f67 1=true:=by kernel_rfl
theorem c67{a l:List D}{r:D×List D}(h:Bq Y.env k67 (F9 Ab l.length [cb 2] r) (entry a l))(ha:a.length=1):Y.call 67 a l=some r:=
 Aa (Y:=Y) rfl Try.func67 (ha▸AFR) A32 h
def Cy(A8:Aq)(AL:AO)(AA:AO)(DW:Int)(Ik:Int)(s:St):Prop:=s.v 1=D.box [b7 123 (AR (fun x=>b7 125 (Ay .i64 .i64 x)) A8),b7 3 (AR (bd .i64) AL),b7 3 (AR (bd .i64) AA)]∧s.v 3=bd .i64 DW∧s.v 31=b7 123 (AR (fun x=>b7 125 (Ay .i64 .i64 x)) A8)∧s.v 32=bd .i64 (A8.length:Int)∧s.v 33=bd .i64 DW∧s.v 41=b7 125 (Ay .i64 .i64 (A8.getD DW.toNat be))∧s.v 42=bd .i64 ((A8.getD DW.toNat be).length:Int)∧s.v 43=bd .i64 Ik
def Cz(A8:Aq)(AL:AO)(AA:AO)(DW:Int)(r:Unit⊕Unit)(ex:Ex)(s:St):Prop:=match r with
 | .inl q=>ex= .ret∧s.v 2=ca false
 | .inr q=>ex= .exit 2∧s.v 1=D.box [b7 123 (AR (fun x=>b7 125 (Ay .i64 .i64 x)) A8),b7 3 (AR (bd .i64) AL),b7 3 (AR (bd .i64) AA)]∧s.v 31=b7 123 (AR (fun x=>b7 125 (Ay .i64 .i64 x)) A8)∧s.v 32=bd .i64 (A8.length:Int)∧s.v 33=bd .i64 DW
theorem QJ(A8:Aq)(AL:AO)(AA:AO)(DW:Int){v:Int}{s:St}{r:Unit⊕Unit}(h:I7 A8 AL AA DW v=some r)(hM:Cy A8 AL AA DW v s):Bq Y.env pI (Cz A8 AL AA DW r) s:=by
 unfold I7 at h;refine BV (c:=YR) (fun v=>EP A8 AL AA DW v) (fun v s=>Cy A8 AL AA DW v s) (Cz A8 AL AA DW) ?_ h hM;clear h hM s v r;intro Ik s o hM h;unfold EP at h;unfold Cy at hM;obtain⟨m0,m1,m2,m3,m4,m5,m6,m7⟩:=hM;unfold YR;by_cases e11:Ik<((A8.getD DW.toNat be).length:Int)
 ·rw [if_pos e11]at h;obtain⟨e12,h⟩:=BS h;obtain⟨fI,hl13,h⟩:=Av h;try dsimp only at h
  have c13:=Mw A8 AL AA (BH (A8.getD DW.toNat be) Ik.toNat) (CK (A8.getD DW.toNat be) Ik.toNat) hl13;by_cases e14:fI=true
  ·rw [if_pos e14]at h;obtain⟨e15,h⟩:=BS h;obtain⟨e16,h⟩:=BS h;by_cases e17:(((BH (A8.getD ((BH (A8.getD DW.toNat be) Ik.toNat).toNat) be) ((CK (A8.getD DW.toNat be) Ik.toNat).toNat))==DW)&&((CK (A8.getD ((BH (A8.getD DW.toNat be) Ik.toNat).toNat) be) ((CK (A8.getD DW.toNat be) Ik.toNat).toNat))==Ik))=true
   ·rw [if_pos e17]at h
    obtain rfl:=Option.some.inj h
    simp (maxDischargeDepth:=9) only [↓AP,AQ,Ae,↓reduceIte,bh,bj,bk,bl,bm,bo,bp,br,bt,bw,bx,bO,b0,b3,b4,b5,b6,m0,m1,m2,m3,m4,m5,m6,m7,e11,e12.1,e12.2,c13,e14,e15.1,e15.2,e16.1,e16.2,e17,Cy,Cz,CU,CV,CW]<;>(repeat' apply A7)<;>first|rfl|exact⟨_,rfl⟩|exact⟨_,_,rfl⟩|simp [AR,A9]
   ·rw [if_neg e17]at h;have e17f:(((BH (A8.getD ((BH (A8.getD DW.toNat be) Ik.toNat).toNat) be) ((CK (A8.getD DW.toNat be) Ik.toNat).toNat))==DW)&&((CK (A8.getD ((BH (A8.getD DW.toNat be) Ik.toNat).toNat) be) ((CK (A8.getD DW.toNat be) Ik.toNat).toNat))==Ik))=false:=JA.mpr e17
    obtain rfl:=Option.some.inj h
    simp (maxDischargeDepth:=9) only [↓AP,AQ,Ae,↓reduceIte,bh,bj,bk,bl,bm,bo,bp,br,bt,bw,bx,bO,b0,b3,b4,b5,b6,m0,m1,m2,m3,m4,m5,m6,m7,e11,e12.1,e12.2,c13,e14,e15.1,e15.2,e16.1,e16.2,e17f,Cy,Cz,CU,CV,CW]<;>(repeat' apply A7)<;>first|rfl|exact⟨_,rfl⟩|exact⟨_,_,rfl⟩|simp [AR,A9]
  ·rw [if_neg e14]at h;have e14f:fI=false:=JA.mpr e14
   obtain rfl:=Option.some.inj h
   simp (maxDischargeDepth:=9) only [↓AP,AQ,Ae,↓reduceIte,bh,bj,bk,bl,bm,bo,bp,br,bt,bw,bx,bO,b0,b3,b4,b5,b6,m0,m1,m2,m3,m4,m5,m6,m7,e11,e12.1,e12.2,c13,e14f,Cy,Cz,CU,CV,CW]<;>(repeat' apply A7)<;>first|rfl|exact⟨_,rfl⟩|exact⟨_,_,rfl⟩|simp [AR,A9]
 ·rw [if_neg e11]at h
  obtain rfl:=Option.some.inj h
  simp (maxDischargeDepth:=9) only [↓AP,AQ,Ae,↓reduceIte,bh,bj,bk,bl,bm,bo,bp,br,bt,bw,bx,bO,b0,b3,b4,b5,b6,m0,m1,m2,m3,m4,m5,m6,m7,e11,Cy,Cz,CU,CV,CW]<;>(repeat' apply A7)<;>first|rfl|exact⟨_,rfl⟩|exact⟨_,_,rfl⟩|simp [AR,A9]
def D5(A8:Aq)(AL:AO)(AA:AO)(DW:Int)(s:St):Prop:=s.v 1=D.box [b7 123 (AR (fun x=>b7 125 (Ay .i64 .i64 x)) A8),b7 3 (AR (bd .i64) AL),b7 3 (AR (bd .i64) AA)]∧s.v 31=b7 123 (AR (fun x=>b7 125 (Ay .i64 .i64 x)) A8)∧s.v 32=bd .i64 (A8.length:Int)∧s.v 33=bd .i64 DW
def D6(A8:Aq)(AL:AO)(AA:AO)(r:Unit⊕Unit)(ex:Ex)(s:St):Prop:=match r with
 | .inl q=>ex= .ret∧s.v 2=ca false
 | .inr q=>ex= .exit 0
theorem QK(A8:Aq)(AL:AO)(AA:AO){v:Int}{s:St}{r:Unit⊕Unit}(h:I8 A8 AL AA v=some r)(hM:D5 A8 AL AA v s):Bq Y.env pJ (D6 A8 AL AA r) s:=by
 unfold I8 at h;refine BV (c:=YS) (fun v=>EQ A8 AL AA v) (fun v s=>D5 A8 AL AA v s) (D6 A8 AL AA) ?_ h hM;clear h hM s v r;intro DW s o hM h;unfold EQ at h;unfold D5 at hM;obtain⟨m0,m1,m2,m3⟩:=hM;unfold YS;by_cases e8:DW<(A8.length:Int)
 ·rw [if_pos e8]at h;obtain⟨e9,h⟩:=BS h;by_cases e10:6<((A8.getD DW.toNat be).length:Int)
  ·rw [if_pos e10]at h
   obtain rfl:=Option.some.inj h
   simp (maxDischargeDepth:=9) only [↓AP,AQ,Ae,↓reduceIte,bh,bj,bk,bl,bm,bo,bp,br,bt,bw,bx,bO,b0,b3,b4,b5,b6,m0,m1,m2,m3,e8,e9.1,e9.2,e10,D5,D6,CU,CV,CW]<;>(repeat' apply A7)<;>first|rfl|exact⟨_,rfl⟩|exact⟨_,_,rfl⟩|simp [AR,A9]
  ·rw [if_neg e10]at h;obtain⟨AX,hl12,h⟩:=Av h;try dsimp only at h
   simp (maxDischargeDepth:=9) only [↓AP,AQ,Ae,↓reduceIte,bh,bj,bk,bl,bm,bo,bp,br,bt,bw,bx,bO,b0,b3,b4,b5,b6,m0,m1,m2,m3,e8,e9.1,e9.2,e10];refine BB (QJ A8 AL AA DW hl12 ?_) ?_
   ·simp (maxDischargeDepth:=9) only [↓AP,AQ,Ae,↓reduceIte,bh,bj,bk,bl,bm,bo,bp,br,bt,bw,bx,bO,b0,b3,b4,b5,b6,m0,m1,m2,m3,e8,e9.1,e9.2,e10,Cy]<;>(repeat' apply A7)<;>first|rfl|exact⟨_,rfl⟩|exact⟨_,_,rfl⟩|simp [AR,A9]
   ·intro ex12 s12 hX12;rcases AX with q1000_|q1000_
    ·unfold Cz at hX12;dsimp only at hX12 h;obtain⟨rfl,n12_0⟩:=hX12
     obtain rfl:=Option.some.inj h
     simp (maxDischargeDepth:=9) only [↓AP,AQ,Ae,↓reduceIte,bh,bj,bk,bl,bm,bo,bp,br,bt,bw,bx,bO,b0,b3,b4,b5,b6,e8,e9.1,e9.2,e10,n12_0,D5,D6,CU,CV,CW]<;>(repeat' apply A7)<;>first|rfl|exact⟨_,rfl⟩|exact⟨_,_,rfl⟩|simp [AR,A9]
    ·unfold Cz at hX12;dsimp only at hX12 h;obtain⟨rfl,n12_0,n12_1,n12_2,n12_3⟩:=hX12
     obtain rfl:=Option.some.inj h
     simp (maxDischargeDepth:=9) only [↓AP,AQ,Ae,↓reduceIte,bh,bj,bk,bl,bm,bo,bp,br,bt,bw,bx,bO,b0,b3,b4,b5,b6,e8,e9.1,e9.2,e10,n12_0,n12_1,n12_2,n12_3,D5,D6,CU,CV,CW]<;>(repeat' apply A7)<;>first|rfl|exact⟨_,rfl⟩|exact⟨_,_,rfl⟩|simp [AR,A9]
 ·rw [if_neg e8]at h
  obtain rfl:=Option.some.inj h
  simp (maxDischargeDepth:=9) only [↓AP,AQ,Ae,↓reduceIte,bh,bj,bk,bl,bm,bo,bp,br,bt,bw,bx,bO,b0,b3,b4,b5,b6,m0,m1,m2,m3,e8,D5,D6,CU,CV,CW]<;>(repeat' apply A7)<;>first|rfl|exact⟨_,rfl⟩|exact⟨_,_,rfl⟩|simp [AR,A9]
theorem R5(A8:Aq)(AL:AO)(AA:AO){r:Bool}(h:Lc A8 AL AA=some r):Y.call 67 [D.agg [b7 123 (AR (fun x=>b7 125 (Ay .i64 .i64 x)) A8),b7 3 (AR (bd .i64) AL),b7 3 (AR (bd .i64) AA)]] []=some (ca r,[]):=by
 refine c67 ?_ rfl;unfold k67;unfold Lc at h;have c1:=J5 (A8.length:Int) (1:Int) (40:Int);by_cases e2:(JB (A8.length:Int) (1:Int) (40:Int))=true
 ·rw [if_pos e2]at h;obtain⟨e3,h⟩:=BS h;have c4:=fG AL (A8.length:Int) e3;by_cases e5:(PR AL (A8.length:Int))=true
  ·rw [if_pos e5]at h;obtain⟨uF,hl6,h⟩:=Av h;try dsimp only at h
   have c6:=SK AA (A8.length:Int) hl6;by_cases e7:uF=true
   ·rw [if_pos e7]at h;obtain⟨Ce,hl9,h⟩:=Av h;try dsimp only at h
    simp (maxDischargeDepth:=9) only [↓AP,AQ,Ae,↓reduceIte,bh,bj,bk,bl,bm,bo,bp,br,bt,bw,bx,bO,b0,b3,b4,b5,b6,c1,e2,e3,c4,e5,c6,e7];refine BB (QK A8 AL AA hl9 ?_) ?_
    ·simp (maxDischargeDepth:=9) only [↓AP,AQ,Ae,↓reduceIte,bh,bj,bk,bl,bm,bo,bp,br,bt,bw,bx,bO,b0,b3,b4,b5,b6,c1,e2,e3,c4,e5,c6,e7,D5]<;>(repeat' apply A7)<;>first|rfl|exact⟨_,rfl⟩|exact⟨_,_,rfl⟩|simp [AR,A9]
    ·intro ex9 s9 hX9;rcases Ce with q1001_|q1001_
     ·unfold D6 at hX9;dsimp only at hX9 h;obtain⟨rfl,n9_0⟩:=hX9
      obtain rfl:=Option.some.inj h
      simp (maxDischargeDepth:=9) only [↓AP,AQ,Ae,↓reduceIte,bh,bj,bk,bl,bm,bo,bp,br,bt,bw,bx,bO,b0,b3,b4,b5,b6,c1,e2,e3,c4,e5,c6,e7,n9_0]<;>(repeat' apply A7)<;>first|rfl|exact⟨_,rfl⟩|exact⟨_,_,rfl⟩|simp [AR,A9]
     ·unfold D6 at hX9;dsimp only at hX9 h
      obtain rfl:=hX9
      obtain rfl:=Option.some.inj h
      simp (maxDischargeDepth:=9) only [↓AP,AQ,Ae,↓reduceIte,bh,bj,bk,bl,bm,bo,bp,br,bt,bw,bx,bO,b0,b3,b4,b5,b6,c1,e2,e3,c4,e5,c6,e7]<;>(repeat' apply A7)<;>first|rfl|exact⟨_,rfl⟩|exact⟨_,_,rfl⟩|simp [AR,A9]
   ·rw [if_neg e7]at h;have e7f:uF=false:=JA.mpr e7
    obtain rfl:=Option.some.inj h
    simp (maxDischargeDepth:=9) only [↓AP,AQ,Ae,↓reduceIte,bh,bj,bk,bl,bm,bo,bp,br,bt,bw,bx,bO,b0,b3,b4,b5,b6,c1,e2,e3,c4,e5,c6,e7f]<;>(repeat' apply A7)<;>first|rfl|exact⟨_,rfl⟩|exact⟨_,_,rfl⟩|simp [AR,A9]
  ·rw [if_neg e5]at h;have e5f:(PR AL (A8.length:Int))=false:=JA.mpr e5
   obtain rfl:=Option.some.inj h
   simp (maxDischargeDepth:=9) only [↓AP,AQ,Ae,↓reduceIte,bh,bj,bk,bl,bm,bo,bp,br,bt,bw,bx,bO,b0,b3,b4,b5,b6,c1,e2,e3,c4,e5f]<;>(repeat' apply A7)<;>first|rfl|exact⟨_,rfl⟩|exact⟨_,_,rfl⟩|simp [AR,A9]
 ·rw [if_neg e2]at h;have e2f:(JB (A8.length:Int) (1:Int) (40:Int))=false:=JA.mpr e2
  obtain rfl:=Option.some.inj h
  simp (maxDischargeDepth:=9) only [↓AP,AQ,Ae,↓reduceIte,bh,bj,bk,bl,bm,bo,bp,br,bt,bw,bx,bO,b0,b3,b4,b5,b6,c1,e2f]<;>(repeat' apply A7)<;>first|rfl|exact⟨_,rfl⟩|exact⟨_,_,rfl⟩|simp [AR,A9]
def Gp(A8:Aq)(AL:AO)(AA:AO)(Cr:Int)(Fy:Int):Option ((Int)⊕(Unit⊕Unit)):= if Fy<((A8.getD Cr.toNat be).length:Int)then ck (0≤Fy∧Fy.toNat<(A8.getD Cr.toNat be).length)<| if(JB (BH (A8.getD Cr.toNat be) Fy.toNat) (0:Int) (cd.wrap ((A8.length:Int)-1)))=true then ck (0≤(BH (A8.getD Cr.toNat be) Fy.toNat)∧(BH (A8.getD Cr.toNat be) Fy.toNat).toNat<A8.length)<| if(JB (CK (A8.getD Cr.toNat be) Fy.toNat) (0:Int) (cd.wrap (((A8.getD ((BH (A8.getD Cr.toNat be) Fy.toNat).toNat) be).length:Int)-1)))=true then ck (0≤(CK (A8.getD Cr.toNat be) Fy.toNat)∧(CK (A8.getD Cr.toNat be) Fy.toNat).toNat<(A8.getD ((BH (A8.getD Cr.toNat be) Fy.toNat).toNat) be).length)<| if(((BH (A8.getD ((BH (A8.getD Cr.toNat be) Fy.toNat).toNat) be) ((CK (A8.getD Cr.toNat be) Fy.toNat).toNat))==Cr)&&((CK (A8.getD ((BH (A8.getD Cr.toNat be) Fy.toNat).toNat) be) ((CK (A8.getD Cr.toNat be) Fy.toNat).toNat))==Fy))=true then some (cc (cd.wrap (Fy+1))) else some (b8 (cc ())) else some (b8 (cc ())) else some (b8 (cc ())) else some (b8 (b8 ()))
def K4(A8:Aq)(AL:AO)(AA:AO)(Cr:Int)(v:Int):Option (Unit⊕Unit):=Iy (fun v=>Gp A8 AL AA Cr v) v
def Gq(A8:Aq)(AL:AO)(AA:AO)(Cr:Int):Option ((Int)⊕(Unit⊕Unit)):=
 if Cr<(A8.length:Int)then
  ck (0≤Cr∧Cr.toNat<A8.length)<|
  if 6<((A8.getD Cr.toNat be).length:Int)then
   some (b8 (cc ()))
  else
   (K4 A8 AL AA Cr 0).bind fun AX=>
   match AX with
   | .inl q1000_=>
    some (b8 (cc ()))
   | .inr q1000_=>
    some (cc (cd.wrap (Cr+1)))
 else
  some (b8 (b8 ()))
def K5(A8:Aq)(AL:AO)(AA:AO)(v:Int):Option (Unit⊕Unit):=Iy (fun v=>Gq A8 AL AA v) v
def QL(A8:Aq)(AL:AO)(AA:AO):Option (Bool):=
 if(JB (A8.length:Int) (1:Int) (40:Int))=true then
  ck (AL.length<1099511627776)<|
  if(PR AL (A8.length:Int))=true then
   if(AA.length:Int)=(A8.length:Int)then
    ck (AA.length<1099511627776)<|
    if(EF AA (0:Int) (9:Int))=true then
     (K5 A8 AL AA 0).bind fun Ce=>
     match Ce with
     | .inl q1001_=>
      some false
     | .inr q1001_=>
      some true
    else
     some false
   else
    some false
  else
   some false
 else
  some false
abbrev NL:List Nat:=[54,55,56,57,58,59,60,61,62,63,64,65,66,67,68,69,70,71,72,73,74,75,76,77,78,79,80,81,82,83,84,85,86,87,88,89,87,88,90,91]
def YT:SC:= .seq (.ops [oB 50 .lss 3 (tK 49) (tK 48) 3 0]) (.seq (.cond (tK 50) .skip (.exit 2)) (.seq (.block 3 (.seq (.ops [oM 51 49 3,oI 52 123 47 49,oL 53 125 52 125,oX 6 (.alloc 125) 0,oA 5 51 3,oS 125 6 53]) (.seq (.draws [(⟨[54,6,6],NL,[54]⟩,oF 54 125 6 0),(⟨[55,54,6],NL,[55]⟩,oL 55 3 54 3),(⟨[56,1,1],NL,[56]⟩,oF 56 47 1 0),(⟨[57,56,1],NL,[57]⟩,oL 57 45 56 45),(⟨[58,57,1],NL,[58]⟩,oN 58 57 45),(⟨[59,58,58],NL,[59]⟩,oB 59 .sub 3 (tK 58) (iK 1) 3 3),(⟨[60,55,59,6,59],NL,[60]⟩,oC 60 92 [(tK 55),(iK 0),(tK 59)] [3,3,3] 4),(⟨[61,60,60],NL,[61]⟩,oX 61 (.unOp .not 4 (tK 60)) 4),(⟨[62,61,61],NL,[62]⟩,oM 62 61 4),(⟨[63,6,6,62],NL,[63]⟩,⟨(some 63),(.fieldAddr 125 (tK 6) 1),0,(some (some 62,false))⟩),(⟨[64,63,6,62],NL,[64]⟩,⟨(some 64),(.load 3 (tK 63)),3,(some (some 62,false))⟩),(⟨[65,1,1,62],NL,[65]⟩,⟨(some 65),eT,0,(some (some 62,false))⟩),(⟨[66,65,1,62],NL,[66]⟩,⟨(some 66),(.load 45 (tK 65)),45,(some (some 62,false))⟩),(⟨[67,6,6,62],NL,[67]⟩,⟨(some 67),(.fieldAddr 125 (tK 6) 0),0,(some (some 62,false))⟩),(⟨[68,67,6,62],NL,[68]⟩,⟨(some 68),(.load 3 (tK 67)),3,(some (some 62,false))⟩),(⟨[69,66,68,1,6,62],NL,[69]⟩,⟨(some 69),(.indexAddr 45 (tK 66) (tK 68)),0,(some (some 62,false))⟩),
 (⟨[70,69,1,62],NL,[70]⟩,⟨(some 70),(.load 123 (tK 69)),123,(some (some 62,false))⟩),(⟨[71,70,1,62],NL,[71]⟩,⟨(some 71),(.call ⟨(.builtin .len), #[(tK 70)], #[123]⟩),3,(some (some 62,false))⟩),(⟨[72,71,71,62],NL,[72]⟩,⟨(some 72),(.binOp .sub 3 (tK 71) (iK 1) 3),3,(some (some 62,false))⟩),(⟨[73,64,72,6,72,62],NL,[73]⟩,⟨(some 73),(.call ⟨(.value (.func 92)), #[(tK 64),(iK 0),(tK 72)], #[3,3,3]⟩),4,(some (some 62,false))⟩),(⟨[74,73,73,62],NL,[74]⟩,⟨(some 74),(.unOp .not 4 (tK 73)),4,(some (some 62,false))⟩),(⟨[75,62,74,61,74],NL,[75]⟩,oX 75 (.pick (tK 62) Eh (tK 74)) 4),(⟨[76,75,75],NL,[76]⟩,oM 76 75 4),(⟨[77,1,1,76],NL,[77]⟩,⟨(some 77),eT,0,(some (some 76,false))⟩),(⟨[78,77,1,76],NL,[78]⟩,⟨(some 78),(.load 45 (tK 77)),45,(some (some 76,false))⟩),(⟨[79,6,6,76],NL,[79]⟩,⟨(some 79),(.fieldAddr 125 (tK 6) 0),0,(some (some 76,false))⟩),(⟨[80,79,6,76],NL,[80]⟩,⟨(some 80),(.load 3 (tK 79)),3,(some (some 76,false))⟩),(⟨[81,78,80,1,6,76],NL,[81]⟩,⟨(some 81),(.indexAddr 45 (tK 78) (tK 80)),0,(some (some 76,false))⟩),(⟨[82,81,1,76],NL,[82]⟩,⟨(some 82),(.load 123 (tK 81)),123,(some (some 76,false))⟩),(⟨[83,6,6,76],NL,[83]⟩,⟨(some 83),(.fieldAddr 125 (tK 6) 1),0,(some (some 76,false))⟩),
 (⟨[84,83,6,76],NL,[84]⟩,⟨(some 84),(.load 3 (tK 83)),3,(some (some 76,false))⟩),(⟨[85,82,84,1,6,76],NL,[85]⟩,⟨(some 85),(.indexAddr 123 (tK 82) (tK 84)),0,(some (some 76,false))⟩),(⟨[86,85,1,76],NL,[86]⟩,⟨(some 86),(.load 125 (tK 85)),125,(some (some 76,false))⟩),(⟨[87,3,3,76],NL,[87]⟩,⟨(some 87),(.move (tK 3)),3,(some (some 76,false))⟩),(⟨[88,5,5,76],NL,[88]⟩,⟨(some 88),(.move (tK 5)),3,(some (some 76,false))⟩),(⟨[89,87,88,3,5,76],NL,[89,87,88]⟩,⟨(some 89),(.build 125 #[(0,(tK 87)),(1,(tK 88))]),125,(some (some 76,false))⟩),(⟨[90,86,89,1,89,76],NL,[90]⟩,⟨(some 90),(.binOp .neq 125 (tK 86) (tK 89) 125),4,(some (some 76,false))⟩),(⟨[91,76,90,75,90],NL,[91]⟩,oX 91 (.pick (tK 76) Eh (tK 90)) 4)]) (.cond (tK 91) (.seq (.ops [oX 2 CF 4]) .ret) .skip)))) (.ops [oB 92 .add 3 (tK 49) (iK 1) 3 3,oM 49 92 3])))
def pK:SC:= .loop YT
def YU:SC:= .seq (.ops [oB 40 .lss 3 (tK 39) (tK 38) 3 0]) (.seq (.cond (tK 40) .skip (.exit 0)) (.seq (.block 1 (.seq (.ops [oM 41 39 3,oI 42 45 37 39,oL 43 123 42 123,oA 3 41 3,oA 4 43 123]) (.seq (.seq (.ops [oM 44 4 123,oN 45 44 123,oB 46 .gtr 3 (tK 45) (iK 6) 3 4]) (.cond (tK 46) (.seq (.ops [oX 2 CF 4]) .ret) .skip)) (.seq (.ops [oM 47 4 123,oN 48 47 123,oX 49 (.move (iK 0)) 3]) (.block 2 pK))))) (.ops [oB 93 .add 3 (tK 39) (iK 1) 3 3,oM 39 93 3])))
def pM:SC:= .loop YU
def k60:SC:= .seq (.ops [oX 1 (.box 47 (tK 0)) 0,oX 2 CF 4]) (.seq (.seq (.ops [oF 7 47 1 0,oL 8 45 7 45,oN 9 8 45,oC 10 92 [(tK 9),(iK 1),(iK 40)] [3,3,3] 4,oX 11 (.unOp .not 4 (tK 10)) 4,oM 12 11 4,⟨(some 13),(.fieldAddr 47 (tK 1) 1),0,(some (some 12,false))⟩,⟨(some 14),(.load 26 (tK 13)),26,(some (some 12,false))⟩,⟨(some 15),eT,0,(some (some 12,false))⟩,⟨(some 16),(.load 45 (tK 15)),45,(some (some 12,false))⟩,⟨(some 17),(.call ⟨(.builtin .len), #[(tK 16)], #[45]⟩),3,(some (some 12,false))⟩,⟨(some 18),(.call ⟨(.value (.func 106)), #[(tK 14),(tK 17)], #[26,3]⟩),4,(some (some 12,false))⟩,⟨(some 19),(.unOp .not 4 (tK 18)),4,(some (some 12,false))⟩,oX 20 (.pick (tK 12) Eh (tK 19)) 4,oM 21 20 4,⟨(some 22),(.fieldAddr 47 (tK 1) 2),0,(some (some 21,false))⟩,⟨(some 23),(.load 26 (tK 22)),26,(some (some 21,false))⟩,⟨(some 24),(.call ⟨(.builtin .len), #[(tK 23)], #[26]⟩),3,(some (some 21,false))⟩,⟨(some 25),eT,0,(some (some 21,false))⟩,⟨(some 26),(.load 45 (tK 25)),45,(some (some 21,false))⟩,⟨(some 27),(.call ⟨(.builtin .len), #[(tK 26)], #[45]⟩),3,(some (some 21,false))⟩,⟨(some 28),(.binOp .neq 3 (tK 24) (tK 27) 3),4,(some (some 21,false))⟩,oX 29 (.pick (tK 21) Eh (tK 28)) 4,
 oM 30 29 4,⟨(some 31),(.fieldAddr 47 (tK 1) 2),0,(some (some 30,false))⟩,⟨(some 32),(.load 26 (tK 31)),26,(some (some 30,false))⟩,⟨(some 33),(.call ⟨(.value (.func 107)), #[(tK 32),(iK 0),(iK 9)], #[26,3,3]⟩),4,(some (some 30,false))⟩,⟨(some 34),(.unOp .not 4 (tK 33)),4,(some (some 30,false))⟩,oX 35 (.pick (tK 30) Eh (tK 34)) 4]) (.cond (tK 35) (.seq (.ops [oX 2 CF 4]) .ret) .skip)) (.seq (.seq (.ops [oF 36 47 1 0,oL 37 45 36 45,oN 38 37 45,oX 39 (.move (iK 0)) 3]) (.block 0 pM)) (.seq (.ops [oX 2 (.assign Eh) 4]) .ret)))
theorem A33:Try.f60.body.map (Bc lends)=some k60:=by kernel_rfl
theorem AFT:Bn Try.f60 1=true:=by kernel_rfl
theorem c60{a l:List D}{r:D×List D}(h:Bq Y.env k60 (F9 Ab l.length [cb 2] r) (entry a l))(ha:a.length=1):Y.call 60 a l=some r:=
 Aa (Y:=Y) rfl Try.func60 (ha▸AFT) A33 h
def Df(A8:Aq)(AL:AO)(AA:AO)(Cr:Int)(Fy:Int)(s:St):Prop:=s.v 1=D.box [b7 123 (AR (fun x=>b7 125 (Ay .i64 .i64 x)) A8),b7 3 (AR (bd .i64) AL),b7 3 (AR (bd .i64) AA)]∧s.v 3=bd .i64 Cr∧s.v 37=b7 123 (AR (fun x=>b7 125 (Ay .i64 .i64 x)) A8)∧s.v 38=bd .i64 (A8.length:Int)∧s.v 39=bd .i64 Cr∧s.v 47=b7 125 (Ay .i64 .i64 (A8.getD Cr.toNat be))∧s.v 48=bd .i64 ((A8.getD Cr.toNat be).length:Int)∧s.v 49=bd .i64 Fy
def Dh(A8:Aq)(AL:AO)(AA:AO)(Cr:Int)(r:Unit⊕Unit)(ex:Ex)(s:St):Prop:=match r with
 | .inl q=>ex= .ret∧s.v 2=ca false
 | .inr q=>ex= .exit 2∧s.v 1=D.box [b7 123 (AR (fun x=>b7 125 (Ay .i64 .i64 x)) A8),b7 3 (AR (bd .i64) AL),b7 3 (AR (bd .i64) AA)]∧s.v 37=b7 123 (AR (fun x=>b7 125 (Ay .i64 .i64 x)) A8)∧s.v 38=bd .i64 (A8.length:Int)∧s.v 39=bd .i64 Cr
theorem Un(A8:Aq)(AL:AO)(AA:AO)(Cr:Int){v:Int}{s:St}{r:Unit⊕Unit}(h:K4 A8 AL AA Cr v=some r)(hM:Df A8 AL AA Cr v s):Bq Y.env pK (Dh A8 AL AA Cr r) s:=by
 unfold K4 at h;refine BV (c:=YT) (fun v=>Gp A8 AL AA Cr v) (fun v s=>Df A8 AL AA Cr v s) (Dh A8 AL AA Cr) ?_ h hM;clear h hM s v r;intro Fy s o hM h;unfold Gp at h;unfold Df at hM;obtain⟨m0,m1,m2,m3,m4,m5,m6,m7⟩:=hM;unfold YT;by_cases e13:Fy<((A8.getD Cr.toNat be).length:Int)
 ·rw [if_pos e13]at h;obtain⟨e14,h⟩:=BS h;have Y7:=Kl (BH (A8.getD Cr.toNat be) Fy.toNat) (0:Int) (cd.wrap ((A8.length:Int)-1));by_cases e16:(JB (BH (A8.getD Cr.toNat be) Fy.toNat) (0:Int) (cd.wrap ((A8.length:Int)-1)))=true
  ·rw [if_pos e16]at h;obtain⟨e17,h⟩:=BS h;have Od:=Kl (CK (A8.getD Cr.toNat be) Fy.toNat) (0:Int) (cd.wrap (((A8.getD ((BH (A8.getD Cr.toNat be) Fy.toNat).toNat) be).length:Int)-1));by_cases e19:(JB (CK (A8.getD Cr.toNat be) Fy.toNat) (0:Int) (cd.wrap (((A8.getD ((BH (A8.getD Cr.toNat be) Fy.toNat).toNat) be).length:Int)-1)))=true
   ·rw [if_pos e19]at h;obtain⟨e20,h⟩:=BS h;by_cases e21:(((BH (A8.getD ((BH (A8.getD Cr.toNat be) Fy.toNat).toNat) be) ((CK (A8.getD Cr.toNat be) Fy.toNat).toNat))==Cr)&&((CK (A8.getD ((BH (A8.getD Cr.toNat be) Fy.toNat).toNat) be) ((CK (A8.getD Cr.toNat be) Fy.toNat).toNat))==Fy))=true
    ·rw [if_pos e21]at h
     obtain rfl:=Option.some.inj h
     simp (maxDischargeDepth:=9) only [↓AP,AQ,Ae,↓reduceIte,bh,bj,bk,bl,bm,bo,bp,br,bt,bw,bx,bO,b0,b3,b4,b5,b6,m0,m1,m2,m3,m4,m5,m6,m7,e13,e14.1,e14.2,Y7,e16,e17.1,e17.2,Od,e19,e20.1,e20.2,e21,Df,Dh,CU,CV,CW]<;>(repeat' apply A7)<;>first|rfl|exact⟨_,rfl⟩|exact⟨_,_,rfl⟩|simp [AR,A9]
    ·rw [if_neg e21]at h;have e21f:(((BH (A8.getD ((BH (A8.getD Cr.toNat be) Fy.toNat).toNat) be) ((CK (A8.getD Cr.toNat be) Fy.toNat).toNat))==Cr)&&((CK (A8.getD ((BH (A8.getD Cr.toNat be) Fy.toNat).toNat) be) ((CK (A8.getD Cr.toNat be) Fy.toNat).toNat))==Fy))=false:=JA.mpr e21
     obtain rfl:=Option.some.inj h
     simp (maxDischargeDepth:=9) only [↓AP,AQ,Ae,↓reduceIte,bh,bj,bk,bl,bm,bo,bp,br,bt,bw,bx,bO,b0,b3,b4,b5,b6,m0,m1,m2,m3,m4,m5,m6,m7,e13,e14.1,e14.2,Y7,e16,e17.1,e17.2,Od,e19,e20.1,e20.2,e21f,Df,Dh,CU,CV,CW]<;>(repeat' apply A7)<;>first|rfl|exact⟨_,rfl⟩|exact⟨_,_,rfl⟩|simp [AR,A9]
   ·rw [if_neg e19]at h;have e19f:(JB (CK (A8.getD Cr.toNat be) Fy.toNat) (0:Int) (cd.wrap (((A8.getD ((BH (A8.getD Cr.toNat be) Fy.toNat).toNat) be).length:Int)-1)))=false:=JA.mpr e19
    obtain rfl:=Option.some.inj h
    simp (maxDischargeDepth:=9) only [↓AP,AQ,Ae,↓reduceIte,bh,bj,bk,bl,bm,bo,bp,br,bt,bw,bx,bO,b0,b3,b4,b5,b6,m0,m1,m2,m3,m4,m5,m6,m7,e13,e14.1,e14.2,Y7,e16,e17.1,e17.2,Od,e19f,Df,Dh,CU,CV,CW]<;>(repeat' apply A7)<;>first|rfl|exact⟨_,rfl⟩|exact⟨_,_,rfl⟩|simp [AR,A9]
  ·rw [if_neg e16]at h;have e16f:(JB (BH (A8.getD Cr.toNat be) Fy.toNat) (0:Int) (cd.wrap ((A8.length:Int)-1)))=false:=JA.mpr e16
   obtain rfl:=Option.some.inj h
   simp (maxDischargeDepth:=9) only [↓AP,AQ,Ae,↓reduceIte,bh,bj,bk,bl,bm,bo,bp,br,bt,bw,bx,bO,b0,b3,b4,b5,b6,m0,m1,m2,m3,m4,m5,m6,m7,e13,e14.1,e14.2,Y7,e16f,Df,Dh,CU,CV,CW]<;>(repeat' apply A7)<;>first|rfl|exact⟨_,rfl⟩|exact⟨_,_,rfl⟩|simp [AR,A9]
 ·rw [if_neg e13]at h
  obtain rfl:=Option.some.inj h
  simp (maxDischargeDepth:=9) only [↓AP,AQ,Ae,↓reduceIte,bh,bj,bk,bl,bm,bo,bp,br,bt,bw,bx,bO,b0,b3,b4,b5,b6,m0,m1,m2,m3,m4,m5,m6,m7,e13,Df,Dh,CU,CV,CW]<;>(repeat' apply A7)<;>first|rfl|exact⟨_,rfl⟩|exact⟨_,_,rfl⟩|simp [AR,A9]
def EJ(A8:Aq)(AL:AO)(AA:AO)(Cr:Int)(s:St):Prop:=s.v 1=D.box [b7 123 (AR (fun x=>b7 125 (Ay .i64 .i64 x)) A8),b7 3 (AR (bd .i64) AL),b7 3 (AR (bd .i64) AA)]∧s.v 37=b7 123 (AR (fun x=>b7 125 (Ay .i64 .i64 x)) A8)∧s.v 38=bd .i64 (A8.length:Int)∧s.v 39=bd .i64 Cr
def EK(A8:Aq)(AL:AO)(AA:AO)(r:Unit⊕Unit)(ex:Ex)(s:St):Prop:=match r with
 | .inl q=>ex= .ret∧s.v 2=ca false
 | .inr q=>ex= .exit 0
theorem Uo(A8:Aq)(AL:AO)(AA:AO){v:Int}{s:St}{r:Unit⊕Unit}(h:K5 A8 AL AA v=some r)(hM:EJ A8 AL AA v s):Bq Y.env pM (EK A8 AL AA r) s:=by
 unfold K5 at h;refine BV (c:=YU) (fun v=>Gq A8 AL AA v) (fun v s=>EJ A8 AL AA v s) (EK A8 AL AA) ?_ h hM;clear h hM s v r;intro Cr s o hM h;unfold Gq at h;unfold EJ at hM;obtain⟨m0,m1,m2,m3⟩:=hM;unfold YU;by_cases e10:Cr<(A8.length:Int)
 ·rw [if_pos e10]at h;obtain⟨e11,h⟩:=BS h;by_cases e12:6<((A8.getD Cr.toNat be).length:Int)
  ·rw [if_pos e12]at h
   obtain rfl:=Option.some.inj h
   simp (maxDischargeDepth:=9) only [↓AP,AQ,Ae,↓reduceIte,bh,bj,bk,bl,bm,bo,bp,br,bt,bw,bx,bO,b0,b3,b4,b5,b6,m0,m1,m2,m3,e10,e11.1,e11.2,e12,EJ,EK,CU,CV,CW]<;>(repeat' apply A7)<;>first|rfl|exact⟨_,rfl⟩|exact⟨_,_,rfl⟩|simp [AR,A9]
  ·rw [if_neg e12]at h;obtain⟨AX,hl14,h⟩:=Av h;try dsimp only at h
   simp (maxDischargeDepth:=9) only [↓AP,AQ,Ae,↓reduceIte,bh,bj,bk,bl,bm,bo,bp,br,bt,bw,bx,bO,b0,b3,b4,b5,b6,m0,m1,m2,m3,e10,e11.1,e11.2,e12];refine BB (Un A8 AL AA Cr hl14 ?_) ?_
   ·simp (maxDischargeDepth:=9) only [↓AP,AQ,Ae,↓reduceIte,bh,bj,bk,bl,bm,bo,bp,br,bt,bw,bx,bO,b0,b3,b4,b5,b6,m0,m1,m2,m3,e10,e11.1,e11.2,e12,Df]<;>(repeat' apply A7)<;>first|rfl|exact⟨_,rfl⟩|exact⟨_,_,rfl⟩|simp [AR,A9]
   ·intro ex14 s14 hX14;rcases AX with q1000_|q1000_
    ·unfold Dh at hX14;dsimp only at hX14 h;obtain⟨rfl,n14_0⟩:=hX14
     obtain rfl:=Option.some.inj h
     simp (maxDischargeDepth:=9) only [↓AP,AQ,Ae,↓reduceIte,bh,bj,bk,bl,bm,bo,bp,br,bt,bw,bx,bO,b0,b3,b4,b5,b6,e10,e11.1,e11.2,e12,n14_0,EJ,EK,CU,CV,CW]<;>(repeat' apply A7)<;>first|rfl|exact⟨_,rfl⟩|exact⟨_,_,rfl⟩|simp [AR,A9]
    ·unfold Dh at hX14;dsimp only at hX14 h;obtain⟨rfl,n14_0,n14_1,n14_2,n14_3⟩:=hX14
     obtain rfl:=Option.some.inj h
     simp (maxDischargeDepth:=9) only [↓AP,AQ,Ae,↓reduceIte,bh,bj,bk,bl,bm,bo,bp,br,bt,bw,bx,bO,b0,b3,b4,b5,b6,e10,e11.1,e11.2,e12,n14_0,n14_1,n14_2,n14_3,EJ,EK,CU,CV,CW]<;>(repeat' apply A7)<;>first|rfl|exact⟨_,rfl⟩|exact⟨_,_,rfl⟩|simp [AR,A9]
 ·rw [if_neg e10]at h
  obtain rfl:=Option.some.inj h
  simp (maxDischargeDepth:=9) only [↓AP,AQ,Ae,↓reduceIte,bh,bj,bk,bl,bm,bo,bp,br,bt,bw,bx,bO,b0,b3,b4,b5,b6,m0,m1,m2,m3,e10,EJ,EK,CU,CV,CW]<;>(repeat' apply A7)<;>first|rfl|exact⟨_,rfl⟩|exact⟨_,_,rfl⟩|simp [AR,A9]
theorem WM(A8:Aq)(AL:AO)(AA:AO){r:Bool}(h:QL A8 AL AA=some r):Y.call 60 [D.agg [b7 123 (AR (fun x=>b7 125 (Ay .i64 .i64 x)) A8),b7 3 (AR (bd .i64) AL),b7 3 (AR (bd .i64) AA)]] []=some (ca r,[]):=by
 refine c60 ?_ rfl;unfold k60;unfold QL at h;have c1:=Kl (A8.length:Int) (1:Int) (40:Int);by_cases e2:(JB (A8.length:Int) (1:Int) (40:Int))=true
 ·rw [if_pos e2]at h;obtain⟨e3,h⟩:=BS h;have c4:=fH AL (A8.length:Int) e3;by_cases e5:(PR AL (A8.length:Int))=true
  ·rw [if_pos e5]at h;by_cases e6:(AA.length:Int)=(A8.length:Int)
   ·rw [if_pos e6]at h;obtain⟨e7,h⟩:=BS h;have c8:=UR AA (0:Int) (9:Int) e7;by_cases e9:(EF AA (0:Int) (9:Int))=true
    ·rw [if_pos e9]at h;obtain⟨Ce,hl11,h⟩:=Av h;try dsimp only at h
     simp (maxDischargeDepth:=9) only [↓AP,AQ,Ae,↓reduceIte,bh,bj,bk,bl,bm,bo,bp,br,bt,bw,bx,bO,b0,b3,b4,b5,b6,c1,e2,e3,c4,e5,decide_eq_true e6,e7,c8,e9];refine BB (Uo A8 AL AA hl11 ?_) ?_
     ·simp (maxDischargeDepth:=9) only [↓AP,AQ,Ae,↓reduceIte,bh,bj,bk,bl,bm,bo,bp,br,bt,bw,bx,bO,b0,b3,b4,b5,b6,c1,e2,e3,c4,e5,decide_eq_true e6,e7,c8,e9,EJ]<;>(repeat' apply A7)<;>first|rfl|exact⟨_,rfl⟩|exact⟨_,_,rfl⟩|simp [AR,A9]
     ·intro ex11 s11 hX11;rcases Ce with q1001_|q1001_
      ·unfold EK at hX11;dsimp only at hX11 h;obtain⟨rfl,n11_0⟩:=hX11
       obtain rfl:=Option.some.inj h
       simp (maxDischargeDepth:=9) only [↓AP,AQ,Ae,↓reduceIte,bh,bj,bk,bl,bm,bo,bp,br,bt,bw,bx,bO,b0,b3,b4,b5,b6,c1,e2,e3,c4,e5,decide_eq_true e6,e7,c8,e9,n11_0]<;>(repeat' apply A7)<;>first|rfl|exact⟨_,rfl⟩|exact⟨_,_,rfl⟩|simp [AR,A9]
      ·unfold EK at hX11;dsimp only at hX11 h
       obtain rfl:=hX11
       obtain rfl:=Option.some.inj h
       simp (maxDischargeDepth:=9) only [↓AP,AQ,Ae,↓reduceIte,bh,bj,bk,bl,bm,bo,bp,br,bt,bw,bx,bO,b0,b3,b4,b5,b6,c1,e2,e3,c4,e5,decide_eq_true e6,e7,c8,e9]<;>(repeat' apply A7)<;>first|rfl|exact⟨_,rfl⟩|exact⟨_,_,rfl⟩|simp [AR,A9]
    ·rw [if_neg e9]at h;have e9f:(EF AA (0:Int) (9:Int))=false:=JA.mpr e9
     obtain rfl:=Option.some.inj h
     simp (maxDischargeDepth:=9) only [↓AP,AQ,Ae,↓reduceIte,bh,bj,bk,bl,bm,bo,bp,br,bt,bw,bx,bO,b0,b3,b4,b5,b6,c1,e2,e3,c4,e5,decide_eq_true e6,e7,c8,e9f]<;>(repeat' apply A7)<;>first|rfl|exact⟨_,rfl⟩|exact⟨_,_,rfl⟩|simp [AR,A9]
   ·rw [if_neg e6]at h
    obtain rfl:=Option.some.inj h
    simp (maxDischargeDepth:=9) only [↓AP,AQ,Ae,↓reduceIte,bh,bj,bk,bl,bm,bo,bp,br,bt,bw,bx,bO,b0,b3,b4,b5,b6,c1,e2,e3,c4,e5,e6]<;>(repeat' apply A7)<;>first|rfl|exact⟨_,rfl⟩|exact⟨_,_,rfl⟩|simp [AR,A9]
  ·rw [if_neg e5]at h;have e5f:(PR AL (A8.length:Int))=false:=JA.mpr e5
   obtain rfl:=Option.some.inj h
   simp (maxDischargeDepth:=9) only [↓AP,AQ,Ae,↓reduceIte,bh,bj,bk,bl,bm,bo,bp,br,bt,bw,bx,bO,b0,b3,b4,b5,b6,c1,e2,e3,c4,e5f]<;>(repeat' apply A7)<;>first|rfl|exact⟨_,rfl⟩|exact⟨_,_,rfl⟩|simp [AR,A9]
 ·rw [if_neg e2]at h;have e2f:(JB (A8.length:Int) (1:Int) (40:Int))=false:=JA.mpr e2
  obtain rfl:=Option.some.inj h
  simp (maxDischargeDepth:=9) only [↓AP,AQ,Ae,↓reduceIte,bh,bj,bk,bl,bm,bo,bp,br,bt,bw,bx,bO,b0,b3,b4,b5,b6,c1,e2f]<;>(repeat' apply A7)<;>first|rfl|exact⟨_,rfl⟩|exact⟨_,_,rfl⟩|simp [AR,A9]
def QM(es:Aq)(v i:Nat):Bool:=
 JB (BH (es.getD v be) i) 0 ((es.length:Int)-1)&&
 (JB (CK (es.getD v be) i) 0 (((es.getD (BH (es.getD v be) i).toNat be).length:Int)-1)&&
 ((BH (es.getD (BH (es.getD v be) i).toNat be) (CK (es.getD v be) i).toNat==(v:Int))&&(CK (es.getD (BH (es.getD v be) i).toNat be) (CK (es.getD v be) i).toNat==(i:Int))))
theorem R6(es:Aq)(v i:Nat):QM es v i=(JB (BH (es.getD v be) i) 0 ((es.length:Int)-1)&&
 (JB (CK (es.getD v be) i) 0 (((es.getD (BH (es.getD v be) i).toNat be).length:Int)-1)&&
 ((BH (es.getD (BH (es.getD v be) i).toNat be) (CK (es.getD v be) i).toNat==(v:Int))&&(CK (es.getD (BH (es.getD v be) i).toNat be) (CK (es.getD v be) i).toNat==(i:Int))))):=rfl
def QN(es:Aq)(v:Nat):Bool:=decide ((es.getD v be).length≤6)&&(an (es.getD v be).length).all (QM es v)
theorem OX(es:Aq)(v:Nat):QN es v=(decide ((es.getD v be).length≤6)&&(an (es.getD v be).length).all (QM es v)):=rfl
def Il(es:Aq)(ids ins:AO):Bool:=
 JB es.length 1 40&&(PR ids es.length&&(decide ((ins.length:Int)=es.length)&&(EF ins 0 9&&(an es.length).all (QN es))))
theorem pO(es:Aq)(ids ins:AO)(h:CX es)(v:Nat):I7 es ids ins (v:Int) 0=some (if(an (es.getD v be).length).all (QM es v)=true then .inr ()else .inl ()):=by
 have h1:=h.1;have h2:=h.getD v;unfold I7;refine Iz (fun x=>EP es ids ins (v:Int) x) (fun i=>(i:Int)) (es.getD v be).length (QM es v) (.inl ()) (.inr ()) ?_ ?_
 ·intro i hi;have h3:=h.getD (BH (es.getD v be) i).toNat;simp only [EP,Hf,He,JX];rw [R6,if_pos (Be hi),Bb (by omega),Cq,KI _ (by omega),KI _ (by omega),KO i (by omega)]
  cases r1:JB (BH (es.getD v be) i) 0 ((es.length:Int)-1)with
  |false=>simp
  |true=>
   have r1':=KW.1 r1;rw [if_pos rfl,Bb (by omega),Cq]
   cases r2:JB (CK (es.getD v be) i) 0 (((es.getD (BH (es.getD v be) i).toNat be).length:Int)-1)with
   |false=>simp
   |true=>
    have r2':=KW.1 r2;rw [if_pos rfl,Bb (by omega),Bb (by omega),PZ,PZ]
 ·simp only [EP,JX];rw [if_neg (Am _)]
theorem pQ(es:Aq)(ids ins:AO)(h:CX es)(v:Nat):K4 es ids ins (v:Int) 0=some (if(an (es.getD v be).length).all (QM es v)=true then .inr ()else .inl ()):=by
 have h1:=h.1;have h2:=h.getD v;unfold K4;refine Iz (fun x=>Gp es ids ins (v:Int) x) (fun i=>(i:Int)) (es.getD v be).length (QM es v) (.inl ()) (.inr ()) ?_ ?_
 ·intro i hi;have h3:=h.getD (BH (es.getD v be) i).toNat;simp only [Gp,JX];rw [R6,if_pos (Be hi),Bb (by omega),KI _ (by omega),KI _ (by omega),KO i (by omega)]
  cases r1:JB (BH (es.getD v be) i) 0 ((es.length:Int)-1)with
  |false=>simp
  |true=>
   have r1':=KW.1 r1;rw [if_pos rfl,Bb (by omega)]
   cases r2:JB (CK (es.getD v be) i) 0 (((es.getD (BH (es.getD v be) i).toNat be).length:Int)-1)with
   |false=>simp
   |true=>
    have r2':=KW.1 r2;rw [if_pos rfl,Bb (by omega),PZ,PZ]
 ·simp only [Gp,JX];rw [if_neg (Am _)]
theorem pR(es:Aq)(ids ins:AO)(h:CX es):I8 es ids ins 0=some (if(an es.length).all (QN es)=true then .inr ()else .inl ()):=by
 have h1:=h.1;unfold I8;refine Iz (fun x=>EQ es ids ins x) (fun i=>(i:Int)) es.length (QN es) (.inl ()) (.inr ()) ?_ ?_
 ·intro v hv;simp only [EQ,JX];rw [OX,if_pos (Be hv),Bb (by omega),pO es ids ins h v,Cq,KO v (by omega)]
  by_cases h6:(es.getD v be).length≤6
  ·rw [if_neg (by omega),decide_eq_true h6,PZ]
   cases (an (es.getD v be).length).all (QM es v)<;>rfl
  ·rw [if_pos (by omega),decide_eq_false h6];rfl
 ·simp only [EQ];rw [if_neg (Am _)]
theorem pU(es:Aq)(ids ins:AO)(h:CX es):K5 es ids ins 0=some (if(an es.length).all (QN es)=true then .inr ()else .inl ()):=by
 have h1:=h.1;unfold K5;refine Iz (fun x=>Gq es ids ins x) (fun i=>(i:Int)) es.length (QN es) (.inl ()) (.inr ()) ?_ ?_
 ·intro v hv;simp only [Gq,JX];rw [OX,if_pos (Be hv),Bb (by omega),pQ es ids ins h v,Cq,KO v (by omega)]
  by_cases h6:(es.getD v be).length≤6
  ·rw [if_neg (by omega),decide_eq_true h6,PZ]
   cases (an (es.getD v be).length).all (QM es v)<;>rfl
  ·rw [if_pos (by omega),decide_eq_false h6];rfl
 ·simp only [Gq];rw [if_neg (Am _)]
theorem Uq(es:Aq)(ids ins:AO)(h:CX es)(h2:ids.length<1099511627776)(h3:ins.length<1099511627776):Lc es ids ins=some (Il es ids ins):=by
 unfold Lc Il;rw [Bb h2,pR es ids ins h];unfold Mt;rw [Bb h3]
 cases JB es.length 1 40 with
 |false=>rfl
 |true=>
  cases PR ids es.length with
  |false=>rfl
  |true=>
   by_cases hl:(ins.length:Int)=es.length
   ·rw [if_pos hl,decide_eq_true hl]
    cases EF ins 0 9 with
    |false=>rfl
    |true=>cases (an es.length).all (QN es)<;>rfl
   ·rw [if_neg hl,decide_eq_false hl];rfl
theorem aX(es:Aq)(ids ins:AO)(h:CX es)(h2:ids.length<1099511627776)(h3:ins.length<1099511627776):QL es ids ins=some (Il es ids ins):=by
 unfold QL Il;rw [Bb h2,Bb h3,pU es ids ins h]
 cases JB es.length 1 40 with
 |false=>rfl
 |true=>
  cases PR ids es.length with
  |false=>rfl
  |true=>
   by_cases hl:(ins.length:Int)=es.length
   ·rw [if_pos hl,decide_eq_true hl]
    cases EF ins 0 9 with
    |false=>rfl
    |true=>cases (an es.length).all (QN es)<;>rfl
   ·rw [if_neg hl,decide_eq_false hl];rfl
theorem Ur(A8:Aq)(AL:AO)(AA:AO)(h0:CX A8)(h1:AL.length<1099511627776)(h2:AA.length<1099511627776):Y.call 67 [D.agg [b7 123 (AR (fun x=>b7 125 (Ay .i64 .i64 x)) A8),b7 3 (AR (bd .i64) AL),b7 3 (AR (bd .i64) AA)]] []=some (ca (Il A8 AL AA),[]):=R5 A8 AL AA (Uq A8 AL AA h0 h1 h2)
theorem aY(A8:Aq)(AL:AO)(AA:AO)(h0:CX A8)(h1:AL.length<1099511627776)(h2:AA.length<1099511627776):Y.call 60 [D.agg [b7 123 (AR (fun x=>b7 125 (Ay .i64 .i64 x)) A8),b7 3 (AR (bd .i64) AL),b7 3 (AR (bd .i64) AA)]] []=some (ca (Il A8 AL AA),[]):=WM A8 AL AA (aX A8 AL AA h0 h1 h2)
def D7(AC:Aq)(Br:Int)(out1:List (Int×Int×Int×Int))(KL:Int):Option (((List (Int×Int×Int×Int))×Int)⊕((List (Int×Int×Int×Int)))):= if KL<((AC.getD Br.toNat be).length:Int)then ck (0≤KL∧KL.toNat<(AC.getD Br.toNat be).length)<| if Br<(BH (AC.getD Br.toNat be) KL.toNat)then ck (out1.length*4+4<1099511627776)<| some (cc ((out1++[(Br,KL,(BH (AC.getD Br.toNat be) KL.toNat),(CK (AC.getD Br.toNat be) KL.toNat))]),cd.wrap (KL+1))) else if Br=(BH (AC.getD Br.toNat be) KL.toNat)then if KL≤(CK (AC.getD Br.toNat be) KL.toNat)then ck (out1.length*4+4<1099511627776)<| some (cc ((out1++[(Br,KL,(BH (AC.getD Br.toNat be) KL.toNat),(CK (AC.getD Br.toNat be) KL.toNat))]),cd.wrap (KL+1))) else some (cc (out1,cd.wrap (KL+1))) else some (cc (out1,cd.wrap (KL+1))) else some (b8 out1)
def Ed(AC:Aq)(Br:Int)(v:(List (Int×Int×Int×Int))×Int):Option ((List (Int×Int×Int×Int))):=Iy (fun v=>D7 AC Br v.1 v.2) v
def D8(AC:Aq)(out:List (Int×Int×Int×Int))(Br:Int):Option (((List (Int×Int×Int×Int))×Int)⊕((List (Int×Int×Int×Int)))):= if Br<(AC.length:Int)then ck (0≤Br∧Br.toNat<AC.length)<| (Ed AC Br (out,0)).bind fun AX=> some (cc (AX,cd.wrap (Br+1))) else some (b8 out)
def GK(AC:Aq)(v:(List (Int×Int×Int×Int))×Int):Option ((List (Int×Int×Int×Int))):=Iy (fun v=>D8 AC v.1 v.2) v
def GV(AC:Aq)(AY:AO)(AB:AO):Option ((List (Int×Int×Int×Int))):= (GK AC ([],0)).bind fun Ce=> some Ce
def Us:SC:= .seq (.ops [oB 19 .lss 3 (tK 18) (tK 17) 3 0]) (.seq (.cond (tK 19) .skip (.exit 2)) (.seq (.block 3 (.seq (.ops [oM 20 18 3,oI 21 123 16 18,oL 22 125 21 125,oX 7 (.alloc 125) 0,oA 6 20 3,oS 125 7 22]) (.seq (.ops [oM 23 4 3,oF 24 125 7 0,oL 25 3 24 3,oB 26 .lss 3 (tK 23) (tK 25) 3 4,oM 27 26 4,⟨(some 28),(.move (tK 4)),3,(some (some 27,false))⟩,⟨(some 29),(.fieldAddr 125 (tK 7) 0),0,(some (some 27,false))⟩,⟨(some 30),(.load 3 (tK 29)),3,(some (some 27,false))⟩,⟨(some 31),(.binOp .eql 3 (tK 28) (tK 30) 3),4,(some (some 27,false))⟩,⟨(some 32),(.move (tK 31)),4,(some (some 27,false))⟩,⟨(some 33),(.move (tK 6)),3,(some (some 32,true))⟩,⟨(some 34),(.fieldAddr 125 (tK 7) 1),0,(some (some 32,true))⟩,⟨(some 35),(.load 3 (tK 34)),3,(some (some 32,true))⟩,⟨(some 36),(.binOp .leq 3 (tK 33) (tK 35) 3),4,(some (some 32,true))⟩,⟨(some 37),(.pick (tK 32) (tK 36) PO),4,(some (some 27,false))⟩,oX 38 (.pick (tK 27) Eh (tK 37)) 4]) (.cond (tK 38) (.ops [oM 39 3 135,oM 40 4 3,oM 41 6 3,oF 42 125 7 0,oL 43 3 42 3,oF 44 125 7 1,oL 45 3 44 3,oX 46 (.build 137 #[(0,(tK 40)),(1,(tK 41)),(2,(tK 43)),(3,(tK 45))]) 137,oX 47 (.buildSlice 135 1 #[(0,(tK 46))]) 135,oX 48 (.call ⟨(.builtin .append), #[(tK 39),(tK 47)], #[135,135]⟩) 135,
 oA 3 48 135]) .skip)))) (.ops [oB 49 .add 3 (tK 18) (iK 1) 3 3,oM 18 49 3])))
def iC:SC:= .loop Us
def Ut:SC:= .seq (.ops [oB 12 .lss 3 (tK 11) (tK 10) 3 0]) (.seq (.cond (tK 12) .skip (.exit 0)) (.seq (.block 1 (.seq (.ops [oM 13 11 3,oI 14 45 9 11,oL 15 123 14 123,oA 4 13 3,oA 5 15 123]) (.seq (.ops [oM 16 5 123,oN 17 16 123,oX 18 (.move (iK 0)) 3]) (.block 2 iC)))) (.ops [oB 50 .add 3 (tK 11) (iK 1) 3 3,oM 11 50 3])))
def iD:SC:= .loop Ut
def A34:SC:= .seq (.ops [oX 1 (.box 47 (tK 0)) 0,oX 2 Kz 135]) (.seq (.ops [oX 3 Kz 135]) (.seq (.seq (.ops [oF 8 47 1 0,oL 9 45 8 45,oN 10 9 45,oX 11 (.move (iK 0)) 3]) (.block 0 iD)) (.seq (.ops [oM 51 3 135,oA 2 51 135]) .ret)))
theorem uG:Try.f118.body.map (Bc lends)=some A34:=by kernel_rfl
theorem AA3:Bn Try.f118 1=true:=by kernel_rfl
theorem AFU{a l:List D}{r:D×List D}(h:Bq Y.env A34 (F9 Ab l.length [cb 2] r) (entry a l))(ha:a.length=1):Y.call 118 a l=some r:=
 Aa (Y:=Y) rfl Try.func118 (ha▸AA3) uG h
def Bf(AC:Aq)(Br:Int)(out1:List (Int×Int×Int×Int))(KL:Int)(s:St):Prop:=s.v 3=b9 137 (LH out1)∧s.v 4=bd .i64 Br∧s.v 9=b7 123 (AR (fun x=>b7 125 (Ay .i64 .i64 x)) AC)∧s.v 10=bd .i64 (AC.length:Int)∧s.v 11=bd .i64 Br∧s.v 16=b7 125 (Ay .i64 .i64 (AC.getD Br.toNat be))∧s.v 17=bd .i64 ((AC.getD Br.toNat be).length:Int)∧s.v 18=bd .i64 KL
def Bz(AC:Aq)(Br:Int)(r:(List (Int×Int×Int×Int)))(ex:Ex)(s:St):Prop:=ex= .exit 2∧s.v 3=b9 137 (LH r)∧s.v 9=b7 123 (AR (fun x=>b7 125 (Ay .i64 .i64 x)) AC)∧s.v 10=bd .i64 (AC.length:Int)∧s.v 11=bd .i64 Br
theorem NS(AC:Aq)(Br:Int){v:(List (Int×Int×Int×Int))×Int}{s:St}{r:(List (Int×Int×Int×Int))}(h:Ed AC Br v=some r)(hM:Bf AC Br v.1 v.2 s):Bq Y.env iC (Bz AC Br r) s:=by
 unfold Ed at h;refine BV (c:=Us) (fun v=>D7 AC Br v.1 v.2) (fun v s=>Bf AC Br v.1 v.2 s) (Bz AC Br) ?_ h hM;clear h hM s v r;intro v s o hM h;obtain⟨out1,KL⟩:=v;dsimp only at h hM;unfold D7 at h;unfold Bf at hM;obtain⟨m0,m1,m2,m3,m4,m5,m6,m7⟩:=hM;unfold Us;by_cases e3:KL<((AC.getD Br.toNat be).length:Int)
 ·rw [if_pos e3]at h;obtain⟨e4,h⟩:=BS h;by_cases e5:Br<(BH (AC.getD Br.toNat be) KL.toNat)
  ·rw [if_pos e5]at h;obtain⟨e6,h⟩:=BS h
   obtain rfl:=Option.some.inj h
   simp (maxDischargeDepth:=9) only [↓AP,AQ,Ae,↓reduceIte,bh,bj,bk,bl,bm,bo,bp,br,bt,bw,bx,bO,b0,b3,b4,b5,b6,m0,m1,m2,m3,m4,m5,m6,m7,e3,e4.1,e4.2,e5,e6,Bf,Bz,CU,CV,CW]<;>(repeat' apply A7)<;>first|rfl|exact⟨_,rfl⟩|exact⟨_,_,rfl⟩|simp [AR,A9]
  ·rw [if_neg e5]at h;by_cases e6:Br=(BH (AC.getD Br.toNat be) KL.toNat)
   ·rw [if_pos e6]at h;by_cases e7:KL≤(CK (AC.getD Br.toNat be) KL.toNat)
    ·rw [if_pos e7]at h;obtain⟨e8,h⟩:=BS h
     obtain rfl:=Option.some.inj h
     simp (maxDischargeDepth:=9) only [↓AP,AQ,Ae,↓reduceIte,bh,bj,bk,bl,bm,bo,bp,br,bt,bw,bx,bO,b0,b3,b4,b5,b6,m0,m1,m2,m3,m4,m5,m6,m7,e3,e4.1,e4.2,e5,decide_eq_true e6,e7,e8,Bf,Bz,CU,CV,CW]<;>(repeat' apply A7)<;>first|rfl|exact⟨_,rfl⟩|exact⟨_,_,rfl⟩|simp [AR,A9]
    ·rw [if_neg e7]at h
     obtain rfl:=Option.some.inj h
     simp (maxDischargeDepth:=9) only [↓AP,AQ,Ae,↓reduceIte,bh,bj,bk,bl,bm,bo,bp,br,bt,bw,bx,bO,b0,b3,b4,b5,b6,m0,m1,m2,m3,m4,m5,m6,m7,e3,e4.1,e4.2,e5,decide_eq_true e6,e7,Bf,Bz,CU,CV,CW]<;>(repeat' apply A7)<;>first|rfl|exact⟨_,rfl⟩|exact⟨_,_,rfl⟩|simp [AR,A9]
   ·rw [if_neg e6]at h
    obtain rfl:=Option.some.inj h
    simp (maxDischargeDepth:=9) only [↓AP,AQ,Ae,↓reduceIte,bh,bj,bk,bl,bm,bo,bp,br,bt,bw,bx,bO,b0,b3,b4,b5,b6,m0,m1,m2,m3,m4,m5,m6,m7,e3,e4.1,e4.2,e5,e6,Bf,Bz,CU,CV,CW]<;>(repeat' apply A7)<;>first|rfl|exact⟨_,rfl⟩|exact⟨_,_,rfl⟩|simp [AR,A9]
 ·rw [if_neg e3]at h
  obtain rfl:=Option.some.inj h
  simp (maxDischargeDepth:=9) only [↓AP,AQ,Ae,↓reduceIte,bh,bj,bk,bl,bm,bo,bp,br,bt,bw,bx,bO,b0,b3,b4,b5,b6,m0,m1,m2,m3,m4,m5,m6,m7,e3,Bf,Bz,CU,CV,CW]<;>(repeat' apply A7)<;>first|rfl|exact⟨_,rfl⟩|exact⟨_,_,rfl⟩|simp [AR,A9]
def D9(AC:Aq)(out:List (Int×Int×Int×Int))(Br:Int)(s:St):Prop:=s.v 3=b9 137 (LH out)∧s.v 9=b7 123 (AR (fun x=>b7 125 (Ay .i64 .i64 x)) AC)∧s.v 10=bd .i64 (AC.length:Int)∧s.v 11=bd .i64 Br
def Dp(AC:Aq)(r:(List (Int×Int×Int×Int)))(ex:Ex)(s:St):Prop:=ex= .exit 0∧s.v 3=b9 137 (LH r)
theorem NT(AC:Aq){v:(List (Int×Int×Int×Int))×Int}{s:St}{r:(List (Int×Int×Int×Int))}(h:GK AC v=some r)(hM:D9 AC v.1 v.2 s):Bq Y.env iD (Dp AC r) s:=by
 unfold GK at h;refine BV (c:=Ut) (fun v=>D8 AC v.1 v.2) (fun v s=>D9 AC v.1 v.2 s) (Dp AC) ?_ h hM;clear h hM s v r;intro v s o hM h;obtain⟨out,Br⟩:=v;dsimp only at h hM;unfold D8 at h;unfold D9 at hM;obtain⟨m0,m1,m2,m3⟩:=hM;unfold Ut;by_cases e1:Br<(AC.length:Int)
 ·rw [if_pos e1]at h;obtain⟨e2,h⟩:=BS h;obtain⟨AX,hl4,h⟩:=Av h;try dsimp only at h
  simp (maxDischargeDepth:=9) only [↓AP,AQ,Ae,↓reduceIte,bh,bj,bk,bl,bm,bo,bp,br,bt,bw,bx,bO,b0,b3,b4,b5,b6,m0,m1,m2,m3,e1,e2.1,e2.2];refine BB (NS AC Br hl4 ?_) ?_
  ·simp (maxDischargeDepth:=9) only [↓AP,AQ,Ae,↓reduceIte,bh,bj,bk,bl,bm,bo,bp,br,bt,bw,bx,bO,b0,b3,b4,b5,b6,m0,m1,m2,m3,e1,e2.1,e2.2,Bf]<;>(repeat' apply A7)<;>first|rfl|exact⟨_,rfl⟩|exact⟨_,_,rfl⟩|simp [AR,A9]
  ·intro ex4 s4 hX4;unfold Bz at hX4;obtain⟨rfl,n4_0,n4_1,n4_2,n4_3⟩:=hX4
   obtain rfl:=Option.some.inj h
   simp (maxDischargeDepth:=9) only [↓AP,AQ,Ae,↓reduceIte,bh,bj,bk,bl,bm,bo,bp,br,bt,bw,bx,bO,b0,b3,b4,b5,b6,e1,e2.1,e2.2,n4_0,n4_1,n4_2,n4_3,D9,Dp,CU,CV,CW]<;>(repeat' apply A7)<;>first|rfl|exact⟨_,rfl⟩|exact⟨_,_,rfl⟩|simp [AR,A9]
 ·rw [if_neg e1]at h
  obtain rfl:=Option.some.inj h
  simp (maxDischargeDepth:=9) only [↓AP,AQ,Ae,↓reduceIte,bh,bj,bk,bl,bm,bo,bp,br,bt,bw,bx,bO,b0,b3,b4,b5,b6,m0,m1,m2,m3,e1,D9,Dp,CU,CV,CW]<;>(repeat' apply A7)<;>first|rfl|exact⟨_,rfl⟩|exact⟨_,_,rfl⟩|simp [AR,A9]
theorem O9(AC:Aq)(AY:AO)(AB:AO){r:(List (Int×Int×Int×Int))}(h:GV AC AY AB=some r):Y.call 118 [D.agg [b7 123 (AR (fun x=>b7 125 (Ay .i64 .i64 x)) AC),b7 3 (AR (bd .i64) AY),b7 3 (AR (bd .i64) AB)]] []=some (b9 137 (LH r),[]):=by
 refine AFU ?_ rfl;unfold A34;unfold GV at h;obtain⟨Ce,hl2,h⟩:=Av h;try dsimp only at h
 simp (maxDischargeDepth:=9) only [↓AP,AQ,Ae,↓reduceIte,bh,bj,bk,bl,bm,bo,bp,br,bt,bw,bx,bO,b0,b3,b4,b5,b6];refine BB (NT AC hl2 ?_) ?_
 ·simp (maxDischargeDepth:=9) only [↓AP,AQ,Ae,↓reduceIte,bh,bj,bk,bl,bm,bo,bp,br,bt,bw,bx,bO,b0,b3,b4,b5,b6,D9]<;>(repeat' apply A7)<;>first|rfl|exact⟨_,rfl⟩|exact⟨_,_,rfl⟩|simp [AR,A9]
 ·intro ex2 s2 hX2;unfold Dp at hX2;obtain⟨rfl,n2_0⟩:=hX2
  obtain rfl:=Option.some.inj h
  simp (maxDischargeDepth:=9) only [↓AP,AQ,Ae,↓reduceIte,bh,bj,bk,bl,bm,bo,bp,br,bt,bw,bx,bO,b0,b3,b4,b5,b6,n2_0]<;>(repeat' apply A7)<;>first|rfl|exact⟨_,rfl⟩|exact⟨_,_,rfl⟩|simp [AR,A9]
def AZ(s_:List (Int×Int×Int×Int))(f:Int→Int→Int→Int→Option Bool)(FT:Int):Option ((Int)⊕(Int⊕Unit)):= if FT<(s_.length:Int)then ck (0≤FT∧FT.toNat<s_.length)<| (f (q4a s_ FT.toNat) (q4b s_ FT.toNat) (q4c s_ FT.toNat) (q4d s_ FT.toNat)).bind fun Qx=> if Qx=true then some (b8 (cc FT)) else some (cc (cd.wrap (FT+1))) else some (b8 (b8 ()))
def Af(s_:List (Int×Int×Int×Int))(f:Int→Int→Int→Int→Option Bool)(v:Int):Option (Int⊕Unit):=Iy (fun v=>AZ s_ f v) v
def Ah(s_:List (Int×Int×Int×Int))(f:Int→Int→Int→Int→Option Bool):Option (Int):=
 (Af s_ f 0).bind fun AX=>
 match AX with
 | .inl q1000_=>
  some q1000_
 | .inr q1000_=>
  some (-1)
def Uu:SC:= .seq (.ops [oB 9 .lss 3 (tK 8) (tK 7) 3 0]) (.seq (.cond (tK 9) .skip (.exit 0)) (.seq (.block 1 (.seq (.ops [oM 10 8 3,oA 5 10 3]) (.seq (.ops [oM 11 1 139,oM 12 0 135,oM 13 5 3,oI 14 135 12 13,oL 15 137 14 137,oX 16 (.call ⟨(.value (tK 11)), #[(tK 15)], #[137]⟩) 4]) (.cond (tK 16) (.seq (.ops [oM 17 5 3,oA 4 17 3]) .ret) .skip)))) (.ops [oB 18 .add 3 (tK 8) (iK 1) 3 3,oM 8 18 3])))
def iE:SC:= .loop Uu
def A35:SC:= .seq (.ops [oX 4 (.assign (iK 0)) 3]) (.seq (.seq (.ops [oM 6 0 135,oN 7 6 135,oX 8 (.move (iK 0)) 3]) (.block 0 iE)) (.seq (.ops [oX 4 O7 3]) .ret))
theorem uH:Try.f156.body.map (Bc lends)=some A35:=by kernel_rfl
theorem AA4:Bn Try.f156 2=true:=by kernel_rfl
theorem AFV{a l:List D}{r:D×List D}(h:Bq Y.env A35 (F9 Ab l.length [cb 4] r) (entry a l))(ha:a.length=2):Y.call 156 a l=some r:=
 Aa (Y:=Y) rfl Try.func156 (ha▸AA4) uH h
def AU(s_:List (Int×Int×Int×Int))(f:Int→Int→Int→Int→Option Bool)(f_f:FuncId)(f_c:List D)(FT:Int)(s:St):Prop:=s.v 0=b7 137 (LH s_)∧s.v 1=D.clo f_f f_c∧s.v 7=bd .i64 (s_.length:Int)∧s.v 8=bd .i64 FT
def AV(s_:List (Int×Int×Int×Int))(f:Int→Int→Int→Int→Option Bool)(f_f:FuncId)(f_c:List D)(r:Int⊕Unit)(ex:Ex)(s:St):Prop:=match r with
 | .inl q=>ex= .ret∧s.v 4=bd .i64 q
 | .inr q=>ex= .exit 0
theorem Bo(s_:List (Int×Int×Int×Int))(f:Int→Int→Int→Int→Option Bool)(f_f:FuncId)(f_c:List D)(f_h: ∀(a0_0:Int) (a0_1:Int) (a0_2:Int) (a0_3:Int) (r:Bool),f a0_0 a0_1 a0_2 a0_3=some r→Y.call f_f (D.agg [bd .i64 a0_0,bd .i64 a0_1,bd .i64 a0_2,bd .i64 a0_3]::f_c) []=some (ca r,[]))(f_l:lends f_f=false){v:Int}{s:St}{r:Int⊕Unit}(h:Af s_ f v=some r)(hM:AU s_ f f_f f_c v s):Bq Y.env iE (AV s_ f f_f f_c r) s:=by
 unfold Af at h;refine BV (c:=Uu) (fun v=>AZ s_ f v) (fun v s=>AU s_ f f_f f_c v s) (AV s_ f f_f f_c) ?_ h hM;clear h hM s v r;intro FT s o hM h;unfold AZ at h;unfold AU at hM;obtain⟨m0,m1,m2,m3⟩:=hM;unfold Uu;by_cases e1:FT<(s_.length:Int)
 ·rw [if_pos e1]at h;obtain⟨e2,h⟩:=BS h;obtain⟨Qx,hl3,h⟩:=Av h;try dsimp only at h
  have c3:=f_h _ _ _ _ _ hl3;by_cases e4:Qx=true
  ·rw [if_pos e4]at h
   obtain rfl:=Option.some.inj h
   simp (maxDischargeDepth:=9) only [↓AP,AQ,Ae,↓reduceIte,bh,bj,bk,bl,bm,bo,bp,br,bt,bw,bx,bO,b0,b3,b4,b5,b6,m0,m1,m2,m3,f_l,e1,e2.1,e2.2,c3,e4,AU,AV,CU,CV,CW]<;>(repeat' apply A7)<;>first|rfl|exact⟨_,rfl⟩|exact⟨_,_,rfl⟩|simp [AR,A9]
  ·rw [if_neg e4]at h;have e4f:Qx=false:=JA.mpr e4
   obtain rfl:=Option.some.inj h
   simp (maxDischargeDepth:=9) only [↓AP,AQ,Ae,↓reduceIte,bh,bj,bk,bl,bm,bo,bp,br,bt,bw,bx,bO,b0,b3,b4,b5,b6,m0,m1,m2,m3,f_l,e1,e2.1,e2.2,c3,e4f,AU,AV,CU,CV,CW]<;>(repeat' apply A7)<;>first|rfl|exact⟨_,rfl⟩|exact⟨_,_,rfl⟩|simp [AR,A9]
 ·rw [if_neg e1]at h
  obtain rfl:=Option.some.inj h
  simp (maxDischargeDepth:=9) only [↓AP,AQ,Ae,↓reduceIte,bh,bj,bk,bl,bm,bo,bp,br,bt,bw,bx,bO,b0,b3,b4,b5,b6,m0,m1,m2,m3,f_l,e1,AU,AV,CU,CV,CW]<;>(repeat' apply A7)<;>first|rfl|exact⟨_,rfl⟩|exact⟨_,_,rfl⟩|simp [AR,A9]
theorem Bt(s_:List (Int×Int×Int×Int))(f:Int→Int→Int→Int→Option Bool)(f_f:FuncId)(f_c:List D)(f_h: ∀(a0_0:Int) (a0_1:Int) (a0_2:Int) (a0_3:Int) (r:Bool),f a0_0 a0_1 a0_2 a0_3=some r→Y.call f_f (D.agg [bd .i64 a0_0,bd .i64 a0_1,bd .i64 a0_2,bd .i64 a0_3]::f_c) []=some (ca r,[]))(f_l:lends f_f=false){r:Int}(h:Ah s_ f=some r):Y.call 156 [b7 137 (LH s_),D.clo f_f f_c] []=some (bd .i64 r,[]):=by
 refine AFV ?_ rfl;unfold A35;unfold Ah at h;obtain⟨AX,hl2,h⟩:=Av h;try dsimp only at h
 simp (maxDischargeDepth:=9) only [↓AP,AQ,Ae,↓reduceIte,bh,bj,bk,bl,bm,bo,bp,br,bt,bw,bx,bO,b0,b3,b4,b5,b6,f_l];refine BB (Bo s_ f f_f f_c f_h f_l hl2 ?_) ?_
 ·simp (maxDischargeDepth:=9) only [↓AP,AQ,Ae,↓reduceIte,bh,bj,bk,bl,bm,bo,bp,br,bt,bw,bx,bO,b0,b3,b4,b5,b6,f_l,AU]<;>(repeat' apply A7)<;>first|rfl|exact⟨_,rfl⟩|exact⟨_,_,rfl⟩|simp [AR,A9]
 ·intro ex2 s2 hX2;rcases AX with q1000_|q1000_
  ·unfold AV at hX2;dsimp only at hX2 h;obtain⟨rfl,n2_0⟩:=hX2
   obtain rfl:=Option.some.inj h
   simp (maxDischargeDepth:=9) only [↓AP,AQ,Ae,↓reduceIte,bh,bj,bk,bl,bm,bo,bp,br,bt,bw,bx,bO,b0,b3,b4,b5,b6,f_l,n2_0]<;>(repeat' apply A7)<;>first|rfl|exact⟨_,rfl⟩|exact⟨_,_,rfl⟩|simp [AR,A9]
  ·unfold AV at hX2;dsimp only at hX2 h
   obtain rfl:=hX2
   obtain rfl:=Option.some.inj h
   simp (maxDischargeDepth:=9) only [↓AP,AQ,Ae,↓reduceIte,bh,bj,bk,bl,bm,bo,bp,br,bt,bw,bx,bO,b0,b3,b4,b5,b6,f_l]<;>(repeat' apply A7)<;>first|rfl|exact⟨_,rfl⟩|exact⟨_,_,rfl⟩|simp [AR,A9]
def Ac(s_:List (Int×Int×Int×Int))(f:Int→Int→Int→Int→Option Bool):Option (Bool):= (Ah s_ f).bind fun ou=> some (decide (0≤ou))
def A36:SC:= .seq (.ops [oX 4 CF 4]) (.seq (.ops [oM 5 0 135,oM 6 1 139,oC 7 156 [(tK 5),(tK 6)] [135,139] 3,oB 8 .geq 3 (tK 7) (iK 0) 3 4,oA 4 8 4]) .ret)
theorem uI:Try.f117.body.map (Bc lends)=some A36:=by kernel_rfl
theorem AA5:Bn Try.f117 2=true:=by kernel_rfl
theorem AFW{a l:List D}{r:D×List D}(h:Bq Y.env A36 (F9 Ab l.length [cb 4] r) (entry a l))(ha:a.length=2):Y.call 117 a l=some r:=
 Aa (Y:=Y) rfl Try.func117 (ha▸AA5) uI h
theorem Bh(s_:List (Int×Int×Int×Int))(f:Int→Int→Int→Int→Option Bool)(f_f:FuncId)(f_c:List D)(f_h: ∀(a0_0:Int) (a0_1:Int) (a0_2:Int) (a0_3:Int) (r:Bool),f a0_0 a0_1 a0_2 a0_3=some r→Y.call f_f (D.agg [bd .i64 a0_0,bd .i64 a0_1,bd .i64 a0_2,bd .i64 a0_3]::f_c) []=some (ca r,[]))(f_l:lends f_f=false){r:Bool}(h:Ac s_ f=some r):Y.call 117 [b7 137 (LH s_),D.clo f_f f_c] []=some (ca r,[]):=by
 refine AFW ?_ rfl;unfold A36;unfold Ac at h;obtain⟨ou,hl1,h⟩:=Av h;try dsimp only at h
 have c1:=Bt s_ f f_f f_c f_h f_l hl1
 obtain rfl:=Option.some.inj h
 simp (maxDischargeDepth:=9) only [↓AP,AQ,Ae,↓reduceIte,bh,bj,bk,bl,bm,bo,bp,br,bt,bw,bx,bO,b0,b3,b4,b5,b6,f_l,c1]<;>(repeat' apply A7)<;>first|rfl|exact⟨_,rfl⟩|exact⟨_,_,rfl⟩|simp [AR,A9]
def MI(e_v:Int)(e_i:Int)(e_w:Int)(e_j:Int)(c0_:AO):Option (Bool):= ck (0≤e_v∧e_v.toNat<c0_.length)<| ck (0≤e_w∧e_w.toNat<c0_.length)<| some (decide ((c0_.getD e_v.toNat be)=(c0_.getD e_w.toNat be)))
abbrev l9:List Nat:=[4,5,6,7,8,9,10,11,12,13,14,3,14,14]
def A37:SC:= .seq (.ops [oX 2 (.box 137 (tK 0)) 0,oX 3 CF 4]) (.seq (.draws [(⟨[4,1,1],l9,[4]⟩,oL 4 26 1 26),(⟨[5,2,2],l9,[5]⟩,oF 5 137 2 0),(⟨[6,5,2],l9,[6]⟩,oL 6 3 5 3),(⟨[7,4,6,1,2],l9,[7]⟩,oI 7 26 4 6),(⟨[8,7,1],l9,[8]⟩,oL 8 3 7 3),(⟨[9,1,1],l9,[9]⟩,oL 9 26 1 26),(⟨[10,2,2],l9,[10]⟩,oF 10 137 2 2),(⟨[11,10,2],l9,[11]⟩,oL 11 3 10 3),(⟨[12,9,11,1,2],l9,[12]⟩,oI 12 26 9 11),(⟨[13,12,1],l9,[13]⟩,oL 13 3 12 3),(⟨[14,8,13,1,1],l9,[14]⟩,oB 14 .eql 3 (tK 8) (tK 13) 3 4),(⟨[3,14,14],l9,[3,14,14]⟩,oA 3 14 4)]) .ret)
theorem uJ:Try.f119.body.map (Bc lends)=some A37:=by kernel_rfl
theorem AA6:Bn Try.f119 2=true:=by kernel_rfl
theorem AFX{a l:List D}{r:D×List D}(h:Bq Y.env A37 (F9 Ab l.length [cb 3] r) (entry a l))(ha:a.length=2):Y.call 119 a l=some r:=
 Aa (Y:=Y) rfl Try.func119 (ha▸AA6) uJ h
theorem Uv(e_v:Int)(e_i:Int)(e_w:Int)(e_j:Int)(c0_:AO){r:Bool}(h:MI e_v e_i e_w e_j c0_=some r):Y.call 119 [D.agg [bd .i64 e_v,bd .i64 e_i,bd .i64 e_w,bd .i64 e_j],D.cptr [b7 3 (AR (bd .i64) c0_)]] []=some (ca r,[]):=by
 refine AFX ?_ rfl;unfold A37;unfold MI at h;obtain⟨e1,h⟩:=BS h;obtain⟨e2,h⟩:=BS h
 obtain rfl:=Option.some.inj h
 simp (maxDischargeDepth:=9) only [↓AP,AQ,Ae,↓reduceIte,bh,bj,bk,bl,bm,bo,bp,br,bt,bw,bx,bO,b0,b3,b4,b5,b6,e1.1,e1.2,e2.1,e2.2]<;>(repeat' apply A7)<;>first|rfl|exact⟨_,rfl⟩|exact⟨_,_,rfl⟩|simp [AR,A9]
def BX(s_:AO)(k:Int)(k1:Int)(k2:Int)(Ap:AO):Option ((Int×Int×AO)⊕(Int×AO)):= if k2<(((s_.length-k.toNat):Nat):Int)then ck (0≤k2∧k2.toNat<(s_.length-k.toNat))<| ck (k.toNat+(s_.length-k.toNat)≤Ap.length)<| ck (k.toNat+k2.toNat<Ap.length)<| ck (0≤cd.wrap (k2-1)∧(cd.wrap (k2-1)).toNat<(s_.length-k.toNat))<| ck (k.toNat+(cd.wrap (k2-1)).toNat<Ap.length)<| if(Ap.getD (k.toNat+k2.toNat) be)=(Ap.getD (k.toNat+(cd.wrap (k2-1)).toNat) be)then some (cc (k1,cd.wrap (k2+1),Ap)) else ck (0≤k1∧k1.toNat<Ap.length)<| some (cc (cd.wrap (k1+1),cd.wrap (k2+1),(Ap.set k1.toNat (Ap.getD (k.toNat+k2.toNat) be)))) else some (b8 (k1,Ap))
def CG(s_:AO)(k:Int)(v:Int×Int×AO):Option (Int×AO):=Iy (fun v=>BX s_ k v.1 v.2.1 v.2.2) v
def BZ(s_:AO)(k:Int):Option ((Int)⊕((AO)⊕Unit)):= if k<(s_.length:Int)then ck (0≤k∧k.toNat<s_.length)<| ck (0≤cd.wrap (k-1)∧(cd.wrap (k-1)).toNat<s_.length)<| if(s_.getD k.toNat be)=(s_.getD ((cd.wrap (k-1)).toNat) be)then ck (0≤k)<| ck (k.toNat≤s_.length)<| (CG s_ k (k,1,s_)).bind fun AX=> ck (0≤AX.1)<| ck (AX.1.toNat≤AX.2.length)<| ck (AX.1.toNat+(AX.2.length-AX.1.toNat)≤AX.2.length)<| ck (AX.1.toNat≤(vI AX.2 AX.1.toNat (List.replicate (AX.2.length-AX.1.toNat) 0)).length)<| some (b8 (cc ((vI AX.2 AX.1.toNat (List.replicate (AX.2.length-AX.1.toNat) 0)).take AX.1.toNat))) else some (cc (cd.wrap (k+1))) else some (b8 (b8 ()))
def Cs(s_:AO)(v:Int):Option ((AO)⊕Unit):=Iy (fun v=>BZ s_ v) v
def Ck(s_:AO):Option (AO):=
 if(s_.length:Int)<2 then
  some s_
 else
  (Cs s_ 1).bind fun Ce=>
  match Ce with
  | .inl q1001_=>
   some q1001_
  | .inr q1001_=>
   some s_
abbrev qj:List Nat:=[35,36,37,38,39,40,41,42,43,44]
def Uw:SC:= .seq (.seq (.ops [oM 29 5 3,oM 30 4 26,oN 31 30 26,oB 32 .lss 3 (tK 29) (tK 31) 3 4]) (.cond (tK 32) .skip (.exit 2))) (.seq (.block 3 (.seq (.draws [(⟨[35,4,4],qj,[35]⟩,oM 35 4 26),(⟨[36,5,5],qj,[36]⟩,oM 36 5 3),(⟨[37,35,36,4,5],qj,[37]⟩,oI 37 26 35 36),(⟨[38,37,4],qj,[38]⟩,oL 38 3 37 3),(⟨[39,4,4],qj,[39]⟩,oM 39 4 26),(⟨[40,5,5],qj,[40]⟩,oM 40 5 3),(⟨[41,40,5],qj,[41]⟩,oB 41 .sub 3 (tK 40) (iK 1) 3 3),(⟨[42,39,41,4,41],qj,[42]⟩,oI 42 26 39 41),(⟨[43,42,4],qj,[43]⟩,oL 43 3 42 3),(⟨[44,38,43,4,4],qj,[44]⟩,oB 44 .neq 3 (tK 38) (tK 43) 3 4)]) (.cond (tK 44) (.seq (.ops [oM 45 0 26,oM 46 3 3,oM 47 4 26,oM 48 5 3,oI 49 26 47 48,oL 50 3 49 3,oI 51 26 45 46,oS 3 51 50]) (.ops [oM 52 3 3,oB 53 .add 3 (tK 52) (iK 1) 3 3,oA 3 53 3])) .skip))) (.ops [oM 33 5 3,oB 34 .add 3 (tK 33) (iK 1) 3 3,oA 5 34 3]))
def iF:SC:= .loop Uw
abbrev WN:List Nat:=[16,17,18,19,20,21,22,23,24,25]
def Ux:SC:= .seq (.seq (.ops [oM 10 3 3,oM 11 0 26,oN 12 11 26,oB 13 .lss 3 (tK 10) (tK 12) 3 4]) (.cond (tK 13) .skip (.exit 0))) (.seq (.block 1 (.seq (.draws [(⟨[16,0,0],WN,[16]⟩,oM 16 0 26),(⟨[17,3,3],WN,[17]⟩,oM 17 3 3),(⟨[18,16,17,0,3],WN,[18]⟩,oI 18 26 16 17),(⟨[19,18,0],WN,[19]⟩,oL 19 3 18 3),(⟨[20,0,0],WN,[20]⟩,oM 20 0 26),(⟨[21,3,3],WN,[21]⟩,oM 21 3 3),(⟨[22,21,3],WN,[22]⟩,oB 22 .sub 3 (tK 21) (iK 1) 3 3),(⟨[23,20,22,0,22],WN,[23]⟩,oI 23 26 20 22),(⟨[24,23,0],WN,[24]⟩,oL 24 3 23 3),(⟨[25,19,24,0,0],WN,[25]⟩,oB 25 .eql 3 (tK 19) (tK 24) 3 4)]) (.cond (tK 25) (.seq (.ops [oM 26 0 26,oM 27 3 3,oX 28 (.slice 26 (tK 26) (some (tK 27)) none none) 900001,oA 4 28 26]) (.seq (.seq (.ops [oX 5 (.assign (iK 1)) 3]) (.block 2 iF)) (.seq (.ops [oM 54 0 26,oM 55 3 3,oX 56 (.slice 26 (tK 54) (some (tK 55)) none none) 900001,⟨none,(.call ⟨(.builtin .clear), #[(tK 56)], #[26]⟩),0,none⟩]) (.seq (.ops [oM 57 0 26,oM 58 3 3,oX 59 (.slice 26 (tK 57) none (some (tK 58)) none) 900002,oA 2 59 26]) .ret)))) .skip))) (.ops [oM 14 3 3,oB 15 .add 3 (tK 14) (iK 1) 3 3,oA 3 15 3]))
def iG:SC:= .loop Ux
def A38:SC:= .seq (.ops [oX 2 Kz 26]) (.seq (.seq (.ops [oM 6 0 26,oN 7 6 26,oB 8 .lss 3 (tK 7) (iK 2) 3 4]) (.cond (tK 8) (.seq (.ops [oM 9 0 26,oA 2 9 26]) .ret) .skip)) (.seq (.seq (.ops [oX 3 (.assign (iK 1)) 3]) (.block 0 iG)) (.seq (.ops [oM 60 0 26,oA 2 60 26]) .ret)))
theorem uK:Try.f120.body.map (Bc lends)=some A38:=by kernel_rfl
theorem AA7:Bn Try.f120 1=true:=by kernel_rfl
theorem AFY{a l:List D}{r:D×List D}(h:Bq Y.env A38 (F9 Ab l.length [cb 2] r) (entry a l))(ha:a.length=1):Y.call 120 a l=some r:=
 Aa (Y:=Y) rfl Try.func120 (ha▸AA7) uK h
def BI(s_:AO)(k:Int)(k1:Int)(k2:Int)(Ap:AO)(s:St):Prop:=(∃w_,s.v 0=D.vw [100000] (s.k 100000) w_)∧s.v 3=bd .i64 k1∧(∃w_,s.v 4=D.vs 3 [100000] (s.k 100000) w_ k.toNat (s_.length-k.toNat))∧s.v 5=bd .i64 k2∧s.v 100000=b9 3 (AR (bd .i64) Ap)
def Ba(s_:AO)(k:Int)(r:Int×AO)(ex:Ex)(s:St):Prop:=ex= .exit 2∧(∃w_,s.v 0=D.vw [100000] (s.k 100000) w_)∧s.v 3=bd .i64 r.1∧s.v 100000=b9 3 (AR (bd .i64) r.2)
theorem JV(s_:AO)(k:Int){v:Int×Int×AO}{s:St}{r:Int×AO}(h:CG s_ k v=some r)(hM:BI s_ k v.1 v.2.1 v.2.2 s):Bq Y.env iF (Ba s_ k r) s:=by
 unfold CG at h;refine BV (c:=Uw) (fun v=>BX s_ k v.1 v.2.1 v.2.2) (fun v s=>BI s_ k v.1 v.2.1 v.2.2 s) (Ba s_ k) ?_ h hM;clear h hM s v r;intro v s o hM h;obtain⟨k1,k2,Ap⟩:=v;dsimp only at h hM;unfold BX at h;unfold BI at hM;obtain⟨⟨w0_,m0⟩,m1,⟨w2_,m2⟩,m3,m4⟩:=hM;unfold Uw;by_cases e8:k2<(((s_.length-k.toNat):Nat):Int)
 ·rw [if_pos e8]at h;obtain⟨e9,h⟩:=BS h;obtain⟨e10,h⟩:=BS h;obtain⟨e11,h⟩:=BS h;obtain⟨e12,h⟩:=BS h;obtain⟨e13,h⟩:=BS h;by_cases e14:(Ap.getD (k.toNat+k2.toNat) be)=(Ap.getD (k.toNat+(cd.wrap (k2-1)).toNat) be)
  ·rw [if_pos e14]at h
   obtain rfl:=Option.some.inj h
   simp (maxDischargeDepth:=9) only [↓AP,AQ,Ae,↓reduceIte,bh,bj,bk,bl,bm,bo,bp,br,bt,bw,bx,bO,b0,b3,b4,b5,b6,m0,m1,m2,m3,m4,e8,e9.1,e9.2,e10,e11,e12.1,e12.2,e13,decide_eq_true e14,BI,Ba,CU,CV,CW]<;>(repeat' apply A7)<;>first|rfl|exact⟨_,rfl⟩|exact⟨_,_,rfl⟩|simp [AR,A9]
  ·rw [if_neg e14]at h;obtain⟨e15,h⟩:=BS h
   obtain rfl:=Option.some.inj h
   simp (maxDischargeDepth:=9) only [↓AP,AQ,Ae,↓reduceIte,bh,bj,bk,bl,bm,bo,bp,br,bt,bw,bx,bO,b0,b3,b4,b5,b6,m0,m1,m2,m3,m4,e8,e9.1,e9.2,e10,e11,e12.1,e12.2,e13,e14,e15.1,e15.2,BI,Ba,CU,CV,CW]<;>(repeat' apply A7)<;>first|rfl|exact⟨_,rfl⟩|exact⟨_,_,rfl⟩|simp [AR,A9]
 ·rw [if_neg e8]at h
  obtain rfl:=Option.some.inj h
  simp (maxDischargeDepth:=9) only [↓AP,AQ,Ae,↓reduceIte,bh,bj,bk,bl,bm,bo,bp,br,bt,bw,bx,bO,b0,b3,b4,b5,b6,m0,m1,m2,m3,m4,e8,BI,Ba,CU,CV,CW]<;>(repeat' apply A7)<;>first|rfl|exact⟨_,rfl⟩|exact⟨_,_,rfl⟩|simp [AR,A9]
def BJ(s_:AO)(k:Int)(s:St):Prop:=(∃w_,s.v 0=D.vw [100000] (s.k 100000) w_)∧s.v 3=bd .i64 k∧s.v 100000=b9 3 (AR (bd .i64) s_)
def BK(s_:AO)(r:(AO)⊕Unit)(ex:Ex)(s:St):Prop:=match r with
 | .inl q=>ex= .ret∧s.v 2=b9 3 (AR (bd .i64) q)∧s.v 100000=D.undef
 | .inr q=>ex= .exit 0∧(∃w_,s.v 0=D.vw [100000] (s.k 100000) w_)∧s.v 100000=b9 3 (AR (bd .i64) s_)
theorem JW(s_:AO){v:Int}{s:St}{r:(AO)⊕Unit}(h:Cs s_ v=some r)(hM:BJ s_ v s):Bq Y.env iG (BK s_ r) s:=by
 unfold Cs at h;refine BV (c:=Ux) (fun v=>BZ s_ v) (fun v s=>BJ s_ v s) (BK s_) ?_ h hM;clear h hM s v r;intro k s o hM h;unfold BZ at h;unfold BJ at hM;obtain⟨⟨w0_,m0⟩,m1,m2⟩:=hM;unfold Ux;by_cases e2:k<(s_.length:Int)
 ·rw [if_pos e2]at h;obtain⟨e3,h⟩:=BS h;obtain⟨e4,h⟩:=BS h;by_cases e5:(s_.getD k.toNat be)=(s_.getD ((cd.wrap (k-1)).toNat) be)
  ·rw [if_pos e5]at h;obtain⟨e6,h⟩:=BS h;obtain⟨e7,h⟩:=BS h;obtain⟨AX,hl9,h⟩:=Av h;try dsimp only at h
   simp (maxDischargeDepth:=9) only [↓AP,AQ,Ae,↓reduceIte,bh,bj,bk,bl,bm,bo,bp,br,bt,bw,bx,bO,b0,b3,b4,b5,b6,m0,m1,m2,e2,e3.1,e3.2,e4.1,e4.2,decide_eq_true e5,e6,e7];refine BB (JV s_ k hl9 ?_) ?_
   ·simp (maxDischargeDepth:=9) only [↓AP,AQ,Ae,↓reduceIte,bh,bj,bk,bl,bm,bo,bp,br,bt,bw,bx,bO,b0,b3,b4,b5,b6,m0,m1,m2,e2,e3.1,e3.2,e4.1,e4.2,decide_eq_true e5,e6,e7,BI]<;>(repeat' apply A7)<;>first|rfl|exact⟨_,rfl⟩|exact⟨_,_,rfl⟩|simp [AR,A9]
   ·intro ex9 s9 hX9;unfold Ba at hX9;obtain⟨rfl,⟨w0_,n9_0⟩,n9_1,n9_2⟩:=hX9;obtain⟨e10,h⟩:=BS h;obtain⟨e11,h⟩:=BS h;obtain⟨e12,h⟩:=BS h;obtain⟨e13,h⟩:=BS h
    obtain rfl:=Option.some.inj h
    simp (maxDischargeDepth:=9) only [↓AP,AQ,Ae,↓reduceIte,bh,bj,bk,bl,bm,bo,bp,br,bt,bw,bx,bO,b0,b3,b4,b5,b6,e2,e3.1,e3.2,e4.1,e4.2,decide_eq_true e5,e6,e7,n9_0,n9_1,n9_2,e10,e11,e12,e13,BJ,BK,CU,CV,CW]<;>(repeat' apply A7)<;>first|rfl|exact⟨_,rfl⟩|exact⟨_,_,rfl⟩|simp [AR,A9]
  ·rw [if_neg e5]at h
   obtain rfl:=Option.some.inj h
   simp (maxDischargeDepth:=9) only [↓AP,AQ,Ae,↓reduceIte,bh,bj,bk,bl,bm,bo,bp,br,bt,bw,bx,bO,b0,b3,b4,b5,b6,m0,m1,m2,e2,e3.1,e3.2,e4.1,e4.2,e5,BJ,BK,CU,CV,CW]<;>(repeat' apply A7)<;>first|rfl|exact⟨_,rfl⟩|exact⟨_,_,rfl⟩|simp [AR,A9]
 ·rw [if_neg e2]at h
  obtain rfl:=Option.some.inj h
  simp (maxDischargeDepth:=9) only [↓AP,AQ,Ae,↓reduceIte,bh,bj,bk,bl,bm,bo,bp,br,bt,bw,bx,bO,b0,b3,b4,b5,b6,m0,m1,m2,e2,BJ,BK,CU,CV,CW]<;>(repeat' apply A7)<;>first|rfl|exact⟨_,rfl⟩|exact⟨_,_,rfl⟩|simp [AR,A9]
theorem Jj(s_:AO){r:AO}(h:Ck s_=some r):Y.call 120 [D.vw [100000] 0 0] [b9 3 (AR (bd .i64) s_)]=some (b9 3 (AR (bd .i64) r),[D.undef]):=by
 refine AFY ?_ rfl;unfold A38;unfold Ck at h;by_cases e1:(s_.length:Int)<2
 ·rw [if_pos e1]at h
  obtain rfl:=Option.some.inj h
  simp (maxDischargeDepth:=9) only [↓AP,AQ,Ae,↓reduceIte,bh,bj,bk,bl,bm,bo,bp,br,bt,bw,bx,bO,b0,b3,b4,b5,b6,e1]<;>(repeat' apply A7)<;>first|rfl|exact⟨_,rfl⟩|exact⟨_,_,rfl⟩|simp [AR,A9]
 ·rw [if_neg e1]at h;obtain⟨Ce,hl3,h⟩:=Av h;try dsimp only at h
  simp (maxDischargeDepth:=9) only [↓AP,AQ,Ae,↓reduceIte,bh,bj,bk,bl,bm,bo,bp,br,bt,bw,bx,bO,b0,b3,b4,b5,b6,e1];refine BB (JW s_ hl3 ?_) ?_
  ·simp (maxDischargeDepth:=9) only [↓AP,AQ,Ae,↓reduceIte,bh,bj,bk,bl,bm,bo,bp,br,bt,bw,bx,bO,b0,b3,b4,b5,b6,e1,BJ]<;>(repeat' apply A7)<;>first|rfl|exact⟨_,rfl⟩|exact⟨_,_,rfl⟩|simp [AR,A9]
  ·intro ex3 s3 hX3;rcases Ce with q1001_|q1001_
   ·unfold BK at hX3;dsimp only at hX3 h;obtain⟨rfl,n3_0,n3_1⟩:=hX3
    obtain rfl:=Option.some.inj h
    simp (maxDischargeDepth:=9) only [↓AP,AQ,Ae,↓reduceIte,bh,bj,bk,bl,bm,bo,bp,br,bt,bw,bx,bO,b0,b3,b4,b5,b6,e1,n3_0,n3_1]<;>(repeat' apply A7)<;>first|rfl|exact⟨_,rfl⟩|exact⟨_,_,rfl⟩|simp [AR,A9]
   ·unfold BK at hX3;dsimp only at hX3 h;obtain⟨rfl,⟨w0_,n3_0⟩,n3_1⟩:=hX3
    obtain rfl:=Option.some.inj h
    simp (maxDischargeDepth:=9) only [↓AP,AQ,Ae,↓reduceIte,bh,bj,bk,bl,bm,bo,bp,br,bt,bw,bx,bO,b0,b3,b4,b5,b6,e1,n3_0,n3_1]<;>(repeat' apply A7)<;>first|rfl|exact⟨_,rfl⟩|exact⟨_,_,rfl⟩|simp [AR,A9]
def OY(AC:Aq)(AY:AO)(AB:AO)(task:Int)(outputs:AO):Option (Bool):= if task=1 then (Cm outputs).bind fun I9=> ck (I9.length<1099511627776)<| ck (0≤cd.wrap (((Ct I9).length:Int)-1)∧(cd.wrap (((Ct I9).length:Int)-1)).toNat<(Ct I9).length)<| if((Ct I9).getD ((cd.wrap (((Ct I9).length:Int)-1)).toNat) be)=1 then if(cd.wrap (((Ct I9).length:Int)-1))=0 then ck (0<(Ct I9).length)<| some (decide (0≤((Ct I9).getD 0 be))) else ck (0≤cd.wrap ((cd.wrap (((Ct I9).length:Int)-1))-1)∧(cd.wrap ((cd.wrap (((Ct I9).length:Int)-1))-1)).toNat<(Ct I9).length)<| if((Ct I9).getD ((cd.wrap ((cd.wrap (((Ct I9).length:Int)-1))-1)).toNat) be)=0 then ck (0<(Ct I9).length)<| some (decide (0≤((Ct I9).getD 0 be))) else some false else some false else if task=2 then (GV AC AY AB).bind fun A39=> (Ac A39 (fun a0_0 a0_1 a0_2 a0_3=>MI a0_0 a0_1 a0_2 a0_3 outputs)).bind fun AA8=> some (!AA8) else (Cm outputs).bind fun pV=> ck (pV.length<1099511627776)<| (Ck (Ct pV)).bind fun fI=> some (decide ((fI.length:Int)=(outputs.length:Int)))
abbrev fJ:List Nat:=[52,53,52,9,54,55,56,57,6,57,57]
def k70:SC:= .seq (.ops [oX 3 (.box 47 (tK 0)) 0,oX 5 (.box 26 (tK 2)) 0,oX 6 CF 4]) (.seq (.seq (.ops [oM 10 1 3]) (.block 0 (.seq (.ops [oB 12 .eql 3 (tK 10) (iK 1) 3 4,oA 11 12 4]) (.cond (tK 11) (.seq (.ops [oL 13 26 5 26,oC 14 116 [(tK 13)] [26] 132,oC 15 115 [(tK 14)] [132] 26,oA 7 15 26]) (.seq (.ops [oM 16 7 26,oN 17 16 26,oB 18 .sub 3 (tK 17) (iK 1) 3 3,oA 8 18 3]) (.seq (.ops [oM 19 7 26,oM 20 8 3,oI 21 26 19 20,oL 22 3 21 3,oB 23 .eql 3 (tK 22) (iK 1) 3 4,oM 24 23 4,⟨(some 25),(.move (tK 8)),3,(some (some 24,true))⟩,⟨(some 26),(.binOp .eql 3 (tK 25) (iK 0) 3),4,(some (some 24,true))⟩,⟨(some 27),(.move (tK 26)),4,(some (some 24,true))⟩,⟨(some 28),(.move (tK 7)),26,(some (some 27,false))⟩,⟨(some 29),(.move (tK 8)),3,(some (some 27,false))⟩,⟨(some 30),(.binOp .sub 3 (tK 29) (iK 1) 3),3,(some (some 27,false))⟩,⟨(some 31),(.indexAddr 26 (tK 28) (tK 30)),0,(some (some 27,false))⟩,⟨(some 32),(.load 3 (tK 31)),3,(some (some 27,false))⟩,⟨(some 33),(.binOp .eql 3 (tK 32) (iK 0) 3),4,(some (some 27,false))⟩,⟨(some 34),(.pick (tK 27) Eh (tK 33)),4,(some (some 24,true))⟩,oX 35 (.pick (tK 24) (tK 34) PO) 4,oM 36 35 4,⟨(some 37),(.move (tK 7)),26,(some (some 36,true))⟩,
 ⟨(some 38),(.indexAddr 26 (tK 37) (iK 0)),0,(some (some 36,true))⟩,⟨(some 39),(.load 3 (tK 38)),3,(some (some 36,true))⟩,⟨(some 40),(.binOp .geq 3 (tK 39) (iK 0) 3),4,(some (some 36,true))⟩,oX 41 (.pick (tK 36) (tK 40) PO) 4,oA 6 41 4]) .ret))) (.seq (.ops [oB 43 .eql 3 (tK 10) (iK 2) 3 4,oA 42 43 4]) (.cond (tK 42) (.seq (.ops [oL 44 47 3 47,oC 45 118 [(tK 44)] [47] 135,oX 46 (.makeFunc (Fn.func 119) #[] #[(tK 5)]) 139,oC 47 117 [(tK 45),(tK 46)] [135,139] 4,oX 48 (.unOp .not 4 (tK 47)) 4,oA 6 48 4]) .ret) .skip)))))) (.seq (.ops [oL 49 26 5 26,oC 50 116 [(tK 49)] [26] 132,oC 51 115 [(tK 50)] [132] 26,oA 9 51 26]) (.seq (.draws [(⟨[52,9,9],fJ,[52]⟩,oM 52 9 26),(⟨[53,52,9],fJ,[53,52,9]⟩,oC 53 120 [(tK 52)] [26] 26),(⟨[54,53,53],fJ,[54]⟩,oN 54 53 26),(⟨[55,5,5],fJ,[55]⟩,oL 55 26 5 26),(⟨[56,55,5],fJ,[56]⟩,oN 56 55 26),(⟨[57,54,56,54,56],fJ,[57]⟩,oB 57 .eql 3 (tK 54) (tK 56) 3 4),(⟨[6,57,57],fJ,[6,57,57]⟩,oA 6 57 4)]) .ret)))
theorem A3A:Try.f70.body.map (Bc lends)=some k70:=by kernel_rfl
theorem AFa:Bn Try.f70 3=true:=by kernel_rfl
theorem c70{a l:List D}{r:D×List D}(h:Bq Y.env k70 (F9 Ab l.length [cb 6] r) (entry a l))(ha:a.length=3):Y.call 70 a l=some r:=
 Aa (Y:=Y) rfl Try.func70 (ha▸AFa) A3A h
theorem YV(AC:Aq)(AY:AO)(AB:AO)(task:Int)(outputs:AO){r:Bool}(h:OY AC AY AB task outputs=some r):Y.call 70 [D.agg [b7 123 (AR (fun x=>b7 125 (Ay .i64 .i64 x)) AC),b7 3 (AR (bd .i64) AY),b7 3 (AR (bd .i64) AB)],bd .i64 task,b7 3 (AR (bd .i64) outputs)] []=some (ca r,[]):=by
 refine c70 ?_ rfl;unfold k70;unfold OY at h;by_cases e1:task=1
 ·rw [if_pos e1]at h;obtain⟨I9,hl2,h⟩:=Av h;try dsimp only at h
  have c2:=G7 outputs hl2;obtain⟨e3,h⟩:=BS h;have c4:=UM I9 e3;obtain⟨e5,h⟩:=BS h;by_cases e6:((Ct I9).getD ((cd.wrap (((Ct I9).length:Int)-1)).toNat) be)=1
  ·rw [if_pos e6]at h;by_cases e7:(cd.wrap (((Ct I9).length:Int)-1))=0
   ·rw [if_pos e7]at h;obtain⟨e8,h⟩:=BS h
    obtain rfl:=Option.some.inj h
    simp (maxDischargeDepth:=9) only [↓AP,AQ,Ae,↓reduceIte,bh,bj,bk,bl,bm,bo,bp,br,bt,bw,bx,bO,b0,b3,b4,b5,b6,decide_eq_true e1,c2,e3,c4,e5.1,e5.2,decide_eq_true e6,decide_eq_true e7,e8]<;>(repeat' apply A7)<;>first|rfl|exact⟨_,rfl⟩|exact⟨_,_,rfl⟩|simp [AR,A9]
   ·rw [if_neg e7]at h;obtain⟨e8,h⟩:=BS h;by_cases e9:((Ct I9).getD ((cd.wrap ((cd.wrap (((Ct I9).length:Int)-1))-1)).toNat) be)=0
    ·rw [if_pos e9]at h;obtain⟨e10,h⟩:=BS h
     obtain rfl:=Option.some.inj h
     simp (maxDischargeDepth:=9) only [↓AP,AQ,Ae,↓reduceIte,bh,bj,bk,bl,bm,bo,bp,br,bt,bw,bx,bO,b0,b3,b4,b5,b6,decide_eq_true e1,c2,e3,c4,e5.1,e5.2,decide_eq_true e6,e7,e8.1,e8.2,decide_eq_true e9,e10]<;>(repeat' apply A7)<;>first|rfl|exact⟨_,rfl⟩|exact⟨_,_,rfl⟩|simp [AR,A9]
    ·rw [if_neg e9]at h
     obtain rfl:=Option.some.inj h
     simp (maxDischargeDepth:=9) only [↓AP,AQ,Ae,↓reduceIte,bh,bj,bk,bl,bm,bo,bp,br,bt,bw,bx,bO,b0,b3,b4,b5,b6,decide_eq_true e1,c2,e3,c4,e5.1,e5.2,decide_eq_true e6,e7,e8.1,e8.2,e9]<;>(repeat' apply A7)<;>first|rfl|exact⟨_,rfl⟩|exact⟨_,_,rfl⟩|simp [AR,A9]
  ·rw [if_neg e6]at h
   obtain rfl:=Option.some.inj h
   simp (maxDischargeDepth:=9) only [↓AP,AQ,Ae,↓reduceIte,bh,bj,bk,bl,bm,bo,bp,br,bt,bw,bx,bO,b0,b3,b4,b5,b6,decide_eq_true e1,c2,e3,c4,e5.1,e5.2,e6]<;>(repeat' apply A7)<;>first|rfl|exact⟨_,rfl⟩|exact⟨_,_,rfl⟩|simp [AR,A9]
 ·rw [if_neg e1]at h;by_cases e2:task=2
  ·rw [if_pos e2]at h;obtain⟨A39,hl3,h⟩:=Av h;try dsimp only at h
   have c3:=O9 AC AY AB hl3;obtain⟨AA8,hl4,h⟩:=Av h;try dsimp only at h
   have c4:=Bh A39 (fun a0_0 a0_1 a0_2 a0_3=>MI a0_0 a0_1 a0_2 a0_3 outputs) 119 [D.cptr [b7 3 (AR (bd .i64) outputs)]] (fun a0_0 a0_1 a0_2 a0_3 _ hh=>Uv a0_0 a0_1 a0_2 a0_3 outputs hh) oK hl4
   obtain rfl:=Option.some.inj h
   simp (maxDischargeDepth:=9) only [↓AP,AQ,Ae,↓reduceIte,bh,bj,bk,bl,bm,bo,bp,br,bt,bw,bx,bO,b0,b3,b4,b5,b6,e1,decide_eq_true e2,c3,c4]<;>(repeat' apply A7)<;>first|rfl|exact⟨_,rfl⟩|exact⟨_,_,rfl⟩|simp [AR,A9]
  ·rw [if_neg e2]at h;obtain⟨pV,hl3,h⟩:=Av h;try dsimp only at h
   have c3:=G7 outputs hl3;obtain⟨e4,h⟩:=BS h;have c5:=UM pV e4;obtain⟨fI,hl6,h⟩:=Av h;try dsimp only at h
   have c6:=Jj (Ct pV) hl6
   obtain rfl:=Option.some.inj h
   simp (maxDischargeDepth:=9) only [↓AP,AQ,Ae,↓reduceIte,bh,bj,bk,bl,bm,bo,bp,br,bt,bw,bx,bO,b0,b3,b4,b5,b6,e1,e2,c3,e4,c5,c6]<;>(repeat' apply A7)<;>first|rfl|exact⟨_,rfl⟩|exact⟨_,_,rfl⟩|simp [AR,A9]
def Gr(AC:Aq)(v_:Int)(out:AO)(YW:Int):Option ((AO×Int)⊕(AO)):= if YW<((AC.getD v_.toNat be).length:Int)then ck (0≤YW∧YW.toNat<(AC.getD v_.toNat be).length)<| ck (out.length+1<1099511627776)<| some (cc ((out++[(BH (AC.getD v_.toNat be) YW.toNat)]),cd.wrap (YW+1))) else some (b8 out)
def Ld(AC:Aq)(v_:Int)(v:AO×Int):Option (AO):=Iy (fun v=>Gr AC v_ v.1 v.2) v
def OA(AC:Aq)(AY:AO)(AB:AO)(v_:Int):Option (AO):= ck (0≤v_∧v_.toNat<AC.length)<| (Ld AC v_ ([],0)).bind fun AX=> some AX
def Uy:SC:= .seq (.ops [oB 15 .lss 3 (tK 14) (tK 13) 3 0]) (.seq (.cond (tK 15) .skip (.exit 0)) (.seq (.block 1 (.seq (.ops [oI 16 123 12 14,oL 17 125 16 125,oX 7 (.alloc 125) 0,oS 125 7 17]) (.ops [oM 18 5 26,oF 19 125 7 0,oL 20 3 19 3,oX 21 (.buildSlice 26 1 #[(0,(tK 20))]) 26,oX 22 (.call ⟨(.builtin .append), #[(tK 18),(tK 21)], #[26,26]⟩) 26,oA 5 22 26]))) (.ops [oB 23 .add 3 (tK 14) (iK 1) 3 3,oM 14 23 3])))
def iH:SC:= .loop Uy
def A3B:SC:= .seq (.ops [oX 2 (.box 47 (tK 0)) 0,oX 4 Kz 26]) (.seq (.ops [oX 5 Kz 26]) (.seq (.seq (.ops [oF 8 47 2 0,oL 9 45 8 45,oM 10 1 3,oI 11 45 9 10,oL 12 123 11 123,oN 13 12 123,oX 14 (.move (iK 0)) 3]) (.block 0 iH)) (.seq (.ops [oM 24 5 26,oA 4 24 26]) .ret)))
theorem uL:Try.f129.body.map (Bc lends)=some A3B:=by kernel_rfl
theorem AA9:Bn Try.f129 2=true:=by kernel_rfl
theorem AFb{a l:List D}{r:D×List D}(h:Bq Y.env A3B (F9 Ab l.length [cb 4] r) (entry a l))(ha:a.length=2):Y.call 129 a l=some r:=
 Aa (Y:=Y) rfl Try.func129 (ha▸AA9) uL h
def Gs(AC:Aq)(v_:Int)(out:AO)(YW:Int)(s:St):Prop:=s.v 5=b9 3 (AR (bd .i64) out)∧s.v 12=b7 125 (Ay .i64 .i64 (AC.getD v_.toNat be))∧s.v 13=bd .i64 ((AC.getD v_.toNat be).length:Int)∧s.v 14=bd .i64 YW
def Im(AC:Aq)(v_:Int)(r:AO)(ex:Ex)(s:St):Prop:=ex= .exit 0∧s.v 5=b9 3 (AR (bd .i64) r)
theorem Uz(AC:Aq)(v_:Int){v:AO×Int}{s:St}{r:AO}(h:Ld AC v_ v=some r)(hM:Gs AC v_ v.1 v.2 s):Bq Y.env iH (Im AC v_ r) s:=by
 unfold Ld at h;refine BV (c:=Uy) (fun v=>Gr AC v_ v.1 v.2) (fun v s=>Gs AC v_ v.1 v.2 s) (Im AC v_) ?_ h hM;clear h hM s v r;intro v s o hM h;obtain⟨out,YW⟩:=v;dsimp only at h hM;unfold Gr at h;unfold Gs at hM;obtain⟨m0,m1,m2,m3⟩:=hM;unfold Uy;by_cases e2:YW<((AC.getD v_.toNat be).length:Int)
 ·rw [if_pos e2]at h;obtain⟨e3,h⟩:=BS h;obtain⟨e4,h⟩:=BS h
  obtain rfl:=Option.some.inj h
  simp (maxDischargeDepth:=9) only [↓AP,AQ,Ae,↓reduceIte,bh,bj,bk,bl,bm,bo,bp,br,bt,bw,bx,bO,b0,b3,b4,b5,b6,m0,m1,m2,m3,e2,e3.1,e3.2,e4,Gs,Im,CU,CV,CW]<;>(repeat' apply A7)<;>first|rfl|exact⟨_,rfl⟩|exact⟨_,_,rfl⟩|simp [AR,A9]
 ·rw [if_neg e2]at h
  obtain rfl:=Option.some.inj h
  simp (maxDischargeDepth:=9) only [↓AP,AQ,Ae,↓reduceIte,bh,bj,bk,bl,bm,bo,bp,br,bt,bw,bx,bO,b0,b3,b4,b5,b6,m0,m1,m2,m3,e2,Gs,Im,CU,CV,CW]<;>(repeat' apply A7)<;>first|rfl|exact⟨_,rfl⟩|exact⟨_,_,rfl⟩|simp [AR,A9]
theorem WO(AC:Aq)(AY:AO)(AB:AO)(v_:Int){r:AO}(h:OA AC AY AB v_=some r):Y.call 129 [D.agg [b7 123 (AR (fun x=>b7 125 (Ay .i64 .i64 x)) AC),b7 3 (AR (bd .i64) AY),b7 3 (AR (bd .i64) AB)],bd .i64 v_] []=some (b9 3 (AR (bd .i64) r),[]):=by
 refine AFb ?_ rfl;unfold A3B;unfold OA at h;obtain⟨e1,h⟩:=BS h;obtain⟨AX,hl3,h⟩:=Av h;try dsimp only at h
 simp (maxDischargeDepth:=9) only [↓AP,AQ,Ae,↓reduceIte,bh,bj,bk,bl,bm,bo,bp,br,bt,bw,bx,bO,b0,b3,b4,b5,b6,e1.1,e1.2];refine BB (Uz AC v_ hl3 ?_) ?_
 ·simp (maxDischargeDepth:=9) only [↓AP,AQ,Ae,↓reduceIte,bh,bj,bk,bl,bm,bo,bp,br,bt,bw,bx,bO,b0,b3,b4,b5,b6,e1.1,e1.2,Gs]<;>(repeat' apply A7)<;>first|rfl|exact⟨_,rfl⟩|exact⟨_,_,rfl⟩|simp [AR,A9]
 ·intro ex3 s3 hX3;unfold Im at hX3;obtain⟨rfl,n3_0⟩:=hX3
  obtain rfl:=Option.some.inj h
  simp (maxDischargeDepth:=9) only [↓AP,AQ,Ae,↓reduceIte,bh,bj,bk,bl,bm,bo,bp,br,bt,bw,bx,bO,b0,b3,b4,b5,b6,e1.1,e1.2,n3_0]<;>(repeat' apply A7)<;>first|rfl|exact⟨_,rfl⟩|exact⟨_,_,rfl⟩|simp [AR,A9]
def Gt(AC:Aq)(AY:AO)(AB:AO)(l:AO)(Io:Int)(Jk:AO)(v_:Int):Option ((Int)⊕(Int⊕Unit)):= if v_<(AC.length:Int)then ck (Jk.length<1099511627776)<| if(Jk.contains v_)=true then ck (0≤Io∧Io.toNat<l.length)<| ck (0≤v_∧v_.toNat<l.length)<| if(l.getD Io.toNat be)=(l.getD v_.toNat be)then some (b8 (cc v_)) else some (cc (cd.wrap (v_+1))) else some (cc (cd.wrap (v_+1))) else some (b8 (b8 ()))
def K6(AC:Aq)(AY:AO)(AB:AO)(l:AO)(Io:Int)(Jk:AO)(v:Int):Option (Int⊕Unit):=Iy (fun v=>Gt AC AY AB l Io Jk v) v
def Gu(AC:Aq)(AY:AO)(AB:AO)(l:AO)(Io:Int):Option ((Int)⊕((Int×Int)⊕Unit)):=
 if Io<(AC.length:Int)then
  (OA AC AY AB Io).bind fun Jk=>
  (K6 AC AY AB l Io Jk Io).bind fun AX=>
  match AX with
  | .inl q1000_=>
   some (b8 (cc (Io,q1000_)))
  | .inr q1000_=>
   some (cc (cd.wrap (Io+1)))
 else
  some (b8 (b8 ()))
def Le(AC:Aq)(AY:AO)(AB:AO)(l:AO)(v:Int):Option ((Int×Int)⊕Unit):=Iy (fun v=>Gu AC AY AB l v) v
def OB(AC:Aq)(AY:AO)(AB:AO)(l:AO):Option (Int×Int×Bool):=
 (Le AC AY AB l 0).bind fun Ce=>
 match Ce with
 | .inl q1001_=>
  some (q1001_.1,q1001_.2,true)
 | .inr q1001_=>
  some (0,0,false)
abbrev QO:List Nat:=[27,28,29,30,29,31,32,33,34,35,36,37,38,39,40]
def YX:SC:= .seq (.seq (.ops [oM 20 9 3,oF 21 47 2 0,oL 22 45 21 45,oN 23 22 45,oB 24 .lss 3 (tK 20) (tK 23) 3 4]) (.cond (tK 24) .skip (.exit 2))) (.seq (.block 3 (.seq (.draws [(⟨[27,8,8],QO,[27]⟩,oM 27 8 26),(⟨[28,9,9],QO,[28]⟩,oM 28 9 3),(⟨[29,27,28,8,9],QO,[29]⟩,oC 29 89 [(tK 27),(tK 28)] [26,3] 4),(⟨[30,29,29],QO,[30,29]⟩,oM 30 29 4),(⟨[31,1,1,30],QO,[31]⟩,⟨(some 31),(.move (tK 1)),26,(some (some 30,true))⟩),(⟨[32,7,7,30],QO,[32]⟩,⟨(some 32),(.move (tK 7)),3,(some (some 30,true))⟩),(⟨[33,31,32,1,7,30],QO,[33]⟩,⟨(some 33),(.indexAddr 26 (tK 31) (tK 32)),0,(some (some 30,true))⟩),(⟨[34,33,1,30],QO,[34]⟩,⟨(some 34),(.load 3 (tK 33)),3,(some (some 30,true))⟩),(⟨[35,1,1,30],QO,[35]⟩,⟨(some 35),(.move (tK 1)),26,(some (some 30,true))⟩),(⟨[36,9,9,30],QO,[36]⟩,⟨(some 36),(.move (tK 9)),3,(some (some 30,true))⟩),(⟨[37,35,36,1,9,30],QO,[37]⟩,⟨(some 37),(.indexAddr 26 (tK 35) (tK 36)),0,(some (some 30,true))⟩),(⟨[38,37,1,30],QO,[38]⟩,⟨(some 38),(.load 3 (tK 37)),3,(some (some 30,true))⟩),(⟨[39,34,38,1,1,30],QO,[39]⟩,⟨(some 39),(.binOp .eql 3 (tK 34) (tK 38) 3),4,(some (some 30,true))⟩),(⟨[40,30,39,29,39],QO,[40]⟩,oX 40 (.pick (tK 30) (tK 39) PO) 4)]) (.cond (tK 40) (.seq
 (.ops [oM 41 7 3,oM 42 9 3,oA 4 41 3,oA 5 42 3,oX 6 (.assign Eh) 4]) .ret) .skip))) (.ops [oM 25 9 3,oB 26 .add 3 (tK 25) (iK 1) 3 3,oA 9 26 3]))
def pW:SC:= .loop YX
def YY:SC:= .seq (.ops [oB 14 .lss 3 (tK 13) (tK 12) 3 0]) (.seq (.cond (tK 14) .skip (.exit 0)) (.seq (.block 1 (.seq (.ops [oM 15 13 3,oA 7 15 3]) (.seq (.ops [oL 16 47 2 47,oM 17 7 3,oC 18 129 [(tK 16),(tK 17)] [47,3] 26,oA 8 18 26]) (.seq (.ops [oM 19 7 3,oA 9 19 3]) (.block 2 pW))))) (.ops [oB 43 .add 3 (tK 13) (iK 1) 3 3,oM 13 43 3])))
def pX:SC:= .loop YY
def k80:SC:= .seq (.ops [oX 2 (.box 47 (tK 0)) 0,oX 4 (.assign (iK 0)) 3,oX 5 (.assign (iK 0)) 3,oX 6 CF 4]) (.seq (.seq (.ops [oF 10 47 2 0,oL 11 45 10 45,oN 12 11 45,oX 13 (.move (iK 0)) 3]) (.block 0 pX)) (.seq (.ops [oX 4 (.assign (iK 0)) 3,oX 5 (.assign (iK 0)) 3,oX 6 CF 4]) .ret))
theorem A3C:Try.f80.body.map (Bc lends)=some k80:=by kernel_rfl
theorem AFd:Bn Try.f80 2=true:=by kernel_rfl
theorem c80{a l:List D}{r:D×List D}(h:Bq Y.env k80 (F9 Ab l.length [cb 4,cb 5,cb 6] r) (entry a l))(ha:a.length=2):Y.call 80 a l=some r:=
 Aa (Y:=Y) rfl Try.func80 (ha▸AFd) A3C h
def EL(AC:Aq)(AY:AO)(AB:AO)(l:AO)(Io:Int)(Jk:AO)(v_:Int)(s:St):Prop:=s.v 1=b7 3 (AR (bd .i64) l)∧s.v 2=D.box [b7 123 (AR (fun x=>b7 125 (Ay .i64 .i64 x)) AC),b7 3 (AR (bd .i64) AY),b7 3 (AR (bd .i64) AB)]∧s.v 7=bd .i64 Io∧s.v 8=b9 3 (AR (bd .i64) Jk)∧s.v 9=bd .i64 v_∧s.v 12=bd .i64 (AC.length:Int)∧s.v 13=bd .i64 Io
def EM(AC:Aq)(AY:AO)(AB:AO)(l:AO)(Io:Int)(Jk:AO)(r:Int⊕Unit)(ex:Ex)(s:St):Prop:=match r with
 | .inl q=>ex= .ret∧s.v 4=bd .i64 Io∧s.v 5=bd .i64 q∧s.v 6=ca true
 | .inr q=>ex= .exit 2∧s.v 1=b7 3 (AR (bd .i64) l)∧s.v 2=D.box [b7 123 (AR (fun x=>b7 125 (Ay .i64 .i64 x)) AC),b7 3 (AR (bd .i64) AY),b7 3 (AR (bd .i64) AB)]∧s.v 12=bd .i64 (AC.length:Int)∧s.v 13=bd .i64 Io
theorem V3(AC:Aq)(AY:AO)(AB:AO)(l:AO)(Io:Int)(Jk:AO){v:Int}{s:St}{r:Int⊕Unit}(h:K6 AC AY AB l Io Jk v=some r)(hM:EL AC AY AB l Io Jk v s):Bq Y.env pW (EM AC AY AB l Io Jk r) s:=by
 unfold K6 at h;refine BV (c:=YX) (fun v=>Gt AC AY AB l Io Jk v) (fun v s=>EL AC AY AB l Io Jk v s) (EM AC AY AB l Io Jk) ?_ h hM;clear h hM s v r;intro v_ s o hM h;unfold Gt at h;unfold EL at hM;obtain⟨m0,m1,m2,m3,m4,m5,m6⟩:=hM;unfold YX;by_cases e3:v_<(AC.length:Int)
 ·rw [if_pos e3]at h;obtain⟨e4,h⟩:=BS h;have c5:=Mr Jk v_ e4;by_cases e6:(Jk.contains v_)=true
  ·rw [if_pos e6]at h;obtain⟨e7,h⟩:=BS h;obtain⟨e8,h⟩:=BS h;by_cases e9:(l.getD Io.toNat be)=(l.getD v_.toNat be)
   ·rw [if_pos e9]at h
    obtain rfl:=Option.some.inj h
    simp (maxDischargeDepth:=9) only [↓AP,AQ,Ae,↓reduceIte,bh,bj,bk,bl,bm,bo,bp,br,bt,bw,bx,bO,b0,b3,b4,b5,b6,m0,m1,m2,m3,m4,m5,m6,e3,e4,c5,e6,e7.1,e7.2,e8.1,e8.2,decide_eq_true e9,EL,EM,CU,CV,CW]<;>(repeat' apply A7)<;>first|rfl|exact⟨_,rfl⟩|exact⟨_,_,rfl⟩|simp [AR,A9]
   ·rw [if_neg e9]at h
    obtain rfl:=Option.some.inj h
    simp (maxDischargeDepth:=9) only [↓AP,AQ,Ae,↓reduceIte,bh,bj,bk,bl,bm,bo,bp,br,bt,bw,bx,bO,b0,b3,b4,b5,b6,m0,m1,m2,m3,m4,m5,m6,e3,e4,c5,e6,e7.1,e7.2,e8.1,e8.2,e9,EL,EM,CU,CV,CW]<;>(repeat' apply A7)<;>first|rfl|exact⟨_,rfl⟩|exact⟨_,_,rfl⟩|simp [AR,A9]
  ·rw [if_neg e6]at h;have e6f:(Jk.contains v_)=false:=JA.mpr e6
   obtain rfl:=Option.some.inj h
   simp (maxDischargeDepth:=9) only [↓AP,AQ,Ae,↓reduceIte,bh,bj,bk,bl,bm,bo,bp,br,bt,bw,bx,bO,b0,b3,b4,b5,b6,m0,m1,m2,m3,m4,m5,m6,e3,e4,c5,e6f,EL,EM,CU,CV,CW]<;>(repeat' apply A7)<;>first|rfl|exact⟨_,rfl⟩|exact⟨_,_,rfl⟩|simp [AR,A9]
 ·rw [if_neg e3]at h
  obtain rfl:=Option.some.inj h
  simp (maxDischargeDepth:=9) only [↓AP,AQ,Ae,↓reduceIte,bh,bj,bk,bl,bm,bo,bp,br,bt,bw,bx,bO,b0,b3,b4,b5,b6,m0,m1,m2,m3,m4,m5,m6,e3,EL,EM,CU,CV,CW]<;>(repeat' apply A7)<;>first|rfl|exact⟨_,rfl⟩|exact⟨_,_,rfl⟩|simp [AR,A9]
def FH(AC:Aq)(AY:AO)(AB:AO)(l:AO)(Io:Int)(s:St):Prop:=s.v 1=b7 3 (AR (bd .i64) l)∧s.v 2=D.box [b7 123 (AR (fun x=>b7 125 (Ay .i64 .i64 x)) AC),b7 3 (AR (bd .i64) AY),b7 3 (AR (bd .i64) AB)]∧s.v 12=bd .i64 (AC.length:Int)∧s.v 13=bd .i64 Io
def FI(AC:Aq)(AY:AO)(AB:AO)(l:AO)(r:(Int×Int)⊕Unit)(ex:Ex)(s:St):Prop:=match r with
 | .inl q=>ex= .ret∧s.v 4=bd .i64 q.1∧s.v 5=bd .i64 q.2∧s.v 6=ca true
 | .inr q=>ex= .exit 0
theorem V4(AC:Aq)(AY:AO)(AB:AO)(l:AO){v:Int}{s:St}{r:(Int×Int)⊕Unit}(h:Le AC AY AB l v=some r)(hM:FH AC AY AB l v s):Bq Y.env pX (FI AC AY AB l r) s:=by
 unfold Le at h;refine BV (c:=YY) (fun v=>Gu AC AY AB l v) (fun v s=>FH AC AY AB l v s) (FI AC AY AB l) ?_ h hM;clear h hM s v r;intro Io s o hM h;unfold Gu at h;unfold FH at hM;obtain⟨m0,m1,m2,m3⟩:=hM;unfold YY;by_cases e1:Io<(AC.length:Int)
 ·rw [if_pos e1]at h;obtain⟨Jk,hl2,h⟩:=Av h;try dsimp only at h
  have c2:=WO AC AY AB Io hl2;obtain⟨AX,hl4,h⟩:=Av h;try dsimp only at h
  simp (maxDischargeDepth:=9) only [↓AP,AQ,Ae,↓reduceIte,bh,bj,bk,bl,bm,bo,bp,br,bt,bw,bx,bO,b0,b3,b4,b5,b6,m0,m1,m2,m3,e1,c2];refine BB (V3 AC AY AB l Io Jk hl4 ?_) ?_
  ·simp (maxDischargeDepth:=9) only [↓AP,AQ,Ae,↓reduceIte,bh,bj,bk,bl,bm,bo,bp,br,bt,bw,bx,bO,b0,b3,b4,b5,b6,m0,m1,m2,m3,e1,c2,EL]<;>(repeat' apply A7)<;>first|rfl|exact⟨_,rfl⟩|exact⟨_,_,rfl⟩|simp [AR,A9]
  ·intro ex4 s4 hX4;rcases AX with q1000_|q1000_
   ·unfold EM at hX4;dsimp only at hX4 h;obtain⟨rfl,n4_0,n4_1,n4_2⟩:=hX4
    obtain rfl:=Option.some.inj h
    simp (maxDischargeDepth:=9) only [↓AP,AQ,Ae,↓reduceIte,bh,bj,bk,bl,bm,bo,bp,br,bt,bw,bx,bO,b0,b3,b4,b5,b6,e1,c2,n4_0,n4_1,n4_2,FH,FI,CU,CV,CW]<;>(repeat' apply A7)<;>first|rfl|exact⟨_,rfl⟩|exact⟨_,_,rfl⟩|simp [AR,A9]
   ·unfold EM at hX4;dsimp only at hX4 h;obtain⟨rfl,n4_0,n4_1,n4_2,n4_3⟩:=hX4
    obtain rfl:=Option.some.inj h
    simp (maxDischargeDepth:=9) only [↓AP,AQ,Ae,↓reduceIte,bh,bj,bk,bl,bm,bo,bp,br,bt,bw,bx,bO,b0,b3,b4,b5,b6,e1,c2,n4_0,n4_1,n4_2,n4_3,FH,FI,CU,CV,CW]<;>(repeat' apply A7)<;>first|rfl|exact⟨_,rfl⟩|exact⟨_,_,rfl⟩|simp [AR,A9]
 ·rw [if_neg e1]at h
  obtain rfl:=Option.some.inj h
  simp (maxDischargeDepth:=9) only [↓AP,AQ,Ae,↓reduceIte,bh,bj,bk,bl,bm,bo,bp,br,bt,bw,bx,bO,b0,b3,b4,b5,b6,m0,m1,m2,m3,e1,FH,FI,CU,CV,CW]<;>(repeat' apply A7)<;>first|rfl|exact⟨_,rfl⟩|exact⟨_,_,rfl⟩|simp [AR,A9]
theorem WP(AC:Aq)(AY:AO)(AB:AO)(l:AO){r:Int×Int×Bool}(h:OB AC AY AB l=some r):Y.call 80 [D.agg [b7 123 (AR (fun x=>b7 125 (Ay .i64 .i64 x)) AC),b7 3 (AR (bd .i64) AY),b7 3 (AR (bd .i64) AB)],b7 3 (AR (bd .i64) l)] []=some (D.tup [bd .i64 r.1,bd .i64 r.2.1,ca r.2.2],[]):=by
 refine c80 ?_ rfl;unfold k80;unfold OB at h;obtain⟨Ce,hl2,h⟩:=Av h;try dsimp only at h
 simp (maxDischargeDepth:=9) only [↓AP,AQ,Ae,↓reduceIte,bh,bj,bk,bl,bm,bo,bp,br,bt,bw,bx,bO,b0,b3,b4,b5,b6];refine BB (V4 AC AY AB l hl2 ?_) ?_
 ·simp (maxDischargeDepth:=9) only [↓AP,AQ,Ae,↓reduceIte,bh,bj,bk,bl,bm,bo,bp,br,bt,bw,bx,bO,b0,b3,b4,b5,b6,FH]<;>(repeat' apply A7)<;>first|rfl|exact⟨_,rfl⟩|exact⟨_,_,rfl⟩|simp [AR,A9]
 ·intro ex2 s2 hX2;rcases Ce with q1001_|q1001_
  ·unfold FI at hX2;dsimp only at hX2 h;obtain⟨rfl,n2_0,n2_1,n2_2⟩:=hX2
   obtain rfl:=Option.some.inj h
   simp (maxDischargeDepth:=9) only [↓AP,AQ,Ae,↓reduceIte,bh,bj,bk,bl,bm,bo,bp,br,bt,bw,bx,bO,b0,b3,b4,b5,b6,n2_0,n2_1,n2_2]<;>(repeat' apply A7)<;>first|rfl|exact⟨_,rfl⟩|exact⟨_,_,rfl⟩|simp [AR,A9]
  ·unfold FI at hX2;dsimp only at hX2 h
   obtain rfl:=hX2
   obtain rfl:=Option.some.inj h
   simp (maxDischargeDepth:=9) only [↓AP,AQ,Ae,↓reduceIte,bh,bj,bk,bl,bm,bo,bp,br,bt,bw,bx,bO,b0,b3,b4,b5,b6]<;>(repeat' apply A7)<;>first|rfl|exact⟨_,rfl⟩|exact⟨_,_,rfl⟩|simp [AR,A9]
def Gv(l:AO)(Hq:Int)(v_:Int):Option ((Int)⊕(Int⊕Unit)):= if v_<(l.length:Int)then ck (0≤Hq∧Hq.toNat<l.length)<| ck (0≤v_∧v_.toNat<l.length)<| if(l.getD Hq.toNat be)=(l.getD v_.toNat be)then some (b8 (cc v_)) else some (cc (cd.wrap (v_+1))) else some (b8 (b8 ()))
def K7(l:AO)(Hq:Int)(v:Int):Option (Int⊕Unit):=Iy (fun v=>Gv l Hq v) v
def Gw(l:AO)(Hq:Int):Option ((Int)⊕((Int×Int)⊕Unit)):=
 if Hq<(l.length:Int)then
  (K7 l Hq (cd.wrap (Hq+1))).bind fun AX=>
  match AX with
  | .inl q1000_=>
   some (b8 (cc (Hq,q1000_)))
  | .inr q1000_=>
   some (cc (cd.wrap (Hq+1)))
 else
  some (b8 (b8 ()))
def Lf(l:AO)(v:Int):Option ((Int×Int)⊕Unit):=Iy (fun v=>Gw l v) v
def OC(l:AO):Option (Int×Int×Bool):=
 (Lf l 0).bind fun Ce=>
 match Ce with
 | .inl q1001_=>
  some (q1001_.1,q1001_.2,true)
 | .inr q1001_=>
  some (0,0,false)
abbrev YZ:List Nat:=[20,21,22,23,24,25,26,27,28]
def Ya:SC:= .seq (.seq (.ops [oM 14 6 3,oM 15 0 26,oN 16 15 26,oB 17 .lss 3 (tK 14) (tK 16) 3 4]) (.cond (tK 17) .skip (.exit 2))) (.seq (.block 3 (.seq (.draws [(⟨[20,0,0],YZ,[20]⟩,oM 20 0 26),(⟨[21,5,5],YZ,[21]⟩,oM 21 5 3),(⟨[22,20,21,0,5],YZ,[22]⟩,oI 22 26 20 21),(⟨[23,22,0],YZ,[23]⟩,oL 23 3 22 3),(⟨[24,0,0],YZ,[24]⟩,oM 24 0 26),(⟨[25,6,6],YZ,[25]⟩,oM 25 6 3),(⟨[26,24,25,0,6],YZ,[26]⟩,oI 26 26 24 25),(⟨[27,26,0],YZ,[27]⟩,oL 27 3 26 3),(⟨[28,23,27,0,0],YZ,[28]⟩,oB 28 .eql 3 (tK 23) (tK 27) 3 4)]) (.cond (tK 28) (.seq (.ops [oM 29 5 3,oM 30 6 3,oA 2 29 3,oA 3 30 3,oX 4 (.assign Eh) 4]) .ret) .skip))) (.ops [oM 18 6 3,oB 19 .add 3 (tK 18) (iK 1) 3 3,oA 6 19 3]))
def pY:SC:= .loop Ya
def Yb:SC:= .seq (.ops [oB 10 .lss 3 (tK 9) (tK 8) 3 0]) (.seq (.cond (tK 10) .skip (.exit 0)) (.seq (.block 1 (.seq (.ops [oM 11 9 3,oA 5 11 3]) (.seq (.ops [oM 12 5 3,oB 13 .add 3 (tK 12) (iK 1) 3 3,oA 6 13 3]) (.block 2 pY)))) (.ops [oB 31 .add 3 (tK 9) (iK 1) 3 3,oM 9 31 3])))
def pg:SC:= .loop Yb
def k81:SC:= .seq (.ops [oX 2 (.assign (iK 0)) 3,oX 3 (.assign (iK 0)) 3,oX 4 CF 4]) (.seq (.seq (.ops [oM 7 0 26,oN 8 7 26,oX 9 (.move (iK 0)) 3]) (.block 0 pg)) (.seq (.ops [oX 2 (.assign (iK 0)) 3,oX 3 (.assign (iK 0)) 3,oX 4 CF 4]) .ret))
theorem A3D:Try.f81.body.map (Bc lends)=some k81:=by kernel_rfl
theorem AFf:Bn Try.f81 1=true:=by kernel_rfl
theorem c81{a l:List D}{r:D×List D}(h:Bq Y.env k81 (F9 Ab l.length [cb 2,cb 3,cb 4] r) (entry a l))(ha:a.length=1):Y.call 81 a l=some r:=
 Aa (Y:=Y) rfl Try.func81 (ha▸AFf) A3D h
def FJ(l:AO)(Hq:Int)(v_:Int)(s:St):Prop:=s.v 0=b7 3 (AR (bd .i64) l)∧s.v 5=bd .i64 Hq∧s.v 6=bd .i64 v_∧s.v 8=bd .i64 (l.length:Int)∧s.v 9=bd .i64 Hq
def FK(l:AO)(Hq:Int)(r:Int⊕Unit)(ex:Ex)(s:St):Prop:=match r with
 | .inl q=>ex= .ret∧s.v 2=bd .i64 Hq∧s.v 3=bd .i64 q∧s.v 4=ca true
 | .inr q=>ex= .exit 2∧s.v 0=b7 3 (AR (bd .i64) l)∧s.v 8=bd .i64 (l.length:Int)∧s.v 9=bd .i64 Hq
theorem V5(l:AO)(Hq:Int){v:Int}{s:St}{r:Int⊕Unit}(h:K7 l Hq v=some r)(hM:FJ l Hq v s):Bq Y.env pY (FK l Hq r) s:=by
 unfold K7 at h;refine BV (c:=Ya) (fun v=>Gv l Hq v) (fun v s=>FJ l Hq v s) (FK l Hq) ?_ h hM;clear h hM s v r;intro v_ s o hM h;unfold Gv at h;unfold FJ at hM;obtain⟨m0,m1,m2,m3,m4⟩:=hM;unfold Ya;by_cases e2:v_<(l.length:Int)
 ·rw [if_pos e2]at h;obtain⟨e3,h⟩:=BS h;obtain⟨e4,h⟩:=BS h;by_cases e5:(l.getD Hq.toNat be)=(l.getD v_.toNat be)
  ·rw [if_pos e5]at h
   obtain rfl:=Option.some.inj h
   simp (maxDischargeDepth:=9) only [↓AP,AQ,Ae,↓reduceIte,bh,bj,bk,bl,bm,bo,bp,br,bt,bw,bx,bO,b0,b3,b4,b5,b6,m0,m1,m2,m3,m4,e2,e3.1,e3.2,e4.1,e4.2,decide_eq_true e5,FJ,FK,CU,CV,CW]<;>(repeat' apply A7)<;>first|rfl|exact⟨_,rfl⟩|exact⟨_,_,rfl⟩|simp [AR,A9]
  ·rw [if_neg e5]at h
   obtain rfl:=Option.some.inj h
   simp (maxDischargeDepth:=9) only [↓AP,AQ,Ae,↓reduceIte,bh,bj,bk,bl,bm,bo,bp,br,bt,bw,bx,bO,b0,b3,b4,b5,b6,m0,m1,m2,m3,m4,e2,e3.1,e3.2,e4.1,e4.2,e5,FJ,FK,CU,CV,CW]<;>(repeat' apply A7)<;>first|rfl|exact⟨_,rfl⟩|exact⟨_,_,rfl⟩|simp [AR,A9]
 ·rw [if_neg e2]at h
  obtain rfl:=Option.some.inj h
  simp (maxDischargeDepth:=9) only [↓AP,AQ,Ae,↓reduceIte,bh,bj,bk,bl,bm,bo,bp,br,bt,bw,bx,bO,b0,b3,b4,b5,b6,m0,m1,m2,m3,m4,e2,FJ,FK,CU,CV,CW]<;>(repeat' apply A7)<;>first|rfl|exact⟨_,rfl⟩|exact⟨_,_,rfl⟩|simp [AR,A9]
def FM(l:AO)(Hq:Int)(s:St):Prop:=s.v 0=b7 3 (AR (bd .i64) l)∧s.v 8=bd .i64 (l.length:Int)∧s.v 9=bd .i64 Hq
def FN(l:AO)(r:(Int×Int)⊕Unit)(ex:Ex)(s:St):Prop:=match r with
 | .inl q=>ex= .ret∧s.v 2=bd .i64 q.1∧s.v 3=bd .i64 q.2∧s.v 4=ca true
 | .inr q=>ex= .exit 0
theorem V6(l:AO){v:Int}{s:St}{r:(Int×Int)⊕Unit}(h:Lf l v=some r)(hM:FM l v s):Bq Y.env pg (FN l r) s:=by
 unfold Lf at h;refine BV (c:=Yb) (fun v=>Gw l v) (fun v s=>FM l v s) (FN l) ?_ h hM;clear h hM s v r;intro Hq s o hM h;unfold Gw at h;unfold FM at hM;obtain⟨m0,m1,m2⟩:=hM;unfold Yb;by_cases e1:Hq<(l.length:Int)
 ·rw [if_pos e1]at h;obtain⟨AX,hl3,h⟩:=Av h;try dsimp only at h
  simp (maxDischargeDepth:=9) only [↓AP,AQ,Ae,↓reduceIte,bh,bj,bk,bl,bm,bo,bp,br,bt,bw,bx,bO,b0,b3,b4,b5,b6,m0,m1,m2,e1];refine BB (V5 l Hq hl3 ?_) ?_
  ·simp (maxDischargeDepth:=9) only [↓AP,AQ,Ae,↓reduceIte,bh,bj,bk,bl,bm,bo,bp,br,bt,bw,bx,bO,b0,b3,b4,b5,b6,m0,m1,m2,e1,FJ]<;>(repeat' apply A7)<;>first|rfl|exact⟨_,rfl⟩|exact⟨_,_,rfl⟩|simp [AR,A9]
  ·intro ex3 s3 hX3;rcases AX with q1000_|q1000_
   ·unfold FK at hX3;dsimp only at hX3 h;obtain⟨rfl,n3_0,n3_1,n3_2⟩:=hX3
    obtain rfl:=Option.some.inj h
    simp (maxDischargeDepth:=9) only [↓AP,AQ,Ae,↓reduceIte,bh,bj,bk,bl,bm,bo,bp,br,bt,bw,bx,bO,b0,b3,b4,b5,b6,e1,n3_0,n3_1,n3_2,FM,FN,CU,CV,CW]<;>(repeat' apply A7)<;>first|rfl|exact⟨_,rfl⟩|exact⟨_,_,rfl⟩|simp [AR,A9]
   ·unfold FK at hX3;dsimp only at hX3 h;obtain⟨rfl,n3_0,n3_1,n3_2⟩:=hX3
    obtain rfl:=Option.some.inj h
    simp (maxDischargeDepth:=9) only [↓AP,AQ,Ae,↓reduceIte,bh,bj,bk,bl,bm,bo,bp,br,bt,bw,bx,bO,b0,b3,b4,b5,b6,e1,n3_0,n3_1,n3_2,FM,FN,CU,CV,CW]<;>(repeat' apply A7)<;>first|rfl|exact⟨_,rfl⟩|exact⟨_,_,rfl⟩|simp [AR,A9]
 ·rw [if_neg e1]at h
  obtain rfl:=Option.some.inj h
  simp (maxDischargeDepth:=9) only [↓AP,AQ,Ae,↓reduceIte,bh,bj,bk,bl,bm,bo,bp,br,bt,bw,bx,bO,b0,b3,b4,b5,b6,m0,m1,m2,e1,FM,FN,CU,CV,CW]<;>(repeat' apply A7)<;>first|rfl|exact⟨_,rfl⟩|exact⟨_,_,rfl⟩|simp [AR,A9]
theorem WQ(l:AO){r:Int×Int×Bool}(h:OC l=some r):Y.call 81 [b7 3 (AR (bd .i64) l)] []=some (D.tup [bd .i64 r.1,bd .i64 r.2.1,ca r.2.2],[]):=by
 refine c81 ?_ rfl;unfold k81;unfold OC at h;obtain⟨Ce,hl2,h⟩:=Av h;try dsimp only at h
 simp (maxDischargeDepth:=9) only [↓AP,AQ,Ae,↓reduceIte,bh,bj,bk,bl,bm,bo,bp,br,bt,bw,bx,bO,b0,b3,b4,b5,b6];refine BB (V6 l hl2 ?_) ?_
 ·simp (maxDischargeDepth:=9) only [↓AP,AQ,Ae,↓reduceIte,bh,bj,bk,bl,bm,bo,bp,br,bt,bw,bx,bO,b0,b3,b4,b5,b6,FM]<;>(repeat' apply A7)<;>first|rfl|exact⟨_,rfl⟩|exact⟨_,_,rfl⟩|simp [AR,A9]
 ·intro ex2 s2 hX2;rcases Ce with q1001_|q1001_
  ·unfold FN at hX2;dsimp only at hX2 h;obtain⟨rfl,n2_0,n2_1,n2_2⟩:=hX2
   obtain rfl:=Option.some.inj h
   simp (maxDischargeDepth:=9) only [↓AP,AQ,Ae,↓reduceIte,bh,bj,bk,bl,bm,bo,bp,br,bt,bw,bx,bO,b0,b3,b4,b5,b6,n2_0,n2_1,n2_2]<;>(repeat' apply A7)<;>first|rfl|exact⟨_,rfl⟩|exact⟨_,_,rfl⟩|simp [AR,A9]
  ·unfold FN at hX2;dsimp only at hX2 h
   obtain rfl:=hX2
   obtain rfl:=Option.some.inj h
   simp (maxDischargeDepth:=9) only [↓AP,AQ,Ae,↓reduceIte,bh,bj,bk,bl,bm,bo,bp,br,bt,bw,bx,bO,b0,b3,b4,b5,b6]<;>(repeat' apply A7)<;>first|rfl|exact⟨_,rfl⟩|exact⟨_,_,rfl⟩|simp [AR,A9]
def Fg(outputs:AO)(sum:Int)(LJ:Int):Option ((Int×Int)⊕(Int)):= if LJ<(outputs.length:Int)then ck (0≤LJ∧LJ.toNat<outputs.length)<| some (cc (cd.wrap (sum+(outputs.getD LJ.toNat be)),cd.wrap (LJ+1))) else some (b8 sum)
def JM(outputs:AO)(v:Int×Int):Option (Int):=Iy (fun v=>Fg outputs v.1 v.2) v
def Jl(AC:Aq)(AY:AO)(AB:AO)(task:Int)(outputs:AO):Option (Bool):= if task=1 then (JM outputs (0,0)).bind fun AX=> ck (outputs.length<1099511627776)<| if(EF outputs (0:Int) (1:Int))=true then some (decide (AX=1)) else some false else if task=2 then (OB AC AY AB outputs).bind fun AAA=> some (!AAA.2.2) else (OC outputs).bind fun AAB=> some (!AAB.2.2)
def V7:SC:= .seq (.ops [oB 22 .lss 3 (tK 21) (tK 20) 3 0]) (.seq (.cond (tK 22) .skip (.exit 1)) (.seq (.block 2 (.seq (.ops [oI 23 26 19 21,oL 24 3 23 3,oA 9 24 3]) (.ops [oM 25 7 3,oM 26 9 3,oB 27 .add 3 (tK 25) (tK 26) 3 3,oA 7 27 3]))) (.ops [oB 28 .add 3 (tK 21) (iK 1) 3 3,oM 21 28 3])))
def iI:SC:= .loop V7
def A3E:SC:= .seq (.ops [oX 3 (.box 47 (tK 0)) 0,oX 6 CF 4]) (.seq (.seq (.ops [oM 16 1 3]) (.block 0 (.seq (.ops [oB 18 .eql 3 (tK 16) (iK 1) 3 4,oA 17 18 4]) (.cond (tK 17) (.seq (.ops [oX 7 (.assign (iK 0)) 3]) (.seq (.seq (.ops [oM 19 2 26,oN 20 19 26,oX 21 (.move (iK 0)) 3]) (.block 1 iI)) (.seq (.ops [oM 29 2 26,oC 30 107 [(tK 29),(iK 0),(iK 1)] [26,3,3] 4,oM 31 30 4,⟨(some 32),(.move (tK 7)),3,(some (some 31,true))⟩,⟨(some 33),(.binOp .eql 3 (tK 32) (iK 1) 3),4,(some (some 31,true))⟩,oX 34 (.pick (tK 31) (tK 33) PO) 4,oA 6 34 4]) .ret))) (.seq (.ops [oB 36 .eql 3 (tK 16) (iK 2) 3 4,oA 35 36 4]) (.cond (tK 35) (.seq (.ops [oL 38 47 3 47,oM 39 2 26,oC 40 80 [(tK 38),(tK 39)] [47,26] 100,oM 37 40 100,oE 41 37 0 3,oE 42 37 1 3,oE 43 37 2 4,oA 10 41 3,oA 11 42 3,oA 12 43 4]) (.seq (.ops [oM 44 12 4,oX 45 (.unOp .not 4 (tK 44)) 4,oA 6 45 4]) .ret)) .skip)))))) (.seq (.ops [oM 47 2 26,oC 48 81 [(tK 47)] [26] 100,oM 46 48 100,oE 49 46 0 3,oE 50 46 1 3,oE 51 46 2 4,oA 13 49 3,oA 14 50 3,oA 15 51 4]) (.seq (.ops [oM 52 15 4,oX 53 (.unOp .not 4 (tK 52)) 4,oA 6 53 4]) .ret)))
theorem uM:Try.f109.body.map (Bc lends)=some A3E:=by kernel_rfl
theorem AAC:Bn Try.f109 3=true:=by kernel_rfl
theorem AFg{a l:List D}{r:D×List D}(h:Bq Y.env A3E (F9 Ab l.length [cb 6] r) (entry a l))(ha:a.length=3):Y.call 109 a l=some r:=
 Aa (Y:=Y) rfl Try.func109 (ha▸AAC) uM h
def Fh(outputs:AO)(sum:Int)(LJ:Int)(s:St):Prop:=s.v 2=b7 3 (AR (bd .i64) outputs)∧s.v 7=bd .i64 sum∧s.v 19=b7 3 (AR (bd .i64) outputs)∧s.v 20=bd .i64 (outputs.length:Int)∧s.v 21=bd .i64 LJ
def IA(outputs:AO)(r:Int)(ex:Ex)(s:St):Prop:=ex= .exit 1∧s.v 2=b7 3 (AR (bd .i64) outputs)∧s.v 7=bd .i64 r
theorem SL(outputs:AO){v:Int×Int}{s:St}{r:Int}(h:JM outputs v=some r)(hM:Fh outputs v.1 v.2 s):Bq Y.env iI (IA outputs r) s:=by
 unfold JM at h;refine BV (c:=V7) (fun v=>Fg outputs v.1 v.2) (fun v s=>Fh outputs v.1 v.2 s) (IA outputs) ?_ h hM;clear h hM s v r;intro v s o hM h;obtain⟨sum,LJ⟩:=v;dsimp only at h hM;unfold Fg at h;unfold Fh at hM;obtain⟨m0,m1,m2,m3,m4⟩:=hM;unfold V7;by_cases e2:LJ<(outputs.length:Int)
 ·rw [if_pos e2]at h;obtain⟨e3,h⟩:=BS h
  obtain rfl:=Option.some.inj h
  simp (maxDischargeDepth:=9) only [↓AP,AQ,Ae,↓reduceIte,bh,bj,bk,bl,bm,bo,bp,br,bt,bw,bx,bO,b0,b3,b4,b5,b6,m0,m1,m2,m3,m4,e2,e3.1,e3.2,Fh,IA,CU,CV,CW]<;>(repeat' apply A7)<;>first|rfl|exact⟨_,rfl⟩|exact⟨_,_,rfl⟩|simp [AR,A9]
 ·rw [if_neg e2]at h
  obtain rfl:=Option.some.inj h
  simp (maxDischargeDepth:=9) only [↓AP,AQ,Ae,↓reduceIte,bh,bj,bk,bl,bm,bo,bp,br,bt,bw,bx,bO,b0,b3,b4,b5,b6,m0,m1,m2,m3,m4,e2,Fh,IA,CU,CV,CW]<;>(repeat' apply A7)<;>first|rfl|exact⟨_,rfl⟩|exact⟨_,_,rfl⟩|simp [AR,A9]
theorem V8(AC:Aq)(AY:AO)(AB:AO)(task:Int)(outputs:AO){r:Bool}(h:Jl AC AY AB task outputs=some r):Y.call 109 [D.agg [b7 123 (AR (fun x=>b7 125 (Ay .i64 .i64 x)) AC),b7 3 (AR (bd .i64) AY),b7 3 (AR (bd .i64) AB)],bd .i64 task,b7 3 (AR (bd .i64) outputs)] []=some (ca r,[]):=by
 refine AFg ?_ rfl;unfold A3E;unfold Jl at h;by_cases e1:task=1
 ·rw [if_pos e1]at h;obtain⟨AX,hl3,h⟩:=Av h;try dsimp only at h
  simp (maxDischargeDepth:=9) only [↓AP,AQ,Ae,↓reduceIte,bh,bj,bk,bl,bm,bo,bp,br,bt,bw,bx,bO,b0,b3,b4,b5,b6,decide_eq_true e1];refine BB (SL outputs hl3 ?_) ?_
  ·simp (maxDischargeDepth:=9) only [↓AP,AQ,Ae,↓reduceIte,bh,bj,bk,bl,bm,bo,bp,br,bt,bw,bx,bO,b0,b3,b4,b5,b6,decide_eq_true e1,Fh]<;>(repeat' apply A7)<;>first|rfl|exact⟨_,rfl⟩|exact⟨_,_,rfl⟩|simp [AR,A9]
  ·intro ex3 s3 hX3;unfold IA at hX3;obtain⟨rfl,n3_0,n3_1⟩:=hX3;obtain⟨e4,h⟩:=BS h;have c5:=UR outputs (0:Int) (1:Int) e4;by_cases e6:(EF outputs (0:Int) (1:Int))=true
   ·rw [if_pos e6]at h
    obtain rfl:=Option.some.inj h
    simp (maxDischargeDepth:=9) only [↓AP,AQ,Ae,↓reduceIte,bh,bj,bk,bl,bm,bo,bp,br,bt,bw,bx,bO,b0,b3,b4,b5,b6,decide_eq_true e1,n3_0,n3_1,e4,c5,e6]<;>(repeat' apply A7)<;>first|rfl|exact⟨_,rfl⟩|exact⟨_,_,rfl⟩|simp [AR,A9]
   ·rw [if_neg e6]at h;have e6f:(EF outputs (0:Int) (1:Int))=false:=JA.mpr e6
    obtain rfl:=Option.some.inj h
    simp (maxDischargeDepth:=9) only [↓AP,AQ,Ae,↓reduceIte,bh,bj,bk,bl,bm,bo,bp,br,bt,bw,bx,bO,b0,b3,b4,b5,b6,decide_eq_true e1,n3_0,n3_1,e4,c5,e6f]<;>(repeat' apply A7)<;>first|rfl|exact⟨_,rfl⟩|exact⟨_,_,rfl⟩|simp [AR,A9]
 ·rw [if_neg e1]at h;by_cases e2:task=2
  ·rw [if_pos e2]at h;obtain⟨AAA,hl3,h⟩:=Av h;try dsimp only at h
   have c3:=WP AC AY AB outputs hl3
   obtain rfl:=Option.some.inj h
   simp (maxDischargeDepth:=9) only [↓AP,AQ,Ae,↓reduceIte,bh,bj,bk,bl,bm,bo,bp,br,bt,bw,bx,bO,b0,b3,b4,b5,b6,e1,decide_eq_true e2,c3]<;>(repeat' apply A7)<;>first|rfl|exact⟨_,rfl⟩|exact⟨_,_,rfl⟩|simp [AR,A9]
  ·rw [if_neg e2]at h;obtain⟨AAB,hl3,h⟩:=Av h;try dsimp only at h
   have c3:=WQ outputs hl3
   obtain rfl:=Option.some.inj h
   simp (maxDischargeDepth:=9) only [↓AP,AQ,Ae,↓reduceIte,bh,bj,bk,bl,bm,bo,bp,br,bt,bw,bx,bO,b0,b3,b4,b5,b6,e1,e2,c3]<;>(repeat' apply A7)<;>first|rfl|exact⟨_,rfl⟩|exact⟨_,_,rfl⟩|simp [AR,A9]
end Go.Proofs.Ytclkfhhdikfcpaa
end
