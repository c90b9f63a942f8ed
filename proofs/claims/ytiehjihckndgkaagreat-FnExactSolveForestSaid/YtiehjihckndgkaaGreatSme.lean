/- Functions of the program as plain functions, and what they compute. Conditions: those in each lemma. -/
import Derived.Test.YtiehjihckndgkaaGreatL6
import Derived.Test.YtiehjihckndgkaaGreatDstA
import Derived.Test.YtiehjihckndgkaaGreatRep
import Derived.Test.YtiehjihckndgkaaGreatNet
import Derived.Test.YtiehjihckndgkaaGreatDt
open Dv.D renaming int → bc,sl → bk,own → br,box → b8,bool → bp,agg → bw
open Inhabited renaming default → be
open Nat renaming reduceEqDiff → bj,reduceLT → bh,reduceAdd → bx,reduceLeDiff → b5,reduceBEq → ca
open Go.IntKind renaming i64 → bm,u64 → bO
open Sum renaming inl → bo,inr → bl
open List renaming range → ao,replicate → ap,getElem_set → cd,take_take → ce,length_eraseIdx_of_lt → cf
open Go.ResultVar renaming tmp → bt
open Int renaming pow_pos → cc
noncomputable section
namespace Go.Proofs.YtiehjihckndgkaaGreat
open Go Dv
set_option linter.unusedSimpArgs false
set_option linter.unusedVariables false
set_option maxRecDepth 100000
set_option maxHeartbeats 4000000
def DX(A9:Ac)(Al:Int)(out1:List (Int×Int×Int×Int))(LJ:Int):Option (((List (Int×Int×Int×Int))×Int)⊕((List (Int×Int×Int×Int)))):= if LJ<((A9.getD Al.toNat be).length:Int)then ck (0≤LJ∧LJ.toNat<(A9.getD Al.toNat be).length)<| if Al<(BH (A9.getD Al.toNat be) LJ.toNat)then ck (out1.length*4+4<1099511627776)<| some (bo ((out1++[(Al,LJ,(BH (A9.getD Al.toNat be) LJ.toNat),(Bj (A9.getD Al.toNat be) LJ.toNat))]),bm.wrap (LJ+1))) else if Al=(BH (A9.getD Al.toNat be) LJ.toNat)then if LJ≤(Bj (A9.getD Al.toNat be) LJ.toNat)then ck (out1.length*4+4<1099511627776)<| some (bo ((out1++[(Al,LJ,(BH (A9.getD Al.toNat be) LJ.toNat),(Bj (A9.getD Al.toNat be) LJ.toNat))]),bm.wrap (LJ+1))) else some (bo (out1,bm.wrap (LJ+1))) else some (bo (out1,bm.wrap (LJ+1))) else some (bl out1)
def Fb(A9:Ac)(Al:Int)(v:(List (Int×Int×Int×Int))×Int):Option ((List (Int×Int×Int×Int))):=E9 (fun v=>DX A9 Al v.1 v.2) v
def DY(A9:Ac)(out:List (Int×Int×Int×Int))(Al:Int):Option (((List (Int×Int×Int×Int))×Int)⊕((List (Int×Int×Int×Int)))):= if Al<(A9.length:Int)then ck (0≤Al∧Al.toNat<A9.length)<| (Fb A9 Al (out,0)).bind fun AX=> some (bo (AX,bm.wrap (Al+1))) else some (bl out)
def J7(A9:Ac)(v:(List (Int×Int×Int×Int))×Int):Option ((List (Int×Int×Int×Int))):=E9 (fun v=>DY A9 v.1 v.2) v
def JO(A9:Ac)(Aa AC:AU):Option ((List (Int×Int×Int×Int))):= (J7 A9 ([],0)).bind fun Ap=> some Ap
def qx:SC:= .seq (.ops [oB 19 .lss 3 (tK 18) (tK 17) 3 0]) (.seq (.cond (tK 19) .skip (.exit 2)) (.seq (.block 3 (.seq (.ops [oM 20 18 3,oI 21 79 16 18,oL 22 87 21 87,oX 7 (.alloc 87) 0,oA 6 20 3,oS 87 7 22]) (.seq (.ops [oM 23 4 3,oF 24 87 7 0,oL 25 3 24 3,oB 26 .lss 3 (tK 23) (tK 25) 3 4,oM 27 26 4,⟨some 28,.move (tK 4),3,(some (some 27,false))⟩,⟨some 29,.fieldAddr 87 (tK 7) 0,0,(some (some 27,false))⟩,⟨some 30,.load 3 (tK 29),3,(some (some 27,false))⟩,⟨some 31,.binOp .eql 3 (tK 28) (tK 30) 3,4,(some (some 27,false))⟩,⟨some 32,.move (tK 31),4,(some (some 27,false))⟩,⟨some 33,.move (tK 6),3,(some (some 32,true))⟩,⟨some 34,.fieldAddr 87 (tK 7) 1,0,(some (some 32,true))⟩,⟨some 35,.load 3 (tK 34),3,(some (some 32,true))⟩,⟨some 36,.binOp .leq 3 (tK 33) (tK 35) 3,4,(some (some 32,true))⟩,⟨some 37,.pick (tK 32) (tK 36) Lm,4,(some (some 27,false))⟩,oX 38 (.pick (tK 27) Ck (tK 37)) 4]) (.cond (tK 38) (.ops [oM 39 3 97,oM 40 4 3,oM 41 6 3,oF 42 87 7 0,oL 43 3 42 3,oF 44 87 7 1,oL 45 3 44 3,oX 46 (.build 101 #[(0,(tK 40)),(1,(tK 41)),(2,(tK 43)),(3,(tK 45))]) 101,oX 47 (.buildSlice 97 1 #[(0,(tK 46))]) 97,oX 48 (.call ⟨(.builtin .append), #[(tK 39),(tK 47)], #[97,97]⟩) 97,
 oA 3 48 97]) .skip)))) (.ops [oB 49 .add 3 (tK 18) (iK 1) 3 3,oM 18 49 3])))
def A5L:SC:= .loop qx
def qy:SC:= .seq (.ops [oB 12 .lss 3 (tK 11) (tK 10) 3 0]) (.seq (.cond (tK 12) .skip (.exit 0)) (.seq (.block 1 (.seq (.ops [oM 13 11 3,oI 14 36 9 11,oL 15 79 14 79,oA 4 13 3,oA 5 15 79]) (.seq (.ops [oM 16 5 79,oN 17 16 79,oX 18 (.move (iK 0)) 3]) (.block 2 A5L)))) (.ops [oB 50 .add 3 (tK 11) (iK 1) 3 3,oM 11 50 3])))
def A5M:SC:= .loop qy
def k78:SC:= .seq (.ops [oX 1 (.box 38 (tK 0)) 0,oX 2 Gt 97]) (.seq (.ops [oX 3 Gt 97]) (.seq (.seq (.ops [oF 8 38 1 0,oL 9 36 8 36,oN 10 9 36,oX 11 (.move (iK 0)) 3]) (.block 0 A5M)) (.seq (.ops [oM 51 3 97,oA 2 51 97]) .ret)))
theorem AER:Tryz.f78.body.map (BQ lends)=some k78:=by kernel_rfl
theorem ASN:BV Tryz.f78 1=true:=by kernel_rfl
theorem c78{a l:List D}{r:D×List D}(h:BU Y.env k78 (fin Ai l.length [bt 2] r) (entry a l))(ha:a.length=1):Y.call 78 a l=some r:=
 AY (Y:=Y) rfl Tryz.func78 (ha▸ASN) AER h
def Bz(A9:Ac)(Al:Int)(out1:List (Int×Int×Int×Int))(LJ:Int)(s:St):Prop:=s.v 3=br 101 (Oo out1)∧s.v 4=bc .i64 Al∧s.v 9=bk 79 (AR (fun x=>bk 87 (Aj .i64 .i64 x)) A9)∧s.v 10=bc .i64 (A9.length:Int)∧s.v 11=bc .i64 Al∧s.v 16=bk 87 (Aj .i64 .i64 (A9.getD Al.toNat be))∧s.v 17=bc .i64 ((A9.getD Al.toNat be).length:Int)∧s.v 18=bc .i64 LJ
def Gb(A9:Ac)(Al:Int)(r:(List (Int×Int×Int×Int)))(ex:Ex)(s:St):Prop:=ex= .exit 2∧s.v 3=br 101 (Oo r)∧s.v 9=bk 79 (AR (fun x=>bk 87 (Aj .i64 .i64 x)) A9)∧s.v 10=bc .i64 (A9.length:Int)∧s.v 11=bc .i64 Al
theorem TN(A9:Ac)(Al:Int){v:(List (Int×Int×Int×Int))×Int}{s:St}{r:(List (Int×Int×Int×Int))}(h:Fb A9 Al v=some r)(hM:Bz A9 Al v.1 v.2 s):BU Y.env A5L (Gb A9 Al r) s:=by
 unfold Fb at h;refine Aw (c:=qx) (fun v=>DX A9 Al v.1 v.2) (fun v s=>Bz A9 Al v.1 v.2 s) (Gb A9 Al) ?_ h hM;clear h hM s v r;intro v s o hM h;obtain⟨out1,LJ⟩:=v;dsimp only at h hM;unfold DX at h;unfold Bz at hM;obtain⟨m0,m1,m2,m3,m4,m5,m6,m7⟩:=hM;unfold qx;rcases iS h with⟨e3,h⟩|⟨e3,h⟩
 ·obtain⟨e4,h⟩:=De h;rcases iS h with⟨e5,h⟩|⟨e5,h⟩
  ·obtain⟨e6,h⟩:=De h;cases h;simp only [↓AO,AP,↓reduceIte,bj,bh,b5,m0,m1,m2,m3,m4,m5,m6,m7,e3,e4.1,e4.2,e5,e6,Bz,D6]
  ·rcases iS h with⟨e6,h⟩|⟨e6,h⟩
   ·rcases iS h with⟨e7,h⟩|⟨e7,h⟩
    ·obtain⟨e8,h⟩:=De h;cases h;simp only [↓AO,AP,↓reduceIte,bj,bh,b5,m0,m1,m2,m3,m4,m5,m6,m7,e3,e4.1,e4.2,e5,decide_eq_true e6,e7,e8,Bz,D6]
    ·cases h;simp only [↓AO,AP,↓reduceIte,bj,bh,m0,m1,m2,m3,m4,m5,m6,m7,e3,e4.1,e4.2,e5,decide_eq_true e6,e7,Bz,D6]
   ·cases h;simp only [↓AO,AP,↓reduceIte,bj,bh,m0,m1,m2,m3,m4,m5,m6,m7,e3,e4.1,e4.2,e5,e6,Bz,D6]
 ·cases h;simp only [↓AO,AP,↓reduceIte,bj,bh,m0,m2,m3,m4,m6,m7,e3,Bz,Gb,GH]
def DZ(A9:Ac)(out:List (Int×Int×Int×Int))(Al:Int)(s:St):Prop:=s.v 3=br 101 (Oo out)∧s.v 9=bk 79 (AR (fun x=>bk 87 (Aj .i64 .i64 x)) A9)∧s.v 10=bc .i64 (A9.length:Int)∧s.v 11=bc .i64 Al
def Gc(A9:Ac)(r:(List (Int×Int×Int×Int)))(ex:Ex)(s:St):Prop:=ex= .exit 0∧s.v 3=br 101 (Oo r)
theorem TP(A9:Ac){v:(List (Int×Int×Int×Int))×Int}{s:St}{r:(List (Int×Int×Int×Int))}(h:J7 A9 v=some r)(hM:DZ A9 v.1 v.2 s):BU Y.env A5M (Gc A9 r) s:=by
 unfold J7 at h;refine Aw (c:=qy) (fun v=>DY A9 v.1 v.2) (fun v s=>DZ A9 v.1 v.2 s) (Gc A9) ?_ h hM;clear h hM s v r;intro v s o hM h;obtain⟨out,Al⟩:=v;dsimp only at h hM;unfold DY at h;unfold DZ at hM;obtain⟨m0,m1,m2,m3⟩:=hM;unfold qy;rcases iS h with⟨e1,h⟩|⟨e1,h⟩
 ·obtain⟨e2,h⟩:=De h;obtain⟨AX,hl4,h⟩:=Ag h;try dsimp only at h
  simp only [↓AO,AP,↓reduceIte,bj,bh,m1,m2,m3,e1,e2.1,e2.2];refine Ak (TN A9 Al hl4 ?_) ?_
  ·simp only [BL,↓reduceIte,bj,m0,m1,m2,m3,Bz]
  ·intro ex4 s4 hX4;unfold Gb at hX4;obtain⟨rfl,n4_0,n4_1,n4_2,n4_3⟩:=hX4;cases h;simp only [↓AO,AP,↓reduceIte,bj,bh,n4_0,n4_1,n4_2,n4_3,DZ,D6]
 ·cases h;simp only [↓AO,AP,↓reduceIte,bj,bh,m0,m2,m3,e1,DZ,Gc,GH]
theorem UR(A9:Ac)(Aa AC:AU){r:(List (Int×Int×Int×Int))}(h:JO A9 Aa AC=some r):Y.call 78 [bw [bk 79 (AR (fun x=>bk 87 (Aj .i64 .i64 x)) A9),bk 3 (AR (bc .i64) Aa),bk 3 (AR (bc .i64) AC)]] []=some (br 101 (Oo r),[]):=by
 refine c78 ?_ rfl;unfold k78;unfold JO at h;obtain⟨Ap,hl2,h⟩:=Ag h;try dsimp only at h
 simp only [↓AO,AP,↓reduceIte,bj,bh,bx];refine Ak (TP A9 hl2 ?_) ?_
 ·simp only [BL,↓reduceIte,bj,DZ]<;>(repeat' apply A7)<;>first|rfl|exact⟨_,rfl⟩|exact⟨_,_,rfl⟩|simp [AR,Ay]
 ·intro ex2 s2 hX2;unfold Gc at hX2;obtain⟨rfl,n2_0⟩:=hX2;cases h;simp only [↓AO,AP,↓reduceIte,bj,bh,n2_0]
def Ae(s_:List (Int×Int×Int×Int))(f:Int→Int→Int→Int→Option Bool)(Gj:Int):Option ((Int)⊕(Int⊕Unit)):= if Gj<(s_.length:Int)then ck (0≤Gj∧Gj.toNat<s_.length)<| (f (q4a s_ Gj.toNat) (q4b s_ Gj.toNat) (q4c s_ Gj.toNat) (q4d s_ Gj.toNat)).bind fun eG=> if eG=true then some (bl (bo Gj)) else some (bo (bm.wrap (Gj+1))) else some (bl (bl ()))
def Aq(s_:List (Int×Int×Int×Int))(f:Int→Int→Int→Int→Option Bool)(v:Int):Option (Int⊕Unit):=E9 (fun v=>Ae s_ f v) v
def Ar(s_:List (Int×Int×Int×Int))(f:Int→Int→Int→Int→Option Bool):Option (Int):=
 (Aq s_ f 0).bind fun AX=>
 match AX with
 | .inl q1000_=>
  some q1000_
 | .inr q1000_=>
  some (-1)
def gp:SC:= .seq (.ops [oB 9 .lss 3 (tK 8) (tK 7) 3 0]) (.seq (.cond (tK 9) .skip (.exit 0)) (.seq (.block 1 (.seq (.ops [oM 10 8 3,oA 5 10 3]) (.seq (.ops [oM 11 1 102,oM 12 0 97,oM 13 5 3,oI 14 97 12 13,oL 15 101 14 101,oX 16 (.call ⟨(.value (tK 11)), #[(tK 15)], #[101]⟩) 4]) (.cond (tK 16) (.seq (.ops [oM 17 5 3,oA 4 17 3]) .ret) .skip)))) (.ops [oB 18 .add 3 (tK 8) (iK 1) 3 3,oM 8 18 3])))
def A0c:SC:= .loop gp
def AES:SC:= .seq (.ops [oX 4 (.assign (iK 0)) 3]) (.seq (.seq (.ops [oM 6 0 97,oN 7 6 97,oX 8 (.move (iK 0)) 3]) (.block 0 A0c)) (.seq (.ops [oX 4 RV 3]) .ret))
theorem A7k:Tryz.f111.body.map (BQ lends)=some AES:=by kernel_rfl
theorem ALe:BV Tryz.f111 2=true:=by kernel_rfl
theorem ASO{a l:List D}{r:D×List D}(h:BU Y.env AES (fin Ai l.length [bt 4] r) (entry a l))(ha:a.length=2):Y.call 111 a l=some r:=
 AY (Y:=Y) rfl Tryz.func111 (ha▸ALe) A7k h
def Ab(s_:List (Int×Int×Int×Int))(f:Int→Int→Int→Int→Option Bool)(f_f:FuncId)(f_c:List D)(Gj:Int)(s:St):Prop:=s.v 0=bk 101 (Oo s_)∧s.v 1=D.clo f_f f_c∧s.v 7=bc .i64 (s_.length:Int)∧s.v 8=bc .i64 Gj
def Af(s_:List (Int×Int×Int×Int))(f:Int→Int→Int→Int→Option Bool)(f_f:FuncId)(f_c:List D)(r:Int⊕Unit)(ex:Ex)(s:St):Prop:=match r with
 | .inl q=>ex= .ret∧s.v 4=bc .i64 q
 | .inr q=>ex= .exit 0
theorem CL(s_:List (Int×Int×Int×Int))(f:Int→Int→Int→Int→Option Bool)(f_f:FuncId)(f_c:List D)(f_h: ∀(a0_0 a0_1 a0_2 a0_3:Int) (r:Bool),f a0_0 a0_1 a0_2 a0_3=some r→Y.call f_f (bw [bc .i64 a0_0,bc .i64 a0_1,bc .i64 a0_2,bc .i64 a0_3]::f_c) []=some (bp r,[]))(f_l:lends f_f=false){v:Int}{s:St}{r:Int⊕Unit}(h:Aq s_ f v=some r)(hM:Ab s_ f f_f f_c v s):BU Y.env A0c (Af s_ f f_f f_c r) s:=by
 unfold Aq at h;refine Aw (c:=gp) (fun v=>Ae s_ f v) (fun v s=>Ab s_ f f_f f_c v s) (Af s_ f f_f f_c) ?_ h hM;clear h hM s v r;intro Gj s o hM h;unfold Ae at h;unfold Ab at hM;obtain⟨m0,m1,m2,m3⟩:=hM;unfold gp;rcases iS h with⟨e1,h⟩|⟨e1,h⟩
 ·obtain⟨e2,h⟩:=De h;obtain⟨eG,hl3,h⟩:=Ag h;have c3:=f_h _ _ _ _ _ hl3;rcases iS h with⟨e4,h⟩|⟨e4,h⟩
  ·cases h;simp only [↓AO,AP,↓reduceIte,bj,bh,m0,m1,m2,m3,f_l,e1,e2.1,e2.2,c3,e4,Ab,Af,OC]
  ·have e4f:eG=false:=Es.mpr e4;cases h;simp only [↓AO,AP,↓reduceIte,bj,bh,m0,m1,m2,m3,f_l,e1,e2.1,e2.2,c3,e4f,Ab,D6]
 ·cases h;simp only [↓AO,AP,↓reduceIte,bh,m2,m3,e1,Ab,Af,GH]
theorem CQ(s_:List (Int×Int×Int×Int))(f:Int→Int→Int→Int→Option Bool)(f_f:FuncId)(f_c:List D)(f_h: ∀(a0_0 a0_1 a0_2 a0_3:Int) (r:Bool),f a0_0 a0_1 a0_2 a0_3=some r→Y.call f_f (bw [bc .i64 a0_0,bc .i64 a0_1,bc .i64 a0_2,bc .i64 a0_3]::f_c) []=some (bp r,[]))(f_l:lends f_f=false){r:Int}(h:Ar s_ f=some r):Y.call 111 [bk 101 (Oo s_),D.clo f_f f_c] []=some (bc .i64 r,[]):=by
 refine ASO ?_ rfl;unfold AES;unfold Ar at h;obtain⟨AX,hl2,h⟩:=Ag h;try dsimp only at h
 simp only [↓AO,AP,↓reduceIte,bj,bh,Int.reduceNeg];refine Ak (CL s_ f f_f f_c f_h f_l hl2 ?_) ?_
 ·simp only [BL,Cv,↓reduceIte,bj,bh,Ab]
 ·intro ex2 s2 hX2;rcases AX with q1000_|q1000_
  ·unfold Af at hX2;dsimp only at hX2 h;obtain⟨rfl,n2_0⟩:=hX2;cases h;simp only [↓AO,AP,↓reduceIte,n2_0]
  ·unfold Af at hX2;dsimp only at hX2 h
   obtain rfl:=hX2
   cases h;simp only [↓AO,AP,↓reduceIte,bj,bh,Int.reduceNeg]
def Ah(s_:List (Int×Int×Int×Int))(f:Int→Int→Int→Int→Option Bool):Option (Bool):= (Ar s_ f).bind fun r7_=> some (decide (0≤r7_))
def k79:SC:= .seq (.ops [oX 4 BR 4]) (.seq (.ops [oM 5 0 97,oM 6 1 102,oC 7 111 [(tK 5),(tK 6)] [97,102] 3,oB 8 .geq 3 (tK 7) (iK 0) 3 4,oA 4 8 4]) .ret)
theorem AET:Tryz.f79.body.map (BQ lends)=some k79:=by kernel_rfl
theorem ASQ:BV Tryz.f79 2=true:=by kernel_rfl
theorem c79{a l:List D}{r:D×List D}(h:BU Y.env k79 (fin Ai l.length [bt 4] r) (entry a l))(ha:a.length=2):Y.call 79 a l=some r:=
 AY (Y:=Y) rfl Tryz.func79 (ha▸ASQ) AET h
theorem CB(s_:List (Int×Int×Int×Int))(f:Int→Int→Int→Int→Option Bool)(f_f:FuncId)(f_c:List D)(f_h: ∀(a0_0 a0_1 a0_2 a0_3:Int) (r:Bool),f a0_0 a0_1 a0_2 a0_3=some r→Y.call f_f (bw [bc .i64 a0_0,bc .i64 a0_1,bc .i64 a0_2,bc .i64 a0_3]::f_c) []=some (bp r,[]))(f_l:lends f_f=false){r:Bool}(h:Ah s_ f=some r):Y.call 79 [bk 101 (Oo s_),D.clo f_f f_c] []=some (bp r,[]):=by
 refine c79 ?_ rfl;unfold k79;unfold Ah at h;obtain⟨r7_,hl1,h⟩:=Ag h;try dsimp only at h
 have c1:=CQ s_ f f_f f_c f_h f_l hl1;cases h;simp only [↓AO,AP,↓reduceIte,bj,bh,c1]
def MN(e_v e_i e_w e_j:Int):Option (Bool):= if e_v=e_w then some (decide (e_i=e_j)) else some false
def k80:SC:= .seq (.ops [oX 1 (.box 101 (tK 0)) 0,oX 2 BR 4]) (.seq (.ops [oF 3 101 1 0,oL 4 3 3 3,oF 5 101 1 2,oL 6 3 5 3,oB 7 .eql 3 (tK 4) (tK 6) 3 4,oM 8 7 4,⟨some 9,.fieldAddr 101 (tK 1) 1,0,(some (some 8,true))⟩,⟨some 10,.load 3 (tK 9),3,(some (some 8,true))⟩,⟨some 11,.fieldAddr 101 (tK 1) 3,0,(some (some 8,true))⟩,⟨some 12,.load 3 (tK 11),3,(some (some 8,true))⟩,⟨some 13,.binOp .eql 3 (tK 10) (tK 12) 3,4,(some (some 8,true))⟩,oX 14 (.pick (tK 8) (tK 13) Lm) 4,oA 2 14 4]) .ret)
theorem AEU:Tryz.f80.body.map (BQ lends)=some k80:=by kernel_rfl
theorem ASS:BV Tryz.f80 1=true:=by kernel_rfl
theorem c80{a l:List D}{r:D×List D}(h:BU Y.env k80 (fin Ai l.length [bt 2] r) (entry a l))(ha:a.length=1):Y.call 80 a l=some r:=
 AY (Y:=Y) rfl Tryz.func80 (ha▸ASS) AEU h
theorem Yd(e_v e_i e_w e_j:Int){r:Bool}(h:MN e_v e_i e_w e_j=some r):Y.call 80 [bw [bc .i64 e_v,bc .i64 e_i,bc .i64 e_w,bc .i64 e_j]] []=some (bp r,[]):=by
 refine c80 ?_ rfl;unfold k80;unfold MN at h;rcases iS h with⟨e1,h⟩|⟨e1,h⟩
 ·cases h;simp only [↓AO,AP,↓reduceIte,bj,bh,decide_eq_true e1]
 ·cases h;simp only [↓AO,AP,↓reduceIte,bj,bh,e1]
def Ef(A9:Ac)(Aa AC:AU)(Cb:AU)(Bn:Int)(Q8:AU)(out1:AU)(aD:Int):Option ((AU×Int)⊕(AU)):= if aD<(Q8.length:Int)then ck (0≤aD∧aD.toNat<Q8.length)<| if 0≤(Q8.getD aD.toNat be)then ck (0≤aD∧aD.toNat<out1.length)<| some (bo ((out1.set aD.toNat Bn),bm.wrap (aD+1))) else some (bo (out1,bm.wrap (aD+1))) else some (bl out1)
def JP(A9:Ac)(Aa AC:AU)(Cb:AU)(Bn:Int)(Q8:AU)(v:AU×Int):Option (AU):=E9 (fun v=>Ef A9 Aa AC Cb Bn Q8 v.1 v.2) v
def Eg(A9:Ac)(Aa AC:AU)(Cb:AU)(out:AU)(Bn:Int):Option ((AU×Int)⊕(AU)):= if Bn<(Cb.length:Int)then ck (0≤Bn∧Bn.toNat<out.length)<| if 0≤(out.getD Bn.toNat be)then some (bo (out,bm.wrap (Bn+1))) else (JN A9 Aa AC Bn).bind fun Q8=> (JP A9 Aa AC Cb Bn Q8 (out,0)).bind fun AX=> some (bo (AX,bm.wrap (Bn+1))) else some (bl out)
def MC(A9:Ac)(Aa AC:AU)(Cb:AU)(v:AU×Int):Option (AU):=E9 (fun v=>Eg A9 Aa AC Cb v.1 v.2) v
def Mw(A9:Ac)(Aa AC:AU):Option (AU):= (gRp [(-1)] (A9.length:Int)).bind fun Cb=> (MC A9 Aa AC Cb (Cb,0)).bind fun Ap=> some Ap
def qz:SC:= .seq (.ops [oB 27 .lss 3 (tK 26) (tK 25) 3 0]) (.seq (.cond (tK 27) .skip (.exit 2)) (.seq (.block 3 (.seq (.ops [oM 28 26 3,oI 29 26 24 26,oL 30 3 29 3,oA 5 28 3,oA 6 30 3]) (.seq (.ops [oM 31 6 3,oB 32 .geq 3 (tK 31) (iK 0) 3 4]) (.cond (tK 32) (.ops [oM 33 3 26,oM 34 5 3,oM 35 4 3,oI 36 26 33 34,oS 3 36 35]) .skip)))) (.ops [oB 37 .add 3 (tK 26) (iK 1) 3 3,oM 26 37 3])))
def A5N:SC:= .loop qz
def rA:SC:= .seq (.ops [oB 15 .lss 3 (tK 14) (tK 13) 3 0]) (.seq (.cond (tK 15) .skip (.exit 0)) (.seq (.block 1 (.seq (.ops [oM 16 14 3,oA 4 16 3]) (.seq (.seq (.ops [oM 17 3 26,oM 18 4 3,oI 19 26 17 18,oL 20 3 19 3,oB 21 .geq 3 (tK 20) (iK 0) 3 4]) (.cond (tK 21) (.exit 1) .skip)) (.seq (.ops [oL 22 38 1 38,oM 23 4 3,oC 24 87 [(tK 22),(tK 23)] [38,3] 26,oN 25 24 26,oX 26 (.move (iK 0)) 3]) (.block 2 A5N))))) (.ops [oB 38 .add 3 (tK 14) (iK 1) 3 3,oM 14 38 3])))
def A5O:SC:= .loop rA
def k53:SC:= .seq (.ops [oX 1 (.box 38 (tK 0)) 0,oX 2 Gt 26]) (.seq (.ops [oX 7 A78 26,oF 8 38 1 0,oL 9 36 8 36,oN 10 9 36,oC 11 81 [(tK 7),(tK 10)] [26,3] 26,oA 3 11 26]) (.seq (.seq (.ops [oM 12 3 26,oN 13 12 26,oX 14 (.move (iK 0)) 3]) (.block 0 A5O)) (.seq (.ops [oM 39 3 26,oA 2 39 26]) .ret)))
theorem AEV:Tryz.f53.body.map (BQ lends)=some k53:=by kernel_rfl
theorem ASU:BV Tryz.f53 1=true:=by kernel_rfl
theorem c53{a l:List D}{r:D×List D}(h:BU Y.env k53 (fin Ai l.length [bt 2] r) (entry a l))(ha:a.length=1):Y.call 53 a l=some r:=
 AY (Y:=Y) rfl Tryz.func53 (ha▸ASU) AEV h
def Dq(A9:Ac)(Aa AC:AU)(Cb:AU)(Bn:Int)(Q8:AU)(out1:AU)(aD:Int)(s:St):Prop:=s.v 1=b8 [bk 79 (AR (fun x=>bk 87 (Aj .i64 .i64 x)) A9),bk 3 (AR (bc .i64) Aa),bk 3 (AR (bc .i64) AC)]∧s.v 3=br 3 (AR (bc .i64) out1)∧s.v 4=bc .i64 Bn∧s.v 13=bc .i64 (Cb.length:Int)∧s.v 14=bc .i64 Bn∧s.v 24=br 3 (AR (bc .i64) Q8)∧s.v 25=bc .i64 (Q8.length:Int)∧s.v 26=bc .i64 aD
def KG(A9:Ac)(Aa AC:AU)(Cb:AU)(Bn:Int)(Q8:AU)(r:AU)(ex:Ex)(s:St):Prop:=ex= .exit 2∧s.v 1=b8 [bk 79 (AR (fun x=>bk 87 (Aj .i64 .i64 x)) A9),bk 3 (AR (bc .i64) Aa),bk 3 (AR (bc .i64) AC)]∧s.v 3=br 3 (AR (bc .i64) r)∧s.v 13=bc .i64 (Cb.length:Int)∧s.v 14=bc .i64 Bn
theorem Vx(A9:Ac)(Aa AC:AU)(Cb:AU)(Bn:Int)(Q8:AU){v:AU×Int}{s:St}{r:AU}(h:JP A9 Aa AC Cb Bn Q8 v=some r)(hM:Dq A9 Aa AC Cb Bn Q8 v.1 v.2 s):BU Y.env A5N (KG A9 Aa AC Cb Bn Q8 r) s:=by
 unfold JP at h;refine Aw (c:=qz) (fun v=>Ef A9 Aa AC Cb Bn Q8 v.1 v.2) (fun v s=>Dq A9 Aa AC Cb Bn Q8 v.1 v.2 s) (KG A9 Aa AC Cb Bn Q8) ?_ h hM;clear h hM s v r;intro v s o hM h;obtain⟨out1,aD⟩:=v;dsimp only at h hM;unfold Ef at h;unfold Dq at hM;obtain⟨m0,m1,m2,m3,m4,m5,m6,m7⟩:=hM;unfold qz;rcases iS h with⟨e6,h⟩|⟨e6,h⟩
 ·obtain⟨e7,h⟩:=De h;rcases iS h with⟨e8,h⟩|⟨e8,h⟩
  ·obtain⟨e9,h⟩:=De h;cases h;simp only [↓AO,AP,↓reduceIte,bj,bh,m0,m1,m2,m3,m4,m5,m6,m7,e6,e7.1,e7.2,e8,e9.2,Dq,D6]
  ·cases h;simp only [↓AO,AP,↓reduceIte,bj,bh,m0,m1,m2,m3,m4,m5,m6,m7,e6,e7.1,e7.2,e8,Dq,D6]
 ·cases h;simp only [↓AO,AP,↓reduceIte,bj,bh,m0,m1,m3,m4,m6,m7,e6,Dq,KG,GH]
def Dr(A9:Ac)(Aa AC:AU)(Cb:AU)(out:AU)(Bn:Int)(s:St):Prop:=s.v 1=b8 [bk 79 (AR (fun x=>bk 87 (Aj .i64 .i64 x)) A9),bk 3 (AR (bc .i64) Aa),bk 3 (AR (bc .i64) AC)]∧s.v 3=br 3 (AR (bc .i64) out)∧s.v 13=bc .i64 (Cb.length:Int)∧s.v 14=bc .i64 Bn
def KH(A9:Ac)(Aa AC:AU)(Cb:AU)(r:AU)(ex:Ex)(s:St):Prop:=ex= .exit 0∧s.v 3=br 3 (AR (bc .i64) r)
theorem Vy(A9:Ac)(Aa AC:AU)(Cb:AU){v:AU×Int}{s:St}{r:AU}(h:MC A9 Aa AC Cb v=some r)(hM:Dr A9 Aa AC Cb v.1 v.2 s):BU Y.env A5O (KH A9 Aa AC Cb r) s:=by
 unfold MC at h;refine Aw (c:=rA) (fun v=>Eg A9 Aa AC Cb v.1 v.2) (fun v s=>Dr A9 Aa AC Cb v.1 v.2 s) (KH A9 Aa AC Cb) ?_ h hM;clear h hM s v r;intro v s o hM h;obtain⟨out,Bn⟩:=v;dsimp only at h hM;unfold Eg at h;unfold Dr at hM;obtain⟨m0,m1,m2,m3⟩:=hM;unfold rA;rcases iS h with⟨e2,h⟩|⟨e2,h⟩
 ·obtain⟨e3,h⟩:=De h;rcases iS h with⟨e4,h⟩|⟨e4,h⟩
  ·cases h;simp only [↓AO,AP,↓reduceIte,bj,bh,m0,m1,m2,m3,e2,e3.1,e3.2,e4,Dr,D6]
  ·obtain⟨Q8,hl5,h⟩:=Ag h;have c5:=UN A9 Aa AC Bn hl5;obtain⟨AX,hl7,h⟩:=Ag h;try dsimp only at h
   simp only [↓AO,AP,↓reduceIte,bj,bh,m0,m1,m2,m3,e2,e3.1,e3.2,e4,c5];refine Ak (Vx A9 Aa AC Cb Bn Q8 hl7 ?_) ?_
   ·simp only [BL,↓reduceIte,bj,m0,m1,m2,m3,Dq]
   ·intro ex7 s7 hX7;unfold KG at hX7;obtain⟨rfl,n7_0,n7_1,n7_2,n7_3⟩:=hX7;cases h;simp only [↓AO,AP,↓reduceIte,bj,bh,n7_0,n7_1,n7_2,n7_3,Dr,D6]
 ·cases h;simp only [↓AO,AP,↓reduceIte,bj,bh,m1,m2,m3,e2,Dr,KH,GH]
theorem Xc(A9:Ac)(Aa AC:AU){r:AU}(h:Mw A9 Aa AC=some r):Y.call 53 [bw [bk 79 (AR (fun x=>bk 87 (Aj .i64 .i64 x)) A9),bk 3 (AR (bc .i64) Aa),bk 3 (AR (bc .i64) AC)]] []=some (br 3 (AR (bc .i64) r),[]):=by
 refine c53 ?_ rfl;unfold k53;unfold Mw at h;obtain⟨Cb,hl1,h⟩:=Ag h;try dsimp only at h
 have c1:=XT [(-1)] (A9.length:Int) hl1;simp only [JF,Um]at c1;obtain⟨Ap,hl3,h⟩:=Ag h;try dsimp only at h
 simp only [↓AO,AP,↓reduceIte,bj,bh,b5,c1];refine Ak (Vy A9 Aa AC Cb hl3 ?_) ?_
 ·simp only [BL,↓reduceIte,bj,Dr]
 ·intro ex3 s3 hX3;unfold KH at hX3;obtain⟨rfl,n3_0⟩:=hX3;cases h;simp only [↓AO,AP,↓reduceIte,bj,bh,n3_0]
def G7(A9:Ac)(Aa AC:AU)(Vo:(List (Int×Int×Int×Int)))(Nb:AU)(Fe Bn:Int):Option ((Int×Int)⊕(Int)):= if Bn<(Nb.length:Int)then ck (0≤Bn∧Bn.toNat<Nb.length)<| if Bn=(Nb.getD Bn.toNat be)then some (bo (bm.wrap (Fe+1),bm.wrap (Bn+1))) else some (bo (Fe,bm.wrap (Bn+1))) else some (bl Fe)
def Lx(A9:Ac)(Aa AC:AU)(Vo:(List (Int×Int×Int×Int)))(Nb:AU)(v:Int×Int):Option (Int):=E9 (fun v=>G7 A9 Aa AC Vo Nb v.1 v.2) v
def QC(A9:Ac)(Aa AC:AU):Option (Bool):= (JO A9 Aa AC).bind fun Vo=> (Ah Vo (fun a0_0 a0_1 a0_2 a0_3=>MN a0_0 a0_1 a0_2 a0_3)).bind fun Vq=> if Vq=true then some false else (Mw A9 Aa AC).bind fun Nb=> (Lx A9 Aa AC Vo Nb (0,0)).bind fun AX=> some (decide ((Vo.length:Int)=(bm.wrap ((A9.length:Int)-AX))))
def rC:SC:= .seq (.ops [oB 15 .lss 3 (tK 14) (tK 13) 3 0]) (.seq (.cond (tK 15) .skip (.exit 0)) (.seq (.block 1 (.seq (.ops [oM 16 14 3,oI 17 26 12 14,oL 18 3 17 3,oA 5 16 3,oA 6 18 3]) (.seq (.ops [oM 19 5 3,oM 20 6 3,oB 21 .eql 3 (tK 19) (tK 20) 3 4]) (.cond (tK 21) (.ops [oM 22 4 3,oB 23 .add 3 (tK 22) (iK 1) 3 3,oA 4 23 3]) .skip)))) (.ops [oB 24 .add 3 (tK 14) (iK 1) 3 3,oM 14 24 3])))
def A5P:SC:= .loop rC
def k47:SC:= .seq (.ops [oX 1 (.box 38 (tK 0)) 0,oX 2 BR 4]) (.seq (.ops [oL 7 38 1 38,oC 8 78 [(tK 7)] [38] 97,oA 3 8 97]) (.seq (.seq (.ops [oM 9 3 97,oC 10 79 [(tK 9),(.func 80)] [97,102] 4]) (.cond (tK 10) (.seq (.ops [oX 2 BR 4]) .ret) .skip)) (.seq (.ops [oX 4 (.assign (iK 0)) 3]) (.seq (.seq (.ops [oL 11 38 1 38,oC 12 53 [(tK 11)] [38] 26,oN 13 12 26,oX 14 (.move (iK 0)) 3]) (.block 0 A5P)) (.seq (.ops [oM 25 3 97,oN 26 25 97,oF 27 38 1 0,oL 28 36 27 36,oN 29 28 36,oM 30 4 3,oB 31 .sub 3 (tK 29) (tK 30) 3 3,oB 32 .eql 3 (tK 26) (tK 31) 3 4,oA 2 32 4]) .ret)))))
theorem AEW:Tryz.f47.body.map (BQ lends)=some k47:=by kernel_rfl
theorem ASW:BV Tryz.f47 1=true:=by kernel_rfl
theorem c47{a l:List D}{r:D×List D}(h:BU Y.env k47 (fin Ai l.length [bt 2] r) (entry a l))(ha:a.length=1):Y.call 47 a l=some r:=
 AY (Y:=Y) rfl Tryz.func47 (ha▸ASW) AEW h
def El(A9:Ac)(Aa AC:AU)(Vo:(List (Int×Int×Int×Int)))(Nb:AU)(Fe Bn:Int)(s:St):Prop:=s.v 1=b8 [bk 79 (AR (fun x=>bk 87 (Aj .i64 .i64 x)) A9),bk 3 (AR (bc .i64) Aa),bk 3 (AR (bc .i64) AC)]∧s.v 3=br 101 (Oo Vo)∧s.v 4=bc .i64 Fe∧s.v 12=br 3 (AR (bc .i64) Nb)∧s.v 13=bc .i64 (Nb.length:Int)∧s.v 14=bc .i64 Bn
def ME(A9:Ac)(Aa AC:AU)(Vo:(List (Int×Int×Int×Int)))(Nb:AU)(r:Int)(ex:Ex)(s:St):Prop:=ex= .exit 0∧s.v 1=b8 [bk 79 (AR (fun x=>bk 87 (Aj .i64 .i64 x)) A9),bk 3 (AR (bc .i64) Aa),bk 3 (AR (bc .i64) AC)]∧s.v 3=br 101 (Oo Vo)∧s.v 4=bc .i64 r
theorem Ye(A9:Ac)(Aa AC:AU)(Vo:(List (Int×Int×Int×Int)))(Nb:AU){v:Int×Int}{s:St}{r:Int}(h:Lx A9 Aa AC Vo Nb v=some r)(hM:El A9 Aa AC Vo Nb v.1 v.2 s):BU Y.env A5P (ME A9 Aa AC Vo Nb r) s:=by
 unfold Lx at h;refine Aw (c:=rC) (fun v=>G7 A9 Aa AC Vo Nb v.1 v.2) (fun v s=>El A9 Aa AC Vo Nb v.1 v.2 s) (ME A9 Aa AC Vo Nb) ?_ h hM;clear h hM s v r;intro v s o hM h;obtain⟨Fe,Bn⟩:=v;dsimp only at h hM;unfold G7 at h;unfold El at hM;obtain⟨m0,m1,m2,m3,m4,m5⟩:=hM;unfold rC;rcases iS h with⟨e5,h⟩|⟨e5,h⟩
 ·obtain⟨e6,h⟩:=De h;rcases iS h with⟨e7,h⟩|⟨e7,h⟩
  ·cases h;simp only [↓AO,AP,↓reduceIte,bj,bh,m0,m1,m2,m3,m4,m5,e5,e6.1,e6.2,decide_eq_true e7,El,D6]
  ·cases h;simp only [↓AO,AP,↓reduceIte,bj,bh,m0,m1,m2,m3,m4,m5,e5,e6.1,e6.2,e7,El,D6]
 ·cases h;simp only [↓AO,AP,↓reduceIte,bj,bh,m0,m1,m2,m4,m5,e5,El,ME,GH]
theorem aF(A9:Ac)(Aa AC:AU){r:Bool}(h:QC A9 Aa AC=some r):Y.call 47 [bw [bk 79 (AR (fun x=>bk 87 (Aj .i64 .i64 x)) A9),bk 3 (AR (bc .i64) Aa),bk 3 (AR (bc .i64) AC)]] []=some (bp r,[]):=by
 refine c47 ?_ rfl;unfold k47;unfold QC at h;obtain⟨Vo,hl1,h⟩:=Ag h;have c1:=UR A9 Aa AC hl1;obtain⟨Vq,hl2,h⟩:=Ag h;have c2:=CB Vo (fun a0_0 a0_1 a0_2 a0_3=>MN a0_0 a0_1 a0_2 a0_3) 80 [] (fun a0_0 a0_1 a0_2 a0_3 _ hh=>Yd a0_0 a0_1 a0_2 a0_3 hh) ACo hl2;rcases iS h with⟨e3,h⟩|⟨e3,h⟩
 ·cases h;simp only [↓AO,AP,↓reduceIte,bj,bh,c1,c2,e3]
 ·have e3f:Vq=false:=Es.mpr e3;obtain⟨Nb,hl4,h⟩:=Ag h;have c4:=Xc A9 Aa AC hl4;obtain⟨AX,hl6,h⟩:=Ag h;try dsimp only at h
  simp only [↓AO,AP,↓reduceIte,bj,bh,c1,c2,e3f,c4];refine Ak (Ye A9 Aa AC Vo Nb hl6 ?_) ?_
  ·simp only [BL,↓reduceIte,bj,El]
  ·intro ex6 s6 hX6;unfold ME at hX6;obtain⟨rfl,n6_0,n6_1,n6_2⟩:=hX6;cases h;simp only [↓AO,AP,↓reduceIte,bj,bh,n6_0,n6_1,n6_2]
def Ju(A9:Ac)(Aa AC:AU)(GM LJ:Int):Option ((Int)⊕(Unit⊕Unit)):= if LJ<((A9.getD GM.toNat be).length:Int)then ck (0≤LJ∧LJ.toNat<(A9.getD GM.toNat be).length)<| if(((BH (A9.getD GM.toNat be) LJ.toNat)==GM)&&((Bj (A9.getD GM.toNat be) LJ.toNat)==LJ))=true then some (bl (bo ())) else some (bo (bm.wrap (LJ+1))) else some (bl (bl ()))
def OW(A9:Ac)(Aa AC:AU)(GM v:Int):Option (Unit⊕Unit):=E9 (fun v=>Ju A9 Aa AC GM v) v
def Jv(A9:Ac)(Aa AC:AU)(GM:Int):Option ((Int)⊕(Unit⊕Unit)):=
 if GM<(A9.length:Int)then
  ck (0≤GM∧GM.toNat<A9.length)<|
  (OW A9 Aa AC GM 0).bind fun AX=>
  match AX with
  | .inl q1000_=>
   some (bl (bo ()))
  | .inr q1000_=>
   some (bo (bm.wrap (GM+1)))
 else
  some (bl (bl ()))
def Qu(A9:Ac)(Aa AC:AU)(v:Int):Option (Unit⊕Unit):=E9 (fun v=>Jv A9 Aa AC v) v
def UT(A9:Ac)(Aa AC:AU):Option (Bool):=
 (Qu A9 Aa AC 0).bind fun Ap=>
 match Ap with
 | .inl q1001_=>
  some true
 | .inr q1001_=>
  some false
def gq:SC:= .seq (.ops [oB 19 .lss 3 (tK 18) (tK 17) 3 0]) (.seq (.cond (tK 19) .skip (.exit 2)) (.seq (.block 3 (.seq (.ops [oM 20 18 3,oI 21 79 16 18,oL 22 87 21 87,oX 5 (.alloc 87) 0,oA 4 20 3,oS 87 5 22]) (.seq (.ops [oL 23 87 5 87,oM 24 3 3,oM 25 4 3,oX 26 (.build 87 #[(0,(tK 24)),(1,(tK 25))]) 87,oB 27 .eql 87 (tK 23) (tK 26) 87 4]) (.cond (tK 27) (.seq (.ops [oX 2 (.assign Ck) 4]) .ret) .skip)))) (.ops [oB 28 .add 3 (tK 18) (iK 1) 3 3,oM 18 28 3])))
def A0d:SC:= .loop gq
def gy:SC:= .seq (.ops [oB 10 .lss 3 (tK 9) (tK 8) 3 0]) (.seq (.cond (tK 10) .skip (.exit 0)) (.seq (.block 1 (.seq (.ops [oM 11 9 3,oA 3 11 3]) (.seq (.ops [oF 12 38 1 0,oL 13 36 12 36,oM 14 3 3,oI 15 36 13 14,oL 16 79 15 79,oN 17 16 79,oX 18 (.move (iK 0)) 3]) (.block 2 A0d)))) (.ops [oB 29 .add 3 (tK 9) (iK 1) 3 3,oM 9 29 3])))
def A0e:SC:= .loop gy
def AEX:SC:= .seq (.ops [oX 1 (.box 38 (tK 0)) 0,oX 2 BR 4]) (.seq (.seq (.ops [oF 6 38 1 0,oL 7 36 6 36,oN 8 7 36,oX 9 (.move (iK 0)) 3]) (.block 0 A0e)) (.seq (.ops [oX 2 BR 4]) .ret))
theorem A7l:Tryz.f109.body.map (BQ lends)=some AEX:=by kernel_rfl
theorem ALf:BV Tryz.f109 1=true:=by kernel_rfl
theorem ASY{a l:List D}{r:D×List D}(h:BU Y.env AEX (fin Ai l.length [bt 2] r) (entry a l))(ha:a.length=1):Y.call 109 a l=some r:=
 AY (Y:=Y) rfl Tryz.func109 (ha▸ALf) A7l h
def Gr(A9:Ac)(Aa AC:AU)(GM LJ:Int)(s:St):Prop:=s.v 1=b8 [bk 79 (AR (fun x=>bk 87 (Aj .i64 .i64 x)) A9),bk 3 (AR (bc .i64) Aa),bk 3 (AR (bc .i64) AC)]∧s.v 3=bc .i64 GM∧s.v 8=bc .i64 (A9.length:Int)∧s.v 9=bc .i64 GM∧s.v 16=bk 87 (Aj .i64 .i64 (A9.getD GM.toNat be))∧s.v 17=bc .i64 ((A9.getD GM.toNat be).length:Int)∧s.v 18=bc .i64 LJ
def Jw(A9:Ac)(Aa AC:AU)(GM:Int)(r:Unit⊕Unit)(ex:Ex)(s:St):Prop:=match r with
 | .inl q=>ex= .ret∧s.v 2=bp true
 | .inr q=>ex= .exit 2∧s.v 1=b8 [bk 79 (AR (fun x=>bk 87 (Aj .i64 .i64 x)) A9),bk 3 (AR (bc .i64) Aa),bk 3 (AR (bc .i64) AC)]∧s.v 8=bc .i64 (A9.length:Int)∧s.v 9=bc .i64 GM
theorem gz(A9:Ac)(Aa AC:AU)(GM:Int){v:Int}{s:St}{r:Unit⊕Unit}(h:OW A9 Aa AC GM v=some r)(hM:Gr A9 Aa AC GM v s):BU Y.env A0d (Jw A9 Aa AC GM r) s:=by
 unfold OW at h;refine Aw (c:=gq) (fun v=>Ju A9 Aa AC GM v) (fun v s=>Gr A9 Aa AC GM v s) (Jw A9 Aa AC GM) ?_ h hM;clear h hM s v r;intro LJ s o hM h;unfold Ju at h;unfold Gr at hM;obtain⟨m0,m1,m2,m3,m4,m5,m6⟩:=hM;unfold gq;rcases iS h with⟨e3,h⟩|⟨e3,h⟩
 ·obtain⟨e4,h⟩:=De h;rcases iS h with⟨e5,h⟩|⟨e5,h⟩
  ·cases h;simp only [↓AO,AP,↓reduceIte,bj,bh,b5,m1,m4,m5,m6,e3,e4.1,e4.2,e5,Gr,Jw,OC]
  ·have e5f:(((BH (A9.getD GM.toNat be) LJ.toNat)==GM)&&((Bj (A9.getD GM.toNat be) LJ.toNat)==LJ))=false:=Es.mpr e5;cases h;simp only [↓AO,AP,↓reduceIte,bj,bh,b5,m0,m1,m2,m3,m4,m5,m6,e3,e4.1,e4.2,e5f,Gr,D6]
 ·cases h;simp only [↓AO,AP,↓reduceIte,bj,bh,m0,m2,m3,m5,m6,e3,Gr,Jw,GH]
def Gs(A9:Ac)(Aa AC:AU)(GM:Int)(s:St):Prop:=s.v 1=b8 [bk 79 (AR (fun x=>bk 87 (Aj .i64 .i64 x)) A9),bk 3 (AR (bc .i64) Aa),bk 3 (AR (bc .i64) AC)]∧s.v 8=bc .i64 (A9.length:Int)∧s.v 9=bc .i64 GM
def Jy(A9:Ac)(Aa AC:AU)(r:Unit⊕Unit)(ex:Ex)(s:St):Prop:=match r with
 | .inl q=>ex= .ret∧s.v 2=bp true
 | .inr q=>ex= .exit 0
theorem iA(A9:Ac)(Aa AC:AU){v:Int}{s:St}{r:Unit⊕Unit}(h:Qu A9 Aa AC v=some r)(hM:Gs A9 Aa AC v s):BU Y.env A0e (Jy A9 Aa AC r) s:=by
 unfold Qu at h;refine Aw (c:=gy) (fun v=>Jv A9 Aa AC v) (fun v s=>Gs A9 Aa AC v s) (Jy A9 Aa AC) ?_ h hM;clear h hM s v r;intro GM s o hM h;unfold Jv at h;unfold Gs at hM;obtain⟨m0,m1,m2⟩:=hM;unfold gy;rcases iS h with⟨e1,h⟩|⟨e1,h⟩
 ·obtain⟨e2,h⟩:=De h;obtain⟨AX,hl4,h⟩:=Ag h;try dsimp only at h
  simp only [↓AO,AP,↓reduceIte,bj,bh,m0,m1,m2,e1,e2.1,e2.2];refine Ak (gz A9 Aa AC GM hl4 ?_) ?_
  ·simp only [BL,↓reduceIte,bj,m0,m1,m2,Gr]
  ·intro ex4 s4 hX4;rcases AX with q1000_|q1000_
   ·unfold Jw at hX4;dsimp only at hX4 h;obtain⟨rfl,n4_0⟩:=hX4;cases h;simp only [↓AO,AP,n4_0,Gs,Jy,OC]
   ·unfold Jw at hX4;dsimp only at hX4 h;obtain⟨rfl,n4_0,n4_1,n4_2⟩:=hX4;cases h;simp only [↓AO,AP,↓reduceIte,bj,bh,n4_0,n4_1,n4_2,Gs,D6]
 ·cases h;simp only [↓AO,AP,↓reduceIte,bh,m1,m2,e1,Gs,Jy,GH]
theorem kU(A9:Ac)(Aa AC:AU){r:Bool}(h:UT A9 Aa AC=some r):Y.call 109 [bw [bk 79 (AR (fun x=>bk 87 (Aj .i64 .i64 x)) A9),bk 3 (AR (bc .i64) Aa),bk 3 (AR (bc .i64) AC)]] []=some (bp r,[]):=by
 refine ASY ?_ rfl;unfold AEX;unfold UT at h;obtain⟨Ap,hl2,h⟩:=Ag h;try dsimp only at h
 simp only [↓AO,AP,↓reduceIte,bj,bh,bx];refine Ak (iA A9 Aa AC hl2 ?_) ?_
 ·simp only [BL,↓reduceIte,bj,Gs]
 ·intro ex2 s2 hX2;rcases Ap with q1001_|q1001_
  ·unfold Jy at hX2;dsimp only at hX2 h;obtain⟨rfl,n2_0⟩:=hX2;cases h;simp only [↓AO,AP,↓reduceIte,n2_0]
  ·unfold Jy at hX2;dsimp only at hX2 h
   obtain rfl:=hX2
   cases h;simp only [↓AO,AP,↓reduceIte,bj,bh]
def LK(A9:Ac)(out:List (List Bool))(Al:Int)(l:List Bool)(K6:Int):Option (((List Bool)×Int)⊕((List Bool))):= if K6<((ap (A9.getD Al.toNat be).length false).length:Int)then ck (0≤K6∧K6.toNat<l.length)<| some (bo ((l.set K6.toNat true),bm.wrap (K6+1))) else some (bl l)
def QD(A9:Ac)(out:List (List Bool))(Al:Int)(v:(List Bool)×Int):Option ((List Bool)):=E9 (fun v=>LK A9 out Al v.1 v.2) v
def LM(A9:Ac)(out:List (List Bool))(Al:Int):Option (((List (List Bool))×Int)⊕((List (List Bool)))):= if Al<(A9.length:Int)then ck (0≤Al∧Al.toNat<A9.length)<| ck (0≤((A9.getD Al.toNat be).length:Int)∧((A9.getD Al.toNat be).length:Int)<1099511627776)<| (QD A9 out Al ((ap (A9.getD Al.toNat be).length false),0)).bind fun AX=> ck (out.length+1<1099511627776)<| some (bo ((out++[AX]),bm.wrap (Al+1))) else some (bl out)
def Sn(A9:Ac)(v:(List (List Bool))×Int):Option ((List (List Bool))):=E9 (fun v=>LM A9 v.1 v.2) v
def Xd(A9:Ac)(Aa AC:AU):Option ((List (List Bool))):= (Sn A9 ([],0)).bind fun Ap=> some Ap
def iB:SC:= .seq (.ops [oB 21 .lss 3 (tK 20) (tK 19) 3 0]) (.seq (.cond (tK 21) .skip (.exit 2)) (.seq (.block 3 (.seq (.ops [oM 22 20 3,oA 7 22 3]) (.ops [oM 23 6 155,oM 24 7 3,oI 25 155 23 24,⟨none,(.store 4 (tK 25) Ck),0,none⟩]))) (.ops [oB 26 .add 3 (tK 20) (iK 1) 3 3,oM 20 26 3])))
def A0f:SC:= .loop iB
def iC:SC:= .seq (.ops [oB 12 .lss 3 (tK 11) (tK 10) 3 0]) (.seq (.cond (tK 12) .skip (.exit 0)) (.seq (.block 1 (.seq (.ops [oI 13 36 9 11,oL 14 79 13 79,oA 5 14 79]) (.seq (.ops [oM 15 5 79,oN 16 15 79,oX 17 (.makeSlice 155 (tK 16) (tK 16)) 155,oA 6 17 155]) (.seq (.seq (.ops [oM 18 6 155,oN 19 18 155,oX 20 (.move (iK 0)) 3]) (.block 2 A0f)) (.ops [oM 27 3 153,oM 28 6 155,oX 29 (.buildSlice 153 1 #[(0,(tK 28))]) 153,oX 30 (.call ⟨(.builtin .append), #[(tK 27),(tK 29)], #[153,153]⟩) 153,oA 3 30 153]))))) (.ops [oB 31 .add 3 (tK 11) (iK 1) 3 3,oM 11 31 3])))
def A0g:SC:= .loop iC
def AEY:SC:= .seq (.ops [oX 1 (.box 38 (tK 0)) 0,oX 2 Gt 153]) (.seq (.ops [oX 3 Gt 153]) (.seq (.seq (.ops [oF 8 38 1 0,oL 9 36 8 36,oN 10 9 36,oX 11 (.move (iK 0)) 3]) (.block 0 A0g)) (.seq (.ops [oM 32 3 153,oA 2 32 153]) .ret)))
theorem A7m:Tryz.f152.body.map (BQ lends)=some AEY:=by kernel_rfl
theorem ALg:BV Tryz.f152 1=true:=by kernel_rfl
theorem ASZ{a l:List D}{r:D×List D}(h:BU Y.env AEY (fin Ai l.length [bt 2] r) (entry a l))(ha:a.length=1):Y.call 152 a l=some r:=
 AY (Y:=Y) rfl Tryz.func152 (ha▸ALg) A7m h
def LP(A9:Ac)(out:List (List Bool))(Al:Int)(l:List Bool)(K6:Int)(s:St):Prop:=s.v 3=br 155 (AR (fun x=>br 4 (AR bp x)) out)∧s.v 6=br 4 (AR bp l)∧s.v 9=bk 79 (AR (fun x=>bk 87 (Aj .i64 .i64 x)) A9)∧s.v 10=bc .i64 (A9.length:Int)∧s.v 11=bc .i64 Al∧s.v 19=bc .i64 ((ap (A9.getD Al.toNat be).length false).length:Int)∧s.v 20=bc .i64 K6
def PD(A9:Ac)(out:List (List Bool))(Al:Int)(r:(List Bool))(ex:Ex)(s:St):Prop:=ex= .exit 2∧s.v 3=br 155 (AR (fun x=>br 4 (AR bp x)) out)∧s.v 6=br 4 (AR bp r)∧s.v 9=bk 79 (AR (fun x=>bk 87 (Aj .i64 .i64 x)) A9)∧s.v 10=bc .i64 (A9.length:Int)∧s.v 11=bc .i64 Al
theorem kV(A9:Ac)(out:List (List Bool))(Al:Int){v:(List Bool)×Int}{s:St}{r:(List Bool)}(h:QD A9 out Al v=some r)(hM:LP A9 out Al v.1 v.2 s):BU Y.env A0f (PD A9 out Al r) s:=by
 unfold QD at h;refine Aw (c:=iB) (fun v=>LK A9 out Al v.1 v.2) (fun v s=>LP A9 out Al v.1 v.2 s) (PD A9 out Al) ?_ h hM;clear h hM s v r;intro v s o hM h;obtain⟨l,K6⟩:=v;dsimp only at h hM;unfold LK at h;unfold LP at hM;obtain⟨m0,m1,m2,m3,m4,m5,m6⟩:=hM;unfold iB;rcases iS h with⟨e4,h⟩|⟨e4,h⟩
 ·obtain⟨e5,h⟩:=De h;cases h;simp only [↓AO,AP,↓reduceIte,bj,bh,m0,m1,m2,m3,m4,m5,m6,e4,e5.1,e5.2,LP,D6]
 ·cases h;simp only [↓AO,AP,↓reduceIte,bj,bh,m0,m1,m2,m3,m4,m5,m6,e4,LP,PD,GH]
def LQ(A9:Ac)(out:List (List Bool))(Al:Int)(s:St):Prop:=s.v 3=br 155 (AR (fun x=>br 4 (AR bp x)) out)∧s.v 9=bk 79 (AR (fun x=>bk 87 (Aj .i64 .i64 x)) A9)∧s.v 10=bc .i64 (A9.length:Int)∧s.v 11=bc .i64 Al
def PE(A9:Ac)(r:(List (List Bool)))(ex:Ex)(s:St):Prop:=ex= .exit 0∧s.v 3=br 155 (AR (fun x=>br 4 (AR bp x)) r)
theorem kW(A9:Ac){v:(List (List Bool))×Int}{s:St}{r:(List (List Bool))}(h:Sn A9 v=some r)(hM:LQ A9 v.1 v.2 s):BU Y.env A0g (PE A9 r) s:=by
 unfold Sn at h;refine Aw (c:=iC) (fun v=>LM A9 v.1 v.2) (fun v s=>LQ A9 v.1 v.2 s) (PE A9) ?_ h hM;clear h hM s v r;intro v s o hM h;obtain⟨out,Al⟩:=v;dsimp only at h hM;unfold LM at h;unfold LQ at hM;obtain⟨m0,m1,m2,m3⟩:=hM;unfold iC;rcases iS h with⟨e1,h⟩|⟨e1,h⟩
 ·obtain⟨e2,e3,h⟩:=EC h;obtain⟨AX,hl5,h⟩:=Ag h;try dsimp only at h
  simp only [↓AO,AP,↓reduceIte,bj,bh,b5,m1,m2,m3,e1,e2.1,e2.2,e3.1,e3.2];refine Ak (kV A9 out Al hl5 ?_) ?_
  ·simp only [BL,↓reduceIte,bj,m0,m1,m2,m3,LP]
  ·intro ex5 s5 hX5;unfold PD at hX5;obtain⟨rfl,n5_0,n5_1,n5_2,n5_3,n5_4⟩:=hX5;obtain⟨e6,h⟩:=De h;cases h;simp only [↓AO,AP,↓reduceIte,bj,bh,b5,n5_0,n5_1,n5_2,n5_3,n5_4,e6,LQ,D6]
 ·cases h;simp only [↓AO,AP,↓reduceIte,bj,bh,m0,m2,m3,e1,LQ,PE,GH]
theorem rD(A9:Ac)(Aa AC:AU){r:(List (List Bool))}(h:Xd A9 Aa AC=some r):Y.call 152 [bw [bk 79 (AR (fun x=>bk 87 (Aj .i64 .i64 x)) A9),bk 3 (AR (bc .i64) Aa),bk 3 (AR (bc .i64) AC)]] []=some (br 155 (AR (fun x=>br 4 (AR bp x)) r),[]):=by
 refine ASZ ?_ rfl;unfold AEY;unfold Xd at h;obtain⟨Ap,hl2,h⟩:=Ag h;try dsimp only at h
 simp only [↓AO,AP,↓reduceIte,bj,bh,bx];refine Ak (kW A9 hl2 ?_) ?_
 ·simp only [BL,↓reduceIte,bj,LQ]<;>(repeat' apply A7)<;>first|rfl|exact⟨_,rfl⟩|exact⟨_,_,rfl⟩|simp [AR,Ay]
 ·intro ex2 s2 hX2;unfold PE at hX2;obtain⟨rfl,n2_0⟩:=hX2;cases h;simp only [↓AO,AP,↓reduceIte,bj,bh,n2_0]
def Mx(AA:Ac)(AZ AJ:AU)(Cw:List (List Bool))(Cf:Int)(t5_1:AV)(Gj Bt:Int):Option ((AV×Int×Int)⊕(AV)):= if Bt<((AA.getD Cf.toNat be).length:Int)then ck (0≤Cf∧Cf.toNat<t5_1.length)<| ck ((t5_1.getD Cf.toNat be).length+1<1099511627776)<| ck (0≤Cf∧Cf.toNat<Cw.length)<| ck (0≤Bt∧Bt.toNat<(Cw.getD Cf.toNat be).length)<| if((Cw.getD Cf.toNat be).getD Bt.toNat be)=true then some (bo ((t5_1.set Cf.toNat ((t5_1.getD Cf.toNat be)++[Gj])),bm.wrap (Gj+1),bm.wrap (Bt+1))) else some (bo ((t5_1.set Cf.toNat ((t5_1.getD Cf.toNat be)++[Gj])),Gj,bm.wrap (Bt+1))) else some (bl t5_1)
def Sq(AA:Ac)(AZ AJ:AU)(Cw:List (List Bool))(Cf:Int)(v:AV×Int×Int):Option (AV):=E9 (fun v=>Mx AA AZ AJ Cw Cf v.1 v.2.1 v.2.2) v
def N7(AA:Ac)(AZ AJ:AU)(Cw:List (List Bool))(QK:AV)(Cf:Int):Option ((AV×Int)⊕(AV)):= if Cf<(AA.length:Int)then ck (0≤Cf∧Cf.toNat<AA.length)<| (Sq AA AZ AJ Cw Cf (QK,0,0)).bind fun AX=> some (bo (AX,bm.wrap (Cf+1))) else some (bl QK)
def QE(AA:Ac)(AZ AJ:AU)(Cw:List (List Bool))(v:AV×Int):Option (AV):=E9 (fun v=>N7 AA AZ AJ Cw v.1 v.2) v
def LU(AA:Ac)(Cw:List (List Bool))(Ap:AV)(GX:AU)(LV:AU)(t10_0:Ac)(IE:Int)(Ie:Fv)(Rn:Int):Option ((Fv×Int)⊕(Fv)):= if Rn<((AA.getD IE.toNat be).length:Int)then ck (0≤Rn∧Rn.toNat<(AA.getD IE.toNat be).length)<| ck (0≤IE∧IE.toNat<Cw.length)<| ck (0≤Rn∧Rn.toNat<(Cw.getD IE.toNat be).length)<| if((Cw.getD IE.toNat be).getD Rn.toNat be)=true then ck (0≤(BH (AA.getD IE.toNat be) Rn.toNat)∧(BH (AA.getD IE.toNat be) Rn.toNat).toNat<Ap.length)<| ck (0≤(Bj (AA.getD IE.toNat be) Rn.toNat)∧(Bj (AA.getD IE.toNat be) Rn.toNat).toNat<(Ap.getD ((BH (AA.getD IE.toNat be) Rn.toNat).toNat) be).length)<| ck (Ie.length*2+2<1099511627776)<| some (bo ((Ie++[((BH (AA.getD IE.toNat be) Rn.toNat),((Ap.getD ((BH (AA.getD IE.toNat be) Rn.toNat).toNat) be).getD ((Bj (AA.getD IE.toNat be) Rn.toNat).toNat) be))]),bm.wrap (Rn+1))) else some (bo (Ie,bm.wrap (Rn+1))) else some (bl Ie)
def QF(AA:Ac)(Cw:List (List Bool))(Ap:AV)(GX:AU)(LV:AU)(t10_0:Ac)(IE:Int)(v:Fv×Int):Option (Fv):=E9 (fun v=>LU AA Cw Ap GX LV t10_0 IE v.1 v.2) v
def LW(AA:Ac)(Cw:List (List Bool))(Ap:AV)(GX:AU)(LV:AU)(t10_0:Ac)(IE:Int):Option ((Ac×Int)⊕(Ac)):= if IE<(AA.length:Int)then ck (0≤IE∧IE.toNat<AA.length)<| (QF AA Cw Ap GX LV t10_0 IE ([],0)).bind fun BP=> ck (t10_0.length+1<1099511627776)<| some (bo ((t10_0++[BP]),bm.wrap (IE+1))) else some (bl t10_0)
def Sr(AA:Ac)(Cw:List (List Bool))(Ap:AV)(GX:AU)(LV:AU)(v:Ac×Int):Option (Ac):=E9 (fun v=>LW AA Cw Ap GX LV v.1 v.2) v
def Ux(AA:Ac)(AZ AJ:AU)(Cw:List (List Bool)):Option (Ac×AU×AU):= ck (0≤(AA.length:Int)∧(AA.length:Int)<1099511627776)<| (QE AA AZ AJ Cw ((ap AA.length ([]:AU)),0)).bind fun Ap=> (Kw AZ).bind fun GX=> (Kw AJ).bind fun LV=> (Sr AA Cw Ap GX LV ([],0)).bind fun Od=> some (Od,GX,LV)
def iD:SC:= .seq (.ops [oB 31 .lss 3 (tK 30) (tK 29) 3 0]) (.seq (.cond (tK 31) .skip (.exit 2)) (.seq (.block 3 (.seq (.ops [oM 32 30 3,oA 9 32 3]) (.seq (.ops [oM 33 5 22,oM 34 6 3,oM 35 5 22,oM 36 6 3,oI 37 22 35 36,oL 38 26 37 26,oM 39 8 3,oX 40 (.buildSlice 26 1 #[(0,(tK 39))]) 26,oX 41 (.call ⟨(.builtin .append), #[(tK 38),(tK 40)], #[26,26]⟩) 26,oI 42 22 33 34,oS 26 42 41]) (.seq (.ops [oM 43 1 153,oM 44 6 3,oI 45 153 43 44,oL 46 155 45 155,oM 47 9 3,oI 48 155 46 47,oL 49 4 48 4]) (.cond (tK 49) (.ops [oM 50 8 3,oB 51 .add 3 (tK 50) (iK 1) 3 3,oA 8 51 3]) .skip))))) (.ops [oB 52 .add 3 (tK 30) (iK 1) 3 3,oM 30 52 3])))
def A0h:SC:= .loop iD
def iE:SC:= .seq (.ops [oB 24 .lss 3 (tK 23) (tK 22) 3 0]) (.seq (.cond (tK 24) .skip (.exit 0)) (.seq (.block 1 (.seq (.ops [oM 25 23 3,oI 26 36 21 23,oL 27 79 26 79,oA 6 25 3,oA 7 27 79]) (.seq (.ops [oX 8 (.assign (iK 0)) 3]) (.seq (.ops [oM 28 7 79,oN 29 28 79,oX 30 (.move (iK 0)) 3]) (.block 2 A0h))))) (.ops [oB 53 .add 3 (tK 23) (iK 1) 3 3,oM 23 53 3])))
def A0i:SC:= .loop iE
abbrev VE:List Nat:=[83,84,85,86,87,88,89,90,91,92,93,94,95,85,94,96,95,95,97,83,96,13,96,13,97,97]
def iF:SC:= .seq (.ops [oB 72 .lss 3 (tK 71) (tK 70) 3 0]) (.seq (.cond (tK 72) .skip (.exit 6)) (.seq (.block 7 (.seq (.ops [oM 73 71 3,oI 74 79 69 71,oL 75 87 74 87,oX 15 (.alloc 87) 0,oA 14 73 3,oS 87 15 75]) (.seq (.ops [oM 76 1 153,oM 77 11 3,oI 78 153 76 77,oL 79 155 78 155,oM 80 14 3,oI 81 155 79 80,oL 82 4 81 4]) (.cond (tK 82) (.draws [(⟨[83,13,13],VE,[83]⟩,oM 83 13 79),(⟨[84,15,15],VE,[84]⟩,oF 84 87 15 0),(⟨[85,84,15],VE,[85]⟩,oL 85 3 84 3),(⟨[86,5,5],VE,[86]⟩,oM 86 5 22),(⟨[87,15,15],VE,[87]⟩,oF 87 87 15 0),(⟨[88,87,15],VE,[88]⟩,oL 88 3 87 3),(⟨[89,86,88,5,15],VE,[89]⟩,oI 89 22 86 88),(⟨[90,89,5],VE,[90]⟩,oL 90 26 89 26),(⟨[91,15,15],VE,[91]⟩,oF 91 87 15 1),(⟨[92,91,15],VE,[92]⟩,oL 92 3 91 3),(⟨[93,90,92,5,15],VE,[93]⟩,oI 93 26 90 92),(⟨[94,93,5],VE,[94]⟩,oL 94 3 93 3),(⟨[95,85,94,15,5],VE,[95,85,94]⟩,oX 95 (.build 87 #[(0,(tK 85)),(1,(tK 94))]) 87),(⟨[96,95,95],VE,[96,95,95]⟩,oX 96 (.buildSlice 79 1 #[(0,(tK 95))]) 79),(⟨[97,83,96,13,96],VE,[97,83,96,13,96]⟩,oX 97 (.call ⟨(.builtin .append), #[(tK 83),(tK 96)], #[79,79]⟩) 79),(⟨[13,97,97],VE,[13,97,97]⟩,oA 13 97 79)]) .skip)))) (.ops [oB 98 .add 3 (tK 71) (iK 1) 3 3,oM 71 98 3])))
def A0j:SC:= .loop iF
def iG:SC:= .seq (.ops [oB 65 .lss 3 (tK 64) (tK 63) 3 0]) (.seq (.cond (tK 65) .skip (.exit 4)) (.seq (.block 5 (.seq (.ops [oM 66 64 3,oI 67 36 62 64,oL 68 79 67 79,oA 11 66 3,oA 12 68 79]) (.seq (.ops [oX 13 Gt 79]) (.seq (.seq (.ops [oM 69 12 79,oN 70 69 79,oX 71 (.move (iK 0)) 3]) (.block 6 A0j)) (.ops [oF 99 38 10 0,oL 100 36 99 36,oM 101 13 79,oX 102 (.buildSlice 36 1 #[(0,(tK 101))]) 36,oX 103 (.call ⟨(.builtin .append), #[(tK 100),(tK 102)], #[36,36]⟩) 36,oF 104 38 10 0,oS 36 104 103]))))) (.ops [oB 105 .add 3 (tK 64) (iK 1) 3 3,oM 64 105 3])))
def A0k:SC:= .loop iG
abbrev rE:List Nat:=[54,55,56,57,58,59,60,56,59,56,59,10,10,60,10,60]
def AEZ:SC:= .seq (.ops [oX 2 (.box 38 (tK 0)) 0,oX 4 (.alloc 38) 0]) (.seq (.ops [oF 16 38 2 0,oL 17 36 16 36,oN 18 17 36,oX 19 (.makeSlice 22 (tK 18) (tK 18)) 22,oA 5 19 22]) (.seq (.seq (.ops [oF 20 38 2 0,oL 21 36 20 36,oN 22 21 36,oX 23 (.move (iK 0)) 3]) (.block 0 A0i)) (.seq (.draws [(⟨[54,2,2],rE,[54]⟩,oF 54 38 2 1),(⟨[55,54,2],rE,[55]⟩,oL 55 26 54 26),(⟨[56,55,2],rE,[56]⟩,oC 56 92 [(tK 55)] [26] 26),(⟨[57,2,2],rE,[57]⟩,oF 57 38 2 2),(⟨[58,57,2],rE,[58]⟩,oL 58 26 57 26),(⟨[59,58,2],rE,[59]⟩,oC 59 92 [(tK 58)] [26] 26),(⟨[60,56,59,56,59],rE,[60,56,59,56,59]⟩,oX 60 (.build 38 #[(1,(tK 56)),(2,(tK 59))]) 38),(⟨[10],rE,[10]⟩,oX 10 (.alloc 38) 0),(⟨[10,60,10,60],rE,[10,60,10,60]⟩,oS 38 10 60)]) (.seq (.seq (.ops [oF 61 38 2 0,oL 62 36 61 36,oN 63 62 36,oX 64 (.move (iK 0)) 3]) (.block 4 A0k)) (.seq (.ops [oL 106 38 10 38,oS 38 4 106]) .ret)))))
theorem A7n:Tryz.f153.body.map (BQ lends)=some AEZ:=by kernel_rfl
theorem ALh:BV Tryz.f153 2=true:=by kernel_rfl
theorem ASa{a l:List D}{r:D×List D}(h:BU Y.env AEZ (fin Ai l.length [ResultVar.cell 4 38] r) (entry a l))(ha:a.length=2):Y.call 153 a l=some r:=
 AY (Y:=Y) rfl Tryz.func153 (ha▸ALh) A7n h
def J8(AA:Ac)(AZ AJ:AU)(Cw:List (List Bool))(Cf:Int)(t5_1:AV)(Gj Bt:Int)(s:St):Prop:=s.v 1=bk 155 (AR (fun x=>bk 4 (AR bp x)) Cw)∧s.v 2=b8 [bk 79 (AR (fun x=>bk 87 (Aj .i64 .i64 x)) AA),bk 3 (AR (bc .i64) AZ),bk 3 (AR (bc .i64) AJ)]∧s.v 4=b8 [br 79 [],br 3 [],br 3 []]∧s.v 5=br 26 (AR Ew t5_1)∧s.v 6=bc .i64 Cf∧s.v 8=bc .i64 Gj∧s.v 21=bk 79 (AR (fun x=>bk 87 (Aj .i64 .i64 x)) AA)∧s.v 22=bc .i64 (AA.length:Int)∧s.v 23=bc .i64 Cf∧s.v 29=bc .i64 ((AA.getD Cf.toNat be).length:Int)∧s.v 30=bc .i64 Bt
def PG(AA:Ac)(AZ AJ:AU)(Cw:List (List Bool))(Cf:Int)(r:AV)(ex:Ex)(s:St):Prop:=ex= .exit 2∧s.v 1=bk 155 (AR (fun x=>bk 4 (AR bp x)) Cw)∧s.v 2=b8 [bk 79 (AR (fun x=>bk 87 (Aj .i64 .i64 x)) AA),bk 3 (AR (bc .i64) AZ),bk 3 (AR (bc .i64) AJ)]∧s.v 4=b8 [br 79 [],br 3 [],br 3 []]∧s.v 5=br 26 (AR Ew r)∧s.v 21=bk 79 (AR (fun x=>bk 87 (Aj .i64 .i64 x)) AA)∧s.v 22=bc .i64 (AA.length:Int)∧s.v 23=bc .i64 Cf
theorem kX(AA:Ac)(AZ AJ:AU)(Cw:List (List Bool))(Cf:Int){v:AV×Int×Int}{s:St}{r:AV}(h:Sq AA AZ AJ Cw Cf v=some r)(hM:J8 AA AZ AJ Cw Cf v.1 v.2.1 v.2.2 s):BU Y.env A0h (PG AA AZ AJ Cw Cf r) s:=by
 unfold Sq at h;refine Aw (c:=iD) (fun v=>Mx AA AZ AJ Cw Cf v.1 v.2.1 v.2.2) (fun v s=>J8 AA AZ AJ Cw Cf v.1 v.2.1 v.2.2 s) (PG AA AZ AJ Cw Cf) ?_ h hM;clear h hM s v r;intro v s o hM h;obtain⟨t5_1,Gj,Bt⟩:=v;dsimp only at h hM;unfold Mx at h;unfold J8 at hM;obtain⟨m0,m1,m2,m3,m4,m5,m6,m7,m8,m9,m10⟩:=hM;unfold iD;rcases iS h with⟨e4,h⟩|⟨e4,h⟩
 ·obtain⟨e5,e6,e7,e8,h⟩:=vR h;rcases iS h with⟨e9,h⟩|⟨e9,h⟩
  ·cases h;simp only [↓AO,AP,↓reduceIte,bj,bh,b5,m0,m1,m2,m3,m4,m5,m6,m7,m8,m9,m10,e4,e5.1,e5.2,e6,e7.2,e8.1,e8.2,e9,J8,D6]
  ·have e9f:((Cw.getD Cf.toNat be).getD Bt.toNat be)=false:=Es.mpr e9;cases h;simp only [↓AO,AP,↓reduceIte,bj,bh,b5,m0,m1,m2,m3,m4,m5,m6,m7,m8,m9,m10,e4,e5.1,e5.2,e6,e7.2,e8.1,e8.2,e9f,J8,D6]
 ·cases h;simp only [↓AO,AP,↓reduceIte,bj,bh,m0,m1,m2,m3,m6,m7,m8,m9,m10,e4,J8,PG,GH]
def LX(AA:Ac)(AZ AJ:AU)(Cw:List (List Bool))(QK:AV)(Cf:Int)(s:St):Prop:=s.v 1=bk 155 (AR (fun x=>bk 4 (AR bp x)) Cw)∧s.v 2=b8 [bk 79 (AR (fun x=>bk 87 (Aj .i64 .i64 x)) AA),bk 3 (AR (bc .i64) AZ),bk 3 (AR (bc .i64) AJ)]∧s.v 4=b8 [br 79 [],br 3 [],br 3 []]∧s.v 5=br 26 (AR Ew QK)∧s.v 21=bk 79 (AR (fun x=>bk 87 (Aj .i64 .i64 x)) AA)∧s.v 22=bc .i64 (AA.length:Int)∧s.v 23=bc .i64 Cf
def PH(AA:Ac)(AZ AJ:AU)(Cw:List (List Bool))(r:AV)(ex:Ex)(s:St):Prop:=ex= .exit 0∧s.v 1=bk 155 (AR (fun x=>bk 4 (AR bp x)) Cw)∧s.v 2=b8 [bk 79 (AR (fun x=>bk 87 (Aj .i64 .i64 x)) AA),bk 3 (AR (bc .i64) AZ),bk 3 (AR (bc .i64) AJ)]∧s.v 4=b8 [br 79 [],br 3 [],br 3 []]∧s.v 5=br 26 (AR Ew r)
theorem kY(AA:Ac)(AZ AJ:AU)(Cw:List (List Bool)){v:AV×Int}{s:St}{r:AV}(h:QE AA AZ AJ Cw v=some r)(hM:LX AA AZ AJ Cw v.1 v.2 s):BU Y.env A0i (PH AA AZ AJ Cw r) s:=by
 unfold QE at h;refine Aw (c:=iE) (fun v=>N7 AA AZ AJ Cw v.1 v.2) (fun v s=>LX AA AZ AJ Cw v.1 v.2 s) (PH AA AZ AJ Cw) ?_ h hM;clear h hM s v r;intro v s o hM h;obtain⟨QK,Cf⟩:=v;dsimp only at h hM;unfold N7 at h;unfold LX at hM;obtain⟨m0,m1,m2,m3,m4,m5,m6⟩:=hM;unfold iE;rcases iS h with⟨e2,h⟩|⟨e2,h⟩
 ·obtain⟨e3,h⟩:=De h;obtain⟨AX,hl5,h⟩:=Ag h;try dsimp only at h
  simp only [↓AO,AP,↓reduceIte,bj,bh,m4,m5,m6,e2,e3.1,e3.2];refine Ak (kX AA AZ AJ Cw Cf hl5 ?_) ?_
  ·simp only [BL,↓reduceIte,bj,m0,m1,m2,m3,m4,m5,m6,J8]
  ·intro ex5 s5 hX5;unfold PG at hX5;obtain⟨rfl,n5_0,n5_1,n5_2,n5_3,n5_4,n5_5,n5_6⟩:=hX5;cases h;simp only [↓AO,AP,↓reduceIte,bj,bh,n5_0,n5_1,n5_2,n5_3,n5_4,n5_5,n5_6,LX,D6]
 ·cases h;simp only [↓AO,AP,↓reduceIte,bj,bh,m0,m1,m2,m3,m5,m6,e2,LX,PH,GH]
def J9(AA:Ac)(Cw:List (List Bool))(Ap:AV)(GX:AU)(LV:AU)(t10_0:Ac)(IE:Int)(Ie:Fv)(Rn:Int)(s:St):Prop:=s.v 1=bk 155 (AR (fun x=>bk 4 (AR bp x)) Cw)∧s.v 4=b8 [br 79 [],br 3 [],br 3 []]∧s.v 5=br 26 (AR Ew Ap)∧s.v 10=b8 [br 79 (AR (fun x=>br 87 (Aj .i64 .i64 x)) t10_0),br 3 (AR (bc .i64) GX),br 3 (AR (bc .i64) LV)]∧s.v 11=bc .i64 IE∧s.v 13=br 87 (Aj .i64 .i64 Ie)∧s.v 62=bk 79 (AR (fun x=>bk 87 (Aj .i64 .i64 x)) AA)∧s.v 63=bc .i64 (AA.length:Int)∧s.v 64=bc .i64 IE∧s.v 69=bk 87 (Aj .i64 .i64 (AA.getD IE.toNat be))∧s.v 70=bc .i64 ((AA.getD IE.toNat be).length:Int)∧s.v 71=bc .i64 Rn
def PI(AA:Ac)(Cw:List (List Bool))(Ap:AV)(GX:AU)(LV:AU)(t10_0:Ac)(IE:Int)(r:Fv)(ex:Ex)(s:St):Prop:=ex= .exit 6∧s.v 1=bk 155 (AR (fun x=>bk 4 (AR bp x)) Cw)∧s.v 4=b8 [br 79 [],br 3 [],br 3 []]∧s.v 5=br 26 (AR Ew Ap)∧s.v 10=b8 [br 79 (AR (fun x=>br 87 (Aj .i64 .i64 x)) t10_0),br 3 (AR (bc .i64) GX),br 3 (AR (bc .i64) LV)]∧s.v 13=br 87 (Aj .i64 .i64 r)∧s.v 62=bk 79 (AR (fun x=>bk 87 (Aj .i64 .i64 x)) AA)∧s.v 63=bc .i64 (AA.length:Int)∧s.v 64=bc .i64 IE
theorem kZ(AA:Ac)(Cw:List (List Bool))(Ap:AV)(GX:AU)(LV:AU)(t10_0:Ac)(IE:Int){v:Fv×Int}{s:St}{r:Fv}(h:QF AA Cw Ap GX LV t10_0 IE v=some r)(hM:J9 AA Cw Ap GX LV t10_0 IE v.1 v.2 s):BU Y.env A0j (PI AA Cw Ap GX LV t10_0 IE r) s:=by
 unfold QF at h;refine Aw (c:=iF) (fun v=>LU AA Cw Ap GX LV t10_0 IE v.1 v.2) (fun v s=>J9 AA Cw Ap GX LV t10_0 IE v.1 v.2 s) (PI AA Cw Ap GX LV t10_0 IE) ?_ h hM;clear h hM s v r;intro v s o hM h;obtain⟨Ie,Rn⟩:=v;dsimp only at h hM;unfold LU at h;unfold J9 at hM;obtain⟨m0,m1,m2,m3,m4,m5,m6,m7,m8,m9,m10,m11⟩:=hM;unfold iF;rcases iS h with⟨e8,h⟩|⟨e8,h⟩
 ·obtain⟨e9,e10,e11,h⟩:=Om h;rcases iS h with⟨e12,h⟩|⟨e12,h⟩
  ·obtain⟨e13,e14,e15,h⟩:=Om h;cases h;simp only [↓AO,AP,↓reduceIte,bj,bh,b5,m0,m1,m2,m3,m4,m5,m6,m7,m8,m9,m10,m11,e8,e9.1,e9.2,e10.1,e10.2,e11.2,e12,e13.1,e13.2,e14.1,e14.2,e15,J9,D6]
  ·have e12f:((Cw.getD IE.toNat be).getD Rn.toNat be)=false:=Es.mpr e12;cases h;simp only [↓AO,AP,↓reduceIte,bj,bh,m0,m1,m2,m3,m4,m5,m6,m7,m8,m9,m10,m11,e8,e9.1,e9.2,e10.1,e10.2,e11.2,e12f,J9,D6]
 ·cases h;simp only [↓AO,AP,↓reduceIte,bj,bh,m0,m1,m2,m3,m5,m6,m7,m8,m10,m11,e8,J9,PI,GH]
def LY(AA:Ac)(Cw:List (List Bool))(Ap:AV)(GX:AU)(LV:AU)(t10_0:Ac)(IE:Int)(s:St):Prop:=s.v 1=bk 155 (AR (fun x=>bk 4 (AR bp x)) Cw)∧s.v 4=b8 [br 79 [],br 3 [],br 3 []]∧s.v 5=br 26 (AR Ew Ap)∧s.v 10=b8 [br 79 (AR (fun x=>br 87 (Aj .i64 .i64 x)) t10_0),br 3 (AR (bc .i64) GX),br 3 (AR (bc .i64) LV)]∧s.v 62=bk 79 (AR (fun x=>bk 87 (Aj .i64 .i64 x)) AA)∧s.v 63=bc .i64 (AA.length:Int)∧s.v 64=bc .i64 IE
def PK(AA:Ac)(Cw:List (List Bool))(Ap:AV)(GX:AU)(LV:AU)(r:Ac)(ex:Ex)(s:St):Prop:=ex= .exit 4∧s.v 4=b8 [br 79 [],br 3 [],br 3 []]∧s.v 10=b8 [br 79 (AR (fun x=>br 87 (Aj .i64 .i64 x)) r),br 3 (AR (bc .i64) GX),br 3 (AR (bc .i64) LV)]
theorem kg(AA:Ac)(Cw:List (List Bool))(Ap:AV)(GX:AU)(LV:AU){v:Ac×Int}{s:St}{r:Ac}(h:Sr AA Cw Ap GX LV v=some r)(hM:LY AA Cw Ap GX LV v.1 v.2 s):BU Y.env A0k (PK AA Cw Ap GX LV r) s:=by
 unfold Sr at h;refine Aw (c:=iG) (fun v=>LW AA Cw Ap GX LV v.1 v.2) (fun v s=>LY AA Cw Ap GX LV v.1 v.2 s) (PK AA Cw Ap GX LV) ?_ h hM;clear h hM s v r;intro v s o hM h;obtain⟨t10_0,IE⟩:=v;dsimp only at h hM;unfold LW at h;unfold LY at hM;obtain⟨m0,m1,m2,m3,m4,m5,m6⟩:=hM;unfold iG;rcases iS h with⟨e6,h⟩|⟨e6,h⟩
 ·obtain⟨e7,h⟩:=De h;obtain⟨BP,hl9,h⟩:=Ag h;try dsimp only at h
  simp only [↓AO,AP,↓reduceIte,bj,bh,m4,m5,m6,e6,e7.1,e7.2];refine Ak (kZ AA Cw Ap GX LV t10_0 IE hl9 ?_) ?_
  ·simp only [BL,↓reduceIte,bj,m0,m1,m2,m3,m4,m5,m6,J9]<;>(repeat' apply A7)<;>first|rfl|exact⟨_,rfl⟩|exact⟨_,_,rfl⟩|simp [AR,Ay]
  ·intro ex9 s9 hX9;unfold PI at hX9;obtain⟨rfl,n9_0,n9_1,n9_2,n9_3,n9_4,n9_5,n9_6,n9_7⟩:=hX9;obtain⟨e10,h⟩:=De h;cases h;simp only [↓AO,AP,↓reduceIte,bj,bh,b5,bx,n9_0,n9_1,n9_2,n9_3,n9_4,n9_5,n9_6,n9_7,e10,LY,D6]
 ·cases h;simp only [↓AO,AP,↓reduceIte,bj,bh,m1,m3,m5,m6,e6,LY,PK,GH]
theorem rF(AA:Ac)(AZ AJ:AU)(Cw:List (List Bool)){r:Ac×AU×AU}(h:Ux AA AZ AJ Cw=some r):Y.call 153 [bw [bk 79 (AR (fun x=>bk 87 (Aj .i64 .i64 x)) AA),bk 3 (AR (bc .i64) AZ),bk 3 (AR (bc .i64) AJ)],bk 155 (AR (fun x=>bk 4 (AR bp x)) Cw)] []=some (bw [br 79 (AR (fun x=>br 87 (Aj .i64 .i64 x)) r.1),br 3 (AR (bc .i64) r.2.1),br 3 (AR (bc .i64) r.2.2)],[]):=by
 refine ASa ?_ rfl;unfold AEZ;unfold Ux at h;obtain⟨e1,h⟩:=De h;obtain⟨Ap,hl3,h⟩:=Ag h;try dsimp only at h
 simp only [↓AO,AP,↓reduceIte,bj,bh,b5,e1.1,e1.2];refine Ak (kY AA AZ AJ Cw hl3 ?_) ?_
 ·simp only [BL,Cv,↓reduceIte,bj,bh,LX]
 ·intro ex3 s3 hX3;unfold PH at hX3;obtain⟨rfl,n3_0,n3_1,n3_2,n3_3⟩:=hX3;obtain⟨GX,hl4,h⟩:=Ag h;have c4:=Ky AZ hl4;obtain⟨LV,hl5,h⟩:=Ag h;have c5:=Ky AJ hl5;obtain⟨Od,hl7,h⟩:=Ag h;try dsimp only at h
  simp only [↓AO,AP,↓reduceIte,bj,bh,b5,n3_1,c4,c5];refine Ak (kg AA Cw Ap GX LV hl7 ?_) ?_
  ·simp only [BL,↓reduceIte,bj,n3_0,n3_2,n3_3,LY]<;>(repeat' apply A7)<;>first|rfl|exact⟨_,rfl⟩|exact⟨_,_,rfl⟩|simp [AR,Ay]
  ·intro ex7 s7 hX7;unfold PK at hX7;obtain⟨rfl,n7_0,n7_1⟩:=hX7;cases h;simp only [↓AO,AP,↓reduceIte,bj,n7_0,n7_1]
def Ro(A9:Ac)(Aa AC:AU)(v_ i:Int):Option (Int):= ck (0≤v_∧v_.toNat<A9.length)<| ck (0≤i∧i.toNat<(A9.getD v_.toNat be).length)<| (Xd A9 Aa AC).bind fun Q5=> ck (0≤v_∧v_.toNat<Q5.length)<| ck (0≤i∧i.toNat<(Q5.getD v_.toNat be).length)<| ck (0≤(BH (A9.getD v_.toNat be) i.toNat)∧(BH (A9.getD v_.toNat be) i.toNat).toNat<Q5.length)<| ck (0≤(Bj (A9.getD v_.toNat be) i.toNat)∧(Bj (A9.getD v_.toNat be) i.toNat).toNat<((Q5.set v_.toNat ((Q5.getD v_.toNat be).set i.toNat false)).getD ((BH (A9.getD v_.toNat be) i.toNat).toNat) be).length)<| (Ux A9 Aa AC ((Q5.set v_.toNat ((Q5.getD v_.toNat be).set i.toNat false)).set ((BH (A9.getD v_.toNat be) i.toNat).toNat) (((Q5.set v_.toNat ((Q5.getD v_.toNat be).set i.toNat false)).getD ((BH (A9.getD v_.toNat be) i.toNat).toNat) be).set ((Bj (A9.getD v_.toNat be) i.toNat).toNat) false))).bind fun zX=> (UQ zX.1 zX.2.1 zX.2.2 v_).bind fun gN=> ck (0≤(BH (A9.getD v_.toNat be) i.toNat)∧(BH (A9.getD v_.toNat be) i.toNat).toNat<gN.length)<| some (gN.getD ((BH (A9.getD v_.toNat be) i.toNat).toNat) be)
abbrev rG:List Nat:=[25,26,27,28,29,30,31,32,32,8]
abbrev ko:List Nat:=[33,34,35,36,37,38,39,40,41,6,41]
def AEa:SC:= .seq (.ops [oX 3 (.box 38 (tK 0)) 0,oX 6 (.assign (iK 0)) 3]) (.seq (.ops [oF 9 38 3 0,oL 10 36 9 36,oM 11 1 3,oI 12 36 10 11,oL 13 79 12 79,oM 14 2 3,oI 15 79 13 14,oL 16 87 15 87,oX 7 (.alloc 87) 0,oS 87 7 16]) (.seq (.ops [oL 17 38 3 38,oC 18 152 [(tK 17)] [38] 153,oA 8 18 153]) (.seq (.ops [oM 19 8 153,oM 20 1 3,oI 21 153 19 20,oL 22 155 21 155,oM 23 2 3,oI 24 155 22 23,⟨none,(.store 4 (tK 24) Lm),0,none⟩]) (.seq (.draws [(⟨[25,8,8],rG,[25]⟩,oM 25 8 153),(⟨[26,7,7],rG,[26]⟩,oF 26 87 7 0),(⟨[27,26,7],rG,[27]⟩,oL 27 3 26 3),(⟨[28,25,27,8,7],rG,[28]⟩,oI 28 153 25 27),(⟨[29,28,8],rG,[29]⟩,oL 29 155 28 155),(⟨[30,7,7],rG,[30]⟩,oF 30 87 7 1),(⟨[31,30,7],rG,[31]⟩,oL 31 3 30 3),(⟨[32,29,31,8,7],rG,[32]⟩,oI 32 155 29 31),(⟨[32,8],rG,[32,8]⟩,⟨none,(.store 4 (tK 32) Lm),0,none⟩)]) (.seq (.draws [(⟨[33,3,3],ko,[33]⟩,oL 33 38 3 38),(⟨[34,8,8],ko,[34]⟩,oM 34 8 153),(⟨[35,33,34,3,8],ko,[35]⟩,oC 35 153 [(tK 33),(tK 34)] [38,153] 38),(⟨[36,1,1],ko,[36]⟩,oM 36 1 3),(⟨[37,35,36,35,1],ko,[37]⟩,oC 37 134 [(tK 35),(tK 36)] [38,3] 26),(⟨[38,7,7],ko,[38]⟩,oF 38 87 7 0),(⟨[39,38,7],ko,[39]⟩,oL 39 3 38 3),(⟨[40,37,39,37,7],ko,[40]⟩,oI 40 26 37 39),(⟨[41,40,37],ko,[41]⟩,oL 41 3 40 3),
 (⟨[6,41,37],ko,[6,41]⟩,oA 6 41 3)]) .ret)))))
theorem A7o:Tryz.f131.body.map (BQ lends)=some AEa:=by kernel_rfl
theorem ALi:BV Tryz.f131 3=true:=by kernel_rfl
theorem ASb{a l:List D}{r:D×List D}(h:BU Y.env AEa (fin Ai l.length [bt 6] r) (entry a l))(ha:a.length=3):Y.call 131 a l=some r:=
 AY (Y:=Y) rfl Tryz.func131 (ha▸ALi) A7o h
theorem iH(A9:Ac)(Aa AC:AU)(v_ i:Int){r:Int}(h:Ro A9 Aa AC v_ i=some r):Y.call 131 [bw [bk 79 (AR (fun x=>bk 87 (Aj .i64 .i64 x)) A9),bk 3 (AR (bc .i64) Aa),bk 3 (AR (bc .i64) AC)],bc .i64 v_,bc .i64 i] []=some (bc .i64 r,[]):=by
 refine ASb ?_ rfl;unfold AEa;unfold Ro at h;obtain⟨e1,e2,h⟩:=EC h;obtain⟨Q5,hl3,h⟩:=Ag h;have c3:=rD A9 Aa AC hl3;obtain⟨e4,e5,e6,e7,h⟩:=vR h;obtain⟨zX,hl8,h⟩:=Ag h;have c8:=rF A9 Aa AC ((Q5.set v_.toNat ((Q5.getD v_.toNat be).set i.toNat false)).set ((BH (A9.getD v_.toNat be) i.toNat).toNat) (((Q5.set v_.toNat ((Q5.getD v_.toNat be).set i.toNat false)).getD ((BH (A9.getD v_.toNat be) i.toNat).toNat) be).set ((Bj (A9.getD v_.toNat be) i.toNat).toNat) false)) hl8;obtain⟨gN,hl9,h⟩:=Ag h;have c9:=kT zX.1 zX.2.1 zX.2.2 v_ hl9;obtain⟨e10,h⟩:=De h;cases h;simp only [↓AO,AP,↓reduceIte,bj,bh,e1.1,e1.2,e2.1,e2.2,c3,e4.2,e5.2,e6.1,e6.2,e7.1,e7.2,c8,c9,e10.2]
def Kg(A9:Ac)(Aa AC:AU)(Al out1 K6:Int):Option ((Int×Int)⊕(Int)):= if K6<((A9.getD Al.toNat be).length:Int)then ck (0≤K6∧K6.toNat<(A9.getD Al.toNat be).length)<| if(((BH (A9.getD Al.toNat be) K6.toNat)==Al)&&((Bj (A9.getD Al.toNat be) K6.toNat)==K6))=true then some (bo (out1,bm.wrap (K6+1))) else (Ro A9 Aa AC Al K6).bind fun A5Q=> if 0≤A5Q then if out1=0 then some (bo (bm.wrap (A5Q+1),bm.wrap (K6+1))) else if(bm.wrap (A5Q+1))<out1 then some (bo (bm.wrap (A5Q+1),bm.wrap (K6+1))) else some (bo (out1,bm.wrap (K6+1))) else some (bo (out1,bm.wrap (K6+1))) else some (bl out1)
def PL(A9:Ac)(Aa AC:AU)(Al:Int)(v:Int×Int):Option (Int):=E9 (fun v=>Kg A9 Aa AC Al v.1 v.2) v
def Kh(A9:Ac)(Aa AC:AU)(out Al:Int):Option ((Int×Int)⊕(Int)):= if Al<(A9.length:Int)then ck (0≤Al∧Al.toNat<A9.length)<| (PL A9 Aa AC Al (out,0)).bind fun AX=> some (bo (AX,bm.wrap (Al+1))) else some (bl out)
def PM(A9:Ac)(Aa AC:AU)(v:Int×Int):Option (Int):=E9 (fun v=>Kh A9 Aa AC v.1 v.2) v
def Rp(A9:Ac)(Aa AC:AU):Option (Int):= (PM A9 Aa AC (0,0)).bind fun Ap=> some Ap
def iI:SC:= .seq (.ops [oB 21 .lss 3 (tK 20) (tK 19) 3 0]) (.seq (.cond (tK 21) .skip (.exit 2)) (.seq (.block 3 (.seq (.ops [oM 22 20 3,oI 23 79 18 20,oL 24 87 23 87,oX 6 (.alloc 87) 0,oA 5 22 3,oS 87 6 24]) (.seq (.seq (.ops [oL 25 87 6 87,oM 26 4 3,oM 27 5 3,oX 28 (.build 87 #[(0,(tK 26)),(1,(tK 27))]) 87,oB 29 .eql 87 (tK 25) (tK 28) 87 4]) (.cond (tK 29) (.exit 3) .skip)) (.seq (.ops [oL 30 38 1 38,oM 31 4 3,oM 32 5 3,oC 33 131 [(tK 30),(tK 31),(tK 32)] [38,3,3] 3,oA 7 33 3]) (.seq (.ops [oM 34 7 3,oB 35 .geq 3 (tK 34) (iK 0) 3 4,oM 36 35 4,⟨some 37,.move (tK 3),3,(some (some 36,true))⟩,⟨some 38,.binOp .eql 3 (tK 37) (iK 0) 3,4,(some (some 36,true))⟩,⟨some 39,.move (tK 38),4,(some (some 36,true))⟩,⟨some 40,.move (tK 7),3,(some (some 39,false))⟩,⟨some 41,.binOp .add 3 (tK 40) (iK 1) 3,3,(some (some 39,false))⟩,⟨some 42,.move (tK 3),3,(some (some 39,false))⟩,⟨some 43,.binOp .lss 3 (tK 41) (tK 42) 3,4,(some (some 39,false))⟩,⟨some 44,.pick (tK 39) Ck (tK 43),4,(some (some 36,true))⟩,oX 45 (.pick (tK 36) (tK 44) Lm) 4]) (.cond (tK 45) (.ops [oM 46 7 3,oB 47 .add 3 (tK 46) (iK 1) 3 3,oA 3 47 3]) .skip)))))) (.ops [oB 48 .add 3 (tK 20) (iK 1) 3 3,
 oM 20 48 3])))
def A0l:SC:= .loop iI
def iJ:SC:= .seq (.ops [oB 12 .lss 3 (tK 11) (tK 10) 3 0]) (.seq (.cond (tK 12) .skip (.exit 0)) (.seq (.block 1 (.seq (.ops [oM 13 11 3,oA 4 13 3]) (.seq (.ops [oF 14 38 1 0,oL 15 36 14 36,oM 16 4 3,oI 17 36 15 16,oL 18 79 17 79,oN 19 18 79,oX 20 (.move (iK 0)) 3]) (.block 2 A0l)))) (.ops [oB 49 .add 3 (tK 11) (iK 1) 3 3,oM 11 49 3])))
def A0m:SC:= .loop iJ
def AEb:SC:= .seq (.ops [oX 1 (.box 38 (tK 0)) 0,oX 2 (.assign (iK 0)) 3]) (.seq (.ops [oX 3 (.assign (iK 0)) 3]) (.seq (.seq (.ops [oF 8 38 1 0,oL 9 36 8 36,oN 10 9 36,oX 11 (.move (iK 0)) 3]) (.block 0 A0m)) (.seq (.ops [oM 50 3 3,oA 2 50 3]) .ret)))
theorem A7p:Tryz.f110.body.map (BQ lends)=some AEb:=by kernel_rfl
theorem ALj:BV Tryz.f110 1=true:=by kernel_rfl
theorem ASc{a l:List D}{r:D×List D}(h:BU Y.env AEb (fin Ai l.length [bt 2] r) (entry a l))(ha:a.length=1):Y.call 110 a l=some r:=
 AY (Y:=Y) rfl Tryz.func110 (ha▸ALj) A7p h
def Cz(A9:Ac)(Aa AC:AU)(Al out1 K6:Int)(s:St):Prop:=s.v 1=b8 [bk 79 (AR (fun x=>bk 87 (Aj .i64 .i64 x)) A9),bk 3 (AR (bc .i64) Aa),bk 3 (AR (bc .i64) AC)]∧s.v 3=bc .i64 out1∧s.v 4=bc .i64 Al∧s.v 10=bc .i64 (A9.length:Int)∧s.v 11=bc .i64 Al∧s.v 18=bk 87 (Aj .i64 .i64 (A9.getD Al.toNat be))∧s.v 19=bc .i64 ((A9.getD Al.toNat be).length:Int)∧s.v 20=bc .i64 K6
def N8(A9:Ac)(Aa AC:AU)(Al r:Int)(ex:Ex)(s:St):Prop:=ex= .exit 2∧s.v 1=b8 [bk 79 (AR (fun x=>bk 87 (Aj .i64 .i64 x)) A9),bk 3 (AR (bc .i64) Aa),bk 3 (AR (bc .i64) AC)]∧s.v 3=bc .i64 r∧s.v 10=bc .i64 (A9.length:Int)∧s.v 11=bc .i64 Al
theorem aG(A9:Ac)(Aa AC:AU)(Al:Int){v:Int×Int}{s:St}{r:Int}(h:PL A9 Aa AC Al v=some r)(hM:Cz A9 Aa AC Al v.1 v.2 s):BU Y.env A0l (N8 A9 Aa AC Al r) s:=by
 unfold PL at h;refine Aw (c:=iI) (fun v=>Kg A9 Aa AC Al v.1 v.2) (fun v s=>Cz A9 Aa AC Al v.1 v.2 s) (N8 A9 Aa AC Al) ?_ h hM;clear h hM s v r;intro v s o hM h;obtain⟨out1,K6⟩:=v;dsimp only at h hM;unfold Kg at h;unfold Cz at hM;obtain⟨m0,m1,m2,m3,m4,m5,m6,m7⟩:=hM;unfold iI;rcases iS h with⟨e3,h⟩|⟨e3,h⟩
 ·obtain⟨e4,h⟩:=De h;rcases iS h with⟨e5,h⟩|⟨e5,h⟩
  ·cases h;simp only [↓AO,AP,↓reduceIte,bj,bh,b5,m0,m1,m2,m3,m4,m5,m6,m7,e3,e4.1,e4.2,e5,Cz,D6]
  ·have e5f:(((BH (A9.getD Al.toNat be) K6.toNat)==Al)&&((Bj (A9.getD Al.toNat be) K6.toNat)==K6))=false:=Es.mpr e5;obtain⟨A5Q,hl6,h⟩:=Ag h;have c6:=iH A9 Aa AC Al K6 hl6;rcases iS h with⟨e7,h⟩|⟨e7,h⟩
   ·rcases iS h with⟨e8,h⟩|⟨e8,h⟩
    ·cases h;simp only [↓AO,AP,↓reduceIte,bj,bh,b5,m0,m1,m2,m3,m4,m5,m6,m7,e3,e4.1,e4.2,e5f,c6,e7,decide_eq_true e8,Cz,D6]
    ·rcases iS h with⟨e9,h⟩|⟨e9,h⟩
     ·cases h;simp only [↓AO,AP,↓reduceIte,bj,bh,b5,m0,m1,m2,m3,m4,m5,m6,m7,e3,e4.1,e4.2,e5f,c6,e7,e8,e9,Cz,D6]
     ·cases h;simp only [↓AO,AP,↓reduceIte,bj,bh,b5,m0,m1,m2,m3,m4,m5,m6,m7,e3,e4.1,e4.2,e5f,c6,e7,e8,e9,Cz,D6]
   ·cases h;simp only [↓AO,AP,↓reduceIte,bj,bh,b5,m0,m1,m2,m3,m4,m5,m6,m7,e3,e4.1,e4.2,e5f,c6,e7,Cz,D6]
 ·cases h;simp only [↓AO,AP,↓reduceIte,bj,bh,m0,m1,m3,m4,m6,m7,e3,Cz,N8,GH]
def IG(A9:Ac)(Aa AC:AU)(out Al:Int)(s:St):Prop:=s.v 1=b8 [bk 79 (AR (fun x=>bk 87 (Aj .i64 .i64 x)) A9),bk 3 (AR (bc .i64) Aa),bk 3 (AR (bc .i64) AC)]∧s.v 3=bc .i64 out∧s.v 10=bc .i64 (A9.length:Int)∧s.v 11=bc .i64 Al
def N9(A9:Ac)(Aa AC:AU)(r:Int)(ex:Ex)(s:St):Prop:=ex= .exit 0∧s.v 3=bc .i64 r
theorem aH(A9:Ac)(Aa AC:AU){v:Int×Int}{s:St}{r:Int}(h:PM A9 Aa AC v=some r)(hM:IG A9 Aa AC v.1 v.2 s):BU Y.env A0m (N9 A9 Aa AC r) s:=by
 unfold PM at h;refine Aw (c:=iJ) (fun v=>Kh A9 Aa AC v.1 v.2) (fun v s=>IG A9 Aa AC v.1 v.2 s) (N9 A9 Aa AC) ?_ h hM;clear h hM s v r;intro v s o hM h;obtain⟨out,Al⟩:=v;dsimp only at h hM;unfold Kh at h;unfold IG at hM;obtain⟨m0,m1,m2,m3⟩:=hM;unfold iJ;rcases iS h with⟨e1,h⟩|⟨e1,h⟩
 ·obtain⟨e2,h⟩:=De h;obtain⟨AX,hl4,h⟩:=Ag h;try dsimp only at h
  simp only [↓AO,AP,↓reduceIte,bj,bh,m0,m2,m3,e1,e2.1,e2.2];refine Ak (aG A9 Aa AC Al hl4 ?_) ?_
  ·simp only [BL,↓reduceIte,bj,m0,m1,m2,m3,Cz]
  ·intro ex4 s4 hX4;unfold N8 at hX4;obtain⟨rfl,n4_0,n4_1,n4_2,n4_3⟩:=hX4;cases h;simp only [↓AO,AP,↓reduceIte,bj,bh,n4_0,n4_1,n4_2,n4_3,IG,D6]
 ·cases h;simp only [↓AO,AP,↓reduceIte,bj,bh,m1,m2,m3,e1,IG,N9,GH]
theorem iL(A9:Ac)(Aa AC:AU){r:Int}(h:Rp A9 Aa AC=some r):Y.call 110 [bw [bk 79 (AR (fun x=>bk 87 (Aj .i64 .i64 x)) A9),bk 3 (AR (bc .i64) Aa),bk 3 (AR (bc .i64) AC)]] []=some (bc .i64 r,[]):=by
 refine ASc ?_ rfl;unfold AEb;unfold Rp at h;obtain⟨Ap,hl2,h⟩:=Ag h;try dsimp only at h
 simp only [↓AO,AP,↓reduceIte,bj,bh,bx];refine Ak (aH A9 Aa AC hl2 ?_) ?_
 ·simp only [BL,↓reduceIte,bj,IG]
 ·intro ex2 s2 hX2;unfold N9 at hX2;obtain⟨rfl,n2_0⟩:=hX2;cases h;simp only [↓AO,AP,↓reduceIte,bj,bh,n2_0]
def QG(A9:Ac)(Aa AC:AU):Option (Bool):= (UT A9 Aa AC).bind fun r4_=> if r4_=true then some false else (Rp A9 Aa AC).bind fun Vo=> some (decide (Vo=0))
def k77:SC:= .seq (.ops [oX 1 (.box 38 (tK 0)) 0,oX 2 BR 4]) (.seq (.ops [oL 3 38 1 38,oC 4 109 [(tK 3)] [38] 4,oX 5 (.unOp .not 4 (tK 4)) 4,oM 6 5 4,⟨some 7,.load 38 (tK 1),38,(some (some 6,true))⟩,⟨some 8,.call ⟨(.value (.func 110)), #[(tK 7)], #[38]⟩,3,(some (some 6,true))⟩,⟨some 9,.binOp .eql 3 (tK 8) (iK 0) 3,4,(some (some 6,true))⟩,oX 10 (.pick (tK 6) (tK 9) Lm) 4,oA 2 10 4]) .ret)
theorem AEc:Tryz.f77.body.map (BQ lends)=some k77:=by kernel_rfl
theorem ASf:BV Tryz.f77 1=true:=by kernel_rfl
theorem c77{a l:List D}{r:D×List D}(h:BU Y.env k77 (fin Ai l.length [bt 2] r) (entry a l))(ha:a.length=1):Y.call 77 a l=some r:=
 AY (Y:=Y) rfl Tryz.func77 (ha▸ASf) AEc h
theorem aI(A9:Ac)(Aa AC:AU){r:Bool}(h:QG A9 Aa AC=some r):Y.call 77 [bw [bk 79 (AR (fun x=>bk 87 (Aj .i64 .i64 x)) A9),bk 3 (AR (bc .i64) Aa),bk 3 (AR (bc .i64) AC)]] []=some (bp r,[]):=by
 refine c77 ?_ rfl;unfold k77;unfold QG at h;obtain⟨r4_,hl1,h⟩:=Ag h;have c1:=kU A9 Aa AC hl1;rcases iS h with⟨e2,h⟩|⟨e2,h⟩
 ·cases h;simp only [↓AO,AP,↓reduceIte,bj,bh,c1,e2]
 ·have e2f:r4_=false:=Es.mpr e2;obtain⟨Vo,hl3,h⟩:=Ag h;try dsimp only at h
  have c3:=iL A9 Aa AC hl3;cases h;simp only [↓AO,AP,↓reduceIte,bj,bh,c1,e2f,c3]
def Su(pL pD:Int)(pN pE:AV)(A9:Ac)(Aa AC:AU):Option (Bool):= ck (BK pN)<| ck (BK pE)<| if(MI pL pD pN pE)=true then ck (Cm A9)<| ck (Aa.length<1099511627776)<| ck (AC.length<1099511627776)<| if(GQ A9 Aa AC)=true then (QG A9 Aa AC).bind fun A5E=> some A5E else some false else some false
def k45:SC:= .seq (.ops [oX 2 (.box 34 (tK 0)) 0,oX 3 (.box 38 (tK 1)) 0,oX 4 BR 4]) (.seq (.ops [oL 5 34 2 34,oC 6 57 [(tK 5)] [34] 4,oM 7 6 4,⟨some 8,.load 38 (tK 3),38,(some (some 7,true))⟩,⟨some 9,.call ⟨(.value (.func 58)), #[(tK 8)], #[38]⟩,4,(some (some 7,true))⟩,oX 10 (.pick (tK 7) (tK 9) Lm) 4,oM 11 10 4,⟨some 12,.load 38 (tK 3),38,(some (some 11,true))⟩,⟨some 13,.call ⟨(.value (.func 77)), #[(tK 12)], #[38]⟩,4,(some (some 11,true))⟩,oX 14 (.pick (tK 11) (tK 13) Lm) 4,oA 4 14 4]) .ret)
theorem AEd:Tryz.f45.body.map (BQ lends)=some k45:=by kernel_rfl
theorem ASh:BV Tryz.f45 2=true:=by kernel_rfl
theorem c45{a l:List D}{r:D×List D}(h:BU Y.env k45 (fin Ai l.length [bt 4] r) (entry a l))(ha:a.length=2):Y.call 45 a l=some r:=
 AY (Y:=Y) rfl Tryz.func45 (ha▸ASh) AEd h
theorem aJ(pL pD:Int)(pN pE:AV)(A9:Ac)(Aa AC:AU){r:Bool}(h:Su pL pD pN pE A9 Aa AC=some r):Y.call 45 [bw [bc .i64 pL,bc .i64 pD,bk 26 (AR Ba pN),bk 26 (AR Ba pE)],bw [bk 79 (AR (fun x=>bk 87 (Aj .i64 .i64 x)) A9),bk 3 (AR (bc .i64) Aa),bk 3 (AR (bc .i64) AC)]] []=some (bp r,[]):=by
 refine c45 ?_ rfl;unfold k45;unfold Su at h;obtain⟨e1,e2,h⟩:=EC h;have c3:=wG pL pD pN pE e1 e2;rcases iS h with⟨e4,h⟩|⟨e4,h⟩
 ·obtain⟨e5,e6,e7,h⟩:=Om h;have c8:=wP A9 Aa AC e5 e6 e7;rcases iS h with⟨e9,h⟩|⟨e9,h⟩
  ·obtain⟨A5E,hl10,h⟩:=Ag h;try dsimp only at h
   have VS:=aI A9 Aa AC hl10;cases h;simp only [↓AO,AP,↓reduceIte,bj,bh,c3,e4,c8,e9,VS]
  ·have e9f:(GQ A9 Aa AC)=false:=Es.mpr e9;cases h;simp only [↓AO,AP,↓reduceIte,bj,bh,c3,e4,c8,e9f]
 ·have e4f:(MI pL pD pN pE)=false:=Es.mpr e4;cases h;simp only [↓AO,AP,↓reduceIte,bj,bh,c3,e4f]
def II(A9:Ac)(out:AV)(Al:Int)(row:AU)(K6:Int):Option ((AU×Int)⊕(AU)):= if K6<((ap (A9.getD Al.toNat be).length 0).length:Int)then ck (0≤K6∧K6.toNat<row.length)<| some (bo ((row.set K6.toNat (-1)),bm.wrap (K6+1))) else some (bl row)
def NA(A9:Ac)(out:AV)(Al:Int)(v:AU×Int):Option (AU):=E9 (fun v=>II A9 out Al v.1 v.2) v
def IJ(A9:Ac)(out:AV)(Al:Int):Option ((AV×Int)⊕(AV)):= if Al<(A9.length:Int)then ck (0≤Al∧Al.toNat<A9.length)<| ck (0≤((A9.getD Al.toNat be).length:Int)∧((A9.getD Al.toNat be).length:Int)<1099511627776)<| (NA A9 out Al ((ap (A9.getD Al.toNat be).length 0),0)).bind fun AX=> ck (out.length+1<1099511627776)<| some (bo ((out++[AX]),bm.wrap (Al+1))) else some (bl out)
def PN(A9:Ac)(v:AV×Int):Option (AV):=E9 (fun v=>IJ A9 v.1 v.2) v
def Rq(A9:Ac)(Aa AC:AU):Option (AV):= (PN A9 ([],0)).bind fun Ap=> some Ap
def rH:SC:= .seq (.ops [oB 21 .lss 3 (tK 20) (tK 19) 3 0]) (.seq (.cond (tK 21) .skip (.exit 2)) (.seq (.block 3 (.seq (.ops [oM 22 20 3,oA 7 22 3]) (.ops [oM 23 6 26,oM 24 7 3,oI 25 26 23 24,⟨none,(.store 3 (tK 25) (.const (.int .i64 (-1)))),0,none⟩]))) (.ops [oB 26 .add 3 (tK 20) (iK 1) 3 3,oM 20 26 3])))
def A5R:SC:= .loop rH
def rJ:SC:= .seq (.ops [oB 12 .lss 3 (tK 11) (tK 10) 3 0]) (.seq (.cond (tK 12) .skip (.exit 0)) (.seq (.block 1 (.seq (.ops [oI 13 36 9 11,oL 14 79 13 79,oA 5 14 79]) (.seq (.ops [oM 15 5 79,oN 16 15 79,oX 17 (.makeSlice 26 (tK 16) (tK 16)) 26,oA 6 17 26]) (.seq (.seq (.ops [oM 18 6 26,oN 19 18 26,oX 20 (.move (iK 0)) 3]) (.block 2 A5R)) (.ops [oM 27 3 22,oM 28 6 26,oX 29 (.buildSlice 22 1 #[(0,(tK 28))]) 22,oX 30 (.call ⟨(.builtin .append), #[(tK 27),(tK 29)], #[22,22]⟩) 22,oA 3 30 22]))))) (.ops [oB 31 .add 3 (tK 11) (iK 1) 3 3,oM 11 31 3])))
def A5S:SC:= .loop rJ
def k50:SC:= .seq (.ops [oX 1 (.box 38 (tK 0)) 0,oX 2 Gt 22]) (.seq (.ops [oX 3 Gt 22]) (.seq (.seq (.ops [oF 8 38 1 0,oL 9 36 8 36,oN 10 9 36,oX 11 (.move (iK 0)) 3]) (.block 0 A5S)) (.seq (.ops [oM 32 3 22,oA 2 32 22]) .ret)))
theorem AEe:Tryz.f50.body.map (BQ lends)=some k50:=by kernel_rfl
theorem ASk:BV Tryz.f50 1=true:=by kernel_rfl
theorem c50{a l:List D}{r:D×List D}(h:BU Y.env k50 (fin Ai l.length [bt 2] r) (entry a l))(ha:a.length=1):Y.call 50 a l=some r:=
 AY (Y:=Y) rfl Tryz.func50 (ha▸ASk) AEe h
def IK(A9:Ac)(out:AV)(Al:Int)(row:AU)(K6:Int)(s:St):Prop:=s.v 3=br 26 (AR Ew out)∧s.v 6=br 3 (AR (bc .i64) row)∧s.v 9=bk 79 (AR (fun x=>bk 87 (Aj .i64 .i64 x)) A9)∧s.v 10=bc .i64 (A9.length:Int)∧s.v 11=bc .i64 Al∧s.v 19=bc .i64 ((ap (A9.getD Al.toNat be).length 0).length:Int)∧s.v 20=bc .i64 K6
def NB(A9:Ac)(out:AV)(Al:Int)(r:AU)(ex:Ex)(s:St):Prop:=ex= .exit 2∧s.v 3=br 26 (AR Ew out)∧s.v 6=br 3 (AR (bc .i64) r)∧s.v 9=bk 79 (AR (fun x=>bk 87 (Aj .i64 .i64 x)) A9)∧s.v 10=bc .i64 (A9.length:Int)∧s.v 11=bc .i64 Al
theorem aK(A9:Ac)(out:AV)(Al:Int){v:AU×Int}{s:St}{r:AU}(h:NA A9 out Al v=some r)(hM:IK A9 out Al v.1 v.2 s):BU Y.env A5R (NB A9 out Al r) s:=by
 unfold NA at h;refine Aw (c:=rH) (fun v=>II A9 out Al v.1 v.2) (fun v s=>IK A9 out Al v.1 v.2 s) (NB A9 out Al) ?_ h hM;clear h hM s v r;intro v s o hM h;obtain⟨row,K6⟩:=v;dsimp only at h hM;unfold II at h;unfold IK at hM;obtain⟨m0,m1,m2,m3,m4,m5,m6⟩:=hM;unfold rH;rcases iS h with⟨e4,h⟩|⟨e4,h⟩
 ·obtain⟨e5,h⟩:=De h;cases h;simp only [↓AO,AP,↓reduceIte,bj,bh,m0,m1,m2,m3,m4,m5,m6,e4,e5.1,e5.2,IK,D6]
 ·cases h;simp only [↓AO,AP,↓reduceIte,bj,bh,m0,m1,m2,m3,m4,m5,m6,e4,IK,NB,GH]
def IL(A9:Ac)(out:AV)(Al:Int)(s:St):Prop:=s.v 3=br 26 (AR Ew out)∧s.v 9=bk 79 (AR (fun x=>bk 87 (Aj .i64 .i64 x)) A9)∧s.v 10=bc .i64 (A9.length:Int)∧s.v 11=bc .i64 Al
def NC(A9:Ac)(r:AV)(ex:Ex)(s:St):Prop:=ex= .exit 0∧s.v 3=br 26 (AR Ew r)
theorem aL(A9:Ac){v:AV×Int}{s:St}{r:AV}(h:PN A9 v=some r)(hM:IL A9 v.1 v.2 s):BU Y.env A5S (NC A9 r) s:=by
 unfold PN at h;refine Aw (c:=rJ) (fun v=>IJ A9 v.1 v.2) (fun v s=>IL A9 v.1 v.2 s) (NC A9) ?_ h hM;clear h hM s v r;intro v s o hM h;obtain⟨out,Al⟩:=v;dsimp only at h hM;unfold IJ at h;unfold IL at hM;obtain⟨m0,m1,m2,m3⟩:=hM;unfold rJ;rcases iS h with⟨e1,h⟩|⟨e1,h⟩
 ·obtain⟨e2,e3,h⟩:=EC h;obtain⟨AX,hl5,h⟩:=Ag h;try dsimp only at h
  simp only [↓AO,AP,↓reduceIte,bj,bh,b5,m1,m2,m3,e1,e2.1,e2.2,e3.1,e3.2];refine Ak (aK A9 out Al hl5 ?_) ?_
  ·simp only [BL,↓reduceIte,bj,m0,m1,m2,m3,IK]<;>(repeat' apply A7)<;>first|rfl|exact⟨_,rfl⟩|exact⟨_,_,rfl⟩|simp [AR]
  ·intro ex5 s5 hX5;unfold NB at hX5;obtain⟨rfl,n5_0,n5_1,n5_2,n5_3,n5_4⟩:=hX5;obtain⟨e6,h⟩:=De h;cases h;simp only [↓AO,AP,↓reduceIte,bj,bh,b5,n5_0,n5_1,n5_2,n5_3,n5_4,e6,IL,D6]
 ·cases h;simp only [↓AO,AP,↓reduceIte,bj,bh,m0,m2,m3,e1,IL,NC,GH]
theorem iM(A9:Ac)(Aa AC:AU){r:AV}(h:Rq A9 Aa AC=some r):Y.call 50 [bw [bk 79 (AR (fun x=>bk 87 (Aj .i64 .i64 x)) A9),bk 3 (AR (bc .i64) Aa),bk 3 (AR (bc .i64) AC)]] []=some (br 26 (AR Ew r),[]):=by
 refine c50 ?_ rfl;unfold k50;unfold Rq at h;obtain⟨Ap,hl2,h⟩:=Ag h;try dsimp only at h
 simp only [↓AO,AP,↓reduceIte,bj,bh,bx];refine Ak (aL A9 hl2 ?_) ?_
 ·simp only [BL,↓reduceIte,bj,IL]<;>(repeat' apply A7)<;>first|rfl|exact⟨_,rfl⟩|exact⟨_,_,rfl⟩|simp [AR,Ay]
 ·intro ex2 s2 hX2;unfold NC at hX2;obtain⟨rfl,n2_0⟩:=hX2;cases h;simp only [↓AO,AP,↓reduceIte,bj,bh,n2_0]
abbrev wS:List Nat:=[11,12,13,14,15,16,17,6,17]
def k29:SC:= .seq (.ops [oX 2 (.box 34 (tK 0)) 0,oX 3 (.box 38 (tK 1)) 0,oX 4 (.assign (iK 0)) 3,oX 5 BR 4]) (.seq (.seq (.ops [oL 7 34 2 34,oL 8 38 3 38,oC 9 45 [(tK 7),(tK 8)] [34,38] 4,oX 10 (.unOp .not 4 (tK 9)) 4]) (.cond (tK 10) (.seq (.ops [oX 4 (.assign (iK 0)) 3,oX 5 BR 4]) .ret) .skip)) (.seq (.draws [(⟨[11,2,2],wS,[11]⟩,oL 11 34 2 34),(⟨[12,3,3],wS,[12]⟩,oL 12 38 3 38),(⟨[13,2,2],wS,[13]⟩,oL 13 34 2 34),(⟨[14,3,3],wS,[14]⟩,oL 14 38 3 38),(⟨[15,14,3],wS,[15]⟩,oC 15 50 [(tK 14)] [38] 22),(⟨[16,13,15,2,15],wS,[16]⟩,oC 16 35 [(tK 13),(tK 15)] [34,22] 22),(⟨[17,11,12,16,2,3,16],wS,[17]⟩,oC 17 51 [(tK 11),(tK 12),(tK 16)] [34,38,22] 3),(⟨[6,17,17],wS,[6,17]⟩,oA 6 17 3)]) (.seq (.seq (.ops [oM 18 6 3,oB 19 .gtr 3 (tK 18) (iK 1000000000000) 3 4]) (.cond (tK 19) (.seq (.ops [oX 4 (.assign (iK 0)) 3,oX 5 BR 4]) .ret) .skip)) (.seq (.ops [oM 20 6 3,oA 4 20 3,oX 5 (.assign Ck) 4]) .ret))))
theorem AEf:Tryz.f29.body.map (BQ lends)=some k29:=by kernel_rfl
theorem ASl:BV Tryz.f29 2=true:=by kernel_rfl
theorem c29{a l:List D}{r:D×List D}(h:BU Y.env k29 (fin Ai l.length [bt 4,bt 5] r) (entry a l))(ha:a.length=2):Y.call 29 a l=some r:=
 AY (Y:=Y) rfl Tryz.func29 (ha▸ASl) AEf h
def FK(A9:Ac)(out:AV)(Ie:Int):Option ((AV×Int)⊕(AV)):= if Ie<(A9.length:Int)then ck (0≤Ie∧Ie.toNat<A9.length)<| (gRp [(-1)] ((A9.getD Ie.toNat be).length:Int)).bind fun A2D=> ck (0≤Ie∧Ie.toNat<out.length)<| some (bo ((out.set Ie.toNat A2D),bm.wrap (Ie+1))) else some (bl out)
def ND(A9:Ac)(v:AV×Int):Option (AV):=E9 (fun v=>FK A9 v.1 v.2) v
def OX(A9:Ac)(Aa AC:AU):Option (AV):= ck (0≤(A9.length:Int)∧(A9.length:Int)<1099511627776)<| (ND A9 ((ap A9.length ([]:AU)),0)).bind fun AX=> some AX
def rM:SC:= .seq (.ops [oB 14 .lss 3 (tK 13) (tK 12) 3 0]) (.seq (.cond (tK 14) .skip (.exit 0)) (.seq (.block 1 (.seq (.ops [oM 15 13 3,oI 16 36 11 13,oL 17 79 16 79,oA 4 15 3,oA 5 17 79]) (.ops [oM 18 3 22,oM 19 4 3,oX 20 A78 26,oM 21 5 79,oN 22 21 79,oC 23 81 [(tK 20),(tK 22)] [26,3] 26,oI 24 22 18 19,oS 26 24 23]))) (.ops [oB 25 .add 3 (tK 13) (iK 1) 3 3,oM 13 25 3])))
def A5T:SC:= .loop rM
def k48:SC:= .seq (.ops [oX 1 (.box 38 (tK 0)) 0,oX 2 Gt 22]) (.seq (.ops [oF 6 38 1 0,oL 7 36 6 36,oN 8 7 36,oX 9 (.makeSlice 22 (tK 8) (tK 8)) 22,oA 3 9 22]) (.seq (.seq (.ops [oF 10 38 1 0,oL 11 36 10 36,oN 12 11 36,oX 13 (.move (iK 0)) 3]) (.block 0 A5T)) (.seq (.ops [oM 26 3 22,oA 2 26 22]) .ret)))
theorem AEg:Tryz.f48.body.map (BQ lends)=some k48:=by kernel_rfl
theorem ASn:BV Tryz.f48 1=true:=by kernel_rfl
theorem c48{a l:List D}{r:D×List D}(h:BU Y.env k48 (fin Ai l.length [bt 2] r) (entry a l))(ha:a.length=1):Y.call 48 a l=some r:=
 AY (Y:=Y) rfl Tryz.func48 (ha▸ASn) AEg h
def FM(A9:Ac)(out:AV)(Ie:Int)(s:St):Prop:=s.v 3=br 26 (AR Ew out)∧s.v 11=bk 79 (AR (fun x=>bk 87 (Aj .i64 .i64 x)) A9)∧s.v 12=bc .i64 (A9.length:Int)∧s.v 13=bc .i64 Ie
def LZ(A9:Ac)(r:AV)(ex:Ex)(s:St):Prop:=ex= .exit 0∧s.v 3=br 26 (AR Ew r)
theorem Xe(A9:Ac){v:AV×Int}{s:St}{r:AV}(h:ND A9 v=some r)(hM:FM A9 v.1 v.2 s):BU Y.env A5T (LZ A9 r) s:=by
 unfold ND at h;refine Aw (c:=rM) (fun v=>FK A9 v.1 v.2) (fun v s=>FM A9 v.1 v.2 s) (LZ A9) ?_ h hM;clear h hM s v r;intro v s o hM h;obtain⟨out,Ie⟩:=v;dsimp only at h hM;unfold FK at h;unfold FM at hM;obtain⟨m0,m1,m2,m3⟩:=hM;unfold rM;rcases iS h with⟨e2,h⟩|⟨e2,h⟩
 ·obtain⟨e3,h⟩:=De h;obtain⟨A2D,hl4,h⟩:=Ag h;try dsimp only at h
  have c4:=XT [(-1)] ((A9.getD Ie.toNat be).length:Int) hl4;simp only [JF,Um]at c4;obtain⟨e5,h⟩:=De h;cases h;simp only [↓AO,AP,↓reduceIte,bj,bh,b5,m0,m1,m2,m3,e2,e3.1,e3.2,c4,e5.2,FM,D6]
 ·cases h;simp only [↓AO,AP,↓reduceIte,bj,bh,m0,m2,m3,e2,FM,LZ,GH]
theorem Yf(A9:Ac)(Aa AC:AU){r:AV}(h:OX A9 Aa AC=some r):Y.call 48 [bw [bk 79 (AR (fun x=>bk 87 (Aj .i64 .i64 x)) A9),bk 3 (AR (bc .i64) Aa),bk 3 (AR (bc .i64) AC)]] []=some (br 26 (AR Ew r),[]):=by
 refine c48 ?_ rfl;unfold k48;unfold OX at h;obtain⟨e1,h⟩:=De h;obtain⟨AX,hl3,h⟩:=Ag h;try dsimp only at h
 simp only [↓AO,AP,↓reduceIte,bj,bh,b5,e1.1,e1.2];refine Ak (Xe A9 hl3 ?_) ?_
 ·simp only [BL,↓reduceIte,bj,FM]
 ·intro ex3 s3 hX3;unfold LZ at hX3;obtain⟨rfl,n3_0⟩:=hX3;cases h;simp only [↓AO,AP,↓reduceIte,bj,bh,n3_0]
def A7q:SC:= .seq (.seq (.ops [oM 26 12 3,oF 27 34 4 0,oL 28 3 27 3,oB 29 .lss 3 (tK 26) (tK 28) 3 4]) (.cond (tK 29) .skip (.exit 0))) (.seq (.block 1 (.seq (.ops [oM 32 11 22,oM 33 2 3,oI 34 22 32 33,oL 35 26 34 26,oM 36 3 3,oM 37 12 3,oI 38 26 35 36,oS 3 38 37]) (.seq (.draws [(⟨[39,4,4],[39,40,41,42,43,44,45],[39]⟩,oL 39 34 4 34),(⟨[40,5,5],[39,40,41,42,43,44,45],[40]⟩,oL 40 38 5 38),(⟨[41,4,4],[39,40,41,42,43,44,45],[41]⟩,oL 41 34 4 34),(⟨[42,11,11],[39,40,41,42,43,44,45],[42]⟩,oM 42 11 22),(⟨[43,41,42,4,11],[39,40,41,42,43,44,45],[43]⟩,oC 43 35 [(tK 41),(tK 42)] [34,22] 22),(⟨[44,39,40,43,4,5,43],[39,40,41,42,43,44,45],[44]⟩,oC 44 51 [(tK 39),(tK 40),(tK 43)] [34,38,22] 3),(⟨[45,44,44],[39,40,41,42,43,44,45],[45]⟩,oB 45 .gtr 3 (tK 44) (iK 0) 3 4)]) (.cond (tK 45) (.ops [oM 46 10 26,oM 47 12 3,oX 48 (.buildSlice 26 1 #[(0,(tK 47))]) 26,oX 49 (.call ⟨(.builtin .append), #[(tK 46),(tK 48)], #[26,26]⟩) 26,oA 10 49 26]) .skip)))) (.ops [oM 30 12 3,oB 31 .add 3 (tK 30) (iK 1) 3 3,oA 12 31 3]))
def AEh:SC:= .loop A7q
def k24:SC:= .seq (.ops [oX 4 (.box 34 (tK 0)) 0,oX 5 (.box 38 (tK 1)) 0,oX 8 Gt 26,oX 9 BR 4]) (.seq (.seq (.ops [oL 13 34 4 34,oL 14 38 5 38,oC 15 45 [(tK 13),(tK 14)] [34,38] 4,oX 16 (.unOp .not 4 (tK 15)) 4,oM 17 16 4,⟨some 18,.load 38 (tK 5),38,(some (some 17,false))⟩,⟨some 19,.move (tK 2),3,(some (some 17,false))⟩,⟨some 20,.move (tK 3),3,(some (some 17,false))⟩,⟨some 21,.call ⟨(.value (.func 49)), #[(tK 18),(tK 19),(tK 20)], #[38,3,3]⟩,4,(some (some 17,false))⟩,⟨some 22,.unOp .not 4 (tK 21),4,(some (some 17,false))⟩,oX 23 (.pick (tK 17) Ck (tK 22)) 4]) (.cond (tK 23) (.seq (.ops [oX 8 Gt 26,oX 9 BR 4]) .ret) .skip)) (.seq (.ops [oX 10 Gt 26]) (.seq (.ops [oL 24 38 5 38,oC 25 50 [(tK 24)] [38] 22,oA 11 25 22]) (.seq (.seq (.ops [oX 12 (.assign (iK 0)) 3]) (.block 0 AEh)) (.seq (.ops [oM 50 10 26,oA 8 50 26,oX 9 (.assign Ck) 4]) .ret)))))
theorem AEi:Tryz.f24.body.map (BQ lends)=some k24:=by kernel_rfl
theorem ASo:BV Tryz.f24 4=true:=by kernel_rfl
theorem xH{a l:List D}{r:D×List D}(h:BU Y.env k24 (fin Ai l.length [bt 8,bt 9] r) (entry a l))(ha:a.length=4):Y.call 24 a l=some r:=
 AY (Y:=Y) rfl Tryz.func24 (ha▸ASo) AEi h
def EJ(tL tD:Int)(tN tE:AV)(AB:Ac)(AL A8:AU)(EO:AV)(JQ:AV)(Bt La:Int)(R6:AV×Bool)(t6_2:AV):Option ((AV)⊕(AV)):= ck (0≤Bt∧Bt.toNat<R6.1.length)<| ck (0≤La∧La.toNat<(R6.1.getD Bt.toNat be).length)<| ck (0≤Bt∧Bt.toNat<t6_2.length)<| ck (0≤La∧La.toNat<(t6_2.getD Bt.toNat be).length)<| ck (¬((t6_2.getD Bt.toNat be).getD La.toNat be)<0)<| if(GA .and .i64 (((R6.1.getD Bt.toNat be).getD La.toNat be).fdiv (2 ^ (min ((t6_2.getD Bt.toNat be).getD La.toNat be).toNat (bm.bits)))) 1)=0 then some (bo (t6_2.set Bt.toNat ((t6_2.getD Bt.toNat be).set La.toNat (bm.wrap (((t6_2.getD Bt.toNat be).getD La.toNat be)+1))))) else some (bl t6_2)
def IM(tL tD:Int)(tN tE:AV)(AB:Ac)(AL A8:AU)(EO:AV)(JQ:AV)(Bt La:Int)(R6:AV×Bool)(v:AV):Option (AV):=E9 (fun v=>EJ tL tD tN tE AB AL A8 EO JQ Bt La R6 v) v
def Cq(tL tD:Int)(tN tE:AV)(AB:Ac)(AL A8:AU)(EO:AV)(JQ:AV)(Bt:Int)(t6_1:AV)(La:Int):Option ((AV×Int)⊕(Unit⊕(AV))):= if La<((JQ.getD Bt.toNat be).length:Int)then (Ii tL tD tN tE AB AL A8 t6_1).bind fun R6=> if R6.2=true then ck (0≤Bt∧Bt.toNat<t6_1.length)<| ck (0≤La∧La.toNat<(t6_1.getD Bt.toNat be).length)<| (IM tL tD tN tE AB AL A8 EO JQ Bt La R6 (t6_1.set Bt.toNat ((t6_1.getD Bt.toNat be).set La.toNat 0))).bind fun AX=> some (bo (AX,bm.wrap (La+1))) else some (bl (bo ())) else some (bl (bl t6_1))
def Da(tL tD:Int)(tN tE:AV)(AB:Ac)(AL A8:AU)(EO:AV)(JQ:AV)(Bt:Int)(v:AV×Int):Option (Unit⊕(AV)):=E9 (fun v=>Cq tL tD tN tE AB AL A8 EO JQ Bt v.1 v.2) v
def Cr(tL tD:Int)(tN tE:AV)(AB:Ac)(AL A8:AU)(EO:AV)(JQ:AV)(Bt:Int):Option ((AV×Int)⊕(Unit⊕(AV))):=
 if Bt<(EO.length:Int)then
  ck (0≤Bt∧Bt.toNat<JQ.length)<|
  (Da tL tD tN tE AB AL A8 EO JQ Bt (JQ,0)).bind fun Ap=>
  match Ap with
  | .inl q1001_=>
   some (bl (bo ()))
  | .inr q1001_=>
   some (bo (q1001_,bm.wrap (Bt+1)))
 else
  some (bl (bl JQ))
def Db(tL tD:Int)(tN tE:AV)(AB:Ac)(AL A8:AU)(EO:AV)(v:AV×Int):Option (Unit⊕(AV)):=E9 (fun v=>Cr tL tD tN tE AB AL A8 EO v.1 v.2) v
def M3(tL tD:Int)(tN tE:AV)(AB:Ac)(AL A8:AU):Option (AV×Bool):=
 ck (BK tN)<|
 ck (BK tE)<|
 if(MI tL tD tN tE)=true then
  ck (Cm AB)<|
  ck (AL.length<1099511627776)<|
  ck (A8.length<1099511627776)<|
  if(GQ AB AL A8)=true then
   (QC AB AL A8).bind fun A2D=>
   if A2D=true then
    (OX AB AL A8).bind fun EO=>
    (Db tL tD tN tE AB AL A8 EO (EO,0)).bind fun BP=>
    match BP with
    | .inl q1002_=>
     some ([],false)
    | .inr q1002_=>
     (Ii tL tD tN tE AB AL A8 q1002_).bind fun Vz=>
     if Vz.2=true then
      some (q1002_,true)
     else
      some ([],false)
   else
    some ([],false)
  else
   some ([],false)
 else
  some ([],false)
abbrev UU:List Nat:=[56,57,58,59,60,61,62,63,64,65,66,67,68,69,70,71,72]
def rO:SC:= .seq (.seq (.draws [(⟨[56,9,9],UU,[56]⟩,oM 56 9 22),(⟨[57,7,7],UU,[57]⟩,oM 57 7 3),(⟨[58,56,57,9,7],UU,[58]⟩,oI 58 22 56 57),(⟨[59,58,9],UU,[59]⟩,oL 59 26 58 26),(⟨[60,8,8],UU,[60]⟩,oM 60 8 3),(⟨[61,59,60,9,8],UU,[61]⟩,oI 61 26 59 60),(⟨[62,61,9],UU,[62]⟩,oL 62 3 61 3),(⟨[63,6,6],UU,[63]⟩,oM 63 6 22),(⟨[64,7,7],UU,[64]⟩,oM 64 7 3),(⟨[65,63,64,6,7],UU,[65]⟩,oI 65 22 63 64),(⟨[66,65,6],UU,[66]⟩,oL 66 26 65 26),(⟨[67,8,8],UU,[67]⟩,oM 67 8 3),(⟨[68,66,67,6,8],UU,[68]⟩,oI 68 26 66 67),(⟨[69,68,6],UU,[69]⟩,oL 69 3 68 3),(⟨[70,62,69,9,6],UU,[70]⟩,oB 70 .shr 3 (tK 62) (tK 69) 3 3),(⟨[71,70,70],UU,[71]⟩,oB 71 .and 3 (tK 70) (iK 1) 3 3),(⟨[72,71,71],UU,[72]⟩,oB 72 .eql 3 (tK 71) (iK 0) 3 4)]) (.cond (tK 72) .skip (.exit 4))) (.seq (.block 5 .skip) (.ops [oM 73 6 22,oM 74 7 3,oI 75 22 73 74,oL 76 26 75 26,oM 77 8 3,oI 78 26 76 77,oL 79 3 78 3,oB 80 .add 3 (tK 79) (iK 1) 3 3,oI 81 26 76 77,oS 3 81 80]))
def A5U:SC:= .loop rO
def rP:SC:= .seq (.ops [oB 39 .lss 3 (tK 38) (tK 37) 3 0]) (.seq (.cond (tK 39) .skip (.exit 2)) (.seq (.block 3 (.seq (.ops [oM 40 38 3,oA 8 40 3]) (.seq (.ops [oL 42 34 2 34,oL 43 38 3 38,oM 44 6 22,oC 45 42 [(tK 42),(tK 43),(tK 44)] [34,38,22] 32,oM 41 45 32,oE 46 41 0 22,oE 47 41 1 4,oA 9 46 22,oA 10 47 4]) (.seq (.seq (.ops [oM 48 10 4,oX 49 (.unOp .not 4 (tK 48)) 4]) (.cond (tK 49) (.seq (.ops [oX 4 Gt 22,oX 5 BR 4]) .ret) .skip)) (.seq (.ops [oM 50 6 22,oM 51 7 3,oI 52 22 50 51,oL 53 26 52 26,oM 54 8 3,oI 55 26 53 54,⟨none,(.store 3 (tK 55) (iK 0)),0,none⟩]) (.block 4 A5U)))))) (.ops [oB 82 .add 3 (tK 38) (iK 1) 3 3,oM 38 82 3])))
def A5V:SC:= .loop rP
def rQ:SC:= .seq (.ops [oB 31 .lss 3 (tK 30) (tK 29) 3 0]) (.seq (.cond (tK 31) .skip (.exit 0)) (.seq (.block 1 (.seq (.ops [oM 32 30 3,oA 7 32 3]) (.seq (.ops [oM 33 6 22,oM 34 7 3,oI 35 22 33 34,oL 36 26 35 26,oN 37 36 26,oX 38 (.move (iK 0)) 3]) (.block 2 A5V)))) (.ops [oB 83 .add 3 (tK 30) (iK 1) 3 3,oM 30 83 3])))
def A5W:SC:= .loop rQ
def k23:SC:= .seq (.ops [oX 2 (.box 34 (tK 0)) 0,oX 3 (.box 38 (tK 1)) 0,oX 4 Gt 22,oX 5 BR 4]) (.seq (.seq (.ops [oL 13 34 2 34,oC 14 39 [(tK 13)] [34] 4,oX 15 (.unOp .not 4 (tK 14)) 4,oM 16 15 4,⟨some 17,.load 38 (tK 3),38,(some (some 16,false))⟩,⟨some 18,.call ⟨(.value (.func 40)), #[(tK 17)], #[38]⟩,4,(some (some 16,false))⟩,⟨some 19,.unOp .not 4 (tK 18),4,(some (some 16,false))⟩,oX 20 (.pick (tK 16) Ck (tK 19)) 4,oM 21 20 4,⟨some 22,.load 38 (tK 3),38,(some (some 21,false))⟩,⟨some 23,.call ⟨(.value (.func 47)), #[(tK 22)], #[38]⟩,4,(some (some 21,false))⟩,⟨some 24,.unOp .not 4 (tK 23),4,(some (some 21,false))⟩,oX 25 (.pick (tK 21) Ck (tK 24)) 4]) (.cond (tK 25) (.seq (.ops [oX 4 Gt 22,oX 5 BR 4]) .ret) .skip)) (.seq (.ops [oL 26 38 3 38,oC 27 48 [(tK 26)] [38] 22,oA 6 27 22]) (.seq (.seq (.ops [oM 28 6 22,oN 29 28 22,oX 30 (.move (iK 0)) 3]) (.block 0 A5W)) (.seq (.seq (.ops [oL 85 34 2 34,oL 86 38 3 38,oM 87 6 22,oC 88 42 [(tK 85),(tK 86),(tK 87)] [34,38,22] 32,oM 84 88 32,oE 89 84 0 22,oE 90 84 1 4,oA 11 89 22,oA 12 90 4]) (.seq (.ops [oM 91 12 4,oX 92 (.unOp .not 4 (tK 91)) 4]) (.cond (tK 92) (.seq (.ops [oX 4 Gt 22,oX 5 BR 4]) .ret)
 .skip))) (.seq (.ops [oM 93 6 22,oA 4 93 22,oX 5 (.assign Ck) 4]) .ret)))))
theorem AEj:Tryz.f23.body.map (BQ lends)=some k23:=by kernel_rfl
theorem ASq:BV Tryz.f23 2=true:=by kernel_rfl
theorem c23{a l:List D}{r:D×List D}(h:BU Y.env k23 (fin Ai l.length [bt 4,bt 5] r) (entry a l))(ha:a.length=2):Y.call 23 a l=some r:=
 AY (Y:=Y) rfl Tryz.func23 (ha▸ASq) AEj h
def EK(tL tD:Int)(tN tE:AV)(AB:Ac)(AL A8:AU)(EO:AV)(JQ:AV)(Bt La:Int)(R6:AV×Bool)(t6_2:AV)(s:St):Prop:=s.v 2=b8 [bc .i64 tL,bc .i64 tD,bk 26 (AR Ba tN),bk 26 (AR Ba tE)]∧s.v 3=b8 [bk 79 (AR (fun x=>bk 87 (Aj .i64 .i64 x)) AB),bk 3 (AR (bc .i64) AL),bk 3 (AR (bc .i64) A8)]∧s.v 6=br 26 (AR Ew t6_2)∧s.v 7=bc .i64 Bt∧s.v 8=bc .i64 La∧s.v 9=br 26 (AR Ew R6.1)∧s.v 29=bc .i64 (EO.length:Int)∧s.v 30=bc .i64 Bt∧s.v 37=bc .i64 ((JQ.getD Bt.toNat be).length:Int)∧s.v 38=bc .i64 La
def JA(tL tD:Int)(tN tE:AV)(AB:Ac)(AL A8:AU)(EO:AV)(JQ:AV)(Bt La:Int)(R6:AV×Bool)(r:AV)(ex:Ex)(s:St):Prop:=ex= .exit 4∧s.v 2=b8 [bc .i64 tL,bc .i64 tD,bk 26 (AR Ba tN),bk 26 (AR Ba tE)]∧s.v 3=b8 [bk 79 (AR (fun x=>bk 87 (Aj .i64 .i64 x)) AB),bk 3 (AR (bc .i64) AL),bk 3 (AR (bc .i64) A8)]∧s.v 6=br 26 (AR Ew r)∧s.v 7=bc .i64 Bt∧s.v 29=bc .i64 (EO.length:Int)∧s.v 30=bc .i64 Bt∧s.v 37=bc .i64 ((JQ.getD Bt.toNat be).length:Int)∧s.v 38=bc .i64 La
theorem VF(tL tD:Int)(tN tE:AV)(AB:Ac)(AL A8:AU)(EO:AV)(JQ:AV)(Bt La:Int)(R6:AV×Bool){v:AV}{s:St}{r:AV}(h:IM tL tD tN tE AB AL A8 EO JQ Bt La R6 v=some r)(hM:EK tL tD tN tE AB AL A8 EO JQ Bt La R6 v s):BU Y.env A5U (JA tL tD tN tE AB AL A8 EO JQ Bt La R6 r) s:=by
 unfold IM at h;refine Aw (c:=rO) (fun v=>EJ tL tD tN tE AB AL A8 EO JQ Bt La R6 v) (fun v s=>EK tL tD tN tE AB AL A8 EO JQ Bt La R6 v s) (JA tL tD tN tE AB AL A8 EO JQ Bt La R6) ?_ h hM;clear h hM s v r;intro t6_2 s o hM h;unfold EJ at h;unfold EK at hM;obtain⟨m0,m1,m2,m3,m4,m5,m6,m7,m8,m9⟩:=hM;unfold rO;obtain⟨e20,e21,e22,e23,h⟩:=vR h;obtain⟨e24,h⟩:=De h;rcases iS h with⟨e25,h⟩|⟨e25,h⟩
 ·cases h;simp only [↓AO,AP,↓reduceIte,bj,bh,m0,m1,m2,m3,m4,m5,m6,m7,m8,m9,e20.1,e20.2,e21.1,e21.2,e22.2,e23.2,e24,decide_eq_true e25,EK,D6]
 ·cases h;simp only [↓AO,AP,↓reduceIte,bj,bh,m0,m1,m2,m3,m4,m5,m6,m7,m8,m9,e20.1,e20.2,e21.1,e21.2,e22.2,e23.2,e24,e25,EK,JA,GH]
def D8(tL tD:Int)(tN tE:AV)(AB:Ac)(AL A8:AU)(EO:AV)(JQ:AV)(Bt:Int)(t6_1:AV)(La:Int)(s:St):Prop:=s.v 2=b8 [bc .i64 tL,bc .i64 tD,bk 26 (AR Ba tN),bk 26 (AR Ba tE)]∧s.v 3=b8 [bk 79 (AR (fun x=>bk 87 (Aj .i64 .i64 x)) AB),bk 3 (AR (bc .i64) AL),bk 3 (AR (bc .i64) A8)]∧s.v 6=br 26 (AR Ew t6_1)∧s.v 7=bc .i64 Bt∧s.v 29=bc .i64 (EO.length:Int)∧s.v 30=bc .i64 Bt∧s.v 37=bc .i64 ((JQ.getD Bt.toNat be).length:Int)∧s.v 38=bc .i64 La
def EL(tL tD:Int)(tN tE:AV)(AB:Ac)(AL A8:AU)(EO:AV)(JQ:AV)(Bt:Int)(r:Unit⊕(AV))(ex:Ex)(s:St):Prop:=match r with
 | .inl q=>ex= .ret∧s.v 4=br 26 []∧s.v 5=bp false
 | .inr q=>ex= .exit 2∧s.v 2=b8 [bc .i64 tL,bc .i64 tD,bk 26 (AR Ba tN),bk 26 (AR Ba tE)]∧s.v 3=b8 [bk 79 (AR (fun x=>bk 87 (Aj .i64 .i64 x)) AB),bk 3 (AR (bc .i64) AL),bk 3 (AR (bc .i64) A8)]∧s.v 6=br 26 (AR Ew q)∧s.v 29=bc .i64 (EO.length:Int)∧s.v 30=bc .i64 Bt
theorem VH(tL tD:Int)(tN tE:AV)(AB:Ac)(AL A8:AU)(EO:AV)(JQ:AV)(Bt:Int){v:AV×Int}{s:St}{r:Unit⊕(AV)}(h:Da tL tD tN tE AB AL A8 EO JQ Bt v=some r)(hM:D8 tL tD tN tE AB AL A8 EO JQ Bt v.1 v.2 s):BU Y.env A5V (EL tL tD tN tE AB AL A8 EO JQ Bt r) s:=by
 unfold Da at h;refine Aw (c:=rP) (fun v=>Cq tL tD tN tE AB AL A8 EO JQ Bt v.1 v.2) (fun v s=>D8 tL tD tN tE AB AL A8 EO JQ Bt v.1 v.2 s) (EL tL tD tN tE AB AL A8 EO JQ Bt) ?_ h hM;clear h hM s v r;intro v s o hM h;obtain⟨t6_1,La⟩:=v;dsimp only at h hM;unfold Cq at h;unfold D8 at hM;obtain⟨m0,m1,m2,m3,m4,m5,m6,m7⟩:=hM;unfold rP;rcases iS h with⟨e15,h⟩|⟨e15,h⟩
 ·obtain⟨R6,hl16,h⟩:=Ag h;have c16:=Rl tL tD tN tE AB AL A8 t6_1 hl16;rcases iS h with⟨e17,h⟩|⟨e17,h⟩
  ·obtain⟨e18,e19,h⟩:=EC h;obtain⟨AX,hl26,h⟩:=Ag h;try dsimp only at h
   simp (maxDischargeDepth:=9) only [↓AO,AP,↓reduceIte,bj,bh,m0,m1,m2,m3,m6,m7,e15,c16,e17,e18.1,e18.2,e19.1,e19.2];refine Ak (VF tL tD tN tE AB AL A8 EO JQ Bt La R6 hl26 ?_) ?_
   ·simp (maxDischargeDepth:=9) only [BL,ACi,↓reduceIte,bj,m0,m1,m2,m3,m4,m5,m6,m7,e18.2,EK]
   ·intro ex26 s26 hX26;unfold JA at hX26;obtain⟨rfl,n26_0,n26_1,n26_2,n26_3,n26_4,n26_5,n26_6,n26_7⟩:=hX26;cases h;simp (maxDischargeDepth:=9) only [↓AO,AP,↓reduceIte,bj,bh,n26_0,n26_1,n26_2,n26_3,n26_4,n26_5,n26_6,n26_7,D8,D6]
  ·have e17f:R6.2=false:=Es.mpr e17;cases h;simp (maxDischargeDepth:=9) only [↓AO,AP,↓reduceIte,bj,bh,m0,m1,m2,m6,m7,e15,c16,e17f,D8,EL,OC]
 ·cases h;simp (maxDischargeDepth:=9) only [↓AO,AP,↓reduceIte,bj,bh,m0,m1,m2,m4,m5,m6,m7,e15,D8,EL,GH]
def D9(tL tD:Int)(tN tE:AV)(AB:Ac)(AL A8:AU)(EO:AV)(JQ:AV)(Bt:Int)(s:St):Prop:=s.v 2=b8 [bc .i64 tL,bc .i64 tD,bk 26 (AR Ba tN),bk 26 (AR Ba tE)]∧s.v 3=b8 [bk 79 (AR (fun x=>bk 87 (Aj .i64 .i64 x)) AB),bk 3 (AR (bc .i64) AL),bk 3 (AR (bc .i64) A8)]∧s.v 6=br 26 (AR Ew JQ)∧s.v 29=bc .i64 (EO.length:Int)∧s.v 30=bc .i64 Bt
def EM(tL tD:Int)(tN tE:AV)(AB:Ac)(AL A8:AU)(EO:AV)(r:Unit⊕(AV))(ex:Ex)(s:St):Prop:=match r with
 | .inl q=>ex= .ret∧s.v 4=br 26 []∧s.v 5=bp false
 | .inr q=>ex= .exit 0∧s.v 2=b8 [bc .i64 tL,bc .i64 tD,bk 26 (AR Ba tN),bk 26 (AR Ba tE)]∧s.v 3=b8 [bk 79 (AR (fun x=>bk 87 (Aj .i64 .i64 x)) AB),bk 3 (AR (bc .i64) AL),bk 3 (AR (bc .i64) A8)]∧s.v 6=br 26 (AR Ew q)
theorem VI(tL tD:Int)(tN tE:AV)(AB:Ac)(AL A8:AU)(EO:AV){v:AV×Int}{s:St}{r:Unit⊕(AV)}(h:Db tL tD tN tE AB AL A8 EO v=some r)(hM:D9 tL tD tN tE AB AL A8 EO v.1 v.2 s):BU Y.env A5W (EM tL tD tN tE AB AL A8 EO r) s:=by
 unfold Db at h;refine Aw (c:=rQ) (fun v=>Cr tL tD tN tE AB AL A8 EO v.1 v.2) (fun v s=>D9 tL tD tN tE AB AL A8 EO v.1 v.2 s) (EM tL tD tN tE AB AL A8 EO) ?_ h hM;clear h hM s v r;intro v s o hM h;obtain⟨JQ,Bt⟩:=v;dsimp only at h hM;unfold Cr at h;unfold D9 at hM;obtain⟨m0,m1,m2,m3,m4⟩:=hM;unfold rQ;rcases iS h with⟨e13,h⟩|⟨e13,h⟩
 ·obtain⟨e14,h⟩:=De h;obtain⟨Ap,hl16,h⟩:=Ag h;try dsimp only at h
  simp only [↓AO,AP,↓reduceIte,bj,bh,m2,m3,m4,e13,e14.1,e14.2];refine Ak (VH tL tD tN tE AB AL A8 EO JQ Bt hl16 ?_) ?_
  ·simp only [BL,↓reduceIte,bj,m0,m1,m2,m3,m4,D8]
  ·intro ex16 s16 hX16;rcases Ap with q1001_|q1001_
   ·unfold EL at hX16;dsimp only at hX16 h;obtain⟨rfl,n16_0,n16_1⟩:=hX16;cases h;simp only [↓AO,AP,n16_0,n16_1,D9,EM,OC]
   ·unfold EL at hX16;dsimp only at hX16 h;obtain⟨rfl,n16_0,n16_1,n16_2,n16_3,n16_4⟩:=hX16;cases h;simp only [↓AO,AP,↓reduceIte,bj,bh,n16_0,n16_1,n16_2,n16_3,n16_4,D9,D6]
 ·cases h;simp only [↓AO,AP,↓reduceIte,bj,bh,m0,m1,m2,m3,m4,e13,D9,EM,GH]
theorem W9(tL tD:Int)(tN tE:AV)(AB:Ac)(AL A8:AU){r:AV×Bool}(h:M3 tL tD tN tE AB AL A8=some r):Y.call 23 [bw [bc .i64 tL,bc .i64 tD,bk 26 (AR Ba tN),bk 26 (AR Ba tE)],bw [bk 79 (AR (fun x=>bk 87 (Aj .i64 .i64 x)) AB),bk 3 (AR (bc .i64) AL),bk 3 (AR (bc .i64) A8)]] []=some (D.tup [br 26 (AR Ew r.1),bp r.2],[]):=by
 refine c23 ?_ rfl;unfold k23;unfold M3 at h;obtain⟨e1,e2,h⟩:=EC h;have c3:=eY tL tD tN tE e1 e2;rcases iS h with⟨e4,h⟩|⟨e4,h⟩
 ·obtain⟨e5,e6,e7,h⟩:=Om h;have c8:=fq AB AL A8 e5 e6 e7;rcases iS h with⟨e9,h⟩|⟨e9,h⟩
  ·obtain⟨A2D,hl10,h⟩:=Ag h;have VS:=aF AB AL A8 hl10;rcases iS h with⟨e11,h⟩|⟨e11,h⟩
   ·obtain⟨EO,hl12,h⟩:=Ag h;have c12:=Yf AB AL A8 hl12;obtain⟨BP,hl14,h⟩:=Ag h;try dsimp only at h
    simp (maxDischargeDepth:=9) only [↓AO,AP,↓reduceIte,bj,bh,c3,e4,c8,e9,VS,e11,c12];refine Ak (VI tL tD tN tE AB AL A8 EO hl14 ?_) ?_
    ·simp (maxDischargeDepth:=9) only [BL,↓reduceIte,bj,D9]
    ·intro ex14 s14 hX14;rcases BP with q1002_|q1002_
     ·unfold EM at hX14;dsimp only at hX14 h;obtain⟨rfl,n14_0,n14_1⟩:=hX14;cases h;simp (maxDischargeDepth:=9) only [↓AO,AP,↓reduceIte,bj,n14_0,n14_1]<;>(repeat' apply A7)<;>first|rfl|exact⟨_,rfl⟩|exact⟨_,_,rfl⟩|simp [AR,Ay]
     ·unfold EM at hX14;dsimp only at hX14 h;obtain⟨rfl,n14_0,n14_1,n14_2⟩:=hX14;obtain⟨Vz,hl15,h⟩:=Ag h;have c15:=Rl tL tD tN tE AB AL A8 q1002_ hl15;rcases iS h with⟨e16,h⟩|⟨e16,h⟩
      ·cases h;simp (maxDischargeDepth:=9) only [↓AO,AP,↓reduceIte,bj,bh,n14_0,n14_1,n14_2,c15,e16]
      ·have e16f:Vz.2=false:=Es.mpr e16;cases h;simp (maxDischargeDepth:=9) only [↓AO,AP,↓reduceIte,bj,bh,n14_0,n14_1,n14_2,c15,e16f]<;>(repeat' apply A7)<;>first|rfl|exact⟨_,rfl⟩|exact⟨_,_,rfl⟩|simp [AR,Ay]
   ·have e11f:A2D=false:=Es.mpr e11;cases h;simp (maxDischargeDepth:=9) only [↓AO,AP,↓reduceIte,bj,bh,c3,e4,c8,e9,VS,e11f]<;>(repeat' apply A7)<;>first|rfl|exact⟨_,rfl⟩|exact⟨_,_,rfl⟩|simp [AR,Ay]
  ·have e9f:(GQ AB AL A8)=false:=Es.mpr e9;cases h;simp (maxDischargeDepth:=9) only [↓AO,AP,↓reduceIte,bj,bh,c3,e4,c8,e9f]<;>(repeat' apply A7)<;>first|rfl|exact⟨_,rfl⟩|exact⟨_,_,rfl⟩|simp [AR,Ay]
 ·have e4f:(MI tL tD tN tE)=false:=Es.mpr e4;cases h;simp (maxDischargeDepth:=9) only [↓AO,AP,↓reduceIte,bj,bh,c3,e4f]<;>(repeat' apply A7)<;>first|rfl|exact⟨_,rfl⟩|exact⟨_,_,rfl⟩|simp [AR,Ay]
def IP(tL tD:Int)(tN tE:AV)(AB:Ac)(AL A8:AU)(Ce:AV)(Oh:AV)(iO:Int):Option ((Int)⊕(Unit⊕Unit)):= if iO<(Oh.length:Int)then ck (0≤iO∧iO.toNat<Oh.length)<| ck ((Oh.getD iO.toNat be).length<1099511627776)<| if((Oh.getD iO.toNat be).contains (0:Int))=true then some (bl (bo ())) else some (bo (bm.wrap (iO+1))) else some (bl (bl ()))
def NE(tL tD:Int)(tN tE:AV)(AB:Ac)(AL A8:AU)(Ce:AV)(Oh:AV)(v:Int):Option (Unit⊕Unit):=E9 (fun v=>IP tL tD tN tE AB AL A8 Ce Oh v) v
def IQ(tL tD:Int)(tN tE:AV)(AB:Ac)(AL A8:AU)(Ce:AV)(JQ:AV)(Bc:Int)(t6_1 t7_1:AV)(K7 Ie:Int):Option ((Int)⊕(Int)):= ck (0≤Bc∧Bc.toNat<t7_1.length)<| ck (0≤K7∧K7.toNat<(t7_1.getD Bc.toNat be).length)<| (Kc ((t7_1.getD Bc.toNat be).getD K7.toNat be) Ie).bind fun AEk=> if AEk=true then some (bl Ie) else some (bo (bm.wrap (Ie+1)))
def NF(tL tD:Int)(tN tE:AV)(AB:Ac)(AL A8:AU)(Ce:AV)(JQ:AV)(Bc:Int)(t6_1 t7_1:AV)(K7 v:Int):Option (Int):=E9 (fun v=>IQ tL tD tN tE AB AL A8 Ce JQ Bc t6_1 t7_1 K7 v) v
def IR(tL tD:Int)(tN tE:AV)(AB:Ac)(AL A8:AU)(Ce:AV)(JQ:AV)(Bc:Int)(t6_1 t7_1:AV)(K7:Int):Option ((AV×AV×Int)⊕(AV×AV)):= if K7<((JQ.getD Bc.toNat be).length:Int)then (NF tL tD tN tE AB AL A8 Ce JQ Bc t6_1 t7_1 K7 0).bind fun Ap=> ck (0≤Bc∧Bc.toNat<t6_1.length)<| ck (0≤K7∧K7.toNat<(t6_1.getD Bc.toNat be).length)<| ck (0≤Bc∧Bc.toNat<t7_1.length)<| ck (0≤K7∧K7.toNat<(t7_1.getD Bc.toNat be).length)<| ck (¬(bO.wrap Ap)<0)<| if((t7_1.getD Bc.toNat be).getD K7.toNat be)=(bm.wrap (1*2 ^ (min (bO.wrap Ap).toNat (bm.bits))))then some (bo ((t6_1.set Bc.toNat ((t6_1.getD Bc.toNat be).set K7.toNat Ap)),t7_1,bm.wrap (K7+1))) else (PT tL tD tN tE AB AL A8 (t7_1.set Bc.toNat ((t7_1.getD Bc.toNat be).set K7.toNat (bm.wrap (1*2 ^ (min (bO.wrap Ap).toNat (bm.bits))))))).bind fun ALk=> some (bo ((t6_1.set Bc.toNat ((t6_1.getD Bc.toNat be).set K7.toNat Ap)),ALk,bm.wrap (K7+1))) else some (bl (t6_1,t7_1))
def NG(tL tD:Int)(tN tE:AV)(AB:Ac)(AL A8:AU)(Ce:AV)(JQ:AV)(Bc:Int)(v:AV×AV×Int):Option (AV×AV):=E9 (fun v=>IR tL tD tN tE AB AL A8 Ce JQ Bc v.1 v.2.1 v.2.2) v
def IU(tL tD:Int)(tN tE:AV)(AB:Ac)(AL A8:AU)(Ce:AV)(JQ Lg:AV)(Bc:Int):Option ((AV×AV×Int)⊕(AV)):= if Bc<(Ce.length:Int)then ck (0≤Bc∧Bc.toNat<JQ.length)<| (NG tL tD tN tE AB AL A8 Ce JQ Bc (JQ,Lg,0)).bind fun BP=> some (bo (BP.1,BP.2,bm.wrap (Bc+1))) else some (bl JQ)
def NH(tL tD:Int)(tN tE:AV)(AB:Ac)(AL A8:AU)(Ce:AV)(v:AV×AV×Int):Option (AV):=E9 (fun v=>IU tL tD tN tE AB AL A8 Ce v.1 v.2.1 v.2.2) v
def Nh(tL tD:Int)(tN tE:AV)(AB:Ac)(AL A8:AU):Option (AV×Bool):=
 (Rq AB AL A8).bind fun Ce=>
 (UL tL tD tN tE Ce).bind fun eP=>
 (PT tL tD tN tE AB AL A8 eP).bind fun Oh=>
 (NE tL tD tN tE AB AL A8 Ce Oh 0).bind fun AX=>
 match AX with
 | .inl q1000_=>
  some ([],false)
 | .inr q1000_=>
  (NH tL tD tN tE AB AL A8 Ce (Ce,Oh,0)).bind fun Od=>
  some (Od,true)
def rR:SC:= .seq (.ops [oB 25 .lss 3 (tK 24) (tK 23) 3 0]) (.seq (.cond (tK 25) .skip (.exit 0)) (.seq (.block 1 (.seq (.ops [oI 26 22 22 24,oL 27 26 26 26,oA 9 27 26]) (.seq (.ops [oM 28 9 26,oC 29 36 [(tK 28),(iK 0)] [26,3] 4]) (.cond (tK 29) (.seq (.ops [oX 4 Gt 22,oX 5 BR 4]) .ret) .skip)))) (.ops [oB 30 .add 3 (tK 24) (iK 1) 3 3,oM 24 30 3])))
def A5X:SC:= .loop rR
def rT:SC:= .seq (.seq (.ops [oM 43 7 22,oM 44 10 3,oI 45 22 43 44,oL 46 26 45 26,oM 47 12 3,oI 48 26 46 47,oL 49 3 48 3,oM 50 13 3,oC 51 61 [(tK 49),(tK 50)] [3,3] 4,oX 52 (.unOp .not 4 (tK 51)) 4]) (.cond (tK 52) .skip (.exit 6))) (.block 7 (.ops [oM 53 13 3,oB 54 .add 3 (tK 53) (iK 1) 3 3,oA 13 54 3]))
def A5Y:SC:= .loop rT
def rU:SC:= .seq (.ops [oB 41 .lss 3 (tK 40) (tK 39) 3 0]) (.seq (.cond (tK 41) .skip (.exit 4)) (.seq (.block 5 (.seq (.ops [oM 42 40 3,oA 12 42 3]) (.seq (.ops [oX 13 (.assign (iK 0)) 3]) (.seq (.block 6 A5Y) (.seq (.ops [oM 55 6 22,oM 56 10 3,oI 57 22 55 56,oL 58 26 57 26,oM 59 12 3,oM 60 13 3,oI 61 26 58 59,oS 3 61 60]) (.seq (.ops [oM 62 7 22,oM 63 10 3,oI 64 22 62 63,oL 65 26 64 26,oM 66 12 3,oI 67 26 65 66,oL 68 3 67 3,oM 69 13 3,oX 70 (.convert 3 82 (tK 69)) 82,oB 71 .shl 3 (iK 1) (tK 70) 82 3,oB 72 .neq 3 (tK 68) (tK 71) 3 4]) (.cond (tK 72) (.seq (.ops [oM 73 7 22,oM 74 10 3,oI 75 22 73 74,oL 76 26 75 26,oM 77 12 3,oM 78 13 3,oX 79 (.convert 3 82 (tK 78)) 82,oB 80 .shl 3 (iK 1) (tK 79) 82 3,oI 81 26 76 77,oS 3 81 80]) (.ops [oL 82 34 2 34,oL 83 38 3 38,oM 84 7 22,oC 85 34 [(tK 82),(tK 83),(tK 84)] [34,38,22] 22,oA 7 85 22])) .skip))))))) (.ops [oB 86 .add 3 (tK 40) (iK 1) 3 3,oM 40 86 3])))
def A5Z:SC:= .loop rU
def rV:SC:= .seq (.ops [oB 34 .lss 3 (tK 33) (tK 32) 3 0]) (.seq (.cond (tK 34) .skip (.exit 2)) (.seq (.block 3 (.seq (.ops [oM 35 33 3,oI 36 22 31 33,oL 37 26 36 26,oA 10 35 3,oA 11 37 26]) (.seq (.ops [oM 38 11 26,oN 39 38 26,oX 40 (.move (iK 0)) 3]) (.block 4 A5Z)))) (.ops [oB 87 .add 3 (tK 33) (iK 1) 3 3,oM 33 87 3])))
def A5a:SC:= .loop rV
abbrev zY:List Nat:=[16,17,18,19,20,21,7,21,21]
def k46:SC:= .seq (.ops [oX 2 (.box 34 (tK 0)) 0,oX 3 (.box 38 (tK 1)) 0,oX 4 Gt 22,oX 5 BR 4]) (.seq (.ops [oL 14 38 3 38,oC 15 50 [(tK 14)] [38] 22,oA 6 15 22]) (.seq (.draws [(⟨[16,2,2],zY,[16]⟩,oL 16 34 2 34),(⟨[17,3,3],zY,[17]⟩,oL 17 38 3 38),(⟨[18,2,2],zY,[18]⟩,oL 18 34 2 34),(⟨[19,6,6],zY,[19]⟩,oM 19 6 22),(⟨[20,18,19,2,6],zY,[20]⟩,oC 20 35 [(tK 18),(tK 19)] [34,22] 22),(⟨[21,16,17,20,2,3,20],zY,[21]⟩,oC 21 34 [(tK 16),(tK 17),(tK 20)] [34,38,22] 22),(⟨[7,21,21],zY,[7,21,21]⟩,oA 7 21 22)]) (.seq (.seq (.ops [oM 22 7 22,oN 23 22 22,oX 24 (.move (iK 0)) 3]) (.block 0 A5X)) (.seq (.seq (.ops [oM 31 6 22,oN 32 31 22,oX 33 (.move (iK 0)) 3]) (.block 2 A5a)) (.seq (.ops [oM 88 6 22,oA 4 88 22,oX 5 (.assign Ck) 4]) .ret)))))
theorem AEl:Tryz.f46.body.map (BQ lends)=some k46:=by kernel_rfl
theorem ASs:BV Tryz.f46 2=true:=by kernel_rfl
theorem c46{a l:List D}{r:D×List D}(h:BU Y.env k46 (fin Ai l.length [bt 4,bt 5] r) (entry a l))(ha:a.length=2):Y.call 46 a l=some r:=
 AY (Y:=Y) rfl Tryz.func46 (ha▸ASs) AEl h
def Ff(tL tD:Int)(tN tE:AV)(AB:Ac)(AL A8:AU)(Ce:AV)(Oh:AV)(iO:Int)(s:St):Prop:=s.v 2=b8 [bc .i64 tL,bc .i64 tD,bk 26 (AR Ba tN),bk 26 (AR Ba tE)]∧s.v 3=b8 [bk 79 (AR (fun x=>bk 87 (Aj .i64 .i64 x)) AB),bk 3 (AR (bc .i64) AL),bk 3 (AR (bc .i64) A8)]∧s.v 6=br 26 (AR Ew Ce)∧s.v 7=br 26 (AR Ew Oh)∧(∃w_,s.v 22=D.vw [7] (s.k 7) w_)∧s.v 23=bc .i64 (Oh.length:Int)∧s.v 24=bc .i64 iO
def IV(tL tD:Int)(tN tE:AV)(AB:Ac)(AL A8:AU)(Ce:AV)(Oh:AV)(r:Unit⊕Unit)(ex:Ex)(s:St):Prop:=match r with
 | .inl q=>ex= .ret∧s.v 4=br 26 []∧s.v 5=bp false
 | .inr q=>ex= .exit 0∧s.v 2=b8 [bc .i64 tL,bc .i64 tD,bk 26 (AR Ba tN),bk 26 (AR Ba tE)]∧s.v 3=b8 [bk 79 (AR (fun x=>bk 87 (Aj .i64 .i64 x)) AB),bk 3 (AR (bc .i64) AL),bk 3 (AR (bc .i64) A8)]∧s.v 6=br 26 (AR Ew Ce)∧s.v 7=br 26 (AR Ew Oh)
theorem aM(tL tD:Int)(tN tE:AV)(AB:Ac)(AL A8:AU)(Ce:AV)(Oh:AV){v:Int}{s:St}{r:Unit⊕Unit}(h:NE tL tD tN tE AB AL A8 Ce Oh v=some r)(hM:Ff tL tD tN tE AB AL A8 Ce Oh v s):BU Y.env A5X (IV tL tD tN tE AB AL A8 Ce Oh r) s:=by
 unfold NE at h;refine Aw (c:=rR) (fun v=>IP tL tD tN tE AB AL A8 Ce Oh v) (fun v s=>Ff tL tD tN tE AB AL A8 Ce Oh v s) (IV tL tD tN tE AB AL A8 Ce Oh) ?_ h hM;clear h hM s v r;intro iO s o hM h;unfold IP at h;unfold Ff at hM;obtain⟨m0,m1,m2,m3,⟨w4_,m4⟩,m5,m6⟩:=hM;unfold rR;rcases iS h with⟨e4,h⟩|⟨e4,h⟩
 ·obtain⟨e5,e6,h⟩:=EC h;have c7:=fD (Oh.getD iO.toNat be) (0:Int) e6;rcases iS h with⟨e8,h⟩|⟨e8,h⟩
  ·cases h;simp only [↓AO,AP,↓reduceIte,bj,bh,m3,m4,m5,m6,e4,e5.1,e5.2,c7,e8,Ff,IV,OC]
  ·have e8f:((Oh.getD iO.toNat be).contains (0:Int))=false:=Es.mpr e8;cases h;simp only [↓AO,AP,↓reduceIte,bj,bh,m0,m1,m2,m3,m4,m5,m6,e4,e5.1,e5.2,c7,e8f,Ff,D6]<;>(repeat' apply A7)<;>first|rfl|exact⟨_,rfl⟩|exact⟨_,_,rfl⟩|simp [AR,Ay]
 ·cases h;simp only [↓AO,AP,↓reduceIte,bj,bh,m0,m1,m2,m3,m5,m6,e4,Ff,IV,GH]
def IW(tL tD:Int)(tN tE:AV)(AB:Ac)(AL A8:AU)(Ce:AV)(JQ:AV)(Bc:Int)(t6_1 t7_1:AV)(K7 Ie:Int)(s:St):Prop:=s.v 2=b8 [bc .i64 tL,bc .i64 tD,bk 26 (AR Ba tN),bk 26 (AR Ba tE)]∧s.v 3=b8 [bk 79 (AR (fun x=>bk 87 (Aj .i64 .i64 x)) AB),bk 3 (AR (bc .i64) AL),bk 3 (AR (bc .i64) A8)]∧s.v 6=br 26 (AR Ew t6_1)∧s.v 7=br 26 (AR Ew t7_1)∧s.v 10=bc .i64 Bc∧s.v 12=bc .i64 K7∧s.v 13=bc .i64 Ie∧(∃w_,s.v 31=D.vw [6] (s.k 6) w_)∧s.v 32=bc .i64 (Ce.length:Int)∧s.v 33=bc .i64 Bc∧s.v 39=bc .i64 ((JQ.getD Bc.toNat be).length:Int)∧s.v 40=bc .i64 K7
def NI(tL tD:Int)(tN tE:AV)(AB:Ac)(AL A8:AU)(Ce:AV)(JQ:AV)(Bc:Int)(t6_1 t7_1:AV)(K7 r:Int)(ex:Ex)(s:St):Prop:=ex= .exit 6∧s.v 2=b8 [bc .i64 tL,bc .i64 tD,bk 26 (AR Ba tN),bk 26 (AR Ba tE)]∧s.v 3=b8 [bk 79 (AR (fun x=>bk 87 (Aj .i64 .i64 x)) AB),bk 3 (AR (bc .i64) AL),bk 3 (AR (bc .i64) A8)]∧s.v 6=br 26 (AR Ew t6_1)∧s.v 7=br 26 (AR Ew t7_1)∧s.v 10=bc .i64 Bc∧s.v 12=bc .i64 K7∧s.v 13=bc .i64 r∧(∃w_,s.v 31=D.vw [6] (s.k 6) w_)∧s.v 32=bc .i64 (Ce.length:Int)∧s.v 33=bc .i64 Bc∧s.v 39=bc .i64 ((JQ.getD Bc.toNat be).length:Int)∧s.v 40=bc .i64 K7
theorem aN(tL tD:Int)(tN tE:AV)(AB:Ac)(AL A8:AU)(Ce:AV)(JQ:AV)(Bc:Int)(t6_1 t7_1:AV)(K7:Int){v:Int}{s:St}{r:Int}(h:NF tL tD tN tE AB AL A8 Ce JQ Bc t6_1 t7_1 K7 v=some r)(hM:IW tL tD tN tE AB AL A8 Ce JQ Bc t6_1 t7_1 K7 v s):BU Y.env A5Y (NI tL tD tN tE AB AL A8 Ce JQ Bc t6_1 t7_1 K7 r) s:=by
 unfold NF at h;refine Aw (c:=rT) (fun v=>IQ tL tD tN tE AB AL A8 Ce JQ Bc t6_1 t7_1 K7 v) (fun v s=>IW tL tD tN tE AB AL A8 Ce JQ Bc t6_1 t7_1 K7 v s) (NI tL tD tN tE AB AL A8 Ce JQ Bc t6_1 t7_1 K7) ?_ h hM;clear h hM s v r;intro Ie s o hM h;unfold IQ at h;unfold IW at hM;obtain⟨m0,m1,m2,m3,m4,m5,m6,⟨w7_,m7⟩,m8,m9,m10,m11⟩:=hM;unfold rT;obtain⟨e9,e10,h⟩:=EC h;obtain⟨AEk,hl11,h⟩:=Ag h;have vz:=MM ((t7_1.getD Bc.toNat be).getD K7.toNat be) Ie hl11;rcases iS h with⟨e12,h⟩|⟨e12,h⟩
 ·cases h;simp only [↓AO,AP,↓reduceIte,bj,m0,m1,m2,m3,m4,m5,m6,m7,m8,m9,m10,m11,e9.1,e9.2,e10.1,e10.2,vz,e12,IW,NI,GH]<;>(repeat' apply A7)<;>first|rfl|exact⟨_,rfl⟩|exact⟨_,_,rfl⟩|simp [AR,Ay]
 ·have e12f:AEk=false:=Es.mpr e12;cases h;simp only [↓AO,AP,↓reduceIte,bj,bh,m0,m1,m2,m3,m4,m5,m6,m7,m8,m9,m10,m11,e9.1,e9.2,e10.1,e10.2,vz,e12f,IW,D6]<;>(repeat' apply A7)<;>first|rfl|exact⟨_,rfl⟩|exact⟨_,_,rfl⟩|simp [AR,Ay]
def Fg(tL tD:Int)(tN tE:AV)(AB:Ac)(AL A8:AU)(Ce:AV)(JQ:AV)(Bc:Int)(t6_1 t7_1:AV)(K7:Int)(s:St):Prop:=s.v 2=b8 [bc .i64 tL,bc .i64 tD,bk 26 (AR Ba tN),bk 26 (AR Ba tE)]∧s.v 3=b8 [bk 79 (AR (fun x=>bk 87 (Aj .i64 .i64 x)) AB),bk 3 (AR (bc .i64) AL),bk 3 (AR (bc .i64) A8)]∧s.v 6=br 26 (AR Ew t6_1)∧s.v 7=br 26 (AR Ew t7_1)∧s.v 10=bc .i64 Bc∧(∃w_,s.v 31=D.vw [6] (s.k 6) w_)∧s.v 32=bc .i64 (Ce.length:Int)∧s.v 33=bc .i64 Bc∧s.v 39=bc .i64 ((JQ.getD Bc.toNat be).length:Int)∧s.v 40=bc .i64 K7
def NJ(tL tD:Int)(tN tE:AV)(AB:Ac)(AL A8:AU)(Ce:AV)(JQ:AV)(Bc:Int)(r:AV×AV)(ex:Ex)(s:St):Prop:=ex= .exit 4∧s.v 2=b8 [bc .i64 tL,bc .i64 tD,bk 26 (AR Ba tN),bk 26 (AR Ba tE)]∧s.v 3=b8 [bk 79 (AR (fun x=>bk 87 (Aj .i64 .i64 x)) AB),bk 3 (AR (bc .i64) AL),bk 3 (AR (bc .i64) A8)]∧s.v 6=br 26 (AR Ew r.1)∧s.v 7=br 26 (AR Ew r.2)∧(∃w_,s.v 31=D.vw [6] (s.k 6) w_)∧s.v 32=bc .i64 (Ce.length:Int)∧s.v 33=bc .i64 Bc
theorem aO(tL tD:Int)(tN tE:AV)(AB:Ac)(AL A8:AU)(Ce:AV)(JQ:AV)(Bc:Int){v:AV×AV×Int}{s:St}{r:AV×AV}(h:NG tL tD tN tE AB AL A8 Ce JQ Bc v=some r)(hM:Fg tL tD tN tE AB AL A8 Ce JQ Bc v.1 v.2.1 v.2.2 s):BU Y.env A5Z (NJ tL tD tN tE AB AL A8 Ce JQ Bc r) s:=by
 unfold NG at h;refine Aw (c:=rU) (fun v=>IR tL tD tN tE AB AL A8 Ce JQ Bc v.1 v.2.1 v.2.2) (fun v s=>Fg tL tD tN tE AB AL A8 Ce JQ Bc v.1 v.2.1 v.2.2 s) (NJ tL tD tN tE AB AL A8 Ce JQ Bc) ?_ h hM;clear h hM s v r;intro v s o hM h;obtain⟨t6_1,t7_1,K7⟩:=v;dsimp only at h hM;unfold IR at h;unfold Fg at hM;obtain⟨m0,m1,m2,m3,m4,⟨w5_,m5⟩,m6,m7,m8,m9⟩:=hM;unfold rU;rcases iS h with⟨e8,h⟩|⟨e8,h⟩
 ·obtain⟨Ap,hl13,h⟩:=Ag h;try dsimp only at h
  simp (maxDischargeDepth:=9) only [↓AO,AP,↓reduceIte,bj,bh,m8,m9,e8];refine Ak (aN tL tD tN tE AB AL A8 Ce JQ Bc t6_1 t7_1 K7 hl13 ?_) ?_
  ·simp (maxDischargeDepth:=9) only [BL,↓reduceIte,bj,m0,m1,m2,m3,m4,m5,m6,m7,m8,m9,IW]<;>(repeat' apply A7)<;>first|rfl|exact⟨_,rfl⟩|exact⟨_,_,rfl⟩|simp [AR,Ay]
  ·intro ex13 s13 hX13;unfold NI at hX13;obtain⟨rfl,n13_0,n13_1,n13_2,n13_3,n13_4,n13_5,n13_6,⟨w7_,n13_7⟩,n13_8,n13_9,n13_10,n13_11⟩:=hX13;obtain⟨e14,e15,e16,e17,h⟩:=vR h;obtain⟨e18,h⟩:=De h;rcases iS h with⟨e19,h⟩|⟨e19,h⟩
   ·cases h;simp (maxDischargeDepth:=9) only [↓AO,AP,↓reduceIte,bj,bh,n13_0,n13_1,n13_2,n13_3,n13_4,n13_5,n13_6,n13_7,n13_8,n13_9,n13_10,n13_11,e14.1,e14.2,e15.1,e15.2,e16.2,e17.2,e18,decide_eq_true e19,Fg,D6]<;>(repeat' apply A7)<;>first|rfl|exact⟨_,rfl⟩|exact⟨_,_,rfl⟩|simp [AR,Ay]
   ·obtain⟨ALk,hl20,h⟩:=Ag h;try dsimp only at h
    have c20:=UM tL tD tN tE AB AL A8 (t7_1.set Bc.toNat ((t7_1.getD Bc.toNat be).set K7.toNat (bm.wrap (1*2 ^ (min (bO.wrap Ap).toNat (bm.bits)))))) hl20;cases h;simp (maxDischargeDepth:=9) only [↓AO,AP,↓reduceIte,bj,bh,n13_0,n13_1,n13_2,n13_3,n13_4,n13_5,n13_6,n13_7,n13_8,n13_9,n13_10,n13_11,e14.1,e14.2,e15.1,e15.2,e16.2,e17.2,e18,e19,c20,Fg,D6]<;>(repeat' apply A7)<;>first|rfl|exact⟨_,rfl⟩|exact⟨_,_,rfl⟩|simp [AR,Ay]
 ·cases h;simp (maxDischargeDepth:=9) only [↓AO,AP,↓reduceIte,bj,bh,m0,m1,m2,m3,m5,m6,m7,m8,m9,e8,Fg,NJ,GH]<;>(repeat' apply A7)<;>first|rfl|exact⟨_,rfl⟩|exact⟨_,_,rfl⟩|simp [AR,Ay]
def IX(tL tD:Int)(tN tE:AV)(AB:Ac)(AL A8:AU)(Ce:AV)(JQ Lg:AV)(Bc:Int)(s:St):Prop:=s.v 2=b8 [bc .i64 tL,bc .i64 tD,bk 26 (AR Ba tN),bk 26 (AR Ba tE)]∧s.v 3=b8 [bk 79 (AR (fun x=>bk 87 (Aj .i64 .i64 x)) AB),bk 3 (AR (bc .i64) AL),bk 3 (AR (bc .i64) A8)]∧s.v 6=br 26 (AR Ew JQ)∧s.v 7=br 26 (AR Ew Lg)∧(∃w_,s.v 31=D.vw [6] (s.k 6) w_)∧s.v 32=bc .i64 (Ce.length:Int)∧s.v 33=bc .i64 Bc
def NK(tL tD:Int)(tN tE:AV)(AB:Ac)(AL A8:AU)(Ce:AV)(r:AV)(ex:Ex)(s:St):Prop:=ex= .exit 2∧s.v 6=br 26 (AR Ew r)
theorem aP(tL tD:Int)(tN tE:AV)(AB:Ac)(AL A8:AU)(Ce:AV){v:AV×AV×Int}{s:St}{r:AV}(h:NH tL tD tN tE AB AL A8 Ce v=some r)(hM:IX tL tD tN tE AB AL A8 Ce v.1 v.2.1 v.2.2 s):BU Y.env A5a (NK tL tD tN tE AB AL A8 Ce r) s:=by
 unfold NH at h;refine Aw (c:=rV) (fun v=>IU tL tD tN tE AB AL A8 Ce v.1 v.2.1 v.2.2) (fun v s=>IX tL tD tN tE AB AL A8 Ce v.1 v.2.1 v.2.2 s) (NK tL tD tN tE AB AL A8 Ce) ?_ h hM;clear h hM s v r;intro v s o hM h;obtain⟨JQ,Lg,Bc⟩:=v;dsimp only at h hM;unfold IU at h;unfold IX at hM;obtain⟨m0,m1,m2,m3,⟨w4_,m4⟩,m5,m6⟩:=hM;unfold rV;rcases iS h with⟨e6,h⟩|⟨e6,h⟩
 ·obtain⟨e7,h⟩:=De h;obtain⟨BP,hl9,h⟩:=Ag h;try dsimp only at h
  simp only [↓AO,AP,↓reduceIte,bj,bh,m2,m4,m5,m6,e6,e7.1,e7.2];refine Ak (aO tL tD tN tE AB AL A8 Ce JQ Bc hl9 ?_) ?_
  ·simp only [BL,↓reduceIte,bj,m0,m1,m2,m3,m4,m5,m6,Fg]<;>(repeat' apply A7)<;>first|rfl|exact⟨_,rfl⟩|exact⟨_,_,rfl⟩|simp [AR,Ay]
  ·intro ex9 s9 hX9;unfold NJ at hX9;obtain⟨rfl,n9_0,n9_1,n9_2,n9_3,⟨w4_,n9_4⟩,n9_5,n9_6⟩:=hX9;cases h;simp only [↓AO,AP,↓reduceIte,bj,bh,n9_0,n9_1,n9_2,n9_3,n9_4,n9_5,n9_6,IX,D6]<;>(repeat' apply A7)<;>first|rfl|exact⟨_,rfl⟩|exact⟨_,_,rfl⟩|simp [AR,Ay]
 ·cases h;simp only [↓AO,AP,↓reduceIte,bj,bh,m2,m5,m6,e6,IX,NK,GH]
theorem iP(tL tD:Int)(tN tE:AV)(AB:Ac)(AL A8:AU){r:AV×Bool}(h:Nh tL tD tN tE AB AL A8=some r):Y.call 46 [bw [bc .i64 tL,bc .i64 tD,bk 26 (AR Ba tN),bk 26 (AR Ba tE)],bw [bk 79 (AR (fun x=>bk 87 (Aj .i64 .i64 x)) AB),bk 3 (AR (bc .i64) AL),bk 3 (AR (bc .i64) A8)]] []=some (D.tup [br 26 (AR Ew r.1),bp r.2],[]):=by
 refine c46 ?_ rfl;unfold k46;unfold Nh at h;obtain⟨Ce,hl1,h⟩:=Ag h;have c1:=iM AB AL A8 hl1;obtain⟨eP,hl2,h⟩:=Ag h;have c2:=kP tL tD tN tE Ce hl2;obtain⟨Oh,hl3,h⟩:=Ag h;have c3:=UM tL tD tN tE AB AL A8 eP hl3;obtain⟨AX,hl5,h⟩:=Ag h;try dsimp only at h
 simp (maxDischargeDepth:=9) only [↓AO,AP,↓reduceIte,bj,bh,c1,c2,c3];refine Ak (aM tL tD tN tE AB AL A8 Ce Oh hl5 ?_) ?_
 ·simp (maxDischargeDepth:=9) only [BL,↓reduceIte,bj,Ff]<;>(repeat' apply A7)<;>first|rfl|exact⟨_,rfl⟩|exact⟨_,_,rfl⟩|simp [AR,Ay]
 ·intro ex5 s5 hX5;rcases AX with q1000_|q1000_
  ·unfold IV at hX5;dsimp only at hX5 h;obtain⟨rfl,n5_0,n5_1⟩:=hX5;cases h;simp (maxDischargeDepth:=9) only [↓AO,AP,↓reduceIte,bj,n5_0,n5_1]<;>(repeat' apply A7)<;>first|rfl|exact⟨_,rfl⟩|exact⟨_,_,rfl⟩|simp [AR,Ay]
  ·unfold IV at hX5;dsimp only at hX5 h;obtain⟨rfl,n5_0,n5_1,n5_2,n5_3⟩:=hX5;obtain⟨Od,hl7,h⟩:=Ag h;try dsimp only at h
   simp (maxDischargeDepth:=9) only [↓AO,AP,↓reduceIte,bj,n5_2];refine Ak (aP tL tD tN tE AB AL A8 Ce hl7 ?_) ?_
   ·simp (maxDischargeDepth:=9) only [BL,↓reduceIte,bj,n5_0,n5_1,n5_2,n5_3,IX]<;>(repeat' apply A7)<;>first|rfl|exact⟨_,rfl⟩|exact⟨_,_,rfl⟩|simp [AR,Ay]
   ·intro ex7 s7 hX7;unfold NK at hX7;obtain⟨rfl,n7_0⟩:=hX7;cases h;simp (maxDischargeDepth:=9) only [↓AO,AP,↓reduceIte,bj,bh,n7_0]
def M4(pL pD:Int)(pN pE:AV)(A9:Ac)(Aa AC:AU):Option (AV×Bool):= (Su pL pD pN pE A9 Aa AC).bind fun Vo=> if Vo=true then (Nh pL pD pN pE A9 Aa AC).bind fun Nb=> some (Nb.1,Nb.2) else some ([],false)
def k22:SC:= .seq (.ops [oX 2 (.box 34 (tK 0)) 0,oX 3 (.box 38 (tK 1)) 0,oX 4 Gt 22,oX 5 BR 4]) (.seq (.seq (.ops [oL 6 34 2 34,oL 7 38 3 38,oC 8 45 [(tK 6),(tK 7)] [34,38] 4,oX 9 (.unOp .not 4 (tK 8)) 4]) (.cond (tK 9) (.seq (.ops [oX 4 Gt 22,oX 5 BR 4]) .ret) .skip)) (.seq (.ops [oL 10 34 2 34,oL 11 38 3 38,oC 12 46 [(tK 10),(tK 11)] [34,38] 32,oE 13 12 0 22,oE 14 12 1 4,oA 4 13 22,oA 5 14 4]) .ret))
theorem AEm:Tryz.f22.body.map (BQ lends)=some k22:=by kernel_rfl
theorem ASv:BV Tryz.f22 2=true:=by kernel_rfl
theorem wT{a l:List D}{r:D×List D}(h:BU Y.env k22 (fin Ai l.length [bt 4,bt 5] r) (entry a l))(ha:a.length=2):Y.call 22 a l=some r:=
 AY (Y:=Y) rfl Tryz.func22 (ha▸ASv) AEm h
theorem WA(pL pD:Int)(pN pE:AV)(A9:Ac)(Aa AC:AU){r:AV×Bool}(h:M4 pL pD pN pE A9 Aa AC=some r):Y.call 22 [bw [bc .i64 pL,bc .i64 pD,bk 26 (AR Ba pN),bk 26 (AR Ba pE)],bw [bk 79 (AR (fun x=>bk 87 (Aj .i64 .i64 x)) A9),bk 3 (AR (bc .i64) Aa),bk 3 (AR (bc .i64) AC)]] []=some (D.tup [br 26 (AR Ew r.1),bp r.2],[]):=by
 refine wT ?_ rfl;unfold k22;unfold M4 at h;obtain⟨Vo,hl1,h⟩:=Ag h;have c1:=aJ pL pD pN pE A9 Aa AC hl1;rcases iS h with⟨e2,h⟩|⟨e2,h⟩
 ·obtain⟨Nb,hl3,h⟩:=Ag h;try dsimp only at h
  have c3:=iP pL pD pN pE A9 Aa AC hl3;cases h;simp only [↓AO,AP,↓reduceIte,bj,bh,c1,e2,c3]
 ·have e2f:Vo=false:=Es.mpr e2;cases h;simp only [↓AO,AP,↓reduceIte,bj,bh,c1,e2f]<;>(repeat' apply A7)<;>first|rfl|exact⟨_,rfl⟩|exact⟨_,_,rfl⟩|simp [AR,Ay]
def wU(k:Int)(n:Nat):Fv:=(ao n).map fun(i:Nat)=>(k+2*(i:Int),k+2*(i:Int)+1)
theorem rW(k:Int)(n:Nat):(wU k n).length=n:=by simp [wU]
theorem A5b(k:Int)(n:Nat):wU k (n+1)=wU k n++[(k+2*(n:Int),k+2*(n:Int)+1)]:=by simp [wU,ZQ]
theorem AEn{α:Type}(A xs:List α)(i:Nat)(v:α)(hA:A.length=i)(h:i<xs.length):(A++xs.drop i).set i v=(A++[v])++xs.drop (i+1):=by
 rw [mX _ _ (by omega),hA,Xt,ZN h,tY,NV];rfl
theorem A5c(t:Fv)(i:Nat)(p:Int×Int)(h:i<t.length):BH (t.set i p) i=p.1:=by
 unfold BH;simp [Lh,h]
def G8(k k1 i:Int)(BM:Fv):Option ((Int×Int×Fv)⊕(Int×Fv)):= if i<(BM.length:Int)then ck (0≤i∧i.toNat<BM.length)<| ck (0≤i∧i.toNat<(BM.set i.toNat (k1,(Bj BM i.toNat))).length)<| some (bo (bm.wrap ((bm.wrap (k1+1))+1),bm.wrap (i+1),((BM.set i.toNat (k1,(Bj BM i.toNat))).set i.toNat ((BH (BM.set i.toNat (k1,(Bj BM i.toNat))) i.toNat),bm.wrap (k1+1))))) else some (bl (k1,BM))
def O3(k:Int)(v:Int×Int×Fv):Option (Int×Fv):=E9 (fun v=>G8 k v.1 v.2.1 v.2.2) v
def Sv(a:Fv)(k:Int):Option (Int×Fv):= (O3 k (k,0,a)).bind fun AX=> some (AX.1,AX.2)
def rX:SC:= .seq (.seq (.ops [oM 6 5 3,oM 7 0 79,oN 8 7 79,oB 9 .lss 3 (tK 6) (tK 8) 3 4]) (.cond (tK 9) .skip (.exit 0))) (.seq (.block 1 (.seq (.ops [oM 12 0 79,oM 13 5 3,oM 14 1 3,oI 15 79 12 13,oF 16 87 15 0,oS 3 16 14]) (.seq (.ops [oM 17 1 3,oB 18 .add 3 (tK 17) (iK 1) 3 3,oA 1 18 3]) (.seq (.ops [oM 19 0 79,oM 20 5 3,oM 21 1 3,oI 22 79 19 20,oF 23 87 22 1,oS 3 23 21]) (.ops [oM 24 1 3,oB 25 .add 3 (tK 24) (iK 1) 3 3,oA 1 25 3]))))) (.ops [oM 10 5 3,oB 11 .add 3 (tK 10) (iK 1) 3 3,oA 5 11 3]))
def A5d:SC:= .loop rX
def k76:SC:= .seq (.ops [oX 4 (.assign (iK 0)) 3]) (.seq (.seq (.ops [oX 5 (.assign (iK 0)) 3]) (.block 0 A5d)) (.seq (.ops [oM 26 1 3,oA 4 26 3]) .ret))
theorem AEo:Tryz.f76.body.map (BQ lends)=some k76:=by kernel_rfl
theorem ASx:BV Tryz.f76 2=true:=by kernel_rfl
theorem c76{a l:List D}{r:D×List D}(h:BU Y.env k76 (fin Ai l.length [bt 4] r) (entry a l))(ha:a.length=2):Y.call 76 a l=some r:=
 AY (Y:=Y) rfl Tryz.func76 (ha▸ASx) AEo h
def G9(k k1 i:Int)(BM:Fv)(s:St):Prop:=(∃w_,s.v 0=D.vw [100000] (s.k 100000) w_)∧s.v 1=bc .i64 k1∧s.v 5=bc .i64 i∧s.v 100000=br 87 (Aj .i64 .i64 BM)
def MF(k:Int)(r:Int×Fv)(ex:Ex)(s:St):Prop:=ex= .exit 0∧s.v 1=bc .i64 r.1∧s.v 100000=br 87 (Aj .i64 .i64 r.2)
theorem Yg(k:Int){v:Int×Int×Fv}{s:St}{r:Int×Fv}(h:O3 k v=some r)(hM:G9 k v.1 v.2.1 v.2.2 s):BU Y.env A5d (MF k r) s:=by
 unfold O3 at h;refine Aw (c:=rX) (fun v=>G8 k v.1 v.2.1 v.2.2) (fun v s=>G9 k v.1 v.2.1 v.2.2 s) (MF k) ?_ h hM;clear h hM s v r;intro v s o hM h;obtain⟨k1,i,BM⟩:=v;dsimp only at h hM;unfold G8 at h;unfold G9 at hM;obtain⟨⟨w0_,m0⟩,m1,m2,m3⟩:=hM;unfold rX;rcases iS h with⟨e1,h⟩|⟨e1,h⟩
 ·obtain⟨e2,e3,h⟩:=EC h;cases h;simp only [↓AO,AP,↓reduceIte,bj,bh,m0,m1,m2,m3,e1,e2.1,e2.2,G9,D6]<;>(repeat' apply A7)<;>first|rfl|exact⟨_,rfl⟩|exact⟨_,_,rfl⟩|simp [AR,Ay]
 ·cases h;simp only [↓AO,AP,↓reduceIte,bj,bh,m0,m1,m2,m3,e1,G9,MF,GH]
theorem aQ(a:Fv)(k:Int){r:Int×Fv}(h:Sv a k=some r):Y.call 76 [D.vw [100000] 0 0,bc .i64 k] [br 87 (Aj .i64 .i64 a)]=some (bc .i64 r.1,[br 87 (Aj .i64 .i64 r.2)]):=by
 refine c76 ?_ rfl;unfold k76;unfold Sv at h;obtain⟨AX,hl2,h⟩:=Ag h;try dsimp only at h
 simp only [↓AO,AP,↓reduceIte,bj,bh,bx];refine Ak (Yg k hl2 ?_) ?_
 ·simp only [BL,Cv,↓reduceIte,bj,bh,Nat.reduceSub,G9]<;>(repeat' apply A7)<;>first|rfl|exact⟨_,rfl⟩|exact⟨_,_,rfl⟩|simp [AR,Ay]
 ·intro ex2 s2 hX2;unfold MF at hX2;obtain⟨rfl,n2_0,n2_1⟩:=hX2;cases h;simp only [↓AO,AP,↓reduceIte,bj,bh,n2_0,n2_1]
theorem kr(a:Fv)(k:Int)(ha:a.length<549755813888)(hk:0≤k∧k+2*(a.length:Int)<1099511627776):Sv a k=some (k+2*(a.length:Int),wU k a.length):=by
 have key:=CO (fun v=>G8 k v.1 v.2.1 v.2.2) (fun i=>(k+2*(i:Int),(i:Int),wU k i++a.drop i)) a.length (k+2*(a.length:Int),wU k a.length) ?_ ?_
 ·unfold Sv O3;have e0:wU k 0=[]:=rfl;simp only [Et,Int.mul_zero,Int.add_zero,WK,e0,PW]at key;rw [key];rfl
 ·intro i hi;simp only [G8];have el:(wU k i++a.drop i).length=a.length:=by simp [rW];omega
  rw [el,if_pos (BX hi),BC (Dl hi),Cg,BC (by rw [Ij,el];omega),A5c _ _ _ (by rw [el];exact hi),List.set_set,Gf i (by omega),Ib (k+2*(i:Int)+1) (by omega),Ib (k+2*(i:Int)+1+1) (by omega),AEn _ _ _ _ (rW k i) hi,←A5b]
  rw [show k+2*(i:Int)+1+1=k+2*((i+1:Nat):Int) by omega]
 ·simp only [G8];have el:(wU k a.length++a.drop a.length).length=a.length:=by simp [rW]
  rw [el,if_neg (Am _)];simp
theorem ku(a:Fv)(k:Int)(h0:a.length<549755813888)(h1:0≤k∧k+2*(a.length:Int)<1099511627776):Y.call 76 [D.vw [100000] 0 0,bc .i64 k] [br 87 (Aj .i64 .i64 a)]=some (bc .i64 (k+2*(a.length:Int)),[br 87 (Aj .i64 .i64 (wU k a.length))]):=aQ a k (kr a k h0 h1)
def IY(k k1 i:Int)(BM:Ac):Option ((Int×Int×Ac)⊕(Int×Ac)):= if i<(BM.length:Int)then ck (0≤i∧i.toNat<BM.length)<| ck ((BM.getD i.toNat be).length<549755813888)<| ck (0≤k1∧k1+2*((BM.getD i.toNat be).length:Int)<1099511627776)<| some (bo ((k1+2*((BM.getD i.toNat be).length:Int)),bm.wrap (i+1),(BM.set i.toNat (wU k1 (BM.getD i.toNat be).length)))) else some (bl (k1,BM))
def IZ(k:Int)(v:Int×Int×Ac):Option (Int×Ac):=E9 (fun v=>IY k v.1 v.2.1 v.2.2) v
def Qv(a:Ac)(k:Int):Option (Int×Ac):= (IZ k (k,0,a)).bind fun AX=> some (AX.1,AX.2)
def rY:SC:= .seq (.seq (.ops [oM 6 5 3,oM 7 0 36,oN 8 7 36,oB 9 .lss 3 (tK 6) (tK 8) 3 4]) (.cond (tK 9) .skip (.exit 0))) (.seq (.block 1 (.ops [oM 12 0 36,oM 13 5 3,oI 14 36 12 13,oL 15 79 14 79,oM 16 1 3,oC 17 76 [(tK 15),(tK 16)] [79,3] 3,oA 1 17 3])) (.ops [oM 10 5 3,oB 11 .add 3 (tK 10) (iK 1) 3 3,oA 5 11 3]))
def A5e:SC:= .loop rY
def k44:SC:= .seq (.ops [oX 4 (.assign (iK 0)) 3]) (.seq (.seq (.ops [oX 5 (.assign (iK 0)) 3]) (.block 0 A5e)) (.seq (.ops [oM 18 1 3,oA 4 18 3]) .ret))
theorem AEp:Tryz.f44.body.map (BQ lends)=some k44:=by kernel_rfl
theorem ASz:BV Tryz.f44 2=true:=by kernel_rfl
theorem c44{a l:List D}{r:D×List D}(h:BU Y.env k44 (fin Ai l.length [bt 4] r) (entry a l))(ha:a.length=2):Y.call 44 a l=some r:=
 AY (Y:=Y) rfl Tryz.func44 (ha▸ASz) AEp h
def FN(k k1 i:Int)(BM:Ac)(s:St):Prop:=(∃w_,s.v 0=D.vw [100000] (s.k 100000) w_)∧s.v 1=bc .i64 k1∧s.v 5=bc .i64 i∧s.v 100000=br 79 (AR (fun x=>br 87 (Aj .i64 .i64 x)) BM)
def Lb(k:Int)(r:Int×Ac)(ex:Ex)(s:St):Prop:=ex= .exit 0∧s.v 1=bc .i64 r.1∧s.v 100000=br 79 (AR (fun x=>br 87 (Aj .i64 .i64 x)) r.2)
theorem Xf(k:Int){v:Int×Int×Ac}{s:St}{r:Int×Ac}(h:IZ k v=some r)(hM:FN k v.1 v.2.1 v.2.2 s):BU Y.env A5e (Lb k r) s:=by
 unfold IZ at h;refine Aw (c:=rY) (fun v=>IY k v.1 v.2.1 v.2.2) (fun v s=>FN k v.1 v.2.1 v.2.2 s) (Lb k) ?_ h hM;clear h hM s v r;intro v s o hM h;obtain⟨k1,i,BM⟩:=v;dsimp only at h hM;unfold IY at h;unfold FN at hM;obtain⟨⟨w0_,m0⟩,m1,m2,m3⟩:=hM;unfold rY;rcases iS h with⟨e1,h⟩|⟨e1,h⟩
 ·obtain⟨e2,e3,e4,h⟩:=Om h;have c5:=ku (BM.getD i.toNat be) k1 e3 e4;cases h;simp only [↓AO,AP,↓reduceIte,bj,bh,m0,m1,m2,m3,e1,e2.1,e2.2,c5,FN,D6]<;>(repeat' apply A7)<;>first|rfl|exact⟨_,rfl⟩|exact⟨_,_,rfl⟩|simp [AR,Ay]
 ·cases h;simp only [↓AO,AP,↓reduceIte,bj,bh,m0,m1,m2,m3,e1,FN,Lb,GH]
theorem Yh(a:Ac)(k:Int){r:Int×Ac}(h:Qv a k=some r):Y.call 44 [D.vw [100000] 0 0,bc .i64 k] [br 79 (AR (fun x=>br 87 (Aj .i64 .i64 x)) a)]=some (bc .i64 r.1,[br 79 (AR (fun x=>br 87 (Aj .i64 .i64 x)) r.2)]):=by
 refine c44 ?_ rfl;unfold k44;unfold Qv at h;obtain⟨AX,hl2,h⟩:=Ag h;try dsimp only at h
 simp only [↓AO,AP,↓reduceIte,bj,bh,bx];refine Ak (Xf k hl2 ?_) ?_
 ·simp only [BL,Cv,↓reduceIte,bj,bh,Nat.reduceSub,FN]<;>(repeat' apply A7)<;>first|rfl|exact⟨_,rfl⟩|exact⟨_,_,rfl⟩|simp [AR,Ay]
 ·intro ex2 s2 hX2;unfold Lb at hX2;obtain⟨rfl,n2_0,n2_1⟩:=hX2;cases h;simp only [↓AO,AP,↓reduceIte,bj,bh,n2_0,n2_1]
def UV:Int→Ac→Ac
 |_,[]=>[]
 |k,x::l=>wU k x.length::UV (k+2*(x.length:Int)) l
theorem A0o(x:Fv)(l:Ac):Bw (fE (x::l))=x.length+Bw (fE l):=by
 rw [show fE (x::l)=x.map Prod.fst::fE l from rfl,Lp,Qz]
theorem Xg(kk:Int): ∀(b a:Ac) (k:Int),Cm b→a.length+b.length<1099511627776→0≤k→k+2*Bw (fE b)<1099511627776→
  IZ kk (k,(a.length:Int),a++b)=some (k+2*Bw (fE b),a++UV k b):=by
 intro b
 induction b with
 |nil=>
  intro a k hb hab hk hkt;unfold IZ;rw [D5 (r:=(k,a++[]))]
  ·rw [show Bw (fE [])=0 from rfl,Int.mul_zero,Int.add_zero];rfl
  ·simp only [IY];rw [if_neg (Uq _)]
 |cons x b ih=>
  intro a k hb hab hk hkt;rw [A0o]at hkt;simp only [KL]at hab;have hx:x.length<549755813888:=hb.2 x (Ia ..);have ht:=CE (fE b);have:=ih (a++[wU k x.length]) (k+2*(x.length:Int)) ⟨by omega,fun y hy=>hb.2 y (QL _ hy)⟩ (by simp;omega) (by omega) (by omega)
  unfold IZ at this ⊢;have eg:(a++x::b).getD (a.length:Int).toNat be=x:=by rw [Cg];exact EX a (x::b) a.length rfl (by simp)
  rw [KC (s':=(k+2*(x.length:Int),((a++[wU k x.length]).length:Int),(a++[wU k x.length])++b)),this]
  ·rw [A0o,show k+2*(x.length:Int)+2*Bw (fE b)=k+2*(x.length+Bw (fE b)) by omega]
   simp [UV]
  ·simp only [IY];rw [if_pos (U7 ..),BC (U8 ..),BC (by rw [eg];exact hx),BC (by rw [eg];omega),eg,Gf _ (by omega),Cg,mX _ _ (Ch _),Xt,tY]
   simp
theorem iQ(a:Ac)(k:Int)(ha:Cm a)(hk:0≤k∧k+2*Bw (fE a)<1099511627776):Qv a k=some (k+2*Bw (fE a),UV k a):=by
 unfold Qv;have:=Xg k a [] k ha (by have:=ha.1;simp;omega) hk.1 hk.2
 simp only [R8,PW,Et]at this;rw [this];rfl
theorem iR(a:Ac)(k:Int)(h0:Cm a)(h1:0≤k∧k+2*Bw (fE a)<1099511627776):Y.call 44 [D.vw [100000] 0 0,bc .i64 k] [br 79 (AR (fun x=>br 87 (Aj .i64 .i64 x)) a)]=some (bc .i64 (k+2*Bw (fE a)),[br 79 (AR (fun x=>br 87 (Aj .i64 .i64 x)) (UV k a))]):=Yh a k (iQ a k h0 h1)
def O4(BA:Ac)(Bo BB:AU)(k:Int):Option (Int×Ac×AU×AU):= ck (Cm BA)<| ck (0≤k∧k+2*Bw (fE BA)<1099511627776)<| ck (Bo.length<1099511627776)<| ck (0≤(k+2*Bw (fE BA))∧(k+2*Bw (fE BA))<1099511627776)<| ck (BB.length<1099511627776)<| ck (0≤((k+2*Bw (fE BA))+Bo.length)∧((k+2*Bw (fE BA))+Bo.length)<1099511627776)<| some ((((k+2*Bw (fE BA))+Bo.length)+BB.length),(UV k BA),(upto (k+2*Bw (fE BA)) Bo.length),(upto ((k+2*Bw (fE BA))+Bo.length) BB.length))
def k19:SC:= .seq (.ops [oX 2 (.box 38 (tK 0)) 0,oX 4 (.assign (iK 0)) 3]) (.seq (.ops [oF 5 38 2 0,oL 6 36 5 36,oM 7 1 3,oC 8 44 [(tK 6),(tK 7)] [36,3] 3,oA 1 8 3]) (.seq (.ops [oF 9 38 2 1,oL 10 26 9 26,oM 11 1 3,oC 12 27 [(tK 10),(tK 11)] [26,3] 3,oA 1 12 3]) (.seq (.ops [oF 13 38 2 2,oL 14 26 13 26,oM 15 1 3,oC 16 27 [(tK 14),(tK 15)] [26,3] 3,oA 1 16 3]) (.seq (.ops [oM 17 1 3,oA 4 17 3]) .ret))))
theorem AEq:Tryz.f19.body.map (BQ lends)=some k19:=by kernel_rfl
theorem AT1:BV Tryz.f19 2=true:=by kernel_rfl
theorem wV{a l:List D}{r:D×List D}(h:BU Y.env k19 (fin Ai l.length [bt 4] r) (entry a l))(ha:a.length=2):Y.call 19 a l=some r:=
 AY (Y:=Y) rfl Tryz.func19 (ha▸AT1) AEq h
theorem WB(BA:Ac)(Bo BB:AU)(k:Int){r:Int×Ac×AU×AU}(h:O4 BA Bo BB k=some r):Y.call 19 [bw [D.vw [100000] 0 0,D.vw [100001] 0 0,D.vw [100002] 0 0],bc .i64 k] [br 79 (AR (fun x=>br 87 (Aj .i64 .i64 x)) BA),br 3 (AR (bc .i64) Bo),br 3 (AR (bc .i64) BB)]=some (bc .i64 r.1,[br 79 (AR (fun x=>br 87 (Aj .i64 .i64 x)) r.2.1),br 3 (AR (bc .i64) r.2.2.1),br 3 (AR (bc .i64) r.2.2.2)]):=by
 refine wV ?_ rfl;unfold k19;unfold O4 at h;obtain⟨e1,e2,h⟩:=EC h;have c3:=iR BA k e1 e2;obtain⟨e4,e5,h⟩:=EC h;have c6:=R4 Bo (k+2*Bw (fE BA)) e4 e5;obtain⟨e7,e8,h⟩:=EC h;have c9:=R4 BB ((k+2*Bw (fE BA))+Bo.length) e7 e8;cases h;simp only [↓AO,AP,↓reduceIte,bj,bh,bx,Nat.reduceSub,c3,c6,c9]
theorem Yi(a:Ac)(b c:AU)(k:Int)(ha:Cm a)(hb:b.length<1099511627776)(hc:c.length<1099511627776)(hk:0≤k∧k+2*Bw (fE a)+b.length+c.length<1099511627776):
  O4 a b c k=some (k+2*Bw (fE a)+b.length+c.length,UV k a,upto (k+2*Bw (fE a)) b.length,upto (k+2*Bw (fE a)+b.length) c.length):=by
 have ht:=CE (fE a);unfold O4;rw [BC ha,BC (by omega),BC hb,BC (by omega),BC hc,BC (by omega)]
theorem Rs(BA:Ac)(Bo BB:AU)(k:Int)(h0:Cm BA)(h1:Bo.length<1099511627776)(h2:BB.length<1099511627776)(h3:0≤k∧k+2*Bw (fE BA)+Bo.length+BB.length<1099511627776):Y.call 19 [bw [D.vw [100000] 0 0,D.vw [100001] 0 0,D.vw [100002] 0 0],bc .i64 k] [br 79 (AR (fun x=>br 87 (Aj .i64 .i64 x)) BA),br 3 (AR (bc .i64) Bo),br 3 (AR (bc .i64) BB)]=some (bc .i64 (k+2*Bw (fE BA)+Bo.length+BB.length),[br 79 (AR (fun x=>br 87 (Aj .i64 .i64 x)) (UV k BA)),br 3 (AR (bc .i64) (upto (k+2*Bw (fE BA)) Bo.length)),br 3 (AR (bc .i64) (upto (k+2*Bw (fE BA)+Bo.length) BB.length))]):=WB BA Bo BB k (Yi BA Bo BB k h0 h1 h2 h3)
def Gd(tL tD:Int)(tN tE:AV)(AB:Ac)(AL A8:AU):Option (Bool):= ck (Vl tN)<| ck (Vl tE)<| ck (0≤(1048576:Int)∧(1048576:Int)≤1048576)<| if(szP (1048576:Int) tN tE)<0 then some true else ck (VT AB)<| ck (AL.length<9223372036854775808)<| ck (A8.length<9223372036854775808)<| ck (0≤(szP (1048576:Int) tN tE)∧(szP (1048576:Int) tN tE)≤1048576)<| if(szW (szP (1048576:Int) tN tE) AB AL A8)<0 then some true else ck (BK tN)<| ck (BK tE)<| ck (Cm AB)<| ck (AL.length<1099511627776)<| ck (A8.length<1099511627776)<| (M4 tL tD tN tE AB AL A8).bind fun aR=> (M3 tL tD tN tE AB AL A8).bind fun Og=> ck (BK Og.1)<| if(decide (Og.1=aR.1))=true then if Og.2=true then if aR.2=true then if(X9 tL tD tN tE tL tD tN tE)=true then if(XG AB AL A8 AB AL A8)=true then ck (0≤(1:Int)∧(1:Int)+Bw tN+Bw tE<1099511627776)<| ck (0≤((1:Int)+Bw tN+Bw tE)∧((1:Int)+Bw tN+Bw tE)+2*Bw (fE AB)+AL.length+A8.length<1099511627776)<| if(((1:Int)+Bw tN+Bw tE)+2*Bw (fE AB)+AL.length+A8.length)<0 then some false else ck (0≤(1:Int)∧(1:Int)+Bw Og.1<1099511627776)<| (MK (JH (1:Int) Og.1) (1:Int)).bind fun Vz=> if Vz<0 then some false else if Vz=((1:Int)+Bw Og.1)then some true else some false else some false else some false else
 some false else if aR.2=true then some false else if(X9 tL tD tN tE tL tD tN tE)=true then if(XG AB AL A8 AB AL A8)=true then ck (0≤(1:Int)∧(1:Int)+Bw tN+Bw tE<1099511627776)<| ck (0≤((1:Int)+Bw tN+Bw tE)∧((1:Int)+Bw tN+Bw tE)+2*Bw (fE AB)+AL.length+A8.length<1099511627776)<| if(((1:Int)+Bw tN+Bw tE)+2*Bw (fE AB)+AL.length+A8.length)<0 then some false else ck (0≤(1:Int)∧(1:Int)+Bw Og.1<1099511627776)<| (MK (JH (1:Int) Og.1) (1:Int)).bind fun Vz=> if Vz<0 then some false else if Vz=((1:Int)+Bw Og.1)then some true else some false else some false else some false else some false
abbrev kv:List Nat:=[28,29,30,31,32,27,32,33,34,6,33,32,7,34]
abbrev kw:List Nat:=[95,96,97,98,99,94,99,100,101,15,100,99,16,101]
def k4:SC:= .seq (.ops [oX 2 (.box 24 (tK 0)) 0,oX 3 (.box 28 (tK 1)) 0,oX 4 BR 4]) (.seq (.ops [oX 5 (.assign (iK 1048576)) 3]) (.seq (.ops [oL 17 24 2 24,oM 18 5 3,oC 19 7 [(tK 17),(tK 18)] [24,3] 3,oA 5 19 3]) (.seq (.seq (.ops [oM 20 5 3,oB 21 .lss 3 (tK 20) (iK 0) 3 4]) (.cond (tK 21) (.seq (.ops [oX 4 (.assign Ck) 4]) .ret) .skip)) (.seq (.ops [oL 22 28 3 28,oM 23 5 3,oC 24 8 [(tK 22),(tK 23)] [28,3] 3,oA 5 24 3]) (.seq (.seq (.ops [oM 25 5 3,oB 26 .lss 3 (tK 25) (iK 0) 3 4]) (.cond (tK 26) (.seq (.ops [oX 4 (.assign Ck) 4]) .ret) .skip)) (.seq (.draws [(⟨[28,2,2],kv,[28]⟩,oL 28 24 2 24),(⟨[29,28,2],kv,[29]⟩,oC 29 11 [(tK 28)] [24] 34),(⟨[30,3,3],kv,[30]⟩,oL 30 28 3 28),(⟨[31,30,3],kv,[31]⟩,oC 31 12 [(tK 30)] [28] 38),(⟨[32,29,31,29,31],kv,[32]⟩,oC 32 22 [(tK 29),(tK 31)] [34,38] 32),(⟨[27,32,32],kv,[27,32]⟩,oM 27 32 32),(⟨[33,27],kv,[33]⟩,oE 33 27 0 22),(⟨[34,27],kv,[34]⟩,oE 34 27 1 4),(⟨[6,33,32],kv,[6,33,32]⟩,oA 6 33 22),(⟨[7,34],kv,[7,34]⟩,oA 7 34 4)]) (.seq (.ops [oL 35 24 2 24,oC 36 11 [(tK 35)] [24] 34,oX 8 (.alloc 34) 0,oS 34 8 36]) (.seq (.ops [oL 37 28 3 28,oC 38 12 [(tK 37)] [28] 38,oX 9 (.alloc 38) 0,oS 38 9 38]) (.seq (.ops [oL 40 34 8 34,
 oL 41 38 9 38,oC 42 23 [(tK 40),(tK 41)] [34,38] 32,oM 39 42 32,oE 43 39 0 22,oE 44 39 1 4,oA 10 43 22,oA 11 44 4]) (.seq (.seq (.ops [oM 45 10 22,oM 46 6 22,oC 47 15 [(tK 45),(tK 46)] [22,22] 4,oX 48 (.unOp .not 4 (tK 47)) 4,oM 49 48 4,⟨some 50,.move (tK 11),4,(some (some 49,false))⟩,⟨some 51,.move (tK 7),4,(some (some 49,false))⟩,⟨some 52,.binOp .neq 4 (tK 50) (tK 51) 4,4,(some (some 49,false))⟩,oX 53 (.pick (tK 49) Ck (tK 52)) 4]) (.cond (tK 53) (.seq (.ops [oX 4 BR 4]) .ret) .skip)) (.seq (.seq (.draws [(⟨[54,8,8],[54,55,56,57,58],[54]⟩,oL 54 34 8 34),(⟨[55,2,2],[54,55,56,57,58],[55]⟩,oL 55 24 2 24),(⟨[56,55,2],[54,55,56,57,58],[56]⟩,oC 56 11 [(tK 55)] [24] 34),(⟨[57,54,56,8,56],[54,55,56,57,58],[57]⟩,oC 57 16 [(tK 54),(tK 56)] [34,34] 4),(⟨[58,57,57],[54,55,56,57,58],[58]⟩,oX 58 (.unOp .not 4 (tK 57)) 4)]) (.cond (tK 58) (.seq (.ops [oX 4 BR 4]) .ret) .skip)) (.seq (.seq (.draws [(⟨[59,9,9],[59,60,61,62,63],[59]⟩,oL 59 38 9 38),(⟨[60,3,3],[59,60,61,62,63],[60]⟩,oL 60 28 3 28),(⟨[61,60,3],[59,60,61,62,63],[61]⟩,oC 61 12 [(tK 60)] [28] 38),(⟨[62,59,61,9,61],[59,60,61,62,63],[62]⟩,oC 62 17 [(tK 59),(tK 61)] [38,38] 4),(⟨[63,62,62],[59,60,61,62,63],[63]⟩,oX 63 (.unOp .not 4 (tK 62)) 4)])
 (.cond (tK 63) (.seq (.ops [oX 4 BR 4]) .ret) .skip)) (.seq (.ops [oX 12 (.assign (iK 1)) 3]) (.seq (.ops [oL 64 34 8 34,oM 65 12 3,oC 66 18 [(tK 64),(tK 65)] [34,3] 3,oA 12 66 3]) (.seq (.ops [oL 67 38 9 38,oM 68 12 3,oC 69 19 [(tK 67),(tK 68)] [38,3] 3,oA 12 69 3]) (.seq (.seq (.ops [oM 70 12 3,oB 71 .lss 3 (tK 70) (iK 0) 3 4,oM 72 71 4,⟨some 73,.move (tK 10),22,(some (some 72,false))⟩,⟨some 74,.move (tK 6),22,(some (some 72,false))⟩,⟨some 75,.call ⟨(.value (.func 15)), #[(tK 73),(tK 74)], #[22,22]⟩,4,(some (some 72,false))⟩,⟨some 76,.unOp .not 4 (tK 75),4,(some (some 72,false))⟩,oX 77 (.pick (tK 72) Ck (tK 76)) 4,oM 78 77 4,⟨some 79,.move (tK 11),4,(some (some 78,false))⟩,⟨some 80,.move (tK 7),4,(some (some 78,false))⟩,⟨some 81,.binOp .neq 4 (tK 79) (tK 80) 4,4,(some (some 78,false))⟩,oX 82 (.pick (tK 78) Ck (tK 81)) 4]) (.cond (tK 82) (.seq (.ops [oX 4 BR 4]) .ret) .skip)) (.seq (.ops [oX 13 (.assign (iK 1)) 3]) (.seq (.ops [oM 83 10 22,oM 84 13 3,oC 85 20 [(tK 83),(tK 84)] [22,3] 3,oA 13 85 3]) (.seq (.ops [oX 14 (.assign (iK 1)) 3]) (.seq (.ops [oM 86 10 22,oM 87 14 3,oC 88 21 [(tK 86),(tK 87)] [22,3] 3,oA 14 88 3]) (.seq (.seq (.ops [oM 89 14 3,
 oB 90 .lss 3 (tK 89) (iK 0) 3 4]) (.cond (tK 90) (.seq (.ops [oX 4 BR 4]) .ret) .skip)) (.seq (.seq (.ops [oM 91 14 3,oM 92 13 3,oB 93 .neq 3 (tK 91) (tK 92) 3 4]) (.cond (tK 93) (.seq (.ops [oX 4 BR 4]) .ret) .skip)) (.seq (.draws [(⟨[95,2,2],kw,[95]⟩,oL 95 24 2 24),(⟨[96,95,2],kw,[96]⟩,oC 96 11 [(tK 95)] [24] 34),(⟨[97,3,3],kw,[97]⟩,oL 97 28 3 28),(⟨[98,97,3],kw,[98]⟩,oC 98 12 [(tK 97)] [28] 38),(⟨[99,96,98,96,98],kw,[99]⟩,oC 99 23 [(tK 96),(tK 98)] [34,38] 32),(⟨[94,99,99],kw,[94,99]⟩,oM 94 99 32),(⟨[100,94],kw,[100]⟩,oE 100 94 0 22),(⟨[101,94],kw,[101]⟩,oE 101 94 1 4),(⟨[15,100,99],kw,[15,100,99]⟩,oA 15 100 22),(⟨[16,101],kw,[16,101]⟩,oA 16 101 4)]) (.seq (.seq (.ops [oM 102 15 22,oM 103 6 22,oC 104 15 [(tK 102),(tK 103)] [22,22] 4,oX 105 (.unOp .not 4 (tK 104)) 4,oM 106 105 4,⟨some 107,.move (tK 16),4,(some (some 106,false))⟩,⟨some 108,.move (tK 7),4,(some (some 106,false))⟩,⟨some 109,.binOp .neq 4 (tK 107) (tK 108) 4,4,(some (some 106,false))⟩,oX 110 (.pick (tK 106) Ck (tK 109)) 4]) (.cond (tK 110) (.seq (.ops [oX 4 BR 4]) .ret) .skip)) (.seq (.ops [oX 14 (.assign (iK 1)) 3]) (.seq (.ops [oM 111 10 22,oM 112 14 3,oC 113 21 [(tK 111),(tK 112)] [22,3] 3,
 oA 14 113 3]) (.seq (.seq (.ops [oM 114 14 3,oB 115 .lss 3 (tK 114) (iK 0) 3 4]) (.cond (tK 115) (.seq (.ops [oX 4 BR 4]) .ret) .skip)) (.seq (.seq (.ops [oM 116 14 3,oM 117 13 3,oB 118 .neq 3 (tK 116) (tK 117) 3 4]) (.cond (tK 118) (.seq (.ops [oX 4 BR 4]) .ret) .skip)) (.seq (.ops [oX 4 (.assign Ck) 4]) .ret)))))))))))))))))))))))))))))
theorem ALl:Tryz.f4.body.map (BQ lends)=some k4:=by kernel_rfl
theorem ok4:BV Tryz.f4 2=true:=by kernel_rfl
theorem c4{a l:List D}{r:D×List D}(h:BU Y.env k4 (fin Ai l.length [bt 4] r) (entry a l))(ha:a.length=2):Y.call 4 a l=some r:=
 AY (Y:=Y) rfl Tryz.func4 (ha▸ok4) ALl h
theorem QP(tL tD:Int)(tN tE:AV)(AB:Ac)(AL A8:AU){r:Bool}(h:Gd tL tD tN tE AB AL A8=some r):Y.call 4 [bw [bc .i64 tL,bc .i64 tD,bk 26 (AR Ba tN),bk 26 (AR Ba tE)],bw [bk 78 (AR (fun x=>bk 111 (Aj .i64 .i64 x)) AB),bk 3 (AR (bc .i64) AL),bk 3 (AR (bc .i64) A8)]] []=some (bp r,[]):=by
 refine c4 ?_ rfl;unfold k4;unfold Gd at h;obtain⟨e1,e2,e3,h⟩:=Om h;have c4:=eD tL tD tN tE (1048576:Int) e1 e2 e3;rcases iS h with⟨e5,h⟩|⟨e5,h⟩
 ·cases h;simp (maxDischargeDepth:=9) only [↓AO,AP,↓reduceIte,bj,bh,bx,c4,e5]
 ·obtain⟨e6,e7,e8,e9,h⟩:=vR h;have VS:=fQ AB AL A8 (szP (1048576:Int) tN tE) e6 e7 e8 e9;rcases iS h with⟨e11,h⟩|⟨e11,h⟩
  ·cases h;simp (maxDischargeDepth:=9) only [↓AO,AP,↓reduceIte,bj,bh,bx,c4,e5,VS,e11]
  ·obtain⟨e12,e13,h⟩:=EC h;have qa:=He tL tD tN tE e12 e13;obtain⟨e15,e16,e17,h⟩:=Om h;have jm:=Ho AB AL A8 e15 e16 e17;obtain⟨aR,hl19,h⟩:=Ag h;have wV:=WA tL tD tN tE AB AL A8 hl19;have c20:=He tL tD tN tE e12 e13;have c21:=Ho AB AL A8 e15 e16 e17;obtain⟨Og,hl22,h⟩:=Ag h;have wT:=W9 tL tD tN tE AB AL A8 hl22;obtain⟨e23,h⟩:=De h;have xH:=Il Og.1 aR.1 e23;rcases iS h with⟨e25,h⟩|⟨e25,h⟩
   ·rcases iS h with⟨e26,h⟩|⟨e26,h⟩
    ·rcases iS h with⟨e27,h⟩|⟨e27,h⟩
     ·have c28:=He tL tD tN tE e12 e13;have c29:=U9 tL tD tN tE tL tD tN tE e12 e13;rcases iS h with⟨e30,h⟩|⟨e30,h⟩
      ·have c31:=Ho AB AL A8 e15 e16 e17;have c32:=UH AB AL A8 AB AL A8 e15 e16 e17;rcases iS h with⟨e33,h⟩|⟨e33,h⟩
       ·obtain⟨e34,h⟩:=De h;have c35:=Ra tL tD tN tE (1:Int) e12 e13 e34;obtain⟨e36,h⟩:=De h;have c37:=Rs AB AL A8 ((1:Int)+Bw tN+Bw tE) e15 e16 e17 e36;rcases iS h with⟨e38,h⟩|⟨e38,h⟩
        ·cases h;simp (maxDischargeDepth:=9) only [↓AO,AP,↓reduceIte,bj,bh,bx,ca,c4,e5,VS,e11,qa,jm,wV,wT,xH,e25,e26,e27,c29,e30,c32,e33,c35,c37,e38]
        ·have c39:=Il Og.1 aR.1 e23;obtain⟨e40,h⟩:=De h;have c41:=Mc Og.1 (1:Int) e23 e40;obtain⟨Vz,hl42,h⟩:=Ag h;have c42:=RZ (JH (1:Int) Og.1) (1:Int) hl42;rcases iS h with⟨e43,h⟩|⟨e43,h⟩
         ·cases h;simp (maxDischargeDepth:=9) only [↓AO,AP,↓reduceIte,bj,bh,bx,ca,c4,e5,VS,e11,qa,jm,wV,wT,xH,e25,e26,e27,c29,e30,c32,e33,c35,c37,e38,c41,c42,e43]
         ·rcases iS h with⟨e44,h⟩|⟨e44,h⟩
          ·have c45:=He tL tD tN tE e12 e13;have c46:=Ho AB AL A8 e15 e16 e17;have c47:=Il Og.1 aR.1 e23;cases h;simp (maxDischargeDepth:=9) only [↓AO,AP,↓reduceIte,bj,bh,bx,ca,c4,e5,VS,e11,qa,jm,wV,wT,xH,e25,e26,e27,c29,e30,c32,e33,c35,c37,e38,c41,c42,e43,decide_eq_true e44]
          ·cases h;simp (maxDischargeDepth:=9) only [↓AO,AP,↓reduceIte,bj,bh,bx,ca,c4,e5,VS,e11,qa,jm,wV,wT,xH,e25,e26,e27,c29,e30,c32,e33,c35,c37,e38,c41,c42,e43,e44]
       ·have e33f:(XG AB AL A8 AB AL A8)=false:=Es.mpr e33;cases h;simp (maxDischargeDepth:=9) only [↓AO,AP,↓reduceIte,bj,bh,bx,ca,c4,e5,VS,e11,qa,jm,wV,wT,xH,e25,e26,e27,c29,e30,c32,e33f]
      ·have e30f:(X9 tL tD tN tE tL tD tN tE)=false:=Es.mpr e30;cases h;simp (maxDischargeDepth:=9) only [↓AO,AP,↓reduceIte,bj,bh,bx,ca,c4,e5,VS,e11,qa,jm,wV,wT,xH,e25,e26,e27,c29,e30f]
     ·have e27f:aR.2=false:=Es.mpr e27;cases h;simp (maxDischargeDepth:=9) only [↓AO,AP,↓reduceIte,bj,bh,bx,ca,c4,e5,VS,e11,qa,jm,wV,wT,xH,e25,e26,e27f]
    ·have e26f:Og.2=false:=Es.mpr e26;rcases iS h with⟨e27,h⟩|⟨e27,h⟩
     ·cases h;simp (maxDischargeDepth:=9) only [↓AO,AP,↓reduceIte,bj,bh,bx,ca,c4,e5,VS,e11,qa,jm,wV,wT,xH,e25,e26f,e27]
     ·have e27f:aR.2=false:=Es.mpr e27;have c28:=He tL tD tN tE e12 e13;have c29:=U9 tL tD tN tE tL tD tN tE e12 e13;rcases iS h with⟨e30,h⟩|⟨e30,h⟩
      ·have c31:=Ho AB AL A8 e15 e16 e17;have c32:=UH AB AL A8 AB AL A8 e15 e16 e17;rcases iS h with⟨e33,h⟩|⟨e33,h⟩
       ·obtain⟨e34,h⟩:=De h;have c35:=Ra tL tD tN tE (1:Int) e12 e13 e34;obtain⟨e36,h⟩:=De h;have c37:=Rs AB AL A8 ((1:Int)+Bw tN+Bw tE) e15 e16 e17 e36;rcases iS h with⟨e38,h⟩|⟨e38,h⟩
        ·cases h;simp (maxDischargeDepth:=9) only [↓AO,AP,↓reduceIte,bj,bh,bx,ca,c4,e5,VS,e11,qa,jm,wV,wT,xH,e25,e26f,e27f,c29,e30,c32,e33,c35,c37,e38]
        ·have c39:=Il Og.1 aR.1 e23;obtain⟨e40,h⟩:=De h;have c41:=Mc Og.1 (1:Int) e23 e40;obtain⟨Vz,hl42,h⟩:=Ag h;have c42:=RZ (JH (1:Int) Og.1) (1:Int) hl42;rcases iS h with⟨e43,h⟩|⟨e43,h⟩
         ·cases h;simp (maxDischargeDepth:=9) only [↓AO,AP,↓reduceIte,bj,bh,bx,ca,c4,e5,VS,e11,qa,jm,wV,wT,xH,e25,e26f,e27f,c29,e30,c32,e33,c35,c37,e38,c41,c42,e43]
         ·rcases iS h with⟨e44,h⟩|⟨e44,h⟩
          ·have c45:=He tL tD tN tE e12 e13;have c46:=Ho AB AL A8 e15 e16 e17;have c47:=Il Og.1 aR.1 e23;cases h;simp (maxDischargeDepth:=9) only [↓AO,AP,↓reduceIte,bj,bh,bx,ca,c4,e5,VS,e11,qa,jm,wV,wT,xH,e25,e26f,e27f,c29,e30,c32,e33,c35,c37,e38,c41,c42,e43,decide_eq_true e44]
          ·cases h;simp (maxDischargeDepth:=9) only [↓AO,AP,↓reduceIte,bj,bh,bx,ca,c4,e5,VS,e11,qa,jm,wV,wT,xH,e25,e26f,e27f,c29,e30,c32,e33,c35,c37,e38,c41,c42,e43,e44]
       ·have e33f:(XG AB AL A8 AB AL A8)=false:=Es.mpr e33;cases h;simp (maxDischargeDepth:=9) only [↓AO,AP,↓reduceIte,bj,bh,bx,ca,c4,e5,VS,e11,qa,jm,wV,wT,xH,e25,e26f,e27f,c29,e30,c32,e33f]
      ·have e30f:(X9 tL tD tN tE tL tD tN tE)=false:=Es.mpr e30;cases h;simp (maxDischargeDepth:=9) only [↓AO,AP,↓reduceIte,bj,bh,bx,ca,c4,e5,VS,e11,qa,jm,wV,wT,xH,e25,e26f,e27f,c29,e30f]
   ·have e25f:(decide (Og.1=aR.1))=false:=Es.mpr e25;cases h;simp (maxDischargeDepth:=9) only [↓AO,AP,↓reduceIte,bj,bh,bx,ca,c4,e5,VS,e11,qa,jm,wV,wT,xH,e25f]
def chc(good:AU→Bool):AV→AU→Bool
 | [],c=>good c
 |L::Ls,c=>L.any fun a=>chc good Ls (c++[a])
def ZJ:AU→AV→Prop
 | [],[]=>True
 |a::c,L::Ls=>a∈L∧ZJ c Ls
 |_,_=>False
theorem az(good:AU→Bool): ∀(Ls:AV) (c:AU),chc good Ls c=true↔ ∃d,ZJ d Ls∧good (c++d)=true
 | [],c=>by
  unfold chc
  constructor
  ·intro h;exact⟨[],trivial,by rwa [V8]⟩
  ·rintro⟨d,h1,h2⟩
   cases d with
   |nil=>rwa [V8]at h2
   |cons a d=>exact h1.elim
 |L::Ls,c=>by
  unfold chc;rw [Vd]
  constructor
  ·rintro⟨a,ha,h⟩
   obtain⟨d,h1,h2⟩:=(az good Ls (c++[a])).1 h
   exact⟨a::d,⟨ha,h1⟩,by rwa [NV]at h2⟩
  ·rintro⟨d,h1,h2⟩
   cases d with
   |nil=>exact h1.elim
   |cons a d=>exact⟨a,h1.1,(az good Ls (c++[a])).2 ⟨d,h1.2,by rwa [NV]⟩⟩
theorem iT(x:AU)(j:Nat)(hj:j<x.length):(x[j]::x.eraseIdx j).Perm x:=by
 rw [List.eraseIdx_eq_take_drop_succ];have h:x=x.take j++x[j]::x.drop (j+1):=by rw [←ZN hj,List.take_append_drop]
 have:=(List.perm_middle (a:=x[j]) (l₁:=x.take j) (l₂:=x.drop (j+1))).symm
 rw [←h]at this;exact this
def iU:AV→AU→Bool
 | [],x=>x.isEmpty
 |L::Ls,x=>(ao x.length).any fun j=>L.contains (x.getD j be)&&iU Ls (x.eraseIdx j)
theorem bA: ∀(Ls:AV) (x:AU),iU Ls x=true↔ ∃d,ZJ d Ls∧d.Perm x
 | [],x=>by
  unfold iU
  constructor
  ·intro h;rw [List.isEmpty_iff]at h;subst h;exact⟨[],trivial,List.Perm.refl _⟩
  ·rintro⟨d,h1,h2⟩
   cases d with
   |nil=>rw [List.nil_perm.1 h2];rfl
   |cons a d=>exact h1.elim
 |L::Ls,x=>by
  unfold iU;rw [Vd]
  constructor
  ·rintro⟨j,hj,h⟩
   have hj:=Eo.1 hj;rw [En,TR,Ad _ _ hj]at h;obtain⟨d,h1,h2⟩:=(bA Ls _).1 h.2
   exact⟨x[j]::d,⟨h.1,h1⟩,((List.perm_cons _).2 h2).trans (iT x j hj)⟩
  ·rintro⟨d,h1,h2⟩
   cases d with
   |nil=>exact h1.elim
   |cons a d=>
    have ha:a∈x:=h2.mem_iff.1 Ia;obtain⟨j,hj,e⟩:=V6 ha
    refine⟨j,Eo.2 hj, ?_⟩
    rw [En,TR,Ad _ _ hj,e]
    refine⟨h1.1,(bA Ls _).2 ⟨d,h1.2, ?_⟩⟩
    have h3:(a::d).Perm (x[j]::x.eraseIdx j):=h2.trans (iT x j hj).symm;rw [e]at h3
    exact(List.perm_cons a).1 h3
def aS(n:Nat)(f:Nat→Nat):Nat:=((ao n).map f).sum
theorem A2F(f:Nat→Nat):aS 0 f=0:=rfl
theorem A2G(n:Nat)(f:Nat→Nat):aS (n+1) f=aS n f+f n:=by simp [aS,ZQ]
theorem iV{n:Nat}{f g:Nat→Nat}(h: ∀i,i<n→f i=g i):aS n f=aS n g:=by
 unfold aS;rw [xK fun i hi=>h i (Eo.1 hi)]
def rZ(n:Nat)(g:AU→Nat):List (Int→Nat)→AU→Nat
 | [],c=>g c
 |w::Ws,c=>aS n fun b=>w (b:Int)*rZ n g Ws (c++[(b:Int)])
def AT2:Nat:=1000000000001
def sat(x:Nat):Int:=((min x AT2:Nat):Int)
structure RelW(n:Nat)(i a:Int)(Ws:List (Int→Nat))(ways:AV):Prop where
 len:ways.length=Ws.length
 JB: ∀k,(hk:k<Ws.length)→(k:Int)≠i→(ways.getD k be).length=n∧ ∀b:Nat,b<n→(ways.getD k be).getD b be=sat (Ws[k] (b:Int))
 one: ∀k,(hk:k<Ws.length)→(k:Int)=i→ ∀b:Int,Ws[k] b=if b=a then 1 else 0
def gdC(ns:AV)(c:AU):Nat:=if ns.contains (JJ c)=true then 1 else 0
def BS(set:Int)(a:Nat):Bool:=decide (set / 2 ^ a % 2=1)
theorem Uy{a b:Nat}(h:a≤b):(2:Int) ^ a≤2 ^ b:=by
 have:=Nat.pow_le_pow_right (n:=2) (by decide) h
 exact_mod_cast this
theorem A2H(set:Int)(a:Nat)(ha:a≤64):set.fdiv (2 ^ (min a bm.bits))=set / 2 ^ a:=by
 have:min a bm.bits=a:=by show min a 64=a;omega
 rw [this,A2i _ (Int.pow_nonneg (by decide))]
theorem UW(set:Int)(a:Nat)(h:0≤set):0≤set / 2 ^ a:=Int.ediv_nonneg h (Int.pow_nonneg (by decide))
def Yj(set:Int)(n:Nat):AU:=((ao n).filter (BS set)).map fun(a:Nat)=>(a:Int)
theorem A7r: ∀x:Fin 256,GA .and .i64 (x.val:Int) 1=(x.val:Int) % 2:=by decide+kernel
theorem A5f(x:Int)(h:0≤x∧x≤255):GA .and .i64 x 1=x % 2:=by
 have:=A7r ⟨x.toNat,by omega⟩
 simp only at this;rwa [show((x.toNat:Nat):Int)=x by omega]at this
theorem A0p(set:Int)(a:Nat)(h:0≤set):set / 2 ^ a≤set:=by
 have:(1:Int)≤2 ^ a:=by
  have:=Nat.one_le_two_pow (n:=a)
  exact_mod_cast this
 exact Int.ediv_le_self _ h
theorem UX{set:Int}{n:Nat}{x:Int}:x∈Yj set n↔ ∃a:Nat,x=(a:Int)∧a<n∧BS set a=true:=by
 unfold Yj;rw [MO]
 constructor
 ·rintro⟨a,ha,rfl⟩
  rw [mf,Eo]at ha
  exact⟨a,rfl,ha.1,ha.2⟩
 ·rintro⟨a,rfl,h1,h2⟩
  exact⟨a,mf.2 ⟨Eo.2 h1,h2⟩,rfl⟩
theorem Rt(mask:Int)(a:Nat)(h:0≤mask∧mask≤255)(ha:a≤8):Kc mask (a:Int)=some (BS mask a):=by
 have loop:QA (mask,(a:Int))=some (mask / 2 ^ a):=by
  unfold QA;have key:=CO (fun v=>LG v.1 v.2) (fun k=>(mask / 2 ^ k,((a-k:Nat):Int))) a (mask / 2 ^ a) ?_ ?_
  ·simpa using key
  ·intro k hk;have h0:=UW mask k h.1;have h1:=Int.le_trans (A0p mask k h.1) h.2;simp only [LG];rw [if_pos (by omega),Int.tdiv_eq_ediv_of_nonneg h0,Ib _ (by omega),Ib _ (by omega),Int.pow_succ,←Int.ediv_ediv_of_nonneg (Int.pow_nonneg (by decide))]
   congr 3
   omega
  ·simp only [LG];rw [if_neg (by omega)]
 unfold Kc ay;rw [loop,C8,C8,Int.tmod_eq_emod_of_nonneg (UW mask a h.1)];rfl
theorem A2I(x:AU)(k:Nat)(h:k+1<x.length)(e:x.getD k be=x.getD (k+1) be):x.eraseIdx k=x.eraseIdx (k+1):=by
 rw [Ad _ _ (by omega),Ad _ _ h]at e
 refine Vb (by rw [cf (by omega),cf h]) fun i h1 h2=> ?_
 rw [List.getElem_eraseIdx,List.getElem_eraseIdx];by_cases c1:i<k
 ·rw [dif_pos c1,dif_pos (by omega)]
 ·rw [dif_neg c1];by_cases c2:i<k+1
  ·rw [dif_pos c2];have:i=k:=by omega
   subst this;exact e.symm
  ·rw [dif_neg c2]
theorem A7s(L:AU)(Ls:AV)(x:AU):(ao x.length).any (fun j=> !(decide (0<j)&&decide (x.getD (j-1) be=x.getD j be))&&(L.contains (x.getD j be)&&iU Ls (x.eraseIdx j)))=iU (L::Ls) x:=by
 have e:iU (L::Ls) x=(ao x.length).any fun j=>L.contains (x.getD j be)&&iU Ls (x.eraseIdx j):=rfl;rw [e,S9,Vd,Vd]
 constructor
 ·rintro⟨j,hj,h⟩
  rw [En]at h
  exact⟨j,hj,h.2⟩
 ·have key: ∀j,j<x.length→(L.contains (x.getD j be)&&iU Ls (x.eraseIdx j))=true→ ∃y,y∈ao x.length∧(!(decide (0<y)&&decide (x.getD (y-1) be=x.getD y be))&&(L.contains (x.getD y be)&&iU Ls (x.eraseIdx y)))=true:=by
   intro j
   induction j with
   |zero=>intro hj h;exact⟨0,Eo.2 hj,by rw [h];rfl⟩
   |succ j ih=>
    intro hj h;by_cases c:x.getD j be=x.getD (j+1) be
    ·exact ih (by omega) (by rw [c,A2I x j hj c];exact h)
    ·refine⟨j+1,Eo.2 hj, ?_⟩
     rw [h,Nat.add_sub_cancel,decide_eq_false c];simp
  rintro⟨j,hj,h⟩
  exact key j (Eo.1 hj) h
structure RelM(Ls:AV)(masks:AU):Prop where
 len:masks.length=Ls.length
 rng: ∀k,k<masks.length→0≤masks.getD k be∧masks.getD k be≤255
 has: ∀k a:Nat,k<masks.length→a<8→BS (masks.getD k be) a=(Ls.getD k be).contains (a:Int)
theorem iW{Ls:AV}{masks:AU}(h:RelM Ls masks)(hl:Ls.length≤4): ∀(m k fuel:Nat) (x:AU),m+k=Ls.length→x.length=m→m<fuel→(∀a∈x,0≤a∧a<8)→EY fuel x masks (k:Int)=some (iU (Ls.drop k) x)
 |0,k,0,x,_,_,hf,_=>by omega
 |0,k,fuel+1,x,hk,hx,_,_=>by
  show Ke (EY fuel) x masks (k:Int)=_
  have hm:=h.len;unfold Ke;rw [if_pos (by omega),List.drop_of_length_le (by omega),tQ hx];rfl
 |m+1,k,0,x,_,_,hf,_=>by omega
 |m+1,k,fuel+1,x,hk,hx,hf,ha=>by
  show Ke (EY fuel) x masks (k:Int)=_
  have hm:=h.len;have hkl:k<Ls.length:=by omega
  have hd:Ls.drop k=Ls[k]::Ls.drop (k+1):=ZN hkl;have hg:Ls.getD k be=Ls[k]:=Ad _ _ hkl;unfold Ke;rw [if_neg (by omega),hd,←A7s]
  unfold Oz;have key:=Df (fun v=>I4 (EY fuel) x masks (k:Int) v) (fun i=>(i:Int)) x.length (fun j=> !(!(decide (0<j)&&decide (x.getD (j-1) be=x.getD j be))&&(Ls[k].contains (x.getD j be)&&iU (Ls.drop (k+1)) (x.eraseIdx j)))) (.inl ()) (.inr ()) ?_ ?_
  ·rw [Et]at key;rw [key,C8];have: ∀(l:List Nat) (p:Nat→Bool),(l.all fun j=> !p j)= !(l.any p):=fun l p=>by induction l<;>simp_all
   rw [this]
   cases (ao x.length).any fun j=> !(decide (0<j)&&decide (x.getD (j-1) be=x.getD j be))&&(Ls[k].contains (x.getD j be)&&iU (Ls.drop (k+1)) (x.eraseIdx j))<;>rfl
  ·intro i hi;have hai:=ha _ (O6 hi);have e1:bm.wrap ((i:Int)+1)=((i+1:Nat):Int):=Gf i (by omega)
   have e2:bm.wrap ((k:Int)+1)=((k+1:Nat):Int):=Gf k (by omega)
   have hr:=h.rng k (by omega)
   have hh:=h.has k x[i].toNat (by omega) (by omega)
   have ex:((x[i].toNat:Nat):Int)=x[i]:=by omega
   have es:Kc (masks.getD k be) (x.getD i be)=some (Ls[k].contains (x.getD i be)):=by
    rw [Ad _ _ hi,←ex,Rt _ _ hr (by omega),hh,hg]
   have er:(x.take i).drop 0++(x.take x.length).drop (i+1)=x.eraseIdx i:=by
    rw [WK,List.take_length,List.eraseIdx_eq_take_drop_succ]
   have hrec:=iW h hl m (k+1) fuel (x.eraseIdx i) (by omega) (by rw [cf hi];omega) (by omega) (fun a hm=>ha a (List.mem_of_mem_eraseIdx hm))
   have lt1:(x.take i).length≤x.length:=by rw [Va];omega
   have lt2:(x.drop (i+1)).length≤x.length:=by rw [List.length_drop];omega
   have body: ∀ {α:Type} (q:Bool→Option α),((Kc (masks.getD k be) (x.getD i be)).bind fun r=>if r=true then(ck (0≤(i:Int))<|ck (i≤x.length)<|(Kw ((x.take i).drop 0)).bind fun r12=>ck (0≤((i+1:Nat):Int))<|ck (i+1≤x.length)<|ck (r12.length+((x.take x.length).drop (i+1)).length<1099511627776)<|(EY fuel (r12++(x.take x.length).drop (i+1)) masks ((k+1:Nat):Int)).bind q)else q false)=
     q (Ls[k].contains (x.getD i be)&&iU (Ls.drop (k+1)) (x.eraseIdx i)):=by
    intro α q;rw [es,C8]
    cases Ls[k].contains (x.getD i be)with
    |false=>rw [if_neg (by decide)];rfl
    |true=>
     unfold Kw;rw [if_pos rfl,BC (by omega),BC (by omega),BC (by rw [WK];omega),C8,BC (by omega),BC (by omega),BC (by rw [WK,List.take_length];omega),er,hrec,C8,SA]
   have b0:=body (fun r=>if r=true then some (bl (bo ()))else(some (bo ((i+1:Nat):Int)):Option (Int⊕(Unit⊕Unit))))
   simp only [O5,if_false]at b0;simp only [I4,Cg,e1,e2];rw [if_pos (BX hi),BC (by omega)]
   by_cases c:0<i
   ·have e3:bm.wrap ((i:Int)-1)=((i-1:Nat):Int):=by rw [Ib _ (by omega)];omega
    rw [if_pos (by omega),e3,Cg,BC (by omega)]
    by_cases c2:x.getD (i-1) be=x.getD i be
    ·rw [if_pos c2,decide_eq_true c2,decide_eq_true c];rfl
    ·rw [if_neg c2,BC (by omega),b0,decide_eq_false c2,Bool.and_false,Bool.not_false,SA]
     cases (Ls[k].contains (x.getD i be)&&iU (Ls.drop (k+1)) (x.eraseIdx i))<;>rfl
   ·rw [if_neg (by omega),BC (by omega),b0,decide_eq_false c,Bool.false_and,Bool.not_false,SA]
    cases (Ls[k].contains (x.getD i be)&&iU (Ls.drop (k+1)) (x.eraseIdx i))<;>rfl
  ·simp only [I4];rw [if_neg (Am _)]
theorem WC{α:Type}(p:α→Bool): ∀l:List α,(l.all fun c=> !p c)= !(l.any p)
 | []=>rfl
 |a::l=>by rw [Xq,List.any_cons,WC p l];cases p a<;>rfl
theorem wW{Ls:AV}{masks:AU}(h:RelM Ls masks)(hl:Ls.length≤4)(n D:Int)(ns es:AV)(hn:ns.length<1099511627776)(hc: ∀c∈ns,c.length=Ls.length∧ ∀a∈c,0≤a∧a<8):QB n D ns es masks=some (ns.any (iU Ls)):=by
 unfold QB Nw;have key:=Df (fun v=>G5 ns masks v) (fun i=>(i:Int)) ns.length (fun j=> !iU Ls (ns.getD j be)) (.inl ()) (.inr ()) ?_ ?_
 ·rw [Et]at key;rw [key,C8,RU (fun c=> !iU Ls c)];rw [WC]
  cases ns.any (iU Ls)<;>rfl
 ·intro i hi;have hm:=hc _ (O6 hi);simp only [G5,Cg,Ad _ _ hi];rw [if_pos (BX hi),BC (by omega)]
  have:=iW h hl Ls.length 0 1000000 ns[i] (by omega) hm.1 (by omega) hm.2
  rw [Et,WK]at this;unfold YV;rw [this,C8,Gf i (by omega)]
  cases iU Ls ns[i]<;>rfl
 ·simp only [G5];rw [if_neg (Am _)]
theorem A0q{ns:AV}(Ls:AV)(hs: ∀c∈ns,c.Pairwise fun a b=>a≤b):chc (fun c=>ns.contains (JJ c)) Ls []=ns.any (iU Ls):=by
 rw [S9,az,Vd]
 constructor
 ·rintro⟨d,h1,h2⟩
  rw [PW]at h2;have h2:=TR.1 h2
  exact⟨_,h2,(bA Ls _).2 ⟨d,h1,(Px d).symm⟩⟩
 ·rintro⟨c,hc,h⟩
  obtain⟨d,h1,h2⟩:=(bA Ls c).1 h
  refine⟨d,h1, ?_⟩
  rw [PW];have:JJ d=c:=List.Perm.eq_of_pairwise (le:=fun a b:Int=>a≤b) (fun a b _ _ h1 h2=>Int.le_antisymm h1 h2) (Vr d) (hs c hc) ((Px d).trans h2)
  rw [this];exact TR.2 hc
theorem iX(m:Int)(b:Nat)(h:0≤m∧m≤255)(hb:b≤64):GA .and .i64 (m.fdiv (2 ^ (min b bm.bits))) 1=m / 2 ^ b % 2:=by
 rw [A2H m b hb,A5f _ ⟨UW m b h.1,Int.le_trans (A0p m b h.1) h.2⟩]
def Qw(row:AU)(n i:Nat)(a:Int):AV:=(row.map fun m=>Yj m n).set i [a]
theorem Lc(row:AU)(n i:Nat)(a:Int):(Qw row n i a).length=row.length:=by simp [Qw]
theorem UY{row:AU}{n i:Nat}{a:Int}{k:Nat}(hk:k<row.length):(Qw row n i a)[k]'(by rw [Lc];exact hk)=if i=k then [a]else Yj (row.getD k be) n:=by
 unfold Qw;rw [cd];by_cases e:i=k
 ·rw [if_pos e,if_pos e]
 ·rw [if_neg e,if_neg e,TT,Ad _ _ hk]
def gdN(ns:AV)(c:AU):Bool:=ns.contains (JJ c)
theorem Yk{n D v i:Nat}{a:Int}{ns es:AV}{en:Ac}{ids inp:AU}{M:AV}{row:AU}(hn:n≤8)(hD:D≤4)(hv:v<M.length)(hrow:M.getD v be=row)(hl:row.length=D)
  (hr: ∀k,k<D→0≤row.getD k be∧row.getD k be≤255)(hns:BK ns)(hinc:UD ns=true)(hi:i<D):
  ∀(m k fuel:Nat) (o:AU),m+k=D→o.length=D→o.getD i be=a→m<fuel→ ∃o',BN fuel (k:Int) o (n:Int) (D:Int) ns es en ids inp M (i:Int) (v:Int)=some (chc (gdN ns) ((Qw row n i a).drop k) (o.take k),o')∧o'.length=D∧o'.take k=o.take k∧o'.getD i be=a
 |0,k,0,o,_,_,_,hf=>by omega
 |0,k,fuel+1,o,hk,ho,ha,_=>by
  refine⟨o, ?_,ho,rfl,ha⟩
  show Bu (BN fuel) (k:Int) o (n:Int) (D:Int) ns es en ids inp M (i:Int) (v:Int)=_
  have hfl:=Lc row n i a;unfold Bu;rw [if_pos (by omega),List.drop_of_length_le (by omega),List.take_of_length_le (by omega)]
  unfold Mo;rw [BC hns,BC (by omega),BC hinc];rfl
 |m+1,k,0,o,_,_,_,hf=>by omega
 |m+1,k,fuel+1,o,hk,ho,ha,hf=>by
  have hkl:k<row.length:=by omega
  have hfl:=Lc row n i a;have hd:(Qw row n i a).drop k=(Qw row n i a)[k]'(by omega)::(Qw row n i a).drop (k+1):=ZN (by omega)
  rw [UY hkl]at hd;show ∃o',Bu (BN fuel) (k:Int) o (n:Int) (D:Int) ns es en ids inp M (i:Int) (v:Int)=_∧_
  unfold Bu;rw [if_neg (by omega)]
  by_cases e:i=k
  ·subst e;obtain⟨o2,g1,g2,g3,g4⟩:=Yk (a:=a) (es:=es) (en:=en) (ids:=ids) (inp:=inp) hn hD hv hrow hl hr hns hinc hi m (i+1) fuel o (by omega) ho ha (by omega)
   rw [if_pos rfl,hd,if_pos rfl,Gf i (by omega),g1,C8]
   have et:o.take (i+1)=o.take i++[a]:=by
    have hoa:o[i]'(by omega)=a:=by rw [←Ad _ _ (by omega:i<o.length)];exact ha
    rw [mV (by omega),hoa]
   refine⟨o2, ?_,g2, ?_,g4⟩
   ·rw [et];simp only [chc,List.any_cons,List.any_nil,Bool.or_false]
   ·have:=congrArg (List.take i) g3
    rw [ce,ce,Nat.min_eq_left (by omega)]at this
    exact this
  ·rw [if_neg (by omega),hd,if_neg e]
   have hrk:=hr k (by omega)
   have key:=QY (fun v1=>CX (BN fuel) (k:Int) (n:Int) (D:Int) ns es en ids inp M (i:Int) (v:Int) v1.1 v1.2)
    (fun q s=> ∃b:Nat,q=n-b∧b≤n∧s.1=(b:Int)∧s.2.length=D∧s.2.take k=o.take k∧s.2.getD i be=a∧ ∀j:Nat,j<b→BS (row.getD k be) j=true→chc (gdN ns) ((Qw row n i a).drop (k+1)) (o.take k++[(j:Int)])=false)
    (fun r=> ∃o',(r= .inl o'∧chc (gdN ns) (Yj (row.getD k be) n::(Qw row n i a).drop (k+1)) (o.take k)=true∨r= .inr o'∧chc (gdN ns) (Yj (row.getD k be) n::(Qw row n i a).drop (k+1)) (o.take k)=false)∧o'.length=D∧o'.take k=o.take k∧o'.getD i be=a) ?_ n ((0:Int),o) ⟨0,rfl,by omega,rfl,ho,rfl,ha,fun j hj=>by omega⟩
   ·obtain⟨r,hr',o',h1,h2,h3,h4⟩:=key
    refine⟨o', ?_,h2,h3,h4⟩
    have hr2:Dp (BN fuel) (k:Int) (n:Int) (D:Int) ns es en ids inp M (i:Int) (v:Int) (0,o)=some r:=hr';rw [hr2,C8];rcases h1 with⟨rfl,e⟩|⟨rfl,e⟩<;>rw [e]
   ·rintro q ⟨b',o1⟩ ⟨b,hq,hb,eb,h1,h2,h5,h3⟩
    dsimp only at eb h1 h2 h5;subst eb;simp only [CX,Cg,hrow];by_cases c:b<n
    ·rw [if_pos (by omega),BC (by omega),BC (by omega),BC (by omega),iX _ b hrk (by omega),Gf b (by omega)]
     by_cases hb1:row.getD k be / 2 ^ b % 2=1
     ·have hhas:BS (row.getD k be) b=true:=decide_eq_true hb1;rw [if_pos hb1,BC (by omega),Gf k (by omega)]
      obtain⟨o2,g1,g2,g3,g4⟩:=Yk (a:=a) (es:=es) (en:=en) (ids:=ids) (inp:=inp) hn hD hv hrow hl hr hns hinc hi m (k+1) fuel (o1.set k (b:Int)) (by omega) (by rw [Ij];exact h1) (by rw [Lh,A10 (by omega),←Lh];exact h5) (by omega)
      have et:(o1.set k (b:Int)).take (k+1)=o.take k++[(b:Int)]:=by
       rw [mV (by rw [Ij];omega),tV,List.take_set_of_le (Ch _),h2]
      rw [et]at g1 g3
      have g5:o2.take k=o.take k:=by
       have:=congrArg (List.take k) g3
       rw [ce,Nat.min_eq_left (by omega)]at this
       rw [this,List.take_append_of_le_length (by rw [Va];omega),ce,Nat.min_self]
      rw [g1,C8]
      cases hc:chc (gdN ns) ((Qw row n i a).drop (k+1)) (o.take k++[(b:Int)])with
      |true=>
       right
       refine⟨_,rfl,o2,.inl ⟨rfl, ?_⟩,g2,g5,g4⟩
       unfold chc;rw [Vd]
       exact⟨(b:Int),UX.2 ⟨b,rfl,c,hhas⟩,hc⟩
      |false=>
       left
       refine⟨_,n-(b+1),rfl,by omega,b+1,rfl,by omega,rfl,g2,g5,g4,fun j hj hh=> ?_⟩
       by_cases ej:j=b
       ·rw [ej];exact hc
       ·exact h3 j (by omega) hh
     ·rw [if_neg hb1]
      left
      refine⟨_,n-(b+1),rfl,by omega,b+1,rfl,by omega,rfl,h1,h2,h5,fun j hj hh=> ?_⟩
      by_cases ej:j=b
      ·rw [ej]at hh;exact absurd (of_decide_eq_true hh) hb1
      ·exact h3 j (by omega) hh
    ·rw [if_neg (by omega)]
     right
     refine⟨_,rfl,o1,.inr ⟨rfl, ?_⟩,h1,h2,h5⟩
     unfold chc;rw [List.any_eq_false];intro x hx;obtain⟨j,rfl,hj,hh⟩:=UX.1 hx;have:=h3 j (by omega) hh
     simp [this]
def Kj(M:AV)(v i:Nat):Int:=(M.getD v be).getD i be
def PO(en:Ac)(v i:Nat):Nat:=(BH (en.getD v be) i).toNat
def QQ(en:Ac)(v i:Nat):Nat:=(Bj (en.getD v be) i).toNat
def UZ(en:Ac)(v i:Nat):Bool:=(BH (en.getD v be) i==(v:Int))&&(Bj (en.getD v be) i==(i:Int))
structure OkM(en:Ac)(n:Nat)(M:AV):Prop where
 len:M.length=en.length
 row: ∀v,v<en.length→(M.getD v be).length=(en.getD v be).length
 rng: ∀v i,v<en.length→i<(en.getD v be).length→0≤Kj M v i∧Kj M v i<2 ^ n
structure NetOk(en:Ac):Prop where
 big:en.length≤40
 deg: ∀v,v<en.length→(en.getD v be).length≤6
 prt: ∀v i,v<en.length→i<(en.getD v be).length→VU en v i=true
theorem wX{E:Ac}{ids ins:AU}(hw:GQ E ids ins=true):NetOk E:=by
 unfold GQ at hw;simp only [En]at hw
 refine⟨?_,fun v hv=> ?_,fun v i hv hi=> ?_⟩
 ·have:=Ey.1 hw.1;omega
 ·have:=Cc.1 hw.2.2.2.2 v hv
  rw [PS,En,decide_eq_true_eq]at this;exact this.1
 ·have:=Cc.1 hw.2.2.2.2 v hv
  rw [PS,En]at this;exact Cc.1 this.2 i hi
theorem NetOk.at{en:Ac}(h:NetOk en){v i:Nat}(hv:v<en.length)(hi:i<(en.getD v be).length):
  BH (en.getD v be) i=(PO en v i:Int)∧Bj (en.getD v be) i=(QQ en v i:Int)∧PO en v i<en.length∧QQ en v i<(en.getD (PO en v i) be).length∧PO en (PO en v i) (QQ en v i)=v∧QQ en (PO en v i) (QQ en v i)=i:=by
 have hp:=h.prt v i hv hi;rw [Uv]at hp;simp only [En,beq_iff_eq]at hp;have p1:=Ey.1 hp.1;have p2:=Ey.1 hp.2.1;have e1:BH (en.getD v be) i=(PO en v i:Int):=by unfold PO;omega
 have e2:Bj (en.getD v be) i=(QQ en v i:Int):=by unfold QQ;omega
 refine⟨e1,e2,by omega, ?_, ?_, ?_⟩
 ·rw [e1,Cg]at p2;omega
 ·have:=hp.2.2.1
  show(BH (en.getD (PO en v i) be) (QQ en v i)).toNat=v
  rw [show PO en v i=(BH (en.getD v be) i).toNat from rfl,show QQ en v i=(Bj (en.getD v be) i).toNat from rfl,this,Cg]
 ·have:=hp.2.2.2
  show(Bj (en.getD (PO en v i) be) (QQ en v i)).toNat=i
  rw [show PO en v i=(BH (en.getD v be) i).toNat from rfl,show QQ en v i=(Bj (en.getD v be) i).toNat from rfl,this,Cg]
theorem A7t{n:Nat}(hn:n≤8):(2:Int) ^ n≤256:=by
 have:=Uy hn
 have e:(2:Int) ^ 8=256:=by decide
 omega
theorem OkM.le{en:Ac}{n:Nat}{M:AV}(h:OkM en n M)(hn:n≤8){v i:Nat}(hv:v<en.length)(hi:i<(en.getD v be).length):0≤Kj M v i∧Kj M v i≤255:=by
 have:=h.rng v i hv hi
 have:=A7t hn
 omega
theorem Ru{m:Int}{n a:Nat}(h:0≤m∧m<2 ^ n)(ha:n≤a):BS m a=false:=by
 unfold BS;have:m / 2 ^ a=0:=Int.ediv_eq_zero_of_lt h.1 (Int.lt_of_lt_of_le h.2 (Uy ha))
 rw [this];rfl
def rf(en:Ac)(es:AV)(n:Nat)(M:AV)(v i a:Nat):Bool:=
 if UZ en v i=true then K5 es a a else(ao n).any fun b=>BS (Kj M (PO en v i) (QQ en v i)) b&&K5 es a b
def A7u(ns:AV)(n:Nat)(M:AV)(v i a:Nat):Bool:=ns.any (iU (Qw (M.getD v be) n i a))
def E5(en:Ac)(ns es:AV)(n D:Nat)(M:AV)(v i a:Nat):Bool:=rf en es n M v i a&&(!decide ((en.getD v be).length=D)||A7u ns n M v i a)
theorem A2J{en:Ac}(ids inp:AU){ns es M:AV}{n D v i a:Nat}(hN:NetOk en)(hM:OkM en n M)(hn:n≤8)(he:BK es)(hie:UD es=true)(hv:v<en.length)(hi:i<(en.getD v be).length):
  EA (n:Int) (D:Int) ns es en ids inp M (v:Int) (i:Int) (a:Int)=some (rf en es n M v i a):=by
 obtain⟨f1,f2,f3,f4,_,_⟩:=hN.at hv hi;have hl:=hM.len;have hr:=hM.row _ f3;unfold EA rf UZ;simp only [Cg];rw [BC (by omega),BC (by omega)]
 split
 ·rw [BC he,BC hie]
 ·unfold EQ;have key:=Df (fun w=>CG (n:Int) (D:Int) ns es en ids inp M (v:Int) (i:Int) (a:Int) w) (fun b=>(b:Int)) n (fun b=> !(BS (Kj M (PO en v i) (QQ en v i)) b&&K5 es a b)) (.inl ()) (.inr ()) ?_ ?_
  ·rw [Et]at key;rw [key,C8,WC]
   cases (ao n).any fun b=>BS (Kj M (PO en v i) (QQ en v i)) b&&K5 es a b<;>rfl
  ·intro b hb;have hm:0≤(M.getD (PO en v i) be).getD (QQ en v i) be∧(M.getD (PO en v i) be).getD (QQ en v i) be≤255:=hM.le hn f3 f4;simp only [CG,Cg,f1,f2];rw [if_pos (BX hb),BC (by omega),BC (by omega),BC (by omega),iX _ b hm (by omega),Gf b (by omega)]
   by_cases h1:(M.getD (PO en v i) be).getD (QQ en v i) be / 2 ^ b % 2=1
   ·have:BS (Kj M (PO en v i) (QQ en v i)) b=true:=decide_eq_true h1
    rw [if_pos h1,BC he,BC hie,this,SA]
    cases K5 es a b<;>rfl
   ·have:BS (Kj M (PO en v i) (QQ en v i)) b=false:=decide_eq_false h1
    rw [if_neg h1,this];rfl
  ·simp only [CG];rw [if_neg (Am _)]
theorem A2K{en:Ac}(ids inp:AU){ns es M:AV}{n D v i a:Nat}(hM:OkM en n M)(hn:n≤8)(hD:D≤4)(hs:BK ns)(hi2:UD ns=true)(hp: ∀c∈ns,c.Pairwise fun a b=>a≤b)(hv:v<en.length)(hi:i<(en.getD v be).length)(hl:(en.getD v be).length=D):
  EB (n:Int) (D:Int) ns es en ids inp M (v:Int) (i:Int) (a:Int)=some (A7u ns n M v i a):=by
 have hrow:=hM.row v hv;unfold EB;rw [XU _ _ (by omega),C8,Cg,BC (by rw [Qy];omega),Cg]
 obtain⟨o',h1,_⟩:=Yk (a:=(a:Int)) (es:=es) (en:=en) (ids:=ids) (inp:=inp) (v:=v) (M:=M) hn hD (by have:=hM.len;omega) rfl (by omega) (fun k hk=>hM.le hn hv (by omega)) hs hi2 (by omega:i<D) D 0 1000000 ((ap D (-1)).set i (a:Int)) rfl (by simp) (by rw [Ad _ _ (by simp;omega),tV]) (by omega)
 rw [Et,WK,bD]at h1;unfold Hy;rw [h1,C8]
 congr 1
 exact A0q _ hp
theorem Sw: ∀a b:Fin 8,BS (2 ^ a.val) b.val=decide (b=a):=by decide+kernel
theorem A2L{en:Ac}{M:AV}{n v i a:Nat}(hM:OkM en n M)(hn:n≤8)(hv:v<en.length)(ha:a<n)(hi:i<(en.getD v be).length):RelM (Qw (M.getD v be) n i a) ((M.getD v be).set i (2 ^ a)):=by
 have hrow:=hM.row v hv;have hpa:(0:Int)<2 ^ a:=cc (by decide)
 have hpb:(2:Int) ^ a≤2 ^ 7:=Uy (by omega)
 have e7:(2:Int) ^ 7=128:=by decide
 have hget: ∀k,k<(M.getD v be).length→((M.getD v be).set i (2 ^ a)).getD k be=if i=k then 2 ^ a else Kj M v k:=fun k hk=>by
  rw [Ad _ _ (by rw [Ij];exact hk),cd]
  unfold Kj;rw [Ad _ _ hk]
 refine⟨by rw [Lc,Ij],fun k hk=> ?_,fun k b hk hb=> ?_⟩
 ·rw [Ij]at hk;rw [hget k hk];split
  ·omega
  ·exact hM.le hn hv (by omega)
 ·rw [Ij]at hk;rw [hget k hk,Ad _ _ (by rw [Lc];exact hk),UY hk]
  by_cases e:i=k
  ·rw [if_pos e,if_pos e];have:=Sw ⟨a,by omega⟩ ⟨b,hb⟩
   simp only at this;rw [this,S9,decide_eq_true_eq,TR,VZ,Fin.mk.injEq];omega
  ·rw [if_neg e,if_neg e,S9,TR,UX];have hm:=hM.rng v k hv (by omega)
   constructor
   ·intro h
    refine⟨b,rfl, ?_,h⟩
    apply Classical.byContradiction
    intro hc;rw [Ru hm (by omega)]at h
    cases h
   ·rintro⟨c,h1,_,h2⟩
    have:b=c:=by omega
    rw [this];exact h2
theorem A7v{n a:Nat}(ha:a<n)(p:Nat→Bool):((ao n).any fun b=>decide (a=b)&&p b)=p a:=by
 rw [S9,Vd]
 constructor
 ·rintro⟨b,_,h⟩
  rw [En,decide_eq_true_eq]at h;rw [h.1];exact h.2
 ·intro h
  exact⟨a,Eo.2 ha,by rw [decide_eq_true rfl,h];rfl⟩
theorem A5g(n:Nat)(p:Nat→Bool):(ao (n+1)).any p=((ao n).any p||p n):=by rw [ZQ,List.any_append];simp
theorem iY{en:Ac}(ids inp:AU){ns es M:AV}{n D v i a:Nat}(hN:NetOk en)(hM:OkM en n M)(hn:n≤8)(hD:D≤4)(hs:BK ns)(he:BK es)(hc: ∀c∈ns,c.length=D∧ ∀a∈c,0≤a∧a<8)(hv:v<en.length)(hi:i<(en.getD v be).length)(ha:a<n)(hh:BS (Kj M v i) a=true):
  Lv (n:Int) (D:Int) ns es en ids inp M (v:Int) (i:Int) (a:Int)=some (E5 en ns es n D M v i a):=by
 obtain⟨f1,f2,f3,f4,_,_⟩:=hN.at hv hi;have hl:=hM.len;have hr:=hM.row _ f3;have hrow:=hM.row v hv
 have hself:UZ en v i=true→PO en v i=v∧QQ en v i=i:=by
  unfold UZ;rw [En,beq_iff_eq,beq_iff_eq]
  intro h;omega
 have hm:=hM.le hn f3 f4
 have loop:I5 (n:Int) (D:Int) ns es en ids inp M (v:Int) (i:Int) (a:Int) (false,0)=some (rf en es n M v i a):=by
  unfold I5;have key:=CO (fun w=>EI (n:Int) (D:Int) ns es en ids inp M (v:Int) (i:Int) (a:Int) w.1 w.2)
   (fun k=>((ao k).any fun b=>(!UZ en v i||decide (a=b))&&(BS (Kj M (PO en v i) (QQ en v i)) b&&K5 es a b),(k:Int))) n (rf en es n M v i a) ?_ ?_
  ·exact key
  ·intro b hb;have hsi:Kc ((M.getD (PO en v i) be).getD (QQ en v i) be) (b:Int)=some (BS (Kj M (PO en v i) (QQ en v i)) b):=Rt _ b hm (by omega)
   have tail:(ck (0≤((PO en v i:Nat):Int)∧(((PO en v i:Nat):Int)).toNat<M.length)<|ck (0≤((QQ en v i:Nat):Int)∧(((QQ en v i:Nat):Int)).toNat<(M.getD (PO en v i) be).length)<|(Kc ((M.getD (PO en v i) be).getD (QQ en v i) be) (b:Int)).bind fun GX=>if GX=true then ck (BK es)<|(some (bo ((K5 es a b),((b+1:Nat):Int))):Option ((Bool×Int)⊕Bool))else some (bo (false,((b+1:Nat):Int))))=some (bo (BS (Kj M (PO en v i) (QQ en v i)) b&&K5 es a b,((b+1:Nat):Int))):=by
    rw [BC (by omega),BC (by omega),hsi,C8]
    cases BS (Kj M (PO en v i) (QQ en v i)) b with
    |true=>rw [if_pos rfl,BC he];rfl
    |false=>rfl
   dsimp only;rw [A5g];simp only [EI,Cg];rw [if_pos (BX hb),Gf b (by omega)]
   rw [show((BH (en.getD v be) i==(v:Int))&&(Bj (en.getD v be) i==(i:Int)))=UZ en v i from rfl];simp only [f1,f2,Cg]at tail ⊢
   cases hse:UZ en v i with
   |true=>
    rw [if_pos rfl]
    cases hA:(ao b).any fun b=>(!true||decide (a=b))&&(BS (Kj M (PO en v i) (QQ en v i)) b&&K5 es a b)with
    |true=>rw [if_pos rfl];rfl
    |false=>
     rw [if_neg (by decide)]
     by_cases hab:a=b
     ·rw [if_pos (by omega),tail,decide_eq_true hab];rfl
     ·rw [if_neg (by omega),decide_eq_false hab];rfl
   |false=>
    rw [if_neg (by decide)]
    cases hA:(ao b).any fun b=>(!false||decide (a=b))&&(BS (Kj M (PO en v i) (QQ en v i)) b&&K5 es a b)with
    |true=>rw [if_pos rfl];rfl
    |false=>rw [if_neg (by decide),tail];rfl
  ·simp only [EI];rw [if_neg (Am _)]
   congr 2
   unfold rf
   cases hse:UZ en v i with
   |true=>
    obtain⟨q1,q2⟩:=hself hse;rw [if_pos rfl,q1,q2];have:=A7v ha (fun b=>BS (Kj M v i) b&&K5 es a b)
    simp only [hh,SA]at this;simpa using this
   |false=>simp
 unfold Lv E5;simp only [Cg];rw [BC (by omega),BC (by omega),loop,C8]
 cases rf en es n M v i a with
 |false=>rfl
 |true=>
  rw [if_pos rfl,SA];by_cases hd:(en.getD v be).length=D
  ·have hu:bO.wrap (a:Int)=(a:Int):=VV _ (by omega)
   have hsh:bm.wrap (1*2 ^ (min a bm.bits))=2 ^ a:=by
    have:min a bm.bits=a:=by show min a 64=a;omega
    have h1:(2:Int) ^ a≤2 ^ 7:=Uy (by omega)
    have h2:(0:Int)<2 ^ a:=cc (by decide)
    have e7:(2:Int) ^ 7=128:=by decide
    rw [this,Int.one_mul,Ib _ (by omega)]
   simp only [Cg,hu,hsh];unfold Kw;rw [if_pos (by omega),BC (by omega),BC (by have:=hN.deg v hv;omega),C8,BC (by omega),BC (by omega)]
   rw [wW (A2L hM hn hv ha hi) (by rw [Lc];omega) _ _ _ _ hs.1 (fun c hc'=>by rw [Lc];have:=hc c hc';exact⟨by omega,this.2⟩),C8,decide_eq_true hd];rfl
  ·rw [if_neg (by omega),decide_eq_false hd];rfl
theorem A7w(f:AU×Int→Option ((AU×Int)⊕AU))(n:Nat)(g:Nat→Int)
  (h: ∀(a:Nat) (w:AU),a<n→w.length=n→w.getD a be=0→f (w,(a:Int))=some (.inl (w.set a (g a),((a+1:Nat):Int))))
  (e: ∀w:AU,w.length=n→f (w,(n:Int))=some (.inr w)):E9 f (ap n 0,0)=some ((ao n).map g):=by
 have key:=CO f (fun k=>((ao n).map fun x=>if x<k then g x else 0,(k:Int))) n ((ao n).map g) ?_ ?_
 ·have e0:((ao n).map fun x=>if x<0 then g x else 0)=ap n 0:=by
   refine Vb (by simp) fun i h1 h2=> ?_
   simp
  rw [e0,Et]at key;exact key
 ·intro k hk;rw [h k _ hk (by simp) (by rw [Ad _ _ (by simpa using hk)];simp)]
  congr 3
  refine Vb (by simp) fun i h1 h2=> ?_
  rw [cd];simp only [TT,MR];by_cases c:k=i
  ·subst c;rw [if_pos rfl,if_pos (by omega)]
  ·rw [if_neg c];by_cases d:i<k
   ·rw [if_pos d,if_pos (by omega)]
   ·rw [if_neg d,if_neg (by omega)]
 ·rw [e _ (by simp)]
  congr 2
  exact xK fun a ha=>if_pos (Eo.1 ha)
theorem ZK{n:Nat}{g:AU→Nat}: ∀(W1 W2:List (Int→Nat)) (c:AU),W1.length=W2.length→(∀k (h1:k<W1.length) (h2:k<W2.length) (b:Nat),b<n→W1[k] (b:Int)=W2[k] (b:Int))→rZ n g W1 c=rZ n g W2 c
 | [],[],c,_,_=>rfl
 |w1::W1,w2::W2,c,hl,h=>by
  unfold rZ;refine iV fun b hb=> ?_;have h0:w1 (b:Int)=w2 (b:Int):=h 0 (by simp) (by simp) b hb
  rw [h0,ZK W1 W2 _ (by simpa using hl) fun k h1 h2 b hb=>h (k+1) (by simpa using h1) (by simpa using h2) b hb]
 | [],_::_,_,hl,_=>by cases hl
 |_::_,[],_,hl,_=>by cases hl
def wgt(E:Ac)(es:AV)(n:Nat)(m:Nat→Nat→Nat→Bool)(T:Nat→Nat→Nat→Nat)(v:Nat)(i:Int)(a:Nat)(k:Nat):Int→Nat:=
 if(k:Int)=i then fun b=>if b=(a:Int)then 1 else 0
 else fun b=>if m v k b.toNat=true then aS n fun c=>if K5 es b (c:Int)=true then T (PO E v k) (QQ E v k) c else 0 else 0
def wgs(E:Ac)(es:AV)(n:Nat)(m:Nat→Nat→Nat→Bool)(T:Nat→Nat→Nat→Nat)(v:Nat)(i:Int)(a:Nat):List (Int→Nat):=
 (ao (E.getD v be).length).map (wgt E es n m T v i a)
def aT(E:Ac)(ns es:AV)(n D:Nat)(m:Nat→Nat→Nat→Bool):Nat→Nat→Int→Nat→Nat
 |0,_,_,_=>0
 |f+1,v,i,a=>rZ n (if(E.getD v be).length=D then gdC ns else fun _=>1) (wgs E es n m (fun u j c=>if m u j c=true then aT E ns es n D m f u (j:Int) c else 0) v i a) []
def A2M(E:Ac):Nat→Nat→Int→Prop
 |0,_,_=>False
 |f+1,v,i=>v<E.length∧ ∀k,k<(E.getD v be).length→(k:Int)≠i→A2M E f (PO E v k) (QQ E v k:Nat)
theorem Sy(E:Ac)(es:AV)(n:Nat)(m:Nat→Nat→Nat→Bool)(T:Nat→Nat→Nat→Nat)(v:Nat)(i:Int)(a:Nat):(wgs E es n m T v i a).length=(E.getD v be).length:=by simp [wgs]
theorem rq(E:Ac)(es:AV)(n:Nat)(m:Nat→Nat→Nat→Bool)(T:Nat→Nat→Nat→Nat)(v:Nat)(i:Int)(a:Nat){k:Nat}(hk:k<(wgs E es n m T v i a).length):(wgs E es n m T v i a)[k]=wgt E es n m T v i a k:=by simp [wgs]
structure Ctx(en:Ac)(ns es:AV)(n D:Nat):Prop where
 hN:NetOk en
 hn:n≤8
 hD:D≤4
 hs:BK ns
 he:BK es
 hin:UD ns=true
 hie:UD es=true
 hp: ∀c∈ns,c.Pairwise fun a b=>a≤b
 hc: ∀c∈ns,c.length=D∧ ∀a∈c,0≤a∧a<8
theorem Yl(a:Nat)(ha:a≤8):bm.wrap (1*2 ^ (min a bm.bits))=2 ^ a:=by
 have:min a bm.bits=a:=by show min a 64=a;omega
 have h1:=A7t ha;have h2:(0:Int)<2 ^ a:=cc (by decide)
 rw [this,Int.one_mul,Ib _ (by omega)]
theorem zZ: ∀b:Fin 8,∀x:Fin 256,BS (x.val:Int) b.val=true→GA .andNot .i64 (x.val:Int) (2 ^ b.val)=(x.val:Int)-2 ^ b.val:=by decide+kernel
theorem wY(x:Int)(b:Nat)(hb:b<8)(h:0≤x∧x≤255)(hh:BS x b=true):GA .andNot .i64 x (2 ^ b)=x-2 ^ b:=by
 have hx:((x.toNat:Nat):Int)=x:=by omega
 have:=zZ ⟨b,hb⟩ ⟨x.toNat,by omega⟩
 simp only [hx]at this;exact this hh
theorem A5h{m:Int}{a:Nat}(h0:0≤m)(h:BS m a=true):2 ^ a≤m:=by
 apply Classical.byContradiction
 intro hc;rw [Ru ⟨h0,by omega⟩ (Ch a)]at h
 cases h
theorem ru: ∀(l:AU) (i:Nat) (x:Int),i<l.length→(l.set i x).sum=l.sum-l.getD i be+x
 |y::l,0,x,_=>by simp;omega
 |y::l,i+1,x,h=>by
  have ih:=ru l i x (by simpa using h)
  simp only [mY,List.sum_cons,List.getD_cons_succ];omega
def wt(M:AV):Int:=(M.map List.sum).sum
theorem AEr{M:AV}{v i:Nat}{x:Int}(hv:v<M.length)(hi:i<(M.getD v be).length):wt (M.set v ((M.getD v be).set i x))=wt M-Kj M v i+x:=by
 unfold wt;rw [List.map_set,ru _ _ _ (by rw [Qz];exact hv),ru _ _ _ hi]
 have:(M.map List.sum).getD v be=(M.getD v be).sum:=by
  rw [Ad _ _ (by rw [Qz];exact hv),TT,Ad _ _ hv]
 rw [this];unfold Kj;omega
theorem Xh{M:AV}{v i:Nat}{x:Int}(hv:v<M.length)(hi:i<(M.getD v be).length)(w j:Nat)(hj:j<(M.getD w be).length):Kj (M.set v ((M.getD v be).set i x)) w j=if v=w∧i=j then x else Kj M w j:=by
 unfold Kj;by_cases e:v=w
 ·subst e;rw [Ad (M.set v _) v (by rw [Ij];exact hv),tV,Ad _ _ (by rw [Ij];exact hj),cd,Ad _ j hj]
  by_cases e2:i=j
  ·rw [if_pos e2,if_pos ⟨rfl,e2⟩]
  ·rw [if_neg e2,if_neg (fun h=>e2 h.2)]
 ·rw [if_neg (fun h=>e h.1)]
  have:(M.set v ((M.getD v be).set i x)).getD w be=M.getD w be:=by
   rw [Lh,A10 e,←Lh]
  rw [this]
theorem A0r{M:AV}{v i:Nat}{x:Int}(w:Nat):((M.set v ((M.getD v be).set i x)).getD w be).length=(M.getD w be).length:=by
 by_cases e:v=w
 ·subst e;by_cases hv:v<M.length
  ·rw [Ad (M.set v _) v (by rw [Ij];exact hv),tV,Ij]
  ·rw [List.set_eq_of_length_le (by omega)]
 ·rw [Lh,A10 e,←Lh]
theorem OkM.set{en:Ac}{n:Nat}{M:AV}(h:OkM en n M){v i:Nat}{x:Int}(hv:v<en.length)(hi:i<(en.getD v be).length)(hx:0≤x∧x<2 ^ n):OkM en n (M.set v ((M.getD v be).set i x)):=by
 refine⟨by rw [Ij];exact h.len,fun w hw=>by rw [A0r];exact h.row w hw,fun w j hw hj=> ?_⟩
 have:=h.len
 rw [Xh (by omega) (by rw [h.row v hv];exact hi) w j (by rw [h.row w hw];exact hj)]
 split
 ·exact hx
 ·exact h.rng w j hw hj
theorem WE: ∀(l:AU),(∀x∈l,0≤x)→0≤l.sum
 | [],_=>by simp
 |y::l,h=>by
  have:=WE l fun x hx=>h x (QL _ hx)
  have:=h y Ia
  rw [List.sum_cons];omega
theorem OkM.nonneg{en:Ac}{n:Nat}{M:AV}(h:OkM en n M):0≤wt M:=by
 refine WE _ fun x hx=> ?_;obtain⟨row,hr,rfl⟩:=MO.1 hx;refine WE _ fun y hy=> ?_;obtain⟨v,hv,rfl⟩:=V6 hr;obtain⟨i,hi,rfl⟩:=V6 hy;have hl:=h.len;have hrow:=h.row v (by omega)
 rw [Ad _ _ hv]at hrow;have:=(h.rng v i (by omega) (by omega)).1
 unfold Kj at this;rw [Ad _ _ hv,Ad _ _ hi]at this;exact this
def stA(sup:AV→Nat→Nat→Nat→Bool)(v i:Nat)(q:Bool×AV)(a:Nat):Bool×AV:=
 if(BS (Kj q.2 v i) a&& !sup q.2 v i a)=true then(true,q.2.set v ((q.2.getD v be).set i (Kj q.2 v i-2 ^ a)))else q
def xG(sup:AV→Nat→Nat→Nat→Bool)(n v:Nat)(q:Bool×AV)(i:Nat):Bool×AV:=(ao n).foldl (stA sup v i) q
def stV(sup:AV→Nat→Nat→Nat→Bool)(n:Nat)(en:Ac)(q:Bool×AV)(v:Nat):Bool×AV:=(ao (en.getD v be).length).foldl (xG sup n v) q
def Ki(sup:AV→Nat→Nat→Nat→Bool)(n:Nat)(en:Ac)(q:Bool×AV):Bool×AV:=(ao en.length).foldl (stV sup n en) q
def aU(sup:AV→Nat→Nat→Nat→Bool)(n:Nat)(en:Ac):Nat→AV→AV
 |0,M=>M
 |k+1,M=>if(Ki sup n en (false,M)).1=true then aU sup n en k (Ki sup n en (false,M)).2 else(Ki sup n en (false,M)).2
def DnM(en:Ac)(n:Nat)(q q':Bool×AV):Prop:=OkM en n q'.2∧(q'=q∨q'.1=true∧wt q'.2<wt q.2)
theorem Xi{en:Ac}{n:Nat}(g:Bool×AV→Nat→Bool×AV): ∀(l:List Nat),(∀q,OkM en n q.2→ ∀x∈l,DnM en n q (g q x))→ ∀q,OkM en n q.2→DnM en n q (l.foldl g q)
 | [],_,q,hq=>⟨hq,.inl rfl⟩
 |x::l,h,q,hq=>by
  obtain⟨h1,h2⟩:=h q hq x Ia;obtain⟨h3,h4⟩:=Xi g l (fun q hq y hy=>h q hq y (QL _ hy)) (g q x) h1;rw [Ve]
  refine⟨h3, ?_⟩
  rcases h2 with e|⟨e1,e2⟩
  ·rw [e]at h4 ⊢;exact h4
  ·rcases h4 with e|⟨e3,e4⟩
   ·right;rw [e];exact⟨e1,e2⟩
   ·right;exact⟨e3,by omega⟩
theorem iZ{en:Ac}{n:Nat}(sup:AV→Nat→Nat→Nat→Bool){v i:Nat}(hv:v<en.length)(hi:i<(en.getD v be).length)(q:Bool×AV)(hq:OkM en n q.2)(a:Nat):DnM en n q (stA sup v i q a):=by
 unfold stA;split
 ·rename_i h
  rw [En]at h;have hr:=hq.rng v i hv hi;have hg:=A5h hr.1 h.1;have hp:(0:Int)<2 ^ a:=cc (by decide)
  have hl:=hq.len
  refine⟨hq.set hv hi (by omega),.inr ⟨rfl, ?_⟩⟩
  dsimp only;rw [AEr (by omega) (by rw [hq.row v hv];exact hi)]
  omega
 ·exact⟨hq,.inl rfl⟩
theorem ry{en:Ac}{n:Nat}(sup:AV→Nat→Nat→Nat→Bool){v i:Nat}(hv:v<en.length)(hi:i<(en.getD v be).length)(q:Bool×AV)(hq:OkM en n q.2):DnM en n q (xG sup n v q i):=
 Xi _ _ (fun q hq a _=>iZ sup hv hi q hq a) q hq
theorem rz{en:Ac}{n:Nat}(sup:AV→Nat→Nat→Nat→Bool){v:Nat}(hv:v<en.length)(q:Bool×AV)(hq:OkM en n q.2):DnM en n q (stV sup n en q v):=
 Xi _ _ (fun q hq i hi=>ry sup hv (Eo.1 hi) q hq) q hq
theorem sD{en:Ac}{n:Nat}(sup:AV→Nat→Nat→Nat→Bool)(q:Bool×AV)(hq:OkM en n q.2):DnM en n q (Ki sup n en q):=
 Xi _ _ (fun q hq v hv=>rz sup (Eo.1 hv) q hq) q hq
section
variable {en:Ac} {ns es:AV} {n D:Nat} (C:Ctx en ns es n D) (ids inp:AU)
include C
theorem A7x(T7 T100:AV){v i:Nat}(hv:v<en.length)(hi:i<(en.getD v be).length)(q:Bool×AV)(hq:OkM en n q.2):
  Iz (n:Int) (D:Int) ns es en ids inp T7 (v:Int) T100 (i:Int) (q.1,0,q.2)=some (xG (E5 en ns es n D) n v q i):=by
 have hn:=C.hn;have key:=JG (fun w=>DK (n:Int) (D:Int) ns es en ids inp T7 (v:Int) T100 (i:Int) w.1 w.2.1 w.2.2) (fun k q=>(q.1,(k:Int),q.2)) (fun _ q=>OkM en n q.2) (ao n) (stA (E5 en ns es n D) v i) (fun q=>q) ?_ ?_ q hq
 ·exact key.1
 ·intro a q ha hq;rw [MS]at ha
  refine⟨?_,(iZ _ hv hi q hq _).1⟩
  rw [MR];have hl:=hq.len;have hrow:=hq.row v hv;have hm:=hq.le hn hv hi;have hm':0≤(q.2.getD v be).getD i be∧(q.2.getD v be).getD i be≤255:=hm;simp only [DK,Cg];rw [if_pos (BX ha),BC (by omega),BC (by omega),BC (by omega),iX _ a hm' (by omega),Gf a (by omega)]
  unfold stA;by_cases hb:(q.2.getD v be).getD i be / 2 ^ a % 2=1
  ·have hh:BS (Kj q.2 v i) a=true:=decide_eq_true hb;rw [if_neg (by omega),A2J ids inp C.hN hq hn C.he C.hie hv hi,C8,hh,SA]
   rw [Yl a (by omega),show GA .andNot .i64 ((q.2.getD v be).getD i be) (2 ^ a)=Kj q.2 v i-2 ^ a from wY _ a (by omega) hm hh]
   unfold E5
   cases rf en es n q.2 v i a with
   |false=>rw [if_neg (by decide)];rfl
   |true=>
    rw [if_pos rfl,SA];by_cases hd:(en.getD v be).length=D
    ·rw [if_pos (by omega),A2K ids inp hq hn C.hD C.hs C.hin C.hp hv hi hd,C8,decide_eq_true hd]
     cases A7u ns n q.2 v i a<;>rfl
    ·rw [if_neg (by omega),decide_eq_false hd];rfl
  ·have hh:BS (Kj q.2 v i) a=false:=decide_eq_false hb;rw [if_pos (by omega),hh];rfl
 ·intro q _;simp only [DK,MS];rw [if_neg (Am _)]
theorem A7y(T7 T100:AV){v:Nat}(hv:v<en.length)(hT:(T100.getD v be).length=(en.getD v be).length)(q:Bool×AV)(hq:OkM en n q.2):
  J2 (n:Int) (D:Int) ns es en ids inp T7 (v:Int) T100 (q.1,0,q.2)=some (stV (E5 en ns es n D) n en q v):=by
 have hg:=C.hN.deg v hv;have key:=JG (fun w=>DL (n:Int) (D:Int) ns es en ids inp T7 (v:Int) T100 w.1 w.2.1 w.2.2) (fun k q=>(q.1,(k:Int),q.2)) (fun _ q=>OkM en n q.2) (ao (en.getD v be).length) (xG (E5 en ns es n D) n v) (fun q=>q) ?_ ?_ q hq
 ·exact key.1
 ·intro i q hi hq;rw [MS]at hi
  refine⟨?_, ?_⟩
  ·rw [MR];simp only [DL,Cg];rw [if_pos (by omega),A7x C ids inp T7 T100 hv hi q hq,C8,Gf i (by omega)]
  ·rw [MR]
   exact(ry _ hv hi q hq).1
 ·intro q _;simp only [DL,MS,Cg];rw [if_neg (by omega)]
theorem A7z(T7:AV)(hT:T7.length=en.length)(q:Bool×AV)(hq:OkM en n q.2):
  J3 (n:Int) (D:Int) ns es en ids inp T7 (q.1,0,q.2)=some (Ki (E5 en ns es n D) n en q):=by
 have hg:=C.hN.big;have key:=JG (fun w=>DN (n:Int) (D:Int) ns es en ids inp T7 w.1 w.2.1 w.2.2) (fun k q=>(q.1,(k:Int),q.2)) (fun _ q=>OkM en n q.2) (ao en.length) (stV (E5 en ns es n D) n en) (fun q=>q) ?_ ?_ q hq
 ·exact key.1
 ·intro v q hv hq;rw [MS]at hv
  refine⟨?_, ?_⟩
  ·rw [MR];have hl:=hq.len;simp only [DN,Cg];rw [if_pos (by omega),BC (by omega),A7y C ids inp T7 q.2 hv (hq.row v hv) q hq,C8,Gf v (by omega)]
  ·rw [MR]
   exact(rz _ hv q hq).1
 ·intro q _;simp only [DN,MS];rw [if_neg (by omega)]
theorem ib: ∀(k:Nat) (M:AV),OkM en n M→wt M<k→I1 ((n:Int),(D:Int),ns,es,en,ids,inp,M)=some ((n:Int),(D:Int),ns,es,en,ids,inp,aU (E5 en ns es n D) n en k M)∧OkM en n (aU (E5 en ns es n D) n en k M)
 |0,M,hM,hk=>by have:=hM.nonneg;omega
 |k+1,M,hM,hk=>by
  obtain⟨h1,h2⟩:=sD (n:=n) (E5 en ns es n D) (false,M) hM
  have hsh:JM (n:Int) (D:Int) ns es en ids inp M=some ((Ki (E5 en ns es n D) n en (false,M)).1,(n:Int),(D:Int),ns,es,en,ids,inp,(Ki (E5 en ns es n D) n en (false,M)).2):=by
   unfold JM;have:=A7z C ids inp M hM.len (false,M) hM
   dsimp only at this;rw [this,C8]
  unfold aU;by_cases hf:(Ki (E5 en ns es n D) n en (false,M)).1=true
  ·rw [if_pos hf]
   have hlt:wt (Ki (E5 en ns es n D) n en (false,M)).2<wt M:=by
    rcases h2 with e|e
    ·rw [e]at hf;cases hf
    ·exact e.2
   obtain⟨g1,g2⟩:=ib k _ h1 (by omega)
   refine⟨?_,g2⟩
   rw [←g1];unfold I1;refine KC ?_;simp only [Hz,hsh,C8];rw [if_pos hf]
  ·rw [if_neg hf]
   refine⟨?_,h1⟩
   unfold I1;refine D5 ?_;simp only [Hz,hsh,C8];rw [if_neg hf]
theorem A80(T7 T71:AV){v i:Nat}(hv:v<en.length)(hi:i<(en.getD v be).length)(q:Bool×AV)(hq:OkM en n q.2):
  P6 (n:Int) (D:Int) ns es en ids inp T7 T71 (v:Int) (i:Int) (q.2,q.1,0)=some ((xG (E5 en ns es n D) n v q i).2,(xG (E5 en ns es n D) n v q i).1):=by
 have hn:=C.hn;have key:=JG (fun w=>I6 (n:Int) (D:Int) ns es en ids inp T7 T71 (v:Int) (i:Int) w.1 w.2.1 w.2.2) (fun k q=>(q.2,q.1,(k:Int))) (fun _ q=>OkM en n q.2) (ao n) (stA (E5 en ns es n D) v i) (fun q=>(q.2,q.1)) ?_ ?_ q hq
 ·exact key.1
 ·intro a q ha hq;rw [MS]at ha
  refine⟨?_,(iZ _ hv hi q hq _).1⟩
  rw [MR];have hl:=hq.len;have hrow:=hq.row v hv;have hm:=hq.le hn hv hi;have hsi:Kc ((q.2.getD v be).getD i be) (a:Int)=some (BS (Kj q.2 v i) a):=Rt _ a hm (by omega)
  have hu:bO.wrap (a:Int)=(a:Int):=VV _ (by omega)
  simp only [I6,Cg,hu];rw [if_pos (BX ha),BC (by omega),BC (by omega),hsi,C8,Gf a (by omega)]
  unfold stA
  cases hh:BS (Kj q.2 v i) a with
  |true=>
   rw [if_pos rfl,iY ids inp C.hN hq hn C.hD C.hs C.he C.hc hv hi ha hh,C8,SA]
   cases E5 en ns es n D q.2 v i a with
   |true=>rw [if_pos rfl];rfl
   |false=>
    have hge:=A5h hm.1 hh;have hp:(0:Int)<2 ^ a:=cc (by decide)
    rw [if_neg (by decide),BC (by omega),Yl a (by omega),Ib _ (by unfold Kj at hm hge;omega)];rfl
  |false=>rfl
 ·intro q _;simp only [I6,MS];rw [if_neg (Am _)]
theorem A81(T7 T71:AV){v:Nat}(hv:v<en.length)(hT:(T71.getD v be).length=(en.getD v be).length)(q:Bool×AV)(hq:OkM en n q.2):
  P7 (n:Int) (D:Int) ns es en ids inp T7 T71 (v:Int) (q.2,q.1,0)=some ((stV (E5 en ns es n D) n en q v).2,(stV (E5 en ns es n D) n en q v).1):=by
 have hg:=C.hN.deg v hv;have key:=JG (fun w=>I7 (n:Int) (D:Int) ns es en ids inp T7 T71 (v:Int) w.1 w.2.1 w.2.2) (fun k q=>(q.2,q.1,(k:Int))) (fun _ q=>OkM en n q.2) (ao (en.getD v be).length) (xG (E5 en ns es n D) n v) (fun q=>(q.2,q.1)) ?_ ?_ q hq
 ·exact key.1
 ·intro i q hi hq;rw [MS]at hi
  refine⟨?_, ?_⟩
  ·rw [MR];simp only [I7,Cg];rw [if_pos (by omega),A80 C ids inp T7 T71 hv hi q hq,C8,Gf i (by omega)]
  ·rw [MR]
   exact(ry _ hv hi q hq).1
 ·intro q _;simp only [I7,MS,Cg];rw [if_neg (by omega)]
theorem A82(T7:AV)(hT:T7.length=en.length)(q:Bool×AV)(hq:OkM en n q.2):
  P8 (n:Int) (D:Int) ns es en ids inp T7 (q.2,q.1,0)=some ((Ki (E5 en ns es n D) n en q).2,(Ki (E5 en ns es n D) n en q).1):=by
 have hg:=C.hN.big;have key:=JG (fun w=>I8 (n:Int) (D:Int) ns es en ids inp T7 w.1 w.2.1 w.2.2) (fun k q=>(q.2,q.1,(k:Int))) (fun _ q=>OkM en n q.2) (ao en.length) (stV (E5 en ns es n D) n en) (fun q=>(q.2,q.1)) ?_ ?_ q hq
 ·exact key.1
 ·intro v q hv hq;rw [MS]at hv
  refine⟨?_, ?_⟩
  ·rw [MR];have hl:=hq.len;simp only [I8,Cg];rw [if_pos (by omega),BC (by omega),A81 C ids inp T7 q.2 hv (hq.row v hv) q hq,C8,Gf v (by omega)]
  ·rw [MR]
   exact(rz _ hv q hq).1
 ·intro q _;simp only [I8,MS];rw [if_neg (by omega)]
theorem wZ: ∀(k:Nat) (M:AV),OkM en n M→wt M<k→GY (n:Int) (D:Int) ns es en ids inp (M,true)=some (aU (E5 en ns es n D) n en k M)
 |0,M,hM,hk=>by have:=hM.nonneg;omega
 |k+1,M,hM,hk=>by
  obtain⟨h1,h2⟩:=sD (n:=n) (E5 en ns es n D) (false,M) hM
  have hst:I9 (n:Int) (D:Int) ns es en ids inp M true=some (.inl ((Ki (E5 en ns es n D) n en (false,M)).2,(Ki (E5 en ns es n D) n en (false,M)).1)):=by
   have:=A82 C ids inp M hM.len (false,M) hM
   dsimp only at this;simp only [I9,if_true,this,C8]
  have h3:GY (n:Int) (D:Int) ns es en ids inp (M,true)=GY (n:Int) (D:Int) ns es en ids inp ((Ki (E5 en ns es n D) n en (false,M)).2,(Ki (E5 en ns es n D) n en (false,M)).1):=by
   unfold GY;exact KC hst
  rw [h3];unfold aU;by_cases hf:(Ki (E5 en ns es n D) n en (false,M)).1=true
  ·have hlt:wt (Ki (E5 en ns es n D) n en (false,M)).2<wt M:=by
    rcases h2 with e|e
    ·rw [e]at hf;cases hf
    ·exact e.2
   rw [if_pos hf,hf];exact wZ k _ h1 (by omega)
  ·rw [if_neg hf,Es.2 hf];unfold GY;refine D5 ?_;simp only [I9];rw [if_neg (by decide)]
end
end Go.Proofs.YtiehjihckndgkaaGreat
end
