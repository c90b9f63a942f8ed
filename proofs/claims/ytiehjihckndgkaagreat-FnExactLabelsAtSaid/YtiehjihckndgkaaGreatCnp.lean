/- Functions of the program as plain functions, and what they compute. Conditions: those in each lemma. -/
import Derived.Test.YtiehjihckndgkaaGreatL6
import Derived.Test.YtiehjihckndgkaaGreatDstA
import Derived.Test.YtiehjihckndgkaaGreatNet
import Derived.Test.YtiehjihckndgkaaGreatDt
open Dv.D renaming int → bc,sl → bk,own → br,box → b7,agg → bw,bool → bp
open Nat renaming reduceEqDiff → bj,reduceLT → bh,reduceLeDiff → b5,reduceAdd → bx,reduceBEq → b9
open Inhabited renaming default → be
open Go.IntKind renaming i64 → bm
open Sum renaming inl → bo,inr → bl
open Go.ResultVar renaming tmp → bt
open List renaming replicate → ap
noncomputable section
namespace Go.Proofs.YtiehjihckndgkaaGreat
open Go Dv
set_option linter.unusedSimpArgs false
set_option linter.unusedVariables false
set_option maxRecDepth 100000
set_option maxHeartbeats 4000000
def DR(A8:Ad)(Ah:Int)(out1:List (Int×Int×Int×Int))(Ko:Int):Option (((List (Int×Int×Int×Int))×Int)⊕((List (Int×Int×Int×Int)))):= if Ko<((A8.getD Ah.toNat be).length:Int)then ck (0≤Ko∧Ko.toNat<(A8.getD Ah.toNat be).length)<| if Ah<(BJ (A8.getD Ah.toNat be) Ko.toNat)then ck (out1.length*4+4<1099511627776)<| some (bo ((out1++[(Ah,Ko,(BJ (A8.getD Ah.toNat be) Ko.toNat),(Bu (A8.getD Ah.toNat be) Ko.toNat))]),bm.wrap (Ko+1))) else if Ah=(BJ (A8.getD Ah.toNat be) Ko.toNat)then if Ko≤(Bu (A8.getD Ah.toNat be) Ko.toNat)then ck (out1.length*4+4<1099511627776)<| some (bo ((out1++[(Ah,Ko,(BJ (A8.getD Ah.toNat be) Ko.toNat),(Bu (A8.getD Ah.toNat be) Ko.toNat))]),bm.wrap (Ko+1))) else some (bo (out1,bm.wrap (Ko+1))) else some (bo (out1,bm.wrap (Ko+1))) else some (bl out1)
def FT(A8:Ad)(Ah:Int)(v:(List (Int×Int×Int×Int))×Int):Option ((List (Int×Int×Int×Int))):=Dq (fun v=>DR A8 Ah v.1 v.2) v
def DT(A8:Ad)(out:List (Int×Int×Int×Int))(Ah:Int):Option (((List (Int×Int×Int×Int))×Int)⊕((List (Int×Int×Int×Int)))):= if Ah<(A8.length:Int)then ck (0≤Ah∧Ah.toNat<A8.length)<| (FT A8 Ah (out,0)).bind fun AU=> some (bo (AU,bm.wrap (Ah+1))) else some (bl out)
def Im(A8:Ad)(v:(List (Int×Int×Int×Int))×Int):Option ((List (Int×Int×Int×Int))):=Dq (fun v=>DT A8 v.1 v.2) v
def J5(A8:Ad)(AR A9:AO):Option ((List (Int×Int×Int×Int))):= (Im A8 ([],0)).bind fun Au=> some Au
def rJ:SC:= .seq (.ops [oB 19 .lss 3 (tK 18) (tK 17) 3 0]) (.seq (.cond (tK 19) .skip (.exit 2)) (.seq (.block 3 (.seq (.ops [oM 20 18 3,oI 21 79 16 18,oL 22 87 21 87,oX 7 (.alloc 87) 0,oA 6 20 3,oS 87 7 22]) (.seq (.ops [oM 23 4 3,oF 24 87 7 0,oL 25 3 24 3,oB 26 .lss 3 (tK 23) (tK 25) 3 4,oM 27 26 4,⟨some 28,.move (tK 4),3,(some (some 27,false))⟩,⟨some 29,.fieldAddr 87 (tK 7) 0,0,(some (some 27,false))⟩,⟨some 30,.load 3 (tK 29),3,(some (some 27,false))⟩,⟨some 31,.binOp .eql 3 (tK 28) (tK 30) 3,4,(some (some 27,false))⟩,⟨some 32,.move (tK 31),4,(some (some 27,false))⟩,⟨some 33,.move (tK 6),3,(some (some 32,true))⟩,⟨some 34,.fieldAddr 87 (tK 7) 1,0,(some (some 32,true))⟩,⟨some 35,.load 3 (tK 34),3,(some (some 32,true))⟩,⟨some 36,.binOp .leq 3 (tK 33) (tK 35) 3,4,(some (some 32,true))⟩,⟨some 37,.pick (tK 32) (tK 36) LK,4,(some (some 27,false))⟩,oX 38 (.pick (tK 27) Cy (tK 37)) 4]) (.cond (tK 38) (.ops [oM 39 3 97,oM 40 4 3,oM 41 6 3,oF 42 87 7 0,oL 43 3 42 3,oF 44 87 7 1,oL 45 3 44 3,oX 46 (.build 101 #[(0,(tK 40)),(1,(tK 41)),(2,(tK 43)),(3,(tK 45))]) 101,oX 47 (.buildSlice 97 1 #[(0,(tK 46))]) 97,oX 48 (.call ⟨(.builtin .append), #[(tK 39),(tK 47)], #[97,97]⟩) 97,
 oA 3 48 97]) .skip)))) (.ops [oB 49 .add 3 (tK 18) (iK 1) 3 3,oM 18 49 3])))
def A5Z:SC:= .loop rJ
def rM:SC:= .seq (.ops [oB 12 .lss 3 (tK 11) (tK 10) 3 0]) (.seq (.cond (tK 12) .skip (.exit 0)) (.seq (.block 1 (.seq (.ops [oM 13 11 3,oI 14 36 9 11,oL 15 79 14 79,oA 4 13 3,oA 5 15 79]) (.seq (.ops [oM 16 5 79,oN 17 16 79,oX 18 (.move (iK 0)) 3]) (.block 2 A5Z)))) (.ops [oB 50 .add 3 (tK 11) (iK 1) 3 3,oM 11 50 3])))
def A5a:SC:= .loop rM
def k78:SC:= .seq (.ops [oX 1 (.box 38 (tK 0)) 0,oX 2 Gv 97]) (.seq (.ops [oX 3 Gv 97]) (.seq (.seq (.ops [oF 8 38 1 0,oL 9 36 8 36,oN 10 9 36,oX 11 (.move (iK 0)) 3]) (.block 0 A5a)) (.seq (.ops [oM 51 3 97,oA 2 51 97]) .ret)))
theorem AEp:Tryz.f78.body.map (BP lends)=some k78:=by kernel_rfl
theorem ASs:BR Tryz.f78 1=true:=by kernel_rfl
theorem c78{a l:List D}{r:D×List D}(h:BS Y.env k78 (fin Aj l.length [bt 2] r) (entry a l))(ha:a.length=1):Y.call 78 a l=some r:=
 AY (Y:=Y) rfl Tryz.func78 (ha▸ASs) AEp h
def C8(A8:Ad)(Ah:Int)(out1:List (Int×Int×Int×Int))(Ko:Int)(s:St):Prop:=s.v 3=br 101 (Oa out1)∧s.v 4=bc .i64 Ah∧s.v 9=bk 79 (AQ (fun x=>bk 87 (Ak .i64 .i64 x)) A8)∧s.v 10=bc .i64 (A8.length:Int)∧s.v 11=bc .i64 Ah∧s.v 16=bk 87 (Ak .i64 .i64 (A8.getD Ah.toNat be))∧s.v 17=bc .i64 ((A8.getD Ah.toNat be).length:Int)∧s.v 18=bc .i64 Ko
def GZ(A8:Ad)(Ah:Int)(r:(List (Int×Int×Int×Int)))(ex:Ex)(s:St):Prop:=ex= .exit 2∧s.v 3=br 101 (Oa r)∧s.v 9=bk 79 (AQ (fun x=>bk 87 (Ak .i64 .i64 x)) A8)∧s.v 10=bc .i64 (A8.length:Int)∧s.v 11=bc .i64 Ah
theorem TS(A8:Ad)(Ah:Int){v:(List (Int×Int×Int×Int))×Int}{s:St}{r:(List (Int×Int×Int×Int))}(h:FT A8 Ah v=some r)(hM:C8 A8 Ah v.1 v.2 s):BS Y.env A5Z (GZ A8 Ah r) s:=by
 unfold FT at h;refine Aw (c:=rJ) (fun v=>DR A8 Ah v.1 v.2) (fun v s=>C8 A8 Ah v.1 v.2 s) (GZ A8 Ah) ?_ h hM;clear h hM s v r;intro v s o hM h;obtain⟨out1,Ko⟩:=v;dsimp only at h hM;unfold DR at h;unfold C8 at hM;obtain⟨m0,m1,m2,m3,m4,m5,m6,m7⟩:=hM;unfold rJ;rcases iS h with⟨e3,h⟩|⟨e3,h⟩
 ·obtain⟨e4,h⟩:=Cu h;rcases iS h with⟨e5,h⟩|⟨e5,h⟩
  ·obtain⟨e6,h⟩:=Cu h;cases h;simp only [↓AJ,AL,↓reduceIte,bj,bh,b5,m0,m1,m2,m3,m4,m5,m6,m7,e3,e4.1,e4.2,e5,e6,C8,Cx]
  ·rcases iS h with⟨e6,h⟩|⟨e6,h⟩
   ·rcases iS h with⟨e7,h⟩|⟨e7,h⟩
    ·obtain⟨e8,h⟩:=Cu h;cases h;simp only [↓AJ,AL,↓reduceIte,bj,bh,b5,m0,m1,m2,m3,m4,m5,m6,m7,e3,e4.1,e4.2,e5,decide_eq_true e6,e7,e8,C8,Cx]
    ·cases h;simp only [↓AJ,AL,↓reduceIte,bj,bh,m0,m1,m2,m3,m4,m5,m6,m7,e3,e4.1,e4.2,e5,decide_eq_true e6,e7,C8,Cx]
   ·cases h;simp only [↓AJ,AL,↓reduceIte,bj,bh,m0,m1,m2,m3,m4,m5,m6,m7,e3,e4.1,e4.2,e5,e6,C8,Cx]
 ·cases h;simp only [↓AJ,AL,↓reduceIte,bj,bh,m0,m2,m3,m4,m6,m7,e3,C8,GZ,Gf]
def DU(A8:Ad)(out:List (Int×Int×Int×Int))(Ah:Int)(s:St):Prop:=s.v 3=br 101 (Oa out)∧s.v 9=bk 79 (AQ (fun x=>bk 87 (Ak .i64 .i64 x)) A8)∧s.v 10=bc .i64 (A8.length:Int)∧s.v 11=bc .i64 Ah
def Ga(A8:Ad)(r:(List (Int×Int×Int×Int)))(ex:Ex)(s:St):Prop:=ex= .exit 0∧s.v 3=br 101 (Oa r)
theorem TT(A8:Ad){v:(List (Int×Int×Int×Int))×Int}{s:St}{r:(List (Int×Int×Int×Int))}(h:Im A8 v=some r)(hM:DU A8 v.1 v.2 s):BS Y.env A5a (Ga A8 r) s:=by
 unfold Im at h;refine Aw (c:=rM) (fun v=>DT A8 v.1 v.2) (fun v s=>DU A8 v.1 v.2 s) (Ga A8) ?_ h hM;clear h hM s v r;intro v s o hM h;obtain⟨out,Ah⟩:=v;dsimp only at h hM;unfold DT at h;unfold DU at hM;obtain⟨m0,m1,m2,m3⟩:=hM;unfold rM;rcases iS h with⟨e1,h⟩|⟨e1,h⟩
 ·obtain⟨e2,h⟩:=Cu h;obtain⟨AU,hl4,h⟩:=Ag h;try dsimp only at h
  simp only [↓AJ,AL,↓reduceIte,bj,bh,m1,m2,m3,e1,e2.1,e2.2];refine Al (TS A8 Ah hl4 ?_) ?_
  ·simp only [BK,↓reduceIte,bj,m0,m1,m2,m3,C8]
  ·intro ex4 s4 hX4;unfold GZ at hX4;obtain⟨rfl,n4_0,n4_1,n4_2,n4_3⟩:=hX4;cases h;simp only [↓AJ,AL,↓reduceIte,bj,bh,n4_0,n4_1,n4_2,n4_3,DU,Cx]
 ·cases h;simp only [↓AJ,AL,↓reduceIte,bj,bh,m0,m2,m3,e1,DU,Ga,Gf]
theorem UT(A8:Ad)(AR A9:AO){r:(List (Int×Int×Int×Int))}(h:J5 A8 AR A9=some r):Y.call 78 [bw [bk 79 (AQ (fun x=>bk 87 (Ak .i64 .i64 x)) A8),bk 3 (AQ (bc .i64) AR),bk 3 (AQ (bc .i64) A9)]] []=some (br 101 (Oa r),[]):=by
 refine c78 ?_ rfl;unfold k78;unfold J5 at h;obtain⟨Au,hl2,h⟩:=Ag h;try dsimp only at h
 simp only [↓AJ,AL,↓reduceIte,bj,bh,bx];refine Al (TT A8 hl2 ?_) ?_
 ·simp only [BK,↓reduceIte,bj,DU]<;>(repeat' apply A7)<;>first|rfl|exact⟨_,rfl⟩|exact⟨_,_,rfl⟩|simp [AQ,Ay]
 ·intro ex2 s2 hX2;unfold Ga at hX2;obtain⟨rfl,n2_0⟩:=hX2;cases h;simp only [↓AJ,AL,↓reduceIte,bj,bh,n2_0]
def Ae(s_:List (Int×Int×Int×Int))(f:Int→Int→Int→Int→Option Bool)(GI:Int):Option ((Int)⊕(Int⊕Unit)):= if GI<(s_.length:Int)then ck (0≤GI∧GI.toNat<s_.length)<| (f (q4a s_ GI.toNat) (q4b s_ GI.toNat) (q4c s_ GI.toNat) (q4d s_ GI.toNat)).bind fun YM=> if YM=true then some (bl (bo GI)) else some (bo (bm.wrap (GI+1))) else some (bl (bl ()))
def Ap(s_:List (Int×Int×Int×Int))(f:Int→Int→Int→Int→Option Bool)(v:Int):Option (Int⊕Unit):=Dq (fun v=>Ae s_ f v) v
def Aq(s_:List (Int×Int×Int×Int))(f:Int→Int→Int→Int→Option Bool):Option (Int):=
 (Ap s_ f 0).bind fun AU=>
 match AU with
 | .inl q1000_=>
  some q1000_
 | .inr q1000_=>
  some (-1)
def gZ:SC:= .seq (.ops [oB 9 .lss 3 (tK 8) (tK 7) 3 0]) (.seq (.cond (tK 9) .skip (.exit 0)) (.seq (.block 1 (.seq (.ops [oM 10 8 3,oA 5 10 3]) (.seq (.ops [oM 11 1 102,oM 12 0 97,oM 13 5 3,oI 14 97 12 13,oL 15 101 14 101,oX 16 (.call ⟨(.value (tK 11)), #[(tK 15)], #[101]⟩) 4]) (.cond (tK 16) (.seq (.ops [oM 17 5 3,oA 4 17 3]) .ret) .skip)))) (.ops [oB 18 .add 3 (tK 8) (iK 1) 3 3,oM 8 18 3])))
def A0o:SC:= .loop gZ
def AEq:SC:= .seq (.ops [oX 4 (.assign (iK 0)) 3]) (.seq (.seq (.ops [oM 6 0 97,oN 7 6 97,oX 8 (.move (iK 0)) 3]) (.block 0 A0o)) (.seq (.ops [oX 4 RH 3]) .ret))
theorem A80:Tryz.f111.body.map (BP lends)=some AEq:=by kernel_rfl
theorem AMA:BR Tryz.f111 2=true:=by kernel_rfl
theorem ASt{a l:List D}{r:D×List D}(h:BS Y.env AEq (fin Aj l.length [bt 4] r) (entry a l))(ha:a.length=2):Y.call 111 a l=some r:=
 AY (Y:=Y) rfl Tryz.func111 (ha▸AMA) A80 h
def Aa(s_:List (Int×Int×Int×Int))(f:Int→Int→Int→Int→Option Bool)(f_f:FuncId)(f_c:List D)(GI:Int)(s:St):Prop:=s.v 0=bk 101 (Oa s_)∧s.v 1=D.clo f_f f_c∧s.v 7=bc .i64 (s_.length:Int)∧s.v 8=bc .i64 GI
def Af(s_:List (Int×Int×Int×Int))(f:Int→Int→Int→Int→Option Bool)(f_f:FuncId)(f_c:List D)(r:Int⊕Unit)(ex:Ex)(s:St):Prop:=match r with
 | .inl q=>ex= .ret∧s.v 4=bc .i64 q
 | .inr q=>ex= .exit 0
theorem CK(s_:List (Int×Int×Int×Int))(f:Int→Int→Int→Int→Option Bool)(f_f:FuncId)(f_c:List D)(f_h: ∀(a0_0 a0_1 a0_2 a0_3:Int) (r:Bool),f a0_0 a0_1 a0_2 a0_3=some r→Y.call f_f (bw [bc .i64 a0_0,bc .i64 a0_1,bc .i64 a0_2,bc .i64 a0_3]::f_c) []=some (bp r,[]))(f_l:lends f_f=false){v:Int}{s:St}{r:Int⊕Unit}(h:Ap s_ f v=some r)(hM:Aa s_ f f_f f_c v s):BS Y.env A0o (Af s_ f f_f f_c r) s:=by
 unfold Ap at h;refine Aw (c:=gZ) (fun v=>Ae s_ f v) (fun v s=>Aa s_ f f_f f_c v s) (Af s_ f f_f f_c) ?_ h hM;clear h hM s v r;intro GI s o hM h;unfold Ae at h;unfold Aa at hM;obtain⟨m0,m1,m2,m3⟩:=hM;unfold gZ;rcases iS h with⟨e1,h⟩|⟨e1,h⟩
 ·obtain⟨e2,h⟩:=Cu h;obtain⟨YM,hl3,h⟩:=Ag h;have c3:=f_h _ _ _ _ _ hl3;rcases iS h with⟨e4,h⟩|⟨e4,h⟩
  ·cases h;simp only [↓AJ,AL,↓reduceIte,bj,bh,m0,m1,m2,m3,f_l,e1,e2.1,e2.2,c3,e4,Aa,Af,QC]
  ·have e4f:YM=false:=G8.mpr e4;cases h;simp only [↓AJ,AL,↓reduceIte,bj,bh,m0,m1,m2,m3,f_l,e1,e2.1,e2.2,c3,e4f,Aa,Cx]
 ·cases h;simp only [↓AJ,AL,↓reduceIte,bh,m2,m3,e1,Aa,Af,Gf]
theorem CO(s_:List (Int×Int×Int×Int))(f:Int→Int→Int→Int→Option Bool)(f_f:FuncId)(f_c:List D)(f_h: ∀(a0_0 a0_1 a0_2 a0_3:Int) (r:Bool),f a0_0 a0_1 a0_2 a0_3=some r→Y.call f_f (bw [bc .i64 a0_0,bc .i64 a0_1,bc .i64 a0_2,bc .i64 a0_3]::f_c) []=some (bp r,[]))(f_l:lends f_f=false){r:Int}(h:Aq s_ f=some r):Y.call 111 [bk 101 (Oa s_),D.clo f_f f_c] []=some (bc .i64 r,[]):=by
 refine ASt ?_ rfl;unfold AEq;unfold Aq at h;obtain⟨AU,hl2,h⟩:=Ag h;try dsimp only at h
 simp only [↓AJ,AL,↓reduceIte,bj,bh,Int.reduceNeg];refine Al (CK s_ f f_f f_c f_h f_l hl2 ?_) ?_
 ·simp only [BK,Cg,↓reduceIte,bj,bh,Aa]
 ·intro ex2 s2 hX2;rcases AU with q1000_|q1000_
  ·unfold Af at hX2;dsimp only at hX2 h;obtain⟨rfl,n2_0⟩:=hX2;cases h;simp only [↓AJ,AL,↓reduceIte,n2_0]
  ·unfold Af at hX2;dsimp only at hX2 h
   obtain rfl:=hX2
   cases h;simp only [↓AJ,AL,↓reduceIte,bj,bh,Int.reduceNeg]
def Ai(s_:List (Int×Int×Int×Int))(f:Int→Int→Int→Int→Option Bool):Option (Bool):= (Aq s_ f).bind fun r7_=> some (decide (0≤r7_))
def k79:SC:= .seq (.ops [oX 4 Ba 4]) (.seq (.ops [oM 5 0 97,oM 6 1 102,oC 7 111 [(tK 5),(tK 6)] [97,102] 3,oB 8 .geq 3 (tK 7) (iK 0) 3 4,oA 4 8 4]) .ret)
theorem AEr:Tryz.f79.body.map (BP lends)=some k79:=by kernel_rfl
theorem ASv:BR Tryz.f79 2=true:=by kernel_rfl
theorem c79{a l:List D}{r:D×List D}(h:BS Y.env k79 (fin Aj l.length [bt 4] r) (entry a l))(ha:a.length=2):Y.call 79 a l=some r:=
 AY (Y:=Y) rfl Tryz.func79 (ha▸ASv) AEr h
theorem C9(s_:List (Int×Int×Int×Int))(f:Int→Int→Int→Int→Option Bool)(f_f:FuncId)(f_c:List D)(f_h: ∀(a0_0 a0_1 a0_2 a0_3:Int) (r:Bool),f a0_0 a0_1 a0_2 a0_3=some r→Y.call f_f (bw [bc .i64 a0_0,bc .i64 a0_1,bc .i64 a0_2,bc .i64 a0_3]::f_c) []=some (bp r,[]))(f_l:lends f_f=false){r:Bool}(h:Ai s_ f=some r):Y.call 79 [bk 101 (Oa s_),D.clo f_f f_c] []=some (bp r,[]):=by
 refine c79 ?_ rfl;unfold k79;unfold Ai at h;obtain⟨r7_,hl1,h⟩:=Ag h;try dsimp only at h
 have c1:=CO s_ f f_f f_c f_h f_l hl1;cases h;simp only [↓AJ,AL,↓reduceIte,bj,bh,c1]
def MG(e_v e_i e_w e_j:Int):Option (Bool):= if e_v=e_w then some (decide (e_i=e_j)) else some false
def k80:SC:= .seq (.ops [oX 1 (.box 101 (tK 0)) 0,oX 2 Ba 4]) (.seq (.ops [oF 3 101 1 0,oL 4 3 3 3,oF 5 101 1 2,oL 6 3 5 3,oB 7 .eql 3 (tK 4) (tK 6) 3 4,oM 8 7 4,⟨some 9,.fieldAddr 101 (tK 1) 1,0,(some (some 8,true))⟩,⟨some 10,.load 3 (tK 9),3,(some (some 8,true))⟩,⟨some 11,.fieldAddr 101 (tK 1) 3,0,(some (some 8,true))⟩,⟨some 12,.load 3 (tK 11),3,(some (some 8,true))⟩,⟨some 13,.binOp .eql 3 (tK 10) (tK 12) 3,4,(some (some 8,true))⟩,oX 14 (.pick (tK 8) (tK 13) LK) 4,oA 2 14 4]) .ret)
theorem AEs:Tryz.f80.body.map (BP lends)=some k80:=by kernel_rfl
theorem ASx:BR Tryz.f80 1=true:=by kernel_rfl
theorem c80{a l:List D}{r:D×List D}(h:BS Y.env k80 (fin Aj l.length [bt 2] r) (entry a l))(ha:a.length=1):Y.call 80 a l=some r:=
 AY (Y:=Y) rfl Tryz.func80 (ha▸ASx) AEs h
theorem Ya(e_v e_i e_w e_j:Int){r:Bool}(h:MG e_v e_i e_w e_j=some r):Y.call 80 [bw [bc .i64 e_v,bc .i64 e_i,bc .i64 e_w,bc .i64 e_j]] []=some (bp r,[]):=by
 refine c80 ?_ rfl;unfold k80;unfold MG at h;rcases iS h with⟨e1,h⟩|⟨e1,h⟩
 ·cases h;simp only [↓AJ,AL,↓reduceIte,bj,bh,decide_eq_true e1]
 ·cases h;simp only [↓AJ,AL,↓reduceIte,bj,bh,e1]
def ES(A8:Ad)(AR A9:AO)(Bt:AO)(Bd:Int)(NL:AO)(out1:AO)(aJ:Int):Option ((AO×Int)⊕(AO)):= if aJ<(NL.length:Int)then ck (0≤aJ∧aJ.toNat<NL.length)<| if 0≤(NL.getD aJ.toNat be)then ck (0≤aJ∧aJ.toNat<out1.length)<| some (bo ((out1.set aJ.toNat Bd),bm.wrap (aJ+1))) else some (bo (out1,bm.wrap (aJ+1))) else some (bl out1)
def J6(A8:Ad)(AR A9:AO)(Bt:AO)(Bd:Int)(NL:AO)(v:AO×Int):Option (AO):=Dq (fun v=>ES A8 AR A9 Bt Bd NL v.1 v.2) v
def ET(A8:Ad)(AR A9:AO)(Bt:AO)(out:AO)(Bd:Int):Option ((AO×Int)⊕(AO)):= if Bd<(Bt.length:Int)then ck (0≤Bd∧Bd.toNat<out.length)<| if 0≤(out.getD Bd.toNat be)then some (bo (out,bm.wrap (Bd+1))) else (J4 A8 AR A9 Bd).bind fun NL=> (J6 A8 AR A9 Bt Bd NL (out,0)).bind fun AU=> some (bo (AU,bm.wrap (Bd+1))) else some (bl out)
def Ll(A8:Ad)(AR A9:AO)(Bt:AO)(v:AO×Int):Option (AO):=Dq (fun v=>ET A8 AR A9 Bt v.1 v.2) v
def Mk(A8:Ad)(AR A9:AO):Option (AO):= (gRp [(-1)] (A8.length:Int)).bind fun Bt=> (Ll A8 AR A9 Bt (Bt,0)).bind fun Au=> some Au
def rO:SC:= .seq (.ops [oB 27 .lss 3 (tK 26) (tK 25) 3 0]) (.seq (.cond (tK 27) .skip (.exit 2)) (.seq (.block 3 (.seq (.ops [oM 28 26 3,oI 29 26 24 26,oL 30 3 29 3,oA 5 28 3,oA 6 30 3]) (.seq (.ops [oM 31 6 3,oB 32 .geq 3 (tK 31) (iK 0) 3 4]) (.cond (tK 32) (.ops [oM 33 3 26,oM 34 5 3,oM 35 4 3,oI 36 26 33 34,oS 3 36 35]) .skip)))) (.ops [oB 37 .add 3 (tK 26) (iK 1) 3 3,oM 26 37 3])))
def A5b:SC:= .loop rO
def rP:SC:= .seq (.ops [oB 15 .lss 3 (tK 14) (tK 13) 3 0]) (.seq (.cond (tK 15) .skip (.exit 0)) (.seq (.block 1 (.seq (.ops [oM 16 14 3,oA 4 16 3]) (.seq (.seq (.ops [oM 17 3 26,oM 18 4 3,oI 19 26 17 18,oL 20 3 19 3,oB 21 .geq 3 (tK 20) (iK 0) 3 4]) (.cond (tK 21) (.exit 1) .skip)) (.seq (.ops [oL 22 38 1 38,oM 23 4 3,oC 24 87 [(tK 22),(tK 23)] [38,3] 26,oN 25 24 26,oX 26 (.move (iK 0)) 3]) (.block 2 A5b))))) (.ops [oB 38 .add 3 (tK 14) (iK 1) 3 3,oM 14 38 3])))
def A5c:SC:= .loop rP
def k53:SC:= .seq (.ops [oX 1 (.box 38 (tK 0)) 0,oX 2 Gv 26]) (.seq (.ops [oX 7 (.buildSlice 26 1 #[(0,wL)]) 26,oF 8 38 1 0,oL 9 36 8 36,oN 10 9 36,oC 11 81 [(tK 7),(tK 10)] [26,3] 26,oA 3 11 26]) (.seq (.seq (.ops [oM 12 3 26,oN 13 12 26,oX 14 (.move (iK 0)) 3]) (.block 0 A5c)) (.seq (.ops [oM 39 3 26,oA 2 39 26]) .ret)))
theorem AEt:Tryz.f53.body.map (BP lends)=some k53:=by kernel_rfl
theorem ASz:BR Tryz.f53 1=true:=by kernel_rfl
theorem c53{a l:List D}{r:D×List D}(h:BS Y.env k53 (fin Aj l.length [bt 2] r) (entry a l))(ha:a.length=1):Y.call 53 a l=some r:=
 AY (Y:=Y) rfl Tryz.func53 (ha▸ASz) AEt h
def Dc(A8:Ad)(AR A9:AO)(Bt:AO)(Bd:Int)(NL:AO)(out1:AO)(aJ:Int)(s:St):Prop:=s.v 1=b7 [bk 79 (AQ (fun x=>bk 87 (Ak .i64 .i64 x)) A8),bk 3 (AQ (bc .i64) AR),bk 3 (AQ (bc .i64) A9)]∧s.v 3=br 3 (AQ (bc .i64) out1)∧s.v 4=bc .i64 Bd∧s.v 13=bc .i64 (Bt.length:Int)∧s.v 14=bc .i64 Bd∧s.v 24=br 3 (AQ (bc .i64) NL)∧s.v 25=bc .i64 (NL.length:Int)∧s.v 26=bc .i64 aJ
def Jr(A8:Ad)(AR A9:AO)(Bt:AO)(Bd:Int)(NL:AO)(r:AO)(ex:Ex)(s:St):Prop:=ex= .exit 2∧s.v 1=b7 [bk 79 (AQ (fun x=>bk 87 (Ak .i64 .i64 x)) A8),bk 3 (AQ (bc .i64) AR),bk 3 (AQ (bc .i64) A9)]∧s.v 3=br 3 (AQ (bc .i64) r)∧s.v 13=bc .i64 (Bt.length:Int)∧s.v 14=bc .i64 Bd
theorem Vq(A8:Ad)(AR A9:AO)(Bt:AO)(Bd:Int)(NL:AO){v:AO×Int}{s:St}{r:AO}(h:J6 A8 AR A9 Bt Bd NL v=some r)(hM:Dc A8 AR A9 Bt Bd NL v.1 v.2 s):BS Y.env A5b (Jr A8 AR A9 Bt Bd NL r) s:=by
 unfold J6 at h;refine Aw (c:=rO) (fun v=>ES A8 AR A9 Bt Bd NL v.1 v.2) (fun v s=>Dc A8 AR A9 Bt Bd NL v.1 v.2 s) (Jr A8 AR A9 Bt Bd NL) ?_ h hM;clear h hM s v r;intro v s o hM h;obtain⟨out1,aJ⟩:=v;dsimp only at h hM;unfold ES at h;unfold Dc at hM;obtain⟨m0,m1,m2,m3,m4,m5,m6,m7⟩:=hM;unfold rO;rcases iS h with⟨e6,h⟩|⟨e6,h⟩
 ·obtain⟨e7,h⟩:=Cu h;rcases iS h with⟨e8,h⟩|⟨e8,h⟩
  ·obtain⟨e9,h⟩:=Cu h;cases h;simp only [↓AJ,AL,↓reduceIte,bj,bh,m0,m1,m2,m3,m4,m5,m6,m7,e6,e7.1,e7.2,e8,e9.2,Dc,Cx]
  ·cases h;simp only [↓AJ,AL,↓reduceIte,bj,bh,m0,m1,m2,m3,m4,m5,m6,m7,e6,e7.1,e7.2,e8,Dc,Cx]
 ·cases h;simp only [↓AJ,AL,↓reduceIte,bj,bh,m0,m1,m3,m4,m6,m7,e6,Dc,Jr,Gf]
def De(A8:Ad)(AR A9:AO)(Bt:AO)(out:AO)(Bd:Int)(s:St):Prop:=s.v 1=b7 [bk 79 (AQ (fun x=>bk 87 (Ak .i64 .i64 x)) A8),bk 3 (AQ (bc .i64) AR),bk 3 (AQ (bc .i64) A9)]∧s.v 3=br 3 (AQ (bc .i64) out)∧s.v 13=bc .i64 (Bt.length:Int)∧s.v 14=bc .i64 Bd
def Js(A8:Ad)(AR A9:AO)(Bt:AO)(r:AO)(ex:Ex)(s:St):Prop:=ex= .exit 0∧s.v 3=br 3 (AQ (bc .i64) r)
theorem Vr(A8:Ad)(AR A9:AO)(Bt:AO){v:AO×Int}{s:St}{r:AO}(h:Ll A8 AR A9 Bt v=some r)(hM:De A8 AR A9 Bt v.1 v.2 s):BS Y.env A5c (Js A8 AR A9 Bt r) s:=by
 unfold Ll at h;refine Aw (c:=rP) (fun v=>ET A8 AR A9 Bt v.1 v.2) (fun v s=>De A8 AR A9 Bt v.1 v.2 s) (Js A8 AR A9 Bt) ?_ h hM;clear h hM s v r;intro v s o hM h;obtain⟨out,Bd⟩:=v;dsimp only at h hM;unfold ET at h;unfold De at hM;obtain⟨m0,m1,m2,m3⟩:=hM;unfold rP;rcases iS h with⟨e2,h⟩|⟨e2,h⟩
 ·obtain⟨e3,h⟩:=Cu h;rcases iS h with⟨e4,h⟩|⟨e4,h⟩
  ·cases h;simp only [↓AJ,AL,↓reduceIte,bj,bh,m0,m1,m2,m3,e2,e3.1,e3.2,e4,De,Cx]
  ·obtain⟨NL,hl5,h⟩:=Ag h;have c5:=UQ A8 AR A9 Bd hl5;obtain⟨AU,hl7,h⟩:=Ag h;try dsimp only at h
   simp only [↓AJ,AL,↓reduceIte,bj,bh,m0,m1,m2,m3,e2,e3.1,e3.2,e4,c5];refine Al (Vq A8 AR A9 Bt Bd NL hl7 ?_) ?_
   ·simp only [BK,↓reduceIte,bj,m0,m1,m2,m3,Dc]
   ·intro ex7 s7 hX7;unfold Jr at hX7;obtain⟨rfl,n7_0,n7_1,n7_2,n7_3⟩:=hX7;cases h;simp only [↓AJ,AL,↓reduceIte,bj,bh,n7_0,n7_1,n7_2,n7_3,De,Cx]
 ·cases h;simp only [↓AJ,AL,↓reduceIte,bj,bh,m1,m2,m3,e2,De,Js,Gf]
theorem XW(A8:Ad)(AR A9:AO){r:AO}(h:Mk A8 AR A9=some r):Y.call 53 [bw [bk 79 (AQ (fun x=>bk 87 (Ak .i64 .i64 x)) A8),bk 3 (AQ (bc .i64) AR),bk 3 (AQ (bc .i64) A9)]] []=some (br 3 (AQ (bc .i64) r),[]):=by
 refine c53 ?_ rfl;unfold k53;unfold Mk at h;obtain⟨Bt,hl1,h⟩:=Ag h;try dsimp only at h
 have c1:=XM [(-1)] (A8.length:Int) hl1;simp only [Iw,Ul]at c1;obtain⟨Au,hl3,h⟩:=Ag h;try dsimp only at h
 simp only [↓AJ,AL,↓reduceIte,bj,bh,b5,c1];refine Al (Vr A8 AR A9 Bt hl3 ?_) ?_
 ·simp only [BK,↓reduceIte,bj,De]
 ·intro ex3 s3 hX3;unfold Js at hX3;obtain⟨rfl,n3_0⟩:=hX3;cases h;simp only [↓AJ,AL,↓reduceIte,bj,bh,n3_0]
def Fv(A8:Ad)(AR A9:AO)(Vz:(List (Int×Int×Int×Int)))(FY:AO)(FU Bd:Int):Option ((Int×Int)⊕(Int)):= if Bd<(FY.length:Int)then ck (0≤Bd∧Bd.toNat<FY.length)<| if Bd=(FY.getD Bd.toNat be)then some (bo (bm.wrap (FU+1),bm.wrap (Bd+1))) else some (bo (FU,bm.wrap (Bd+1))) else some (bl FU)
def Lb(A8:Ad)(AR A9:AO)(Vz:(List (Int×Int×Int×Int)))(FY:AO)(v:Int×Int):Option (Int):=Dq (fun v=>Fv A8 AR A9 Vz FY v.1 v.2) v
def Py(A8:Ad)(AR A9:AO):Option (Bool):= (J5 A8 AR A9).bind fun Vz=> (Ai Vz (fun a0_0 a0_1 a0_2 a0_3=>MG a0_0 a0_1 a0_2 a0_3)).bind fun Vj=> if Vj=true then some false else (Mk A8 AR A9).bind fun FY=> (Lb A8 AR A9 Vz FY (0,0)).bind fun AU=> some (decide ((Vz.length:Int)=(bm.wrap ((A8.length:Int)-AU))))
def rQ:SC:= .seq (.ops [oB 15 .lss 3 (tK 14) (tK 13) 3 0]) (.seq (.cond (tK 15) .skip (.exit 0)) (.seq (.block 1 (.seq (.ops [oM 16 14 3,oI 17 26 12 14,oL 18 3 17 3,oA 5 16 3,oA 6 18 3]) (.seq (.ops [oM 19 5 3,oM 20 6 3,oB 21 .eql 3 (tK 19) (tK 20) 3 4]) (.cond (tK 21) (.ops [oM 22 4 3,oB 23 .add 3 (tK 22) (iK 1) 3 3,oA 4 23 3]) .skip)))) (.ops [oB 24 .add 3 (tK 14) (iK 1) 3 3,oM 14 24 3])))
def A5d:SC:= .loop rQ
def k47:SC:= .seq (.ops [oX 1 (.box 38 (tK 0)) 0,oX 2 Ba 4]) (.seq (.ops [oL 7 38 1 38,oC 8 78 [(tK 7)] [38] 97,oA 3 8 97]) (.seq (.seq (.ops [oM 9 3 97,oC 10 79 [(tK 9),(.func 80)] [97,102] 4]) (.cond (tK 10) (.seq (.ops [oX 2 Ba 4]) .ret) .skip)) (.seq (.ops [oX 4 (.assign (iK 0)) 3]) (.seq (.seq (.ops [oL 11 38 1 38,oC 12 53 [(tK 11)] [38] 26,oN 13 12 26,oX 14 (.move (iK 0)) 3]) (.block 0 A5d)) (.seq (.ops [oM 25 3 97,oN 26 25 97,oF 27 38 1 0,oL 28 36 27 36,oN 29 28 36,oM 30 4 3,oB 31 .sub 3 (tK 29) (tK 30) 3 3,oB 32 .eql 3 (tK 26) (tK 31) 3 4,oA 2 32 4]) .ret)))))
theorem AEu:Tryz.f47.body.map (BP lends)=some k47:=by kernel_rfl
theorem AT1:BR Tryz.f47 1=true:=by kernel_rfl
theorem c47{a l:List D}{r:D×List D}(h:BS Y.env k47 (fin Aj l.length [bt 2] r) (entry a l))(ha:a.length=1):Y.call 47 a l=some r:=
 AY (Y:=Y) rfl Tryz.func47 (ha▸AT1) AEu h
def EZ(A8:Ad)(AR A9:AO)(Vz:(List (Int×Int×Int×Int)))(FY:AO)(FU Bd:Int)(s:St):Prop:=s.v 1=b7 [bk 79 (AQ (fun x=>bk 87 (Ak .i64 .i64 x)) A8),bk 3 (AQ (bc .i64) AR),bk 3 (AQ (bc .i64) A9)]∧s.v 3=br 101 (Oa Vz)∧s.v 4=bc .i64 FU∧s.v 12=br 3 (AQ (bc .i64) FY)∧s.v 13=bc .i64 (FY.length:Int)∧s.v 14=bc .i64 Bd
def Lm(A8:Ad)(AR A9:AO)(Vz:(List (Int×Int×Int×Int)))(FY:AO)(r:Int)(ex:Ex)(s:St):Prop:=ex= .exit 0∧s.v 1=b7 [bk 79 (AQ (fun x=>bk 87 (Ak .i64 .i64 x)) A8),bk 3 (AQ (bc .i64) AR),bk 3 (AQ (bc .i64) A9)]∧s.v 3=br 101 (Oa Vz)∧s.v 4=bc .i64 r
theorem Yb(A8:Ad)(AR A9:AO)(Vz:(List (Int×Int×Int×Int)))(FY:AO){v:Int×Int}{s:St}{r:Int}(h:Lb A8 AR A9 Vz FY v=some r)(hM:EZ A8 AR A9 Vz FY v.1 v.2 s):BS Y.env A5d (Lm A8 AR A9 Vz FY r) s:=by
 unfold Lb at h;refine Aw (c:=rQ) (fun v=>Fv A8 AR A9 Vz FY v.1 v.2) (fun v s=>EZ A8 AR A9 Vz FY v.1 v.2 s) (Lm A8 AR A9 Vz FY) ?_ h hM;clear h hM s v r;intro v s o hM h;obtain⟨FU,Bd⟩:=v;dsimp only at h hM;unfold Fv at h;unfold EZ at hM;obtain⟨m0,m1,m2,m3,m4,m5⟩:=hM;unfold rQ;rcases iS h with⟨e5,h⟩|⟨e5,h⟩
 ·obtain⟨e6,h⟩:=Cu h;rcases iS h with⟨e7,h⟩|⟨e7,h⟩
  ·cases h;simp only [↓AJ,AL,↓reduceIte,bj,bh,m0,m1,m2,m3,m4,m5,e5,e6.1,e6.2,decide_eq_true e7,EZ,Cx]
  ·cases h;simp only [↓AJ,AL,↓reduceIte,bj,bh,m0,m1,m2,m3,m4,m5,e5,e6.1,e6.2,e7,EZ,Cx]
 ·cases h;simp only [↓AJ,AL,↓reduceIte,bj,bh,m0,m1,m2,m4,m5,e5,EZ,Lm,Gf]
theorem aK(A8:Ad)(AR A9:AO){r:Bool}(h:Py A8 AR A9=some r):Y.call 47 [bw [bk 79 (AQ (fun x=>bk 87 (Ak .i64 .i64 x)) A8),bk 3 (AQ (bc .i64) AR),bk 3 (AQ (bc .i64) A9)]] []=some (bp r,[]):=by
 refine c47 ?_ rfl;unfold k47;unfold Py at h;obtain⟨Vz,hl1,h⟩:=Ag h;have c1:=UT A8 AR A9 hl1;obtain⟨Vj,hl2,h⟩:=Ag h;have c2:=C9 Vz (fun a0_0 a0_1 a0_2 a0_3=>MG a0_0 a0_1 a0_2 a0_3) 80 [] (fun a0_0 a0_1 a0_2 a0_3 _ hh=>Ya a0_0 a0_1 a0_2 a0_3 hh) ADF hl2;rcases iS h with⟨e3,h⟩|⟨e3,h⟩
 ·cases h;simp only [↓AJ,AL,↓reduceIte,bj,bh,c1,c2,e3]
 ·have e3f:Vj=false:=G8.mpr e3;obtain⟨FY,hl4,h⟩:=Ag h;have c4:=XW A8 AR A9 hl4;obtain⟨AU,hl6,h⟩:=Ag h;try dsimp only at h
  simp only [↓AJ,AL,↓reduceIte,bj,bh,c1,c2,e3f,c4];refine Al (Yb A8 AR A9 Vz FY hl6 ?_) ?_
  ·simp only [BK,↓reduceIte,bj,EZ]
  ·intro ex6 s6 hX6;unfold Lm at hX6;obtain⟨rfl,n6_0,n6_1,n6_2⟩:=hX6;cases h;simp only [↓AJ,AL,↓reduceIte,bj,bh,n6_0,n6_1,n6_2]
def Jb(A8:Ad)(AR A9:AO)(GM Ko:Int):Option ((Int)⊕(Unit⊕Unit)):= if Ko<((A8.getD GM.toNat be).length:Int)then ck (0≤Ko∧Ko.toNat<(A8.getD GM.toNat be).length)<| if(((BJ (A8.getD GM.toNat be) Ko.toNat)==GM)&&((Bu (A8.getD GM.toNat be) Ko.toNat)==Ko))=true then some (bl (bo ())) else some (bo (bm.wrap (Ko+1))) else some (bl (bl ()))
def OJ(A8:Ad)(AR A9:AO)(GM v:Int):Option (Unit⊕Unit):=Dq (fun v=>Jb A8 AR A9 GM v) v
def Jc(A8:Ad)(AR A9:AO)(GM:Int):Option ((Int)⊕(Unit⊕Unit)):=
 if GM<(A8.length:Int)then
  ck (0≤GM∧GM.toNat<A8.length)<|
  (OJ A8 AR A9 GM 0).bind fun AU=>
  match AU with
  | .inl q1000_=>
   some (bl (bo ()))
  | .inr q1000_=>
   some (bo (bm.wrap (GM+1)))
 else
  some (bl (bl ()))
def Qh(A8:Ad)(AR A9:AO)(v:Int):Option (Unit⊕Unit):=Dq (fun v=>Jc A8 AR A9 v) v
def UU(A8:Ad)(AR A9:AO):Option (Bool):=
 (Qh A8 AR A9 0).bind fun Au=>
 match Au with
 | .inl q1001_=>
  some true
 | .inr q1001_=>
  some false
def gm:SC:= .seq (.ops [oB 19 .lss 3 (tK 18) (tK 17) 3 0]) (.seq (.cond (tK 19) .skip (.exit 2)) (.seq (.block 3 (.seq (.ops [oM 20 18 3,oI 21 79 16 18,oL 22 87 21 87,oX 5 (.alloc 87) 0,oA 4 20 3,oS 87 5 22]) (.seq (.ops [oL 23 87 5 87,oM 24 3 3,oM 25 4 3,oX 26 (.build 87 #[(0,(tK 24)),(1,(tK 25))]) 87,oB 27 .eql 87 (tK 23) (tK 26) 87 4]) (.cond (tK 27) (.seq (.ops [oX 2 (.assign Cy) 4]) .ret) .skip)))) (.ops [oB 28 .add 3 (tK 18) (iK 1) 3 3,oM 18 28 3])))
def A0p:SC:= .loop gm
def gp:SC:= .seq (.ops [oB 10 .lss 3 (tK 9) (tK 8) 3 0]) (.seq (.cond (tK 10) .skip (.exit 0)) (.seq (.block 1 (.seq (.ops [oM 11 9 3,oA 3 11 3]) (.seq (.ops [oF 12 38 1 0,oL 13 36 12 36,oM 14 3 3,oI 15 36 13 14,oL 16 79 15 79,oN 17 16 79,oX 18 (.move (iK 0)) 3]) (.block 2 A0p)))) (.ops [oB 29 .add 3 (tK 9) (iK 1) 3 3,oM 9 29 3])))
def A0q:SC:= .loop gp
def AEv:SC:= .seq (.ops [oX 1 (.box 38 (tK 0)) 0,oX 2 Ba 4]) (.seq (.seq (.ops [oF 6 38 1 0,oL 7 36 6 36,oN 8 7 36,oX 9 (.move (iK 0)) 3]) (.block 0 A0q)) (.seq (.ops [oX 2 Ba 4]) .ret))
theorem A81:Tryz.f109.body.map (BP lends)=some AEv:=by kernel_rfl
theorem AMB:BR Tryz.f109 1=true:=by kernel_rfl
theorem AT3{a l:List D}{r:D×List D}(h:BS Y.env AEv (fin Aj l.length [bt 2] r) (entry a l))(ha:a.length=1):Y.call 109 a l=some r:=
 AY (Y:=Y) rfl Tryz.func109 (ha▸AMB) A81 h
def Gq(A8:Ad)(AR A9:AO)(GM Ko:Int)(s:St):Prop:=s.v 1=b7 [bk 79 (AQ (fun x=>bk 87 (Ak .i64 .i64 x)) A8),bk 3 (AQ (bc .i64) AR),bk 3 (AQ (bc .i64) A9)]∧s.v 3=bc .i64 GM∧s.v 8=bc .i64 (A8.length:Int)∧s.v 9=bc .i64 GM∧s.v 16=bk 87 (Ak .i64 .i64 (A8.getD GM.toNat be))∧s.v 17=bc .i64 ((A8.getD GM.toNat be).length:Int)∧s.v 18=bc .i64 Ko
def Jd(A8:Ad)(AR A9:AO)(GM:Int)(r:Unit⊕Unit)(ex:Ex)(s:St):Prop:=match r with
 | .inl q=>ex= .ret∧s.v 2=bp true
 | .inr q=>ex= .exit 2∧s.v 1=b7 [bk 79 (AQ (fun x=>bk 87 (Ak .i64 .i64 x)) A8),bk 3 (AQ (bc .i64) AR),bk 3 (AQ (bc .i64) A9)]∧s.v 8=bc .i64 (A8.length:Int)∧s.v 9=bc .i64 GM
theorem gq(A8:Ad)(AR A9:AO)(GM:Int){v:Int}{s:St}{r:Unit⊕Unit}(h:OJ A8 AR A9 GM v=some r)(hM:Gq A8 AR A9 GM v s):BS Y.env A0p (Jd A8 AR A9 GM r) s:=by
 unfold OJ at h;refine Aw (c:=gm) (fun v=>Jb A8 AR A9 GM v) (fun v s=>Gq A8 AR A9 GM v s) (Jd A8 AR A9 GM) ?_ h hM;clear h hM s v r;intro Ko s o hM h;unfold Jb at h;unfold Gq at hM;obtain⟨m0,m1,m2,m3,m4,m5,m6⟩:=hM;unfold gm;rcases iS h with⟨e3,h⟩|⟨e3,h⟩
 ·obtain⟨e4,h⟩:=Cu h;rcases iS h with⟨e5,h⟩|⟨e5,h⟩
  ·cases h;simp only [↓AJ,AL,↓reduceIte,bj,bh,b5,m1,m4,m5,m6,e3,e4.1,e4.2,e5,Gq,Jd,QC]
  ·have e5f:(((BJ (A8.getD GM.toNat be) Ko.toNat)==GM)&&((Bu (A8.getD GM.toNat be) Ko.toNat)==Ko))=false:=G8.mpr e5;cases h;simp only [↓AJ,AL,↓reduceIte,bj,bh,b5,m0,m1,m2,m3,m4,m5,m6,e3,e4.1,e4.2,e5f,Gq,Cx]
 ·cases h;simp only [↓AJ,AL,↓reduceIte,bj,bh,m0,m2,m3,m5,m6,e3,Gq,Jd,Gf]
def Gr(A8:Ad)(AR A9:AO)(GM:Int)(s:St):Prop:=s.v 1=b7 [bk 79 (AQ (fun x=>bk 87 (Ak .i64 .i64 x)) A8),bk 3 (AQ (bc .i64) AR),bk 3 (AQ (bc .i64) A9)]∧s.v 8=bc .i64 (A8.length:Int)∧s.v 9=bc .i64 GM
def Je(A8:Ad)(AR A9:AO)(r:Unit⊕Unit)(ex:Ex)(s:St):Prop:=match r with
 | .inl q=>ex= .ret∧s.v 2=bp true
 | .inr q=>ex= .exit 0
theorem gu(A8:Ad)(AR A9:AO){v:Int}{s:St}{r:Unit⊕Unit}(h:Qh A8 AR A9 v=some r)(hM:Gr A8 AR A9 v s):BS Y.env A0q (Je A8 AR A9 r) s:=by
 unfold Qh at h;refine Aw (c:=gp) (fun v=>Jc A8 AR A9 v) (fun v s=>Gr A8 AR A9 v s) (Je A8 AR A9) ?_ h hM;clear h hM s v r;intro GM s o hM h;unfold Jc at h;unfold Gr at hM;obtain⟨m0,m1,m2⟩:=hM;unfold gp;rcases iS h with⟨e1,h⟩|⟨e1,h⟩
 ·obtain⟨e2,h⟩:=Cu h;obtain⟨AU,hl4,h⟩:=Ag h;try dsimp only at h
  simp only [↓AJ,AL,↓reduceIte,bj,bh,m0,m1,m2,e1,e2.1,e2.2];refine Al (gq A8 AR A9 GM hl4 ?_) ?_
  ·simp only [BK,↓reduceIte,bj,m0,m1,m2,Gq]
  ·intro ex4 s4 hX4;rcases AU with q1000_|q1000_
   ·unfold Jd at hX4;dsimp only at hX4 h;obtain⟨rfl,n4_0⟩:=hX4;cases h;simp only [↓AJ,AL,n4_0,Gr,Je,QC]
   ·unfold Jd at hX4;dsimp only at hX4 h;obtain⟨rfl,n4_0,n4_1,n4_2⟩:=hX4;cases h;simp only [↓AJ,AL,↓reduceIte,bj,bh,n4_0,n4_1,n4_2,Gr,Cx]
 ·cases h;simp only [↓AJ,AL,↓reduceIte,bh,m1,m2,e1,Gr,Je,Gf]
theorem ko(A8:Ad)(AR A9:AO){r:Bool}(h:UU A8 AR A9=some r):Y.call 109 [bw [bk 79 (AQ (fun x=>bk 87 (Ak .i64 .i64 x)) A8),bk 3 (AQ (bc .i64) AR),bk 3 (AQ (bc .i64) A9)]] []=some (bp r,[]):=by
 refine AT3 ?_ rfl;unfold AEv;unfold UU at h;obtain⟨Au,hl2,h⟩:=Ag h;try dsimp only at h
 simp only [↓AJ,AL,↓reduceIte,bj,bh,bx];refine Al (gu A8 AR A9 hl2 ?_) ?_
 ·simp only [BK,↓reduceIte,bj,Gr]
 ·intro ex2 s2 hX2;rcases Au with q1001_|q1001_
  ·unfold Je at hX2;dsimp only at hX2 h;obtain⟨rfl,n2_0⟩:=hX2;cases h;simp only [↓AJ,AL,↓reduceIte,n2_0]
  ·unfold Je at hX2;dsimp only at hX2 h
   obtain rfl:=hX2
   cases h;simp only [↓AJ,AL,↓reduceIte,bj,bh]
def Kq(A8:Ad)(out:List (List Bool))(Ah:Int)(l:List Bool)(Jj:Int):Option (((List Bool)×Int)⊕((List Bool))):= if Jj<((ap (A8.getD Ah.toNat be).length false).length:Int)then ck (0≤Jj∧Jj.toNat<l.length)<| some (bo ((l.set Jj.toNat true),bm.wrap (Jj+1))) else some (bl l)
def Pz(A8:Ad)(out:List (List Bool))(Ah:Int)(v:(List Bool)×Int):Option ((List Bool)):=Dq (fun v=>Kq A8 out Ah v.1 v.2) v
def Kr(A8:Ad)(out:List (List Bool))(Ah:Int):Option (((List (List Bool))×Int)⊕((List (List Bool)))):= if Ah<(A8.length:Int)then ck (0≤Ah∧Ah.toNat<A8.length)<| ck (0≤((A8.getD Ah.toNat be).length:Int)∧((A8.getD Ah.toNat be).length:Int)<1099511627776)<| (Pz A8 out Ah ((ap (A8.getD Ah.toNat be).length false),0)).bind fun AU=> ck (out.length+1<1099511627776)<| some (bo ((out++[AU]),bm.wrap (Ah+1))) else some (bl out)
def Sm(A8:Ad)(v:(List (List Bool))×Int):Option ((List (List Bool))):=Dq (fun v=>Kr A8 v.1 v.2) v
def XX(A8:Ad)(AR A9:AO):Option ((List (List Bool))):= (Sm A8 ([],0)).bind fun Au=> some Au
def gy:SC:= .seq (.ops [oB 21 .lss 3 (tK 20) (tK 19) 3 0]) (.seq (.cond (tK 21) .skip (.exit 2)) (.seq (.block 3 (.seq (.ops [oM 22 20 3,oA 7 22 3]) (.ops [oM 23 6 155,oM 24 7 3,oI 25 155 23 24,⟨none,(.store 4 (tK 25) Cy),0,none⟩]))) (.ops [oB 26 .add 3 (tK 20) (iK 1) 3 3,oM 20 26 3])))
def A0r:SC:= .loop gy
def gz:SC:= .seq (.ops [oB 12 .lss 3 (tK 11) (tK 10) 3 0]) (.seq (.cond (tK 12) .skip (.exit 0)) (.seq (.block 1 (.seq (.ops [oI 13 36 9 11,oL 14 79 13 79,oA 5 14 79]) (.seq (.ops [oM 15 5 79,oN 16 15 79,oX 17 (.makeSlice 155 (tK 16) (tK 16)) 155,oA 6 17 155]) (.seq (.seq (.ops [oM 18 6 155,oN 19 18 155,oX 20 (.move (iK 0)) 3]) (.block 2 A0r)) (.ops [oM 27 3 153,oM 28 6 155,oX 29 (.buildSlice 153 1 #[(0,(tK 28))]) 153,oX 30 (.call ⟨(.builtin .append), #[(tK 27),(tK 29)], #[153,153]⟩) 153,oA 3 30 153]))))) (.ops [oB 31 .add 3 (tK 11) (iK 1) 3 3,oM 11 31 3])))
def A0s:SC:= .loop gz
def AEw:SC:= .seq (.ops [oX 1 (.box 38 (tK 0)) 0,oX 2 Gv 153]) (.seq (.ops [oX 3 Gv 153]) (.seq (.seq (.ops [oF 8 38 1 0,oL 9 36 8 36,oN 10 9 36,oX 11 (.move (iK 0)) 3]) (.block 0 A0s)) (.seq (.ops [oM 32 3 153,oA 2 32 153]) .ret)))
theorem A82:Tryz.f152.body.map (BP lends)=some AEw:=by kernel_rfl
theorem AMC:BR Tryz.f152 1=true:=by kernel_rfl
theorem AT4{a l:List D}{r:D×List D}(h:BS Y.env AEw (fin Aj l.length [bt 2] r) (entry a l))(ha:a.length=1):Y.call 152 a l=some r:=
 AY (Y:=Y) rfl Tryz.func152 (ha▸AMC) A82 h
def Kt(A8:Ad)(out:List (List Bool))(Ah:Int)(l:List Bool)(Jj:Int)(s:St):Prop:=s.v 3=br 155 (AQ (fun x=>br 4 (AQ bp x)) out)∧s.v 6=br 4 (AQ bp l)∧s.v 9=bk 79 (AQ (fun x=>bk 87 (Ak .i64 .i64 x)) A8)∧s.v 10=bc .i64 (A8.length:Int)∧s.v 11=bc .i64 Ah∧s.v 19=bc .i64 ((ap (A8.getD Ah.toNat be).length false).length:Int)∧s.v 20=bc .i64 Jj
def Ol(A8:Ad)(out:List (List Bool))(Ah:Int)(r:(List Bool))(ex:Ex)(s:St):Prop:=ex= .exit 2∧s.v 3=br 155 (AQ (fun x=>br 4 (AQ bp x)) out)∧s.v 6=br 4 (AQ bp r)∧s.v 9=bk 79 (AQ (fun x=>bk 87 (Ak .i64 .i64 x)) A8)∧s.v 10=bc .i64 (A8.length:Int)∧s.v 11=bc .i64 Ah
theorem kr(A8:Ad)(out:List (List Bool))(Ah:Int){v:(List Bool)×Int}{s:St}{r:(List Bool)}(h:Pz A8 out Ah v=some r)(hM:Kt A8 out Ah v.1 v.2 s):BS Y.env A0r (Ol A8 out Ah r) s:=by
 unfold Pz at h;refine Aw (c:=gy) (fun v=>Kq A8 out Ah v.1 v.2) (fun v s=>Kt A8 out Ah v.1 v.2 s) (Ol A8 out Ah) ?_ h hM;clear h hM s v r;intro v s o hM h;obtain⟨l,Jj⟩:=v;dsimp only at h hM;unfold Kq at h;unfold Kt at hM;obtain⟨m0,m1,m2,m3,m4,m5,m6⟩:=hM;unfold gy;rcases iS h with⟨e4,h⟩|⟨e4,h⟩
 ·obtain⟨e5,h⟩:=Cu h;cases h;simp only [↓AJ,AL,↓reduceIte,bj,bh,m0,m1,m2,m3,m4,m5,m6,e4,e5.1,e5.2,Kt,Cx]
 ·cases h;simp only [↓AJ,AL,↓reduceIte,bj,bh,m0,m1,m2,m3,m4,m5,m6,e4,Kt,Ol,Gf]
def Ku(A8:Ad)(out:List (List Bool))(Ah:Int)(s:St):Prop:=s.v 3=br 155 (AQ (fun x=>br 4 (AQ bp x)) out)∧s.v 9=bk 79 (AQ (fun x=>bk 87 (Ak .i64 .i64 x)) A8)∧s.v 10=bc .i64 (A8.length:Int)∧s.v 11=bc .i64 Ah
def Om(A8:Ad)(r:(List (List Bool)))(ex:Ex)(s:St):Prop:=ex= .exit 0∧s.v 3=br 155 (AQ (fun x=>br 4 (AQ bp x)) r)
theorem ku(A8:Ad){v:(List (List Bool))×Int}{s:St}{r:(List (List Bool))}(h:Sm A8 v=some r)(hM:Ku A8 v.1 v.2 s):BS Y.env A0s (Om A8 r) s:=by
 unfold Sm at h;refine Aw (c:=gz) (fun v=>Kr A8 v.1 v.2) (fun v s=>Ku A8 v.1 v.2 s) (Om A8) ?_ h hM;clear h hM s v r;intro v s o hM h;obtain⟨out,Ah⟩:=v;dsimp only at h hM;unfold Kr at h;unfold Ku at hM;obtain⟨m0,m1,m2,m3⟩:=hM;unfold gz;rcases iS h with⟨e1,h⟩|⟨e1,h⟩
 ·obtain⟨e2,e3,h⟩:=Dr h;obtain⟨AU,hl5,h⟩:=Ag h;try dsimp only at h
  simp only [↓AJ,AL,↓reduceIte,bj,bh,b5,m1,m2,m3,e1,e2.1,e2.2,e3.1,e3.2];refine Al (kr A8 out Ah hl5 ?_) ?_
  ·simp only [BK,↓reduceIte,bj,m0,m1,m2,m3,Kt]
  ·intro ex5 s5 hX5;unfold Ol at hX5;obtain⟨rfl,n5_0,n5_1,n5_2,n5_3,n5_4⟩:=hX5;obtain⟨e6,h⟩:=Cu h;cases h;simp only [↓AJ,AL,↓reduceIte,bj,bh,b5,n5_0,n5_1,n5_2,n5_3,n5_4,e6,Ku,Cx]
 ·cases h;simp only [↓AJ,AL,↓reduceIte,bj,bh,m0,m2,m3,e1,Ku,Om,Gf]
theorem rR(A8:Ad)(AR A9:AO){r:(List (List Bool))}(h:XX A8 AR A9=some r):Y.call 152 [bw [bk 79 (AQ (fun x=>bk 87 (Ak .i64 .i64 x)) A8),bk 3 (AQ (bc .i64) AR),bk 3 (AQ (bc .i64) A9)]] []=some (br 155 (AQ (fun x=>br 4 (AQ bp x)) r),[]):=by
 refine AT4 ?_ rfl;unfold AEw;unfold XX at h;obtain⟨Au,hl2,h⟩:=Ag h;try dsimp only at h
 simp only [↓AJ,AL,↓reduceIte,bj,bh,bx];refine Al (ku A8 hl2 ?_) ?_
 ·simp only [BK,↓reduceIte,bj,Ku]<;>(repeat' apply A7)<;>first|rfl|exact⟨_,rfl⟩|exact⟨_,_,rfl⟩|simp [AQ,Ay]
 ·intro ex2 s2 hX2;unfold Om at hX2;obtain⟨rfl,n2_0⟩:=hX2;cases h;simp only [↓AJ,AL,↓reduceIte,bj,bh,n2_0]
def Ml(AA:Ad)(AZ AB:AO)(Bv:List (List Bool))(Ci:Int)(t5_1:AX)(GI MB:Int):Option ((AX×Int×Int)⊕(AX)):= if MB<((AA.getD Ci.toNat be).length:Int)then ck (0≤Ci∧Ci.toNat<t5_1.length)<| ck ((t5_1.getD Ci.toNat be).length+1<1099511627776)<| ck (0≤Ci∧Ci.toNat<Bv.length)<| ck (0≤MB∧MB.toNat<(Bv.getD Ci.toNat be).length)<| if((Bv.getD Ci.toNat be).getD MB.toNat be)=true then some (bo ((t5_1.set Ci.toNat ((t5_1.getD Ci.toNat be)++[GI])),bm.wrap (GI+1),bm.wrap (MB+1))) else some (bo ((t5_1.set Ci.toNat ((t5_1.getD Ci.toNat be)++[GI])),GI,bm.wrap (MB+1))) else some (bl t5_1)
def Sn(AA:Ad)(AZ AB:AO)(Bv:List (List Bool))(Ci:Int)(v:AX×Int×Int):Option (AX):=Dq (fun v=>Ml AA AZ AB Bv Ci v.1 v.2.1 v.2.2) v
def Mm(AA:Ad)(AZ AB:AO)(Bv:List (List Bool))(uD:AX)(Ci:Int):Option ((AX×Int)⊕(AX)):= if Ci<(AA.length:Int)then ck (0≤Ci∧Ci.toNat<AA.length)<| (Sn AA AZ AB Bv Ci (uD,0,0)).bind fun AU=> some (bo (AU,bm.wrap (Ci+1))) else some (bl uD)
def Q3(AA:Ad)(AZ AB:AO)(Bv:List (List Bool))(v:AX×Int):Option (AX):=Dq (fun v=>Mm AA AZ AB Bv v.1 v.2) v
def Kv(AA:Ad)(Bv:List (List Bool))(Au:AX)(Kw:AO)(EL:AO)(t10_0:Ad)(I6:Int)(Fe:Fg)(RX:Int):Option ((Fg×Int)⊕(Fg)):= if RX<((AA.getD I6.toNat be).length:Int)then ck (0≤RX∧RX.toNat<(AA.getD I6.toNat be).length)<| ck (0≤I6∧I6.toNat<Bv.length)<| ck (0≤RX∧RX.toNat<(Bv.getD I6.toNat be).length)<| if((Bv.getD I6.toNat be).getD RX.toNat be)=true then ck (0≤(BJ (AA.getD I6.toNat be) RX.toNat)∧(BJ (AA.getD I6.toNat be) RX.toNat).toNat<Au.length)<| ck (0≤(Bu (AA.getD I6.toNat be) RX.toNat)∧(Bu (AA.getD I6.toNat be) RX.toNat).toNat<(Au.getD ((BJ (AA.getD I6.toNat be) RX.toNat).toNat) be).length)<| ck (Fe.length*2+2<1099511627776)<| some (bo ((Fe++[((BJ (AA.getD I6.toNat be) RX.toNat),((Au.getD ((BJ (AA.getD I6.toNat be) RX.toNat).toNat) be).getD ((Bu (AA.getD I6.toNat be) RX.toNat).toNat) be))]),bm.wrap (RX+1))) else some (bo (Fe,bm.wrap (RX+1))) else some (bl Fe)
def Q4(AA:Ad)(Bv:List (List Bool))(Au:AX)(Kw:AO)(EL:AO)(t10_0:Ad)(I6:Int)(v:Fg×Int):Option (Fg):=Dq (fun v=>Kv AA Bv Au Kw EL t10_0 I6 v.1 v.2) v
def Ky(AA:Ad)(Bv:List (List Bool))(Au:AX)(Kw:AO)(EL:AO)(t10_0:Ad)(I6:Int):Option ((Ad×Int)⊕(Ad)):= if I6<(AA.length:Int)then ck (0≤I6∧I6.toNat<AA.length)<| (Q4 AA Bv Au Kw EL t10_0 I6 ([],0)).bind fun BH=> ck (t10_0.length+1<1099511627776)<| some (bo ((t10_0++[BH]),bm.wrap (I6+1))) else some (bl t10_0)
def Sq(AA:Ad)(Bv:List (List Bool))(Au:AX)(Kw:AO)(EL:AO)(v:Ad×Int):Option (Ad):=Dq (fun v=>Ky AA Bv Au Kw EL v.1 v.2) v
def Uw(AA:Ad)(AZ AB:AO)(Bv:List (List Bool)):Option (Ad×AO×AO):= ck (0≤(AA.length:Int)∧(AA.length:Int)<1099511627776)<| (Q3 AA AZ AB Bv ((ap AA.length ([]:AO)),0)).bind fun Au=> (KZ AZ).bind fun Kw=> (KZ AB).bind fun EL=> (Sq AA Bv Au Kw EL ([],0)).bind fun Sl=> some (Sl,Kw,EL)
def iA:SC:= .seq (.ops [oB 31 .lss 3 (tK 30) (tK 29) 3 0]) (.seq (.cond (tK 31) .skip (.exit 2)) (.seq (.block 3 (.seq (.ops [oM 32 30 3,oA 9 32 3]) (.seq (.ops [oM 33 5 22,oM 34 6 3,oM 35 5 22,oM 36 6 3,oI 37 22 35 36,oL 38 26 37 26,oM 39 8 3,oX 40 (.buildSlice 26 1 #[(0,(tK 39))]) 26,oX 41 (.call ⟨(.builtin .append), #[(tK 38),(tK 40)], #[26,26]⟩) 26,oI 42 22 33 34,oS 26 42 41]) (.seq (.ops [oM 43 1 153,oM 44 6 3,oI 45 153 43 44,oL 46 155 45 155,oM 47 9 3,oI 48 155 46 47,oL 49 4 48 4]) (.cond (tK 49) (.ops [oM 50 8 3,oB 51 .add 3 (tK 50) (iK 1) 3 3,oA 8 51 3]) .skip))))) (.ops [oB 52 .add 3 (tK 30) (iK 1) 3 3,oM 30 52 3])))
def A0t:SC:= .loop iA
def iB:SC:= .seq (.ops [oB 24 .lss 3 (tK 23) (tK 22) 3 0]) (.seq (.cond (tK 24) .skip (.exit 0)) (.seq (.block 1 (.seq (.ops [oM 25 23 3,oI 26 36 21 23,oL 27 79 26 79,oA 6 25 3,oA 7 27 79]) (.seq (.ops [oX 8 (.assign (iK 0)) 3]) (.seq (.ops [oM 28 7 79,oN 29 28 79,oX 30 (.move (iK 0)) 3]) (.block 2 A0t))))) (.ops [oB 53 .add 3 (tK 23) (iK 1) 3 3,oM 23 53 3])))
def A0u:SC:= .loop iB
abbrev VB:List Nat:=[83,84,85,86,87,88,89,90,91,92,93,94,95,85,94,96,95,95,97,83,96,13,96,13,97,97]
def iC:SC:= .seq (.ops [oB 72 .lss 3 (tK 71) (tK 70) 3 0]) (.seq (.cond (tK 72) .skip (.exit 6)) (.seq (.block 7 (.seq (.ops [oM 73 71 3,oI 74 79 69 71,oL 75 87 74 87,oX 15 (.alloc 87) 0,oA 14 73 3,oS 87 15 75]) (.seq (.ops [oM 76 1 153,oM 77 11 3,oI 78 153 76 77,oL 79 155 78 155,oM 80 14 3,oI 81 155 79 80,oL 82 4 81 4]) (.cond (tK 82) (.draws [(⟨[83,13,13],VB,[83]⟩,oM 83 13 79),(⟨[84,15,15],VB,[84]⟩,oF 84 87 15 0),(⟨[85,84,15],VB,[85]⟩,oL 85 3 84 3),(⟨[86,5,5],VB,[86]⟩,oM 86 5 22),(⟨[87,15,15],VB,[87]⟩,oF 87 87 15 0),(⟨[88,87,15],VB,[88]⟩,oL 88 3 87 3),(⟨[89,86,88,5,15],VB,[89]⟩,oI 89 22 86 88),(⟨[90,89,5],VB,[90]⟩,oL 90 26 89 26),(⟨[91,15,15],VB,[91]⟩,oF 91 87 15 1),(⟨[92,91,15],VB,[92]⟩,oL 92 3 91 3),(⟨[93,90,92,5,15],VB,[93]⟩,oI 93 26 90 92),(⟨[94,93,5],VB,[94]⟩,oL 94 3 93 3),(⟨[95,85,94,15,5],VB,[95,85,94]⟩,oX 95 (.build 87 #[(0,(tK 85)),(1,(tK 94))]) 87),(⟨[96,95,95],VB,[96,95,95]⟩,oX 96 (.buildSlice 79 1 #[(0,(tK 95))]) 79),(⟨[97,83,96,13,96],VB,[97,83,96,13,96]⟩,oX 97 (.call ⟨(.builtin .append), #[(tK 83),(tK 96)], #[79,79]⟩) 79),(⟨[13,97,97],VB,[13,97,97]⟩,oA 13 97 79)]) .skip)))) (.ops [oB 98 .add 3 (tK 71) (iK 1) 3 3,oM 71 98 3])))
def A0v:SC:= .loop iC
def iD:SC:= .seq (.ops [oB 65 .lss 3 (tK 64) (tK 63) 3 0]) (.seq (.cond (tK 65) .skip (.exit 4)) (.seq (.block 5 (.seq (.ops [oM 66 64 3,oI 67 36 62 64,oL 68 79 67 79,oA 11 66 3,oA 12 68 79]) (.seq (.ops [oX 13 Gv 79]) (.seq (.seq (.ops [oM 69 12 79,oN 70 69 79,oX 71 (.move (iK 0)) 3]) (.block 6 A0v)) (.ops [oF 99 38 10 0,oL 100 36 99 36,oM 101 13 79,oX 102 (.buildSlice 36 1 #[(0,(tK 101))]) 36,oX 103 (.call ⟨(.builtin .append), #[(tK 100),(tK 102)], #[36,36]⟩) 36,oF 104 38 10 0,oS 36 104 103]))))) (.ops [oB 105 .add 3 (tK 64) (iK 1) 3 3,oM 64 105 3])))
def A0w:SC:= .loop iD
abbrev rT:List Nat:=[54,55,56,57,58,59,60,56,59,56,59,10,10,60,10,60]
def AEx:SC:= .seq (.ops [oX 2 (.box 38 (tK 0)) 0,oX 4 (.alloc 38) 0]) (.seq (.ops [oF 16 38 2 0,oL 17 36 16 36,oN 18 17 36,oX 19 (.makeSlice 22 (tK 18) (tK 18)) 22,oA 5 19 22]) (.seq (.seq (.ops [oF 20 38 2 0,oL 21 36 20 36,oN 22 21 36,oX 23 (.move (iK 0)) 3]) (.block 0 A0u)) (.seq (.draws [(⟨[54,2,2],rT,[54]⟩,oF 54 38 2 1),(⟨[55,54,2],rT,[55]⟩,oL 55 26 54 26),(⟨[56,55,2],rT,[56]⟩,oC 56 92 [(tK 55)] [26] 26),(⟨[57,2,2],rT,[57]⟩,oF 57 38 2 2),(⟨[58,57,2],rT,[58]⟩,oL 58 26 57 26),(⟨[59,58,2],rT,[59]⟩,oC 59 92 [(tK 58)] [26] 26),(⟨[60,56,59,56,59],rT,[60,56,59,56,59]⟩,oX 60 (.build 38 #[(1,(tK 56)),(2,(tK 59))]) 38),(⟨[10],rT,[10]⟩,oX 10 (.alloc 38) 0),(⟨[10,60,10,60],rT,[10,60,10,60]⟩,oS 38 10 60)]) (.seq (.seq (.ops [oF 61 38 2 0,oL 62 36 61 36,oN 63 62 36,oX 64 (.move (iK 0)) 3]) (.block 4 A0w)) (.seq (.ops [oL 106 38 10 38,oS 38 4 106]) .ret)))))
theorem A83:Tryz.f153.body.map (BP lends)=some AEx:=by kernel_rfl
theorem AMD:BR Tryz.f153 2=true:=by kernel_rfl
theorem AT5{a l:List D}{r:D×List D}(h:BS Y.env AEx (fin Aj l.length [ResultVar.cell 4 38] r) (entry a l))(ha:a.length=2):Y.call 153 a l=some r:=
 AY (Y:=Y) rfl Tryz.func153 (ha▸AMD) A83 h
def Io(AA:Ad)(AZ AB:AO)(Bv:List (List Bool))(Ci:Int)(t5_1:AX)(GI MB:Int)(s:St):Prop:=s.v 1=bk 155 (AQ (fun x=>bk 4 (AQ bp x)) Bv)∧s.v 2=b7 [bk 79 (AQ (fun x=>bk 87 (Ak .i64 .i64 x)) AA),bk 3 (AQ (bc .i64) AZ),bk 3 (AQ (bc .i64) AB)]∧s.v 4=b7 [br 79 [],br 3 [],br 3 []]∧s.v 5=br 26 (AQ Jp t5_1)∧s.v 6=bc .i64 Ci∧s.v 8=bc .i64 GI∧s.v 21=bk 79 (AQ (fun x=>bk 87 (Ak .i64 .i64 x)) AA)∧s.v 22=bc .i64 (AA.length:Int)∧s.v 23=bc .i64 Ci∧s.v 29=bc .i64 ((AA.getD Ci.toNat be).length:Int)∧s.v 30=bc .i64 MB
def Oo(AA:Ad)(AZ AB:AO)(Bv:List (List Bool))(Ci:Int)(r:AX)(ex:Ex)(s:St):Prop:=ex= .exit 2∧s.v 1=bk 155 (AQ (fun x=>bk 4 (AQ bp x)) Bv)∧s.v 2=b7 [bk 79 (AQ (fun x=>bk 87 (Ak .i64 .i64 x)) AA),bk 3 (AQ (bc .i64) AZ),bk 3 (AQ (bc .i64) AB)]∧s.v 4=b7 [br 79 [],br 3 [],br 3 []]∧s.v 5=br 26 (AQ Jp r)∧s.v 21=bk 79 (AQ (fun x=>bk 87 (Ak .i64 .i64 x)) AA)∧s.v 22=bc .i64 (AA.length:Int)∧s.v 23=bc .i64 Ci
theorem kv(AA:Ad)(AZ AB:AO)(Bv:List (List Bool))(Ci:Int){v:AX×Int×Int}{s:St}{r:AX}(h:Sn AA AZ AB Bv Ci v=some r)(hM:Io AA AZ AB Bv Ci v.1 v.2.1 v.2.2 s):BS Y.env A0t (Oo AA AZ AB Bv Ci r) s:=by
 unfold Sn at h;refine Aw (c:=iA) (fun v=>Ml AA AZ AB Bv Ci v.1 v.2.1 v.2.2) (fun v s=>Io AA AZ AB Bv Ci v.1 v.2.1 v.2.2 s) (Oo AA AZ AB Bv Ci) ?_ h hM;clear h hM s v r;intro v s o hM h;obtain⟨t5_1,GI,MB⟩:=v;dsimp only at h hM;unfold Ml at h;unfold Io at hM;obtain⟨m0,m1,m2,m3,m4,m5,m6,m7,m8,m9,m10⟩:=hM;unfold iA;rcases iS h with⟨e4,h⟩|⟨e4,h⟩
 ·obtain⟨e5,e6,e7,e8,h⟩:=A26 h;rcases iS h with⟨e9,h⟩|⟨e9,h⟩
  ·cases h;simp only [↓AJ,AL,↓reduceIte,bj,bh,b5,m0,m1,m2,m3,m4,m5,m6,m7,m8,m9,m10,e4,e5.1,e5.2,e6,e7.2,e8.1,e8.2,e9,Io,Cx]
  ·have e9f:((Bv.getD Ci.toNat be).getD MB.toNat be)=false:=G8.mpr e9;cases h;simp only [↓AJ,AL,↓reduceIte,bj,bh,b5,m0,m1,m2,m3,m4,m5,m6,m7,m8,m9,m10,e4,e5.1,e5.2,e6,e7.2,e8.1,e8.2,e9f,Io,Cx]
 ·cases h;simp only [↓AJ,AL,↓reduceIte,bj,bh,m0,m1,m2,m3,m6,m7,m8,m9,m10,e4,Io,Oo,Gf]
def Kz(AA:Ad)(AZ AB:AO)(Bv:List (List Bool))(uD:AX)(Ci:Int)(s:St):Prop:=s.v 1=bk 155 (AQ (fun x=>bk 4 (AQ bp x)) Bv)∧s.v 2=b7 [bk 79 (AQ (fun x=>bk 87 (Ak .i64 .i64 x)) AA),bk 3 (AQ (bc .i64) AZ),bk 3 (AQ (bc .i64) AB)]∧s.v 4=b7 [br 79 [],br 3 [],br 3 []]∧s.v 5=br 26 (AQ Jp uD)∧s.v 21=bk 79 (AQ (fun x=>bk 87 (Ak .i64 .i64 x)) AA)∧s.v 22=bc .i64 (AA.length:Int)∧s.v 23=bc .i64 Ci
def Oq(AA:Ad)(AZ AB:AO)(Bv:List (List Bool))(r:AX)(ex:Ex)(s:St):Prop:=ex= .exit 0∧s.v 1=bk 155 (AQ (fun x=>bk 4 (AQ bp x)) Bv)∧s.v 2=b7 [bk 79 (AQ (fun x=>bk 87 (Ak .i64 .i64 x)) AA),bk 3 (AQ (bc .i64) AZ),bk 3 (AQ (bc .i64) AB)]∧s.v 4=b7 [br 79 [],br 3 [],br 3 []]∧s.v 5=br 26 (AQ Jp r)
theorem kw(AA:Ad)(AZ AB:AO)(Bv:List (List Bool)){v:AX×Int}{s:St}{r:AX}(h:Q3 AA AZ AB Bv v=some r)(hM:Kz AA AZ AB Bv v.1 v.2 s):BS Y.env A0u (Oq AA AZ AB Bv r) s:=by
 unfold Q3 at h;refine Aw (c:=iB) (fun v=>Mm AA AZ AB Bv v.1 v.2) (fun v s=>Kz AA AZ AB Bv v.1 v.2 s) (Oq AA AZ AB Bv) ?_ h hM;clear h hM s v r;intro v s o hM h;obtain⟨uD,Ci⟩:=v;dsimp only at h hM;unfold Mm at h;unfold Kz at hM;obtain⟨m0,m1,m2,m3,m4,m5,m6⟩:=hM;unfold iB;rcases iS h with⟨e2,h⟩|⟨e2,h⟩
 ·obtain⟨e3,h⟩:=Cu h;obtain⟨AU,hl5,h⟩:=Ag h;try dsimp only at h
  simp only [↓AJ,AL,↓reduceIte,bj,bh,m4,m5,m6,e2,e3.1,e3.2];refine Al (kv AA AZ AB Bv Ci hl5 ?_) ?_
  ·simp only [BK,↓reduceIte,bj,m0,m1,m2,m3,m4,m5,m6,Io]
  ·intro ex5 s5 hX5;unfold Oo at hX5;obtain⟨rfl,n5_0,n5_1,n5_2,n5_3,n5_4,n5_5,n5_6⟩:=hX5;cases h;simp only [↓AJ,AL,↓reduceIte,bj,bh,n5_0,n5_1,n5_2,n5_3,n5_4,n5_5,n5_6,Kz,Cx]
 ·cases h;simp only [↓AJ,AL,↓reduceIte,bj,bh,m0,m1,m2,m3,m5,m6,e2,Kz,Oq,Gf]
def Ip(AA:Ad)(Bv:List (List Bool))(Au:AX)(Kw:AO)(EL:AO)(t10_0:Ad)(I6:Int)(Fe:Fg)(RX:Int)(s:St):Prop:=s.v 1=bk 155 (AQ (fun x=>bk 4 (AQ bp x)) Bv)∧s.v 4=b7 [br 79 [],br 3 [],br 3 []]∧s.v 5=br 26 (AQ Jp Au)∧s.v 10=b7 [br 79 (AQ (fun x=>br 87 (Ak .i64 .i64 x)) t10_0),br 3 (AQ (bc .i64) Kw),br 3 (AQ (bc .i64) EL)]∧s.v 11=bc .i64 I6∧s.v 13=br 87 (Ak .i64 .i64 Fe)∧s.v 62=bk 79 (AQ (fun x=>bk 87 (Ak .i64 .i64 x)) AA)∧s.v 63=bc .i64 (AA.length:Int)∧s.v 64=bc .i64 I6∧s.v 69=bk 87 (Ak .i64 .i64 (AA.getD I6.toNat be))∧s.v 70=bc .i64 ((AA.getD I6.toNat be).length:Int)∧s.v 71=bc .i64 RX
def Ot(AA:Ad)(Bv:List (List Bool))(Au:AX)(Kw:AO)(EL:AO)(t10_0:Ad)(I6:Int)(r:Fg)(ex:Ex)(s:St):Prop:=ex= .exit 6∧s.v 1=bk 155 (AQ (fun x=>bk 4 (AQ bp x)) Bv)∧s.v 4=b7 [br 79 [],br 3 [],br 3 []]∧s.v 5=br 26 (AQ Jp Au)∧s.v 10=b7 [br 79 (AQ (fun x=>br 87 (Ak .i64 .i64 x)) t10_0),br 3 (AQ (bc .i64) Kw),br 3 (AQ (bc .i64) EL)]∧s.v 13=br 87 (Ak .i64 .i64 r)∧s.v 62=bk 79 (AQ (fun x=>bk 87 (Ak .i64 .i64 x)) AA)∧s.v 63=bc .i64 (AA.length:Int)∧s.v 64=bc .i64 I6
theorem ky(AA:Ad)(Bv:List (List Bool))(Au:AX)(Kw:AO)(EL:AO)(t10_0:Ad)(I6:Int){v:Fg×Int}{s:St}{r:Fg}(h:Q4 AA Bv Au Kw EL t10_0 I6 v=some r)(hM:Ip AA Bv Au Kw EL t10_0 I6 v.1 v.2 s):BS Y.env A0v (Ot AA Bv Au Kw EL t10_0 I6 r) s:=by
 unfold Q4 at h;refine Aw (c:=iC) (fun v=>Kv AA Bv Au Kw EL t10_0 I6 v.1 v.2) (fun v s=>Ip AA Bv Au Kw EL t10_0 I6 v.1 v.2 s) (Ot AA Bv Au Kw EL t10_0 I6) ?_ h hM;clear h hM s v r;intro v s o hM h;obtain⟨Fe,RX⟩:=v;dsimp only at h hM;unfold Kv at h;unfold Ip at hM;obtain⟨m0,m1,m2,m3,m4,m5,m6,m7,m8,m9,m10,m11⟩:=hM;unfold iC;rcases iS h with⟨e8,h⟩|⟨e8,h⟩
 ·obtain⟨e9,e10,e11,h⟩:=NC h;rcases iS h with⟨e12,h⟩|⟨e12,h⟩
  ·obtain⟨e13,e14,e15,h⟩:=NC h;cases h;simp only [↓AJ,AL,↓reduceIte,bj,bh,b5,m0,m1,m2,m3,m4,m5,m6,m7,m8,m9,m10,m11,e8,e9.1,e9.2,e10.1,e10.2,e11.2,e12,e13.1,e13.2,e14.1,e14.2,e15,Ip,Cx]
  ·have e12f:((Bv.getD I6.toNat be).getD RX.toNat be)=false:=G8.mpr e12;cases h;simp only [↓AJ,AL,↓reduceIte,bj,bh,m0,m1,m2,m3,m4,m5,m6,m7,m8,m9,m10,m11,e8,e9.1,e9.2,e10.1,e10.2,e11.2,e12f,Ip,Cx]
 ·cases h;simp only [↓AJ,AL,↓reduceIte,bj,bh,m0,m1,m2,m3,m5,m6,m7,m8,m10,m11,e8,Ip,Ot,Gf]
def L6(AA:Ad)(Bv:List (List Bool))(Au:AX)(Kw:AO)(EL:AO)(t10_0:Ad)(I6:Int)(s:St):Prop:=s.v 1=bk 155 (AQ (fun x=>bk 4 (AQ bp x)) Bv)∧s.v 4=b7 [br 79 [],br 3 [],br 3 []]∧s.v 5=br 26 (AQ Jp Au)∧s.v 10=b7 [br 79 (AQ (fun x=>br 87 (Ak .i64 .i64 x)) t10_0),br 3 (AQ (bc .i64) Kw),br 3 (AQ (bc .i64) EL)]∧s.v 62=bk 79 (AQ (fun x=>bk 87 (Ak .i64 .i64 x)) AA)∧s.v 63=bc .i64 (AA.length:Int)∧s.v 64=bc .i64 I6
def Ou(AA:Ad)(Bv:List (List Bool))(Au:AX)(Kw:AO)(EL:AO)(r:Ad)(ex:Ex)(s:St):Prop:=ex= .exit 4∧s.v 4=b7 [br 79 [],br 3 [],br 3 []]∧s.v 10=b7 [br 79 (AQ (fun x=>br 87 (Ak .i64 .i64 x)) r),br 3 (AQ (bc .i64) Kw),br 3 (AQ (bc .i64) EL)]
theorem kz(AA:Ad)(Bv:List (List Bool))(Au:AX)(Kw:AO)(EL:AO){v:Ad×Int}{s:St}{r:Ad}(h:Sq AA Bv Au Kw EL v=some r)(hM:L6 AA Bv Au Kw EL v.1 v.2 s):BS Y.env A0w (Ou AA Bv Au Kw EL r) s:=by
 unfold Sq at h;refine Aw (c:=iD) (fun v=>Ky AA Bv Au Kw EL v.1 v.2) (fun v s=>L6 AA Bv Au Kw EL v.1 v.2 s) (Ou AA Bv Au Kw EL) ?_ h hM;clear h hM s v r;intro v s o hM h;obtain⟨t10_0,I6⟩:=v;dsimp only at h hM;unfold Ky at h;unfold L6 at hM;obtain⟨m0,m1,m2,m3,m4,m5,m6⟩:=hM;unfold iD;rcases iS h with⟨e6,h⟩|⟨e6,h⟩
 ·obtain⟨e7,h⟩:=Cu h;obtain⟨BH,hl9,h⟩:=Ag h;try dsimp only at h
  simp only [↓AJ,AL,↓reduceIte,bj,bh,m4,m5,m6,e6,e7.1,e7.2];refine Al (ky AA Bv Au Kw EL t10_0 I6 hl9 ?_) ?_
  ·simp only [BK,↓reduceIte,bj,m0,m1,m2,m3,m4,m5,m6,Ip]<;>(repeat' apply A7)<;>first|rfl|exact⟨_,rfl⟩|exact⟨_,_,rfl⟩|simp [AQ,Ay]
  ·intro ex9 s9 hX9;unfold Ot at hX9;obtain⟨rfl,n9_0,n9_1,n9_2,n9_3,n9_4,n9_5,n9_6,n9_7⟩:=hX9;obtain⟨e10,h⟩:=Cu h;cases h;simp only [↓AJ,AL,↓reduceIte,bj,bh,b5,bx,n9_0,n9_1,n9_2,n9_3,n9_4,n9_5,n9_6,n9_7,e10,L6,Cx]
 ·cases h;simp only [↓AJ,AL,↓reduceIte,bj,bh,m1,m3,m5,m6,e6,L6,Ou,Gf]
theorem rU(AA:Ad)(AZ AB:AO)(Bv:List (List Bool)){r:Ad×AO×AO}(h:Uw AA AZ AB Bv=some r):Y.call 153 [bw [bk 79 (AQ (fun x=>bk 87 (Ak .i64 .i64 x)) AA),bk 3 (AQ (bc .i64) AZ),bk 3 (AQ (bc .i64) AB)],bk 155 (AQ (fun x=>bk 4 (AQ bp x)) Bv)] []=some (bw [br 79 (AQ (fun x=>br 87 (Ak .i64 .i64 x)) r.1),br 3 (AQ (bc .i64) r.2.1),br 3 (AQ (bc .i64) r.2.2)],[]):=by
 refine AT5 ?_ rfl;unfold AEx;unfold Uw at h;obtain⟨e1,h⟩:=Cu h;obtain⟨Au,hl3,h⟩:=Ag h;try dsimp only at h
 simp only [↓AJ,AL,↓reduceIte,bj,bh,b5,e1.1,e1.2];refine Al (kw AA AZ AB Bv hl3 ?_) ?_
 ·simp only [BK,Cg,↓reduceIte,bj,bh,Kz]
 ·intro ex3 s3 hX3;unfold Oq at hX3;obtain⟨rfl,n3_0,n3_1,n3_2,n3_3⟩:=hX3;obtain⟨Kw,hl4,h⟩:=Ag h;have c4:=IZ AZ hl4;obtain⟨EL,hl5,h⟩:=Ag h;have c5:=IZ AB hl5;obtain⟨Sl,hl7,h⟩:=Ag h;try dsimp only at h
  simp only [↓AJ,AL,↓reduceIte,bj,bh,b5,n3_1,c4,c5];refine Al (kz AA Bv Au Kw EL hl7 ?_) ?_
  ·simp only [BK,↓reduceIte,bj,n3_0,n3_2,n3_3,L6]<;>(repeat' apply A7)<;>first|rfl|exact⟨_,rfl⟩|exact⟨_,_,rfl⟩|simp [AQ,Ay]
  ·intro ex7 s7 hX7;unfold Ou at hX7;obtain⟨rfl,n7_0,n7_1⟩:=hX7;cases h;simp only [↓AJ,AL,↓reduceIte,bj,n7_0,n7_1]
def RY(A8:Ad)(AR A9:AO)(v_ i:Int):Option (Int):= ck (0≤v_∧v_.toNat<A8.length)<| ck (0≤i∧i.toNat<(A8.getD v_.toNat be).length)<| (XX A8 AR A9).bind fun Pt=> ck (0≤v_∧v_.toNat<Pt.length)<| ck (0≤i∧i.toNat<(Pt.getD v_.toNat be).length)<| ck (0≤(BJ (A8.getD v_.toNat be) i.toNat)∧(BJ (A8.getD v_.toNat be) i.toNat).toNat<Pt.length)<| ck (0≤(Bu (A8.getD v_.toNat be) i.toNat)∧(Bu (A8.getD v_.toNat be) i.toNat).toNat<((Pt.set v_.toNat ((Pt.getD v_.toNat be).set i.toNat false)).getD ((BJ (A8.getD v_.toNat be) i.toNat).toNat) be).length)<| (Uw A8 AR A9 ((Pt.set v_.toNat ((Pt.getD v_.toNat be).set i.toNat false)).set ((BJ (A8.getD v_.toNat be) i.toNat).toNat) (((Pt.set v_.toNat ((Pt.getD v_.toNat be).set i.toNat false)).getD ((BJ (A8.getD v_.toNat be) i.toNat).toNat) be).set ((Bu (A8.getD v_.toNat be) i.toNat).toNat) false))).bind fun zq=> (OI zq.1 zq.2.1 zq.2.2 v_).bind fun AEy=> ck (0≤(BJ (A8.getD v_.toNat be) i.toNat)∧(BJ (A8.getD v_.toNat be) i.toNat).toNat<AEy.length)<| some (AEy.getD ((BJ (A8.getD v_.toNat be) i.toNat).toNat) be)
abbrev rV:List Nat:=[25,26,27,28,29,30,31,32,32,8]
abbrev l5:List Nat:=[33,34,35,36,37,38,39,40,41,6,41]
def AEz:SC:= .seq (.ops [oX 3 (.box 38 (tK 0)) 0,oX 6 (.assign (iK 0)) 3]) (.seq (.ops [oF 9 38 3 0,oL 10 36 9 36,oM 11 1 3,oI 12 36 10 11,oL 13 79 12 79,oM 14 2 3,oI 15 79 13 14,oL 16 87 15 87,oX 7 (.alloc 87) 0,oS 87 7 16]) (.seq (.ops [oL 17 38 3 38,oC 18 152 [(tK 17)] [38] 153,oA 8 18 153]) (.seq (.ops [oM 19 8 153,oM 20 1 3,oI 21 153 19 20,oL 22 155 21 155,oM 23 2 3,oI 24 155 22 23,⟨none,(.store 4 (tK 24) LK),0,none⟩]) (.seq (.draws [(⟨[25,8,8],rV,[25]⟩,oM 25 8 153),(⟨[26,7,7],rV,[26]⟩,oF 26 87 7 0),(⟨[27,26,7],rV,[27]⟩,oL 27 3 26 3),(⟨[28,25,27,8,7],rV,[28]⟩,oI 28 153 25 27),(⟨[29,28,8],rV,[29]⟩,oL 29 155 28 155),(⟨[30,7,7],rV,[30]⟩,oF 30 87 7 1),(⟨[31,30,7],rV,[31]⟩,oL 31 3 30 3),(⟨[32,29,31,8,7],rV,[32]⟩,oI 32 155 29 31),(⟨[32,8],rV,[32,8]⟩,⟨none,(.store 4 (tK 32) LK),0,none⟩)]) (.seq (.draws [(⟨[33,3,3],l5,[33]⟩,oL 33 38 3 38),(⟨[34,8,8],l5,[34]⟩,oM 34 8 153),(⟨[35,33,34,3,8],l5,[35]⟩,oC 35 153 [(tK 33),(tK 34)] [38,153] 38),(⟨[36,1,1],l5,[36]⟩,oM 36 1 3),(⟨[37,35,36,35,1],l5,[37]⟩,oC 37 134 [(tK 35),(tK 36)] [38,3] 26),(⟨[38,7,7],l5,[38]⟩,oF 38 87 7 0),(⟨[39,38,7],l5,[39]⟩,oL 39 3 38 3),(⟨[40,37,39,37,7],l5,[40]⟩,oI 40 26 37 39),(⟨[41,40,37],l5,[41]⟩,oL 41 3 40 3),
 (⟨[6,41,37],l5,[6,41]⟩,oA 6 41 3)]) .ret)))))
theorem A84:Tryz.f131.body.map (BP lends)=some AEz:=by kernel_rfl
theorem AME:BR Tryz.f131 3=true:=by kernel_rfl
theorem AT6{a l:List D}{r:D×List D}(h:BS Y.env AEz (fin Aj l.length [bt 6] r) (entry a l))(ha:a.length=3):Y.call 131 a l=some r:=
 AY (Y:=Y) rfl Tryz.func131 (ha▸AME) A84 h
theorem iE(A8:Ad)(AR A9:AO)(v_ i:Int){r:Int}(h:RY A8 AR A9 v_ i=some r):Y.call 131 [bw [bk 79 (AQ (fun x=>bk 87 (Ak .i64 .i64 x)) A8),bk 3 (AQ (bc .i64) AR),bk 3 (AQ (bc .i64) A9)],bc .i64 v_,bc .i64 i] []=some (bc .i64 r,[]):=by
 refine AT6 ?_ rfl;unfold AEz;unfold RY at h;obtain⟨e1,e2,h⟩:=Dr h;obtain⟨Pt,hl3,h⟩:=Ag h;have c3:=rR A8 AR A9 hl3;obtain⟨e4,e5,e6,e7,h⟩:=A26 h;obtain⟨zq,hl8,h⟩:=Ag h;have c8:=rU A8 AR A9 ((Pt.set v_.toNat ((Pt.getD v_.toNat be).set i.toNat false)).set ((BJ (A8.getD v_.toNat be) i.toNat).toNat) (((Pt.set v_.toNat ((Pt.getD v_.toNat be).set i.toNat false)).getD ((BJ (A8.getD v_.toNat be) i.toNat).toNat) be).set ((Bu (A8.getD v_.toNat be) i.toNat).toNat) false)) hl8;obtain⟨AEy,hl9,h⟩:=Ag h;have c9:=VO zq.1 zq.2.1 zq.2.2 v_ hl9;obtain⟨e10,h⟩:=Cu h;cases h;simp only [↓AJ,AL,↓reduceIte,bj,bh,e1.1,e1.2,e2.1,e2.2,c3,e4.2,e5.2,e6.1,e6.2,e7.1,e7.2,c8,c9,e10.2]
def KM(A8:Ad)(AR A9:AO)(Ah out1 Jj:Int):Option ((Int×Int)⊕(Int)):= if Jj<((A8.getD Ah.toNat be).length:Int)then ck (0≤Jj∧Jj.toNat<(A8.getD Ah.toNat be).length)<| if(((BJ (A8.getD Ah.toNat be) Jj.toNat)==Ah)&&((Bu (A8.getD Ah.toNat be) Jj.toNat)==Jj))=true then some (bo (out1,bm.wrap (Jj+1))) else (RY A8 AR A9 Ah Jj).bind fun A5e=> if 0≤A5e then if out1=0 then some (bo (bm.wrap (A5e+1),bm.wrap (Jj+1))) else if(bm.wrap (A5e+1))<out1 then some (bo (bm.wrap (A5e+1),bm.wrap (Jj+1))) else some (bo (out1,bm.wrap (Jj+1))) else some (bo (out1,bm.wrap (Jj+1))) else some (bl out1)
def Ov(A8:Ad)(AR A9:AO)(Ah:Int)(v:Int×Int):Option (Int):=Dq (fun v=>KM A8 AR A9 Ah v.1 v.2) v
def KN(A8:Ad)(AR A9:AO)(out Ah:Int):Option ((Int×Int)⊕(Int)):= if Ah<(A8.length:Int)then ck (0≤Ah∧Ah.toNat<A8.length)<| (Ov A8 AR A9 Ah (out,0)).bind fun AU=> some (bo (AU,bm.wrap (Ah+1))) else some (bl out)
def Ow(A8:Ad)(AR A9:AO)(v:Int×Int):Option (Int):=Dq (fun v=>KN A8 AR A9 v.1 v.2) v
def RZ(A8:Ad)(AR A9:AO):Option (Int):= (Ow A8 AR A9 (0,0)).bind fun Au=> some Au
def iF:SC:= .seq (.ops [oB 21 .lss 3 (tK 20) (tK 19) 3 0]) (.seq (.cond (tK 21) .skip (.exit 2)) (.seq (.block 3 (.seq (.ops [oM 22 20 3,oI 23 79 18 20,oL 24 87 23 87,oX 6 (.alloc 87) 0,oA 5 22 3,oS 87 6 24]) (.seq (.seq (.ops [oL 25 87 6 87,oM 26 4 3,oM 27 5 3,oX 28 (.build 87 #[(0,(tK 26)),(1,(tK 27))]) 87,oB 29 .eql 87 (tK 25) (tK 28) 87 4]) (.cond (tK 29) (.exit 3) .skip)) (.seq (.ops [oL 30 38 1 38,oM 31 4 3,oM 32 5 3,oC 33 131 [(tK 30),(tK 31),(tK 32)] [38,3,3] 3,oA 7 33 3]) (.seq (.ops [oM 34 7 3,oB 35 .geq 3 (tK 34) (iK 0) 3 4,oM 36 35 4,⟨some 37,.move (tK 3),3,(some (some 36,true))⟩,⟨some 38,.binOp .eql 3 (tK 37) (iK 0) 3,4,(some (some 36,true))⟩,⟨some 39,.move (tK 38),4,(some (some 36,true))⟩,⟨some 40,.move (tK 7),3,(some (some 39,false))⟩,⟨some 41,.binOp .add 3 (tK 40) (iK 1) 3,3,(some (some 39,false))⟩,⟨some 42,.move (tK 3),3,(some (some 39,false))⟩,⟨some 43,.binOp .lss 3 (tK 41) (tK 42) 3,4,(some (some 39,false))⟩,⟨some 44,.pick (tK 39) Cy (tK 43),4,(some (some 36,true))⟩,oX 45 (.pick (tK 36) (tK 44) LK) 4]) (.cond (tK 45) (.ops [oM 46 7 3,oB 47 .add 3 (tK 46) (iK 1) 3 3,oA 3 47 3]) .skip)))))) (.ops [oB 48 .add 3 (tK 20) (iK 1) 3 3,
 oM 20 48 3])))
def A0x:SC:= .loop iF
def iG:SC:= .seq (.ops [oB 12 .lss 3 (tK 11) (tK 10) 3 0]) (.seq (.cond (tK 12) .skip (.exit 0)) (.seq (.block 1 (.seq (.ops [oM 13 11 3,oA 4 13 3]) (.seq (.ops [oF 14 38 1 0,oL 15 36 14 36,oM 16 4 3,oI 17 36 15 16,oL 18 79 17 79,oN 19 18 79,oX 20 (.move (iK 0)) 3]) (.block 2 A0x)))) (.ops [oB 49 .add 3 (tK 11) (iK 1) 3 3,oM 11 49 3])))
def A0y:SC:= .loop iG
def AF0:SC:= .seq (.ops [oX 1 (.box 38 (tK 0)) 0,oX 2 (.assign (iK 0)) 3]) (.seq (.ops [oX 3 (.assign (iK 0)) 3]) (.seq (.seq (.ops [oF 8 38 1 0,oL 9 36 8 36,oN 10 9 36,oX 11 (.move (iK 0)) 3]) (.block 0 A0y)) (.seq (.ops [oM 50 3 3,oA 2 50 3]) .ret)))
theorem A85:Tryz.f110.body.map (BP lends)=some AF0:=by kernel_rfl
theorem AMF:BR Tryz.f110 1=true:=by kernel_rfl
theorem AT7{a l:List D}{r:D×List D}(h:BS Y.env AF0 (fin Aj l.length [bt 2] r) (entry a l))(ha:a.length=1):Y.call 110 a l=some r:=
 AY (Y:=Y) rfl Tryz.func110 (ha▸AMF) A85 h
def Cw(A8:Ad)(AR A9:AO)(Ah out1 Jj:Int)(s:St):Prop:=s.v 1=b7 [bk 79 (AQ (fun x=>bk 87 (Ak .i64 .i64 x)) A8),bk 3 (AQ (bc .i64) AR),bk 3 (AQ (bc .i64) A9)]∧s.v 3=bc .i64 out1∧s.v 4=bc .i64 Ah∧s.v 10=bc .i64 (A8.length:Int)∧s.v 11=bc .i64 Ah∧s.v 18=bk 87 (Ak .i64 .i64 (A8.getD Ah.toNat be))∧s.v 19=bc .i64 ((A8.getD Ah.toNat be).length:Int)∧s.v 20=bc .i64 Jj
def Mo(A8:Ad)(AR A9:AO)(Ah r:Int)(ex:Ex)(s:St):Prop:=ex= .exit 2∧s.v 1=b7 [bk 79 (AQ (fun x=>bk 87 (Ak .i64 .i64 x)) A8),bk 3 (AQ (bc .i64) AR),bk 3 (AQ (bc .i64) A9)]∧s.v 3=bc .i64 r∧s.v 10=bc .i64 (A8.length:Int)∧s.v 11=bc .i64 Ah
theorem aL(A8:Ad)(AR A9:AO)(Ah:Int){v:Int×Int}{s:St}{r:Int}(h:Ov A8 AR A9 Ah v=some r)(hM:Cw A8 AR A9 Ah v.1 v.2 s):BS Y.env A0x (Mo A8 AR A9 Ah r) s:=by
 unfold Ov at h;refine Aw (c:=iF) (fun v=>KM A8 AR A9 Ah v.1 v.2) (fun v s=>Cw A8 AR A9 Ah v.1 v.2 s) (Mo A8 AR A9 Ah) ?_ h hM;clear h hM s v r;intro v s o hM h;obtain⟨out1,Jj⟩:=v;dsimp only at h hM;unfold KM at h;unfold Cw at hM;obtain⟨m0,m1,m2,m3,m4,m5,m6,m7⟩:=hM;unfold iF;rcases iS h with⟨e3,h⟩|⟨e3,h⟩
 ·obtain⟨e4,h⟩:=Cu h;rcases iS h with⟨e5,h⟩|⟨e5,h⟩
  ·cases h;simp only [↓AJ,AL,↓reduceIte,bj,bh,b5,m0,m1,m2,m3,m4,m5,m6,m7,e3,e4.1,e4.2,e5,Cw,Cx]
  ·have e5f:(((BJ (A8.getD Ah.toNat be) Jj.toNat)==Ah)&&((Bu (A8.getD Ah.toNat be) Jj.toNat)==Jj))=false:=G8.mpr e5;obtain⟨A5e,hl6,h⟩:=Ag h;have c6:=iE A8 AR A9 Ah Jj hl6;rcases iS h with⟨e7,h⟩|⟨e7,h⟩
   ·rcases iS h with⟨e8,h⟩|⟨e8,h⟩
    ·cases h;simp only [↓AJ,AL,↓reduceIte,bj,bh,b5,m0,m1,m2,m3,m4,m5,m6,m7,e3,e4.1,e4.2,e5f,c6,e7,decide_eq_true e8,Cw,Cx]
    ·rcases iS h with⟨e9,h⟩|⟨e9,h⟩
     ·cases h;simp only [↓AJ,AL,↓reduceIte,bj,bh,b5,m0,m1,m2,m3,m4,m5,m6,m7,e3,e4.1,e4.2,e5f,c6,e7,e8,e9,Cw,Cx]
     ·cases h;simp only [↓AJ,AL,↓reduceIte,bj,bh,b5,m0,m1,m2,m3,m4,m5,m6,m7,e3,e4.1,e4.2,e5f,c6,e7,e8,e9,Cw,Cx]
   ·cases h;simp only [↓AJ,AL,↓reduceIte,bj,bh,b5,m0,m1,m2,m3,m4,m5,m6,m7,e3,e4.1,e4.2,e5f,c6,e7,Cw,Cx]
 ·cases h;simp only [↓AJ,AL,↓reduceIte,bj,bh,m0,m1,m3,m4,m6,m7,e3,Cw,Mo,Gf]
def I7(A8:Ad)(AR A9:AO)(out Ah:Int)(s:St):Prop:=s.v 1=b7 [bk 79 (AQ (fun x=>bk 87 (Ak .i64 .i64 x)) A8),bk 3 (AQ (bc .i64) AR),bk 3 (AQ (bc .i64) A9)]∧s.v 3=bc .i64 out∧s.v 10=bc .i64 (A8.length:Int)∧s.v 11=bc .i64 Ah
def Mq(A8:Ad)(AR A9:AO)(r:Int)(ex:Ex)(s:St):Prop:=ex= .exit 0∧s.v 3=bc .i64 r
theorem aM(A8:Ad)(AR A9:AO){v:Int×Int}{s:St}{r:Int}(h:Ow A8 AR A9 v=some r)(hM:I7 A8 AR A9 v.1 v.2 s):BS Y.env A0y (Mq A8 AR A9 r) s:=by
 unfold Ow at h;refine Aw (c:=iG) (fun v=>KN A8 AR A9 v.1 v.2) (fun v s=>I7 A8 AR A9 v.1 v.2 s) (Mq A8 AR A9) ?_ h hM;clear h hM s v r;intro v s o hM h;obtain⟨out,Ah⟩:=v;dsimp only at h hM;unfold KN at h;unfold I7 at hM;obtain⟨m0,m1,m2,m3⟩:=hM;unfold iG;rcases iS h with⟨e1,h⟩|⟨e1,h⟩
 ·obtain⟨e2,h⟩:=Cu h;obtain⟨AU,hl4,h⟩:=Ag h;try dsimp only at h
  simp only [↓AJ,AL,↓reduceIte,bj,bh,m0,m2,m3,e1,e2.1,e2.2];refine Al (aL A8 AR A9 Ah hl4 ?_) ?_
  ·simp only [BK,↓reduceIte,bj,m0,m1,m2,m3,Cw]
  ·intro ex4 s4 hX4;unfold Mo at hX4;obtain⟨rfl,n4_0,n4_1,n4_2,n4_3⟩:=hX4;cases h;simp only [↓AJ,AL,↓reduceIte,bj,bh,n4_0,n4_1,n4_2,n4_3,I7,Cx]
 ·cases h;simp only [↓AJ,AL,↓reduceIte,bj,bh,m1,m2,m3,e1,I7,Mq,Gf]
theorem iH(A8:Ad)(AR A9:AO){r:Int}(h:RZ A8 AR A9=some r):Y.call 110 [bw [bk 79 (AQ (fun x=>bk 87 (Ak .i64 .i64 x)) A8),bk 3 (AQ (bc .i64) AR),bk 3 (AQ (bc .i64) A9)]] []=some (bc .i64 r,[]):=by
 refine AT7 ?_ rfl;unfold AF0;unfold RZ at h;obtain⟨Au,hl2,h⟩:=Ag h;try dsimp only at h
 simp only [↓AJ,AL,↓reduceIte,bj,bh,bx];refine Al (aM A8 AR A9 hl2 ?_) ?_
 ·simp only [BK,↓reduceIte,bj,I7]
 ·intro ex2 s2 hX2;unfold Mq at hX2;obtain⟨rfl,n2_0⟩:=hX2;cases h;simp only [↓AJ,AL,↓reduceIte,bj,bh,n2_0]
def Q5(A8:Ad)(AR A9:AO):Option (Bool):= (UU A8 AR A9).bind fun r4_=> if r4_=true then some false else (RZ A8 AR A9).bind fun Vz=> some (decide (Vz=0))
def k77:SC:= .seq (.ops [oX 1 (.box 38 (tK 0)) 0,oX 2 Ba 4]) (.seq (.ops [oL 3 38 1 38,oC 4 109 [(tK 3)] [38] 4,oX 5 (.unOp .not 4 (tK 4)) 4,oM 6 5 4,⟨some 7,.load 38 (tK 1),38,(some (some 6,true))⟩,⟨some 8,.call ⟨(.value (.func 110)), #[(tK 7)], #[38]⟩,3,(some (some 6,true))⟩,⟨some 9,.binOp .eql 3 (tK 8) (iK 0) 3,4,(some (some 6,true))⟩,oX 10 (.pick (tK 6) (tK 9) LK) 4,oA 2 10 4]) .ret)
theorem AF1:Tryz.f77.body.map (BP lends)=some k77:=by kernel_rfl
theorem ATA:BR Tryz.f77 1=true:=by kernel_rfl
theorem c77{a l:List D}{r:D×List D}(h:BS Y.env k77 (fin Aj l.length [bt 2] r) (entry a l))(ha:a.length=1):Y.call 77 a l=some r:=
 AY (Y:=Y) rfl Tryz.func77 (ha▸ATA) AF1 h
theorem aN(A8:Ad)(AR A9:AO){r:Bool}(h:Q5 A8 AR A9=some r):Y.call 77 [bw [bk 79 (AQ (fun x=>bk 87 (Ak .i64 .i64 x)) A8),bk 3 (AQ (bc .i64) AR),bk 3 (AQ (bc .i64) A9)]] []=some (bp r,[]):=by
 refine c77 ?_ rfl;unfold k77;unfold Q5 at h;obtain⟨r4_,hl1,h⟩:=Ag h;have c1:=ko A8 AR A9 hl1;rcases iS h with⟨e2,h⟩|⟨e2,h⟩
 ·cases h;simp only [↓AJ,AL,↓reduceIte,bj,bh,c1,e2]
 ·have e2f:r4_=false:=G8.mpr e2;obtain⟨Vz,hl3,h⟩:=Ag h;try dsimp only at h
  have c3:=iH A8 AR A9 hl3;cases h;simp only [↓AJ,AL,↓reduceIte,bj,bh,c1,e2f,c3]
def Jf(r_:Int)(FY:AO)(out:AO)(Bd:Int):Option ((AO×Int)⊕(AO)):= if Bd<(FY.length:Int)then ck (0≤Bd∧Bd.toNat<FY.length)<| if(Jz (FY.getD Bd.toNat be) (0:Int) r_)=true then ck (out.length+1<1099511627776)<| some (bo ((out++[Bd]),bm.wrap (Bd+1))) else some (bo (out,bm.wrap (Bd+1))) else some (bl out)
def Qi(r_:Int)(FY:AO)(v:AO×Int):Option (AO):=Dq (fun v=>Jf r_ FY v.1 v.2) v
def UV(A8:Ad)(AR A9:AO)(v_ r_:Int):Option (AO):= (OI A8 AR A9 v_).bind fun FY=> (Qi r_ FY ([],0)).bind fun AU=> some AU
def iI:SC:= .seq (.ops [oB 15 .lss 3 (tK 14) (tK 13) 3 0]) (.seq (.cond (tK 15) .skip (.exit 0)) (.seq (.block 1 (.seq (.ops [oM 16 14 3,oI 17 26 12 14,oL 18 3 17 3,oA 8 16 3,oA 9 18 3]) (.seq (.ops [oM 19 9 3,oM 20 2 3,oC 21 82 [(tK 19),(iK 0),(tK 20)] [3,3,3] 4]) (.cond (tK 21) (.ops [oM 22 7 26,oM 23 8 3,oX 24 (.buildSlice 26 1 #[(0,(tK 23))]) 26,oX 25 (.call ⟨(.builtin .append), #[(tK 22),(tK 24)], #[26,26]⟩) 26,oA 7 25 26]) .skip)))) (.ops [oB 26 .add 3 (tK 14) (iK 1) 3 3,oM 14 26 3])))
def A0z:SC:= .loop iI
def AF2:SC:= .seq (.ops [oX 3 (.box 38 (tK 0)) 0,oX 6 Gv 26]) (.seq (.ops [oX 7 Gv 26]) (.seq (.seq (.ops [oL 10 38 3 38,oM 11 1 3,oC 12 134 [(tK 10),(tK 11)] [38,3] 26,oN 13 12 26,oX 14 (.move (iK 0)) 3]) (.block 0 A0z)) (.seq (.ops [oM 27 7 26,oA 6 27 26]) .ret)))
theorem A86:Tryz.f113.body.map (BP lends)=some AF2:=by kernel_rfl
theorem AMG:BR Tryz.f113 3=true:=by kernel_rfl
theorem ATB{a l:List D}{r:D×List D}(h:BS Y.env AF2 (fin Aj l.length [bt 6] r) (entry a l))(ha:a.length=3):Y.call 113 a l=some r:=
 AY (Y:=Y) rfl Tryz.func113 (ha▸AMG) A86 h
def Gs(r_:Int)(FY:AO)(out:AO)(Bd:Int)(s:St):Prop:=s.v 2=bc .i64 r_∧s.v 7=br 3 (AQ (bc .i64) out)∧s.v 12=br 3 (AQ (bc .i64) FY)∧s.v 13=bc .i64 (FY.length:Int)∧s.v 14=bc .i64 Bd
def Ng(r_:Int)(FY:AO)(r:AO)(ex:Ex)(s:St):Prop:=ex= .exit 0∧s.v 7=br 3 (AQ (bc .i64) r)
theorem iJ(r_:Int)(FY:AO){v:AO×Int}{s:St}{r:AO}(h:Qi r_ FY v=some r)(hM:Gs r_ FY v.1 v.2 s):BS Y.env A0z (Ng r_ FY r) s:=by
 unfold Qi at h;refine Aw (c:=iI) (fun v=>Jf r_ FY v.1 v.2) (fun v s=>Gs r_ FY v.1 v.2 s) (Ng r_ FY) ?_ h hM;clear h hM s v r;intro v s o hM h;obtain⟨out,Bd⟩:=v;dsimp only at h hM;unfold Jf at h;unfold Gs at hM;obtain⟨m0,m1,m2,m3,m4⟩:=hM;unfold iI;rcases iS h with⟨e2,h⟩|⟨e2,h⟩
 ·obtain⟨e3,h⟩:=Cu h;have c4:=JH (FY.getD Bd.toNat be) (0:Int) r_;rcases iS h with⟨e5,h⟩|⟨e5,h⟩
  ·obtain⟨e6,h⟩:=Cu h;cases h;simp only [↓AJ,AL,↓reduceIte,bj,bh,b5,m0,m1,m2,m3,m4,e2,e3.1,e3.2,c4,e5,e6,Gs,Cx]
  ·have e5f:(Jz (FY.getD Bd.toNat be) (0:Int) r_)=false:=G8.mpr e5;cases h;simp only [↓AJ,AL,↓reduceIte,bj,bh,m0,m1,m2,m3,m4,e2,e3.1,e3.2,c4,e5f,Gs,Cx]
 ·cases h;simp only [↓AJ,AL,↓reduceIte,bj,bh,m1,m3,m4,e2,Gs,Ng,Gf]
theorem l6(A8:Ad)(AR A9:AO)(v_ r_:Int){r:AO}(h:UV A8 AR A9 v_ r_=some r):Y.call 113 [bw [bk 79 (AQ (fun x=>bk 87 (Ak .i64 .i64 x)) A8),bk 3 (AQ (bc .i64) AR),bk 3 (AQ (bc .i64) A9)],bc .i64 v_,bc .i64 r_] []=some (br 3 (AQ (bc .i64) r),[]):=by
 refine ATB ?_ rfl;unfold AF2;unfold UV at h;obtain⟨FY,hl1,h⟩:=Ag h;have c1:=VO A8 AR A9 v_ hl1;obtain⟨AU,hl3,h⟩:=Ag h;try dsimp only at h
 simp only [↓AJ,AL,↓reduceIte,bj,bh,c1];refine Al (iJ r_ FY hl3 ?_) ?_
 ·simp only [BK,Cg,↓reduceIte,bj,bh,Gs]<;>(repeat' apply A7)<;>first|rfl|exact⟨_,rfl⟩|exact⟨_,_,rfl⟩|simp [AQ,Ay]
 ·intro ex3 s3 hX3;unfold Ng at hX3;obtain⟨rfl,n3_0⟩:=hX3;cases h;simp only [↓AJ,AL,↓reduceIte,bj,bh,n3_0]
def I8(A8:Ad)(AR A9 out:AO)(GI:Int):Option ((AO×Int)⊕(AO)):= if GI<(A8.length:Int)then (UV A8 AR A9 GI (40:Int)).bind fun Vn=> ck (0<Vn.length)<| ck (out.length+1<1099511627776)<| some (bo ((out++[(Vn.getD 0 be)]),bm.wrap (GI+1))) else some (bl out)
def Ox(A8:Ad)(AR A9:AO)(v:AO×Int):Option (AO):=Dq (fun v=>I8 A8 AR A9 v.1 v.2) v
def Ra(A8:Ad)(AR A9:AO):Option (AO):= (Ox A8 AR A9 ([],0)).bind fun AU=> some AU
def rW:SC:= .seq (.ops [oB 9 .lss 3 (tK 8) (tK 7) 3 0]) (.seq (.cond (tK 9) .skip (.exit 0)) (.seq (.block 1 (.seq (.ops [oM 10 8 3,oA 4 10 3]) (.ops [oM 11 3 26,oL 12 38 1 38,oM 13 4 3,oC 14 113 [(tK 12),(tK 13),(iK 40)] [38,3,3] 26,oX 15 (.indexAddr 26 (tK 14) (iK 0)) 0,oL 16 3 15 3,oX 17 (.buildSlice 26 1 #[(0,(tK 16))]) 26,oX 18 (.call ⟨(.builtin .append), #[(tK 11),(tK 17)], #[26,26]⟩) 26,oA 3 18 26]))) (.ops [oB 19 .add 3 (tK 8) (iK 1) 3 3,oM 8 19 3])))
def A5f:SC:= .loop rW
def k83:SC:= .seq (.ops [oX 1 (.box 38 (tK 0)) 0,oX 2 Gv 26]) (.seq (.ops [oX 3 Gv 26]) (.seq (.seq (.ops [oF 5 38 1 0,oL 6 36 5 36,oN 7 6 36,oX 8 (.move (iK 0)) 3]) (.block 0 A5f)) (.seq (.ops [oM 20 3 26,oA 2 20 26]) .ret)))
theorem AF3:Tryz.f83.body.map (BP lends)=some k83:=by kernel_rfl
theorem ATD:BR Tryz.f83 1=true:=by kernel_rfl
theorem c83{a l:List D}{r:D×List D}(h:BS Y.env k83 (fin Aj l.length [bt 2] r) (entry a l))(ha:a.length=1):Y.call 83 a l=some r:=
 AY (Y:=Y) rfl Tryz.func83 (ha▸ATD) AF3 h
def I9(A8:Ad)(AR A9 out:AO)(GI:Int)(s:St):Prop:=s.v 1=b7 [bk 79 (AQ (fun x=>bk 87 (Ak .i64 .i64 x)) A8),bk 3 (AQ (bc .i64) AR),bk 3 (AQ (bc .i64) A9)]∧s.v 3=br 3 (AQ (bc .i64) out)∧s.v 7=bc .i64 (A8.length:Int)∧s.v 8=bc .i64 GI
def Mr(A8:Ad)(AR A9:AO)(r:AO)(ex:Ex)(s:St):Prop:=ex= .exit 0∧s.v 3=br 3 (AQ (bc .i64) r)
theorem aO(A8:Ad)(AR A9:AO){v:AO×Int}{s:St}{r:AO}(h:Ox A8 AR A9 v=some r)(hM:I9 A8 AR A9 v.1 v.2 s):BS Y.env A5f (Mr A8 AR A9 r) s:=by
 unfold Ox at h;refine Aw (c:=rW) (fun v=>I8 A8 AR A9 v.1 v.2) (fun v s=>I9 A8 AR A9 v.1 v.2 s) (Mr A8 AR A9) ?_ h hM;clear h hM s v r;intro v s o hM h;obtain⟨out,GI⟩:=v;dsimp only at h hM;unfold I8 at h;unfold I9 at hM;obtain⟨m0,m1,m2,m3⟩:=hM;unfold rW;rcases iS h with⟨e1,h⟩|⟨e1,h⟩
 ·obtain⟨Vn,hl2,h⟩:=Ag h;have c2:=l6 A8 AR A9 GI (40:Int) hl2;obtain⟨e3,e4,h⟩:=Dr h;cases h;simp only [↓AJ,AL,↓reduceIte,bj,bh,b5,m0,m1,m2,m3,e1,c2,e3,e4,I9,Cx]
 ·cases h;simp only [↓AJ,AL,↓reduceIte,bj,bh,m1,m2,m3,e1,I9,Mr,Gf]
theorem iL(A8:Ad)(AR A9:AO){r:AO}(h:Ra A8 AR A9=some r):Y.call 83 [bw [bk 79 (AQ (fun x=>bk 87 (Ak .i64 .i64 x)) A8),bk 3 (AQ (bc .i64) AR),bk 3 (AQ (bc .i64) A9)]] []=some (br 3 (AQ (bc .i64) r),[]):=by
 refine c83 ?_ rfl;unfold k83;unfold Ra at h;obtain⟨AU,hl2,h⟩:=Ag h;try dsimp only at h
 simp only [↓AJ,AL,↓reduceIte,bj,bh,bx];refine Al (aO A8 AR A9 hl2 ?_) ?_
 ·simp only [BK,↓reduceIte,bj,I9]<;>(repeat' apply A7)<;>first|rfl|exact⟨_,rfl⟩|exact⟨_,_,rfl⟩|simp [AQ,Ay]
 ·intro ex2 s2 hX2;unfold Mr at hX2;obtain⟨rfl,n2_0⟩:=hX2;cases h;simp only [↓AJ,AL,↓reduceIte,bj,bh,n2_0]
def Sr(pL pD:Int)(pN pE:AX)(A8:Ad)(AR A9:AO):Option (Bool):= ck (BQ pN)<| ck (BQ pE)<| if(M7 pL pD pN pE)=true then ck (Cf A8)<| ck (AR.length<1099511627776)<| ck (A9.length<1099511627776)<| if(Dt A8 AR A9)=true then (Q5 A8 AR A9).bind fun AMH=> some AMH else some false else some false
def k45:SC:= .seq (.ops [oX 2 (.box 34 (tK 0)) 0,oX 3 (.box 38 (tK 1)) 0,oX 4 Ba 4]) (.seq (.ops [oL 5 34 2 34,oC 6 57 [(tK 5)] [34] 4,oM 7 6 4,⟨some 8,.load 38 (tK 3),38,(some (some 7,true))⟩,⟨some 9,.call ⟨(.value (.func 58)), #[(tK 8)], #[38]⟩,4,(some (some 7,true))⟩,oX 10 (.pick (tK 7) (tK 9) LK) 4,oM 11 10 4,⟨some 12,.load 38 (tK 3),38,(some (some 11,true))⟩,⟨some 13,.call ⟨(.value (.func 77)), #[(tK 12)], #[38]⟩,4,(some (some 11,true))⟩,oX 14 (.pick (tK 11) (tK 13) LK) 4,oA 4 14 4]) .ret)
theorem AF4:Tryz.f45.body.map (BP lends)=some k45:=by kernel_rfl
theorem ATF:BR Tryz.f45 2=true:=by kernel_rfl
theorem c45{a l:List D}{r:D×List D}(h:BS Y.env k45 (fin Aj l.length [bt 4] r) (entry a l))(ha:a.length=2):Y.call 45 a l=some r:=
 AY (Y:=Y) rfl Tryz.func45 (ha▸ATF) AF4 h
theorem aP(pL pD:Int)(pN pE:AX)(A8:Ad)(AR A9:AO){r:Bool}(h:Sr pL pD pN pE A8 AR A9=some r):Y.call 45 [bw [bc .i64 pL,bc .i64 pD,bk 26 (AQ BX pN),bk 26 (AQ BX pE)],bw [bk 79 (AQ (fun x=>bk 87 (Ak .i64 .i64 x)) A8),bk 3 (AQ (bc .i64) AR),bk 3 (AQ (bc .i64) A9)]] []=some (bp r,[]):=by
 refine c45 ?_ rfl;unfold k45;unfold Sr at h;obtain⟨e1,e2,h⟩:=Dr h;have c3:=wV pL pD pN pE e1 e2;rcases iS h with⟨e4,h⟩|⟨e4,h⟩
 ·obtain⟨e5,e6,e7,h⟩:=NC h;have c8:=ZP A8 AR A9 e5 e6 e7;rcases iS h with⟨e9,h⟩|⟨e9,h⟩
  ·obtain⟨AMH,hl10,h⟩:=Ag h;try dsimp only at h
   have Uq:=aN A8 AR A9 hl10;cases h;simp only [↓AJ,AL,↓reduceIte,bj,bh,c3,e4,c8,e9,Uq]
  ·have e9f:(Dt A8 AR A9)=false:=G8.mpr e9;cases h;simp only [↓AJ,AL,↓reduceIte,bj,bh,c3,e4,c8,e9f]
 ·have e4f:(M7 pL pD pN pE)=false:=G8.mpr e4;cases h;simp only [↓AJ,AL,↓reduceIte,bj,bh,c3,e4f]
def IA(A8:Ad)(out:AX)(Ah:Int)(row:AO)(Jj:Int):Option ((AO×Int)⊕(AO)):= if Jj<((ap (A8.getD Ah.toNat be).length 0).length:Int)then ck (0≤Jj∧Jj.toNat<row.length)<| some (bo ((row.set Jj.toNat (-1)),bm.wrap (Jj+1))) else some (bl row)
def Ms(A8:Ad)(out:AX)(Ah:Int)(v:AO×Int):Option (AO):=Dq (fun v=>IA A8 out Ah v.1 v.2) v
def IB(A8:Ad)(out:AX)(Ah:Int):Option ((AX×Int)⊕(AX)):= if Ah<(A8.length:Int)then ck (0≤Ah∧Ah.toNat<A8.length)<| ck (0≤((A8.getD Ah.toNat be).length:Int)∧((A8.getD Ah.toNat be).length:Int)<1099511627776)<| (Ms A8 out Ah ((ap (A8.getD Ah.toNat be).length 0),0)).bind fun AU=> ck (out.length+1<1099511627776)<| some (bo ((out++[AU]),bm.wrap (Ah+1))) else some (bl out)
def Oy(A8:Ad)(v:AX×Int):Option (AX):=Dq (fun v=>IB A8 v.1 v.2) v
def Rb(A8:Ad)(AR A9:AO):Option (AX):= (Oy A8 ([],0)).bind fun Au=> some Au
def rX:SC:= .seq (.ops [oB 21 .lss 3 (tK 20) (tK 19) 3 0]) (.seq (.cond (tK 21) .skip (.exit 2)) (.seq (.block 3 (.seq (.ops [oM 22 20 3,oA 7 22 3]) (.ops [oM 23 6 26,oM 24 7 3,oI 25 26 23 24,⟨none,(.store 3 (tK 25) wL),0,none⟩]))) (.ops [oB 26 .add 3 (tK 20) (iK 1) 3 3,oM 20 26 3])))
def A5g:SC:= .loop rX
def rY:SC:= .seq (.ops [oB 12 .lss 3 (tK 11) (tK 10) 3 0]) (.seq (.cond (tK 12) .skip (.exit 0)) (.seq (.block 1 (.seq (.ops [oI 13 36 9 11,oL 14 79 13 79,oA 5 14 79]) (.seq (.ops [oM 15 5 79,oN 16 15 79,oX 17 (.makeSlice 26 (tK 16) (tK 16)) 26,oA 6 17 26]) (.seq (.seq (.ops [oM 18 6 26,oN 19 18 26,oX 20 (.move (iK 0)) 3]) (.block 2 A5g)) (.ops [oM 27 3 22,oM 28 6 26,oX 29 (.buildSlice 22 1 #[(0,(tK 28))]) 22,oX 30 (.call ⟨(.builtin .append), #[(tK 27),(tK 29)], #[22,22]⟩) 22,oA 3 30 22]))))) (.ops [oB 31 .add 3 (tK 11) (iK 1) 3 3,oM 11 31 3])))
def A5h:SC:= .loop rY
def k50:SC:= .seq (.ops [oX 1 (.box 38 (tK 0)) 0,oX 2 Gv 22]) (.seq (.ops [oX 3 Gv 22]) (.seq (.seq (.ops [oF 8 38 1 0,oL 9 36 8 36,oN 10 9 36,oX 11 (.move (iK 0)) 3]) (.block 0 A5h)) (.seq (.ops [oM 32 3 22,oA 2 32 22]) .ret)))
theorem AF5:Tryz.f50.body.map (BP lends)=some k50:=by kernel_rfl
theorem ATH:BR Tryz.f50 1=true:=by kernel_rfl
theorem c50{a l:List D}{r:D×List D}(h:BS Y.env k50 (fin Aj l.length [bt 2] r) (entry a l))(ha:a.length=1):Y.call 50 a l=some r:=
 AY (Y:=Y) rfl Tryz.func50 (ha▸ATH) AF5 h
def IC(A8:Ad)(out:AX)(Ah:Int)(row:AO)(Jj:Int)(s:St):Prop:=s.v 3=br 26 (AQ Jp out)∧s.v 6=br 3 (AQ (bc .i64) row)∧s.v 9=bk 79 (AQ (fun x=>bk 87 (Ak .i64 .i64 x)) A8)∧s.v 10=bc .i64 (A8.length:Int)∧s.v 11=bc .i64 Ah∧s.v 19=bc .i64 ((ap (A8.getD Ah.toNat be).length 0).length:Int)∧s.v 20=bc .i64 Jj
def Mt(A8:Ad)(out:AX)(Ah:Int)(r:AO)(ex:Ex)(s:St):Prop:=ex= .exit 2∧s.v 3=br 26 (AQ Jp out)∧s.v 6=br 3 (AQ (bc .i64) r)∧s.v 9=bk 79 (AQ (fun x=>bk 87 (Ak .i64 .i64 x)) A8)∧s.v 10=bc .i64 (A8.length:Int)∧s.v 11=bc .i64 Ah
theorem aQ(A8:Ad)(out:AX)(Ah:Int){v:AO×Int}{s:St}{r:AO}(h:Ms A8 out Ah v=some r)(hM:IC A8 out Ah v.1 v.2 s):BS Y.env A5g (Mt A8 out Ah r) s:=by
 unfold Ms at h;refine Aw (c:=rX) (fun v=>IA A8 out Ah v.1 v.2) (fun v s=>IC A8 out Ah v.1 v.2 s) (Mt A8 out Ah) ?_ h hM;clear h hM s v r;intro v s o hM h;obtain⟨row,Jj⟩:=v;dsimp only at h hM;unfold IA at h;unfold IC at hM;obtain⟨m0,m1,m2,m3,m4,m5,m6⟩:=hM;unfold rX;rcases iS h with⟨e4,h⟩|⟨e4,h⟩
 ·obtain⟨e5,h⟩:=Cu h;cases h;simp only [↓AJ,AL,↓reduceIte,bj,bh,m0,m1,m2,m3,m4,m5,m6,e4,e5.1,e5.2,IC,Cx]
 ·cases h;simp only [↓AJ,AL,↓reduceIte,bj,bh,m0,m1,m2,m3,m4,m5,m6,e4,IC,Mt,Gf]
def IE(A8:Ad)(out:AX)(Ah:Int)(s:St):Prop:=s.v 3=br 26 (AQ Jp out)∧s.v 9=bk 79 (AQ (fun x=>bk 87 (Ak .i64 .i64 x)) A8)∧s.v 10=bc .i64 (A8.length:Int)∧s.v 11=bc .i64 Ah
def Mv(A8:Ad)(r:AX)(ex:Ex)(s:St):Prop:=ex= .exit 0∧s.v 3=br 26 (AQ Jp r)
theorem aR(A8:Ad){v:AX×Int}{s:St}{r:AX}(h:Oy A8 v=some r)(hM:IE A8 v.1 v.2 s):BS Y.env A5h (Mv A8 r) s:=by
 unfold Oy at h;refine Aw (c:=rY) (fun v=>IB A8 v.1 v.2) (fun v s=>IE A8 v.1 v.2 s) (Mv A8) ?_ h hM;clear h hM s v r;intro v s o hM h;obtain⟨out,Ah⟩:=v;dsimp only at h hM;unfold IB at h;unfold IE at hM;obtain⟨m0,m1,m2,m3⟩:=hM;unfold rY;rcases iS h with⟨e1,h⟩|⟨e1,h⟩
 ·obtain⟨e2,e3,h⟩:=Dr h;obtain⟨AU,hl5,h⟩:=Ag h;try dsimp only at h
  simp only [↓AJ,AL,↓reduceIte,bj,bh,b5,m1,m2,m3,e1,e2.1,e2.2,e3.1,e3.2];refine Al (aQ A8 out Ah hl5 ?_) ?_
  ·simp only [BK,↓reduceIte,bj,m0,m1,m2,m3,IC]<;>(repeat' apply A7)<;>first|rfl|exact⟨_,rfl⟩|exact⟨_,_,rfl⟩|simp [AQ]
  ·intro ex5 s5 hX5;unfold Mt at hX5;obtain⟨rfl,n5_0,n5_1,n5_2,n5_3,n5_4⟩:=hX5;obtain⟨e6,h⟩:=Cu h;cases h;simp only [↓AJ,AL,↓reduceIte,bj,bh,b5,n5_0,n5_1,n5_2,n5_3,n5_4,e6,IE,Cx]
 ·cases h;simp only [↓AJ,AL,↓reduceIte,bj,bh,m0,m2,m3,e1,IE,Mv,Gf]
theorem iM(A8:Ad)(AR A9:AO){r:AX}(h:Rb A8 AR A9=some r):Y.call 50 [bw [bk 79 (AQ (fun x=>bk 87 (Ak .i64 .i64 x)) A8),bk 3 (AQ (bc .i64) AR),bk 3 (AQ (bc .i64) A9)]] []=some (br 26 (AQ Jp r),[]):=by
 refine c50 ?_ rfl;unfold k50;unfold Rb at h;obtain⟨Au,hl2,h⟩:=Ag h;try dsimp only at h
 simp only [↓AJ,AL,↓reduceIte,bj,bh,bx];refine Al (aR A8 hl2 ?_) ?_
 ·simp only [BK,↓reduceIte,bj,IE]<;>(repeat' apply A7)<;>first|rfl|exact⟨_,rfl⟩|exact⟨_,_,rfl⟩|simp [AQ,Ay]
 ·intro ex2 s2 hX2;unfold Mv at hX2;obtain⟨rfl,n2_0⟩:=hX2;cases h;simp only [↓AJ,AL,↓reduceIte,bj,bh,n2_0]
def J7(a b:Int):Option (Int):= (Kh (bm.wrap (a+b)) (1000000000001:Int)).bind fun Vz=> some Vz
def AF6:SC:= .seq (.ops [oX 4 (.assign (iK 0)) 3]) (.seq (.ops [oM 5 0 3,oM 6 1 3,oB 7 .add 3 (tK 5) (tK 6) 3 3,oC 8 114 [(tK 7),(iK 1000000000001)] [3,3] 3,oA 4 8 3]) .ret)
theorem A87:Tryz.f115.body.map (BP lends)=some AF6:=by kernel_rfl
theorem AMI:BR Tryz.f115 2=true:=by kernel_rfl
theorem ATJ{a l:List D}{r:D×List D}(h:BS Y.env AF6 (fin Aj l.length [bt 4] r) (entry a l))(ha:a.length=2):Y.call 115 a l=some r:=
 AY (Y:=Y) rfl Tryz.func115 (ha▸AMI) A87 h
theorem Gt(a b:Int){r:Int}(h:J7 a b=some r):Y.call 115 [bc .i64 a,bc .i64 b] []=some (bc .i64 r,[]):=by
 refine ATJ ?_ rfl;unfold AF6;unfold J7 at h;obtain⟨Vz,hl1,h⟩:=Ag h;try dsimp only at h
 have c1:=Mg (bm.wrap (a+b)) (1000000000001:Int) hl1;cases h;simp only [↓AJ,AL,↓reduceIte,bj,bh,c1]
def IG(a b:Int):Option (Int):= if 0<a then ck (¬a=0)<| if(bm.wrap ((1000000000001:Int).tdiv a))<b then some 1000000000001 else (Kh (bm.wrap (a*b)) (1000000000001:Int)).bind fun YM=> some YM else (Kh (bm.wrap (a*b)) (1000000000001:Int)).bind fun YM=> some YM
def k84:SC:= .seq (.ops [oX 4 (.assign (iK 0)) 3]) (.seq (.seq (.ops [oM 5 0 3,oB 6 .gtr 3 (tK 5) (iK 0) 3 4,oM 7 6 4,⟨some 8,.move (tK 1),3,(some (some 7,true))⟩,⟨some 9,.move (tK 0),3,(some (some 7,true))⟩,⟨some 10,.binOp .quo 3 (iK 1000000000001) (tK 9) 3,3,(some (some 7,true))⟩,⟨some 11,.binOp .gtr 3 (tK 8) (tK 10) 3,4,(some (some 7,true))⟩,oX 12 (.pick (tK 7) (tK 11) LK) 4]) (.cond (tK 12) (.seq (.ops [oX 4 (.assign (iK 1000000000001)) 3]) .ret) .skip)) (.seq (.ops [oM 13 0 3,oM 14 1 3,oB 15 .mul 3 (tK 13) (tK 14) 3 3,oC 16 114 [(tK 15),(iK 1000000000001)] [3,3] 3,oA 4 16 3]) .ret))
theorem AF7:Tryz.f84.body.map (BP lends)=some k84:=by kernel_rfl
theorem ATL:BR Tryz.f84 2=true:=by kernel_rfl
theorem c84{a l:List D}{r:D×List D}(h:BS Y.env k84 (fin Aj l.length [bt 4] r) (entry a l))(ha:a.length=2):Y.call 84 a l=some r:=
 AY (Y:=Y) rfl Tryz.func84 (ha▸ATL) AF7 h
theorem II(a b:Int){r:Int}(h:IG a b=some r):Y.call 84 [bc .i64 a,bc .i64 b] []=some (bc .i64 r,[]):=by
 refine c84 ?_ rfl;unfold k84;unfold IG at h;rcases iS h with⟨e1,h⟩|⟨e1,h⟩
 ·obtain⟨e2,h⟩:=Cu h;rcases iS h with⟨e3,h⟩|⟨e3,h⟩
  ·cases h;simp only [↓AJ,AL,↓reduceIte,bj,bh,e1,e2,e3]
  ·obtain⟨YM,hl4,h⟩:=Ag h;try dsimp only at h
   have c4:=Mg (bm.wrap (a*b)) (1000000000001:Int) hl4;cases h;simp only [↓AJ,AL,↓reduceIte,bj,bh,e1,e2,e3,c4]
 ·obtain⟨YM,hl2,h⟩:=Ag h;try dsimp only at h
  have c2:=Mg (bm.wrap (a*b)) (1000000000001:Int) hl2;cases h;simp only [↓AJ,AL,↓reduceIte,bj,bh,e1,c2]
def Jg(rec_:AO→AX→Int→Int→Int→Option Int)(Gd:AO)(Bv:AX)(BO Bc Cs Ah CW:Int):Option ((Int×Int)⊕(Int)):= if CW<(Gd.length:Int)then ck (0≤CW∧CW.toNat<Gd.length)<| if BO=Bc then if Cs=(Gd.getD CW.toNat be)then if 0<CW then ck (0≤bm.wrap (CW-1)∧(bm.wrap (CW-1)).toNat<Gd.length)<| if(Gd.getD ((bm.wrap (CW-1)).toNat) be)=(Gd.getD CW.toNat be)then some (bo (Ah,bm.wrap (CW+1))) else ck (0≤CW)<| ck (CW.toNat≤Gd.length)<| (KZ ((Gd.take CW.toNat).drop 0)).bind fun EL=> ck (0≤bm.wrap (CW+1))<| ck ((bm.wrap (CW+1)).toNat≤Gd.length)<| ck (EL.length+((Gd.take Gd.length).drop ((bm.wrap (CW+1)).toNat)).length<1099511627776)<| (rec_ (EL++((Gd.take Gd.length).drop ((bm.wrap (CW+1)).toNat))) Bv (bm.wrap (BO+1)) Bc Cs).bind fun UW=> (IG (1:Int) UW).bind fun UX=> (J7 Ah UX).bind fun Yc=> some (bo (Yc,bm.wrap (CW+1))) else ck (0≤CW)<| ck (CW.toNat≤Gd.length)<| (KZ ((Gd.take CW.toNat).drop 0)).bind fun EL=> ck (0≤bm.wrap (CW+1))<| ck ((bm.wrap (CW+1)).toNat≤Gd.length)<| ck (EL.length+((Gd.take Gd.length).drop ((bm.wrap (CW+1)).toNat)).length<1099511627776)<|
 (rec_ (EL++((Gd.take Gd.length).drop ((bm.wrap (CW+1)).toNat))) Bv (bm.wrap (BO+1)) Bc Cs).bind fun UW=> (IG (1:Int) UW).bind fun UX=> (J7 Ah UX).bind fun Yc=> some (bo (Yc,bm.wrap (CW+1))) else some (bo (Ah,bm.wrap (CW+1))) else ck (0≤BO∧BO.toNat<Bv.length)<| ck (0≤(Gd.getD CW.toNat be)∧(Gd.getD CW.toNat be).toNat<(Bv.getD BO.toNat be).length)<| if((Bv.getD BO.toNat be).getD ((Gd.getD CW.toNat be).toNat) be)=0 then some (bo (Ah,bm.wrap (CW+1))) else if 0<CW then ck (0≤bm.wrap (CW-1)∧(bm.wrap (CW-1)).toNat<Gd.length)<| if(Gd.getD ((bm.wrap (CW-1)).toNat) be)=(Gd.getD CW.toNat be)then some (bo (Ah,bm.wrap (CW+1))) else ck (0≤CW)<| ck (CW.toNat≤Gd.length)<| (KZ ((Gd.take CW.toNat).drop 0)).bind fun EL=> ck (0≤bm.wrap (CW+1))<| ck ((bm.wrap (CW+1)).toNat≤Gd.length)<| ck (EL.length+((Gd.take Gd.length).drop ((bm.wrap (CW+1)).toNat)).length<1099511627776)<| (rec_ (EL++((Gd.take Gd.length).drop ((bm.wrap (CW+1)).toNat))) Bv (bm.wrap (BO+1)) Bc Cs).bind fun UW=> (IG ((Bv.getD BO.toNat be).getD ((Gd.getD CW.toNat be).toNat) be) UW).bind fun UX=>
 (J7 Ah UX).bind fun Yc=> some (bo (Yc,bm.wrap (CW+1))) else ck (0≤CW)<| ck (CW.toNat≤Gd.length)<| (KZ ((Gd.take CW.toNat).drop 0)).bind fun EL=> ck (0≤bm.wrap (CW+1))<| ck ((bm.wrap (CW+1)).toNat≤Gd.length)<| ck (EL.length+((Gd.take Gd.length).drop ((bm.wrap (CW+1)).toNat)).length<1099511627776)<| (rec_ (EL++((Gd.take Gd.length).drop ((bm.wrap (CW+1)).toNat))) Bv (bm.wrap (BO+1)) Bc Cs).bind fun UW=> (IG ((Bv.getD BO.toNat be).getD ((Gd.getD CW.toNat be).toNat) be) UW).bind fun UX=> (J7 Ah UX).bind fun Yc=> some (bo (Yc,bm.wrap (CW+1))) else some (bl Ah)
def Qj(rec_:AO→AX→Int→Int→Int→Option Int)(Gd:AO)(Bv:AX)(BO Bc Cs:Int)(v:Int×Int):Option (Int):=Dq (fun v=>Jg rec_ Gd Bv BO Bc Cs v.1 v.2) v
def MC(rec_:AO→AX→Int→Int→Int→Option Int)(Gd:AO)(Bv:AX)(BO Bc Cs:Int):Option (Int):= if BO=(Bv.length:Int)then some 1 else (Qj rec_ Gd Bv BO Bc Cs (0,0)).bind fun AU=> some AU
def FV:Nat→AO→AX→Int→Int→Int→Option Int |0=>fun _ _ _ _ _=>none |n+1=>fun Gd Bv BO Bc Cs=>MC (FV n) Gd Bv BO Bc Cs
def iO(Gd:AO)(Bv:AX)(BO Bc Cs:Int):Option (Int):=FV 1000000 Gd Bv BO Bc Cs
abbrev Rc:List Nat:=[54,55,56,57,58,59,60,61,62,63,64,59,63,59,0,65,66,67,68,69,70,71,72,11,72]
def iP:SC:= .seq (.ops [oB 22 .lss 3 (tK 21) (tK 20) 3 0]) (.seq (.cond (tK 22) .skip (.exit 0)) (.seq (.block 1 (.seq (.ops [oM 23 21 3,oI 24 26 19 21,oL 25 3 24 3,oA 12 23 3,oA 13 25 3]) (.seq (.ops [oX 14 (.assign (iK 1)) 3]) (.seq (.seq (.ops [oM 26 2 3,oM 27 3 3,oB 28 .neq 3 (tK 26) (tK 27) 3 4]) (.cond (tK 28) (.ops [oM 29 1 22,oM 30 2 3,oI 31 22 29 30,oL 32 26 31 26,oM 33 13 3,oI 34 26 32 33,oL 35 3 34 3,oA 14 35 3]) (.seq (.ops [oM 36 4 3,oM 37 13 3,oB 38 .neq 3 (tK 36) (tK 37) 3 4]) (.cond (tK 38) (.ops [oX 14 (.assign (iK 0)) 3]) .skip)))) (.seq (.seq (.ops [oM 39 14 3,oB 40 .eql 3 (tK 39) (iK 0) 3 4,oM 41 40 4,⟨some 42,.move (tK 12),3,(some (some 41,false))⟩,⟨some 43,.binOp .gtr 3 (tK 42) (iK 0) 3,4,(some (some 41,false))⟩,⟨some 44,.move (tK 43),4,(some (some 41,false))⟩,⟨some 45,.move (tK 0),26,(some (some 44,true))⟩,⟨some 46,.move (tK 12),3,(some (some 44,true))⟩,⟨some 47,.binOp .sub 3 (tK 46) (iK 1) 3,3,(some (some 44,true))⟩,⟨some 48,.indexAddr 26 (tK 45) (tK 47),0,(some (some 44,true))⟩,⟨some 49,.load 3 (tK 48),3,(some (some 44,true))⟩,⟨some 50,.move (tK 13),3,(some (some 44,true))⟩,⟨some 51,.binOp .eql 3 (tK 49) (tK 50) 3,4,(some (some 44,true))⟩,
 ⟨some 52,.pick (tK 44) (tK 51) LK,4,(some (some 41,false))⟩,oX 53 (.pick (tK 41) Cy (tK 52)) 4]) (.cond (tK 53) (.exit 1) .skip)) (.draws [(⟨[54,11,11],Rc,[54]⟩,oM 54 11 3),(⟨[55,14,14],Rc,[55]⟩,oM 55 14 3),(⟨[56,0,0],Rc,[56]⟩,oM 56 0 26),(⟨[57,12,12],Rc,[57]⟩,oM 57 12 3),(⟨[58,56,57,0,12],Rc,[58]⟩,oX 58 (.slice 26 (tK 56) none (some (tK 57)) none) 26),(⟨[59,58,0],Rc,[59]⟩,oC 59 92 [(tK 58)] [26] 26),(⟨[60,0,0],Rc,[60]⟩,oM 60 0 26),(⟨[61,12,12],Rc,[61]⟩,oM 61 12 3),(⟨[62,61,12],Rc,[62]⟩,oB 62 .add 3 (tK 61) (iK 1) 3 3),(⟨[63,60,62,0,62],Rc,[63]⟩,oX 63 (.slice 26 (tK 60) (some (tK 62)) none none) 26),(⟨[64,59,63,59,0],Rc,[64,59,63,59,0]⟩,oX 64 (.call ⟨(.builtin .append), #[(tK 59),(tK 63)], #[26,26]⟩) 26),(⟨[65,1,1],Rc,[65]⟩,oM 65 1 22),(⟨[66,2,2],Rc,[66]⟩,oM 66 2 3),(⟨[67,66,2],Rc,[67]⟩,oB 67 .add 3 (tK 66) (iK 1) 3 3),(⟨[68,3,3],Rc,[68]⟩,oM 68 3 3),(⟨[69,4,4],Rc,[69]⟩,oM 69 4 3),(⟨[70,64,65,67,68,69,64,1,67,3,4],Rc,[70]⟩,oC 70 135 [(tK 64),(tK 65),(tK 67),(tK 68),(tK 69)] [26,22,3,3,3] 3),(⟨[71,55,70,14,70],Rc,[71]⟩,oC 71 84 [(tK 55),(tK 70)] [3,3] 3),(⟨[72,54,71,11,71],Rc,[72]⟩,oC 72 115 [(tK 54),(tK 71)] [3,3] 3),(⟨[11,72,72],Rc,[11,72]⟩,oA 11 72 3)])))))) (.ops [
 oB 73 .add 3 (tK 21) (iK 1) 3 3,oM 21 73 3])))
def A10:SC:= .loop iP
def AF8:SC:= .seq (.ops [oX 10 (.assign (iK 0)) 3]) (.seq (.seq (.ops [oM 15 2 3,oM 16 1 22,oN 17 16 22,oB 18 .eql 3 (tK 15) (tK 17) 3 4]) (.cond (tK 18) (.seq (.ops [oX 10 (.assign (iK 1)) 3]) .ret) .skip)) (.seq (.ops [oX 11 (.assign (iK 0)) 3]) (.seq (.seq (.ops [oM 19 0 26,oN 20 19 26,oX 21 (.move (iK 0)) 3]) (.block 0 A10)) (.seq (.ops [oM 74 11 3,oA 10 74 3]) .ret))))
theorem A88:Tryz.f135.body.map (BP lends)=some AF8:=by kernel_rfl
theorem AMJ:BR Tryz.f135 5=true:=by kernel_rfl
theorem ATM{a l:List D}{r:D×List D}(h:BS Y.env AF8 (fin Aj l.length [bt 10] r) (entry a l))(ha:a.length=5):Y.call 135 a l=some r:=
 AY (Y:=Y) rfl Tryz.func135 (ha▸AMJ) A88 h
def CZ(rec_:AO→AX→Int→Int→Int→Option Int)(Gd:AO)(Bv:AX)(BO Bc Cs Ah CW:Int)(s:St):Prop:=s.v 0=bk 3 (AQ (bc .i64) Gd)∧s.v 1=bk 26 (AQ BX Bv)∧s.v 2=bc .i64 BO∧s.v 3=bc .i64 Bc∧s.v 4=bc .i64 Cs∧s.v 11=bc .i64 Ah∧s.v 19=bk 3 (AQ (bc .i64) Gd)∧s.v 20=bc .i64 (Gd.length:Int)∧s.v 21=bc .i64 CW
def Nh(rec_:AO→AX→Int→Int→Int→Option Int)(Gd:AO)(Bv:AX)(BO Bc Cs r:Int)(ex:Ex)(s:St):Prop:=ex= .exit 0∧s.v 11=bc .i64 r
theorem iQ(rec_:AO→AX→Int→Int→Int→Option Int)(Gd:AO)(Bv:AX)(BO Bc Cs:Int)(rec_h: ∀(Gd:AO) (Bv:AX) (BO Bc Cs r:Int),rec_ Gd Bv BO Bc Cs=some r→Y.call 135 [bk 3 (AQ (bc .i64) Gd),bk 26 (AQ BX Bv),bc .i64 BO,bc .i64 Bc,bc .i64 Cs] []=some (bc .i64 r,[])){v:Int×Int}{s:St}{r:Int}(h:Qj rec_ Gd Bv BO Bc Cs v=some r)(hM:CZ rec_ Gd Bv BO Bc Cs v.1 v.2 s):BS Y.env A10 (Nh rec_ Gd Bv BO Bc Cs r) s:=by
 unfold Qj at h;refine Aw (c:=iP) (fun v=>Jg rec_ Gd Bv BO Bc Cs v.1 v.2) (fun v s=>CZ rec_ Gd Bv BO Bc Cs v.1 v.2 s) (Nh rec_ Gd Bv BO Bc Cs) ?_ h hM;clear h hM s v r;intro v s o hM h;obtain⟨Ah,CW⟩:=v;dsimp only at h hM;unfold Jg at h;unfold CZ at hM;obtain⟨m0,m1,m2,m3,m4,m5,m6,m7,m8⟩:=hM;unfold iP;rcases iS h with⟨e2,h⟩|⟨e2,h⟩
 ·obtain⟨e3,h⟩:=Cu h;rcases iS h with⟨e4,h⟩|⟨e4,h⟩
  ·rcases iS h with⟨e5,h⟩|⟨e5,h⟩
   ·rcases iS h with⟨e6,h⟩|⟨e6,h⟩
    ·obtain⟨e7,h⟩:=Cu h;rcases iS h with⟨e8,h⟩|⟨e8,h⟩
     ·cases h;simp only [↓AJ,AL,↓reduceIte,bj,bh,Int.reduceEq,m0,m1,m2,m3,m4,m5,m6,m7,m8,e2,e3.1,e3.2,decide_eq_true e4,decide_eq_true e5,e6,e7.1,e7.2,decide_eq_true e8,CZ,Cx]
     ·obtain⟨e9,e10,h⟩:=Dr h;obtain⟨EL,hl11,h⟩:=Ag h;have c11:=IZ ((Gd.take CW.toNat).drop 0) hl11;obtain⟨e12,e13,e14,h⟩:=NC h;obtain⟨UW,hl15,h⟩:=Ag h;have uC:=rec_h _ _ _ _ _ _ hl15;obtain⟨UX,hl16,h⟩:=Ag h;have c16:=II (1:Int) UW hl16;obtain⟨Yc,hl17,h⟩:=Ag h;try dsimp only at h
      have c17:=Gt Ah UX hl17;cases h;simp only [↓AJ,AL,↓reduceIte,bj,bh,b5,Int.reduceEq,m0,m1,m2,m3,m4,m5,m6,m7,m8,e2,e3.1,e3.2,decide_eq_true e4,decide_eq_true e5,e6,e7.1,e7.2,e8,e10,c11,e12,e13,e14,uC,c16,c17,CZ,Cx]
    ·obtain⟨e7,e8,h⟩:=Dr h;obtain⟨EL,hl9,h⟩:=Ag h;have c9:=IZ ((Gd.take CW.toNat).drop 0) hl9;obtain⟨e10,e11,e12,h⟩:=NC h;obtain⟨UW,hl13,h⟩:=Ag h;have c13:=rec_h _ _ _ _ _ _ hl13;obtain⟨UX,hl14,h⟩:=Ag h;have kV:=II (1:Int) UW hl14;obtain⟨Yc,hl15,h⟩:=Ag h;try dsimp only at h
     have uC:=Gt Ah UX hl15;cases h;simp only [↓AJ,AL,↓reduceIte,bj,bh,b5,Int.reduceEq,m0,m1,m2,m3,m4,m5,m6,m7,m8,e2,e3.1,e3.2,decide_eq_true e4,decide_eq_true e5,e6,e8,c9,e10,e11,e12,c13,kV,uC,CZ,Cx]
   ·cases h;simp only [↓AJ,AL,↓reduceIte,bj,bh,m0,m1,m2,m3,m4,m5,m6,m7,m8,e2,e3.1,e3.2,decide_eq_true e4,e5,CZ,Cx]
  ·obtain⟨e5,e6,h⟩:=Dr h;rcases iS h with⟨e7,h⟩|⟨e7,h⟩
   ·cases h;simp only [↓AJ,AL,↓reduceIte,bj,bh,m0,m1,m2,m3,m4,m5,m6,m7,m8,e2,e3.1,e3.2,e4,e5.1,e5.2,e6.1,e6.2,decide_eq_true e7,CZ,Cx]
   ·rcases iS h with⟨e8,h⟩|⟨e8,h⟩
    ·obtain⟨e9,h⟩:=Cu h;rcases iS h with⟨e10,h⟩|⟨e10,h⟩
     ·cases h;simp only [↓AJ,AL,↓reduceIte,bj,bh,m0,m1,m2,m3,m4,m5,m6,m7,m8,e2,e3.1,e3.2,e4,e5.1,e5.2,e6.1,e6.2,e7,e8,e9.1,e9.2,decide_eq_true e10,CZ,Cx]
     ·obtain⟨e11,e12,h⟩:=Dr h;obtain⟨EL,hl13,h⟩:=Ag h;have c13:=IZ ((Gd.take CW.toNat).drop 0) hl13;obtain⟨e14,e15,e16,h⟩:=NC h;obtain⟨UW,hl17,h⟩:=Ag h;have c17:=rec_h _ _ _ _ _ _ hl17;obtain⟨UX,hl18,h⟩:=Ag h;have Zu:=II ((Bv.getD BO.toNat be).getD ((Gd.getD CW.toNat be).toNat) be) UW hl18;obtain⟨Yc,hl19,h⟩:=Ag h;try dsimp only at h
      have rZ:=Gt Ah UX hl19;cases h;simp only [↓AJ,AL,↓reduceIte,bj,bh,b5,m0,m1,m2,m3,m4,m5,m6,m7,m8,e2,e3.1,e3.2,e4,e5.1,e5.2,e6.1,e6.2,e7,e8,e9.1,e9.2,e10,e12,c13,e14,e15,e16,c17,Zu,rZ,CZ,Cx]
    ·obtain⟨e9,e10,h⟩:=Dr h;obtain⟨EL,hl11,h⟩:=Ag h;have c11:=IZ ((Gd.take CW.toNat).drop 0) hl11;obtain⟨e12,e13,e14,h⟩:=NC h;obtain⟨UW,hl15,h⟩:=Ag h;have uC:=rec_h _ _ _ _ _ _ hl15;obtain⟨UX,hl16,h⟩:=Ag h;have c16:=II ((Bv.getD BO.toNat be).getD ((Gd.getD CW.toNat be).toNat) be) UW hl16;obtain⟨Yc,hl17,h⟩:=Ag h;try dsimp only at h
     have c17:=Gt Ah UX hl17;cases h;simp only [↓AJ,AL,↓reduceIte,bj,bh,b5,m0,m1,m2,m3,m4,m5,m6,m7,m8,e2,e3.1,e3.2,e4,e5.1,e5.2,e6.1,e6.2,e7,e8,e10,c11,e12,e13,e14,uC,c16,c17,CZ,Cx]
 ·cases h;simp only [↓AJ,AL,↓reduceIte,bj,bh,m5,m7,m8,e2,CZ,Nh,Gf]
theorem aS(rec_:AO→AX→Int→Int→Int→Option Int)(Gd:AO)(Bv:AX)(BO Bc Cs:Int)(rec_h: ∀(Gd:AO) (Bv:AX) (BO Bc Cs r:Int),rec_ Gd Bv BO Bc Cs=some r→Y.call 135 [bk 3 (AQ (bc .i64) Gd),bk 26 (AQ BX Bv),bc .i64 BO,bc .i64 Bc,bc .i64 Cs] []=some (bc .i64 r,[])){r:Int}(h:MC rec_ Gd Bv BO Bc Cs=some r):Y.call 135 [bk 3 (AQ (bc .i64) Gd),bk 26 (AQ BX Bv),bc .i64 BO,bc .i64 Bc,bc .i64 Cs] []=some (bc .i64 r,[]):=by
 refine ATM ?_ rfl;unfold AF8;unfold MC at h;rcases iS h with⟨e1,h⟩|⟨e1,h⟩
 ·cases h;simp only [↓AJ,AL,↓reduceIte,bj,bh,decide_eq_true e1]
 ·obtain⟨AU,hl3,h⟩:=Ag h;try dsimp only at h
  simp only [↓AJ,AL,↓reduceIte,bj,bh,e1];refine Al (iQ rec_ Gd Bv BO Bc Cs rec_h hl3 ?_) ?_
  ·simp only [BK,Cg,↓reduceIte,bj,bh,CZ]
  ·intro ex3 s3 hX3;unfold Nh at hX3;obtain⟨rfl,n3_0⟩:=hX3;cases h;simp only [↓AJ,AL,↓reduceIte,bj,bh,n3_0]
theorem aT(n:Nat): ∀(Gd:AO) (Bv:AX) (BO:Int) (Bc:Int) (Cs:Int) (r:Int),FV n Gd Bv BO Bc Cs=some r→Y.call 135 [bk 3 (AQ (bc .i64) Gd),bk 26 (AQ BX Bv),bc .i64 BO,bc .i64 Bc,bc .i64 Cs] []=some (bc .i64 r,[]):=by
 induction n with
 |zero=>intro Gd Bv BO Bc Cs r h;exact absurd h (by rw [FV];exact fun e=>by cases e)
 |succ n ih=>intro Gd Bv BO Bc Cs r h;rw [FV]at h;exact aS (FV n) Gd Bv BO Bc Cs ih h
theorem l7(Gd:AO)(Bv:AX)(BO Bc Cs:Int){r:Int}(h:iO Gd Bv BO Bc Cs=some r):Y.call 135 [bk 3 (AQ (bc .i64) Gd),bk 26 (AQ BX Bv),bc .i64 BO,bc .i64 Bc,bc .i64 Cs] []=some (bc .i64 r,[]):=aT 1000000 Gd Bv BO Bc Cs r h
def L8(pN ways:AX)(i a out Gw:Int):Option ((Int×Int)⊕(Int)):= if Gw<(pN.length:Int)then ck (0≤Gw∧Gw.toNat<pN.length)<| (iO (pN.getD Gw.toNat be) ways (0:Int) i a).bind fun ql=> (J7 out ql).bind fun AMK=> some (bo (AMK,bm.wrap (Gw+1))) else some (bl out)
def Su(pN ways:AX)(i a:Int)(v:Int×Int):Option (Int):=Dq (fun v=>L8 pN ways i a v.1 v.2) v
def Gb(ways:AX)(i out LM sum rf:Int):Option ((Int×Int)⊕(Int)):= if rf<((ways.getD LM.toNat be).length:Int)then ck (0≤rf∧rf.toNat<(ways.getD LM.toNat be).length)<| (J7 sum ((ways.getD LM.toNat be).getD rf.toNat be)).bind fun Sv=> some (bo (Sv,bm.wrap (rf+1))) else some (bl sum)
def Q6(ways:AX)(i out LM:Int)(v:Int×Int):Option (Int):=Dq (fun v=>Gb ways i out LM v.1 v.2) v
def L9(ways:AX)(i out LM:Int):Option ((Int×Int)⊕(Int)):= if LM<(ways.length:Int)then ck (0≤LM∧LM.toNat<ways.length)<| (Q6 ways i out LM (0,0)).bind fun Au=> if LM=i then some (bo (out,bm.wrap (LM+1))) else (IG out Au).bind fun AML=> some (bo (AML,bm.wrap (LM+1))) else some (bl out)
def Sw(ways:AX)(i:Int)(v:Int×Int):Option (Int):=Dq (fun v=>L9 ways i v.1 v.2) v
def Oz(pL pD:Int)(pN pE ways:AX)(i a:Int):Option (Int):= if(ways.length:Int)=pD then (Su pN ways i a (0,0)).bind fun AU=> some AU else (Sw ways i (1,0)).bind fun BH=> some BH
def iR:SC:= .seq (.ops [oB 52 .lss 3 (tK 51) (tK 50) 3 0]) (.seq (.cond (tK 52) .skip (.exit 4)) (.seq (.block 5 (.seq (.ops [oI 53 22 49 51,oL 54 26 53 26,oA 17 54 26]) (.ops [oM 55 15 3,oM 56 17 26,oM 57 1 22,oM 58 2 3,oM 59 3 3,oC 60 135 [(tK 56),(tK 57),(iK 0),(tK 58),(tK 59)] [26,22,3,3,3] 3,oC 61 115 [(tK 55),(tK 60)] [3,3] 3,oA 15 61 3]))) (.ops [oB 62 .add 3 (tK 51) (iK 1) 3 3,oM 51 62 3])))
def A11:SC:= .loop iR
def iT:SC:= .seq (.ops [oB 33 .lss 3 (tK 32) (tK 31) 3 0]) (.seq (.cond (tK 33) .skip (.exit 2)) (.seq (.block 3 (.seq (.ops [oI 34 26 30 32,oL 35 3 34 3,oA 14 35 3]) (.ops [oM 36 12 3,oM 37 14 3,oC 38 115 [(tK 36),(tK 37)] [3,3] 3,oA 12 38 3]))) (.ops [oB 39 .add 3 (tK 32) (iK 1) 3 3,oM 32 39 3])))
def A12:SC:= .loop iT
def iU:SC:= .seq (.ops [oB 26 .lss 3 (tK 25) (tK 24) 3 0]) (.seq (.cond (tK 26) .skip (.exit 0)) (.seq (.block 1 (.seq (.ops [oM 27 25 3,oI 28 22 23 25,oL 29 26 28 26,oA 10 27 3,oA 11 29 26]) (.seq (.ops [oX 12 (.assign (iK 0)) 3]) (.seq (.seq (.ops [oM 30 11 26,oN 31 30 26,oX 32 (.move (iK 0)) 3]) (.block 2 A12)) (.seq (.ops [oM 40 10 3,oM 41 2 3,oB 42 .neq 3 (tK 40) (tK 41) 3 4]) (.cond (tK 42) (.ops [oM 43 9 3,oM 44 12 3,oC 45 84 [(tK 43),(tK 44)] [3,3] 3,oA 9 45 3]) .skip)))))) (.ops [oB 46 .add 3 (tK 25) (iK 1) 3 3,oM 25 46 3])))
def A13:SC:= .loop iU
def AF9:SC:= .seq (.ops [oX 4 (.box 34 (tK 0)) 0,oX 8 (.assign (iK 0)) 3]) (.seq (.seq (.ops [oM 18 1 22,oN 19 18 22,oF 20 34 4 1,oL 21 3 20 3,oB 22 .neq 3 (tK 19) (tK 21) 3 4]) (.cond (tK 22) (.seq (.ops [oX 9 (.assign (iK 1)) 3]) (.seq (.seq (.ops [oM 23 1 22,oN 24 23 22,oX 25 (.move (iK 0)) 3]) (.block 0 A13)) (.seq (.ops [oM 47 9 3,oA 8 47 3]) .ret))) .skip)) (.seq (.ops [oX 15 (.assign (iK 0)) 3]) (.seq (.seq (.ops [oF 48 34 4 2,oL 49 22 48 22,oN 50 49 22,oX 51 (.move (iK 0)) 3]) (.block 4 A11)) (.seq (.ops [oM 63 15 3,oA 8 63 3]) .ret))))
theorem A89:Tryz.f116.body.map (BP lends)=some AF9:=by kernel_rfl
theorem AMM:BR Tryz.f116 4=true:=by kernel_rfl
theorem ATN{a l:List D}{r:D×List D}(h:BS Y.env AF9 (fin Aj l.length [bt 8] r) (entry a l))(ha:a.length=4):Y.call 116 a l=some r:=
 AY (Y:=Y) rfl Tryz.func116 (ha▸AMM) A89 h
def LA(pN ways:AX)(i a out Gw:Int)(s:St):Prop:=s.v 1=bk 26 (AQ BX ways)∧s.v 2=bc .i64 i∧s.v 3=bc .i64 a∧s.v 15=bc .i64 out∧s.v 49=bk 26 (AQ BX pN)∧s.v 50=bc .i64 (pN.length:Int)∧s.v 51=bc .i64 Gw
def P5(pN ways:AX)(i a r:Int)(ex:Ex)(s:St):Prop:=ex= .exit 4∧s.v 15=bc .i64 r
theorem l8(pN ways:AX)(i a:Int){v:Int×Int}{s:St}{r:Int}(h:Su pN ways i a v=some r)(hM:LA pN ways i a v.1 v.2 s):BS Y.env A11 (P5 pN ways i a r) s:=by
 unfold Su at h;refine Aw (c:=iR) (fun v=>L8 pN ways i a v.1 v.2) (fun v s=>LA pN ways i a v.1 v.2 s) (P5 pN ways i a) ?_ h hM;clear h hM s v r;intro v s o hM h;obtain⟨out,Gw⟩:=v;dsimp only at h hM;unfold L8 at h;unfold LA at hM;obtain⟨m0,m1,m2,m3,m4,m5,m6⟩:=hM;unfold iR;rcases iS h with⟨e2,h⟩|⟨e2,h⟩
 ·obtain⟨e3,h⟩:=Cu h;obtain⟨ql,hl4,h⟩:=Ag h;have c4:=l7 (pN.getD Gw.toNat be) ways (0:Int) i a hl4;obtain⟨AMK,hl5,h⟩:=Ag h;try dsimp only at h
  have c5:=Gt out ql hl5;cases h;simp only [↓AJ,AL,↓reduceIte,bj,bh,m0,m1,m2,m3,m4,m5,m6,e2,e3.1,e3.2,c4,c5,LA,Cx]
 ·cases h;simp only [↓AJ,AL,↓reduceIte,bj,bh,m3,m5,m6,e2,LA,P5,Gf]
def LB(ways:AX)(i out LM sum rf:Int)(s:St):Prop:=s.v 2=bc .i64 i∧s.v 9=bc .i64 out∧s.v 10=bc .i64 LM∧s.v 12=bc .i64 sum∧s.v 23=bk 26 (AQ BX ways)∧s.v 24=bc .i64 (ways.length:Int)∧s.v 25=bc .i64 LM∧s.v 30=bk 3 (AQ (bc .i64) (ways.getD LM.toNat be))∧s.v 31=bc .i64 ((ways.getD LM.toNat be).length:Int)∧s.v 32=bc .i64 rf
def P6(ways:AX)(i out LM r:Int)(ex:Ex)(s:St):Prop:=ex= .exit 2∧s.v 2=bc .i64 i∧s.v 9=bc .i64 out∧s.v 10=bc .i64 LM∧s.v 12=bc .i64 r∧s.v 23=bk 26 (AQ BX ways)∧s.v 24=bc .i64 (ways.length:Int)∧s.v 25=bc .i64 LM
theorem l9(ways:AX)(i out LM:Int){v:Int×Int}{s:St}{r:Int}(h:Q6 ways i out LM v=some r)(hM:LB ways i out LM v.1 v.2 s):BS Y.env A12 (P6 ways i out LM r) s:=by
 unfold Q6 at h;refine Aw (c:=iT) (fun v=>Gb ways i out LM v.1 v.2) (fun v s=>LB ways i out LM v.1 v.2 s) (P6 ways i out LM) ?_ h hM;clear h hM s v r;intro v s o hM h;obtain⟨sum,rf⟩:=v;dsimp only at h hM;unfold Gb at h;unfold LB at hM;obtain⟨m0,m1,m2,m3,m4,m5,m6,m7,m8,m9⟩:=hM;unfold iT;rcases iS h with⟨e4,h⟩|⟨e4,h⟩
 ·obtain⟨e5,h⟩:=Cu h;obtain⟨Sv,hl6,h⟩:=Ag h;try dsimp only at h
  have c6:=Gt sum ((ways.getD LM.toNat be).getD rf.toNat be) hl6;cases h;simp only [↓AJ,AL,↓reduceIte,bj,bh,m0,m1,m2,m3,m4,m5,m6,m7,m8,m9,e4,e5.1,e5.2,c6,LB,Cx]
 ·cases h;simp only [↓AJ,AL,↓reduceIte,bj,bh,m0,m1,m2,m3,m4,m5,m6,m8,m9,e4,LB,P6,Gf]
def Iq(ways:AX)(i out LM:Int)(s:St):Prop:=s.v 2=bc .i64 i∧s.v 9=bc .i64 out∧s.v 23=bk 26 (AQ BX ways)∧s.v 24=bc .i64 (ways.length:Int)∧s.v 25=bc .i64 LM
def P7(ways:AX)(i r:Int)(ex:Ex)(s:St):Prop:=ex= .exit 0∧s.v 9=bc .i64 r
theorem lC(ways:AX)(i:Int){v:Int×Int}{s:St}{r:Int}(h:Sw ways i v=some r)(hM:Iq ways i v.1 v.2 s):BS Y.env A13 (P7 ways i r) s:=by
 unfold Sw at h;refine Aw (c:=iU) (fun v=>L9 ways i v.1 v.2) (fun v s=>Iq ways i v.1 v.2 s) (P7 ways i) ?_ h hM;clear h hM s v r;intro v s o hM h;obtain⟨out,LM⟩:=v;dsimp only at h hM;unfold L9 at h;unfold Iq at hM;obtain⟨m0,m1,m2,m3,m4⟩:=hM;unfold iU;rcases iS h with⟨e2,h⟩|⟨e2,h⟩
 ·obtain⟨e3,h⟩:=Cu h;obtain⟨Au,hl5,h⟩:=Ag h;try dsimp only at h
  simp only [↓AJ,AL,↓reduceIte,bj,bh,m2,m3,m4,e2,e3.1,e3.2];refine Al (l9 ways i out LM hl5 ?_) ?_
  ·simp only [BK,↓reduceIte,bj,m0,m1,m2,m3,m4,LB]
  ·intro ex5 s5 hX5;unfold P6 at hX5;obtain⟨rfl,n5_0,n5_1,n5_2,n5_3,n5_4,n5_5,n5_6⟩:=hX5;rcases iS h with⟨e6,h⟩|⟨e6,h⟩
   ·cases h;simp only [↓AJ,AL,↓reduceIte,bj,bh,n5_0,n5_1,n5_2,n5_4,n5_5,n5_6,decide_eq_true e6,Iq,Cx]
   ·obtain⟨AML,hl7,h⟩:=Ag h;try dsimp only at h
    have c7:=II out Au hl7;cases h;simp only [↓AJ,AL,↓reduceIte,bj,bh,n5_0,n5_1,n5_2,n5_3,n5_4,n5_5,n5_6,e6,c7,Iq,Cx]
 ·cases h;simp only [↓AJ,AL,↓reduceIte,bj,bh,m1,m3,m4,e2,Iq,P7,Gf]
theorem XY(pL pD:Int)(pN pE ways:AX)(i a:Int){r:Int}(h:Oz pL pD pN pE ways i a=some r):Y.call 116 [bw [bc .i64 pL,bc .i64 pD,bk 26 (AQ BX pN),bk 26 (AQ BX pE)],bk 26 (AQ BX ways),bc .i64 i,bc .i64 a] []=some (bc .i64 r,[]):=by
 refine ATN ?_ rfl;unfold AF9;unfold Oz at h;rcases iS h with⟨e1,h⟩|⟨e1,h⟩
 ·obtain⟨AU,hl3,h⟩:=Ag h;try dsimp only at h
  simp only [↓AJ,AL,↓reduceIte,bj,bh,decide_eq_true e1];refine Al (l8 pN ways i a hl3 ?_) ?_
  ·simp only [BK,Cg,↓reduceIte,bj,bh,LA]
  ·intro ex3 s3 hX3;unfold P5 at hX3;obtain⟨rfl,n3_0⟩:=hX3;cases h;simp only [↓AJ,AL,↓reduceIte,bj,bh,n3_0]
 ·obtain⟨BH,hl3,h⟩:=Ag h;try dsimp only at h
  simp only [↓AJ,AL,↓reduceIte,bj,bh,e1];refine Al (lC ways i hl3 ?_) ?_
  ·simp only [BK,Cg,↓reduceIte,bj,bh,Iq]
  ·intro ex3 s3 hX3;unfold P7 at hX3;obtain⟨rfl,n3_0⟩:=hX3;cases h;simp only [↓AJ,AL,↓reduceIte,bj,bh,n3_0]
def Fw(tL tD:Int)(tN tE:AX)(AV:Ad)(Ab AP:AO)(BO:AX)(Bc Cs:Int)(Ah:AX)(Ei:Int)(Jk:AO)(Gw:Int)(t14_1:AO)(XZ:Int):Option ((AO×Int)⊕(AO)):= if XZ<(Jk.length:Int)then ck (0≤XZ∧XZ.toNat<Jk.length)<| ck (0≤Bc∧Bc.toNat<BO.length)<| ck (0≤Ei∧Ei.toNat<(BO.getD Bc.toNat be).length)<| (UO ((BO.getD Bc.toNat be).getD Ei.toNat be) Gw).bind fun AFA=> if AFA=true then ck (BQ tE)<| if(KI tE Gw XZ)=true then ck (0≤Gw∧Gw.toNat<t14_1.length)<| (J7 (t14_1.getD Gw.toNat be) (Jk.getD XZ.toNat be)).bind fun AMN=> some (bo ((t14_1.set Gw.toNat AMN),bm.wrap (XZ+1))) else some (bo (t14_1,bm.wrap (XZ+1))) else some (bo (t14_1,bm.wrap (XZ+1))) else some (bl t14_1)
def Lc(tL tD:Int)(tN tE:AX)(AV:Ad)(Ab AP:AO)(BO:AX)(Bc Cs:Int)(Ah:AX)(Ei:Int)(Jk:AO)(Gw:Int)(v:AO×Int):Option (AO):=Dq (fun v=>Fw tL tD tN tE AV Ab AP BO Bc Cs Ah Ei Jk Gw v.1 v.2) v
def Fx(tL tD:Int)(tN tE:AX)(AV:Ad)(Ab AP:AO)(BO:AX)(Bc Cs:Int)(Ah:AX)(Ei:Int)(Jk:AO)(Bd:AO)(Gw:Int):Option ((AO×Int)⊕(AO)):= if Gw<((ap tL.toNat (0:Int)).length:Int)then (Lc tL tD tN tE AV Ab AP BO Bc Cs Ah Ei Jk Gw (Bd,0)).bind fun AU=> some (bo (AU,bm.wrap (Gw+1))) else some (bl Bd)
def Ld(tL tD:Int)(tN tE:AX)(AV:Ad)(Ab AP:AO)(BO:AX)(Bc Cs:Int)(Ah:AX)(Ei:Int)(Jk:AO)(v:AO×Int):Option (AO):=Dq (fun v=>Fx tL tD tN tE AV Ab AP BO Bc Cs Ah Ei Jk v.1 v.2) v
def Fy(rec_:Int→Int→AX→AX→Ad→AO→AO→AX→Int→Int→Option (AO))(tL tD:Int)(tN tE:AX)(AV:Ad)(Ab AP:AO)(BO:AX)(Bc Cs:Int)(Ah:AX)(Ei:Int):Option ((AX×Int)⊕(AX)):= if Ei<((AV.getD Bc.toNat be).length:Int)then ck (0≤Ei∧Ei.toNat<(AV.getD Bc.toNat be).length)<| ck (0≤tL∧tL<1099511627776)<| if Ei=Cs then ck (Ah.length+1<1099511627776)<| some (bo ((Ah++[[]]),bm.wrap (Ei+1))) else (rec_ tL tD tN tE AV Ab AP BO (BJ (AV.getD Bc.toNat be) Ei.toNat) (Bu (AV.getD Bc.toNat be) Ei.toNat)).bind fun Jk=> (Ld tL tD tN tE AV Ab AP BO Bc Cs Ah Ei Jk ((ap tL.toNat 0),0)).bind fun Au=> ck (Ah.length+1<1099511627776)<| some (bo ((Ah++[Au]),bm.wrap (Ei+1))) else some (bl Ah)
def Le(rec_:Int→Int→AX→AX→Ad→AO→AO→AX→Int→Int→Option (AO))(tL tD:Int)(tN tE:AX)(AV:Ad)(Ab AP:AO)(BO:AX)(Bc Cs:Int)(v:AX×Int):Option (AX):=Dq (fun v=>Fy rec_ tL tD tN tE AV Ab AP BO Bc Cs v.1 v.2) v
def Fz(tL tD:Int)(tN tE BO:AX)(Bc Cs:Int)(BH:AX)(zt:AO)(Re:Int):Option ((AO×Int)⊕(AO)):= if Re<((ap tL.toNat (0:Int)).length:Int)then ck (0≤Bc∧Bc.toNat<BO.length)<| ck (0≤Cs∧Cs.toNat<(BO.getD Bc.toNat be).length)<| (UO ((BO.getD Bc.toNat be).getD Cs.toNat be) Re).bind fun A5i=> if A5i=true then (Oz tL tD tN tE BH Cs Re).bind fun ABY=> ck (0≤Re∧Re.toNat<zt.length)<| some (bo ((zt.set Re.toNat ABY),bm.wrap (Re+1))) else some (bo (zt,bm.wrap (Re+1))) else some (bl zt)
def Ni(tL tD:Int)(tN tE BO:AX)(Bc Cs:Int)(BH:AX)(v:AO×Int):Option (AO):=Dq (fun v=>Fz tL tD tN tE BO Bc Cs BH v.1 v.2) v
def Mw(rec_:Int→Int→AX→AX→Ad→AO→AO→AX→Int→Int→Option (AO))(tL tD:Int)(tN tE:AX)(AV:Ad)(Ab AP:AO)(BO:AX)(Bc Cs:Int):Option (AO):= ck (0≤Bc∧Bc.toNat<AV.length)<| (Le rec_ tL tD tN tE AV Ab AP BO Bc Cs ([],0)).bind fun BH=> if Cs<0 then (Oz tL tD tN tE BH (-1:Int) (0:Int)).bind fun AMO=> some [AMO] else ck (0≤tL∧tL<1099511627776)<| (Ni tL tD tN tE BO Bc Cs BH ((ap tL.toNat 0),0)).bind fun Sl=> some Sl
def EG:Nat→Int→Int→AX→AX→Ad→AO→AO→AX→Int→Int→Option (AO) |0=>fun _ _ _ _ _ _ _ _ _ _=>none |n+1=>fun tL tD tN tE AV Ab AP BO Bc Cs=>Mw (EG n) tL tD tN tE AV Ab AP BO Bc Cs
def Vs(tL tD:Int)(tN tE:AX)(AV:Ad)(Ab AP:AO)(BO:AX)(Bc Cs:Int):Option (AO):=EG 1000000 tL tD tN tE AV Ab AP BO Bc Cs
def rq:SC:= .seq (.ops [oB 57 .lss 3 (tK 56) (tK 55) 3 0]) (.seq (.cond (tK 57) .skip (.exit 4)) (.seq (.block 5 (.seq (.ops [oM 58 56 3,oI 59 26 54 56,oL 60 3 59 3,oA 17 58 3,oA 18 60 3]) (.seq (.ops [oM 61 2 22,oM 62 3 3,oI 63 22 61 62,oL 64 26 63 26,oM 65 12 3,oI 66 26 64 65,oL 67 3 66 3,oM 68 16 3,oC 69 61 [(tK 67),(tK 68)] [3,3] 4,oM 70 69 4,⟨some 71,.load 34 (tK 5),34,(some (some 70,true))⟩,⟨some 72,.move (tK 16),3,(some (some 70,true))⟩,⟨some 73,.move (tK 17),3,(some (some 70,true))⟩,⟨some 74,.call ⟨(.value (.func 94)), #[(tK 71),(tK 72),(tK 73)], #[34,3,3]⟩,4,(some (some 70,true))⟩,oX 75 (.pick (tK 70) (tK 74) LK) 4]) (.cond (tK 75) (.ops [oM 76 14 26,oM 77 16 3,oM 78 14 26,oM 79 16 3,oI 80 26 78 79,oL 81 3 80 3,oM 82 18 3,oC 83 115 [(tK 81),(tK 82)] [3,3] 3,oI 84 26 76 77,oS 3 84 83]) .skip)))) (.ops [oB 85 .add 3 (tK 56) (iK 1) 3 3,oM 56 85 3])))
def A5j:SC:= .loop rq
def ru:SC:= .seq (.ops [oB 52 .lss 3 (tK 51) (tK 50) 3 0]) (.seq (.cond (tK 52) .skip (.exit 2)) (.seq (.block 3 (.seq (.ops [oM 53 51 3,oA 16 53 3]) (.seq (.ops [oM 54 15 26,oN 55 54 26,oX 56 (.move (iK 0)) 3]) (.block 4 A5j)))) (.ops [oB 86 .add 3 (tK 51) (iK 1) 3 3,oM 51 86 3])))
def A5k:SC:= .loop ru
def ry:SC:= .seq (.ops [oB 28 .lss 3 (tK 27) (tK 26) 3 0]) (.seq (.cond (tK 28) .skip (.exit 0)) (.seq (.block 1 (.seq (.ops [oM 29 27 3,oI 30 79 25 27,oL 31 87 30 87,oX 13 (.alloc 87) 0,oA 12 29 3,oS 87 13 31]) (.seq (.ops [oF 32 34 5 0,oL 33 3 32 3,oX 34 (.makeSlice 26 (tK 33) (tK 33)) 26,oA 14 34 26]) (.seq (.seq (.ops [oM 35 12 3,oM 36 4 3,oB 37 .eql 3 (tK 35) (tK 36) 3 4]) (.cond (tK 37) (.seq (.ops [oM 38 11 22,oX 39 (.buildSlice 22 1 #[(0,(.const (.slice none 0 0)))]) 22,oX 40 (.call ⟨(.builtin .append), #[(tK 38),(tK 39)], #[22,22]⟩) 22,oA 11 40 22]) (.exit 1)) .skip)) (.seq (.ops [oL 41 34 5 34,oL 42 38 6 38,oM 43 2 22,oF 44 87 13 0,oL 45 3 44 3,oF 46 87 13 1,oL 47 3 46 3,oC 48 85 [(tK 41),(tK 42),(tK 43),(tK 45),(tK 47)] [34,38,22,3,3] 26,oA 15 48 26]) (.seq (.seq (.ops [oM 49 14 26,oN 50 49 26,oX 51 (.move (iK 0)) 3]) (.block 2 A5k)) (.ops [oM 87 11 22,oM 88 14 26,oX 89 (.buildSlice 22 1 #[(0,(tK 88))]) 22,oX 90 (.call ⟨(.builtin .append), #[(tK 87),(tK 89)], #[22,22]⟩) 22,oA 11 90 22]))))))) (.ops [oB 91 .add 3 (tK 27) (iK 1) 3 3,oM 27 91 3])))
def A5l:SC:= .loop ry
def rz:SC:= .seq (.ops [oB 104 .lss 3 (tK 103) (tK 102) 3 0]) (.seq (.cond (tK 104) .skip (.exit 6)) (.seq (.block 7 (.seq (.ops [oM 105 103 3,oA 20 105 3]) (.seq (.ops [oM 106 2 22,oM 107 3 3,oI 108 22 106 107,oL 109 26 108 26,oM 110 4 3,oI 111 26 109 110,oL 112 3 111 3,oM 113 20 3,oC 114 61 [(tK 112),(tK 113)] [3,3] 4]) (.cond (tK 114) (.ops [oM 115 19 26,oM 116 20 3,oL 117 34 5 34,oM 118 11 22,oM 119 4 3,oM 120 20 3,oC 121 116 [(tK 117),(tK 118),(tK 119),(tK 120)] [34,22,3,3] 3,oI 122 26 115 116,oS 3 122 121]) .skip)))) (.ops [oB 123 .add 3 (tK 103) (iK 1) 3 3,oM 103 123 3])))
def A5m:SC:= .loop rz
def k85:SC:= .seq (.ops [oX 5 (.box 34 (tK 0)) 0,oX 6 (.box 38 (tK 1)) 0,oX 10 Gv 26]) (.seq (.ops [oX 11 Gv 22]) (.seq (.seq (.ops [oF 21 38 6 0,oL 22 36 21 36,oM 23 3 3,oI 24 36 22 23,oL 25 79 24 79,oN 26 25 79,oX 27 (.move (iK 0)) 3]) (.block 0 A5l)) (.seq (.seq (.ops [oM 92 4 3,oB 93 .lss 3 (tK 92) (iK 0) 3 4]) (.cond (tK 93) (.seq (.ops [oL 94 34 5 34,oM 95 11 22,oC 96 116 [(tK 94),(tK 95),wL,(iK 0)] [34,22,3,3] 3,oX 97 (.buildSlice 26 1 #[(0,(tK 96))]) 26,oA 10 97 26]) .ret) .skip)) (.seq (.ops [oF 98 34 5 0,oL 99 3 98 3,oX 100 (.makeSlice 26 (tK 99) (tK 99)) 26,oA 19 100 26]) (.seq (.seq (.ops [oM 101 19 26,oN 102 101 26,oX 103 (.move (iK 0)) 3]) (.block 6 A5m)) (.seq (.ops [oM 124 19 26,oA 10 124 26]) .ret))))))
theorem AFB:Tryz.f85.body.map (BP lends)=some k85:=by kernel_rfl
theorem ATP:BR Tryz.f85 5=true:=by kernel_rfl
theorem c85{a l:List D}{r:D×List D}(h:BS Y.env k85 (fin Aj l.length [bt 10] r) (entry a l))(ha:a.length=5):Y.call 85 a l=some r:=
 AY (Y:=Y) rfl Tryz.func85 (ha▸ATP) AFB h
def Dm(tL tD:Int)(tN tE:AX)(AV:Ad)(Ab AP:AO)(BO:AX)(Bc Cs:Int)(Ah:AX)(Ei:Int)(Jk:AO)(Gw:Int)(t14_1:AO)(XZ:Int)(s:St):Prop:=s.v 2=bk 26 (AQ BX BO)∧s.v 3=bc .i64 Bc∧s.v 4=bc .i64 Cs∧s.v 5=b7 [bc .i64 tL,bc .i64 tD,bk 26 (AQ BX tN),bk 26 (AQ BX tE)]∧s.v 6=b7 [bk 79 (AQ (fun x=>bk 87 (Ak .i64 .i64 x)) AV),bk 3 (AQ (bc .i64) Ab),bk 3 (AQ (bc .i64) AP)]∧s.v 11=br 26 (AQ Jp Ah)∧s.v 12=bc .i64 Ei∧s.v 14=br 3 (AQ (bc .i64) t14_1)∧s.v 15=br 3 (AQ (bc .i64) Jk)∧s.v 16=bc .i64 Gw∧s.v 25=bk 87 (Ak .i64 .i64 (AV.getD Bc.toNat be))∧s.v 26=bc .i64 ((AV.getD Bc.toNat be).length:Int)∧s.v 27=bc .i64 Ei∧s.v 50=bc .i64 ((ap tL.toNat (0:Int)).length:Int)∧s.v 51=bc .i64 Gw∧(∃w_,s.v 54=D.vw [15] (s.k 15) w_)∧s.v 55=bc .i64 (Jk.length:Int)∧s.v 56=bc .i64 XZ
def Lp(tL tD:Int)(tN tE:AX)(AV:Ad)(Ab AP:AO)(BO:AX)(Bc Cs:Int)(Ah:AX)(Ei:Int)(Jk:AO)(Gw:Int)(r:AO)(ex:Ex)(s:St):Prop:=ex= .exit 4∧s.v 2=bk 26 (AQ BX BO)∧s.v 3=bc .i64 Bc∧s.v 4=bc .i64 Cs∧s.v 5=b7 [bc .i64 tL,bc .i64 tD,bk 26 (AQ BX tN),bk 26 (AQ BX tE)]∧s.v 6=b7 [bk 79 (AQ (fun x=>bk 87 (Ak .i64 .i64 x)) AV),bk 3 (AQ (bc .i64) Ab),bk 3 (AQ (bc .i64) AP)]∧s.v 11=br 26 (AQ Jp Ah)∧s.v 12=bc .i64 Ei∧s.v 14=br 3 (AQ (bc .i64) r)∧s.v 15=br 3 (AQ (bc .i64) Jk)∧s.v 25=bk 87 (Ak .i64 .i64 (AV.getD Bc.toNat be))∧s.v 26=bc .i64 ((AV.getD Bc.toNat be).length:Int)∧s.v 27=bc .i64 Ei∧s.v 50=bc .i64 ((ap tL.toNat (0:Int)).length:Int)∧s.v 51=bc .i64 Gw
theorem Yd(tL tD:Int)(tN tE:AX)(AV:Ad)(Ab AP:AO)(BO:AX)(Bc Cs:Int)(Ah:AX)(Ei:Int)(Jk:AO)(Gw:Int){v:AO×Int}{s:St}{r:AO}(h:Lc tL tD tN tE AV Ab AP BO Bc Cs Ah Ei Jk Gw v=some r)(hM:Dm tL tD tN tE AV Ab AP BO Bc Cs Ah Ei Jk Gw v.1 v.2 s):BS Y.env A5j (Lp tL tD tN tE AV Ab AP BO Bc Cs Ah Ei Jk Gw r) s:=by
 unfold Lc at h;refine Aw (c:=rq) (fun v=>Fw tL tD tN tE AV Ab AP BO Bc Cs Ah Ei Jk Gw v.1 v.2) (fun v s=>Dm tL tD tN tE AV Ab AP BO Bc Cs Ah Ei Jk Gw v.1 v.2 s) (Lp tL tD tN tE AV Ab AP BO Bc Cs Ah Ei Jk Gw) ?_ h hM;clear h hM s v r;intro v s o hM h;obtain⟨t14_1,XZ⟩:=v;dsimp only at h hM;unfold Fw at h;unfold Dm at hM;obtain⟨m0,m1,m2,m3,m4,m5,m6,m7,m8,m9,m10,m11,m12,m13,m14,⟨w15_,m15⟩,m16,m17⟩:=hM;unfold rq;rcases iS h with⟨e8,h⟩|⟨e8,h⟩
 ·obtain⟨e9,e10,e11,h⟩:=NC h;obtain⟨AFA,hl12,h⟩:=Ag h;have zQ:=ZQ ((BO.getD Bc.toNat be).getD Ei.toNat be) Gw hl12;rcases iS h with⟨e13,h⟩|⟨e13,h⟩
  ·obtain⟨e14,h⟩:=Cu h;have uC:=wy tL tD tN tE Gw XZ e14;rcases iS h with⟨e16,h⟩|⟨e16,h⟩
   ·obtain⟨e17,h⟩:=Cu h;obtain⟨AMN,hl18,h⟩:=Ag h;try dsimp only at h
    have Zu:=Gt (t14_1.getD Gw.toNat be) (Jk.getD XZ.toNat be) hl18;cases h;simp only [↓AJ,AL,↓reduceIte,bj,bh,m0,m1,m2,m3,m4,m5,m6,m7,m8,m9,m10,m11,m12,m13,m14,m15,m16,m17,e8,e9.1,e9.2,e10.1,e10.2,e11.1,e11.2,zQ,e13,uC,e16,e17.1,e17.2,Zu,Dm,Cx]<;>(repeat' apply A7)<;>first|rfl|exact⟨_,rfl⟩|exact⟨_,_,rfl⟩|simp [AQ,Ay]
   ·have e16f:(KI tE Gw XZ)=false:=G8.mpr e16;cases h;simp only [↓AJ,AL,↓reduceIte,bj,bh,m0,m1,m2,m3,m4,m5,m6,m7,m8,m9,m10,m11,m12,m13,m14,m15,m16,m17,e8,e9.1,e9.2,e10.1,e10.2,e11.1,e11.2,zQ,e13,uC,e16f,Dm,Cx]<;>(repeat' apply A7)<;>first|rfl|exact⟨_,rfl⟩|exact⟨_,_,rfl⟩|simp [AQ,Ay]
  ·have e13f:AFA=false:=G8.mpr e13;cases h;simp only [↓AJ,AL,↓reduceIte,bj,bh,m0,m1,m2,m3,m4,m5,m6,m7,m8,m9,m10,m11,m12,m13,m14,m15,m16,m17,e8,e9.1,e9.2,e10.1,e10.2,e11.1,e11.2,zQ,e13f,Dm,Cx]<;>(repeat' apply A7)<;>first|rfl|exact⟨_,rfl⟩|exact⟨_,_,rfl⟩|simp [AQ,Ay]
 ·cases h;simp only [↓AJ,AL,↓reduceIte,bj,bh,m0,m1,m2,m3,m4,m5,m6,m7,m8,m10,m11,m12,m13,m14,m16,m17,e8,Dm,Lp,Gf]
def G5(tL tD:Int)(tN tE:AX)(AV:Ad)(Ab AP:AO)(BO:AX)(Bc Cs:Int)(Ah:AX)(Ei:Int)(Jk:AO)(Bd:AO)(Gw:Int)(s:St):Prop:=s.v 2=bk 26 (AQ BX BO)∧s.v 3=bc .i64 Bc∧s.v 4=bc .i64 Cs∧s.v 5=b7 [bc .i64 tL,bc .i64 tD,bk 26 (AQ BX tN),bk 26 (AQ BX tE)]∧s.v 6=b7 [bk 79 (AQ (fun x=>bk 87 (Ak .i64 .i64 x)) AV),bk 3 (AQ (bc .i64) Ab),bk 3 (AQ (bc .i64) AP)]∧s.v 11=br 26 (AQ Jp Ah)∧s.v 12=bc .i64 Ei∧s.v 14=br 3 (AQ (bc .i64) Bd)∧s.v 15=br 3 (AQ (bc .i64) Jk)∧s.v 25=bk 87 (Ak .i64 .i64 (AV.getD Bc.toNat be))∧s.v 26=bc .i64 ((AV.getD Bc.toNat be).length:Int)∧s.v 27=bc .i64 Ei∧s.v 50=bc .i64 ((ap tL.toNat (0:Int)).length:Int)∧s.v 51=bc .i64 Gw
def Lr(tL tD:Int)(tN tE:AX)(AV:Ad)(Ab AP:AO)(BO:AX)(Bc Cs:Int)(Ah:AX)(Ei:Int)(Jk:AO)(r:AO)(ex:Ex)(s:St):Prop:=ex= .exit 2∧s.v 2=bk 26 (AQ BX BO)∧s.v 3=bc .i64 Bc∧s.v 4=bc .i64 Cs∧s.v 5=b7 [bc .i64 tL,bc .i64 tD,bk 26 (AQ BX tN),bk 26 (AQ BX tE)]∧s.v 6=b7 [bk 79 (AQ (fun x=>bk 87 (Ak .i64 .i64 x)) AV),bk 3 (AQ (bc .i64) Ab),bk 3 (AQ (bc .i64) AP)]∧s.v 11=br 26 (AQ Jp Ah)∧s.v 14=br 3 (AQ (bc .i64) r)∧s.v 25=bk 87 (Ak .i64 .i64 (AV.getD Bc.toNat be))∧s.v 26=bc .i64 ((AV.getD Bc.toNat be).length:Int)∧s.v 27=bc .i64 Ei
theorem Ye(tL tD:Int)(tN tE:AX)(AV:Ad)(Ab AP:AO)(BO:AX)(Bc Cs:Int)(Ah:AX)(Ei:Int)(Jk:AO){v:AO×Int}{s:St}{r:AO}(h:Ld tL tD tN tE AV Ab AP BO Bc Cs Ah Ei Jk v=some r)(hM:G5 tL tD tN tE AV Ab AP BO Bc Cs Ah Ei Jk v.1 v.2 s):BS Y.env A5k (Lr tL tD tN tE AV Ab AP BO Bc Cs Ah Ei Jk r) s:=by
 unfold Ld at h;refine Aw (c:=ru) (fun v=>Fx tL tD tN tE AV Ab AP BO Bc Cs Ah Ei Jk v.1 v.2) (fun v s=>G5 tL tD tN tE AV Ab AP BO Bc Cs Ah Ei Jk v.1 v.2 s) (Lr tL tD tN tE AV Ab AP BO Bc Cs Ah Ei Jk) ?_ h hM;clear h hM s v r;intro v s o hM h;obtain⟨Bd,Gw⟩:=v;dsimp only at h hM;unfold Fx at h;unfold G5 at hM;obtain⟨m0,m1,m2,m3,m4,m5,m6,m7,m8,m9,m10,m11,m12,m13⟩:=hM;unfold ru;rcases iS h with⟨e7,h⟩|⟨e7,h⟩
 ·obtain⟨AU,hl9,h⟩:=Ag h;try dsimp only at h
  simp only [↓AJ,AL,↓reduceIte,bj,bh,m8,m12,m13,e7];refine Al (Yd tL tD tN tE AV Ab AP BO Bc Cs Ah Ei Jk Gw hl9 ?_) ?_
  ·simp only [BK,↓reduceIte,bj,m0,m1,m2,m3,m4,m5,m6,m7,m8,m9,m10,m11,m12,m13,Dm]<;>(repeat' apply A7)<;>first|rfl|exact⟨_,rfl⟩|exact⟨_,_,rfl⟩|simp [AQ,Ay]
  ·intro ex9 s9 hX9;unfold Lp at hX9;obtain⟨rfl,n9_0,n9_1,n9_2,n9_3,n9_4,n9_5,n9_6,n9_7,n9_8,n9_9,n9_10,n9_11,n9_12,n9_13⟩:=hX9;cases h;simp only [↓AJ,AL,↓reduceIte,bj,bh,n9_0,n9_1,n9_2,n9_3,n9_4,n9_5,n9_6,n9_7,n9_8,n9_9,n9_10,n9_11,n9_12,n9_13,G5,Cx]
 ·cases h;simp only [↓AJ,AL,↓reduceIte,bj,bh,m0,m1,m2,m3,m4,m5,m7,m9,m10,m11,m12,m13,e7,G5,Lr,Gf]
def Ea(rec_:Int→Int→AX→AX→Ad→AO→AO→AX→Int→Int→Option (AO))(tL tD:Int)(tN tE:AX)(AV:Ad)(Ab AP:AO)(BO:AX)(Bc Cs:Int)(Ah:AX)(Ei:Int)(s:St):Prop:=s.v 2=bk 26 (AQ BX BO)∧s.v 3=bc .i64 Bc∧s.v 4=bc .i64 Cs∧s.v 5=b7 [bc .i64 tL,bc .i64 tD,bk 26 (AQ BX tN),bk 26 (AQ BX tE)]∧s.v 6=b7 [bk 79 (AQ (fun x=>bk 87 (Ak .i64 .i64 x)) AV),bk 3 (AQ (bc .i64) Ab),bk 3 (AQ (bc .i64) AP)]∧s.v 11=br 26 (AQ Jp Ah)∧s.v 25=bk 87 (Ak .i64 .i64 (AV.getD Bc.toNat be))∧s.v 26=bc .i64 ((AV.getD Bc.toNat be).length:Int)∧s.v 27=bc .i64 Ei
def Lt(rec_:Int→Int→AX→AX→Ad→AO→AO→AX→Int→Int→Option (AO))(tL tD:Int)(tN tE:AX)(AV:Ad)(Ab AP:AO)(BO:AX)(Bc Cs:Int)(r:AX)(ex:Ex)(s:St):Prop:=ex= .exit 0∧s.v 2=bk 26 (AQ BX BO)∧s.v 3=bc .i64 Bc∧s.v 4=bc .i64 Cs∧s.v 5=b7 [bc .i64 tL,bc .i64 tD,bk 26 (AQ BX tN),bk 26 (AQ BX tE)]∧s.v 11=br 26 (AQ Jp r)
theorem Yf(rec_:Int→Int→AX→AX→Ad→AO→AO→AX→Int→Int→Option (AO))(tL tD:Int)(tN tE:AX)(AV:Ad)(Ab AP:AO)(BO:AX)(Bc Cs:Int)(rec_h: ∀(tL tD:Int) (tN tE:AX) (AV:Ad) (Ab AP:AO) (BO:AX) (Bc Cs:Int) (r:AO),rec_ tL tD tN tE AV Ab AP BO Bc Cs=some r→Y.call 85 [bw [bc .i64 tL,bc .i64 tD,bk 26 (AQ BX tN),bk 26 (AQ BX tE)],bw [bk 79 (AQ (fun x=>bk 87 (Ak .i64 .i64 x)) AV),bk 3 (AQ (bc .i64) Ab),bk 3 (AQ (bc .i64) AP)],bk 26 (AQ BX BO),bc .i64 Bc,bc .i64 Cs] []=some (br 3 (AQ (bc .i64) r),[])){v:AX×Int}{s:St}{r:AX}(h:Le rec_ tL tD tN tE AV Ab AP BO Bc Cs v=some r)(hM:Ea rec_ tL tD tN tE AV Ab AP BO Bc Cs v.1 v.2 s):BS Y.env A5l (Lt rec_ tL tD tN tE AV Ab AP BO Bc Cs r) s:=by
 unfold Le at h;refine Aw (c:=ry) (fun v=>Fy rec_ tL tD tN tE AV Ab AP BO Bc Cs v.1 v.2) (fun v s=>Ea rec_ tL tD tN tE AV Ab AP BO Bc Cs v.1 v.2 s) (Lt rec_ tL tD tN tE AV Ab AP BO Bc Cs) ?_ h hM;clear h hM s v r;intro v s o hM h;obtain⟨Ah,Ei⟩:=v;dsimp only at h hM;unfold Fy at h;unfold Ea at hM;obtain⟨m0,m1,m2,m3,m4,m5,m6,m7,m8⟩:=hM;unfold ry;rcases iS h with⟨e2,h⟩|⟨e2,h⟩
 ·obtain⟨e3,e4,h⟩:=Dr h;rcases iS h with⟨e5,h⟩|⟨e5,h⟩
  ·obtain⟨e6,h⟩:=Cu h;cases h;simp only [↓AJ,AL,↓reduceIte,bj,bh,b5,m0,m1,m2,m3,m4,m5,m6,m7,m8,e2,e3.1,e3.2,e4.1,e4.2,decide_eq_true e5,e6,Ea,Cx]<;>(repeat' apply A7)<;>first|rfl|exact⟨_,rfl⟩|exact⟨_,_,rfl⟩|simp [AQ]
  ·obtain⟨Jk,hl6,h⟩:=Ag h;have c6:=rec_h _ _ _ _ _ _ _ _ _ _ _ hl6;obtain⟨Au,hl8,h⟩:=Ag h;try dsimp only at h
   simp only [↓AJ,AL,↓reduceIte,bj,bh,b5,m0,m2,m3,m4,m6,m7,m8,e2,e3.1,e3.2,e4.1,e4.2,e5,c6];refine Al (Ye tL tD tN tE AV Ab AP BO Bc Cs Ah Ei Jk hl8 ?_) ?_
   ·simp only [BK,↓reduceIte,bj,m0,m1,m2,m3,m4,m5,m6,m7,m8,G5]
   ·intro ex8 s8 hX8;unfold Lr at hX8;obtain⟨rfl,n8_0,n8_1,n8_2,n8_3,n8_4,n8_5,n8_6,n8_7,n8_8,n8_9⟩:=hX8;obtain⟨e9,h⟩:=Cu h;cases h;simp only [↓AJ,AL,↓reduceIte,bj,bh,b5,n8_0,n8_1,n8_2,n8_3,n8_4,n8_5,n8_6,n8_7,n8_8,n8_9,e9,Ea,Cx]
 ·cases h;simp only [↓AJ,AL,↓reduceIte,bj,bh,m0,m1,m2,m3,m5,m7,m8,e2,Ea,Lt,Gf]
def Eb(tL tD:Int)(tN tE BO:AX)(Bc Cs:Int)(BH:AX)(zt:AO)(Re:Int)(s:St):Prop:=s.v 2=bk 26 (AQ BX BO)∧s.v 3=bc .i64 Bc∧s.v 4=bc .i64 Cs∧s.v 5=b7 [bc .i64 tL,bc .i64 tD,bk 26 (AQ BX tN),bk 26 (AQ BX tE)]∧s.v 11=br 26 (AQ Jp BH)∧s.v 19=br 3 (AQ (bc .i64) zt)∧s.v 102=bc .i64 ((ap tL.toNat (0:Int)).length:Int)∧s.v 103=bc .i64 Re
def Lu(tL tD:Int)(tN tE BO:AX)(Bc Cs:Int)(BH:AX)(r:AO)(ex:Ex)(s:St):Prop:=ex= .exit 6∧s.v 19=br 3 (AQ (bc .i64) r)
theorem Yg(tL tD:Int)(tN tE BO:AX)(Bc Cs:Int)(BH:AX){v:AO×Int}{s:St}{r:AO}(h:Ni tL tD tN tE BO Bc Cs BH v=some r)(hM:Eb tL tD tN tE BO Bc Cs BH v.1 v.2 s):BS Y.env A5m (Lu tL tD tN tE BO Bc Cs BH r) s:=by
 unfold Ni at h;refine Aw (c:=rz) (fun v=>Fz tL tD tN tE BO Bc Cs BH v.1 v.2) (fun v s=>Eb tL tD tN tE BO Bc Cs BH v.1 v.2 s) (Lu tL tD tN tE BO Bc Cs BH) ?_ h hM;clear h hM s v r;intro v s o hM h;obtain⟨zt,Re⟩:=v;dsimp only at h hM;unfold Fz at h;unfold Eb at hM;obtain⟨m0,m1,m2,m3,m4,m5,m6,m7⟩:=hM;unfold rz;rcases iS h with⟨e6,h⟩|⟨e6,h⟩
 ·obtain⟨e7,e8,h⟩:=Dr h;obtain⟨A5i,hl9,h⟩:=Ag h;have c9:=ZQ ((BO.getD Bc.toNat be).getD Cs.toNat be) Re hl9;rcases iS h with⟨e10,h⟩|⟨e10,h⟩
  ·obtain⟨ABY,hl11,h⟩:=Ag h;have c11:=XY tL tD tN tE BH Cs Re hl11;obtain⟨e12,h⟩:=Cu h;cases h;simp only [↓AJ,AL,↓reduceIte,bj,bh,m0,m1,m2,m3,m4,m5,m6,m7,e6,e7.1,e7.2,e8.1,e8.2,c9,e10,c11,e12.1,e12.2,Eb,Cx]
  ·have e10f:A5i=false:=G8.mpr e10;cases h;simp only [↓AJ,AL,↓reduceIte,bj,bh,m0,m1,m2,m3,m4,m5,m6,m7,e6,e7.1,e7.2,e8.1,e8.2,c9,e10f,Eb,Cx]
 ·cases h;simp only [↓AJ,AL,↓reduceIte,bj,bh,m5,m6,m7,e6,Eb,Lu,Gf]
theorem Xa(rec_:Int→Int→AX→AX→Ad→AO→AO→AX→Int→Int→Option (AO))(tL tD:Int)(tN tE:AX)(AV:Ad)(Ab AP:AO)(BO:AX)(Bc Cs:Int)(rec_h: ∀(tL tD:Int) (tN tE:AX) (AV:Ad) (Ab AP:AO) (BO:AX) (Bc Cs:Int) (r:AO),rec_ tL tD tN tE AV Ab AP BO Bc Cs=some r→Y.call 85 [bw [bc .i64 tL,bc .i64 tD,bk 26 (AQ BX tN),bk 26 (AQ BX tE)],bw [bk 79 (AQ (fun x=>bk 87 (Ak .i64 .i64 x)) AV),bk 3 (AQ (bc .i64) Ab),bk 3 (AQ (bc .i64) AP)],bk 26 (AQ BX BO),bc .i64 Bc,bc .i64 Cs] []=some (br 3 (AQ (bc .i64) r),[])){r:AO}(h:Mw rec_ tL tD tN tE AV Ab AP BO Bc Cs=some r):Y.call 85 [bw [bc .i64 tL,bc .i64 tD,bk 26 (AQ BX tN),bk 26 (AQ BX tE)],bw [bk 79 (AQ (fun x=>bk 87 (Ak .i64 .i64 x)) AV),bk 3 (AQ (bc .i64) Ab),bk 3 (AQ (bc .i64) AP)],bk 26 (AQ BX BO),bc .i64 Bc,bc .i64 Cs] []=some (br 3 (AQ (bc .i64) r),[]):=by
 refine c85 ?_ rfl;unfold k85;unfold Mw at h;obtain⟨e1,h⟩:=Cu h;obtain⟨BH,hl3,h⟩:=Ag h;try dsimp only at h
 simp only [↓AJ,AL,↓reduceIte,bj,bh,e1.1,e1.2];refine Al (Yf rec_ tL tD tN tE AV Ab AP BO Bc Cs rec_h hl3 ?_) ?_
 ·simp only [BK,Cg,↓reduceIte,bj,bh,Ea]<;>(repeat' apply A7)<;>first|rfl|exact⟨_,rfl⟩|exact⟨_,_,rfl⟩|simp [AQ,Ay]
 ·intro ex3 s3 hX3;unfold Lt at hX3;obtain⟨rfl,n3_0,n3_1,n3_2,n3_3,n3_4⟩:=hX3;rcases iS h with⟨e4,h⟩|⟨e4,h⟩
  ·obtain⟨AMO,hl5,h⟩:=Ag h;try dsimp only at h
   have c5:=XY tL tD tN tE BH (-1:Int) (0:Int) hl5;cases h;simp only [↓AJ,AL,↓reduceIte,bj,bh,b5,n3_2,n3_3,n3_4,e4,c5]<;>(repeat' apply A7)<;>first|rfl|exact⟨_,rfl⟩|exact⟨_,_,rfl⟩|simp [AQ,Ay]
  ·obtain⟨e5,h⟩:=Cu h;obtain⟨Sl,hl7,h⟩:=Ag h;try dsimp only at h
   simp only [↓AJ,AL,↓reduceIte,bj,bh,b5,n3_2,n3_3,e4,e5.1,e5.2];refine Al (Yg tL tD tN tE BO Bc Cs BH hl7 ?_) ?_
   ·simp only [BK,↓reduceIte,bj,n3_0,n3_1,n3_2,n3_3,n3_4,Eb]
   ·intro ex7 s7 hX7;unfold Lu at hX7;obtain⟨rfl,n7_0⟩:=hX7;cases h;simp only [↓AJ,AL,↓reduceIte,bj,bh,n7_0]
theorem Xb(n:Nat): ∀(tL:Int) (tD:Int) (tN:AX) (tE:AX) (AV:Ad) (Ab:AO) (AP:AO) (BO:AX) (Bc:Int) (Cs:Int) (r:AO),EG n tL tD tN tE AV Ab AP BO Bc Cs=some r→Y.call 85 [bw [bc .i64 tL,bc .i64 tD,bk 26 (AQ BX tN),bk 26 (AQ BX tE)],bw [bk 79 (AQ (fun x=>bk 87 (Ak .i64 .i64 x)) AV),bk 3 (AQ (bc .i64) Ab),bk 3 (AQ (bc .i64) AP)],bk 26 (AQ BX BO),bc .i64 Bc,bc .i64 Cs] []=some (br 3 (AQ (bc .i64) r),[]):=by
 induction n with
 |zero=>intro tL tD tN tE AV Ab AP BO Bc Cs r h;exact absurd h (by rw [EG];exact fun e=>by cases e)
 |succ n ih=>intro tL tD tN tE AV Ab AP BO Bc Cs r h;rw [EG]at h;exact Xa (EG n) tL tD tN tE AV Ab AP BO Bc Cs ih h
theorem aU(tL tD:Int)(tN tE:AX)(AV:Ad)(Ab AP:AO)(BO:AX)(Bc Cs:Int){r:AO}(h:Vs tL tD tN tE AV Ab AP BO Bc Cs=some r):Y.call 85 [bw [bc .i64 tL,bc .i64 tD,bk 26 (AQ BX tN),bk 26 (AQ BX tE)],bw [bk 79 (AQ (fun x=>bk 87 (Ak .i64 .i64 x)) AV),bk 3 (AQ (bc .i64) Ab),bk 3 (AQ (bc .i64) AP)],bk 26 (AQ BX BO),bc .i64 Bc,bc .i64 Cs] []=some (br 3 (AQ (bc .i64) r),[]):=Xb 1000000 tL tD tN tE AV Ab AP BO Bc Cs r h
def IJ(pL pD:Int)(pN pE:AX)(A8:Ad)(AR A9:AO)(masks:AX)(Bt:AO)(out Fe:Int):Option ((Int×Int)⊕(Int)):= if Fe<(Bt.length:Int)then ck (0≤Fe∧Fe.toNat<Bt.length)<| if Fe=(Bt.getD Fe.toNat be)then (Vs pL pD pN pE A8 AR A9 masks Fe (-1:Int)).bind fun eZ=> ck (0<eZ.length)<| (IG out (eZ.getD 0 be)).bind fun AMP=> some (bo (AMP,bm.wrap (Fe+1))) else some (bo (out,bm.wrap (Fe+1))) else some (bl out)
def P8(pL pD:Int)(pN pE:AX)(A8:Ad)(AR A9:AO)(masks:AX)(Bt:AO)(v:Int×Int):Option (Int):=Dq (fun v=>IJ pL pD pN pE A8 AR A9 masks Bt v.1 v.2) v
def Rf(pL pD:Int)(pN pE:AX)(A8:Ad)(AR A9:AO)(masks:AX):Option (Int):= (Ra A8 AR A9).bind fun Bt=> (P8 pL pD pN pE A8 AR A9 masks Bt (1,0)).bind fun AU=> some AU
def sD:SC:= .seq (.ops [oB 14 .lss 3 (tK 13) (tK 12) 3 0]) (.seq (.cond (tK 14) .skip (.exit 0)) (.seq (.block 1 (.seq (.ops [oM 15 13 3,oI 16 26 11 13,oL 17 3 16 3,oA 8 15 3,oA 9 17 3]) (.seq (.ops [oM 18 8 3,oM 19 9 3,oB 20 .eql 3 (tK 18) (tK 19) 3 4]) (.cond (tK 20) (.ops [oM 21 7 3,oL 22 34 3 34,oL 23 38 4 38,oM 24 2 22,oM 25 8 3,oC 26 85 [(tK 22),(tK 23),(tK 24),(tK 25),wL] [34,38,22,3,3] 26,oX 27 (.indexAddr 26 (tK 26) (iK 0)) 0,oL 28 3 27 3,oC 29 84 [(tK 21),(tK 28)] [3,3] 3,oA 7 29 3]) .skip)))) (.ops [oB 30 .add 3 (tK 13) (iK 1) 3 3,oM 13 30 3])))
def A5n:SC:= .loop sD
def k51:SC:= .seq (.ops [oX 3 (.box 34 (tK 0)) 0,oX 4 (.box 38 (tK 1)) 0,oX 6 (.assign (iK 0)) 3]) (.seq (.ops [oX 7 (.assign (iK 1)) 3]) (.seq (.seq (.ops [oL 10 38 4 38,oC 11 83 [(tK 10)] [38] 26,oN 12 11 26,oX 13 (.move (iK 0)) 3]) (.block 0 A5n)) (.seq (.ops [oM 31 7 3,oA 6 31 3]) .ret)))
theorem AFC:Tryz.f51.body.map (BP lends)=some k51:=by kernel_rfl
theorem ATR:BR Tryz.f51 3=true:=by kernel_rfl
theorem c51{a l:List D}{r:D×List D}(h:BS Y.env k51 (fin Aj l.length [bt 6] r) (entry a l))(ha:a.length=3):Y.call 51 a l=some r:=
 AY (Y:=Y) rfl Tryz.func51 (ha▸ATR) AFC h
def FW(pL pD:Int)(pN pE:AX)(A8:Ad)(AR A9:AO)(masks:AX)(Bt:AO)(out Fe:Int)(s:St):Prop:=s.v 2=bk 26 (AQ BX masks)∧s.v 3=b7 [bc .i64 pL,bc .i64 pD,bk 26 (AQ BX pN),bk 26 (AQ BX pE)]∧s.v 4=b7 [bk 79 (AQ (fun x=>bk 87 (Ak .i64 .i64 x)) A8),bk 3 (AQ (bc .i64) AR),bk 3 (AQ (bc .i64) A9)]∧s.v 7=bc .i64 out∧s.v 11=br 3 (AQ (bc .i64) Bt)∧s.v 12=bc .i64 (Bt.length:Int)∧s.v 13=bc .i64 Fe
def Mx(pL pD:Int)(pN pE:AX)(A8:Ad)(AR A9:AO)(masks:AX)(Bt:AO)(r:Int)(ex:Ex)(s:St):Prop:=ex= .exit 0∧s.v 7=bc .i64 r
theorem aV(pL pD:Int)(pN pE:AX)(A8:Ad)(AR A9:AO)(masks:AX)(Bt:AO){v:Int×Int}{s:St}{r:Int}(h:P8 pL pD pN pE A8 AR A9 masks Bt v=some r)(hM:FW pL pD pN pE A8 AR A9 masks Bt v.1 v.2 s):BS Y.env A5n (Mx pL pD pN pE A8 AR A9 masks Bt r) s:=by
 unfold P8 at h;refine Aw (c:=sD) (fun v=>IJ pL pD pN pE A8 AR A9 masks Bt v.1 v.2) (fun v s=>FW pL pD pN pE A8 AR A9 masks Bt v.1 v.2 s) (Mx pL pD pN pE A8 AR A9 masks Bt) ?_ h hM;clear h hM s v r;intro v s o hM h;obtain⟨out,Fe⟩:=v;dsimp only at h hM;unfold IJ at h;unfold FW at hM;obtain⟨m0,m1,m2,m3,m4,m5,m6⟩:=hM;unfold sD;rcases iS h with⟨e2,h⟩|⟨e2,h⟩
 ·obtain⟨e3,h⟩:=Cu h;rcases iS h with⟨e4,h⟩|⟨e4,h⟩
  ·obtain⟨eZ,hl5,h⟩:=Ag h;have c5:=aU pL pD pN pE A8 AR A9 masks Fe (-1:Int) hl5;obtain⟨e6,h⟩:=Cu h;obtain⟨AMP,hl7,h⟩:=Ag h;try dsimp only at h
   have c7:=II out (eZ.getD 0 be) hl7;cases h;simp only [↓AJ,AL,↓reduceIte,bj,bh,m0,m1,m2,m3,m4,m5,m6,e2,e3.1,e3.2,decide_eq_true e4,c5,e6,c7,FW,Cx]
  ·cases h;simp only [↓AJ,AL,↓reduceIte,bj,bh,m0,m1,m2,m3,m4,m5,m6,e2,e3.1,e3.2,e4,FW,Cx]
 ·cases h;simp only [↓AJ,AL,↓reduceIte,bj,bh,m3,m5,m6,e2,FW,Mx,Gf]
theorem iV(pL pD:Int)(pN pE:AX)(A8:Ad)(AR A9:AO)(masks:AX){r:Int}(h:Rf pL pD pN pE A8 AR A9 masks=some r):Y.call 51 [bw [bc .i64 pL,bc .i64 pD,bk 26 (AQ BX pN),bk 26 (AQ BX pE)],bw [bk 79 (AQ (fun x=>bk 87 (Ak .i64 .i64 x)) A8),bk 3 (AQ (bc .i64) AR),bk 3 (AQ (bc .i64) A9)],bk 26 (AQ BX masks)] []=some (bc .i64 r,[]):=by
 refine c51 ?_ rfl;unfold k51;unfold Rf at h;obtain⟨Bt,hl1,h⟩:=Ag h;have c1:=iL A8 AR A9 hl1;obtain⟨AU,hl3,h⟩:=Ag h;try dsimp only at h
 simp only [↓AJ,AL,↓reduceIte,bj,bh,c1];refine Al (aV pL pD pN pE A8 AR A9 masks Bt hl3 ?_) ?_
 ·simp only [BK,Cg,↓reduceIte,bj,bh,FW]
 ·intro ex3 s3 hX3;unfold Mx at hX3;obtain⟨rfl,n3_0⟩:=hX3;cases h;simp only [↓AJ,AL,↓reduceIte,bj,bh,n3_0]
abbrev xA:List Nat:=[11,12,13,14,15,16,17,6,17]
def k29:SC:= .seq (.ops [oX 2 (.box 34 (tK 0)) 0,oX 3 (.box 38 (tK 1)) 0,oX 4 (.assign (iK 0)) 3,oX 5 Ba 4]) (.seq (.seq (.ops [oL 7 34 2 34,oL 8 38 3 38,oC 9 45 [(tK 7),(tK 8)] [34,38] 4,oX 10 (.unOp .not 4 (tK 9)) 4]) (.cond (tK 10) (.seq (.ops [oX 4 (.assign (iK 0)) 3,oX 5 Ba 4]) .ret) .skip)) (.seq (.draws [(⟨[11,2,2],xA,[11]⟩,oL 11 34 2 34),(⟨[12,3,3],xA,[12]⟩,oL 12 38 3 38),(⟨[13,2,2],xA,[13]⟩,oL 13 34 2 34),(⟨[14,3,3],xA,[14]⟩,oL 14 38 3 38),(⟨[15,14,3],xA,[15]⟩,oC 15 50 [(tK 14)] [38] 22),(⟨[16,13,15,2,15],xA,[16]⟩,oC 16 35 [(tK 13),(tK 15)] [34,22] 22),(⟨[17,11,12,16,2,3,16],xA,[17]⟩,oC 17 51 [(tK 11),(tK 12),(tK 16)] [34,38,22] 3),(⟨[6,17,17],xA,[6,17]⟩,oA 6 17 3)]) (.seq (.seq (.ops [oM 18 6 3,oB 19 .gtr 3 (tK 18) (iK 1000000000000) 3 4]) (.cond (tK 19) (.seq (.ops [oX 4 (.assign (iK 0)) 3,oX 5 Ba 4]) .ret) .skip)) (.seq (.ops [oM 20 6 3,oA 4 20 3,oX 5 (.assign Cy) 4]) .ret))))
theorem AFD:Tryz.f29.body.map (BP lends)=some k29:=by kernel_rfl
theorem ATS:BR Tryz.f29 2=true:=by kernel_rfl
theorem c29{a l:List D}{r:D×List D}(h:BS Y.env k29 (fin Aj l.length [bt 4,bt 5] r) (entry a l))(ha:a.length=2):Y.call 29 a l=some r:=
 AY (Y:=Y) rfl Tryz.func29 (ha▸ATS) AFD h
def FB(A8:Ad)(out:AX)(Fe:Int):Option ((AX×Int)⊕(AX)):= if Fe<(A8.length:Int)then ck (0≤Fe∧Fe.toNat<A8.length)<| (gRp [(-1)] ((A8.getD Fe.toNat be).length:Int)).bind fun AMQ=> ck (0≤Fe∧Fe.toNat<out.length)<| some (bo ((out.set Fe.toNat AMQ),bm.wrap (Fe+1))) else some (bl out)
def N7(A8:Ad)(v:AX×Int):Option (AX):=Dq (fun v=>FB A8 v.1 v.2) v
def OL(A8:Ad)(AR A9:AO):Option (AX):= ck (0≤(A8.length:Int)∧(A8.length:Int)<1099511627776)<| (N7 A8 ((ap A8.length ([]:AO)),0)).bind fun AU=> some AU
def sI:SC:= .seq (.ops [oB 14 .lss 3 (tK 13) (tK 12) 3 0]) (.seq (.cond (tK 14) .skip (.exit 0)) (.seq (.block 1 (.seq (.ops [oM 15 13 3,oI 16 36 11 13,oL 17 79 16 79,oA 4 15 3,oA 5 17 79]) (.ops [oM 18 3 22,oM 19 4 3,oX 20 (.buildSlice 26 1 #[(0,wL)]) 26,oM 21 5 79,oN 22 21 79,oC 23 81 [(tK 20),(tK 22)] [26,3] 26,oI 24 22 18 19,oS 26 24 23]))) (.ops [oB 25 .add 3 (tK 13) (iK 1) 3 3,oM 13 25 3])))
def A5o:SC:= .loop sI
def k48:SC:= .seq (.ops [oX 1 (.box 38 (tK 0)) 0,oX 2 Gv 22]) (.seq (.ops [oF 6 38 1 0,oL 7 36 6 36,oN 8 7 36,oX 9 (.makeSlice 22 (tK 8) (tK 8)) 22,oA 3 9 22]) (.seq (.seq (.ops [oF 10 38 1 0,oL 11 36 10 36,oN 12 11 36,oX 13 (.move (iK 0)) 3]) (.block 0 A5o)) (.seq (.ops [oM 26 3 22,oA 2 26 22]) .ret)))
theorem AFE:Tryz.f48.body.map (BP lends)=some k48:=by kernel_rfl
theorem ATU:BR Tryz.f48 1=true:=by kernel_rfl
theorem c48{a l:List D}{r:D×List D}(h:BS Y.env k48 (fin Aj l.length [bt 2] r) (entry a l))(ha:a.length=1):Y.call 48 a l=some r:=
 AY (Y:=Y) rfl Tryz.func48 (ha▸ATU) AFE h
def FC(A8:Ad)(out:AX)(Fe:Int)(s:St):Prop:=s.v 3=br 26 (AQ Jp out)∧s.v 11=bk 79 (AQ (fun x=>bk 87 (Ak .i64 .i64 x)) A8)∧s.v 12=bc .i64 (A8.length:Int)∧s.v 13=bc .i64 Fe
def LC(A8:Ad)(r:AX)(ex:Ex)(s:St):Prop:=ex= .exit 0∧s.v 3=br 26 (AQ Jp r)
theorem Xc(A8:Ad){v:AX×Int}{s:St}{r:AX}(h:N7 A8 v=some r)(hM:FC A8 v.1 v.2 s):BS Y.env A5o (LC A8 r) s:=by
 unfold N7 at h;refine Aw (c:=sI) (fun v=>FB A8 v.1 v.2) (fun v s=>FC A8 v.1 v.2 s) (LC A8) ?_ h hM;clear h hM s v r;intro v s o hM h;obtain⟨out,Fe⟩:=v;dsimp only at h hM;unfold FB at h;unfold FC at hM;obtain⟨m0,m1,m2,m3⟩:=hM;unfold sI;rcases iS h with⟨e2,h⟩|⟨e2,h⟩
 ·obtain⟨e3,h⟩:=Cu h;obtain⟨AMQ,hl4,h⟩:=Ag h;try dsimp only at h
  have c4:=XM [(-1)] ((A8.getD Fe.toNat be).length:Int) hl4;simp only [Iw,Ul]at c4;obtain⟨e5,h⟩:=Cu h;cases h;simp only [↓AJ,AL,↓reduceIte,bj,bh,b5,m0,m1,m2,m3,e2,e3.1,e3.2,c4,e5.2,FC,Cx]
 ·cases h;simp only [↓AJ,AL,↓reduceIte,bj,bh,m0,m2,m3,e2,FC,LC,Gf]
theorem Yh(A8:Ad)(AR A9:AO){r:AX}(h:OL A8 AR A9=some r):Y.call 48 [bw [bk 79 (AQ (fun x=>bk 87 (Ak .i64 .i64 x)) A8),bk 3 (AQ (bc .i64) AR),bk 3 (AQ (bc .i64) A9)]] []=some (br 26 (AQ Jp r),[]):=by
 refine c48 ?_ rfl;unfold k48;unfold OL at h;obtain⟨e1,h⟩:=Cu h;obtain⟨AU,hl3,h⟩:=Ag h;try dsimp only at h
 simp only [↓AJ,AL,↓reduceIte,bj,bh,b5,e1.1,e1.2];refine Al (Xc A8 hl3 ?_) ?_
 ·simp only [BK,↓reduceIte,bj,FC]
 ·intro ex3 s3 hX3;unfold LC at hX3;obtain⟨rfl,n3_0⟩:=hX3;cases h;simp only [↓AJ,AL,↓reduceIte,bj,bh,n3_0]
def Ec(tL BO Bc:Int)(Qp:AX×Bool)(Qo:AO)(sJ:Int):Option ((AO×Int)⊕(AO)):= if sJ<tL then ck (0≤BO∧BO.toNat<Qp.1.length)<| ck (0≤Bc∧Bc.toNat<(Qp.1.getD BO.toNat be).length)<| ck (¬sJ<0)<| if(G9 .and .i64 (((Qp.1.getD BO.toNat be).getD Bc.toNat be).fdiv (2 ^ (min sJ.toNat (bm.bits)))) 1)=1 then ck (Qo.length+1<1099511627776)<| some (bo ((Qo++[sJ]),bm.wrap (sJ+1))) else some (bo (Qo,bm.wrap (sJ+1))) else some (bl Qo)
def Nj(tL BO Bc:Int)(Qp:AX×Bool)(v:AO×Int):Option (AO):=Dq (fun v=>Ec tL BO Bc Qp v.1 v.2) v
def Q7(tL tD:Int)(tN tE:AX)(AV:Ad)(Ab AP:AO)(BO Bc:Int):Option (AO×Bool):= ck (BQ tN)<| ck (BQ tE)<| if(M7 tL tD tN tE)=true then ck (Cf AV)<| ck (Ab.length<1099511627776)<| ck (AP.length<1099511627776)<| if(Dt AV Ab AP)=true then (Py AV Ab AP).bind fun NL=> if NL=true then (ER AV Ab AP BO Bc).bind fun AFF=> if AFF=true then (OL AV Ab AP).bind fun Sv=> (OC tL tD tN tE AV Ab AP Sv).bind fun Qp=> if Qp.2=true then (Nj tL BO Bc Qp ([],0)).bind fun AU=> some (AU,true) else some ([],true) else some ([],false) else some ([],false) else some ([],false) else some ([],false)
def sK:SC:= .seq (.ops [oB 48 .lss 3 (tK 47) (tK 46) 3 4]) (.seq (.cond (tK 48) .skip (.exit 0)) (.seq (.block 1 (.seq (.ops [oM 49 47 3,oA 13 49 3]) (.seq (.ops [oM 50 11 22,oM 51 2 3,oI 52 22 50 51,oL 53 26 52 26,oM 54 3 3,oI 55 26 53 54,oL 56 3 55 3,oM 57 13 3,oB 58 .shr 3 (tK 56) (tK 57) 3 3,oB 59 .and 3 (tK 58) (iK 1) 3 3,oB 60 .eql 3 (tK 59) (iK 1) 3 4]) (.cond (tK 60) (.ops [oM 61 10 26,oM 62 13 3,oX 63 (.buildSlice 26 1 #[(0,(tK 62))]) 26,oX 64 (.call ⟨(.builtin .append), #[(tK 61),(tK 63)], #[26,26]⟩) 26,oA 10 64 26]) .skip)))) (.ops [oB 65 .add 3 (tK 47) (iK 1) 3 3,oM 47 65 3])))
def A5p:SC:= .loop sK
abbrev lD:List Nat:=[35,36,37,38,39,34,39,40,41,11,40,39,12,41]
def k25:SC:= .seq (.ops [oX 4 (.box 34 (tK 0)) 0,oX 5 (.box 38 (tK 1)) 0,oX 8 Gv 26,oX 9 Ba 4]) (.seq (.seq (.ops [oL 14 34 4 34,oC 15 39 [(tK 14)] [34] 4,oX 16 (.unOp .not 4 (tK 15)) 4,oM 17 16 4,⟨some 18,.load 38 (tK 5),38,(some (some 17,false))⟩,⟨some 19,.call ⟨(.value (.func 40)), #[(tK 18)], #[38]⟩,4,(some (some 17,false))⟩,⟨some 20,.unOp .not 4 (tK 19),4,(some (some 17,false))⟩,oX 21 (.pick (tK 17) Cy (tK 20)) 4,oM 22 21 4,⟨some 23,.load 38 (tK 5),38,(some (some 22,false))⟩,⟨some 24,.call ⟨(.value (.func 47)), #[(tK 23)], #[38]⟩,4,(some (some 22,false))⟩,⟨some 25,.unOp .not 4 (tK 24),4,(some (some 22,false))⟩,oX 26 (.pick (tK 22) Cy (tK 25)) 4,oM 27 26 4,⟨some 28,.load 38 (tK 5),38,(some (some 27,false))⟩,⟨some 29,.move (tK 2),3,(some (some 27,false))⟩,⟨some 30,.move (tK 3),3,(some (some 27,false))⟩,⟨some 31,.call ⟨(.value (.func 52)), #[(tK 28),(tK 29),(tK 30)], #[38,3,3]⟩,4,(some (some 27,false))⟩,⟨some 32,.unOp .not 4 (tK 31),4,(some (some 27,false))⟩,oX 33 (.pick (tK 27) Cy (tK 32)) 4]) (.cond (tK 33) (.seq (.ops [oX 8 Gv 26,oX 9 Ba 4]) .ret) .skip)) (.seq (.ops [oX 10 Gv 26]) (.seq (.draws [(⟨[35,4,4],lD,[35]⟩,oL 35 34 4 34),(⟨[36,5,5],lD,[36]⟩,oL 36 38 5 38),
 (⟨[37,5,5],lD,[37]⟩,oL 37 38 5 38),(⟨[38,37,5],lD,[38]⟩,oC 38 48 [(tK 37)] [38] 22),(⟨[39,35,36,38,4,5,38],lD,[39]⟩,oC 39 42 [(tK 35),(tK 36),(tK 38)] [34,38,22] 32),(⟨[34,39,39],lD,[34,39]⟩,oM 34 39 32),(⟨[40,34],lD,[40]⟩,oE 40 34 0 22),(⟨[41,34],lD,[41]⟩,oE 41 34 1 4),(⟨[11,40,39],lD,[11,40,39]⟩,oA 11 40 22),(⟨[12,41],lD,[12,41]⟩,oA 12 41 4)]) (.seq (.seq (.ops [oM 42 12 4,oX 43 (.unOp .not 4 (tK 42)) 4]) (.cond (tK 43) (.seq (.ops [oM 44 10 26,oA 8 44 26,oX 9 (.assign Cy) 4]) .ret) .skip)) (.seq (.seq (.ops [oF 45 34 4 0,oL 46 3 45 3,oX 47 (.move (iK 0)) 3]) (.block 0 A5p)) (.seq (.ops [oM 66 10 26,oA 8 66 26,oX 9 (.assign Cy) 4]) .ret))))))
theorem AFG:Tryz.f25.body.map (BP lends)=some k25:=by kernel_rfl
theorem ATX:BR Tryz.f25 4=true:=by kernel_rfl
theorem c25{a l:List D}{r:D×List D}(h:BS Y.env k25 (fin Aj l.length [bt 8,bt 9] r) (entry a l))(ha:a.length=4):Y.call 25 a l=some r:=
 AY (Y:=Y) rfl Tryz.func25 (ha▸ATX) AFG h
def Ed(tL BO Bc:Int)(Qp:AX×Bool)(Qo:AO)(sJ:Int)(s:St):Prop:=s.v 2=bc .i64 BO∧s.v 3=bc .i64 Bc∧s.v 10=br 3 (AQ (bc .i64) Qo)∧s.v 11=br 26 (AQ Jp Qp.1)∧s.v 46=bc .i64 tL∧s.v 47=bc .i64 sJ
def Lv(tL BO Bc:Int)(Qp:AX×Bool)(r:AO)(ex:Ex)(s:St):Prop:=ex= .exit 0∧s.v 10=br 3 (AQ (bc .i64) r)
theorem Yi(tL BO Bc:Int)(Qp:AX×Bool){v:AO×Int}{s:St}{r:AO}(h:Nj tL BO Bc Qp v=some r)(hM:Ed tL BO Bc Qp v.1 v.2 s):BS Y.env A5p (Lv tL BO Bc Qp r) s:=by
 unfold Nj at h;refine Aw (c:=sK) (fun v=>Ec tL BO Bc Qp v.1 v.2) (fun v s=>Ed tL BO Bc Qp v.1 v.2 s) (Lv tL BO Bc Qp) ?_ h hM;clear h hM s v r;intro v s o hM h;obtain⟨Qo,sJ⟩:=v;dsimp only at h hM;unfold Ec at h;unfold Ed at hM;obtain⟨m0,m1,m2,m3,m4,m5⟩:=hM;unfold sK;rcases iS h with⟨e17,h⟩|⟨e17,h⟩
 ·obtain⟨e18,e19,e20,h⟩:=NC h;rcases iS h with⟨e21,h⟩|⟨e21,h⟩
  ·obtain⟨e22,h⟩:=Cu h;cases h;simp only [↓AJ,AL,↓reduceIte,bj,bh,b5,m0,m1,m2,m3,m4,m5,e17,e18.1,e18.2,e19.1,e19.2,e20,decide_eq_true e21,e22,Ed,Cx]
  ·cases h;simp only [↓AJ,AL,↓reduceIte,bj,bh,m0,m1,m2,m3,m4,m5,e17,e18.1,e18.2,e19.1,e19.2,e20,e21,Ed,Cx]
 ·cases h;simp only [↓AJ,AL,↓reduceIte,bj,bh,m2,m4,m5,e17,Ed,Lv,Gf]
theorem aW(tL tD:Int)(tN tE:AX)(AV:Ad)(Ab AP:AO)(BO Bc:Int){r:AO×Bool}(h:Q7 tL tD tN tE AV Ab AP BO Bc=some r):Y.call 25 [bw [bc .i64 tL,bc .i64 tD,bk 26 (AQ BX tN),bk 26 (AQ BX tE)],bw [bk 79 (AQ (fun x=>bk 87 (Ak .i64 .i64 x)) AV),bk 3 (AQ (bc .i64) Ab),bk 3 (AQ (bc .i64) AP)],bc .i64 BO,bc .i64 Bc] []=some (D.tup [br 3 (AQ (bc .i64) r.1),bp r.2],[]):=by
 refine c25 ?_ rfl;unfold k25;unfold Q7 at h;obtain⟨e1,e2,h⟩:=Dr h;have c3:=fC tL tD tN tE e1 e2;rcases iS h with⟨e4,h⟩|⟨e4,h⟩
 ·obtain⟨e5,e6,e7,h⟩:=NC h;have c8:=gD AV Ab AP e5 e6 e7;rcases iS h with⟨e9,h⟩|⟨e9,h⟩
  ·obtain⟨NL,hl10,h⟩:=Ag h;have Uq:=aK AV Ab AP hl10;rcases iS h with⟨e11,h⟩|⟨e11,h⟩
   ·obtain⟨AFF,hl12,h⟩:=Ag h;have zQ:=Me AV Ab AP BO Bc hl12;rcases iS h with⟨e13,h⟩|⟨e13,h⟩
    ·obtain⟨Sv,hl14,h⟩:=Ag h;have kV:=Yh AV Ab AP hl14;obtain⟨Qp,hl15,h⟩:=Ag h;have uC:=YX tL tD tN tE AV Ab AP Sv hl15;rcases iS h with⟨e16,h⟩|⟨e16,h⟩
     ·obtain⟨AU,hl18,h⟩:=Ag h;try dsimp only at h
      simp (maxDischargeDepth:=9) only [↓AJ,AL,↓reduceIte,bj,bh,c3,e4,c8,e9,Uq,e11,zQ,e13,kV,uC,e16];refine Al (Yi tL BO Bc Qp hl18 ?_) ?_
      ·simp (maxDischargeDepth:=9) only [BK,Cg,↓reduceIte,bj,bh,Ed]<;>(repeat' apply A7)<;>first|rfl|exact⟨_,rfl⟩|exact⟨_,_,rfl⟩|simp [AQ,Ay]
      ·intro ex18 s18 hX18;unfold Lv at hX18;obtain⟨rfl,n18_0⟩:=hX18;cases h;simp (maxDischargeDepth:=9) only [↓AJ,AL,↓reduceIte,bj,bh,n18_0]
     ·have e16f:Qp.2=false:=G8.mpr e16;cases h;simp (maxDischargeDepth:=9) only [↓AJ,AL,↓reduceIte,bj,bh,c3,e4,c8,e9,Uq,e11,zQ,e13,kV,uC,e16f]<;>(repeat' apply A7)<;>first|rfl|exact⟨_,rfl⟩|exact⟨_,_,rfl⟩|simp [AQ,Ay]
    ·have e13f:AFF=false:=G8.mpr e13;cases h;simp (maxDischargeDepth:=9) only [↓AJ,AL,↓reduceIte,bj,bh,c3,e4,c8,e9,Uq,e11,zQ,e13f]<;>(repeat' apply A7)<;>first|rfl|exact⟨_,rfl⟩|exact⟨_,_,rfl⟩|simp [AQ,Ay]
   ·have e11f:NL=false:=G8.mpr e11;cases h;simp (maxDischargeDepth:=9) only [↓AJ,AL,↓reduceIte,bj,bh,c3,e4,c8,e9,Uq,e11f]<;>(repeat' apply A7)<;>first|rfl|exact⟨_,rfl⟩|exact⟨_,_,rfl⟩|simp [AQ,Ay]
  ·have e9f:(Dt AV Ab AP)=false:=G8.mpr e9;cases h;simp (maxDischargeDepth:=9) only [↓AJ,AL,↓reduceIte,bj,bh,c3,e4,c8,e9f]<;>(repeat' apply A7)<;>first|rfl|exact⟨_,rfl⟩|exact⟨_,_,rfl⟩|simp [AQ,Ay]
 ·have e4f:(M7 tL tD tN tE)=false:=G8.mpr e4;cases h;simp (maxDischargeDepth:=9) only [↓AJ,AL,↓reduceIte,bj,bh,c3,e4f]<;>(repeat' apply A7)<;>first|rfl|exact⟨_,rfl⟩|exact⟨_,_,rfl⟩|simp [AQ,Ay]
def Xd(A8:Ad)(AR A9:AO)(v_ i:Int):Option (Bool):= ck (Cf A8)<| ck (AR.length<1099511627776)<| ck (A9.length<1099511627776)<| if(Dt A8 AR A9)=true then if(Jz v_ (0:Int) (bm.wrap ((A8.length:Int)-1)))=true then ck (0≤v_∧v_.toNat<A8.length)<| some (Jz i (0:Int) (bm.wrap (((A8.getD v_.toNat be).length:Int)-1))) else some false else some false
def k49:SC:= .seq (.ops [oX 3 (.box 38 (tK 0)) 0,oX 6 Ba 4]) (.seq (.ops [oL 7 38 3 38,oC 8 58 [(tK 7)] [38] 4,oM 9 8 4,⟨some 10,.move (tK 1),3,(some (some 9,true))⟩,⟨some 11,.fieldAddr 38 (tK 3) 0,0,(some (some 9,true))⟩,⟨some 12,.load 36 (tK 11),36,(some (some 9,true))⟩,⟨some 13,.call ⟨(.builtin .len), #[(tK 12)], #[36]⟩,3,(some (some 9,true))⟩,⟨some 14,.binOp .sub 3 (tK 13) (iK 1) 3,3,(some (some 9,true))⟩,⟨some 15,.call ⟨(.value (.func 82)), #[(tK 10),(iK 0),(tK 14)], #[3,3,3]⟩,4,(some (some 9,true))⟩,oX 16 (.pick (tK 9) (tK 15) LK) 4,oM 17 16 4,⟨some 18,.move (tK 2),3,(some (some 17,true))⟩,⟨some 19,.fieldAddr 38 (tK 3) 0,0,(some (some 17,true))⟩,⟨some 20,.load 36 (tK 19),36,(some (some 17,true))⟩,⟨some 21,.move (tK 1),3,(some (some 17,true))⟩,⟨some 22,.indexAddr 36 (tK 20) (tK 21),0,(some (some 17,true))⟩,⟨some 23,.load 79 (tK 22),79,(some (some 17,true))⟩,⟨some 24,.call ⟨(.builtin .len), #[(tK 23)], #[79]⟩,3,(some (some 17,true))⟩,⟨some 25,.binOp .sub 3 (tK 24) (iK 1) 3,3,(some (some 17,true))⟩,⟨some 26,.call ⟨(.value (.func 82)), #[(tK 18),(iK 0),(tK 25)], #[3,3,3]⟩,4,(some (some 17,true))⟩,oX 27 (.pick (tK 17) (tK 26) LK) 4,oA 6 27 4])
 .ret)
theorem AFH:Tryz.f49.body.map (BP lends)=some k49:=by kernel_rfl
theorem ATZ:BR Tryz.f49 3=true:=by kernel_rfl
theorem c49{a l:List D}{r:D×List D}(h:BS Y.env k49 (fin Aj l.length [bt 6] r) (entry a l))(ha:a.length=3):Y.call 49 a l=some r:=
 AY (Y:=Y) rfl Tryz.func49 (ha▸ATZ) AFH h
theorem lF(A8:Ad)(AR A9:AO)(v_ i:Int){r:Bool}(h:Xd A8 AR A9 v_ i=some r):Y.call 49 [bw [bk 79 (AQ (fun x=>bk 87 (Ak .i64 .i64 x)) A8),bk 3 (AQ (bc .i64) AR),bk 3 (AQ (bc .i64) A9)],bc .i64 v_,bc .i64 i] []=some (bp r,[]):=by
 refine c49 ?_ rfl;unfold k49;unfold Xd at h;obtain⟨e1,e2,e3,h⟩:=NC h;have c4:=ZP A8 AR A9 e1 e2 e3;rcases iS h with⟨e5,h⟩|⟨e5,h⟩
 ·have c6:=JH v_ (0:Int) (bm.wrap ((A8.length:Int)-1));rcases iS h with⟨e7,h⟩|⟨e7,h⟩
  ·obtain⟨e8,h⟩:=Cu h;have c9:=JH i (0:Int) (bm.wrap (((A8.getD v_.toNat be).length:Int)-1));cases h;simp only [↓AJ,AL,↓reduceIte,bj,bh,c4,e5,c6,e7,e8.1,e8.2,c9]
  ·have e7f:(Jz v_ (0:Int) (bm.wrap ((A8.length:Int)-1)))=false:=G8.mpr e7;cases h;simp only [↓AJ,AL,↓reduceIte,bj,bh,c4,e5,c6,e7f]
 ·have e5f:(Dt A8 AR A9)=false:=G8.mpr e5;cases h;simp only [↓AJ,AL,↓reduceIte,bj,bh,c4,e5f]
def Ee(pL pD:Int)(pN pE:AX)(A8:Ad)(AR A9:AO)(v_ i:Int)(out:AO)(l:AX)(a:Int):Option ((AO×AX×Int)⊕(AO)):= if a<pL then ck (0≤v_∧v_.toNat<l.length)<| ck (0≤i∧i.toNat<(l.getD v_.toNat be).length)<| (UN pL pD pN pE (l.set v_.toNat ((l.getD v_.toNat be).set i.toNat a))).bind fun AFI=> (Rf pL pD pN pE A8 AR A9 AFI).bind fun AMR=> if 0<AMR then ck (out.length+1<1099511627776)<| some (bo ((out++[a]),(l.set v_.toNat ((l.getD v_.toNat be).set i.toNat a)),bm.wrap (a+1))) else some (bo (out,(l.set v_.toNat ((l.getD v_.toNat be).set i.toNat a)),bm.wrap (a+1))) else some (bl out)
def Nk(pL pD:Int)(pN pE:AX)(A8:Ad)(AR A9:AO)(v_ i:Int)(v:AO×AX×Int):Option (AO):=Dq (fun v=>Ee pL pD pN pE A8 AR A9 v_ i v.1 v.2.1 v.2.2) v
def Q8(pL pD:Int)(pN pE:AX)(A8:Ad)(AR A9:AO)(v_ i:Int):Option (AO×Bool):= (Sr pL pD pN pE A8 AR A9).bind fun zT=> if zT=true then (Xd A8 AR A9 v_ i).bind fun AFJ=> if AFJ=true then (Rb A8 AR A9).bind fun kM=> (Nk pL pD pN pE A8 AR A9 v_ i ([],kM,0)).bind fun AU=> some (AU,true) else some ([],false) else some ([],false)
def sM:SC:= .seq (.seq (.ops [oM 26 12 3,oF 27 34 4 0,oL 28 3 27 3,oB 29 .lss 3 (tK 26) (tK 28) 3 4]) (.cond (tK 29) .skip (.exit 0))) (.seq (.block 1 (.seq (.ops [oM 32 11 22,oM 33 2 3,oI 34 22 32 33,oL 35 26 34 26,oM 36 3 3,oM 37 12 3,oI 38 26 35 36,oS 3 38 37]) (.seq (.draws [(⟨[39,4,4],[39,40,41,42,43,44,45],[39]⟩,oL 39 34 4 34),(⟨[40,5,5],[39,40,41,42,43,44,45],[40]⟩,oL 40 38 5 38),(⟨[41,4,4],[39,40,41,42,43,44,45],[41]⟩,oL 41 34 4 34),(⟨[42,11,11],[39,40,41,42,43,44,45],[42]⟩,oM 42 11 22),(⟨[43,41,42,4,11],[39,40,41,42,43,44,45],[43]⟩,oC 43 35 [(tK 41),(tK 42)] [34,22] 22),(⟨[44,39,40,43,4,5,43],[39,40,41,42,43,44,45],[44]⟩,oC 44 51 [(tK 39),(tK 40),(tK 43)] [34,38,22] 3),(⟨[45,44,44],[39,40,41,42,43,44,45],[45]⟩,oB 45 .gtr 3 (tK 44) (iK 0) 3 4)]) (.cond (tK 45) (.ops [oM 46 10 26,oM 47 12 3,oX 48 (.buildSlice 26 1 #[(0,(tK 47))]) 26,oX 49 (.call ⟨(.builtin .append), #[(tK 46),(tK 48)], #[26,26]⟩) 26,oA 10 49 26]) .skip)))) (.ops [oM 30 12 3,oB 31 .add 3 (tK 30) (iK 1) 3 3,oA 12 31 3]))
def A5q:SC:= .loop sM
def k24:SC:= .seq (.ops [oX 4 (.box 34 (tK 0)) 0,oX 5 (.box 38 (tK 1)) 0,oX 8 Gv 26,oX 9 Ba 4]) (.seq (.seq (.ops [oL 13 34 4 34,oL 14 38 5 38,oC 15 45 [(tK 13),(tK 14)] [34,38] 4,oX 16 (.unOp .not 4 (tK 15)) 4,oM 17 16 4,⟨some 18,.load 38 (tK 5),38,(some (some 17,false))⟩,⟨some 19,.move (tK 2),3,(some (some 17,false))⟩,⟨some 20,.move (tK 3),3,(some (some 17,false))⟩,⟨some 21,.call ⟨(.value (.func 49)), #[(tK 18),(tK 19),(tK 20)], #[38,3,3]⟩,4,(some (some 17,false))⟩,⟨some 22,.unOp .not 4 (tK 21),4,(some (some 17,false))⟩,oX 23 (.pick (tK 17) Cy (tK 22)) 4]) (.cond (tK 23) (.seq (.ops [oX 8 Gv 26,oX 9 Ba 4]) .ret) .skip)) (.seq (.ops [oX 10 Gv 26]) (.seq (.ops [oL 24 38 5 38,oC 25 50 [(tK 24)] [38] 22,oA 11 25 22]) (.seq (.seq (.ops [oX 12 (.assign (iK 0)) 3]) (.block 0 A5q)) (.seq (.ops [oM 50 10 26,oA 8 50 26,oX 9 (.assign Cy) 4]) .ret)))))
theorem AFK:Tryz.f24.body.map (BP lends)=some k24:=by kernel_rfl
theorem ATc:BR Tryz.f24 4=true:=by kernel_rfl
theorem xB{a l:List D}{r:D×List D}(h:BS Y.env k24 (fin Aj l.length [bt 8,bt 9] r) (entry a l))(ha:a.length=4):Y.call 24 a l=some r:=
 AY (Y:=Y) rfl Tryz.func24 (ha▸ATc) AFK h
def Ef(pL pD:Int)(pN pE:AX)(A8:Ad)(AR A9:AO)(v_ i:Int)(out:AO)(l:AX)(a:Int)(s:St):Prop:=s.v 2=bc .i64 v_∧s.v 3=bc .i64 i∧s.v 4=b7 [bc .i64 pL,bc .i64 pD,bk 26 (AQ BX pN),bk 26 (AQ BX pE)]∧s.v 5=b7 [bk 79 (AQ (fun x=>bk 87 (Ak .i64 .i64 x)) A8),bk 3 (AQ (bc .i64) AR),bk 3 (AQ (bc .i64) A9)]∧s.v 10=br 3 (AQ (bc .i64) out)∧s.v 11=br 26 (AQ Jp l)∧s.v 12=bc .i64 a
def Lx(pL pD:Int)(pN pE:AX)(A8:Ad)(AR A9:AO)(v_ i:Int)(r:AO)(ex:Ex)(s:St):Prop:=ex= .exit 0∧s.v 10=br 3 (AQ (bc .i64) r)
theorem Yj(pL pD:Int)(pN pE:AX)(A8:Ad)(AR A9:AO)(v_ i:Int){v:AO×AX×Int}{s:St}{r:AO}(h:Nk pL pD pN pE A8 AR A9 v_ i v=some r)(hM:Ef pL pD pN pE A8 AR A9 v_ i v.1 v.2.1 v.2.2 s):BS Y.env A5q (Lx pL pD pN pE A8 AR A9 v_ i r) s:=by
 unfold Nk at h;refine Aw (c:=sM) (fun v=>Ee pL pD pN pE A8 AR A9 v_ i v.1 v.2.1 v.2.2) (fun v s=>Ef pL pD pN pE A8 AR A9 v_ i v.1 v.2.1 v.2.2 s) (Lx pL pD pN pE A8 AR A9 v_ i) ?_ h hM;clear h hM s v r;intro v s o hM h;obtain⟨out,l,a⟩:=v;dsimp only at h hM;unfold Ee at h;unfold Ef at hM;obtain⟨m0,m1,m2,m3,m4,m5,m6⟩:=hM;unfold sM;rcases iS h with⟨e6,h⟩|⟨e6,h⟩
 ·obtain⟨e7,e8,h⟩:=Dr h;obtain⟨AFI,hl9,h⟩:=Ag h;have c9:=kX pL pD pN pE (l.set v_.toNat ((l.getD v_.toNat be).set i.toNat a)) hl9;obtain⟨AMR,hl10,h⟩:=Ag h;have Uq:=iV pL pD pN pE A8 AR A9 AFI hl10;rcases iS h with⟨e11,h⟩|⟨e11,h⟩
  ·obtain⟨e12,h⟩:=Cu h;cases h;simp (maxDischargeDepth:=9) only [↓AJ,AL,↓reduceIte,bj,bh,b5,m0,m1,m2,m3,m4,m5,m6,e6,e7.1,e7.2,e8.1,e8.2,c9,Uq,e11,e12,Ef,Cx]
  ·cases h;simp (maxDischargeDepth:=9) only [↓AJ,AL,↓reduceIte,bj,bh,m0,m1,m2,m3,m4,m5,m6,e6,e7.1,e7.2,e8.1,e8.2,c9,Uq,e11,Ef,Cx]
 ·cases h;simp (maxDischargeDepth:=9) only [↓AJ,AL,↓reduceIte,bj,bh,m2,m4,m6,e6,Ef,Lx,Gf]
theorem aX(pL pD:Int)(pN pE:AX)(A8:Ad)(AR A9:AO)(v_ i:Int){r:AO×Bool}(h:Q8 pL pD pN pE A8 AR A9 v_ i=some r):Y.call 24 [bw [bc .i64 pL,bc .i64 pD,bk 26 (AQ BX pN),bk 26 (AQ BX pE)],bw [bk 79 (AQ (fun x=>bk 87 (Ak .i64 .i64 x)) A8),bk 3 (AQ (bc .i64) AR),bk 3 (AQ (bc .i64) A9)],bc .i64 v_,bc .i64 i] []=some (D.tup [br 3 (AQ (bc .i64) r.1),bp r.2],[]):=by
 refine xB ?_ rfl;unfold k24;unfold Q8 at h;obtain⟨zT,hl1,h⟩:=Ag h;have c1:=aP pL pD pN pE A8 AR A9 hl1;rcases iS h with⟨e2,h⟩|⟨e2,h⟩
 ·obtain⟨AFJ,hl3,h⟩:=Ag h;have c3:=lF A8 AR A9 v_ i hl3;rcases iS h with⟨e4,h⟩|⟨e4,h⟩
  ·obtain⟨kM,hl5,h⟩:=Ag h;have c5:=iM A8 AR A9 hl5;obtain⟨AU,hl7,h⟩:=Ag h;try dsimp only at h
   simp only [↓AJ,AL,↓reduceIte,bj,bh,c1,e2,c3,e4,c5];refine Al (Yj pL pD pN pE A8 AR A9 v_ i hl7 ?_) ?_
   ·simp only [BK,Cg,↓reduceIte,bj,bh,Ef]<;>(repeat' apply A7)<;>first|rfl|exact⟨_,rfl⟩|exact⟨_,_,rfl⟩|simp [AQ,Ay]
   ·intro ex7 s7 hX7;unfold Lx at hX7;obtain⟨rfl,n7_0⟩:=hX7;cases h;simp only [↓AJ,AL,↓reduceIte,bj,bh,n7_0]
  ·have e4f:AFJ=false:=G8.mpr e4;cases h;simp only [↓AJ,AL,↓reduceIte,bj,bh,c1,e2,c3,e4f]<;>(repeat' apply A7)<;>first|rfl|exact⟨_,rfl⟩|exact⟨_,_,rfl⟩|simp [AQ,Ay]
 ·have e2f:zT=false:=G8.mpr e2;cases h;simp only [↓AJ,AL,↓reduceIte,bj,bh,c1,e2f]<;>(repeat' apply A7)<;>first|rfl|exact⟨_,rfl⟩|exact⟨_,_,rfl⟩|simp [AQ,Ay]
def xC(k:Int)(n:Nat):Fg:=(List.range n).map fun(i:Nat)=>(k+2*(i:Int),k+2*(i:Int)+1)
theorem sN(k:Int)(n:Nat):(xC k n).length=n:=by simp [xC]
theorem A5r(k:Int)(n:Nat):xC k (n+1)=xC k n++[(k+2*(n:Int),k+2*(n:Int)+1)]:=by simp [xC,VT]
theorem AFL{α:Type}(A xs:List α)(i:Nat)(v:α)(hA:A.length=i)(h:i<xs.length):(A++xs.drop i).set i v=(A++[v])++xs.drop (i+1):=by
 rw [nJ _ _ (by omega),hA,WE,ZY h,uK,M4];rfl
theorem A5s(t:Fg)(i:Nat)(p:Int×Int)(h:i<t.length):BJ (t.set i p) i=p.1:=by
 unfold BJ;simp [LQ,h]
def G6(k k1 i:Int)(BL:Fg):Option ((Int×Int×Fg)⊕(Int×Fg)):= if i<(BL.length:Int)then ck (0≤i∧i.toNat<BL.length)<| ck (0≤i∧i.toNat<(BL.set i.toNat (k1,(Bu BL i.toNat))).length)<| some (bo (bm.wrap ((bm.wrap (k1+1))+1),bm.wrap (i+1),((BL.set i.toNat (k1,(Bu BL i.toNat))).set i.toNat ((BJ (BL.set i.toNat (k1,(Bu BL i.toNat))) i.toNat),bm.wrap (k1+1))))) else some (bl (k1,BL))
def Nl(k:Int)(v:Int×Int×Fg):Option (Int×Fg):=Dq (fun v=>G6 k v.1 v.2.1 v.2.2) v
def Sy(a:Fg)(k:Int):Option (Int×Fg):= (Nl k (k,0,a)).bind fun AU=> some (AU.1,AU.2)
def sO:SC:= .seq (.seq (.ops [oM 6 5 3,oM 7 0 79,oN 8 7 79,oB 9 .lss 3 (tK 6) (tK 8) 3 4]) (.cond (tK 9) .skip (.exit 0))) (.seq (.block 1 (.seq (.ops [oM 12 0 79,oM 13 5 3,oM 14 1 3,oI 15 79 12 13,oF 16 87 15 0,oS 3 16 14]) (.seq (.ops [oM 17 1 3,oB 18 .add 3 (tK 17) (iK 1) 3 3,oA 1 18 3]) (.seq (.ops [oM 19 0 79,oM 20 5 3,oM 21 1 3,oI 22 79 19 20,oF 23 87 22 1,oS 3 23 21]) (.ops [oM 24 1 3,oB 25 .add 3 (tK 24) (iK 1) 3 3,oA 1 25 3]))))) (.ops [oM 10 5 3,oB 11 .add 3 (tK 10) (iK 1) 3 3,oA 5 11 3]))
def A5t:SC:= .loop sO
def k76:SC:= .seq (.ops [oX 4 (.assign (iK 0)) 3]) (.seq (.seq (.ops [oX 5 (.assign (iK 0)) 3]) (.block 0 A5t)) (.seq (.ops [oM 26 1 3,oA 4 26 3]) .ret))
theorem AFM:Tryz.f76.body.map (BP lends)=some k76:=by kernel_rfl
theorem ATe:BR Tryz.f76 2=true:=by kernel_rfl
theorem c76{a l:List D}{r:D×List D}(h:BS Y.env k76 (fin Aj l.length [bt 4] r) (entry a l))(ha:a.length=2):Y.call 76 a l=some r:=
 AY (Y:=Y) rfl Tryz.func76 (ha▸ATe) AFM h
def G7(k k1 i:Int)(BL:Fg)(s:St):Prop:=(∃w_,s.v 0=D.vw [100000] (s.k 100000) w_)∧s.v 1=bc .i64 k1∧s.v 5=bc .i64 i∧s.v 100000=br 87 (Ak .i64 .i64 BL)
def M3(k:Int)(r:Int×Fg)(ex:Ex)(s:St):Prop:=ex= .exit 0∧s.v 1=bc .i64 r.1∧s.v 100000=br 87 (Ak .i64 .i64 r.2)
theorem Yk(k:Int){v:Int×Int×Fg}{s:St}{r:Int×Fg}(h:Nl k v=some r)(hM:G7 k v.1 v.2.1 v.2.2 s):BS Y.env A5t (M3 k r) s:=by
 unfold Nl at h;refine Aw (c:=sO) (fun v=>G6 k v.1 v.2.1 v.2.2) (fun v s=>G7 k v.1 v.2.1 v.2.2 s) (M3 k) ?_ h hM;clear h hM s v r;intro v s o hM h;obtain⟨k1,i,BL⟩:=v;dsimp only at h hM;unfold G6 at h;unfold G7 at hM;obtain⟨⟨w0_,m0⟩,m1,m2,m3⟩:=hM;unfold sO;rcases iS h with⟨e1,h⟩|⟨e1,h⟩
 ·obtain⟨e2,e3,h⟩:=Dr h;cases h;simp only [↓AJ,AL,↓reduceIte,bj,bh,m0,m1,m2,m3,e1,e2.1,e2.2,G7,Cx]<;>(repeat' apply A7)<;>first|rfl|exact⟨_,rfl⟩|exact⟨_,_,rfl⟩|simp [AQ,Ay]
 ·cases h;simp only [↓AJ,AL,↓reduceIte,bj,bh,m0,m1,m2,m3,e1,G7,M3,Gf]
theorem aY(a:Fg)(k:Int){r:Int×Fg}(h:Sy a k=some r):Y.call 76 [D.vw [100000] 0 0,bc .i64 k] [br 87 (Ak .i64 .i64 a)]=some (bc .i64 r.1,[br 87 (Ak .i64 .i64 r.2)]):=by
 refine c76 ?_ rfl;unfold k76;unfold Sy at h;obtain⟨AU,hl2,h⟩:=Ag h;try dsimp only at h
 simp only [↓AJ,AL,↓reduceIte,bj,bh,bx];refine Al (Yk k hl2 ?_) ?_
 ·simp only [BK,Cg,↓reduceIte,bj,bh,Nat.reduceSub,G7]<;>(repeat' apply A7)<;>first|rfl|exact⟨_,rfl⟩|exact⟨_,_,rfl⟩|simp [AQ,Ay]
 ·intro ex2 s2 hX2;unfold M3 at hX2;obtain⟨rfl,n2_0,n2_1⟩:=hX2;cases h;simp only [↓AJ,AL,↓reduceIte,bj,bh,n2_0,n2_1]
theorem lG(a:Fg)(k:Int)(ha:a.length<549755813888)(hk:0≤k∧k+2*(a.length:Int)<1099511627776):Sy a k=some (k+2*(a.length:Int),xC k a.length):=by
 have key:=Bn (fun v=>G6 k v.1 v.2.1 v.2.2) (fun i=>(k+2*(i:Int),(i:Int),xC k i++a.drop i)) a.length (k+2*(a.length:Int),xC k a.length) ?_ ?_
 ·unfold Sy Nl;have e0:xC k 0=[]:=rfl;simp only [EW,Int.mul_zero,Int.add_zero,WC,e0,PO]at key;rw [key];rfl
 ·intro i hi;simp only [G6];have el:(xC k i++a.drop i).length=a.length:=by simp [sN];omega
  rw [el,if_pos (BU hi),BC (DY hi),Cq,BC (by rw [Jy,el];omega),A5s _ _ _ (by rw [el];exact hi),jT,Gc i (by omega),GG (k+2*(i:Int)+1) (by omega),GG (k+2*(i:Int)+1+1) (by omega),AFL _ _ _ _ (sN k i) hi,←A5r]
  rw [show k+2*(i:Int)+1+1=k+2*((i+1:Nat):Int) by omega]
 ·simp only [G6];have el:(xC k a.length++a.drop a.length).length=a.length:=by simp [sN]
  rw [el,if_neg (Am _)];simp
theorem lH(a:Fg)(k:Int)(h0:a.length<549755813888)(h1:0≤k∧k+2*(a.length:Int)<1099511627776):Y.call 76 [D.vw [100000] 0 0,bc .i64 k] [br 87 (Ak .i64 .i64 a)]=some (bc .i64 (k+2*(a.length:Int)),[br 87 (Ak .i64 .i64 (xC k a.length))]):=aY a k (lG a k h0 h1)
def IK(k k1 i:Int)(BL:Ad):Option ((Int×Int×Ad)⊕(Int×Ad)):= if i<(BL.length:Int)then ck (0≤i∧i.toNat<BL.length)<| ck ((BL.getD i.toNat be).length<549755813888)<| ck (0≤k1∧k1+2*((BL.getD i.toNat be).length:Int)<1099511627776)<| some (bo ((k1+2*((BL.getD i.toNat be).length:Int)),bm.wrap (i+1),(BL.set i.toNat (xC k1 (BL.getD i.toNat be).length)))) else some (bl (k1,BL))
def IL(k:Int)(v:Int×Int×Ad):Option (Int×Ad):=Dq (fun v=>IK k v.1 v.2.1 v.2.2) v
def Qk(a:Ad)(k:Int):Option (Int×Ad):= (IL k (k,0,a)).bind fun AU=> some (AU.1,AU.2)
def sP:SC:= .seq (.seq (.ops [oM 6 5 3,oM 7 0 36,oN 8 7 36,oB 9 .lss 3 (tK 6) (tK 8) 3 4]) (.cond (tK 9) .skip (.exit 0))) (.seq (.block 1 (.ops [oM 12 0 36,oM 13 5 3,oI 14 36 12 13,oL 15 79 14 79,oM 16 1 3,oC 17 76 [(tK 15),(tK 16)] [79,3] 3,oA 1 17 3])) (.ops [oM 10 5 3,oB 11 .add 3 (tK 10) (iK 1) 3 3,oA 5 11 3]))
def A5u:SC:= .loop sP
def k44:SC:= .seq (.ops [oX 4 (.assign (iK 0)) 3]) (.seq (.seq (.ops [oX 5 (.assign (iK 0)) 3]) (.block 0 A5u)) (.seq (.ops [oM 18 1 3,oA 4 18 3]) .ret))
theorem AFN:Tryz.f44.body.map (BP lends)=some k44:=by kernel_rfl
theorem ATg:BR Tryz.f44 2=true:=by kernel_rfl
theorem c44{a l:List D}{r:D×List D}(h:BS Y.env k44 (fin Aj l.length [bt 4] r) (entry a l))(ha:a.length=2):Y.call 44 a l=some r:=
 AY (Y:=Y) rfl Tryz.func44 (ha▸ATg) AFN h
def FD(k k1 i:Int)(BL:Ad)(s:St):Prop:=(∃w_,s.v 0=D.vw [100000] (s.k 100000) w_)∧s.v 1=bc .i64 k1∧s.v 5=bc .i64 i∧s.v 100000=br 79 (AQ (fun x=>br 87 (Ak .i64 .i64 x)) BL)
def LD(k:Int)(r:Int×Ad)(ex:Ex)(s:St):Prop:=ex= .exit 0∧s.v 1=bc .i64 r.1∧s.v 100000=br 79 (AQ (fun x=>br 87 (Ak .i64 .i64 x)) r.2)
theorem Xe(k:Int){v:Int×Int×Ad}{s:St}{r:Int×Ad}(h:IL k v=some r)(hM:FD k v.1 v.2.1 v.2.2 s):BS Y.env A5u (LD k r) s:=by
 unfold IL at h;refine Aw (c:=sP) (fun v=>IK k v.1 v.2.1 v.2.2) (fun v s=>FD k v.1 v.2.1 v.2.2 s) (LD k) ?_ h hM;clear h hM s v r;intro v s o hM h;obtain⟨k1,i,BL⟩:=v;dsimp only at h hM;unfold IK at h;unfold FD at hM;obtain⟨⟨w0_,m0⟩,m1,m2,m3⟩:=hM;unfold sP;rcases iS h with⟨e1,h⟩|⟨e1,h⟩
 ·obtain⟨e2,e3,e4,h⟩:=NC h;have c5:=lH (BL.getD i.toNat be) k1 e3 e4;cases h;simp only [↓AJ,AL,↓reduceIte,bj,bh,m0,m1,m2,m3,e1,e2.1,e2.2,c5,FD,Cx]<;>(repeat' apply A7)<;>first|rfl|exact⟨_,rfl⟩|exact⟨_,_,rfl⟩|simp [AQ,Ay]
 ·cases h;simp only [↓AJ,AL,↓reduceIte,bj,bh,m0,m1,m2,m3,e1,FD,LD,Gf]
theorem Yl(a:Ad)(k:Int){r:Int×Ad}(h:Qk a k=some r):Y.call 44 [D.vw [100000] 0 0,bc .i64 k] [br 79 (AQ (fun x=>br 87 (Ak .i64 .i64 x)) a)]=some (bc .i64 r.1,[br 79 (AQ (fun x=>br 87 (Ak .i64 .i64 x)) r.2)]):=by
 refine c44 ?_ rfl;unfold k44;unfold Qk at h;obtain⟨AU,hl2,h⟩:=Ag h;try dsimp only at h
 simp only [↓AJ,AL,↓reduceIte,bj,bh,bx];refine Al (Xe k hl2 ?_) ?_
 ·simp only [BK,Cg,↓reduceIte,bj,bh,Nat.reduceSub,FD]<;>(repeat' apply A7)<;>first|rfl|exact⟨_,rfl⟩|exact⟨_,_,rfl⟩|simp [AQ,Ay]
 ·intro ex2 s2 hX2;unfold LD at hX2;obtain⟨rfl,n2_0,n2_1⟩:=hX2;cases h;simp only [↓AJ,AL,↓reduceIte,bj,bh,n2_0,n2_1]
def UY:Int→Ad→Ad
 |_,[]=>[]
 |k,x::l=>xC k x.length::UY (k+2*(x.length:Int)) l
theorem A15(x:Fg)(l:Ad):CL (fE (x::l))=x.length+CL (fE l):=by
 rw [show fE (x::l)=x.map Prod.fst::fE l from rfl,Pf,QD]
theorem Xf(kk:Int): ∀(b a:Ad) (k:Int),Cf b→a.length+b.length<1099511627776→0≤k→k+2*CL (fE b)<1099511627776→
  IL kk (k,(a.length:Int),a++b)=some (k+2*CL (fE b),a++UY k b):=by
 intro b
 induction b with
 |nil=>
  intro a k hb hab hk hkt;unfold IL;rw [E8 (r:=(k,a++[]))]
  ·rw [show CL (fE [])=0 from rfl,Int.mul_zero,Int.add_zero];rfl
  ·simp only [IK];rw [if_neg (Ww _)]
 |cons x b ih=>
  intro a k hb hab hk hkt;rw [A15]at hkt;simp only [Jw]at hab;have hx:x.length<549755813888:=hb.2 x (Gu ..);have ht:=Cb (fE b);have:=ih (a++[xC k x.length]) (k+2*(x.length:Int)) ⟨by omega,fun y hy=>hb.2 y (PL _ hy)⟩ (by simp;omega) (by omega) (by omega)
  unfold IL at this ⊢;have eg:(a++x::b).getD (a.length:Int).toNat be=x:=by rw [Cq];exact FK a (x::b) a.length rfl (by simp)
  rw [Lh (s':=(k+2*(x.length:Int),((a++[xC k x.length]).length:Int),(a++[xC k x.length])++b)),this]
  ·rw [A15,show k+2*(x.length:Int)+2*CL (fE b)=k+2*(x.length+CL (fE b)) by omega]
   simp [UY]
  ·simp only [IK];rw [if_pos (Ve ..),BC (Vf ..),BC (by rw [eg];exact hx),BC (by rw [eg];omega),eg,Gc _ (by omega),Cq,nJ _ _ (Cc _),WE,uK]
   simp
theorem iW(a:Ad)(k:Int)(ha:Cf a)(hk:0≤k∧k+2*CL (fE a)<1099511627776):Qk a k=some (k+2*CL (fE a),UY k a):=by
 unfold Qk;have:=Xf k a [] k ha (by have:=ha.1;simp;omega) hk.1 hk.2
 simp only [Qu,PO,EW]at this;rw [this];rfl
theorem iX(a:Ad)(k:Int)(h0:Cf a)(h1:0≤k∧k+2*CL (fE a)<1099511627776):Y.call 44 [D.vw [100000] 0 0,bc .i64 k] [br 79 (AQ (fun x=>br 87 (Ak .i64 .i64 x)) a)]=some (bc .i64 (k+2*CL (fE a)),[br 79 (AQ (fun x=>br 87 (Ak .i64 .i64 x)) (UY k a))]):=Yl a k (iW a k h0 h1)
def Nn(BA:Ad)(Bo BB:AO)(k:Int):Option (Int×Ad×AO×AO):= ck (Cf BA)<| ck (0≤k∧k+2*CL (fE BA)<1099511627776)<| ck (Bo.length<1099511627776)<| ck (0≤(k+2*CL (fE BA))∧(k+2*CL (fE BA))<1099511627776)<| ck (BB.length<1099511627776)<| ck (0≤((k+2*CL (fE BA))+Bo.length)∧((k+2*CL (fE BA))+Bo.length)<1099511627776)<| some ((((k+2*CL (fE BA))+Bo.length)+BB.length),(UY k BA),(upto (k+2*CL (fE BA)) Bo.length),(upto ((k+2*CL (fE BA))+Bo.length) BB.length))
def k19:SC:= .seq (.ops [oX 2 (.box 38 (tK 0)) 0,oX 4 (.assign (iK 0)) 3]) (.seq (.ops [oF 5 38 2 0,oL 6 36 5 36,oM 7 1 3,oC 8 44 [(tK 6),(tK 7)] [36,3] 3,oA 1 8 3]) (.seq (.ops [oF 9 38 2 1,oL 10 26 9 26,oM 11 1 3,oC 12 27 [(tK 10),(tK 11)] [26,3] 3,oA 1 12 3]) (.seq (.ops [oF 13 38 2 2,oL 14 26 13 26,oM 15 1 3,oC 16 27 [(tK 14),(tK 15)] [26,3] 3,oA 1 16 3]) (.seq (.ops [oM 17 1 3,oA 4 17 3]) .ret))))
theorem AFO:Tryz.f19.body.map (BP lends)=some k19:=by kernel_rfl
theorem ATi:BR Tryz.f19 2=true:=by kernel_rfl
theorem rZ{a l:List D}{r:D×List D}(h:BS Y.env k19 (fin Aj l.length [bt 4] r) (entry a l))(ha:a.length=2):Y.call 19 a l=some r:=
 AY (Y:=Y) rfl Tryz.func19 (ha▸ATi) AFO h
theorem Vt(BA:Ad)(Bo BB:AO)(k:Int){r:Int×Ad×AO×AO}(h:Nn BA Bo BB k=some r):Y.call 19 [bw [D.vw [100000] 0 0,D.vw [100001] 0 0,D.vw [100002] 0 0],bc .i64 k] [br 79 (AQ (fun x=>br 87 (Ak .i64 .i64 x)) BA),br 3 (AQ (bc .i64) Bo),br 3 (AQ (bc .i64) BB)]=some (bc .i64 r.1,[br 79 (AQ (fun x=>br 87 (Ak .i64 .i64 x)) r.2.1),br 3 (AQ (bc .i64) r.2.2.1),br 3 (AQ (bc .i64) r.2.2.2)]):=by
 refine rZ ?_ rfl;unfold k19;unfold Nn at h;obtain⟨e1,e2,h⟩:=Dr h;have c3:=iX BA k e1 e2;obtain⟨e4,e5,h⟩:=Dr h;have c6:=LX Bo (k+2*CL (fE BA)) e4 e5;obtain⟨e7,e8,h⟩:=Dr h;have c9:=LX BB ((k+2*CL (fE BA))+Bo.length) e7 e8;cases h;simp only [↓AJ,AL,↓reduceIte,bj,bh,bx,Nat.reduceSub,c3,c6,c9]
theorem Ym(a:Ad)(b c:AO)(k:Int)(ha:Cf a)(hb:b.length<1099511627776)(hc:c.length<1099511627776)(hk:0≤k∧k+2*CL (fE a)+b.length+c.length<1099511627776):
  Nn a b c k=some (k+2*CL (fE a)+b.length+c.length,UY k a,upto (k+2*CL (fE a)) b.length,upto (k+2*CL (fE a)+b.length) c.length):=by
 have ht:=Cb (fE a);unfold Nn;rw [BC ha,BC (by omega),BC hb,BC (by omega),BC hc,BC (by omega)]
theorem Rh(BA:Ad)(Bo BB:AO)(k:Int)(h0:Cf BA)(h1:Bo.length<1099511627776)(h2:BB.length<1099511627776)(h3:0≤k∧k+2*CL (fE BA)+Bo.length+BB.length<1099511627776):Y.call 19 [bw [D.vw [100000] 0 0,D.vw [100001] 0 0,D.vw [100002] 0 0],bc .i64 k] [br 79 (AQ (fun x=>br 87 (Ak .i64 .i64 x)) BA),br 3 (AQ (bc .i64) Bo),br 3 (AQ (bc .i64) BB)]=some (bc .i64 (k+2*CL (fE BA)+Bo.length+BB.length),[br 79 (AQ (fun x=>br 87 (Ak .i64 .i64 x)) (UY k BA)),br 3 (AQ (bc .i64) (upto (k+2*CL (fE BA)) Bo.length)),br 3 (AQ (bc .i64) (upto (k+2*CL (fE BA)+Bo.length) BB.length))]):=Vt BA Bo BB k (Ym BA Bo BB k h0 h1 h2 h3)
def Jt(tL tD:Int)(tN tE:AX)(AV:Ad)(Ab AP:AO)(BO Bc:Int):Option (Bool):= ck (Vg tN)<| ck (Vg tE)<| ck (0≤(1048576:Int)∧(1048576:Int)≤1048576)<| if(szP (1048576:Int) tN tE)<0 then some true else ck (VM AV)<| ck (Ab.length<9223372036854775808)<| ck (AP.length<9223372036854775808)<| ck (0≤(szP (1048576:Int) tN tE)∧(szP (1048576:Int) tN tE)≤1048576)<| if(szW (szP (1048576:Int) tN tE) AV Ab AP)<0 then some true else ck (BQ tN)<| ck (BQ tE)<| ck (Cf AV)<| ck (Ab.length<1099511627776)<| ck (AP.length<1099511627776)<| (Q8 tL tD tN tE AV Ab AP BO Bc).bind fun Sv=> (Q7 tL tD tN tE AV Ab AP BO Bc).bind fun NM=> ck (NM.1.length<1099511627776)<| if(decide (NM.1=Sv.1))=true then if NM.2=true then if Sv.2=true then if(X0 tL tD tN tE tL tD tN tE)=true then if(XA AV Ab AP AV Ab AP)=true then ck (0≤(1:Int)∧(1:Int)+CL tN+CL tE<1099511627776)<| ck (0≤((1:Int)+CL tN+CL tE)∧((1:Int)+CL tN+CL tE)+2*CL (fE AV)+Ab.length+AP.length<1099511627776)<| if(((1:Int)+CL tN+CL tE)+2*CL (fE AV)+Ab.length+AP.length)<0 then some false else ck (0≤(1:Int)∧(1:Int)<1099511627776)<| ck ((upto (1:Int) NM.1.length).length<1099511627776)<| ck (0≤(1:Int)∧(1:Int)+(upto (1:Int) NM.1.length).length<1099511627776)<| if(RA (1:Int) (upto (1:Int) NM.1.length))<0 then
 some false else if(RA (1:Int) (upto (1:Int) NM.1.length))=((1:Int)+NM.1.length)then some true else some false else some false else some false else some false else if Sv.2=true then some false else if(X0 tL tD tN tE tL tD tN tE)=true then if(XA AV Ab AP AV Ab AP)=true then ck (0≤(1:Int)∧(1:Int)+CL tN+CL tE<1099511627776)<| ck (0≤((1:Int)+CL tN+CL tE)∧((1:Int)+CL tN+CL tE)+2*CL (fE AV)+Ab.length+AP.length<1099511627776)<| if(((1:Int)+CL tN+CL tE)+2*CL (fE AV)+Ab.length+AP.length)<0 then some false else ck (0≤(1:Int)∧(1:Int)<1099511627776)<| ck ((upto (1:Int) NM.1.length).length<1099511627776)<| ck (0≤(1:Int)∧(1:Int)+(upto (1:Int) NM.1.length).length<1099511627776)<| if(RA (1:Int) (upto (1:Int) NM.1.length))<0 then some false else if(RA (1:Int) (upto (1:Int) NM.1.length))=((1:Int)+NM.1.length)then some true else some false else some false else some false else some false
abbrev aZ:List Nat:=[32,33,34,35,36,37,38,31,38,39,40,10,39,38,11,40]
abbrev aa:List Nat:=[103,104,105,106,107,108,109,102,109,110,111,19,110,109,20,111]
def k5:SC:= .seq (.ops [oX 4 (.box 24 (tK 0)) 0,oX 5 (.box 28 (tK 1)) 0,oX 8 Ba 4]) (.seq (.ops [oX 9 (.assign (iK 1048576)) 3]) (.seq (.ops [oL 21 24 4 24,oM 22 9 3,oC 23 7 [(tK 21),(tK 22)] [24,3] 3,oA 9 23 3]) (.seq (.seq (.ops [oM 24 9 3,oB 25 .lss 3 (tK 24) (iK 0) 3 4]) (.cond (tK 25) (.seq (.ops [oX 8 (.assign Cy) 4]) .ret) .skip)) (.seq (.ops [oL 26 28 5 28,oM 27 9 3,oC 28 8 [(tK 26),(tK 27)] [28,3] 3,oA 9 28 3]) (.seq (.seq (.ops [oM 29 9 3,oB 30 .lss 3 (tK 29) (iK 0) 3 4]) (.cond (tK 30) (.seq (.ops [oX 8 (.assign Cy) 4]) .ret) .skip)) (.seq (.draws [(⟨[32,4,4],aZ,[32]⟩,oL 32 24 4 24),(⟨[33,32,4],aZ,[33]⟩,oC 33 11 [(tK 32)] [24] 34),(⟨[34,5,5],aZ,[34]⟩,oL 34 28 5 28),(⟨[35,34,5],aZ,[35]⟩,oC 35 12 [(tK 34)] [28] 38),(⟨[36,2,2],aZ,[36]⟩,oM 36 2 3),(⟨[37,3,3],aZ,[37]⟩,oM 37 3 3),(⟨[38,33,35,36,37,33,35,2,3],aZ,[38]⟩,oC 38 24 [(tK 33),(tK 35),(tK 36),(tK 37)] [34,38,3,3] 49),(⟨[31,38,38],aZ,[31,38]⟩,oM 31 38 49),(⟨[39,31],aZ,[39]⟩,oE 39 31 0 26),(⟨[40,31],aZ,[40]⟩,oE 40 31 1 4),(⟨[10,39,38],aZ,[10,39,38]⟩,oA 10 39 26),(⟨[11,40],aZ,[11,40]⟩,oA 11 40 4)]) (.seq (.ops [oL 41 24 4 24,oC 42 11 [(tK 41)] [24] 34,oX 12 (.alloc 34) 0,oS 34 12 42]) (.seq
 (.ops [oL 43 28 5 28,oC 44 12 [(tK 43)] [28] 38,oX 13 (.alloc 38) 0,oS 38 13 44]) (.seq (.ops [oL 46 34 12 34,oL 47 38 13 38,oM 48 2 3,oM 49 3 3,oC 50 25 [(tK 46),(tK 47),(tK 48),(tK 49)] [34,38,3,3] 49,oM 45 50 49,oE 51 45 0 26,oE 52 45 1 4,oA 14 51 26,oA 15 52 4]) (.seq (.seq (.ops [oM 53 14 26,oM 54 10 26,oC 55 26 [(tK 53),(tK 54)] [26,26] 4,oX 56 (.unOp .not 4 (tK 55)) 4,oM 57 56 4,⟨some 58,.move (tK 15),4,(some (some 57,false))⟩,⟨some 59,.move (tK 11),4,(some (some 57,false))⟩,⟨some 60,.binOp .neq 4 (tK 58) (tK 59) 4,4,(some (some 57,false))⟩,oX 61 (.pick (tK 57) Cy (tK 60)) 4]) (.cond (tK 61) (.seq (.ops [oX 8 Ba 4]) .ret) .skip)) (.seq (.seq (.draws [(⟨[62,12,12],[62,63,64,65,66],[62]⟩,oL 62 34 12 34),(⟨[63,4,4],[62,63,64,65,66],[63]⟩,oL 63 24 4 24),(⟨[64,63,4],[62,63,64,65,66],[64]⟩,oC 64 11 [(tK 63)] [24] 34),(⟨[65,62,64,12,64],[62,63,64,65,66],[65]⟩,oC 65 16 [(tK 62),(tK 64)] [34,34] 4),(⟨[66,65,65],[62,63,64,65,66],[66]⟩,oX 66 (.unOp .not 4 (tK 65)) 4)]) (.cond (tK 66) (.seq (.ops [oX 8 Ba 4]) .ret) .skip)) (.seq (.seq (.draws [(⟨[67,13,13],[67,68,69,70,71],[67]⟩,oL 67 38 13 38),(⟨[68,5,5],[67,68,69,70,71],[68]⟩,oL 68 28 5 28),(⟨[69,68,5],[67,68,69,70,71],[69]⟩,oC 69 12 [(tK 68)] [28] 38),
 (⟨[70,67,69,13,69],[67,68,69,70,71],[70]⟩,oC 70 17 [(tK 67),(tK 69)] [38,38] 4),(⟨[71,70,70],[67,68,69,70,71],[71]⟩,oX 71 (.unOp .not 4 (tK 70)) 4)]) (.cond (tK 71) (.seq (.ops [oX 8 Ba 4]) .ret) .skip)) (.seq (.ops [oX 16 (.assign (iK 1)) 3]) (.seq (.ops [oL 72 34 12 34,oM 73 16 3,oC 74 18 [(tK 72),(tK 73)] [34,3] 3,oA 16 74 3]) (.seq (.ops [oL 75 38 13 38,oM 76 16 3,oC 77 19 [(tK 75),(tK 76)] [38,3] 3,oA 16 77 3]) (.seq (.seq (.ops [oM 78 16 3,oB 79 .lss 3 (tK 78) (iK 0) 3 4,oM 80 79 4,⟨some 81,.move (tK 14),26,(some (some 80,false))⟩,⟨some 82,.move (tK 10),26,(some (some 80,false))⟩,⟨some 83,.call ⟨(.value (.func 26)), #[(tK 81),(tK 82)], #[26,26]⟩,4,(some (some 80,false))⟩,⟨some 84,.unOp .not 4 (tK 83),4,(some (some 80,false))⟩,oX 85 (.pick (tK 80) Cy (tK 84)) 4,oM 86 85 4,⟨some 87,.move (tK 15),4,(some (some 86,false))⟩,⟨some 88,.move (tK 11),4,(some (some 86,false))⟩,⟨some 89,.binOp .neq 4 (tK 87) (tK 88) 4,4,(some (some 86,false))⟩,oX 90 (.pick (tK 86) Cy (tK 89)) 4]) (.cond (tK 90) (.seq (.ops [oX 8 Ba 4]) .ret) .skip)) (.seq (.ops [oX 17 (.assign (iK 1)) 3]) (.seq (.ops [oM 91 14 26,oM 92 17 3,oC 93 27 [(tK 91),(tK 92)] [26,3] 3,oA 17 93 3])
 (.seq (.ops [oX 18 (.assign (iK 1)) 3]) (.seq (.ops [oM 94 14 26,oM 95 18 3,oC 96 28 [(tK 94),(tK 95)] [26,3] 3,oA 18 96 3]) (.seq (.seq (.ops [oM 97 18 3,oB 98 .lss 3 (tK 97) (iK 0) 3 4]) (.cond (tK 98) (.seq (.ops [oX 8 Ba 4]) .ret) .skip)) (.seq (.seq (.ops [oM 99 18 3,oM 100 17 3,oB 101 .neq 3 (tK 99) (tK 100) 3 4]) (.cond (tK 101) (.seq (.ops [oX 8 Ba 4]) .ret) .skip)) (.seq (.draws [(⟨[103,4,4],aa,[103]⟩,oL 103 24 4 24),(⟨[104,103,4],aa,[104]⟩,oC 104 11 [(tK 103)] [24] 34),(⟨[105,5,5],aa,[105]⟩,oL 105 28 5 28),(⟨[106,105,5],aa,[106]⟩,oC 106 12 [(tK 105)] [28] 38),(⟨[107,2,2],aa,[107]⟩,oM 107 2 3),(⟨[108,3,3],aa,[108]⟩,oM 108 3 3),(⟨[109,104,106,107,108,104,106,2,3],aa,[109]⟩,oC 109 25 [(tK 104),(tK 106),(tK 107),(tK 108)] [34,38,3,3] 49),(⟨[102,109,109],aa,[102,109]⟩,oM 102 109 49),(⟨[110,102],aa,[110]⟩,oE 110 102 0 26),(⟨[111,102],aa,[111]⟩,oE 111 102 1 4),(⟨[19,110,109],aa,[19,110,109]⟩,oA 19 110 26),(⟨[20,111],aa,[20,111]⟩,oA 20 111 4)]) (.seq (.seq (.ops [oM 112 19 26,oM 113 10 26,oC 114 26 [(tK 112),(tK 113)] [26,26] 4,oX 115 (.unOp .not 4 (tK 114)) 4,oM 116 115 4,⟨some 117,.move (tK 20),4,(some (some 116,false))⟩,⟨some 118,.move (tK 11),4,(some (some 116,false))⟩,
 ⟨some 119,.binOp .neq 4 (tK 117) (tK 118) 4,4,(some (some 116,false))⟩,oX 120 (.pick (tK 116) Cy (tK 119)) 4]) (.cond (tK 120) (.seq (.ops [oX 8 Ba 4]) .ret) .skip)) (.seq (.ops [oX 18 (.assign (iK 1)) 3]) (.seq (.ops [oM 121 14 26,oM 122 18 3,oC 123 28 [(tK 121),(tK 122)] [26,3] 3,oA 18 123 3]) (.seq (.seq (.ops [oM 124 18 3,oB 125 .lss 3 (tK 124) (iK 0) 3 4]) (.cond (tK 125) (.seq (.ops [oX 8 Ba 4]) .ret) .skip)) (.seq (.seq (.ops [oM 126 18 3,oM 127 17 3,oB 128 .neq 3 (tK 126) (tK 127) 3 4]) (.cond (tK 128) (.seq (.ops [oX 8 Ba 4]) .ret) .skip)) (.seq (.ops [oX 8 (.assign Cy) 4]) .ret)))))))))))))))))))))))))))))
theorem AMS:Tryz.f5.body.map (BP lends)=some k5:=by kernel_rfl
theorem ok5:BR Tryz.f5 4=true:=by kernel_rfl
theorem c5{a l:List D}{r:D×List D}(h:BS Y.env k5 (fin Aj l.length [bt 8] r) (entry a l))(ha:a.length=4):Y.call 5 a l=some r:=
 AY (Y:=Y) rfl Tryz.func5 (ha▸ok5) AMS h
theorem Sz(tL tD:Int)(tN tE:AX)(AV:Ad)(Ab AP:AO)(BO Bc:Int){r:Bool}(h:Jt tL tD tN tE AV Ab AP BO Bc=some r):Y.call 5 [bw [bc .i64 tL,bc .i64 tD,bk 26 (AQ BX tN),bk 26 (AQ BX tE)],bw [bk 78 (AQ (fun x=>bk 111 (Ak .i64 .i64 x)) AV),bk 3 (AQ (bc .i64) Ab),bk 3 (AQ (bc .i64) AP)],bc .i64 BO,bc .i64 Bc] []=some (bp r,[]):=by
 refine c5 ?_ rfl;unfold k5;unfold Jt at h;obtain⟨e1,e2,e3,h⟩:=NC h;have c4:=eT tL tD tN tE (1048576:Int) e1 e2 e3;rcases iS h with⟨e5,h⟩|⟨e5,h⟩
 ·cases h;simp only [↓AJ,AL,↓reduceIte,bj,bh,bx,c4,e5]
 ·obtain⟨e6,e7,e8,e9,h⟩:=A26 h;have Uq:=fZ AV Ab AP (szP (1048576:Int) tN tE) e6 e7 e8 e9;rcases iS h with⟨e11,h⟩|⟨e11,h⟩
  ·cases h;simp only [↓AJ,AL,↓reduceIte,bj,bh,bx,c4,e5,Uq,e11]
  ·obtain⟨e12,e13,h⟩:=Dr h;have kV:=Hf tL tD tN tE e12 e13;obtain⟨e15,e16,e17,h⟩:=NC h;have Zu:=Hr AV Ab AP e15 e16 e17;obtain⟨Sv,hl19,h⟩:=Ag h;have rZ:=aX tL tD tN tE AV Ab AP BO Bc hl19;have c20:=Hf tL tD tN tE e12 e13;have c21:=Hr AV Ab AP e15 e16 e17;obtain⟨NM,hl22,h⟩:=Ag h;have c22:=aW tL tD tN tE AV Ab AP BO Bc hl22;obtain⟨e23,h⟩:=Cu h;have xB:=IU NM.1 Sv.1 e23;rcases iS h with⟨e25,h⟩|⟨e25,h⟩
   ·rcases iS h with⟨e26,h⟩|⟨e26,h⟩
    ·rcases iS h with⟨e27,h⟩|⟨e27,h⟩
     ·have c28:=Hf tL tD tN tE e12 e13;have c29:=UB tL tD tN tE tL tD tN tE e12 e13;rcases iS h with⟨e30,h⟩|⟨e30,h⟩
      ·have c31:=Hr AV Ab AP e15 e16 e17;have c32:=UI AV Ab AP AV Ab AP e15 e16 e17;rcases iS h with⟨e33,h⟩|⟨e33,h⟩
       ·obtain⟨e34,h⟩:=Cu h;have c35:=RJ tL tD tN tE (1:Int) e12 e13 e34;obtain⟨e36,h⟩:=Cu h;have c37:=Rh AV Ab AP ((1:Int)+CL tN+CL tE) e15 e16 e17 e36;rcases iS h with⟨e38,h⟩|⟨e38,h⟩
        ·cases h;simp only [↓AJ,AL,↓reduceIte,bj,bh,bx,b9,c4,e5,Uq,e11,kV,Zu,rZ,c22,xB,e25,e26,e27,c29,e30,c32,e33,c35,c37,e38]
        ·have c39:=IU NM.1 Sv.1 e23;obtain⟨e40,h⟩:=Cu h;have c41:=LX NM.1 (1:Int) e23 e40;obtain⟨e42,e43,h⟩:=Dr h;have c44:=NT (upto (1:Int) NM.1.length) (1:Int) e42 e43;rcases iS h with⟨e45,h⟩|⟨e45,h⟩
         ·cases h;simp only [↓AJ,AL,↓reduceIte,bj,bh,bx,b9,c4,e5,Uq,e11,kV,Zu,rZ,c22,xB,e25,e26,e27,c29,e30,c32,e33,c35,c37,e38,c41,c44,e45]
         ·rcases iS h with⟨e46,h⟩|⟨e46,h⟩
          ·have c47:=Hf tL tD tN tE e12 e13;have c48:=Hr AV Ab AP e15 e16 e17;have c49:=IU NM.1 Sv.1 e23;have c50:=NT (upto (1:Int) NM.1.length) (1:Int) e42 e43;cases h;simp only [↓AJ,AL,↓reduceIte,bj,bh,bx,b9,c4,e5,Uq,e11,kV,Zu,rZ,c22,xB,e25,e26,e27,c29,e30,c32,e33,c35,c37,e38,c41,c44,e45,decide_eq_true e46]
          ·cases h;simp only [↓AJ,AL,↓reduceIte,bj,bh,bx,b9,c4,e5,Uq,e11,kV,Zu,rZ,c22,xB,e25,e26,e27,c29,e30,c32,e33,c35,c37,e38,c41,c44,e45,e46]
       ·have e33f:(XA AV Ab AP AV Ab AP)=false:=G8.mpr e33;cases h;simp only [↓AJ,AL,↓reduceIte,bj,bh,bx,b9,c4,e5,Uq,e11,kV,Zu,rZ,c22,xB,e25,e26,e27,c29,e30,c32,e33f]
      ·have e30f:(X0 tL tD tN tE tL tD tN tE)=false:=G8.mpr e30;cases h;simp only [↓AJ,AL,↓reduceIte,bj,bh,bx,b9,c4,e5,Uq,e11,kV,Zu,rZ,c22,xB,e25,e26,e27,c29,e30f]
     ·have e27f:Sv.2=false:=G8.mpr e27;cases h;simp only [↓AJ,AL,↓reduceIte,bj,bh,bx,b9,c4,e5,Uq,e11,kV,Zu,rZ,c22,xB,e25,e26,e27f]
    ·have e26f:NM.2=false:=G8.mpr e26;rcases iS h with⟨e27,h⟩|⟨e27,h⟩
     ·cases h;simp only [↓AJ,AL,↓reduceIte,bj,bh,bx,b9,c4,e5,Uq,e11,kV,Zu,rZ,c22,xB,e25,e26f,e27]
     ·have e27f:Sv.2=false:=G8.mpr e27;have c28:=Hf tL tD tN tE e12 e13;have c29:=UB tL tD tN tE tL tD tN tE e12 e13;rcases iS h with⟨e30,h⟩|⟨e30,h⟩
      ·have c31:=Hr AV Ab AP e15 e16 e17;have c32:=UI AV Ab AP AV Ab AP e15 e16 e17;rcases iS h with⟨e33,h⟩|⟨e33,h⟩
       ·obtain⟨e34,h⟩:=Cu h;have c35:=RJ tL tD tN tE (1:Int) e12 e13 e34;obtain⟨e36,h⟩:=Cu h;have c37:=Rh AV Ab AP ((1:Int)+CL tN+CL tE) e15 e16 e17 e36;rcases iS h with⟨e38,h⟩|⟨e38,h⟩
        ·cases h;simp only [↓AJ,AL,↓reduceIte,bj,bh,bx,b9,c4,e5,Uq,e11,kV,Zu,rZ,c22,xB,e25,e26f,e27f,c29,e30,c32,e33,c35,c37,e38]
        ·have c39:=IU NM.1 Sv.1 e23;obtain⟨e40,h⟩:=Cu h;have c41:=LX NM.1 (1:Int) e23 e40;obtain⟨e42,e43,h⟩:=Dr h;have c44:=NT (upto (1:Int) NM.1.length) (1:Int) e42 e43;rcases iS h with⟨e45,h⟩|⟨e45,h⟩
         ·cases h;simp only [↓AJ,AL,↓reduceIte,bj,bh,bx,b9,c4,e5,Uq,e11,kV,Zu,rZ,c22,xB,e25,e26f,e27f,c29,e30,c32,e33,c35,c37,e38,c41,c44,e45]
         ·rcases iS h with⟨e46,h⟩|⟨e46,h⟩
          ·have c47:=Hf tL tD tN tE e12 e13;have c48:=Hr AV Ab AP e15 e16 e17;have c49:=IU NM.1 Sv.1 e23;have c50:=NT (upto (1:Int) NM.1.length) (1:Int) e42 e43;cases h;simp only [↓AJ,AL,↓reduceIte,bj,bh,bx,b9,c4,e5,Uq,e11,kV,Zu,rZ,c22,xB,e25,e26f,e27f,c29,e30,c32,e33,c35,c37,e38,c41,c44,e45,decide_eq_true e46]
          ·cases h;simp only [↓AJ,AL,↓reduceIte,bj,bh,bx,b9,c4,e5,Uq,e11,kV,Zu,rZ,c22,xB,e25,e26f,e27f,c29,e30,c32,e33,c35,c37,e38,c41,c44,e45,e46]
       ·have e33f:(XA AV Ab AP AV Ab AP)=false:=G8.mpr e33;cases h;simp only [↓AJ,AL,↓reduceIte,bj,bh,bx,b9,c4,e5,Uq,e11,kV,Zu,rZ,c22,xB,e25,e26f,e27f,c29,e30,c32,e33f]
      ·have e30f:(X0 tL tD tN tE tL tD tN tE)=false:=G8.mpr e30;cases h;simp only [↓AJ,AL,↓reduceIte,bj,bh,bx,b9,c4,e5,Uq,e11,kV,Zu,rZ,c22,xB,e25,e26f,e27f,c29,e30f]
   ·have e25f:(decide (NM.1=Sv.1))=false:=G8.mpr e25;cases h;simp only [↓AJ,AL,↓reduceIte,bj,bh,bx,b9,c4,e5,Uq,e11,kV,Zu,rZ,c22,xB,e25f]
def chc(good:AO→Bool):AX→AO→Bool
 | [],c=>good c
 |L::Ls,c=>L.any fun a=>chc good Ls (c++[a])
def ZR:AO→AX→Prop
 | [],[]=>True
 |a::c,L::Ls=>a∈L∧ZR c Ls
 |_,_=>False
theorem bD(good:AO→Bool): ∀(Ls:AX) (c:AO),chc good Ls c=true↔ ∃d,ZR d Ls∧good (c++d)=true
 | [],c=>by
  unfold chc
  constructor
  ·intro h;exact⟨[],trivial,by rwa [TI]⟩
  ·rintro⟨d,h1,h2⟩
   cases d with
   |nil=>rwa [TI]at h2
   |cons a d=>exact h1.elim
 |L::Ls,c=>by
  unfold chc;rw [Zb]
  constructor
  ·rintro⟨a,ha,h⟩
   obtain⟨d,h1,h2⟩:=(bD good Ls (c++[a])).1 h
   exact⟨a::d,⟨ha,h1⟩,by rwa [M4]at h2⟩
  ·rintro⟨d,h1,h2⟩
   cases d with
   |nil=>exact h1.elim
   |cons a d=>exact⟨a,h1.1,(bD good Ls (c++[a])).2 ⟨d,h1.2,by rwa [M4]⟩⟩
theorem Vu(x:AO)(j:Nat)(hj:j<x.length):(x[j]::x.eraseIdx j).Perm x:=by
 rw [List.eraseIdx_eq_take_drop_succ];have h:x=x.take j++x[j]::x.drop (j+1):=by rw [←ZY hj,List.take_append_drop]
 have:=(List.perm_middle (a:=x[j]) (l₁:=x.take j) (l₂:=x.drop (j+1))).symm
 rw [←h]at this;exact this
def plc:AX→AO→Bool
 | [],x=>x.isEmpty
 |L::Ls,x=>(List.range x.length).any fun j=>L.contains (x.getD j be)&&plc Ls (x.eraseIdx j)
theorem bE: ∀(Ls:AX) (x:AO),plc Ls x=true↔ ∃d,ZR d Ls∧d.Perm x
 | [],x=>by
  unfold plc
  constructor
  ·intro h;rw [List.isEmpty_iff]at h;subst h;exact⟨[],trivial,List.Perm.refl _⟩
  ·rintro⟨d,h1,h2⟩
   cases d with
   |nil=>rw [List.nil_perm.1 h2];rfl
   |cons a d=>exact h1.elim
 |L::Ls,x=>by
  unfold plc;rw [Zb]
  constructor
  ·rintro⟨j,hj,h⟩
   have hj:=Fa.1 hj;rw [El,TU,Ac _ _ hj]at h;obtain⟨d,h1,h2⟩:=(bE Ls _).1 h.2
   exact⟨x[j]::d,⟨h.1,h1⟩,((List.perm_cons _).2 h2).trans (Vu x j hj)⟩
  ·rintro⟨d,h1,h2⟩
   cases d with
   |nil=>exact h1.elim
   |cons a d=>
    have ha:a∈x:=h2.mem_iff.1 Gu;obtain⟨j,hj,e⟩:=V4 ha
    refine⟨j,Fa.2 hj, ?_⟩
    rw [El,TU,Ac _ _ hj,e]
    refine⟨h1.1,(bE Ls _).2 ⟨d,h1.2, ?_⟩⟩
    have h3:(a::d).Perm (x[j]::x.eraseIdx j):=h2.trans (Vu x j hj).symm;rw [e]at h3
    exact(List.perm_cons a).1 h3
def Ej(n:Nat)(f:Nat→Nat):Nat:=((List.range n).map f).sum
theorem Yn(f:Nat→Nat):Ej 0 f=0:=rfl
theorem EU(n:Nat)(f:Nat→Nat):Ej (n+1) f=Ej n f+f n:=by simp [Ej,VT]
theorem KO{n:Nat}{f g:Nat→Nat}(h: ∀i,i<n→f i=g i):Ej n f=Ej n g:=by
 unfold Ej;rw [lM fun i hi=>h i (Fa.1 hi)]
theorem xD(n:Nat)(f g:Nat→Nat):Ej n (fun i=>f i+g i)=Ej n f+Ej n g:=by
 induction n with
 |zero=>rfl
 |succ n ih=>rw [EU,EU,EU,ih];omega
theorem A5v(n c:Nat)(f:Nat→Nat):Ej n (fun i=>c*f i)=c*Ej n f:=by
 induction n with
 |zero=>rfl
 |succ n ih=>rw [EU,EU,ih,Nat.mul_add]
theorem Ri{n:Nat}{f:Nat→Nat}(h: ∀i,i<n→f i=0):Ej n f=0:=by
 induction n with
 |zero=>rfl
 |succ n ih=>rw [EU,ih fun i hi=>h i (by omega),h n (by omega)]
theorem iY{n k:Nat}{f:Nat→Nat}(hk:k<n)(h: ∀i,i<n→i≠k→f i=0):Ej n f=f k:=by
 induction n with
 |zero=>omega
 |succ n ih=>
  rw [EU];by_cases e:k=n
  ·subst e;rw [Ri fun i hi=>h i (by omega) (by omega),MM]
  ·rw [ih (by omega) fun i hi hne=>h i (by omega) hne,h n (by omega) (fun q=>e q.symm),Nat.add_zero]
theorem A2b(n m:Nat)(f:Nat→Nat→Nat):Ej n (fun i=>Ej m (f i))=Ej m (fun j=>Ej n fun i=>f i j):=by
 induction n with
 |zero=>
  rw [Yn]
  exact(Ri fun _ _=>rfl).symm
 |succ n ih=>
  rw [EU,ih,←xD];exact KO fun j _=>(EU n _).symm
def Qq{α:Type}(l:List α)(f:α→Nat):Nat:=(l.map f).sum
theorem NN{α:Type}(a:α)(l:List α)(f:α→Nat):Qq (a::l) f=f a+Qq l f:=rfl
theorem mZ{α:Type}{l:List α}{f:α→Nat}(h: ∀a∈l,f a=0):Qq l f=0:=by
 induction l with
 |nil=>rfl
 |cons a l ih=>rw [NN,h a Gu,ih fun b hb=>h b (PL _ hb)]
theorem A5w{α:Type}{l:List α}{f:α→Nat}(hn:l.Nodup){a:α}(ha:a∈l)(h: ∀b∈l,b≠a→f b=0):Qq l f=f a:=by
 induction l with
 |nil=>cases ha
 |cons b l ih=>
  obtain⟨h1,h2⟩:=List.nodup_cons.1 hn;rw [NN];rcases Rw.1 ha with e|ha
  ·subst e;rw [mZ fun c hc=>h c (PL _ hc) (fun e=>h1 (e▸hc)),Nat.add_zero]
  ·rw [ih h2 ha fun c hc=>h c (PL _ hc),h b Gu (fun e=>h1 (e▸ha)),MM]
theorem A2c{α:Type}(l:List α)(n:Nat)(f:α→Nat→Nat):Ej n (fun i=>Qq l fun a=>f a i)=Qq l fun a=>Ej n (f a):=by
 induction l with
 |nil=>exact Ri fun _ _=>rfl
 |cons a l ih=>
  rw [NN,←ih,←xD];rfl
theorem A5x{α:Type}(l:List α)(c:Nat)(f:α→Nat):Qq l (fun a=>c*f a)=c*Qq l f:=by
 induction l with
 |nil=>rfl
 |cons a l ih=>rw [NN,NN,ih,Nat.mul_add]
def MK(n:Nat)(g:AO→Nat):List (Int→Nat)→AO→Nat
 | [],c=>g c
 |w::Ws,c=>Ej n fun b=>w (b:Int)*MK n g Ws (c++[(b:Int)])
theorem ma{n:Nat}{g:AO→Nat}: ∀(Ws:List (Int→Nat)) (c:AO),(∀d:AO,d.length=Ws.length→g (c++d)=0)→MK n g Ws c=0
 | [],c,h=>by have:=h [] rfl;rwa [TI]at this
 |w::Ws,c,h=>by
  unfold MK;refine Ri fun b _=> ?_;rw [ma Ws _ fun d hd=>by have:=h ((b:Int)::d) (by simp [hd]);rwa [M4],Nat.mul_zero]
theorem Vv{n:Nat}{g g':AO→Nat}: ∀(Ws:List (Int→Nat)) (c:AO),(∀d:AO,d.length=Ws.length→g (c++d)=g' (c++d))→MK n g Ws c=MK n g' Ws c
 | [],c,h=>by have:=h [] rfl;rwa [TI]at this
 |w::Ws,c,h=>by
  unfold MK;refine KO fun b _=> ?_;rw [Vv (g:=g) (g':=g') Ws _ fun d hd=>by have:=h ((b:Int)::d) (by simp [hd]);rwa [M4]]
theorem xE{n:Nat}{α:Type}(l:List α)(g:α→AO→Nat): ∀(Ws:List (Int→Nat)) (c:AO),MK n (fun d=>Qq l fun a=>g a d) Ws c=Qq l fun a=>MK n (g a) Ws c
 | [],c=>rfl
 |w::Ws,c=>by
  unfold MK;rw [←A2c];refine KO fun b _=> ?_;rw [xE l g Ws,←A5x]
def T9:List (Int→Nat)→AO→Nat
 | [],_=>1
 |w::Ws,x=>Ej x.length fun j=>if 0<j∧x.getD (j-1) be=x.getD j be then 0 else w (x.getD j be)*T9 Ws (x.eraseIdx j)
def UZ(x c:AO):Nat:=if c.Perm x then 1 else 0
theorem sQ{x:AO}(hs:x.Pairwise fun a b=>a≤b){j k:Nat}(hj:j<x.length)(hk:k<j)(e:x[k]'(by omega)=x[j]):0<j∧x.getD (j-1) be=x.getD j be:=by
 refine⟨by omega, ?_⟩
 have hp:=A1I.1 hs;rw [Ac _ _ (by omega),Ac _ _ hj]
 have h1:x[j-1]'(by omega)≤x[j]:=hp (j-1) j (by omega) hj (by omega)
 have h2:x[k]'(by omega)≤x[j-1]'(by omega):=by
  by_cases e2:k=j-1
  ·subst e2;exact Int.le_refl _
  ·exact hp k (j-1) (by omega) (by omega) (by omega)
 omega
theorem A5y{n:Nat}: ∀(Ws:List (Int→Nat)) (x pre:AO),x.length=Ws.length→(x.Pairwise fun a b=>a≤b)→(∀a∈x,0≤a∧a<n)→MK n (UZ (pre++x)) Ws pre=T9 Ws x
 | [],x,pre,hl,_,_=>by
  have:x=[]:=uG hl
  subst this;simp [MK,T9,UZ]
 |w::Ws,x,pre,hl,hs,hr=>by
  unfold MK T9
  have hb: ∀b,b<n→w (b:Int)*MK n (UZ (pre++x)) Ws (pre++[(b:Int)])=Ej x.length fun j=>if x.getD j be=(b:Int)then(if 0<j∧x.getD (j-1) be=x.getD j be then 0 else w (x.getD j be)*T9 Ws (x.eraseIdx j))else 0:=by
   intro b hbn;by_cases hm:(b:Int)∈x
   ·
    obtain⟨j,hj,hje,hjf⟩: ∃j,∃hj:j<x.length,x[j]=(b:Int)∧ ∀k,(hk:k<j)→x[k]'(by omega)≠(b:Int):=by
     refine⟨x.idxOf (b:Int),List.idxOf_lt_length_iff.2 hm,List.getElem_idxOf _,fun k hk e=> ?_⟩
     have:=List.not_of_lt_findIdx (p:=fun y=>y==(b:Int)) (xs:=x) (i:=k) hk
     simp at this;exact this e
    rw [iY hj fun k hk hne=> ?_]
    ·rw [if_pos (by rw [Ac _ _ hj];exact hje),if_neg ?_,Ac _ _ hj,hje]
     ·congr 1
      have hel:(x.eraseIdx j).length=Ws.length:=by rw [List.length_eraseIdx_of_lt hj,hl];rfl
      rw [←A5y Ws (x.eraseIdx j) (pre++[(b:Int)]) hel (hs.sublist (List.eraseIdx_sublist _ _)) (fun a ha=>hr a (List.mem_of_mem_eraseIdx ha))];refine Vv Ws _ fun d _=> ?_
      have hp:(pre++[(b:Int)]++x.eraseIdx j).Perm (pre++x):=by
       rw [M4];refine List.Perm.append_left _ ?_;have:=Vu x j hj
       rw [hje]at this;exact this
      unfold UZ;by_cases c:(pre++[(b:Int)]++d).Perm (pre++x)
      ·rw [if_pos c,if_pos (c.trans hp.symm)]
      ·rw [if_neg c,if_neg (fun q=>c (q.trans hp))]
     ·rintro⟨h0,h1⟩
      rw [Ac _ _ (by omega),Ac _ _ hj,hje]at h1
      exact hjf (j-1) (by omega) h1
    ·by_cases e:x.getD k be=(b:Int)
     ·rw [if_pos e];rw [Ac _ _ hk]at e
      have hjk:j<k:=by
       apply Classical.byContradiction
       intro hc;exact hjf k (by omega) e
      rw [if_pos (sQ hs hk hjk (by rw [hje,e]))]
     ·rw [if_neg e]
   ·rw [Ri fun k hk=> ?_]
    ·rw [ma Ws _ fun d _=> ?_,Nat.mul_zero];unfold UZ;rw [if_neg];intro hp;rw [M4,List.perm_append_left_iff]at hp;exact hm (hp.mem_iff.1 (by simp))
    ·rw [if_neg];intro e;rw [Ac _ _ hk]at e;exact hm (e▸NA _)
  rw [KO hb,A2b];refine KO fun j hj=> ?_;have hxj:=hr _ (NA hj);have hgj:x.getD j be=x[j]:=Ac _ _ hj;rw [iY (k:=x[j].toNat) (by omega) fun b _ hne=> ?_]
  ·rw [if_pos (by omega)]
  ·rw [if_neg (by omega)]
def xF:Nat:=1000000000001
def Df(x:Nat):Int:=((min x xF:Nat):Int)
theorem LF(x:Nat):0≤Df x∧Df x≤1000000000001:=by unfold Df xF;omega
theorem N8(x:Nat):Df x=0↔x=0:=by unfold Df xF;omega
theorem A8B(a b:Nat):Rx (Df a+Df b) 1000000000001=Df (a+b):=by
 unfold Rx Df xF
 split<;>omega
theorem mf{x:Nat}(h:Df x<1000000000001):Df x=(x:Int):=by unfold Df xF at*;omega
theorem A8C{x:Nat}(h:1000000000001≤x):Df x=1000000000001:=by unfold Df xF;omega
theorem A8D(a b:Nat):Df a*Df b<1000000000001→Df a*Df b=Df (a*b):=by
 intro h;by_cases h0:a=0
 ·subst h0;simp [Df]
 by_cases h1:b=0
 ·subst h1;simp [Df]
 have ha:Df a<1000000000001:=by
  have hb:=LF b;have:1≤Df b:=by have:=(N8 b);omega
  have hm:Df a*1≤Df a*Df b:=Int.mul_le_mul_of_nonneg_left this (LF a).1;omega
 have hb:Df b<1000000000001:=by
  have:1≤Df a:=by have:=(N8 a);have:=LF a;omega
  have hm:1*Df b≤Df a*Df b:=Int.mul_le_mul_of_nonneg_right this (LF b).1;omega
 rw [mf ha,mf hb]at h ⊢;have e:((a:Int)*(b:Int))=((a*b:Nat):Int):=by rw [Int.natCast_mul]
 rw [e]at h ⊢;unfold Df xF;omega
theorem ZT(a b:Nat)(h:1000000000001≤Df a*Df b):Df (a*b)=1000000000001:=by
 refine A8C ?_;have h1:(Df a).toNat≤a:=by unfold Df;omega
 have h2:(Df b).toNat≤b:=by unfold Df;omega
 have h3:=Nat.mul_le_mul h1 h2
 have e:(((Df a).toNat*(Df b).toNat:Nat):Int)=Df a*Df b:=by
  rw [Int.natCast_mul];have:=(LF a).1
  have:=(LF b).1
  rw [show(((Df a).toNat:Nat):Int)=Df a by omega,show(((Df b).toNat:Nat):Int)=Df b by omega]
 omega
end Go.Proofs.YtiehjihckndgkaaGreat
end
