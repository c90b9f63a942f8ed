/- Functions of the program as plain functions, and what they compute. Conditions: those in each lemma. -/
import Derived.Test.YtclkfhhdikfcpaaL6
import Derived.Test.YtclkfhhdikfcpaaVcA
import Derived.Test.YtclkfhhdikfcpaaNis
import Derived.Test.YtclkfhhdikfcpaaDt
open Inhabited renaming default → be
open Dv.D renaming int → bd,sl → bh,bool → b9
open Nat renaming reduceEqDiff → bj,reduceLT → bk,reduceLeDiff → bl,reduceAdd → bm,reduceMul → bo,reduceMod → bp,reduceDiv → br,reducePow → bt,reduceSub → bw,reduceBEq → bx,sub_self → cj
open Int renaming reduceLE → bO,reduceLT → b0,reduceEq → b3,reduceSub → b4,reduceAdd → b5,reduceToNat → b6,reduceNeg → b7
open Go.IntKind renaming i64 → ca
open Sum renaming inl → cb,inr → b8
open List renaming replicate → ao,range → an,sum_cons → cm,count_pos_iff → co,getElem_map → cq,find?_eq_none → ct,replicate_zero → cw,mem_singleton → cx,count_eq_zero → cy
open Go.ResultVar renaming tmp → cc
open Bool renaming or_false → cr
noncomputable section
namespace Go.Proofs.Ytclkfhhdikfcpaa
open Go Dv
set_option linter.unusedSimpArgs false
set_option linter.unusedVariables false
set_option maxRecDepth 100000
set_option maxHeartbeats 4000000
def Q6(task:Int):Option (Bool):= some (Iq task (1:Int) (3:Int))
def k68:SC:= .seq (.ops [oX 2 CV 4]) (.seq (.ops [oM 3 0 3,oC 4 97 [(tK 3),(iK 1),(iK 3)] [3,3,3] 4,oA 2 4 4]) .ret)
theorem A2W:Try.f68.body.map (Ba lends)=some k68:=by kernel_rfl
theorem AEp:Bz Try.f68 1=true:=by kernel_rfl
theorem c68{a l:List D}{r:D×List D}(h:C8 Y.env k68 (Fa Ac l.length [cc 2] r) (entry a l))(ha:a.length=1):Y.call 68 a l=some r:=
 Aa (Y:=Y) rfl Try.func68 (ha▸AEp) A2W h
theorem Vi(task:Int){r:Bool}(h:Q6 task=some r):Y.call 68 [bd .i64 task] []=some (b9 r,[]):=by
 refine c68 ?_ rfl;unfold k68;unfold Q6 at h;have c1:=Ii task (1:Int) (3:Int)
 obtain rfl:=Option.some.inj h
 simp (maxDischargeDepth:=9) only [↓AQ,AR,Ah,↓reduceIte,bj,bk,bl,bm,bo,bp,br,bt,bw,bx,bO,b0,b3,b4,b5,b6,b7,c1]<;>(repeat' apply A7)<;>first|rfl|exact⟨_,rfl⟩|exact⟨_,_,rfl⟩|simp [AP,A8]
def BV(s_:AL)(v_:Int)(FK:Int):Option ((Int)⊕(Int⊕Unit)):= if FK<(s_.length:Int)then ck (0≤FK∧FK.toNat<s_.length)<| if v_=(s_.getD FK.toNat be)then some (b8 (cb FK)) else some (cb (ca.wrap (FK+1))) else some (b8 (b8 ()))
def CU(s_:AL)(v_:Int)(v:Int):Option (Int⊕Unit):=Im (fun v=>BV s_ v_ v) v
def D9(s_:AL)(v_:Int):Option (Int):=
 (CU s_ v_ 0).bind fun AY=>
 match AY with
 | .inl q1000_=>
  some q1000_
 | .inr q1000_=>
  some (-1)
def Un:SC:= .seq (.ops [oB 9 .lss 3 (tK 8) (tK 7) 3 0]) (.seq (.cond (tK 9) .skip (.exit 0)) (.seq (.block 1 (.seq (.ops [oM 10 8 3,oA 5 10 3]) (.seq (.ops [oM 11 1 3,oM 12 0 26,oM 13 5 3,oI 14 26 12 13,oL 15 3 14 3,oB 16 .eql 3 (tK 11) (tK 15) 3 4]) (.cond (tK 16) (.seq (.ops [oM 17 5 3,oA 4 17 3]) .ret) .skip)))) (.ops [oB 18 .add 3 (tK 8) (iK 1) 3 3,oM 8 18 3])))
def fq:SC:= .loop Un
def A2X:SC:= .seq (.ops [oX 4 (.assign (iK 0)) 3]) (.seq (.seq (.ops [oM 6 0 26,oN 7 6 26,oX 8 (.move (iK 0)) 3]) (.block 0 fq)) (.seq (.ops [oX 4 Ot 3]) .ret))
theorem sJ:Try.f123.body.map (Ba lends)=some A2X:=by kernel_rfl
theorem A9L:Bz Try.f123 2=true:=by kernel_rfl
theorem AEq{a l:List D}{r:D×List D}(h:C8 Y.env A2X (Fa Ac l.length [cc 4] r) (entry a l))(ha:a.length=2):Y.call 123 a l=some r:=
 Aa (Y:=Y) rfl Try.func123 (ha▸A9L) sJ h
def BM(s_:AL)(v_:Int)(FK:Int)(s:St):Prop:=s.v 0=bh 3 (AP (bd .i64) s_)∧s.v 1=bd .i64 v_∧s.v 7=bd .i64 (s_.length:Int)∧s.v 8=bd .i64 FK
def BN(s_:AL)(v_:Int)(r:Int⊕Unit)(ex:Ex)(s:St):Prop:=match r with
 | .inl q=>ex= .ret∧s.v 4=bd .i64 q
 | .inr q=>ex= .exit 0
theorem Js(s_:AL)(v_:Int){v:Int}{s:St}{r:Int⊕Unit}(h:CU s_ v_ v=some r)(hM:BM s_ v_ v s):C8 Y.env fq (BN s_ v_ r) s:=by
 unfold CU at h;refine BU (c:=Un) (fun v=>BV s_ v_ v) (fun v s=>BM s_ v_ v s) (BN s_ v_) ?_ h hM;clear h hM s v r;intro FK s o hM h;unfold BV at h;unfold BM at hM;obtain⟨m0,m1,m2,m3⟩:=hM;unfold Un;by_cases e1:FK<(s_.length:Int)
 ·rw [if_pos e1]at h;obtain⟨e2,h⟩:=Bw h;by_cases e3:v_=(s_.getD FK.toNat be)
  ·rw [if_pos e3]at h
   obtain rfl:=Option.some.inj h
   simp (maxDischargeDepth:=9) only [↓AQ,AR,Ah,↓reduceIte,bj,bk,bl,bm,bo,bp,br,bt,bw,bx,bO,b0,b3,b4,b5,b6,b7,m0,m1,m2,m3,e1,e2.1,e2.2,decide_eq_true e3,BM,BN,Ch,Ci,Cj]<;>(repeat' apply A7)<;>first|rfl|exact⟨_,rfl⟩|exact⟨_,_,rfl⟩|simp [AP,A8]
  ·rw [if_neg e3]at h
   obtain rfl:=Option.some.inj h
   simp (maxDischargeDepth:=9) only [↓AQ,AR,Ah,↓reduceIte,bj,bk,bl,bm,bo,bp,br,bt,bw,bx,bO,b0,b3,b4,b5,b6,b7,m0,m1,m2,m3,e1,e2.1,e2.2,e3,BM,BN,Ch,Ci,Cj]<;>(repeat' apply A7)<;>first|rfl|exact⟨_,rfl⟩|exact⟨_,_,rfl⟩|simp [AP,A8]
 ·rw [if_neg e1]at h
  obtain rfl:=Option.some.inj h
  simp (maxDischargeDepth:=9) only [↓AQ,AR,Ah,↓reduceIte,bj,bk,bl,bm,bo,bp,br,bt,bw,bx,bO,b0,b3,b4,b5,b6,b7,m0,m1,m2,m3,e1,BM,BN,Ch,Ci,Cj]<;>(repeat' apply A7)<;>first|rfl|exact⟨_,rfl⟩|exact⟨_,_,rfl⟩|simp [AP,A8]
theorem Jz(s_:AL)(v_:Int){r:Int}(h:D9 s_ v_=some r):Y.call 123 [bh 3 (AP (bd .i64) s_),bd .i64 v_] []=some (bd .i64 r,[]):=by
 refine AEq ?_ rfl;unfold A2X;unfold D9 at h;obtain⟨AY,hl2,h⟩:=Ar h;try dsimp only at h
 simp (maxDischargeDepth:=9) only [↓AQ,AR,Ah,↓reduceIte,bj,bk,bl,bm,bo,bp,br,bt,bw,bx,bO,b0,b3,b4,b5,b6,b7];refine BF (Js s_ v_ hl2 ?_) ?_
 ·simp (maxDischargeDepth:=9) only [↓AQ,AR,Ah,↓reduceIte,bj,bk,bl,bm,bo,bp,br,bt,bw,bx,bO,b0,b3,b4,b5,b6,b7,BM]<;>(repeat' apply A7)<;>first|rfl|exact⟨_,rfl⟩|exact⟨_,_,rfl⟩|simp [AP,A8]
 ·intro ex2 s2 hX2;rcases AY with q1000_|q1000_
  ·unfold BN at hX2;dsimp only at hX2 h;obtain⟨rfl,n2_0⟩:=hX2
   obtain rfl:=Option.some.inj h
   simp (maxDischargeDepth:=9) only [↓AQ,AR,Ah,↓reduceIte,bj,bk,bl,bm,bo,bp,br,bt,bw,bx,bO,b0,b3,b4,b5,b6,b7,n2_0]<;>(repeat' apply A7)<;>first|rfl|exact⟨_,rfl⟩|exact⟨_,_,rfl⟩|simp [AP,A8]
  ·unfold BN at hX2;dsimp only at hX2 h
   obtain rfl:=hX2
   obtain rfl:=Option.some.inj h
   simp (maxDischargeDepth:=9) only [↓AQ,AR,Ah,↓reduceIte,bj,bk,bl,bm,bo,bp,br,bt,bw,bx,bO,b0,b3,b4,b5,b6,b7]<;>(repeat' apply A7)<;>first|rfl|exact⟨_,rfl⟩|exact⟨_,_,rfl⟩|simp [AP,A8]
def Rz(b:Bool):Option (Int):= if b=true then some 1 else some 0
def A2Y:SC:= .seq (.ops [oX 2 (.assign (iK 0)) 3]) (.seq (.seq (.ops [oM 3 0 4]) (.cond (tK 3) (.seq (.ops [oX 2 (.assign (iK 1)) 3]) .ret) .skip)) (.seq (.ops [oX 2 (.assign (iK 0)) 3]) .ret))
theorem sK:Try.f124.body.map (Ba lends)=some A2Y:=by kernel_rfl
theorem A9M:Bz Try.f124 1=true:=by kernel_rfl
theorem AEr{a l:List D}{r:D×List D}(h:C8 Y.env A2Y (Fa Ac l.length [cc 2] r) (entry a l))(ha:a.length=1):Y.call 124 a l=some r:=
 Aa (Y:=Y) rfl Try.func124 (ha▸A9M) sK h
theorem Xw(b:Bool){r:Int}(h:Rz b=some r):Y.call 124 [b9 b] []=some (bd .i64 r,[]):=by
 refine AEr ?_ rfl;unfold A2Y;unfold Rz at h;by_cases e1:b=true
 ·rw [if_pos e1]at h
  obtain rfl:=Option.some.inj h
  simp (maxDischargeDepth:=9) only [↓AQ,AR,Ah,↓reduceIte,bj,bk,bl,bm,bo,bp,br,bt,bw,bx,bO,b0,b3,b4,b5,b6,b7,e1]<;>(repeat' apply A7)<;>first|rfl|exact⟨_,rfl⟩|exact⟨_,_,rfl⟩|simp [AP,A8]
 ·rw [if_neg e1]at h;have e1f:b=false:=KR.mpr e1
  obtain rfl:=Option.some.inj h
  simp (maxDischargeDepth:=9) only [↓AQ,AR,Ah,↓reduceIte,bj,bk,bl,bm,bo,bp,br,bt,bw,bx,bO,b0,b3,b4,b5,b6,b7,e1f]<;>(repeat' apply A7)<;>first|rfl|exact⟨_,rfl⟩|exact⟨_,_,rfl⟩|simp [AP,A8]
def EB(class_:AL)(counts:AL)(Kz:Int):Option ((AL×Int)⊕(AL)):= if Kz<(class_.length:Int)then ck (0≤Kz∧Kz.toNat<class_.length)<| ck (0≤(class_.getD Kz.toNat be)∧(class_.getD Kz.toNat be).toNat<counts.length)<| some (cb ((counts.set ((class_.getD Kz.toNat be).toNat) (ca.wrap ((counts.getD ((class_.getD Kz.toNat be).toNat) be)+1))),ca.wrap (Kz+1))) else some (b8 counts)
def GI(class_:AL)(v:AL×Int):Option (AL):=Im (fun v=>EB class_ v.1 v.2) v
def EC(class_:AL)(Kj:Int)(out:AL)(Vj:Int):Option ((AL×Int)⊕(AL)):= if Vj<(class_.length:Int)then ck (0≤Vj∧Vj.toNat<class_.length)<| (Rz (decide ((class_.getD Vj.toNat be)=Kj))).bind fun A9N=> ck (out.length+1<1099511627776)<| some (cb ((out++[A9N]),ca.wrap (Vj+1))) else some (b8 out)
def GJ(class_:AL)(Kj:Int)(v:AL×Int):Option (AL):=Im (fun v=>EC class_ Kj v.1 v.2) v
def G8(task:Int)(class_:AL):Option (AL):= if task=1 then (Ey class_).bind fun Zh=> ck (0≤Zh∧Zh<1099511627776)<| (GI class_ ((ao Zh.toNat 0),0)).bind fun AY=> (D9 AY (1:Int)).bind fun Kj=> (GJ class_ Kj ([],0)).bind fun CY=> some CY else ck (class_.length<1099511627776)<| some class_
def Xx:SC:= .seq (.ops [oB 22 .lss 3 (tK 21) (tK 20) 3 0]) (.seq (.cond (tK 22) .skip (.exit 0)) (.seq (.block 1 (.seq (.ops [oI 23 26 19 21,oL 24 3 23 3,oA 7 24 3]) (.ops [oM 25 5 26,oM 26 7 3,oI 27 26 25 26,oL 28 3 27 3,oB 29 .add 3 (tK 28) (iK 1) 3 3,oI 30 26 25 26,oS 3 30 29]))) (.ops [oB 31 .add 3 (tK 21) (iK 1) 3 3,oM 21 31 3])))
def ni:SC:= .loop Xx
def Xy:SC:= .seq (.ops [oB 37 .lss 3 (tK 36) (tK 35) 3 0]) (.seq (.cond (tK 37) .skip (.exit 2)) (.seq (.block 3 (.seq (.ops [oI 38 26 34 36,oL 39 3 38 3,oA 11 39 3]) (.ops [oM 40 9 26,oM 41 11 3,oM 42 8 3,oB 43 .eql 3 (tK 41) (tK 42) 3 4,oC 44 124 [(tK 43)] [4] 3,oX 45 (.buildSlice 26 1 #[(0,(tK 44))]) 26,oX 46 (.call ⟨(.builtin .append), #[(tK 40),(tK 45)], #[26,26]⟩) 26,oA 9 46 26]))) (.ops [oB 47 .add 3 (tK 36) (iK 1) 3 3,oM 36 47 3])))
def nk:SC:= .loop Xy
def k71:SC:= .seq (.ops [oX 4 OL 26]) (.seq (.seq (.ops [oM 12 0 3,oB 13 .neq 3 (tK 12) (iK 1) 3 4]) (.cond (tK 13) (.seq (.ops [oM 14 1 26,oC 15 121 [(tK 14)] [26] 26,oA 4 15 26]) .ret) .skip)) (.seq (.ops [oM 16 1 26,oC 17 122 [(tK 16)] [26] 3,oX 18 (.makeSlice 26 (tK 17) (tK 17)) 26,oA 5 18 26]) (.seq (.seq (.ops [oM 19 1 26,oN 20 19 26,oX 21 (.move (iK 0)) 3]) (.block 0 ni)) (.seq (.ops [oM 32 5 26,oC 33 123 [(tK 32),(iK 1)] [26,3] 3,oA 8 33 3]) (.seq (.ops [oX 9 OL 26]) (.seq (.seq (.ops [oM 34 1 26,oN 35 34 26,oX 36 (.move (iK 0)) 3]) (.block 2 nk)) (.seq (.ops [oM 48 9 26,oA 4 48 26]) .ret)))))))
theorem A2Z:Try.f71.body.map (Ba lends)=some k71:=by kernel_rfl
theorem AEt:Bz Try.f71 2=true:=by kernel_rfl
theorem c71{a l:List D}{r:D×List D}(h:C8 Y.env k71 (Fa Ac l.length [cc 4] r) (entry a l))(ha:a.length=2):Y.call 71 a l=some r:=
 Aa (Y:=Y) rfl Try.func71 (ha▸AEt) A2Z h
def ED(class_:AL)(counts:AL)(Kz:Int)(s:St):Prop:=s.v 1=bh 3 (AP (bd .i64) class_)∧s.v 5=D.own 3 (AP (bd .i64) counts)∧s.v 19=bh 3 (AP (bd .i64) class_)∧s.v 20=bd .i64 (class_.length:Int)∧s.v 21=bd .i64 Kz
def Ez(class_:AL)(r:AL)(ex:Ex)(s:St):Prop:=ex= .exit 0∧s.v 1=bh 3 (AP (bd .i64) class_)∧s.v 5=D.own 3 (AP (bd .i64) r)
theorem Oy(class_:AL){v:AL×Int}{s:St}{r:AL}(h:GI class_ v=some r)(hM:ED class_ v.1 v.2 s):C8 Y.env ni (Ez class_ r) s:=by
 unfold GI at h;refine BU (c:=Xx) (fun v=>EB class_ v.1 v.2) (fun v s=>ED class_ v.1 v.2 s) (Ez class_) ?_ h hM;clear h hM s v r;intro v s o hM h;obtain⟨counts,Kz⟩:=v;dsimp only at h hM;unfold EB at h;unfold ED at hM;obtain⟨m0,m1,m2,m3,m4⟩:=hM;unfold Xx;by_cases e4:Kz<(class_.length:Int)
 ·rw [if_pos e4]at h;obtain⟨e5,h⟩:=Bw h;obtain⟨e6,h⟩:=Bw h
  obtain rfl:=Option.some.inj h
  simp (maxDischargeDepth:=9) only [↓AQ,AR,Ah,↓reduceIte,bj,bk,bl,bm,bo,bp,br,bt,bw,bx,bO,b0,b3,b4,b5,b6,b7,m0,m1,m2,m3,m4,e4,e5.1,e5.2,e6.1,e6.2,ED,Ez,Ch,Ci,Cj]<;>(repeat' apply A7)<;>first|rfl|exact⟨_,rfl⟩|exact⟨_,_,rfl⟩|simp [AP,A8]
 ·rw [if_neg e4]at h
  obtain rfl:=Option.some.inj h
  simp (maxDischargeDepth:=9) only [↓AQ,AR,Ah,↓reduceIte,bj,bk,bl,bm,bo,bp,br,bt,bw,bx,bO,b0,b3,b4,b5,b6,b7,m0,m1,m2,m3,m4,e4,ED,Ez,Ch,Ci,Cj]<;>(repeat' apply A7)<;>first|rfl|exact⟨_,rfl⟩|exact⟨_,_,rfl⟩|simp [AP,A8]
def EE(class_:AL)(Kj:Int)(out:AL)(Vj:Int)(s:St):Prop:=s.v 8=bd .i64 Kj∧s.v 9=D.own 3 (AP (bd .i64) out)∧s.v 34=bh 3 (AP (bd .i64) class_)∧s.v 35=bd .i64 (class_.length:Int)∧s.v 36=bd .i64 Vj
def F3(class_:AL)(Kj:Int)(r:AL)(ex:Ex)(s:St):Prop:=ex= .exit 2∧s.v 9=D.own 3 (AP (bd .i64) r)
theorem Oz(class_:AL)(Kj:Int){v:AL×Int}{s:St}{r:AL}(h:GJ class_ Kj v=some r)(hM:EE class_ Kj v.1 v.2 s):C8 Y.env nk (F3 class_ Kj r) s:=by
 unfold GJ at h;refine BU (c:=Xy) (fun v=>EC class_ Kj v.1 v.2) (fun v s=>EE class_ Kj v.1 v.2 s) (F3 class_ Kj) ?_ h hM;clear h hM s v r;intro v s o hM h;obtain⟨out,Vj⟩:=v;dsimp only at h hM;unfold EC at h;unfold EE at hM;obtain⟨m0,m1,m2,m3,m4⟩:=hM;unfold Xy;by_cases e7:Vj<(class_.length:Int)
 ·rw [if_pos e7]at h;obtain⟨e8,h⟩:=Bw h;obtain⟨A9N,hl9,h⟩:=Ar h;try dsimp only at h
  have c9:=Xw (decide ((class_.getD Vj.toNat be)=Kj)) hl9;obtain⟨e10,h⟩:=Bw h
  obtain rfl:=Option.some.inj h
  simp (maxDischargeDepth:=9) only [↓AQ,AR,Ah,↓reduceIte,bj,bk,bl,bm,bo,bp,br,bt,bw,bx,bO,b0,b3,b4,b5,b6,b7,m0,m1,m2,m3,m4,e7,e8.1,e8.2,c9,e10,EE,F3,Ch,Ci,Cj]<;>(repeat' apply A7)<;>first|rfl|exact⟨_,rfl⟩|exact⟨_,_,rfl⟩|simp [AP,A8]
 ·rw [if_neg e7]at h
  obtain rfl:=Option.some.inj h
  simp (maxDischargeDepth:=9) only [↓AQ,AR,Ah,↓reduceIte,bj,bk,bl,bm,bo,bp,br,bt,bw,bx,bO,b0,b3,b4,b5,b6,b7,m0,m1,m2,m3,m4,e7,EE,F3,Ch,Ci,Cj]<;>(repeat' apply A7)<;>first|rfl|exact⟨_,rfl⟩|exact⟨_,_,rfl⟩|simp [AP,A8]
theorem Q7(task:Int)(class_:AL){r:AL}(h:G8 task class_=some r):Y.call 71 [bd .i64 task,bh 3 (AP (bd .i64) class_)] []=some (D.own 3 (AP (bd .i64) r),[]):=by
 refine c71 ?_ rfl;unfold k71;unfold G8 at h;by_cases e1:task=1
 ·rw [if_pos e1]at h;obtain⟨Zh,hl2,h⟩:=Ar h;try dsimp only at h
  have c2:=JD class_ hl2;obtain⟨e3,h⟩:=Bw h;obtain⟨AY,hl5,h⟩:=Ar h;try dsimp only at h
  simp (maxDischargeDepth:=9) only [↓AQ,AR,Ah,↓reduceIte,bj,bk,bl,bm,bo,bp,br,bt,bw,bx,bO,b0,b3,b4,b5,b6,b7,decide_eq_true e1,c2,e3.1,e3.2];refine BF (Oy class_ hl5 ?_) ?_
  ·simp (maxDischargeDepth:=9) only [↓AQ,AR,Ah,↓reduceIte,bj,bk,bl,bm,bo,bp,br,bt,bw,bx,bO,b0,b3,b4,b5,b6,b7,decide_eq_true e1,c2,e3.1,e3.2,ED]<;>(repeat' apply A7)<;>first|rfl|exact⟨_,rfl⟩|exact⟨_,_,rfl⟩|simp [AP,A8]
  ·intro ex5 s5 hX5;unfold Ez at hX5;obtain⟨rfl,n5_0,n5_1⟩:=hX5;obtain⟨Kj,hl6,h⟩:=Ar h;try dsimp only at h
   have c6:=Jz AY (1:Int) hl6;obtain⟨CY,hl8,h⟩:=Ar h;try dsimp only at h
   simp (maxDischargeDepth:=9) only [↓AQ,AR,Ah,↓reduceIte,bj,bk,bl,bm,bo,bp,br,bt,bw,bx,bO,b0,b3,b4,b5,b6,b7,decide_eq_true e1,c2,e3.1,e3.2,n5_0,n5_1,c6];refine BF (Oz class_ Kj hl8 ?_) ?_
   ·simp (maxDischargeDepth:=9) only [↓AQ,AR,Ah,↓reduceIte,bj,bk,bl,bm,bo,bp,br,bt,bw,bx,bO,b0,b3,b4,b5,b6,b7,decide_eq_true e1,c2,e3.1,e3.2,n5_0,n5_1,c6,EE]<;>(repeat' apply A7)<;>first|rfl|exact⟨_,rfl⟩|exact⟨_,_,rfl⟩|simp [AP,A8]
   ·intro ex8 s8 hX8;unfold F3 at hX8;obtain⟨rfl,n8_0⟩:=hX8
    obtain rfl:=Option.some.inj h
    simp (maxDischargeDepth:=9) only [↓AQ,AR,Ah,↓reduceIte,bj,bk,bl,bm,bo,bp,br,bt,bw,bx,bO,b0,b3,b4,b5,b6,b7,decide_eq_true e1,c2,e3.1,e3.2,c6,n8_0]<;>(repeat' apply A7)<;>first|rfl|exact⟨_,rfl⟩|exact⟨_,_,rfl⟩|simp [AP,A8]
 ·rw [if_neg e1]at h;obtain⟨e2,h⟩:=Bw h;have c3:=Hl class_ e2
  obtain rfl:=Option.some.inj h
  simp (maxDischargeDepth:=9) only [↓AQ,AR,Ah,↓reduceIte,bj,bk,bl,bm,bo,bp,br,bt,bw,bx,bO,b0,b3,b4,b5,b6,b7,e1,e2,c3]<;>(repeat' apply A7)<;>first|rfl|exact⟨_,rfl⟩|exact⟨_,_,rfl⟩|simp [AP,A8]
def Q8(task:Int):Option (Bool):= some (Iq task (1:Int) (3:Int))
def k61:SC:= .seq (.ops [oX 2 CV 4]) (.seq (.ops [oM 3 0 3,oC 4 92 [(tK 3),(iK 1),(iK 3)] [3,3,3] 4,oA 2 4 4]) .ret)
theorem A2a:Try.f61.body.map (Ba lends)=some k61:=by kernel_rfl
theorem AEv:Bz Try.f61 1=true:=by kernel_rfl
theorem c61{a l:List D}{r:D×List D}(h:C8 Y.env k61 (Fa Ac l.length [cc 2] r) (entry a l))(ha:a.length=1):Y.call 61 a l=some r:=
 Aa (Y:=Y) rfl Try.func61 (ha▸AEv) A2a h
theorem Vk(task:Int){r:Bool}(h:Q8 task=some r):Y.call 61 [bd .i64 task] []=some (b9 r,[]):=by
 refine c61 ?_ rfl;unfold k61;unfold Q8 at h;have c1:=KQ task (1:Int) (3:Int)
 obtain rfl:=Option.some.inj h
 simp (maxDischargeDepth:=9) only [↓AQ,AR,Ah,↓reduceIte,bj,bk,bl,bm,bo,bp,br,bt,bw,bx,bO,b0,b3,b4,b5,b6,b7,c1]<;>(repeat' apply A7)<;>first|rfl|exact⟨_,rfl⟩|exact⟨_,_,rfl⟩|simp [AP,A8]
def Gw(l:AL)(out:Int)(FK:Int):Option ((Int×Int)⊕(Int)):= if FK<(l.length:Int)then ck (0≤FK∧FK.toNat<l.length)<| ck (0≤FK)<| ck (FK.toNat≤l.length)<| ck (((l.take FK.toNat).drop 0).length<1099511627776)<| if(((l.take FK.toNat).drop 0).contains (l.getD FK.toNat be))=true then some (cb (out,ca.wrap (FK+1))) else ck (0≤ca.wrap (FK+1))<| ck ((ca.wrap (FK+1)).toNat≤l.length)<| ck (((l.take l.length).drop ((ca.wrap (FK+1)).toNat)).length<1099511627776)<| if(((l.take l.length).drop ((ca.wrap (FK+1)).toNat)).contains (l.getD FK.toNat be))=true then some (cb (out,ca.wrap (FK+1))) else if out<0 then some (cb ((l.getD FK.toNat be),ca.wrap (FK+1))) else if(l.getD FK.toNat be)<out then some (cb ((l.getD FK.toNat be),ca.wrap (FK+1))) else some (cb (out,ca.wrap (FK+1))) else some (b8 out)
def Jt(l:AL)(v:Int×Int):Option (Int):=Im (fun v=>Gw l v.1 v.2) v
def Nt(l:AL):Option (Int):= (Jt l ((-1),0)).bind fun AY=> some AY
def Uo:SC:= .seq (.ops [oB 9 .lss 3 (tK 8) (tK 7) 3 0]) (.seq (.cond (tK 9) .skip (.exit 0)) (.seq (.block 1 (.seq (.ops [oM 10 8 3,oI 11 26 6 8,oL 12 3 11 3,oA 4 10 3,oA 5 12 3]) (.seq (.ops [oM 13 0 26,oM 14 4 3,oX 15 (.slice 26 (tK 13) none (some (tK 14)) none) 900001,oM 16 5 3,oC 17 89 [(tK 15),(tK 16)] [26,3] 4,oX 18 (.unOp .not 4 (tK 17)) 4,oM 19 18 4,⟨(some 20),(.move (tK 0)),26,(some (some 19,true))⟩,⟨(some 21),(.move (tK 4)),3,(some (some 19,true))⟩,⟨(some 22),(.binOp .add 3 (tK 21) (iK 1) 3),3,(some (some 19,true))⟩,⟨(some 23),(.slice 26 (tK 20) (some (tK 22)) none none),900001,(some (some 19,true))⟩,⟨(some 24),(.move (tK 5)),3,(some (some 19,true))⟩,⟨(some 25),(.call ⟨(.value (.func 89)), #[(tK 23),(tK 24)], #[26,3]⟩),4,(some (some 19,true))⟩,⟨(some 26),(.unOp .not 4 (tK 25)),4,(some (some 19,true))⟩,oX 27 (.pick (tK 19) (tK 26) Ou) 4,oM 28 27 4,⟨(some 29),(.move (tK 3)),3,(some (some 28,true))⟩,⟨(some 30),(.binOp .lss 3 (tK 29) (iK 0) 3),4,(some (some 28,true))⟩,⟨(some 31),(.move (tK 30)),4,(some (some 28,true))⟩,⟨(some 32),(.move (tK 5)),3,(some (some 31,false))⟩,⟨(some 33),(.move (tK 3)),3,(some (some 31,false))⟩,⟨(some 34),(.binOp .lss 3 (tK 32) (tK 33) 3),4,(some (some 31,false))⟩,
 ⟨(some 35),(.pick (tK 31) Fw (tK 34)),4,(some (some 28,true))⟩,oX 36 (.pick (tK 28) (tK 35) Ou) 4]) (.cond (tK 36) (.ops [oM 37 5 3,oA 3 37 3]) .skip)))) (.ops [oB 38 .add 3 (tK 8) (iK 1) 3 3,oM 8 38 3])))
def fu:SC:= .loop Uo
def A2b:SC:= .seq (.ops [oX 2 (.assign (iK 0)) 3]) (.seq (.ops [oX 3 Ot 3]) (.seq (.seq (.ops [oM 6 0 26,oN 7 6 26,oX 8 (.move (iK 0)) 3]) (.block 0 fu)) (.seq (.ops [oM 39 3 3,oA 2 39 3]) .ret)))
theorem sM:Try.f108.body.map (Ba lends)=some A2b:=by kernel_rfl
theorem A9O:Bz Try.f108 1=true:=by kernel_rfl
theorem AEw{a l:List D}{r:D×List D}(h:C8 Y.env A2b (Fa Ac l.length [cc 2] r) (entry a l))(ha:a.length=1):Y.call 108 a l=some r:=
 Aa (Y:=Y) rfl Try.func108 (ha▸A9O) sM h
def DJ(l:AL)(out:Int)(FK:Int)(s:St):Prop:=s.v 0=bh 3 (AP (bd .i64) l)∧s.v 3=bd .i64 out∧s.v 6=bh 3 (AP (bd .i64) l)∧s.v 7=bd .i64 (l.length:Int)∧s.v 8=bd .i64 FK
def Dm(l:AL)(r:Int)(ex:Ex)(s:St):Prop:=ex= .exit 0∧s.v 3=bd .i64 r
theorem Uq(l:AL){v:Int×Int}{s:St}{r:Int}(h:Jt l v=some r)(hM:DJ l v.1 v.2 s):C8 Y.env fu (Dm l r) s:=by
 unfold Jt at h;refine BU (c:=Uo) (fun v=>Gw l v.1 v.2) (fun v s=>DJ l v.1 v.2 s) (Dm l) ?_ h hM;clear h hM s v r;intro v s o hM h;obtain⟨out,FK⟩:=v;dsimp only at h hM;unfold Gw at h;unfold DJ at hM;obtain⟨m0,m1,m2,m3,m4⟩:=hM;unfold Uo;by_cases e1:FK<(l.length:Int)
 ·rw [if_pos e1]at h;obtain⟨e2,h⟩:=Bw h;obtain⟨e3,h⟩:=Bw h;obtain⟨e4,h⟩:=Bw h;obtain⟨e5,h⟩:=Bw h;have c6:=MW ((l.take FK.toNat).drop 0) (l.getD FK.toNat be) e5;by_cases e7:(((l.take FK.toNat).drop 0).contains (l.getD FK.toNat be))=true
  ·rw [if_pos e7]at h
   obtain rfl:=Option.some.inj h
   simp (maxDischargeDepth:=9) only [↓AQ,AR,Ah,↓reduceIte,bj,bk,bl,bm,bo,bp,br,bt,bw,bx,bO,b0,b3,b4,b5,b6,b7,m0,m1,m2,m3,m4,e1,e2.1,e2.2,e3,e4,e5,c6,e7,DJ,Dm,Ch,Ci,Cj]<;>(repeat' apply A7)<;>first|rfl|exact⟨_,rfl⟩|exact⟨_,_,rfl⟩|simp [AP,A8]
  ·rw [if_neg e7]at h;have e7f:(((l.take FK.toNat).drop 0).contains (l.getD FK.toNat be))=false:=KR.mpr e7;obtain⟨e8,h⟩:=Bw h;obtain⟨e9,h⟩:=Bw h;obtain⟨e10,h⟩:=Bw h;have c11:=MW ((l.take l.length).drop ((ca.wrap (FK+1)).toNat)) (l.getD FK.toNat be) e10;by_cases e12:(((l.take l.length).drop ((ca.wrap (FK+1)).toNat)).contains (l.getD FK.toNat be))=true
   ·rw [if_pos e12]at h
    obtain rfl:=Option.some.inj h
    simp (maxDischargeDepth:=9) only [↓AQ,AR,Ah,↓reduceIte,bj,bk,bl,bm,bo,bp,br,bt,bw,bx,bO,b0,b3,b4,b5,b6,b7,m0,m1,m2,m3,m4,e1,e2.1,e2.2,e3,e4,e5,c6,e7f,e8,e9,e10,c11,e12,DJ,Dm,Ch,Ci,Cj]<;>(repeat' apply A7)<;>first|rfl|exact⟨_,rfl⟩|exact⟨_,_,rfl⟩|simp [AP,A8]
   ·rw [if_neg e12]at h;have e12f:(((l.take l.length).drop ((ca.wrap (FK+1)).toNat)).contains (l.getD FK.toNat be))=false:=KR.mpr e12;by_cases e13:out<0
    ·rw [if_pos e13]at h
     obtain rfl:=Option.some.inj h
     simp (maxDischargeDepth:=9) only [↓AQ,AR,Ah,↓reduceIte,bj,bk,bl,bm,bo,bp,br,bt,bw,bx,bO,b0,b3,b4,b5,b6,b7,m0,m1,m2,m3,m4,e1,e2.1,e2.2,e3,e4,e5,c6,e7f,e8,e9,e10,c11,e12f,e13,DJ,Dm,Ch,Ci,Cj]<;>(repeat' apply A7)<;>first|rfl|exact⟨_,rfl⟩|exact⟨_,_,rfl⟩|simp [AP,A8]
    ·rw [if_neg e13]at h;by_cases e14:(l.getD FK.toNat be)<out
     ·rw [if_pos e14]at h
      obtain rfl:=Option.some.inj h
      simp (maxDischargeDepth:=9) only [↓AQ,AR,Ah,↓reduceIte,bj,bk,bl,bm,bo,bp,br,bt,bw,bx,bO,b0,b3,b4,b5,b6,b7,m0,m1,m2,m3,m4,e1,e2.1,e2.2,e3,e4,e5,c6,e7f,e8,e9,e10,c11,e12f,e13,e14,DJ,Dm,Ch,Ci,Cj]<;>(repeat' apply A7)<;>first|rfl|exact⟨_,rfl⟩|exact⟨_,_,rfl⟩|simp [AP,A8]
     ·rw [if_neg e14]at h
      obtain rfl:=Option.some.inj h
      simp (maxDischargeDepth:=9) only [↓AQ,AR,Ah,↓reduceIte,bj,bk,bl,bm,bo,bp,br,bt,bw,bx,bO,b0,b3,b4,b5,b6,b7,m0,m1,m2,m3,m4,e1,e2.1,e2.2,e3,e4,e5,c6,e7f,e8,e9,e10,c11,e12f,e13,e14,DJ,Dm,Ch,Ci,Cj]<;>(repeat' apply A7)<;>first|rfl|exact⟨_,rfl⟩|exact⟨_,_,rfl⟩|simp [AP,A8]
 ·rw [if_neg e1]at h
  obtain rfl:=Option.some.inj h
  simp (maxDischargeDepth:=9) only [↓AQ,AR,Ah,↓reduceIte,bj,bk,bl,bm,bo,bp,br,bt,bw,bx,bO,b0,b3,b4,b5,b6,b7,m0,m1,m2,m3,m4,e1,DJ,Dm,Ch,Ci,Cj]<;>(repeat' apply A7)<;>first|rfl|exact⟨_,rfl⟩|exact⟨_,_,rfl⟩|simp [AP,A8]
theorem Vl(l:AL){r:Int}(h:Nt l=some r):Y.call 108 [bh 3 (AP (bd .i64) l)] []=some (bd .i64 r,[]):=by
 refine AEw ?_ rfl;unfold A2b;unfold Nt at h;obtain⟨AY,hl2,h⟩:=Ar h;try dsimp only at h
 simp (maxDischargeDepth:=9) only [↓AQ,AR,Ah,↓reduceIte,bj,bk,bl,bm,bo,bp,br,bt,bw,bx,bO,b0,b3,b4,b5,b6,b7];refine BF (Uq l hl2 ?_) ?_
 ·simp (maxDischargeDepth:=9) only [↓AQ,AR,Ah,↓reduceIte,bj,bk,bl,bm,bo,bp,br,bt,bw,bx,bO,b0,b3,b4,b5,b6,b7,DJ]<;>(repeat' apply A7)<;>first|rfl|exact⟨_,rfl⟩|exact⟨_,_,rfl⟩|simp [AP,A8]
 ·intro ex2 s2 hX2;unfold Dm at hX2;obtain⟨rfl,n2_0⟩:=hX2
  obtain rfl:=Option.some.inj h
  simp (maxDischargeDepth:=9) only [↓AQ,AR,Ah,↓reduceIte,bj,bk,bl,bm,bo,bp,br,bt,bw,bx,bO,b0,b3,b4,b5,b6,b7,n2_0]<;>(repeat' apply A7)<;>first|rfl|exact⟨_,rfl⟩|exact⟨_,_,rfl⟩|simp [AP,A8]
def LV(AB:Am)(AO:AL)(AA:AL)(task:Int)(class_:AL):Option (Bool):= if task=1 then (Nt class_).bind fun nu=> some (decide (0≤nu)) else (Ja AB AO AA task class_).bind fun Xu=> some Xu
def k63:SC:= .seq (.ops [oX 3 (.box 47 (tK 0)) 0,oX 6 CV 4]) (.seq (.seq (.ops [oM 7 1 3,oB 8 .eql 3 (tK 7) (iK 1) 3 4]) (.cond (tK 8) (.seq (.ops [oM 9 2 26,oC 10 108 [(tK 9)] [26] 3,oB 11 .geq 3 (tK 10) (iK 0) 3 4,oA 6 11 4]) .ret) .skip)) (.seq (.ops [oL 12 47 3 47,oM 13 1 3,oM 14 2 26,oC 15 109 [(tK 12),(tK 13),(tK 14)] [47,3,26] 4,oA 6 15 4]) .ret))
theorem A2c:Try.f63.body.map (Ba lends)=some k63:=by kernel_rfl
theorem AEy:Bz Try.f63 3=true:=by kernel_rfl
theorem c63{a l:List D}{r:D×List D}(h:C8 Y.env k63 (Fa Ac l.length [cc 6] r) (entry a l))(ha:a.length=3):Y.call 63 a l=some r:=
 Aa (Y:=Y) rfl Try.func63 (ha▸AEy) A2c h
theorem Q9(AB:Am)(AO:AL)(AA:AL)(task:Int)(class_:AL){r:Bool}(h:LV AB AO AA task class_=some r):Y.call 63 [D.agg [bh 123 (AP (fun x=>bh 125 (Au .i64 .i64 x)) AB),bh 3 (AP (bd .i64) AO),bh 3 (AP (bd .i64) AA)],bd .i64 task,bh 3 (AP (bd .i64) class_)] []=some (b9 r,[]):=by
 refine c63 ?_ rfl;unfold k63;unfold LV at h;by_cases e1:task=1
 ·rw [if_pos e1]at h;obtain⟨nu,hl2,h⟩:=Ar h;try dsimp only at h
  have c2:=Vl class_ hl2
  obtain rfl:=Option.some.inj h
  simp (maxDischargeDepth:=9) only [↓AQ,AR,Ah,↓reduceIte,bj,bk,bl,bm,bo,bp,br,bt,bw,bx,bO,b0,b3,b4,b5,b6,b7,decide_eq_true e1,c2]<;>(repeat' apply A7)<;>first|rfl|exact⟨_,rfl⟩|exact⟨_,_,rfl⟩|simp [AP,A8]
 ·rw [if_neg e1]at h;obtain⟨Xu,hl2,h⟩:=Ar h;try dsimp only at h
  have c2:=UY AB AO AA task class_ hl2
  obtain rfl:=Option.some.inj h
  simp (maxDischargeDepth:=9) only [↓AQ,AR,Ah,↓reduceIte,bj,bk,bl,bm,bo,bp,br,bt,bw,bx,bO,b0,b3,b4,b5,b6,b7,e1,c2]<;>(repeat' apply A7)<;>first|rfl|exact⟨_,rfl⟩|exact⟨_,_,rfl⟩|simp [AP,A8]
def EF(AB:Am)(AO:AL)(AA:AL)(good:AL→Option Bool)(JL:Int×AL)(class_:AL)(t_:Int):Option ((AL×Int)⊕(Int⊕Unit)):= if t_≤JL.1 then (good class_).bind fun sN=> if sN=true then some (b8 (cb t_)) else (Gp AB AO AA class_).bind fun QA=> some (cb (QA,ca.wrap (t_+1))) else some (b8 (b8 ()))
def GK(AB:Am)(AO:AL)(AA:AL)(good:AL→Option Bool)(JL:Int×AL)(v:AL×Int):Option (Int⊕Unit):=Im (fun v=>EF AB AO AA good JL v.1 v.2) v
def JE(AB:Am)(AO:AL)(AA:AL)(good:AL→Option Bool):Option (Int×Bool):=
 (Nr AB AO AA).bind fun JL=>
 (EA AB AO AA).bind fun M3=>
 (GK AB AO AA good JL (M3,0)).bind fun AY=>
 match AY with
 | .inl q1000_=>
  some (q1000_,true)
 | .inr q1000_=>
  some (0,false)
def Xz:SC:= .seq (.seq (.ops [oM 17 9 3,oM 18 6 3,oB 19 .leq 3 (tK 17) (tK 18) 3 4]) (.cond (tK 19) .skip (.exit 0))) (.seq (.block 1 (.seq (.seq (.ops [oM 22 1 96,oM 23 8 26,oX 24 (.call ⟨(.value (tK 22)), #[(tK 23)], #[26]⟩) 4]) (.cond (tK 24) (.seq (.ops [oM 25 9 3,oA 4 25 3,oX 5 (.assign Fw) 4]) .ret) .skip)) (.ops [oL 26 47 2 47,oM 27 8 26,oC 28 125 [(tK 26),(tK 27)] [47,26] 26,oA 8 28 26]))) (.ops [oM 20 9 3,oB 21 .add 3 (tK 20) (iK 1) 3 3,oA 9 21 3]))
def ny:SC:= .loop Xz
def k75:SC:= .seq (.ops [oX 2 (.box 47 (tK 0)) 0,oX 4 (.assign (iK 0)) 3,oX 5 CV 4]) (.seq (.ops [oL 11 47 2 47,oC 12 78 [(tK 11)] [47] 97,oM 10 12 97,oE 13 10 0 3,oE 14 10 1 26,oA 6 13 3,oA 7 14 26]) (.seq (.ops [oL 15 47 2 47,oC 16 125 [(tK 15),mh] [47,26] 900013,oA 8 16 26]) (.seq (.seq (.ops [oX 9 (.assign (iK 0)) 3]) (.block 0 ny)) (.seq (.ops [oX 4 (.assign (iK 0)) 3,oX 5 CV 4]) .ret))))
theorem A2d:Try.f75.body.map (Ba lends)=some k75:=by kernel_rfl
theorem AF0:Bz Try.f75 2=true:=by kernel_rfl
theorem c75{a l:List D}{r:D×List D}(h:C8 Y.env k75 (Fa Ac l.length [cc 4,cc 5] r) (entry a l))(ha:a.length=2):Y.call 75 a l=some r:=
 Aa (Y:=Y) rfl Try.func75 (ha▸AF0) A2d h
def DU(AB:Am)(AO:AL)(AA:AL)(good:AL→Option Bool)(good_f:FuncId)(good_c:List D)(JL:Int×AL)(class_:AL)(t_:Int)(s:St):Prop:=s.v 1=D.clo good_f good_c∧s.v 2=D.box [bh 123 (AP (fun x=>bh 125 (Au .i64 .i64 x)) AB),bh 3 (AP (bd .i64) AO),bh 3 (AP (bd .i64) AA)]∧s.v 6=bd .i64 JL.1∧s.v 8=D.own 3 (AP (bd .i64) class_)∧s.v 9=bd .i64 t_
def DV(AB:Am)(AO:AL)(AA:AL)(good:AL→Option Bool)(good_f:FuncId)(good_c:List D)(JL:Int×AL)(r:Int⊕Unit)(ex:Ex)(s:St):Prop:=match r with
 | .inl q=>ex= .ret∧s.v 4=bd .i64 q∧s.v 5=b9 true
 | .inr q=>ex= .exit 0
theorem P5(AB:Am)(AO:AL)(AA:AL)(good:AL→Option Bool)(good_f:FuncId)(good_c:List D)(JL:Int×AL)(good_h: ∀(a0:AL) (r:Bool),good a0=some r→Y.call good_f (bh 3 (AP (bd .i64) a0)::good_c) []=some (b9 r,[]))(good_l:lends good_f=false){v:AL×Int}{s:St}{r:Int⊕Unit}(h:GK AB AO AA good JL v=some r)(hM:DU AB AO AA good good_f good_c JL v.1 v.2 s):C8 Y.env ny (DV AB AO AA good good_f good_c JL r) s:=by
 unfold GK at h;refine BU (c:=Xz) (fun v=>EF AB AO AA good JL v.1 v.2) (fun v s=>DU AB AO AA good good_f good_c JL v.1 v.2 s) (DV AB AO AA good good_f good_c JL) ?_ h hM;clear h hM s v r;intro v s o hM h;obtain⟨class_,t_⟩:=v;dsimp only at h hM;unfold EF at h;unfold DU at hM;obtain⟨m0,m1,m2,m3,m4⟩:=hM;unfold Xz;by_cases e3:t_≤JL.1
 ·rw [if_pos e3]at h;obtain⟨sN,hl4,h⟩:=Ar h;try dsimp only at h
  have c4:=good_h _ _ hl4;by_cases e5:sN=true
  ·rw [if_pos e5]at h
   obtain rfl:=Option.some.inj h
   simp (maxDischargeDepth:=9) only [↓AQ,AR,Ah,↓reduceIte,bj,bk,bl,bm,bo,bp,br,bt,bw,bx,bO,b0,b3,b4,b5,b6,b7,m0,m1,m2,m3,m4,good_l,e3,c4,e5,DU,DV,Ch,Ci,Cj]<;>(repeat' apply A7)<;>first|rfl|exact⟨_,rfl⟩|exact⟨_,_,rfl⟩|simp [AP,A8]
  ·rw [if_neg e5]at h;have e5f:sN=false:=KR.mpr e5;obtain⟨QA,hl6,h⟩:=Ar h;try dsimp only at h
   have c6:=Kg AB AO AA class_ hl6
   obtain rfl:=Option.some.inj h
   simp (maxDischargeDepth:=9) only [↓AQ,AR,Ah,↓reduceIte,bj,bk,bl,bm,bo,bp,br,bt,bw,bx,bO,b0,b3,b4,b5,b6,b7,m0,m1,m2,m3,m4,good_l,e3,c4,e5f,c6,DU,DV,Ch,Ci,Cj]<;>(repeat' apply A7)<;>first|rfl|exact⟨_,rfl⟩|exact⟨_,_,rfl⟩|simp [AP,A8]
 ·rw [if_neg e3]at h
  obtain rfl:=Option.some.inj h
  simp (maxDischargeDepth:=9) only [↓AQ,AR,Ah,↓reduceIte,bj,bk,bl,bm,bo,bp,br,bt,bw,bx,bO,b0,b3,b4,b5,b6,b7,m0,m1,m2,m3,m4,good_l,e3,DU,DV,Ch,Ci,Cj]<;>(repeat' apply A7)<;>first|rfl|exact⟨_,rfl⟩|exact⟨_,_,rfl⟩|simp [AP,A8]
theorem QB(AB:Am)(AO:AL)(AA:AL)(good:AL→Option Bool)(good_f:FuncId)(good_c:List D)(good_h: ∀(a0:AL) (r:Bool),good a0=some r→Y.call good_f (bh 3 (AP (bd .i64) a0)::good_c) []=some (b9 r,[]))(good_l:lends good_f=false){r:Int×Bool}(h:JE AB AO AA good=some r):Y.call 75 [D.agg [bh 123 (AP (fun x=>bh 125 (Au .i64 .i64 x)) AB),bh 3 (AP (bd .i64) AO),bh 3 (AP (bd .i64) AA)],D.clo good_f good_c] []=some (D.tup [bd .i64 r.1,b9 r.2],[]):=by
 refine c75 ?_ rfl;unfold k75;unfold JE at h;obtain⟨JL,hl1,h⟩:=Ar h;try dsimp only at h
 have c1:=Vg AB AO AA hl1;obtain⟨M3,hl2,h⟩:=Ar h;try dsimp only at h
 have c2:=JB AB AO AA hl2;obtain⟨AY,hl4,h⟩:=Ar h;try dsimp only at h
 simp (maxDischargeDepth:=9) only [↓AQ,AR,Ah,↓reduceIte,bj,bk,bl,bm,bo,bp,br,bt,bw,bx,bO,b0,b3,b4,b5,b6,b7,good_l,c1,c2];refine BF (P5 AB AO AA good good_f good_c JL good_h good_l hl4 ?_) ?_
 ·simp (maxDischargeDepth:=9) only [↓AQ,AR,Ah,↓reduceIte,bj,bk,bl,bm,bo,bp,br,bt,bw,bx,bO,b0,b3,b4,b5,b6,b7,good_l,c1,c2,DU]<;>(repeat' apply A7)<;>first|rfl|exact⟨_,rfl⟩|exact⟨_,_,rfl⟩|simp [AP,A8]
 ·intro ex4 s4 hX4;rcases AY with q1000_|q1000_
  ·unfold DV at hX4;dsimp only at hX4 h;obtain⟨rfl,n4_0,n4_1⟩:=hX4
   obtain rfl:=Option.some.inj h
   simp (maxDischargeDepth:=9) only [↓AQ,AR,Ah,↓reduceIte,bj,bk,bl,bm,bo,bp,br,bt,bw,bx,bO,b0,b3,b4,b5,b6,b7,good_l,c1,c2,n4_0,n4_1]<;>(repeat' apply A7)<;>first|rfl|exact⟨_,rfl⟩|exact⟨_,_,rfl⟩|simp [AP,A8]
  ·unfold DV at hX4;dsimp only at hX4 h
   obtain rfl:=hX4
   obtain rfl:=Option.some.inj h
   simp (maxDischargeDepth:=9) only [↓AQ,AR,Ah,↓reduceIte,bj,bk,bl,bm,bo,bp,br,bt,bw,bx,bO,b0,b3,b4,b5,b6,b7,good_l,c1,c2]<;>(repeat' apply A7)<;>first|rfl|exact⟨_,rfl⟩|exact⟨_,_,rfl⟩|simp [AP,A8]
def CL(class_:AL)(c0__0:Am)(c0__1:AL)(c0__2:AL)(c1_:Int):Option (Bool):= (G8 c1_ class_).bind fun nC=> (OB c0__0 c0__1 c0__2 c1_ nC).bind fun nu=> some nu
abbrev dJ:List Nat:=[5,6,7,8,9,10,4,10,10]
def k76:SC:= .seq (.ops [oX 4 CV 4]) (.seq (.draws [(⟨[5,1,1],dJ,[5]⟩,oL 5 47 1 47),(⟨[6,2,2],dJ,[6]⟩,oL 6 3 2 3),(⟨[7,2,2],dJ,[7]⟩,oL 7 3 2 3),(⟨[8,0,0],dJ,[8]⟩,oM 8 0 26),(⟨[9,7,8,2,0],dJ,[9]⟩,oC 9 71 [(tK 7),(tK 8)] [3,26] 26),(⟨[10,5,6,9,1,2,9],dJ,[10]⟩,oC 10 70 [(tK 5),(tK 6),(tK 9)] [47,3,26] 4),(⟨[4,10,10],dJ,[4,10,10]⟩,oA 4 10 4)]) .ret)
theorem A2e:Try.f76.body.map (Ba lends)=some k76:=by kernel_rfl
theorem AF2:Bz Try.f76 3=true:=by kernel_rfl
theorem c76{a l:List D}{r:D×List D}(h:C8 Y.env k76 (Fa Ac l.length [cc 4] r) (entry a l))(ha:a.length=3):Y.call 76 a l=some r:=
 Aa (Y:=Y) rfl Try.func76 (ha▸AF2) A2e h
theorem Md(class_:AL)(c0__0:Am)(c0__1:AL)(c0__2:AL)(c1_:Int){r:Bool}(h:CL class_ c0__0 c0__1 c0__2 c1_=some r):Y.call 76 [bh 3 (AP (bd .i64) class_),D.cptr [bh 123 (AP (fun x=>bh 125 (Au .i64 .i64 x)) c0__0),bh 3 (AP (bd .i64) c0__1),bh 3 (AP (bd .i64) c0__2)],D.cptr [bd .i64 c1_]] []=some (b9 r,[]):=by
 refine c76 ?_ rfl;unfold k76;unfold CL at h;obtain⟨nC,hl1,h⟩:=Ar h;try dsimp only at h
 have c1:=Q7 c1_ class_ hl1;obtain⟨nu,hl2,h⟩:=Ar h;try dsimp only at h
 have c2:=Xl c0__0 c0__1 c0__2 c1_ nC hl2
 obtain rfl:=Option.some.inj h
 simp (maxDischargeDepth:=9) only [↓AQ,AR,Ah,↓reduceIte,bj,bk,bl,bm,bo,bp,br,bt,bw,bx,bO,b0,b3,b4,b5,b6,b7,c1,c2]<;>(repeat' apply A7)<;>first|rfl|exact⟨_,rfl⟩|exact⟨_,_,rfl⟩|simp [AP,A8]
def GL(AB:Am)(AO:AL)(AA:AL)(task:Int):Option (Int×Bool):= ck (DL AB)<| ck (AO.length<1099511627776)<| ck (AA.length<1099511627776)<| if(IQ AB AO AA)=true then (Q6 task).bind fun sO=> if sO=true then (JE AB AO AA (fun a0=>CL a0 AB AO AA task)).bind fun M3=> some (M3.1,M3.2) else some (0,false) else some (0,false)
def k27:SC:= .seq (.ops [oX 2 (.box 47 (tK 0)) 0,oX 3 (.box 3 (tK 1)) 0,oX 4 (.assign (iK 0)) 3,oX 5 CV 4]) (.seq (.seq (.ops [oL 6 47 2 47,oC 7 67 [(tK 6)] [47] 4,oX 8 (.unOp .not 4 (tK 7)) 4,oM 9 8 4,⟨(some 10),(.load 3 (tK 3)),3,(some (some 9,false))⟩,⟨(some 11),(.call ⟨(.value (.func 68)), #[(tK 10)], #[3]⟩),4,(some (some 9,false))⟩,⟨(some 12),(.unOp .not 4 (tK 11)),4,(some (some 9,false))⟩,oX 13 (.pick (tK 9) Fw (tK 12)) 4]) (.cond (tK 13) (.seq (.ops [oX 4 (.assign (iK 0)) 3,oX 5 CV 4]) .ret) .skip)) (.seq (.ops [oL 14 47 2 47,oX 15 (.makeFunc (Fn.func 76) #[] #[(tK 2),(tK 3)]) 96,oC 16 75 [(tK 14),(tK 15)] [47,96] 51,oE 17 16 0 3,oE 18 16 1 4,oA 4 17 3,oA 5 18 4]) .ret))
theorem A2f:Try.f27.body.map (Ba lends)=some k27:=by kernel_rfl
theorem AF4:Bz Try.f27 2=true:=by kernel_rfl
theorem c27{a l:List D}{r:D×List D}(h:C8 Y.env k27 (Fa Ac l.length [cc 4,cc 5] r) (entry a l))(ha:a.length=2):Y.call 27 a l=some r:=
 Aa (Y:=Y) rfl Try.func27 (ha▸AF4) A2f h
theorem Nu(AB:Am)(AO:AL)(AA:AL)(task:Int){r:Int×Bool}(h:GL AB AO AA task=some r):Y.call 27 [D.agg [bh 123 (AP (fun x=>bh 125 (Au .i64 .i64 x)) AB),bh 3 (AP (bd .i64) AO),bh 3 (AP (bd .i64) AA)],bd .i64 task] []=some (D.tup [bd .i64 r.1,b9 r.2],[]):=by
 refine c27 ?_ rfl;unfold k27;unfold GL at h;obtain⟨e1,h⟩:=Bw h;obtain⟨e2,h⟩:=Bw h;obtain⟨e3,h⟩:=Bw h;have c4:=UI AB AO AA e1 e2 e3;by_cases e5:(IQ AB AO AA)=true
 ·rw [if_pos e5]at h;obtain⟨sO,hl6,h⟩:=Ar h;try dsimp only at h
  have c6:=Vi task hl6;by_cases e7:sO=true
  ·rw [if_pos e7]at h;obtain⟨M3,hl8,h⟩:=Ar h;try dsimp only at h
   have c8:=QB AB AO AA (fun a0=>CL a0 AB AO AA task) 76 [D.cptr [bh 123 (AP (fun x=>bh 125 (Au .i64 .i64 x)) AB),bh 3 (AP (bd .i64) AO),bh 3 (AP (bd .i64) AA)],D.cptr [bd .i64 task]] (fun a0 _ hh=>Md a0 AB AO AA task hh) A1V hl8
   obtain rfl:=Option.some.inj h
   simp (maxDischargeDepth:=9) only [↓AQ,AR,Ah,↓reduceIte,bj,bk,bl,bm,bo,bp,br,bt,bw,bx,bO,b0,b3,b4,b5,b6,b7,e1,e2,e3,c4,e5,c6,e7,c8]<;>(repeat' apply A7)<;>first|rfl|exact⟨_,rfl⟩|exact⟨_,_,rfl⟩|simp [AP,A8]
  ·rw [if_neg e7]at h;have e7f:sO=false:=KR.mpr e7
   obtain rfl:=Option.some.inj h
   simp (maxDischargeDepth:=9) only [↓AQ,AR,Ah,↓reduceIte,bj,bk,bl,bm,bo,bp,br,bt,bw,bx,bO,b0,b3,b4,b5,b6,b7,e1,e2,e3,c4,e5,c6,e7f]<;>(repeat' apply A7)<;>first|rfl|exact⟨_,rfl⟩|exact⟨_,_,rfl⟩|simp [AP,A8]
 ·rw [if_neg e5]at h;have e5f:(IQ AB AO AA)=false:=KR.mpr e5
  obtain rfl:=Option.some.inj h
  simp (maxDischargeDepth:=9) only [↓AQ,AR,Ah,↓reduceIte,bj,bk,bl,bm,bo,bp,br,bt,bw,bx,bO,b0,b3,b4,b5,b6,b7,e1,e2,e3,c4,e5f]<;>(repeat' apply A7)<;>first|rfl|exact⟨_,rfl⟩|exact⟨_,_,rfl⟩|simp [AP,A8]
def DC(AB:Am)(AO:AL)(AA:AL)(task:Int)(t_:Int):Option ((Int)⊕(Int)):= (Fp AB AO AA t_).bind fun Zc=> (LV AB AO AA task Zc).bind fun QA=> if QA=true then some (b8 t_) else some (cb (ca.wrap (t_+1)))
def Ei(AB:Am)(AO:AL)(AA:AL)(task:Int)(v:Int):Option (Int):=Im (fun v=>DC AB AO AA task v) v
def GM(AB:Am)(AO:AL)(AA:AL)(task:Int):Option (Int×Bool):= ck (DL AB)<| ck (AO.length<1099511627776)<| ck (AA.length<1099511627776)<| if(IQ AB AO AA)=true then (Q8 task).bind fun JL=> if JL=true then (M8 AB AO AA).bind fun A2g=> (LV AB AO AA task A2g).bind fun N7=> if N7=true then (Ei AB AO AA task 0).bind fun AY=> some (AY,true) else some (0,false) else some (0,false) else some (0,false)
def Y1:SC:= .seq (.seq (.draws [(⟨[23,2,2],[23,24,25,26,27,28,29],[23]⟩,oL 23 47 2 47),(⟨[24,1,1],[23,24,25,26,27,28,29],[24]⟩,oM 24 1 3),(⟨[25,2,2],[23,24,25,26,27,28,29],[25]⟩,oL 25 47 2 47),(⟨[26,6,6],[23,24,25,26,27,28,29],[26]⟩,oM 26 6 3),(⟨[27,25,26,2,6],[23,24,25,26,27,28,29],[27]⟩,oC 27 64 [(tK 25),(tK 26)] [47,3] 26),(⟨[28,23,24,27,2,1,27],[23,24,25,26,27,28,29],[28]⟩,oC 28 63 [(tK 23),(tK 24),(tK 27)] [47,3,26] 4),(⟨[29,28,28],[23,24,25,26,27,28,29],[29]⟩,oX 29 (.unOp .not 4 (tK 28)) 4)]) (.cond (tK 29) .skip (.exit 0))) (.block 1 (.ops [oM 30 6 3,oB 31 .add 3 (tK 30) (iK 1) 3 3,oA 6 31 3]))
def nz:SC:= .loop Y1
abbrev OP:List Nat:=[7,8,9,10,11,12,13,14,15,16,17,18,19,20,21,22]
def k26:SC:= .seq (.ops [oX 2 (.box 47 (tK 0)) 0,oX 4 (.assign (iK 0)) 3,oX 5 CV 4]) (.seq (.seq (.draws [(⟨[7,2,2],OP,[7]⟩,oL 7 47 2 47),(⟨[8,7,2],OP,[8]⟩,oC 8 60 [(tK 7)] [47] 4),(⟨[9,8,8],OP,[9]⟩,oX 9 (.unOp .not 4 (tK 8)) 4),(⟨[10,9,9],OP,[10]⟩,oM 10 9 4),(⟨[11,1,1,10],OP,[11]⟩,⟨(some 11),(.move (tK 1)),3,(some (some 10,false))⟩),(⟨[12,11,1,10],OP,[12]⟩,⟨(some 12),(.call ⟨(.value (.func 61)), #[(tK 11)], #[3]⟩),4,(some (some 10,false))⟩),(⟨[13,12,12,10],OP,[13]⟩,⟨(some 13),(.unOp .not 4 (tK 12)),4,(some (some 10,false))⟩),(⟨[14,10,13,9,13],OP,[14]⟩,oX 14 (.pick (tK 10) Fw (tK 13)) 4),(⟨[15,14,14],OP,[15]⟩,oM 15 14 4),(⟨[16,2,2,15],OP,[16]⟩,⟨(some 16),(.load 47 (tK 2)),47,(some (some 15,false))⟩),(⟨[17,1,1,15],OP,[17]⟩,⟨(some 17),(.move (tK 1)),3,(some (some 15,false))⟩),(⟨[18,2,2,15],OP,[18]⟩,⟨(some 18),(.load 47 (tK 2)),47,(some (some 15,false))⟩),(⟨[19,18,2,15],OP,[19]⟩,⟨(some 19),(.call ⟨(.value (.func 74)), #[(tK 18)], #[47]⟩),26,(some (some 15,false))⟩),(⟨[20,16,17,19,2,1,19,15],OP,[20]⟩,⟨(some 20),(.call ⟨(.value (.func 63)), #[(tK 16),(tK 17),(tK 19)], #[47,3,26]⟩),4,(some (some 15,false))⟩),(⟨[21,20,20,15],OP,[21]⟩,⟨(some 21),(.unOp .not 4 (tK 20)),4,(some (some 15,false))⟩),
 (⟨[22,15,21,14,21],OP,[22]⟩,oX 22 (.pick (tK 15) Fw (tK 21)) 4)]) (.cond (tK 22) (.seq (.ops [oX 4 (.assign (iK 0)) 3,oX 5 CV 4]) .ret) .skip)) (.seq (.ops [oX 6 (.assign (iK 0)) 3]) (.seq (.block 0 nz) (.seq (.ops [oM 32 6 3,oA 4 32 3,oX 5 (.assign Fw) 4]) .ret))))
theorem A2h:Try.f26.body.map (Ba lends)=some k26:=by kernel_rfl
theorem AF6:Bz Try.f26 2=true:=by kernel_rfl
theorem c26{a l:List D}{r:D×List D}(h:C8 Y.env k26 (Fa Ac l.length [cc 4,cc 5] r) (entry a l))(ha:a.length=2):Y.call 26 a l=some r:=
 Aa (Y:=Y) rfl Try.func26 (ha▸AF6) A2h h
def DD(AB:Am)(AO:AL)(AA:AL)(task:Int)(t_:Int)(s:St):Prop:=s.v 1=bd .i64 task∧s.v 2=D.box [bh 123 (AP (fun x=>bh 125 (Au .i64 .i64 x)) AB),bh 3 (AP (bd .i64) AO),bh 3 (AP (bd .i64) AA)]∧s.v 6=bd .i64 t_
def Dy(AB:Am)(AO:AL)(AA:AL)(task:Int)(r:Int)(ex:Ex)(s:St):Prop:=ex= .exit 0∧s.v 6=bd .i64 r
theorem NA(AB:Am)(AO:AL)(AA:AL)(task:Int){v:Int}{s:St}{r:Int}(h:Ei AB AO AA task v=some r)(hM:DD AB AO AA task v s):C8 Y.env nz (Dy AB AO AA task r) s:=by
 unfold Ei at h;refine BU (c:=Y1) (fun v=>DC AB AO AA task v) (fun v s=>DD AB AO AA task v s) (Dy AB AO AA task) ?_ h hM;clear h hM s v r;intro t_ s o hM h;unfold DC at h;unfold DD at hM;obtain⟨m0,m1,m2⟩:=hM;unfold Y1;obtain⟨Zc,hl11,h⟩:=Ar h;try dsimp only at h
 have c11:=Jc AB AO AA t_ hl11;obtain⟨QA,hl12,h⟩:=Ar h;try dsimp only at h
 have mr:=Q9 AB AO AA task Zc hl12;by_cases e13:QA=true
 ·rw [if_pos e13]at h
  obtain rfl:=Option.some.inj h
  simp (maxDischargeDepth:=9) only [↓AQ,AR,Ah,↓reduceIte,bj,bk,bl,bm,bo,bp,br,bt,bw,bx,bO,b0,b3,b4,b5,b6,b7,m0,m1,m2,c11,mr,e13,DD,Dy,Ch,Ci,Cj]<;>(repeat' apply A7)<;>first|rfl|exact⟨_,rfl⟩|exact⟨_,_,rfl⟩|simp [AP,A8]
 ·rw [if_neg e13]at h;have e13f:QA=false:=KR.mpr e13
  obtain rfl:=Option.some.inj h
  simp (maxDischargeDepth:=9) only [↓AQ,AR,Ah,↓reduceIte,bj,bk,bl,bm,bo,bp,br,bt,bw,bx,bO,b0,b3,b4,b5,b6,b7,m0,m1,m2,c11,mr,e13f,DD,Dy,Ch,Ci,Cj]<;>(repeat' apply A7)<;>first|rfl|exact⟨_,rfl⟩|exact⟨_,_,rfl⟩|simp [AP,A8]
theorem Nw(AB:Am)(AO:AL)(AA:AL)(task:Int){r:Int×Bool}(h:GM AB AO AA task=some r):Y.call 26 [D.agg [bh 123 (AP (fun x=>bh 125 (Au .i64 .i64 x)) AB),bh 3 (AP (bd .i64) AO),bh 3 (AP (bd .i64) AA)],bd .i64 task] []=some (D.tup [bd .i64 r.1,b9 r.2],[]):=by
 refine c26 ?_ rfl;unfold k26;unfold GM at h;obtain⟨e1,h⟩:=Bw h;obtain⟨e2,h⟩:=Bw h;obtain⟨e3,h⟩:=Bw h;have c4:=Ze AB AO AA e1 e2 e3;by_cases e5:(IQ AB AO AA)=true
 ·rw [if_pos e5]at h;obtain⟨JL,hl6,h⟩:=Ar h;try dsimp only at h
  have c6:=Vk task hl6;by_cases e7:JL=true
  ·rw [if_pos e7]at h;obtain⟨A2g,hl8,h⟩:=Ar h;try dsimp only at h
   have c8:=Um AB AO AA hl8;obtain⟨N7,hl9,h⟩:=Ar h;try dsimp only at h
   have c9:=Q9 AB AO AA task A2g hl9;by_cases e10:N7=true
   ·rw [if_pos e10]at h;obtain⟨AY,hl14,h⟩:=Ar h;try dsimp only at h
    simp (maxDischargeDepth:=9) only [↓AQ,AR,Ah,↓reduceIte,bj,bk,bl,bm,bo,bp,br,bt,bw,bx,bO,b0,b3,b4,b5,b6,b7,e1,e2,e3,c4,e5,c6,e7,c8,c9,e10];refine BF (NA AB AO AA task hl14 ?_) ?_
    ·simp (maxDischargeDepth:=9) only [↓AQ,AR,Ah,↓reduceIte,bj,bk,bl,bm,bo,bp,br,bt,bw,bx,bO,b0,b3,b4,b5,b6,b7,e1,e2,e3,c4,e5,c6,e7,c8,c9,e10,DD]<;>(repeat' apply A7)<;>first|rfl|exact⟨_,rfl⟩|exact⟨_,_,rfl⟩|simp [AP,A8]
    ·intro ex14 s14 hX14;unfold Dy at hX14;obtain⟨rfl,n14_0⟩:=hX14
     obtain rfl:=Option.some.inj h
     simp (maxDischargeDepth:=9) only [↓AQ,AR,Ah,↓reduceIte,bj,bk,bl,bm,bo,bp,br,bt,bw,bx,bO,b0,b3,b4,b5,b6,b7,e1,e2,e3,c4,e5,c6,e7,c8,c9,e10,n14_0]<;>(repeat' apply A7)<;>first|rfl|exact⟨_,rfl⟩|exact⟨_,_,rfl⟩|simp [AP,A8]
   ·rw [if_neg e10]at h;have e10f:N7=false:=KR.mpr e10
    obtain rfl:=Option.some.inj h
    simp (maxDischargeDepth:=9) only [↓AQ,AR,Ah,↓reduceIte,bj,bk,bl,bm,bo,bp,br,bt,bw,bx,bO,b0,b3,b4,b5,b6,b7,e1,e2,e3,c4,e5,c6,e7,c8,c9,e10f]<;>(repeat' apply A7)<;>first|rfl|exact⟨_,rfl⟩|exact⟨_,_,rfl⟩|simp [AP,A8]
  ·rw [if_neg e7]at h;have e7f:JL=false:=KR.mpr e7
   obtain rfl:=Option.some.inj h
   simp (maxDischargeDepth:=9) only [↓AQ,AR,Ah,↓reduceIte,bj,bk,bl,bm,bo,bp,br,bt,bw,bx,bO,b0,b3,b4,b5,b6,b7,e1,e2,e3,c4,e5,c6,e7f]<;>(repeat' apply A7)<;>first|rfl|exact⟨_,rfl⟩|exact⟨_,_,rfl⟩|simp [AP,A8]
 ·rw [if_neg e5]at h;have e5f:(IQ AB AO AA)=false:=KR.mpr e5
  obtain rfl:=Option.some.inj h
  simp (maxDischargeDepth:=9) only [↓AQ,AR,Ah,↓reduceIte,bj,bk,bl,bm,bo,bp,br,bt,bw,bx,bO,b0,b3,b4,b5,b6,b7,e1,e2,e3,c4,e5f]<;>(repeat' apply A7)<;>first|rfl|exact⟨_,rfl⟩|exact⟨_,_,rfl⟩|simp [AP,A8]

def EL(Bi:Am)(Co:AL)(BD:AL)(aTask:Int):Option (Bool):= ck (Oa Bi)<| ck (Co.length<9223372036854775808)<| ck (BD.length<9223372036854775808)<| ck (0≤(1048576:Int)∧(1048576:Int)≤1048576)<| if(oz (1048576:Int) Bi Co BD)<0 then some true else ck (DL Bi)<| ck (Co.length<1099511627776)<| ck (BD.length<1099511627776)<| (GM Bi Co BD aTask).bind fun N7=> (GL Bi Co BD aTask).bind fun QA=> if QA.1=N7.1 then if QA.2=true then if N7.2=true then if(Ni Bi Co BD Bi Co BD)=true then some true else some false else some false else if N7.2=true then some false else if(Ni Bi Co BD Bi Co BD)=true then some true else some false else some false
def k6:SC:= .seq (.ops [oX 2 (.box 41 (tK 0)) 0,oX 4 CV 4]) (.seq (.ops [oX 5 (.assign (iK 1048576)) 3]) (.seq (.ops [oL 11 41 2 41,oM 12 5 3,oC 13 21 [(tK 11),(tK 12)] [41,3] 3,oA 5 13 3]) (.seq (.seq (.ops [oM 14 5 3,oB 15 .lss 3 (tK 14) (iK 0) 3 4]) (.cond (tK 15) (.seq (.ops [oX 4 (.assign Fw) 4]) .ret) .skip)) (.seq (.ops [oL 17 41 2 41,oC 18 23 [(tK 17)] [41] 47,oM 19 1 3,oC 20 26 [(tK 18),(tK 19)] [47,3] 51,oM 16 20 51,oE 21 16 0 3,oE 22 16 1 4,oA 6 21 3,oA 7 22 4]) (.seq (.ops [oL 23 41 2 41,oC 24 23 [(tK 23)] [41] 47,oX 8 (.alloc 47) 0,oS 47 8 24]) (.seq (.ops [oL 26 47 8 47,oM 27 1 3,oC 28 27 [(tK 26),(tK 27)] [47,3] 51,oM 25 28 51,oE 29 25 0 3,oE 30 25 1 4,oA 9 29 3,oA 10 30 4]) (.seq (.seq (.ops [oM 31 9 3,oM 32 6 3,oB 33 .neq 3 (tK 31) (tK 32) 3 4,oM 34 33 4,⟨(some 35),(.move (tK 10)),4,(some (some 34,false))⟩,⟨(some 36),(.move (tK 7)),4,(some (some 34,false))⟩,⟨(some 37),(.binOp .neq 4 (tK 35) (tK 36) 4),4,(some (some 34,false))⟩,oX 38 (.pick (tK 34) Fw (tK 37)) 4]) (.cond (tK 38) (.seq (.ops [oX 4 CV 4]) .ret) .skip)) (.seq (.seq (.draws [(⟨[39,8,8],[39,40,41,42,43],[39]⟩,oL 39 47 8 47),(⟨[40,2,2],[39,40,41,42,43],[40]⟩,oL 40 41 2 41),
 (⟨[41,40,2],[39,40,41,42,43],[41]⟩,oC 41 23 [(tK 40)] [41] 47),(⟨[42,39,41,8,41],[39,40,41,42,43],[42]⟩,oC 42 25 [(tK 39),(tK 41)] [47,47] 4),(⟨[43,42,42],[39,40,41,42,43],[43]⟩,oX 43 (.unOp .not 4 (tK 42)) 4)]) (.cond (tK 43) (.seq (.ops [oX 4 CV 4]) .ret) .skip)) (.seq (.ops [oX 4 (.assign Fw) 4]) .ret)))))))))
theorem A9P:Try.f6.body.map (Ba lends)=some k6:=by kernel_rfl
theorem ok6:Bz Try.f6 2=true:=by kernel_rfl
theorem c6{a l:List D}{r:D×List D}(h:C8 Y.env k6 (Fa Ac l.length [cc 4] r) (entry a l))(ha:a.length=2):Y.call 6 a l=some r:=
 Aa (Y:=Y) rfl Try.func6 (ha▸ok6) A9P h
theorem KH(Bi:Am)(Co:AL)(BD:AL)(aTask:Int){r:Bool}(h:EL Bi Co BD aTask=some r):Y.call 6 [D.agg [bh 121 (AP (fun x=>bh 159 (Au .i64 .i64 x)) Bi),bh 3 (AP (bd .i64) Co),bh 3 (AP (bd .i64) BD)],bd .i64 aTask] []=some (b9 r,[]):=by
 refine c6 ?_ rfl;unfold k6;unfold EL at h;obtain⟨e1,h⟩:=Bw h;obtain⟨e2,h⟩:=Bw h;obtain⟨e3,h⟩:=Bw h;obtain⟨e4,h⟩:=Bw h;have c5:=UA Bi Co BD (1048576:Int) e1 e2 e3 e4;by_cases e6:(oz (1048576:Int) Bi Co BD)<0
 ·rw [if_pos e6]at h
  obtain rfl:=Option.some.inj h
  simp (maxDischargeDepth:=9) only [↓AQ,AR,Ah,↓reduceIte,bj,bk,bl,bm,bo,bp,br,bt,bw,bx,bO,b0,b3,b4,b5,b6,b7,e1,e2,e3,e4.1,e4.2,c5,e6]<;>(repeat' apply A7)<;>first|rfl|exact⟨_,rfl⟩|exact⟨_,_,rfl⟩|simp [AP,A8]
 ·rw [if_neg e6]at h;obtain⟨e7,h⟩:=Bw h;obtain⟨e8,h⟩:=Bw h;obtain⟨e9,h⟩:=Bw h;have zy:=J8 Bi Co BD e7 e8 e9;obtain⟨N7,hl11,h⟩:=Ar h;try dsimp only at h
  have c11:=Nw Bi Co BD aTask hl11;have mr:=J8 Bi Co BD e7 e8 e9;obtain⟨QA,hl13,h⟩:=Ar h;try dsimp only at h
  have c13:=Nu Bi Co BD aTask hl13;by_cases e14:QA.1=N7.1
  ·rw [if_pos e14]at h;by_cases e15:QA.2=true
   ·rw [if_pos e15]at h;by_cases e16:N7.2=true
    ·rw [if_pos e16]at h;have c17:=J8 Bi Co BD e7 e8 e9;have ow:=Nj Bi Co BD Bi Co BD e7 e8 e9;by_cases e19:(Ni Bi Co BD Bi Co BD)=true
     ·rw [if_pos e19]at h
      obtain rfl:=Option.some.inj h
      simp (maxDischargeDepth:=9) only [↓AQ,AR,Ah,↓reduceIte,bj,bk,bl,bm,bo,bp,br,bt,bw,bx,bO,b0,b3,b4,b5,b6,b7,e1,e2,e3,e4.1,e4.2,c5,e6,e7,e8,e9,zy,c11,mr,c13,decide_eq_true e14,e15,e16,c17,ow,e19]<;>(repeat' apply A7)<;>first|rfl|exact⟨_,rfl⟩|exact⟨_,_,rfl⟩|simp [AP,A8]
     ·rw [if_neg e19]at h;have e19f:(Ni Bi Co BD Bi Co BD)=false:=KR.mpr e19
      obtain rfl:=Option.some.inj h
      simp (maxDischargeDepth:=9) only [↓AQ,AR,Ah,↓reduceIte,bj,bk,bl,bm,bo,bp,br,bt,bw,bx,bO,b0,b3,b4,b5,b6,b7,e1,e2,e3,e4.1,e4.2,c5,e6,e7,e8,e9,zy,c11,mr,c13,decide_eq_true e14,e15,e16,c17,ow,e19f]<;>(repeat' apply A7)<;>first|rfl|exact⟨_,rfl⟩|exact⟨_,_,rfl⟩|simp [AP,A8]
    ·rw [if_neg e16]at h;have e16f:N7.2=false:=KR.mpr e16
     obtain rfl:=Option.some.inj h
     simp (maxDischargeDepth:=9) only [↓AQ,AR,Ah,↓reduceIte,bj,bk,bl,bm,bo,bp,br,bt,bw,bx,bO,b0,b3,b4,b5,b6,b7,e1,e2,e3,e4.1,e4.2,c5,e6,e7,e8,e9,zy,c11,mr,c13,decide_eq_true e14,e15,e16f]<;>(repeat' apply A7)<;>first|rfl|exact⟨_,rfl⟩|exact⟨_,_,rfl⟩|simp [AP,A8]
   ·rw [if_neg e15]at h;have e15f:QA.2=false:=KR.mpr e15;by_cases e16:N7.2=true
    ·rw [if_pos e16]at h
     obtain rfl:=Option.some.inj h
     simp (maxDischargeDepth:=9) only [↓AQ,AR,Ah,↓reduceIte,bj,bk,bl,bm,bo,bp,br,bt,bw,bx,bO,b0,b3,b4,b5,b6,b7,e1,e2,e3,e4.1,e4.2,c5,e6,e7,e8,e9,zy,c11,mr,c13,decide_eq_true e14,e15f,e16]<;>(repeat' apply A7)<;>first|rfl|exact⟨_,rfl⟩|exact⟨_,_,rfl⟩|simp [AP,A8]
    ·rw [if_neg e16]at h;have e16f:N7.2=false:=KR.mpr e16;have c17:=J8 Bi Co BD e7 e8 e9;have ow:=Nj Bi Co BD Bi Co BD e7 e8 e9;by_cases e19:(Ni Bi Co BD Bi Co BD)=true
     ·rw [if_pos e19]at h
      obtain rfl:=Option.some.inj h
      simp (maxDischargeDepth:=9) only [↓AQ,AR,Ah,↓reduceIte,bj,bk,bl,bm,bo,bp,br,bt,bw,bx,bO,b0,b3,b4,b5,b6,b7,e1,e2,e3,e4.1,e4.2,c5,e6,e7,e8,e9,zy,c11,mr,c13,decide_eq_true e14,e15f,e16f,c17,ow,e19]<;>(repeat' apply A7)<;>first|rfl|exact⟨_,rfl⟩|exact⟨_,_,rfl⟩|simp [AP,A8]
     ·rw [if_neg e19]at h;have e19f:(Ni Bi Co BD Bi Co BD)=false:=KR.mpr e19
      obtain rfl:=Option.some.inj h
      simp (maxDischargeDepth:=9) only [↓AQ,AR,Ah,↓reduceIte,bj,bk,bl,bm,bo,bp,br,bt,bw,bx,bO,b0,b3,b4,b5,b6,b7,e1,e2,e3,e4.1,e4.2,c5,e6,e7,e8,e9,zy,c11,mr,c13,decide_eq_true e14,e15f,e16f,c17,ow,e19f]<;>(repeat' apply A7)<;>first|rfl|exact⟨_,rfl⟩|exact⟨_,_,rfl⟩|simp [AP,A8]
  ·rw [if_neg e14]at h
   obtain rfl:=Option.some.inj h
   simp (maxDischargeDepth:=9) only [↓AQ,AR,Ah,↓reduceIte,bj,bk,bl,bm,bo,bp,br,bt,bw,bx,bO,b0,b3,b4,b5,b6,b7,e1,e2,e3,e4.1,e4.2,c5,e6,e7,e8,e9,zy,c11,mr,c13,e14]<;>(repeat' apply A7)<;>first|rfl|exact⟨_,rfl⟩|exact⟨_,_,rfl⟩|simp [AP,A8]
def Ae(n:Nat)(P:Nat→Bool):Option Nat:=(an n).find? P
theorem KI{n:Nat}{P:Nat→Bool}(h: ∀i,i<n→P i=false):Ae n P=none:=by
 unfold Ae;rw [ct];intro i hi;rw [h i (MF.1 hi)];decide
theorem Me{n m:Nat}{P:Nat→Bool}(hm:m<n)(h:P m=true)(h0: ∀i,i<m→P i=false):Ae n P=some m:=by
 unfold Ae;rw [List.find?_range_eq_some]
 exact⟨h,MF.2 hm,fun j hj=>by rw [h0 j hj];rfl⟩
theorem Cu{n m:Nat}{P:Nat→Bool}(h:Ae n P=some m):m<n∧P m=true:=by
 unfold Ae at h
 exact⟨MF.1 (List.mem_of_find?_eq_some h),List.find?_some h⟩
theorem Ko{σ ρ:Type}(f:σ→Option (σ⊕ρ))(st:Nat→σ)(n:Nat)(P:Nat→Bool)(hit:Nat→ρ)(miss:ρ)
  (h: ∀i,i<n→f (st i)=if P i=true then some (.inr (hit i))else some (.inl (st (i+1))))(e:f (st n)=some (.inr miss)):
  Im f (st 0)=some (match Ae n P with|some i=>hit i|none=>miss):=by
 by_cases hp: ∀i,i<n→(!P i)=true
 ·have h0: ∀i,i<n→P i=false:=fun i hi=>by simpa using hp i hi
  rw [KI h0];exact CF f st n miss (fun i hi=>by rw [h i hi,h0 i hi,if_neg (by decide)]) e
 ·obtain⟨m,hm,hpm,h0⟩:=Om hp;have hpm':P m=true:=by simpa using hpm
  have h0': ∀i,i<m→P i=false:=fun i hi=>by simpa using h0 i hi
  rw [Me hm hpm' h0'];exact CF f st m (hit m) (fun i hi=>by rw [h i (by omega),h0' i hi,if_neg (by decide)]) (by rw [h m hm,if_pos hpm'])
theorem Bg{n:Nat}{P:Nat→Bool}:(Ae n P).isSome=true↔ ∃i,i<n∧P i=true:=by
 constructor
 ·intro h
  cases hq:Ae n P with
  |none=>rw [hq]at h;cases h
  |some m=>exact⟨m,Cu hq⟩
 ·rintro⟨i,hi,hp⟩
  cases hq:Ae n P with
  |some m=>rfl
  |none=>
   unfold Ae at hq;rw [ct]at hq;exact absurd hp (hq i (MF.2 hi))
theorem LW{n m:Nat}{P:Nat→Bool}(h:Ae n P=some m): ∀i,i<m→P i=false:=by
 unfold Ae at h;rw [List.find?_range_eq_some]at h;intro i hi;simpa using h.2.2 i hi
theorem jT(m:List (AL×Int))(k k':AL)(v:Int)(h:(J4 m k).2=false):J4 (m++[(k,v)]) k'=if k'=k then(v,true)else J4 m k':=by
 unfold J4 at h ⊢;rw [List.find?_append];by_cases e:k'=k
 ·subst e
  cases hf:m.find? (fun p=>p.1==k')with
  |some p=>rw [hf]at h;cases h
  |none=>simp
 ·rw [if_neg e];have e2:(k==k')=false:=by simpa using fun c:k=k'=>e c.symm
  cases hf:m.find? (fun p=>p.1==k')with
  |some p=>simp
  |none=>simp [e2]
theorem jU(m:List (AL×Int))(k:AL)(v:Int)(h:(J4 m k).2=false):Ta m k v=m++[(k,v)]:=by
 unfold Ta
 have:m.findIdx? (fun p=>p.1==k)=none:=by
  rw [List.findIdx?_eq_none_iff];intro x hx;unfold J4 at h
  cases hf:m.find? (fun p=>p.1==k)with
  |some p=>rw [hf]at h;cases h
  |none=>rw [ct]at hf;simpa using hf x hx
 rw [this]
theorem Mf(n:Nat)(P:Nat→Bool):Ae (n+1) P=match Ae n P with|some u=>some u|none=>if P n=true then some n else none:=by
 unfold Ae;rw [List.range_succ,List.find?_append]
 cases (an n).find? P with
 |some u=>rfl
 |none=>
  cases hp:P n
  ·simp [hp]
  ·simp [hp]
theorem Gx{n:Nat}{P Q:Nat→Bool}(h: ∀i,i<n→P i=Q i):Ae n P=Ae n Q:=by
 induction n with
 |zero=>rfl
 |succ n ih=>rw [Mf,Mf,ih fun i hi=>h i (by omega),h n (by omega)]
theorem Ig{n:Nat}{P:Nat→Bool}(h:Ae n P=none): ∀i,i<n→P i=false:=by
 intro i hi
 cases hp:P i with
 |false=>rfl
 |true=>have:=Bg.2 ⟨i,hi,hp⟩;rw [h]at this;cases this
def cl(K:Nat→AL):Nat→AL×Nat
 |0=>([],0)
 |v+1=>match Ae v (fun u=>K u==K v)with
  |some u=>((cl K v).1++[(cl K v).1.getD u be],(cl K v).2)
  |none=>((cl K v).1++[((cl K v).2:Int)],(cl K v).2+1)
def cv(K:Nat→AL)(v:Nat):Int:=(cl K (v+1)).1.getD v be
theorem S9{K:Nat→AL}{v u:Nat}(h:Ae v (fun u=>K u==K v)=some u):cl K (v+1)=((cl K v).1++[(cl K v).1.getD u be],(cl K v).2):=by rw [cl,h]
theorem SA{K:Nat→AL}{v:Nat}(h:Ae v (fun u=>K u==K v)=none):cl K (v+1)=((cl K v).1++[((cl K v).2:Int)],(cl K v).2+1):=by rw [cl,h]
theorem Mg(K:Nat→AL): ∀v,(cl K v).1.length=v
 |0=>rfl
 |v+1=>by
  have:=Mg K v
  cases h:Ae v (fun u=>K u==K v)with
  |some u=>rw [S9 h];simp [this]
  |none=>rw [SA h];simp [this]
theorem Qi{l m:AL}{i:Nat}(h:i<l.length):(l++m).getD i be=l.getD i be:=by
 rw [K5,ND h,K5]
theorem A2i(K:Nat→AL)(v u:Nat)(h:u<v):(cl K (v+1)).1.getD u be=(cl K v).1.getD u be:=by
 have hl:=Mg K v
 cases hf:Ae v (fun u=>K u==K v)with
 |some f=>rw [S9 hf];exact Qi (by omega)
 |none=>rw [SA hf];exact Qi (by omega)
theorem Ur(K:Nat→AL): ∀(v u:Nat),u<v→(cl K v).1.getD u be=cv K u
 |0,u,h=>by omega
 |v+1,u,h=>by
  by_cases e:u=v
  ·subst e;rfl
  ·rw [A2i K v u (by omega),Ur K v u (by omega)]
theorem OC{K:Nat→AL}{v u:Nat}(h:Ae v (fun u=>K u==K v)=some u):cv K v=cv K u:=by
 have hl:=Mg K v;have hu:=(Cu h).1;unfold cv;rw [S9 h]
 show((cl K v).1++[(cl K v).1.getD u be]).getD v be=_
 rw [K5,NC (by omega),hl,cj]
 show(cl K v).1.getD u be=_
 rw [Ur K v u hu];rfl
theorem Mh{K:Nat→AL}{v:Nat}(h:Ae v (fun u=>K u==K v)=none):cv K v=((cl K v).2:Int):=by
 have hl:=Mg K v;unfold cv;rw [SA h]
 show((cl K v).1++[((cl K v).2:Int)]).getD v be=_
 rw [K5,NC (by omega),hl,cj]
 rfl
theorem Y2(K:Nat→AL)(v:Nat):(cl K (v+1)).1=(cl K v).1++[cv K v]:=by
 cases h:Ae v (fun u=>K u==K v)with
 |some u=>rw [S9 h,OC h,Ur K v u (Cu h).1]
 |none=>rw [SA h,Mh h]
theorem Us(K:Nat→AL): ∀v,(cl K v).1=(an v).map (cv K)
 |0=>rfl
 |v+1=>by rw [Y2,Us K v,List.range_succ,List.map_append];rfl
theorem Mi(K:Nat→AL)(v:Nat):(cl K (v+1)).2=match Ae v (fun u=>K u==K v)with|some _=>(cl K v).2|none=>(cl K v).2+1:=by
 rw [cl]
 split<;>rfl
theorem fw(K:Nat→AL): ∀v,(cl K v).2≤v
 |0=>IB _
 |v+1=>by
  have:=fw K v
  rw [Mi];split
  ·exact Nat.le_succ_of_le this
  ·exact Nat.succ_le_succ this
theorem dK(K:Nat→AL): ∀v,(∀u,u<v→0≤cv K u∧cv K u<((cl K v).2:Int))∧ ∀u w,u<v→w<v→(cv K u=cv K w↔K u=K w)
 |0=>⟨fun u h=>by omega,fun u w h=>by omega⟩
 |v+1=>by
  obtain⟨h1,h2⟩:=dK K v;have hm:=Mi K v
  cases hf:Ae v (fun u=>K u==K v)with
  |some f=>
   have hfv:=(Cu hf).1;have hk:K f=K v:=by simpa using (Cu hf).2
   have hc:=OC hf;rw [hf]at hm
   refine⟨fun u hu=> ?_, ?_⟩
   ·rw [hm];by_cases e:u=v
    ·subst e;rw [hc];exact h1 f hfv
    ·exact h1 u (by omega)
   ·have key: ∀u,u<v→(cv K u=cv K v↔K u=K v):=fun u hu=>by rw [hc,←hk];exact h2 u f hu hfv
    intro u w hu hw;by_cases eu:u=v
    ·subst eu;by_cases ew:w=u
     ·subst ew;simp
     ·exact⟨fun h=>((key w (by omega)).1 h.symm).symm,fun h=>((key w (by omega)).2 h.symm).symm⟩
    ·by_cases ew:w=v
     ·subst ew;exact key u (by omega)
     ·exact h2 u w (by omega) (by omega)
  |none=>
   have hno:=Ig hf;have hc:=Mh hf;rw [hf]at hm;simp only at hm
   refine⟨fun u hu=> ?_, ?_⟩
   ·rw [hm];by_cases e:u=v
    ·subst e;rw [hc];omega
    ·have:=h1 u (by omega);omega
   ·have key: ∀u,u<v→(cv K u=cv K v↔K u=K v):=fun u hu=>by
     have a:=h1 u hu;have b:=hno u hu
     refine⟨fun h=>by rw [hc]at h;omega,fun h=> ?_⟩
     rw [h]at b;simp at b
    intro u w hu hw;by_cases eu:u=v
    ·subst eu;by_cases ew:w=u
     ·subst ew;simp
     ·exact⟨fun h=>((key w (by omega)).1 h.symm).symm,fun h=>((key w (by omega)).2 h.symm).symm⟩
    ·by_cases ew:w=v
     ·subst ew;exact key u (by omega)
     ·exact h2 u w (by omega) (by omega)
theorem Ut(K:Nat→AL)(u w:Nat):cv K u=cv K w↔K u=K w:=(dK K (u+w+1)).2 u w (by omega) (by omega)
theorem o5(K:Nat→AL)(v u:Nat)(h:u<v):0≤cv K u∧cv K u<((cl K v).2:Int):=(dK K v).1 u h
def GN(l:AL):Int:=l.foldl (fun a x=>max a (x+1)) 0
theorem WT(l:AL)(x:Int):GN (l++[x])=max (GN l) (x+1):=by unfold GN;rw [List.foldl_append];rfl
theorem gB(K:Nat→AL): ∀v,GN (cl K v).1=((cl K v).2:Int)
 |0=>rfl
 |v+1=>by
  have hm:=Mi K v;rw [Y2,WT,gB K v]
  cases hf:Ae v (fun u=>K u==K v)with
  |some f=>
   rw [hf]at hm;have:=o5 K v f (Cu hf).1
   rw [OC hf,hm];simp only;omega
  |none=>
   rw [hf]at hm;have hm:(cl K (v+1)).2=(cl K v).2+1:=hm;rw [Mh hf,hm];omega
theorem gD{K K':Nat→AL}: ∀v,(∀u w,u<v→w<v→K' u=K' w→K u=K w)→(cl K v).2≤(cl K' v).2
 |0,_=>IB _
 |v+1,h=>by
  have ih:=gD v fun u w hu hw=>h u w (by omega) (by omega)
  rw [Mi,Mi]
  cases hf:Ae v (fun u=>K u==K v)with
  |some f=>simp only;cases Ae v (fun u=>K' u==K' v)<;>simp only<;>omega
  |none=>
   have hno:=Ig hf
   have:Ae v (fun u=>K' u==K' v)=none:=KI fun i hi=>by
    have:=hno i hi
    cases hb:(K' i==K' v)with
    |false=>rfl
    |true=>rw [h i v (by omega) (by omega) (by simpa using hb)]at this;simp at this
   rw [this];simp only;omega
def Qj(K:Nat→AL):Nat→List (AL×Int)
 |0=>[]
 |v+1=>match Ae v (fun u=>K u==K v)with
  |some _=>Qj K v
  |none=>Qj K v++[(K v,((cl K v).2:Int))]
theorem SB(K:Nat→AL): ∀(v:Nat) (k:AL),J4 (Qj K v) k=match Ae v (fun u=>K u==k)with|some u=>(cv K u,true)|none=>(0,false)
 |0,k=>rfl
 |v+1,k=>by
  have ih:=SB K v;rw [Mf]
  cases hf:Ae v (fun u=>K u==K v)with
  |some f=>
   rw [show Qj K (v+1)=Qj K v by rw [Qj,hf],ih k]
   cases hk:Ae v (fun u=>K u==k)with
   |some u=>rfl
   |none=>
    have hno:=Ig hk f (Cu hf).1;have he:K f=K v:=by simpa using (Cu hf).2
    rw [he]at hno;simp only [hno];rfl
  |none=>
   have h0:(J4 (Qj K v) (K v)).2=false:=by rw [ih,hf]
   rw [show Qj K (v+1)=Qj K v++[(K v,((cl K v).2:Int))] by rw [Qj,hf],jT _ _ _ _ h0]
   by_cases e:k=K v
   ·subst e;rw [if_pos rfl,hf];simp only [beq_self_eq_true,if_true,Mh hf]
   ·rw [if_neg e,ih k];have e2:(K v==k)=false:=by simpa using fun c:K v=k=>e c.symm
    cases hk:Ae v (fun u=>K u==k)with
    |some u=>rfl
    |none=>simp only [e2];rfl
theorem SE(K:Nat→AL): ∀v,(Qj K v).length=(cl K v).2
 |0=>rfl
 |v+1=>by
  have ih:=SE K v;rw [Mi,Qj]
  split<;>simp [ih]
theorem gF(K:Nat→AL)(v:Nat)(h:Ae v (fun u=>K u==K v)=none):Ta (Qj K v) (K v) ((Qj K v).length:Int)=Qj K (v+1):=by
 rw [jU _ _ _ (by rw [SB,h]),SE,Qj,h]
theorem o6(l:AL)(n:Nat)(x:Int)(hi:l.length<n):(l++ao (n-l.length) 0).set l.length x=(l++[x])++ao (n-(l.length+1)) 0:=by
 rw [List.set_append_right _ _ (IB _),cj,show n-l.length=(n-(l.length+1))+1 by omega,gQ,List.set_cons_zero,P8]
 rfl
def Rk(E:Am)(v i:Nat):Int:=BJ (E.getD v be) i
def Y3(E:Am)(v i:Nat):Int:=CO (E.getD v be) i
def Ff(E:Am)(v:Nat):Nat:=(E.getD v be).length
def gk(E:Am)(ins c:AL)(v i j:Nat):Int:=
 if j=0 then(Ff E v:Int)else if j=1 then ins.getD v be else
 if(j-2) / 2<i then(if j % 2=0 then Y3 E v ((j-2) / 2)else c.getD (Rk E v ((j-2) / 2)).toNat be)else 0
def Y4(E:Am)(ins c:AL)(v i:Nat):AL:=(an 14).map (gk E ins c v i)
def Kc(E:Am)(ins c:AL)(v:Nat):AL:=Y4 E ins c v (if c.isEmpty then 0 else Ff E v)
def JO(E:Am)(ins:AL):Prop:=1≤E.length∧E.length≤40∧ins.length=E.length∧(∀v,v<E.length→Ff E v≤6)∧ ∀v i,v<E.length→i<Ff E v→0≤Rk E v i∧(Rk E v i).toNat<E.length
theorem o7(E:Am)(ins c:AL)(v:Nat):Y4 E ins c v 0=[(Ff E v:Int),ins.getD v be,0,0,0,0,0,0,0,0,0,0,0,0]:=rfl
theorem Y5(E:Am)(ins c:AL)(v i:Nat):(Y4 E ins c v i).length=14:=by simp [Y4]
theorem o8(E:Am)(ins c:AL)(v i:Nat)(hi:i<6):((Y4 E ins c v i).set (2+2*i) (Y3 E v i)).set (3+2*i) (c.getD (Rk E v i).toNat be)=Y4 E ins c v (i+1):=by
 refine List.ext_getElem (by simp [Y4]) (fun j h1 h2=> ?_)
 have hj:j<14:=by simpa [Y4] using h2
 rw [List.getElem_set];split
 ·rename_i e
  subst e;simp only [Y4,cq,WW,gk];rw [if_neg (by omega),if_neg (by omega),if_pos (by omega),if_neg (by omega),show(3+2*i-2) / 2=i by omega]
 ·rename_i e
  rw [List.getElem_set];split
  ·rename_i e2
   subst e2;simp only [Y4,cq,WW,gk];rw [if_neg (by omega),if_neg (by omega),if_pos (by omega),if_pos (by omega),show(2+2*i-2) / 2=i by omega]
  ·rename_i e2
   simp only [Y4,cq,WW,gk];by_cases h0:j=0
   ·rw [if_pos h0,if_pos h0]
   ·rw [if_neg h0,if_neg h0];by_cases h3:j=1
    ·rw [if_pos h3,if_pos h3]
    ·rw [if_neg h3,if_neg h3];by_cases h4:(j-2) / 2<i
     ·rw [if_pos h4,if_pos (show(j-2) / 2<i+1 by omega)]
     ·rw [if_neg h4,if_neg (show ¬(j-2) / 2<i+1 by omega)]
def alk(E:Am)(ins c:AL)(u v:Nat):Prop:=
 Ff E u=Ff E v∧ins.getD u be=ins.getD v be∧(c≠[]→ ∀i,i<Ff E u→Y3 E u i=Y3 E v i∧c.getD (Rk E u i).toNat be=c.getD (Rk E v i).toNat be)
theorem sP{E:Am}{ins c:AL}{u v i k:Nat}:Y4 E ins c u i=Y4 E ins c v k↔ ∀j,j<14→gk E ins c u i j=gk E ins c v k j:=by
 unfold Y4
 constructor
 ·intro h j hj;have:=congrArg (fun l=>l[j]?) h
  simpa [gP hj] using this
 ·intro h;exact List.map_congr_left fun j hj=>h j (MF.1 hj)
theorem Uu{E:Am}{ins c:AL}{u v:Nat}(hu:Ff E u≤6)(hv:Ff E v≤6):Kc E ins c u=Kc E ins c v↔alk E ins c u v:=by
 unfold Kc;rw [sP]
 cases c with
 |nil=>
  simp only [List.isEmpty_nil,if_true]
  constructor
  ·intro h;have h0:=h 0 (by omega)
   have h1:=h 1 (by omega)
   simp only [gk]at h0 h1;have h0:(Ff E u:Int)=(Ff E v:Int):=by simpa using h0
   exact⟨by omega,by simpa using h1,fun hc=>(hc rfl).elim⟩
  ·rintro⟨h0,h1,_⟩ j hj
   simp only [gk,h0,h1,Nat.not_lt_zero,if_false]
 |cons x xs=>
  simp only [List.isEmpty_cons,JF,if_false]
  constructor
  ·intro h;have h0:=h 0 (by omega)
   have h1:=h 1 (by omega)
   simp only [gk]at h0 h1;have hd:(Ff E u:Int)=(Ff E v:Int):=by simpa using h0
   have hd:Ff E u=Ff E v:=by omega
   refine⟨hd,by simpa using h1,fun _ i hi=>⟨?_, ?_⟩⟩
   ·have:=h (2+2*i) (by omega)
    simp only [gk]at this;rw [if_neg (by omega),if_neg (by omega),if_pos (by omega),if_pos (by omega),if_neg (by omega),if_neg (by omega),if_pos (by omega),if_pos (by omega),show(2+2*i-2) / 2=i by omega]at this
    exact this
   ·have:=h (3+2*i) (by omega)
    simp only [gk]at this;rw [if_neg (by omega),if_neg (by omega),if_pos (by omega),if_neg (by omega),if_neg (by omega),if_neg (by omega),if_pos (by omega),if_neg (by omega),show(3+2*i-2) / 2=i by omega]at this
    exact this
  ·rintro⟨hd,h1,h2⟩ j hj
   have h2:=h2 (by simp)
   simp only [gk];by_cases e0:j=0
   ·rw [if_pos e0,if_pos e0,hd]
   ·rw [if_neg e0,if_neg e0];by_cases e1:j=1
    ·rw [if_pos e1,if_pos e1,h1]
    ·rw [if_neg e1,if_neg e1];by_cases e2:(j-2) / 2<Ff E u
     ·obtain⟨q1,q2⟩:=h2 _ e2;rw [if_pos e2,if_pos (show(j-2) / 2<Ff E v by omega),q1,q2]
     ·rw [if_neg e2,if_neg (show ¬(j-2) / 2<Ff E v by omega)]
def Ju(E:Am)(ins c:AL):AL:=(cl (Kc E ins c) E.length).1
theorem o9{E:Am}{ins:AL}(hN:JO E ins)(ids c:AL)(hc:c.length=E.length)(t5:List (AL×Int))(t6:AL)(v:Nat)(hv:v<E.length):
  EW E ids ins c t5 t6 (v:Int) (Y4 E ins c v 0,0)=some (Y4 E ins c v (Ff E v)):=by
 obtain⟨h1,h40,hin,hd,hp⟩:=hN;have hd6:=hd v hv;have key:=CF (fun w=>De E ids ins c t5 t6 (v:Int) w.1 w.2) (fun i=>(Y4 E ins c v i,(i:Int))) (Ff E v) (Y4 E ins c v (Ff E v)) (fun i hi=> ?_) ?_
 ·unfold EW;exact key
 ·obtain⟨q1,q2⟩:=hp v i hv hi;have hn:0≤BJ (E.getD v be) i∧(BJ (E.getD v be) i).toNat<c.length:=⟨q1,by rw [hc];exact q2⟩
  have e1:ca.wrap (2*(i:Int))=((2*i:Nat):Int):=by rw [Lb _ (by omega)];omega
  have e2:ca.wrap (2+((2*i:Nat):Int))=((2+2*i:Nat):Int):=by rw [Lb _ (by omega)];omega
  have e3:ca.wrap (3+((2*i:Nat):Int))=((3+2*i:Nat):Int):=by rw [Lb _ (by omega)];omega
  have hi':i<(E.getD v be).length:=hi;simp only [De,K4,e1,e2,e3];rw [if_pos (Bc hi'),Br ⟨by omega,hi'⟩,Br (by omega),Br hn,Br (by omega),Br (by rw [Y5];omega),Br (by omega),Br (by rw [Y5];omega),Kb i (by omega)]
  have:=o8 E ins c v i (by omega)
  unfold Y3 Rk at this;rw [this]
 ·simp only [De,K4];rw [if_neg (show ¬(Ff E v:Int)<((E.getD v be).length:Int)from Ap _)]
theorem OD(K:Nat→AL)(n i:Nat)(hi:i<n)(x:Int)(hx:x=cv K i):((cl K i).1++ao (n-i) 0).set i x=(cl K (i+1)).1++ao (n-(i+1)) 0:=by
 have hl:=Mg K i;have:=o6 (cl K i).1 n x (by omega)
 rw [hl]at this;rw [this,Y2,hx]
theorem dL{E:Am}{ins:AL}(hN:JO E ins)(ids c:AL)(hc:c.length=E.length):
  FX E ids ins c ([],ao E.length 0,0)=some (Ju E ins c):=by
 have hN':=hN;obtain⟨h1,h40,hin,hd,hp⟩:=hN;have hne:c.isEmpty=false:=by cases c with|nil=>simp at hc;omega|cons=>rfl
 have hK: ∀v,Kc E ins c v=Y4 E ins c v (Ff E v):=fun v=>by unfold Kc;rw [hne];rfl
 have key:=CF (fun w=>Df E ids ins c w.1 w.2.1 w.2.2) (fun i=>(Qj (Kc E ins c) i,(cl (Kc E ins c) i).1++ao (E.length-i) 0,(i:Int))) E.length (Ju E ins c) (fun i hi=> ?_) ?_
 ·unfold FX;exact key
 ·have hlen:i<((cl (Kc E ins c) i).1++ao (E.length-i) 0).length:=by rw [Kt,Mg,Zx];omega
  have hk0:=o9 hN' ids c hc (Qj (Kc E ins c) i) ((cl (Kc E ins c) i).1++ao (E.length-i) 0) i hi;rw [o7,←hK i]at hk0;have hk0:EW E ids ins c (Qj (Kc E ins c) i) ((cl (Kc E ins c) i).1++ao (E.length-i) 0) (i:Int) ([((E.getD i be).length:Int),ins.getD i be,0,0,0,0,0,0,0,0,0,0,0,0],0)=some (Kc E ins c i):=hk0;have hl14:(Kc E ins c i).length=14:=by rw [hK];exact Y5 _ _ _ _ _
  simp only [Df,K4];rw [if_pos (Bc hi),Br ⟨by omega,hi⟩,Br ⟨by omega,by omega⟩,hk0,Ce,Br (show(Kc E ins c i).length≤14∧14≤(Kc E ins c i).length by omega),SB,Kb i (by omega)]
  cases hf:Ae i (fun u=>Kc E ins c u==Kc E ins c i)with
  |some f=>
   simp only [if_true];rw [Br ⟨by omega,hlen⟩,OD _ _ _ hi _ (OC hf).symm]
   rw [show Qj (Kc E ins c) (i+1)=Qj (Kc E ins c) i by rw [Qj,hf]]
  |none=>
   simp only [JF,if_false];rw [Br ⟨by omega,hlen⟩,gF _ _ hf,OD _ _ _ hi _ (by rw [Mh hf,SE])]
 ·simp only [Df];rw [if_neg (Ap _),cj,cw,V3];rfl
theorem dM{E:Am}{ins:AL}(hN:JO E ins)(ids c:AL)(hc:c.length=E.length):Gp E ids ins c=some (Ju E ins c):=by
 have h40:=hN.2.1;unfold Gp;rw [Br (by omega),dL hN ids c hc,Ce]
theorem jV{E:Am}{ins:AL}(hN:JO E ins)(ids:AL)(t5:List (AL×Int))(t6:AL)(v:Nat)(hv:v<E.length):
  Dw E ids ins t5 t6 (v:Int) 0=some ():=by
 obtain⟨h1,h40,hin,hd,hp⟩:=hN;have hd6:=hd v hv;have key:=CF (fun w=>CZ E ids ins t5 t6 (v:Int) w) (fun i=>(i:Int)) (Ff E v) () (fun i hi=> ?_) ?_
 ·unfold Dw;exact key
 ·have hi':i<(E.getD v be).length:=hi;simp only [CZ,K4];rw [if_pos (Bc hi'),Br ⟨by omega,hi'⟩,Kb i (by omega)]
 ·simp only [CZ,K4];rw [if_neg (show ¬(Ff E v:Int)<((E.getD v be).length:Int)from Ap _)]
theorem Zi{E:Am}{ins:AL}(hN:JO E ins)(ids:AL):
  Dx E ids ins ([],ao E.length 0,0)=some (Ju E ins []):=by
 have hN':=hN;obtain⟨h1,h40,hin,hd,hp⟩:=hN;have hK: ∀v,Kc E ins [] v=[((E.getD v be).length:Int),ins.getD v be,0,0,0,0,0,0,0,0,0,0,0,0]:=fun v=>rfl;have key:=CF (fun w=>Ca E ids ins w.1 w.2.1 w.2.2) (fun i=>(Qj (Kc E ins []) i,(cl (Kc E ins []) i).1++ao (E.length-i) 0,(i:Int))) E.length (Ju E ins []) (fun i hi=> ?_) ?_
 ·unfold Dx;exact key
 ·have hlen:i<((cl (Kc E ins []) i).1++ao (E.length-i) 0).length:=by rw [Kt,Mg,Zx];omega
  have hk0:=jV hN' ids (Qj (Kc E ins []) i) ((cl (Kc E ins []) i).1++ao (E.length-i) 0) i hi;simp only [Ca,K4];rw [if_pos (Bc hi),Br ⟨by omega,hi⟩,Br ⟨by omega,by omega⟩,hk0,Ce,←hK i,SB,Kb i (by omega)]
  cases hf:Ae i (fun u=>Kc E ins [] u==Kc E ins [] i)with
  |some f=>
   simp only [if_true];rw [Br ⟨by omega,hlen⟩,OD _ _ _ hi _ (OC hf).symm]
   rw [show Qj (Kc E ins []) (i+1)=Qj (Kc E ins []) i by rw [Qj,hf]]
  |none=>
   simp only [JF,if_false];rw [Br ⟨by omega,hlen⟩,gF _ _ hf,OD _ _ _ hi _ (by rw [Mh hf,SE])]
 ·simp only [Ca];rw [if_neg (Ap _),cj,cw,V3];rfl
theorem oD{E:Am}{ins:AL}(hN:JO E ins)(ids:AL):EA E ids ins=some (Ju E ins []):=by
 have h40:=hN.2.1;unfold EA;rw [Br (by omega),Zi hN ids,Ce]
def dN(E:Am)(c:AL)(u v i:Nat):Bool:=decide (Y3 E u i=Y3 E v i)&&decide (c.getD (Rk E u i).toNat be=c.getD (Rk E v i).toNat be)
def Zj(E:Am)(ins c:AL)(u v:Nat):Bool:=decide ((Ff E u:Int)=(Ff E v:Int))&&(decide (ins.getD u be=ins.getD v be)&&(an (Ff E u)).all (fun i=>c.isEmpty||dN E c u v i))
theorem oG{E:Am}{ins c:AL}{u v:Nat}:Zj E ins c u v=true↔alk E ins c u v:=by
 unfold Zj alk;rw [FM,FM,decide_eq_true_eq,decide_eq_true_eq,GV]
 constructor
 ·rintro⟨h1,h2,h3⟩
  refine⟨by omega,h2,fun hc i hi=> ?_⟩
  have:=h3 i hi
  rw [show c.isEmpty=false by cases c with|nil=>exact(hc rfl).elim|cons=>rfl,SK]at this
  unfold dN at this;simpa using this
 ·rintro⟨h1,h2,h3⟩
  refine⟨by omega,h2,fun i hi=> ?_⟩
  cases c with
  |nil=>rfl
  |cons x xs=>
   obtain⟨a,b⟩:=h3 (by simp) i hi
   rw [List.isEmpty_cons,SK];unfold dN;rw [a,b];simp
theorem AF8{E:Am}{ins c:AL}{u v:Nat}(hu:Ff E u≤6)(hv:Ff E v≤6):(Kc E ins c u==Kc E ins c v)=Zj E ins c u v:=by
 rw [QH,oG,←Uu hu hv];simp
theorem oH{E:Am}{ins:AL}(hN:JO E ins)(ids c:AL)(hc:c=[]∨c.length=E.length)(u v:Nat)(hu:u<E.length)(hv:v<E.length):
  M7 E ids ins c (u:Int) (v:Int)=some (Zj E ins c u v):=by
 obtain⟨h1,h40,hin,hd,hp⟩:=hN;have hdu:=hd u hu;unfold M7 Zj;simp only [K4];rw [Br ⟨by omega,hu⟩,Br ⟨by omega,hv⟩]
 by_cases q1:(Ff E u:Int)=(Ff E v:Int)
 ·rw [if_pos (show((E.getD u be).length:Int)=((E.getD v be).length:Int)from q1),Br ⟨by omega,by omega⟩,Br ⟨by omega,by omega⟩,decide_eq_true q1,P9]
  by_cases q2:ins.getD u be=ins.getD v be
  ·rw [if_pos q2,decide_eq_true q2,P9];have key:=IZ (fun w=>FY E ids ins c (u:Int) (v:Int) w) (fun i=>(i:Int)) (Ff E u) (fun i=>c.isEmpty||dN E c u v i) (.inl ()) (.inr ()) (fun i hi=> ?_) ?_
   ·rw [show JC E ids ins c (u:Int) (v:Int) 0=some (if(an (Ff E u)).all (fun i=>c.isEmpty||dN E c u v i)=true then .inr ()else .inl ())from by unfold JC;exact key,Ce]
    cases (an (Ff E u)).all (fun i=>c.isEmpty||dN E c u v i)<;>rfl
   ·have hi1:i<(E.getD u be).length:=hi
    have hi2:i<(E.getD v be).length:=by
     have:Ff E u=Ff E v:=by omega
     unfold Ff at this;omega
    simp only [FY,K4];rw [if_pos (Bc hi1),Br ⟨by omega,hi1⟩,Br ⟨by omega,hv⟩,Br ⟨by omega,hi2⟩,Kb i (by omega)]
    rcases hc with rfl|hc
    ·rw [if_neg (by simp)];rfl
    ·rw [if_pos (by omega)]
     have he:c.isEmpty=false:=by cases c with|nil=>simp at hc;omega|cons=>rfl
     have p1:=hp u i hu hi;have p2:=hp v i hv hi2;rw [he,SK];unfold dN;by_cases r1:Y3 E u i=Y3 E v i
     ·rw [if_pos (show CO (E.getD u be) i=CO (E.getD v be) i from r1),Br (show 0≤BJ (E.getD u be) i∧(BJ (E.getD u be) i).toNat<c.length from⟨p1.1,by rw [hc];exact p1.2⟩),
       Br (show 0≤BJ (E.getD v be) i∧(BJ (E.getD v be) i).toNat<c.length from⟨p2.1,by rw [hc];exact p2.2⟩),decide_eq_true r1,P9]
      by_cases r2:c.getD (Rk E u i).toNat be=c.getD (Rk E v i).toNat be
      ·rw [if_pos (show c.getD (BJ (E.getD u be) i).toNat be=c.getD (BJ (E.getD v be) i).toNat be from r2),decide_eq_true r2,if_pos rfl]
      ·rw [if_neg (show ¬c.getD (BJ (E.getD u be) i).toNat be=c.getD (BJ (E.getD v be) i).toNat be from r2),decide_eq_false r2,if_neg (by decide)]
     ·rw [if_neg (show ¬CO (E.getD u be) i=CO (E.getD v be) i from r1),decide_eq_false r1,Bool.false_and,if_neg (by decide)]
   ·simp only [FY,K4];rw [if_neg (show ¬(Ff E u:Int)<((E.getD u be).length:Int)from Ap _)]
  ·rw [if_neg q2,decide_eq_false q2];rfl
 ·rw [if_neg (show ¬((E.getD u be).length:Int)=((E.getD v be).length:Int)from q1),decide_eq_false q1];rfl
theorem dO{E:Am}{ins:AL}(hN:JO E ins)(ids c:AL)(hc:c=[]∨c.length=E.length)(out:AL)(many:Int)(i:Nat)(hi:i<E.length):
  Ik E ids ins c out many (i:Int) (-1,0)=some (match Ae i (fun u=>Zj E ins c u i)with|some f=>(f:Int)|none=> -1):=by
 have h40:=hN.2.1
 have step: ∀j,j<i→Cm E ids ins c out many (i:Int) (-1) (j:Int)=if Zj E ins c j i=true then some (.inl ((j:Int),((j+1:Nat):Int)))else some (.inl (-1,((j+1:Nat):Int))):=fun j hj=>by
  simp only [Cm];rw [if_pos (Bc hj),if_pos (by decide),oH hN ids c hc j i (by omega) hi,Ce,Kb j (by omega)]
 cases hf:Ae i (fun u=>Zj E ins c u i)with
 |none=>
  have hno:=Ig hf;have key:=CF (fun w=>Cm E ids ins c out many (i:Int) w.1 w.2) (fun j=>((-1:Int),(j:Int))) i (-1) (fun j hj=> ?_) ?_
  ·unfold Ik;exact key
  ·show Cm E ids ins c out many (i:Int) (-1) (j:Int)=_
   rw [step j hj,hno j hj,if_neg (by decide)]
  ·simp only [Cm];rw [if_neg (Ap _)]
 |some f=>
  have hfi:=Cu hf;have hmin:=LW hf;have key:=CF (fun w=>Cm E ids ins c out many (i:Int) w.1 w.2) (fun j=>if j≤f then((-1:Int),(j:Int))else((f:Int),((f+1:Nat):Int))) (f+1) (f:Int) (fun j hj=> ?_) ?_
  ·unfold Ik;exact key
  ·rw [if_pos (by omega)]
   show Cm E ids ins c out many (i:Int) (-1) (j:Int)=_
   rw [step j (by omega)]
   by_cases e:j=f
   ·subst e;rw [hfi.2,if_pos rfl,if_neg (by omega)]
   ·rw [hmin j (by omega),if_neg (by decide),if_pos (by omega)]
  ·rw [if_neg (by omega)]
   simp only [Cm];by_cases e:((f+1:Nat):Int)<(i:Int)
   ·rw [if_pos e,if_neg (by omega)]
   ·rw [if_neg e]
theorem gG{E:Am}{ins:AL}(hN:JO E ins)(ids c:AL)(hc:c=[]∨c.length=E.length):Kk E ids ins c=some (Ju E ins c):=by
 have hN':=hN;obtain⟨h1,h40,hin,hd,hp⟩:=hN;have key:=CF (fun w=>Gq E ids ins c w.1 w.2.1 w.2.2) (fun i=>((cl (Kc E ins c) i).1++ao (E.length-i) 0,((cl (Kc E ins c) i).2:Int),(i:Int))) E.length (Ju E ins c) (fun i hi=> ?_) ?_
 ·unfold Kk;rw [Br (by omega),show Jp E ids ins c (ao E.length 0,0,0)=_ from by unfold Jp;exact key,Ce]
 ·have hl:=Mg (Kc E ins c) i;have hlen:i<((cl (Kc E ins c) i).1++ao (E.length-i) 0).length:=by rw [Kt,hl,Zx];omega
  have hm:=Mi (Kc E ins c) i;have hle:=fw (Kc E ins c) i;simp only [Gq,K4]
  rw [if_pos (Bc hi),dO hN' ids c hc _ _ i hi,Ce,Kb i (by omega),
   ←Gx (P:=fun u=>Kc E ins c u==Kc E ins c i) (fun u hu=>AF8 (hd u (by omega)) (hd i hi))]
  cases hf:Ae i (fun u=>Kc E ins c u==Kc E ins c i)with
  |some f=>
   have hfi:=(Cu hf).1;rw [hf]at hm;simp only at hm;simp only [K4];rw [if_pos (by omega),Br ⟨by omega,by omega⟩,Br ⟨by omega,hlen⟩,Qi (by omega),Ur _ _ _ hfi,OD _ _ _ hi _ (OC hf).symm,hm]
  |none=>
   rw [hf]at hm;have hm:(cl (Kc E ins c) (i+1)).2=(cl (Kc E ins c) i).2+1:=hm;simp only;rw [if_neg (by decide),Br ⟨by omega,hlen⟩,OD _ _ _ hi _ (Mh hf).symm,hm,Kb _ (by omega)]
 ·simp only [Gq];rw [if_neg (Ap _),cj,cw,V3];rfl
def Kr(E:Am)(ins:AL):Nat→AL
 |0=>Ju E ins []
 |t+1=>Ju E ins (Kr E ins t)
theorem Ic(E:Am)(ins:AL)(t:Nat):(Kr E ins t).length=E.length:=by cases t<;>exact Mg _ _
theorem sQ{E:Am}{ins:AL}(hN:JO E ins)(ids:AL)(t:Nat)(ht:t≤1000):Fp E ids ins (t:Int)=some (Kr E ins t):=by
 have key:=CF (fun w=>EX E ids ins w.1 w.2) (fun k=>((t:Int)-(k:Int),Kr E ins k)) t (Kr E ins t) (fun k hk=> ?_) ?_
 ·unfold Fp;rw [gG hN ids [] (.inl rfl),Ce];have e:(t:Int)-((0:Nat):Int)=(t:Int):=by omega
  rw [e]at key;rw [show Ht E ids ins ((t:Int),Ju E ins [])=_ from by unfold Ht;exact key,Ce]
 ·simp only [EX];rw [if_pos (by omega),gG hN ids _ (.inr (Ic E ins k)),Ce,Lb _ (by omega),show(t:Int)-(k:Int)-1=(t:Int)-((k+1:Nat):Int) by omega];rfl
 ·simp only [EX];rw [if_neg (by omega)]
def Zt(l:AL):Prop:= ∀x∈l,0≤x∧x≤99
theorem Ny: ∀(l:AL),Zt l→0≤GN l∧GN l≤100:=by
 have key: ∀(l:AL) (a:Int),Zt l→0≤a→a≤100→0≤l.foldl (fun a x=>max a (x+1)) a∧l.foldl (fun a x=>max a (x+1)) a≤100:=by
  intro l
  induction l with
  |nil=>intro a _ h1 h2;exact⟨h1,h2⟩
  |cons x l ih=>
   intro a h h1 h2;have:=h x LX
   exact ih _ (fun y hy=>h y (Je _ hy)) (show 0≤max a (x+1) by omega) (show max a (x+1)≤100 by omega)
 exact fun l h=>key l 0 h (by omega) (by omega)
theorem Zt.take{l:AL}(h:Zt l)(i:Nat):Zt (l.take i):=fun x hx=>h x (List.mem_of_mem_take hx)
theorem Qk(l:AL)(i:Nat)(hi:i<l.length):GN (l.take (i+1))=max (GN (l.take i)) (l.getD i be+1):=by
 rw [YD,Gy hi,K5,Gy hi];exact WT _ _
theorem gH(l:AL)(h:Zt l)(h1:1≤l.length)(h2:l.length≤1000):Ey l=some (GN l):=by
 have key:=CF (fun w=>Be l w.1 w.2) (fun i=>(GN (l.take (i+1))-1,((i+1:Nat):Int))) (l.length-1) (GN l-1) (fun i hi=> ?_) ?_
 ·have h0:=Qk l 0 (by omega)
  have hx:=h l[0] (JQ (by omega))
  have hg:l.getD 0 be=l[0]:=Az l 0 (by omega)
  have hr:=Ny l h;simp only [List.take_zero]at h0;have e0:GN []=0:=rfl;have e:GN (l.take (0+1))-1=l.getD 0 be:=by rw [h0,e0,hg];omega
  rw [e]at key;unfold Ey El;rw [if_neg (by omega),Br (by omega),show Cn l (l.getD 0 be,1)=_ from by unfold Cn;exact key,Ce,Ce,Lb _ (by omega)]
  congr 1;omega
 ·have hi':i+1<l.length:=by omega
  have ht:=Qk l (i+1) hi';have hr:=Ny _ (h.take (i+1));have hx:=h l[i+1] (JQ hi');have hg:l.getD (i+1) be=l[i+1]:=Az l _ hi';simp only [Be,K4];rw [if_pos (Bc hi'),Br ⟨by omega,hi'⟩,Kb _ (by omega),ht,hg]
  have:SL (GN (l.take (i+1))-1) l[i+1]=max (GN (l.take (i+1))) (l[i+1]+1)-1:=by unfold SL;split<;>omega
  rw [this]
 ·have hl:l.length-1+1=l.length:=by omega
  simp only [Be,hl];rw [if_neg (Ap _),YF]
theorem sU(l:AL)(h:Zt l)(h2:l.length≤1000):Km l=some (GN l):=by
 have key:=CF (fun w=>Gu l w.1 w.2) (fun i=>(GN (l.take i),(i:Int))) l.length (GN l) (fun i hi=> ?_) ?_
 ·unfold Km;rw [show Jr l (0,0)=_ from by unfold Jr;exact key,Ce]
 ·have ht:=Qk l i hi;have hr:=Ny _ (h.take i);have hx:=h l[i] (JQ hi);have hg:l.getD i be=l[i]:=Az l i hi;simp only [Gu,K4];rw [if_pos (Bc hi),Br ⟨by omega,hi⟩,hg,Lb _ (by omega),Kb i (by omega),ht,hg]
  unfold Q5;by_cases e:l[i]+1<GN (l.take i)
  ·rw [if_pos e,Ce,show max (GN (l.take i)) (l[i]+1)=GN (l.take i) by omega]
  ·rw [if_neg e,Ce,show max (GN (l.take i)) (l[i]+1)=l[i]+1 by omega]
 ·simp only [Gu];rw [if_neg (Ap _),YF]
def K3(E:Am)(ins:AL):Nat→Nat→AL
 |0=>Kc E ins []
 |t+1=>Kc E ins (Kr E ins t)
theorem OE(E:Am)(ins:AL)(t:Nat):Kr E ins t=(cl (K3 E ins t) E.length).1:=by cases t<;>rfl
theorem gI{E:Am}{ins:AL}{t u:Nat}(hu:u<E.length):(Kr E ins t).getD u be=cv (K3 E ins t) u:=by rw [OE];exact Ur _ _ _ hu
theorem QC{E:Am}{ins:AL}{t u v:Nat}(hu:u<E.length)(hv:v<E.length):(Kr E ins t).getD u be=(Kr E ins t).getD v be↔K3 E ins t u=K3 E ins t v:=by
 rw [gI hu,gI hv];exact Ut _ _ _
theorem OG{E:Am}{ins:AL}(hN:JO E ins)(t:Nat):Zt (Kr E ins t):=by
 intro x hx;have h40:=hN.2.1;rw [OE,Us,JH]at hx;obtain⟨u,hu,rfl⟩:=hx;have:=o5 (K3 E ins t) E.length u (MF.1 hu)
 have h2:=fw (K3 E ins t) E.length;omega
theorem Zk{E:Am}{ins:AL}(hN:JO E ins): ∀(t u v:Nat),u<E.length→v<E.length→K3 E ins (t+1) u=K3 E ins (t+1) v→K3 E ins t u=K3 E ins t v:=by
 obtain⟨h1,h40,hin,hd,hp⟩:=hN;have ne: ∀t,Kr E ins t≠[]:=fun t hc=>by have:=Ic E ins t;rw [hc]at this;simp at this;omega
 intro t
 induction t with
 |zero=>
  intro u v hu hv h;obtain⟨a,b,_⟩:=(Uu (hd u hu) (hd v hv)).1 h
  exact(Uu (hd u hu) (hd v hv)).2 ⟨a,b,fun hc=>(hc rfl).elim⟩
 |succ t ih=>
  intro u v hu hv h;obtain⟨a,b,c⟩:=(Uu (hd u hu) (hd v hv)).1 h
  refine(Uu (hd u hu) (hd v hv)).2 ⟨a,b,fun _ i hi=> ?_⟩
  obtain⟨c1,c2⟩:=c (ne _) i hi;have q1:=(hp u i hu hi).2;have q2:=(hp v i hv (by omega)).2
  exact⟨c1,(QC q1 q2).2 (ih _ _ q1 q2 ((QC q1 q2).1 c2))⟩
theorem Ql{E:Am}{ins:AL}(hN:JO E ins)(t d u v:Nat)(hu:u<E.length)(hv:v<E.length)(h:K3 E ins (t+d) u=K3 E ins (t+d) v):K3 E ins t u=K3 E ins t v:=by
 induction d with
 |zero=>exact h
 |succ d ih=>exact ih (Zk hN (t+d) u v hu hv h)
def Zl(E:Am)(ins:AL)(t:Nat):Nat:=(cl (K3 E ins t) E.length).2
theorem gJ(E:Am)(ins:AL)(t:Nat):GN (Kr E ins t)=(Zl E ins t:Int):=by rw [OE];exact gB _ _
theorem oJ{E:Am}{ins:AL}(hN:JO E ins)(t:Nat):Zl E ins t≤Zl E ins (t+1):=gD _ fun u w hu hw=>Zk hN t u w hu hw
theorem sV{E:Am}{ins:AL}(hN:JO E ins): ∃T,T≤40∧Zl E ins (T+1)=Zl E ins T∧ ∀t,t<T→Zl E ins (t+1)≠Zl E ins t:=by
 have h40:=hN.2.1
 cases hf:Ae 41 (fun t=>decide (Zl E ins (t+1)=Zl E ins t))with
 |some T=>
  obtain⟨a,b⟩:=Cu hf
  refine⟨T,by omega,by simpa using b,fun t ht=> ?_⟩
  have:=LW hf t ht
  simpa using this
 |none=>
  have hno:=Ig hf
  have: ∀t,t≤41→t≤Zl E ins t:=by
   intro t
   induction t with
   |zero=>intro _;exact Nat.zero_le _
   |succ t ih=>
    intro ht;have a:=hno t (by omega)
    have b:=oJ hN t;have c:=ih (by omega)
    have a: ¬Zl E ins (t+1)=Zl E ins t:=by simpa using a
    omega
  have a:=this 41 (IB _);have b:=fw (K3 E ins 41) E.length;unfold Zl at a;omega
theorem Zm{E:Am}{ins:AL}(hN:JO E ins)(ids:AL): ∃T:Nat,T≤40∧Nr E ids ins=some ((T:Int),Kr E ins T)∧M8 E ids ins=some (Kr E ins T)∧Zl E ins (T+1)=Zl E ins T:=by
 obtain⟨T,hT,he,hne⟩:=sV hN;have h40:=hN.2.1;have h1:=hN.1;have ci: ∀t,Ey (Kr E ins t)=some (Zl E ins t:Int):=fun t=>by rw [gH _ (OG hN t) (by rw [Ic];exact h1) (by rw [Ic];omega),gJ]
 have cs: ∀t,Km (Kr E ins t)=some (Zl E ins t:Int):=fun t=>by rw [sU _ (OG hN t) (by rw [Ic];omega),gJ]
 refine⟨T,hT, ?_, ?_,he⟩
 ·have key:=CF (fun w=>Gs E ids ins w.1 w.2) (fun t=>(Kr E ins t,(t:Int))) T ((T:Int),Kr E ins T) (fun t ht=> ?_) ?_
  ·unfold Nr;rw [oD hN ids,Ce,show Jq E ids ins (Ju E ins [],0)=_ from by unfold Jq;exact key,Ce]
  ·simp only [Gs];rw [dM hN ids _ (Ic E ins t),Ce,show Ju E ins (Kr E ins t)=Kr E ins (t+1)from rfl,ci,Ce,ci,Ce,if_neg (by have:=hne t ht;omega),Kb t (by omega)]
  ·simp only [Gs];rw [dM hN ids _ (Ic E ins T),Ce,show Ju E ins (Kr E ins T)=Kr E ins (T+1)from rfl,ci,Ce,ci,Ce,if_pos (by omega)]
 ·have key:=CF (fun w=>Ep E ids ins w.1 w.2) (fun t=>(Kr E ins t,(t:Int))) T (T:Int) (fun t ht=> ?_) ?_
  ·have k0:Kn E ids ins=some (T:Int):=by
    unfold Kn;rw [show Fp E ids ins (0:Int)=_ from sQ hN ids 0 (by omega),Ce,show IX E ids ins (Kr E ins 0,0)=_ from by unfold IX;exact key,Ce]
   unfold M8;rw [k0,Ce,sQ hN ids T (by omega),Ce]
  ·simp only [Ep];rw [gG hN ids _ (.inr (Ic E ins t)),Ce,show Ju E ins (Kr E ins t)=Kr E ins (t+1)from rfl,cs,Ce,cs,Ce,if_neg (by have:=hne t ht;omega),Kb t (by omega)]
  ·simp only [Ep];rw [gG hN ids _ (.inr (Ic E ins T)),Ce,show Ju E ins (Kr E ins T)=Kr E ins (T+1)from rfl,cs,Ce,cs,Ce,if_pos (by omega)]
def Oc(E:Am)(v i:Nat):Bool:=decide ((v:Int)<BJ (E.getD v be) i)||(decide ((v:Int)=BJ (E.getD v be) i)&&decide ((i:Int)≤CO (E.getD v be) i))
def Zu(E:Am)(v:Nat):Nat→List (Int×Int×Int×Int)
 |0=>[]
 |i+1=>if Oc E v i=true then Zu E v i++[((v:Int),(i:Int),BJ (E.getD v be) i,CO (E.getD v be) i)]else Zu E v i
def jW(E:Am):Nat→List (Int×Int×Int×Int)
 |0=>[]
 |v+1=>jW E v++Zu E v (E.getD v be).length
theorem Y6(E:Am)(v:Nat): ∀i,(Zu E v i).length≤i
 |0=>IB _
 |i+1=>by
  have:=Y6 E v i
  unfold Zu;split
  ·rw [Kt,Zy];omega
  ·omega
theorem Y7(E:Am)(h: ∀v,v<E.length→(E.getD v be).length≤6): ∀v,v≤E.length→(jW E v).length≤6*v
 |0,_=>IB _
 |v+1,hv=>by
  have h1:=Y7 E h v (by omega)
  have h2:=Y6 E v (E.getD v be).length;have h3:=h v (by omega)
  unfold jW;rw [Kt];omega
theorem gK(E:Am)(v:Nat)(x:Int×Int×Int×Int): ∀n,x∈Zu E v n↔ ∃i,i<n∧Oc E v i=true∧x=((v:Int),(i:Int),BJ (E.getD v be) i,CO (E.getD v be) i)
 |0=>by simp [Zu]
 |n+1=>by
  have ih:=gK E v x n;unfold Zu;split
  ·rename_i hc
   rw [ME,cx,ih]
   constructor
   ·rintro(⟨i,h1,h2,h3⟩|h)
    ·exact⟨i,by omega,h2,h3⟩
    ·exact⟨n,by omega,hc,h⟩
   ·rintro⟨i,h1,h2,h3⟩
    by_cases e:i=n
    ·subst e;exact .inr h3
    ·exact .inl ⟨i,by omega,h2,h3⟩
  ·rename_i hc
   rw [ih]
   constructor
   ·rintro⟨i,h1,h2,h3⟩;exact⟨i,by omega,h2,h3⟩
   ·rintro⟨i,h1,h2,h3⟩
    by_cases e:i=n
    ·subst e;exact absurd h2 hc
    ·exact⟨i,by omega,h2,h3⟩
theorem SF(E:Am)(x:Int×Int×Int×Int): ∀n,x∈jW E n↔ ∃v i,v<n∧i<(E.getD v be).length∧Oc E v i=true∧x=((v:Int),(i:Int),BJ (E.getD v be) i,CO (E.getD v be) i)
 |0=>by simp [jW]
 |n+1=>by
  unfold jW;rw [ME,SF E x n,gK]
  constructor
  ·rintro(⟨v,i,h1,h2⟩|⟨i,h1,h2⟩)
   ·exact⟨v,i,by omega,h2⟩
   ·exact⟨n,i,by omega,h1,h2⟩
  ·rintro⟨v,i,h1,h2,h3⟩
   by_cases e:v=n
   ·subst e;exact .inr ⟨i,h2,h3⟩
   ·exact .inl ⟨v,i,by omega,h2,h3⟩
theorem oK(E:Am)(v:Nat)(out:List (Int×Int×Int×Int))(hd:(E.getD v be).length≤6)(ho:out.length≤1000):
  Ef E (v:Int) (out,0)=some (out++Zu E v (E.getD v be).length):=by
 unfold Ef;have key:=CF (fun w=>D6 E (v:Int) w.1 w.2) (fun i=>(out++Zu E v i,(i:Int))) (E.getD v be).length (out++Zu E v (E.getD v be).length) ?_ ?_
 ·have e:((0:Nat):Int)=0:=rfl;simp only [e,Zu,V3]at key;exact key
 ·intro i hi;have hl:=Y6 E v i;have hlen:(out++Zu E v i).length*4+4<1099511627776:=by rw [Kt];omega
  simp only [D6,K4];rw [if_pos (Bc hi),Br (by omega),Kb i (by omega)]
  have hc:Oc E v i=(decide ((v:Int)<BJ (E.getD v be) i)||(decide ((v:Int)=BJ (E.getD v be) i)&&decide ((i:Int)≤CO (E.getD v be) i))):=rfl;have hs:Zu E v (i+1)=if Oc E v i=true then Zu E v i++[((v:Int),(i:Int),BJ (E.getD v be) i,CO (E.getD v be) i)]else Zu E v i:=rfl
  rw [hs];by_cases c1:(v:Int)<BJ (E.getD v be) i
  ·rw [if_pos c1,Br hlen,if_pos (by rw [hc,decide_eq_true c1];rfl),P8]
  ·rw [if_neg c1];by_cases c2:(v:Int)=BJ (E.getD v be) i
   ·rw [if_pos c2];by_cases c3:(i:Int)≤CO (E.getD v be) i
    ·rw [if_pos c3,Br hlen,if_pos (by rw [hc,decide_eq_true c2,decide_eq_true c3,V5,Bool.or_true]),P8]
    ·rw [if_neg c3,if_neg (by rw [hc,decide_eq_false c1,decide_eq_false c3,Bool.and_false];simp)]
   ·rw [if_neg c2,if_neg (by rw [hc,decide_eq_false c1,decide_eq_false c2];simp)]
 ·simp only [D6,K4];rw [if_neg (Ap _)]
theorem oO(E:Am)(ids ins:AL)(hE:E.length≤40)(hd: ∀v,v<E.length→(E.getD v be).length≤6):GG E ids ins=some (jW E E.length):=by
 unfold GG G7;have key:=CF (fun w=>D7 E w.1 w.2) (fun v=>(jW E v,(v:Int))) E.length (jW E E.length) ?_ ?_
 ·have e:((0:Nat):Int)=0:=rfl;simp only [e]at key;rw [show(([],0):List (Int×Int×Int×Int)×Int)=(jW E 0,0)from rfl,key];rfl
 ·intro v hv;have hl:=Y7 E hd v (by omega)
  simp only [D7];rw [if_pos (Bc hv),Br (by omega),oK E v _ (hd v hv) (by omega),Ce,Kb v (by omega)]
  rfl
 ·simp only [D7];rw [if_neg (Ap _)]
theorem A2j(L:List (Int×Int×Int×Int))(f:Int→Int→Int→Int→Option Bool)(p:Int×Int×Int×Int→Bool)(hL:L.length<1099511627776)(hf: ∀x∈L,f x.1 x.2.1 x.2.2.1 x.2.2.2=some (p x)):
  Ab L f=some (L.any p):=by
 unfold Ab Ag Af;have key:=Ko (fun v=>AZ L f v) (fun i=>(i:Int)) L.length (fun i=>p (L.getD i be)) (fun i=> .inl (i:Int)) (.inr ()) ?_ ?_
 ·rw [OJ]at key;rw [key]
  have hany:L.any p=(Ae L.length fun i=>p (L.getD i be)).isSome:=by
   rw [QH,Bg,List.any_eq_true]
   constructor
   ·rintro⟨x,hx,hp⟩
    obtain⟨i,hi,rfl⟩:=aB hx
    exact⟨i,hi,by rw [Az _ _ hi];exact hp⟩
   ·rintro⟨i,hi,hp⟩
    rw [Az _ _ hi]at hp
    exact⟨_,JQ hi,hp⟩
  rw [hany]
  cases Ae L.length fun i=>p (L.getD i be)with
  |none=>rfl
  |some i=>simp
 ·intro i hi;have hx:=hf _ (JQ hi);simp only [AZ,K4,q4a,q4b,q4c,q4d];rw [if_pos (Bc hi),Br (by omega),Az _ _ hi,hx,Ce,Kb i (by omega)]
 ·simp only [AZ];rw [if_neg (Ap _)]
theorem sW(E:Am)(ids ins:AL)(v:Nat)(hv:v<E.length)(hd:(E.getD v be).length≤6):Nl E ids ins (v:Int)=some ((E.getD v be).map (·.1)):=by
 unfold Nl LP;rw [Br (by omega)]
 have key:=CF (fun x=>Gg E (v:Int) x.1 x.2) (fun i=>(((E.getD v be).take i).map (·.1),(i:Int))) (E.getD v be).length ((E.getD v be).map (·.1)) ?_ ?_
 ·have e:((0:Nat):Int)=0:=rfl;simp only [e,List.take_zero,List.map_nil]at key;rw [key];rfl
 ·intro i hi;simp only [Gg,K4];rw [if_pos (Bc hi),Br (by omega),Br (by rw [RJ,Mt];omega),Kb i (by omega),YD,Gy hi,List.map_append]
  unfold BJ;rw [Az (E.getD v be) _ hi];rfl
 ·simp only [Gg,K4];rw [if_neg (Ap _),YF]
def Qm(E:Am)(l:AL)(u i:Nat):Bool:=((E.getD u be).map (·.1)).contains (((u+i:Nat):Int))&&decide (l.getD u be=l.getD (u+i) be)
theorem gL(E:Am)(ids ins l:AL)(hE:E.length≤40)(hd: ∀v,v<E.length→(E.getD v be).length≤6)(hl:l.length=E.length):
  ∃a b,Nn E ids ins l=some (a,b,(Ae E.length fun u=>(Ae (E.length-u) (Qm E l u)).isSome).isSome):=by
 have inner: ∀u:Nat,u<E.length→Jm E ids ins l (u:Int) ((E.getD u be).map (·.1)) (u:Int)=some (match Ae (E.length-u) (Qm E l u)with|some i=> .inl (((u+i:Nat):Int))|none=> .inr ()):=by
  intro u hu;have hdu:=hd u hu;have key:=Ko (fun v=>Gj E ids ins l (u:Int) ((E.getD u be).map (·.1)) v) (fun i=>((u+i:Nat):Int)) (E.length-u) (Qm E l u) (fun i=> .inl (((u+i:Nat):Int))) (.inr ()) ?_ ?_
  ·unfold Jm;rw [Nat.add_zero]at key;exact key
  ·intro i hi;simp only [Gj,K4];rw [if_pos (Bc (by omega)),Br (by rw [RJ];omega),Kb (u+i) (by omega)]
   unfold Qm
   cases hc:((E.getD u be).map (·.1)).contains (((u+i:Nat):Int))with
   |false=>rfl
   |true=>
    rw [if_pos rfl,Br (by omega),Br (by omega),P9]
    by_cases e:l.getD u be=l.getD (u+i) be
    ·rw [if_pos e,decide_eq_true e];rfl
    ·rw [if_neg e,decide_eq_false e];rfl
  ·simp only [Gj];rw [if_neg (by omega)]
 have key:=Ko (fun v=>Gl E ids ins l v) (fun i=>(i:Int)) E.length (fun u=>(Ae (E.length-u) (Qm E l u)).isSome) (fun u=> .inl ((u:Int),match Ae (E.length-u) (Qm E l u)with|some i=>((u+i:Nat):Int)|none=>0)) (.inr ()) ?_ ?_
 ·unfold Nn LQ;rw [OJ]at key;rw [key]
  cases Ae E.length fun u=>(Ae (E.length-u) (Qm E l u)).isSome with
  |none=>exact⟨0,0,rfl⟩
  |some u=>exact⟨_,_,rfl⟩
 ·intro u hu;simp only [Gl];rw [if_pos (Bc hu),sW E ids ins u hu (hd u hu),Ce,inner u hu,Ce,Kb u (by omega)]
  cases Ae (E.length-u) (Qm E l u)<;>rfl
 ·simp only [Gl];rw [if_neg (Ap _)]
theorem M9{E:Am}{ids ins:AL}(h:IQ E ids ins=true):E.length≤40∧1≤E.length∧(∀v,v<E.length→(E.getD v be).length≤6)∧
  ∀v i,v<E.length→i<(E.getD v be).length→ ∃w p:Nat,BJ (E.getD v be) i=(w:Int)∧CO (E.getD v be) i=(p:Int)∧w<E.length∧p<(E.getD w be).length∧BJ (E.getD w be) p=(v:Int)∧CO (E.getD w be) p=(i:Int):=by
 unfold IQ at h;simp only [FM]at h;obtain⟨h1,_,_,_,h5⟩:=h;have h1:=KA.1 h1;have hn: ∀v,v<E.length→Pz E v=true:=GV.1 h5
 refine⟨by omega,by omega,fun v hv=> ?_,fun v i hv hi=> ?_⟩
 ·have:=hn v hv
  rw [OA,FM,decide_eq_true_eq]at this;exact this.1
 ·have:=hn v hv
  rw [OA,FM]at this;have:=GV.1 this.2 i hi
  rw [Qe]at this;simp only [FM,beq_iff_eq]at this;obtain⟨k1,k2,k3,k4⟩:=this;have k1:=KA.1 k1;have k2:=KA.1 k2
  refine⟨(BJ (E.getD v be) i).toNat,(CO (E.getD v be) i).toNat,by omega,by omega,by omega,by omega,k3,k4⟩
theorem oP(E:Am)(ids ins l:AL)(h:IQ E ids ins=true):
  (jW E E.length).any (fun x=>decide (l.getD x.1.toNat be=l.getD x.2.2.1.toNat be))=(Ae E.length fun u=>(Ae (E.length-u) (Qm E l u)).isSome).isSome:=by
 obtain⟨_,_,_,hp⟩:=M9 h;rw [QH,List.any_eq_true,Bg]
 have mem_map: ∀(u:Nat) (x:Int),x∈(E.getD u be).map (·.1)↔ ∃i,i<(E.getD u be).length∧BJ (E.getD u be) i=x:=by
  intro u x;rw [JH]
  constructor
  ·rintro⟨y,hy,rfl⟩
   obtain⟨i,hi,rfl⟩:=aB hy
   exact⟨i,hi,by unfold BJ;rw [Az _ _ hi]⟩
  ·rintro⟨i,hi,rfl⟩
   exact⟨_,JQ hi,by unfold BJ;rw [Az _ _ hi]⟩
 constructor
 ·rintro⟨x,hx,hs⟩
  obtain⟨v,i,hv,hi,hc,rfl⟩:=(SF E x E.length).1 hx;obtain⟨w,p,e1,e2,hw,hpl,_,_⟩:=hp v i hv hi;simp only [decide_eq_true_eq,K4,e1]at hs;unfold Oc at hc;rw [e1,e2]at hc;simp only [NE,FM,decide_eq_true_eq]at hc
  refine⟨v,hv,Bg.2 ⟨w-v,by omega, ?_⟩⟩
  unfold Qm;rw [show v+(w-v)=w by omega,FM,decide_eq_true_eq,WV,mem_map]
  exact⟨⟨i,hi,e1⟩,hs⟩
 ·rintro⟨u,hu,hs⟩
  obtain⟨j,hj,hs⟩:=Bg.1 hs;unfold Qm at hs;rw [FM,decide_eq_true_eq,WV,mem_map]at hs;obtain⟨⟨i,hi,e1⟩,hs⟩:=hs;obtain⟨w,p,e1',e2,hw,hpl,b1,b2⟩:=hp u i hu hi;have hwu:w=u+j:=by omega
  subst hwu
  have Fa: ∀i',i'<(E.getD u be).length→Oc E u i'=true→BJ (E.getD u be) i'=((u+j:Nat):Int)→ ∃x,x∈jW E E.length∧decide (l.getD x.1.toNat be=l.getD x.2.2.1.toNat be)=true:=by
   intro i' hi' hc hf
   refine⟨_,(SF E _ E.length).2 ⟨u,i',hu,hi',hc,rfl⟩, ?_⟩
   simp only [decide_eq_true_eq,K4,hf];exact hs
  by_cases h0:j=0
  ·subst h0;rw [Nat.add_zero]at*;by_cases hip:i≤p
   ·exact Fa i hi (by unfold Oc;rw [e1',e2];simp;omega) e1
   ·exact Fa p hpl (by unfold Oc;rw [b1,b2];simp;omega) b1
  ·exact Fa i hi (by unfold Oc;rw [e1'];simp;omega) e1
theorem gM(l:AL)(hl:l.length≤1000): ∃a b,Np l=some (a,b,decide (¬l.Nodup)):=by
 have inner: ∀u:Nat,u<l.length→Jn l (u:Int) (((u+1:Nat):Int))=some (match Ae (l.length-(u+1)) (fun i=>decide (l.getD u be=l.getD (u+1+i) be))with|some i=> .inl (((u+1+i:Nat):Int))|none=> .inr ()):=by
  intro u hu;have key:=Ko (fun v=>Gm l (u:Int) v) (fun i=>((u+1+i:Nat):Int)) (l.length-(u+1)) (fun i=>decide (l.getD u be=l.getD (u+1+i) be)) (fun i=> .inl (((u+1+i:Nat):Int))) (.inr ()) ?_ ?_
  ·unfold Jn;rw [Nat.add_zero]at key;exact key
  ·intro i hi;simp only [Gm,K4];rw [if_pos (Bc (by omega)),Br (by omega),Br (by omega),Kb (u+1+i) (by omega)]
   by_cases e:l.getD u be=l.getD (u+1+i) be
   ·rw [if_pos e,decide_eq_true e];rfl
   ·rw [if_neg e,decide_eq_false e];rfl
  ·simp only [Gm];rw [if_neg (by omega)]
 have key:=Ko (fun v=>Gn l v) (fun i=>(i:Int)) l.length (fun u=>(Ae (l.length-(u+1)) (fun i=>decide (l.getD u be=l.getD (u+1+i) be))).isSome) (fun u=> .inl ((u:Int),match Ae (l.length-(u+1)) (fun i=>decide (l.getD u be=l.getD (u+1+i) be))with|some i=>((u+1+i:Nat):Int)|none=>0)) (.inr ()) ?_ ?_
 ·have hq:(Ae l.length fun u=>(Ae (l.length-(u+1)) (fun i=>decide (l.getD u be=l.getD (u+1+i) be))).isSome).isSome=decide (¬l.Nodup):=by
   rw [QH,Bg,decide_eq_true_eq,List.nodup_iff_pairwise_ne,YB]
   constructor
   ·rintro⟨u,hu,hs⟩ hn
    obtain⟨i,hi,hs⟩:=Bg.1 hs;rw [decide_eq_true_eq,Az _ _ hu,Az _ _ (by omega)]at hs
    exact hn u (u+1+i) hu (by omega) (by omega) hs
   ·intro hn;refine Classical.byContradiction fun hc=>hn fun i j hi hj hij he=>hc ⟨i,hi,Bg.2 ⟨j-(i+1),by omega, ?_⟩⟩
    rw [decide_eq_true_eq,show i+1+(j-(i+1))=j by omega,Az _ _ hi,Az _ _ hj]
    exact he
  rw [←hq];unfold Np LU;rw [OJ]at key;rw [key]
  cases Ae l.length fun u=>(Ae (l.length-(u+1)) (fun i=>decide (l.getD u be=l.getD (u+1+i) be))).isSome with
  |none=>exact⟨0,0,rfl⟩
  |some u=>exact⟨_,_,rfl⟩
 ·intro u hu;simp only [Gn];rw [if_pos (Bc hu),Kb u (by omega),inner u hu,Ce]
  cases Ae (l.length-(u+1)) (fun i=>decide (l.getD u be=l.getD (u+1+i) be))<;>rfl
 ·simp only [Gn];rw [if_neg (Ap _)]
theorem dP(s:AL)(k:Nat)(hk:1≤k∧k<s.length)(hs:s.length≤1000): ∃(a:Nat) (t:AL),C9 s (k:Int) ((k:Int),1,s)=some ((a:Int),t)∧t.length=s.length∧a<s.length:=by
 unfold C9;have key:=eX (fun v=>BQ s (k:Int) v.1 v.2.1 v.2.2)
  (fun n (v:Int×Int×AL)=> ∃a b:Nat,v.1=(a:Int)∧v.2.1=(b:Int)∧n=s.length-k-b∧1≤b∧b≤s.length-k∧a<k+b∧v.2.2.length=s.length)
  (fun r:Int×AL=> ∃a:Nat,r.1=(a:Int)∧a<s.length∧r.2.length=s.length) ?_ (s.length-k-1) ((k:Int),1,s) ⟨k,1,rfl,rfl,rfl,by omega,by omega,by omega,rfl⟩
 ·obtain⟨⟨a',t⟩,h1,a,h2,h3,h4⟩:=key;simp only at h2 h4;subst h2
  exact⟨a,t,h1,h4,h3⟩
 ·rintro n ⟨k1,k2,t⟩ ⟨a,b,h1,h2,h3,h4,h5,h6,h7⟩
  simp only at h1 h2 h7;subst h1 h2;by_cases hb:b<s.length-k
  ·left
   simp only [BQ,K4];rw [if_pos (by omega),Br (by omega),Br (by omega),Br (by omega),Lb _ (by omega),Br (by omega),Br (by omega),Kb b (by omega)]
   split
   ·exact⟨_,s.length-k-(b+1),rfl,by omega,a,b+1,rfl,rfl,rfl,by omega,by omega,by omega,h7⟩
   ·rw [Br (by omega),Kb a (by omega)]
    exact⟨_,s.length-k-(b+1),rfl,by omega,a+1,b+1,rfl,rfl,rfl,by omega,by omega,by omega,by simp only [SH];exact h7⟩
  ·right
   refine⟨((a:Int),t), ?_,a,rfl,by omega,h7⟩
   simp only [BQ,K4];rw [if_neg (by omega)]
theorem dQ(s:AL)(hs:s.length≤1000): ∃r,Cg s=some r∧(r.length=s.length↔ ∀i,1≤i→i<s.length→s.getD i be≠s.getD (i-1) be):=by
 unfold Cg;by_cases h2:(s.length:Int)<2
 ·rw [if_pos h2]
  exact⟨s,rfl,fun _ i h1 hi=>by omega,fun _=>rfl⟩
 ·rw [if_neg h2];unfold Cr;have key:=eX (fun v=>BR s v) (fun n (v:Int)=> ∃k:Nat,v=(k:Int)∧n=s.length-k∧1≤k∧k≤s.length∧ ∀i,1≤i→i<k→s.getD i be≠s.getD (i-1) be)
   (fun r:AL⊕Unit=>match r with| .inl q=>q.length<s.length∧ ∃i,1≤i∧i<s.length∧s.getD i be=s.getD (i-1) be| .inr _=> ∀i,1≤i→i<s.length→s.getD i be≠s.getD (i-1) be) ?_ (s.length-1) (1:Int) ⟨1,rfl,rfl,by omega,by omega,fun i h1 h3=>by omega⟩
  ·obtain⟨r,h1,h3⟩:=key;rw [h1,Ce]
   cases r with
   |inl q=>
    obtain⟨h4,i,h5,h6,h7⟩:=h3
    exact⟨q,rfl,fun h=>by omega,fun h=>absurd h7 (h i h5 h6)⟩
   |inr _=>exact⟨s,rfl,fun _=>h3,fun _=>rfl⟩
  ·rintro n v ⟨k,rfl,hn,h1,hk,hne⟩
   by_cases hks:k<s.length
   ·simp only [BR,K4];rw [if_pos (Bc hks),Br (by omega),Lb _ (by omega),Br (by omega),show((k:Int)-1).toNat=k-1 by omega]
    by_cases e:s.getD k be=s.getD (k-1) be
    ·right
     obtain⟨a,t,c1,c2,c3⟩:=dP s k ⟨h1,hks⟩ hs
     have hsp:(tX t a (ao (t.length-a) 0)).length=t.length:=by
      rw [A1P _ _ _ (by rw [Zx];omega)]
      simp;omega
     rw [if_pos e,Br (by omega),Br (by omega),c1,Ce]
     simp only [K4];rw [Br (by omega),Br (by omega),Br (by omega),Br (by omega)]
     exact⟨_,rfl,by simp only [Mt,hsp];omega,k,h1,hks,e⟩
    ·left
     rw [if_neg e,Kb k (by omega)]
     refine⟨_,s.length-(k+1),rfl,by omega,k+1,rfl,rfl,by omega,by omega,fun i hi1 hi2=> ?_⟩
     by_cases hik:i=k
     ·subst hik;exact e
     ·exact hne i hi1 (by omega)
   ·right
    have hke:k=s.length:=by omega
    subst hke
    refine⟨.inr (), ?_,hne⟩
    simp only [BR];rw [if_neg (Ap _)]
theorem jX{l:AL}(h:l.Pairwise (fun a b=>a≤b)):(∀i,1≤i→i<l.length→l.getD i be≠l.getD (i-1) be)↔l.Nodup:=by
 rw [YB]at h;rw [List.nodup_iff_pairwise_ne,YB]
 constructor
 ·intro hn
  have lt: ∀(d i:Nat) (hj:i+d+1<l.length),l[i]'(by omega)<l[i+d+1]:=by
   intro d
   induction d with
   |zero=>
    intro i hj;have h1:=h i (i+1) (by omega) hj (by omega)
    have h2:=hn (i+1) (by omega) hj
    rw [Az _ _ hj,Az _ _ (by omega)]at h2
    simp only [Nat.add_sub_cancel]at h2;have h3:l[i+1]≠l[i]:=h2;have:l[i+0+1]=l[i+1]:=rfl
    omega
   |succ d ih=>
    intro i hj;have h1:=ih i (by omega)
    have h2:=h (i+d+1) (i+(d+1)+1) (by omega) hj (by omega)
    omega
  intro i j hi hj hij he;have:=lt (j-i-1) i (by omega)
  simp only [show i+(j-i-1)+1=j by omega]at this
  omega
 ·intro hn i h1 hi he;rw [Az _ _ hi,Az _ _ (by omega)]at he
  exact hn (i-1) i (by omega) hi (by omega) he.symm
theorem Zn(l:AL)(hl:l.length≤1000)(hx: ∀x∈l,0≤x∧x≤99):J9 l (0,0)=some l.sum:=by
 have hs: ∀i,i≤l.length→0≤(l.take i).sum∧(l.take i).sum≤99*(i:Int):=by
  intro i
  induction i with
  |zero=>intro _;simp
  |succ i ih=>
   intro hi;have h1:=ih (by omega)
   have h2:=hx _ (JQ (show i<l.length by omega))
   rw [YD,Gy (by omega),List.sum_append]
   simp only [Option.toList_some,cm,List.sum_nil];omega
 unfold J9;have key:=CF (fun v=>FV l v.1 v.2) (fun i=>((l.take i).sum,(i:Int))) l.length l.sum ?_ ?_
 ·have e:((0:Nat):Int)=0:=rfl;simp only [e,List.take_zero,List.sum_nil]at key;exact key
 ·intro i hi;have h1:=hs i (by omega)
  have h2:=hx _ (JQ hi);simp only [FV,K4];rw [if_pos (Bc hi),Br (by omega),Az _ _ hi,Lb _ (by omega),Kb i (by omega),YD,Gy hi,List.sum_append]
  simp
 ·simp only [FV];rw [if_neg (Ap _),YF]
theorem oQ{l m:AL}(h:l.Perm m):l.sum=m.sum:=by
 induction h with
 |nil=>rfl
 |cons x _ ih=>simp only [cm,ih]
 |swap x y l=>simp only [cm];omega
 |trans _ _ h1 h2=>exact h1.trans h2
theorem oU{l:AL}(h: ∀x∈l,0≤x):0≤l.sum∧(l.sum=0↔ ∀x∈l,x=0):=by
 induction l with
 |nil=>simp
 |cons a l ih=>
  obtain⟨h1,h2⟩:=ih (fun x hx=>h x (by simp [hx]))
  have ha:=h a (by simp)
  rw [cm]
  refine⟨by omega,fun hs=> ?_,fun hs=> ?_⟩
  ·intro x hx;rcases PE.1 hx with rfl|hx
   ·omega
   ·exact h2.1 (by omega) x hx
  ·have:=h2.2 (fun x hx=>hs x (by simp [hx]))
   have:=hs a (by simp)
   omega
theorem jY(l:AL)(hl:1≤l.length)(hx: ∀x∈l,0≤x∧x≤99)(s:AL)(hp:s.Perm l)(hs:s.Pairwise (fun a b=>a≤b)):
  (EJ l 0 1&&decide (l.sum=1))=(decide (s.getD (s.length-1) be=1)&&(decide (s.length=1)||decide (s.getD (s.length-2) be=0))):=by
 have hlen:=hp.length_eq;have hxs: ∀x∈s,0≤x∧x≤99:=fun x h=>hx x (hp.mem_iff.1 h)
 have hall:EJ l 0 1=EJ s 0 1:=by
  unfold EJ;rw [QH,Ir,Ir]
  exact⟨fun h x hx=>h x (hp.mem_iff.1 hx),fun h x hx=>h x (hp.mem_iff.2 hx)⟩
 have hsum:l.sum=s.sum:=oQ hp.symm;rw [hall,hsum];obtain⟨q,m,rfl⟩: ∃q m,s=q++[m]:=⟨s.dropLast,s.getLast (by intro h;rw [h]at hlen;simp at hlen;omega),(List.dropLast_concat_getLast _).symm⟩
 have hm:(q++[m]).getD ((q++[m]).length-1) be=m:=by
  rw [Kt,Zy,Nat.add_sub_cancel,K5,NC (IB _),cj];rfl
 rw [hm,List.sum_append,cm,List.sum_nil,Int.add_zero];have hq: ∀x∈q,0≤x:=fun x h=>(hxs x (by simp [h])).1
 have hqm: ∀x∈q,x≤m:=fun x h=>(List.pairwise_append.1 hs).2.2 x h m (by simp)
 have h0m:=(hxs m (by simp)).1
 obtain⟨z1,z2⟩:=oU hq
 have hlast:q.length=0∨ ∃y,y∈q∧(q++[m]).getD ((q++[m]).length-2) be=y∧ ∀x∈q,x≤y:=by
  by_cases h0:q.length=0
  ·exact .inl h0
  ·right
   have hi:q.length-1<q.length:=by omega
   refine⟨q[q.length-1],JQ hi, ?_,fun x hx=> ?_⟩
   ·rw [Kt,Zy,show q.length+1-2=q.length-1 by omega,K5,ND hi,Gy hi];rfl
   ·obtain⟨i,hil,rfl⟩:=aB hx;have hpq:=(List.pairwise_append.1 hs).1;rw [YB]at hpq;by_cases e:i=q.length-1
    ·subst e;exact Int.le_refl _
    ·exact hpq i (q.length-1) hil hi (by omega)
 rw [QH];simp only [FM,NE,decide_eq_true_eq,Kt,Zy]
 constructor
 ·rintro⟨ha,hs1⟩
  have ham:m≤1:=by
   unfold EJ at ha;rw [Ir]at ha
   exact(KA.1 (ha m (by simp))).2
  have hm1:m=1:=by
   rcases Int.lt_or_le m 1 with h|h
   ·have hm0:m=0:=by omega
    have:=z2.2 (fun x hx=>by have:=hq x hx;have:=hqm x hx;omega)
    omega
   ·omega
  refine⟨hm1, ?_⟩
  have hz:=z2.1 (by omega)
  rcases hlast with h|⟨y,hy,he,_⟩
  ·left;omega
  ·right
   rw [Kt,Zy]at he;rw [he];exact hz y hy
 ·rintro⟨hm1,hr⟩
  have hz: ∀x∈q,x=0:=by
   intro x hx;rcases hr with h|h
   ·have:q.length=0:=by omega
    rw [Zw this]at hx;cases hx
   ·rcases hlast with h'|⟨y,hy,he,hle⟩
    ·rw [Zw h']at hx;cases hx
    ·rw [Kt,Zy]at he;have:=hle x hx
     have:=hq x hx
     omega
  refine⟨?_,by have:=z2.2 hz;omega⟩
  unfold EJ;rw [Ir];intro x hx;refine KA.2 ?_;rcases ME.1 hx with h|h
  ·have:=hz x h;omega
  ·rw [cx]at h;omega
theorem dR(E:Am)(ids ins:AL)(t:Int)(l:AL)(h:IQ E ids ins=true)(hl:l.length=E.length)(hx: ∀x∈l,0≤x∧x≤99): ∃b,Ja E ids ins t l=some b∧OB E ids ins t l=some b:=by
 obtain⟨hE,hE1,hd,_⟩:=M9 h;have hM:l.length<1099511627776:=by omega
 have hsl:=WQ l;unfold Ja OB Ck;by_cases t1:t=1
 ·simp only [if_pos t1,Ce];rw [Zn l (by omega) hx,Ce,Br hM,Br hM,Tz]
  have hlead:=jY l (by omega) hx (Ij l) (JY l) (MU l)
  refine⟨EJ l 0 1&&decide (l.sum=1), ?_, ?_⟩
  ·cases EJ l 0 1<;>rfl
  ·rw [hlead,Lb _ (by omega),Br (by omega),show(((Ij l).length:Int)-1).toNat=(Ij l).length-1 by omega]
   by_cases c1:(Ij l).getD ((Ij l).length-1) be=1
   ·rw [if_pos c1,decide_eq_true c1,P9]
    have hge:0≤(Ij l).getD 0 be:=by
     rw [Az _ _ (by omega)]
     exact(hx _ ((JY l).mem_iff.1 (JQ _))).1
    by_cases c2:(Ij l).length=1
    ·rw [if_pos (by omega),Br (by omega),decide_eq_true c2,decide_eq_true hge];rfl
    ·rw [if_neg (by omega),Lb _ (by omega),Br (by omega),decide_eq_false c2,SK,show((((Ij l).length:Int)-1)-1).toNat=(Ij l).length-2 by omega]
     by_cases c3:(Ij l).getD ((Ij l).length-2) be=0
     ·rw [if_pos c3,Br (by omega),decide_eq_true c3,decide_eq_true hge]
     ·rw [if_neg c3,decide_eq_false c3]
   ·rw [if_neg c1,decide_eq_false c1];rfl
 ·simp only [if_neg t1];by_cases t2:t=2
  ·simp only [if_pos t2];obtain⟨a,b,e⟩:=gL E ids ins l hE hd hl;have hlen:=Y7 E hd E.length (IB _);rw [e,oO E ids ins hE hd,Ce,Ce,A2j (jW E E.length) _ (fun x=>decide (l.getD x.1.toNat be=l.getD x.2.2.1.toNat be)) (by omega) ?_,Ce,oP E ids ins l h]
   ·exact⟨_,rfl,rfl⟩
   ·intro x hxm;obtain⟨v,i,hv,hi,_,rfl⟩:=(SF E x E.length).1 hxm;obtain⟨w,p,e1,e2,hw,hpl,_,_⟩:=(M9 h).2.2.2 v i hv hi;unfold M4;simp only [e1,K4];rw [Br (by omega),Br (by omega)]
  ·simp only [if_neg t2,Ce];obtain⟨a,b,e⟩:=gM l (by omega)
   obtain⟨r,c1,c2⟩:=dQ (Ij l) (by omega)
   rw [e,Br hM,Tz,c1,Ce,Ce]
   refine⟨_,rfl, ?_⟩
   rw [jX (MU l),(JY l).nodup_iff]at c2
   congr 1
   by_cases hn:l.Nodup
   ·have e1:decide (¬l.Nodup)=false:=decide_eq_false (fun hc=>hc hn);have e2:decide ((r.length:Int)=(l.length:Int))=true:=decide_eq_true (by have:=c2.2 hn;omega)
    rw [e1,e2];rfl
   ·have e1:decide (¬l.Nodup)=true:=decide_eq_true hn;have e2:decide ((r.length:Int)=(l.length:Int))=false:=decide_eq_false (fun hc=>hn (c2.1 (by omega)))
    rw [e1,e2];rfl
theorem dS{m k:Nat}{P:Nat→Bool}(hk:k<m):Ae m (fun j=>P j||j==k)=some (match Ae m P with|some f=>min f k|none=>k):=by
 cases hf:Ae m P with
 |none=>
  have hno:=Ig hf;show Ae m (fun j=>P j||j==k)=some k
  exact Me hk (by simp) fun i hi=>by rw [hno i (by omega),SK];simpa using (by omega:i≠k)
 |some f=>
  obtain⟨h1,h2⟩:=Cu hf;have h3:=LW hf;simp only;by_cases e:f≤k
  ·rw [Nat.min_eq_left e];exact Me h1 (by rw [h2];rfl) fun i hi=>by rw [h3 i hi,SK];simpa using (by omega:i≠k)
  ·rw [Nat.min_eq_right (by omega)]
   exact Me hk (by simp) fun i hi=>by rw [h3 i (by omega),SK];simpa using (by omega:i≠k)
def gN:Option Nat→Int
 |some f=>(f:Int)
 |none=> -1
theorem oV:gN none= -1:=rfl
theorem oW(f:Nat):gN (some f)=(f:Int):=rfl
def RI(l:AL):Option Nat:=Ae (GN l).toNat (fun j=>l.count (j:Int)==1)
def Kq(l:AL):Int:=gN (RI l)
theorem Y8: ∀(l:AL) (x:Int),x∈l→x+1≤GN l:=by
 have mono: ∀(l:AL) (a:Int),a≤l.foldl (fun a x=>max a (x+1)) a:=by
  intro l
  induction l with
  |nil=>intro a;exact Int.le_refl _
  |cons x l ih=>
   intro a;have:=ih (max a (x+1))
   show a≤l.foldl (fun a x=>max a (x+1)) (max a (x+1))
   omega
 have key: ∀(l:AL) (a x:Int),x∈l→x+1≤l.foldl (fun a x=>max a (x+1)) a:=by
  intro l
  induction l with
  |nil=>intro a x h;cases h
  |cons y l ih=>
   intro a x h;show x+1≤l.foldl (fun a x=>max a (x+1)) (max a (y+1))
   rcases PE.1 h with rfl|h
   ·have:=mono l (max a (x+1));omega
   ·exact ih _ x h
 exact fun l x h=>key l 0 x h
theorem Zo(l:AL)(i:Nat)(hi:i<l.length)(x:Int):l.count x=(l.take i).count x+((if l[i]=x then 1 else 0)+(l.drop (i+1)).count x):=by
 have e:l=l.take i++(l[i]::l.drop (i+1)):=by rw [List.getElem_cons_drop,List.take_append_drop]
 have e2:=congrArg (List.count x) e;rw [List.count_append,List.count_cons]at e2;rw [e2];have:(if(l[i]==x)=true then 1 else 0)=(if l[i]=x then 1 else 0):=by simp only [beq_iff_eq]
 omega
def JP(l:AL)(i:Nat):Option Nat:=Ae (GN l).toNat (fun j=>l.count (j:Int)==1&&(l.take i).contains (j:Int))
theorem jZ(l:AL):JP l l.length=RI l:=by
 unfold JP RI;refine Gx fun j _=> ?_;rw [YF]
 cases h:(l.count (j:Int)==1)with
 |false=>rfl
 |true=>
  have h:l.count (j:Int)=1:=by simpa using h
  have:(j:Int)∈l:=co.1 (by omega)
  simpa using this
theorem sZ(l:AL)(h:Zt l)(h2:l.length≤1000):Nt l=some (Kq l):=by
 have key:=CF (fun w=>Gw l w.1 w.2) (fun i=>(gN (JP l i),(i:Int))) l.length (Kq l) (fun i hi=> ?_) ?_
 ·have e0:gN (JP l 0)= -1:=by
   unfold JP;rw [KI (fun j _=>by simp)];rfl
  rw [e0]at key;unfold Nt;rw [show Jt l (-1,0)=_ from by unfold Jt;exact key,Ce]
 ·have hx:=h l[i] (JQ hi);have hg:l.getD i be=l[i]:=Az l i hi;have htop:=Y8 l l[i] (JQ hi);have hrng:=Ny l h;have hd:((l.take i).drop 0)=l.take i:=List.drop_zero;have htk:l.take l.length=l:=YF
  have tk: ∀j:Nat,(l.take (i+1)).contains (j:Int)=((l.take i).contains (j:Int)||((j:Int)==l[i])):=fun j=>by
   rw [YD,Gy hi,QH,NE,WV,WV,beq_iff_eq,ME,Option.toList_some,cx]
  simp only [Gw,K4,hg];rw [if_pos (Bc hi),Br ⟨by omega,hi⟩,Br (by omega),Br (by omega),Br (by rw [hd,Mt];omega),hd,Kb i (by omega)]
  have cs:=Zo l i hi l[i];rw [if_pos rfl]at cs;by_cases c1:(l.take i).contains l[i]=true
  ·have m1:0<(l.take i).count l[i]:=co.2 (by simpa using c1)
   rw [if_pos c1]
   have:JP l (i+1)=JP l i:=by
    unfold JP;refine Gx fun j _=> ?_;rw [tk];by_cases e:(j:Int)=l[i]
    ·rw [e];have:(l.count l[i]==1)=false:=by simpa using (by omega:l.count l[i]≠1)
     rw [this];rfl
    ·rw [show((j:Int)==l[i])=false by simpa using e,cr]
   rw [this]
  ·rw [if_neg c1];have m1:(l.take i).count l[i]=0:=cy.2 (by simpa using c1)
   simp only [K4,htk];rw [Br (by omega),Br (by omega),Br (by rw [List.length_drop];omega)]
   by_cases c2:(l.drop (i+1)).contains l[i]=true
   ·have m2:0<(l.drop (i+1)).count l[i]:=co.2 (by simpa using c2)
    rw [if_pos c2]
    have:JP l (i+1)=JP l i:=by
     unfold JP;refine Gx fun j _=> ?_;rw [tk];by_cases e:(j:Int)=l[i]
     ·rw [e];have:(l.count l[i]==1)=false:=by simpa using (by omega:l.count l[i]≠1)
      rw [this];rfl
     ·rw [show((j:Int)==l[i])=false by simpa using e,cr]
    rw [this]
   ·have m2:(l.drop (i+1)).count l[i]=0:=cy.2 (by simpa using c2)
    rw [if_neg c2];obtain⟨k,hk⟩: ∃k:Nat,l[i]=(k:Int):=⟨l[i].toNat,by omega⟩
    have hc1:l.count l[i]=1:=by omega
    have:JP l (i+1)=some (match JP l i with|some f=>min f k|none=>k):=by
     unfold JP;rw [←dS (by omega)]
     refine Gx fun j _=> ?_;rw [tk];by_cases e:j=k
     ·subst e;rw [←hk,hc1]
      simp
     ·have e1:((j:Int)==l[i])=false:=by rw [hk];simpa using (by omega:(j:Int)≠(k:Int))
      have e2:(j==k)=false:=by simpa using e
      rw [e1,e2,cr,cr]
    have this:gN (JP l (i+1))=match JP l i with|some f=>((min f k:Nat):Int)|none=>(k:Int):=by
     rw [this]
     cases JP l i<;>rfl
    rw [this]
    cases ho:JP l i with
    |none=>
     show(if(-1:Int)<0 then _ else _)=some (cb ((k:Int),_))
     rw [if_pos (by decide),hk]
    |some f=>
     show(if(f:Int)<0 then _ else _)=some (cb (((min f k:Nat):Int),_))
     rw [if_neg (by omega)]
     by_cases e:l[i]<(f:Int)
     ·rw [show(if l[i]<gN (some f)then some (cb (l[i],((i+1:Nat):Int)))else some (cb (gN (some f),((i+1:Nat):Int))):Option ((Int×Int)⊕Int))=some (cb (l[i],((i+1:Nat):Int)))from if_pos e,hk,show min f k=k by omega]
     ·rw [show(if l[i]<gN (some f)then some (cb (l[i],((i+1:Nat):Int)))else some (cb (gN (some f),((i+1:Nat):Int))):Option ((Int×Int)⊕Int))=some (cb ((f:Int),((i+1:Nat):Int)))from if_neg e,show min f k=f by omega]
 ·simp only [Gw];rw [if_neg (Ap _),jZ];rfl
def Vm(l:AL):AL:=l.map (fun x=>if x=Kq l then 1 else 0)
theorem dU(l:AL)(m i:Nat)(hi:i<l.length)(k:Nat)(hk:l[i]=(k:Int))(hm:k<m):
  ((an m).map fun(j:Nat)=>((l.take i).count (j:Int):Int)).set k (((l.take i).count (k:Int):Int)+1)=(an m).map fun(j:Nat)=>((l.take (i+1)).count (j:Int):Int):=by
 refine List.ext_getElem (by simp) (fun j h1 h2=> ?_)
 have hj:j<m:=by simpa using h2
 rw [List.getElem_set];simp only [cq,WW];rw [YD,Gy hi,List.count_append,hk];by_cases e:k=j
 ·subst e;rw [if_pos rfl];simp
 ·rw [if_neg e];have: ¬((k:Int)=(j:Int)):=by omega
  simp [List.count_singleton,this]
theorem oZ(s:AL)(v:Int)(hs:s.length≤1000):D9 s v=some (gN (Ae s.length fun i=>decide (v=s.getD i be))):=by
 have key:=Ko (fun w=>BV s v w) (fun i=>(i:Int)) s.length (fun i=>decide (v=s.getD i be)) (fun i=> .inl (i:Int)) (.inr ()) (fun i hi=> ?_) ?_
 ·unfold D9;rw [show CU s v 0=_ from by unfold CU;exact key,Ce]
  cases Ae s.length (fun i=>decide (v=s.getD i be))<;>rfl
 ·simp only [BV,K4];rw [if_pos (Bc hi),Br ⟨by omega,hi⟩,Kb i (by omega)]
  by_cases e:v=s.getD i be
  ·rw [if_pos e,decide_eq_true e];rfl
  ·rw [if_neg e,decide_eq_false e];rfl
 ·simp only [BV];rw [if_neg (Ap _)]
theorem su(l:AL)(h:Zt l)(h1:1≤l.length)(h2:l.length≤1000):G8 1 l=some (Vm l):=by
 have hrng:=Ny l h;have k0:=CF (fun w=>EB l w.1 w.2) (fun i=>((an (GN l).toNat).map (fun(j:Nat)=>((l.take i).count (j:Int):Int)),(i:Int))) l.length ((an (GN l).toNat).map fun(j:Nat)=>(l.count (j:Int):Int)) (fun i hi=> ?_) ?_
 ·have k1:=CF (fun w=>EC l (Kq l) w.1 w.2) (fun i=>((l.take i).map (fun x=>if x=Kq l then(1:Int)else 0),(i:Int))) l.length (Vm l) (fun i hi=> ?_) ?_
  ·have e0:((an (GN l).toNat).map fun(j:Nat)=>((l.take 0).count (j:Int):Int))=ao (GN l).toNat 0:=by
    refine List.ext_getElem (by simp) (fun j h1 h2=> ?_)
    simp
   rw [e0]at k0
   have ei:(Ae ((an (GN l).toNat).map fun(j:Nat)=>(l.count (j:Int):Int)).length fun i=>decide ((1:Int)=((an (GN l).toNat).map fun(j:Nat)=>(l.count (j:Int):Int)).getD i be))=RI l:=by
    unfold RI;rw [RJ,List.length_range];refine Gx fun j hj=> ?_;rw [K5,MC,gP hj];show decide ((1:Int)=(l.count (j:Int):Int))=(l.count (j:Int)==1)
    rw [QH,decide_eq_true_eq,beq_iff_eq];omega
   unfold G8
   rw [if_pos rfl,gH l h h1 h2,Ce,Br (by omega),show GI l (ao (GN l).toNat 0,0)=_ from by unfold GI;exact k0,Ce,
    oZ _ _ (by rw [RJ,List.length_range];omega),ei,Ce,show GJ l (gN (RI l)) ([],0)=_ from by unfold GJ;exact k1,Ce]
  ·have hg:l.getD i be=l[i]:=Az l i hi;simp only [EC,K4,hg];rw [if_pos (Bc hi),Br ⟨by omega,hi⟩,Kb i (by omega)]
   unfold Rz
   have et:(l.take (i+1)).map (fun x=>if x=Kq l then(1:Int)else 0)=(l.take i).map (fun x=>if x=Kq l then(1:Int)else 0)++[if l[i]=Kq l then 1 else 0]:=by
    rw [YD,Gy hi,List.map_append];rfl
   rw [et];by_cases e:l[i]=Kq l
   ·rw [decide_eq_true e,if_pos rfl,if_pos e,Ce,Br (by rw [RJ,Mt];omega)]
   ·rw [decide_eq_false e,if_neg (by decide),if_neg e,Ce,Br (by rw [RJ,Mt];omega)]
  ·simp only [EC];rw [if_neg (Ap _),YF];rfl
 ·have hx:=h l[i] (JQ hi);have htop:=Y8 l l[i] (JQ hi);obtain⟨k,hk⟩: ∃k:Nat,l[i]=(k:Int):=⟨l[i].toNat,by omega⟩
  have hkm:k<(GN l).toNat:=by omega
  have hgd:((an (GN l).toNat).map fun(j:Nat)=>((l.take i).count (j:Int):Int)).getD k be=((l.take i).count (k:Int):Int):=by
   rw [K5,MC,gP hkm];rfl
  have hcl:(l.take i).count (k:Int)≤l.length:=Nat.le_trans List.count_le_length (by rw [Mt];omega)
  have hg:l.getD i be=(k:Int):=by rw [Az l i hi,hk]
  simp only [EB,K4,hg];rw [if_pos (Bc hi),Br ⟨by omega,hi⟩,Br ⟨by omega,by rw [RJ,List.length_range];exact hkm⟩,hgd,Lb _ (by omega),Kb i (by omega),dU l _ i hi k hk hkm]
 ·simp only [EB];rw [if_neg (Ap _),YF]
theorem sw(l:AL)(v:Int):(l.map (fun x=>if x=v then(1:Int)else 0)).sum=(l.count v:Int):=by
 induction l with
 |nil=>rfl
 |cons x l ih=>
  rw [PD,cm,ih,List.count_cons];by_cases e:x=v
  ·subst e;simp;omega
  ·have:(x==v)=false:=by simpa using e
   rw [if_neg e,this];simp
theorem dV(l:AL)(h:Zt l):decide ((l.count (Kq l):Int)=1)=decide (0≤Kq l):=by
 unfold Kq RI
 cases hf:Ae (GN l).toNat (fun j=>l.count (j:Int)==1)with
 |some f=>
  have:=(Cu hf).2
  have:l.count (f:Int)=1:=by simpa using this
  simp only [gN,this];have:0≤(f:Int):=by omega
  simp [this]
 |none=>
  have:l.count (-1)=0:=cy.2 fun hm=>by have:=h _ hm;omega
  simp only [gN,this]
  decide
def Y9(t:Int)(l:AL):AL:=if t=1 then Vm l else l
def P6(E:Am)(t:Int)(l:AL):Bool:=
 if t=1 then decide (0≤Kq l)else if t=2 then !(Ae E.length fun u=>(Ae (E.length-u) (Qm E l u)).isSome).isSome else decide l.Nodup
theorem zz(E:Am)(ids ins:AL)(t:Int)(l:AL)(h:IQ E ids ins=true)(hl:l.length=E.length)(hx:Zt l):LV E ids ins t l=some (P6 E t l):=by
 obtain⟨hE,hE1,hd,_⟩:=M9 h;unfold LV P6;by_cases t1:t=1
 ·rw [if_pos t1,if_pos t1,sZ l hx (by omega),Ce]
 ·rw [if_neg t1,if_neg t1];unfold Ja;rw [if_neg t1];by_cases t2:t=2
  ·obtain⟨a,b,e⟩:=gL E ids ins l hE hd hl;rw [if_pos t2,if_pos t2,e,Ce,Ce]
  ·obtain⟨a,b,e⟩:=gM l (by omega)
   rw [if_neg t2,if_neg t2,e,Ce,Ce]
   congr 1
   by_cases hn:l.Nodup<;>simp [hn]
theorem tC(t:Int)(l:AL)(hx:Zt l):(Y9 t l).length=l.length∧Zt (Y9 t l):=by
 unfold Y9;split
 ·refine⟨by simp [Vm],fun x hm=> ?_⟩
  unfold Vm at hm;rw [JH]at hm;obtain⟨y,_,rfl⟩:=hm
  split<;>omega
 ·exact⟨rfl,hx⟩
theorem A9Q(E:Am)(ids ins:AL)(t:Int)(l:AL)(h:IQ E ids ins=true)(hl:l.length=E.length)(hx:Zt l):G8 t l=some (Y9 t l)∧OB E ids ins t (Y9 t l)=some (P6 E t l):=by
 obtain⟨hE,hE1,hd,_⟩:=M9 h;obtain⟨o1,o2⟩:=tC t l hx;obtain⟨b,e1,e2⟩:=dR E ids ins t (Y9 t l) h (by omega) o2
 by_cases t1:t=1
 ·subst t1
  refine⟨?_, ?_⟩
  ·rw [su l hx (by omega) (by omega)];rfl
  ·rw [e2,←e1];unfold Ja P6;rw [if_pos rfl,if_pos rfl];have ho:Y9 1 l=Vm l:=rfl;rw [ho]at o1 o2 ⊢;rw [Zn (Vm l) (by omega) o2,Ce,Br (by omega)]
   have ha:EJ (Vm l) 0 1=true:=by
    unfold EJ;rw [Ir];intro x hm;unfold Vm at hm;rw [JH]at hm;obtain⟨y,_,rfl⟩:=hm
    split<;>rfl
   rw [if_pos ha,←dV l hx];unfold Vm;rw [sw]
 ·have ho:Y9 t l=l:=by unfold Y9;rw [if_neg t1]
  have hc:=zz E ids ins t l h hl hx;unfold LV at hc;rw [if_neg t1]at hc;rw [ho]at e1 e2 ⊢;rw [e1,Ce]at hc
  refine⟨?_,by rw [e2];exact hc⟩
  unfold G8;rw [if_neg t1,Br (by omega)]
theorem A9R{E:Am}{ids ins:AL}(h:IQ E ids ins=true):JO E ins:=by
 obtain⟨hE,hE1,hd,hp⟩:=M9 h
 refine⟨hE1,hE, ?_,hd,fun v i hv hi=> ?_⟩
 ·unfold IQ at h;simp only [FM,decide_eq_true_eq]at h;omega
 ·obtain⟨w,p,e1,_,hw,_⟩:=hp v i hv hi;unfold Rk;rw [e1]
  exact⟨by omega,by simpa using hw⟩
theorem Zp(l:AL)(h:Zt l):0≤Kq l↔ ∃x,l.count x=1:=by
 unfold Kq RI
 constructor
 ·intro h0
  cases hf:Ae (GN l).toNat (fun j=>l.count (j:Int)==1)with
  |some f=>exact⟨(f:Int),by simpa using (Cu hf).2⟩
  |none=>rw [hf,oV]at h0;omega
 ·rintro⟨x,hx⟩
  have hm:x∈l:=co.1 (by omega)
  have h1:=h x hm;have h2:=Y8 l x hm
  cases hf:Ae (GN l).toNat (fun j=>l.count (j:Int)==1)with
  |some f=>rw [oW];omega
  |none=>
   have:=Ig hf x.toNat (by omega)
   rw [show((x.toNat:Nat):Int)=x by omega,hx]at this
   simp at this
theorem og{E:Am}{ins:AL}(hN:JO E ins)(t:Int)(k d:Nat)(h:P6 E t (Kr E ins k)=true):P6 E t (Kr E ins (k+d))=true:=by
 have hs:=OG hN k;have hs2:=OG hN (k+d);unfold P6 at h ⊢;by_cases t1:t=1
 ·rw [if_pos t1]at h ⊢;rw [decide_eq_true_eq]at h ⊢;obtain⟨x,hx⟩:=(Zp _ hs).1 h
  refine(Zp _ hs2).2 ?_
  have hm:x∈Kr E ins k:=co.1 (by omega)
  rw [OE,Us]at hm hx;obtain⟨u,hu,rfl⟩:=JH.1 hm;have hu':=MF.1 hu
  refine⟨cv (K3 E ins (k+d)) u, ?_⟩
  rw [OE,Us];rw [List.count_eq_countP,List.countP_map]at hx ⊢
  have hle:(an E.length).countP ((fun x=>x==cv (K3 E ins (k+d)) u)∘cv (K3 E ins (k+d)))≤(an E.length).countP ((fun x=>x==cv (K3 E ins k) u)∘cv (K3 E ins k)):=by
   refine List.countP_mono_left fun w hw hb=> ?_;have hb:cv (K3 E ins (k+d)) w=cv (K3 E ins (k+d)) u:=by simpa using hb
   have:=Ql hN k d w u (MF.1 hw) hu' ((Ut _ _ _).1 hb)
   simpa using (Ut _ _ _).2 this
  have hpos:0<(an E.length).countP ((fun x=>x==cv (K3 E ins (k+d)) u)∘cv (K3 E ins (k+d))):=List.countP_pos_iff.2 ⟨u,hu,by simp⟩
  omega
 ·rw [if_neg t1]at h ⊢;by_cases t2:t=2
  ·rw [if_pos t2]at h ⊢;rw [Ku,KR]at h ⊢;intro hc;refine h ?_;obtain⟨u,hu,hp⟩:=Bg.1 hc;obtain⟨i,hi,hq⟩:=Bg.1 hp;refine Bg.2 ⟨u,hu,Bg.2 ⟨i,hi, ?_⟩⟩;unfold Qm at hq ⊢;rw [FM,decide_eq_true_eq]at hq ⊢
   exact⟨hq.1,(QC hu (by omega)).2 (Ql hN k d u (u+i) hu (by omega) ((QC hu (by omega)).1 hq.2))⟩
  ·rw [if_neg t2]at h ⊢;rw [decide_eq_true_eq,OE,Us,List.Nodup,List.pairwise_map]at h ⊢;refine List.Pairwise.imp_of_mem (fun {a b} ha hb hab hc=>hab ?_) h
   exact(Ut _ _ _).2 (Ql hN k d a b (MF.1 ha) (MF.1 hb) ((Ut _ _ _).1 hc))
theorem dW(E:Am)(ids ins:AL)(t:Int)(hE:DL E)(h1:ids.length<1099511627776)(h2:ins.length<1099511627776): ∃x y,GM E ids ins t=some (x,y)∧GL E ids ins t=some (x,y):=by
 unfold GM GL Q8 Q6;rw [Br hE,Br h1,Br h2,Br hE,Br h1,Br h2];by_cases h:IQ E ids ins=true
 ·by_cases q1:Iq t 1 3=true
  ·have hN:=A9R h;obtain⟨T,hT,e1,e2,_⟩:=Zm hN ids;have cs: ∀k,LV E ids ins t (Kr E ins k)=some (P6 E t (Kr E ins k)):=fun k=>zz E ids ins t _ h (Ic E ins k) (OG hN k)
   have ci: ∀k,CL (Kr E ins k) E ids ins t=some (P6 E t (Kr E ins k)):=fun k=>by
    obtain⟨c1,c2⟩:=A9Q E ids ins t (Kr E ins k) h (Ic E ins k) (OG hN k);unfold CL;rw [c1,Ce,c2,Ce]
   have hi:JE E ids ins (fun a0=>CL a0 E ids ins t)=some (match Ae (T+1) (fun k=>P6 E t (Kr E ins k))with|some f=>((f:Int),true)|none=>(0,false)):=by
    have key:=Ko (fun w=>EF E ids ins (fun a0=>CL a0 E ids ins t) ((T:Int),Kr E ins T) w.1 w.2) (fun k=>(Kr E ins k,(k:Int))) (T+1) (fun k=>P6 E t (Kr E ins k)) (fun k=> .inl (k:Int)) (.inr ()) (fun k hk=> ?_) ?_
    ·unfold JE;rw [e1,Ce,oD hN ids,Ce,show GK E ids ins (fun a0=>CL a0 E ids ins t) ((T:Int),Kr E ins T) (Ju E ins [],0)=_ from by unfold GK;exact key,Ce]
     cases Ae (T+1) (fun k=>P6 E t (Kr E ins k))<;>rfl
    ·simp only [EF];rw [if_pos (by omega),ci,Ce,dM hN ids _ (Ic E ins k),Ce,Kb k (by omega)];rfl
    ·simp only [EF];rw [if_neg (by omega)]
   simp only [if_pos h,if_pos q1,Ce,hi,e2,cs];by_cases hc:P6 E t (Kr E ins T)=true
   ·rw [if_pos hc];obtain⟨f,hf⟩: ∃f,Ae (T+1) (fun k=>P6 E t (Kr E ins k))=some f:=Option.isSome_iff_exists.1 (Bg.2 ⟨T,by omega,hc⟩)
    have hlt:=Cu hf;have hmin:=LW hf;have key:=CF (fun w=>DC E ids ins t w) (fun k=>(k:Int)) f (f:Int) (fun k hk=> ?_) ?_
    ·rw [hf,show Ei E ids ins t 0=_ from by unfold Ei;exact key,Ce]
     exact⟨_,_,rfl,rfl⟩
    ·simp only [DC];rw [sQ hN ids k (by omega),Ce,cs,Ce,hmin k hk,if_neg (by decide),Kb k (by omega)]
    ·simp only [DC];rw [sQ hN ids f (by omega),Ce,cs,Ce,if_pos hlt.2]
   ·rw [if_neg hc,KI (fun k hk=>by
     cases hb:P6 E t (Kr E ins k)with
     |false=>rfl
     |true=>exact absurd (by have:=og hN t k (T-k) hb;rwa [show k+(T-k)=T by omega]at this) hc)]
    exact⟨_,_,rfl,rfl⟩
  ·simp only [if_pos h,if_neg q1,Ce];exact⟨_,_,rfl,rfl⟩
 ·simp only [if_neg h];exact⟨_,_,rfl,rfl⟩
theorem QD(E:Am)(ids ins:AL)(t:Int)(hE:Oa E)(hids:ids.length<9223372036854775808)(hins:ins.length<9223372036854775808):EL E ids ins t=some true:=by
 unfold EL;rw [Br hE,Br hids,Br hins,Br (by omega)]
 by_cases q1:oz 1048576 E ids ins<0
 ·rw [if_pos q1]
 ·obtain⟨g1,sE,g2⟩:=rG (by omega) q1
  have tE:=JX (fE E);have h1:ids.length<1099511627776:=by omega
  have h2:ins.length<1099511627776:=by omega
  obtain⟨x,y,hS,hI⟩:=dW E ids ins t sE h1 h2;rw [if_neg q1,Br sE,Br h1,Br h2];simp only [hS,hI,Ce,dA,if_true]
  cases y<;>simp
theorem ja(ds:List D)(h:A0F Ac [41,3] ds):Y.call 6 ds []=some (.bool true,[]):=by
 rcases ds with _|⟨x,_|⟨y,_|⟨_,_⟩⟩⟩
 ·cases h
 ·exact h.2.elim
 ·obtain⟨E,ids,ins,rfl,hE,hids,hins⟩:=bq A1U A1T mU mV ty3 A1Q h.1;obtain⟨t,rfl,_⟩:=A1F ty3 h.2.1;exact KH E ids ins t (QD E ids ins t (nI hE) (Nat.lt_of_le_of_lt hids.1 (by decide)) (Nat.lt_of_le_of_lt hins.1 (by decide)))
 ·exact h.2.2.elim
end Go.Proofs.Ytclkfhhdikfcpaa
end
