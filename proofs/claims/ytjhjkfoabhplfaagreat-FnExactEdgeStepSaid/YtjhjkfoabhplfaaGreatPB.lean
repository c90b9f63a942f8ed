/- Problems copied, compared, measured and marked, as plain functions. Conditions: the lists are short. -/
import Derived.Test.YtjhjkfoabhplfaaGreatL6
import Derived.Test.YtjhjkfoabhplfaaGreatBase
namespace Go.Proofs.YtjhjkfoabhplfaaGreat
open Go Dv
set_option linter.unusedSimpArgs false
set_option linter.unusedVariables false
set_option maxRecDepth 100000
set_option maxHeartbeats 4000000
noncomputable def MV(Aw Ay:Int)(AR AY:List (List Int)):Option (Int×Int×(List (List Int))×(List (List Int))):= ck (Ai AR)<| ck (Ai AY)<| some (Aw,Ay,AR,AY)
def k8:SC:= .seq (.ops [oX 1 (.box 24 (tK 0)) 0,oX 2 (.alloc 26) 0]) (.seq (.ops [oX 3 (.alloc 26) 0]) (.seq (.ops [oF 4 24 1 0,oL 5 3 4 3,oF 6 26 3 0,oS 3 6 5]) (.seq (.ops [oF 7 24 1 1,oL 8 3 7 3,oF 9 26 3 1,oS 3 9 8]) (.seq (.ops [oF 10 24 1 2,oL 11 22 10 22,oC 12 23 [(tK 11)] [22] 22,oF 13 26 3 2,oS 22 13 12]) (.seq (.ops [oF 14 24 1 3,oL 15 22 14 22,oC 16 23 [(tK 15)] [22] 22,oF 17 26 3 3,oS 22 17 16]) (.seq (.ops [oL 18 26 3 26,oS 26 2 18]) .ret))))))
theorem ABt:Tryz.f8.body.map (BO lends)=some k8:=by kernel_rfl
theorem ok8:Bi Tryz.f8 1=true:=by kernel_rfl
theorem c8{a l:List D}{r:D×List D}(h:Bf Y.env k8 (EG AV l.length [ResultVar.cell 2 26] r) (entry a l))(ha:a.length=1):Y.call 8 a l=some r:=
 AL (Y:=Y) rfl Tryz.func8 (ha▸ok8) ABt h
theorem SL(Aw Ay:Int)(AR AY:List (List Int)){r:Int×Int×(List (List Int))×(List (List Int))}(h:MV Aw Ay AR AY=some r):Y.call 8 [D.agg [D.int .i64 Aw,D.int .i64 Ay,D.sl 27 (AB (fun x=>D.sl 3 (AB (D.int .i64) x)) AR),D.sl 27 (AB (fun x=>D.sl 3 (AB (D.int .i64) x)) AY)]] []=some (D.agg [D.int .i64 r.1,D.int .i64 r.2.1,D.own 27 (AB (fun x=>D.own 3 (AB (D.int .i64) x)) r.2.2.1),D.own 27 (AB (fun x=>D.own 3 (AB (D.int .i64) x)) r.2.2.2)],[]):=by
 refine c8 ?_ rfl;unfold k8;unfold MV at h;obtain⟨e1,h⟩:=Av h;have c2:=Qw AR e1;obtain⟨e3,h⟩:=Av h;have c4:=Qw AY e3;cases h;simp (maxDischargeDepth:=9) only [↓AC,A7,AO,BM,AA,AJ,↓reduceIte,Nat.reduceEqDiff,Nat.reduceLT,Nat.reduceAdd,c2,c4]
theorem VW(a b:Int)(n e:List (List Int))(hn:Ai n)(he:Ai e):MV a b n e=some (a,b,n,e):=by
 unfold MV;rw [Az hn,Az he]
theorem BN(Aw Ay:Int)(AR AY:List (List Int))(h0:Ai AR)(h1:Ai AY):Y.call 8 [D.agg [D.int .i64 Aw,D.int .i64 Ay,D.sl 27 (AB (fun x=>D.sl 3 (AB (D.int .i64) x)) AR),D.sl 27 (AB (fun x=>D.sl 3 (AB (D.int .i64) x)) AY)]] []=some (D.agg [D.int .i64 Aw,D.int .i64 Ay,D.own 27 (AB (fun x=>D.own 3 (AB (D.int .i64) x)) AR),D.own 27 (AB (fun x=>D.own 3 (AB (D.int .i64) x)) AY)],[]):=SL Aw Ay AR AY (VW Aw Ay AR AY h0 h1)
noncomputable def MW(Aw Ay:Int)(AR AY:List (List Int))(Im Io:Int)(J9 JA:List (List Int)):Option (Bool):= if Aw=Im then if Ay=Io then ck (Ai AR)<| if(decide (AR=J9))=true then ck (Ai AY)<| if(decide (AY=JA))=true then some true else some false else some false else some false else some false
def k10:SC:= .seq (.ops [oX 2 (.box 26 (tK 0)) 0,oX 3 (.box 26 (tK 1)) 0,oX 4 (.assign (.const (.bool false))) 4]) (.seq (.seq (.ops [oF 5 26 2 0,oL 6 3 5 3,oF 7 26 3 0,oL 8 3 7 3,oB 9 .neq 3 (tK 6) (tK 8) 3 4]) (.cond (tK 9) (.seq (.ops [oX 4 (.assign (.const (.bool false))) 4]) .ret) .skip)) (.seq (.seq (.ops [oF 10 26 2 1,oL 11 3 10 3,oF 12 26 3 1,oL 13 3 12 3,oB 14 .neq 3 (tK 11) (tK 13) 3 4]) (.cond (tK 14) (.seq (.ops [oX 4 (.assign (.const (.bool false))) 4]) .ret) .skip)) (.seq (.seq (.ops [oF 15 26 2 2,oL 16 22 15 22,oF 17 26 3 2,oL 18 22 17 22,oC 19 26 [(tK 16),(tK 18)] [22,22] 4,oX 20 (.unOp .not 4 (tK 19)) 4]) (.cond (tK 20) (.seq (.ops [oX 4 (.assign (.const (.bool false))) 4]) .ret) .skip)) (.seq (.seq (.ops [oF 21 26 2 3,oL 22 22 21 22,oF 23 26 3 3,oL 24 22 23 22,oC 25 26 [(tK 22),(tK 24)] [22,22] 4,oX 26 (.unOp .not 4 (tK 25)) 4]) (.cond (tK 26) (.seq (.ops [oX 4 (.assign (.const (.bool false))) 4]) .ret) .skip)) (.seq (.ops [oX 4 (.assign (.const (.bool true))) 4]) .ret)))))
theorem A33:Tryz.f10.body.map (BO lends)=some k10:=by kernel_rfl
theorem AIA:Bi Tryz.f10 2=true:=by kernel_rfl
theorem c10{a l:List D}{r:D×List D}(h:Bf Y.env k10 (EG AV l.length [ResultVar.tmp 4] r) (entry a l))(ha:a.length=2):Y.call 10 a l=some r:=
 AL (Y:=Y) rfl Tryz.func10 (ha▸AIA) A33 h
theorem SN(Aw Ay:Int)(AR AY:List (List Int))(Im Io:Int)(J9 JA:List (List Int)){r:Bool}(h:MW Aw Ay AR AY Im Io J9 JA=some r):Y.call 10 [D.agg [D.int .i64 Aw,D.int .i64 Ay,D.sl 27 (AB (fun x=>D.sl 3 (AB (D.int .i64) x)) AR),D.sl 27 (AB (fun x=>D.sl 3 (AB (D.int .i64) x)) AY)],D.agg [D.int .i64 Im,D.int .i64 Io,D.sl 27 (AB (fun x=>D.sl 3 (AB (D.int .i64) x)) J9),D.sl 27 (AB (fun x=>D.sl 3 (AB (D.int .i64) x)) JA)]] []=some (D.bool r,[]):=by
 refine c10 ?_ rfl;unfold k10;unfold MW at h;by_cases e1:Aw=Im
 ·rw [if_pos e1]at h;by_cases e2:Ay=Io
  ·rw [if_pos e2]at h;obtain⟨e3,h⟩:=Av h;have c4:=Qy AR J9 e3;by_cases e5:(decide (AR=J9))=true
   ·rw [if_pos e5]at h;obtain⟨e6,h⟩:=Av h;have c7:=Qy AY JA e6;by_cases e8:(decide (AY=JA))=true
    ·rw [if_pos e8]at h;cases h;simp (maxDischargeDepth:=9) only [↓AC,A7,BM,AA,AJ,↓reduceIte,Nat.reduceEqDiff,Nat.reduceLT,Nat.reduceAdd,decide_eq_true e1,decide_eq_true e2,c4,e5,c7,e8]
    ·rw [if_neg e8]at h;have e8f:(decide (AY=JA))=false:=Bool.eq_false_iff.mpr e8;cases h;simp (maxDischargeDepth:=9) only [↓AC,A7,BM,AA,AJ,↓reduceIte,Nat.reduceEqDiff,Nat.reduceLT,Nat.reduceAdd,decide_eq_true e1,decide_eq_true e2,c4,e5,c7,e8f]
   ·rw [if_neg e5]at h;have e5f:(decide (AR=J9))=false:=Bool.eq_false_iff.mpr e5;cases h;simp (maxDischargeDepth:=9) only [↓AC,A7,BM,AA,AJ,↓reduceIte,Nat.reduceEqDiff,Nat.reduceLT,Nat.reduceAdd,decide_eq_true e1,decide_eq_true e2,c4,e5f]
  ·rw [if_neg e2]at h;cases h;simp (maxDischargeDepth:=9) only [↓AC,A7,AA,AJ,↓reduceIte,Nat.reduceEqDiff,Nat.reduceLT,Nat.reduceAdd,decide_eq_true e1,e2]
 ·rw [if_neg e1]at h;cases h;simp (maxDischargeDepth:=9) only [↓AC,A7,AA,AJ,↓reduceIte,Nat.reduceEqDiff,Nat.reduceLT,Nat.reduceAdd,e1]
def EE(a b:Int)(n e:List (List Int))(a' b':Int)(n' e':List (List Int)):Bool:=decide (a=a'∧b=b'∧n=n'∧e=e')
theorem jK(a b:Int)(n e:List (List Int)):EE a b n e a b n e=true:=by simp [EE]
theorem VX(a b:Int)(n e:List (List Int))(a' b':Int)(n' e':List (List Int))(hn:Ai n)(he:Ai e):MW a b n e a' b' n' e'=some (EE a b n e a' b' n' e'):=by
 unfold MW EE;by_cases h1:a=a'<;>by_cases h2:b=b'<;>by_cases h3:n=n'<;>by_cases h4:e=e'<;>simp [h1,h2,h3,h4,ck]<;>(try subst h3)<;>(try subst h4)<;>simp_all
theorem Am(Aw Ay:Int)(AR AY:List (List Int))(Im Io:Int)(J9 JA:List (List Int))(h0:Ai AR)(h1:Ai AY):Y.call 10 [D.agg [D.int .i64 Aw,D.int .i64 Ay,D.sl 27 (AB (fun x=>D.sl 3 (AB (D.int .i64) x)) AR),D.sl 27 (AB (fun x=>D.sl 3 (AB (D.int .i64) x)) AY)],D.agg [D.int .i64 Im,D.int .i64 Io,D.sl 27 (AB (fun x=>D.sl 3 (AB (D.int .i64) x)) J9),D.sl 27 (AB (fun x=>D.sl 3 (AB (D.int .i64) x)) JA)]] []=some (D.bool (EE Aw Ay AR AY Im Io J9 JA),[]):=SN Aw Ay AR AY Im Io J9 JA (VX Aw Ay AR AY Im Io J9 JA h0 h1)
noncomputable def MX(Aw Ay:Int)(AR AY:List (List Int))(left:Int):Option (Int):= ck (Q8 AR)<| ck (0≤left∧left≤1048576)<| if(Nj left (AR.length+Ab AR))<0 then some (-1) else ck (Q8 AY)<| ck (0≤(Nj left (AR.length+Ab AR))∧(Nj left (AR.length+Ab AR))≤1048576)<| if(Nj (Nj left (AR.length+Ab AR)) (AY.length+Ab AY))<0 then some (-1) else some (Nj (Nj left (AR.length+Ab AR)) (AY.length+Ab AY))
def k6:SC:= .seq (.ops [oX 2 (.box 24 (tK 0)) 0,oX 4 (.assign (iK 0)) 3]) (.seq (.ops [oF 5 24 2 2,oL 6 22 5 22,oM 7 1 3,oC 8 20 [(tK 6),(tK 7)] [22,3] 3,oA 1 8 3]) (.seq (.seq (.ops [oM 9 1 3,oB 10 .lss 3 (tK 9) (iK 0) 3 4]) (.cond (tK 10) (.seq (.ops [oX 4 (.assign (.const (.int .i64 (-1)))) 3]) .ret) .skip)) (.seq (.ops [oF 11 24 2 3,oL 12 22 11 22,oM 13 1 3,oC 14 20 [(tK 12),(tK 13)] [22,3] 3,oA 1 14 3]) (.seq (.seq (.ops [oM 15 1 3,oB 16 .lss 3 (tK 15) (iK 0) 3 4]) (.cond (tK 16) (.seq (.ops [oX 4 (.assign (.const (.int .i64 (-1)))) 3]) .ret) .skip)) (.seq (.ops [oM 17 1 3,oA 4 17 3]) .ret)))))
theorem ABu:Tryz.f6.body.map (BO lends)=some k6:=by kernel_rfl
theorem ok6:Bi Tryz.f6 2=true:=by kernel_rfl
theorem c6{a l:List D}{r:D×List D}(h:Bf Y.env k6 (EG AV l.length [ResultVar.tmp 4] r) (entry a l))(ha:a.length=2):Y.call 6 a l=some r:=
 AL (Y:=Y) rfl Tryz.func6 (ha▸ok6) ABu h
theorem SQ(Aw Ay:Int)(AR AY:List (List Int))(left:Int){r:Int}(h:MX Aw Ay AR AY left=some r):Y.call 6 [D.agg [D.int .i64 Aw,D.int .i64 Ay,D.sl 27 (AB (fun x=>D.sl 3 (AB (D.int .i64) x)) AR),D.sl 27 (AB (fun x=>D.sl 3 (AB (D.int .i64) x)) AY)],D.int .i64 left] []=some (D.int .i64 r,[]):=by
 refine c6 ?_ rfl;unfold k6;unfold MX at h;obtain⟨e1,h⟩:=Av h;obtain⟨e2,h⟩:=Av h;have c3:=R5 AR left e1 e2;by_cases e4:(Nj left (AR.length+Ab AR))<0
 ·rw [if_pos e4]at h;cases h;simp (maxDischargeDepth:=9) only [↓AC,A7,BM,AA,AJ,↓reduceIte,Nat.reduceEqDiff,Nat.reduceLT,Nat.reduceAdd,Int.reduceNeg,c3,e4]
 ·rw [if_neg e4]at h;obtain⟨e5,h⟩:=Av h;obtain⟨e6,h⟩:=Av h;have c7:=R5 AY (Nj left (AR.length+Ab AR)) e5 e6;by_cases e8:(Nj (Nj left (AR.length+Ab AR)) (AY.length+Ab AY))<0
  ·rw [if_pos e8]at h;cases h;simp (maxDischargeDepth:=9) only [↓AC,A7,BM,AA,AJ,↓reduceIte,Nat.reduceEqDiff,Nat.reduceLT,Nat.reduceAdd,Int.reduceNeg,c3,e4,c7,e8]
  ·rw [if_neg e8]at h;cases h;simp (maxDischargeDepth:=9) only [↓AC,A7,BM,AA,AJ,↓reduceIte,Nat.reduceEqDiff,Nat.reduceLT,Nat.reduceAdd,Int.reduceNeg,c3,e4,c7,e8]
def vQ(left:Int)(ns es:List (List Int)):Int:=if Nj left (ns.length+Ab ns)<0 then-1 else Nj (Nj left (ns.length+Ab ns)) (es.length+Ab es)
theorem VY(a b:Int)(n e:List (List Int))(left:Int)(hn:Q8 n)(he:Q8 e)(hl:0≤left∧left≤1048576):MX a b n e left=some (vQ left n e):=by
 have h1:=CZ n;unfold MX vQ;rw [Az hn,Az hl];rcases PT left (n.length+Ab n)with c | ⟨c,c'⟩
 ·rw [c];rfl
 ·have hc: ¬left-(n.length+Ab n)<0:=by omega
  have hd:0≤left-(n.length+Ab n)∧left-(n.length+Ab n)≤1048576:=by omega
  rw [c];simp only [if_neg hc,Az he,Az hd];split
  ·rename_i h
   rcases PT (left-(n.length+Ab n)) (e.length+Ab e)with d | ⟨d,d'⟩
   ·rw [d]
   ·omega
  ·rfl
theorem VZ(Aw Ay:Int)(AR AY:List (List Int))(left:Int)(h0:Q8 AR)(h1:Q8 AY)(h2:0≤left∧left≤1048576):Y.call 6 [D.agg [D.int .i64 Aw,D.int .i64 Ay,D.sl 27 (AB (fun x=>D.sl 3 (AB (D.int .i64) x)) AR),D.sl 27 (AB (fun x=>D.sl 3 (AB (D.int .i64) x)) AY)],D.int .i64 left] []=some (D.int .i64 (vQ left AR AY),[]):=SQ Aw Ay AR AY left (VY Aw Ay AR AY left h0 h1 h2)
theorem xS{ns es:List (List Int)}{left:Int}(hl:left≤1048576)(h: ¬vQ left ns es<0):ns.length+Ab ns+es.length+Ab es≤1048576∧Ai ns∧Ai es∧vQ left ns es≤left:=by
 have t1:=CZ ns;have t2:=CZ es
 have key:(ns.length:Int)+Ab ns+es.length+Ab es≤1048576∧vQ left ns es≤left:=by
  unfold vQ at h ⊢;rcases PT left (ns.length+Ab ns)with c | ⟨c,c'⟩
  ·rw [c]at h;simp at h
  ·rw [c,if_neg (by omega)]at h
   rw [c,if_neg (by omega)]
   rcases PT (left-(ns.length+Ab ns)) (es.length+Ab es)with d | ⟨d,d'⟩
   ·rw [d]at h;simp at h
   ·omega
 exact⟨key.1,Xo (by omega),Xo (by omega),key.2⟩
noncomputable def KG(Aw Ay:Int)(AR AY:List (List Int))(k:Int):Option (Int×(List (List Int))×(List (List Int))):= ck (Ai AR)<| ck (0≤k∧k+Ab AR<1099511627776)<| ck (Ai AY)<| ck (0≤(k+Ab AR)∧(k+Ab AR)+Ab AY<1099511627776)<| some (((k+Ab AR)+Ab AY),(Ca k AR),(Ca (k+Ab AR) AY))
def k12:SC:= .seq (.ops [oX 2 (.box 26 (tK 0)) 0,oX 4 (.assign (iK 0)) 3]) (.seq (.ops [oF 5 26 2 2,oL 6 22 5 22,oM 7 1 3,oC 8 27 [(tK 6),(tK 7)] [22,3] 3,oA 1 8 3]) (.seq (.ops [oF 9 26 2 3,oL 10 22 9 22,oM 11 1 3,oC 12 27 [(tK 10),(tK 11)] [22,3] 3,oA 1 12 3]) (.seq (.ops [oM 13 1 3,oA 4 13 3]) .ret)))
theorem A34:Tryz.f12.body.map (BO lends)=some k12:=by kernel_rfl
theorem AIC:Bi Tryz.f12 2=true:=by kernel_rfl
theorem c12{a l:List D}{r:D×List D}(h:Bf Y.env k12 (EG AV l.length [ResultVar.tmp 4] r) (entry a l))(ha:a.length=2):Y.call 12 a l=some r:=
 AL (Y:=Y) rfl Tryz.func12 (ha▸AIC) A34 h
theorem Q9(Aw Ay:Int)(AR AY:List (List Int))(k:Int){r:Int×(List (List Int))×(List (List Int))}(h:KG Aw Ay AR AY k=some r):Y.call 12 [D.agg [D.int .i64 Aw,D.int .i64 Ay,D.vw [100000] 0 0,D.vw [100001] 0 0],D.int .i64 k] [D.own 27 (AB (fun x=>D.own 3 (AB (D.int .i64) x)) AR),D.own 27 (AB (fun x=>D.own 3 (AB (D.int .i64) x)) AY)]=some (D.int .i64 r.1,[D.own 27 (AB (fun x=>D.own 3 (AB (D.int .i64) x)) r.2.1),D.own 27 (AB (fun x=>D.own 3 (AB (D.int .i64) x)) r.2.2)]):=by
 refine c12 ?_ rfl;unfold k12;unfold KG at h;obtain⟨e1,h⟩:=Av h;obtain⟨e2,h⟩:=Av h;have c3:=Ox AR k e1 e2;obtain⟨e4,h⟩:=Av h;obtain⟨e5,h⟩:=Av h;have c6:=Ox AY (k+Ab AR) e4 e5;cases h;simp (maxDischargeDepth:=9) only [↓AC,A7,AO,BM,AA,AJ,↓reduceIte,Nat.reduceEqDiff,Nat.reduceLT,Nat.reduceAdd,Nat.reduceSub,c3,c6]
theorem SS(a b:Int)(n e:List (List Int))(k:Int)(hn:Ai n)(he:Ai e)(hk:0≤k∧k+Ab n+Ab e<1099511627776):KG a b n e k=some (k+Ab n+Ab e,Ca k n,Ca (k+Ab n) e):=by
 have h1:=CZ n;have h2:=CZ e;unfold KG;rw [Az hn,Az (by omega),Az he,Az (by omega)]
theorem Bg(Aw Ay:Int)(AR AY:List (List Int))(k:Int)(h0:Ai AR)(h1:Ai AY)(h2:0≤k∧k+Ab AR+Ab AY<1099511627776):Y.call 12 [D.agg [D.int .i64 Aw,D.int .i64 Ay,D.vw [100000] 0 0,D.vw [100001] 0 0],D.int .i64 k] [D.own 27 (AB (fun x=>D.own 3 (AB (D.int .i64) x)) AR),D.own 27 (AB (fun x=>D.own 3 (AB (D.int .i64) x)) AY)]=some (D.int .i64 (k+Ab AR+Ab AY),[D.own 27 (AB (fun x=>D.own 3 (AB (D.int .i64) x)) (Ca k AR)),D.own 27 (AB (fun x=>D.own 3 (AB (D.int .i64) x)) (Ca (k+Ab AR) AY))]):=Q9 Aw Ay AR AY k (SS Aw Ay AR AY k h0 h1 h2)
noncomputable def D7(Aw Ay:Int)(AR AY:List (List Int))(k:Int):Option (Int):= (JJ AR k).bind fun Cv=> if Cv<0 then some (-1) else (JJ AY Cv).bind fun D6=> if D6<0 then some (-1) else some D6
def k14:SC:= .seq (.ops [oX 2 (.box 26 (tK 0)) 0,oX 4 (.assign (iK 0)) 3]) (.seq (.ops [oF 5 26 2 2,oL 6 22 5 22,oM 7 1 3,oC 8 28 [(tK 6),(tK 7)] [22,3] 3,oA 1 8 3]) (.seq (.seq (.ops [oM 9 1 3,oB 10 .lss 3 (tK 9) (iK 0) 3 4]) (.cond (tK 10) (.seq (.ops [oX 4 (.assign (.const (.int .i64 (-1)))) 3]) .ret) .skip)) (.seq (.ops [oF 11 26 2 3,oL 12 22 11 22,oM 13 1 3,oC 14 28 [(tK 12),(tK 13)] [22,3] 3,oA 1 14 3]) (.seq (.seq (.ops [oM 15 1 3,oB 16 .lss 3 (tK 15) (iK 0) 3 4]) (.cond (tK 16) (.seq (.ops [oX 4 (.assign (.const (.int .i64 (-1)))) 3]) .ret) .skip)) (.seq (.ops [oM 17 1 3,oA 4 17 3]) .ret)))))
theorem A35:Tryz.f14.body.map (BO lends)=some k14:=by kernel_rfl
theorem AIE:Bi Tryz.f14 2=true:=by kernel_rfl
theorem aL{a l:List D}{r:D×List D}(h:Bf Y.env k14 (EG AV l.length [ResultVar.tmp 4] r) (entry a l))(ha:a.length=2):Y.call 14 a l=some r:=
 AL (Y:=Y) rfl Tryz.func14 (ha▸AIE) A35 h
theorem DX(Aw Ay:Int)(AR AY:List (List Int))(k:Int){r:Int}(h:D7 Aw Ay AR AY k=some r):Y.call 14 [D.agg [D.int .i64 Aw,D.int .i64 Ay,D.sl 27 (AB (fun x=>D.sl 3 (AB (D.int .i64) x)) AR),D.sl 27 (AB (fun x=>D.sl 3 (AB (D.int .i64) x)) AY)],D.int .i64 k] []=some (D.int .i64 r,[]):=by
 refine aL ?_ rfl;unfold k14;unfold D7 at h;obtain⟨Cv,hl1,h⟩:=AU h;try dsimp only at h
 have c1:=NN AR k hl1;by_cases e2:Cv<0
 ·rw [if_pos e2]at h;cases h;simp (maxDischargeDepth:=9) only [↓AC,A7,BM,AA,AJ,↓reduceIte,Nat.reduceEqDiff,Nat.reduceLT,Nat.reduceAdd,Int.reduceNeg,c1,e2]
 ·rw [if_neg e2]at h;obtain⟨D6,hl3,h⟩:=AU h;try dsimp only at h
  have c3:=NN AY Cv hl3;by_cases e4:D6<0
  ·rw [if_pos e4]at h;cases h;simp (maxDischargeDepth:=9) only [↓AC,A7,BM,AA,AJ,↓reduceIte,Nat.reduceEqDiff,Nat.reduceLT,Nat.reduceAdd,Int.reduceNeg,c1,e2,c3,e4]
  ·rw [if_neg e4]at h;cases h;simp (maxDischargeDepth:=9) only [↓AC,A7,BM,AA,AJ,↓reduceIte,Nat.reduceEqDiff,Nat.reduceLT,Nat.reduceAdd,Int.reduceNeg,c1,e2,c3,e4]
theorem SV(a b:Int)(n e:List (List Int))(k:Int)(hn:Ai n)(he:Ai e)(hk:0≤k∧k+Ab n+Ab e<1099511627776):D7 a b (Ca k n) (Ca (k+Ab n) e) k=some (k+Ab n+Ab e):=by
 have h1:=CZ n;have h2:=CZ e;unfold D7;rw [Oy n k hn (by omega),Option.bind_some,if_neg (by omega),Oy e _ he (by omega),Option.bind_some,if_neg (by omega)]
theorem kP{l:List (List Int)}(h:kH l):Q8 l:=⟨Nat.lt_of_le_of_lt h.1 (by decide),fun x hx=>Nat.lt_of_le_of_lt (h.2 x hx).1 (by decide)⟩
end Go.Proofs.YtjhjkfoabhplfaaGreat
