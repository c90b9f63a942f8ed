/- Problems copied, compared, measured and marked, as plain functions. Conditions: the lists are short. -/
import Derived.Test.YtjhjkfoabhplfaaGreatL6
import Derived.Test.YtjhjkfoabhplfaaGreatBase
namespace Go.Proofs.YtjhjkfoabhplfaaGreat
open Go Dv
set_option linter.unusedSimpArgs false
set_option linter.unusedVariables false
set_option maxRecDepth 100000
set_option maxHeartbeats 4000000
noncomputable def OW(Az BA:Int)(AQ Ab:List (List Int)):Option (Int×Int×(List (List Int))×(List (List Int))):= ck (Ak AQ)<| ck (Ak Ab)<| some (Az,BA,AQ,Ab)
def k8:SC:= .seq (.ops [oX 1 (.box 24 (tK 0)) 0,oX 2 (.alloc 26) 0]) (.seq (.ops [oX 3 (.alloc 26) 0]) (.seq (.ops [oF 4 24 1 0,oL 5 3 4 3,oF 6 26 3 0,oS 3 6 5]) (.seq (.ops [oF 7 24 1 1,oL 8 3 7 3,oF 9 26 3 1,oS 3 9 8]) (.seq (.ops [oF 10 24 1 2,oL 11 22 10 22,oC 12 23 [(tK 11)] [22] 22,oF 13 26 3 2,oS 22 13 12]) (.seq (.ops [oF 14 24 1 3,oL 15 22 14 22,oC 16 23 [(tK 15)] [22] 22,oF 17 26 3 3,oS 22 17 16]) (.seq (.ops [oL 18 26 3 26,oS 26 2 18]) .ret))))))
theorem ACC:Tryz.f8.body.map (BP lends)=some k8:=by kernel_rfl
theorem ok8:Be Tryz.f8 1=true:=by kernel_rfl
theorem c8{a l:List D}{r:D×List D}(h:BZ Y.env k8 (Eh AX l.length [ResultVar.cell 2 26] r) (entry a l))(ha:a.length=1):Y.call 8 a l=some r:=
 AJ (Y:=Y) rfl Tryz.func8 (ha▸ok8) ACC h
theorem V6(Az BA:Int)(AQ Ab:List (List Int)){r:Int×Int×(List (List Int))×(List (List Int))}(h:OW Az BA AQ Ab=some r):Y.call 8 [D.agg [D.int .i64 Az,D.int .i64 BA,D.sl 27 (A8 (fun x=>D.sl 3 (A8 (D.int .i64) x)) AQ),D.sl 27 (A8 (fun x=>D.sl 3 (A8 (D.int .i64) x)) Ab)]] []=some (D.agg [D.int .i64 r.1,D.int .i64 r.2.1,D.own 27 (A8 (fun x=>D.own 3 (A8 (D.int .i64) x)) r.2.2.1),D.own 27 (A8 (fun x=>D.own 3 (A8 (D.int .i64) x)) r.2.2.2)],[]):=by
 refine c8 ?_ rfl;unfold k8;unfold OW at h;obtain⟨e1,h⟩:=Ar h;have c2:=U6 AQ e1;obtain⟨e3,h⟩:=Ar h;have c4:=U6 Ab e3;cases h;simp only [↓AB,AC,↓reduceIte,Nat.reduceEqDiff,Nat.reduceLT,Nat.reduceAdd,c2,c4]
theorem Xz(a b:Int)(n e:List (List Int))(hn:Ak n)(he:Ak e):OW a b n e=some (a,b,n,e):=by
 unfold OW;rw [Am hn,Am he]
theorem Gn(Az BA:Int)(AQ Ab:List (List Int))(h0:Ak AQ)(h1:Ak Ab):Y.call 8 [D.agg [D.int .i64 Az,D.int .i64 BA,D.sl 27 (A8 (fun x=>D.sl 3 (A8 (D.int .i64) x)) AQ),D.sl 27 (A8 (fun x=>D.sl 3 (A8 (D.int .i64) x)) Ab)]] []=some (D.agg [D.int .i64 Az,D.int .i64 BA,D.own 27 (A8 (fun x=>D.own 3 (A8 (D.int .i64) x)) AQ),D.own 27 (A8 (fun x=>D.own 3 (A8 (D.int .i64) x)) Ab)],[]):=V6 Az BA AQ Ab (Xz Az BA AQ Ab h0 h1)
noncomputable def OX(Az BA:Int)(AQ Ab:List (List Int))(K6 K7:Int)(KS KT:List (List Int)):Option (Bool):= if Az=K6 then if BA=K7 then ck (Ak AQ)<| if(decide (AQ=KS))=true then ck (Ak Ab)<| if(decide (Ab=KT))=true then some true else some false else some false else some false else some false
def k10:SC:= .seq (.ops [oX 2 (.box 26 (tK 0)) 0,oX 3 (.box 26 (tK 1)) 0,oX 4 (.assign (.const (.bool false))) 4]) (.seq (.seq (.ops [oF 5 26 2 0,oL 6 3 5 3,oF 7 26 3 0,oL 8 3 7 3,oB 9 .neq 3 (tK 6) (tK 8) 3 4]) (.cond (tK 9) (.seq (.ops [oX 4 (.assign (.const (.bool false))) 4]) .ret) .skip)) (.seq (.seq (.ops [oF 10 26 2 1,oL 11 3 10 3,oF 12 26 3 1,oL 13 3 12 3,oB 14 .neq 3 (tK 11) (tK 13) 3 4]) (.cond (tK 14) (.seq (.ops [oX 4 (.assign (.const (.bool false))) 4]) .ret) .skip)) (.seq (.seq (.ops [oF 15 26 2 2,oL 16 22 15 22,oF 17 26 3 2,oL 18 22 17 22,oC 19 26 [(tK 16),(tK 18)] [22,22] 4,oX 20 (.unOp .not 4 (tK 19)) 4]) (.cond (tK 20) (.seq (.ops [oX 4 (.assign (.const (.bool false))) 4]) .ret) .skip)) (.seq (.seq (.ops [oF 21 26 2 3,oL 22 22 21 22,oF 23 26 3 3,oL 24 22 23 22,oC 25 26 [(tK 22),(tK 24)] [22,22] 4,oX 26 (.unOp .not 4 (tK 25)) 4]) (.cond (tK 26) (.seq (.ops [oX 4 (.assign (.const (.bool false))) 4]) .ret) .skip)) (.seq (.ops [oX 4 (.assign (.const (.bool true))) 4]) .ret)))))
theorem A4p:Tryz.f10.body.map (BP lends)=some k10:=by kernel_rfl
theorem AGz:Be Tryz.f10 2=true:=by kernel_rfl
theorem gQ{a l:List D}{r:D×List D}(h:BZ Y.env k10 (Eh AX l.length [ResultVar.tmp 4] r) (entry a l))(ha:a.length=2):Y.call 10 a l=some r:=
 AJ (Y:=Y) rfl Tryz.func10 (ha▸AGz) A4p h
theorem V7(Az BA:Int)(AQ Ab:List (List Int))(K6 K7:Int)(KS KT:List (List Int)){r:Bool}(h:OX Az BA AQ Ab K6 K7 KS KT=some r):Y.call 10 [D.agg [D.int .i64 Az,D.int .i64 BA,D.sl 27 (A8 (fun x=>D.sl 3 (A8 (D.int .i64) x)) AQ),D.sl 27 (A8 (fun x=>D.sl 3 (A8 (D.int .i64) x)) Ab)],D.agg [D.int .i64 K6,D.int .i64 K7,D.sl 27 (A8 (fun x=>D.sl 3 (A8 (D.int .i64) x)) KS),D.sl 27 (A8 (fun x=>D.sl 3 (A8 (D.int .i64) x)) KT)]] []=some (D.bool r,[]):=by
 refine gQ ?_ rfl;unfold k10;unfold OX at h;by_cases e1:Az=K6
 ·rw [if_pos e1]at h;by_cases e2:BA=K7
  ·rw [if_pos e2]at h;obtain⟨e3,h⟩:=Ar h;have c4:=U8 AQ KS e3;by_cases e5:(decide (AQ=KS))=true
   ·rw [if_pos e5]at h;obtain⟨e6,h⟩:=Ar h;have c7:=U8 Ab KT e6;by_cases e8:(decide (Ab=KT))=true
    ·rw [if_pos e8]at h;cases h;simp only [↓AB,AC,↓reduceIte,Nat.reduceEqDiff,Nat.reduceLT,decide_eq_true e1,decide_eq_true e2,c4,e5,c7,e8]
    ·rw [if_neg e8]at h;have e8f:(decide (Ab=KT))=false:=J2.mpr e8;cases h;simp only [↓AB,AC,↓reduceIte,Nat.reduceEqDiff,Nat.reduceLT,decide_eq_true e1,decide_eq_true e2,c4,e5,c7,e8f]
   ·rw [if_neg e5]at h;have e5f:(decide (AQ=KS))=false:=J2.mpr e5;cases h;simp only [↓AB,AC,↓reduceIte,Nat.reduceEqDiff,Nat.reduceLT,decide_eq_true e1,decide_eq_true e2,c4,e5f]
  ·rw [if_neg e2]at h;cases h;simp only [↓AB,AC,↓reduceIte,Nat.reduceEqDiff,Nat.reduceLT,decide_eq_true e1,e2]
 ·rw [if_neg e1]at h;cases h;simp only [↓AB,AC,↓reduceIte,Nat.reduceEqDiff,Nat.reduceLT,e1]
def PW(a b:Int)(n e:List (List Int))(a' b':Int)(n' e':List (List Int)):Bool:=decide (a=a'∧b=b'∧n=n'∧e=e')
theorem nL(a b:Int)(n e:List (List Int)):PW a b n e a b n e=true:=by simp [PW]
theorem Y1(a b:Int)(n e:List (List Int))(a' b':Int)(n' e':List (List Int))(hn:Ak n)(he:Ak e):OX a b n e a' b' n' e'=some (PW a b n e a' b' n' e'):=by
 unfold OX PW;by_cases h1:a=a'<;>by_cases h2:b=b'<;>by_cases h3:n=n'<;>by_cases h4:e=e'<;>simp [h1,h2,h3,h4,ck]<;>(try subst h3)<;>(try subst h4)<;>simp_all
theorem FN(Az BA:Int)(AQ Ab:List (List Int))(K6 K7:Int)(KS KT:List (List Int))(h0:Ak AQ)(h1:Ak Ab):Y.call 10 [D.agg [D.int .i64 Az,D.int .i64 BA,D.sl 27 (A8 (fun x=>D.sl 3 (A8 (D.int .i64) x)) AQ),D.sl 27 (A8 (fun x=>D.sl 3 (A8 (D.int .i64) x)) Ab)],D.agg [D.int .i64 K6,D.int .i64 K7,D.sl 27 (A8 (fun x=>D.sl 3 (A8 (D.int .i64) x)) KS),D.sl 27 (A8 (fun x=>D.sl 3 (A8 (D.int .i64) x)) KT)]] []=some (D.bool (PW Az BA AQ Ab K6 K7 KS KT),[]):=V7 Az BA AQ Ab K6 K7 KS KT (Y1 Az BA AQ Ab K6 K7 KS KT h0 h1)
noncomputable def OY(Az BA:Int)(AQ Ab:List (List Int))(left:Int):Option (Int):= ck (TB AQ)<| ck (0≤left∧left≤1048576)<| if(Pv left (AQ.length+Bz AQ))<0 then some (-1) else ck (TB Ab)<| ck (0≤(Pv left (AQ.length+Bz AQ))∧(Pv left (AQ.length+Bz AQ))≤1048576)<| if(Pv (Pv left (AQ.length+Bz AQ)) (Ab.length+Bz Ab))<0 then some (-1) else some (Pv (Pv left (AQ.length+Bz AQ)) (Ab.length+Bz Ab))
def k6:SC:= .seq (.ops [oX 2 (.box 24 (tK 0)) 0,oX 4 (.assign (iK 0)) 3]) (.seq (.ops [oF 5 24 2 2,oL 6 22 5 22,oM 7 1 3,oC 8 20 [(tK 6),(tK 7)] [22,3] 3,oA 1 8 3]) (.seq (.seq (.ops [oM 9 1 3,oB 10 .lss 3 (tK 9) (iK 0) 3 4]) (.cond (tK 10) (.seq (.ops [oX 4 (.assign (.const (.int .i64 (-1)))) 3]) .ret) .skip)) (.seq (.ops [oF 11 24 2 3,oL 12 22 11 22,oM 13 1 3,oC 14 20 [(tK 12),(tK 13)] [22,3] 3,oA 1 14 3]) (.seq (.seq (.ops [oM 15 1 3,oB 16 .lss 3 (tK 15) (iK 0) 3 4]) (.cond (tK 16) (.seq (.ops [oX 4 (.assign (.const (.int .i64 (-1)))) 3]) .ret) .skip)) (.seq (.ops [oM 17 1 3,oA 4 17 3]) .ret)))))
theorem ACD:Tryz.f6.body.map (BP lends)=some k6:=by kernel_rfl
theorem ok6:Be Tryz.f6 2=true:=by kernel_rfl
theorem c6{a l:List D}{r:D×List D}(h:BZ Y.env k6 (Eh AX l.length [ResultVar.tmp 4] r) (entry a l))(ha:a.length=2):Y.call 6 a l=some r:=
 AJ (Y:=Y) rfl Tryz.func6 (ha▸ok6) ACD h
theorem V8(Az BA:Int)(AQ Ab:List (List Int))(left:Int){r:Int}(h:OY Az BA AQ Ab left=some r):Y.call 6 [D.agg [D.int .i64 Az,D.int .i64 BA,D.sl 27 (A8 (fun x=>D.sl 3 (A8 (D.int .i64) x)) AQ),D.sl 27 (A8 (fun x=>D.sl 3 (A8 (D.int .i64) x)) Ab)],D.int .i64 left] []=some (D.int .i64 r,[]):=by
 refine c6 ?_ rfl;unfold k6;unfold OY at h;obtain⟨e1,h⟩:=Ar h;obtain⟨e2,h⟩:=Ar h;have c3:=UC AQ left e1 e2;by_cases e4:(Pv left (AQ.length+Bz AQ))<0
 ·rw [if_pos e4]at h;cases h;simp only [↓AB,AC,↓reduceIte,Nat.reduceEqDiff,Nat.reduceLT,c3,e4]
 ·rw [if_neg e4]at h;obtain⟨e5,h⟩:=Ar h;obtain⟨e6,h⟩:=Ar h;have c7:=UC Ab (Pv left (AQ.length+Bz AQ)) e5 e6;by_cases e8:(Pv (Pv left (AQ.length+Bz AQ)) (Ab.length+Bz Ab))<0
  ·rw [if_pos e8]at h;cases h;simp only [↓AB,AC,↓reduceIte,Nat.reduceEqDiff,Nat.reduceLT,c3,e4,c7,e8]
  ·rw [if_neg e8]at h;cases h;simp only [↓AB,AC,↓reduceIte,Nat.reduceEqDiff,Nat.reduceLT,c3,e4,c7,e8]
def zL(left:Int)(ns es:List (List Int)):Int:=if Pv left (ns.length+Bz ns)<0 then-1 else Pv (Pv left (ns.length+Bz ns)) (es.length+Bz es)
theorem Y2(a b:Int)(n e:List (List Int))(left:Int)(hn:TB n)(he:TB e)(hl:0≤left∧left≤1048576):OY a b n e left=some (zL left n e):=by
 have h1:=Ce n;unfold OY zL;rw [Am hn,Am hl];rcases Rm left (n.length+Bz n)with c | ⟨c,c'⟩
 ·rw [c];rfl
 ·have hc: ¬left-(n.length+Bz n)<0:=by omega
  have hd:0≤left-(n.length+Bz n)∧left-(n.length+Bz n)≤1048576:=by omega
  rw [c];simp only [if_neg hc,Am he,Am hd];split
  ·rename_i h
   rcases Rm (left-(n.length+Bz n)) (e.length+Bz e)with d | ⟨d,d'⟩
   ·rw [d]
   ·omega
  ·rfl
theorem Y3(Az BA:Int)(AQ Ab:List (List Int))(left:Int)(h0:TB AQ)(h1:TB Ab)(h2:0≤left∧left≤1048576):Y.call 6 [D.agg [D.int .i64 Az,D.int .i64 BA,D.sl 27 (A8 (fun x=>D.sl 3 (A8 (D.int .i64) x)) AQ),D.sl 27 (A8 (fun x=>D.sl 3 (A8 (D.int .i64) x)) Ab)],D.int .i64 left] []=some (D.int .i64 (zL left AQ Ab),[]):=V8 Az BA AQ Ab left (Y2 Az BA AQ Ab left h0 h1 h2)
theorem A0S{ns es:List (List Int)}{left:Int}(hl:left≤1048576)(h: ¬zL left ns es<0):ns.length+Bz ns+es.length+Bz es≤1048576∧Ak ns∧Ak es∧zL left ns es≤left:=by
 have t1:=Ce ns;have t2:=Ce es
 have key:(ns.length:Int)+Bz ns+es.length+Bz es≤1048576∧zL left ns es≤left:=by
  unfold zL at h ⊢;rcases Rm left (ns.length+Bz ns)with c | ⟨c,c'⟩
  ·rw [c]at h;simp at h
  ·rw [c,if_neg (by omega)]at h
   rw [c,if_neg (by omega)]
   rcases Rm (left-(ns.length+Bz ns)) (es.length+Bz es)with d | ⟨d,d'⟩
   ·rw [d]at h;simp at h
   ·omega
 exact⟨key.1,Zu (by omega),Zu (by omega),key.2⟩
noncomputable def MG(Az BA:Int)(AQ Ab:List (List Int))(k:Int):Option (Int×(List (List Int))×(List (List Int))):= ck (Ak AQ)<| ck (0≤k∧k+Bz AQ<1099511627776)<| ck (Ak Ab)<| ck (0≤(k+Bz AQ)∧(k+Bz AQ)+Bz Ab<1099511627776)<| some (((k+Bz AQ)+Bz Ab),(Fy k AQ),(Fy (k+Bz AQ) Ab))
def k12:SC:= .seq (.ops [oX 2 (.box 26 (tK 0)) 0,oX 4 (.assign (iK 0)) 3]) (.seq (.ops [oF 5 26 2 2,oL 6 22 5 22,oM 7 1 3,oC 8 27 [(tK 6),(tK 7)] [22,3] 3,oA 1 8 3]) (.seq (.ops [oF 9 26 2 3,oL 10 22 9 22,oM 11 1 3,oC 12 27 [(tK 10),(tK 11)] [22,3] 3,oA 1 12 3]) (.seq (.ops [oM 13 1 3,oA 4 13 3]) .ret)))
theorem A4q:Tryz.f12.body.map (BP lends)=some k12:=by kernel_rfl
theorem AH1:Be Tryz.f12 2=true:=by kernel_rfl
theorem c12{a l:List D}{r:D×List D}(h:BZ Y.env k12 (Eh AX l.length [ResultVar.tmp 4] r) (entry a l))(ha:a.length=2):Y.call 12 a l=some r:=
 AJ (Y:=Y) rfl Tryz.func12 (ha▸AH1) A4q h
theorem TC(Az BA:Int)(AQ Ab:List (List Int))(k:Int){r:Int×(List (List Int))×(List (List Int))}(h:MG Az BA AQ Ab k=some r):Y.call 12 [D.agg [D.int .i64 Az,D.int .i64 BA,D.vw [100000] 0 0,D.vw [100001] 0 0],D.int .i64 k] [D.own 27 (A8 (fun x=>D.own 3 (A8 (D.int .i64) x)) AQ),D.own 27 (A8 (fun x=>D.own 3 (A8 (D.int .i64) x)) Ab)]=some (D.int .i64 r.1,[D.own 27 (A8 (fun x=>D.own 3 (A8 (D.int .i64) x)) r.2.1),D.own 27 (A8 (fun x=>D.own 3 (A8 (D.int .i64) x)) r.2.2)]):=by
 refine c12 ?_ rfl;unfold k12;unfold MG at h;obtain⟨e1,h⟩:=Ar h;obtain⟨e2,h⟩:=Ar h;have c3:=R8 AQ k e1 e2;obtain⟨e4,h⟩:=Ar h;obtain⟨e5,h⟩:=Ar h;have c6:=R8 Ab (k+Bz AQ) e4 e5;cases h;simp (maxDischargeDepth:=9) only [↓AB,AC,↓reduceIte,Nat.reduceEqDiff,Nat.reduceLT,Nat.reduceAdd,Nat.reduceSub,c3,c6]
theorem V9(a b:Int)(n e:List (List Int))(k:Int)(hn:Ak n)(he:Ak e)(hk:0≤k∧k+Bz n+Bz e<1099511627776):MG a b n e k=some (k+Bz n+Bz e,Fy k n,Fy (k+Bz n) e):=by
 have h1:=Ce n;have h2:=Ce e;unfold MG;rw [Am hn,Am (by omega),Am he,Am (by omega)]
theorem JX(Az BA:Int)(AQ Ab:List (List Int))(k:Int)(h0:Ak AQ)(h1:Ak Ab)(h2:0≤k∧k+Bz AQ+Bz Ab<1099511627776):Y.call 12 [D.agg [D.int .i64 Az,D.int .i64 BA,D.vw [100000] 0 0,D.vw [100001] 0 0],D.int .i64 k] [D.own 27 (A8 (fun x=>D.own 3 (A8 (D.int .i64) x)) AQ),D.own 27 (A8 (fun x=>D.own 3 (A8 (D.int .i64) x)) Ab)]=some (D.int .i64 (k+Bz AQ+Bz Ab),[D.own 27 (A8 (fun x=>D.own 3 (A8 (D.int .i64) x)) (Fy k AQ)),D.own 27 (A8 (fun x=>D.own 3 (A8 (D.int .i64) x)) (Fy (k+Bz AQ) Ab))]):=TC Az BA AQ Ab k (V9 Az BA AQ Ab k h0 h1 h2)
noncomputable def K8(Az BA:Int)(AQ Ab:List (List Int))(k:Int):Option (Int):= (Km AQ k).bind fun Kb=> if Kb<0 then some (-1) else (Km Ab Kb).bind fun NR=> if NR<0 then some (-1) else some NR
def k14:SC:= .seq (.ops [oX 2 (.box 26 (tK 0)) 0,oX 4 (.assign (iK 0)) 3]) (.seq (.ops [oF 5 26 2 2,oL 6 22 5 22,oM 7 1 3,oC 8 28 [(tK 6),(tK 7)] [22,3] 3,oA 1 8 3]) (.seq (.seq (.ops [oM 9 1 3,oB 10 .lss 3 (tK 9) (iK 0) 3 4]) (.cond (tK 10) (.seq (.ops [oX 4 (.assign (.const (.int .i64 (-1)))) 3]) .ret) .skip)) (.seq (.ops [oF 11 26 2 3,oL 12 22 11 22,oM 13 1 3,oC 14 28 [(tK 12),(tK 13)] [22,3] 3,oA 1 14 3]) (.seq (.seq (.ops [oM 15 1 3,oB 16 .lss 3 (tK 15) (iK 0) 3 4]) (.cond (tK 16) (.seq (.ops [oX 4 (.assign (.const (.int .i64 (-1)))) 3]) .ret) .skip)) (.seq (.ops [oM 17 1 3,oA 4 17 3]) .ret)))))
theorem A4r:Tryz.f14.body.map (BP lends)=some k14:=by kernel_rfl
theorem AH3:Be Tryz.f14 2=true:=by kernel_rfl
theorem Zw{a l:List D}{r:D×List D}(h:BZ Y.env k14 (Eh AX l.length [ResultVar.tmp 4] r) (entry a l))(ha:a.length=2):Y.call 14 a l=some r:=
 AJ (Y:=Y) rfl Tryz.func14 (ha▸AH3) A4r h
theorem Nk(Az BA:Int)(AQ Ab:List (List Int))(k:Int){r:Int}(h:K8 Az BA AQ Ab k=some r):Y.call 14 [D.agg [D.int .i64 Az,D.int .i64 BA,D.sl 27 (A8 (fun x=>D.sl 3 (A8 (D.int .i64) x)) AQ),D.sl 27 (A8 (fun x=>D.sl 3 (A8 (D.int .i64) x)) Ab)],D.int .i64 k] []=some (D.int .i64 r,[]):=by
 refine Zw ?_ rfl;unfold k14;unfold K8 at h;obtain⟨Kb,hl1,h⟩:=AO h;try dsimp only at h
 have c1:=PV AQ k hl1;by_cases e2:Kb<0
 ·rw [if_pos e2]at h;cases h;simp only [↓AB,AC,↓reduceIte,Nat.reduceEqDiff,Nat.reduceLT,c1,e2]
 ·rw [if_neg e2]at h;obtain⟨NR,hl3,h⟩:=AO h;try dsimp only at h
  have c3:=PV Ab Kb hl3;by_cases e4:NR<0
  ·rw [if_pos e4]at h;cases h;simp only [↓AB,AC,↓reduceIte,Nat.reduceEqDiff,Nat.reduceLT,c1,e2,c3,e4]
  ·rw [if_neg e4]at h;cases h;simp only [↓AB,AC,↓reduceIte,Nat.reduceEqDiff,Nat.reduceLT,c1,e2,c3,e4]
theorem VA(a b:Int)(n e:List (List Int))(k:Int)(hn:Ak n)(he:Ak e)(hk:0≤k∧k+Bz n+Bz e<1099511627776):K8 a b (Fy k n) (Fy (k+Bz n) e) k=some (k+Bz n+Bz e):=by
 have h1:=Ce n;have h2:=Ce e;unfold K8;rw [R9 n k hn (by omega),CO,if_neg (by omega),R9 e _ he (by omega),CO,if_neg (by omega)]
theorem pG{l:List (List Int)}(h:ou l):TB l:=⟨Nat.lt_of_le_of_lt h.1 (by decide),fun x hx=>Nat.lt_of_le_of_lt (h.2 x hx).1 (by decide)⟩
end Go.Proofs.YtjhjkfoabhplfaaGreat
