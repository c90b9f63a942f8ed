/- Problems copied, compared, measured and marked, as plain functions. Conditions: the lists are short. -/
import Derived.Test.YtjhjkfoabhplfaaGreatL6
import Derived.Test.YtjhjkfoabhplfaaGreatBase
namespace Go.Proofs.YtjhjkfoabhplfaaGreat
open Go Dv
set_option linter.unusedSimpArgs false
set_option linter.unusedVariables false
set_option maxRecDepth 100000
set_option maxHeartbeats 4000000
noncomputable def Pf(BP:Int)(BQ:Int)(Ag:AO)(Ap:AO):Option (Int×Int×AO×AO):= ck (BB Ag)<| ck (BB Ap)<| some (BP,BQ,Ag,Ap)
def k8:SC:= .seq (.ops [oX 1 (.box 24 (tK 0)) 0,oX 2 (.alloc 26) 0]) (.seq (.ops [oX 3 (.alloc 26) 0]) (.seq (.ops [oF 4 24 1 0,oL 5 3 4 3,oF 6 26 3 0,oS 3 6 5]) (.seq (.ops [oF 7 24 1 1,oL 8 3 7 3,oF 9 26 3 1,oS 3 9 8]) (.seq (.ops [oF 10 24 1 2,oL 11 22 10 22,oC 12 23 [(tK 11)] [22] 22,oF 13 26 3 2,oS 22 13 12]) (.seq (.ops [oF 14 24 1 3,oL 15 22 14 22,oC 16 23 [(tK 15)] [22] 22,oF 17 26 3 3,oS 22 17 16]) (.seq (.ops [oL 18 26 3 26,oS 26 2 18]) .ret))))))
theorem ACw:Tryz.f8.body.map (Bw lends)=some k8:=by kernel_rfl
theorem ok8:CP Tryz.f8 1=true:=by kernel_rfl
theorem c8{a l:List D}{r:D×List D}(h:CG Y.env k8 (FX Ah l.length [ResultVar.cell 2 26] r) (entry a l))(ha:a.length=1):Y.call 8 a l=some r:=
 AZ (Y:=Y) rfl Tryz.func8 (ha▸ok8) ACw h
theorem Vy(BP:Int)(BQ:Int)(Ag:AO)(Ap:AO){r:Int×Int×AO×AO}(h:Pf BP BQ Ag Ap=some r):Y.call 8 [D.agg [D.int .i64 BP,D.int .i64 BQ,D.sl 27 (AV Aw Ag),D.sl 27 (AV Aw Ap)]] []=some (D.agg [D.int .i64 r.1,D.int .i64 r.2.1,D.own 27 (AV KQ r.2.2.1),D.own 27 (AV KQ r.2.2.2)],[]):=by
 refine c8 ?_ rfl;unfold k8;unfold Pf at h;obtain⟨e1,h⟩:=EQ h;have c2:=Ux Ag e1;obtain⟨e3,h⟩:=EQ h;have c4:=Ux Ap e3
 obtain rfl:=Option.some.inj h
 simp only [↓AR,AU,↓reduceIte,Nat.reduceEqDiff,Nat.reduceLT,Nat.reduceAdd,c2,c4]
theorem Yu(a b:Int)(n e:AO)(hn:BB n)(he:BB e):Pf a b n e=some (a,b,n,e):=by
 unfold Pf;rw [BF hn,BF he]
theorem IK(BP:Int)(BQ:Int)(Ag:AO)(Ap:AO)(h0:BB Ag)(h1:BB Ap):Y.call 8 [D.agg [D.int .i64 BP,D.int .i64 BQ,D.sl 27 (AV Aw Ag),D.sl 27 (AV Aw Ap)]] []=some (D.agg [D.int .i64 BP,D.int .i64 BQ,D.own 27 (AV KQ Ag),D.own 27 (AV KQ Ap)],[]):=Vy BP BQ Ag Ap (Yu BP BQ Ag Ap h0 h1)
noncomputable def Pg(BP:Int)(BQ:Int)(Ag:AO)(Ap:AO)(MK:Int)(ML:Int)(MM:AO)(MN:AO):Option (Bool):= if BP=MK then if BQ=ML then ck (BB Ag)<| if(decide (Ag=MM))=true then ck (BB Ap)<| if(decide (Ap=MN))=true then some true else some false else some false else some false else some false
def k10:SC:= .seq (.ops [oX 2 (.box 26 (tK 0)) 0,oX 3 (.box 26 (tK 1)) 0,oX 4 Cr 4]) (.seq (.seq (.ops [oF 5 26 2 0,oL 6 3 5 3,oF 7 26 3 0,oL 8 3 7 3,oB 9 .neq 3 (tK 6) (tK 8) 3 4]) (.cond (tK 9) (.seq (.ops [oX 4 Cr 4]) .ret) .skip)) (.seq (.seq (.ops [oF 10 26 2 1,oL 11 3 10 3,oF 12 26 3 1,oL 13 3 12 3,oB 14 .neq 3 (tK 11) (tK 13) 3 4]) (.cond (tK 14) (.seq (.ops [oX 4 Cr 4]) .ret) .skip)) (.seq (.seq (.ops [oF 15 26 2 2,oL 16 22 15 22,oF 17 26 3 2,oL 18 22 17 22,oC 19 26 [(tK 16),(tK 18)] [22,22] 4,oX 20 (.unOp .not 4 (tK 19)) 4]) (.cond (tK 20) (.seq (.ops [oX 4 Cr 4]) .ret) .skip)) (.seq (.seq (.ops [oF 21 26 2 3,oL 22 22 21 22,oF 23 26 3 3,oL 24 22 23 22,oC 25 26 [(tK 22),(tK 24)] [22,22] 4,oX 26 (.unOp .not 4 (tK 25)) 4]) (.cond (tK 26) (.seq (.ops [oX 4 Cr 4]) .ret) .skip)) (.seq (.ops [oX 4 (.assign Kv) 4]) .ret)))))
theorem A5b:Tryz.f10.body.map (Bw lends)=some k10:=by kernel_rfl
theorem AHe:CP Tryz.f10 2=true:=by kernel_rfl
theorem jO{a l:List D}{r:D×List D}(h:CG Y.env k10 (FX Ah l.length [ResultVar.tmp 4] r) (entry a l))(ha:a.length=2):Y.call 10 a l=some r:=
 AZ (Y:=Y) rfl Tryz.func10 (ha▸AHe) A5b h
theorem Vz(BP:Int)(BQ:Int)(Ag:AO)(Ap:AO)(MK:Int)(ML:Int)(MM:AO)(MN:AO){r:Bool}(h:Pg BP BQ Ag Ap MK ML MM MN=some r):Y.call 10 [D.agg [D.int .i64 BP,D.int .i64 BQ,D.sl 27 (AV Aw Ag),D.sl 27 (AV Aw Ap)],D.agg [D.int .i64 MK,D.int .i64 ML,D.sl 27 (AV Aw MM),D.sl 27 (AV Aw MN)]] []=some (D.bool r,[]):=by
 refine jO ?_ rfl;unfold k10;unfold Pg at h;rcases iS h with⟨e1,h⟩|⟨e1,h⟩
 ·rcases iS h with⟨e2,h⟩|⟨e2,h⟩
  ·obtain⟨e3,h⟩:=EQ h;have c4:=Uz Ag MM e3;rcases iS h with⟨e5,h⟩|⟨e5,h⟩
   ·obtain⟨e6,h⟩:=EQ h;have c7:=Uz Ap MN e6;rcases iS h with⟨e8,h⟩|⟨e8,h⟩
    ·obtain rfl:=Option.some.inj h
     simp only [↓AR,AU,↓reduceIte,Nat.reduceEqDiff,Nat.reduceLT,decide_eq_true e1,decide_eq_true e2,c4,e5,c7,e8]
    ·have e8f:(decide (Ap=MN))=false:=Ju.mpr e8
     obtain rfl:=Option.some.inj h
     simp only [↓AR,AU,↓reduceIte,Nat.reduceEqDiff,Nat.reduceLT,decide_eq_true e1,decide_eq_true e2,c4,e5,c7,e8f]
   ·have e5f:(decide (Ag=MM))=false:=Ju.mpr e5
    obtain rfl:=Option.some.inj h
    simp only [↓AR,AU,↓reduceIte,Nat.reduceEqDiff,Nat.reduceLT,decide_eq_true e1,decide_eq_true e2,c4,e5f]
  ·obtain rfl:=Option.some.inj h
   simp only [↓AR,AU,↓reduceIte,Nat.reduceEqDiff,Nat.reduceLT,decide_eq_true e1,e2]
 ·obtain rfl:=Option.some.inj h
  simp only [↓AR,AU,↓reduceIte,Nat.reduceEqDiff,Nat.reduceLT,e1]
def Te(a b:Int)(n e:AO)(a' b':Int)(n' e':AO):Bool:=decide (a=a'∧b=b'∧n=n'∧e=e')
theorem pu(a b:Int)(n e:AO):Te a b n e a b n e=true:=by simp [Te]
theorem Yv(a b:Int)(n e:AO)(a' b':Int)(n' e':AO)(hn:BB n)(he:BB e):Pg a b n e a' b' n' e'=some (Te a b n e a' b' n' e'):=by
 unfold Pg Te;by_cases h1:a=a'<;>by_cases h2:b=b'<;>by_cases h3:n=n'<;>by_cases h4:e=e'<;>simp [h1,h2,h3,h4,ck]<;>(try subst h3)<;>(try subst h4)<;>simp_all
theorem GM(BP:Int)(BQ:Int)(Ag:AO)(Ap:AO)(MK:Int)(ML:Int)(MM:AO)(MN:AO)(h0:BB Ag)(h1:BB Ap):Y.call 10 [D.agg [D.int .i64 BP,D.int .i64 BQ,D.sl 27 (AV Aw Ag),D.sl 27 (AV Aw Ap)],D.agg [D.int .i64 MK,D.int .i64 ML,D.sl 27 (AV Aw MM),D.sl 27 (AV Aw MN)]] []=some (D.bool (Te BP BQ Ag Ap MK ML MM MN),[]):=Vz BP BQ Ag Ap MK ML MM MN (Yv BP BQ Ag Ap MK ML MM MN h0 h1)
noncomputable def Ph(BP:Int)(BQ:Int)(Ag:AO)(Ap:AO)(left:Int):Option (Int):= ck (U9 Ag)<| ck (0≤left∧left≤1048576)<| if(Rb left (Ag.length+DC Ag))<0 then some (-1) else ck (U9 Ap)<| ck (0≤(Rb left (Ag.length+DC Ag))∧(Rb left (Ag.length+DC Ag))≤1048576)<| if(Rb (Rb left (Ag.length+DC Ag)) (Ap.length+DC Ap))<0 then some (-1) else some (Rb (Rb left (Ag.length+DC Ag)) (Ap.length+DC Ap))
def k6:SC:= .seq (.ops [oX 2 (.box 24 (tK 0)) 0,oX 4 (.assign (iK 0)) 3]) (.seq (.ops [oF 5 24 2 2,oL 6 22 5 22,oM 7 1 3,oC 8 20 [(tK 6),(tK 7)] [22,3] 3,oA 1 8 3]) (.seq (.seq (.ops [oM 9 1 3,oB 10 .lss 3 (tK 9) (iK 0) 3 4]) (.cond (tK 10) (.seq (.ops [oX 4 U6 3]) .ret) .skip)) (.seq (.ops [oF 11 24 2 3,oL 12 22 11 22,oM 13 1 3,oC 14 20 [(tK 12),(tK 13)] [22,3] 3,oA 1 14 3]) (.seq (.seq (.ops [oM 15 1 3,oB 16 .lss 3 (tK 15) (iK 0) 3 4]) (.cond (tK 16) (.seq (.ops [oX 4 U6 3]) .ret) .skip)) (.seq (.ops [oM 17 1 3,oA 4 17 3]) .ret)))))
theorem ACx:Tryz.f6.body.map (Bw lends)=some k6:=by kernel_rfl
theorem ok6:CP Tryz.f6 2=true:=by kernel_rfl
theorem c6{a l:List D}{r:D×List D}(h:CG Y.env k6 (FX Ah l.length [ResultVar.tmp 4] r) (entry a l))(ha:a.length=2):Y.call 6 a l=some r:=
 AZ (Y:=Y) rfl Tryz.func6 (ha▸ok6) ACx h
theorem W9(BP:Int)(BQ:Int)(Ag:AO)(Ap:AO)(left:Int){r:Int}(h:Ph BP BQ Ag Ap left=some r):Y.call 6 [D.agg [D.int .i64 BP,D.int .i64 BQ,D.sl 27 (AV Aw Ag),D.sl 27 (AV Aw Ap)],D.int .i64 left] []=some (D.int .i64 r,[]):=by
 refine c6 ?_ rfl;unfold k6;unfold Ph at h;obtain⟨e1,e2,h⟩:=Hw h;have c3:=V6 Ag left e1 e2;rcases iS h with⟨e4,h⟩|⟨e4,h⟩
 ·obtain rfl:=Option.some.inj h
  simp only [↓AR,AU,↓reduceIte,Nat.reduceEqDiff,Nat.reduceLT,c3,e4]
 ·obtain⟨e5,e6,h⟩:=Hw h;have c7:=V6 Ap (Rb left (Ag.length+DC Ag)) e5 e6;rcases iS h with⟨e8,h⟩|⟨e8,h⟩
  ·obtain rfl:=Option.some.inj h
   simp only [↓AR,AU,↓reduceIte,Nat.reduceEqDiff,Nat.reduceLT,c3,e4,c7,e8]
  ·obtain rfl:=Option.some.inj h
   simp only [↓AR,AU,↓reduceIte,Nat.reduceEqDiff,Nat.reduceLT,c3,e4,c7,e8]
def szP(left:Int)(ns es:AO):Int:=if Rb left (ns.length+DC ns)<0 then-1 else Rb (Rb left (ns.length+DC ns)) (es.length+DC es)
theorem Yw(a b:Int)(n e:AO)(left:Int)(hn:U9 n)(he:U9 e)(hl:0≤left∧left≤1048576):Ph a b n e left=some (szP left n e):=by
 have h1:=DL n;unfold Ph szP;rw [BF hn,BF hl];rcases Sy left (n.length+DC n)with c|⟨c,c'⟩
 ·rw [c];rfl
 ·have hc: ¬left-(n.length+DC n)<0:=by omega
  have hd:0≤left-(n.length+DC n)∧left-(n.length+DC n)≤1048576:=by omega
  rw [c];simp only [if_neg hc,BF he,BF hd];split
  ·rename_i h
   rcases Sy (left-(n.length+DC n)) (e.length+DC e)with d|⟨d,d'⟩
   ·rw [d]
   ·omega
  ·rfl
theorem Yx(BP:Int)(BQ:Int)(Ag:AO)(Ap:AO)(left:Int)(h0:U9 Ag)(h1:U9 Ap)(h2:0≤left∧left≤1048576):Y.call 6 [D.agg [D.int .i64 BP,D.int .i64 BQ,D.sl 27 (AV Aw Ag),D.sl 27 (AV Aw Ap)],D.int .i64 left] []=some (D.int .i64 (szP left Ag Ap),[]):=W9 BP BQ Ag Ap left (Yw BP BQ Ag Ap left h0 h1 h2)
theorem A1G{ns es:AO}{left:Int}(hl:left≤1048576)(h: ¬szP left ns es<0):ns.length+DC ns+es.length+DC es≤1048576∧BB ns∧BB es∧szP left ns es≤left:=by
 have t1:=DL ns;have t2:=DL es
 have key:(ns.length:Int)+DC ns+es.length+DC es≤1048576∧szP left ns es≤left:=by
  unfold szP at h ⊢;rcases Sy left (ns.length+DC ns)with c|⟨c,c'⟩
  ·rw [c]at h;simp at h
  ·rw [c,if_neg (by omega)]at h
   rw [c,if_neg (by omega)]
   rcases Sy (left-(ns.length+DC ns)) (es.length+DC es)with d|⟨d,d'⟩
   ·rw [d]at h;simp at h
   ·omega
 exact⟨key.1,bi (by omega),bi (by omega),key.2⟩
noncomputable def NQ(BP:Int)(BQ:Int)(Ag:AO)(Ap:AO)(k:Int):Option (Int×AO×AO):= ck (BB Ag)<| ck (0≤k∧k+DC Ag<1099511627776)<| ck (BB Ap)<| ck (0≤(k+DC Ag)∧(k+DC Ag)+DC Ap<1099511627776)<| some (((k+DC Ag)+DC Ap),(Gy k Ag),(Gy (k+DC Ag) Ap))
def k12:SC:= .seq (.ops [oX 2 (.box 26 (tK 0)) 0,oX 4 (.assign (iK 0)) 3]) (.seq (.ops [oF 5 26 2 2,oL 6 22 5 22,oM 7 1 3,oC 8 27 [(tK 6),(tK 7)] [22,3] 3,oA 1 8 3]) (.seq (.ops [oF 9 26 2 3,oL 10 22 9 22,oM 11 1 3,oC 12 27 [(tK 10),(tK 11)] [22,3] 3,oA 1 12 3]) (.seq (.ops [oM 13 1 3,oA 4 13 3]) .ret)))
theorem A5c:Tryz.f12.body.map (Bw lends)=some k12:=by kernel_rfl
theorem AHg:CP Tryz.f12 2=true:=by kernel_rfl
theorem c12{a l:List D}{r:D×List D}(h:CG Y.env k12 (FX Ah l.length [ResultVar.tmp 4] r) (entry a l))(ha:a.length=2):Y.call 12 a l=some r:=
 AZ (Y:=Y) rfl Tryz.func12 (ha▸AHg) A5c h
theorem UA(BP:Int)(BQ:Int)(Ag:AO)(Ap:AO)(k:Int){r:Int×AO×AO}(h:NQ BP BQ Ag Ap k=some r):Y.call 12 [D.agg [D.int .i64 BP,D.int .i64 BQ,D.vw [100000] 0 0,D.vw [100001] 0 0],D.int .i64 k] [D.own 27 (AV KQ Ag),D.own 27 (AV KQ Ap)]=some (D.int .i64 r.1,[D.own 27 (AV KQ r.2.1),D.own 27 (AV KQ r.2.2)]):=by
 refine c12 ?_ rfl;unfold k12;unfold NQ at h;obtain⟨e1,e2,h⟩:=Hw h;have c3:=SI Ag k e1 e2;obtain⟨e4,e5,h⟩:=Hw h;have c6:=SI Ap (k+DC Ag) e4 e5
 obtain rfl:=Option.some.inj h
 simp (maxDischargeDepth:=9) only [↓AR,AU,↓reduceIte,Nat.reduceEqDiff,Nat.reduceLT,Nat.reduceAdd,Nat.reduceSub,c3,c6]
theorem WA(a b:Int)(n e:AO)(k:Int)(hn:BB n)(he:BB e)(hk:0≤k∧k+DC n+DC e<1099511627776):NQ a b n e k=some (k+DC n+DC e,Gy k n,Gy (k+DC n) e):=by
 have h1:=DL n;have h2:=DL e;unfold NQ;rw [BF hn,BF (by omega),BF he,BF (by omega)]
theorem KS(BP:Int)(BQ:Int)(Ag:AO)(Ap:AO)(k:Int)(h0:BB Ag)(h1:BB Ap)(h2:0≤k∧k+DC Ag+DC Ap<1099511627776):Y.call 12 [D.agg [D.int .i64 BP,D.int .i64 BQ,D.vw [100000] 0 0,D.vw [100001] 0 0],D.int .i64 k] [D.own 27 (AV KQ Ag),D.own 27 (AV KQ Ap)]=some (D.int .i64 (k+DC Ag+DC Ap),[D.own 27 (AV KQ (Gy k Ag)),D.own 27 (AV KQ (Gy (k+DC Ag) Ap))]):=UA BP BQ Ag Ap k (WA BP BQ Ag Ap k h0 h1 h2)
noncomputable def LB(BP:Int)(BQ:Int)(Ag:AO)(Ap:AO)(k:Int):Option (Int):= (Lt Ag k).bind fun Ov=> if Ov<0 then some (-1) else (Lt Ap Ov).bind fun fu=> if fu<0 then some (-1) else some fu
def k14:SC:= .seq (.ops [oX 2 (.box 26 (tK 0)) 0,oX 4 (.assign (iK 0)) 3]) (.seq (.ops [oF 5 26 2 2,oL 6 22 5 22,oM 7 1 3,oC 8 28 [(tK 6),(tK 7)] [22,3] 3,oA 1 8 3]) (.seq (.seq (.ops [oM 9 1 3,oB 10 .lss 3 (tK 9) (iK 0) 3 4]) (.cond (tK 10) (.seq (.ops [oX 4 U6 3]) .ret) .skip)) (.seq (.ops [oF 11 26 2 3,oL 12 22 11 22,oM 13 1 3,oC 14 28 [(tK 12),(tK 13)] [22,3] 3,oA 1 14 3]) (.seq (.seq (.ops [oM 15 1 3,oB 16 .lss 3 (tK 15) (iK 0) 3 4]) (.cond (tK 16) (.seq (.ops [oX 4 U6 3]) .ret) .skip)) (.seq (.ops [oM 17 1 3,oA 4 17 3]) .ret)))))
theorem A5d:Tryz.f14.body.map (Bw lends)=some k14:=by kernel_rfl
theorem AHi:CP Tryz.f14 2=true:=by kernel_rfl
theorem bq{a l:List D}{r:D×List D}(h:CG Y.env k14 (FX Ah l.length [ResultVar.tmp 4] r) (entry a l))(ha:a.length=2):Y.call 14 a l=some r:=
 AZ (Y:=Y) rfl Tryz.func14 (ha▸AHi) A5d h
theorem Ow(BP:Int)(BQ:Int)(Ag:AO)(Ap:AO)(k:Int){r:Int}(h:LB BP BQ Ag Ap k=some r):Y.call 14 [D.agg [D.int .i64 BP,D.int .i64 BQ,D.sl 27 (AV Aw Ag),D.sl 27 (AV Aw Ap)],D.int .i64 k] []=some (D.int .i64 r,[]):=by
 refine bq ?_ rfl;unfold k14;unfold LB at h;obtain⟨Ov,hl1,h⟩:=Aa h;have c1:=QV Ag k hl1;rcases iS h with⟨e2,h⟩|⟨e2,h⟩
 ·obtain rfl:=Option.some.inj h
  simp only [↓AR,AU,↓reduceIte,Nat.reduceEqDiff,Nat.reduceLT,c1,e2]
 ·obtain⟨fu,hl3,h⟩:=Aa h;have c3:=QV Ap Ov hl3;rcases iS h with⟨e4,h⟩|⟨e4,h⟩
  ·obtain rfl:=Option.some.inj h
   simp only [↓AR,AU,↓reduceIte,Nat.reduceEqDiff,Nat.reduceLT,c1,e2,c3,e4]
  ·obtain rfl:=Option.some.inj h
   simp only [↓AR,AU,↓reduceIte,Nat.reduceEqDiff,Nat.reduceLT,c1,e2,c3,e4]
theorem WB(a b:Int)(n e:AO)(k:Int)(hn:BB n)(he:BB e)(hk:0≤k∧k+DC n+DC e<1099511627776):LB a b (Gy k n) (Gy (k+DC n) e) k=some (k+DC n+DC e):=by
 have h1:=DL n;have h2:=DL e;unfold LB;rw [SK n k hn (by omega),Cs,if_neg (by omega),SK e _ he (by omega),Cs,if_neg (by omega)]
theorem rE{l:AO}(h:qx l):U9 l:=⟨Nat.lt_of_le_of_lt h.1 (by decide),fun x hx=>Nat.lt_of_le_of_lt (h.2 x hx).1 (by decide)⟩
end Go.Proofs.YtjhjkfoabhplfaaGreat
