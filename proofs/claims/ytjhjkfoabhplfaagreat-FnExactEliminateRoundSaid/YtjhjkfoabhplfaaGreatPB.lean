/- Problems copied, compared, measured and marked, as plain functions. Conditions: the lists are short. -/
import Derived.Test.YtjhjkfoabhplfaaGreatL6
import Derived.Test.YtjhjkfoabhplfaaGreatBase
namespace Go.Proofs.YtjhjkfoabhplfaaGreat
open Go Dv
set_option linter.unusedSimpArgs false
set_option linter.unusedVariables false
set_option maxRecDepth 100000
set_option maxHeartbeats 4000000
noncomputable def Ps(BF BG:Int)(Aa Ai:AL):Option (Int×Int×AL×AL):= ck (Ah Aa)<| ck (Ah Ai)<| some (BF,BG,Aa,Ai)
def k8:SC:= .seq (.ops [oX 1 (.box 24 (tK 0)) 0,oX 2 (.alloc 26) 0]) (.seq (.ops [oX 3 (.alloc 26) 0]) (.seq (.ops [oF 4 24 1 0,oL 5 3 4 3,oF 6 26 3 0,oS 3 6 5]) (.seq (.ops [oF 7 24 1 1,oL 8 3 7 3,oF 9 26 3 1,oS 3 9 8]) (.seq (.ops [oF 10 24 1 2,oL 11 22 10 22,oC 12 23 [(tK 11)] [22] 22,oF 13 26 3 2,oS 22 13 12]) (.seq (.ops [oF 14 24 1 3,oL 15 22 14 22,oC 16 23 [(tK 15)] [22] 22,oF 17 26 3 3,oS 22 17 16]) (.seq (.ops [oL 18 26 3 26,oS 26 2 18]) .ret))))))
theorem AEz:Tryz.f8.body.map (BI lends)=some k8:=by kernel_rfl
theorem ok8:BR Tryz.f8 1=true:=by kernel_rfl
theorem c8{a l:List D}{r:D×List D}(h:BU Y.env k8 (Du Ab l.length [ResultVar.cell 2 26] r) (entry a l))(ha:a.length=1):Y.call 8 a l=some r:=
 AP (Y:=Y) rfl Tryz.func8 (ha▸ok8) AEz h
theorem Ws(BF BG:Int)(Aa Ai:AL){r:Int×Int×AL×AL}(h:Ps BF BG Aa Ai=some r):Y.call 8 [D.agg [D.int .i64 BF,D.int .i64 BG,D.sl 27 (AJ Ac Aa),D.sl 27 (AJ Ac Ai)]] []=some (D.agg [D.int .i64 r.1,D.int .i64 r.2.1,D.own 27 (AJ IX r.2.2.1),D.own 27 (AJ IX r.2.2.2)],[]):=by
 refine c8 ?_ rfl;unfold k8;unfold Ps at h;obtain⟨e1,h⟩:=DL h;have c2:=VV Aa e1;obtain⟨e3,h⟩:=DL h;have c4:=VV Ai e3;cases h;simp only [↓AB,AC,↓reduceIte,Nat.reduceEqDiff,Nat.reduceLT,Nat.reduceAdd,c2,c4]
theorem Zf(a b:Int)(n e:AL)(hn:Ah n)(he:Ah e):Ps a b n e=some (a,b,n,e):=by
 unfold Ps;rw [Ao hn,Ao he]
theorem Hq(BF BG:Int)(Aa Ai:AL)(h0:Ah Aa)(h1:Ah Ai):Y.call 8 [D.agg [D.int .i64 BF,D.int .i64 BG,D.sl 27 (AJ Ac Aa),D.sl 27 (AJ Ac Ai)]] []=some (D.agg [D.int .i64 BF,D.int .i64 BG,D.own 27 (AJ IX Aa),D.own 27 (AJ IX Ai)],[]):=Ws BF BG Aa Ai (Zf BF BG Aa Ai h0 h1)
noncomputable def Pt(BF BG:Int)(Aa Ai:AL)(MB MC:Int)(ME MF:AL):Option (Bool):= if BF=MB then if BG=MC then ck (Ah Aa)<| if(decide (Aa=ME))=true then ck (Ah Ai)<| if(decide (Ai=MF))=true then some true else some false else some false else some false else some false
def k10:SC:= .seq (.ops [oX 2 (.box 26 (tK 0)) 0,oX 3 (.box 26 (tK 1)) 0,oX 4 BX 4]) (.seq (.seq (.ops [oF 5 26 2 0,oL 6 3 5 3,oF 7 26 3 0,oL 8 3 7 3,oB 9 .neq 3 (tK 6) (tK 8) 3 4]) (.cond (tK 9) (.seq (.ops [oX 4 BX 4]) .ret) .skip)) (.seq (.seq (.ops [oF 10 26 2 1,oL 11 3 10 3,oF 12 26 3 1,oL 13 3 12 3,oB 14 .neq 3 (tK 11) (tK 13) 3 4]) (.cond (tK 14) (.seq (.ops [oX 4 BX 4]) .ret) .skip)) (.seq (.seq (.ops [oF 15 26 2 2,oL 16 22 15 22,oF 17 26 3 2,oL 18 22 17 22,oC 19 26 [(tK 16),(tK 18)] [22,22] 4,oX 20 (.unOp .not 4 (tK 19)) 4]) (.cond (tK 20) (.seq (.ops [oX 4 BX 4]) .ret) .skip)) (.seq (.seq (.ops [oF 21 26 2 3,oL 22 22 21 22,oF 23 26 3 3,oL 24 22 23 22,oC 25 26 [(tK 22),(tK 24)] [22,22] 4,oX 26 (.unOp .not 4 (tK 25)) 4]) (.cond (tK 26) (.seq (.ops [oX 4 BX 4]) .ret) .skip)) (.seq (.ops [oX 4 (.assign Gx) 4]) .ret)))))
theorem A7O:Tryz.f10.body.map (BI lends)=some k10:=by kernel_rfl
theorem AJn:BR Tryz.f10 2=true:=by kernel_rfl
theorem lL{a l:List D}{r:D×List D}(h:BU Y.env k10 (Du Ab l.length [ResultVar.tmp 4] r) (entry a l))(ha:a.length=2):Y.call 10 a l=some r:=
 AP (Y:=Y) rfl Tryz.func10 (ha▸AJn) A7O h
theorem Wt(BF BG:Int)(Aa Ai:AL)(MB MC:Int)(ME MF:AL){r:Bool}(h:Pt BF BG Aa Ai MB MC ME MF=some r):Y.call 10 [D.agg [D.int .i64 BF,D.int .i64 BG,D.sl 27 (AJ Ac Aa),D.sl 27 (AJ Ac Ai)],D.agg [D.int .i64 MB,D.int .i64 MC,D.sl 27 (AJ Ac ME),D.sl 27 (AJ Ac MF)]] []=some (D.bool r,[]):=by
 refine lL ?_ rfl;unfold k10;unfold Pt at h;rcases iS h with⟨e1,h⟩|⟨e1,h⟩
 ·rcases iS h with⟨e2,h⟩|⟨e2,h⟩
  ·obtain⟨e3,h⟩:=DL h;have c4:=VX Aa ME e3;rcases iS h with⟨e5,h⟩|⟨e5,h⟩
   ·obtain⟨e6,h⟩:=DL h;have c7:=VX Ai MF e6;rcases iS h with⟨e8,h⟩|⟨e8,h⟩
    ·cases h;simp only [↓AB,AC,↓reduceIte,Nat.reduceEqDiff,Nat.reduceLT,decide_eq_true e1,decide_eq_true e2,c4,e5,c7,e8]
    ·have e8f:(decide (Ai=MF))=false:=Gf.mpr e8;cases h;simp only [↓AB,AC,↓reduceIte,Nat.reduceEqDiff,Nat.reduceLT,decide_eq_true e1,decide_eq_true e2,c4,e5,c7,e8f]
   ·have e5f:(decide (Aa=ME))=false:=Gf.mpr e5;cases h;simp only [↓AB,AC,↓reduceIte,Nat.reduceEqDiff,Nat.reduceLT,decide_eq_true e1,decide_eq_true e2,c4,e5f]
  ·cases h;simp only [↓AB,AC,↓reduceIte,Nat.reduceEqDiff,Nat.reduceLT,decide_eq_true e1,e2]
 ·cases h;simp only [↓AB,AC,↓reduceIte,Nat.reduceEqDiff,Nat.reduceLT,e1]
def UF(a b:Int)(n e:AL)(a' b':Int)(n' e':AL):Bool:=decide (a=a'∧b=b'∧n=n'∧e=e')
theorem tH(a b:Int)(n e:AL):UF a b n e a b n e=true:=by simp [UF]
theorem Zg(a b:Int)(n e:AL)(a' b':Int)(n' e':AL)(hn:Ah n)(he:Ah e):Pt a b n e a' b' n' e'=some (UF a b n e a' b' n' e'):=by
 unfold Pt UF;by_cases h1:a=a'<;>by_cases h2:b=b'<;>by_cases h3:n=n'<;>by_cases h4:e=e'<;>simp [h1,h2,h3,h4,ck]<;>(try subst h3)<;>(try subst h4)<;>simp_all
theorem FZ(BF BG:Int)(Aa Ai:AL)(MB MC:Int)(ME MF:AL)(h0:Ah Aa)(h1:Ah Ai):Y.call 10 [D.agg [D.int .i64 BF,D.int .i64 BG,D.sl 27 (AJ Ac Aa),D.sl 27 (AJ Ac Ai)],D.agg [D.int .i64 MB,D.int .i64 MC,D.sl 27 (AJ Ac ME),D.sl 27 (AJ Ac MF)]] []=some (D.bool (UF BF BG Aa Ai MB MC ME MF),[]):=Wt BF BG Aa Ai MB MC ME MF (Zg BF BG Aa Ai MB MC ME MF h0 h1)
noncomputable def Pv(BF BG:Int)(Aa Ai:AL)(left:Int):Option (Int):= ck (Uf Aa)<| ck (0≤left∧left≤1048576)<| if(Rz left (Aa.length+Bi Aa))<0 then some (-1) else ck (Uf Ai)<| ck (0≤(Rz left (Aa.length+Bi Aa))∧(Rz left (Aa.length+Bi Aa))≤1048576)<| if(Rz (Rz left (Aa.length+Bi Aa)) (Ai.length+Bi Ai))<0 then some (-1) else some (Rz (Rz left (Aa.length+Bi Aa)) (Ai.length+Bi Ai))
def k6:SC:= .seq (.ops [oX 2 (.box 24 (tK 0)) 0,oX 4 (.assign (iK 0)) 3]) (.seq (.ops [oF 5 24 2 2,oL 6 22 5 22,oM 7 1 3,oC 8 20 [(tK 6),(tK 7)] [22,3] 3,oA 1 8 3]) (.seq (.seq (.ops [oM 9 1 3,oB 10 .lss 3 (tK 9) (iK 0) 3 4]) (.cond (tK 10) (.seq (.ops [oX 4 Uc 3]) .ret) .skip)) (.seq (.ops [oF 11 24 2 3,oL 12 22 11 22,oM 13 1 3,oC 14 20 [(tK 12),(tK 13)] [22,3] 3,oA 1 14 3]) (.seq (.seq (.ops [oM 15 1 3,oB 16 .lss 3 (tK 15) (iK 0) 3 4]) (.cond (tK 16) (.seq (.ops [oX 4 Uc 3]) .ret) .skip)) (.seq (.ops [oM 17 1 3,oA 4 17 3]) .ret)))))
theorem AF0:Tryz.f6.body.map (BI lends)=some k6:=by kernel_rfl
theorem ok6:BR Tryz.f6 2=true:=by kernel_rfl
theorem c6{a l:List D}{r:D×List D}(h:BU Y.env k6 (Du Ab l.length [ResultVar.tmp 4] r) (entry a l))(ha:a.length=2):Y.call 6 a l=some r:=
 AP (Y:=Y) rfl Tryz.func6 (ha▸ok6) AF0 h
theorem Wu(BF BG:Int)(Aa Ai:AL)(left:Int){r:Int}(h:Pv BF BG Aa Ai left=some r):Y.call 6 [D.agg [D.int .i64 BF,D.int .i64 BG,D.sl 27 (AJ Ac Aa),D.sl 27 (AJ Ac Ai)],D.int .i64 left] []=some (D.int .i64 r,[]):=by
 refine c6 ?_ rfl;unfold k6;unfold Pv at h;obtain⟨e1,e2,h⟩:=Fy h;have c3:=Vb Aa left e1 e2;rcases iS h with⟨e4,h⟩|⟨e4,h⟩
 ·cases h;simp only [↓AB,AC,↓reduceIte,Nat.reduceEqDiff,Nat.reduceLT,c3,e4]
 ·obtain⟨e5,e6,h⟩:=Fy h;have c7:=Vb Ai (Rz left (Aa.length+Bi Aa)) e5 e6;rcases iS h with⟨e8,h⟩|⟨e8,h⟩
  ·cases h;simp only [↓AB,AC,↓reduceIte,Nat.reduceEqDiff,Nat.reduceLT,c3,e4,c7,e8]
  ·cases h;simp only [↓AB,AC,↓reduceIte,Nat.reduceEqDiff,Nat.reduceLT,c3,e4,c7,e8]
def szP(left:Int)(ns es:AL):Int:=if Rz left (ns.length+Bi ns)<0 then-1 else Rz (Rz left (ns.length+Bi ns)) (es.length+Bi es)
theorem Zh(a b:Int)(n e:AL)(left:Int)(hn:Uf n)(he:Uf e)(hl:0≤left∧left≤1048576):Pv a b n e left=some (szP left n e):=by
 have h1:=Cj n;unfold Pv szP;rw [Ao hn,Ao hl];rcases Tc left (n.length+Bi n)with c|⟨c,c'⟩
 ·rw [c];rfl
 ·have hc: ¬left-(n.length+Bi n)<0:=by omega
  have hd:0≤left-(n.length+Bi n)∧left-(n.length+Bi n)≤1048576:=by omega
  rw [c];simp only [if_neg hc,Ao he,Ao hd];split
  ·rename_i h
   rcases Tc (left-(n.length+Bi n)) (e.length+Bi e)with d|⟨d,d'⟩
   ·rw [d]
   ·omega
  ·rfl
theorem Zi(BF BG:Int)(Aa Ai:AL)(left:Int)(h0:Uf Aa)(h1:Uf Ai)(h2:0≤left∧left≤1048576):Y.call 6 [D.agg [D.int .i64 BF,D.int .i64 BG,D.sl 27 (AJ Ac Aa),D.sl 27 (AJ Ac Ai)],D.int .i64 left] []=some (D.int .i64 (szP left Aa Ai),[]):=Wu BF BG Aa Ai left (Zh BF BG Aa Ai left h0 h1 h2)
theorem A33{ns es:AL}{left:Int}(hl:left≤1048576)(h: ¬szP left ns es<0):ns.length+Bi ns+es.length+Bi es≤1048576∧Ah ns∧Ah es∧szP left ns es≤left:=by
 have t1:=Cj ns;have t2:=Cj es
 have key:(ns.length:Int)+Bi ns+es.length+Bi es≤1048576∧szP left ns es≤left:=by
  unfold szP at h ⊢;rcases Tc left (ns.length+Bi ns)with c|⟨c,c'⟩
  ·rw [c]at h;simp at h
  ·rw [c,if_neg (by omega)]at h
   rw [c,if_neg (by omega)]
   rcases Tc (left-(ns.length+Bi ns)) (es.length+Bi es)with d|⟨d,d'⟩
   ·rw [d]at h;simp at h
   ·omega
 exact⟨key.1,eZ (by omega),eZ (by omega),key.2⟩
noncomputable def NK(BF BG:Int)(Aa Ai:AL)(k:Int):Option (Int×AL×AL):= ck (Ah Aa)<| ck (0≤k∧k+Bi Aa<1099511627776)<| ck (Ah Ai)<| ck (0≤(k+Bi Aa)∧(k+Bi Aa)+Bi Ai<1099511627776)<| some (((k+Bi Aa)+Bi Ai),(GU k Aa),(GU (k+Bi Aa) Ai))
def k12:SC:= .seq (.ops [oX 2 (.box 26 (tK 0)) 0,oX 4 (.assign (iK 0)) 3]) (.seq (.ops [oF 5 26 2 2,oL 6 22 5 22,oM 7 1 3,oC 8 27 [(tK 6),(tK 7)] [22,3] 3,oA 1 8 3]) (.seq (.ops [oF 9 26 2 3,oL 10 22 9 22,oM 11 1 3,oC 12 27 [(tK 10),(tK 11)] [22,3] 3,oA 1 12 3]) (.seq (.ops [oM 13 1 3,oA 4 13 3]) .ret)))
theorem A7P:Tryz.f12.body.map (BI lends)=some k12:=by kernel_rfl
theorem AJp:BR Tryz.f12 2=true:=by kernel_rfl
theorem c12{a l:List D}{r:D×List D}(h:BU Y.env k12 (Du Ab l.length [ResultVar.tmp 4] r) (entry a l))(ha:a.length=2):Y.call 12 a l=some r:=
 AP (Y:=Y) rfl Tryz.func12 (ha▸AJp) A7P h
theorem Ug(BF BG:Int)(Aa Ai:AL)(k:Int){r:Int×AL×AL}(h:NK BF BG Aa Ai k=some r):Y.call 12 [D.agg [D.int .i64 BF,D.int .i64 BG,D.vw [100000] 0 0,D.vw [100001] 0 0],D.int .i64 k] [D.own 27 (AJ IX Aa),D.own 27 (AJ IX Ai)]=some (D.int .i64 r.1,[D.own 27 (AJ IX r.2.1),D.own 27 (AJ IX r.2.2)]):=by
 refine c12 ?_ rfl;unfold k12;unfold NK at h;obtain⟨e1,e2,h⟩:=Fy h;have c3:=Sr Aa k e1 e2;obtain⟨e4,e5,h⟩:=Fy h;have c6:=Sr Ai (k+Bi Aa) e4 e5;cases h;simp (maxDischargeDepth:=9) only [↓AB,AC,↓reduceIte,Nat.reduceEqDiff,Nat.reduceLT,Nat.reduceAdd,Nat.reduceSub,c3,c6]
theorem Wv(a b:Int)(n e:AL)(k:Int)(hn:Ah n)(he:Ah e)(hk:0≤k∧k+Bi n+Bi e<1099511627776):NK a b n e k=some (k+Bi n+Bi e,GU k n,GU (k+Bi n) e):=by
 have h1:=Cj n;have h2:=Cj e;unfold NK;rw [Ao hn,Ao (by omega),Ao he,Ao (by omega)]
theorem K8(BF BG:Int)(Aa Ai:AL)(k:Int)(h0:Ah Aa)(h1:Ah Ai)(h2:0≤k∧k+Bi Aa+Bi Ai<1099511627776):Y.call 12 [D.agg [D.int .i64 BF,D.int .i64 BG,D.vw [100000] 0 0,D.vw [100001] 0 0],D.int .i64 k] [D.own 27 (AJ IX Aa),D.own 27 (AJ IX Ai)]=some (D.int .i64 (k+Bi Aa+Bi Ai),[D.own 27 (AJ IX (GU k Aa)),D.own 27 (AJ IX (GU (k+Bi Aa) Ai))]):=Ug BF BG Aa Ai k (Wv BF BG Aa Ai k h0 h1 h2)
noncomputable def Kk(BF BG:Int)(Aa Ai:AL)(k:Int):Option (Int):= (Lc Aa k).bind fun O7=> if O7<0 then some (-1) else (Lc Ai O7).bind fun KY=> if KY<0 then some (-1) else some KY
def k14:SC:= .seq (.ops [oX 2 (.box 26 (tK 0)) 0,oX 4 (.assign (iK 0)) 3]) (.seq (.ops [oF 5 26 2 2,oL 6 22 5 22,oM 7 1 3,oC 8 28 [(tK 6),(tK 7)] [22,3] 3,oA 1 8 3]) (.seq (.seq (.ops [oM 9 1 3,oB 10 .lss 3 (tK 9) (iK 0) 3 4]) (.cond (tK 10) (.seq (.ops [oX 4 Uc 3]) .ret) .skip)) (.seq (.ops [oF 11 26 2 3,oL 12 22 11 22,oM 13 1 3,oC 14 28 [(tK 12),(tK 13)] [22,3] 3,oA 1 14 3]) (.seq (.seq (.ops [oM 15 1 3,oB 16 .lss 3 (tK 15) (iK 0) 3 4]) (.cond (tK 16) (.seq (.ops [oX 4 Uc 3]) .ret) .skip)) (.seq (.ops [oM 17 1 3,oA 4 17 3]) .ret)))))
theorem A7Q:Tryz.f14.body.map (BI lends)=some k14:=by kernel_rfl
theorem AJr:BR Tryz.f14 2=true:=by kernel_rfl
theorem bD{a l:List D}{r:D×List D}(h:BU Y.env k14 (Du Ab l.length [ResultVar.tmp 4] r) (entry a l))(ha:a.length=2):Y.call 14 a l=some r:=
 AP (Y:=Y) rfl Tryz.func14 (ha▸AJr) A7Q h
theorem P5(BF BG:Int)(Aa Ai:AL)(k:Int){r:Int}(h:Kk BF BG Aa Ai k=some r):Y.call 14 [D.agg [D.int .i64 BF,D.int .i64 BG,D.sl 27 (AJ Ac Aa),D.sl 27 (AJ Ac Ai)],D.int .i64 k] []=some (D.int .i64 r,[]):=by
 refine bD ?_ rfl;unfold k14;unfold Kk at h;obtain⟨O7,hl1,h⟩:=AQ h;have c1:=Qg Aa k hl1;rcases iS h with⟨e2,h⟩|⟨e2,h⟩
 ·cases h;simp only [↓AB,AC,↓reduceIte,Nat.reduceEqDiff,Nat.reduceLT,c1,e2]
 ·obtain⟨KY,hl3,h⟩:=AQ h;have c3:=Qg Ai O7 hl3;rcases iS h with⟨e4,h⟩|⟨e4,h⟩
  ·cases h;simp only [↓AB,AC,↓reduceIte,Nat.reduceEqDiff,Nat.reduceLT,c1,e2,c3,e4]
  ·cases h;simp only [↓AB,AC,↓reduceIte,Nat.reduceEqDiff,Nat.reduceLT,c1,e2,c3,e4]
theorem Ww(a b:Int)(n e:AL)(k:Int)(hn:Ah n)(he:Ah e)(hk:0≤k∧k+Bi n+Bi e<1099511627776):Kk a b (GU k n) (GU (k+Bi n) e) k=some (k+Bi n+Bi e):=by
 have h1:=Cj n;have h2:=Cj e;unfold Kk;rw [Su n k hn (by omega),Bl,if_neg (by omega),Su e _ he (by omega),Bl,if_neg (by omega)]
theorem uo{l:AL}(h:uf l):Uf l:=⟨Nat.lt_of_le_of_lt h.1 (by decide),fun x hx=>Nat.lt_of_le_of_lt (h.2 x hx).1 (by decide)⟩
end Go.Proofs.YtjhjkfoabhplfaaGreat
