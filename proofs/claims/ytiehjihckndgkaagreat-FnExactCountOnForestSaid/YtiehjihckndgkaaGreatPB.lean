/- Problems copied, compared, measured and marked, as plain functions. Conditions: the lists are short. -/
import Derived.Test.YtiehjihckndgkaaGreatL6
import Derived.Test.YtiehjihckndgkaaGreatBase
namespace Go.Proofs.YtiehjihckndgkaaGreat
open Go Dv
set_option linter.unusedSimpArgs false
set_option linter.unusedVariables false
set_option maxRecDepth 100000
set_option maxHeartbeats 4000000
noncomputable def QE(Co:Int)(Cq:Int)(BQ:AY)(C9:AY):Option (Int×Int×AY×AY):= ck (Bv BQ)<| ck (Bv C9)<| some (Co,Cq,BQ,C9)
def k11:SC:= .seq (.ops [oX 1 (.box 24 (tK 0)) 0,oX 2 (.alloc 34) 0]) (.seq (.ops [oX 3 (.alloc 34) 0]) (.seq (.ops [oF 4 24 1 0,oL 5 3 4 3,oF 6 34 3 0,oS 3 6 5]) (.seq (.ops [oF 7 24 1 1,oL 8 3 7 3,oF 9 34 3 1,oS 3 9 8]) (.seq (.ops [oF 10 24 1 2,oL 11 22 10 22,oC 12 13 [(tK 11)] [22] 22,oF 13 34 3 2,oS 22 13 12]) (.seq (.ops [oF 14 24 1 3,oL 15 22 14 22,oC 16 13 [(tK 15)] [22] 22,oF 17 34 3 3,oS 22 17 16]) (.seq (.ops [oL 18 34 3 34,oS 34 2 18]) .ret))))))
theorem A9r:Tryz.f11.body.map (BX lends)=some k11:=by kernel_rfl
theorem AMh:Bj Tryz.f11 1=true:=by kernel_rfl
theorem c11{a l:List D}{r:D×List D}(h:Br Y.env k11 (fin Ap l.length [ResultVar.cell 2 34] r) (entry a l))(ha:a.length=1):Y.call 11 a l=some r:=
 AZ (Y:=Y) rfl Tryz.func11 (ha▸AMh) A9r h
theorem X7(Co:Int)(Cq:Int)(BQ:AY)(C9:AY){r:Int×Int×AY×AY}(h:QE Co Cq BQ C9=some r):Y.call 11 [D.agg [D.int .i64 Co,D.int .i64 Cq,D.sl 26 (AQ Bw BQ),D.sl 26 (AQ Bw C9)]] []=some (D.agg [D.int .i64 r.1,D.int .i64 r.2.1,D.own 26 (AQ Qw r.2.2.1),D.own 26 (AQ Qw r.2.2.2)],[]):=by
 refine c11 ?_ rfl;unfold k11;unfold QE at h;obtain⟨e1,h⟩:=ES h;have c2:=Vo BQ e1;obtain⟨e3,h⟩:=ES h;have c4:=Vo C9 e3
 obtain rfl:=Option.some.inj h
 simp (maxDischargeDepth:=9) only [↓AL,AO,↓reduceIte,Nat.reduceEqDiff,Nat.reduceLT,Nat.reduceAdd,c2,c4]
theorem aV(a b:Int)(n e:AY)(hn:Bv n)(he:Bv e):QE a b n e=some (a,b,n,e):=by
 unfold QE;rw [BL hn,BL he]
theorem MV(Co:Int)(Cq:Int)(BQ:AY)(C9:AY)(h0:Bv BQ)(h1:Bv C9):Y.call 11 [D.agg [D.int .i64 Co,D.int .i64 Cq,D.sl 26 (AQ Bw BQ),D.sl 26 (AQ Bw C9)]] []=some (D.agg [D.int .i64 Co,D.int .i64 Cq,D.own 26 (AQ Qw BQ),D.own 26 (AQ Qw C9)],[]):=X7 Co Cq BQ C9 (aV Co Cq BQ C9 h0 h1)
noncomputable def QF(Co:Int)(Cq:Int)(BQ:AY)(C9:AY)(MW:Int)(MX:Int)(MZ:AY)(Ma:AY):Option (Bool):= if Co=MW then if Cq=MX then ck (Bv BQ)<| if(decide (BQ=MZ))=true then ck (Bv C9)<| if(decide (C9=Ma))=true then some true else some false else some false else some false else some false
def k16:SC:= .seq (.ops [oX 2 (.box 34 (tK 0)) 0,oX 3 (.box 34 (tK 1)) 0,oX 4 CY 4]) (.seq (.seq (.ops [oF 5 34 2 0,oL 6 3 5 3,oF 7 34 3 0,oL 8 3 7 3,oB 9 .neq 3 (tK 6) (tK 8) 3 4]) (.cond (tK 9) (.seq (.ops [oX 4 CY 4]) .ret) .skip)) (.seq (.seq (.ops [oF 10 34 2 1,oL 11 3 10 3,oF 12 34 3 1,oL 13 3 12 3,oB 14 .neq 3 (tK 11) (tK 13) 3 4]) (.cond (tK 14) (.seq (.ops [oX 4 CY 4]) .ret) .skip)) (.seq (.seq (.ops [oF 15 34 2 2,oL 16 22 15 22,oF 17 34 3 2,oL 18 22 17 22,oC 19 15 [(tK 16),(tK 18)] [22,22] 4,oX 20 (.unOp .not 4 (tK 19)) 4]) (.cond (tK 20) (.seq (.ops [oX 4 CY 4]) .ret) .skip)) (.seq (.seq (.ops [oF 21 34 2 3,oL 22 22 21 22,oF 23 34 3 3,oL 24 22 23 22,oC 25 15 [(tK 22),(tK 24)] [22,22] 4,oX 26 (.unOp .not 4 (tK 25)) 4]) (.cond (tK 26) (.seq (.ops [oX 4 CY 4]) .ret) .skip)) (.seq (.ops [oX 4 (.assign F7) 4]) .ret)))))
theorem A9s:Tryz.f16.body.map (BX lends)=some k16:=by kernel_rfl
theorem AMj:Bj Tryz.f16 2=true:=by kernel_rfl
theorem c16{a l:List D}{r:D×List D}(h:Br Y.env k16 (fin Ap l.length [ResultVar.tmp 4] r) (entry a l))(ha:a.length=2):Y.call 16 a l=some r:=
 AZ (Y:=Y) rfl Tryz.func16 (ha▸AMj) A9s h
theorem X8(Co:Int)(Cq:Int)(BQ:AY)(C9:AY)(MW:Int)(MX:Int)(MZ:AY)(Ma:AY){r:Bool}(h:QF Co Cq BQ C9 MW MX MZ Ma=some r):Y.call 16 [D.agg [D.int .i64 Co,D.int .i64 Cq,D.sl 26 (AQ Bw BQ),D.sl 26 (AQ Bw C9)],D.agg [D.int .i64 MW,D.int .i64 MX,D.sl 26 (AQ Bw MZ),D.sl 26 (AQ Bw Ma)]] []=some (D.bool r,[]):=by
 refine c16 ?_ rfl;unfold k16;unfold QF at h;rcases iS h with⟨e1,h⟩|⟨e1,h⟩
 ·rcases iS h with⟨e2,h⟩|⟨e2,h⟩
  ·obtain⟨e3,h⟩:=ES h;have c4:=Vr BQ MZ e3;rcases iS h with⟨e5,h⟩|⟨e5,h⟩
   ·obtain⟨e6,h⟩:=ES h;have c7:=Vr C9 Ma e6;rcases iS h with⟨e8,h⟩|⟨e8,h⟩
    ·obtain rfl:=Option.some.inj h
     simp (maxDischargeDepth:=9) only [↓AL,AO,↓reduceIte,Nat.reduceEqDiff,Nat.reduceLT,Nat.reduceAdd,decide_eq_true e1,decide_eq_true e2,c4,e5,c7,e8]
    ·have e8f:(decide (C9=Ma))=false:=Jw.mpr e8
     obtain rfl:=Option.some.inj h
     simp (maxDischargeDepth:=9) only [↓AL,AO,↓reduceIte,Nat.reduceEqDiff,Nat.reduceLT,Nat.reduceAdd,decide_eq_true e1,decide_eq_true e2,c4,e5,c7,e8f]
   ·have e5f:(decide (BQ=MZ))=false:=Jw.mpr e5
    obtain rfl:=Option.some.inj h
    simp (maxDischargeDepth:=9) only [↓AL,AO,↓reduceIte,Nat.reduceEqDiff,Nat.reduceLT,Nat.reduceAdd,decide_eq_true e1,decide_eq_true e2,c4,e5f]
  ·obtain rfl:=Option.some.inj h
   simp (maxDischargeDepth:=9) only [↓AL,AO,↓reduceIte,Nat.reduceEqDiff,Nat.reduceLT,Nat.reduceAdd,decide_eq_true e1,e2]
 ·obtain rfl:=Option.some.inj h
  simp (maxDischargeDepth:=9) only [↓AL,AO,↓reduceIte,Nat.reduceEqDiff,Nat.reduceLT,Nat.reduceAdd,e1]
def Vv(a b:Int)(n e:AY)(a' b':Int)(n' e':AY):Bool:=decide (a=a'∧b=b'∧n=n'∧e=e')
theorem vN(a b:Int)(n e:AY):Vv a b n e a b n e=true:=by simp [Vv]
theorem aW(a b:Int)(n e:AY)(a' b':Int)(n' e':AY)(hn:Bv n)(he:Bv e):QF a b n e a' b' n' e'=some (Vv a b n e a' b' n' e'):=by
 unfold QF Vv;by_cases h1:a=a'<;>by_cases h2:b=b'<;>by_cases h3:n=n'<;>by_cases h4:e=e'<;>simp [h1,h2,h3,h4,ck]<;>(try subst h3)<;>(try subst h4)<;>simp_all
theorem TM(Co:Int)(Cq:Int)(BQ:AY)(C9:AY)(MW:Int)(MX:Int)(MZ:AY)(Ma:AY)(h0:Bv BQ)(h1:Bv C9):Y.call 16 [D.agg [D.int .i64 Co,D.int .i64 Cq,D.sl 26 (AQ Bw BQ),D.sl 26 (AQ Bw C9)],D.agg [D.int .i64 MW,D.int .i64 MX,D.sl 26 (AQ Bw MZ),D.sl 26 (AQ Bw Ma)]] []=some (D.bool (Vv Co Cq BQ C9 MW MX MZ Ma),[]):=X8 Co Cq BQ C9 MW MX MZ Ma (aW Co Cq BQ C9 MW MX MZ Ma h0 h1)
noncomputable def QG(Co:Int)(Cq:Int)(BQ:AY)(C9:AY)(left:Int):Option (Int):= ck (Um BQ)<| ck (0≤left∧left≤1048576)<| if(Ga left (BQ.length+K5 BQ))<0 then some (-1) else ck (Um C9)<| ck (0≤(Ga left (BQ.length+K5 BQ))∧(Ga left (BQ.length+K5 BQ))≤1048576)<| if(Ga (Ga left (BQ.length+K5 BQ)) (C9.length+K5 C9))<0 then some (-1) else some (Ga (Ga left (BQ.length+K5 BQ)) (C9.length+K5 C9))
def k7:SC:= .seq (.ops [oX 2 (.box 24 (tK 0)) 0,oX 4 (.assign (iK 0)) 3]) (.seq (.ops [oF 5 24 2 2,oL 6 22 5 22,oM 7 1 3,oC 8 9 [(tK 6),(tK 7)] [22,3] 3,oA 1 8 3]) (.seq (.seq (.ops [oM 9 1 3,oB 10 .lss 3 (tK 9) (iK 0) 3 4]) (.cond (tK 10) (.seq (.ops [oX 4 SL 3]) .ret) .skip)) (.seq (.ops [oF 11 24 2 3,oL 12 22 11 22,oM 13 1 3,oC 14 9 [(tK 12),(tK 13)] [22,3] 3,oA 1 14 3]) (.seq (.seq (.ops [oM 15 1 3,oB 16 .lss 3 (tK 15) (iK 0) 3 4]) (.cond (tK 16) (.seq (.ops [oX 4 SL 3]) .ret) .skip)) (.seq (.ops [oM 17 1 3,oA 4 17 3]) .ret)))))
theorem AHe:Tryz.f7.body.map (BX lends)=some k7:=by kernel_rfl
theorem ok7:Bj Tryz.f7 2=true:=by kernel_rfl
theorem c7{a l:List D}{r:D×List D}(h:Br Y.env k7 (fin Ap l.length [ResultVar.tmp 4] r) (entry a l))(ha:a.length=2):Y.call 7 a l=some r:=
 AZ (Y:=Y) rfl Tryz.func7 (ha▸ok7) AHe h
theorem X9(Co:Int)(Cq:Int)(BQ:AY)(C9:AY)(left:Int){r:Int}(h:QG Co Cq BQ C9 left=some r):Y.call 7 [D.agg [D.int .i64 Co,D.int .i64 Cq,D.sl 26 (AQ Bw BQ),D.sl 26 (AQ Bw C9)],D.int .i64 left] []=some (D.int .i64 r,[]):=by
 refine c7 ?_ rfl;unfold k7;unfold QG at h;obtain⟨e1,e2,h⟩:=GX h;have c3:=Vu BQ left e1 e2;rcases iS h with⟨e4,h⟩|⟨e4,h⟩
 ·obtain rfl:=Option.some.inj h
  simp (maxDischargeDepth:=9) only [↓AL,AO,↓reduceIte,Nat.reduceEqDiff,Nat.reduceLT,Nat.reduceAdd,Int.reduceNeg,c3,e4]
 ·obtain⟨e5,e6,h⟩:=GX h;have c7:=Vu C9 (Ga left (BQ.length+K5 BQ)) e5 e6;rcases iS h with⟨e8,h⟩|⟨e8,h⟩
  ·obtain rfl:=Option.some.inj h
   simp (maxDischargeDepth:=9) only [↓AL,AO,↓reduceIte,Nat.reduceEqDiff,Nat.reduceLT,Nat.reduceAdd,Int.reduceNeg,c3,e4,c7,e8]
  ·obtain rfl:=Option.some.inj h
   simp (maxDischargeDepth:=9) only [↓AL,AO,↓reduceIte,Nat.reduceEqDiff,Nat.reduceLT,Nat.reduceAdd,Int.reduceNeg,c3,e4,c7,e8]
def xN(left:Int)(ns es:AY):Int:=if Ga left (ns.length+K5 ns)<0 then-1 else Ga (Ga left (ns.length+K5 ns)) (es.length+K5 es)
theorem aX(a b:Int)(n e:AY)(left:Int)(hn:Um n)(he:Um e)(hl:0≤left∧left≤1048576):QG a b n e left=some (xN left n e):=by
 have h1:=Ep n;unfold QG xN;rw [BL hn,BL hl];rcases JX left (n.length+K5 n)with c|⟨c,c'⟩
 ·rw [c];rfl
 ·have hc: ¬left-(n.length+K5 n)<0:=by omega
  have hd:0≤left-(n.length+K5 n)∧left-(n.length+K5 n)≤1048576:=by omega
  rw [c];simp only [if_neg hc,BL he,BL hd];split
  ·rename_i h
   rcases JX (left-(n.length+K5 n)) (e.length+K5 e)with d|⟨d,d'⟩
   ·rw [d]
   ·omega
  ·rfl
theorem aY(Co:Int)(Cq:Int)(BQ:AY)(C9:AY)(left:Int)(h0:Um BQ)(h1:Um C9)(h2:0≤left∧left≤1048576):Y.call 7 [D.agg [D.int .i64 Co,D.int .i64 Cq,D.sl 26 (AQ Bw BQ),D.sl 26 (AQ Bw C9)],D.int .i64 left] []=some (D.int .i64 (xN left BQ C9),[]):=X9 Co Cq BQ C9 left (aX Co Cq BQ C9 left h0 h1 h2)
theorem A4E{ns es:AY}{left:Int}(hl:left≤1048576)(h: ¬xN left ns es<0):ns.length+K5 ns+es.length+K5 es≤1048576∧Bv ns∧Bv es∧xN left ns es≤left:=by
 have t1:=Ep ns;have t2:=Ep es
 have key:(ns.length:Int)+K5 ns+es.length+K5 es≤1048576∧xN left ns es≤left:=by
  unfold xN at h ⊢;rcases JX left (ns.length+K5 ns)with c|⟨c,c'⟩
  ·rw [c]at h;simp at h
  ·rw [c,if_neg (by omega)]at h
   rw [c,if_neg (by omega)]
   rcases JX (left-(ns.length+K5 ns)) (es.length+K5 es)with d|⟨d,d'⟩
   ·rw [d]at h;simp at h
   ·omega
 exact⟨key.1,jL (by omega),jL (by omega),key.2⟩
def k18:SC:= .seq (.ops [oX 2 (.box 34 (tK 0)) 0,oX 4 (.assign (iK 0)) 3]) (.seq (.ops [oF 5 34 2 2,oL 6 22 5 22,oM 7 1 3,oC 8 20 [(tK 6),(tK 7)] [22,3] 3,oA 1 8 3]) (.seq (.ops [oF 9 34 2 3,oL 10 22 9 22,oM 11 1 3,oC 12 20 [(tK 10),(tK 11)] [22,3] 3,oA 1 12 3]) (.seq (.ops [oM 13 1 3,oA 4 13 3]) .ret)))
theorem A9u:Tryz.f18.body.map (BX lends)=some k18:=by kernel_rfl
theorem AMk:Bj Tryz.f18 2=true:=by kernel_rfl
theorem jM{a l:List D}{r:D×List D}(h:Br Y.env k18 (fin Ap l.length [ResultVar.tmp 4] r) (entry a l))(ha:a.length=2):Y.call 18 a l=some r:=
 AZ (Y:=Y) rfl Tryz.func18 (ha▸AMk) A9u h
theorem xO{l:AY}(h:xE l):Um l:=⟨sZ h.1 (by decide),fun x hx=>sZ (h.2 x hx).1 (by decide)⟩
end Go.Proofs.YtiehjihckndgkaaGreat
