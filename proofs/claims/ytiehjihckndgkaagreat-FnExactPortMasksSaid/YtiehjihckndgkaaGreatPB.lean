/- Problems copied, compared, measured and marked, as plain functions. Conditions: the lists are short. -/
import Derived.Test.YtiehjihckndgkaaGreatL6
import Derived.Test.YtiehjihckndgkaaGreatBase
namespace Go.Proofs.YtiehjihckndgkaaGreat
open Go Dv
set_option linter.unusedSimpArgs false
set_option linter.unusedVariables false
set_option maxRecDepth 100000
set_option maxHeartbeats 4000000
noncomputable def Nl(Bn:Int)(Bo:Int)(Ai:List (List Int))(Az:List (List Int)):Option (Int×Int×(List (List Int))×(List (List Int))):= ck (BB Ai)<| ck (BB Az)<| some (Bn,Bo,Ai,Az)
def k11:SC:= .seq (.ops [oX 1 (.box 24 (tK 0)) 0,oX 2 (.alloc 34) 0]) (.seq (.ops [oX 3 (.alloc 34) 0]) (.seq (.ops [oF 4 24 1 0,oL 5 3 4 3,oF 6 34 3 0,oS 3 6 5]) (.seq (.ops [oF 7 24 1 1,oL 8 3 7 3,oF 9 34 3 1,oS 3 9 8]) (.seq (.ops [oF 10 24 1 2,oL 11 22 10 22,oC 12 13 [(tK 11)] [22] 22,oF 13 34 3 2,oS 22 13 12]) (.seq (.ops [oF 14 24 1 3,oL 15 22 14 22,oC 16 13 [(tK 15)] [22] 22,oF 17 34 3 3,oS 22 17 16]) (.seq (.ops [oL 18 34 3 34,oS 34 2 18]) .ret))))))
theorem A4a:Tryz.f11.body.map (Bf lends)=some k11:=by kernel_rfl
theorem AGj:Bz Tryz.f11 1=true:=by kernel_rfl
theorem o6{a l:List D}{r:D×List D}(h:CF Y.env k11 (ES Ae l.length [ResultVar.cell 2 34] r) (entry a l))(ha:a.length=1):Y.call 11 a l=some r:=
 Ab (Y:=Y) rfl Tryz.func11 (ha▸AGj) A4a h
theorem U9(Bn:Int)(Bo:Int)(Ai:List (List Int))(Az:List (List Int)){r:Int×Int×(List (List Int))×(List (List Int))}(h:Nl Bn Bo Ai Az=some r):Y.call 11 [D.agg [D.int .i64 Bn,D.int .i64 Bo,D.sl 26 (AL (fun x=>D.sl 3 (AL (D.int .i64) x)) Ai),D.sl 26 (AL (fun x=>D.sl 3 (AL (D.int .i64) x)) Az)]] []=some (D.agg [D.int .i64 r.1,D.int .i64 r.2.1,D.own 26 (AL (fun x=>D.own 3 (AL (D.int .i64) x)) r.2.2.1),D.own 26 (AL (fun x=>D.own 3 (AL (D.int .i64) x)) r.2.2.2)],[]):=by
 refine o6 ?_ rfl;unfold k11;unfold Nl at h;obtain⟨e1,h⟩:=FK h;have c2:=G6 Ai e1;obtain⟨e3,h⟩:=FK h;have c4:=G6 Az e3
 obtain rfl:=Option.some.inj h
 simp (maxDischargeDepth:=9) only [↓AP,AQ,↓reduceIte,Nat.reduceEqDiff,Nat.reduceLT,Nat.reduceAdd,c2,c4]
theorem XZ(a b:Int)(n e:List (List Int))(hn:BB n)(he:BB e):Nl a b n e=some (a,b,n,e):=by
 unfold Nl;rw [BJ hn,BJ he]
theorem Gv(Bn:Int)(Bo:Int)(Ai:List (List Int))(Az:List (List Int))(h0:BB Ai)(h1:BB Az):Y.call 11 [D.agg [D.int .i64 Bn,D.int .i64 Bo,D.sl 26 (AL (fun x=>D.sl 3 (AL (D.int .i64) x)) Ai),D.sl 26 (AL (fun x=>D.sl 3 (AL (D.int .i64) x)) Az)]] []=some (D.agg [D.int .i64 Bn,D.int .i64 Bo,D.own 26 (AL (fun x=>D.own 3 (AL (D.int .i64) x)) Ai),D.own 26 (AL (fun x=>D.own 3 (AL (D.int .i64) x)) Az)],[]):=U9 Bn Bo Ai Az (XZ Bn Bo Ai Az h0 h1)
noncomputable def Nn(Bn:Int)(Bo:Int)(Ai:List (List Int))(Az:List (List Int))(Kj:Int)(Kk:Int)(Kl:List (List Int))(Km:List (List Int)):Option (Bool):= if Bn=Kj then if Bo=Kk then ck (BB Ai)<| if(decide (Ai=Kl))=true then ck (BB Az)<| if(decide (Az=Km))=true then some true else some false else some false else some false else some false
def k16:SC:= .seq (.ops [oX 2 (.box 34 (tK 0)) 0,oX 3 (.box 34 (tK 1)) 0,oX 4 (.assign (.const (.bool false))) 4]) (.seq (.seq (.ops [oF 5 34 2 0,oL 6 3 5 3,oF 7 34 3 0,oL 8 3 7 3,oB 9 .neq 3 (tK 6) (tK 8) 3 4]) (.cond (tK 9) (.seq (.ops [oX 4 (.assign (.const (.bool false))) 4]) .ret) .skip)) (.seq (.seq (.ops [oF 10 34 2 1,oL 11 3 10 3,oF 12 34 3 1,oL 13 3 12 3,oB 14 .neq 3 (tK 11) (tK 13) 3 4]) (.cond (tK 14) (.seq (.ops [oX 4 (.assign (.const (.bool false))) 4]) .ret) .skip)) (.seq (.seq (.ops [oF 15 34 2 2,oL 16 22 15 22,oF 17 34 3 2,oL 18 22 17 22,oC 19 15 [(tK 16),(tK 18)] [22,22] 4,oX 20 (.unOp .not 4 (tK 19)) 4]) (.cond (tK 20) (.seq (.ops [oX 4 (.assign (.const (.bool false))) 4]) .ret) .skip)) (.seq (.seq (.ops [oF 21 34 2 3,oL 22 22 21 22,oF 23 34 3 3,oL 24 22 23 22,oC 25 15 [(tK 22),(tK 24)] [22,22] 4,oX 26 (.unOp .not 4 (tK 25)) 4]) (.cond (tK 26) (.seq (.ops [oX 4 (.assign (.const (.bool false))) 4]) .ret) .skip)) (.seq (.ops [oX 4 (.assign (.const (.bool true))) 4]) .ret)))))
theorem A4b:Tryz.f16.body.map (Bf lends)=some k16:=by kernel_rfl
theorem AGl:Bz Tryz.f16 2=true:=by kernel_rfl
theorem c16{a l:List D}{r:D×List D}(h:CF Y.env k16 (ES Ae l.length [ResultVar.tmp 4] r) (entry a l))(ha:a.length=2):Y.call 16 a l=some r:=
 Ab (Y:=Y) rfl Tryz.func16 (ha▸AGl) A4b h
theorem UA(Bn:Int)(Bo:Int)(Ai:List (List Int))(Az:List (List Int))(Kj:Int)(Kk:Int)(Kl:List (List Int))(Km:List (List Int)){r:Bool}(h:Nn Bn Bo Ai Az Kj Kk Kl Km=some r):Y.call 16 [D.agg [D.int .i64 Bn,D.int .i64 Bo,D.sl 26 (AL (fun x=>D.sl 3 (AL (D.int .i64) x)) Ai),D.sl 26 (AL (fun x=>D.sl 3 (AL (D.int .i64) x)) Az)],D.agg [D.int .i64 Kj,D.int .i64 Kk,D.sl 26 (AL (fun x=>D.sl 3 (AL (D.int .i64) x)) Kl),D.sl 26 (AL (fun x=>D.sl 3 (AL (D.int .i64) x)) Km)]] []=some (D.bool r,[]):=by
 refine c16 ?_ rfl;unfold k16;unfold Nn at h;rcases iS h with⟨e1,h⟩|⟨e1,h⟩
 ·rcases iS h with⟨e2,h⟩|⟨e2,h⟩
  ·obtain⟨e3,h⟩:=FK h;have c4:=Ej Ai Kl e3;rcases iS h with⟨e5,h⟩|⟨e5,h⟩
   ·obtain⟨e6,h⟩:=FK h;have c7:=Ej Az Km e6;rcases iS h with⟨e8,h⟩|⟨e8,h⟩
    ·obtain rfl:=Option.some.inj h
     simp (maxDischargeDepth:=9) only [↓AP,AQ,↓reduceIte,Nat.reduceEqDiff,Nat.reduceLT,Nat.reduceAdd,decide_eq_true e1,decide_eq_true e2,c4,e5,c7,e8]
    ·have e8f:(decide (Az=Km))=false:=Fx.mpr e8
     obtain rfl:=Option.some.inj h
     simp (maxDischargeDepth:=9) only [↓AP,AQ,↓reduceIte,Nat.reduceEqDiff,Nat.reduceLT,Nat.reduceAdd,decide_eq_true e1,decide_eq_true e2,c4,e5,c7,e8f]
   ·have e5f:(decide (Ai=Kl))=false:=Fx.mpr e5
    obtain rfl:=Option.some.inj h
    simp (maxDischargeDepth:=9) only [↓AP,AQ,↓reduceIte,Nat.reduceEqDiff,Nat.reduceLT,Nat.reduceAdd,decide_eq_true e1,decide_eq_true e2,c4,e5f]
  ·obtain rfl:=Option.some.inj h
   simp (maxDischargeDepth:=9) only [↓AP,AQ,↓reduceIte,Nat.reduceEqDiff,Nat.reduceLT,Nat.reduceAdd,decide_eq_true e1,e2]
 ·obtain rfl:=Option.some.inj h
  simp (maxDischargeDepth:=9) only [↓AP,AQ,↓reduceIte,Nat.reduceEqDiff,Nat.reduceLT,Nat.reduceAdd,e1]
def T9(a b:Int)(n e:List (List Int))(a' b':Int)(n' e':List (List Int)):Bool:=decide (a=a'∧b=b'∧n=n'∧e=e')
theorem mJ(a b:Int)(n e:List (List Int)):T9 a b n e a b n e=true:=by simp [T9]
theorem Xa(a b:Int)(n e:List (List Int))(a' b':Int)(n' e':List (List Int))(hn:BB n)(he:BB e):Nn a b n e a' b' n' e'=some (T9 a b n e a' b' n' e'):=by
 unfold Nn T9;by_cases h1:a=a'<;>by_cases h2:b=b'<;>by_cases h3:n=n'<;>by_cases h4:e=e'<;>simp [h1,h2,h3,h4,ck]<;>(try subst h3)<;>(try subst h4)<;>simp_all
theorem QO(Bn:Int)(Bo:Int)(Ai:List (List Int))(Az:List (List Int))(Kj:Int)(Kk:Int)(Kl:List (List Int))(Km:List (List Int))(h0:BB Ai)(h1:BB Az):Y.call 16 [D.agg [D.int .i64 Bn,D.int .i64 Bo,D.sl 26 (AL (fun x=>D.sl 3 (AL (D.int .i64) x)) Ai),D.sl 26 (AL (fun x=>D.sl 3 (AL (D.int .i64) x)) Az)],D.agg [D.int .i64 Kj,D.int .i64 Kk,D.sl 26 (AL (fun x=>D.sl 3 (AL (D.int .i64) x)) Kl),D.sl 26 (AL (fun x=>D.sl 3 (AL (D.int .i64) x)) Km)]] []=some (D.bool (T9 Bn Bo Ai Az Kj Kk Kl Km),[]):=UA Bn Bo Ai Az Kj Kk Kl Km (Xa Bn Bo Ai Az Kj Kk Kl Km h0 h1)
noncomputable def Np(Bn:Int)(Bo:Int)(Ai:List (List Int))(Az:List (List Int))(left:Int):Option (Int):= ck (QN Ai)<| ck (0≤left∧left≤1048576)<| if(FW left (Ai.length+Bl Ai))<0 then some (-1) else ck (QN Az)<| ck (0≤(FW left (Ai.length+Bl Ai))∧(FW left (Ai.length+Bl Ai))≤1048576)<| if(FW (FW left (Ai.length+Bl Ai)) (Az.length+Bl Az))<0 then some (-1) else some (FW (FW left (Ai.length+Bl Ai)) (Az.length+Bl Az))
def k7:SC:= .seq (.ops [oX 2 (.box 24 (tK 0)) 0,oX 4 (.assign (iK 0)) 3]) (.seq (.ops [oF 5 24 2 2,oL 6 22 5 22,oM 7 1 3,oC 8 9 [(tK 6),(tK 7)] [22,3] 3,oA 1 8 3]) (.seq (.seq (.ops [oM 9 1 3,oB 10 .lss 3 (tK 9) (iK 0) 3 4]) (.cond (tK 10) (.seq (.ops [oX 4 (.assign (.const (.int .i64 (-1)))) 3]) .ret) .skip)) (.seq (.ops [oF 11 24 2 3,oL 12 22 11 22,oM 13 1 3,oC 14 9 [(tK 12),(tK 13)] [22,3] 3,oA 1 14 3]) (.seq (.seq (.ops [oM 15 1 3,oB 16 .lss 3 (tK 15) (iK 0) 3 4]) (.cond (tK 16) (.seq (.ops [oX 4 (.assign (.const (.int .i64 (-1)))) 3]) .ret) .skip)) (.seq (.ops [oM 17 1 3,oA 4 17 3]) .ret)))))
theorem AC9:Tryz.f7.body.map (Bf lends)=some k7:=by kernel_rfl
theorem ok7:Bz Tryz.f7 2=true:=by kernel_rfl
theorem c7{a l:List D}{r:D×List D}(h:CF Y.env k7 (ES Ae l.length [ResultVar.tmp 4] r) (entry a l))(ha:a.length=2):Y.call 7 a l=some r:=
 Ab (Y:=Y) rfl Tryz.func7 (ha▸ok7) AC9 h
theorem UB(Bn:Int)(Bo:Int)(Ai:List (List Int))(Az:List (List Int))(left:Int){r:Int}(h:Np Bn Bo Ai Az left=some r):Y.call 7 [D.agg [D.int .i64 Bn,D.int .i64 Bo,D.sl 26 (AL (fun x=>D.sl 3 (AL (D.int .i64) x)) Ai),D.sl 26 (AL (fun x=>D.sl 3 (AL (D.int .i64) x)) Az)],D.int .i64 left] []=some (D.int .i64 r,[]):=by
 refine c7 ?_ rfl;unfold k7;unfold Np at h;obtain⟨e1,e2,h⟩:=Ei h;have c3:=PH Ai left e1 e2;rcases iS h with⟨e4,h⟩|⟨e4,h⟩
 ·obtain rfl:=Option.some.inj h
  simp (maxDischargeDepth:=9) only [↓AP,AQ,↓reduceIte,Nat.reduceEqDiff,Nat.reduceLT,Nat.reduceAdd,Int.reduceNeg,c3,e4]
 ·obtain⟨e5,e6,h⟩:=Ei h;have c7:=PH Az (FW left (Ai.length+Bl Ai)) e5 e6;rcases iS h with⟨e8,h⟩|⟨e8,h⟩
  ·obtain rfl:=Option.some.inj h
   simp (maxDischargeDepth:=9) only [↓AP,AQ,↓reduceIte,Nat.reduceEqDiff,Nat.reduceLT,Nat.reduceAdd,Int.reduceNeg,c3,e4,c7,e8]
  ·obtain rfl:=Option.some.inj h
   simp (maxDischargeDepth:=9) only [↓AP,AQ,↓reduceIte,Nat.reduceEqDiff,Nat.reduceLT,Nat.reduceAdd,Int.reduceNeg,c3,e4,c7,e8]
def ZC(left:Int)(ns es:List (List Int)):Int:=if FW left (ns.length+Bl ns)<0 then-1 else FW (FW left (ns.length+Bl ns)) (es.length+Bl es)
theorem Xb(a b:Int)(n e:List (List Int))(left:Int)(hn:QN n)(he:QN e)(hl:0≤left∧left≤1048576):Np a b n e left=some (ZC left n e):=by
 have h1:=CU n;unfold Np ZC;rw [BJ hn,BJ hl];rcases Fe left (n.length+Bl n)with c|⟨c,c'⟩
 ·rw [c];rfl
 ·have hc: ¬left-(n.length+Bl n)<0:=by omega
  have hd:0≤left-(n.length+Bl n)∧left-(n.length+Bl n)≤1048576:=by omega
  rw [c];simp only [if_neg hc,BJ he,BJ hd];split
  ·rename_i h
   rcases Fe (left-(n.length+Bl n)) (e.length+Bl e)with d|⟨d,d'⟩
   ·rw [d]
   ·omega
  ·rfl
theorem Xc(Bn:Int)(Bo:Int)(Ai:List (List Int))(Az:List (List Int))(left:Int)(h0:QN Ai)(h1:QN Az)(h2:0≤left∧left≤1048576):Y.call 7 [D.agg [D.int .i64 Bn,D.int .i64 Bo,D.sl 26 (AL (fun x=>D.sl 3 (AL (D.int .i64) x)) Ai),D.sl 26 (AL (fun x=>D.sl 3 (AL (D.int .i64) x)) Az)],D.int .i64 left] []=some (D.int .i64 (ZC left Ai Az),[]):=UB Bn Bo Ai Az left (Xb Bn Bo Ai Az left h0 h1 h2)
theorem yx{ns es:List (List Int)}{left:Int}(hl:left≤1048576)(h: ¬ZC left ns es<0):ns.length+Bl ns+es.length+Bl es≤1048576∧BB ns∧BB es∧ZC left ns es≤left:=by
 have t1:=CU ns;have t2:=CU es
 have key:(ns.length:Int)+Bl ns+es.length+Bl es≤1048576∧ZC left ns es≤left:=by
  unfold ZC at h ⊢;rcases Fe left (ns.length+Bl ns)with c|⟨c,c'⟩
  ·rw [c]at h;simp at h
  ·rw [c,if_neg (by omega)]at h
   rw [c,if_neg (by omega)]
   rcases Fe (left-(ns.length+Bl ns)) (es.length+Bl es)with d|⟨d,d'⟩
   ·rw [d]at h;simp at h
   ·omega
 exact⟨key.1,U4 (by omega),U4 (by omega),key.2⟩
noncomputable def Le(Bn:Int)(Bo:Int)(Ai:List (List Int))(Az:List (List Int))(k:Int):Option (Int×(List (List Int))×(List (List Int))):= ck (BB Ai)<| ck (0≤k∧k+Bl Ai<1099511627776)<| ck (BB Az)<| ck (0≤(k+Bl Ai)∧(k+Bl Ai)+Bl Az<1099511627776)<| some (((k+Bl Ai)+Bl Az),(IZ k Ai),(IZ (k+Bl Ai) Az))
def k18:SC:= .seq (.ops [oX 2 (.box 34 (tK 0)) 0,oX 4 (.assign (iK 0)) 3]) (.seq (.ops [oF 5 34 2 2,oL 6 22 5 22,oM 7 1 3,oC 8 20 [(tK 6),(tK 7)] [22,3] 3,oA 1 8 3]) (.seq (.ops [oF 9 34 2 3,oL 10 22 9 22,oM 11 1 3,oC 12 20 [(tK 10),(tK 11)] [22,3] 3,oA 1 12 3]) (.seq (.ops [oM 13 1 3,oA 4 13 3]) .ret)))
theorem A4d:Tryz.f18.body.map (Bf lends)=some k18:=by kernel_rfl
theorem AGn:Bz Tryz.f18 2=true:=by kernel_rfl
theorem ZE{a l:List D}{r:D×List D}(h:CF Y.env k18 (ES Ae l.length [ResultVar.tmp 4] r) (entry a l))(ha:a.length=2):Y.call 18 a l=some r:=
 Ab (Y:=Y) rfl Tryz.func18 (ha▸AGn) A4d h
theorem RZ(Bn:Int)(Bo:Int)(Ai:List (List Int))(Az:List (List Int))(k:Int){r:Int×(List (List Int))×(List (List Int))}(h:Le Bn Bo Ai Az k=some r):Y.call 18 [D.agg [D.int .i64 Bn,D.int .i64 Bo,D.vw [100000] 0 0,D.vw [100001] 0 0],D.int .i64 k] [D.own 26 (AL (fun x=>D.own 3 (AL (D.int .i64) x)) Ai),D.own 26 (AL (fun x=>D.own 3 (AL (D.int .i64) x)) Az)]=some (D.int .i64 r.1,[D.own 26 (AL (fun x=>D.own 3 (AL (D.int .i64) x)) r.2.1),D.own 26 (AL (fun x=>D.own 3 (AL (D.int .i64) x)) r.2.2)]):=by
 refine ZE ?_ rfl;unfold k18;unfold Le at h;obtain⟨e1,e2,h⟩:=Ei h;have c3:=Gs Ai k e1 e2;obtain⟨e4,e5,h⟩:=Ei h;have c6:=Gs Az (k+Bl Ai) e4 e5
 obtain rfl:=Option.some.inj h
 simp (maxDischargeDepth:=9) only [↓AP,AQ,↓reduceIte,Nat.reduceEqDiff,Nat.reduceLT,Nat.reduceAdd,Nat.reduceSub,c3,c6]
theorem UC(a b:Int)(n e:List (List Int))(k:Int)(hn:BB n)(he:BB e)(hk:0≤k∧k+Bl n+Bl e<1099511627776):Le a b n e k=some (k+Bl n+Bl e,IZ k n,IZ (k+Bl n) e):=by
 have h1:=CU n;have h2:=CU e;unfold Le;rw [BJ hn,BJ (by omega),BJ he,BJ (by omega)]
theorem Oh(Bn:Int)(Bo:Int)(Ai:List (List Int))(Az:List (List Int))(k:Int)(h0:BB Ai)(h1:BB Az)(h2:0≤k∧k+Bl Ai+Bl Az<1099511627776):Y.call 18 [D.agg [D.int .i64 Bn,D.int .i64 Bo,D.vw [100000] 0 0,D.vw [100001] 0 0],D.int .i64 k] [D.own 26 (AL (fun x=>D.own 3 (AL (D.int .i64) x)) Ai),D.own 26 (AL (fun x=>D.own 3 (AL (D.int .i64) x)) Az)]=some (D.int .i64 (k+Bl Ai+Bl Az),[D.own 26 (AL (fun x=>D.own 3 (AL (D.int .i64) x)) (IZ k Ai)),D.own 26 (AL (fun x=>D.own 3 (AL (D.int .i64) x)) (IZ (k+Bl Ai) Az))]):=RZ Bn Bo Ai Az k (UC Bn Bo Ai Az k h0 h1 h2)
theorem bz{l:List (List Int)}(h:il l):QN l:=⟨kC h.1 (by decide),fun x hx=>kC (h.2 x hx).1 (by decide)⟩
end Go.Proofs.YtiehjihckndgkaaGreat
