/- Problems copied, compared, measured and marked, as plain functions. Conditions: the lists are short. -/
import Derived.Test.YtclkfhhdikfcpaaL6
import Derived.Test.YtclkfhhdikfcpaaBase
namespace Go.Proofs.Ytclkfhhdikfcpaa
open Go Dv
set_option linter.unusedSimpArgs false
set_option linter.unusedVariables false
set_option maxRecDepth 100000
set_option maxHeartbeats 4000000
noncomputable def Kg(BZ:Int)(Ba:Int)(Af:List (List Int))(Ap:List (List Int)):Option (Int×Int×(List (List Int))×(List (List Int))):= ck (BM Af)<| ck (BM Ap)<| some (BZ,Ba,Af,Ap)
def k12:SC:= .seq (.ops [oX 1 (.box 24 (tK 0)) 0,oX 2 (.alloc 29) 0]) (.seq (.ops [oX 3 (.alloc 29) 0]) (.seq (.ops [oF 4 24 1 0,oL 5 3 4 3,oF 6 29 3 0,oS 3 6 5]) (.seq (.ops [oF 7 24 1 1,oL 8 3 7 3,oF 9 29 3 1,oS 3 9 8]) (.seq (.ops [oF 10 24 1 2,oL 11 22 10 22,oC 12 45 [(tK 11)] [22] 22,oF 13 29 3 2,oS 22 13 12]) (.seq (.ops [oF 14 24 1 3,oL 15 22 14 22,oC 16 45 [(tK 15)] [22] 22,oF 17 29 3 3,oS 22 17 16]) (.seq (.ops [oL 18 29 3 29,oS 29 2 18]) .ret))))))
theorem yX:Try.f12.body.map (Ct lends)=some k12:=by kernel_rfl
theorem A9Y:DL Try.f12 1=true:=by kernel_rfl
theorem vY{a l:List D}{r:D×List D}(h:D6 Y.env k12 (I6 Aa l.length [ResultVar.cell 2 29] r) (entry a l))(ha:a.length=1):Y.call 12 a l=some r:=
 Ag (Y:=Y) rfl Try.func12 (ha▸A9Y) yX h
theorem QC(BZ:Int)(Ba:Int)(Af:List (List Int))(Ap:List (List Int)){r:Int×Int×(List (List Int))×(List (List Int))}(h:Kg BZ Ba Af Ap=some r):Y.call 12 [D.agg [D.int .i64 BZ,D.int .i64 Ba,D.sl 26 (A9 (fun x=>D.sl 3 (A9 (D.int .i64) x)) Af),D.sl 26 (A9 (fun x=>D.sl 3 (A9 (D.int .i64) x)) Ap)]] []=some (D.agg [D.int .i64 r.1,D.int .i64 r.2.1,D.own 26 (A9 (fun x=>D.own 3 (A9 (D.int .i64) x)) r.2.2.1),D.own 26 (A9 (fun x=>D.own 3 (A9 (D.int .i64) x)) r.2.2.2)],[]):=by
 refine vY ?_ rfl;unfold k12;unfold Kg at h;obtain⟨e1,h⟩:=Bw h;have c2:=PD Af e1;obtain⟨e3,h⟩:=Bw h;have c4:=PD Ap e3
 obtain rfl:=Option.some.inj h
 simp (maxDischargeDepth:=9) only [↓AB,AC,Ah,↓reduceIte,Nat.reduceEqDiff,Nat.reduceLT,Nat.reduceLeDiff,Nat.reduceAdd,Nat.reduceMul,Nat.reduceMod,Nat.reduceDiv,Nat.reducePow,Nat.reduceSub,Nat.reduceBEq,Int.reduceLE,Int.reduceLT,Int.reduceEq,Int.reduceSub,Int.reduceAdd,Int.reduceToNat,Int.reduceNeg,e1,c2,e3,c4]<;>(repeat' apply A7)<;>first|rfl|exact⟨_,rfl⟩|exact⟨_,_,rfl⟩|simp [A9,A8]
theorem T9(a b:Int)(n e:List (List Int))(hn:BM n)(he:BM e):Kg a b n e=some (a,b,n,e):=by
 unfold Kg;rw [CU hn,CU he]
theorem Ad(BZ:Int)(Ba:Int)(Af:List (List Int))(Ap:List (List Int))(h0:BM Af)(h1:BM Ap):Y.call 12 [D.agg [D.int .i64 BZ,D.int .i64 Ba,D.sl 26 (A9 (fun x=>D.sl 3 (A9 (D.int .i64) x)) Af),D.sl 26 (A9 (fun x=>D.sl 3 (A9 (D.int .i64) x)) Ap)]] []=some (D.agg [D.int .i64 BZ,D.int .i64 Ba,D.own 26 (A9 (fun x=>D.own 3 (A9 (D.int .i64) x)) Af),D.own 26 (A9 (fun x=>D.own 3 (A9 (D.int .i64) x)) Ap)],[]):=QC BZ Ba Af Ap (T9 BZ Ba Af Ap h0 h1)
noncomputable def Kh(BZ:Int)(Ba:Int)(Af:List (List Int))(Ap:List (List Int))(IP:Int)(IQ:Int)(IY:List (List Int))(IZ:List (List Int)):Option (Bool):= if BZ=IP then if Ba=IQ then ck (BM Af)<| if(decide (Af=IY))=true then ck (BM Ap)<| if(decide (Ap=IZ))=true then some true else some false else some false else some false else some false
def k15:SC:= .seq (.ops [oX 2 (.box 29 (tK 0)) 0,oX 3 (.box 29 (tK 1)) 0,oX 4 (.assign (.const (.bool false))) 4]) (.seq (.seq (.ops [oF 5 29 2 0,oL 6 3 5 3,oF 7 29 3 0,oL 8 3 7 3,oB 9 .neq 3 (tK 6) (tK 8) 3 4]) (.cond (tK 9) (.seq (.ops [oX 4 (.assign (.const (.bool false))) 4]) .ret) .skip)) (.seq (.seq (.ops [oF 10 29 2 1,oL 11 3 10 3,oF 12 29 3 1,oL 13 3 12 3,oB 14 .neq 3 (tK 11) (tK 13) 3 4]) (.cond (tK 14) (.seq (.ops [oX 4 (.assign (.const (.bool false))) 4]) .ret) .skip)) (.seq (.seq (.ops [oF 15 29 2 2,oL 16 22 15 22,oF 17 29 3 2,oL 18 22 17 22,oC 19 48 [(tK 16),(tK 18)] [22,22] 4,oX 20 (.unOp .not 4 (tK 19)) 4]) (.cond (tK 20) (.seq (.ops [oX 4 (.assign (.const (.bool false))) 4]) .ret) .skip)) (.seq (.seq (.ops [oF 21 29 2 3,oL 22 22 21 22,oF 23 29 3 3,oL 24 22 23 22,oC 25 48 [(tK 22),(tK 24)] [22,22] 4,oX 26 (.unOp .not 4 (tK 25)) 4]) (.cond (tK 26) (.seq (.ops [oX 4 (.assign (.const (.bool false))) 4]) .ret) .skip)) (.seq (.ops [oX 4 (.assign (.const (.bool true))) 4]) .ret)))))
theorem yY:Try.f15.body.map (Ct lends)=some k15:=by kernel_rfl
theorem A9a:DL Try.f15 2=true:=by kernel_rfl
theorem c15{a l:List D}{r:D×List D}(h:D6 Y.env k15 (I6 Aa l.length [ResultVar.tmp 4] r) (entry a l))(ha:a.length=2):Y.call 15 a l=some r:=
 Ag (Y:=Y) rfl Try.func15 (ha▸A9a) yY h
theorem QD(BZ:Int)(Ba:Int)(Af:List (List Int))(Ap:List (List Int))(IP:Int)(IQ:Int)(IY:List (List Int))(IZ:List (List Int)){r:Bool}(h:Kh BZ Ba Af Ap IP IQ IY IZ=some r):Y.call 15 [D.agg [D.int .i64 BZ,D.int .i64 Ba,D.sl 26 (A9 (fun x=>D.sl 3 (A9 (D.int .i64) x)) Af),D.sl 26 (A9 (fun x=>D.sl 3 (A9 (D.int .i64) x)) Ap)],D.agg [D.int .i64 IP,D.int .i64 IQ,D.sl 26 (A9 (fun x=>D.sl 3 (A9 (D.int .i64) x)) IY),D.sl 26 (A9 (fun x=>D.sl 3 (A9 (D.int .i64) x)) IZ)]] []=some (D.bool r,[]):=by
 refine c15 ?_ rfl;unfold k15;unfold Kh at h;by_cases e1:BZ=IP
 ·rw [if_pos e1]at h;by_cases e2:Ba=IQ
  ·rw [if_pos e2]at h;obtain⟨e3,h⟩:=Bw h;have c4:=PG Af IY e3;by_cases e5:(decide (Af=IY))=true
   ·rw [if_pos e5]at h;obtain⟨e6,h⟩:=Bw h;have c7:=PG Ap IZ e6;by_cases e8:(decide (Ap=IZ))=true
    ·rw [if_pos e8]at h
     obtain rfl:=Option.some.inj h
     simp (maxDischargeDepth:=9) only [↓AB,AC,Ah,↓reduceIte,Nat.reduceEqDiff,Nat.reduceLT,Nat.reduceLeDiff,Nat.reduceAdd,Nat.reduceMul,Nat.reduceMod,Nat.reduceDiv,Nat.reducePow,Nat.reduceSub,Nat.reduceBEq,Int.reduceLE,Int.reduceLT,Int.reduceEq,Int.reduceSub,Int.reduceAdd,Int.reduceToNat,Int.reduceNeg,decide_eq_true e1,decide_eq_true e2,e3,c4,e5,e6,c7,e8]<;>(repeat' apply A7)<;>first|rfl|exact⟨_,rfl⟩|exact⟨_,_,rfl⟩|simp [A9,A8]
    ·rw [if_neg e8]at h;have e8f:(decide (Ap=IZ))=false:=Gm.mpr e8
     obtain rfl:=Option.some.inj h
     simp (maxDischargeDepth:=9) only [↓AB,AC,Ah,↓reduceIte,Nat.reduceEqDiff,Nat.reduceLT,Nat.reduceLeDiff,Nat.reduceAdd,Nat.reduceMul,Nat.reduceMod,Nat.reduceDiv,Nat.reducePow,Nat.reduceSub,Nat.reduceBEq,Int.reduceLE,Int.reduceLT,Int.reduceEq,Int.reduceSub,Int.reduceAdd,Int.reduceToNat,Int.reduceNeg,decide_eq_true e1,decide_eq_true e2,e3,c4,e5,e6,c7,e8f]<;>(repeat' apply A7)<;>first|rfl|exact⟨_,rfl⟩|exact⟨_,_,rfl⟩|simp [A9,A8]
   ·rw [if_neg e5]at h;have e5f:(decide (Af=IY))=false:=Gm.mpr e5
    obtain rfl:=Option.some.inj h
    simp (maxDischargeDepth:=9) only [↓AB,AC,Ah,↓reduceIte,Nat.reduceEqDiff,Nat.reduceLT,Nat.reduceLeDiff,Nat.reduceAdd,Nat.reduceMul,Nat.reduceMod,Nat.reduceDiv,Nat.reducePow,Nat.reduceSub,Nat.reduceBEq,Int.reduceLE,Int.reduceLT,Int.reduceEq,Int.reduceSub,Int.reduceAdd,Int.reduceToNat,Int.reduceNeg,decide_eq_true e1,decide_eq_true e2,e3,c4,e5f]<;>(repeat' apply A7)<;>first|rfl|exact⟨_,rfl⟩|exact⟨_,_,rfl⟩|simp [A9,A8]
  ·rw [if_neg e2]at h
   obtain rfl:=Option.some.inj h
   simp (maxDischargeDepth:=9) only [↓AB,AC,Ah,↓reduceIte,Nat.reduceEqDiff,Nat.reduceLT,Nat.reduceLeDiff,Nat.reduceAdd,Nat.reduceMul,Nat.reduceMod,Nat.reduceDiv,Nat.reducePow,Nat.reduceSub,Nat.reduceBEq,Int.reduceLE,Int.reduceLT,Int.reduceEq,Int.reduceSub,Int.reduceAdd,Int.reduceToNat,Int.reduceNeg,decide_eq_true e1,e2]<;>(repeat' apply A7)<;>first|rfl|exact⟨_,rfl⟩|exact⟨_,_,rfl⟩|simp [A9,A8]
 ·rw [if_neg e1]at h
  obtain rfl:=Option.some.inj h
  simp (maxDischargeDepth:=9) only [↓AB,AC,Ah,↓reduceIte,Nat.reduceEqDiff,Nat.reduceLT,Nat.reduceLeDiff,Nat.reduceAdd,Nat.reduceMul,Nat.reduceMod,Nat.reduceDiv,Nat.reducePow,Nat.reduceSub,Nat.reduceBEq,Int.reduceLE,Int.reduceLT,Int.reduceEq,Int.reduceSub,Int.reduceAdd,Int.reduceToNat,Int.reduceNeg,e1]<;>(repeat' apply A7)<;>first|rfl|exact⟨_,rfl⟩|exact⟨_,_,rfl⟩|simp [A9,A8]
def Dm(a b:Int)(n e:List (List Int))(a' b':Int)(n' e':List (List Int)):Bool:=decide (a=a'∧b=b'∧n=n'∧e=e')
theorem TA(a b:Int)(n e:List (List Int)):Dm a b n e a b n e=true:=by simp [Dm]
theorem TB(a b:Int)(n e:List (List Int))(a' b':Int)(n' e':List (List Int))(hn:BM n)(he:BM e):Kh a b n e a' b' n' e'=some (Dm a b n e a' b' n' e'):=by
 unfold Kh Dm;by_cases h1:a=a'<;>by_cases h2:b=b'<;>by_cases h3:n=n'<;>by_cases h4:e=e'<;>simp [h1,h2,h3,h4,ck]<;>(try subst h3)<;>(try subst h4)<;>simp_all
theorem CQ(BZ:Int)(Ba:Int)(Af:List (List Int))(Ap:List (List Int))(IP:Int)(IQ:Int)(IY:List (List Int))(IZ:List (List Int))(h0:BM Af)(h1:BM Ap):Y.call 15 [D.agg [D.int .i64 BZ,D.int .i64 Ba,D.sl 26 (A9 (fun x=>D.sl 3 (A9 (D.int .i64) x)) Af),D.sl 26 (A9 (fun x=>D.sl 3 (A9 (D.int .i64) x)) Ap)],D.agg [D.int .i64 IP,D.int .i64 IQ,D.sl 26 (A9 (fun x=>D.sl 3 (A9 (D.int .i64) x)) IY),D.sl 26 (A9 (fun x=>D.sl 3 (A9 (D.int .i64) x)) IZ)]] []=some (D.bool (Dm BZ Ba Af Ap IP IQ IY IZ),[]):=QD BZ Ba Af Ap IP IQ IY IZ (TB BZ Ba Af Ap IP IQ IY IZ h0 h1)
noncomputable def Ki(BZ:Int)(Ba:Int)(Af:List (List Int))(Ap:List (List Int))(left:Int):Option (Int):= ck (M0 Af)<| ck (0≤left∧left≤1048576)<| if(Lf left (Af.length+CF Af))<0 then some (-1) else ck (M0 Ap)<| ck (0≤(Lf left (Af.length+CF Af))∧(Lf left (Af.length+CF Af))≤1048576)<| if(Lf (Lf left (Af.length+CF Af)) (Ap.length+CF Ap))<0 then some (-1) else some (Lf (Lf left (Af.length+CF Af)) (Ap.length+CF Ap))
def k10:SC:= .seq (.ops [oX 2 (.box 24 (tK 0)) 0,oX 4 (.assign (iK 0)) 3]) (.seq (.ops [oF 5 24 2 2,oL 6 22 5 22,oM 7 1 3,oC 8 40 [(tK 6),(tK 7)] [22,3] 3,oA 1 8 3]) (.seq (.seq (.ops [oM 9 1 3,oB 10 .lss 3 (tK 9) (iK 0) 3 4]) (.cond (tK 10) (.seq (.ops [oX 4 (.assign (.const (.int .i64 (-1)))) 3]) .ret) .skip)) (.seq (.ops [oF 11 24 2 3,oL 12 22 11 22,oM 13 1 3,oC 14 40 [(tK 12),(tK 13)] [22,3] 3,oA 1 14 3]) (.seq (.seq (.ops [oM 15 1 3,oB 16 .lss 3 (tK 15) (iK 0) 3 4]) (.cond (tK 16) (.seq (.ops [oX 4 (.assign (.const (.int .i64 (-1)))) 3]) .ret) .skip)) (.seq (.ops [oM 17 1 3,oA 4 17 3]) .ret)))))
theorem yZ:Try.f10.body.map (Ct lends)=some k10:=by kernel_rfl
theorem A9c:DL Try.f10 2=true:=by kernel_rfl
theorem df{a l:List D}{r:D×List D}(h:D6 Y.env k10 (I6 Aa l.length [ResultVar.tmp 4] r) (entry a l))(ha:a.length=2):Y.call 10 a l=some r:=
 Ag (Y:=Y) rfl Try.func10 (ha▸A9c) yZ h
theorem QE(BZ:Int)(Ba:Int)(Af:List (List Int))(Ap:List (List Int))(left:Int){r:Int}(h:Ki BZ Ba Af Ap left=some r):Y.call 10 [D.agg [D.int .i64 BZ,D.int .i64 Ba,D.sl 26 (A9 (fun x=>D.sl 3 (A9 (D.int .i64) x)) Af),D.sl 26 (A9 (fun x=>D.sl 3 (A9 (D.int .i64) x)) Ap)],D.int .i64 left] []=some (D.int .i64 r,[]):=by
 refine df ?_ rfl;unfold k10;unfold Ki at h;obtain⟨e1,h⟩:=Bw h;obtain⟨e2,h⟩:=Bw h;have c3:=PI Af left e1 e2;by_cases e4:(Lf left (Af.length+CF Af))<0
 ·rw [if_pos e4]at h
  obtain rfl:=Option.some.inj h
  simp (maxDischargeDepth:=9) only [↓AB,AC,Ah,↓reduceIte,Nat.reduceEqDiff,Nat.reduceLT,Nat.reduceLeDiff,Nat.reduceAdd,Nat.reduceMul,Nat.reduceMod,Nat.reduceDiv,Nat.reducePow,Nat.reduceSub,Nat.reduceBEq,Int.reduceLE,Int.reduceLT,Int.reduceEq,Int.reduceSub,Int.reduceAdd,Int.reduceToNat,Int.reduceNeg,e1,e2.1,e2.2,c3,e4]<;>(repeat' apply A7)<;>first|rfl|exact⟨_,rfl⟩|exact⟨_,_,rfl⟩|simp [A9,A8]
 ·rw [if_neg e4]at h;obtain⟨e5,h⟩:=Bw h;obtain⟨e6,h⟩:=Bw h;have c7:=PI Ap (Lf left (Af.length+CF Af)) e5 e6;by_cases e8:(Lf (Lf left (Af.length+CF Af)) (Ap.length+CF Ap))<0
  ·rw [if_pos e8]at h
   obtain rfl:=Option.some.inj h
   simp (maxDischargeDepth:=9) only [↓AB,AC,Ah,↓reduceIte,Nat.reduceEqDiff,Nat.reduceLT,Nat.reduceLeDiff,Nat.reduceAdd,Nat.reduceMul,Nat.reduceMod,Nat.reduceDiv,Nat.reducePow,Nat.reduceSub,Nat.reduceBEq,Int.reduceLE,Int.reduceLT,Int.reduceEq,Int.reduceSub,Int.reduceAdd,Int.reduceToNat,Int.reduceNeg,e1,e2.1,e2.2,c3,e4,e5,e6.1,e6.2,c7,e8]<;>(repeat' apply A7)<;>first|rfl|exact⟨_,rfl⟩|exact⟨_,_,rfl⟩|simp [A9,A8]
  ·rw [if_neg e8]at h
   obtain rfl:=Option.some.inj h
   simp (maxDischargeDepth:=9) only [↓AB,AC,Ah,↓reduceIte,Nat.reduceEqDiff,Nat.reduceLT,Nat.reduceLeDiff,Nat.reduceAdd,Nat.reduceMul,Nat.reduceMod,Nat.reduceDiv,Nat.reducePow,Nat.reduceSub,Nat.reduceBEq,Int.reduceLE,Int.reduceLT,Int.reduceEq,Int.reduceSub,Int.reduceAdd,Int.reduceToNat,Int.reduceNeg,e1,e2.1,e2.2,c3,e4,e5,e6.1,e6.2,c7,e8]<;>(repeat' apply A7)<;>first|rfl|exact⟨_,rfl⟩|exact⟨_,_,rfl⟩|simp [A9,A8]
def WE(left:Int)(ns es:List (List Int)):Int:=if Lf left (ns.length+CF ns)<0 then-1 else Lf (Lf left (ns.length+CF ns)) (es.length+CF es)
theorem TC(a b:Int)(n e:List (List Int))(left:Int)(hn:M0 n)(he:M0 e)(hl:0≤left∧left≤1048576):Ki a b n e left=some (WE left n e):=by
 have h1:=Cv n;unfold Ki WE;rw [CU hn,CU hl];rcases Nh left (n.length+CF n)with c|⟨c,c'⟩
 ·rw [c];rfl
 ·have hc: ¬left-(n.length+CF n)<0:=by omega
  have hd:0≤left-(n.length+CF n)∧left-(n.length+CF n)≤1048576:=by omega
  rw [c];simp only [if_neg hc,CU he,CU hd];split
  ·rename_i h
   rcases Nh (left-(n.length+CF n)) (e.length+CF e)with d|⟨d,d'⟩
   ·rw [d]
   ·omega
  ·rfl
theorem NH(BZ:Int)(Ba:Int)(Af:List (List Int))(Ap:List (List Int))(left:Int)(h0:M0 Af)(h1:M0 Ap)(h2:0≤left∧left≤1048576):Y.call 10 [D.agg [D.int .i64 BZ,D.int .i64 Ba,D.sl 26 (A9 (fun x=>D.sl 3 (A9 (D.int .i64) x)) Af),D.sl 26 (A9 (fun x=>D.sl 3 (A9 (D.int .i64) x)) Ap)],D.int .i64 left] []=some (D.int .i64 (WE left Af Ap),[]):=QE BZ Ba Af Ap left (TC BZ Ba Af Ap left h0 h1 h2)
theorem aR{ns es:List (List Int)}{left:Int}(hl:left≤1048576)(h: ¬WE left ns es<0):ns.length+CF ns+es.length+CF es≤1048576∧BM ns∧BM es∧WE left ns es≤left:=by
 have t1:=Cv ns;have t2:=Cv es
 have key:(ns.length:Int)+CF ns+es.length+CF es≤1048576∧WE left ns es≤left:=by
  unfold WE at h ⊢;rcases Nh left (ns.length+CF ns)with c|⟨c,c'⟩
  ·rw [c]at h;simp at h
  ·rw [c,if_neg (by omega)]at h
   rw [c,if_neg (by omega)]
   rcases Nh (left-(ns.length+CF ns)) (es.length+CF es)with d|⟨d,d'⟩
   ·rw [d]at h;simp at h
   ·omega
 exact⟨key.1,Uv (by omega),Uv (by omega),key.2⟩
noncomputable def JQ(BZ:Int)(Ba:Int)(Af:List (List Int))(Ap:List (List Int))(k:Int):Option (Int×(List (List Int))×(List (List Int))):= ck (BM Af)<| ck (0≤k∧k+CF Af<1099511627776)<| ck (BM Ap)<| ck (0≤(k+CF Af)∧(k+CF Af)+CF Ap<1099511627776)<| some (((k+CF Af)+CF Ap),(NF k Af),(NF (k+CF Af) Ap))
def k16:SC:= .seq (.ops [oX 2 (.box 29 (tK 0)) 0,oX 4 (.assign (iK 0)) 3]) (.seq (.ops [oF 5 29 2 2,oL 6 22 5 22,oM 7 1 3,oC 8 49 [(tK 6),(tK 7)] [22,3] 3,oA 1 8 3]) (.seq (.ops [oF 9 29 2 3,oL 10 22 9 22,oM 11 1 3,oC 12 49 [(tK 10),(tK 11)] [22,3] 3,oA 1 12 3]) (.seq (.ops [oM 13 1 3,oA 4 13 3]) .ret)))
theorem yc:Try.f16.body.map (Ct lends)=some k16:=by kernel_rfl
theorem A9e:DL Try.f16 2=true:=by kernel_rfl
theorem KH{a l:List D}{r:D×List D}(h:D6 Y.env k16 (I6 Aa l.length [ResultVar.tmp 4] r) (entry a l))(ha:a.length=2):Y.call 16 a l=some r:=
 Ag (Y:=Y) rfl Try.func16 (ha▸A9e) yc h
theorem OJ(BZ:Int)(Ba:Int)(Af:List (List Int))(Ap:List (List Int))(k:Int){r:Int×(List (List Int))×(List (List Int))}(h:JQ BZ Ba Af Ap k=some r):Y.call 16 [D.agg [D.int .i64 BZ,D.int .i64 Ba,D.vw [100000] 0 0,D.vw [100001] 0 0],D.int .i64 k] [D.own 26 (A9 (fun x=>D.own 3 (A9 (D.int .i64) x)) Af),D.own 26 (A9 (fun x=>D.own 3 (A9 (D.int .i64) x)) Ap)]=some (D.int .i64 r.1,[D.own 26 (A9 (fun x=>D.own 3 (A9 (D.int .i64) x)) r.2.1),D.own 26 (A9 (fun x=>D.own 3 (A9 (D.int .i64) x)) r.2.2)]):=by
 refine KH ?_ rfl;unfold k16;unfold JQ at h;obtain⟨e1,h⟩:=Bw h;obtain⟨e2,h⟩:=Bw h;have c3:=NG Af k e1 e2;obtain⟨e4,h⟩:=Bw h;obtain⟨e5,h⟩:=Bw h;have c6:=NG Ap (k+CF Af) e4 e5
 obtain rfl:=Option.some.inj h
 simp (maxDischargeDepth:=9) only [↓AB,AC,Ah,↓reduceIte,Nat.reduceEqDiff,Nat.reduceLT,Nat.reduceLeDiff,Nat.reduceAdd,Nat.reduceMul,Nat.reduceMod,Nat.reduceDiv,Nat.reducePow,Nat.reduceSub,Nat.reduceBEq,Int.reduceLE,Int.reduceLT,Int.reduceEq,Int.reduceSub,Int.reduceAdd,Int.reduceToNat,Int.reduceNeg,e1,e2.1,e2.2,c3,e4,e5.1,e5.2,c6]<;>(repeat' apply A7)<;>first|rfl|exact⟨_,rfl⟩|exact⟨_,_,rfl⟩|simp [A9,A8]
theorem QF(a b:Int)(n e:List (List Int))(k:Int)(hn:BM n)(he:BM e)(hk:0≤k∧k+CF n+CF e<1099511627776):JQ a b n e k=some (k+CF n+CF e,NF k n,NF (k+CF n) e):=by
 have h1:=Cv n;have h2:=Cv e;unfold JQ;rw [CU hn,CU (by omega),CU he,CU (by omega)]
theorem Bn(BZ:Int)(Ba:Int)(Af:List (List Int))(Ap:List (List Int))(k:Int)(h0:BM Af)(h1:BM Ap)(h2:0≤k∧k+CF Af+CF Ap<1099511627776):Y.call 16 [D.agg [D.int .i64 BZ,D.int .i64 Ba,D.vw [100000] 0 0,D.vw [100001] 0 0],D.int .i64 k] [D.own 26 (A9 (fun x=>D.own 3 (A9 (D.int .i64) x)) Af),D.own 26 (A9 (fun x=>D.own 3 (A9 (D.int .i64) x)) Ap)]=some (D.int .i64 (k+CF Af+CF Ap),[D.own 26 (A9 (fun x=>D.own 3 (A9 (D.int .i64) x)) (NF k Af)),D.own 26 (A9 (fun x=>D.own 3 (A9 (D.int .i64) x)) (NF (k+CF Af) Ap))]):=OJ BZ Ba Af Ap k (QF BZ Ba Af Ap k h0 h1 h2)
theorem RN{l:List (List Int)}(h:aM l):M0 l:=⟨Nat.lt_of_le_of_lt h.1 (by decide),fun x hx=>Nat.lt_of_le_of_lt (h.2 x hx).1 (by decide)⟩
end Go.Proofs.Ytclkfhhdikfcpaa
