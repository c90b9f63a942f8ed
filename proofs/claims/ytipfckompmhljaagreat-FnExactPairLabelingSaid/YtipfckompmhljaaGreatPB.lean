/- Problems copied, compared, measured and marked, as plain functions. Conditions: the lists are short. -/
import Derived.Test.YtipfckompmhljaaGreatL6
import Derived.Test.YtipfckompmhljaaGreatBase
namespace Go.Proofs.YtipfckompmhljaaGreat
open Go Dv
set_option linter.unusedSimpArgs false
set_option linter.unusedVariables false
set_option maxRecDepth 100000
set_option maxHeartbeats 4000000
noncomputable def Iq(Ag Ah:Int)(AI AT:List (List Int)):Option (Int×Int×(List (List Int))×(List (List Int))):=
 ck (Ab AI)<|
 ck (Ab AT)<|
 some (Ag,Ah,AI,AT)
def k7:SC:=
 .seq
 (.ops [
 ⟨some 1, .box 24 (.tmp 0),0,none⟩,
 ⟨some 2, .alloc 33,0,none⟩])
 (.seq
 (.ops [
 ⟨some 3, .alloc 33,0,none⟩])
 (.seq
 (.ops [
 ⟨some 4, .fieldAddr 24 (.tmp 1) 0,0,none⟩,
 ⟨some 5, .load 3 (.tmp 4),3,none⟩,
 ⟨some 6, .fieldAddr 33 (.tmp 3) 0,0,none⟩,
 ⟨none, .store 3 (.tmp 6) (.tmp 5),0,none⟩])
 (.seq
 (.ops [
 ⟨some 7, .fieldAddr 24 (.tmp 1) 1,0,none⟩,
 ⟨some 8, .load 3 (.tmp 7),3,none⟩,
 ⟨some 9, .fieldAddr 33 (.tmp 3) 1,0,none⟩,
 ⟨none, .store 3 (.tmp 9) (.tmp 8),0,none⟩])
 (.seq
 (.ops [
 ⟨some 10, .fieldAddr 24 (.tmp 1) 2,0,none⟩,
 ⟨some 11, .load 22 (.tmp 10),22,none⟩,
 ⟨some 12, .call ⟨(.value (.func 23)), #[(.tmp 11)], #[22]⟩,22,none⟩,
 ⟨some 13, .fieldAddr 33 (.tmp 3) 2,0,none⟩,
 ⟨none, .store 22 (.tmp 13) (.tmp 12),0,none⟩])
 (.seq
 (.ops [
 ⟨some 14, .fieldAddr 24 (.tmp 1) 3,0,none⟩,
 ⟨some 15, .load 22 (.tmp 14),22,none⟩,
 ⟨some 16, .call ⟨(.value (.func 23)), #[(.tmp 15)], #[22]⟩,22,none⟩,
 ⟨some 17, .fieldAddr 33 (.tmp 3) 3,0,none⟩,
 ⟨none, .store 22 (.tmp 17) (.tmp 16),0,none⟩])
 (.seq
 (.ops [
 ⟨some 18, .load 33 (.tmp 3),33,none⟩,
 ⟨none, .store 33 (.tmp 2) (.tmp 18),0,none⟩])
 .ret))))))
theorem xN:Tryz.f7.body.map (Am lends)=some k7:=by kernel_rfl
theorem ok7:As Tryz.f7 1=true:=by kernel_rfl
theorem c7{a l:List D}{r:D×List D}(h:Av Y.env k7 (fin AJ l.length [ResultVar.cell 2 33] r) (entry a l))(ha:a.length=1):Y.call 7 a l=some r:=
 AC (Y:=Y) rfl Tryz.func7 (ha▸ok7) xN h
theorem Nn(Ag Ah:Int)(AI AT:List (List Int)){r:Int×Int×(List (List Int))×(List (List Int))}(h:Iq Ag Ah AI AT=some r):Y.call 7 [D.agg [D.int .i64 Ag,D.int .i64 Ah,D.sl 26 (A9 (fun x=>D.sl 3 (A9 (D.int .i64) x)) AI),D.sl 26 (A9 (fun x=>D.sl 3 (A9 (D.int .i64) x)) AT)]] []=some (D.agg [D.int .i64 r.1,D.int .i64 r.2.1,D.own 26 (A9 (fun x=>D.own 3 (A9 (D.int .i64) x)) r.2.2.1),D.own 26 (A9 (fun x=>D.own 3 (A9 (D.int .i64) x)) r.2.2.2)],[]):=by
 refine c7 ?_ rfl
 unfold k7
 unfold Iq at h
 obtain⟨e1,h⟩:=Ae h
 have c2:=Mn AI e1
 obtain⟨e3,h⟩:=Ae h
 have c4:=Mn AT e3
 cases h
 simp (maxDischargeDepth:=9) only [↓A8,A1,AE,Ap,A6,AA,↓reduceIte,Nat.reduceEqDiff,Nat.reduceLT,Nat.reduceAdd,c2,c4]
theorem QL(a b:Int)(n e:List (List Int))(hn:Ab n)(he:Ab e):Iq a b n e=some (a,b,n,e):=by
 unfold Iq;rw [Ac hn,Ac he]
theorem Do(Ag Ah:Int)(AI AT:List (List Int))(h0:Ab AI)(h1:Ab AT):Y.call 7 [D.agg [D.int .i64 Ag,D.int .i64 Ah,D.sl 26 (A9 (fun x=>D.sl 3 (A9 (D.int .i64) x)) AI),D.sl 26 (A9 (fun x=>D.sl 3 (A9 (D.int .i64) x)) AT)]] []=some (D.agg [D.int .i64 Ag,D.int .i64 Ah,D.own 26 (A9 (fun x=>D.own 3 (A9 (D.int .i64) x)) AI),D.own 26 (A9 (fun x=>D.own 3 (A9 (D.int .i64) x)) AT)],[]):=Nn Ag Ah AI AT (QL Ag Ah AI AT h0 h1)
noncomputable def Ir(Ag Ah:Int)(AI AT:List (List Int))(GL GM:Int)(GW GX:List (List Int)):Option (Bool):=
 if Ag=GL then
  if Ah=GM then
   ck (Ab AI)<|
   if(decide (AI=GW))=true then
    ck (Ab AT)<|
    if(decide (AT=GX))=true then
     some true
    else
     some false
   else
    some false
  else
   some false
 else
  some false
def k11:SC:=
 .seq
 (.ops [
 ⟨some 2, .box 33 (.tmp 0),0,none⟩,
 ⟨some 3, .box 33 (.tmp 1),0,none⟩,
 ⟨some 4, .assign (.const (.bool false)),4,none⟩])
 (.seq
 (.seq
 (.ops [
 ⟨some 5, .fieldAddr 33 (.tmp 2) 0,0,none⟩,
 ⟨some 6, .load 3 (.tmp 5),3,none⟩,
 ⟨some 7, .fieldAddr 33 (.tmp 3) 0,0,none⟩,
 ⟨some 8, .load 3 (.tmp 7),3,none⟩,
 ⟨some 9, .binOp .neq 3 (.tmp 6) (.tmp 8) 3,4,none⟩])
 (.cond (.tmp 9)
 (.seq
 (.ops [
 ⟨some 4, .assign (.const (.bool false)),4,none⟩])
 .ret)
 .skip))
 (.seq
 (.seq
 (.ops [
 ⟨some 10, .fieldAddr 33 (.tmp 2) 1,0,none⟩,
 ⟨some 11, .load 3 (.tmp 10),3,none⟩,
 ⟨some 12, .fieldAddr 33 (.tmp 3) 1,0,none⟩,
 ⟨some 13, .load 3 (.tmp 12),3,none⟩,
 ⟨some 14, .binOp .neq 3 (.tmp 11) (.tmp 13) 3,4,none⟩])
 (.cond (.tmp 14)
 (.seq
 (.ops [
 ⟨some 4, .assign (.const (.bool false)),4,none⟩])
 .ret)
 .skip))
 (.seq
 (.seq
 (.ops [
 ⟨some 15, .fieldAddr 33 (.tmp 2) 2,0,none⟩,
 ⟨some 16, .load 22 (.tmp 15),22,none⟩,
 ⟨some 17, .fieldAddr 33 (.tmp 3) 2,0,none⟩,
 ⟨some 18, .load 22 (.tmp 17),22,none⟩,
 ⟨some 19, .call ⟨(.value (.func 10)), #[(.tmp 16),(.tmp 18)], #[22,22]⟩,4,none⟩,
 ⟨some 20, .unOp .not 4 (.tmp 19),4,none⟩])
 (.cond (.tmp 20)
 (.seq
 (.ops [
 ⟨some 4, .assign (.const (.bool false)),4,none⟩])
 .ret)
 .skip))
 (.seq
 (.seq
 (.ops [
 ⟨some 21, .fieldAddr 33 (.tmp 2) 3,0,none⟩,
 ⟨some 22, .load 22 (.tmp 21),22,none⟩,
 ⟨some 23, .fieldAddr 33 (.tmp 3) 3,0,none⟩,
 ⟨some 24, .load 22 (.tmp 23),22,none⟩,
 ⟨some 25, .call ⟨(.value (.func 10)), #[(.tmp 22),(.tmp 24)], #[22,22]⟩,4,none⟩,
 ⟨some 26, .unOp .not 4 (.tmp 25),4,none⟩])
 (.cond (.tmp 26)
 (.seq
 (.ops [
 ⟨some 4, .assign (.const (.bool false)),4,none⟩])
 .ret)
 .skip))
 (.seq
 (.ops [
 ⟨some 4, .assign (.const (.bool true)),4,none⟩])
 .ret)))))
theorem lq:Tryz.f11.body.map (Am lends)=some k11:=by kernel_rfl
theorem A31:As Tryz.f11 2=true:=by kernel_rfl
theorem xq{a l:List D}{r:D×List D}(h:Av Y.env k11 (fin AJ l.length [ResultVar.tmp 4] r) (entry a l))(ha:a.length=2):Y.call 11 a l=some r:=
 AC (Y:=Y) rfl Tryz.func11 (ha▸A31) lq h
theorem No(Ag Ah:Int)(AI AT:List (List Int))(GL GM:Int)(GW GX:List (List Int)){r:Bool}(h:Ir Ag Ah AI AT GL GM GW GX=some r):Y.call 11 [D.agg [D.int .i64 Ag,D.int .i64 Ah,D.sl 26 (A9 (fun x=>D.sl 3 (A9 (D.int .i64) x)) AI),D.sl 26 (A9 (fun x=>D.sl 3 (A9 (D.int .i64) x)) AT)],D.agg [D.int .i64 GL,D.int .i64 GM,D.sl 26 (A9 (fun x=>D.sl 3 (A9 (D.int .i64) x)) GW),D.sl 26 (A9 (fun x=>D.sl 3 (A9 (D.int .i64) x)) GX)]] []=some (D.bool r,[]):=by
 refine xq ?_ rfl
 unfold k11
 unfold Ir at h
 by_cases e1:Ag=GL
 ·rw [if_pos e1]at h
  by_cases e2:Ah=GM
  ·rw [if_pos e2]at h
   obtain⟨e3,h⟩:=Ae h
   have c4:=EF AI GW e3
   by_cases e5:(decide (AI=GW))=true
   ·rw [if_pos e5]at h
    obtain⟨e6,h⟩:=Ae h
    have c7:=EF AT GX e6
    by_cases e8:(decide (AT=GX))=true
    ·rw [if_pos e8]at h
     cases h
     simp (maxDischargeDepth:=9) only [↓A8,A1,Ap,A6,AA,↓reduceIte,Nat.reduceEqDiff,Nat.reduceLT,Nat.reduceAdd,decide_eq_true e1,decide_eq_true e2,c4,e5,c7,e8]
    ·rw [if_neg e8]at h
     have e8f:(decide (AT=GX))=false:=Bool.eq_false_iff.mpr e8
     cases h
     simp (maxDischargeDepth:=9) only [↓A8,A1,Ap,A6,AA,↓reduceIte,Nat.reduceEqDiff,Nat.reduceLT,Nat.reduceAdd,decide_eq_true e1,decide_eq_true e2,c4,e5,c7,e8f]
   ·rw [if_neg e5]at h
    have e5f:(decide (AI=GW))=false:=Bool.eq_false_iff.mpr e5
    cases h
    simp (maxDischargeDepth:=9) only [↓A8,A1,Ap,A6,AA,↓reduceIte,Nat.reduceEqDiff,Nat.reduceLT,Nat.reduceAdd,decide_eq_true e1,decide_eq_true e2,c4,e5f]
  ·rw [if_neg e2]at h
   cases h
   simp (maxDischargeDepth:=9) only [↓A8,A1,A6,AA,↓reduceIte,Nat.reduceEqDiff,Nat.reduceLT,Nat.reduceAdd,decide_eq_true e1,e2]
 ·rw [if_neg e1]at h
  cases h
  simp (maxDischargeDepth:=9) only [↓A8,A1,A6,AA,↓reduceIte,Nat.reduceEqDiff,Nat.reduceLT,Nat.reduceAdd,e1]
def Kt(a b:Int)(n e:List (List Int))(a' b':Int)(n' e':List (List Int)):Bool:=decide (a=a'∧b=b'∧n=n'∧e=e')
theorem YU(a b:Int)(n e:List (List Int)):Kt a b n e a b n e=true:=by simp [Kt]
theorem QM(a b:Int)(n e:List (List Int))(a' b':Int)(n' e':List (List Int))(hn:Ab n)(he:Ab e):Ir a b n e a' b' n' e'=some (Kt a b n e a' b' n' e'):=by
 unfold Ir Kt
 by_cases h1:a=a'<;>by_cases h2:b=b'<;>by_cases h3:n=n'<;>by_cases h4:e=e'<;>simp [h1,h2,h3,h4,ck]<;>(try subst h3)<;>(try subst h4)<;>simp_all
theorem Ku(Ag Ah:Int)(AI AT:List (List Int))(GL GM:Int)(GW GX:List (List Int))(h0:Ab AI)(h1:Ab AT):Y.call 11 [D.agg [D.int .i64 Ag,D.int .i64 Ah,D.sl 26 (A9 (fun x=>D.sl 3 (A9 (D.int .i64) x)) AI),D.sl 26 (A9 (fun x=>D.sl 3 (A9 (D.int .i64) x)) AT)],D.agg [D.int .i64 GL,D.int .i64 GM,D.sl 26 (A9 (fun x=>D.sl 3 (A9 (D.int .i64) x)) GW),D.sl 26 (A9 (fun x=>D.sl 3 (A9 (D.int .i64) x)) GX)]] []=some (D.bool (Kt Ag Ah AI AT GL GM GW GX),[]):=No Ag Ah AI AT GL GM GW GX (QM Ag Ah AI AT GL GM GW GX h0 h1)
noncomputable def Is(Ag Ah:Int)(AI AT:List (List Int))(left:Int):Option (Int):=
 ck (M0 AI)<|
 ck (0≤left∧left≤1048576)<|
 if(CK left (AI.length+Aw AI))<0 then
  some (-1)
 else
  ck (M0 AT)<|
  ck (0≤(CK left (AI.length+Aw AI))∧(CK left (AI.length+Aw AI))≤1048576)<|
  if(CK (CK left (AI.length+Aw AI)) (AT.length+Aw AT))<0 then
   some (-1)
  else
   some (CK (CK left (AI.length+Aw AI)) (AT.length+Aw AT))
def k4:SC:=
 .seq
 (.ops [
 ⟨some 2, .box 24 (.tmp 0),0,none⟩,
 ⟨some 4, .assign (.const (.int .i64 0)),3,none⟩])
 (.seq
 (.ops [
 ⟨some 5, .fieldAddr 24 (.tmp 2) 2,0,none⟩,
 ⟨some 6, .load 22 (.tmp 5),22,none⟩,
 ⟨some 7, .move (.tmp 1),3,none⟩,
 ⟨some 8, .call ⟨(.value (.func 17)), #[(.tmp 6),(.tmp 7)], #[22,3]⟩,3,none⟩,
 ⟨some 1, .assign (.tmp 8),3,none⟩])
 (.seq
 (.seq
 (.ops [
 ⟨some 9, .move (.tmp 1),3,none⟩,
 ⟨some 10, .binOp .lss 3 (.tmp 9) (.const (.int .i64 0)) 3,4,none⟩])
 (.cond (.tmp 10)
 (.seq
 (.ops [
 ⟨some 4, .assign (.const (.int .i64 (-1))),3,none⟩])
 .ret)
 .skip))
 (.seq
 (.ops [
 ⟨some 11, .fieldAddr 24 (.tmp 2) 3,0,none⟩,
 ⟨some 12, .load 22 (.tmp 11),22,none⟩,
 ⟨some 13, .move (.tmp 1),3,none⟩,
 ⟨some 14, .call ⟨(.value (.func 17)), #[(.tmp 12),(.tmp 13)], #[22,3]⟩,3,none⟩,
 ⟨some 1, .assign (.tmp 14),3,none⟩])
 (.seq
 (.seq
 (.ops [
 ⟨some 15, .move (.tmp 1),3,none⟩,
 ⟨some 16, .binOp .lss 3 (.tmp 15) (.const (.int .i64 0)) 3,4,none⟩])
 (.cond (.tmp 16)
 (.seq
 (.ops [
 ⟨some 4, .assign (.const (.int .i64 (-1))),3,none⟩])
 .ret)
 .skip))
 (.seq
 (.ops [
 ⟨some 17, .move (.tmp 1),3,none⟩,
 ⟨some 4, .assign (.tmp 17),3,none⟩])
 .ret)))))
theorem xO:Tryz.f4.body.map (Am lends)=some k4:=by kernel_rfl
theorem ok4:As Tryz.f4 2=true:=by kernel_rfl
theorem c4{a l:List D}{r:D×List D}(h:Av Y.env k4 (fin AJ l.length [ResultVar.tmp 4] r) (entry a l))(ha:a.length=2):Y.call 4 a l=some r:=
 AC (Y:=Y) rfl Tryz.func4 (ha▸ok4) xO h
theorem Np(Ag Ah:Int)(AI AT:List (List Int))(left:Int){r:Int}(h:Is Ag Ah AI AT left=some r):Y.call 4 [D.agg [D.int .i64 Ag,D.int .i64 Ah,D.sl 26 (A9 (fun x=>D.sl 3 (A9 (D.int .i64) x)) AI),D.sl 26 (A9 (fun x=>D.sl 3 (A9 (D.int .i64) x)) AT)],D.int .i64 left] []=some (D.int .i64 r,[]):=by
 refine c4 ?_ rfl
 unfold k4
 unfold Is at h
 obtain⟨e1,h⟩:=Ae h
 obtain⟨e2,h⟩:=Ae h
 have c3:=Mq AI left e1 e2
 by_cases e4:(CK left (AI.length+Aw AI))<0
 ·rw [if_pos e4]at h
  cases h
  simp (maxDischargeDepth:=9) only [↓A8,A1,Ap,A6,AA,↓reduceIte,Nat.reduceEqDiff,Nat.reduceLT,Nat.reduceAdd,Int.reduceNeg,c3,e4]
 ·rw [if_neg e4]at h
  obtain⟨e5,h⟩:=Ae h
  obtain⟨e6,h⟩:=Ae h
  have c7:=Mq AT (CK left (AI.length+Aw AI)) e5 e6
  by_cases e8:(CK (CK left (AI.length+Aw AI)) (AT.length+Aw AT))<0
  ·rw [if_pos e8]at h
   cases h
   simp (maxDischargeDepth:=9) only [↓A8,A1,Ap,A6,AA,↓reduceIte,Nat.reduceEqDiff,Nat.reduceLT,Nat.reduceAdd,Int.reduceNeg,c3,e4,c7,e8]
  ·rw [if_neg e8]at h
   cases h
   simp (maxDischargeDepth:=9) only [↓A8,A1,Ap,A6,AA,↓reduceIte,Nat.reduceEqDiff,Nat.reduceLT,Nat.reduceAdd,Int.reduceNeg,c3,e4,c7,e8]
def XB(left:Int)(ns es:List (List Int)):Int:=if CK left (ns.length+Aw ns)<0 then-1 else CK (CK left (ns.length+Aw ns)) (es.length+Aw es)
theorem QN(a b:Int)(n e:List (List Int))(left:Int)(hn:M0 n)(he:M0 e)(hl:0≤left∧left≤1048576):Is a b n e left=some (XB left n e):=by
 have h1:=B5 n
 unfold Is XB
 rw [Ac hn,Ac hl]
 rcases Eo left (n.length+Aw n)with c | ⟨c,c'⟩
 ·rw [c];rfl
 ·have hc: ¬left-(n.length+Aw n)<0:=by omega
  have hd:0≤left-(n.length+Aw n)∧left-(n.length+Aw n)≤1048576:=by omega
  rw [c]
  simp only [if_neg hc,Ac he,Ac hd]
  split
  ·rename_i h
   rcases Eo (left-(n.length+Aw n)) (e.length+Aw e)with d | ⟨d,d'⟩
   ·rw [d]
   ·omega
  ·rfl
theorem QO(Ag Ah:Int)(AI AT:List (List Int))(left:Int)(h0:M0 AI)(h1:M0 AT)(h2:0≤left∧left≤1048576):Y.call 4 [D.agg [D.int .i64 Ag,D.int .i64 Ah,D.sl 26 (A9 (fun x=>D.sl 3 (A9 (D.int .i64) x)) AI),D.sl 26 (A9 (fun x=>D.sl 3 (A9 (D.int .i64) x)) AT)],D.int .i64 left] []=some (D.int .i64 (XB left AI AT),[]):=Np Ag Ah AI AT left (QN Ag Ah AI AT left h0 h1 h2)
theorem gK{ns es:List (List Int)}{left:Int}(hl:left≤1048576)(h: ¬XB left ns es<0):ns.length+Aw ns+es.length+Aw es≤1048576∧Ab ns∧Ab es∧XB left ns es≤left:=by
 have t1:=B5 ns
 have t2:=B5 es
 have key:(ns.length:Int)+Aw ns+es.length+Aw es≤1048576∧XB left ns es≤left:=by
  unfold XB at h ⊢
  rcases Eo left (ns.length+Aw ns)with c | ⟨c,c'⟩
  ·rw [c]at h;simp at h
  ·rw [c,if_neg (by omega)]at h
   rw [c,if_neg (by omega)]
   rcases Eo (left-(ns.length+Aw ns)) (es.length+Aw es)with d | ⟨d,d'⟩
   ·rw [d]at h;simp at h
   ·omega
 exact⟨key.1,Se (by omega),Se (by omega),key.2⟩
noncomputable def HM(Ag Ah:Int)(AI AT:List (List Int))(k:Int):Option (Int×(List (List Int))×(List (List Int))):=
 ck (Ab AI)<|
 ck (0≤k∧k+Aw AI<1099511627776)<|
 ck (Ab AT)<|
 ck (0≤(k+Aw AI)∧(k+Aw AI)+Aw AT<1099511627776)<|
 some (((k+Aw AI)+Aw AT),(EZ k AI),(EZ (k+Aw AI) AT))
def k13:SC:=
 .seq
 (.ops [
 ⟨some 2, .box 33 (.tmp 0),0,none⟩,
 ⟨some 4, .assign (.const (.int .i64 0)),3,none⟩])
 (.seq
 (.ops [
 ⟨some 5, .fieldAddr 33 (.tmp 2) 2,0,none⟩,
 ⟨some 6, .load 22 (.tmp 5),22,none⟩,
 ⟨some 7, .move (.tmp 1),3,none⟩,
 ⟨some 8, .call ⟨(.value (.func 15)), #[(.tmp 6),(.tmp 7)], #[22,3]⟩,3,none⟩,
 ⟨some 1, .assign (.tmp 8),3,none⟩])
 (.seq
 (.ops [
 ⟨some 9, .fieldAddr 33 (.tmp 2) 3,0,none⟩,
 ⟨some 10, .load 22 (.tmp 9),22,none⟩,
 ⟨some 11, .move (.tmp 1),3,none⟩,
 ⟨some 12, .call ⟨(.value (.func 15)), #[(.tmp 10),(.tmp 11)], #[22,3]⟩,3,none⟩,
 ⟨some 1, .assign (.tmp 12),3,none⟩])
 (.seq
 (.ops [
 ⟨some 13, .move (.tmp 1),3,none⟩,
 ⟨some 4, .assign (.tmp 13),3,none⟩])
 .ret)))
theorem lr:Tryz.f13.body.map (Am lends)=some k13:=by kernel_rfl
theorem A33:As Tryz.f13 2=true:=by kernel_rfl
theorem j6{a l:List D}{r:D×List D}(h:Av Y.env k13 (fin AJ l.length [ResultVar.tmp 4] r) (entry a l))(ha:a.length=2):Y.call 13 a l=some r:=
 AC (Y:=Y) rfl Tryz.func13 (ha▸A33) lr h
theorem M1(Ag Ah:Int)(AI AT:List (List Int))(k:Int){r:Int×(List (List Int))×(List (List Int))}(h:HM Ag Ah AI AT k=some r):Y.call 13 [D.agg [D.int .i64 Ag,D.int .i64 Ah,D.vw [100000] 0 0,D.vw [100001] 0 0],D.int .i64 k] [D.own 26 (A9 (fun x=>D.own 3 (A9 (D.int .i64) x)) AI),D.own 26 (A9 (fun x=>D.own 3 (A9 (D.int .i64) x)) AT)]=some (D.int .i64 r.1,[D.own 26 (A9 (fun x=>D.own 3 (A9 (D.int .i64) x)) r.2.1),D.own 26 (A9 (fun x=>D.own 3 (A9 (D.int .i64) x)) r.2.2)]):=by
 refine j6 ?_ rfl
 unfold k13
 unfold HM at h
 obtain⟨e1,h⟩:=Ae h
 obtain⟨e2,h⟩:=Ae h
 have c3:=Gx AI k e1 e2
 obtain⟨e4,h⟩:=Ae h
 obtain⟨e5,h⟩:=Ae h
 have c6:=Gx AT (k+Aw AI) e4 e5
 cases h
 simp (maxDischargeDepth:=9) only [↓A8,A1,AE,Ap,A6,AA,↓reduceIte,Nat.reduceEqDiff,Nat.reduceLT,Nat.reduceAdd,Nat.reduceSub,c3,c6]
theorem Nq(a b:Int)(n e:List (List Int))(k:Int)(hn:Ab n)(he:Ab e)(hk:0≤k∧k+Aw n+Aw e<1099511627776):HM a b n e k=some (k+Aw n+Aw e,EZ k n,EZ (k+Aw n) e):=by
 have h1:=B5 n
 have h2:=B5 e
 unfold HM
 rw [Ac hn,Ac (by omega),Ac he,Ac (by omega)]
theorem JU(Ag Ah:Int)(AI AT:List (List Int))(k:Int)(h0:Ab AI)(h1:Ab AT)(h2:0≤k∧k+Aw AI+Aw AT<1099511627776):Y.call 13 [D.agg [D.int .i64 Ag,D.int .i64 Ah,D.vw [100000] 0 0,D.vw [100001] 0 0],D.int .i64 k] [D.own 26 (A9 (fun x=>D.own 3 (A9 (D.int .i64) x)) AI),D.own 26 (A9 (fun x=>D.own 3 (A9 (D.int .i64) x)) AT)]=some (D.int .i64 (k+Aw AI+Aw AT),[D.own 26 (A9 (fun x=>D.own 3 (A9 (D.int .i64) x)) (EZ k AI)),D.own 26 (A9 (fun x=>D.own 3 (A9 (D.int .i64) x)) (EZ (k+Aw AI) AT))]):=M1 Ag Ah AI AT k (Nq Ag Ah AI AT k h0 h1 h2)
theorem ZI{l:List (List Int)}(h:ZC l):M0 l:=⟨Nat.lt_of_le_of_lt h.1 (by decide),fun x hx=>Nat.lt_of_le_of_lt (h.2 x hx).1 (by decide)⟩
end Go.Proofs.YtipfckompmhljaaGreat
