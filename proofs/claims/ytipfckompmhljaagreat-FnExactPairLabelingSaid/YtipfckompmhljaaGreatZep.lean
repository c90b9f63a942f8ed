/- The first good pair of configurations, as a plain function; the law. Conditions: none. -/
import Derived.Test.YtipfckompmhljaaGreatL6
import Derived.Test.YtipfckompmhljaaGreatZer
namespace Go.Proofs.YtipfckompmhljaaGreat
open Go Dv
set_option linter.unusedSimpArgs false
set_option linter.unusedVariables false
set_option maxRecDepth 100000
set_option maxHeartbeats 4000000
def M5(n m:Nat)(P:Nat→Nat→Bool):Option (Nat×Nat):=(AR n fun i=>(AR m (P i)).isSome).map fun i=>(i,(AR m (P i)).getD 0)
theorem aj{n m:Nat}{P:Nat→Nat→Bool}{q:Nat×Nat}(h:M5 n m P=some q):q.1<n∧q.2<m:=by
 unfold M5 at h
 simp only [Option.map_eq_some_iff]at h
 obtain⟨i,h1,rfl⟩:=h
 obtain⟨h2,h3⟩:=Gg h1
 refine⟨h2, ?_⟩
 cases h4:AR m (P i)with
 | none=>rw [h4]at h3;cases h3
 | some j=>exact(Gg h4).1
def DK(ns es:List (List Int))(i j:Nat):Bool:=(N4 es (ns.getD i default) (ns.getD j default)).isNone
noncomputable def I0(pL pD:Int)(pN pE:List (List Int))(x_ y:List Int):Option (Bool):=
 (Ja pL pD pN pE x_ y).bind fun BB=>
 some (!BB.2)
def k42:SC:=
 .seq
 (.ops [
 ⟨some 3, .box 33 (.tmp 0),0,none⟩,
 ⟨some 6, .assign (.const (.bool false)),4,none⟩])
 (.seq
 (.ops [
 ⟨some 10, .load 33 (.tmp 3),33,none⟩,
 ⟨some 11, .move (.tmp 1),26,none⟩,
 ⟨some 12, .move (.tmp 2),26,none⟩,
 ⟨some 13, .call ⟨(.value (.func 62)), #[(.tmp 10),(.tmp 11),(.tmp 12)], #[33,26,26]⟩,50,none⟩,
 ⟨some 9, .move (.tmp 13),50,none⟩,
 ⟨some 14, .extract (.tmp 9) 0,26,none⟩,
 ⟨some 15, .extract (.tmp 9) 1,4,none⟩,
 ⟨some 7, .assign (.tmp 14),26,none⟩,
 ⟨some 8, .assign (.tmp 15),4,none⟩])
 (.seq
 (.ops [
 ⟨some 16, .move (.tmp 8),4,none⟩,
 ⟨some 17, .unOp .not 4 (.tmp 16),4,none⟩,
 ⟨some 6, .assign (.tmp 17),4,none⟩])
 .ret))
theorem mg:Tryz.f42.body.map (Am lends)=some k42:=by kernel_rfl
theorem A42:As Tryz.f42 3=true:=by kernel_rfl
theorem gP{a l:List D}{r:D×List D}(h:Av Y.env k42 (fin AJ l.length [ResultVar.tmp 6] r) (entry a l))(ha:a.length=3):Y.call 42 a l=some r:=
 AC (Y:=Y) rfl Tryz.func42 (ha▸A42) mg h
theorem N6(pL pD:Int)(pN pE:List (List Int))(x_ y:List Int){r:Bool}(h:I0 pL pD pN pE x_ y=some r):Y.call 42 [D.agg [D.int .i64 pL,D.int .i64 pD,D.sl 26 (A9 (fun x=>D.sl 3 (A9 (D.int .i64) x)) pN),D.sl 26 (A9 (fun x=>D.sl 3 (A9 (D.int .i64) x)) pE)],D.sl 3 (A9 (D.int .i64) x_),D.sl 3 (A9 (D.int .i64) y)] []=some (D.bool r,[]):=by
 refine gP ?_ rfl
 unfold k42
 unfold I0 at h
 obtain⟨BB,hl1,h⟩:=AL h
 try dsimp only at h
 have c1:=Qa pL pD pN pE x_ y hl1
 cases h
 simp (maxDischargeDepth:=9) only [↓A8,A1,AE,Ap,A6,AA,↓reduceIte,Nat.reduceEqDiff,Nat.reduceLT,Nat.reduceAdd,c1]
theorem BM(xs:List Int)(h:xs.length<1099511627776):Y.call 43 [.sl 3 (A9 (D.int .i64) xs)] []=some (.own 3 (A9 (D.int .i64) xs),[]):=by
 refine Wd (A9 (D.int .i64) xs) (by rw [Lu];exact h) (Nd _ _ (fun x=>rfl)) (Lv _ _ (fun x=>by first | exact y5 .. | exact kJ .. | exact y4 .. | exact y6 ..)) ?_
 simp (maxDischargeDepth:=9) only [A1,AE,A6]
noncomputable def Ct(pL pD:Int)(pN pE:List (List Int))(BA HH:Int):Option ((Int)⊕(((List Int))⊕Unit)):=
 if HH<(pN.length:Int)then
  ck (0≤HH∧HH.toNat<pN.length)<|
  (I0 pL pD pN pE (pN.getD BA.toNat default) (pN.getD HH.toNat default)).bind fun HG=>
  if HG=true then
   ck ((pN.getD BA.toNat default).length<1099511627776)<|
   ck ((pN.getD HH.toNat default).length<1099511627776)<|
   some (Sum.inr (Sum.inl (pN.getD HH.toNat default)))
  else
   some (Sum.inl (IntKind.i64.wrap (HH+1)))
 else
  some (Sum.inr (Sum.inr ()))
noncomputable def GQ(pL pD:Int)(pN pE:List (List Int))(BA v:Int):Option (((List Int))⊕Unit):=DT (fun v=>Ct pL pD pN pE BA v) v
noncomputable def Cu(pL pD:Int)(pN pE:List (List Int))(BA:Int):Option ((Int)⊕(((List Int)×(List Int))⊕Unit)):=
 if BA<(pN.length:Int)then
  ck (0≤BA∧BA.toNat<pN.length)<|
  (GQ pL pD pN pE BA 0).bind fun K5=>
  match K5 with
  | .inl q8_=>
   some (Sum.inr (Sum.inl ((pN.getD BA.toNat default),q8_)))
  | .inr q8_=>
   some (Sum.inl (IntKind.i64.wrap (BA+1)))
 else
  some (Sum.inr (Sum.inr ()))
noncomputable def Es(pL pD:Int)(pN pE:List (List Int))(v:Int):Option (((List Int)×(List Int))⊕Unit):=DT (fun v=>Cu pL pD pN pE v) v
noncomputable def IY(pL pD:Int)(pN pE:List (List Int)):Option ((List Int)×(List Int)×Bool):=
 ck (Ab pN)<|
 ck (Ab pE)<|
 if(Gf pL pD pN pE)=true then
  (Es pL pD pN pE 0).bind fun FN=>
  match FN with
  | .inl q6_=>
   some (q6_.1,q6_.2,true)
  | .inr q6_=>
   some ([],[],false)
 else
  some ([],[],false)
def UB:SC:=
 .seq
 (.ops [
 ⟨some 23, .binOp .lss 3 (.tmp 22) (.tmp 21) 3,0,none⟩])
 (.seq
 (.cond (.tmp 23)
 .skip
 (.exit 2))
 (.seq
 (.block 3
 (.seq
 (.ops [
 ⟨some 24, .indexAddr 22 (.tmp 20) (.tmp 22),0,none⟩,
 ⟨some 25, .load 26 (.tmp 24),26,none⟩,
 ⟨some 8, .assign (.tmp 25),26,none⟩])
 (.seq
 (.ops [
 ⟨some 26, .load 33 (.tmp 1),33,none⟩,
 ⟨some 27, .move (.tmp 6),26,none⟩,
 ⟨some 28, .move (.tmp 8),26,none⟩,
 ⟨some 29, .call ⟨(.value (.func 42)), #[(.tmp 26),(.tmp 27),(.tmp 28)], #[33,26,26]⟩,4,none⟩])
 (.cond (.tmp 29)
 (.seq
 (.ops [
 ⟨some 30, .move (.tmp 6),26,none⟩,
 ⟨some 31, .call ⟨(.value (.func 43)), #[(.tmp 30)], #[26]⟩,26,none⟩,
 ⟨some 32, .move (.tmp 8),26,none⟩,
 ⟨some 33, .call ⟨(.value (.func 43)), #[(.tmp 32)], #[26]⟩,26,none⟩,
 ⟨some 2, .assign (.tmp 31),26,none⟩,
 ⟨some 3, .assign (.tmp 33),26,none⟩,
 ⟨some 4, .assign (.const (.bool true)),4,none⟩])
 .ret)
 .skip))))
 (.ops [
 ⟨some 34, .binOp .add 3 (.tmp 22) (.const (.int .i64 1)) 3,3,none⟩,
 ⟨some 22, .move (.tmp 34),3,none⟩])))
def dW:SC:= .loop UB
def UC:SC:=
 .seq
 (.ops [
 ⟨some 16, .binOp .lss 3 (.tmp 15) (.tmp 14) 3,0,none⟩])
 (.seq
 (.cond (.tmp 16)
 .skip
 (.exit 0))
 (.seq
 (.block 1
 (.seq
 (.ops [
 ⟨some 17, .indexAddr 22 (.tmp 13) (.tmp 15),0,none⟩,
 ⟨some 18, .load 26 (.tmp 17),26,none⟩,
 ⟨some 6, .assign (.tmp 18),26,none⟩])
 (.seq
 (.ops [
 ⟨some 19, .fieldAddr 33 (.tmp 1) 2,0,none⟩,
 ⟨some 20, .load 22 (.tmp 19),22,none⟩,
 ⟨some 21, .call ⟨(.builtin .len), #[(.tmp 20)], #[22]⟩,3,none⟩,
 ⟨some 22, .move (.const (.int .i64 0)),3,none⟩])
 (.block 2
 dW))))
 (.ops [
 ⟨some 35, .binOp .add 3 (.tmp 15) (.const (.int .i64 1)) 3,3,none⟩,
 ⟨some 15, .move (.tmp 35),3,none⟩])))
def dX:SC:= .loop UC
def k26:SC:=
 .seq
 (.ops [
 ⟨some 1, .box 33 (.tmp 0),0,none⟩,
 ⟨some 2, .assign (.const (.slice none 0 0)),26,none⟩,
 ⟨some 3, .assign (.const (.slice none 0 0)),26,none⟩,
 ⟨some 4, .assign (.const (.bool false)),4,none⟩])
 (.seq
 (.seq
 (.ops [
 ⟨some 9, .load 33 (.tmp 1),33,none⟩,
 ⟨some 10, .call ⟨(.value (.func 41)), #[(.tmp 9)], #[33]⟩,4,none⟩,
 ⟨some 11, .unOp .not 4 (.tmp 10),4,none⟩])
 (.cond (.tmp 11)
 (.seq
 (.ops [
 ⟨some 2, .assign (.const (.slice none 0 0)),26,none⟩,
 ⟨some 3, .assign (.const (.slice none 0 0)),26,none⟩,
 ⟨some 4, .assign (.const (.bool false)),4,none⟩])
 .ret)
 .skip))
 (.seq
 (.seq
 (.ops [
 ⟨some 12, .fieldAddr 33 (.tmp 1) 2,0,none⟩,
 ⟨some 13, .load 22 (.tmp 12),22,none⟩,
 ⟨some 14, .call ⟨(.builtin .len), #[(.tmp 13)], #[22]⟩,3,none⟩,
 ⟨some 15, .move (.const (.int .i64 0)),3,none⟩])
 (.block 0
 dX))
 (.seq
 (.ops [
 ⟨some 2, .assign (.const (.slice none 0 0)),26,none⟩,
 ⟨some 3, .assign (.const (.slice none 0 0)),26,none⟩,
 ⟨some 4, .assign (.const (.bool false)),4,none⟩])
 .ret)))
theorem mh:Tryz.f26.body.map (Am lends)=some k26:=by kernel_rfl
theorem A44:As Tryz.f26 1=true:=by kernel_rfl
theorem c26{a l:List D}{r:D×List D}(h:Av Y.env k26 (fin AJ l.length [ResultVar.tmp 2,ResultVar.tmp 3,ResultVar.tmp 4] r) (entry a l))(ha:a.length=1):Y.call 26 a l=some r:=
 AC (Y:=Y) rfl Tryz.func26 (ha▸A44) mh h
def CM(pL pD:Int)(pN pE:List (List Int))(BA HH:Int)(s:St):Prop:=s.v 1=D.box [D.int .i64 pL,D.int .i64 pD,D.sl 26 (A9 (fun x=>D.sl 3 (A9 (D.int .i64) x)) pN),D.sl 26 (A9 (fun x=>D.sl 3 (A9 (D.int .i64) x)) pE)]∧s.v 6=D.sl 3 (A9 (D.int .i64) (pN.getD BA.toNat default))∧s.v 13=D.sl 26 (A9 (fun x=>D.sl 3 (A9 (D.int .i64) x)) pN)∧s.v 14=D.int .i64 (pN.length:Int)∧s.v 15=D.int .i64 BA∧s.v 20=D.sl 26 (A9 (fun x=>D.sl 3 (A9 (D.int .i64) x)) pN)∧s.v 21=D.int .i64 (pN.length:Int)∧s.v 22=D.int .i64 HH
def Cv(pL pD:Int)(pN pE:List (List Int))(BA:Int)(r:((List Int))⊕Unit)(ex:Ex)(s:St):Prop:=match r with
 | .inl q=>ex= .ret∧s.v 2=D.own 3 (A9 (D.int .i64) (pN.getD BA.toNat default))∧s.v 3=D.own 3 (A9 (D.int .i64) q)∧s.v 4=D.bool true
 | .inr q=>ex= .exit 2∧s.v 1=D.box [D.int .i64 pL,D.int .i64 pD,D.sl 26 (A9 (fun x=>D.sl 3 (A9 (D.int .i64) x)) pN),D.sl 26 (A9 (fun x=>D.sl 3 (A9 (D.int .i64) x)) pE)]∧s.v 13=D.sl 26 (A9 (fun x=>D.sl 3 (A9 (D.int .i64) x)) pN)∧s.v 14=D.int .i64 (pN.length:Int)∧s.v 15=D.int .i64 BA
theorem Nw(pL pD:Int)(pN pE:List (List Int))(BA:Int){v:Int}{s:St}{r:((List Int))⊕Unit}(h:GQ pL pD pN pE BA v=some r)(hM:CM pL pD pN pE BA v s):Av Y.env dW (Cv pL pD pN pE BA r) s:=by
 unfold GQ at h
 refine Aa (c:=UB) (fun v=>Ct pL pD pN pE BA v) (fun v s=>CM pL pD pN pE BA v s) (Cv pL pD pN pE BA) ?_ h hM
 clear h hM s v r
 intro HH s o hM h
 unfold Ct at h
 unfold CM at hM
 obtain⟨m0,m1,m2,m3,m4,m5,m6,m7⟩:=hM
 unfold UB
 by_cases e7:HH<(pN.length:Int)
 ·rw [if_pos e7]at h
  obtain⟨e8,h⟩:=Ae h
  obtain⟨HG,hl9,h⟩:=AL h
  try dsimp only at h
  have c9:=N6 pL pD pN pE (pN.getD BA.toNat default) (pN.getD HH.toNat default) hl9
  by_cases e10:HG=true
  ·rw [if_pos e10]at h
   obtain⟨e11,h⟩:=Ae h
   have nj:=BM (pN.getD BA.toNat default) e11
   obtain⟨e13,h⟩:=Ae h
   have UD:=BM (pN.getD HH.toNat default) e13
   cases h
   simp (maxDischargeDepth:=9) only [↓A8,A1,AE,Ap,A6,AA,↓reduceIte,Nat.reduceEqDiff,Nat.reduceLT,Nat.reduceAdd,m0,m1,m5,m6,m7,e7,e8.1,e8.2,c9,e10,nj,UD,CM,Cv,Ho]
  ·rw [if_neg e10]at h
   have e10f:HG=false:=Bool.eq_false_iff.mpr e10
   cases h
   simp (maxDischargeDepth:=9) only [↓A8,A1,AE,Ap,A6,AA,↓reduceIte,Nat.reduceEqDiff,Nat.reduceLT,Nat.reduceAdd,m0,m1,m2,m3,m4,m5,m6,m7,e7,e8.1,e8.2,c9,e10f,CM,Ei]
 ·rw [if_neg e7]at h
  cases h
  simp (maxDischargeDepth:=9) only [↓A8,A1,AA,↓reduceIte,Nat.reduceEqDiff,Nat.reduceLT,m0,m2,m3,m4,m6,m7,e7,CM,Cv,Ge]
def CN(pL pD:Int)(pN pE:List (List Int))(BA:Int)(s:St):Prop:=s.v 1=D.box [D.int .i64 pL,D.int .i64 pD,D.sl 26 (A9 (fun x=>D.sl 3 (A9 (D.int .i64) x)) pN),D.sl 26 (A9 (fun x=>D.sl 3 (A9 (D.int .i64) x)) pE)]∧s.v 13=D.sl 26 (A9 (fun x=>D.sl 3 (A9 (D.int .i64) x)) pN)∧s.v 14=D.int .i64 (pN.length:Int)∧s.v 15=D.int .i64 BA
def Cw(pL pD:Int)(pN pE:List (List Int))(r:((List Int)×(List Int))⊕Unit)(ex:Ex)(s:St):Prop:=match r with
 | .inl q=>ex= .ret∧s.v 2=D.own 3 (A9 (D.int .i64) q.1)∧s.v 3=D.own 3 (A9 (D.int .i64) q.2)∧s.v 4=D.bool true
 | .inr q=>ex= .exit 0
theorem Nx(pL pD:Int)(pN pE:List (List Int)){v:Int}{s:St}{r:((List Int)×(List Int))⊕Unit}(h:Es pL pD pN pE v=some r)(hM:CN pL pD pN pE v s):Av Y.env dX (Cw pL pD pN pE r) s:=by
 unfold Es at h
 refine Aa (c:=UC) (fun v=>Cu pL pD pN pE v) (fun v s=>CN pL pD pN pE v s) (Cw pL pD pN pE) ?_ h hM
 clear h hM s v r
 intro BA s o hM h
 unfold Cu at h
 unfold CN at hM
 obtain⟨m0,m1,m2,m3⟩:=hM
 unfold UC
 by_cases e5:BA<(pN.length:Int)
 ·rw [if_pos e5]at h
  obtain⟨e6,h⟩:=Ae h
  obtain⟨K5,hl8,h⟩:=AL h
  try dsimp only at h
  simp (maxDischargeDepth:=9) only [↓A8,A1,AE,A6,AA,↓reduceIte,Nat.reduceEqDiff,Nat.reduceLT,m0,m1,m2,m3,e5,e6.1,e6.2]
  refine AP (Nw pL pD pN pE BA hl8 ?_) ?_
  ·simp (maxDischargeDepth:=9) only [A1,↓reduceIte,Nat.reduceEqDiff,m0,m1,m2,m3,CM]
  ·intro ex8 s8 hX8
   rcases K5 with q8_ | q8_
   ·unfold Cv at hX8
    dsimp only at hX8 h
    obtain⟨rfl,n8_0,n8_1,n8_2⟩:=hX8
    cases h
    simp (maxDischargeDepth:=9) only [↓A8,A1,n8_0,n8_1,n8_2,CN,Cw,Ho]
   ·unfold Cv at hX8
    dsimp only at hX8 h
    obtain⟨rfl,n8_0,n8_1,n8_2,n8_3⟩:=hX8
    cases h
    simp (maxDischargeDepth:=9) only [↓A8,A1,AA,↓reduceIte,Nat.reduceEqDiff,Nat.reduceLT,n8_0,n8_1,n8_2,n8_3,CN,Ei]
 ·rw [if_neg e5]at h
  cases h
  simp (maxDischargeDepth:=9) only [↓A8,A1,AA,↓reduceIte,Nat.reduceLT,m2,m3,e5,CN,Cw,Ge]
theorem Oq(pL pD:Int)(pN pE:List (List Int)){r:(List Int)×(List Int)×Bool}(h:IY pL pD pN pE=some r):Y.call 26 [D.agg [D.int .i64 pL,D.int .i64 pD,D.sl 26 (A9 (fun x=>D.sl 3 (A9 (D.int .i64) x)) pN),D.sl 26 (A9 (fun x=>D.sl 3 (A9 (D.int .i64) x)) pE)]] []=some (D.tup [D.own 3 (A9 (D.int .i64) r.1),D.own 3 (A9 (D.int .i64) r.2.1),D.bool r.2.2],[]):=by
 refine c26 ?_ rfl
 unfold k26
 unfold IY at h
 obtain⟨e1,h⟩:=Ae h
 obtain⟨e2,h⟩:=Ae h
 have c3:=QU pL pD pN pE e1 e2
 by_cases e4:(Gf pL pD pN pE)=true
 ·rw [if_pos e4]at h
  obtain⟨FN,hl6,h⟩:=AL h
  try dsimp only at h
  simp (maxDischargeDepth:=9) only [↓A8,A1,AE,Ap,A6,AA,↓reduceIte,Nat.reduceEqDiff,Nat.reduceLT,Nat.reduceAdd,c3,e4]
  refine AP (Nx pL pD pN pE hl6 ?_) ?_
  ·simp (maxDischargeDepth:=9) only [A1,↓reduceIte,Nat.reduceEqDiff,CN]
  ·intro ex6 s6 hX6
   rcases FN with q6_ | q6_
   ·unfold Cw at hX6
    dsimp only at hX6 h
    obtain⟨rfl,n6_0,n6_1,n6_2⟩:=hX6
    cases h
    simp (maxDischargeDepth:=9) only [↓A8,A1,AE,A6,↓reduceIte,Nat.reduceEqDiff,n6_0,n6_1,n6_2]
   ·unfold Cw at hX6
    dsimp only at hX6 h
    obtain rfl:=hX6
    cases h
    simp (maxDischargeDepth:=9) only [↓A8,A1,A6,AA,↓reduceIte,Nat.reduceEqDiff,Nat.reduceLT]<;>(repeat' apply And.intro)<;>first | rfl | exact⟨_,rfl⟩ | exact⟨_,_,rfl⟩ | simp [A9,Aq]
 ·rw [if_neg e4]at h
  have e4f:(Gf pL pD pN pE)=false:=Bool.eq_false_iff.mpr e4
  cases h
  simp (maxDischargeDepth:=9) only [↓A8,A1,Ap,A6,AA,↓reduceIte,Nat.reduceEqDiff,Nat.reduceLT,Nat.reduceAdd,c3,e4f]<;>(repeat' apply And.intro)<;>first | rfl | exact⟨_,rfl⟩ | exact⟨_,_,rfl⟩ | simp [A9,Aq]
noncomputable def LT(pL pD:Int)(pN pE:List (List Int))(x_ y:List Int):Option (Bool):=
 (N5 pL pD pN pE x_ y).bind fun BB=>
 some (!BB.2.2)
def k53:SC:=
 .seq
 (.ops [
 ⟨some 3, .box 33 (.tmp 0),0,none⟩,
 ⟨some 6, .assign (.const (.bool false)),4,none⟩])
 (.seq
 (.ops [
 ⟨some 11, .load 33 (.tmp 3),33,none⟩,
 ⟨some 12, .move (.tmp 1),26,none⟩,
 ⟨some 13, .move (.tmp 2),26,none⟩,
 ⟨some 14, .call ⟨(.value (.func 69)), #[(.tmp 11),(.tmp 12),(.tmp 13)], #[33,26,26]⟩,64,none⟩,
 ⟨some 10, .move (.tmp 14),64,none⟩,
 ⟨some 15, .extract (.tmp 10) 0,3,none⟩,
 ⟨some 16, .extract (.tmp 10) 1,3,none⟩,
 ⟨some 17, .extract (.tmp 10) 2,4,none⟩,
 ⟨some 7, .assign (.tmp 15),3,none⟩,
 ⟨some 8, .assign (.tmp 16),3,none⟩,
 ⟨some 9, .assign (.tmp 17),4,none⟩])
 (.seq
 (.ops [
 ⟨some 18, .move (.tmp 9),4,none⟩,
 ⟨some 19, .unOp .not 4 (.tmp 18),4,none⟩,
 ⟨some 6, .assign (.tmp 19),4,none⟩])
 .ret))
theorem ml:Tryz.f53.body.map (Am lends)=some k53:=by kernel_rfl
theorem A46:As Tryz.f53 3=true:=by kernel_rfl
theorem c53{a l:List D}{r:D×List D}(h:Av Y.env k53 (fin AJ l.length [ResultVar.tmp 6] r) (entry a l))(ha:a.length=3):Y.call 53 a l=some r:=
 AC (Y:=Y) rfl Tryz.func53 (ha▸A46) ml h
theorem Qb(pL pD:Int)(pN pE:List (List Int))(x_ y:List Int){r:Bool}(h:LT pL pD pN pE x_ y=some r):Y.call 53 [D.agg [D.int .i64 pL,D.int .i64 pD,D.sl 26 (A9 (fun x=>D.sl 3 (A9 (D.int .i64) x)) pN),D.sl 26 (A9 (fun x=>D.sl 3 (A9 (D.int .i64) x)) pE)],D.sl 3 (A9 (D.int .i64) x_),D.sl 3 (A9 (D.int .i64) y)] []=some (D.bool r,[]):=by
 refine c53 ?_ rfl
 unfold k53
 unfold LT at h
 obtain⟨BB,hl1,h⟩:=AL h
 try dsimp only at h
 have c1:=U9 pL pD pN pE x_ y hl1
 cases h
 simp (maxDischargeDepth:=9) only [↓A8,A1,Ap,A6,AA,↓reduceIte,Nat.reduceEqDiff,Nat.reduceLT,Nat.reduceAdd,c1]
noncomputable def Et(pL pD:Int)(pN pE:List (List Int))(B0 Hr:Int):Option ((Int)⊕(Int⊕Unit)):=
 if Hr<(pN.length:Int)then
  ck (0≤Hr∧Hr.toNat<pN.length)<|
  (LT pL pD pN pE (pN.getD B0.toNat default) (pN.getD Hr.toNat default)).bind fun Gn=>
  if Gn=true then
   some (Sum.inr (Sum.inl Hr))
  else
   some (Sum.inl (IntKind.i64.wrap (Hr+1)))
 else
  some (Sum.inr (Sum.inr ()))
noncomputable def Hg(pL pD:Int)(pN pE:List (List Int))(B0 v:Int):Option (Int⊕Unit):=DT (fun v=>Et pL pD pN pE B0 v) v
noncomputable def Eu(pL pD:Int)(pN pE:List (List Int))(B0:Int):Option ((Int)⊕((Int×Int)⊕Unit)):=
 if B0<(pN.length:Int)then
  ck (0≤B0∧B0.toNat<pN.length)<|
  (Hg pL pD pN pE B0 0).bind fun EV=>
  match EV with
  | .inl q4_=>
   some (Sum.inr (Sum.inl (B0,q4_)))
  | .inr q4_=>
   some (Sum.inl (IntKind.i64.wrap (B0+1)))
 else
  some (Sum.inr (Sum.inr ()))
noncomputable def Hh(pL pD:Int)(pN pE:List (List Int))(v:Int):Option ((Int×Int)⊕Unit):=DT (fun v=>Eu pL pD pN pE v) v
noncomputable def L3(pL pD:Int)(pN pE:List (List Int)):Option (Int×Int×Bool):=
 (Hh pL pD pN pE 0).bind fun Au=>
 match Au with
 | .inl q2_=>
  some (q2_.1,q2_.2,true)
 | .inr q2_=>
  some (0,0,false)
def UE:SC:=
 .seq
 (.ops [
 ⟨some 21, .binOp .lss 3 (.tmp 20) (.tmp 19) 3,0,none⟩])
 (.seq
 (.cond (.tmp 21)
 .skip
 (.exit 2))
 (.seq
 (.block 3
 (.seq
 (.ops [
 ⟨some 22, .move (.tmp 20),3,none⟩,
 ⟨some 23, .indexAddr 22 (.tmp 18) (.tmp 20),0,none⟩,
 ⟨some 24, .load 26 (.tmp 23),26,none⟩,
 ⟨some 7, .assign (.tmp 22),3,none⟩,
 ⟨some 8, .assign (.tmp 24),26,none⟩])
 (.seq
 (.ops [
 ⟨some 25, .load 33 (.tmp 1),33,none⟩,
 ⟨some 26, .move (.tmp 6),26,none⟩,
 ⟨some 27, .move (.tmp 8),26,none⟩,
 ⟨some 28, .call ⟨(.value (.func 53)), #[(.tmp 25),(.tmp 26),(.tmp 27)], #[33,26,26]⟩,4,none⟩])
 (.cond (.tmp 28)
 (.seq
 (.ops [
 ⟨some 29, .move (.tmp 5),3,none⟩,
 ⟨some 30, .move (.tmp 7),3,none⟩,
 ⟨some 2, .assign (.tmp 29),3,none⟩,
 ⟨some 3, .assign (.tmp 30),3,none⟩,
 ⟨some 4, .assign (.const (.bool true)),4,none⟩])
 .ret)
 .skip))))
 (.ops [
 ⟨some 31, .binOp .add 3 (.tmp 20) (.const (.int .i64 1)) 3,3,none⟩,
 ⟨some 20, .move (.tmp 31),3,none⟩])))
def dY:SC:= .loop UE
def UF:SC:=
 .seq
 (.ops [
 ⟨some 13, .binOp .lss 3 (.tmp 12) (.tmp 11) 3,0,none⟩])
 (.seq
 (.cond (.tmp 13)
 .skip
 (.exit 0))
 (.seq
 (.block 1
 (.seq
 (.ops [
 ⟨some 14, .move (.tmp 12),3,none⟩,
 ⟨some 15, .indexAddr 22 (.tmp 10) (.tmp 12),0,none⟩,
 ⟨some 16, .load 26 (.tmp 15),26,none⟩,
 ⟨some 5, .assign (.tmp 14),3,none⟩,
 ⟨some 6, .assign (.tmp 16),26,none⟩])
 (.seq
 (.ops [
 ⟨some 17, .fieldAddr 33 (.tmp 1) 2,0,none⟩,
 ⟨some 18, .load 22 (.tmp 17),22,none⟩,
 ⟨some 19, .call ⟨(.builtin .len), #[(.tmp 18)], #[22]⟩,3,none⟩,
 ⟨some 20, .move (.const (.int .i64 0)),3,none⟩])
 (.block 2
 dY))))
 (.ops [
 ⟨some 32, .binOp .add 3 (.tmp 12) (.const (.int .i64 1)) 3,3,none⟩,
 ⟨some 12, .move (.tmp 32),3,none⟩])))
def dZ:SC:= .loop UF
def k36:SC:=
 .seq
 (.ops [
 ⟨some 1, .box 33 (.tmp 0),0,none⟩,
 ⟨some 2, .assign (.const (.int .i64 0)),3,none⟩,
 ⟨some 3, .assign (.const (.int .i64 0)),3,none⟩,
 ⟨some 4, .assign (.const (.bool false)),4,none⟩])
 (.seq
 (.seq
 (.ops [
 ⟨some 9, .fieldAddr 33 (.tmp 1) 2,0,none⟩,
 ⟨some 10, .load 22 (.tmp 9),22,none⟩,
 ⟨some 11, .call ⟨(.builtin .len), #[(.tmp 10)], #[22]⟩,3,none⟩,
 ⟨some 12, .move (.const (.int .i64 0)),3,none⟩])
 (.block 0
 dZ))
 (.seq
 (.ops [
 ⟨some 2, .assign (.const (.int .i64 0)),3,none⟩,
 ⟨some 3, .assign (.const (.int .i64 0)),3,none⟩,
 ⟨some 4, .assign (.const (.bool false)),4,none⟩])
 .ret))
theorem mm:Tryz.f36.body.map (Am lends)=some k36:=by kernel_rfl
theorem A48:As Tryz.f36 1=true:=by kernel_rfl
theorem c36{a l:List D}{r:D×List D}(h:Av Y.env k36 (fin AJ l.length [ResultVar.tmp 2,ResultVar.tmp 3,ResultVar.tmp 4] r) (entry a l))(ha:a.length=1):Y.call 36 a l=some r:=
 AC (Y:=Y) rfl Tryz.func36 (ha▸A48) mm h
def DL(pL pD:Int)(pN pE:List (List Int))(B0 Hr:Int)(s:St):Prop:=s.v 1=D.box [D.int .i64 pL,D.int .i64 pD,D.sl 26 (A9 (fun x=>D.sl 3 (A9 (D.int .i64) x)) pN),D.sl 26 (A9 (fun x=>D.sl 3 (A9 (D.int .i64) x)) pE)]∧s.v 5=D.int .i64 B0∧s.v 6=D.sl 3 (A9 (D.int .i64) (pN.getD B0.toNat default))∧s.v 10=D.sl 26 (A9 (fun x=>D.sl 3 (A9 (D.int .i64) x)) pN)∧s.v 11=D.int .i64 (pN.length:Int)∧s.v 12=D.int .i64 B0∧s.v 18=D.sl 26 (A9 (fun x=>D.sl 3 (A9 (D.int .i64) x)) pN)∧s.v 19=D.int .i64 (pN.length:Int)∧s.v 20=D.int .i64 Hr
def Ev(pL pD:Int)(pN pE:List (List Int))(B0:Int)(r:Int⊕Unit)(ex:Ex)(s:St):Prop:=match r with
 | .inl q=>ex= .ret∧s.v 2=D.int .i64 B0∧s.v 3=D.int .i64 q∧s.v 4=D.bool true
 | .inr q=>ex= .exit 2∧s.v 1=D.box [D.int .i64 pL,D.int .i64 pD,D.sl 26 (A9 (fun x=>D.sl 3 (A9 (D.int .i64) x)) pN),D.sl 26 (A9 (fun x=>D.sl 3 (A9 (D.int .i64) x)) pE)]∧s.v 10=D.sl 26 (A9 (fun x=>D.sl 3 (A9 (D.int .i64) x)) pN)∧s.v 11=D.int .i64 (pN.length:Int)∧s.v 12=D.int .i64 B0
theorem Qc(pL pD:Int)(pN pE:List (List Int))(B0:Int){v:Int}{s:St}{r:Int⊕Unit}(h:Hg pL pD pN pE B0 v=some r)(hM:DL pL pD pN pE B0 v s):Av Y.env dY (Ev pL pD pN pE B0 r) s:=by
 unfold Hg at h
 refine Aa (c:=UE) (fun v=>Et pL pD pN pE B0 v) (fun v s=>DL pL pD pN pE B0 v s) (Ev pL pD pN pE B0) ?_ h hM
 clear h hM s v r
 intro Hr s o hM h
 unfold Et at h
 unfold DL at hM
 obtain⟨m0,m1,m2,m3,m4,m5,m6,m7,m8⟩:=hM
 unfold UE
 by_cases e3:Hr<(pN.length:Int)
 ·rw [if_pos e3]at h
  obtain⟨e4,h⟩:=Ae h
  obtain⟨Gn,hl5,h⟩:=AL h
  try dsimp only at h
  have c5:=Qb pL pD pN pE (pN.getD B0.toNat default) (pN.getD Hr.toNat default) hl5
  by_cases e6:Gn=true
  ·rw [if_pos e6]at h
   cases h
   simp (maxDischargeDepth:=9) only [↓A8,A1,AE,Ap,A6,AA,↓reduceIte,Nat.reduceEqDiff,Nat.reduceLT,Nat.reduceAdd,m0,m1,m2,m6,m7,m8,e3,e4.1,e4.2,c5,e6,DL,Ev,Ho]
  ·rw [if_neg e6]at h
   have e6f:Gn=false:=Bool.eq_false_iff.mpr e6
   cases h
   simp (maxDischargeDepth:=9) only [↓A8,A1,AE,Ap,A6,AA,↓reduceIte,Nat.reduceEqDiff,Nat.reduceLT,Nat.reduceAdd,m0,m1,m2,m3,m4,m5,m6,m7,m8,e3,e4.1,e4.2,c5,e6f,DL,Ei]
 ·rw [if_neg e3]at h
  cases h
  simp (maxDischargeDepth:=9) only [↓A8,A1,AA,↓reduceIte,Nat.reduceEqDiff,Nat.reduceLT,m0,m3,m4,m5,m7,m8,e3,DL,Ev,Ge]
def DM(pL pD:Int)(pN pE:List (List Int))(B0:Int)(s:St):Prop:=s.v 1=D.box [D.int .i64 pL,D.int .i64 pD,D.sl 26 (A9 (fun x=>D.sl 3 (A9 (D.int .i64) x)) pN),D.sl 26 (A9 (fun x=>D.sl 3 (A9 (D.int .i64) x)) pE)]∧s.v 10=D.sl 26 (A9 (fun x=>D.sl 3 (A9 (D.int .i64) x)) pN)∧s.v 11=D.int .i64 (pN.length:Int)∧s.v 12=D.int .i64 B0
def Ew(pL pD:Int)(pN pE:List (List Int))(r:(Int×Int)⊕Unit)(ex:Ex)(s:St):Prop:=match r with
 | .inl q=>ex= .ret∧s.v 2=D.int .i64 q.1∧s.v 3=D.int .i64 q.2∧s.v 4=D.bool true
 | .inr q=>ex= .exit 0
theorem Qd(pL pD:Int)(pN pE:List (List Int)){v:Int}{s:St}{r:(Int×Int)⊕Unit}(h:Hh pL pD pN pE v=some r)(hM:DM pL pD pN pE v s):Av Y.env dZ (Ew pL pD pN pE r) s:=by
 unfold Hh at h
 refine Aa (c:=UF) (fun v=>Eu pL pD pN pE v) (fun v s=>DM pL pD pN pE v s) (Ew pL pD pN pE) ?_ h hM
 clear h hM s v r
 intro B0 s o hM h
 unfold Eu at h
 unfold DM at hM
 obtain⟨m0,m1,m2,m3⟩:=hM
 unfold UF
 by_cases e1:B0<(pN.length:Int)
 ·rw [if_pos e1]at h
  obtain⟨e2,h⟩:=Ae h
  obtain⟨EV,hl4,h⟩:=AL h
  try dsimp only at h
  simp (maxDischargeDepth:=9) only [↓A8,A1,AE,A6,AA,↓reduceIte,Nat.reduceEqDiff,Nat.reduceLT,m0,m1,m2,m3,e1,e2.1,e2.2]
  refine AP (Qc pL pD pN pE B0 hl4 ?_) ?_
  ·simp (maxDischargeDepth:=9) only [A1,↓reduceIte,Nat.reduceEqDiff,m0,m1,m2,m3,DL]
  ·intro ex4 s4 hX4
   rcases EV with q4_ | q4_
   ·unfold Ev at hX4
    dsimp only at hX4 h
    obtain⟨rfl,n4_0,n4_1,n4_2⟩:=hX4
    cases h
    simp (maxDischargeDepth:=9) only [↓A8,A1,n4_0,n4_1,n4_2,DM,Ew,Ho]
   ·unfold Ev at hX4
    dsimp only at hX4 h
    obtain⟨rfl,n4_0,n4_1,n4_2,n4_3⟩:=hX4
    cases h
    simp (maxDischargeDepth:=9) only [↓A8,A1,AA,↓reduceIte,Nat.reduceEqDiff,Nat.reduceLT,n4_0,n4_1,n4_2,n4_3,DM,Ei]
 ·rw [if_neg e1]at h
  cases h
  simp (maxDischargeDepth:=9) only [↓A8,A1,AA,↓reduceIte,Nat.reduceLT,m2,m3,e1,DM,Ew,Ge]
theorem Rm(pL pD:Int)(pN pE:List (List Int)){r:Int×Int×Bool}(h:L3 pL pD pN pE=some r):Y.call 36 [D.agg [D.int .i64 pL,D.int .i64 pD,D.sl 26 (A9 (fun x=>D.sl 3 (A9 (D.int .i64) x)) pN),D.sl 26 (A9 (fun x=>D.sl 3 (A9 (D.int .i64) x)) pE)]] []=some (D.tup [D.int .i64 r.1,D.int .i64 r.2.1,D.bool r.2.2],[]):=by
 refine c36 ?_ rfl
 unfold k36
 unfold L3 at h
 obtain⟨Au,hl2,h⟩:=AL h
 try dsimp only at h
 simp (maxDischargeDepth:=9) only [↓A8,A1,AE,A6,AA,↓reduceIte,Nat.reduceEqDiff,Nat.reduceLT,Nat.reduceAdd]
 refine AP (Qd pL pD pN pE hl2 ?_) ?_
 ·simp (maxDischargeDepth:=9) only [A1,↓reduceIte,Nat.reduceEqDiff,DM]
 ·intro ex2 s2 hX2
  rcases Au with q2_ | q2_
  ·unfold Ew at hX2
   dsimp only at hX2 h
   obtain⟨rfl,n2_0,n2_1,n2_2⟩:=hX2
   cases h
   simp (maxDischargeDepth:=9) only [↓A8,A1,A6,↓reduceIte,n2_0,n2_1,n2_2]
  ·unfold Ew at hX2
   dsimp only at hX2 h
   obtain rfl:=hX2
   cases h
   simp (maxDischargeDepth:=9) only [↓A8,A1,A6,AA,↓reduceIte,Nat.reduceEqDiff,Nat.reduceLT]
noncomputable def IZ(pL pD:Int)(pN pE:List (List Int)):Option ((List Int)×(List Int)×Bool):=
 ck (Ab pN)<|
 ck (Ab pE)<|
 if(Gf pL pD pN pE)=true then
  (L3 pL pD pN pE).bind fun Gn=>
  if Gn.2.2=true then
   ck (0≤Gn.1∧Gn.1.toNat<pN.length)<|
   (K2 (pN.getD Gn.1.toNat default)).bind fun K5=>
   ck (0≤Gn.2.1∧Gn.2.1.toNat<pN.length)<|
   (K2 (pN.getD Gn.2.1.toNat default)).bind fun de=>
   some (K5,de,true)
  else
   some ([],[],false)
 else
  some ([],[],false)
def k20:SC:=
 .seq
 (.ops [
 ⟨some 1, .box 33 (.tmp 0),0,none⟩,
 ⟨some 2, .assign (.const (.slice none 0 0)),26,none⟩,
 ⟨some 3, .assign (.const (.slice none 0 0)),26,none⟩,
 ⟨some 4, .assign (.const (.bool false)),4,none⟩])
 (.seq
 (.seq
 (.ops [
 ⟨some 8, .load 33 (.tmp 1),33,none⟩,
 ⟨some 9, .call ⟨(.value (.func 35)), #[(.tmp 8)], #[33]⟩,4,none⟩,
 ⟨some 10, .unOp .not 4 (.tmp 9),4,none⟩])
 (.cond (.tmp 10)
 (.seq
 (.ops [
 ⟨some 2, .assign (.const (.slice none 0 0)),26,none⟩,
 ⟨some 3, .assign (.const (.slice none 0 0)),26,none⟩,
 ⟨some 4, .assign (.const (.bool false)),4,none⟩])
 .ret)
 .skip))
 (.seq
 (.ops [
 ⟨some 12, .load 33 (.tmp 1),33,none⟩,
 ⟨some 13, .call ⟨(.value (.func 36)), #[(.tmp 12)], #[33]⟩,64,none⟩,
 ⟨some 11, .move (.tmp 13),64,none⟩,
 ⟨some 14, .extract (.tmp 11) 0,3,none⟩,
 ⟨some 15, .extract (.tmp 11) 1,3,none⟩,
 ⟨some 16, .extract (.tmp 11) 2,4,none⟩,
 ⟨some 5, .assign (.tmp 14),3,none⟩,
 ⟨some 6, .assign (.tmp 15),3,none⟩,
 ⟨some 7, .assign (.tmp 16),4,none⟩])
 (.seq
 (.seq
 (.ops [
 ⟨some 17, .move (.tmp 7),4,none⟩,
 ⟨some 18, .unOp .not 4 (.tmp 17),4,none⟩])
 (.cond (.tmp 18)
 (.seq
 (.ops [
 ⟨some 2, .assign (.const (.slice none 0 0)),26,none⟩,
 ⟨some 3, .assign (.const (.slice none 0 0)),26,none⟩,
 ⟨some 4, .assign (.const (.bool false)),4,none⟩])
 .ret)
 .skip))
 (.seq
 (.draws [
 (⟨[19,1,1],[19,20,21,22,23,24,25,26,27,28,29,30,2,24,24,3,30,30,4],[19]⟩,⟨some 19, .fieldAddr 33 (.tmp 1) 2,0,none⟩),
 (⟨[20,19,1],[19,20,21,22,23,24,25,26,27,28,29,30,2,24,24,3,30,30,4],[20]⟩,⟨some 20, .load 22 (.tmp 19),22,none⟩),
 (⟨[21,5,5],[19,20,21,22,23,24,25,26,27,28,29,30,2,24,24,3,30,30,4],[21]⟩,⟨some 21, .move (.tmp 5),3,none⟩),
 (⟨[22,20,21,1,5],[19,20,21,22,23,24,25,26,27,28,29,30,2,24,24,3,30,30,4],[22]⟩,⟨some 22, .indexAddr 22 (.tmp 20) (.tmp 21),0,none⟩),
 (⟨[23,22,1],[19,20,21,22,23,24,25,26,27,28,29,30,2,24,24,3,30,30,4],[23]⟩,⟨some 23, .load 26 (.tmp 22),26,none⟩),
 (⟨[24,23,1],[19,20,21,22,23,24,25,26,27,28,29,30,2,24,24,3,30,30,4],[24]⟩,⟨some 24, .call ⟨(.value (.func 37)), #[(.tmp 23)], #[26]⟩,26,none⟩),
 (⟨[25,1,1],[19,20,21,22,23,24,25,26,27,28,29,30,2,24,24,3,30,30,4],[25]⟩,⟨some 25, .fieldAddr 33 (.tmp 1) 2,0,none⟩),
 (⟨[26,25,1],[19,20,21,22,23,24,25,26,27,28,29,30,2,24,24,3,30,30,4],[26]⟩,⟨some 26, .load 22 (.tmp 25),22,none⟩),
 (⟨[27,6,6],[19,20,21,22,23,24,25,26,27,28,29,30,2,24,24,3,30,30,4],[27]⟩,⟨some 27, .move (.tmp 6),3,none⟩),
 (⟨[28,26,27,1,6],[19,20,21,22,23,24,25,26,27,28,29,30,2,24,24,3,30,30,4],[28]⟩,⟨some 28, .indexAddr 22 (.tmp 26) (.tmp 27),0,none⟩),
 (⟨[29,28,1],[19,20,21,22,23,24,25,26,27,28,29,30,2,24,24,3,30,30,4],[29]⟩,⟨some 29, .load 26 (.tmp 28),26,none⟩),
 (⟨[30,29,1],[19,20,21,22,23,24,25,26,27,28,29,30,2,24,24,3,30,30,4],[30]⟩,⟨some 30, .call ⟨(.value (.func 37)), #[(.tmp 29)], #[26]⟩,26,none⟩),
 (⟨[2,24,24],[19,20,21,22,23,24,25,26,27,28,29,30,2,24,24,3,30,30,4],[2,24,24]⟩,⟨some 2, .assign (.tmp 24),26,none⟩),
 (⟨[3,30,30],[19,20,21,22,23,24,25,26,27,28,29,30,2,24,24,3,30,30,4],[3,30,30]⟩,⟨some 3, .assign (.tmp 30),26,none⟩),
 (⟨[4],[19,20,21,22,23,24,25,26,27,28,29,30,2,24,24,3,30,30,4],[4]⟩,⟨some 4, .assign (.const (.bool true)),4,none⟩)])
 .ret))))
theorem mn:Tryz.f20.body.map (Am lends)=some k20:=by kernel_rfl
theorem A4A:As Tryz.f20 1=true:=by kernel_rfl
theorem c20{a l:List D}{r:D×List D}(h:Av Y.env k20 (fin AJ l.length [ResultVar.tmp 2,ResultVar.tmp 3,ResultVar.tmp 4] r) (entry a l))(ha:a.length=1):Y.call 20 a l=some r:=
 AC (Y:=Y) rfl Tryz.func20 (ha▸A4A) mn h
theorem Ot(pL pD:Int)(pN pE:List (List Int)){r:(List Int)×(List Int)×Bool}(h:IZ pL pD pN pE=some r):Y.call 20 [D.agg [D.int .i64 pL,D.int .i64 pD,D.sl 26 (A9 (fun x=>D.sl 3 (A9 (D.int .i64) x)) pN),D.sl 26 (A9 (fun x=>D.sl 3 (A9 (D.int .i64) x)) pE)]] []=some (D.tup [D.own 3 (A9 (D.int .i64) r.1),D.own 3 (A9 (D.int .i64) r.2.1),D.bool r.2.2],[]):=by
 refine c20 ?_ rfl
 unfold k20
 unfold IZ at h
 obtain⟨e1,h⟩:=Ae h
 obtain⟨e2,h⟩:=Ae h
 have c3:=Wo pL pD pN pE e1 e2
 by_cases e4:(Gf pL pD pN pE)=true
 ·rw [if_pos e4]at h
  obtain⟨Gn,hl5,h⟩:=AL h
  try dsimp only at h
  have c5:=Rm pL pD pN pE hl5
  by_cases e6:Gn.2.2=true
  ·rw [if_pos e6]at h
   obtain⟨e7,h⟩:=Ae h
   obtain⟨K5,hl8,h⟩:=AL h
   try dsimp only at h
   have c8:=K3 (pN.getD Gn.1.toNat default) hl8
   obtain⟨e9,h⟩:=Ae h
   obtain⟨de,hl10,h⟩:=AL h
   try dsimp only at h
   have OR:=K3 (pN.getD Gn.2.1.toNat default) hl10
   cases h
   simp (maxDischargeDepth:=9) only [↓A8,A1,AE,Ap,A6,AA,↓reduceIte,Nat.reduceEqDiff,Nat.reduceLT,Nat.reduceAdd,Nat.reduceBEq,c3,e4,c5,e6,e7.1,e7.2,c8,e9.1,e9.2,OR]
  ·rw [if_neg e6]at h
   have e6f:Gn.2.2=false:=Bool.eq_false_iff.mpr e6
   cases h
   simp (maxDischargeDepth:=9) only [↓A8,A1,Ap,A6,AA,↓reduceIte,Nat.reduceEqDiff,Nat.reduceLT,Nat.reduceAdd,c3,e4,c5,e6f]<;>(repeat' apply And.intro)<;>first | rfl | exact⟨_,rfl⟩ | exact⟨_,_,rfl⟩ | simp [A9,Aq]
 ·rw [if_neg e4]at h
  have e4f:(Gf pL pD pN pE)=false:=Bool.eq_false_iff.mpr e4
  cases h
  simp (maxDischargeDepth:=9) only [↓A8,A1,Ap,A6,AA,↓reduceIte,Nat.reduceEqDiff,Nat.reduceLT,Nat.reduceAdd,c3,e4f]<;>(repeat' apply And.intro)<;>first | rfl | exact⟨_,rfl⟩ | exact⟨_,_,rfl⟩ | simp [A9,Aq]
theorem Ws(l d:Int)(ns es:List (List Int))(hn:Ab ns)(he:Ab es):
  L3 l d ns es=some (match M5 ns.length ns.length (DK ns es)with | some q=>((q.1:Int),(q.2:Int),true) | none=>(0,0,false)):=by
 have hl:=hn.1
 have inner: ∀i:Nat,i<ns.length→Hg l d ns es (i:Int) 0=some (match AR ns.length (DK ns es i)with | some j=> .inl (j:Int) | none=> .inr ()):=by
  intro i hi
  unfold Hg
  refine Hf (fun v=>Et l d ns es (i:Int) v) (fun j=>(j:Int)) ns.length (DK ns es i) (fun j=> .inl (j:Int)) (.inr ()) ?_ ?_
  ·intro j hj
   simp only [Et,LT]
   rw [show DK ns es i j=(N4 es (ns.getD i default) (ns.getD j default)).isNone from rfl]
   rw [if_pos (Ak hj),Ac (BS hj),Int.toNat_natCast,Int.toNat_natCast,Yc l d ns es _ _ he (hn.getD i) (hn.getD j),Option.bind_some,Option.bind_some,Gm j (by omega)]
   cases N4 es (ns.getD i default) (ns.getD j default)<;>simp
  ·simp only [Et]
   rw [if_neg (AH _)]
 have outer:Hh l d ns es 0=some (match AR ns.length (fun i=>(AR ns.length (DK ns es i)).isSome)with | some i=> .inl ((i:Int),(((AR ns.length (DK ns es i)).getD 0:Nat):Int)) | none=> .inr ()):=by
  unfold Hh
  refine Hf (fun v=>Eu l d ns es v) (fun j=>(j:Int)) ns.length (fun i=>(AR ns.length (DK ns es i)).isSome) (fun i=> .inl ((i:Int),(((AR ns.length (DK ns es i)).getD 0:Nat):Int))) (.inr ()) ?_ ?_
  ·intro i hi
   simp only [Eu]
   rw [if_pos (Ak hi),Ac (BS hi),inner i hi,Option.bind_some,Gm i (by omega)]
   cases AR ns.length (DK ns es i)<;>simp
  ·simp only [Eu]
   rw [if_neg (AH _)]
 unfold L3 M5
 rw [outer,Option.bind_some]
 cases AR ns.length (fun i=>(AR ns.length (DK ns es i)).isSome)<;>rfl
theorem Ny(l d:Int)(ns es:List (List Int))(hn:Ab ns)(he:Ab es)(hi:Om es=true):
  Es l d ns es 0=some (match M5 ns.length ns.length (DK ns es)with | some q=> .inl (ns.getD q.1 default,ns.getD q.2 default) | none=> .inr ()):=by
 have hl:=hn.1
 have inner: ∀i:Nat,i<ns.length→GQ l d ns es (i:Int) 0=some (match AR ns.length (DK ns es i)with | some j=> .inl (ns.getD j default) | none=> .inr ()):=by
  intro i hi'
  unfold GQ
  refine Hf (fun v=>Ct l d ns es (i:Int) v) (fun j=>(j:Int)) ns.length (DK ns es i) (fun j=> .inl (ns.getD j default)) (.inr ()) ?_ ?_
  ·intro j hj
   simp only [Ct,I0]
   rw [show DK ns es i j=(N4 es (ns.getD i default) (ns.getD j default)).isNone from rfl]
   rw [if_pos (Ak hj),Ac (BS hj),Int.toNat_natCast,Int.toNat_natCast,UA l d ns es _ _ he hi (hn.getD i) (hn.getD j),Option.bind_some,Option.bind_some,Ac (hn.getD i),Ac (hn.getD j),Gm j (by omega)]
   cases N4 es (ns.getD i default) (ns.getD j default)<;>simp
  ·simp only [Ct]
   rw [if_neg (AH _)]
 have outer:Es l d ns es 0=some (match AR ns.length (fun i=>(AR ns.length (DK ns es i)).isSome)with | some i=> .inl (ns.getD i default,ns.getD ((AR ns.length (DK ns es i)).getD 0) default) | none=> .inr ()):=by
  unfold Es
  refine Hf (fun v=>Cu l d ns es v) (fun j=>(j:Int)) ns.length (fun i=>(AR ns.length (DK ns es i)).isSome) (fun i=> .inl (ns.getD i default,ns.getD ((AR ns.length (DK ns es i)).getD 0) default)) (.inr ()) ?_ ?_
  ·intro i hi'
   simp only [Cu]
   rw [if_pos (Ak hi'),Ac (BS hi'),inner i hi',Option.bind_some,Gm i (by omega),Int.toNat_natCast]
   cases AR ns.length (DK ns es i)<;>simp
  ·simp only [Cu]
   rw [if_neg (AH _)]
 unfold M5
 rw [outer]
 cases AR ns.length (fun i=>(AR ns.length (DK ns es i)).isSome)<;>rfl
end Go.Proofs.YtipfckompmhljaaGreat
