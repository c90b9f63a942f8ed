/- Networks copied, compared, measured; when lists are a network, as plain functions. Conditions: the lists are short. -/
import Derived.Test.YtipfckompmhljaaGreatL6
import Derived.Test.YtipfckompmhljaaGreatHas
import Derived.Test.YtipfckompmhljaaGreatCon
namespace Go.Proofs.YtipfckompmhljaaGreat
open Go Dv
set_option linter.unusedSimpArgs false
set_option linter.unusedVariables false
set_option maxRecDepth 100000
set_option maxHeartbeats 4000000
def BH(l:List (List (Int×Int))):Prop:=l.length<1099511627776∧ ∀x∈l,x.length<549755813888
instance (l:List (List (Int×Int))):Decidable (BH l):=by unfold BH;infer_instance
theorem BH.at{l:List (List (Int×Int))}(h:BH l)(i:Nat)(hi:i<l.length):l[i].length<549755813888:=h.2 _ (List.getElem_mem hi)
theorem BH.getD{l:List (List (Int×Int))}(h:BH l)(i:Nat):(l.getD i default).length<549755813888:=by
 by_cases hi:i<l.length
 ·rw [Ar _ _ hi];exact h.at i hi
 ·rw [List.getD_eq_getElem?_getD,List.getElem?_eq_none (by omega)];decide
theorem xS{a:List (Int×Int)}{i:Nat}(h:i<a.length):(An a i,BJ a i)=a[i]:=by
 unfold An BJ
 rw [Ar _ _ h]
noncomputable def PG(a_Node a_Port:Int):Option (Int×Int):=
 some (a_Node,a_Port)
def k59:SC:=
 .seq
 (.ops [
 ⟨some 1, .box 84 (.tmp 0),0,none⟩,
 ⟨some 2, .alloc 82,0,none⟩])
 (.seq
 (.ops [
 ⟨some 3, .alloc 82,0,none⟩])
 (.seq
 (.ops [
 ⟨some 4, .fieldAddr 84 (.tmp 1) 0,0,none⟩,
 ⟨some 5, .load 3 (.tmp 4),3,none⟩,
 ⟨some 6, .fieldAddr 82 (.tmp 3) 0,0,none⟩,
 ⟨none, .store 3 (.tmp 6) (.tmp 5),0,none⟩])
 (.seq
 (.ops [
 ⟨some 7, .fieldAddr 84 (.tmp 1) 1,0,none⟩,
 ⟨some 8, .load 3 (.tmp 7),3,none⟩,
 ⟨some 9, .fieldAddr 82 (.tmp 3) 1,0,none⟩,
 ⟨none, .store 3 (.tmp 9) (.tmp 8),0,none⟩])
 (.seq
 (.ops [
 ⟨some 10, .load 82 (.tmp 3),82,none⟩,
 ⟨none, .store 82 (.tmp 2) (.tmp 10),0,none⟩])
 .ret))))
theorem mq:Tryz.f59.body.map (Am lends)=some k59:=by kernel_rfl
theorem A4E:As Tryz.f59 1=true:=by kernel_rfl
theorem c59{a l:List D}{r:D×List D}(h:Av Y.env k59 (fin AJ l.length [ResultVar.cell 2 82] r) (entry a l))(ha:a.length=1):Y.call 59 a l=some r:=
 AC (Y:=Y) rfl Tryz.func59 (ha▸A4E) mq h
theorem UI(a_Node a_Port:Int){r:Int×Int}(h:PG a_Node a_Port=some r):Y.call 59 [D.agg [D.int .i64 a_Node,D.int .i64 a_Port]] []=some (D.agg [D.int .i64 r.1,D.int .i64 r.2],[]):=by
 refine c59 ?_ rfl
 unfold k59
 unfold PG at h
 cases h
 simp (maxDischargeDepth:=9) only [↓A8,A1,Ap,A6,AA,↓reduceIte,Nat.reduceEqDiff,Nat.reduceLT,Nat.reduceAdd]
noncomputable def Ey(a:List (Int×Int))(out:List (Int×Int))(i:Int):Option (((List (Int×Int))×Int)⊕((List (Int×Int)))):=
 if i<(a.length:Int)then
  ck (0≤i∧i.toNat<a.length)<|
  (PG (An a i.toNat) (BJ a i.toNat)).bind fun EV=>
  ck (0≤i∧i.toNat<out.length)<|
  some (Sum.inl ((out.set i.toNat (EV.1,EV.2)),IntKind.i64.wrap (i+1)))
 else
  some (Sum.inr out)
noncomputable def Ix(a:List (Int×Int))(v:(List (Int×Int))×Int):Option ((List (Int×Int))):=DT (fun v=>Ey a v.1 v.2) v
noncomputable def N7(a:List (Int×Int)):Option ((List (Int×Int))):=
 ck (0≤(a.length:Int)∧(a.length:Int)<1099511627776)<|
 (Ix a ((List.replicate a.length (0,0)),0)).bind fun FF=>
 some FF
def UJ:SC:=
 .seq
 (.seq
 (.ops [
 ⟨some 8, .move (.tmp 4),3,none⟩,
 ⟨some 9, .move (.tmp 0),62,none⟩,
 ⟨some 10, .call ⟨(.builtin .len), #[(.tmp 9)], #[62]⟩,3,none⟩,
 ⟨some 11, .binOp .lss 3 (.tmp 8) (.tmp 10) 3,4,none⟩])
 (.cond (.tmp 11)
 .skip
 (.exit 0)))
 (.seq
 (.block 1
 (.ops [
 ⟨some 14, .move (.tmp 3),52,none⟩,
 ⟨some 15, .move (.tmp 4),3,none⟩,
 ⟨some 16, .move (.tmp 0),62,none⟩,
 ⟨some 17, .move (.tmp 4),3,none⟩,
 ⟨some 18, .indexAddr 62 (.tmp 16) (.tmp 17),0,none⟩,
 ⟨some 19, .load 84 (.tmp 18),84,none⟩,
 ⟨some 20, .call ⟨(.value (.func 59)), #[(.tmp 19)], #[84]⟩,82,none⟩,
 ⟨some 21, .indexAddr 52 (.tmp 14) (.tmp 15),0,none⟩,
 ⟨none, .store 82 (.tmp 21) (.tmp 20),0,none⟩]))
 (.ops [
 ⟨some 12, .move (.tmp 4),3,none⟩,
 ⟨some 13, .binOp .add 3 (.tmp 12) (.const (.int .i64 1)) 3,3,none⟩,
 ⟨some 4, .assign (.tmp 13),3,none⟩]))
def dg:SC:= .loop UJ
def k40:SC:=
 .seq
 (.ops [
 ⟨some 2, .assign (.const (.slice none 0 0)),52,none⟩])
 (.seq
 (.ops [
 ⟨some 5, .move (.tmp 0),62,none⟩,
 ⟨some 6, .call ⟨(.builtin .len), #[(.tmp 5)], #[62]⟩,3,none⟩,
 ⟨some 7, .makeSlice 52 (.tmp 6) (.tmp 6),52,none⟩,
 ⟨some 3, .assign (.tmp 7),52,none⟩])
 (.seq
 (.seq
 (.ops [
 ⟨some 4, .assign (.const (.int .i64 0)),3,none⟩])
 (.block 0
 dg))
 (.seq
 (.ops [
 ⟨some 22, .move (.tmp 3),52,none⟩,
 ⟨some 2, .assign (.tmp 22),52,none⟩])
 .ret)))
theorem mr:Tryz.f40.body.map (Am lends)=some k40:=by kernel_rfl
theorem A4G:As Tryz.f40 1=true:=by kernel_rfl
theorem c40{a l:List D}{r:D×List D}(h:Av Y.env k40 (fin AJ l.length [ResultVar.tmp 2] r) (entry a l))(ha:a.length=1):Y.call 40 a l=some r:=
 AC (Y:=Y) rfl Tryz.func40 (ha▸A4G) mr h
def Ez(a:List (Int×Int))(out:List (Int×Int))(i:Int)(s:St):Prop:=s.v 0=D.sl 84 (AO .i64 .i64 a)∧s.v 3=D.own 82 (AO .i64 .i64 out)∧s.v 4=D.int .i64 i
def HN(a:List (Int×Int))(r:(List (Int×Int)))(ex:Ex)(s:St):Prop:=ex= .exit 0∧s.v 3=D.own 82 (AO .i64 .i64 r)
theorem Qe(a:List (Int×Int)){v:(List (Int×Int))×Int}{s:St}{r:(List (Int×Int))}(h:Ix a v=some r)(hM:Ez a v.1 v.2 s):Av Y.env dg (HN a r) s:=by
 unfold Ix at h
 refine Aa (c:=UJ) (fun v=>Ey a v.1 v.2) (fun v s=>Ez a v.1 v.2 s) (HN a) ?_ h hM
 clear h hM s v r
 intro v s o hM h
 obtain⟨out,i⟩:=v
 dsimp only at h hM
 unfold Ey at h
 unfold Ez at hM
 obtain⟨m0,m1,m2⟩:=hM
 unfold UJ
 by_cases e2:i<(a.length:Int)
 ·rw [if_pos e2]at h
  obtain⟨e3,h⟩:=Ae h
  obtain⟨EV,hl4,h⟩:=AL h
  try dsimp only at h
  have c4:=UI (An a i.toNat) (BJ a i.toNat) hl4
  obtain⟨e5,h⟩:=Ae h
  cases h
  simp (maxDischargeDepth:=9) only [↓A8,A1,Ap,A6,AA,↓reduceIte,Nat.reduceEqDiff,Nat.reduceLT,Nat.reduceAdd,m0,m1,m2,e2,e3.1,e3.2,c4,e5.2,Ez,Ei]
 ·rw [if_neg e2]at h
  cases h
  simp (maxDischargeDepth:=9) only [↓A8,A1,Ap,AA,↓reduceIte,Nat.reduceEqDiff,Nat.reduceLT,m0,m1,m2,e2,Ez,HN,Ge]
theorem Ro(a:List (Int×Int)){r:(List (Int×Int))}(h:N7 a=some r):Y.call 40 [D.sl 84 (AO .i64 .i64 a)] []=some (D.own 82 (AO .i64 .i64 r),[]):=by
 refine c40 ?_ rfl
 unfold k40
 unfold N7 at h
 obtain⟨e1,h⟩:=Ae h
 obtain⟨FF,hl3,h⟩:=AL h
 try dsimp only at h
 simp (maxDischargeDepth:=9) only [↓A8,A1,Ap,A6,AA,↓reduceIte,Nat.reduceEqDiff,Nat.reduceLT,Nat.reduceLeDiff,e1.1,e1.2]
 refine AP (Qe a hl3 ?_) ?_
 ·simp (maxDischargeDepth:=9) only [A1,A6,↓reduceIte,Nat.reduceEqDiff,Nat.reduceLT,Ez]
 ·intro ex3 s3 hX3
  unfold HN at hX3
  obtain⟨rfl,n3_0⟩:=hX3
  cases h
  simp (maxDischargeDepth:=9) only [↓A8,A1,Ap,A6,↓reduceIte,Nat.reduceEqDiff,Nat.reduceLT,n3_0]
theorem Wt(a:List (Int×Int))(h:a.length<549755813888):N7 a=some a:=by
 have key:=CD (fun v=>Ey a v.1 v.2) (fun i=>(a.take i++List.replicate (a.length-i) (0,0),(i:Int))) a.length a ?_ ?_
 ·unfold N7 Ix
  rw [Ac (by omega)]
  simp only [List.take_zero,List.nil_append,Nat.sub_zero,Int.natCast_zero]at key
  rw [key];rfl
 ·intro i hi
  simp only [Ey,PG,Int.toNat_natCast]
  rw [if_pos (Ak hi),Ac (by omega),Option.bind_some,Ac (by simp;omega),xS hi,PC a i hi (0,0),Gm i (by omega)]
 ·simp only [Ey]
  rw [if_neg (AH _)];simp
theorem Wu(a:List (Int×Int))(h0:a.length<549755813888):Y.call 40 [D.sl 84 (AO .i64 .i64 a)] []=some (D.own 82 (AO .i64 .i64 a),[]):=Ro a (Wt a h0)
noncomputable def Dw(a:List (List (Int×Int)))(out:List (List (Int×Int)))(i:Int):Option (((List (List (Int×Int)))×Int)⊕((List (List (Int×Int))))):=
 if i<(a.length:Int)then
  ck (0≤i∧i.toNat<a.length)<|
  ck ((a.getD i.toNat default).length<549755813888)<|
  ck (0≤i∧i.toNat<out.length)<|
  some (Sum.inl ((out.set i.toNat (a.getD i.toNat default)),IntKind.i64.wrap (i+1)))
 else
  some (Sum.inr out)
noncomputable def I1(a:List (List (Int×Int)))(v:(List (List (Int×Int)))×Int):Option ((List (List (Int×Int)))):=DT (fun v=>Dw a v.1 v.2) v
noncomputable def LU(a:List (List (Int×Int))):Option ((List (List (Int×Int)))):=
 ck (0≤(a.length:Int)∧(a.length:Int)<1099511627776)<|
 (I1 a ((List.replicate a.length []),0)).bind fun FF=>
 some FF
def UK:SC:=
 .seq
 (.seq
 (.ops [
 ⟨some 8, .move (.tmp 4),3,none⟩,
 ⟨some 9, .move (.tmp 0),25,none⟩,
 ⟨some 10, .call ⟨(.builtin .len), #[(.tmp 9)], #[25]⟩,3,none⟩,
 ⟨some 11, .binOp .lss 3 (.tmp 8) (.tmp 10) 3,4,none⟩])
 (.cond (.tmp 11)
 .skip
 (.exit 0)))
 (.seq
 (.block 1
 (.ops [
 ⟨some 14, .move (.tmp 3),35,none⟩,
 ⟨some 15, .move (.tmp 4),3,none⟩,
 ⟨some 16, .move (.tmp 0),25,none⟩,
 ⟨some 17, .move (.tmp 4),3,none⟩,
 ⟨some 18, .indexAddr 25 (.tmp 16) (.tmp 17),0,none⟩,
 ⟨some 19, .load 62 (.tmp 18),62,none⟩,
 ⟨some 20, .call ⟨(.value (.func 40)), #[(.tmp 19)], #[62]⟩,52,none⟩,
 ⟨some 21, .indexAddr 35 (.tmp 14) (.tmp 15),0,none⟩,
 ⟨none, .store 52 (.tmp 21) (.tmp 20),0,none⟩]))
 (.ops [
 ⟨some 12, .move (.tmp 4),3,none⟩,
 ⟨some 13, .binOp .add 3 (.tmp 12) (.const (.int .i64 1)) 3,3,none⟩,
 ⟨some 4, .assign (.tmp 13),3,none⟩]))
def dh:SC:= .loop UK
def k24:SC:=
 .seq
 (.ops [
 ⟨some 2, .assign (.const (.slice none 0 0)),35,none⟩])
 (.seq
 (.ops [
 ⟨some 5, .move (.tmp 0),25,none⟩,
 ⟨some 6, .call ⟨(.builtin .len), #[(.tmp 5)], #[25]⟩,3,none⟩,
 ⟨some 7, .makeSlice 35 (.tmp 6) (.tmp 6),35,none⟩,
 ⟨some 3, .assign (.tmp 7),35,none⟩])
 (.seq
 (.seq
 (.ops [
 ⟨some 4, .assign (.const (.int .i64 0)),3,none⟩])
 (.block 0
 dh))
 (.seq
 (.ops [
 ⟨some 22, .move (.tmp 3),35,none⟩,
 ⟨some 2, .assign (.tmp 22),35,none⟩])
 .ret)))
theorem ms:Tryz.f24.body.map (Am lends)=some k24:=by kernel_rfl
theorem A4I:As Tryz.f24 1=true:=by kernel_rfl
theorem Wv{a l:List D}{r:D×List D}(h:Av Y.env k24 (fin AJ l.length [ResultVar.tmp 2] r) (entry a l))(ha:a.length=1):Y.call 24 a l=some r:=
 AC (Y:=Y) rfl Tryz.func24 (ha▸A4I) ms h
def Dx(a:List (List (Int×Int)))(out:List (List (Int×Int)))(i:Int)(s:St):Prop:=s.v 0=D.sl 62 (A9 (fun x=>D.sl 84 (AO .i64 .i64 x)) a)∧s.v 3=D.own 52 (A9 (fun x=>D.own 82 (AO .i64 .i64 x)) out)∧s.v 4=D.int .i64 i
def H4(a:List (List (Int×Int)))(r:(List (List (Int×Int))))(ex:Ex)(s:St):Prop:=ex= .exit 0∧s.v 3=D.own 52 (A9 (fun x=>D.own 82 (AO .i64 .i64 x)) r)
theorem Ou(a:List (List (Int×Int))){v:(List (List (Int×Int)))×Int}{s:St}{r:(List (List (Int×Int)))}(h:I1 a v=some r)(hM:Dx a v.1 v.2 s):Av Y.env dh (H4 a r) s:=by
 unfold I1 at h
 refine Aa (c:=UK) (fun v=>Dw a v.1 v.2) (fun v s=>Dx a v.1 v.2 s) (H4 a) ?_ h hM
 clear h hM s v r
 intro v s o hM h
 obtain⟨out,i⟩:=v
 dsimp only at h hM
 unfold Dw at h
 unfold Dx at hM
 obtain⟨m0,m1,m2⟩:=hM
 unfold UK
 by_cases e2:i<(a.length:Int)
 ·rw [if_pos e2]at h
  obtain⟨e3,h⟩:=Ae h
  obtain⟨e4,h⟩:=Ae h
  have c5:=Wu (a.getD i.toNat default) e4
  obtain⟨e6,h⟩:=Ae h
  cases h
  simp (maxDischargeDepth:=9) only [↓A8,A1,AE,Ap,A6,AA,↓reduceIte,Nat.reduceEqDiff,Nat.reduceLT,Nat.reduceAdd,m0,m1,m2,e2,e3.1,e3.2,c5,e6.2,Dx,Ei]
 ·rw [if_neg e2]at h
  cases h
  simp (maxDischargeDepth:=9) only [↓A8,A1,AE,AA,↓reduceIte,Nat.reduceEqDiff,Nat.reduceLT,m0,m1,m2,e2,Dx,H4,Ge]
theorem Qf(a:List (List (Int×Int))){r:(List (List (Int×Int)))}(h:LU a=some r):Y.call 24 [D.sl 62 (A9 (fun x=>D.sl 84 (AO .i64 .i64 x)) a)] []=some (D.own 52 (A9 (fun x=>D.own 82 (AO .i64 .i64 x)) r),[]):=by
 refine Wv ?_ rfl
 unfold k24
 unfold LU at h
 obtain⟨e1,h⟩:=Ae h
 obtain⟨FF,hl3,h⟩:=AL h
 try dsimp only at h
 simp (maxDischargeDepth:=9) only [↓A8,A1,AE,A6,AA,↓reduceIte,Nat.reduceEqDiff,Nat.reduceLT,Nat.reduceLeDiff,e1.1,e1.2]
 refine AP (Ou a hl3 ?_) ?_
 ·simp (maxDischargeDepth:=9) only [A1,A6,↓reduceIte,Nat.reduceEqDiff,Nat.reduceLT,Dx]<;>(repeat' apply And.intro)<;>first | rfl | exact⟨_,rfl⟩ | exact⟨_,_,rfl⟩ | simp [A9,Aq]
 ·intro ex3 s3 hX3
  unfold H4 at hX3
  obtain⟨rfl,n3_0⟩:=hX3
  cases h
  simp (maxDischargeDepth:=9) only [↓A8,A1,AE,Ap,A6,↓reduceIte,Nat.reduceEqDiff,Nat.reduceLT,n3_0]
theorem UL(a:List (List (Int×Int)))(h:BH a):LU a=some a:=by
 have h1:=h.1
 have key:=CD (fun v=>Dw a v.1 v.2) (fun i=>(a.take i++List.replicate (a.length-i) [],(i:Int))) a.length a ?_ ?_
 ·unfold LU I1
  rw [Ac (by omega)]
  simp only [List.take_zero,List.nil_append,Nat.sub_zero,Int.natCast_zero]at key
  rw [key];rfl
 ·intro i hi
  simp only [Dw]
  rw [if_pos (Ak hi),Ac (BS hi),Ac (by rw [D4 _ _ hi];exact h.at i hi),Ac (BS (by simp;omega)),D4 _ _ hi,Int.toNat_natCast,PC a i hi [],Gm i (by omega)]
 ·simp only [Dw]
  rw [if_neg (AH _)];simp
theorem UM(a:List (List (Int×Int)))(h0:BH a):Y.call 24 [D.sl 62 (A9 (fun x=>D.sl 84 (AO .i64 .i64 x)) a)] []=some (D.own 52 (A9 (fun x=>D.own 82 (AO .i64 .i64 x)) a),[]):=Qf a (UL a h0)
noncomputable def Iy(AK:List (List (Int×Int)))(Ao AM:List Int):Option ((List (List (Int×Int)))×(List Int)×(List Int)):=
 ck (BH AK)<|
 ck (Ao.length<1099511627776)<|
 ck (AM.length<1099511627776)<|
 some (AK,Ao,AM)
def k8:SC:=
 .seq
 (.ops [
 ⟨some 1, .box 28 (.tmp 0),0,none⟩,
 ⟨some 2, .alloc 37,0,none⟩])
 (.seq
 (.ops [
 ⟨some 3, .alloc 37,0,none⟩])
 (.seq
 (.ops [
 ⟨some 4, .fieldAddr 28 (.tmp 1) 0,0,none⟩,
 ⟨some 5, .load 25 (.tmp 4),25,none⟩,
 ⟨some 6, .call ⟨(.value (.func 24)), #[(.tmp 5)], #[25]⟩,35,none⟩,
 ⟨some 7, .fieldAddr 37 (.tmp 3) 0,0,none⟩,
 ⟨none, .store 35 (.tmp 7) (.tmp 6),0,none⟩])
 (.seq
 (.ops [
 ⟨some 8, .fieldAddr 28 (.tmp 1) 1,0,none⟩,
 ⟨some 9, .load 26 (.tmp 8),26,none⟩,
 ⟨some 10, .call ⟨(.value (.func 25)), #[(.tmp 9)], #[26]⟩,26,none⟩,
 ⟨some 11, .fieldAddr 37 (.tmp 3) 1,0,none⟩,
 ⟨none, .store 26 (.tmp 11) (.tmp 10),0,none⟩])
 (.seq
 (.ops [
 ⟨some 12, .fieldAddr 28 (.tmp 1) 2,0,none⟩,
 ⟨some 13, .load 26 (.tmp 12),26,none⟩,
 ⟨some 14, .call ⟨(.value (.func 25)), #[(.tmp 13)], #[26]⟩,26,none⟩,
 ⟨some 15, .fieldAddr 37 (.tmp 3) 2,0,none⟩,
 ⟨none, .store 26 (.tmp 15) (.tmp 14),0,none⟩])
 (.seq
 (.ops [
 ⟨some 16, .load 37 (.tmp 3),37,none⟩,
 ⟨none, .store 37 (.tmp 2) (.tmp 16),0,none⟩])
 .ret)))))
theorem xT:Tryz.f8.body.map (Am lends)=some k8:=by kernel_rfl
theorem ok8:As Tryz.f8 1=true:=by kernel_rfl
theorem c8{a l:List D}{r:D×List D}(h:Av Y.env k8 (fin AJ l.length [ResultVar.cell 2 37] r) (entry a l))(ha:a.length=1):Y.call 8 a l=some r:=
 AC (Y:=Y) rfl Tryz.func8 (ha▸ok8) xT h
theorem Nz(AK:List (List (Int×Int)))(Ao AM:List Int){r:(List (List (Int×Int)))×(List Int)×(List Int)}(h:Iy AK Ao AM=some r):Y.call 8 [D.agg [D.sl 62 (A9 (fun x=>D.sl 84 (AO .i64 .i64 x)) AK),D.sl 3 (A9 (D.int .i64) Ao),D.sl 3 (A9 (D.int .i64) AM)]] []=some (D.agg [D.own 52 (A9 (fun x=>D.own 82 (AO .i64 .i64 x)) r.1),D.own 3 (A9 (D.int .i64) r.2.1),D.own 3 (A9 (D.int .i64) r.2.2)],[]):=by
 refine c8 ?_ rfl
 unfold k8
 unfold Iy at h
 obtain⟨e1,h⟩:=Ae h
 have c2:=UM AK e1
 obtain⟨e3,h⟩:=Ae h
 have c4:=Ko Ao e3
 obtain⟨e5,h⟩:=Ae h
 have c6:=Ko AM e5
 cases h
 simp (maxDischargeDepth:=9) only [↓A8,A1,AE,Ap,A6,AA,↓reduceIte,Nat.reduceEqDiff,Nat.reduceLT,Nat.reduceAdd,c2,c4,c6]
theorem Qg(a:List (List (Int×Int)))(b c:List Int)(h:BH a)(hb:b.length<1099511627776)(hc:c.length<1099511627776):Iy a b c=some (a,b,c):=by
 unfold Iy
 rw [Ac h,Ac hb,Ac hc]
theorem Dy(AK:List (List (Int×Int)))(Ao AM:List Int)(h0:BH AK)(h1:Ao.length<1099511627776)(h2:AM.length<1099511627776):Y.call 8 [D.agg [D.sl 62 (A9 (fun x=>D.sl 84 (AO .i64 .i64 x)) AK),D.sl 3 (A9 (D.int .i64) Ao),D.sl 3 (A9 (D.int .i64) AM)]] []=some (D.agg [D.own 52 (A9 (fun x=>D.own 82 (AO .i64 .i64 x)) AK),D.own 3 (A9 (D.int .i64) Ao),D.own 3 (A9 (D.int .i64) AM)],[]):=Nz AK Ao AM (Qg AK Ao AM h0 h1 h2)
noncomputable def N8(a_Node a_Port b_Node b_Port:Int):Option (Bool):=
 if a_Node=b_Node then
  if a_Port=b_Port then
   some true
  else
   some false
 else
  some false
def k67:SC:=
 .seq
 (.ops [
 ⟨some 2, .box 82 (.tmp 0),0,none⟩,
 ⟨some 3, .box 82 (.tmp 1),0,none⟩,
 ⟨some 4, .assign (.const (.bool false)),4,none⟩])
 (.seq
 (.seq
 (.ops [
 ⟨some 5, .fieldAddr 82 (.tmp 2) 0,0,none⟩,
 ⟨some 6, .load 3 (.tmp 5),3,none⟩,
 ⟨some 7, .fieldAddr 82 (.tmp 3) 0,0,none⟩,
 ⟨some 8, .load 3 (.tmp 7),3,none⟩,
 ⟨some 9, .binOp .neq 3 (.tmp 6) (.tmp 8) 3,4,none⟩])
 (.cond (.tmp 9)
 (.seq
 (.ops [
 ⟨some 4, .assign (.const (.bool false)),4,none⟩])
 .ret)
 .skip))
 (.seq
 (.seq
 (.ops [
 ⟨some 10, .fieldAddr 82 (.tmp 2) 1,0,none⟩,
 ⟨some 11, .load 3 (.tmp 10),3,none⟩,
 ⟨some 12, .fieldAddr 82 (.tmp 3) 1,0,none⟩,
 ⟨some 13, .load 3 (.tmp 12),3,none⟩,
 ⟨some 14, .binOp .neq 3 (.tmp 11) (.tmp 13) 3,4,none⟩])
 (.cond (.tmp 14)
 (.seq
 (.ops [
 ⟨some 4, .assign (.const (.bool false)),4,none⟩])
 .ret)
 .skip))
 (.seq
 (.ops [
 ⟨some 4, .assign (.const (.bool true)),4,none⟩])
 .ret)))
theorem mt:Tryz.f67.body.map (Am lends)=some k67:=by kernel_rfl
theorem A4K:As Tryz.f67 2=true:=by kernel_rfl
theorem c67{a l:List D}{r:D×List D}(h:Av Y.env k67 (fin AJ l.length [ResultVar.tmp 4] r) (entry a l))(ha:a.length=2):Y.call 67 a l=some r:=
 AC (Y:=Y) rfl Tryz.func67 (ha▸A4K) mt h
theorem UN(a_Node a_Port b_Node b_Port:Int){r:Bool}(h:N8 a_Node a_Port b_Node b_Port=some r):Y.call 67 [D.agg [D.int .i64 a_Node,D.int .i64 a_Port],D.agg [D.int .i64 b_Node,D.int .i64 b_Port]] []=some (D.bool r,[]):=by
 refine c67 ?_ rfl
 unfold k67
 unfold N8 at h
 by_cases e1:a_Node=b_Node
 ·rw [if_pos e1]at h
  by_cases e2:a_Port=b_Port
  ·rw [if_pos e2]at h
   cases h
   simp (maxDischargeDepth:=9) only [↓A8,A1,A6,AA,↓reduceIte,Nat.reduceEqDiff,Nat.reduceLT,Nat.reduceAdd,decide_eq_true e1,decide_eq_true e2]
  ·rw [if_neg e2]at h
   cases h
   simp (maxDischargeDepth:=9) only [↓A8,A1,A6,AA,↓reduceIte,Nat.reduceEqDiff,Nat.reduceLT,Nat.reduceAdd,decide_eq_true e1,e2]
 ·rw [if_neg e1]at h
  cases h
  simp (maxDischargeDepth:=9) only [↓A8,A1,A6,AA,↓reduceIte,Nat.reduceEqDiff,Nat.reduceLT,Nat.reduceAdd,e1]
noncomputable def F2(a:List (Int×Int))(b:List (Int×Int))(i:Int):Option ((Int)⊕(Unit⊕Unit)):=
 if i<(a.length:Int)then
  ck (0≤i∧i.toNat<a.length)<|
  ck (0≤i∧i.toNat<b.length)<|
  (N8 (An a i.toNat) (BJ a i.toNat) (An b i.toNat) (BJ b i.toNat)).bind fun Gn=>
  if Gn=true then
   some (Sum.inl (IntKind.i64.wrap (i+1)))
  else
   some (Sum.inr (Sum.inl ()))
 else
  some (Sum.inr (Sum.inr ()))
noncomputable def Iz(a:List (Int×Int))(b:List (Int×Int))(v:Int):Option (Unit⊕Unit):=DT (fun v=>F2 a b v) v
noncomputable def N9(a:List (Int×Int))(b:List (Int×Int)):Option (Bool):=
 if(a.length:Int)=(b.length:Int)then
  (Iz a b 0).bind fun FF=>
  match FF with
  | .inl q3_=>
   some false
  | .inr q3_=>
   some true
 else
  some false
def UO:SC:=
 .seq
 (.seq
 (.ops [
 ⟨some 11, .move (.tmp 5),3,none⟩,
 ⟨some 12, .move (.tmp 0),52,none⟩,
 ⟨some 13, .call ⟨(.builtin .len), #[(.tmp 12)], #[52]⟩,3,none⟩,
 ⟨some 14, .binOp .lss 3 (.tmp 11) (.tmp 13) 3,4,none⟩])
 (.cond (.tmp 14)
 .skip
 (.exit 0)))
 (.seq
 (.block 1
 (.seq
 (.draws [
 (⟨[17,0,0],[17,18,19,20,21,22,23,24,25,26],[17]⟩,⟨some 17, .move (.tmp 0),52,none⟩),
 (⟨[18,5,5],[17,18,19,20,21,22,23,24,25,26],[18]⟩,⟨some 18, .move (.tmp 5),3,none⟩),
 (⟨[19,17,18,0,5],[17,18,19,20,21,22,23,24,25,26],[19]⟩,⟨some 19, .indexAddr 52 (.tmp 17) (.tmp 18),0,none⟩),
 (⟨[20,19,0],[17,18,19,20,21,22,23,24,25,26],[20]⟩,⟨some 20, .load 82 (.tmp 19),82,none⟩),
 (⟨[21,1,1],[17,18,19,20,21,22,23,24,25,26],[21]⟩,⟨some 21, .move (.tmp 1),52,none⟩),
 (⟨[22,5,5],[17,18,19,20,21,22,23,24,25,26],[22]⟩,⟨some 22, .move (.tmp 5),3,none⟩),
 (⟨[23,21,22,1,5],[17,18,19,20,21,22,23,24,25,26],[23]⟩,⟨some 23, .indexAddr 52 (.tmp 21) (.tmp 22),0,none⟩),
 (⟨[24,23,1],[17,18,19,20,21,22,23,24,25,26],[24]⟩,⟨some 24, .load 82 (.tmp 23),82,none⟩),
 (⟨[25,20,24,0,1],[17,18,19,20,21,22,23,24,25,26],[25]⟩,⟨some 25, .call ⟨(.value (.func 67)), #[(.tmp 20),(.tmp 24)], #[82,82]⟩,4,none⟩),
 (⟨[26,25,25],[17,18,19,20,21,22,23,24,25,26],[26]⟩,⟨some 26, .unOp .not 4 (.tmp 25),4,none⟩)])
 (.cond (.tmp 26)
 (.seq
 (.ops [
 ⟨some 4, .assign (.const (.bool false)),4,none⟩])
 .ret)
 .skip)))
 (.ops [
 ⟨some 15, .move (.tmp 5),3,none⟩,
 ⟨some 16, .binOp .add 3 (.tmp 15) (.const (.int .i64 1)) 3,3,none⟩,
 ⟨some 5, .assign (.tmp 16),3,none⟩]))
def dj:SC:= .loop UO
def k49:SC:=
 .seq
 (.ops [
 ⟨some 4, .assign (.const (.bool false)),4,none⟩])
 (.seq
 (.seq
 (.ops [
 ⟨some 6, .move (.tmp 0),52,none⟩,
 ⟨some 7, .call ⟨(.builtin .len), #[(.tmp 6)], #[52]⟩,3,none⟩,
 ⟨some 8, .move (.tmp 1),52,none⟩,
 ⟨some 9, .call ⟨(.builtin .len), #[(.tmp 8)], #[52]⟩,3,none⟩,
 ⟨some 10, .binOp .neq 3 (.tmp 7) (.tmp 9) 3,4,none⟩])
 (.cond (.tmp 10)
 (.seq
 (.ops [
 ⟨some 4, .assign (.const (.bool false)),4,none⟩])
 .ret)
 .skip))
 (.seq
 (.seq
 (.ops [
 ⟨some 5, .assign (.const (.int .i64 0)),3,none⟩])
 (.block 0
 dj))
 (.seq
 (.ops [
 ⟨some 4, .assign (.const (.bool true)),4,none⟩])
 .ret)))
theorem mu:Tryz.f49.body.map (Am lends)=some k49:=by kernel_rfl
theorem A4M:As Tryz.f49 2=true:=by kernel_rfl
theorem c49{a l:List D}{r:D×List D}(h:Av Y.env k49 (fin AJ l.length [ResultVar.tmp 4] r) (entry a l))(ha:a.length=2):Y.call 49 a l=some r:=
 AC (Y:=Y) rfl Tryz.func49 (ha▸A4M) mu h
def DN(a:List (Int×Int))(b:List (Int×Int))(i:Int)(s:St):Prop:=s.v 0=D.sl 82 (AO .i64 .i64 a)∧s.v 1=D.sl 82 (AO .i64 .i64 b)∧s.v 5=D.int .i64 i
def F3(a:List (Int×Int))(b:List (Int×Int))(r:Unit⊕Unit)(ex:Ex)(s:St):Prop:=match r with
 | .inl q=>ex= .ret∧s.v 4=D.bool false
 | .inr q=>ex= .exit 0
theorem Qh(a:List (Int×Int))(b:List (Int×Int)){v:Int}{s:St}{r:Unit⊕Unit}(h:Iz a b v=some r)(hM:DN a b v s):Av Y.env dj (F3 a b r) s:=by
 unfold Iz at h
 refine Aa (c:=UO) (fun v=>F2 a b v) (fun v s=>DN a b v s) (F3 a b) ?_ h hM
 clear h hM s v r
 intro i s o hM h
 unfold F2 at h
 unfold DN at hM
 obtain⟨m0,m1,m2⟩:=hM
 unfold UO
 by_cases e2:i<(a.length:Int)
 ·rw [if_pos e2]at h
  obtain⟨e3,h⟩:=Ae h
  obtain⟨e4,h⟩:=Ae h
  obtain⟨Gn,hl5,h⟩:=AL h
  try dsimp only at h
  have c5:=UN (An a i.toNat) (BJ a i.toNat) (An b i.toNat) (BJ b i.toNat) hl5
  by_cases e6:Gn=true
  ·rw [if_pos e6]at h
   cases h
   simp (maxDischargeDepth:=9) only [↓A8,A1,Ap,A6,AA,↓reduceIte,Nat.reduceEqDiff,Nat.reduceLT,Nat.reduceAdd,m0,m1,m2,e2,e3.1,e3.2,e4.2,c5,e6,DN,Ei]
  ·rw [if_neg e6]at h
   have e6f:Gn=false:=Bool.eq_false_iff.mpr e6
   cases h
   simp (maxDischargeDepth:=9) only [↓A8,A1,Ap,A6,AA,↓reduceIte,Nat.reduceEqDiff,Nat.reduceLT,Nat.reduceAdd,m0,m1,m2,e2,e3.1,e3.2,e4.2,c5,e6f,DN,F3,Ho]
 ·rw [if_neg e2]at h
  cases h
  simp (maxDischargeDepth:=9) only [↓A8,A1,Ap,AA,↓reduceIte,Nat.reduceEqDiff,Nat.reduceLT,m0,m2,e2,DN,F3,Ge]
theorem Rp(a:List (Int×Int))(b:List (Int×Int)){r:Bool}(h:N9 a b=some r):Y.call 49 [D.sl 82 (AO .i64 .i64 a),D.sl 82 (AO .i64 .i64 b)] []=some (D.bool r,[]):=by
 refine c49 ?_ rfl
 unfold k49
 unfold N9 at h
 by_cases e1:(a.length:Int)=(b.length:Int)
 ·rw [if_pos e1]at h
  obtain⟨FF,hl3,h⟩:=AL h
  try dsimp only at h
  simp (maxDischargeDepth:=9) only [↓A8,A1,Ap,A6,AA,↓reduceIte,Nat.reduceEqDiff,Nat.reduceLT,decide_eq_true e1]
  refine AP (Qh a b hl3 ?_) ?_
  ·simp (maxDischargeDepth:=9) only [A1,A6,↓reduceIte,Nat.reduceEqDiff,Nat.reduceLT,DN]
  ·intro ex3 s3 hX3
   rcases FF with q3_ | q3_
   ·unfold F3 at hX3
    dsimp only at hX3 h
    obtain⟨rfl,n3_0⟩:=hX3
    cases h
    simp (maxDischargeDepth:=9) only [↓A8,A1,A6,↓reduceIte,n3_0]
   ·unfold F3 at hX3
    dsimp only at hX3 h
    obtain rfl:=hX3
    cases h
    simp (maxDischargeDepth:=9) only [↓A8,A1,A6,AA,↓reduceIte,Nat.reduceEqDiff,Nat.reduceLT]
 ·rw [if_neg e1]at h
  cases h
  simp (maxDischargeDepth:=9) only [↓A8,A1,Ap,A6,AA,↓reduceIte,Nat.reduceEqDiff,Nat.reduceLT,e1]
theorem Yf(a b c d:Int):N8 a b c d=some (decide ((a,b)=(c,d))):=by
 unfold N8
 by_cases h1:a=c<;>by_cases h2:b=d<;>simp [h1,h2]
theorem Ww(a b:List (Int×Int))(ha:a.length<549755813888):N9 a b=some (decide (a=b)):=by
 unfold N9 Iz
 by_cases hl:a.length=b.length
 ·rw [if_pos (by omega)]
  have key:=CE (fun v=>F2 a b v) (fun i=>(i:Int)) a.length (fun i=>decide (a.getD i default=b.getD i default)) (.inl ()) (.inr ()) ?_ ?_
  ·simp only [Int.natCast_zero]at key
   rw [key,Kl a b hl]
   by_cases he:a=b<;>simp [he]
  ·intro i hi
   simp only [F2,Int.toNat_natCast]
   rw [if_pos (Ak hi),Ac (by omega),Ac (by omega),Yf,Option.bind_some,Gm i (by omega)]
   rfl
  ·simp only [F2]
   rw [if_neg (AH _)]
 ·rw [if_neg (by omega)]
  have: ¬a=b:=fun e=>hl (by rw [e])
  simp [this]
theorem Wx(a:List (Int×Int))(b:List (Int×Int))(h0:a.length<549755813888):Y.call 49 [D.sl 82 (AO .i64 .i64 a),D.sl 82 (AO .i64 .i64 b)] []=some (D.bool (decide (a=b)),[]):=Rp a b (Ww a b h0)
noncomputable def Dz(a:List (List (Int×Int)))(b:List (List (Int×Int)))(i:Int):Option ((Int)⊕(Unit⊕Unit)):=
 if i<(a.length:Int)then
  ck (0≤i∧i.toNat<a.length)<|
  ck (0≤i∧i.toNat<b.length)<|
  ck ((a.getD i.toNat default).length<549755813888)<|
  if(decide ((a.getD i.toNat default)=(b.getD i.toNat default)))=true then
   some (Sum.inl (IntKind.i64.wrap (i+1)))
  else
   some (Sum.inr (Sum.inl ()))
 else
  some (Sum.inr (Sum.inr ()))
noncomputable def I2(a:List (List (Int×Int)))(b:List (List (Int×Int)))(v:Int):Option (Unit⊕Unit):=DT (fun v=>Dz a b v) v
noncomputable def LV(a:List (List (Int×Int)))(b:List (List (Int×Int))):Option (Bool):=
 if(a.length:Int)=(b.length:Int)then
  (I2 a b 0).bind fun FF=>
  match FF with
  | .inl q3_=>
   some false
  | .inr q3_=>
   some true
 else
  some false
def UP:SC:=
 .seq
 (.seq
 (.ops [
 ⟨some 11, .move (.tmp 5),3,none⟩,
 ⟨some 12, .move (.tmp 0),35,none⟩,
 ⟨some 13, .call ⟨(.builtin .len), #[(.tmp 12)], #[35]⟩,3,none⟩,
 ⟨some 14, .binOp .lss 3 (.tmp 11) (.tmp 13) 3,4,none⟩])
 (.cond (.tmp 14)
 .skip
 (.exit 0)))
 (.seq
 (.block 1
 (.seq
 (.draws [
 (⟨[17,0,0],[17,18,19,20,21,22,23,24,25,26],[17]⟩,⟨some 17, .move (.tmp 0),35,none⟩),
 (⟨[18,5,5],[17,18,19,20,21,22,23,24,25,26],[18]⟩,⟨some 18, .move (.tmp 5),3,none⟩),
 (⟨[19,17,18,0,5],[17,18,19,20,21,22,23,24,25,26],[19]⟩,⟨some 19, .indexAddr 35 (.tmp 17) (.tmp 18),0,none⟩),
 (⟨[20,19,0],[17,18,19,20,21,22,23,24,25,26],[20]⟩,⟨some 20, .load 52 (.tmp 19),52,none⟩),
 (⟨[21,1,1],[17,18,19,20,21,22,23,24,25,26],[21]⟩,⟨some 21, .move (.tmp 1),35,none⟩),
 (⟨[22,5,5],[17,18,19,20,21,22,23,24,25,26],[22]⟩,⟨some 22, .move (.tmp 5),3,none⟩),
 (⟨[23,21,22,1,5],[17,18,19,20,21,22,23,24,25,26],[23]⟩,⟨some 23, .indexAddr 35 (.tmp 21) (.tmp 22),0,none⟩),
 (⟨[24,23,1],[17,18,19,20,21,22,23,24,25,26],[24]⟩,⟨some 24, .load 52 (.tmp 23),52,none⟩),
 (⟨[25,20,24,0,1],[17,18,19,20,21,22,23,24,25,26],[25]⟩,⟨some 25, .call ⟨(.value (.func 49)), #[(.tmp 20),(.tmp 24)], #[52,52]⟩,4,none⟩),
 (⟨[26,25,25],[17,18,19,20,21,22,23,24,25,26],[26]⟩,⟨some 26, .unOp .not 4 (.tmp 25),4,none⟩)])
 (.cond (.tmp 26)
 (.seq
 (.ops [
 ⟨some 4, .assign (.const (.bool false)),4,none⟩])
 .ret)
 .skip)))
 (.ops [
 ⟨some 15, .move (.tmp 5),3,none⟩,
 ⟨some 16, .binOp .add 3 (.tmp 15) (.const (.int .i64 1)) 3,3,none⟩,
 ⟨some 5, .assign (.tmp 16),3,none⟩]))
def dk:SC:= .loop UP
def k30:SC:=
 .seq
 (.ops [
 ⟨some 4, .assign (.const (.bool false)),4,none⟩])
 (.seq
 (.seq
 (.ops [
 ⟨some 6, .move (.tmp 0),35,none⟩,
 ⟨some 7, .call ⟨(.builtin .len), #[(.tmp 6)], #[35]⟩,3,none⟩,
 ⟨some 8, .move (.tmp 1),35,none⟩,
 ⟨some 9, .call ⟨(.builtin .len), #[(.tmp 8)], #[35]⟩,3,none⟩,
 ⟨some 10, .binOp .neq 3 (.tmp 7) (.tmp 9) 3,4,none⟩])
 (.cond (.tmp 10)
 (.seq
 (.ops [
 ⟨some 4, .assign (.const (.bool false)),4,none⟩])
 .ret)
 .skip))
 (.seq
 (.seq
 (.ops [
 ⟨some 5, .assign (.const (.int .i64 0)),3,none⟩])
 (.block 0
 dk))
 (.seq
 (.ops [
 ⟨some 4, .assign (.const (.bool true)),4,none⟩])
 .ret)))
theorem mv:Tryz.f30.body.map (Am lends)=some k30:=by kernel_rfl
theorem A4O:As Tryz.f30 2=true:=by kernel_rfl
theorem c30{a l:List D}{r:D×List D}(h:Av Y.env k30 (fin AJ l.length [ResultVar.tmp 4] r) (entry a l))(ha:a.length=2):Y.call 30 a l=some r:=
 AC (Y:=Y) rfl Tryz.func30 (ha▸A4O) mv h
def Ck(a:List (List (Int×Int)))(b:List (List (Int×Int)))(i:Int)(s:St):Prop:=s.v 0=D.sl 52 (A9 (fun x=>D.sl 82 (AO .i64 .i64 x)) a)∧s.v 1=D.sl 52 (A9 (fun x=>D.sl 82 (AO .i64 .i64 x)) b)∧s.v 5=D.int .i64 i
def E0(a:List (List (Int×Int)))(b:List (List (Int×Int)))(r:Unit⊕Unit)(ex:Ex)(s:St):Prop:=match r with
 | .inl q=>ex= .ret∧s.v 4=D.bool false
 | .inr q=>ex= .exit 0
theorem Ov(a:List (List (Int×Int)))(b:List (List (Int×Int))){v:Int}{s:St}{r:Unit⊕Unit}(h:I2 a b v=some r)(hM:Ck a b v s):Av Y.env dk (E0 a b r) s:=by
 unfold I2 at h
 refine Aa (c:=UP) (fun v=>Dz a b v) (fun v s=>Ck a b v s) (E0 a b) ?_ h hM
 clear h hM s v r
 intro i s o hM h
 unfold Dz at h
 unfold Ck at hM
 obtain⟨m0,m1,m2⟩:=hM
 unfold UP
 by_cases e2:i<(a.length:Int)
 ·rw [if_pos e2]at h
  obtain⟨e3,h⟩:=Ae h
  obtain⟨e4,h⟩:=Ae h
  obtain⟨e5,h⟩:=Ae h
  have c6:=Wx (a.getD i.toNat default) (b.getD i.toNat default) e5
  by_cases e7:(decide ((a.getD i.toNat default)=(b.getD i.toNat default)))=true
  ·rw [if_pos e7]at h
   cases h
   simp (maxDischargeDepth:=9) only [↓A8,A1,AE,Ap,A6,AA,↓reduceIte,Nat.reduceEqDiff,Nat.reduceLT,Nat.reduceAdd,m0,m1,m2,e2,e3.1,e3.2,e4.2,c6,e7,Ck,Ei]
  ·rw [if_neg e7]at h
   have e7f:(decide ((a.getD i.toNat default)=(b.getD i.toNat default)))=false:=Bool.eq_false_iff.mpr e7
   cases h
   simp (maxDischargeDepth:=9) only [↓A8,A1,AE,Ap,A6,AA,↓reduceIte,Nat.reduceEqDiff,Nat.reduceLT,Nat.reduceAdd,m0,m1,m2,e2,e3.1,e3.2,e4.2,c6,e7f,Ck,E0,Ho]
 ·rw [if_neg e2]at h
  cases h
  simp (maxDischargeDepth:=9) only [↓A8,A1,AE,AA,↓reduceIte,Nat.reduceEqDiff,Nat.reduceLT,m0,m2,e2,Ck,E0,Ge]
theorem Qi(a:List (List (Int×Int)))(b:List (List (Int×Int))){r:Bool}(h:LV a b=some r):Y.call 30 [D.sl 52 (A9 (fun x=>D.sl 82 (AO .i64 .i64 x)) a),D.sl 52 (A9 (fun x=>D.sl 82 (AO .i64 .i64 x)) b)] []=some (D.bool r,[]):=by
 refine c30 ?_ rfl
 unfold k30
 unfold LV at h
 by_cases e1:(a.length:Int)=(b.length:Int)
 ·rw [if_pos e1]at h
  obtain⟨FF,hl3,h⟩:=AL h
  try dsimp only at h
  simp (maxDischargeDepth:=9) only [↓A8,A1,AE,A6,AA,↓reduceIte,Nat.reduceEqDiff,Nat.reduceLT,decide_eq_true e1]
  refine AP (Ov a b hl3 ?_) ?_
  ·simp (maxDischargeDepth:=9) only [A1,A6,↓reduceIte,Nat.reduceEqDiff,Nat.reduceLT,Ck]
  ·intro ex3 s3 hX3
   rcases FF with q3_ | q3_
   ·unfold E0 at hX3
    dsimp only at hX3 h
    obtain⟨rfl,n3_0⟩:=hX3
    cases h
    simp (maxDischargeDepth:=9) only [↓A8,A1,A6,↓reduceIte,n3_0]
   ·unfold E0 at hX3
    dsimp only at hX3 h
    obtain rfl:=hX3
    cases h
    simp (maxDischargeDepth:=9) only [↓A8,A1,A6,AA,↓reduceIte,Nat.reduceEqDiff,Nat.reduceLT]
 ·rw [if_neg e1]at h
  cases h
  simp (maxDischargeDepth:=9) only [↓A8,A1,AE,A6,AA,↓reduceIte,Nat.reduceEqDiff,Nat.reduceLT,e1]
theorem UQ(a b:List (List (Int×Int)))(ha:BH a):LV a b=some (decide (a=b)):=by
 have h1:=ha.1
 unfold LV I2
 by_cases hl:a.length=b.length
 ·rw [if_pos (by omega)]
  have key:=CE (fun v=>Dz a b v) (fun i=>(i:Int)) a.length (fun i=>decide (a.getD i default=b.getD i default)) (.inl ()) (.inr ()) ?_ ?_
  ·simp only [Int.natCast_zero]at key
   rw [key,Kl a b hl]
   by_cases he:a=b<;>simp [he]
  ·intro i hi
   simp only [Dz]
   rw [if_pos (Ak hi),Ac (BS hi),Ac (BS (by omega)),Ac (by rw [D4 _ _ hi];exact ha.at i hi),Int.toNat_natCast,Gm i (by omega)]<;>simp only [decide_eq_true_eq]
  ·simp only [Dz]
   rw [if_neg (AH _)]
 ·rw [if_neg (by omega)]
  have: ¬a=b:=fun e=>hl (by rw [e])
  simp [this]
theorem UR(a:List (List (Int×Int)))(b:List (List (Int×Int)))(h0:BH a):Y.call 30 [D.sl 52 (A9 (fun x=>D.sl 82 (AO .i64 .i64 x)) a),D.sl 52 (A9 (fun x=>D.sl 82 (AO .i64 .i64 x)) b)] []=some (D.bool (decide (a=b)),[]):=Qi a b (UQ a b h0)
noncomputable def J0(AK:List (List (Int×Int)))(Ao AM:List Int)(Hs:List (List (Int×Int)))(KH Eb:List Int):Option (Bool):=
 ck (BH AK)<|
 if(decide (AK=Hs))=true then
  ck (Ao.length<1099511627776)<|
  if(decide (Ao=KH))=true then
   ck (AM.length<1099511627776)<|
   if(decide (AM=Eb))=true then
    some true
   else
    some false
  else
   some false
 else
  some false
def k12:SC:=
 .seq
 (.ops [
 ⟨some 2, .box 37 (.tmp 0),0,none⟩,
 ⟨some 3, .box 37 (.tmp 1),0,none⟩,
 ⟨some 4, .assign (.const (.bool false)),4,none⟩])
 (.seq
 (.seq
 (.ops [
 ⟨some 5, .fieldAddr 37 (.tmp 2) 0,0,none⟩,
 ⟨some 6, .load 35 (.tmp 5),35,none⟩,
 ⟨some 7, .fieldAddr 37 (.tmp 3) 0,0,none⟩,
 ⟨some 8, .load 35 (.tmp 7),35,none⟩,
 ⟨some 9, .call ⟨(.value (.func 30)), #[(.tmp 6),(.tmp 8)], #[35,35]⟩,4,none⟩,
 ⟨some 10, .unOp .not 4 (.tmp 9),4,none⟩])
 (.cond (.tmp 10)
 (.seq
 (.ops [
 ⟨some 4, .assign (.const (.bool false)),4,none⟩])
 .ret)
 .skip))
 (.seq
 (.seq
 (.ops [
 ⟨some 11, .fieldAddr 37 (.tmp 2) 1,0,none⟩,
 ⟨some 12, .load 26 (.tmp 11),26,none⟩,
 ⟨some 13, .fieldAddr 37 (.tmp 3) 1,0,none⟩,
 ⟨some 14, .load 26 (.tmp 13),26,none⟩,
 ⟨some 15, .call ⟨(.value (.func 29)), #[(.tmp 12),(.tmp 14)], #[26,26]⟩,4,none⟩,
 ⟨some 16, .unOp .not 4 (.tmp 15),4,none⟩])
 (.cond (.tmp 16)
 (.seq
 (.ops [
 ⟨some 4, .assign (.const (.bool false)),4,none⟩])
 .ret)
 .skip))
 (.seq
 (.seq
 (.ops [
 ⟨some 17, .fieldAddr 37 (.tmp 2) 2,0,none⟩,
 ⟨some 18, .load 26 (.tmp 17),26,none⟩,
 ⟨some 19, .fieldAddr 37 (.tmp 3) 2,0,none⟩,
 ⟨some 20, .load 26 (.tmp 19),26,none⟩,
 ⟨some 21, .call ⟨(.value (.func 29)), #[(.tmp 18),(.tmp 20)], #[26,26]⟩,4,none⟩,
 ⟨some 22, .unOp .not 4 (.tmp 21),4,none⟩])
 (.cond (.tmp 22)
 (.seq
 (.ops [
 ⟨some 4, .assign (.const (.bool false)),4,none⟩])
 .ret)
 .skip))
 (.seq
 (.ops [
 ⟨some 4, .assign (.const (.bool true)),4,none⟩])
 .ret))))
theorem mw:Tryz.f12.body.map (Am lends)=some k12:=by kernel_rfl
theorem A4Q:As Tryz.f12 2=true:=by kernel_rfl
theorem nj{a l:List D}{r:D×List D}(h:Av Y.env k12 (fin AJ l.length [ResultVar.tmp 4] r) (entry a l))(ha:a.length=2):Y.call 12 a l=some r:=
 AC (Y:=Y) rfl Tryz.func12 (ha▸A4Q) mw h
theorem O0(AK:List (List (Int×Int)))(Ao AM:List Int)(Hs:List (List (Int×Int)))(KH Eb:List Int){r:Bool}(h:J0 AK Ao AM Hs KH Eb=some r):Y.call 12 [D.agg [D.sl 52 (A9 (fun x=>D.sl 82 (AO .i64 .i64 x)) AK),D.sl 3 (A9 (D.int .i64) Ao),D.sl 3 (A9 (D.int .i64) AM)],D.agg [D.sl 52 (A9 (fun x=>D.sl 82 (AO .i64 .i64 x)) Hs),D.sl 3 (A9 (D.int .i64) KH),D.sl 3 (A9 (D.int .i64) Eb)]] []=some (D.bool r,[]):=by
 refine nj ?_ rfl
 unfold k12
 unfold J0 at h
 obtain⟨e1,h⟩:=Ae h
 have c2:=UR AK Hs e1
 by_cases e3:(decide (AK=Hs))=true
 ·rw [if_pos e3]at h
  obtain⟨e4,h⟩:=Ae h
  have c5:=Kp Ao KH e4
  by_cases e6:(decide (Ao=KH))=true
  ·rw [if_pos e6]at h
   obtain⟨e7,h⟩:=Ae h
   have c8:=Kp AM Eb e7
   by_cases e9:(decide (AM=Eb))=true
   ·rw [if_pos e9]at h
    cases h
    simp (maxDischargeDepth:=9) only [↓A8,A1,Ap,A6,AA,↓reduceIte,Nat.reduceEqDiff,Nat.reduceLT,Nat.reduceAdd,c2,e3,c5,e6,c8,e9]
   ·rw [if_neg e9]at h
    have e9f:(decide (AM=Eb))=false:=Bool.eq_false_iff.mpr e9
    cases h
    simp (maxDischargeDepth:=9) only [↓A8,A1,Ap,A6,AA,↓reduceIte,Nat.reduceEqDiff,Nat.reduceLT,Nat.reduceAdd,c2,e3,c5,e6,c8,e9f]
  ·rw [if_neg e6]at h
   have e6f:(decide (Ao=KH))=false:=Bool.eq_false_iff.mpr e6
   cases h
   simp (maxDischargeDepth:=9) only [↓A8,A1,Ap,A6,AA,↓reduceIte,Nat.reduceEqDiff,Nat.reduceLT,Nat.reduceAdd,c2,e3,c5,e6f]
 ·rw [if_neg e3]at h
  have e3f:(decide (AK=Hs))=false:=Bool.eq_false_iff.mpr e3
  cases h
  simp (maxDischargeDepth:=9) only [↓A8,A1,Ap,A6,AA,↓reduceIte,Nat.reduceEqDiff,Nat.reduceLT,Nat.reduceAdd,c2,e3f]
def L4(a:List (List (Int×Int)))(b c:List Int)(a':List (List (Int×Int)))(b' c':List Int):Bool:=decide (a=a'∧b=b'∧c=c')
theorem Yg(a:List (List (Int×Int)))(b c:List Int):L4 a b c a b c=true:=by simp [L4]
theorem Qj(a:List (List (Int×Int)))(b c:List Int)(a':List (List (Int×Int)))(b' c':List Int)(h:BH a)(hb:b.length<1099511627776)(hc:c.length<1099511627776):J0 a b c a' b' c'=some (L4 a b c a' b' c'):=by
 unfold J0 L4
 rw [Ac h,Ac hb,Ac hc]
 by_cases h1:a=a'<;>by_cases h2:b=b'<;>by_cases h3:c=c'<;>simp [h1,h2,h3]
theorem L5(AK:List (List (Int×Int)))(Ao AM:List Int)(Hs:List (List (Int×Int)))(KH Eb:List Int)(h0:BH AK)(h1:Ao.length<1099511627776)(h2:AM.length<1099511627776):Y.call 12 [D.agg [D.sl 52 (A9 (fun x=>D.sl 82 (AO .i64 .i64 x)) AK),D.sl 3 (A9 (D.int .i64) Ao),D.sl 3 (A9 (D.int .i64) AM)],D.agg [D.sl 52 (A9 (fun x=>D.sl 82 (AO .i64 .i64 x)) Hs),D.sl 3 (A9 (D.int .i64) KH),D.sl 3 (A9 (D.int .i64) Eb)]] []=some (D.bool (L4 AK Ao AM Hs KH Eb),[]):=O0 AK Ao AM Hs KH Eb (Qj AK Ao AM Hs KH Eb h0 h1 h2)
noncomputable def NA(a:List (Int×Int))(left:Int):Option (Int):=
 if(IntKind.i64.wrap (left-(a.length:Int)))<0 then
  some (-1)
 else
  some (IntKind.i64.wrap (left-(a.length:Int)))
def k34:SC:=
 .seq
 (.ops [
 ⟨some 4, .assign (.const (.int .i64 0)),3,none⟩])
 (.seq
 (.ops [
 ⟨some 5, .move (.tmp 1),3,none⟩,
 ⟨some 6, .move (.tmp 0),62,none⟩,
 ⟨some 7, .call ⟨(.builtin .len), #[(.tmp 6)], #[62]⟩,3,none⟩,
 ⟨some 8, .binOp .sub 3 (.tmp 5) (.tmp 7) 3,3,none⟩,
 ⟨some 1, .assign (.tmp 8),3,none⟩])
 (.seq
 (.seq
 (.ops [
 ⟨some 9, .move (.tmp 1),3,none⟩,
 ⟨some 10, .binOp .lss 3 (.tmp 9) (.const (.int .i64 0)) 3,4,none⟩])
 (.cond (.tmp 10)
 (.seq
 (.ops [
 ⟨some 4, .assign (.const (.int .i64 (-1))),3,none⟩])
 .ret)
 .skip))
 (.seq
 (.ops [
 ⟨some 11, .move (.tmp 1),3,none⟩,
 ⟨some 4, .assign (.tmp 11),3,none⟩])
 .ret)))
theorem my:Tryz.f34.body.map (Am lends)=some k34:=by kernel_rfl
theorem A4S:As Tryz.f34 2=true:=by kernel_rfl
theorem c34{a l:List D}{r:D×List D}(h:Av Y.env k34 (fin AJ l.length [ResultVar.tmp 4] r) (entry a l))(ha:a.length=2):Y.call 34 a l=some r:=
 AC (Y:=Y) rfl Tryz.func34 (ha▸A4S) my h
theorem Rq(a:List (Int×Int))(left:Int){r:Int}(h:NA a left=some r):Y.call 34 [D.sl 84 (AO .i64 .i64 a),D.int .i64 left] []=some (D.int .i64 r,[]):=by
 refine c34 ?_ rfl
 unfold k34
 unfold NA at h
 by_cases e1:(IntKind.i64.wrap (left-(a.length:Int)))<0
 ·rw [if_pos e1]at h
  cases h
  simp (maxDischargeDepth:=9) only [↓A8,A1,Ap,A6,AA,↓reduceIte,Nat.reduceEqDiff,Nat.reduceLT,Int.reduceNeg,e1]
 ·rw [if_neg e1]at h
  cases h
  simp (maxDischargeDepth:=9) only [↓A8,A1,Ap,A6,AA,↓reduceIte,Nat.reduceEqDiff,Nat.reduceLT,Int.reduceNeg,e1]
theorem Wy(a:List (Int×Int))(left:Int)(ha:a.length<9223372036854775808)(hl:0≤left∧left≤1048576):NA a left=some (CK left a.length):=by
 unfold NA CK
 rw [Gl _ (by omega)]
 split<;>rfl
theorem Wz(a:List (Int×Int))(left:Int)(h0:a.length<9223372036854775808)(h1:0≤left∧left≤1048576):Y.call 34 [D.sl 84 (AO .i64 .i64 a),D.int .i64 left] []=some (D.int .i64 (CK left a.length),[]):=Rq a left (Wy a left h0 h1)
noncomputable def E1(a:List (List (Int×Int)))(left1 i:Int):Option ((Int×Int)⊕(Unit⊕Int)):=
 if i<(a.length:Int)then
  ck (0≤i∧i.toNat<a.length)<|
  ck ((a.getD i.toNat default).length<9223372036854775808)<|
  ck (0≤left1∧left1≤1048576)<|
  if(CK left1 (a.getD i.toNat default).length)<0 then
   some (Sum.inr (Sum.inl ()))
  else
   some (Sum.inl ((CK left1 (a.getD i.toNat default).length),IntKind.i64.wrap (i+1)))
 else
  some (Sum.inr (Sum.inr left1))
noncomputable def EO(a:List (List (Int×Int)))(v:Int×Int):Option (Unit⊕Int):=DT (fun v=>E1 a v.1 v.2) v
noncomputable def LW(a:List (List (Int×Int)))(left:Int):Option (Int):=
 if(IntKind.i64.wrap (left-(a.length:Int)))<0 then
  some (-1)
 else
  (EO a (IntKind.i64.wrap (left-(a.length:Int)),0)).bind fun FF=>
  match FF with
  | .inl q3_=>
   some (-1)
  | .inr q3_=>
   some q3_
def US:SC:=
 .seq
 (.seq
 (.ops [
 ⟨some 12, .move (.tmp 5),3,none⟩,
 ⟨some 13, .move (.tmp 0),25,none⟩,
 ⟨some 14, .call ⟨(.builtin .len), #[(.tmp 13)], #[25]⟩,3,none⟩,
 ⟨some 15, .binOp .lss 3 (.tmp 12) (.tmp 14) 3,4,none⟩])
 (.cond (.tmp 15)
 .skip
 (.exit 0)))
 (.seq
 (.block 1
 (.seq
 (.ops [
 ⟨some 18, .move (.tmp 0),25,none⟩,
 ⟨some 19, .move (.tmp 5),3,none⟩,
 ⟨some 20, .indexAddr 25 (.tmp 18) (.tmp 19),0,none⟩,
 ⟨some 21, .load 62 (.tmp 20),62,none⟩,
 ⟨some 22, .move (.tmp 1),3,none⟩,
 ⟨some 23, .call ⟨(.value (.func 34)), #[(.tmp 21),(.tmp 22)], #[62,3]⟩,3,none⟩,
 ⟨some 1, .assign (.tmp 23),3,none⟩])
 (.seq
 (.ops [
 ⟨some 24, .move (.tmp 1),3,none⟩,
 ⟨some 25, .binOp .lss 3 (.tmp 24) (.const (.int .i64 0)) 3,4,none⟩])
 (.cond (.tmp 25)
 (.seq
 (.ops [
 ⟨some 4, .assign (.const (.int .i64 (-1))),3,none⟩])
 .ret)
 .skip))))
 (.ops [
 ⟨some 16, .move (.tmp 5),3,none⟩,
 ⟨some 17, .binOp .add 3 (.tmp 16) (.const (.int .i64 1)) 3,3,none⟩,
 ⟨some 5, .assign (.tmp 17),3,none⟩]))
def dm:SC:= .loop US
def k18:SC:=
 .seq
 (.ops [
 ⟨some 4, .assign (.const (.int .i64 0)),3,none⟩])
 (.seq
 (.ops [
 ⟨some 6, .move (.tmp 1),3,none⟩,
 ⟨some 7, .move (.tmp 0),25,none⟩,
 ⟨some 8, .call ⟨(.builtin .len), #[(.tmp 7)], #[25]⟩,3,none⟩,
 ⟨some 9, .binOp .sub 3 (.tmp 6) (.tmp 8) 3,3,none⟩,
 ⟨some 1, .assign (.tmp 9),3,none⟩])
 (.seq
 (.seq
 (.ops [
 ⟨some 10, .move (.tmp 1),3,none⟩,
 ⟨some 11, .binOp .lss 3 (.tmp 10) (.const (.int .i64 0)) 3,4,none⟩])
 (.cond (.tmp 11)
 (.seq
 (.ops [
 ⟨some 4, .assign (.const (.int .i64 (-1))),3,none⟩])
 .ret)
 .skip))
 (.seq
 (.seq
 (.ops [
 ⟨some 5, .assign (.const (.int .i64 0)),3,none⟩])
 (.block 0
 dm))
 (.seq
 (.ops [
 ⟨some 26, .move (.tmp 1),3,none⟩,
 ⟨some 4, .assign (.tmp 26),3,none⟩])
 .ret))))
theorem mz:Tryz.f18.body.map (Am lends)=some k18:=by kernel_rfl
theorem A4U:As Tryz.f18 2=true:=by kernel_rfl
theorem Rr{a l:List D}{r:D×List D}(h:Av Y.env k18 (fin AJ l.length [ResultVar.tmp 4] r) (entry a l))(ha:a.length=2):Y.call 18 a l=some r:=
 AC (Y:=Y) rfl Tryz.func18 (ha▸A4U) mz h
def Cl(a:List (List (Int×Int)))(left1 i:Int)(s:St):Prop:=s.v 0=D.sl 62 (A9 (fun x=>D.sl 84 (AO .i64 .i64 x)) a)∧s.v 1=D.int .i64 left1∧s.v 5=D.int .i64 i
def E2(a:List (List (Int×Int)))(r:Unit⊕Int)(ex:Ex)(s:St):Prop:=match r with
 | .inl q=>ex= .ret∧s.v 4=D.int .i64 (-1)
 | .inr q=>ex= .exit 0∧s.v 1=D.int .i64 q
theorem Ow(a:List (List (Int×Int))){v:Int×Int}{s:St}{r:Unit⊕Int}(h:EO a v=some r)(hM:Cl a v.1 v.2 s):Av Y.env dm (E2 a r) s:=by
 unfold EO at h
 refine Aa (c:=US) (fun v=>E1 a v.1 v.2) (fun v s=>Cl a v.1 v.2 s) (E2 a) ?_ h hM
 clear h hM s v r
 intro v s o hM h
 obtain⟨left1,i⟩:=v
 dsimp only at h hM
 unfold E1 at h
 unfold Cl at hM
 obtain⟨m0,m1,m2⟩:=hM
 unfold US
 by_cases e2:i<(a.length:Int)
 ·rw [if_pos e2]at h
  obtain⟨e3,h⟩:=Ae h
  obtain⟨e4,h⟩:=Ae h
  obtain⟨e5,h⟩:=Ae h
  have c6:=Wz (a.getD i.toNat default) left1 e4 e5
  by_cases e7:(CK left1 (a.getD i.toNat default).length)<0
  ·rw [if_pos e7]at h
   cases h
   simp (maxDischargeDepth:=9) only [↓A8,A1,AE,Ap,A6,AA,↓reduceIte,Nat.reduceEqDiff,Nat.reduceLT,Nat.reduceAdd,Int.reduceNeg,m0,m1,m2,e2,e3.1,e3.2,c6,e7,Cl,E2,Ho]
  ·rw [if_neg e7]at h
   cases h
   simp (maxDischargeDepth:=9) only [↓A8,A1,AE,Ap,A6,AA,↓reduceIte,Nat.reduceEqDiff,Nat.reduceLT,Nat.reduceAdd,Int.reduceNeg,m0,m1,m2,e2,e3.1,e3.2,c6,e7,Cl,Ei]
 ·rw [if_neg e2]at h
  cases h
  simp (maxDischargeDepth:=9) only [↓A8,A1,AE,AA,↓reduceIte,Nat.reduceEqDiff,Nat.reduceLT,Int.reduceNeg,m0,m1,m2,e2,Cl,E2,Ge]
theorem Qk(a:List (List (Int×Int)))(left:Int){r:Int}(h:LW a left=some r):Y.call 18 [D.sl 62 (A9 (fun x=>D.sl 84 (AO .i64 .i64 x)) a),D.int .i64 left] []=some (D.int .i64 r,[]):=by
 refine Rr ?_ rfl
 unfold k18
 unfold LW at h
 by_cases e1:(IntKind.i64.wrap (left-(a.length:Int)))<0
 ·rw [if_pos e1]at h
  cases h
  simp (maxDischargeDepth:=9) only [↓A8,A1,AE,A6,AA,↓reduceIte,Nat.reduceEqDiff,Nat.reduceLT,Int.reduceNeg,e1]
 ·rw [if_neg e1]at h
  obtain⟨FF,hl3,h⟩:=AL h
  try dsimp only at h
  simp (maxDischargeDepth:=9) only [↓A8,A1,AE,A6,AA,↓reduceIte,Nat.reduceEqDiff,Nat.reduceLT,Int.reduceNeg,e1]
  refine AP (Ow a hl3 ?_) ?_
  ·simp (maxDischargeDepth:=9) only [A1,A6,↓reduceIte,Nat.reduceEqDiff,Nat.reduceLT,Cl]
  ·intro ex3 s3 hX3
   rcases FF with q3_ | q3_
   ·unfold E2 at hX3
    dsimp only at hX3 h
    obtain⟨rfl,n3_0⟩:=hX3
    cases h
    simp (maxDischargeDepth:=9) only [↓A8,A1,A6,↓reduceIte,Int.reduceNeg,n3_0]
   ·unfold E2 at hX3
    dsimp only at hX3 h
    obtain⟨rfl,n3_0⟩:=hX3
    cases h
    simp (maxDischargeDepth:=9) only [↓A8,A1,A6,↓reduceIte,Nat.reduceEqDiff,Nat.reduceLT,n3_0]
def fE(l:List (List (Int×Int))):List (List Int):=l.map fun x=>x.map Prod.fst
theorem Ox(a:List (List (Int×Int)))(ha:a.length<4611686018427387904)(hx: ∀x∈a,x.length<9223372036854775808): ∀(n i:Nat) (left:Int),n=a.length-i→i≤a.length→0≤left∧left≤1048576→
  EO a (left,(i:Int))=some (if ay left (fE (a.drop i))= -1 then .inl ()else .inr (ay left (fE (a.drop i)))):=by
 intro n
 induction n with
 | zero=>
  intro i left hn hi hl
  have e:i=a.length:=by omega
  subst e
  unfold EO
  rw [C5 (r:=Sum.inr left)]
  ·rw [List.drop_length,show fE []=[]from rfl];unfold ay;rw [if_neg (by omega)]
  ·simp only [E1];rw [if_neg (AH _)]
 | succ n ih=>
  intro i left hn hi hl
  have hlt:i<a.length:=by omega
  have hm:a[i]∈a:=List.getElem_mem hlt
  have hxm:=hx _ hm
  have step:E1 a left i=if CK left a[i].length<0 then some (Sum.inr (Sum.inl ()))else some (Sum.inl (CK left a[i].length,((i+1:Nat):Int))):=by
   unfold E1
   rw [if_pos (Ak hlt),Ac (BS hlt),Ac (by rw [D4 _ _ hlt];exact hxm),Ac hl,D4 _ _ hlt,Gm i (by omega)]
  rw [List.drop_eq_getElem_cons hlt,show fE (a[i]::a.drop (i+1))=a[i].map Prod.fst::fE (a.drop (i+1))from rfl]
  unfold ay
  rw [List.length_map]
  by_cases hq:left-(a[i].length:Int)<0
  ·rw [if_pos hq]
   unfold EO
   rw [C5 (r:=Sum.inl ())]
   ·rfl
   ·rw [step];unfold CK;rw [if_pos hq];rfl
  ·rw [if_neg hq]
   have e2:CK left a[i].length=left-a[i].length:=by unfold CK;rw [if_neg hq]
   have:=ih (i+1) (left-a[i].length) (by omega) (by omega) (by omega)
   unfold EO at this ⊢
   rw [GU (s':=(left-(a[i].length:Int),((i+1:Nat):Int))),this]
   ·rw [step,e2,if_neg hq]
def Lj(l:List (List (Int×Int))):Prop:=l.length<9223372036854775808∧ ∀x∈l,x.length<9223372036854775808
instance (l:List (List (Int×Int))):Decidable (Lj l):=by unfold Lj;infer_instance
theorem UT(a:List (List (Int×Int)))(left:Int)(hw:Lj a)(hl:0≤left∧left≤1048576):LW a left=some (CK left (a.length+Aw (fE a))):=by
 have ht:=B5 (fE a)
 have ha:=hw.1
 unfold LW
 rw [Gl _ (by omega)]
 by_cases hq:left-(a.length:Int)<0
 ·rw [if_pos hq];unfold CK;rw [if_pos (by omega)]
 ·rw [if_neg hq]
  have h0:=Ox a (by omega) hw.2 a.length 0 (left-a.length) (by omega) (by omega) (by omega)
  simp only [Int.natCast_zero,List.drop_zero]at h0
  rw [h0,Option.bind_some,cx _ _ (by omega)]
  have e:CK (left-a.length) (Aw (fE a))=CK left (a.length+Aw (fE a)):=by unfold CK;rw [show left- ↑a.length-Aw (fE a)=left-(↑a.length+Aw (fE a)) by omega]
  rw [e]
  by_cases h1:CK left (a.length+Aw (fE a))= -1
  ·rw [if_pos h1,h1]
  ·rw [if_neg h1]
theorem UU(a:List (List (Int×Int)))(left:Int)(h0:Lj a)(h1:0≤left∧left≤1048576):Y.call 18 [D.sl 62 (A9 (fun x=>D.sl 84 (AO .i64 .i64 x)) a),D.int .i64 left] []=some (D.int .i64 (CK left (a.length+Aw (fE a))),[]):=Qk a left (UT a left h0 h1)
noncomputable def J1(AK:List (List (Int×Int)))(Ao AM:List Int)(left:Int):Option (Int):=
 ck (Lj AK)<|
 ck (0≤left∧left≤1048576)<|
 if(CK left (AK.length+Aw (fE AK)))<0 then
  some (-1)
 else
  ck (Ao.length<9223372036854775808)<|
  ck (0≤(CK left (AK.length+Aw (fE AK)))∧(CK left (AK.length+Aw (fE AK)))≤1048576)<|
  if(CK (CK left (AK.length+Aw (fE AK))) Ao.length)<0 then
   some (-1)
  else
   ck (AM.length<9223372036854775808)<|
   ck (0≤(CK (CK left (AK.length+Aw (fE AK))) Ao.length)∧(CK (CK left (AK.length+Aw (fE AK))) Ao.length)≤1048576)<|
   if(CK (CK (CK left (AK.length+Aw (fE AK))) Ao.length) AM.length)<0 then
    some (-1)
   else
    some (CK (CK (CK left (AK.length+Aw (fE AK))) Ao.length) AM.length)
def k5:SC:=
 .seq
 (.ops [
 ⟨some 2, .box 28 (.tmp 0),0,none⟩,
 ⟨some 4, .assign (.const (.int .i64 0)),3,none⟩])
 (.seq
 (.ops [
 ⟨some 5, .fieldAddr 28 (.tmp 2) 0,0,none⟩,
 ⟨some 6, .load 25 (.tmp 5),25,none⟩,
 ⟨some 7, .move (.tmp 1),3,none⟩,
 ⟨some 8, .call ⟨(.value (.func 18)), #[(.tmp 6),(.tmp 7)], #[25,3]⟩,3,none⟩,
 ⟨some 1, .assign (.tmp 8),3,none⟩])
 (.seq
 (.seq
 (.ops [
 ⟨some 9, .move (.tmp 1),3,none⟩,
 ⟨some 10, .binOp .lss 3 (.tmp 9) (.const (.int .i64 0)) 3,4,none⟩])
 (.cond (.tmp 10)
 (.seq
 (.ops [
 ⟨some 4, .assign (.const (.int .i64 (-1))),3,none⟩])
 .ret)
 .skip))
 (.seq
 (.ops [
 ⟨some 11, .fieldAddr 28 (.tmp 2) 1,0,none⟩,
 ⟨some 12, .load 26 (.tmp 11),26,none⟩,
 ⟨some 13, .move (.tmp 1),3,none⟩,
 ⟨some 14, .call ⟨(.value (.func 19)), #[(.tmp 12),(.tmp 13)], #[26,3]⟩,3,none⟩,
 ⟨some 1, .assign (.tmp 14),3,none⟩])
 (.seq
 (.seq
 (.ops [
 ⟨some 15, .move (.tmp 1),3,none⟩,
 ⟨some 16, .binOp .lss 3 (.tmp 15) (.const (.int .i64 0)) 3,4,none⟩])
 (.cond (.tmp 16)
 (.seq
 (.ops [
 ⟨some 4, .assign (.const (.int .i64 (-1))),3,none⟩])
 .ret)
 .skip))
 (.seq
 (.ops [
 ⟨some 17, .fieldAddr 28 (.tmp 2) 2,0,none⟩,
 ⟨some 18, .load 26 (.tmp 17),26,none⟩,
 ⟨some 19, .move (.tmp 1),3,none⟩,
 ⟨some 20, .call ⟨(.value (.func 19)), #[(.tmp 18),(.tmp 19)], #[26,3]⟩,3,none⟩,
 ⟨some 1, .assign (.tmp 20),3,none⟩])
 (.seq
 (.seq
 (.ops [
 ⟨some 21, .move (.tmp 1),3,none⟩,
 ⟨some 22, .binOp .lss 3 (.tmp 21) (.const (.int .i64 0)) 3,4,none⟩])
 (.cond (.tmp 22)
 (.seq
 (.ops [
 ⟨some 4, .assign (.const (.int .i64 (-1))),3,none⟩])
 .ret)
 .skip))
 (.seq
 (.ops [
 ⟨some 23, .move (.tmp 1),3,none⟩,
 ⟨some 4, .assign (.tmp 23),3,none⟩])
 .ret)))))))
theorem xU:Tryz.f5.body.map (Am lends)=some k5:=by kernel_rfl
theorem ok5:As Tryz.f5 2=true:=by kernel_rfl
theorem c5{a l:List D}{r:D×List D}(h:Av Y.env k5 (fin AJ l.length [ResultVar.tmp 4] r) (entry a l))(ha:a.length=2):Y.call 5 a l=some r:=
 AC (Y:=Y) rfl Tryz.func5 (ha▸ok5) xU h
theorem O1(AK:List (List (Int×Int)))(Ao AM:List Int)(left:Int){r:Int}(h:J1 AK Ao AM left=some r):Y.call 5 [D.agg [D.sl 62 (A9 (fun x=>D.sl 84 (AO .i64 .i64 x)) AK),D.sl 3 (A9 (D.int .i64) Ao),D.sl 3 (A9 (D.int .i64) AM)],D.int .i64 left] []=some (D.int .i64 r,[]):=by
 refine c5 ?_ rfl
 unfold k5
 unfold J1 at h
 obtain⟨e1,h⟩:=Ae h
 obtain⟨e2,h⟩:=Ae h
 have c3:=UU AK left e1 e2
 by_cases e4:(CK left (AK.length+Aw (fE AK)))<0
 ·rw [if_pos e4]at h
  cases h
  simp (maxDischargeDepth:=9) only [↓A8,A1,Ap,A6,AA,↓reduceIte,Nat.reduceEqDiff,Nat.reduceLT,Nat.reduceAdd,Int.reduceNeg,c3,e4]
 ·rw [if_neg e4]at h
  obtain⟨e5,h⟩:=Ae h
  obtain⟨e6,h⟩:=Ae h
  have c7:=Kq Ao (CK left (AK.length+Aw (fE AK))) e5 e6
  by_cases e8:(CK (CK left (AK.length+Aw (fE AK))) Ao.length)<0
  ·rw [if_pos e8]at h
   cases h
   simp (maxDischargeDepth:=9) only [↓A8,A1,Ap,A6,AA,↓reduceIte,Nat.reduceEqDiff,Nat.reduceLT,Nat.reduceAdd,Int.reduceNeg,c3,e4,c7,e8]
  ·rw [if_neg e8]at h
   obtain⟨e9,h⟩:=Ae h
   obtain⟨e10,h⟩:=Ae h
   have xq:=Kq AM (CK (CK left (AK.length+Aw (fE AK))) Ao.length) e9 e10
   by_cases e12:(CK (CK (CK left (AK.length+Aw (fE AK))) Ao.length) AM.length)<0
   ·rw [if_pos e12]at h
    cases h
    simp (maxDischargeDepth:=9) only [↓A8,A1,Ap,A6,AA,↓reduceIte,Nat.reduceEqDiff,Nat.reduceLT,Nat.reduceAdd,Int.reduceNeg,c3,e4,c7,e8,xq,e12]
   ·rw [if_neg e12]at h
    cases h
    simp (maxDischargeDepth:=9) only [↓A8,A1,Ap,A6,AA,↓reduceIte,Nat.reduceEqDiff,Nat.reduceLT,Nat.reduceAdd,Int.reduceNeg,c3,e4,c7,e8,xq,e12]
def fC(left:Int)(a:List (List (Int×Int)))(b c:List Int):Int:=
 if CK left (a.length+Aw (fE a))<0 then-1 else if CK (CK left (a.length+Aw (fE a))) b.length<0 then-1 else CK (CK (CK left (a.length+Aw (fE a))) b.length) c.length
theorem Ql(a:List (List (Int×Int)))(b c:List Int)(left:Int)(ha:Lj a)(hb:b.length<9223372036854775808)(hc:c.length<9223372036854775808)(hl:0≤left∧left≤1048576):J1 a b c left=some (fC left a b c):=by
 have ht:=B5 (fE a)
 unfold J1 fC
 rw [Ac ha,Ac hl]
 by_cases h1:CK left (a.length+Aw (fE a))<0
 ·rw [if_pos h1,if_pos h1]
 ·rw [if_neg h1,if_neg h1]
  have b1:0≤CK left (a.length+Aw (fE a))∧CK left (a.length+Aw (fE a))≤1048576:=by
   rcases Eo left (a.length+Aw (fE a))with c | ⟨c,c'⟩<;>omega
  rw [Ac hb,Ac b1]
  by_cases h2:CK (CK left (a.length+Aw (fE a))) b.length<0
  ·rw [if_pos h2,if_pos h2]
  ·rw [if_neg h2,if_neg h2]
   have b2:0≤CK (CK left (a.length+Aw (fE a))) b.length∧CK (CK left (a.length+Aw (fE a))) b.length≤1048576:=by
    rcases Eo (CK left (a.length+Aw (fE a))) b.length with c | ⟨c,c'⟩<;>omega
   rw [Ac hc,Ac b2]
   by_cases h3:CK (CK (CK left (a.length+Aw (fE a))) b.length) c.length<0
   ·rw [if_pos h3]
    rcases Eo (CK (CK left (a.length+Aw (fE a))) b.length) c.length with d | ⟨d,d'⟩
    ·rw [d]
    ·omega
   ·rw [if_neg h3]
theorem Qm(AK:List (List (Int×Int)))(Ao AM:List Int)(left:Int)(h0:Lj AK)(h1:Ao.length<9223372036854775808)(h2:AM.length<9223372036854775808)(h3:0≤left∧left≤1048576):Y.call 5 [D.agg [D.sl 62 (A9 (fun x=>D.sl 84 (AO .i64 .i64 x)) AK),D.sl 3 (A9 (D.int .i64) Ao),D.sl 3 (A9 (D.int .i64) AM)],D.int .i64 left] []=some (D.int .i64 (fC left AK Ao AM),[]):=O1 AK Ao AM left (Ql AK Ao AM left h0 h1 h2 h3)
theorem gQ{a:List (List (Int×Int))}{b c:List Int}{left:Int}(hl:left≤1048576)(h: ¬fC left a b c<0):a.length+Aw (fE a)+b.length+c.length≤1048576∧BH a∧fC left a b c≤left:=by
 have ht:=B5 (fE a)
 have key:(a.length:Int)+Aw (fE a)+b.length+c.length≤1048576∧fC left a b c≤left:=by
  unfold fC at h ⊢
  rcases Eo left (a.length+Aw (fE a))with d | ⟨d,d'⟩
  ·rw [d]at h;simp at h
  ·rw [d,if_neg (by omega)]at h
   rw [d,if_neg (by omega)]
   rcases Eo (left-(a.length+Aw (fE a))) b.length with e | ⟨e,e'⟩
   ·rw [e]at h;simp at h
   ·rw [e,if_neg (by omega)]at h
    rw [e,if_neg (by omega)]
    rcases Eo (left-(a.length+Aw (fE a))-b.length) c.length with g | ⟨g,g'⟩
    ·rw [g]at h;simp at h
    ·rw [g];omega
 refine⟨key.1,⟨by omega,fun x hx=> ?_⟩,key.2⟩
 have:x.map Prod.fst∈fE a:=List.mem_map.2 ⟨x,hx,rfl⟩
 have:=ZH this
 rw [List.length_map]at this
 omega
theorem dp{l:List (List (Int×Int))}(h:YP l):Lj l:=⟨Nat.lt_of_le_of_lt h.1 (by decide),fun x hx=>Nat.lt_of_le_of_lt (h.2 x hx).1 (by decide)⟩
end Go.Proofs.YtipfckompmhljaaGreat
