/- Copies, comparisons, sizes and marks of numbers in lists, as plain functions. Conditions: the lists are short. -/
import Derived.Test.YtipfckompmhljaaGreatL6
import Derived.Test.YtipfckompmhljaaGreatDt
namespace Go.Proofs.YtipfckompmhljaaGreat
open Go Dv
set_option linter.unusedSimpArgs false
set_option linter.unusedVariables false
set_option maxRecDepth 100000
set_option maxHeartbeats 4000000
def Ab(l:List (List Int)):Prop:=l.length<1099511627776∧ ∀x∈l,x.length<1099511627776
theorem Ab.nil:Ab []:=⟨by decide,fun _ h=>by cases h⟩
theorem Ab.at{l:List (List Int)}(h:Ab l)(i:Nat)(hi:i<l.length):l[i].length<1099511627776:=h.2 _ (List.getElem_mem hi)
instance (l:List (List Int)):Decidable (Ab l):=by unfold Ab;infer_instance
theorem PC{α:Type}[Inhabited α](xs:List α)(i:Nat)(h:i<xs.length)(z:α):(xs.take i++List.replicate (xs.length-i) z).set i xs[i]=xs.take (i+1)++List.replicate (xs.length-(i+1)) z:=by
 have e:xs.length-i=(xs.length-(i+1))+1:=by omega
 rw [e,List.replicate_succ,List.set_append_right _ _ (by simp;omega),List.take_succ_eq_append_getElem h]
 have:i-(xs.take i).length=0:=by simp;omega
 rw [this,List.set_cons_zero,List.append_assoc];rfl
noncomputable def Ej(a out:List Int)(i:Int):Option (((List Int)×Int)⊕((List Int))):=
 if i<(a.length:Int)then
  ck (0≤i∧i.toNat<a.length)<|
  ck (0≤i∧i.toNat<out.length)<|
  some (Sum.inl ((out.set i.toNat (a.getD i.toNat default)),IntKind.i64.wrap (i+1)))
 else
  some (Sum.inr out)
noncomputable def Im(a:List Int)(v:(List Int)×Int):Option ((List Int)):=DT (fun v=>Ej a v.1 v.2) v
noncomputable def Mm(a:List Int):Option ((List Int)):=
 ck (0≤(a.length:Int)∧(a.length:Int)<1099511627776)<|
 (Im a ((List.replicate a.length 0),0)).bind fun FF=>
 some FF
def TV:SC:=
 .seq
 (.seq
 (.ops [
 ⟨some 8, .move (.tmp 4),3,none⟩,
 ⟨some 9, .move (.tmp 0),26,none⟩,
 ⟨some 10, .call ⟨(.builtin .len), #[(.tmp 9)], #[26]⟩,3,none⟩,
 ⟨some 11, .binOp .lss 3 (.tmp 8) (.tmp 10) 3,4,none⟩])
 (.cond (.tmp 11)
 .skip
 (.exit 0)))
 (.seq
 (.block 1
 (.ops [
 ⟨some 14, .move (.tmp 3),26,none⟩,
 ⟨some 15, .move (.tmp 4),3,none⟩,
 ⟨some 16, .move (.tmp 0),26,none⟩,
 ⟨some 17, .move (.tmp 4),3,none⟩,
 ⟨some 18, .indexAddr 26 (.tmp 16) (.tmp 17),0,none⟩,
 ⟨some 19, .load 3 (.tmp 18),3,none⟩,
 ⟨some 20, .indexAddr 26 (.tmp 14) (.tmp 15),0,none⟩,
 ⟨none, .store 3 (.tmp 20) (.tmp 19),0,none⟩]))
 (.ops [
 ⟨some 12, .move (.tmp 4),3,none⟩,
 ⟨some 13, .binOp .add 3 (.tmp 12) (.const (.int .i64 1)) 3,3,none⟩,
 ⟨some 4, .assign (.tmp 13),3,none⟩]))
def cr:SC:= .loop TV
def k25:SC:=
 .seq
 (.ops [
 ⟨some 2, .assign (.const (.slice none 0 0)),26,none⟩])
 (.seq
 (.ops [
 ⟨some 5, .move (.tmp 0),26,none⟩,
 ⟨some 6, .call ⟨(.builtin .len), #[(.tmp 5)], #[26]⟩,3,none⟩,
 ⟨some 7, .makeSlice 26 (.tmp 6) (.tmp 6),26,none⟩,
 ⟨some 3, .assign (.tmp 7),26,none⟩])
 (.seq
 (.seq
 (.ops [
 ⟨some 4, .assign (.const (.int .i64 0)),3,none⟩])
 (.block 0
 cr))
 (.seq
 (.ops [
 ⟨some 21, .move (.tmp 3),26,none⟩,
 ⟨some 2, .assign (.tmp 21),26,none⟩])
 .ret)))
theorem lf:Tryz.f25.body.map (Am lends)=some k25:=by kernel_rfl
theorem A2h:As Tryz.f25 1=true:=by kernel_rfl
theorem c25{a l:List D}{r:D×List D}(h:Av Y.env k25 (fin AJ l.length [ResultVar.tmp 2] r) (entry a l))(ha:a.length=1):Y.call 25 a l=some r:=
 AC (Y:=Y) rfl Tryz.func25 (ha▸A2h) lf h
def Ek(a out:List Int)(i:Int)(s:St):Prop:=s.v 0=D.sl 3 (A9 (D.int .i64) a)∧s.v 3=D.own 3 (A9 (D.int .i64) out)∧s.v 4=D.int .i64 i
def HK(a:List Int)(r:(List Int))(ex:Ex)(s:St):Prop:=ex= .exit 0∧s.v 3=D.own 3 (A9 (D.int .i64) r)
theorem QE(a:List Int){v:(List Int)×Int}{s:St}{r:(List Int)}(h:Im a v=some r)(hM:Ek a v.1 v.2 s):Av Y.env cr (HK a r) s:=by
 unfold Im at h
 refine Aa (c:=TV) (fun v=>Ej a v.1 v.2) (fun v s=>Ek a v.1 v.2 s) (HK a) ?_ h hM
 clear h hM s v r
 intro v s o hM h
 obtain⟨out,i⟩:=v
 dsimp only at h hM
 unfold Ej at h
 unfold Ek at hM
 obtain⟨m0,m1,m2⟩:=hM
 unfold TV
 by_cases e2:i<(a.length:Int)
 ·rw [if_pos e2]at h
  obtain⟨e3,h⟩:=Ae h
  obtain⟨e4,h⟩:=Ae h
  cases h
  simp (maxDischargeDepth:=9) only [↓A8,A1,AE,A6,AA,↓reduceIte,Nat.reduceEqDiff,Nat.reduceLT,m0,m1,m2,e2,e3.1,e3.2,e4.2,Ek,Ei]
 ·rw [if_neg e2]at h
  cases h
  simp (maxDischargeDepth:=9) only [↓A8,A1,AE,AA,↓reduceIte,Nat.reduceEqDiff,Nat.reduceLT,m0,m1,m2,e2,Ek,HK,Ge]
theorem RS(a:List Int){r:(List Int)}(h:Mm a=some r):Y.call 25 [D.sl 3 (A9 (D.int .i64) a)] []=some (D.own 3 (A9 (D.int .i64) r),[]):=by
 refine c25 ?_ rfl
 unfold k25
 unfold Mm at h
 obtain⟨e1,h⟩:=Ae h
 obtain⟨FF,hl3,h⟩:=AL h
 try dsimp only at h
 simp (maxDischargeDepth:=9) only [↓A8,A1,AE,A6,AA,↓reduceIte,Nat.reduceEqDiff,Nat.reduceLT,Nat.reduceLeDiff,e1.1,e1.2]
 refine AP (QE a hl3 ?_) ?_
 ·simp (maxDischargeDepth:=9) only [A1,A6,↓reduceIte,Nat.reduceEqDiff,Nat.reduceLT,Ek]
 ·intro ex3 s3 hX3
  unfold HK at hX3
  obtain⟨rfl,n3_0⟩:=hX3
  cases h
  simp (maxDischargeDepth:=9) only [↓A8,A1,AE,A6,↓reduceIte,Nat.reduceEqDiff,Nat.reduceLT,n3_0]
theorem We(a:List Int)(h:a.length<1099511627776):Mm a=some a:=by
 have key:=CD (fun v=>Ej a v.1 v.2) (fun i=>(a.take i++List.replicate (a.length-i) 0,(i:Int))) a.length a ?_ ?_
 ·unfold Mm Im
  rw [Ac (by omega)]
  simp only [List.take_zero,List.nil_append,Nat.sub_zero,Int.natCast_zero]at key
  rw [key];rfl
 ·intro i hi
  simp only [Ej]
  rw [if_pos (Ak hi),Ac (BS hi),Ac (BS (by simp;omega)),D4 _ _ hi,Int.toNat_natCast,PC a i hi 0,Gm i (by omega)]
 ·simp only [Ej]
  rw [if_neg (AH _)];simp
theorem Ko(a:List Int)(h0:a.length<1099511627776):Y.call 25 [D.sl 3 (A9 (D.int .i64) a)] []=some (D.own 3 (A9 (D.int .i64) a),[]):=RS a (We a h0)
noncomputable def De(a out:List (List Int))(i:Int):Option (((List (List Int))×Int)⊕((List (List Int)))):=
 if i<(a.length:Int)then
  ck (0≤i∧i.toNat<a.length)<|
  ck ((a.getD i.toNat default).length<1099511627776)<|
  ck (0≤i∧i.toNat<out.length)<|
  some (Sum.inl ((out.set i.toNat (a.getD i.toNat default)),IntKind.i64.wrap (i+1)))
 else
  some (Sum.inr out)
noncomputable def Hy(a:List (List Int))(v:(List (List Int))×Int):Option ((List (List Int))):=DT (fun v=>De a v.1 v.2) v
noncomputable def LO(a:List (List Int)):Option ((List (List Int))):=
 ck (0≤(a.length:Int)∧(a.length:Int)<1099511627776)<|
 (Hy a ((List.replicate a.length []),0)).bind fun FF=>
 some FF
def TW:SC:=
 .seq
 (.seq
 (.ops [
 ⟨some 8, .move (.tmp 4),3,none⟩,
 ⟨some 9, .move (.tmp 0),22,none⟩,
 ⟨some 10, .call ⟨(.builtin .len), #[(.tmp 9)], #[22]⟩,3,none⟩,
 ⟨some 11, .binOp .lss 3 (.tmp 8) (.tmp 10) 3,4,none⟩])
 (.cond (.tmp 11)
 .skip
 (.exit 0)))
 (.seq
 (.block 1
 (.ops [
 ⟨some 14, .move (.tmp 3),22,none⟩,
 ⟨some 15, .move (.tmp 4),3,none⟩,
 ⟨some 16, .move (.tmp 0),22,none⟩,
 ⟨some 17, .move (.tmp 4),3,none⟩,
 ⟨some 18, .indexAddr 22 (.tmp 16) (.tmp 17),0,none⟩,
 ⟨some 19, .load 26 (.tmp 18),26,none⟩,
 ⟨some 20, .call ⟨(.value (.func 25)), #[(.tmp 19)], #[26]⟩,26,none⟩,
 ⟨some 21, .indexAddr 22 (.tmp 14) (.tmp 15),0,none⟩,
 ⟨none, .store 26 (.tmp 21) (.tmp 20),0,none⟩]))
 (.ops [
 ⟨some 12, .move (.tmp 4),3,none⟩,
 ⟨some 13, .binOp .add 3 (.tmp 12) (.const (.int .i64 1)) 3,3,none⟩,
 ⟨some 4, .assign (.tmp 13),3,none⟩]))
def ct:SC:= .loop TW
def k23:SC:=
 .seq
 (.ops [
 ⟨some 2, .assign (.const (.slice none 0 0)),22,none⟩])
 (.seq
 (.ops [
 ⟨some 5, .move (.tmp 0),22,none⟩,
 ⟨some 6, .call ⟨(.builtin .len), #[(.tmp 5)], #[22]⟩,3,none⟩,
 ⟨some 7, .makeSlice 22 (.tmp 6) (.tmp 6),22,none⟩,
 ⟨some 3, .assign (.tmp 7),22,none⟩])
 (.seq
 (.seq
 (.ops [
 ⟨some 4, .assign (.const (.int .i64 0)),3,none⟩])
 (.block 0
 ct))
 (.seq
 (.ops [
 ⟨some 22, .move (.tmp 3),22,none⟩,
 ⟨some 2, .assign (.tmp 22),22,none⟩])
 .ret)))
theorem lg:Tryz.f23.body.map (Am lends)=some k23:=by kernel_rfl
theorem A2j:As Tryz.f23 1=true:=by kernel_rfl
theorem c23{a l:List D}{r:D×List D}(h:Av Y.env k23 (fin AJ l.length [ResultVar.tmp 2] r) (entry a l))(ha:a.length=1):Y.call 23 a l=some r:=
 AC (Y:=Y) rfl Tryz.func23 (ha▸A2j) lg h
def Df(a out:List (List Int))(i:Int)(s:St):Prop:=s.v 0=D.sl 26 (A9 (fun x=>D.sl 3 (A9 (D.int .i64) x)) a)∧s.v 3=D.own 26 (A9 (fun x=>D.own 3 (A9 (D.int .i64) x)) out)∧s.v 4=D.int .i64 i
def Gw(a:List (List Int))(r:(List (List Int)))(ex:Ex)(s:St):Prop:=ex= .exit 0∧s.v 3=D.own 26 (A9 (fun x=>D.own 3 (A9 (D.int .i64) x)) r)
theorem Od(a:List (List Int)){v:(List (List Int))×Int}{s:St}{r:(List (List Int))}(h:Hy a v=some r)(hM:Df a v.1 v.2 s):Av Y.env ct (Gw a r) s:=by
 unfold Hy at h
 refine Aa (c:=TW) (fun v=>De a v.1 v.2) (fun v s=>Df a v.1 v.2 s) (Gw a) ?_ h hM
 clear h hM s v r
 intro v s o hM h
 obtain⟨out,i⟩:=v
 dsimp only at h hM
 unfold De at h
 unfold Df at hM
 obtain⟨m0,m1,m2⟩:=hM
 unfold TW
 by_cases e2:i<(a.length:Int)
 ·rw [if_pos e2]at h
  obtain⟨e3,h⟩:=Ae h
  obtain⟨e4,h⟩:=Ae h
  have c5:=Ko (a.getD i.toNat default) e4
  obtain⟨e6,h⟩:=Ae h
  cases h
  simp (maxDischargeDepth:=9) only [↓A8,A1,AE,Ap,A6,AA,↓reduceIte,Nat.reduceEqDiff,Nat.reduceLT,Nat.reduceAdd,m0,m1,m2,e2,e3.1,e3.2,c5,e6.2,Df,Ei]
 ·rw [if_neg e2]at h
  cases h
  simp (maxDischargeDepth:=9) only [↓A8,A1,AE,AA,↓reduceIte,Nat.reduceEqDiff,Nat.reduceLT,m0,m1,m2,e2,Df,Gw,Ge]
theorem QF(a:List (List Int)){r:(List (List Int))}(h:LO a=some r):Y.call 23 [D.sl 26 (A9 (fun x=>D.sl 3 (A9 (D.int .i64) x)) a)] []=some (D.own 26 (A9 (fun x=>D.own 3 (A9 (D.int .i64) x)) r),[]):=by
 refine c23 ?_ rfl
 unfold k23
 unfold LO at h
 obtain⟨e1,h⟩:=Ae h
 obtain⟨FF,hl3,h⟩:=AL h
 try dsimp only at h
 simp (maxDischargeDepth:=9) only [↓A8,A1,AE,A6,AA,↓reduceIte,Nat.reduceEqDiff,Nat.reduceLT,Nat.reduceLeDiff,e1.1,e1.2]
 refine AP (Od a hl3 ?_) ?_
 ·simp (maxDischargeDepth:=9) only [A1,A6,↓reduceIte,Nat.reduceEqDiff,Nat.reduceLT,Df]
 ·intro ex3 s3 hX3
  unfold Gw at hX3
  obtain⟨rfl,n3_0⟩:=hX3
  cases h
  simp (maxDischargeDepth:=9) only [↓A8,A1,AE,A6,↓reduceIte,Nat.reduceEqDiff,Nat.reduceLT,n3_0]
theorem TX(a:List (List Int))(h:Ab a):LO a=some a:=by
 have h1:=h.1
 have key:=CD (fun v=>De a v.1 v.2) (fun i=>(a.take i++List.replicate (a.length-i) [],(i:Int))) a.length a ?_ ?_
 ·unfold LO Hy
  rw [Ac (by omega)]
  simp only [List.take_zero,List.nil_append,Nat.sub_zero,Int.natCast_zero]at key
  rw [key];rfl
 ·intro i hi
  simp only [De]
  rw [if_pos (Ak hi),Ac (BS hi),Ac (by rw [D4 _ _ hi];exact h.at i hi),Ac (BS (by simp;omega)),D4 _ _ hi,Int.toNat_natCast,PC a i hi [],Gm i (by omega)]
 ·simp only [De]
  rw [if_neg (AH _)];simp
theorem Mn(a:List (List Int))(h0:Ab a):Y.call 23 [D.sl 26 (A9 (fun x=>D.sl 3 (A9 (D.int .i64) x)) a)] []=some (D.own 26 (A9 (fun x=>D.own 3 (A9 (D.int .i64) x)) a),[]):=QF a (TX a h0)
noncomputable def El(a b:List Int)(i:Int):Option ((Int)⊕(Unit⊕Unit)):=
 if i<(a.length:Int)then
  ck (0≤i∧i.toNat<a.length)<|
  ck (0≤i∧i.toNat<b.length)<|
  if(a.getD i.toNat default)=(b.getD i.toNat default)then
   some (Sum.inl (IntKind.i64.wrap (i+1)))
  else
   some (Sum.inr (Sum.inl ()))
 else
  some (Sum.inr (Sum.inr ()))
noncomputable def Io(a b:List Int)(v:Int):Option (Unit⊕Unit):=DT (fun v=>El a b v) v
noncomputable def Mo(a b:List Int):Option (Bool):=
 if(a.length:Int)=(b.length:Int)then
  (Io a b 0).bind fun FF=>
  match FF with
  | .inl q3_=>
   some false
  | .inr q3_=>
   some true
 else
  some false
def TY:SC:=
 .seq
 (.seq
 (.ops [
 ⟨some 11, .move (.tmp 5),3,none⟩,
 ⟨some 12, .move (.tmp 0),26,none⟩,
 ⟨some 13, .call ⟨(.builtin .len), #[(.tmp 12)], #[26]⟩,3,none⟩,
 ⟨some 14, .binOp .lss 3 (.tmp 11) (.tmp 13) 3,4,none⟩])
 (.cond (.tmp 14)
 .skip
 (.exit 0)))
 (.seq
 (.block 1
 (.seq
 (.draws [
 (⟨[17,0,0],[17,18,19,20,21,22,23,24,25],[17]⟩,⟨some 17, .move (.tmp 0),26,none⟩),
 (⟨[18,5,5],[17,18,19,20,21,22,23,24,25],[18]⟩,⟨some 18, .move (.tmp 5),3,none⟩),
 (⟨[19,17,18,0,5],[17,18,19,20,21,22,23,24,25],[19]⟩,⟨some 19, .indexAddr 26 (.tmp 17) (.tmp 18),0,none⟩),
 (⟨[20,19,0],[17,18,19,20,21,22,23,24,25],[20]⟩,⟨some 20, .load 3 (.tmp 19),3,none⟩),
 (⟨[21,1,1],[17,18,19,20,21,22,23,24,25],[21]⟩,⟨some 21, .move (.tmp 1),26,none⟩),
 (⟨[22,5,5],[17,18,19,20,21,22,23,24,25],[22]⟩,⟨some 22, .move (.tmp 5),3,none⟩),
 (⟨[23,21,22,1,5],[17,18,19,20,21,22,23,24,25],[23]⟩,⟨some 23, .indexAddr 26 (.tmp 21) (.tmp 22),0,none⟩),
 (⟨[24,23,1],[17,18,19,20,21,22,23,24,25],[24]⟩,⟨some 24, .load 3 (.tmp 23),3,none⟩),
 (⟨[25,20,24,0,1],[17,18,19,20,21,22,23,24,25],[25]⟩,⟨some 25, .binOp .neq 3 (.tmp 20) (.tmp 24) 3,4,none⟩)])
 (.cond (.tmp 25)
 (.seq
 (.ops [
 ⟨some 4, .assign (.const (.bool false)),4,none⟩])
 .ret)
 .skip)))
 (.ops [
 ⟨some 15, .move (.tmp 5),3,none⟩,
 ⟨some 16, .binOp .add 3 (.tmp 15) (.const (.int .i64 1)) 3,3,none⟩,
 ⟨some 5, .assign (.tmp 16),3,none⟩]))
def cu:SC:= .loop TY
def k29:SC:=
 .seq
 (.ops [
 ⟨some 4, .assign (.const (.bool false)),4,none⟩])
 (.seq
 (.seq
 (.ops [
 ⟨some 6, .move (.tmp 0),26,none⟩,
 ⟨some 7, .call ⟨(.builtin .len), #[(.tmp 6)], #[26]⟩,3,none⟩,
 ⟨some 8, .move (.tmp 1),26,none⟩,
 ⟨some 9, .call ⟨(.builtin .len), #[(.tmp 8)], #[26]⟩,3,none⟩,
 ⟨some 10, .binOp .neq 3 (.tmp 7) (.tmp 9) 3,4,none⟩])
 (.cond (.tmp 10)
 (.seq
 (.ops [
 ⟨some 4, .assign (.const (.bool false)),4,none⟩])
 .ret)
 .skip))
 (.seq
 (.seq
 (.ops [
 ⟨some 5, .assign (.const (.int .i64 0)),3,none⟩])
 (.block 0
 cu))
 (.seq
 (.ops [
 ⟨some 4, .assign (.const (.bool true)),4,none⟩])
 .ret)))
theorem lh:Tryz.f29.body.map (Am lends)=some k29:=by kernel_rfl
theorem A2l:As Tryz.f29 2=true:=by kernel_rfl
theorem YT{a l:List D}{r:D×List D}(h:Av Y.env k29 (fin AJ l.length [ResultVar.tmp 4] r) (entry a l))(ha:a.length=2):Y.call 29 a l=some r:=
 AC (Y:=Y) rfl Tryz.func29 (ha▸A2l) lh h
def DH(a b:List Int)(i:Int)(s:St):Prop:=s.v 0=D.sl 3 (A9 (D.int .i64) a)∧s.v 1=D.sl 3 (A9 (D.int .i64) b)∧s.v 5=D.int .i64 i
def En(a b:List Int)(r:Unit⊕Unit)(ex:Ex)(s:St):Prop:=match r with
 | .inl q=>ex= .ret∧s.v 4=D.bool false
 | .inr q=>ex= .exit 0
theorem QG(a b:List Int){v:Int}{s:St}{r:Unit⊕Unit}(h:Io a b v=some r)(hM:DH a b v s):Av Y.env cu (En a b r) s:=by
 unfold Io at h
 refine Aa (c:=TY) (fun v=>El a b v) (fun v s=>DH a b v s) (En a b) ?_ h hM
 clear h hM s v r
 intro i s o hM h
 unfold El at h
 unfold DH at hM
 obtain⟨m0,m1,m2⟩:=hM
 unfold TY
 by_cases e2:i<(a.length:Int)
 ·rw [if_pos e2]at h
  obtain⟨e3,h⟩:=Ae h
  obtain⟨e4,h⟩:=Ae h
  by_cases e5:(a.getD i.toNat default)=(b.getD i.toNat default)
  ·rw [if_pos e5]at h
   cases h
   simp (maxDischargeDepth:=9) only [↓A8,A1,AE,A6,AA,↓reduceIte,Nat.reduceEqDiff,Nat.reduceLT,m0,m1,m2,e2,e3.1,e3.2,e4.2,decide_eq_true e5,DH,Ei]
  ·rw [if_neg e5]at h
   cases h
   simp (maxDischargeDepth:=9) only [↓A8,A1,AE,A6,AA,↓reduceIte,Nat.reduceEqDiff,Nat.reduceLT,m0,m1,m2,e2,e3.1,e3.2,e4.2,e5,DH,En,Ho]
 ·rw [if_neg e2]at h
  cases h
  simp (maxDischargeDepth:=9) only [↓A8,A1,AE,AA,↓reduceIte,Nat.reduceEqDiff,Nat.reduceLT,m0,m2,e2,DH,En,Ge]
theorem RT(a b:List Int){r:Bool}(h:Mo a b=some r):Y.call 29 [D.sl 3 (A9 (D.int .i64) a),D.sl 3 (A9 (D.int .i64) b)] []=some (D.bool r,[]):=by
 refine YT ?_ rfl
 unfold k29
 unfold Mo at h
 by_cases e1:(a.length:Int)=(b.length:Int)
 ·rw [if_pos e1]at h
  obtain⟨FF,hl3,h⟩:=AL h
  try dsimp only at h
  simp (maxDischargeDepth:=9) only [↓A8,A1,AE,A6,AA,↓reduceIte,Nat.reduceEqDiff,Nat.reduceLT,decide_eq_true e1]
  refine AP (QG a b hl3 ?_) ?_
  ·simp (maxDischargeDepth:=9) only [A1,A6,↓reduceIte,Nat.reduceEqDiff,Nat.reduceLT,DH]
  ·intro ex3 s3 hX3
   rcases FF with q3_ | q3_
   ·unfold En at hX3
    dsimp only at hX3 h
    obtain⟨rfl,n3_0⟩:=hX3
    cases h
    simp (maxDischargeDepth:=9) only [↓A8,A1,A6,↓reduceIte,n3_0]
   ·unfold En at hX3
    dsimp only at hX3 h
    obtain rfl:=hX3
    cases h
    simp (maxDischargeDepth:=9) only [↓A8,A1,A6,AA,↓reduceIte,Nat.reduceEqDiff,Nat.reduceLT]
 ·rw [if_neg e1]at h
  cases h
  simp (maxDischargeDepth:=9) only [↓A8,A1,AE,A6,AA,↓reduceIte,Nat.reduceEqDiff,Nat.reduceLT,e1]
theorem Wf(a b:List Int)(ha:a.length<1099511627776):Mo a b=some (decide (a=b)):=by
 unfold Mo Io
 by_cases hl:a.length=b.length
 ·rw [if_pos (by omega)]
  have key:=CE (fun v=>El a b v) (fun i=>(i:Int)) a.length (fun i=>decide (a.getD i default=b.getD i default)) (.inl ()) (.inr ()) ?_ ?_
  ·simp only [Int.natCast_zero]at key
   rw [key,Kl a b hl]
   by_cases he:a=b<;>simp [he]
  ·intro i hi
   simp only [El]
   rw [if_pos (Ak hi),Ac (BS hi),Ac (BS (by omega)),Int.toNat_natCast,Gm i (by omega)]<;>simp only [decide_eq_true_eq]
  ·simp only [El]
   rw [if_neg (AH _)]
 ·rw [if_neg (by omega)]
  have: ¬a=b:=fun e=>hl (by rw [e])
  simp [this]
theorem Kp(a b:List Int)(h0:a.length<1099511627776):Y.call 29 [D.sl 3 (A9 (D.int .i64) a),D.sl 3 (A9 (D.int .i64) b)] []=some (D.bool (decide (a=b)),[]):=RT a b (Wf a b h0)
noncomputable def Dg(a b:List (List Int))(i:Int):Option ((Int)⊕(Unit⊕Unit)):=
 if i<(a.length:Int)then
  ck (0≤i∧i.toNat<a.length)<|
  ck (0≤i∧i.toNat<b.length)<|
  ck ((a.getD i.toNat default).length<1099511627776)<|
  if(decide ((a.getD i.toNat default)=(b.getD i.toNat default)))=true then
   some (Sum.inl (IntKind.i64.wrap (i+1)))
  else
   some (Sum.inr (Sum.inl ()))
 else
  some (Sum.inr (Sum.inr ()))
noncomputable def Hz(a b:List (List Int))(v:Int):Option (Unit⊕Unit):=DT (fun v=>Dg a b v) v
noncomputable def LP(a b:List (List Int)):Option (Bool):=
 if(a.length:Int)=(b.length:Int)then
  (Hz a b 0).bind fun FF=>
  match FF with
  | .inl q3_=>
   some false
  | .inr q3_=>
   some true
 else
  some false
def TZ:SC:=
 .seq
 (.seq
 (.ops [
 ⟨some 11, .move (.tmp 5),3,none⟩,
 ⟨some 12, .move (.tmp 0),22,none⟩,
 ⟨some 13, .call ⟨(.builtin .len), #[(.tmp 12)], #[22]⟩,3,none⟩,
 ⟨some 14, .binOp .lss 3 (.tmp 11) (.tmp 13) 3,4,none⟩])
 (.cond (.tmp 14)
 .skip
 (.exit 0)))
 (.seq
 (.block 1
 (.seq
 (.draws [
 (⟨[17,0,0],[17,18,19,20,21,22,23,24,25,26],[17]⟩,⟨some 17, .move (.tmp 0),22,none⟩),
 (⟨[18,5,5],[17,18,19,20,21,22,23,24,25,26],[18]⟩,⟨some 18, .move (.tmp 5),3,none⟩),
 (⟨[19,17,18,0,5],[17,18,19,20,21,22,23,24,25,26],[19]⟩,⟨some 19, .indexAddr 22 (.tmp 17) (.tmp 18),0,none⟩),
 (⟨[20,19,0],[17,18,19,20,21,22,23,24,25,26],[20]⟩,⟨some 20, .load 26 (.tmp 19),26,none⟩),
 (⟨[21,1,1],[17,18,19,20,21,22,23,24,25,26],[21]⟩,⟨some 21, .move (.tmp 1),22,none⟩),
 (⟨[22,5,5],[17,18,19,20,21,22,23,24,25,26],[22]⟩,⟨some 22, .move (.tmp 5),3,none⟩),
 (⟨[23,21,22,1,5],[17,18,19,20,21,22,23,24,25,26],[23]⟩,⟨some 23, .indexAddr 22 (.tmp 21) (.tmp 22),0,none⟩),
 (⟨[24,23,1],[17,18,19,20,21,22,23,24,25,26],[24]⟩,⟨some 24, .load 26 (.tmp 23),26,none⟩),
 (⟨[25,20,24,0,1],[17,18,19,20,21,22,23,24,25,26],[25]⟩,⟨some 25, .call ⟨(.value (.func 29)), #[(.tmp 20),(.tmp 24)], #[26,26]⟩,4,none⟩),
 (⟨[26,25,25],[17,18,19,20,21,22,23,24,25,26],[26]⟩,⟨some 26, .unOp .not 4 (.tmp 25),4,none⟩)])
 (.cond (.tmp 26)
 (.seq
 (.ops [
 ⟨some 4, .assign (.const (.bool false)),4,none⟩])
 .ret)
 .skip)))
 (.ops [
 ⟨some 15, .move (.tmp 5),3,none⟩,
 ⟨some 16, .binOp .add 3 (.tmp 15) (.const (.int .i64 1)) 3,3,none⟩,
 ⟨some 5, .assign (.tmp 16),3,none⟩]))
def cv:SC:= .loop TZ
def k10:SC:=
 .seq
 (.ops [
 ⟨some 4, .assign (.const (.bool false)),4,none⟩])
 (.seq
 (.seq
 (.ops [
 ⟨some 6, .move (.tmp 0),22,none⟩,
 ⟨some 7, .call ⟨(.builtin .len), #[(.tmp 6)], #[22]⟩,3,none⟩,
 ⟨some 8, .move (.tmp 1),22,none⟩,
 ⟨some 9, .call ⟨(.builtin .len), #[(.tmp 8)], #[22]⟩,3,none⟩,
 ⟨some 10, .binOp .neq 3 (.tmp 7) (.tmp 9) 3,4,none⟩])
 (.cond (.tmp 10)
 (.seq
 (.ops [
 ⟨some 4, .assign (.const (.bool false)),4,none⟩])
 .ret)
 .skip))
 (.seq
 (.seq
 (.ops [
 ⟨some 5, .assign (.const (.int .i64 0)),3,none⟩])
 (.block 0
 cv))
 (.seq
 (.ops [
 ⟨some 4, .assign (.const (.bool true)),4,none⟩])
 .ret)))
theorem li:Tryz.f10.body.map (Am lends)=some k10:=by kernel_rfl
theorem A2n:As Tryz.f10 2=true:=by kernel_rfl
theorem OR{a l:List D}{r:D×List D}(h:Av Y.env k10 (fin AJ l.length [ResultVar.tmp 4] r) (entry a l))(ha:a.length=2):Y.call 10 a l=some r:=
 AC (Y:=Y) rfl Tryz.func10 (ha▸A2n) li h
def Cf(a b:List (List Int))(i:Int)(s:St):Prop:=s.v 0=D.sl 26 (A9 (fun x=>D.sl 3 (A9 (D.int .i64) x)) a)∧s.v 1=D.sl 26 (A9 (fun x=>D.sl 3 (A9 (D.int .i64) x)) b)∧s.v 5=D.int .i64 i
def Dh(a b:List (List Int))(r:Unit⊕Unit)(ex:Ex)(s:St):Prop:=match r with
 | .inl q=>ex= .ret∧s.v 4=D.bool false
 | .inr q=>ex= .exit 0
theorem Oe(a b:List (List Int)){v:Int}{s:St}{r:Unit⊕Unit}(h:Hz a b v=some r)(hM:Cf a b v s):Av Y.env cv (Dh a b r) s:=by
 unfold Hz at h
 refine Aa (c:=TZ) (fun v=>Dg a b v) (fun v s=>Cf a b v s) (Dh a b) ?_ h hM
 clear h hM s v r
 intro i s o hM h
 unfold Dg at h
 unfold Cf at hM
 obtain⟨m0,m1,m2⟩:=hM
 unfold TZ
 by_cases e2:i<(a.length:Int)
 ·rw [if_pos e2]at h
  obtain⟨e3,h⟩:=Ae h
  obtain⟨e4,h⟩:=Ae h
  obtain⟨e5,h⟩:=Ae h
  have c6:=Kp (a.getD i.toNat default) (b.getD i.toNat default) e5
  by_cases e7:(decide ((a.getD i.toNat default)=(b.getD i.toNat default)))=true
  ·rw [if_pos e7]at h
   cases h
   simp (maxDischargeDepth:=9) only [↓A8,A1,AE,Ap,A6,AA,↓reduceIte,Nat.reduceEqDiff,Nat.reduceLT,Nat.reduceAdd,m0,m1,m2,e2,e3.1,e3.2,e4.2,c6,e7,Cf,Ei]
  ·rw [if_neg e7]at h
   have e7f:(decide ((a.getD i.toNat default)=(b.getD i.toNat default)))=false:=Bool.eq_false_iff.mpr e7
   cases h
   simp (maxDischargeDepth:=9) only [↓A8,A1,AE,Ap,A6,AA,↓reduceIte,Nat.reduceEqDiff,Nat.reduceLT,Nat.reduceAdd,m0,m1,m2,e2,e3.1,e3.2,e4.2,c6,e7f,Cf,Dh,Ho]
 ·rw [if_neg e2]at h
  cases h
  simp (maxDischargeDepth:=9) only [↓A8,A1,AE,AA,↓reduceIte,Nat.reduceEqDiff,Nat.reduceLT,m0,m2,e2,Cf,Dh,Ge]
theorem QH(a b:List (List Int)){r:Bool}(h:LP a b=some r):Y.call 10 [D.sl 26 (A9 (fun x=>D.sl 3 (A9 (D.int .i64) x)) a),D.sl 26 (A9 (fun x=>D.sl 3 (A9 (D.int .i64) x)) b)] []=some (D.bool r,[]):=by
 refine OR ?_ rfl
 unfold k10
 unfold LP at h
 by_cases e1:(a.length:Int)=(b.length:Int)
 ·rw [if_pos e1]at h
  obtain⟨FF,hl3,h⟩:=AL h
  try dsimp only at h
  simp (maxDischargeDepth:=9) only [↓A8,A1,AE,A6,AA,↓reduceIte,Nat.reduceEqDiff,Nat.reduceLT,decide_eq_true e1]
  refine AP (Oe a b hl3 ?_) ?_
  ·simp (maxDischargeDepth:=9) only [A1,A6,↓reduceIte,Nat.reduceEqDiff,Nat.reduceLT,Cf]
  ·intro ex3 s3 hX3
   rcases FF with q3_ | q3_
   ·unfold Dh at hX3
    dsimp only at hX3 h
    obtain⟨rfl,n3_0⟩:=hX3
    cases h
    simp (maxDischargeDepth:=9) only [↓A8,A1,A6,↓reduceIte,n3_0]
   ·unfold Dh at hX3
    dsimp only at hX3 h
    obtain rfl:=hX3
    cases h
    simp (maxDischargeDepth:=9) only [↓A8,A1,A6,AA,↓reduceIte,Nat.reduceEqDiff,Nat.reduceLT]
 ·rw [if_neg e1]at h
  cases h
  simp (maxDischargeDepth:=9) only [↓A8,A1,AE,A6,AA,↓reduceIte,Nat.reduceEqDiff,Nat.reduceLT,e1]
theorem Ta(a b:List (List Int))(ha:Ab a):LP a b=some (decide (a=b)):=by
 have h1:=ha.1
 unfold LP Hz
 by_cases hl:a.length=b.length
 ·rw [if_pos (by omega)]
  have key:=CE (fun v=>Dg a b v) (fun i=>(i:Int)) a.length (fun i=>decide (a.getD i default=b.getD i default)) (.inl ()) (.inr ()) ?_ ?_
  ·simp only [Int.natCast_zero]at key
   rw [key,Kl a b hl]
   by_cases he:a=b<;>simp [he]
  ·intro i hi
   simp only [Dg]
   rw [if_pos (Ak hi),Ac (BS hi),Ac (BS (by omega)),Ac (by rw [D4 _ _ hi];exact ha.at i hi),Int.toNat_natCast,Gm i (by omega)]<;>simp only [decide_eq_true_eq]
  ·simp only [Dg]
   rw [if_neg (AH _)]
 ·rw [if_neg (by omega)]
  have: ¬a=b:=fun e=>hl (by rw [e])
  simp [this]
theorem EF(a b:List (List Int))(h0:Ab a):Y.call 10 [D.sl 26 (A9 (fun x=>D.sl 3 (A9 (D.int .i64) x)) a),D.sl 26 (A9 (fun x=>D.sl 3 (A9 (D.int .i64) x)) b)] []=some (D.bool (decide (a=b)),[]):=QH a b (Ta a b h0)
def CK(left n:Int):Int:=if left-n<0 then-1 else left-n
theorem Eo(left n:Int):CK left n= -1∨(CK left n=left-n∧0≤left-n):=by unfold CK;split<;>omega
def Aw(l:List (List Int)):Int:=(l.map fun xs=>(xs.length:Int)).sum
theorem Jw:Aw []=0:=rfl
theorem GK(x:List Int)(l:List (List Int)):Aw (x::l)=x.length+Aw l:=rfl
theorem B5(l:List (List Int)):0≤Aw l:=by
 induction l with
 | nil=>rw [Jw];omega
 | cons x l ih=>rw [GK];omega
theorem ZH{l:List (List Int)}{x:List Int}(h:x∈l):(x.length:Int)≤Aw l:=by
 induction l with
 | nil=>cases h
 | cons y l ih=>
  rw [GK]
  have:=B5 l
  rcases List.mem_cons.1 h with rfl | h
  ·omega
  ·have:=ih h;omega
theorem Se{l:List (List Int)}(h:l.length+Aw l<1099511627776):Ab l:=by
 have:=B5 l
 exact⟨by omega,fun x hx=>by have:=ZH hx;omega⟩
noncomputable def Mp(a:List Int)(left:Int):Option (Int):=
 if(IntKind.i64.wrap (left-(a.length:Int)))<0 then
  some (-1)
 else
  some (IntKind.i64.wrap (left-(a.length:Int)))
def k19:SC:=
 .seq
 (.ops [
 ⟨some 4, .assign (.const (.int .i64 0)),3,none⟩])
 (.seq
 (.ops [
 ⟨some 5, .move (.tmp 1),3,none⟩,
 ⟨some 6, .move (.tmp 0),26,none⟩,
 ⟨some 7, .call ⟨(.builtin .len), #[(.tmp 6)], #[26]⟩,3,none⟩,
 ⟨some 8, .binOp .sub 3 (.tmp 5) (.tmp 7) 3,3,none⟩,
 ⟨some 1, .assign (.tmp 8),3,none⟩])
 (.seq
 (.seq
 (.ops [
 ⟨some 9, .move (.tmp 1),3,none⟩,
 ⟨some 10, .binOp .lss 3 (.tmp 9) (.const (.int .i64 0)) 3,4,none⟩])
 (.cond (.tmp 10)
 (.seq
 (.ops [
 ⟨some 4, .assign (.const (.int .i64 (-1))),3,none⟩])
 .ret)
 .skip))
 (.seq
 (.ops [
 ⟨some 11, .move (.tmp 1),3,none⟩,
 ⟨some 4, .assign (.tmp 11),3,none⟩])
 .ret)))
theorem lj:Tryz.f19.body.map (Am lends)=some k19:=by kernel_rfl
theorem A2p:As Tryz.f19 2=true:=by kernel_rfl
theorem Wg{a l:List D}{r:D×List D}(h:Av Y.env k19 (fin AJ l.length [ResultVar.tmp 4] r) (entry a l))(ha:a.length=2):Y.call 19 a l=some r:=
 AC (Y:=Y) rfl Tryz.func19 (ha▸A2p) lj h
theorem RU(a:List Int)(left:Int){r:Int}(h:Mp a left=some r):Y.call 19 [D.sl 3 (A9 (D.int .i64) a),D.int .i64 left] []=some (D.int .i64 r,[]):=by
 refine Wg ?_ rfl
 unfold k19
 unfold Mp at h
 by_cases e1:(IntKind.i64.wrap (left-(a.length:Int)))<0
 ·rw [if_pos e1]at h
  cases h
  simp (maxDischargeDepth:=9) only [↓A8,A1,AE,A6,AA,↓reduceIte,Nat.reduceEqDiff,Nat.reduceLT,Int.reduceNeg,e1]
 ·rw [if_neg e1]at h
  cases h
  simp (maxDischargeDepth:=9) only [↓A8,A1,AE,A6,AA,↓reduceIte,Nat.reduceEqDiff,Nat.reduceLT,Int.reduceNeg,e1]
theorem Wh(a:List Int)(left:Int)(ha:a.length<9223372036854775808)(hl:0≤left∧left≤1048576):Mp a left=some (CK left a.length):=by
 unfold Mp CK
 rw [Gl _ (by omega)]
 split<;>rfl
theorem Kq(a:List Int)(left:Int)(h0:a.length<9223372036854775808)(h1:0≤left∧left≤1048576):Y.call 19 [D.sl 3 (A9 (D.int .i64) a),D.int .i64 left] []=some (D.int .i64 (CK left a.length),[]):=RU a left (Wh a left h0 h1)
noncomputable def Di(a:List (List Int))(left1 i:Int):Option ((Int×Int)⊕(Unit⊕Int)):=
 if i<(a.length:Int)then
  ck (0≤i∧i.toNat<a.length)<|
  ck ((a.getD i.toNat default).length<9223372036854775808)<|
  ck (0≤left1∧left1≤1048576)<|
  if(CK left1 (a.getD i.toNat default).length)<0 then
   some (Sum.inr (Sum.inl ()))
  else
   some (Sum.inl ((CK left1 (a.getD i.toNat default).length),IntKind.i64.wrap (i+1)))
 else
  some (Sum.inr (Sum.inr left1))
noncomputable def EG(a:List (List Int))(v:Int×Int):Option (Unit⊕Int):=DT (fun v=>Di a v.1 v.2) v
noncomputable def JR(a:List (List Int))(left:Int):Option (Int):=
 if(IntKind.i64.wrap (left-(a.length:Int)))<0 then
  some (-1)
 else
  (EG a (IntKind.i64.wrap (left-(a.length:Int)),0)).bind fun FF=>
  match FF with
  | .inl q3_=>
   some (-1)
  | .inr q3_=>
   some q3_
def Tb:SC:=
 .seq
 (.seq
 (.ops [
 ⟨some 12, .move (.tmp 5),3,none⟩,
 ⟨some 13, .move (.tmp 0),22,none⟩,
 ⟨some 14, .call ⟨(.builtin .len), #[(.tmp 13)], #[22]⟩,3,none⟩,
 ⟨some 15, .binOp .lss 3 (.tmp 12) (.tmp 14) 3,4,none⟩])
 (.cond (.tmp 15)
 .skip
 (.exit 0)))
 (.seq
 (.block 1
 (.seq
 (.ops [
 ⟨some 18, .move (.tmp 0),22,none⟩,
 ⟨some 19, .move (.tmp 5),3,none⟩,
 ⟨some 20, .indexAddr 22 (.tmp 18) (.tmp 19),0,none⟩,
 ⟨some 21, .load 26 (.tmp 20),26,none⟩,
 ⟨some 22, .move (.tmp 1),3,none⟩,
 ⟨some 23, .call ⟨(.value (.func 19)), #[(.tmp 21),(.tmp 22)], #[26,3]⟩,3,none⟩,
 ⟨some 1, .assign (.tmp 23),3,none⟩])
 (.seq
 (.ops [
 ⟨some 24, .move (.tmp 1),3,none⟩,
 ⟨some 25, .binOp .lss 3 (.tmp 24) (.const (.int .i64 0)) 3,4,none⟩])
 (.cond (.tmp 25)
 (.seq
 (.ops [
 ⟨some 4, .assign (.const (.int .i64 (-1))),3,none⟩])
 .ret)
 .skip))))
 (.ops [
 ⟨some 16, .move (.tmp 5),3,none⟩,
 ⟨some 17, .binOp .add 3 (.tmp 16) (.const (.int .i64 1)) 3,3,none⟩,
 ⟨some 5, .assign (.tmp 17),3,none⟩]))
def cw:SC:= .loop Tb
def k17:SC:=
 .seq
 (.ops [
 ⟨some 4, .assign (.const (.int .i64 0)),3,none⟩])
 (.seq
 (.ops [
 ⟨some 6, .move (.tmp 1),3,none⟩,
 ⟨some 7, .move (.tmp 0),22,none⟩,
 ⟨some 8, .call ⟨(.builtin .len), #[(.tmp 7)], #[22]⟩,3,none⟩,
 ⟨some 9, .binOp .sub 3 (.tmp 6) (.tmp 8) 3,3,none⟩,
 ⟨some 1, .assign (.tmp 9),3,none⟩])
 (.seq
 (.seq
 (.ops [
 ⟨some 10, .move (.tmp 1),3,none⟩,
 ⟨some 11, .binOp .lss 3 (.tmp 10) (.const (.int .i64 0)) 3,4,none⟩])
 (.cond (.tmp 11)
 (.seq
 (.ops [
 ⟨some 4, .assign (.const (.int .i64 (-1))),3,none⟩])
 .ret)
 .skip))
 (.seq
 (.seq
 (.ops [
 ⟨some 5, .assign (.const (.int .i64 0)),3,none⟩])
 (.block 0
 cw))
 (.seq
 (.ops [
 ⟨some 26, .move (.tmp 1),3,none⟩,
 ⟨some 4, .assign (.tmp 26),3,none⟩])
 .ret))))
theorem lk:Tryz.f17.body.map (Am lends)=some k17:=by kernel_rfl
theorem A2r:As Tryz.f17 2=true:=by kernel_rfl
theorem c17{a l:List D}{r:D×List D}(h:Av Y.env k17 (fin AJ l.length [ResultVar.tmp 4] r) (entry a l))(ha:a.length=2):Y.call 17 a l=some r:=
 AC (Y:=Y) rfl Tryz.func17 (ha▸A2r) lk h
def Cg(a:List (List Int))(left1 i:Int)(s:St):Prop:=s.v 0=D.sl 26 (A9 (fun x=>D.sl 3 (A9 (D.int .i64) x)) a)∧s.v 1=D.int .i64 left1∧s.v 5=D.int .i64 i
def Dj(a:List (List Int))(r:Unit⊕Int)(ex:Ex)(s:St):Prop:=match r with
 | .inl q=>ex= .ret∧s.v 4=D.int .i64 (-1)
 | .inr q=>ex= .exit 0∧s.v 1=D.int .i64 q
theorem Of(a:List (List Int)){v:Int×Int}{s:St}{r:Unit⊕Int}(h:EG a v=some r)(hM:Cg a v.1 v.2 s):Av Y.env cw (Dj a r) s:=by
 unfold EG at h
 refine Aa (c:=Tb) (fun v=>Di a v.1 v.2) (fun v s=>Cg a v.1 v.2 s) (Dj a) ?_ h hM
 clear h hM s v r
 intro v s o hM h
 obtain⟨left1,i⟩:=v
 dsimp only at h hM
 unfold Di at h
 unfold Cg at hM
 obtain⟨m0,m1,m2⟩:=hM
 unfold Tb
 by_cases e2:i<(a.length:Int)
 ·rw [if_pos e2]at h
  obtain⟨e3,h⟩:=Ae h
  obtain⟨e4,h⟩:=Ae h
  obtain⟨e5,h⟩:=Ae h
  have c6:=Kq (a.getD i.toNat default) left1 e4 e5
  by_cases e7:(CK left1 (a.getD i.toNat default).length)<0
  ·rw [if_pos e7]at h
   cases h
   simp (maxDischargeDepth:=9) only [↓A8,A1,AE,Ap,A6,AA,↓reduceIte,Nat.reduceEqDiff,Nat.reduceLT,Nat.reduceAdd,Int.reduceNeg,m0,m1,m2,e2,e3.1,e3.2,c6,e7,Cg,Dj,Ho]
  ·rw [if_neg e7]at h
   cases h
   simp (maxDischargeDepth:=9) only [↓A8,A1,AE,Ap,A6,AA,↓reduceIte,Nat.reduceEqDiff,Nat.reduceLT,Nat.reduceAdd,Int.reduceNeg,m0,m1,m2,e2,e3.1,e3.2,c6,e7,Cg,Ei]
 ·rw [if_neg e2]at h
  cases h
  simp (maxDischargeDepth:=9) only [↓A8,A1,AE,AA,↓reduceIte,Nat.reduceEqDiff,Nat.reduceLT,Int.reduceNeg,m0,m1,m2,e2,Cg,Dj,Ge]
theorem QI(a:List (List Int))(left:Int){r:Int}(h:JR a left=some r):Y.call 17 [D.sl 26 (A9 (fun x=>D.sl 3 (A9 (D.int .i64) x)) a),D.int .i64 left] []=some (D.int .i64 r,[]):=by
 refine c17 ?_ rfl
 unfold k17
 unfold JR at h
 by_cases e1:(IntKind.i64.wrap (left-(a.length:Int)))<0
 ·rw [if_pos e1]at h
  cases h
  simp (maxDischargeDepth:=9) only [↓A8,A1,AE,A6,AA,↓reduceIte,Nat.reduceEqDiff,Nat.reduceLT,Int.reduceNeg,e1]
 ·rw [if_neg e1]at h
  obtain⟨FF,hl3,h⟩:=AL h
  try dsimp only at h
  simp (maxDischargeDepth:=9) only [↓A8,A1,AE,A6,AA,↓reduceIte,Nat.reduceEqDiff,Nat.reduceLT,Int.reduceNeg,e1]
  refine AP (Of a hl3 ?_) ?_
  ·simp (maxDischargeDepth:=9) only [A1,A6,↓reduceIte,Nat.reduceEqDiff,Nat.reduceLT,Cg]
  ·intro ex3 s3 hX3
   rcases FF with q3_ | q3_
   ·unfold Dj at hX3
    dsimp only at hX3 h
    obtain⟨rfl,n3_0⟩:=hX3
    cases h
    simp (maxDischargeDepth:=9) only [↓A8,A1,A6,↓reduceIte,Int.reduceNeg,n3_0]
   ·unfold Dj at hX3
    dsimp only at hX3 h
    obtain⟨rfl,n3_0⟩:=hX3
    cases h
    simp (maxDischargeDepth:=9) only [↓A8,A1,A6,↓reduceIte,Nat.reduceEqDiff,Nat.reduceLT,n3_0]
def ay:Int→List (List Int)→Int
 | left,[]=>left
 | left,x::l=>if left-x.length<0 then-1 else ay (left-x.length) l
theorem cx(l:List (List Int)): ∀(left:Int),0≤left→ay left l=CK left (Aw l):=by
 induction l with
 | nil=>intro left h;unfold ay CK;rw [Jw,if_neg (by omega)];omega
 | cons x l ih=>
  intro left h
  have:=B5 l
  unfold ay
  by_cases hq:left-x.length<0
  ·rw [if_pos hq];unfold CK;rw [GK,if_pos (by omega)]
  ·rw [if_neg hq,ih _ (by omega)]
   unfold CK
   rw [GK]
   by_cases hr:left-x.length-Aw l<0
   ·rw [if_pos hr,if_pos (by omega)]
   ·rw [if_neg hr,if_neg (by omega)];omega
theorem Og(a:List (List Int))(ha:a.length<4611686018427387904)(hx: ∀x∈a,x.length<9223372036854775808): ∀(n i:Nat) (left:Int),n=a.length-i→i≤a.length→0≤left∧left≤1048576→
  EG a (left,(i:Int))=some (if ay left (a.drop i)= -1 then .inl ()else .inr (ay left (a.drop i))):=by
 intro n
 induction n with
 | zero=>
  intro i left hn hi hl
  have e:i=a.length:=by omega
  subst e
  unfold EG
  rw [C5 (r:=Sum.inr left)]
  ·rw [List.drop_length];unfold ay;rw [if_neg (by omega)]
  ·simp only [Di];rw [if_neg (AH _)]
 | succ n ih=>
  intro i left hn hi hl
  have hlt:i<a.length:=by omega
  have hm:a[i]∈a:=List.getElem_mem hlt
  have hxm:=hx _ hm
  have step:Di a left i=if CK left a[i].length<0 then some (Sum.inr (Sum.inl ()))else some (Sum.inl (CK left a[i].length,((i+1:Nat):Int))):=by
   unfold Di
   rw [if_pos (Ak hlt),Ac (BS hlt),Ac (by rw [D4 _ _ hlt];exact hxm),Ac hl,D4 _ _ hlt,Gm i (by omega)]
  rw [List.drop_eq_getElem_cons hlt]
  unfold ay
  by_cases hq:left-(a[i].length:Int)<0
  ·rw [if_pos hq]
   unfold EG
   rw [C5 (r:=Sum.inl ())]
   ·rfl
   ·rw [step];unfold CK;rw [if_pos hq];rfl
  ·rw [if_neg hq]
   have e2:CK left a[i].length=left-a[i].length:=by unfold CK;rw [if_neg hq]
   have:=ih (i+1) (left-a[i].length) (by omega) (by omega) (by omega)
   unfold EG at this ⊢
   rw [GU (s':=(left-(a[i].length:Int),((i+1:Nat):Int))),this]
   ·rw [step,e2,if_neg hq]
theorem RV(a:List (List Int))(left:Int)(ha:a.length<9223372036854775808)(hx: ∀x∈a,x.length<9223372036854775808)(hl:0≤left∧left≤1048576):JR a left=some (CK left (a.length+Aw a)):=by
 have ht:=B5 a
 unfold JR
 rw [Gl _ (by omega)]
 by_cases hq:left-(a.length:Int)<0
 ·rw [if_pos hq];unfold CK;rw [if_pos (by omega)]
 ·rw [if_neg hq]
  have h0:=Og a (by omega) hx a.length 0 (left-a.length) (by omega) (by omega) (by omega)
  simp only [Int.natCast_zero,List.drop_zero]at h0
  rw [h0,Option.bind_some,cx _ _ (by omega)]
  have e:CK (left-a.length) (Aw a)=CK left (a.length+Aw a):=by unfold CK;rw [show left- ↑a.length-Aw a=left-(↑a.length+Aw a) by omega]
  rw [e]
  by_cases h1:CK left (a.length+Aw a)= -1
  ·rw [if_pos h1,h1]
  ·rw [if_neg h1]
theorem Kr{α:Type}(a b:List α)(x:α):(a.length:Int)<((a++x::b).length:Int):=by rw [List.length_append,List.length_cons];omega
theorem Ks{α:Type}(a b:List α)(x:α):0≤(a.length:Int)∧(a.length:Int).toNat<(a++x::b).length:=by rw [List.length_append,List.length_cons];omega
theorem LQ{α:Type}(a:List α): ¬(a.length:Int)<((a++[]).length:Int):=by rw [List.append_nil];omega
def M0(l:List (List Int)):Prop:=l.length<9223372036854775808∧ ∀x∈l,x.length<9223372036854775808
instance (l:List (List Int)):Decidable (M0 l):=by unfold M0;infer_instance
theorem Tc(a:List (List Int))(left:Int)(hw:M0 a)(hl:0≤left∧left≤1048576):JR a left=some (CK left (a.length+Aw a)):=RV a left hw.1 hw.2 hl
theorem Mq(a:List (List Int))(left:Int)(h0:M0 a)(h1:0≤left∧left≤1048576):Y.call 17 [D.sl 26 (A9 (fun x=>D.sl 3 (A9 (D.int .i64) x)) a),D.int .i64 left] []=some (D.int .i64 (CK left (a.length+Aw a)),[]):=QI a left (Tc a left h0 h1)
def upto(k:Int)(n:Nat):List Int:=(List.range n).map fun(i:Nat)=>k+i
theorem JS(k:Int)(n:Nat):(upto k n).length=n:=by simp [upto]
theorem cy(xs:List Int)(k:Int)(i:Nat)(h:i<xs.length):(upto k i++xs.drop i).set i (k+i)=upto k (i+1)++xs.drop (i+1):=by
 rw [List.set_append_right _ _ (by simp [JS]),JS,Nat.sub_self,List.drop_eq_getElem_cons h,List.set_cons_zero]
 simp [upto,List.range_succ]
noncomputable def Cp(k k1 i:Int)(AW:List Int):Option ((Int×Int×(List Int))⊕(Int×(List Int))):=
 if i<(AW.length:Int)then
  ck (0≤i∧i.toNat<AW.length)<|
  some (Sum.inl (IntKind.i64.wrap (k1+1),IntKind.i64.wrap (i+1),(AW.set i.toNat k1)))
 else
  some (Sum.inr (k1,AW))
noncomputable def HL(k:Int)(v:Int×Int×(List Int)):Option (Int×(List Int)):=DT (fun v=>Cp k v.1 v.2.1 v.2.2) v
noncomputable def Jy(a:List Int)(k:Int):Option (Int×(List Int)):=
 (HL k (k,0,a)).bind fun Au=>
 some (Au.1,Au.2)
def Td:SC:=
 .seq
 (.seq
 (.ops [
 ⟨some 6, .move (.tmp 5),3,none⟩,
 ⟨some 7, .move (.tmp 0),26,none⟩,
 ⟨some 8, .call ⟨(.builtin .len), #[(.tmp 7)], #[26]⟩,3,none⟩,
 ⟨some 9, .binOp .lss 3 (.tmp 6) (.tmp 8) 3,4,none⟩])
 (.cond (.tmp 9)
 .skip
 (.exit 0)))
 (.seq
 (.block 1
 (.seq
 (.ops [
 ⟨some 12, .move (.tmp 0),26,none⟩,
 ⟨some 13, .move (.tmp 5),3,none⟩,
 ⟨some 14, .move (.tmp 1),3,none⟩,
 ⟨some 15, .indexAddr 26 (.tmp 12) (.tmp 13),0,none⟩,
 ⟨none, .store 3 (.tmp 15) (.tmp 14),0,none⟩])
 (.ops [
 ⟨some 16, .move (.tmp 1),3,none⟩,
 ⟨some 17, .binOp .add 3 (.tmp 16) (.const (.int .i64 1)) 3,3,none⟩,
 ⟨some 1, .assign (.tmp 17),3,none⟩])))
 (.ops [
 ⟨some 10, .move (.tmp 5),3,none⟩,
 ⟨some 11, .binOp .add 3 (.tmp 10) (.const (.int .i64 1)) 3,3,none⟩,
 ⟨some 5, .assign (.tmp 11),3,none⟩]))
def cz:SC:= .loop Td
def k32:SC:=
 .seq
 (.ops [
 ⟨some 4, .assign (.const (.int .i64 0)),3,none⟩])
 (.seq
 (.seq
 (.ops [
 ⟨some 5, .assign (.const (.int .i64 0)),3,none⟩])
 (.block 0
 cz))
 (.seq
 (.ops [
 ⟨some 18, .move (.tmp 1),3,none⟩,
 ⟨some 4, .assign (.tmp 18),3,none⟩])
 .ret))
theorem ll:Tryz.f32.body.map (Am lends)=some k32:=by kernel_rfl
theorem A2t:As Tryz.f32 2=true:=by kernel_rfl
theorem aT{a l:List D}{r:D×List D}(h:Av Y.env k32 (fin AJ l.length [ResultVar.tmp 4] r) (entry a l))(ha:a.length=2):Y.call 32 a l=some r:=
 AC (Y:=Y) rfl Tryz.func32 (ha▸A2t) ll h
def Cq(k k1 i:Int)(AW:List Int)(s:St):Prop:=(∃w_,s.v 0=D.vw [100000] (s.k 100000) w_)∧s.v 1=D.int .i64 k1∧s.v 5=D.int .i64 i∧s.v 100000=D.own 3 (A9 (D.int .i64) AW)
def GV(k:Int)(r:Int×(List Int))(ex:Ex)(s:St):Prop:=ex= .exit 0∧s.v 1=D.int .i64 r.1∧s.v 100000=D.own 3 (A9 (D.int .i64) r.2)
theorem Nj(k:Int){v:Int×Int×(List Int)}{s:St}{r:Int×(List Int)}(h:HL k v=some r)(hM:Cq k v.1 v.2.1 v.2.2 s):Av Y.env cz (GV k r) s:=by
 unfold HL at h
 refine Aa (c:=Td) (fun v=>Cp k v.1 v.2.1 v.2.2) (fun v s=>Cq k v.1 v.2.1 v.2.2 s) (GV k) ?_ h hM
 clear h hM s v r
 intro v s o hM h
 obtain⟨k1,i,AW⟩:=v
 dsimp only at h hM
 unfold Cp at h
 unfold Cq at hM
 obtain⟨⟨w0_,m0⟩,m1,m2,m3⟩:=hM
 unfold Td
 by_cases e1:i<(AW.length:Int)
 ·rw [if_pos e1]at h
  obtain⟨e2,h⟩:=Ae h
  cases h
  simp (maxDischargeDepth:=9) only [↓A8,A1,AE,A6,AA,↓reduceIte,Nat.reduceEqDiff,Nat.reduceLT,m0,m1,m2,m3,e1,e2.1,e2.2,Cq,Ei]<;>(repeat' apply And.intro)<;>first | rfl | exact⟨_,rfl⟩ | exact⟨_,_,rfl⟩ | simp [A9,Aq]
 ·rw [if_neg e1]at h
  cases h
  simp (maxDischargeDepth:=9) only [↓A8,A1,AE,A6,AA,↓reduceIte,Nat.reduceEqDiff,Nat.reduceLT,m0,m1,m2,m3,e1,Cq,GV,Ge]
theorem Oh(a:List Int)(k:Int){r:Int×(List Int)}(h:Jy a k=some r):Y.call 32 [D.vw [100000] 0 0,D.int .i64 k] [D.own 3 (A9 (D.int .i64) a)]=some (D.int .i64 r.1,[D.own 3 (A9 (D.int .i64) r.2)]):=by
 refine aT ?_ rfl
 unfold k32
 unfold Jy at h
 obtain⟨Au,hl2,h⟩:=AL h
 try dsimp only at h
 simp (maxDischargeDepth:=9) only [↓A8,A1,A6,AA,↓reduceIte,Nat.reduceEqDiff,Nat.reduceLT,Nat.reduceAdd]
 refine AP (Nj k hl2 ?_) ?_
 ·simp (maxDischargeDepth:=9) only [A1,A6,↓reduceIte,Nat.reduceEqDiff,Nat.reduceLT,Nat.reduceSub,Cq]<;>(repeat' apply And.intro)<;>first | rfl | exact⟨_,rfl⟩ | exact⟨_,_,rfl⟩ | simp [A9,Aq]
 ·intro ex2 s2 hX2
  unfold GV at hX2
  obtain⟨rfl,n2_0,n2_1⟩:=hX2
  cases h
  simp (maxDischargeDepth:=9) only [↓A8,A1,AE,A6,↓reduceIte,Nat.reduceEqDiff,Nat.reduceLT,n2_0,n2_1]
theorem RW(a:List Int)(k:Int)(ha:a.length<1099511627776)(hk:0≤k∧k<1099511627776):Jy a k=some (k+a.length,upto k a.length):=by
 have key:=CD (fun v=>Cp k v.1 v.2.1 v.2.2) (fun i=>(k+i,(i:Int),upto k i++a.drop i)) a.length (k+a.length,upto k a.length) ?_ ?_
 ·unfold Jy HL
  have e0:upto k 0=[]:=rfl
  simp only [Int.natCast_zero,Int.add_zero,List.drop_zero,e0,List.nil_append]at key
  rw [key];rfl
 ·intro i hi
  simp only [Cp]
  have el:(upto k i++a.drop i).length=a.length:=by simp [JS];omega
  rw [el,if_pos (Ak hi),Ac (BS hi),Int.toNat_natCast,cy a k i hi,Gm i (by omega),Gl _ (by omega)]
  rw [show k+(i:Int)+1=k+((i+1:Nat):Int) by omega]
 ·simp only [Cp]
  have el:(upto k a.length++a.drop a.length).length=a.length:=by simp [JS]
  rw [el,if_neg (AH _)];simp
theorem JC(a:List Int)(k:Int)(h0:a.length<1099511627776)(h1:0≤k∧k<1099511627776):Y.call 32 [D.vw [100000] 0 0,D.int .i64 k] [D.own 3 (A9 (D.int .i64) a)]=some (D.int .i64 (k+a.length),[D.own 3 (A9 (D.int .i64) (upto k a.length))]):=Oh a k (RW a k h0 h1)
def EZ:Int→List (List Int)→List (List Int)
 | _,[]=>[]
 | k,x::l=>upto k x.length::EZ (k+x.length) l
noncomputable def Dk(k k1 i:Int)(AW:List (List Int)):Option ((Int×Int×(List (List Int)))⊕(Int×(List (List Int)))):=
 if i<(AW.length:Int)then
  ck (0≤i∧i.toNat<AW.length)<|
  ck ((AW.getD i.toNat default).length<1099511627776)<|
  ck (0≤k1∧k1<1099511627776)<|
  some (Sum.inl ((k1+(AW.getD i.toNat default).length),IntKind.i64.wrap (i+1),(AW.set i.toNat (upto k1 (AW.getD i.toNat default).length))))
 else
  some (Sum.inr (k1,AW))
noncomputable def Dl(k:Int)(v:Int×Int×(List (List Int))):Option (Int×(List (List Int))):=DT (fun v=>Dk k v.1 v.2.1 v.2.2) v
noncomputable def Ip(a:List (List Int))(k:Int):Option (Int×(List (List Int))):=
 (Dl k (k,0,a)).bind fun Au=>
 some (Au.1,Au.2)
def Te:SC:=
 .seq
 (.seq
 (.ops [
 ⟨some 6, .move (.tmp 5),3,none⟩,
 ⟨some 7, .move (.tmp 0),22,none⟩,
 ⟨some 8, .call ⟨(.builtin .len), #[(.tmp 7)], #[22]⟩,3,none⟩,
 ⟨some 9, .binOp .lss 3 (.tmp 6) (.tmp 8) 3,4,none⟩])
 (.cond (.tmp 9)
 .skip
 (.exit 0)))
 (.seq
 (.block 1
 (.ops [
 ⟨some 12, .move (.tmp 0),22,none⟩,
 ⟨some 13, .move (.tmp 5),3,none⟩,
 ⟨some 14, .indexAddr 22 (.tmp 12) (.tmp 13),0,none⟩,
 ⟨some 15, .load 26 (.tmp 14),26,none⟩,
 ⟨some 16, .move (.tmp 1),3,none⟩,
 ⟨some 17, .call ⟨(.value (.func 32)), #[(.tmp 15),(.tmp 16)], #[26,3]⟩,3,none⟩,
 ⟨some 1, .assign (.tmp 17),3,none⟩]))
 (.ops [
 ⟨some 10, .move (.tmp 5),3,none⟩,
 ⟨some 11, .binOp .add 3 (.tmp 10) (.const (.int .i64 1)) 3,3,none⟩,
 ⟨some 5, .assign (.tmp 11),3,none⟩]))
def d4:SC:= .loop Te
def k15:SC:=
 .seq
 (.ops [
 ⟨some 4, .assign (.const (.int .i64 0)),3,none⟩])
 (.seq
 (.seq
 (.ops [
 ⟨some 5, .assign (.const (.int .i64 0)),3,none⟩])
 (.block 0
 d4))
 (.seq
 (.ops [
 ⟨some 18, .move (.tmp 1),3,none⟩,
 ⟨some 4, .assign (.tmp 18),3,none⟩])
 .ret))
theorem lm:Tryz.f15.body.map (Am lends)=some k15:=by kernel_rfl
theorem A2v:As Tryz.f15 2=true:=by kernel_rfl
theorem ni{a l:List D}{r:D×List D}(h:Av Y.env k15 (fin AJ l.length [ResultVar.tmp 4] r) (entry a l))(ha:a.length=2):Y.call 15 a l=some r:=
 AC (Y:=Y) rfl Tryz.func15 (ha▸A2v) lm h
def CZ(k k1 i:Int)(AW:List (List Int))(s:St):Prop:=(∃w_,s.v 0=D.vw [100000] (s.k 100000) w_)∧s.v 1=D.int .i64 k1∧s.v 5=D.int .i64 i∧s.v 100000=D.own 26 (A9 (fun x=>D.own 3 (A9 (D.int .i64) x)) AW)
def Fj(k:Int)(r:Int×(List (List Int)))(ex:Ex)(s:St):Prop:=ex= .exit 0∧s.v 1=D.int .i64 r.1∧s.v 100000=D.own 26 (A9 (fun x=>D.own 3 (A9 (D.int .i64) x)) r.2)
theorem Mr(k:Int){v:Int×Int×(List (List Int))}{s:St}{r:Int×(List (List Int))}(h:Dl k v=some r)(hM:CZ k v.1 v.2.1 v.2.2 s):Av Y.env d4 (Fj k r) s:=by
 unfold Dl at h
 refine Aa (c:=Te) (fun v=>Dk k v.1 v.2.1 v.2.2) (fun v s=>CZ k v.1 v.2.1 v.2.2 s) (Fj k) ?_ h hM
 clear h hM s v r
 intro v s o hM h
 obtain⟨k1,i,AW⟩:=v
 dsimp only at h hM
 unfold Dk at h
 unfold CZ at hM
 obtain⟨⟨w0_,m0⟩,m1,m2,m3⟩:=hM
 unfold Te
 by_cases e1:i<(AW.length:Int)
 ·rw [if_pos e1]at h
  obtain⟨e2,h⟩:=Ae h
  obtain⟨e3,h⟩:=Ae h
  obtain⟨e4,h⟩:=Ae h
  have c5:=JC (AW.getD i.toNat default) k1 e3 e4
  cases h
  simp (maxDischargeDepth:=9) only [↓A8,A1,AE,Ap,A6,AA,↓reduceIte,Nat.reduceEqDiff,Nat.reduceLT,Nat.reduceAdd,m0,m1,m2,m3,e1,e2.1,e2.2,c5,CZ,Ei]<;>(repeat' apply And.intro)<;>first | rfl | exact⟨_,rfl⟩ | exact⟨_,_,rfl⟩ | simp [A9,Aq]
 ·rw [if_neg e1]at h
  cases h
  simp (maxDischargeDepth:=9) only [↓A8,A1,AE,A6,AA,↓reduceIte,Nat.reduceEqDiff,Nat.reduceLT,m0,m1,m2,m3,e1,CZ,Fj,Ge]
theorem Nk(a:List (List Int))(k:Int){r:Int×(List (List Int))}(h:Ip a k=some r):Y.call 15 [D.vw [100000] 0 0,D.int .i64 k] [D.own 26 (A9 (fun x=>D.own 3 (A9 (D.int .i64) x)) a)]=some (D.int .i64 r.1,[D.own 26 (A9 (fun x=>D.own 3 (A9 (D.int .i64) x)) r.2)]):=by
 refine ni ?_ rfl
 unfold k15
 unfold Ip at h
 obtain⟨Au,hl2,h⟩:=AL h
 try dsimp only at h
 simp (maxDischargeDepth:=9) only [↓A8,A1,A6,AA,↓reduceIte,Nat.reduceEqDiff,Nat.reduceLT,Nat.reduceAdd]
 refine AP (Mr k hl2 ?_) ?_
 ·simp (maxDischargeDepth:=9) only [A1,A6,↓reduceIte,Nat.reduceEqDiff,Nat.reduceLT,Nat.reduceSub,CZ]<;>(repeat' apply And.intro)<;>first | rfl | exact⟨_,rfl⟩ | exact⟨_,_,rfl⟩ | simp [A9,Aq]
 ·intro ex2 s2 hX2
  unfold Fj at hX2
  obtain⟨rfl,n2_0,n2_1⟩:=hX2
  cases h
  simp (maxDischargeDepth:=9) only [↓A8,A1,AE,A6,↓reduceIte,Nat.reduceEqDiff,Nat.reduceLT,n2_0,n2_1]
theorem Ms(kk:Int): ∀(b a:List (List Int)) (k:Int),Ab b→a.length+b.length<1099511627776→0≤k→k+Aw b<1099511627776→
  Dl kk (k,(a.length:Int),a++b)=some (k+Aw b,a++EZ k b):=by
 intro b
 induction b with
 | nil=>
  intro a k hb hab hk hkt
  unfold Dl
  rw [C5 (r:=(k,a++[]))]
  ·rw [Jw,Int.add_zero];rfl
  ·simp only [Dk];rw [if_neg (LQ _)]
 | cons x b ih=>
  intro a k hb hab hk hkt
  rw [GK]at hkt
  simp only [List.length_cons]at hab
  have hx:x.length<1099511627776:=hb.2 x (List.mem_cons_self ..)
  have ht:=B5 b
  have:=ih (a++[upto k x.length]) (k+x.length) ⟨by omega,fun y hy=>hb.2 y (List.mem_cons_of_mem _ hy)⟩ (by simp;omega) (by omega) (by omega)
  unfold Dl at this ⊢
  have eg:(a++x::b).getD (a.length:Int).toNat default=x:=by rw [Int.toNat_natCast];exact CA a (x::b) a.length rfl (by simp)
  rw [GU (s':=(k+x.length,((a++[upto k x.length]).length:Int),(a++[upto k x.length])++b)),this]
  ·rw [GK,show k+(x.length:Int)+Aw b=k+(x.length+Aw b) by omega]
   simp [EZ]
  ·simp only [Dk]
   rw [if_pos (Kr ..),Ac (Ks ..),Ac (by rw [eg];exact hx),Ac ⟨hk,by omega⟩,eg,Gm _ (by omega),Int.toNat_natCast,List.set_append_right _ _ (Nat.le_refl _),Nat.sub_self,List.set_cons_zero]
   simp
theorem QJ(a:List (List Int))(k:Int)(ha:Ab a)(hk:0≤k∧k+Aw a<1099511627776):Ip a k=some (k+Aw a,EZ k a):=by
 unfold Ip
 have:=Ms k a [] k ha (by have:=ha.1;simp;omega) hk.1 hk.2
 simp only [List.length_nil,List.nil_append,Int.natCast_zero]at this
 rw [this];rfl
theorem Gx(a:List (List Int))(k:Int)(h0:Ab a)(h1:0≤k∧k+Aw a<1099511627776):Y.call 15 [D.vw [100000] 0 0,D.int .i64 k] [D.own 26 (A9 (fun x=>D.own 3 (A9 (D.int .i64) x)) a)]=some (D.int .i64 (k+Aw a),[D.own 26 (A9 (fun x=>D.own 3 (A9 (D.int .i64) x)) (EZ k a))]):=Nk a k (QJ a k h0 h1)
def Ju:Int→List Int→Int
 | k,[]=>k
 | k,x::l=>if x=k then Ju (k+1) l else-1
noncomputable def Cr(a:List Int)(k1 i:Int):Option ((Int×Int)⊕(Unit⊕Int)):=
 if i<(a.length:Int)then
  ck (0≤i∧i.toNat<a.length)<|
  if(a.getD i.toNat default)=k1 then
   some (Sum.inl (IntKind.i64.wrap (k1+1),IntKind.i64.wrap (i+1)))
  else
   some (Sum.inr (Sum.inl ()))
 else
  some (Sum.inr (Sum.inr k1))
noncomputable def DI(a:List Int)(v:Int×Int):Option (Unit⊕Int):=DT (fun v=>Cr a v.1 v.2) v
noncomputable def Jz(a:List Int)(k:Int):Option (Int):=
 (DI a (k,0)).bind fun Au=>
 match Au with
 | .inl q2_=>
  some (-1)
 | .inr q2_=>
  some q2_
def Tf:SC:=
 .seq
 (.seq
 (.ops [
 ⟨some 6, .move (.tmp 5),3,none⟩,
 ⟨some 7, .move (.tmp 0),26,none⟩,
 ⟨some 8, .call ⟨(.builtin .len), #[(.tmp 7)], #[26]⟩,3,none⟩,
 ⟨some 9, .binOp .lss 3 (.tmp 6) (.tmp 8) 3,4,none⟩])
 (.cond (.tmp 9)
 .skip
 (.exit 0)))
 (.seq
 (.block 1
 (.seq
 (.seq
 (.ops [
 ⟨some 12, .move (.tmp 0),26,none⟩,
 ⟨some 13, .move (.tmp 5),3,none⟩,
 ⟨some 14, .indexAddr 26 (.tmp 12) (.tmp 13),0,none⟩,
 ⟨some 15, .load 3 (.tmp 14),3,none⟩,
 ⟨some 16, .move (.tmp 1),3,none⟩,
 ⟨some 17, .binOp .neq 3 (.tmp 15) (.tmp 16) 3,4,none⟩])
 (.cond (.tmp 17)
 (.seq
 (.ops [
 ⟨some 4, .assign (.const (.int .i64 (-1))),3,none⟩])
 .ret)
 .skip))
 (.ops [
 ⟨some 18, .move (.tmp 1),3,none⟩,
 ⟨some 19, .binOp .add 3 (.tmp 18) (.const (.int .i64 1)) 3,3,none⟩,
 ⟨some 1, .assign (.tmp 19),3,none⟩])))
 (.ops [
 ⟨some 10, .move (.tmp 5),3,none⟩,
 ⟨some 11, .binOp .add 3 (.tmp 10) (.const (.int .i64 1)) 3,3,none⟩,
 ⟨some 5, .assign (.tmp 11),3,none⟩]))
def d5:SC:= .loop Tf
def k33:SC:=
 .seq
 (.ops [
 ⟨some 4, .assign (.const (.int .i64 0)),3,none⟩])
 (.seq
 (.seq
 (.ops [
 ⟨some 5, .assign (.const (.int .i64 0)),3,none⟩])
 (.block 0
 d5))
 (.seq
 (.ops [
 ⟨some 20, .move (.tmp 1),3,none⟩,
 ⟨some 4, .assign (.tmp 20),3,none⟩])
 .ret))
theorem ln:Tryz.f33.body.map (Am lends)=some k33:=by kernel_rfl
theorem A2x:As Tryz.f33 2=true:=by kernel_rfl
theorem c33{a l:List D}{r:D×List D}(h:Av Y.env k33 (fin AJ l.length [ResultVar.tmp 4] r) (entry a l))(ha:a.length=2):Y.call 33 a l=some r:=
 AC (Y:=Y) rfl Tryz.func33 (ha▸A2x) ln h
def CL(a:List Int)(k1 i:Int)(s:St):Prop:=s.v 0=D.sl 3 (A9 (D.int .i64) a)∧s.v 1=D.int .i64 k1∧s.v 5=D.int .i64 i
def Cs(a:List Int)(r:Unit⊕Int)(ex:Ex)(s:St):Prop:=match r with
 | .inl q=>ex= .ret∧s.v 4=D.int .i64 (-1)
 | .inr q=>ex= .exit 0∧s.v 1=D.int .i64 q
theorem Nl(a:List Int){v:Int×Int}{s:St}{r:Unit⊕Int}(h:DI a v=some r)(hM:CL a v.1 v.2 s):Av Y.env d5 (Cs a r) s:=by
 unfold DI at h
 refine Aa (c:=Tf) (fun v=>Cr a v.1 v.2) (fun v s=>CL a v.1 v.2 s) (Cs a) ?_ h hM
 clear h hM s v r
 intro v s o hM h
 obtain⟨k1,i⟩:=v
 dsimp only at h hM
 unfold Cr at h
 unfold CL at hM
 obtain⟨m0,m1,m2⟩:=hM
 unfold Tf
 by_cases e1:i<(a.length:Int)
 ·rw [if_pos e1]at h
  obtain⟨e2,h⟩:=Ae h
  by_cases e3:(a.getD i.toNat default)=k1
  ·rw [if_pos e3]at h
   cases h
   simp (maxDischargeDepth:=9) only [↓A8,A1,AE,A6,AA,↓reduceIte,Nat.reduceEqDiff,Nat.reduceLT,Int.reduceNeg,m0,m1,m2,e1,e2.1,e2.2,decide_eq_true e3,CL,Ei]
  ·rw [if_neg e3]at h
   cases h
   simp (maxDischargeDepth:=9) only [↓A8,A1,AE,A6,AA,↓reduceIte,Nat.reduceEqDiff,Nat.reduceLT,Int.reduceNeg,m0,m1,m2,e1,e2.1,e2.2,e3,CL,Cs,Ho]
 ·rw [if_neg e1]at h
  cases h
  simp (maxDischargeDepth:=9) only [↓A8,A1,AE,AA,↓reduceIte,Nat.reduceEqDiff,Nat.reduceLT,Int.reduceNeg,m0,m1,m2,e1,CL,Cs,Ge]
theorem Oi(a:List Int)(k:Int){r:Int}(h:Jz a k=some r):Y.call 33 [D.sl 3 (A9 (D.int .i64) a),D.int .i64 k] []=some (D.int .i64 r,[]):=by
 refine c33 ?_ rfl
 unfold k33
 unfold Jz at h
 obtain⟨Au,hl2,h⟩:=AL h
 try dsimp only at h
 simp (maxDischargeDepth:=9) only [↓A8,A1,A6,AA,↓reduceIte,Nat.reduceEqDiff,Nat.reduceLT]
 refine AP (Nl a hl2 ?_) ?_
 ·simp (maxDischargeDepth:=9) only [A1,A6,↓reduceIte,Nat.reduceEqDiff,Nat.reduceLT,CL]
 ·intro ex2 s2 hX2
  rcases Au with q2_ | q2_
  ·unfold Cs at hX2
   dsimp only at hX2 h
   obtain⟨rfl,n2_0⟩:=hX2
   cases h
   simp (maxDischargeDepth:=9) only [↓A8,A1,A6,↓reduceIte,Int.reduceNeg,n2_0]
  ·unfold Cs at hX2
   dsimp only at hX2 h
   obtain⟨rfl,n2_0⟩:=hX2
   cases h
   simp (maxDischargeDepth:=9) only [↓A8,A1,A6,↓reduceIte,Nat.reduceEqDiff,Nat.reduceLT,n2_0]
theorem Nm: ∀(b a:List Int) (k:Int),a.length+b.length<1099511627776→0≤k→k+b.length<1099511627776→
  DI (a++b) (k,(a.length:Int))=some (if Ju k b= -1 then .inl ()else .inr (Ju k b)):=by
 intro b
 induction b with
 | nil=>
  intro a k hab hk hkt
  unfold DI
  rw [C5 (r:=Sum.inr k)]
  ·unfold Ju;rw [if_neg (by omega)]
  ·simp only [Cr];rw [if_neg (LQ _)]
 | cons x b ih=>
  intro a k hab hk hkt
  simp only [List.length_cons]at hab hkt
  have eg:(a++x::b).getD (a.length:Int).toNat default=x:=by rw [Int.toNat_natCast];exact CA a (x::b) a.length rfl (by simp)
  unfold Ju
  by_cases hq:x=k
  ·rw [if_pos hq]
   have:=ih (a++[x]) (k+1) (by simp;omega) (by omega) (by omega)
   unfold DI at this ⊢
   rw [GU (s':=(k+1,((a++[x]).length:Int)))]
   ·rw [show a++x::b=a++[x]++b by simp];exact this
   ·simp only [Cr]
    rw [if_pos (Kr ..),Ac (Ks ..),eg,if_pos hq,Gm _ (by omega),Gl _ (by omega)];simp
  ·rw [if_neg hq]
   unfold DI
   rw [C5 (r:=Sum.inl ())]
   ·rfl
   ·simp only [Cr]
    rw [if_pos (Kr ..),Ac (Ks ..),eg,if_neg hq]
theorem RX(a:List Int)(k:Int)(ha:a.length<1099511627776)(hk:0≤k∧k+a.length<1099511627776):Jz a k=some (Ju k a):=by
 unfold Jz
 have:=Nm a [] k (by simpa using ha) hk.1 hk.2
 simp only [List.length_nil,List.nil_append,Int.natCast_zero]at this
 rw [this,Option.bind_some]
 by_cases h:Ju k a= -1
 ·rw [if_pos h,h]
 ·rw [if_neg h]
theorem RY(a:List Int)(k:Int)(h0:a.length<1099511627776)(h1:0≤k∧k+a.length<1099511627776):Y.call 33 [D.sl 3 (A9 (D.int .i64) a),D.int .i64 k] []=some (D.int .i64 (Ju k a),[]):=Oi a k (RX a k h0 h1)
theorem aU(n:Nat): ∀k,Ju k (upto k n)=k+n:=by
 induction n with
 | zero=>intro k;simp [upto,Ju]
 | succ n ih=>
  intro k
  have e:upto k (n+1)=k::upto (k+1) n:=by
   simp only [upto,List.range_succ_eq_map,List.map_cons,List.map_map]
   congr 1
   ·simp
   ·apply List.map_congr_left;intro i _;simp;omega
  rw [e,Ju,if_pos rfl,ih];omega
noncomputable def Dm(a:List (List Int))(k1 i:Int):Option ((Int×Int)⊕(Unit⊕Int)):=
 if i<(a.length:Int)then
  ck (0≤i∧i.toNat<a.length)<|
  ck ((a.getD i.toNat default).length<1099511627776)<|
  ck (0≤k1∧k1+(a.getD i.toNat default).length<1099511627776)<|
  if(Ju k1 (a.getD i.toNat default))<0 then
   some (Sum.inr (Sum.inl ()))
  else
   some (Sum.inl ((Ju k1 (a.getD i.toNat default)),IntKind.i64.wrap (i+1)))
 else
  some (Sum.inr (Sum.inr k1))
noncomputable def Dn(a:List (List Int))(v:Int×Int):Option (Unit⊕Int):=DT (fun v=>Dm a v.1 v.2) v
noncomputable def Gj(a:List (List Int))(k:Int):Option (Int):=
 (Dn a (k,0)).bind fun Au=>
 match Au with
 | .inl q2_=>
  some (-1)
 | .inr q2_=>
  some q2_
def Tg:SC:=
 .seq
 (.seq
 (.ops [
 ⟨some 6, .move (.tmp 5),3,none⟩,
 ⟨some 7, .move (.tmp 0),22,none⟩,
 ⟨some 8, .call ⟨(.builtin .len), #[(.tmp 7)], #[22]⟩,3,none⟩,
 ⟨some 9, .binOp .lss 3 (.tmp 6) (.tmp 8) 3,4,none⟩])
 (.cond (.tmp 9)
 .skip
 (.exit 0)))
 (.seq
 (.block 1
 (.seq
 (.ops [
 ⟨some 12, .move (.tmp 0),22,none⟩,
 ⟨some 13, .move (.tmp 5),3,none⟩,
 ⟨some 14, .indexAddr 22 (.tmp 12) (.tmp 13),0,none⟩,
 ⟨some 15, .load 26 (.tmp 14),26,none⟩,
 ⟨some 16, .move (.tmp 1),3,none⟩,
 ⟨some 17, .call ⟨(.value (.func 33)), #[(.tmp 15),(.tmp 16)], #[26,3]⟩,3,none⟩,
 ⟨some 1, .assign (.tmp 17),3,none⟩])
 (.seq
 (.ops [
 ⟨some 18, .move (.tmp 1),3,none⟩,
 ⟨some 19, .binOp .lss 3 (.tmp 18) (.const (.int .i64 0)) 3,4,none⟩])
 (.cond (.tmp 19)
 (.seq
 (.ops [
 ⟨some 4, .assign (.const (.int .i64 (-1))),3,none⟩])
 .ret)
 .skip))))
 (.ops [
 ⟨some 10, .move (.tmp 5),3,none⟩,
 ⟨some 11, .binOp .add 3 (.tmp 10) (.const (.int .i64 1)) 3,3,none⟩,
 ⟨some 5, .assign (.tmp 11),3,none⟩]))
def d6:SC:= .loop Tg
def k16:SC:=
 .seq
 (.ops [
 ⟨some 4, .assign (.const (.int .i64 0)),3,none⟩])
 (.seq
 (.seq
 (.ops [
 ⟨some 5, .assign (.const (.int .i64 0)),3,none⟩])
 (.block 0
 d6))
 (.seq
 (.ops [
 ⟨some 20, .move (.tmp 1),3,none⟩,
 ⟨some 4, .assign (.tmp 20),3,none⟩])
 .ret))
theorem lp:Tryz.f16.body.map (Am lends)=some k16:=by kernel_rfl
theorem A2z:As Tryz.f16 2=true:=by kernel_rfl
theorem c16{a l:List D}{r:D×List D}(h:Av Y.env k16 (fin AJ l.length [ResultVar.tmp 4] r) (entry a l))(ha:a.length=2):Y.call 16 a l=some r:=
 AC (Y:=Y) rfl Tryz.func16 (ha▸A2z) lp h
def C2(a:List (List Int))(k1 i:Int)(s:St):Prop:=s.v 0=D.sl 26 (A9 (fun x=>D.sl 3 (A9 (D.int .i64) x)) a)∧s.v 1=D.int .i64 k1∧s.v 5=D.int .i64 i
def Ca(a:List (List Int))(r:Unit⊕Int)(ex:Ex)(s:St):Prop:=match r with
 | .inl q=>ex= .ret∧s.v 4=D.int .i64 (-1)
 | .inr q=>ex= .exit 0∧s.v 1=D.int .i64 q
theorem Mt(a:List (List Int)){v:Int×Int}{s:St}{r:Unit⊕Int}(h:Dn a v=some r)(hM:C2 a v.1 v.2 s):Av Y.env d6 (Ca a r) s:=by
 unfold Dn at h
 refine Aa (c:=Tg) (fun v=>Dm a v.1 v.2) (fun v s=>C2 a v.1 v.2 s) (Ca a) ?_ h hM
 clear h hM s v r
 intro v s o hM h
 obtain⟨k1,i⟩:=v
 dsimp only at h hM
 unfold Dm at h
 unfold C2 at hM
 obtain⟨m0,m1,m2⟩:=hM
 unfold Tg
 by_cases e1:i<(a.length:Int)
 ·rw [if_pos e1]at h
  obtain⟨e2,h⟩:=Ae h
  obtain⟨e3,h⟩:=Ae h
  obtain⟨e4,h⟩:=Ae h
  have c5:=RY (a.getD i.toNat default) k1 e3 e4
  by_cases e6:(Ju k1 (a.getD i.toNat default))<0
  ·rw [if_pos e6]at h
   cases h
   simp (maxDischargeDepth:=9) only [↓A8,A1,AE,Ap,A6,AA,↓reduceIte,Nat.reduceEqDiff,Nat.reduceLT,Nat.reduceAdd,Int.reduceNeg,m0,m1,m2,e1,e2.1,e2.2,c5,e6,C2,Ca,Ho]
  ·rw [if_neg e6]at h
   cases h
   simp (maxDischargeDepth:=9) only [↓A8,A1,AE,Ap,A6,AA,↓reduceIte,Nat.reduceEqDiff,Nat.reduceLT,Nat.reduceAdd,Int.reduceNeg,m0,m1,m2,e1,e2.1,e2.2,c5,e6,C2,Ei]
 ·rw [if_neg e1]at h
  cases h
  simp (maxDischargeDepth:=9) only [↓A8,A1,AE,AA,↓reduceIte,Nat.reduceEqDiff,Nat.reduceLT,Int.reduceNeg,m0,m1,m2,e1,C2,Ca,Ge]
theorem JT(a:List (List Int))(k:Int){r:Int}(h:Gj a k=some r):Y.call 16 [D.sl 26 (A9 (fun x=>D.sl 3 (A9 (D.int .i64) x)) a),D.int .i64 k] []=some (D.int .i64 r,[]):=by
 refine c16 ?_ rfl
 unfold k16
 unfold Gj at h
 obtain⟨Au,hl2,h⟩:=AL h
 try dsimp only at h
 simp (maxDischargeDepth:=9) only [↓A8,A1,A6,AA,↓reduceIte,Nat.reduceEqDiff,Nat.reduceLT]
 refine AP (Mt a hl2 ?_) ?_
 ·simp (maxDischargeDepth:=9) only [A1,A6,↓reduceIte,Nat.reduceEqDiff,Nat.reduceLT,C2]
 ·intro ex2 s2 hX2
  rcases Au with q2_ | q2_
  ·unfold Ca at hX2
   dsimp only at hX2 h
   obtain⟨rfl,n2_0⟩:=hX2
   cases h
   simp (maxDischargeDepth:=9) only [↓A8,A1,A6,↓reduceIte,Int.reduceNeg,n2_0]
  ·unfold Ca at hX2
   dsimp only at hX2 h
   obtain⟨rfl,n2_0⟩:=hX2
   cases h
   simp (maxDischargeDepth:=9) only [↓A8,A1,A6,↓reduceIte,Nat.reduceEqDiff,Nat.reduceLT,n2_0]
theorem Mu: ∀(b a:List (List Int)) (k:Int),Ab b→a.length+b.length<1099511627776→0≤k→k+Aw b<1099511627776→
  Dn (a++EZ k b) (k,(a.length:Int))=some (.inr (k+Aw b)):=by
 intro b
 induction b with
 | nil=>
  intro a k hb hab hk hkt
  unfold Dn
  rw [C5 (r:=Sum.inr k)]
  ·rw [Jw,Int.add_zero]
  ·rw [show EZ k []=[]from rfl];simp only [Dm];rw [if_neg (LQ _)]
 | cons x b ih=>
  intro a k hb hab hk hkt
  rw [GK]at hkt
  simp only [List.length_cons]at hab
  have hx:x.length<1099511627776:=hb.2 x (List.mem_cons_self ..)
  have ht:=B5 b
  have:=ih (a++[upto k x.length]) (k+x.length) ⟨by omega,fun y hy=>hb.2 y (List.mem_cons_of_mem _ hy)⟩ (by simp;omega) (by omega) (by omega)
  unfold Dn at this ⊢
  have eg:(a++EZ k (x::b)).getD (a.length:Int).toNat default=upto k x.length:=by rw [Int.toNat_natCast];exact CA a (EZ k (x::b)) a.length rfl (by simp [EZ])
  rw [GU (s':=(k+x.length,((a++[upto k x.length]).length:Int)))]
  ·rw [show a++EZ k (x::b)=a++[upto k x.length]++EZ (k+x.length) b by simp [EZ],this,GK]
   rw [show k+(x.length:Int)+Aw b=k+(x.length+Aw b) by omega]
  ·simp only [Dm]
   rw [EZ]at eg ⊢
   rw [if_pos (Kr ..),Ac (Ks ..),Ac (by rw [eg,JS];exact hx),Ac (by rw [eg,JS];omega),eg,aU,if_neg (by omega),Gm _ (by omega)];simp
theorem QK(a:List (List Int))(k:Int)(ha:Ab a)(hk:0≤k∧k+Aw a<1099511627776):Gj (EZ k a) k=some (k+Aw a):=by
 unfold Gj
 have:=Mu a [] k ha (by have:=ha.1;simp;omega) hk.1 hk.2
 simp only [List.length_nil,List.nil_append,Int.natCast_zero]at this
 rw [this];rfl
end Go.Proofs.YtipfckompmhljaaGreat
