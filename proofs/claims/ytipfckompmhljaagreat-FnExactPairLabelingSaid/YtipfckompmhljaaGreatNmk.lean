/- Networks marked, and marks held, as plain functions. Conditions: the lists are short. -/
import Derived.Test.YtipfckompmhljaaGreatL6
import Derived.Test.YtipfckompmhljaaGreatNis
namespace Go.Proofs.YtipfckompmhljaaGreat
open Go Dv
set_option linter.unusedSimpArgs false
set_option linter.unusedVariables false
set_option maxRecDepth 100000
set_option maxHeartbeats 4000000
def X8(k:Int)(n:Nat):List (Int×Int):=(List.range n).map fun(i:Nat)=>(k+2*(i:Int),k+2*(i:Int)+1)
theorem V5(k:Int)(n:Nat):(X8 k n).length=n:=by simp [X8]
theorem ek(k:Int)(n:Nat):X8 k (n+1)=X8 k n++[(k+2*(n:Int),k+2*(n:Int)+1)]:=by simp [X8,List.range_succ]
theorem nT{α:Type}(A xs:List α)(i:Nat)(v:α)(hA:A.length=i)(h:i<xs.length):(A++xs.drop i).set i v=(A++[v])++xs.drop (i+1):=by
 rw [List.set_append_right _ _ (by omega),hA,Nat.sub_self,List.drop_eq_getElem_cons h,List.set_cons_zero,List.append_assoc];rfl
theorem eo(t:List (Int×Int))(i:Nat)(p:Int×Int)(h:i<t.length):An (t.set i p) i=p.1:=by
 unfold An
 simp [List.getD_eq_getElem?_getD,h]
noncomputable def Cy(k k1 i:Int)(AW:List (Int×Int)):Option ((Int×Int×(List (Int×Int)))⊕(Int×(List (Int×Int)))):=
 if i<(AW.length:Int)then
  ck (0≤i∧i.toNat<AW.length)<|
  ck (0≤i∧i.toNat<(AW.set i.toNat (k1,(BJ AW i.toNat))).length)<|
  some (Sum.inl (IntKind.i64.wrap ((IntKind.i64.wrap (k1+1))+1),IntKind.i64.wrap (i+1),((AW.set i.toNat (k1,(BJ AW i.toNat))).set i.toNat ((An (AW.set i.toNat (k1,(BJ AW i.toNat))) i.toNat),IntKind.i64.wrap (k1+1)))))
 else
  some (Sum.inr (k1,AW))
noncomputable def HT(k:Int)(v:Int×Int×(List (Int×Int))):Option (Int×(List (Int×Int))):=DT (fun v=>Cy k v.1 v.2.1 v.2.2) v
noncomputable def KD(a:List (Int×Int))(k:Int):Option (Int×(List (Int×Int))):=
 (HT k (k,0,a)).bind fun Au=>
 some (Au.1,Au.2)
def V6:SC:=
 .seq
 (.seq
 (.ops [
 ⟨some 6, .move (.tmp 5),3,none⟩,
 ⟨some 7, .move (.tmp 0),52,none⟩,
 ⟨some 8, .call ⟨(.builtin .len), #[(.tmp 7)], #[52]⟩,3,none⟩,
 ⟨some 9, .binOp .lss 3 (.tmp 6) (.tmp 8) 3,4,none⟩])
 (.cond (.tmp 9)
 .skip
 (.exit 0)))
 (.seq
 (.block 1
 (.seq
 (.ops [
 ⟨some 12, .move (.tmp 0),52,none⟩,
 ⟨some 13, .move (.tmp 5),3,none⟩,
 ⟨some 14, .move (.tmp 1),3,none⟩,
 ⟨some 15, .indexAddr 52 (.tmp 12) (.tmp 13),0,none⟩,
 ⟨some 16, .fieldAddr 82 (.tmp 15) 0,0,none⟩,
 ⟨none, .store 3 (.tmp 16) (.tmp 14),0,none⟩])
 (.seq
 (.ops [
 ⟨some 17, .move (.tmp 1),3,none⟩,
 ⟨some 18, .binOp .add 3 (.tmp 17) (.const (.int .i64 1)) 3,3,none⟩,
 ⟨some 1, .assign (.tmp 18),3,none⟩])
 (.seq
 (.ops [
 ⟨some 19, .move (.tmp 0),52,none⟩,
 ⟨some 20, .move (.tmp 5),3,none⟩,
 ⟨some 21, .move (.tmp 1),3,none⟩,
 ⟨some 22, .indexAddr 52 (.tmp 19) (.tmp 20),0,none⟩,
 ⟨some 23, .fieldAddr 82 (.tmp 22) 1,0,none⟩,
 ⟨none, .store 3 (.tmp 23) (.tmp 21),0,none⟩])
 (.ops [
 ⟨some 24, .move (.tmp 1),3,none⟩,
 ⟨some 25, .binOp .add 3 (.tmp 24) (.const (.int .i64 1)) 3,3,none⟩,
 ⟨some 1, .assign (.tmp 25),3,none⟩])))))
 (.ops [
 ⟨some 10, .move (.tmp 5),3,none⟩,
 ⟨some 11, .binOp .add 3 (.tmp 10) (.const (.int .i64 1)) 3,3,none⟩,
 ⟨some 5, .assign (.tmp 11),3,none⟩]))
def ep:SC:= .loop V6
def k50:SC:=
 .seq
 (.ops [
 ⟨some 4, .assign (.const (.int .i64 0)),3,none⟩])
 (.seq
 (.seq
 (.ops [
 ⟨some 5, .assign (.const (.int .i64 0)),3,none⟩])
 (.block 0
 ep))
 (.seq
 (.ops [
 ⟨some 26, .move (.tmp 1),3,none⟩,
 ⟨some 4, .assign (.tmp 26),3,none⟩])
 .ret))
theorem nU:Tryz.f50.body.map (Am lends)=some k50:=by kernel_rfl
theorem A5L:As Tryz.f50 2=true:=by kernel_rfl
theorem c50{a l:List D}{r:D×List D}(h:Av Y.env k50 (fin AJ l.length [ResultVar.tmp 4] r) (entry a l))(ha:a.length=2):Y.call 50 a l=some r:=
 AC (Y:=Y) rfl Tryz.func50 (ha▸A5L) nU h
def Cz(k k1 i:Int)(AW:List (Int×Int))(s:St):Prop:=(∃w_,s.v 0=D.vw [100000] (s.k 100000) w_)∧s.v 1=D.int .i64 k1∧s.v 5=D.int .i64 i∧s.v 100000=D.own 82 (AO .i64 .i64 AW)
def Gb(k:Int)(r:Int×(List (Int×Int)))(ex:Ex)(s:St):Prop:=ex= .exit 0∧s.v 1=D.int .i64 r.1∧s.v 100000=D.own 82 (AO .i64 .i64 r.2)
theorem O5(k:Int){v:Int×Int×(List (Int×Int))}{s:St}{r:Int×(List (Int×Int))}(h:HT k v=some r)(hM:Cz k v.1 v.2.1 v.2.2 s):Av Y.env ep (Gb k r) s:=by
 unfold HT at h
 refine Aa (c:=V6) (fun v=>Cy k v.1 v.2.1 v.2.2) (fun v s=>Cz k v.1 v.2.1 v.2.2 s) (Gb k) ?_ h hM
 clear h hM s v r
 intro v s o hM h
 obtain⟨k1,i,AW⟩:=v
 dsimp only at h hM
 unfold Cy at h
 unfold Cz at hM
 obtain⟨⟨w0_,m0⟩,m1,m2,m3⟩:=hM
 unfold V6
 by_cases e1:i<(AW.length:Int)
 ·rw [if_pos e1]at h
  obtain⟨e2,h⟩:=Ae h
  obtain⟨e3,h⟩:=Ae h
  cases h
  simp (maxDischargeDepth:=9) only [↓A8,A1,Ap,A6,AA,↓reduceIte,Nat.reduceEqDiff,Nat.reduceLT,m0,m1,m2,m3,e1,e2.1,e2.2,Cz,Ei]<;>(repeat' apply And.intro)<;>first | rfl | exact⟨_,rfl⟩ | exact⟨_,_,rfl⟩ | simp [A9,Aq]
 ·rw [if_neg e1]at h
  cases h
  simp (maxDischargeDepth:=9) only [↓A8,A1,Ap,A6,AA,↓reduceIte,Nat.reduceEqDiff,Nat.reduceLT,m0,m1,m2,m3,e1,Cz,Gb,Ge]
theorem P4(a:List (Int×Int))(k:Int){r:Int×(List (Int×Int))}(h:KD a k=some r):Y.call 50 [D.vw [100000] 0 0,D.int .i64 k] [D.own 82 (AO .i64 .i64 a)]=some (D.int .i64 r.1,[D.own 82 (AO .i64 .i64 r.2)]):=by
 refine c50 ?_ rfl
 unfold k50
 unfold KD at h
 obtain⟨Au,hl2,h⟩:=AL h
 try dsimp only at h
 simp (maxDischargeDepth:=9) only [↓A8,A1,A6,AA,↓reduceIte,Nat.reduceEqDiff,Nat.reduceLT,Nat.reduceAdd]
 refine AP (O5 k hl2 ?_) ?_
 ·simp (maxDischargeDepth:=9) only [A1,A6,↓reduceIte,Nat.reduceEqDiff,Nat.reduceLT,Nat.reduceSub,Cz]<;>(repeat' apply And.intro)<;>first | rfl | exact⟨_,rfl⟩ | exact⟨_,_,rfl⟩ | simp [A9,Aq]
 ·intro ex2 s2 hX2
  unfold Gb at hX2
  obtain⟨rfl,n2_0,n2_1⟩:=hX2
  cases h
  simp (maxDischargeDepth:=9) only [↓A8,A1,Ap,A6,↓reduceIte,Nat.reduceEqDiff,Nat.reduceLT,n2_0,n2_1]
theorem Rz(a:List (Int×Int))(k:Int)(ha:a.length<549755813888)(hk:0≤k∧k+2*(a.length:Int)<1099511627776):KD a k=some (k+2*(a.length:Int),X8 k a.length):=by
 have key:=CD (fun v=>Cy k v.1 v.2.1 v.2.2) (fun i=>(k+2*(i:Int),(i:Int),X8 k i++a.drop i)) a.length (k+2*(a.length:Int),X8 k a.length) ?_ ?_
 ·unfold KD HT
  have e0:X8 k 0=[]:=rfl
  simp only [Int.natCast_zero,Int.mul_zero,Int.add_zero,List.drop_zero,e0,List.nil_append]at key
  rw [key];rfl
 ·intro i hi
  simp only [Cy]
  have el:(X8 k i++a.drop i).length=a.length:=by simp [V5];omega
  rw [el,if_pos (Ak hi),Ac (BS hi),Int.toNat_natCast,Ac (by rw [List.length_set,el];omega),eo _ _ _ (by rw [el];exact hi),List.set_set,Gm i (by omega),Gl (k+2*(i:Int)+1) (by omega),Gl (k+2*(i:Int)+1+1) (by omega),nT _ _ _ _ (V5 k i) hi,←ek]
  rw [show k+2*(i:Int)+1+1=k+2*((i+1:Nat):Int) by omega]
 ·simp only [Cy]
  have el:(X8 k a.length++a.drop a.length).length=a.length:=by simp [V5]
  rw [el,if_neg (AH _)];simp
theorem S3(a:List (Int×Int))(k:Int)(h0:a.length<549755813888)(h1:0≤k∧k+2*(a.length:Int)<1099511627776):Y.call 50 [D.vw [100000] 0 0,D.int .i64 k] [D.own 82 (AO .i64 .i64 a)]=some (D.int .i64 (k+2*(a.length:Int)),[D.own 82 (AO .i64 .i64 (X8 k a.length))]):=P4 a k (Rz a k h0 h1)
noncomputable def E5(k k1 i:Int)(AW:List (List (Int×Int))):Option ((Int×Int×(List (List (Int×Int))))⊕(Int×(List (List (Int×Int))))):=
 if i<(AW.length:Int)then
  ck (0≤i∧i.toNat<AW.length)<|
  ck ((AW.getD i.toNat default).length<549755813888)<|
  ck (0≤k1∧k1+2*((AW.getD i.toNat default).length:Int)<1099511627776)<|
  some (Sum.inl ((k1+2*((AW.getD i.toNat default).length:Int)),IntKind.i64.wrap (i+1),(AW.set i.toNat (X8 k1 (AW.getD i.toNat default).length))))
 else
  some (Sum.inr (k1,AW))
noncomputable def E6(k:Int)(v:Int×Int×(List (List (Int×Int)))):Option (Int×(List (List (Int×Int)))):=DT (fun v=>E5 k v.1 v.2.1 v.2.2) v
noncomputable def J8(a:List (List (Int×Int)))(k:Int):Option (Int×(List (List (Int×Int)))):=
 (E6 k (k,0,a)).bind fun Au=>
 some (Au.1,Au.2)
def V7:SC:=
 .seq
 (.seq
 (.ops [
 ⟨some 6, .move (.tmp 5),3,none⟩,
 ⟨some 7, .move (.tmp 0),35,none⟩,
 ⟨some 8, .call ⟨(.builtin .len), #[(.tmp 7)], #[35]⟩,3,none⟩,
 ⟨some 9, .binOp .lss 3 (.tmp 6) (.tmp 8) 3,4,none⟩])
 (.cond (.tmp 9)
 .skip
 (.exit 0)))
 (.seq
 (.block 1
 (.ops [
 ⟨some 12, .move (.tmp 0),35,none⟩,
 ⟨some 13, .move (.tmp 5),3,none⟩,
 ⟨some 14, .indexAddr 35 (.tmp 12) (.tmp 13),0,none⟩,
 ⟨some 15, .load 52 (.tmp 14),52,none⟩,
 ⟨some 16, .move (.tmp 1),3,none⟩,
 ⟨some 17, .call ⟨(.value (.func 50)), #[(.tmp 15),(.tmp 16)], #[52,3]⟩,3,none⟩,
 ⟨some 1, .assign (.tmp 17),3,none⟩]))
 (.ops [
 ⟨some 10, .move (.tmp 5),3,none⟩,
 ⟨some 11, .binOp .add 3 (.tmp 10) (.const (.int .i64 1)) 3,3,none⟩,
 ⟨some 5, .assign (.tmp 11),3,none⟩]))
def eq:SC:= .loop V7
def k31:SC:=
 .seq
 (.ops [
 ⟨some 4, .assign (.const (.int .i64 0)),3,none⟩])
 (.seq
 (.seq
 (.ops [
 ⟨some 5, .assign (.const (.int .i64 0)),3,none⟩])
 (.block 0
 eq))
 (.seq
 (.ops [
 ⟨some 18, .move (.tmp 1),3,none⟩,
 ⟨some 4, .assign (.tmp 18),3,none⟩])
 .ret))
theorem nV:Tryz.f31.body.map (Am lends)=some k31:=by kernel_rfl
theorem A5N:As Tryz.f31 2=true:=by kernel_rfl
theorem c31{a l:List D}{r:D×List D}(h:Av Y.env k31 (fin AJ l.length [ResultVar.tmp 4] r) (entry a l))(ha:a.length=2):Y.call 31 a l=some r:=
 AC (Y:=Y) rfl Tryz.func31 (ha▸A5N) nV h
def Cd(k k1 i:Int)(AW:List (List (Int×Int)))(s:St):Prop:=(∃w_,s.v 0=D.vw [100000] (s.k 100000) w_)∧s.v 1=D.int .i64 k1∧s.v 5=D.int .i64 i∧s.v 100000=D.own 52 (A9 (fun x=>D.own 82 (AO .i64 .i64 x)) AW)
def G8(k:Int)(r:Int×(List (List (Int×Int))))(ex:Ex)(s:St):Prop:=ex= .exit 0∧s.v 1=D.int .i64 r.1∧s.v 100000=D.own 52 (A9 (fun x=>D.own 82 (AO .i64 .i64 x)) r.2)
theorem NP(k:Int){v:Int×Int×(List (List (Int×Int)))}{s:St}{r:Int×(List (List (Int×Int)))}(h:E6 k v=some r)(hM:Cd k v.1 v.2.1 v.2.2 s):Av Y.env eq (G8 k r) s:=by
 unfold E6 at h
 refine Aa (c:=V7) (fun v=>E5 k v.1 v.2.1 v.2.2) (fun v s=>Cd k v.1 v.2.1 v.2.2 s) (G8 k) ?_ h hM
 clear h hM s v r
 intro v s o hM h
 obtain⟨k1,i,AW⟩:=v
 dsimp only at h hM
 unfold E5 at h
 unfold Cd at hM
 obtain⟨⟨w0_,m0⟩,m1,m2,m3⟩:=hM
 unfold V7
 by_cases e1:i<(AW.length:Int)
 ·rw [if_pos e1]at h
  obtain⟨e2,h⟩:=Ae h
  obtain⟨e3,h⟩:=Ae h
  obtain⟨e4,h⟩:=Ae h
  have c5:=S3 (AW.getD i.toNat default) k1 e3 e4
  cases h
  simp (maxDischargeDepth:=9) only [↓A8,A1,AE,Ap,A6,AA,↓reduceIte,Nat.reduceEqDiff,Nat.reduceLT,Nat.reduceAdd,m0,m1,m2,m3,e1,e2.1,e2.2,c5,Cd,Ei]<;>(repeat' apply And.intro)<;>first | rfl | exact⟨_,rfl⟩ | exact⟨_,_,rfl⟩ | simp [A9,Aq]
 ·rw [if_neg e1]at h
  cases h
  simp (maxDischargeDepth:=9) only [↓A8,A1,AE,A6,AA,↓reduceIte,Nat.reduceEqDiff,Nat.reduceLT,m0,m1,m2,m3,e1,Cd,G8,Ge]
theorem O6(a:List (List (Int×Int)))(k:Int){r:Int×(List (List (Int×Int)))}(h:J8 a k=some r):Y.call 31 [D.vw [100000] 0 0,D.int .i64 k] [D.own 52 (A9 (fun x=>D.own 82 (AO .i64 .i64 x)) a)]=some (D.int .i64 r.1,[D.own 52 (A9 (fun x=>D.own 82 (AO .i64 .i64 x)) r.2)]):=by
 refine c31 ?_ rfl
 unfold k31
 unfold J8 at h
 obtain⟨Au,hl2,h⟩:=AL h
 try dsimp only at h
 simp (maxDischargeDepth:=9) only [↓A8,A1,A6,AA,↓reduceIte,Nat.reduceEqDiff,Nat.reduceLT,Nat.reduceAdd]
 refine AP (NP k hl2 ?_) ?_
 ·simp (maxDischargeDepth:=9) only [A1,A6,↓reduceIte,Nat.reduceEqDiff,Nat.reduceLT,Nat.reduceSub,Cd]<;>(repeat' apply And.intro)<;>first | rfl | exact⟨_,rfl⟩ | exact⟨_,_,rfl⟩ | simp [A9,Aq]
 ·intro ex2 s2 hX2
  unfold G8 at hX2
  obtain⟨rfl,n2_0,n2_1⟩:=hX2
  cases h
  simp (maxDischargeDepth:=9) only [↓A8,A1,AE,Ap,A6,↓reduceIte,Nat.reduceEqDiff,Nat.reduceLT,n2_0,n2_1]
def LH:Int→List (List (Int×Int))→List (List (Int×Int))
 | _,[]=>[]
 | k,x::l=>X8 k x.length::LH (k+2*(x.length:Int)) l
theorem ZM(x:List (Int×Int))(l:List (List (Int×Int))):Aw (fE (x::l))=x.length+Aw (fE l):=by
 rw [show fE (x::l)=x.map Prod.fst::fE l from rfl,GK,List.length_map]
theorem NQ(kk:Int): ∀(b a:List (List (Int×Int))) (k:Int),BH b→a.length+b.length<1099511627776→0≤k→k+2*Aw (fE b)<1099511627776→
  E6 kk (k,(a.length:Int),a++b)=some (k+2*Aw (fE b),a++LH k b):=by
 intro b
 induction b with
 | nil=>
  intro a k hb hab hk hkt
  unfold E6
  rw [C5 (r:=(k,a++[]))]
  ·rw [show Aw (fE [])=0 from rfl,Int.mul_zero,Int.add_zero];rfl
  ·simp only [E5];rw [if_neg (LQ _)]
 | cons x b ih=>
  intro a k hb hab hk hkt
  rw [ZM]at hkt
  simp only [List.length_cons]at hab
  have hx:x.length<549755813888:=hb.2 x (List.mem_cons_self ..)
  have ht:=B5 (fE b)
  have:=ih (a++[X8 k x.length]) (k+2*(x.length:Int)) ⟨by omega,fun y hy=>hb.2 y (List.mem_cons_of_mem _ hy)⟩ (by simp;omega) (by omega) (by omega)
  unfold E6 at this ⊢
  have eg:(a++x::b).getD (a.length:Int).toNat default=x:=by rw [Int.toNat_natCast];exact CA a (x::b) a.length rfl (by simp)
  rw [GU (s':=(k+2*(x.length:Int),((a++[X8 k x.length]).length:Int),(a++[X8 k x.length])++b)),this]
  ·rw [ZM,show k+2*(x.length:Int)+2*Aw (fE b)=k+2*(x.length+Aw (fE b)) by omega]
   simp [LH]
  ·simp only [E5]
   rw [if_pos (Kr ..),Ac (Ks ..),Ac (by rw [eg];exact hx),Ac (by rw [eg];omega),eg,Gm _ (by omega),Int.toNat_natCast,List.set_append_right _ _ (Nat.le_refl _),Nat.sub_self,List.set_cons_zero]
   simp
theorem R9(a:List (List (Int×Int)))(k:Int)(ha:BH a)(hk:0≤k∧k+2*Aw (fE a)<1099511627776):J8 a k=some (k+2*Aw (fE a),LH k a):=by
 unfold J8
 have:=NQ k a [] k ha (by have:=ha.1;simp;omega) hk.1 hk.2
 simp only [List.length_nil,List.nil_append,Int.natCast_zero]at this
 rw [this];rfl
theorem RA(a:List (List (Int×Int)))(k:Int)(h0:BH a)(h1:0≤k∧k+2*Aw (fE a)<1099511627776):Y.call 31 [D.vw [100000] 0 0,D.int .i64 k] [D.own 52 (A9 (fun x=>D.own 82 (AO .i64 .i64 x)) a)]=some (D.int .i64 (k+2*Aw (fE a)),[D.own 52 (A9 (fun x=>D.own 82 (AO .i64 .i64 x)) (LH k a))]):=O6 a k (R9 a k h0 h1)
noncomputable def HU(AK:List (List (Int×Int)))(Ao AM:List Int)(k:Int):Option (Int×(List (List (Int×Int)))×(List Int)×(List Int)):=
 ck (BH AK)<|
 ck (0≤k∧k+2*Aw (fE AK)<1099511627776)<|
 ck (Ao.length<1099511627776)<|
 ck (0≤(k+2*Aw (fE AK))∧(k+2*Aw (fE AK))<1099511627776)<|
 ck (AM.length<1099511627776)<|
 ck (0≤((k+2*Aw (fE AK))+Ao.length)∧((k+2*Aw (fE AK))+Ao.length)<1099511627776)<|
 some ((((k+2*Aw (fE AK))+Ao.length)+AM.length),(LH k AK),(upto (k+2*Aw (fE AK)) Ao.length),(upto ((k+2*Aw (fE AK))+Ao.length) AM.length))
def k14:SC:=
 .seq
 (.ops [
 ⟨some 2, .box 37 (.tmp 0),0,none⟩,
 ⟨some 4, .assign (.const (.int .i64 0)),3,none⟩])
 (.seq
 (.ops [
 ⟨some 5, .fieldAddr 37 (.tmp 2) 0,0,none⟩,
 ⟨some 6, .load 35 (.tmp 5),35,none⟩,
 ⟨some 7, .move (.tmp 1),3,none⟩,
 ⟨some 8, .call ⟨(.value (.func 31)), #[(.tmp 6),(.tmp 7)], #[35,3]⟩,3,none⟩,
 ⟨some 1, .assign (.tmp 8),3,none⟩])
 (.seq
 (.ops [
 ⟨some 9, .fieldAddr 37 (.tmp 2) 1,0,none⟩,
 ⟨some 10, .load 26 (.tmp 9),26,none⟩,
 ⟨some 11, .move (.tmp 1),3,none⟩,
 ⟨some 12, .call ⟨(.value (.func 32)), #[(.tmp 10),(.tmp 11)], #[26,3]⟩,3,none⟩,
 ⟨some 1, .assign (.tmp 12),3,none⟩])
 (.seq
 (.ops [
 ⟨some 13, .fieldAddr 37 (.tmp 2) 2,0,none⟩,
 ⟨some 14, .load 26 (.tmp 13),26,none⟩,
 ⟨some 15, .move (.tmp 1),3,none⟩,
 ⟨some 16, .call ⟨(.value (.func 32)), #[(.tmp 14),(.tmp 15)], #[26,3]⟩,3,none⟩,
 ⟨some 1, .assign (.tmp 16),3,none⟩])
 (.seq
 (.ops [
 ⟨some 17, .move (.tmp 1),3,none⟩,
 ⟨some 4, .assign (.tmp 17),3,none⟩])
 .ret))))
theorem nW:Tryz.f14.body.map (Am lends)=some k14:=by kernel_rfl
theorem A5Q:As Tryz.f14 2=true:=by kernel_rfl
theorem UD{a l:List D}{r:D×List D}(h:Av Y.env k14 (fin AJ l.length [ResultVar.tmp 4] r) (entry a l))(ha:a.length=2):Y.call 14 a l=some r:=
 AC (Y:=Y) rfl Tryz.func14 (ha▸A5Q) nW h
theorem MC(AK:List (List (Int×Int)))(Ao AM:List Int)(k:Int){r:Int×(List (List (Int×Int)))×(List Int)×(List Int)}(h:HU AK Ao AM k=some r):Y.call 14 [D.agg [D.vw [100000] 0 0,D.vw [100001] 0 0,D.vw [100002] 0 0],D.int .i64 k] [D.own 52 (A9 (fun x=>D.own 82 (AO .i64 .i64 x)) AK),D.own 3 (A9 (D.int .i64) Ao),D.own 3 (A9 (D.int .i64) AM)]=some (D.int .i64 r.1,[D.own 52 (A9 (fun x=>D.own 82 (AO .i64 .i64 x)) r.2.1),D.own 3 (A9 (D.int .i64) r.2.2.1),D.own 3 (A9 (D.int .i64) r.2.2.2)]):=by
 refine UD ?_ rfl
 unfold k14
 unfold HU at h
 obtain⟨e1,h⟩:=Ae h
 obtain⟨e2,h⟩:=Ae h
 have c3:=RA AK k e1 e2
 obtain⟨e4,h⟩:=Ae h
 obtain⟨e5,h⟩:=Ae h
 have c6:=JC Ao (k+2*Aw (fE AK)) e4 e5
 obtain⟨e7,h⟩:=Ae h
 obtain⟨e8,h⟩:=Ae h
 have c9:=JC AM ((k+2*Aw (fE AK))+Ao.length) e7 e8
 cases h
 simp (maxDischargeDepth:=9) only [↓A8,A1,AE,Ap,A6,AA,↓reduceIte,Nat.reduceEqDiff,Nat.reduceLT,Nat.reduceAdd,Nat.reduceSub,c3,c6,c9]
theorem O7(a:List (List (Int×Int)))(b c:List Int)(k:Int)(ha:BH a)(hb:b.length<1099511627776)(hc:c.length<1099511627776)(hk:0≤k∧k+2*Aw (fE a)+b.length+c.length<1099511627776):
  HU a b c k=some (k+2*Aw (fE a)+b.length+c.length,LH k a,upto (k+2*Aw (fE a)) b.length,upto (k+2*Aw (fE a)+b.length) c.length):=by
 have ht:=B5 (fE a)
 unfold HU
 rw [Ac ha,Ac (by omega),Ac hb,Ac (by omega),Ac hc,Ac (by omega)]
theorem Ji(AK:List (List (Int×Int)))(Ao AM:List Int)(k:Int)(h0:BH AK)(h1:Ao.length<1099511627776)(h2:AM.length<1099511627776)(h3:0≤k∧k+2*Aw (fE AK)+Ao.length+AM.length<1099511627776):Y.call 14 [D.agg [D.vw [100000] 0 0,D.vw [100001] 0 0,D.vw [100002] 0 0],D.int .i64 k] [D.own 52 (A9 (fun x=>D.own 82 (AO .i64 .i64 x)) AK),D.own 3 (A9 (D.int .i64) Ao),D.own 3 (A9 (D.int .i64) AM)]=some (D.int .i64 (k+2*Aw (fE AK)+Ao.length+AM.length),[D.own 52 (A9 (fun x=>D.own 82 (AO .i64 .i64 x)) (LH k AK)),D.own 3 (A9 (D.int .i64) (upto (k+2*Aw (fE AK)) Ao.length)),D.own 3 (A9 (D.int .i64) (upto (k+2*Aw (fE AK)+Ao.length) AM.length))]):=MC AK Ao AM k (O7 AK Ao AM k h0 h1 h2 h3)
end Go.Proofs.YtipfckompmhljaaGreat
