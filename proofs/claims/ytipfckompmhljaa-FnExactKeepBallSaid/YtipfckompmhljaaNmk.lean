/- Networks marked, and marks held, as plain functions. Conditions: the lists are short. -/
import Derived.Test.YtipfckompmhljaaL6
import Derived.Test.YtipfckompmhljaaNis
namespace Go.Proofs.Ytipfckompmhljaa
open Go Dv
set_option linter.unusedSimpArgs false
set_option linter.unusedVariables false
set_option maxRecDepth 100000
set_option maxHeartbeats 4000000
def Q4(k:Int)(n:Nat):List (Int×Int):=(List.range n).map fun(i:Nat)=>(k+2*(i:Int),k+2*(i:Int)+1)
theorem MO(k:Int)(n:Nat):(Q4 k n).length=n:=by simp [Q4]
theorem o9(k:Int)(n:Nat):Q4 k (n+1)=Q4 k n++[(k+2*(n:Int),k+2*(n:Int)+1)]:=by simp [Q4,List.range_succ]
theorem A2f{α:Type}(A xs:List α)(i:Nat)(v:α)(hA:A.length=i)(h:i<xs.length):(A++xs.drop i).set i v=(A++[v])++xs.drop (i+1):=by
 rw [List.set_append_right _ _ (by omega),hA,Nat.sub_self,List.drop_eq_getElem_cons h,List.set_cons_zero,List.append_assoc];rfl
theorem oC(t:List (Int×Int))(i:Nat)(p:Int×Int)(h:i<t.length):BB (t.set i p) i=p.1:=by
 unfold BB
 simp [List.getD_eq_getElem?_getD,h]
theorem rP(k:Int)(n i:Nat)(h:i<n):BB (Q4 k n) i=k+2*(i:Int):=by
 unfold BB
 rw [Av _ _ (by rw [MO];exact h)];simp [Q4]
theorem rQ(k:Int)(n i:Nat)(h:i<n):Bt (Q4 k n) i=k+2*(i:Int)+1:=by
 unfold Bt
 rw [Av _ _ (by rw [MO];exact h)];simp [Q4]
noncomputable def EC(k:Int)(k1:Int)(i:Int)(BC:List (Int×Int)):Option ((Int×Int×(List (Int×Int)))⊕(Int×(List (Int×Int)))):=
 if i<(BC.length:Int)then
  ck (0≤i∧i.toNat<BC.length)<|
  ck (0≤i∧i.toNat<(BC.set i.toNat (k1,(Bt BC i.toNat))).length)<|
  some (Sum.inl (IntKind.i64.wrap ((IntKind.i64.wrap (k1+1))+1),IntKind.i64.wrap (i+1),((BC.set i.toNat (k1,(Bt BC i.toNat))).set i.toNat ((BB (BC.set i.toNat (k1,(Bt BC i.toNat))) i.toNat),IntKind.i64.wrap (k1+1)))))
 else
  some (Sum.inr (k1,BC))
noncomputable def JN(k:Int)(v:Int×Int×(List (Int×Int))):Option (Int×(List (Int×Int))):=Hy (fun v=>EC k v.1 v.2.1 v.2.2) v
noncomputable def MP(a:List (Int×Int))(k:Int):Option (Int×(List (Int×Int))):=
 (JN k (k,0,a)).bind fun Be=>
 some (Be.1,Be.2)
def Xh:SC:=
 .seq
 (.seq
 (.ops [
 ⟨(some 6),(.move (.tmp 5)),3,none⟩,
 ⟨(some 7),(.move (.tmp 0)),100,none⟩,
 ⟨(some 8),(.call ⟨(.builtin .len), #[(.tmp 7)], #[100]⟩),3,none⟩,
 ⟨(some 9),(.binOp .lss 3 (.tmp 6) (.tmp 8) 3),4,none⟩])
 (.cond (.tmp 9)
 .skip
 (.exit 0)))
 (.seq
 (.block 1
 (.seq
 (.ops [
 ⟨(some 12),(.move (.tmp 0)),100,none⟩,
 ⟨(some 13),(.move (.tmp 5)),3,none⟩,
 ⟨(some 14),(.move (.tmp 1)),3,none⟩,
 ⟨(some 15),(.indexAddr 100 (.tmp 12) (.tmp 13)),0,none⟩,
 ⟨(some 16),(.fieldAddr 102 (.tmp 15) 0),0,none⟩,
 ⟨none,(.store 3 (.tmp 16) (.tmp 14)),0,none⟩])
 (.seq
 (.ops [
 ⟨(some 17),(.move (.tmp 1)),3,none⟩,
 ⟨(some 18),(.binOp .add 3 (.tmp 17) (.const (.int .i64 1)) 3),3,none⟩,
 ⟨(some 1),(.assign (.tmp 18)),3,none⟩])
 (.seq
 (.ops [
 ⟨(some 19),(.move (.tmp 0)),100,none⟩,
 ⟨(some 20),(.move (.tmp 5)),3,none⟩,
 ⟨(some 21),(.move (.tmp 1)),3,none⟩,
 ⟨(some 22),(.indexAddr 100 (.tmp 19) (.tmp 20)),0,none⟩,
 ⟨(some 23),(.fieldAddr 102 (.tmp 22) 1),0,none⟩,
 ⟨none,(.store 3 (.tmp 23) (.tmp 21)),0,none⟩])
 (.ops [
 ⟨(some 24),(.move (.tmp 1)),3,none⟩,
 ⟨(some 25),(.binOp .add 3 (.tmp 24) (.const (.int .i64 1)) 3),3,none⟩,
 ⟨(some 1),(.assign (.tmp 25)),3,none⟩])))))
 (.ops [
 ⟨(some 10),(.move (.tmp 5)),3,none⟩,
 ⟨(some 11),(.binOp .add 3 (.tmp 10) (.const (.int .i64 1)) 3),3,none⟩,
 ⟨(some 5),(.assign (.tmp 11)),3,none⟩]))
def oD:SC:= .loop Xh
def k97:SC:=
 .seq
 (.ops [
 ⟨(some 4),(.assign (.const (.int .i64 0))),3,none⟩])
 (.seq
 (.seq
 (.ops [
 ⟨(some 5),(.assign (.const (.int .i64 0))),3,none⟩])
 (.block 0
 oD))
 (.seq
 (.ops [
 ⟨(some 26),(.move (.tmp 1)),3,none⟩,
 ⟨(some 4),(.assign (.tmp 26)),3,none⟩])
 .ret))
theorem A2g:Try.f97.body.map (Bh lends)=some k97:=by kernel_rfl
theorem AHi:CB Try.f97 2=true:=by kernel_rfl
theorem c97{a l:List D}{r:D×List D}(h:Bq Y.env k97 (fin AX l.length [ResultVar.tmp 4] r) (entry a l))(ha:a.length=2):Y.call 97 a l=some r:=
 AU (Y:=Y) rfl Try.func97 (ha▸AHi) A2g h
def ED(k:Int)(k1:Int)(i:Int)(BC:List (Int×Int))(s:St):Prop:=(∃w_,s.v 0=D.vw [100000] (s.k 100000) w_)∧s.v 1=D.int .i64 k1∧s.v 5=D.int .i64 i∧s.v 100000=D.own 102 (AY .i64 .i64 BC)
def IG(k:Int)(r:Int×(List (Int×Int)))(ex:Ex)(s:St):Prop:=ex= .exit 0∧s.v 1=D.int .i64 r.1∧s.v 100000=D.own 102 (AY .i64 .i64 r.2)
theorem Q5(k:Int){v:Int×Int×(List (Int×Int))}{s:St}{r:Int×(List (Int×Int))}(h:JN k v=some r)(hM:ED k v.1 v.2.1 v.2.2 s):Bq Y.env oD (IG k r) s:=by
 unfold JN at h
 refine BN (c:=Xh) (fun v=>EC k v.1 v.2.1 v.2.2) (fun v s=>ED k v.1 v.2.1 v.2.2 s) (IG k) ?_ h hM
 clear h hM s v r
 intro v s o hM h
 obtain⟨k1,i,BC⟩:=v
 dsimp only at h hM
 unfold EC at h
 unfold ED at hM
 obtain⟨⟨w0_,m0⟩,m1,m2,m3⟩:=hM
 unfold Xh
 by_cases e1:i<(BC.length:Int)
 ·rw [if_pos e1]at h
  obtain⟨e2,h⟩:=BF h
  obtain⟨e3,h⟩:=BF h
  obtain rfl:=Option.some.inj h
  simp (maxDischargeDepth:=9) only [↓AO,AB,BP,AJ,AQ,↓reduceIte,Nat.reduceEqDiff,Nat.reduceLT,m0,m1,m2,m3,e1,e2.1,e2.2,ED,Ik]<;>(repeat' apply And.intro)<;>first | rfl | exact⟨_,rfl⟩ | exact⟨_,_,rfl⟩ | simp [AP,Bu]
 ·rw [if_neg e1]at h
  obtain rfl:=Option.some.inj h
  simp (maxDischargeDepth:=9) only [↓AO,AB,BP,AJ,AQ,↓reduceIte,Nat.reduceEqDiff,Nat.reduceLT,m0,m1,m2,m3,e1,ED,IG,KF]
theorem R9(a:List (Int×Int))(k:Int){r:Int×(List (Int×Int))}(h:MP a k=some r):Y.call 97 [D.vw [100000] 0 0,D.int .i64 k] [D.own 102 (AY .i64 .i64 a)]=some (D.int .i64 r.1,[D.own 102 (AY .i64 .i64 r.2)]):=by
 refine c97 ?_ rfl
 unfold k97
 unfold MP at h
 obtain⟨Be,hl2,h⟩:=Ao h
 try dsimp only at h
 simp (maxDischargeDepth:=9) only [↓AO,AB,AJ,AQ,↓reduceIte,Nat.reduceEqDiff,Nat.reduceLT,Nat.reduceAdd]
 refine Ay (Q5 k hl2 ?_) ?_
 ·simp (maxDischargeDepth:=9) only [AB,AJ,↓reduceIte,Nat.reduceEqDiff,Nat.reduceLT,Nat.reduceSub,ED]<;>(repeat' apply And.intro)<;>first | rfl | exact⟨_,rfl⟩ | exact⟨_,_,rfl⟩ | simp [AP,Bu]
 ·intro ex2 s2 hX2
  unfold IG at hX2
  obtain⟨rfl,n2_0,n2_1⟩:=hX2
  obtain rfl:=Option.some.inj h
  simp (maxDischargeDepth:=9) only [↓AO,AB,BP,AJ,↓reduceIte,Nat.reduceEqDiff,Nat.reduceLT,n2_0,n2_1]
theorem Um(a:List (Int×Int))(k:Int)(ha:a.length<549755813888)(hk:0≤k∧k+2*(a.length:Int)<1099511627776):MP a k=some (k+2*(a.length:Int),Q4 k a.length):=by
 have key:=Bd (fun v=>EC k v.1 v.2.1 v.2.2) (fun i=>(k+2*(i:Int),(i:Int),Q4 k i++a.drop i)) a.length (k+2*(a.length:Int),Q4 k a.length) ?_ ?_
 ·unfold MP JN
  have e0:Q4 k 0=[]:=rfl
  simp only [Int.natCast_zero,Int.mul_zero,Int.add_zero,List.drop_zero,e0,List.nil_append]at key
  rw [key];rfl
 ·intro i hi
  simp only [EC]
  have el:(Q4 k i++a.drop i).length=a.length:=by simp [MO];omega
  rw [el,if_pos (BV hi),BL (Ew hi),Int.toNat_natCast,BL (by rw [List.length_set,el];omega),oC _ _ _ (by rw [el];exact hi),List.set_set,KH i (by omega),LP (k+2*(i:Int)+1) (by omega),LP (k+2*(i:Int)+1+1) (by omega),A2f _ _ _ _ (MO k i) hi,←o9]
  rw [show k+2*(i:Int)+1+1=k+2*((i+1:Nat):Int) by omega]
 ·simp only [EC]
  have el:(Q4 k a.length++a.drop a.length).length=a.length:=by simp [MO]
  rw [el,if_neg (Ag _)];simp
theorem Un(a:List (Int×Int))(k:Int)(h0:a.length<549755813888)(h1:0≤k∧k+2*(a.length:Int)<1099511627776):Y.call 97 [D.vw [100000] 0 0,D.int .i64 k] [D.own 102 (AY .i64 .i64 a)]=some (D.int .i64 (k+2*(a.length:Int)),[D.own 102 (AY .i64 .i64 (Q4 k a.length))]):=R9 a k (Um a k h0 h1)
noncomputable def F8(k:Int)(k1:Int)(i:Int)(BC:List (List (Int×Int))):Option ((Int×Int×(List (List (Int×Int))))⊕(Int×(List (List (Int×Int))))):=
 if i<(BC.length:Int)then
  ck (0≤i∧i.toNat<BC.length)<|
  ck ((BC.getD i.toNat default).length<549755813888)<|
  ck (0≤k1∧k1+2*((BC.getD i.toNat default).length:Int)<1099511627776)<|
  some (Sum.inl ((k1+2*((BC.getD i.toNat default).length:Int)),IntKind.i64.wrap (i+1),(BC.set i.toNat (Q4 k1 (BC.getD i.toNat default).length))))
 else
  some (Sum.inr (k1,BC))
noncomputable def F9(k:Int)(v:Int×Int×(List (List (Int×Int)))):Option (Int×(List (List (Int×Int)))):=Hy (fun v=>F8 k v.1 v.2.1 v.2.2) v
noncomputable def LG(a:List (List (Int×Int)))(k:Int):Option (Int×(List (List (Int×Int)))):=
 (F9 k (k,0,a)).bind fun Be=>
 some (Be.1,Be.2)
def Xi:SC:=
 .seq
 (.seq
 (.ops [
 ⟨(some 6),(.move (.tmp 5)),3,none⟩,
 ⟨(some 7),(.move (.tmp 0)),29,none⟩,
 ⟨(some 8),(.call ⟨(.builtin .len), #[(.tmp 7)], #[29]⟩),3,none⟩,
 ⟨(some 9),(.binOp .lss 3 (.tmp 6) (.tmp 8) 3),4,none⟩])
 (.cond (.tmp 9)
 .skip
 (.exit 0)))
 (.seq
 (.block 1
 (.ops [
 ⟨(some 12),(.move (.tmp 0)),29,none⟩,
 ⟨(some 13),(.move (.tmp 5)),3,none⟩,
 ⟨(some 14),(.indexAddr 29 (.tmp 12) (.tmp 13)),0,none⟩,
 ⟨(some 15),(.load 100 (.tmp 14)),100,none⟩,
 ⟨(some 16),(.move (.tmp 1)),3,none⟩,
 ⟨(some 17),(.call ⟨(.value (.func 97)), #[(.tmp 15),(.tmp 16)], #[100,3]⟩),3,none⟩,
 ⟨(some 1),(.assign (.tmp 17)),3,none⟩]))
 (.ops [
 ⟨(some 10),(.move (.tmp 5)),3,none⟩,
 ⟨(some 11),(.binOp .add 3 (.tmp 10) (.const (.int .i64 1)) 3),3,none⟩,
 ⟨(some 5),(.assign (.tmp 11)),3,none⟩]))
def oF:SC:= .loop Xi
def k48:SC:=
 .seq
 (.ops [
 ⟨(some 4),(.assign (.const (.int .i64 0))),3,none⟩])
 (.seq
 (.seq
 (.ops [
 ⟨(some 5),(.assign (.const (.int .i64 0))),3,none⟩])
 (.block 0
 oF))
 (.seq
 (.ops [
 ⟨(some 18),(.move (.tmp 1)),3,none⟩,
 ⟨(some 4),(.assign (.tmp 18)),3,none⟩])
 .ret))
theorem A2h:Try.f48.body.map (Bh lends)=some k48:=by kernel_rfl
theorem AHk:CB Try.f48 2=true:=by kernel_rfl
theorem rR{a l:List D}{r:D×List D}(h:Bq Y.env k48 (fin AX l.length [ResultVar.tmp 4] r) (entry a l))(ha:a.length=2):Y.call 48 a l=some r:=
 AU (Y:=Y) rfl Try.func48 (ha▸AHk) A2h h
def Dq(k:Int)(k1:Int)(i:Int)(BC:List (List (Int×Int)))(s:St):Prop:=(∃w_,s.v 0=D.vw [100000] (s.k 100000) w_)∧s.v 1=D.int .i64 k1∧s.v 5=D.int .i64 i∧s.v 100000=D.own 100 (AP (fun x=>D.own 102 (AY .i64 .i64 x)) BC)
def Hl(k:Int)(r:Int×(List (List (Int×Int))))(ex:Ex)(s:St):Prop:=ex= .exit 0∧s.v 1=D.int .i64 r.1∧s.v 100000=D.own 100 (AP (fun x=>D.own 102 (AY .i64 .i64 x)) r.2)
theorem PP(k:Int){v:Int×Int×(List (List (Int×Int)))}{s:St}{r:Int×(List (List (Int×Int)))}(h:F9 k v=some r)(hM:Dq k v.1 v.2.1 v.2.2 s):Bq Y.env oF (Hl k r) s:=by
 unfold F9 at h
 refine BN (c:=Xi) (fun v=>F8 k v.1 v.2.1 v.2.2) (fun v s=>Dq k v.1 v.2.1 v.2.2 s) (Hl k) ?_ h hM
 clear h hM s v r
 intro v s o hM h
 obtain⟨k1,i,BC⟩:=v
 dsimp only at h hM
 unfold F8 at h
 unfold Dq at hM
 obtain⟨⟨w0_,m0⟩,m1,m2,m3⟩:=hM
 unfold Xi
 by_cases e1:i<(BC.length:Int)
 ·rw [if_pos e1]at h
  obtain⟨e2,h⟩:=BF h
  obtain⟨e3,h⟩:=BF h
  obtain⟨e4,h⟩:=BF h
  have c5:=Un (BC.getD i.toNat default) k1 e3 e4
  obtain rfl:=Option.some.inj h
  simp (maxDischargeDepth:=9) only [↓AO,AB,Ac,BP,AJ,AQ,↓reduceIte,Nat.reduceEqDiff,Nat.reduceLT,Nat.reduceAdd,m0,m1,m2,m3,e1,e2.1,e2.2,c5,Dq,Ik]<;>(repeat' apply And.intro)<;>first | rfl | exact⟨_,rfl⟩ | exact⟨_,_,rfl⟩ | simp [AP,Bu]
 ·rw [if_neg e1]at h
  obtain rfl:=Option.some.inj h
  simp (maxDischargeDepth:=9) only [↓AO,AB,Ac,AJ,AQ,↓reduceIte,Nat.reduceEqDiff,Nat.reduceLT,m0,m1,m2,m3,e1,Dq,Hl,KF]
theorem Q6(a:List (List (Int×Int)))(k:Int){r:Int×(List (List (Int×Int)))}(h:LG a k=some r):Y.call 48 [D.vw [100000] 0 0,D.int .i64 k] [D.own 100 (AP (fun x=>D.own 102 (AY .i64 .i64 x)) a)]=some (D.int .i64 r.1,[D.own 100 (AP (fun x=>D.own 102 (AY .i64 .i64 x)) r.2)]):=by
 refine rR ?_ rfl
 unfold k48
 unfold LG at h
 obtain⟨Be,hl2,h⟩:=Ao h
 try dsimp only at h
 simp (maxDischargeDepth:=9) only [↓AO,AB,AJ,AQ,↓reduceIte,Nat.reduceEqDiff,Nat.reduceLT,Nat.reduceAdd]
 refine Ay (PP k hl2 ?_) ?_
 ·simp (maxDischargeDepth:=9) only [AB,AJ,↓reduceIte,Nat.reduceEqDiff,Nat.reduceLT,Nat.reduceSub,Dq]<;>(repeat' apply And.intro)<;>first | rfl | exact⟨_,rfl⟩ | exact⟨_,_,rfl⟩ | simp [AP,Bu]
 ·intro ex2 s2 hX2
  unfold Hl at hX2
  obtain⟨rfl,n2_0,n2_1⟩:=hX2
  obtain rfl:=Option.some.inj h
  simp (maxDischargeDepth:=9) only [↓AO,AB,Ac,BP,AJ,↓reduceIte,Nat.reduceEqDiff,Nat.reduceLT,n2_0,n2_1]
def Cs:Int→List (List (Int×Int))→List (List (Int×Int))
 | _,[]=>[]
 | k,x::l=>Q4 k x.length::Cs (k+2*(x.length:Int)) l
theorem PQ(x:List (Int×Int))(l:List (List (Int×Int))):BK (fE (x::l))=x.length+BK (fE l):=by
 rw [show fE (x::l)=x.map Prod.fst::fE l from rfl,NG,List.length_map]
theorem PR(kk:Int): ∀(b a:List (List (Int×Int))) (k:Int),BX b→a.length+b.length<1099511627776→0≤k→k+2*BK (fE b)<1099511627776→
  F9 kk (k,(a.length:Int),a++b)=some (k+2*BK (fE b),a++Cs k b):=by
 intro b
 induction b with
 | nil=>
  intro a k hb hab hk hkt
  unfold F9
  rw [IX (r:=(k,a++[]))]
  ·rw [show BK (fE [])=0 from rfl,Int.mul_zero,Int.add_zero];rfl
  ·simp only [F8];rw [if_neg (We _)]
 | cons x b ih=>
  intro a k hb hab hk hkt
  rw [PQ]at hkt
  simp only [List.length_cons]at hab
  have hx:x.length<549755813888:=hb.2 x (List.mem_cons_self ..)
  have ht:=Dw (fE b)
  have:=ih (a++[Q4 k x.length]) (k+2*(x.length:Int)) ⟨by omega,fun y hy=>hb.2 y (List.mem_cons_of_mem _ hy)⟩ (by simp;omega) (by omega) (by omega)
  unfold F9 at this ⊢
  have eg:(a++x::b).getD (a.length:Int).toNat default=x:=by rw [Int.toNat_natCast];exact KW a (x::b) a.length rfl (by simp)
  rw [Ku (s':=(k+2*(x.length:Int),((a++[Q4 k x.length]).length:Int),(a++[Q4 k x.length])++b)),this]
  ·rw [PQ,show k+2*(x.length:Int)+2*BK (fE b)=k+2*(x.length+BK (fE b)) by omega]
   simp [Cs]
  ·simp only [F8]
   rw [if_pos (WZ ..),BL (Wd ..),BL (by rw [eg];exact hx),BL (by rw [eg];omega),eg,KH _ (by omega),Int.toNat_natCast,List.set_append_right _ _ (Nat.le_refl _),Nat.sub_self,List.set_cons_zero]
   simp
theorem Tf(a:List (List (Int×Int)))(k:Int)(ha:BX a)(hk:0≤k∧k+2*BK (fE a)<1099511627776):LG a k=some (k+2*BK (fE a),Cs k a):=by
 unfold LG
 have:=PR k a [] k ha (by have:=ha.1;simp;omega) hk.1 hk.2
 simp only [List.length_nil,List.nil_append,Int.natCast_zero]at this
 rw [this];rfl
theorem Tg(a:List (List (Int×Int)))(k:Int)(h0:BX a)(h1:0≤k∧k+2*BK (fE a)<1099511627776):Y.call 48 [D.vw [100000] 0 0,D.int .i64 k] [D.own 100 (AP (fun x=>D.own 102 (AY .i64 .i64 x)) a)]=some (D.int .i64 (k+2*BK (fE a)),[D.own 100 (AP (fun x=>D.own 102 (AY .i64 .i64 x)) (Cs k a))]):=Q6 a k (Tf a k h0 h1)
noncomputable def EE(a:List (Int×Int))(k1:Int)(i:Int):Option ((Int×Int)⊕(Unit⊕Int)):=
 if i<(a.length:Int)then
  ck (0≤i∧i.toNat<a.length)<|
  if(BB a i.toNat)=k1 then
   if(Bt a i.toNat)=(IntKind.i64.wrap (k1+1))then
    some (Sum.inl (IntKind.i64.wrap ((IntKind.i64.wrap (k1+1))+1),IntKind.i64.wrap (i+1)))
   else
    some (Sum.inr (Sum.inl ()))
  else
   some (Sum.inr (Sum.inl ()))
 else
  some (Sum.inr (Sum.inr k1))
noncomputable def JO(a:List (Int×Int))(v:Int×Int):Option (Unit⊕Int):=Hy (fun v=>EE a v.1 v.2) v
noncomputable def Ki(a:List (Int×Int))(k:Int):Option (Int):=
 (JO a (k,0)).bind fun Be=>
 match Be with
 | .inl q2_=>
  some (-1)
 | .inr q2_=>
  some q2_
def Xj:SC:=
 .seq
 (.seq
 (.ops [
 ⟨(some 6),(.move (.tmp 5)),3,none⟩,
 ⟨(some 7),(.move (.tmp 0)),100,none⟩,
 ⟨(some 8),(.call ⟨(.builtin .len), #[(.tmp 7)], #[100]⟩),3,none⟩,
 ⟨(some 9),(.binOp .lss 3 (.tmp 6) (.tmp 8) 3),4,none⟩])
 (.cond (.tmp 9)
 .skip
 (.exit 0)))
 (.seq
 (.block 1
 (.seq
 (.seq
 (.ops [
 ⟨(some 12),(.move (.tmp 0)),100,none⟩,
 ⟨(some 13),(.move (.tmp 5)),3,none⟩,
 ⟨(some 14),(.indexAddr 100 (.tmp 12) (.tmp 13)),0,none⟩,
 ⟨(some 15),(.fieldAddr 102 (.tmp 14) 0),0,none⟩,
 ⟨(some 16),(.load 3 (.tmp 15)),3,none⟩,
 ⟨(some 17),(.move (.tmp 1)),3,none⟩,
 ⟨(some 18),(.binOp .neq 3 (.tmp 16) (.tmp 17) 3),4,none⟩])
 (.cond (.tmp 18)
 (.seq
 (.ops [
 ⟨(some 4),(.assign (.const (.int .i64 (-1)))),3,none⟩])
 .ret)
 .skip))
 (.seq
 (.ops [
 ⟨(some 19),(.move (.tmp 1)),3,none⟩,
 ⟨(some 20),(.binOp .add 3 (.tmp 19) (.const (.int .i64 1)) 3),3,none⟩,
 ⟨(some 1),(.assign (.tmp 20)),3,none⟩])
 (.seq
 (.seq
 (.ops [
 ⟨(some 21),(.move (.tmp 0)),100,none⟩,
 ⟨(some 22),(.move (.tmp 5)),3,none⟩,
 ⟨(some 23),(.indexAddr 100 (.tmp 21) (.tmp 22)),0,none⟩,
 ⟨(some 24),(.fieldAddr 102 (.tmp 23) 1),0,none⟩,
 ⟨(some 25),(.load 3 (.tmp 24)),3,none⟩,
 ⟨(some 26),(.move (.tmp 1)),3,none⟩,
 ⟨(some 27),(.binOp .neq 3 (.tmp 25) (.tmp 26) 3),4,none⟩])
 (.cond (.tmp 27)
 (.seq
 (.ops [
 ⟨(some 4),(.assign (.const (.int .i64 (-1)))),3,none⟩])
 .ret)
 .skip))
 (.ops [
 ⟨(some 28),(.move (.tmp 1)),3,none⟩,
 ⟨(some 29),(.binOp .add 3 (.tmp 28) (.const (.int .i64 1)) 3),3,none⟩,
 ⟨(some 1),(.assign (.tmp 29)),3,none⟩])))))
 (.ops [
 ⟨(some 10),(.move (.tmp 5)),3,none⟩,
 ⟨(some 11),(.binOp .add 3 (.tmp 10) (.const (.int .i64 1)) 3),3,none⟩,
 ⟨(some 5),(.assign (.tmp 11)),3,none⟩]))
def oG:SC:= .loop Xj
def k98:SC:=
 .seq
 (.ops [
 ⟨(some 4),(.assign (.const (.int .i64 0))),3,none⟩])
 (.seq
 (.seq
 (.ops [
 ⟨(some 5),(.assign (.const (.int .i64 0))),3,none⟩])
 (.block 0
 oG))
 (.seq
 (.ops [
 ⟨(some 30),(.move (.tmp 1)),3,none⟩,
 ⟨(some 4),(.assign (.tmp 30)),3,none⟩])
 .ret))
theorem A2i:Try.f98.body.map (Bh lends)=some k98:=by kernel_rfl
theorem AHm:CB Try.f98 2=true:=by kernel_rfl
theorem c98{a l:List D}{r:D×List D}(h:Bq Y.env k98 (fin AX l.length [ResultVar.tmp 4] r) (entry a l))(ha:a.length=2):Y.call 98 a l=some r:=
 AU (Y:=Y) rfl Try.func98 (ha▸AHm) A2i h
def D6(a:List (Int×Int))(k1:Int)(i:Int)(s:St):Prop:=s.v 0=D.sl 102 (AY .i64 .i64 a)∧s.v 1=D.int .i64 k1∧s.v 5=D.int .i64 i
def DY(a:List (Int×Int))(r:Unit⊕Int)(ex:Ex)(s:St):Prop:=match r with
 | .inl q=>ex= .ret∧s.v 4=D.int .i64 (-1)
 | .inr q=>ex= .exit 0∧s.v 1=D.int .i64 q
theorem Q7(a:List (Int×Int)){v:Int×Int}{s:St}{r:Unit⊕Int}(h:JO a v=some r)(hM:D6 a v.1 v.2 s):Bq Y.env oG (DY a r) s:=by
 unfold JO at h
 refine BN (c:=Xj) (fun v=>EE a v.1 v.2) (fun v s=>D6 a v.1 v.2 s) (DY a) ?_ h hM
 clear h hM s v r
 intro v s o hM h
 obtain⟨k1,i⟩:=v
 dsimp only at h hM
 unfold EE at h
 unfold D6 at hM
 obtain⟨m0,m1,m2⟩:=hM
 unfold Xj
 by_cases e1:i<(a.length:Int)
 ·rw [if_pos e1]at h
  obtain⟨e2,h⟩:=BF h
  by_cases e3:(BB a i.toNat)=k1
  ·rw [if_pos e3]at h
   by_cases e4:(Bt a i.toNat)=(IntKind.i64.wrap (k1+1))
   ·rw [if_pos e4]at h
    obtain rfl:=Option.some.inj h
    simp (maxDischargeDepth:=9) only [↓AO,AB,BP,AJ,AQ,↓reduceIte,Nat.reduceEqDiff,Nat.reduceLT,Int.reduceNeg,m0,m1,m2,e1,e2.1,e2.2,decide_eq_true e3,decide_eq_true e4,D6,Ik]
   ·rw [if_neg e4]at h
    obtain rfl:=Option.some.inj h
    simp (maxDischargeDepth:=9) only [↓AO,AB,BP,AJ,AQ,↓reduceIte,Nat.reduceEqDiff,Nat.reduceLT,Int.reduceNeg,m0,m1,m2,e1,e2.1,e2.2,decide_eq_true e3,e4,D6,DY,Qp]
  ·rw [if_neg e3]at h
   obtain rfl:=Option.some.inj h
   simp (maxDischargeDepth:=9) only [↓AO,AB,BP,AJ,AQ,↓reduceIte,Nat.reduceEqDiff,Nat.reduceLT,Int.reduceNeg,m0,m1,m2,e1,e2.1,e2.2,e3,D6,DY,Qp]
 ·rw [if_neg e1]at h
  obtain rfl:=Option.some.inj h
  simp (maxDischargeDepth:=9) only [↓AO,AB,BP,AQ,↓reduceIte,Nat.reduceEqDiff,Nat.reduceLT,Int.reduceNeg,m0,m1,m2,e1,D6,DY,KF]
theorem RA(a:List (Int×Int))(k:Int){r:Int}(h:Ki a k=some r):Y.call 98 [D.sl 102 (AY .i64 .i64 a),D.int .i64 k] []=some (D.int .i64 r,[]):=by
 refine c98 ?_ rfl
 unfold k98
 unfold Ki at h
 obtain⟨Be,hl2,h⟩:=Ao h
 try dsimp only at h
 simp (maxDischargeDepth:=9) only [↓AO,AB,AJ,AQ,↓reduceIte,Nat.reduceEqDiff,Nat.reduceLT]
 refine Ay (Q7 a hl2 ?_) ?_
 ·simp (maxDischargeDepth:=9) only [AB,AJ,↓reduceIte,Nat.reduceEqDiff,Nat.reduceLT,D6]
 ·intro ex2 s2 hX2
  rcases Be with q2_ | q2_
  ·unfold DY at hX2
   dsimp only at hX2 h
   obtain⟨rfl,n2_0⟩:=hX2
   obtain rfl:=Option.some.inj h
   simp (maxDischargeDepth:=9) only [↓AO,AB,AJ,↓reduceIte,Int.reduceNeg,n2_0]
  ·unfold DY at hX2
   dsimp only at hX2 h
   obtain⟨rfl,n2_0⟩:=hX2
   obtain rfl:=Option.some.inj h
   simp (maxDischargeDepth:=9) only [↓AO,AB,AJ,↓reduceIte,Nat.reduceEqDiff,Nat.reduceLT,n2_0]
noncomputable def FB(a:List (List (Int×Int)))(k1:Int)(i:Int):Option ((Int×Int)⊕(Unit⊕Int)):=
 if i<(a.length:Int)then
  ck (0≤i∧i.toNat<a.length)<|
  (Ki (a.getD i.toNat default) k1).bind fun FD=>
  if FD<0 then
   some (Sum.inr (Sum.inl ()))
  else
   some (Sum.inl (FD,IntKind.i64.wrap (i+1)))
 else
  some (Sum.inr (Sum.inr k1))
noncomputable def FC(a:List (List (Int×Int)))(v:Int×Int):Option (Unit⊕Int):=Hy (fun v=>FB a v.1 v.2) v
noncomputable def Jo(a:List (List (Int×Int)))(k:Int):Option (Int):=
 (FC a (k,0)).bind fun Be=>
 match Be with
 | .inl q2_=>
  some (-1)
 | .inr q2_=>
  some q2_
def Xk:SC:=
 .seq
 (.seq
 (.ops [
 ⟨(some 6),(.move (.tmp 5)),3,none⟩,
 ⟨(some 7),(.move (.tmp 0)),29,none⟩,
 ⟨(some 8),(.call ⟨(.builtin .len), #[(.tmp 7)], #[29]⟩),3,none⟩,
 ⟨(some 9),(.binOp .lss 3 (.tmp 6) (.tmp 8) 3),4,none⟩])
 (.cond (.tmp 9)
 .skip
 (.exit 0)))
 (.seq
 (.block 1
 (.seq
 (.ops [
 ⟨(some 12),(.move (.tmp 0)),29,none⟩,
 ⟨(some 13),(.move (.tmp 5)),3,none⟩,
 ⟨(some 14),(.indexAddr 29 (.tmp 12) (.tmp 13)),0,none⟩,
 ⟨(some 15),(.load 100 (.tmp 14)),100,none⟩,
 ⟨(some 16),(.move (.tmp 1)),3,none⟩,
 ⟨(some 17),(.call ⟨(.value (.func 98)), #[(.tmp 15),(.tmp 16)], #[100,3]⟩),3,none⟩,
 ⟨(some 1),(.assign (.tmp 17)),3,none⟩])
 (.seq
 (.ops [
 ⟨(some 18),(.move (.tmp 1)),3,none⟩,
 ⟨(some 19),(.binOp .lss 3 (.tmp 18) (.const (.int .i64 0)) 3),4,none⟩])
 (.cond (.tmp 19)
 (.seq
 (.ops [
 ⟨(some 4),(.assign (.const (.int .i64 (-1)))),3,none⟩])
 .ret)
 .skip))))
 (.ops [
 ⟨(some 10),(.move (.tmp 5)),3,none⟩,
 ⟨(some 11),(.binOp .add 3 (.tmp 10) (.const (.int .i64 1)) 3),3,none⟩,
 ⟨(some 5),(.assign (.tmp 11)),3,none⟩]))
def oH:SC:= .loop Xk
def k49:SC:=
 .seq
 (.ops [
 ⟨(some 4),(.assign (.const (.int .i64 0))),3,none⟩])
 (.seq
 (.seq
 (.ops [
 ⟨(some 5),(.assign (.const (.int .i64 0))),3,none⟩])
 (.block 0
 oH))
 (.seq
 (.ops [
 ⟨(some 20),(.move (.tmp 1)),3,none⟩,
 ⟨(some 4),(.assign (.tmp 20)),3,none⟩])
 .ret))
theorem A2j:Try.f49.body.map (Bh lends)=some k49:=by kernel_rfl
theorem AHo:CB Try.f49 2=true:=by kernel_rfl
theorem c49{a l:List D}{r:D×List D}(h:Bq Y.env k49 (fin AX l.length [ResultVar.tmp 4] r) (entry a l))(ha:a.length=2):Y.call 49 a l=some r:=
 AU (Y:=Y) rfl Try.func49 (ha▸AHo) A2j h
def DF(a:List (List (Int×Int)))(k1:Int)(i:Int)(s:St):Prop:=s.v 0=D.sl 100 (AP (fun x=>D.sl 102 (AY .i64 .i64 x)) a)∧s.v 1=D.int .i64 k1∧s.v 5=D.int .i64 i
def Dr(a:List (List (Int×Int)))(r:Unit⊕Int)(ex:Ex)(s:St):Prop:=match r with
 | .inl q=>ex= .ret∧s.v 4=D.int .i64 (-1)
 | .inr q=>ex= .exit 0∧s.v 1=D.int .i64 q
theorem PS(a:List (List (Int×Int))){v:Int×Int}{s:St}{r:Unit⊕Int}(h:FC a v=some r)(hM:DF a v.1 v.2 s):Bq Y.env oH (Dr a r) s:=by
 unfold FC at h
 refine BN (c:=Xk) (fun v=>FB a v.1 v.2) (fun v s=>DF a v.1 v.2 s) (Dr a) ?_ h hM
 clear h hM s v r
 intro v s o hM h
 obtain⟨k1,i⟩:=v
 dsimp only at h hM
 unfold FB at h
 unfold DF at hM
 obtain⟨m0,m1,m2⟩:=hM
 unfold Xk
 by_cases e1:i<(a.length:Int)
 ·rw [if_pos e1]at h
  obtain⟨e2,h⟩:=BF h
  obtain⟨FD,hl3,h⟩:=Ao h
  try dsimp only at h
  have c3:=RA (a.getD i.toNat default) k1 hl3
  by_cases e4:FD<0
  ·rw [if_pos e4]at h
   obtain rfl:=Option.some.inj h
   simp (maxDischargeDepth:=9) only [↓AO,AB,Ac,BP,AJ,AQ,↓reduceIte,Nat.reduceEqDiff,Nat.reduceLT,Nat.reduceAdd,Int.reduceNeg,m0,m1,m2,e1,e2.1,e2.2,c3,e4,DF,Dr,Qp]
  ·rw [if_neg e4]at h
   obtain rfl:=Option.some.inj h
   simp (maxDischargeDepth:=9) only [↓AO,AB,Ac,BP,AJ,AQ,↓reduceIte,Nat.reduceEqDiff,Nat.reduceLT,Nat.reduceAdd,Int.reduceNeg,m0,m1,m2,e1,e2.1,e2.2,c3,e4,DF,Ik]
 ·rw [if_neg e1]at h
  obtain rfl:=Option.some.inj h
  simp (maxDischargeDepth:=9) only [↓AO,AB,Ac,AQ,↓reduceIte,Nat.reduceEqDiff,Nat.reduceLT,Int.reduceNeg,m0,m1,m2,e1,DF,Dr,KF]
theorem Q8(a:List (List (Int×Int)))(k:Int){r:Int}(h:Jo a k=some r):Y.call 49 [D.sl 100 (AP (fun x=>D.sl 102 (AY .i64 .i64 x)) a),D.int .i64 k] []=some (D.int .i64 r,[]):=by
 refine c49 ?_ rfl
 unfold k49
 unfold Jo at h
 obtain⟨Be,hl2,h⟩:=Ao h
 try dsimp only at h
 simp (maxDischargeDepth:=9) only [↓AO,AB,AJ,AQ,↓reduceIte,Nat.reduceEqDiff,Nat.reduceLT]
 refine Ay (PS a hl2 ?_) ?_
 ·simp (maxDischargeDepth:=9) only [AB,AJ,↓reduceIte,Nat.reduceEqDiff,Nat.reduceLT,DF]
 ·intro ex2 s2 hX2
  rcases Be with q2_ | q2_
  ·unfold Dr at hX2
   dsimp only at hX2 h
   obtain⟨rfl,n2_0⟩:=hX2
   obtain rfl:=Option.some.inj h
   simp (maxDischargeDepth:=9) only [↓AO,AB,AJ,↓reduceIte,Int.reduceNeg,n2_0]
  ·unfold Dr at hX2
   dsimp only at hX2 h
   obtain⟨rfl,n2_0⟩:=hX2
   obtain rfl:=Option.some.inj h
   simp (maxDischargeDepth:=9) only [↓AO,AB,AJ,↓reduceIte,Nat.reduceEqDiff,Nat.reduceLT,n2_0]
theorem Uo(n:Nat)(k:Int)(hn:n<549755813888)(hk:0≤k∧k+2*(n:Int)<1099511627776):Ki (Q4 k n) k=some (k+2*(n:Int)):=by
 have key:=Bd (fun v=>EE (Q4 k n) v.1 v.2) (fun i=>(k+2*(i:Int),(i:Int))) n (.inr (k+2*(n:Int))) ?_ ?_
 ·unfold Ki JO
  simp only [Int.natCast_zero,Int.mul_zero,Int.add_zero]at key
  rw [key];rfl
 ·intro i hi
  simp only [EE]
  rw [MO,if_pos (BV hi),BL (Ew hi),Int.toNat_natCast,rP k n i hi,rQ k n i hi,if_pos rfl,LP (k+2*(i:Int)+1) (by omega),if_pos rfl,KH i (by omega),LP _ (by omega)]
  rw [show k+2*(i:Int)+1+1=k+2*((i+1:Nat):Int) by omega]
 ·simp only [EE]
  rw [MO,if_neg (Ag _)]
theorem PT: ∀(b a:List (List (Int×Int))) (k:Int),BX b→a.length+b.length<1099511627776→0≤k→k+2*BK (fE b)<1099511627776→
  FC (a++Cs k b) (k,(a.length:Int))=some (.inr (k+2*BK (fE b))):=by
 intro b
 induction b with
 | nil=>
  intro a k hb hab hk hkt
  unfold FC
  rw [IX (r:=Sum.inr k)]
  ·rw [show BK (fE [])=0 from rfl,Int.mul_zero,Int.add_zero]
  ·rw [show Cs k []=[]from rfl];simp only [FB];rw [if_neg (We _)]
 | cons x b ih=>
  intro a k hb hab hk hkt
  rw [PQ]at hkt
  simp only [List.length_cons]at hab
  have hx:x.length<549755813888:=hb.2 x (List.mem_cons_self ..)
  have ht:=Dw (fE b)
  have:=ih (a++[Q4 k x.length]) (k+2*(x.length:Int)) ⟨by omega,fun y hy=>hb.2 y (List.mem_cons_of_mem _ hy)⟩ (by simp;omega) (by omega) (by omega)
  unfold FC at this ⊢
  have eg:(a++Cs k (x::b)).getD (a.length:Int).toNat default=Q4 k x.length:=by rw [Int.toNat_natCast];exact KW a (Cs k (x::b)) a.length rfl (by simp [Cs])
  rw [Ku (s':=(k+2*(x.length:Int),((a++[Q4 k x.length]).length:Int)))]
  ·rw [show a++Cs k (x::b)=a++[Q4 k x.length]++Cs (k+2*(x.length:Int)) b by simp [Cs],this,PQ]
   rw [show k+2*(x.length:Int)+2*BK (fE b)=k+2*(x.length+BK (fE b)) by omega]
  ·simp only [FB]
   rw [Cs]at eg ⊢
   rw [if_pos (WZ ..),BL (Wd ..),eg,Uo _ _ hx (by omega),Option.bind_some,if_neg (by omega),KH _ (by omega)];simp
theorem Ti(a:List (List (Int×Int)))(k:Int)(ha:BX a)(hk:0≤k∧k+2*BK (fE a)<1099511627776):Jo (Cs k a) k=some (k+2*BK (fE a)):=by
 unfold Jo
 have:=PT a [] k ha (by have:=ha.1;simp;omega) hk.1 hk.2
 simp only [List.length_nil,List.nil_append,Int.natCast_zero]at this
 rw [this];rfl
noncomputable def JP(Ad:List (List (Int×Int)))(Au:List Int)(Ab:List Int)(k:Int):Option (Int×(List (List (Int×Int)))×(List Int)×(List Int)):=
 ck (BX Ad)<|
 ck (0≤k∧k+2*BK (fE Ad)<1099511627776)<|
 ck (Au.length<1099511627776)<|
 ck (0≤(k+2*BK (fE Ad))∧(k+2*BK (fE Ad))<1099511627776)<|
 ck (Ab.length<1099511627776)<|
 ck (0≤((k+2*BK (fE Ad))+Au.length)∧((k+2*BK (fE Ad))+Au.length)<1099511627776)<|
 some ((((k+2*BK (fE Ad))+Au.length)+Ab.length),(Cs k Ad),(upto (k+2*BK (fE Ad)) Au.length),(upto ((k+2*BK (fE Ad))+Au.length) Ab.length))
def k17:SC:=
 .seq
 (.ops [
 ⟨(some 2),(.box 31 (.tmp 0)),0,none⟩,
 ⟨(some 4),(.assign (.const (.int .i64 0))),3,none⟩])
 (.seq
 (.ops [
 ⟨(some 5),(.fieldAddr 31 (.tmp 2) 0),0,none⟩,
 ⟨(some 6),(.load 29 (.tmp 5)),29,none⟩,
 ⟨(some 7),(.move (.tmp 1)),3,none⟩,
 ⟨(some 8),(.call ⟨(.value (.func 48)), #[(.tmp 6),(.tmp 7)], #[29,3]⟩),3,none⟩,
 ⟨(some 1),(.assign (.tmp 8)),3,none⟩])
 (.seq
 (.ops [
 ⟨(some 9),(.fieldAddr 31 (.tmp 2) 1),0,none⟩,
 ⟨(some 10),(.load 23 (.tmp 9)),23,none⟩,
 ⟨(some 11),(.move (.tmp 1)),3,none⟩,
 ⟨(some 12),(.call ⟨(.value (.func 18)), #[(.tmp 10),(.tmp 11)], #[23,3]⟩),3,none⟩,
 ⟨(some 1),(.assign (.tmp 12)),3,none⟩])
 (.seq
 (.ops [
 ⟨(some 13),(.fieldAddr 31 (.tmp 2) 2),0,none⟩,
 ⟨(some 14),(.load 23 (.tmp 13)),23,none⟩,
 ⟨(some 15),(.move (.tmp 1)),3,none⟩,
 ⟨(some 16),(.call ⟨(.value (.func 18)), #[(.tmp 14),(.tmp 15)], #[23,3]⟩),3,none⟩,
 ⟨(some 1),(.assign (.tmp 16)),3,none⟩])
 (.seq
 (.ops [
 ⟨(some 17),(.move (.tmp 1)),3,none⟩,
 ⟨(some 4),(.assign (.tmp 17)),3,none⟩])
 .ret))))
theorem A2k:Try.f17.body.map (Bh lends)=some k17:=by kernel_rfl
theorem AHq:CB Try.f17 2=true:=by kernel_rfl
theorem c17{a l:List D}{r:D×List D}(h:Bq Y.env k17 (fin AX l.length [ResultVar.tmp 4] r) (entry a l))(ha:a.length=2):Y.call 17 a l=some r:=
 AU (Y:=Y) rfl Try.func17 (ha▸AHq) A2k h
theorem OG(Ad:List (List (Int×Int)))(Au:List Int)(Ab:List Int)(k:Int){r:Int×(List (List (Int×Int)))×(List Int)×(List Int)}(h:JP Ad Au Ab k=some r):Y.call 17 [D.agg [D.vw [100000] 0 0,D.vw [100001] 0 0,D.vw [100002] 0 0],D.int .i64 k] [D.own 100 (AP (fun x=>D.own 102 (AY .i64 .i64 x)) Ad),D.own 3 (AP (D.int .i64) Au),D.own 3 (AP (D.int .i64) Ab)]=some (D.int .i64 r.1,[D.own 100 (AP (fun x=>D.own 102 (AY .i64 .i64 x)) r.2.1),D.own 3 (AP (D.int .i64) r.2.2.1),D.own 3 (AP (D.int .i64) r.2.2.2)]):=by
 refine c17 ?_ rfl
 unfold k17
 unfold JP at h
 obtain⟨e1,h⟩:=BF h
 obtain⟨e2,h⟩:=BF h
 have c3:=Tg Ad k e1 e2
 obtain⟨e4,h⟩:=BF h
 obtain⟨e5,h⟩:=BF h
 have c6:=Di Au (k+2*BK (fE Ad)) e4 e5
 obtain⟨e7,h⟩:=BF h
 obtain⟨e8,h⟩:=BF h
 have c9:=Di Ab ((k+2*BK (fE Ad))+Au.length) e7 e8
 obtain rfl:=Option.some.inj h
 simp (maxDischargeDepth:=9) only [↓AO,AB,Ac,BP,AJ,AQ,↓reduceIte,Nat.reduceEqDiff,Nat.reduceLT,Nat.reduceAdd,Nat.reduceSub,c3,c6,c9]
theorem Q9(a:List (List (Int×Int)))(b c:List Int)(k:Int)(ha:BX a)(hb:b.length<1099511627776)(hc:c.length<1099511627776)(hk:0≤k∧k+2*BK (fE a)+b.length+c.length<1099511627776):
  JP a b c k=some (k+2*BK (fE a)+b.length+c.length,Cs k a,upto (k+2*BK (fE a)) b.length,upto (k+2*BK (fE a)+b.length) c.length):=by
 have ht:=Dw (fE a)
 unfold JP
 rw [BL ha,BL (by omega),BL hb,BL (by omega),BL hc,BL (by omega)]
theorem BR(Ad:List (List (Int×Int)))(Au:List Int)(Ab:List Int)(k:Int)(h0:BX Ad)(h1:Au.length<1099511627776)(h2:Ab.length<1099511627776)(h3:0≤k∧k+2*BK (fE Ad)+Au.length+Ab.length<1099511627776):Y.call 17 [D.agg [D.vw [100000] 0 0,D.vw [100001] 0 0,D.vw [100002] 0 0],D.int .i64 k] [D.own 100 (AP (fun x=>D.own 102 (AY .i64 .i64 x)) Ad),D.own 3 (AP (D.int .i64) Au),D.own 3 (AP (D.int .i64) Ab)]=some (D.int .i64 (k+2*BK (fE Ad)+Au.length+Ab.length),[D.own 100 (AP (fun x=>D.own 102 (AY .i64 .i64 x)) (Cs k Ad)),D.own 3 (AP (D.int .i64) (upto (k+2*BK (fE Ad)) Au.length)),D.own 3 (AP (D.int .i64) (upto (k+2*BK (fE Ad)+Au.length) Ab.length))]):=OG Ad Au Ab k (Q9 Ad Au Ab k h0 h1 h2 h3)
noncomputable def Dl(Ad:List (List (Int×Int)))(Au:List Int)(Ab:List Int)(k:Int):Option (Int):=
 (Jo Ad k).bind fun Il=>
 if Il<0 then
  some (-1)
 else
  ck (Au.length<1099511627776)<|
  ck (0≤Il∧Il+Au.length<1099511627776)<|
  if(Du Il Au)<0 then
   some (-1)
  else
   ck (Ab.length<1099511627776)<|
   ck (0≤(Du Il Au)∧(Du Il Au)+Ab.length<1099511627776)<|
   if(Du (Du Il Au) Ab)<0 then
    some (-1)
   else
    some (Du (Du Il Au) Ab)
def k19:SC:=
 .seq
 (.ops [
 ⟨(some 2),(.box 31 (.tmp 0)),0,none⟩,
 ⟨(some 4),(.assign (.const (.int .i64 0))),3,none⟩])
 (.seq
 (.ops [
 ⟨(some 5),(.fieldAddr 31 (.tmp 2) 0),0,none⟩,
 ⟨(some 6),(.load 29 (.tmp 5)),29,none⟩,
 ⟨(some 7),(.move (.tmp 1)),3,none⟩,
 ⟨(some 8),(.call ⟨(.value (.func 49)), #[(.tmp 6),(.tmp 7)], #[29,3]⟩),3,none⟩,
 ⟨(some 1),(.assign (.tmp 8)),3,none⟩])
 (.seq
 (.seq
 (.ops [
 ⟨(some 9),(.move (.tmp 1)),3,none⟩,
 ⟨(some 10),(.binOp .lss 3 (.tmp 9) (.const (.int .i64 0)) 3),4,none⟩])
 (.cond (.tmp 10)
 (.seq
 (.ops [
 ⟨(some 4),(.assign (.const (.int .i64 (-1)))),3,none⟩])
 .ret)
 .skip))
 (.seq
 (.ops [
 ⟨(some 11),(.fieldAddr 31 (.tmp 2) 1),0,none⟩,
 ⟨(some 12),(.load 23 (.tmp 11)),23,none⟩,
 ⟨(some 13),(.move (.tmp 1)),3,none⟩,
 ⟨(some 14),(.call ⟨(.value (.func 20)), #[(.tmp 12),(.tmp 13)], #[23,3]⟩),3,none⟩,
 ⟨(some 1),(.assign (.tmp 14)),3,none⟩])
 (.seq
 (.seq
 (.ops [
 ⟨(some 15),(.move (.tmp 1)),3,none⟩,
 ⟨(some 16),(.binOp .lss 3 (.tmp 15) (.const (.int .i64 0)) 3),4,none⟩])
 (.cond (.tmp 16)
 (.seq
 (.ops [
 ⟨(some 4),(.assign (.const (.int .i64 (-1)))),3,none⟩])
 .ret)
 .skip))
 (.seq
 (.ops [
 ⟨(some 17),(.fieldAddr 31 (.tmp 2) 2),0,none⟩,
 ⟨(some 18),(.load 23 (.tmp 17)),23,none⟩,
 ⟨(some 19),(.move (.tmp 1)),3,none⟩,
 ⟨(some 20),(.call ⟨(.value (.func 20)), #[(.tmp 18),(.tmp 19)], #[23,3]⟩),3,none⟩,
 ⟨(some 1),(.assign (.tmp 20)),3,none⟩])
 (.seq
 (.seq
 (.ops [
 ⟨(some 21),(.move (.tmp 1)),3,none⟩,
 ⟨(some 22),(.binOp .lss 3 (.tmp 21) (.const (.int .i64 0)) 3),4,none⟩])
 (.cond (.tmp 22)
 (.seq
 (.ops [
 ⟨(some 4),(.assign (.const (.int .i64 (-1)))),3,none⟩])
 .ret)
 .skip))
 (.seq
 (.ops [
 ⟨(some 23),(.move (.tmp 1)),3,none⟩,
 ⟨(some 4),(.assign (.tmp 23)),3,none⟩])
 .ret)))))))
theorem A2l:Try.f19.body.map (Bh lends)=some k19:=by kernel_rfl
theorem AHs:CB Try.f19 2=true:=by kernel_rfl
theorem c19{a l:List D}{r:D×List D}(h:Bq Y.env k19 (fin AX l.length [ResultVar.tmp 4] r) (entry a l))(ha:a.length=2):Y.call 19 a l=some r:=
 AU (Y:=Y) rfl Try.func19 (ha▸AHs) A2l h
theorem DI(Ad:List (List (Int×Int)))(Au:List Int)(Ab:List Int)(k:Int){r:Int}(h:Dl Ad Au Ab k=some r):Y.call 19 [D.agg [D.sl 100 (AP (fun x=>D.sl 102 (AY .i64 .i64 x)) Ad),D.sl 3 (AP (D.int .i64) Au),D.sl 3 (AP (D.int .i64) Ab)],D.int .i64 k] []=some (D.int .i64 r,[]):=by
 refine c19 ?_ rfl
 unfold k19
 unfold Dl at h
 obtain⟨Il,hl1,h⟩:=Ao h
 try dsimp only at h
 have c1:=Q8 Ad k hl1
 by_cases e2:Il<0
 ·rw [if_pos e2]at h
  obtain rfl:=Option.some.inj h
  simp (maxDischargeDepth:=9) only [↓AO,AB,BP,AJ,AQ,↓reduceIte,Nat.reduceEqDiff,Nat.reduceLT,Nat.reduceAdd,Int.reduceNeg,c1,e2]
 ·rw [if_neg e2]at h
  obtain⟨e3,h⟩:=BF h
  obtain⟨e4,h⟩:=BF h
  have c5:=Bf Au Il e3 e4
  by_cases e6:(Du Il Au)<0
  ·rw [if_pos e6]at h
   obtain rfl:=Option.some.inj h
   simp (maxDischargeDepth:=9) only [↓AO,AB,BP,AJ,AQ,↓reduceIte,Nat.reduceEqDiff,Nat.reduceLT,Nat.reduceAdd,Int.reduceNeg,c1,e2,c5,e6]
  ·rw [if_neg e6]at h
   obtain⟨e7,h⟩:=BF h
   obtain⟨e8,h⟩:=BF h
   have c9:=Bf Ab (Du Il Au) e7 e8
   by_cases e10:(Du (Du Il Au) Ab)<0
   ·rw [if_pos e10]at h
    obtain rfl:=Option.some.inj h
    simp (maxDischargeDepth:=9) only [↓AO,AB,BP,AJ,AQ,↓reduceIte,Nat.reduceEqDiff,Nat.reduceLT,Nat.reduceAdd,Int.reduceNeg,c1,e2,c5,e6,c9,e10]
   ·rw [if_neg e10]at h
    obtain rfl:=Option.some.inj h
    simp (maxDischargeDepth:=9) only [↓AO,AB,BP,AJ,AQ,↓reduceIte,Nat.reduceEqDiff,Nat.reduceLT,Nat.reduceAdd,Int.reduceNeg,c1,e2,c5,e6,c9,e10]
theorem QA(a:List (List (Int×Int)))(b c:List Int)(k:Int)(ha:BX a)(hb:b.length<1099511627776)(hc:c.length<1099511627776)(hk:0≤k∧k+2*BK (fE a)+b.length+c.length<1099511627776):
  Dl (Cs k a) (upto (k+2*BK (fE a)) b.length) (upto (k+2*BK (fE a)+b.length) c.length) k=some (k+2*BK (fE a)+b.length+c.length):=by
 have ht:=Dw (fE a)
 unfold Dl
 rw [Ti a k ha (by omega),Option.bind_some,if_neg (by omega),JZ,BL hb,BL (by omega),NY,if_neg (by omega),JZ,BL hc,BL (by omega),NY,if_neg (by omega)]
end Go.Proofs.Ytipfckompmhljaa
