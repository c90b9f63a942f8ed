/- When lists are a network, as plain functions. Conditions: the lists are short. -/
import Derived.Test.YtipfckompmhljaaGreatL6
import Derived.Test.YtipfckompmhljaaGreatNet
namespace Go.Proofs.YtipfckompmhljaaGreat
open Go Dv
set_option linter.unusedSimpArgs false
set_option linter.unusedVariables false
set_option maxRecDepth 100000
set_option maxHeartbeats 4000000
noncomputable def CF(list:List Int)(low high AZ:Int):Option ((Int)⊕(Unit⊕Unit)):=
 if AZ<(list.length:Int)then
  ck (0≤AZ∧AZ.toNat<list.length)<|
  if(EB (list.getD AZ.toNat default) low high)=true then
   if 0<AZ then
    ck (0≤IntKind.i64.wrap (AZ-1)∧(IntKind.i64.wrap (AZ-1)).toNat<list.length)<|
    if(list.getD AZ.toNat default)≤(list.getD ((IntKind.i64.wrap (AZ-1)).toNat) default)then
     some (Sum.inr (Sum.inl ()))
    else
     some (Sum.inl (IntKind.i64.wrap (AZ+1)))
   else
    some (Sum.inl (IntKind.i64.wrap (AZ+1)))
  else
   some (Sum.inr (Sum.inl ()))
 else
  some (Sum.inr (Sum.inr ()))
noncomputable def GZ(list:List Int)(low high v:Int):Option (Unit⊕Unit):=DT (fun v=>CF list low high v) v
noncomputable def I3(list:List Int)(low high:Int):Option (Bool):=
 (GZ list low high 0).bind fun Au=>
 match Au with
 | .inl q2_=>
  some false
 | .inr q2_=>
  some true
def UV:SC:=
 .seq
 (.ops [
 ⟨some 12, .binOp .lss 3 (.tmp 11) (.tmp 10) 3,0,none⟩])
 (.seq
 (.cond (.tmp 12)
 .skip
 (.exit 0))
 (.seq
 (.block 1
 (.seq
 (.ops [
 ⟨some 13, .move (.tmp 11),3,none⟩,
 ⟨some 14, .indexAddr 26 (.tmp 9) (.tmp 11),0,none⟩,
 ⟨some 15, .load 3 (.tmp 14),3,none⟩,
 ⟨some 7, .assign (.tmp 13),3,none⟩,
 ⟨some 8, .assign (.tmp 15),3,none⟩])
 (.seq
 (.ops [
 ⟨some 16, .move (.tmp 8),3,none⟩,
 ⟨some 17, .move (.tmp 1),3,none⟩,
 ⟨some 18, .move (.tmp 2),3,none⟩,
 ⟨some 19, .call ⟨(.value (.func 60)), #[(.tmp 16),(.tmp 17),(.tmp 18)], #[3,3,3]⟩,4,none⟩,
 ⟨some 20, .unOp .not 4 (.tmp 19),4,none⟩,
 ⟨some 21, .move (.tmp 20),4,none⟩,
 ⟨some 22, .move (.tmp 7),3,(some (some 21,false))⟩,
 ⟨some 23, .binOp .gtr 3 (.tmp 22) (.const (.int .i64 0)) 3,4,(some (some 21,false))⟩,
 ⟨some 24, .move (.tmp 23),4,(some (some 21,false))⟩,
 ⟨some 25, .move (.tmp 0),26,(some (some 24,true))⟩,
 ⟨some 26, .move (.tmp 7),3,(some (some 24,true))⟩,
 ⟨some 27, .binOp .sub 3 (.tmp 26) (.const (.int .i64 1)) 3,3,(some (some 24,true))⟩,
 ⟨some 28, .indexAddr 26 (.tmp 25) (.tmp 27),0,(some (some 24,true))⟩,
 ⟨some 29, .load 3 (.tmp 28),3,(some (some 24,true))⟩,
 ⟨some 30, .move (.tmp 8),3,(some (some 24,true))⟩,
 ⟨some 31, .binOp .geq 3 (.tmp 29) (.tmp 30) 3,4,(some (some 24,true))⟩,
 ⟨some 32, .pick (.tmp 24) (.tmp 31) (.const (.bool false)),4,(some (some 21,false))⟩,
 ⟨some 33, .pick (.tmp 21) (.const (.bool true)) (.tmp 32),4,none⟩])
 (.cond (.tmp 33)
 (.seq
 (.ops [
 ⟨some 6, .assign (.const (.bool false)),4,none⟩])
 .ret)
 .skip))))
 (.ops [
 ⟨some 34, .binOp .add 3 (.tmp 11) (.const (.int .i64 1)) 3,3,none⟩,
 ⟨some 11, .move (.tmp 34),3,none⟩])))
def dq:SC:= .loop UV
def k77:SC:=
 .seq
 (.ops [
 ⟨some 6, .assign (.const (.bool false)),4,none⟩])
 (.seq
 (.seq
 (.ops [
 ⟨some 9, .move (.tmp 0),26,none⟩,
 ⟨some 10, .call ⟨(.builtin .len), #[(.tmp 9)], #[26]⟩,3,none⟩,
 ⟨some 11, .move (.const (.int .i64 0)),3,none⟩])
 (.block 0
 dq))
 (.seq
 (.ops [
 ⟨some 6, .assign (.const (.bool true)),4,none⟩])
 .ret))
theorem n3:Tryz.f77.body.map (Am lends)=some k77:=by kernel_rfl
theorem A4W:As Tryz.f77 3=true:=by kernel_rfl
theorem c77{a l:List D}{r:D×List D}(h:Av Y.env k77 (fin AJ l.length [ResultVar.tmp 6] r) (entry a l))(ha:a.length=3):Y.call 77 a l=some r:=
 AC (Y:=Y) rfl Tryz.func77 (ha▸A4W) n3 h
def BE(list:List Int)(low high AZ:Int)(s:St):Prop:=s.v 0=D.sl 3 (A9 (D.int .i64) list)∧s.v 1=D.int .i64 low∧s.v 2=D.int .i64 high∧s.v 9=D.sl 3 (A9 (D.int .i64) list)∧s.v 10=D.int .i64 (list.length:Int)∧s.v 11=D.int .i64 AZ
def Bl(list:List Int)(low high:Int)(r:Unit⊕Unit)(ex:Ex)(s:St):Prop:=match r with
 | .inl q=>ex= .ret∧s.v 6=D.bool false
 | .inr q=>ex= .exit 0
theorem M6(list:List Int)(low high:Int){v:Int}{s:St}{r:Unit⊕Unit}(h:GZ list low high v=some r)(hM:BE list low high v s):Av Y.env dq (Bl list low high r) s:=by
 unfold GZ at h
 refine Aa (c:=UV) (fun v=>CF list low high v) (fun v s=>BE list low high v s) (Bl list low high) ?_ h hM
 clear h hM s v r
 intro AZ s o hM h
 unfold CF at h
 unfold BE at hM
 obtain⟨m0,m1,m2,m3,m4,m5⟩:=hM
 unfold UV
 by_cases e1:AZ<(list.length:Int)
 ·rw [if_pos e1]at h
  obtain⟨e2,h⟩:=Ae h
  have c3:=FT (list.getD AZ.toNat default) low high
  by_cases e4:(EB (list.getD AZ.toNat default) low high)=true
  ·rw [if_pos e4]at h
   by_cases e5:0<AZ
   ·rw [if_pos e5]at h
    obtain⟨e6,h⟩:=Ae h
    by_cases e7:(list.getD AZ.toNat default)≤(list.getD ((IntKind.i64.wrap (AZ-1)).toNat) default)
    ·rw [if_pos e7]at h
     cases h
     simp (maxDischargeDepth:=9) only [↓A8,A1,AE,Ap,A6,AA,↓reduceIte,Nat.reduceEqDiff,Nat.reduceLT,Nat.reduceAdd,m0,m1,m2,m3,m4,m5,e1,e2.1,e2.2,c3,e4,e5,e6.1,e6.2,e7,BE,Bl,Ho]
    ·rw [if_neg e7]at h
     cases h
     simp (maxDischargeDepth:=9) only [↓A8,A1,AE,Ap,A6,AA,↓reduceIte,Nat.reduceEqDiff,Nat.reduceLT,Nat.reduceAdd,m0,m1,m2,m3,m4,m5,e1,e2.1,e2.2,c3,e4,e5,e6.1,e6.2,e7,BE,Ei]
   ·rw [if_neg e5]at h
    cases h
    simp (maxDischargeDepth:=9) only [↓A8,A1,AE,Ap,A6,AA,↓reduceIte,Nat.reduceEqDiff,Nat.reduceLT,Nat.reduceAdd,m0,m1,m2,m3,m4,m5,e1,e2.1,e2.2,c3,e4,e5,BE,Ei]
  ·rw [if_neg e4]at h
   have e4f:(EB (list.getD AZ.toNat default) low high)=false:=Bool.eq_false_iff.mpr e4
   cases h
   simp (maxDischargeDepth:=9) only [↓A8,A1,AE,Ap,A6,AA,↓reduceIte,Nat.reduceEqDiff,Nat.reduceLT,Nat.reduceAdd,m1,m2,m3,m4,m5,e1,e2.1,e2.2,c3,e4f,BE,Bl,Ho]
 ·rw [if_neg e1]at h
  cases h
  simp (maxDischargeDepth:=9) only [↓A8,A1,AA,↓reduceIte,Nat.reduceLT,m4,m5,e1,BE,Bl,Ge]
theorem NB(list:List Int)(low high:Int){r:Bool}(h:I3 list low high=some r):Y.call 77 [D.sl 3 (A9 (D.int .i64) list),D.int .i64 low,D.int .i64 high] []=some (D.bool r,[]):=by
 refine c77 ?_ rfl
 unfold k77
 unfold I3 at h
 obtain⟨Au,hl2,h⟩:=AL h
 try dsimp only at h
 simp (maxDischargeDepth:=9) only [↓A8,A1,AE,A6,AA,↓reduceIte,Nat.reduceEqDiff,Nat.reduceLT]
 refine AP (M6 list low high hl2 ?_) ?_
 ·simp (maxDischargeDepth:=9) only [A1,A6,↓reduceIte,Nat.reduceEqDiff,Nat.reduceLT,BE]
 ·intro ex2 s2 hX2
  rcases Au with q2_ | q2_
  ·unfold Bl at hX2
   dsimp only at hX2 h
   obtain⟨rfl,n2_0⟩:=hX2
   cases h
   simp (maxDischargeDepth:=9) only [↓A8,A1,A6,↓reduceIte,n2_0]
  ·unfold Bl at hX2
   dsimp only at hX2 h
   obtain rfl:=hX2
   cases h
   simp (maxDischargeDepth:=9) only [↓A8,A1,A6,AA,↓reduceIte,Nat.reduceEqDiff,Nat.reduceLT]
def Qn(l:List Int)(lo hi:Int):Bool:=(List.range l.length).all fun i=>EB (l.getD i default) lo hi&&(decide (i=0)||decide (l.getD (i-1) default<l.getD i default))
theorem Oy(l:List Int)(lo hi:Int)(h:l.length<1099511627776):I3 l lo hi=some (Qn l lo hi):=by
 have key:=CE (fun v=>CF l lo hi v) (fun i=>(i:Int)) l.length (fun i=>EB (l.getD i default) lo hi&&(decide (i=0)||decide (l.getD (i-1) default<l.getD i default))) (.inl ()) (.inr ()) ?_ ?_
 ·rw [Int.natCast_zero]at key
  unfold I3 GZ Qn
  rw [key]
  cases (List.range l.length).all fun i=>EB (l.getD i default) lo hi&&(decide (i=0)||decide (l.getD (i-1) default<l.getD i default))<;>rfl
 ·intro i hi'
  simp only [CF,Int.toNat_natCast]
  rw [if_pos (Ak hi'),Ac (by omega),Gm i (by omega)]
  cases hr:EB (l.getD i default) lo hi with
  | false=>simp
  | true=>
   by_cases h0:i=0
   ·subst h0
    rw [if_pos rfl,if_neg (by omega)]
    simp
   ·rw [if_pos rfl,if_pos (by omega),Gl _ (by omega),Ac (by omega),show((i:Int)-1).toNat=i-1 by omega,decide_eq_false h0]
    by_cases hlt:l.getD (i-1) default<l.getD i default
    ·rw [if_neg (by omega),decide_eq_true hlt];rfl
    ·rw [if_pos (by omega),decide_eq_false hlt];rfl
 ·simp only [CF]
  rw [if_neg (AH _)]
theorem Oz(list:List Int)(low high:Int)(h0:list.length<1099511627776):Y.call 77 [D.sl 3 (A9 (D.int .i64) list),D.int .i64 low,D.int .i64 high] []=some (D.bool (Qn list low high),[]):=NB list low high (Oy list low high h0)
theorem Yh{l:List Int}{lo hi:Int}(h:Qn l lo hi=true):l.Pairwise (fun a b=>a<b)∧ ∀x∈l,EB x lo hi=true:=by
 have h0:=BW.1 h
 have step: ∀i,i+1<l.length→l.getD i default<l.getD (i+1) default:=fun i hi=>by
  have:=h0 (i+1) hi
  rw [Bool.and_eq_true]at this
  simpa using this.2
 have Z5: ∀(d i:Nat),i+d+1<l.length→l.getD i default<l.getD (i+d+1) default:=by
  intro d
  induction d with
  | zero=>intro i hi;exact step i hi
  | succ d ih=>
   intro i hi
   have h1:=ih i (by omega)
   have h2:=step (i+d+1) (by omega)
   rw [show i+(d+1)+1=i+d+1+1 by omega]
   omega
 refine⟨List.pairwise_iff_getElem.2 fun i j hi hj hij=> ?_,fun x hx=> ?_⟩
 ·have:=Z5 (j-i-1) i (by omega)
  rw [show i+(j-i-1)+1=j by omega,Ar _ _ hi,Ar _ _ hj]at this
  exact this
 ·obtain⟨i,hi,rfl⟩:=List.getElem_of_mem hx
  have:=h0 i hi
  rw [Bool.and_eq_true,Ar _ _ hi]at this
  exact this.1
theorem dr{l:List Int}{lo hi:Int}(h1:l.Pairwise (fun a b=>a<b))(h2: ∀x∈l,EB x lo hi=true):Qn l lo hi=true:=by
 refine BW.2 fun i hi=> ?_
 rw [Bool.and_eq_true]
 refine⟨by rw [Ar _ _ hi];exact h2 _ (List.getElem_mem hi), ?_⟩
 by_cases h0:i=0
 ·rw [decide_eq_true h0];rfl
 ·have:=List.pairwise_iff_getElem.1 h1 (i-1) i (by omega) hi (by omega)
  rw [Bool.or_eq_true]
  right
  rw [decide_eq_true_eq,Ar _ _ hi,Ar _ _ (by omega:i-1<l.length)]
  exact this
def M7(ids:List Int)(n:Int):Bool:=decide (ids.length=0)||(decide ((ids.length:Int)=n)&&(decide ids.Nodup&&CV ids 1 999999))
theorem Yi(ids:List Int)(lo hi:Int):Qn (Iv ids) lo hi=(decide ids.Nodup&&CV ids lo hi):=by
 rw [Bool.eq_iff_iff,Bool.and_eq_true,decide_eq_true_eq]
 have hp:=M3 ids
 unfold CV
 rw [List.all_eq_true]
 constructor
 ·intro h
  obtain⟨h1,h2⟩:=Yh h
  refine⟨hp.nodup_iff.1 (h1.imp fun h=>by omega),fun x hx=>h2 x (hp.mem_iff.2 hx)⟩
 ·rintro⟨h1,h2⟩
  refine dr ?_ fun x hx=>h2 x (hp.mem_iff.1 hx)
  have hn:(Iv ids).Pairwise (fun a b=>a≠b):=hp.nodup_iff.2 h1
  exact((QV ids).and hn).imp fun h=>by omega
theorem BM(xs:List Int)(h:xs.length<1099511627776):Y.call 43 [.sl 3 (A9 (D.int .i64) xs)] []=some (.own 3 (A9 (D.int .i64) xs),[]):=by
 refine Wd (A9 (D.int .i64) xs) (by rw [Lu];exact h) (Nd _ _ (fun x=>rfl)) (Lv _ _ (fun x=>by first | exact y5 .. | exact kJ .. | exact y4 .. | exact y6 ..)) ?_
 simp (maxDischargeDepth:=9) only [A1,AE,A6]
noncomputable def PH(ids:List Int)(nodes:Int):Option (Bool):=
 if(ids.length:Int)=0 then
  some true
 else
  ck (ids.length<1099511627776)<|
  ck (ids.length<4611686018427387904)<|
  if(ids.length:Int)=nodes then
   ck ((GA ids).length<1099511627776)<|
   some (Qn (GA ids) (1:Int) (999999:Int))
  else
   some false
def k63:SC:=
 .seq
 (.ops [
 ⟨some 4, .assign (.const (.bool false)),4,none⟩])
 (.seq
 (.seq
 (.ops [
 ⟨some 6, .move (.tmp 0),26,none⟩,
 ⟨some 7, .call ⟨(.builtin .len), #[(.tmp 6)], #[26]⟩,3,none⟩,
 ⟨some 8, .binOp .eql 3 (.tmp 7) (.const (.int .i64 0)) 3,4,none⟩])
 (.cond (.tmp 8)
 (.seq
 (.ops [
 ⟨some 4, .assign (.const (.bool true)),4,none⟩])
 .ret)
 .skip))
 (.seq
 (.ops [
 ⟨some 9, .move (.tmp 0),26,none⟩,
 ⟨some 10, .call ⟨(.value (.func 43)), #[(.tmp 9)], #[26]⟩,26,none⟩,
 ⟨some 5, .assign (.tmp 10),26,none⟩])
 (.seq
 (.ops [
 ⟨some 11, .move (.tmp 5),26,none⟩,
 ⟨some 12, .call ⟨(.value (.func 76)), #[(.tmp 11)], #[26]⟩,0,none⟩])
 (.seq
 (.ops [
 ⟨some 13, .move (.tmp 0),26,none⟩,
 ⟨some 14, .call ⟨(.builtin .len), #[(.tmp 13)], #[26]⟩,3,none⟩,
 ⟨some 15, .move (.tmp 1),3,none⟩,
 ⟨some 16, .binOp .eql 3 (.tmp 14) (.tmp 15) 3,4,none⟩,
 ⟨some 17, .move (.tmp 16),4,none⟩,
 ⟨some 18, .move (.tmp 5),26,(some (some 17,true))⟩,
 ⟨some 19, .call ⟨(.value (.func 77)), #[(.tmp 18),(.const (.int .i64 1)),(.const (.int .i64 999999))], #[26,3,3]⟩,4,(some (some 17,true))⟩,
 ⟨some 20, .pick (.tmp 17) (.tmp 19) (.const (.bool false)),4,none⟩,
 ⟨some 4, .assign (.tmp 20),4,none⟩])
 .ret))))
theorem n4:Tryz.f63.body.map (Am lends)=some k63:=by kernel_rfl
theorem A4Y:As Tryz.f63 2=true:=by kernel_rfl
theorem c63{a l:List D}{r:D×List D}(h:Av Y.env k63 (fin AJ l.length [ResultVar.tmp 4] r) (entry a l))(ha:a.length=2):Y.call 63 a l=some r:=
 AC (Y:=Y) rfl Tryz.func63 (ha▸A4Y) n4 h
theorem UW(ids:List Int)(nodes:Int){r:Bool}(h:PH ids nodes=some r):Y.call 63 [D.sl 3 (A9 (D.int .i64) ids),D.int .i64 nodes] []=some (D.bool r,[]):=by
 refine c63 ?_ rfl
 unfold k63
 unfold PH at h
 by_cases e1:(ids.length:Int)=0
 ·rw [if_pos e1]at h
  cases h
  simp (maxDischargeDepth:=9) only [↓A8,A1,AE,A6,AA,↓reduceIte,Nat.reduceEqDiff,Nat.reduceLT,decide_eq_true e1]
 ·rw [if_neg e1]at h
  obtain⟨e2,h⟩:=Ae h
  have c3:=BM ids e2
  obtain⟨e4,h⟩:=Ae h
  have c5:=gJ ids e4
  by_cases e6:(ids.length:Int)=nodes
  ·rw [if_pos e6]at h
   obtain⟨e7,h⟩:=Ae h
   have c8:=Oz (GA ids) (1:Int) (999999:Int) e7
   cases h
   simp (maxDischargeDepth:=9) only [↓A8,A1,AE,Ap,A6,AA,↓reduceIte,Nat.reduceEqDiff,Nat.reduceLT,Nat.reduceAdd,e1,c3,c5,decide_eq_true e6,c8]
  ·rw [if_neg e6]at h
   cases h
   simp (maxDischargeDepth:=9) only [↓A8,A1,AE,Ap,A6,AA,↓reduceIte,Nat.reduceEqDiff,Nat.reduceLT,Nat.reduceAdd,e1,c3,c5,e6]
noncomputable def Fz(ids:List Int)(nodes GY:Int):Option ((Int)⊕(Unit⊕Unit)):=
 if GY<(ids.length:Int)then
  ck (0≤GY∧GY.toNat<ids.length)<|
  if(EB (ids.getD GY.toNat default) (1:Int) (999999:Int))=true then
   ck (0≤GY)<|
   ck (GY.toNat≤ids.length)<|
   ck (((ids.take GY.toNat).drop 0).length<1099511627776)<|
   if(((ids.take GY.toNat).drop 0).contains (ids.getD GY.toNat default))=true then
    some (Sum.inr (Sum.inl ()))
   else
    some (Sum.inl (IntKind.i64.wrap (GY+1)))
  else
   some (Sum.inr (Sum.inl ()))
 else
  some (Sum.inr (Sum.inr ()))
noncomputable def K7(ids:List Int)(nodes v:Int):Option (Unit⊕Unit):=DT (fun v=>Fz ids nodes v) v
noncomputable def PI(ids:List Int)(nodes:Int):Option (Bool):=
 (K7 ids nodes 0).bind fun Au=>
 match Au with
 | .inl q2_=>
  some false
 | .inr q2_=>
  if(ids.length:Int)=0 then
   some true
  else
   some (decide ((ids.length:Int)=nodes))
def UX:SC:=
 .seq
 (.ops [
 ⟨some 10, .binOp .lss 3 (.tmp 9) (.tmp 8) 3,0,none⟩])
 (.seq
 (.cond (.tmp 10)
 .skip
 (.exit 0))
 (.seq
 (.block 1
 (.seq
 (.ops [
 ⟨some 11, .move (.tmp 9),3,none⟩,
 ⟨some 12, .indexAddr 26 (.tmp 7) (.tmp 9),0,none⟩,
 ⟨some 13, .load 3 (.tmp 12),3,none⟩,
 ⟨some 5, .assign (.tmp 11),3,none⟩,
 ⟨some 6, .assign (.tmp 13),3,none⟩])
 (.seq
 (.ops [
 ⟨some 14, .move (.tmp 6),3,none⟩,
 ⟨some 15, .call ⟨(.value (.func 51)), #[(.tmp 14),(.const (.int .i64 1)),(.const (.int .i64 999999))], #[3,3,3]⟩,4,none⟩,
 ⟨some 16, .unOp .not 4 (.tmp 15),4,none⟩,
 ⟨some 17, .move (.tmp 16),4,none⟩,
 ⟨some 18, .move (.tmp 0),26,(some (some 17,false))⟩,
 ⟨some 19, .move (.tmp 5),3,(some (some 17,false))⟩,
 ⟨some 20, .slice 26 (.tmp 18) none (some (.tmp 19)) none,900001,(some (some 17,false))⟩,
 ⟨some 21, .move (.tmp 6),3,(some (some 17,false))⟩,
 ⟨some 22, .call ⟨(.value (.func 70)), #[(.tmp 20),(.tmp 21)], #[26,3]⟩,4,(some (some 17,false))⟩,
 ⟨some 23, .pick (.tmp 17) (.const (.bool true)) (.tmp 22),4,none⟩])
 (.cond (.tmp 23)
 (.seq
 (.ops [
 ⟨some 4, .assign (.const (.bool false)),4,none⟩])
 .ret)
 .skip))))
 (.ops [
 ⟨some 24, .binOp .add 3 (.tmp 9) (.const (.int .i64 1)) 3,3,none⟩,
 ⟨some 9, .move (.tmp 24),3,none⟩])))
def dt:SC:= .loop UX
def k54:SC:=
 .seq
 (.ops [
 ⟨some 4, .assign (.const (.bool false)),4,none⟩])
 (.seq
 (.seq
 (.ops [
 ⟨some 7, .move (.tmp 0),26,none⟩,
 ⟨some 8, .call ⟨(.builtin .len), #[(.tmp 7)], #[26]⟩,3,none⟩,
 ⟨some 9, .move (.const (.int .i64 0)),3,none⟩])
 (.block 0
 dt))
 (.seq
 (.ops [
 ⟨some 25, .move (.tmp 0),26,none⟩,
 ⟨some 26, .call ⟨(.builtin .len), #[(.tmp 25)], #[26]⟩,3,none⟩,
 ⟨some 27, .binOp .eql 3 (.tmp 26) (.const (.int .i64 0)) 3,4,none⟩,
 ⟨some 28, .move (.tmp 27),4,none⟩,
 ⟨some 29, .move (.tmp 0),26,(some (some 28,false))⟩,
 ⟨some 30, .call ⟨(.builtin .len), #[(.tmp 29)], #[26]⟩,3,(some (some 28,false))⟩,
 ⟨some 31, .move (.tmp 1),3,(some (some 28,false))⟩,
 ⟨some 32, .binOp .eql 3 (.tmp 30) (.tmp 31) 3,4,(some (some 28,false))⟩,
 ⟨some 33, .pick (.tmp 28) (.const (.bool true)) (.tmp 32),4,none⟩,
 ⟨some 4, .assign (.tmp 33),4,none⟩])
 .ret))
theorem n5:Tryz.f54.body.map (Am lends)=some k54:=by kernel_rfl
theorem A4a:As Tryz.f54 2=true:=by kernel_rfl
theorem c54{a l:List D}{r:D×List D}(h:Av Y.env k54 (fin AJ l.length [ResultVar.tmp 4] r) (entry a l))(ha:a.length=2):Y.call 54 a l=some r:=
 AC (Y:=Y) rfl Tryz.func54 (ha▸A4a) n5 h
def D7(ids:List Int)(nodes GY:Int)(s:St):Prop:=s.v 0=D.sl 3 (A9 (D.int .i64) ids)∧s.v 1=D.int .i64 nodes∧s.v 7=D.sl 3 (A9 (D.int .i64) ids)∧s.v 8=D.int .i64 (ids.length:Int)∧s.v 9=D.int .i64 GY
def EP(ids:List Int)(nodes:Int)(r:Unit⊕Unit)(ex:Ex)(s:St):Prop:=match r with
 | .inl q=>ex= .ret∧s.v 4=D.bool false
 | .inr q=>ex= .exit 0∧s.v 0=D.sl 3 (A9 (D.int .i64) ids)∧s.v 1=D.int .i64 nodes
theorem Rs(ids:List Int)(nodes:Int){v:Int}{s:St}{r:Unit⊕Unit}(h:K7 ids nodes v=some r)(hM:D7 ids nodes v s):Av Y.env dt (EP ids nodes r) s:=by
 unfold K7 at h
 refine Aa (c:=UX) (fun v=>Fz ids nodes v) (fun v s=>D7 ids nodes v s) (EP ids nodes) ?_ h hM
 clear h hM s v r
 intro GY s o hM h
 unfold Fz at h
 unfold D7 at hM
 obtain⟨m0,m1,m2,m3,m4⟩:=hM
 unfold UX
 by_cases e1:GY<(ids.length:Int)
 ·rw [if_pos e1]at h
  obtain⟨e2,h⟩:=Ae h
  have c3:=Gk (ids.getD GY.toNat default) (1:Int) (999999:Int)
  by_cases e4:(EB (ids.getD GY.toNat default) (1:Int) (999999:Int))=true
  ·rw [if_pos e4]at h
   obtain⟨e5,h⟩:=Ae h
   obtain⟨e6,h⟩:=Ae h
   obtain⟨e7,h⟩:=Ae h
   have c8:=Ye ((ids.take GY.toNat).drop 0) (ids.getD GY.toNat default) e7
   by_cases e9:(((ids.take GY.toNat).drop 0).contains (ids.getD GY.toNat default))=true
   ·rw [if_pos e9]at h
    cases h
    simp (maxDischargeDepth:=9) only [↓A8,A1,AE,Ap,A6,AA,↓reduceIte,Nat.reduceEqDiff,Nat.reduceLT,Nat.reduceAdd,m0,m2,m3,m4,e1,e2.1,e2.2,c3,e4,e6,c8,e9,D7,EP,Ho]
   ·rw [if_neg e9]at h
    have e9f:(((ids.take GY.toNat).drop 0).contains (ids.getD GY.toNat default))=false:=Bool.eq_false_iff.mpr e9
    cases h
    simp (maxDischargeDepth:=9) only [↓A8,A1,AE,Ap,A6,AA,↓reduceIte,Nat.reduceEqDiff,Nat.reduceLT,Nat.reduceAdd,m0,m1,m2,m3,m4,e1,e2.1,e2.2,c3,e4,e6,c8,e9f,D7,Ei]
  ·rw [if_neg e4]at h
   have e4f:(EB (ids.getD GY.toNat default) (1:Int) (999999:Int))=false:=Bool.eq_false_iff.mpr e4
   cases h
   simp (maxDischargeDepth:=9) only [↓A8,A1,AE,Ap,A6,AA,↓reduceIte,Nat.reduceEqDiff,Nat.reduceLT,Nat.reduceAdd,m2,m3,m4,e1,e2.1,e2.2,c3,e4f,D7,EP,Ho]
 ·rw [if_neg e1]at h
  cases h
  simp (maxDischargeDepth:=9) only [↓A8,A1,AA,↓reduceIte,Nat.reduceEqDiff,Nat.reduceLT,m0,m1,m3,m4,e1,D7,EP,Ge]
theorem UY(ids:List Int)(nodes:Int){r:Bool}(h:PI ids nodes=some r):Y.call 54 [D.sl 3 (A9 (D.int .i64) ids),D.int .i64 nodes] []=some (D.bool r,[]):=by
 refine c54 ?_ rfl
 unfold k54
 unfold PI at h
 obtain⟨Au,hl2,h⟩:=AL h
 try dsimp only at h
 simp (maxDischargeDepth:=9) only [↓A8,A1,AE,A6,AA,↓reduceIte,Nat.reduceEqDiff,Nat.reduceLT]
 refine AP (Rs ids nodes hl2 ?_) ?_
 ·simp (maxDischargeDepth:=9) only [A1,A6,↓reduceIte,Nat.reduceEqDiff,Nat.reduceLT,D7]
 ·intro ex2 s2 hX2
  rcases Au with q2_ | q2_
  ·unfold EP at hX2
   dsimp only at hX2 h
   obtain⟨rfl,n2_0⟩:=hX2
   cases h
   simp (maxDischargeDepth:=9) only [↓A8,A1,A6,↓reduceIte,n2_0]
  ·unfold EP at hX2
   dsimp only at hX2 h
   obtain⟨rfl,n2_0,n2_1⟩:=hX2
   by_cases e3:(ids.length:Int)=0
   ·rw [if_pos e3]at h
    cases h
    simp (maxDischargeDepth:=9) only [↓A8,A1,AE,A6,AA,↓reduceIte,Nat.reduceEqDiff,Nat.reduceLT,n2_0,decide_eq_true e3]
   ·rw [if_neg e3]at h
    cases h
    simp (maxDischargeDepth:=9) only [↓A8,A1,AE,A6,AA,↓reduceIte,Nat.reduceEqDiff,Nat.reduceLT,n2_0,n2_1,e3]
theorem Yj(ids:List Int)(n:Int)(h:ids.length<1099511627776):PH ids n=some (M7 ids n):=by
 unfold PH M7
 by_cases h0:ids.length=0
 ·rw [if_pos (by omega),decide_eq_true h0];rfl
 ·rw [if_neg (by omega),Ac h,Ac (by omega),decide_eq_false h0,Bool.false_or]
  by_cases h1:(ids.length:Int)=n
  ·rw [if_pos h1,Wp,Ac (by rw [Si];exact h),Yi,decide_eq_true h1];rfl
  ·rw [if_neg h1,decide_eq_false h1];rfl
theorem ak(ids:List Int):(List.range ids.length).all (fun i=>EB (ids.getD i default) 1 999999&& !(ids.take i).contains (ids.getD i default))=(decide ids.Nodup&&CV ids 1 999999):=by
 rw [Bool.eq_iff_iff,BW,Bool.and_eq_true,decide_eq_true_eq]
 unfold CV
 rw [List.all_eq_true]
 constructor
 ·intro h
  refine⟨List.pairwise_iff_getElem.2 fun i j hi hj hij he=> ?_,fun x hx=> ?_⟩
  ·have:=h j hj
   rw [Bool.and_eq_true,Bool.not_eq_true',←Bool.not_eq_true,List.contains_iff_mem,Ar _ _ hj]at this
   refine this.2 ?_
   rw [←he]
   exact List.mem_take_iff_getElem.2 ⟨i,by omega,rfl⟩
  ·obtain⟨i,hi,rfl⟩:=List.getElem_of_mem hx
   have:=h i hi
   rw [Bool.and_eq_true,Ar _ _ hi]at this
   exact this.1
 ·rintro⟨h1,h2⟩ i hi
  rw [Bool.and_eq_true,Bool.not_eq_true',←Bool.not_eq_true,List.contains_iff_mem,Ar _ _ hi]
  refine⟨h2 _ (List.getElem_mem hi),fun hm=> ?_⟩
  obtain⟨j,hj,he⟩:=List.mem_take_iff_getElem.1 hm
  exact List.pairwise_iff_getElem.1 h1 j i (by omega) hi (by omega) he
theorem Yk(ids:List Int)(n:Int)(h:ids.length<1099511627776):PI ids n=some (M7 ids n):=by
 have key:=CE (fun v=>Fz ids n v) (fun i=>(i:Int)) ids.length (fun i=>EB (ids.getD i default) 1 999999&& !(ids.take i).contains (ids.getD i default)) (.inl ()) (.inr ()) ?_ ?_
 ·rw [Int.natCast_zero,ak]at key
  unfold PI K7 M7
  rw [key,Option.bind_some]
  by_cases h0:ids.length=0
  ·have:ids=[]:=List.eq_nil_of_length_eq_zero h0
   subst this
   simp [CV]
  ·rw [decide_eq_false h0,Bool.false_or]
   cases decide ids.Nodup&&CV ids 1 999999 with
   | false=>rw [Bool.and_false];rfl
   | true=>rw [Bool.and_true,if_pos rfl];simp only;rw [if_neg (by omega)]
 ·intro i hi
  simp only [Fz,Int.toNat_natCast,List.drop_zero]
  rw [if_pos (Ak hi),Ac (by omega),Ac (by omega),Ac (by omega),Ac (by rw [List.length_take];omega),Gm i (by omega)]
  cases EB (ids.getD i default) 1 999999<;>cases (ids.take i).contains (ids.getD i default)<;>rfl
 ·simp only [Fz]
  rw [if_neg (AH _)]
theorem Yl(ids:List Int)(nodes:Int)(h0:ids.length<1099511627776):Y.call 63 [D.sl 3 (A9 (D.int .i64) ids),D.int .i64 nodes] []=some (D.bool (M7 ids nodes),[]):=UW ids nodes (Yj ids nodes h0)
theorem Ym(ids:List Int)(nodes:Int)(h0:ids.length<1099511627776):Y.call 54 [D.sl 3 (A9 (D.int .i64) ids),D.int .i64 nodes] []=some (D.bool (M7 ids nodes),[]):=UY ids nodes (Yk ids nodes h0)
noncomputable def K8(inputs:List Int)(nodes:Int):Option (Bool):=
 if(inputs.length:Int)=nodes then
  ck (inputs.length<1099511627776)<|
  some (CV inputs (0:Int) (9:Int))
 else
  some false
def k64:SC:=
 .seq
 (.ops [
 ⟨some 4, .assign (.const (.bool false)),4,none⟩])
 (.seq
 (.ops [
 ⟨some 5, .move (.tmp 0),26,none⟩,
 ⟨some 6, .call ⟨(.builtin .len), #[(.tmp 5)], #[26]⟩,3,none⟩,
 ⟨some 7, .move (.tmp 1),3,none⟩,
 ⟨some 8, .binOp .eql 3 (.tmp 6) (.tmp 7) 3,4,none⟩,
 ⟨some 9, .move (.tmp 8),4,none⟩,
 ⟨some 10, .move (.tmp 0),26,(some (some 9,true))⟩,
 ⟨some 11, .call ⟨(.value (.func 73)), #[(.tmp 10),(.const (.int .i64 0)),(.const (.int .i64 9))], #[26,3,3]⟩,4,(some (some 9,true))⟩,
 ⟨some 12, .pick (.tmp 9) (.tmp 11) (.const (.bool false)),4,none⟩,
 ⟨some 4, .assign (.tmp 12),4,none⟩])
 .ret)
theorem n6:Tryz.f64.body.map (Am lends)=some k64:=by kernel_rfl
theorem A4c:As Tryz.f64 2=true:=by kernel_rfl
theorem c64{a l:List D}{r:D×List D}(h:Av Y.env k64 (fin AJ l.length [ResultVar.tmp 4] r) (entry a l))(ha:a.length=2):Y.call 64 a l=some r:=
 AC (Y:=Y) rfl Tryz.func64 (ha▸A4c) n6 h
theorem P0(inputs:List Int)(nodes:Int){r:Bool}(h:K8 inputs nodes=some r):Y.call 64 [D.sl 3 (A9 (D.int .i64) inputs),D.int .i64 nodes] []=some (D.bool r,[]):=by
 refine c64 ?_ rfl
 unfold k64
 unfold K8 at h
 by_cases e1:(inputs.length:Int)=nodes
 ·rw [if_pos e1]at h
  obtain⟨e2,h⟩:=Ae h
  have c3:=Kv inputs (0:Int) (9:Int) e2
  cases h
  simp (maxDischargeDepth:=9) only [↓A8,A1,AE,Ap,A6,AA,↓reduceIte,Nat.reduceEqDiff,Nat.reduceLT,Nat.reduceAdd,decide_eq_true e1,c3]
 ·rw [if_neg e1]at h
  cases h
  simp (maxDischargeDepth:=9) only [↓A8,A1,AE,A6,AA,↓reduceIte,Nat.reduceEqDiff,Nat.reduceLT,e1]
noncomputable def FH(A2:List (List (Int×Int)))(AB A3:List Int)(v_:Int):Option (Bool):=
 some (EB v_ (0:Int) (IntKind.i64.wrap ((A2.length:Int)-1)))
def k78:SC:=
 .seq
 (.ops [
 ⟨some 2, .box 37 (.tmp 0),0,none⟩,
 ⟨some 4, .assign (.const (.bool false)),4,none⟩])
 (.seq
 (.ops [
 ⟨some 5, .move (.tmp 1),3,none⟩,
 ⟨some 6, .fieldAddr 37 (.tmp 2) 0,0,none⟩,
 ⟨some 7, .load 35 (.tmp 6),35,none⟩,
 ⟨some 8, .call ⟨(.builtin .len), #[(.tmp 7)], #[35]⟩,3,none⟩,
 ⟨some 9, .binOp .sub 3 (.tmp 8) (.const (.int .i64 1)) 3,3,none⟩,
 ⟨some 10, .call ⟨(.value (.func 60)), #[(.tmp 5),(.const (.int .i64 0)),(.tmp 9)], #[3,3,3]⟩,4,none⟩,
 ⟨some 4, .assign (.tmp 10),4,none⟩])
 .ret)
theorem n7:Tryz.f78.body.map (Am lends)=some k78:=by kernel_rfl
theorem A4e:As Tryz.f78 2=true:=by kernel_rfl
theorem c78{a l:List D}{r:D×List D}(h:Av Y.env k78 (fin AJ l.length [ResultVar.tmp 4] r) (entry a l))(ha:a.length=2):Y.call 78 a l=some r:=
 AC (Y:=Y) rfl Tryz.func78 (ha▸A4e) n7 h
theorem K9(A2:List (List (Int×Int)))(AB A3:List Int)(v_:Int){r:Bool}(h:FH A2 AB A3 v_=some r):Y.call 78 [D.agg [D.sl 52 (A9 (fun x=>D.sl 82 (AO .i64 .i64 x)) A2),D.sl 3 (A9 (D.int .i64) AB),D.sl 3 (A9 (D.int .i64) A3)],D.int .i64 v_] []=some (D.bool r,[]):=by
 refine c78 ?_ rfl
 unfold k78
 unfold FH at h
 have c1:=FT v_ (0:Int) (IntKind.i64.wrap ((A2.length:Int)-1))
 cases h
 simp (maxDischargeDepth:=9) only [↓A8,A1,AE,Ap,A6,AA,↓reduceIte,Nat.reduceEqDiff,Nat.reduceLT,Nat.reduceAdd,c1]
noncomputable def FI(A2:List (List (Int×Int)))(AB A3:List Int)(v_ i:Int):Option (Bool):=
 (FH A2 AB A3 v_).bind fun BB=>
 if BB=true then
  ck (0≤v_∧v_.toNat<A2.length)<|
  some (EB i (0:Int) (IntKind.i64.wrap (((A2.getD v_.toNat default).length:Int)-1)))
 else
  some false
def k65:SC:=
 .seq
 (.ops [
 ⟨some 3, .box 37 (.tmp 0),0,none⟩,
 ⟨some 6, .assign (.const (.bool false)),4,none⟩])
 (.seq
 (.ops [
 ⟨some 7, .load 37 (.tmp 3),37,none⟩,
 ⟨some 8, .move (.tmp 1),3,none⟩,
 ⟨some 9, .call ⟨(.value (.func 78)), #[(.tmp 7),(.tmp 8)], #[37,3]⟩,4,none⟩,
 ⟨some 10, .move (.tmp 9),4,none⟩,
 ⟨some 11, .move (.tmp 2),3,(some (some 10,true))⟩,
 ⟨some 12, .fieldAddr 37 (.tmp 3) 0,0,(some (some 10,true))⟩,
 ⟨some 13, .load 35 (.tmp 12),35,(some (some 10,true))⟩,
 ⟨some 14, .move (.tmp 1),3,(some (some 10,true))⟩,
 ⟨some 15, .indexAddr 35 (.tmp 13) (.tmp 14),0,(some (some 10,true))⟩,
 ⟨some 16, .load 52 (.tmp 15),52,(some (some 10,true))⟩,
 ⟨some 17, .call ⟨(.builtin .len), #[(.tmp 16)], #[52]⟩,3,(some (some 10,true))⟩,
 ⟨some 18, .binOp .sub 3 (.tmp 17) (.const (.int .i64 1)) 3,3,(some (some 10,true))⟩,
 ⟨some 19, .call ⟨(.value (.func 60)), #[(.tmp 11),(.const (.int .i64 0)),(.tmp 18)], #[3,3,3]⟩,4,(some (some 10,true))⟩,
 ⟨some 20, .pick (.tmp 10) (.tmp 19) (.const (.bool false)),4,none⟩,
 ⟨some 6, .assign (.tmp 20),4,none⟩])
 .ret)
theorem n8:Tryz.f65.body.map (Am lends)=some k65:=by kernel_rfl
theorem A4g:As Tryz.f65 3=true:=by kernel_rfl
theorem c65{a l:List D}{r:D×List D}(h:Av Y.env k65 (fin AJ l.length [ResultVar.tmp 6] r) (entry a l))(ha:a.length=3):Y.call 65 a l=some r:=
 AC (Y:=Y) rfl Tryz.func65 (ha▸A4g) n8 h
theorem KA(A2:List (List (Int×Int)))(AB A3:List Int)(v_ i:Int){r:Bool}(h:FI A2 AB A3 v_ i=some r):Y.call 65 [D.agg [D.sl 52 (A9 (fun x=>D.sl 82 (AO .i64 .i64 x)) A2),D.sl 3 (A9 (D.int .i64) AB),D.sl 3 (A9 (D.int .i64) A3)],D.int .i64 v_,D.int .i64 i] []=some (D.bool r,[]):=by
 refine c65 ?_ rfl
 unfold k65
 unfold FI at h
 obtain⟨BB,hl1,h⟩:=AL h
 try dsimp only at h
 have c1:=K9 A2 AB A3 v_ hl1
 by_cases e2:BB=true
 ·rw [if_pos e2]at h
  obtain⟨e3,h⟩:=Ae h
  have c4:=FT i (0:Int) (IntKind.i64.wrap (((A2.getD v_.toNat default).length:Int)-1))
  cases h
  simp (maxDischargeDepth:=9) only [↓A8,A1,AE,Ap,A6,AA,↓reduceIte,Nat.reduceEqDiff,Nat.reduceLT,Nat.reduceAdd,c1,e2,e3.1,e3.2,c4]
 ·rw [if_neg e2]at h
  have e2f:BB=false:=Bool.eq_false_iff.mpr e2
  cases h
  simp (maxDischargeDepth:=9) only [↓A8,A1,Ap,A6,AA,↓reduceIte,Nat.reduceEqDiff,Nat.reduceLT,Nat.reduceAdd,c1,e2f]
noncomputable def Cb(A4:List (List (Int×Int)))(AD A7:List Int)(C1 GR:Int):Option ((Int)⊕(Unit⊕Unit)):=
 if GR<((A4.getD C1.toNat default).length:Int)then
  ck (0≤GR∧GR.toNat<(A4.getD C1.toNat default).length)<|
  (FI A4 AD A7 (An (A4.getD C1.toNat default) GR.toNat) (BJ (A4.getD C1.toNat default) GR.toNat)).bind fun gR=>
  if gR=true then
   ck (0≤(An (A4.getD C1.toNat default) GR.toNat)∧(An (A4.getD C1.toNat default) GR.toNat).toNat<A4.length)<|
   ck (0≤(BJ (A4.getD C1.toNat default) GR.toNat)∧(BJ (A4.getD C1.toNat default) GR.toNat).toNat<(A4.getD ((An (A4.getD C1.toNat default) GR.toNat).toNat) default).length)<|
   if(((An (A4.getD ((An (A4.getD C1.toNat default) GR.toNat).toNat) default) ((BJ (A4.getD C1.toNat default) GR.toNat).toNat))==C1)&&((BJ (A4.getD ((An (A4.getD C1.toNat default) GR.toNat).toNat) default) ((BJ (A4.getD C1.toNat default) GR.toNat).toNat))==GR))=true then
    some (Sum.inl (IntKind.i64.wrap (GR+1)))
   else
    some (Sum.inr (Sum.inl ()))
  else
   some (Sum.inr (Sum.inl ()))
 else
  some (Sum.inr (Sum.inr ()))
noncomputable def FW(A4:List (List (Int×Int)))(AD A7:List Int)(C1 v:Int):Option (Unit⊕Unit):=DT (fun v=>Cb A4 AD A7 C1 v) v
noncomputable def Cc(A4:List (List (Int×Int)))(AD A7:List Int)(C1:Int):Option ((Int)⊕(Unit⊕Unit)):=
 if C1<(A4.length:Int)then
  ck (0≤C1∧C1.toNat<A4.length)<|
  if 6<((A4.getD C1.toNat default).length:Int)then
   some (Sum.inr (Sum.inl ()))
  else
   (FW A4 AD A7 C1 0).bind fun n9=>
   match n9 with
   | .inl q12_=>
    some (Sum.inr (Sum.inl ()))
   | .inr q12_=>
    some (Sum.inl (IntKind.i64.wrap (C1+1)))
 else
  some (Sum.inr (Sum.inr ()))
noncomputable def FX(A4:List (List (Int×Int)))(AD A7:List Int)(v:Int):Option (Unit⊕Unit):=DT (fun v=>Cc A4 AD A7 v) v
noncomputable def J2(A4:List (List (Int×Int)))(AD A7:List Int):Option (Bool):=
 if(EB (A4.length:Int) (1:Int) (40:Int))=true then
  ck (AD.length<1099511627776)<|
  if(M7 AD (A4.length:Int))=true then
   (K8 A7 (A4.length:Int)).bind fun FN=>
   if FN=true then
    (FX A4 AD A7 0).bind fun HG=>
    match HG with
    | .inl q9_=>
     some false
    | .inr q9_=>
     some true
   else
    some false
  else
   some false
 else
  some false
def UZ:SC:=
 .seq
 (.ops [
 ⟨some 44, .binOp .lss 3 (.tmp 43) (.tmp 42) 3,0,none⟩])
 (.seq
 (.cond (.tmp 44)
 .skip
 (.exit 2))
 (.seq
 (.block 3
 (.seq
 (.ops [
 ⟨some 45, .move (.tmp 43),3,none⟩,
 ⟨some 46, .indexAddr 52 (.tmp 41) (.tmp 43),0,none⟩,
 ⟨some 47, .load 82 (.tmp 46),82,none⟩,
 ⟨some 6, .alloc 82,0,none⟩,
 ⟨some 5, .assign (.tmp 45),3,none⟩,
 ⟨none, .store 82 (.tmp 6) (.tmp 47),0,none⟩])
 (.seq
 (.draws [
 (⟨[48,1,1],[48,49,50,51,52,53,54,55,56,57,58,59,60,61,62,63,64,65,66,67,68,66,67,3,5,69,70],[48]⟩,⟨some 48, .load 37 (.tmp 1),37,none⟩),
 (⟨[49,6,6],[48,49,50,51,52,53,54,55,56,57,58,59,60,61,62,63,64,65,66,67,68,66,67,3,5,69,70],[49]⟩,⟨some 49, .fieldAddr 82 (.tmp 6) 0,0,none⟩),
 (⟨[50,49,6],[48,49,50,51,52,53,54,55,56,57,58,59,60,61,62,63,64,65,66,67,68,66,67,3,5,69,70],[50]⟩,⟨some 50, .load 3 (.tmp 49),3,none⟩),
 (⟨[51,6,6],[48,49,50,51,52,53,54,55,56,57,58,59,60,61,62,63,64,65,66,67,68,66,67,3,5,69,70],[51]⟩,⟨some 51, .fieldAddr 82 (.tmp 6) 1,0,none⟩),
 (⟨[52,51,6],[48,49,50,51,52,53,54,55,56,57,58,59,60,61,62,63,64,65,66,67,68,66,67,3,5,69,70],[52]⟩,⟨some 52, .load 3 (.tmp 51),3,none⟩),
 (⟨[53,48,50,52,1,6,6],[48,49,50,51,52,53,54,55,56,57,58,59,60,61,62,63,64,65,66,67,68,66,67,3,5,69,70],[53]⟩,⟨some 53, .call ⟨(.value (.func 65)), #[(.tmp 48),(.tmp 50),(.tmp 52)], #[37,3,3]⟩,4,none⟩),
 (⟨[54,53,53],[48,49,50,51,52,53,54,55,56,57,58,59,60,61,62,63,64,65,66,67,68,66,67,3,5,69,70],[54]⟩,⟨some 54, .unOp .not 4 (.tmp 53),4,none⟩),
 (⟨[55,54,54],[48,49,50,51,52,53,54,55,56,57,58,59,60,61,62,63,64,65,66,67,68,66,67,3,5,69,70],[55]⟩,⟨some 55, .move (.tmp 54),4,none⟩),
 (⟨[56,1,1,55],[48,49,50,51,52,53,54,55,56,57,58,59,60,61,62,63,64,65,66,67,68,66,67,3,5,69,70],[56]⟩,⟨some 56, .fieldAddr 37 (.tmp 1) 0,0,(some (some 55,false))⟩),
 (⟨[57,56,1,55],[48,49,50,51,52,53,54,55,56,57,58,59,60,61,62,63,64,65,66,67,68,66,67,3,5,69,70],[57]⟩,⟨some 57, .load 35 (.tmp 56),35,(some (some 55,false))⟩),
 (⟨[58,6,6,55],[48,49,50,51,52,53,54,55,56,57,58,59,60,61,62,63,64,65,66,67,68,66,67,3,5,69,70],[58]⟩,⟨some 58, .fieldAddr 82 (.tmp 6) 0,0,(some (some 55,false))⟩),
 (⟨[59,58,6,55],[48,49,50,51,52,53,54,55,56,57,58,59,60,61,62,63,64,65,66,67,68,66,67,3,5,69,70],[59]⟩,⟨some 59, .load 3 (.tmp 58),3,(some (some 55,false))⟩),
 (⟨[60,57,59,1,6,55],[48,49,50,51,52,53,54,55,56,57,58,59,60,61,62,63,64,65,66,67,68,66,67,3,5,69,70],[60]⟩,⟨some 60, .indexAddr 35 (.tmp 57) (.tmp 59),0,(some (some 55,false))⟩),
 (⟨[61,60,1,55],[48,49,50,51,52,53,54,55,56,57,58,59,60,61,62,63,64,65,66,67,68,66,67,3,5,69,70],[61]⟩,⟨some 61, .load 52 (.tmp 60),52,(some (some 55,false))⟩),
 (⟨[62,6,6,55],[48,49,50,51,52,53,54,55,56,57,58,59,60,61,62,63,64,65,66,67,68,66,67,3,5,69,70],[62]⟩,⟨some 62, .fieldAddr 82 (.tmp 6) 1,0,(some (some 55,false))⟩),
 (⟨[63,62,6,55],[48,49,50,51,52,53,54,55,56,57,58,59,60,61,62,63,64,65,66,67,68,66,67,3,5,69,70],[63]⟩,⟨some 63, .load 3 (.tmp 62),3,(some (some 55,false))⟩),
 (⟨[64,61,63,1,6,55],[48,49,50,51,52,53,54,55,56,57,58,59,60,61,62,63,64,65,66,67,68,66,67,3,5,69,70],[64]⟩,⟨some 64, .indexAddr 52 (.tmp 61) (.tmp 63),0,(some (some 55,false))⟩),
 (⟨[65,64,1,55],[48,49,50,51,52,53,54,55,56,57,58,59,60,61,62,63,64,65,66,67,68,66,67,3,5,69,70],[65]⟩,⟨some 65, .load 82 (.tmp 64),82,(some (some 55,false))⟩),
 (⟨[66,3,3,55],[48,49,50,51,52,53,54,55,56,57,58,59,60,61,62,63,64,65,66,67,68,66,67,3,5,69,70],[66]⟩,⟨some 66, .move (.tmp 3),3,(some (some 55,false))⟩),
 (⟨[67,5,5,55],[48,49,50,51,52,53,54,55,56,57,58,59,60,61,62,63,64,65,66,67,68,66,67,3,5,69,70],[67]⟩,⟨some 67, .move (.tmp 5),3,(some (some 55,false))⟩),
 (⟨[68,66,67,3,5,55],[48,49,50,51,52,53,54,55,56,57,58,59,60,61,62,63,64,65,66,67,68,66,67,3,5,69,70],[68,66,67,3,5]⟩,⟨some 68, .build 82 #[(0,(.tmp 66)),(1,(.tmp 67))],82,(some (some 55,false))⟩),
 (⟨[69,65,68,1,68,55],[48,49,50,51,52,53,54,55,56,57,58,59,60,61,62,63,64,65,66,67,68,66,67,3,5,69,70],[69]⟩,⟨some 69, .binOp .neq 82 (.tmp 65) (.tmp 68) 82,4,(some (some 55,false))⟩),
 (⟨[70,55,69,54,69],[48,49,50,51,52,53,54,55,56,57,58,59,60,61,62,63,64,65,66,67,68,66,67,3,5,69,70],[70]⟩,⟨some 70, .pick (.tmp 55) (.const (.bool true)) (.tmp 69),4,none⟩)])
 (.cond (.tmp 70)
 (.seq
 (.ops [
 ⟨some 2, .assign (.const (.bool false)),4,none⟩])
 .ret)
 .skip))))
 (.ops [
 ⟨some 71, .binOp .add 3 (.tmp 43) (.const (.int .i64 1)) 3,3,none⟩,
 ⟨some 43, .move (.tmp 71),3,none⟩])))
def du:SC:= .loop UZ
def Ua:SC:=
 .seq
 (.ops [
 ⟨some 34, .binOp .lss 3 (.tmp 33) (.tmp 32) 3,0,none⟩])
 (.seq
 (.cond (.tmp 34)
 .skip
 (.exit 0))
 (.seq
 (.block 1
 (.seq
 (.ops [
 ⟨some 35, .move (.tmp 33),3,none⟩,
 ⟨some 36, .indexAddr 35 (.tmp 31) (.tmp 33),0,none⟩,
 ⟨some 37, .load 52 (.tmp 36),52,none⟩,
 ⟨some 3, .assign (.tmp 35),3,none⟩,
 ⟨some 4, .assign (.tmp 37),52,none⟩])
 (.seq
 (.seq
 (.ops [
 ⟨some 38, .move (.tmp 4),52,none⟩,
 ⟨some 39, .call ⟨(.builtin .len), #[(.tmp 38)], #[52]⟩,3,none⟩,
 ⟨some 40, .binOp .gtr 3 (.tmp 39) (.const (.int .i64 6)) 3,4,none⟩])
 (.cond (.tmp 40)
 (.seq
 (.ops [
 ⟨some 2, .assign (.const (.bool false)),4,none⟩])
 .ret)
 .skip))
 (.seq
 (.ops [
 ⟨some 41, .move (.tmp 4),52,none⟩,
 ⟨some 42, .call ⟨(.builtin .len), #[(.tmp 41)], #[52]⟩,3,none⟩,
 ⟨some 43, .move (.const (.int .i64 0)),3,none⟩])
 (.block 2
 du)))))
 (.ops [
 ⟨some 72, .binOp .add 3 (.tmp 33) (.const (.int .i64 1)) 3,3,none⟩,
 ⟨some 33, .move (.tmp 72),3,none⟩])))
def dw:SC:= .loop Ua
def k44:SC:=
 .seq
 (.ops [
 ⟨some 1, .box 37 (.tmp 0),0,none⟩,
 ⟨some 2, .assign (.const (.bool false)),4,none⟩])
 (.seq
 (.seq
 (.ops [
 ⟨some 7, .fieldAddr 37 (.tmp 1) 0,0,none⟩,
 ⟨some 8, .load 35 (.tmp 7),35,none⟩,
 ⟨some 9, .call ⟨(.builtin .len), #[(.tmp 8)], #[35]⟩,3,none⟩,
 ⟨some 10, .call ⟨(.value (.func 60)), #[(.tmp 9),(.const (.int .i64 1)),(.const (.int .i64 40))], #[3,3,3]⟩,4,none⟩,
 ⟨some 11, .unOp .not 4 (.tmp 10),4,none⟩,
 ⟨some 12, .move (.tmp 11),4,none⟩,
 ⟨some 13, .fieldAddr 37 (.tmp 1) 1,0,(some (some 12,false))⟩,
 ⟨some 14, .load 26 (.tmp 13),26,(some (some 12,false))⟩,
 ⟨some 15, .fieldAddr 37 (.tmp 1) 0,0,(some (some 12,false))⟩,
 ⟨some 16, .load 35 (.tmp 15),35,(some (some 12,false))⟩,
 ⟨some 17, .call ⟨(.builtin .len), #[(.tmp 16)], #[35]⟩,3,(some (some 12,false))⟩,
 ⟨some 18, .call ⟨(.value (.func 63)), #[(.tmp 14),(.tmp 17)], #[26,3]⟩,4,(some (some 12,false))⟩,
 ⟨some 19, .unOp .not 4 (.tmp 18),4,(some (some 12,false))⟩,
 ⟨some 20, .pick (.tmp 12) (.const (.bool true)) (.tmp 19),4,none⟩,
 ⟨some 21, .move (.tmp 20),4,none⟩,
 ⟨some 22, .fieldAddr 37 (.tmp 1) 2,0,(some (some 21,false))⟩,
 ⟨some 23, .load 26 (.tmp 22),26,(some (some 21,false))⟩,
 ⟨some 24, .fieldAddr 37 (.tmp 1) 0,0,(some (some 21,false))⟩,
 ⟨some 25, .load 35 (.tmp 24),35,(some (some 21,false))⟩,
 ⟨some 26, .call ⟨(.builtin .len), #[(.tmp 25)], #[35]⟩,3,(some (some 21,false))⟩,
 ⟨some 27, .call ⟨(.value (.func 64)), #[(.tmp 23),(.tmp 26)], #[26,3]⟩,4,(some (some 21,false))⟩,
 ⟨some 28, .unOp .not 4 (.tmp 27),4,(some (some 21,false))⟩,
 ⟨some 29, .pick (.tmp 21) (.const (.bool true)) (.tmp 28),4,none⟩])
 (.cond (.tmp 29)
 (.seq
 (.ops [
 ⟨some 2, .assign (.const (.bool false)),4,none⟩])
 .ret)
 .skip))
 (.seq
 (.seq
 (.ops [
 ⟨some 30, .fieldAddr 37 (.tmp 1) 0,0,none⟩,
 ⟨some 31, .load 35 (.tmp 30),35,none⟩,
 ⟨some 32, .call ⟨(.builtin .len), #[(.tmp 31)], #[35]⟩,3,none⟩,
 ⟨some 33, .move (.const (.int .i64 0)),3,none⟩])
 (.block 0
 dw))
 (.seq
 (.ops [
 ⟨some 2, .assign (.const (.bool true)),4,none⟩])
 .ret)))
theorem nA:Tryz.f44.body.map (Am lends)=some k44:=by kernel_rfl
theorem A4i:As Tryz.f44 1=true:=by kernel_rfl
theorem c44{a l:List D}{r:D×List D}(h:Av Y.env k44 (fin AJ l.length [ResultVar.tmp 2] r) (entry a l))(ha:a.length=1):Y.call 44 a l=some r:=
 AC (Y:=Y) rfl Tryz.func44 (ha▸A4i) nA h
def Ba(A4:List (List (Int×Int)))(AD A7:List Int)(C1 GR:Int)(s:St):Prop:=s.v 1=D.box [D.sl 52 (A9 (fun x=>D.sl 82 (AO .i64 .i64 x)) A4),D.sl 3 (A9 (D.int .i64) AD),D.sl 3 (A9 (D.int .i64) A7)]∧s.v 3=D.int .i64 C1∧s.v 31=D.sl 52 (A9 (fun x=>D.sl 82 (AO .i64 .i64 x)) A4)∧s.v 32=D.int .i64 (A4.length:Int)∧s.v 33=D.int .i64 C1∧s.v 41=D.sl 82 (AO .i64 .i64 (A4.getD C1.toNat default))∧s.v 42=D.int .i64 ((A4.getD C1.toNat default).length:Int)∧s.v 43=D.int .i64 GR
def C3(A4:List (List (Int×Int)))(AD A7:List Int)(C1:Int)(r:Unit⊕Unit)(ex:Ex)(s:St):Prop:=match r with
 | .inl q=>ex= .ret∧s.v 2=D.bool false
 | .inr q=>ex= .exit 2∧s.v 1=D.box [D.sl 52 (A9 (fun x=>D.sl 82 (AO .i64 .i64 x)) A4),D.sl 3 (A9 (D.int .i64) AD),D.sl 3 (A9 (D.int .i64) A7)]∧s.v 31=D.sl 52 (A9 (fun x=>D.sl 82 (AO .i64 .i64 x)) A4)∧s.v 32=D.int .i64 (A4.length:Int)∧s.v 33=D.int .i64 C1
theorem NC(A4:List (List (Int×Int)))(AD A7:List Int)(C1:Int){v:Int}{s:St}{r:Unit⊕Unit}(h:FW A4 AD A7 C1 v=some r)(hM:Ba A4 AD A7 C1 v s):Av Y.env du (C3 A4 AD A7 C1 r) s:=by
 unfold FW at h
 refine Aa (c:=UZ) (fun v=>Cb A4 AD A7 C1 v) (fun v s=>Ba A4 AD A7 C1 v s) (C3 A4 AD A7 C1) ?_ h hM
 clear h hM s v r
 intro GR s o hM h
 unfold Cb at h
 unfold Ba at hM
 obtain⟨m0,m1,m2,m3,m4,m5,m6,m7⟩:=hM
 unfold UZ
 by_cases e11:GR<((A4.getD C1.toNat default).length:Int)
 ·rw [if_pos e11]at h
  obtain⟨e12,h⟩:=Ae h
  obtain⟨gR,hl13,h⟩:=AL h
  try dsimp only at h
  have j6:=KA A4 AD A7 (An (A4.getD C1.toNat default) GR.toNat) (BJ (A4.getD C1.toNat default) GR.toNat) hl13
  by_cases e14:gR=true
  ·rw [if_pos e14]at h
   obtain⟨e15,h⟩:=Ae h
   obtain⟨e16,h⟩:=Ae h
   by_cases e17:(((An (A4.getD ((An (A4.getD C1.toNat default) GR.toNat).toNat) default) ((BJ (A4.getD C1.toNat default) GR.toNat).toNat))==C1)&&((BJ (A4.getD ((An (A4.getD C1.toNat default) GR.toNat).toNat) default) ((BJ (A4.getD C1.toNat default) GR.toNat).toNat))==GR))=true
   ·rw [if_pos e17]at h
    cases h
    simp (maxDischargeDepth:=9) only [↓A8,A1,AE,Ap,A6,AA,↓reduceIte,Nat.reduceEqDiff,Nat.reduceLT,Nat.reduceLeDiff,Nat.reduceAdd,Nat.reduceBEq,m0,m1,m2,m3,m4,m5,m6,m7,e11,e12.1,e12.2,j6,e14,e15.1,e15.2,e16.1,e16.2,e17,Ba,Ei]
   ·rw [if_neg e17]at h
    have e17f:(((An (A4.getD ((An (A4.getD C1.toNat default) GR.toNat).toNat) default) ((BJ (A4.getD C1.toNat default) GR.toNat).toNat))==C1)&&((BJ (A4.getD ((An (A4.getD C1.toNat default) GR.toNat).toNat) default) ((BJ (A4.getD C1.toNat default) GR.toNat).toNat))==GR))=false:=Bool.eq_false_iff.mpr e17
    cases h
    simp (maxDischargeDepth:=9) only [↓A8,A1,AE,Ap,A6,AA,↓reduceIte,Nat.reduceEqDiff,Nat.reduceLT,Nat.reduceLeDiff,Nat.reduceAdd,Nat.reduceBEq,m0,m1,m5,m6,m7,e11,e12.1,e12.2,j6,e14,e15.1,e15.2,e16.1,e16.2,e17f,Ba,C3,Ho]
  ·rw [if_neg e14]at h
   have e14f:gR=false:=Bool.eq_false_iff.mpr e14
   cases h
   simp (maxDischargeDepth:=9) only [↓A8,A1,Ap,A6,AA,↓reduceIte,Nat.reduceEqDiff,Nat.reduceLT,Nat.reduceAdd,Nat.reduceBEq,m0,m1,m5,m6,m7,e11,e12.1,e12.2,j6,e14f,Ba,C3,Ho]
 ·rw [if_neg e11]at h
  cases h
  simp (maxDischargeDepth:=9) only [↓A8,A1,AA,↓reduceIte,Nat.reduceEqDiff,Nat.reduceLT,m0,m2,m3,m4,m6,m7,e11,Ba,C3,Ge]
def Bb(A4:List (List (Int×Int)))(AD A7:List Int)(C1:Int)(s:St):Prop:=s.v 1=D.box [D.sl 52 (A9 (fun x=>D.sl 82 (AO .i64 .i64 x)) A4),D.sl 3 (A9 (D.int .i64) AD),D.sl 3 (A9 (D.int .i64) A7)]∧s.v 31=D.sl 52 (A9 (fun x=>D.sl 82 (AO .i64 .i64 x)) A4)∧s.v 32=D.int .i64 (A4.length:Int)∧s.v 33=D.int .i64 C1
def C4(A4:List (List (Int×Int)))(AD A7:List Int)(r:Unit⊕Unit)(ex:Ex)(s:St):Prop:=match r with
 | .inl q=>ex= .ret∧s.v 2=D.bool false
 | .inr q=>ex= .exit 0
theorem ND(A4:List (List (Int×Int)))(AD A7:List Int){v:Int}{s:St}{r:Unit⊕Unit}(h:FX A4 AD A7 v=some r)(hM:Bb A4 AD A7 v s):Av Y.env dw (C4 A4 AD A7 r) s:=by
 unfold FX at h
 refine Aa (c:=Ua) (fun v=>Cc A4 AD A7 v) (fun v s=>Bb A4 AD A7 v s) (C4 A4 AD A7) ?_ h hM
 clear h hM s v r
 intro C1 s o hM h
 unfold Cc at h
 unfold Bb at hM
 obtain⟨m0,m1,m2,m3⟩:=hM
 unfold Ua
 by_cases e8:C1<(A4.length:Int)
 ·rw [if_pos e8]at h
  obtain⟨e9,h⟩:=Ae h
  by_cases e10:6<((A4.getD C1.toNat default).length:Int)
  ·rw [if_pos e10]at h
   cases h
   simp (maxDischargeDepth:=9) only [↓A8,A1,AE,Ap,A6,AA,↓reduceIte,Nat.reduceEqDiff,Nat.reduceLT,m1,m2,m3,e8,e9.1,e9.2,e10,Bb,C4,Ho]
  ·rw [if_neg e10]at h
   obtain⟨n9,hl12,h⟩:=AL h
   try dsimp only at h
   simp (maxDischargeDepth:=9) only [↓A8,A1,AE,Ap,A6,AA,↓reduceIte,Nat.reduceEqDiff,Nat.reduceLT,m1,m2,m3,e8,e9.1,e9.2,e10]
   refine AP (NC A4 AD A7 C1 hl12 ?_) ?_
   ·simp (maxDischargeDepth:=9) only [A1,↓reduceIte,Nat.reduceEqDiff,m0,m1,m2,m3,Ba]
   ·intro ex12 s12 hX12
    rcases n9 with q12_ | q12_
    ·unfold C3 at hX12
     dsimp only at hX12 h
     obtain⟨rfl,n12_0⟩:=hX12
     cases h
     simp (maxDischargeDepth:=9) only [↓A8,A1,n12_0,Bb,C4,Ho]
    ·unfold C3 at hX12
     dsimp only at hX12 h
     obtain⟨rfl,n12_0,n12_1,n12_2,n12_3⟩:=hX12
     cases h
     simp (maxDischargeDepth:=9) only [↓A8,A1,AA,↓reduceIte,Nat.reduceEqDiff,Nat.reduceLT,n12_0,n12_1,n12_2,n12_3,Bb,Ei]
 ·rw [if_neg e8]at h
  cases h
  simp (maxDischargeDepth:=9) only [↓A8,A1,AA,↓reduceIte,Nat.reduceLT,m2,m3,e8,Bb,C4,Ge]
theorem O2(A4:List (List (Int×Int)))(AD A7:List Int){r:Bool}(h:J2 A4 AD A7=some r):Y.call 44 [D.agg [D.sl 52 (A9 (fun x=>D.sl 82 (AO .i64 .i64 x)) A4),D.sl 3 (A9 (D.int .i64) AD),D.sl 3 (A9 (D.int .i64) A7)]] []=some (D.bool r,[]):=by
 refine c44 ?_ rfl
 unfold k44
 unfold J2 at h
 have c1:=FT (A4.length:Int) (1:Int) (40:Int)
 by_cases e2:(EB (A4.length:Int) (1:Int) (40:Int))=true
 ·rw [if_pos e2]at h
  obtain⟨e3,h⟩:=Ae h
  have c4:=Yl AD (A4.length:Int) e3
  by_cases e5:(M7 AD (A4.length:Int))=true
  ·rw [if_pos e5]at h
   obtain⟨FN,hl6,h⟩:=AL h
   try dsimp only at h
   have c6:=P0 A7 (A4.length:Int) hl6
   by_cases e7:FN=true
   ·rw [if_pos e7]at h
    obtain⟨HG,hl9,h⟩:=AL h
    try dsimp only at h
    simp (maxDischargeDepth:=9) only [↓A8,A1,AE,Ap,A6,AA,↓reduceIte,Nat.reduceEqDiff,Nat.reduceLT,Nat.reduceAdd,c1,e2,c4,e5,c6,e7]
    refine AP (ND A4 AD A7 hl9 ?_) ?_
    ·simp (maxDischargeDepth:=9) only [A1,↓reduceIte,Nat.reduceEqDiff,Bb]
    ·intro ex9 s9 hX9
     rcases HG with q9_ | q9_
     ·unfold C4 at hX9
      dsimp only at hX9 h
      obtain⟨rfl,n9_0⟩:=hX9
      cases h
      simp (maxDischargeDepth:=9) only [↓A8,A1,A6,↓reduceIte,n9_0]
     ·unfold C4 at hX9
      dsimp only at hX9 h
      obtain rfl:=hX9
      cases h
      simp (maxDischargeDepth:=9) only [↓A8,A1,A6,AA,↓reduceIte,Nat.reduceEqDiff,Nat.reduceLT]
   ·rw [if_neg e7]at h
    have e7f:FN=false:=Bool.eq_false_iff.mpr e7
    cases h
    simp (maxDischargeDepth:=9) only [↓A8,A1,AE,Ap,A6,AA,↓reduceIte,Nat.reduceEqDiff,Nat.reduceLT,Nat.reduceAdd,c1,e2,c4,e5,c6,e7f]
  ·rw [if_neg e5]at h
   have e5f:(M7 AD (A4.length:Int))=false:=Bool.eq_false_iff.mpr e5
   cases h
   simp (maxDischargeDepth:=9) only [↓A8,A1,AE,Ap,A6,AA,↓reduceIte,Nat.reduceEqDiff,Nat.reduceLT,Nat.reduceAdd,c1,e2,c4,e5f]
 ·rw [if_neg e2]at h
  have e2f:(EB (A4.length:Int) (1:Int) (40:Int))=false:=Bool.eq_false_iff.mpr e2
  cases h
  simp (maxDischargeDepth:=9) only [↓A8,A1,AE,Ap,A6,AA,↓reduceIte,Nat.reduceEqDiff,Nat.reduceLT,Nat.reduceAdd,c1,e2f]
noncomputable def F4(A4:List (List (Int×Int)))(AD A7:List Int)(BX E8:Int):Option ((Int)⊕(Unit⊕Unit)):=
 if E8<((A4.getD BX.toNat default).length:Int)then
  ck (0≤E8∧E8.toNat<(A4.getD BX.toNat default).length)<|
  if(EB (An (A4.getD BX.toNat default) E8.toNat) (0:Int) (IntKind.i64.wrap ((A4.length:Int)-1)))=true then
   ck (0≤(An (A4.getD BX.toNat default) E8.toNat)∧(An (A4.getD BX.toNat default) E8.toNat).toNat<A4.length)<|
   if(EB (BJ (A4.getD BX.toNat default) E8.toNat) (0:Int) (IntKind.i64.wrap (((A4.getD ((An (A4.getD BX.toNat default) E8.toNat).toNat) default).length:Int)-1)))=true then
    ck (0≤(BJ (A4.getD BX.toNat default) E8.toNat)∧(BJ (A4.getD BX.toNat default) E8.toNat).toNat<(A4.getD ((An (A4.getD BX.toNat default) E8.toNat).toNat) default).length)<|
    if(((An (A4.getD ((An (A4.getD BX.toNat default) E8.toNat).toNat) default) ((BJ (A4.getD BX.toNat default) E8.toNat).toNat))==BX)&&((BJ (A4.getD ((An (A4.getD BX.toNat default) E8.toNat).toNat) default) ((BJ (A4.getD BX.toNat default) E8.toNat).toNat))==E8))=true then
     some (Sum.inl (IntKind.i64.wrap (E8+1)))
    else
     some (Sum.inr (Sum.inl ()))
   else
    some (Sum.inr (Sum.inl ()))
  else
   some (Sum.inr (Sum.inl ()))
 else
  some (Sum.inr (Sum.inr ()))
noncomputable def Hj(A4:List (List (Int×Int)))(AD A7:List Int)(BX v:Int):Option (Unit⊕Unit):=DT (fun v=>F4 A4 AD A7 BX v) v
noncomputable def F5(A4:List (List (Int×Int)))(AD A7:List Int)(BX:Int):Option ((Int)⊕(Unit⊕Unit)):=
 if BX<(A4.length:Int)then
  ck (0≤BX∧BX.toNat<A4.length)<|
  if 6<((A4.getD BX.toNat default).length:Int)then
   some (Sum.inr (Sum.inl ()))
  else
   (Hj A4 AD A7 BX 0).bind fun nB=>
   match nB with
   | .inl q14_=>
    some (Sum.inr (Sum.inl ()))
   | .inr q14_=>
    some (Sum.inl (IntKind.i64.wrap (BX+1)))
 else
  some (Sum.inr (Sum.inr ()))
noncomputable def Hk(A4:List (List (Int×Int)))(AD A7:List Int)(v:Int):Option (Unit⊕Unit):=DT (fun v=>F5 A4 AD A7 v) v
noncomputable def NE(A4:List (List (Int×Int)))(AD A7:List Int):Option (Bool):=
 if(EB (A4.length:Int) (1:Int) (40:Int))=true then
  ck (AD.length<1099511627776)<|
  if(M7 AD (A4.length:Int))=true then
   if(A7.length:Int)=(A4.length:Int)then
    ck (A7.length<1099511627776)<|
    if(CV A7 (0:Int) (9:Int))=true then
     (Hk A4 AD A7 0).bind fun Yn=>
     match Yn with
     | .inl q11_=>
      some false
     | .inr q11_=>
      some true
    else
     some false
   else
    some false
  else
   some false
 else
  some false
def Ub:SC:=
 .seq
 (.ops [
 ⟨some 50, .binOp .lss 3 (.tmp 49) (.tmp 48) 3,0,none⟩])
 (.seq
 (.cond (.tmp 50)
 .skip
 (.exit 2))
 (.seq
 (.block 3
 (.seq
 (.ops [
 ⟨some 51, .move (.tmp 49),3,none⟩,
 ⟨some 52, .indexAddr 52 (.tmp 47) (.tmp 49),0,none⟩,
 ⟨some 53, .load 82 (.tmp 52),82,none⟩,
 ⟨some 6, .alloc 82,0,none⟩,
 ⟨some 5, .assign (.tmp 51),3,none⟩,
 ⟨none, .store 82 (.tmp 6) (.tmp 53),0,none⟩])
 (.seq
 (.draws [
 (⟨[54,6,6],[54,55,56,57,58,59,60,61,62,63,64,65,66,67,68,69,70,71,72,73,74,75,76,77,78,79,80,81,82,83,84,85,86,87,88,89,87,88,3,5,90,91],[54]⟩,⟨some 54, .fieldAddr 82 (.tmp 6) 0,0,none⟩),
 (⟨[55,54,6],[54,55,56,57,58,59,60,61,62,63,64,65,66,67,68,69,70,71,72,73,74,75,76,77,78,79,80,81,82,83,84,85,86,87,88,89,87,88,3,5,90,91],[55]⟩,⟨some 55, .load 3 (.tmp 54),3,none⟩),
 (⟨[56,1,1],[54,55,56,57,58,59,60,61,62,63,64,65,66,67,68,69,70,71,72,73,74,75,76,77,78,79,80,81,82,83,84,85,86,87,88,89,87,88,3,5,90,91],[56]⟩,⟨some 56, .fieldAddr 37 (.tmp 1) 0,0,none⟩),
 (⟨[57,56,1],[54,55,56,57,58,59,60,61,62,63,64,65,66,67,68,69,70,71,72,73,74,75,76,77,78,79,80,81,82,83,84,85,86,87,88,89,87,88,3,5,90,91],[57]⟩,⟨some 57, .load 35 (.tmp 56),35,none⟩),
 (⟨[58,57,1],[54,55,56,57,58,59,60,61,62,63,64,65,66,67,68,69,70,71,72,73,74,75,76,77,78,79,80,81,82,83,84,85,86,87,88,89,87,88,3,5,90,91],[58]⟩,⟨some 58, .call ⟨(.builtin .len), #[(.tmp 57)], #[35]⟩,3,none⟩),
 (⟨[59,58,58],[54,55,56,57,58,59,60,61,62,63,64,65,66,67,68,69,70,71,72,73,74,75,76,77,78,79,80,81,82,83,84,85,86,87,88,89,87,88,3,5,90,91],[59]⟩,⟨some 59, .binOp .sub 3 (.tmp 58) (.const (.int .i64 1)) 3,3,none⟩),
 (⟨[60,55,59,6,59],[54,55,56,57,58,59,60,61,62,63,64,65,66,67,68,69,70,71,72,73,74,75,76,77,78,79,80,81,82,83,84,85,86,87,88,89,87,88,3,5,90,91],[60]⟩,⟨some 60, .call ⟨(.value (.func 51)), #[(.tmp 55),(.const (.int .i64 0)),(.tmp 59)], #[3,3,3]⟩,4,none⟩),
 (⟨[61,60,60],[54,55,56,57,58,59,60,61,62,63,64,65,66,67,68,69,70,71,72,73,74,75,76,77,78,79,80,81,82,83,84,85,86,87,88,89,87,88,3,5,90,91],[61]⟩,⟨some 61, .unOp .not 4 (.tmp 60),4,none⟩),
 (⟨[62,61,61],[54,55,56,57,58,59,60,61,62,63,64,65,66,67,68,69,70,71,72,73,74,75,76,77,78,79,80,81,82,83,84,85,86,87,88,89,87,88,3,5,90,91],[62]⟩,⟨some 62, .move (.tmp 61),4,none⟩),
 (⟨[63,6,6,62],[54,55,56,57,58,59,60,61,62,63,64,65,66,67,68,69,70,71,72,73,74,75,76,77,78,79,80,81,82,83,84,85,86,87,88,89,87,88,3,5,90,91],[63]⟩,⟨some 63, .fieldAddr 82 (.tmp 6) 1,0,(some (some 62,false))⟩),
 (⟨[64,63,6,62],[54,55,56,57,58,59,60,61,62,63,64,65,66,67,68,69,70,71,72,73,74,75,76,77,78,79,80,81,82,83,84,85,86,87,88,89,87,88,3,5,90,91],[64]⟩,⟨some 64, .load 3 (.tmp 63),3,(some (some 62,false))⟩),
 (⟨[65,1,1,62],[54,55,56,57,58,59,60,61,62,63,64,65,66,67,68,69,70,71,72,73,74,75,76,77,78,79,80,81,82,83,84,85,86,87,88,89,87,88,3,5,90,91],[65]⟩,⟨some 65, .fieldAddr 37 (.tmp 1) 0,0,(some (some 62,false))⟩),
 (⟨[66,65,1,62],[54,55,56,57,58,59,60,61,62,63,64,65,66,67,68,69,70,71,72,73,74,75,76,77,78,79,80,81,82,83,84,85,86,87,88,89,87,88,3,5,90,91],[66]⟩,⟨some 66, .load 35 (.tmp 65),35,(some (some 62,false))⟩),
 (⟨[67,6,6,62],[54,55,56,57,58,59,60,61,62,63,64,65,66,67,68,69,70,71,72,73,74,75,76,77,78,79,80,81,82,83,84,85,86,87,88,89,87,88,3,5,90,91],[67]⟩,⟨some 67, .fieldAddr 82 (.tmp 6) 0,0,(some (some 62,false))⟩),
 (⟨[68,67,6,62],[54,55,56,57,58,59,60,61,62,63,64,65,66,67,68,69,70,71,72,73,74,75,76,77,78,79,80,81,82,83,84,85,86,87,88,89,87,88,3,5,90,91],[68]⟩,⟨some 68, .load 3 (.tmp 67),3,(some (some 62,false))⟩),
 (⟨[69,66,68,1,6,62],[54,55,56,57,58,59,60,61,62,63,64,65,66,67,68,69,70,71,72,73,74,75,76,77,78,79,80,81,82,83,84,85,86,87,88,89,87,88,3,5,90,91],[69]⟩,⟨some 69, .indexAddr 35 (.tmp 66) (.tmp 68),0,(some (some 62,false))⟩),
 (⟨[70,69,1,62],[54,55,56,57,58,59,60,61,62,63,64,65,66,67,68,69,70,71,72,73,74,75,76,77,78,79,80,81,82,83,84,85,86,87,88,89,87,88,3,5,90,91],[70]⟩,⟨some 70, .load 52 (.tmp 69),52,(some (some 62,false))⟩),
 (⟨[71,70,1,62],[54,55,56,57,58,59,60,61,62,63,64,65,66,67,68,69,70,71,72,73,74,75,76,77,78,79,80,81,82,83,84,85,86,87,88,89,87,88,3,5,90,91],[71]⟩,⟨some 71, .call ⟨(.builtin .len), #[(.tmp 70)], #[52]⟩,3,(some (some 62,false))⟩),
 (⟨[72,71,71,62],[54,55,56,57,58,59,60,61,62,63,64,65,66,67,68,69,70,71,72,73,74,75,76,77,78,79,80,81,82,83,84,85,86,87,88,89,87,88,3,5,90,91],[72]⟩,⟨some 72, .binOp .sub 3 (.tmp 71) (.const (.int .i64 1)) 3,3,(some (some 62,false))⟩),
 (⟨[73,64,72,6,72,62],[54,55,56,57,58,59,60,61,62,63,64,65,66,67,68,69,70,71,72,73,74,75,76,77,78,79,80,81,82,83,84,85,86,87,88,89,87,88,3,5,90,91],[73]⟩,⟨some 73, .call ⟨(.value (.func 51)), #[(.tmp 64),(.const (.int .i64 0)),(.tmp 72)], #[3,3,3]⟩,4,(some (some 62,false))⟩),
 (⟨[74,73,73,62],[54,55,56,57,58,59,60,61,62,63,64,65,66,67,68,69,70,71,72,73,74,75,76,77,78,79,80,81,82,83,84,85,86,87,88,89,87,88,3,5,90,91],[74]⟩,⟨some 74, .unOp .not 4 (.tmp 73),4,(some (some 62,false))⟩),
 (⟨[75,62,74,61,74],[54,55,56,57,58,59,60,61,62,63,64,65,66,67,68,69,70,71,72,73,74,75,76,77,78,79,80,81,82,83,84,85,86,87,88,89,87,88,3,5,90,91],[75]⟩,⟨some 75, .pick (.tmp 62) (.const (.bool true)) (.tmp 74),4,none⟩),
 (⟨[76,75,75],[54,55,56,57,58,59,60,61,62,63,64,65,66,67,68,69,70,71,72,73,74,75,76,77,78,79,80,81,82,83,84,85,86,87,88,89,87,88,3,5,90,91],[76]⟩,⟨some 76, .move (.tmp 75),4,none⟩),
 (⟨[77,1,1,76],[54,55,56,57,58,59,60,61,62,63,64,65,66,67,68,69,70,71,72,73,74,75,76,77,78,79,80,81,82,83,84,85,86,87,88,89,87,88,3,5,90,91],[77]⟩,⟨some 77, .fieldAddr 37 (.tmp 1) 0,0,(some (some 76,false))⟩),
 (⟨[78,77,1,76],[54,55,56,57,58,59,60,61,62,63,64,65,66,67,68,69,70,71,72,73,74,75,76,77,78,79,80,81,82,83,84,85,86,87,88,89,87,88,3,5,90,91],[78]⟩,⟨some 78, .load 35 (.tmp 77),35,(some (some 76,false))⟩),
 (⟨[79,6,6,76],[54,55,56,57,58,59,60,61,62,63,64,65,66,67,68,69,70,71,72,73,74,75,76,77,78,79,80,81,82,83,84,85,86,87,88,89,87,88,3,5,90,91],[79]⟩,⟨some 79, .fieldAddr 82 (.tmp 6) 0,0,(some (some 76,false))⟩),
 (⟨[80,79,6,76],[54,55,56,57,58,59,60,61,62,63,64,65,66,67,68,69,70,71,72,73,74,75,76,77,78,79,80,81,82,83,84,85,86,87,88,89,87,88,3,5,90,91],[80]⟩,⟨some 80, .load 3 (.tmp 79),3,(some (some 76,false))⟩),
 (⟨[81,78,80,1,6,76],[54,55,56,57,58,59,60,61,62,63,64,65,66,67,68,69,70,71,72,73,74,75,76,77,78,79,80,81,82,83,84,85,86,87,88,89,87,88,3,5,90,91],[81]⟩,⟨some 81, .indexAddr 35 (.tmp 78) (.tmp 80),0,(some (some 76,false))⟩),
 (⟨[82,81,1,76],[54,55,56,57,58,59,60,61,62,63,64,65,66,67,68,69,70,71,72,73,74,75,76,77,78,79,80,81,82,83,84,85,86,87,88,89,87,88,3,5,90,91],[82]⟩,⟨some 82, .load 52 (.tmp 81),52,(some (some 76,false))⟩),
 (⟨[83,6,6,76],[54,55,56,57,58,59,60,61,62,63,64,65,66,67,68,69,70,71,72,73,74,75,76,77,78,79,80,81,82,83,84,85,86,87,88,89,87,88,3,5,90,91],[83]⟩,⟨some 83, .fieldAddr 82 (.tmp 6) 1,0,(some (some 76,false))⟩),
 (⟨[84,83,6,76],[54,55,56,57,58,59,60,61,62,63,64,65,66,67,68,69,70,71,72,73,74,75,76,77,78,79,80,81,82,83,84,85,86,87,88,89,87,88,3,5,90,91],[84]⟩,⟨some 84, .load 3 (.tmp 83),3,(some (some 76,false))⟩),
 (⟨[85,82,84,1,6,76],[54,55,56,57,58,59,60,61,62,63,64,65,66,67,68,69,70,71,72,73,74,75,76,77,78,79,80,81,82,83,84,85,86,87,88,89,87,88,3,5,90,91],[85]⟩,⟨some 85, .indexAddr 52 (.tmp 82) (.tmp 84),0,(some (some 76,false))⟩),
 (⟨[86,85,1,76],[54,55,56,57,58,59,60,61,62,63,64,65,66,67,68,69,70,71,72,73,74,75,76,77,78,79,80,81,82,83,84,85,86,87,88,89,87,88,3,5,90,91],[86]⟩,⟨some 86, .load 82 (.tmp 85),82,(some (some 76,false))⟩),
 (⟨[87,3,3,76],[54,55,56,57,58,59,60,61,62,63,64,65,66,67,68,69,70,71,72,73,74,75,76,77,78,79,80,81,82,83,84,85,86,87,88,89,87,88,3,5,90,91],[87]⟩,⟨some 87, .move (.tmp 3),3,(some (some 76,false))⟩),
 (⟨[88,5,5,76],[54,55,56,57,58,59,60,61,62,63,64,65,66,67,68,69,70,71,72,73,74,75,76,77,78,79,80,81,82,83,84,85,86,87,88,89,87,88,3,5,90,91],[88]⟩,⟨some 88, .move (.tmp 5),3,(some (some 76,false))⟩),
 (⟨[89,87,88,3,5,76],[54,55,56,57,58,59,60,61,62,63,64,65,66,67,68,69,70,71,72,73,74,75,76,77,78,79,80,81,82,83,84,85,86,87,88,89,87,88,3,5,90,91],[89,87,88,3,5]⟩,⟨some 89, .build 82 #[(0,(.tmp 87)),(1,(.tmp 88))],82,(some (some 76,false))⟩),
 (⟨[90,86,89,1,89,76],[54,55,56,57,58,59,60,61,62,63,64,65,66,67,68,69,70,71,72,73,74,75,76,77,78,79,80,81,82,83,84,85,86,87,88,89,87,88,3,5,90,91],[90]⟩,⟨some 90, .binOp .neq 82 (.tmp 86) (.tmp 89) 82,4,(some (some 76,false))⟩),
 (⟨[91,76,90,75,90],[54,55,56,57,58,59,60,61,62,63,64,65,66,67,68,69,70,71,72,73,74,75,76,77,78,79,80,81,82,83,84,85,86,87,88,89,87,88,3,5,90,91],[91]⟩,⟨some 91, .pick (.tmp 76) (.const (.bool true)) (.tmp 90),4,none⟩)])
 (.cond (.tmp 91)
 (.seq
 (.ops [
 ⟨some 2, .assign (.const (.bool false)),4,none⟩])
 .ret)
 .skip))))
 (.ops [
 ⟨some 92, .binOp .add 3 (.tmp 49) (.const (.int .i64 1)) 3,3,none⟩,
 ⟨some 49, .move (.tmp 92),3,none⟩])))
def dz:SC:= .loop Ub
def Uc:SC:=
 .seq
 (.ops [
 ⟨some 40, .binOp .lss 3 (.tmp 39) (.tmp 38) 3,0,none⟩])
 (.seq
 (.cond (.tmp 40)
 .skip
 (.exit 0))
 (.seq
 (.block 1
 (.seq
 (.ops [
 ⟨some 41, .move (.tmp 39),3,none⟩,
 ⟨some 42, .indexAddr 35 (.tmp 37) (.tmp 39),0,none⟩,
 ⟨some 43, .load 52 (.tmp 42),52,none⟩,
 ⟨some 3, .assign (.tmp 41),3,none⟩,
 ⟨some 4, .assign (.tmp 43),52,none⟩])
 (.seq
 (.seq
 (.ops [
 ⟨some 44, .move (.tmp 4),52,none⟩,
 ⟨some 45, .call ⟨(.builtin .len), #[(.tmp 44)], #[52]⟩,3,none⟩,
 ⟨some 46, .binOp .gtr 3 (.tmp 45) (.const (.int .i64 6)) 3,4,none⟩])
 (.cond (.tmp 46)
 (.seq
 (.ops [
 ⟨some 2, .assign (.const (.bool false)),4,none⟩])
 .ret)
 .skip))
 (.seq
 (.ops [
 ⟨some 47, .move (.tmp 4),52,none⟩,
 ⟨some 48, .call ⟨(.builtin .len), #[(.tmp 47)], #[52]⟩,3,none⟩,
 ⟨some 49, .move (.const (.int .i64 0)),3,none⟩])
 (.block 2
 dz)))))
 (.ops [
 ⟨some 93, .binOp .add 3 (.tmp 39) (.const (.int .i64 1)) 3,3,none⟩,
 ⟨some 39, .move (.tmp 93),3,none⟩])))
def eA:SC:= .loop Uc
def k38:SC:=
 .seq
 (.ops [
 ⟨some 1, .box 37 (.tmp 0),0,none⟩,
 ⟨some 2, .assign (.const (.bool false)),4,none⟩])
 (.seq
 (.seq
 (.ops [
 ⟨some 7, .fieldAddr 37 (.tmp 1) 0,0,none⟩,
 ⟨some 8, .load 35 (.tmp 7),35,none⟩,
 ⟨some 9, .call ⟨(.builtin .len), #[(.tmp 8)], #[35]⟩,3,none⟩,
 ⟨some 10, .call ⟨(.value (.func 51)), #[(.tmp 9),(.const (.int .i64 1)),(.const (.int .i64 40))], #[3,3,3]⟩,4,none⟩,
 ⟨some 11, .unOp .not 4 (.tmp 10),4,none⟩,
 ⟨some 12, .move (.tmp 11),4,none⟩,
 ⟨some 13, .fieldAddr 37 (.tmp 1) 1,0,(some (some 12,false))⟩,
 ⟨some 14, .load 26 (.tmp 13),26,(some (some 12,false))⟩,
 ⟨some 15, .fieldAddr 37 (.tmp 1) 0,0,(some (some 12,false))⟩,
 ⟨some 16, .load 35 (.tmp 15),35,(some (some 12,false))⟩,
 ⟨some 17, .call ⟨(.builtin .len), #[(.tmp 16)], #[35]⟩,3,(some (some 12,false))⟩,
 ⟨some 18, .call ⟨(.value (.func 54)), #[(.tmp 14),(.tmp 17)], #[26,3]⟩,4,(some (some 12,false))⟩,
 ⟨some 19, .unOp .not 4 (.tmp 18),4,(some (some 12,false))⟩,
 ⟨some 20, .pick (.tmp 12) (.const (.bool true)) (.tmp 19),4,none⟩,
 ⟨some 21, .move (.tmp 20),4,none⟩,
 ⟨some 22, .fieldAddr 37 (.tmp 1) 2,0,(some (some 21,false))⟩,
 ⟨some 23, .load 26 (.tmp 22),26,(some (some 21,false))⟩,
 ⟨some 24, .call ⟨(.builtin .len), #[(.tmp 23)], #[26]⟩,3,(some (some 21,false))⟩,
 ⟨some 25, .fieldAddr 37 (.tmp 1) 0,0,(some (some 21,false))⟩,
 ⟨some 26, .load 35 (.tmp 25),35,(some (some 21,false))⟩,
 ⟨some 27, .call ⟨(.builtin .len), #[(.tmp 26)], #[35]⟩,3,(some (some 21,false))⟩,
 ⟨some 28, .binOp .neq 3 (.tmp 24) (.tmp 27) 3,4,(some (some 21,false))⟩,
 ⟨some 29, .pick (.tmp 21) (.const (.bool true)) (.tmp 28),4,none⟩,
 ⟨some 30, .move (.tmp 29),4,none⟩,
 ⟨some 31, .fieldAddr 37 (.tmp 1) 2,0,(some (some 30,false))⟩,
 ⟨some 32, .load 26 (.tmp 31),26,(some (some 30,false))⟩,
 ⟨some 33, .call ⟨(.value (.func 55)), #[(.tmp 32),(.const (.int .i64 0)),(.const (.int .i64 9))], #[26,3,3]⟩,4,(some (some 30,false))⟩,
 ⟨some 34, .unOp .not 4 (.tmp 33),4,(some (some 30,false))⟩,
 ⟨some 35, .pick (.tmp 30) (.const (.bool true)) (.tmp 34),4,none⟩])
 (.cond (.tmp 35)
 (.seq
 (.ops [
 ⟨some 2, .assign (.const (.bool false)),4,none⟩])
 .ret)
 .skip))
 (.seq
 (.seq
 (.ops [
 ⟨some 36, .fieldAddr 37 (.tmp 1) 0,0,none⟩,
 ⟨some 37, .load 35 (.tmp 36),35,none⟩,
 ⟨some 38, .call ⟨(.builtin .len), #[(.tmp 37)], #[35]⟩,3,none⟩,
 ⟨some 39, .move (.const (.int .i64 0)),3,none⟩])
 (.block 0
 eA))
 (.seq
 (.ops [
 ⟨some 2, .assign (.const (.bool true)),4,none⟩])
 .ret)))
theorem nC:Tryz.f38.body.map (Am lends)=some k38:=by kernel_rfl
theorem A4k:As Tryz.f38 1=true:=by kernel_rfl
theorem c38{a l:List D}{r:D×List D}(h:Av Y.env k38 (fin AJ l.length [ResultVar.tmp 2] r) (entry a l))(ha:a.length=1):Y.call 38 a l=some r:=
 AC (Y:=Y) rfl Tryz.func38 (ha▸A4k) nC h
def C7(A4:List (List (Int×Int)))(AD A7:List Int)(BX E8:Int)(s:St):Prop:=s.v 1=D.box [D.sl 52 (A9 (fun x=>D.sl 82 (AO .i64 .i64 x)) A4),D.sl 3 (A9 (D.int .i64) AD),D.sl 3 (A9 (D.int .i64) A7)]∧s.v 3=D.int .i64 BX∧s.v 37=D.sl 52 (A9 (fun x=>D.sl 82 (AO .i64 .i64 x)) A4)∧s.v 38=D.int .i64 (A4.length:Int)∧s.v 39=D.int .i64 BX∧s.v 47=D.sl 82 (AO .i64 .i64 (A4.getD BX.toNat default))∧s.v 48=D.int .i64 ((A4.getD BX.toNat default).length:Int)∧s.v 49=D.int .i64 E8
def CW(A4:List (List (Int×Int)))(AD A7:List Int)(BX:Int)(r:Unit⊕Unit)(ex:Ex)(s:St):Prop:=match r with
 | .inl q=>ex= .ret∧s.v 2=D.bool false
 | .inr q=>ex= .exit 2∧s.v 1=D.box [D.sl 52 (A9 (fun x=>D.sl 82 (AO .i64 .i64 x)) A4),D.sl 3 (A9 (D.int .i64) AD),D.sl 3 (A9 (D.int .i64) A7)]∧s.v 37=D.sl 52 (A9 (fun x=>D.sl 82 (AO .i64 .i64 x)) A4)∧s.v 38=D.int .i64 (A4.length:Int)∧s.v 39=D.int .i64 BX
theorem Qo(A4:List (List (Int×Int)))(AD A7:List Int)(BX:Int){v:Int}{s:St}{r:Unit⊕Unit}(h:Hj A4 AD A7 BX v=some r)(hM:C7 A4 AD A7 BX v s):Av Y.env dz (CW A4 AD A7 BX r) s:=by
 unfold Hj at h
 refine Aa (c:=Ub) (fun v=>F4 A4 AD A7 BX v) (fun v s=>C7 A4 AD A7 BX v s) (CW A4 AD A7 BX) ?_ h hM
 clear h hM s v r
 intro E8 s o hM h
 unfold F4 at h
 unfold C7 at hM
 obtain⟨m0,m1,m2,m3,m4,m5,m6,m7⟩:=hM
 unfold Ub
 by_cases e13:E8<((A4.getD BX.toNat default).length:Int)
 ·rw [if_pos e13]at h
  obtain⟨e14,h⟩:=Ae h
  have ni:=Gk (An (A4.getD BX.toNat default) E8.toNat) (0:Int) (IntKind.i64.wrap ((A4.length:Int)-1))
  by_cases e16:(EB (An (A4.getD BX.toNat default) E8.toNat) (0:Int) (IntKind.i64.wrap ((A4.length:Int)-1)))=true
  ·rw [if_pos e16]at h
   obtain⟨e17,h⟩:=Ae h
   have Rr:=Gk (BJ (A4.getD BX.toNat default) E8.toNat) (0:Int) (IntKind.i64.wrap (((A4.getD ((An (A4.getD BX.toNat default) E8.toNat).toNat) default).length:Int)-1))
   by_cases e19:(EB (BJ (A4.getD BX.toNat default) E8.toNat) (0:Int) (IntKind.i64.wrap (((A4.getD ((An (A4.getD BX.toNat default) E8.toNat).toNat) default).length:Int)-1)))=true
   ·rw [if_pos e19]at h
    obtain⟨e20,h⟩:=Ae h
    by_cases e21:(((An (A4.getD ((An (A4.getD BX.toNat default) E8.toNat).toNat) default) ((BJ (A4.getD BX.toNat default) E8.toNat).toNat))==BX)&&((BJ (A4.getD ((An (A4.getD BX.toNat default) E8.toNat).toNat) default) ((BJ (A4.getD BX.toNat default) E8.toNat).toNat))==E8))=true
    ·rw [if_pos e21]at h
     cases h
     simp (maxDischargeDepth:=9) only [↓A8,A1,AE,Ap,A6,AA,↓reduceIte,Nat.reduceEqDiff,Nat.reduceLT,Nat.reduceLeDiff,Nat.reduceAdd,Nat.reduceBEq,m0,m1,m2,m3,m4,m5,m6,m7,e13,e14.1,e14.2,ni,e16,e17.1,e17.2,Rr,e19,e20.1,e20.2,e21,C7,Ei]
    ·rw [if_neg e21]at h
     have e21f:(((An (A4.getD ((An (A4.getD BX.toNat default) E8.toNat).toNat) default) ((BJ (A4.getD BX.toNat default) E8.toNat).toNat))==BX)&&((BJ (A4.getD ((An (A4.getD BX.toNat default) E8.toNat).toNat) default) ((BJ (A4.getD BX.toNat default) E8.toNat).toNat))==E8))=false:=Bool.eq_false_iff.mpr e21
     cases h
     simp (maxDischargeDepth:=9) only [↓A8,A1,AE,Ap,A6,AA,↓reduceIte,Nat.reduceEqDiff,Nat.reduceLT,Nat.reduceLeDiff,Nat.reduceAdd,Nat.reduceBEq,m0,m1,m5,m6,m7,e13,e14.1,e14.2,ni,e16,e17.1,e17.2,Rr,e19,e20.1,e20.2,e21f,C7,CW,Ho]
   ·rw [if_neg e19]at h
    have e19f:(EB (BJ (A4.getD BX.toNat default) E8.toNat) (0:Int) (IntKind.i64.wrap (((A4.getD ((An (A4.getD BX.toNat default) E8.toNat).toNat) default).length:Int)-1)))=false:=Bool.eq_false_iff.mpr e19
    cases h
    simp (maxDischargeDepth:=9) only [↓A8,A1,AE,Ap,A6,AA,↓reduceIte,Nat.reduceEqDiff,Nat.reduceLT,Nat.reduceAdd,Nat.reduceBEq,m0,m1,m5,m6,m7,e13,e14.1,e14.2,ni,e16,e17.1,e17.2,Rr,e19f,C7,CW,Ho]
  ·rw [if_neg e16]at h
   have e16f:(EB (An (A4.getD BX.toNat default) E8.toNat) (0:Int) (IntKind.i64.wrap ((A4.length:Int)-1)))=false:=Bool.eq_false_iff.mpr e16
   cases h
   simp (maxDischargeDepth:=9) only [↓A8,A1,AE,Ap,A6,AA,↓reduceIte,Nat.reduceEqDiff,Nat.reduceLT,Nat.reduceAdd,Nat.reduceBEq,m0,m1,m5,m6,m7,e13,e14.1,e14.2,ni,e16f,C7,CW,Ho]
 ·rw [if_neg e13]at h
  cases h
  simp (maxDischargeDepth:=9) only [↓A8,A1,AA,↓reduceIte,Nat.reduceEqDiff,Nat.reduceLT,m0,m2,m3,m4,m6,m7,e13,C7,CW,Ge]
def CX(A4:List (List (Int×Int)))(AD A7:List Int)(BX:Int)(s:St):Prop:=s.v 1=D.box [D.sl 52 (A9 (fun x=>D.sl 82 (AO .i64 .i64 x)) A4),D.sl 3 (A9 (D.int .i64) AD),D.sl 3 (A9 (D.int .i64) A7)]∧s.v 37=D.sl 52 (A9 (fun x=>D.sl 82 (AO .i64 .i64 x)) A4)∧s.v 38=D.int .i64 (A4.length:Int)∧s.v 39=D.int .i64 BX
def DO(A4:List (List (Int×Int)))(AD A7:List Int)(r:Unit⊕Unit)(ex:Ex)(s:St):Prop:=match r with
 | .inl q=>ex= .ret∧s.v 2=D.bool false
 | .inr q=>ex= .exit 0
theorem Qp(A4:List (List (Int×Int)))(AD A7:List Int){v:Int}{s:St}{r:Unit⊕Unit}(h:Hk A4 AD A7 v=some r)(hM:CX A4 AD A7 v s):Av Y.env eA (DO A4 AD A7 r) s:=by
 unfold Hk at h
 refine Aa (c:=Uc) (fun v=>F5 A4 AD A7 v) (fun v s=>CX A4 AD A7 v s) (DO A4 AD A7) ?_ h hM
 clear h hM s v r
 intro BX s o hM h
 unfold F5 at h
 unfold CX at hM
 obtain⟨m0,m1,m2,m3⟩:=hM
 unfold Uc
 by_cases e10:BX<(A4.length:Int)
 ·rw [if_pos e10]at h
  obtain⟨e11,h⟩:=Ae h
  by_cases e12:6<((A4.getD BX.toNat default).length:Int)
  ·rw [if_pos e12]at h
   cases h
   simp (maxDischargeDepth:=9) only [↓A8,A1,AE,Ap,A6,AA,↓reduceIte,Nat.reduceEqDiff,Nat.reduceLT,m1,m2,m3,e10,e11.1,e11.2,e12,CX,DO,Ho]
  ·rw [if_neg e12]at h
   obtain⟨nB,hl14,h⟩:=AL h
   try dsimp only at h
   simp (maxDischargeDepth:=9) only [↓A8,A1,AE,Ap,A6,AA,↓reduceIte,Nat.reduceEqDiff,Nat.reduceLT,m1,m2,m3,e10,e11.1,e11.2,e12]
   refine AP (Qo A4 AD A7 BX hl14 ?_) ?_
   ·simp (maxDischargeDepth:=9) only [A1,↓reduceIte,Nat.reduceEqDiff,m0,m1,m2,m3,C7]
   ·intro ex14 s14 hX14
    rcases nB with q14_ | q14_
    ·unfold CW at hX14
     dsimp only at hX14 h
     obtain⟨rfl,n14_0⟩:=hX14
     cases h
     simp (maxDischargeDepth:=9) only [↓A8,A1,n14_0,CX,DO,Ho]
    ·unfold CW at hX14
     dsimp only at hX14 h
     obtain⟨rfl,n14_0,n14_1,n14_2,n14_3⟩:=hX14
     cases h
     simp (maxDischargeDepth:=9) only [↓A8,A1,AA,↓reduceIte,Nat.reduceEqDiff,Nat.reduceLT,n14_0,n14_1,n14_2,n14_3,CX,Ei]
 ·rw [if_neg e10]at h
  cases h
  simp (maxDischargeDepth:=9) only [↓A8,A1,AA,↓reduceIte,Nat.reduceLT,m2,m3,e10,CX,DO,Ge]
theorem Rt(A4:List (List (Int×Int)))(AD A7:List Int){r:Bool}(h:NE A4 AD A7=some r):Y.call 38 [D.agg [D.sl 52 (A9 (fun x=>D.sl 82 (AO .i64 .i64 x)) A4),D.sl 3 (A9 (D.int .i64) AD),D.sl 3 (A9 (D.int .i64) A7)]] []=some (D.bool r,[]):=by
 refine c38 ?_ rfl
 unfold k38
 unfold NE at h
 have c1:=Gk (A4.length:Int) (1:Int) (40:Int)
 by_cases e2:(EB (A4.length:Int) (1:Int) (40:Int))=true
 ·rw [if_pos e2]at h
  obtain⟨e3,h⟩:=Ae h
  have c4:=Ym AD (A4.length:Int) e3
  by_cases e5:(M7 AD (A4.length:Int))=true
  ·rw [if_pos e5]at h
   by_cases e6:(A7.length:Int)=(A4.length:Int)
   ·rw [if_pos e6]at h
    obtain⟨e7,h⟩:=Ae h
    have c8:=QP A7 (0:Int) (9:Int) e7
    by_cases e9:(CV A7 (0:Int) (9:Int))=true
    ·rw [if_pos e9]at h
     obtain⟨Yn,hl11,h⟩:=AL h
     try dsimp only at h
     simp (maxDischargeDepth:=9) only [↓A8,A1,AE,Ap,A6,AA,↓reduceIte,Nat.reduceEqDiff,Nat.reduceLT,Nat.reduceAdd,c1,e2,c4,e5,decide_eq_true e6,c8,e9]
     refine AP (Qp A4 AD A7 hl11 ?_) ?_
     ·simp (maxDischargeDepth:=9) only [A1,↓reduceIte,Nat.reduceEqDiff,CX]
     ·intro ex11 s11 hX11
      rcases Yn with q11_ | q11_
      ·unfold DO at hX11
       dsimp only at hX11 h
       obtain⟨rfl,n11_0⟩:=hX11
       cases h
       simp (maxDischargeDepth:=9) only [↓A8,A1,A6,↓reduceIte,n11_0]
      ·unfold DO at hX11
       dsimp only at hX11 h
       obtain rfl:=hX11
       cases h
       simp (maxDischargeDepth:=9) only [↓A8,A1,A6,AA,↓reduceIte,Nat.reduceEqDiff,Nat.reduceLT]
    ·rw [if_neg e9]at h
     have e9f:(CV A7 (0:Int) (9:Int))=false:=Bool.eq_false_iff.mpr e9
     cases h
     simp (maxDischargeDepth:=9) only [↓A8,A1,AE,Ap,A6,AA,↓reduceIte,Nat.reduceEqDiff,Nat.reduceLT,Nat.reduceAdd,c1,e2,c4,e5,decide_eq_true e6,c8,e9f]
   ·rw [if_neg e6]at h
    cases h
    simp (maxDischargeDepth:=9) only [↓A8,A1,AE,Ap,A6,AA,↓reduceIte,Nat.reduceEqDiff,Nat.reduceLT,Nat.reduceAdd,c1,e2,c4,e5,e6]
  ·rw [if_neg e5]at h
   have e5f:(M7 AD (A4.length:Int))=false:=Bool.eq_false_iff.mpr e5
   cases h
   simp (maxDischargeDepth:=9) only [↓A8,A1,AE,Ap,A6,AA,↓reduceIte,Nat.reduceEqDiff,Nat.reduceLT,Nat.reduceAdd,c1,e2,c4,e5f]
 ·rw [if_neg e2]at h
  have e2f:(EB (A4.length:Int) (1:Int) (40:Int))=false:=Bool.eq_false_iff.mpr e2
  cases h
  simp (maxDischargeDepth:=9) only [↓A8,A1,AE,Ap,A6,AA,↓reduceIte,Nat.reduceEqDiff,Nat.reduceLT,Nat.reduceAdd,c1,e2f]
def NF(es:List (List (Int×Int)))(v i:Nat):Bool:=
 EB (An (es.getD v default) i) 0 ((es.length:Int)-1)&&
 (EB (BJ (es.getD v default) i) 0 (((es.getD (An (es.getD v default) i).toNat default).length:Int)-1)&&
 ((An (es.getD (An (es.getD v default) i).toNat default) (BJ (es.getD v default) i).toNat==(v:Int))&&(BJ (es.getD (An (es.getD v default) i).toNat default) (BJ (es.getD v default) i).toNat==(i:Int))))
theorem O3(es:List (List (Int×Int)))(v i:Nat):NF es v i=(EB (An (es.getD v default) i) 0 ((es.length:Int)-1)&&
 (EB (BJ (es.getD v default) i) 0 (((es.getD (An (es.getD v default) i).toNat default).length:Int)-1)&&
 ((An (es.getD (An (es.getD v default) i).toNat default) (BJ (es.getD v default) i).toNat==(v:Int))&&(BJ (es.getD (An (es.getD v default) i).toNat default) (BJ (es.getD v default) i).toNat==(i:Int))))):=rfl
def NG(es:List (List (Int×Int)))(v:Nat):Bool:=decide ((es.getD v default).length≤6)&&(List.range (es.getD v default).length).all (NF es v)
theorem LX(es:List (List (Int×Int)))(v:Nat):NG es v=(decide ((es.getD v default).length≤6)&&(List.range (es.getD v default).length).all (NF es v)):=rfl
def CG(es:List (List (Int×Int)))(ids ins:List Int):Bool:=
 EB es.length 1 40&&(M7 ids es.length&&(decide ((ins.length:Int)=es.length)&&(CV ins 0 9&&(List.range es.length).all (NG es))))
theorem eB(es:List (List (Int×Int)))(ids ins:List Int)(h:BH es)(v:Nat):FW es ids ins (v:Int) 0=some (if(List.range (es.getD v default).length).all (NF es v)=true then .inr ()else .inl ()):=by
 have h1:=h.1
 have h2:=h.getD v
 unfold FW
 refine CE (fun x=>Cb es ids ins (v:Int) x) (fun i=>(i:Int)) (es.getD v default).length (NF es v) (.inl ()) (.inr ()) ?_ ?_
 ·intro i hi
  have h3:=h.getD (An (es.getD v default) i).toNat
  simp only [Cb,FI,FH,Int.toNat_natCast]
  rw [O3,if_pos (Ak hi),Ac (by omega),Option.bind_some,Gl _ (by omega),Gl _ (by omega),Gm i (by omega)]
  cases r1:EB (An (es.getD v default) i) 0 ((es.length:Int)-1)with
  | false=>simp
  | true=>
   have r1':=FG.1 r1
   rw [if_pos rfl,Ac (by omega),Option.bind_some]
   cases r2:EB (BJ (es.getD v default) i) 0 (((es.getD (An (es.getD v default) i).toNat default).length:Int)-1)with
   | false=>simp
   | true=>
    have r2':=FG.1 r2
    rw [if_pos rfl,Ac (by omega),Ac (by omega),Bool.true_and,Bool.true_and]
 ·simp only [Cb,Int.toNat_natCast]
  rw [if_neg (AH _)]
theorem eC(es:List (List (Int×Int)))(ids ins:List Int)(h:BH es)(v:Nat):Hj es ids ins (v:Int) 0=some (if(List.range (es.getD v default).length).all (NF es v)=true then .inr ()else .inl ()):=by
 have h1:=h.1
 have h2:=h.getD v
 unfold Hj
 refine CE (fun x=>F4 es ids ins (v:Int) x) (fun i=>(i:Int)) (es.getD v default).length (NF es v) (.inl ()) (.inr ()) ?_ ?_
 ·intro i hi
  have h3:=h.getD (An (es.getD v default) i).toNat
  simp only [F4,Int.toNat_natCast]
  rw [O3,if_pos (Ak hi),Ac (by omega),Gl _ (by omega),Gl _ (by omega),Gm i (by omega)]
  cases r1:EB (An (es.getD v default) i) 0 ((es.length:Int)-1)with
  | false=>simp
  | true=>
   have r1':=FG.1 r1
   rw [if_pos rfl,Ac (by omega)]
   cases r2:EB (BJ (es.getD v default) i) 0 (((es.getD (An (es.getD v default) i).toNat default).length:Int)-1)with
   | false=>simp
   | true=>
    have r2':=FG.1 r2
    rw [if_pos rfl,Ac (by omega),Bool.true_and,Bool.true_and]
 ·simp only [F4,Int.toNat_natCast]
  rw [if_neg (AH _)]
theorem eD(es:List (List (Int×Int)))(ids ins:List Int)(h:BH es):FX es ids ins 0=some (if(List.range es.length).all (NG es)=true then .inr ()else .inl ()):=by
 have h1:=h.1
 unfold FX
 refine CE (fun x=>Cc es ids ins x) (fun i=>(i:Int)) es.length (NG es) (.inl ()) (.inr ()) ?_ ?_
 ·intro v hv
  simp only [Cc,Int.toNat_natCast]
  rw [LX,if_pos (Ak hv),Ac (by omega),eB es ids ins h v,Option.bind_some,Gm v (by omega)]
  by_cases h6:(es.getD v default).length≤6
  ·rw [if_neg (by omega),decide_eq_true h6,Bool.true_and]
   cases (List.range (es.getD v default).length).all (NF es v)<;>rfl
  ·rw [if_pos (by omega),decide_eq_false h6];rfl
 ·simp only [Cc]
  rw [if_neg (AH _)]
theorem eE(es:List (List (Int×Int)))(ids ins:List Int)(h:BH es):Hk es ids ins 0=some (if(List.range es.length).all (NG es)=true then .inr ()else .inl ()):=by
 have h1:=h.1
 unfold Hk
 refine CE (fun x=>F5 es ids ins x) (fun i=>(i:Int)) es.length (NG es) (.inl ()) (.inr ()) ?_ ?_
 ·intro v hv
  simp only [F5,Int.toNat_natCast]
  rw [LX,if_pos (Ak hv),Ac (by omega),eC es ids ins h v,Option.bind_some,Gm v (by omega)]
  by_cases h6:(es.getD v default).length≤6
  ·rw [if_neg (by omega),decide_eq_true h6,Bool.true_and]
   cases (List.range (es.getD v default).length).all (NF es v)<;>rfl
  ·rw [if_pos (by omega),decide_eq_false h6];rfl
 ·simp only [F5]
  rw [if_neg (AH _)]
theorem Qq(es:List (List (Int×Int)))(ids ins:List Int)(h:BH es)(h2:ids.length<1099511627776)(h3:ins.length<1099511627776):J2 es ids ins=some (CG es ids ins):=by
 unfold J2 CG
 rw [Ac h2,eD es ids ins h]
 unfold K8
 rw [Ac h3]
 cases EB es.length 1 40 with
 | false=>rfl
 | true=>
  cases M7 ids es.length with
  | false=>rfl
  | true=>
   by_cases hl:(ins.length:Int)=es.length
   ·rw [if_pos hl,decide_eq_true hl]
    cases CV ins 0 9 with
    | false=>rfl
    | true=>cases (List.range es.length).all (NG es)<;>rfl
   ·rw [if_neg hl,decide_eq_false hl];rfl
theorem X0(es:List (List (Int×Int)))(ids ins:List Int)(h:BH es)(h2:ids.length<1099511627776)(h3:ins.length<1099511627776):NE es ids ins=some (CG es ids ins):=by
 unfold NE CG
 rw [Ac h2,Ac h3,eE es ids ins h]
 cases EB es.length 1 40 with
 | false=>rfl
 | true=>
  cases M7 ids es.length with
  | false=>rfl
  | true=>
   by_cases hl:(ins.length:Int)=es.length
   ·rw [if_pos hl,decide_eq_true hl]
    cases CV ins 0 9 with
    | false=>rfl
    | true=>cases (List.range es.length).all (NG es)<;>rfl
   ·rw [if_neg hl,decide_eq_false hl];rfl
theorem Qr(A4:List (List (Int×Int)))(AD A7:List Int)(h0:BH A4)(h1:AD.length<1099511627776)(h2:A7.length<1099511627776):Y.call 44 [D.agg [D.sl 52 (A9 (fun x=>D.sl 82 (AO .i64 .i64 x)) A4),D.sl 3 (A9 (D.int .i64) AD),D.sl 3 (A9 (D.int .i64) A7)]] []=some (D.bool (CG A4 AD A7),[]):=O2 A4 AD A7 (Qq A4 AD A7 h0 h1 h2)
theorem X1(A4:List (List (Int×Int)))(AD A7:List Int)(h0:BH A4)(h1:AD.length<1099511627776)(h2:A7.length<1099511627776):Y.call 38 [D.agg [D.sl 52 (A9 (fun x=>D.sl 82 (AO .i64 .i64 x)) A4),D.sl 3 (A9 (D.int .i64) AD),D.sl 3 (A9 (D.int .i64) A7)]] []=some (D.bool (CG A4 AD A7),[]):=Rt A4 AD A7 (X0 A4 AD A7 h0 h1 h2)
end Go.Proofs.YtipfckompmhljaaGreat
