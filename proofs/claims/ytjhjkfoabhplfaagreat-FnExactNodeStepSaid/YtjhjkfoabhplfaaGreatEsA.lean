/- What the two steps of an elimination share: lifted. Conditions: none. -/
import Derived.Test.YtjhjkfoabhplfaaGreatL6
import Derived.Test.YtjhjkfoabhplfaaGreatIsP
import Derived.Test.YtjhjkfoabhplfaaGreatCon
import Derived.Test.YtjhjkfoabhplfaaGreatSrt
import Derived.Test.YtjhjkfoabhplfaaGreatHas
import Derived.Test.YtjhjkfoabhplfaaGreatEdg
import Derived.Test.YtjhjkfoabhplfaaGreatZob
namespace Go.Proofs.YtjhjkfoabhplfaaGreat
open Go Dv
set_option linter.unusedSimpArgs false
set_option linter.unusedVariables false
set_option maxRecDepth 100000
set_option maxHeartbeats 4000000
noncomputable def Ba(slices:List (List Int))(size BS:Int):Option ((Int×Int)⊕(Int)):= if BS<(slices.length:Int)then ck (0≤BS∧BS.toNat<slices.length)<| if(IntKind.i64.wrap (size+((slices.getD BS.toNat default).length:Int)))<0 then none else some (Sum.inl (IntKind.i64.wrap (size+((slices.getD BS.toNat default).length:Int)),IntKind.i64.wrap (BS+1))) else some (Sum.inr size)
noncomputable def CX(slices:List (List Int))(v:Int×Int):Option (Int):=GQ (fun v=>Ba slices v.1 v.2) v
noncomputable def Bb(slices:List (List Int))(newslice:List Int)(Ot:Int):Option (((List Int)×Int)⊕((List Int))):= if Ot<(slices.length:Int)then ck (0≤Ot∧Ot.toNat<slices.length)<| ck (newslice.length+(slices.getD Ot.toNat default).length<1099511627776)<| some (Sum.inl ((newslice++(slices.getD Ot.toNat default)),IntKind.i64.wrap (Ot+1))) else some (Sum.inr newslice)
noncomputable def CY(slices:List (List Int))(v:(List Int)×Int):Option ((List Int)):=GQ (fun v=>Bb slices v.1 v.2) v
noncomputable def D5(slices:List (List Int)):Option ((List Int)):= (CX slices (0,0)).bind fun AA=> ck (0≤AA∧AA<1099511627776)<| (CY slices ([],0)).bind fun Ah=> some Ah
def dX:SC:= .seq (.ops [oB 12 .lss 3 (tK 11) (tK 10) 3 0]) (.seq (.cond (tK 12) .skip (.exit 0)) (.seq (.block 1 (.seq (.ops [oI 13 22 9 11,oL 14 27 13 27,oA 5 14 27]) (.seq (.ops [oM 15 3 3,oM 16 5 27,oN 17 16 27,oB 18 .add 3 (tK 15) (tK 17) 3 3,oA 3 18 3]) (.seq (.ops [oM 19 3 3,oB 20 .lss 3 (tK 19) (iK 0) 3 4]) (.cond (tK 20) (.ops [oX 21 (.makeInterface 9 (.const (.string {data:= #[108,101,110,32,111,117,116,32,111,102,32,114,97,110,103,101]}))) 20,⟨none,.panic (tK 21),0,none⟩]) .skip))))) (.ops [oB 22 .add 3 (tK 11) (iK 1) 3 3,oM 11 22 3])))
def xg:SC:= .loop dX
def dY:SC:= .seq (.ops [oB 28 .lss 3 (tK 27) (tK 26) 3 0]) (.seq (.cond (tK 28) .skip (.exit 2)) (.seq (.block 3 (.seq (.ops [oI 29 22 25 27,oL 30 27 29 27,oA 8 30 27]) (.ops [oM 31 6 27,oM 32 8 27,oX 33 (.call ⟨(.builtin .append), #[(tK 31),(tK 32)], #[27,27]⟩) 27,oA 6 33 27]))) (.ops [oB 34 .add 3 (tK 27) (iK 1) 3 3,oM 27 34 3])))
def xh:SC:= .loop dY
def k67:SC:= .seq (.ops [oX 2 (.assign (.const (.slice none 0 0))) 27]) (.seq (.ops [oX 3 (.assign (iK 0)) 3]) (.seq (.seq (.ops [oM 9 0 22,oN 10 9 22,oX 11 (.move (iK 0)) 3]) (.block 0 xg)) (.seq (.ops [oM 23 3 3,oC 24 98 [(.const (.slice none 0 0)),(tK 23)] [27,3] 900013,oA 6 24 27]) (.seq (.seq (.ops [oM 25 0 22,oN 26 25 22,oX 27 (.move (iK 0)) 3]) (.block 2 xh)) (.seq (.ops [oM 35 6 27,oA 2 35 27]) .ret)))))
theorem A5V:Tryz.f67.body.map (BP lends)=some k67:=by kernel_rfl
theorem AHu:Be Tryz.f67 1=true:=by kernel_rfl
theorem c67{a l:List D}{r:D×List D}(h:BZ Y.env k67 (Eh AX l.length [ResultVar.tmp 2] r) (entry a l))(ha:a.length=1):Y.call 67 a l=some r:=
 AJ (Y:=Y) rfl Tryz.func67 (ha▸AHu) A5V h
def Bc(slices:List (List Int))(size BS:Int)(s:St):Prop:=s.v 0=D.sl 27 (A8 (fun x=>D.sl 3 (A8 (D.int .i64) x)) slices)∧s.v 3=D.int .i64 size∧s.v 9=D.sl 27 (A8 (fun x=>D.sl 3 (A8 (D.int .i64) x)) slices)∧s.v 10=D.int .i64 (slices.length:Int)∧s.v 11=D.int .i64 BS
def Cw(slices:List (List Int))(r:Int)(ex:Ex)(s:St):Prop:=ex= .exit 0∧s.v 0=D.sl 27 (A8 (fun x=>D.sl 3 (A8 (D.int .i64) x)) slices)∧s.v 3=D.int .i64 r
theorem Lt(slices:List (List Int)){v:Int×Int}{s:St}{r:Int}(h:CX slices v=some r)(hM:Bc slices v.1 v.2 s):BZ Y.env xg (Cw slices r) s:=by
 unfold CX at h;refine Ao (c:=dX) (fun v=>Ba slices v.1 v.2) (fun v s=>Bc slices v.1 v.2 s) (Cw slices) ?_ h hM;clear h hM s v r;intro v s o hM h;obtain⟨size,BS⟩:=v;dsimp only at h hM;unfold Ba at h;unfold Bc at hM;obtain⟨m0,m1,m2,m3,m4⟩:=hM;unfold dX;by_cases e1:BS<(slices.length:Int)
 ·rw [if_pos e1]at h;obtain⟨e2,h⟩:=Ar h;by_cases e3:(IntKind.i64.wrap (size+((slices.getD BS.toNat default).length:Int)))<0
  ·rw [if_pos e3]at h;cases h
  ·rw [if_neg e3]at h;cases h;simp (maxDischargeDepth:=9) only [↓AB,AC,↓reduceIte,Nat.reduceEqDiff,Nat.reduceLT,m0,m1,m2,m3,m4,e1,e2.1,e2.2,e3,Bc,Ef]
 ·rw [if_neg e1]at h;cases h;simp (maxDischargeDepth:=9) only [↓AB,AC,↓reduceIte,Nat.reduceEqDiff,Nat.reduceLT,m0,m1,m3,m4,e1,Bc,Cw,JK]
def Bd(slices:List (List Int))(newslice:List Int)(Ot:Int)(s:St):Prop:=s.v 6=D.own 3 (A8 (D.int .i64) newslice)∧s.v 25=D.sl 27 (A8 (fun x=>D.sl 3 (A8 (D.int .i64) x)) slices)∧s.v 26=D.int .i64 (slices.length:Int)∧s.v 27=D.int .i64 Ot
def Cx(slices:List (List Int))(r:(List Int))(ex:Ex)(s:St):Prop:=ex= .exit 2∧s.v 6=D.own 3 (A8 (D.int .i64) r)
theorem Lu(slices:List (List Int)){v:(List Int)×Int}{s:St}{r:(List Int)}(h:CY slices v=some r)(hM:Bd slices v.1 v.2 s):BZ Y.env xh (Cx slices r) s:=by
 unfold CY at h;refine Ao (c:=dY) (fun v=>Bb slices v.1 v.2) (fun v s=>Bd slices v.1 v.2 s) (Cx slices) ?_ h hM;clear h hM s v r;intro v s o hM h;obtain⟨newslice,Ot⟩:=v;dsimp only at h hM;unfold Bb at h;unfold Bd at hM;obtain⟨m0,m1,m2,m3⟩:=hM;unfold dY;by_cases e5:Ot<(slices.length:Int)
 ·rw [if_pos e5]at h;obtain⟨e6,h⟩:=Ar h;obtain⟨e7,h⟩:=Ar h;cases h;simp (maxDischargeDepth:=9) only [↓AB,AC,↓reduceIte,Nat.reduceEqDiff,Nat.reduceLT,Nat.reduceLeDiff,m0,m1,m2,m3,e5,e6.1,e6.2,e7,Bd,Ef]
 ·rw [if_neg e5]at h;cases h;simp (maxDischargeDepth:=9) only [↓AB,AC,↓reduceIte,Nat.reduceEqDiff,Nat.reduceLT,m0,m2,m3,e5,Bd,Cx,JK]
theorem Mi(slices:List (List Int)){r:(List Int)}(h:D5 slices=some r):Y.call 67 [D.sl 27 (A8 (fun x=>D.sl 3 (A8 (D.int .i64) x)) slices)] []=some (D.own 3 (A8 (D.int .i64) r),[]):=by
 refine c67 ?_ rfl;unfold k67;unfold D5 at h;obtain⟨AA,hl2,h⟩:=AO h;try dsimp only at h
 simp (maxDischargeDepth:=9) only [↓AB,AC,↓reduceIte,Nat.reduceEqDiff,Nat.reduceLT];refine AY (Lt slices hl2 ?_) ?_
 ·simp (maxDischargeDepth:=9) only [BG,Co,↓reduceIte,Nat.reduceEqDiff,Nat.reduceLT,Bc]
 ·intro ex2 s2 hX2;unfold Cw at hX2;obtain⟨rfl,n2_0,n2_1⟩:=hX2;obtain⟨e3,h⟩:=Ar h;have c4:=A0P AA e3;obtain⟨Ah,hl6,h⟩:=AO h;try dsimp only at h
  simp (maxDischargeDepth:=9) only [↓AB,AC,↓reduceIte,Nat.reduceEqDiff,Nat.reduceLT,Nat.reduceAdd,n2_0,n2_1,c4];refine AY (Lu slices hl6 ?_) ?_
  ·simp (maxDischargeDepth:=9) only [BG,↓reduceIte,Nat.reduceEqDiff,Bd]<;>(repeat' apply A7)<;>first | rfl | exact⟨_,rfl⟩ | exact⟨_,_,rfl⟩ | simp [A8,AR]
  ·intro ex6 s6 hX6;unfold Cx at hX6;obtain⟨rfl,n6_0⟩:=hX6;cases h;simp (maxDischargeDepth:=9) only [↓AB,AC,↓reduceIte,Nat.reduceEqDiff,Nat.reduceLT,n6_0]
noncomputable def BU(s_:List Int)(k k1 k2:Int)(Ag:List Int):Option ((Int×Int×(List Int))⊕(Int×(List Int))):= if k2<(((s_.length-k.toNat):Nat):Int)then ck (0≤k2∧k2.toNat<(s_.length-k.toNat))<| ck (k.toNat+(s_.length-k.toNat)≤Ag.length)<| ck (k.toNat+k2.toNat<Ag.length)<| ck (0≤IntKind.i64.wrap (k2-1)∧(IntKind.i64.wrap (k2-1)).toNat<(s_.length-k.toNat))<| ck (k.toNat+(IntKind.i64.wrap (k2-1)).toNat<Ag.length)<| if(Ag.getD (k.toNat+k2.toNat) default)=(Ag.getD (k.toNat+(IntKind.i64.wrap (k2-1)).toNat) default)then some (Sum.inl (k1,IntKind.i64.wrap (k2+1),Ag)) else ck (0≤k1∧k1.toNat<Ag.length)<| some (Sum.inl (IntKind.i64.wrap (k1+1),IntKind.i64.wrap (k2+1),(Ag.set k1.toNat (Ag.getD (k.toNat+k2.toNat) default)))) else some (Sum.inr (k1,Ag))
noncomputable def D7(s_:List Int)(k:Int)(v:Int×Int×(List Int)):Option (Int×(List Int)):=GQ (fun v=>BU s_ k v.1 v.2.1 v.2.2) v
noncomputable def BV(s_:List Int)(k:Int):Option ((Int)⊕(((List Int))⊕Unit)):= if k<(s_.length:Int)then ck (0≤k∧k.toNat<s_.length)<| ck (0≤IntKind.i64.wrap (k-1)∧(IntKind.i64.wrap (k-1)).toNat<s_.length)<| if(s_.getD k.toNat default)=(s_.getD ((IntKind.i64.wrap (k-1)).toNat) default)then ck (0≤k)<| ck (k.toNat≤s_.length)<| (D7 s_ k (k,1,s_)).bind fun AA=> ck (0≤AA.1)<| ck (AA.1.toNat≤AA.2.length)<| ck (AA.1.toNat+(AA.2.length-AA.1.toNat)≤AA.2.length)<| ck (AA.1.toNat≤(mf AA.2 AA.1.toNat (List.replicate (AA.2.length-AA.1.toNat) 0)).length)<| some (Sum.inr (Sum.inl ((mf AA.2 AA.1.toNat (List.replicate (AA.2.length-AA.1.toNat) 0)).take AA.1.toNat))) else some (Sum.inl (IntKind.i64.wrap (k+1))) else some (Sum.inr (Sum.inr ()))
noncomputable def D8(s_:List Int)(v:Int):Option (((List Int))⊕Unit):=GQ (fun v=>BV s_ v) v
noncomputable def Cq(s_:List Int):Option ((List Int)):=
 if(s_.length:Int)<2 then
  some s_
 else
  (D8 s_ 1).bind fun Ah=>
  match Ah with
  | .inl q1001_=>
   some q1001_
  | .inr q1001_=>
   some s_
def dZ:SC:= .seq (.seq (.ops [oM 29 5 3,oM 30 4 27,oN 31 30 27,oB 32 .lss 3 (tK 29) (tK 31) 3 4]) (.cond (tK 32) .skip (.exit 2))) (.seq (.block 3 (.seq (.draws [(⟨[35,4,4],[35,36,37,38,39,40,41,42,43,44],[35]⟩,oM 35 4 27),(⟨[36,5,5],[35,36,37,38,39,40,41,42,43,44],[36]⟩,oM 36 5 3),(⟨[37,35,36,4,5],[35,36,37,38,39,40,41,42,43,44],[37]⟩,oI 37 27 35 36),(⟨[38,37,4],[35,36,37,38,39,40,41,42,43,44],[38]⟩,oL 38 3 37 3),(⟨[39,4,4],[35,36,37,38,39,40,41,42,43,44],[39]⟩,oM 39 4 27),(⟨[40,5,5],[35,36,37,38,39,40,41,42,43,44],[40]⟩,oM 40 5 3),(⟨[41,40,5],[35,36,37,38,39,40,41,42,43,44],[41]⟩,oB 41 .sub 3 (tK 40) (iK 1) 3 3),(⟨[42,39,41,4,41],[35,36,37,38,39,40,41,42,43,44],[42]⟩,oI 42 27 39 41),(⟨[43,42,4],[35,36,37,38,39,40,41,42,43,44],[43]⟩,oL 43 3 42 3),(⟨[44,38,43,4,4],[35,36,37,38,39,40,41,42,43,44],[44]⟩,oB 44 .neq 3 (tK 38) (tK 43) 3 4)]) (.cond (tK 44) (.seq (.ops [oM 45 0 27,oM 46 3 3,oM 47 4 27,oM 48 5 3,oI 49 27 47 48,oL 50 3 49 3,oI 51 27 45 46,oS 3 51 50]) (.ops [oM 52 3 3,oB 53 .add 3 (tK 52) (iK 1) 3 3,oA 3 53 3])) .skip))) (.ops [oM 33 5 3,oB 34 .add 3 (tK 33) (iK 1) 3 3,oA 5 34 3]))
def xk:SC:= .loop dZ
def df:SC:= .seq (.seq (.ops [oM 10 3 3,oM 11 0 27,oN 12 11 27,oB 13 .lss 3 (tK 10) (tK 12) 3 4]) (.cond (tK 13) .skip (.exit 0))) (.seq (.block 1 (.seq (.draws [(⟨[16,0,0],[16,17,18,19,20,21,22,23,24,25],[16]⟩,oM 16 0 27),(⟨[17,3,3],[16,17,18,19,20,21,22,23,24,25],[17]⟩,oM 17 3 3),(⟨[18,16,17,0,3],[16,17,18,19,20,21,22,23,24,25],[18]⟩,oI 18 27 16 17),(⟨[19,18,0],[16,17,18,19,20,21,22,23,24,25],[19]⟩,oL 19 3 18 3),(⟨[20,0,0],[16,17,18,19,20,21,22,23,24,25],[20]⟩,oM 20 0 27),(⟨[21,3,3],[16,17,18,19,20,21,22,23,24,25],[21]⟩,oM 21 3 3),(⟨[22,21,3],[16,17,18,19,20,21,22,23,24,25],[22]⟩,oB 22 .sub 3 (tK 21) (iK 1) 3 3),(⟨[23,20,22,0,22],[16,17,18,19,20,21,22,23,24,25],[23]⟩,oI 23 27 20 22),(⟨[24,23,0],[16,17,18,19,20,21,22,23,24,25],[24]⟩,oL 24 3 23 3),(⟨[25,19,24,0,0],[16,17,18,19,20,21,22,23,24,25],[25]⟩,oB 25 .eql 3 (tK 19) (tK 24) 3 4)]) (.cond (tK 25) (.seq (.ops [oM 26 0 27,oM 27 3 3,oX 28 (.slice 27 (tK 26) (some (tK 27)) none none) 900001,oA 4 28 27]) (.seq (.seq (.ops [oX 5 (.assign (iK 1)) 3]) (.block 2 xk)) (.seq (.ops [oM 54 0 27,oM 55 3 3,oX 56 (.slice 27 (tK 54) (some (tK 55)) none none) 900001,⟨none,.call ⟨(.builtin .clear), #[(tK 56)], #[27]⟩,0,none⟩])
 (.seq (.ops [oM 57 0 27,oM 58 3 3,oX 59 (.slice 27 (tK 57) none (some (tK 58)) none) 900002,oA 2 59 27]) .ret)))) .skip))) (.ops [oM 14 3 3,oB 15 .add 3 (tK 14) (iK 1) 3 3,oA 3 15 3]))
def xm:SC:= .loop df
def k69:SC:= .seq (.ops [oX 2 (.assign (.const (.slice none 0 0))) 27]) (.seq (.seq (.ops [oM 6 0 27,oN 7 6 27,oB 8 .lss 3 (tK 7) (iK 2) 3 4]) (.cond (tK 8) (.seq (.ops [oM 9 0 27,oA 2 9 27]) .ret) .skip)) (.seq (.seq (.ops [oX 3 (.assign (iK 1)) 3]) (.block 0 xm)) (.seq (.ops [oM 60 0 27,oA 2 60 27]) .ret)))
theorem A5W:Tryz.f69.body.map (BP lends)=some k69:=by kernel_rfl
theorem AHw:Be Tryz.f69 1=true:=by kernel_rfl
theorem c69{a l:List D}{r:D×List D}(h:BZ Y.env k69 (Eh AX l.length [ResultVar.tmp 2] r) (entry a l))(ha:a.length=1):Y.call 69 a l=some r:=
 AJ (Y:=Y) rfl Tryz.func69 (ha▸AHw) A5W h
def BH(s_:List Int)(k k1 k2:Int)(Ag:List Int)(s:St):Prop:=(∃w_,s.v 0=D.vw [100000] (s.k 100000) w_)∧s.v 3=D.int .i64 k1∧(∃w_,s.v 4=D.vs 3 [100000] (s.k 100000) w_ k.toNat (s_.length-k.toNat))∧s.v 5=D.int .i64 k2∧s.v 100000=D.own 3 (A8 (D.int .i64) Ag)
def Cj(s_:List Int)(k:Int)(r:Int×(List Int))(ex:Ex)(s:St):Prop:=ex= .exit 2∧(∃w_,s.v 0=D.vw [100000] (s.k 100000) w_)∧s.v 3=D.int .i64 r.1∧s.v 100000=D.own 3 (A8 (D.int .i64) r.2)
theorem Lc(s_:List Int)(k:Int){v:Int×Int×(List Int)}{s:St}{r:Int×(List Int)}(h:D7 s_ k v=some r)(hM:BH s_ k v.1 v.2.1 v.2.2 s):BZ Y.env xk (Cj s_ k r) s:=by
 unfold D7 at h;refine Ao (c:=dZ) (fun v=>BU s_ k v.1 v.2.1 v.2.2) (fun v s=>BH s_ k v.1 v.2.1 v.2.2 s) (Cj s_ k) ?_ h hM;clear h hM s v r;intro v s o hM h;obtain⟨k1,k2,Ag⟩:=v;dsimp only at h hM;unfold BU at h;unfold BH at hM;obtain⟨⟨w0_,m0⟩,m1,⟨w2_,m2⟩,m3,m4⟩:=hM;unfold dZ;by_cases e8:k2<(((s_.length-k.toNat):Nat):Int)
 ·rw [if_pos e8]at h;obtain⟨e9,h⟩:=Ar h;obtain⟨e10,h⟩:=Ar h;obtain⟨e11,h⟩:=Ar h;obtain⟨e12,h⟩:=Ar h;obtain⟨e13,h⟩:=Ar h;by_cases e14:(Ag.getD (k.toNat+k2.toNat) default)=(Ag.getD (k.toNat+(IntKind.i64.wrap (k2-1)).toNat) default)
  ·rw [if_pos e14]at h;cases h;simp (maxDischargeDepth:=9) only [↓AB,AC,↓reduceIte,Nat.reduceEqDiff,Nat.reduceLT,Nat.reduceBEq,m0,m1,m2,m3,m4,e8,e9.1,e9.2,e10,e11,e12.1,e12.2,e13,decide_eq_true e14,BH,Ef]<;>(repeat' apply A7)<;>first | rfl | exact⟨_,rfl⟩ | exact⟨_,_,rfl⟩ | simp [A8,AR]
  ·rw [if_neg e14]at h;obtain⟨e15,h⟩:=Ar h;cases h;simp (maxDischargeDepth:=9) only [↓AB,AC,↓reduceIte,Nat.reduceEqDiff,Nat.reduceLT,Nat.reduceBEq,m0,m1,m2,m3,m4,e8,e9.1,e9.2,e10,e11,e12.1,e12.2,e13,e14,e15.1,e15.2,BH,Ef]<;>(repeat' apply A7)<;>first | rfl | exact⟨_,rfl⟩ | exact⟨_,_,rfl⟩ | simp [A8,AR]
 ·rw [if_neg e8]at h;cases h;simp (maxDischargeDepth:=9) only [↓AB,AC,↓reduceIte,Nat.reduceEqDiff,Nat.reduceLT,m0,m1,m2,m3,m4,e8,BH,Cj,JK]<;>(repeat' apply A7)<;>first | rfl | exact⟨_,rfl⟩ | exact⟨_,_,rfl⟩ | simp [A8,AR]
def BI(s_:List Int)(k:Int)(s:St):Prop:=(∃w_,s.v 0=D.vw [100000] (s.k 100000) w_)∧s.v 3=D.int .i64 k∧s.v 100000=D.own 3 (A8 (D.int .i64) s_)
def BX(s_:List Int)(r:((List Int))⊕Unit)(ex:Ex)(s:St):Prop:=match r with
 | .inl q=>ex= .ret∧s.v 2=D.own 3 (A8 (D.int .i64) q)∧s.v 100000=D.undef
 | .inr q=>ex= .exit 0∧(∃w_,s.v 0=D.vw [100000] (s.k 100000) w_)∧s.v 100000=D.own 3 (A8 (D.int .i64) s_)
theorem Ld(s_:List Int){v:Int}{s:St}{r:((List Int))⊕Unit}(h:D8 s_ v=some r)(hM:BI s_ v s):BZ Y.env xm (BX s_ r) s:=by
 unfold D8 at h;refine Ao (c:=df) (fun v=>BV s_ v) (fun v s=>BI s_ v s) (BX s_) ?_ h hM;clear h hM s v r;intro k s o hM h;unfold BV at h;unfold BI at hM;obtain⟨⟨w0_,m0⟩,m1,m2⟩:=hM;unfold df;by_cases e2:k<(s_.length:Int)
 ·rw [if_pos e2]at h;obtain⟨e3,h⟩:=Ar h;obtain⟨e4,h⟩:=Ar h;by_cases e5:(s_.getD k.toNat default)=(s_.getD ((IntKind.i64.wrap (k-1)).toNat) default)
  ·rw [if_pos e5]at h;obtain⟨e6,h⟩:=Ar h;obtain⟨e7,h⟩:=Ar h;obtain⟨AA,hl9,h⟩:=AO h;try dsimp only at h
   simp (maxDischargeDepth:=9) only [↓AB,AC,↓reduceIte,Nat.reduceEqDiff,Nat.reduceLT,Nat.reduceBEq,m0,m1,m2,e2,e3.1,e3.2,e4.1,e4.2,decide_eq_true e5,e7];refine AY (Lc s_ k hl9 ?_) ?_
   ·simp (maxDischargeDepth:=9) only [BG,↓reduceIte,Nat.reduceEqDiff,m0,m1,m2,BH]<;>(repeat' apply A7)<;>first | rfl | exact⟨_,rfl⟩ | exact⟨_,_,rfl⟩ | simp [A8,AR]
   ·intro ex9 s9 hX9;unfold Cj at hX9;obtain⟨rfl,⟨w0_,n9_0⟩,n9_1,n9_2⟩:=hX9;obtain⟨e10,h⟩:=Ar h;obtain⟨e11,h⟩:=Ar h;obtain⟨e12,h⟩:=Ar h;obtain⟨e13,h⟩:=Ar h;cases h;simp (maxDischargeDepth:=9) only [↓AB,AC,↓reduceIte,Nat.reduceEqDiff,Nat.reduceLT,n9_0,n9_1,n9_2,e10,e11,e12,e13,BI,BX,Sv]
  ·rw [if_neg e5]at h;cases h;simp (maxDischargeDepth:=9) only [↓AB,AC,↓reduceIte,Nat.reduceEqDiff,Nat.reduceLT,Nat.reduceBEq,m0,m1,m2,e2,e3.1,e3.2,e4.1,e4.2,e5,BI,Ef]<;>(repeat' apply A7)<;>first | rfl | exact⟨_,rfl⟩ | exact⟨_,_,rfl⟩ | simp [A8,AR]
 ·rw [if_neg e2]at h;cases h;simp (maxDischargeDepth:=9) only [↓AB,AC,↓reduceIte,Nat.reduceEqDiff,Nat.reduceLT,m0,m1,m2,e2,BI,BX,JK]<;>(repeat' apply A7)<;>first | rfl | exact⟨_,rfl⟩ | exact⟨_,_,rfl⟩ | simp [A8,AR]
theorem Lv(s_:List Int){r:(List Int)}(h:Cq s_=some r):Y.call 69 [D.vw [100000] 0 0] [D.own 3 (A8 (D.int .i64) s_)]=some (D.own 3 (A8 (D.int .i64) r),[D.undef]):=by
 refine c69 ?_ rfl;unfold k69;unfold Cq at h;by_cases e1:(s_.length:Int)<2
 ·rw [if_pos e1]at h;cases h;simp (maxDischargeDepth:=9) only [↓AB,AC,↓reduceIte,Nat.reduceEqDiff,Nat.reduceLT,Nat.reduceAdd,Nat.reduceSub,e1]
 ·rw [if_neg e1]at h;obtain⟨Ah,hl3,h⟩:=AO h;try dsimp only at h
  simp (maxDischargeDepth:=9) only [↓AB,AC,↓reduceIte,Nat.reduceEqDiff,Nat.reduceLT,Nat.reduceAdd,Nat.reduceSub,e1];refine AY (Ld s_ hl3 ?_) ?_
  ·simp (maxDischargeDepth:=9) only [BG,Co,↓reduceIte,Nat.reduceEqDiff,Nat.reduceLT,Nat.reduceSub,BI]<;>(repeat' apply A7)<;>first | rfl | exact⟨_,rfl⟩ | exact⟨_,_,rfl⟩ | simp [A8,AR]
  ·intro ex3 s3 hX3;rcases Ah with q1001_ | q1001_
   ·unfold BX at hX3;dsimp only at hX3 h;obtain⟨rfl,n3_0,n3_1⟩:=hX3;cases h;simp (maxDischargeDepth:=9) only [↓AB,AC,↓reduceIte,Nat.reduceEqDiff,n3_0,n3_1]
   ·unfold BX at hX3;dsimp only at hX3 h;obtain⟨rfl,⟨w0_,n3_0⟩,n3_1⟩:=hX3;cases h;simp (maxDischargeDepth:=9) only [↓AB,AC,↓reduceIte,Nat.reduceEqDiff,Nat.reduceLT,n3_0,n3_1]
noncomputable def FP(x_:Int):Option (Bool):= some false
def A5X:SC:= .seq (.ops [oX 2 (.assign (.const (.bool false))) 4]) (.seq (.ops [oM 3 0 3,oM 4 0 3,oB 5 .neq 3 (tK 3) (tK 4) 3 4,oA 2 5 4]) .ret)
theorem A0c:Tryz.f101.body.map (BP lends)=some A5X:=by kernel_rfl
theorem ACM:Be Tryz.f101 1=true:=by kernel_rfl
theorem AHx{a l:List D}{r:D×List D}(h:BZ Y.env A5X (Eh AX l.length [ResultVar.tmp 2] r) (entry a l))(ha:a.length=1):Y.call 101 a l=some r:=
 AJ (Y:=Y) rfl Tryz.func101 (ha▸ACM) A0c h
theorem Kq(x_:Int){r:Bool}(h:FP x_=some r):Y.call 101 [D.int .i64 x_] []=some (D.bool r,[]):=by
 refine AHx ?_ rfl;unfold A5X;unfold FP at h;cases h;simp (maxDischargeDepth:=9) only [↓AB,AC,↓reduceIte,Nat.reduceEqDiff,Nat.reduceLT]
noncomputable def BD(x_:List Int)(target i j:Int):Option ((Int×Int)⊕(Int)):= if i<j then ck (0≤IntKind.i64.wrap ((IntKind.u64.wrap (IntKind.i64.wrap (i+j))).fdiv (2 ^ (min 1 (IntKind.u64.bits))))∧(IntKind.i64.wrap ((IntKind.u64.wrap (IntKind.i64.wrap (i+j))).fdiv (2 ^ (min 1 (IntKind.u64.bits))))).toNat<x_.length)<| (EP (x_.getD ((IntKind.i64.wrap ((IntKind.u64.wrap (IntKind.i64.wrap (i+j))).fdiv (2 ^ (min 1 (IntKind.u64.bits))))).toNat) default) target).bind fun A0d=> if A0d=true then some (Sum.inl (IntKind.i64.wrap ((IntKind.i64.wrap ((IntKind.u64.wrap (IntKind.i64.wrap (i+j))).fdiv (2 ^ (min 1 (IntKind.u64.bits)))))+1),j)) else some (Sum.inl (i,IntKind.i64.wrap ((IntKind.u64.wrap (IntKind.i64.wrap (i+j))).fdiv (2 ^ (min 1 (IntKind.u64.bits)))))) else some (Sum.inr i)
noncomputable def Bf(x_:List Int)(target:Int)(v:Int×Int):Option (Int):=GQ (fun v=>BD x_ target v.1 v.2) v
noncomputable def Bu(x_:List Int)(target:Int):Option (Int×Bool):= (Bf x_ target (0,(x_.length:Int))).bind fun AA=> if AA<(x_.length:Int)then ck (0≤AA∧AA.toNat<x_.length)<| if(x_.getD AA.toNat default)=target then some (AA,true) else (FP (x_.getD AA.toNat default)).bind fun A0e=> if A0e=true then (FP target).bind fun ACN=> some (AA,ACN) else some (AA,false) else some (AA,false)
def dh:SC:= .seq (.seq (.ops [oM 13 7 3,oM 14 8 3,oB 15 .lss 3 (tK 13) (tK 14) 3 4]) (.cond (tK 15) .skip (.exit 0))) (.block 1 (.seq (.ops [oM 16 7 3,oM 17 8 3,oB 18 .add 3 (tK 16) (tK 17) 3 3,oX 19 (.convert 3 91 (tK 18)) 91,oB 20 .shr 91 (tK 19) (.const (.int .u64 1)) 91 91,oX 21 (.convert 91 3 (tK 20)) 3,oA 9 21 3]) (.seq (.ops [oM 22 0 27,oM 23 9 3,oI 24 27 22 23,oL 25 3 24 3,oM 26 1 3,oC 27 93 [(tK 25),(tK 26)] [3,3] 4]) (.cond (tK 27) (.ops [oM 28 9 3,oB 29 .add 3 (tK 28) (iK 1) 3 3,oA 7 29 3]) (.ops [oM 30 9 3,oA 8 30 3])))))
def xn:SC:= .loop dh
def k70:SC:= .seq (.ops [oX 4 (.assign (iK 0)) 3,oX 5 (.assign (.const (.bool false))) 4]) (.seq (.ops [oM 10 0 27,oN 11 10 27,oA 6 11 3]) (.seq (.ops [oM 12 6 3,oX 7 (.assign (iK 0)) 3,oA 8 12 3]) (.seq (.block 0 xn) (.seq (.ops [oM 31 7 3,oM 32 7 3,oM 33 6 3,oB 34 .lss 3 (tK 32) (tK 33) 3 4,oM 35 34 4,⟨some 36,.move (tK 0),27,(some (some 35,true))⟩,⟨some 37,.move (tK 7),3,(some (some 35,true))⟩,⟨some 38,.indexAddr 27 (tK 36) (tK 37),0,(some (some 35,true))⟩,⟨some 39,.load 3 (tK 38),3,(some (some 35,true))⟩,⟨some 40,.move (tK 1),3,(some (some 35,true))⟩,⟨some 41,.binOp .eql 3 (tK 39) (tK 40) 3,4,(some (some 35,true))⟩,⟨some 42,.move (tK 41),4,(some (some 35,true))⟩,⟨some 43,.move (tK 0),27,(some (some 42,false))⟩,⟨some 44,.move (tK 7),3,(some (some 42,false))⟩,⟨some 45,.indexAddr 27 (tK 43) (tK 44),0,(some (some 42,false))⟩,⟨some 46,.load 3 (tK 45),3,(some (some 42,false))⟩,⟨some 47,.call ⟨(.value (.func 101)), #[(tK 46)], #[3]⟩,4,(some (some 42,false))⟩,⟨some 48,.move (tK 47),4,(some (some 42,false))⟩,⟨some 49,.move (tK 1),3,(some (some 48,true))⟩,⟨some 50,.call ⟨(.value (.func 101)), #[(tK 49)], #[3]⟩,4,(some (some 48,true))⟩,⟨some 51,.pick (tK 48) (tK 50) (.const (.bool false)),4,(some (some 42,false))⟩,
 ⟨some 52,.pick (tK 42) (.const (.bool true)) (tK 51),4,(some (some 35,true))⟩,oX 53 (.pick (tK 35) (tK 52) (.const (.bool false))) 4,oA 4 31 3,oA 5 53 4]) .ret))))
theorem A5Y:Tryz.f70.body.map (BP lends)=some k70:=by kernel_rfl
theorem AHz:Be Tryz.f70 2=true:=by kernel_rfl
theorem c70{a l:List D}{r:D×List D}(h:BZ Y.env k70 (Eh AX l.length [ResultVar.tmp 4,ResultVar.tmp 5] r) (entry a l))(ha:a.length=2):Y.call 70 a l=some r:=
 AJ (Y:=Y) rfl Tryz.func70 (ha▸AHz) A5Y h
def Au(x_:List Int)(target i j:Int)(s:St):Prop:=s.v 0=D.sl 3 (A8 (D.int .i64) x_)∧s.v 1=D.int .i64 target∧s.v 6=D.int .i64 (x_.length:Int)∧s.v 7=D.int .i64 i∧s.v 8=D.int .i64 j
def C8(x_:List Int)(target r:Int)(ex:Ex)(s:St):Prop:=ex= .exit 0∧s.v 0=D.sl 3 (A8 (D.int .i64) x_)∧s.v 1=D.int .i64 target∧s.v 6=D.int .i64 (x_.length:Int)∧s.v 7=D.int .i64 r
theorem Jv(x_:List Int)(target:Int){v:Int×Int}{s:St}{r:Int}(h:Bf x_ target v=some r)(hM:Au x_ target v.1 v.2 s):BZ Y.env xn (C8 x_ target r) s:=by
 unfold Bf at h;refine Ao (c:=dh) (fun v=>BD x_ target v.1 v.2) (fun v s=>Au x_ target v.1 v.2 s) (C8 x_ target) ?_ h hM;clear h hM s v r;intro v s o hM h;obtain⟨i,j⟩:=v;dsimp only at h hM;unfold BD at h;unfold Au at hM;obtain⟨m0,m1,m2,m3,m4⟩:=hM;unfold dh;by_cases e1:i<j
 ·rw [if_pos e1]at h;obtain⟨e2,h⟩:=Ar h;obtain⟨A0d,hl3,h⟩:=AO h;try dsimp only at h
  have c3:=NB (x_.getD ((IntKind.i64.wrap ((IntKind.u64.wrap (IntKind.i64.wrap (i+j))).fdiv (2 ^ (min 1 (IntKind.u64.bits))))).toNat) default) target hl3;by_cases e4:A0d=true
  ·rw [if_pos e4]at h;cases h;simp (maxDischargeDepth:=9) only [↓AB,AC,↓reduceIte,Nat.reduceEqDiff,Nat.reduceLT,Nat.reduceAdd,Int.reduceLT,Int.reduceToNat,m0,m1,m2,m3,m4,e1,e2.1,e2.2,c3,e4,Au,Ef]
  ·rw [if_neg e4]at h;have e4f:A0d=false:=J2.mpr e4;cases h;simp (maxDischargeDepth:=9) only [↓AB,AC,↓reduceIte,Nat.reduceEqDiff,Nat.reduceLT,Nat.reduceAdd,Int.reduceLT,Int.reduceToNat,m0,m1,m2,m3,m4,e1,e2.1,e2.2,c3,e4f,Au,Ef]
 ·rw [if_neg e1]at h;cases h;simp (maxDischargeDepth:=9) only [↓AB,AC,↓reduceIte,Nat.reduceEqDiff,Nat.reduceLT,m0,m1,m2,m3,m4,e1,Au,C8,JK]
theorem KE(x_:List Int)(target:Int){r:Int×Bool}(h:Bu x_ target=some r):Y.call 70 [D.sl 3 (A8 (D.int .i64) x_),D.int .i64 target] []=some (D.tup [D.int .i64 r.1,D.bool r.2],[]):=by
 refine c70 ?_ rfl;unfold k70;unfold Bu at h;obtain⟨AA,hl2,h⟩:=AO h;try dsimp only at h
 simp (maxDischargeDepth:=9) only [↓AB,AC,↓reduceIte,Nat.reduceEqDiff,Nat.reduceLT];refine AY (Jv x_ target hl2 ?_) ?_
 ·simp (maxDischargeDepth:=9) only [BG,Co,↓reduceIte,Nat.reduceEqDiff,Nat.reduceLT,Au]
 ·intro ex2 s2 hX2;unfold C8 at hX2;obtain⟨rfl,n2_0,n2_1,n2_2,n2_3⟩:=hX2;by_cases e3:AA<(x_.length:Int)
  ·rw [if_pos e3]at h;obtain⟨e4,h⟩:=Ar h;by_cases e5:(x_.getD AA.toNat default)=target
   ·rw [if_pos e5]at h;cases h;simp (maxDischargeDepth:=9) only [↓AB,AC,↓reduceIte,Nat.reduceEqDiff,Nat.reduceLT,n2_0,n2_1,n2_2,n2_3,e3,e4.1,e4.2,decide_eq_true e5]
   ·rw [if_neg e5]at h;obtain⟨A0e,hl6,h⟩:=AO h;try dsimp only at h
    have c6:=Kq (x_.getD AA.toNat default) hl6;by_cases e7:A0e=true
    ·rw [if_pos e7]at h;obtain⟨ACN,hl8,h⟩:=AO h;try dsimp only at h
     have c8:=Kq target hl8;cases h;simp (maxDischargeDepth:=9) only [↓AB,AC,↓reduceIte,Nat.reduceEqDiff,Nat.reduceLT,Nat.reduceAdd,n2_0,n2_1,n2_2,n2_3,e3,e4.1,e4.2,e5,c6,e7,c8]
    ·rw [if_neg e7]at h;have e7f:A0e=false:=J2.mpr e7;cases h;simp (maxDischargeDepth:=9) only [↓AB,AC,↓reduceIte,Nat.reduceEqDiff,Nat.reduceLT,Nat.reduceAdd,n2_0,n2_1,n2_2,n2_3,e3,e4.1,e4.2,e5,c6,e7f]
  ·rw [if_neg e3]at h;cases h;simp (maxDischargeDepth:=9) only [↓AB,AC,↓reduceIte,Nat.reduceEqDiff,Nat.reduceLT,n2_2,n2_3,e3]
noncomputable def Ia(list:List (List Int)):Option ((List (List Int))):= ck (list.length<4611686018427387904)<| ck (∀x∈list,x.length≤9223372036854775807)<| ck ((EO list).length≤9223372036854775807)<| ck (∀x∈(EO list),x.length≤9223372036854775807)<| some (dedL (EO list))
def k71:SC:= .seq (.ops [oX 2 (.assign (.const (.slice none 0 0))) 22]) (.seq (.ops [oM 3 0 22,oC 4 102 [(tK 3),(.func 64)] [22,62] 0]) (.seq (.ops [oM 5 0 22,oC 6 103 [(tK 5),(.func 104)] [22,32] 22,oA 2 6 22]) .ret))
theorem A5Z:Tryz.f71.body.map (BP lends)=some k71:=by kernel_rfl
theorem AI1:Be Tryz.f71 1=true:=by kernel_rfl
theorem c71{a l:List D}{r:D×List D}(h:BZ Y.env k71 (Eh AX l.length [ResultVar.tmp 2] r) (entry a l))(ha:a.length=1):Y.call 71 a l=some r:=
 AJ (Y:=Y) rfl Tryz.func71 (ha▸AI1) A5Z h
theorem O1(list:List (List Int)){r:(List (List Int))}(h:Ia list=some r):Y.call 71 [D.vw [100000] 0 0] [D.own 27 (A8 (fun x=>D.own 3 (A8 (D.int .i64) x)) list)]=some (D.own 27 (A8 (fun x=>D.own 3 (A8 (D.int .i64) x)) r),[D.undef]):=by
 refine c71 ?_ rfl;unfold k71;unfold Ia at h;obtain⟨e1,h⟩:=Ar h;obtain⟨e2,h⟩:=Ar h;have c3:=rz list e1 e2;obtain⟨e4,h⟩:=Ar h;obtain⟨e5,h⟩:=Ar h;have c6:=sD (EO list) e4 e5;cases h;simp (maxDischargeDepth:=9) only [↓AB,AC,↓reduceIte,Nat.reduceEqDiff,Nat.reduceLT,Nat.reduceAdd,Nat.reduceSub,c3,c6]
noncomputable def Er(full:List (List Int))(FU:(List Int))(out:List (List Int))(Gs:Int)(numbers:List Int)(Ot:Int):Option (((List Int)×Int)⊕((List Int))):= if Ot<((full.getD Gs.toNat default).length:Int)then ck (0≤Ot∧Ot.toNat<(full.getD Gs.toNat default).length)<| (Bu FU ((full.getD Gs.toNat default).getD Ot.toNat default)).bind fun ACO=> ck (numbers.length+1<1099511627776)<| some (Sum.inl ((numbers++[ACO.1]),IntKind.i64.wrap (Ot+1))) else some (Sum.inr numbers)
noncomputable def J9(full:List (List Int))(FU:(List Int))(out:List (List Int))(Gs:Int)(v:(List Int)×Int):Option ((List Int)):=GQ (fun v=>Er full FU out Gs v.1 v.2) v
noncomputable def Es(full:List (List Int))(FU:(List Int))(out:List (List Int))(Gs:Int):Option (((List (List Int))×Int)⊕((List (List Int)))):= if Gs<(full.length:Int)then ck (0≤Gs∧Gs.toNat<full.length)<| (J9 full FU out Gs ([],0)).bind fun AA=> ck (AA.length<4611686018427387904)<| ck (out.length+1<1099511627776)<| some (Sum.inl ((out++[(Dj AA)]),IntKind.i64.wrap (Gs+1))) else some (Sum.inr out)
noncomputable def JA(full:List (List Int))(FU:(List Int))(v:(List (List Int))×Int):Option ((List (List Int))):=GQ (fun v=>Es full FU v.1 v.2) v
noncomputable def JB(full:List (List Int)):Option ((List Int)×(List (List Int))):= (D5 full).bind fun xq=> ck (xq.length<4611686018427387904)<| (Cq (Dj xq)).bind fun FU=> (JA full FU ([],0)).bind fun Ah=> (Ia Ah).bind fun RH=> some (FU,RH)
def dm:SC:= .seq (.ops [oB 28 .lss 3 (tK 27) (tK 26) 3 0]) (.seq (.cond (tK 28) .skip (.exit 2)) (.seq (.block 3 (.seq (.ops [oI 29 27 25 27,oL 30 3 29 3,oA 10 30 3]) (.seq (.ops [oM 32 4 27,oM 33 10 3,oC 34 70 [(tK 32),(tK 33)] [27,3] 72,oM 31 34 72,oE 35 31 0 3,oE 36 31 1 4,oA 11 35 3,oA 12 36 4]) (.ops [oM 37 8 27,oM 38 11 3,oX 39 (.buildSlice 27 1 #[(0,(tK 38))]) 27,oX 40 (.call ⟨(.builtin .append), #[(tK 37),(tK 39)], #[27,27]⟩) 27,oA 8 40 27])))) (.ops [oB 41 .add 3 (tK 27) (iK 1) 3 3,oM 27 41 3])))
def xu:SC:= .loop dm
def dn:SC:= .seq (.ops [oB 22 .lss 3 (tK 21) (tK 20) 3 0]) (.seq (.cond (tK 22) .skip (.exit 0)) (.seq (.block 1 (.seq (.ops [oI 23 22 19 21,oL 24 27 23 27,oA 7 24 27]) (.seq (.ops [oX 8 (.assign (.const (.slice none 0 0))) 27]) (.seq (.seq (.ops [oM 25 7 27,oN 26 25 27,oX 27 (.move (iK 0)) 3]) (.block 2 xu)) (.seq (.ops [oM 42 8 27,oC 43 68 [(tK 42)] [27] 0]) (.ops [oM 44 5 22,oM 45 8 27,oX 46 (.buildSlice 22 1 #[(0,(tK 45))]) 22,oX 47 (.call ⟨(.builtin .append), #[(tK 44),(tK 46)], #[22,22]⟩) 22,oA 5 47 22])))))) (.ops [oB 48 .add 3 (tK 21) (iK 1) 3 3,oM 21 48 3])))
def xw:SC:= .loop dn
def k41:SC:= .seq (.ops [oX 2 (.assign (.const (.slice none 0 0))) 27,oX 3 (.assign (.const (.slice none 0 0))) 22]) (.seq (.ops [oM 13 0 22,oC 14 67 [(tK 13)] [22] 27,oA 4 14 27]) (.seq (.ops [oM 15 4 27,oC 16 68 [(tK 15)] [27] 0]) (.seq (.ops [oM 17 4 27,oC 18 69 [(tK 17)] [27] 27,oA 4 18 27]) (.seq (.ops [oX 5 (.assign (.const (.slice none 0 0))) 22]) (.seq (.seq (.ops [oM 19 0 22,oN 20 19 22,oX 21 (.move (iK 0)) 3]) (.block 0 xw)) (.seq (.ops [oM 49 4 27,oM 50 5 22,oC 51 71 [(tK 50)] [22] 22,oA 2 49 27,oA 3 51 22]) .ret))))))
theorem A5a:Tryz.f41.body.map (BP lends)=some k41:=by kernel_rfl
theorem AI3:Be Tryz.f41 1=true:=by kernel_rfl
theorem c41{a l:List D}{r:D×List D}(h:BZ Y.env k41 (Eh AX l.length [ResultVar.tmp 2,ResultVar.tmp 3] r) (entry a l))(ha:a.length=1):Y.call 41 a l=some r:=
 AJ (Y:=Y) rfl Tryz.func41 (ha▸AI3) A5a h
def Et(full:List (List Int))(FU:(List Int))(out:List (List Int))(Gs:Int)(numbers:List Int)(Ot:Int)(s:St):Prop:=s.v 4=D.own 3 (A8 (D.int .i64) FU)∧s.v 5=D.own 27 (A8 (fun x=>D.own 3 (A8 (D.int .i64) x)) out)∧s.v 8=D.own 3 (A8 (D.int .i64) numbers)∧s.v 19=D.sl 27 (A8 (fun x=>D.sl 3 (A8 (D.int .i64) x)) full)∧s.v 20=D.int .i64 (full.length:Int)∧s.v 21=D.int .i64 Gs∧s.v 25=D.sl 3 (A8 (D.int .i64) (full.getD Gs.toNat default))∧s.v 26=D.int .i64 ((full.getD Gs.toNat default).length:Int)∧s.v 27=D.int .i64 Ot
def Jc(full:List (List Int))(FU:(List Int))(out:List (List Int))(Gs:Int)(r:(List Int))(ex:Ex)(s:St):Prop:=ex= .exit 2∧s.v 4=D.own 3 (A8 (D.int .i64) FU)∧s.v 5=D.own 27 (A8 (fun x=>D.own 3 (A8 (D.int .i64) x)) out)∧s.v 8=D.own 3 (A8 (D.int .i64) r)∧s.v 19=D.sl 27 (A8 (fun x=>D.sl 3 (A8 (D.int .i64) x)) full)∧s.v 20=D.int .i64 (full.length:Int)∧s.v 21=D.int .i64 Gs
theorem UO(full:List (List Int))(FU:(List Int))(out:List (List Int))(Gs:Int){v:(List Int)×Int}{s:St}{r:(List Int)}(h:J9 full FU out Gs v=some r)(hM:Et full FU out Gs v.1 v.2 s):BZ Y.env xu (Jc full FU out Gs r) s:=by
 unfold J9 at h;refine Ao (c:=dm) (fun v=>Er full FU out Gs v.1 v.2) (fun v s=>Et full FU out Gs v.1 v.2 s) (Jc full FU out Gs) ?_ h hM;clear h hM s v r;intro v s o hM h;obtain⟨numbers,Ot⟩:=v;dsimp only at h hM;unfold Er at h;unfold Et at hM;obtain⟨m0,m1,m2,m3,m4,m5,m6,m7,m8⟩:=hM;unfold dm;by_cases e7:Ot<((full.getD Gs.toNat default).length:Int)
 ·rw [if_pos e7]at h;obtain⟨e8,h⟩:=Ar h;obtain⟨ACO,hl9,h⟩:=AO h;try dsimp only at h
  have c9:=KE FU ((full.getD Gs.toNat default).getD Ot.toNat default) hl9;obtain⟨e10,h⟩:=Ar h;cases h;simp (maxDischargeDepth:=9) only [↓AB,AC,↓reduceIte,Nat.reduceEqDiff,Nat.reduceLT,Nat.reduceLeDiff,Nat.reduceAdd,m0,m1,m2,m3,m4,m5,m6,m7,m8,e7,e8.1,e8.2,c9,e10,Et,Ef]
 ·rw [if_neg e7]at h;cases h;simp (maxDischargeDepth:=9) only [↓AB,AC,↓reduceIte,Nat.reduceEqDiff,Nat.reduceLT,m0,m1,m2,m3,m4,m5,m7,m8,e7,Et,Jc,JK]
def Eu(full:List (List Int))(FU:(List Int))(out:List (List Int))(Gs:Int)(s:St):Prop:=s.v 4=D.own 3 (A8 (D.int .i64) FU)∧s.v 5=D.own 27 (A8 (fun x=>D.own 3 (A8 (D.int .i64) x)) out)∧s.v 19=D.sl 27 (A8 (fun x=>D.sl 3 (A8 (D.int .i64) x)) full)∧s.v 20=D.int .i64 (full.length:Int)∧s.v 21=D.int .i64 Gs
def Jd(full:List (List Int))(FU:(List Int))(r:(List (List Int)))(ex:Ex)(s:St):Prop:=ex= .exit 0∧s.v 4=D.own 3 (A8 (D.int .i64) FU)∧s.v 5=D.own 27 (A8 (fun x=>D.own 3 (A8 (D.int .i64) x)) r)
theorem UQ(full:List (List Int))(FU:(List Int)){v:(List (List Int))×Int}{s:St}{r:(List (List Int))}(h:JA full FU v=some r)(hM:Eu full FU v.1 v.2 s):BZ Y.env xw (Jd full FU r) s:=by
 unfold JA at h;refine Ao (c:=dn) (fun v=>Es full FU v.1 v.2) (fun v s=>Eu full FU v.1 v.2 s) (Jd full FU) ?_ h hM;clear h hM s v r;intro v s o hM h;obtain⟨out,Gs⟩:=v;dsimp only at h hM;unfold Es at h;unfold Eu at hM;obtain⟨m0,m1,m2,m3,m4⟩:=hM;unfold dn;by_cases e5:Gs<(full.length:Int)
 ·rw [if_pos e5]at h;obtain⟨e6,h⟩:=Ar h;obtain⟨AA,hl8,h⟩:=AO h;try dsimp only at h
  simp (maxDischargeDepth:=9) only [↓AB,AC,↓reduceIte,Nat.reduceEqDiff,Nat.reduceLT,m2,m3,m4,e5,e6.1,e6.2];refine AY (UO full FU out Gs hl8 ?_) ?_
  ·simp (maxDischargeDepth:=9) only [BG,↓reduceIte,Nat.reduceEqDiff,m0,m1,m2,m3,m4,Et]<;>(repeat' apply A7)<;>first | rfl | exact⟨_,rfl⟩ | exact⟨_,_,rfl⟩ | simp [A8,AR]
  ·intro ex8 s8 hX8;unfold Jc at hX8;obtain⟨rfl,n8_0,n8_1,n8_2,n8_3,n8_4,n8_5⟩:=hX8;obtain⟨e9,h⟩:=Ar h;have gQ:=bg AA e9;obtain⟨e11,h⟩:=Ar h;cases h;simp (maxDischargeDepth:=9) only [↓AB,AC,↓reduceIte,Nat.reduceEqDiff,Nat.reduceLT,Nat.reduceLeDiff,Nat.reduceAdd,n8_0,n8_1,n8_2,n8_3,n8_4,n8_5,gQ,e11,Eu,Ef]
 ·rw [if_neg e5]at h;cases h;simp (maxDischargeDepth:=9) only [↓AB,AC,↓reduceIte,Nat.reduceEqDiff,Nat.reduceLT,m0,m1,m3,m4,e5,Eu,Jd,JK]
theorem Pi(full:List (List Int)){r:(List Int)×(List (List Int))}(h:JB full=some r):Y.call 41 [D.sl 27 (A8 (fun x=>D.sl 3 (A8 (D.int .i64) x)) full)] []=some (D.tup [D.own 3 (A8 (D.int .i64) r.1),D.own 27 (A8 (fun x=>D.own 3 (A8 (D.int .i64) x)) r.2)],[]):=by
 refine c41 ?_ rfl;unfold k41;unfold JB at h;obtain⟨xq,hl1,h⟩:=AO h;try dsimp only at h
 have c1:=Mi full hl1;obtain⟨e2,h⟩:=Ar h;have c3:=bg xq e2;obtain⟨FU,hl4,h⟩:=AO h;try dsimp only at h
 have c4:=Lv (Dj xq) hl4;obtain⟨Ah,hl6,h⟩:=AO h;try dsimp only at h
 simp (maxDischargeDepth:=9) only [↓AB,AC,↓reduceIte,Nat.reduceEqDiff,Nat.reduceLT,Nat.reduceAdd,c1,c3,c4];refine AY (UQ full FU hl6 ?_) ?_
 ·simp (maxDischargeDepth:=9) only [BG,↓reduceIte,Nat.reduceEqDiff,Eu]<;>(repeat' apply A7)<;>first | rfl | exact⟨_,rfl⟩ | exact⟨_,_,rfl⟩ | simp [A8,AR]
 ·intro ex6 s6 hX6;unfold Jd at hX6;obtain⟨rfl,n6_0,n6_1⟩:=hX6;obtain⟨RH,hl7,h⟩:=AO h;try dsimp only at h
  have c7:=O1 Ah hl7;cases h;simp (maxDischargeDepth:=9) only [↓AB,AC,↓reduceIte,Nat.reduceEqDiff,Nat.reduceLT,Nat.reduceAdd,n6_0,n6_1,c7]
theorem JC(xs:List Int)(h:xs.length<1099511627776):Y.call 106 [.sl 3 (A8 (D.int .i64) xs)] []=some (.own 3 (A8 (D.int .i64) xs),[]):=by
 refine sG (A8 (D.int .i64) xs) (by rw [CK];exact h) (Zr _ _ (fun x=>rfl)) (Xk _ _ (fun x=>by first | exact hoI .. | exact A83 .. | exact hoB .. | exact hoS ..)) ?_
 simp (maxDischargeDepth:=9) only [BG,A4W,Co]
noncomputable def Ev(labels size:Int)(out:List (List Int))(DK Du:Int)(next1:List (List Int))(a:Int):Option (((List (List Int))×Int)⊕((List (List Int)))):= if a<labels then ck (Du.toNat<out.length)<| ck ((out.getD Du.toNat default).length<1099511627776)<| ck ((out.getD Du.toNat default).length+1<1099511627776)<| ck (next1.length+1<1099511627776)<| some (Sum.inl ((next1++[((out.getD Du.toNat default)++[a])]),IntKind.i64.wrap (a+1))) else some (Sum.inr next1)
noncomputable def Gt(labels size:Int)(out:List (List Int))(DK Du:Int)(v:(List (List Int))×Int):Option ((List (List Int))):=GQ (fun v=>Ev labels size out DK Du v.1 v.2) v
noncomputable def Ew(labels size:Int)(out:List (List Int))(DK:Int)(next:List (List Int))(Du:Int):Option (((List (List Int))×Int)⊕((List (List Int)))):= if Du<(out.length:Int)then ck (0≤Du∧Du.toNat<out.length)<| if 0<((out.getD Du.toNat default).length:Int)then ck (0≤IntKind.i64.wrap (((out.getD Du.toNat default).length:Int)-1)∧(IntKind.i64.wrap (((out.getD Du.toNat default).length:Int)-1)).toNat<(out.getD Du.toNat default).length)<| (Gt labels size out DK Du (next,((out.getD Du.toNat default).getD ((IntKind.i64.wrap (((out.getD Du.toNat default).length:Int)-1)).toNat) default))).bind fun AA=> some (Sum.inl (AA,IntKind.i64.wrap (Du+1))) else (Gt labels size out DK Du (next,0)).bind fun AA=> some (Sum.inl (AA,IntKind.i64.wrap (Du+1))) else some (Sum.inr next)
noncomputable def JD(labels size:Int)(out:List (List Int))(DK:Int)(v:(List (List Int))×Int):Option ((List (List Int))):=GQ (fun v=>Ew labels size out DK v.1 v.2) v
noncomputable def Ey(labels size:Int)(out:List (List Int))(DK:Int):Option (((List (List Int))×Int)⊕((List (List Int)))):= if DK<size then (JD labels size out DK ([],0)).bind fun Ah=> some (Sum.inl (Ah,IntKind.i64.wrap (DK+1))) else some (Sum.inr out)
noncomputable def LK(labels size:Int)(v:(List (List Int))×Int):Option ((List (List Int))):=GQ (fun v=>Ey labels size v.1 v.2) v
noncomputable def Kr(labels size:Int):Option ((List (List Int))):= (LK labels size ([[]],0)).bind fun Ke=> some Ke
def dw:SC:= .seq (.seq (.ops [oM 31 10 3,oM 32 0 3,oB 33 .lss 3 (tK 31) (tK 32) 3 4]) (.cond (tK 33) .skip (.exit 4))) (.seq (.block 5 (.ops [oM 36 6 22,oM 37 8 27,oC 38 106 [(tK 37)] [27] 27,oM 39 10 3,oX 40 (.buildSlice 27 1 #[(0,(tK 39))]) 27,oX 41 (.call ⟨(.builtin .append), #[(tK 38),(tK 40)], #[27,27]⟩) 27,oX 42 (.buildSlice 22 1 #[(0,(tK 41))]) 22,oX 43 (.call ⟨(.builtin .append), #[(tK 36),(tK 42)], #[22,22]⟩) 22,oA 6 43 22])) (.ops [oM 34 10 3,oB 35 .add 3 (tK 34) (iK 1) 3 3,oA 10 35 3]))
def xx:SC:= .loop dw
def dz:SC:= .seq (.ops [oB 18 .lss 3 (tK 17) (tK 16) 3 0]) (.seq (.cond (tK 18) .skip (.exit 2)) (.seq (.block 3 (.seq (.ops [oI 19 22 15 17,oL 20 27 19 27,oA 8 20 27]) (.seq (.ops [oX 9 (.assign (iK 0)) 3]) (.seq (.seq (.ops [oM 21 8 27,oN 22 21 27,oB 23 .gtr 3 (tK 22) (iK 0) 3 4]) (.cond (tK 23) (.ops [oM 24 8 27,oM 25 8 27,oN 26 25 27,oB 27 .sub 3 (tK 26) (iK 1) 3 3,oI 28 27 24 27,oL 29 3 28 3,oA 9 29 3]) .skip)) (.seq (.ops [oM 30 9 3,oA 10 30 3]) (.block 4 xx)))))) (.ops [oB 44 .add 3 (tK 17) (iK 1) 3 3,oM 17 44 3])))
def xy:SC:= .loop dz
def eB:SC:= .seq (.ops [oB 14 .lss 3 (tK 13) (tK 12) 3 4]) (.seq (.cond (tK 14) .skip (.exit 0)) (.seq (.block 1 (.seq (.ops [oX 6 (.assign (.const (.slice none 0 0))) 22]) (.seq (.seq (.ops [oM 15 5 22,oN 16 15 22,oX 17 (.move (iK 0)) 3]) (.block 2 xy)) (.ops [oM 45 6 22,oA 5 45 22])))) (.ops [oB 46 .add 3 (tK 13) (iK 1) 3 3,oM 13 46 3])))
def xz:SC:= .loop eB
def k73:SC:= .seq (.ops [oX 4 (.assign (.const (.slice none 0 0))) 22]) (.seq (.ops [oX 11 (.buildSlice 22 1 #[(0,(.const (.slice none 0 0)))]) 22,oA 5 11 22]) (.seq (.seq (.ops [oM 12 1 3,oX 13 (.move (iK 0)) 3]) (.block 0 xz)) (.seq (.ops [oM 47 5 22,oA 4 47 22]) .ret)))
theorem A5b:Tryz.f73.body.map (BP lends)=some k73:=by kernel_rfl
theorem AI6:Be Tryz.f73 2=true:=by kernel_rfl
theorem c73{a l:List D}{r:D×List D}(h:BZ Y.env k73 (Eh AX l.length [ResultVar.tmp 4] r) (entry a l))(ha:a.length=2):Y.call 73 a l=some r:=
 AJ (Y:=Y) rfl Tryz.func73 (ha▸AI6) A5b h
def Dy(labels size:Int)(out:List (List Int))(DK Du:Int)(next1:List (List Int))(a:Int)(s:St):Prop:=s.v 0=D.int .i64 labels∧s.v 5=D.own 27 (A8 (fun x=>D.own 3 (A8 (D.int .i64) x)) out)∧s.v 6=D.own 27 (A8 (fun x=>D.own 3 (A8 (D.int .i64) x)) next1)∧s.v 8=D.vw [5,Du.toNat] (s.k 5) (s.m 5)∧s.v 10=D.int .i64 a∧s.v 12=D.int .i64 size∧s.v 13=D.int .i64 DK∧(∃w_,s.v 15=D.vw [5] (s.k 5) w_)∧s.v 16=D.int .i64 (out.length:Int)∧s.v 17=D.int .i64 Du
def Gu(labels size:Int)(out:List (List Int))(DK Du:Int)(r:(List (List Int)))(ex:Ex)(s:St):Prop:=ex= .exit 4∧s.v 0=D.int .i64 labels∧s.v 5=D.own 27 (A8 (fun x=>D.own 3 (A8 (D.int .i64) x)) out)∧s.v 6=D.own 27 (A8 (fun x=>D.own 3 (A8 (D.int .i64) x)) r)∧s.v 12=D.int .i64 size∧s.v 13=D.int .i64 DK∧(∃w_,s.v 15=D.vw [5] (s.k 5) w_)∧s.v 16=D.int .i64 (out.length:Int)∧s.v 17=D.int .i64 Du
theorem Oc(labels size:Int)(out:List (List Int))(DK Du:Int){v:(List (List Int))×Int}{s:St}{r:(List (List Int))}(h:Gt labels size out DK Du v=some r)(hM:Dy labels size out DK Du v.1 v.2 s):BZ Y.env xx (Gu labels size out DK Du r) s:=by
 unfold Gt at h;refine Ao (c:=dw) (fun v=>Ev labels size out DK Du v.1 v.2) (fun v s=>Dy labels size out DK Du v.1 v.2 s) (Gu labels size out DK Du) ?_ h hM;clear h hM s v r;intro v s o hM h;obtain⟨next1,a⟩:=v;dsimp only at h hM;unfold Ev at h;unfold Dy at hM;obtain⟨m0,m1,m2,m3,m4,m5,m6,⟨w7_,m7⟩,m8,m9⟩:=hM;unfold dw;by_cases e6:a<labels
 ·rw [if_pos e6]at h;obtain⟨e7,h⟩:=Ar h;obtain⟨e8,h⟩:=Ar h;have c9:=JC (out.getD Du.toNat default) e8;obtain⟨e10,h⟩:=Ar h;obtain⟨e11,h⟩:=Ar h;cases h;simp (maxDischargeDepth:=9) only [↓AB,AC,↓reduceIte,Nat.reduceEqDiff,Nat.reduceLT,Nat.reduceLeDiff,Nat.reduceAdd,m0,m1,m2,m3,m4,m5,m6,m7,m8,m9,e6,e7,c9,e10,e11,Dy,Ef]<;>(repeat' apply A7)<;>first | rfl | exact⟨_,rfl⟩ | exact⟨_,_,rfl⟩ | simp [A8,AR]
 ·rw [if_neg e6]at h;cases h;simp (maxDischargeDepth:=9) only [↓AB,AC,↓reduceIte,Nat.reduceEqDiff,Nat.reduceLT,m0,m1,m2,m4,m5,m6,m7,m8,m9,e6,Dy,Gu,JK]<;>(repeat' apply A7)<;>first | rfl | exact⟨_,rfl⟩ | exact⟨_,_,rfl⟩ | simp [A8,AR]
def Dz(labels size:Int)(out:List (List Int))(DK:Int)(next:List (List Int))(Du:Int)(s:St):Prop:=s.v 0=D.int .i64 labels∧s.v 5=D.own 27 (A8 (fun x=>D.own 3 (A8 (D.int .i64) x)) out)∧s.v 6=D.own 27 (A8 (fun x=>D.own 3 (A8 (D.int .i64) x)) next)∧s.v 12=D.int .i64 size∧s.v 13=D.int .i64 DK∧(∃w_,s.v 15=D.vw [5] (s.k 5) w_)∧s.v 16=D.int .i64 (out.length:Int)∧s.v 17=D.int .i64 Du
def Je(labels size:Int)(out:List (List Int))(DK:Int)(r:(List (List Int)))(ex:Ex)(s:St):Prop:=ex= .exit 2∧s.v 0=D.int .i64 labels∧s.v 6=D.own 27 (A8 (fun x=>D.own 3 (A8 (D.int .i64) x)) r)∧s.v 12=D.int .i64 size∧s.v 13=D.int .i64 DK
theorem UR(labels size:Int)(out:List (List Int))(DK:Int){v:(List (List Int))×Int}{s:St}{r:(List (List Int))}(h:JD labels size out DK v=some r)(hM:Dz labels size out DK v.1 v.2 s):BZ Y.env xy (Je labels size out DK r) s:=by
 unfold JD at h;refine Ao (c:=dz) (fun v=>Ew labels size out DK v.1 v.2) (fun v s=>Dz labels size out DK v.1 v.2 s) (Je labels size out DK) ?_ h hM;clear h hM s v r;intro v s o hM h;obtain⟨next,Du⟩:=v;dsimp only at h hM;unfold Ew at h;unfold Dz at hM;obtain⟨m0,m1,m2,m3,m4,⟨w5_,m5⟩,m6,m7⟩:=hM;unfold dz;by_cases e2:Du<(out.length:Int)
 ·rw [if_pos e2]at h;obtain⟨e3,h⟩:=Ar h;by_cases e4:0<((out.getD Du.toNat default).length:Int)
  ·rw [if_pos e4]at h;obtain⟨e5,h⟩:=Ar h;obtain⟨AA,hl7,h⟩:=AO h;try dsimp only at h
   simp (maxDischargeDepth:=9) only [↓AB,AC,↓reduceIte,Nat.reduceEqDiff,Nat.reduceLT,m1,m5,m6,m7,e2,e3.1,e3.2,e4,e5.1,e5.2];refine AY (Oc labels size out DK Du hl7 ?_) ?_
   ·simp (maxDischargeDepth:=9) only [BG,↓reduceIte,Nat.reduceEqDiff,m0,m1,m2,m3,m4,m5,m6,m7,Dy]<;>(repeat' apply A7)<;>first | rfl | exact⟨_,rfl⟩ | exact⟨_,_,rfl⟩ | simp [A8,AR]
   ·intro ex7 s7 hX7;unfold Gu at hX7;obtain⟨rfl,n7_0,n7_1,n7_2,n7_3,n7_4,⟨w5_,n7_5⟩,n7_6,n7_7⟩:=hX7;cases h;simp (maxDischargeDepth:=9) only [↓AB,AC,↓reduceIte,Nat.reduceEqDiff,Nat.reduceLT,n7_0,n7_1,n7_2,n7_3,n7_4,n7_5,n7_6,n7_7,Dz,Ef]<;>(repeat' apply A7)<;>first | rfl | exact⟨_,rfl⟩ | exact⟨_,_,rfl⟩ | simp [A8,AR]
  ·rw [if_neg e4]at h;obtain⟨AA,hl6,h⟩:=AO h;try dsimp only at h
   simp (maxDischargeDepth:=9) only [↓AB,AC,↓reduceIte,Nat.reduceEqDiff,Nat.reduceLT,m1,m5,m6,m7,e2,e3.1,e3.2,e4];refine AY (Oc labels size out DK Du hl6 ?_) ?_
   ·simp (maxDischargeDepth:=9) only [BG,↓reduceIte,Nat.reduceEqDiff,m0,m1,m2,m3,m4,m5,m6,m7,Dy]<;>(repeat' apply A7)<;>first | rfl | exact⟨_,rfl⟩ | exact⟨_,_,rfl⟩ | simp [A8,AR]
   ·intro ex6 s6 hX6;unfold Gu at hX6;obtain⟨rfl,n6_0,n6_1,n6_2,n6_3,n6_4,⟨w5_,n6_5⟩,n6_6,n6_7⟩:=hX6;cases h;simp (maxDischargeDepth:=9) only [↓AB,AC,↓reduceIte,Nat.reduceEqDiff,Nat.reduceLT,n6_0,n6_1,n6_2,n6_3,n6_4,n6_5,n6_6,n6_7,Dz,Ef]<;>(repeat' apply A7)<;>first | rfl | exact⟨_,rfl⟩ | exact⟨_,_,rfl⟩ | simp [A8,AR]
 ·rw [if_neg e2]at h;cases h;simp (maxDischargeDepth:=9) only [↓AB,AC,↓reduceIte,Nat.reduceEqDiff,Nat.reduceLT,m0,m2,m3,m4,m6,m7,e2,Dz,Je,JK]
def Ez(labels size:Int)(out:List (List Int))(DK:Int)(s:St):Prop:=s.v 0=D.int .i64 labels∧s.v 5=D.own 27 (A8 (fun x=>D.own 3 (A8 (D.int .i64) x)) out)∧s.v 12=D.int .i64 size∧s.v 13=D.int .i64 DK
def Jf(labels size:Int)(r:(List (List Int)))(ex:Ex)(s:St):Prop:=ex= .exit 0∧s.v 5=D.own 27 (A8 (fun x=>D.own 3 (A8 (D.int .i64) x)) r)
theorem UT(labels size:Int){v:(List (List Int))×Int}{s:St}{r:(List (List Int))}(h:LK labels size v=some r)(hM:Ez labels size v.1 v.2 s):BZ Y.env xz (Jf labels size r) s:=by
 unfold LK at h;refine Ao (c:=eB) (fun v=>Ey labels size v.1 v.2) (fun v s=>Ez labels size v.1 v.2 s) (Jf labels size) ?_ h hM;clear h hM s v r;intro v s o hM h;obtain⟨out,DK⟩:=v;dsimp only at h hM;unfold Ey at h;unfold Ez at hM;obtain⟨m0,m1,m2,m3⟩:=hM;unfold eB;by_cases e1:DK<size
 ·rw [if_pos e1]at h;obtain⟨Ah,hl3,h⟩:=AO h;try dsimp only at h
  simp (maxDischargeDepth:=9) only [↓AB,AC,↓reduceIte,Nat.reduceEqDiff,Nat.reduceLT,m1,m2,m3,e1];refine AY (UR labels size out DK hl3 ?_) ?_
  ·simp (maxDischargeDepth:=9) only [BG,↓reduceIte,Nat.reduceEqDiff,m0,m1,m2,m3,Dz]<;>(repeat' apply A7)<;>first | rfl | exact⟨_,rfl⟩ | exact⟨_,_,rfl⟩ | simp [A8,AR]
  ·intro ex3 s3 hX3;unfold Je at hX3;obtain⟨rfl,n3_0,n3_1,n3_2,n3_3⟩:=hX3;cases h;simp (maxDischargeDepth:=9) only [↓AB,AC,↓reduceIte,Nat.reduceEqDiff,Nat.reduceLT,n3_0,n3_1,n3_2,n3_3,Ez,Ef]
 ·rw [if_neg e1]at h;cases h;simp (maxDischargeDepth:=9) only [↓AB,AC,↓reduceIte,Nat.reduceEqDiff,Nat.reduceLT,m1,m2,m3,e1,Ez,Jf,JK]
theorem Pj(labels size:Int){r:(List (List Int))}(h:Kr labels size=some r):Y.call 73 [D.int .i64 labels,D.int .i64 size] []=some (D.own 27 (A8 (fun x=>D.own 3 (A8 (D.int .i64) x)) r),[]):=by
 refine c73 ?_ rfl;unfold k73;unfold Kr at h;obtain⟨Ke,hl2,h⟩:=AO h;try dsimp only at h
 simp (maxDischargeDepth:=9) only [↓AB,AC,↓reduceIte,Nat.reduceEqDiff,Nat.reduceLT,Nat.reduceLeDiff,Nat.reduceAdd];refine AY (UT labels size hl2 ?_) ?_
 ·simp (maxDischargeDepth:=9) only [BG,Co,↓reduceIte,Nat.reduceEqDiff,Nat.reduceLT,Ez]<;>(repeat' apply A7)<;>first | rfl | exact⟨_,rfl⟩ | exact⟨_,_,rfl⟩ | simp [A8,AR]
 ·intro ex2 s2 hX2;unfold Jf at hX2;obtain⟨rfl,n2_0⟩:=hX2;cases h;simp (maxDischargeDepth:=9) only [↓AB,AC,↓reduceIte,Nat.reduceEqDiff,Nat.reduceLT,n2_0]
noncomputable def Ad(s_:List (List Int))(f:(List Int)→Option Bool)(Lb:Int):Option ((Int)⊕(Int⊕Unit)):= if Lb<(s_.length:Int)then ck (0≤Lb∧Lb.toNat<s_.length)<| (f (s_.getD Lb.toNat default)).bind fun Y9=> if Y9=true then some (Sum.inr (Sum.inl Lb)) else some (Sum.inl (IntKind.i64.wrap (Lb+1))) else some (Sum.inr (Sum.inr ()))
noncomputable def Bj(s_:List (List Int))(f:(List Int)→Option Bool)(v:Int):Option (Int⊕Unit):=GQ (fun v=>Ad s_ f v) v
noncomputable def BM(s_:List (List Int))(f:(List Int)→Option Bool):Option (Int):=
 (Bj s_ f 0).bind fun AA=>
 match AA with
 | .inl q1000_=>
  some q1000_
 | .inr q1000_=>
  some (-1)
def YH:SC:= .seq (.ops [oB 9 .lss 3 (tK 8) (tK 7) 3 0]) (.seq (.cond (tK 9) .skip (.exit 0)) (.seq (.block 1 (.seq (.ops [oM 10 8 3,oA 5 10 3]) (.seq (.ops [oM 11 1 52,oM 12 0 22,oM 13 5 3,oI 14 22 12 13,oL 15 27 14 27,oX 16 (.call ⟨(.value (tK 11)), #[(tK 15)], #[27]⟩) 4]) (.cond (tK 16) (.seq (.ops [oM 17 5 3,oA 4 17 3]) .ret) .skip)))) (.ops [oB 18 .add 3 (tK 8) (iK 1) 3 3,oM 8 18 3])))
def pM:SC:= .loop YH
def A5c:SC:= .seq (.ops [oX 4 (.assign (iK 0)) 3]) (.seq (.seq (.ops [oM 6 0 22,oN 7 6 22,oX 8 (.move (iK 0)) 3]) (.block 0 pM)) (.seq (.ops [oX 4 (.assign (.const (.int .i64 (-1)))) 3]) .ret))
theorem A0f:Tryz.f105.body.map (BP lends)=some A5c:=by kernel_rfl
theorem ACP:Be Tryz.f105 2=true:=by kernel_rfl
theorem AI7{a l:List D}{r:D×List D}(h:BZ Y.env A5c (Eh AX l.length [ResultVar.tmp 4] r) (entry a l))(ha:a.length=2):Y.call 105 a l=some r:=
 AJ (Y:=Y) rfl Tryz.func105 (ha▸ACP) A0f h
def Aw(s_:List (List Int))(f:(List Int)→Option Bool)(f_f:FuncId)(f_c:List D)(Lb:Int)(s:St):Prop:=s.v 0=D.sl 27 (A8 (fun x=>D.sl 3 (A8 (D.int .i64) x)) s_)∧s.v 1=D.clo f_f f_c∧s.v 7=D.int .i64 (s_.length:Int)∧s.v 8=D.int .i64 Lb
def BJ(s_:List (List Int))(f:(List Int)→Option Bool)(f_f:FuncId)(f_c:List D)(r:Int⊕Unit)(ex:Ex)(s:St):Prop:=match r with
 | .inl q=>ex= .ret∧s.v 4=D.int .i64 q
 | .inr q=>ex= .exit 0
theorem KF(s_:List (List Int))(f:(List Int)→Option Bool)(f_f:FuncId)(f_c:List D)(f_h: ∀(a0:List Int) (r:Bool),f a0=some r→Y.call f_f (D.sl 3 (A8 (D.int .i64) a0)::f_c) []=some (D.bool r,[]))(f_l:lends f_f=false){v:Int}{s:St}{r:Int⊕Unit}(h:Bj s_ f v=some r)(hM:Aw s_ f f_f f_c v s):BZ Y.env pM (BJ s_ f f_f f_c r) s:=by
 unfold Bj at h;refine Ao (c:=YH) (fun v=>Ad s_ f v) (fun v s=>Aw s_ f f_f f_c v s) (BJ s_ f f_f f_c) ?_ h hM;clear h hM s v r;intro Lb s o hM h;unfold Ad at h;unfold Aw at hM;obtain⟨m0,m1,m2,m3⟩:=hM;unfold YH;by_cases e1:Lb<(s_.length:Int)
 ·rw [if_pos e1]at h;obtain⟨e2,h⟩:=Ar h;obtain⟨Y9,hl3,h⟩:=AO h;try dsimp only at h
  have c3:=f_h _ _ hl3;by_cases e4:Y9=true
  ·rw [if_pos e4]at h;cases h;simp (maxDischargeDepth:=9) only [↓AB,AC,↓reduceIte,Nat.reduceEqDiff,Nat.reduceLT,Nat.reduceAdd,m0,m1,m2,m3,f_l,e1,e2.1,e2.2,c3,e4,Aw,BJ,Sv]
  ·rw [if_neg e4]at h;have e4f:Y9=false:=J2.mpr e4;cases h;simp (maxDischargeDepth:=9) only [↓AB,AC,↓reduceIte,Nat.reduceEqDiff,Nat.reduceLT,Nat.reduceAdd,m0,m1,m2,m3,f_l,e1,e2.1,e2.2,c3,e4f,Aw,Ef]
 ·rw [if_neg e1]at h;cases h;simp (maxDischargeDepth:=9) only [↓AB,AC,↓reduceIte,Nat.reduceLT,m2,m3,e1,Aw,BJ,JK]
theorem Kg(s_:List (List Int))(f:(List Int)→Option Bool)(f_f:FuncId)(f_c:List D)(f_h: ∀(a0:List Int) (r:Bool),f a0=some r→Y.call f_f (D.sl 3 (A8 (D.int .i64) a0)::f_c) []=some (D.bool r,[]))(f_l:lends f_f=false){r:Int}(h:BM s_ f=some r):Y.call 105 [D.sl 27 (A8 (fun x=>D.sl 3 (A8 (D.int .i64) x)) s_),D.clo f_f f_c] []=some (D.int .i64 r,[]):=by
 refine AI7 ?_ rfl;unfold A5c;unfold BM at h;obtain⟨AA,hl2,h⟩:=AO h;try dsimp only at h
 simp (maxDischargeDepth:=9) only [↓AB,AC,↓reduceIte,Nat.reduceEqDiff,Nat.reduceLT,Int.reduceNeg];refine AY (KF s_ f f_f f_c f_h f_l hl2 ?_) ?_
 ·simp (maxDischargeDepth:=9) only [BG,Co,↓reduceIte,Nat.reduceEqDiff,Nat.reduceLT,Aw]
 ·intro ex2 s2 hX2;rcases AA with q1000_ | q1000_
  ·unfold BJ at hX2;dsimp only at hX2 h;obtain⟨rfl,n2_0⟩:=hX2;cases h;simp (maxDischargeDepth:=9) only [↓AB,AC,↓reduceIte,n2_0]
  ·unfold BJ at hX2;dsimp only at hX2 h
   obtain rfl:=hX2
   cases h;simp (maxDischargeDepth:=9) only [↓AB,AC,↓reduceIte,Nat.reduceEqDiff,Nat.reduceLT,Int.reduceNeg]
noncomputable def BF(del:(List Int)→Option Bool)(i j:Int)(Ag:List (Option (List Int))):Option ((Int×Int×(List (Option (List Int))))⊕(Int×(List (Option (List Int))))):= if j<(Ag.length:Int)then ck (0≤j∧j.toNat<Ag.length)<| ck ((Ag.getD j.toNat default).isSome=true)<| (del ((Ag.getD j.toNat default).getD default)).bind fun Mj=> if Mj=true then some (Sum.inl (i,IntKind.i64.wrap (j+1),Ag)) else ck (0≤i∧i.toNat<Ag.length)<| some (Sum.inl (IntKind.i64.wrap (i+1),IntKind.i64.wrap (j+1),((Ag.set j.toNat none).set i.toNat (some ((Ag.getD j.toNat default).getD default))))) else some (Sum.inr (i,Ag))
noncomputable def CV(del:(List Int)→Option Bool)(v:Int×Int×(List (Option (List Int)))):Option (Int×(List (Option (List Int)))):=GQ (fun v=>BF del v.1 v.2.1 v.2.2) v
noncomputable def Bv(s_:List (List Int))(del:(List Int)→Option Bool):Option ((List (List Int))):= (BM s_ del).bind fun RI=> if RI=(-1)then some s_ else (CV del (RI,IntKind.i64.wrap (RI+1),(s_.map some))).bind fun AA=> ck (0≤AA.1)<| ck (AA.1.toNat≤AA.2.length)<| ck (AA.1.toNat+(AA.2.length-AA.1.toNat)≤AA.2.length)<| ck (AA.1.toNat≤(mf AA.2 AA.1.toNat ((List.replicate (AA.2.length-AA.1.toNat) ([]:List Int)).map some)).length)<| ck ((((mf AA.2 AA.1.toNat ((List.replicate (AA.2.length-AA.1.toNat) ([]:List Int)).map some)).take AA.1.toNat).all Option.isSome)=true)<| some (((mf AA.2 AA.1.toNat ((List.replicate (AA.2.length-AA.1.toNat) ([]:List Int)).map some)).take AA.1.toNat).map fun o=>o.getD default)
def eD:SC:= .seq (.seq (.ops [oM 16 6 3,oM 17 0 22,oN 18 17 22,oB 19 .lss 3 (tK 16) (tK 18) 3 4]) (.cond (tK 19) .skip (.exit 0))) (.seq (.block 1 (.seq (.ops [oM 22 0 22,oM 23 6 3,oI 24 22 22 23,oL 25 27 24 27,oA 7 25 27]) (.seq (.ops [oM 26 1 52,oM 27 7 27,oX 28 (.call ⟨(.value (tK 26)), #[(tK 27)], #[27]⟩) 4,oX 29 (.unOp .not 4 (tK 28)) 4]) (.cond (tK 29) (.seq (.ops [oM 30 0 22,oM 31 5 3,oM 32 7 27,oI 33 22 30 31,⟨none,(.store 27 (tK 33) (tK 32)),900007,none⟩]) (.ops [oM 34 5 3,oB 35 .add 3 (tK 34) (iK 1) 3 3,oA 5 35 3])) .skip)))) (.ops [oM 20 6 3,oB 21 .add 3 (tK 20) (iK 1) 3 3,oA 6 21 3]))
def y5:SC:= .loop eD
def k72:SC:= .seq (.ops [oX 4 (.assign (.const (.slice none 0 0))) 22]) (.seq (.ops [oM 8 0 22,oM 9 1 52,oC 10 105 [(tK 8),(tK 9)] [22,52] 3,oA 5 10 3]) (.seq (.seq (.ops [oM 11 5 3,oX 12 (.binOp .eql 3 (tK 11) (.const (.int .i64 (-1))) 3) 4]) (.cond (tK 12) (.seq (.ops [oM 13 0 22,oA 4 13 22]) .ret) .skip)) (.seq (.seq (.ops [oM 14 5 3,oB 15 .add 3 (tK 14) (iK 1) 3 3,oA 6 15 3]) (.block 0 y5)) (.seq (.ops [oM 36 0 22,oM 37 5 3,oX 38 (.slice 22 (tK 36) (some (tK 37)) none none) 900001,⟨none,.call ⟨(.builtin .clear), #[(tK 38)], #[22]⟩,0,none⟩]) (.seq (.ops [oM 39 0 22,oM 40 5 3,oX 41 (.slice 22 (tK 39) none (some (tK 40)) none) 900002,oA 4 41 22]) .ret)))))
theorem A5d:Tryz.f72.body.map (BP lends)=some k72:=by kernel_rfl
theorem AI9:Be Tryz.f72 2=true:=by kernel_rfl
theorem c72{a l:List D}{r:D×List D}(h:BZ Y.env k72 (Eh AX l.length [ResultVar.tmp 4] r) (entry a l))(ha:a.length=2):Y.call 72 a l=some r:=
 AJ (Y:=Y) rfl Tryz.func72 (ha▸AI9) A5d h
def Av(del:(List Int)→Option Bool)(del_f:FuncId)(del_c:List D)(i j:Int)(Ag:List (Option (List Int)))(s:St):Prop:=(∃w_,s.v 0=D.vw [100000] (s.k 100000) w_)∧s.v 1=D.clo del_f del_c∧s.v 5=D.int .i64 i∧s.v 6=D.int .i64 j∧s.v 100000=D.own 27 (A8 (PQ (fun x=>D.own 3 (A8 (D.int .i64) x))) Ag)
def C9(del:(List Int)→Option Bool)(del_f:FuncId)(del_c:List D)(r:Int×(List (Option (List Int))))(ex:Ex)(s:St):Prop:=ex= .exit 0∧(∃w_,s.v 0=D.vw [100000] (s.k 100000) w_)∧s.v 5=D.int .i64 r.1∧s.v 100000=D.own 27 (A8 (PQ (fun x=>D.own 3 (A8 (D.int .i64) x))) r.2)
theorem Jw(del:(List Int)→Option Bool)(del_f:FuncId)(del_c:List D)(del_h: ∀(a0:List Int) (r:Bool),del a0=some r→Y.call del_f (D.sl 3 (A8 (D.int .i64) a0)::del_c) []=some (D.bool r,[]))(del_l:lends del_f=false){v:Int×Int×(List (Option (List Int)))}{s:St}{r:Int×(List (Option (List Int)))}(h:CV del v=some r)(hM:Av del del_f del_c v.1 v.2.1 v.2.2 s):BZ Y.env y5 (C9 del del_f del_c r) s:=by
 unfold CV at h;refine Ao (c:=eD) (fun v=>BF del v.1 v.2.1 v.2.2) (fun v s=>Av del del_f del_c v.1 v.2.1 v.2.2 s) (C9 del del_f del_c) ?_ h hM;clear h hM s v r;intro v s o hM h;obtain⟨i,j,Ag⟩:=v;dsimp only at h hM;unfold BF at h;unfold Av at hM;obtain⟨⟨w0_,m0⟩,m1,m2,m3,m4⟩:=hM;unfold eD;by_cases e3:j<(Ag.length:Int)
 ·rw [if_pos e3]at h;obtain⟨e4,h⟩:=Ar h;obtain⟨e5,h⟩:=Ar h;obtain⟨Mj,hl6,h⟩:=AO h;try dsimp only at h
  have c6:=del_h _ _ hl6;by_cases e7:Mj=true
  ·rw [if_pos e7]at h;cases h;simp (maxDischargeDepth:=9) only [↓AB,AC,↓reduceIte,Nat.reduceEqDiff,Nat.reduceLT,Nat.reduceAdd,m0,m1,m2,m3,m4,del_l,e3,e4.1,e4.2,e5,c6,e7,Av,Ef]<;>(repeat' apply A7)<;>first | rfl | exact⟨_,rfl⟩ | exact⟨_,_,rfl⟩ | simp [A8,AR]
  ·rw [if_neg e7]at h;have e7f:Mj=false:=J2.mpr e7;obtain⟨e8,h⟩:=Ar h;cases h;simp (maxDischargeDepth:=9) only [↓AB,AC,↓reduceIte,Nat.reduceEqDiff,Nat.reduceLT,Nat.reduceAdd,m0,m1,m2,m3,m4,del_l,e3,e4.1,e4.2,e5,c6,e7f,e8.1,e8.2,Av,Ef]<;>(repeat' apply A7)<;>first | rfl | exact⟨_,rfl⟩ | exact⟨_,_,rfl⟩ | simp [A8,AR]
 ·rw [if_neg e3]at h;cases h;simp (maxDischargeDepth:=9) only [↓AB,AC,↓reduceIte,Nat.reduceEqDiff,Nat.reduceLT,m0,m2,m3,m4,e3,Av,C9,JK]<;>(repeat' apply A7)<;>first | rfl | exact⟨_,rfl⟩ | exact⟨_,_,rfl⟩ | simp [A8,AR]
theorem KG(s_:List (List Int))(del:(List Int)→Option Bool)(del_f:FuncId)(del_c:List D)(del_h: ∀(a0:List Int) (r:Bool),del a0=some r→Y.call del_f (D.sl 3 (A8 (D.int .i64) a0)::del_c) []=some (D.bool r,[]))(del_l:lends del_f=false){r:(List (List Int))}(h:Bv s_ del=some r):Y.call 72 [D.vw [100000] 0 0,D.clo del_f del_c] [D.own 27 (A8 (fun x=>D.own 3 (A8 (D.int .i64) x)) s_)]=some (D.own 27 (A8 (fun x=>D.own 3 (A8 (D.int .i64) x)) r),[D.undef]):=by
 refine c72 ?_ rfl;unfold k72;unfold Bv at h;obtain⟨RI,hl1,h⟩:=AO h;try dsimp only at h
 have c1:=Kg s_ del del_f del_c del_h del_l hl1;by_cases e2:RI=(-1)
 ·rw [if_pos e2]at h;cases h;simp (maxDischargeDepth:=9) only [↓AB,AC,↓reduceIte,Nat.reduceEqDiff,Nat.reduceLT,Nat.reduceAdd,Nat.reduceSub,Int.reduceNeg,c1,decide_eq_true e2]
 ·rw [if_neg e2]at h;obtain⟨AA,hl4,h⟩:=AO h;try dsimp only at h
  simp (maxDischargeDepth:=9) only [↓AB,AC,↓reduceIte,Nat.reduceEqDiff,Nat.reduceLT,Nat.reduceAdd,Nat.reduceSub,Int.reduceNeg,c1,e2];refine AY (Jw del del_f del_c del_h del_l hl4 ?_) ?_
  ·simp (maxDischargeDepth:=9) only [BG,A4W,Co,↓reduceIte,Nat.reduceEqDiff,Nat.reduceLT,Nat.reduceSub,Av]<;>(repeat' apply A7)<;>first | rfl | exact⟨_,rfl⟩ | exact⟨_,_,rfl⟩ | simp [A8,AR]
  ·intro ex4 s4 hX4;unfold C9 at hX4;obtain⟨rfl,⟨w0_,n4_0⟩,n4_1,n4_2⟩:=hX4;obtain⟨e5,h⟩:=Ar h;obtain⟨e6,h⟩:=Ar h;obtain⟨e7,h⟩:=Ar h;obtain⟨e8,h⟩:=Ar h;obtain⟨e9,h⟩:=Ar h;cases h;simp (maxDischargeDepth:=9) only [↓AB,AC,↓reduceIte,Nat.reduceEqDiff,Nat.reduceLT,n4_0,n4_1,n4_2,e5,e6,e7,e8,e9]
noncomputable def KH(c_:List Int)(c0_:(List Int)→Option Bool):Option (Bool):= (c0_ c_).bind fun r6_=> some (!r6_)
def k74:SC:= .seq (.ops [oX 3 (.assign (.const (.bool false))) 4]) (.seq (.ops [oL 4 52 1 52,oM 5 0 27,oX 6 (.call ⟨(.value (tK 4)), #[(tK 5)], #[27]⟩) 4,oX 7 (.unOp .not 4 (tK 6)) 4,oA 3 7 4]) .ret)
theorem A5e:Tryz.f74.body.map (BP lends)=some k74:=by kernel_rfl
theorem AIB:Be Tryz.f74 2=true:=by kernel_rfl
theorem c74{a l:List D}{r:D×List D}(h:BZ Y.env k74 (Eh AX l.length [ResultVar.tmp 3] r) (entry a l))(ha:a.length=2):Y.call 74 a l=some r:=
 AJ (Y:=Y) rfl Tryz.func74 (ha▸AIB) A5e h
theorem TI(c_:List Int)(c0_:(List Int)→Option Bool)(c0__f:FuncId)(c0__c:List D)(c0__h: ∀(a0:List Int) (r:Bool),c0_ a0=some r→Y.call c0__f (D.sl 3 (A8 (D.int .i64) a0)::c0__c) []=some (D.bool r,[]))(c0__l:lends c0__f=false){r:Bool}(h:KH c_ c0_=some r):Y.call 74 [D.sl 3 (A8 (D.int .i64) c_),D.cptr [D.clo c0__f c0__c]] []=some (D.bool r,[]):=by
 refine c74 ?_ rfl;unfold k74;unfold KH at h;obtain⟨r6_,hl1,h⟩:=AO h;try dsimp only at h
 have c1:=c0__h _ _ hl1;cases h;simp (maxDischargeDepth:=9) only [↓AB,AC,↓reduceIte,Nat.reduceEqDiff,Nat.reduceLT,Nat.reduceAdd,c0__l,c1]
noncomputable def He(labels size:Int)(good:(List Int)→Option Bool):Option ((List (List Int))):= (Kr labels size).bind fun r9_=> (Bv r9_ (fun a0=>KH a0 good)).bind fun YI=> some YI
def k42:SC:= .seq (.ops [oX 5 (.box 52 (tK 2)) 0,oX 6 (.assign (.const (.slice none 0 0))) 22]) (.seq (.ops [oM 7 0 3,oM 8 1 3,oC 9 73 [(tK 7),(tK 8)] [3,3] 22,oX 10 (.makeFunc (Fn.func 74) #[] #[(tK 5)]) 52,oC 11 72 [(tK 9),(tK 10)] [22,52] 22,oA 6 11 22]) .ret)
theorem A5f:Tryz.f42.body.map (BP lends)=some k42:=by kernel_rfl
theorem AID:Be Tryz.f42 3=true:=by kernel_rfl
theorem c42{a l:List D}{r:D×List D}(h:BZ Y.env k42 (Eh AX l.length [ResultVar.tmp 6] r) (entry a l))(ha:a.length=3):Y.call 42 a l=some r:=
 AJ (Y:=Y) rfl Tryz.func42 (ha▸AID) A5f h
theorem Pk(labels size:Int)(good:(List Int)→Option Bool)(good_f:FuncId)(good_c:List D)(good_h: ∀(a0:List Int) (r:Bool),good a0=some r→Y.call good_f (D.sl 3 (A8 (D.int .i64) a0)::good_c) []=some (D.bool r,[]))(good_l:lends good_f=false){r:(List (List Int))}(h:He labels size good=some r):Y.call 42 [D.int .i64 labels,D.int .i64 size,D.clo good_f good_c] []=some (D.own 27 (A8 (fun x=>D.own 3 (A8 (D.int .i64) x)) r),[]):=by
 refine c42 ?_ rfl;unfold k42;unfold He at h;obtain⟨r9_,hl1,h⟩:=AO h;try dsimp only at h
 have c1:=Pj labels size hl1;obtain⟨YI,hl2,h⟩:=AO h;try dsimp only at h
 have c2:=KG r9_ (fun a0=>KH a0 good) 74 [D.cptr [D.clo good_f good_c]] (fun a0 _ hh=>TI a0 good good_f good_c good_h good_l hh) A4b hl2;cases h;simp (maxDischargeDepth:=9) only [↓AB,AC,↓reduceIte,Nat.reduceEqDiff,Nat.reduceLT,Nat.reduceAdd,c1,c2]
noncomputable def ER(rec_:Int→(List Int)→(List (List Int))→Option (Bool×(List Int)))(k:Int)(c0_:List (List Int))(Gs:Int)(t100000_0:List Int):Option ((Int×(List Int))⊕(((List Int))⊕((List Int)))):= if Gs<((c0_.getD k.toNat default).length:Int)then ck (0≤Gs∧Gs.toNat<(c0_.getD k.toNat default).length)<| ck (0≤k∧k.toNat<t100000_0.length)<| (rec_ (IntKind.i64.wrap (k+1)) (t100000_0.set k.toNat ((c0_.getD k.toNat default).getD Gs.toNat default)) c0_).bind fun Ou=> if Ou.1=true then some (Sum.inr (Sum.inl Ou.2)) else some (Sum.inl (IntKind.i64.wrap (Gs+1),Ou.2)) else some (Sum.inr (Sum.inr t100000_0))
noncomputable def I1(rec_:Int→(List Int)→(List (List Int))→Option (Bool×(List Int)))(k:Int)(c0_:List (List Int))(v:Int×(List Int)):Option (((List Int))⊕((List Int))):=GQ (fun v=>ER rec_ k c0_ v.1 v.2) v
noncomputable def DY(rec_:Int→(List Int)→(List (List Int))→Option (Bool×(List Int)))(k:Int)(o0_:List Int)(c0_:List (List Int))(c1_:(List Int)→Option Bool):Option (Bool×(List Int)):=
 if k=(c0_.length:Int)then
  (c1_ o0_).bind fun Lx=>
  some (Lx,o0_)
 else
  ck (0≤k∧k.toNat<c0_.length)<|
  (I1 rec_ k c0_ (0,o0_)).bind fun AA=>
  match AA with
  | .inl q1000_=>
   some (true,q1000_)
  | .inr q1000_=>
   some (false,q1000_)
noncomputable def Bl(c1_:(List Int)→Option Bool):Nat→Int→(List Int)→(List (List Int))→Option (Bool×(List Int)) | 0=>fun _ _ _=>none | n+1=>fun k o0_ c0_=>DY (Bl c1_ n) k o0_ c0_ c1_
noncomputable def N8(k:Int)(o0_:List Int)(c0_:List (List Int))(c1_:(List Int)→Option Bool):Option (Bool×(List Int)):=Bl c1_ 1000000 k o0_ c0_
def YJ:SC:= .seq (.ops [oB 22 .lss 3 (tK 21) (tK 20) 3 0]) (.seq (.cond (tK 22) .skip (.exit 0)) (.seq (.block 1 (.seq (.ops [oI 23 27 19 21,oL 24 3 23 3,oA 8 24 3]) (.seq (.ops [oL 25 27 3 27,oM 26 0 3,oM 27 8 3,oI 28 27 25 26,oS 3 28 27]) (.seq (.ops [oL 29 87 4 87,oM 30 0 3,oB 31 .add 3 (tK 30) (iK 1) 3 3,oX 32 (.call ⟨(.value (tK 29)), #[(tK 31)], #[3]⟩) 4]) (.cond (tK 32) (.seq (.ops [oX 6 (.assign (.const (.bool true))) 4]) .ret) .skip))))) (.ops [oB 33 .add 3 (tK 21) (iK 1) 3 3,oM 21 33 3])))
def pO:SC:= .loop YJ
def A5g:SC:= .seq (.ops [oX 6 (.assign (.const (.bool false))) 4]) (.seq (.seq (.ops [oM 9 0 3,oL 10 22 1 22,oN 11 10 22,oB 12 .eql 3 (tK 9) (tK 11) 3 4]) (.cond (tK 12) (.seq (.ops [oL 13 52 2 52,oL 14 27 3 27,oX 15 (.call ⟨(.value (tK 13)), #[(tK 14)], #[27]⟩) 4,oA 6 15 4]) .ret) .skip)) (.seq (.seq (.ops [oL 16 22 1 22,oM 17 0 3,oI 18 22 16 17,oL 19 27 18 27,oN 20 19 27,oX 21 (.move (iK 0)) 3]) (.block 0 pO)) (.seq (.ops [oX 6 (.assign (.const (.bool false))) 4]) .ret)))
theorem A0g:Tryz.f107.body.map (BP lends)=some A5g:=by kernel_rfl
theorem ACQ:Be Tryz.f107 5=true:=by kernel_rfl
theorem AIF{a l:List D}{r:D×List D}(h:BZ Y.env A5g (Eh AX l.length [ResultVar.tmp 6] r) (entry a l))(ha:a.length=5):Y.call 107 a l=some r:=
 AJ (Y:=Y) rfl Tryz.func107 (ha▸ACQ) A0g h
def Cf(rec_:Int→(List Int)→(List (List Int))→Option (Bool×(List Int)))(k:Int)(c0_:List (List Int))(c1__f:FuncId)(c1__c:List D)(Gs:Int)(t100000_0:List Int)(s:St):Prop:=s.v 0=D.int .i64 k∧(∃w_,s.v 3=D.vw [100000] (s.k 100000) w_)∧(∃w_,s.v 4=D.ocl true 107 [D.cptr [D.sl 27 (A8 (fun x=>D.sl 3 (A8 (D.int .i64) x)) c0_)],D.cptr [D.clo c1__f c1__c],D.vw [100000] (s.k 100000) w_,D.undef])∧s.v 19=D.sl 3 (A8 (D.int .i64) (c0_.getD k.toNat default))∧s.v 20=D.int .i64 ((c0_.getD k.toNat default).length:Int)∧s.v 21=D.int .i64 Gs∧s.v 100000=D.box [D.own 3 (A8 (D.int .i64) t100000_0)]
def DL(rec_:Int→(List Int)→(List (List Int))→Option (Bool×(List Int)))(k:Int)(c0_:List (List Int))(c1__f:FuncId)(c1__c:List D)(r:((List Int))⊕((List Int)))(ex:Ex)(s:St):Prop:=match r with
 | .inl q=>ex= .ret∧s.v 6=D.bool true∧s.v 100000=D.box [D.own 3 (A8 (D.int .i64) q)]
 | .inr q=>ex= .exit 0∧s.v 100000=D.box [D.own 3 (A8 (D.int .i64) q)]
theorem Qa(rec_:Int→(List Int)→(List (List Int))→Option (Bool×(List Int)))(k:Int)(c0_:List (List Int))(c1__f:FuncId)(c1__c:List D)(rec_h: ∀(k:Int) (o0_:List Int) (c0_:List (List Int)) (r:Bool×(List Int)),rec_ k o0_ c0_=some r→Y.call 107 [D.int .i64 k,D.cptr [D.sl 27 (A8 (fun x=>D.sl 3 (A8 (D.int .i64) x)) c0_)],D.cptr [D.clo c1__f c1__c],D.vw [100000] 0 0,D.ocl true 107 [D.cptr [D.sl 27 (A8 (fun x=>D.sl 3 (A8 (D.int .i64) x)) c0_)],D.cptr [D.clo c1__f c1__c],D.vw [100000] 0 0,D.undef]] [D.box [D.own 3 (A8 (D.int .i64) o0_)]]=some (D.bool r.1,[D.box [D.own 3 (A8 (D.int .i64) r.2)]])){v:Int×(List Int)}{s:St}{r:((List Int))⊕((List Int))}(h:I1 rec_ k c0_ v=some r)(hM:Cf rec_ k c0_ c1__f c1__c v.1 v.2 s):BZ Y.env pO (DL rec_ k c0_ c1__f c1__c r) s:=by
 unfold I1 at h;refine Ao (c:=YJ) (fun v=>ER rec_ k c0_ v.1 v.2) (fun v s=>Cf rec_ k c0_ c1__f c1__c v.1 v.2 s) (DL rec_ k c0_ c1__f c1__c) ?_ h hM;clear h hM s v r;intro v s o hM h;obtain⟨Gs,t100000_0⟩:=v;dsimp only at h hM;unfold ER at h;unfold Cf at hM;obtain⟨m0,⟨w1_,m1⟩,⟨w2_,m2⟩,m3,m4,m5,m6⟩:=hM;unfold YJ;by_cases e3:Gs<((c0_.getD k.toNat default).length:Int)
 ·rw [if_pos e3]at h;obtain⟨e4,h⟩:=Ar h;obtain⟨e5,h⟩:=Ar h;obtain⟨Ou,hl6,h⟩:=AO h;try dsimp only at h
  have c6:=rec_h _ _ _ _ hl6;by_cases e7:Ou.1=true
  ·rw [if_pos e7]at h;cases h;simp (maxDischargeDepth:=9) only [↓AB,AC,↓reduceIte,Nat.reduceEqDiff,Nat.reduceLT,Nat.reduceAdd,m0,m1,m2,m3,m4,m5,m6,e3,e4.1,e4.2,e5.1,e5.2,c6,e7,Cf,DL,Sv]
  ·rw [if_neg e7]at h;have e7f:Ou.1=false:=J2.mpr e7;cases h;simp (maxDischargeDepth:=9) only [↓AB,AC,↓reduceIte,Nat.reduceEqDiff,Nat.reduceLT,Nat.reduceAdd,m0,m1,m2,m3,m4,m5,m6,e3,e4.1,e4.2,e5.1,e5.2,c6,e7f,Cf,Ef]<;>(repeat' apply A7)<;>first | rfl | exact⟨_,rfl⟩ | exact⟨_,_,rfl⟩ | simp [A8,AR]
 ·rw [if_neg e3]at h;cases h;simp (maxDischargeDepth:=9) only [↓AB,AC,↓reduceIte,Nat.reduceEqDiff,Nat.reduceLT,m4,m5,m6,e3,Cf,DL,JK]
theorem QG(rec_:Int→(List Int)→(List (List Int))→Option (Bool×(List Int)))(k:Int)(o0_:List Int)(c0_:List (List Int))(c1_:(List Int)→Option Bool)(c1__f:FuncId)(c1__c:List D)(rec_h: ∀(k:Int) (o0_:List Int) (c0_:List (List Int)) (r:Bool×(List Int)),rec_ k o0_ c0_=some r→Y.call 107 [D.int .i64 k,D.cptr [D.sl 27 (A8 (fun x=>D.sl 3 (A8 (D.int .i64) x)) c0_)],D.cptr [D.clo c1__f c1__c],D.vw [100000] 0 0,D.ocl true 107 [D.cptr [D.sl 27 (A8 (fun x=>D.sl 3 (A8 (D.int .i64) x)) c0_)],D.cptr [D.clo c1__f c1__c],D.vw [100000] 0 0,D.undef]] [D.box [D.own 3 (A8 (D.int .i64) o0_)]]=some (D.bool r.1,[D.box [D.own 3 (A8 (D.int .i64) r.2)]]))(c1__h: ∀(a0:List Int) (r:Bool),c1_ a0=some r→Y.call c1__f (D.sl 3 (A8 (D.int .i64) a0)::c1__c) []=some (D.bool r,[]))(c1__l:lends c1__f=false){r:Bool×(List Int)}(h:DY rec_ k o0_ c0_ c1_=some r):Y.call 107 [D.int .i64 k,D.cptr [D.sl 27 (A8 (fun x=>D.sl 3 (A8 (D.int .i64) x)) c0_)],D.cptr [D.clo c1__f c1__c],D.vw [100000] 0 0,D.ocl true 107 [D.cptr [D.sl 27 (A8 (fun x=>D.sl 3 (A8 (D.int .i64) x)) c0_)],D.cptr [D.clo c1__f c1__c],D.vw [100000] 0 0,D.undef]] [D.box [D.own 3 (A8 (D.int .i64) o0_)]]=some (D.bool r.1,[D.box [D.own 3 (A8 (D.int .i64) r.2)]]):=by
 refine AIF ?_ rfl;unfold A5g;unfold DY at h;by_cases e1:k=(c0_.length:Int)
 ·rw [if_pos e1]at h;obtain⟨Lx,hl2,h⟩:=AO h;try dsimp only at h
  have c2:=c1__h _ _ hl2;cases h;simp (maxDischargeDepth:=9) only [↓AB,AC,↓reduceIte,Nat.reduceEqDiff,Nat.reduceLT,Nat.reduceAdd,Nat.reduceSub,c1__l,decide_eq_true e1,c2]
 ·rw [if_neg e1]at h;obtain⟨e2,h⟩:=Ar h;obtain⟨AA,hl4,h⟩:=AO h;try dsimp only at h
  simp (maxDischargeDepth:=9) only [↓AB,AC,↓reduceIte,Nat.reduceEqDiff,Nat.reduceLT,Nat.reduceAdd,e1,e2.1,e2.2];refine AY (Qa rec_ k c0_ c1__f c1__c rec_h hl4 ?_) ?_
  ·simp (maxDischargeDepth:=9) only [BG,Co,↓reduceIte,Nat.reduceEqDiff,Nat.reduceLT,Nat.reduceSub,Cf]<;>(repeat' apply A7)<;>first | rfl | exact⟨_,rfl⟩ | exact⟨_,_,rfl⟩ | simp [A8,AR]
  ·intro ex4 s4 hX4;rcases AA with q1000_ | q1000_
   ·unfold DL at hX4;dsimp only at hX4 h;obtain⟨rfl,n4_0,n4_1⟩:=hX4;cases h;simp (maxDischargeDepth:=9) only [↓AB,AC,↓reduceIte,n4_0,n4_1]
   ·unfold DL at hX4;dsimp only at hX4 h;obtain⟨rfl,n4_0⟩:=hX4;cases h;simp (maxDischargeDepth:=9) only [↓AB,AC,↓reduceIte,Nat.reduceEqDiff,Nat.reduceLT,n4_0]
theorem QH(c1_:(List Int)→Option Bool)(c1__f:FuncId)(c1__c:List D)(c1__h: ∀(a0:List Int) (r:Bool),c1_ a0=some r→Y.call c1__f (D.sl 3 (A8 (D.int .i64) a0)::c1__c) []=some (D.bool r,[]))(c1__l:lends c1__f=false)(n:Nat): ∀(k:Int) (o0_:List Int) (c0_:List (List Int)) (r:Bool×(List Int)),Bl c1_ n k o0_ c0_=some r→Y.call 107 [D.int .i64 k,D.cptr [D.sl 27 (A8 (fun x=>D.sl 3 (A8 (D.int .i64) x)) c0_)],D.cptr [D.clo c1__f c1__c],D.vw [100000] 0 0,D.ocl true 107 [D.cptr [D.sl 27 (A8 (fun x=>D.sl 3 (A8 (D.int .i64) x)) c0_)],D.cptr [D.clo c1__f c1__c],D.vw [100000] 0 0,D.undef]] [D.box [D.own 3 (A8 (D.int .i64) o0_)]]=some (D.bool r.1,[D.box [D.own 3 (A8 (D.int .i64) r.2)]]):=by
 induction n with
 | zero=>intro k o0_ c0_ r h;exact absurd h (by rw [Bl];exact fun e=>nomatch e)
 | succ n ih=>intro k o0_ c0_ r h;rw [Bl]at h;exact QG (Bl c1_ n) k o0_ c0_ c1_ c1__f c1__c ih c1__h c1__l h
theorem RJ(k:Int)(o0_:List Int)(c0_:List (List Int))(c1_:(List Int)→Option Bool)(c1__f:FuncId)(c1__c:List D)(c1__h: ∀(a0:List Int) (r:Bool),c1_ a0=some r→Y.call c1__f (D.sl 3 (A8 (D.int .i64) a0)::c1__c) []=some (D.bool r,[]))(c1__l:lends c1__f=false){r:Bool×(List Int)}(h:N8 k o0_ c0_ c1_=some r):Y.call 107 [D.int .i64 k,D.cptr [D.sl 27 (A8 (fun x=>D.sl 3 (A8 (D.int .i64) x)) c0_)],D.cptr [D.clo c1__f c1__c],D.vw [100000] 0 0,D.ocl true 107 [D.cptr [D.sl 27 (A8 (fun x=>D.sl 3 (A8 (D.int .i64) x)) c0_)],D.cptr [D.clo c1__f c1__c],D.vw [100000] 0 0,D.undef]] [D.box [D.own 3 (A8 (D.int .i64) o0_)]]=some (D.bool r.1,[D.box [D.own 3 (A8 (D.int .i64) r.2)]]):=QH c1_ c1__f c1__c c1__h c1__l 1000000 k o0_ c0_ r h
noncomputable def KI(lists:List (List Int))(good:(List Int)→Option Bool):Option ((List Int)×Bool):= ck (0≤(lists.length:Int)∧(lists.length:Int)<1099511627776)<| (N8 (0:Int) (List.replicate lists.length 0) lists good).bind fun y7=> if y7.1=true then some (y7.2,true) else some ([],false)
def k75:SC:= .seq (.ops [oX 2 (.box 22 (tK 0)) 0,oX 3 (.box 52 (tK 1)) 0,oX 4 (.assign (.const (.slice none 0 0))) 27,oX 5 (.assign (.const (.bool false))) 4]) (.seq (.ops [oL 8 22 2 22,oN 9 8 22,oX 10 (.makeSlice 27 (tK 9) (tK 9)) 27,oX 6 (.alloc 27) 0,oS 27 6 10]) (.seq (.ops [oX 7 (.alloc 87) 0]) (.seq (.ops [oX 11 (.makeFunc (Fn.func 107) #[] #[(tK 2),(tK 3),(tK 6),(tK 7)]) 3000012,⟨none,(.store 87 (tK 7) (tK 11)),900010,none⟩]) (.seq (.seq (.ops [oL 12 87 7 87,oX 13 (.call ⟨(.value (tK 12)), #[(iK 0)], #[3]⟩) 4,oX 14 (.unOp .not 4 (tK 13)) 4]) (.cond (tK 14) (.seq (.ops [oX 4 (.assign (.const (.slice none 0 0))) 27,oX 5 (.assign (.const (.bool false))) 4]) .ret) .skip)) (.seq (.ops [oL 15 27 6 27,oA 4 15 27,oX 5 (.assign (.const (.bool true))) 4]) .ret)))))
theorem A5h:Tryz.f75.body.map (BP lends)=some k75:=by kernel_rfl
theorem AIH:Be Tryz.f75 2=true:=by kernel_rfl
theorem c75{a l:List D}{r:D×List D}(h:BZ Y.env k75 (Eh AX l.length [ResultVar.tmp 4,ResultVar.tmp 5] r) (entry a l))(ha:a.length=2):Y.call 75 a l=some r:=
 AJ (Y:=Y) rfl Tryz.func75 (ha▸AIH) A5h h
theorem TJ(lists:List (List Int))(good:(List Int)→Option Bool)(good_f:FuncId)(good_c:List D)(good_h: ∀(a0:List Int) (r:Bool),good a0=some r→Y.call good_f (D.sl 3 (A8 (D.int .i64) a0)::good_c) []=some (D.bool r,[]))(good_l:lends good_f=false){r:(List Int)×Bool}(h:KI lists good=some r):Y.call 75 [D.sl 27 (A8 (fun x=>D.sl 3 (A8 (D.int .i64) x)) lists),D.clo good_f good_c] []=some (D.tup [D.own 3 (A8 (D.int .i64) r.1),D.bool r.2],[]):=by
 refine c75 ?_ rfl;unfold k75;unfold KI at h;obtain⟨e1,h⟩:=Ar h;obtain⟨y7,hl2,h⟩:=AO h;try dsimp only at h
 have c2:=RJ (0:Int) (List.replicate lists.length 0) lists good good_f good_c good_h good_l hl2;by_cases e3:y7.1=true
 ·rw [if_pos e3]at h;cases h;simp (maxDischargeDepth:=9) only [↓AB,AC,↓reduceIte,Nat.reduceEqDiff,Nat.reduceLT,Nat.reduceLeDiff,Nat.reduceAdd,Nat.reduceMod,Nat.reduceDiv,Nat.reducePow,Nat.reduceSub,e1.1,e1.2,c2,e3]
 ·rw [if_neg e3]at h;have e3f:y7.1=false:=J2.mpr e3;cases h;simp (maxDischargeDepth:=9) only [↓AB,AC,↓reduceIte,Nat.reduceEqDiff,Nat.reduceLT,Nat.reduceLeDiff,Nat.reduceAdd,Nat.reduceMod,Nat.reduceDiv,Nat.reducePow,Nat.reduceSub,e1.1,e1.2,c2,e3f]<;>(repeat' apply A7)<;>first | rfl | exact⟨_,rfl⟩ | exact⟨_,_,rfl⟩ | simp [A8,AR]
noncomputable def Gv(sets numbers:List Int)(out:List (List Int))(G6:Int):Option (((List (List Int))×Int)⊕((List (List Int)))):= if G6<(numbers.length:Int)then ck (0≤G6∧G6.toNat<numbers.length)<| ck (0≤(numbers.getD G6.toNat default)∧(numbers.getD G6.toNat default).toNat<sets.length)<| (O0 (sets.getD ((numbers.getD G6.toNat default).toNat) default)).bind fun Mk=> ck (out.length+1<1099511627776)<| some (Sum.inl ((out++[Mk]),IntKind.i64.wrap (G6+1))) else some (Sum.inr out)
noncomputable def NK(sets numbers:List Int)(v:(List (List Int))×Int):Option ((List (List Int))):=GQ (fun v=>Gv sets numbers v.1 v.2) v
noncomputable def Pn(sets numbers:List Int):Option ((List (List Int))):= (NK sets numbers ([],0)).bind fun AA=> some AA
def eF:SC:= .seq (.ops [oB 11 .lss 3 (tK 10) (tK 9) 3 0]) (.seq (.cond (tK 11) .skip (.exit 0)) (.seq (.block 1 (.seq (.ops [oI 12 27 8 10,oL 13 3 12 3,oA 7 13 3]) (.ops [oM 14 5 22,oM 15 0 27,oM 16 7 3,oI 17 27 15 16,oL 18 3 17 3,oC 19 66 [(tK 18)] [3] 27,oX 20 (.buildSlice 22 1 #[(0,(tK 19))]) 22,oX 21 (.call ⟨(.builtin .append), #[(tK 14),(tK 20)], #[22,22]⟩) 22,oA 5 21 22]))) (.ops [oB 22 .add 3 (tK 10) (iK 1) 3 3,oM 10 22 3])))
def y8:SC:= .loop eF
def k45:SC:= .seq (.ops [oX 4 (.assign (.const (.slice none 0 0))) 22]) (.seq (.ops [oX 5 (.assign (.const (.slice none 0 0))) 22]) (.seq (.seq (.ops [oM 8 1 27,oN 9 8 27,oX 10 (.move (iK 0)) 3]) (.block 0 y8)) (.seq (.ops [oM 23 5 22,oA 4 23 22]) .ret)))
theorem A5i:Tryz.f45.body.map (BP lends)=some k45:=by kernel_rfl
theorem AIJ:Be Tryz.f45 2=true:=by kernel_rfl
theorem c45{a l:List D}{r:D×List D}(h:BZ Y.env k45 (Eh AX l.length [ResultVar.tmp 4] r) (entry a l))(ha:a.length=2):Y.call 45 a l=some r:=
 AJ (Y:=Y) rfl Tryz.func45 (ha▸AIJ) A5i h
def Gw(sets numbers:List Int)(out:List (List Int))(G6:Int)(s:St):Prop:=s.v 0=D.sl 3 (A8 (D.int .i64) sets)∧s.v 5=D.own 27 (A8 (fun x=>D.own 3 (A8 (D.int .i64) x)) out)∧s.v 8=D.sl 3 (A8 (D.int .i64) numbers)∧s.v 9=D.int .i64 (numbers.length:Int)∧s.v 10=D.int .i64 G6
def LM(sets numbers:List Int)(r:(List (List Int)))(ex:Ex)(s:St):Prop:=ex= .exit 0∧s.v 5=D.own 27 (A8 (fun x=>D.own 3 (A8 (D.int .i64) x)) r)
theorem WO(sets numbers:List Int){v:(List (List Int))×Int}{s:St}{r:(List (List Int))}(h:NK sets numbers v=some r)(hM:Gw sets numbers v.1 v.2 s):BZ Y.env y8 (LM sets numbers r) s:=by
 unfold NK at h;refine Ao (c:=eF) (fun v=>Gv sets numbers v.1 v.2) (fun v s=>Gw sets numbers v.1 v.2 s) (LM sets numbers) ?_ h hM;clear h hM s v r;intro v s o hM h;obtain⟨out,G6⟩:=v;dsimp only at h hM;unfold Gv at h;unfold Gw at hM;obtain⟨m0,m1,m2,m3,m4⟩:=hM;unfold eF;by_cases e1:G6<(numbers.length:Int)
 ·rw [if_pos e1]at h;obtain⟨e2,h⟩:=Ar h;obtain⟨e3,h⟩:=Ar h;obtain⟨Mk,hl4,h⟩:=AO h;try dsimp only at h
  have c4:=WN (sets.getD ((numbers.getD G6.toNat default).toNat) default) hl4;obtain⟨e5,h⟩:=Ar h;cases h;simp (maxDischargeDepth:=9) only [↓AB,AC,↓reduceIte,Nat.reduceEqDiff,Nat.reduceLT,Nat.reduceLeDiff,Nat.reduceAdd,m0,m1,m2,m3,m4,e1,e2.1,e2.2,e3.1,e3.2,c4,e5,Gw,Ef]
 ·rw [if_neg e1]at h;cases h;simp (maxDischargeDepth:=9) only [↓AB,AC,↓reduceIte,Nat.reduceEqDiff,Nat.reduceLT,m1,m3,m4,e1,Gw,LM,JK]
theorem YK(sets numbers:List Int){r:(List (List Int))}(h:Pn sets numbers=some r):Y.call 45 [D.sl 3 (A8 (D.int .i64) sets),D.sl 3 (A8 (D.int .i64) numbers)] []=some (D.own 27 (A8 (fun x=>D.own 3 (A8 (D.int .i64) x)) r),[]):=by
 refine c45 ?_ rfl;unfold k45;unfold Pn at h;obtain⟨AA,hl2,h⟩:=AO h;try dsimp only at h
 simp (maxDischargeDepth:=9) only [↓AB,AC,↓reduceIte,Nat.reduceEqDiff,Nat.reduceLT];refine AY (WO sets numbers hl2 ?_) ?_
 ·simp (maxDischargeDepth:=9) only [BG,Co,↓reduceIte,Nat.reduceEqDiff,Nat.reduceLT,Gw]<;>(repeat' apply A7)<;>first | rfl | exact⟨_,rfl⟩ | exact⟨_,_,rfl⟩ | simp [A8,AR]
 ·intro ex2 s2 hX2;unfold LM at hX2;obtain⟨rfl,n2_0⟩:=hX2;cases h;simp (maxDischargeDepth:=9) only [↓AB,AC,↓reduceIte,Nat.reduceEqDiff,Nat.reduceLT,n2_0]
noncomputable def Jg(l:List Int)(n_ k:Int):Option ((Int)⊕(Int)):= if k<(l.length:Int)then ck (0≤k∧k.toNat<l.length)<| if(l.getD k.toNat default)<n_ then some (Sum.inl (IntKind.i64.wrap (k+1))) else some (Sum.inr k) else some (Sum.inr k)
noncomputable def O3(l:List Int)(n_ v:Int):Option (Int):=GQ (fun v=>Jg l n_ v) v
noncomputable def Rs(l:List Int)(n_:Int):Option (((List Int))⊕((List Int))):= (O3 l n_ 0).bind fun AA=> if AA<(l.length:Int)then ck (0≤AA∧AA.toNat<l.length)<| if(l.getD AA.toNat default)=n_ then some (Sum.inl l) else ck (0≤AA)<| ck (AA.toNat≤l.length)<| ck (0+((l.take AA.toNat).drop 0).length<1099511627776)<| ck (((l.take AA.toNat).drop 0).length+1<1099511627776)<| ck ((((l.take AA.toNat).drop 0)++[n_]).length+((l.take l.length).drop AA.toNat).length<1099511627776)<| some (Sum.inr ((((l.take AA.toNat).drop 0)++[n_])++((l.take l.length).drop AA.toNat))) else ck (0≤AA)<| ck (AA.toNat≤l.length)<| ck (0+((l.take AA.toNat).drop 0).length<1099511627776)<| ck (((l.take AA.toNat).drop 0).length+1<1099511627776)<| ck ((((l.take AA.toNat).drop 0)++[n_]).length+((l.take l.length).drop AA.toNat).length<1099511627776)<| some (Sum.inr ((((l.take AA.toNat).drop 0)++[n_])++((l.take l.length).drop AA.toNat)))
def eG:SC:= .seq (.seq (.ops [oM 7 5 3,oM 8 0 27,oN 9 8 27,oB 10 .lss 3 (tK 7) (tK 9) 3 4,oM 11 10 4,⟨some 12,.move (tK 0),27,(some (some 11,true))⟩,⟨some 13,.move (tK 5),3,(some (some 11,true))⟩,⟨some 14,.indexAddr 27 (tK 12) (tK 13),0,(some (some 11,true))⟩,⟨some 15,.load 3 (tK 14),3,(some (some 11,true))⟩,⟨some 16,.move (tK 1),3,(some (some 11,true))⟩,⟨some 17,.binOp .lss 3 (tK 15) (tK 16) 3,4,(some (some 11,true))⟩,oX 18 (.pick (tK 11) (tK 17) (.const (.bool false))) 4]) (.cond (tK 18) .skip (.exit 0))) (.block 1 (.ops [oM 19 5 3,oB 20 .add 3 (tK 19) (iK 1) 3 3,oA 5 20 3]))
def y9:SC:= .loop eG
def k58:SC:= .seq (.ops [oX 4 (.assign (.const (.slice none 0 0))) 27]) (.seq (.ops [oX 5 (.assign (iK 0)) 3]) (.seq (.block 0 y9) (.seq (.seq (.ops [oM 21 5 3,oM 22 0 27,oN 23 22 27,oB 24 .lss 3 (tK 21) (tK 23) 3 4,oM 25 24 4,⟨some 26,.move (tK 0),27,(some (some 25,true))⟩,⟨some 27,.move (tK 5),3,(some (some 25,true))⟩,⟨some 28,.indexAddr 27 (tK 26) (tK 27),0,(some (some 25,true))⟩,⟨some 29,.load 3 (tK 28),3,(some (some 25,true))⟩,⟨some 30,.move (tK 1),3,(some (some 25,true))⟩,⟨some 31,.binOp .eql 3 (tK 29) (tK 30) 3,4,(some (some 25,true))⟩,oX 32 (.pick (tK 25) (tK 31) (.const (.bool false))) 4]) (.cond (tK 32) (.seq (.ops [oM 33 0 27,oA 4 33 27]) .ret) .skip)) (.seq (.ops [oX 34 (.buildSlice 27 0 #[]) 27,oM 35 0 27,oM 36 5 3,oX 37 (.slice 27 (tK 35) none (some (tK 36)) none) 27,oX 38 (.call ⟨(.builtin .append), #[(tK 34),(tK 37)], #[27,27]⟩) 27,oA 6 38 27]) (.seq (.ops [oM 39 6 27,oM 40 1 3,oX 41 (.buildSlice 27 1 #[(0,(tK 40))]) 27,oX 42 (.call ⟨(.builtin .append), #[(tK 39),(tK 41)], #[27,27]⟩) 27,oA 6 42 27]) (.seq (.ops [oM 43 6 27,oM 44 0 27,oM 45 5 3,oX 46 (.slice 27 (tK 44) (some (tK 45)) none none) 27,oX 47 (.call ⟨(.builtin .append), #[(tK 43),(tK 46)], #[27,27]⟩) 27,
 oA 4 47 27]) .ret))))))
theorem A5j:Tryz.f58.body.map (BP lends)=some k58:=by kernel_rfl
theorem AIL:Be Tryz.f58 2=true:=by kernel_rfl
theorem c58{a l:List D}{r:D×List D}(h:BZ Y.env k58 (Eh AX l.length [ResultVar.tmp 4] r) (entry a l))(ha:a.length=2):Y.call 58 a l=some r:=
 AJ (Y:=Y) rfl Tryz.func58 (ha▸AIL) A5j h
def I4(l:List Int)(n_ k:Int)(s:St):Prop:=s.v 0=D.sl 3 (A8 (D.int .i64) l)∧s.v 1=D.int .i64 n_∧s.v 5=D.int .i64 k
def LP(l:List Int)(n_ r:Int)(ex:Ex)(s:St):Prop:=ex= .exit 0∧s.v 0=D.sl 3 (A8 (D.int .i64) l)∧s.v 1=D.int .i64 n_∧s.v 5=D.int .i64 r
theorem ZP(l:List Int)(n_:Int){v:Int}{s:St}{r:Int}(h:O3 l n_ v=some r)(hM:I4 l n_ v s):BZ Y.env y9 (LP l n_ r) s:=by
 unfold O3 at h;refine Ao (c:=eG) (fun v=>Jg l n_ v) (fun v s=>I4 l n_ v s) (LP l n_) ?_ h hM;clear h hM s v r;intro k s o hM h;unfold Jg at h;unfold I4 at hM;obtain⟨m0,m1,m2⟩:=hM;unfold eG;by_cases e1:k<(l.length:Int)
 ·rw [if_pos e1]at h;obtain⟨e2,h⟩:=Ar h;by_cases e3:(l.getD k.toNat default)<n_
  ·rw [if_pos e3]at h;cases h;simp (maxDischargeDepth:=9) only [↓AB,AC,↓reduceIte,Nat.reduceEqDiff,Nat.reduceLT,m0,m1,m2,e1,e2.1,e2.2,e3,I4,Ef]
  ·rw [if_neg e3]at h;cases h;simp (maxDischargeDepth:=9) only [↓AB,AC,↓reduceIte,Nat.reduceEqDiff,Nat.reduceLT,m0,m1,m2,e1,e2.1,e2.2,e3,I4,LP,JK]
 ·rw [if_neg e1]at h;cases h;simp (maxDischargeDepth:=9) only [↓AB,AC,↓reduceIte,Nat.reduceEqDiff,Nat.reduceLT,m0,m1,m2,e1,I4,LP,JK]
theorem eH(l:List Int)(n_:Int){r:((List Int))⊕((List Int))}(h:Rs l n_=some r):Y.call 58 [D.sl 3 (A8 (D.int .i64) l),D.int .i64 n_] []=some (match (generalizing:=false) r with | .inl q=>(D.sl 3 (A8 (D.int .i64) q),[]) | .inr q=>(D.own 3 (A8 (D.int .i64) q),[])):=by
 refine c58 ?_ rfl;unfold k58;unfold Rs at h;obtain⟨AA,hl2,h⟩:=AO h;try dsimp only at h
 simp (maxDischargeDepth:=9) only [↓AB,AC,↓reduceIte,Nat.reduceEqDiff,Nat.reduceLT];refine AY (ZP l n_ hl2 ?_) ?_
 ·simp (maxDischargeDepth:=9) only [BG,Co,↓reduceIte,Nat.reduceEqDiff,Nat.reduceLT,I4]
 ·intro ex2 s2 hX2;unfold LP at hX2;obtain⟨rfl,n2_0,n2_1,n2_2⟩:=hX2;by_cases e3:AA<(l.length:Int)
  ·rw [if_pos e3]at h;obtain⟨e4,h⟩:=Ar h;by_cases e5:(l.getD AA.toNat default)=n_
   ·rw [if_pos e5]at h;cases h;simp (maxDischargeDepth:=9) only [↓AB,AC,↓reduceIte,Nat.reduceEqDiff,Nat.reduceLT,n2_0,n2_1,n2_2,e3,e4.1,e4.2,decide_eq_true e5]
   ·rw [if_neg e5]at h;obtain⟨e6,h⟩:=Ar h;obtain⟨e7,h⟩:=Ar h;obtain⟨e8,h⟩:=Ar h;obtain⟨e9,h⟩:=Ar h;obtain⟨e10,h⟩:=Ar h;cases h;simp (maxDischargeDepth:=9) only [↓AB,AC,↓reduceIte,Nat.reduceEqDiff,Nat.reduceLT,Nat.reduceLeDiff,Nat.reduceAdd,n2_0,n2_1,n2_2,e3,e4.1,e4.2,e5,e7,e8,e9,e10]
  ·rw [if_neg e3]at h;obtain⟨e4,h⟩:=Ar h;obtain⟨e5,h⟩:=Ar h;obtain⟨e6,h⟩:=Ar h;obtain⟨e7,h⟩:=Ar h;obtain⟨e8,h⟩:=Ar h;cases h;simp (maxDischargeDepth:=9) only [↓AB,AC,↓reduceIte,Nat.reduceEqDiff,Nat.reduceLT,Nat.reduceLeDiff,Nat.reduceAdd,n2_0,n2_1,n2_2,e3,e4,e5,e6,e7,e8]
noncomputable def F3(sets x_:List Int)(Bq:Int)(out1:List Int)(WP:Int):Option (((List Int)×Int)⊕((List Int))):= if WP<(sets.length:Int)then ck (0≤WP∧WP.toNat<sets.length)<| if(x_.getD Bq.toNat default)=(sets.getD WP.toNat default)then ck (out1.length+1<1099511627776)<| some (Sum.inl ((out1++[WP]),IntKind.i64.wrap (WP+1))) else some (Sum.inl (out1,IntKind.i64.wrap (WP+1))) else some (Sum.inr out1)
noncomputable def JE(sets x_:List Int)(Bq:Int)(v:(List Int)×Int):Option ((List Int)):=GQ (fun v=>F3 sets x_ Bq v.1 v.2) v
noncomputable def F4(sets x_ out:List Int)(Bq:Int):Option (((List Int)×Int)⊕((List Int))):= if Bq<(x_.length:Int)then ck (0≤Bq∧Bq.toNat<x_.length)<| (JE sets x_ Bq (out,0)).bind fun AA=> some (Sum.inl (AA,IntKind.i64.wrap (Bq+1))) else some (Sum.inr out)
noncomputable def LQ(sets x_:List Int)(v:(List Int)×Int):Option ((List Int)):=GQ (fun v=>F4 sets x_ v.1 v.2) v
noncomputable def Ml(sets x_:List Int):Option ((List Int)):= (LQ sets x_ ([],0)).bind fun Ah=> ck (Ah.length<1099511627776)<| some (Bn Ah)
def eO:SC:= .seq (.ops [oB 19 .lss 3 (tK 18) (tK 17) 3 0]) (.seq (.cond (tK 19) .skip (.exit 2)) (.seq (.block 3 (.seq (.ops [oM 20 18 3,oI 21 27 16 18,oL 22 3 21 3,oA 8 20 3,oA 9 22 3]) (.seq (.ops [oM 23 7 3,oM 24 9 3,oB 25 .eql 3 (tK 23) (tK 24) 3 4]) (.cond (tK 25) (.ops [oM 26 5 27,oM 27 8 3,oX 28 (.buildSlice 27 1 #[(0,(tK 27))]) 27,oX 29 (.call ⟨(.builtin .append), #[(tK 26),(tK 28)], #[27,27]⟩) 27,oA 5 29 27]) .skip)))) (.ops [oB 30 .add 3 (tK 18) (iK 1) 3 3,oM 18 30 3])))
def yA:SC:= .loop eO
def eP:SC:= .seq (.ops [oB 13 .lss 3 (tK 12) (tK 11) 3 0]) (.seq (.cond (tK 13) .skip (.exit 0)) (.seq (.block 1 (.seq (.ops [oI 14 27 10 12,oL 15 3 14 3,oA 7 15 3]) (.seq (.ops [oM 16 0 27,oN 17 16 27,oX 18 (.move (iK 0)) 3]) (.block 2 yA)))) (.ops [oB 31 .add 3 (tK 12) (iK 1) 3 3,oM 12 31 3])))
def yB:SC:= .loop eP
def k60:SC:= .seq (.ops [oX 4 (.assign (.const (.slice none 0 0))) 27]) (.seq (.ops [oX 5 (.assign (.const (.slice none 0 0))) 27]) (.seq (.seq (.ops [oM 10 1 27,oN 11 10 27,oX 12 (.move (iK 0)) 3]) (.block 0 yB)) (.seq (.ops [oM 32 5 27,oC 33 90 [(tK 32)] [27] 27,oA 4 33 27]) .ret)))
theorem A5k:Tryz.f60.body.map (BP lends)=some k60:=by kernel_rfl
theorem AIN:Be Tryz.f60 2=true:=by kernel_rfl
theorem c60{a l:List D}{r:D×List D}(h:BZ Y.env k60 (Eh AX l.length [ResultVar.tmp 4] r) (entry a l))(ha:a.length=2):Y.call 60 a l=some r:=
 AJ (Y:=Y) rfl Tryz.func60 (ha▸AIN) A5k h
def E5(sets x_:List Int)(Bq:Int)(out1:List Int)(WP:Int)(s:St):Prop:=s.v 0=D.sl 3 (A8 (D.int .i64) sets)∧s.v 5=D.own 3 (A8 (D.int .i64) out1)∧s.v 7=D.int .i64 (x_.getD Bq.toNat default)∧s.v 10=D.sl 3 (A8 (D.int .i64) x_)∧s.v 11=D.int .i64 (x_.length:Int)∧s.v 12=D.int .i64 Bq∧s.v 16=D.sl 3 (A8 (D.int .i64) sets)∧s.v 17=D.int .i64 (sets.length:Int)∧s.v 18=D.int .i64 WP
def Jh(sets x_:List Int)(Bq:Int)(r:(List Int))(ex:Ex)(s:St):Prop:=ex= .exit 2∧s.v 0=D.sl 3 (A8 (D.int .i64) sets)∧s.v 5=D.own 3 (A8 (D.int .i64) r)∧s.v 10=D.sl 3 (A8 (D.int .i64) x_)∧s.v 11=D.int .i64 (x_.length:Int)∧s.v 12=D.int .i64 Bq
theorem UU(sets x_:List Int)(Bq:Int){v:(List Int)×Int}{s:St}{r:(List Int)}(h:JE sets x_ Bq v=some r)(hM:E5 sets x_ Bq v.1 v.2 s):BZ Y.env yA (Jh sets x_ Bq r) s:=by
 unfold JE at h;refine Ao (c:=eO) (fun v=>F3 sets x_ Bq v.1 v.2) (fun v s=>E5 sets x_ Bq v.1 v.2 s) (Jh sets x_ Bq) ?_ h hM;clear h hM s v r;intro v s o hM h;obtain⟨out1,WP⟩:=v;dsimp only at h hM;unfold F3 at h;unfold E5 at hM;obtain⟨m0,m1,m2,m3,m4,m5,m6,m7,m8⟩:=hM;unfold eO;by_cases e3:WP<(sets.length:Int)
 ·rw [if_pos e3]at h;obtain⟨e4,h⟩:=Ar h;by_cases e5:(x_.getD Bq.toNat default)=(sets.getD WP.toNat default)
  ·rw [if_pos e5]at h;obtain⟨e6,h⟩:=Ar h;cases h;simp (maxDischargeDepth:=9) only [↓AB,AC,↓reduceIte,Nat.reduceEqDiff,Nat.reduceLT,Nat.reduceLeDiff,Nat.reduceAdd,m0,m1,m2,m3,m4,m5,m6,m7,m8,e3,e4.1,e4.2,decide_eq_true e5,e6,E5,Ef]
  ·rw [if_neg e5]at h;cases h;simp (maxDischargeDepth:=9) only [↓AB,AC,↓reduceIte,Nat.reduceEqDiff,Nat.reduceLT,m0,m1,m2,m3,m4,m5,m6,m7,m8,e3,e4.1,e4.2,e5,E5,Ef]
 ·rw [if_neg e3]at h;cases h;simp (maxDischargeDepth:=9) only [↓AB,AC,↓reduceIte,Nat.reduceEqDiff,Nat.reduceLT,m0,m1,m3,m4,m5,m7,m8,e3,E5,Jh,JK]
def F5(sets x_ out:List Int)(Bq:Int)(s:St):Prop:=s.v 0=D.sl 3 (A8 (D.int .i64) sets)∧s.v 5=D.own 3 (A8 (D.int .i64) out)∧s.v 10=D.sl 3 (A8 (D.int .i64) x_)∧s.v 11=D.int .i64 (x_.length:Int)∧s.v 12=D.int .i64 Bq
def Ji(sets x_:List Int)(r:(List Int))(ex:Ex)(s:St):Prop:=ex= .exit 0∧s.v 5=D.own 3 (A8 (D.int .i64) r)
theorem UV(sets x_:List Int){v:(List Int)×Int}{s:St}{r:(List Int)}(h:LQ sets x_ v=some r)(hM:F5 sets x_ v.1 v.2 s):BZ Y.env yB (Ji sets x_ r) s:=by
 unfold LQ at h;refine Ao (c:=eP) (fun v=>F4 sets x_ v.1 v.2) (fun v s=>F5 sets x_ v.1 v.2 s) (Ji sets x_) ?_ h hM;clear h hM s v r;intro v s o hM h;obtain⟨out,Bq⟩:=v;dsimp only at h hM;unfold F4 at h;unfold F5 at hM;obtain⟨m0,m1,m2,m3,m4⟩:=hM;unfold eP;by_cases e1:Bq<(x_.length:Int)
 ·rw [if_pos e1]at h;obtain⟨e2,h⟩:=Ar h;obtain⟨AA,hl4,h⟩:=AO h;try dsimp only at h
  simp (maxDischargeDepth:=9) only [↓AB,AC,↓reduceIte,Nat.reduceEqDiff,Nat.reduceLT,m0,m2,m3,m4,e1,e2.1,e2.2];refine AY (UU sets x_ Bq hl4 ?_) ?_
  ·simp (maxDischargeDepth:=9) only [BG,↓reduceIte,Nat.reduceEqDiff,m0,m1,m2,m3,m4,E5]
  ·intro ex4 s4 hX4;unfold Jh at hX4;obtain⟨rfl,n4_0,n4_1,n4_2,n4_3,n4_4⟩:=hX4;cases h;simp (maxDischargeDepth:=9) only [↓AB,AC,↓reduceIte,Nat.reduceEqDiff,Nat.reduceLT,n4_0,n4_1,n4_2,n4_3,n4_4,F5,Ef]
 ·rw [if_neg e1]at h;cases h;simp (maxDischargeDepth:=9) only [↓AB,AC,↓reduceIte,Nat.reduceEqDiff,Nat.reduceLT,m1,m3,m4,e1,F5,Ji,JK]
theorem VJ(sets x_:List Int){r:(List Int)}(h:Ml sets x_=some r):Y.call 60 [D.sl 3 (A8 (D.int .i64) sets),D.sl 3 (A8 (D.int .i64) x_)] []=some (D.own 3 (A8 (D.int .i64) r),[]):=by
 refine c60 ?_ rfl;unfold k60;unfold Ml at h;obtain⟨Ah,hl2,h⟩:=AO h;try dsimp only at h
 simp (maxDischargeDepth:=9) only [↓AB,AC,↓reduceIte,Nat.reduceEqDiff,Nat.reduceLT];refine AY (UV sets x_ hl2 ?_) ?_
 ·simp (maxDischargeDepth:=9) only [BG,Co,↓reduceIte,Nat.reduceEqDiff,Nat.reduceLT,F5]<;>(repeat' apply A7)<;>first | rfl | exact⟨_,rfl⟩ | exact⟨_,_,rfl⟩ | simp [A8,AR]
 ·intro ex2 s2 hX2;unfold Ji at hX2;obtain⟨rfl,n2_0⟩:=hX2;obtain⟨e3,h⟩:=Ar h;have c4:=nP Ah e3;cases h;simp (maxDischargeDepth:=9) only [↓AB,AC,↓reduceIte,Nat.reduceEqDiff,Nat.reduceLT,Nat.reduceAdd,n2_0,c4]
noncomputable def EZ(l:List (List Int))(x_:List Int)(k:Int):Option ((Int)⊕(Int)):= if k<(l.length:Int)then ck (0≤k∧k.toNat<l.length)<| ck ((l.getD k.toNat default).length<1099511627776)<| ck ((l.getD k.toNat default).length=x_.length)<| ck (Hw (l.getD k.toNat default)=true)<| ck (Hw x_=true)<| if(cmpL (l.getD k.toNat default) x_)<0 then some (Sum.inl (IntKind.i64.wrap (k+1))) else some (Sum.inr k) else some (Sum.inr k)
noncomputable def MK(l:List (List Int))(x_:List Int)(v:Int):Option (Int):=GQ (fun v=>EZ l x_ v) v
noncomputable def M0(l:List (List Int))(x_:List Int):Option (((List (List Int)))⊕((List (List Int)))):= (MK l x_ 0).bind fun AA=> if AA<(l.length:Int)then ck (0≤AA∧AA.toNat<l.length)<| (Ph (l.getD AA.toNat default) x_).bind fun Ou=> if Ou=true then some (Sum.inl l) else ck (0≤AA)<| ck (AA.toNat≤l.length)<| ck (0+((l.take AA.toNat).drop 0).length<1099511627776)<| ck (((l.take AA.toNat).drop 0).length+1<1099511627776)<| ck ((((l.take AA.toNat).drop 0)++[x_]).length+((l.take l.length).drop AA.toNat).length<1099511627776)<| some (Sum.inr ((((l.take AA.toNat).drop 0)++[x_])++((l.take l.length).drop AA.toNat))) else ck (0≤AA)<| ck (AA.toNat≤l.length)<| ck (0+((l.take AA.toNat).drop 0).length<1099511627776)<| ck (((l.take AA.toNat).drop 0).length+1<1099511627776)<| ck ((((l.take AA.toNat).drop 0)++[x_]).length+((l.take l.length).drop AA.toNat).length<1099511627776)<| some (Sum.inr ((((l.take AA.toNat).drop 0)++[x_])++((l.take l.length).drop AA.toNat)))
def eQ:SC:= .seq (.seq (.ops [oM 7 5 3,oM 8 0 22,oN 9 8 22,oB 10 .lss 3 (tK 7) (tK 9) 3 4,oM 11 10 4,⟨some 12,.move (tK 0),22,(some (some 11,true))⟩,⟨some 13,.move (tK 5),3,(some (some 11,true))⟩,⟨some 14,.indexAddr 22 (tK 12) (tK 13),0,(some (some 11,true))⟩,⟨some 15,.load 27 (tK 14),27,(some (some 11,true))⟩,⟨some 16,.move (tK 1),27,(some (some 11,true))⟩,⟨some 17,.call ⟨(.value (.func 55)), #[(tK 15),(tK 16)], #[27,27]⟩,3,(some (some 11,true))⟩,⟨some 18,.binOp .lss 3 (tK 17) (iK 0) 3,4,(some (some 11,true))⟩,oX 19 (.pick (tK 11) (tK 18) (.const (.bool false))) 4]) (.cond (tK 19) .skip (.exit 0))) (.block 1 (.ops [oM 20 5 3,oB 21 .add 3 (tK 20) (iK 1) 3 3,oA 5 21 3]))
def yC:SC:= .loop eQ
def k59:SC:= .seq (.ops [oX 4 (.assign (.const (.slice none 0 0))) 22]) (.seq (.ops [oX 5 (.assign (iK 0)) 3]) (.seq (.block 0 yC) (.seq (.seq (.ops [oM 22 5 3,oM 23 0 22,oN 24 23 22,oB 25 .lss 3 (tK 22) (tK 24) 3 4,oM 26 25 4,⟨some 27,.move (tK 0),22,(some (some 26,true))⟩,⟨some 28,.move (tK 5),3,(some (some 26,true))⟩,⟨some 29,.indexAddr 22 (tK 27) (tK 28),0,(some (some 26,true))⟩,⟨some 30,.load 27 (tK 29),27,(some (some 26,true))⟩,⟨some 31,.move (tK 1),27,(some (some 26,true))⟩,⟨some 32,.call ⟨(.value (.func 89)), #[(tK 30),(tK 31)], #[27,27]⟩,4,(some (some 26,true))⟩,oX 33 (.pick (tK 26) (tK 32) (.const (.bool false))) 4]) (.cond (tK 33) (.seq (.ops [oM 34 0 22,oA 4 34 22]) .ret) .skip)) (.seq (.ops [oX 35 (.buildSlice 22 0 #[]) 22,oM 36 0 22,oM 37 5 3,oX 38 (.slice 22 (tK 36) none (some (tK 37)) none) 22,oX 39 (.call ⟨(.builtin .append), #[(tK 35),(tK 38)], #[22,22]⟩) 22,oA 6 39 22]) (.seq (.ops [oM 40 6 22,oM 41 1 27,oX 42 (.buildSlice 22 1 #[(0,(tK 41))]) 22,oX 43 (.call ⟨(.builtin .append), #[(tK 40),(tK 42)], #[22,22]⟩) 22,oA 6 43 22]) (.seq (.ops [oM 44 6 22,oM 45 0 22,oM 46 5 3,oX 47 (.slice 22 (tK 45) (some (tK 46)) none none) 22,oX 48 (.call ⟨(.builtin .append), #[(tK 44),(tK 47)], #[22,22]⟩) 22,
 oA 4 48 22]) .ret))))))
theorem A5l:Tryz.f59.body.map (BP lends)=some k59:=by kernel_rfl
theorem AIP:Be Tryz.f59 2=true:=by kernel_rfl
theorem c59{a l:List D}{r:D×List D}(h:BZ Y.env k59 (Eh AX l.length [ResultVar.tmp 4] r) (entry a l))(ha:a.length=2):Y.call 59 a l=some r:=
 AJ (Y:=Y) rfl Tryz.func59 (ha▸AIP) A5l h
def Ea(l:List (List Int))(x_:List Int)(k:Int)(s:St):Prop:=s.v 0=D.sl 27 (A8 (fun x=>D.sl 3 (A8 (D.int .i64) x)) l)∧s.v 1=D.sl 3 (A8 (D.int .i64) x_)∧s.v 5=D.int .i64 k
def IJ(l:List (List Int))(x_:List Int)(r:Int)(ex:Ex)(s:St):Prop:=ex= .exit 0∧s.v 0=D.sl 27 (A8 (fun x=>D.sl 3 (A8 (D.int .i64) x)) l)∧s.v 1=D.sl 3 (A8 (D.int .i64) x_)∧s.v 5=D.int .i64 r
theorem VK(l:List (List Int))(x_:List Int){v:Int}{s:St}{r:Int}(h:MK l x_ v=some r)(hM:Ea l x_ v s):BZ Y.env yC (IJ l x_ r) s:=by
 unfold MK at h;refine Ao (c:=eQ) (fun v=>EZ l x_ v) (fun v s=>Ea l x_ v s) (IJ l x_) ?_ h hM;clear h hM s v r;intro k s o hM h;unfold EZ at h;unfold Ea at hM;obtain⟨m0,m1,m2⟩:=hM;unfold eQ;by_cases e1:k<(l.length:Int)
 ·rw [if_pos e1]at h;obtain⟨e2,h⟩:=Ar h;obtain⟨e3,h⟩:=Ar h;obtain⟨e4,h⟩:=Ar h;obtain⟨e5,h⟩:=Ar h;obtain⟨e6,h⟩:=Ar h;have c7:=UI (l.getD k.toNat default) x_ e3 e4 e5 e6;by_cases e8:(cmpL (l.getD k.toNat default) x_)<0
  ·rw [if_pos e8]at h;cases h;simp (maxDischargeDepth:=9) only [↓AB,AC,↓reduceIte,Nat.reduceEqDiff,Nat.reduceLT,Nat.reduceAdd,m0,m1,m2,e1,e2.1,e2.2,c7,e8,Ea,Ef]
  ·rw [if_neg e8]at h;cases h;simp (maxDischargeDepth:=9) only [↓AB,AC,↓reduceIte,Nat.reduceEqDiff,Nat.reduceLT,Nat.reduceAdd,m0,m1,m2,e1,e2.1,e2.2,c7,e8,Ea,IJ,JK]
 ·rw [if_neg e1]at h;cases h;simp (maxDischargeDepth:=9) only [↓AB,AC,↓reduceIte,Nat.reduceEqDiff,Nat.reduceLT,m0,m1,m2,e1,Ea,IJ,JK]
theorem WQ(l:List (List Int))(x_:List Int){r:((List (List Int)))⊕((List (List Int)))}(h:M0 l x_=some r):Y.call 59 [D.sl 27 (A8 (fun x=>D.sl 3 (A8 (D.int .i64) x)) l),D.sl 3 (A8 (D.int .i64) x_)] []=some (match (generalizing:=false) r with | .inl q=>(D.sl 27 (A8 (fun x=>D.sl 3 (A8 (D.int .i64) x)) q),[]) | .inr q=>(D.own 27 (A8 (fun x=>D.sl 3 (A8 (D.int .i64) x)) q),[])):=by
 refine c59 ?_ rfl;unfold k59;unfold M0 at h;obtain⟨AA,hl2,h⟩:=AO h;try dsimp only at h
 simp (maxDischargeDepth:=9) only [↓AB,AC,↓reduceIte,Nat.reduceEqDiff,Nat.reduceLT];refine AY (VK l x_ hl2 ?_) ?_
 ·simp (maxDischargeDepth:=9) only [BG,Co,↓reduceIte,Nat.reduceEqDiff,Nat.reduceLT,Ea]
 ·intro ex2 s2 hX2;unfold IJ at hX2;obtain⟨rfl,n2_0,n2_1,n2_2⟩:=hX2;by_cases e3:AA<(l.length:Int)
  ·rw [if_pos e3]at h;obtain⟨e4,h⟩:=Ar h;obtain⟨Ou,hl5,h⟩:=AO h;try dsimp only at h
   have c5:=SX (l.getD AA.toNat default) x_ hl5;by_cases e6:Ou=true
   ·rw [if_pos e6]at h;cases h;simp (maxDischargeDepth:=9) only [↓AB,AC,↓reduceIte,Nat.reduceEqDiff,Nat.reduceLT,Nat.reduceAdd,n2_0,n2_1,n2_2,e3,e4.1,e4.2,c5,e6]
   ·rw [if_neg e6]at h;have e6f:Ou=false:=J2.mpr e6;obtain⟨e7,h⟩:=Ar h;obtain⟨e8,h⟩:=Ar h;obtain⟨e9,h⟩:=Ar h;obtain⟨e10,h⟩:=Ar h;obtain⟨e11,h⟩:=Ar h;cases h;simp (maxDischargeDepth:=9) only [↓AB,AC,↓reduceIte,Nat.reduceEqDiff,Nat.reduceLT,Nat.reduceLeDiff,Nat.reduceAdd,n2_0,n2_1,n2_2,e3,e4.1,e4.2,c5,e6f,e8,e9,e10,e11]
  ·rw [if_neg e3]at h;obtain⟨e4,h⟩:=Ar h;obtain⟨e5,h⟩:=Ar h;obtain⟨e6,h⟩:=Ar h;obtain⟨e7,h⟩:=Ar h;obtain⟨e8,h⟩:=Ar h;cases h;simp (maxDischargeDepth:=9) only [↓AB,AC,↓reduceIte,Nat.reduceEqDiff,Nat.reduceLT,Nat.reduceLeDiff,Nat.reduceAdd,n2_0,n2_1,n2_2,e3,e4,e5,e6,e7,e8]
noncomputable def F6(labels size:Int)(out:List (List Int))(k D9:Int)(next1:List (List Int))(a:Int):Option (((List (List Int))×Int)⊕((List (List Int)))):= if a<labels then (LH (out.getD D9.toNat default)).bind fun A5m=> ck (A5m.length+1<1099511627776)<| ck (next1.length+1<1099511627776)<| some (Sum.inl ((next1++[(A5m++[a])]),IntKind.i64.wrap (a+1))) else some (Sum.inr next1)
noncomputable def Gx(labels size:Int)(out:List (List Int))(k D9:Int)(v:(List (List Int))×Int):Option ((List (List Int))):=GQ (fun v=>F6 labels size out k D9 v.1 v.2) v
noncomputable def F7(labels size:Int)(out:List (List Int))(k:Int)(next:List (List Int))(D9:Int):Option (((List (List Int))×Int)⊕((List (List Int)))):= if D9<(out.length:Int)then ck (0≤D9∧D9.toNat<out.length)<| if 0<k then ck (0≤IntKind.i64.wrap (k-1)∧(IntKind.i64.wrap (k-1)).toNat<(out.getD D9.toNat default).length)<| (Gx labels size out k D9 (next,((out.getD D9.toNat default).getD ((IntKind.i64.wrap (k-1)).toNat) default))).bind fun AA=> some (Sum.inl (AA,IntKind.i64.wrap (D9+1))) else (Gx labels size out k D9 (next,0)).bind fun AA=> some (Sum.inl (AA,IntKind.i64.wrap (D9+1))) else some (Sum.inr next)
noncomputable def JF(labels size:Int)(out:List (List Int))(k:Int)(v:(List (List Int))×Int):Option ((List (List Int))):=GQ (fun v=>F7 labels size out k v.1 v.2) v
noncomputable def F8(labels size:Int)(out:List (List Int))(k:Int):Option (((List (List Int))×Int)⊕((List (List Int)))):= if k<size then (JF labels size out k ([],0)).bind fun Ah=> some (Sum.inl (Ah,IntKind.i64.wrap (k+1))) else some (Sum.inr out)
noncomputable def LU(labels size:Int)(v:(List (List Int))×Int):Option ((List (List Int))):=GQ (fun v=>F8 labels size v.1 v.2) v
noncomputable def Hf(labels size:Int):Option ((List (List Int))):= (LU labels size ([[]],0)).bind fun Ke=> some Ke
def eT:SC:= .seq (.seq (.ops [oM 32 11 3,oM 33 0 3,oB 34 .lss 3 (tK 32) (tK 33) 3 4]) (.cond (tK 34) .skip (.exit 4))) (.seq (.block 5 (.ops [oM 37 7 22,oM 38 9 27,oC 39 79 [(tK 38)] [27] 27,oM 40 11 3,oX 41 (.buildSlice 27 1 #[(0,(tK 40))]) 27,oX 42 (.call ⟨(.builtin .append), #[(tK 39),(tK 41)], #[27,27]⟩) 27,oX 43 (.buildSlice 22 1 #[(0,(tK 42))]) 900004,oX 44 (.call ⟨(.builtin .append), #[(tK 37),(tK 43)], #[22,22]⟩) 22,oA 7 44 22])) (.ops [oM 35 11 3,oB 36 .add 3 (tK 35) (iK 1) 3 3,oA 11 36 3]))
def yD:SC:= .loop eT
def eU:SC:= .seq (.ops [oB 21 .lss 3 (tK 20) (tK 19) 3 0]) (.seq (.cond (tK 21) .skip (.exit 2)) (.seq (.block 3 (.seq (.ops [oI 22 22 18 20,oL 23 27 22 27,oA 9 23 27]) (.seq (.ops [oX 10 (.assign (iK 0)) 3]) (.seq (.seq (.ops [oM 24 6 3,oB 25 .gtr 3 (tK 24) (iK 0) 3 4]) (.cond (tK 25) (.ops [oM 26 9 27,oM 27 6 3,oB 28 .sub 3 (tK 27) (iK 1) 3 3,oI 29 27 26 28,oL 30 3 29 3,oA 10 30 3]) .skip)) (.seq (.ops [oM 31 10 3,oA 11 31 3]) (.block 4 yD)))))) (.ops [oB 45 .add 3 (tK 20) (iK 1) 3 3,oM 20 45 3])))
def yE:SC:= .loop eU
def eX:SC:= .seq (.seq (.ops [oM 13 6 3,oM 14 1 3,oB 15 .lss 3 (tK 13) (tK 14) 3 4]) (.cond (tK 15) .skip (.exit 0))) (.seq (.block 1 (.seq (.ops [oX 7 (.assign (.const (.slice none 0 0))) 22]) (.seq (.seq (.ops [oM 18 5 22,oN 19 18 22,oX 20 (.move (iK 0)) 3]) (.block 2 yE)) (.ops [oM 46 7 22,oA 5 46 22])))) (.ops [oM 16 6 3,oB 17 .add 3 (tK 16) (iK 1) 3 3,oA 6 17 3]))
def yF:SC:= .loop eX
def k47:SC:= .seq (.ops [oX 4 (.assign (.const (.slice none 0 0))) 22]) (.seq (.ops [oX 12 (.buildSlice 22 1 #[(0,(.const (.slice none 0 0)))]) 900004,oA 5 12 22]) (.seq (.seq (.ops [oX 6 (.assign (iK 0)) 3]) (.block 0 yF)) (.seq (.ops [oM 47 5 22,oA 4 47 22]) .ret)))
theorem A5n:Tryz.f47.body.map (BP lends)=some k47:=by kernel_rfl
theorem AIR:Be Tryz.f47 2=true:=by kernel_rfl
theorem c47{a l:List D}{r:D×List D}(h:BZ Y.env k47 (Eh AX l.length [ResultVar.tmp 4] r) (entry a l))(ha:a.length=2):Y.call 47 a l=some r:=
 AJ (Y:=Y) rfl Tryz.func47 (ha▸AIR) A5n h
def E8(labels size:Int)(out:List (List Int))(k D9:Int)(next1:List (List Int))(a:Int)(s:St):Prop:=s.v 0=D.int .i64 labels∧s.v 1=D.int .i64 size∧s.v 5=D.own 27 (A8 (fun x=>D.sl 3 (A8 (D.int .i64) x)) out)∧s.v 6=D.int .i64 k∧s.v 7=D.own 27 (A8 (fun x=>D.sl 3 (A8 (D.int .i64) x)) next1)∧s.v 9=D.sl 3 (A8 (D.int .i64) (out.getD D9.toNat default))∧s.v 11=D.int .i64 a∧(∃w_,s.v 18=D.vw [5] (s.k 5) w_)∧s.v 19=D.int .i64 (out.length:Int)∧s.v 20=D.int .i64 D9
def Gy(labels size:Int)(out:List (List Int))(k D9:Int)(r:(List (List Int)))(ex:Ex)(s:St):Prop:=ex= .exit 4∧s.v 0=D.int .i64 labels∧s.v 1=D.int .i64 size∧s.v 5=D.own 27 (A8 (fun x=>D.sl 3 (A8 (D.int .i64) x)) out)∧s.v 6=D.int .i64 k∧s.v 7=D.own 27 (A8 (fun x=>D.sl 3 (A8 (D.int .i64) x)) r)∧(∃w_,s.v 18=D.vw [5] (s.k 5) w_)∧s.v 19=D.int .i64 (out.length:Int)∧s.v 20=D.int .i64 D9
theorem Od(labels size:Int)(out:List (List Int))(k D9:Int){v:(List (List Int))×Int}{s:St}{r:(List (List Int))}(h:Gx labels size out k D9 v=some r)(hM:E8 labels size out k D9 v.1 v.2 s):BZ Y.env yD (Gy labels size out k D9 r) s:=by
 unfold Gx at h;refine Ao (c:=eT) (fun v=>F6 labels size out k D9 v.1 v.2) (fun v s=>E8 labels size out k D9 v.1 v.2 s) (Gy labels size out k D9) ?_ h hM;clear h hM s v r;intro v s o hM h;obtain⟨next1,a⟩:=v;dsimp only at h hM;unfold F6 at h;unfold E8 at hM;obtain⟨m0,m1,m2,m3,m4,m5,m6,⟨w7_,m7⟩,m8,m9⟩:=hM;unfold eT;by_cases e6:a<labels
 ·rw [if_pos e6]at h;obtain⟨A5m,hl7,h⟩:=AO h;try dsimp only at h
  have c7:=NJ (out.getD D9.toNat default) hl7;obtain⟨e8,h⟩:=Ar h;obtain⟨e9,h⟩:=Ar h;cases h;simp (maxDischargeDepth:=9) only [↓AB,AC,↓reduceIte,Nat.reduceEqDiff,Nat.reduceLT,Nat.reduceLeDiff,Nat.reduceAdd,m0,m1,m2,m3,m4,m5,m6,m7,m8,m9,e6,c7,e8,e9,E8,Ef]<;>(repeat' apply A7)<;>first | rfl | exact⟨_,rfl⟩ | exact⟨_,_,rfl⟩ | simp [A8,AR]
 ·rw [if_neg e6]at h;cases h;simp (maxDischargeDepth:=9) only [↓AB,AC,↓reduceIte,Nat.reduceEqDiff,Nat.reduceLT,m0,m1,m2,m3,m4,m6,m7,m8,m9,e6,E8,Gy,JK]<;>(repeat' apply A7)<;>first | rfl | exact⟨_,rfl⟩ | exact⟨_,_,rfl⟩ | simp [A8,AR]
def E9(labels size:Int)(out:List (List Int))(k:Int)(next:List (List Int))(D9:Int)(s:St):Prop:=s.v 0=D.int .i64 labels∧s.v 1=D.int .i64 size∧s.v 5=D.own 27 (A8 (fun x=>D.sl 3 (A8 (D.int .i64) x)) out)∧s.v 6=D.int .i64 k∧s.v 7=D.own 27 (A8 (fun x=>D.sl 3 (A8 (D.int .i64) x)) next)∧(∃w_,s.v 18=D.vw [5] (s.k 5) w_)∧s.v 19=D.int .i64 (out.length:Int)∧s.v 20=D.int .i64 D9
def Jj(labels size:Int)(out:List (List Int))(k:Int)(r:(List (List Int)))(ex:Ex)(s:St):Prop:=ex= .exit 2∧s.v 0=D.int .i64 labels∧s.v 1=D.int .i64 size∧s.v 6=D.int .i64 k∧s.v 7=D.own 27 (A8 (fun x=>D.sl 3 (A8 (D.int .i64) x)) r)
theorem UW(labels size:Int)(out:List (List Int))(k:Int){v:(List (List Int))×Int}{s:St}{r:(List (List Int))}(h:JF labels size out k v=some r)(hM:E9 labels size out k v.1 v.2 s):BZ Y.env yE (Jj labels size out k r) s:=by
 unfold JF at h;refine Ao (c:=eU) (fun v=>F7 labels size out k v.1 v.2) (fun v s=>E9 labels size out k v.1 v.2 s) (Jj labels size out k) ?_ h hM;clear h hM s v r;intro v s o hM h;obtain⟨next,D9⟩:=v;dsimp only at h hM;unfold F7 at h;unfold E9 at hM;obtain⟨m0,m1,m2,m3,m4,⟨w5_,m5⟩,m6,m7⟩:=hM;unfold eU;by_cases e2:D9<(out.length:Int)
 ·rw [if_pos e2]at h;obtain⟨e3,h⟩:=Ar h;by_cases e4:0<k
  ·rw [if_pos e4]at h;obtain⟨e5,h⟩:=Ar h;obtain⟨AA,hl7,h⟩:=AO h;try dsimp only at h
   simp (maxDischargeDepth:=9) only [↓AB,AC,↓reduceIte,Nat.reduceEqDiff,Nat.reduceLT,m2,m3,m5,m6,m7,e2,e3.1,e3.2,e4,e5.1,e5.2];refine AY (Od labels size out k D9 hl7 ?_) ?_
   ·simp (maxDischargeDepth:=9) only [BG,↓reduceIte,Nat.reduceEqDiff,m0,m1,m2,m3,m4,m5,m6,m7,E8]<;>(repeat' apply A7)<;>first | rfl | exact⟨_,rfl⟩ | exact⟨_,_,rfl⟩ | simp [A8,AR]
   ·intro ex7 s7 hX7;unfold Gy at hX7;obtain⟨rfl,n7_0,n7_1,n7_2,n7_3,n7_4,⟨w5_,n7_5⟩,n7_6,n7_7⟩:=hX7;cases h;simp (maxDischargeDepth:=9) only [↓AB,AC,↓reduceIte,Nat.reduceEqDiff,Nat.reduceLT,n7_0,n7_1,n7_2,n7_3,n7_4,n7_5,n7_6,n7_7,E9,Ef]<;>(repeat' apply A7)<;>first | rfl | exact⟨_,rfl⟩ | exact⟨_,_,rfl⟩ | simp [A8,AR]
  ·rw [if_neg e4]at h;obtain⟨AA,hl6,h⟩:=AO h;try dsimp only at h
   simp (maxDischargeDepth:=9) only [↓AB,AC,↓reduceIte,Nat.reduceEqDiff,Nat.reduceLT,m2,m3,m5,m6,m7,e2,e3.1,e3.2,e4];refine AY (Od labels size out k D9 hl6 ?_) ?_
   ·simp (maxDischargeDepth:=9) only [BG,↓reduceIte,Nat.reduceEqDiff,m0,m1,m2,m3,m4,m5,m6,m7,E8]<;>(repeat' apply A7)<;>first | rfl | exact⟨_,rfl⟩ | exact⟨_,_,rfl⟩ | simp [A8,AR]
   ·intro ex6 s6 hX6;unfold Gy at hX6;obtain⟨rfl,n6_0,n6_1,n6_2,n6_3,n6_4,⟨w5_,n6_5⟩,n6_6,n6_7⟩:=hX6;cases h;simp (maxDischargeDepth:=9) only [↓AB,AC,↓reduceIte,Nat.reduceEqDiff,Nat.reduceLT,n6_0,n6_1,n6_2,n6_3,n6_4,n6_5,n6_6,n6_7,E9,Ef]<;>(repeat' apply A7)<;>first | rfl | exact⟨_,rfl⟩ | exact⟨_,_,rfl⟩ | simp [A8,AR]
 ·rw [if_neg e2]at h;cases h;simp (maxDischargeDepth:=9) only [↓AB,AC,↓reduceIte,Nat.reduceEqDiff,Nat.reduceLT,m0,m1,m3,m4,m6,m7,e2,E9,Jj,JK]
def F9(labels size:Int)(out:List (List Int))(k:Int)(s:St):Prop:=s.v 0=D.int .i64 labels∧s.v 1=D.int .i64 size∧s.v 5=D.own 27 (A8 (fun x=>D.sl 3 (A8 (D.int .i64) x)) out)∧s.v 6=D.int .i64 k
def Jk(labels size:Int)(r:(List (List Int)))(ex:Ex)(s:St):Prop:=ex= .exit 0∧s.v 5=D.own 27 (A8 (fun x=>D.sl 3 (A8 (D.int .i64) x)) r)
theorem UX(labels size:Int){v:(List (List Int))×Int}{s:St}{r:(List (List Int))}(h:LU labels size v=some r)(hM:F9 labels size v.1 v.2 s):BZ Y.env yF (Jk labels size r) s:=by
 unfold LU at h;refine Ao (c:=eX) (fun v=>F8 labels size v.1 v.2) (fun v s=>F9 labels size v.1 v.2 s) (Jk labels size) ?_ h hM;clear h hM s v r;intro v s o hM h;obtain⟨out,k⟩:=v;dsimp only at h hM;unfold F8 at h;unfold F9 at hM;obtain⟨m0,m1,m2,m3⟩:=hM;unfold eX;by_cases e1:k<size
 ·rw [if_pos e1]at h;obtain⟨Ah,hl3,h⟩:=AO h;try dsimp only at h
  simp (maxDischargeDepth:=9) only [↓AB,AC,↓reduceIte,Nat.reduceEqDiff,Nat.reduceLT,m1,m2,m3,e1];refine AY (UW labels size out k hl3 ?_) ?_
  ·simp (maxDischargeDepth:=9) only [BG,↓reduceIte,Nat.reduceEqDiff,m0,m1,m2,m3,E9]<;>(repeat' apply A7)<;>first | rfl | exact⟨_,rfl⟩ | exact⟨_,_,rfl⟩ | simp [A8,AR]
  ·intro ex3 s3 hX3;unfold Jj at hX3;obtain⟨rfl,n3_0,n3_1,n3_2,n3_3⟩:=hX3;cases h;simp (maxDischargeDepth:=9) only [↓AB,AC,↓reduceIte,Nat.reduceEqDiff,Nat.reduceLT,n3_0,n3_1,n3_2,n3_3,F9,Ef]
 ·rw [if_neg e1]at h;cases h;simp (maxDischargeDepth:=9) only [↓AB,AC,↓reduceIte,Nat.reduceEqDiff,Nat.reduceLT,m1,m2,m3,e1,F9,Jk,JK]
theorem M3(labels size:Int){r:(List (List Int))}(h:Hf labels size=some r):Y.call 47 [D.int .i64 labels,D.int .i64 size] []=some (D.own 27 (A8 (fun x=>D.sl 3 (A8 (D.int .i64) x)) r),[]):=by
 refine c47 ?_ rfl;unfold k47;unfold Hf at h;obtain⟨Ke,hl2,h⟩:=AO h;try dsimp only at h
 simp (maxDischargeDepth:=9) only [↓AB,AC,↓reduceIte,Nat.reduceEqDiff,Nat.reduceLT,Nat.reduceLeDiff,Nat.reduceAdd];refine AY (UX labels size hl2 ?_) ?_
 ·simp (maxDischargeDepth:=9) only [BG,Co,↓reduceIte,Nat.reduceEqDiff,Nat.reduceLT,F9]<;>(repeat' apply A7)<;>first | rfl | exact⟨_,rfl⟩ | exact⟨_,_,rfl⟩ | simp [A8,AR]
 ·intro ex2 s2 hX2;unfold Jk at hX2;obtain⟨rfl,n2_0⟩:=hX2;cases h;simp (maxDischargeDepth:=9) only [↓AB,AC,↓reduceIte,Nat.reduceEqDiff,Nat.reduceLT,n2_0]
noncomputable def FB(l at_ out:List Int)(G6:Int):Option (((List Int)×Int)⊕((List Int))):= if G6<(at_.length:Int)then ck (0≤G6∧G6.toNat<at_.length)<| ck (0≤(at_.getD G6.toNat default)∧(at_.getD G6.toNat default).toNat<l.length)<| ck (out.length+1<1099511627776)<| some (Sum.inl ((out++[(l.getD ((at_.getD G6.toNat default).toNat) default)]),IntKind.i64.wrap (G6+1))) else some (Sum.inr out)
noncomputable def LV(l at_:List Int)(v:(List Int)×Int):Option ((List Int)):=GQ (fun v=>FB l at_ v.1 v.2) v
noncomputable def Mm(l at_:List Int):Option ((List Int)):= (LV l at_ ([],0)).bind fun AA=> some AA
def eY:SC:= .seq (.ops [oB 11 .lss 3 (tK 10) (tK 9) 3 0]) (.seq (.cond (tK 11) .skip (.exit 0)) (.seq (.block 1 (.seq (.ops [oI 12 27 8 10,oL 13 3 12 3,oA 7 13 3]) (.ops [oM 14 5 27,oM 15 0 27,oM 16 7 3,oI 17 27 15 16,oL 18 3 17 3,oX 19 (.buildSlice 27 1 #[(0,(tK 18))]) 27,oX 20 (.call ⟨(.builtin .append), #[(tK 14),(tK 19)], #[27,27]⟩) 27,oA 5 20 27]))) (.ops [oB 21 .add 3 (tK 10) (iK 1) 3 3,oM 10 21 3])))
def yG:SC:= .loop eY
def k92:SC:= .seq (.ops [oX 4 (.assign (.const (.slice none 0 0))) 27]) (.seq (.ops [oX 5 (.assign (.const (.slice none 0 0))) 27]) (.seq (.seq (.ops [oM 8 1 27,oN 9 8 27,oX 10 (.move (iK 0)) 3]) (.block 0 yG)) (.seq (.ops [oM 22 5 27,oA 4 22 27]) .ret)))
theorem A5o:Tryz.f92.body.map (BP lends)=some k92:=by kernel_rfl
theorem AIT:Be Tryz.f92 2=true:=by kernel_rfl
theorem c92{a l:List D}{r:D×List D}(h:BZ Y.env k92 (Eh AX l.length [ResultVar.tmp 4] r) (entry a l))(ha:a.length=2):Y.call 92 a l=some r:=
 AJ (Y:=Y) rfl Tryz.func92 (ha▸AIT) A5o h
def FC(l at_ out:List Int)(G6:Int)(s:St):Prop:=s.v 0=D.sl 3 (A8 (D.int .i64) l)∧s.v 5=D.own 3 (A8 (D.int .i64) out)∧s.v 8=D.sl 3 (A8 (D.int .i64) at_)∧s.v 9=D.int .i64 (at_.length:Int)∧s.v 10=D.int .i64 G6
def Jl(l at_:List Int)(r:(List Int))(ex:Ex)(s:St):Prop:=ex= .exit 0∧s.v 5=D.own 3 (A8 (D.int .i64) r)
theorem UY(l at_:List Int){v:(List Int)×Int}{s:St}{r:(List Int)}(h:LV l at_ v=some r)(hM:FC l at_ v.1 v.2 s):BZ Y.env yG (Jl l at_ r) s:=by
 unfold LV at h;refine Ao (c:=eY) (fun v=>FB l at_ v.1 v.2) (fun v s=>FC l at_ v.1 v.2 s) (Jl l at_) ?_ h hM;clear h hM s v r;intro v s o hM h;obtain⟨out,G6⟩:=v;dsimp only at h hM;unfold FB at h;unfold FC at hM;obtain⟨m0,m1,m2,m3,m4⟩:=hM;unfold eY;by_cases e1:G6<(at_.length:Int)
 ·rw [if_pos e1]at h;obtain⟨e2,h⟩:=Ar h;obtain⟨e3,h⟩:=Ar h;obtain⟨e4,h⟩:=Ar h;cases h;simp (maxDischargeDepth:=9) only [↓AB,AC,↓reduceIte,Nat.reduceEqDiff,Nat.reduceLT,Nat.reduceLeDiff,Nat.reduceAdd,m0,m1,m2,m3,m4,e1,e2.1,e2.2,e3.1,e3.2,e4,FC,Ef]
 ·rw [if_neg e1]at h;cases h;simp (maxDischargeDepth:=9) only [↓AB,AC,↓reduceIte,Nat.reduceEqDiff,Nat.reduceLT,m1,m3,m4,e1,FC,Jl,JK]
theorem VL(l at_:List Int){r:(List Int)}(h:Mm l at_=some r):Y.call 92 [D.sl 3 (A8 (D.int .i64) l),D.sl 3 (A8 (D.int .i64) at_)] []=some (D.own 3 (A8 (D.int .i64) r),[]):=by
 refine c92 ?_ rfl;unfold k92;unfold Mm at h;obtain⟨AA,hl2,h⟩:=AO h;try dsimp only at h
 simp (maxDischargeDepth:=9) only [↓AB,AC,↓reduceIte,Nat.reduceEqDiff,Nat.reduceLT];refine AY (UY l at_ hl2 ?_) ?_
 ·simp (maxDischargeDepth:=9) only [BG,Co,↓reduceIte,Nat.reduceEqDiff,Nat.reduceLT,FC]<;>(repeat' apply A7)<;>first | rfl | exact⟨_,rfl⟩ | exact⟨_,_,rfl⟩ | simp [A8,AR]
 ·intro ex2 s2 hX2;unfold Jl at hX2;obtain⟨rfl,n2_0⟩:=hX2;cases h;simp (maxDischargeDepth:=9) only [↓AB,AC,↓reduceIte,Nat.reduceEqDiff,Nat.reduceLT,n2_0]
noncomputable def UZ(set_ a:Int):Option (Bool):= ck (¬a<0)<| some (decide (((set_.fdiv (2 ^ (min a.toNat (IntKind.i64.bits)))).tmod 2)=1))
def k85:SC:= .seq (.ops [oX 4 (.assign (.const (.bool false))) 4]) (.seq (.ops [oM 5 0 3,oM 6 1 3,oB 7 .shr 3 (tK 5) (tK 6) 3 3,oB 8 .rem 3 (tK 7) (iK 2) 3 3,oB 9 .eql 3 (tK 8) (iK 1) 3 4,oA 4 9 4]) .ret)
theorem A5p:Tryz.f85.body.map (BP lends)=some k85:=by kernel_rfl
theorem AIV:Be Tryz.f85 2=true:=by kernel_rfl
theorem c85{a l:List D}{r:D×List D}(h:BZ Y.env k85 (Eh AX l.length [ResultVar.tmp 4] r) (entry a l))(ha:a.length=2):Y.call 85 a l=some r:=
 AJ (Y:=Y) rfl Tryz.func85 (ha▸AIV) A5p h
theorem eZ(set_ a:Int){r:Bool}(h:UZ set_ a=some r):Y.call 85 [D.int .i64 set_,D.int .i64 a] []=some (D.bool r,[]):=by
 refine c85 ?_ rfl;unfold k85;unfold UZ at h;obtain⟨e1,h⟩:=Ar h;cases h;simp (maxDischargeDepth:=9) only [↓AB,AC,↓reduceIte,Nat.reduceEqDiff,Nat.reduceLT,Int.reduceEq,e1]
noncomputable def Fb(set_:Int)(out:List Int)(a:Int):Option (((List Int)×Int)⊕((List Int))):= if a<8 then (UZ set_ a).bind fun YI=> if YI=true then ck (out.length+1<1099511627776)<| some (Sum.inl ((out++[a]),IntKind.i64.wrap (a+1))) else some (Sum.inl (out,IntKind.i64.wrap (a+1))) else some (Sum.inr out)
noncomputable def ML(set_:Int)(v:(List Int)×Int):Option ((List Int)):=GQ (fun v=>Fb set_ v.1 v.2) v
noncomputable def M4(set_:Int):Option ((List Int)):= (ML set_ ([],0)).bind fun AA=> some AA
def eu:SC:= .seq (.seq (.ops [oM 5 4 3,oB 6 .lss 3 (tK 5) (iK 8) 3 4]) (.cond (tK 6) .skip (.exit 0))) (.seq (.block 1 (.seq (.ops [oM 9 0 3,oM 10 4 3,oC 11 85 [(tK 9),(tK 10)] [3,3] 4]) (.cond (tK 11) (.ops [oM 12 3 27,oM 13 4 3,oX 14 (.buildSlice 27 1 #[(0,(tK 13))]) 27,oX 15 (.call ⟨(.builtin .append), #[(tK 12),(tK 14)], #[27,27]⟩) 27,oA 3 15 27]) .skip))) (.ops [oM 7 4 3,oB 8 .add 3 (tK 7) (iK 1) 3 3,oA 4 8 3]))
def yH:SC:= .loop eu
def k56:SC:= .seq (.ops [oX 2 (.assign (.const (.slice none 0 0))) 27]) (.seq (.ops [oX 3 (.assign (.const (.slice none 0 0))) 27]) (.seq (.seq (.ops [oX 4 (.assign (iK 0)) 3]) (.block 0 yH)) (.seq (.ops [oM 16 3 27,oA 2 16 27]) .ret)))
theorem A5q:Tryz.f56.body.map (BP lends)=some k56:=by kernel_rfl
theorem AIX:Be Tryz.f56 1=true:=by kernel_rfl
theorem c56{a l:List D}{r:D×List D}(h:BZ Y.env k56 (Eh AX l.length [ResultVar.tmp 2] r) (entry a l))(ha:a.length=1):Y.call 56 a l=some r:=
 AJ (Y:=Y) rfl Tryz.func56 (ha▸AIX) A5q h
def Eb(set_:Int)(out:List Int)(a:Int)(s:St):Prop:=s.v 0=D.int .i64 set_∧s.v 3=D.own 3 (A8 (D.int .i64) out)∧s.v 4=D.int .i64 a
def KV(set_:Int)(r:(List Int))(ex:Ex)(s:St):Prop:=ex= .exit 0∧s.v 3=D.own 3 (A8 (D.int .i64) r)
theorem VM(set_:Int){v:(List Int)×Int}{s:St}{r:(List Int)}(h:ML set_ v=some r)(hM:Eb set_ v.1 v.2 s):BZ Y.env yH (KV set_ r) s:=by
 unfold ML at h;refine Ao (c:=eu) (fun v=>Fb set_ v.1 v.2) (fun v s=>Eb set_ v.1 v.2 s) (KV set_) ?_ h hM;clear h hM s v r;intro v s o hM h;obtain⟨out,a⟩:=v;dsimp only at h hM;unfold Fb at h;unfold Eb at hM;obtain⟨m0,m1,m2⟩:=hM;unfold eu;by_cases e1:a<8
 ·rw [if_pos e1]at h;obtain⟨YI,hl2,h⟩:=AO h;try dsimp only at h
  have c2:=eZ set_ a hl2;by_cases e3:YI=true
  ·rw [if_pos e3]at h;obtain⟨e4,h⟩:=Ar h;cases h;simp (maxDischargeDepth:=9) only [↓AB,AC,↓reduceIte,Nat.reduceEqDiff,Nat.reduceLT,Nat.reduceLeDiff,Nat.reduceAdd,m0,m1,m2,e1,c2,e3,e4,Eb,Ef]
  ·rw [if_neg e3]at h;have e3f:YI=false:=J2.mpr e3;cases h;simp (maxDischargeDepth:=9) only [↓AB,AC,↓reduceIte,Nat.reduceEqDiff,Nat.reduceLT,Nat.reduceAdd,m0,m1,m2,e1,c2,e3f,Eb,Ef]
 ·rw [if_neg e1]at h;cases h;simp (maxDischargeDepth:=9) only [↓AB,AC,↓reduceIte,Nat.reduceEqDiff,Nat.reduceLT,m1,m2,e1,Eb,KV,JK]
theorem QR(set_:Int){r:(List Int)}(h:M4 set_=some r):Y.call 56 [D.int .i64 set_] []=some (D.own 3 (A8 (D.int .i64) r),[]):=by
 refine c56 ?_ rfl;unfold k56;unfold M4 at h;obtain⟨AA,hl2,h⟩:=AO h;try dsimp only at h
 simp (maxDischargeDepth:=9) only [↓AB,AC,↓reduceIte,Nat.reduceEqDiff,Nat.reduceLT];refine AY (VM set_ hl2 ?_) ?_
 ·simp (maxDischargeDepth:=9) only [BG,Co,↓reduceIte,Nat.reduceEqDiff,Nat.reduceLT,Eb]<;>(repeat' apply A7)<;>first | rfl | exact⟨_,rfl⟩ | exact⟨_,_,rfl⟩ | simp [A8,AR]
 ·intro ex2 s2 hX2;unfold KV at hX2;obtain⟨rfl,n2_0⟩:=hX2;cases h;simp (maxDischargeDepth:=9) only [↓AB,AC,↓reduceIte,Nat.reduceEqDiff,Nat.reduceLT,n2_0]
noncomputable def IK(rec_:(List (List Int))→(List Int)→(List Int)→Option (((List Int)×Bool)⊕((List Int)×Bool)))(good:List (List Int))(sets chosen:List Int)(Mj:(List Int))(Dn:Int):Option ((Int)⊕(((List Int))⊕(((List Int))⊕Unit))):=
 if Dn<(Mj.length:Int)then
  ck (0≤Dn∧Dn.toNat<Mj.length)<|
  (LH chosen).bind fun A5r=>
  ck (A5r.length+1<1099511627776)<|
  (rec_ good sets (A5r++[(Mj.getD Dn.toNat default)])).bind fun A5s=>
  match A5s with
  | .inl q42_=>
   if q42_.2=true then
    some (Sum.inr (Sum.inl q42_.1))
   else
    some (Sum.inl (IntKind.i64.wrap (Dn+1)))
  | .inr q42_=>
   if q42_.2=true then
    some (Sum.inr (Sum.inr (Sum.inl q42_.1)))
   else
    some (Sum.inl (IntKind.i64.wrap (Dn+1)))
 else
  some (Sum.inr (Sum.inr (Sum.inr ())))
noncomputable def MM(rec_:(List (List Int))→(List Int)→(List Int)→Option (((List Int)×Bool)⊕((List Int)×Bool)))(good:List (List Int))(sets chosen:List Int)(Mj:(List Int))(v:Int):Option (((List Int))⊕(((List Int))⊕Unit)):=GQ (fun v=>IK rec_ good sets chosen Mj v) v
noncomputable def I5(rec_:(List (List Int))→(List Int)→(List Int)→Option (((List Int)×Bool)⊕((List Int)×Bool)))(good:List (List Int))(sets chosen:List Int):Option (((List Int)×Bool)⊕((List Int)×Bool)):=
 if(chosen.length:Int)=(sets.length:Int)then
  ck (chosen.length<1099511627776)<|
  ck (good.length<1099511627776)<|
  ck ((Bn chosen).length<1099511627776)<|
  some (Sum.inl (chosen,(good.contains (Bn chosen))))
 else
  ck (0≤(chosen.length:Int)∧chosen.length<sets.length)<|
  (M4 (sets.getD chosen.length default)).bind fun Mj=>
  (MM rec_ good sets chosen Mj 0).bind fun AA=>
  match AA with
  | .inl q1000_=>
   some (Sum.inl (q1000_,true))
  | .inr (.inl q1000_)=>
   some (Sum.inr (q1000_,true))
  | .inr (.inr q1000_)=>
   some (Sum.inr ([],false))
noncomputable def Ck:Nat→(List (List Int))→(List Int)→(List Int)→Option (((List Int)×Bool)⊕((List Int)×Bool)) | 0=>fun _ _ _=>none | n+1=>fun good sets chosen=>I5 (Ck n) good sets chosen
noncomputable def TK(good:List (List Int))(sets chosen:List Int):Option (((List Int)×Bool)⊕((List Int)×Bool)):=Ck 1000000 good sets chosen
def fA:SC:= .seq (.ops [oB 31 .lss 3 (tK 30) (tK 29) 3 0]) (.seq (.cond (tK 31) .skip (.exit 0)) (.seq (.block 1 (.seq (.ops [oI 32 27 28 30,oL 33 3 32 3,oA 10 33 3]) (.seq (.ops [oM 35 0 22,oM 36 1 27,oM 37 2 27,oC 38 79 [(tK 37)] [27] 27,oM 39 10 3,oX 40 (.buildSlice 27 1 #[(0,(tK 39))]) 27,oX 41 (.call ⟨(.builtin .append), #[(tK 38),(tK 40)], #[27,27]⟩) 27,oC 42 91 [(tK 35),(tK 36),(tK 41)] [22,27,27] 49,oM 34 42 49,oE 43 34 0 27,oE 44 34 1 4,oA 11 43 27,oA 12 44 4]) (.seq (.ops [oM 45 12 4]) (.cond (tK 45) (.seq (.ops [oM 46 11 27,oA 6 46 27,oX 7 (.assign (.const (.bool true))) 4]) .ret) .skip))))) (.ops [oB 47 .add 3 (tK 30) (iK 1) 3 3,oM 30 47 3])))
def yI:SC:= .loop fA
def k91:SC:= .seq (.ops [oX 6 (.assign (.const (.slice none 0 0))) 27,oX 7 (.assign (.const (.bool false))) 4]) (.seq (.ops [oM 13 2 27,oN 14 13 27,oA 8 14 3]) (.seq (.seq (.ops [oM 15 8 3,oM 16 1 27,oN 17 16 27,oB 18 .eql 3 (tK 15) (tK 17) 3 4]) (.cond (tK 18) (.seq (.ops [oM 19 2 27,oM 20 0 22,oM 21 2 27,oC 22 90 [(tK 21)] [27] 27,oC 23 86 [(tK 20),(tK 22)] [22,27] 4,oA 6 19 27,oA 7 23 4]) .ret) .skip)) (.seq (.seq (.ops [oM 24 1 27,oM 25 8 3,oI 26 27 24 25,oL 27 3 26 3,oC 28 56 [(tK 27)] [3] 27,oN 29 28 27,oX 30 (.move (iK 0)) 3]) (.block 0 yI)) (.seq (.ops [oX 6 (.assign (.const (.slice none 0 0))) 27,oX 7 (.assign (.const (.bool false))) 4]) .ret))))
theorem A5t:Tryz.f91.body.map (BP lends)=some k91:=by kernel_rfl
theorem AIZ:Be Tryz.f91 3=true:=by kernel_rfl
theorem c91{a l:List D}{r:D×List D}(h:BZ Y.env k91 (Eh AX l.length [ResultVar.tmp 6,ResultVar.tmp 7] r) (entry a l))(ha:a.length=3):Y.call 91 a l=some r:=
 AJ (Y:=Y) rfl Tryz.func91 (ha▸AIZ) A5t h
def CS(rec_:(List (List Int))→(List Int)→(List Int)→Option (((List Int)×Bool)⊕((List Int)×Bool)))(good:List (List Int))(sets chosen:List Int)(Mj:(List Int))(Dn:Int)(s:St):Prop:=s.v 0=D.sl 27 (A8 (fun x=>D.sl 3 (A8 (D.int .i64) x)) good)∧s.v 1=D.sl 3 (A8 (D.int .i64) sets)∧s.v 2=D.sl 3 (A8 (D.int .i64) chosen)∧s.v 28=D.own 3 (A8 (D.int .i64) Mj)∧s.v 29=D.int .i64 (Mj.length:Int)∧s.v 30=D.int .i64 Dn
def DC(rec_:(List (List Int))→(List Int)→(List Int)→Option (((List Int)×Bool)⊕((List Int)×Bool)))(good:List (List Int))(sets chosen:List Int)(Mj:(List Int))(r:((List Int))⊕(((List Int))⊕Unit))(ex:Ex)(s:St):Prop:=match r with
 | .inl q=>ex= .ret∧s.v 6=D.sl 3 (A8 (D.int .i64) q)∧s.v 7=D.bool true
 | .inr (.inl q)=>ex= .ret∧s.v 6=D.own 3 (A8 (D.int .i64) q)∧s.v 7=D.bool true
 | .inr (.inr q)=>ex= .exit 0
theorem VN(rec_:(List (List Int))→(List Int)→(List Int)→Option (((List Int)×Bool)⊕((List Int)×Bool)))(good:List (List Int))(sets chosen:List Int)(Mj:(List Int))(rec_h: ∀(good:List (List Int)) (sets chosen:List Int) (r:((List Int)×Bool)⊕((List Int)×Bool)),rec_ good sets chosen=some r→Y.call 91 [D.sl 27 (A8 (fun x=>D.sl 3 (A8 (D.int .i64) x)) good),D.sl 3 (A8 (D.int .i64) sets),D.sl 3 (A8 (D.int .i64) chosen)] []=some (match (generalizing:=false) r with | .inl q=>(D.tup [D.sl 3 (A8 (D.int .i64) q.1),D.bool q.2],[]) | .inr q=>(D.tup [D.own 3 (A8 (D.int .i64) q.1),D.bool q.2],[]))){v:Int}{s:St}{r:((List Int))⊕(((List Int))⊕Unit)}(h:MM rec_ good sets chosen Mj v=some r)(hM:CS rec_ good sets chosen Mj v s):BZ Y.env yI (DC rec_ good sets chosen Mj r) s:=by
 unfold MM at h;refine Ao (c:=fA) (fun v=>IK rec_ good sets chosen Mj v) (fun v s=>CS rec_ good sets chosen Mj v s) (DC rec_ good sets chosen Mj) ?_ h hM;clear h hM s v r;intro Dn s o hM h;unfold IK at h;unfold CS at hM;obtain⟨m0,m1,m2,m3,m4,m5⟩:=hM;unfold fA;by_cases e4:Dn<(Mj.length:Int)
 ·rw [if_pos e4]at h;obtain⟨e5,h⟩:=Ar h;obtain⟨A5r,hl6,h⟩:=AO h;try dsimp only at h
  have c6:=NJ chosen hl6;obtain⟨e7,h⟩:=Ar h;obtain⟨A5s,hl8,h⟩:=AO h;try dsimp only at h
  have c8:=rec_h _ _ _ _ hl8;rcases A5s with q42_ | q42_
  ·dsimp only at h c8;by_cases e9:(!q42_.1.isEmpty)=true
   ·skip
    by_cases e10:q42_.2=true
    ·rw [if_pos e10]at h;cases h;simp (maxDischargeDepth:=9) only [↓AB,AC,↓reduceIte,Nat.reduceEqDiff,Nat.reduceLT,Nat.reduceLeDiff,Nat.reduceAdd,m0,m1,m2,m3,m4,m5,e4,e5.1,e5.2,c6,e7,c8,e9,e10,CS,DC,Sv]
    ·rw [if_neg e10]at h;have e10f:q42_.2=false:=J2.mpr e10;cases h;simp (maxDischargeDepth:=9) only [↓AB,AC,↓reduceIte,Nat.reduceEqDiff,Nat.reduceLT,Nat.reduceLeDiff,Nat.reduceAdd,m0,m1,m2,m3,m4,m5,e4,e5.1,e5.2,c6,e7,c8,e9,e10f,CS,Ef]
   ·skip
    have e9f:(!q42_.1.isEmpty)=false:=J2.mpr e9;by_cases e10:q42_.2=true
    ·rw [if_pos e10]at h;cases h;simp (maxDischargeDepth:=9) only [↓AB,AC,↓reduceIte,Nat.reduceEqDiff,Nat.reduceLT,Nat.reduceLeDiff,Nat.reduceAdd,m0,m1,m2,m3,m4,m5,e4,e5.1,e5.2,c6,e7,c8,e9f,e10,CS,DC,Sv]
    ·rw [if_neg e10]at h;have e10f:q42_.2=false:=J2.mpr e10;cases h;simp (maxDischargeDepth:=9) only [↓AB,AC,↓reduceIte,Nat.reduceEqDiff,Nat.reduceLT,Nat.reduceLeDiff,Nat.reduceAdd,m0,m1,m2,m3,m4,m5,e4,e5.1,e5.2,c6,e7,c8,e9f,e10f,CS,Ef]
  ·dsimp only at h c8;by_cases e11:q42_.2=true
   ·rw [if_pos e11]at h;cases h;simp (maxDischargeDepth:=9) only [↓AB,AC,↓reduceIte,Nat.reduceEqDiff,Nat.reduceLT,Nat.reduceLeDiff,Nat.reduceAdd,m0,m1,m2,m3,m4,m5,e4,e5.1,e5.2,c6,e7,c8,e11,CS,DC,Sv]
   ·rw [if_neg e11]at h;have e11f:q42_.2=false:=J2.mpr e11;cases h;simp (maxDischargeDepth:=9) only [↓AB,AC,↓reduceIte,Nat.reduceEqDiff,Nat.reduceLT,Nat.reduceLeDiff,Nat.reduceAdd,m0,m1,m2,m3,m4,m5,e4,e5.1,e5.2,c6,e7,c8,e11f,CS,Ef]
 ·rw [if_neg e4]at h;cases h;simp (maxDischargeDepth:=9) only [↓AB,AC,↓reduceIte,Nat.reduceLT,m4,m5,e4,CS,DC,JK]
theorem Ua(rec_:(List (List Int))→(List Int)→(List Int)→Option (((List Int)×Bool)⊕((List Int)×Bool)))(good:List (List Int))(sets chosen:List Int)(rec_h: ∀(good:List (List Int)) (sets chosen:List Int) (r:((List Int)×Bool)⊕((List Int)×Bool)),rec_ good sets chosen=some r→Y.call 91 [D.sl 27 (A8 (fun x=>D.sl 3 (A8 (D.int .i64) x)) good),D.sl 3 (A8 (D.int .i64) sets),D.sl 3 (A8 (D.int .i64) chosen)] []=some (match (generalizing:=false) r with | .inl q=>(D.tup [D.sl 3 (A8 (D.int .i64) q.1),D.bool q.2],[]) | .inr q=>(D.tup [D.own 3 (A8 (D.int .i64) q.1),D.bool q.2],[]))){r:((List Int)×Bool)⊕((List Int)×Bool)}(h:I5 rec_ good sets chosen=some r):Y.call 91 [D.sl 27 (A8 (fun x=>D.sl 3 (A8 (D.int .i64) x)) good),D.sl 3 (A8 (D.int .i64) sets),D.sl 3 (A8 (D.int .i64) chosen)] []=some (match (generalizing:=false) r with | .inl q=>(D.tup [D.sl 3 (A8 (D.int .i64) q.1),D.bool q.2],[]) | .inr q=>(D.tup [D.own 3 (A8 (D.int .i64) q.1),D.bool q.2],[])):=by
 refine c91 ?_ rfl;unfold k91;unfold I5 at h;by_cases e1:(chosen.length:Int)=(sets.length:Int)
 ·rw [if_pos e1]at h;obtain⟨e2,h⟩:=Ar h;have c3:=nP chosen e2;obtain⟨e4,h⟩:=Ar h;obtain⟨e5,h⟩:=Ar h;have c6:=YG good (Bn chosen) e4 e5;cases h;simp (maxDischargeDepth:=9) only [↓AB,AC,↓reduceIte,Nat.reduceEqDiff,Nat.reduceLT,Nat.reduceAdd,decide_eq_true e1,c3,c6]
 ·rw [if_neg e1]at h;obtain⟨e2,h⟩:=Ar h;obtain⟨Mj,hl3,h⟩:=AO h;try dsimp only at h
  have c3:=QR (sets.getD chosen.length default) hl3;obtain⟨AA,hl5,h⟩:=AO h;try dsimp only at h
  simp (maxDischargeDepth:=9) only [↓AB,AC,↓reduceIte,Nat.reduceEqDiff,Nat.reduceLT,Nat.reduceAdd,e1,e2.1,e2.2,c3];refine AY (VN rec_ good sets chosen Mj rec_h hl5 ?_) ?_
  ·simp (maxDischargeDepth:=9) only [BG,Co,↓reduceIte,Nat.reduceEqDiff,Nat.reduceLT,CS]
  ·intro ex5 s5 hX5;rcases AA with(q1000_ | q1000_ | q1000_)
   ·unfold DC at hX5;dsimp only at hX5 h;obtain⟨rfl,n5_0,n5_1⟩:=hX5;cases h;simp (maxDischargeDepth:=9) only [↓AB,AC,↓reduceIte,n5_0,n5_1]
   ·unfold DC at hX5;dsimp only at hX5 h;obtain⟨rfl,n5_0,n5_1⟩:=hX5;cases h;simp (maxDischargeDepth:=9) only [↓AB,AC,↓reduceIte,Nat.reduceEqDiff,n5_0,n5_1]
   ·unfold DC at hX5;dsimp only at hX5 h
    obtain rfl:=hX5
    cases h;simp (maxDischargeDepth:=9) only [↓AB,AC,↓reduceIte,Nat.reduceEqDiff,Nat.reduceLT]<;>(repeat' apply A7)<;>first | rfl | exact⟨_,rfl⟩ | exact⟨_,_,rfl⟩ | simp [A8,AR]
theorem Ub(n:Nat): ∀(good:List (List Int)) (sets chosen:List Int) (r:((List Int)×Bool)⊕((List Int)×Bool)),Ck n good sets chosen=some r→Y.call 91 [D.sl 27 (A8 (fun x=>D.sl 3 (A8 (D.int .i64) x)) good),D.sl 3 (A8 (D.int .i64) sets),D.sl 3 (A8 (D.int .i64) chosen)] []=some (match (generalizing:=false) r with | .inl q=>(D.tup [D.sl 3 (A8 (D.int .i64) q.1),D.bool q.2],[]) | .inr q=>(D.tup [D.own 3 (A8 (D.int .i64) q.1),D.bool q.2],[])):=by
 induction n with
 | zero=>intro good sets chosen r h;exact absurd h (by rw [Ck];exact fun e=>nomatch e)
 | succ n ih=>intro good sets chosen r h;rw [Ck]at h;exact Ua (Ck n) good sets chosen ih h
theorem WS(good:List (List Int))(sets chosen:List Int){r:((List Int)×Bool)⊕((List Int)×Bool)}(h:TK good sets chosen=some r):Y.call 91 [D.sl 27 (A8 (fun x=>D.sl 3 (A8 (D.int .i64) x)) good),D.sl 3 (A8 (D.int .i64) sets),D.sl 3 (A8 (D.int .i64) chosen)] []=some (match (generalizing:=false) r with | .inl q=>(D.tup [D.sl 3 (A8 (D.int .i64) q.1),D.bool q.2],[]) | .inr q=>(D.tup [D.own 3 (A8 (D.int .i64) q.1),D.bool q.2],[])):=Ub 1000000 good sets chosen r h
noncomputable def Ib(good:List (List Int))(sets:List Int)(Lx:(List (List Int)))(out:List (List Int))(Du:Int):Option (((List (List Int))×Int)⊕((List (List Int)))):=
 if Du<(Lx.length:Int)then
  ck (0≤Du∧Du.toNat<Lx.length)<|
  (Mm sets (Lx.getD Du.toNat default)).bind fun A5u=>
  (TK good A5u []).bind fun nT=>
  match nT with
  | .inl q26_=>
   if q26_.2=true then
    ck (out.length+1<1099511627776)<|
    some (Sum.inl ((out++[(Lx.getD Du.toNat default)]),IntKind.i64.wrap (Du+1)))
   else
    some (Sum.inl (out,IntKind.i64.wrap (Du+1)))
  | .inr q26_=>
   if q26_.2=true then
    ck (out.length+1<1099511627776)<|
    some (Sum.inl ((out++[(Lx.getD Du.toNat default)]),IntKind.i64.wrap (Du+1)))
   else
    some (Sum.inl (out,IntKind.i64.wrap (Du+1)))
 else
  some (Sum.inr out)
noncomputable def Oe(good:List (List Int))(sets:List Int)(Lx:(List (List Int)))(v:(List (List Int))×Int):Option ((List (List Int))):=GQ (fun v=>Ib good sets Lx v.1 v.2) v
noncomputable def Po(good:List (List Int))(sets:List Int)(size:Int):Option ((List (List Int))):= (Hf (sets.length:Int) size).bind fun Lx=> (Oe good sets Lx ([],0)).bind fun AA=> some AA
def fB:SC:= .seq (.ops [oB 18 .lss 3 (tK 17) (tK 16) 3 0]) (.seq (.cond (tK 18) .skip (.exit 0)) (.seq (.block 1 (.seq (.ops [oI 19 22 15 17,oL 20 27 19 27,oA 9 20 27]) (.seq (.ops [oM 22 0 22,oM 23 1 27,oM 24 9 27,oC 25 92 [(tK 23),(tK 24)] [27,27] 27,oC 26 91 [(tK 22),(tK 25),(.const (.slice none 0 0))] [22,27,27] 49,oM 21 26 49,oE 27 21 0 27,oE 28 21 1 4,oA 10 27 27,oA 11 28 4]) (.seq (.ops [oM 29 11 4]) (.cond (tK 29) (.ops [oM 30 7 22,oM 31 9 27,oX 32 (.buildSlice 22 1 #[(0,(tK 31))]) 22,oX 33 (.call ⟨(.builtin .append), #[(tK 30),(tK 32)], #[22,22]⟩) 22,oA 7 33 22]) .skip))))) (.ops [oB 34 .add 3 (tK 17) (iK 1) 3 3,oM 17 34 3])))
def yJ:SC:= .loop fB
def k61:SC:= .seq (.ops [oX 6 (.assign (.const (.slice none 0 0))) 22]) (.seq (.ops [oX 7 (.assign (.const (.slice none 0 0))) 22]) (.seq (.seq (.ops [oM 12 1 27,oN 13 12 27,oM 14 2 3,oC 15 47 [(tK 13),(tK 14)] [3,3] 22,oN 16 15 22,oX 17 (.move (iK 0)) 3]) (.block 0 yJ)) (.seq (.ops [oM 35 7 22,oA 6 35 22]) .ret)))
theorem A5v:Tryz.f61.body.map (BP lends)=some k61:=by kernel_rfl
theorem AIb:Be Tryz.f61 3=true:=by kernel_rfl
theorem c61{a l:List D}{r:D×List D}(h:BZ Y.env k61 (Eh AX l.length [ResultVar.tmp 6] r) (entry a l))(ha:a.length=3):Y.call 61 a l=some r:=
 AJ (Y:=Y) rfl Tryz.func61 (ha▸AIb) A5v h
def D6(good:List (List Int))(sets:List Int)(Lx:(List (List Int)))(out:List (List Int))(Du:Int)(s:St):Prop:=s.v 0=D.sl 27 (A8 (fun x=>D.sl 3 (A8 (D.int .i64) x)) good)∧s.v 1=D.sl 3 (A8 (D.int .i64) sets)∧s.v 7=D.own 27 (A8 (fun x=>D.sl 3 (A8 (D.int .i64) x)) out)∧s.v 15=D.own 27 (A8 (fun x=>D.sl 3 (A8 (D.int .i64) x)) Lx)∧s.v 16=D.int .i64 (Lx.length:Int)∧s.v 17=D.int .i64 Du
def MN(good:List (List Int))(sets:List Int)(Lx:(List (List Int)))(r:(List (List Int)))(ex:Ex)(s:St):Prop:=ex= .exit 0∧s.v 7=D.own 27 (A8 (fun x=>D.sl 3 (A8 (D.int .i64) x)) r)
theorem YL(good:List (List Int))(sets:List Int)(Lx:(List (List Int))){v:(List (List Int))×Int}{s:St}{r:(List (List Int))}(h:Oe good sets Lx v=some r)(hM:D6 good sets Lx v.1 v.2 s):BZ Y.env yJ (MN good sets Lx r) s:=by
 unfold Oe at h;refine Ao (c:=fB) (fun v=>Ib good sets Lx v.1 v.2) (fun v s=>D6 good sets Lx v.1 v.2 s) (MN good sets Lx) ?_ h hM;clear h hM s v r;intro v s o hM h;obtain⟨out,Du⟩:=v;dsimp only at h hM;unfold Ib at h;unfold D6 at hM;obtain⟨m0,m1,m2,m3,m4,m5⟩:=hM;unfold fB;by_cases e2:Du<(Lx.length:Int)
 ·rw [if_pos e2]at h;obtain⟨e3,h⟩:=Ar h;obtain⟨A5u,hl4,h⟩:=AO h;try dsimp only at h
  have c4:=VL sets (Lx.getD Du.toNat default) hl4;obtain⟨nT,hl5,h⟩:=AO h;try dsimp only at h
  have c5:=WS good A5u [] hl5;rcases nT with q26_ | q26_
  ·dsimp only at h c5;simp only [bV]at c5;by_cases e6:(!q26_.1.isEmpty)=true
   ·skip
    by_cases e7:q26_.2=true
    ·rw [if_pos e7]at h;obtain⟨e8,h⟩:=Ar h;cases h;simp (maxDischargeDepth:=9) only [↓AB,AC,↓reduceIte,Nat.reduceEqDiff,Nat.reduceLT,Nat.reduceLeDiff,Nat.reduceAdd,m0,m1,m2,m3,m4,m5,e2,e3.1,e3.2,c4,c5,e6,e7,e8,D6,Ef]
    ·rw [if_neg e7]at h;have e7f:q26_.2=false:=J2.mpr e7;cases h;simp (maxDischargeDepth:=9) only [↓AB,AC,↓reduceIte,Nat.reduceEqDiff,Nat.reduceLT,Nat.reduceAdd,m0,m1,m2,m3,m4,m5,e2,e3.1,e3.2,c4,c5,e6,e7f,D6,Ef]
   ·skip
    have e6f:(!q26_.1.isEmpty)=false:=J2.mpr e6;by_cases e7:q26_.2=true
    ·rw [if_pos e7]at h;obtain⟨e8,h⟩:=Ar h;cases h;simp (maxDischargeDepth:=9) only [↓AB,AC,↓reduceIte,Nat.reduceEqDiff,Nat.reduceLT,Nat.reduceLeDiff,Nat.reduceAdd,m0,m1,m2,m3,m4,m5,e2,e3.1,e3.2,c4,c5,e6f,e7,e8,D6,Ef]
    ·rw [if_neg e7]at h;have e7f:q26_.2=false:=J2.mpr e7;cases h;simp (maxDischargeDepth:=9) only [↓AB,AC,↓reduceIte,Nat.reduceEqDiff,Nat.reduceLT,Nat.reduceAdd,m0,m1,m2,m3,m4,m5,e2,e3.1,e3.2,c4,c5,e6f,e7f,D6,Ef]
  ·dsimp only at h c5;simp only [bV]at c5;by_cases e8:q26_.2=true
   ·rw [if_pos e8]at h;obtain⟨e9,h⟩:=Ar h;cases h;simp (maxDischargeDepth:=9) only [↓AB,AC,↓reduceIte,Nat.reduceEqDiff,Nat.reduceLT,Nat.reduceLeDiff,Nat.reduceAdd,m0,m1,m2,m3,m4,m5,e2,e3.1,e3.2,c4,c5,e8,e9,D6,Ef]
   ·rw [if_neg e8]at h;have e8f:q26_.2=false:=J2.mpr e8;cases h;simp (maxDischargeDepth:=9) only [↓AB,AC,↓reduceIte,Nat.reduceEqDiff,Nat.reduceLT,Nat.reduceAdd,m0,m1,m2,m3,m4,m5,e2,e3.1,e3.2,c4,c5,e8f,D6,Ef]
 ·rw [if_neg e2]at h;cases h;simp (maxDischargeDepth:=9) only [↓AB,AC,↓reduceIte,Nat.reduceEqDiff,Nat.reduceLT,m2,m4,m5,e2,D6,MN,JK]
theorem SY(good:List (List Int))(sets:List Int)(size:Int){r:(List (List Int))}(h:Po good sets size=some r):Y.call 61 [D.sl 27 (A8 (fun x=>D.sl 3 (A8 (D.int .i64) x)) good),D.sl 3 (A8 (D.int .i64) sets),D.int .i64 size] []=some (D.own 27 (A8 (fun x=>D.sl 3 (A8 (D.int .i64) x)) r),[]):=by
 refine c61 ?_ rfl;unfold k61;unfold Po at h;obtain⟨Lx,hl1,h⟩:=AO h;try dsimp only at h
 have c1:=M3 (sets.length:Int) size hl1;obtain⟨AA,hl3,h⟩:=AO h;try dsimp only at h
 simp (maxDischargeDepth:=9) only [↓AB,AC,↓reduceIte,Nat.reduceEqDiff,Nat.reduceLT,Nat.reduceAdd,c1];refine AY (YL good sets Lx hl3 ?_) ?_
 ·simp (maxDischargeDepth:=9) only [BG,Co,↓reduceIte,Nat.reduceEqDiff,Nat.reduceLT,D6]<;>(repeat' apply A7)<;>first | rfl | exact⟨_,rfl⟩ | exact⟨_,_,rfl⟩ | simp [A8,AR]
 ·intro ex3 s3 hX3;unfold MN at hX3;obtain⟨rfl,n3_0⟩:=hX3;cases h;simp (maxDischargeDepth:=9) only [↓AB,AC,↓reduceIte,Nat.reduceEqDiff,Nat.reduceLT,n3_0]
noncomputable def Ic(tL tD:Int)(tN tE DZ:List (List Int))(Dp:Bool)(D9:Int)(t9_1:List Int)(HY:Int):Option (((List Int)×Int)⊕((List Int))):=
 if HY<((DZ.getD D9.toNat default).length:Int)then
  ck (0≤HY∧HY.toNat<(DZ.getD D9.toNat default).length)<|
  (Rs t9_1 ((DZ.getD D9.toNat default).getD HY.toNat default)).bind fun Ou=>
  match Ou with
  | .inl q32_=>
   some (Sum.inl (q32_,IntKind.i64.wrap (HY+1)))
  | .inr q32_=>
   some (Sum.inl (q32_,IntKind.i64.wrap (HY+1)))
 else
  some (Sum.inr t9_1)
noncomputable def Mo(tL tD:Int)(tN tE DZ:List (List Int))(Dp:Bool)(D9:Int)(v:(List Int)×Int):Option ((List Int)):=GQ (fun v=>Ic tL tD tN tE DZ Dp D9 v.1 v.2) v
noncomputable def Ie(tL tD:Int)(tN tE DZ:List (List Int))(Dp:Bool)(N7:List Int)(D9:Int):Option (((List Int)×Int)⊕((List Int))):= if D9<(DZ.length:Int)then ck (0≤D9∧D9.toNat<DZ.length)<| (Mo tL tD tN tE DZ Dp D9 (N7,0)).bind fun AA=> some (Sum.inl (AA,IntKind.i64.wrap (D9+1))) else some (Sum.inr N7)
noncomputable def Mq(tL tD:Int)(tN tE DZ:List (List Int))(Dp:Bool)(v:(List Int)×Int):Option ((List Int)):=GQ (fun v=>Ie tL tD tN tE DZ Dp v.1 v.2) v
noncomputable def GJ(tL tD:Int)(tN tE DZ:List (List Int))(Dp:Bool)(Ah:(List Int))(tC:List (List Int))(YM:Int):Option (((List (List Int))×Int)⊕((List (List Int)))):=
 if YM<(DZ.length:Int)then
  ck (0≤YM∧YM.toNat<DZ.length)<|
  (Ml Ah (DZ.getD YM.toNat default)).bind fun A5w=>
  (M0 tC A5w).bind fun A5x=>
  match A5x with
  | .inl q55_=>
   some (Sum.inl (q55_,IntKind.i64.wrap (YM+1)))
  | .inr q55_=>
   some (Sum.inl (q55_,IntKind.i64.wrap (YM+1)))
 else
  some (Sum.inr tC)
noncomputable def Mr(tL tD:Int)(tN tE DZ:List (List Int))(Dp:Bool)(Ah:(List Int))(v:(List (List Int))×Int):Option ((List (List Int))):=GQ (fun v=>GJ tL tD tN tE DZ Dp Ah v.1 v.2) v
noncomputable def Pp(tL tD:Int)(tN tE DZ:List (List Int))(Dp:Bool):Option ((Int×Int×(List (List Int))×(List (List Int))×(List Int)×Bool)⊕((Int×Int×(List (List Int))×(List (List Int))×(List Int)×Bool)⊕(Int×Int×(List (List Int))×(List (List Int))×(List Int)×Bool))):= (Mq tL tD tN tE DZ Dp ([],0)).bind fun Ah=> if(MH (Ah.length:Int) (1:Int) (8:Int))=true then (Mr tL tD tN tE DZ Dp Ah ([],0)).bind fun Ke=> if Dp=true then (Po tN Ah tD).bind fun yK=> some (Sum.inl ((Ah.length:Int),tD,yK,Ke,Ah,true)) else (Po tE Ah (2:Int)).bind fun ACR=> some (Sum.inr (Sum.inl ((Ah.length:Int),tD,Ke,ACR,Ah,true))) else some (Sum.inr (Sum.inr (0,0,[],[],[],false)))
def fC:SC:= .seq (.ops [oB 27 .lss 3 (tK 26) (tK 25) 3 0]) (.seq (.cond (tK 27) .skip (.exit 2)) (.seq (.block 3 (.seq (.ops [oI 28 27 24 26,oL 29 3 28 3,oA 13 29 3]) (.ops [oM 30 9 27,oM 31 13 3,oC 32 58 [(tK 30),(tK 31)] [27,3] 27,oA 9 32 900003]))) (.ops [oB 33 .add 3 (tK 26) (iK 1) 3 3,oM 26 33 3])))
def yM:SC:= .loop fC
def fD:SC:= .seq (.ops [oB 21 .lss 3 (tK 20) (tK 19) 3 0]) (.seq (.cond (tK 21) .skip (.exit 0)) (.seq (.block 1 (.seq (.ops [oI 22 22 18 20,oL 23 27 22 27,oA 11 23 27]) (.seq (.ops [oM 24 11 27,oN 25 24 27,oX 26 (.move (iK 0)) 3]) (.block 2 yM)))) (.ops [oB 34 .add 3 (tK 20) (iK 1) 3 3,oM 20 34 3])))
def yN:SC:= .loop fD
def fE:SC:= .seq (.ops [oB 48 .lss 3 (tK 47) (tK 46) 3 0]) (.seq (.cond (tK 48) .skip (.exit 4)) (.seq (.block 5 (.seq (.ops [oI 49 22 45 47,oL 50 27 49 27,oA 17 50 27]) (.ops [oM 51 15 22,oM 52 9 27,oM 53 17 27,oC 54 60 [(tK 52),(tK 53)] [27,27] 27,oC 55 59 [(tK 51),(tK 54)] [22,27] 22,oA 15 55 900003]))) (.ops [oB 56 .add 3 (tK 47) (iK 1) 3 3,oM 47 56 3])))
def yO:SC:= .loop fE
def k36:SC:= .seq (.ops [oX 3 (.box 26 (tK 0)) 0,oX 6 (.alloc 26) 0,oX 7 (.assign (.const (.slice none 0 0))) 27,oX 8 (.assign (.const (.bool false))) 4]) (.seq (.ops [oX 9 (.assign (.const (.slice none 0 0))) 1000027]) (.seq (.seq (.ops [oM 18 1 22,oN 19 18 22,oX 20 (.move (iK 0)) 3]) (.block 0 yN)) (.seq (.seq (.ops [oM 35 9 27,oN 36 35 27,oC 37 33 [(tK 36),(iK 1),(iK 8)] [3,3,3] 4,oX 38 (.unOp .not 4 (tK 37)) 4]) (.cond (tK 38) (.seq (.ops [oX 39 (.build 26 #[]) 26,oS 26 6 39,oX 7 (.assign (.const (.slice none 0 0))) 27,oX 8 (.assign (.const (.bool false))) 4]) .ret) .skip)) (.seq (.ops [oM 40 9 27,oN 41 40 27,oF 42 26 3 1,oL 43 3 42 3,oX 44 (.build 26 #[(0,(tK 41)),(1,(tK 43))]) 26,oX 14 (.alloc 26) 0,oS 26 14 44]) (.seq (.ops [oX 15 (.assign (.const (.slice none 0 0))) 1000022]) (.seq (.seq (.ops [oM 45 1 22,oN 46 45 22,oX 47 (.move (iK 0)) 3]) (.block 4 yO)) (.seq (.seq (.ops [oM 57 2 4]) (.cond (tK 57) (.seq (.ops [oM 58 15 22,oF 59 26 14 3,oS 22 59 58]) (.ops [oF 60 26 3 2,oL 61 22 60 22,oM 62 9 27,oF 63 26 3 1,oL 64 3 63 3,oC 65 61 [(tK 61),(tK 62),(tK 64)] [22,27,3] 22,oF 66 26 14 2,oS 22 66 65])) (.seq (.ops [oM 67 15 22,oF 68 26 14 2,
 oS 22 68 67]) (.ops [oF 69 26 3 3,oL 70 22 69 22,oM 71 9 27,oC 72 61 [(tK 70),(tK 71),(iK 2)] [22,27,3] 22,oF 73 26 14 3,oS 22 73 72])))) (.seq (.ops [oL 74 26 14 26,oM 75 9 27,oS 26 6 74,oA 7 75 27,oX 8 (.assign (.const (.bool true))) 4]) .ret))))))))
theorem A5y:Tryz.f36.body.map (BP lends)=some k36:=by kernel_rfl
theorem AId:Be Tryz.f36 3=true:=by kernel_rfl
theorem c36{a l:List D}{r:D×List D}(h:BZ Y.env k36 (Eh AX l.length [ResultVar.cell 6 26,ResultVar.tmp 7,ResultVar.tmp 8] r) (entry a l))(ha:a.length=3):Y.call 36 a l=some r:=
 AJ (Y:=Y) rfl Tryz.func36 (ha▸AId) A5y h
def GK(tL tD:Int)(tN tE DZ:List (List Int))(Dp:Bool)(D9:Int)(t9_1:List Int)(HY:Int)(s:St):Prop:=s.v 1=D.sl 27 (A8 (fun x=>D.sl 3 (A8 (D.int .i64) x)) DZ)∧s.v 2=D.bool Dp∧s.v 3=D.box [D.int .i64 tL,D.int .i64 tD,D.sl 27 (A8 (fun x=>D.sl 3 (A8 (D.int .i64) x)) tN),D.sl 27 (A8 (fun x=>D.sl 3 (A8 (D.int .i64) x)) tE)]∧s.v 6=D.box [D.int .i64 0,D.int .i64 0,D.own 27 [],D.own 27 []]∧s.v 9=D.sl 3 (A8 (D.int .i64) t9_1)∧s.v 18=D.sl 27 (A8 (fun x=>D.sl 3 (A8 (D.int .i64) x)) DZ)∧s.v 19=D.int .i64 (DZ.length:Int)∧s.v 20=D.int .i64 D9∧s.v 24=D.sl 3 (A8 (D.int .i64) (DZ.getD D9.toNat default))∧s.v 25=D.int .i64 ((DZ.getD D9.toNat default).length:Int)∧s.v 26=D.int .i64 HY
def MO(tL tD:Int)(tN tE DZ:List (List Int))(Dp:Bool)(D9:Int)(r:(List Int))(ex:Ex)(s:St):Prop:=ex= .exit 2∧s.v 1=D.sl 27 (A8 (fun x=>D.sl 3 (A8 (D.int .i64) x)) DZ)∧s.v 2=D.bool Dp∧s.v 3=D.box [D.int .i64 tL,D.int .i64 tD,D.sl 27 (A8 (fun x=>D.sl 3 (A8 (D.int .i64) x)) tN),D.sl 27 (A8 (fun x=>D.sl 3 (A8 (D.int .i64) x)) tE)]∧s.v 6=D.box [D.int .i64 0,D.int .i64 0,D.own 27 [],D.own 27 []]∧s.v 9=D.sl 3 (A8 (D.int .i64) r)∧s.v 18=D.sl 27 (A8 (fun x=>D.sl 3 (A8 (D.int .i64) x)) DZ)∧s.v 19=D.int .i64 (DZ.length:Int)∧s.v 20=D.int .i64 D9
theorem YN(tL tD:Int)(tN tE DZ:List (List Int))(Dp:Bool)(D9:Int){v:(List Int)×Int}{s:St}{r:(List Int)}(h:Mo tL tD tN tE DZ Dp D9 v=some r)(hM:GK tL tD tN tE DZ Dp D9 v.1 v.2 s):BZ Y.env yM (MO tL tD tN tE DZ Dp D9 r) s:=by
 unfold Mo at h;refine Ao (c:=fC) (fun v=>Ic tL tD tN tE DZ Dp D9 v.1 v.2) (fun v s=>GK tL tD tN tE DZ Dp D9 v.1 v.2 s) (MO tL tD tN tE DZ Dp D9) ?_ h hM;clear h hM s v r;intro v s o hM h;obtain⟨t9_1,HY⟩:=v;dsimp only at h hM;unfold Ic at h;unfold GK at hM;obtain⟨m0,m1,m2,m3,m4,m5,m6,m7,m8,m9,m10⟩:=hM;unfold fC;by_cases e3:HY<((DZ.getD D9.toNat default).length:Int)
 ·rw [if_pos e3]at h;obtain⟨e4,h⟩:=Ar h;obtain⟨Ou,hl5,h⟩:=AO h;try dsimp only at h
  have c5:=eH t9_1 ((DZ.getD D9.toNat default).getD HY.toNat default) hl5;rcases Ou with q32_ | q32_
  ·dsimp only at h c5;cases h;simp (maxDischargeDepth:=9) only [↓AB,AC,↓reduceIte,Nat.reduceEqDiff,Nat.reduceLT,Nat.reduceAdd,m0,m1,m2,m3,m4,m5,m6,m7,m8,m9,m10,e3,e4.1,e4.2,c5,GK,Ef]
  ·dsimp only at h c5;cases h;simp (maxDischargeDepth:=9) only [↓AB,AC,↓reduceIte,Nat.reduceEqDiff,Nat.reduceLT,Nat.reduceAdd,m0,m1,m2,m3,m4,m5,m6,m7,m8,m9,m10,e3,e4.1,e4.2,c5,GK,Ef]
 ·rw [if_neg e3]at h;cases h;simp (maxDischargeDepth:=9) only [↓AB,AC,↓reduceIte,Nat.reduceEqDiff,Nat.reduceLT,m0,m1,m2,m3,m4,m5,m6,m7,m9,m10,e3,GK,MO,JK]
def Ig(tL tD:Int)(tN tE DZ:List (List Int))(Dp:Bool)(N7:List Int)(D9:Int)(s:St):Prop:=s.v 1=D.sl 27 (A8 (fun x=>D.sl 3 (A8 (D.int .i64) x)) DZ)∧s.v 2=D.bool Dp∧s.v 3=D.box [D.int .i64 tL,D.int .i64 tD,D.sl 27 (A8 (fun x=>D.sl 3 (A8 (D.int .i64) x)) tN),D.sl 27 (A8 (fun x=>D.sl 3 (A8 (D.int .i64) x)) tE)]∧s.v 6=D.box [D.int .i64 0,D.int .i64 0,D.own 27 [],D.own 27 []]∧s.v 9=D.sl 3 (A8 (D.int .i64) N7)∧s.v 18=D.sl 27 (A8 (fun x=>D.sl 3 (A8 (D.int .i64) x)) DZ)∧s.v 19=D.int .i64 (DZ.length:Int)∧s.v 20=D.int .i64 D9
def MP(tL tD:Int)(tN tE DZ:List (List Int))(Dp:Bool)(r:(List Int))(ex:Ex)(s:St):Prop:=ex= .exit 0∧s.v 1=D.sl 27 (A8 (fun x=>D.sl 3 (A8 (D.int .i64) x)) DZ)∧s.v 2=D.bool Dp∧s.v 3=D.box [D.int .i64 tL,D.int .i64 tD,D.sl 27 (A8 (fun x=>D.sl 3 (A8 (D.int .i64) x)) tN),D.sl 27 (A8 (fun x=>D.sl 3 (A8 (D.int .i64) x)) tE)]∧s.v 6=D.box [D.int .i64 0,D.int .i64 0,D.own 27 [],D.own 27 []]∧s.v 9=D.sl 3 (A8 (D.int .i64) r)
theorem YO(tL tD:Int)(tN tE DZ:List (List Int))(Dp:Bool){v:(List Int)×Int}{s:St}{r:(List Int)}(h:Mq tL tD tN tE DZ Dp v=some r)(hM:Ig tL tD tN tE DZ Dp v.1 v.2 s):BZ Y.env yN (MP tL tD tN tE DZ Dp r) s:=by
 unfold Mq at h;refine Ao (c:=fD) (fun v=>Ie tL tD tN tE DZ Dp v.1 v.2) (fun v s=>Ig tL tD tN tE DZ Dp v.1 v.2 s) (MP tL tD tN tE DZ Dp) ?_ h hM;clear h hM s v r;intro v s o hM h;obtain⟨N7,D9⟩:=v;dsimp only at h hM;unfold Ie at h;unfold Ig at hM;obtain⟨m0,m1,m2,m3,m4,m5,m6,m7⟩:=hM;unfold fD;by_cases e1:D9<(DZ.length:Int)
 ·rw [if_pos e1]at h;obtain⟨e2,h⟩:=Ar h;obtain⟨AA,hl4,h⟩:=AO h;try dsimp only at h
  simp (maxDischargeDepth:=9) only [↓AB,AC,↓reduceIte,Nat.reduceEqDiff,Nat.reduceLT,m5,m6,m7,e1,e2.1,e2.2];refine AY (YN tL tD tN tE DZ Dp D9 hl4 ?_) ?_
  ·simp (maxDischargeDepth:=9) only [BG,↓reduceIte,Nat.reduceEqDiff,m0,m1,m2,m3,m4,m5,m6,m7,GK]
  ·intro ex4 s4 hX4;unfold MO at hX4;obtain⟨rfl,n4_0,n4_1,n4_2,n4_3,n4_4,n4_5,n4_6,n4_7⟩:=hX4;cases h;simp (maxDischargeDepth:=9) only [↓AB,AC,↓reduceIte,Nat.reduceEqDiff,Nat.reduceLT,n4_0,n4_1,n4_2,n4_3,n4_4,n4_5,n4_6,n4_7,Ig,Ef]
 ·rw [if_neg e1]at h;cases h;simp (maxDischargeDepth:=9) only [↓AB,AC,↓reduceIte,Nat.reduceEqDiff,Nat.reduceLT,m0,m1,m2,m3,m4,m6,m7,e1,Ig,MP,JK]
def EJ(tL tD:Int)(tN tE DZ:List (List Int))(Dp:Bool)(Ah:(List Int))(tC:List (List Int))(YM:Int)(s:St):Prop:=s.v 2=D.bool Dp∧s.v 3=D.box [D.int .i64 tL,D.int .i64 tD,D.sl 27 (A8 (fun x=>D.sl 3 (A8 (D.int .i64) x)) tN),D.sl 27 (A8 (fun x=>D.sl 3 (A8 (D.int .i64) x)) tE)]∧s.v 6=D.box [D.int .i64 0,D.int .i64 0,D.own 27 [],D.own 27 []]∧s.v 9=D.sl 3 (A8 (D.int .i64) Ah)∧s.v 14=D.box [D.int .i64 (Ah.length:Int),D.int .i64 tD,D.own 27 [],D.own 27 []]∧s.v 15=D.sl 27 (A8 (fun x=>D.sl 3 (A8 (D.int .i64) x)) tC)∧s.v 45=D.sl 27 (A8 (fun x=>D.sl 3 (A8 (D.int .i64) x)) DZ)∧s.v 46=D.int .i64 (DZ.length:Int)∧s.v 47=D.int .i64 YM
def MQ(tL tD:Int)(tN tE DZ:List (List Int))(Dp:Bool)(Ah:(List Int))(r:(List (List Int)))(ex:Ex)(s:St):Prop:=ex= .exit 4∧s.v 2=D.bool Dp∧s.v 3=D.box [D.int .i64 tL,D.int .i64 tD,D.sl 27 (A8 (fun x=>D.sl 3 (A8 (D.int .i64) x)) tN),D.sl 27 (A8 (fun x=>D.sl 3 (A8 (D.int .i64) x)) tE)]∧s.v 6=D.box [D.int .i64 0,D.int .i64 0,D.own 27 [],D.own 27 []]∧s.v 9=D.sl 3 (A8 (D.int .i64) Ah)∧s.v 14=D.box [D.int .i64 (Ah.length:Int),D.int .i64 tD,D.own 27 [],D.own 27 []]∧s.v 15=D.sl 27 (A8 (fun x=>D.sl 3 (A8 (D.int .i64) x)) r)
theorem YP(tL tD:Int)(tN tE DZ:List (List Int))(Dp:Bool)(Ah:(List Int)){v:(List (List Int))×Int}{s:St}{r:(List (List Int))}(h:Mr tL tD tN tE DZ Dp Ah v=some r)(hM:EJ tL tD tN tE DZ Dp Ah v.1 v.2 s):BZ Y.env yO (MQ tL tD tN tE DZ Dp Ah r) s:=by
 unfold Mr at h;refine Ao (c:=fE) (fun v=>GJ tL tD tN tE DZ Dp Ah v.1 v.2) (fun v s=>EJ tL tD tN tE DZ Dp Ah v.1 v.2 s) (MQ tL tD tN tE DZ Dp Ah) ?_ h hM;clear h hM s v r;intro v s o hM h;obtain⟨tC,YM⟩:=v;dsimp only at h hM;unfold GJ at h;unfold EJ at hM;obtain⟨m0,m1,m2,m3,m4,m5,m6,m7,m8⟩:=hM;unfold fE;by_cases e5:YM<(DZ.length:Int)
 ·rw [if_pos e5]at h;obtain⟨e6,h⟩:=Ar h;obtain⟨A5w,hl7,h⟩:=AO h;try dsimp only at h
  have c7:=VJ Ah (DZ.getD YM.toNat default) hl7;obtain⟨A5x,hl8,h⟩:=AO h;try dsimp only at h
  have c8:=WQ tC A5w hl8;rcases A5x with q55_ | q55_
  ·dsimp only at h c8;by_cases e9:(!q55_.isEmpty)=true
   ·skip
    cases h;simp (maxDischargeDepth:=9) only [↓AB,AC,↓reduceIte,Nat.reduceEqDiff,Nat.reduceLT,Nat.reduceAdd,m0,m1,m2,m3,m4,m5,m6,m7,m8,e5,e6.1,e6.2,c7,c8,e9,EJ,Ef]
   ·skip
    have e9f:(!q55_.isEmpty)=false:=J2.mpr e9;cases h;simp (maxDischargeDepth:=9) only [↓AB,AC,↓reduceIte,Nat.reduceEqDiff,Nat.reduceLT,Nat.reduceAdd,m0,m1,m2,m3,m4,m5,m6,m7,m8,e5,e6.1,e6.2,c7,c8,e9f,EJ,Ef]
  ·dsimp only at h c8;by_cases e10:(q55_.any fun x=>(!x.isEmpty))=true
   ·skip
    cases h;simp (maxDischargeDepth:=9) only [↓AB,AC,↓reduceIte,Nat.reduceEqDiff,Nat.reduceLT,Nat.reduceAdd,m0,m1,m2,m3,m4,m5,m6,m7,m8,e5,e6.1,e6.2,c7,c8,e10,EJ,Ef]
   ·skip
    have e10f:(q55_.any fun x=>(!x.isEmpty))=false:=J2.mpr e10;cases h;simp (maxDischargeDepth:=9) only [↓AB,AC,↓reduceIte,Nat.reduceEqDiff,Nat.reduceLT,Nat.reduceAdd,m0,m1,m2,m3,m4,m5,m6,m7,m8,e5,e6.1,e6.2,c7,c8,e10f,EJ,Ef]
 ·rw [if_neg e5]at h;cases h;simp (maxDischargeDepth:=9) only [↓AB,AC,↓reduceIte,Nat.reduceEqDiff,Nat.reduceLT,m0,m1,m2,m3,m4,m5,m7,m8,e5,EJ,MQ,JK]
theorem Sa(tL tD:Int)(tN tE DZ:List (List Int))(Dp:Bool){r:(Int×Int×(List (List Int))×(List (List Int))×(List Int)×Bool)⊕((Int×Int×(List (List Int))×(List (List Int))×(List Int)×Bool)⊕(Int×Int×(List (List Int))×(List (List Int))×(List Int)×Bool))}(h:Pp tL tD tN tE DZ Dp=some r):Y.call 36 [D.agg [D.int .i64 tL,D.int .i64 tD,D.sl 27 (A8 (fun x=>D.sl 3 (A8 (D.int .i64) x)) tN),D.sl 27 (A8 (fun x=>D.sl 3 (A8 (D.int .i64) x)) tE)],D.sl 27 (A8 (fun x=>D.sl 3 (A8 (D.int .i64) x)) DZ),D.bool Dp] []=some (match (generalizing:=false) r with | .inl q=>(D.tup [D.agg [D.int .i64 q.1,D.int .i64 q.2.1,D.own 27 (A8 (fun x=>D.sl 3 (A8 (D.int .i64) x)) q.2.2.1),D.sl 27 (A8 (fun x=>D.sl 3 (A8 (D.int .i64) x)) q.2.2.2.1)],D.sl 3 (A8 (D.int .i64) q.2.2.2.2.1),D.bool q.2.2.2.2.2],[]) | .inr (.inl q)=>(D.tup [D.agg [D.int .i64 q.1,D.int .i64 q.2.1,D.sl 27 (A8 (fun x=>D.sl 3 (A8 (D.int .i64) x)) q.2.2.1),D.own 27 (A8 (fun x=>D.sl 3 (A8 (D.int .i64) x)) q.2.2.2.1)],D.sl 3 (A8 (D.int .i64) q.2.2.2.2.1),D.bool q.2.2.2.2.2],[]) | .inr (.inr q)=>(D.tup [D.agg [D.int .i64 q.1,D.int .i64 q.2.1,D.own 27 (A8 (fun x=>D.own 3 (A8 (D.int .i64) x)) q.2.2.1),D.own 27 (A8 (fun x=>D.own 3 (A8 (D.int .i64) x)) q.2.2.2.1)],D.own 3 (A8 (D.int .i64) q.2.2.2.2.1),D.bool q.2.2.2.2.2],[])):=by
 refine c36 ?_ rfl;unfold k36;unfold Pp at h;obtain⟨Ah,hl2,h⟩:=AO h;try dsimp only at h
 simp (maxDischargeDepth:=9) only [↓AB,AC,↓reduceIte,Nat.reduceEqDiff,Nat.reduceLT,Nat.reduceSub];refine AY (YO tL tD tN tE DZ Dp hl2 ?_) ?_
 ·simp (maxDischargeDepth:=9) only [BG,Co,↓reduceIte,Nat.reduceEqDiff,Nat.reduceLT,Ig]<;>(repeat' apply A7)<;>first | rfl | exact⟨_,rfl⟩ | exact⟨_,_,rfl⟩ | simp [A8,AR]
 ·intro ex2 s2 hX2;unfold MP at hX2;obtain⟨rfl,n2_0,n2_1,n2_2,n2_3,n2_4⟩:=hX2;have c3:=Rn (Ah.length:Int) (1:Int) (8:Int);by_cases e4:(MH (Ah.length:Int) (1:Int) (8:Int))=true
  ·rw [if_pos e4]at h;obtain⟨Ke,hl6,h⟩:=AO h;try dsimp only at h
   simp (maxDischargeDepth:=9) only [↓AB,AC,↓reduceIte,Nat.reduceEqDiff,Nat.reduceLT,Nat.reduceLeDiff,Nat.reduceAdd,Nat.reduceSub,n2_0,n2_2,n2_4,c3,e4];refine AY (YP tL tD tN tE DZ Dp Ah hl6 ?_) ?_
   ·simp (maxDischargeDepth:=9) only [BG,↓reduceIte,Nat.reduceEqDiff,n2_1,n2_2,n2_3,n2_4,EJ]<;>(repeat' apply A7)<;>first | rfl | exact⟨_,rfl⟩ | exact⟨_,_,rfl⟩ | simp [A8,AR]
   ·intro ex6 s6 hX6;unfold MQ at hX6;obtain⟨rfl,n6_0,n6_1,n6_2,n6_3,n6_4,n6_5⟩:=hX6;by_cases e7:Dp=true
    ·rw [if_pos e7]at h;obtain⟨yK,hl8,h⟩:=AO h;try dsimp only at h
     have c8:=SY tN Ah tD hl8;cases h;simp (maxDischargeDepth:=9) only [↓AB,AC,↓reduceIte,Nat.reduceEqDiff,Nat.reduceLT,Nat.reduceAdd,n6_0,n6_1,n6_2,n6_3,n6_4,n6_5,e7,c8]
    ·rw [if_neg e7]at h;have e7f:Dp=false:=J2.mpr e7;obtain⟨ACR,hl8,h⟩:=AO h;try dsimp only at h
     have c8:=SY tE Ah (2:Int) hl8;cases h;simp (maxDischargeDepth:=9) only [↓AB,AC,↓reduceIte,Nat.reduceEqDiff,Nat.reduceLT,Nat.reduceAdd,n6_0,n6_1,n6_2,n6_3,n6_4,n6_5,e7f,c8]
  ·rw [if_neg e4]at h;have e4f:(MH (Ah.length:Int) (1:Int) (8:Int))=false:=J2.mpr e4;cases h;simp (maxDischargeDepth:=9) only [↓AB,AC,↓reduceIte,Nat.reduceEqDiff,Nat.reduceLT,Nat.reduceAdd,n2_3,n2_4,c3,e4f]<;>(repeat' apply A7)<;>first | rfl | exact⟨_,rfl⟩ | exact⟨_,_,rfl⟩ | simp [A8,AR]
end Go.Proofs.YtjhjkfoabhplfaaGreat
