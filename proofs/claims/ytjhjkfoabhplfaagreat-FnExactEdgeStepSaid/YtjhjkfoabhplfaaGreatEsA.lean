/- What the two steps of an elimination share: lifted. Conditions: none. -/
import Derived.Test.YtjhjkfoabhplfaaGreatL6
import Derived.Test.YtjhjkfoabhplfaaGreatIsP
import Derived.Test.YtjhjkfoabhplfaaGreatCon
import Derived.Test.YtjhjkfoabhplfaaGreatSrt
import Derived.Test.YtjhjkfoabhplfaaGreatHas
import Derived.Test.YtjhjkfoabhplfaaGreatEdg
import Derived.Test.YtjhjkfoabhplfaaGreatZob
namespace Go.Proofs.YtjhjkfoabhplfaaGreat
open Go Dv
set_option linter.unusedSimpArgs false
set_option linter.unusedVariables false
set_option maxRecDepth 100000
set_option maxHeartbeats 4000000
noncomputable def BX(slices:List (List Int))(size BP:Int):Option ((Int×Int)⊕(Int)):= if BP<(slices.length:Int)then ck (0≤BP∧BP.toNat<slices.length)<| if(IntKind.i64.wrap (size+((slices.getD BP.toNat default).length:Int)))<0 then none else some (Sum.inl (IntKind.i64.wrap (size+((slices.getD BP.toNat default).length:Int)),IntKind.i64.wrap (BP+1))) else some (Sum.inr size)
noncomputable def CS(slices:List (List Int))(v:Int×Int):Option (Int):=Gb (fun v=>BX slices v.1 v.2) v
noncomputable def BZ(slices:List (List Int))(newslice:List Int)(Mo:Int):Option (((List Int)×Int)⊕((List Int))):= if Mo<(slices.length:Int)then ck (0≤Mo∧Mo.toNat<slices.length)<| ck (newslice.length+(slices.getD Mo.toNat default).length<1099511627776)<| some (Sum.inl ((newslice++(slices.getD Mo.toNat default)),IntKind.i64.wrap (Mo+1))) else some (Sum.inr newslice)
noncomputable def CU(slices:List (List Int))(v:(List Int)×Int):Option ((List Int)):=Gb (fun v=>BZ slices v.1 v.2) v
noncomputable def Co(slices:List (List Int)):Option ((List Int)):= (CS slices (0,0)).bind fun Au=> ck (0≤Au∧Au<1099511627776)<| (CU slices ([],0)).bind fun Nc=> some Nc
def ZV:SC:= .seq (.ops [oB 12 .lss 3 (tK 11) (tK 10) 3 0]) (.seq (.cond (tK 12) .skip (.exit 0)) (.seq (.block 1 (.seq (.ops [oI 13 22 9 11,oL 14 27 13 27,oA 5 14 27]) (.seq (.ops [oM 15 3 3,oM 16 5 27,oN 17 16 27,oB 18 .add 3 (tK 15) (tK 17) 3 3,oA 3 18 3]) (.seq (.ops [oM 19 3 3,oB 20 .lss 3 (tK 19) (iK 0) 3 4]) (.cond (tK 20) (.ops [oX 21 (.makeInterface 9 (.const (.string {data:= #[108,101,110,32,111,117,116,32,111,102,32,114,97,110,103,101]}))) 20,⟨none,.panic (tK 21),0,none⟩]) .skip))))) (.ops [oB 22 .add 3 (tK 11) (iK 1) 3 3,oM 11 22 3])))
def uH:SC:= .loop ZV
def ZW:SC:= .seq (.ops [oB 28 .lss 3 (tK 27) (tK 26) 3 0]) (.seq (.cond (tK 28) .skip (.exit 2)) (.seq (.block 3 (.seq (.ops [oI 29 22 25 27,oL 30 27 29 27,oA 8 30 27]) (.ops [oM 31 6 27,oM 32 8 27,oX 33 (.call ⟨(.builtin .append), #[(tK 31),(tK 32)], #[27,27]⟩) 27,oA 6 33 27]))) (.ops [oB 34 .add 3 (tK 27) (iK 1) 3 3,oM 27 34 3])))
def uI:SC:= .loop ZW
def k67:SC:= .seq (.ops [oX 2 (.assign (.const (.slice none 0 0))) 27]) (.seq (.ops [oX 3 (.assign (iK 0)) 3]) (.seq (.seq (.ops [oM 9 0 22,oN 10 9 22,oX 11 (.move (iK 0)) 3]) (.block 0 uH)) (.seq (.ops [oM 23 3 3,oC 24 98 [(.const (.slice none 0 0)),(tK 23)] [27,3] 900013,oA 6 24 27]) (.seq (.seq (.ops [oM 25 0 22,oN 26 25 22,oX 27 (.move (iK 0)) 3]) (.block 2 uI)) (.seq (.ops [oM 35 6 27,oA 2 35 27]) .ret)))))
theorem A3n:Tryz.f67.body.map (BO lends)=some k67:=by kernel_rfl
theorem AJI:Bi Tryz.f67 1=true:=by kernel_rfl
theorem c67{a l:List D}{r:D×List D}(h:Bf Y.env k67 (EG AV l.length [ResultVar.tmp 2] r) (entry a l))(ha:a.length=1):Y.call 67 a l=some r:=
 AL (Y:=Y) rfl Tryz.func67 (ha▸AJI) A3n h
def Ba(slices:List (List Int))(size BP:Int)(s:St):Prop:=s.v 0=D.sl 27 (AB (fun x=>D.sl 3 (AB (D.int .i64) x)) slices)∧s.v 3=D.int .i64 size∧s.v 9=D.sl 27 (AB (fun x=>D.sl 3 (AB (D.int .i64) x)) slices)∧s.v 10=D.int .i64 (slices.length:Int)∧s.v 11=D.int .i64 BP
def Cm(slices:List (List Int))(r:Int)(ex:Ex)(s:St):Prop:=ex= .exit 0∧s.v 0=D.sl 27 (AB (fun x=>D.sl 3 (AB (D.int .i64) x)) slices)∧s.v 3=D.int .i64 r
theorem K4(slices:List (List Int)){v:Int×Int}{s:St}{r:Int}(h:CS slices v=some r)(hM:Ba slices v.1 v.2 s):Bf Y.env uH (Cm slices r) s:=by
 unfold CS at h;refine BA (c:=ZV) (fun v=>BX slices v.1 v.2) (fun v s=>Ba slices v.1 v.2 s) (Cm slices) ?_ h hM;clear h hM s v r;intro v s o hM h;obtain⟨size,BP⟩:=v;dsimp only at h hM;unfold BX at h;unfold Ba at hM;obtain⟨m0,m1,m2,m3,m4⟩:=hM;unfold ZV;by_cases e1:BP<(slices.length:Int)
 ·rw [if_pos e1]at h;obtain⟨e2,h⟩:=Av h;by_cases e3:(IntKind.i64.wrap (size+((slices.getD BP.toNat default).length:Int)))<0
  ·rw [if_pos e3]at h;cases h
  ·rw [if_neg e3]at h;cases h;simp (maxDischargeDepth:=9) only [↓AC,A7,AO,AA,AJ,↓reduceIte,Nat.reduceEqDiff,Nat.reduceLT,m0,m1,m2,m3,m4,e1,e2.1,e2.2,e3,Ba,FD]
 ·rw [if_neg e1]at h;cases h;simp (maxDischargeDepth:=9) only [↓AC,A7,AJ,↓reduceIte,Nat.reduceEqDiff,Nat.reduceLT,m0,m1,m3,m4,e1,Ba,Cm,JH]
def Bb(slices:List (List Int))(newslice:List Int)(Mo:Int)(s:St):Prop:=s.v 6=D.own 3 (AB (D.int .i64) newslice)∧s.v 25=D.sl 27 (AB (fun x=>D.sl 3 (AB (D.int .i64) x)) slices)∧s.v 26=D.int .i64 (slices.length:Int)∧s.v 27=D.int .i64 Mo
def Cn(slices:List (List Int))(r:(List Int))(ex:Ex)(s:St):Prop:=ex= .exit 2∧s.v 6=D.own 3 (AB (D.int .i64) r)
theorem K5(slices:List (List Int)){v:(List Int)×Int}{s:St}{r:(List Int)}(h:CU slices v=some r)(hM:Bb slices v.1 v.2 s):Bf Y.env uI (Cn slices r) s:=by
 unfold CU at h;refine BA (c:=ZW) (fun v=>BZ slices v.1 v.2) (fun v s=>Bb slices v.1 v.2 s) (Cn slices) ?_ h hM;clear h hM s v r;intro v s o hM h;obtain⟨newslice,Mo⟩:=v;dsimp only at h hM;unfold BZ at h;unfold Bb at hM;obtain⟨m0,m1,m2,m3⟩:=hM;unfold ZW;by_cases e5:Mo<(slices.length:Int)
 ·rw [if_pos e5]at h;obtain⟨e6,h⟩:=Av h;obtain⟨e7,h⟩:=Av h;cases h;simp (maxDischargeDepth:=9) only [↓AC,A7,AO,AA,AJ,↓reduceIte,Nat.reduceEqDiff,Nat.reduceLT,Nat.reduceLeDiff,m0,m1,m2,m3,e5,e6.1,e6.2,e7,Bb,FD]
 ·rw [if_neg e5]at h;cases h;simp (maxDischargeDepth:=9) only [↓AC,A7,AJ,↓reduceIte,Nat.reduceEqDiff,Nat.reduceLT,m0,m2,m3,e5,Bb,Cn,JH]
theorem Kk(slices:List (List Int)){r:(List Int)}(h:Co slices=some r):Y.call 67 [D.sl 27 (AB (fun x=>D.sl 3 (AB (D.int .i64) x)) slices)] []=some (D.own 3 (AB (D.int .i64) r),[]):=by
 refine c67 ?_ rfl;unfold k67;unfold Co at h;obtain⟨Au,hl2,h⟩:=AU h;try dsimp only at h
 simp (maxDischargeDepth:=9) only [↓AC,A7,AO,AA,AJ,↓reduceIte,Nat.reduceEqDiff,Nat.reduceLT];refine Ag (K4 slices hl2 ?_) ?_
 ·simp (maxDischargeDepth:=9) only [A7,AA,↓reduceIte,Nat.reduceEqDiff,Nat.reduceLT,Ba]
 ·intro ex2 s2 hX2;unfold Cm at hX2;obtain⟨rfl,n2_0,n2_1⟩:=hX2;obtain⟨e3,h⟩:=Av h;have c4:=xQ Au e3;obtain⟨Nc,hl6,h⟩:=AU h;try dsimp only at h
  simp (maxDischargeDepth:=9) only [↓AC,A7,AO,BM,AA,AJ,↓reduceIte,Nat.reduceEqDiff,Nat.reduceLT,Nat.reduceAdd,n2_0,n2_1,c4];refine Ag (K5 slices hl6 ?_) ?_
  ·simp (maxDischargeDepth:=9) only [A7,↓reduceIte,Nat.reduceEqDiff,Bb]<;>(repeat' apply And.intro)<;>first | rfl | exact⟨_,rfl⟩ | exact⟨_,_,rfl⟩ | simp [AB,Aa]
  ·intro ex6 s6 hX6;unfold Cn at hX6;obtain⟨rfl,n6_0⟩:=hX6;cases h;simp (maxDischargeDepth:=9) only [↓AC,A7,AO,AA,↓reduceIte,Nat.reduceEqDiff,Nat.reduceLT,n6_0]
noncomputable def BQ(s_:List Int)(k k1 k2:Int)(Af:List Int):Option ((Int×Int×(List Int))⊕(Int×(List Int))):= if k2<(((s_.length-k.toNat):Nat):Int)then ck (0≤k2∧k2.toNat<(s_.length-k.toNat))<| ck (k.toNat+(s_.length-k.toNat)≤Af.length)<| ck (k.toNat+k2.toNat<Af.length)<| ck (0≤IntKind.i64.wrap (k2-1)∧(IntKind.i64.wrap (k2-1)).toNat<(s_.length-k.toNat))<| ck (k.toNat+(IntKind.i64.wrap (k2-1)).toNat<Af.length)<| if(Af.getD (k.toNat+k2.toNat) default)=(Af.getD (k.toNat+(IntKind.i64.wrap (k2-1)).toNat) default)then some (Sum.inl (k1,IntKind.i64.wrap (k2+1),Af)) else ck (0≤k1∧k1.toNat<Af.length)<| some (Sum.inl (IntKind.i64.wrap (k1+1),IntKind.i64.wrap (k2+1),(Af.set k1.toNat (Af.getD (k.toNat+k2.toNat) default)))) else some (Sum.inr (k1,Af))
noncomputable def Cs(s_:List Int)(k:Int)(v:Int×Int×(List Int)):Option (Int×(List Int)):=Gb (fun v=>BQ s_ k v.1 v.2.1 v.2.2) v
noncomputable def BR(s_:List Int)(k:Int):Option ((Int)⊕(((List Int))⊕Unit)):= if k<(s_.length:Int)then ck (0≤k∧k.toNat<s_.length)<| ck (0≤IntKind.i64.wrap (k-1)∧(IntKind.i64.wrap (k-1)).toNat<s_.length)<| if(s_.getD k.toNat default)=(s_.getD ((IntKind.i64.wrap (k-1)).toNat) default)then ck (0≤k)<| ck (k.toNat≤s_.length)<| (Cs s_ k (k,1,s_)).bind fun RD=> ck (0≤RD.1)<| ck (RD.1.toNat≤RD.2.length)<| ck (RD.1.toNat+(RD.2.length-RD.1.toNat)≤RD.2.length)<| ck (RD.1.toNat≤(iV RD.2 RD.1.toNat (List.replicate (RD.2.length-RD.1.toNat) 0)).length)<| some (Sum.inr (Sum.inl ((iV RD.2 RD.1.toNat (List.replicate (RD.2.length-RD.1.toNat) 0)).take RD.1.toNat))) else some (Sum.inl (IntKind.i64.wrap (k+1))) else some (Sum.inr (Sum.inr ()))
noncomputable def Ct(s_:List Int)(v:Int):Option (((List Int))⊕Unit):=Gb (fun v=>BR s_ v) v
noncomputable def Cj(s_:List Int):Option ((List Int)):=
 if(s_.length:Int)<2 then
  some s_
 else
  (Ct s_ 1).bind fun D6=>
  match D6 with
  | .inl q3_=>
   some q3_
  | .inr q3_=>
   some s_
def ZX:SC:= .seq (.seq (.ops [oM 29 5 3,oM 30 4 27,oN 31 30 27,oB 32 .lss 3 (tK 29) (tK 31) 3 4]) (.cond (tK 32) .skip (.exit 2))) (.seq (.block 3 (.seq (.draws [(⟨[35,4,4],[35,36,37,38,39,40,41,42,43,44],[35]⟩,oM 35 4 27),(⟨[36,5,5],[35,36,37,38,39,40,41,42,43,44],[36]⟩,oM 36 5 3),(⟨[37,35,36,4,5],[35,36,37,38,39,40,41,42,43,44],[37]⟩,oI 37 27 35 36),(⟨[38,37,4],[35,36,37,38,39,40,41,42,43,44],[38]⟩,oL 38 3 37 3),(⟨[39,4,4],[35,36,37,38,39,40,41,42,43,44],[39]⟩,oM 39 4 27),(⟨[40,5,5],[35,36,37,38,39,40,41,42,43,44],[40]⟩,oM 40 5 3),(⟨[41,40,5],[35,36,37,38,39,40,41,42,43,44],[41]⟩,oB 41 .sub 3 (tK 40) (iK 1) 3 3),(⟨[42,39,41,4,41],[35,36,37,38,39,40,41,42,43,44],[42]⟩,oI 42 27 39 41),(⟨[43,42,4],[35,36,37,38,39,40,41,42,43,44],[43]⟩,oL 43 3 42 3),(⟨[44,38,43,4,4],[35,36,37,38,39,40,41,42,43,44],[44]⟩,oB 44 .neq 3 (tK 38) (tK 43) 3 4)]) (.cond (tK 44) (.seq (.ops [oM 45 0 27,oM 46 3 3,oM 47 4 27,oM 48 5 3,oI 49 27 47 48,oL 50 3 49 3,oI 51 27 45 46,oS 3 51 50]) (.ops [oM 52 3 3,oB 53 .add 3 (tK 52) (iK 1) 3 3,oA 3 53 3])) .skip))) (.ops [oM 33 5 3,oB 34 .add 3 (tK 33) (iK 1) 3 3,oA 5 34 3]))
def uJ:SC:= .loop ZX
def ZY:SC:= .seq (.seq (.ops [oM 10 3 3,oM 11 0 27,oN 12 11 27,oB 13 .lss 3 (tK 10) (tK 12) 3 4]) (.cond (tK 13) .skip (.exit 0))) (.seq (.block 1 (.seq (.draws [(⟨[16,0,0],[16,17,18,19,20,21,22,23,24,25],[16]⟩,oM 16 0 27),(⟨[17,3,3],[16,17,18,19,20,21,22,23,24,25],[17]⟩,oM 17 3 3),(⟨[18,16,17,0,3],[16,17,18,19,20,21,22,23,24,25],[18]⟩,oI 18 27 16 17),(⟨[19,18,0],[16,17,18,19,20,21,22,23,24,25],[19]⟩,oL 19 3 18 3),(⟨[20,0,0],[16,17,18,19,20,21,22,23,24,25],[20]⟩,oM 20 0 27),(⟨[21,3,3],[16,17,18,19,20,21,22,23,24,25],[21]⟩,oM 21 3 3),(⟨[22,21,3],[16,17,18,19,20,21,22,23,24,25],[22]⟩,oB 22 .sub 3 (tK 21) (iK 1) 3 3),(⟨[23,20,22,0,22],[16,17,18,19,20,21,22,23,24,25],[23]⟩,oI 23 27 20 22),(⟨[24,23,0],[16,17,18,19,20,21,22,23,24,25],[24]⟩,oL 24 3 23 3),(⟨[25,19,24,0,0],[16,17,18,19,20,21,22,23,24,25],[25]⟩,oB 25 .eql 3 (tK 19) (tK 24) 3 4)]) (.cond (tK 25) (.seq (.ops [oM 26 0 27,oM 27 3 3,oX 28 (.slice 27 (tK 26) (some (tK 27)) none none) 900001,oA 4 28 27]) (.seq (.seq (.ops [oX 5 (.assign (iK 1)) 3]) (.block 2 uJ)) (.seq (.ops [oM 54 0 27,oM 55 3 3,oX 56 (.slice 27 (tK 54) (some (tK 55)) none none) 900001,⟨none,.call ⟨(.builtin .clear), #[(tK 56)], #[27]⟩,0,none⟩])
 (.seq (.ops [oM 57 0 27,oM 58 3 3,oX 59 (.slice 27 (tK 57) none (some (tK 58)) none) 900002,oA 2 59 27]) .ret)))) .skip))) (.ops [oM 14 3 3,oB 15 .add 3 (tK 14) (iK 1) 3 3,oA 3 15 3]))
def uK:SC:= .loop ZY
def k69:SC:= .seq (.ops [oX 2 (.assign (.const (.slice none 0 0))) 27]) (.seq (.seq (.ops [oM 6 0 27,oN 7 6 27,oB 8 .lss 3 (tK 7) (iK 2) 3 4]) (.cond (tK 8) (.seq (.ops [oM 9 0 27,oA 2 9 27]) .ret) .skip)) (.seq (.seq (.ops [oX 3 (.assign (iK 1)) 3]) (.block 0 uK)) (.seq (.ops [oM 60 0 27,oA 2 60 27]) .ret)))
theorem A3o:Tryz.f69.body.map (BO lends)=some k69:=by kernel_rfl
theorem AJK:Bi Tryz.f69 1=true:=by kernel_rfl
theorem c69{a l:List D}{r:D×List D}(h:Bf Y.env k69 (EG AV l.length [ResultVar.tmp 2] r) (entry a l))(ha:a.length=1):Y.call 69 a l=some r:=
 AL (Y:=Y) rfl Tryz.func69 (ha▸AJK) A3o h
def BG(s_:List Int)(k k1 k2:Int)(Af:List Int)(s:St):Prop:=(∃w_,s.v 0=D.vw [100000] (s.k 100000) w_)∧s.v 3=D.int .i64 k1∧(∃w_,s.v 4=D.vs 3 [100000] (s.k 100000) w_ k.toNat (s_.length-k.toNat))∧s.v 5=D.int .i64 k2∧s.v 100000=D.own 3 (AB (D.int .i64) Af)
def Cg(s_:List Int)(k:Int)(r:Int×(List Int))(ex:Ex)(s:St):Prop:=ex= .exit 2∧(∃w_,s.v 0=D.vw [100000] (s.k 100000) w_)∧s.v 3=D.int .i64 r.1∧s.v 100000=D.own 3 (AB (D.int .i64) r.2)
theorem Jo(s_:List Int)(k:Int){v:Int×Int×(List Int)}{s:St}{r:Int×(List Int)}(h:Cs s_ k v=some r)(hM:BG s_ k v.1 v.2.1 v.2.2 s):Bf Y.env uJ (Cg s_ k r) s:=by
 unfold Cs at h;refine BA (c:=ZX) (fun v=>BQ s_ k v.1 v.2.1 v.2.2) (fun v s=>BG s_ k v.1 v.2.1 v.2.2 s) (Cg s_ k) ?_ h hM;clear h hM s v r;intro v s o hM h;obtain⟨k1,k2,Af⟩:=v;dsimp only at h hM;unfold BQ at h;unfold BG at hM;obtain⟨⟨w0_,m0⟩,m1,⟨w2_,m2⟩,m3,m4⟩:=hM;unfold ZX;by_cases e8:k2<(((s_.length-k.toNat):Nat):Int)
 ·rw [if_pos e8]at h;obtain⟨e9,h⟩:=Av h;obtain⟨e10,h⟩:=Av h;obtain⟨e11,h⟩:=Av h;obtain⟨e12,h⟩:=Av h;obtain⟨e13,h⟩:=Av h;by_cases e14:(Af.getD (k.toNat+k2.toNat) default)=(Af.getD (k.toNat+(IntKind.i64.wrap (k2-1)).toNat) default)
  ·rw [if_pos e14]at h;cases h;simp (maxDischargeDepth:=9) only [↓AC,A7,AO,AA,AJ,↓reduceIte,Nat.reduceEqDiff,Nat.reduceLT,Nat.reduceBEq,m0,m1,m2,m3,m4,e8,e9.1,e9.2,e10,e11,e12.1,e12.2,e13,decide_eq_true e14,BG,FD]<;>(repeat' apply And.intro)<;>first | rfl | exact⟨_,rfl⟩ | exact⟨_,_,rfl⟩ | simp [AB,Aa]
  ·rw [if_neg e14]at h;obtain⟨e15,h⟩:=Av h;cases h;simp (maxDischargeDepth:=9) only [↓AC,A7,AO,AA,AJ,↓reduceIte,Nat.reduceEqDiff,Nat.reduceLT,Nat.reduceBEq,m0,m1,m2,m3,m4,e8,e9.1,e9.2,e10,e11,e12.1,e12.2,e13,e14,e15.1,e15.2,BG,FD]<;>(repeat' apply And.intro)<;>first | rfl | exact⟨_,rfl⟩ | exact⟨_,_,rfl⟩ | simp [AB,Aa]
 ·rw [if_neg e8]at h;cases h;simp (maxDischargeDepth:=9) only [↓AC,A7,AJ,↓reduceIte,Nat.reduceEqDiff,Nat.reduceLT,m0,m1,m2,m3,m4,e8,BG,Cg,JH]<;>(repeat' apply And.intro)<;>first | rfl | exact⟨_,rfl⟩ | exact⟨_,_,rfl⟩ | simp [AB,Aa]
def BH(s_:List Int)(k:Int)(s:St):Prop:=(∃w_,s.v 0=D.vw [100000] (s.k 100000) w_)∧s.v 3=D.int .i64 k∧s.v 100000=D.own 3 (AB (D.int .i64) s_)
def BS(s_:List Int)(r:((List Int))⊕Unit)(ex:Ex)(s:St):Prop:=match r with
 | .inl q=>ex= .ret∧s.v 2=D.own 3 (AB (D.int .i64) q)∧s.v 100000=D.undef
 | .inr q=>ex= .exit 0∧(∃w_,s.v 0=D.vw [100000] (s.k 100000) w_)∧s.v 100000=D.own 3 (AB (D.int .i64) s_)
theorem Jp(s_:List Int){v:Int}{s:St}{r:((List Int))⊕Unit}(h:Ct s_ v=some r)(hM:BH s_ v s):Bf Y.env uK (BS s_ r) s:=by
 unfold Ct at h;refine BA (c:=ZY) (fun v=>BR s_ v) (fun v s=>BH s_ v s) (BS s_) ?_ h hM;clear h hM s v r;intro k s o hM h;unfold BR at h;unfold BH at hM;obtain⟨⟨w0_,m0⟩,m1,m2⟩:=hM;unfold ZY;by_cases e2:k<(s_.length:Int)
 ·rw [if_pos e2]at h;obtain⟨e3,h⟩:=Av h;obtain⟨e4,h⟩:=Av h;by_cases e5:(s_.getD k.toNat default)=(s_.getD ((IntKind.i64.wrap (k-1)).toNat) default)
  ·rw [if_pos e5]at h;obtain⟨e6,h⟩:=Av h;obtain⟨e7,h⟩:=Av h;obtain⟨RD,hl9,h⟩:=AU h;try dsimp only at h
   simp (maxDischargeDepth:=9) only [↓AC,A7,AO,AA,AJ,↓reduceIte,Nat.reduceEqDiff,Nat.reduceLT,Nat.reduceBEq,m0,m1,m2,e2,e3.1,e3.2,e4.1,e4.2,decide_eq_true e5,e7];refine Ag (Jo s_ k hl9 ?_) ?_
   ·simp (maxDischargeDepth:=9) only [A7,↓reduceIte,Nat.reduceEqDiff,m0,m1,m2,BG]<;>(repeat' apply And.intro)<;>first | rfl | exact⟨_,rfl⟩ | exact⟨_,_,rfl⟩ | simp [AB,Aa]
   ·intro ex9 s9 hX9;unfold Cg at hX9;obtain⟨rfl,⟨w0_,n9_0⟩,n9_1,n9_2⟩:=hX9;obtain⟨e10,h⟩:=Av h;obtain⟨e11,h⟩:=Av h;obtain⟨e12,h⟩:=Av h;obtain⟨e13,h⟩:=Av h;cases h;simp (maxDischargeDepth:=9) only [↓AC,A7,AO,AA,AJ,↓reduceIte,Nat.reduceEqDiff,Nat.reduceLT,n9_0,n9_1,n9_2,e10,e11,e12,e13,BH,BS,Pz]
  ·rw [if_neg e5]at h;cases h;simp (maxDischargeDepth:=9) only [↓AC,A7,AO,AA,AJ,↓reduceIte,Nat.reduceEqDiff,Nat.reduceLT,Nat.reduceBEq,m0,m1,m2,e2,e3.1,e3.2,e4.1,e4.2,e5,BH,FD]<;>(repeat' apply And.intro)<;>first | rfl | exact⟨_,rfl⟩ | exact⟨_,_,rfl⟩ | simp [AB,Aa]
 ·rw [if_neg e2]at h;cases h;simp (maxDischargeDepth:=9) only [↓AC,A7,AO,AA,AJ,↓reduceIte,Nat.reduceEqDiff,Nat.reduceLT,m0,m1,m2,e2,BH,BS,JH]<;>(repeat' apply And.intro)<;>first | rfl | exact⟨_,rfl⟩ | exact⟨_,_,rfl⟩ | simp [AB,Aa]
theorem K6(s_:List Int){r:(List Int)}(h:Cj s_=some r):Y.call 69 [D.vw [100000] 0 0] [D.own 3 (AB (D.int .i64) s_)]=some (D.own 3 (AB (D.int .i64) r),[D.undef]):=by
 refine c69 ?_ rfl;unfold k69;unfold Cj at h;by_cases e1:(s_.length:Int)<2
 ·rw [if_pos e1]at h;cases h;simp (maxDischargeDepth:=9) only [↓AC,A7,AO,AA,AJ,↓reduceIte,Nat.reduceEqDiff,Nat.reduceLT,Nat.reduceAdd,Nat.reduceSub,e1]
 ·rw [if_neg e1]at h;obtain⟨D6,hl3,h⟩:=AU h;try dsimp only at h
  simp (maxDischargeDepth:=9) only [↓AC,A7,AO,AA,AJ,↓reduceIte,Nat.reduceEqDiff,Nat.reduceLT,Nat.reduceAdd,Nat.reduceSub,e1];refine Ag (Jp s_ hl3 ?_) ?_
  ·simp (maxDischargeDepth:=9) only [A7,AA,↓reduceIte,Nat.reduceEqDiff,Nat.reduceLT,Nat.reduceSub,BH]<;>(repeat' apply And.intro)<;>first | rfl | exact⟨_,rfl⟩ | exact⟨_,_,rfl⟩ | simp [AB,Aa]
  ·intro ex3 s3 hX3;rcases D6 with q3_ | q3_
   ·unfold BS at hX3;dsimp only at hX3 h;obtain⟨rfl,n3_0,n3_1⟩:=hX3;cases h;simp (maxDischargeDepth:=9) only [↓AC,A7,AO,AA,↓reduceIte,Nat.reduceEqDiff,n3_0,n3_1]
   ·unfold BS at hX3;dsimp only at hX3 h;obtain⟨rfl,⟨w0_,n3_0⟩,n3_1⟩:=hX3;cases h;simp (maxDischargeDepth:=9) only [↓AC,A7,AO,AA,↓reduceIte,Nat.reduceEqDiff,Nat.reduceLT,n3_0,n3_1]
noncomputable def El(x_:Int):Option (Bool):= some false
def A3p:SC:= .seq (.ops [oX 2 (.assign (.const (.bool false))) 4]) (.seq (.ops [oM 3 0 3,oM 4 0 3,oB 5 .neq 3 (tK 3) (tK 4) 3 4,oA 2 5 4]) .ret)
theorem xg:Tryz.f101.body.map (BO lends)=some A3p:=by kernel_rfl
theorem AC3:Bi Tryz.f101 1=true:=by kernel_rfl
theorem AJL{a l:List D}{r:D×List D}(h:Bf Y.env A3p (EG AV l.length [ResultVar.tmp 2] r) (entry a l))(ha:a.length=1):Y.call 101 a l=some r:=
 AL (Y:=Y) rfl Tryz.func101 (ha▸AC3) xg h
theorem JK(x_:Int){r:Bool}(h:El x_=some r):Y.call 101 [D.int .i64 x_] []=some (D.bool r,[]):=by
 refine AJL ?_ rfl;unfold A3p;unfold El at h;cases h;simp (maxDischargeDepth:=9) only [↓AC,A7,AA,AJ,↓reduceIte,Nat.reduceEqDiff,Nat.reduceLT]
noncomputable def BC(x_:List Int)(target i j:Int):Option ((Int×Int)⊕(Int)):= if i<j then ck (0≤IntKind.i64.wrap ((IntKind.u64.wrap (IntKind.i64.wrap (i+j))).fdiv (2 ^ (min 1 (IntKind.u64.bits))))∧(IntKind.i64.wrap ((IntKind.u64.wrap (IntKind.i64.wrap (i+j))).fdiv (2 ^ (min 1 (IntKind.u64.bits))))).toNat<x_.length)<| (Dl (x_.getD ((IntKind.i64.wrap ((IntKind.u64.wrap (IntKind.i64.wrap (i+j))).fdiv (2 ^ (min 1 (IntKind.u64.bits))))).toNat) default) target).bind fun D6=> if D6=true then some (Sum.inl (IntKind.i64.wrap ((IntKind.i64.wrap ((IntKind.u64.wrap (IntKind.i64.wrap (i+j))).fdiv (2 ^ (min 1 (IntKind.u64.bits)))))+1),j)) else some (Sum.inl (i,IntKind.i64.wrap ((IntKind.u64.wrap (IntKind.i64.wrap (i+j))).fdiv (2 ^ (min 1 (IntKind.u64.bits)))))) else some (Sum.inr i)
noncomputable def Bd(x_:List Int)(target:Int)(v:Int×Int):Option (Int):=Gb (fun v=>BC x_ target v.1 v.2) v
noncomputable def Bu(x_:List Int)(target:Int):Option (Int×Bool):= (Bd x_ target (0,(x_.length:Int))).bind fun Au=> if Au<(x_.length:Int)then ck (0≤Au∧Au.toNat<x_.length)<| if(x_.getD Au.toNat default)=target then some (Au,true) else (El (x_.getD Au.toNat default)).bind fun Nc=> if Nc=true then (El target).bind fun XC=> some (Au,XC) else some (Au,false) else some (Au,false)
def ZZ:SC:= .seq (.seq (.ops [oM 13 7 3,oM 14 8 3,oB 15 .lss 3 (tK 13) (tK 14) 3 4]) (.cond (tK 15) .skip (.exit 0))) (.block 1 (.seq (.ops [oM 16 7 3,oM 17 8 3,oB 18 .add 3 (tK 16) (tK 17) 3 3,oX 19 (.convert 3 91 (tK 18)) 91,oB 20 .shr 91 (tK 19) (.const (.int .u64 1)) 91 91,oX 21 (.convert 91 3 (tK 20)) 3,oA 9 21 3]) (.seq (.ops [oM 22 0 27,oM 23 9 3,oI 24 27 22 23,oL 25 3 24 3,oM 26 1 3,oC 27 93 [(tK 25),(tK 26)] [3,3] 4]) (.cond (tK 27) (.ops [oM 28 9 3,oB 29 .add 3 (tK 28) (iK 1) 3 3,oA 7 29 3]) (.ops [oM 30 9 3,oA 8 30 3])))))
def uL:SC:= .loop ZZ
def k70:SC:= .seq (.ops [oX 4 (.assign (iK 0)) 3,oX 5 (.assign (.const (.bool false))) 4]) (.seq (.ops [oM 10 0 27,oN 11 10 27,oA 6 11 3]) (.seq (.ops [oM 12 6 3,oX 7 (.assign (iK 0)) 3,oA 8 12 3]) (.seq (.block 0 uL) (.seq (.ops [oM 31 7 3,oM 32 7 3,oM 33 6 3,oB 34 .lss 3 (tK 32) (tK 33) 3 4,oM 35 34 4,⟨some 36,.move (tK 0),27,(some (some 35,true))⟩,⟨some 37,.move (tK 7),3,(some (some 35,true))⟩,⟨some 38,.indexAddr 27 (tK 36) (tK 37),0,(some (some 35,true))⟩,⟨some 39,.load 3 (tK 38),3,(some (some 35,true))⟩,⟨some 40,.move (tK 1),3,(some (some 35,true))⟩,⟨some 41,.binOp .eql 3 (tK 39) (tK 40) 3,4,(some (some 35,true))⟩,⟨some 42,.move (tK 41),4,(some (some 35,true))⟩,⟨some 43,.move (tK 0),27,(some (some 42,false))⟩,⟨some 44,.move (tK 7),3,(some (some 42,false))⟩,⟨some 45,.indexAddr 27 (tK 43) (tK 44),0,(some (some 42,false))⟩,⟨some 46,.load 3 (tK 45),3,(some (some 42,false))⟩,⟨some 47,.call ⟨(.value (.func 101)), #[(tK 46)], #[3]⟩,4,(some (some 42,false))⟩,⟨some 48,.move (tK 47),4,(some (some 42,false))⟩,⟨some 49,.move (tK 1),3,(some (some 48,true))⟩,⟨some 50,.call ⟨(.value (.func 101)), #[(tK 49)], #[3]⟩,4,(some (some 48,true))⟩,⟨some 51,.pick (tK 48) (tK 50) (.const (.bool false)),4,(some (some 42,false))⟩,
 ⟨some 52,.pick (tK 42) (.const (.bool true)) (tK 51),4,(some (some 35,true))⟩,oX 53 (.pick (tK 35) (tK 52) (.const (.bool false))) 4,oA 4 31 3,oA 5 53 4]) .ret))))
theorem A3q:Tryz.f70.body.map (BO lends)=some k70:=by kernel_rfl
theorem AJN:Bi Tryz.f70 2=true:=by kernel_rfl
theorem c70{a l:List D}{r:D×List D}(h:Bf Y.env k70 (EG AV l.length [ResultVar.tmp 4,ResultVar.tmp 5] r) (entry a l))(ha:a.length=2):Y.call 70 a l=some r:=
 AL (Y:=Y) rfl Tryz.func70 (ha▸AJN) A3q h
def Ao(x_:List Int)(target i j:Int)(s:St):Prop:=s.v 0=D.sl 3 (AB (D.int .i64) x_)∧s.v 1=D.int .i64 target∧s.v 6=D.int .i64 (x_.length:Int)∧s.v 7=D.int .i64 i∧s.v 8=D.int .i64 j
def Bw(x_:List Int)(target r:Int)(ex:Ex)(s:St):Prop:=ex= .exit 0∧s.v 0=D.sl 3 (AB (D.int .i64) x_)∧s.v 1=D.int .i64 target∧s.v 6=D.int .i64 (x_.length:Int)∧s.v 7=D.int .i64 r
theorem Ih(x_:List Int)(target:Int){v:Int×Int}{s:St}{r:Int}(h:Bd x_ target v=some r)(hM:Ao x_ target v.1 v.2 s):Bf Y.env uL (Bw x_ target r) s:=by
 unfold Bd at h;refine BA (c:=ZZ) (fun v=>BC x_ target v.1 v.2) (fun v s=>Ao x_ target v.1 v.2 s) (Bw x_ target) ?_ h hM;clear h hM s v r;intro v s o hM h;obtain⟨i,j⟩:=v;dsimp only at h hM;unfold BC at h;unfold Ao at hM;obtain⟨m0,m1,m2,m3,m4⟩:=hM;unfold ZZ;by_cases e1:i<j
 ·rw [if_pos e1]at h;obtain⟨e2,h⟩:=Av h;obtain⟨D6,hl3,h⟩:=AU h;try dsimp only at h
  have c3:=L8 (x_.getD ((IntKind.i64.wrap ((IntKind.u64.wrap (IntKind.i64.wrap (i+j))).fdiv (2 ^ (min 1 (IntKind.u64.bits))))).toNat) default) target hl3;by_cases e4:D6=true
  ·rw [if_pos e4]at h;cases h;simp (maxDischargeDepth:=9) only [↓AC,A7,AO,BM,AA,AJ,↓reduceIte,Nat.reduceEqDiff,Nat.reduceLT,Nat.reduceAdd,Int.reduceLT,Int.reduceToNat,m0,m1,m2,m3,m4,e1,e2.1,e2.2,c3,e4,Ao,FD]
  ·rw [if_neg e4]at h;have e4f:D6=false:=Bool.eq_false_iff.mpr e4;cases h;simp (maxDischargeDepth:=9) only [↓AC,A7,AO,BM,AA,AJ,↓reduceIte,Nat.reduceEqDiff,Nat.reduceLT,Nat.reduceAdd,Int.reduceLT,Int.reduceToNat,m0,m1,m2,m3,m4,e1,e2.1,e2.2,c3,e4f,Ao,FD]
 ·rw [if_neg e1]at h;cases h;simp (maxDischargeDepth:=9) only [↓AC,A7,AJ,↓reduceIte,Nat.reduceEqDiff,Nat.reduceLT,m0,m1,m2,m3,m4,e1,Ao,Bw,JH]
theorem Iw(x_:List Int)(target:Int){r:Int×Bool}(h:Bu x_ target=some r):Y.call 70 [D.sl 3 (AB (D.int .i64) x_),D.int .i64 target] []=some (D.tup [D.int .i64 r.1,D.bool r.2],[]):=by
 refine c70 ?_ rfl;unfold k70;unfold Bu at h;obtain⟨Au,hl2,h⟩:=AU h;try dsimp only at h
 simp (maxDischargeDepth:=9) only [↓AC,A7,AO,AA,AJ,↓reduceIte,Nat.reduceEqDiff,Nat.reduceLT];refine Ag (Ih x_ target hl2 ?_) ?_
 ·simp (maxDischargeDepth:=9) only [A7,AA,↓reduceIte,Nat.reduceEqDiff,Nat.reduceLT,Ao]
 ·intro ex2 s2 hX2;unfold Bw at hX2;obtain⟨rfl,n2_0,n2_1,n2_2,n2_3⟩:=hX2;by_cases e3:Au<(x_.length:Int)
  ·rw [if_pos e3]at h;obtain⟨e4,h⟩:=Av h;by_cases e5:(x_.getD Au.toNat default)=target
   ·rw [if_pos e5]at h;cases h;simp (maxDischargeDepth:=9) only [↓AC,A7,AO,AA,AJ,↓reduceIte,Nat.reduceEqDiff,Nat.reduceLT,n2_0,n2_1,n2_2,n2_3,e3,e4.1,e4.2,decide_eq_true e5]
   ·rw [if_neg e5]at h;obtain⟨Nc,hl6,h⟩:=AU h;try dsimp only at h
    have c6:=JK (x_.getD Au.toNat default) hl6;by_cases e7:Nc=true
    ·rw [if_pos e7]at h;obtain⟨XC,hl8,h⟩:=AU h;try dsimp only at h
     have c8:=JK target hl8;cases h;simp (maxDischargeDepth:=9) only [↓AC,A7,AO,BM,AA,AJ,↓reduceIte,Nat.reduceEqDiff,Nat.reduceLT,Nat.reduceAdd,n2_0,n2_1,n2_2,n2_3,e3,e4.1,e4.2,e5,c6,e7,c8]
    ·rw [if_neg e7]at h;have e7f:Nc=false:=Bool.eq_false_iff.mpr e7;cases h;simp (maxDischargeDepth:=9) only [↓AC,A7,AO,BM,AA,AJ,↓reduceIte,Nat.reduceEqDiff,Nat.reduceLT,Nat.reduceAdd,n2_0,n2_1,n2_2,n2_3,e3,e4.1,e4.2,e5,c6,e7f]
  ·rw [if_neg e3]at h;cases h;simp (maxDischargeDepth:=9) only [↓AC,A7,AA,AJ,↓reduceIte,Nat.reduceEqDiff,Nat.reduceLT,n2_2,n2_3,e3]
noncomputable def Iy(list:List (List Int)):Option ((List (List Int))):= ck (list.length<4611686018427387904)<| ck (∀x∈list,x.length≤9223372036854775807)<| ck ((Er list).length≤9223372036854775807)<| ck (∀x∈(Er list),x.length≤9223372036854775807)<| some (dedL (Er list))
def k71:SC:= .seq (.ops [oX 2 (.assign (.const (.slice none 0 0))) 22]) (.seq (.ops [oM 3 0 22,oC 4 102 [(tK 3),(.func 64)] [22,62] 0]) (.seq (.ops [oM 5 0 22,oC 6 103 [(tK 5),(.func 104)] [22,32] 22,oA 2 6 22]) .ret))
theorem A3r:Tryz.f71.body.map (BO lends)=some k71:=by kernel_rfl
theorem AJP:Bi Tryz.f71 1=true:=by kernel_rfl
theorem c71{a l:List D}{r:D×List D}(h:Bf Y.env k71 (EG AV l.length [ResultVar.tmp 2] r) (entry a l))(ha:a.length=1):Y.call 71 a l=some r:=
 AL (Y:=Y) rfl Tryz.func71 (ha▸AJP) A3r h
theorem QG(list:List (List Int)){r:(List (List Int))}(h:Iy list=some r):Y.call 71 [D.vw [100000] 0 0] [D.own 27 (AB (fun x=>D.own 3 (AB (D.int .i64) x)) list)]=some (D.own 27 (AB (fun x=>D.own 3 (AB (D.int .i64) x)) r),[D.undef]):=by
 refine c71 ?_ rfl;unfold k71;unfold Iy at h;obtain⟨e1,h⟩:=Av h;obtain⟨e2,h⟩:=Av h;have c3:=mo list e1 e2;obtain⟨e4,h⟩:=Av h;obtain⟨e5,h⟩:=Av h;have c6:=mq (Er list) e4 e5;cases h;simp (maxDischargeDepth:=9) only [↓AC,A7,AO,BM,AA,AJ,↓reduceIte,Nat.reduceEqDiff,Nat.reduceLT,Nat.reduceAdd,Nat.reduceSub,c3,c6]
noncomputable def EJ(full:List (List Int))(DF:(List Int))(out:List (List Int))(G9:Int)(numbers:List Int)(Mo:Int):Option (((List Int)×Int)⊕((List Int))):= if Mo<((full.getD G9.toNat default).length:Int)then ck (0≤Mo∧Mo.toNat<(full.getD G9.toNat default).length)<| (Bu DF ((full.getD G9.toNat default).getD Mo.toNat default)).bind fun RD=> ck (numbers.length+1<1099511627776)<| some (Sum.inl ((numbers++[RD.1]),IntKind.i64.wrap (Mo+1))) else some (Sum.inr numbers)
noncomputable def Ht(full:List (List Int))(DF:(List Int))(out:List (List Int))(G9:Int)(v:(List Int)×Int):Option ((List Int)):=Gb (fun v=>EJ full DF out G9 v.1 v.2) v
noncomputable def EK(full:List (List Int))(DF:(List Int))(out:List (List Int))(G9:Int):Option (((List (List Int))×Int)⊕((List (List Int)))):= if G9<(full.length:Int)then ck (0≤G9∧G9.toNat<full.length)<| (Ht full DF out G9 ([],0)).bind fun XC=> ck (XC.length<4611686018427387904)<| ck (out.length+1<1099511627776)<| some (Sum.inl ((out++[(GK XC)]),IntKind.i64.wrap (G9+1))) else some (Sum.inr out)
noncomputable def Hu(full:List (List Int))(DF:(List Int))(v:(List (List Int))×Int):Option ((List (List Int))):=Gb (fun v=>EK full DF v.1 v.2) v
noncomputable def Kl(full:List (List Int)):Option ((List Int)×(List (List Int))):= (Co full).bind fun Cv=> ck (Cv.length<4611686018427387904)<| (Cj (GK Cv)).bind fun DF=> (Hu full DF ([],0)).bind fun Nc=> (Iy Nc).bind fun Za=> some (DF,Za)
def Zb:SC:= .seq (.ops [oB 28 .lss 3 (tK 27) (tK 26) 3 0]) (.seq (.cond (tK 28) .skip (.exit 2)) (.seq (.block 3 (.seq (.ops [oI 29 27 25 27,oL 30 3 29 3,oA 10 30 3]) (.seq (.ops [oM 32 4 27,oM 33 10 3,oC 34 70 [(tK 32),(tK 33)] [27,3] 72,oM 31 34 72,oE 35 31 0 3,oE 36 31 1 4,oA 11 35 3,oA 12 36 4]) (.ops [oM 37 8 27,oM 38 11 3,oX 39 (.buildSlice 27 1 #[(0,(tK 38))]) 27,oX 40 (.call ⟨(.builtin .append), #[(tK 37),(tK 39)], #[27,27]⟩) 27,oA 8 40 27])))) (.ops [oB 41 .add 3 (tK 27) (iK 1) 3 3,oM 27 41 3])))
def uM:SC:= .loop Zb
def Zc:SC:= .seq (.ops [oB 22 .lss 3 (tK 21) (tK 20) 3 0]) (.seq (.cond (tK 22) .skip (.exit 0)) (.seq (.block 1 (.seq (.ops [oI 23 22 19 21,oL 24 27 23 27,oA 7 24 27]) (.seq (.ops [oX 8 (.assign (.const (.slice none 0 0))) 27]) (.seq (.seq (.ops [oM 25 7 27,oN 26 25 27,oX 27 (.move (iK 0)) 3]) (.block 2 uM)) (.seq (.ops [oM 42 8 27,oC 43 68 [(tK 42)] [27] 0]) (.ops [oM 44 5 22,oM 45 8 27,oX 46 (.buildSlice 22 1 #[(0,(tK 45))]) 22,oX 47 (.call ⟨(.builtin .append), #[(tK 44),(tK 46)], #[22,22]⟩) 22,oA 5 47 22])))))) (.ops [oB 48 .add 3 (tK 21) (iK 1) 3 3,oM 21 48 3])))
def uN:SC:= .loop Zc
def k41:SC:= .seq (.ops [oX 2 (.assign (.const (.slice none 0 0))) 27,oX 3 (.assign (.const (.slice none 0 0))) 22]) (.seq (.ops [oM 13 0 22,oC 14 67 [(tK 13)] [22] 27,oA 4 14 27]) (.seq (.ops [oM 15 4 27,oC 16 68 [(tK 15)] [27] 0]) (.seq (.ops [oM 17 4 27,oC 18 69 [(tK 17)] [27] 27,oA 4 18 27]) (.seq (.ops [oX 5 (.assign (.const (.slice none 0 0))) 22]) (.seq (.seq (.ops [oM 19 0 22,oN 20 19 22,oX 21 (.move (iK 0)) 3]) (.block 0 uN)) (.seq (.ops [oM 49 4 27,oM 50 5 22,oC 51 71 [(tK 50)] [22] 22,oA 2 49 27,oA 3 51 22]) .ret))))))
theorem A3s:Tryz.f41.body.map (BO lends)=some k41:=by kernel_rfl
theorem AJR:Bi Tryz.f41 1=true:=by kernel_rfl
theorem c41{a l:List D}{r:D×List D}(h:Bf Y.env k41 (EG AV l.length [ResultVar.tmp 2,ResultVar.tmp 3] r) (entry a l))(ha:a.length=1):Y.call 41 a l=some r:=
 AL (Y:=Y) rfl Tryz.func41 (ha▸AJR) A3s h
def EL(full:List (List Int))(DF:(List Int))(out:List (List Int))(G9:Int)(numbers:List Int)(Mo:Int)(s:St):Prop:=s.v 4=D.own 3 (AB (D.int .i64) DF)∧s.v 5=D.own 27 (AB (fun x=>D.own 3 (AB (D.int .i64) x)) out)∧s.v 8=D.own 3 (AB (D.int .i64) numbers)∧s.v 19=D.sl 27 (AB (fun x=>D.sl 3 (AB (D.int .i64) x)) full)∧s.v 20=D.int .i64 (full.length:Int)∧s.v 21=D.int .i64 G9∧s.v 25=D.sl 3 (AB (D.int .i64) (full.getD G9.toNat default))∧s.v 26=D.int .i64 ((full.getD G9.toNat default).length:Int)∧s.v 27=D.int .i64 Mo
def IK(full:List (List Int))(DF:(List Int))(out:List (List Int))(G9:Int)(r:(List Int))(ex:Ex)(s:St):Prop:=ex= .exit 2∧s.v 4=D.own 3 (AB (D.int .i64) DF)∧s.v 5=D.own 27 (AB (fun x=>D.own 3 (AB (D.int .i64) x)) out)∧s.v 8=D.own 3 (AB (D.int .i64) r)∧s.v 19=D.sl 27 (AB (fun x=>D.sl 3 (AB (D.int .i64) x)) full)∧s.v 20=D.int .i64 (full.length:Int)∧s.v 21=D.int .i64 G9
theorem RP(full:List (List Int))(DF:(List Int))(out:List (List Int))(G9:Int){v:(List Int)×Int}{s:St}{r:(List Int)}(h:Ht full DF out G9 v=some r)(hM:EL full DF out G9 v.1 v.2 s):Bf Y.env uM (IK full DF out G9 r) s:=by
 unfold Ht at h;refine BA (c:=Zb) (fun v=>EJ full DF out G9 v.1 v.2) (fun v s=>EL full DF out G9 v.1 v.2 s) (IK full DF out G9) ?_ h hM;clear h hM s v r;intro v s o hM h;obtain⟨numbers,Mo⟩:=v;dsimp only at h hM;unfold EJ at h;unfold EL at hM;obtain⟨m0,m1,m2,m3,m4,m5,m6,m7,m8⟩:=hM;unfold Zb;by_cases e7:Mo<((full.getD G9.toNat default).length:Int)
 ·rw [if_pos e7]at h;obtain⟨e8,h⟩:=Av h;obtain⟨RD,hl9,h⟩:=AU h;try dsimp only at h
  have c9:=Iw DF ((full.getD G9.toNat default).getD Mo.toNat default) hl9;obtain⟨e10,h⟩:=Av h;cases h;simp (maxDischargeDepth:=9) only [↓AC,A7,AO,BM,AA,AJ,↓reduceIte,Nat.reduceEqDiff,Nat.reduceLT,Nat.reduceLeDiff,Nat.reduceAdd,m0,m1,m2,m3,m4,m5,m6,m7,m8,e7,e8.1,e8.2,c9,e10,EL,FD]
 ·rw [if_neg e7]at h;cases h;simp (maxDischargeDepth:=9) only [↓AC,A7,AJ,↓reduceIte,Nat.reduceEqDiff,Nat.reduceLT,m0,m1,m2,m3,m4,m5,m7,m8,e7,EL,IK,JH]
def EM(full:List (List Int))(DF:(List Int))(out:List (List Int))(G9:Int)(s:St):Prop:=s.v 4=D.own 3 (AB (D.int .i64) DF)∧s.v 5=D.own 27 (AB (fun x=>D.own 3 (AB (D.int .i64) x)) out)∧s.v 19=D.sl 27 (AB (fun x=>D.sl 3 (AB (D.int .i64) x)) full)∧s.v 20=D.int .i64 (full.length:Int)∧s.v 21=D.int .i64 G9
def IL(full:List (List Int))(DF:(List Int))(r:(List (List Int)))(ex:Ex)(s:St):Prop:=ex= .exit 0∧s.v 4=D.own 3 (AB (D.int .i64) DF)∧s.v 5=D.own 27 (AB (fun x=>D.own 3 (AB (D.int .i64) x)) r)
theorem RQ(full:List (List Int))(DF:(List Int)){v:(List (List Int))×Int}{s:St}{r:(List (List Int))}(h:Hu full DF v=some r)(hM:EM full DF v.1 v.2 s):Bf Y.env uN (IL full DF r) s:=by
 unfold Hu at h;refine BA (c:=Zc) (fun v=>EK full DF v.1 v.2) (fun v s=>EM full DF v.1 v.2 s) (IL full DF) ?_ h hM;clear h hM s v r;intro v s o hM h;obtain⟨out,G9⟩:=v;dsimp only at h hM;unfold EK at h;unfold EM at hM;obtain⟨m0,m1,m2,m3,m4⟩:=hM;unfold Zc;by_cases e5:G9<(full.length:Int)
 ·rw [if_pos e5]at h;obtain⟨e6,h⟩:=Av h;obtain⟨XC,hl8,h⟩:=AU h;try dsimp only at h
  simp (maxDischargeDepth:=9) only [↓AC,A7,AO,AA,AJ,↓reduceIte,Nat.reduceEqDiff,Nat.reduceLT,m2,m3,m4,e5,e6.1,e6.2];refine Ag (RP full DF out G9 hl8 ?_) ?_
  ·simp (maxDischargeDepth:=9) only [A7,↓reduceIte,Nat.reduceEqDiff,m0,m1,m2,m3,m4,EL]<;>(repeat' apply And.intro)<;>first | rfl | exact⟨_,rfl⟩ | exact⟨_,_,rfl⟩ | simp [AB,Aa]
  ·intro ex8 s8 hX8;unfold IK at hX8;obtain⟨rfl,n8_0,n8_1,n8_2,n8_3,n8_4,n8_5⟩:=hX8;obtain⟨e9,h⟩:=Av h;have c10:=kM XC e9;obtain⟨e11,h⟩:=Av h;cases h;simp (maxDischargeDepth:=9) only [↓AC,A7,AO,BM,AA,AJ,↓reduceIte,Nat.reduceEqDiff,Nat.reduceLT,Nat.reduceLeDiff,Nat.reduceAdd,n8_0,n8_1,n8_2,n8_3,n8_4,n8_5,c10,e11,EM,FD]
 ·rw [if_neg e5]at h;cases h;simp (maxDischargeDepth:=9) only [↓AC,A7,AJ,↓reduceIte,Nat.reduceEqDiff,Nat.reduceLT,m0,m1,m3,m4,e5,EM,IL,JH]
theorem Si(full:List (List Int)){r:(List Int)×(List (List Int))}(h:Kl full=some r):Y.call 41 [D.sl 27 (AB (fun x=>D.sl 3 (AB (D.int .i64) x)) full)] []=some (D.tup [D.own 3 (AB (D.int .i64) r.1),D.own 27 (AB (fun x=>D.own 3 (AB (D.int .i64) x)) r.2)],[]):=by
 refine c41 ?_ rfl;unfold k41;unfold Kl at h;obtain⟨Cv,hl1,h⟩:=AU h;try dsimp only at h
 have c1:=Kk full hl1;obtain⟨e2,h⟩:=Av h;have c3:=kM Cv e2;obtain⟨DF,hl4,h⟩:=AU h;try dsimp only at h
 have c4:=K6 (GK Cv) hl4;obtain⟨Nc,hl6,h⟩:=AU h;try dsimp only at h
 simp (maxDischargeDepth:=9) only [↓AC,A7,AO,BM,AA,AJ,↓reduceIte,Nat.reduceEqDiff,Nat.reduceLT,Nat.reduceAdd,c1,c3,c4];refine Ag (RQ full DF hl6 ?_) ?_
 ·simp (maxDischargeDepth:=9) only [A7,↓reduceIte,Nat.reduceEqDiff,EM]<;>(repeat' apply And.intro)<;>first | rfl | exact⟨_,rfl⟩ | exact⟨_,_,rfl⟩ | simp [AB,Aa]
 ·intro ex6 s6 hX6;unfold IL at hX6;obtain⟨rfl,n6_0,n6_1⟩:=hX6;obtain⟨Za,hl7,h⟩:=AU h;try dsimp only at h
  have c7:=QG Nc hl7;cases h;simp (maxDischargeDepth:=9) only [↓AC,A7,AO,BM,AA,AJ,↓reduceIte,Nat.reduceEqDiff,Nat.reduceLT,Nat.reduceAdd,n6_0,n6_1,c7]
theorem M6(xs:List Int)(h:xs.length<1099511627776):Y.call 106 [.sl 3 (AB (D.int .i64) xs)] []=some (.own 3 (AB (D.int .i64) xs),[]):=by
 refine mr (AB (D.int .i64) xs) (by rw [CF];exact h) (Xg _ _ (fun x=>rfl)) (VD _ _ (fun x=>by first | exact hoI .. | exact A6s .. | exact hoB .. | exact hoS ..)) ?_
 simp (maxDischargeDepth:=9) only [A7,AO,AA]
noncomputable def EN(labels size:Int)(out:List (List Int))(DY DV:Int)(next1:List (List Int))(a:Int):Option (((List (List Int))×Int)⊕((List (List Int)))):= if a<labels then ck (DV.toNat<out.length)<| ck ((out.getD DV.toNat default).length<1099511627776)<| ck ((out.getD DV.toNat default).length+1<1099511627776)<| ck (next1.length+1<1099511627776)<| some (Sum.inl ((next1++[((out.getD DV.toNat default)++[a])]),IntKind.i64.wrap (a+1))) else some (Sum.inr next1)
noncomputable def GA(labels size:Int)(out:List (List Int))(DY DV:Int)(v:(List (List Int))×Int):Option ((List (List Int))):=Gb (fun v=>EN labels size out DY DV v.1 v.2) v
noncomputable def EO(labels size:Int)(out:List (List Int))(DY:Int)(next:List (List Int))(DV:Int):Option (((List (List Int))×Int)⊕((List (List Int)))):= if DV<(out.length:Int)then ck (0≤DV∧DV.toNat<out.length)<| if 0<((out.getD DV.toNat default).length:Int)then ck (0≤IntKind.i64.wrap (((out.getD DV.toNat default).length:Int)-1)∧(IntKind.i64.wrap (((out.getD DV.toNat default).length:Int)-1)).toNat<(out.getD DV.toNat default).length)<| (GA labels size out DY DV (next,((out.getD DV.toNat default).getD ((IntKind.i64.wrap (((out.getD DV.toNat default).length:Int)-1)).toNat) default))).bind fun Za=> some (Sum.inl (Za,IntKind.i64.wrap (DV+1))) else (GA labels size out DY DV (next,0)).bind fun Nc=> some (Sum.inl (Nc,IntKind.i64.wrap (DV+1))) else some (Sum.inr next)
noncomputable def Hw(labels size:Int)(out:List (List Int))(DY:Int)(v:(List (List Int))×Int):Option ((List (List Int))):=Gb (fun v=>EO labels size out DY v.1 v.2) v
noncomputable def EP(labels size:Int)(out:List (List Int))(DY:Int):Option (((List (List Int))×Int)⊕((List (List Int)))):= if DY<size then (Hw labels size out DY ([],0)).bind fun D6=> some (Sum.inl (D6,IntKind.i64.wrap (DY+1))) else some (Sum.inr out)
noncomputable def Jg(labels size:Int)(v:(List (List Int))×Int):Option ((List (List Int))):=Gb (fun v=>EP labels size v.1 v.2) v
noncomputable def Km(labels size:Int):Option ((List (List Int))):= (Jg labels size ([[]],0)).bind fun Au=> some Au
def Zd:SC:= .seq (.seq (.ops [oM 31 10 3,oM 32 0 3,oB 33 .lss 3 (tK 31) (tK 32) 3 4]) (.cond (tK 33) .skip (.exit 4))) (.seq (.block 5 (.ops [oM 36 6 22,oM 37 8 27,oC 38 106 [(tK 37)] [27] 27,oM 39 10 3,oX 40 (.buildSlice 27 1 #[(0,(tK 39))]) 27,oX 41 (.call ⟨(.builtin .append), #[(tK 38),(tK 40)], #[27,27]⟩) 27,oX 42 (.buildSlice 22 1 #[(0,(tK 41))]) 22,oX 43 (.call ⟨(.builtin .append), #[(tK 36),(tK 42)], #[22,22]⟩) 22,oA 6 43 22])) (.ops [oM 34 10 3,oB 35 .add 3 (tK 34) (iK 1) 3 3,oA 10 35 3]))
def uO:SC:= .loop Zd
def Ze:SC:= .seq (.ops [oB 18 .lss 3 (tK 17) (tK 16) 3 0]) (.seq (.cond (tK 18) .skip (.exit 2)) (.seq (.block 3 (.seq (.ops [oI 19 22 15 17,oL 20 27 19 27,oA 8 20 27]) (.seq (.ops [oX 9 (.assign (iK 0)) 3]) (.seq (.seq (.ops [oM 21 8 27,oN 22 21 27,oB 23 .gtr 3 (tK 22) (iK 0) 3 4]) (.cond (tK 23) (.ops [oM 24 8 27,oM 25 8 27,oN 26 25 27,oB 27 .sub 3 (tK 26) (iK 1) 3 3,oI 28 27 24 27,oL 29 3 28 3,oA 9 29 3]) .skip)) (.seq (.ops [oM 30 9 3,oA 10 30 3]) (.block 4 uO)))))) (.ops [oB 44 .add 3 (tK 17) (iK 1) 3 3,oM 17 44 3])))
def uP:SC:= .loop Ze
def Zf:SC:= .seq (.ops [oB 14 .lss 3 (tK 13) (tK 12) 3 4]) (.seq (.cond (tK 14) .skip (.exit 0)) (.seq (.block 1 (.seq (.ops [oX 6 (.assign (.const (.slice none 0 0))) 22]) (.seq (.seq (.ops [oM 15 5 22,oN 16 15 22,oX 17 (.move (iK 0)) 3]) (.block 2 uP)) (.ops [oM 45 6 22,oA 5 45 22])))) (.ops [oB 46 .add 3 (tK 13) (iK 1) 3 3,oM 13 46 3])))
def uQ:SC:= .loop Zf
def k73:SC:= .seq (.ops [oX 4 (.assign (.const (.slice none 0 0))) 22]) (.seq (.ops [oX 11 (.buildSlice 22 1 #[(0,(.const (.slice none 0 0)))]) 22,oA 5 11 22]) (.seq (.seq (.ops [oM 12 1 3,oX 13 (.move (iK 0)) 3]) (.block 0 uQ)) (.seq (.ops [oM 47 5 22,oA 4 47 22]) .ret)))
theorem A3t:Tryz.f73.body.map (BO lends)=some k73:=by kernel_rfl
theorem AJU:Bi Tryz.f73 2=true:=by kernel_rfl
theorem c73{a l:List D}{r:D×List D}(h:Bf Y.env k73 (EG AV l.length [ResultVar.tmp 4] r) (entry a l))(ha:a.length=2):Y.call 73 a l=some r:=
 AL (Y:=Y) rfl Tryz.func73 (ha▸AJU) A3t h
def DZ(labels size:Int)(out:List (List Int))(DY DV:Int)(next1:List (List Int))(a:Int)(s:St):Prop:=s.v 0=D.int .i64 labels∧s.v 5=D.own 27 (AB (fun x=>D.own 3 (AB (D.int .i64) x)) out)∧s.v 6=D.own 27 (AB (fun x=>D.own 3 (AB (D.int .i64) x)) next1)∧s.v 8=D.vw [5,DV.toNat] (s.k 5) (s.m 5)∧s.v 10=D.int .i64 a∧s.v 12=D.int .i64 size∧s.v 13=D.int .i64 DY∧(∃w_,s.v 15=D.vw [5] (s.k 5) w_)∧s.v 16=D.int .i64 (out.length:Int)∧s.v 17=D.int .i64 DV
def GD(labels size:Int)(out:List (List Int))(DY DV:Int)(r:(List (List Int)))(ex:Ex)(s:St):Prop:=ex= .exit 4∧s.v 0=D.int .i64 labels∧s.v 5=D.own 27 (AB (fun x=>D.own 3 (AB (D.int .i64) x)) out)∧s.v 6=D.own 27 (AB (fun x=>D.own 3 (AB (D.int .i64) x)) r)∧s.v 12=D.int .i64 size∧s.v 13=D.int .i64 DY∧(∃w_,s.v 15=D.vw [5] (s.k 5) w_)∧s.v 16=D.int .i64 (out.length:Int)∧s.v 17=D.int .i64 DV
theorem Mh(labels size:Int)(out:List (List Int))(DY DV:Int){v:(List (List Int))×Int}{s:St}{r:(List (List Int))}(h:GA labels size out DY DV v=some r)(hM:DZ labels size out DY DV v.1 v.2 s):Bf Y.env uO (GD labels size out DY DV r) s:=by
 unfold GA at h;refine BA (c:=Zd) (fun v=>EN labels size out DY DV v.1 v.2) (fun v s=>DZ labels size out DY DV v.1 v.2 s) (GD labels size out DY DV) ?_ h hM;clear h hM s v r;intro v s o hM h;obtain⟨next1,a⟩:=v;dsimp only at h hM;unfold EN at h;unfold DZ at hM;obtain⟨m0,m1,m2,m3,m4,m5,m6,⟨w7_,m7⟩,m8,m9⟩:=hM;unfold Zd;by_cases e6:a<labels
 ·rw [if_pos e6]at h;obtain⟨e7,h⟩:=Av h;obtain⟨e8,h⟩:=Av h;have c9:=M6 (out.getD DV.toNat default) e8;obtain⟨e10,h⟩:=Av h;obtain⟨e11,h⟩:=Av h;cases h;simp (maxDischargeDepth:=9) only [↓AC,A7,AO,AA,AJ,↓reduceIte,Nat.reduceEqDiff,Nat.reduceLT,Nat.reduceLeDiff,Nat.reduceAdd,m0,m1,m2,m3,m4,m5,m6,m7,m8,m9,e6,e7,c9,e10,e11,DZ,FD]<;>(repeat' apply And.intro)<;>first | rfl | exact⟨_,rfl⟩ | exact⟨_,_,rfl⟩ | simp [AB,Aa]
 ·rw [if_neg e6]at h;cases h;simp (maxDischargeDepth:=9) only [↓AC,A7,AJ,↓reduceIte,Nat.reduceEqDiff,Nat.reduceLT,m0,m1,m2,m4,m5,m6,m7,m8,m9,e6,DZ,GD,JH]<;>(repeat' apply And.intro)<;>first | rfl | exact⟨_,rfl⟩ | exact⟨_,_,rfl⟩ | simp [AB,Aa]
def Da(labels size:Int)(out:List (List Int))(DY:Int)(next:List (List Int))(DV:Int)(s:St):Prop:=s.v 0=D.int .i64 labels∧s.v 5=D.own 27 (AB (fun x=>D.own 3 (AB (D.int .i64) x)) out)∧s.v 6=D.own 27 (AB (fun x=>D.own 3 (AB (D.int .i64) x)) next)∧s.v 12=D.int .i64 size∧s.v 13=D.int .i64 DY∧(∃w_,s.v 15=D.vw [5] (s.k 5) w_)∧s.v 16=D.int .i64 (out.length:Int)∧s.v 17=D.int .i64 DV
def IM(labels size:Int)(out:List (List Int))(DY:Int)(r:(List (List Int)))(ex:Ex)(s:St):Prop:=ex= .exit 2∧s.v 0=D.int .i64 labels∧s.v 6=D.own 27 (AB (fun x=>D.own 3 (AB (D.int .i64) x)) r)∧s.v 12=D.int .i64 size∧s.v 13=D.int .i64 DY
theorem RS(labels size:Int)(out:List (List Int))(DY:Int){v:(List (List Int))×Int}{s:St}{r:(List (List Int))}(h:Hw labels size out DY v=some r)(hM:Da labels size out DY v.1 v.2 s):Bf Y.env uP (IM labels size out DY r) s:=by
 unfold Hw at h;refine BA (c:=Ze) (fun v=>EO labels size out DY v.1 v.2) (fun v s=>Da labels size out DY v.1 v.2 s) (IM labels size out DY) ?_ h hM;clear h hM s v r;intro v s o hM h;obtain⟨next,DV⟩:=v;dsimp only at h hM;unfold EO at h;unfold Da at hM;obtain⟨m0,m1,m2,m3,m4,⟨w5_,m5⟩,m6,m7⟩:=hM;unfold Ze;by_cases e2:DV<(out.length:Int)
 ·rw [if_pos e2]at h;obtain⟨e3,h⟩:=Av h;by_cases e4:0<((out.getD DV.toNat default).length:Int)
  ·rw [if_pos e4]at h;obtain⟨e5,h⟩:=Av h;obtain⟨Za,hl7,h⟩:=AU h;try dsimp only at h
   simp (maxDischargeDepth:=9) only [↓AC,A7,AO,AA,AJ,↓reduceIte,Nat.reduceEqDiff,Nat.reduceLT,m1,m5,m6,m7,e2,e3.1,e3.2,e4,e5.1,e5.2];refine Ag (Mh labels size out DY DV hl7 ?_) ?_
   ·simp (maxDischargeDepth:=9) only [A7,↓reduceIte,Nat.reduceEqDiff,m0,m1,m2,m3,m4,m5,m6,m7,DZ]<;>(repeat' apply And.intro)<;>first | rfl | exact⟨_,rfl⟩ | exact⟨_,_,rfl⟩ | simp [AB,Aa]
   ·intro ex7 s7 hX7;unfold GD at hX7;obtain⟨rfl,n7_0,n7_1,n7_2,n7_3,n7_4,⟨w5_,n7_5⟩,n7_6,n7_7⟩:=hX7;cases h;simp (maxDischargeDepth:=9) only [↓AC,A7,AJ,↓reduceIte,Nat.reduceEqDiff,Nat.reduceLT,n7_0,n7_1,n7_2,n7_3,n7_4,n7_5,n7_6,n7_7,Da,FD]<;>(repeat' apply And.intro)<;>first | rfl | exact⟨_,rfl⟩ | exact⟨_,_,rfl⟩ | simp [AB,Aa]
  ·rw [if_neg e4]at h;obtain⟨Nc,hl6,h⟩:=AU h;try dsimp only at h
   simp (maxDischargeDepth:=9) only [↓AC,A7,AO,AA,AJ,↓reduceIte,Nat.reduceEqDiff,Nat.reduceLT,m1,m5,m6,m7,e2,e3.1,e3.2,e4];refine Ag (Mh labels size out DY DV hl6 ?_) ?_
   ·simp (maxDischargeDepth:=9) only [A7,↓reduceIte,Nat.reduceEqDiff,m0,m1,m2,m3,m4,m5,m6,m7,DZ]<;>(repeat' apply And.intro)<;>first | rfl | exact⟨_,rfl⟩ | exact⟨_,_,rfl⟩ | simp [AB,Aa]
   ·intro ex6 s6 hX6;unfold GD at hX6;obtain⟨rfl,n6_0,n6_1,n6_2,n6_3,n6_4,⟨w5_,n6_5⟩,n6_6,n6_7⟩:=hX6;cases h;simp (maxDischargeDepth:=9) only [↓AC,A7,AJ,↓reduceIte,Nat.reduceEqDiff,Nat.reduceLT,n6_0,n6_1,n6_2,n6_3,n6_4,n6_5,n6_6,n6_7,Da,FD]<;>(repeat' apply And.intro)<;>first | rfl | exact⟨_,rfl⟩ | exact⟨_,_,rfl⟩ | simp [AB,Aa]
 ·rw [if_neg e2]at h;cases h;simp (maxDischargeDepth:=9) only [↓AC,A7,AJ,↓reduceIte,Nat.reduceEqDiff,Nat.reduceLT,m0,m2,m3,m4,m6,m7,e2,Da,IM,JH]
def EQ(labels size:Int)(out:List (List Int))(DY:Int)(s:St):Prop:=s.v 0=D.int .i64 labels∧s.v 5=D.own 27 (AB (fun x=>D.own 3 (AB (D.int .i64) x)) out)∧s.v 12=D.int .i64 size∧s.v 13=D.int .i64 DY
def IP(labels size:Int)(r:(List (List Int)))(ex:Ex)(s:St):Prop:=ex= .exit 0∧s.v 5=D.own 27 (AB (fun x=>D.own 3 (AB (D.int .i64) x)) r)
theorem RU(labels size:Int){v:(List (List Int))×Int}{s:St}{r:(List (List Int))}(h:Jg labels size v=some r)(hM:EQ labels size v.1 v.2 s):Bf Y.env uQ (IP labels size r) s:=by
 unfold Jg at h;refine BA (c:=Zf) (fun v=>EP labels size v.1 v.2) (fun v s=>EQ labels size v.1 v.2 s) (IP labels size) ?_ h hM;clear h hM s v r;intro v s o hM h;obtain⟨out,DY⟩:=v;dsimp only at h hM;unfold EP at h;unfold EQ at hM;obtain⟨m0,m1,m2,m3⟩:=hM;unfold Zf;by_cases e1:DY<size
 ·rw [if_pos e1]at h;obtain⟨D6,hl3,h⟩:=AU h;try dsimp only at h
  simp (maxDischargeDepth:=9) only [↓AC,A7,AO,AA,AJ,↓reduceIte,Nat.reduceEqDiff,Nat.reduceLT,m1,m2,m3,e1];refine Ag (RS labels size out DY hl3 ?_) ?_
  ·simp (maxDischargeDepth:=9) only [A7,↓reduceIte,Nat.reduceEqDiff,m0,m1,m2,m3,Da]<;>(repeat' apply And.intro)<;>first | rfl | exact⟨_,rfl⟩ | exact⟨_,_,rfl⟩ | simp [AB,Aa]
  ·intro ex3 s3 hX3;unfold IM at hX3;obtain⟨rfl,n3_0,n3_1,n3_2,n3_3⟩:=hX3;cases h;simp (maxDischargeDepth:=9) only [↓AC,A7,AA,AJ,↓reduceIte,Nat.reduceEqDiff,Nat.reduceLT,n3_0,n3_1,n3_2,n3_3,EQ,FD]
 ·rw [if_neg e1]at h;cases h;simp (maxDischargeDepth:=9) only [↓AC,A7,AJ,↓reduceIte,Nat.reduceEqDiff,Nat.reduceLT,m1,m2,m3,e1,EQ,IP,JH]
theorem Sj(labels size:Int){r:(List (List Int))}(h:Km labels size=some r):Y.call 73 [D.int .i64 labels,D.int .i64 size] []=some (D.own 27 (AB (fun x=>D.own 3 (AB (D.int .i64) x)) r),[]):=by
 refine c73 ?_ rfl;unfold k73;unfold Km at h;obtain⟨Au,hl2,h⟩:=AU h;try dsimp only at h
 simp (maxDischargeDepth:=9) only [↓AC,A7,AA,AJ,↓reduceIte,Nat.reduceEqDiff,Nat.reduceLT,Nat.reduceLeDiff,Nat.reduceAdd];refine Ag (RU labels size hl2 ?_) ?_
 ·simp (maxDischargeDepth:=9) only [A7,AA,↓reduceIte,Nat.reduceEqDiff,Nat.reduceLT,EQ]<;>(repeat' apply And.intro)<;>first | rfl | exact⟨_,rfl⟩ | exact⟨_,_,rfl⟩ | simp [AB,Aa]
 ·intro ex2 s2 hX2;unfold IP at hX2;obtain⟨rfl,n2_0⟩:=hX2;cases h;simp (maxDischargeDepth:=9) only [↓AC,A7,AO,AA,↓reduceIte,Nat.reduceEqDiff,Nat.reduceLT,n2_0]
noncomputable def Ac(s_:List (List Int))(f:(List Int)→Option Bool)(X4:Int):Option ((Int)⊕(Int⊕Unit)):= if X4<(s_.length:Int)then ck (0≤X4∧X4.toNat<s_.length)<| (f (s_.getD X4.toNat default)).bind fun D6=> if D6=true then some (Sum.inr (Sum.inl X4)) else some (Sum.inl (IntKind.i64.wrap (X4+1))) else some (Sum.inr (Sum.inr ()))
noncomputable def Bj(s_:List (List Int))(f:(List Int)→Option Bool)(v:Int):Option (Int⊕Unit):=Gb (fun v=>Ac s_ f v) v
noncomputable def BL(s_:List (List Int))(f:(List Int)→Option Bool):Option (Int):=
 (Bj s_ f 0).bind fun Au=>
 match Au with
 | .inl q2_=>
  some q2_
 | .inr q2_=>
  some (-1)
def Vr:SC:= .seq (.ops [oB 9 .lss 3 (tK 8) (tK 7) 3 0]) (.seq (.cond (tK 9) .skip (.exit 0)) (.seq (.block 1 (.seq (.ops [oM 10 8 3,oA 5 10 3]) (.seq (.ops [oM 11 1 52,oM 12 0 22,oM 13 5 3,oI 14 22 12 13,oL 15 27 14 27,oX 16 (.call ⟨(.value (tK 11)), #[(tK 15)], #[27]⟩) 4]) (.cond (tK 16) (.seq (.ops [oM 17 5 3,oA 4 17 3]) .ret) .skip)))) (.ops [oB 18 .add 3 (tK 8) (iK 1) 3 3,oM 8 18 3])))
def kS:SC:= .loop Vr
def A3u:SC:= .seq (.ops [oX 4 (.assign (iK 0)) 3]) (.seq (.seq (.ops [oM 6 0 22,oN 7 6 22,oX 8 (.move (iK 0)) 3]) (.block 0 kS)) (.seq (.ops [oX 4 (.assign (.const (.int .i64 (-1)))) 3]) .ret))
theorem xh:Tryz.f105.body.map (BO lends)=some A3u:=by kernel_rfl
theorem AC4:Bi Tryz.f105 2=true:=by kernel_rfl
theorem AJV{a l:List D}{r:D×List D}(h:Bf Y.env A3u (EG AV l.length [ResultVar.tmp 4] r) (entry a l))(ha:a.length=2):Y.call 105 a l=some r:=
 AL (Y:=Y) rfl Tryz.func105 (ha▸AC4) xh h
def Aq(s_:List (List Int))(f:(List Int)→Option Bool)(f_f:FuncId)(f_c:List D)(X4:Int)(s:St):Prop:=s.v 0=D.sl 27 (AB (fun x=>D.sl 3 (AB (D.int .i64) x)) s_)∧s.v 1=D.clo f_f f_c∧s.v 7=D.int .i64 (s_.length:Int)∧s.v 8=D.int .i64 X4
def BI(s_:List (List Int))(f:(List Int)→Option Bool)(f_f:FuncId)(f_c:List D)(r:Int⊕Unit)(ex:Ex)(s:St):Prop:=match r with
 | .inl q=>ex= .ret∧s.v 4=D.int .i64 q
 | .inr q=>ex= .exit 0
theorem Iz(s_:List (List Int))(f:(List Int)→Option Bool)(f_f:FuncId)(f_c:List D)(f_h: ∀(a0:List Int) (r:Bool),f a0=some r→Y.call f_f (D.sl 3 (AB (D.int .i64) a0)::f_c) []=some (D.bool r,[]))(f_l:lends f_f=false){v:Int}{s:St}{r:Int⊕Unit}(h:Bj s_ f v=some r)(hM:Aq s_ f f_f f_c v s):Bf Y.env kS (BI s_ f f_f f_c r) s:=by
 unfold Bj at h;refine BA (c:=Vr) (fun v=>Ac s_ f v) (fun v s=>Aq s_ f f_f f_c v s) (BI s_ f f_f f_c) ?_ h hM;clear h hM s v r;intro X4 s o hM h;unfold Ac at h;unfold Aq at hM;obtain⟨m0,m1,m2,m3⟩:=hM;unfold Vr;by_cases e1:X4<(s_.length:Int)
 ·rw [if_pos e1]at h;obtain⟨e2,h⟩:=Av h;obtain⟨D6,hl3,h⟩:=AU h;try dsimp only at h
  have c3:=f_h _ _ hl3;by_cases e4:D6=true
  ·rw [if_pos e4]at h;cases h;simp (maxDischargeDepth:=9) only [↓AC,A7,AO,BM,AA,AJ,↓reduceIte,Nat.reduceEqDiff,Nat.reduceLT,Nat.reduceAdd,m0,m1,m2,m3,f_l,e1,e2.1,e2.2,c3,e4,Aq,BI,Pz]
  ·rw [if_neg e4]at h;have e4f:D6=false:=Bool.eq_false_iff.mpr e4;cases h;simp (maxDischargeDepth:=9) only [↓AC,A7,AO,BM,AA,AJ,↓reduceIte,Nat.reduceEqDiff,Nat.reduceLT,Nat.reduceAdd,m0,m1,m2,m3,f_l,e1,e2.1,e2.2,c3,e4f,Aq,FD]
 ·rw [if_neg e1]at h;cases h;simp (maxDischargeDepth:=9) only [↓AC,A7,AJ,↓reduceIte,Nat.reduceLT,m2,m3,e1,Aq,BI,JH]
theorem JG(s_:List (List Int))(f:(List Int)→Option Bool)(f_f:FuncId)(f_c:List D)(f_h: ∀(a0:List Int) (r:Bool),f a0=some r→Y.call f_f (D.sl 3 (AB (D.int .i64) a0)::f_c) []=some (D.bool r,[]))(f_l:lends f_f=false){r:Int}(h:BL s_ f=some r):Y.call 105 [D.sl 27 (AB (fun x=>D.sl 3 (AB (D.int .i64) x)) s_),D.clo f_f f_c] []=some (D.int .i64 r,[]):=by
 refine AJV ?_ rfl;unfold A3u;unfold BL at h;obtain⟨Au,hl2,h⟩:=AU h;try dsimp only at h
 simp (maxDischargeDepth:=9) only [↓AC,A7,AO,AA,AJ,↓reduceIte,Nat.reduceEqDiff,Nat.reduceLT,Int.reduceNeg];refine Ag (Iz s_ f f_f f_c f_h f_l hl2 ?_) ?_
 ·simp (maxDischargeDepth:=9) only [A7,AA,↓reduceIte,Nat.reduceEqDiff,Nat.reduceLT,Aq]
 ·intro ex2 s2 hX2;rcases Au with q2_ | q2_
  ·unfold BI at hX2;dsimp only at hX2 h;obtain⟨rfl,n2_0⟩:=hX2;cases h;simp (maxDischargeDepth:=9) only [↓AC,A7,AA,↓reduceIte,n2_0]
  ·unfold BI at hX2;dsimp only at hX2 h
   obtain rfl:=hX2
   cases h;simp (maxDischargeDepth:=9) only [↓AC,A7,AA,AJ,↓reduceIte,Nat.reduceEqDiff,Nat.reduceLT,Int.reduceNeg]
noncomputable def BD(del:(List Int)→Option Bool)(i j:Int)(Af:List (Option (List Int))):Option ((Int×Int×(List (Option (List Int))))⊕(Int×(List (Option (List Int))))):= if j<(Af.length:Int)then ck (0≤j∧j.toNat<Af.length)<| ck ((Af.getD j.toNat default).isSome=true)<| (del ((Af.getD j.toNat default).getD default)).bind fun Nc=> if Nc=true then some (Sum.inl (i,IntKind.i64.wrap (j+1),Af)) else ck (0≤i∧i.toNat<Af.length)<| some (Sum.inl (IntKind.i64.wrap (i+1),IntKind.i64.wrap (j+1),((Af.set j.toNat none).set i.toNat (some ((Af.getD j.toNat default).getD default))))) else some (Sum.inr (i,Af))
noncomputable def CL(del:(List Int)→Option Bool)(v:Int×Int×(List (Option (List Int)))):Option (Int×(List (Option (List Int)))):=Gb (fun v=>BD del v.1 v.2.1 v.2.2) v
noncomputable def Bv(s_:List (List Int))(del:(List Int)→Option Bool):Option ((List (List Int))):= (BL s_ del).bind fun Cv=> if Cv=(-1)then some s_ else (CL del (Cv,IntKind.i64.wrap (Cv+1),(s_.map some))).bind fun DF=> ck (0≤DF.1)<| ck (DF.1.toNat≤DF.2.length)<| ck (DF.1.toNat+(DF.2.length-DF.1.toNat)≤DF.2.length)<| ck (DF.1.toNat≤(iV DF.2 DF.1.toNat ((List.replicate (DF.2.length-DF.1.toNat) ([]:List Int)).map some)).length)<| ck ((((iV DF.2 DF.1.toNat ((List.replicate (DF.2.length-DF.1.toNat) ([]:List Int)).map some)).take DF.1.toNat).all Option.isSome)=true)<| some (((iV DF.2 DF.1.toNat ((List.replicate (DF.2.length-DF.1.toNat) ([]:List Int)).map some)).take DF.1.toNat).map fun o=>o.getD default)
def Zg:SC:= .seq (.seq (.ops [oM 16 6 3,oM 17 0 22,oN 18 17 22,oB 19 .lss 3 (tK 16) (tK 18) 3 4]) (.cond (tK 19) .skip (.exit 0))) (.seq (.block 1 (.seq (.ops [oM 22 0 22,oM 23 6 3,oI 24 22 22 23,oL 25 27 24 27,oA 7 25 27]) (.seq (.ops [oM 26 1 52,oM 27 7 27,oX 28 (.call ⟨(.value (tK 26)), #[(tK 27)], #[27]⟩) 4,oX 29 (.unOp .not 4 (tK 28)) 4]) (.cond (tK 29) (.seq (.ops [oM 30 0 22,oM 31 5 3,oM 32 7 27,oI 33 22 30 31,⟨none,(.store 27 (tK 33) (tK 32)),900007,none⟩]) (.ops [oM 34 5 3,oB 35 .add 3 (tK 34) (iK 1) 3 3,oA 5 35 3])) .skip)))) (.ops [oM 20 6 3,oB 21 .add 3 (tK 20) (iK 1) 3 3,oA 6 21 3]))
def uR:SC:= .loop Zg
def k72:SC:= .seq (.ops [oX 4 (.assign (.const (.slice none 0 0))) 22]) (.seq (.ops [oM 8 0 22,oM 9 1 52,oC 10 105 [(tK 8),(tK 9)] [22,52] 3,oA 5 10 3]) (.seq (.seq (.ops [oM 11 5 3,oX 12 (.binOp .eql 3 (tK 11) (.const (.int .i64 (-1))) 3) 4]) (.cond (tK 12) (.seq (.ops [oM 13 0 22,oA 4 13 22]) .ret) .skip)) (.seq (.seq (.ops [oM 14 5 3,oB 15 .add 3 (tK 14) (iK 1) 3 3,oA 6 15 3]) (.block 0 uR)) (.seq (.ops [oM 36 0 22,oM 37 5 3,oX 38 (.slice 22 (tK 36) (some (tK 37)) none none) 900001,⟨none,.call ⟨(.builtin .clear), #[(tK 38)], #[22]⟩,0,none⟩]) (.seq (.ops [oM 39 0 22,oM 40 5 3,oX 41 (.slice 22 (tK 39) none (some (tK 40)) none) 900002,oA 4 41 22]) .ret)))))
theorem A3v:Tryz.f72.body.map (BO lends)=some k72:=by kernel_rfl
theorem AJX:Bi Tryz.f72 2=true:=by kernel_rfl
theorem c72{a l:List D}{r:D×List D}(h:Bf Y.env k72 (EG AV l.length [ResultVar.tmp 4] r) (entry a l))(ha:a.length=2):Y.call 72 a l=some r:=
 AL (Y:=Y) rfl Tryz.func72 (ha▸AJX) A3v h
def Ap(del:(List Int)→Option Bool)(del_f:FuncId)(del_c:List D)(i j:Int)(Af:List (Option (List Int)))(s:St):Prop:=(∃w_,s.v 0=D.vw [100000] (s.k 100000) w_)∧s.v 1=D.clo del_f del_c∧s.v 5=D.int .i64 i∧s.v 6=D.int .i64 j∧s.v 100000=D.own 27 (AB (NJ (fun x=>D.own 3 (AB (D.int .i64) x))) Af)
def Bz(del:(List Int)→Option Bool)(del_f:FuncId)(del_c:List D)(r:Int×(List (Option (List Int))))(ex:Ex)(s:St):Prop:=ex= .exit 0∧(∃w_,s.v 0=D.vw [100000] (s.k 100000) w_)∧s.v 5=D.int .i64 r.1∧s.v 100000=D.own 27 (AB (NJ (fun x=>D.own 3 (AB (D.int .i64) x))) r.2)
theorem Ii(del:(List Int)→Option Bool)(del_f:FuncId)(del_c:List D)(del_h: ∀(a0:List Int) (r:Bool),del a0=some r→Y.call del_f (D.sl 3 (AB (D.int .i64) a0)::del_c) []=some (D.bool r,[]))(del_l:lends del_f=false){v:Int×Int×(List (Option (List Int)))}{s:St}{r:Int×(List (Option (List Int)))}(h:CL del v=some r)(hM:Ap del del_f del_c v.1 v.2.1 v.2.2 s):Bf Y.env uR (Bz del del_f del_c r) s:=by
 unfold CL at h;refine BA (c:=Zg) (fun v=>BD del v.1 v.2.1 v.2.2) (fun v s=>Ap del del_f del_c v.1 v.2.1 v.2.2 s) (Bz del del_f del_c) ?_ h hM;clear h hM s v r;intro v s o hM h;obtain⟨i,j,Af⟩:=v;dsimp only at h hM;unfold BD at h;unfold Ap at hM;obtain⟨⟨w0_,m0⟩,m1,m2,m3,m4⟩:=hM;unfold Zg;by_cases e3:j<(Af.length:Int)
 ·rw [if_pos e3]at h;obtain⟨e4,h⟩:=Av h;obtain⟨e5,h⟩:=Av h;obtain⟨Nc,hl6,h⟩:=AU h;try dsimp only at h
  have c6:=del_h _ _ hl6;by_cases e7:Nc=true
  ·rw [if_pos e7]at h;cases h;simp (maxDischargeDepth:=9) only [↓AC,A7,AO,AA,AJ,↓reduceIte,Nat.reduceEqDiff,Nat.reduceLT,Nat.reduceAdd,m0,m1,m2,m3,m4,del_l,e3,e4.1,e4.2,e5,c6,e7,Ap,FD]<;>(repeat' apply And.intro)<;>first | rfl | exact⟨_,rfl⟩ | exact⟨_,_,rfl⟩ | simp [AB,Aa]
  ·rw [if_neg e7]at h;have e7f:Nc=false:=Bool.eq_false_iff.mpr e7;obtain⟨e8,h⟩:=Av h;cases h;simp (maxDischargeDepth:=9) only [↓AC,A7,AO,BM,AA,AJ,↓reduceIte,Nat.reduceEqDiff,Nat.reduceLT,Nat.reduceAdd,m0,m1,m2,m3,m4,del_l,e3,e4.1,e4.2,e5,c6,e7f,e8.1,e8.2,Ap,FD]<;>(repeat' apply And.intro)<;>first | rfl | exact⟨_,rfl⟩ | exact⟨_,_,rfl⟩ | simp [AB,Aa]
 ·rw [if_neg e3]at h;cases h;simp (maxDischargeDepth:=9) only [↓AC,A7,AO,AA,AJ,↓reduceIte,Nat.reduceEqDiff,Nat.reduceLT,m0,m2,m3,m4,e3,Ap,Bz,JH]<;>(repeat' apply And.intro)<;>first | rfl | exact⟨_,rfl⟩ | exact⟨_,_,rfl⟩ | simp [AB,Aa]
theorem J2(s_:List (List Int))(del:(List Int)→Option Bool)(del_f:FuncId)(del_c:List D)(del_h: ∀(a0:List Int) (r:Bool),del a0=some r→Y.call del_f (D.sl 3 (AB (D.int .i64) a0)::del_c) []=some (D.bool r,[]))(del_l:lends del_f=false){r:(List (List Int))}(h:Bv s_ del=some r):Y.call 72 [D.vw [100000] 0 0,D.clo del_f del_c] [D.own 27 (AB (fun x=>D.own 3 (AB (D.int .i64) x)) s_)]=some (D.own 27 (AB (fun x=>D.own 3 (AB (D.int .i64) x)) r),[D.undef]):=by
 refine c72 ?_ rfl;unfold k72;unfold Bv at h;obtain⟨Cv,hl1,h⟩:=AU h;try dsimp only at h
 have c1:=JG s_ del del_f del_c del_h del_l hl1;by_cases e2:Cv=(-1)
 ·rw [if_pos e2]at h;cases h;simp (maxDischargeDepth:=9) only [↓AC,A7,AO,BM,AA,AJ,↓reduceIte,Nat.reduceEqDiff,Nat.reduceLT,Nat.reduceAdd,Nat.reduceSub,Int.reduceNeg,c1,decide_eq_true e2]
 ·rw [if_neg e2]at h;obtain⟨DF,hl4,h⟩:=AU h;try dsimp only at h
  simp (maxDischargeDepth:=9) only [↓AC,A7,AO,BM,AA,AJ,↓reduceIte,Nat.reduceEqDiff,Nat.reduceLT,Nat.reduceAdd,Nat.reduceSub,Int.reduceNeg,c1,e2];refine Ag (Ii del del_f del_c del_h del_l hl4 ?_) ?_
  ·simp (maxDischargeDepth:=9) only [A7,AO,AA,↓reduceIte,Nat.reduceEqDiff,Nat.reduceLT,Nat.reduceSub,Ap]<;>(repeat' apply And.intro)<;>first | rfl | exact⟨_,rfl⟩ | exact⟨_,_,rfl⟩ | simp [AB,Aa]
  ·intro ex4 s4 hX4;unfold Bz at hX4;obtain⟨rfl,⟨w0_,n4_0⟩,n4_1,n4_2⟩:=hX4;obtain⟨e5,h⟩:=Av h;obtain⟨e6,h⟩:=Av h;obtain⟨e7,h⟩:=Av h;obtain⟨e8,h⟩:=Av h;obtain⟨e9,h⟩:=Av h;cases h;simp (maxDischargeDepth:=9) only [↓AC,A7,AO,AA,AJ,↓reduceIte,Nat.reduceEqDiff,Nat.reduceLT,n4_0,n4_1,n4_2,e5,e6,e7,e8,e9]
noncomputable def J3(c_:List Int)(c0_:(List Int)→Option Bool):Option (Bool):= (c0_ c_).bind fun Cv=> some (!Cv)
def k74:SC:= .seq (.ops [oX 3 (.assign (.const (.bool false))) 4]) (.seq (.ops [oL 4 52 1 52,oM 5 0 27,oX 6 (.call ⟨(.value (tK 4)), #[(tK 5)], #[27]⟩) 4,oX 7 (.unOp .not 4 (tK 6)) 4,oA 3 7 4]) .ret)
theorem A3w:Tryz.f74.body.map (BO lends)=some k74:=by kernel_rfl
theorem AJZ:Bi Tryz.f74 2=true:=by kernel_rfl
theorem c74{a l:List D}{r:D×List D}(h:Bf Y.env k74 (EG AV l.length [ResultVar.tmp 3] r) (entry a l))(ha:a.length=2):Y.call 74 a l=some r:=
 AL (Y:=Y) rfl Tryz.func74 (ha▸AJZ) A3w h
theorem QH(c_:List Int)(c0_:(List Int)→Option Bool)(c0__f:FuncId)(c0__c:List D)(c0__h: ∀(a0:List Int) (r:Bool),c0_ a0=some r→Y.call c0__f (D.sl 3 (AB (D.int .i64) a0)::c0__c) []=some (D.bool r,[]))(c0__l:lends c0__f=false){r:Bool}(h:J3 c_ c0_=some r):Y.call 74 [D.sl 3 (AB (D.int .i64) c_),D.cptr [D.clo c0__f c0__c]] []=some (D.bool r,[]):=by
 refine c74 ?_ rfl;unfold k74;unfold J3 at h;obtain⟨Cv,hl1,h⟩:=AU h;try dsimp only at h
 have c1:=c0__h _ _ hl1;cases h;simp (maxDischargeDepth:=9) only [↓AC,A7,BM,AA,AJ,↓reduceIte,Nat.reduceEqDiff,Nat.reduceLT,Nat.reduceAdd,c0__l,c1]
noncomputable def JL(labels size:Int)(good:(List Int)→Option Bool):Option ((List (List Int))):= (Km labels size).bind fun Cv=> (Bv Cv (fun a0=>J3 a0 good)).bind fun Au=> some Au
def k42:SC:= .seq (.ops [oX 5 (.box 52 (tK 2)) 0,oX 6 (.assign (.const (.slice none 0 0))) 22]) (.seq (.ops [oM 7 0 3,oM 8 1 3,oC 9 73 [(tK 7),(tK 8)] [3,3] 22,oX 10 (.makeFunc (Fn.func 74) #[] #[(tK 5)]) 52,oC 11 72 [(tK 9),(tK 10)] [22,52] 22,oA 6 11 22]) .ret)
theorem A3x:Tryz.f42.body.map (BO lends)=some k42:=by kernel_rfl
theorem AJb:Bi Tryz.f42 3=true:=by kernel_rfl
theorem nQ{a l:List D}{r:D×List D}(h:Bf Y.env k42 (EG AV l.length [ResultVar.tmp 6] r) (entry a l))(ha:a.length=3):Y.call 42 a l=some r:=
 AL (Y:=Y) rfl Tryz.func42 (ha▸AJb) A3x h
theorem Sk(labels size:Int)(good:(List Int)→Option Bool)(good_f:FuncId)(good_c:List D)(good_h: ∀(a0:List Int) (r:Bool),good a0=some r→Y.call good_f (D.sl 3 (AB (D.int .i64) a0)::good_c) []=some (D.bool r,[]))(good_l:lends good_f=false){r:(List (List Int))}(h:JL labels size good=some r):Y.call 42 [D.int .i64 labels,D.int .i64 size,D.clo good_f good_c] []=some (D.own 27 (AB (fun x=>D.own 3 (AB (D.int .i64) x)) r),[]):=by
 refine nQ ?_ rfl;unfold k42;unfold JL at h;obtain⟨Cv,hl1,h⟩:=AU h;try dsimp only at h
 have c1:=Sj labels size hl1;obtain⟨Au,hl2,h⟩:=AU h;try dsimp only at h
 have c2:=J2 Cv (fun a0=>J3 a0 good) 74 [D.cptr [D.clo good_f good_c]] (fun a0 _ hh=>QH a0 good good_f good_c good_h good_l hh) A2p hl2;cases h;simp (maxDischargeDepth:=9) only [↓AC,A7,AO,BM,AA,AJ,↓reduceIte,Nat.reduceEqDiff,Nat.reduceLT,Nat.reduceAdd,c1,c2]
noncomputable def Dm(rec_:Int→(List Int)→(List (List Int))→Option (Bool×(List Int)))(k:Int)(c0_:List (List Int))(G9:Int)(t100000_0:List Int):Option ((Int×(List Int))⊕(((List Int))⊕((List Int)))):= if G9<((c0_.getD k.toNat default).length:Int)then ck (0≤G9∧G9.toNat<(c0_.getD k.toNat default).length)<| ck (0≤k∧k.toNat<t100000_0.length)<| (rec_ (IntKind.i64.wrap (k+1)) (t100000_0.set k.toNat ((c0_.getD k.toNat default).getD G9.toNat default)) c0_).bind fun Nc=> if Nc.1=true then some (Sum.inr (Sum.inl Nc.2)) else some (Sum.inl (IntKind.i64.wrap (G9+1),Nc.2)) else some (Sum.inr (Sum.inr t100000_0))
noncomputable def GY(rec_:Int→(List Int)→(List (List Int))→Option (Bool×(List Int)))(k:Int)(c0_:List (List Int))(v:Int×(List Int)):Option (((List Int))⊕((List Int))):=Gb (fun v=>Dm rec_ k c0_ v.1 v.2) v
noncomputable def DJ(rec_:Int→(List Int)→(List (List Int))→Option (Bool×(List Int)))(k:Int)(o0_:List Int)(c0_:List (List Int))(c1_:(List Int)→Option Bool):Option (Bool×(List Int)):=
 if k=(c0_.length:Int)then
  (c1_ o0_).bind fun Au=>
  some (Au,o0_)
 else
  ck (0≤k∧k.toNat<c0_.length)<|
  (GY rec_ k c0_ (0,o0_)).bind fun DF=>
  match DF with
  | .inl q4_=>
   some (true,q4_)
  | .inr q4_=>
   some (false,q4_)
noncomputable def Bl(c1_:(List Int)→Option Bool):Nat→Int→(List Int)→(List (List Int))→Option (Bool×(List Int)) | 0=>fun _ _ _=>none | n+1=>fun k o0_ c0_=>DJ (Bl c1_ n) k o0_ c0_ c1_
noncomputable def L6(k:Int)(o0_:List Int)(c0_:List (List Int))(c1_:(List Int)→Option Bool):Option (Bool×(List Int)):=Bl c1_ 1000000 k o0_ c0_
def Vs:SC:= .seq (.ops [oB 22 .lss 3 (tK 21) (tK 20) 3 0]) (.seq (.cond (tK 22) .skip (.exit 0)) (.seq (.block 1 (.seq (.ops [oI 23 27 19 21,oL 24 3 23 3,oA 8 24 3]) (.seq (.ops [oL 25 27 3 27,oM 26 0 3,oM 27 8 3,oI 28 27 25 26,oS 3 28 27]) (.seq (.ops [oL 29 87 4 87,oM 30 0 3,oB 31 .add 3 (tK 30) (iK 1) 3 3,oX 32 (.call ⟨(.value (tK 29)), #[(tK 31)], #[3]⟩) 4]) (.cond (tK 32) (.seq (.ops [oX 6 (.assign (.const (.bool true))) 4]) .ret) .skip))))) (.ops [oB 33 .add 3 (tK 21) (iK 1) 3 3,oM 21 33 3])))
def kT:SC:= .loop Vs
def A3y:SC:= .seq (.ops [oX 6 (.assign (.const (.bool false))) 4]) (.seq (.seq (.ops [oM 9 0 3,oL 10 22 1 22,oN 11 10 22,oB 12 .eql 3 (tK 9) (tK 11) 3 4]) (.cond (tK 12) (.seq (.ops [oL 13 52 2 52,oL 14 27 3 27,oX 15 (.call ⟨(.value (tK 13)), #[(tK 14)], #[27]⟩) 4,oA 6 15 4]) .ret) .skip)) (.seq (.seq (.ops [oL 16 22 1 22,oM 17 0 3,oI 18 22 16 17,oL 19 27 18 27,oN 20 19 27,oX 21 (.move (iK 0)) 3]) (.block 0 kT)) (.seq (.ops [oX 6 (.assign (.const (.bool false))) 4]) .ret)))
theorem xk:Tryz.f107.body.map (BO lends)=some A3y:=by kernel_rfl
theorem AC5:Bi Tryz.f107 5=true:=by kernel_rfl
theorem AJc{a l:List D}{r:D×List D}(h:Bf Y.env A3y (EG AV l.length [ResultVar.tmp 6] r) (entry a l))(ha:a.length=5):Y.call 107 a l=some r:=
 AL (Y:=Y) rfl Tryz.func107 (ha▸AC5) xk h
def Cb(rec_:Int→(List Int)→(List (List Int))→Option (Bool×(List Int)))(k:Int)(c0_:List (List Int))(c1__f:FuncId)(c1__c:List D)(G9:Int)(t100000_0:List Int)(s:St):Prop:=s.v 0=D.int .i64 k∧(∃w_,s.v 3=D.vw [100000] (s.k 100000) w_)∧(∃w_,s.v 4=D.ocl true 107 [D.cptr [D.sl 27 (AB (fun x=>D.sl 3 (AB (D.int .i64) x)) c0_)],D.cptr [D.clo c1__f c1__c],D.vw [100000] (s.k 100000) w_,D.undef])∧s.v 19=D.sl 3 (AB (D.int .i64) (c0_.getD k.toNat default))∧s.v 20=D.int .i64 ((c0_.getD k.toNat default).length:Int)∧s.v 21=D.int .i64 G9∧s.v 100000=D.box [D.own 3 (AB (D.int .i64) t100000_0)]
def Cx(rec_:Int→(List Int)→(List (List Int))→Option (Bool×(List Int)))(k:Int)(c0_:List (List Int))(c1__f:FuncId)(c1__c:List D)(r:((List Int))⊕((List Int)))(ex:Ex)(s:St):Prop:=match r with
 | .inl q=>ex= .ret∧s.v 6=D.bool true∧s.v 100000=D.box [D.own 3 (AB (D.int .i64) q)]
 | .inr q=>ex= .exit 0∧s.v 100000=D.box [D.own 3 (AB (D.int .i64) q)]
theorem OM(rec_:Int→(List Int)→(List (List Int))→Option (Bool×(List Int)))(k:Int)(c0_:List (List Int))(c1__f:FuncId)(c1__c:List D)(rec_h: ∀(k:Int) (o0_:List Int) (c0_:List (List Int)) (r:Bool×(List Int)),rec_ k o0_ c0_=some r→Y.call 107 [D.int .i64 k,D.cptr [D.sl 27 (AB (fun x=>D.sl 3 (AB (D.int .i64) x)) c0_)],D.cptr [D.clo c1__f c1__c],D.vw [100000] 0 0,D.ocl true 107 [D.cptr [D.sl 27 (AB (fun x=>D.sl 3 (AB (D.int .i64) x)) c0_)],D.cptr [D.clo c1__f c1__c],D.vw [100000] 0 0,D.undef]] [D.box [D.own 3 (AB (D.int .i64) o0_)]]=some (D.bool r.1,[D.box [D.own 3 (AB (D.int .i64) r.2)]])){v:Int×(List Int)}{s:St}{r:((List Int))⊕((List Int))}(h:GY rec_ k c0_ v=some r)(hM:Cb rec_ k c0_ c1__f c1__c v.1 v.2 s):Bf Y.env kT (Cx rec_ k c0_ c1__f c1__c r) s:=by
 unfold GY at h;refine BA (c:=Vs) (fun v=>Dm rec_ k c0_ v.1 v.2) (fun v s=>Cb rec_ k c0_ c1__f c1__c v.1 v.2 s) (Cx rec_ k c0_ c1__f c1__c) ?_ h hM;clear h hM s v r;intro v s o hM h;obtain⟨G9,t100000_0⟩:=v;dsimp only at h hM;unfold Dm at h;unfold Cb at hM;obtain⟨m0,⟨w1_,m1⟩,⟨w2_,m2⟩,m3,m4,m5,m6⟩:=hM;unfold Vs;by_cases e3:G9<((c0_.getD k.toNat default).length:Int)
 ·rw [if_pos e3]at h;obtain⟨e4,h⟩:=Av h;obtain⟨e5,h⟩:=Av h;obtain⟨Nc,hl6,h⟩:=AU h;try dsimp only at h
  have c6:=rec_h _ _ _ _ hl6;by_cases e7:Nc.1=true
  ·rw [if_pos e7]at h;cases h;simp (maxDischargeDepth:=9) only [↓AC,A7,AO,BM,AA,AJ,↓reduceIte,Nat.reduceEqDiff,Nat.reduceLT,Nat.reduceAdd,m0,m1,m2,m3,m4,m5,m6,e3,e4.1,e4.2,e5.1,e5.2,c6,e7,Cb,Cx,Pz]
  ·rw [if_neg e7]at h;have e7f:Nc.1=false:=Bool.eq_false_iff.mpr e7;cases h;simp (maxDischargeDepth:=9) only [↓AC,A7,AO,BM,AA,AJ,↓reduceIte,Nat.reduceEqDiff,Nat.reduceLT,Nat.reduceAdd,m0,m1,m2,m3,m4,m5,m6,e3,e4.1,e4.2,e5.1,e5.2,c6,e7f,Cb,FD]<;>(repeat' apply And.intro)<;>first | rfl | exact⟨_,rfl⟩ | exact⟨_,_,rfl⟩ | simp [AB,Aa]
 ·rw [if_neg e3]at h;cases h;simp (maxDischargeDepth:=9) only [↓AC,A7,AJ,↓reduceIte,Nat.reduceEqDiff,Nat.reduceLT,m4,m5,m6,e3,Cb,Cx,JH]
theorem OA(rec_:Int→(List Int)→(List (List Int))→Option (Bool×(List Int)))(k:Int)(o0_:List Int)(c0_:List (List Int))(c1_:(List Int)→Option Bool)(c1__f:FuncId)(c1__c:List D)(rec_h: ∀(k:Int) (o0_:List Int) (c0_:List (List Int)) (r:Bool×(List Int)),rec_ k o0_ c0_=some r→Y.call 107 [D.int .i64 k,D.cptr [D.sl 27 (AB (fun x=>D.sl 3 (AB (D.int .i64) x)) c0_)],D.cptr [D.clo c1__f c1__c],D.vw [100000] 0 0,D.ocl true 107 [D.cptr [D.sl 27 (AB (fun x=>D.sl 3 (AB (D.int .i64) x)) c0_)],D.cptr [D.clo c1__f c1__c],D.vw [100000] 0 0,D.undef]] [D.box [D.own 3 (AB (D.int .i64) o0_)]]=some (D.bool r.1,[D.box [D.own 3 (AB (D.int .i64) r.2)]]))(c1__h: ∀(a0:List Int) (r:Bool),c1_ a0=some r→Y.call c1__f (D.sl 3 (AB (D.int .i64) a0)::c1__c) []=some (D.bool r,[]))(c1__l:lends c1__f=false){r:Bool×(List Int)}(h:DJ rec_ k o0_ c0_ c1_=some r):Y.call 107 [D.int .i64 k,D.cptr [D.sl 27 (AB (fun x=>D.sl 3 (AB (D.int .i64) x)) c0_)],D.cptr [D.clo c1__f c1__c],D.vw [100000] 0 0,D.ocl true 107 [D.cptr [D.sl 27 (AB (fun x=>D.sl 3 (AB (D.int .i64) x)) c0_)],D.cptr [D.clo c1__f c1__c],D.vw [100000] 0 0,D.undef]] [D.box [D.own 3 (AB (D.int .i64) o0_)]]=some (D.bool r.1,[D.box [D.own 3 (AB (D.int .i64) r.2)]]):=by
 refine AJc ?_ rfl;unfold A3y;unfold DJ at h;by_cases e1:k=(c0_.length:Int)
 ·rw [if_pos e1]at h;obtain⟨Au,hl2,h⟩:=AU h;try dsimp only at h
  have c2:=c1__h _ _ hl2;cases h;simp (maxDischargeDepth:=9) only [↓AC,A7,AO,AA,AJ,↓reduceIte,Nat.reduceEqDiff,Nat.reduceLT,Nat.reduceAdd,Nat.reduceSub,c1__l,decide_eq_true e1,c2]
 ·rw [if_neg e1]at h;obtain⟨e2,h⟩:=Av h;obtain⟨DF,hl4,h⟩:=AU h;try dsimp only at h
  simp (maxDischargeDepth:=9) only [↓AC,A7,AO,AA,AJ,↓reduceIte,Nat.reduceEqDiff,Nat.reduceLT,Nat.reduceAdd,e1,e2.1,e2.2];refine Ag (OM rec_ k c0_ c1__f c1__c rec_h hl4 ?_) ?_
  ·simp (maxDischargeDepth:=9) only [A7,AA,↓reduceIte,Nat.reduceEqDiff,Nat.reduceLT,Nat.reduceSub,Cb]<;>(repeat' apply And.intro)<;>first | rfl | exact⟨_,rfl⟩ | exact⟨_,_,rfl⟩ | simp [AB,Aa]
  ·intro ex4 s4 hX4;rcases DF with q4_ | q4_
   ·unfold Cx at hX4;dsimp only at hX4 h;obtain⟨rfl,n4_0,n4_1⟩:=hX4;cases h;simp (maxDischargeDepth:=9) only [↓AC,A7,AO,AA,↓reduceIte,n4_0,n4_1]
   ·unfold Cx at hX4;dsimp only at hX4 h;obtain⟨rfl,n4_0⟩:=hX4;cases h;simp (maxDischargeDepth:=9) only [↓AC,A7,AO,AA,AJ,↓reduceIte,Nat.reduceEqDiff,Nat.reduceLT,n4_0]
theorem OB(c1_:(List Int)→Option Bool)(c1__f:FuncId)(c1__c:List D)(c1__h: ∀(a0:List Int) (r:Bool),c1_ a0=some r→Y.call c1__f (D.sl 3 (AB (D.int .i64) a0)::c1__c) []=some (D.bool r,[]))(c1__l:lends c1__f=false)(n:Nat): ∀(k:Int) (o0_:List Int) (c0_:List (List Int)) (r:Bool×(List Int)),Bl c1_ n k o0_ c0_=some r→Y.call 107 [D.int .i64 k,D.cptr [D.sl 27 (AB (fun x=>D.sl 3 (AB (D.int .i64) x)) c0_)],D.cptr [D.clo c1__f c1__c],D.vw [100000] 0 0,D.ocl true 107 [D.cptr [D.sl 27 (AB (fun x=>D.sl 3 (AB (D.int .i64) x)) c0_)],D.cptr [D.clo c1__f c1__c],D.vw [100000] 0 0,D.undef]] [D.box [D.own 3 (AB (D.int .i64) o0_)]]=some (D.bool r.1,[D.box [D.own 3 (AB (D.int .i64) r.2)]]):=by
 induction n with
 | zero=>intro k o0_ c0_ r h;exact absurd h (by rw [Bl];exact fun e=>by cases e)
 | succ n ih=>intro k o0_ c0_ r h;rw [Bl]at h;exact OA (Bl c1_ n) k o0_ c0_ c1_ c1__f c1__c ih c1__h c1__l h
theorem PD(k:Int)(o0_:List Int)(c0_:List (List Int))(c1_:(List Int)→Option Bool)(c1__f:FuncId)(c1__c:List D)(c1__h: ∀(a0:List Int) (r:Bool),c1_ a0=some r→Y.call c1__f (D.sl 3 (AB (D.int .i64) a0)::c1__c) []=some (D.bool r,[]))(c1__l:lends c1__f=false){r:Bool×(List Int)}(h:L6 k o0_ c0_ c1_=some r):Y.call 107 [D.int .i64 k,D.cptr [D.sl 27 (AB (fun x=>D.sl 3 (AB (D.int .i64) x)) c0_)],D.cptr [D.clo c1__f c1__c],D.vw [100000] 0 0,D.ocl true 107 [D.cptr [D.sl 27 (AB (fun x=>D.sl 3 (AB (D.int .i64) x)) c0_)],D.cptr [D.clo c1__f c1__c],D.vw [100000] 0 0,D.undef]] [D.box [D.own 3 (AB (D.int .i64) o0_)]]=some (D.bool r.1,[D.box [D.own 3 (AB (D.int .i64) r.2)]]):=OB c1_ c1__f c1__c c1__h c1__l 1000000 k o0_ c0_ r h
noncomputable def J4(lists:List (List Int))(good:(List Int)→Option Bool):Option ((List Int)×Bool):= ck (0≤(lists.length:Int)∧(lists.length:Int)<1099511627776)<| (L6 (0:Int) (List.replicate lists.length 0) lists good).bind fun Au=> if Au.1=true then some (Au.2,true) else some ([],false)
def k75:SC:= .seq (.ops [oX 2 (.box 22 (tK 0)) 0,oX 3 (.box 52 (tK 1)) 0,oX 4 (.assign (.const (.slice none 0 0))) 27,oX 5 (.assign (.const (.bool false))) 4]) (.seq (.ops [oL 8 22 2 22,oN 9 8 22,oX 10 (.makeSlice 27 (tK 9) (tK 9)) 27,oX 6 (.alloc 27) 0,oS 27 6 10]) (.seq (.ops [oX 7 (.alloc 87) 0]) (.seq (.ops [oX 11 (.makeFunc (Fn.func 107) #[] #[(tK 2),(tK 3),(tK 6),(tK 7)]) 3000012,⟨none,(.store 87 (tK 7) (tK 11)),900010,none⟩]) (.seq (.seq (.ops [oL 12 87 7 87,oX 13 (.call ⟨(.value (tK 12)), #[(iK 0)], #[3]⟩) 4,oX 14 (.unOp .not 4 (tK 13)) 4]) (.cond (tK 14) (.seq (.ops [oX 4 (.assign (.const (.slice none 0 0))) 27,oX 5 (.assign (.const (.bool false))) 4]) .ret) .skip)) (.seq (.ops [oL 15 27 6 27,oA 4 15 27,oX 5 (.assign (.const (.bool true))) 4]) .ret)))))
theorem A3z:Tryz.f75.body.map (BO lends)=some k75:=by kernel_rfl
theorem AJe:Bi Tryz.f75 2=true:=by kernel_rfl
theorem c75{a l:List D}{r:D×List D}(h:Bf Y.env k75 (EG AV l.length [ResultVar.tmp 4,ResultVar.tmp 5] r) (entry a l))(ha:a.length=2):Y.call 75 a l=some r:=
 AL (Y:=Y) rfl Tryz.func75 (ha▸AJe) A3z h
theorem QI(lists:List (List Int))(good:(List Int)→Option Bool)(good_f:FuncId)(good_c:List D)(good_h: ∀(a0:List Int) (r:Bool),good a0=some r→Y.call good_f (D.sl 3 (AB (D.int .i64) a0)::good_c) []=some (D.bool r,[]))(good_l:lends good_f=false){r:(List Int)×Bool}(h:J4 lists good=some r):Y.call 75 [D.sl 27 (AB (fun x=>D.sl 3 (AB (D.int .i64) x)) lists),D.clo good_f good_c] []=some (D.tup [D.own 3 (AB (D.int .i64) r.1),D.bool r.2],[]):=by
 refine c75 ?_ rfl;unfold k75;unfold J4 at h;obtain⟨e1,h⟩:=Av h;obtain⟨Au,hl2,h⟩:=AU h;try dsimp only at h
 have c2:=PD (0:Int) (List.replicate lists.length 0) lists good good_f good_c good_h good_l hl2;by_cases e3:Au.1=true
 ·rw [if_pos e3]at h;cases h;simp (maxDischargeDepth:=9) only [↓AC,A7,AO,BM,AA,AJ,↓reduceIte,Nat.reduceEqDiff,Nat.reduceLT,Nat.reduceLeDiff,Nat.reduceAdd,Nat.reduceMod,Nat.reduceDiv,Nat.reducePow,Nat.reduceSub,e1.1,e1.2,c2,e3]
 ·rw [if_neg e3]at h;have e3f:Au.1=false:=Bool.eq_false_iff.mpr e3;cases h;simp (maxDischargeDepth:=9) only [↓AC,A7,AO,BM,AA,AJ,↓reduceIte,Nat.reduceEqDiff,Nat.reduceLT,Nat.reduceLeDiff,Nat.reduceAdd,Nat.reduceMod,Nat.reduceDiv,Nat.reducePow,Nat.reduceSub,e1.1,e1.2,c2,e3f]<;>(repeat' apply And.intro)<;>first | rfl | exact⟨_,rfl⟩ | exact⟨_,_,rfl⟩ | simp [AB,Aa]
noncomputable def GG(sets numbers:List Int)(out:List (List Int))(LJ:Int):Option (((List (List Int))×Int)⊕((List (List Int)))):= if LJ<(numbers.length:Int)then ck (0≤LJ∧LJ.toNat<numbers.length)<| ck (0≤(numbers.getD LJ.toNat default)∧(numbers.getD LJ.toNat default).toNat<sets.length)<| (K3 (sets.getD ((numbers.getD LJ.toNat default).toNat) default)).bind fun DF=> ck (out.length+1<1099511627776)<| some (Sum.inl ((out++[DF]),IntKind.i64.wrap (LJ+1))) else some (Sum.inr out)
noncomputable def LK(sets numbers:List Int)(v:(List (List Int))×Int):Option ((List (List Int))):=Gb (fun v=>GG sets numbers v.1 v.2) v
noncomputable def Nf(sets numbers:List Int):Option ((List (List Int))):= (LK sets numbers ([],0)).bind fun Au=> some Au
def Zh:SC:= .seq (.ops [oB 11 .lss 3 (tK 10) (tK 9) 3 0]) (.seq (.cond (tK 11) .skip (.exit 0)) (.seq (.block 1 (.seq (.ops [oI 12 27 8 10,oL 13 3 12 3,oA 7 13 3]) (.ops [oM 14 5 22,oM 15 0 27,oM 16 7 3,oI 17 27 15 16,oL 18 3 17 3,oC 19 66 [(tK 18)] [3] 27,oX 20 (.buildSlice 22 1 #[(0,(tK 19))]) 22,oX 21 (.call ⟨(.builtin .append), #[(tK 14),(tK 20)], #[22,22]⟩) 22,oA 5 21 22]))) (.ops [oB 22 .add 3 (tK 10) (iK 1) 3 3,oM 10 22 3])))
def uS:SC:= .loop Zh
def k45:SC:= .seq (.ops [oX 4 (.assign (.const (.slice none 0 0))) 22]) (.seq (.ops [oX 5 (.assign (.const (.slice none 0 0))) 22]) (.seq (.seq (.ops [oM 8 1 27,oN 9 8 27,oX 10 (.move (iK 0)) 3]) (.block 0 uS)) (.seq (.ops [oM 23 5 22,oA 4 23 22]) .ret)))
theorem A40:Tryz.f45.body.map (BO lends)=some k45:=by kernel_rfl
theorem AJg:Bi Tryz.f45 2=true:=by kernel_rfl
theorem uT{a l:List D}{r:D×List D}(h:Bf Y.env k45 (EG AV l.length [ResultVar.tmp 4] r) (entry a l))(ha:a.length=2):Y.call 45 a l=some r:=
 AL (Y:=Y) rfl Tryz.func45 (ha▸AJg) A40 h
def GH(sets numbers:List Int)(out:List (List Int))(LJ:Int)(s:St):Prop:=s.v 0=D.sl 3 (AB (D.int .i64) sets)∧s.v 5=D.own 27 (AB (fun x=>D.own 3 (AB (D.int .i64) x)) out)∧s.v 8=D.sl 3 (AB (D.int .i64) numbers)∧s.v 9=D.int .i64 (numbers.length:Int)∧s.v 10=D.int .i64 LJ
def Jh(sets numbers:List Int)(r:(List (List Int)))(ex:Ex)(s:St):Prop:=ex= .exit 0∧s.v 5=D.own 27 (AB (fun x=>D.own 3 (AB (D.int .i64) x)) r)
theorem U2(sets numbers:List Int){v:(List (List Int))×Int}{s:St}{r:(List (List Int))}(h:LK sets numbers v=some r)(hM:GH sets numbers v.1 v.2 s):Bf Y.env uS (Jh sets numbers r) s:=by
 unfold LK at h;refine BA (c:=Zh) (fun v=>GG sets numbers v.1 v.2) (fun v s=>GH sets numbers v.1 v.2 s) (Jh sets numbers) ?_ h hM;clear h hM s v r;intro v s o hM h;obtain⟨out,LJ⟩:=v;dsimp only at h hM;unfold GG at h;unfold GH at hM;obtain⟨m0,m1,m2,m3,m4⟩:=hM;unfold Zh;by_cases e1:LJ<(numbers.length:Int)
 ·rw [if_pos e1]at h;obtain⟨e2,h⟩:=Av h;obtain⟨e3,h⟩:=Av h;obtain⟨DF,hl4,h⟩:=AU h;try dsimp only at h
  have c4:=OI (sets.getD ((numbers.getD LJ.toNat default).toNat) default) hl4;obtain⟨e5,h⟩:=Av h;cases h;simp (maxDischargeDepth:=9) only [↓AC,A7,AO,BM,AA,AJ,↓reduceIte,Nat.reduceEqDiff,Nat.reduceLT,Nat.reduceLeDiff,Nat.reduceAdd,m0,m1,m2,m3,m4,e1,e2.1,e2.2,e3.1,e3.2,c4,e5,GH,FD]
 ·rw [if_neg e1]at h;cases h;simp (maxDischargeDepth:=9) only [↓AC,A7,AJ,↓reduceIte,Nat.reduceEqDiff,Nat.reduceLT,m1,m3,m4,e1,GH,Jh,JH]
theorem Vt(sets numbers:List Int){r:(List (List Int))}(h:Nf sets numbers=some r):Y.call 45 [D.sl 3 (AB (D.int .i64) sets),D.sl 3 (AB (D.int .i64) numbers)] []=some (D.own 27 (AB (fun x=>D.own 3 (AB (D.int .i64) x)) r),[]):=by
 refine uT ?_ rfl;unfold k45;unfold Nf at h;obtain⟨Au,hl2,h⟩:=AU h;try dsimp only at h
 simp (maxDischargeDepth:=9) only [↓AC,A7,AO,AA,AJ,↓reduceIte,Nat.reduceEqDiff,Nat.reduceLT];refine Ag (U2 sets numbers hl2 ?_) ?_
 ·simp (maxDischargeDepth:=9) only [A7,AA,↓reduceIte,Nat.reduceEqDiff,Nat.reduceLT,GH]<;>(repeat' apply And.intro)<;>first | rfl | exact⟨_,rfl⟩ | exact⟨_,_,rfl⟩ | simp [AB,Aa]
 ·intro ex2 s2 hX2;unfold Jh at hX2;obtain⟨rfl,n2_0⟩:=hX2;cases h;simp (maxDischargeDepth:=9) only [↓AC,A7,AO,AA,↓reduceIte,Nat.reduceEqDiff,Nat.reduceLT,n2_0]
noncomputable def IQ(l:List Int)(n_ k:Int):Option ((Int)⊕(Int)):= if k<(l.length:Int)then ck (0≤k∧k.toNat<l.length)<| if(l.getD k.toNat default)<n_ then some (Sum.inl (IntKind.i64.wrap (k+1))) else some (Sum.inr k) else some (Sum.inr k)
noncomputable def M7(l:List Int)(n_ v:Int):Option (Int):=Gb (fun v=>IQ l n_ v) v
noncomputable def PY(l:List Int)(n_:Int):Option (((List Int))⊕((List Int))):= (M7 l n_ 0).bind fun Au=> if Au<(l.length:Int)then ck (0≤Au∧Au.toNat<l.length)<| if(l.getD Au.toNat default)=n_ then some (Sum.inl l) else ck (0≤Au)<| ck (Au.toNat≤l.length)<| ck (0+((l.take Au.toNat).drop 0).length<1099511627776)<| ck (((l.take Au.toNat).drop 0).length+1<1099511627776)<| ck ((((l.take Au.toNat).drop 0)++[n_]).length+((l.take l.length).drop Au.toNat).length<1099511627776)<| some (Sum.inr ((((l.take Au.toNat).drop 0)++[n_])++((l.take l.length).drop Au.toNat))) else ck (0≤Au)<| ck (Au.toNat≤l.length)<| ck (0+((l.take Au.toNat).drop 0).length<1099511627776)<| ck (((l.take Au.toNat).drop 0).length+1<1099511627776)<| ck ((((l.take Au.toNat).drop 0)++[n_]).length+((l.take l.length).drop Au.toNat).length<1099511627776)<| some (Sum.inr ((((l.take Au.toNat).drop 0)++[n_])++((l.take l.length).drop Au.toNat)))
def Zi:SC:= .seq (.seq (.ops [oM 7 5 3,oM 8 0 27,oN 9 8 27,oB 10 .lss 3 (tK 7) (tK 9) 3 4,oM 11 10 4,⟨some 12,.move (tK 0),27,(some (some 11,true))⟩,⟨some 13,.move (tK 5),3,(some (some 11,true))⟩,⟨some 14,.indexAddr 27 (tK 12) (tK 13),0,(some (some 11,true))⟩,⟨some 15,.load 3 (tK 14),3,(some (some 11,true))⟩,⟨some 16,.move (tK 1),3,(some (some 11,true))⟩,⟨some 17,.binOp .lss 3 (tK 15) (tK 16) 3,4,(some (some 11,true))⟩,oX 18 (.pick (tK 11) (tK 17) (.const (.bool false))) 4]) (.cond (tK 18) .skip (.exit 0))) (.block 1 (.ops [oM 19 5 3,oB 20 .add 3 (tK 19) (iK 1) 3 3,oA 5 20 3]))
def uU:SC:= .loop Zi
def k58:SC:= .seq (.ops [oX 4 (.assign (.const (.slice none 0 0))) 27]) (.seq (.ops [oX 5 (.assign (iK 0)) 3]) (.seq (.block 0 uU) (.seq (.seq (.ops [oM 21 5 3,oM 22 0 27,oN 23 22 27,oB 24 .lss 3 (tK 21) (tK 23) 3 4,oM 25 24 4,⟨some 26,.move (tK 0),27,(some (some 25,true))⟩,⟨some 27,.move (tK 5),3,(some (some 25,true))⟩,⟨some 28,.indexAddr 27 (tK 26) (tK 27),0,(some (some 25,true))⟩,⟨some 29,.load 3 (tK 28),3,(some (some 25,true))⟩,⟨some 30,.move (tK 1),3,(some (some 25,true))⟩,⟨some 31,.binOp .eql 3 (tK 29) (tK 30) 3,4,(some (some 25,true))⟩,oX 32 (.pick (tK 25) (tK 31) (.const (.bool false))) 4]) (.cond (tK 32) (.seq (.ops [oM 33 0 27,oA 4 33 27]) .ret) .skip)) (.seq (.ops [oX 34 (.buildSlice 27 0 #[]) 27,oM 35 0 27,oM 36 5 3,oX 37 (.slice 27 (tK 35) none (some (tK 36)) none) 27,oX 38 (.call ⟨(.builtin .append), #[(tK 34),(tK 37)], #[27,27]⟩) 27,oA 6 38 27]) (.seq (.ops [oM 39 6 27,oM 40 1 3,oX 41 (.buildSlice 27 1 #[(0,(tK 40))]) 27,oX 42 (.call ⟨(.builtin .append), #[(tK 39),(tK 41)], #[27,27]⟩) 27,oA 6 42 27]) (.seq (.ops [oM 43 6 27,oM 44 0 27,oM 45 5 3,oX 46 (.slice 27 (tK 44) (some (tK 45)) none none) 27,oX 47 (.call ⟨(.builtin .append), #[(tK 43),(tK 46)], #[27,27]⟩) 27,
 oA 4 47 27]) .ret))))))
theorem A41:Tryz.f58.body.map (BO lends)=some k58:=by kernel_rfl
theorem AJi:Bi Tryz.f58 2=true:=by kernel_rfl
theorem c58{a l:List D}{r:D×List D}(h:Bf Y.env k58 (EG AV l.length [ResultVar.tmp 4] r) (entry a l))(ha:a.length=2):Y.call 58 a l=some r:=
 AL (Y:=Y) rfl Tryz.func58 (ha▸AJi) A41 h
def GZ(l:List Int)(n_ k:Int)(s:St):Prop:=s.v 0=D.sl 3 (AB (D.int .i64) l)∧s.v 1=D.int .i64 n_∧s.v 5=D.int .i64 k
def Ji(l:List Int)(n_ r:Int)(ex:Ex)(s:St):Prop:=ex= .exit 0∧s.v 0=D.sl 3 (AB (D.int .i64) l)∧s.v 1=D.int .i64 n_∧s.v 5=D.int .i64 r
theorem XD(l:List Int)(n_:Int){v:Int}{s:St}{r:Int}(h:M7 l n_ v=some r)(hM:GZ l n_ v s):Bf Y.env uU (Ji l n_ r) s:=by
 unfold M7 at h;refine BA (c:=Zi) (fun v=>IQ l n_ v) (fun v s=>GZ l n_ v s) (Ji l n_) ?_ h hM;clear h hM s v r;intro k s o hM h;unfold IQ at h;unfold GZ at hM;obtain⟨m0,m1,m2⟩:=hM;unfold Zi;by_cases e1:k<(l.length:Int)
 ·rw [if_pos e1]at h;obtain⟨e2,h⟩:=Av h;by_cases e3:(l.getD k.toNat default)<n_
  ·rw [if_pos e3]at h;cases h;simp (maxDischargeDepth:=9) only [↓AC,A7,AO,AA,AJ,↓reduceIte,Nat.reduceEqDiff,Nat.reduceLT,m0,m1,m2,e1,e2.1,e2.2,e3,GZ,FD]
  ·rw [if_neg e3]at h;cases h;simp (maxDischargeDepth:=9) only [↓AC,A7,AO,AA,AJ,↓reduceIte,Nat.reduceEqDiff,Nat.reduceLT,m0,m1,m2,e1,e2.1,e2.2,e3,GZ,Ji,JH]
 ·rw [if_neg e1]at h;cases h;simp (maxDischargeDepth:=9) only [↓AC,A7,AO,AJ,↓reduceIte,Nat.reduceEqDiff,Nat.reduceLT,m0,m1,m2,e1,GZ,Ji,JH]
theorem Zj(l:List Int)(n_:Int){r:((List Int))⊕((List Int))}(h:PY l n_=some r):Y.call 58 [D.sl 3 (AB (D.int .i64) l),D.int .i64 n_] []=some (match (generalizing:=false) r with | .inl q=>(D.sl 3 (AB (D.int .i64) q),[]) | .inr q=>(D.own 3 (AB (D.int .i64) q),[])):=by
 refine c58 ?_ rfl;unfold k58;unfold PY at h;obtain⟨Au,hl2,h⟩:=AU h;try dsimp only at h
 simp (maxDischargeDepth:=9) only [↓AC,A7,AA,AJ,↓reduceIte,Nat.reduceEqDiff,Nat.reduceLT];refine Ag (XD l n_ hl2 ?_) ?_
 ·simp (maxDischargeDepth:=9) only [A7,AA,↓reduceIte,Nat.reduceEqDiff,Nat.reduceLT,GZ]
 ·intro ex2 s2 hX2;unfold Ji at hX2;obtain⟨rfl,n2_0,n2_1,n2_2⟩:=hX2;by_cases e3:Au<(l.length:Int)
  ·rw [if_pos e3]at h;obtain⟨e4,h⟩:=Av h;by_cases e5:(l.getD Au.toNat default)=n_
   ·rw [if_pos e5]at h;cases h;simp (maxDischargeDepth:=9) only [↓AC,A7,AO,AA,AJ,↓reduceIte,Nat.reduceEqDiff,Nat.reduceLT,n2_0,n2_1,n2_2,e3,e4.1,e4.2,decide_eq_true e5]
   ·rw [if_neg e5]at h;obtain⟨e6,h⟩:=Av h;obtain⟨e7,h⟩:=Av h;obtain⟨e8,h⟩:=Av h;obtain⟨e9,h⟩:=Av h;obtain⟨e10,h⟩:=Av h;cases h;simp (maxDischargeDepth:=9) only [↓AC,A7,AO,AA,AJ,↓reduceIte,Nat.reduceEqDiff,Nat.reduceLT,Nat.reduceLeDiff,Nat.reduceAdd,n2_0,n2_1,n2_2,e3,e4.1,e4.2,e5,e7,e8,e9,e10]
  ·rw [if_neg e3]at h;obtain⟨e4,h⟩:=Av h;obtain⟨e5,h⟩:=Av h;obtain⟨e6,h⟩:=Av h;obtain⟨e7,h⟩:=Av h;obtain⟨e8,h⟩:=Av h;cases h;simp (maxDischargeDepth:=9) only [↓AC,A7,AO,AA,AJ,↓reduceIte,Nat.reduceEqDiff,Nat.reduceLT,Nat.reduceLeDiff,Nat.reduceAdd,n2_0,n2_1,n2_2,e3,e4,e5,e6,e7,e8]
noncomputable def ER(sets x_:List Int)(Bq:Int)(out1:List Int)(U3:Int):Option (((List Int)×Int)⊕((List Int))):= if U3<(sets.length:Int)then ck (0≤U3∧U3.toNat<sets.length)<| if(x_.getD Bq.toNat default)=(sets.getD U3.toNat default)then ck (out1.length+1<1099511627776)<| some (Sum.inl ((out1++[U3]),IntKind.i64.wrap (U3+1))) else some (Sum.inl (out1,IntKind.i64.wrap (U3+1))) else some (Sum.inr out1)
noncomputable def Hy(sets x_:List Int)(Bq:Int)(v:(List Int)×Int):Option ((List Int)):=Gb (fun v=>ER sets x_ Bq v.1 v.2) v
noncomputable def ES(sets x_ out:List Int)(Bq:Int):Option (((List Int)×Int)⊕((List Int))):= if Bq<(x_.length:Int)then ck (0≤Bq∧Bq.toNat<x_.length)<| (Hy sets x_ Bq (out,0)).bind fun DF=> some (Sum.inl (DF,IntKind.i64.wrap (Bq+1))) else some (Sum.inr out)
noncomputable def Jj(sets x_:List Int)(v:(List Int)×Int):Option ((List Int)):=Gb (fun v=>ES sets x_ v.1 v.2) v
noncomputable def Kn(sets x_:List Int):Option ((List Int)):= (Jj sets x_ ([],0)).bind fun Au=> ck (Au.length<1099511627776)<| some (DI Au)
def Zk:SC:= .seq (.ops [oB 19 .lss 3 (tK 18) (tK 17) 3 0]) (.seq (.cond (tK 19) .skip (.exit 2)) (.seq (.block 3 (.seq (.ops [oM 20 18 3,oI 21 27 16 18,oL 22 3 21 3,oA 8 20 3,oA 9 22 3]) (.seq (.ops [oM 23 7 3,oM 24 9 3,oB 25 .eql 3 (tK 23) (tK 24) 3 4]) (.cond (tK 25) (.ops [oM 26 5 27,oM 27 8 3,oX 28 (.buildSlice 27 1 #[(0,(tK 27))]) 27,oX 29 (.call ⟨(.builtin .append), #[(tK 26),(tK 28)], #[27,27]⟩) 27,oA 5 29 27]) .skip)))) (.ops [oB 30 .add 3 (tK 18) (iK 1) 3 3,oM 18 30 3])))
def uV:SC:= .loop Zk
def Zl:SC:= .seq (.ops [oB 13 .lss 3 (tK 12) (tK 11) 3 0]) (.seq (.cond (tK 13) .skip (.exit 0)) (.seq (.block 1 (.seq (.ops [oI 14 27 10 12,oL 15 3 14 3,oA 7 15 3]) (.seq (.ops [oM 16 0 27,oN 17 16 27,oX 18 (.move (iK 0)) 3]) (.block 2 uV)))) (.ops [oB 31 .add 3 (tK 12) (iK 1) 3 3,oM 12 31 3])))
def uW:SC:= .loop Zl
def k60:SC:= .seq (.ops [oX 4 (.assign (.const (.slice none 0 0))) 27]) (.seq (.ops [oX 5 (.assign (.const (.slice none 0 0))) 27]) (.seq (.seq (.ops [oM 10 1 27,oN 11 10 27,oX 12 (.move (iK 0)) 3]) (.block 0 uW)) (.seq (.ops [oM 32 5 27,oC 33 90 [(tK 32)] [27] 27,oA 4 33 27]) .ret)))
theorem A42:Tryz.f60.body.map (BO lends)=some k60:=by kernel_rfl
theorem AJk:Bi Tryz.f60 2=true:=by kernel_rfl
theorem c60{a l:List D}{r:D×List D}(h:Bf Y.env k60 (EG AV l.length [ResultVar.tmp 4] r) (entry a l))(ha:a.length=2):Y.call 60 a l=some r:=
 AL (Y:=Y) rfl Tryz.func60 (ha▸AJk) A42 h
def Db(sets x_:List Int)(Bq:Int)(out1:List Int)(U3:Int)(s:St):Prop:=s.v 0=D.sl 3 (AB (D.int .i64) sets)∧s.v 5=D.own 3 (AB (D.int .i64) out1)∧s.v 7=D.int .i64 (x_.getD Bq.toNat default)∧s.v 10=D.sl 3 (AB (D.int .i64) x_)∧s.v 11=D.int .i64 (x_.length:Int)∧s.v 12=D.int .i64 Bq∧s.v 16=D.sl 3 (AB (D.int .i64) sets)∧s.v 17=D.int .i64 (sets.length:Int)∧s.v 18=D.int .i64 U3
def IR(sets x_:List Int)(Bq:Int)(r:(List Int))(ex:Ex)(s:St):Prop:=ex= .exit 2∧s.v 0=D.sl 3 (AB (D.int .i64) sets)∧s.v 5=D.own 3 (AB (D.int .i64) r)∧s.v 10=D.sl 3 (AB (D.int .i64) x_)∧s.v 11=D.int .i64 (x_.length:Int)∧s.v 12=D.int .i64 Bq
theorem RV(sets x_:List Int)(Bq:Int){v:(List Int)×Int}{s:St}{r:(List Int)}(h:Hy sets x_ Bq v=some r)(hM:Db sets x_ Bq v.1 v.2 s):Bf Y.env uV (IR sets x_ Bq r) s:=by
 unfold Hy at h;refine BA (c:=Zk) (fun v=>ER sets x_ Bq v.1 v.2) (fun v s=>Db sets x_ Bq v.1 v.2 s) (IR sets x_ Bq) ?_ h hM;clear h hM s v r;intro v s o hM h;obtain⟨out1,U3⟩:=v;dsimp only at h hM;unfold ER at h;unfold Db at hM;obtain⟨m0,m1,m2,m3,m4,m5,m6,m7,m8⟩:=hM;unfold Zk;by_cases e3:U3<(sets.length:Int)
 ·rw [if_pos e3]at h;obtain⟨e4,h⟩:=Av h;by_cases e5:(x_.getD Bq.toNat default)=(sets.getD U3.toNat default)
  ·rw [if_pos e5]at h;obtain⟨e6,h⟩:=Av h;cases h;simp (maxDischargeDepth:=9) only [↓AC,A7,AO,AA,AJ,↓reduceIte,Nat.reduceEqDiff,Nat.reduceLT,Nat.reduceLeDiff,Nat.reduceAdd,m0,m1,m2,m3,m4,m5,m6,m7,m8,e3,e4.1,e4.2,decide_eq_true e5,e6,Db,FD]
  ·rw [if_neg e5]at h;cases h;simp (maxDischargeDepth:=9) only [↓AC,A7,AO,AA,AJ,↓reduceIte,Nat.reduceEqDiff,Nat.reduceLT,m0,m1,m2,m3,m4,m5,m6,m7,m8,e3,e4.1,e4.2,e5,Db,FD]
 ·rw [if_neg e3]at h;cases h;simp (maxDischargeDepth:=9) only [↓AC,A7,AJ,↓reduceIte,Nat.reduceEqDiff,Nat.reduceLT,m0,m1,m3,m4,m5,m7,m8,e3,Db,IR,JH]
def ET(sets x_ out:List Int)(Bq:Int)(s:St):Prop:=s.v 0=D.sl 3 (AB (D.int .i64) sets)∧s.v 5=D.own 3 (AB (D.int .i64) out)∧s.v 10=D.sl 3 (AB (D.int .i64) x_)∧s.v 11=D.int .i64 (x_.length:Int)∧s.v 12=D.int .i64 Bq
def IU(sets x_:List Int)(r:(List Int))(ex:Ex)(s:St):Prop:=ex= .exit 0∧s.v 5=D.own 3 (AB (D.int .i64) r)
theorem RX(sets x_:List Int){v:(List Int)×Int}{s:St}{r:(List Int)}(h:Jj sets x_ v=some r)(hM:ET sets x_ v.1 v.2 s):Bf Y.env uW (IU sets x_ r) s:=by
 unfold Jj at h;refine BA (c:=Zl) (fun v=>ES sets x_ v.1 v.2) (fun v s=>ET sets x_ v.1 v.2 s) (IU sets x_) ?_ h hM;clear h hM s v r;intro v s o hM h;obtain⟨out,Bq⟩:=v;dsimp only at h hM;unfold ES at h;unfold ET at hM;obtain⟨m0,m1,m2,m3,m4⟩:=hM;unfold Zl;by_cases e1:Bq<(x_.length:Int)
 ·rw [if_pos e1]at h;obtain⟨e2,h⟩:=Av h;obtain⟨DF,hl4,h⟩:=AU h;try dsimp only at h
  simp (maxDischargeDepth:=9) only [↓AC,A7,AO,AA,AJ,↓reduceIte,Nat.reduceEqDiff,Nat.reduceLT,m0,m2,m3,m4,e1,e2.1,e2.2];refine Ag (RV sets x_ Bq hl4 ?_) ?_
  ·simp (maxDischargeDepth:=9) only [A7,↓reduceIte,Nat.reduceEqDiff,m0,m1,m2,m3,m4,Db]
  ·intro ex4 s4 hX4;unfold IR at hX4;obtain⟨rfl,n4_0,n4_1,n4_2,n4_3,n4_4⟩:=hX4;cases h;simp (maxDischargeDepth:=9) only [↓AC,A7,AJ,↓reduceIte,Nat.reduceEqDiff,Nat.reduceLT,n4_0,n4_1,n4_2,n4_3,n4_4,ET,FD]
 ·rw [if_neg e1]at h;cases h;simp (maxDischargeDepth:=9) only [↓AC,A7,AJ,↓reduceIte,Nat.reduceEqDiff,Nat.reduceLT,m1,m3,m4,e1,ET,IU,JH]
theorem Sl(sets x_:List Int){r:(List Int)}(h:Kn sets x_=some r):Y.call 60 [D.sl 3 (AB (D.int .i64) sets),D.sl 3 (AB (D.int .i64) x_)] []=some (D.own 3 (AB (D.int .i64) r),[]):=by
 refine c60 ?_ rfl;unfold k60;unfold Kn at h;obtain⟨Au,hl2,h⟩:=AU h;try dsimp only at h
 simp (maxDischargeDepth:=9) only [↓AC,A7,AO,AA,AJ,↓reduceIte,Nat.reduceEqDiff,Nat.reduceLT];refine Ag (RX sets x_ hl2 ?_) ?_
 ·simp (maxDischargeDepth:=9) only [A7,AA,↓reduceIte,Nat.reduceEqDiff,Nat.reduceLT,ET]<;>(repeat' apply And.intro)<;>first | rfl | exact⟨_,rfl⟩ | exact⟨_,_,rfl⟩ | simp [AB,Aa]
 ·intro ex2 s2 hX2;unfold IU at hX2;obtain⟨rfl,n2_0⟩:=hX2;obtain⟨e3,h⟩:=Av h;have c4:=u6 Au e3;cases h;simp (maxDischargeDepth:=9) only [↓AC,A7,AO,AA,AJ,↓reduceIte,Nat.reduceEqDiff,Nat.reduceLT,Nat.reduceAdd,n2_0,c4]
noncomputable def Dx(l:List (List Int))(x_:List Int)(k:Int):Option ((Int)⊕(Int)):= if k<(l.length:Int)then ck (0≤k∧k.toNat<l.length)<| ck ((l.getD k.toNat default).length<1099511627776)<| ck ((l.getD k.toNat default).length=x_.length)<| ck (GU (l.getD k.toNat default)=true)<| ck (GU x_=true)<| if(cmpL (l.getD k.toNat default) x_)<0 then some (Sum.inl (IntKind.i64.wrap (k+1))) else some (Sum.inr k) else some (Sum.inr k)
noncomputable def KJ(l:List (List Int))(x_:List Int)(v:Int):Option (Int):=Gb (fun v=>Dx l x_ v) v
noncomputable def K7(l:List (List Int))(x_:List Int):Option (((List (List Int)))⊕((List (List Int)))):= (KJ l x_ 0).bind fun Au=> if Au<(l.length:Int)then ck (0≤Au∧Au.toNat<l.length)<| (NY (l.getD Au.toNat default) x_).bind fun Lv=> if Lv=true then some (Sum.inl l) else ck (0≤Au)<| ck (Au.toNat≤l.length)<| ck (0+((l.take Au.toNat).drop 0).length<1099511627776)<| ck (((l.take Au.toNat).drop 0).length+1<1099511627776)<| ck ((((l.take Au.toNat).drop 0)++[x_]).length+((l.take l.length).drop Au.toNat).length<1099511627776)<| some (Sum.inr ((((l.take Au.toNat).drop 0)++[x_])++((l.take l.length).drop Au.toNat))) else ck (0≤Au)<| ck (Au.toNat≤l.length)<| ck (0+((l.take Au.toNat).drop 0).length<1099511627776)<| ck (((l.take Au.toNat).drop 0).length+1<1099511627776)<| ck ((((l.take Au.toNat).drop 0)++[x_]).length+((l.take l.length).drop Au.toNat).length<1099511627776)<| some (Sum.inr ((((l.take Au.toNat).drop 0)++[x_])++((l.take l.length).drop Au.toNat)))
def Zm:SC:= .seq (.seq (.ops [oM 7 5 3,oM 8 0 22,oN 9 8 22,oB 10 .lss 3 (tK 7) (tK 9) 3 4,oM 11 10 4,⟨some 12,.move (tK 0),22,(some (some 11,true))⟩,⟨some 13,.move (tK 5),3,(some (some 11,true))⟩,⟨some 14,.indexAddr 22 (tK 12) (tK 13),0,(some (some 11,true))⟩,⟨some 15,.load 27 (tK 14),27,(some (some 11,true))⟩,⟨some 16,.move (tK 1),27,(some (some 11,true))⟩,⟨some 17,.call ⟨(.value (.func 55)), #[(tK 15),(tK 16)], #[27,27]⟩,3,(some (some 11,true))⟩,⟨some 18,.binOp .lss 3 (tK 17) (iK 0) 3,4,(some (some 11,true))⟩,oX 19 (.pick (tK 11) (tK 18) (.const (.bool false))) 4]) (.cond (tK 19) .skip (.exit 0))) (.block 1 (.ops [oM 20 5 3,oB 21 .add 3 (tK 20) (iK 1) 3 3,oA 5 21 3]))
def uX:SC:= .loop Zm
def k59:SC:= .seq (.ops [oX 4 (.assign (.const (.slice none 0 0))) 22]) (.seq (.ops [oX 5 (.assign (iK 0)) 3]) (.seq (.block 0 uX) (.seq (.seq (.ops [oM 22 5 3,oM 23 0 22,oN 24 23 22,oB 25 .lss 3 (tK 22) (tK 24) 3 4,oM 26 25 4,⟨some 27,.move (tK 0),22,(some (some 26,true))⟩,⟨some 28,.move (tK 5),3,(some (some 26,true))⟩,⟨some 29,.indexAddr 22 (tK 27) (tK 28),0,(some (some 26,true))⟩,⟨some 30,.load 27 (tK 29),27,(some (some 26,true))⟩,⟨some 31,.move (tK 1),27,(some (some 26,true))⟩,⟨some 32,.call ⟨(.value (.func 89)), #[(tK 30),(tK 31)], #[27,27]⟩,4,(some (some 26,true))⟩,oX 33 (.pick (tK 26) (tK 32) (.const (.bool false))) 4]) (.cond (tK 33) (.seq (.ops [oM 34 0 22,oA 4 34 22]) .ret) .skip)) (.seq (.ops [oX 35 (.buildSlice 22 0 #[]) 22,oM 36 0 22,oM 37 5 3,oX 38 (.slice 22 (tK 36) none (some (tK 37)) none) 22,oX 39 (.call ⟨(.builtin .append), #[(tK 35),(tK 38)], #[22,22]⟩) 22,oA 6 39 22]) (.seq (.ops [oM 40 6 22,oM 41 1 27,oX 42 (.buildSlice 22 1 #[(0,(tK 41))]) 22,oX 43 (.call ⟨(.builtin .append), #[(tK 40),(tK 42)], #[22,22]⟩) 22,oA 6 43 22]) (.seq (.ops [oM 44 6 22,oM 45 0 22,oM 46 5 3,oX 47 (.slice 22 (tK 45) (some (tK 46)) none none) 22,oX 48 (.call ⟨(.builtin .append), #[(tK 44),(tK 47)], #[22,22]⟩) 22,
 oA 4 48 22]) .ret))))))
theorem A43:Tryz.f59.body.map (BO lends)=some k59:=by kernel_rfl
theorem AJm:Bi Tryz.f59 2=true:=by kernel_rfl
theorem c59{a l:List D}{r:D×List D}(h:Bf Y.env k59 (EG AV l.length [ResultVar.tmp 4] r) (entry a l))(ha:a.length=2):Y.call 59 a l=some r:=
 AL (Y:=Y) rfl Tryz.func59 (ha▸AJm) A43 h
def Dy(l:List (List Int))(x_:List Int)(k:Int)(s:St):Prop:=s.v 0=D.sl 27 (AB (fun x=>D.sl 3 (AB (D.int .i64) x)) l)∧s.v 1=D.sl 3 (AB (D.int .i64) x_)∧s.v 5=D.int .i64 k
def Gg(l:List (List Int))(x_:List Int)(r:Int)(ex:Ex)(s:St):Prop:=ex= .exit 0∧s.v 0=D.sl 27 (AB (fun x=>D.sl 3 (AB (D.int .i64) x)) l)∧s.v 1=D.sl 3 (AB (D.int .i64) x_)∧s.v 5=D.int .i64 r
theorem Sm(l:List (List Int))(x_:List Int){v:Int}{s:St}{r:Int}(h:KJ l x_ v=some r)(hM:Dy l x_ v s):Bf Y.env uX (Gg l x_ r) s:=by
 unfold KJ at h;refine BA (c:=Zm) (fun v=>Dx l x_ v) (fun v s=>Dy l x_ v s) (Gg l x_) ?_ h hM;clear h hM s v r;intro k s o hM h;unfold Dx at h;unfold Dy at hM;obtain⟨m0,m1,m2⟩:=hM;unfold Zm;by_cases e1:k<(l.length:Int)
 ·rw [if_pos e1]at h;obtain⟨e2,h⟩:=Av h;obtain⟨e3,h⟩:=Av h;obtain⟨e4,h⟩:=Av h;obtain⟨e5,h⟩:=Av h;obtain⟨e6,h⟩:=Av h;have c7:=RB (l.getD k.toNat default) x_ e3 e4 e5 e6;by_cases e8:(cmpL (l.getD k.toNat default) x_)<0
  ·rw [if_pos e8]at h;cases h;simp (maxDischargeDepth:=9) only [↓AC,A7,AO,BM,AA,AJ,↓reduceIte,Nat.reduceEqDiff,Nat.reduceLT,Nat.reduceAdd,m0,m1,m2,e1,e2.1,e2.2,c7,e8,Dy,FD]
  ·rw [if_neg e8]at h;cases h;simp (maxDischargeDepth:=9) only [↓AC,A7,AO,BM,AA,AJ,↓reduceIte,Nat.reduceEqDiff,Nat.reduceLT,Nat.reduceAdd,m0,m1,m2,e1,e2.1,e2.2,c7,e8,Dy,Gg,JH]
 ·rw [if_neg e1]at h;cases h;simp (maxDischargeDepth:=9) only [↓AC,A7,AO,AJ,↓reduceIte,Nat.reduceEqDiff,Nat.reduceLT,m0,m1,m2,e1,Dy,Gg,JH]
theorem U4(l:List (List Int))(x_:List Int){r:((List (List Int)))⊕((List (List Int)))}(h:K7 l x_=some r):Y.call 59 [D.sl 27 (AB (fun x=>D.sl 3 (AB (D.int .i64) x)) l),D.sl 3 (AB (D.int .i64) x_)] []=some (match (generalizing:=false) r with | .inl q=>(D.sl 27 (AB (fun x=>D.sl 3 (AB (D.int .i64) x)) q),[]) | .inr q=>(D.own 27 (AB (fun x=>D.sl 3 (AB (D.int .i64) x)) q),[])):=by
 refine c59 ?_ rfl;unfold k59;unfold K7 at h;obtain⟨Au,hl2,h⟩:=AU h;try dsimp only at h
 simp (maxDischargeDepth:=9) only [↓AC,A7,AA,AJ,↓reduceIte,Nat.reduceEqDiff,Nat.reduceLT];refine Ag (Sm l x_ hl2 ?_) ?_
 ·simp (maxDischargeDepth:=9) only [A7,AA,↓reduceIte,Nat.reduceEqDiff,Nat.reduceLT,Dy]
 ·intro ex2 s2 hX2;unfold Gg at hX2;obtain⟨rfl,n2_0,n2_1,n2_2⟩:=hX2;by_cases e3:Au<(l.length:Int)
  ·rw [if_pos e3]at h;obtain⟨e4,h⟩:=Av h;obtain⟨Lv,hl5,h⟩:=AU h;try dsimp only at h
   have c5:=Pi (l.getD Au.toNat default) x_ hl5;by_cases e6:Lv=true
   ·rw [if_pos e6]at h;cases h;simp (maxDischargeDepth:=9) only [↓AC,A7,AO,BM,AA,AJ,↓reduceIte,Nat.reduceEqDiff,Nat.reduceLT,Nat.reduceAdd,n2_0,n2_1,n2_2,e3,e4.1,e4.2,c5,e6]
   ·rw [if_neg e6]at h;have e6f:Lv=false:=Bool.eq_false_iff.mpr e6;obtain⟨e7,h⟩:=Av h;obtain⟨e8,h⟩:=Av h;obtain⟨e9,h⟩:=Av h;obtain⟨e10,h⟩:=Av h;obtain⟨e11,h⟩:=Av h;cases h;simp (maxDischargeDepth:=9) only [↓AC,A7,AO,BM,AA,AJ,↓reduceIte,Nat.reduceEqDiff,Nat.reduceLT,Nat.reduceLeDiff,Nat.reduceAdd,n2_0,n2_1,n2_2,e3,e4.1,e4.2,c5,e6f,e8,e9,e10,e11]
  ·rw [if_neg e3]at h;obtain⟨e4,h⟩:=Av h;obtain⟨e5,h⟩:=Av h;obtain⟨e6,h⟩:=Av h;obtain⟨e7,h⟩:=Av h;obtain⟨e8,h⟩:=Av h;cases h;simp (maxDischargeDepth:=9) only [↓AC,A7,AO,AA,AJ,↓reduceIte,Nat.reduceEqDiff,Nat.reduceLT,Nat.reduceLeDiff,Nat.reduceAdd,n2_0,n2_1,n2_2,e3,e4,e5,e6,e7,e8]
noncomputable def EU(labels size:Int)(out:List (List Int))(k BV:Int)(next1:List (List Int))(a:Int):Option (((List (List Int))×Int)⊕((List (List Int)))):= if a<labels then (Jb (out.getD BV.toNat default)).bind fun Za=> ck (Za.length+1<1099511627776)<| ck (next1.length+1<1099511627776)<| some (Sum.inl ((next1++[(Za++[a])]),IntKind.i64.wrap (a+1))) else some (Sum.inr next1)
noncomputable def Hz(labels size:Int)(out:List (List Int))(k BV:Int)(v:(List (List Int))×Int):Option ((List (List Int))):=Gb (fun v=>EU labels size out k BV v.1 v.2) v
noncomputable def DL(labels size:Int)(out:List (List Int))(k BV:Int)(next1:List (List Int))(a:Int):Option (((List (List Int))×Int)⊕((List (List Int)))):= if a<labels then (Jb (out.getD BV.toNat default)).bind fun Nc=> ck (Nc.length+1<1099511627776)<| ck (next1.length+1<1099511627776)<| some (Sum.inl ((next1++[(Nc++[a])]),IntKind.i64.wrap (a+1))) else some (Sum.inr next1)
noncomputable def FB(labels size:Int)(out:List (List Int))(k BV:Int)(v:(List (List Int))×Int):Option ((List (List Int))):=Gb (fun v=>DL labels size out k BV v.1 v.2) v
noncomputable def EW(labels size:Int)(out:List (List Int))(k:Int)(next:List (List Int))(BV:Int):Option (((List (List Int))×Int)⊕((List (List Int)))):= if BV<(out.length:Int)then ck (0≤BV∧BV.toNat<out.length)<| if 0<k then ck (0≤IntKind.i64.wrap (k-1)∧(IntKind.i64.wrap (k-1)).toNat<(out.getD BV.toNat default).length)<| (Hz labels size out k BV (next,((out.getD BV.toNat default).getD ((IntKind.i64.wrap (k-1)).toNat) default))).bind fun Za=> some (Sum.inl (Za,IntKind.i64.wrap (BV+1))) else (FB labels size out k BV (next,0)).bind fun Nc=> some (Sum.inl (Nc,IntKind.i64.wrap (BV+1))) else some (Sum.inr next)
noncomputable def I1(labels size:Int)(out:List (List Int))(k:Int)(v:(List (List Int))×Int):Option ((List (List Int))):=Gb (fun v=>EW labels size out k v.1 v.2) v
noncomputable def EX(labels size:Int)(out:List (List Int))(k:Int):Option (((List (List Int))×Int)⊕((List (List Int)))):= if k<size then (I1 labels size out k ([],0)).bind fun D6=> some (Sum.inl (D6,IntKind.i64.wrap (k+1))) else some (Sum.inr out)
noncomputable def Jk(labels size:Int)(v:(List (List Int))×Int):Option ((List (List Int))):=Gb (fun v=>EX labels size v.1 v.2) v
noncomputable def Ko(labels size:Int):Option ((List (List Int))):= (Jk labels size ([[]],0)).bind fun Au=> some Au
def RY:SC:= .seq (.seq (.ops [oM 32 11 3,oM 33 0 3,oB 34 .lss 3 (tK 32) (tK 33) 3 4]) (.cond (tK 34) .skip (.exit 4))) (.seq (.block 5 (.ops [oM 37 7 22,oM 38 9 27,oC 39 79 [(tK 38)] [27] 27,oM 40 11 3,oX 41 (.buildSlice 27 1 #[(0,(tK 40))]) 27,oX 42 (.call ⟨(.builtin .append), #[(tK 39),(tK 41)], #[27,27]⟩) 27,oX 43 (.buildSlice 22 1 #[(0,(tK 42))]) 900004,oX 44 (.call ⟨(.builtin .append), #[(tK 37),(tK 43)], #[22,22]⟩) 22,oA 7 44 22])) (.ops [oM 35 11 3,oB 36 .add 3 (tK 35) (iK 1) 3 3,oA 11 36 3]))
def jU:SC:= .loop RY
def Zn:SC:= .seq (.ops [oB 21 .lss 3 (tK 20) (tK 19) 3 0]) (.seq (.cond (tK 21) .skip (.exit 2)) (.seq (.block 3 (.seq (.ops [oI 22 22 18 20,oL 23 27 22 27,oA 9 23 27]) (.seq (.ops [oX 10 (.assign (iK 0)) 3]) (.seq (.seq (.ops [oM 24 6 3,oB 25 .gtr 3 (tK 24) (iK 0) 3 4]) (.cond (tK 25) (.ops [oM 26 9 27,oM 27 6 3,oB 28 .sub 3 (tK 27) (iK 1) 3 3,oI 29 27 26 28,oL 30 3 29 3,oA 10 30 3]) .skip)) (.seq (.ops [oM 31 10 3,oA 11 31 3]) (.block 4 jU)))))) (.ops [oB 45 .add 3 (tK 20) (iK 1) 3 3,oM 20 45 3])))
def uY:SC:= .loop Zn
def Zo:SC:= .seq (.seq (.ops [oM 13 6 3,oM 14 1 3,oB 15 .lss 3 (tK 13) (tK 14) 3 4]) (.cond (tK 15) .skip (.exit 0))) (.seq (.block 1 (.seq (.ops [oX 7 (.assign (.const (.slice none 0 0))) 22]) (.seq (.seq (.ops [oM 18 5 22,oN 19 18 22,oX 20 (.move (iK 0)) 3]) (.block 2 uY)) (.ops [oM 46 7 22,oA 5 46 22])))) (.ops [oM 16 6 3,oB 17 .add 3 (tK 16) (iK 1) 3 3,oA 6 17 3]))
def uZ:SC:= .loop Zo
def k47:SC:= .seq (.ops [oX 4 (.assign (.const (.slice none 0 0))) 22]) (.seq (.ops [oX 12 (.buildSlice 22 1 #[(0,(.const (.slice none 0 0)))]) 900004,oA 5 12 22]) (.seq (.seq (.ops [oX 6 (.assign (iK 0)) 3]) (.block 0 uZ)) (.seq (.ops [oM 47 5 22,oA 4 47 22]) .ret)))
theorem A44:Tryz.f47.body.map (BO lends)=some k47:=by kernel_rfl
theorem AJo:Bi Tryz.f47 2=true:=by kernel_rfl
theorem c47{a l:List D}{r:D×List D}(h:Bf Y.env k47 (EG AV l.length [ResultVar.tmp 4] r) (entry a l))(ha:a.length=2):Y.call 47 a l=some r:=
 AL (Y:=Y) rfl Tryz.func47 (ha▸AJo) A44 h
def EY(labels size:Int)(out:List (List Int))(k BV:Int)(next1:List (List Int))(a:Int)(s:St):Prop:=s.v 0=D.int .i64 labels∧s.v 1=D.int .i64 size∧s.v 5=D.own 27 (AB (fun x=>D.sl 3 (AB (D.int .i64) x)) out)∧s.v 6=D.int .i64 k∧s.v 7=D.own 27 (AB (fun x=>D.sl 3 (AB (D.int .i64) x)) next1)∧s.v 9=D.sl 3 (AB (D.int .i64) (out.getD BV.toNat default))∧s.v 11=D.int .i64 a∧(∃w_,s.v 18=D.vw [5] (s.k 5) w_)∧s.v 19=D.int .i64 (out.length:Int)∧s.v 20=D.int .i64 BV
def IV(labels size:Int)(out:List (List Int))(k BV:Int)(r:(List (List Int)))(ex:Ex)(s:St):Prop:=ex= .exit 4∧s.v 0=D.int .i64 labels∧s.v 1=D.int .i64 size∧s.v 5=D.own 27 (AB (fun x=>D.sl 3 (AB (D.int .i64) x)) out)∧s.v 6=D.int .i64 k∧s.v 7=D.own 27 (AB (fun x=>D.sl 3 (AB (D.int .i64) x)) r)∧(∃w_,s.v 18=D.vw [5] (s.k 5) w_)∧s.v 19=D.int .i64 (out.length:Int)∧s.v 20=D.int .i64 BV
theorem RZ(labels size:Int)(out:List (List Int))(k BV:Int){v:(List (List Int))×Int}{s:St}{r:(List (List Int))}(h:Hz labels size out k BV v=some r)(hM:EY labels size out k BV v.1 v.2 s):Bf Y.env jU (IV labels size out k BV r) s:=by
 unfold Hz at h;refine BA (c:=RY) (fun v=>EU labels size out k BV v.1 v.2) (fun v s=>EY labels size out k BV v.1 v.2 s) (IV labels size out k BV) ?_ h hM;clear h hM s v r;intro v s o hM h;obtain⟨next1,a⟩:=v;dsimp only at h hM;unfold EU at h;unfold EY at hM;obtain⟨m0,m1,m2,m3,m4,m5,m6,⟨w7_,m7⟩,m8,m9⟩:=hM;unfold RY;by_cases e6:a<labels
 ·rw [if_pos e6]at h;obtain⟨Za,hl7,h⟩:=AU h;try dsimp only at h
  have c7:=LG (out.getD BV.toNat default) hl7;obtain⟨e8,h⟩:=Av h;obtain⟨e9,h⟩:=Av h;cases h;simp (maxDischargeDepth:=9) only [↓AC,A7,AO,BM,AA,AJ,↓reduceIte,Nat.reduceEqDiff,Nat.reduceLT,Nat.reduceLeDiff,Nat.reduceAdd,m0,m1,m2,m3,m4,m5,m6,m7,m8,m9,e6,c7,e8,e9,EY,FD]<;>(repeat' apply And.intro)<;>first | rfl | exact⟨_,rfl⟩ | exact⟨_,_,rfl⟩ | simp [AB,Aa]
 ·rw [if_neg e6]at h;cases h;simp (maxDischargeDepth:=9) only [↓AC,A7,AJ,↓reduceIte,Nat.reduceEqDiff,Nat.reduceLT,m0,m1,m2,m3,m4,m6,m7,m8,m9,e6,EY,IV,JH]<;>(repeat' apply And.intro)<;>first | rfl | exact⟨_,rfl⟩ | exact⟨_,_,rfl⟩ | simp [AB,Aa]
def DN(labels size:Int)(out:List (List Int))(k BV:Int)(next1:List (List Int))(a:Int)(s:St):Prop:=s.v 0=D.int .i64 labels∧s.v 1=D.int .i64 size∧s.v 5=D.own 27 (AB (fun x=>D.sl 3 (AB (D.int .i64) x)) out)∧s.v 6=D.int .i64 k∧s.v 7=D.own 27 (AB (fun x=>D.sl 3 (AB (D.int .i64) x)) next1)∧s.v 9=D.sl 3 (AB (D.int .i64) (out.getD BV.toNat default))∧s.v 11=D.int .i64 a∧(∃w_,s.v 18=D.vw [5] (s.k 5) w_)∧s.v 19=D.int .i64 (out.length:Int)∧s.v 20=D.int .i64 BV
def FW(labels size:Int)(out:List (List Int))(k BV:Int)(r:(List (List Int)))(ex:Ex)(s:St):Prop:=ex= .exit 4∧s.v 0=D.int .i64 labels∧s.v 1=D.int .i64 size∧s.v 5=D.own 27 (AB (fun x=>D.sl 3 (AB (D.int .i64) x)) out)∧s.v 6=D.int .i64 k∧s.v 7=D.own 27 (AB (fun x=>D.sl 3 (AB (D.int .i64) x)) r)∧(∃w_,s.v 18=D.vw [5] (s.k 5) w_)∧s.v 19=D.int .i64 (out.length:Int)∧s.v 20=D.int .i64 BV
theorem PE(labels size:Int)(out:List (List Int))(k BV:Int){v:(List (List Int))×Int}{s:St}{r:(List (List Int))}(h:FB labels size out k BV v=some r)(hM:DN labels size out k BV v.1 v.2 s):Bf Y.env jU (FW labels size out k BV r) s:=by
 unfold FB at h;refine BA (c:=RY) (fun v=>DL labels size out k BV v.1 v.2) (fun v s=>DN labels size out k BV v.1 v.2 s) (FW labels size out k BV) ?_ h hM;clear h hM s v r;intro v s o hM h;obtain⟨next1,a⟩:=v;dsimp only at h hM;unfold DL at h;unfold DN at hM;obtain⟨m0,m1,m2,m3,m4,m5,m6,⟨w7_,m7⟩,m8,m9⟩:=hM;unfold RY;by_cases e5:a<labels
 ·rw [if_pos e5]at h;obtain⟨Nc,hl6,h⟩:=AU h;try dsimp only at h
  have c6:=LG (out.getD BV.toNat default) hl6;obtain⟨e7,h⟩:=Av h;obtain⟨e8,h⟩:=Av h;cases h;simp (maxDischargeDepth:=9) only [↓AC,A7,AO,BM,AA,AJ,↓reduceIte,Nat.reduceEqDiff,Nat.reduceLT,Nat.reduceLeDiff,Nat.reduceAdd,m0,m1,m2,m3,m4,m5,m6,m7,m8,m9,e5,c6,e7,e8,DN,FD]<;>(repeat' apply And.intro)<;>first | rfl | exact⟨_,rfl⟩ | exact⟨_,_,rfl⟩ | simp [AB,Aa]
 ·rw [if_neg e5]at h;cases h;simp (maxDischargeDepth:=9) only [↓AC,A7,AJ,↓reduceIte,Nat.reduceEqDiff,Nat.reduceLT,m0,m1,m2,m3,m4,m6,m7,m8,m9,e5,DN,FW,JH]<;>(repeat' apply And.intro)<;>first | rfl | exact⟨_,rfl⟩ | exact⟨_,_,rfl⟩ | simp [AB,Aa]
def Dc(labels size:Int)(out:List (List Int))(k:Int)(next:List (List Int))(BV:Int)(s:St):Prop:=s.v 0=D.int .i64 labels∧s.v 1=D.int .i64 size∧s.v 5=D.own 27 (AB (fun x=>D.sl 3 (AB (D.int .i64) x)) out)∧s.v 6=D.int .i64 k∧s.v 7=D.own 27 (AB (fun x=>D.sl 3 (AB (D.int .i64) x)) next)∧(∃w_,s.v 18=D.vw [5] (s.k 5) w_)∧s.v 19=D.int .i64 (out.length:Int)∧s.v 20=D.int .i64 BV
def IW(labels size:Int)(out:List (List Int))(k:Int)(r:(List (List Int)))(ex:Ex)(s:St):Prop:=ex= .exit 2∧s.v 0=D.int .i64 labels∧s.v 1=D.int .i64 size∧s.v 6=D.int .i64 k∧s.v 7=D.own 27 (AB (fun x=>D.sl 3 (AB (D.int .i64) x)) r)
theorem Ra(labels size:Int)(out:List (List Int))(k:Int){v:(List (List Int))×Int}{s:St}{r:(List (List Int))}(h:I1 labels size out k v=some r)(hM:Dc labels size out k v.1 v.2 s):Bf Y.env uY (IW labels size out k r) s:=by
 unfold I1 at h;refine BA (c:=Zn) (fun v=>EW labels size out k v.1 v.2) (fun v s=>Dc labels size out k v.1 v.2 s) (IW labels size out k) ?_ h hM;clear h hM s v r;intro v s o hM h;obtain⟨next,BV⟩:=v;dsimp only at h hM;unfold EW at h;unfold Dc at hM;obtain⟨m0,m1,m2,m3,m4,⟨w5_,m5⟩,m6,m7⟩:=hM;unfold Zn;by_cases e2:BV<(out.length:Int)
 ·rw [if_pos e2]at h;obtain⟨e3,h⟩:=Av h;by_cases e4:0<k
  ·rw [if_pos e4]at h;obtain⟨e5,h⟩:=Av h;obtain⟨Za,hl7,h⟩:=AU h;try dsimp only at h
   simp (maxDischargeDepth:=9) only [↓AC,A7,AO,AA,AJ,↓reduceIte,Nat.reduceEqDiff,Nat.reduceLT,m2,m3,m5,m6,m7,e2,e3.1,e3.2,e4,e5.1,e5.2];refine Ag (RZ labels size out k BV hl7 ?_) ?_
   ·simp (maxDischargeDepth:=9) only [A7,↓reduceIte,Nat.reduceEqDiff,m0,m1,m2,m3,m4,m5,m6,m7,EY]<;>(repeat' apply And.intro)<;>first | rfl | exact⟨_,rfl⟩ | exact⟨_,_,rfl⟩ | simp [AB,Aa]
   ·intro ex7 s7 hX7;unfold IV at hX7;obtain⟨rfl,n7_0,n7_1,n7_2,n7_3,n7_4,⟨w5_,n7_5⟩,n7_6,n7_7⟩:=hX7;cases h;simp (maxDischargeDepth:=9) only [↓AC,A7,AJ,↓reduceIte,Nat.reduceEqDiff,Nat.reduceLT,n7_0,n7_1,n7_2,n7_3,n7_4,n7_5,n7_6,n7_7,Dc,FD]<;>(repeat' apply And.intro)<;>first | rfl | exact⟨_,rfl⟩ | exact⟨_,_,rfl⟩ | simp [AB,Aa]
  ·rw [if_neg e4]at h;obtain⟨Nc,hl6,h⟩:=AU h;try dsimp only at h
   simp (maxDischargeDepth:=9) only [↓AC,A7,AO,AA,AJ,↓reduceIte,Nat.reduceEqDiff,Nat.reduceLT,m2,m3,m5,m6,m7,e2,e3.1,e3.2,e4];refine Ag (PE labels size out k BV hl6 ?_) ?_
   ·simp (maxDischargeDepth:=9) only [A7,↓reduceIte,Nat.reduceEqDiff,m0,m1,m2,m3,m4,m5,m6,m7,DN]<;>(repeat' apply And.intro)<;>first | rfl | exact⟨_,rfl⟩ | exact⟨_,_,rfl⟩ | simp [AB,Aa]
   ·intro ex6 s6 hX6;unfold FW at hX6;obtain⟨rfl,n6_0,n6_1,n6_2,n6_3,n6_4,⟨w5_,n6_5⟩,n6_6,n6_7⟩:=hX6;cases h;simp (maxDischargeDepth:=9) only [↓AC,A7,AJ,↓reduceIte,Nat.reduceEqDiff,Nat.reduceLT,n6_0,n6_1,n6_2,n6_3,n6_4,n6_5,n6_6,n6_7,Dc,FD]<;>(repeat' apply And.intro)<;>first | rfl | exact⟨_,rfl⟩ | exact⟨_,_,rfl⟩ | simp [AB,Aa]
 ·rw [if_neg e2]at h;cases h;simp (maxDischargeDepth:=9) only [↓AC,A7,AJ,↓reduceIte,Nat.reduceEqDiff,Nat.reduceLT,m0,m1,m3,m4,m6,m7,e2,Dc,IW,JH]
def EZ(labels size:Int)(out:List (List Int))(k:Int)(s:St):Prop:=s.v 0=D.int .i64 labels∧s.v 1=D.int .i64 size∧s.v 5=D.own 27 (AB (fun x=>D.sl 3 (AB (D.int .i64) x)) out)∧s.v 6=D.int .i64 k
def IX(labels size:Int)(r:(List (List Int)))(ex:Ex)(s:St):Prop:=ex= .exit 0∧s.v 5=D.own 27 (AB (fun x=>D.sl 3 (AB (D.int .i64) x)) r)
theorem Rb(labels size:Int){v:(List (List Int))×Int}{s:St}{r:(List (List Int))}(h:Jk labels size v=some r)(hM:EZ labels size v.1 v.2 s):Bf Y.env uZ (IX labels size r) s:=by
 unfold Jk at h;refine BA (c:=Zo) (fun v=>EX labels size v.1 v.2) (fun v s=>EZ labels size v.1 v.2 s) (IX labels size) ?_ h hM;clear h hM s v r;intro v s o hM h;obtain⟨out,k⟩:=v;dsimp only at h hM;unfold EX at h;unfold EZ at hM;obtain⟨m0,m1,m2,m3⟩:=hM;unfold Zo;by_cases e1:k<size
 ·rw [if_pos e1]at h;obtain⟨D6,hl3,h⟩:=AU h;try dsimp only at h
  simp (maxDischargeDepth:=9) only [↓AC,A7,AO,AA,AJ,↓reduceIte,Nat.reduceEqDiff,Nat.reduceLT,m1,m2,m3,e1];refine Ag (Ra labels size out k hl3 ?_) ?_
  ·simp (maxDischargeDepth:=9) only [A7,↓reduceIte,Nat.reduceEqDiff,m0,m1,m2,m3,Dc]<;>(repeat' apply And.intro)<;>first | rfl | exact⟨_,rfl⟩ | exact⟨_,_,rfl⟩ | simp [AB,Aa]
  ·intro ex3 s3 hX3;unfold IW at hX3;obtain⟨rfl,n3_0,n3_1,n3_2,n3_3⟩:=hX3;cases h;simp (maxDischargeDepth:=9) only [↓AC,A7,AA,AJ,↓reduceIte,Nat.reduceEqDiff,Nat.reduceLT,n3_0,n3_1,n3_2,n3_3,EZ,FD]
 ·rw [if_neg e1]at h;cases h;simp (maxDischargeDepth:=9) only [↓AC,A7,AJ,↓reduceIte,Nat.reduceEqDiff,Nat.reduceLT,m1,m2,m3,e1,EZ,IX,JH]
theorem Sn(labels size:Int){r:(List (List Int))}(h:Ko labels size=some r):Y.call 47 [D.int .i64 labels,D.int .i64 size] []=some (D.own 27 (AB (fun x=>D.sl 3 (AB (D.int .i64) x)) r),[]):=by
 refine c47 ?_ rfl;unfold k47;unfold Ko at h;obtain⟨Au,hl2,h⟩:=AU h;try dsimp only at h
 simp (maxDischargeDepth:=9) only [↓AC,A7,AA,AJ,↓reduceIte,Nat.reduceEqDiff,Nat.reduceLT,Nat.reduceLeDiff,Nat.reduceAdd];refine Ag (Rb labels size hl2 ?_) ?_
 ·simp (maxDischargeDepth:=9) only [A7,AA,↓reduceIte,Nat.reduceEqDiff,Nat.reduceLT,EZ]<;>(repeat' apply And.intro)<;>first | rfl | exact⟨_,rfl⟩ | exact⟨_,_,rfl⟩ | simp [AB,Aa]
 ·intro ex2 s2 hX2;unfold IX at hX2;obtain⟨rfl,n2_0⟩:=hX2;cases h;simp (maxDischargeDepth:=9) only [↓AC,A7,AO,AA,↓reduceIte,Nat.reduceEqDiff,Nat.reduceLT,n2_0]
noncomputable def Ea(l at_ out:List Int)(LJ:Int):Option (((List Int)×Int)⊕((List Int))):= if LJ<(at_.length:Int)then ck (0≤LJ∧LJ.toNat<at_.length)<| ck (0≤(at_.getD LJ.toNat default)∧(at_.getD LJ.toNat default).toNat<l.length)<| ck (out.length+1<1099511627776)<| some (Sum.inl ((out++[(l.getD ((at_.getD LJ.toNat default).toNat) default)]),IntKind.i64.wrap (LJ+1))) else some (Sum.inr out)
noncomputable def Jl(l at_:List Int)(v:(List Int)×Int):Option ((List Int)):=Gb (fun v=>Ea l at_ v.1 v.2) v
noncomputable def Kq(l at_:List Int):Option ((List Int)):= (Jl l at_ ([],0)).bind fun Au=> some Au
def Zp:SC:= .seq (.ops [oB 11 .lss 3 (tK 10) (tK 9) 3 0]) (.seq (.cond (tK 11) .skip (.exit 0)) (.seq (.block 1 (.seq (.ops [oI 12 27 8 10,oL 13 3 12 3,oA 7 13 3]) (.ops [oM 14 5 27,oM 15 0 27,oM 16 7 3,oI 17 27 15 16,oL 18 3 17 3,oX 19 (.buildSlice 27 1 #[(0,(tK 18))]) 27,oX 20 (.call ⟨(.builtin .append), #[(tK 14),(tK 19)], #[27,27]⟩) 27,oA 5 20 27]))) (.ops [oB 21 .add 3 (tK 10) (iK 1) 3 3,oM 10 21 3])))
def uf:SC:= .loop Zp
def k92:SC:= .seq (.ops [oX 4 (.assign (.const (.slice none 0 0))) 27]) (.seq (.ops [oX 5 (.assign (.const (.slice none 0 0))) 27]) (.seq (.seq (.ops [oM 8 1 27,oN 9 8 27,oX 10 (.move (iK 0)) 3]) (.block 0 uf)) (.seq (.ops [oM 22 5 27,oA 4 22 27]) .ret)))
theorem A45:Tryz.f92.body.map (BO lends)=some k92:=by kernel_rfl
theorem AJr:Bi Tryz.f92 2=true:=by kernel_rfl
theorem c92{a l:List D}{r:D×List D}(h:Bf Y.env k92 (EG AV l.length [ResultVar.tmp 4] r) (entry a l))(ha:a.length=2):Y.call 92 a l=some r:=
 AL (Y:=Y) rfl Tryz.func92 (ha▸AJr) A45 h
def Eb(l at_ out:List Int)(LJ:Int)(s:St):Prop:=s.v 0=D.sl 3 (AB (D.int .i64) l)∧s.v 5=D.own 3 (AB (D.int .i64) out)∧s.v 8=D.sl 3 (AB (D.int .i64) at_)∧s.v 9=D.int .i64 (at_.length:Int)∧s.v 10=D.int .i64 LJ
def IY(l at_:List Int)(r:(List Int))(ex:Ex)(s:St):Prop:=ex= .exit 0∧s.v 5=D.own 3 (AB (D.int .i64) r)
theorem Rc(l at_:List Int){v:(List Int)×Int}{s:St}{r:(List Int)}(h:Jl l at_ v=some r)(hM:Eb l at_ v.1 v.2 s):Bf Y.env uf (IY l at_ r) s:=by
 unfold Jl at h;refine BA (c:=Zp) (fun v=>Ea l at_ v.1 v.2) (fun v s=>Eb l at_ v.1 v.2 s) (IY l at_) ?_ h hM;clear h hM s v r;intro v s o hM h;obtain⟨out,LJ⟩:=v;dsimp only at h hM;unfold Ea at h;unfold Eb at hM;obtain⟨m0,m1,m2,m3,m4⟩:=hM;unfold Zp;by_cases e1:LJ<(at_.length:Int)
 ·rw [if_pos e1]at h;obtain⟨e2,h⟩:=Av h;obtain⟨e3,h⟩:=Av h;obtain⟨e4,h⟩:=Av h;cases h;simp (maxDischargeDepth:=9) only [↓AC,A7,AO,AA,AJ,↓reduceIte,Nat.reduceEqDiff,Nat.reduceLT,Nat.reduceLeDiff,Nat.reduceAdd,m0,m1,m2,m3,m4,e1,e2.1,e2.2,e3.1,e3.2,e4,Eb,FD]
 ·rw [if_neg e1]at h;cases h;simp (maxDischargeDepth:=9) only [↓AC,A7,AJ,↓reduceIte,Nat.reduceEqDiff,Nat.reduceLT,m1,m3,m4,e1,Eb,IY,JH]
theorem Sq(l at_:List Int){r:(List Int)}(h:Kq l at_=some r):Y.call 92 [D.sl 3 (AB (D.int .i64) l),D.sl 3 (AB (D.int .i64) at_)] []=some (D.own 3 (AB (D.int .i64) r),[]):=by
 refine c92 ?_ rfl;unfold k92;unfold Kq at h;obtain⟨Au,hl2,h⟩:=AU h;try dsimp only at h
 simp (maxDischargeDepth:=9) only [↓AC,A7,AO,AA,AJ,↓reduceIte,Nat.reduceEqDiff,Nat.reduceLT];refine Ag (Rc l at_ hl2 ?_) ?_
 ·simp (maxDischargeDepth:=9) only [A7,AA,↓reduceIte,Nat.reduceEqDiff,Nat.reduceLT,Eb]<;>(repeat' apply And.intro)<;>first | rfl | exact⟨_,rfl⟩ | exact⟨_,_,rfl⟩ | simp [AB,Aa]
 ·intro ex2 s2 hX2;unfold IY at hX2;obtain⟨rfl,n2_0⟩:=hX2;cases h;simp (maxDischargeDepth:=9) only [↓AC,A7,AO,AA,↓reduceIte,Nat.reduceEqDiff,Nat.reduceLT,n2_0]
noncomputable def Re(set_ a:Int):Option (Bool):= ck (¬a<0)<| some (decide (((set_.fdiv (2 ^ (min a.toNat (IntKind.i64.bits)))).tmod 2)=1))
def k85:SC:= .seq (.ops [oX 4 (.assign (.const (.bool false))) 4]) (.seq (.ops [oM 5 0 3,oM 6 1 3,oB 7 .shr 3 (tK 5) (tK 6) 3 3,oB 8 .rem 3 (tK 7) (iK 2) 3 3,oB 9 .eql 3 (tK 8) (iK 1) 3 4,oA 4 9 4]) .ret)
theorem A46:Tryz.f85.body.map (BO lends)=some k85:=by kernel_rfl
theorem AJt:Bi Tryz.f85 2=true:=by kernel_rfl
theorem c85{a l:List D}{r:D×List D}(h:Bf Y.env k85 (EG AV l.length [ResultVar.tmp 4] r) (entry a l))(ha:a.length=2):Y.call 85 a l=some r:=
 AL (Y:=Y) rfl Tryz.func85 (ha▸AJt) A46 h
theorem Zq(set_ a:Int){r:Bool}(h:Re set_ a=some r):Y.call 85 [D.int .i64 set_,D.int .i64 a] []=some (D.bool r,[]):=by
 refine c85 ?_ rfl;unfold k85;unfold Re at h;obtain⟨e1,h⟩:=Av h;cases h;simp (maxDischargeDepth:=9) only [↓AC,A7,AA,AJ,↓reduceIte,Nat.reduceEqDiff,Nat.reduceLT,Int.reduceEq,e1]
noncomputable def Ey(set_:Int)(out:List Int)(a:Int):Option (((List Int)×Int)⊕((List Int))):= if a<8 then (Re set_ a).bind fun Au=> if Au=true then ck (out.length+1<1099511627776)<| some (Sum.inl ((out++[a]),IntKind.i64.wrap (a+1))) else some (Sum.inl (out,IntKind.i64.wrap (a+1))) else some (Sum.inr out)
noncomputable def KL(set_:Int)(v:(List Int)×Int):Option ((List Int)):=Gb (fun v=>Ey set_ v.1 v.2) v
noncomputable def K8(set_:Int):Option ((List Int)):= (KL set_ ([],0)).bind fun Au=> some Au
def Zr:SC:= .seq (.seq (.ops [oM 5 4 3,oB 6 .lss 3 (tK 5) (iK 8) 3 4]) (.cond (tK 6) .skip (.exit 0))) (.seq (.block 1 (.seq (.ops [oM 9 0 3,oM 10 4 3,oC 11 85 [(tK 9),(tK 10)] [3,3] 4]) (.cond (tK 11) (.ops [oM 12 3 27,oM 13 4 3,oX 14 (.buildSlice 27 1 #[(0,(tK 13))]) 27,oX 15 (.call ⟨(.builtin .append), #[(tK 12),(tK 14)], #[27,27]⟩) 27,oA 3 15 27]) .skip))) (.ops [oM 7 4 3,oB 8 .add 3 (tK 7) (iK 1) 3 3,oA 4 8 3]))
def ug:SC:= .loop Zr
def k56:SC:= .seq (.ops [oX 2 (.assign (.const (.slice none 0 0))) 27]) (.seq (.ops [oX 3 (.assign (.const (.slice none 0 0))) 27]) (.seq (.seq (.ops [oX 4 (.assign (iK 0)) 3]) (.block 0 ug)) (.seq (.ops [oM 16 3 27,oA 2 16 27]) .ret)))
theorem A47:Tryz.f56.body.map (BO lends)=some k56:=by kernel_rfl
theorem AJv:Bi Tryz.f56 1=true:=by kernel_rfl
theorem c56{a l:List D}{r:D×List D}(h:Bf Y.env k56 (EG AV l.length [ResultVar.tmp 2] r) (entry a l))(ha:a.length=1):Y.call 56 a l=some r:=
 AL (Y:=Y) rfl Tryz.func56 (ha▸AJv) A47 h
def Dz(set_:Int)(out:List Int)(a:Int)(s:St):Prop:=s.v 0=D.int .i64 set_∧s.v 3=D.own 3 (AB (D.int .i64) out)∧s.v 4=D.int .i64 a
def JC(set_:Int)(r:(List Int))(ex:Ex)(s:St):Prop:=ex= .exit 0∧s.v 3=D.own 3 (AB (D.int .i64) r)
theorem Sr(set_:Int){v:(List Int)×Int}{s:St}{r:(List Int)}(h:KL set_ v=some r)(hM:Dz set_ v.1 v.2 s):Bf Y.env ug (JC set_ r) s:=by
 unfold KL at h;refine BA (c:=Zr) (fun v=>Ey set_ v.1 v.2) (fun v s=>Dz set_ v.1 v.2 s) (JC set_) ?_ h hM;clear h hM s v r;intro v s o hM h;obtain⟨out,a⟩:=v;dsimp only at h hM;unfold Ey at h;unfold Dz at hM;obtain⟨m0,m1,m2⟩:=hM;unfold Zr;by_cases e1:a<8
 ·rw [if_pos e1]at h;obtain⟨Au,hl2,h⟩:=AU h;try dsimp only at h
  have c2:=Zq set_ a hl2;by_cases e3:Au=true
  ·rw [if_pos e3]at h;obtain⟨e4,h⟩:=Av h;cases h;simp (maxDischargeDepth:=9) only [↓AC,A7,AO,BM,AA,AJ,↓reduceIte,Nat.reduceEqDiff,Nat.reduceLT,Nat.reduceLeDiff,Nat.reduceAdd,m0,m1,m2,e1,c2,e3,e4,Dz,FD]
  ·rw [if_neg e3]at h;have e3f:Au=false:=Bool.eq_false_iff.mpr e3;cases h;simp (maxDischargeDepth:=9) only [↓AC,A7,BM,AA,AJ,↓reduceIte,Nat.reduceEqDiff,Nat.reduceLT,Nat.reduceAdd,m0,m1,m2,e1,c2,e3f,Dz,FD]
 ·rw [if_neg e1]at h;cases h;simp (maxDischargeDepth:=9) only [↓AC,A7,AJ,↓reduceIte,Nat.reduceEqDiff,Nat.reduceLT,m1,m2,e1,Dz,JC,JH]
theorem OJ(set_:Int){r:(List Int)}(h:K8 set_=some r):Y.call 56 [D.int .i64 set_] []=some (D.own 3 (AB (D.int .i64) r),[]):=by
 refine c56 ?_ rfl;unfold k56;unfold K8 at h;obtain⟨Au,hl2,h⟩:=AU h;try dsimp only at h
 simp (maxDischargeDepth:=9) only [↓AC,A7,AA,AJ,↓reduceIte,Nat.reduceEqDiff,Nat.reduceLT];refine Ag (Sr set_ hl2 ?_) ?_
 ·simp (maxDischargeDepth:=9) only [A7,AA,↓reduceIte,Nat.reduceEqDiff,Nat.reduceLT,Dz]<;>(repeat' apply And.intro)<;>first | rfl | exact⟨_,rfl⟩ | exact⟨_,_,rfl⟩ | simp [AB,Aa]
 ·intro ex2 s2 hX2;unfold JC at hX2;obtain⟨rfl,n2_0⟩:=hX2;cases h;simp (maxDischargeDepth:=9) only [↓AC,A7,AO,AA,↓reduceIte,Nat.reduceEqDiff,Nat.reduceLT,n2_0]
noncomputable def Gh(rec_:(List (List Int))→(List Int)→(List Int)→Option (((List Int)×Bool)⊕((List Int)×Bool)))(good:List (List Int))(sets chosen:List Int)(D6:(List Int))(XE:Int):Option ((Int)⊕(((List Int))⊕(((List Int))⊕Unit))):=
 if XE<(D6.length:Int)then
  ck (0≤XE∧XE.toNat<D6.length)<|
  (Jb chosen).bind fun Nc=>
  ck (Nc.length+1<1099511627776)<|
  (rec_ good sets (Nc++[(D6.getD XE.toNat default)])).bind fun XC=>
  match XC with
  | .inl q8_=>
   if q8_.2=true then
    some (Sum.inr (Sum.inl q8_.1))
   else
    some (Sum.inl (IntKind.i64.wrap (XE+1)))
  | .inr q8_=>
   if q8_.2=true then
    some (Sum.inr (Sum.inr (Sum.inl q8_.1)))
   else
    some (Sum.inl (IntKind.i64.wrap (XE+1)))
 else
  some (Sum.inr (Sum.inr (Sum.inr ())))
noncomputable def KM(rec_:(List (List Int))→(List Int)→(List Int)→Option (((List Int)×Bool)⊕((List Int)×Bool)))(good:List (List Int))(sets chosen:List Int)(D6:(List Int))(v:Int):Option (((List Int))⊕(((List Int))⊕Unit)):=Gb (fun v=>Gh rec_ good sets chosen D6 v) v
noncomputable def Ga(rec_:(List (List Int))→(List Int)→(List Int)→Option (((List Int)×Bool)⊕((List Int)×Bool)))(good:List (List Int))(sets chosen:List Int):Option (((List Int)×Bool)⊕((List Int)×Bool)):=
 if(chosen.length:Int)=(sets.length:Int)then
  ck (chosen.length<1099511627776)<|
  ck (good.length<1099511627776)<|
  ck ((DI chosen).length<1099511627776)<|
  some (Sum.inl (chosen,(good.contains (DI chosen))))
 else
  ck (0≤(chosen.length:Int)∧chosen.length<sets.length)<|
  (K8 (sets.getD chosen.length default)).bind fun D6=>
  (KM rec_ good sets chosen D6 0).bind fun Lv=>
  match Lv with
  | .inl q5_=>
   some (Sum.inl (q5_,true))
  | .inr (.inl q5_)=>
   some (Sum.inr (q5_,true))
  | .inr (.inr q5_)=>
   some (Sum.inr ([],false))
noncomputable def Ch:Nat→(List (List Int))→(List Int)→(List Int)→Option (((List Int)×Bool)⊕((List Int)×Bool)) | 0=>fun _ _ _=>none | n+1=>fun good sets chosen=>Ga (Ch n) good sets chosen
noncomputable def QJ(good:List (List Int))(sets chosen:List Int):Option (((List Int)×Bool)⊕((List Int)×Bool)):=Ch 1000000 good sets chosen
def Zt:SC:= .seq (.ops [oB 31 .lss 3 (tK 30) (tK 29) 3 0]) (.seq (.cond (tK 31) .skip (.exit 0)) (.seq (.block 1 (.seq (.ops [oI 32 27 28 30,oL 33 3 32 3,oA 10 33 3]) (.seq (.ops [oM 35 0 22,oM 36 1 27,oM 37 2 27,oC 38 79 [(tK 37)] [27] 27,oM 39 10 3,oX 40 (.buildSlice 27 1 #[(0,(tK 39))]) 27,oX 41 (.call ⟨(.builtin .append), #[(tK 38),(tK 40)], #[27,27]⟩) 27,oC 42 91 [(tK 35),(tK 36),(tK 41)] [22,27,27] 49,oM 34 42 49,oE 43 34 0 27,oE 44 34 1 4,oA 11 43 27,oA 12 44 4]) (.seq (.ops [oM 45 12 4]) (.cond (tK 45) (.seq (.ops [oM 46 11 27,oA 6 46 27,oX 7 (.assign (.const (.bool true))) 4]) .ret) .skip))))) (.ops [oB 47 .add 3 (tK 30) (iK 1) 3 3,oM 30 47 3])))
def uh:SC:= .loop Zt
def k91:SC:= .seq (.ops [oX 6 (.assign (.const (.slice none 0 0))) 27,oX 7 (.assign (.const (.bool false))) 4]) (.seq (.ops [oM 13 2 27,oN 14 13 27,oA 8 14 3]) (.seq (.seq (.ops [oM 15 8 3,oM 16 1 27,oN 17 16 27,oB 18 .eql 3 (tK 15) (tK 17) 3 4]) (.cond (tK 18) (.seq (.ops [oM 19 2 27,oM 20 0 22,oM 21 2 27,oC 22 90 [(tK 21)] [27] 27,oC 23 86 [(tK 20),(tK 22)] [22,27] 4,oA 6 19 27,oA 7 23 4]) .ret) .skip)) (.seq (.seq (.ops [oM 24 1 27,oM 25 8 3,oI 26 27 24 25,oL 27 3 26 3,oC 28 56 [(tK 27)] [3] 27,oN 29 28 27,oX 30 (.move (iK 0)) 3]) (.block 0 uh)) (.seq (.ops [oX 6 (.assign (.const (.slice none 0 0))) 27,oX 7 (.assign (.const (.bool false))) 4]) .ret))))
theorem A48:Tryz.f91.body.map (BO lends)=some k91:=by kernel_rfl
theorem AJy:Bi Tryz.f91 3=true:=by kernel_rfl
theorem c91{a l:List D}{r:D×List D}(h:Bf Y.env k91 (EG AV l.length [ResultVar.tmp 6,ResultVar.tmp 7] r) (entry a l))(ha:a.length=3):Y.call 91 a l=some r:=
 AL (Y:=Y) rfl Tryz.func91 (ha▸AJy) A48 h
def CK(rec_:(List (List Int))→(List Int)→(List Int)→Option (((List Int)×Bool)⊕((List Int)×Bool)))(good:List (List Int))(sets chosen:List Int)(D6:(List Int))(XE:Int)(s:St):Prop:=s.v 0=D.sl 27 (AB (fun x=>D.sl 3 (AB (D.int .i64) x)) good)∧s.v 1=D.sl 3 (AB (D.int .i64) sets)∧s.v 2=D.sl 3 (AB (D.int .i64) chosen)∧s.v 28=D.own 3 (AB (D.int .i64) D6)∧s.v 29=D.int .i64 (D6.length:Int)∧s.v 30=D.int .i64 XE
def Cu(rec_:(List (List Int))→(List Int)→(List Int)→Option (((List Int)×Bool)⊕((List Int)×Bool)))(good:List (List Int))(sets chosen:List Int)(D6:(List Int))(r:((List Int))⊕(((List Int))⊕Unit))(ex:Ex)(s:St):Prop:=match r with
 | .inl q=>ex= .ret∧s.v 6=D.sl 3 (AB (D.int .i64) q)∧s.v 7=D.bool true
 | .inr (.inl q)=>ex= .ret∧s.v 6=D.own 3 (AB (D.int .i64) q)∧s.v 7=D.bool true
 | .inr (.inr q)=>ex= .exit 0
theorem Su(rec_:(List (List Int))→(List Int)→(List Int)→Option (((List Int)×Bool)⊕((List Int)×Bool)))(good:List (List Int))(sets chosen:List Int)(D6:(List Int))(rec_h: ∀(good:List (List Int)) (sets chosen:List Int) (r:((List Int)×Bool)⊕((List Int)×Bool)),rec_ good sets chosen=some r→Y.call 91 [D.sl 27 (AB (fun x=>D.sl 3 (AB (D.int .i64) x)) good),D.sl 3 (AB (D.int .i64) sets),D.sl 3 (AB (D.int .i64) chosen)] []=some (match (generalizing:=false) r with | .inl q=>(D.tup [D.sl 3 (AB (D.int .i64) q.1),D.bool q.2],[]) | .inr q=>(D.tup [D.own 3 (AB (D.int .i64) q.1),D.bool q.2],[]))){v:Int}{s:St}{r:((List Int))⊕(((List Int))⊕Unit)}(h:KM rec_ good sets chosen D6 v=some r)(hM:CK rec_ good sets chosen D6 v s):Bf Y.env uh (Cu rec_ good sets chosen D6 r) s:=by
 unfold KM at h;refine BA (c:=Zt) (fun v=>Gh rec_ good sets chosen D6 v) (fun v s=>CK rec_ good sets chosen D6 v s) (Cu rec_ good sets chosen D6) ?_ h hM;clear h hM s v r;intro XE s o hM h;unfold Gh at h;unfold CK at hM;obtain⟨m0,m1,m2,m3,m4,m5⟩:=hM;unfold Zt;by_cases e4:XE<(D6.length:Int)
 ·rw [if_pos e4]at h;obtain⟨e5,h⟩:=Av h;obtain⟨Nc,hl6,h⟩:=AU h;try dsimp only at h
  have c6:=LG chosen hl6;obtain⟨e7,h⟩:=Av h;obtain⟨XC,hl8,h⟩:=AU h;try dsimp only at h
  have c8:=rec_h _ _ _ _ hl8;rcases XC with q8_ | q8_
  ·dsimp only at h c8;by_cases e9:(!q8_.1.isEmpty)=true
   ·skip
    by_cases e10:q8_.2=true
    ·rw [if_pos e10]at h;cases h;simp (maxDischargeDepth:=9) only [↓AC,A7,AO,BM,AA,AJ,↓reduceIte,Nat.reduceEqDiff,Nat.reduceLT,Nat.reduceLeDiff,Nat.reduceAdd,m0,m1,m2,m3,m4,m5,e4,e5.1,e5.2,c6,e7,c8,e9,e10,CK,Cu,Pz]
    ·rw [if_neg e10]at h;have e10f:q8_.2=false:=Bool.eq_false_iff.mpr e10;cases h;simp (maxDischargeDepth:=9) only [↓AC,A7,AO,BM,AA,AJ,↓reduceIte,Nat.reduceEqDiff,Nat.reduceLT,Nat.reduceLeDiff,Nat.reduceAdd,m0,m1,m2,m3,m4,m5,e4,e5.1,e5.2,c6,e7,c8,e9,e10f,CK,FD]
   ·skip
    have e9f:(!q8_.1.isEmpty)=false:=Bool.eq_false_iff.mpr e9;by_cases e10:q8_.2=true
    ·rw [if_pos e10]at h;cases h;simp (maxDischargeDepth:=9) only [↓AC,A7,AO,BM,AA,AJ,↓reduceIte,Nat.reduceEqDiff,Nat.reduceLT,Nat.reduceLeDiff,Nat.reduceAdd,m0,m1,m2,m3,m4,m5,e4,e5.1,e5.2,c6,e7,c8,e9f,e10,CK,Cu,Pz]
    ·rw [if_neg e10]at h;have e10f:q8_.2=false:=Bool.eq_false_iff.mpr e10;cases h;simp (maxDischargeDepth:=9) only [↓AC,A7,AO,BM,AA,AJ,↓reduceIte,Nat.reduceEqDiff,Nat.reduceLT,Nat.reduceLeDiff,Nat.reduceAdd,m0,m1,m2,m3,m4,m5,e4,e5.1,e5.2,c6,e7,c8,e9f,e10f,CK,FD]
  ·dsimp only at h c8;by_cases e11:q8_.2=true
   ·rw [if_pos e11]at h;cases h;simp (maxDischargeDepth:=9) only [↓AC,A7,AO,BM,AA,AJ,↓reduceIte,Nat.reduceEqDiff,Nat.reduceLT,Nat.reduceLeDiff,Nat.reduceAdd,m0,m1,m2,m3,m4,m5,e4,e5.1,e5.2,c6,e7,c8,e11,CK,Cu,Pz]
   ·rw [if_neg e11]at h;have e11f:q8_.2=false:=Bool.eq_false_iff.mpr e11;cases h;simp (maxDischargeDepth:=9) only [↓AC,A7,AO,BM,AA,AJ,↓reduceIte,Nat.reduceEqDiff,Nat.reduceLT,Nat.reduceLeDiff,Nat.reduceAdd,m0,m1,m2,m3,m4,m5,e4,e5.1,e5.2,c6,e7,c8,e11f,CK,FD]
 ·rw [if_neg e4]at h;cases h;simp (maxDischargeDepth:=9) only [↓AC,A7,AJ,↓reduceIte,Nat.reduceLT,m4,m5,e4,CK,Cu,JH]
theorem Rf(rec_:(List (List Int))→(List Int)→(List Int)→Option (((List Int)×Bool)⊕((List Int)×Bool)))(good:List (List Int))(sets chosen:List Int)(rec_h: ∀(good:List (List Int)) (sets chosen:List Int) (r:((List Int)×Bool)⊕((List Int)×Bool)),rec_ good sets chosen=some r→Y.call 91 [D.sl 27 (AB (fun x=>D.sl 3 (AB (D.int .i64) x)) good),D.sl 3 (AB (D.int .i64) sets),D.sl 3 (AB (D.int .i64) chosen)] []=some (match (generalizing:=false) r with | .inl q=>(D.tup [D.sl 3 (AB (D.int .i64) q.1),D.bool q.2],[]) | .inr q=>(D.tup [D.own 3 (AB (D.int .i64) q.1),D.bool q.2],[]))){r:((List Int)×Bool)⊕((List Int)×Bool)}(h:Ga rec_ good sets chosen=some r):Y.call 91 [D.sl 27 (AB (fun x=>D.sl 3 (AB (D.int .i64) x)) good),D.sl 3 (AB (D.int .i64) sets),D.sl 3 (AB (D.int .i64) chosen)] []=some (match (generalizing:=false) r with | .inl q=>(D.tup [D.sl 3 (AB (D.int .i64) q.1),D.bool q.2],[]) | .inr q=>(D.tup [D.own 3 (AB (D.int .i64) q.1),D.bool q.2],[])):=by
 refine c91 ?_ rfl;unfold k91;unfold Ga at h;by_cases e1:(chosen.length:Int)=(sets.length:Int)
 ·rw [if_pos e1]at h;obtain⟨e2,h⟩:=Av h;have c3:=u6 chosen e2;obtain⟨e4,h⟩:=Av h;obtain⟨e5,h⟩:=Av h;have c6:=Vm good (DI chosen) e4 e5;cases h;simp (maxDischargeDepth:=9) only [↓AC,A7,AO,BM,AA,AJ,↓reduceIte,Nat.reduceEqDiff,Nat.reduceLT,Nat.reduceAdd,decide_eq_true e1,c3,c6]
 ·rw [if_neg e1]at h;obtain⟨e2,h⟩:=Av h;obtain⟨D6,hl3,h⟩:=AU h;try dsimp only at h
  have c3:=OJ (sets.getD chosen.length default) hl3;obtain⟨Lv,hl5,h⟩:=AU h;try dsimp only at h
  simp (maxDischargeDepth:=9) only [↓AC,A7,AO,BM,AA,AJ,↓reduceIte,Nat.reduceEqDiff,Nat.reduceLT,Nat.reduceAdd,e1,e2.1,e2.2,c3];refine Ag (Su rec_ good sets chosen D6 rec_h hl5 ?_) ?_
  ·simp (maxDischargeDepth:=9) only [A7,AA,↓reduceIte,Nat.reduceEqDiff,Nat.reduceLT,CK]
  ·intro ex5 s5 hX5;rcases Lv with(q5_ | q5_ | q5_)
   ·unfold Cu at hX5;dsimp only at hX5 h;obtain⟨rfl,n5_0,n5_1⟩:=hX5;cases h;simp (maxDischargeDepth:=9) only [↓AC,A7,AA,↓reduceIte,n5_0,n5_1]
   ·unfold Cu at hX5;dsimp only at hX5 h;obtain⟨rfl,n5_0,n5_1⟩:=hX5;cases h;simp (maxDischargeDepth:=9) only [↓AC,A7,AO,AA,↓reduceIte,Nat.reduceEqDiff,n5_0,n5_1]
   ·unfold Cu at hX5;dsimp only at hX5 h
    obtain rfl:=hX5
    cases h;simp (maxDischargeDepth:=9) only [↓AC,A7,AA,AJ,↓reduceIte,Nat.reduceEqDiff,Nat.reduceLT]<;>(repeat' apply And.intro)<;>first | rfl | exact⟨_,rfl⟩ | exact⟨_,_,rfl⟩ | simp [AB,Aa]
theorem Rh(n:Nat): ∀(good:List (List Int)) (sets chosen:List Int) (r:((List Int)×Bool)⊕((List Int)×Bool)),Ch n good sets chosen=some r→Y.call 91 [D.sl 27 (AB (fun x=>D.sl 3 (AB (D.int .i64) x)) good),D.sl 3 (AB (D.int .i64) sets),D.sl 3 (AB (D.int .i64) chosen)] []=some (match (generalizing:=false) r with | .inl q=>(D.tup [D.sl 3 (AB (D.int .i64) q.1),D.bool q.2],[]) | .inr q=>(D.tup [D.own 3 (AB (D.int .i64) q.1),D.bool q.2],[])):=by
 induction n with
 | zero=>intro good sets chosen r h;exact absurd h (by rw [Ch];exact fun e=>by cases e)
 | succ n ih=>intro good sets chosen r h;rw [Ch]at h;exact Rf (Ch n) good sets chosen ih h
theorem U5(good:List (List Int))(sets chosen:List Int){r:((List Int)×Bool)⊕((List Int)×Bool)}(h:QJ good sets chosen=some r):Y.call 91 [D.sl 27 (AB (fun x=>D.sl 3 (AB (D.int .i64) x)) good),D.sl 3 (AB (D.int .i64) sets),D.sl 3 (AB (D.int .i64) chosen)] []=some (match (generalizing:=false) r with | .inl q=>(D.tup [D.sl 3 (AB (D.int .i64) q.1),D.bool q.2],[]) | .inr q=>(D.tup [D.own 3 (AB (D.int .i64) q.1),D.bool q.2],[])):=Rh 1000000 good sets chosen r h
noncomputable def Gv(good:List (List Int))(sets:List Int)(Cv:(List (List Int)))(out:List (List Int))(DV:Int):Option (((List (List Int))×Int)⊕((List (List Int)))):=
 if DV<(Cv.length:Int)then
  ck (0≤DV∧DV.toNat<Cv.length)<|
  (Kq sets (Cv.getD DV.toNat default)).bind fun DF=>
  (QJ good DF []).bind fun Lv=>
  match Lv with
  | .inl q5_=>
   if q5_.2=true then
    ck (out.length+1<1099511627776)<|
    some (Sum.inl ((out++[(Cv.getD DV.toNat default)]),IntKind.i64.wrap (DV+1)))
   else
    some (Sum.inl (out,IntKind.i64.wrap (DV+1)))
  | .inr q5_=>
   if q5_.2=true then
    ck (out.length+1<1099511627776)<|
    some (Sum.inl ((out++[(Cv.getD DV.toNat default)]),IntKind.i64.wrap (DV+1)))
   else
    some (Sum.inl (out,IntKind.i64.wrap (DV+1)))
 else
  some (Sum.inr out)
noncomputable def Mi(good:List (List Int))(sets:List Int)(Cv:(List (List Int)))(v:(List (List Int))×Int):Option ((List (List Int))):=Gb (fun v=>Gv good sets Cv v.1 v.2) v
noncomputable def Ng(good:List (List Int))(sets:List Int)(size:Int):Option ((List (List Int))):= (Ko (sets.length:Int) size).bind fun Cv=> (Mi good sets Cv ([],0)).bind fun D6=> some D6
def Zu:SC:= .seq (.ops [oB 18 .lss 3 (tK 17) (tK 16) 3 0]) (.seq (.cond (tK 18) .skip (.exit 0)) (.seq (.block 1 (.seq (.ops [oI 19 22 15 17,oL 20 27 19 27,oA 9 20 27]) (.seq (.ops [oM 22 0 22,oM 23 1 27,oM 24 9 27,oC 25 92 [(tK 23),(tK 24)] [27,27] 27,oC 26 91 [(tK 22),(tK 25),(.const (.slice none 0 0))] [22,27,27] 49,oM 21 26 49,oE 27 21 0 27,oE 28 21 1 4,oA 10 27 27,oA 11 28 4]) (.seq (.ops [oM 29 11 4]) (.cond (tK 29) (.ops [oM 30 7 22,oM 31 9 27,oX 32 (.buildSlice 22 1 #[(0,(tK 31))]) 22,oX 33 (.call ⟨(.builtin .append), #[(tK 30),(tK 32)], #[22,22]⟩) 22,oA 7 33 22]) .skip))))) (.ops [oB 34 .add 3 (tK 17) (iK 1) 3 3,oM 17 34 3])))
def uj:SC:= .loop Zu
def k61:SC:= .seq (.ops [oX 6 (.assign (.const (.slice none 0 0))) 22]) (.seq (.ops [oX 7 (.assign (.const (.slice none 0 0))) 22]) (.seq (.seq (.ops [oM 12 1 27,oN 13 12 27,oM 14 2 3,oC 15 47 [(tK 13),(tK 14)] [3,3] 22,oN 16 15 22,oX 17 (.move (iK 0)) 3]) (.block 0 uj)) (.seq (.ops [oM 35 7 22,oA 6 35 22]) .ret)))
theorem A49:Tryz.f61.body.map (BO lends)=some k61:=by kernel_rfl
theorem AK0:Bi Tryz.f61 3=true:=by kernel_rfl
theorem c61{a l:List D}{r:D×List D}(h:Bf Y.env k61 (EG AV l.length [ResultVar.tmp 6] r) (entry a l))(ha:a.length=3):Y.call 61 a l=some r:=
 AL (Y:=Y) rfl Tryz.func61 (ha▸AK0) A49 h
def Cq(good:List (List Int))(sets:List Int)(Cv:(List (List Int)))(out:List (List Int))(DV:Int)(s:St):Prop:=s.v 0=D.sl 27 (AB (fun x=>D.sl 3 (AB (D.int .i64) x)) good)∧s.v 1=D.sl 3 (AB (D.int .i64) sets)∧s.v 7=D.own 27 (AB (fun x=>D.sl 3 (AB (D.int .i64) x)) out)∧s.v 15=D.own 27 (AB (fun x=>D.sl 3 (AB (D.int .i64) x)) Cv)∧s.v 16=D.int .i64 (Cv.length:Int)∧s.v 17=D.int .i64 DV
def KN(good:List (List Int))(sets:List Int)(Cv:(List (List Int)))(r:(List (List Int)))(ex:Ex)(s:St):Prop:=ex= .exit 0∧s.v 7=D.own 27 (AB (fun x=>D.sl 3 (AB (D.int .i64) x)) r)
theorem Vu(good:List (List Int))(sets:List Int)(Cv:(List (List Int))){v:(List (List Int))×Int}{s:St}{r:(List (List Int))}(h:Mi good sets Cv v=some r)(hM:Cq good sets Cv v.1 v.2 s):Bf Y.env uj (KN good sets Cv r) s:=by
 unfold Mi at h;refine BA (c:=Zu) (fun v=>Gv good sets Cv v.1 v.2) (fun v s=>Cq good sets Cv v.1 v.2 s) (KN good sets Cv) ?_ h hM;clear h hM s v r;intro v s o hM h;obtain⟨out,DV⟩:=v;dsimp only at h hM;unfold Gv at h;unfold Cq at hM;obtain⟨m0,m1,m2,m3,m4,m5⟩:=hM;unfold Zu;by_cases e2:DV<(Cv.length:Int)
 ·rw [if_pos e2]at h;obtain⟨e3,h⟩:=Av h;obtain⟨DF,hl4,h⟩:=AU h;try dsimp only at h
  have c4:=Sq sets (Cv.getD DV.toNat default) hl4;obtain⟨Lv,hl5,h⟩:=AU h;try dsimp only at h
  have c5:=U5 good DF [] hl5;rcases Lv with q5_ | q5_
  ·dsimp only at h c5;simp only [Qr]at c5;by_cases e6:(!q5_.1.isEmpty)=true
   ·skip
    by_cases e7:q5_.2=true
    ·rw [if_pos e7]at h;obtain⟨e8,h⟩:=Av h;cases h;simp (maxDischargeDepth:=9) only [↓AC,A7,AO,BM,AA,AJ,↓reduceIte,Nat.reduceEqDiff,Nat.reduceLT,Nat.reduceLeDiff,Nat.reduceAdd,m0,m1,m2,m3,m4,m5,e2,e3.1,e3.2,c4,c5,e6,e7,e8,Cq,FD]
    ·rw [if_neg e7]at h;have e7f:q5_.2=false:=Bool.eq_false_iff.mpr e7;cases h;simp (maxDischargeDepth:=9) only [↓AC,A7,AO,BM,AA,AJ,↓reduceIte,Nat.reduceEqDiff,Nat.reduceLT,Nat.reduceAdd,m0,m1,m2,m3,m4,m5,e2,e3.1,e3.2,c4,c5,e6,e7f,Cq,FD]
   ·skip
    have e6f:(!q5_.1.isEmpty)=false:=Bool.eq_false_iff.mpr e6;by_cases e7:q5_.2=true
    ·rw [if_pos e7]at h;obtain⟨e8,h⟩:=Av h;cases h;simp (maxDischargeDepth:=9) only [↓AC,A7,AO,BM,AA,AJ,↓reduceIte,Nat.reduceEqDiff,Nat.reduceLT,Nat.reduceLeDiff,Nat.reduceAdd,m0,m1,m2,m3,m4,m5,e2,e3.1,e3.2,c4,c5,e6f,e7,e8,Cq,FD]
    ·rw [if_neg e7]at h;have e7f:q5_.2=false:=Bool.eq_false_iff.mpr e7;cases h;simp (maxDischargeDepth:=9) only [↓AC,A7,AO,BM,AA,AJ,↓reduceIte,Nat.reduceEqDiff,Nat.reduceLT,Nat.reduceAdd,m0,m1,m2,m3,m4,m5,e2,e3.1,e3.2,c4,c5,e6f,e7f,Cq,FD]
  ·dsimp only at h c5;simp only [Qr]at c5;by_cases e8:q5_.2=true
   ·rw [if_pos e8]at h;obtain⟨e9,h⟩:=Av h;cases h;simp (maxDischargeDepth:=9) only [↓AC,A7,AO,BM,AA,AJ,↓reduceIte,Nat.reduceEqDiff,Nat.reduceLT,Nat.reduceLeDiff,Nat.reduceAdd,m0,m1,m2,m3,m4,m5,e2,e3.1,e3.2,c4,c5,e8,e9,Cq,FD]
   ·rw [if_neg e8]at h;have e8f:q5_.2=false:=Bool.eq_false_iff.mpr e8;cases h;simp (maxDischargeDepth:=9) only [↓AC,A7,AO,BM,AA,AJ,↓reduceIte,Nat.reduceEqDiff,Nat.reduceLT,Nat.reduceAdd,m0,m1,m2,m3,m4,m5,e2,e3.1,e3.2,c4,c5,e8f,Cq,FD]
 ·rw [if_neg e2]at h;cases h;simp (maxDischargeDepth:=9) only [↓AC,A7,AJ,↓reduceIte,Nat.reduceEqDiff,Nat.reduceLT,m2,m4,m5,e2,Cq,KN,JH]
theorem Pk(good:List (List Int))(sets:List Int)(size:Int){r:(List (List Int))}(h:Ng good sets size=some r):Y.call 61 [D.sl 27 (AB (fun x=>D.sl 3 (AB (D.int .i64) x)) good),D.sl 3 (AB (D.int .i64) sets),D.int .i64 size] []=some (D.own 27 (AB (fun x=>D.sl 3 (AB (D.int .i64) x)) r),[]):=by
 refine c61 ?_ rfl;unfold k61;unfold Ng at h;obtain⟨Cv,hl1,h⟩:=AU h;try dsimp only at h
 have c1:=Sn (sets.length:Int) size hl1;obtain⟨D6,hl3,h⟩:=AU h;try dsimp only at h
 simp (maxDischargeDepth:=9) only [↓AC,A7,AO,BM,AA,AJ,↓reduceIte,Nat.reduceEqDiff,Nat.reduceLT,Nat.reduceAdd,c1];refine Ag (Vu good sets Cv hl3 ?_) ?_
 ·simp (maxDischargeDepth:=9) only [A7,AA,↓reduceIte,Nat.reduceEqDiff,Nat.reduceLT,Cq]<;>(repeat' apply And.intro)<;>first | rfl | exact⟨_,rfl⟩ | exact⟨_,_,rfl⟩ | simp [AB,Aa]
 ·intro ex3 s3 hX3;unfold KN at hX3;obtain⟨rfl,n3_0⟩:=hX3;cases h;simp (maxDischargeDepth:=9) only [↓AC,A7,AO,AA,↓reduceIte,Nat.reduceEqDiff,Nat.reduceLT,n3_0]
noncomputable def Gw(tL tD:Int)(tN tE Ha:List (List Int))(KO:Bool)(BV:Int)(t9_1:List Int)(Vv:Int):Option (((List Int)×Int)⊕((List Int))):=
 if Vv<((Ha.getD BV.toNat default).length:Int)then
  ck (0≤Vv∧Vv.toNat<(Ha.getD BV.toNat default).length)<|
  (PY t9_1 ((Ha.getD BV.toNat default).getD Vv.toNat default)).bind fun Lv=>
  match Lv with
  | .inl q5_=>
   some (Sum.inl (q5_,IntKind.i64.wrap (Vv+1)))
  | .inr q5_=>
   some (Sum.inl (q5_,IntKind.i64.wrap (Vv+1)))
 else
  some (Sum.inr t9_1)
noncomputable def Kr(tL tD:Int)(tN tE Ha:List (List Int))(KO:Bool)(BV:Int)(v:(List Int)×Int):Option ((List Int)):=Gb (fun v=>Gw tL tD tN tE Ha KO BV v.1 v.2) v
noncomputable def Gx(tL tD:Int)(tN tE Ha:List (List Int))(KO:Bool)(M0:List Int)(BV:Int):Option (((List Int)×Int)⊕((List Int))):= if BV<(Ha.length:Int)then ck (0≤BV∧BV.toNat<Ha.length)<| (Kr tL tD tN tE Ha KO BV (M0,0)).bind fun DF=> some (Sum.inl (DF,IntKind.i64.wrap (BV+1))) else some (Sum.inr M0)
noncomputable def Kt(tL tD:Int)(tN tE Ha:List (List Int))(KO:Bool)(v:(List Int)×Int):Option ((List Int)):=Gb (fun v=>Gx tL tD tN tE Ha KO v.1 v.2) v
noncomputable def FO(tL tD:Int)(tN tE Ha:List (List Int))(KO:Bool)(Au:(List Int))(nR:List (List Int))(Vw:Int):Option (((List (List Int))×Int)⊕((List (List Int)))):=
 if Vw<(Ha.length:Int)then
  ck (0≤Vw∧Vw.toNat<Ha.length)<|
  (Kn Au (Ha.getD Vw.toNat default)).bind fun Za=>
  (K7 nR Za).bind fun XC=>
  match XC with
  | .inl q8_=>
   some (Sum.inl (q8_,IntKind.i64.wrap (Vw+1)))
  | .inr q8_=>
   some (Sum.inl (q8_,IntKind.i64.wrap (Vw+1)))
 else
  some (Sum.inr nR)
noncomputable def Ku(tL tD:Int)(tN tE Ha:List (List Int))(KO:Bool)(Au:(List Int))(v:(List (List Int))×Int):Option ((List (List Int))):=Gb (fun v=>FO tL tD tN tE Ha KO Au v.1 v.2) v
noncomputable def Ri(tL tD:Int)(tN tE Ha:List (List Int))(KO:Bool):Option ((Int×Int×(List (List Int))×(List (List Int))×(List Int)×Bool)⊕((Int×Int×(List (List Int))×(List (List Int))×(List Int)×Bool)⊕(Int×Int×(List (List Int))×(List (List Int))×(List Int)×Bool))):= (Kt tL tD tN tE Ha KO ([],0)).bind fun Au=> if(Ms (Au.length:Int) (1:Int) (8:Int))=true then (Ku tL tD tN tE Ha KO Au ([],0)).bind fun Nc=> if KO=true then (Ng tN Au tD).bind fun XC=> some (Sum.inl ((Au.length:Int),tD,XC,Nc,Au,true)) else (Ng tE Au (2:Int)).bind fun XC=> some (Sum.inr (Sum.inl ((Au.length:Int),tD,Nc,XC,Au,true))) else some (Sum.inr (Sum.inr (0,0,[],[],[],false)))
def Zv:SC:= .seq (.ops [oB 27 .lss 3 (tK 26) (tK 25) 3 0]) (.seq (.cond (tK 27) .skip (.exit 2)) (.seq (.block 3 (.seq (.ops [oI 28 27 24 26,oL 29 3 28 3,oA 13 29 3]) (.ops [oM 30 9 27,oM 31 13 3,oC 32 58 [(tK 30),(tK 31)] [27,3] 27,oA 9 32 900003]))) (.ops [oB 33 .add 3 (tK 26) (iK 1) 3 3,oM 26 33 3])))
def ul:SC:= .loop Zv
def Zw:SC:= .seq (.ops [oB 21 .lss 3 (tK 20) (tK 19) 3 0]) (.seq (.cond (tK 21) .skip (.exit 0)) (.seq (.block 1 (.seq (.ops [oI 22 22 18 20,oL 23 27 22 27,oA 11 23 27]) (.seq (.ops [oM 24 11 27,oN 25 24 27,oX 26 (.move (iK 0)) 3]) (.block 2 ul)))) (.ops [oB 34 .add 3 (tK 20) (iK 1) 3 3,oM 20 34 3])))
def um:SC:= .loop Zw
def Zx:SC:= .seq (.ops [oB 48 .lss 3 (tK 47) (tK 46) 3 0]) (.seq (.cond (tK 48) .skip (.exit 4)) (.seq (.block 5 (.seq (.ops [oI 49 22 45 47,oL 50 27 49 27,oA 17 50 27]) (.ops [oM 51 15 22,oM 52 9 27,oM 53 17 27,oC 54 60 [(tK 52),(tK 53)] [27,27] 27,oC 55 59 [(tK 51),(tK 54)] [22,27] 22,oA 15 55 900003]))) (.ops [oB 56 .add 3 (tK 47) (iK 1) 3 3,oM 47 56 3])))
def uo:SC:= .loop Zx
def k36:SC:= .seq (.ops [oX 3 (.box 26 (tK 0)) 0,oX 6 (.alloc 26) 0,oX 7 (.assign (.const (.slice none 0 0))) 27,oX 8 (.assign (.const (.bool false))) 4]) (.seq (.ops [oX 9 (.assign (.const (.slice none 0 0))) 1000027]) (.seq (.seq (.ops [oM 18 1 22,oN 19 18 22,oX 20 (.move (iK 0)) 3]) (.block 0 um)) (.seq (.seq (.ops [oM 35 9 27,oN 36 35 27,oC 37 33 [(tK 36),(iK 1),(iK 8)] [3,3,3] 4,oX 38 (.unOp .not 4 (tK 37)) 4]) (.cond (tK 38) (.seq (.ops [oX 39 (.build 26 #[]) 26,oS 26 6 39,oX 7 (.assign (.const (.slice none 0 0))) 27,oX 8 (.assign (.const (.bool false))) 4]) .ret) .skip)) (.seq (.ops [oM 40 9 27,oN 41 40 27,oF 42 26 3 1,oL 43 3 42 3,oX 44 (.build 26 #[(0,(tK 41)),(1,(tK 43))]) 26,oX 14 (.alloc 26) 0,oS 26 14 44]) (.seq (.ops [oX 15 (.assign (.const (.slice none 0 0))) 1000022]) (.seq (.seq (.ops [oM 45 1 22,oN 46 45 22,oX 47 (.move (iK 0)) 3]) (.block 4 uo)) (.seq (.seq (.ops [oM 57 2 4]) (.cond (tK 57) (.seq (.ops [oM 58 15 22,oF 59 26 14 3,oS 22 59 58]) (.ops [oF 60 26 3 2,oL 61 22 60 22,oM 62 9 27,oF 63 26 3 1,oL 64 3 63 3,oC 65 61 [(tK 61),(tK 62),(tK 64)] [22,27,3] 22,oF 66 26 14 2,oS 22 66 65])) (.seq (.ops [oM 67 15 22,oF 68 26 14 2,
 oS 22 68 67]) (.ops [oF 69 26 3 3,oL 70 22 69 22,oM 71 9 27,oC 72 61 [(tK 70),(tK 71),(iK 2)] [22,27,3] 22,oF 73 26 14 3,oS 22 73 72])))) (.seq (.ops [oL 74 26 14 26,oM 75 9 27,oS 26 6 74,oA 7 75 27,oX 8 (.assign (.const (.bool true))) 4]) .ret))))))))
theorem A4A:Tryz.f36.body.map (BO lends)=some k36:=by kernel_rfl
theorem AK2:Bi Tryz.f36 3=true:=by kernel_rfl
theorem uq{a l:List D}{r:D×List D}(h:Bf Y.env k36 (EG AV l.length [ResultVar.cell 6 26,ResultVar.tmp 7,ResultVar.tmp 8] r) (entry a l))(ha:a.length=3):Y.call 36 a l=some r:=
 AL (Y:=Y) rfl Tryz.func36 (ha▸AK2) A4A h
def FP(tL tD:Int)(tN tE Ha:List (List Int))(KO:Bool)(BV:Int)(t9_1:List Int)(Vv:Int)(s:St):Prop:=s.v 1=D.sl 27 (AB (fun x=>D.sl 3 (AB (D.int .i64) x)) Ha)∧s.v 2=D.bool KO∧s.v 3=D.box [D.int .i64 tL,D.int .i64 tD,D.sl 27 (AB (fun x=>D.sl 3 (AB (D.int .i64) x)) tN),D.sl 27 (AB (fun x=>D.sl 3 (AB (D.int .i64) x)) tE)]∧s.v 6=D.box [D.int .i64 0,D.int .i64 0,D.own 27 [],D.own 27 []]∧s.v 9=D.sl 3 (AB (D.int .i64) t9_1)∧s.v 18=D.sl 27 (AB (fun x=>D.sl 3 (AB (D.int .i64) x)) Ha)∧s.v 19=D.int .i64 (Ha.length:Int)∧s.v 20=D.int .i64 BV∧s.v 24=D.sl 3 (AB (D.int .i64) (Ha.getD BV.toNat default))∧s.v 25=D.int .i64 ((Ha.getD BV.toNat default).length:Int)∧s.v 26=D.int .i64 Vv
def KP(tL tD:Int)(tN tE Ha:List (List Int))(KO:Bool)(BV:Int)(r:(List Int))(ex:Ex)(s:St):Prop:=ex= .exit 2∧s.v 1=D.sl 27 (AB (fun x=>D.sl 3 (AB (D.int .i64) x)) Ha)∧s.v 2=D.bool KO∧s.v 3=D.box [D.int .i64 tL,D.int .i64 tD,D.sl 27 (AB (fun x=>D.sl 3 (AB (D.int .i64) x)) tN),D.sl 27 (AB (fun x=>D.sl 3 (AB (D.int .i64) x)) tE)]∧s.v 6=D.box [D.int .i64 0,D.int .i64 0,D.own 27 [],D.own 27 []]∧s.v 9=D.sl 3 (AB (D.int .i64) r)∧s.v 18=D.sl 27 (AB (fun x=>D.sl 3 (AB (D.int .i64) x)) Ha)∧s.v 19=D.int .i64 (Ha.length:Int)∧s.v 20=D.int .i64 BV
theorem Vx(tL tD:Int)(tN tE Ha:List (List Int))(KO:Bool)(BV:Int){v:(List Int)×Int}{s:St}{r:(List Int)}(h:Kr tL tD tN tE Ha KO BV v=some r)(hM:FP tL tD tN tE Ha KO BV v.1 v.2 s):Bf Y.env ul (KP tL tD tN tE Ha KO BV r) s:=by
 unfold Kr at h;refine BA (c:=Zv) (fun v=>Gw tL tD tN tE Ha KO BV v.1 v.2) (fun v s=>FP tL tD tN tE Ha KO BV v.1 v.2 s) (KP tL tD tN tE Ha KO BV) ?_ h hM;clear h hM s v r;intro v s o hM h;obtain⟨t9_1,Vv⟩:=v;dsimp only at h hM;unfold Gw at h;unfold FP at hM;obtain⟨m0,m1,m2,m3,m4,m5,m6,m7,m8,m9,m10⟩:=hM;unfold Zv;by_cases e3:Vv<((Ha.getD BV.toNat default).length:Int)
 ·rw [if_pos e3]at h;obtain⟨e4,h⟩:=Av h;obtain⟨Lv,hl5,h⟩:=AU h;try dsimp only at h
  have c5:=Zj t9_1 ((Ha.getD BV.toNat default).getD Vv.toNat default) hl5;rcases Lv with q5_ | q5_
  ·dsimp only at h c5;cases h;simp (maxDischargeDepth:=9) only [↓AC,A7,AO,BM,AA,AJ,↓reduceIte,Nat.reduceEqDiff,Nat.reduceLT,Nat.reduceAdd,m0,m1,m2,m3,m4,m5,m6,m7,m8,m9,m10,e3,e4.1,e4.2,c5,FP,FD]
  ·dsimp only at h c5;cases h;simp (maxDischargeDepth:=9) only [↓AC,A7,AO,BM,AA,AJ,↓reduceIte,Nat.reduceEqDiff,Nat.reduceLT,Nat.reduceAdd,m0,m1,m2,m3,m4,m5,m6,m7,m8,m9,m10,e3,e4.1,e4.2,c5,FP,FD]
 ·rw [if_neg e3]at h;cases h;simp (maxDischargeDepth:=9) only [↓AC,A7,AJ,↓reduceIte,Nat.reduceEqDiff,Nat.reduceLT,m0,m1,m2,m3,m4,m5,m6,m7,m9,m10,e3,FP,KP,JH]
def Gy(tL tD:Int)(tN tE Ha:List (List Int))(KO:Bool)(M0:List Int)(BV:Int)(s:St):Prop:=s.v 1=D.sl 27 (AB (fun x=>D.sl 3 (AB (D.int .i64) x)) Ha)∧s.v 2=D.bool KO∧s.v 3=D.box [D.int .i64 tL,D.int .i64 tD,D.sl 27 (AB (fun x=>D.sl 3 (AB (D.int .i64) x)) tN),D.sl 27 (AB (fun x=>D.sl 3 (AB (D.int .i64) x)) tE)]∧s.v 6=D.box [D.int .i64 0,D.int .i64 0,D.own 27 [],D.own 27 []]∧s.v 9=D.sl 3 (AB (D.int .i64) M0)∧s.v 18=D.sl 27 (AB (fun x=>D.sl 3 (AB (D.int .i64) x)) Ha)∧s.v 19=D.int .i64 (Ha.length:Int)∧s.v 20=D.int .i64 BV
def KQ(tL tD:Int)(tN tE Ha:List (List Int))(KO:Bool)(r:(List Int))(ex:Ex)(s:St):Prop:=ex= .exit 0∧s.v 1=D.sl 27 (AB (fun x=>D.sl 3 (AB (D.int .i64) x)) Ha)∧s.v 2=D.bool KO∧s.v 3=D.box [D.int .i64 tL,D.int .i64 tD,D.sl 27 (AB (fun x=>D.sl 3 (AB (D.int .i64) x)) tN),D.sl 27 (AB (fun x=>D.sl 3 (AB (D.int .i64) x)) tE)]∧s.v 6=D.box [D.int .i64 0,D.int .i64 0,D.own 27 [],D.own 27 []]∧s.v 9=D.sl 3 (AB (D.int .i64) r)
theorem Vy(tL tD:Int)(tN tE Ha:List (List Int))(KO:Bool){v:(List Int)×Int}{s:St}{r:(List Int)}(h:Kt tL tD tN tE Ha KO v=some r)(hM:Gy tL tD tN tE Ha KO v.1 v.2 s):Bf Y.env um (KQ tL tD tN tE Ha KO r) s:=by
 unfold Kt at h;refine BA (c:=Zw) (fun v=>Gx tL tD tN tE Ha KO v.1 v.2) (fun v s=>Gy tL tD tN tE Ha KO v.1 v.2 s) (KQ tL tD tN tE Ha KO) ?_ h hM;clear h hM s v r;intro v s o hM h;obtain⟨M0,BV⟩:=v;dsimp only at h hM;unfold Gx at h;unfold Gy at hM;obtain⟨m0,m1,m2,m3,m4,m5,m6,m7⟩:=hM;unfold Zw;by_cases e1:BV<(Ha.length:Int)
 ·rw [if_pos e1]at h;obtain⟨e2,h⟩:=Av h;obtain⟨DF,hl4,h⟩:=AU h;try dsimp only at h
  simp (maxDischargeDepth:=9) only [↓AC,A7,AO,AA,AJ,↓reduceIte,Nat.reduceEqDiff,Nat.reduceLT,m5,m6,m7,e1,e2.1,e2.2];refine Ag (Vx tL tD tN tE Ha KO BV hl4 ?_) ?_
  ·simp (maxDischargeDepth:=9) only [A7,↓reduceIte,Nat.reduceEqDiff,m0,m1,m2,m3,m4,m5,m6,m7,FP]
  ·intro ex4 s4 hX4;unfold KP at hX4;obtain⟨rfl,n4_0,n4_1,n4_2,n4_3,n4_4,n4_5,n4_6,n4_7⟩:=hX4;cases h;simp (maxDischargeDepth:=9) only [↓AC,A7,AJ,↓reduceIte,Nat.reduceEqDiff,Nat.reduceLT,n4_0,n4_1,n4_2,n4_3,n4_4,n4_5,n4_6,n4_7,Gy,FD]
 ·rw [if_neg e1]at h;cases h;simp (maxDischargeDepth:=9) only [↓AC,A7,AJ,↓reduceIte,Nat.reduceEqDiff,Nat.reduceLT,m0,m1,m2,m3,m4,m6,m7,e1,Gy,KQ,JH]
def Df(tL tD:Int)(tN tE Ha:List (List Int))(KO:Bool)(Au:(List Int))(nR:List (List Int))(Vw:Int)(s:St):Prop:=s.v 2=D.bool KO∧s.v 3=D.box [D.int .i64 tL,D.int .i64 tD,D.sl 27 (AB (fun x=>D.sl 3 (AB (D.int .i64) x)) tN),D.sl 27 (AB (fun x=>D.sl 3 (AB (D.int .i64) x)) tE)]∧s.v 6=D.box [D.int .i64 0,D.int .i64 0,D.own 27 [],D.own 27 []]∧s.v 9=D.sl 3 (AB (D.int .i64) Au)∧s.v 14=D.box [D.int .i64 (Au.length:Int),D.int .i64 tD,D.own 27 [],D.own 27 []]∧s.v 15=D.sl 27 (AB (fun x=>D.sl 3 (AB (D.int .i64) x)) nR)∧s.v 45=D.sl 27 (AB (fun x=>D.sl 3 (AB (D.int .i64) x)) Ha)∧s.v 46=D.int .i64 (Ha.length:Int)∧s.v 47=D.int .i64 Vw
def KR(tL tD:Int)(tN tE Ha:List (List Int))(KO:Bool)(Au:(List Int))(r:(List (List Int)))(ex:Ex)(s:St):Prop:=ex= .exit 4∧s.v 2=D.bool KO∧s.v 3=D.box [D.int .i64 tL,D.int .i64 tD,D.sl 27 (AB (fun x=>D.sl 3 (AB (D.int .i64) x)) tN),D.sl 27 (AB (fun x=>D.sl 3 (AB (D.int .i64) x)) tE)]∧s.v 6=D.box [D.int .i64 0,D.int .i64 0,D.own 27 [],D.own 27 []]∧s.v 9=D.sl 3 (AB (D.int .i64) Au)∧s.v 14=D.box [D.int .i64 (Au.length:Int),D.int .i64 tD,D.own 27 [],D.own 27 []]∧s.v 15=D.sl 27 (AB (fun x=>D.sl 3 (AB (D.int .i64) x)) r)
theorem Vz(tL tD:Int)(tN tE Ha:List (List Int))(KO:Bool)(Au:(List Int)){v:(List (List Int))×Int}{s:St}{r:(List (List Int))}(h:Ku tL tD tN tE Ha KO Au v=some r)(hM:Df tL tD tN tE Ha KO Au v.1 v.2 s):Bf Y.env uo (KR tL tD tN tE Ha KO Au r) s:=by
 unfold Ku at h;refine BA (c:=Zx) (fun v=>FO tL tD tN tE Ha KO Au v.1 v.2) (fun v s=>Df tL tD tN tE Ha KO Au v.1 v.2 s) (KR tL tD tN tE Ha KO Au) ?_ h hM;clear h hM s v r;intro v s o hM h;obtain⟨nR,Vw⟩:=v;dsimp only at h hM;unfold FO at h;unfold Df at hM;obtain⟨m0,m1,m2,m3,m4,m5,m6,m7,m8⟩:=hM;unfold Zx;by_cases e5:Vw<(Ha.length:Int)
 ·rw [if_pos e5]at h;obtain⟨e6,h⟩:=Av h;obtain⟨Za,hl7,h⟩:=AU h;try dsimp only at h
  have c7:=Sl Au (Ha.getD Vw.toNat default) hl7;obtain⟨XC,hl8,h⟩:=AU h;try dsimp only at h
  have c8:=U4 nR Za hl8;rcases XC with q8_ | q8_
  ·dsimp only at h c8;by_cases e9:(!q8_.isEmpty)=true
   ·skip
    cases h;simp (maxDischargeDepth:=9) only [↓AC,A7,AO,BM,AA,AJ,↓reduceIte,Nat.reduceEqDiff,Nat.reduceLT,Nat.reduceAdd,m0,m1,m2,m3,m4,m5,m6,m7,m8,e5,e6.1,e6.2,c7,c8,e9,Df,FD]
   ·skip
    have e9f:(!q8_.isEmpty)=false:=Bool.eq_false_iff.mpr e9;cases h;simp (maxDischargeDepth:=9) only [↓AC,A7,AO,BM,AA,AJ,↓reduceIte,Nat.reduceEqDiff,Nat.reduceLT,Nat.reduceAdd,m0,m1,m2,m3,m4,m5,m6,m7,m8,e5,e6.1,e6.2,c7,c8,e9f,Df,FD]
  ·dsimp only at h c8;by_cases e10:(q8_.any fun x=>(!x.isEmpty))=true
   ·skip
    cases h;simp (maxDischargeDepth:=9) only [↓AC,A7,AO,BM,AA,AJ,↓reduceIte,Nat.reduceEqDiff,Nat.reduceLT,Nat.reduceAdd,m0,m1,m2,m3,m4,m5,m6,m7,m8,e5,e6.1,e6.2,c7,c8,e10,Df,FD]
   ·skip
    have e10f:(q8_.any fun x=>(!x.isEmpty))=false:=Bool.eq_false_iff.mpr e10;cases h;simp (maxDischargeDepth:=9) only [↓AC,A7,AO,BM,AA,AJ,↓reduceIte,Nat.reduceEqDiff,Nat.reduceLT,Nat.reduceAdd,m0,m1,m2,m3,m4,m5,m6,m7,m8,e5,e6.1,e6.2,c7,c8,e10f,Df,FD]
 ·rw [if_neg e5]at h;cases h;simp (maxDischargeDepth:=9) only [↓AC,A7,AJ,↓reduceIte,Nat.reduceEqDiff,Nat.reduceLT,m0,m1,m2,m3,m4,m5,m7,m8,e5,Df,KR,JH]
theorem XF(tL tD:Int)(tN tE Ha:List (List Int))(KO:Bool){r:(Int×Int×(List (List Int))×(List (List Int))×(List Int)×Bool)⊕((Int×Int×(List (List Int))×(List (List Int))×(List Int)×Bool)⊕(Int×Int×(List (List Int))×(List (List Int))×(List Int)×Bool))}(h:Ri tL tD tN tE Ha KO=some r):Y.call 36 [D.agg [D.int .i64 tL,D.int .i64 tD,D.sl 27 (AB (fun x=>D.sl 3 (AB (D.int .i64) x)) tN),D.sl 27 (AB (fun x=>D.sl 3 (AB (D.int .i64) x)) tE)],D.sl 27 (AB (fun x=>D.sl 3 (AB (D.int .i64) x)) Ha),D.bool KO] []=some (match (generalizing:=false) r with | .inl q=>(D.tup [D.agg [D.int .i64 q.1,D.int .i64 q.2.1,D.own 27 (AB (fun x=>D.sl 3 (AB (D.int .i64) x)) q.2.2.1),D.sl 27 (AB (fun x=>D.sl 3 (AB (D.int .i64) x)) q.2.2.2.1)],D.sl 3 (AB (D.int .i64) q.2.2.2.2.1),D.bool q.2.2.2.2.2],[]) | .inr (.inl q)=>(D.tup [D.agg [D.int .i64 q.1,D.int .i64 q.2.1,D.sl 27 (AB (fun x=>D.sl 3 (AB (D.int .i64) x)) q.2.2.1),D.own 27 (AB (fun x=>D.sl 3 (AB (D.int .i64) x)) q.2.2.2.1)],D.sl 3 (AB (D.int .i64) q.2.2.2.2.1),D.bool q.2.2.2.2.2],[]) | .inr (.inr q)=>(D.tup [D.agg [D.int .i64 q.1,D.int .i64 q.2.1,D.own 27 (AB (fun x=>D.own 3 (AB (D.int .i64) x)) q.2.2.1),D.own 27 (AB (fun x=>D.own 3 (AB (D.int .i64) x)) q.2.2.2.1)],D.own 3 (AB (D.int .i64) q.2.2.2.2.1),D.bool q.2.2.2.2.2],[])):=by
 refine uq ?_ rfl;unfold k36;unfold Ri at h;obtain⟨Au,hl2,h⟩:=AU h;try dsimp only at h
 simp (maxDischargeDepth:=9) only [↓AC,A7,AO,AA,AJ,↓reduceIte,Nat.reduceEqDiff,Nat.reduceLT,Nat.reduceSub];refine Ag (Vy tL tD tN tE Ha KO hl2 ?_) ?_
 ·simp (maxDischargeDepth:=9) only [A7,AA,↓reduceIte,Nat.reduceEqDiff,Nat.reduceLT,Gy]<;>(repeat' apply And.intro)<;>first | rfl | exact⟨_,rfl⟩ | exact⟨_,_,rfl⟩ | simp [AB,Aa]
 ·intro ex2 s2 hX2;unfold KQ at hX2;obtain⟨rfl,n2_0,n2_1,n2_2,n2_3,n2_4⟩:=hX2;have c3:=PU (Au.length:Int) (1:Int) (8:Int);by_cases e4:(Ms (Au.length:Int) (1:Int) (8:Int))=true
  ·rw [if_pos e4]at h;obtain⟨Nc,hl6,h⟩:=AU h;try dsimp only at h
   simp (maxDischargeDepth:=9) only [↓AC,A7,AO,BM,AA,AJ,↓reduceIte,Nat.reduceEqDiff,Nat.reduceLT,Nat.reduceLeDiff,Nat.reduceAdd,Nat.reduceSub,n2_0,n2_2,n2_4,c3,e4];refine Ag (Vz tL tD tN tE Ha KO Au hl6 ?_) ?_
   ·simp (maxDischargeDepth:=9) only [A7,↓reduceIte,Nat.reduceEqDiff,n2_1,n2_2,n2_3,n2_4,Df]<;>(repeat' apply And.intro)<;>first | rfl | exact⟨_,rfl⟩ | exact⟨_,_,rfl⟩ | simp [AB,Aa]
   ·intro ex6 s6 hX6;unfold KR at hX6;obtain⟨rfl,n6_0,n6_1,n6_2,n6_3,n6_4,n6_5⟩:=hX6;by_cases e7:KO=true
    ·rw [if_pos e7]at h;obtain⟨XC,hl8,h⟩:=AU h;try dsimp only at h
     have c8:=Pk tN Au tD hl8;cases h;simp (maxDischargeDepth:=9) only [↓AC,A7,AO,BM,AA,AJ,↓reduceIte,Nat.reduceEqDiff,Nat.reduceLT,Nat.reduceAdd,n6_0,n6_1,n6_2,n6_3,n6_4,n6_5,e7,c8]
    ·rw [if_neg e7]at h;have e7f:KO=false:=Bool.eq_false_iff.mpr e7;obtain⟨XC,hl8,h⟩:=AU h;try dsimp only at h
     have c8:=Pk tE Au (2:Int) hl8;cases h;simp (maxDischargeDepth:=9) only [↓AC,A7,AO,BM,AA,AJ,↓reduceIte,Nat.reduceEqDiff,Nat.reduceLT,Nat.reduceAdd,n6_0,n6_1,n6_2,n6_3,n6_4,n6_5,e7f,c8]
  ·rw [if_neg e4]at h;have e4f:(Ms (Au.length:Int) (1:Int) (8:Int))=false:=Bool.eq_false_iff.mpr e4;cases h;simp (maxDischargeDepth:=9) only [↓AC,A7,AO,BM,AA,AJ,↓reduceIte,Nat.reduceEqDiff,Nat.reduceLT,Nat.reduceAdd,n2_3,n2_4,c3,e4f]<;>(repeat' apply And.intro)<;>first | rfl | exact⟨_,rfl⟩ | exact⟨_,_,rfl⟩ | simp [AB,Aa]
end Go.Proofs.YtjhjkfoabhplfaaGreat
