/- What the two steps of an elimination share: lifted. Conditions: none. -/
import Derived.Test.YtjhjkfoabhplfaaGreatL6
import Derived.Test.YtjhjkfoabhplfaaGreatIsP
import Derived.Test.YtjhjkfoabhplfaaGreatCon
import Derived.Test.YtjhjkfoabhplfaaGreatSrt
import Derived.Test.YtjhjkfoabhplfaaGreatHas
import Derived.Test.YtjhjkfoabhplfaaGreatEdg
import Derived.Test.YtjhjkfoabhplfaaGreatZob
namespace Go.Proofs.YtjhjkfoabhplfaaGreat
open Go Dv
set_option linter.unusedSimpArgs false
set_option linter.unusedVariables false
set_option maxRecDepth 100000
set_option maxHeartbeats 4000000
noncomputable def Be(slices:AL)(size Bv:Int):Option ((Int×Int)⊕(Int)):= if Bv<(slices.length:Int)then ck (0≤Bv∧Bv.toNat<slices.length)<| if(IntKind.i64.wrap (size+((slices.getD Bv.toNat default).length:Int)))<0 then none else some (Sum.inl (IntKind.i64.wrap (size+((slices.getD Bv.toNat default).length:Int)),IntKind.i64.wrap (Bv+1))) else some (Sum.inr size)
noncomputable def Ca(slices:AL)(v:Int×Int):Option (Int):=Fv (fun v=>Be slices v.1 v.2) v
noncomputable def Bf(slices:AL)(newslice:AA)(RS:Int):Option ((AA×Int)⊕(AA)):= if RS<(slices.length:Int)then ck (0≤RS∧RS.toNat<slices.length)<| ck (newslice.length+(slices.getD RS.toNat default).length<1099511627776)<| some (Sum.inl ((newslice++(slices.getD RS.toNat default)),IntKind.i64.wrap (RS+1))) else some (Sum.inr newslice)
noncomputable def Cb(slices:AL)(v:AA×Int):Option (AA):=Fv (fun v=>Bf slices v.1 v.2) v
noncomputable def DC(slices:AL):Option (AA):= (Ca slices (0,0)).bind fun A8=> ck (0≤A8∧A8<1099511627776)<| (Cb slices ([],0)).bind fun Ad=> some Ad
def jc:SC:= .seq (.ops [oB 12 .lss 3 (tK 11) (tK 10) 3 0]) (.seq (.cond (tK 12) .skip (.exit 0)) (.seq (.block 1 (.seq (.ops [oI 13 22 9 11,oL 14 27 13 27,oA 5 14 27]) (.seq (.ops [oM 15 3 3,oM 16 5 27,oN 17 16 27,oB 18 .add 3 (tK 15) (tK 17) 3 3,oA 3 18 3]) (.seq (.ops [oM 19 3 3,oB 20 .lss 3 (tK 19) (iK 0) 3 4]) (.cond (tK 20) (.ops [oX 21 (.makeInterface 9 (.const (.string {data:= #[108,101,110,32,111,117,116,32,111,102,32,114,97,110,103,101]}))) 20,⟨none,.panic (tK 21),0,none⟩]) .skip))))) (.ops [oB 22 .add 3 (tK 11) (iK 1) 3 3,oM 11 22 3])))
def A0v:SC:= .loop jc
def jd:SC:= .seq (.ops [oB 28 .lss 3 (tK 27) (tK 26) 3 0]) (.seq (.cond (tK 28) .skip (.exit 2)) (.seq (.block 3 (.seq (.ops [oI 29 22 25 27,oL 30 27 29 27,oA 8 30 27]) (.ops [oM 31 6 27,oM 32 8 27,oX 33 (.call ⟨(.builtin .append), #[(tK 31),(tK 32)], #[27,27]⟩) 27,oA 6 33 27]))) (.ops [oB 34 .add 3 (tK 27) (iK 1) 3 3,oM 27 34 3])))
def A0w:SC:= .loop jd
def k67:SC:= .seq (.ops [oX 2 CG 27]) (.seq (.ops [oX 3 (.assign (iK 0)) 3]) (.seq (.seq (.ops [oM 9 0 22,oN 10 9 22,oX 11 (.move (iK 0)) 3]) (.block 0 A0v)) (.seq (.ops [oM 23 3 3,oC 24 98 [(.const (.slice none 0 0)),(tK 23)] [27,3] 900013,oA 6 24 27]) (.seq (.seq (.ops [oM 25 0 22,oN 26 25 22,oX 27 (.move (iK 0)) 3]) (.block 2 A0w)) (.seq (.ops [oM 35 6 27,oA 2 35 27]) .ret)))))
theorem A87:Tryz.f67.body.map (BI lends)=some k67:=by kernel_rfl
theorem AKu:BR Tryz.f67 1=true:=by kernel_rfl
theorem c67{a l:List D}{r:D×List D}(h:BU Y.env k67 (Du Ab l.length [ResultVar.tmp 2] r) (entry a l))(ha:a.length=1):Y.call 67 a l=some r:=
 AP (Y:=Y) rfl Tryz.func67 (ha▸AKu) A87 h
def Bg(slices:AL)(size Bv:Int)(s:St):Prop:=s.v 0=D.sl 27 (AJ Ac slices)∧s.v 3=D.int .i64 size∧s.v 9=D.sl 27 (AJ Ac slices)∧s.v 10=D.int .i64 (slices.length:Int)∧s.v 11=D.int .i64 Bv
def D6(slices:AL)(r:Int)(ex:Ex)(s:St):Prop:=ex= .exit 0∧s.v 0=D.sl 27 (AJ Ac slices)∧s.v 3=D.int .i64 r
theorem Mt(slices:AL){v:Int×Int}{s:St}{r:Int}(h:Ca slices v=some r)(hM:Bg slices v.1 v.2 s):BU Y.env A0v (D6 slices r) s:=by
 unfold Ca at h;refine Ap (c:=jc) (fun v=>Be slices v.1 v.2) (fun v s=>Bg slices v.1 v.2 s) (D6 slices) ?_ h hM;clear h hM s v r;intro v s o hM h;obtain⟨size,Bv⟩:=v;dsimp only at h hM;unfold Be at h;unfold Bg at hM;obtain⟨m0,m1,m2,m3,m4⟩:=hM;unfold jc;rcases iS h with⟨e1,h⟩|⟨e1,h⟩
 ·obtain⟨e2,h⟩:=DL h;rcases iS h with⟨e3,h⟩|⟨e3,h⟩
  ·cases h
  ·cases h;simp (maxDischargeDepth:=9) only [↓AB,AC,↓reduceIte,Nat.reduceEqDiff,Nat.reduceLT,m0,m1,m2,m3,m4,e1,e2.1,e2.2,e3,Bg,Dw]
 ·cases h;simp (maxDischargeDepth:=9) only [↓AB,AC,↓reduceIte,Nat.reduceEqDiff,Nat.reduceLT,m0,m1,m3,m4,e1,Bg,D6,Ir]
def Bh(slices:AL)(newslice:AA)(RS:Int)(s:St):Prop:=s.v 6=D.own 3 (AJ (D.int .i64) newslice)∧s.v 25=D.sl 27 (AJ Ac slices)∧s.v 26=D.int .i64 (slices.length:Int)∧s.v 27=D.int .i64 RS
def D7(slices:AL)(r:AA)(ex:Ex)(s:St):Prop:=ex= .exit 2∧s.v 6=D.own 3 (AJ (D.int .i64) r)
theorem Mv(slices:AL){v:AA×Int}{s:St}{r:AA}(h:Cb slices v=some r)(hM:Bh slices v.1 v.2 s):BU Y.env A0w (D7 slices r) s:=by
 unfold Cb at h;refine Ap (c:=jd) (fun v=>Bf slices v.1 v.2) (fun v s=>Bh slices v.1 v.2 s) (D7 slices) ?_ h hM;clear h hM s v r;intro v s o hM h;obtain⟨newslice,RS⟩:=v;dsimp only at h hM;unfold Bf at h;unfold Bh at hM;obtain⟨m0,m1,m2,m3⟩:=hM;unfold jd;rcases iS h with⟨e5,h⟩|⟨e5,h⟩
 ·obtain⟨e6,e7,h⟩:=Fy h;cases h;simp (maxDischargeDepth:=9) only [↓AB,AC,↓reduceIte,Nat.reduceEqDiff,Nat.reduceLT,Nat.reduceLeDiff,m0,m1,m2,m3,e5,e6.1,e6.2,e7,Bh,Dw]
 ·cases h;simp (maxDischargeDepth:=9) only [↓AB,AC,↓reduceIte,Nat.reduceEqDiff,Nat.reduceLT,m0,m2,m3,e5,Bh,D7,Ir]
theorem Nl(slices:AL){r:AA}(h:DC slices=some r):Y.call 67 [D.sl 27 (AJ Ac slices)] []=some (D.own 3 (AJ (D.int .i64) r),[]):=by
 refine c67 ?_ rfl;unfold k67;unfold DC at h;obtain⟨A8,hl2,h⟩:=AQ h;try dsimp only at h
 simp (maxDischargeDepth:=9) only [↓AB,AC,↓reduceIte,Nat.reduceEqDiff,Nat.reduceLT];refine AZ (Mt slices hl2 ?_) ?_
 ·simp (maxDischargeDepth:=9) only [BC,Ce,↓reduceIte,Nat.reduceEqDiff,Nat.reduceLT,Bg]
 ·intro ex2 s2 hX2;unfold D6 at hX2;obtain⟨rfl,n2_0,n2_1⟩:=hX2;obtain⟨e3,h⟩:=DL h;have c4:=A2y A8 e3;obtain⟨Ad,hl6,h⟩:=AQ h;try dsimp only at h
  simp (maxDischargeDepth:=9) only [↓AB,AC,↓reduceIte,Nat.reduceEqDiff,Nat.reduceLT,Nat.reduceAdd,n2_0,n2_1,c4];refine AZ (Mv slices hl6 ?_) ?_
  ·simp (maxDischargeDepth:=9) only [BC,↓reduceIte,Nat.reduceEqDiff,Bh]<;>(repeat' apply A7)<;>first|rfl|exact⟨_,rfl⟩|exact⟨_,_,rfl⟩|simp [AJ,AU]
  ·intro ex6 s6 hX6;unfold D7 at hX6;obtain⟨rfl,n6_0⟩:=hX6;cases h;simp (maxDischargeDepth:=9) only [↓AB,AC,↓reduceIte,Nat.reduceEqDiff,Nat.reduceLT,n6_0]
noncomputable def Bb(s_:AA)(k k1 k2:Int)(Ar:AA):Option ((Int×Int×AA)⊕(Int×AA)):= if k2<(((s_.length-k.toNat):Nat):Int)then ck (0≤k2∧k2.toNat<(s_.length-k.toNat))<| ck (k.toNat+(s_.length-k.toNat)≤Ar.length)<| ck (k.toNat+k2.toNat<Ar.length)<| ck (0≤IntKind.i64.wrap (k2-1)∧(IntKind.i64.wrap (k2-1)).toNat<(s_.length-k.toNat))<| ck (k.toNat+(IntKind.i64.wrap (k2-1)).toNat<Ar.length)<| if(Ar.getD (k.toNat+k2.toNat) default)=(Ar.getD (k.toNat+(IntKind.i64.wrap (k2-1)).toNat) default)then some (Sum.inl (k1,IntKind.i64.wrap (k2+1),Ar)) else ck (0≤k1∧k1.toNat<Ar.length)<| some (Sum.inl (IntKind.i64.wrap (k1+1),IntKind.i64.wrap (k2+1),(Ar.set k1.toNat (Ar.getD (k.toNat+k2.toNat) default)))) else some (Sum.inr (k1,Ar))
noncomputable def DF(s_:AA)(k:Int)(v:Int×Int×AA):Option (Int×AA):=Fv (fun v=>Bb s_ k v.1 v.2.1 v.2.2) v
noncomputable def Bc(s_:AA)(k:Int):Option ((Int)⊕((AA)⊕Unit)):= if k<(s_.length:Int)then ck (0≤k∧k.toNat<s_.length)<| ck (0≤IntKind.i64.wrap (k-1)∧(IntKind.i64.wrap (k-1)).toNat<s_.length)<| if(s_.getD k.toNat default)=(s_.getD ((IntKind.i64.wrap (k-1)).toNat) default)then ck (0≤k)<| ck (k.toNat≤s_.length)<| (DF s_ k (k,1,s_)).bind fun A8=> ck (0≤A8.1)<| ck (A8.1.toNat≤A8.2.length)<| ck (A8.1.toNat+(A8.2.length-A8.1.toNat)≤A8.2.length)<| ck (A8.1.toNat≤(sI A8.2 A8.1.toNat (List.replicate (A8.2.length-A8.1.toNat) 0)).length)<| some (Sum.inr (Sum.inl ((sI A8.2 A8.1.toNat (List.replicate (A8.2.length-A8.1.toNat) 0)).take A8.1.toNat))) else some (Sum.inl (IntKind.i64.wrap (k+1))) else some (Sum.inr (Sum.inr ()))
noncomputable def DI(s_:AA)(v:Int):Option ((AA)⊕Unit):=Fv (fun v=>Bc s_ v) v
noncomputable def Cv(s_:AA):Option (AA):=
 if(s_.length:Int)<2 then
  some s_
 else
  (DI s_ 1).bind fun Ad=>
  match Ad with
  | .inl q1001_=>
   some q1001_
  | .inr q1001_=>
   some s_
abbrev dD:List Nat:=[35,36,37,38,39,40,41,42,43,44]
def je:SC:= .seq (.seq (.ops [oM 29 5 3,oM 30 4 27,oN 31 30 27,oB 32 .lss 3 (tK 29) (tK 31) 3 4]) (.cond (tK 32) .skip (.exit 2))) (.seq (.block 3 (.seq (.draws [(⟨[35,4,4],dD,[35]⟩,oM 35 4 27),(⟨[36,5,5],dD,[36]⟩,oM 36 5 3),(⟨[37,35,36,4,5],dD,[37]⟩,oI 37 27 35 36),(⟨[38,37,4],dD,[38]⟩,oL 38 3 37 3),(⟨[39,4,4],dD,[39]⟩,oM 39 4 27),(⟨[40,5,5],dD,[40]⟩,oM 40 5 3),(⟨[41,40,5],dD,[41]⟩,oB 41 .sub 3 (tK 40) (iK 1) 3 3),(⟨[42,39,41,4,41],dD,[42]⟩,oI 42 27 39 41),(⟨[43,42,4],dD,[43]⟩,oL 43 3 42 3),(⟨[44,38,43,4,4],dD,[44]⟩,oB 44 .neq 3 (tK 38) (tK 43) 3 4)]) (.cond (tK 44) (.seq (.ops [oM 45 0 27,oM 46 3 3,oM 47 4 27,oM 48 5 3,oI 49 27 47 48,oL 50 3 49 3,oI 51 27 45 46,oS 3 51 50]) (.ops [oM 52 3 3,oB 53 .add 3 (tK 52) (iK 1) 3 3,oA 3 53 3])) .skip))) (.ops [oM 33 5 3,oB 34 .add 3 (tK 33) (iK 1) 3 3,oA 5 34 3]))
def A0x:SC:= .loop je
abbrev dE:List Nat:=[16,17,18,19,20,21,22,23,24,25]
def jf:SC:= .seq (.seq (.ops [oM 10 3 3,oM 11 0 27,oN 12 11 27,oB 13 .lss 3 (tK 10) (tK 12) 3 4]) (.cond (tK 13) .skip (.exit 0))) (.seq (.block 1 (.seq (.draws [(⟨[16,0,0],dE,[16]⟩,oM 16 0 27),(⟨[17,3,3],dE,[17]⟩,oM 17 3 3),(⟨[18,16,17,0,3],dE,[18]⟩,oI 18 27 16 17),(⟨[19,18,0],dE,[19]⟩,oL 19 3 18 3),(⟨[20,0,0],dE,[20]⟩,oM 20 0 27),(⟨[21,3,3],dE,[21]⟩,oM 21 3 3),(⟨[22,21,3],dE,[22]⟩,oB 22 .sub 3 (tK 21) (iK 1) 3 3),(⟨[23,20,22,0,22],dE,[23]⟩,oI 23 27 20 22),(⟨[24,23,0],dE,[24]⟩,oL 24 3 23 3),(⟨[25,19,24,0,0],dE,[25]⟩,oB 25 .eql 3 (tK 19) (tK 24) 3 4)]) (.cond (tK 25) (.seq (.ops [oM 26 0 27,oM 27 3 3,oX 28 (.slice 27 (tK 26) (some (tK 27)) none none) 900001,oA 4 28 27]) (.seq (.seq (.ops [oX 5 (.assign (iK 1)) 3]) (.block 2 A0x)) (.seq (.ops [oM 54 0 27,oM 55 3 3,oX 56 (.slice 27 (tK 54) (some (tK 55)) none none) 900001,⟨none,.call ⟨(.builtin .clear), #[(tK 56)], #[27]⟩,0,none⟩]) (.seq (.ops [oM 57 0 27,oM 58 3 3,oX 59 (.slice 27 (tK 57) none (some (tK 58)) none) 900002,oA 2 59 27]) .ret)))) .skip))) (.ops [oM 14 3 3,oB 15 .add 3 (tK 14) (iK 1) 3 3,oA 3 15 3]))
def A0y:SC:= .loop jf
def k69:SC:= .seq (.ops [oX 2 CG 27]) (.seq (.seq (.ops [oM 6 0 27,oN 7 6 27,oB 8 .lss 3 (tK 7) (iK 2) 3 4]) (.cond (tK 8) (.seq (.ops [oM 9 0 27,oA 2 9 27]) .ret) .skip)) (.seq (.seq (.ops [oX 3 (.assign (iK 1)) 3]) (.block 0 A0y)) (.seq (.ops [oM 60 0 27,oA 2 60 27]) .ret)))
theorem A88:Tryz.f69.body.map (BI lends)=some k69:=by kernel_rfl
theorem AKw:BR Tryz.f69 1=true:=by kernel_rfl
theorem c69{a l:List D}{r:D×List D}(h:BU Y.env k69 (Du Ab l.length [ResultVar.tmp 2] r) (entry a l))(ha:a.length=1):Y.call 69 a l=some r:=
 AP (Y:=Y) rfl Tryz.func69 (ha▸AKw) A88 h
def BM(s_:AA)(k k1 k2:Int)(Ar:AA)(s:St):Prop:=(∃w_,s.v 0=D.vw [100000] (s.k 100000) w_)∧s.v 3=D.int .i64 k1∧(∃w_,s.v 4=D.vs 3 [100000] (s.k 100000) w_ k.toNat (s_.length-k.toNat))∧s.v 5=D.int .i64 k2∧s.v 100000=D.own 3 (AJ (D.int .i64) Ar)
def Cq(s_:AA)(k:Int)(r:Int×AA)(ex:Ex)(s:St):Prop:=ex= .exit 2∧(∃w_,s.v 0=D.vw [100000] (s.k 100000) w_)∧s.v 3=D.int .i64 r.1∧s.v 100000=D.own 3 (AJ (D.int .i64) r.2)
theorem Md(s_:AA)(k:Int){v:Int×Int×AA}{s:St}{r:Int×AA}(h:DF s_ k v=some r)(hM:BM s_ k v.1 v.2.1 v.2.2 s):BU Y.env A0x (Cq s_ k r) s:=by
 unfold DF at h;refine Ap (c:=je) (fun v=>Bb s_ k v.1 v.2.1 v.2.2) (fun v s=>BM s_ k v.1 v.2.1 v.2.2 s) (Cq s_ k) ?_ h hM;clear h hM s v r;intro v s o hM h;obtain⟨k1,k2,Ar⟩:=v;dsimp only at h hM;unfold Bb at h;unfold BM at hM;obtain⟨⟨w0_,m0⟩,m1,⟨w2_,m2⟩,m3,m4⟩:=hM;unfold je;rcases iS h with⟨e8,h⟩|⟨e8,h⟩
 ·obtain⟨e9,e10,e11,e12,h⟩:=bY h;obtain⟨e13,h⟩:=DL h;rcases iS h with⟨e14,h⟩|⟨e14,h⟩
  ·cases h;simp (maxDischargeDepth:=9) only [↓AB,AC,↓reduceIte,Nat.reduceEqDiff,Nat.reduceLT,Nat.reduceBEq,m0,m1,m2,m3,m4,e8,e9.1,e9.2,e10,e11,e12.1,e12.2,e13,decide_eq_true e14,BM,Dw]<;>(repeat' apply A7)<;>first|rfl|exact⟨_,rfl⟩|exact⟨_,_,rfl⟩|simp [AJ,AU]
  ·obtain⟨e15,h⟩:=DL h;cases h;simp (maxDischargeDepth:=9) only [↓AB,AC,↓reduceIte,Nat.reduceEqDiff,Nat.reduceLT,Nat.reduceBEq,m0,m1,m2,m3,m4,e8,e9.1,e9.2,e10,e11,e12.1,e12.2,e13,e14,e15.1,e15.2,BM,Dw]<;>(repeat' apply A7)<;>first|rfl|exact⟨_,rfl⟩|exact⟨_,_,rfl⟩|simp [AJ,AU]
 ·cases h;simp (maxDischargeDepth:=9) only [↓AB,AC,↓reduceIte,Nat.reduceEqDiff,Nat.reduceLT,m0,m1,m2,m3,m4,e8,BM,Cq,Ir]<;>(repeat' apply A7)<;>first|rfl|exact⟨_,rfl⟩|exact⟨_,_,rfl⟩|simp [AJ,AU]
def BN(s_:AA)(k:Int)(s:St):Prop:=(∃w_,s.v 0=D.vw [100000] (s.k 100000) w_)∧s.v 3=D.int .i64 k∧s.v 100000=D.own 3 (AJ (D.int .i64) s_)
def Bd(s_:AA)(r:(AA)⊕Unit)(ex:Ex)(s:St):Prop:=match r with
 | .inl q=>ex= .ret∧s.v 2=D.own 3 (AJ (D.int .i64) q)∧s.v 100000=D.undef
 | .inr q=>ex= .exit 0∧(∃w_,s.v 0=D.vw [100000] (s.k 100000) w_)∧s.v 100000=D.own 3 (AJ (D.int .i64) s_)
theorem Me(s_:AA){v:Int}{s:St}{r:(AA)⊕Unit}(h:DI s_ v=some r)(hM:BN s_ v s):BU Y.env A0y (Bd s_ r) s:=by
 unfold DI at h;refine Ap (c:=jf) (fun v=>Bc s_ v) (fun v s=>BN s_ v s) (Bd s_) ?_ h hM;clear h hM s v r;intro k s o hM h;unfold Bc at h;unfold BN at hM;obtain⟨⟨w0_,m0⟩,m1,m2⟩:=hM;unfold jf;rcases iS h with⟨e2,h⟩|⟨e2,h⟩
 ·obtain⟨e3,e4,h⟩:=Fy h;rcases iS h with⟨e5,h⟩|⟨e5,h⟩
  ·obtain⟨e6,e7,h⟩:=Fy h;obtain⟨A8,hl9,h⟩:=AQ h;try dsimp only at h
   simp (maxDischargeDepth:=9) only [↓AB,AC,↓reduceIte,Nat.reduceEqDiff,Nat.reduceLT,Nat.reduceBEq,m0,m1,m2,e2,e3.1,e3.2,e4.1,e4.2,decide_eq_true e5,e7];refine AZ (Md s_ k hl9 ?_) ?_
   ·simp (maxDischargeDepth:=9) only [BC,↓reduceIte,Nat.reduceEqDiff,m0,m1,m2,BM]<;>(repeat' apply A7)<;>first|rfl|exact⟨_,rfl⟩|exact⟨_,_,rfl⟩|simp [AJ,AU]
   ·intro ex9 s9 hX9;unfold Cq at hX9;obtain⟨rfl,⟨w0_,n9_0⟩,n9_1,n9_2⟩:=hX9;obtain⟨e10,e11,e12,e13,h⟩:=bY h;cases h;simp (maxDischargeDepth:=9) only [↓AB,AC,↓reduceIte,Nat.reduceEqDiff,Nat.reduceLT,n9_0,n9_1,n9_2,e10,e11,e12,e13,BN,Bd,Tz]
  ·cases h;simp (maxDischargeDepth:=9) only [↓AB,AC,↓reduceIte,Nat.reduceEqDiff,Nat.reduceLT,Nat.reduceBEq,m0,m1,m2,e2,e3.1,e3.2,e4.1,e4.2,e5,BN,Dw]<;>(repeat' apply A7)<;>first|rfl|exact⟨_,rfl⟩|exact⟨_,_,rfl⟩|simp [AJ,AU]
 ·cases h;simp (maxDischargeDepth:=9) only [↓AB,AC,↓reduceIte,Nat.reduceEqDiff,Nat.reduceLT,m0,m1,m2,e2,BN,Bd,Ir]<;>(repeat' apply A7)<;>first|rfl|exact⟨_,rfl⟩|exact⟨_,_,rfl⟩|simp [AJ,AU]
theorem Mw(s_:AA){r:AA}(h:Cv s_=some r):Y.call 69 [D.vw [100000] 0 0] [D.own 3 (AJ (D.int .i64) s_)]=some (D.own 3 (AJ (D.int .i64) r),[D.undef]):=by
 refine c69 ?_ rfl;unfold k69;unfold Cv at h;rcases iS h with⟨e1,h⟩|⟨e1,h⟩
 ·cases h;simp (maxDischargeDepth:=9) only [↓AB,AC,↓reduceIte,Nat.reduceEqDiff,Nat.reduceLT,Nat.reduceAdd,Nat.reduceSub,e1]
 ·obtain⟨Ad,hl3,h⟩:=AQ h;try dsimp only at h
  simp (maxDischargeDepth:=9) only [↓AB,AC,↓reduceIte,Nat.reduceEqDiff,Nat.reduceLT,Nat.reduceAdd,Nat.reduceSub,e1];refine AZ (Me s_ hl3 ?_) ?_
  ·simp (maxDischargeDepth:=9) only [BC,Ce,↓reduceIte,Nat.reduceEqDiff,Nat.reduceLT,Nat.reduceSub,BN]<;>(repeat' apply A7)<;>first|rfl|exact⟨_,rfl⟩|exact⟨_,_,rfl⟩|simp [AJ,AU]
  ·intro ex3 s3 hX3;rcases Ad with q1001_|q1001_
   ·unfold Bd at hX3;dsimp only at hX3 h;obtain⟨rfl,n3_0,n3_1⟩:=hX3;cases h;simp (maxDischargeDepth:=9) only [↓AB,AC,↓reduceIte,Nat.reduceEqDiff,n3_0,n3_1]
   ·unfold Bd at hX3;dsimp only at hX3 h;obtain⟨rfl,⟨w0_,n3_0⟩,n3_1⟩:=hX3;cases h;simp (maxDischargeDepth:=9) only [↓AB,AC,↓reduceIte,Nat.reduceEqDiff,Nat.reduceLT,n3_0,n3_1]
noncomputable def Ff(x_:Int):Option (Bool):= some false
def A89:SC:= .seq (.ops [oX 2 BX 4]) (.seq (.ops [oM 3 0 3,oM 4 0 3,oB 5 .neq 3 (tK 3) (tK 4) 3 4,oA 2 5 4]) .ret)
theorem A3D:Tryz.f101.body.map (BI lends)=some A89:=by kernel_rfl
theorem AF9:BR Tryz.f101 1=true:=by kernel_rfl
theorem AKx{a l:List D}{r:D×List D}(h:BU Y.env A89 (Du Ab l.length [ResultVar.tmp 2] r) (entry a l))(ha:a.length=1):Y.call 101 a l=some r:=
 AP (Y:=Y) rfl Tryz.func101 (ha▸AF9) A3D h
theorem Lf(x_:Int){r:Bool}(h:Ff x_=some r):Y.call 101 [D.int .i64 x_] []=some (D.bool r,[]):=by
 refine AKx ?_ rfl;unfold A89;unfold Ff at h;cases h;simp (maxDischargeDepth:=9) only [↓AB,AC,↓reduceIte,Nat.reduceEqDiff,Nat.reduceLT]
noncomputable def BK(x_:AA)(target i j:Int):Option ((Int×Int)⊕(Int)):= if i<j then ck (0≤IntKind.i64.wrap ((IntKind.u64.wrap (IntKind.i64.wrap (i+j))).fdiv (2 ^ (min 1 (IntKind.u64.bits))))∧(IntKind.i64.wrap ((IntKind.u64.wrap (IntKind.i64.wrap (i+j))).fdiv (2 ^ (min 1 (IntKind.u64.bits))))).toNat<x_.length)<| (EZ (x_.getD ((IntKind.i64.wrap ((IntKind.u64.wrap (IntKind.i64.wrap (i+j))).fdiv (2 ^ (min 1 (IntKind.u64.bits))))).toNat) default) target).bind fun A8A=> if A8A=true then some (Sum.inl (IntKind.i64.wrap ((IntKind.i64.wrap ((IntKind.u64.wrap (IntKind.i64.wrap (i+j))).fdiv (2 ^ (min 1 (IntKind.u64.bits)))))+1),j)) else some (Sum.inl (i,IntKind.i64.wrap ((IntKind.u64.wrap (IntKind.i64.wrap (i+j))).fdiv (2 ^ (min 1 (IntKind.u64.bits)))))) else some (Sum.inr i)
noncomputable def Bj(x_:AA)(target:Int)(v:Int×Int):Option (Int):=Fv (fun v=>BK x_ target v.1 v.2) v
noncomputable def Bz(x_:AA)(target:Int):Option (Int×Bool):= (Bj x_ target (0,(x_.length:Int))).bind fun A8=> if A8<(x_.length:Int)then ck (0≤A8∧A8.toNat<x_.length)<| if(x_.getD A8.toNat default)=target then some (A8,true) else (Ff (x_.getD A8.toNat default)).bind fun A8B=> if A8B=true then (Ff target).bind fun AFA=> some (A8,AFA) else some (A8,false) else some (A8,false)
def jg:SC:= .seq (.seq (.ops [oM 13 7 3,oM 14 8 3,oB 15 .lss 3 (tK 13) (tK 14) 3 4]) (.cond (tK 15) .skip (.exit 0))) (.block 1 (.seq (.ops [oM 16 7 3,oM 17 8 3,oB 18 .add 3 (tK 16) (tK 17) 3 3,oX 19 (.convert 3 91 (tK 18)) 91,oB 20 .shr 91 (tK 19) (.const (.int .u64 1)) 91 91,oX 21 (.convert 91 3 (tK 20)) 3,oA 9 21 3]) (.seq (.ops [oM 22 0 27,oM 23 9 3,oI 24 27 22 23,oL 25 3 24 3,oM 26 1 3,oC 27 93 [(tK 25),(tK 26)] [3,3] 4]) (.cond (tK 27) (.ops [oM 28 9 3,oB 29 .add 3 (tK 28) (iK 1) 3 3,oA 7 29 3]) (.ops [oM 30 9 3,oA 8 30 3])))))
def A0z:SC:= .loop jg
def k70:SC:= .seq (.ops [oX 4 (.assign (iK 0)) 3,oX 5 BX 4]) (.seq (.ops [oM 10 0 27,oN 11 10 27,oA 6 11 3]) (.seq (.ops [oM 12 6 3,oX 7 (.assign (iK 0)) 3,oA 8 12 3]) (.seq (.block 0 A0z) (.seq (.ops [oM 31 7 3,oM 32 7 3,oM 33 6 3,oB 34 .lss 3 (tK 32) (tK 33) 3 4,oM 35 34 4,⟨some 36,.move (tK 0),27,(some (some 35,true))⟩,⟨some 37,.move (tK 7),3,(some (some 35,true))⟩,⟨some 38,.indexAddr 27 (tK 36) (tK 37),0,(some (some 35,true))⟩,⟨some 39,.load 3 (tK 38),3,(some (some 35,true))⟩,⟨some 40,.move (tK 1),3,(some (some 35,true))⟩,⟨some 41,.binOp .eql 3 (tK 39) (tK 40) 3,4,(some (some 35,true))⟩,⟨some 42,.move (tK 41),4,(some (some 35,true))⟩,⟨some 43,.move (tK 0),27,(some (some 42,false))⟩,⟨some 44,.move (tK 7),3,(some (some 42,false))⟩,⟨some 45,.indexAddr 27 (tK 43) (tK 44),0,(some (some 42,false))⟩,⟨some 46,.load 3 (tK 45),3,(some (some 42,false))⟩,⟨some 47,.call ⟨(.value (.func 101)), #[(tK 46)], #[3]⟩,4,(some (some 42,false))⟩,⟨some 48,.move (tK 47),4,(some (some 42,false))⟩,⟨some 49,.move (tK 1),3,(some (some 48,true))⟩,⟨some 50,.call ⟨(.value (.func 101)), #[(tK 49)], #[3]⟩,4,(some (some 48,true))⟩,⟨some 51,.pick (tK 48) (tK 50) Mq,4,(some (some 42,false))⟩,
 ⟨some 52,.pick (tK 42) Gx (tK 51),4,(some (some 35,true))⟩,oX 53 (.pick (tK 35) (tK 52) Mq) 4,oA 4 31 3,oA 5 53 4]) .ret))))
theorem A8C:Tryz.f70.body.map (BI lends)=some k70:=by kernel_rfl
theorem AKz:BR Tryz.f70 2=true:=by kernel_rfl
theorem c70{a l:List D}{r:D×List D}(h:BU Y.env k70 (Du Ab l.length [ResultVar.tmp 4,ResultVar.tmp 5] r) (entry a l))(ha:a.length=2):Y.call 70 a l=some r:=
 AP (Y:=Y) rfl Tryz.func70 (ha▸AKz) A8C h
def Aw(x_:AA)(target i j:Int)(s:St):Prop:=s.v 0=D.sl 3 (AJ (D.int .i64) x_)∧s.v 1=D.int .i64 target∧s.v 6=D.int .i64 (x_.length:Int)∧s.v 7=D.int .i64 i∧s.v 8=D.int .i64 j
def CB(x_:AA)(target r:Int)(ex:Ex)(s:St):Prop:=ex= .exit 0∧s.v 0=D.sl 3 (AJ (D.int .i64) x_)∧s.v 1=D.int .i64 target∧s.v 6=D.int .i64 (x_.length:Int)∧s.v 7=D.int .i64 r
theorem KZ(x_:AA)(target:Int){v:Int×Int}{s:St}{r:Int}(h:Bj x_ target v=some r)(hM:Aw x_ target v.1 v.2 s):BU Y.env A0z (CB x_ target r) s:=by
 unfold Bj at h;refine Ap (c:=jg) (fun v=>BK x_ target v.1 v.2) (fun v s=>Aw x_ target v.1 v.2 s) (CB x_ target) ?_ h hM;clear h hM s v r;intro v s o hM h;obtain⟨i,j⟩:=v;dsimp only at h hM;unfold BK at h;unfold Aw at hM;obtain⟨m0,m1,m2,m3,m4⟩:=hM;unfold jg;rcases iS h with⟨e1,h⟩|⟨e1,h⟩
 ·obtain⟨e2,h⟩:=DL h;obtain⟨A8A,hl3,h⟩:=AQ h;have c3:=OE (x_.getD ((IntKind.i64.wrap ((IntKind.u64.wrap (IntKind.i64.wrap (i+j))).fdiv (2 ^ (min 1 (IntKind.u64.bits))))).toNat) default) target hl3;rcases iS h with⟨e4,h⟩|⟨e4,h⟩
  ·cases h;simp (maxDischargeDepth:=9) only [↓AB,AC,↓reduceIte,Nat.reduceEqDiff,Nat.reduceLT,Nat.reduceAdd,Int.reduceLT,Int.reduceToNat,m0,m1,m2,m3,m4,e1,e2.1,e2.2,c3,e4,Aw,Dw]
  ·have e4f:A8A=false:=Gf.mpr e4;cases h;simp (maxDischargeDepth:=9) only [↓AB,AC,↓reduceIte,Nat.reduceEqDiff,Nat.reduceLT,Nat.reduceAdd,Int.reduceLT,Int.reduceToNat,m0,m1,m2,m3,m4,e1,e2.1,e2.2,c3,e4f,Aw,Dw]
 ·cases h;simp (maxDischargeDepth:=9) only [↓AB,AC,↓reduceIte,Nat.reduceEqDiff,Nat.reduceLT,m0,m1,m2,m3,m4,e1,Aw,CB,Ir]
theorem Ko(x_:AA)(target:Int){r:Int×Bool}(h:Bz x_ target=some r):Y.call 70 [D.sl 3 (AJ (D.int .i64) x_),D.int .i64 target] []=some (D.tup [D.int .i64 r.1,D.bool r.2],[]):=by
 refine c70 ?_ rfl;unfold k70;unfold Bz at h;obtain⟨A8,hl2,h⟩:=AQ h;try dsimp only at h
 simp (maxDischargeDepth:=9) only [↓AB,AC,↓reduceIte,Nat.reduceEqDiff,Nat.reduceLT];refine AZ (KZ x_ target hl2 ?_) ?_
 ·simp (maxDischargeDepth:=9) only [BC,Ce,↓reduceIte,Nat.reduceEqDiff,Nat.reduceLT,Aw]
 ·intro ex2 s2 hX2;unfold CB at hX2;obtain⟨rfl,n2_0,n2_1,n2_2,n2_3⟩:=hX2;rcases iS h with⟨e3,h⟩|⟨e3,h⟩
  ·obtain⟨e4,h⟩:=DL h;rcases iS h with⟨e5,h⟩|⟨e5,h⟩
   ·cases h;simp (maxDischargeDepth:=9) only [↓AB,AC,↓reduceIte,Nat.reduceEqDiff,Nat.reduceLT,n2_0,n2_1,n2_2,n2_3,e3,e4.1,e4.2,decide_eq_true e5]
   ·obtain⟨A8B,hl6,h⟩:=AQ h;have c6:=Lf (x_.getD A8.toNat default) hl6;rcases iS h with⟨e7,h⟩|⟨e7,h⟩
    ·obtain⟨AFA,hl8,h⟩:=AQ h;try dsimp only at h
     have c8:=Lf target hl8;cases h;simp (maxDischargeDepth:=9) only [↓AB,AC,↓reduceIte,Nat.reduceEqDiff,Nat.reduceLT,Nat.reduceAdd,n2_0,n2_1,n2_2,n2_3,e3,e4.1,e4.2,e5,c6,e7,c8]
    ·have e7f:A8B=false:=Gf.mpr e7;cases h;simp (maxDischargeDepth:=9) only [↓AB,AC,↓reduceIte,Nat.reduceEqDiff,Nat.reduceLT,Nat.reduceAdd,n2_0,n2_1,n2_2,n2_3,e3,e4.1,e4.2,e5,c6,e7f]
  ·cases h;simp (maxDischargeDepth:=9) only [↓AB,AC,↓reduceIte,Nat.reduceEqDiff,Nat.reduceLT,n2_2,n2_3,e3]
noncomputable def JF(list:AL):Option (AL):= ck (list.length<4611686018427387904)<| ck (∀x∈list,x.length≤9223372036854775807)<| ck ((EX list).length≤9223372036854775807)<| ck (∀x∈(EX list),x.length≤9223372036854775807)<| some (dedL (EX list))
def k71:SC:= .seq (.ops [oX 2 CG 22]) (.seq (.ops [oM 3 0 22,oC 4 102 [(tK 3),(.func 64)] [22,62] 0]) (.seq (.ops [oM 5 0 22,oC 6 103 [(tK 5),(.func 104)] [22,32] 22,oA 2 6 22]) .ret))
theorem A8D:Tryz.f71.body.map (BI lends)=some k71:=by kernel_rfl
theorem AL1:BR Tryz.f71 1=true:=by kernel_rfl
theorem c71{a l:List D}{r:D×List D}(h:BU Y.env k71 (Du Ab l.length [ResultVar.tmp 2] r) (entry a l))(ha:a.length=1):Y.call 71 a l=some r:=
 AP (Y:=Y) rfl Tryz.func71 (ha▸AL1) A8D h
theorem PM(list:AL){r:AL}(h:JF list=some r):Y.call 71 [D.vw [100000] 0 0] [D.own 27 (AJ IX list)]=some (D.own 27 (AJ IX r),[D.undef]):=by
 refine c71 ?_ rfl;unfold k71;unfold JF at h;obtain⟨e1,e2,h⟩:=Fy h;have c3:=xK list e1 e2;obtain⟨e4,e5,h⟩:=Fy h;have c6:=xL (EX list) e4 e5;cases h;simp (maxDischargeDepth:=9) only [↓AB,AC,↓reduceIte,Nat.reduceEqDiff,Nat.reduceLT,Nat.reduceAdd,Nat.reduceSub,c3,c6]
noncomputable def F6(full:AL)(GY:AA)(out:AL)(Iy:Int)(numbers:AA)(RS:Int):Option ((AA×Int)⊕(AA)):= if RS<((full.getD Iy.toNat default).length:Int)then ck (0≤RS∧RS.toNat<(full.getD Iy.toNat default).length)<| (Bz GY ((full.getD Iy.toNat default).getD RS.toNat default)).bind fun AFB=> ck (numbers.length+1<1099511627776)<| some (Sum.inl ((numbers++[AFB.1]),IntKind.i64.wrap (RS+1))) else some (Sum.inr numbers)
noncomputable def Jl(full:AL)(GY:AA)(out:AL)(Iy:Int)(v:AA×Int):Option (AA):=Fv (fun v=>F6 full GY out Iy v.1 v.2) v
noncomputable def F7(full:AL)(GY:AA)(out:AL)(Iy:Int):Option ((AL×Int)⊕(AL)):= if Iy<(full.length:Int)then ck (0≤Iy∧Iy.toNat<full.length)<| (Jl full GY out Iy ([],0)).bind fun A8=> ck (A8.length<4611686018427387904)<| ck (out.length+1<1099511627776)<| some (Sum.inl ((out++[(Dn A8)]),IntKind.i64.wrap (Iy+1))) else some (Sum.inr out)
noncomputable def Jm(full:AL)(GY:AA)(v:AL×Int):Option (AL):=Fv (fun v=>F7 full GY v.1 v.2) v
noncomputable def IQ(full:AL):Option (AA×AL):= (DC full).bind fun KY=> ck (KY.length<4611686018427387904)<| (Cv (Dn KY)).bind fun GY=> (Jm full GY ([],0)).bind fun Ad=> (JF Ad).bind fun Rt=> some (GY,Rt)
def jh:SC:= .seq (.ops [oB 28 .lss 3 (tK 27) (tK 26) 3 0]) (.seq (.cond (tK 28) .skip (.exit 2)) (.seq (.block 3 (.seq (.ops [oI 29 27 25 27,oL 30 3 29 3,oA 10 30 3]) (.seq (.ops [oM 32 4 27,oM 33 10 3,oC 34 70 [(tK 32),(tK 33)] [27,3] 72,oM 31 34 72,oE 35 31 0 3,oE 36 31 1 4,oA 11 35 3,oA 12 36 4]) (.ops [oM 37 8 27,oM 38 11 3,oX 39 (.buildSlice 27 1 #[(0,(tK 38))]) 27,oX 40 (.call ⟨(.builtin .append), #[(tK 37),(tK 39)], #[27,27]⟩) 27,oA 8 40 27])))) (.ops [oB 41 .add 3 (tK 27) (iK 1) 3 3,oM 27 41 3])))
def A10:SC:= .loop jh
def ji:SC:= .seq (.ops [oB 22 .lss 3 (tK 21) (tK 20) 3 0]) (.seq (.cond (tK 22) .skip (.exit 0)) (.seq (.block 1 (.seq (.ops [oI 23 22 19 21,oL 24 27 23 27,oA 7 24 27]) (.seq (.ops [oX 8 CG 27]) (.seq (.seq (.ops [oM 25 7 27,oN 26 25 27,oX 27 (.move (iK 0)) 3]) (.block 2 A10)) (.seq (.ops [oM 42 8 27,oC 43 68 [(tK 42)] [27] 0]) (.ops [oM 44 5 22,oM 45 8 27,oX 46 (.buildSlice 22 1 #[(0,(tK 45))]) 22,oX 47 (.call ⟨(.builtin .append), #[(tK 44),(tK 46)], #[22,22]⟩) 22,oA 5 47 22])))))) (.ops [oB 48 .add 3 (tK 21) (iK 1) 3 3,oM 21 48 3])))
def A11:SC:= .loop ji
def k41:SC:= .seq (.ops [oX 2 CG 27,oX 3 CG 22]) (.seq (.ops [oM 13 0 22,oC 14 67 [(tK 13)] [22] 27,oA 4 14 27]) (.seq (.ops [oM 15 4 27,oC 16 68 [(tK 15)] [27] 0]) (.seq (.ops [oM 17 4 27,oC 18 69 [(tK 17)] [27] 27,oA 4 18 27]) (.seq (.ops [oX 5 CG 22]) (.seq (.seq (.ops [oM 19 0 22,oN 20 19 22,oX 21 (.move (iK 0)) 3]) (.block 0 A11)) (.seq (.ops [oM 49 4 27,oM 50 5 22,oC 51 71 [(tK 50)] [22] 22,oA 2 49 27,oA 3 51 22]) .ret))))))
theorem A8E:Tryz.f41.body.map (BI lends)=some k41:=by kernel_rfl
theorem AL3:BR Tryz.f41 1=true:=by kernel_rfl
theorem c41{a l:List D}{r:D×List D}(h:BU Y.env k41 (Du Ab l.length [ResultVar.tmp 2,ResultVar.tmp 3] r) (entry a l))(ha:a.length=1):Y.call 41 a l=some r:=
 AP (Y:=Y) rfl Tryz.func41 (ha▸AL3) A8E h
def F8(full:AL)(GY:AA)(out:AL)(Iy:Int)(numbers:AA)(RS:Int)(s:St):Prop:=s.v 4=D.own 3 (AJ (D.int .i64) GY)∧s.v 5=D.own 27 (AJ IX out)∧s.v 8=D.own 3 (AJ (D.int .i64) numbers)∧s.v 19=D.sl 27 (AJ Ac full)∧s.v 20=D.int .i64 (full.length:Int)∧s.v 21=D.int .i64 Iy∧s.v 25=D.sl 3 (AJ (D.int .i64) (full.getD Iy.toNat default))∧s.v 26=D.int .i64 ((full.getD Iy.toNat default).length:Int)∧s.v 27=D.int .i64 RS
def KE(full:AL)(GY:AA)(out:AL)(Iy:Int)(r:AA)(ex:Ex)(s:St):Prop:=ex= .exit 2∧s.v 4=D.own 3 (AJ (D.int .i64) GY)∧s.v 5=D.own 27 (AJ IX out)∧s.v 8=D.own 3 (AJ (D.int .i64) r)∧s.v 19=D.sl 27 (AJ Ac full)∧s.v 20=D.int .i64 (full.length:Int)∧s.v 21=D.int .i64 Iy
theorem Vr(full:AL)(GY:AA)(out:AL)(Iy:Int){v:AA×Int}{s:St}{r:AA}(h:Jl full GY out Iy v=some r)(hM:F8 full GY out Iy v.1 v.2 s):BU Y.env A10 (KE full GY out Iy r) s:=by
 unfold Jl at h;refine Ap (c:=jh) (fun v=>F6 full GY out Iy v.1 v.2) (fun v s=>F8 full GY out Iy v.1 v.2 s) (KE full GY out Iy) ?_ h hM;clear h hM s v r;intro v s o hM h;obtain⟨numbers,RS⟩:=v;dsimp only at h hM;unfold F6 at h;unfold F8 at hM;obtain⟨m0,m1,m2,m3,m4,m5,m6,m7,m8⟩:=hM;unfold jh;rcases iS h with⟨e7,h⟩|⟨e7,h⟩
 ·obtain⟨e8,h⟩:=DL h;obtain⟨AFB,hl9,h⟩:=AQ h;have c9:=Ko GY ((full.getD Iy.toNat default).getD RS.toNat default) hl9;obtain⟨e10,h⟩:=DL h;cases h;simp (maxDischargeDepth:=9) only [↓AB,AC,↓reduceIte,Nat.reduceEqDiff,Nat.reduceLT,Nat.reduceLeDiff,Nat.reduceAdd,m0,m1,m2,m3,m4,m5,m6,m7,m8,e7,e8.1,e8.2,c9,e10,F8,Dw]
 ·cases h;simp (maxDischargeDepth:=9) only [↓AB,AC,↓reduceIte,Nat.reduceEqDiff,Nat.reduceLT,m0,m1,m2,m3,m4,m5,m7,m8,e7,F8,KE,Ir]
def F9(full:AL)(GY:AA)(out:AL)(Iy:Int)(s:St):Prop:=s.v 4=D.own 3 (AJ (D.int .i64) GY)∧s.v 5=D.own 27 (AJ IX out)∧s.v 19=D.sl 27 (AJ Ac full)∧s.v 20=D.int .i64 (full.length:Int)∧s.v 21=D.int .i64 Iy
def KF(full:AL)(GY:AA)(r:AL)(ex:Ex)(s:St):Prop:=ex= .exit 0∧s.v 4=D.own 3 (AJ (D.int .i64) GY)∧s.v 5=D.own 27 (AJ IX r)
theorem Vs(full:AL)(GY:AA){v:AL×Int}{s:St}{r:AL}(h:Jm full GY v=some r)(hM:F9 full GY v.1 v.2 s):BU Y.env A11 (KF full GY r) s:=by
 unfold Jm at h;refine Ap (c:=ji) (fun v=>F7 full GY v.1 v.2) (fun v s=>F9 full GY v.1 v.2 s) (KF full GY) ?_ h hM;clear h hM s v r;intro v s o hM h;obtain⟨out,Iy⟩:=v;dsimp only at h hM;unfold F7 at h;unfold F9 at hM;obtain⟨m0,m1,m2,m3,m4⟩:=hM;unfold ji;rcases iS h with⟨e5,h⟩|⟨e5,h⟩
 ·obtain⟨e6,h⟩:=DL h;obtain⟨A8,hl8,h⟩:=AQ h;try dsimp only at h
  simp (maxDischargeDepth:=9) only [↓AB,AC,↓reduceIte,Nat.reduceEqDiff,Nat.reduceLT,m2,m3,m4,e5,e6.1,e6.2];refine AZ (Vr full GY out Iy hl8 ?_) ?_
  ·simp (maxDischargeDepth:=9) only [BC,↓reduceIte,Nat.reduceEqDiff,m0,m1,m2,m3,m4,F8]<;>(repeat' apply A7)<;>first|rfl|exact⟨_,rfl⟩|exact⟨_,_,rfl⟩|simp [AJ,AU]
  ·intro ex8 s8 hX8;unfold KE at hX8;obtain⟨rfl,n8_0,n8_1,n8_2,n8_3,n8_4,n8_5⟩:=hX8;obtain⟨e9,h⟩:=DL h;have lL:=iY A8 e9;obtain⟨e11,h⟩:=DL h;cases h;simp (maxDischargeDepth:=9) only [↓AB,AC,↓reduceIte,Nat.reduceEqDiff,Nat.reduceLT,Nat.reduceLeDiff,Nat.reduceAdd,n8_0,n8_1,n8_2,n8_3,n8_4,n8_5,lL,e11,F9,Dw]
 ·cases h;simp (maxDischargeDepth:=9) only [↓AB,AC,↓reduceIte,Nat.reduceEqDiff,Nat.reduceLT,m0,m1,m3,m4,e5,F9,KF,Ir]
theorem Mx(full:AL){r:AA×AL}(h:IQ full=some r):Y.call 41 [D.sl 27 (AJ Ac full)] []=some (D.tup [D.own 3 (AJ (D.int .i64) r.1),D.own 27 (AJ IX r.2)],[]):=by
 refine c41 ?_ rfl;unfold k41;unfold IQ at h;obtain⟨KY,hl1,h⟩:=AQ h;have c1:=Nl full hl1;obtain⟨e2,h⟩:=DL h;have c3:=iY KY e2;obtain⟨GY,hl4,h⟩:=AQ h;have c4:=Mw (Dn KY) hl4;obtain⟨Ad,hl6,h⟩:=AQ h;try dsimp only at h
 simp (maxDischargeDepth:=9) only [↓AB,AC,↓reduceIte,Nat.reduceEqDiff,Nat.reduceLT,Nat.reduceAdd,c1,c3,c4];refine AZ (Vs full GY hl6 ?_) ?_
 ·simp (maxDischargeDepth:=9) only [BC,↓reduceIte,Nat.reduceEqDiff,F9]<;>(repeat' apply A7)<;>first|rfl|exact⟨_,rfl⟩|exact⟨_,_,rfl⟩|simp [AJ,AU]
 ·intro ex6 s6 hX6;unfold KF at hX6;obtain⟨rfl,n6_0,n6_1⟩:=hX6;obtain⟨Rt,hl7,h⟩:=AQ h;try dsimp only at h
  have c7:=PM Ad hl7;cases h;simp (maxDischargeDepth:=9) only [↓AB,AC,↓reduceIte,Nat.reduceEqDiff,Nat.reduceLT,Nat.reduceAdd,n6_0,n6_1,c7]
theorem Jn(xs:AA)(h:xs.length<1099511627776):Y.call 106 [.sl 3 (AJ (D.int .i64) xs)] []=some (.own 3 (AJ (D.int .i64) xs),[]):=by
 refine xM (AJ (D.int .i64) xs) (by rw [CP];exact h) (eU _ _ (fun x=>rfl)) (ZP _ _ (fun x=>by first|exact hoI .. |exact AAq .. |exact hoB .. |exact hoS ..)) ?_
 simp (maxDischargeDepth:=9) only [BC,A73,Ce]
noncomputable def FB(labels size:Int)(out:AL)(Dx Eb:Int)(next1:AL)(a:Int):Option ((AL×Int)⊕(AL)):= if a<labels then ck (Eb.toNat<out.length)<| ck ((out.getD Eb.toNat default).length<1099511627776)<| ck ((out.getD Eb.toNat default).length+1<1099511627776)<| ck (next1.length+1<1099511627776)<| some (Sum.inl ((next1++[((out.getD Eb.toNat default)++[a])]),IntKind.i64.wrap (a+1))) else some (Sum.inr next1)
noncomputable def I4(labels size:Int)(out:AL)(Dx Eb:Int)(v:AL×Int):Option (AL):=Fv (fun v=>FB labels size out Dx Eb v.1 v.2) v
noncomputable def FC(labels size:Int)(out:AL)(Dx:Int)(next:AL)(Eb:Int):Option ((AL×Int)⊕(AL)):= if Eb<(out.length:Int)then ck (0≤Eb∧Eb.toNat<out.length)<| if 0<((out.getD Eb.toNat default).length:Int)then ck (0≤IntKind.i64.wrap (((out.getD Eb.toNat default).length:Int)-1)∧(IntKind.i64.wrap (((out.getD Eb.toNat default).length:Int)-1)).toNat<(out.getD Eb.toNat default).length)<| (I4 labels size out Dx Eb (next,((out.getD Eb.toNat default).getD ((IntKind.i64.wrap (((out.getD Eb.toNat default).length:Int)-1)).toNat) default))).bind fun A8=> some (Sum.inl (A8,IntKind.i64.wrap (Eb+1))) else (I4 labels size out Dx Eb (next,0)).bind fun A8=> some (Sum.inl (A8,IntKind.i64.wrap (Eb+1))) else some (Sum.inr next)
noncomputable def Jo(labels size:Int)(out:AL)(Dx:Int)(v:AL×Int):Option (AL):=Fv (fun v=>FC labels size out Dx v.1 v.2) v
noncomputable def FD(labels size:Int)(out:AL)(Dx:Int):Option ((AL×Int)⊕(AL)):= if Dx<size then (Jo labels size out Dx ([],0)).bind fun Ad=> some (Sum.inl (Ad,IntKind.i64.wrap (Dx+1))) else some (Sum.inr out)
noncomputable def MO(labels size:Int)(v:AL×Int):Option (AL):=Fv (fun v=>FD labels size v.1 v.2) v
noncomputable def Lg(labels size:Int):Option (AL):= (MO labels size ([[]],0)).bind fun LU=> some LU
def jk:SC:= .seq (.seq (.ops [oM 31 10 3,oM 32 0 3,oB 33 .lss 3 (tK 31) (tK 32) 3 4]) (.cond (tK 33) .skip (.exit 4))) (.seq (.block 5 (.ops [oM 36 6 22,oM 37 8 27,oC 38 106 [(tK 37)] [27] 27,oM 39 10 3,oX 40 (.buildSlice 27 1 #[(0,(tK 39))]) 27,oX 41 (.call ⟨(.builtin .append), #[(tK 38),(tK 40)], #[27,27]⟩) 27,oX 42 (.buildSlice 22 1 #[(0,(tK 41))]) 22,oX 43 (.call ⟨(.builtin .append), #[(tK 36),(tK 42)], #[22,22]⟩) 22,oA 6 43 22])) (.ops [oM 34 10 3,oB 35 .add 3 (tK 34) (iK 1) 3 3,oA 10 35 3]))
def A12:SC:= .loop jk
def jl:SC:= .seq (.ops [oB 18 .lss 3 (tK 17) (tK 16) 3 0]) (.seq (.cond (tK 18) .skip (.exit 2)) (.seq (.block 3 (.seq (.ops [oI 19 22 15 17,oL 20 27 19 27,oA 8 20 27]) (.seq (.ops [oX 9 (.assign (iK 0)) 3]) (.seq (.seq (.ops [oM 21 8 27,oN 22 21 27,oB 23 .gtr 3 (tK 22) (iK 0) 3 4]) (.cond (tK 23) (.ops [oM 24 8 27,oM 25 8 27,oN 26 25 27,oB 27 .sub 3 (tK 26) (iK 1) 3 3,oI 28 27 24 27,oL 29 3 28 3,oA 9 29 3]) .skip)) (.seq (.ops [oM 30 9 3,oA 10 30 3]) (.block 4 A12)))))) (.ops [oB 44 .add 3 (tK 17) (iK 1) 3 3,oM 17 44 3])))
def A13:SC:= .loop jl
def jm:SC:= .seq (.ops [oB 14 .lss 3 (tK 13) (tK 12) 3 4]) (.seq (.cond (tK 14) .skip (.exit 0)) (.seq (.block 1 (.seq (.ops [oX 6 CG 22]) (.seq (.seq (.ops [oM 15 5 22,oN 16 15 22,oX 17 (.move (iK 0)) 3]) (.block 2 A13)) (.ops [oM 45 6 22,oA 5 45 22])))) (.ops [oB 46 .add 3 (tK 13) (iK 1) 3 3,oM 13 46 3])))
def A14:SC:= .loop jm
def k73:SC:= .seq (.ops [oX 4 CG 22]) (.seq (.ops [oX 11 (.buildSlice 22 1 #[(0,(.const (.slice none 0 0)))]) 22,oA 5 11 22]) (.seq (.seq (.ops [oM 12 1 3,oX 13 (.move (iK 0)) 3]) (.block 0 A14)) (.seq (.ops [oM 47 5 22,oA 4 47 22]) .ret)))
theorem A8F:Tryz.f73.body.map (BI lends)=some k73:=by kernel_rfl
theorem AL5:BR Tryz.f73 2=true:=by kernel_rfl
theorem c73{a l:List D}{r:D×List D}(h:BU Y.env k73 (Du Ab l.length [ResultVar.tmp 4] r) (entry a l))(ha:a.length=2):Y.call 73 a l=some r:=
 AP (Y:=Y) rfl Tryz.func73 (ha▸AL5) A8F h
def EB(labels size:Int)(out:AL)(Dx Eb:Int)(next1:AL)(a:Int)(s:St):Prop:=s.v 0=D.int .i64 labels∧s.v 5=D.own 27 (AJ IX out)∧s.v 6=D.own 27 (AJ IX next1)∧s.v 8=D.vw [5,Eb.toNat] (s.k 5) (s.m 5)∧s.v 10=D.int .i64 a∧s.v 12=D.int .i64 size∧s.v 13=D.int .i64 Dx∧(∃w_,s.v 15=D.vw [5] (s.k 5) w_)∧s.v 16=D.int .i64 (out.length:Int)∧s.v 17=D.int .i64 Eb
def I5(labels size:Int)(out:AL)(Dx Eb:Int)(r:AL)(ex:Ex)(s:St):Prop:=ex= .exit 4∧s.v 0=D.int .i64 labels∧s.v 5=D.own 27 (AJ IX out)∧s.v 6=D.own 27 (AJ IX r)∧s.v 12=D.int .i64 size∧s.v 13=D.int .i64 Dx∧(∃w_,s.v 15=D.vw [5] (s.k 5) w_)∧s.v 16=D.int .i64 (out.length:Int)∧s.v 17=D.int .i64 Eb
theorem Q4(labels size:Int)(out:AL)(Dx Eb:Int){v:AL×Int}{s:St}{r:AL}(h:I4 labels size out Dx Eb v=some r)(hM:EB labels size out Dx Eb v.1 v.2 s):BU Y.env A12 (I5 labels size out Dx Eb r) s:=by
 unfold I4 at h;refine Ap (c:=jk) (fun v=>FB labels size out Dx Eb v.1 v.2) (fun v s=>EB labels size out Dx Eb v.1 v.2 s) (I5 labels size out Dx Eb) ?_ h hM;clear h hM s v r;intro v s o hM h;obtain⟨next1,a⟩:=v;dsimp only at h hM;unfold FB at h;unfold EB at hM;obtain⟨m0,m1,m2,m3,m4,m5,m6,⟨w7_,m7⟩,m8,m9⟩:=hM;unfold jk;rcases iS h with⟨e6,h⟩|⟨e6,h⟩
 ·obtain⟨e7,e8,h⟩:=Fy h;have c9:=Jn (out.getD Eb.toNat default) e8;obtain⟨e10,e11,h⟩:=Fy h;cases h;simp (maxDischargeDepth:=9) only [↓AB,AC,↓reduceIte,Nat.reduceEqDiff,Nat.reduceLT,Nat.reduceLeDiff,Nat.reduceAdd,m0,m1,m2,m3,m4,m5,m6,m7,m8,m9,e6,e7,c9,e10,e11,EB,Dw]<;>(repeat' apply A7)<;>first|rfl|exact⟨_,rfl⟩|exact⟨_,_,rfl⟩|simp [AJ,AU]
 ·cases h;simp (maxDischargeDepth:=9) only [↓AB,AC,↓reduceIte,Nat.reduceEqDiff,Nat.reduceLT,m0,m1,m2,m4,m5,m6,m7,m8,m9,e6,EB,I5,Ir]<;>(repeat' apply A7)<;>first|rfl|exact⟨_,rfl⟩|exact⟨_,_,rfl⟩|simp [AJ,AU]
def EC(labels size:Int)(out:AL)(Dx:Int)(next:AL)(Eb:Int)(s:St):Prop:=s.v 0=D.int .i64 labels∧s.v 5=D.own 27 (AJ IX out)∧s.v 6=D.own 27 (AJ IX next)∧s.v 12=D.int .i64 size∧s.v 13=D.int .i64 Dx∧(∃w_,s.v 15=D.vw [5] (s.k 5) w_)∧s.v 16=D.int .i64 (out.length:Int)∧s.v 17=D.int .i64 Eb
def KG(labels size:Int)(out:AL)(Dx:Int)(r:AL)(ex:Ex)(s:St):Prop:=ex= .exit 2∧s.v 0=D.int .i64 labels∧s.v 6=D.own 27 (AJ IX r)∧s.v 12=D.int .i64 size∧s.v 13=D.int .i64 Dx
theorem Vt(labels size:Int)(out:AL)(Dx:Int){v:AL×Int}{s:St}{r:AL}(h:Jo labels size out Dx v=some r)(hM:EC labels size out Dx v.1 v.2 s):BU Y.env A13 (KG labels size out Dx r) s:=by
 unfold Jo at h;refine Ap (c:=jl) (fun v=>FC labels size out Dx v.1 v.2) (fun v s=>EC labels size out Dx v.1 v.2 s) (KG labels size out Dx) ?_ h hM;clear h hM s v r;intro v s o hM h;obtain⟨next,Eb⟩:=v;dsimp only at h hM;unfold FC at h;unfold EC at hM;obtain⟨m0,m1,m2,m3,m4,⟨w5_,m5⟩,m6,m7⟩:=hM;unfold jl;rcases iS h with⟨e2,h⟩|⟨e2,h⟩
 ·obtain⟨e3,h⟩:=DL h;rcases iS h with⟨e4,h⟩|⟨e4,h⟩
  ·obtain⟨e5,h⟩:=DL h;obtain⟨A8,hl7,h⟩:=AQ h;try dsimp only at h
   simp (maxDischargeDepth:=9) only [↓AB,AC,↓reduceIte,Nat.reduceEqDiff,Nat.reduceLT,m1,m5,m6,m7,e2,e3.1,e3.2,e4,e5.1,e5.2];refine AZ (Q4 labels size out Dx Eb hl7 ?_) ?_
   ·simp (maxDischargeDepth:=9) only [BC,↓reduceIte,Nat.reduceEqDiff,m0,m1,m2,m3,m4,m5,m6,m7,EB]<;>(repeat' apply A7)<;>first|rfl|exact⟨_,rfl⟩|exact⟨_,_,rfl⟩|simp [AJ,AU]
   ·intro ex7 s7 hX7;unfold I5 at hX7;obtain⟨rfl,n7_0,n7_1,n7_2,n7_3,n7_4,⟨w5_,n7_5⟩,n7_6,n7_7⟩:=hX7;cases h;simp (maxDischargeDepth:=9) only [↓AB,AC,↓reduceIte,Nat.reduceEqDiff,Nat.reduceLT,n7_0,n7_1,n7_2,n7_3,n7_4,n7_5,n7_6,n7_7,EC,Dw]<;>(repeat' apply A7)<;>first|rfl|exact⟨_,rfl⟩|exact⟨_,_,rfl⟩|simp [AJ,AU]
  ·obtain⟨A8,hl6,h⟩:=AQ h;try dsimp only at h
   simp (maxDischargeDepth:=9) only [↓AB,AC,↓reduceIte,Nat.reduceEqDiff,Nat.reduceLT,m1,m5,m6,m7,e2,e3.1,e3.2,e4];refine AZ (Q4 labels size out Dx Eb hl6 ?_) ?_
   ·simp (maxDischargeDepth:=9) only [BC,↓reduceIte,Nat.reduceEqDiff,m0,m1,m2,m3,m4,m5,m6,m7,EB]<;>(repeat' apply A7)<;>first|rfl|exact⟨_,rfl⟩|exact⟨_,_,rfl⟩|simp [AJ,AU]
   ·intro ex6 s6 hX6;unfold I5 at hX6;obtain⟨rfl,n6_0,n6_1,n6_2,n6_3,n6_4,⟨w5_,n6_5⟩,n6_6,n6_7⟩:=hX6;cases h;simp (maxDischargeDepth:=9) only [↓AB,AC,↓reduceIte,Nat.reduceEqDiff,Nat.reduceLT,n6_0,n6_1,n6_2,n6_3,n6_4,n6_5,n6_6,n6_7,EC,Dw]<;>(repeat' apply A7)<;>first|rfl|exact⟨_,rfl⟩|exact⟨_,_,rfl⟩|simp [AJ,AU]
 ·cases h;simp (maxDischargeDepth:=9) only [↓AB,AC,↓reduceIte,Nat.reduceEqDiff,Nat.reduceLT,m0,m2,m3,m4,m6,m7,e2,EC,KG,Ir]
def FE(labels size:Int)(out:AL)(Dx:Int)(s:St):Prop:=s.v 0=D.int .i64 labels∧s.v 5=D.own 27 (AJ IX out)∧s.v 12=D.int .i64 size∧s.v 13=D.int .i64 Dx
def KH(labels size:Int)(r:AL)(ex:Ex)(s:St):Prop:=ex= .exit 0∧s.v 5=D.own 27 (AJ IX r)
theorem Vu(labels size:Int){v:AL×Int}{s:St}{r:AL}(h:MO labels size v=some r)(hM:FE labels size v.1 v.2 s):BU Y.env A14 (KH labels size r) s:=by
 unfold MO at h;refine Ap (c:=jm) (fun v=>FD labels size v.1 v.2) (fun v s=>FE labels size v.1 v.2 s) (KH labels size) ?_ h hM;clear h hM s v r;intro v s o hM h;obtain⟨out,Dx⟩:=v;dsimp only at h hM;unfold FD at h;unfold FE at hM;obtain⟨m0,m1,m2,m3⟩:=hM;unfold jm;rcases iS h with⟨e1,h⟩|⟨e1,h⟩
 ·obtain⟨Ad,hl3,h⟩:=AQ h;try dsimp only at h
  simp (maxDischargeDepth:=9) only [↓AB,AC,↓reduceIte,Nat.reduceEqDiff,Nat.reduceLT,m1,m2,m3,e1];refine AZ (Vt labels size out Dx hl3 ?_) ?_
  ·simp (maxDischargeDepth:=9) only [BC,↓reduceIte,Nat.reduceEqDiff,m0,m1,m2,m3,EC]<;>(repeat' apply A7)<;>first|rfl|exact⟨_,rfl⟩|exact⟨_,_,rfl⟩|simp [AJ,AU]
  ·intro ex3 s3 hX3;unfold KG at hX3;obtain⟨rfl,n3_0,n3_1,n3_2,n3_3⟩:=hX3;cases h;simp (maxDischargeDepth:=9) only [↓AB,AC,↓reduceIte,Nat.reduceEqDiff,Nat.reduceLT,n3_0,n3_1,n3_2,n3_3,FE,Dw]
 ·cases h;simp (maxDischargeDepth:=9) only [↓AB,AC,↓reduceIte,Nat.reduceEqDiff,Nat.reduceLT,m1,m2,m3,e1,FE,KH,Ir]
theorem Qt(labels size:Int){r:AL}(h:Lg labels size=some r):Y.call 73 [D.int .i64 labels,D.int .i64 size] []=some (D.own 27 (AJ IX r),[]):=by
 refine c73 ?_ rfl;unfold k73;unfold Lg at h;obtain⟨LU,hl2,h⟩:=AQ h;try dsimp only at h
 simp (maxDischargeDepth:=9) only [↓AB,AC,↓reduceIte,Nat.reduceEqDiff,Nat.reduceLT,Nat.reduceLeDiff,Nat.reduceAdd];refine AZ (Vu labels size hl2 ?_) ?_
 ·simp (maxDischargeDepth:=9) only [BC,Ce,↓reduceIte,Nat.reduceEqDiff,Nat.reduceLT,FE]<;>(repeat' apply A7)<;>first|rfl|exact⟨_,rfl⟩|exact⟨_,_,rfl⟩|simp [AJ,AU]
 ·intro ex2 s2 hX2;unfold KH at hX2;obtain⟨rfl,n2_0⟩:=hX2;cases h;simp (maxDischargeDepth:=9) only [↓AB,AC,↓reduceIte,Nat.reduceEqDiff,Nat.reduceLT,n2_0]
noncomputable def Aj(s_:AL)(f:AA→Option Bool)(O8:Int):Option ((Int)⊕(Int⊕Unit)):= if O8<(s_.length:Int)then ck (0≤O8∧O8.toNat<s_.length)<| (f (s_.getD O8.toNat default)).bind fun cO=> if cO=true then some (Sum.inr (Sum.inl O8)) else some (Sum.inl (IntKind.i64.wrap (O8+1))) else some (Sum.inr (Sum.inr ()))
noncomputable def Bq(s_:AL)(f:AA→Option Bool)(v:Int):Option (Int⊕Unit):=Fv (fun v=>Aj s_ f v) v
noncomputable def BS(s_:AL)(f:AA→Option Bool):Option (Int):=
 (Bq s_ f 0).bind fun A8=>
 match A8 with
 | .inl q1000_=>
  some q1000_
 | .inr q1000_=>
  some (-1)
def Zz:SC:= .seq (.ops [oB 9 .lss 3 (tK 8) (tK 7) 3 0]) (.seq (.cond (tK 9) .skip (.exit 0)) (.seq (.block 1 (.seq (.ops [oM 10 8 3,oA 5 10 3]) (.seq (.ops [oM 11 1 52,oM 12 0 22,oM 13 5 3,oI 14 22 12 13,oL 15 27 14 27,oX 16 (.call ⟨(.value (tK 11)), #[(tK 15)], #[27]⟩) 4]) (.cond (tK 16) (.seq (.ops [oM 17 5 3,oA 4 17 3]) .ret) .skip)))) (.ops [oB 18 .add 3 (tK 8) (iK 1) 3 3,oM 8 18 3])))
def uz:SC:= .loop Zz
def A8G:SC:= .seq (.ops [oX 4 (.assign (iK 0)) 3]) (.seq (.seq (.ops [oM 6 0 22,oN 7 6 22,oX 8 (.move (iK 0)) 3]) (.block 0 uz)) (.seq (.ops [oX 4 Uc 3]) .ret))
theorem A3E:Tryz.f105.body.map (BI lends)=some A8G:=by kernel_rfl
theorem AFC:BR Tryz.f105 2=true:=by kernel_rfl
theorem AL6{a l:List D}{r:D×List D}(h:BU Y.env A8G (Du Ab l.length [ResultVar.tmp 4] r) (entry a l))(ha:a.length=2):Y.call 105 a l=some r:=
 AP (Y:=Y) rfl Tryz.func105 (ha▸AFC) A3E h
def BB(s_:AL)(f:AA→Option Bool)(f_f:FuncId)(f_c:List D)(O8:Int)(s:St):Prop:=s.v 0=D.sl 27 (AJ Ac s_)∧s.v 1=D.clo f_f f_c∧s.v 7=D.int .i64 (s_.length:Int)∧s.v 8=D.int .i64 O8
def BO(s_:AL)(f:AA→Option Bool)(f_f:FuncId)(f_c:List D)(r:Int⊕Unit)(ex:Ex)(s:St):Prop:=match r with
 | .inl q=>ex= .ret∧s.v 4=D.int .i64 q
 | .inr q=>ex= .exit 0
theorem Kq(s_:AL)(f:AA→Option Bool)(f_f:FuncId)(f_c:List D)(f_h: ∀(a0:AA) (r:Bool),f a0=some r→Y.call f_f (D.sl 3 (AJ (D.int .i64) a0)::f_c) []=some (D.bool r,[]))(f_l:lends f_f=false){v:Int}{s:St}{r:Int⊕Unit}(h:Bq s_ f v=some r)(hM:BB s_ f f_f f_c v s):BU Y.env uz (BO s_ f f_f f_c r) s:=by
 unfold Bq at h;refine Ap (c:=Zz) (fun v=>Aj s_ f v) (fun v s=>BB s_ f f_f f_c v s) (BO s_ f f_f f_c) ?_ h hM;clear h hM s v r;intro O8 s o hM h;unfold Aj at h;unfold BB at hM;obtain⟨m0,m1,m2,m3⟩:=hM;unfold Zz;rcases iS h with⟨e1,h⟩|⟨e1,h⟩
 ·obtain⟨e2,h⟩:=DL h;obtain⟨cO,hl3,h⟩:=AQ h;have c3:=f_h _ _ hl3;rcases iS h with⟨e4,h⟩|⟨e4,h⟩
  ·cases h;simp (maxDischargeDepth:=9) only [↓AB,AC,↓reduceIte,Nat.reduceEqDiff,Nat.reduceLT,Nat.reduceAdd,m0,m1,m2,m3,f_l,e1,e2.1,e2.2,c3,e4,BB,BO,Tz]
  ·have e4f:cO=false:=Gf.mpr e4;cases h;simp (maxDischargeDepth:=9) only [↓AB,AC,↓reduceIte,Nat.reduceEqDiff,Nat.reduceLT,Nat.reduceAdd,m0,m1,m2,m3,f_l,e1,e2.1,e2.2,c3,e4f,BB,Dw]
 ·cases h;simp (maxDischargeDepth:=9) only [↓AB,AC,↓reduceIte,Nat.reduceLT,m2,m3,e1,BB,BO,Ir]
theorem LV(s_:AL)(f:AA→Option Bool)(f_f:FuncId)(f_c:List D)(f_h: ∀(a0:AA) (r:Bool),f a0=some r→Y.call f_f (D.sl 3 (AJ (D.int .i64) a0)::f_c) []=some (D.bool r,[]))(f_l:lends f_f=false){r:Int}(h:BS s_ f=some r):Y.call 105 [D.sl 27 (AJ Ac s_),D.clo f_f f_c] []=some (D.int .i64 r,[]):=by
 refine AL6 ?_ rfl;unfold A8G;unfold BS at h;obtain⟨A8,hl2,h⟩:=AQ h;try dsimp only at h
 simp (maxDischargeDepth:=9) only [↓AB,AC,↓reduceIte,Nat.reduceEqDiff,Nat.reduceLT,Int.reduceNeg];refine AZ (Kq s_ f f_f f_c f_h f_l hl2 ?_) ?_
 ·simp (maxDischargeDepth:=9) only [BC,Ce,↓reduceIte,Nat.reduceEqDiff,Nat.reduceLT,BB]
 ·intro ex2 s2 hX2;rcases A8 with q1000_|q1000_
  ·unfold BO at hX2;dsimp only at hX2 h;obtain⟨rfl,n2_0⟩:=hX2;cases h;simp (maxDischargeDepth:=9) only [↓AB,AC,↓reduceIte,n2_0]
  ·unfold BO at hX2;dsimp only at hX2 h
   obtain rfl:=hX2
   cases h;simp (maxDischargeDepth:=9) only [↓AB,AC,↓reduceIte,Nat.reduceEqDiff,Nat.reduceLT,Int.reduceNeg]
noncomputable def BL(del:AA→Option Bool)(i j:Int)(Ar:List (Option AA)):Option ((Int×Int×(List (Option AA)))⊕(Int×(List (Option AA)))):= if j<(Ar.length:Int)then ck (0≤j∧j.toNat<Ar.length)<| ck ((Ar.getD j.toNat default).isSome=true)<| (del ((Ar.getD j.toNat default).getD default)).bind fun OV=> if OV=true then some (Sum.inl (i,IntKind.i64.wrap (j+1),Ar)) else ck (0≤i∧i.toNat<Ar.length)<| some (Sum.inl (IntKind.i64.wrap (i+1),IntKind.i64.wrap (j+1),((Ar.set j.toNat none).set i.toNat (some ((Ar.getD j.toNat default).getD default))))) else some (Sum.inr (i,Ar))
noncomputable def CX(del:AA→Option Bool)(v:Int×Int×(List (Option AA))):Option (Int×(List (Option AA))):=Fv (fun v=>BL del v.1 v.2.1 v.2.2) v
noncomputable def C8(s_:AL)(del:AA→Option Bool):Option (AL):= (BS s_ del).bind fun Mr=> if Mr=(-1)then some s_ else (CX del (Mr,IntKind.i64.wrap (Mr+1),(s_.map some))).bind fun A8=> ck (0≤A8.1)<| ck (A8.1.toNat≤A8.2.length)<| ck (A8.1.toNat+(A8.2.length-A8.1.toNat)≤A8.2.length)<| ck (A8.1.toNat≤(sI A8.2 A8.1.toNat ((List.replicate (A8.2.length-A8.1.toNat) ([]:AA)).map some)).length)<| ck ((((sI A8.2 A8.1.toNat ((List.replicate (A8.2.length-A8.1.toNat) ([]:AA)).map some)).take A8.1.toNat).all Option.isSome)=true)<| some (((sI A8.2 A8.1.toNat ((List.replicate (A8.2.length-A8.1.toNat) ([]:AA)).map some)).take A8.1.toNat).map fun o=>o.getD default)
def jo:SC:= .seq (.seq (.ops [oM 16 6 3,oM 17 0 22,oN 18 17 22,oB 19 .lss 3 (tK 16) (tK 18) 3 4]) (.cond (tK 19) .skip (.exit 0))) (.seq (.block 1 (.seq (.ops [oM 22 0 22,oM 23 6 3,oI 24 22 22 23,oL 25 27 24 27,oA 7 25 27]) (.seq (.ops [oM 26 1 52,oM 27 7 27,oX 28 (.call ⟨(.value (tK 26)), #[(tK 27)], #[27]⟩) 4,oX 29 (.unOp .not 4 (tK 28)) 4]) (.cond (tK 29) (.seq (.ops [oM 30 0 22,oM 31 5 3,oM 32 7 27,oI 33 22 30 31,⟨none,(.store 27 (tK 33) (tK 32)),900007,none⟩]) (.ops [oM 34 5 3,oB 35 .add 3 (tK 34) (iK 1) 3 3,oA 5 35 3])) .skip)))) (.ops [oM 20 6 3,oB 21 .add 3 (tK 20) (iK 1) 3 3,oA 6 21 3]))
def A15:SC:= .loop jo
def k72:SC:= .seq (.ops [oX 4 CG 22]) (.seq (.ops [oM 8 0 22,oM 9 1 52,oC 10 105 [(tK 8),(tK 9)] [22,52] 3,oA 5 10 3]) (.seq (.seq (.ops [oM 11 5 3,oX 12 (.binOp .eql 3 (tK 11) (.const (.int .i64 (-1))) 3) 4]) (.cond (tK 12) (.seq (.ops [oM 13 0 22,oA 4 13 22]) .ret) .skip)) (.seq (.seq (.ops [oM 14 5 3,oB 15 .add 3 (tK 14) (iK 1) 3 3,oA 6 15 3]) (.block 0 A15)) (.seq (.ops [oM 36 0 22,oM 37 5 3,oX 38 (.slice 22 (tK 36) (some (tK 37)) none none) 900001,⟨none,.call ⟨(.builtin .clear), #[(tK 38)], #[22]⟩,0,none⟩]) (.seq (.ops [oM 39 0 22,oM 40 5 3,oX 41 (.slice 22 (tK 39) none (some (tK 40)) none) 900002,oA 4 41 22]) .ret)))))
theorem A8H:Tryz.f72.body.map (BI lends)=some k72:=by kernel_rfl
theorem AL8:BR Tryz.f72 2=true:=by kernel_rfl
theorem c72{a l:List D}{r:D×List D}(h:BU Y.env k72 (Du Ab l.length [ResultVar.tmp 4] r) (entry a l))(ha:a.length=2):Y.call 72 a l=some r:=
 AP (Y:=Y) rfl Tryz.func72 (ha▸AL8) A8H h
def Ay(del:AA→Option Bool)(del_f:FuncId)(del_c:List D)(i j:Int)(Ar:List (Option AA))(s:St):Prop:=(∃w_,s.v 0=D.vw [100000] (s.k 100000) w_)∧s.v 1=D.clo del_f del_c∧s.v 5=D.int .i64 i∧s.v 6=D.int .i64 j∧s.v 100000=D.own 27 (AJ (Qb IX) Ar)
def CE(del:AA→Option Bool)(del_f:FuncId)(del_c:List D)(r:Int×(List (Option AA)))(ex:Ex)(s:St):Prop:=ex= .exit 0∧(∃w_,s.v 0=D.vw [100000] (s.k 100000) w_)∧s.v 5=D.int .i64 r.1∧s.v 100000=D.own 27 (AJ (Qb IX) r.2)
theorem Ka(del:AA→Option Bool)(del_f:FuncId)(del_c:List D)(del_h: ∀(a0:AA) (r:Bool),del a0=some r→Y.call del_f (D.sl 3 (AJ (D.int .i64) a0)::del_c) []=some (D.bool r,[]))(del_l:lends del_f=false){v:Int×Int×(List (Option AA))}{s:St}{r:Int×(List (Option AA))}(h:CX del v=some r)(hM:Ay del del_f del_c v.1 v.2.1 v.2.2 s):BU Y.env A15 (CE del del_f del_c r) s:=by
 unfold CX at h;refine Ap (c:=jo) (fun v=>BL del v.1 v.2.1 v.2.2) (fun v s=>Ay del del_f del_c v.1 v.2.1 v.2.2 s) (CE del del_f del_c) ?_ h hM;clear h hM s v r;intro v s o hM h;obtain⟨i,j,Ar⟩:=v;dsimp only at h hM;unfold BL at h;unfold Ay at hM;obtain⟨⟨w0_,m0⟩,m1,m2,m3,m4⟩:=hM;unfold jo;rcases iS h with⟨e3,h⟩|⟨e3,h⟩
 ·obtain⟨e4,e5,h⟩:=Fy h;obtain⟨OV,hl6,h⟩:=AQ h;have c6:=del_h _ _ hl6;rcases iS h with⟨e7,h⟩|⟨e7,h⟩
  ·cases h;simp (maxDischargeDepth:=9) only [↓AB,AC,↓reduceIte,Nat.reduceEqDiff,Nat.reduceLT,Nat.reduceAdd,m0,m1,m2,m3,m4,del_l,e3,e4.1,e4.2,e5,c6,e7,Ay,Dw]<;>(repeat' apply A7)<;>first|rfl|exact⟨_,rfl⟩|exact⟨_,_,rfl⟩|simp [AJ,AU]
  ·have e7f:OV=false:=Gf.mpr e7;obtain⟨e8,h⟩:=DL h;cases h;simp (maxDischargeDepth:=9) only [↓AB,AC,↓reduceIte,Nat.reduceEqDiff,Nat.reduceLT,Nat.reduceAdd,m0,m1,m2,m3,m4,del_l,e3,e4.1,e4.2,e5,c6,e7f,e8.1,e8.2,Ay,Dw]<;>(repeat' apply A7)<;>first|rfl|exact⟨_,rfl⟩|exact⟨_,_,rfl⟩|simp [AJ,AU]
 ·cases h;simp (maxDischargeDepth:=9) only [↓AB,AC,↓reduceIte,Nat.reduceEqDiff,Nat.reduceLT,m0,m2,m3,m4,e3,Ay,CE,Ir]<;>(repeat' apply A7)<;>first|rfl|exact⟨_,rfl⟩|exact⟨_,_,rfl⟩|simp [AJ,AU]
theorem Kr(s_:AL)(del:AA→Option Bool)(del_f:FuncId)(del_c:List D)(del_h: ∀(a0:AA) (r:Bool),del a0=some r→Y.call del_f (D.sl 3 (AJ (D.int .i64) a0)::del_c) []=some (D.bool r,[]))(del_l:lends del_f=false){r:AL}(h:C8 s_ del=some r):Y.call 72 [D.vw [100000] 0 0,D.clo del_f del_c] [D.own 27 (AJ IX s_)]=some (D.own 27 (AJ IX r),[D.undef]):=by
 refine c72 ?_ rfl;unfold k72;unfold C8 at h;obtain⟨Mr,hl1,h⟩:=AQ h;have c1:=LV s_ del del_f del_c del_h del_l hl1;rcases iS h with⟨e2,h⟩|⟨e2,h⟩
 ·cases h;simp (maxDischargeDepth:=9) only [↓AB,AC,↓reduceIte,Nat.reduceEqDiff,Nat.reduceLT,Nat.reduceAdd,Nat.reduceSub,Int.reduceNeg,c1,decide_eq_true e2]
 ·obtain⟨A8,hl4,h⟩:=AQ h;try dsimp only at h
  simp (maxDischargeDepth:=9) only [↓AB,AC,↓reduceIte,Nat.reduceEqDiff,Nat.reduceLT,Nat.reduceAdd,Nat.reduceSub,Int.reduceNeg,c1,e2];refine AZ (Ka del del_f del_c del_h del_l hl4 ?_) ?_
  ·simp (maxDischargeDepth:=9) only [BC,A73,Ce,↓reduceIte,Nat.reduceEqDiff,Nat.reduceLT,Nat.reduceSub,Ay]<;>(repeat' apply A7)<;>first|rfl|exact⟨_,rfl⟩|exact⟨_,_,rfl⟩|simp [AJ,AU]
  ·intro ex4 s4 hX4;unfold CE at hX4;obtain⟨rfl,⟨w0_,n4_0⟩,n4_1,n4_2⟩:=hX4;obtain⟨e5,e6,e7,e8,h⟩:=bY h;obtain⟨e9,h⟩:=DL h;cases h;simp (maxDischargeDepth:=9) only [↓AB,AC,↓reduceIte,Nat.reduceEqDiff,Nat.reduceLT,n4_0,n4_1,n4_2,e5,e6,e7,e8,e9]
noncomputable def Kt(c_:AA)(c0_:AA→Option Bool):Option (Bool):= (c0_ c_).bind fun r6_=> some (!r6_)
def k74:SC:= .seq (.ops [oX 3 BX 4]) (.seq (.ops [oL 4 52 1 52,oM 5 0 27,oX 6 (.call ⟨(.value (tK 4)), #[(tK 5)], #[27]⟩) 4,oX 7 (.unOp .not 4 (tK 6)) 4,oA 3 7 4]) .ret)
theorem A8I:Tryz.f74.body.map (BI lends)=some k74:=by kernel_rfl
theorem ALA:BR Tryz.f74 2=true:=by kernel_rfl
theorem c74{a l:List D}{r:D×List D}(h:BU Y.env k74 (Du Ab l.length [ResultVar.tmp 3] r) (entry a l))(ha:a.length=2):Y.call 74 a l=some r:=
 AP (Y:=Y) rfl Tryz.func74 (ha▸ALA) A8I h
theorem Un(c_:AA)(c0_:AA→Option Bool)(c0__f:FuncId)(c0__c:List D)(c0__h: ∀(a0:AA) (r:Bool),c0_ a0=some r→Y.call c0__f (D.sl 3 (AJ (D.int .i64) a0)::c0__c) []=some (D.bool r,[]))(c0__l:lends c0__f=false){r:Bool}(h:Kt c_ c0_=some r):Y.call 74 [D.sl 3 (AJ (D.int .i64) c_),D.cptr [D.clo c0__f c0__c]] []=some (D.bool r,[]):=by
 refine c74 ?_ rfl;unfold k74;unfold Kt at h;obtain⟨r6_,hl1,h⟩:=AQ h;try dsimp only at h
 have c1:=c0__h _ _ hl1;cases h;simp (maxDischargeDepth:=9) only [↓AB,AC,↓reduceIte,Nat.reduceEqDiff,Nat.reduceLT,Nat.reduceAdd,c0__l,c1]
noncomputable def GZ(labels size:Int)(good:AA→Option Bool):Option (AL):= (Lg labels size).bind fun r9_=> (C8 r9_ (fun a0=>Kt a0 good)).bind fun Ma=> some Ma
def k42:SC:= .seq (.ops [oX 5 (.box 52 (tK 2)) 0,oX 6 CG 22]) (.seq (.ops [oM 7 0 3,oM 8 1 3,oC 9 73 [(tK 7),(tK 8)] [3,3] 22,oX 10 (.makeFunc (Fn.func 74) #[] #[(tK 5)]) 52,oC 11 72 [(tK 9),(tK 10)] [22,52] 22,oA 6 11 22]) .ret)
theorem A8J:Tryz.f42.body.map (BI lends)=some k42:=by kernel_rfl
theorem ALC:BR Tryz.f42 3=true:=by kernel_rfl
theorem c42{a l:List D}{r:D×List D}(h:BU Y.env k42 (Du Ab l.length [ResultVar.tmp 6] r) (entry a l))(ha:a.length=3):Y.call 42 a l=some r:=
 AP (Y:=Y) rfl Tryz.func42 (ha▸ALC) A8J h
theorem N7(labels size:Int)(good:AA→Option Bool)(good_f:FuncId)(good_c:List D)(good_h: ∀(a0:AA) (r:Bool),good a0=some r→Y.call good_f (D.sl 3 (AJ (D.int .i64) a0)::good_c) []=some (D.bool r,[]))(good_l:lends good_f=false){r:AL}(h:GZ labels size good=some r):Y.call 42 [D.int .i64 labels,D.int .i64 size,D.clo good_f good_c] []=some (D.own 27 (AJ IX r),[]):=by
 refine c42 ?_ rfl;unfold k42;unfold GZ at h;obtain⟨r9_,hl1,h⟩:=AQ h;have c1:=Qt labels size hl1;obtain⟨Ma,hl2,h⟩:=AQ h;try dsimp only at h
 have c2:=Kr r9_ (fun a0=>Kt a0 good) 74 [D.cptr [D.clo good_f good_c]] (fun a0 _ hh=>Un a0 good good_f good_c good_h good_l hh) A79 hl2;cases h;simp (maxDischargeDepth:=9) only [↓AB,AC,↓reduceIte,Nat.reduceEqDiff,Nat.reduceLT,Nat.reduceAdd,c1,c2]
noncomputable def Ec(rec_:Int→AA→AL→Option (Bool×AA))(k:Int)(c0_:AL)(Iy:Int)(t100000_0:AA):Option ((Int×AA)⊕((AA)⊕(AA))):= if Iy<((c0_.getD k.toNat default).length:Int)then ck (0≤Iy∧Iy.toNat<(c0_.getD k.toNat default).length)<| ck (0≤k∧k.toNat<t100000_0.length)<| (rec_ (IntKind.i64.wrap (k+1)) (t100000_0.set k.toNat ((c0_.getD k.toNat default).getD Iy.toNat default)) c0_).bind fun RU=> if RU.1=true then some (Sum.inr (Sum.inl RU.2)) else some (Sum.inl (IntKind.i64.wrap (Iy+1),RU.2)) else some (Sum.inr (Sum.inr t100000_0))
noncomputable def Ig(rec_:Int→AA→AL→Option (Bool×AA))(k:Int)(c0_:AL)(v:Int×AA):Option ((AA)⊕(AA)):=Fv (fun v=>Ec rec_ k c0_ v.1 v.2) v
noncomputable def De(rec_:Int→AA→AL→Option (Bool×AA))(k:Int)(o0_:AA)(c0_:AL)(c1_:AA→Option Bool):Option (Bool×AA):=
 if k=(c0_.length:Int)then
  (c1_ o0_).bind fun Ll=>
  some (Ll,o0_)
 else
  ck (0≤k∧k.toNat<c0_.length)<|
  (Ig rec_ k c0_ (0,o0_)).bind fun A8=>
  match A8 with
  | .inl q1000_=>
   some (true,q1000_)
  | .inr q1000_=>
   some (false,q1000_)
noncomputable def Br(c1_:AA→Option Bool):Nat→Int→AA→AL→Option (Bool×AA) |0=>fun _ _ _=>none |n+1=>fun k o0_ c0_=>De (Br c1_ n) k o0_ c0_ c1_
noncomputable def O9(k:Int)(o0_:AA)(c0_:AL)(c1_:AA→Option Bool):Option (Bool×AA):=Br c1_ 1000000 k o0_ c0_
def aA:SC:= .seq (.ops [oB 22 .lss 3 (tK 21) (tK 20) 3 0]) (.seq (.cond (tK 22) .skip (.exit 0)) (.seq (.block 1 (.seq (.ops [oI 23 27 19 21,oL 24 3 23 3,oA 8 24 3]) (.seq (.ops [oL 25 27 3 27,oM 26 0 3,oM 27 8 3,oI 28 27 25 26,oS 3 28 27]) (.seq (.ops [oL 29 87 4 87,oM 30 0 3,oB 31 .add 3 (tK 30) (iK 1) 3 3,oX 32 (.call ⟨(.value (tK 29)), #[(tK 31)], #[3]⟩) 4]) (.cond (tK 32) (.seq (.ops [oX 6 (.assign Gx) 4]) .ret) .skip))))) (.ops [oB 33 .add 3 (tK 21) (iK 1) 3 3,oM 21 33 3])))
def vB:SC:= .loop aA
def A8K:SC:= .seq (.ops [oX 6 BX 4]) (.seq (.seq (.ops [oM 9 0 3,oL 10 22 1 22,oN 11 10 22,oB 12 .eql 3 (tK 9) (tK 11) 3 4]) (.cond (tK 12) (.seq (.ops [oL 13 52 2 52,oL 14 27 3 27,oX 15 (.call ⟨(.value (tK 13)), #[(tK 14)], #[27]⟩) 4,oA 6 15 4]) .ret) .skip)) (.seq (.seq (.ops [oL 16 22 1 22,oM 17 0 3,oI 18 22 16 17,oL 19 27 18 27,oN 20 19 27,oX 21 (.move (iK 0)) 3]) (.block 0 vB)) (.seq (.ops [oX 6 BX 4]) .ret)))
theorem A3F:Tryz.f107.body.map (BI lends)=some A8K:=by kernel_rfl
theorem AFD:BR Tryz.f107 5=true:=by kernel_rfl
theorem ALD{a l:List D}{r:D×List D}(h:BU Y.env A8K (Du Ab l.length [ResultVar.tmp 6] r) (entry a l))(ha:a.length=5):Y.call 107 a l=some r:=
 AP (Y:=Y) rfl Tryz.func107 (ha▸AFD) A3F h
def Ck(rec_:Int→AA→AL→Option (Bool×AA))(k:Int)(c0_:AL)(c1__f:FuncId)(c1__c:List D)(Iy:Int)(t100000_0:AA)(s:St):Prop:=s.v 0=D.int .i64 k∧(∃w_,s.v 3=D.vw [100000] (s.k 100000) w_)∧(∃w_,s.v 4=D.ocl true 107 [D.cptr [D.sl 27 (AJ Ac c0_)],D.cptr [D.clo c1__f c1__c],D.vw [100000] (s.k 100000) w_,D.undef])∧s.v 19=D.sl 3 (AJ (D.int .i64) (c0_.getD k.toNat default))∧s.v 20=D.int .i64 ((c0_.getD k.toNat default).length:Int)∧s.v 21=D.int .i64 Iy∧s.v 100000=D.box [D.own 3 (AJ (D.int .i64) t100000_0)]
def DU(rec_:Int→AA→AL→Option (Bool×AA))(k:Int)(c0_:AL)(c1__f:FuncId)(c1__c:List D)(r:(AA)⊕(AA))(ex:Ex)(s:St):Prop:=match r with
 | .inl q=>ex= .ret∧s.v 6=D.bool true∧s.v 100000=D.box [D.own 3 (AJ (D.int .i64) q)]
 | .inr q=>ex= .exit 0∧s.v 100000=D.box [D.own 3 (AJ (D.int .i64) q)]
theorem Ru(rec_:Int→AA→AL→Option (Bool×AA))(k:Int)(c0_:AL)(c1__f:FuncId)(c1__c:List D)(rec_h: ∀(k:Int) (o0_:AA) (c0_:AL) (r:Bool×AA),rec_ k o0_ c0_=some r→Y.call 107 [D.int .i64 k,D.cptr [D.sl 27 (AJ Ac c0_)],D.cptr [D.clo c1__f c1__c],D.vw [100000] 0 0,D.ocl true 107 [D.cptr [D.sl 27 (AJ Ac c0_)],D.cptr [D.clo c1__f c1__c],D.vw [100000] 0 0,D.undef]] [D.box [D.own 3 (AJ (D.int .i64) o0_)]]=some (D.bool r.1,[D.box [D.own 3 (AJ (D.int .i64) r.2)]])){v:Int×AA}{s:St}{r:(AA)⊕(AA)}(h:Ig rec_ k c0_ v=some r)(hM:Ck rec_ k c0_ c1__f c1__c v.1 v.2 s):BU Y.env vB (DU rec_ k c0_ c1__f c1__c r) s:=by
 unfold Ig at h;refine Ap (c:=aA) (fun v=>Ec rec_ k c0_ v.1 v.2) (fun v s=>Ck rec_ k c0_ c1__f c1__c v.1 v.2 s) (DU rec_ k c0_ c1__f c1__c) ?_ h hM;clear h hM s v r;intro v s o hM h;obtain⟨Iy,t100000_0⟩:=v;dsimp only at h hM;unfold Ec at h;unfold Ck at hM;obtain⟨m0,⟨w1_,m1⟩,⟨w2_,m2⟩,m3,m4,m5,m6⟩:=hM;unfold aA;rcases iS h with⟨e3,h⟩|⟨e3,h⟩
 ·obtain⟨e4,e5,h⟩:=Fy h;obtain⟨RU,hl6,h⟩:=AQ h;have c6:=rec_h _ _ _ _ hl6;rcases iS h with⟨e7,h⟩|⟨e7,h⟩
  ·cases h;simp (maxDischargeDepth:=9) only [↓AB,AC,↓reduceIte,Nat.reduceEqDiff,Nat.reduceLT,Nat.reduceAdd,m0,m1,m2,m3,m4,m5,m6,e3,e4.1,e4.2,e5.1,e5.2,c6,e7,Ck,DU,Tz]
  ·have e7f:RU.1=false:=Gf.mpr e7;cases h;simp (maxDischargeDepth:=9) only [↓AB,AC,↓reduceIte,Nat.reduceEqDiff,Nat.reduceLT,Nat.reduceAdd,m0,m1,m2,m3,m4,m5,m6,e3,e4.1,e4.2,e5.1,e5.2,c6,e7f,Ck,Dw]<;>(repeat' apply A7)<;>first|rfl|exact⟨_,rfl⟩|exact⟨_,_,rfl⟩|simp [AJ,AU]
 ·cases h;simp (maxDischargeDepth:=9) only [↓AB,AC,↓reduceIte,Nat.reduceEqDiff,Nat.reduceLT,m4,m5,m6,e3,Ck,DU,Ir]
theorem RV(rec_:Int→AA→AL→Option (Bool×AA))(k:Int)(o0_:AA)(c0_:AL)(c1_:AA→Option Bool)(c1__f:FuncId)(c1__c:List D)(rec_h: ∀(k:Int) (o0_:AA) (c0_:AL) (r:Bool×AA),rec_ k o0_ c0_=some r→Y.call 107 [D.int .i64 k,D.cptr [D.sl 27 (AJ Ac c0_)],D.cptr [D.clo c1__f c1__c],D.vw [100000] 0 0,D.ocl true 107 [D.cptr [D.sl 27 (AJ Ac c0_)],D.cptr [D.clo c1__f c1__c],D.vw [100000] 0 0,D.undef]] [D.box [D.own 3 (AJ (D.int .i64) o0_)]]=some (D.bool r.1,[D.box [D.own 3 (AJ (D.int .i64) r.2)]]))(c1__h: ∀(a0:AA) (r:Bool),c1_ a0=some r→Y.call c1__f (D.sl 3 (AJ (D.int .i64) a0)::c1__c) []=some (D.bool r,[]))(c1__l:lends c1__f=false){r:Bool×AA}(h:De rec_ k o0_ c0_ c1_=some r):Y.call 107 [D.int .i64 k,D.cptr [D.sl 27 (AJ Ac c0_)],D.cptr [D.clo c1__f c1__c],D.vw [100000] 0 0,D.ocl true 107 [D.cptr [D.sl 27 (AJ Ac c0_)],D.cptr [D.clo c1__f c1__c],D.vw [100000] 0 0,D.undef]] [D.box [D.own 3 (AJ (D.int .i64) o0_)]]=some (D.bool r.1,[D.box [D.own 3 (AJ (D.int .i64) r.2)]]):=by
 refine ALD ?_ rfl;unfold A8K;unfold De at h;rcases iS h with⟨e1,h⟩|⟨e1,h⟩
 ·obtain⟨Ll,hl2,h⟩:=AQ h;try dsimp only at h
  have c2:=c1__h _ _ hl2;cases h;simp (maxDischargeDepth:=9) only [↓AB,AC,↓reduceIte,Nat.reduceEqDiff,Nat.reduceLT,Nat.reduceAdd,Nat.reduceSub,c1__l,decide_eq_true e1,c2]
 ·obtain⟨e2,h⟩:=DL h;obtain⟨A8,hl4,h⟩:=AQ h;try dsimp only at h
  simp (maxDischargeDepth:=9) only [↓AB,AC,↓reduceIte,Nat.reduceEqDiff,Nat.reduceLT,Nat.reduceAdd,e1,e2.1,e2.2];refine AZ (Ru rec_ k c0_ c1__f c1__c rec_h hl4 ?_) ?_
  ·simp (maxDischargeDepth:=9) only [BC,Ce,↓reduceIte,Nat.reduceEqDiff,Nat.reduceLT,Nat.reduceSub,Ck]<;>(repeat' apply A7)<;>first|rfl|exact⟨_,rfl⟩|exact⟨_,_,rfl⟩|simp [AJ,AU]
  ·intro ex4 s4 hX4;rcases A8 with q1000_|q1000_
   ·unfold DU at hX4;dsimp only at hX4 h;obtain⟨rfl,n4_0,n4_1⟩:=hX4;cases h;simp (maxDischargeDepth:=9) only [↓AB,AC,↓reduceIte,n4_0,n4_1]
   ·unfold DU at hX4;dsimp only at hX4 h;obtain⟨rfl,n4_0⟩:=hX4;cases h;simp (maxDischargeDepth:=9) only [↓AB,AC,↓reduceIte,Nat.reduceEqDiff,Nat.reduceLT,n4_0]
theorem RX(c1_:AA→Option Bool)(c1__f:FuncId)(c1__c:List D)(c1__h: ∀(a0:AA) (r:Bool),c1_ a0=some r→Y.call c1__f (D.sl 3 (AJ (D.int .i64) a0)::c1__c) []=some (D.bool r,[]))(c1__l:lends c1__f=false)(n:Nat): ∀(k:Int) (o0_:AA) (c0_:AL) (r:Bool×AA),Br c1_ n k o0_ c0_=some r→Y.call 107 [D.int .i64 k,D.cptr [D.sl 27 (AJ Ac c0_)],D.cptr [D.clo c1__f c1__c],D.vw [100000] 0 0,D.ocl true 107 [D.cptr [D.sl 27 (AJ Ac c0_)],D.cptr [D.clo c1__f c1__c],D.vw [100000] 0 0,D.undef]] [D.box [D.own 3 (AJ (D.int .i64) o0_)]]=some (D.bool r.1,[D.box [D.own 3 (AJ (D.int .i64) r.2)]]):=by
 induction n with
 |zero=>intro k o0_ c0_ r h;exact absurd h (by rw [Br];exact fun e=>by cases e)
 |succ n ih=>intro k o0_ c0_ r h;rw [Br]at h;exact RV (Br c1_ n) k o0_ c0_ c1_ c1__f c1__c ih c1__h c1__l h
theorem TC(k:Int)(o0_:AA)(c0_:AL)(c1_:AA→Option Bool)(c1__f:FuncId)(c1__c:List D)(c1__h: ∀(a0:AA) (r:Bool),c1_ a0=some r→Y.call c1__f (D.sl 3 (AJ (D.int .i64) a0)::c1__c) []=some (D.bool r,[]))(c1__l:lends c1__f=false){r:Bool×AA}(h:O9 k o0_ c0_ c1_=some r):Y.call 107 [D.int .i64 k,D.cptr [D.sl 27 (AJ Ac c0_)],D.cptr [D.clo c1__f c1__c],D.vw [100000] 0 0,D.ocl true 107 [D.cptr [D.sl 27 (AJ Ac c0_)],D.cptr [D.clo c1__f c1__c],D.vw [100000] 0 0,D.undef]] [D.box [D.own 3 (AJ (D.int .i64) o0_)]]=some (D.bool r.1,[D.box [D.own 3 (AJ (D.int .i64) r.2)]]):=RX c1_ c1__f c1__c c1__h c1__l 1000000 k o0_ c0_ r h
noncomputable def JG(lists:AL)(good:AA→Option Bool):Option (AA×Bool):= ck (0≤(lists.length:Int)∧(lists.length:Int)<1099511627776)<| (O9 (0:Int) (List.replicate lists.length 0) lists good).bind fun Qr=> if Qr.1=true then some (Qr.2,true) else some ([],false)
def k75:SC:= .seq (.ops [oX 2 (.box 22 (tK 0)) 0,oX 3 (.box 52 (tK 1)) 0,oX 4 CG 27,oX 5 BX 4]) (.seq (.ops [oL 8 22 2 22,oN 9 8 22,oX 10 (.makeSlice 27 (tK 9) (tK 9)) 27,oX 6 (.alloc 27) 0,oS 27 6 10]) (.seq (.ops [oX 7 (.alloc 87) 0]) (.seq (.ops [oX 11 (.makeFunc (Fn.func 107) #[] #[(tK 2),(tK 3),(tK 6),(tK 7)]) 3000012,⟨none,(.store 87 (tK 7) (tK 11)),900010,none⟩]) (.seq (.seq (.ops [oL 12 87 7 87,oX 13 (.call ⟨(.value (tK 12)), #[(iK 0)], #[3]⟩) 4,oX 14 (.unOp .not 4 (tK 13)) 4]) (.cond (tK 14) (.seq (.ops [oX 4 CG 27,oX 5 BX 4]) .ret) .skip)) (.seq (.ops [oL 15 27 6 27,oA 4 15 27,oX 5 (.assign Gx) 4]) .ret)))))
theorem A8L:Tryz.f75.body.map (BI lends)=some k75:=by kernel_rfl
theorem ALF:BR Tryz.f75 2=true:=by kernel_rfl
theorem c75{a l:List D}{r:D×List D}(h:BU Y.env k75 (Du Ab l.length [ResultVar.tmp 4,ResultVar.tmp 5] r) (entry a l))(ha:a.length=2):Y.call 75 a l=some r:=
 AP (Y:=Y) rfl Tryz.func75 (ha▸ALF) A8L h
theorem PN(lists:AL)(good:AA→Option Bool)(good_f:FuncId)(good_c:List D)(good_h: ∀(a0:AA) (r:Bool),good a0=some r→Y.call good_f (D.sl 3 (AJ (D.int .i64) a0)::good_c) []=some (D.bool r,[]))(good_l:lends good_f=false){r:AA×Bool}(h:JG lists good=some r):Y.call 75 [D.sl 27 (AJ Ac lists),D.clo good_f good_c] []=some (D.tup [D.own 3 (AJ (D.int .i64) r.1),D.bool r.2],[]):=by
 refine c75 ?_ rfl;unfold k75;unfold JG at h;obtain⟨e1,h⟩:=DL h;obtain⟨Qr,hl2,h⟩:=AQ h;have c2:=TC (0:Int) (List.replicate lists.length 0) lists good good_f good_c good_h good_l hl2;rcases iS h with⟨e3,h⟩|⟨e3,h⟩
 ·cases h;simp (maxDischargeDepth:=9) only [↓AB,AC,↓reduceIte,Nat.reduceEqDiff,Nat.reduceLT,Nat.reduceLeDiff,Nat.reduceAdd,Nat.reduceMod,Nat.reduceDiv,Nat.reducePow,Nat.reduceSub,e1.1,e1.2,c2,e3]
 ·have e3f:Qr.1=false:=Gf.mpr e3;cases h;simp (maxDischargeDepth:=9) only [↓AB,AC,↓reduceIte,Nat.reduceEqDiff,Nat.reduceLT,Nat.reduceLeDiff,Nat.reduceAdd,Nat.reduceMod,Nat.reduceDiv,Nat.reducePow,Nat.reduceSub,e1.1,e1.2,c2,e3f]<;>(repeat' apply A7)<;>first|rfl|exact⟨_,rfl⟩|exact⟨_,_,rfl⟩|simp [AJ,AU]
noncomputable def I6(sets numbers:AA)(out:AL)(IL:Int):Option ((AL×Int)⊕(AL)):= if IL<(numbers.length:Int)then ck (0≤IL∧IL.toNat<numbers.length)<| ck (0≤(numbers.getD IL.toNat default)∧(numbers.getD IL.toNat default).toNat<sets.length)<| (Ms (sets.getD ((numbers.getD IL.toNat default).toNat) default)).bind fun Nn=> ck (out.length+1<1099511627776)<| some (Sum.inl ((out++[Nn]),IntKind.i64.wrap (IL+1))) else some (Sum.inr out)
noncomputable def OW(sets numbers:AA)(v:AL×Int):Option (AL):=Fv (fun v=>I6 sets numbers v.1 v.2) v
noncomputable def Od(sets numbers:AA):Option (AL):= (OW sets numbers ([],0)).bind fun A8=> some A8
def jq:SC:= .seq (.ops [oB 11 .lss 3 (tK 10) (tK 9) 3 0]) (.seq (.cond (tK 11) .skip (.exit 0)) (.seq (.block 1 (.seq (.ops [oI 12 27 8 10,oL 13 3 12 3,oA 7 13 3]) (.ops [oM 14 5 22,oM 15 0 27,oM 16 7 3,oI 17 27 15 16,oL 18 3 17 3,oC 19 66 [(tK 18)] [3] 27,oX 20 (.buildSlice 22 1 #[(0,(tK 19))]) 22,oX 21 (.call ⟨(.builtin .append), #[(tK 14),(tK 20)], #[22,22]⟩) 22,oA 5 21 22]))) (.ops [oB 22 .add 3 (tK 10) (iK 1) 3 3,oM 10 22 3])))
def A17:SC:= .loop jq
def k45:SC:= .seq (.ops [oX 4 CG 22]) (.seq (.ops [oX 5 CG 22]) (.seq (.seq (.ops [oM 8 1 27,oN 9 8 27,oX 10 (.move (iK 0)) 3]) (.block 0 A17)) (.seq (.ops [oM 23 5 22,oA 4 23 22]) .ret)))
theorem A8M:Tryz.f45.body.map (BI lends)=some k45:=by kernel_rfl
theorem ALH:BR Tryz.f45 2=true:=by kernel_rfl
theorem c45{a l:List D}{r:D×List D}(h:BU Y.env k45 (Du Ab l.length [ResultVar.tmp 4] r) (entry a l))(ha:a.length=2):Y.call 45 a l=some r:=
 AP (Y:=Y) rfl Tryz.func45 (ha▸ALH) A8M h
def I7(sets numbers:AA)(out:AL)(IL:Int)(s:St):Prop:=s.v 0=D.sl 3 (AJ (D.int .i64) sets)∧s.v 5=D.own 27 (AJ IX out)∧s.v 8=D.sl 3 (AJ (D.int .i64) numbers)∧s.v 9=D.int .i64 (numbers.length:Int)∧s.v 10=D.int .i64 IL
def MP(sets numbers:AA)(r:AL)(ex:Ex)(s:St):Prop:=ex= .exit 0∧s.v 5=D.own 27 (AJ IX r)
theorem YA(sets numbers:AA){v:AL×Int}{s:St}{r:AL}(h:OW sets numbers v=some r)(hM:I7 sets numbers v.1 v.2 s):BU Y.env A17 (MP sets numbers r) s:=by
 unfold OW at h;refine Ap (c:=jq) (fun v=>I6 sets numbers v.1 v.2) (fun v s=>I7 sets numbers v.1 v.2 s) (MP sets numbers) ?_ h hM;clear h hM s v r;intro v s o hM h;obtain⟨out,IL⟩:=v;dsimp only at h hM;unfold I6 at h;unfold I7 at hM;obtain⟨m0,m1,m2,m3,m4⟩:=hM;unfold jq;rcases iS h with⟨e1,h⟩|⟨e1,h⟩
 ·obtain⟨e2,e3,h⟩:=Fy h;obtain⟨Nn,hl4,h⟩:=AQ h;have c4:=Rl (sets.getD ((numbers.getD IL.toNat default).toNat) default) hl4;obtain⟨e5,h⟩:=DL h;cases h;simp (maxDischargeDepth:=9) only [↓AB,AC,↓reduceIte,Nat.reduceEqDiff,Nat.reduceLT,Nat.reduceLeDiff,Nat.reduceAdd,m0,m1,m2,m3,m4,e1,e2.1,e2.2,e3.1,e3.2,c4,e5,I7,Dw]
 ·cases h;simp (maxDischargeDepth:=9) only [↓AB,AC,↓reduceIte,Nat.reduceEqDiff,Nat.reduceLT,m1,m3,m4,e1,I7,MP,Ir]
theorem TD(sets numbers:AA){r:AL}(h:Od sets numbers=some r):Y.call 45 [D.sl 3 (AJ (D.int .i64) sets),D.sl 3 (AJ (D.int .i64) numbers)] []=some (D.own 27 (AJ IX r),[]):=by
 refine c45 ?_ rfl;unfold k45;unfold Od at h;obtain⟨A8,hl2,h⟩:=AQ h;try dsimp only at h
 simp (maxDischargeDepth:=9) only [↓AB,AC,↓reduceIte,Nat.reduceEqDiff,Nat.reduceLT];refine AZ (YA sets numbers hl2 ?_) ?_
 ·simp (maxDischargeDepth:=9) only [BC,Ce,↓reduceIte,Nat.reduceEqDiff,Nat.reduceLT,I7]<;>(repeat' apply A7)<;>first|rfl|exact⟨_,rfl⟩|exact⟨_,_,rfl⟩|simp [AJ,AU]
 ·intro ex2 s2 hX2;unfold MP at hX2;obtain⟨rfl,n2_0⟩:=hX2;cases h;simp (maxDischargeDepth:=9) only [↓AB,AC,↓reduceIte,Nat.reduceEqDiff,Nat.reduceLT,n2_0]
noncomputable def KI(l:AA)(n_ k:Int):Option ((Int)⊕(Int)):= if k<(l.length:Int)then ck (0≤k∧k.toNat<l.length)<| if(l.getD k.toNat default)<n_ then some (Sum.inl (IntKind.i64.wrap (k+1))) else some (Sum.inr k) else some (Sum.inr k)
noncomputable def PO(l:AA)(n_ v:Int):Option (Int):=Fv (fun v=>KI l n_ v) v
noncomputable def Tm(l:AA)(n_:Int):Option ((AA)⊕(AA)):= (PO l n_ 0).bind fun A8=> if A8<(l.length:Int)then ck (0≤A8∧A8.toNat<l.length)<| if(l.getD A8.toNat default)=n_ then some (Sum.inl l) else ck (0≤A8)<| ck (A8.toNat≤l.length)<| ck (0+((l.take A8.toNat).drop 0).length<1099511627776)<| ck (((l.take A8.toNat).drop 0).length+1<1099511627776)<| ck ((((l.take A8.toNat).drop 0)++[n_]).length+((l.take l.length).drop A8.toNat).length<1099511627776)<| some (Sum.inr ((((l.take A8.toNat).drop 0)++[n_])++((l.take l.length).drop A8.toNat))) else ck (0≤A8)<| ck (A8.toNat≤l.length)<| ck (0+((l.take A8.toNat).drop 0).length<1099511627776)<| ck (((l.take A8.toNat).drop 0).length+1<1099511627776)<| ck ((((l.take A8.toNat).drop 0)++[n_]).length+((l.take l.length).drop A8.toNat).length<1099511627776)<| some (Sum.inr ((((l.take A8.toNat).drop 0)++[n_])++((l.take l.length).drop A8.toNat)))
def jr:SC:= .seq (.seq (.ops [oM 7 5 3,oM 8 0 27,oN 9 8 27,oB 10 .lss 3 (tK 7) (tK 9) 3 4,oM 11 10 4,⟨some 12,.move (tK 0),27,(some (some 11,true))⟩,⟨some 13,.move (tK 5),3,(some (some 11,true))⟩,⟨some 14,.indexAddr 27 (tK 12) (tK 13),0,(some (some 11,true))⟩,⟨some 15,.load 3 (tK 14),3,(some (some 11,true))⟩,⟨some 16,.move (tK 1),3,(some (some 11,true))⟩,⟨some 17,.binOp .lss 3 (tK 15) (tK 16) 3,4,(some (some 11,true))⟩,oX 18 (.pick (tK 11) (tK 17) Mq) 4]) (.cond (tK 18) .skip (.exit 0))) (.block 1 (.ops [oM 19 5 3,oB 20 .add 3 (tK 19) (iK 1) 3 3,oA 5 20 3]))
def A18:SC:= .loop jr
def k58:SC:= .seq (.ops [oX 4 CG 27]) (.seq (.ops [oX 5 (.assign (iK 0)) 3]) (.seq (.block 0 A18) (.seq (.seq (.ops [oM 21 5 3,oM 22 0 27,oN 23 22 27,oB 24 .lss 3 (tK 21) (tK 23) 3 4,oM 25 24 4,⟨some 26,.move (tK 0),27,(some (some 25,true))⟩,⟨some 27,.move (tK 5),3,(some (some 25,true))⟩,⟨some 28,.indexAddr 27 (tK 26) (tK 27),0,(some (some 25,true))⟩,⟨some 29,.load 3 (tK 28),3,(some (some 25,true))⟩,⟨some 30,.move (tK 1),3,(some (some 25,true))⟩,⟨some 31,.binOp .eql 3 (tK 29) (tK 30) 3,4,(some (some 25,true))⟩,oX 32 (.pick (tK 25) (tK 31) Mq) 4]) (.cond (tK 32) (.seq (.ops [oM 33 0 27,oA 4 33 27]) .ret) .skip)) (.seq (.ops [oX 34 (.buildSlice 27 0 #[]) 27,oM 35 0 27,oM 36 5 3,oX 37 (.slice 27 (tK 35) none (some (tK 36)) none) 27,oX 38 (.call ⟨(.builtin .append), #[(tK 34),(tK 37)], #[27,27]⟩) 27,oA 6 38 27]) (.seq (.ops [oM 39 6 27,oM 40 1 3,oX 41 (.buildSlice 27 1 #[(0,(tK 40))]) 27,oX 42 (.call ⟨(.builtin .append), #[(tK 39),(tK 41)], #[27,27]⟩) 27,oA 6 42 27]) (.seq (.ops [oM 43 6 27,oM 44 0 27,oM 45 5 3,oX 46 (.slice 27 (tK 44) (some (tK 45)) none none) 27,oX 47 (.call ⟨(.builtin .append), #[(tK 43),(tK 46)], #[27,27]⟩) 27,oA 4 47 27]) .ret))))))
theorem A8N:Tryz.f58.body.map (BI lends)=some k58:=by kernel_rfl
theorem ALJ:BR Tryz.f58 2=true:=by kernel_rfl
theorem c58{a l:List D}{r:D×List D}(h:BU Y.env k58 (Du Ab l.length [ResultVar.tmp 4] r) (entry a l))(ha:a.length=2):Y.call 58 a l=some r:=
 AP (Y:=Y) rfl Tryz.func58 (ha▸ALJ) A8N h
def Ih(l:AA)(n_ k:Int)(s:St):Prop:=s.v 0=D.sl 3 (AJ (D.int .i64) l)∧s.v 1=D.int .i64 n_∧s.v 5=D.int .i64 k
def MQ(l:AA)(n_ r:Int)(ex:Ex)(s:St):Prop:=ex= .exit 0∧s.v 0=D.sl 3 (AJ (D.int .i64) l)∧s.v 1=D.int .i64 n_∧s.v 5=D.int .i64 r
theorem dF(l:AA)(n_:Int){v:Int}{s:St}{r:Int}(h:PO l n_ v=some r)(hM:Ih l n_ v s):BU Y.env A18 (MQ l n_ r) s:=by
 unfold PO at h;refine Ap (c:=jr) (fun v=>KI l n_ v) (fun v s=>Ih l n_ v s) (MQ l n_) ?_ h hM;clear h hM s v r;intro k s o hM h;unfold KI at h;unfold Ih at hM;obtain⟨m0,m1,m2⟩:=hM;unfold jr;rcases iS h with⟨e1,h⟩|⟨e1,h⟩
 ·obtain⟨e2,h⟩:=DL h;rcases iS h with⟨e3,h⟩|⟨e3,h⟩
  ·cases h;simp (maxDischargeDepth:=9) only [↓AB,AC,↓reduceIte,Nat.reduceEqDiff,Nat.reduceLT,m0,m1,m2,e1,e2.1,e2.2,e3,Ih,Dw]
  ·cases h;simp (maxDischargeDepth:=9) only [↓AB,AC,↓reduceIte,Nat.reduceEqDiff,Nat.reduceLT,m0,m1,m2,e1,e2.1,e2.2,e3,Ih,MQ,Ir]
 ·cases h;simp (maxDischargeDepth:=9) only [↓AB,AC,↓reduceIte,Nat.reduceEqDiff,Nat.reduceLT,m0,m1,m2,e1,Ih,MQ,Ir]
theorem jv(l:AA)(n_:Int){r:(AA)⊕(AA)}(h:Tm l n_=some r):Y.call 58 [D.sl 3 (AJ (D.int .i64) l),D.int .i64 n_] []=some (match (generalizing:=false) r with| .inl q=>(D.sl 3 (AJ (D.int .i64) q),[])| .inr q=>(D.own 3 (AJ (D.int .i64) q),[])):=by
 refine c58 ?_ rfl;unfold k58;unfold Tm at h;obtain⟨A8,hl2,h⟩:=AQ h;try dsimp only at h
 simp (maxDischargeDepth:=9) only [↓AB,AC,↓reduceIte,Nat.reduceEqDiff,Nat.reduceLT];refine AZ (dF l n_ hl2 ?_) ?_
 ·simp (maxDischargeDepth:=9) only [BC,Ce,↓reduceIte,Nat.reduceEqDiff,Nat.reduceLT,Ih]
 ·intro ex2 s2 hX2;unfold MQ at hX2;obtain⟨rfl,n2_0,n2_1,n2_2⟩:=hX2;rcases iS h with⟨e3,h⟩|⟨e3,h⟩
  ·obtain⟨e4,h⟩:=DL h;rcases iS h with⟨e5,h⟩|⟨e5,h⟩
   ·cases h;simp (maxDischargeDepth:=9) only [↓AB,AC,↓reduceIte,Nat.reduceEqDiff,Nat.reduceLT,n2_0,n2_1,n2_2,e3,e4.1,e4.2,decide_eq_true e5]
   ·obtain⟨e6,e7,e8,e9,h⟩:=bY h;obtain⟨e10,h⟩:=DL h;cases h;simp (maxDischargeDepth:=9) only [↓AB,AC,↓reduceIte,Nat.reduceEqDiff,Nat.reduceLT,Nat.reduceLeDiff,Nat.reduceAdd,n2_0,n2_1,n2_2,e3,e4.1,e4.2,e5,e7,e8,e9,e10]
  ·obtain⟨e4,e5,e6,e7,h⟩:=bY h;obtain⟨e8,h⟩:=DL h;cases h;simp (maxDischargeDepth:=9) only [↓AB,AC,↓reduceIte,Nat.reduceEqDiff,Nat.reduceLT,Nat.reduceLeDiff,Nat.reduceAdd,n2_0,n2_1,n2_2,e3,e4,e5,e6,e7,e8]
noncomputable def FH(sets x_:AA)(CZ:Int)(out1:AA)(dG:Int):Option ((AA×Int)⊕(AA)):= if dG<(sets.length:Int)then ck (0≤dG∧dG.toNat<sets.length)<| if(x_.getD CZ.toNat default)=(sets.getD dG.toNat default)then ck (out1.length+1<1099511627776)<| some (Sum.inl ((out1++[dG]),IntKind.i64.wrap (dG+1))) else some (Sum.inl (out1,IntKind.i64.wrap (dG+1))) else some (Sum.inr out1)
noncomputable def Jp(sets x_:AA)(CZ:Int)(v:AA×Int):Option (AA):=Fv (fun v=>FH sets x_ CZ v.1 v.2) v
noncomputable def FI(sets x_ out:AA)(CZ:Int):Option ((AA×Int)⊕(AA)):= if CZ<(x_.length:Int)then ck (0≤CZ∧CZ.toNat<x_.length)<| (Jp sets x_ CZ (out,0)).bind fun A8=> some (Sum.inl (A8,IntKind.i64.wrap (CZ+1))) else some (Sum.inr out)
noncomputable def MR(sets x_:AA)(v:AA×Int):Option (AA):=Fv (fun v=>FI sets x_ v.1 v.2) v
noncomputable def Np(sets x_:AA):Option (AA):= (MR sets x_ ([],0)).bind fun Ad=> ck (Ad.length<1099511627776)<| some (Bt Ad)
def jw:SC:= .seq (.ops [oB 19 .lss 3 (tK 18) (tK 17) 3 0]) (.seq (.cond (tK 19) .skip (.exit 2)) (.seq (.block 3 (.seq (.ops [oM 20 18 3,oI 21 27 16 18,oL 22 3 21 3,oA 8 20 3,oA 9 22 3]) (.seq (.ops [oM 23 7 3,oM 24 9 3,oB 25 .eql 3 (tK 23) (tK 24) 3 4]) (.cond (tK 25) (.ops [oM 26 5 27,oM 27 8 3,oX 28 (.buildSlice 27 1 #[(0,(tK 27))]) 27,oX 29 (.call ⟨(.builtin .append), #[(tK 26),(tK 28)], #[27,27]⟩) 27,oA 5 29 27]) .skip)))) (.ops [oB 30 .add 3 (tK 18) (iK 1) 3 3,oM 18 30 3])))
def A19:SC:= .loop jw
def jy:SC:= .seq (.ops [oB 13 .lss 3 (tK 12) (tK 11) 3 0]) (.seq (.cond (tK 13) .skip (.exit 0)) (.seq (.block 1 (.seq (.ops [oI 14 27 10 12,oL 15 3 14 3,oA 7 15 3]) (.seq (.ops [oM 16 0 27,oN 17 16 27,oX 18 (.move (iK 0)) 3]) (.block 2 A19)))) (.ops [oB 31 .add 3 (tK 12) (iK 1) 3 3,oM 12 31 3])))
def A1A:SC:= .loop jy
def k60:SC:= .seq (.ops [oX 4 CG 27]) (.seq (.ops [oX 5 CG 27]) (.seq (.seq (.ops [oM 10 1 27,oN 11 10 27,oX 12 (.move (iK 0)) 3]) (.block 0 A1A)) (.seq (.ops [oM 32 5 27,oC 33 90 [(tK 32)] [27] 27,oA 4 33 27]) .ret)))
theorem A8O:Tryz.f60.body.map (BI lends)=some k60:=by kernel_rfl
theorem ALM:BR Tryz.f60 2=true:=by kernel_rfl
theorem c60{a l:List D}{r:D×List D}(h:BU Y.env k60 (Du Ab l.length [ResultVar.tmp 4] r) (entry a l))(ha:a.length=2):Y.call 60 a l=some r:=
 AP (Y:=Y) rfl Tryz.func60 (ha▸ALM) A8O h
def ED(sets x_:AA)(CZ:Int)(out1:AA)(dG:Int)(s:St):Prop:=s.v 0=D.sl 3 (AJ (D.int .i64) sets)∧s.v 5=D.own 3 (AJ (D.int .i64) out1)∧s.v 7=D.int .i64 (x_.getD CZ.toNat default)∧s.v 10=D.sl 3 (AJ (D.int .i64) x_)∧s.v 11=D.int .i64 (x_.length:Int)∧s.v 12=D.int .i64 CZ∧s.v 16=D.sl 3 (AJ (D.int .i64) sets)∧s.v 17=D.int .i64 (sets.length:Int)∧s.v 18=D.int .i64 dG
def KJ(sets x_:AA)(CZ:Int)(r:AA)(ex:Ex)(s:St):Prop:=ex= .exit 2∧s.v 0=D.sl 3 (AJ (D.int .i64) sets)∧s.v 5=D.own 3 (AJ (D.int .i64) r)∧s.v 10=D.sl 3 (AJ (D.int .i64) x_)∧s.v 11=D.int .i64 (x_.length:Int)∧s.v 12=D.int .i64 CZ
theorem Vv(sets x_:AA)(CZ:Int){v:AA×Int}{s:St}{r:AA}(h:Jp sets x_ CZ v=some r)(hM:ED sets x_ CZ v.1 v.2 s):BU Y.env A19 (KJ sets x_ CZ r) s:=by
 unfold Jp at h;refine Ap (c:=jw) (fun v=>FH sets x_ CZ v.1 v.2) (fun v s=>ED sets x_ CZ v.1 v.2 s) (KJ sets x_ CZ) ?_ h hM;clear h hM s v r;intro v s o hM h;obtain⟨out1,dG⟩:=v;dsimp only at h hM;unfold FH at h;unfold ED at hM;obtain⟨m0,m1,m2,m3,m4,m5,m6,m7,m8⟩:=hM;unfold jw;rcases iS h with⟨e3,h⟩|⟨e3,h⟩
 ·obtain⟨e4,h⟩:=DL h;rcases iS h with⟨e5,h⟩|⟨e5,h⟩
  ·obtain⟨e6,h⟩:=DL h;cases h;simp (maxDischargeDepth:=9) only [↓AB,AC,↓reduceIte,Nat.reduceEqDiff,Nat.reduceLT,Nat.reduceLeDiff,Nat.reduceAdd,m0,m1,m2,m3,m4,m5,m6,m7,m8,e3,e4.1,e4.2,decide_eq_true e5,e6,ED,Dw]
  ·cases h;simp (maxDischargeDepth:=9) only [↓AB,AC,↓reduceIte,Nat.reduceEqDiff,Nat.reduceLT,m0,m1,m2,m3,m4,m5,m6,m7,m8,e3,e4.1,e4.2,e5,ED,Dw]
 ·cases h;simp (maxDischargeDepth:=9) only [↓AB,AC,↓reduceIte,Nat.reduceEqDiff,Nat.reduceLT,m0,m1,m3,m4,m5,m7,m8,e3,ED,KJ,Ir]
def FJ(sets x_ out:AA)(CZ:Int)(s:St):Prop:=s.v 0=D.sl 3 (AJ (D.int .i64) sets)∧s.v 5=D.own 3 (AJ (D.int .i64) out)∧s.v 10=D.sl 3 (AJ (D.int .i64) x_)∧s.v 11=D.int .i64 (x_.length:Int)∧s.v 12=D.int .i64 CZ
def KL(sets x_:AA)(r:AA)(ex:Ex)(s:St):Prop:=ex= .exit 0∧s.v 5=D.own 3 (AJ (D.int .i64) r)
theorem Vw(sets x_:AA){v:AA×Int}{s:St}{r:AA}(h:MR sets x_ v=some r)(hM:FJ sets x_ v.1 v.2 s):BU Y.env A1A (KL sets x_ r) s:=by
 unfold MR at h;refine Ap (c:=jy) (fun v=>FI sets x_ v.1 v.2) (fun v s=>FJ sets x_ v.1 v.2 s) (KL sets x_) ?_ h hM;clear h hM s v r;intro v s o hM h;obtain⟨out,CZ⟩:=v;dsimp only at h hM;unfold FI at h;unfold FJ at hM;obtain⟨m0,m1,m2,m3,m4⟩:=hM;unfold jy;rcases iS h with⟨e1,h⟩|⟨e1,h⟩
 ·obtain⟨e2,h⟩:=DL h;obtain⟨A8,hl4,h⟩:=AQ h;try dsimp only at h
  simp (maxDischargeDepth:=9) only [↓AB,AC,↓reduceIte,Nat.reduceEqDiff,Nat.reduceLT,m0,m2,m3,m4,e1,e2.1,e2.2];refine AZ (Vv sets x_ CZ hl4 ?_) ?_
  ·simp (maxDischargeDepth:=9) only [BC,↓reduceIte,Nat.reduceEqDiff,m0,m1,m2,m3,m4,ED]
  ·intro ex4 s4 hX4;unfold KJ at hX4;obtain⟨rfl,n4_0,n4_1,n4_2,n4_3,n4_4⟩:=hX4;cases h;simp (maxDischargeDepth:=9) only [↓AB,AC,↓reduceIte,Nat.reduceEqDiff,Nat.reduceLT,n4_0,n4_1,n4_2,n4_3,n4_4,FJ,Dw]
 ·cases h;simp (maxDischargeDepth:=9) only [↓AB,AC,↓reduceIte,Nat.reduceEqDiff,Nat.reduceLT,m1,m3,m4,e1,FJ,KL,Ir]
theorem X6(sets x_:AA){r:AA}(h:Np sets x_=some r):Y.call 60 [D.sl 3 (AJ (D.int .i64) sets),D.sl 3 (AJ (D.int .i64) x_)] []=some (D.own 3 (AJ (D.int .i64) r),[]):=by
 refine c60 ?_ rfl;unfold k60;unfold Np at h;obtain⟨Ad,hl2,h⟩:=AQ h;try dsimp only at h
 simp (maxDischargeDepth:=9) only [↓AB,AC,↓reduceIte,Nat.reduceEqDiff,Nat.reduceLT];refine AZ (Vw sets x_ hl2 ?_) ?_
 ·simp (maxDischargeDepth:=9) only [BC,Ce,↓reduceIte,Nat.reduceEqDiff,Nat.reduceLT,FJ]<;>(repeat' apply A7)<;>first|rfl|exact⟨_,rfl⟩|exact⟨_,_,rfl⟩|simp [AJ,AU]
 ·intro ex2 s2 hX2;unfold KL at hX2;obtain⟨rfl,n2_0⟩:=hX2;obtain⟨e3,h⟩:=DL h;have c4:=tQ Ad e3;cases h;simp (maxDischargeDepth:=9) only [↓AB,AC,↓reduceIte,Nat.reduceEqDiff,Nat.reduceLT,Nat.reduceAdd,n2_0,c4]
noncomputable def En(l:AL)(x_:AA)(k:Int):Option ((Int)⊕(Int)):= if k<(l.length:Int)then ck (0≤k∧k.toNat<l.length)<| ck ((l.getD k.toNat default).length<1099511627776)<| ck ((l.getD k.toNat default).length=x_.length)<| ck (Ib (l.getD k.toNat default)=true)<| ck (Ib x_=true)<| if(cmpL (l.getD k.toNat default) x_)<0 then some (Sum.inl (IntKind.i64.wrap (k+1))) else some (Sum.inr k) else some (Sum.inr k)
noncomputable def NP(l:AL)(x_:AA)(v:Int):Option (Int):=Fv (fun v=>En l x_ v) v
noncomputable def N8(l:AL)(x_:AA):Option ((AL)⊕(AL)):= (NP l x_ 0).bind fun A8=> if A8<(l.length:Int)then ck (0≤A8∧A8.toNat<l.length)<| (Qp (l.getD A8.toNat default) x_).bind fun RU=> if RU=true then some (Sum.inl l) else ck (0≤A8)<| ck (A8.toNat≤l.length)<| ck (0+((l.take A8.toNat).drop 0).length<1099511627776)<| ck (((l.take A8.toNat).drop 0).length+1<1099511627776)<| ck ((((l.take A8.toNat).drop 0)++[x_]).length+((l.take l.length).drop A8.toNat).length<1099511627776)<| some (Sum.inr ((((l.take A8.toNat).drop 0)++[x_])++((l.take l.length).drop A8.toNat))) else ck (0≤A8)<| ck (A8.toNat≤l.length)<| ck (0+((l.take A8.toNat).drop 0).length<1099511627776)<| ck (((l.take A8.toNat).drop 0).length+1<1099511627776)<| ck ((((l.take A8.toNat).drop 0)++[x_]).length+((l.take l.length).drop A8.toNat).length<1099511627776)<| some (Sum.inr ((((l.take A8.toNat).drop 0)++[x_])++((l.take l.length).drop A8.toNat)))
def kC:SC:= .seq (.seq (.ops [oM 7 5 3,oM 8 0 22,oN 9 8 22,oB 10 .lss 3 (tK 7) (tK 9) 3 4,oM 11 10 4,⟨some 12,.move (tK 0),22,(some (some 11,true))⟩,⟨some 13,.move (tK 5),3,(some (some 11,true))⟩,⟨some 14,.indexAddr 22 (tK 12) (tK 13),0,(some (some 11,true))⟩,⟨some 15,.load 27 (tK 14),27,(some (some 11,true))⟩,⟨some 16,.move (tK 1),27,(some (some 11,true))⟩,⟨some 17,.call ⟨(.value (.func 55)), #[(tK 15),(tK 16)], #[27,27]⟩,3,(some (some 11,true))⟩,⟨some 18,.binOp .lss 3 (tK 17) (iK 0) 3,4,(some (some 11,true))⟩,oX 19 (.pick (tK 11) (tK 18) Mq) 4]) (.cond (tK 19) .skip (.exit 0))) (.block 1 (.ops [oM 20 5 3,oB 21 .add 3 (tK 20) (iK 1) 3 3,oA 5 21 3]))
def A1B:SC:= .loop kC
def k59:SC:= .seq (.ops [oX 4 CG 22]) (.seq (.ops [oX 5 (.assign (iK 0)) 3]) (.seq (.block 0 A1B) (.seq (.seq (.ops [oM 22 5 3,oM 23 0 22,oN 24 23 22,oB 25 .lss 3 (tK 22) (tK 24) 3 4,oM 26 25 4,⟨some 27,.move (tK 0),22,(some (some 26,true))⟩,⟨some 28,.move (tK 5),3,(some (some 26,true))⟩,⟨some 29,.indexAddr 22 (tK 27) (tK 28),0,(some (some 26,true))⟩,⟨some 30,.load 27 (tK 29),27,(some (some 26,true))⟩,⟨some 31,.move (tK 1),27,(some (some 26,true))⟩,⟨some 32,.call ⟨(.value (.func 89)), #[(tK 30),(tK 31)], #[27,27]⟩,4,(some (some 26,true))⟩,oX 33 (.pick (tK 26) (tK 32) Mq) 4]) (.cond (tK 33) (.seq (.ops [oM 34 0 22,oA 4 34 22]) .ret) .skip)) (.seq (.ops [oX 35 (.buildSlice 22 0 #[]) 22,oM 36 0 22,oM 37 5 3,oX 38 (.slice 22 (tK 36) none (some (tK 37)) none) 22,oX 39 (.call ⟨(.builtin .append), #[(tK 35),(tK 38)], #[22,22]⟩) 22,oA 6 39 22]) (.seq (.ops [oM 40 6 22,oM 41 1 27,oX 42 (.buildSlice 22 1 #[(0,(tK 41))]) 22,oX 43 (.call ⟨(.builtin .append), #[(tK 40),(tK 42)], #[22,22]⟩) 22,oA 6 43 22]) (.seq (.ops [oM 44 6 22,oM 45 0 22,oM 46 5 3,oX 47 (.slice 22 (tK 45) (some (tK 46)) none none) 22,oX 48 (.call ⟨(.builtin .append), #[(tK 44),(tK 47)], #[22,22]⟩) 22,
 oA 4 48 22]) .ret))))))
theorem A8P:Tryz.f59.body.map (BI lends)=some k59:=by kernel_rfl
theorem ALO:BR Tryz.f59 2=true:=by kernel_rfl
theorem c59{a l:List D}{r:D×List D}(h:BU Y.env k59 (Du Ab l.length [ResultVar.tmp 4] r) (entry a l))(ha:a.length=2):Y.call 59 a l=some r:=
 AP (Y:=Y) rfl Tryz.func59 (ha▸ALO) A8P h
def Eo(l:AL)(x_:AA)(k:Int)(s:St):Prop:=s.v 0=D.sl 27 (AJ Ac l)∧s.v 1=D.sl 3 (AJ (D.int .i64) x_)∧s.v 5=D.int .i64 k
def Iz(l:AL)(x_:AA)(r:Int)(ex:Ex)(s:St):Prop:=ex= .exit 0∧s.v 0=D.sl 27 (AJ Ac l)∧s.v 1=D.sl 3 (AJ (D.int .i64) x_)∧s.v 5=D.int .i64 r
theorem X7(l:AL)(x_:AA){v:Int}{s:St}{r:Int}(h:NP l x_ v=some r)(hM:Eo l x_ v s):BU Y.env A1B (Iz l x_ r) s:=by
 unfold NP at h;refine Ap (c:=kC) (fun v=>En l x_ v) (fun v s=>Eo l x_ v s) (Iz l x_) ?_ h hM;clear h hM s v r;intro k s o hM h;unfold En at h;unfold Eo at hM;obtain⟨m0,m1,m2⟩:=hM;unfold kC;rcases iS h with⟨e1,h⟩|⟨e1,h⟩
 ·obtain⟨e2,e3,e4,e5,h⟩:=bY h;obtain⟨e6,h⟩:=DL h;have c7:=Vi (l.getD k.toNat default) x_ e3 e4 e5 e6;rcases iS h with⟨e8,h⟩|⟨e8,h⟩
  ·cases h;simp (maxDischargeDepth:=9) only [↓AB,AC,↓reduceIte,Nat.reduceEqDiff,Nat.reduceLT,Nat.reduceAdd,m0,m1,m2,e1,e2.1,e2.2,c7,e8,Eo,Dw]
  ·cases h;simp (maxDischargeDepth:=9) only [↓AB,AC,↓reduceIte,Nat.reduceEqDiff,Nat.reduceLT,Nat.reduceAdd,m0,m1,m2,e1,e2.1,e2.2,c7,e8,Eo,Iz,Ir]
 ·cases h;simp (maxDischargeDepth:=9) only [↓AB,AC,↓reduceIte,Nat.reduceEqDiff,Nat.reduceLT,m0,m1,m2,e1,Eo,Iz,Ir]
theorem YB(l:AL)(x_:AA){r:(AL)⊕(AL)}(h:N8 l x_=some r):Y.call 59 [D.sl 27 (AJ Ac l),D.sl 3 (AJ (D.int .i64) x_)] []=some (match (generalizing:=false) r with| .inl q=>(D.sl 27 (AJ Ac q),[])| .inr q=>(D.own 27 (AJ Ac q),[])):=by
 refine c59 ?_ rfl;unfold k59;unfold N8 at h;obtain⟨A8,hl2,h⟩:=AQ h;try dsimp only at h
 simp (maxDischargeDepth:=9) only [↓AB,AC,↓reduceIte,Nat.reduceEqDiff,Nat.reduceLT];refine AZ (X7 l x_ hl2 ?_) ?_
 ·simp (maxDischargeDepth:=9) only [BC,Ce,↓reduceIte,Nat.reduceEqDiff,Nat.reduceLT,Eo]
 ·intro ex2 s2 hX2;unfold Iz at hX2;obtain⟨rfl,n2_0,n2_1,n2_2⟩:=hX2;rcases iS h with⟨e3,h⟩|⟨e3,h⟩
  ·obtain⟨e4,h⟩:=DL h;obtain⟨RU,hl5,h⟩:=AQ h;have c5:=UG (l.getD A8.toNat default) x_ hl5;rcases iS h with⟨e6,h⟩|⟨e6,h⟩
   ·cases h;simp (maxDischargeDepth:=9) only [↓AB,AC,↓reduceIte,Nat.reduceEqDiff,Nat.reduceLT,Nat.reduceAdd,n2_0,n2_1,n2_2,e3,e4.1,e4.2,c5,e6]
   ·have e6f:RU=false:=Gf.mpr e6;obtain⟨e7,e8,e9,e10,h⟩:=bY h;obtain⟨e11,h⟩:=DL h;cases h;simp (maxDischargeDepth:=9) only [↓AB,AC,↓reduceIte,Nat.reduceEqDiff,Nat.reduceLT,Nat.reduceLeDiff,Nat.reduceAdd,n2_0,n2_1,n2_2,e3,e4.1,e4.2,c5,e6f,e8,e9,e10,e11]
  ·obtain⟨e4,e5,e6,e7,h⟩:=bY h;obtain⟨e8,h⟩:=DL h;cases h;simp (maxDischargeDepth:=9) only [↓AB,AC,↓reduceIte,Nat.reduceEqDiff,Nat.reduceLT,Nat.reduceLeDiff,Nat.reduceAdd,n2_0,n2_1,n2_2,e3,e4,e5,e6,e7,e8]
noncomputable def FK(labels size:Int)(out:AL)(k Cc:Int)(next1:AL)(a:Int):Option ((AL×Int)⊕(AL)):= if a<labels then (NL (out.getD Cc.toNat default)).bind fun A8Q=> ck (A8Q.length+1<1099511627776)<| ck (next1.length+1<1099511627776)<| some (Sum.inl ((next1++[(A8Q++[a])]),IntKind.i64.wrap (a+1))) else some (Sum.inr next1)
noncomputable def I8(labels size:Int)(out:AL)(k Cc:Int)(v:AL×Int):Option (AL):=Fv (fun v=>FK labels size out k Cc v.1 v.2) v
noncomputable def FM(labels size:Int)(out:AL)(k:Int)(next:AL)(Cc:Int):Option ((AL×Int)⊕(AL)):= if Cc<(out.length:Int)then ck (0≤Cc∧Cc.toNat<out.length)<| if 0<k then ck (0≤IntKind.i64.wrap (k-1)∧(IntKind.i64.wrap (k-1)).toNat<(out.getD Cc.toNat default).length)<| (I8 labels size out k Cc (next,((out.getD Cc.toNat default).getD ((IntKind.i64.wrap (k-1)).toNat) default))).bind fun A8=> some (Sum.inl (A8,IntKind.i64.wrap (Cc+1))) else (I8 labels size out k Cc (next,0)).bind fun A8=> some (Sum.inl (A8,IntKind.i64.wrap (Cc+1))) else some (Sum.inr next)
noncomputable def Jq(labels size:Int)(out:AL)(k:Int)(v:AL×Int):Option (AL):=Fv (fun v=>FM labels size out k v.1 v.2) v
noncomputable def FN(labels size:Int)(out:AL)(k:Int):Option ((AL×Int)⊕(AL)):= if k<size then (Jq labels size out k ([],0)).bind fun Ad=> some (Sum.inl (Ad,IntKind.i64.wrap (k+1))) else some (Sum.inr out)
noncomputable def MS(labels size:Int)(v:AL×Int):Option (AL):=Fv (fun v=>FN labels size v.1 v.2) v
noncomputable def IR(labels size:Int):Option (AL):= (MS labels size ([[]],0)).bind fun LU=> some LU
def kD:SC:= .seq (.seq (.ops [oM 32 11 3,oM 33 0 3,oB 34 .lss 3 (tK 32) (tK 33) 3 4]) (.cond (tK 34) .skip (.exit 4))) (.seq (.block 5 (.ops [oM 37 7 22,oM 38 9 27,oC 39 79 [(tK 38)] [27] 27,oM 40 11 3,oX 41 (.buildSlice 27 1 #[(0,(tK 40))]) 27,oX 42 (.call ⟨(.builtin .append), #[(tK 39),(tK 41)], #[27,27]⟩) 27,oX 43 (.buildSlice 22 1 #[(0,(tK 42))]) 900004,oX 44 (.call ⟨(.builtin .append), #[(tK 37),(tK 43)], #[22,22]⟩) 22,oA 7 44 22])) (.ops [oM 35 11 3,oB 36 .add 3 (tK 35) (iK 1) 3 3,oA 11 36 3]))
def A1C:SC:= .loop kD
def kE:SC:= .seq (.ops [oB 21 .lss 3 (tK 20) (tK 19) 3 0]) (.seq (.cond (tK 21) .skip (.exit 2)) (.seq (.block 3 (.seq (.ops [oI 22 22 18 20,oL 23 27 22 27,oA 9 23 27]) (.seq (.ops [oX 10 (.assign (iK 0)) 3]) (.seq (.seq (.ops [oM 24 6 3,oB 25 .gtr 3 (tK 24) (iK 0) 3 4]) (.cond (tK 25) (.ops [oM 26 9 27,oM 27 6 3,oB 28 .sub 3 (tK 27) (iK 1) 3 3,oI 29 27 26 28,oL 30 3 29 3,oA 10 30 3]) .skip)) (.seq (.ops [oM 31 10 3,oA 11 31 3]) (.block 4 A1C)))))) (.ops [oB 45 .add 3 (tK 20) (iK 1) 3 3,oM 20 45 3])))
def A1D:SC:= .loop kE
def kF:SC:= .seq (.seq (.ops [oM 13 6 3,oM 14 1 3,oB 15 .lss 3 (tK 13) (tK 14) 3 4]) (.cond (tK 15) .skip (.exit 0))) (.seq (.block 1 (.seq (.ops [oX 7 CG 22]) (.seq (.seq (.ops [oM 18 5 22,oN 19 18 22,oX 20 (.move (iK 0)) 3]) (.block 2 A1D)) (.ops [oM 46 7 22,oA 5 46 22])))) (.ops [oM 16 6 3,oB 17 .add 3 (tK 16) (iK 1) 3 3,oA 6 17 3]))
def A1E:SC:= .loop kF
def k47:SC:= .seq (.ops [oX 4 CG 22]) (.seq (.ops [oX 12 (.buildSlice 22 1 #[(0,(.const (.slice none 0 0)))]) 900004,oA 5 12 22]) (.seq (.seq (.ops [oX 6 (.assign (iK 0)) 3]) (.block 0 A1E)) (.seq (.ops [oM 47 5 22,oA 4 47 22]) .ret)))
theorem A8R:Tryz.f47.body.map (BI lends)=some k47:=by kernel_rfl
theorem ALQ:BR Tryz.f47 2=true:=by kernel_rfl
theorem c47{a l:List D}{r:D×List D}(h:BU Y.env k47 (Du Ab l.length [ResultVar.tmp 4] r) (entry a l))(ha:a.length=2):Y.call 47 a l=some r:=
 AP (Y:=Y) rfl Tryz.func47 (ha▸ALQ) A8R h
def EE(labels size:Int)(out:AL)(k Cc:Int)(next1:AL)(a:Int)(s:St):Prop:=s.v 0=D.int .i64 labels∧s.v 1=D.int .i64 size∧s.v 5=D.own 27 (AJ Ac out)∧s.v 6=D.int .i64 k∧s.v 7=D.own 27 (AJ Ac next1)∧s.v 9=D.sl 3 (AJ (D.int .i64) (out.getD Cc.toNat default))∧s.v 11=D.int .i64 a∧(∃w_,s.v 18=D.vw [5] (s.k 5) w_)∧s.v 19=D.int .i64 (out.length:Int)∧s.v 20=D.int .i64 Cc
def I9(labels size:Int)(out:AL)(k Cc:Int)(r:AL)(ex:Ex)(s:St):Prop:=ex= .exit 4∧s.v 0=D.int .i64 labels∧s.v 1=D.int .i64 size∧s.v 5=D.own 27 (AJ Ac out)∧s.v 6=D.int .i64 k∧s.v 7=D.own 27 (AJ Ac r)∧(∃w_,s.v 18=D.vw [5] (s.k 5) w_)∧s.v 19=D.int .i64 (out.length:Int)∧s.v 20=D.int .i64 Cc
theorem Q5(labels size:Int)(out:AL)(k Cc:Int){v:AL×Int}{s:St}{r:AL}(h:I8 labels size out k Cc v=some r)(hM:EE labels size out k Cc v.1 v.2 s):BU Y.env A1C (I9 labels size out k Cc r) s:=by
 unfold I8 at h;refine Ap (c:=kD) (fun v=>FK labels size out k Cc v.1 v.2) (fun v s=>EE labels size out k Cc v.1 v.2 s) (I9 labels size out k Cc) ?_ h hM;clear h hM s v r;intro v s o hM h;obtain⟨next1,a⟩:=v;dsimp only at h hM;unfold FK at h;unfold EE at hM;obtain⟨m0,m1,m2,m3,m4,m5,m6,⟨w7_,m7⟩,m8,m9⟩:=hM;unfold kD;rcases iS h with⟨e6,h⟩|⟨e6,h⟩
 ·obtain⟨A8Q,hl7,h⟩:=AQ h;have c7:=OT (out.getD Cc.toNat default) hl7;obtain⟨e8,e9,h⟩:=Fy h;cases h;simp (maxDischargeDepth:=9) only [↓AB,AC,↓reduceIte,Nat.reduceEqDiff,Nat.reduceLT,Nat.reduceLeDiff,Nat.reduceAdd,m0,m1,m2,m3,m4,m5,m6,m7,m8,m9,e6,c7,e8,e9,EE,Dw]<;>(repeat' apply A7)<;>first|rfl|exact⟨_,rfl⟩|exact⟨_,_,rfl⟩|simp [AJ,AU]
 ·cases h;simp (maxDischargeDepth:=9) only [↓AB,AC,↓reduceIte,Nat.reduceEqDiff,Nat.reduceLT,m0,m1,m2,m3,m4,m6,m7,m8,m9,e6,EE,I9,Ir]<;>(repeat' apply A7)<;>first|rfl|exact⟨_,rfl⟩|exact⟨_,_,rfl⟩|simp [AJ,AU]
def EF(labels size:Int)(out:AL)(k:Int)(next:AL)(Cc:Int)(s:St):Prop:=s.v 0=D.int .i64 labels∧s.v 1=D.int .i64 size∧s.v 5=D.own 27 (AJ Ac out)∧s.v 6=D.int .i64 k∧s.v 7=D.own 27 (AJ Ac next)∧(∃w_,s.v 18=D.vw [5] (s.k 5) w_)∧s.v 19=D.int .i64 (out.length:Int)∧s.v 20=D.int .i64 Cc
def KM(labels size:Int)(out:AL)(k:Int)(r:AL)(ex:Ex)(s:St):Prop:=ex= .exit 2∧s.v 0=D.int .i64 labels∧s.v 1=D.int .i64 size∧s.v 6=D.int .i64 k∧s.v 7=D.own 27 (AJ Ac r)
theorem Vx(labels size:Int)(out:AL)(k:Int){v:AL×Int}{s:St}{r:AL}(h:Jq labels size out k v=some r)(hM:EF labels size out k v.1 v.2 s):BU Y.env A1D (KM labels size out k r) s:=by
 unfold Jq at h;refine Ap (c:=kE) (fun v=>FM labels size out k v.1 v.2) (fun v s=>EF labels size out k v.1 v.2 s) (KM labels size out k) ?_ h hM;clear h hM s v r;intro v s o hM h;obtain⟨next,Cc⟩:=v;dsimp only at h hM;unfold FM at h;unfold EF at hM;obtain⟨m0,m1,m2,m3,m4,⟨w5_,m5⟩,m6,m7⟩:=hM;unfold kE;rcases iS h with⟨e2,h⟩|⟨e2,h⟩
 ·obtain⟨e3,h⟩:=DL h;rcases iS h with⟨e4,h⟩|⟨e4,h⟩
  ·obtain⟨e5,h⟩:=DL h;obtain⟨A8,hl7,h⟩:=AQ h;try dsimp only at h
   simp (maxDischargeDepth:=9) only [↓AB,AC,↓reduceIte,Nat.reduceEqDiff,Nat.reduceLT,m2,m3,m5,m6,m7,e2,e3.1,e3.2,e4,e5.1,e5.2];refine AZ (Q5 labels size out k Cc hl7 ?_) ?_
   ·simp (maxDischargeDepth:=9) only [BC,↓reduceIte,Nat.reduceEqDiff,m0,m1,m2,m3,m4,m5,m6,m7,EE]<;>(repeat' apply A7)<;>first|rfl|exact⟨_,rfl⟩|exact⟨_,_,rfl⟩|simp [AJ,AU]
   ·intro ex7 s7 hX7;unfold I9 at hX7;obtain⟨rfl,n7_0,n7_1,n7_2,n7_3,n7_4,⟨w5_,n7_5⟩,n7_6,n7_7⟩:=hX7;cases h;simp (maxDischargeDepth:=9) only [↓AB,AC,↓reduceIte,Nat.reduceEqDiff,Nat.reduceLT,n7_0,n7_1,n7_2,n7_3,n7_4,n7_5,n7_6,n7_7,EF,Dw]<;>(repeat' apply A7)<;>first|rfl|exact⟨_,rfl⟩|exact⟨_,_,rfl⟩|simp [AJ,AU]
  ·obtain⟨A8,hl6,h⟩:=AQ h;try dsimp only at h
   simp (maxDischargeDepth:=9) only [↓AB,AC,↓reduceIte,Nat.reduceEqDiff,Nat.reduceLT,m2,m3,m5,m6,m7,e2,e3.1,e3.2,e4];refine AZ (Q5 labels size out k Cc hl6 ?_) ?_
   ·simp (maxDischargeDepth:=9) only [BC,↓reduceIte,Nat.reduceEqDiff,m0,m1,m2,m3,m4,m5,m6,m7,EE]<;>(repeat' apply A7)<;>first|rfl|exact⟨_,rfl⟩|exact⟨_,_,rfl⟩|simp [AJ,AU]
   ·intro ex6 s6 hX6;unfold I9 at hX6;obtain⟨rfl,n6_0,n6_1,n6_2,n6_3,n6_4,⟨w5_,n6_5⟩,n6_6,n6_7⟩:=hX6;cases h;simp (maxDischargeDepth:=9) only [↓AB,AC,↓reduceIte,Nat.reduceEqDiff,Nat.reduceLT,n6_0,n6_1,n6_2,n6_3,n6_4,n6_5,n6_6,n6_7,EF,Dw]<;>(repeat' apply A7)<;>first|rfl|exact⟨_,rfl⟩|exact⟨_,_,rfl⟩|simp [AJ,AU]
 ·cases h;simp (maxDischargeDepth:=9) only [↓AB,AC,↓reduceIte,Nat.reduceEqDiff,Nat.reduceLT,m0,m1,m3,m4,m6,m7,e2,EF,KM,Ir]
def FO(labels size:Int)(out:AL)(k:Int)(s:St):Prop:=s.v 0=D.int .i64 labels∧s.v 1=D.int .i64 size∧s.v 5=D.own 27 (AJ Ac out)∧s.v 6=D.int .i64 k
def KN(labels size:Int)(r:AL)(ex:Ex)(s:St):Prop:=ex= .exit 0∧s.v 5=D.own 27 (AJ Ac r)
theorem Vy(labels size:Int){v:AL×Int}{s:St}{r:AL}(h:MS labels size v=some r)(hM:FO labels size v.1 v.2 s):BU Y.env A1E (KN labels size r) s:=by
 unfold MS at h;refine Ap (c:=kF) (fun v=>FN labels size v.1 v.2) (fun v s=>FO labels size v.1 v.2 s) (KN labels size) ?_ h hM;clear h hM s v r;intro v s o hM h;obtain⟨out,k⟩:=v;dsimp only at h hM;unfold FN at h;unfold FO at hM;obtain⟨m0,m1,m2,m3⟩:=hM;unfold kF;rcases iS h with⟨e1,h⟩|⟨e1,h⟩
 ·obtain⟨Ad,hl3,h⟩:=AQ h;try dsimp only at h
  simp (maxDischargeDepth:=9) only [↓AB,AC,↓reduceIte,Nat.reduceEqDiff,Nat.reduceLT,m1,m2,m3,e1];refine AZ (Vx labels size out k hl3 ?_) ?_
  ·simp (maxDischargeDepth:=9) only [BC,↓reduceIte,Nat.reduceEqDiff,m0,m1,m2,m3,EF]<;>(repeat' apply A7)<;>first|rfl|exact⟨_,rfl⟩|exact⟨_,_,rfl⟩|simp [AJ,AU]
  ·intro ex3 s3 hX3;unfold KM at hX3;obtain⟨rfl,n3_0,n3_1,n3_2,n3_3⟩:=hX3;cases h;simp (maxDischargeDepth:=9) only [↓AB,AC,↓reduceIte,Nat.reduceEqDiff,Nat.reduceLT,n3_0,n3_1,n3_2,n3_3,FO,Dw]
 ·cases h;simp (maxDischargeDepth:=9) only [↓AB,AC,↓reduceIte,Nat.reduceEqDiff,Nat.reduceLT,m1,m2,m3,e1,FO,KN,Ir]
theorem N9(labels size:Int){r:AL}(h:IR labels size=some r):Y.call 47 [D.int .i64 labels,D.int .i64 size] []=some (D.own 27 (AJ Ac r),[]):=by
 refine c47 ?_ rfl;unfold k47;unfold IR at h;obtain⟨LU,hl2,h⟩:=AQ h;try dsimp only at h
 simp (maxDischargeDepth:=9) only [↓AB,AC,↓reduceIte,Nat.reduceEqDiff,Nat.reduceLT,Nat.reduceLeDiff,Nat.reduceAdd];refine AZ (Vy labels size hl2 ?_) ?_
 ·simp (maxDischargeDepth:=9) only [BC,Ce,↓reduceIte,Nat.reduceEqDiff,Nat.reduceLT,FO]<;>(repeat' apply A7)<;>first|rfl|exact⟨_,rfl⟩|exact⟨_,_,rfl⟩|simp [AJ,AU]
 ·intro ex2 s2 hX2;unfold KN at hX2;obtain⟨rfl,n2_0⟩:=hX2;cases h;simp (maxDischargeDepth:=9) only [↓AB,AC,↓reduceIte,Nat.reduceEqDiff,Nat.reduceLT,n2_0]
noncomputable def FP(l at_ out:AA)(IL:Int):Option ((AA×Int)⊕(AA)):= if IL<(at_.length:Int)then ck (0≤IL∧IL.toNat<at_.length)<| ck (0≤(at_.getD IL.toNat default)∧(at_.getD IL.toNat default).toNat<l.length)<| ck (out.length+1<1099511627776)<| some (Sum.inl ((out++[(l.getD ((at_.getD IL.toNat default).toNat) default)]),IntKind.i64.wrap (IL+1))) else some (Sum.inr out)
noncomputable def MU(l at_:AA)(v:AA×Int):Option (AA):=Fv (fun v=>FP l at_ v.1 v.2) v
noncomputable def Nq(l at_:AA):Option (AA):= (MU l at_ ([],0)).bind fun A8=> some A8
def kG:SC:= .seq (.ops [oB 11 .lss 3 (tK 10) (tK 9) 3 0]) (.seq (.cond (tK 11) .skip (.exit 0)) (.seq (.block 1 (.seq (.ops [oI 12 27 8 10,oL 13 3 12 3,oA 7 13 3]) (.ops [oM 14 5 27,oM 15 0 27,oM 16 7 3,oI 17 27 15 16,oL 18 3 17 3,oX 19 (.buildSlice 27 1 #[(0,(tK 18))]) 27,oX 20 (.call ⟨(.builtin .append), #[(tK 14),(tK 19)], #[27,27]⟩) 27,oA 5 20 27]))) (.ops [oB 21 .add 3 (tK 10) (iK 1) 3 3,oM 10 21 3])))
def A1F:SC:= .loop kG
def k92:SC:= .seq (.ops [oX 4 CG 27]) (.seq (.ops [oX 5 CG 27]) (.seq (.seq (.ops [oM 8 1 27,oN 9 8 27,oX 10 (.move (iK 0)) 3]) (.block 0 A1F)) (.seq (.ops [oM 22 5 27,oA 4 22 27]) .ret)))
theorem A8S:Tryz.f92.body.map (BI lends)=some k92:=by kernel_rfl
theorem ALS:BR Tryz.f92 2=true:=by kernel_rfl
theorem c92{a l:List D}{r:D×List D}(h:BU Y.env k92 (Du Ab l.length [ResultVar.tmp 4] r) (entry a l))(ha:a.length=2):Y.call 92 a l=some r:=
 AP (Y:=Y) rfl Tryz.func92 (ha▸ALS) A8S h
def FQ(l at_ out:AA)(IL:Int)(s:St):Prop:=s.v 0=D.sl 3 (AJ (D.int .i64) l)∧s.v 5=D.own 3 (AJ (D.int .i64) out)∧s.v 8=D.sl 3 (AJ (D.int .i64) at_)∧s.v 9=D.int .i64 (at_.length:Int)∧s.v 10=D.int .i64 IL
def KO(l at_:AA)(r:AA)(ex:Ex)(s:St):Prop:=ex= .exit 0∧s.v 5=D.own 3 (AJ (D.int .i64) r)
theorem Vz(l at_:AA){v:AA×Int}{s:St}{r:AA}(h:MU l at_ v=some r)(hM:FQ l at_ v.1 v.2 s):BU Y.env A1F (KO l at_ r) s:=by
 unfold MU at h;refine Ap (c:=kG) (fun v=>FP l at_ v.1 v.2) (fun v s=>FQ l at_ v.1 v.2 s) (KO l at_) ?_ h hM;clear h hM s v r;intro v s o hM h;obtain⟨out,IL⟩:=v;dsimp only at h hM;unfold FP at h;unfold FQ at hM;obtain⟨m0,m1,m2,m3,m4⟩:=hM;unfold kG;rcases iS h with⟨e1,h⟩|⟨e1,h⟩
 ·obtain⟨e2,e3,e4,h⟩:=Wm h;cases h;simp (maxDischargeDepth:=9) only [↓AB,AC,↓reduceIte,Nat.reduceEqDiff,Nat.reduceLT,Nat.reduceLeDiff,Nat.reduceAdd,m0,m1,m2,m3,m4,e1,e2.1,e2.2,e3.1,e3.2,e4,FQ,Dw]
 ·cases h;simp (maxDischargeDepth:=9) only [↓AB,AC,↓reduceIte,Nat.reduceEqDiff,Nat.reduceLT,m1,m3,m4,e1,FQ,KO,Ir]
theorem X8(l at_:AA){r:AA}(h:Nq l at_=some r):Y.call 92 [D.sl 3 (AJ (D.int .i64) l),D.sl 3 (AJ (D.int .i64) at_)] []=some (D.own 3 (AJ (D.int .i64) r),[]):=by
 refine c92 ?_ rfl;unfold k92;unfold Nq at h;obtain⟨A8,hl2,h⟩:=AQ h;try dsimp only at h
 simp (maxDischargeDepth:=9) only [↓AB,AC,↓reduceIte,Nat.reduceEqDiff,Nat.reduceLT];refine AZ (Vz l at_ hl2 ?_) ?_
 ·simp (maxDischargeDepth:=9) only [BC,Ce,↓reduceIte,Nat.reduceEqDiff,Nat.reduceLT,FQ]<;>(repeat' apply A7)<;>first|rfl|exact⟨_,rfl⟩|exact⟨_,_,rfl⟩|simp [AJ,AU]
 ·intro ex2 s2 hX2;unfold KO at hX2;obtain⟨rfl,n2_0⟩:=hX2;cases h;simp (maxDischargeDepth:=9) only [↓AB,AC,↓reduceIte,Nat.reduceEqDiff,Nat.reduceLT,n2_0]
noncomputable def W9(set_ a:Int):Option (Bool):= ck (¬a<0)<| some (decide (((set_.fdiv (2 ^ (min a.toNat (IntKind.i64.bits)))).tmod 2)=1))
def k85:SC:= .seq (.ops [oX 4 BX 4]) (.seq (.ops [oM 5 0 3,oM 6 1 3,oB 7 .shr 3 (tK 5) (tK 6) 3 3,oB 8 .rem 3 (tK 7) (iK 2) 3 3,oB 9 .eql 3 (tK 8) (iK 1) 3 4,oA 4 9 4]) .ret)
theorem A8T:Tryz.f85.body.map (BI lends)=some k85:=by kernel_rfl
theorem ALU:BR Tryz.f85 2=true:=by kernel_rfl
theorem c85{a l:List D}{r:D×List D}(h:BU Y.env k85 (Du Ab l.length [ResultVar.tmp 4] r) (entry a l))(ha:a.length=2):Y.call 85 a l=some r:=
 AP (Y:=Y) rfl Tryz.func85 (ha▸ALU) A8T h
theorem kH(set_ a:Int){r:Bool}(h:W9 set_ a=some r):Y.call 85 [D.int .i64 set_,D.int .i64 a] []=some (D.bool r,[]):=by
 refine c85 ?_ rfl;unfold k85;unfold W9 at h;obtain⟨e1,h⟩:=DL h;cases h;simp (maxDischargeDepth:=9) only [↓AB,AC,↓reduceIte,Nat.reduceEqDiff,Nat.reduceLT,Int.reduceEq,e1]
noncomputable def GA(set_:Int)(out:AA)(a:Int):Option ((AA×Int)⊕(AA)):= if a<8 then (W9 set_ a).bind fun Ma=> if Ma=true then ck (out.length+1<1099511627776)<| some (Sum.inl ((out++[a]),IntKind.i64.wrap (a+1))) else some (Sum.inl (out,IntKind.i64.wrap (a+1))) else some (Sum.inr out)
noncomputable def NQ(set_:Int)(v:AA×Int):Option (AA):=Fv (fun v=>GA set_ v.1 v.2) v
noncomputable def LW(set_:Int):Option (AA):= (NQ set_ ([],0)).bind fun A8=> some A8
def kI:SC:= .seq (.seq (.ops [oM 5 4 3,oB 6 .lss 3 (tK 5) (iK 8) 3 4]) (.cond (tK 6) .skip (.exit 0))) (.seq (.block 1 (.seq (.ops [oM 9 0 3,oM 10 4 3,oC 11 85 [(tK 9),(tK 10)] [3,3] 4]) (.cond (tK 11) (.ops [oM 12 3 27,oM 13 4 3,oX 14 (.buildSlice 27 1 #[(0,(tK 13))]) 27,oX 15 (.call ⟨(.builtin .append), #[(tK 12),(tK 14)], #[27,27]⟩) 27,oA 3 15 27]) .skip))) (.ops [oM 7 4 3,oB 8 .add 3 (tK 7) (iK 1) 3 3,oA 4 8 3]))
def A1G:SC:= .loop kI
def k56:SC:= .seq (.ops [oX 2 CG 27]) (.seq (.ops [oX 3 CG 27]) (.seq (.seq (.ops [oX 4 (.assign (iK 0)) 3]) (.block 0 A1G)) (.seq (.ops [oM 16 3 27,oA 2 16 27]) .ret)))
theorem A8U:Tryz.f56.body.map (BI lends)=some k56:=by kernel_rfl
theorem ALW:BR Tryz.f56 1=true:=by kernel_rfl
theorem c56{a l:List D}{r:D×List D}(h:BU Y.env k56 (Du Ab l.length [ResultVar.tmp 2] r) (entry a l))(ha:a.length=1):Y.call 56 a l=some r:=
 AP (Y:=Y) rfl Tryz.func56 (ha▸ALW) A8U h
def Ep(set_:Int)(out:AA)(a:Int)(s:St):Prop:=s.v 0=D.int .i64 set_∧s.v 3=D.own 3 (AJ (D.int .i64) out)∧s.v 4=D.int .i64 a
def LC(set_:Int)(r:AA)(ex:Ex)(s:St):Prop:=ex= .exit 0∧s.v 3=D.own 3 (AJ (D.int .i64) r)
theorem X9(set_:Int){v:AA×Int}{s:St}{r:AA}(h:NQ set_ v=some r)(hM:Ep set_ v.1 v.2 s):BU Y.env A1G (LC set_ r) s:=by
 unfold NQ at h;refine Ap (c:=kI) (fun v=>GA set_ v.1 v.2) (fun v s=>Ep set_ v.1 v.2 s) (LC set_) ?_ h hM;clear h hM s v r;intro v s o hM h;obtain⟨out,a⟩:=v;dsimp only at h hM;unfold GA at h;unfold Ep at hM;obtain⟨m0,m1,m2⟩:=hM;unfold kI;rcases iS h with⟨e1,h⟩|⟨e1,h⟩
 ·obtain⟨Ma,hl2,h⟩:=AQ h;have c2:=kH set_ a hl2;rcases iS h with⟨e3,h⟩|⟨e3,h⟩
  ·obtain⟨e4,h⟩:=DL h;cases h;simp (maxDischargeDepth:=9) only [↓AB,AC,↓reduceIte,Nat.reduceEqDiff,Nat.reduceLT,Nat.reduceLeDiff,Nat.reduceAdd,m0,m1,m2,e1,c2,e3,e4,Ep,Dw]
  ·have e3f:Ma=false:=Gf.mpr e3;cases h;simp (maxDischargeDepth:=9) only [↓AB,AC,↓reduceIte,Nat.reduceEqDiff,Nat.reduceLT,Nat.reduceAdd,m0,m1,m2,e1,c2,e3f,Ep,Dw]
 ·cases h;simp (maxDischargeDepth:=9) only [↓AB,AC,↓reduceIte,Nat.reduceEqDiff,Nat.reduceLT,m1,m2,e1,Ep,LC,Ir]
theorem OA(set_:Int){r:AA}(h:LW set_=some r):Y.call 56 [D.int .i64 set_] []=some (D.own 3 (AJ (D.int .i64) r),[]):=by
 refine c56 ?_ rfl;unfold k56;unfold LW at h;obtain⟨A8,hl2,h⟩:=AQ h;try dsimp only at h
 simp (maxDischargeDepth:=9) only [↓AB,AC,↓reduceIte,Nat.reduceEqDiff,Nat.reduceLT];refine AZ (X9 set_ hl2 ?_) ?_
 ·simp (maxDischargeDepth:=9) only [BC,Ce,↓reduceIte,Nat.reduceEqDiff,Nat.reduceLT,Ep]<;>(repeat' apply A7)<;>first|rfl|exact⟨_,rfl⟩|exact⟨_,_,rfl⟩|simp [AJ,AU]
 ·intro ex2 s2 hX2;unfold LC at hX2;obtain⟨rfl,n2_0⟩:=hX2;cases h;simp (maxDischargeDepth:=9) only [↓AB,AC,↓reduceIte,Nat.reduceEqDiff,Nat.reduceLT,n2_0]
noncomputable def J2(rec_:AL→AA→AA→Option ((AA×Bool)⊕(AA×Bool)))(good:AL)(sets chosen:AA)(OV:AA)(EG:Int):Option ((Int)⊕((AA)⊕((AA)⊕Unit))):=
 if EG<(OV.length:Int)then
  ck (0≤EG∧EG.toNat<OV.length)<|
  (NL chosen).bind fun TE=>
  ck (TE.length+1<1099511627776)<|
  (rec_ good sets (TE++[(OV.getD EG.toNat default)])).bind fun A8V=>
  match A8V with
  | .inl q42_=>
   if q42_.2=true then
    some (Sum.inr (Sum.inl q42_.1))
   else
    some (Sum.inl (IntKind.i64.wrap (EG+1)))
  | .inr q42_=>
   if q42_.2=true then
    some (Sum.inr (Sum.inr (Sum.inl q42_.1)))
   else
    some (Sum.inl (IntKind.i64.wrap (EG+1)))
 else
  some (Sum.inr (Sum.inr (Sum.inr ())))
noncomputable def NR(rec_:AL→AA→AA→Option ((AA×Bool)⊕(AA×Bool)))(good:AL)(sets chosen:AA)(OV:AA)(v:Int):Option ((AA)⊕((AA)⊕Unit)):=Fv (fun v=>J2 rec_ good sets chosen OV v) v
noncomputable def Ii(rec_:AL→AA→AA→Option ((AA×Bool)⊕(AA×Bool)))(good:AL)(sets chosen:AA):Option ((AA×Bool)⊕(AA×Bool)):=
 if(chosen.length:Int)=(sets.length:Int)then
  ck (chosen.length<1099511627776)<|
  ck (good.length<1099511627776)<|
  ck ((Bt chosen).length<1099511627776)<|
  some (Sum.inl (chosen,(good.contains (Bt chosen))))
 else
  ck (0≤(chosen.length:Int)∧chosen.length<sets.length)<|
  (LW (sets.getD chosen.length default)).bind fun OV=>
  (NR rec_ good sets chosen OV 0).bind fun A8=>
  match A8 with
  | .inl q1000_=>
   some (Sum.inl (q1000_,true))
  | .inr (.inl q1000_)=>
   some (Sum.inr (q1000_,true))
  | .inr (.inr q1000_)=>
   some (Sum.inr ([],false))
noncomputable def Cr:Nat→AL→AA→AA→Option ((AA×Bool)⊕(AA×Bool)) |0=>fun _ _ _=>none |n+1=>fun good sets chosen=>Ii (Cr n) good sets chosen
noncomputable def Uo(good:AL)(sets chosen:AA):Option ((AA×Bool)⊕(AA×Bool)):=Cr 1000000 good sets chosen
def kJ:SC:= .seq (.ops [oB 31 .lss 3 (tK 30) (tK 29) 3 0]) (.seq (.cond (tK 31) .skip (.exit 0)) (.seq (.block 1 (.seq (.ops [oI 32 27 28 30,oL 33 3 32 3,oA 10 33 3]) (.seq (.ops [oM 35 0 22,oM 36 1 27,oM 37 2 27,oC 38 79 [(tK 37)] [27] 27,oM 39 10 3,oX 40 (.buildSlice 27 1 #[(0,(tK 39))]) 27,oX 41 (.call ⟨(.builtin .append), #[(tK 38),(tK 40)], #[27,27]⟩) 27,oC 42 91 [(tK 35),(tK 36),(tK 41)] [22,27,27] 49,oM 34 42 49,oE 43 34 0 27,oE 44 34 1 4,oA 11 43 27,oA 12 44 4]) (.seq (.ops [oM 45 12 4]) (.cond (tK 45) (.seq (.ops [oM 46 11 27,oA 6 46 27,oX 7 (.assign Gx) 4]) .ret) .skip))))) (.ops [oB 47 .add 3 (tK 30) (iK 1) 3 3,oM 30 47 3])))
def A1H:SC:= .loop kJ
def k91:SC:= .seq (.ops [oX 6 CG 27,oX 7 BX 4]) (.seq (.ops [oM 13 2 27,oN 14 13 27,oA 8 14 3]) (.seq (.seq (.ops [oM 15 8 3,oM 16 1 27,oN 17 16 27,oB 18 .eql 3 (tK 15) (tK 17) 3 4]) (.cond (tK 18) (.seq (.ops [oM 19 2 27,oM 20 0 22,oM 21 2 27,oC 22 90 [(tK 21)] [27] 27,oC 23 86 [(tK 20),(tK 22)] [22,27] 4,oA 6 19 27,oA 7 23 4]) .ret) .skip)) (.seq (.seq (.ops [oM 24 1 27,oM 25 8 3,oI 26 27 24 25,oL 27 3 26 3,oC 28 56 [(tK 27)] [3] 27,oN 29 28 27,oX 30 (.move (iK 0)) 3]) (.block 0 A1H)) (.seq (.ops [oX 6 CG 27,oX 7 BX 4]) .ret))))
theorem A8W:Tryz.f91.body.map (BI lends)=some k91:=by kernel_rfl
theorem ALY:BR Tryz.f91 3=true:=by kernel_rfl
theorem c91{a l:List D}{r:D×List D}(h:BU Y.env k91 (Du Ab l.length [ResultVar.tmp 6,ResultVar.tmp 7] r) (entry a l))(ha:a.length=3):Y.call 91 a l=some r:=
 AP (Y:=Y) rfl Tryz.func91 (ha▸ALY) A8W h
def CV(rec_:AL→AA→AA→Option ((AA×Bool)⊕(AA×Bool)))(good:AL)(sets chosen:AA)(OV:AA)(EG:Int)(s:St):Prop:=s.v 0=D.sl 27 (AJ Ac good)∧s.v 1=D.sl 3 (AJ (D.int .i64) sets)∧s.v 2=D.sl 3 (AJ (D.int .i64) chosen)∧s.v 28=D.own 3 (AJ (D.int .i64) OV)∧s.v 29=D.int .i64 (OV.length:Int)∧s.v 30=D.int .i64 EG
def DJ(rec_:AL→AA→AA→Option ((AA×Bool)⊕(AA×Bool)))(good:AL)(sets chosen:AA)(OV:AA)(r:(AA)⊕((AA)⊕Unit))(ex:Ex)(s:St):Prop:=match r with
 | .inl q=>ex= .ret∧s.v 6=D.sl 3 (AJ (D.int .i64) q)∧s.v 7=D.bool true
 | .inr (.inl q)=>ex= .ret∧s.v 6=D.own 3 (AJ (D.int .i64) q)∧s.v 7=D.bool true
 | .inr (.inr q)=>ex= .exit 0
theorem XA(rec_:AL→AA→AA→Option ((AA×Bool)⊕(AA×Bool)))(good:AL)(sets chosen:AA)(OV:AA)(rec_h: ∀(good:AL) (sets chosen:AA) (r:(AA×Bool)⊕(AA×Bool)),rec_ good sets chosen=some r→Y.call 91 [D.sl 27 (AJ Ac good),D.sl 3 (AJ (D.int .i64) sets),D.sl 3 (AJ (D.int .i64) chosen)] []=some (match (generalizing:=false) r with| .inl q=>(D.tup [D.sl 3 (AJ (D.int .i64) q.1),D.bool q.2],[])| .inr q=>(D.tup [D.own 3 (AJ (D.int .i64) q.1),D.bool q.2],[]))){v:Int}{s:St}{r:(AA)⊕((AA)⊕Unit)}(h:NR rec_ good sets chosen OV v=some r)(hM:CV rec_ good sets chosen OV v s):BU Y.env A1H (DJ rec_ good sets chosen OV r) s:=by
 unfold NR at h;refine Ap (c:=kJ) (fun v=>J2 rec_ good sets chosen OV v) (fun v s=>CV rec_ good sets chosen OV v s) (DJ rec_ good sets chosen OV) ?_ h hM;clear h hM s v r;intro EG s o hM h;unfold J2 at h;unfold CV at hM;obtain⟨m0,m1,m2,m3,m4,m5⟩:=hM;unfold kJ;rcases iS h with⟨e4,h⟩|⟨e4,h⟩
 ·obtain⟨e5,h⟩:=DL h;obtain⟨TE,hl6,h⟩:=AQ h;have c6:=OT chosen hl6;obtain⟨e7,h⟩:=DL h;obtain⟨A8V,hl8,h⟩:=AQ h;try dsimp only at h
  have c8:=rec_h _ _ _ _ hl8;rcases A8V with q42_|q42_
  ·dsimp only at h c8;by_cases e9:(!q42_.1.isEmpty)=true
   ·skip
    rcases iS h with⟨e10,h⟩|⟨e10,h⟩
    ·cases h;simp (maxDischargeDepth:=9) only [↓AB,AC,↓reduceIte,Nat.reduceEqDiff,Nat.reduceLT,Nat.reduceLeDiff,Nat.reduceAdd,m0,m1,m2,m3,m4,m5,e4,e5.1,e5.2,c6,e7,c8,e9,e10,CV,DJ,Tz]
    ·have e10f:q42_.2=false:=Gf.mpr e10;cases h;simp (maxDischargeDepth:=9) only [↓AB,AC,↓reduceIte,Nat.reduceEqDiff,Nat.reduceLT,Nat.reduceLeDiff,Nat.reduceAdd,m0,m1,m2,m3,m4,m5,e4,e5.1,e5.2,c6,e7,c8,e9,e10f,CV,Dw]
   ·skip
    have e9f:(!q42_.1.isEmpty)=false:=Gf.mpr e9;rcases iS h with⟨e10,h⟩|⟨e10,h⟩
    ·cases h;simp (maxDischargeDepth:=9) only [↓AB,AC,↓reduceIte,Nat.reduceEqDiff,Nat.reduceLT,Nat.reduceLeDiff,Nat.reduceAdd,m0,m1,m2,m3,m4,m5,e4,e5.1,e5.2,c6,e7,c8,e9f,e10,CV,DJ,Tz]
    ·have e10f:q42_.2=false:=Gf.mpr e10;cases h;simp (maxDischargeDepth:=9) only [↓AB,AC,↓reduceIte,Nat.reduceEqDiff,Nat.reduceLT,Nat.reduceLeDiff,Nat.reduceAdd,m0,m1,m2,m3,m4,m5,e4,e5.1,e5.2,c6,e7,c8,e9f,e10f,CV,Dw]
  ·dsimp only at h c8;rcases iS h with⟨e11,h⟩|⟨e11,h⟩
   ·cases h;simp (maxDischargeDepth:=9) only [↓AB,AC,↓reduceIte,Nat.reduceEqDiff,Nat.reduceLT,Nat.reduceLeDiff,Nat.reduceAdd,m0,m1,m2,m3,m4,m5,e4,e5.1,e5.2,c6,e7,c8,e11,CV,DJ,Tz]
   ·have e11f:q42_.2=false:=Gf.mpr e11;cases h;simp (maxDischargeDepth:=9) only [↓AB,AC,↓reduceIte,Nat.reduceEqDiff,Nat.reduceLT,Nat.reduceLeDiff,Nat.reduceAdd,m0,m1,m2,m3,m4,m5,e4,e5.1,e5.2,c6,e7,c8,e11f,CV,Dw]
 ·cases h;simp (maxDischargeDepth:=9) only [↓AB,AC,↓reduceIte,Nat.reduceLT,m4,m5,e4,CV,DJ,Ir]
theorem WA(rec_:AL→AA→AA→Option ((AA×Bool)⊕(AA×Bool)))(good:AL)(sets chosen:AA)(rec_h: ∀(good:AL) (sets chosen:AA) (r:(AA×Bool)⊕(AA×Bool)),rec_ good sets chosen=some r→Y.call 91 [D.sl 27 (AJ Ac good),D.sl 3 (AJ (D.int .i64) sets),D.sl 3 (AJ (D.int .i64) chosen)] []=some (match (generalizing:=false) r with| .inl q=>(D.tup [D.sl 3 (AJ (D.int .i64) q.1),D.bool q.2],[])| .inr q=>(D.tup [D.own 3 (AJ (D.int .i64) q.1),D.bool q.2],[]))){r:(AA×Bool)⊕(AA×Bool)}(h:Ii rec_ good sets chosen=some r):Y.call 91 [D.sl 27 (AJ Ac good),D.sl 3 (AJ (D.int .i64) sets),D.sl 3 (AJ (D.int .i64) chosen)] []=some (match (generalizing:=false) r with| .inl q=>(D.tup [D.sl 3 (AJ (D.int .i64) q.1),D.bool q.2],[])| .inr q=>(D.tup [D.own 3 (AJ (D.int .i64) q.1),D.bool q.2],[])):=by
 refine c91 ?_ rfl;unfold k91;unfold Ii at h;rcases iS h with⟨e1,h⟩|⟨e1,h⟩
 ·obtain⟨e2,h⟩:=DL h;have c3:=tQ chosen e2;obtain⟨e4,e5,h⟩:=Fy h;have c6:=Um good (Bt chosen) e4 e5;cases h;simp (maxDischargeDepth:=9) only [↓AB,AC,↓reduceIte,Nat.reduceEqDiff,Nat.reduceLT,Nat.reduceAdd,decide_eq_true e1,c3,c6]
 ·obtain⟨e2,h⟩:=DL h;obtain⟨OV,hl3,h⟩:=AQ h;have c3:=OA (sets.getD chosen.length default) hl3;obtain⟨A8,hl5,h⟩:=AQ h;try dsimp only at h
  simp (maxDischargeDepth:=9) only [↓AB,AC,↓reduceIte,Nat.reduceEqDiff,Nat.reduceLT,Nat.reduceAdd,e1,e2.1,e2.2,c3];refine AZ (XA rec_ good sets chosen OV rec_h hl5 ?_) ?_
  ·simp (maxDischargeDepth:=9) only [BC,Ce,↓reduceIte,Nat.reduceEqDiff,Nat.reduceLT,CV]
  ·intro ex5 s5 hX5;rcases A8 with(q1000_|q1000_|q1000_)
   ·unfold DJ at hX5;dsimp only at hX5 h;obtain⟨rfl,n5_0,n5_1⟩:=hX5;cases h;simp (maxDischargeDepth:=9) only [↓AB,AC,↓reduceIte,n5_0,n5_1]
   ·unfold DJ at hX5;dsimp only at hX5 h;obtain⟨rfl,n5_0,n5_1⟩:=hX5;cases h;simp (maxDischargeDepth:=9) only [↓AB,AC,↓reduceIte,Nat.reduceEqDiff,n5_0,n5_1]
   ·unfold DJ at hX5;dsimp only at hX5 h
    obtain rfl:=hX5
    cases h;simp (maxDischargeDepth:=9) only [↓AB,AC,↓reduceIte,Nat.reduceEqDiff,Nat.reduceLT]<;>(repeat' apply A7)<;>first|rfl|exact⟨_,rfl⟩|exact⟨_,_,rfl⟩|simp [AJ,AU]
theorem WB(n:Nat): ∀(good:AL) (sets:AA) (chosen:AA) (r:(AA×Bool)⊕(AA×Bool)),Cr n good sets chosen=some r→Y.call 91 [D.sl 27 (AJ Ac good),D.sl 3 (AJ (D.int .i64) sets),D.sl 3 (AJ (D.int .i64) chosen)] []=some (match (generalizing:=false) r with| .inl q=>(D.tup [D.sl 3 (AJ (D.int .i64) q.1),D.bool q.2],[])| .inr q=>(D.tup [D.own 3 (AJ (D.int .i64) q.1),D.bool q.2],[])):=by
 induction n with
 |zero=>intro good sets chosen r h;exact absurd h (by rw [Cr];exact fun e=>by cases e)
 |succ n ih=>intro good sets chosen r h;rw [Cr]at h;exact WA (Cr n) good sets chosen ih h
theorem YC(good:AL)(sets chosen:AA){r:(AA×Bool)⊕(AA×Bool)}(h:Uo good sets chosen=some r):Y.call 91 [D.sl 27 (AJ Ac good),D.sl 3 (AJ (D.int .i64) sets),D.sl 3 (AJ (D.int .i64) chosen)] []=some (match (generalizing:=false) r with| .inl q=>(D.tup [D.sl 3 (AJ (D.int .i64) q.1),D.bool q.2],[])| .inr q=>(D.tup [D.own 3 (AJ (D.int .i64) q.1),D.bool q.2],[])):=WB 1000000 good sets chosen r h
noncomputable def JH(good:AL)(sets:AA)(Ll:AL)(out:AL)(Eb:Int):Option ((AL×Int)⊕(AL)):=
 if Eb<(Ll.length:Int)then
  ck (0≤Eb∧Eb.toNat<Ll.length)<|
  (Nq sets (Ll.getD Eb.toNat default)).bind fun A8X=>
  (Uo good A8X []).bind fun U1=>
  match U1 with
  | .inl q26_=>
   if q26_.2=true then
    ck (out.length+1<1099511627776)<|
    some (Sum.inl ((out++[(Ll.getD Eb.toNat default)]),IntKind.i64.wrap (Eb+1)))
   else
    some (Sum.inl (out,IntKind.i64.wrap (Eb+1)))
  | .inr q26_=>
   if q26_.2=true then
    ck (out.length+1<1099511627776)<|
    some (Sum.inl ((out++[(Ll.getD Eb.toNat default)]),IntKind.i64.wrap (Eb+1)))
   else
    some (Sum.inl (out,IntKind.i64.wrap (Eb+1)))
 else
  some (Sum.inr out)
noncomputable def Q6(good:AL)(sets:AA)(Ll:AL)(v:AL×Int):Option (AL):=Fv (fun v=>JH good sets Ll v.1 v.2) v
noncomputable def Qu(good:AL)(sets:AA)(size:Int):Option (AL):= (IR (sets.length:Int) size).bind fun Ll=> (Q6 good sets Ll ([],0)).bind fun A8=> some A8
def kK:SC:= .seq (.ops [oB 18 .lss 3 (tK 17) (tK 16) 3 0]) (.seq (.cond (tK 18) .skip (.exit 0)) (.seq (.block 1 (.seq (.ops [oI 19 22 15 17,oL 20 27 19 27,oA 9 20 27]) (.seq (.ops [oM 22 0 22,oM 23 1 27,oM 24 9 27,oC 25 92 [(tK 23),(tK 24)] [27,27] 27,oC 26 91 [(tK 22),(tK 25),(.const (.slice none 0 0))] [22,27,27] 49,oM 21 26 49,oE 27 21 0 27,oE 28 21 1 4,oA 10 27 27,oA 11 28 4]) (.seq (.ops [oM 29 11 4]) (.cond (tK 29) (.ops [oM 30 7 22,oM 31 9 27,oX 32 (.buildSlice 22 1 #[(0,(tK 31))]) 22,oX 33 (.call ⟨(.builtin .append), #[(tK 30),(tK 32)], #[22,22]⟩) 22,oA 7 33 22]) .skip))))) (.ops [oB 34 .add 3 (tK 17) (iK 1) 3 3,oM 17 34 3])))
def A1I:SC:= .loop kK
def k61:SC:= .seq (.ops [oX 6 CG 22]) (.seq (.ops [oX 7 CG 22]) (.seq (.seq (.ops [oM 12 1 27,oN 13 12 27,oM 14 2 3,oC 15 47 [(tK 13),(tK 14)] [3,3] 22,oN 16 15 22,oX 17 (.move (iK 0)) 3]) (.block 0 A1I)) (.seq (.ops [oM 35 7 22,oA 6 35 22]) .ret)))
theorem A8Y:Tryz.f61.body.map (BI lends)=some k61:=by kernel_rfl
theorem ALa:BR Tryz.f61 3=true:=by kernel_rfl
theorem c61{a l:List D}{r:D×List D}(h:BU Y.env k61 (Du Ab l.length [ResultVar.tmp 6] r) (entry a l))(ha:a.length=3):Y.call 61 a l=some r:=
 AP (Y:=Y) rfl Tryz.func61 (ha▸ALa) A8Y h
def DD(good:AL)(sets:AA)(Ll:AL)(out:AL)(Eb:Int)(s:St):Prop:=s.v 0=D.sl 27 (AJ Ac good)∧s.v 1=D.sl 3 (AJ (D.int .i64) sets)∧s.v 7=D.own 27 (AJ Ac out)∧s.v 15=D.own 27 (AJ Ac Ll)∧s.v 16=D.int .i64 (Ll.length:Int)∧s.v 17=D.int .i64 Eb
def NS(good:AL)(sets:AA)(Ll:AL)(r:AL)(ex:Ex)(s:St):Prop:=ex= .exit 0∧s.v 7=D.own 27 (AJ Ac r)
theorem aB(good:AL)(sets:AA)(Ll:AL){v:AL×Int}{s:St}{r:AL}(h:Q6 good sets Ll v=some r)(hM:DD good sets Ll v.1 v.2 s):BU Y.env A1I (NS good sets Ll r) s:=by
 unfold Q6 at h;refine Ap (c:=kK) (fun v=>JH good sets Ll v.1 v.2) (fun v s=>DD good sets Ll v.1 v.2 s) (NS good sets Ll) ?_ h hM;clear h hM s v r;intro v s o hM h;obtain⟨out,Eb⟩:=v;dsimp only at h hM;unfold JH at h;unfold DD at hM;obtain⟨m0,m1,m2,m3,m4,m5⟩:=hM;unfold kK;rcases iS h with⟨e2,h⟩|⟨e2,h⟩
 ·obtain⟨e3,h⟩:=DL h;obtain⟨A8X,hl4,h⟩:=AQ h;have c4:=X8 sets (Ll.getD Eb.toNat default) hl4;obtain⟨U1,hl5,h⟩:=AQ h;try dsimp only at h
  have c5:=YC good A8X [] hl5;rcases U1 with q26_|q26_
  ·dsimp only at h c5;simp only [VQ]at c5;by_cases e6:(!q26_.1.isEmpty)=true
   ·skip
    rcases iS h with⟨e7,h⟩|⟨e7,h⟩
    ·obtain⟨e8,h⟩:=DL h;cases h;simp (maxDischargeDepth:=9) only [↓AB,AC,↓reduceIte,Nat.reduceEqDiff,Nat.reduceLT,Nat.reduceLeDiff,Nat.reduceAdd,m0,m1,m2,m3,m4,m5,e2,e3.1,e3.2,c4,c5,e6,e7,e8,DD,Dw]
    ·have e7f:q26_.2=false:=Gf.mpr e7;cases h;simp (maxDischargeDepth:=9) only [↓AB,AC,↓reduceIte,Nat.reduceEqDiff,Nat.reduceLT,Nat.reduceAdd,m0,m1,m2,m3,m4,m5,e2,e3.1,e3.2,c4,c5,e6,e7f,DD,Dw]
   ·skip
    have e6f:(!q26_.1.isEmpty)=false:=Gf.mpr e6;rcases iS h with⟨e7,h⟩|⟨e7,h⟩
    ·obtain⟨e8,h⟩:=DL h;cases h;simp (maxDischargeDepth:=9) only [↓AB,AC,↓reduceIte,Nat.reduceEqDiff,Nat.reduceLT,Nat.reduceLeDiff,Nat.reduceAdd,m0,m1,m2,m3,m4,m5,e2,e3.1,e3.2,c4,c5,e6f,e7,e8,DD,Dw]
    ·have e7f:q26_.2=false:=Gf.mpr e7;cases h;simp (maxDischargeDepth:=9) only [↓AB,AC,↓reduceIte,Nat.reduceEqDiff,Nat.reduceLT,Nat.reduceAdd,m0,m1,m2,m3,m4,m5,e2,e3.1,e3.2,c4,c5,e6f,e7f,DD,Dw]
  ·dsimp only at h c5;simp only [VQ]at c5;rcases iS h with⟨e8,h⟩|⟨e8,h⟩
   ·obtain⟨e9,h⟩:=DL h;cases h;simp (maxDischargeDepth:=9) only [↓AB,AC,↓reduceIte,Nat.reduceEqDiff,Nat.reduceLT,Nat.reduceLeDiff,Nat.reduceAdd,m0,m1,m2,m3,m4,m5,e2,e3.1,e3.2,c4,c5,e8,e9,DD,Dw]
   ·have e8f:q26_.2=false:=Gf.mpr e8;cases h;simp (maxDischargeDepth:=9) only [↓AB,AC,↓reduceIte,Nat.reduceEqDiff,Nat.reduceLT,Nat.reduceAdd,m0,m1,m2,m3,m4,m5,e2,e3.1,e3.2,c4,c5,e8f,DD,Dw]
 ·cases h;simp (maxDischargeDepth:=9) only [↓AB,AC,↓reduceIte,Nat.reduceEqDiff,Nat.reduceLT,m2,m4,m5,e2,DD,NS,Ir]
theorem UI(good:AL)(sets:AA)(size:Int){r:AL}(h:Qu good sets size=some r):Y.call 61 [D.sl 27 (AJ Ac good),D.sl 3 (AJ (D.int .i64) sets),D.int .i64 size] []=some (D.own 27 (AJ Ac r),[]):=by
 refine c61 ?_ rfl;unfold k61;unfold Qu at h;obtain⟨Ll,hl1,h⟩:=AQ h;have c1:=N9 (sets.length:Int) size hl1;obtain⟨A8,hl3,h⟩:=AQ h;try dsimp only at h
 simp (maxDischargeDepth:=9) only [↓AB,AC,↓reduceIte,Nat.reduceEqDiff,Nat.reduceLT,Nat.reduceAdd,c1];refine AZ (aB good sets Ll hl3 ?_) ?_
 ·simp (maxDischargeDepth:=9) only [BC,Ce,↓reduceIte,Nat.reduceEqDiff,Nat.reduceLT,DD]<;>(repeat' apply A7)<;>first|rfl|exact⟨_,rfl⟩|exact⟨_,_,rfl⟩|simp [AJ,AU]
 ·intro ex3 s3 hX3;unfold NS at hX3;obtain⟨rfl,n3_0⟩:=hX3;cases h;simp (maxDischargeDepth:=9) only [↓AB,AC,↓reduceIte,Nat.reduceEqDiff,Nat.reduceLT,n3_0]
noncomputable def JI(tL tD:Int)(tN tE Dy:AL)(E9:Bool)(Cc:Int)(t9_1:AA)(J3:Int):Option ((AA×Int)⊕(AA)):=
 if J3<((Dy.getD Cc.toNat default).length:Int)then
  ck (0≤J3∧J3.toNat<(Dy.getD Cc.toNat default).length)<|
  (Tm t9_1 ((Dy.getD Cc.toNat default).getD J3.toNat default)).bind fun RU=>
  match RU with
  | .inl q32_=>
   some (Sum.inl (q32_,IntKind.i64.wrap (J3+1)))
  | .inr q32_=>
   some (Sum.inl (q32_,IntKind.i64.wrap (J3+1)))
 else
  some (Sum.inr t9_1)
noncomputable def Nr(tL tD:Int)(tN tE Dy:AL)(E9:Bool)(Cc:Int)(v:AA×Int):Option (AA):=Fv (fun v=>JI tL tD tN tE Dy E9 Cc v.1 v.2) v
noncomputable def JJ(tL tD:Int)(tN tE Dy:AL)(E9:Bool)(MZ:AA)(Cc:Int):Option ((AA×Int)⊕(AA)):= if Cc<(Dy.length:Int)then ck (0≤Cc∧Cc.toNat<Dy.length)<| (Nr tL tD tN tE Dy E9 Cc (MZ,0)).bind fun A8=> some (Sum.inl (A8,IntKind.i64.wrap (Cc+1))) else some (Sum.inr MZ)
noncomputable def Nt(tL tD:Int)(tN tE Dy:AL)(E9:Bool)(v:AA×Int):Option (AA):=Fv (fun v=>JJ tL tD tN tE Dy E9 v.1 v.2) v
noncomputable def Gq(tL tD:Int)(tN tE Dy:AL)(E9:Bool)(Ad:AA)(xg:AL)(dH:Int):Option ((AL×Int)⊕(AL)):=
 if dH<(Dy.length:Int)then
  ck (0≤dH∧dH.toNat<Dy.length)<|
  (Np Ad (Dy.getD dH.toNat default)).bind fun A8Z=>
  (N8 xg A8Z).bind fun A8a=>
  match A8a with
  | .inl q55_=>
   some (Sum.inl (q55_,IntKind.i64.wrap (dH+1)))
  | .inr q55_=>
   some (Sum.inl (q55_,IntKind.i64.wrap (dH+1)))
 else
  some (Sum.inr xg)
noncomputable def Nu(tL tD:Int)(tN tE Dy:AL)(E9:Bool)(Ad:AA)(v:AL×Int):Option (AL):=Fv (fun v=>Gq tL tD tN tE Dy E9 Ad v.1 v.2) v
noncomputable def Nw(tL tD:Int)(tN tE Dy:AL)(E9:Bool):Option ((Int×Int×AL×AL×AA×Bool)⊕((Int×Int×AL×AL×AA×Bool)⊕(Int×Int×AL×AL×AA×Bool))):= (Nt tL tD tN tE Dy E9 ([],0)).bind fun Ad=> if(OQ (Ad.length:Int) (1:Int) (8:Int))=true then (Nu tL tD tN tE Dy E9 Ad ([],0)).bind fun LU=> if E9=true then (Qu tN Ad tD).bind fun A1J=> some (Sum.inl ((Ad.length:Int),tD,A1J,LU,Ad,true)) else (Qu tE Ad (2:Int)).bind fun AFE=> some (Sum.inr (Sum.inl ((Ad.length:Int),tD,LU,AFE,Ad,true))) else some (Sum.inr (Sum.inr (0,0,[],[],[],false)))
def kL:SC:= .seq (.ops [oB 27 .lss 3 (tK 26) (tK 25) 3 0]) (.seq (.cond (tK 27) .skip (.exit 2)) (.seq (.block 3 (.seq (.ops [oI 28 27 24 26,oL 29 3 28 3,oA 13 29 3]) (.ops [oM 30 9 27,oM 31 13 3,oC 32 58 [(tK 30),(tK 31)] [27,3] 27,oA 9 32 900003]))) (.ops [oB 33 .add 3 (tK 26) (iK 1) 3 3,oM 26 33 3])))
def A1K:SC:= .loop kL
def kM:SC:= .seq (.ops [oB 21 .lss 3 (tK 20) (tK 19) 3 0]) (.seq (.cond (tK 21) .skip (.exit 0)) (.seq (.block 1 (.seq (.ops [oI 22 22 18 20,oL 23 27 22 27,oA 11 23 27]) (.seq (.ops [oM 24 11 27,oN 25 24 27,oX 26 (.move (iK 0)) 3]) (.block 2 A1K)))) (.ops [oB 34 .add 3 (tK 20) (iK 1) 3 3,oM 20 34 3])))
def A1L:SC:= .loop kM
def kN:SC:= .seq (.ops [oB 48 .lss 3 (tK 47) (tK 46) 3 0]) (.seq (.cond (tK 48) .skip (.exit 4)) (.seq (.block 5 (.seq (.ops [oI 49 22 45 47,oL 50 27 49 27,oA 17 50 27]) (.ops [oM 51 15 22,oM 52 9 27,oM 53 17 27,oC 54 60 [(tK 52),(tK 53)] [27,27] 27,oC 55 59 [(tK 51),(tK 54)] [22,27] 22,oA 15 55 900003]))) (.ops [oB 56 .add 3 (tK 47) (iK 1) 3 3,oM 47 56 3])))
def A1M:SC:= .loop kN
def k36:SC:= .seq (.ops [oX 3 (.box 26 (tK 0)) 0,oX 6 (.alloc 26) 0,oX 7 CG 27,oX 8 BX 4]) (.seq (.ops [oX 9 CG 1000027]) (.seq (.seq (.ops [oM 18 1 22,oN 19 18 22,oX 20 (.move (iK 0)) 3]) (.block 0 A1L)) (.seq (.seq (.ops [oM 35 9 27,oN 36 35 27,oC 37 33 [(tK 36),(iK 1),(iK 8)] [3,3,3] 4,oX 38 (.unOp .not 4 (tK 37)) 4]) (.cond (tK 38) (.seq (.ops [oX 39 (.build 26 #[]) 26,oS 26 6 39,oX 7 CG 27,oX 8 BX 4]) .ret) .skip)) (.seq (.ops [oM 40 9 27,oN 41 40 27,oF 42 26 3 1,oL 43 3 42 3,oX 44 (.build 26 #[(0,(tK 41)),(1,(tK 43))]) 26,oX 14 (.alloc 26) 0,oS 26 14 44]) (.seq (.ops [oX 15 CG 1000022]) (.seq (.seq (.ops [oM 45 1 22,oN 46 45 22,oX 47 (.move (iK 0)) 3]) (.block 4 A1M)) (.seq (.seq (.ops [oM 57 2 4]) (.cond (tK 57) (.seq (.ops [oM 58 15 22,oF 59 26 14 3,oS 22 59 58]) (.ops [oF 60 26 3 2,oL 61 22 60 22,oM 62 9 27,oF 63 26 3 1,oL 64 3 63 3,oC 65 61 [(tK 61),(tK 62),(tK 64)] [22,27,3] 22,oF 66 26 14 2,oS 22 66 65])) (.seq (.ops [oM 67 15 22,oF 68 26 14 2,oS 22 68 67]) (.ops [oF 69 26 3 3,oL 70 22 69 22,oM 71 9 27,oC 72 61 [(tK 70),(tK 71),(iK 2)] [22,27,3] 22,oF 73 26 14 3,oS 22 73 72])))) (.seq (.ops [oL 74 26 14 26,oM 75 9 27,oS 26 6 74,
 oA 7 75 27,oX 8 (.assign Gx) 4]) .ret))))))))
theorem A8b:Tryz.f36.body.map (BI lends)=some k36:=by kernel_rfl
theorem ALc:BR Tryz.f36 3=true:=by kernel_rfl
theorem c36{a l:List D}{r:D×List D}(h:BU Y.env k36 (Du Ab l.length [ResultVar.cell 6 26,ResultVar.tmp 7,ResultVar.tmp 8] r) (entry a l))(ha:a.length=3):Y.call 36 a l=some r:=
 AP (Y:=Y) rfl Tryz.func36 (ha▸ALc) A8b h
def Gr(tL tD:Int)(tN tE Dy:AL)(E9:Bool)(Cc:Int)(t9_1:AA)(J3:Int)(s:St):Prop:=s.v 1=D.sl 27 (AJ Ac Dy)∧s.v 2=D.bool E9∧s.v 3=D.box [D.int .i64 tL,D.int .i64 tD,D.sl 27 (AJ Ac tN),D.sl 27 (AJ Ac tE)]∧s.v 6=D.box [D.int .i64 0,D.int .i64 0,D.own 27 [],D.own 27 []]∧s.v 9=D.sl 3 (AJ (D.int .i64) t9_1)∧s.v 18=D.sl 27 (AJ Ac Dy)∧s.v 19=D.int .i64 (Dy.length:Int)∧s.v 20=D.int .i64 Cc∧s.v 24=D.sl 3 (AJ (D.int .i64) (Dy.getD Cc.toNat default))∧s.v 25=D.int .i64 ((Dy.getD Cc.toNat default).length:Int)∧s.v 26=D.int .i64 J3
def NT(tL tD:Int)(tN tE Dy:AL)(E9:Bool)(Cc:Int)(r:AA)(ex:Ex)(s:St):Prop:=ex= .exit 2∧s.v 1=D.sl 27 (AJ Ac Dy)∧s.v 2=D.bool E9∧s.v 3=D.box [D.int .i64 tL,D.int .i64 tD,D.sl 27 (AJ Ac tN),D.sl 27 (AJ Ac tE)]∧s.v 6=D.box [D.int .i64 0,D.int .i64 0,D.own 27 [],D.own 27 []]∧s.v 9=D.sl 3 (AJ (D.int .i64) r)∧s.v 18=D.sl 27 (AJ Ac Dy)∧s.v 19=D.int .i64 (Dy.length:Int)∧s.v 20=D.int .i64 Cc
theorem aD(tL tD:Int)(tN tE Dy:AL)(E9:Bool)(Cc:Int){v:AA×Int}{s:St}{r:AA}(h:Nr tL tD tN tE Dy E9 Cc v=some r)(hM:Gr tL tD tN tE Dy E9 Cc v.1 v.2 s):BU Y.env A1K (NT tL tD tN tE Dy E9 Cc r) s:=by
 unfold Nr at h;refine Ap (c:=kL) (fun v=>JI tL tD tN tE Dy E9 Cc v.1 v.2) (fun v s=>Gr tL tD tN tE Dy E9 Cc v.1 v.2 s) (NT tL tD tN tE Dy E9 Cc) ?_ h hM;clear h hM s v r;intro v s o hM h;obtain⟨t9_1,J3⟩:=v;dsimp only at h hM;unfold JI at h;unfold Gr at hM;obtain⟨m0,m1,m2,m3,m4,m5,m6,m7,m8,m9,m10⟩:=hM;unfold kL;rcases iS h with⟨e3,h⟩|⟨e3,h⟩
 ·obtain⟨e4,h⟩:=DL h;obtain⟨RU,hl5,h⟩:=AQ h;try dsimp only at h
  have c5:=jv t9_1 ((Dy.getD Cc.toNat default).getD J3.toNat default) hl5;rcases RU with q32_|q32_
  ·dsimp only at h c5;cases h;simp (maxDischargeDepth:=9) only [↓AB,AC,↓reduceIte,Nat.reduceEqDiff,Nat.reduceLT,Nat.reduceAdd,m0,m1,m2,m3,m4,m5,m6,m7,m8,m9,m10,e3,e4.1,e4.2,c5,Gr,Dw]
  ·dsimp only at h c5;cases h;simp (maxDischargeDepth:=9) only [↓AB,AC,↓reduceIte,Nat.reduceEqDiff,Nat.reduceLT,Nat.reduceAdd,m0,m1,m2,m3,m4,m5,m6,m7,m8,m9,m10,e3,e4.1,e4.2,c5,Gr,Dw]
 ·cases h;simp (maxDischargeDepth:=9) only [↓AB,AC,↓reduceIte,Nat.reduceEqDiff,Nat.reduceLT,m0,m1,m2,m3,m4,m5,m6,m7,m9,m10,e3,Gr,NT,Ir]
def JK(tL tD:Int)(tN tE Dy:AL)(E9:Bool)(MZ:AA)(Cc:Int)(s:St):Prop:=s.v 1=D.sl 27 (AJ Ac Dy)∧s.v 2=D.bool E9∧s.v 3=D.box [D.int .i64 tL,D.int .i64 tD,D.sl 27 (AJ Ac tN),D.sl 27 (AJ Ac tE)]∧s.v 6=D.box [D.int .i64 0,D.int .i64 0,D.own 27 [],D.own 27 []]∧s.v 9=D.sl 3 (AJ (D.int .i64) MZ)∧s.v 18=D.sl 27 (AJ Ac Dy)∧s.v 19=D.int .i64 (Dy.length:Int)∧s.v 20=D.int .i64 Cc
def NU(tL tD:Int)(tN tE Dy:AL)(E9:Bool)(r:AA)(ex:Ex)(s:St):Prop:=ex= .exit 0∧s.v 1=D.sl 27 (AJ Ac Dy)∧s.v 2=D.bool E9∧s.v 3=D.box [D.int .i64 tL,D.int .i64 tD,D.sl 27 (AJ Ac tN),D.sl 27 (AJ Ac tE)]∧s.v 6=D.box [D.int .i64 0,D.int .i64 0,D.own 27 [],D.own 27 []]∧s.v 9=D.sl 3 (AJ (D.int .i64) r)
theorem aF(tL tD:Int)(tN tE Dy:AL)(E9:Bool){v:AA×Int}{s:St}{r:AA}(h:Nt tL tD tN tE Dy E9 v=some r)(hM:JK tL tD tN tE Dy E9 v.1 v.2 s):BU Y.env A1L (NU tL tD tN tE Dy E9 r) s:=by
 unfold Nt at h;refine Ap (c:=kM) (fun v=>JJ tL tD tN tE Dy E9 v.1 v.2) (fun v s=>JK tL tD tN tE Dy E9 v.1 v.2 s) (NU tL tD tN tE Dy E9) ?_ h hM;clear h hM s v r;intro v s o hM h;obtain⟨MZ,Cc⟩:=v;dsimp only at h hM;unfold JJ at h;unfold JK at hM;obtain⟨m0,m1,m2,m3,m4,m5,m6,m7⟩:=hM;unfold kM;rcases iS h with⟨e1,h⟩|⟨e1,h⟩
 ·obtain⟨e2,h⟩:=DL h;obtain⟨A8,hl4,h⟩:=AQ h;try dsimp only at h
  simp (maxDischargeDepth:=9) only [↓AB,AC,↓reduceIte,Nat.reduceEqDiff,Nat.reduceLT,m5,m6,m7,e1,e2.1,e2.2];refine AZ (aD tL tD tN tE Dy E9 Cc hl4 ?_) ?_
  ·simp (maxDischargeDepth:=9) only [BC,↓reduceIte,Nat.reduceEqDiff,m0,m1,m2,m3,m4,m5,m6,m7,Gr]
  ·intro ex4 s4 hX4;unfold NT at hX4;obtain⟨rfl,n4_0,n4_1,n4_2,n4_3,n4_4,n4_5,n4_6,n4_7⟩:=hX4;cases h;simp (maxDischargeDepth:=9) only [↓AB,AC,↓reduceIte,Nat.reduceEqDiff,Nat.reduceLT,n4_0,n4_1,n4_2,n4_3,n4_4,n4_5,n4_6,n4_7,JK,Dw]
 ·cases h;simp (maxDischargeDepth:=9) only [↓AB,AC,↓reduceIte,Nat.reduceEqDiff,Nat.reduceLT,m0,m1,m2,m3,m4,m6,m7,e1,JK,NU,Ir]
def ER(tL tD:Int)(tN tE Dy:AL)(E9:Bool)(Ad:AA)(xg:AL)(dH:Int)(s:St):Prop:=s.v 2=D.bool E9∧s.v 3=D.box [D.int .i64 tL,D.int .i64 tD,D.sl 27 (AJ Ac tN),D.sl 27 (AJ Ac tE)]∧s.v 6=D.box [D.int .i64 0,D.int .i64 0,D.own 27 [],D.own 27 []]∧s.v 9=D.sl 3 (AJ (D.int .i64) Ad)∧s.v 14=D.box [D.int .i64 (Ad.length:Int),D.int .i64 tD,D.own 27 [],D.own 27 []]∧s.v 15=D.sl 27 (AJ Ac xg)∧s.v 45=D.sl 27 (AJ Ac Dy)∧s.v 46=D.int .i64 (Dy.length:Int)∧s.v 47=D.int .i64 dH
def NV(tL tD:Int)(tN tE Dy:AL)(E9:Bool)(Ad:AA)(r:AL)(ex:Ex)(s:St):Prop:=ex= .exit 4∧s.v 2=D.bool E9∧s.v 3=D.box [D.int .i64 tL,D.int .i64 tD,D.sl 27 (AJ Ac tN),D.sl 27 (AJ Ac tE)]∧s.v 6=D.box [D.int .i64 0,D.int .i64 0,D.own 27 [],D.own 27 []]∧s.v 9=D.sl 3 (AJ (D.int .i64) Ad)∧s.v 14=D.box [D.int .i64 (Ad.length:Int),D.int .i64 tD,D.own 27 [],D.own 27 []]∧s.v 15=D.sl 27 (AJ Ac r)
theorem aG(tL tD:Int)(tN tE Dy:AL)(E9:Bool)(Ad:AA){v:AL×Int}{s:St}{r:AL}(h:Nu tL tD tN tE Dy E9 Ad v=some r)(hM:ER tL tD tN tE Dy E9 Ad v.1 v.2 s):BU Y.env A1M (NV tL tD tN tE Dy E9 Ad r) s:=by
 unfold Nu at h;refine Ap (c:=kN) (fun v=>Gq tL tD tN tE Dy E9 Ad v.1 v.2) (fun v s=>ER tL tD tN tE Dy E9 Ad v.1 v.2 s) (NV tL tD tN tE Dy E9 Ad) ?_ h hM;clear h hM s v r;intro v s o hM h;obtain⟨xg,dH⟩:=v;dsimp only at h hM;unfold Gq at h;unfold ER at hM;obtain⟨m0,m1,m2,m3,m4,m5,m6,m7,m8⟩:=hM;unfold kN;rcases iS h with⟨e5,h⟩|⟨e5,h⟩
 ·obtain⟨e6,h⟩:=DL h;obtain⟨A8Z,hl7,h⟩:=AQ h;have c7:=X6 Ad (Dy.getD dH.toNat default) hl7;obtain⟨A8a,hl8,h⟩:=AQ h;try dsimp only at h
  have c8:=YB xg A8Z hl8;rcases A8a with q55_|q55_
  ·dsimp only at h c8;by_cases e9:(!q55_.isEmpty)=true
   ·skip
    cases h;simp (maxDischargeDepth:=9) only [↓AB,AC,↓reduceIte,Nat.reduceEqDiff,Nat.reduceLT,Nat.reduceAdd,m0,m1,m2,m3,m4,m5,m6,m7,m8,e5,e6.1,e6.2,c7,c8,e9,ER,Dw]
   ·skip
    have e9f:(!q55_.isEmpty)=false:=Gf.mpr e9;cases h;simp (maxDischargeDepth:=9) only [↓AB,AC,↓reduceIte,Nat.reduceEqDiff,Nat.reduceLT,Nat.reduceAdd,m0,m1,m2,m3,m4,m5,m6,m7,m8,e5,e6.1,e6.2,c7,c8,e9f,ER,Dw]
  ·dsimp only at h c8;by_cases e10:(q55_.any fun x=>(!x.isEmpty))=true
   ·skip
    cases h;simp (maxDischargeDepth:=9) only [↓AB,AC,↓reduceIte,Nat.reduceEqDiff,Nat.reduceLT,Nat.reduceAdd,m0,m1,m2,m3,m4,m5,m6,m7,m8,e5,e6.1,e6.2,c7,c8,e10,ER,Dw]
   ·skip
    have e10f:(q55_.any fun x=>(!x.isEmpty))=false:=Gf.mpr e10;cases h;simp (maxDischargeDepth:=9) only [↓AB,AC,↓reduceIte,Nat.reduceEqDiff,Nat.reduceLT,Nat.reduceAdd,m0,m1,m2,m3,m4,m5,m6,m7,m8,e5,e6.1,e6.2,c7,c8,e10f,ER,Dw]
 ·cases h;simp (maxDischargeDepth:=9) only [↓AB,AC,↓reduceIte,Nat.reduceEqDiff,Nat.reduceLT,m0,m1,m2,m3,m4,m5,m7,m8,e5,ER,NV,Ir]
theorem QG(tL tD:Int)(tN tE Dy:AL)(E9:Bool){r:(Int×Int×AL×AL×AA×Bool)⊕((Int×Int×AL×AL×AA×Bool)⊕(Int×Int×AL×AL×AA×Bool))}(h:Nw tL tD tN tE Dy E9=some r):Y.call 36 [D.agg [D.int .i64 tL,D.int .i64 tD,D.sl 27 (AJ Ac tN),D.sl 27 (AJ Ac tE)],D.sl 27 (AJ Ac Dy),D.bool E9] []=some (match (generalizing:=false) r with| .inl q=>(D.tup [D.agg [D.int .i64 q.1,D.int .i64 q.2.1,D.own 27 (AJ Ac q.2.2.1),D.sl 27 (AJ Ac q.2.2.2.1)],D.sl 3 (AJ (D.int .i64) q.2.2.2.2.1),D.bool q.2.2.2.2.2],[])| .inr (.inl q)=>(D.tup [D.agg [D.int .i64 q.1,D.int .i64 q.2.1,D.sl 27 (AJ Ac q.2.2.1),D.own 27 (AJ Ac q.2.2.2.1)],D.sl 3 (AJ (D.int .i64) q.2.2.2.2.1),D.bool q.2.2.2.2.2],[])| .inr (.inr q)=>(D.tup [D.agg [D.int .i64 q.1,D.int .i64 q.2.1,D.own 27 (AJ IX q.2.2.1),D.own 27 (AJ IX q.2.2.2.1)],D.own 3 (AJ (D.int .i64) q.2.2.2.2.1),D.bool q.2.2.2.2.2],[])):=by
 refine c36 ?_ rfl;unfold k36;unfold Nw at h;obtain⟨Ad,hl2,h⟩:=AQ h;try dsimp only at h
 simp (maxDischargeDepth:=9) only [↓AB,AC,↓reduceIte,Nat.reduceEqDiff,Nat.reduceLT,Nat.reduceSub];refine AZ (aF tL tD tN tE Dy E9 hl2 ?_) ?_
 ·simp (maxDischargeDepth:=9) only [BC,Ce,↓reduceIte,Nat.reduceEqDiff,Nat.reduceLT,JK]<;>(repeat' apply A7)<;>first|rfl|exact⟨_,rfl⟩|exact⟨_,_,rfl⟩|simp [AJ,AU]
 ·intro ex2 s2 hX2;unfold NU at hX2;obtain⟨rfl,n2_0,n2_1,n2_2,n2_3,n2_4⟩:=hX2;have c3:=Td (Ad.length:Int) (1:Int) (8:Int);rcases iS h with⟨e4,h⟩|⟨e4,h⟩
  ·obtain⟨LU,hl6,h⟩:=AQ h;try dsimp only at h
   simp (maxDischargeDepth:=9) only [↓AB,AC,↓reduceIte,Nat.reduceEqDiff,Nat.reduceLT,Nat.reduceLeDiff,Nat.reduceAdd,Nat.reduceSub,n2_0,n2_2,n2_4,c3,e4];refine AZ (aG tL tD tN tE Dy E9 Ad hl6 ?_) ?_
   ·simp (maxDischargeDepth:=9) only [BC,↓reduceIte,Nat.reduceEqDiff,n2_1,n2_2,n2_3,n2_4,ER]<;>(repeat' apply A7)<;>first|rfl|exact⟨_,rfl⟩|exact⟨_,_,rfl⟩|simp [AJ,AU]
   ·intro ex6 s6 hX6;unfold NV at hX6;obtain⟨rfl,n6_0,n6_1,n6_2,n6_3,n6_4,n6_5⟩:=hX6;rcases iS h with⟨e7,h⟩|⟨e7,h⟩
    ·obtain⟨A1J,hl8,h⟩:=AQ h;try dsimp only at h
     have c8:=UI tN Ad tD hl8;cases h;simp (maxDischargeDepth:=9) only [↓AB,AC,↓reduceIte,Nat.reduceEqDiff,Nat.reduceLT,Nat.reduceAdd,n6_0,n6_1,n6_2,n6_3,n6_4,n6_5,e7,c8]
    ·have e7f:E9=false:=Gf.mpr e7;obtain⟨AFE,hl8,h⟩:=AQ h;try dsimp only at h
     have c8:=UI tE Ad (2:Int) hl8;cases h;simp (maxDischargeDepth:=9) only [↓AB,AC,↓reduceIte,Nat.reduceEqDiff,Nat.reduceLT,Nat.reduceAdd,n6_0,n6_1,n6_2,n6_3,n6_4,n6_5,e7f,c8]
  ·have e4f:(OQ (Ad.length:Int) (1:Int) (8:Int))=false:=Gf.mpr e4;cases h;simp (maxDischargeDepth:=9) only [↓AB,AC,↓reduceIte,Nat.reduceEqDiff,Nat.reduceLT,Nat.reduceAdd,n2_3,n2_4,c3,e4f]<;>(repeat' apply A7)<;>first|rfl|exact⟨_,rfl⟩|exact⟨_,_,rfl⟩|simp [AJ,AU]
end Go.Proofs.YtjhjkfoabhplfaaGreat
