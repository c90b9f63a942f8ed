/- The labels of a set, and the labels that stand beside all of a set. Conditions: those in each lemma. -/
import Derived.Test.YtjhjkfoabhplfaaGreatL6
import Derived.Test.YtjhjkfoabhplfaaGreatZer
import Derived.Test.YtjhjkfoabhplfaaGreatBit
namespace Go.Proofs.YtjhjkfoabhplfaaGreat
open Go Dv
set_option linter.unusedSimpArgs false
set_option linter.unusedVariables false
set_option maxRecDepth 100000
set_option maxHeartbeats 4000000
noncomputable def Gf(set_:Int)(out:List Int)(a:Int):Option (((List Int)×Int)⊕((List Int))):= ck (¬a<0)<| if(set_.fdiv (2 ^ (min a.toNat (IntKind.i64.bits))))=0 then some (Sum.inr out) else if(LX .and .i64 (set_.fdiv (2 ^ (min a.toNat (IntKind.i64.bits)))) 1)=1 then ck (out.length+1<1099511627776)<| some (Sum.inl ((out++[a]),IntKind.i64.wrap (a+1))) else some (Sum.inl (out,IntKind.i64.wrap (a+1)))
noncomputable def KH(set_:Int)(v:(List Int)×Int):Option ((List Int)):=Gb (fun v=>Gf set_ v.1 v.2) v
noncomputable def K3(set_:Int):Option ((List Int)):= (KH set_ ([],0)).bind fun DF=> some DF
def ZT:SC:= .seq (.seq (.ops [oM 5 0 3,oM 6 4 3,oB 7 .shr 3 (tK 5) (tK 6) 3 3,oB 8 .neq 3 (tK 7) (iK 0) 3 4]) (.cond (tK 8) .skip (.exit 0))) (.seq (.block 1 (.seq (.ops [oM 11 0 3,oM 12 4 3,oB 13 .shr 3 (tK 11) (tK 12) 3 3,oB 14 .and 3 (tK 13) (iK 1) 3 3,oB 15 .eql 3 (tK 14) (iK 1) 3 4]) (.cond (tK 15) (.ops [oM 16 3 27,oM 17 4 3,oX 18 (.buildSlice 27 1 #[(0,(tK 17))]) 27,oX 19 (.call ⟨(.builtin .append), #[(tK 16),(tK 18)], #[27,27]⟩) 27,oA 3 19 27]) .skip))) (.ops [oM 9 4 3,oB 10 .add 3 (tK 9) (iK 1) 3 3,oA 4 10 3]))
def uF:SC:= .loop ZT
def k66:SC:= .seq (.ops [oX 2 (.assign (.const (.slice none 0 0))) 27]) (.seq (.ops [oX 3 (.assign (.const (.slice none 0 0))) 27]) (.seq (.seq (.ops [oX 4 (.assign (iK 0)) 3]) (.block 0 uF)) (.seq (.ops [oM 20 3 27,oA 2 20 27]) .ret)))
theorem A3k:Tryz.f66.body.map (BO lends)=some k66:=by kernel_rfl
theorem AJC:Bi Tryz.f66 1=true:=by kernel_rfl
theorem c66{a l:List D}{r:D×List D}(h:Bf Y.env k66 (EG AV l.length [ResultVar.tmp 2] r) (entry a l))(ha:a.length=1):Y.call 66 a l=some r:=
 AL (Y:=Y) rfl Tryz.func66 (ha▸AJC) A3k h
def Dw(set_:Int)(out:List Int)(a:Int)(s:St):Prop:=s.v 0=D.int .i64 set_∧s.v 3=D.own 3 (AB (D.int .i64) out)∧s.v 4=D.int .i64 a
def JB(set_:Int)(r:(List Int))(ex:Ex)(s:St):Prop:=ex= .exit 0∧s.v 3=D.own 3 (AB (D.int .i64) r)
theorem Sg(set_:Int){v:(List Int)×Int}{s:St}{r:(List Int)}(h:KH set_ v=some r)(hM:Dw set_ v.1 v.2 s):Bf Y.env uF (JB set_ r) s:=by
 unfold KH at h;refine BA (c:=ZT) (fun v=>Gf set_ v.1 v.2) (fun v s=>Dw set_ v.1 v.2 s) (JB set_) ?_ h hM;clear h hM s v r;intro v s o hM h;obtain⟨out,a⟩:=v;dsimp only at h hM;unfold Gf at h;unfold Dw at hM;obtain⟨m0,m1,m2⟩:=hM;unfold ZT;obtain⟨e1,h⟩:=Av h;by_cases e2:(set_.fdiv (2 ^ (min a.toNat (IntKind.i64.bits))))=0
 ·rw [if_pos e2]at h;cases h;simp (maxDischargeDepth:=9) only [↓AC,A7,AJ,↓reduceIte,Nat.reduceEqDiff,Nat.reduceLT,m0,m1,m2,e1,decide_eq_true e2,Dw,JB,JH]
 ·rw [if_neg e2]at h;by_cases e3:(LX .and .i64 (set_.fdiv (2 ^ (min a.toNat (IntKind.i64.bits)))) 1)=1
  ·rw [if_pos e3]at h;obtain⟨e4,h⟩:=Av h;cases h;simp (maxDischargeDepth:=9) only [↓AC,A7,AO,AA,AJ,↓reduceIte,Nat.reduceEqDiff,Nat.reduceLT,Nat.reduceLeDiff,Nat.reduceAdd,m0,m1,m2,e1,e2,decide_eq_true e3,e4,Dw,FD]
  ·rw [if_neg e3]at h;cases h;simp (maxDischargeDepth:=9) only [↓AC,A7,AJ,↓reduceIte,Nat.reduceEqDiff,Nat.reduceLT,m0,m1,m2,e1,e2,e3,Dw,FD]
theorem OI(set_:Int){r:(List Int)}(h:K3 set_=some r):Y.call 66 [D.int .i64 set_] []=some (D.own 3 (AB (D.int .i64) r),[]):=by
 refine c66 ?_ rfl;unfold k66;unfold K3 at h;obtain⟨DF,hl4,h⟩:=AU h;try dsimp only at h
 simp (maxDischargeDepth:=9) only [↓AC,A7,AA,AJ,↓reduceIte,Nat.reduceEqDiff,Nat.reduceLT];refine Ag (Sg set_ hl4 ?_) ?_
 ·simp (maxDischargeDepth:=9) only [A7,AA,↓reduceIte,Nat.reduceEqDiff,Nat.reduceLT,Dw]<;>(repeat' apply And.intro)<;>first | rfl | exact⟨_,rfl⟩ | exact⟨_,_,rfl⟩ | simp [AB,Aa]
 ·intro ex4 s4 hX4;unfold JB at hX4;obtain⟨rfl,n4_0⟩:=hX4;cases h;simp (maxDischargeDepth:=9) only [↓AC,A7,AO,AA,↓reduceIte,Nat.reduceEqDiff,Nat.reduceLT,n4_0]
noncomputable def LH(pL pD:Int)(pN pE:List (List Int))(x_ y:List Int):Option (Bool):= (NZ pL pD pN pE x_ y).bind fun Cv=> some (!Cv.2)
def k65:SC:= .seq (.ops [oX 3 (.box 26 (tK 0)) 0,oX 6 (.assign (.const (.bool false))) 4]) (.seq (.ops [oL 10 26 3 26,oM 11 1 27,oM 12 2 27,oC 13 97 [(tK 10),(tK 11),(tK 12)] [26,27,27] 49,oM 9 13 49,oE 14 9 0 27,oE 15 9 1 4,oA 7 14 27,oA 8 15 4]) (.seq (.ops [oM 16 8 4,oX 17 (.unOp .not 4 (tK 16)) 4,oA 6 17 4]) .ret))
theorem A3l:Tryz.f65.body.map (BO lends)=some k65:=by kernel_rfl
theorem AJE:Bi Tryz.f65 3=true:=by kernel_rfl
theorem c65{a l:List D}{r:D×List D}(h:Bf Y.env k65 (EG AV l.length [ResultVar.tmp 6] r) (entry a l))(ha:a.length=3):Y.call 65 a l=some r:=
 AL (Y:=Y) rfl Tryz.func65 (ha▸AJE) A3l h
theorem RO(pL pD:Int)(pN pE:List (List Int))(x_ y:List Int){r:Bool}(h:LH pL pD pN pE x_ y=some r):Y.call 65 [D.agg [D.int .i64 pL,D.int .i64 pD,D.sl 27 (AB (fun x=>D.sl 3 (AB (D.int .i64) x)) pN),D.sl 27 (AB (fun x=>D.sl 3 (AB (D.int .i64) x)) pE)],D.sl 3 (AB (D.int .i64) x_),D.sl 3 (AB (D.int .i64) y)] []=some (D.bool r,[]):=by
 refine c65 ?_ rfl;unfold k65;unfold LH at h;obtain⟨Cv,hl1,h⟩:=AU h;try dsimp only at h
 have c1:=Vo pL pD pN pE x_ y hl1;cases h;simp (maxDischargeDepth:=9) only [↓AC,A7,AO,BM,AA,AJ,↓reduceIte,Nat.reduceEqDiff,Nat.reduceLT,Nat.reduceAdd,c1]
noncomputable def Gu(pL pD:Int)(pN pE:List (List Int))(set_ out M0:Int):Option ((Int×Int)⊕(Int)):= if M0<pL then (K3 set_).bind fun Au=> (LH pL pD pN pE Au [M0]).bind fun D6=> if D6=true then ck (¬M0<0)<| some (Sum.inl (LX .or .i64 out (IntKind.i64.wrap (1*2 ^ (min M0.toNat (IntKind.i64.bits)))),IntKind.i64.wrap (M0+1))) else some (Sum.inl (out,IntKind.i64.wrap (M0+1))) else some (Sum.inr out)
noncomputable def Mg(pL pD:Int)(pN pE:List (List Int))(set_:Int)(v:Int×Int):Option (Int):=Gb (fun v=>Gu pL pD pN pE set_ v.1 v.2) v
noncomputable def Nb(pL pD:Int)(pN pE:List (List Int))(set_:Int):Option (Int):= (Mg pL pD pN pE set_ (0,0)).bind fun Au=> some Au
def ZU:SC:= .seq (.ops [oB 10 .lss 3 (tK 9) (tK 8) 3 4]) (.seq (.cond (tK 10) .skip (.exit 0)) (.seq (.block 1 (.seq (.ops [oM 11 9 3,oA 6 11 3]) (.seq (.draws [(⟨[12,2,2],[12,13,14,15,16,15,6,17],[12]⟩,oL 12 26 2 26),(⟨[13,1,1],[12,13,14,15,16,15,6,17],[13]⟩,oM 13 1 3),(⟨[14,13,1],[12,13,14,15,16,15,6,17],[14]⟩,oC 14 66 [(tK 13)] [3] 27),(⟨[15,6,6],[12,13,14,15,16,15,6,17],[15]⟩,oM 15 6 3),(⟨[16,15,6],[12,13,14,15,16,15,6,17],[16,15,6]⟩,oX 16 (.buildSlice 27 1 #[(0,(tK 15))]) 27),(⟨[17,12,14,16,2,14,16],[12,13,14,15,16,15,6,17],[17]⟩,oC 17 65 [(tK 12),(tK 14),(tK 16)] [26,27,27] 4)]) (.cond (tK 17) (.ops [oM 18 5 3,oM 19 6 3,oB 20 .shl 3 (iK 1) (tK 19) 3 3,oB 21 .or 3 (tK 18) (tK 20) 3 3,oA 5 21 3]) .skip)))) (.ops [oB 22 .add 3 (tK 9) (iK 1) 3 3,oM 9 22 3])))
def uG:SC:= .loop ZU
def k40:SC:= .seq (.ops [oX 2 (.box 26 (tK 0)) 0,oX 4 (.assign (iK 0)) 3]) (.seq (.ops [oX 5 (.assign (iK 0)) 3]) (.seq (.seq (.ops [oF 7 26 2 0,oL 8 3 7 3,oX 9 (.move (iK 0)) 3]) (.block 0 uG)) (.seq (.ops [oM 23 5 3,oA 4 23 3]) .ret)))
theorem A3m:Tryz.f40.body.map (BO lends)=some k40:=by kernel_rfl
theorem AJG:Bi Tryz.f40 2=true:=by kernel_rfl
theorem c40{a l:List D}{r:D×List D}(h:Bf Y.env k40 (EG AV l.length [ResultVar.tmp 4] r) (entry a l))(ha:a.length=2):Y.call 40 a l=some r:=
 AL (Y:=Y) rfl Tryz.func40 (ha▸AJG) A3m h
def FN(pL pD:Int)(pN pE:List (List Int))(set_ out M0:Int)(s:St):Prop:=s.v 1=D.int .i64 set_∧s.v 2=D.box [D.int .i64 pL,D.int .i64 pD,D.sl 27 (AB (fun x=>D.sl 3 (AB (D.int .i64) x)) pN),D.sl 27 (AB (fun x=>D.sl 3 (AB (D.int .i64) x)) pE)]∧s.v 5=D.int .i64 out∧s.v 8=D.int .i64 pL∧s.v 9=D.int .i64 M0
def KI(pL pD:Int)(pN pE:List (List Int))(set_ r:Int)(ex:Ex)(s:St):Prop:=ex= .exit 0∧s.v 5=D.int .i64 r
theorem Vq(pL pD:Int)(pN pE:List (List Int))(set_:Int){v:Int×Int}{s:St}{r:Int}(h:Mg pL pD pN pE set_ v=some r)(hM:FN pL pD pN pE set_ v.1 v.2 s):Bf Y.env uG (KI pL pD pN pE set_ r) s:=by
 unfold Mg at h;refine BA (c:=ZU) (fun v=>Gu pL pD pN pE set_ v.1 v.2) (fun v s=>FN pL pD pN pE set_ v.1 v.2 s) (KI pL pD pN pE set_) ?_ h hM;clear h hM s v r;intro v s o hM h;obtain⟨out,M0⟩:=v;dsimp only at h hM;unfold Gu at h;unfold FN at hM;obtain⟨m0,m1,m2,m3,m4⟩:=hM;unfold ZU;by_cases e1:M0<pL
 ·rw [if_pos e1]at h;obtain⟨Au,hl2,h⟩:=AU h;try dsimp only at h
  have c2:=OI set_ hl2;obtain⟨D6,hl3,h⟩:=AU h;try dsimp only at h
  have c3:=RO pL pD pN pE Au [M0] hl3;simp only [Hq,Qr]at c3;by_cases e4:D6=true
  ·rw [if_pos e4]at h;obtain⟨e5,h⟩:=Av h;cases h;simp (maxDischargeDepth:=9) only [↓AC,A7,AO,BM,AA,AJ,↓reduceIte,Nat.reduceEqDiff,Nat.reduceLT,Nat.reduceLeDiff,Nat.reduceAdd,m0,m1,m2,m3,m4,e1,c2,c3,e4,e5,FN,FD]
  ·rw [if_neg e4]at h;have e4f:D6=false:=Bool.eq_false_iff.mpr e4;cases h;simp (maxDischargeDepth:=9) only [↓AC,A7,AO,BM,AA,AJ,↓reduceIte,Nat.reduceEqDiff,Nat.reduceLT,Nat.reduceLeDiff,Nat.reduceAdd,m0,m1,m2,m3,m4,e1,c2,c3,e4f,FN,FD]
 ·rw [if_neg e1]at h;cases h;simp (maxDischargeDepth:=9) only [↓AC,A7,AJ,↓reduceIte,Nat.reduceEqDiff,Nat.reduceLT,m2,m3,m4,e1,FN,KI,JH]
theorem Pj(pL pD:Int)(pN pE:List (List Int))(set_:Int){r:Int}(h:Nb pL pD pN pE set_=some r):Y.call 40 [D.agg [D.int .i64 pL,D.int .i64 pD,D.sl 27 (AB (fun x=>D.sl 3 (AB (D.int .i64) x)) pN),D.sl 27 (AB (fun x=>D.sl 3 (AB (D.int .i64) x)) pE)],D.int .i64 set_] []=some (D.int .i64 r,[]):=by
 refine c40 ?_ rfl;unfold k40;unfold Nb at h;obtain⟨Au,hl2,h⟩:=AU h;try dsimp only at h
 simp (maxDischargeDepth:=9) only [↓AC,A7,AA,AJ,↓reduceIte,Nat.reduceEqDiff,Nat.reduceLT,Nat.reduceAdd];refine Ag (Vq pL pD pN pE set_ hl2 ?_) ?_
 ·simp (maxDischargeDepth:=9) only [A7,AA,↓reduceIte,Nat.reduceEqDiff,Nat.reduceLT,FN]
 ·intro ex2 s2 hX2;unfold KI at hX2;obtain⟨rfl,n2_0⟩:=hX2;cases h;simp (maxDischargeDepth:=9) only [↓AC,A7,AA,↓reduceIte,Nat.reduceEqDiff,Nat.reduceLT,n2_0]
theorem TU(set:Int)(h:0≤set∧set≤255):K3 set=some (AZ set 8):=by
 unfold K3 KH;have key:=KD (fun v=>Gf set v.1 v.2) (fun n s=> ∃i:Nat,n=8-i∧i≤8∧s=(AZ set i,(i:Int))) (fun r=>r=AZ set 8) ?_ 8 ([],0) ⟨0,rfl,by omega,rfl⟩
 ·obtain⟨r,hr,hq⟩:=key;rw [hr,hq];rfl
 ·rintro n s ⟨i,hn,hi,rfl⟩
  have hl:=Jz set i;simp only [Gf,Int.toNat_natCast];rw [Az (by omega),Xx set i (by omega)]
  by_cases hz:set / 2 ^ i=0
  ·rw [if_pos hz];exact .inr ⟨_,rfl,nP set i 8 h.1 hi hz⟩
  ·have hlt:=A3i set i h hz;rw [if_neg hz,uE _ ⟨TS set i h.1,Int.le_trans (xe set i h.1) h.2⟩]
   left
   by_cases hb:set / 2 ^ i % 2=1
   ·rw [if_pos hb,Az (by omega),JM i (by omega)]
    exact⟨_,8-(i+1),rfl,by omega,i+1,rfl,by omega,by rw [Mf,O9,if_pos (decide_eq_true hb)]⟩
   ·rw [if_neg hb,JM i (by omega)]
    exact⟨_,8-(i+1),rfl,by omega,i+1,rfl,by omega,by rw [Mf,O9,if_neg (by simpa using hb)]⟩
def JO(es:List (List Int))(out:List Int)(b:Nat):Bool:=(Xw es out [(b:Int)]).isNone
theorem TV(n:Nat)(D:Int)(ns es:List (List Int))(set:Int)(h:0≤set∧set≤255)(hn:n≤8)(he:Ai es)(hi:QF es=true):Nb (n:Int) D ns es set=some (H9 (JO es (AZ set 8)) n):=by
 have hl:=Jz set 8;unfold Nb Mg;have key:=Be (fun v=>Gu (n:Int) D ns es set v.1 v.2) (fun i=>(H9 (JO es (AZ set 8)) i,(i:Int))) n (H9 (JO es (AZ set 8)) n) ?_ ?_
 ·have e0:H9 (JO es (AZ set 8)) 0=0:=rfl;rw [e0,Int.natCast_zero]at key;rw [key];rfl
 ·intro i hi';have hr:=PX (JO es (AZ set 8)) i;have h7:(2:Int) ^ i≤2 ^ 7:=Na (by omega)
  have e7:(2:Int) ^ 7=128:=by decide
  have e8:min i IntKind.i64.bits=i:=by show min i 64=i;omega
  simp only [Gu,Int.toNat_natCast];rw [if_pos (CJ hi'),TU set h,Option.bind_some];unfold LH;rw [ZR _ _ _ _ _ _ he hi (by omega) (by simp),Option.bind_some,Option.bind_some,JM i (by omega)]
  have eb:JO es (AZ set 8) i=(Xw es (AZ set 8) [(i:Int)]).isNone:=rfl;have em:H9 (JO es (AZ set 8)) (i+1)=H9 (JO es (AZ set 8)) i+if JO es (AZ set 8) i=true then 2 ^ i else 0:=rfl
  rw [em,eb]
  cases hb:Xw es (AZ set 8) [(i:Int)]with
  | none=>
   simp only [Bool.not_false,if_true,Option.isNone_none];rw [Az (by omega),e8,Int.one_mul,Ie _ (by have:=Int.pow_nonneg (m:=i) (show(0:Int)≤2 by decide);omega),xf _ i (by omega) hr]
  | some q=>simp
 ·simp only [Gu];rw [if_neg (Ak _)]
end Go.Proofs.YtjhjkfoabhplfaaGreat
