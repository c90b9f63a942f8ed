/- The labels of a set, and the labels that stand beside all of a set. Conditions: those in each lemma. -/
import Derived.Test.YtjhjkfoabhplfaaGreatL6
import Derived.Test.YtjhjkfoabhplfaaGreatZer
import Derived.Test.YtjhjkfoabhplfaaGreatBit
namespace Go.Proofs.YtjhjkfoabhplfaaGreat
open Go Dv
set_option linter.unusedSimpArgs false
set_option linter.unusedVariables false
set_option maxRecDepth 100000
set_option maxHeartbeats 4000000
noncomputable def Iw(set_:Int)(out:AA)(a:Int):Option ((AA×Int)⊕(AA)):= ck (¬a<0)<| if(set_.fdiv (2 ^ (min a.toNat (IntKind.i64.bits))))=0 then some (Sum.inr out) else if(Lv .and .i64 (set_.fdiv (2 ^ (min a.toNat (IntKind.i64.bits)))) 1)=1 then ck (out.length+1<1099511627776)<| some (Sum.inl ((out++[a]),IntKind.i64.wrap (a+1))) else some (Sum.inl (out,IntKind.i64.wrap (a+1)))
noncomputable def NM(set_:Int)(v:AA×Int):Option (AA):=Fv (fun v=>Iw set_ v.1 v.2) v
noncomputable def Ms(set_:Int):Option (AA):= (NM set_ ([],0)).bind fun A8=> some A8
def ja:SC:= .seq (.seq (.ops [oM 5 0 3,oM 6 4 3,oB 7 .shr 3 (tK 5) (tK 6) 3 3,oB 8 .neq 3 (tK 7) (iK 0) 3 4]) (.cond (tK 8) .skip (.exit 0))) (.seq (.block 1 (.seq (.ops [oM 11 0 3,oM 12 4 3,oB 13 .shr 3 (tK 11) (tK 12) 3 3,oB 14 .and 3 (tK 13) (iK 1) 3 3,oB 15 .eql 3 (tK 14) (iK 1) 3 4]) (.cond (tK 15) (.ops [oM 16 3 27,oM 17 4 3,oX 18 (.buildSlice 27 1 #[(0,(tK 17))]) 27,oX 19 (.call ⟨(.builtin .append), #[(tK 16),(tK 18)], #[27,27]⟩) 27,oA 3 19 27]) .skip))) (.ops [oM 9 4 3,oB 10 .add 3 (tK 9) (iK 1) 3 3,oA 4 10 3]))
def A0t:SC:= .loop ja
def k66:SC:= .seq (.ops [oX 2 CG 27]) (.seq (.ops [oX 3 CG 27]) (.seq (.seq (.ops [oX 4 (.assign (iK 0)) 3]) (.block 0 A0t)) (.seq (.ops [oM 20 3 27,oA 2 20 27]) .ret)))
theorem A84:Tryz.f66.body.map (BI lends)=some k66:=by kernel_rfl
theorem AKo:BR Tryz.f66 1=true:=by kernel_rfl
theorem c66{a l:List D}{r:D×List D}(h:BU Y.env k66 (Du Ab l.length [ResultVar.tmp 2] r) (entry a l))(ha:a.length=1):Y.call 66 a l=some r:=
 AP (Y:=Y) rfl Tryz.func66 (ha▸AKo) A84 h
def El(set_:Int)(out:AA)(a:Int)(s:St):Prop:=s.v 0=D.int .i64 set_∧s.v 3=D.own 3 (AJ (D.int .i64) out)∧s.v 4=D.int .i64 a
def LB(set_:Int)(r:AA)(ex:Ex)(s:St):Prop:=ex= .exit 0∧s.v 3=D.own 3 (AJ (D.int .i64) r)
theorem X5(set_:Int){v:AA×Int}{s:St}{r:AA}(h:NM set_ v=some r)(hM:El set_ v.1 v.2 s):BU Y.env A0t (LB set_ r) s:=by
 unfold NM at h;refine Ap (c:=ja) (fun v=>Iw set_ v.1 v.2) (fun v s=>El set_ v.1 v.2 s) (LB set_) ?_ h hM;clear h hM s v r;intro v s o hM h;obtain⟨out,a⟩:=v;dsimp only at h hM;unfold Iw at h;unfold El at hM;obtain⟨m0,m1,m2⟩:=hM;unfold ja;obtain⟨e1,h⟩:=DL h;rcases iS h with⟨e2,h⟩|⟨e2,h⟩
 ·cases h;simp only [↓AB,AC,↓reduceIte,Nat.reduceEqDiff,Nat.reduceLT,m0,m1,m2,e1,decide_eq_true e2,El,LB,Ir]
 ·rcases iS h with⟨e3,h⟩|⟨e3,h⟩
  ·obtain⟨e4,h⟩:=DL h;cases h;simp only [↓AB,AC,↓reduceIte,Nat.reduceEqDiff,Nat.reduceLT,Nat.reduceLeDiff,m0,m1,m2,e1,e2,decide_eq_true e3,e4,El,Dw]
  ·cases h;simp only [↓AB,AC,↓reduceIte,Nat.reduceEqDiff,Nat.reduceLT,m0,m1,m2,e1,e2,e3,El,Dw]
theorem Rl(set_:Int){r:AA}(h:Ms set_=some r):Y.call 66 [D.int .i64 set_] []=some (D.own 3 (AJ (D.int .i64) r),[]):=by
 refine c66 ?_ rfl;unfold k66;unfold Ms at h;obtain⟨A8,hl4,h⟩:=AQ h;try dsimp only at h
 simp only [↓AB,AC,↓reduceIte,Nat.reduceEqDiff,Nat.reduceLT];refine AZ (X5 set_ hl4 ?_) ?_
 ·simp only [BC,Ce,↓reduceIte,Nat.reduceEqDiff,Nat.reduceLT,El]<;>(repeat' apply A7)<;>first|rfl|exact⟨_,rfl⟩|exact⟨_,_,rfl⟩|simp [AJ,AU]
 ·intro ex4 s4 hX4;unfold LB at hX4;obtain⟨rfl,n4_0⟩:=hX4;cases h;simp only [↓AB,AC,↓reduceIte,Nat.reduceEqDiff,Nat.reduceLT,n4_0]
noncomputable def OU(pL pD:Int)(pN pE:AL)(x_ y:AA):Option (Bool):= (Qq pL pD pN pE x_ y).bind fun Qr=> some (!Qr.2)
def k65:SC:= .seq (.ops [oX 3 (.box 26 (tK 0)) 0,oX 6 BX 4]) (.seq (.ops [oL 10 26 3 26,oM 11 1 27,oM 12 2 27,oC 13 97 [(tK 10),(tK 11),(tK 12)] [26,27,27] 49,oM 9 13 49,oE 14 9 0 27,oE 15 9 1 4,oA 7 14 27,oA 8 15 4]) (.seq (.ops [oM 16 8 4,oX 17 (.unOp .not 4 (tK 16)) 4,oA 6 17 4]) .ret))
theorem A85:Tryz.f65.body.map (BI lends)=some k65:=by kernel_rfl
theorem AKq:BR Tryz.f65 3=true:=by kernel_rfl
theorem c65{a l:List D}{r:D×List D}(h:BU Y.env k65 (Du Ab l.length [ResultVar.tmp 6] r) (entry a l))(ha:a.length=3):Y.call 65 a l=some r:=
 AP (Y:=Y) rfl Tryz.func65 (ha▸AKq) A85 h
theorem Vq(pL pD:Int)(pN pE:AL)(x_ y:AA){r:Bool}(h:OU pL pD pN pE x_ y=some r):Y.call 65 [D.agg [D.int .i64 pL,D.int .i64 pD,D.sl 27 (AJ Ac pN),D.sl 27 (AJ Ac pE)],D.sl 3 (AJ (D.int .i64) x_),D.sl 3 (AJ (D.int .i64) y)] []=some (D.bool r,[]):=by
 refine c65 ?_ rfl;unfold k65;unfold OU at h;obtain⟨Qr,hl1,h⟩:=AQ h;try dsimp only at h
 have c1:=Zx pL pD pN pE x_ y hl1;cases h;simp only [↓AB,AC,↓reduceIte,Nat.reduceEqDiff,Nat.reduceLT,c1]
noncomputable def JE(pL pD:Int)(pN pE:AL)(set_ out MZ:Int):Option ((Int×Int)⊕(Int)):= if MZ<pL then (Ms set_).bind fun KY=> (OU pL pD pN pE KY [MZ]).bind fun LQ=> if LQ=true then ck (¬MZ<0)<| some (Sum.inl (Lv .or .i64 out (IntKind.i64.wrap (1*2 ^ (min MZ.toNat (IntKind.i64.bits)))),IntKind.i64.wrap (MZ+1))) else some (Sum.inl (out,IntKind.i64.wrap (MZ+1))) else some (Sum.inr out)
noncomputable def Q3(pL pD:Int)(pN pE:AL)(set_:Int)(v:Int×Int):Option (Int):=Fv (fun v=>JE pL pD pN pE set_ v.1 v.2) v
noncomputable def Qs(pL pD:Int)(pN pE:AL)(set_:Int):Option (Int):= (Q3 pL pD pN pE set_ (0,0)).bind fun A8=> some A8
abbrev xf:List Nat:=[12,13,14,15,16,15,6,17]
def jb:SC:= .seq (.ops [oB 10 .lss 3 (tK 9) (tK 8) 3 4]) (.seq (.cond (tK 10) .skip (.exit 0)) (.seq (.block 1 (.seq (.ops [oM 11 9 3,oA 6 11 3]) (.seq (.draws [(⟨[12,2,2],xf,[12]⟩,oL 12 26 2 26),(⟨[13,1,1],xf,[13]⟩,oM 13 1 3),(⟨[14,13,1],xf,[14]⟩,oC 14 66 [(tK 13)] [3] 27),(⟨[15,6,6],xf,[15]⟩,oM 15 6 3),(⟨[16,15,6],xf,[16,15,6]⟩,oX 16 (.buildSlice 27 1 #[(0,(tK 15))]) 27),(⟨[17,12,14,16,2,14,16],xf,[17]⟩,oC 17 65 [(tK 12),(tK 14),(tK 16)] [26,27,27] 4)]) (.cond (tK 17) (.ops [oM 18 5 3,oM 19 6 3,oB 20 .shl 3 (iK 1) (tK 19) 3 3,oB 21 .or 3 (tK 18) (tK 20) 3 3,oA 5 21 3]) .skip)))) (.ops [oB 22 .add 3 (tK 9) (iK 1) 3 3,oM 9 22 3])))
def A0u:SC:= .loop jb
def k40:SC:= .seq (.ops [oX 2 (.box 26 (tK 0)) 0,oX 4 (.assign (iK 0)) 3]) (.seq (.ops [oX 5 (.assign (iK 0)) 3]) (.seq (.seq (.ops [oF 7 26 2 0,oL 8 3 7 3,oX 9 (.move (iK 0)) 3]) (.block 0 A0u)) (.seq (.ops [oM 23 5 3,oA 4 23 3]) .ret)))
theorem A86:Tryz.f40.body.map (BI lends)=some k40:=by kernel_rfl
theorem AKs:BR Tryz.f40 2=true:=by kernel_rfl
theorem c40{a l:List D}{r:D×List D}(h:BU Y.env k40 (Du Ab l.length [ResultVar.tmp 4] r) (entry a l))(ha:a.length=2):Y.call 40 a l=some r:=
 AP (Y:=Y) rfl Tryz.func40 (ha▸AKs) A86 h
def Gp(pL pD:Int)(pN pE:AL)(set_ out MZ:Int)(s:St):Prop:=s.v 1=D.int .i64 set_∧s.v 2=D.box [D.int .i64 pL,D.int .i64 pD,D.sl 27 (AJ Ac pN),D.sl 27 (AJ Ac pE)]∧s.v 5=D.int .i64 out∧s.v 8=D.int .i64 pL∧s.v 9=D.int .i64 MZ
def NN(pL pD:Int)(pN pE:AL)(set_ r:Int)(ex:Ex)(s:St):Prop:=ex= .exit 0∧s.v 5=D.int .i64 r
theorem Zy(pL pD:Int)(pN pE:AL)(set_:Int){v:Int×Int}{s:St}{r:Int}(h:Q3 pL pD pN pE set_ v=some r)(hM:Gp pL pD pN pE set_ v.1 v.2 s):BU Y.env A0u (NN pL pD pN pE set_ r) s:=by
 unfold Q3 at h;refine Ap (c:=jb) (fun v=>JE pL pD pN pE set_ v.1 v.2) (fun v s=>Gp pL pD pN pE set_ v.1 v.2 s) (NN pL pD pN pE set_) ?_ h hM;clear h hM s v r;intro v s o hM h;obtain⟨out,MZ⟩:=v;dsimp only at h hM;unfold JE at h;unfold Gp at hM;obtain⟨m0,m1,m2,m3,m4⟩:=hM;unfold jb;rcases iS h with⟨e1,h⟩|⟨e1,h⟩
 ·obtain⟨KY,hl2,h⟩:=AQ h;have c2:=Rl set_ hl2;obtain⟨LQ,hl3,h⟩:=AQ h;try dsimp only at h
  have c3:=Vq pL pD pN pE KY [MZ] hl3;simp only [Ki,VQ]at c3;rcases iS h with⟨e4,h⟩|⟨e4,h⟩
  ·obtain⟨e5,h⟩:=DL h;cases h;simp only [↓AB,AC,↓reduceIte,Nat.reduceEqDiff,Nat.reduceLT,Nat.reduceLeDiff,m0,m1,m2,m3,m4,e1,c2,c3,e4,e5,Gp,Dw]
  ·have e4f:LQ=false:=Gf.mpr e4;cases h;simp only [↓AB,AC,↓reduceIte,Nat.reduceEqDiff,Nat.reduceLT,Nat.reduceLeDiff,m0,m1,m2,m3,m4,e1,c2,c3,e4f,Gp,Dw]
 ·cases h;simp only [↓AB,AC,↓reduceIte,Nat.reduceEqDiff,Nat.reduceLT,m2,m3,m4,e1,Gp,NN,Ir]
theorem UH(pL pD:Int)(pN pE:AL)(set_:Int){r:Int}(h:Qs pL pD pN pE set_=some r):Y.call 40 [D.agg [D.int .i64 pL,D.int .i64 pD,D.sl 27 (AJ Ac pN),D.sl 27 (AJ Ac pE)],D.int .i64 set_] []=some (D.int .i64 r,[]):=by
 refine c40 ?_ rfl;unfold k40;unfold Qs at h;obtain⟨A8,hl2,h⟩:=AQ h;try dsimp only at h
 simp only [↓AB,AC,↓reduceIte,Nat.reduceEqDiff,Nat.reduceLT,Nat.reduceAdd];refine AZ (Zy pL pD pN pE set_ hl2 ?_) ?_
 ·simp only [BC,Ce,↓reduceIte,Nat.reduceEqDiff,Nat.reduceLT,Gp]
 ·intro ex2 s2 hX2;unfold NN at hX2;obtain⟨rfl,n2_0⟩:=hX2;cases h;simp only [↓AB,AC,↓reduceIte,Nat.reduceEqDiff,Nat.reduceLT,n2_0]
theorem Xh(set:Int)(h:0≤set∧set≤255):Ms set=some (AR set 8):=by
 unfold Ms NM;have key:=JV (fun v=>Iw set v.1 v.2) (fun n s=> ∃i:Nat,n=8-i∧i≤8∧s=(AR set i,(i:Int))) (fun r=>r=AR set 8) ?_ 8 ([],0) ⟨0,rfl,by omega,rfl⟩
 ·obtain⟨r,hr,hq⟩:=key;rw [hr,hq];rfl
 ·rintro n s ⟨i,hn,hi,rfl⟩
  have hl:=Jk set i;simp only [Iw,H5];rw [Ao (by omega),X4 set i (by omega)]
  by_cases hz:set / 2 ^ i=0
  ·rw [if_pos hz];exact .inr ⟨_,rfl,fG set i 8 h.1 hi hz⟩
  ·have hlt:=A82 set i h hz;rw [if_neg hz,ou _ ⟨TB set i h.1,Int.le_trans (uw set i h.1) h.2⟩]
   left
   by_cases hb:set / 2 ^ i % 2=1
   ·rw [if_pos hb,Ao (by omega),H9 i (by omega)]
    exact⟨_,8-(i+1),rfl,by omega,i+1,rfl,by omega,by rw [Le,Ea,if_pos (decide_eq_true hb)]⟩
   ·rw [if_neg hb,H9 i (by omega)]
    exact⟨_,8-(i+1),rfl,by omega,i+1,rfl,by omega,by rw [Le,Ea,if_neg (by simpa using hb)]⟩
def Lm(es:AL)(out:AA)(b:Nat):Bool:=(fF es out [(b:Int)]).isNone
theorem Xi(n:Nat)(D:Int)(ns es:AL)(set:Int)(h:0≤set∧set≤255)(hn:n≤8)(he:Ah es)(hi:LP es=true):Qs (n:Int) D ns es set=some (Az (Lm es (AR set 8)) n):=by
 have hl:=Jk set 8;unfold Qs Q3;have key:=BD (fun v=>JE (n:Int) D ns es set v.1 v.2) (fun i=>(Az (Lm es (AR set 8)) i,(i:Int))) n (Az (Lm es (AR set 8)) n) ?_ ?_
 ·have e0:Az (Lm es (AR set 8)) 0=0:=rfl;rw [e0,Jb]at key;rw [key];rfl
 ·intro i hi';have hr:=Eh (Lm es (AR set 8)) i;have h7:(2:Int) ^ i≤2 ^ 7:=I1 (by omega)
  have e7:(2:Int) ^ 7=128:=by decide
  have e8:min i IntKind.i64.bits=i:=by show min i 64=i;omega
  simp only [JE,H5];rw [if_pos (BZ hi'),Xh set h,Bl];unfold OU;rw [jZ _ _ _ _ _ _ he hi (by omega) (by simp),Bl,Bl,H9 i (by omega)]
  have eb:Lm es (AR set 8) i=(fF es (AR set 8) [(i:Int)]).isNone:=rfl;have em:Az (Lm es (AR set 8)) (i+1)=Az (Lm es (AR set 8)) i+if Lm es (AR set 8) i=true then 2 ^ i else 0:=rfl
  rw [em,eb]
  cases hb:fF es (AR set 8) [(i:Int)]with
  |none=>
   simp only [Bool.not_false,if_true,Option.isNone_none];rw [Ao (by omega),e8,Int.one_mul,Db _ (by have:=gH (m:=i) (show(0:Int)≤2 by decide);omega),uy _ i (by omega) hr]
  |some q=>simp
 ·simp only [JE];rw [if_neg (Ae _)]
end Go.Proofs.YtjhjkfoabhplfaaGreat
