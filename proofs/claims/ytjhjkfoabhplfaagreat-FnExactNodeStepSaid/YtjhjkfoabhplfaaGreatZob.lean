/- The labels of a set, and the labels that stand beside all of a set. Conditions: those in each lemma. -/
import Derived.Test.YtjhjkfoabhplfaaGreatL6
import Derived.Test.YtjhjkfoabhplfaaGreatZer
import Derived.Test.YtjhjkfoabhplfaaGreatBit
namespace Go.Proofs.YtjhjkfoabhplfaaGreat
open Go Dv
set_option linter.unusedSimpArgs false
set_option linter.unusedVariables false
set_option maxRecDepth 100000
set_option maxHeartbeats 4000000
noncomputable def JJ(set_:Int)(out:AL)(a:Int):Option ((AL×Int)⊕(AL)):= ck (¬a<0)<| if(set_.fdiv (2 ^ (min a.toNat (IntKind.i64.bits))))=0 then some (Sum.inr out) else if(Ml .and .i64 (set_.fdiv (2 ^ (min a.toNat (IntKind.i64.bits)))) 1)=1 then ck (out.length+1<1099511627776)<| some (Sum.inl ((out++[a]),IntKind.i64.wrap (a+1))) else some (Sum.inl (out,IntKind.i64.wrap (a+1)))
noncomputable def NU(set_:Int)(v:AL×Int):Option (AL):=Hu (fun v=>JJ set_ v.1 v.2) v
noncomputable def P6(set_:Int):Option (AL):= (NU set_ ([],0)).bind fun AC=> some AC
def gX:SC:= .seq (.seq (.ops [oM 5 0 3,oM 6 4 3,oB 7 .shr 3 (tK 5) (tK 6) 3 3,oB 8 .neq 3 (tK 7) (iK 0) 3 4]) (.cond (tK 8) .skip (.exit 0))) (.seq (.block 1 (.seq (.ops [oM 11 0 3,oM 12 4 3,oB 13 .shr 3 (tK 11) (tK 12) 3 3,oB 14 .and 3 (tK 13) (iK 1) 3 3,oB 15 .eql 3 (tK 14) (iK 1) 3 4]) (.cond (tK 15) (.ops [oM 16 3 27,oM 17 4 3,oX 18 (.buildSlice 27 1 #[(0,(tK 17))]) 27,oX 19 (.call ⟨(.builtin .append), #[(tK 16),(tK 18)], #[27,27]⟩) 27,oA 3 19 27]) .skip))) (.ops [oM 9 4 3,oB 10 .add 3 (tK 9) (iK 1) 3 3,oA 4 10 3]))
def yt:SC:= .loop gX
def k66:SC:= .seq (.ops [oX 2 Ev 27]) (.seq (.ops [oX 3 Ev 27]) (.seq (.seq (.ops [oX 4 (.assign (iK 0)) 3]) (.block 0 yt)) (.seq (.ops [oM 20 3 27,oA 2 20 27]) .ret)))
theorem A66:Tryz.f66.body.map (Bw lends)=some k66:=by kernel_rfl
theorem AIW:CP Tryz.f66 1=true:=by kernel_rfl
theorem c66{a l:List D}{r:D×List D}(h:CG Y.env k66 (FX Ah l.length [ResultVar.tmp 2] r) (entry a l))(ha:a.length=1):Y.call 66 a l=some r:=
 AZ (Y:=Y) rfl Tryz.func66 (ha▸AIW) A66 h
def FN(set_:Int)(out:AL)(a:Int)(s:St):Prop:=s.v 0=D.int .i64 set_∧s.v 3=D.own 3 (AV (D.int .i64) out)∧s.v 4=D.int .i64 a
def La(set_:Int)(r:AL)(ex:Ex)(s:St):Prop:=ex= .exit 0∧s.v 3=D.own 3 (AV (D.int .i64) r)
theorem WL(set_:Int){v:AL×Int}{s:St}{r:AL}(h:NU set_ v=some r)(hM:FN set_ v.1 v.2 s):CG Y.env yt (La set_ r) s:=by
 unfold NU at h;refine BD (c:=gX) (fun v=>JJ set_ v.1 v.2) (fun v s=>FN set_ v.1 v.2 s) (La set_) ?_ h hM;clear h hM s v r;intro v s o hM h;obtain⟨out,a⟩:=v;dsimp only at h hM;unfold JJ at h;unfold FN at hM;obtain⟨m0,m1,m2⟩:=hM;unfold gX;obtain⟨e1,h⟩:=EQ h;rcases iS h with⟨e2,h⟩|⟨e2,h⟩
 ·obtain rfl:=Option.some.inj h
  simp only [↓AR,AU,↓reduceIte,Nat.reduceEqDiff,Nat.reduceLT,m0,m1,m2,e1,decide_eq_true e2,FN,La,KF]
 ·rcases iS h with⟨e3,h⟩|⟨e3,h⟩
  ·obtain⟨e4,h⟩:=EQ h
   obtain rfl:=Option.some.inj h
   simp only [↓AR,AU,↓reduceIte,Nat.reduceEqDiff,Nat.reduceLT,Nat.reduceLeDiff,m0,m1,m2,e1,e2,decide_eq_true e3,e4,FN,FV]
  ·obtain rfl:=Option.some.inj h
   simp only [↓AR,AU,↓reduceIte,Nat.reduceEqDiff,Nat.reduceLT,m0,m1,m2,e1,e2,e3,FN,FV]
theorem XQ(set_:Int){r:AL}(h:P6 set_=some r):Y.call 66 [D.int .i64 set_] []=some (D.own 3 (AV (D.int .i64) r),[]):=by
 refine c66 ?_ rfl;unfold k66;unfold P6 at h;obtain⟨AC,hl4,h⟩:=Aa h;try dsimp only at h
 simp only [↓AR,AU,↓reduceIte,Nat.reduceEqDiff,Nat.reduceLT];refine Ai (WL set_ hl4 ?_) ?_
 ·simp only [Bd,Da,↓reduceIte,Nat.reduceEqDiff,Nat.reduceLT,FN]<;>(repeat' apply A7)<;>first|rfl|exact⟨_,rfl⟩|exact⟨_,_,rfl⟩|simp [AV,Ad]
 ·intro ex4 s4 hX4;unfold La at hX4;obtain⟨rfl,n4_0⟩:=hX4
  obtain rfl:=Option.some.inj h
  simp only [↓AR,AU,↓reduceIte,Nat.reduceEqDiff,Nat.reduceLT,n4_0]
abbrev uy:List Nat:=[12,13,14,15,16,15,6,17]
def A1Q:SC:= .seq (.ops [oB 10 .lss 3 (tK 9) (tK 8) 3 4]) (.seq (.cond (tK 10) .skip (.exit 0)) (.seq (.block 1 (.seq (.ops [oM 11 9 3,oA 6 11 3]) (.seq (.draws [(⟨[12,2,2],uy,[12]⟩,oL 12 26 2 26),(⟨[13,1,1],uy,[13]⟩,oM 13 1 3),(⟨[14,13,1],uy,[14]⟩,oC 14 66 [(tK 13)] [3] 27),(⟨[15,6,6],uy,[15]⟩,oM 15 6 3),(⟨[16,15,6],uy,[16,15,6]⟩,oX 16 (.buildSlice 27 1 #[(0,(tK 15))]) 27),(⟨[17,12,14,16,2,14,16],uy,[17]⟩,oC 17 65 [(tK 12),(tK 14),(tK 16)] [26,27,27] 4)]) (.cond (tK 17) (.ops [oM 18 5 3,oM 19 6 3,oB 20 .shl 3 (iK 1) (tK 19) 3 3,oB 21 .or 3 (tK 18) (tK 20) 3 3,oA 5 21 3]) .skip)))) (.ops [oB 22 .add 3 (tK 9) (iK 1) 3 3,oM 9 22 3])))
def A67:SC:= .loop A1Q
def k40:SC:= .seq (.ops [oX 2 (.box 26 (tK 0)) 0,oX 4 (.assign (iK 0)) 3]) (.seq (.ops [oX 5 (.assign (iK 0)) 3]) (.seq (.seq (.ops [oF 7 26 2 0,oL 8 3 7 3,oX 9 (.move (iK 0)) 3]) (.block 0 A67)) (.seq (.ops [oM 23 5 3,oA 4 23 3]) .ret)))
theorem A68:Tryz.f40.body.map (Bw lends)=some k40:=by kernel_rfl
theorem AIX:CP Tryz.f40 2=true:=by kernel_rfl
theorem c40{a l:List D}{r:D×List D}(h:CG Y.env k40 (FX Ah l.length [ResultVar.tmp 4] r) (entry a l))(ha:a.length=2):Y.call 40 a l=some r:=
 AZ (Y:=Y) rfl Tryz.func40 (ha▸AIX) A68 h
theorem lu(set:Int)(h:0≤set∧set≤255):P6 set=some (Ae set 8):=by
 unfold P6 NU;have key:=Jk (fun v=>JJ set v.1 v.2) (fun n s=> ∃i:Nat,n=8-i∧i≤8∧s=(Ae set i,(i:Int))) (fun r=>r=Ae set 8) ?_ 8 ([],0) ⟨0,rfl,by omega,rfl⟩
 ·obtain⟨r,hr,hq⟩:=key;rw [hr,hq];rfl
 ·rintro n s ⟨i,hn,hi,rfl⟩
  have hl:=P5 set i;simp only [JJ,JD];rw [BF (by omega),WK set i (by omega)]
  by_cases hz:set / 2 ^ i=0
  ·rw [if_pos hz];exact .inr ⟨_,rfl,cO set i 8 h.1 hi hz⟩
  ·have hlt:=A64 set i h hz;rw [if_neg hz,lq _ ⟨SN set i h.1,Int.le_trans (rJ set i h.1) h.2⟩]
   left
   by_cases hb:set / 2 ^ i % 2=1
   ·rw [if_pos hb,BF (by omega),JS i (by omega)]
    exact⟨_,8-(i+1),rfl,by omega,i+1,rfl,by omega,by rw [Lv,FB,if_pos (decide_eq_true hb)]⟩
   ·rw [if_neg hb,JS i (by omega)]
    exact⟨_,8-(i+1),rfl,by omega,i+1,rfl,by omega,by rw [Lv,FB,if_neg (by simpa using hb)]⟩
end Go.Proofs.YtjhjkfoabhplfaaGreat
