/- The labels of a set, and the labels that stand beside all of a set. Conditions: those in each lemma. -/
import Derived.Test.YtjhjkfoabhplfaaGreatL6
import Derived.Test.YtjhjkfoabhplfaaGreatZer
import Derived.Test.YtjhjkfoabhplfaaGreatBit
namespace Go.Proofs.YtjhjkfoabhplfaaGreat
open Go Dv
set_option linter.unusedSimpArgs false
set_option linter.unusedVariables false
set_option maxRecDepth 100000
set_option maxHeartbeats 4000000
noncomputable def II(set_:Int)(out:List Int)(a:Int):Option (((List Int)×Int)⊕((List Int))):= ck (¬a<0)<| if(set_.fdiv (2 ^ (min a.toNat (IntKind.i64.bits))))=0 then some (Sum.inr out) else if(Kj .and .i64 (set_.fdiv (2 ^ (min a.toNat (IntKind.i64.bits)))) 1)=1 then ck (out.length+1<1099511627776)<| some (Sum.inl ((out++[a]),IntKind.i64.wrap (a+1))) else some (Sum.inl (out,IntKind.i64.wrap (a+1)))
noncomputable def MJ(set_:Int)(v:(List Int)×Int):Option ((List Int)):=GQ (fun v=>II set_ v.1 v.2) v
noncomputable def O0(set_:Int):Option ((List Int)):= (MJ set_ ([],0)).bind fun sK=> some sK
def dW:SC:= .seq (.seq (.ops [oM 5 0 3,oM 6 4 3,oB 7 .shr 3 (tK 5) (tK 6) 3 3,oB 8 .neq 3 (tK 7) (iK 0) 3 4]) (.cond (tK 8) .skip (.exit 0))) (.seq (.block 1 (.seq (.ops [oM 11 0 3,oM 12 4 3,oB 13 .shr 3 (tK 11) (tK 12) 3 3,oB 14 .and 3 (tK 13) (iK 1) 3 3,oB 15 .eql 3 (tK 14) (iK 1) 3 4]) (.cond (tK 15) (.ops [oM 16 3 27,oM 17 4 3,oX 18 (.buildSlice 27 1 #[(0,(tK 17))]) 27,oX 19 (.call ⟨(.builtin .append), #[(tK 16),(tK 18)], #[27,27]⟩) 27,oA 3 19 27]) .skip))) (.ops [oM 9 4 3,oB 10 .add 3 (tK 9) (iK 1) 3 3,oA 4 10 3]))
def xf:SC:= .loop dW
def k66:SC:= .seq (.ops [oX 2 (.assign (.const (.slice none 0 0))) 27]) (.seq (.ops [oX 3 (.assign (.const (.slice none 0 0))) 27]) (.seq (.seq (.ops [oX 4 (.assign (iK 0)) 3]) (.block 0 xf)) (.seq (.ops [oM 20 3 27,oA 2 20 27]) .ret)))
theorem A5S:Tryz.f66.body.map (BP lends)=some k66:=by kernel_rfl
theorem AHr:Be Tryz.f66 1=true:=by kernel_rfl
theorem c66{a l:List D}{r:D×List D}(h:BZ Y.env k66 (Eh AX l.length [ResultVar.tmp 2] r) (entry a l))(ha:a.length=1):Y.call 66 a l=some r:=
 AJ (Y:=Y) rfl Tryz.func66 (ha▸AHr) A5S h
def EY(set_:Int)(out:List Int)(a:Int)(s:St):Prop:=s.v 0=D.int .i64 set_∧s.v 3=D.own 3 (A8 (D.int .i64) out)∧s.v 4=D.int .i64 a
def KU(set_:Int)(r:(List Int))(ex:Ex)(s:St):Prop:=ex= .exit 0∧s.v 3=D.own 3 (A8 (D.int .i64) r)
theorem VI(set_:Int){v:(List Int)×Int}{s:St}{r:(List Int)}(h:MJ set_ v=some r)(hM:EY set_ v.1 v.2 s):BZ Y.env xf (KU set_ r) s:=by
 unfold MJ at h;refine Ao (c:=dW) (fun v=>II set_ v.1 v.2) (fun v s=>EY set_ v.1 v.2 s) (KU set_) ?_ h hM;clear h hM s v r;intro v s o hM h;obtain⟨out,a⟩:=v;dsimp only at h hM;unfold II at h;unfold EY at hM;obtain⟨m0,m1,m2⟩:=hM;unfold dW;obtain⟨e1,h⟩:=Ar h;by_cases e2:(set_.fdiv (2 ^ (min a.toNat (IntKind.i64.bits))))=0
 ·rw [if_pos e2]at h;cases h;simp only [↓AB,AC,↓reduceIte,Nat.reduceEqDiff,Nat.reduceLT,m0,m1,m2,e1,decide_eq_true e2,EY,KU,JK]
 ·rw [if_neg e2]at h;by_cases e3:(Kj .and .i64 (set_.fdiv (2 ^ (min a.toNat (IntKind.i64.bits)))) 1)=1
  ·rw [if_pos e3]at h;obtain⟨e4,h⟩:=Ar h;cases h;simp only [↓AB,AC,↓reduceIte,Nat.reduceEqDiff,Nat.reduceLT,Nat.reduceLeDiff,m0,m1,m2,e1,e2,decide_eq_true e3,e4,EY,Ef]
  ·rw [if_neg e3]at h;cases h;simp only [↓AB,AC,↓reduceIte,Nat.reduceEqDiff,Nat.reduceLT,m0,m1,m2,e1,e2,e3,EY,Ef]
theorem WN(set_:Int){r:(List Int)}(h:O0 set_=some r):Y.call 66 [D.int .i64 set_] []=some (D.own 3 (A8 (D.int .i64) r),[]):=by
 refine c66 ?_ rfl;unfold k66;unfold O0 at h;obtain⟨sK,hl4,h⟩:=AO h;try dsimp only at h
 simp only [↓AB,AC,↓reduceIte,Nat.reduceEqDiff,Nat.reduceLT];refine AY (VI set_ hl4 ?_) ?_
 ·simp only [BG,Co,↓reduceIte,Nat.reduceEqDiff,Nat.reduceLT,EY]<;>(repeat' apply A7)<;>first | rfl | exact⟨_,rfl⟩ | exact⟨_,_,rfl⟩ | simp [A8,AR]
 ·intro ex4 s4 hX4;unfold KU at hX4;obtain⟨rfl,n4_0⟩:=hX4;cases h;simp only [↓AB,AC,↓reduceIte,Nat.reduceEqDiff,Nat.reduceLT,n4_0]
def A0b:SC:= .seq (.ops [oB 10 .lss 3 (tK 9) (tK 8) 3 4]) (.seq (.cond (tK 10) .skip (.exit 0)) (.seq (.block 1 (.seq (.ops [oM 11 9 3,oA 6 11 3]) (.seq (.draws [(⟨[12,2,2],[12,13,14,15,16,15,6,17],[12]⟩,oL 12 26 2 26),(⟨[13,1,1],[12,13,14,15,16,15,6,17],[13]⟩,oM 13 1 3),(⟨[14,13,1],[12,13,14,15,16,15,6,17],[14]⟩,oC 14 66 [(tK 13)] [3] 27),(⟨[15,6,6],[12,13,14,15,16,15,6,17],[15]⟩,oM 15 6 3),(⟨[16,15,6],[12,13,14,15,16,15,6,17],[16,15,6]⟩,oX 16 (.buildSlice 27 1 #[(0,(tK 15))]) 27),(⟨[17,12,14,16,2,14,16],[12,13,14,15,16,15,6,17],[17]⟩,oC 17 65 [(tK 12),(tK 14),(tK 16)] [26,27,27] 4)]) (.cond (tK 17) (.ops [oM 18 5 3,oM 19 6 3,oB 20 .shl 3 (iK 1) (tK 19) 3 3,oB 21 .or 3 (tK 18) (tK 20) 3 3,oA 5 21 3]) .skip)))) (.ops [oB 22 .add 3 (tK 9) (iK 1) 3 3,oM 9 22 3])))
def A5T:SC:= .loop A0b
def k40:SC:= .seq (.ops [oX 2 (.box 26 (tK 0)) 0,oX 4 (.assign (iK 0)) 3]) (.seq (.ops [oX 5 (.assign (iK 0)) 3]) (.seq (.seq (.ops [oF 7 26 2 0,oL 8 3 7 3,oX 9 (.move (iK 0)) 3]) (.block 0 A5T)) (.seq (.ops [oM 23 5 3,oA 4 23 3]) .ret)))
theorem A5U:Tryz.f40.body.map (BP lends)=some k40:=by kernel_rfl
theorem AHs:Be Tryz.f40 2=true:=by kernel_rfl
theorem c40{a l:List D}{r:D×List D}(h:BZ Y.env k40 (Eh AX l.length [ResultVar.tmp 4] r) (entry a l))(ha:a.length=2):Y.call 40 a l=some r:=
 AJ (Y:=Y) rfl Tryz.func40 (ha▸AHs) A5U h
theorem kC(set:Int)(h:0≤set∧set≤255):O0 set=some (AU set 8):=by
 unfold O0 MJ;have key:=Im (fun v=>II set v.1 v.2) (fun n s=> ∃i:Nat,n=8-i∧i≤8∧s=(AU set i,(i:Int))) (fun r=>r=AU set 8) ?_ 8 ([],0) ⟨0,rfl,by omega,rfl⟩
 ·obtain⟨r,hr,hq⟩:=key;rw [hr,hq];rfl
 ·rintro n s ⟨i,hn,hi,rfl⟩
  have hl:=Nz set i;simp only [II,IA];rw [Am (by omega),VH set i (by omega)]
  by_cases hz:set / 2 ^ i=0
  ·rw [if_pos hz];exact .inr ⟨_,rfl,aF set i 8 h.1 hi hz⟩
  ·have hlt:=A5Q set i h hz;rw [if_neg hz,jy _ ⟨RG set i h.1,Int.le_trans (pK set i h.1) h.2⟩]
   left
   by_cases hb:set / 2 ^ i % 2=1
   ·rw [if_pos hb,Am (by omega),IR i (by omega)]
    exact⟨_,8-(i+1),rfl,by omega,i+1,rfl,by omega,by rw [Ko,EQ,if_pos (decide_eq_true hb)]⟩
   ·rw [if_neg hb,IR i (by omega)]
    exact⟨_,8-(i+1),rfl,by omega,i+1,rfl,by omega,by rw [Ko,EQ,if_neg (by simpa using hb)]⟩
end Go.Proofs.YtjhjkfoabhplfaaGreat
