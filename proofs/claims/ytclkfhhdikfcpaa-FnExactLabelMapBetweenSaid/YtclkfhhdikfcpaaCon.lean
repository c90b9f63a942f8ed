/- Membership of a number, as a plain function. Conditions: the list is short. -/
import Derived.Test.YtclkfhhdikfcpaaL6
import Derived.Test.YtclkfhhdikfcpaaIsP
namespace Go.Proofs.Ytclkfhhdikfcpaa
open Go Dv
set_option linter.unusedSimpArgs false
set_option linter.unusedVariables false
set_option maxRecDepth 100000
set_option maxHeartbeats 4000000
noncomputable def I5(l:List Int)(n_:Int)(Lh:Int):Option ((Int)⊕(Unit⊕Unit)):= if Lh<(l.length:Int)then ck (0≤Lh∧Lh.toNat<l.length)<| if(l.getD Lh.toNat default)=n_ then some (Sum.inr (Sum.inl ())) else some (Sum.inl (IntKind.i64.wrap (Lh+1))) else some (Sum.inr (Sum.inr ()))
noncomputable def M9(l:List Int)(n_:Int)(v:Int):Option (Unit⊕Unit):=Iw (fun v=>I5 l n_ v) v
noncomputable def RQ(l:List Int)(n_:Int):Option (Bool):=
 (M9 l n_ 0).bind fun AO=>
 match AO with
 | .inl q1000_=>
  some true
 | .inr q1000_=>
  some false
def WU:SC:= .seq (.ops [oB 10 .lss 3 (tK 9) (tK 8) 3 0]) (.seq (.cond (tK 10) .skip (.exit 0)) (.seq (.block 1 (.seq (.ops [oI 11 26 7 9,oL 12 3 11 3,oA 6 12 3]) (.seq (.ops [oM 13 6 3,oM 14 1 3,oB 15 .eql 3 (tK 13) (tK 14) 3 4]) (.cond (tK 15) (.seq (.ops [oX 4 (.assign (.const (.bool true))) 4]) .ret) .skip)))) (.ops [oB 16 .add 3 (tK 9) (iK 1) 3 3,oM 9 16 3])))
def jF:SC:= .loop WU
def k89:SC:= .seq (.ops [oX 4 (.assign (.const (.bool false))) 4]) (.seq (.seq (.ops [oM 7 0 26,oN 8 7 26,oX 9 (.move (iK 0)) 3]) (.block 0 jF)) (.seq (.ops [oX 4 (.assign (.const (.bool false))) 4]) .ret))
theorem zO:Try.f89.body.map (Ct lends)=some k89:=by kernel_rfl
theorem AAE:DL Try.f89 2=true:=by kernel_rfl
theorem c89{a l:List D}{r:D×List D}(h:D6 Y.env k89 (I6 Aa l.length [ResultVar.tmp 4] r) (entry a l))(ha:a.length=2):Y.call 89 a l=some r:=
 Ag (Y:=Y) rfl Try.func89 (ha▸AAE) zO h
def GY(l:List Int)(n_:Int)(Lh:Int)(s:St):Prop:=s.v 1=D.int .i64 n_∧s.v 7=D.sl 3 (A9 (D.int .i64) l)∧s.v 8=D.int .i64 (l.length:Int)∧s.v 9=D.int .i64 Lh
def GZ(l:List Int)(n_:Int)(r:Unit⊕Unit)(ex:Ex)(s:St):Prop:=match r with
 | .inl q=>ex= .ret∧s.v 4=D.bool true
 | .inr q=>ex= .exit 0
theorem UV(l:List Int)(n_:Int){v:Int}{s:St}{r:Unit⊕Unit}(h:M9 l n_ v=some r)(hM:GY l n_ v s):D6 Y.env jF (GZ l n_ r) s:=by
 unfold M9 at h;refine CX (c:=WU) (fun v=>I5 l n_ v) (fun v s=>GY l n_ v s) (GZ l n_) ?_ h hM;clear h hM s v r;intro Lh s o hM h;unfold I5 at h;unfold GY at hM;obtain⟨m0,m1,m2,m3⟩:=hM;unfold WU;by_cases e1:Lh<(l.length:Int)
 ·rw [if_pos e1]at h;obtain⟨e2,h⟩:=Bw h;by_cases e3:(l.getD Lh.toNat default)=n_
  ·rw [if_pos e3]at h
   obtain rfl:=Option.some.inj h
   simp (maxDischargeDepth:=9) only [↓AB,AC,Ah,↓reduceIte,Nat.reduceEqDiff,Nat.reduceLT,Nat.reduceLeDiff,Nat.reduceAdd,Nat.reduceMul,Nat.reduceMod,Nat.reduceDiv,Nat.reducePow,Nat.reduceSub,Nat.reduceBEq,Int.reduceLE,Int.reduceLT,Int.reduceEq,Int.reduceSub,Int.reduceAdd,Int.reduceToNat,Int.reduceNeg,m0,m1,m2,m3,e1,e2.1,e2.2,decide_eq_true e3,GY,GZ,DN,DR,DT]<;>(repeat' apply A7)<;>first|rfl|exact⟨_,rfl⟩|exact⟨_,_,rfl⟩|simp [A9,A8]
  ·rw [if_neg e3]at h
   obtain rfl:=Option.some.inj h
   simp (maxDischargeDepth:=9) only [↓AB,AC,Ah,↓reduceIte,Nat.reduceEqDiff,Nat.reduceLT,Nat.reduceLeDiff,Nat.reduceAdd,Nat.reduceMul,Nat.reduceMod,Nat.reduceDiv,Nat.reducePow,Nat.reduceSub,Nat.reduceBEq,Int.reduceLE,Int.reduceLT,Int.reduceEq,Int.reduceSub,Int.reduceAdd,Int.reduceToNat,Int.reduceNeg,m0,m1,m2,m3,e1,e2.1,e2.2,e3,GY,GZ,DN,DR,DT]<;>(repeat' apply A7)<;>first|rfl|exact⟨_,rfl⟩|exact⟨_,_,rfl⟩|simp [A9,A8]
 ·rw [if_neg e1]at h
  obtain rfl:=Option.some.inj h
  simp (maxDischargeDepth:=9) only [↓AB,AC,Ah,↓reduceIte,Nat.reduceEqDiff,Nat.reduceLT,Nat.reduceLeDiff,Nat.reduceAdd,Nat.reduceMul,Nat.reduceMod,Nat.reduceDiv,Nat.reducePow,Nat.reduceSub,Nat.reduceBEq,Int.reduceLE,Int.reduceLT,Int.reduceEq,Int.reduceSub,Int.reduceAdd,Int.reduceToNat,Int.reduceNeg,m0,m1,m2,m3,e1,GY,GZ,DN,DR,DT]<;>(repeat' apply A7)<;>first|rfl|exact⟨_,rfl⟩|exact⟨_,_,rfl⟩|simp [A9,A8]
theorem WV(l:List Int)(n_:Int){r:Bool}(h:RQ l n_=some r):Y.call 89 [D.sl 3 (A9 (D.int .i64) l),D.int .i64 n_] []=some (D.bool r,[]):=by
 refine c89 ?_ rfl;unfold k89;unfold RQ at h;obtain⟨AO,hl2,h⟩:=BC h;try dsimp only at h
 simp (maxDischargeDepth:=9) only [↓AB,AC,Ah,↓reduceIte,Nat.reduceEqDiff,Nat.reduceLT,Nat.reduceLeDiff,Nat.reduceAdd,Nat.reduceMul,Nat.reduceMod,Nat.reduceDiv,Nat.reducePow,Nat.reduceSub,Nat.reduceBEq,Int.reduceLE,Int.reduceLT,Int.reduceEq,Int.reduceSub,Int.reduceAdd,Int.reduceToNat,Int.reduceNeg];refine Bh (UV l n_ hl2 ?_) ?_
 ·simp (maxDischargeDepth:=9) only [↓AB,AC,Ah,↓reduceIte,Nat.reduceEqDiff,Nat.reduceLT,Nat.reduceLeDiff,Nat.reduceAdd,Nat.reduceMul,Nat.reduceMod,Nat.reduceDiv,Nat.reducePow,Nat.reduceSub,Nat.reduceBEq,Int.reduceLE,Int.reduceLT,Int.reduceEq,Int.reduceSub,Int.reduceAdd,Int.reduceToNat,Int.reduceNeg,GY]<;>(repeat' apply A7)<;>first|rfl|exact⟨_,rfl⟩|exact⟨_,_,rfl⟩|simp [A9,A8]
 ·intro ex2 s2 hX2;rcases AO with q1000_|q1000_
  ·unfold GZ at hX2;dsimp only at hX2 h;obtain⟨rfl,n2_0⟩:=hX2
   obtain rfl:=Option.some.inj h
   simp (maxDischargeDepth:=9) only [↓AB,AC,Ah,↓reduceIte,Nat.reduceEqDiff,Nat.reduceLT,Nat.reduceLeDiff,Nat.reduceAdd,Nat.reduceMul,Nat.reduceMod,Nat.reduceDiv,Nat.reducePow,Nat.reduceSub,Nat.reduceBEq,Int.reduceLE,Int.reduceLT,Int.reduceEq,Int.reduceSub,Int.reduceAdd,Int.reduceToNat,Int.reduceNeg,n2_0]<;>(repeat' apply A7)<;>first|rfl|exact⟨_,rfl⟩|exact⟨_,_,rfl⟩|simp [A9,A8]
  ·unfold GZ at hX2;dsimp only at hX2 h
   obtain rfl:=hX2
   obtain rfl:=Option.some.inj h
   simp (maxDischargeDepth:=9) only [↓AB,AC,Ah,↓reduceIte,Nat.reduceEqDiff,Nat.reduceLT,Nat.reduceLeDiff,Nat.reduceAdd,Nat.reduceMul,Nat.reduceMod,Nat.reduceDiv,Nat.reducePow,Nat.reduceSub,Nat.reduceBEq,Int.reduceLE,Int.reduceLT,Int.reduceEq,Int.reduceSub,Int.reduceAdd,Int.reduceToNat,Int.reduceNeg]<;>(repeat' apply A7)<;>first|rfl|exact⟨_,rfl⟩|exact⟨_,_,rfl⟩|simp [A9,A8]
theorem Zv(l:List Int)(n:Int)(h:l.length<1099511627776):RQ l n=some (l.contains n):=by
 unfold RQ M9;have key:=JO (fun v=>I5 l n v) (fun i=>(i:Int)) l.length (fun i=> !decide (l.getD i default=n)) (.inl ()) (.inr ()) ?_ ?_
 ·simp only [Jo]at key;rw [key,P8 (fun x=> !decide (x=n))]
  have e:l.all (fun x=> !decide (x=n))= !l.contains n:=by
   rw [List.all_eq_not_any_not,List.contains_eq_any_beq]
   congr 2
   funext x
   rw [Bool.not_not,Bool.eq_iff_iff,decide_eq_true_eq,beq_iff_eq];exact eq_comm
  rw [e]
  cases l.contains n<;>rfl
 ·intro i hi;simp only [I5];rw [if_pos (GJ hi),CU (Fh hi),KP,Ny i (by omega)]
  by_cases hq:l.getD i default=n
  ·rw [if_pos hq,decide_eq_true hq];rfl
  ·rw [if_neg hq,decide_eq_false hq];rfl
 ·simp only [I5];rw [if_neg (CY _)]
theorem Zw(l:List Int)(n_:Int)(h0:l.length<1099511627776):Y.call 89 [D.sl 3 (A9 (D.int .i64) l),D.int .i64 n_] []=some (D.bool (l.contains n_),[]):=WV l n_ (Zv l n_ h0)
end Go.Proofs.Ytclkfhhdikfcpaa
