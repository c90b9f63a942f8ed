/- Bad pairs of configurations, as plain functions; the first configuration without one; laws. Conditions: none. -/
import Derived.Test.YtjhjkfoabhplfaaGreatL6
import Derived.Test.YtjhjkfoabhplfaaGreatEdg
import Derived.Test.YtjhjkfoabhplfaaGreatFst
namespace Go.Proofs.YtjhjkfoabhplfaaGreat
open Go Dv
set_option linter.unusedSimpArgs false
set_option linter.unusedVariables false
set_option maxRecDepth 100000
set_option maxHeartbeats 4000000
def TA(es:AL)(x y:AA)(i:Nat):Option Nat:=ML y.length fun j=> !RQ es (x.getD i default) (y.getD j default)
def fF(es:AL)(x y:AA):Option (Nat×Nat):=(ML x.length fun i=>(TA es x y i).isSome).map fun i=>(i,(TA es x y i).getD 0)
noncomputable def Hu(pL pD:Int)(pN pE:AL)(x_ y:AA)(Mc Cc:Int):Option ((Int)⊕((AA)⊕Unit)):= if Cc<(y.length:Int)then ck (0≤Cc∧Cc.toNat<y.length)<| ck (Ah pE)<| ck (LP pE=true)<| if(RQ pE (x_.getD Mc.toNat default) (y.getD Cc.toNat default))=true then some (Sum.inl (IntKind.i64.wrap (Cc+1))) else some (Sum.inr (Sum.inl [(x_.getD Mc.toNat default),(y.getD Cc.toNat default)])) else some (Sum.inr (Sum.inr ()))
noncomputable def MM(pL pD:Int)(pN pE:AL)(x_ y:AA)(Mc v:Int):Option ((AA)⊕Unit):=Fv (fun v=>Hu pL pD pN pE x_ y Mc v) v
noncomputable def Hw(pL pD:Int)(pN pE:AL)(x_ y:AA)(Mc:Int):Option ((Int)⊕((AA)⊕Unit)):=
 if Mc<(x_.length:Int)then
  ck (0≤Mc∧Mc.toNat<x_.length)<|
  (MM pL pD pN pE x_ y Mc 0).bind fun A8=>
  match A8 with
  | .inl q1000_=>
   some (Sum.inr (Sum.inl q1000_))
  | .inr q1000_=>
   some (Sum.inl (IntKind.i64.wrap (Mc+1)))
 else
  some (Sum.inr (Sum.inr ()))
noncomputable def MN(pL pD:Int)(pN pE:AL)(x_ y:AA)(v:Int):Option ((AA)⊕Unit):=Fv (fun v=>Hw pL pD pN pE x_ y v) v
noncomputable def Qq(pL pD:Int)(pN pE:AL)(x_ y:AA):Option (AA×Bool):=
 (MN pL pD pN pE x_ y 0).bind fun Ad=>
 match Ad with
 | .inl q1001_=>
  some (q1001_,true)
 | .inr q1001_=>
  some ([],false)
def jX:SC:= .seq (.ops [oB 21 .lss 3 (tK 20) (tK 19) 3 0]) (.seq (.cond (tK 21) .skip (.exit 2)) (.seq (.block 3 (.seq (.ops [oI 22 27 18 20,oL 23 3 22 3,oA 11 23 3]) (.seq (.ops [oL 24 26 3 26,oM 25 9 3,oM 26 11 3,oC 27 83 [(tK 24),(tK 25),(tK 26)] [26,3,3] 4,oX 28 (.unOp .not 4 (tK 27)) 4]) (.cond (tK 28) (.seq (.ops [oM 29 9 3,oM 30 11 3,oX 31 (.buildSlice 27 2 #[(0,(tK 29)),(1,(tK 30))]) 27,oA 6 31 27,oX 7 (.assign Gx) 4]) .ret) .skip)))) (.ops [oB 32 .add 3 (tK 20) (iK 1) 3 3,oM 20 32 3])))
def A0q:SC:= .loop jX
def jY:SC:= .seq (.ops [oB 15 .lss 3 (tK 14) (tK 13) 3 0]) (.seq (.cond (tK 15) .skip (.exit 0)) (.seq (.block 1 (.seq (.ops [oI 16 27 12 14,oL 17 3 16 3,oA 9 17 3]) (.seq (.ops [oM 18 2 27,oN 19 18 27,oX 20 (.move (iK 0)) 3]) (.block 2 A0q)))) (.ops [oB 33 .add 3 (tK 14) (iK 1) 3 3,oM 14 33 3])))
def A0r:SC:= .loop jY
def k97:SC:= .seq (.ops [oX 3 (.box 26 (tK 0)) 0,oX 6 CG 27,oX 7 BX 4]) (.seq (.seq (.ops [oM 12 1 27,oN 13 12 27,oX 14 (.move (iK 0)) 3]) (.block 0 A0r)) (.seq (.ops [oX 6 CG 27,oX 7 BX 4]) .ret))
theorem A81:Tryz.f97.body.map (BI lends)=some k97:=by kernel_rfl
theorem AKm:BR Tryz.f97 3=true:=by kernel_rfl
theorem c97{a l:List D}{r:D×List D}(h:BU Y.env k97 (Du Ab l.length [ResultVar.tmp 6,ResultVar.tmp 7] r) (entry a l))(ha:a.length=3):Y.call 97 a l=some r:=
 AP (Y:=Y) rfl Tryz.func97 (ha▸AKm) A81 h
def Fb(pL pD:Int)(pN pE:AL)(x_ y:AA)(Mc Cc:Int)(s:St):Prop:=s.v 2=D.sl 3 (AJ (D.int .i64) y)∧s.v 3=D.box [D.int .i64 pL,D.int .i64 pD,D.sl 27 (AJ Ac pN),D.sl 27 (AJ Ac pE)]∧s.v 9=D.int .i64 (x_.getD Mc.toNat default)∧s.v 12=D.sl 3 (AJ (D.int .i64) x_)∧s.v 13=D.int .i64 (x_.length:Int)∧s.v 14=D.int .i64 Mc∧s.v 18=D.sl 3 (AJ (D.int .i64) y)∧s.v 19=D.int .i64 (y.length:Int)∧s.v 20=D.int .i64 Cc
def Hy(pL pD:Int)(pN pE:AL)(x_ y:AA)(Mc:Int)(r:(AA)⊕Unit)(ex:Ex)(s:St):Prop:=match r with
 | .inl q=>ex= .ret∧s.v 6=D.own 3 (AJ (D.int .i64) q)∧s.v 7=D.bool true
 | .inr q=>ex= .exit 2∧s.v 2=D.sl 3 (AJ (D.int .i64) y)∧s.v 3=D.box [D.int .i64 pL,D.int .i64 pD,D.sl 27 (AJ Ac pN),D.sl 27 (AJ Ac pE)]∧s.v 12=D.sl 3 (AJ (D.int .i64) x_)∧s.v 13=D.int .i64 (x_.length:Int)∧s.v 14=D.int .i64 Mc
theorem Y8(pL pD:Int)(pN pE:AL)(x_ y:AA)(Mc:Int){v:Int}{s:St}{r:(AA)⊕Unit}(h:MM pL pD pN pE x_ y Mc v=some r)(hM:Fb pL pD pN pE x_ y Mc v s):BU Y.env A0q (Hy pL pD pN pE x_ y Mc r) s:=by
 unfold MM at h;refine Ap (c:=jX) (fun v=>Hu pL pD pN pE x_ y Mc v) (fun v s=>Fb pL pD pN pE x_ y Mc v s) (Hy pL pD pN pE x_ y Mc) ?_ h hM;clear h hM s v r;intro Cc s o hM h;unfold Hu at h;unfold Fb at hM;obtain⟨m0,m1,m2,m3,m4,m5,m6,m7,m8⟩:=hM;unfold jX;rcases iS h with⟨e3,h⟩|⟨e3,h⟩
 ·obtain⟨e4,e5,e6,h⟩:=Wm h;have c7:=Pz pL pD pN pE (x_.getD Mc.toNat default) (y.getD Cc.toNat default) e5 e6;rcases iS h with⟨e8,h⟩|⟨e8,h⟩
  ·cases h;simp only [↓AB,AC,↓reduceIte,Nat.reduceEqDiff,Nat.reduceLT,m0,m1,m2,m3,m4,m5,m6,m7,m8,e3,e4.1,e4.2,c7,e8,Fb,Dw]
  ·have e8f:(RQ pE (x_.getD Mc.toNat default) (y.getD Cc.toNat default))=false:=Gf.mpr e8;cases h;simp only [↓AB,AC,↓reduceIte,Nat.reduceEqDiff,Nat.reduceLT,Nat.reduceLeDiff,m1,m2,m6,m7,m8,e3,e4.1,e4.2,c7,e8f,Fb,Hy,Tz]<;>(repeat' apply A7)<;>first|rfl|exact⟨_,rfl⟩|exact⟨_,_,rfl⟩|simp [AJ,AU]
 ·cases h;simp only [↓AB,AC,↓reduceIte,Nat.reduceEqDiff,Nat.reduceLT,m0,m1,m3,m4,m5,m7,m8,e3,Fb,Hy,Ir]
def Fe(pL pD:Int)(pN pE:AL)(x_ y:AA)(Mc:Int)(s:St):Prop:=s.v 2=D.sl 3 (AJ (D.int .i64) y)∧s.v 3=D.box [D.int .i64 pL,D.int .i64 pD,D.sl 27 (AJ Ac pN),D.sl 27 (AJ Ac pE)]∧s.v 12=D.sl 3 (AJ (D.int .i64) x_)∧s.v 13=D.int .i64 (x_.length:Int)∧s.v 14=D.int .i64 Mc
def Hz(pL pD:Int)(pN pE:AL)(x_ y:AA)(r:(AA)⊕Unit)(ex:Ex)(s:St):Prop:=match r with
 | .inl q=>ex= .ret∧s.v 6=D.own 3 (AJ (D.int .i64) q)∧s.v 7=D.bool true
 | .inr q=>ex= .exit 0
theorem Y9(pL pD:Int)(pN pE:AL)(x_ y:AA){v:Int}{s:St}{r:(AA)⊕Unit}(h:MN pL pD pN pE x_ y v=some r)(hM:Fe pL pD pN pE x_ y v s):BU Y.env A0r (Hz pL pD pN pE x_ y r) s:=by
 unfold MN at h;refine Ap (c:=jY) (fun v=>Hw pL pD pN pE x_ y v) (fun v s=>Fe pL pD pN pE x_ y v s) (Hz pL pD pN pE x_ y) ?_ h hM;clear h hM s v r;intro Mc s o hM h;unfold Hw at h;unfold Fe at hM;obtain⟨m0,m1,m2,m3,m4⟩:=hM;unfold jY;rcases iS h with⟨e1,h⟩|⟨e1,h⟩
 ·obtain⟨e2,h⟩:=DL h;obtain⟨A8,hl4,h⟩:=AQ h;try dsimp only at h
  simp only [↓AB,AC,↓reduceIte,Nat.reduceEqDiff,Nat.reduceLT,m0,m2,m3,m4,e1,e2.1,e2.2];refine AZ (Y8 pL pD pN pE x_ y Mc hl4 ?_) ?_
  ·simp only [BC,↓reduceIte,Nat.reduceEqDiff,m0,m1,m2,m3,m4,Fb]
  ·intro ex4 s4 hX4;rcases A8 with q1000_|q1000_
   ·unfold Hy at hX4;dsimp only at hX4 h;obtain⟨rfl,n4_0,n4_1⟩:=hX4;cases h;simp only [↓AB,AC,n4_0,n4_1,Fe,Hz,Tz]
   ·unfold Hy at hX4;dsimp only at hX4 h;obtain⟨rfl,n4_0,n4_1,n4_2,n4_3,n4_4⟩:=hX4;cases h;simp only [↓AB,AC,↓reduceIte,Nat.reduceEqDiff,Nat.reduceLT,n4_0,n4_1,n4_2,n4_3,n4_4,Fe,Dw]
 ·cases h;simp only [↓AB,AC,↓reduceIte,Nat.reduceLT,m3,m4,e1,Fe,Hz,Ir]
theorem Zx(pL pD:Int)(pN pE:AL)(x_ y:AA){r:AA×Bool}(h:Qq pL pD pN pE x_ y=some r):Y.call 97 [D.agg [D.int .i64 pL,D.int .i64 pD,D.sl 27 (AJ Ac pN),D.sl 27 (AJ Ac pE)],D.sl 3 (AJ (D.int .i64) x_),D.sl 3 (AJ (D.int .i64) y)] []=some (D.tup [D.own 3 (AJ (D.int .i64) r.1),D.bool r.2],[]):=by
 refine c97 ?_ rfl;unfold k97;unfold Qq at h;obtain⟨Ad,hl2,h⟩:=AQ h;try dsimp only at h
 simp only [↓AB,AC,↓reduceIte,Nat.reduceEqDiff,Nat.reduceLT];refine AZ (Y9 pL pD pN pE x_ y hl2 ?_) ?_
 ·simp only [BC,Ce,↓reduceIte,Nat.reduceEqDiff,Nat.reduceLT,Fe]
 ·intro ex2 s2 hX2;rcases Ad with q1001_|q1001_
  ·unfold Hz at hX2;dsimp only at hX2 h;obtain⟨rfl,n2_0,n2_1⟩:=hX2;cases h;simp only [↓AB,AC,↓reduceIte,Nat.reduceEqDiff,n2_0,n2_1]
  ·unfold Hz at hX2;dsimp only at hX2 h
   obtain rfl:=hX2
   cases h;simp only [↓AB,AC,↓reduceIte,Nat.reduceEqDiff,Nat.reduceLT]<;>(repeat' apply A7)<;>first|rfl|exact⟨_,rfl⟩|exact⟨_,_,rfl⟩|simp [AJ,AU]
theorem jZ(l d:Int)(ns es:AL)(x y:AA)(h1:Ah es)(h2:LP es=true)(hx:x.length<1099511627776)(hy:y.length<1099511627776):
  Qq l d ns es x y=some (match fF es x y with|some q=>([x.getD q.1 default,y.getD q.2 default],true)|none=>([],false)):=by
 have inner: ∀i:Nat,i<x.length→MM l d ns es x y (i:Int) 0=some (match TA es x y i with|some j=> .inl [x.getD i default,y.getD j default]|none=> .inr ()):=by
  intro i hi;unfold MM TA;refine oq (fun v=>Hu l d ns es x y (i:Int) v) (fun j=>(j:Int)) y.length (fun j=> !RQ es (x.getD i default) (y.getD j default)) (fun j=> .inl [x.getD i default,y.getD j default]) (.inr ()) ?_ ?_
  ·intro j hj;simp only [Hu];rw [if_pos (BZ hj),Ao (Gj hj),Ao h1,Ao h2,H9 j (by omega),H5,H5]
   cases RQ es (x.getD i default) (y.getD j default)<;>simp
  ·simp only [Hu];rw [if_neg (Ae _)]
 have outer:MN l d ns es x y 0=some (match ML x.length (fun i=>(TA es x y i).isSome)with|some i=> .inl [x.getD i default,y.getD ((TA es x y i).getD 0) default]|none=> .inr ()):=by
  unfold MN;refine oq (fun v=>Hw l d ns es x y v) (fun j=>(j:Int)) x.length (fun i=>(TA es x y i).isSome) (fun i=> .inl [x.getD i default,y.getD ((TA es x y i).getD 0) default]) (.inr ()) ?_ ?_
  ·intro i hi;simp only [Hw];rw [if_pos (BZ hi),Ao (Gj hi),inner i hi,Bl,H9 i (by omega)]
   cases TA es x y i<;>simp
  ·simp only [Hw];rw [if_neg (Ae _)]
 unfold Qq fF;rw [outer,Bl]
 cases ML x.length (fun i=>(TA es x y i).isSome)<;>rfl
end Go.Proofs.YtjhjkfoabhplfaaGreat
