/- A round of an elimination: lifted. Conditions: none. -/
import Derived.Test.YtjhjkfoabhplfaaGreatL6
import Derived.Test.YtjhjkfoabhplfaaGreatEstA
import Derived.Test.YtjhjkfoabhplfaaGreatNstA
namespace Go.Proofs.YtjhjkfoabhplfaaGreat
open Go Dv
set_option linter.unusedSimpArgs false
set_option linter.unusedVariables false
set_option maxRecDepth 100000
set_option maxHeartbeats 4000000
noncomputable def Q9(pL pD:Int)(pN pE:AL):Option (Int×Int×AL×AL×AA×AA×Bool):= (NA pL pD pN pE).bind fun Qr=> if Qr.2.2.2.2.2=true then (LY Qr.1 Qr.2.1 Qr.2.2.1 Qr.2.2.2.1).bind fun pF=> if pF.2.2.2.2.2=true then some (pF.1,pF.2.1,pF.2.2.1,pF.2.2.2.1,Qr.2.2.2.2.1,pF.2.2.2.2.1,true) else some (0,0,[],[],[],[],false) else some (0,0,[],[],[],[],false)
def k31:SC:= .seq (.ops [oX 1 (.box 26 (tK 0)) 0,oX 2 (.alloc 26) 0,oX 3 CG 27,oX 4 CG 27,oX 5 BX 4]) (.seq (.ops [oL 12 26 1 26,oC 13 25 [(tK 12)] [26] 28,oM 11 13 28,oE 14 11 0 26,oE 15 11 1 27,oE 16 11 2 4,oX 6 (.alloc 26) 0,oS 26 6 14,oA 7 15 27,oA 8 16 4]) (.seq (.seq (.ops [oM 17 8 4,oX 18 (.unOp .not 4 (tK 17)) 4]) (.cond (tK 18) (.seq (.ops [oX 19 (.build 26 #[]) 26,oS 26 2 19,oX 3 CG 27,oX 4 CG 27,oX 5 BX 4]) .ret) .skip)) (.seq (.ops [oL 21 26 6 26,oC 22 30 [(tK 21)] [26] 28,oM 20 22 28,oE 23 20 0 26,oE 24 20 1 27,oE 25 20 2 4,oX 9 (.alloc 26) 0,oS 26 9 23,oA 10 24 27,oA 8 25 4]) (.seq (.seq (.ops [oM 26 8 4,oX 27 (.unOp .not 4 (tK 26)) 4]) (.cond (tK 27) (.seq (.ops [oX 28 (.build 26 #[]) 26,oS 26 2 28,oX 3 CG 27,oX 4 CG 27,oX 5 BX 4]) .ret) .skip)) (.seq (.ops [oL 29 26 9 26,oM 30 7 27,oM 31 10 27,oS 26 2 29,oA 3 30 27,oA 4 31 27,oX 5 (.assign Gx) 4]) .ret)))))
theorem A91:Tryz.f31.body.map (BI lends)=some k31:=by kernel_rfl
theorem AMR:BR Tryz.f31 1=true:=by kernel_rfl
theorem c31{a l:List D}{r:D×List D}(h:BU Y.env k31 (Du Ab l.length [ResultVar.cell 2 26,ResultVar.tmp 3,ResultVar.tmp 4,ResultVar.tmp 5] r) (entry a l))(ha:a.length=1):Y.call 31 a l=some r:=
 AP (Y:=Y) rfl Tryz.func31 (ha▸AMR) A91 h
theorem XG(pL pD:Int)(pN pE:AL){r:Int×Int×AL×AL×AA×AA×Bool}(h:Q9 pL pD pN pE=some r):Y.call 31 [D.agg [D.int .i64 pL,D.int .i64 pD,D.sl 27 (AJ Ac pN),D.sl 27 (AJ Ac pE)]] []=some (D.tup [D.agg [D.int .i64 r.1,D.int .i64 r.2.1,D.own 27 (AJ IX r.2.2.1),D.own 27 (AJ IX r.2.2.2.1)],D.own 3 (AJ (D.int .i64) r.2.2.2.2.1),D.own 3 (AJ (D.int .i64) r.2.2.2.2.2.1),D.bool r.2.2.2.2.2.2],[]):=by
 refine c31 ?_ rfl;unfold k31;unfold Q9 at h;obtain⟨Qr,hl1,h⟩:=AQ h;have c1:=YD pL pD pN pE hl1;rcases iS h with⟨e2,h⟩|⟨e2,h⟩
 ·obtain⟨pF,hl3,h⟩:=AQ h;have c3:=YH Qr.1 Qr.2.1 Qr.2.2.1 Qr.2.2.2.1 hl3;rcases iS h with⟨e4,h⟩|⟨e4,h⟩
  ·cases h;simp (maxDischargeDepth:=9) only [↓AB,AC,↓reduceIte,Nat.reduceEqDiff,Nat.reduceLT,Nat.reduceAdd,c1,e2,c3,e4]
  ·have e4f:pF.2.2.2.2.2=false:=Gf.mpr e4;cases h;simp (maxDischargeDepth:=9) only [↓AB,AC,↓reduceIte,Nat.reduceEqDiff,Nat.reduceLT,Nat.reduceAdd,c1,e2,c3,e4f]<;>(repeat' apply A7)<;>first|rfl|exact⟨_,rfl⟩|exact⟨_,_,rfl⟩|simp [AJ,AU]
 ·have e2f:Qr.2.2.2.2.2=false:=Gf.mpr e2;cases h;simp (maxDischargeDepth:=9) only [↓AB,AC,↓reduceIte,Nat.reduceEqDiff,Nat.reduceLT,Nat.reduceAdd,c1,e2f]<;>(repeat' apply A7)<;>first|rfl|exact⟨_,rfl⟩|exact⟨_,_,rfl⟩|simp [AJ,AU]
noncomputable def FR(pL pD:Int)(pN pE:AL):Option (Int×Int×AL×AL×AA×AA×Bool):= ck (Ah pN)<| ck (Ah pE)<| if(LM pL pD pN pE)=true then (Q9 pL pD pN pE).bind fun Ma=> some (Ma.1,Ma.2.1,Ma.2.2.1,Ma.2.2.2.1,Ma.2.2.2.2.1,Ma.2.2.2.2.2.1,Ma.2.2.2.2.2.2) else some (0,0,[],[],[],[],false)
def k19:SC:= .seq (.ops [oX 1 (.box 26 (tK 0)) 0,oX 2 (.alloc 26) 0,oX 3 CG 27,oX 4 CG 27,oX 5 BX 4]) (.seq (.seq (.ops [oL 6 26 1 26,oC 7 24 [(tK 6)] [26] 4,oX 8 (.unOp .not 4 (tK 7)) 4]) (.cond (tK 8) (.seq (.ops [oX 9 (.build 26 #[]) 26,oS 26 2 9,oX 3 CG 27,oX 4 CG 27,oX 5 BX 4]) .ret) .skip)) (.seq (.ops [oL 10 26 1 26,oC 11 31 [(tK 10)] [26] 36,oE 12 11 0 26,oE 13 11 1 27,oE 14 11 2 27,oE 15 11 3 4,oS 26 2 12,oA 3 13 27,oA 4 14 27,oA 5 15 4]) .ret))
theorem A92:Tryz.f19.body.map (BI lends)=some k19:=by kernel_rfl
theorem AMU:BR Tryz.f19 1=true:=by kernel_rfl
theorem c19{a l:List D}{r:D×List D}(h:BU Y.env k19 (Du Ab l.length [ResultVar.cell 2 26,ResultVar.tmp 3,ResultVar.tmp 4,ResultVar.tmp 5] r) (entry a l))(ha:a.length=1):Y.call 19 a l=some r:=
 AP (Y:=Y) rfl Tryz.func19 (ha▸AMU) A92 h
theorem Rx(pL pD:Int)(pN pE:AL){r:Int×Int×AL×AL×AA×AA×Bool}(h:FR pL pD pN pE=some r):Y.call 19 [D.agg [D.int .i64 pL,D.int .i64 pD,D.sl 27 (AJ Ac pN),D.sl 27 (AJ Ac pE)]] []=some (D.tup [D.agg [D.int .i64 r.1,D.int .i64 r.2.1,D.own 27 (AJ IX r.2.2.1),D.own 27 (AJ IX r.2.2.2.1)],D.own 3 (AJ (D.int .i64) r.2.2.2.2.1),D.own 3 (AJ (D.int .i64) r.2.2.2.2.2.1),D.bool r.2.2.2.2.2.2],[]):=by
 refine c19 ?_ rfl;unfold k19;unfold FR at h;obtain⟨e1,e2,h⟩:=Fy h;have c3:=Zp pL pD pN pE e1 e2;rcases iS h with⟨e4,h⟩|⟨e4,h⟩
 ·obtain⟨Ma,hl5,h⟩:=AQ h;try dsimp only at h
  have c5:=XG pL pD pN pE hl5;cases h;simp only [↓AB,AC,↓reduceIte,Nat.reduceEqDiff,Nat.reduceLT,Nat.reduceAdd,c3,e4,c5]
 ·have e4f:(LM pL pD pN pE)=false:=Gf.mpr e4;cases h;simp only [↓AB,AC,↓reduceIte,Nat.reduceEqDiff,Nat.reduceLT,Nat.reduceAdd,c3,e4f]<;>(repeat' apply A7)<;>first|rfl|exact⟨_,rfl⟩|exact⟨_,_,rfl⟩|simp [AJ,AU]
noncomputable def IJ(pL pD:Int)(pN pE:AL):Option (Int×Int×AL×AL×AA×AA×Bool):=
 (PP pL pD pN pE).bind fun KY=>
 if KY.2.2.2.2.2=true then
  (O3 KY.1 KY.2.1 KY.2.2.1 KY.2.2.2.1).bind fun BA=>
  match BA with
  | .inl q23_=>
   if q23_.2.2.2.2.2=true then
    some (q23_.1,q23_.2.1,q23_.2.2.1,q23_.2.2.2.1,KY.2.2.2.2.1,q23_.2.2.2.2.1,true)
   else
    some (0,0,[],[],[],[],false)
  | .inr (.inl q23_)=>
   if q23_.2.2.2.2.2=true then
    some (q23_.1,q23_.2.1,q23_.2.2.1,q23_.2.2.2.1,KY.2.2.2.2.1,q23_.2.2.2.2.1,true)
   else
    some (0,0,[],[],[],[],false)
  | .inr (.inr q23_)=>
   if q23_.2.2.2.2.2=true then
    some (q23_.1,q23_.2.1,q23_.2.2.1,q23_.2.2.2.1,KY.2.2.2.2.1,q23_.2.2.2.2.1,true)
   else
    some (0,0,[],[],[],[],false)
 else
  some (0,0,[],[],[],[],false)
def k18:SC:= .seq (.ops [oX 1 (.box 26 (tK 0)) 0,oX 2 (.alloc 26) 0,oX 3 CG 27,oX 4 CG 27,oX 5 BX 4]) (.seq (.ops [oL 13 26 1 26,oC 14 7 [(tK 13)] [26] 28,oM 12 14 28,oE 15 12 0 26,oE 16 12 1 27,oE 17 12 2 4,oX 6 (.alloc 26) 0,oS 26 6 15,oA 7 16 27,oA 8 17 4]) (.seq (.seq (.ops [oM 18 8 4,oX 19 (.unOp .not 4 (tK 18)) 4]) (.cond (tK 19) (.seq (.ops [oX 20 (.build 26 #[]) 26,⟨none,(.store 26 (tK 2) (tK 20)),900011,none⟩,oX 3 CG 1000027,oX 4 CG 1000027,oX 5 BX 4]) .ret) .skip)) (.seq (.ops [oL 22 26 6 26,oC 23 29 [(tK 22)] [26] 28,oM 21 23 28,oE 24 21 0 26,oE 25 21 1 27,oE 26 21 2 4,oX 9 (.alloc 26) 0,oS 26 9 24,oA 10 25 27,oA 11 26 4]) (.seq (.seq (.ops [oM 27 11 4,oX 28 (.unOp .not 4 (tK 27)) 4]) (.cond (tK 28) (.seq (.ops [oX 29 (.build 26 #[]) 26,⟨none,(.store 26 (tK 2) (tK 29)),900011,none⟩,oX 3 CG 1000027,oX 4 CG 1000027,oX 5 BX 4]) .ret) .skip)) (.seq (.ops [oL 30 26 9 26,oM 31 7 27,oM 32 10 27,⟨none,(.store 26 (tK 2) (tK 30)),900011,none⟩,oA 3 31 900003,oA 4 32 900003,oX 5 (.assign Gx) 4]) .ret)))))
theorem A93:Tryz.f18.body.map (BI lends)=some k18:=by kernel_rfl
theorem AMW:BR Tryz.f18 1=true:=by kernel_rfl
theorem c18{a l:List D}{r:D×List D}(h:BU Y.env k18 (Du Ab l.length [ResultVar.cell 2 26,ResultVar.tmp 3,ResultVar.tmp 4,ResultVar.tmp 5] r) (entry a l))(ha:a.length=1):Y.call 18 a l=some r:=
 AP (Y:=Y) rfl Tryz.func18 (ha▸AMW) A93 h
theorem Ry(pL pD:Int)(pN pE:AL){r:Int×Int×AL×AL×AA×AA×Bool}(h:IJ pL pD pN pE=some r):Y.call 18 [D.agg [D.int .i64 pL,D.int .i64 pD,D.sl 27 (AJ Ac pN),D.sl 27 (AJ Ac pE)]] []=some (D.tup [D.agg [D.int .i64 r.1,D.int .i64 r.2.1,D.sl 27 (AJ Ac r.2.2.1),D.sl 27 (AJ Ac r.2.2.2.1)],D.sl 3 (AJ (D.int .i64) r.2.2.2.2.1),D.sl 3 (AJ (D.int .i64) r.2.2.2.2.2.1),D.bool r.2.2.2.2.2.2],[]):=by
 refine c18 ?_ rfl;unfold k18;unfold IJ at h;obtain⟨KY,hl1,h⟩:=AQ h;have c1:=YE pL pD pN pE hl1;rcases iS h with⟨e2,h⟩|⟨e2,h⟩
 ·obtain⟨BA,hl3,h⟩:=AQ h;try dsimp only at h
  have c3:=dR KY.1 KY.2.1 KY.2.2.1 KY.2.2.2.1 hl3;rcases BA with(q23_|q23_|q23_)
  ·dsimp only at h c3;rcases iS h with⟨e4,h⟩|⟨e4,h⟩
   ·cases h;simp only [↓AB,AC,↓reduceIte,Nat.reduceEqDiff,Nat.reduceLT,Nat.reduceAdd,c1,e2,c3,e4]<;>(repeat' apply A7)<;>first|rfl|exact⟨_,rfl⟩|exact⟨_,_,rfl⟩|simp [AJ,AU]
   ·have e4f:q23_.2.2.2.2.2=false:=Gf.mpr e4;cases h;simp only [↓AB,AC,↓reduceIte,Nat.reduceEqDiff,Nat.reduceLT,Nat.reduceAdd,Nat.reduceSub,c1,e2,c3,e4f]<;>(repeat' apply A7)<;>first|rfl|exact⟨_,rfl⟩|exact⟨_,_,rfl⟩|simp [AJ,AU]
  ·dsimp only at h c3;rcases iS h with⟨e5,h⟩|⟨e5,h⟩
   ·cases h;simp only [↓AB,AC,↓reduceIte,Nat.reduceEqDiff,Nat.reduceLT,Nat.reduceAdd,c1,e2,c3,e5]<;>(repeat' apply A7)<;>first|rfl|exact⟨_,rfl⟩|exact⟨_,_,rfl⟩|simp [AJ,AU]
   ·have e5f:q23_.2.2.2.2.2=false:=Gf.mpr e5;cases h;simp only [↓AB,AC,↓reduceIte,Nat.reduceEqDiff,Nat.reduceLT,Nat.reduceAdd,Nat.reduceSub,c1,e2,c3,e5f]<;>(repeat' apply A7)<;>first|rfl|exact⟨_,rfl⟩|exact⟨_,_,rfl⟩|simp [AJ,AU]
  ·dsimp only at h c3;rcases iS h with⟨e6,h⟩|⟨e6,h⟩
   ·cases h;simp only [↓AB,AC,↓reduceIte,Nat.reduceEqDiff,Nat.reduceLT,Nat.reduceAdd,c1,e2,c3,e6]<;>(repeat' apply A7)<;>first|rfl|exact⟨_,rfl⟩|exact⟨_,_,rfl⟩|simp [AJ,AU]
   ·have e6f:q23_.2.2.2.2.2=false:=Gf.mpr e6;cases h;simp only [↓AB,AC,↓reduceIte,Nat.reduceEqDiff,Nat.reduceLT,Nat.reduceAdd,Nat.reduceSub,c1,e2,c3,e6f]<;>(repeat' apply A7)<;>first|rfl|exact⟨_,rfl⟩|exact⟨_,_,rfl⟩|simp [AJ,AU]
 ·have e2f:KY.2.2.2.2.2=false:=Gf.mpr e2;cases h;simp only [↓AB,AC,↓reduceIte,Nat.reduceEqDiff,Nat.reduceLT,Nat.reduceAdd,Nat.reduceSub,c1,e2f]<;>(repeat' apply A7)<;>first|rfl|exact⟨_,rfl⟩|exact⟨_,_,rfl⟩|simp [AJ,AU]
end Go.Proofs.YtjhjkfoabhplfaaGreat
