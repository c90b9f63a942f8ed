/- Functions of the program as plain functions, and what they compute. Conditions: those in each lemma. -/
import Derived.Test.YtclkfhhdikfcpaaL6
import Derived.Test.YtclkfhhdikfcpaaNmk
import Derived.Test.YtclkfhhdikfcpaaDt
open Inhabited renaming default → be
open List renaming replicate → ao,range → an,take_length → cj,sum_cons → cm,getElem_map → co,find?_eq_none → cr,replicate_zero → ct,mem_singleton → cw,count_pos_iff → cx,count_eq_zero → cy
open Nat renaming reduceEqDiff → bj,reduceLT → bk,reduceLeDiff → bl,reduceAdd → bm,reduceMul → bo,reduceMod → bp,reduceDiv → br,reducePow → bt,reduceSub → bw,reduceBEq → bx,sub_self → ci
open Int renaming reduceLE → bO,reduceLT → b0,reduceEq → b3,reduceSub → b4,reduceAdd → b5,reduceToNat → b6,reduceNeg → b7
open Sum renaming inl → cb
open Bool renaming or_false → cq
namespace Go.Proofs.Ytclkfhhdikfcpaa
open Go Dv
set_option linter.unusedSimpArgs false
set_option linter.unusedVariables false
set_option maxRecDepth 100000
set_option maxHeartbeats 4000000
noncomputable def Fq(Az:Ar)(BQ:AL)(Ah:AL)(aTask:Int)(aDepth:Int):Option (Bool):= ck (Nj Az)<| ck (BQ.length<9223372036854775808)<| ck (Ah.length<9223372036854775808)<| ck (0≤(1048576:Int)∧(1048576:Int)≤1048576)<| if(mX (1048576:Int) Az BQ Ah)<0 then some true else ck (DC Az)<| ck (BQ.length<1099511627776)<| ck (Ah.length<1099511627776)<| (Jb Az BQ Ah aTask aDepth).bind fun Lx=> (JZ Az BQ Ah aTask aDepth).bind fun Uv=> if Uv.1=true then if Lx.1=true then if Uv.2=true then if Lx.2=true then if(JN Az BQ Ah Az BQ Ah)=true then some true else some false else some false else if Lx.2=true then some false else if(JN Az BQ Ah Az BQ Ah)=true then some true else some false else some false else if Lx.1=true then some false else if Uv.2=true then if Lx.2=true then if(JN Az BQ Ah Az BQ Ah)=true then some true else some false else some false else if Lx.2=true then some false else if(JN Az BQ Ah Az BQ Ah)=true then some true else some false
def k5:SC:= .seq (.ops [oX 3 (.box 41 (tK 0)) 0,oX 6 CJ 4]) (.seq (.ops [oX 7 (.assign (iK 1048576)) 3]) (.seq (.ops [oL 13 41 3 41,oM 14 7 3,oC 15 21 [(tK 13),(tK 14)] [41,3] 3,oA 7 15 3]) (.seq (.seq (.ops [oM 16 7 3,oB 17 .lss 3 (tK 16) (iK 0) 3 4]) (.cond (tK 17) (.seq (.ops [oX 6 (.assign FR) 4]) .ret) .skip)) (.seq (.ops [oL 19 41 3 41,oC 20 23 [(tK 19)] [41] 47,oM 21 1 3,oM 22 2 3,oC 23 22 [(tK 20),(tK 21),(tK 22)] [47,3,3] 43,oM 18 23 43,oE 24 18 0 4,oE 25 18 1 4,oA 8 24 4,oA 9 25 4]) (.seq (.ops [oL 26 41 3 41,oC 27 23 [(tK 26)] [41] 47,oX 10 (.alloc 47) 0,oS 47 10 27]) (.seq (.ops [oL 29 47 10 47,oM 30 1 3,oM 31 2 3,oC 32 24 [(tK 29),(tK 30),(tK 31)] [47,3,3] 43,oM 28 32 43,oE 33 28 0 4,oE 34 28 1 4,oA 11 33 4,oA 12 34 4]) (.seq (.seq (.ops [oM 35 11 4,oM 36 8 4,oB 37 .neq 4 (tK 35) (tK 36) 4 4,oM 38 37 4,⟨(some 39),(.move (tK 12)),4,(some (some 38,false))⟩,⟨(some 40),(.move (tK 9)),4,(some (some 38,false))⟩,⟨(some 41),(.binOp .neq 4 (tK 39) (tK 40) 4),4,(some (some 38,false))⟩,oX 42 (.pick (tK 38) FR (tK 41)) 4]) (.cond (tK 42) (.seq (.ops [oX 6 CJ 4]) .ret) .skip)) (.seq (.seq (.draws [(⟨[43,10,10],[43,44,45,46,47],[43]⟩,oL 43 47 10 47),
 (⟨[44,3,3],[43,44,45,46,47],[44]⟩,oL 44 41 3 41),(⟨[45,44,3],[43,44,45,46,47],[45]⟩,oC 45 23 [(tK 44)] [41] 47),(⟨[46,43,45,10,45],[43,44,45,46,47],[46]⟩,oC 46 25 [(tK 43),(tK 45)] [47,47] 4),(⟨[47,46,46],[43,44,45,46,47],[47]⟩,oX 47 (.unOp .not 4 (tK 46)) 4)]) (.cond (tK 47) (.seq (.ops [oX 6 CJ 4]) .ret) .skip)) (.seq (.ops [oX 6 (.assign FR) 4]) .ret)))))))))
theorem A8H:Try.f5.body.map (Bi lends)=some k5:=by kernel_rfl
theorem ok5:CL Try.f5 3=true:=by kernel_rfl
theorem c5{a l:List D}{r:D×List D}(h:CK Y.env k5 (Fx Ac l.length [ResultVar.tmp 6] r) (entry a l))(ha:a.length=3):Y.call 5 a l=some r:=
 Ab (Y:=Y) rfl Try.func5 (ha▸ok5) A8H h
theorem LH(Az:Ar)(BQ:AL)(Ah:AL)(aTask:Int)(aDepth:Int){r:Bool}(h:Fq Az BQ Ah aTask aDepth=some r):Y.call 5 [D.agg [D.sl 121 (AQ (fun x=>D.sl 159 (Aw .i64 .i64 x)) Az),D.sl 3 (AQ (D.int .i64) BQ),D.sl 3 (AQ (D.int .i64) Ah)],D.int .i64 aTask,D.int .i64 aDepth] []=some (D.bool r,[]):=by
 refine c5 ?_ rfl;unfold k5;unfold Fq at h;obtain⟨e1,h⟩:=Bw h;obtain⟨e2,h⟩:=Bw h;obtain⟨e3,h⟩:=Bw h;obtain⟨e4,h⟩:=Bw h;have c5:=TM Az BQ Ah (1048576:Int) e1 e2 e3 e4;by_cases e6:(mX (1048576:Int) Az BQ Ah)<0
 ·rw [if_pos e6]at h
  obtain rfl:=Option.some.inj h
  simp (maxDischargeDepth:=9) only [↓AP,AR,Ai,↓reduceIte,bj,bk,bl,bm,bo,bp,br,bt,bw,bx,bO,b0,b3,b4,b5,b6,b7,e1,e2,e3,e4.1,e4.2,c5,e6]<;>(repeat' apply A7)<;>first|rfl|exact⟨_,rfl⟩|exact⟨_,_,rfl⟩|simp [AQ,A8]
 ·rw [if_neg e6]at h;obtain⟨e7,h⟩:=Bw h;obtain⟨e8,h⟩:=Bw h;obtain⟨e9,h⟩:=Bw h;have WV:=FF Az BQ Ah e7 e8 e9;obtain⟨Lx,hl11,h⟩:=BA h;try dsimp only at h
  have c11:=Q4 Az BQ Ah aTask aDepth hl11;have Ye:=FF Az BQ Ah e7 e8 e9;obtain⟨Uv,hl13,h⟩:=BA h;try dsimp only at h
  have c13:=Q3 Az BQ Ah aTask aDepth hl13;by_cases e14:Uv.1=true
  ·rw [if_pos e14]at h;by_cases e15:Lx.1=true
   ·rw [if_pos e15]at h;by_cases e16:Uv.2=true
    ·rw [if_pos e16]at h;by_cases e17:Lx.2=true
     ·rw [if_pos e17]at h;have Z4:=FF Az BQ Ah e7 e8 e9;have c19:=Ie Az BQ Ah Az BQ Ah e7 e8 e9;by_cases e20:(JN Az BQ Ah Az BQ Ah)=true
      ·rw [if_pos e20]at h
       obtain rfl:=Option.some.inj h
       simp (maxDischargeDepth:=9) only [↓AP,AR,Ai,↓reduceIte,bj,bk,bl,bm,bo,bp,br,bt,bw,bx,bO,b0,b3,b4,b5,b6,b7,e1,e2,e3,e4.1,e4.2,c5,e6,e7,e8,e9,WV,c11,Ye,c13,e14,e15,e16,e17,Z4,c19,e20]<;>(repeat' apply A7)<;>first|rfl|exact⟨_,rfl⟩|exact⟨_,_,rfl⟩|simp [AQ,A8]
      ·rw [if_neg e20]at h;have e20f:(JN Az BQ Ah Az BQ Ah)=false:=JF.mpr e20
       obtain rfl:=Option.some.inj h
       simp (maxDischargeDepth:=9) only [↓AP,AR,Ai,↓reduceIte,bj,bk,bl,bm,bo,bp,br,bt,bw,bx,bO,b0,b3,b4,b5,b6,b7,e1,e2,e3,e4.1,e4.2,c5,e6,e7,e8,e9,WV,c11,Ye,c13,e14,e15,e16,e17,Z4,c19,e20f]<;>(repeat' apply A7)<;>first|rfl|exact⟨_,rfl⟩|exact⟨_,_,rfl⟩|simp [AQ,A8]
     ·rw [if_neg e17]at h;have e17f:Lx.2=false:=JF.mpr e17
      obtain rfl:=Option.some.inj h
      simp (maxDischargeDepth:=9) only [↓AP,AR,Ai,↓reduceIte,bj,bk,bl,bm,bo,bp,br,bt,bw,bx,bO,b0,b3,b4,b5,b6,b7,e1,e2,e3,e4.1,e4.2,c5,e6,e7,e8,e9,WV,c11,Ye,c13,e14,e15,e16,e17f]<;>(repeat' apply A7)<;>first|rfl|exact⟨_,rfl⟩|exact⟨_,_,rfl⟩|simp [AQ,A8]
    ·rw [if_neg e16]at h;have e16f:Uv.2=false:=JF.mpr e16;by_cases e17:Lx.2=true
     ·rw [if_pos e17]at h
      obtain rfl:=Option.some.inj h
      simp (maxDischargeDepth:=9) only [↓AP,AR,Ai,↓reduceIte,bj,bk,bl,bm,bo,bp,br,bt,bw,bx,bO,b0,b3,b4,b5,b6,b7,e1,e2,e3,e4.1,e4.2,c5,e6,e7,e8,e9,WV,c11,Ye,c13,e14,e15,e16f,e17]<;>(repeat' apply A7)<;>first|rfl|exact⟨_,rfl⟩|exact⟨_,_,rfl⟩|simp [AQ,A8]
     ·rw [if_neg e17]at h;have e17f:Lx.2=false:=JF.mpr e17;have Z4:=FF Az BQ Ah e7 e8 e9;have c19:=Ie Az BQ Ah Az BQ Ah e7 e8 e9;by_cases e20:(JN Az BQ Ah Az BQ Ah)=true
      ·rw [if_pos e20]at h
       obtain rfl:=Option.some.inj h
       simp (maxDischargeDepth:=9) only [↓AP,AR,Ai,↓reduceIte,bj,bk,bl,bm,bo,bp,br,bt,bw,bx,bO,b0,b3,b4,b5,b6,b7,e1,e2,e3,e4.1,e4.2,c5,e6,e7,e8,e9,WV,c11,Ye,c13,e14,e15,e16f,e17f,Z4,c19,e20]<;>(repeat' apply A7)<;>first|rfl|exact⟨_,rfl⟩|exact⟨_,_,rfl⟩|simp [AQ,A8]
      ·rw [if_neg e20]at h;have e20f:(JN Az BQ Ah Az BQ Ah)=false:=JF.mpr e20
       obtain rfl:=Option.some.inj h
       simp (maxDischargeDepth:=9) only [↓AP,AR,Ai,↓reduceIte,bj,bk,bl,bm,bo,bp,br,bt,bw,bx,bO,b0,b3,b4,b5,b6,b7,e1,e2,e3,e4.1,e4.2,c5,e6,e7,e8,e9,WV,c11,Ye,c13,e14,e15,e16f,e17f,Z4,c19,e20f]<;>(repeat' apply A7)<;>first|rfl|exact⟨_,rfl⟩|exact⟨_,_,rfl⟩|simp [AQ,A8]
   ·rw [if_neg e15]at h;have e15f:Lx.1=false:=JF.mpr e15
    obtain rfl:=Option.some.inj h
    simp (maxDischargeDepth:=9) only [↓AP,AR,Ai,↓reduceIte,bj,bk,bl,bm,bo,bp,br,bt,bw,bx,bO,b0,b3,b4,b5,b6,b7,e1,e2,e3,e4.1,e4.2,c5,e6,e7,e8,e9,WV,c11,Ye,c13,e14,e15f]<;>(repeat' apply A7)<;>first|rfl|exact⟨_,rfl⟩|exact⟨_,_,rfl⟩|simp [AQ,A8]
  ·rw [if_neg e14]at h;have e14f:Uv.1=false:=JF.mpr e14;by_cases e15:Lx.1=true
   ·rw [if_pos e15]at h
    obtain rfl:=Option.some.inj h
    simp (maxDischargeDepth:=9) only [↓AP,AR,Ai,↓reduceIte,bj,bk,bl,bm,bo,bp,br,bt,bw,bx,bO,b0,b3,b4,b5,b6,b7,e1,e2,e3,e4.1,e4.2,c5,e6,e7,e8,e9,WV,c11,Ye,c13,e14f,e15]<;>(repeat' apply A7)<;>first|rfl|exact⟨_,rfl⟩|exact⟨_,_,rfl⟩|simp [AQ,A8]
   ·rw [if_neg e15]at h;have e15f:Lx.1=false:=JF.mpr e15;by_cases e16:Uv.2=true
    ·rw [if_pos e16]at h;by_cases e17:Lx.2=true
     ·rw [if_pos e17]at h;have Z4:=FF Az BQ Ah e7 e8 e9;have c19:=Ie Az BQ Ah Az BQ Ah e7 e8 e9;by_cases e20:(JN Az BQ Ah Az BQ Ah)=true
      ·rw [if_pos e20]at h
       obtain rfl:=Option.some.inj h
       simp (maxDischargeDepth:=9) only [↓AP,AR,Ai,↓reduceIte,bj,bk,bl,bm,bo,bp,br,bt,bw,bx,bO,b0,b3,b4,b5,b6,b7,e1,e2,e3,e4.1,e4.2,c5,e6,e7,e8,e9,WV,c11,Ye,c13,e14f,e15f,e16,e17,Z4,c19,e20]<;>(repeat' apply A7)<;>first|rfl|exact⟨_,rfl⟩|exact⟨_,_,rfl⟩|simp [AQ,A8]
      ·rw [if_neg e20]at h;have e20f:(JN Az BQ Ah Az BQ Ah)=false:=JF.mpr e20
       obtain rfl:=Option.some.inj h
       simp (maxDischargeDepth:=9) only [↓AP,AR,Ai,↓reduceIte,bj,bk,bl,bm,bo,bp,br,bt,bw,bx,bO,b0,b3,b4,b5,b6,b7,e1,e2,e3,e4.1,e4.2,c5,e6,e7,e8,e9,WV,c11,Ye,c13,e14f,e15f,e16,e17,Z4,c19,e20f]<;>(repeat' apply A7)<;>first|rfl|exact⟨_,rfl⟩|exact⟨_,_,rfl⟩|simp [AQ,A8]
     ·rw [if_neg e17]at h;have e17f:Lx.2=false:=JF.mpr e17
      obtain rfl:=Option.some.inj h
      simp (maxDischargeDepth:=9) only [↓AP,AR,Ai,↓reduceIte,bj,bk,bl,bm,bo,bp,br,bt,bw,bx,bO,b0,b3,b4,b5,b6,b7,e1,e2,e3,e4.1,e4.2,c5,e6,e7,e8,e9,WV,c11,Ye,c13,e14f,e15f,e16,e17f]<;>(repeat' apply A7)<;>first|rfl|exact⟨_,rfl⟩|exact⟨_,_,rfl⟩|simp [AQ,A8]
    ·rw [if_neg e16]at h;have e16f:Uv.2=false:=JF.mpr e16;by_cases e17:Lx.2=true
     ·rw [if_pos e17]at h
      obtain rfl:=Option.some.inj h
      simp (maxDischargeDepth:=9) only [↓AP,AR,Ai,↓reduceIte,bj,bk,bl,bm,bo,bp,br,bt,bw,bx,bO,b0,b3,b4,b5,b6,b7,e1,e2,e3,e4.1,e4.2,c5,e6,e7,e8,e9,WV,c11,Ye,c13,e14f,e15f,e16f,e17]<;>(repeat' apply A7)<;>first|rfl|exact⟨_,rfl⟩|exact⟨_,_,rfl⟩|simp [AQ,A8]
     ·rw [if_neg e17]at h;have e17f:Lx.2=false:=JF.mpr e17;have Z4:=FF Az BQ Ah e7 e8 e9;have c19:=Ie Az BQ Ah Az BQ Ah e7 e8 e9;by_cases e20:(JN Az BQ Ah Az BQ Ah)=true
      ·rw [if_pos e20]at h
       obtain rfl:=Option.some.inj h
       simp (maxDischargeDepth:=9) only [↓AP,AR,Ai,↓reduceIte,bj,bk,bl,bm,bo,bp,br,bt,bw,bx,bO,b0,b3,b4,b5,b6,b7,e1,e2,e3,e4.1,e4.2,c5,e6,e7,e8,e9,WV,c11,Ye,c13,e14f,e15f,e16f,e17f,Z4,c19,e20]<;>(repeat' apply A7)<;>first|rfl|exact⟨_,rfl⟩|exact⟨_,_,rfl⟩|simp [AQ,A8]
      ·rw [if_neg e20]at h;have e20f:(JN Az BQ Ah Az BQ Ah)=false:=JF.mpr e20
       obtain rfl:=Option.some.inj h
       simp (maxDischargeDepth:=9) only [↓AP,AR,Ai,↓reduceIte,bj,bk,bl,bm,bo,bp,br,bt,bw,bx,bO,b0,b3,b4,b5,b6,b7,e1,e2,e3,e4.1,e4.2,c5,e6,e7,e8,e9,WV,c11,Ye,c13,e14f,e15f,e16f,e17f,Z4,c19,e20f]<;>(repeat' apply A7)<;>first|rfl|exact⟨_,rfl⟩|exact⟨_,_,rfl⟩|simp [AQ,A8]
def Ag(n:Nat)(P:Nat→Bool):Option Nat:=(an n).find? P
theorem PM{n:Nat}{P:Nat→Bool}(h: ∀i,i<n→P i=false):Ag n P=none:=by
 unfold Ag;rw [cr];intro i hi;rw [h i (Nn.1 hi)];decide
theorem M0{n m:Nat}{P:Nat→Bool}(hm:m<n)(h:P m=true)(h0: ∀i,i<m→P i=false):Ag n P=some m:=by
 unfold Ag;rw [List.find?_range_eq_some]
 exact⟨h,Nn.2 hm,fun j hj=>by rw [h0 j hj];rfl⟩
theorem Ea{n m:Nat}{P:Nat→Bool}(h:Ag n P=some m):m<n∧P m=true:=by
 unfold Ag at h
 exact⟨Nn.1 (List.mem_of_find?_eq_some h),List.find?_some h⟩
theorem LJ{σ ρ:Type}(f:σ→Option (σ⊕ρ))(st:Nat→σ)(n:Nat)(P:Nat→Bool)(hit:Nat→ρ)(miss:ρ)
  (h: ∀i,i<n→f (st i)=if P i=true then some (.inr (hit i))else some (.inl (st (i+1))))(e:f (st n)=some (.inr miss)):
  Io f (st 0)=some (match Ag n P with|some i=>hit i|none=>miss):=by
 by_cases hp: ∀i,i<n→(!P i)=true
 ·have h0: ∀i,i<n→P i=false:=fun i hi=>by simpa using hp i hi
  rw [PM h0];exact Ce f st n miss (fun i hi=>by rw [h i hi,h0 i hi,if_neg (by decide)]) e
 ·obtain⟨m,hm,hpm,h0⟩:=Nz hp;have hpm':P m=true:=by simpa using hpm
  have h0': ∀i,i<m→P i=false:=fun i hi=>by simpa using h0 i hi
  rw [M0 hm hpm' h0'];exact Ce f st m (hit m) (fun i hi=>by rw [h i (by omega),h0' i hi,if_neg (by decide)]) (by rw [h m hm,if_pos hpm'])
theorem Dp{n:Nat}{P:Nat→Bool}:(Ag n P).isSome=true↔ ∃i,i<n∧P i=true:=by
 constructor
 ·intro h
  cases hq:Ag n P with
  |none=>rw [hq]at h;cases h
  |some m=>exact⟨m,Ea hq⟩
 ·rintro⟨i,hi,hp⟩
  cases hq:Ag n P with
  |some m=>rfl
  |none=>
   unfold Ag at hq;rw [cr]at hq;exact absurd hp (hq i (Nn.2 hi))
theorem QX{n m:Nat}{P:Nat→Bool}(h:Ag n P=some m): ∀i,i<m→P i=false:=by
 unfold Ag at h;rw [List.find?_range_eq_some]at h;intro i hi;simpa using h.2.2 i hi
theorem gq(m:List (AL×Int))(k k':AL)(v:Int)(h:(IZ m k).2=false):IZ (m++[(k,v)]) k'=if k'=k then(v,true)else IZ m k':=by
 unfold IZ at h ⊢;rw [List.find?_append];by_cases e:k'=k
 ·subst e
  cases hf:m.find? (fun p=>p.1==k')with
  |some p=>rw [hf]at h;cases h
  |none=>simp
 ·rw [if_neg e];have e2:(k==k')=false:=by simpa using fun c:k=k'=>e c.symm
  cases hf:m.find? (fun p=>p.1==k')with
  |some p=>simp
  |none=>simp [e2]
theorem gu(m:List (AL×Int))(k:AL)(v:Int)(h:(IZ m k).2=false):Sd m k v=m++[(k,v)]:=by
 unfold Sd
 have:m.findIdx? (fun p=>p.1==k)=none:=by
  rw [List.findIdx?_eq_none_iff];intro x hx;unfold IZ at h
  cases hf:m.find? (fun p=>p.1==k)with
  |some p=>rw [hf]at h;cases h
  |none=>rw [cr]at hf;simpa using hf x hx
 rw [this]
theorem M3(n:Nat)(P:Nat→Bool):Ag (n+1) P=match Ag n P with|some u=>some u|none=>if P n=true then some n else none:=by
 unfold Ag;rw [List.range_succ,List.find?_append]
 cases (an n).find? P with
 |some u=>rfl
 |none=>
  cases hp:P n
  ·simp [hp]
  ·simp [hp]
theorem Gb{n:Nat}{P Q:Nat→Bool}(h: ∀i,i<n→P i=Q i):Ag n P=Ag n Q:=by
 induction n with
 |zero=>rfl
 |succ n ih=>rw [M3,M3,ih fun i hi=>h i (by omega),h n (by omega)]
theorem M4{n:Nat}{P:Nat→Bool}(h:Ag n P=none): ∀i,i<n→P i=false:=by
 intro i hi
 cases hp:P i with
 |false=>rfl
 |true=>have:=Dp.2 ⟨i,hi,hp⟩;rw [h]at this;cases this
def cl(K:Nat→AL):Nat→AL×Nat
 |0=>([],0)
 |v+1=>match Ag v (fun u=>K u==K v)with
  |some u=>((cl K v).1++[(cl K v).1.getD u be],(cl K v).2)
  |none=>((cl K v).1++[((cl K v).2:Int)],(cl K v).2+1)
def cv(K:Nat→AL)(v:Nat):Int:=(cl K (v+1)).1.getD v be
theorem RB{K:Nat→AL}{v u:Nat}(h:Ag v (fun u=>K u==K v)=some u):cl K (v+1)=((cl K v).1++[(cl K v).1.getD u be],(cl K v).2):=by rw [cl,h]
theorem RD{K:Nat→AL}{v:Nat}(h:Ag v (fun u=>K u==K v)=none):cl K (v+1)=((cl K v).1++[((cl K v).2:Int)],(cl K v).2+1):=by rw [cl,h]
theorem M5(K:Nat→AL): ∀v,(cl K v).1.length=v
 |0=>rfl
 |v+1=>by
  have:=M5 K v
  cases h:Ag v (fun u=>K u==K v)with
  |some u=>rw [RB h];simp [this]
  |none=>rw [RD h];simp [this]
theorem Q5{l m:AL}{i:Nat}(h:i<l.length):(l++m).getD i be=l.getD i be:=by
 rw [Jg,MP h,Jg]
theorem A1U(K:Nat→AL)(v u:Nat)(h:u<v):(cl K (v+1)).1.getD u be=(cl K v).1.getD u be:=by
 have hl:=M5 K v
 cases hf:Ag v (fun u=>K u==K v)with
 |some f=>rw [RB hf];exact Q5 (by omega)
 |none=>rw [RD hf];exact Q5 (by omega)
theorem XG(K:Nat→AL): ∀(v u:Nat),u<v→(cl K v).1.getD u be=cv K u
 |0,u,h=>by omega
 |v+1,u,h=>by
  by_cases e:u=v
  ·subst e;rfl
  ·rw [A1U K v u (by omega),XG K v u (by omega)]
theorem PN{K:Nat→AL}{v u:Nat}(h:Ag v (fun u=>K u==K v)=some u):cv K v=cv K u:=by
 have hl:=M5 K v;have hu:=(Ea h).1;unfold cv;rw [RB h]
 show((cl K v).1++[(cl K v).1.getD u be]).getD v be=_
 rw [Jg,MO (by omega),hl,ci]
 show(cl K v).1.getD u be=_
 rw [XG K v u hu];rfl
theorem NR{K:Nat→AL}{v:Nat}(h:Ag v (fun u=>K u==K v)=none):cv K v=((cl K v).2:Int):=by
 have hl:=M5 K v;unfold cv;rw [RD h]
 show((cl K v).1++[((cl K v).2:Int)]).getD v be=_
 rw [Jg,MO (by omega),hl,ci]
 rfl
theorem dO(K:Nat→AL)(v:Nat):(cl K (v+1)).1=(cl K v).1++[cv K v]:=by
 cases h:Ag v (fun u=>K u==K v)with
 |some u=>rw [RB h,PN h,XG K v u (Ea h).1]
 |none=>rw [RD h,NR h]
theorem lq(K:Nat→AL): ∀v,(cl K v).1=(an v).map (cv K)
 |0=>rfl
 |v+1=>by rw [dO,lq K v,List.range_succ,List.map_append];rfl
theorem RF(K:Nat→AL)(v:Nat):(cl K (v+1)).2=match Ag v (fun u=>K u==K v)with|some _=>(cl K v).2|none=>(cl K v).2+1:=by
 rw [cl]
 split<;>rfl
theorem lu(K:Nat→AL): ∀v,(cl K v).2≤v
 |0=>Hq _
 |v+1=>by
  have:=lu K v
  rw [RF];split
  ·exact Nat.le_succ_of_le this
  ·exact Nat.succ_le_succ this
theorem lw(K:Nat→AL): ∀v,(∀u,u<v→0≤cv K u∧cv K u<((cl K v).2:Int))∧ ∀u w,u<v→w<v→(cv K u=cv K w↔K u=K w)
 |0=>⟨fun u h=>by omega,fun u w h=>by omega⟩
 |v+1=>by
  obtain⟨h1,h2⟩:=lw K v;have hm:=RF K v
  cases hf:Ag v (fun u=>K u==K v)with
  |some f=>
   have hfv:=(Ea hf).1;have hk:K f=K v:=by simpa using (Ea hf).2
   have hc:=PN hf;rw [hf]at hm
   refine⟨fun u hu=> ?_, ?_⟩
   ·rw [hm];by_cases e:u=v
    ·subst e;rw [hc];exact h1 f hfv
    ·exact h1 u (by omega)
   ·have key: ∀u,u<v→(cv K u=cv K v↔K u=K v):=fun u hu=>by rw [hc,←hk];exact h2 u f hu hfv
    intro u w hu hw;by_cases eu:u=v
    ·subst eu;by_cases ew:w=u
     ·subst ew;simp
     ·exact⟨fun h=>((key w (by omega)).1 h.symm).symm,fun h=>((key w (by omega)).2 h.symm).symm⟩
    ·by_cases ew:w=v
     ·subst ew;exact key u (by omega)
     ·exact h2 u w (by omega) (by omega)
  |none=>
   have hno:=M4 hf;have hc:=NR hf;rw [hf]at hm;simp only at hm
   refine⟨fun u hu=> ?_, ?_⟩
   ·rw [hm];by_cases e:u=v
    ·subst e;rw [hc];omega
    ·have:=h1 u (by omega);omega
   ·have key: ∀u,u<v→(cv K u=cv K v↔K u=K v):=fun u hu=>by
     have a:=h1 u hu;have b:=hno u hu
     refine⟨fun h=>by rw [hc]at h;omega,fun h=> ?_⟩
     rw [h]at b;simp at b
    intro u w hu hw;by_cases eu:u=v
    ·subst eu;by_cases ew:w=u
     ·subst ew;simp
     ·exact⟨fun h=>((key w (by omega)).1 h.symm).symm,fun h=>((key w (by omega)).2 h.symm).symm⟩
    ·by_cases ew:w=v
     ·subst ew;exact key u (by omega)
     ·exact h2 u w (by omega) (by omega)
theorem A1V(K:Nat→AL)(v u:Nat)(h:u<v):0≤cv K u∧cv K u<((cl K v).2:Int):=(lw K v).1 u h
def JC(l:AL):Int:=l.foldl (fun a x=>max a (x+1)) 0
theorem gy(l:AL)(x:Int):JC (l++[x])=max (JC l) (x+1):=by unfold JC;rw [List.foldl_append];rfl
def Q6(K:Nat→AL):Nat→List (AL×Int)
 |0=>[]
 |v+1=>match Ag v (fun u=>K u==K v)with
  |some _=>Q6 K v
  |none=>Q6 K v++[(K v,((cl K v).2:Int))]
theorem RG(K:Nat→AL): ∀(v:Nat) (k:AL),IZ (Q6 K v) k=match Ag v (fun u=>K u==k)with|some u=>(cv K u,true)|none=>(0,false)
 |0,k=>rfl
 |v+1,k=>by
  have ih:=RG K v;rw [M3]
  cases hf:Ag v (fun u=>K u==K v)with
  |some f=>
   rw [show Q6 K (v+1)=Q6 K v by rw [Q6,hf],ih k]
   cases hk:Ag v (fun u=>K u==k)with
   |some u=>rfl
   |none=>
    have hno:=M4 hk f (Ea hf).1;have he:K f=K v:=by simpa using (Ea hf).2
    rw [he]at hno;simp only [hno];rfl
  |none=>
   have h0:(IZ (Q6 K v) (K v)).2=false:=by rw [ih,hf]
   rw [show Q6 K (v+1)=Q6 K v++[(K v,((cl K v).2:Int))] by rw [Q6,hf],gq _ _ _ _ h0]
   by_cases e:k=K v
   ·subst e;rw [if_pos rfl,hf];simp only [beq_self_eq_true,if_true,NR hf]
   ·rw [if_neg e,ih k];have e2:(K v==k)=false:=by simpa using fun c:K v=k=>e c.symm
    cases hk:Ag v (fun u=>K u==k)with
    |some u=>rfl
    |none=>simp only [e2];rfl
theorem RH(K:Nat→AL): ∀v,(Q6 K v).length=(cl K v).2
 |0=>rfl
 |v+1=>by
  have ih:=RH K v;rw [RF,Q6]
  split<;>simp [ih]
theorem dP(K:Nat→AL)(v:Nat)(h:Ag v (fun u=>K u==K v)=none):Sd (Q6 K v) (K v) ((Q6 K v).length:Int)=Q6 K (v+1):=by
 rw [gu _ _ _ (by rw [RG,h]),RH,Q6,h]
theorem mD(l:AL)(n:Nat)(x:Int)(hi:l.length<n):(l++ao (n-l.length) 0).set l.length x=(l++[x])++ao (n-(l.length+1)) 0:=by
 rw [List.set_append_right _ _ (Hq _),ci,show n-l.length=(n-(l.length+1))+1 by omega,dX,List.set_cons_zero,OD]
 rfl
def Qs(E:Ar)(v i:Nat):Int:=BJ (E.getD v be) i
def XH(E:Ar)(v i:Nat):Int:=CG (E.getD v be) i
def FU(E:Ar)(v:Nat):Nat:=(E.getD v be).length
def gk(E:Ar)(ins c:AL)(v i j:Nat):Int:=
 if j=0 then(FU E v:Int)else if j=1 then ins.getD v be else
 if(j-2) / 2<i then(if j % 2=0 then XH E v ((j-2) / 2)else c.getD (Qs E v ((j-2) / 2)).toNat be)else 0
def XI(E:Ar)(ins c:AL)(v i:Nat):AL:=(an 14).map (gk E ins c v i)
def Kc(E:Ar)(ins c:AL)(v:Nat):AL:=XI E ins c v (if c.isEmpty then 0 else FU E v)
def LK(E:Ar)(ins:AL):Prop:=1≤E.length∧E.length≤40∧ins.length=E.length∧(∀v,v<E.length→FU E v≤6)∧ ∀v i,v<E.length→i<FU E v→0≤Qs E v i∧(Qs E v i).toNat<E.length
theorem mE(E:Ar)(ins c:AL)(v:Nat):XI E ins c v 0=[(FU E v:Int),ins.getD v be,0,0,0,0,0,0,0,0,0,0,0,0]:=rfl
theorem XJ(E:Ar)(ins c:AL)(v i:Nat):(XI E ins c v i).length=14:=by simp [XI]
theorem mF(E:Ar)(ins c:AL)(v i:Nat)(hi:i<6):((XI E ins c v i).set (2+2*i) (XH E v i)).set (3+2*i) (c.getD (Qs E v i).toNat be)=XI E ins c v (i+1):=by
 refine List.ext_getElem (by simp [XI]) (fun j h1 h2=> ?_)
 have hj:j<14:=by simpa [XI] using h2
 rw [List.getElem_set];split
 ·rename_i e
  subst e;simp only [XI,co,Va,gk];rw [if_neg (by omega),if_neg (by omega),if_pos (by omega),if_neg (by omega),show(3+2*i-2) / 2=i by omega]
 ·rename_i e
  rw [List.getElem_set];split
  ·rename_i e2
   subst e2;simp only [XI,co,Va,gk];rw [if_neg (by omega),if_neg (by omega),if_pos (by omega),if_pos (by omega),show(2+2*i-2) / 2=i by omega]
  ·rename_i e2
   simp only [XI,co,Va,gk];by_cases h0:j=0
   ·rw [if_pos h0,if_pos h0]
   ·rw [if_neg h0,if_neg h0];by_cases h3:j=1
    ·rw [if_pos h3,if_pos h3]
    ·rw [if_neg h3,if_neg h3];by_cases h4:(j-2) / 2<i
     ·rw [if_pos h4,if_pos (show(j-2) / 2<i+1 by omega)]
     ·rw [if_neg h4,if_neg (show ¬(j-2) / 2<i+1 by omega)]
def alk(E:Ar)(ins c:AL)(u v:Nat):Prop:=
 FU E u=FU E v∧ins.getD u be=ins.getD v be∧(c≠[]→ ∀i,i<FU E u→XH E u i=XH E v i∧c.getD (Qs E u i).toNat be=c.getD (Qs E v i).toNat be)
theorem qE{E:Ar}{ins c:AL}{u v i k:Nat}:XI E ins c u i=XI E ins c v k↔ ∀j,j<14→gk E ins c u i j=gk E ins c v k j:=by
 unfold XI
 constructor
 ·intro h j hj;have:=congrArg (fun l=>l[j]?) h
  simpa [dW hj] using this
 ·intro h;exact List.map_congr_left fun j hj=>h j (Nn.1 hj)
theorem A1W{E:Ar}{ins c:AL}{u v:Nat}(hu:FU E u≤6)(hv:FU E v≤6):Kc E ins c u=Kc E ins c v↔alk E ins c u v:=by
 unfold Kc;rw [qE]
 cases c with
 |nil=>
  simp only [List.isEmpty_nil,if_true]
  constructor
  ·intro h;have h0:=h 0 (by omega)
   have h1:=h 1 (by omega)
   simp only [gk]at h0 h1;have h0:(FU E u:Int)=(FU E v:Int):=by simpa using h0
   exact⟨by omega,by simpa using h1,fun hc=>(hc rfl).elim⟩
  ·rintro⟨h0,h1,_⟩ j hj
   simp only [gk,h0,h1,Nat.not_lt_zero,if_false]
 |cons x xs=>
  simp only [List.isEmpty_cons,Ik,if_false]
  constructor
  ·intro h;have h0:=h 0 (by omega)
   have h1:=h 1 (by omega)
   simp only [gk]at h0 h1;have hd:(FU E u:Int)=(FU E v:Int):=by simpa using h0
   have hd:FU E u=FU E v:=by omega
   refine⟨hd,by simpa using h1,fun _ i hi=>⟨?_, ?_⟩⟩
   ·have:=h (2+2*i) (by omega)
    simp only [gk]at this;rw [if_neg (by omega),if_neg (by omega),if_pos (by omega),if_pos (by omega),if_neg (by omega),if_neg (by omega),if_pos (by omega),if_pos (by omega),show(2+2*i-2) / 2=i by omega]at this
    exact this
   ·have:=h (3+2*i) (by omega)
    simp only [gk]at this;rw [if_neg (by omega),if_neg (by omega),if_pos (by omega),if_neg (by omega),if_neg (by omega),if_neg (by omega),if_pos (by omega),if_neg (by omega),show(3+2*i-2) / 2=i by omega]at this
    exact this
  ·rintro⟨hd,h1,h2⟩ j hj
   have h2:=h2 (by simp)
   simp only [gk];by_cases e0:j=0
   ·rw [if_pos e0,if_pos e0,hd]
   ·rw [if_neg e0,if_neg e0];by_cases e1:j=1
    ·rw [if_pos e1,if_pos e1,h1]
    ·rw [if_neg e1,if_neg e1];by_cases e2:(j-2) / 2<FU E u
     ·obtain⟨q1,q2⟩:=h2 _ e2;rw [if_pos e2,if_pos (show(j-2) / 2<FU E v by omega),q1,q2]
     ·rw [if_neg e2,if_neg (show ¬(j-2) / 2<FU E v by omega)]
def MF(E:Ar)(ins c:AL):AL:=(cl (Kc E ins c) E.length).1
theorem mG{E:Ar}{ins:AL}(hN:LK E ins)(ids c:AL)(hc:c.length=E.length)(t5:List (AL×Int))(t6:AL)(v:Nat)(hv:v<E.length):
  EL E ids ins c t5 t6 (v:Int) (XI E ins c v 0,0)=some (XI E ins c v (FU E v)):=by
 obtain⟨h1,h40,hin,hd,hp⟩:=hN;have hd6:=hd v hv;have key:=Ce (fun w=>DW E ids ins c t5 t6 (v:Int) w.1 w.2) (fun i=>(XI E ins c v i,(i:Int))) (FU E v) (XI E ins c v (FU E v)) (fun i hi=> ?_) ?_
 ·unfold EL;exact key
 ·obtain⟨q1,q2⟩:=hp v i hv hi;have hn:0≤BJ (E.getD v be) i∧(BJ (E.getD v be) i).toNat<c.length:=⟨q1,by rw [hc];exact q2⟩
  have e1:IntKind.i64.wrap (2*(i:Int))=((2*i:Nat):Int):=by rw [L8 _ (by omega)];omega
  have e2:IntKind.i64.wrap (2+((2*i:Nat):Int))=((2+2*i:Nat):Int):=by rw [L8 _ (by omega)];omega
  have e3:IntKind.i64.wrap (3+((2*i:Nat):Int))=((3+2*i:Nat):Int):=by rw [L8 _ (by omega)];omega
  have hi':i<(E.getD v be).length:=hi;simp only [DW,Jh,e1,e2,e3];rw [if_pos (Bd hi'),Bu ⟨by omega,hi'⟩,Bu (by omega),Bu hn,Bu (by omega),Bu (by rw [XJ];omega),Bu (by omega),Bu (by rw [XJ];omega),Kk i (by omega)]
  have:=mF E ins c v i (by omega)
  unfold XH Qs at this;rw [this]
 ·simp only [DW,Jh];rw [if_neg (show ¬(FU E v:Int)<((E.getD v be).length:Int)from Ap _)]
theorem NS(K:Nat→AL)(n i:Nat)(hi:i<n)(x:Int)(hx:x=cv K i):((cl K i).1++ao (n-i) 0).set i x=(cl K (i+1)).1++ao (n-(i+1)) 0:=by
 have hl:=M5 K i;have:=mD (cl K i).1 n x (by omega)
 rw [hl]at this;rw [this,dO,hx]
theorem bB{E:Ar}{ins:AL}(hN:LK E ins)(ids c:AL)(hc:c.length=E.length):
  FM E ids ins c ([],ao E.length 0,0)=some (MF E ins c):=by
 have hN':=hN;obtain⟨h1,h40,hin,hd,hp⟩:=hN;have hne:c.isEmpty=false:=by cases c with|nil=>simp at hc;omega|cons=>rfl
 have hK: ∀v,Kc E ins c v=XI E ins c v (FU E v):=fun v=>by unfold Kc;rw [hne];rfl
 have key:=Ce (fun w=>DX E ids ins c w.1 w.2.1 w.2.2) (fun i=>(Q6 (Kc E ins c) i,(cl (Kc E ins c) i).1++ao (E.length-i) 0,(i:Int))) E.length (MF E ins c) (fun i hi=> ?_) ?_
 ·unfold FM;exact key
 ·have hlen:i<((cl (Kc E ins c) i).1++ao (E.length-i) 0).length:=by rw [KG,M5,Z8];omega
  have hk0:=mG hN' ids c hc (Q6 (Kc E ins c) i) ((cl (Kc E ins c) i).1++ao (E.length-i) 0) i hi;rw [mE,←hK i]at hk0;have hk0:EL E ids ins c (Q6 (Kc E ins c) i) ((cl (Kc E ins c) i).1++ao (E.length-i) 0) (i:Int) ([((E.getD i be).length:Int),ins.getD i be,0,0,0,0,0,0,0,0,0,0,0,0],0)=some (Kc E ins c i):=hk0;have hl14:(Kc E ins c i).length=14:=by rw [hK];exact XJ _ _ _ _ _
  simp only [DX,Jh];rw [if_pos (Bd hi),Bu ⟨by omega,hi⟩,Bu ⟨by omega,by omega⟩,hk0,DT,Bu (show(Kc E ins c i).length≤14∧14≤(Kc E ins c i).length by omega),RG,Kk i (by omega)]
  cases hf:Ag i (fun u=>Kc E ins c u==Kc E ins c i)with
  |some f=>
   simp only [if_true];rw [Bu ⟨by omega,hlen⟩,NS _ _ _ hi _ (PN hf).symm]
   rw [show Q6 (Kc E ins c) (i+1)=Q6 (Kc E ins c) i by rw [Q6,hf]]
  |none=>
   simp only [Ik,if_false];rw [Bu ⟨by omega,hlen⟩,dP _ _ hf,NS _ _ _ hi _ (by rw [NR hf,RH])]
 ·simp only [DX];rw [if_neg (Ap _),ci,ct,UD];rfl
theorem A1X{E:Ar}{ins:AL}(hN:LK E ins)(ids c:AL)(hc:c.length=E.length):I8 E ids ins c=some (MF E ins c):=by
 have h40:=hN.2.1;unfold I8;rw [Bu (by omega),bB hN ids c hc,DT]
theorem gz{E:Ar}{ins:AL}(hN:LK E ins)(ids:AL)(t5:List (AL×Int))(t6:AL)(v:Nat)(hv:v<E.length):
  Dm E ids ins t5 t6 (v:Int) 0=some ():=by
 obtain⟨h1,h40,hin,hd,hp⟩:=hN;have hd6:=hd v hv;have key:=Ce (fun w=>CX E ids ins t5 t6 (v:Int) w) (fun i=>(i:Int)) (FU E v) () (fun i hi=> ?_) ?_
 ·unfold Dm;exact key
 ·have hi':i<(E.getD v be).length:=hi;simp only [CX,Jh];rw [if_pos (Bd hi'),Bu ⟨by omega,hi'⟩,Kk i (by omega)]
 ·simp only [CX,Jh];rw [if_neg (show ¬(FU E v:Int)<((E.getD v be).length:Int)from Ap _)]
theorem Yv{E:Ar}{ins:AL}(hN:LK E ins)(ids:AL):
  Dn E ids ins ([],ao E.length 0,0)=some (MF E ins []):=by
 have hN':=hN;obtain⟨h1,h40,hin,hd,hp⟩:=hN;have hK: ∀v,Kc E ins [] v=[((E.getD v be).length:Int),ins.getD v be,0,0,0,0,0,0,0,0,0,0,0,0]:=fun v=>rfl;have key:=Ce (fun w=>CY E ids ins w.1 w.2.1 w.2.2) (fun i=>(Q6 (Kc E ins []) i,(cl (Kc E ins []) i).1++ao (E.length-i) 0,(i:Int))) E.length (MF E ins []) (fun i hi=> ?_) ?_
 ·unfold Dn;exact key
 ·have hlen:i<((cl (Kc E ins []) i).1++ao (E.length-i) 0).length:=by rw [KG,M5,Z8];omega
  have hk0:=gz hN' ids (Q6 (Kc E ins []) i) ((cl (Kc E ins []) i).1++ao (E.length-i) 0) i hi;simp only [CY,Jh];rw [if_pos (Bd hi),Bu ⟨by omega,hi⟩,Bu ⟨by omega,by omega⟩,hk0,DT,←hK i,RG,Kk i (by omega)]
  cases hf:Ag i (fun u=>Kc E ins [] u==Kc E ins [] i)with
  |some f=>
   simp only [if_true];rw [Bu ⟨by omega,hlen⟩,NS _ _ _ hi _ (PN hf).symm]
   rw [show Q6 (Kc E ins []) (i+1)=Q6 (Kc E ins []) i by rw [Q6,hf]]
  |none=>
   simp only [Ik,if_false];rw [Bu ⟨by omega,hlen⟩,dP _ _ hf,NS _ _ _ hi _ (by rw [NR hf,RH])]
 ·simp only [CY];rw [if_neg (Ap _),ci,ct,UD];rfl
theorem A1Y{E:Ar}{ins:AL}(hN:LK E ins)(ids:AL):El E ids ins=some (MF E ins []):=by
 have h40:=hN.2.1;unfold El;rw [Bu (by omega),Yv hN ids,DT]
def bC(E:Ar)(c:AL)(u v i:Nat):Bool:=decide (XH E u i=XH E v i)&&decide (c.getD (Qs E u i).toNat be=c.getD (Qs E v i).toNat be)
def Yw(E:Ar)(ins c:AL)(u v:Nat):Bool:=decide ((FU E u:Int)=(FU E v:Int))&&(decide (ins.getD u be=ins.getD v be)&&(an (FU E u)).all (fun i=>c.isEmpty||bC E c u v i))
theorem mH{E:Ar}{ins c:AL}{u v:Nat}:Yw E ins c u v=true↔alk E ins c u v:=by
 unfold Yw alk;rw [F9,F9,decide_eq_true_eq,decide_eq_true_eq,GA]
 constructor
 ·rintro⟨h1,h2,h3⟩
  refine⟨by omega,h2,fun hc i hi=> ?_⟩
  have:=h3 i hi
  rw [show c.isEmpty=false by cases c with|nil=>exact(hc rfl).elim|cons=>rfl,RO]at this
  unfold bC at this;simpa using this
 ·rintro⟨h1,h2,h3⟩
  refine⟨by omega,h2,fun i hi=> ?_⟩
  cases c with
  |nil=>rfl
  |cons x xs=>
   obtain⟨a,b⟩:=h3 (by simp) i hi
   rw [List.isEmpty_cons,RO];unfold bC;rw [a,b];simp
theorem ADs{E:Ar}{ins c:AL}{u v:Nat}(hu:FU E u≤6)(hv:FU E v≤6):(Kc E ins c u==Kc E ins c v)=Yw E ins c u v:=by
 rw [PS,mH,←A1W hu hv];simp
theorem mI{E:Ar}{ins:AL}(hN:LK E ins)(ids c:AL)(hc:c=[]∨c.length=E.length)(u v:Nat)(hu:u<E.length)(hv:v<E.length):
  LF E ids ins c (u:Int) (v:Int)=some (Yw E ins c u v):=by
 obtain⟨h1,h40,hin,hd,hp⟩:=hN;have hdu:=hd u hu;unfold LF Yw;simp only [Jh];rw [Bu ⟨by omega,hu⟩,Bu ⟨by omega,hv⟩]
 by_cases q1:(FU E u:Int)=(FU E v:Int)
 ·rw [if_pos (show((E.getD u be).length:Int)=((E.getD v be).length:Int)from q1),Bu ⟨by omega,by omega⟩,Bu ⟨by omega,by omega⟩,decide_eq_true q1,OE]
  by_cases q2:ins.getD u be=ins.getD v be
  ·rw [if_pos q2,decide_eq_true q2,OE];have key:=IA (fun w=>FO E ids ins c (u:Int) (v:Int) w) (fun i=>(i:Int)) (FU E u) (fun i=>c.isEmpty||bC E c u v i) (.inl ()) (.inr ()) (fun i hi=> ?_) ?_
   ·rw [show Ii E ids ins c (u:Int) (v:Int) 0=some (if(an (FU E u)).all (fun i=>c.isEmpty||bC E c u v i)=true then .inr ()else .inl ())from by unfold Ii;exact key,DT]
    cases (an (FU E u)).all (fun i=>c.isEmpty||bC E c u v i)<;>rfl
   ·have hi1:i<(E.getD u be).length:=hi
    have hi2:i<(E.getD v be).length:=by
     have:FU E u=FU E v:=by omega
     unfold FU at this;omega
    simp only [FO,Jh];rw [if_pos (Bd hi1),Bu ⟨by omega,hi1⟩,Bu ⟨by omega,hv⟩,Bu ⟨by omega,hi2⟩,Kk i (by omega)]
    rcases hc with rfl|hc
    ·rw [if_neg (by simp)];rfl
    ·rw [if_pos (by omega)]
     have he:c.isEmpty=false:=by cases c with|nil=>simp at hc;omega|cons=>rfl
     have p1:=hp u i hu hi;have p2:=hp v i hv hi2;rw [he,RO];unfold bC;by_cases r1:XH E u i=XH E v i
     ·rw [if_pos (show CG (E.getD u be) i=CG (E.getD v be) i from r1),Bu (show 0≤BJ (E.getD u be) i∧(BJ (E.getD u be) i).toNat<c.length from⟨p1.1,by rw [hc];exact p1.2⟩),
       Bu (show 0≤BJ (E.getD v be) i∧(BJ (E.getD v be) i).toNat<c.length from⟨p2.1,by rw [hc];exact p2.2⟩),decide_eq_true r1,OE]
      by_cases r2:c.getD (Qs E u i).toNat be=c.getD (Qs E v i).toNat be
      ·rw [if_pos (show c.getD (BJ (E.getD u be) i).toNat be=c.getD (BJ (E.getD v be) i).toNat be from r2),decide_eq_true r2,if_pos rfl]
      ·rw [if_neg (show ¬c.getD (BJ (E.getD u be) i).toNat be=c.getD (BJ (E.getD v be) i).toNat be from r2),decide_eq_false r2,if_neg (by decide)]
     ·rw [if_neg (show ¬CG (E.getD u be) i=CG (E.getD v be) i from r1),decide_eq_false r1,Bool.false_and,if_neg (by decide)]
   ·simp only [FO,Jh];rw [if_neg (show ¬(FU E u:Int)<((E.getD u be).length:Int)from Ap _)]
  ·rw [if_neg q2,decide_eq_false q2];rfl
 ·rw [if_neg (show ¬((E.getD u be).length:Int)=((E.getD v be).length:Int)from q1),decide_eq_false q1];rfl
theorem bD{E:Ar}{ins:AL}(hN:LK E ins)(ids c:AL)(hc:c=[]∨c.length=E.length)(out:AL)(many:Int)(i:Nat)(hi:i<E.length):
  IL E ids ins c out many (i:Int) (-1,0)=some (match Ag i (fun u=>Yw E ins c u i)with|some f=>(f:Int)|none=> -1):=by
 have h40:=hN.2.1
 have step: ∀j,j<i→Cg E ids ins c out many (i:Int) (-1) (j:Int)=if Yw E ins c j i=true then some (.inl ((j:Int),((j+1:Nat):Int)))else some (.inl (-1,((j+1:Nat):Int))):=fun j hj=>by
  simp only [Cg];rw [if_pos (Bd hj),if_pos (by decide),mI hN ids c hc j i (by omega) hi,DT,Kk j (by omega)]
 cases hf:Ag i (fun u=>Yw E ins c u i)with
 |none=>
  have hno:=M4 hf;have key:=Ce (fun w=>Cg E ids ins c out many (i:Int) w.1 w.2) (fun j=>((-1:Int),(j:Int))) i (-1) (fun j hj=> ?_) ?_
  ·unfold IL;exact key
  ·show Cg E ids ins c out many (i:Int) (-1) (j:Int)=_
   rw [step j hj,hno j hj,if_neg (by decide)]
  ·simp only [Cg];rw [if_neg (Ap _)]
 |some f=>
  have hfi:=Ea hf;have hmin:=QX hf;have key:=Ce (fun w=>Cg E ids ins c out many (i:Int) w.1 w.2) (fun j=>if j≤f then((-1:Int),(j:Int))else((f:Int),((f+1:Nat):Int))) (f+1) (f:Int) (fun j hj=> ?_) ?_
  ·unfold IL;exact key
  ·rw [if_pos (by omega)]
   show Cg E ids ins c out many (i:Int) (-1) (j:Int)=_
   rw [step j (by omega)]
   by_cases e:j=f
   ·subst e;rw [hfi.2,if_pos rfl,if_neg (by omega)]
   ·rw [hmin j (by omega),if_neg (by decide),if_pos (by omega)]
  ·rw [if_neg (by omega)]
   simp only [Cg];by_cases e:((f+1:Nat):Int)<(i:Int)
   ·rw [if_pos e,if_neg (by omega)]
   ·rw [if_neg e]
theorem yJ{E:Ar}{ins:AL}(hN:LK E ins)(ids c:AL)(hc:c=[]∨c.length=E.length):LG E ids ins c=some (MF E ins c):=by
 have hN':=hN;obtain⟨h1,h40,hin,hd,hp⟩:=hN;have key:=Ce (fun w=>GY E ids ins c w.1 w.2.1 w.2.2) (fun i=>((cl (Kc E ins c) i).1++ao (E.length-i) 0,((cl (Kc E ins c) i).2:Int),(i:Int))) E.length (MF E ins c) (fun i hi=> ?_) ?_
 ·unfold LG;rw [Bu (by omega),show JW E ids ins c (ao E.length 0,0,0)=_ from by unfold JW;exact key,DT]
 ·have hl:=M5 (Kc E ins c) i;have hlen:i<((cl (Kc E ins c) i).1++ao (E.length-i) 0).length:=by rw [KG,hl,Z8];omega
  have hm:=RF (Kc E ins c) i;have hle:=lu (Kc E ins c) i;simp only [GY,Jh]
  rw [if_pos (Bd hi),bD hN' ids c hc _ _ i hi,DT,Kk i (by omega),
   ←Gb (P:=fun u=>Kc E ins c u==Kc E ins c i) (fun u hu=>ADs (hd u (by omega)) (hd i hi))]
  cases hf:Ag i (fun u=>Kc E ins c u==Kc E ins c i)with
  |some f=>
   have hfi:=(Ea hf).1;rw [hf]at hm;simp only at hm;simp only [Jh];rw [if_pos (by omega),Bu ⟨by omega,by omega⟩,Bu ⟨by omega,hlen⟩,Q5 (by omega),XG _ _ _ hfi,NS _ _ _ hi _ (PN hf).symm,hm]
  |none=>
   rw [hf]at hm;have hm:(cl (Kc E ins c) (i+1)).2=(cl (Kc E ins c) i).2+1:=hm;simp only;rw [if_neg (by decide),Bu ⟨by omega,hlen⟩,NS _ _ _ hi _ (NR hf).symm,hm,Kk _ (by omega)]
 ·simp only [GY];rw [if_neg (Ap _),ci,ct,UD];rfl
def iJ(E:Ar)(ins:AL):Nat→AL
 |0=>MF E ins []
 |t+1=>MF E ins (iJ E ins t)
theorem XK(E:Ar)(ins:AL)(t:Nat):(iJ E ins t).length=E.length:=by cases t<;>exact M5 _ _
theorem ADt{E:Ar}{ins:AL}(hN:LK E ins)(ids:AL)(t:Nat)(ht:t≤1000):JU E ids ins (t:Int)=some (iJ E ins t):=by
 have key:=Ce (fun w=>EM E ids ins (t:Int) w.1 w.2) (fun k=>(iJ E ins k,(k:Int))) t (iJ E ins t) (fun k hk=> ?_) ?_
 ·unfold JU;rw [A1Y hN ids,DT,show H5 E ids ins (t:Int) (MF E ins [],0)=_ from by unfold H5;exact key,DT]
 ·simp only [EM];rw [if_pos (Bd hk),A1X hN ids _ (XK E ins k),DT,Kk k (by omega)];rfl
 ·simp only [EM];rw [if_neg (Ap _)]
theorem ADu{E:Ar}{ins:AL}(hN:LK E ins)(ids:AL)(t:Nat)(ht:t≤1000):JX E ids ins (t:Int)=some (iJ E ins t):=by
 have key:=Ce (fun w=>EO E ids ins w.1 w.2) (fun k=>((t:Int)-(k:Int),iJ E ins k)) t (iJ E ins t) (fun k hk=> ?_) ?_
 ·unfold JX;rw [yJ hN ids [] (.inl rfl),DT];have e:(t:Int)-((0:Nat):Int)=(t:Int):=by omega
  rw [e]at key;rw [show H7 E ids ins ((t:Int),MF E ins [])=_ from by unfold H7;exact key,DT]
 ·simp only [EO];rw [if_pos (by omega),yJ hN ids _ (.inr (XK E ins k)),DT,L8 _ (by omega),show(t:Int)-(k:Int)-1=(t:Int)-((k+1:Nat):Int) by omega];rfl
 ·simp only [EO];rw [if_neg (by omega)]
def dQ(l:AL):Prop:= ∀x∈l,0≤x∧x≤99
theorem PO: ∀(l:AL),dQ l→0≤JC l∧JC l≤100:=by
 have key: ∀(l:AL) (a:Int),dQ l→0≤a→a≤100→0≤l.foldl (fun a x=>max a (x+1)) a∧l.foldl (fun a x=>max a (x+1)) a≤100:=by
  intro l
  induction l with
  |nil=>intro a _ h1 h2;exact⟨h1,h2⟩
  |cons x l ih=>
   intro a h h1 h2;have:=h x Ke
   exact ih _ (fun y hy=>h y (JG _ hy)) (show 0≤max a (x+1) by omega) (show max a (x+1)≤100 by omega)
 exact fun l h=>key l 0 h (by omega) (by omega)
theorem dQ.take{l:AL}(h:dQ l)(i:Nat):dQ (l.take i):=fun x hx=>h x (List.mem_of_mem_take hx)
theorem VX(l:AL)(i:Nat)(hi:i<l.length):JC (l.take (i+1))=max (JC (l.take i)) (l.getD i be+1):=by
 rw [XR,Gc hi,Jg,Gc hi];exact gy _ _
theorem qF(l:AL)(h:dQ l)(h1:1≤l.length)(h2:l.length≤1000):Ij l=some (JC l):=by
 have key:=Ce (fun w=>Bf l w.1 w.2) (fun i=>(JC (l.take (i+1))-1,((i+1:Nat):Int))) (l.length-1) (JC l-1) (fun i hi=> ?_) ?_
 ·have h0:=VX l 0 (by omega)
  have hx:=h l[0] (JH (by omega))
  have hg:l.getD 0 be=l[0]:=BC l 0 (by omega)
  have hr:=PO l h;simp only [List.take_zero]at h0;have e0:JC []=0:=rfl;have e:JC (l.take (0+1))-1=l.getD 0 be:=by rw [h0,e0,hg];omega
  rw [e]at key;unfold Ij Ec;rw [if_neg (by omega),Bu (by omega),show Ch l (l.getD 0 be,1)=_ from by unfold Ch;exact key,DT,DT,L8 _ (by omega)]
  congr 1;omega
 ·have hi':i+1<l.length:=by omega
  have ht:=VX l (i+1) hi';have hr:=PO _ (h.take (i+1));have hx:=h l[i+1] (JH hi');have hg:l.getD (i+1) be=l[i+1]:=BC l _ hi';simp only [Bf,Jh];rw [if_pos (Bd hi'),Bu ⟨by omega,hi'⟩,Kk _ (by omega),ht,hg]
  have:RP (JC (l.take (i+1))-1) l[i+1]=max (JC (l.take (i+1))) (l[i+1]+1)-1:=by unfold RP;split<;>omega
  rw [this]
 ·have hl:l.length-1+1=l.length:=by omega
  simp only [Bf,hl];rw [if_neg (Ap _),cj]
def A1Z(E:Ar)(ins:AL):Nat→Nat→AL
 |0=>Kc E ins []
 |t+1=>Kc E ins (iJ E ins t)
theorem qG(E:Ar)(ins:AL)(t:Nat):iJ E ins t=(cl (A1Z E ins t) E.length).1:=by cases t<;>rfl
theorem qH{E:Ar}{ins:AL}(hN:LK E ins)(t:Nat):dQ (iJ E ins t):=by
 intro x hx;have h40:=hN.2.1;rw [qG,lq,Iy]at hx;obtain⟨u,hu,rfl⟩:=hx;have:=A1V (A1Z E ins t) E.length u (Nn.1 hu)
 have h2:=lu (A1Z E ins t) E.length;omega
def Nl(E:Ar)(v i:Nat):Bool:=decide ((v:Int)<BJ (E.getD v be) i)||(decide ((v:Int)=BJ (E.getD v be) i)&&decide ((i:Int)≤CG (E.getD v be) i))
def Z5(E:Ar)(v:Nat):Nat→List (Int×Int×Int×Int)
 |0=>[]
 |i+1=>if Nl E v i=true then Z5 E v i++[((v:Int),(i:Int),BJ (E.getD v be) i,CG (E.getD v be) i)]else Z5 E v i
def iA(E:Ar):Nat→List (Int×Int×Int×Int)
 |0=>[]
 |v+1=>iA E v++Z5 E v (E.getD v be).length
theorem XL(E:Ar)(v:Nat): ∀i,(Z5 E v i).length≤i
 |0=>Hq _
 |i+1=>by
  have:=XL E v i
  unfold Z5;split
  ·rw [KG,Z9];omega
  ·omega
theorem XM(E:Ar)(h: ∀v,v<E.length→(E.getD v be).length≤6): ∀v,v≤E.length→(iA E v).length≤6*v
 |0,_=>Hq _
 |v+1,hv=>by
  have h1:=XM E h v (by omega)
  have h2:=XL E v (E.getD v be).length;have h3:=h v (by omega)
  unfold iA;rw [KG];omega
theorem dR(E:Ar)(v:Nat)(x:Int×Int×Int×Int): ∀n,x∈Z5 E v n↔ ∃i,i<n∧Nl E v i=true∧x=((v:Int),(i:Int),BJ (E.getD v be) i,CG (E.getD v be) i)
 |0=>by simp [Z5]
 |n+1=>by
  have ih:=dR E v x n;unfold Z5;split
  ·rename_i hc
   rw [LV,cw,ih]
   constructor
   ·rintro(⟨i,h1,h2,h3⟩|h)
    ·exact⟨i,by omega,h2,h3⟩
    ·exact⟨n,by omega,hc,h⟩
   ·rintro⟨i,h1,h2,h3⟩
    by_cases e:i=n
    ·subst e;exact .inr h3
    ·exact .inl ⟨i,by omega,h2,h3⟩
  ·rename_i hc
   rw [ih]
   constructor
   ·rintro⟨i,h1,h2,h3⟩;exact⟨i,by omega,h2,h3⟩
   ·rintro⟨i,h1,h2,h3⟩
    by_cases e:i=n
    ·subst e;exact absurd h2 hc
    ·exact⟨i,by omega,h2,h3⟩
theorem RI(E:Ar)(x:Int×Int×Int×Int): ∀n,x∈iA E n↔ ∃v i,v<n∧i<(E.getD v be).length∧Nl E v i=true∧x=((v:Int),(i:Int),BJ (E.getD v be) i,CG (E.getD v be) i)
 |0=>by simp [iA]
 |n+1=>by
  unfold iA;rw [LV,RI E x n,dR]
  constructor
  ·rintro(⟨v,i,h1,h2⟩|⟨i,h1,h2⟩)
   ·exact⟨v,i,by omega,h2⟩
   ·exact⟨n,i,by omega,h1,h2⟩
  ·rintro⟨v,i,h1,h2,h3⟩
   by_cases e:v=n
   ·subst e;exact .inr ⟨i,h2,h3⟩
   ·exact .inl ⟨v,i,by omega,h2,h3⟩
theorem mJ(E:Ar)(v:Nat)(out:List (Int×Int×Int×Int))(hd:(E.getD v be).length≤6)(ho:out.length≤1000):
  EX E (v:Int) (out,0)=some (out++Z5 E v (E.getD v be).length):=by
 unfold EX;have key:=Ce (fun w=>Cx E (v:Int) w.1 w.2) (fun i=>(out++Z5 E v i,(i:Int))) (E.getD v be).length (out++Z5 E v (E.getD v be).length) ?_ ?_
 ·have e:((0:Nat):Int)=0:=rfl;simp only [e,Z5,UD]at key;exact key
 ·intro i hi;have hl:=XL E v i;have hlen:(out++Z5 E v i).length*4+4<1099511627776:=by rw [KG];omega
  simp only [Cx,Jh];rw [if_pos (Bd hi),Bu (by omega),Kk i (by omega)]
  have hc:Nl E v i=(decide ((v:Int)<BJ (E.getD v be) i)||(decide ((v:Int)=BJ (E.getD v be) i)&&decide ((i:Int)≤CG (E.getD v be) i))):=rfl;have hs:Z5 E v (i+1)=if Nl E v i=true then Z5 E v i++[((v:Int),(i:Int),BJ (E.getD v be) i,CG (E.getD v be) i)]else Z5 E v i:=rfl
  rw [hs];by_cases c1:(v:Int)<BJ (E.getD v be) i
  ·rw [if_pos c1,Bu hlen,if_pos (by rw [hc,decide_eq_true c1];rfl),OD]
  ·rw [if_neg c1];by_cases c2:(v:Int)=BJ (E.getD v be) i
   ·rw [if_pos c2];by_cases c3:(i:Int)≤CG (E.getD v be) i
    ·rw [if_pos c3,Bu hlen,if_pos (by rw [hc,decide_eq_true c2,decide_eq_true c3,UF,Bool.or_true]),OD]
    ·rw [if_neg c3,if_neg (by rw [hc,decide_eq_false c1,decide_eq_false c3,Bool.and_false];simp)]
   ·rw [if_neg c2,if_neg (by rw [hc,decide_eq_false c1,decide_eq_false c2];simp)]
 ·simp only [Cx,Jh];rw [if_neg (Ap _)]
theorem mK(E:Ar)(ids ins:AL)(hE:E.length≤40)(hd: ∀v,v<E.length→(E.getD v be).length≤6):Fz E ids ins=some (iA E E.length):=by
 unfold Fz Fj;have key:=Ce (fun w=>Cy E w.1 w.2) (fun v=>(iA E v,(v:Int))) E.length (iA E E.length) ?_ ?_
 ·have e:((0:Nat):Int)=0:=rfl;simp only [e]at key;rw [show(([],0):List (Int×Int×Int×Int)×Int)=(iA E 0,0)from rfl,key];rfl
 ·intro v hv;have hl:=XM E hd v (by omega)
  simp only [Cy];rw [if_pos (Bd hv),Bu (by omega),mJ E v _ (hd v hv) (by omega),DT,Kk v (by omega)]
  rfl
 ·simp only [Cy];rw [if_neg (Ap _)]
theorem A1a(L:List (Int×Int×Int×Int))(f:Int→Int→Int→Int→Option Bool)(p:Int×Int×Int×Int→Bool)(hL:L.length<1099511627776)(hf: ∀x∈L,f x.1 x.2.1 x.2.2.1 x.2.2.2=some (p x)):
  Aa L f=some (L.any p):=by
 unfold Aa Af Ae;have key:=LJ (fun v=>AX L f v) (fun i=>(i:Int)) L.length (fun i=>p (L.getD i be)) (fun i=> .inl (i:Int)) (.inr ()) ?_ ?_
 ·rw [NV]at key;rw [key]
  have hany:L.any p=(Ag L.length fun i=>p (L.getD i be)).isSome:=by
   rw [PS,Dp,List.any_eq_true]
   constructor
   ·rintro⟨x,hx,hp⟩
    obtain⟨i,hi,rfl⟩:=ZC hx
    exact⟨i,hi,by rw [BC _ _ hi];exact hp⟩
   ·rintro⟨i,hi,hp⟩
    rw [BC _ _ hi]at hp
    exact⟨_,JH hi,hp⟩
  rw [hany]
  cases Ag L.length fun i=>p (L.getD i be)with
  |none=>rfl
  |some i=>simp
 ·intro i hi;have hx:=hf _ (JH hi);simp only [AX,Jh,q4a,q4b,q4c,q4d];rw [if_pos (Bd hi),Bu (by omega),BC _ _ hi,hx,DT,Kk i (by omega)]
 ·simp only [AX];rw [if_neg (Ap _)]
theorem qI(E:Ar)(ids ins:AL)(v:Nat)(hv:v<E.length)(hd:(E.getD v be).length≤6):Mx E ids ins (v:Int)=some ((E.getD v be).map (·.1)):=by
 unfold Mx KZ;rw [Bu (by omega)]
 have key:=Ce (fun x=>GN E (v:Int) x.1 x.2) (fun i=>(((E.getD v be).take i).map (·.1),(i:Int))) (E.getD v be).length ((E.getD v be).map (·.1)) ?_ ?_
 ·have e:((0:Nat):Int)=0:=rfl;simp only [e,List.take_zero,List.map_nil]at key;rw [key];rfl
 ·intro i hi;simp only [GN,Jh];rw [if_pos (Bd hi),Bu (by omega),Bu (by rw [QY,MH];omega),Kk i (by omega),XR,Gc hi,List.map_append]
  unfold BJ;rw [BC (E.getD v be) _ hi];rfl
 ·simp only [GN,Jh];rw [if_neg (Ap _),cj]
def Qt(E:Ar)(l:AL)(u i:Nat):Bool:=((E.getD u be).map (·.1)).contains (((u+i:Nat):Int))&&decide (l.getD u be=l.getD (u+i) be)
theorem dS(E:Ar)(ids ins l:AL)(hE:E.length≤40)(hd: ∀v,v<E.length→(E.getD v be).length≤6)(hl:l.length=E.length):
  ∃a b,N7 E ids ins l=some (a,b,(Ag E.length fun u=>(Ag (E.length-u) (Qt E l u)).isSome).isSome):=by
 have inner: ∀u:Nat,u<E.length→JR E ids ins l (u:Int) ((E.getD u be).map (·.1)) (u:Int)=some (match Ag (E.length-u) (Qt E l u)with|some i=> .inl (((u+i:Nat):Int))|none=> .inr ()):=by
  intro u hu;have hdu:=hd u hu;have key:=LJ (fun v=>GR E ids ins l (u:Int) ((E.getD u be).map (·.1)) v) (fun i=>((u+i:Nat):Int)) (E.length-u) (Qt E l u) (fun i=> .inl (((u+i:Nat):Int))) (.inr ()) ?_ ?_
  ·unfold JR;rw [Nat.add_zero]at key;exact key
  ·intro i hi;simp only [GR,Jh];rw [if_pos (Bd (by omega)),Bu (by rw [QY];omega),Kk (u+i) (by omega)]
   unfold Qt
   cases hc:((E.getD u be).map (·.1)).contains (((u+i:Nat):Int))with
   |false=>rfl
   |true=>
    rw [if_pos rfl,Bu (by omega),Bu (by omega),OE]
    by_cases e:l.getD u be=l.getD (u+i) be
    ·rw [if_pos e,decide_eq_true e];rfl
    ·rw [if_neg e,decide_eq_false e];rfl
  ·simp only [GR];rw [if_neg (by omega)]
 have key:=LJ (fun v=>GU E ids ins l v) (fun i=>(i:Int)) E.length (fun u=>(Ag (E.length-u) (Qt E l u)).isSome) (fun u=> .inl ((u:Int),match Ag (E.length-u) (Qt E l u)with|some i=>((u+i:Nat):Int)|none=>0)) (.inr ()) ?_ ?_
 ·unfold N7 Ka;rw [NV]at key;rw [key]
  cases Ag E.length fun u=>(Ag (E.length-u) (Qt E l u)).isSome with
  |none=>exact⟨0,0,rfl⟩
  |some u=>exact⟨_,_,rfl⟩
 ·intro u hu;simp only [GU];rw [if_pos (Bd hu),qI E ids ins u hu (hd u hu),DT,inner u hu,DT,Kk u (by omega)]
  cases Ag (E.length-u) (Qt E l u)<;>rfl
 ·simp only [GU];rw [if_neg (Ap _)]
theorem LM{E:Ar}{ids ins:AL}(h:I5 E ids ins=true):E.length≤40∧1≤E.length∧(∀v,v<E.length→(E.getD v be).length≤6)∧
  ∀v i,v<E.length→i<(E.getD v be).length→ ∃w p:Nat,BJ (E.getD v be) i=(w:Int)∧CG (E.getD v be) i=(p:Int)∧w<E.length∧p<(E.getD w be).length∧BJ (E.getD w be) p=(v:Int)∧CG (E.getD w be) p=(i:Int):=by
 unfold I5 at h;simp only [F9]at h;obtain⟨h1,_,_,_,h5⟩:=h;have h1:=JE.1 h1;have hn: ∀v,v<E.length→P9 E v=true:=GA.1 h5
 refine⟨by omega,by omega,fun v hv=> ?_,fun v i hv hi=> ?_⟩
 ·have:=hn v hv
  rw [NL,F9,decide_eq_true_eq]at this;exact this.1
 ·have:=hn v hv
  rw [NL,F9]at this;have:=GA.1 this.2 i hi
  rw [Pv]at this;simp only [F9,beq_iff_eq]at this;obtain⟨k1,k2,k3,k4⟩:=this;have k1:=JE.1 k1;have k2:=JE.1 k2
  refine⟨(BJ (E.getD v be) i).toNat,(CG (E.getD v be) i).toNat,by omega,by omega,by omega,by omega,k3,k4⟩
theorem mM(E:Ar)(ids ins l:AL)(h:I5 E ids ins=true):
  (iA E E.length).any (fun x=>decide (l.getD x.1.toNat be=l.getD x.2.2.1.toNat be))=(Ag E.length fun u=>(Ag (E.length-u) (Qt E l u)).isSome).isSome:=by
 obtain⟨_,_,_,hp⟩:=LM h;rw [PS,List.any_eq_true,Dp]
 have mem_map: ∀(u:Nat) (x:Int),x∈(E.getD u be).map (·.1)↔ ∃i,i<(E.getD u be).length∧BJ (E.getD u be) i=x:=by
  intro u x;rw [Iy]
  constructor
  ·rintro⟨y,hy,rfl⟩
   obtain⟨i,hi,rfl⟩:=ZC hy
   exact⟨i,hi,by unfold BJ;rw [BC _ _ hi]⟩
  ·rintro⟨i,hi,rfl⟩
   exact⟨_,JH hi,by unfold BJ;rw [BC _ _ hi]⟩
 constructor
 ·rintro⟨x,hx,hs⟩
  obtain⟨v,i,hv,hi,hc,rfl⟩:=(RI E x E.length).1 hx;obtain⟨w,p,e1,e2,hw,hpl,_,_⟩:=hp v i hv hi;simp only [decide_eq_true_eq,Jh,e1]at hs;unfold Nl at hc;rw [e1,e2]at hc;simp only [MQ,F9,decide_eq_true_eq]at hc
  refine⟨v,hv,Dp.2 ⟨w-v,by omega, ?_⟩⟩
  unfold Qt;rw [show v+(w-v)=w by omega,F9,decide_eq_true_eq,VZ,mem_map]
  exact⟨⟨i,hi,e1⟩,hs⟩
 ·rintro⟨u,hu,hs⟩
  obtain⟨j,hj,hs⟩:=Dp.1 hs;unfold Qt at hs;rw [F9,decide_eq_true_eq,VZ,mem_map]at hs;obtain⟨⟨i,hi,e1⟩,hs⟩:=hs;obtain⟨w,p,e1',e2,hw,hpl,b1,b2⟩:=hp u i hu hi;have hwu:w=u+j:=by omega
  subst hwu
  have Fx: ∀i',i'<(E.getD u be).length→Nl E u i'=true→BJ (E.getD u be) i'=((u+j:Nat):Int)→ ∃x,x∈iA E E.length∧decide (l.getD x.1.toNat be=l.getD x.2.2.1.toNat be)=true:=by
   intro i' hi' hc hf
   refine⟨_,(RI E _ E.length).2 ⟨u,i',hu,hi',hc,rfl⟩, ?_⟩
   simp only [decide_eq_true_eq,Jh,hf];exact hs
  by_cases h0:j=0
  ·subst h0;rw [Nat.add_zero]at*;by_cases hip:i≤p
   ·exact Fx i hi (by unfold Nl;rw [e1',e2];simp;omega) e1
   ·exact Fx p hpl (by unfold Nl;rw [b1,b2];simp;omega) b1
  ·exact Fx i hi (by unfold Nl;rw [e1'];simp;omega) e1
theorem dU(l:AL)(hl:l.length≤1000): ∃a b,N8 l=some (a,b,decide (¬l.Nodup)):=by
 have inner: ∀u:Nat,u<l.length→JS l (u:Int) (((u+1:Nat):Int))=some (match Ag (l.length-(u+1)) (fun i=>decide (l.getD u be=l.getD (u+1+i) be))with|some i=> .inl (((u+1+i:Nat):Int))|none=> .inr ()):=by
  intro u hu;have key:=LJ (fun v=>GV l (u:Int) v) (fun i=>((u+1+i:Nat):Int)) (l.length-(u+1)) (fun i=>decide (l.getD u be=l.getD (u+1+i) be)) (fun i=> .inl (((u+1+i:Nat):Int))) (.inr ()) ?_ ?_
  ·unfold JS;rw [Nat.add_zero]at key;exact key
  ·intro i hi;simp only [GV,Jh];rw [if_pos (Bd (by omega)),Bu (by omega),Bu (by omega),Kk (u+1+i) (by omega)]
   by_cases e:l.getD u be=l.getD (u+1+i) be
   ·rw [if_pos e,decide_eq_true e];rfl
   ·rw [if_neg e,decide_eq_false e];rfl
  ·simp only [GV];rw [if_neg (by omega)]
 have key:=LJ (fun v=>GX l v) (fun i=>(i:Int)) l.length (fun u=>(Ag (l.length-(u+1)) (fun i=>decide (l.getD u be=l.getD (u+1+i) be))).isSome) (fun u=> .inl ((u:Int),match Ag (l.length-(u+1)) (fun i=>decide (l.getD u be=l.getD (u+1+i) be))with|some i=>((u+1+i:Nat):Int)|none=>0)) (.inr ()) ?_ ?_
 ·have hq:(Ag l.length fun u=>(Ag (l.length-(u+1)) (fun i=>decide (l.getD u be=l.getD (u+1+i) be))).isSome).isSome=decide (¬l.Nodup):=by
   rw [PS,Dp,decide_eq_true_eq,List.nodup_iff_pairwise_ne,XP]
   constructor
   ·rintro⟨u,hu,hs⟩ hn
    obtain⟨i,hi,hs⟩:=Dp.1 hs;rw [decide_eq_true_eq,BC _ _ hu,BC _ _ (by omega)]at hs
    exact hn u (u+1+i) hu (by omega) (by omega) hs
   ·intro hn;refine Classical.byContradiction fun hc=>hn fun i j hi hj hij he=>hc ⟨i,hi,Dp.2 ⟨j-(i+1),by omega, ?_⟩⟩
    rw [decide_eq_true_eq,show i+1+(j-(i+1))=j by omega,BC _ _ hi,BC _ _ hj]
    exact he
  rw [←hq];unfold N8 Kb;rw [NV]at key;rw [key]
  cases Ag l.length fun u=>(Ag (l.length-(u+1)) (fun i=>decide (l.getD u be=l.getD (u+1+i) be))).isSome with
  |none=>exact⟨0,0,rfl⟩
  |some u=>exact⟨_,_,rfl⟩
 ·intro u hu;simp only [GX];rw [if_pos (Bd hu),Kk u (by omega),inner u hu,DT]
  cases Ag (l.length-(u+1)) (fun i=>decide (l.getD u be=l.getD (u+1+i) be))<;>rfl
 ·simp only [GX];rw [if_neg (Ap _)]
theorem bE(s:AL)(k:Nat)(hk:1≤k∧k<s.length)(hs:s.length≤1000): ∃(a:Nat) (t:AL),Bz s (k:Int) ((k:Int),1,s)=some ((a:Int),t)∧t.length=s.length∧a<s.length:=by
 unfold Bz;have key:=bu (fun v=>BS s (k:Int) v.1 v.2.1 v.2.2)
  (fun n (v:Int×Int×AL)=> ∃a b:Nat,v.1=(a:Int)∧v.2.1=(b:Int)∧n=s.length-k-b∧1≤b∧b≤s.length-k∧a<k+b∧v.2.2.length=s.length)
  (fun r:Int×AL=> ∃a:Nat,r.1=(a:Int)∧a<s.length∧r.2.length=s.length) ?_ (s.length-k-1) ((k:Int),1,s) ⟨k,1,rfl,rfl,rfl,by omega,by omega,by omega,rfl⟩
 ·obtain⟨⟨a',t⟩,h1,a,h2,h3,h4⟩:=key;simp only at h2 h4;subst h2
  exact⟨a,t,h1,h4,h3⟩
 ·rintro n ⟨k1,k2,t⟩ ⟨a,b,h1,h2,h3,h4,h5,h6,h7⟩
  simp only at h1 h2 h7;subst h1 h2;by_cases hb:b<s.length-k
  ·left
   simp only [BS,Jh];rw [if_pos (by omega),Bu (by omega),Bu (by omega),Bu (by omega),L8 _ (by omega),Bu (by omega),Bu (by omega),Kk b (by omega)]
   split
   ·exact⟨_,s.length-k-(b+1),rfl,by omega,a,b+1,rfl,rfl,rfl,by omega,by omega,by omega,h7⟩
   ·rw [Bu (by omega),Kk a (by omega)]
    exact⟨_,s.length-k-(b+1),rfl,by omega,a+1,b+1,rfl,rfl,rfl,by omega,by omega,by omega,by simp only [RL];exact h7⟩
  ·right
   refine⟨((a:Int),t), ?_,a,rfl,by omega,h7⟩
   simp only [BS,Jh];rw [if_neg (by omega)]
theorem bF(s:AL)(hs:s.length≤1000): ∃r,Cc s=some r∧(r.length=s.length↔ ∀i,1≤i→i<s.length→s.getD i be≠s.getD (i-1) be):=by
 unfold Cc;by_cases h2:(s.length:Int)<2
 ·rw [if_pos h2]
  exact⟨s,rfl,fun _ i h1 hi=>by omega,fun _=>rfl⟩
 ·rw [if_neg h2];unfold Cj;have key:=bu (fun v=>BU s v) (fun n (v:Int)=> ∃k:Nat,v=(k:Int)∧n=s.length-k∧1≤k∧k≤s.length∧ ∀i,1≤i→i<k→s.getD i be≠s.getD (i-1) be)
   (fun r:AL⊕Unit=>match r with| .inl q=>q.length<s.length∧ ∃i,1≤i∧i<s.length∧s.getD i be=s.getD (i-1) be| .inr _=> ∀i,1≤i→i<s.length→s.getD i be≠s.getD (i-1) be) ?_ (s.length-1) (1:Int) ⟨1,rfl,rfl,by omega,by omega,fun i h1 h3=>by omega⟩
  ·obtain⟨r,h1,h3⟩:=key;rw [h1,DT]
   cases r with
   |inl q=>
    obtain⟨h4,i,h5,h6,h7⟩:=h3
    exact⟨q,rfl,fun h=>by omega,fun h=>absurd h7 (h i h5 h6)⟩
   |inr _=>exact⟨s,rfl,fun _=>h3,fun _=>rfl⟩
  ·rintro n v ⟨k,rfl,hn,h1,hk,hne⟩
   by_cases hks:k<s.length
   ·simp only [BU,Jh];rw [if_pos (Bd hks),Bu (by omega),L8 _ (by omega),Bu (by omega),show((k:Int)-1).toNat=k-1 by omega]
    by_cases e:s.getD k be=s.getD (k-1) be
    ·right
     obtain⟨a,t,c1,c2,c3⟩:=bE s k ⟨h1,hks⟩ hs
     have hsp:(qZ t a (ao (t.length-a) 0)).length=t.length:=by
      rw [A0H _ _ _ (by rw [Z8];omega)]
      simp;omega
     rw [if_pos e,Bu (by omega),Bu (by omega),c1,DT]
     simp only [Jh];rw [Bu (by omega),Bu (by omega),Bu (by omega),Bu (by omega)]
     exact⟨_,rfl,by simp only [MH,hsp];omega,k,h1,hks,e⟩
    ·left
     rw [if_neg e,Kk k (by omega)]
     refine⟨_,s.length-(k+1),rfl,by omega,k+1,rfl,rfl,by omega,by omega,fun i hi1 hi2=> ?_⟩
     by_cases hik:i=k
     ·subst hik;exact e
     ·exact hne i hi1 (by omega)
   ·right
    have hke:k=s.length:=by omega
    subst hke
    refine⟨.inr (), ?_,hne⟩
    simp only [BU];rw [if_neg (Ap _)]
theorem iB{l:AL}(h:l.Pairwise (fun a b=>a≤b)):(∀i,1≤i→i<l.length→l.getD i be≠l.getD (i-1) be)↔l.Nodup:=by
 rw [XP]at h;rw [List.nodup_iff_pairwise_ne,XP]
 constructor
 ·intro hn
  have lt: ∀(d i:Nat) (hj:i+d+1<l.length),l[i]'(by omega)<l[i+d+1]:=by
   intro d
   induction d with
   |zero=>
    intro i hj;have h1:=h i (i+1) (by omega) hj (by omega)
    have h2:=hn (i+1) (by omega) hj
    rw [BC _ _ hj,BC _ _ (by omega)]at h2
    simp only [Nat.add_sub_cancel]at h2;have h3:l[i+1]≠l[i]:=h2;have:l[i+0+1]=l[i+1]:=rfl
    omega
   |succ d ih=>
    intro i hj;have h1:=ih i (by omega)
    have h2:=h (i+d+1) (i+(d+1)+1) (by omega) hj (by omega)
    omega
  intro i j hi hj hij he;have:=lt (j-i-1) i (by omega)
  simp only [show i+(j-i-1)+1=j by omega]at this
  omega
 ·intro hn i h1 hi he;rw [BC _ _ hi,BC _ _ (by omega)]at he
  exact hn (i-1) i (by omega) hi (by omega) he.symm
theorem Yx(l:AL)(hl:l.length≤1000)(hx: ∀x∈l,0≤x∧x≤99):Ig l (0,0)=some l.sum:=by
 have hs: ∀i,i≤l.length→0≤(l.take i).sum∧(l.take i).sum≤99*(i:Int):=by
  intro i
  induction i with
  |zero=>intro _;simp
  |succ i ih=>
   intro hi;have h1:=ih (by omega)
   have h2:=hx _ (JH (show i<l.length by omega))
   rw [XR,Gc (by omega),List.sum_append]
   simp only [Option.toList_some,cm,List.sum_nil];omega
 unfold Ig;have key:=Ce (fun v=>FJ l v.1 v.2) (fun i=>((l.take i).sum,(i:Int))) l.length l.sum ?_ ?_
 ·have e:((0:Nat):Int)=0:=rfl;simp only [e,List.take_zero,List.sum_nil]at key;exact key
 ·intro i hi;have h1:=hs i (by omega)
  have h2:=hx _ (JH hi);simp only [FJ,Jh];rw [if_pos (Bd hi),Bu (by omega),BC _ _ hi,L8 _ (by omega),Kk i (by omega),XR,Gc hi,List.sum_append]
  simp
 ·simp only [FJ];rw [if_neg (Ap _),cj]
theorem mO{l m:AL}(h:l.Perm m):l.sum=m.sum:=by
 induction h with
 |nil=>rfl
 |cons x _ ih=>simp only [cm,ih]
 |swap x y l=>simp only [cm];omega
 |trans _ _ h1 h2=>exact h1.trans h2
theorem mP{l:AL}(h: ∀x∈l,0≤x):0≤l.sum∧(l.sum=0↔ ∀x∈l,x=0):=by
 induction l with
 |nil=>simp
 |cons a l ih=>
  obtain⟨h1,h2⟩:=ih (fun x hx=>h x (by simp [hx]))
  have ha:=h a (by simp)
  rw [cm]
  refine⟨by omega,fun hs=> ?_,fun hs=> ?_⟩
  ·intro x hx;rcases OH.1 hx with rfl|hx
   ·omega
   ·exact h2.1 (by omega) x hx
  ·have:=h2.2 (fun x hx=>hs x (by simp [hx]))
   have:=hs a (by simp)
   omega
theorem iC(l:AL)(hl:1≤l.length)(hx: ∀x∈l,0≤x∧x≤99)(s:AL)(hp:s.Perm l)(hs:s.Pairwise (fun a b=>a≤b)):
  (EA l 0 1&&decide (l.sum=1))=(decide (s.getD (s.length-1) be=1)&&(decide (s.length=1)||decide (s.getD (s.length-2) be=0))):=by
 have hlen:=hp.length_eq;have hxs: ∀x∈s,0≤x∧x≤99:=fun x h=>hx x (hp.mem_iff.1 h)
 have hall:EA l 0 1=EA s 0 1:=by
  unfold EA;rw [PS,IQ,IQ]
  exact⟨fun h x hx=>h x (hp.mem_iff.1 hx),fun h x hx=>h x (hp.mem_iff.2 hx)⟩
 have hsum:l.sum=s.sum:=mO hp.symm;rw [hall,hsum];obtain⟨q,m,rfl⟩: ∃q m,s=q++[m]:=⟨s.dropLast,s.getLast (by intro h;rw [h]at hlen;simp at hlen;omega),(List.dropLast_concat_getLast _).symm⟩
 have hm:(q++[m]).getD ((q++[m]).length-1) be=m:=by
  rw [KG,Z9,Nat.add_sub_cancel,Jg,MO (Hq _),ci];rfl
 rw [hm,List.sum_append,cm,List.sum_nil,Int.add_zero];have hq: ∀x∈q,0≤x:=fun x h=>(hxs x (by simp [h])).1
 have hqm: ∀x∈q,x≤m:=fun x h=>(List.pairwise_append.1 hs).2.2 x h m (by simp)
 have h0m:=(hxs m (by simp)).1
 obtain⟨z1,z2⟩:=mP hq
 have hlast:q.length=0∨ ∃y,y∈q∧(q++[m]).getD ((q++[m]).length-2) be=y∧ ∀x∈q,x≤y:=by
  by_cases h0:q.length=0
  ·exact .inl h0
  ·right
   have hi:q.length-1<q.length:=by omega
   refine⟨q[q.length-1],JH hi, ?_,fun x hx=> ?_⟩
   ·rw [KG,Z9,show q.length+1-2=q.length-1 by omega,Jg,MP hi,Gc hi];rfl
   ·obtain⟨i,hil,rfl⟩:=ZC hx;have hpq:=(List.pairwise_append.1 hs).1;rw [XP]at hpq;by_cases e:i=q.length-1
    ·subst e;exact Int.le_refl _
    ·exact hpq i (q.length-1) hil hi (by omega)
 rw [PS];simp only [F9,MQ,decide_eq_true_eq,KG,Z9]
 constructor
 ·rintro⟨ha,hs1⟩
  have ham:m≤1:=by
   unfold EA at ha;rw [IQ]at ha
   exact(JE.1 (ha m (by simp))).2
  have hm1:m=1:=by
   rcases Int.lt_or_le m 1 with h|h
   ·have hm0:m=0:=by omega
    have:=z2.2 (fun x hx=>by have:=hq x hx;have:=hqm x hx;omega)
    omega
   ·omega
  refine⟨hm1, ?_⟩
  have hz:=z2.1 (by omega)
  rcases hlast with h|⟨y,hy,he,_⟩
  ·left;omega
  ·right
   rw [KG,Z9]at he;rw [he];exact hz y hy
 ·rintro⟨hm1,hr⟩
  have hz: ∀x∈q,x=0:=by
   intro x hx;rcases hr with h|h
   ·have:q.length=0:=by omega
    rw [Z7 this]at hx;cases hx
   ·rcases hlast with h'|⟨y,hy,he,hle⟩
    ·rw [Z7 h']at hx;cases hx
    ·rw [KG,Z9]at he;have:=hle x hx
     have:=hq x hx
     omega
  refine⟨?_,by have:=z2.2 hz;omega⟩
  unfold EA;rw [IQ];intro x hx;refine JE.2 ?_;rcases LV.1 hx with h|h
  ·have:=hz x h;omega
  ·rw [cw]at h;omega
theorem bG(E:Ar)(ids ins:AL)(t:Int)(l:AL)(h:I5 E ids ins=true)(hl:l.length=E.length)(hx: ∀x∈l,0≤x∧x≤99): ∃b,JA E ids ins t l=some b∧NM E ids ins t l=some b:=by
 obtain⟨hE,hE1,hd,_⟩:=LM h;have hM:l.length<1099511627776:=by omega
 have hsl:=VV l;unfold JA NM Cf;by_cases t1:t=1
 ·simp only [if_pos t1,DT];rw [Yx l (by omega) hx,DT,Bu hM,Bu hM,TB]
  have hlead:=iC l (by omega) hx (IK l) (J8 l) (Lj l)
  refine⟨EA l 0 1&&decide (l.sum=1), ?_, ?_⟩
  ·cases EA l 0 1<;>rfl
  ·rw [hlead,L8 _ (by omega),Bu (by omega),show(((IK l).length:Int)-1).toNat=(IK l).length-1 by omega]
   by_cases c1:(IK l).getD ((IK l).length-1) be=1
   ·rw [if_pos c1,decide_eq_true c1,OE]
    have hge:0≤(IK l).getD 0 be:=by
     rw [BC _ _ (by omega)]
     exact(hx _ ((J8 l).mem_iff.1 (JH _))).1
    by_cases c2:(IK l).length=1
    ·rw [if_pos (by omega),Bu (by omega),decide_eq_true c2,decide_eq_true hge];rfl
    ·rw [if_neg (by omega),L8 _ (by omega),Bu (by omega),decide_eq_false c2,RO,show((((IK l).length:Int)-1)-1).toNat=(IK l).length-2 by omega]
     by_cases c3:(IK l).getD ((IK l).length-2) be=0
     ·rw [if_pos c3,Bu (by omega),decide_eq_true c3,decide_eq_true hge]
     ·rw [if_neg c3,decide_eq_false c3]
   ·rw [if_neg c1,decide_eq_false c1];rfl
 ·simp only [if_neg t1];by_cases t2:t=2
  ·simp only [if_pos t2];obtain⟨a,b,e⟩:=dS E ids ins l hE hd hl;have hlen:=XM E hd E.length (Hq _);rw [e,mK E ids ins hE hd,DT,DT,A1a (iA E E.length) _ (fun x=>decide (l.getD x.1.toNat be=l.getD x.2.2.1.toNat be)) (by omega) ?_,DT,mM E ids ins l h]
   ·exact⟨_,rfl,rfl⟩
   ·intro x hxm;obtain⟨v,i,hv,hi,_,rfl⟩:=(RI E x E.length).1 hxm;obtain⟨w,p,e1,e2,hw,hpl,_,_⟩:=(LM h).2.2.2 v i hv hi;unfold LB;simp only [e1,Jh];rw [Bu (by omega),Bu (by omega)]
  ·simp only [if_neg t2,DT];obtain⟨a,b,e⟩:=dU l (by omega)
   obtain⟨r,c1,c2⟩:=bF (IK l) (by omega)
   rw [e,Bu hM,TB,c1,DT,DT]
   refine⟨_,rfl, ?_⟩
   rw [iB (Lj l),(J8 l).nodup_iff]at c2
   congr 1
   by_cases hn:l.Nodup
   ·have e1:decide (¬l.Nodup)=false:=decide_eq_false (fun hc=>hc hn);have e2:decide ((r.length:Int)=(l.length:Int))=true:=decide_eq_true (by have:=c2.2 hn;omega)
    rw [e1,e2];rfl
   ·have e1:decide (¬l.Nodup)=true:=decide_eq_true hn;have e2:decide ((r.length:Int)=(l.length:Int))=false:=decide_eq_false (fun hc=>hn (c2.1 (by omega)))
    rw [e1,e2];rfl
theorem bH{m k:Nat}{P:Nat→Bool}(hk:k<m):Ag m (fun j=>P j||j==k)=some (match Ag m P with|some f=>min f k|none=>k):=by
 cases hf:Ag m P with
 |none=>
  have hno:=M4 hf;show Ag m (fun j=>P j||j==k)=some k
  exact M0 hk (by simp) fun i hi=>by rw [hno i (by omega),RO];simpa using (by omega:i≠k)
 |some f=>
  obtain⟨h1,h2⟩:=Ea hf;have h3:=QX hf;simp only;by_cases e:f≤k
  ·rw [Nat.min_eq_left e];exact M0 h1 (by rw [h2];rfl) fun i hi=>by rw [h3 i hi,RO];simpa using (by omega:i≠k)
  ·rw [Nat.min_eq_right (by omega)]
   exact M0 hk (by simp) fun i hi=>by rw [h3 i (by omega),RO];simpa using (by omega:i≠k)
def iL:Option Nat→Int
 |some f=>(f:Int)
 |none=> -1
def U7(l:AL):Option Nat:=Ag (JC l).toNat (fun j=>l.count (j:Int)==1)
def LP(l:AL):Int:=iL (U7 l)
theorem dV: ∀(l:AL) (x:Int),x∈l→x+1≤JC l:=by
 have mono: ∀(l:AL) (a:Int),a≤l.foldl (fun a x=>max a (x+1)) a:=by
  intro l
  induction l with
  |nil=>intro a;exact Int.le_refl _
  |cons x l ih=>
   intro a;have:=ih (max a (x+1))
   show a≤l.foldl (fun a x=>max a (x+1)) (max a (x+1))
   omega
 have key: ∀(l:AL) (a x:Int),x∈l→x+1≤l.foldl (fun a x=>max a (x+1)) a:=by
  intro l
  induction l with
  |nil=>intro a x h;cases h
  |cons y l ih=>
   intro a x h;show x+1≤l.foldl (fun a x=>max a (x+1)) (max a (y+1))
   rcases OH.1 h with rfl|h
   ·have:=mono l (max a (x+1));omega
   ·exact ih _ x h
 exact fun l x h=>key l 0 x h
theorem Yy(l:AL)(i:Nat)(hi:i<l.length)(x:Int):l.count x=(l.take i).count x+((if l[i]=x then 1 else 0)+(l.drop (i+1)).count x):=by
 have e:l=l.take i++(l[i]::l.drop (i+1)):=by rw [List.getElem_cons_drop,List.take_append_drop]
 have e2:=congrArg (List.count x) e;rw [List.count_append,List.count_cons]at e2;rw [e2];have:(if(l[i]==x)=true then 1 else 0)=(if l[i]=x then 1 else 0):=by simp only [beq_iff_eq]
 omega
def Iw(l:AL)(i:Nat):Option Nat:=Ag (JC l).toNat (fun j=>l.count (j:Int)==1&&(l.take i).contains (j:Int))
theorem iD(l:AL):Iw l l.length=U7 l:=by
 unfold Iw U7;refine Gb fun j _=> ?_;rw [cj]
 cases h:(l.count (j:Int)==1)with
 |false=>rfl
 |true=>
  have h:l.count (j:Int)=1:=by simpa using h
  have:(j:Int)∈l:=cx.1 (by omega)
  simpa using this
theorem qJ(l:AL)(h:dQ l)(h2:l.length≤1000):NA l=some (LP l):=by
 have key:=Ce (fun w=>Ga l w.1 w.2) (fun i=>(iL (Iw l i),(i:Int))) l.length (LP l) (fun i hi=> ?_) ?_
 ·have e0:iL (Iw l 0)= -1:=by
   unfold Iw;rw [PM (fun j _=>by simp)];rfl
  rw [e0]at key;unfold NA;rw [show Ja l (-1,0)=_ from by unfold Ja;exact key,DT]
 ·have hx:=h l[i] (JH hi);have hg:l.getD i be=l[i]:=BC l i hi;have htop:=dV l l[i] (JH hi);have hrng:=PO l h;have hd:((l.take i).drop 0)=l.take i:=List.drop_zero;have htk:l.take l.length=l:=cj
  have tk: ∀j:Nat,(l.take (i+1)).contains (j:Int)=((l.take i).contains (j:Int)||((j:Int)==l[i])):=fun j=>by
   rw [XR,Gc hi,PS,MQ,VZ,VZ,beq_iff_eq,LV,Option.toList_some,cw]
  simp only [Ga,Jh,hg];rw [if_pos (Bd hi),Bu ⟨by omega,hi⟩,Bu (by omega),Bu (by omega),Bu (by rw [hd,MH];omega),hd,Kk i (by omega)]
  have cs:=Yy l i hi l[i];rw [if_pos rfl]at cs;by_cases c1:(l.take i).contains l[i]=true
  ·have m1:0<(l.take i).count l[i]:=cx.2 (by simpa using c1)
   rw [if_pos c1]
   have:Iw l (i+1)=Iw l i:=by
    unfold Iw;refine Gb fun j _=> ?_;rw [tk];by_cases e:(j:Int)=l[i]
    ·rw [e];have:(l.count l[i]==1)=false:=by simpa using (by omega:l.count l[i]≠1)
     rw [this];rfl
    ·rw [show((j:Int)==l[i])=false by simpa using e,cq]
   rw [this]
  ·rw [if_neg c1];have m1:(l.take i).count l[i]=0:=cy.2 (by simpa using c1)
   simp only [Jh,htk];rw [Bu (by omega),Bu (by omega),Bu (by rw [List.length_drop];omega)]
   by_cases c2:(l.drop (i+1)).contains l[i]=true
   ·have m2:0<(l.drop (i+1)).count l[i]:=cx.2 (by simpa using c2)
    rw [if_pos c2]
    have:Iw l (i+1)=Iw l i:=by
     unfold Iw;refine Gb fun j _=> ?_;rw [tk];by_cases e:(j:Int)=l[i]
     ·rw [e];have:(l.count l[i]==1)=false:=by simpa using (by omega:l.count l[i]≠1)
      rw [this];rfl
     ·rw [show((j:Int)==l[i])=false by simpa using e,cq]
    rw [this]
   ·have m2:(l.drop (i+1)).count l[i]=0:=cy.2 (by simpa using c2)
    rw [if_neg c2];obtain⟨k,hk⟩: ∃k:Nat,l[i]=(k:Int):=⟨l[i].toNat,by omega⟩
    have hc1:l.count l[i]=1:=by omega
    have:Iw l (i+1)=some (match Iw l i with|some f=>min f k|none=>k):=by
     unfold Iw;rw [←bH (by omega)]
     refine Gb fun j _=> ?_;rw [tk];by_cases e:j=k
     ·subst e;rw [←hk,hc1]
      simp
     ·have e1:((j:Int)==l[i])=false:=by rw [hk];simpa using (by omega:(j:Int)≠(k:Int))
      have e2:(j==k)=false:=by simpa using e
      rw [e1,e2,cq,cq]
    have this:iL (Iw l (i+1))=match Iw l i with|some f=>((min f k:Nat):Int)|none=>(k:Int):=by
     rw [this]
     cases Iw l i<;>rfl
    rw [this]
    cases ho:Iw l i with
    |none=>
     show(if(-1:Int)<0 then _ else _)=some (cb ((k:Int),_))
     rw [if_pos (by decide),hk]
    |some f=>
     show(if(f:Int)<0 then _ else _)=some (cb (((min f k:Nat):Int),_))
     rw [if_neg (by omega)]
     by_cases e:l[i]<(f:Int)
     ·rw [show(if l[i]<iL (some f)then some (cb (l[i],((i+1:Nat):Int)))else some (cb (iL (some f),((i+1:Nat):Int))):Option ((Int×Int)⊕Int))=some (cb (l[i],((i+1:Nat):Int)))from if_pos e,hk,show min f k=k by omega]
     ·rw [show(if l[i]<iL (some f)then some (cb (l[i],((i+1:Nat):Int)))else some (cb (iL (some f),((i+1:Nat):Int))):Option ((Int×Int)⊕Int))=some (cb ((f:Int),((i+1:Nat):Int)))from if_neg e,show min f k=f by omega]
 ·simp only [Ga];rw [if_neg (Ap _),iD];rfl
def Uw(l:AL):AL:=l.map (fun x=>if x=LP l then 1 else 0)
theorem bI(l:AL)(m i:Nat)(hi:i<l.length)(k:Nat)(hk:l[i]=(k:Int))(hm:k<m):
  ((an m).map fun(j:Nat)=>((l.take i).count (j:Int):Int)).set k (((l.take i).count (k:Int):Int)+1)=(an m).map fun(j:Nat)=>((l.take (i+1)).count (j:Int):Int):=by
 refine List.ext_getElem (by simp) (fun j h1 h2=> ?_)
 have hj:j<m:=by simpa using h2
 rw [List.getElem_set];simp only [co,Va];rw [XR,Gc hi,List.count_append,hk];by_cases e:k=j
 ·subst e;rw [if_pos rfl];simp
 ·rw [if_neg e];have: ¬((k:Int)=(j:Int)):=by omega
  simp [List.count_singleton,this]
theorem mQ(s:AL)(v:Int)(hs:s.length≤1000):D5 s v=some (iL (Ag s.length fun i=>decide (v=s.getD i be))):=by
 have key:=LJ (fun w=>BX s v w) (fun i=>(i:Int)) s.length (fun i=>decide (v=s.getD i be)) (fun i=> .inl (i:Int)) (.inr ()) (fun i hi=> ?_) ?_
 ·unfold D5;rw [show CS s v 0=_ from by unfold CS;exact key,DT]
  cases Ag s.length (fun i=>decide (v=s.getD i be))<;>rfl
 ·simp only [BX,Jh];rw [if_pos (Bd hi),Bu ⟨by omega,hi⟩,Kk i (by omega)]
  by_cases e:v=s.getD i be
  ·rw [if_pos e,decide_eq_true e];rfl
  ·rw [if_neg e,decide_eq_false e];rfl
 ·simp only [BX];rw [if_neg (Ap _)]
theorem qK(l:AL)(h:dQ l)(h1:1≤l.length)(h2:l.length≤1000):Fp 1 l=some (Uw l):=by
 have hrng:=PO l h;have k0:=Ce (fun w=>Dw l w.1 w.2) (fun i=>((an (JC l).toNat).map (fun(j:Nat)=>((l.take i).count (j:Int):Int)),(i:Int))) l.length ((an (JC l).toNat).map fun(j:Nat)=>(l.count (j:Int):Int)) (fun i hi=> ?_) ?_
 ·have k1:=Ce (fun w=>Dx l (LP l) w.1 w.2) (fun i=>((l.take i).map (fun x=>if x=LP l then(1:Int)else 0),(i:Int))) l.length (Uw l) (fun i hi=> ?_) ?_
  ·have e0:((an (JC l).toNat).map fun(j:Nat)=>((l.take 0).count (j:Int):Int))=ao (JC l).toNat 0:=by
    refine List.ext_getElem (by simp) (fun j h1 h2=> ?_)
    simp
   rw [e0]at k0
   have ei:(Ag ((an (JC l).toNat).map fun(j:Nat)=>(l.count (j:Int):Int)).length fun i=>decide ((1:Int)=((an (JC l).toNat).map fun(j:Nat)=>(l.count (j:Int):Int)).getD i be))=U7 l:=by
    unfold U7;rw [QY,List.length_range];refine Gb fun j hj=> ?_;rw [Jg,LU,dW hj];show decide ((1:Int)=(l.count (j:Int):Int))=(l.count (j:Int)==1)
    rw [PS,decide_eq_true_eq,beq_iff_eq];omega
   unfold Fp
   rw [if_pos rfl,qF l h h1 h2,DT,Bu (by omega),show G5 l (ao (JC l).toNat 0,0)=_ from by unfold G5;exact k0,DT,
    mQ _ _ (by rw [QY,List.length_range];omega),ei,DT,show G6 l (iL (U7 l)) ([],0)=_ from by unfold G6;exact k1,DT]
  ·have hg:l.getD i be=l[i]:=BC l i hi;simp only [Dx,Jh,hg];rw [if_pos (Bd hi),Bu ⟨by omega,hi⟩,Kk i (by omega)]
   unfold RA
   have et:(l.take (i+1)).map (fun x=>if x=LP l then(1:Int)else 0)=(l.take i).map (fun x=>if x=LP l then(1:Int)else 0)++[if l[i]=LP l then 1 else 0]:=by
    rw [XR,Gc hi,List.map_append];rfl
   rw [et];by_cases e:l[i]=LP l
   ·rw [decide_eq_true e,if_pos rfl,if_pos e,DT,Bu (by rw [QY,MH];omega)]
   ·rw [decide_eq_false e,if_neg (by decide),if_neg e,DT,Bu (by rw [QY,MH];omega)]
  ·simp only [Dx];rw [if_neg (Ap _),cj];rfl
 ·have hx:=h l[i] (JH hi);have htop:=dV l l[i] (JH hi);obtain⟨k,hk⟩: ∃k:Nat,l[i]=(k:Int):=⟨l[i].toNat,by omega⟩
  have hkm:k<(JC l).toNat:=by omega
  have hgd:((an (JC l).toNat).map fun(j:Nat)=>((l.take i).count (j:Int):Int)).getD k be=((l.take i).count (k:Int):Int):=by
   rw [Jg,LU,dW hkm];rfl
  have hcl:(l.take i).count (k:Int)≤l.length:=Nat.le_trans List.count_le_length (by rw [MH];omega)
  have hg:l.getD i be=(k:Int):=by rw [BC l i hi,hk]
  simp only [Dw,Jh,hg];rw [if_pos (Bd hi),Bu ⟨by omega,hi⟩,Bu ⟨by omega,by rw [QY,List.length_range];exact hkm⟩,hgd,L8 _ (by omega),Kk i (by omega),bI l _ i hi k hk hkm]
 ·simp only [Dw];rw [if_neg (Ap _),cj]
theorem qL(l:AL)(v:Int):(l.map (fun x=>if x=v then(1:Int)else 0)).sum=(l.count v:Int):=by
 induction l with
 |nil=>rfl
 |cons x l ih=>
  rw [OG,cm,ih,List.count_cons];by_cases e:x=v
  ·subst e;simp;omega
  ·have:(x==v)=false:=by simpa using e
   rw [if_neg e,this];simp
theorem bJ(l:AL)(h:dQ l):decide ((l.count (LP l):Int)=1)=decide (0≤LP l):=by
 unfold LP U7
 cases hf:Ag (JC l).toNat (fun j=>l.count (j:Int)==1)with
 |some f=>
  have:=(Ea hf).2
  have:l.count (f:Int)=1:=by simpa using this
  simp only [iL,this];have:0≤(f:Int):=by omega
  simp [this]
 |none=>
  have:l.count (-1)=0:=cy.2 fun hm=>by have:=h _ hm;omega
  simp only [iL,this]
  decide
def XN(t:Int)(l:AL):AL:=if t=1 then Uw l else l
def qM(E:Ar)(t:Int)(l:AL):Bool:=
 if t=1 then decide (0≤LP l)else if t=2 then !(Ag E.length fun u=>(Ag (E.length-u) (Qt E l u)).isSome).isSome else decide l.Nodup
theorem yK(E:Ar)(ids ins:AL)(t:Int)(l:AL)(h:I5 E ids ins=true)(hl:l.length=E.length)(hx:dQ l):NQ E ids ins t l=some (qM E t l):=by
 obtain⟨hE,hE1,hd,_⟩:=LM h;unfold NQ qM;by_cases t1:t=1
 ·rw [if_pos t1,if_pos t1,qJ l hx (by omega),DT]
 ·rw [if_neg t1,if_neg t1];unfold JA;rw [if_neg t1];by_cases t2:t=2
  ·obtain⟨a,b,e⟩:=dS E ids ins l hE hd hl;rw [if_pos t2,if_pos t2,e,DT,DT]
  ·obtain⟨a,b,e⟩:=dU l (by omega)
   rw [if_neg t2,if_neg t2,e,DT,DT]
   congr 1
   by_cases hn:l.Nodup<;>simp [hn]
theorem qN(t:Int)(l:AL)(hx:dQ l):(XN t l).length=l.length∧dQ (XN t l):=by
 unfold XN;split
 ·refine⟨by simp [Uw],fun x hm=> ?_⟩
  unfold Uw at hm;rw [Iy]at hm;obtain⟨y,_,rfl⟩:=hm
  split<;>omega
 ·exact⟨rfl,hx⟩
theorem A8I(E:Ar)(ids ins:AL)(t:Int)(l:AL)(h:I5 E ids ins=true)(hl:l.length=E.length)(hx:dQ l):Fp t l=some (XN t l)∧NM E ids ins t (XN t l)=some (qM E t l):=by
 obtain⟨hE,hE1,hd,_⟩:=LM h;obtain⟨o1,o2⟩:=qN t l hx;obtain⟨b,e1,e2⟩:=bG E ids ins t (XN t l) h (by omega) o2
 by_cases t1:t=1
 ·subst t1
  refine⟨?_, ?_⟩
  ·rw [qK l hx (by omega) (by omega)];rfl
  ·rw [e2,←e1];unfold JA qM;rw [if_pos rfl,if_pos rfl];have ho:XN 1 l=Uw l:=rfl;rw [ho]at o1 o2 ⊢;rw [Yx (Uw l) (by omega) o2,DT,Bu (by omega)]
   have ha:EA (Uw l) 0 1=true:=by
    unfold EA;rw [IQ];intro x hm;unfold Uw at hm;rw [Iy]at hm;obtain⟨y,_,rfl⟩:=hm
    split<;>rfl
   rw [if_pos ha,←bJ l hx];unfold Uw;rw [qL]
 ·have ho:XN t l=l:=by unfold XN;rw [if_neg t1]
  have hc:=yK E ids ins t l h hl hx;unfold NQ at hc;rw [if_neg t1]at hc;rw [ho]at e1 e2 ⊢;rw [e1,DT]at hc
  refine⟨?_,by rw [e2];exact hc⟩
  unfold Fp;rw [if_neg t1,Bu (by omega)]
theorem A8J{E:Ar}{ids ins:AL}(h:I5 E ids ins=true):LK E ins:=by
 obtain⟨hE,hE1,hd,hp⟩:=LM h
 refine⟨hE1,hE, ?_,hd,fun v i hv hi=> ?_⟩
 ·unfold I5 at h;simp only [F9,decide_eq_true_eq]at h;omega
 ·obtain⟨w,p,e1,_,hw,_⟩:=hp v i hv hi;unfold Qs;rw [e1]
  exact⟨by omega,by simpa using hw⟩
theorem bK(E:Ar)(ids ins:AL)(t d:Int)(hE:DC E)(h1:ids.length<1099511627776)(h2:ins.length<1099511627776): ∃x y,Jb E ids ins t d=some (x,y)∧JZ E ids ins t d=some (x,y):=by
 unfold Jb JZ PL PI NP NN;rw [Bu hE,Bu h1,Bu h2,Bu hE,Bu h1,Bu h2];by_cases h:I5 E ids ins=true
 ·by_cases q1:IG t 1 3=true
  ·by_cases q2:IG d 0 80=true
   ·simp only [if_pos h,if_pos q1,if_pos q2,DT];have hd:=JE.1 q2;obtain⟨k,rfl⟩: ∃k:Nat,d=(k:Int):=⟨d.toNat,by omega⟩
    have hN:=A8J h;have hs:=qH hN k;have hl:=XK E ins k;obtain⟨c1,c2⟩:=A8I E ids ins t (iJ E ins k) h hl hs;rw [ADt hN ids k (by omega),ADu hN ids k (by omega),DT,DT,yK E ids ins t _ h hl hs,c1,DT,DT,c2,DT]
    exact⟨_,_,rfl,rfl⟩
   ·simp only [if_pos h,if_pos q1,if_neg q2,DT];exact⟨_,_,rfl,rfl⟩
  ·simp only [if_pos h,if_neg q1,DT];exact⟨_,_,rfl,rfl⟩
 ·simp only [if_neg h];exact⟨_,_,rfl,rfl⟩
theorem Ux(E:Ar)(ids ins:AL)(t:Int)(d:Int)(hE:Nj E)(hids:ids.length<9223372036854775808)(hins:ins.length<9223372036854775808):Fq E ids ins t d=some true:=by
 unfold Fq;rw [Bu hE,Bu hids,Bu hins,Bu (by omega)]
 by_cases q1:mX 1048576 E ids ins<0
 ·rw [if_pos q1]
 ·obtain⟨g1,sE,g2⟩:=pE (by omega) q1
  have tE:=J6 (fE E);have h1:ids.length<1099511627776:=by omega
  have h2:ins.length<1099511627776:=by omega
  obtain⟨x,y,hS,hI⟩:=bK E ids ins t d sE h1 h2;rw [if_neg q1,Bu sE,Bu h1,Bu h2];simp only [hS,hI,DT,ah,if_true]
  cases x<;>cases y<;>simp
theorem iE(ds:List D)(h:yh Ac [41,3,3] ds):Y.call 5 ds []=some (.bool true,[]):=by
 rcases ds with _|⟨x,_|⟨y,_|⟨z,_|⟨_,_⟩⟩⟩⟩
 ·cases h
 ·exact h.2.elim
 ·exact h.2.2.elim
 ·obtain⟨E,ids,ins,rfl,hE,hids,hins⟩:=aS A0M A0L kg ko ty3 A0I h.1;obtain⟨t,rfl,_⟩:=kC ty3 h.2.1;obtain⟨d,rfl,_⟩:=kC ty3 h.2.2.1;exact LH E ids ins t d (Ux E ids ins t d (lG hE) (Nat.lt_of_le_of_lt hids.1 (by decide)) (Nat.lt_of_le_of_lt hins.1 (by decide)))
 ·exact h.2.2.2.elim
end Go.Proofs.Ytclkfhhdikfcpaa
