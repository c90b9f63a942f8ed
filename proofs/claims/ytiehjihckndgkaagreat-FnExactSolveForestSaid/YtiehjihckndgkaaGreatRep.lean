/- Functions of the program as plain functions, and what they compute. Conditions: those in each lemma. -/
import Derived.Test.YtiehjihckndgkaaGreatL6
import Derived.Test.YtiehjihckndgkaaGreatNet
import Derived.Test.YtiehjihckndgkaaGreatDt
open Inhabited renaming default → be
open Dv.D renaming int → bc,sl → bk,bool → bp
open Nat renaming reduceEqDiff → bj,reduceLT → bh,reduceLeDiff → b5,reduceAdd → bx
open Go.IntKind renaming u64 → bO,i64 → bm
open Sum renaming inr → bl,inl → bo
open Go.ResultVar renaming tmp → bt
open List renaming range → ao,replicate → ap,pairwise_iff_getElem → b7
noncomputable section
namespace Go.Proofs.YtiehjihckndgkaaGreat
open Go Dv
set_option linter.unusedSimpArgs false
set_option linter.unusedVariables false
set_option maxRecDepth 100000
set_option maxHeartbeats 4000000
def Ee(list:AU)(low high Al:Int):Option ((Int)⊕(Unit⊕Unit)):= if Al<(list.length:Int)then ck (0≤Al∧Al.toNat<list.length)<| if(M9 (list.getD Al.toNat be) low high)=true then if 0<Al then ck (0≤bm.wrap (Al-1)∧(bm.wrap (Al-1)).toNat<list.length)<| if(list.getD Al.toNat be)≤(list.getD ((bm.wrap (Al-1)).toNat) be)then some (bl (bo ())) else some (bo (bm.wrap (Al+1))) else some (bo (bm.wrap (Al+1))) else some (bl (bo ())) else some (bl (bl ()))
def MB(list:AU)(low high v:Int):Option (Unit⊕Unit):=E9 (fun v=>Ee list low high v) v
def Ow(list:AU)(low high:Int):Option (Bool):=
 (MB list low high 0).bind fun AX=>
 match AX with
 | .inl q1000_=>
  some false
 | .inr q1000_=>
  some true
def fT:SC:= .seq (.ops [oB 12 .lss 3 (tK 11) (tK 10) 3 0]) (.seq (.cond (tK 12) .skip (.exit 0)) (.seq (.block 1 (.seq (.ops [oM 13 11 3,oI 14 26 9 11,oL 15 3 14 3,oA 7 13 3,oA 8 15 3]) (.seq (.ops [oM 16 8 3,oM 17 1 3,oM 18 2 3,oC 19 64 [(tK 16),(tK 17),(tK 18)] [3,3,3] 4,oX 20 (.unOp .not 4 (tK 19)) 4,oM 21 20 4,⟨some 22,.move (tK 7),3,(some (some 21,false))⟩,⟨some 23,.binOp .gtr 3 (tK 22) (iK 0) 3,4,(some (some 21,false))⟩,⟨some 24,.move (tK 23),4,(some (some 21,false))⟩,⟨some 25,.move (tK 0),26,(some (some 24,true))⟩,⟨some 26,.move (tK 7),3,(some (some 24,true))⟩,⟨some 27,.binOp .sub 3 (tK 26) (iK 1) 3,3,(some (some 24,true))⟩,⟨some 28,.indexAddr 26 (tK 25) (tK 27),0,(some (some 24,true))⟩,⟨some 29,.load 3 (tK 28),3,(some (some 24,true))⟩,⟨some 30,.move (tK 8),3,(some (some 24,true))⟩,⟨some 31,.binOp .geq 3 (tK 29) (tK 30) 3,4,(some (some 24,true))⟩,⟨some 32,.pick (tK 24) (tK 31) Lm,4,(some (some 21,false))⟩,oX 33 (.pick (tK 21) Ck (tK 32)) 4]) (.cond (tK 33) (.seq (.ops [oX 6 BR 4]) .ret) .skip)))) (.ops [oB 34 .add 3 (tK 11) (iK 1) 3 3,oM 11 34 3])))
def A0U:SC:= .loop fT
def ADn:SC:= .seq (.ops [oX 6 BR 4]) (.seq (.seq (.ops [oM 9 0 26,oN 10 9 26,oX 11 (.move (iK 0)) 3]) (.block 0 A0U)) (.seq (.ops [oX 6 (.assign Ck) 4]) .ret))
theorem A7V:Tryz.f101.body.map (BQ lends)=some ADn:=by kernel_rfl
theorem ALP:BV Tryz.f101 3=true:=by kernel_rfl
theorem ARQ{a l:List D}{r:D×List D}(h:BU Y.env ADn (fin Ai l.length [bt 6] r) (entry a l))(ha:a.length=3):Y.call 101 a l=some r:=
 AY (Y:=Y) rfl Tryz.func101 (ha▸ALP) A7V h
def Ca(list:AU)(low high Al:Int)(s:St):Prop:=s.v 0=bk 3 (AR (bc .i64) list)∧s.v 1=bc .i64 low∧s.v 2=bc .i64 high∧s.v 9=bk 3 (AR (bc .i64) list)∧s.v 10=bc .i64 (list.length:Int)∧s.v 11=bc .i64 Al
def Dn(list:AU)(low high:Int)(r:Unit⊕Unit)(ex:Ex)(s:St):Prop:=match r with
 | .inl q=>ex= .ret∧s.v 6=bp false
 | .inr q=>ex= .exit 0
theorem Vt(list:AU)(low high:Int){v:Int}{s:St}{r:Unit⊕Unit}(h:MB list low high v=some r)(hM:Ca list low high v s):BU Y.env A0U (Dn list low high r) s:=by
 unfold MB at h;refine Aw (c:=fT) (fun v=>Ee list low high v) (fun v s=>Ca list low high v s) (Dn list low high) ?_ h hM;clear h hM s v r;intro Al s o hM h;unfold Ee at h;unfold Ca at hM;obtain⟨m0,m1,m2,m3,m4,m5⟩:=hM;unfold fT;rcases iS h with⟨e1,h⟩|⟨e1,h⟩
 ·obtain⟨e2,h⟩:=De h;have c3:=KT (list.getD Al.toNat be) low high;rcases iS h with⟨e4,h⟩|⟨e4,h⟩
  ·rcases iS h with⟨e5,h⟩|⟨e5,h⟩
   ·obtain⟨e6,h⟩:=De h;rcases iS h with⟨e7,h⟩|⟨e7,h⟩
    ·cases h;simp only [↓AO,AP,↓reduceIte,bj,bh,m0,m1,m2,m3,m4,m5,e1,e2.1,e2.2,c3,e4,e5,e6.1,e6.2,e7,Ca,Dn,OC]
    ·cases h;simp only [↓AO,AP,↓reduceIte,bj,bh,m0,m1,m2,m3,m4,m5,e1,e2.1,e2.2,c3,e4,e5,e6.1,e6.2,e7,Ca,D6]
   ·cases h;simp only [↓AO,AP,↓reduceIte,bj,bh,m0,m1,m2,m3,m4,m5,e1,e2.1,e2.2,c3,e4,e5,Ca,D6]
  ·have e4f:(M9 (list.getD Al.toNat be) low high)=false:=Es.mpr e4;cases h;simp only [↓AO,AP,↓reduceIte,bj,bh,m1,m2,m3,m4,m5,e1,e2.1,e2.2,c3,e4f,Ca,Dn,OC]
 ·cases h;simp only [↓AO,AP,↓reduceIte,bh,m4,m5,e1,Ca,Dn,GH]
theorem XI(list:AU)(low high:Int){r:Bool}(h:Ow list low high=some r):Y.call 101 [bk 3 (AR (bc .i64) list),bc .i64 low,bc .i64 high] []=some (bp r,[]):=by
 refine ARQ ?_ rfl;unfold ADn;unfold Ow at h;obtain⟨AX,hl2,h⟩:=Ag h;try dsimp only at h
 simp only [↓AO,AP,↓reduceIte,bj,bh];refine Ak (Vt list low high hl2 ?_) ?_
 ·simp only [BL,Cv,↓reduceIte,bj,bh,Ca]
 ·intro ex2 s2 hX2;rcases AX with q1000_|q1000_
  ·unfold Dn at hX2;dsimp only at hX2 h;obtain⟨rfl,n2_0⟩:=hX2;cases h;simp only [↓AO,AP,↓reduceIte,n2_0]
  ·unfold Dn at hX2;dsimp only at hX2 h
   obtain rfl:=hX2
   cases h;simp only [↓AO,AP,↓reduceIte,bj,bh]
def fU(l:AU)(lo hi:Int):Bool:=(ao l.length).all fun i=>M9 (l.getD i be) lo hi&&(decide (i=0)||decide (l.getD (i-1) be<l.getD i be))
theorem Zp(l:AU)(lo hi:Int)(h:l.length<1099511627776):Ow l lo hi=some (fU l lo hi):=by
 have key:=Df (fun v=>Ee l lo hi v) (fun i=>(i:Int)) l.length (fun i=>M9 (l.getD i be) lo hi&&(decide (i=0)||decide (l.getD (i-1) be<l.getD i be))) (.inl ()) (.inr ()) ?_ ?_
 ·rw [Et]at key;unfold Ow MB fU;rw [key]
  cases (ao l.length).all fun i=>M9 (l.getD i be) lo hi&&(decide (i=0)||decide (l.getD (i-1) be<l.getD i be))<;>rfl
 ·intro i hi';simp only [Ee,Cg];rw [if_pos (BX hi'),BC (by omega),Gf i (by omega)]
  cases hr:M9 (l.getD i be) lo hi with
  |false=>simp
  |true=>
   by_cases h0:i=0
   ·subst h0;rw [if_pos rfl,if_neg (by omega)]
    simp
   ·rw [if_pos rfl,if_pos (by omega),Ib _ (by omega),BC (by omega),show((i:Int)-1).toNat=i-1 by omega,decide_eq_false h0]
    by_cases hlt:l.getD (i-1) be<l.getD i be
    ·rw [if_neg (by omega),decide_eq_true hlt];rfl
    ·rw [if_pos (by omega),decide_eq_false hlt];rfl
 ·simp only [Ee];rw [if_neg (Am _)]
theorem Zq(list:AU)(low high:Int)(h0:list.length<1099511627776):Y.call 101 [bk 3 (AR (bc .i64) list),bc .i64 low,bc .i64 high] []=some (bp (fU list low high),[]):=XI list low high (Zp list low high h0)
theorem zL{l:AU}{lo hi:Int}(h:fU l lo hi=true):l.Pairwise (fun a b=>a<b)∧ ∀x∈l,M9 x lo hi=true:=by
 have h0:=Cc.1 h
 have step: ∀i,i+1<l.length→l.getD i be<l.getD (i+1) be:=fun i hi=>by
  have:=h0 (i+1) hi
  rw [En]at this;simpa using this.2
 have far: ∀(d i:Nat),i+d+1<l.length→l.getD i be<l.getD (i+d+1) be:=by
  intro d
  induction d with
  |zero=>intro i hi;exact step i hi
  |succ d ih=>
   intro i hi;have h1:=ih i (by omega)
   have h2:=step (i+d+1) (by omega)
   rw [show i+(d+1)+1=i+d+1+1 by omega]
   omega
 refine⟨b7.2 fun i j hi hj hij=> ?_,fun x hx=> ?_⟩
 ·have:=far (j-i-1) i (by omega)
  rw [show i+(j-i-1)+1=j by omega,Ad _ _ hi,Ad _ _ hj]at this
  exact this
 ·obtain⟨i,hi,rfl⟩:=V6 hx;have:=h0 i hi
  rw [En,Ad _ _ hi]at this;exact this.1
theorem A4m{l:AU}{lo hi:Int}(h1:l.Pairwise (fun a b=>a<b))(h2: ∀x∈l,M9 x lo hi=true):fU l lo hi=true:=by
 refine Cc.2 fun i hi=> ?_;rw [En]
 refine⟨by rw [Ad _ _ hi];exact h2 _ (O6 hi), ?_⟩
 by_cases h0:i=0
 ·rw [decide_eq_true h0];rfl
 ·have:=b7.1 h1 (i-1) i (by omega) hi (by omega)
  rw [TU]
  right
  rw [decide_eq_true_eq,Ad _ _ hi,Ad _ _ (by omega:i-1<l.length)]
  exact this
def YR(ids:AU)(n:Int):Bool:=decide (ids.length=0)||(decide ((ids.length:Int)=n)&&(decide ids.Nodup&&FW ids 1 999999))
theorem zM(ids:AU)(lo hi:Int):fU (JJ ids) lo hi=(decide ids.Nodup&&FW ids lo hi):=by
 rw [S9,En,decide_eq_true_eq];have hp:=Px ids;unfold FW;rw [KJ]
 constructor
 ·intro h;obtain⟨h1,h2⟩:=zL h
  refine⟨hp.nodup_iff.1 (h1.imp fun h=>by omega),fun x hx=>h2 x (hp.mem_iff.2 hx)⟩
 ·rintro⟨h1,h2⟩
  refine A4m ?_ fun x hx=>h2 x (hp.mem_iff.1 hx);have hn:(JJ ids).Pairwise (fun a b=>a≠b):=hp.nodup_iff.2 h1
  exact((Vr ids).and hn).imp fun h=>by omega
theorem KX(xs:AU)(h:xs.length<1099511627776):Y.call 99 [.sl 3 (AR (bc .i64) xs)] []=some (.own 3 (AR (bc .i64) xs),[]):=by
 refine A4C (AR (bc .i64) xs) (by rw [dQ];exact h) (lY _ _ (fun x=>rfl)) (dR _ _ (fun x=>by first|exact hoI .. |exact AGe .. |exact hoB .. |exact hoS ..)) ?_
 simp only [BL,ACi,Cv]
def au(ids:AU)(nodes:Int):Option (Bool):= if(ids.length:Int)=0 then some true else ck (ids.length<1099511627776)<| ck (ids.length<4611686018427387904)<| if(ids.length:Int)=nodes then ck ((Le ids).length<1099511627776)<| some (fU (Le ids) (1:Int) (999999:Int)) else some false
def k66:SC:= .seq (.ops [oX 4 BR 4]) (.seq (.seq (.ops [oM 6 0 26,oN 7 6 26,oB 8 .eql 3 (tK 7) (iK 0) 3 4]) (.cond (tK 8) (.seq (.ops [oX 4 (.assign Ck) 4]) .ret) .skip)) (.seq (.ops [oM 9 0 26,oC 10 99 [(tK 9)] [26] 26,oA 5 10 26]) (.seq (.ops [oM 11 5 26,oC 12 100 [(tK 11)] [26] 0]) (.seq (.ops [oM 13 0 26,oN 14 13 26,oM 15 1 3,oB 16 .eql 3 (tK 14) (tK 15) 3 4,oM 17 16 4,⟨some 18,.move (tK 5),26,(some (some 17,true))⟩,⟨some 19,.call ⟨(.value (.func 101)), #[(tK 18),(iK 1),(iK 999999)], #[26,3,3]⟩,4,(some (some 17,true))⟩,oX 20 (.pick (tK 17) (tK 19) Lm) 4,oA 4 20 4]) .ret))))
theorem ADo:Tryz.f66.body.map (BQ lends)=some k66:=by kernel_rfl
theorem ARS:BV Tryz.f66 2=true:=by kernel_rfl
theorem c66{a l:List D}{r:D×List D}(h:BU Y.env k66 (fin Ai l.length [bt 4] r) (entry a l))(ha:a.length=2):Y.call 66 a l=some r:=
 AY (Y:=Y) rfl Tryz.func66 (ha▸ARS) ADo h
theorem qF(ids:AU)(nodes:Int){r:Bool}(h:au ids nodes=some r):Y.call 66 [bk 3 (AR (bc .i64) ids),bc .i64 nodes] []=some (bp r,[]):=by
 refine c66 ?_ rfl;unfold k66;unfold au at h;rcases iS h with⟨e1,h⟩|⟨e1,h⟩
 ·cases h;simp only [↓AO,AP,↓reduceIte,bj,bh,decide_eq_true e1]
 ·obtain⟨e2,h⟩:=De h;have c3:=KX ids e2;obtain⟨e4,h⟩:=De h;have c5:=A4B ids e4;rcases iS h with⟨e6,h⟩|⟨e6,h⟩
  ·obtain⟨e7,h⟩:=De h;have c8:=Zq (Le ids) (1:Int) (999999:Int) e7;cases h;simp only [↓AO,AP,↓reduceIte,bj,bh,e1,c3,c5,decide_eq_true e6,c8]
  ·cases h;simp only [↓AO,AP,↓reduceIte,bj,bh,e1,c3,c5,e6]
def LA(ids:AU)(nodes GM:Int):Option ((Int)⊕(Unit⊕Unit)):= if GM<(ids.length:Int)then ck (0≤GM∧GM.toNat<ids.length)<| if(M9 (ids.getD GM.toNat be) (1:Int) (999999:Int))=true then ck (0≤GM)<| ck (GM.toNat≤ids.length)<| ck (((ids.take GM.toNat).drop 0).length<1099511627776)<| if(((ids.take GM.toNat).drop 0).contains (ids.getD GM.toNat be))=true then some (bl (bo ())) else some (bo (bm.wrap (GM+1))) else some (bl (bo ())) else some (bl (bl ()))
def Sg(ids:AU)(nodes v:Int):Option (Unit⊕Unit):=E9 (fun v=>LA ids nodes v) v
def av(ids:AU)(nodes:Int):Option (Bool):=
 (Sg ids nodes 0).bind fun AX=>
 match AX with
 | .inl q1000_=>
  some false
 | .inr q1000_=>
  if(ids.length:Int)=0 then
   some true
  else
   some (decide ((ids.length:Int)=nodes))
def qG:SC:= .seq (.ops [oB 10 .lss 3 (tK 9) (tK 8) 3 0]) (.seq (.cond (tK 10) .skip (.exit 0)) (.seq (.block 1 (.seq (.ops [oM 11 9 3,oI 12 26 7 9,oL 13 3 12 3,oA 5 11 3,oA 6 13 3]) (.seq (.ops [oM 14 6 3,oC 15 82 [(tK 14),(iK 1),(iK 999999)] [3,3,3] 4,oX 16 (.unOp .not 4 (tK 15)) 4,oM 17 16 4,⟨some 18,.move (tK 0),26,(some (some 17,false))⟩,⟨some 19,.move (tK 5),3,(some (some 17,false))⟩,⟨some 20,.slice 26 (tK 18) none (some (tK 19)) none,900001,(some (some 17,false))⟩,⟨some 21,.move (tK 6),3,(some (some 17,false))⟩,⟨some 22,.call ⟨(.value (.func 36)), #[(tK 20),(tK 21)], #[26,3]⟩,4,(some (some 17,false))⟩,oX 23 (.pick (tK 17) Ck (tK 22)) 4]) (.cond (tK 23) (.seq (.ops [oX 4 BR 4]) .ret) .skip)))) (.ops [oB 24 .add 3 (tK 9) (iK 1) 3 3,oM 9 24 3])))
def A4n:SC:= .loop qG
def k91:SC:= .seq (.ops [oX 4 BR 4]) (.seq (.seq (.ops [oM 7 0 26,oN 8 7 26,oX 9 (.move (iK 0)) 3]) (.block 0 A4n)) (.seq (.ops [oM 25 0 26,oN 26 25 26,oB 27 .eql 3 (tK 26) (iK 0) 3 4,oM 28 27 4,⟨some 29,.move (tK 0),26,(some (some 28,false))⟩,⟨some 30,.call ⟨(.builtin .len), #[(tK 29)], #[26]⟩,3,(some (some 28,false))⟩,⟨some 31,.move (tK 1),3,(some (some 28,false))⟩,⟨some 32,.binOp .eql 3 (tK 30) (tK 31) 3,4,(some (some 28,false))⟩,oX 33 (.pick (tK 28) Ck (tK 32)) 4,oA 4 33 4]) .ret))
theorem ADp:Tryz.f91.body.map (BQ lends)=some k91:=by kernel_rfl
theorem ARU:BV Tryz.f91 2=true:=by kernel_rfl
theorem c91{a l:List D}{r:D×List D}(h:BU Y.env k91 (fin Ai l.length [bt 4] r) (entry a l))(ha:a.length=2):Y.call 91 a l=some r:=
 AY (Y:=Y) rfl Tryz.func91 (ha▸ARU) ADp h
def GN(ids:AU)(nodes GM:Int)(s:St):Prop:=s.v 0=bk 3 (AR (bc .i64) ids)∧s.v 1=bc .i64 nodes∧s.v 7=bk 3 (AR (bc .i64) ids)∧s.v 8=bc .i64 (ids.length:Int)∧s.v 9=bc .i64 GM
def Iy(ids:AU)(nodes:Int)(r:Unit⊕Unit)(ex:Ex)(s:St):Prop:=match r with
 | .inl q=>ex= .ret∧s.v 4=bp false
 | .inr q=>ex= .exit 0∧s.v 0=bk 3 (AR (bc .i64) ids)∧s.v 1=bc .i64 nodes
theorem kJ(ids:AU)(nodes:Int){v:Int}{s:St}{r:Unit⊕Unit}(h:Sg ids nodes v=some r)(hM:GN ids nodes v s):BU Y.env A4n (Iy ids nodes r) s:=by
 unfold Sg at h;refine Aw (c:=qG) (fun v=>LA ids nodes v) (fun v s=>GN ids nodes v s) (Iy ids nodes) ?_ h hM;clear h hM s v r;intro GM s o hM h;unfold LA at h;unfold GN at hM;obtain⟨m0,m1,m2,m3,m4⟩:=hM;unfold qG;rcases iS h with⟨e1,h⟩|⟨e1,h⟩
 ·obtain⟨e2,h⟩:=De h;have c3:=Na (ids.getD GM.toNat be) (1:Int) (999999:Int);rcases iS h with⟨e4,h⟩|⟨e4,h⟩
  ·obtain⟨e5,e6,e7,h⟩:=Om h;have c8:=fD ((ids.take GM.toNat).drop 0) (ids.getD GM.toNat be) e7;rcases iS h with⟨e9,h⟩|⟨e9,h⟩
   ·cases h;simp only [↓AO,AP,↓reduceIte,bj,bh,m0,m2,m3,m4,e1,e2.1,e2.2,c3,e4,e6,c8,e9,GN,Iy,OC]
   ·have e9f:(((ids.take GM.toNat).drop 0).contains (ids.getD GM.toNat be))=false:=Es.mpr e9;cases h;simp only [↓AO,AP,↓reduceIte,bj,bh,m0,m1,m2,m3,m4,e1,e2.1,e2.2,c3,e4,e6,c8,e9f,GN,D6]
  ·have e4f:(M9 (ids.getD GM.toNat be) (1:Int) (999999:Int))=false:=Es.mpr e4;cases h;simp only [↓AO,AP,↓reduceIte,bj,bh,m2,m3,m4,e1,e2.1,e2.2,c3,e4f,GN,Iy,OC]
 ·cases h;simp only [↓AO,AP,↓reduceIte,bj,bh,m0,m1,m3,m4,e1,GN,Iy,GH]
theorem qH(ids:AU)(nodes:Int){r:Bool}(h:av ids nodes=some r):Y.call 91 [bk 3 (AR (bc .i64) ids),bc .i64 nodes] []=some (bp r,[]):=by
 refine c91 ?_ rfl;unfold k91;unfold av at h;obtain⟨AX,hl2,h⟩:=Ag h;try dsimp only at h
 simp only [↓AO,AP,↓reduceIte,bj,bh];refine Ak (kJ ids nodes hl2 ?_) ?_
 ·simp only [BL,Cv,↓reduceIte,bj,bh,GN]
 ·intro ex2 s2 hX2;rcases AX with q1000_|q1000_
  ·unfold Iy at hX2;dsimp only at hX2 h;obtain⟨rfl,n2_0⟩:=hX2;cases h;simp only [↓AO,AP,↓reduceIte,n2_0]
  ·unfold Iy at hX2;dsimp only at hX2 h;obtain⟨rfl,n2_0,n2_1⟩:=hX2;rcases iS h with⟨e3,h⟩|⟨e3,h⟩
   ·cases h;simp only [↓AO,AP,↓reduceIte,bj,bh,n2_0,decide_eq_true e3]
   ·cases h;simp only [↓AO,AP,↓reduceIte,bj,bh,n2_0,n2_1,e3]
theorem zN(ids:AU)(n:Int)(h:ids.length<1099511627776):au ids n=some (YR ids n):=by
 unfold au YR;by_cases h0:ids.length=0
 ·rw [if_pos (by omega),decide_eq_true h0];rfl
 ·rw [if_neg (by omega),BC h,BC (by omega),decide_eq_false h0,Bool.false_or]
  by_cases h1:(ids.length:Int)=n
  ·rw [if_pos h1,wH,BC (by rw [mE];exact h),zM,decide_eq_true h1];rfl
  ·rw [if_neg h1,decide_eq_false h1];rfl
theorem A2B(ids:AU):(ao ids.length).all (fun i=>M9 (ids.getD i be) 1 999999&& !(ids.take i).contains (ids.getD i be))=(decide ids.Nodup&&FW ids 1 999999):=by
 rw [S9,Cc,En,decide_eq_true_eq];unfold FW;rw [KJ]
 constructor
 ·intro h
  refine⟨b7.2 fun i j hi hj hij he=> ?_,fun x hx=> ?_⟩
  ·have:=h j hj
   rw [En,NP,←jK,TR,Ad _ _ hj]at this;refine this.2 ?_;rw [←he];exact List.mem_take_iff_getElem.2 ⟨i,by omega,rfl⟩
  ·obtain⟨i,hi,rfl⟩:=V6 hx;have:=h i hi
   rw [En,Ad _ _ hi]at this;exact this.1
 ·rintro⟨h1,h2⟩ i hi
  rw [En,NP,←jK,TR,Ad _ _ hi]
  refine⟨h2 _ (O6 hi),fun hm=> ?_⟩
  obtain⟨j,hj,he⟩:=List.mem_take_iff_getElem.1 hm;exact b7.1 h1 j i (by omega) hi (by omega) he
theorem zO(ids:AU)(n:Int)(h:ids.length<1099511627776):av ids n=some (YR ids n):=by
 have key:=Df (fun v=>LA ids n v) (fun i=>(i:Int)) ids.length (fun i=>M9 (ids.getD i be) 1 999999&& !(ids.take i).contains (ids.getD i be)) (.inl ()) (.inr ()) ?_ ?_
 ·rw [Et,A2B]at key;unfold av Sg YR;rw [key,C8];by_cases h0:ids.length=0
  ·have:ids=[]:=tQ h0
   subst this;simp [FW]
  ·rw [decide_eq_false h0,Bool.false_or]
   cases decide ids.Nodup&&FW ids 1 999999 with
   |false=>rw [Bool.and_false];rfl
   |true=>rw [ZR,if_pos rfl];simp only;rw [if_neg (by omega)]
 ·intro i hi;simp only [LA,Cg,WK];rw [if_pos (BX hi),BC (by omega),BC (by omega),BC (by omega),BC (by rw [Va];omega),Gf i (by omega)]
  cases M9 (ids.getD i be) 1 999999<;>cases (ids.take i).contains (ids.getD i be)<;>rfl
 ·simp only [LA];rw [if_neg (Am _)]
theorem zP(ids:AU)(nodes:Int)(h0:ids.length<1099511627776):Y.call 66 [bk 3 (AR (bc .i64) ids),bc .i64 nodes] []=some (bp (YR ids nodes),[]):=qF ids nodes (zN ids nodes h0)
theorem zQ(ids:AU)(nodes:Int)(h0:ids.length<1099511627776):Y.call 91 [bk 3 (AR (bc .i64) ids),bc .i64 nodes] []=some (bp (YR ids nodes),[]):=qH ids nodes (zO ids nodes h0)
def Si(inputs:AU)(nodes:Int):Option (Bool):= if(inputs.length:Int)=nodes then ck (inputs.length<1099511627776)<| some (FW inputs (0:Int) (9:Int)) else some false
def k67:SC:= .seq (.ops [oX 4 BR 4]) (.seq (.ops [oM 5 0 26,oN 6 5 26,oM 7 1 3,oB 8 .eql 3 (tK 6) (tK 7) 3 4,oM 9 8 4,⟨some 10,.move (tK 0),26,(some (some 9,true))⟩,⟨some 11,.call ⟨(.value (.func 71)), #[(tK 10),(iK 0),(iK 9)], #[26,3,3]⟩,4,(some (some 9,true))⟩,oX 12 (.pick (tK 9) (tK 11) Lm) 4,oA 4 12 4]) .ret)
theorem ADq:Tryz.f67.body.map (BQ lends)=some k67:=by kernel_rfl
theorem ARW:BV Tryz.f67 2=true:=by kernel_rfl
theorem c67{a l:List D}{r:D×List D}(h:BU Y.env k67 (fin Ai l.length [bt 4] r) (entry a l))(ha:a.length=2):Y.call 67 a l=some r:=
 AY (Y:=Y) rfl Tryz.func67 (ha▸ARW) ADq h
theorem Zr(inputs:AU)(nodes:Int){r:Bool}(h:Si inputs nodes=some r):Y.call 67 [bk 3 (AR (bc .i64) inputs),bc .i64 nodes] []=some (bp r,[]):=by
 refine c67 ?_ rfl;unfold k67;unfold Si at h;rcases iS h with⟨e1,h⟩|⟨e1,h⟩
 ·obtain⟨e2,h⟩:=De h;have c3:=UA inputs (0:Int) (9:Int) e2;cases h;simp only [↓AO,AP,↓reduceIte,bj,bh,decide_eq_true e1,c3]
 ·cases h;simp only [↓AO,AP,↓reduceIte,bj,bh,e1]
def KD(A9:Ac)(Aa AC:AU)(v_:Int):Option (Bool):= some (M9 v_ (0:Int) (bm.wrap ((A9.length:Int)-1)))
def k86:SC:= .seq (.ops [oX 2 (.box 38 (tK 0)) 0,oX 4 BR 4]) (.seq (.ops [oM 5 1 3,oF 6 38 2 0,oL 7 36 6 36,oN 8 7 36,oB 9 .sub 3 (tK 8) (iK 1) 3 3,oC 10 64 [(tK 5),(iK 0),(tK 9)] [3,3,3] 4,oA 4 10 4]) .ret)
theorem ADr:Tryz.f86.body.map (BQ lends)=some k86:=by kernel_rfl
theorem ARY:BV Tryz.f86 2=true:=by kernel_rfl
theorem c86{a l:List D}{r:D×List D}(h:BU Y.env k86 (fin Ai l.length [bt 4] r) (entry a l))(ha:a.length=2):Y.call 86 a l=some r:=
 AY (Y:=Y) rfl Tryz.func86 (ha▸ARY) ADr h
theorem Sj(A9:Ac)(Aa AC:AU)(v_:Int){r:Bool}(h:KD A9 Aa AC v_=some r):Y.call 86 [D.agg [bk 79 (AR (fun x=>bk 87 (Aj .i64 .i64 x)) A9),bk 3 (AR (bc .i64) Aa),bk 3 (AR (bc .i64) AC)],bc .i64 v_] []=some (bp r,[]):=by
 refine c86 ?_ rfl;unfold k86;unfold KD at h;have c1:=KT v_ (0:Int) (bm.wrap ((A9.length:Int)-1));cases h;simp only [↓AO,AP,↓reduceIte,bj,bh,c1]
def KE(A9:Ac)(Aa AC:AU)(v_ i:Int):Option (Bool):= (KD A9 Aa AC v_).bind fun r9_=> if r9_=true then ck (0≤v_∧v_.toNat<A9.length)<| some (M9 i (0:Int) (bm.wrap (((A9.getD v_.toNat be).length:Int)-1))) else some false
def k52:SC:= .seq (.ops [oX 3 (.box 38 (tK 0)) 0,oX 6 BR 4]) (.seq (.ops [oL 7 38 3 38,oM 8 1 3,oC 9 86 [(tK 7),(tK 8)] [38,3] 4,oM 10 9 4,⟨some 11,.move (tK 2),3,(some (some 10,true))⟩,⟨some 12,.fieldAddr 38 (tK 3) 0,0,(some (some 10,true))⟩,⟨some 13,.load 36 (tK 12),36,(some (some 10,true))⟩,⟨some 14,.move (tK 1),3,(some (some 10,true))⟩,⟨some 15,.indexAddr 36 (tK 13) (tK 14),0,(some (some 10,true))⟩,⟨some 16,.load 79 (tK 15),79,(some (some 10,true))⟩,⟨some 17,.call ⟨(.builtin .len), #[(tK 16)], #[79]⟩,3,(some (some 10,true))⟩,⟨some 18,.binOp .sub 3 (tK 17) (iK 1) 3,3,(some (some 10,true))⟩,⟨some 19,.call ⟨(.value (.func 64)), #[(tK 11),(iK 0),(tK 18)], #[3,3,3]⟩,4,(some (some 10,true))⟩,oX 20 (.pick (tK 10) (tK 19) Lm) 4,oA 6 20 4]) .ret)
theorem ADs:Tryz.f52.body.map (BQ lends)=some k52:=by kernel_rfl
theorem ARa:BV Tryz.f52 3=true:=by kernel_rfl
theorem c52{a l:List D}{r:D×List D}(h:BU Y.env k52 (fin Ai l.length [bt 6] r) (entry a l))(ha:a.length=3):Y.call 52 a l=some r:=
 AY (Y:=Y) rfl Tryz.func52 (ha▸ARa) ADs h
theorem Sk(A9:Ac)(Aa AC:AU)(v_ i:Int){r:Bool}(h:KE A9 Aa AC v_ i=some r):Y.call 52 [D.agg [bk 79 (AR (fun x=>bk 87 (Aj .i64 .i64 x)) A9),bk 3 (AR (bc .i64) Aa),bk 3 (AR (bc .i64) AC)],bc .i64 v_,bc .i64 i] []=some (bp r,[]):=by
 refine c52 ?_ rfl;unfold k52;unfold KE at h;obtain⟨r9_,hl1,h⟩:=Ag h;have c1:=Sj A9 Aa AC v_ hl1;rcases iS h with⟨e2,h⟩|⟨e2,h⟩
 ·obtain⟨e3,h⟩:=De h;have c4:=KT i (0:Int) (bm.wrap (((A9.getD v_.toNat be).length:Int)-1));cases h;simp only [↓AO,AP,↓reduceIte,bj,bh,c1,e2,e3.1,e3.2,c4]
 ·have e2f:r9_=false:=Es.mpr e2;cases h;simp only [↓AO,AP,↓reduceIte,bj,bh,c1,e2f]
def F8(AA:Ac)(AZ AJ:AU)(Bc OL:Int):Option ((Int)⊕(Unit⊕Unit)):= if OL<((AA.getD Bc.toNat be).length:Int)then ck (0≤OL∧OL.toNat<(AA.getD Bc.toNat be).length)<| (KE AA AZ AJ (BH (AA.getD Bc.toNat be) OL.toNat) (Bj (AA.getD Bc.toNat be) OL.toNat)).bind fun ADt=> if ADt=true then ck (0≤(BH (AA.getD Bc.toNat be) OL.toNat)∧(BH (AA.getD Bc.toNat be) OL.toNat).toNat<AA.length)<| ck (0≤(Bj (AA.getD Bc.toNat be) OL.toNat)∧(Bj (AA.getD Bc.toNat be) OL.toNat).toNat<(AA.getD ((BH (AA.getD Bc.toNat be) OL.toNat).toNat) be).length)<| if(((BH (AA.getD ((BH (AA.getD Bc.toNat be) OL.toNat).toNat) be) ((Bj (AA.getD Bc.toNat be) OL.toNat).toNat))==Bc)&&((Bj (AA.getD ((BH (AA.getD Bc.toNat be) OL.toNat).toNat) be) ((Bj (AA.getD Bc.toNat be) OL.toNat).toNat))==OL))=true then some (bo (bm.wrap (OL+1))) else some (bl (bo ())) else some (bl (bo ())) else some (bl (bl ()))
def KY(AA:Ac)(AZ AJ:AU)(Bc v:Int):Option (Unit⊕Unit):=E9 (fun v=>F8 AA AZ AJ Bc v) v
def F9(AA:Ac)(AZ AJ:AU)(Bc:Int):Option ((Int)⊕(Unit⊕Unit)):=
 if Bc<(AA.length:Int)then
  ck (0≤Bc∧Bc.toNat<AA.length)<|
  if 6<((AA.getD Bc.toNat be).length:Int)then
   some (bl (bo ()))
  else
   (KY AA AZ AJ Bc 0).bind fun AX=>
   match AX with
   | .inl q1000_=>
    some (bl (bo ()))
   | .inr q1000_=>
    some (bo (bm.wrap (Bc+1)))
 else
  some (bl (bl ()))
def KZ(AA:Ac)(AZ AJ:AU)(v:Int):Option (Unit⊕Unit):=E9 (fun v=>F9 AA AZ AJ v) v
def Qn(AA:Ac)(AZ AJ:AU):Option (Bool):=
 if(M9 (AA.length:Int) (1:Int) (40:Int))=true then
  ck (AZ.length<1099511627776)<|
  if(YR AZ (AA.length:Int))=true then
   (Si AJ (AA.length:Int)).bind fun EO=>
   if EO=true then
    (KZ AA AZ AJ 0).bind fun Ap=>
    match Ap with
    | .inl q1001_=>
     some false
    | .inr q1001_=>
     some true
   else
    some false
  else
   some false
 else
  some false
abbrev Q4:List Nat:=[48,49,50,51,52,53,54,55,56,57,58,59,60,61,62,63,64,65,66,67,68,66,67,69,70]
def qI:SC:= .seq (.ops [oB 44 .lss 3 (tK 43) (tK 42) 3 0]) (.seq (.cond (tK 44) .skip (.exit 2)) (.seq (.block 3 (.seq (.ops [oM 45 43 3,oI 46 79 41 43,oL 47 87 46 87,oX 6 (.alloc 87) 0,oA 5 45 3,oS 87 6 47]) (.seq (.draws [(⟨[48,1,1],Q4,[48]⟩,oL 48 38 1 38),(⟨[49,6,6],Q4,[49]⟩,oF 49 87 6 0),(⟨[50,49,6],Q4,[50]⟩,oL 50 3 49 3),(⟨[51,6,6],Q4,[51]⟩,oF 51 87 6 1),(⟨[52,51,6],Q4,[52]⟩,oL 52 3 51 3),(⟨[53,48,50,52,1,6,6],Q4,[53]⟩,oC 53 52 [(tK 48),(tK 50),(tK 52)] [38,3,3] 4),(⟨[54,53,53],Q4,[54]⟩,oX 54 (.unOp .not 4 (tK 53)) 4),(⟨[55,54,54],Q4,[55]⟩,oM 55 54 4),(⟨[56,1,1,55],Q4,[56]⟩,⟨some 56,.fieldAddr 38 (tK 1) 0,0,(some (some 55,false))⟩),(⟨[57,56,1,55],Q4,[57]⟩,⟨some 57,.load 36 (tK 56),36,(some (some 55,false))⟩),(⟨[58,6,6,55],Q4,[58]⟩,⟨some 58,.fieldAddr 87 (tK 6) 0,0,(some (some 55,false))⟩),(⟨[59,58,6,55],Q4,[59]⟩,⟨some 59,.load 3 (tK 58),3,(some (some 55,false))⟩),(⟨[60,57,59,1,6,55],Q4,[60]⟩,⟨some 60,.indexAddr 36 (tK 57) (tK 59),0,(some (some 55,false))⟩),(⟨[61,60,1,55],Q4,[61]⟩,⟨some 61,.load 79 (tK 60),79,(some (some 55,false))⟩),(⟨[62,6,6,55],Q4,[62]⟩,⟨some 62,.fieldAddr 87 (tK 6) 1,0,(some (some 55,false))⟩),(⟨[63,62,6,55],Q4,[63]⟩,⟨some 63,.load 3 (tK 62),3,(some (some 55,false))⟩),
 (⟨[64,61,63,1,6,55],Q4,[64]⟩,⟨some 64,.indexAddr 79 (tK 61) (tK 63),0,(some (some 55,false))⟩),(⟨[65,64,1,55],Q4,[65]⟩,⟨some 65,.load 87 (tK 64),87,(some (some 55,false))⟩),(⟨[66,3,3,55],Q4,[66]⟩,⟨some 66,.move (tK 3),3,(some (some 55,false))⟩),(⟨[67,5,5,55],Q4,[67]⟩,⟨some 67,.move (tK 5),3,(some (some 55,false))⟩),(⟨[68,66,67,3,5,55],Q4,[68,66,67]⟩,⟨some 68,.build 87 #[(0,(tK 66)),(1,(tK 67))],87,(some (some 55,false))⟩),(⟨[69,65,68,1,68,55],Q4,[69]⟩,⟨some 69,.binOp .neq 87 (tK 65) (tK 68) 87,4,(some (some 55,false))⟩),(⟨[70,55,69,54,69],Q4,[70]⟩,oX 70 (.pick (tK 55) Ck (tK 69)) 4)]) (.cond (tK 70) (.seq (.ops [oX 2 BR 4]) .ret) .skip)))) (.ops [oB 71 .add 3 (tK 43) (iK 1) 3 3,oM 43 71 3])))
def A4o:SC:= .loop qI
def qJ:SC:= .seq (.ops [oB 34 .lss 3 (tK 33) (tK 32) 3 0]) (.seq (.cond (tK 34) .skip (.exit 0)) (.seq (.block 1 (.seq (.ops [oM 35 33 3,oI 36 36 31 33,oL 37 79 36 79,oA 3 35 3,oA 4 37 79]) (.seq (.seq (.ops [oM 38 4 79,oN 39 38 79,oB 40 .gtr 3 (tK 39) (iK 6) 3 4]) (.cond (tK 40) (.seq (.ops [oX 2 BR 4]) .ret) .skip)) (.seq (.ops [oM 41 4 79,oN 42 41 79,oX 43 (.move (iK 0)) 3]) (.block 2 A4o))))) (.ops [oB 72 .add 3 (tK 33) (iK 1) 3 3,oM 33 72 3])))
def A4p:SC:= .loop qJ
def k40:SC:= .seq (.ops [oX 1 (.box 38 (tK 0)) 0,oX 2 BR 4]) (.seq (.seq (.ops [oF 7 38 1 0,oL 8 36 7 36,oN 9 8 36,oC 10 64 [(tK 9),(iK 1),(iK 40)] [3,3,3] 4,oX 11 (.unOp .not 4 (tK 10)) 4,oM 12 11 4,⟨some 13,.fieldAddr 38 (tK 1) 1,0,(some (some 12,false))⟩,⟨some 14,.load 26 (tK 13),26,(some (some 12,false))⟩,⟨some 15,.fieldAddr 38 (tK 1) 0,0,(some (some 12,false))⟩,⟨some 16,.load 36 (tK 15),36,(some (some 12,false))⟩,⟨some 17,.call ⟨(.builtin .len), #[(tK 16)], #[36]⟩,3,(some (some 12,false))⟩,⟨some 18,.call ⟨(.value (.func 66)), #[(tK 14),(tK 17)], #[26,3]⟩,4,(some (some 12,false))⟩,⟨some 19,.unOp .not 4 (tK 18),4,(some (some 12,false))⟩,oX 20 (.pick (tK 12) Ck (tK 19)) 4,oM 21 20 4,⟨some 22,.fieldAddr 38 (tK 1) 2,0,(some (some 21,false))⟩,⟨some 23,.load 26 (tK 22),26,(some (some 21,false))⟩,⟨some 24,.fieldAddr 38 (tK 1) 0,0,(some (some 21,false))⟩,⟨some 25,.load 36 (tK 24),36,(some (some 21,false))⟩,⟨some 26,.call ⟨(.builtin .len), #[(tK 25)], #[36]⟩,3,(some (some 21,false))⟩,⟨some 27,.call ⟨(.value (.func 67)), #[(tK 23),(tK 26)], #[26,3]⟩,4,(some (some 21,false))⟩,⟨some 28,.unOp .not 4 (tK 27),4,(some (some 21,false))⟩,oX 29 (.pick (tK 21) Ck (tK 28)) 4])
 (.cond (tK 29) (.seq (.ops [oX 2 BR 4]) .ret) .skip)) (.seq (.seq (.ops [oF 30 38 1 0,oL 31 36 30 36,oN 32 31 36,oX 33 (.move (iK 0)) 3]) (.block 0 A4p)) (.seq (.ops [oX 2 (.assign Ck) 4]) .ret)))
theorem ADu:Tryz.f40.body.map (BQ lends)=some k40:=by kernel_rfl
theorem ARc:BV Tryz.f40 1=true:=by kernel_rfl
theorem c40{a l:List D}{r:D×List D}(h:BU Y.env k40 (fin Ai l.length [bt 2] r) (entry a l))(ha:a.length=1):Y.call 40 a l=some r:=
 AY (Y:=Y) rfl Tryz.func40 (ha▸ARc) ADu h
def DI(AA:Ac)(AZ AJ:AU)(Bc OL:Int)(s:St):Prop:=s.v 1=D.box [bk 79 (AR (fun x=>bk 87 (Aj .i64 .i64 x)) AA),bk 3 (AR (bc .i64) AZ),bk 3 (AR (bc .i64) AJ)]∧s.v 3=bc .i64 Bc∧s.v 31=bk 79 (AR (fun x=>bk 87 (Aj .i64 .i64 x)) AA)∧s.v 32=bc .i64 (AA.length:Int)∧s.v 33=bc .i64 Bc∧s.v 41=bk 87 (Aj .i64 .i64 (AA.getD Bc.toNat be))∧s.v 42=bc .i64 ((AA.getD Bc.toNat be).length:Int)∧s.v 43=bc .i64 OL
def EE(AA:Ac)(AZ AJ:AU)(Bc:Int)(r:Unit⊕Unit)(ex:Ex)(s:St):Prop:=match r with
 | .inl q=>ex= .ret∧s.v 2=bp false
 | .inr q=>ex= .exit 2∧s.v 1=D.box [bk 79 (AR (fun x=>bk 87 (Aj .i64 .i64 x)) AA),bk 3 (AR (bc .i64) AZ),bk 3 (AR (bc .i64) AJ)]∧s.v 31=bk 79 (AR (fun x=>bk 87 (Aj .i64 .i64 x)) AA)∧s.v 32=bc .i64 (AA.length:Int)∧s.v 33=bc .i64 Bc
theorem XJ(AA:Ac)(AZ AJ:AU)(Bc:Int){v:Int}{s:St}{r:Unit⊕Unit}(h:KY AA AZ AJ Bc v=some r)(hM:DI AA AZ AJ Bc v s):BU Y.env A4o (EE AA AZ AJ Bc r) s:=by
 unfold KY at h;refine Aw (c:=qI) (fun v=>F8 AA AZ AJ Bc v) (fun v s=>DI AA AZ AJ Bc v s) (EE AA AZ AJ Bc) ?_ h hM;clear h hM s v r;intro OL s o hM h;unfold F8 at h;unfold DI at hM;obtain⟨m0,m1,m2,m3,m4,m5,m6,m7⟩:=hM;unfold qI;rcases iS h with⟨e11,h⟩|⟨e11,h⟩
 ·obtain⟨e12,h⟩:=De h;obtain⟨ADt,hl13,h⟩:=Ag h;have c13:=Sk AA AZ AJ (BH (AA.getD Bc.toNat be) OL.toNat) (Bj (AA.getD Bc.toNat be) OL.toNat) hl13;rcases iS h with⟨e14,h⟩|⟨e14,h⟩
  ·obtain⟨e15,e16,h⟩:=EC h;rcases iS h with⟨e17,h⟩|⟨e17,h⟩
   ·cases h;simp only [↓AO,AP,↓reduceIte,bj,bh,b5,m0,m1,m2,m3,m4,m5,m6,m7,e11,e12.1,e12.2,c13,e14,e15.1,e15.2,e16.1,e16.2,e17,DI,D6]
   ·have e17f:(((BH (AA.getD ((BH (AA.getD Bc.toNat be) OL.toNat).toNat) be) ((Bj (AA.getD Bc.toNat be) OL.toNat).toNat))==Bc)&&((Bj (AA.getD ((BH (AA.getD Bc.toNat be) OL.toNat).toNat) be) ((Bj (AA.getD Bc.toNat be) OL.toNat).toNat))==OL))=false:=Es.mpr e17;cases h;simp only [↓AO,AP,↓reduceIte,bj,bh,b5,m0,m1,m5,m6,m7,e11,e12.1,e12.2,c13,e14,e15.1,e15.2,e16.1,e16.2,e17f,DI,EE,OC]
  ·have e14f:ADt=false:=Es.mpr e14;cases h;simp only [↓AO,AP,↓reduceIte,bj,bh,m0,m1,m5,m6,m7,e11,e12.1,e12.2,c13,e14f,DI,EE,OC]
 ·cases h;simp only [↓AO,AP,↓reduceIte,bj,bh,m0,m2,m3,m4,m6,m7,e11,DI,EE,GH]
def DJ(AA:Ac)(AZ AJ:AU)(Bc:Int)(s:St):Prop:=s.v 1=D.box [bk 79 (AR (fun x=>bk 87 (Aj .i64 .i64 x)) AA),bk 3 (AR (bc .i64) AZ),bk 3 (AR (bc .i64) AJ)]∧s.v 31=bk 79 (AR (fun x=>bk 87 (Aj .i64 .i64 x)) AA)∧s.v 32=bc .i64 (AA.length:Int)∧s.v 33=bc .i64 Bc
def EF(AA:Ac)(AZ AJ:AU)(r:Unit⊕Unit)(ex:Ex)(s:St):Prop:=match r with
 | .inl q=>ex= .ret∧s.v 2=bp false
 | .inr q=>ex= .exit 0
theorem XK(AA:Ac)(AZ AJ:AU){v:Int}{s:St}{r:Unit⊕Unit}(h:KZ AA AZ AJ v=some r)(hM:DJ AA AZ AJ v s):BU Y.env A4p (EF AA AZ AJ r) s:=by
 unfold KZ at h;refine Aw (c:=qJ) (fun v=>F9 AA AZ AJ v) (fun v s=>DJ AA AZ AJ v s) (EF AA AZ AJ) ?_ h hM;clear h hM s v r;intro Bc s o hM h;unfold F9 at h;unfold DJ at hM;obtain⟨m0,m1,m2,m3⟩:=hM;unfold qJ;rcases iS h with⟨e8,h⟩|⟨e8,h⟩
 ·obtain⟨e9,h⟩:=De h;rcases iS h with⟨e10,h⟩|⟨e10,h⟩
  ·cases h;simp only [↓AO,AP,↓reduceIte,bj,bh,m1,m2,m3,e8,e9.1,e9.2,e10,DJ,EF,OC]
  ·obtain⟨AX,hl12,h⟩:=Ag h;try dsimp only at h
   simp only [↓AO,AP,↓reduceIte,bj,bh,m1,m2,m3,e8,e9.1,e9.2,e10];refine Ak (XJ AA AZ AJ Bc hl12 ?_) ?_
   ·simp only [BL,↓reduceIte,bj,m0,m1,m2,m3,DI]
   ·intro ex12 s12 hX12;rcases AX with q1000_|q1000_
    ·unfold EE at hX12;dsimp only at hX12 h;obtain⟨rfl,n12_0⟩:=hX12;cases h;simp only [↓AO,AP,n12_0,DJ,EF,OC]
    ·unfold EE at hX12;dsimp only at hX12 h;obtain⟨rfl,n12_0,n12_1,n12_2,n12_3⟩:=hX12;cases h;simp only [↓AO,AP,↓reduceIte,bj,bh,n12_0,n12_1,n12_2,n12_3,DJ,D6]
 ·cases h;simp only [↓AO,AP,↓reduceIte,bh,m2,m3,e8,DJ,EF,GH]
theorem YS(AA:Ac)(AZ AJ:AU){r:Bool}(h:Qn AA AZ AJ=some r):Y.call 40 [D.agg [bk 79 (AR (fun x=>bk 87 (Aj .i64 .i64 x)) AA),bk 3 (AR (bc .i64) AZ),bk 3 (AR (bc .i64) AJ)]] []=some (bp r,[]):=by
 refine c40 ?_ rfl;unfold k40;unfold Qn at h;have c1:=KT (AA.length:Int) (1:Int) (40:Int);rcases iS h with⟨e2,h⟩|⟨e2,h⟩
 ·obtain⟨e3,h⟩:=De h;have c4:=zP AZ (AA.length:Int) e3;rcases iS h with⟨e5,h⟩|⟨e5,h⟩
  ·obtain⟨EO,hl6,h⟩:=Ag h;have c6:=Zr AJ (AA.length:Int) hl6;rcases iS h with⟨e7,h⟩|⟨e7,h⟩
   ·obtain⟨Ap,hl9,h⟩:=Ag h;try dsimp only at h
    simp only [↓AO,AP,↓reduceIte,bj,bh,c1,e2,c4,e5,c6,e7];refine Ak (XK AA AZ AJ hl9 ?_) ?_
    ·simp only [BL,↓reduceIte,bj,DJ]
    ·intro ex9 s9 hX9;rcases Ap with q1001_|q1001_
     ·unfold EF at hX9;dsimp only at hX9 h;obtain⟨rfl,n9_0⟩:=hX9;cases h;simp only [↓AO,AP,↓reduceIte,n9_0]
     ·unfold EF at hX9;dsimp only at hX9 h
      obtain rfl:=hX9
      cases h;simp only [↓AO,AP,↓reduceIte,bj,bh]
   ·have e7f:EO=false:=Es.mpr e7;cases h;simp only [↓AO,AP,↓reduceIte,bj,bh,c1,e2,c4,e5,c6,e7f]
  ·have e5f:(YR AZ (AA.length:Int))=false:=Es.mpr e5;cases h;simp only [↓AO,AP,↓reduceIte,bj,bh,c1,e2,c4,e5f]
 ·have e2f:(M9 (AA.length:Int) (1:Int) (40:Int))=false:=Es.mpr e2;cases h;simp only [↓AO,AP,↓reduceIte,bj,bh,c1,e2f]
def Jg(AA:Ac)(AZ AJ:AU)(Cx MJ:Int):Option ((Int)⊕(Unit⊕Unit)):= if MJ<((AA.getD Cx.toNat be).length:Int)then ck (0≤MJ∧MJ.toNat<(AA.getD Cx.toNat be).length)<| if(M9 (BH (AA.getD Cx.toNat be) MJ.toNat) (0:Int) (bm.wrap ((AA.length:Int)-1)))=true then ck (0≤(BH (AA.getD Cx.toNat be) MJ.toNat)∧(BH (AA.getD Cx.toNat be) MJ.toNat).toNat<AA.length)<| if(M9 (Bj (AA.getD Cx.toNat be) MJ.toNat) (0:Int) (bm.wrap (((AA.getD ((BH (AA.getD Cx.toNat be) MJ.toNat).toNat) be).length:Int)-1)))=true then ck (0≤(Bj (AA.getD Cx.toNat be) MJ.toNat)∧(Bj (AA.getD Cx.toNat be) MJ.toNat).toNat<(AA.getD ((BH (AA.getD Cx.toNat be) MJ.toNat).toNat) be).length)<| if(((BH (AA.getD ((BH (AA.getD Cx.toNat be) MJ.toNat).toNat) be) ((Bj (AA.getD Cx.toNat be) MJ.toNat).toNat))==Cx)&&((Bj (AA.getD ((BH (AA.getD Cx.toNat be) MJ.toNat).toNat) be) ((Bj (AA.getD Cx.toNat be) MJ.toNat).toNat))==MJ))=true then some (bo (bm.wrap (MJ+1))) else some (bl (bo ())) else some (bl (bo ())) else some (bl (bo ())) else some (bl (bl ()))
def OM(AA:Ac)(AZ AJ:AU)(Cx v:Int):Option (Unit⊕Unit):=E9 (fun v=>Jg AA AZ AJ Cx v) v
def Jh(AA:Ac)(AZ AJ:AU)(Cx:Int):Option ((Int)⊕(Unit⊕Unit)):=
 if Cx<(AA.length:Int)then
  ck (0≤Cx∧Cx.toNat<AA.length)<|
  if 6<((AA.getD Cx.toNat be).length:Int)then
   some (bl (bo ()))
  else
   (OM AA AZ AJ Cx 0).bind fun AX=>
   match AX with
   | .inl q1000_=>
    some (bl (bo ()))
   | .inr q1000_=>
    some (bo (bm.wrap (Cx+1)))
 else
  some (bl (bl ()))
def OO(AA:Ac)(AZ AJ:AU)(v:Int):Option (Unit⊕Unit):=E9 (fun v=>Jh AA AZ AJ v) v
def XL(AA:Ac)(AZ AJ:AU):Option (Bool):=
 if(M9 (AA.length:Int) (1:Int) (40:Int))=true then
  ck (AZ.length<1099511627776)<|
  if(YR AZ (AA.length:Int))=true then
   if(AJ.length:Int)=(AA.length:Int)then
    ck (AJ.length<1099511627776)<|
    if(FW AJ (0:Int) (9:Int))=true then
     (OO AA AZ AJ 0).bind fun Ap=>
     match Ap with
     | .inl q1001_=>
      some false
     | .inr q1001_=>
      some true
    else
     some false
   else
    some false
  else
   some false
 else
  some false
abbrev JK:List Nat:=[54,55,56,57,58,59,60,61,62,63,64,65,66,67,68,69,70,71,72,73,74,75,76,77,78,79,80,81,82,83,84,85,86,87,88,89,87,88,90,91]
def qK:SC:= .seq (.ops [oB 50 .lss 3 (tK 49) (tK 48) 3 0]) (.seq (.cond (tK 50) .skip (.exit 2)) (.seq (.block 3 (.seq (.ops [oM 51 49 3,oI 52 79 47 49,oL 53 87 52 87,oX 6 (.alloc 87) 0,oA 5 51 3,oS 87 6 53]) (.seq (.draws [(⟨[54,6,6],JK,[54]⟩,oF 54 87 6 0),(⟨[55,54,6],JK,[55]⟩,oL 55 3 54 3),(⟨[56,1,1],JK,[56]⟩,oF 56 38 1 0),(⟨[57,56,1],JK,[57]⟩,oL 57 36 56 36),(⟨[58,57,1],JK,[58]⟩,oN 58 57 36),(⟨[59,58,58],JK,[59]⟩,oB 59 .sub 3 (tK 58) (iK 1) 3 3),(⟨[60,55,59,6,59],JK,[60]⟩,oC 60 82 [(tK 55),(iK 0),(tK 59)] [3,3,3] 4),(⟨[61,60,60],JK,[61]⟩,oX 61 (.unOp .not 4 (tK 60)) 4),(⟨[62,61,61],JK,[62]⟩,oM 62 61 4),(⟨[63,6,6,62],JK,[63]⟩,⟨some 63,.fieldAddr 87 (tK 6) 1,0,(some (some 62,false))⟩),(⟨[64,63,6,62],JK,[64]⟩,⟨some 64,.load 3 (tK 63),3,(some (some 62,false))⟩),(⟨[65,1,1,62],JK,[65]⟩,⟨some 65,.fieldAddr 38 (tK 1) 0,0,(some (some 62,false))⟩),(⟨[66,65,1,62],JK,[66]⟩,⟨some 66,.load 36 (tK 65),36,(some (some 62,false))⟩),(⟨[67,6,6,62],JK,[67]⟩,⟨some 67,.fieldAddr 87 (tK 6) 0,0,(some (some 62,false))⟩),(⟨[68,67,6,62],JK,[68]⟩,⟨some 68,.load 3 (tK 67),3,(some (some 62,false))⟩),(⟨[69,66,68,1,6,62],JK,[69]⟩,⟨some 69,.indexAddr 36 (tK 66) (tK 68),0,(some (some 62,false))⟩),
 (⟨[70,69,1,62],JK,[70]⟩,⟨some 70,.load 79 (tK 69),79,(some (some 62,false))⟩),(⟨[71,70,1,62],JK,[71]⟩,⟨some 71,.call ⟨(.builtin .len), #[(tK 70)], #[79]⟩,3,(some (some 62,false))⟩),(⟨[72,71,71,62],JK,[72]⟩,⟨some 72,.binOp .sub 3 (tK 71) (iK 1) 3,3,(some (some 62,false))⟩),(⟨[73,64,72,6,72,62],JK,[73]⟩,⟨some 73,.call ⟨(.value (.func 82)), #[(tK 64),(iK 0),(tK 72)], #[3,3,3]⟩,4,(some (some 62,false))⟩),(⟨[74,73,73,62],JK,[74]⟩,⟨some 74,.unOp .not 4 (tK 73),4,(some (some 62,false))⟩),(⟨[75,62,74,61,74],JK,[75]⟩,oX 75 (.pick (tK 62) Ck (tK 74)) 4),(⟨[76,75,75],JK,[76]⟩,oM 76 75 4),(⟨[77,1,1,76],JK,[77]⟩,⟨some 77,.fieldAddr 38 (tK 1) 0,0,(some (some 76,false))⟩),(⟨[78,77,1,76],JK,[78]⟩,⟨some 78,.load 36 (tK 77),36,(some (some 76,false))⟩),(⟨[79,6,6,76],JK,[79]⟩,⟨some 79,.fieldAddr 87 (tK 6) 0,0,(some (some 76,false))⟩),(⟨[80,79,6,76],JK,[80]⟩,⟨some 80,.load 3 (tK 79),3,(some (some 76,false))⟩),(⟨[81,78,80,1,6,76],JK,[81]⟩,⟨some 81,.indexAddr 36 (tK 78) (tK 80),0,(some (some 76,false))⟩),(⟨[82,81,1,76],JK,[82]⟩,⟨some 82,.load 79 (tK 81),79,(some (some 76,false))⟩),(⟨[83,6,6,76],JK,[83]⟩,⟨some 83,.fieldAddr 87 (tK 6) 1,0,(some (some 76,false))⟩),(⟨[84,83,6,76],JK,[84]⟩,⟨some 84,.load 3 (tK 83),3,(some (some 76,false))⟩),
 (⟨[85,82,84,1,6,76],JK,[85]⟩,⟨some 85,.indexAddr 79 (tK 82) (tK 84),0,(some (some 76,false))⟩),(⟨[86,85,1,76],JK,[86]⟩,⟨some 86,.load 87 (tK 85),87,(some (some 76,false))⟩),(⟨[87,3,3,76],JK,[87]⟩,⟨some 87,.move (tK 3),3,(some (some 76,false))⟩),(⟨[88,5,5,76],JK,[88]⟩,⟨some 88,.move (tK 5),3,(some (some 76,false))⟩),(⟨[89,87,88,3,5,76],JK,[89,87,88]⟩,⟨some 89,.build 87 #[(0,(tK 87)),(1,(tK 88))],87,(some (some 76,false))⟩),(⟨[90,86,89,1,89,76],JK,[90]⟩,⟨some 90,.binOp .neq 87 (tK 86) (tK 89) 87,4,(some (some 76,false))⟩),(⟨[91,76,90,75,90],JK,[91]⟩,oX 91 (.pick (tK 76) Ck (tK 90)) 4)]) (.cond (tK 91) (.seq (.ops [oX 2 BR 4]) .ret) .skip)))) (.ops [oB 92 .add 3 (tK 49) (iK 1) 3 3,oM 49 92 3])))
def A4q:SC:= .loop qK
def qL:SC:= .seq (.ops [oB 40 .lss 3 (tK 39) (tK 38) 3 0]) (.seq (.cond (tK 40) .skip (.exit 0)) (.seq (.block 1 (.seq (.ops [oM 41 39 3,oI 42 36 37 39,oL 43 79 42 79,oA 3 41 3,oA 4 43 79]) (.seq (.seq (.ops [oM 44 4 79,oN 45 44 79,oB 46 .gtr 3 (tK 45) (iK 6) 3 4]) (.cond (tK 46) (.seq (.ops [oX 2 BR 4]) .ret) .skip)) (.seq (.ops [oM 47 4 79,oN 48 47 79,oX 49 (.move (iK 0)) 3]) (.block 2 A4q))))) (.ops [oB 93 .add 3 (tK 39) (iK 1) 3 3,oM 39 93 3])))
def A4r:SC:= .loop qL
def k58:SC:= .seq (.ops [oX 1 (.box 38 (tK 0)) 0,oX 2 BR 4]) (.seq (.seq (.ops [oF 7 38 1 0,oL 8 36 7 36,oN 9 8 36,oC 10 82 [(tK 9),(iK 1),(iK 40)] [3,3,3] 4,oX 11 (.unOp .not 4 (tK 10)) 4,oM 12 11 4,⟨some 13,.fieldAddr 38 (tK 1) 1,0,(some (some 12,false))⟩,⟨some 14,.load 26 (tK 13),26,(some (some 12,false))⟩,⟨some 15,.fieldAddr 38 (tK 1) 0,0,(some (some 12,false))⟩,⟨some 16,.load 36 (tK 15),36,(some (some 12,false))⟩,⟨some 17,.call ⟨(.builtin .len), #[(tK 16)], #[36]⟩,3,(some (some 12,false))⟩,⟨some 18,.call ⟨(.value (.func 91)), #[(tK 14),(tK 17)], #[26,3]⟩,4,(some (some 12,false))⟩,⟨some 19,.unOp .not 4 (tK 18),4,(some (some 12,false))⟩,oX 20 (.pick (tK 12) Ck (tK 19)) 4,oM 21 20 4,⟨some 22,.fieldAddr 38 (tK 1) 2,0,(some (some 21,false))⟩,⟨some 23,.load 26 (tK 22),26,(some (some 21,false))⟩,⟨some 24,.call ⟨(.builtin .len), #[(tK 23)], #[26]⟩,3,(some (some 21,false))⟩,⟨some 25,.fieldAddr 38 (tK 1) 0,0,(some (some 21,false))⟩,⟨some 26,.load 36 (tK 25),36,(some (some 21,false))⟩,⟨some 27,.call ⟨(.builtin .len), #[(tK 26)], #[36]⟩,3,(some (some 21,false))⟩,⟨some 28,.binOp .neq 3 (tK 24) (tK 27) 3,4,(some (some 21,false))⟩,oX 29 (.pick (tK 21) Ck (tK 28)) 4,
 oM 30 29 4,⟨some 31,.fieldAddr 38 (tK 1) 2,0,(some (some 30,false))⟩,⟨some 32,.load 26 (tK 31),26,(some (some 30,false))⟩,⟨some 33,.call ⟨(.value (.func 59)), #[(tK 32),(iK 0),(iK 9)], #[26,3,3]⟩,4,(some (some 30,false))⟩,⟨some 34,.unOp .not 4 (tK 33),4,(some (some 30,false))⟩,oX 35 (.pick (tK 30) Ck (tK 34)) 4]) (.cond (tK 35) (.seq (.ops [oX 2 BR 4]) .ret) .skip)) (.seq (.seq (.ops [oF 36 38 1 0,oL 37 36 36 36,oN 38 37 36,oX 39 (.move (iK 0)) 3]) (.block 0 A4r)) (.seq (.ops [oX 2 (.assign Ck) 4]) .ret)))
theorem ADv:Tryz.f58.body.map (BQ lends)=some k58:=by kernel_rfl
theorem ARe:BV Tryz.f58 1=true:=by kernel_rfl
theorem c58{a l:List D}{r:D×List D}(h:BU Y.env k58 (fin Ai l.length [bt 2] r) (entry a l))(ha:a.length=1):Y.call 58 a l=some r:=
 AY (Y:=Y) rfl Tryz.func58 (ha▸ARe) ADv h
def EP(AA:Ac)(AZ AJ:AU)(Cx MJ:Int)(s:St):Prop:=s.v 1=D.box [bk 79 (AR (fun x=>bk 87 (Aj .i64 .i64 x)) AA),bk 3 (AR (bc .i64) AZ),bk 3 (AR (bc .i64) AJ)]∧s.v 3=bc .i64 Cx∧s.v 37=bk 79 (AR (fun x=>bk 87 (Aj .i64 .i64 x)) AA)∧s.v 38=bc .i64 (AA.length:Int)∧s.v 39=bc .i64 Cx∧s.v 47=bk 87 (Aj .i64 .i64 (AA.getD Cx.toNat be))∧s.v 48=bc .i64 ((AA.getD Cx.toNat be).length:Int)∧s.v 49=bc .i64 MJ
def F4(AA:Ac)(AZ AJ:AU)(Cx:Int)(r:Unit⊕Unit)(ex:Ex)(s:St):Prop:=match r with
 | .inl q=>ex= .ret∧s.v 2=bp false
 | .inr q=>ex= .exit 2∧s.v 1=D.box [bk 79 (AR (fun x=>bk 87 (Aj .i64 .i64 x)) AA),bk 3 (AR (bc .i64) AZ),bk 3 (AR (bc .i64) AJ)]∧s.v 37=bk 79 (AR (fun x=>bk 87 (Aj .i64 .i64 x)) AA)∧s.v 38=bc .i64 (AA.length:Int)∧s.v 39=bc .i64 Cx
theorem fV(AA:Ac)(AZ AJ:AU)(Cx:Int){v:Int}{s:St}{r:Unit⊕Unit}(h:OM AA AZ AJ Cx v=some r)(hM:EP AA AZ AJ Cx v s):BU Y.env A4q (F4 AA AZ AJ Cx r) s:=by
 unfold OM at h;refine Aw (c:=qK) (fun v=>Jg AA AZ AJ Cx v) (fun v s=>EP AA AZ AJ Cx v s) (F4 AA AZ AJ Cx) ?_ h hM;clear h hM s v r;intro MJ s o hM h;unfold Jg at h;unfold EP at hM;obtain⟨m0,m1,m2,m3,m4,m5,m6,m7⟩:=hM;unfold qK;rcases iS h with⟨e13,h⟩|⟨e13,h⟩
 ·obtain⟨e14,h⟩:=De h;have c15:=Na (BH (AA.getD Cx.toNat be) MJ.toNat) (0:Int) (bm.wrap ((AA.length:Int)-1));rcases iS h with⟨e16,h⟩|⟨e16,h⟩
  ·obtain⟨e17,h⟩:=De h;have jm:=Na (Bj (AA.getD Cx.toNat be) MJ.toNat) (0:Int) (bm.wrap (((AA.getD ((BH (AA.getD Cx.toNat be) MJ.toNat).toNat) be).length:Int)-1));rcases iS h with⟨e19,h⟩|⟨e19,h⟩
   ·obtain⟨e20,h⟩:=De h;rcases iS h with⟨e21,h⟩|⟨e21,h⟩
    ·cases h;simp only [↓AO,AP,↓reduceIte,bj,bh,b5,m0,m1,m2,m3,m4,m5,m6,m7,e13,e14.1,e14.2,c15,e16,e17.1,e17.2,jm,e19,e20.1,e20.2,e21,EP,D6]
    ·have e21f:(((BH (AA.getD ((BH (AA.getD Cx.toNat be) MJ.toNat).toNat) be) ((Bj (AA.getD Cx.toNat be) MJ.toNat).toNat))==Cx)&&((Bj (AA.getD ((BH (AA.getD Cx.toNat be) MJ.toNat).toNat) be) ((Bj (AA.getD Cx.toNat be) MJ.toNat).toNat))==MJ))=false:=Es.mpr e21;cases h;simp only [↓AO,AP,↓reduceIte,bj,bh,b5,m0,m1,m5,m6,m7,e13,e14.1,e14.2,c15,e16,e17.1,e17.2,jm,e19,e20.1,e20.2,e21f,EP,F4,OC]
   ·have e19f:(M9 (Bj (AA.getD Cx.toNat be) MJ.toNat) (0:Int) (bm.wrap (((AA.getD ((BH (AA.getD Cx.toNat be) MJ.toNat).toNat) be).length:Int)-1)))=false:=Es.mpr e19;cases h;simp only [↓AO,AP,↓reduceIte,bj,bh,m0,m1,m5,m6,m7,e13,e14.1,e14.2,c15,e16,e17.1,e17.2,jm,e19f,EP,F4,OC]
  ·have e16f:(M9 (BH (AA.getD Cx.toNat be) MJ.toNat) (0:Int) (bm.wrap ((AA.length:Int)-1)))=false:=Es.mpr e16;cases h;simp only [↓AO,AP,↓reduceIte,bj,bh,m0,m1,m5,m6,m7,e13,e14.1,e14.2,c15,e16f,EP,F4,OC]
 ·cases h;simp only [↓AO,AP,↓reduceIte,bj,bh,m0,m2,m3,m4,m6,m7,e13,EP,F4,GH]
def F5(AA:Ac)(AZ AJ:AU)(Cx:Int)(s:St):Prop:=s.v 1=D.box [bk 79 (AR (fun x=>bk 87 (Aj .i64 .i64 x)) AA),bk 3 (AR (bc .i64) AZ),bk 3 (AR (bc .i64) AJ)]∧s.v 37=bk 79 (AR (fun x=>bk 87 (Aj .i64 .i64 x)) AA)∧s.v 38=bc .i64 (AA.length:Int)∧s.v 39=bc .i64 Cx
def Gn(AA:Ac)(AZ AJ:AU)(r:Unit⊕Unit)(ex:Ex)(s:St):Prop:=match r with
 | .inl q=>ex= .ret∧s.v 2=bp false
 | .inr q=>ex= .exit 0
theorem fZ(AA:Ac)(AZ AJ:AU){v:Int}{s:St}{r:Unit⊕Unit}(h:OO AA AZ AJ v=some r)(hM:F5 AA AZ AJ v s):BU Y.env A4r (Gn AA AZ AJ r) s:=by
 unfold OO at h;refine Aw (c:=qL) (fun v=>Jh AA AZ AJ v) (fun v s=>F5 AA AZ AJ v s) (Gn AA AZ AJ) ?_ h hM;clear h hM s v r;intro Cx s o hM h;unfold Jh at h;unfold F5 at hM;obtain⟨m0,m1,m2,m3⟩:=hM;unfold qL;rcases iS h with⟨e10,h⟩|⟨e10,h⟩
 ·obtain⟨e11,h⟩:=De h;rcases iS h with⟨e12,h⟩|⟨e12,h⟩
  ·cases h;simp only [↓AO,AP,↓reduceIte,bj,bh,m1,m2,m3,e10,e11.1,e11.2,e12,F5,Gn,OC]
  ·obtain⟨AX,hl14,h⟩:=Ag h;try dsimp only at h
   simp only [↓AO,AP,↓reduceIte,bj,bh,m1,m2,m3,e10,e11.1,e11.2,e12];refine Ak (fV AA AZ AJ Cx hl14 ?_) ?_
   ·simp only [BL,↓reduceIte,bj,m0,m1,m2,m3,EP]
   ·intro ex14 s14 hX14;rcases AX with q1000_|q1000_
    ·unfold F4 at hX14;dsimp only at hX14 h;obtain⟨rfl,n14_0⟩:=hX14;cases h;simp only [↓AO,AP,n14_0,F5,Gn,OC]
    ·unfold F4 at hX14;dsimp only at hX14 h;obtain⟨rfl,n14_0,n14_1,n14_2,n14_3⟩:=hX14;cases h;simp only [↓AO,AP,↓reduceIte,bj,bh,n14_0,n14_1,n14_2,n14_3,F5,D6]
 ·cases h;simp only [↓AO,AP,↓reduceIte,bh,m2,m3,e10,F5,Gn,GH]
theorem kK(AA:Ac)(AZ AJ:AU){r:Bool}(h:XL AA AZ AJ=some r):Y.call 58 [D.agg [bk 79 (AR (fun x=>bk 87 (Aj .i64 .i64 x)) AA),bk 3 (AR (bc .i64) AZ),bk 3 (AR (bc .i64) AJ)]] []=some (bp r,[]):=by
 refine c58 ?_ rfl;unfold k58;unfold XL at h;have c1:=Na (AA.length:Int) (1:Int) (40:Int);rcases iS h with⟨e2,h⟩|⟨e2,h⟩
 ·obtain⟨e3,h⟩:=De h;have c4:=zQ AZ (AA.length:Int) e3;rcases iS h with⟨e5,h⟩|⟨e5,h⟩
  ·rcases iS h with⟨e6,h⟩|⟨e6,h⟩
   ·obtain⟨e7,h⟩:=De h;have c8:=eF AJ (0:Int) (9:Int) e7;rcases iS h with⟨e9,h⟩|⟨e9,h⟩
    ·obtain⟨Ap,hl11,h⟩:=Ag h;try dsimp only at h
     simp only [↓AO,AP,↓reduceIte,bj,bh,c1,e2,c4,e5,decide_eq_true e6,c8,e9];refine Ak (fZ AA AZ AJ hl11 ?_) ?_
     ·simp only [BL,↓reduceIte,bj,F5]
     ·intro ex11 s11 hX11;rcases Ap with q1001_|q1001_
      ·unfold Gn at hX11;dsimp only at hX11 h;obtain⟨rfl,n11_0⟩:=hX11;cases h;simp only [↓AO,AP,↓reduceIte,n11_0]
      ·unfold Gn at hX11;dsimp only at hX11 h
       obtain rfl:=hX11
       cases h;simp only [↓AO,AP,↓reduceIte,bj,bh]
    ·have e9f:(FW AJ (0:Int) (9:Int))=false:=Es.mpr e9;cases h;simp only [↓AO,AP,↓reduceIte,bj,bh,c1,e2,c4,e5,decide_eq_true e6,c8,e9f]
   ·cases h;simp only [↓AO,AP,↓reduceIte,bj,bh,c1,e2,c4,e5,e6]
  ·have e5f:(YR AZ (AA.length:Int))=false:=Es.mpr e5;cases h;simp only [↓AO,AP,↓reduceIte,bj,bh,c1,e2,c4,e5f]
 ·have e2f:(M9 (AA.length:Int) (1:Int) (40:Int))=false:=Es.mpr e2;cases h;simp only [↓AO,AP,↓reduceIte,bj,bh,c1,e2f]
def VU(es:Ac)(v i:Nat):Bool:=
 M9 (BH (es.getD v be) i) 0 ((es.length:Int)-1)&&
 (M9 (Bj (es.getD v be) i) 0 (((es.getD (BH (es.getD v be) i).toNat be).length:Int)-1)&&
 ((BH (es.getD (BH (es.getD v be) i).toNat be) (Bj (es.getD v be) i).toNat==(v:Int))&&(Bj (es.getD (BH (es.getD v be) i).toNat be) (Bj (es.getD v be) i).toNat==(i:Int))))
theorem Uv(es:Ac)(v i:Nat):VU es v i=(M9 (BH (es.getD v be) i) 0 ((es.length:Int)-1)&&
 (M9 (Bj (es.getD v be) i) 0 (((es.getD (BH (es.getD v be) i).toNat be).length:Int)-1)&&
 ((BH (es.getD (BH (es.getD v be) i).toNat be) (Bj (es.getD v be) i).toNat==(v:Int))&&(Bj (es.getD (BH (es.getD v be) i).toNat be) (Bj (es.getD v be) i).toNat==(i:Int))))):=rfl
def XM(es:Ac)(v:Nat):Bool:=decide ((es.getD v be).length≤6)&&(ao (es.getD v be).length).all (VU es v)
theorem PS(es:Ac)(v:Nat):XM es v=(decide ((es.getD v be).length≤6)&&(ao (es.getD v be).length).all (VU es v)):=rfl
def GQ(es:Ac)(ids ins:AU):Bool:=
 M9 es.length 1 40&&(YR ids es.length&&(decide ((ins.length:Int)=es.length)&&(FW ins 0 9&&(ao es.length).all (XM es))))
theorem A4s(es:Ac)(ids ins:AU)(h:Cm es)(v:Nat):KY es ids ins (v:Int) 0=some (if(ao (es.getD v be).length).all (VU es v)=true then .inr ()else .inl ()):=by
 have h1:=h.1;have h2:=h.getD v;unfold KY;refine Df (fun x=>F8 es ids ins (v:Int) x) (fun i=>(i:Int)) (es.getD v be).length (VU es v) (.inl ()) (.inr ()) ?_ ?_
 ·intro i hi;have h3:=h.getD (BH (es.getD v be) i).toNat;simp only [F8,KE,KD,Cg];rw [Uv,if_pos (BX hi),BC (by omega),C8,Ib _ (by omega),Ib _ (by omega),Gf i (by omega)]
  cases r1:M9 (BH (es.getD v be) i) 0 ((es.length:Int)-1)with
  |false=>simp
  |true=>
   have r1':=Ey.1 r1;rw [if_pos rfl,BC (by omega),C8]
   cases r2:M9 (Bj (es.getD v be) i) 0 (((es.getD (BH (es.getD v be) i).toNat be).length:Int)-1)with
   |false=>simp
   |true=>
    have r2':=Ey.1 r2;rw [if_pos rfl,BC (by omega),BC (by omega),SA,SA]
 ·simp only [F8,Cg];rw [if_neg (Am _)]
theorem A4t(es:Ac)(ids ins:AU)(h:Cm es)(v:Nat):OM es ids ins (v:Int) 0=some (if(ao (es.getD v be).length).all (VU es v)=true then .inr ()else .inl ()):=by
 have h1:=h.1;have h2:=h.getD v;unfold OM;refine Df (fun x=>Jg es ids ins (v:Int) x) (fun i=>(i:Int)) (es.getD v be).length (VU es v) (.inl ()) (.inr ()) ?_ ?_
 ·intro i hi;have h3:=h.getD (BH (es.getD v be) i).toNat;simp only [Jg,Cg];rw [Uv,if_pos (BX hi),BC (by omega),Ib _ (by omega),Ib _ (by omega),Gf i (by omega)]
  cases r1:M9 (BH (es.getD v be) i) 0 ((es.length:Int)-1)with
  |false=>simp
  |true=>
   have r1':=Ey.1 r1;rw [if_pos rfl,BC (by omega)]
   cases r2:M9 (Bj (es.getD v be) i) 0 (((es.getD (BH (es.getD v be) i).toNat be).length:Int)-1)with
   |false=>simp
   |true=>
    have r2':=Ey.1 r2;rw [if_pos rfl,BC (by omega),SA,SA]
 ·simp only [Jg,Cg];rw [if_neg (Am _)]
theorem A4u(es:Ac)(ids ins:AU)(h:Cm es):KZ es ids ins 0=some (if(ao es.length).all (XM es)=true then .inr ()else .inl ()):=by
 have h1:=h.1;unfold KZ;refine Df (fun x=>F9 es ids ins x) (fun i=>(i:Int)) es.length (XM es) (.inl ()) (.inr ()) ?_ ?_
 ·intro v hv;simp only [F9,Cg];rw [PS,if_pos (BX hv),BC (by omega),A4s es ids ins h v,C8,Gf v (by omega)]
  by_cases h6:(es.getD v be).length≤6
  ·rw [if_neg (by omega),decide_eq_true h6,SA]
   cases (ao (es.getD v be).length).all (VU es v)<;>rfl
  ·rw [if_pos (by omega),decide_eq_false h6];rfl
 ·simp only [F9];rw [if_neg (Am _)]
theorem A4v(es:Ac)(ids ins:AU)(h:Cm es):OO es ids ins 0=some (if(ao es.length).all (XM es)=true then .inr ()else .inl ()):=by
 have h1:=h.1;unfold OO;refine Df (fun x=>Jh es ids ins x) (fun i=>(i:Int)) es.length (XM es) (.inl ()) (.inr ()) ?_ ?_
 ·intro v hv;simp only [Jh,Cg];rw [PS,if_pos (BX hv),BC (by omega),A4t es ids ins h v,C8,Gf v (by omega)]
  by_cases h6:(es.getD v be).length≤6
  ·rw [if_neg (by omega),decide_eq_true h6,SA]
   cases (ao (es.getD v be).length).all (VU es v)<;>rfl
  ·rw [if_pos (by omega),decide_eq_false h6];rfl
 ·simp only [Jh];rw [if_neg (Am _)]
theorem fe(es:Ac)(ids ins:AU)(h:Cm es)(h2:ids.length<1099511627776)(h3:ins.length<1099511627776):Qn es ids ins=some (GQ es ids ins):=by
 unfold Qn GQ;rw [BC h2,A4u es ids ins h];unfold Si;rw [BC h3]
 cases M9 es.length 1 40 with
 |false=>rfl
 |true=>
  cases YR ids es.length with
  |false=>rfl
  |true=>
   by_cases hl:(ins.length:Int)=es.length
   ·rw [if_pos hl,decide_eq_true hl]
    cases FW ins 0 9 with
    |false=>rfl
    |true=>cases (ao es.length).all (XM es)<;>rfl
   ·rw [if_neg hl,decide_eq_false hl];rfl
theorem wO(es:Ac)(ids ins:AU)(h:Cm es)(h2:ids.length<1099511627776)(h3:ins.length<1099511627776):XL es ids ins=some (GQ es ids ins):=by
 unfold XL GQ;rw [BC h2,BC h3,A4v es ids ins h]
 cases M9 es.length 1 40 with
 |false=>rfl
 |true=>
  cases YR ids es.length with
  |false=>rfl
  |true=>
   by_cases hl:(ins.length:Int)=es.length
   ·rw [if_pos hl,decide_eq_true hl]
    cases FW ins 0 9 with
    |false=>rfl
    |true=>cases (ao es.length).all (XM es)<;>rfl
   ·rw [if_neg hl,decide_eq_false hl];rfl
theorem fq(AA:Ac)(AZ AJ:AU)(h0:Cm AA)(h1:AZ.length<1099511627776)(h2:AJ.length<1099511627776):Y.call 40 [D.agg [bk 79 (AR (fun x=>bk 87 (Aj .i64 .i64 x)) AA),bk 3 (AR (bc .i64) AZ),bk 3 (AR (bc .i64) AJ)]] []=some (bp (GQ AA AZ AJ),[]):=YS AA AZ AJ (fe AA AZ AJ h0 h1 h2)
theorem wP(AA:Ac)(AZ AJ:AU)(h0:Cm AA)(h1:AZ.length<1099511627776)(h2:AJ.length<1099511627776):Y.call 58 [D.agg [bk 79 (AR (fun x=>bk 87 (Aj .i64 .i64 x)) AA),bk 3 (AR (bc .i64) AZ),bk 3 (AR (bc .i64) AJ)]] []=some (bp (GQ AA AZ AJ),[]):=kK AA AZ AJ (wO AA AZ AJ h0 h1 h2)
theorem Vu{a d:Int}{ns es:AV}(h:MI a d ns es=true):(1≤a∧a≤8)∧(1≤d∧d≤4)∧ML ns d a=true∧ML es 2 a=true:=by
 simp only [MI,En]at h
 exact⟨Ey.1 h.1.1.1,Ey.1 h.1.1.2,h.1.2,h.2⟩
theorem XN{l:AV}{s n:Int}(h:ML l s n=true){x:AU}(hx:x∈l):(x.length:Int)=s∧GK x=true∧FW x 0 (n-1)=true:=by
 obtain⟨i,hi,rfl⟩:=ed.1 hx;have:=Cc.1 h i hi
 unfold R5 at this;simp only [En,decide_eq_true_eq]at this
 exact⟨this.1.1.1,this.1.1.2,this.1.2⟩
theorem qM: ∀ {l:AU},GK l=true→l.Pairwise (fun a b=>a≤b):=by
 intro l
 induction l with
 |nil=>intro _;exact List.Pairwise.nil
 |cons x l ih=>
  intro h;have h0:=Cc.1 h
  have ht:GK l=true:=by
   refine Cc.2 fun i hi=> ?_;have:=h0 (i+1) (by simp only [KL];omega)
   simpa using this
  have hp:=ih ht;refine List.pairwise_cons.2 ⟨fun y hy=> ?_,hp⟩
  cases l with
  |nil=>cases hy
  |cons z l=>
   have hz:x≤z:=by
    have:=h0 0 (by simp)
    simpa using this
   rcases TF.1 hy with rfl|hy
   ·exact hz
   ·have:=(List.pairwise_cons.1 hp).1 y hy;omega
def K5(es:AV)(a b:Int):Bool:=es.contains (if b<a then [b,a]else [a,b])
def Ml(pL pD:Int)(pN pE:AV)(a b:Int):Option (Bool):= ck (BK pE)<| ck ([a,b].length<1099511627776)<| ck (UD pE=true)<| some (pE.contains (JJ [a,b]))
def k88:SC:= .seq (.ops [oX 3 (.box 34 (tK 0)) 0,oX 6 BR 4]) (.seq (.ops [oF 7 34 3 3,oL 8 22 7 22,oM 9 1 3,oM 10 2 3,oX 11 (.buildSlice 26 2 #[(0,(tK 9)),(1,(tK 10))]) 26,oC 12 117 [(tK 8),(tK 11)] [22,26] 4,oA 6 12 4]) .ret)
theorem ADw:Tryz.f88.body.map (BQ lends)=some k88:=by kernel_rfl
theorem ARg:BV Tryz.f88 3=true:=by kernel_rfl
theorem c88{a l:List D}{r:D×List D}(h:BU Y.env k88 (fin Ai l.length [bt 6] r) (entry a l))(ha:a.length=3):Y.call 88 a l=some r:=
 AY (Y:=Y) rfl Tryz.func88 (ha▸ARg) ADw h
theorem VB(pL pD:Int)(pN pE:AV)(a b:Int){r:Bool}(h:Ml pL pD pN pE a b=some r):Y.call 88 [D.agg [bc .i64 pL,bc .i64 pD,bk 26 (AR Ba pN),bk 26 (AR Ba pE)],bc .i64 a,bc .i64 b] []=some (bp r,[]):=by
 refine c88 ?_ rfl;unfold k88;unfold Ml at h;obtain⟨e1,e2,e3,h⟩:=Om h;have c4:=NU pE [a,b] e1 e2 e3;simp only [JF,Um]at c4;cases h;simp (maxDischargeDepth:=9) only [↓AO,AP,↓reduceIte,bj,bh,b5,bx,c4]
def Uw(a b:Int):Option (Int):= if a<b then some a else some b
def ADx:SC:= .seq (.ops [oX 4 (.assign (iK 0)) 3]) (.seq (.seq (.ops [oM 5 0 3,oM 6 1 3,oB 7 .lss 3 (tK 5) (tK 6) 3 4]) (.cond (tK 7) (.seq (.ops [oM 8 0 3,oA 4 8 3]) .ret) .skip)) (.seq (.ops [oM 9 1 3,oA 4 9 3]) .ret))
theorem A7W:Tryz.f114.body.map (BQ lends)=some ADx:=by kernel_rfl
theorem ALQ:BV Tryz.f114 2=true:=by kernel_rfl
theorem ARh{a l:List D}{r:D×List D}(h:BU Y.env ADx (fin Ai l.length [bt 4] r) (entry a l))(ha:a.length=2):Y.call 114 a l=some r:=
 AY (Y:=Y) rfl Tryz.func114 (ha▸ALQ) A7W h
theorem fu(a b:Int){r:Int}(h:Uw a b=some r):Y.call 114 [bc .i64 a,bc .i64 b] []=some (bc .i64 r,[]):=by
 refine ARh ?_ rfl;unfold ADx;unfold Uw at h;rcases iS h with⟨e1,h⟩|⟨e1,h⟩
 ·cases h;simp (maxDischargeDepth:=9) only [↓AO,AP,↓reduceIte,bj,bh,e1]
 ·cases h;simp (maxDischargeDepth:=9) only [↓AO,AP,↓reduceIte,bj,bh,e1]
def XO(a b:Int):Option (Int):= if b<a then some a else some b
def ADy:SC:= .seq (.ops [oX 4 (.assign (iK 0)) 3]) (.seq (.seq (.ops [oM 5 0 3,oM 6 1 3,oB 7 .gtr 3 (tK 5) (tK 6) 3 4]) (.cond (tK 7) (.seq (.ops [oM 8 0 3,oA 4 8 3]) .ret) .skip)) (.seq (.ops [oM 9 1 3,oA 4 9 3]) .ret))
theorem A7X:Tryz.f123.body.map (BQ lends)=some ADy:=by kernel_rfl
theorem ALR:BV Tryz.f123 2=true:=by kernel_rfl
theorem ARi{a l:List D}{r:D×List D}(h:BU Y.env ADy (fin Ai l.length [bt 4] r) (entry a l))(ha:a.length=2):Y.call 123 a l=some r:=
 AY (Y:=Y) rfl Tryz.func123 (ha▸ALR) A7X h
theorem kL(a b:Int){r:Int}(h:XO a b=some r):Y.call 123 [bc .i64 a,bc .i64 b] []=some (bc .i64 r,[]):=by
 refine ARi ?_ rfl;unfold ADy;unfold XO at h;rcases iS h with⟨e1,h⟩|⟨e1,h⟩
 ·cases h;simp (maxDischargeDepth:=9) only [↓AO,AP,↓reduceIte,bj,bh,e1]
 ·cases h;simp (maxDischargeDepth:=9) only [↓AO,AP,↓reduceIte,bj,bh,e1]
def XP(pL pD:Int)(pN pE:AV)(a b:Int):Option (Bool):= (Uw a b).bind fun Cb=> (XO a b).bind fun fw=> ck (pE.length<1099511627776)<| ck ([Cb,fw].length<1099511627776)<| some (pE.contains [Cb,fw])
abbrev gB:List Nat:=[7,8,9,10,11,12,13,14,15,11,14,11,14,16,6,16,16]
def k94:SC:= .seq (.ops [oX 3 (.box 34 (tK 0)) 0,oX 6 BR 4]) (.seq (.draws [(⟨[7,3,3],gB,[7]⟩,oF 7 34 3 3),(⟨[8,7,3],gB,[8]⟩,oL 8 22 7 22),(⟨[9,1,1],gB,[9]⟩,oM 9 1 3),(⟨[10,2,2],gB,[10]⟩,oM 10 2 3),(⟨[11,9,10,1,2],gB,[11]⟩,oC 11 114 [(tK 9),(tK 10)] [3,3] 3),(⟨[12,1,1],gB,[12]⟩,oM 12 1 3),(⟨[13,2,2],gB,[13]⟩,oM 13 2 3),(⟨[14,12,13,1,2],gB,[14]⟩,oC 14 123 [(tK 12),(tK 13)] [3,3] 3),(⟨[15,11,14,11,14],gB,[15,11,14,11,14]⟩,oX 15 (.buildSlice 26 2 #[(0,(tK 11)),(1,(tK 14))]) 26),(⟨[16,8,15,3,15],gB,[16]⟩,oC 16 122 [(tK 8),(tK 15)] [22,26] 4),(⟨[6,16,16],gB,[6,16,16]⟩,oA 6 16 4)]) .ret)
theorem ADz:Tryz.f94.body.map (BQ lends)=some k94:=by kernel_rfl
theorem ARk:BV Tryz.f94 3=true:=by kernel_rfl
theorem c94{a l:List D}{r:D×List D}(h:BU Y.env k94 (fin Ai l.length [bt 6] r) (entry a l))(ha:a.length=3):Y.call 94 a l=some r:=
 AY (Y:=Y) rfl Tryz.func94 (ha▸ARk) ADz h
theorem kM(pL pD:Int)(pN pE:AV)(a b:Int){r:Bool}(h:XP pL pD pN pE a b=some r):Y.call 94 [D.agg [bc .i64 pL,bc .i64 pD,bk 26 (AR Ba pN),bk 26 (AR Ba pE)],bc .i64 a,bc .i64 b] []=some (bp r,[]):=by
 refine c94 ?_ rfl;unfold k94;unfold XP at h;obtain⟨Cb,hl1,h⟩:=Ag h;have c1:=fu a b hl1;obtain⟨fw,hl2,h⟩:=Ag h;have c2:=kL a b hl2;obtain⟨e3,e4,h⟩:=EC h;have c5:=zG pE [Cb,fw] e3 e4;simp only [JF,Um]at c5;cases h;simp (maxDischargeDepth:=9) only [↓AO,AP,↓reduceIte,bj,bh,b5,bx,Nat.reduceBEq,c1,c2,c5]
theorem XQ(l d:Int)(ns es:AV)(a b:Int)(h1:BK es)(h2:UD es=true):Ml l d ns es a b=some (K5 es a b):=by
 unfold Ml K5;rw [BC h1,BC (by simp),BC h2,A25]
theorem wQ(l d:Int)(ns es:AV)(a b:Int)(h1:BK es):XP l d ns es a b=some (K5 es a b):=by
 unfold XP Uw XO K5;by_cases q1:a<b
 ·rw [if_pos q1,if_neg (by omega),if_neg (by omega),C8,C8,BC h1.1,BC (by simp)]
 ·by_cases q2:b<a
  ·rw [if_neg q1,if_pos q2,if_pos q2,C8,C8,BC h1.1,BC (by simp)]
  ·have:a=b:=by omega
   subst this;rw [if_neg q1,if_neg q1,C8,C8,BC h1.1,BC (by simp)]
theorem Qo(pL pD:Int)(pN pE:AV)(a b:Int)(h0:BK pE)(h1:UD pE=true):Y.call 88 [D.agg [bc .i64 pL,bc .i64 pD,bk 26 (AR Ba pN),bk 26 (AR Ba pE)],bc .i64 a,bc .i64 b] []=some (bp (K5 pE a b),[]):=VB pL pD pN pE a b (XQ pL pD pN pE a b h0 h1)
theorem ZH(pL pD:Int)(pN pE:AV)(a b:Int)(h0:BK pE):Y.call 94 [D.agg [bc .i64 pL,bc .i64 pD,bk 26 (AR Ba pN),bk 26 (AR Ba pE)],bc .i64 a,bc .i64 b] []=some (bp (K5 pE a b),[]):=kM pL pD pN pE a b (wQ pL pD pN pE a b h0)
def C9(n:Nat)(P:Nat→Bool):Option Nat:=(ao n).find? P
theorem qN{n:Nat}{P:Nat→Bool}(h: ∀i,i<n→P i=false):C9 n P=none:=by
 unfold C9;rw [List.find?_eq_none];intro i hi;rw [h i (Eo.1 hi)];decide
theorem zR{n m:Nat}{P:Nat→Bool}(hm:m<n)(h:P m=true)(h0: ∀i,i<m→P i=false):C9 n P=some m:=by
 unfold C9;rw [List.find?_range_eq_some]
 exact⟨h,Eo.2 hm,fun j hj=>by rw [h0 j hj];rfl⟩
theorem Nc{n m:Nat}{P:Nat→Bool}(h:C9 n P=some m):m<n∧P m=true:=by
 unfold C9 at h
 exact⟨Eo.1 (List.mem_of_find?_eq_some h),List.find?_some h⟩
theorem A4w{σ ρ:Type}(f:σ→Option (σ⊕ρ))(st:Nat→σ)(n:Nat)(P:Nat→Bool)(hit:Nat→ρ)(miss:ρ)
  (h: ∀i,i<n→f (st i)=if P i=true then some (.inr (hit i))else some (.inl (st (i+1))))(e:f (st n)=some (.inr miss)):
  E9 f (st 0)=some (match C9 n P with|some i=>hit i|none=>miss):=by
 by_cases hp: ∀i,i<n→(!P i)=true
 ·have h0: ∀i,i<n→P i=false:=fun i hi=>by simpa using hp i hi
  rw [qN h0];exact CO f st n miss (fun i hi=>by rw [h i hi,h0 i hi,if_neg (by decide)]) e
 ·obtain⟨m,hm,hpm,h0⟩:=SV hp;have hpm':P m=true:=by simpa using hpm
  have h0': ∀i,i<m→P i=false:=fun i hi=>by simpa using h0 i hi
  rw [zR hm hpm' h0'];exact CO f st m (hit m) (fun i hi=>by rw [h i (by omega),h0' i hi,if_neg (by decide)]) (by rw [h m hm,if_pos hpm'])
theorem Hw{n:Nat}{P:Nat→Bool}:(C9 n P).isSome=true↔ ∃i,i<n∧P i=true:=by
 constructor
 ·intro h
  cases hq:C9 n P with
  |none=>rw [hq]at h;cases h
  |some m=>exact⟨m,Nc hq⟩
 ·rintro⟨i,hi,hp⟩
  cases hq:C9 n P with
  |some m=>rfl
  |none=>
   unfold C9 at hq;rw [List.find?_eq_none]at hq;exact absurd hp (hq i (Eo.2 hi))
theorem ZI{n m:Nat}{P:Nat→Bool}(h:C9 n P=some m): ∀i,i<m→P i=false:=by
 unfold C9 at h;rw [List.find?_range_eq_some]at h;intro i hi;simpa using h.2.2 i hi
theorem VV(n:Int)(h:0≤n∧n<18446744073709551616):bO.wrap n=n:=by
 unfold IntKind.wrap;simp only [IntKind.signed,IntKind.bits]
 simp
 omega
theorem ALS(y:Int)(h:0≤y∧y<1099511627776):GA .and .u64 y 4294967295=y % 4294967296:=by
 obtain⟨n,rfl⟩:=Int.eq_ofNat_of_zero_le h.1;have hn:n<1099511627776:=by omega
 show bO.wrap (((BitVec.ofInt 64 (n:Int) &&& BitVec.ofInt 64 4294967295).toNat:Nat):Int)=_
 have e1:(BitVec.ofInt 64 (n:Int)).toNat=n:=by
  rw [BitVec.toNat_ofInt];omega
 have e2:(BitVec.ofInt 64 4294967295).toNat=4294967295:=by decide
 rw [BitVec.toNat_and,e1,e2];have e3:n &&& 4294967295=n % 4294967296:=Nat.and_two_pow_sub_one_eq_mod n 32;rw [e3,VV _ (by omega)]
 rfl
def KF(x_ y:Int):Option (Int×Int):= some (bO.wrap ((bO.wrap ((bO.wrap ((x_.fdiv (2 ^ (min 32 (bO.bits))))*(y.fdiv (2 ^ (min 32 (bO.bits))))))+((bO.wrap ((bO.wrap ((x_.fdiv (2 ^ (min 32 (bO.bits))))*(GA .and .u64 y 4294967295)))+((bO.wrap ((GA .and .u64 x_ 4294967295)*(GA .and .u64 y 4294967295))).fdiv (2 ^ (min 32 (bO.bits)))))).fdiv (2 ^ (min 32 (bO.bits))))))+((bO.wrap ((GA .and .u64 (bO.wrap ((bO.wrap ((x_.fdiv (2 ^ (min 32 (bO.bits))))*(GA .and .u64 y 4294967295)))+((bO.wrap ((GA .and .u64 x_ 4294967295)*(GA .and .u64 y 4294967295))).fdiv (2 ^ (min 32 (bO.bits)))))) 4294967295)+(bO.wrap ((GA .and .u64 x_ 4294967295)*(y.fdiv (2 ^ (min 32 (bO.bits)))))))).fdiv (2 ^ (min 32 (bO.bits))))),bO.wrap (x_*y))
def AE0:SC:= .seq (.ops [oX 4 (.assign (.const (.int .u64 0))) 135,oX 5 (.assign (.const (.int .u64 0))) 135]) (.seq (.ops [oM 14 0 135,oB 15 .and 135 (tK 14) (.const (.int .u64 4294967295)) 135 135,oA 6 15 135]) (.seq (.ops [oM 16 0 135,oB 17 .shr 135 (tK 16) (.const (.int .u64 32)) 82 135,oA 7 17 135]) (.seq (.ops [oM 18 1 135,oB 19 .and 135 (tK 18) (.const (.int .u64 4294967295)) 135 135,oA 8 19 135]) (.seq (.ops [oM 20 1 135,oB 21 .shr 135 (tK 20) (.const (.int .u64 32)) 82 135,oA 9 21 135]) (.seq (.ops [oM 22 6 135,oM 23 8 135,oB 24 .mul 135 (tK 22) (tK 23) 135 135,oA 10 24 135]) (.seq (.ops [oM 25 7 135,oM 26 8 135,oB 27 .mul 135 (tK 25) (tK 26) 135 135,oM 28 10 135,oB 29 .shr 135 (tK 28) (.const (.int .u64 32)) 82 135,oB 30 .add 135 (tK 27) (tK 29) 135 135,oA 11 30 135]) (.seq (.ops [oM 31 11 135,oB 32 .and 135 (tK 31) (.const (.int .u64 4294967295)) 135 135,oA 12 32 135]) (.seq (.ops [oM 33 11 135,oB 34 .shr 135 (tK 33) (.const (.int .u64 32)) 82 135,oA 13 34 135]) (.seq (.ops [oM 35 12 135,oM 36 6 135,oM 37 9 135,oB 38 .mul 135 (tK 36) (tK 37) 135 135,oB 39 .add 135 (tK 35) (tK 38) 135 135,oA 12 39 135]) (.seq (.ops [oM 40 7 135,oM 41 9 135,
 oB 42 .mul 135 (tK 40) (tK 41) 135 135,oM 43 13 135,oB 44 .add 135 (tK 42) (tK 43) 135 135,oM 45 12 135,oB 46 .shr 135 (tK 45) (.const (.int .u64 32)) 82 135,oB 47 .add 135 (tK 44) (tK 46) 135 135,oA 4 47 135]) (.seq (.ops [oM 48 0 135,oM 49 1 135,oB 50 .mul 135 (tK 48) (tK 49) 135 135,oA 5 50 135]) .ret)))))))))))
theorem A7Y:Tryz.f133.body.map (BQ lends)=some AE0:=by kernel_rfl
theorem ALT:BV Tryz.f133 2=true:=by kernel_rfl
theorem ARl{a l:List D}{r:D×List D}(h:BU Y.env AE0 (fin Ai l.length [bt 4,bt 5] r) (entry a l))(ha:a.length=2):Y.call 133 a l=some r:=
 AY (Y:=Y) rfl Tryz.func133 (ha▸ALT) A7Y h
theorem Sl(x_ y:Int){r:Int×Int}(h:KF x_ y=some r):Y.call 133 [bc .u64 x_,bc .u64 y] []=some (D.tup [bc .u64 r.1,bc .u64 r.2],[]):=by
 refine ARl ?_ rfl;unfold AE0;unfold KF at h;cases h;simp (maxDischargeDepth:=9) only [↓AO,AP,↓reduceIte,bj,bh,Int.reduceLT,Int.reduceToNat]
def JL(x_ y:Int):Option (Int×Int):= (KF x_ y).bind fun zI=> some (zI.1,zI.2)
def AE1:SC:= .seq (.ops [oX 4 (.assign (.const (.int .u64 0))) 82,oX 5 (.assign (.const (.int .u64 0))) 82]) (.seq (.cond Lm (.seq (.ops [oM 11 0 82,oX 12 (.convert 82 132 (tK 11)) 132,oM 13 1 82,oX 14 (.convert 82 132 (tK 13)) 132,oC 15 132 [(tK 12),(tK 14)] [132,132] 133,oM 10 15 133,oE 16 10 0 132,oE 17 10 1 132,oA 6 16 132,oA 7 17 132]) (.seq (.ops [oM 18 6 132,oX 19 (.convert 132 82 (tK 18)) 82,oM 20 7 132,oX 21 (.convert 132 82 (tK 20)) 82,oA 4 19 82,oA 5 21 82]) .ret)) .skip) (.seq (.ops [oM 23 0 82,oM 24 1 82,oC 25 133 [(tK 23),(tK 24)] [135,135] 136,oM 22 25 136,oE 26 22 0 135,oE 27 22 1 135,oA 8 26 135,oA 9 27 135]) (.seq (.ops [oM 28 8 135,oM 29 9 135,oA 4 28 82,oA 5 29 82]) .ret)))
theorem A7Z:Tryz.f112.body.map (BQ lends)=some AE1:=by kernel_rfl
theorem ALU:BV Tryz.f112 2=true:=by kernel_rfl
theorem ARm{a l:List D}{r:D×List D}(h:BU Y.env AE1 (fin Ai l.length [bt 4,bt 5] r) (entry a l))(ha:a.length=2):Y.call 112 a l=some r:=
 AY (Y:=Y) rfl Tryz.func112 (ha▸ALU) A7Z h
theorem UI(x_ y:Int){r:Int×Int}(h:JL x_ y=some r):Y.call 112 [bc .u64 x_,bc .u64 y] []=some (D.tup [bc .u64 r.1,bc .u64 r.2],[]):=by
 refine ARm ?_ rfl;unfold AE1;unfold JL at h;obtain⟨zI,hl1,h⟩:=Ag h;try dsimp only at h
 have c1:=Sl x_ y hl1;cases h;simp (maxDischargeDepth:=9) only [↓AO,AP,↓reduceIte,bj,bh,bx,c1]
theorem mul_one(n:Int)(h:0≤n∧n<1099511627776):JL 1 n=some (0,n):=by
 unfold JL KF;have e32:(2:Int) ^ (min 32 (bO.bits))=4294967296:=rfl;have a1:Int.fdiv 1 4294967296=0:=by decide
 have a2:GA .and .u64 1 4294967295=1:=by decide
 have a3:Int.fdiv n 4294967296=n / 4294967296:=A2i _ (by decide)
 have w0:bO.wrap 0=0:=by decide
 have a4:Int.fdiv 0 4294967296=0:=by decide
 have a5:GA .and .u64 0 4294967295=0:=by decide
 have a6:bO.wrap (n % 4294967296)=n % 4294967296:=VV _ (by omega)
 have a7:Int.fdiv (n % 4294967296) 4294967296=0:=by rw [A2i _ (by decide)];omega
 have a8:bO.wrap (n / 4294967296)=n / 4294967296:=VV _ (by omega)
 have a9:Int.fdiv (n / 4294967296) 4294967296=0:=by rw [A2i _ (by decide)];omega
 have aA:bO.wrap n=n:=VV _ (by omega)
 simp only [e32,a1,a2,ALS n h,a3,Int.zero_mul,Int.one_mul,w0,C8,Int.zero_add,a4,a5,a6,a7,a8,a9,aA]
def OP(newslice:AU)(n_:Int):Option ((AU×Int)⊕(AU)):= if n_<(newslice.length:Int)then ck (0≤n_)<| ck (n_.toNat≤newslice.length)<| ck (n_.toNat+(newslice.length-n_.toNat)≤newslice.length)<| ck (0+(n_.toNat-0)≤newslice.length)<| some (bo ((spl newslice n_.toNat (((newslice.drop 0).take (n_.toNat-0)).take (min (newslice.length-n_.toNat) ((newslice.drop 0).take (n_.toNat-0)).length))),bm.wrap (n_+(((min (newslice.length-n_.toNat) ((newslice.drop 0).take (n_.toNat-0)).length):Nat):Int)))) else some (bl newslice)
def gD(v:AU×Int):Option (AU):=E9 (fun v=>OP v.1 v.2) v
def gRp(x_:AU)(count:Int):Option (AU):= if count<0 then none else (JL (bO.wrap (x_.length:Int)) (bO.wrap count)).bind fun Q5=> if 0<Q5.1 then none else if 9223372036854775807<Q5.2 then none else ck (0≤bm.wrap Q5.2∧bm.wrap Q5.2<1099511627776)<| (gD ((spl (ap (bm.wrap Q5.2).toNat 0) 0 (x_.take (min ((ap (bm.wrap Q5.2).toNat 0).length) x_.length))),(((min ((ap (bm.wrap Q5.2).toNat 0).length) x_.length):Nat):Int))).bind fun AX=> some AX
abbrev kN:List Nat:=[38,39,40,41,42,43,44,45,41,44,7,7,46,8,46]
def qO:SC:= .seq (.seq (.ops [oM 34 8 3,oM 35 7 26,oN 36 35 26,oB 37 .lss 3 (tK 34) (tK 36) 3 4]) (.cond (tK 37) .skip (.exit 0))) (.block 1 (.draws [(⟨[38,8,8],kN,[38]⟩,oM 38 8 3),(⟨[39,7,7],kN,[39]⟩,oM 39 7 26),(⟨[40,8,8],kN,[40]⟩,oM 40 8 3),(⟨[41,39,40,7,8],kN,[41]⟩,oX 41 (.slice 26 (tK 39) (some (tK 40)) none none) 26),(⟨[42,7,7],kN,[42]⟩,oM 42 7 26),(⟨[43,8,8],kN,[43]⟩,oM 43 8 3),(⟨[44,42,43,7,8],kN,[44]⟩,oX 44 (.slice 26 (tK 42) none (some (tK 43)) none) 26),(⟨[45,41,44,7,7],kN,[45,41,44,7,7]⟩,oX 45 (.call ⟨(.builtin .copy), #[(tK 41),(tK 44)], #[26,26]⟩) 3),(⟨[46,38,45,8,45],kN,[46]⟩,oB 46 .add 3 (tK 38) (tK 45) 3 3),(⟨[8,46,46],kN,[8,46]⟩,oA 8 46 3)]))
def A4x:SC:= .loop qO
def k81:SC:= .seq (.ops [oX 4 Gt 26]) (.seq (.seq (.ops [oM 9 1 3,oB 10 .lss 3 (tK 9) (iK 0) 3 4]) (.cond (tK 10) (.ops [oX 11 (.makeInterface 9 (.const (.string {data:= #[99,97,110,110,111,116,32,98,101,32,110,101,103,97,116,105,118,101]}))) 20,⟨none,.panic (tK 11),0,none⟩]) .skip)) (.seq (.ops [oM 13 0 26,oN 14 13 26,oX 15 (.convert 3 82 (tK 14)) 82,oM 16 1 3,oX 17 (.convert 3 82 (tK 16)) 82,oC 18 112 [(tK 15),(tK 17)] [82,82] 119,oM 12 18 119,oE 19 12 0 82,oE 20 12 1 82,oA 5 19 82,oA 6 20 82]) (.seq (.seq (.ops [oM 21 5 82,oB 22 .gtr 82 (tK 21) (.const (.int .u64 0)) 82 4,oM 23 22 4,⟨some 24,.move (tK 6),82,(some (some 23,false))⟩,⟨some 25,.binOp .gtr 82 (tK 24) (.const (.int .u64 9223372036854775807)) 82,4,(some (some 23,false))⟩,oX 26 (.pick (tK 23) Ck (tK 25)) 4]) (.cond (tK 26) (.ops [oX 27 (.makeInterface 9 (.const (.string {data:= #[116,104,101,32,114,101,115,117,108,116,32,111,102,32,40,108,101,110,40,120,41,32,42,32,99,111,117,110,116,41,32,111,118,101,114,102,108,111,119,115]}))) 20,⟨none,.panic (tK 27),0,none⟩]) .skip)) (.seq (.ops [oM 28 6 82,oX 29 (.convert 82 3 (tK 28)) 3,oX 30 (.makeSlice 26 (tK 29) (tK 29)) 900012,oA 7 30 26]) (.seq (.ops [
 oM 31 7 26,oM 32 0 26,oX 33 (.call ⟨(.builtin .copy), #[(tK 31),(tK 32)], #[26,26]⟩) 3,oA 8 33 3]) (.seq (.block 0 A4x) (.seq (.ops [oM 47 7 26,oA 4 47 26]) .ret)))))))
theorem AE2:Tryz.f81.body.map (BQ lends)=some k81:=by kernel_rfl
theorem ARo:BV Tryz.f81 2=true:=by kernel_rfl
theorem c81{a l:List D}{r:D×List D}(h:BU Y.env k81 (fin Ai l.length [bt 4] r) (entry a l))(ha:a.length=2):Y.call 81 a l=some r:=
 AY (Y:=Y) rfl Tryz.func81 (ha▸ARo) AE2 h
def Rk(newslice:AU)(n_:Int)(s:St):Prop:=s.v 7=D.own 3 (AR (bc .i64) newslice)∧s.v 8=bc .i64 n_
def XR(r:AU)(ex:Ex)(s:St):Prop:=ex= .exit 0∧s.v 7=D.own 3 (AR (bc .i64) r)
theorem A2C{v:AU×Int}{s:St}{r:AU}(h:gD v=some r)(hM:Rk v.1 v.2 s):BU Y.env A4x (XR r) s:=by
 unfold gD at h;refine Aw (c:=qO) (fun v=>OP v.1 v.2) (fun v s=>Rk v.1 v.2 s) (XR) ?_ h hM;clear h hM s v r;intro v s o hM h;obtain⟨newslice,n_⟩:=v;dsimp only at h hM;unfold OP at h;unfold Rk at hM;obtain⟨m0,m1⟩:=hM;unfold qO;rcases iS h with⟨e6,h⟩|⟨e6,h⟩
 ·obtain⟨e7,e8,e9,e10,h⟩:=vR h;cases h;simp (maxDischargeDepth:=9) only [↓AO,AP,↓reduceIte,bj,bh,Nat.reduceBEq,m0,m1,e6,e7,e8,e9,e10,Rk,D6]
 ·cases h;simp (maxDischargeDepth:=9) only [↓AO,AP,↓reduceIte,bj,bh,m0,m1,e6,Rk,XR,GH]
theorem XT(x_:AU)(count:Int){r:AU}(h:gRp x_ count=some r):Y.call 81 [bk 3 (AR (bc .i64) x_),bc .i64 count] []=some (D.own 3 (AR (bc .i64) r),[]):=by
 refine c81 ?_ rfl;unfold k81;unfold gRp at h;rcases iS h with⟨e1,h⟩|⟨e1,h⟩
 ·cases h
 ·obtain⟨Q5,hl2,h⟩:=Ag h;have c2:=UI (bO.wrap (x_.length:Int)) (bO.wrap count) hl2;rcases iS h with⟨e3,h⟩|⟨e3,h⟩
  ·cases h
  ·rcases iS h with⟨e4,h⟩|⟨e4,h⟩
   ·cases h
   ·obtain⟨e5,h⟩:=De h;obtain⟨AX,hl7,h⟩:=Ag h;try dsimp only at h
    simp (maxDischargeDepth:=9) only [↓AO,AP,↓reduceIte,bj,bh,b5,bx,e1,c2,e3,e4,e5.1,e5.2];refine Ak (A2C hl7 ?_) ?_
    ·simp (maxDischargeDepth:=9) only [BL,↓reduceIte,bj,Rk]<;>(repeat' apply A7)<;>first|rfl|exact⟨_,rfl⟩|exact⟨_,_,rfl⟩|simp [AR]
    ·intro ex7 s7 hX7;unfold XR at hX7;obtain⟨rfl,n7_0⟩:=hX7;cases h;simp (maxDischargeDepth:=9) only [↓AO,AP,↓reduceIte,bj,bh,n7_0]
theorem mG(x:Int)(N:Nat)(hN:N<1099511627776)(l:AU)(k:Nat)(hl:l.length=N)(hk:k≤N)(h1:0<k∨N=0)(he:l.take k=ap k x):gD (l,(k:Int))=some (ap N x):=by
 have step: ∀(m:Nat) (v:AU×Int),(∃k:Nat,v.2=(k:Int)∧m=N-k∧v.1.length=N∧k≤N∧(0<k∨N=0)∧v.1.take k=ap k x)→
   (∃s' m',OP v.1 v.2=some (.inl s')∧m'<m∧ ∃k:Nat,s'.2=(k:Int)∧m'=N-k∧s'.1.length=N∧k≤N∧(0<k∨N=0)∧s'.1.take k=ap k x)∨(∃r,OP v.1 v.2=some (.inr r)∧r=ap N x):=by
  rintro m ⟨l,kk⟩ ⟨k,hkk,rfl,hl,hk,h1,he⟩
  simp only at hl he hkk;subst hkk;by_cases hlt:k<N
  ·left
   have hk0:0<k:=by omega
   have e0:((l.drop 0).take (k-0))=ap k x:=by rw [WK,Nat.sub_zero,he]
   refine⟨_,N-(k+min (N-k) k),by
    simp only [OP]
    rw [hl,if_pos (by omega),BC (by omega),Cg,BC (by omega),BC (by omega),BC (by omega),e0,Qy],by omega,k+min (N-k) k, ?_,rfl, ?_,by omega,by omega, ?_⟩
   ·rw [Ib _ (by omega)];omega
   ·simp only;rw [yg _ _ _ (by simp;omega)];simp;omega
   ·simp only;rw [yg _ _ _ (by simp;omega),List.take_replicate,he,Qy,←NV,show min (min (N-k) k) k=min (N-k) k by omega,List.replicate_append_replicate,List.take_append_of_le_length (by simp),List.take_of_length_le (by simp)]
  ·right
   have hkN:k=N:=by omega
   subst hkN
   refine⟨l, ?_, ?_⟩
   ·simp only [OP];rw [if_neg (by omega)]
   ·rw [←he,List.take_of_length_le (by omega)]
 obtain⟨r,h2,h3⟩:=QY (fun v=>OP v.1 v.2) (fun m v=> ∃k:Nat,v.2=(k:Int)∧m=N-k∧v.1.length=N∧k≤N∧(0<k∨N=0)∧v.1.take k=ap k x) (fun r=>r=ap N x) step (N-k) (l,(k:Int)) ⟨k,rfl,rfl,hl,hk,h1,he⟩;unfold gD;rw [h2,h3]
theorem XU(x:Int)(n:Int)(h:0≤n∧n<1099511627776):gRp [x] n=some (ap n.toNat x):=by
 unfold gRp;have e1:bO.wrap (([x]:AU).length:Int)=1:=by rw [VV _ (by simp)];rfl
 rw [if_neg (by omega),e1,VV n (by omega),mul_one n h,C8]
 simp only;rw [if_neg (by decide),if_neg (by omega),Ib n (by omega),BC (by omega),Qy]
 rcases Nat.eq_zero_or_pos n.toNat with h0|h0
 ·rw [h0];rw [show min 0 ([x]:AU).length=0 by simp]
  have:=mG x 0 (by decide) [] 0 rfl (Ch _) (.inr rfl) rfl
  simp only [List.replicate_zero,bD,spl,Et]at this ⊢;rw [this];rfl
 ·have e2:min n.toNat ([x]:AU).length=1:=by simp;omega
  rw [e2]
  have e3:spl (ap n.toNat 0) 0 ([x].take 1)=x::ap (n.toNat-1) 0:=by
   rw [yg _ _ _ (by simp;omega)];simp
  rw [e3,mG x n.toNat (by omega) _ 1 (by simp;omega) (by omega) (.inl (by omega)) (by simp)]
  rfl
end Go.Proofs.YtiehjihckndgkaaGreat
end
