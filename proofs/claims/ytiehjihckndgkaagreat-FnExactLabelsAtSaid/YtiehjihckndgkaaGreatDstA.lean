/- Functions of the program as plain functions, and what they compute. Conditions: those in each lemma. -/
import Derived.Test.YtiehjihckndgkaaGreatL6
import Derived.Test.YtiehjihckndgkaaGreatNet
import Derived.Test.YtiehjihckndgkaaGreatDt
open Dv.D renaming int → bc,sl → bk,own → br,box → b7,cptr → b8,bool → bp,agg → bw
open Inhabited renaming default → be
open Nat renaming reduceEqDiff → bj,reduceLT → bh,reduceAdd → bx,reduceLeDiff → b5,reduceBEq → b9,reduceSub → cb
open Go.IntKind renaming i64 → bm,u64 → bO
open Sum renaming inl → bo,inr → bl
open Go.ResultVar renaming tmp → bt
open List renaming replicate → ap,range → ao
noncomputable section
namespace Go.Proofs.YtiehjihckndgkaaGreat
open Go Dv
set_option linter.unusedSimpArgs false
set_option linter.unusedVariables false
set_option maxRecDepth 100000
set_option maxHeartbeats 4000000
def EQ(list:AO)(low high Ah:Int):Option ((Int)⊕(Unit⊕Unit)):= if Ah<(list.length:Int)then ck (0≤Ah∧Ah.toNat<list.length)<| if(Jz (list.getD Ah.toNat be) low high)=true then if 0<Ah then ck (0≤bm.wrap (Ah-1)∧(bm.wrap (Ah-1)).toNat<list.length)<| if(list.getD Ah.toNat be)≤(list.getD ((bm.wrap (Ah-1)).toNat) be)then some (bl (bo ())) else some (bo (bm.wrap (Ah+1))) else some (bo (bm.wrap (Ah+1))) else some (bl (bo ())) else some (bl (bl ()))
def Lj(list:AO)(low high v:Int):Option (Unit⊕Unit):=Dq (fun v=>EQ list low high v) v
def Og(list:AO)(low high:Int):Option (Bool):=
 (Lj list low high 0).bind fun AU=>
 match AU with
 | .inl q1000_=>
  some false
 | .inr q1000_=>
  some true
def fe:SC:= .seq (.ops [oB 12 .lss 3 (tK 11) (tK 10) 3 0]) (.seq (.cond (tK 12) .skip (.exit 0)) (.seq (.block 1 (.seq (.ops [oM 13 11 3,oI 14 26 9 11,oL 15 3 14 3,oA 7 13 3,oA 8 15 3]) (.seq (.ops [oM 16 8 3,oM 17 1 3,oM 18 2 3,oC 19 64 [(tK 16),(tK 17),(tK 18)] [3,3,3] 4,oX 20 (.unOp .not 4 (tK 19)) 4,oM 21 20 4,⟨some 22,.move (tK 7),3,(some (some 21,false))⟩,⟨some 23,.binOp .gtr 3 (tK 22) (iK 0) 3,4,(some (some 21,false))⟩,⟨some 24,.move (tK 23),4,(some (some 21,false))⟩,⟨some 25,.move (tK 0),26,(some (some 24,true))⟩,⟨some 26,.move (tK 7),3,(some (some 24,true))⟩,⟨some 27,.binOp .sub 3 (tK 26) (iK 1) 3,3,(some (some 24,true))⟩,⟨some 28,.indexAddr 26 (tK 25) (tK 27),0,(some (some 24,true))⟩,⟨some 29,.load 3 (tK 28),3,(some (some 24,true))⟩,⟨some 30,.move (tK 8),3,(some (some 24,true))⟩,⟨some 31,.binOp .geq 3 (tK 29) (tK 30) 3,4,(some (some 24,true))⟩,⟨some 32,.pick (tK 24) (tK 31) LK,4,(some (some 21,false))⟩,oX 33 (.pick (tK 21) Cy (tK 32)) 4]) (.cond (tK 33) (.seq (.ops [oX 6 Ba 4]) .ret) .skip)))) (.ops [oB 34 .add 3 (tK 11) (iK 1) 3 3,oM 11 34 3])))
def A0h:SC:= .loop fe
def AEE:SC:= .seq (.ops [oX 6 Ba 4]) (.seq (.seq (.ops [oM 9 0 26,oN 10 9 26,oX 11 (.move (iK 0)) 3]) (.block 0 A0h)) (.seq (.ops [oX 6 (.assign Cy) 4]) .ret))
theorem A7o:Tryz.f101.body.map (BP lends)=some AEE:=by kernel_rfl
theorem ALx:BR Tryz.f101 3=true:=by kernel_rfl
theorem AS2{a l:List D}{r:D×List D}(h:BS Y.env AEE (fin Aj l.length [bt 6] r) (entry a l))(ha:a.length=3):Y.call 101 a l=some r:=
 AY (Y:=Y) rfl Tryz.func101 (ha▸ALx) A7o h
def Ce(list:AO)(low high Ah:Int)(s:St):Prop:=s.v 0=bk 3 (AQ (bc .i64) list)∧s.v 1=bc .i64 low∧s.v 2=bc .i64 high∧s.v 9=bk 3 (AQ (bc .i64) list)∧s.v 10=bc .i64 (list.length:Int)∧s.v 11=bc .i64 Ah
def Da(list:AO)(low high:Int)(r:Unit⊕Unit)(ex:Ex)(s:St):Prop:=match r with
 | .inl q=>ex= .ret∧s.v 6=bp false
 | .inr q=>ex= .exit 0
theorem Vl(list:AO)(low high:Int){v:Int}{s:St}{r:Unit⊕Unit}(h:Lj list low high v=some r)(hM:Ce list low high v s):BS Y.env A0h (Da list low high r) s:=by
 unfold Lj at h;refine Aw (c:=fe) (fun v=>EQ list low high v) (fun v s=>Ce list low high v s) (Da list low high) ?_ h hM;clear h hM s v r;intro Ah s o hM h;unfold EQ at h;unfold Ce at hM;obtain⟨m0,m1,m2,m3,m4,m5⟩:=hM;unfold fe;rcases iS h with⟨e1,h⟩|⟨e1,h⟩
 ·obtain⟨e2,h⟩:=Cu h;have c3:=KA (list.getD Ah.toNat be) low high;rcases iS h with⟨e4,h⟩|⟨e4,h⟩
  ·rcases iS h with⟨e5,h⟩|⟨e5,h⟩
   ·obtain⟨e6,h⟩:=Cu h;rcases iS h with⟨e7,h⟩|⟨e7,h⟩
    ·cases h;simp only [↓AJ,AL,↓reduceIte,bj,bh,m0,m1,m2,m3,m4,m5,e1,e2.1,e2.2,c3,e4,e5,e6.1,e6.2,e7,Ce,Da,QC]
    ·cases h;simp only [↓AJ,AL,↓reduceIte,bj,bh,m0,m1,m2,m3,m4,m5,e1,e2.1,e2.2,c3,e4,e5,e6.1,e6.2,e7,Ce,Cx]
   ·cases h;simp only [↓AJ,AL,↓reduceIte,bj,bh,m0,m1,m2,m3,m4,m5,e1,e2.1,e2.2,c3,e4,e5,Ce,Cx]
  ·have e4f:(Jz (list.getD Ah.toNat be) low high)=false:=G8.mpr e4;cases h;simp only [↓AJ,AL,↓reduceIte,bj,bh,m1,m2,m3,m4,m5,e1,e2.1,e2.2,c3,e4f,Ce,Da,QC]
 ·cases h;simp only [↓AJ,AL,↓reduceIte,bh,m4,m5,e1,Ce,Da,Gf]
theorem XC(list:AO)(low high:Int){r:Bool}(h:Og list low high=some r):Y.call 101 [bk 3 (AQ (bc .i64) list),bc .i64 low,bc .i64 high] []=some (bp r,[]):=by
 refine AS2 ?_ rfl;unfold AEE;unfold Og at h;obtain⟨AU,hl2,h⟩:=Ag h;try dsimp only at h
 simp only [↓AJ,AL,↓reduceIte,bj,bh];refine Al (Vl list low high hl2 ?_) ?_
 ·simp only [BK,Cg,↓reduceIte,bj,bh,Ce]
 ·intro ex2 s2 hX2;rcases AU with q1000_|q1000_
  ·unfold Da at hX2;dsimp only at hX2 h;obtain⟨rfl,n2_0⟩:=hX2;cases h;simp only [↓AJ,AL,↓reduceIte,n2_0]
  ·unfold Da at hX2;dsimp only at hX2 h
   obtain rfl:=hX2
   cases h;simp only [↓AJ,AL,↓reduceIte,bj,bh]
def fq(l:AO)(lo hi:Int):Bool:=(ao l.length).all fun i=>Jz (l.getD i be) lo hi&&(decide (i=0)||decide (l.getD (i-1) be<l.getD i be))
theorem aD(l:AO)(lo hi:Int)(h:l.length<1099511627776):Og l lo hi=some (fq l lo hi):=by
 have key:=E9 (fun v=>EQ l lo hi v) (fun i=>(i:Int)) l.length (fun i=>Jz (l.getD i be) lo hi&&(decide (i=0)||decide (l.getD (i-1) be<l.getD i be))) (.inl ()) (.inr ()) ?_ ?_
 ·rw [EW]at key;unfold Og Lj fq;rw [key]
  cases (ao l.length).all fun i=>Jz (l.getD i be) lo hi&&(decide (i=0)||decide (l.getD (i-1) be<l.getD i be))<;>rfl
 ·intro i hi';simp only [EQ,Cq];rw [if_pos (BU hi'),BC (by omega),Gc i (by omega)]
  cases hr:Jz (l.getD i be) lo hi with
  |false=>simp
  |true=>
   by_cases h0:i=0
   ·subst h0;rw [if_pos rfl,if_neg (by omega)]
    simp
   ·rw [if_pos rfl,if_pos (by omega),GG _ (by omega),BC (by omega),show((i:Int)-1).toNat=i-1 by omega,decide_eq_false h0]
    by_cases hlt:l.getD (i-1) be<l.getD i be
    ·rw [if_neg (by omega),decide_eq_true hlt];rfl
    ·rw [if_pos (by omega),decide_eq_false hlt];rfl
 ·simp only [EQ];rw [if_neg (Am _)]
theorem aF(list:AO)(low high:Int)(h0:list.length<1099511627776):Y.call 101 [bk 3 (AQ (bc .i64) list),bc .i64 low,bc .i64 high] []=some (bp (fq list low high),[]):=XC list low high (aD list low high h0)
theorem za{l:AO}{lo hi:Int}(h:fq l lo hi=true):l.Pairwise (fun a b=>a<b)∧ ∀x∈l,Jz x lo hi=true:=by
 have h0:=Ch.1 h
 have step: ∀i,i+1<l.length→l.getD i be<l.getD (i+1) be:=fun i hi=>by
  have:=h0 (i+1) hi
  rw [El]at this;simpa using this.2
 have far: ∀(d i:Nat),i+d+1<l.length→l.getD i be<l.getD (i+d+1) be:=by
  intro d
  induction d with
  |zero=>intro i hi;exact step i hi
  |succ d ih=>
   intro i hi;have h1:=ih i (by omega)
   have h2:=step (i+d+1) (by omega)
   rw [show i+(d+1)+1=i+d+1+1 by omega]
   omega
 refine⟨A1I.2 fun i j hi hj hij=> ?_,fun x hx=> ?_⟩
 ·have:=far (j-i-1) i (by omega)
  rw [show i+(j-i-1)+1=j by omega,Ac _ _ hi,Ac _ _ hj]at this
  exact this
 ·obtain⟨i,hi,rfl⟩:=V4 hx;have:=h0 i hi
  rw [El,Ac _ _ hi]at this;exact this.1
theorem A58{l:AO}{lo hi:Int}(h1:l.Pairwise (fun a b=>a<b))(h2: ∀x∈l,Jz x lo hi=true):fq l lo hi=true:=by
 refine Ch.2 fun i hi=> ?_;rw [El]
 refine⟨by rw [Ac _ _ hi];exact h2 _ (NA hi), ?_⟩
 by_cases h0:i=0
 ·rw [decide_eq_true h0];rfl
 ·have:=A1I.1 h1 (i-1) i (by omega) hi (by omega)
  rw [TW]
  right
  rw [decide_eq_true_eq,Ac _ _ hi,Ac _ _ (by omega:i-1<l.length)]
  exact this
def YU(ids:AO)(n:Int):Bool:=decide (ids.length=0)||(decide ((ids.length:Int)=n)&&(decide ids.Nodup&&FO ids 1 999999))
theorem zb(ids:AO)(lo hi:Int):fq (Hm ids) lo hi=(decide ids.Nodup&&FO ids lo hi):=by
 rw [V7,El,decide_eq_true_eq];have hp:=M8 ids;unfold FO;rw [Jv]
 constructor
 ·intro h;obtain⟨h1,h2⟩:=za h
  refine⟨hp.nodup_iff.1 (h1.imp fun h=>by omega),fun x hx=>h2 x (hp.mem_iff.2 hx)⟩
 ·rintro⟨h1,h2⟩
  refine A58 ?_ fun x hx=>h2 x (hp.mem_iff.1 hx);have hn:(Hm ids).Pairwise (fun a b=>a≠b):=hp.nodup_iff.2 h1
  exact((SY ids).and hn).imp fun h=>by omega
theorem KF(xs:AO)(h:xs.length<1099511627776):Y.call 99 [.sl 3 (AQ (bc .i64) xs)] []=some (.own 3 (AQ (bc .i64) xs),[]):=by
 refine A4Z (AQ (bc .i64) xs) (by rw [dY];exact h) (mJ _ _ (fun x=>rfl)) (dZ _ _ (fun x=>by first|exact hoI .. |exact AHB .. |exact hoB .. |exact hoS ..)) ?_
 simp only [BK,AIT,Cg]
def bA(ids:AO)(nodes:Int):Option (Bool):= if(ids.length:Int)=0 then some true else ck (ids.length<1099511627776)<| ck (ids.length<4611686018427387904)<| if(ids.length:Int)=nodes then ck ((LH ids).length<1099511627776)<| some (fq (LH ids) (1:Int) (999999:Int)) else some false
def k66:SC:= .seq (.ops [oX 4 Ba 4]) (.seq (.seq (.ops [oM 6 0 26,oN 7 6 26,oB 8 .eql 3 (tK 7) (iK 0) 3 4]) (.cond (tK 8) (.seq (.ops [oX 4 (.assign Cy) 4]) .ret) .skip)) (.seq (.ops [oM 9 0 26,oC 10 99 [(tK 9)] [26] 26,oA 5 10 26]) (.seq (.ops [oM 11 5 26,oC 12 100 [(tK 11)] [26] 0]) (.seq (.ops [oM 13 0 26,oN 14 13 26,oM 15 1 3,oB 16 .eql 3 (tK 14) (tK 15) 3 4,oM 17 16 4,⟨some 18,.move (tK 5),26,(some (some 17,true))⟩,⟨some 19,.call ⟨(.value (.func 101)), #[(tK 18),(iK 1),(iK 999999)], #[26,3,3]⟩,4,(some (some 17,true))⟩,oX 20 (.pick (tK 17) (tK 19) LK) 4,oA 4 20 4]) .ret))))
theorem AEF:Tryz.f66.body.map (BP lends)=some k66:=by kernel_rfl
theorem AS4:BR Tryz.f66 2=true:=by kernel_rfl
theorem c66{a l:List D}{r:D×List D}(h:BS Y.env k66 (fin Aj l.length [bt 4] r) (entry a l))(ha:a.length=2):Y.call 66 a l=some r:=
 AY (Y:=Y) rfl Tryz.func66 (ha▸AS4) AEF h
theorem qX(ids:AO)(nodes:Int){r:Bool}(h:bA ids nodes=some r):Y.call 66 [bk 3 (AQ (bc .i64) ids),bc .i64 nodes] []=some (bp r,[]):=by
 refine c66 ?_ rfl;unfold k66;unfold bA at h;rcases iS h with⟨e1,h⟩|⟨e1,h⟩
 ·cases h;simp only [↓AJ,AL,↓reduceIte,bj,bh,decide_eq_true e1]
 ·obtain⟨e2,h⟩:=Cu h;have c3:=KF ids e2;obtain⟨e4,h⟩:=Cu h;have c5:=A4Y ids e4;rcases iS h with⟨e6,h⟩|⟨e6,h⟩
  ·obtain⟨e7,h⟩:=Cu h;have c8:=aF (LH ids) (1:Int) (999999:Int) e7;cases h;simp only [↓AJ,AL,↓reduceIte,bj,bh,e1,c3,c5,decide_eq_true e6,c8]
  ·cases h;simp only [↓AJ,AL,↓reduceIte,bj,bh,e1,c3,c5,e6]
def Kg(ids:AO)(nodes GM:Int):Option ((Int)⊕(Unit⊕Unit)):= if GM<(ids.length:Int)then ck (0≤GM∧GM.toNat<ids.length)<| if(Jz (ids.getD GM.toNat be) (1:Int) (999999:Int))=true then ck (0≤GM)<| ck (GM.toNat≤ids.length)<| ck (((ids.take GM.toNat).drop 0).length<1099511627776)<| if(((ids.take GM.toNat).drop 0).contains (ids.getD GM.toNat be))=true then some (bl (bo ())) else some (bo (bm.wrap (GM+1))) else some (bl (bo ())) else some (bl (bl ()))
def Sc(ids:AO)(nodes v:Int):Option (Unit⊕Unit):=Dq (fun v=>Kg ids nodes v) v
def bB(ids:AO)(nodes:Int):Option (Bool):=
 (Sc ids nodes 0).bind fun AU=>
 match AU with
 | .inl q1000_=>
  some false
 | .inr q1000_=>
  if(ids.length:Int)=0 then
   some true
  else
   some (decide ((ids.length:Int)=nodes))
def qY:SC:= .seq (.ops [oB 10 .lss 3 (tK 9) (tK 8) 3 0]) (.seq (.cond (tK 10) .skip (.exit 0)) (.seq (.block 1 (.seq (.ops [oM 11 9 3,oI 12 26 7 9,oL 13 3 12 3,oA 5 11 3,oA 6 13 3]) (.seq (.ops [oM 14 6 3,oC 15 82 [(tK 14),(iK 1),(iK 999999)] [3,3,3] 4,oX 16 (.unOp .not 4 (tK 15)) 4,oM 17 16 4,⟨some 18,.move (tK 0),26,(some (some 17,false))⟩,⟨some 19,.move (tK 5),3,(some (some 17,false))⟩,⟨some 20,.slice 26 (tK 18) none (some (tK 19)) none,900001,(some (some 17,false))⟩,⟨some 21,.move (tK 6),3,(some (some 17,false))⟩,⟨some 22,.call ⟨(.value (.func 36)), #[(tK 20),(tK 21)], #[26,3]⟩,4,(some (some 17,false))⟩,oX 23 (.pick (tK 17) Cy (tK 22)) 4]) (.cond (tK 23) (.seq (.ops [oX 4 Ba 4]) .ret) .skip)))) (.ops [oB 24 .add 3 (tK 9) (iK 1) 3 3,oM 9 24 3])))
def A59:SC:= .loop qY
def k91:SC:= .seq (.ops [oX 4 Ba 4]) (.seq (.seq (.ops [oM 7 0 26,oN 8 7 26,oX 9 (.move (iK 0)) 3]) (.block 0 A59)) (.seq (.ops [oM 25 0 26,oN 26 25 26,oB 27 .eql 3 (tK 26) (iK 0) 3 4,oM 28 27 4,⟨some 29,.move (tK 0),26,(some (some 28,false))⟩,⟨some 30,.call ⟨(.builtin .len), #[(tK 29)], #[26]⟩,3,(some (some 28,false))⟩,⟨some 31,.move (tK 1),3,(some (some 28,false))⟩,⟨some 32,.binOp .eql 3 (tK 30) (tK 31) 3,4,(some (some 28,false))⟩,oX 33 (.pick (tK 28) Cy (tK 32)) 4,oA 4 33 4]) .ret))
theorem AEG:Tryz.f91.body.map (BP lends)=some k91:=by kernel_rfl
theorem AS6:BR Tryz.f91 2=true:=by kernel_rfl
theorem c91{a l:List D}{r:D×List D}(h:BS Y.env k91 (fin Aj l.length [bt 4] r) (entry a l))(ha:a.length=2):Y.call 91 a l=some r:=
 AY (Y:=Y) rfl Tryz.func91 (ha▸AS6) AEG h
def GN(ids:AO)(nodes GM:Int)(s:St):Prop:=s.v 0=bk 3 (AQ (bc .i64) ids)∧s.v 1=bc .i64 nodes∧s.v 7=bk 3 (AQ (bc .i64) ids)∧s.v 8=bc .i64 (ids.length:Int)∧s.v 9=bc .i64 GM
def Ig(ids:AO)(nodes:Int)(r:Unit⊕Unit)(ex:Ex)(s:St):Prop:=match r with
 | .inl q=>ex= .ret∧s.v 4=bp false
 | .inr q=>ex= .exit 0∧s.v 0=bk 3 (AQ (bc .i64) ids)∧s.v 1=bc .i64 nodes
theorem kQ(ids:AO)(nodes:Int){v:Int}{s:St}{r:Unit⊕Unit}(h:Sc ids nodes v=some r)(hM:GN ids nodes v s):BS Y.env A59 (Ig ids nodes r) s:=by
 unfold Sc at h;refine Aw (c:=qY) (fun v=>Kg ids nodes v) (fun v s=>GN ids nodes v s) (Ig ids nodes) ?_ h hM;clear h hM s v r;intro GM s o hM h;unfold Kg at h;unfold GN at hM;obtain⟨m0,m1,m2,m3,m4⟩:=hM;unfold qY;rcases iS h with⟨e1,h⟩|⟨e1,h⟩
 ·obtain⟨e2,h⟩:=Cu h;have c3:=JH (ids.getD GM.toNat be) (1:Int) (999999:Int);rcases iS h with⟨e4,h⟩|⟨e4,h⟩
  ·obtain⟨e5,e6,e7,h⟩:=NC h;have c8:=zX ((ids.take GM.toNat).drop 0) (ids.getD GM.toNat be) e7;rcases iS h with⟨e9,h⟩|⟨e9,h⟩
   ·cases h;simp only [↓AJ,AL,↓reduceIte,bj,bh,m0,m2,m3,m4,e1,e2.1,e2.2,c3,e4,e6,c8,e9,GN,Ig,QC]
   ·have e9f:(((ids.take GM.toNat).drop 0).contains (ids.getD GM.toNat be))=false:=G8.mpr e9;cases h;simp only [↓AJ,AL,↓reduceIte,bj,bh,m0,m1,m2,m3,m4,e1,e2.1,e2.2,c3,e4,e6,c8,e9f,GN,Cx]
  ·have e4f:(Jz (ids.getD GM.toNat be) (1:Int) (999999:Int))=false:=G8.mpr e4;cases h;simp only [↓AJ,AL,↓reduceIte,bj,bh,m2,m3,m4,e1,e2.1,e2.2,c3,e4f,GN,Ig,QC]
 ·cases h;simp only [↓AJ,AL,↓reduceIte,bj,bh,m0,m1,m3,m4,e1,GN,Ig,Gf]
theorem qZ(ids:AO)(nodes:Int){r:Bool}(h:bB ids nodes=some r):Y.call 91 [bk 3 (AQ (bc .i64) ids),bc .i64 nodes] []=some (bp r,[]):=by
 refine c91 ?_ rfl;unfold k91;unfold bB at h;obtain⟨AU,hl2,h⟩:=Ag h;try dsimp only at h
 simp only [↓AJ,AL,↓reduceIte,bj,bh];refine Al (kQ ids nodes hl2 ?_) ?_
 ·simp only [BK,Cg,↓reduceIte,bj,bh,GN]
 ·intro ex2 s2 hX2;rcases AU with q1000_|q1000_
  ·unfold Ig at hX2;dsimp only at hX2 h;obtain⟨rfl,n2_0⟩:=hX2;cases h;simp only [↓AJ,AL,↓reduceIte,n2_0]
  ·unfold Ig at hX2;dsimp only at hX2 h;obtain⟨rfl,n2_0,n2_1⟩:=hX2;rcases iS h with⟨e3,h⟩|⟨e3,h⟩
   ·cases h;simp only [↓AJ,AL,↓reduceIte,bj,bh,n2_0,decide_eq_true e3]
   ·cases h;simp only [↓AJ,AL,↓reduceIte,bj,bh,n2_0,n2_1,e3]
theorem ze(ids:AO)(n:Int)(h:ids.length<1099511627776):bA ids n=some (YU ids n):=by
 unfold bA YU;by_cases h0:ids.length=0
 ·rw [if_pos (by omega),decide_eq_true h0];rfl
 ·rw [if_neg (by omega),BC h,BC (by omega),decide_eq_false h0,Bool.false_or]
  by_cases h1:(ids.length:Int)=n
  ·rw [if_pos h1,wW,BC (by rw [mW];exact h),zb,decide_eq_true h1];rfl
  ·rw [if_neg h1,decide_eq_false h1];rfl
theorem A2Y(ids:AO):(ao ids.length).all (fun i=>Jz (ids.getD i be) 1 999999&& !(ids.take i).contains (ids.getD i be))=(decide ids.Nodup&&FO ids 1 999999):=by
 rw [V7,Ch,El,decide_eq_true_eq];unfold FO;rw [Jv]
 constructor
 ·intro h
  refine⟨A1I.2 fun i j hi hj hij he=> ?_,fun x hx=> ?_⟩
  ·have:=h j hj
   rw [El,ML,←jQ,TU,Ac _ _ hj]at this;refine this.2 ?_;rw [←he];exact List.mem_take_iff_getElem.2 ⟨i,by omega,rfl⟩
  ·obtain⟨i,hi,rfl⟩:=V4 hx;have:=h i hi
   rw [El,Ac _ _ hi]at this;exact this.1
 ·rintro⟨h1,h2⟩ i hi
  rw [El,ML,←jQ,TU,Ac _ _ hi]
  refine⟨h2 _ (NA hi),fun hm=> ?_⟩
  obtain⟨j,hj,he⟩:=List.mem_take_iff_getElem.1 hm;exact A1I.1 h1 j i (by omega) hi (by omega) he
theorem zf(ids:AO)(n:Int)(h:ids.length<1099511627776):bB ids n=some (YU ids n):=by
 have key:=E9 (fun v=>Kg ids n v) (fun i=>(i:Int)) ids.length (fun i=>Jz (ids.getD i be) 1 999999&& !(ids.take i).contains (ids.getD i be)) (.inl ()) (.inr ()) ?_ ?_
 ·rw [EW,A2Y]at key;unfold bB Sc YU;rw [key,CB];by_cases h0:ids.length=0
  ·have:ids=[]:=uG h0
   subst this;simp [FO]
  ·rw [decide_eq_false h0,Bool.false_or]
   cases decide ids.Nodup&&FO ids 1 999999 with
   |false=>rw [Bool.and_false];rfl
   |true=>rw [Zc,if_pos rfl];simp only;rw [if_neg (by omega)]
 ·intro i hi;simp only [Kg,Cq,WC];rw [if_pos (BU hi),BC (by omega),BC (by omega),BC (by omega),BC (by rw [VQ];omega),Gc i (by omega)]
  cases Jz (ids.getD i be) 1 999999<;>cases (ids.take i).contains (ids.getD i be)<;>rfl
 ·simp only [Kg];rw [if_neg (Am _)]
theorem zg(ids:AO)(nodes:Int)(h0:ids.length<1099511627776):Y.call 66 [bk 3 (AQ (bc .i64) ids),bc .i64 nodes] []=some (bp (YU ids nodes),[]):=qX ids nodes (ze ids nodes h0)
theorem zh(ids:AO)(nodes:Int)(h0:ids.length<1099511627776):Y.call 91 [bk 3 (AQ (bc .i64) ids),bc .i64 nodes] []=some (bp (YU ids nodes),[]):=qZ ids nodes (zf ids nodes h0)
def Sd(inputs:AO)(nodes:Int):Option (Bool):= if(inputs.length:Int)=nodes then ck (inputs.length<1099511627776)<| some (FO inputs (0:Int) (9:Int)) else some false
def k67:SC:= .seq (.ops [oX 4 Ba 4]) (.seq (.ops [oM 5 0 26,oN 6 5 26,oM 7 1 3,oB 8 .eql 3 (tK 6) (tK 7) 3 4,oM 9 8 4,⟨some 10,.move (tK 0),26,(some (some 9,true))⟩,⟨some 11,.call ⟨(.value (.func 71)), #[(tK 10),(iK 0),(iK 9)], #[26,3,3]⟩,4,(some (some 9,true))⟩,oX 12 (.pick (tK 9) (tK 11) LK) 4,oA 4 12 4]) .ret)
theorem AEH:Tryz.f67.body.map (BP lends)=some k67:=by kernel_rfl
theorem AS8:BR Tryz.f67 2=true:=by kernel_rfl
theorem c67{a l:List D}{r:D×List D}(h:BS Y.env k67 (fin Aj l.length [bt 4] r) (entry a l))(ha:a.length=2):Y.call 67 a l=some r:=
 AY (Y:=Y) rfl Tryz.func67 (ha▸AS8) AEH h
theorem aG(inputs:AO)(nodes:Int){r:Bool}(h:Sd inputs nodes=some r):Y.call 67 [bk 3 (AQ (bc .i64) inputs),bc .i64 nodes] []=some (bp r,[]):=by
 refine c67 ?_ rfl;unfold k67;unfold Sd at h;rcases iS h with⟨e1,h⟩|⟨e1,h⟩
 ·obtain⟨e2,h⟩:=Cu h;have c3:=UC inputs (0:Int) (9:Int) e2;cases h;simp only [↓AJ,AL,↓reduceIte,bj,bh,decide_eq_true e1,c3]
 ·cases h;simp only [↓AJ,AL,↓reduceIte,bj,bh,e1]
def GQ(A8:Ad)(AR A9:AO)(v_:Int):Option (Bool):= some (Jz v_ (0:Int) (bm.wrap ((A8.length:Int)-1)))
def k86:SC:= .seq (.ops [oX 2 (.box 38 (tK 0)) 0,oX 4 Ba 4]) (.seq (.ops [oM 5 1 3,oF 6 38 2 0,oL 7 36 6 36,oN 8 7 36,oB 9 .sub 3 (tK 8) (iK 1) 3 3,oC 10 64 [(tK 5),(iK 0),(tK 9)] [3,3,3] 4,oA 4 10 4]) .ret)
theorem AEI:Tryz.f86.body.map (BP lends)=some k86:=by kernel_rfl
theorem ASA:BR Tryz.f86 2=true:=by kernel_rfl
theorem c86{a l:List D}{r:D×List D}(h:BS Y.env k86 (fin Aj l.length [bt 4] r) (entry a l))(ha:a.length=2):Y.call 86 a l=some r:=
 AY (Y:=Y) rfl Tryz.func86 (ha▸ASA) AEI h
theorem Sg(A8:Ad)(AR A9:AO)(v_:Int){r:Bool}(h:GQ A8 AR A9 v_=some r):Y.call 86 [bw [bk 79 (AQ (fun x=>bk 87 (Ak .i64 .i64 x)) A8),bk 3 (AQ (bc .i64) AR),bk 3 (AQ (bc .i64) A9)],bc .i64 v_] []=some (bp r,[]):=by
 refine c86 ?_ rfl;unfold k86;unfold GQ at h;have c1:=KA v_ (0:Int) (bm.wrap ((A8.length:Int)-1));cases h;simp only [↓AJ,AL,↓reduceIte,bj,bh,c1]
def ER(A8:Ad)(AR A9:AO)(v_ i:Int):Option (Bool):= (GQ A8 AR A9 v_).bind fun r9_=> if r9_=true then ck (0≤v_∧v_.toNat<A8.length)<| some (Jz i (0:Int) (bm.wrap (((A8.getD v_.toNat be).length:Int)-1))) else some false
def k52:SC:= .seq (.ops [oX 3 (.box 38 (tK 0)) 0,oX 6 Ba 4]) (.seq (.ops [oL 7 38 3 38,oM 8 1 3,oC 9 86 [(tK 7),(tK 8)] [38,3] 4,oM 10 9 4,⟨some 11,.move (tK 2),3,(some (some 10,true))⟩,⟨some 12,.fieldAddr 38 (tK 3) 0,0,(some (some 10,true))⟩,⟨some 13,.load 36 (tK 12),36,(some (some 10,true))⟩,⟨some 14,.move (tK 1),3,(some (some 10,true))⟩,⟨some 15,.indexAddr 36 (tK 13) (tK 14),0,(some (some 10,true))⟩,⟨some 16,.load 79 (tK 15),79,(some (some 10,true))⟩,⟨some 17,.call ⟨(.builtin .len), #[(tK 16)], #[79]⟩,3,(some (some 10,true))⟩,⟨some 18,.binOp .sub 3 (tK 17) (iK 1) 3,3,(some (some 10,true))⟩,⟨some 19,.call ⟨(.value (.func 64)), #[(tK 11),(iK 0),(tK 18)], #[3,3,3]⟩,4,(some (some 10,true))⟩,oX 20 (.pick (tK 10) (tK 19) LK) 4,oA 6 20 4]) .ret)
theorem AEJ:Tryz.f52.body.map (BP lends)=some k52:=by kernel_rfl
theorem ASC:BR Tryz.f52 3=true:=by kernel_rfl
theorem c52{a l:List D}{r:D×List D}(h:BS Y.env k52 (fin Aj l.length [bt 6] r) (entry a l))(ha:a.length=3):Y.call 52 a l=some r:=
 AY (Y:=Y) rfl Tryz.func52 (ha▸ASC) AEJ h
theorem Me(A8:Ad)(AR A9:AO)(v_ i:Int){r:Bool}(h:ER A8 AR A9 v_ i=some r):Y.call 52 [bw [bk 79 (AQ (fun x=>bk 87 (Ak .i64 .i64 x)) A8),bk 3 (AQ (bc .i64) AR),bk 3 (AQ (bc .i64) A9)],bc .i64 v_,bc .i64 i] []=some (bp r,[]):=by
 refine c52 ?_ rfl;unfold k52;unfold ER at h;obtain⟨r9_,hl1,h⟩:=Ag h;have c1:=Sg A8 AR A9 v_ hl1;rcases iS h with⟨e2,h⟩|⟨e2,h⟩
 ·obtain⟨e3,h⟩:=Cu h;have c4:=KA i (0:Int) (bm.wrap (((A8.getD v_.toNat be).length:Int)-1));cases h;simp only [↓AJ,AL,↓reduceIte,bj,bh,c1,e2,e3.1,e3.2,c4]
 ·have e2f:r9_=false:=G8.mpr e2;cases h;simp only [↓AJ,AL,↓reduceIte,bj,bh,c1,e2f]
def Ev(AA:Ad)(AZ AB:AO)(Ew O6:Int):Option ((Int)⊕(Unit⊕Unit)):= if O6<((AA.getD Ew.toNat be).length:Int)then ck (0≤O6∧O6.toNat<(AA.getD Ew.toNat be).length)<| (ER AA AZ AB (BJ (AA.getD Ew.toNat be) O6.toNat) (Bu (AA.getD Ew.toNat be) O6.toNat)).bind fun AEK=> if AEK=true then ck (0≤(BJ (AA.getD Ew.toNat be) O6.toNat)∧(BJ (AA.getD Ew.toNat be) O6.toNat).toNat<AA.length)<| ck (0≤(Bu (AA.getD Ew.toNat be) O6.toNat)∧(Bu (AA.getD Ew.toNat be) O6.toNat).toNat<(AA.getD ((BJ (AA.getD Ew.toNat be) O6.toNat).toNat) be).length)<| if(((BJ (AA.getD ((BJ (AA.getD Ew.toNat be) O6.toNat).toNat) be) ((Bu (AA.getD Ew.toNat be) O6.toNat).toNat))==Ew)&&((Bu (AA.getD ((BJ (AA.getD Ew.toNat be) O6.toNat).toNat) be) ((Bu (AA.getD Ew.toNat be) O6.toNat).toNat))==O6))=true then some (bo (bm.wrap (O6+1))) else some (bl (bo ())) else some (bl (bo ())) else some (bl (bl ()))
def KG(AA:Ad)(AZ AB:AO)(Ew v:Int):Option (Unit⊕Unit):=Dq (fun v=>Ev AA AZ AB Ew v) v
def Ey(AA:Ad)(AZ AB:AO)(Ew:Int):Option ((Int)⊕(Unit⊕Unit)):=
 if Ew<(AA.length:Int)then
  ck (0≤Ew∧Ew.toNat<AA.length)<|
  if 6<((AA.getD Ew.toNat be).length:Int)then
   some (bl (bo ()))
  else
   (KG AA AZ AB Ew 0).bind fun AU=>
   match AU with
   | .inl q1000_=>
    some (bl (bo ()))
   | .inr q1000_=>
    some (bo (bm.wrap (Ew+1)))
 else
  some (bl (bl ()))
def KH(AA:Ad)(AZ AB:AO)(v:Int):Option (Unit⊕Unit):=Dq (fun v=>Ey AA AZ AB v) v
def Qc(AA:Ad)(AZ AB:AO):Option (Bool):=
 if(Jz (AA.length:Int) (1:Int) (40:Int))=true then
  ck (AZ.length<1099511627776)<|
  if(YU AZ (AA.length:Int))=true then
   (Sd AB (AA.length:Int)).bind fun AEL=>
   if AEL=true then
    (KH AA AZ AB 0).bind fun Au=>
    match Au with
    | .inl q1001_=>
     some false
    | .inr q1001_=>
     some true
   else
    some false
  else
   some false
 else
  some false
abbrev Ps:List Nat:=[48,49,50,51,52,53,54,55,56,57,58,59,60,61,62,63,64,65,66,67,68,66,67,69,70]
def qa:SC:= .seq (.ops [oB 44 .lss 3 (tK 43) (tK 42) 3 0]) (.seq (.cond (tK 44) .skip (.exit 2)) (.seq (.block 3 (.seq (.ops [oM 45 43 3,oI 46 79 41 43,oL 47 87 46 87,oX 6 (.alloc 87) 0,oA 5 45 3,oS 87 6 47]) (.seq (.draws [(⟨[48,1,1],Ps,[48]⟩,oL 48 38 1 38),(⟨[49,6,6],Ps,[49]⟩,oF 49 87 6 0),(⟨[50,49,6],Ps,[50]⟩,oL 50 3 49 3),(⟨[51,6,6],Ps,[51]⟩,oF 51 87 6 1),(⟨[52,51,6],Ps,[52]⟩,oL 52 3 51 3),(⟨[53,48,50,52,1,6,6],Ps,[53]⟩,oC 53 52 [(tK 48),(tK 50),(tK 52)] [38,3,3] 4),(⟨[54,53,53],Ps,[54]⟩,oX 54 (.unOp .not 4 (tK 53)) 4),(⟨[55,54,54],Ps,[55]⟩,oM 55 54 4),(⟨[56,1,1,55],Ps,[56]⟩,⟨some 56,.fieldAddr 38 (tK 1) 0,0,(some (some 55,false))⟩),(⟨[57,56,1,55],Ps,[57]⟩,⟨some 57,.load 36 (tK 56),36,(some (some 55,false))⟩),(⟨[58,6,6,55],Ps,[58]⟩,⟨some 58,.fieldAddr 87 (tK 6) 0,0,(some (some 55,false))⟩),(⟨[59,58,6,55],Ps,[59]⟩,⟨some 59,.load 3 (tK 58),3,(some (some 55,false))⟩),(⟨[60,57,59,1,6,55],Ps,[60]⟩,⟨some 60,.indexAddr 36 (tK 57) (tK 59),0,(some (some 55,false))⟩),(⟨[61,60,1,55],Ps,[61]⟩,⟨some 61,.load 79 (tK 60),79,(some (some 55,false))⟩),(⟨[62,6,6,55],Ps,[62]⟩,⟨some 62,.fieldAddr 87 (tK 6) 1,0,(some (some 55,false))⟩),(⟨[63,62,6,55],Ps,[63]⟩,⟨some 63,.load 3 (tK 62),3,(some (some 55,false))⟩),
 (⟨[64,61,63,1,6,55],Ps,[64]⟩,⟨some 64,.indexAddr 79 (tK 61) (tK 63),0,(some (some 55,false))⟩),(⟨[65,64,1,55],Ps,[65]⟩,⟨some 65,.load 87 (tK 64),87,(some (some 55,false))⟩),(⟨[66,3,3,55],Ps,[66]⟩,⟨some 66,.move (tK 3),3,(some (some 55,false))⟩),(⟨[67,5,5,55],Ps,[67]⟩,⟨some 67,.move (tK 5),3,(some (some 55,false))⟩),(⟨[68,66,67,3,5,55],Ps,[68,66,67]⟩,⟨some 68,.build 87 #[(0,(tK 66)),(1,(tK 67))],87,(some (some 55,false))⟩),(⟨[69,65,68,1,68,55],Ps,[69]⟩,⟨some 69,.binOp .neq 87 (tK 65) (tK 68) 87,4,(some (some 55,false))⟩),(⟨[70,55,69,54,69],Ps,[70]⟩,oX 70 (.pick (tK 55) Cy (tK 69)) 4)]) (.cond (tK 70) (.seq (.ops [oX 2 Ba 4]) .ret) .skip)))) (.ops [oB 71 .add 3 (tK 43) (iK 1) 3 3,oM 43 71 3])))
def A5A:SC:= .loop qa
def qb:SC:= .seq (.ops [oB 34 .lss 3 (tK 33) (tK 32) 3 0]) (.seq (.cond (tK 34) .skip (.exit 0)) (.seq (.block 1 (.seq (.ops [oM 35 33 3,oI 36 36 31 33,oL 37 79 36 79,oA 3 35 3,oA 4 37 79]) (.seq (.seq (.ops [oM 38 4 79,oN 39 38 79,oB 40 .gtr 3 (tK 39) (iK 6) 3 4]) (.cond (tK 40) (.seq (.ops [oX 2 Ba 4]) .ret) .skip)) (.seq (.ops [oM 41 4 79,oN 42 41 79,oX 43 (.move (iK 0)) 3]) (.block 2 A5A))))) (.ops [oB 72 .add 3 (tK 33) (iK 1) 3 3,oM 33 72 3])))
def A5B:SC:= .loop qb
def k40:SC:= .seq (.ops [oX 1 (.box 38 (tK 0)) 0,oX 2 Ba 4]) (.seq (.seq (.ops [oF 7 38 1 0,oL 8 36 7 36,oN 9 8 36,oC 10 64 [(tK 9),(iK 1),(iK 40)] [3,3,3] 4,oX 11 (.unOp .not 4 (tK 10)) 4,oM 12 11 4,⟨some 13,.fieldAddr 38 (tK 1) 1,0,(some (some 12,false))⟩,⟨some 14,.load 26 (tK 13),26,(some (some 12,false))⟩,⟨some 15,.fieldAddr 38 (tK 1) 0,0,(some (some 12,false))⟩,⟨some 16,.load 36 (tK 15),36,(some (some 12,false))⟩,⟨some 17,.call ⟨(.builtin .len), #[(tK 16)], #[36]⟩,3,(some (some 12,false))⟩,⟨some 18,.call ⟨(.value (.func 66)), #[(tK 14),(tK 17)], #[26,3]⟩,4,(some (some 12,false))⟩,⟨some 19,.unOp .not 4 (tK 18),4,(some (some 12,false))⟩,oX 20 (.pick (tK 12) Cy (tK 19)) 4,oM 21 20 4,⟨some 22,.fieldAddr 38 (tK 1) 2,0,(some (some 21,false))⟩,⟨some 23,.load 26 (tK 22),26,(some (some 21,false))⟩,⟨some 24,.fieldAddr 38 (tK 1) 0,0,(some (some 21,false))⟩,⟨some 25,.load 36 (tK 24),36,(some (some 21,false))⟩,⟨some 26,.call ⟨(.builtin .len), #[(tK 25)], #[36]⟩,3,(some (some 21,false))⟩,⟨some 27,.call ⟨(.value (.func 67)), #[(tK 23),(tK 26)], #[26,3]⟩,4,(some (some 21,false))⟩,⟨some 28,.unOp .not 4 (tK 27),4,(some (some 21,false))⟩,oX 29 (.pick (tK 21) Cy (tK 28)) 4])
 (.cond (tK 29) (.seq (.ops [oX 2 Ba 4]) .ret) .skip)) (.seq (.seq (.ops [oF 30 38 1 0,oL 31 36 30 36,oN 32 31 36,oX 33 (.move (iK 0)) 3]) (.block 0 A5B)) (.seq (.ops [oX 2 (.assign Cy) 4]) .ret)))
theorem AEM:Tryz.f40.body.map (BP lends)=some k40:=by kernel_rfl
theorem ASE:BR Tryz.f40 1=true:=by kernel_rfl
theorem c40{a l:List D}{r:D×List D}(h:BS Y.env k40 (fin Aj l.length [bt 2] r) (entry a l))(ha:a.length=1):Y.call 40 a l=some r:=
 AY (Y:=Y) rfl Tryz.func40 (ha▸ASE) AEM h
def D8(AA:Ad)(AZ AB:AO)(Ew O6:Int)(s:St):Prop:=s.v 1=b7 [bk 79 (AQ (fun x=>bk 87 (Ak .i64 .i64 x)) AA),bk 3 (AQ (bc .i64) AZ),bk 3 (AQ (bc .i64) AB)]∧s.v 3=bc .i64 Ew∧s.v 31=bk 79 (AQ (fun x=>bk 87 (Ak .i64 .i64 x)) AA)∧s.v 32=bc .i64 (AA.length:Int)∧s.v 33=bc .i64 Ew∧s.v 41=bk 87 (Ak .i64 .i64 (AA.getD Ew.toNat be))∧s.v 42=bc .i64 ((AA.getD Ew.toNat be).length:Int)∧s.v 43=bc .i64 O6
def Dx(AA:Ad)(AZ AB:AO)(Ew:Int)(r:Unit⊕Unit)(ex:Ex)(s:St):Prop:=match r with
 | .inl q=>ex= .ret∧s.v 2=bp false
 | .inr q=>ex= .exit 2∧s.v 1=b7 [bk 79 (AQ (fun x=>bk 87 (Ak .i64 .i64 x)) AA),bk 3 (AQ (bc .i64) AZ),bk 3 (AQ (bc .i64) AB)]∧s.v 31=bk 79 (AQ (fun x=>bk 87 (Ak .i64 .i64 x)) AA)∧s.v 32=bc .i64 (AA.length:Int)∧s.v 33=bc .i64 Ew
theorem XD(AA:Ad)(AZ AB:AO)(Ew:Int){v:Int}{s:St}{r:Unit⊕Unit}(h:KG AA AZ AB Ew v=some r)(hM:D8 AA AZ AB Ew v s):BS Y.env A5A (Dx AA AZ AB Ew r) s:=by
 unfold KG at h;refine Aw (c:=qa) (fun v=>Ev AA AZ AB Ew v) (fun v s=>D8 AA AZ AB Ew v s) (Dx AA AZ AB Ew) ?_ h hM;clear h hM s v r;intro O6 s o hM h;unfold Ev at h;unfold D8 at hM;obtain⟨m0,m1,m2,m3,m4,m5,m6,m7⟩:=hM;unfold qa;rcases iS h with⟨e11,h⟩|⟨e11,h⟩
 ·obtain⟨e12,h⟩:=Cu h;obtain⟨AEK,hl13,h⟩:=Ag h;have c13:=Me AA AZ AB (BJ (AA.getD Ew.toNat be) O6.toNat) (Bu (AA.getD Ew.toNat be) O6.toNat) hl13;rcases iS h with⟨e14,h⟩|⟨e14,h⟩
  ·obtain⟨e15,e16,h⟩:=Dr h;rcases iS h with⟨e17,h⟩|⟨e17,h⟩
   ·cases h;simp only [↓AJ,AL,↓reduceIte,bj,bh,b5,m0,m1,m2,m3,m4,m5,m6,m7,e11,e12.1,e12.2,c13,e14,e15.1,e15.2,e16.1,e16.2,e17,D8,Cx]
   ·have e17f:(((BJ (AA.getD ((BJ (AA.getD Ew.toNat be) O6.toNat).toNat) be) ((Bu (AA.getD Ew.toNat be) O6.toNat).toNat))==Ew)&&((Bu (AA.getD ((BJ (AA.getD Ew.toNat be) O6.toNat).toNat) be) ((Bu (AA.getD Ew.toNat be) O6.toNat).toNat))==O6))=false:=G8.mpr e17;cases h;simp only [↓AJ,AL,↓reduceIte,bj,bh,b5,m0,m1,m5,m6,m7,e11,e12.1,e12.2,c13,e14,e15.1,e15.2,e16.1,e16.2,e17f,D8,Dx,QC]
  ·have e14f:AEK=false:=G8.mpr e14;cases h;simp only [↓AJ,AL,↓reduceIte,bj,bh,m0,m1,m5,m6,m7,e11,e12.1,e12.2,c13,e14f,D8,Dx,QC]
 ·cases h;simp only [↓AJ,AL,↓reduceIte,bj,bh,m0,m2,m3,m4,m6,m7,e11,D8,Dx,Gf]
def D9(AA:Ad)(AZ AB:AO)(Ew:Int)(s:St):Prop:=s.v 1=b7 [bk 79 (AQ (fun x=>bk 87 (Ak .i64 .i64 x)) AA),bk 3 (AQ (bc .i64) AZ),bk 3 (AQ (bc .i64) AB)]∧s.v 31=bk 79 (AQ (fun x=>bk 87 (Ak .i64 .i64 x)) AA)∧s.v 32=bc .i64 (AA.length:Int)∧s.v 33=bc .i64 Ew
def Dy(AA:Ad)(AZ AB:AO)(r:Unit⊕Unit)(ex:Ex)(s:St):Prop:=match r with
 | .inl q=>ex= .ret∧s.v 2=bp false
 | .inr q=>ex= .exit 0
theorem XE(AA:Ad)(AZ AB:AO){v:Int}{s:St}{r:Unit⊕Unit}(h:KH AA AZ AB v=some r)(hM:D9 AA AZ AB v s):BS Y.env A5B (Dy AA AZ AB r) s:=by
 unfold KH at h;refine Aw (c:=qb) (fun v=>Ey AA AZ AB v) (fun v s=>D9 AA AZ AB v s) (Dy AA AZ AB) ?_ h hM;clear h hM s v r;intro Ew s o hM h;unfold Ey at h;unfold D9 at hM;obtain⟨m0,m1,m2,m3⟩:=hM;unfold qb;rcases iS h with⟨e8,h⟩|⟨e8,h⟩
 ·obtain⟨e9,h⟩:=Cu h;rcases iS h with⟨e10,h⟩|⟨e10,h⟩
  ·cases h;simp only [↓AJ,AL,↓reduceIte,bj,bh,m1,m2,m3,e8,e9.1,e9.2,e10,D9,Dy,QC]
  ·obtain⟨AU,hl12,h⟩:=Ag h;try dsimp only at h
   simp only [↓AJ,AL,↓reduceIte,bj,bh,m1,m2,m3,e8,e9.1,e9.2,e10];refine Al (XD AA AZ AB Ew hl12 ?_) ?_
   ·simp only [BK,↓reduceIte,bj,m0,m1,m2,m3,D8]
   ·intro ex12 s12 hX12;rcases AU with q1000_|q1000_
    ·unfold Dx at hX12;dsimp only at hX12 h;obtain⟨rfl,n12_0⟩:=hX12;cases h;simp only [↓AJ,AL,n12_0,D9,Dy,QC]
    ·unfold Dx at hX12;dsimp only at hX12 h;obtain⟨rfl,n12_0,n12_1,n12_2,n12_3⟩:=hX12;cases h;simp only [↓AJ,AL,↓reduceIte,bj,bh,n12_0,n12_1,n12_2,n12_3,D9,Cx]
 ·cases h;simp only [↓AJ,AL,↓reduceIte,bh,m2,m3,e8,D9,Dy,Gf]
theorem YV(AA:Ad)(AZ AB:AO){r:Bool}(h:Qc AA AZ AB=some r):Y.call 40 [bw [bk 79 (AQ (fun x=>bk 87 (Ak .i64 .i64 x)) AA),bk 3 (AQ (bc .i64) AZ),bk 3 (AQ (bc .i64) AB)]] []=some (bp r,[]):=by
 refine c40 ?_ rfl;unfold k40;unfold Qc at h;have c1:=KA (AA.length:Int) (1:Int) (40:Int);rcases iS h with⟨e2,h⟩|⟨e2,h⟩
 ·obtain⟨e3,h⟩:=Cu h;have c4:=zg AZ (AA.length:Int) e3;rcases iS h with⟨e5,h⟩|⟨e5,h⟩
  ·obtain⟨AEL,hl6,h⟩:=Ag h;have c6:=aG AB (AA.length:Int) hl6;rcases iS h with⟨e7,h⟩|⟨e7,h⟩
   ·obtain⟨Au,hl9,h⟩:=Ag h;try dsimp only at h
    simp only [↓AJ,AL,↓reduceIte,bj,bh,c1,e2,c4,e5,c6,e7];refine Al (XE AA AZ AB hl9 ?_) ?_
    ·simp only [BK,↓reduceIte,bj,D9]
    ·intro ex9 s9 hX9;rcases Au with q1001_|q1001_
     ·unfold Dy at hX9;dsimp only at hX9 h;obtain⟨rfl,n9_0⟩:=hX9;cases h;simp only [↓AJ,AL,↓reduceIte,n9_0]
     ·unfold Dy at hX9;dsimp only at hX9 h
      obtain rfl:=hX9
      cases h;simp only [↓AJ,AL,↓reduceIte,bj,bh]
   ·have e7f:AEL=false:=G8.mpr e7;cases h;simp only [↓AJ,AL,↓reduceIte,bj,bh,c1,e2,c4,e5,c6,e7f]
  ·have e5f:(YU AZ (AA.length:Int))=false:=G8.mpr e5;cases h;simp only [↓AJ,AL,↓reduceIte,bj,bh,c1,e2,c4,e5f]
 ·have e2f:(Jz (AA.length:Int) (1:Int) (40:Int))=false:=G8.mpr e2;cases h;simp only [↓AJ,AL,↓reduceIte,bj,bh,c1,e2f]
def JO(AA:Ad)(AZ AB:AO)(Cv M9:Int):Option ((Int)⊕(Unit⊕Unit)):= if M9<((AA.getD Cv.toNat be).length:Int)then ck (0≤M9∧M9.toNat<(AA.getD Cv.toNat be).length)<| if(Jz (BJ (AA.getD Cv.toNat be) M9.toNat) (0:Int) (bm.wrap ((AA.length:Int)-1)))=true then ck (0≤(BJ (AA.getD Cv.toNat be) M9.toNat)∧(BJ (AA.getD Cv.toNat be) M9.toNat).toNat<AA.length)<| if(Jz (Bu (AA.getD Cv.toNat be) M9.toNat) (0:Int) (bm.wrap (((AA.getD ((BJ (AA.getD Cv.toNat be) M9.toNat).toNat) be).length:Int)-1)))=true then ck (0≤(Bu (AA.getD Cv.toNat be) M9.toNat)∧(Bu (AA.getD Cv.toNat be) M9.toNat).toNat<(AA.getD ((BJ (AA.getD Cv.toNat be) M9.toNat).toNat) be).length)<| if(((BJ (AA.getD ((BJ (AA.getD Cv.toNat be) M9.toNat).toNat) be) ((Bu (AA.getD Cv.toNat be) M9.toNat).toNat))==Cv)&&((Bu (AA.getD ((BJ (AA.getD Cv.toNat be) M9.toNat).toNat) be) ((Bu (AA.getD Cv.toNat be) M9.toNat).toNat))==M9))=true then some (bo (bm.wrap (M9+1))) else some (bl (bo ())) else some (bl (bo ())) else some (bl (bo ())) else some (bl (bl ()))
def O7(AA:Ad)(AZ AB:AO)(Cv v:Int):Option (Unit⊕Unit):=Dq (fun v=>JO AA AZ AB Cv v) v
def JP(AA:Ad)(AZ AB:AO)(Cv:Int):Option ((Int)⊕(Unit⊕Unit)):=
 if Cv<(AA.length:Int)then
  ck (0≤Cv∧Cv.toNat<AA.length)<|
  if 6<((AA.getD Cv.toNat be).length:Int)then
   some (bl (bo ()))
  else
   (O7 AA AZ AB Cv 0).bind fun AU=>
   match AU with
   | .inl q1000_=>
    some (bl (bo ()))
   | .inr q1000_=>
    some (bo (bm.wrap (Cv+1)))
 else
  some (bl (bl ()))
def O8(AA:Ad)(AZ AB:AO)(v:Int):Option (Unit⊕Unit):=Dq (fun v=>JP AA AZ AB v) v
def XF(AA:Ad)(AZ AB:AO):Option (Bool):=
 if(Jz (AA.length:Int) (1:Int) (40:Int))=true then
  ck (AZ.length<1099511627776)<|
  if(YU AZ (AA.length:Int))=true then
   if(AB.length:Int)=(AA.length:Int)then
    ck (AB.length<1099511627776)<|
    if(FO AB (0:Int) (9:Int))=true then
     (O8 AA AZ AB 0).bind fun Au=>
     match Au with
     | .inl q1001_=>
      some false
     | .inr q1001_=>
      some true
    else
     some false
   else
    some false
  else
   some false
 else
  some false
abbrev Iz:List Nat:=[54,55,56,57,58,59,60,61,62,63,64,65,66,67,68,69,70,71,72,73,74,75,76,77,78,79,80,81,82,83,84,85,86,87,88,89,87,88,90,91]
def qc:SC:= .seq (.ops [oB 50 .lss 3 (tK 49) (tK 48) 3 0]) (.seq (.cond (tK 50) .skip (.exit 2)) (.seq (.block 3 (.seq (.ops [oM 51 49 3,oI 52 79 47 49,oL 53 87 52 87,oX 6 (.alloc 87) 0,oA 5 51 3,oS 87 6 53]) (.seq (.draws [(⟨[54,6,6],Iz,[54]⟩,oF 54 87 6 0),(⟨[55,54,6],Iz,[55]⟩,oL 55 3 54 3),(⟨[56,1,1],Iz,[56]⟩,oF 56 38 1 0),(⟨[57,56,1],Iz,[57]⟩,oL 57 36 56 36),(⟨[58,57,1],Iz,[58]⟩,oN 58 57 36),(⟨[59,58,58],Iz,[59]⟩,oB 59 .sub 3 (tK 58) (iK 1) 3 3),(⟨[60,55,59,6,59],Iz,[60]⟩,oC 60 82 [(tK 55),(iK 0),(tK 59)] [3,3,3] 4),(⟨[61,60,60],Iz,[61]⟩,oX 61 (.unOp .not 4 (tK 60)) 4),(⟨[62,61,61],Iz,[62]⟩,oM 62 61 4),(⟨[63,6,6,62],Iz,[63]⟩,⟨some 63,.fieldAddr 87 (tK 6) 1,0,(some (some 62,false))⟩),(⟨[64,63,6,62],Iz,[64]⟩,⟨some 64,.load 3 (tK 63),3,(some (some 62,false))⟩),(⟨[65,1,1,62],Iz,[65]⟩,⟨some 65,.fieldAddr 38 (tK 1) 0,0,(some (some 62,false))⟩),(⟨[66,65,1,62],Iz,[66]⟩,⟨some 66,.load 36 (tK 65),36,(some (some 62,false))⟩),(⟨[67,6,6,62],Iz,[67]⟩,⟨some 67,.fieldAddr 87 (tK 6) 0,0,(some (some 62,false))⟩),(⟨[68,67,6,62],Iz,[68]⟩,⟨some 68,.load 3 (tK 67),3,(some (some 62,false))⟩),(⟨[69,66,68,1,6,62],Iz,[69]⟩,⟨some 69,.indexAddr 36 (tK 66) (tK 68),0,(some (some 62,false))⟩),
 (⟨[70,69,1,62],Iz,[70]⟩,⟨some 70,.load 79 (tK 69),79,(some (some 62,false))⟩),(⟨[71,70,1,62],Iz,[71]⟩,⟨some 71,.call ⟨(.builtin .len), #[(tK 70)], #[79]⟩,3,(some (some 62,false))⟩),(⟨[72,71,71,62],Iz,[72]⟩,⟨some 72,.binOp .sub 3 (tK 71) (iK 1) 3,3,(some (some 62,false))⟩),(⟨[73,64,72,6,72,62],Iz,[73]⟩,⟨some 73,.call ⟨(.value (.func 82)), #[(tK 64),(iK 0),(tK 72)], #[3,3,3]⟩,4,(some (some 62,false))⟩),(⟨[74,73,73,62],Iz,[74]⟩,⟨some 74,.unOp .not 4 (tK 73),4,(some (some 62,false))⟩),(⟨[75,62,74,61,74],Iz,[75]⟩,oX 75 (.pick (tK 62) Cy (tK 74)) 4),(⟨[76,75,75],Iz,[76]⟩,oM 76 75 4),(⟨[77,1,1,76],Iz,[77]⟩,⟨some 77,.fieldAddr 38 (tK 1) 0,0,(some (some 76,false))⟩),(⟨[78,77,1,76],Iz,[78]⟩,⟨some 78,.load 36 (tK 77),36,(some (some 76,false))⟩),(⟨[79,6,6,76],Iz,[79]⟩,⟨some 79,.fieldAddr 87 (tK 6) 0,0,(some (some 76,false))⟩),(⟨[80,79,6,76],Iz,[80]⟩,⟨some 80,.load 3 (tK 79),3,(some (some 76,false))⟩),(⟨[81,78,80,1,6,76],Iz,[81]⟩,⟨some 81,.indexAddr 36 (tK 78) (tK 80),0,(some (some 76,false))⟩),(⟨[82,81,1,76],Iz,[82]⟩,⟨some 82,.load 79 (tK 81),79,(some (some 76,false))⟩),(⟨[83,6,6,76],Iz,[83]⟩,⟨some 83,.fieldAddr 87 (tK 6) 1,0,(some (some 76,false))⟩),(⟨[84,83,6,76],Iz,[84]⟩,⟨some 84,.load 3 (tK 83),3,(some (some 76,false))⟩),
 (⟨[85,82,84,1,6,76],Iz,[85]⟩,⟨some 85,.indexAddr 79 (tK 82) (tK 84),0,(some (some 76,false))⟩),(⟨[86,85,1,76],Iz,[86]⟩,⟨some 86,.load 87 (tK 85),87,(some (some 76,false))⟩),(⟨[87,3,3,76],Iz,[87]⟩,⟨some 87,.move (tK 3),3,(some (some 76,false))⟩),(⟨[88,5,5,76],Iz,[88]⟩,⟨some 88,.move (tK 5),3,(some (some 76,false))⟩),(⟨[89,87,88,3,5,76],Iz,[89,87,88]⟩,⟨some 89,.build 87 #[(0,(tK 87)),(1,(tK 88))],87,(some (some 76,false))⟩),(⟨[90,86,89,1,89,76],Iz,[90]⟩,⟨some 90,.binOp .neq 87 (tK 86) (tK 89) 87,4,(some (some 76,false))⟩),(⟨[91,76,90,75,90],Iz,[91]⟩,oX 91 (.pick (tK 76) Cy (tK 90)) 4)]) (.cond (tK 91) (.seq (.ops [oX 2 Ba 4]) .ret) .skip)))) (.ops [oB 92 .add 3 (tK 49) (iK 1) 3 3,oM 49 92 3])))
def A5C:SC:= .loop qc
def qd:SC:= .seq (.ops [oB 40 .lss 3 (tK 39) (tK 38) 3 0]) (.seq (.cond (tK 40) .skip (.exit 0)) (.seq (.block 1 (.seq (.ops [oM 41 39 3,oI 42 36 37 39,oL 43 79 42 79,oA 3 41 3,oA 4 43 79]) (.seq (.seq (.ops [oM 44 4 79,oN 45 44 79,oB 46 .gtr 3 (tK 45) (iK 6) 3 4]) (.cond (tK 46) (.seq (.ops [oX 2 Ba 4]) .ret) .skip)) (.seq (.ops [oM 47 4 79,oN 48 47 79,oX 49 (.move (iK 0)) 3]) (.block 2 A5C))))) (.ops [oB 93 .add 3 (tK 39) (iK 1) 3 3,oM 39 93 3])))
def A5D:SC:= .loop qd
def k58:SC:= .seq (.ops [oX 1 (.box 38 (tK 0)) 0,oX 2 Ba 4]) (.seq (.seq (.ops [oF 7 38 1 0,oL 8 36 7 36,oN 9 8 36,oC 10 82 [(tK 9),(iK 1),(iK 40)] [3,3,3] 4,oX 11 (.unOp .not 4 (tK 10)) 4,oM 12 11 4,⟨some 13,.fieldAddr 38 (tK 1) 1,0,(some (some 12,false))⟩,⟨some 14,.load 26 (tK 13),26,(some (some 12,false))⟩,⟨some 15,.fieldAddr 38 (tK 1) 0,0,(some (some 12,false))⟩,⟨some 16,.load 36 (tK 15),36,(some (some 12,false))⟩,⟨some 17,.call ⟨(.builtin .len), #[(tK 16)], #[36]⟩,3,(some (some 12,false))⟩,⟨some 18,.call ⟨(.value (.func 91)), #[(tK 14),(tK 17)], #[26,3]⟩,4,(some (some 12,false))⟩,⟨some 19,.unOp .not 4 (tK 18),4,(some (some 12,false))⟩,oX 20 (.pick (tK 12) Cy (tK 19)) 4,oM 21 20 4,⟨some 22,.fieldAddr 38 (tK 1) 2,0,(some (some 21,false))⟩,⟨some 23,.load 26 (tK 22),26,(some (some 21,false))⟩,⟨some 24,.call ⟨(.builtin .len), #[(tK 23)], #[26]⟩,3,(some (some 21,false))⟩,⟨some 25,.fieldAddr 38 (tK 1) 0,0,(some (some 21,false))⟩,⟨some 26,.load 36 (tK 25),36,(some (some 21,false))⟩,⟨some 27,.call ⟨(.builtin .len), #[(tK 26)], #[36]⟩,3,(some (some 21,false))⟩,⟨some 28,.binOp .neq 3 (tK 24) (tK 27) 3,4,(some (some 21,false))⟩,oX 29 (.pick (tK 21) Cy (tK 28)) 4,
 oM 30 29 4,⟨some 31,.fieldAddr 38 (tK 1) 2,0,(some (some 30,false))⟩,⟨some 32,.load 26 (tK 31),26,(some (some 30,false))⟩,⟨some 33,.call ⟨(.value (.func 59)), #[(tK 32),(iK 0),(iK 9)], #[26,3,3]⟩,4,(some (some 30,false))⟩,⟨some 34,.unOp .not 4 (tK 33),4,(some (some 30,false))⟩,oX 35 (.pick (tK 30) Cy (tK 34)) 4]) (.cond (tK 35) (.seq (.ops [oX 2 Ba 4]) .ret) .skip)) (.seq (.seq (.ops [oF 36 38 1 0,oL 37 36 36 36,oN 38 37 36,oX 39 (.move (iK 0)) 3]) (.block 0 A5D)) (.seq (.ops [oX 2 (.assign Cy) 4]) .ret)))
theorem AEN:Tryz.f58.body.map (BP lends)=some k58:=by kernel_rfl
theorem ASG:BR Tryz.f58 1=true:=by kernel_rfl
theorem c58{a l:List D}{r:D×List D}(h:BS Y.env k58 (fin Aj l.length [bt 2] r) (entry a l))(ha:a.length=1):Y.call 58 a l=some r:=
 AY (Y:=Y) rfl Tryz.func58 (ha▸ASG) AEN h
def EC(AA:Ad)(AZ AB:AO)(Cv M9:Int)(s:St):Prop:=s.v 1=b7 [bk 79 (AQ (fun x=>bk 87 (Ak .i64 .i64 x)) AA),bk 3 (AQ (bc .i64) AZ),bk 3 (AQ (bc .i64) AB)]∧s.v 3=bc .i64 Cv∧s.v 37=bk 79 (AQ (fun x=>bk 87 (Ak .i64 .i64 x)) AA)∧s.v 38=bc .i64 (AA.length:Int)∧s.v 39=bc .i64 Cv∧s.v 47=bk 87 (Ak .i64 .i64 (AA.getD Cv.toNat be))∧s.v 48=bc .i64 ((AA.getD Cv.toNat be).length:Int)∧s.v 49=bc .i64 M9
def Es(AA:Ad)(AZ AB:AO)(Cv:Int)(r:Unit⊕Unit)(ex:Ex)(s:St):Prop:=match r with
 | .inl q=>ex= .ret∧s.v 2=bp false
 | .inr q=>ex= .exit 2∧s.v 1=b7 [bk 79 (AQ (fun x=>bk 87 (Ak .i64 .i64 x)) AA),bk 3 (AQ (bc .i64) AZ),bk 3 (AQ (bc .i64) AB)]∧s.v 37=bk 79 (AQ (fun x=>bk 87 (Ak .i64 .i64 x)) AA)∧s.v 38=bc .i64 (AA.length:Int)∧s.v 39=bc .i64 Cv
theorem fu(AA:Ad)(AZ AB:AO)(Cv:Int){v:Int}{s:St}{r:Unit⊕Unit}(h:O7 AA AZ AB Cv v=some r)(hM:EC AA AZ AB Cv v s):BS Y.env A5C (Es AA AZ AB Cv r) s:=by
 unfold O7 at h;refine Aw (c:=qc) (fun v=>JO AA AZ AB Cv v) (fun v s=>EC AA AZ AB Cv v s) (Es AA AZ AB Cv) ?_ h hM;clear h hM s v r;intro M9 s o hM h;unfold JO at h;unfold EC at hM;obtain⟨m0,m1,m2,m3,m4,m5,m6,m7⟩:=hM;unfold qc;rcases iS h with⟨e13,h⟩|⟨e13,h⟩
 ·obtain⟨e14,h⟩:=Cu h;have uC:=JH (BJ (AA.getD Cv.toNat be) M9.toNat) (0:Int) (bm.wrap ((AA.length:Int)-1));rcases iS h with⟨e16,h⟩|⟨e16,h⟩
  ·obtain⟨e17,h⟩:=Cu h;have Zu:=JH (Bu (AA.getD Cv.toNat be) M9.toNat) (0:Int) (bm.wrap (((AA.getD ((BJ (AA.getD Cv.toNat be) M9.toNat).toNat) be).length:Int)-1));rcases iS h with⟨e19,h⟩|⟨e19,h⟩
   ·obtain⟨e20,h⟩:=Cu h;rcases iS h with⟨e21,h⟩|⟨e21,h⟩
    ·cases h;simp only [↓AJ,AL,↓reduceIte,bj,bh,b5,m0,m1,m2,m3,m4,m5,m6,m7,e13,e14.1,e14.2,uC,e16,e17.1,e17.2,Zu,e19,e20.1,e20.2,e21,EC,Cx]
    ·have e21f:(((BJ (AA.getD ((BJ (AA.getD Cv.toNat be) M9.toNat).toNat) be) ((Bu (AA.getD Cv.toNat be) M9.toNat).toNat))==Cv)&&((Bu (AA.getD ((BJ (AA.getD Cv.toNat be) M9.toNat).toNat) be) ((Bu (AA.getD Cv.toNat be) M9.toNat).toNat))==M9))=false:=G8.mpr e21;cases h;simp only [↓AJ,AL,↓reduceIte,bj,bh,b5,m0,m1,m5,m6,m7,e13,e14.1,e14.2,uC,e16,e17.1,e17.2,Zu,e19,e20.1,e20.2,e21f,EC,Es,QC]
   ·have e19f:(Jz (Bu (AA.getD Cv.toNat be) M9.toNat) (0:Int) (bm.wrap (((AA.getD ((BJ (AA.getD Cv.toNat be) M9.toNat).toNat) be).length:Int)-1)))=false:=G8.mpr e19;cases h;simp only [↓AJ,AL,↓reduceIte,bj,bh,m0,m1,m5,m6,m7,e13,e14.1,e14.2,uC,e16,e17.1,e17.2,Zu,e19f,EC,Es,QC]
  ·have e16f:(Jz (BJ (AA.getD Cv.toNat be) M9.toNat) (0:Int) (bm.wrap ((AA.length:Int)-1)))=false:=G8.mpr e16;cases h;simp only [↓AJ,AL,↓reduceIte,bj,bh,m0,m1,m5,m6,m7,e13,e14.1,e14.2,uC,e16f,EC,Es,QC]
 ·cases h;simp only [↓AJ,AL,↓reduceIte,bj,bh,m0,m2,m3,m4,m6,m7,e13,EC,Es,Gf]
def Et(AA:Ad)(AZ AB:AO)(Cv:Int)(s:St):Prop:=s.v 1=b7 [bk 79 (AQ (fun x=>bk 87 (Ak .i64 .i64 x)) AA),bk 3 (AQ (bc .i64) AZ),bk 3 (AQ (bc .i64) AB)]∧s.v 37=bk 79 (AQ (fun x=>bk 87 (Ak .i64 .i64 x)) AA)∧s.v 38=bc .i64 (AA.length:Int)∧s.v 39=bc .i64 Cv
def Gm(AA:Ad)(AZ AB:AO)(r:Unit⊕Unit)(ex:Ex)(s:St):Prop:=match r with
 | .inl q=>ex= .ret∧s.v 2=bp false
 | .inr q=>ex= .exit 0
theorem fw(AA:Ad)(AZ AB:AO){v:Int}{s:St}{r:Unit⊕Unit}(h:O8 AA AZ AB v=some r)(hM:Et AA AZ AB v s):BS Y.env A5D (Gm AA AZ AB r) s:=by
 unfold O8 at h;refine Aw (c:=qd) (fun v=>JP AA AZ AB v) (fun v s=>Et AA AZ AB v s) (Gm AA AZ AB) ?_ h hM;clear h hM s v r;intro Cv s o hM h;unfold JP at h;unfold Et at hM;obtain⟨m0,m1,m2,m3⟩:=hM;unfold qd;rcases iS h with⟨e10,h⟩|⟨e10,h⟩
 ·obtain⟨e11,h⟩:=Cu h;rcases iS h with⟨e12,h⟩|⟨e12,h⟩
  ·cases h;simp only [↓AJ,AL,↓reduceIte,bj,bh,m1,m2,m3,e10,e11.1,e11.2,e12,Et,Gm,QC]
  ·obtain⟨AU,hl14,h⟩:=Ag h;try dsimp only at h
   simp only [↓AJ,AL,↓reduceIte,bj,bh,m1,m2,m3,e10,e11.1,e11.2,e12];refine Al (fu AA AZ AB Cv hl14 ?_) ?_
   ·simp only [BK,↓reduceIte,bj,m0,m1,m2,m3,EC]
   ·intro ex14 s14 hX14;rcases AU with q1000_|q1000_
    ·unfold Es at hX14;dsimp only at hX14 h;obtain⟨rfl,n14_0⟩:=hX14;cases h;simp only [↓AJ,AL,n14_0,Et,Gm,QC]
    ·unfold Es at hX14;dsimp only at hX14 h;obtain⟨rfl,n14_0,n14_1,n14_2,n14_3⟩:=hX14;cases h;simp only [↓AJ,AL,↓reduceIte,bj,bh,n14_0,n14_1,n14_2,n14_3,Et,Cx]
 ·cases h;simp only [↓AJ,AL,↓reduceIte,bh,m2,m3,e10,Et,Gm,Gf]
theorem kR(AA:Ad)(AZ AB:AO){r:Bool}(h:XF AA AZ AB=some r):Y.call 58 [bw [bk 79 (AQ (fun x=>bk 87 (Ak .i64 .i64 x)) AA),bk 3 (AQ (bc .i64) AZ),bk 3 (AQ (bc .i64) AB)]] []=some (bp r,[]):=by
 refine c58 ?_ rfl;unfold k58;unfold XF at h;have c1:=JH (AA.length:Int) (1:Int) (40:Int);rcases iS h with⟨e2,h⟩|⟨e2,h⟩
 ·obtain⟨e3,h⟩:=Cu h;have c4:=zh AZ (AA.length:Int) e3;rcases iS h with⟨e5,h⟩|⟨e5,h⟩
  ·rcases iS h with⟨e6,h⟩|⟨e6,h⟩
   ·obtain⟨e7,h⟩:=Cu h;have c8:=eU AB (0:Int) (9:Int) e7;rcases iS h with⟨e9,h⟩|⟨e9,h⟩
    ·obtain⟨Au,hl11,h⟩:=Ag h;try dsimp only at h
     simp only [↓AJ,AL,↓reduceIte,bj,bh,c1,e2,c4,e5,decide_eq_true e6,c8,e9];refine Al (fw AA AZ AB hl11 ?_) ?_
     ·simp only [BK,↓reduceIte,bj,Et]
     ·intro ex11 s11 hX11;rcases Au with q1001_|q1001_
      ·unfold Gm at hX11;dsimp only at hX11 h;obtain⟨rfl,n11_0⟩:=hX11;cases h;simp only [↓AJ,AL,↓reduceIte,n11_0]
      ·unfold Gm at hX11;dsimp only at hX11 h
       obtain rfl:=hX11
       cases h;simp only [↓AJ,AL,↓reduceIte,bj,bh]
    ·have e9f:(FO AB (0:Int) (9:Int))=false:=G8.mpr e9;cases h;simp only [↓AJ,AL,↓reduceIte,bj,bh,c1,e2,c4,e5,decide_eq_true e6,c8,e9f]
   ·cases h;simp only [↓AJ,AL,↓reduceIte,bj,bh,c1,e2,c4,e5,e6]
  ·have e5f:(YU AZ (AA.length:Int))=false:=G8.mpr e5;cases h;simp only [↓AJ,AL,↓reduceIte,bj,bh,c1,e2,c4,e5f]
 ·have e2f:(Jz (AA.length:Int) (1:Int) (40:Int))=false:=G8.mpr e2;cases h;simp only [↓AJ,AL,↓reduceIte,bj,bh,c1,e2f]
def VN(es:Ad)(v i:Nat):Bool:=
 Jz (BJ (es.getD v be) i) 0 ((es.length:Int)-1)&&
 (Jz (Bu (es.getD v be) i) 0 (((es.getD (BJ (es.getD v be) i).toNat be).length:Int)-1)&&
 ((BJ (es.getD (BJ (es.getD v be) i).toNat be) (Bu (es.getD v be) i).toNat==(v:Int))&&(Bu (es.getD (BJ (es.getD v be) i).toNat be) (Bu (es.getD v be) i).toNat==(i:Int))))
theorem Uv(es:Ad)(v i:Nat):VN es v i=(Jz (BJ (es.getD v be) i) 0 ((es.length:Int)-1)&&
 (Jz (Bu (es.getD v be) i) 0 (((es.getD (BJ (es.getD v be) i).toNat be).length:Int)-1)&&
 ((BJ (es.getD (BJ (es.getD v be) i).toNat be) (Bu (es.getD v be) i).toNat==(v:Int))&&(Bu (es.getD (BJ (es.getD v be) i).toNat be) (Bu (es.getD v be) i).toNat==(i:Int))))):=rfl
def XG(es:Ad)(v:Nat):Bool:=decide ((es.getD v be).length≤6)&&(ao (es.getD v be).length).all (VN es v)
theorem PH(es:Ad)(v:Nat):XG es v=(decide ((es.getD v be).length≤6)&&(ao (es.getD v be).length).all (VN es v)):=rfl
def Dt(es:Ad)(ids ins:AO):Bool:=
 Jz es.length 1 40&&(YU ids es.length&&(decide ((ins.length:Int)=es.length)&&(FO ins 0 9&&(ao es.length).all (XG es))))
theorem A5E(es:Ad)(ids ins:AO)(h:Cf es)(v:Nat):KG es ids ins (v:Int) 0=some (if(ao (es.getD v be).length).all (VN es v)=true then .inr ()else .inl ()):=by
 have h1:=h.1;have h2:=h.getD v;unfold KG;refine E9 (fun x=>Ev es ids ins (v:Int) x) (fun i=>(i:Int)) (es.getD v be).length (VN es v) (.inl ()) (.inr ()) ?_ ?_
 ·intro i hi;have h3:=h.getD (BJ (es.getD v be) i).toNat;simp only [Ev,ER,GQ,Cq];rw [Uv,if_pos (BU hi),BC (by omega),CB,GG _ (by omega),GG _ (by omega),Gc i (by omega)]
  cases r1:Jz (BJ (es.getD v be) i) 0 ((es.length:Int)-1)with
  |false=>simp
  |true=>
   have r1':=EA.1 r1;rw [if_pos rfl,BC (by omega),CB]
   cases r2:Jz (Bu (es.getD v be) i) 0 (((es.getD (BJ (es.getD v be) i).toNat be).length:Int)-1)with
   |false=>simp
   |true=>
    have r2':=EA.1 r2;rw [if_pos rfl,BC (by omega),BC (by omega),VV,VV]
 ·simp only [Ev,Cq];rw [if_neg (Am _)]
theorem A5F(es:Ad)(ids ins:AO)(h:Cf es)(v:Nat):O7 es ids ins (v:Int) 0=some (if(ao (es.getD v be).length).all (VN es v)=true then .inr ()else .inl ()):=by
 have h1:=h.1;have h2:=h.getD v;unfold O7;refine E9 (fun x=>JO es ids ins (v:Int) x) (fun i=>(i:Int)) (es.getD v be).length (VN es v) (.inl ()) (.inr ()) ?_ ?_
 ·intro i hi;have h3:=h.getD (BJ (es.getD v be) i).toNat;simp only [JO,Cq];rw [Uv,if_pos (BU hi),BC (by omega),GG _ (by omega),GG _ (by omega),Gc i (by omega)]
  cases r1:Jz (BJ (es.getD v be) i) 0 ((es.length:Int)-1)with
  |false=>simp
  |true=>
   have r1':=EA.1 r1;rw [if_pos rfl,BC (by omega)]
   cases r2:Jz (Bu (es.getD v be) i) 0 (((es.getD (BJ (es.getD v be) i).toNat be).length:Int)-1)with
   |false=>simp
   |true=>
    have r2':=EA.1 r2;rw [if_pos rfl,BC (by omega),VV,VV]
 ·simp only [JO,Cq];rw [if_neg (Am _)]
theorem A5G(es:Ad)(ids ins:AO)(h:Cf es):KH es ids ins 0=some (if(ao es.length).all (XG es)=true then .inr ()else .inl ()):=by
 have h1:=h.1;unfold KH;refine E9 (fun x=>Ey es ids ins x) (fun i=>(i:Int)) es.length (XG es) (.inl ()) (.inr ()) ?_ ?_
 ·intro v hv;simp only [Ey,Cq];rw [PH,if_pos (BU hv),BC (by omega),A5E es ids ins h v,CB,Gc v (by omega)]
  by_cases h6:(es.getD v be).length≤6
  ·rw [if_neg (by omega),decide_eq_true h6,VV]
   cases (ao (es.getD v be).length).all (VN es v)<;>rfl
  ·rw [if_pos (by omega),decide_eq_false h6];rfl
 ·simp only [Ey];rw [if_neg (Am _)]
theorem A5H(es:Ad)(ids ins:AO)(h:Cf es):O8 es ids ins 0=some (if(ao es.length).all (XG es)=true then .inr ()else .inl ()):=by
 have h1:=h.1;unfold O8;refine E9 (fun x=>JP es ids ins x) (fun i=>(i:Int)) es.length (XG es) (.inl ()) (.inr ()) ?_ ?_
 ·intro v hv;simp only [JP,Cq];rw [PH,if_pos (BU hv),BC (by omega),A5F es ids ins h v,CB,Gc v (by omega)]
  by_cases h6:(es.getD v be).length≤6
  ·rw [if_neg (by omega),decide_eq_true h6,VV]
   cases (ao (es.getD v be).length).all (VN es v)<;>rfl
  ·rw [if_pos (by omega),decide_eq_false h6];rfl
 ·simp only [JP];rw [if_neg (Am _)]
theorem gB(es:Ad)(ids ins:AO)(h:Cf es)(h2:ids.length<1099511627776)(h3:ins.length<1099511627776):Qc es ids ins=some (Dt es ids ins):=by
 unfold Qc Dt;rw [BC h2,A5G es ids ins h];unfold Sd;rw [BC h3]
 cases Jz es.length 1 40 with
 |false=>rfl
 |true=>
  cases YU ids es.length with
  |false=>rfl
  |true=>
   by_cases hl:(ins.length:Int)=es.length
   ·rw [if_pos hl,decide_eq_true hl]
    cases FO ins 0 9 with
    |false=>rfl
    |true=>cases (ao es.length).all (XG es)<;>rfl
   ·rw [if_neg hl,decide_eq_false hl];rfl
theorem wu(es:Ad)(ids ins:AO)(h:Cf es)(h2:ids.length<1099511627776)(h3:ins.length<1099511627776):XF es ids ins=some (Dt es ids ins):=by
 unfold XF Dt;rw [BC h2,BC h3,A5H es ids ins h]
 cases Jz es.length 1 40 with
 |false=>rfl
 |true=>
  cases YU ids es.length with
  |false=>rfl
  |true=>
   by_cases hl:(ins.length:Int)=es.length
   ·rw [if_pos hl,decide_eq_true hl]
    cases FO ins 0 9 with
    |false=>rfl
    |true=>cases (ao es.length).all (XG es)<;>rfl
   ·rw [if_neg hl,decide_eq_false hl];rfl
theorem gD(AA:Ad)(AZ AB:AO)(h0:Cf AA)(h1:AZ.length<1099511627776)(h2:AB.length<1099511627776):Y.call 40 [bw [bk 79 (AQ (fun x=>bk 87 (Ak .i64 .i64 x)) AA),bk 3 (AQ (bc .i64) AZ),bk 3 (AQ (bc .i64) AB)]] []=some (bp (Dt AA AZ AB),[]):=YV AA AZ AB (gB AA AZ AB h0 h1 h2)
theorem ZP(AA:Ad)(AZ AB:AO)(h0:Cf AA)(h1:AZ.length<1099511627776)(h2:AB.length<1099511627776):Y.call 58 [bw [bk 79 (AQ (fun x=>bk 87 (Ak .i64 .i64 x)) AA),bk 3 (AQ (bc .i64) AZ),bk 3 (AQ (bc .i64) AB)]] []=some (bp (Dt AA AZ AB),[]):=kR AA AZ AB (wu AA AZ AB h0 h1 h2)
theorem Vm{a d:Int}{ns es:AX}(h:M7 a d ns es=true):(1≤a∧a≤8)∧(1≤d∧d≤4)∧MF ns d a=true∧MF es 2 a=true:=by
 simp only [M7,El]at h
 exact⟨EA.1 h.1.1.1,EA.1 h.1.1.2,h.1.2,h.2⟩
theorem XH{l:AX}{s n:Int}(h:MF l s n=true){x:AO}(hx:x∈l):(x.length:Int)=s∧GK x=true∧FO x 0 (n-1)=true:=by
 obtain⟨i,hi,rfl⟩:=fD.1 hx;have:=Ch.1 h i hi
 unfold Qn at this;simp only [El,decide_eq_true_eq]at this
 exact⟨this.1.1.1,this.1.1.2,this.1.2⟩
theorem qf: ∀ {l:AO},GK l=true→l.Pairwise (fun a b=>a≤b):=by
 intro l
 induction l with
 |nil=>intro _;exact List.Pairwise.nil
 |cons x l ih=>
  intro h;have h0:=Ch.1 h
  have ht:GK l=true:=by
   refine Ch.2 fun i hi=> ?_;have:=h0 (i+1) (by simp only [Jw];omega)
   simpa using this
  have hp:=ih ht;refine List.pairwise_cons.2 ⟨fun y hy=> ?_,hp⟩
  cases l with
  |nil=>cases hy
  |cons z l=>
   have hz:x≤z:=by
    have:=h0 0 (by simp)
    simpa using this
   rcases Rw.1 hy with rfl|hy
   ·exact hz
   ·have:=(List.pairwise_cons.1 hp).1 y hy;omega
def KI(es:AX)(a b:Int):Bool:=es.contains (if b<a then [b,a]else [a,b])
def Mf(pL pD:Int)(pN pE:AX)(a b:Int):Option (Bool):= ck (BQ pE)<| ck ([a,b].length<1099511627776)<| ck (TK pE=true)<| some (pE.contains (Hm [a,b]))
def k88:SC:= .seq (.ops [oX 3 (.box 34 (tK 0)) 0,oX 6 Ba 4]) (.seq (.ops [oF 7 34 3 3,oL 8 22 7 22,oM 9 1 3,oM 10 2 3,oX 11 (.buildSlice 26 2 #[(0,(tK 9)),(1,(tK 10))]) 26,oC 12 117 [(tK 8),(tK 11)] [22,26] 4,oA 6 12 4]) .ret)
theorem AEO:Tryz.f88.body.map (BP lends)=some k88:=by kernel_rfl
theorem ASI:BR Tryz.f88 3=true:=by kernel_rfl
theorem c88{a l:List D}{r:D×List D}(h:BS Y.env k88 (fin Aj l.length [bt 6] r) (entry a l))(ha:a.length=3):Y.call 88 a l=some r:=
 AY (Y:=Y) rfl Tryz.func88 (ha▸ASI) AEO h
theorem V9(pL pD:Int)(pN pE:AX)(a b:Int){r:Bool}(h:Mf pL pD pN pE a b=some r):Y.call 88 [bw [bc .i64 pL,bc .i64 pD,bk 26 (AQ BX pN),bk 26 (AQ BX pE)],bc .i64 a,bc .i64 b] []=some (bp r,[]):=by
 refine c88 ?_ rfl;unfold k88;unfold Mf at h;obtain⟨e1,e2,e3,h⟩:=NC h;have c4:=NG pE [a,b] e1 e2 e3;simp only [Iw,Ul]at c4;cases h;simp (maxDischargeDepth:=9) only [↓AJ,AL,↓reduceIte,bj,bh,b5,bx,c4]
def Kh(a b:Int):Option (Int):= if a<b then some a else some b
def AEP:SC:= .seq (.ops [oX 4 (.assign (iK 0)) 3]) (.seq (.seq (.ops [oM 5 0 3,oM 6 1 3,oB 7 .lss 3 (tK 5) (tK 6) 3 4]) (.cond (tK 7) (.seq (.ops [oM 8 0 3,oA 4 8 3]) .ret) .skip)) (.seq (.ops [oM 9 1 3,oA 4 9 3]) .ret))
theorem A7p:Tryz.f114.body.map (BP lends)=some AEP:=by kernel_rfl
theorem ALy:BR Tryz.f114 2=true:=by kernel_rfl
theorem ASJ{a l:List D}{r:D×List D}(h:BS Y.env AEP (fin Aj l.length [bt 4] r) (entry a l))(ha:a.length=2):Y.call 114 a l=some r:=
 AY (Y:=Y) rfl Tryz.func114 (ha▸ALy) A7p h
theorem Mg(a b:Int){r:Int}(h:Kh a b=some r):Y.call 114 [bc .i64 a,bc .i64 b] []=some (bc .i64 r,[]):=by
 refine ASJ ?_ rfl;unfold AEP;unfold Kh at h;rcases iS h with⟨e1,h⟩|⟨e1,h⟩
 ·cases h;simp (maxDischargeDepth:=9) only [↓AJ,AL,↓reduceIte,bj,bh,e1]
 ·cases h;simp (maxDischargeDepth:=9) only [↓AJ,AL,↓reduceIte,bj,bh,e1]
def XI(a b:Int):Option (Int):= if b<a then some a else some b
def AEQ:SC:= .seq (.ops [oX 4 (.assign (iK 0)) 3]) (.seq (.seq (.ops [oM 5 0 3,oM 6 1 3,oB 7 .gtr 3 (tK 5) (tK 6) 3 4]) (.cond (tK 7) (.seq (.ops [oM 8 0 3,oA 4 8 3]) .ret) .skip)) (.seq (.ops [oM 9 1 3,oA 4 9 3]) .ret))
theorem A7q:Tryz.f123.body.map (BP lends)=some AEQ:=by kernel_rfl
theorem ALz:BR Tryz.f123 2=true:=by kernel_rfl
theorem ASL{a l:List D}{r:D×List D}(h:BS Y.env AEQ (fin Aj l.length [bt 4] r) (entry a l))(ha:a.length=2):Y.call 123 a l=some r:=
 AY (Y:=Y) rfl Tryz.func123 (ha▸ALz) A7q h
theorem kS(a b:Int){r:Int}(h:XI a b=some r):Y.call 123 [bc .i64 a,bc .i64 b] []=some (bc .i64 r,[]):=by
 refine ASL ?_ rfl;unfold AEQ;unfold XI at h;rcases iS h with⟨e1,h⟩|⟨e1,h⟩
 ·cases h;simp (maxDischargeDepth:=9) only [↓AJ,AL,↓reduceIte,bj,bh,e1]
 ·cases h;simp (maxDischargeDepth:=9) only [↓AJ,AL,↓reduceIte,bj,bh,e1]
def XJ(pL pD:Int)(pN pE:AX)(a b:Int):Option (Bool):= (Kh a b).bind fun Bt=> (XI a b).bind fun Vn=> ck (pE.length<1099511627776)<| ck ([Bt,Vn].length<1099511627776)<| some (pE.contains [Bt,Vn])
abbrev gF:List Nat:=[7,8,9,10,11,12,13,14,15,11,14,11,14,16,6,16,16]
def k94:SC:= .seq (.ops [oX 3 (.box 34 (tK 0)) 0,oX 6 Ba 4]) (.seq (.draws [(⟨[7,3,3],gF,[7]⟩,oF 7 34 3 3),(⟨[8,7,3],gF,[8]⟩,oL 8 22 7 22),(⟨[9,1,1],gF,[9]⟩,oM 9 1 3),(⟨[10,2,2],gF,[10]⟩,oM 10 2 3),(⟨[11,9,10,1,2],gF,[11]⟩,oC 11 114 [(tK 9),(tK 10)] [3,3] 3),(⟨[12,1,1],gF,[12]⟩,oM 12 1 3),(⟨[13,2,2],gF,[13]⟩,oM 13 2 3),(⟨[14,12,13,1,2],gF,[14]⟩,oC 14 123 [(tK 12),(tK 13)] [3,3] 3),(⟨[15,11,14,11,14],gF,[15,11,14,11,14]⟩,oX 15 (.buildSlice 26 2 #[(0,(tK 11)),(1,(tK 14))]) 26),(⟨[16,8,15,3,15],gF,[16]⟩,oC 16 122 [(tK 8),(tK 15)] [22,26] 4),(⟨[6,16,16],gF,[6,16,16]⟩,oA 6 16 4)]) .ret)
theorem AER:Tryz.f94.body.map (BP lends)=some k94:=by kernel_rfl
theorem ASN:BR Tryz.f94 3=true:=by kernel_rfl
theorem c94{a l:List D}{r:D×List D}(h:BS Y.env k94 (fin Aj l.length [bt 6] r) (entry a l))(ha:a.length=3):Y.call 94 a l=some r:=
 AY (Y:=Y) rfl Tryz.func94 (ha▸ASN) AER h
theorem kT(pL pD:Int)(pN pE:AX)(a b:Int){r:Bool}(h:XJ pL pD pN pE a b=some r):Y.call 94 [bw [bc .i64 pL,bc .i64 pD,bk 26 (AQ BX pN),bk 26 (AQ BX pE)],bc .i64 a,bc .i64 b] []=some (bp r,[]):=by
 refine c94 ?_ rfl;unfold k94;unfold XJ at h;obtain⟨Bt,hl1,h⟩:=Ag h;have c1:=Mg a b hl1;obtain⟨Vn,hl2,h⟩:=Ag h;have c2:=kS a b hl2;obtain⟨e3,e4,h⟩:=Dr h;have c5:=zV pE [Bt,Vn] e3 e4;simp only [Iw,Ul]at c5;cases h;simp (maxDischargeDepth:=9) only [↓AJ,AL,↓reduceIte,bj,bh,b5,bx,b9,c1,c2,c5]
theorem XK(l d:Int)(ns es:AX)(a b:Int)(h1:BQ es)(h2:TK es=true):Mf l d ns es a b=some (KI es a b):=by
 unfold Mf KI;rw [BC h1,BC (by simp),BC h2,A2S]
theorem ww(l d:Int)(ns es:AX)(a b:Int)(h1:BQ es):XJ l d ns es a b=some (KI es a b):=by
 unfold XJ Kh XI KI;by_cases q1:a<b
 ·rw [if_pos q1,if_neg (by omega),if_neg (by omega),CB,CB,BC h1.1,BC (by simp)]
 ·by_cases q2:b<a
  ·rw [if_neg q1,if_pos q2,if_pos q2,CB,CB,BC h1.1,BC (by simp)]
  ·have:a=b:=by omega
   subst this;rw [if_neg q1,if_neg q1,CB,CB,BC h1.1,BC (by simp)]
theorem Qd(pL pD:Int)(pN pE:AX)(a b:Int)(h0:BQ pE)(h1:TK pE=true):Y.call 88 [bw [bc .i64 pL,bc .i64 pD,bk 26 (AQ BX pN),bk 26 (AQ BX pE)],bc .i64 a,bc .i64 b] []=some (bp (KI pE a b),[]):=V9 pL pD pN pE a b (XK pL pD pN pE a b h0 h1)
theorem wy(pL pD:Int)(pN pE:AX)(a b:Int)(h0:BQ pE):Y.call 94 [bw [bc .i64 pL,bc .i64 pD,bk 26 (AQ BX pN),bk 26 (AQ BX pE)],bc .i64 a,bc .i64 b] []=some (bp (KI pE a b),[]):=kT pL pD pN pE a b (ww pL pD pN pE a b h0)
def Bl(n:Nat)(P:Nat→Bool):Option Nat:=(ao n).find? P
theorem qg{n:Nat}{P:Nat→Bool}(h: ∀i,i<n→P i=false):Bl n P=none:=by
 unfold Bl;rw [List.find?_eq_none];intro i hi;rw [h i (Fa.1 hi)];decide
theorem zi{n m:Nat}{P:Nat→Bool}(hm:m<n)(h:P m=true)(h0: ∀i,i<m→P i=false):Bl n P=some m:=by
 unfold Bl;rw [List.find?_range_eq_some]
 exact⟨h,Fa.2 hm,fun j hj=>by rw [h0 j hj];rfl⟩
theorem Si{n m:Nat}{P:Nat→Bool}(h:Bl n P=some m):m<n∧P m=true:=by
 unfold Bl at h
 exact⟨Fa.1 (List.mem_of_find?_eq_some h),List.find?_some h⟩
theorem A5I{σ ρ:Type}(f:σ→Option (σ⊕ρ))(st:Nat→σ)(n:Nat)(P:Nat→Bool)(hit:Nat→ρ)(miss:ρ)
  (h: ∀i,i<n→f (st i)=if P i=true then some (.inr (hit i))else some (.inl (st (i+1))))(e:f (st n)=some (.inr miss)):
  Dq f (st 0)=some (match Bl n P with|some i=>hit i|none=>miss):=by
 by_cases hp: ∀i,i<n→(!P i)=true
 ·have h0: ∀i,i<n→P i=false:=fun i hi=>by simpa using hp i hi
  rw [qg h0];exact Bn f st n miss (fun i hi=>by rw [h i hi,h0 i hi,if_neg (by decide)]) e
 ·obtain⟨m,hm,hpm,h0⟩:=SN hp;have hpm':P m=true:=by simpa using hpm
  have h0': ∀i,i<m→P i=false:=fun i hi=>by simpa using h0 i hi
  rw [zi hm hpm' h0'];exact Bn f st m (hit m) (fun i hi=>by rw [h i (by omega),h0' i hi,if_neg (by decide)]) (by rw [h m hm,if_pos hpm'])
theorem Hz{n:Nat}{P:Nat→Bool}:(Bl n P).isSome=true↔ ∃i,i<n∧P i=true:=by
 constructor
 ·intro h
  cases hq:Bl n P with
  |none=>rw [hq]at h;cases h
  |some m=>exact⟨m,Si hq⟩
 ·rintro⟨i,hi,hp⟩
  cases hq:Bl n P with
  |some m=>rfl
  |none=>
   unfold Bl at hq;rw [List.find?_eq_none]at hq;exact absurd hp (hq i (Fa.2 hi))
theorem wz{n m:Nat}{P:Nat→Bool}(h:Bl n P=some m): ∀i,i<m→P i=false:=by
 unfold Bl at h;rw [List.find?_range_eq_some]at h;intro i hi;simpa using h.2.2 i hi
theorem gG(n:Int)(h:0≤n∧n<18446744073709551616):bO.wrap n=n:=by
 unfold IntKind.wrap;simp only [IntKind.signed,IntKind.bits]
 simp
 omega
theorem AM0(y:Int)(h:0≤y∧y<1099511627776):G9 .and .u64 y 4294967295=y % 4294967296:=by
 obtain⟨n,rfl⟩:=Int.eq_ofNat_of_zero_le h.1;have hn:n<1099511627776:=by omega
 show bO.wrap (((BitVec.ofInt 64 (n:Int) &&& BitVec.ofInt 64 4294967295).toNat:Nat):Int)=_
 have e1:(BitVec.ofInt 64 (n:Int)).toNat=n:=by
  rw [BitVec.toNat_ofInt];omega
 have e2:(BitVec.ofInt 64 4294967295).toNat=4294967295:=by decide
 rw [BitVec.toNat_and,e1,e2];have e3:n &&& 4294967295=n % 4294967296:=Nat.and_two_pow_sub_one_eq_mod n 32;rw [e3,gG _ (by omega)]
 rfl
def Jq(x_ y:Int):Option (Int×Int):= some (bO.wrap ((bO.wrap ((bO.wrap ((x_.fdiv (2 ^ (min 32 (bO.bits))))*(y.fdiv (2 ^ (min 32 (bO.bits))))))+((bO.wrap ((bO.wrap ((x_.fdiv (2 ^ (min 32 (bO.bits))))*(G9 .and .u64 y 4294967295)))+((bO.wrap ((G9 .and .u64 x_ 4294967295)*(G9 .and .u64 y 4294967295))).fdiv (2 ^ (min 32 (bO.bits)))))).fdiv (2 ^ (min 32 (bO.bits))))))+((bO.wrap ((G9 .and .u64 (bO.wrap ((bO.wrap ((x_.fdiv (2 ^ (min 32 (bO.bits))))*(G9 .and .u64 y 4294967295)))+((bO.wrap ((G9 .and .u64 x_ 4294967295)*(G9 .and .u64 y 4294967295))).fdiv (2 ^ (min 32 (bO.bits)))))) 4294967295)+(bO.wrap ((G9 .and .u64 x_ 4294967295)*(y.fdiv (2 ^ (min 32 (bO.bits)))))))).fdiv (2 ^ (min 32 (bO.bits))))),bO.wrap (x_*y))
def AES:SC:= .seq (.ops [oX 4 (.assign (.const (.int .u64 0))) 135,oX 5 (.assign (.const (.int .u64 0))) 135]) (.seq (.ops [oM 14 0 135,oB 15 .and 135 (tK 14) (.const (.int .u64 4294967295)) 135 135,oA 6 15 135]) (.seq (.ops [oM 16 0 135,oB 17 .shr 135 (tK 16) (.const (.int .u64 32)) 82 135,oA 7 17 135]) (.seq (.ops [oM 18 1 135,oB 19 .and 135 (tK 18) (.const (.int .u64 4294967295)) 135 135,oA 8 19 135]) (.seq (.ops [oM 20 1 135,oB 21 .shr 135 (tK 20) (.const (.int .u64 32)) 82 135,oA 9 21 135]) (.seq (.ops [oM 22 6 135,oM 23 8 135,oB 24 .mul 135 (tK 22) (tK 23) 135 135,oA 10 24 135]) (.seq (.ops [oM 25 7 135,oM 26 8 135,oB 27 .mul 135 (tK 25) (tK 26) 135 135,oM 28 10 135,oB 29 .shr 135 (tK 28) (.const (.int .u64 32)) 82 135,oB 30 .add 135 (tK 27) (tK 29) 135 135,oA 11 30 135]) (.seq (.ops [oM 31 11 135,oB 32 .and 135 (tK 31) (.const (.int .u64 4294967295)) 135 135,oA 12 32 135]) (.seq (.ops [oM 33 11 135,oB 34 .shr 135 (tK 33) (.const (.int .u64 32)) 82 135,oA 13 34 135]) (.seq (.ops [oM 35 12 135,oM 36 6 135,oM 37 9 135,oB 38 .mul 135 (tK 36) (tK 37) 135 135,oB 39 .add 135 (tK 35) (tK 38) 135 135,oA 12 39 135]) (.seq (.ops [oM 40 7 135,oM 41 9 135,
 oB 42 .mul 135 (tK 40) (tK 41) 135 135,oM 43 13 135,oB 44 .add 135 (tK 42) (tK 43) 135 135,oM 45 12 135,oB 46 .shr 135 (tK 45) (.const (.int .u64 32)) 82 135,oB 47 .add 135 (tK 44) (tK 46) 135 135,oA 4 47 135]) (.seq (.ops [oM 48 0 135,oM 49 1 135,oB 50 .mul 135 (tK 48) (tK 49) 135 135,oA 5 50 135]) .ret)))))))))))
theorem A7r:Tryz.f133.body.map (BP lends)=some AES:=by kernel_rfl
theorem AM1:BR Tryz.f133 2=true:=by kernel_rfl
theorem ASO{a l:List D}{r:D×List D}(h:BS Y.env AES (fin Aj l.length [bt 4,bt 5] r) (entry a l))(ha:a.length=2):Y.call 133 a l=some r:=
 AY (Y:=Y) rfl Tryz.func133 (ha▸AM1) A7r h
theorem Sj(x_ y:Int){r:Int×Int}(h:Jq x_ y=some r):Y.call 133 [bc .u64 x_,bc .u64 y] []=some (D.tup [bc .u64 r.1,bc .u64 r.2],[]):=by
 refine ASO ?_ rfl;unfold AES;unfold Jq at h;cases h;simp (maxDischargeDepth:=9) only [↓AJ,AL,↓reduceIte,bj,bh,Int.reduceLT,Int.reduceToNat]
def J2(x_ y:Int):Option (Int×Int):= (Jq x_ y).bind fun kM=> some (kM.1,kM.2)
def AET:SC:= .seq (.ops [oX 4 (.assign (.const (.int .u64 0))) 82,oX 5 (.assign (.const (.int .u64 0))) 82]) (.seq (.cond LK (.seq (.ops [oM 11 0 82,oX 12 (.convert 82 132 (tK 11)) 132,oM 13 1 82,oX 14 (.convert 82 132 (tK 13)) 132,oC 15 132 [(tK 12),(tK 14)] [132,132] 133,oM 10 15 133,oE 16 10 0 132,oE 17 10 1 132,oA 6 16 132,oA 7 17 132]) (.seq (.ops [oM 18 6 132,oX 19 (.convert 132 82 (tK 18)) 82,oM 20 7 132,oX 21 (.convert 132 82 (tK 20)) 82,oA 4 19 82,oA 5 21 82]) .ret)) .skip) (.seq (.ops [oM 23 0 82,oM 24 1 82,oC 25 133 [(tK 23),(tK 24)] [135,135] 136,oM 22 25 136,oE 26 22 0 135,oE 27 22 1 135,oA 8 26 135,oA 9 27 135]) (.seq (.ops [oM 28 8 135,oM 29 9 135,oA 4 28 82,oA 5 29 82]) .ret)))
theorem A7s:Tryz.f112.body.map (BP lends)=some AET:=by kernel_rfl
theorem AM2:BR Tryz.f112 2=true:=by kernel_rfl
theorem ASP{a l:List D}{r:D×List D}(h:BS Y.env AET (fin Aj l.length [bt 4,bt 5] r) (entry a l))(ha:a.length=2):Y.call 112 a l=some r:=
 AY (Y:=Y) rfl Tryz.func112 (ha▸AM2) A7s h
theorem UJ(x_ y:Int){r:Int×Int}(h:J2 x_ y=some r):Y.call 112 [bc .u64 x_,bc .u64 y] []=some (D.tup [bc .u64 r.1,bc .u64 r.2],[]):=by
 refine ASP ?_ rfl;unfold AET;unfold J2 at h;obtain⟨kM,hl1,h⟩:=Ag h;try dsimp only at h
 have c1:=Sj x_ y hl1;cases h;simp (maxDischargeDepth:=9) only [↓AJ,AL,↓reduceIte,bj,bh,bx,c1]
theorem mul_one(n:Int)(h:0≤n∧n<1099511627776):J2 1 n=some (0,n):=by
 unfold J2 Jq;have e32:(2:Int) ^ (min 32 (bO.bits))=4294967296:=rfl;have a1:Int.fdiv 1 4294967296=0:=by decide
 have a2:G9 .and .u64 1 4294967295=1:=by decide
 have a3:Int.fdiv n 4294967296=n / 4294967296:=A33 _ (by decide)
 have w0:bO.wrap 0=0:=by decide
 have a4:Int.fdiv 0 4294967296=0:=by decide
 have a5:G9 .and .u64 0 4294967295=0:=by decide
 have a6:bO.wrap (n % 4294967296)=n % 4294967296:=gG _ (by omega)
 have a7:Int.fdiv (n % 4294967296) 4294967296=0:=by rw [A33 _ (by decide)];omega
 have a8:bO.wrap (n / 4294967296)=n / 4294967296:=gG _ (by omega)
 have a9:Int.fdiv (n / 4294967296) 4294967296=0:=by rw [A33 _ (by decide)];omega
 have aA:bO.wrap n=n:=gG _ (by omega)
 simp only [e32,a1,a2,AM0 n h,a3,Int.zero_mul,Int.one_mul,w0,CB,Int.zero_add,a4,a5,a6,a7,a8,a9,aA]
def O9(newslice:AO)(n_:Int):Option ((AO×Int)⊕(AO)):= if n_<(newslice.length:Int)then ck (0≤n_)<| ck (n_.toNat≤newslice.length)<| ck (n_.toNat+(newslice.length-n_.toNat)≤newslice.length)<| ck (0+(n_.toNat-0)≤newslice.length)<| some (bo ((spl newslice n_.toNat (((newslice.drop 0).take (n_.toNat-0)).take (min (newslice.length-n_.toNat) ((newslice.drop 0).take (n_.toNat-0)).length))),bm.wrap (n_+(((min (newslice.length-n_.toNat) ((newslice.drop 0).take (n_.toNat-0)).length):Nat):Int)))) else some (bl newslice)
def gH(v:AO×Int):Option (AO):=Dq (fun v=>O9 v.1 v.2) v
def gRp(x_:AO)(count:Int):Option (AO):= if count<0 then none else (J2 (bO.wrap (x_.length:Int)) (bO.wrap count)).bind fun Pt=> if 0<Pt.1 then none else if 9223372036854775807<Pt.2 then none else ck (0≤bm.wrap Pt.2∧bm.wrap Pt.2<1099511627776)<| (gH ((spl (ap (bm.wrap Pt.2).toNat 0) 0 (x_.take (min ((ap (bm.wrap Pt.2).toNat 0).length) x_.length))),(((min ((ap (bm.wrap Pt.2).toNat 0).length) x_.length):Nat):Int))).bind fun AU=> some AU
abbrev kU:List Nat:=[38,39,40,41,42,43,44,45,41,44,7,7,46,8,46]
def qh:SC:= .seq (.seq (.ops [oM 34 8 3,oM 35 7 26,oN 36 35 26,oB 37 .lss 3 (tK 34) (tK 36) 3 4]) (.cond (tK 37) .skip (.exit 0))) (.block 1 (.draws [(⟨[38,8,8],kU,[38]⟩,oM 38 8 3),(⟨[39,7,7],kU,[39]⟩,oM 39 7 26),(⟨[40,8,8],kU,[40]⟩,oM 40 8 3),(⟨[41,39,40,7,8],kU,[41]⟩,oX 41 (.slice 26 (tK 39) (some (tK 40)) none none) 26),(⟨[42,7,7],kU,[42]⟩,oM 42 7 26),(⟨[43,8,8],kU,[43]⟩,oM 43 8 3),(⟨[44,42,43,7,8],kU,[44]⟩,oX 44 (.slice 26 (tK 42) none (some (tK 43)) none) 26),(⟨[45,41,44,7,7],kU,[45,41,44,7,7]⟩,oX 45 (.call ⟨(.builtin .copy), #[(tK 41),(tK 44)], #[26,26]⟩) 3),(⟨[46,38,45,8,45],kU,[46]⟩,oB 46 .add 3 (tK 38) (tK 45) 3 3),(⟨[8,46,46],kU,[8,46]⟩,oA 8 46 3)]))
def A5J:SC:= .loop qh
def k81:SC:= .seq (.ops [oX 4 Gv 26]) (.seq (.seq (.ops [oM 9 1 3,oB 10 .lss 3 (tK 9) (iK 0) 3 4]) (.cond (tK 10) (.ops [oX 11 (.makeInterface 9 (.const (.string {data:= #[99,97,110,110,111,116,32,98,101,32,110,101,103,97,116,105,118,101]}))) 20,⟨none,.panic (tK 11),0,none⟩]) .skip)) (.seq (.ops [oM 13 0 26,oN 14 13 26,oX 15 (.convert 3 82 (tK 14)) 82,oM 16 1 3,oX 17 (.convert 3 82 (tK 16)) 82,oC 18 112 [(tK 15),(tK 17)] [82,82] 119,oM 12 18 119,oE 19 12 0 82,oE 20 12 1 82,oA 5 19 82,oA 6 20 82]) (.seq (.seq (.ops [oM 21 5 82,oB 22 .gtr 82 (tK 21) (.const (.int .u64 0)) 82 4,oM 23 22 4,⟨some 24,.move (tK 6),82,(some (some 23,false))⟩,⟨some 25,.binOp .gtr 82 (tK 24) (.const (.int .u64 9223372036854775807)) 82,4,(some (some 23,false))⟩,oX 26 (.pick (tK 23) Cy (tK 25)) 4]) (.cond (tK 26) (.ops [oX 27 (.makeInterface 9 (.const (.string {data:= #[116,104,101,32,114,101,115,117,108,116,32,111,102,32,40,108,101,110,40,120,41,32,42,32,99,111,117,110,116,41,32,111,118,101,114,102,108,111,119,115]}))) 20,⟨none,.panic (tK 27),0,none⟩]) .skip)) (.seq (.ops [oM 28 6 82,oX 29 (.convert 82 3 (tK 28)) 3,oX 30 (.makeSlice 26 (tK 29) (tK 29)) 900012,oA 7 30 26]) (.seq (.ops [
 oM 31 7 26,oM 32 0 26,oX 33 (.call ⟨(.builtin .copy), #[(tK 31),(tK 32)], #[26,26]⟩) 3,oA 8 33 3]) (.seq (.block 0 A5J) (.seq (.ops [oM 47 7 26,oA 4 47 26]) .ret)))))))
theorem AEU:Tryz.f81.body.map (BP lends)=some k81:=by kernel_rfl
theorem ASR:BR Tryz.f81 2=true:=by kernel_rfl
theorem c81{a l:List D}{r:D×List D}(h:BS Y.env k81 (fin Aj l.length [bt 4] r) (entry a l))(ha:a.length=2):Y.call 81 a l=some r:=
 AY (Y:=Y) rfl Tryz.func81 (ha▸ASR) AEU h
def RV(newslice:AO)(n_:Int)(s:St):Prop:=s.v 7=br 3 (AQ (bc .i64) newslice)∧s.v 8=bc .i64 n_
def XL(r:AO)(ex:Ex)(s:St):Prop:=ex= .exit 0∧s.v 7=br 3 (AQ (bc .i64) r)
theorem A2Z{v:AO×Int}{s:St}{r:AO}(h:gH v=some r)(hM:RV v.1 v.2 s):BS Y.env A5J (XL r) s:=by
 unfold gH at h;refine Aw (c:=qh) (fun v=>O9 v.1 v.2) (fun v s=>RV v.1 v.2 s) (XL) ?_ h hM;clear h hM s v r;intro v s o hM h;obtain⟨newslice,n_⟩:=v;dsimp only at h hM;unfold O9 at h;unfold RV at hM;obtain⟨m0,m1⟩:=hM;unfold qh;rcases iS h with⟨e6,h⟩|⟨e6,h⟩
 ·obtain⟨e7,e8,e9,e10,h⟩:=A26 h;cases h;simp (maxDischargeDepth:=9) only [↓AJ,AL,↓reduceIte,bj,bh,b9,m0,m1,e6,e7,e8,e9,e10,RV,Cx]
 ·cases h;simp (maxDischargeDepth:=9) only [↓AJ,AL,↓reduceIte,bj,bh,m0,m1,e6,RV,XL,Gf]
theorem XM(x_:AO)(count:Int){r:AO}(h:gRp x_ count=some r):Y.call 81 [bk 3 (AQ (bc .i64) x_),bc .i64 count] []=some (br 3 (AQ (bc .i64) r),[]):=by
 refine c81 ?_ rfl;unfold k81;unfold gRp at h;rcases iS h with⟨e1,h⟩|⟨e1,h⟩
 ·cases h
 ·obtain⟨Pt,hl2,h⟩:=Ag h;have c2:=UJ (bO.wrap (x_.length:Int)) (bO.wrap count) hl2;rcases iS h with⟨e3,h⟩|⟨e3,h⟩
  ·cases h
  ·rcases iS h with⟨e4,h⟩|⟨e4,h⟩
   ·cases h
   ·obtain⟨e5,h⟩:=Cu h;obtain⟨AU,hl7,h⟩:=Ag h;try dsimp only at h
    simp (maxDischargeDepth:=9) only [↓AJ,AL,↓reduceIte,bj,bh,b5,bx,e1,c2,e3,e4,e5.1,e5.2];refine Al (A2Z hl7 ?_) ?_
    ·simp (maxDischargeDepth:=9) only [BK,↓reduceIte,bj,RV]<;>(repeat' apply A7)<;>first|rfl|exact⟨_,rfl⟩|exact⟨_,_,rfl⟩|simp [AQ]
    ·intro ex7 s7 hX7;unfold XL at hX7;obtain⟨rfl,n7_0⟩:=hX7;cases h;simp (maxDischargeDepth:=9) only [↓AJ,AL,↓reduceIte,bj,bh,n7_0]
theorem mY(x:Int)(N:Nat)(hN:N<1099511627776)(l:AO)(k:Nat)(hl:l.length=N)(hk:k≤N)(h1:0<k∨N=0)(he:l.take k=ap k x):gH (l,(k:Int))=some (ap N x):=by
 have step: ∀(m:Nat) (v:AO×Int),(∃k:Nat,v.2=(k:Int)∧m=N-k∧v.1.length=N∧k≤N∧(0<k∨N=0)∧v.1.take k=ap k x)→
   (∃s' m',O9 v.1 v.2=some (.inl s')∧m'<m∧ ∃k:Nat,s'.2=(k:Int)∧m'=N-k∧s'.1.length=N∧k≤N∧(0<k∨N=0)∧s'.1.take k=ap k x)∨(∃r,O9 v.1 v.2=some (.inr r)∧r=ap N x):=by
  rintro m ⟨l,kk⟩ ⟨k,hkk,rfl,hl,hk,h1,he⟩
  simp only at hl he hkk;subst hkk;by_cases hlt:k<N
  ·left
   have hk0:0<k:=by omega
   have e0:((l.drop 0).take (k-0))=ap k x:=by rw [WC,Nat.sub_zero,he]
   refine⟨_,N-(k+min (N-k) k),by
    simp only [O9]
    rw [hl,if_pos (by omega),BC (by omega),Cq,BC (by omega),BC (by omega),BC (by omega),e0,MH],by omega,k+min (N-k) k, ?_,rfl, ?_,by omega,by omega, ?_⟩
   ·rw [GG _ (by omega)];omega
   ·simp only;rw [z8 _ _ _ (by simp;omega)];simp;omega
   ·simp only;rw [z8 _ _ _ (by simp;omega),List.take_replicate,he,MH,←M4,show min (min (N-k) k) k=min (N-k) k by omega,List.replicate_append_replicate,List.take_append_of_le_length (by simp),List.take_of_length_le (by simp)]
  ·right
   have hkN:k=N:=by omega
   subst hkN
   refine⟨l, ?_, ?_⟩
   ·simp only [O9];rw [if_neg (by omega)]
   ·rw [←he,List.take_of_length_le (by omega)]
 obtain⟨r,h2,h3⟩:=SL (fun v=>O9 v.1 v.2) (fun m v=> ∃k:Nat,v.2=(k:Int)∧m=N-k∧v.1.length=N∧k≤N∧(0<k∨N=0)∧v.1.take k=ap k x) (fun r=>r=ap N x) step (N-k) (l,(k:Int)) ⟨k,rfl,rfl,hl,hk,h1,he⟩;unfold gH;rw [h2,h3]
theorem XN(x:Int)(n:Int)(h:0≤n∧n<1099511627776):gRp [x] n=some (ap n.toNat x):=by
 unfold gRp;have e1:bO.wrap (([x]:AO).length:Int)=1:=by rw [gG _ (by simp)];rfl
 rw [if_neg (by omega),e1,gG n (by omega),mul_one n h,CB]
 simp only;rw [if_neg (by decide),if_neg (by omega),GG n (by omega),BC (by omega),MH]
 rcases Nat.eq_zero_or_pos n.toNat with h0|h0
 ·rw [h0];rw [show min 0 ([x]:AO).length=0 by simp]
  have:=mY x 0 (by decide) [] 0 rfl (Cc _) (.inr rfl) rfl
  simp only [List.replicate_zero,bJ,spl,EW]at this ⊢;rw [this];rfl
 ·have e2:min n.toNat ([x]:AO).length=1:=by simp;omega
  rw [e2]
  have e3:spl (ap n.toNat 0) 0 ([x].take 1)=x::ap (n.toNat-1) 0:=by
   rw [z8 _ _ _ (by simp;omega)];simp
  rw [e3,mY x n.toNat (by omega) _ 1 (by simp;omega) (by omega) (.inl (by omega)) (by simp)]
  rfl
def k41:SC:= .seq (.ops [oX 3 (.box 34 (tK 0)) 0,oX 4 (.box 38 (tK 1)) 0,oX 6 Ba 4]) (.seq (.ops [oL 7 38 4 38,oM 8 2 22,oC 9 68 [(tK 7),(tK 8)] [38,22] 4,oM 10 9 4,⟨some 11,.move (tK 2),22,(some (some 10,true))⟩,⟨some 12,.makeFunc (Fn.func 70) #[] #[(tK 3)],90,(some (some 10,true))⟩,⟨some 13,.call ⟨(.value (.func 69)), #[(tK 11),(tK 12)], #[22,90]⟩,4,(some (some 10,true))⟩,⟨some 14,.unOp .not 4 (tK 13),4,(some (some 10,true))⟩,oX 15 (.pick (tK 10) (tK 14) LK) 4,oA 6 15 4]) .ret)
theorem AEV:Tryz.f41.body.map (BP lends)=some k41:=by kernel_rfl
theorem ASS:BR Tryz.f41 3=true:=by kernel_rfl
theorem c41{a l:List D}{r:D×List D}(h:BS Y.env k41 (fin Aj l.length [bt 6] r) (entry a l))(ha:a.length=3):Y.call 41 a l=some r:=
 AY (Y:=Y) rfl Tryz.func41 (ha▸ASS) AEV h
def Ez(l out:AX)(Qo:Int):Option ((AX×Int)⊕(AX)):= if Qo<(l.length:Int)then ck (0≤Qo∧Qo.toNat<l.length)<| ck ((l.getD Qo.toNat be).length<1099511627776)<| ck (0≤Qo∧Qo.toNat<out.length)<| some (bo ((out.set Qo.toNat (l.getD Qo.toNat be)),bm.wrap (Qo+1))) else some (bl out)
def Mh(l:AX)(v:AX×Int):Option (AX):=Dq (fun v=>Ez l v.1 v.2) v
def OA(l:AX):Option (AX):= ck (0≤(l.length:Int)∧(l.length:Int)<1099511627776)<| (Mh l ((ap l.length ([]:AO)),0)).bind fun AU=> some AU
def qi:SC:= .seq (.ops [oB 11 .lss 3 (tK 10) (tK 9) 3 0]) (.seq (.cond (tK 11) .skip (.exit 0)) (.seq (.block 1 (.seq (.ops [oM 12 10 3,oA 4 12 3]) (.ops [oM 13 3 22,oM 14 4 3,oM 15 0 22,oM 16 4 3,oI 17 22 15 16,oL 18 26 17 26,oC 19 99 [(tK 18)] [26] 26,oI 20 22 13 14,oS 26 20 19]))) (.ops [oB 21 .add 3 (tK 10) (iK 1) 3 3,oM 10 21 3])))
def A5K:SC:= .loop qi
def k72:SC:= .seq (.ops [oX 2 Gv 22]) (.seq (.ops [oM 5 0 22,oN 6 5 22,oX 7 (.makeSlice 22 (tK 6) (tK 6)) 22,oA 3 7 22]) (.seq (.seq (.ops [oM 8 0 22,oN 9 8 22,oX 10 (.move (iK 0)) 3]) (.block 0 A5K)) (.seq (.ops [oM 22 3 22,oA 2 22 22]) .ret)))
theorem AEW:Tryz.f72.body.map (BP lends)=some k72:=by kernel_rfl
theorem ASU:BR Tryz.f72 1=true:=by kernel_rfl
theorem c72{a l:List D}{r:D×List D}(h:BS Y.env k72 (fin Aj l.length [bt 2] r) (entry a l))(ha:a.length=1):Y.call 72 a l=some r:=
 AY (Y:=Y) rfl Tryz.func72 (ha▸ASU) AEW h
def F3(l out:AX)(Qo:Int)(s:St):Prop:=s.v 0=bk 26 (AQ BX l)∧s.v 3=br 26 (AQ Jp out)∧s.v 9=bc .i64 (l.length:Int)∧s.v 10=bc .i64 Qo
def Ki(l:AX)(r:AX)(ex:Ex)(s:St):Prop:=ex= .exit 0∧s.v 3=br 26 (AQ Jp r)
theorem XO(l:AX){v:AX×Int}{s:St}{r:AX}(h:Mh l v=some r)(hM:F3 l v.1 v.2 s):BS Y.env A5K (Ki l r) s:=by
 unfold Mh at h;refine Aw (c:=qi) (fun v=>Ez l v.1 v.2) (fun v s=>F3 l v.1 v.2 s) (Ki l) ?_ h hM;clear h hM s v r;intro v s o hM h;obtain⟨out,Qo⟩:=v;dsimp only at h hM;unfold Ez at h;unfold F3 at hM;obtain⟨m0,m1,m2,m3⟩:=hM;unfold qi;rcases iS h with⟨e2,h⟩|⟨e2,h⟩
 ·obtain⟨e3,e4,h⟩:=Dr h;have c5:=KF (l.getD Qo.toNat be) e4;obtain⟨e6,h⟩:=Cu h;cases h;simp (maxDischargeDepth:=9) only [↓AJ,AL,↓reduceIte,bj,bh,bx,m0,m1,m2,m3,e2,e3.1,e3.2,c5,e6.2,F3,Cx]
 ·cases h;simp (maxDischargeDepth:=9) only [↓AJ,AL,↓reduceIte,bj,bh,m1,m2,m3,e2,F3,Ki,Gf]
theorem YW(l:AX){r:AX}(h:OA l=some r):Y.call 72 [bk 26 (AQ BX l)] []=some (br 26 (AQ Jp r),[]):=by
 refine c72 ?_ rfl;unfold k72;unfold OA at h;obtain⟨e1,h⟩:=Cu h;obtain⟨AU,hl3,h⟩:=Ag h;try dsimp only at h
 simp (maxDischargeDepth:=9) only [↓AJ,AL,↓reduceIte,bj,bh,b5,e1.1,e1.2];refine Al (XO l hl3 ?_) ?_
 ·simp (maxDischargeDepth:=9) only [BK,Cg,↓reduceIte,bj,bh,F3]
 ·intro ex3 s3 hX3;unfold Ki at hX3;obtain⟨rfl,n3_0⟩:=hX3;cases h;simp (maxDischargeDepth:=9) only [↓AJ,AL,↓reduceIte,bj,bh,n3_0]
def CF(t0_0 t0_1:Int)(t0_2 t0_3:AX)(t0_4:Ad)(t0_5 t0_6:AO)(t0_7:AX)(Bv BO Bc Cv:Int):Option ((Int)⊕(Unit⊕Unit)):= if Cv<t0_0 then ck (0≤(BJ (t0_4.getD Bv.toNat be) BO.toNat)∧(BJ (t0_4.getD Bv.toNat be) BO.toNat).toNat<t0_7.length)<| ck (0≤(Bu (t0_4.getD Bv.toNat be) BO.toNat)∧(Bu (t0_4.getD Bv.toNat be) BO.toNat).toNat<(t0_7.getD ((BJ (t0_4.getD Bv.toNat be) BO.toNat).toNat) be).length)<| ck (¬Cv<0)<| if(G9 .and .i64 (((t0_7.getD ((BJ (t0_4.getD Bv.toNat be) BO.toNat).toNat) be).getD ((Bu (t0_4.getD Bv.toNat be) BO.toNat).toNat) be).fdiv (2 ^ (min Cv.toNat (bm.bits)))) 1)=1 then ck (BQ t0_3)<| ck (TK t0_3=true)<| if(KI t0_3 Bc Cv)=true then some (bl (bo ())) else some (bo (bm.wrap (Cv+1))) else some (bo (bm.wrap (Cv+1))) else some (bl (bl ()))
def ED(t0_0 t0_1:Int)(t0_2 t0_3:AX)(t0_4:Ad)(t0_5 t0_6:AO)(t0_7:AX)(Bv BO Bc v:Int):Option (Unit⊕Unit):=Dq (fun v=>CF t0_0 t0_1 t0_2 t0_3 t0_4 t0_5 t0_6 t0_7 Bv BO Bc v) v
def Du(t0_0 t0_1:Int)(t0_2 t0_3:AX)(t0_4:Ad)(t0_5 t0_6:AO)(t0_7:AX)(Bv BO Bc:Int):Option (Bool):=
 ck (0≤Bv∧Bv.toNat<t0_4.length)<|
 ck (0≤BO∧BO.toNat<(t0_4.getD Bv.toNat be).length)<|
 if(((BJ (t0_4.getD Bv.toNat be) BO.toNat)==Bv)&&((Bu (t0_4.getD Bv.toNat be) BO.toNat)==BO))=true then
  ck (BQ t0_3)<|
  ck (TK t0_3=true)<|
  some (KI t0_3 Bc Bc)
 else
  (ED t0_0 t0_1 t0_2 t0_3 t0_4 t0_5 t0_6 t0_7 Bv BO Bc 0).bind fun AU=>
  match AU with
  | .inl q1000_=>
   some true
  | .inr q1000_=>
   some false
abbrev OW:List Nat:=[42,43,44,45,46,47,48,49,50,51,52,53,54,55,56,57,58,59,60,61,62,63,64,65,66]
def gI:SC:= .seq (.ops [oB 40 .lss 3 (tK 39) (tK 38) 3 4]) (.seq (.cond (tK 40) .skip (.exit 0)) (.seq (.block 1 (.seq (.ops [oM 41 39 3,oA 10 41 3]) (.seq (.draws [(⟨[42,0,0],OW,[42]⟩,oM 42 0 91),(⟨[43,42,0],OW,[43]⟩,oX 43 (.nilCheck (tK 42)) 0),(⟨[44,43,0],OW,[44]⟩,oF 44 93 43 2),(⟨[45,44,0],OW,[45]⟩,oL 45 22 44 22),(⟨[46,9,9],OW,[46]⟩,oF 46 87 9 0),(⟨[47,46,9],OW,[47]⟩,oL 47 3 46 3),(⟨[48,45,47,0,9],OW,[48]⟩,oI 48 22 45 47),(⟨[49,48,0],OW,[49]⟩,oL 49 26 48 26),(⟨[50,9,9],OW,[50]⟩,oF 50 87 9 1),(⟨[51,50,9],OW,[51]⟩,oL 51 3 50 3),(⟨[52,49,51,0,9],OW,[52]⟩,oI 52 26 49 51),(⟨[53,52,0],OW,[53]⟩,oL 53 3 52 3),(⟨[54,10,10],OW,[54]⟩,oM 54 10 3),(⟨[55,53,54,0,10],OW,[55]⟩,oB 55 .shr 3 (tK 53) (tK 54) 3 3),(⟨[56,55,55],OW,[56]⟩,oB 56 .and 3 (tK 55) (iK 1) 3 3),(⟨[57,56,56],OW,[57]⟩,oB 57 .eql 3 (tK 56) (iK 1) 3 4),(⟨[58,57,57],OW,[58]⟩,oM 58 57 4),(⟨[59,0,0,58],OW,[59]⟩,⟨some 59,.move (tK 0),91,(some (some 58,true))⟩),(⟨[60,59,0,58],OW,[60]⟩,⟨some 60,.nilCheck (tK 59),0,(some (some 58,true))⟩),(⟨[61,60,0,58],OW,[61]⟩,⟨some 61,.fieldAddr 93 (tK 60) 0,0,(some (some 58,true))⟩),(⟨[62,61,0,58],OW,[62]⟩,⟨some 62,.load 34 (tK 61),34,(some (some 58,true))⟩),(⟨[63,3,3,58],OW,[63]⟩,⟨some 63,.move (tK 3),3,(some (some 58,true))⟩),
 (⟨[64,10,10,58],OW,[64]⟩,⟨some 64,.move (tK 10),3,(some (some 58,true))⟩),(⟨[65,62,63,64,0,3,10,58],OW,[65]⟩,⟨some 65,.call ⟨(.value (.func 88)), #[(tK 62),(tK 63),(tK 64)], #[34,3,3]⟩,4,(some (some 58,true))⟩),(⟨[66,58,65,57,65],OW,[66]⟩,oX 66 (.pick (tK 58) (tK 65) LK) 4)]) (.cond (tK 66) (.seq (.ops [oX 8 (.assign Cy) 4]) .ret) .skip)))) (.ops [oB 67 .add 3 (tK 39) (iK 1) 3 3,oM 39 67 3])))
def A0i:SC:= .loop gI
def AEX:SC:= .seq (.ops [oX 8 Ba 4]) (.seq (.ops [oM 11 0 91,oX 12 (.nilCheck (tK 11)) 0,oF 13 93 12 1,oF 14 38 13 0,oL 15 36 14 36,oM 16 1 3,oI 17 36 15 16,oL 18 79 17 79,oM 19 2 3,oI 20 79 18 19,oL 21 87 20 87,oX 9 (.alloc 87) 0,oS 87 9 21]) (.seq (.seq (.ops [oL 22 87 9 87,oM 23 1 3,oM 24 2 3,oX 25 (.build 87 #[(0,(tK 23)),(1,(tK 24))]) 87,oB 26 .eql 87 (tK 22) (tK 25) 87 4]) (.cond (tK 26) (.seq (.ops [oM 27 0 91,oX 28 (.nilCheck (tK 27)) 0,oF 29 93 28 0,oL 30 34 29 34,oM 31 3 3,oM 32 3 3,oC 33 88 [(tK 30),(tK 31),(tK 32)] [34,3,3] 4,oA 8 33 4]) .ret) .skip)) (.seq (.seq (.ops [oM 34 0 91,oX 35 (.nilCheck (tK 34)) 0,oF 36 93 35 0,oF 37 34 36 0,oL 38 3 37 3,oX 39 (.move (iK 0)) 3]) (.block 0 A0i)) (.seq (.ops [oX 8 Ba 4]) .ret))))
theorem A7t:Tryz.f105.body.map (BP lends)=some AEX:=by kernel_rfl
theorem AM3:BR Tryz.f105 4=true:=by kernel_rfl
theorem ASV{a l:List D}{r:D×List D}(h:BS Y.env AEX (fin Aj l.length [bt 8] r) (entry a l))(ha:a.length=4):Y.call 105 a l=some r:=
 AY (Y:=Y) rfl Tryz.func105 (ha▸AM3) A7t h
def Bi(t0_0 t0_1:Int)(t0_2 t0_3:AX)(t0_4:Ad)(t0_5 t0_6:AO)(t0_7:AX)(Bv BO Bc Cv:Int)(s:St):Prop:=s.v 0=b8 [bc .i64 t0_0,bc .i64 t0_1,bk 26 (AQ BX t0_2),bk 26 (AQ BX t0_3),bk 79 (AQ (fun x=>bk 87 (Ak .i64 .i64 x)) t0_4),bk 3 (AQ (bc .i64) t0_5),bk 3 (AQ (bc .i64) t0_6),bk 26 (AQ BX t0_7)]∧s.v 3=bc .i64 Bc∧s.v 9=b7 [bc .i64 (BJ (t0_4.getD Bv.toNat be) BO.toNat),bc .i64 (Bu (t0_4.getD Bv.toNat be) BO.toNat)]∧s.v 38=bc .i64 t0_0∧s.v 39=bc .i64 Cv
def CG(t0_0 t0_1:Int)(t0_2 t0_3:AX)(t0_4:Ad)(t0_5 t0_6:AO)(t0_7:AX)(Bv BO Bc:Int)(r:Unit⊕Unit)(ex:Ex)(s:St):Prop:=match r with
 | .inl q=>ex= .ret∧s.v 8=bp true
 | .inr q=>ex= .exit 0
theorem Oh(t0_0 t0_1:Int)(t0_2 t0_3:AX)(t0_4:Ad)(t0_5 t0_6:AO)(t0_7:AX)(Bv BO Bc:Int){v:Int}{s:St}{r:Unit⊕Unit}(h:ED t0_0 t0_1 t0_2 t0_3 t0_4 t0_5 t0_6 t0_7 Bv BO Bc v=some r)(hM:Bi t0_0 t0_1 t0_2 t0_3 t0_4 t0_5 t0_6 t0_7 Bv BO Bc v s):BS Y.env A0i (CG t0_0 t0_1 t0_2 t0_3 t0_4 t0_5 t0_6 t0_7 Bv BO Bc r) s:=by
 unfold ED at h;refine Aw (c:=gI) (fun v=>CF t0_0 t0_1 t0_2 t0_3 t0_4 t0_5 t0_6 t0_7 Bv BO Bc v) (fun v s=>Bi t0_0 t0_1 t0_2 t0_3 t0_4 t0_5 t0_6 t0_7 Bv BO Bc v s) (CG t0_0 t0_1 t0_2 t0_3 t0_4 t0_5 t0_6 t0_7 Bv BO Bc) ?_ h hM;clear h hM s v r;intro Cv s o hM h;unfold CF at h;unfold Bi at hM;obtain⟨m0,m1,m2,m3,m4⟩:=hM;unfold gI;rcases iS h with⟨e4,h⟩|⟨e4,h⟩
 ·obtain⟨e5,e6,e7,h⟩:=NC h;rcases iS h with⟨e8,h⟩|⟨e8,h⟩
  ·obtain⟨e9,e10,h⟩:=Dr h;have c11:=Qd t0_0 t0_1 t0_2 t0_3 Bc Cv e9 e10;rcases iS h with⟨e12,h⟩|⟨e12,h⟩
   ·cases h;simp (maxDischargeDepth:=9) only [↓AJ,AL,↓reduceIte,bj,bh,b5,bx,b9,m0,m1,m2,m3,m4,e4,e5.1,e5.2,e6.1,e6.2,e7,decide_eq_true e8,c11,e12,Bi,CG,QC]
   ·have e12f:(KI t0_3 Bc Cv)=false:=G8.mpr e12;cases h;simp (maxDischargeDepth:=9) only [↓AJ,AL,↓reduceIte,bj,bh,b5,bx,b9,m0,m1,m2,m3,m4,e4,e5.1,e5.2,e6.1,e6.2,e7,decide_eq_true e8,c11,e12f,Bi,Cx]
  ·cases h;simp (maxDischargeDepth:=9) only [↓AJ,AL,↓reduceIte,bj,bh,b9,m0,m1,m2,m3,m4,e4,e5.1,e5.2,e6.1,e6.2,e7,e8,Bi,Cx]
 ·cases h;simp (maxDischargeDepth:=9) only [↓AJ,AL,↓reduceIte,bh,m3,m4,e4,Bi,CG,Gf]
theorem Pv(t0_0 t0_1:Int)(t0_2 t0_3:AX)(t0_4:Ad)(t0_5 t0_6:AO)(t0_7:AX)(Bv BO Bc:Int){r:Bool}(h:Du t0_0 t0_1 t0_2 t0_3 t0_4 t0_5 t0_6 t0_7 Bv BO Bc=some r):Y.call 105 [b8 [bc .i64 t0_0,bc .i64 t0_1,bk 26 (AQ BX t0_2),bk 26 (AQ BX t0_3),bk 79 (AQ (fun x=>bk 87 (Ak .i64 .i64 x)) t0_4),bk 3 (AQ (bc .i64) t0_5),bk 3 (AQ (bc .i64) t0_6),bk 26 (AQ BX t0_7)],bc .i64 Bv,bc .i64 BO,bc .i64 Bc] []=some (bp r,[]):=by
 refine ASV ?_ rfl;unfold AEX;unfold Du at h;obtain⟨e1,e2,h⟩:=Dr h;rcases iS h with⟨e3,h⟩|⟨e3,h⟩
 ·obtain⟨e4,e5,h⟩:=Dr h;have c6:=Qd t0_0 t0_1 t0_2 t0_3 Bc Bc e4 e5;cases h;simp (maxDischargeDepth:=9) only [↓AJ,AL,↓reduceIte,bj,bh,b5,bx,e1.1,e1.2,e2.1,e2.2,e3,c6]
 ·have e3f:(((BJ (t0_4.getD Bv.toNat be) BO.toNat)==Bv)&&((Bu (t0_4.getD Bv.toNat be) BO.toNat)==BO))=false:=G8.mpr e3;obtain⟨AU,hl5,h⟩:=Ag h;try dsimp only at h
  simp (maxDischargeDepth:=9) only [↓AJ,AL,↓reduceIte,bj,bh,b5,bx,e1.1,e1.2,e2.1,e2.2,e3f];refine Al (Oh t0_0 t0_1 t0_2 t0_3 t0_4 t0_5 t0_6 t0_7 Bv BO Bc hl5 ?_) ?_
  ·simp (maxDischargeDepth:=9) only [BK,Cg,↓reduceIte,bj,bh,Bi]
  ·intro ex5 s5 hX5;rcases AU with q1000_|q1000_
   ·unfold CG at hX5;dsimp only at hX5 h;obtain⟨rfl,n5_0⟩:=hX5;cases h;simp (maxDischargeDepth:=9) only [↓AJ,AL,↓reduceIte,n5_0]
   ·unfold CG at hX5;dsimp only at hX5 h
    obtain rfl:=hX5
    cases h;simp (maxDischargeDepth:=9) only [↓AJ,AL,↓reduceIte,bj,bh]
def Mi(pL pD:Int)(pN pE:AX)(labels:AO):Option (Bool):= ck (BQ pN)<| ck (labels.length<1099511627776)<| ck (TK pN=true)<| some (pN.contains (Hm labels))
def AEY:SC:= .seq (.ops [oX 2 (.box 34 (tK 0)) 0,oX 4 Ba 4]) (.seq (.ops [oF 5 34 2 2,oL 6 22 5 22,oM 7 1 26,oC 8 117 [(tK 6),(tK 7)] [22,26] 4,oA 4 8 4]) .ret)
theorem A7u:Tryz.f119.body.map (BP lends)=some AEY:=by kernel_rfl
theorem AM4:BR Tryz.f119 2=true:=by kernel_rfl
theorem ASW{a l:List D}{r:D×List D}(h:BS Y.env AEY (fin Aj l.length [bt 4] r) (entry a l))(ha:a.length=2):Y.call 119 a l=some r:=
 AY (Y:=Y) rfl Tryz.func119 (ha▸AM4) A7u h
theorem VA(pL pD:Int)(pN pE:AX)(labels:AO){r:Bool}(h:Mi pL pD pN pE labels=some r):Y.call 119 [bw [bc .i64 pL,bc .i64 pD,bk 26 (AQ BX pN),bk 26 (AQ BX pE)],bk 3 (AQ (bc .i64) labels)] []=some (bp r,[]):=by
 refine ASW ?_ rfl;unfold AEY;unfold Mi at h;obtain⟨e1,e2,e3,h⟩:=NC h;have c4:=NG pN labels e1 e2 e3;cases h;simp (maxDischargeDepth:=9) only [↓AJ,AL,↓reduceIte,bj,bh,bx,c4]
def CY(rec_:Int→AO→Int→Int→AX→AX→Ad→AO→AO→AX→Int→Int→Option (Bool×AO))(k c0__0 c0__1:Int)(c0__2 c0__3:AX)(c0__4:Ad)(c0__5 c0__6:AO)(c0__7:AX)(c2_ c4_ qj:Int)(t100000_0:AO):Option ((Int×AO)⊕((AO)⊕(AO))):= if qj<c0__0 then ck (0≤c4_∧c4_.toNat<c0__7.length)<| ck (0≤k∧k.toNat<(c0__7.getD c4_.toNat be).length)<| ck (¬qj<0)<| if(G9 .and .i64 (((c0__7.getD c4_.toNat be).getD k.toNat be).fdiv (2 ^ (min qj.toNat (bm.bits)))) 1)=1 then ck (0≤k∧k.toNat<t100000_0.length)<| (rec_ (bm.wrap (k+1)) (t100000_0.set k.toNat qj) c0__0 c0__1 c0__2 c0__3 c0__4 c0__5 c0__6 c0__7 c2_ c4_).bind fun ql=> if ql.1=true then some (bl (bo ql.2)) else some (bo (bm.wrap (qj+1),ql.2)) else some (bo (bm.wrap (qj+1),t100000_0)) else some (bl (bl t100000_0))
def Db(rec_:Int→AO→Int→Int→AX→AX→Ad→AO→AO→AX→Int→Int→Option (Bool×AO))(k c0__0 c0__1:Int)(c0__2 c0__3:AX)(c0__4:Ad)(c0__5 c0__6:AO)(c0__7:AX)(c2_ c4_:Int)(v:Int×AO):Option ((AO)⊕(AO)):=Dq (fun v=>CY rec_ k c0__0 c0__1 c0__2 c0__3 c0__4 c0__5 c0__6 c0__7 c2_ c4_ v.1 v.2) v
def Bw(rec_:Int→AO→Int→Int→AX→AX→Ad→AO→AO→AX→Int→Int→Option (Bool×AO))(k:Int)(o0_:AO)(c0__0 c0__1:Int)(c0__2 c0__3:AX)(c0__4:Ad)(c0__5 c0__6:AO)(c0__7:AX)(c2_ c4_:Int):Option (Bool×AO):=
 if k=c0__1 then
  (Mi c0__0 c0__1 c0__2 c0__3 o0_).bind fun AM5=>
  some (AM5,o0_)
 else
  if k=c2_ then
   (rec_ (bm.wrap (k+1)) o0_ c0__0 c0__1 c0__2 c0__3 c0__4 c0__5 c0__6 c0__7 c2_ c4_).bind fun A2T=>
   some (A2T.1,A2T.2)
  else
   (Db rec_ k c0__0 c0__1 c0__2 c0__3 c0__4 c0__5 c0__6 c0__7 c2_ c4_ (0,o0_)).bind fun AU=>
   match AU with
   | .inl q1000_=>
    some (true,q1000_)
   | .inr q1000_=>
    some (false,q1000_)
def BM:Nat→Int→AO→Int→Int→AX→AX→Ad→AO→AO→AX→Int→Int→Option (Bool×AO) |0=>fun _ _ _ _ _ _ _ _ _ _ _ _=>none |n+1=>fun k o0_ c0__0 c0__1 c0__2 c0__3 c0__4 c0__5 c0__6 c0__7 c2_ c4_=>Bw (BM n) k o0_ c0__0 c0__1 c0__2 c0__3 c0__4 c0__5 c0__6 c0__7 c2_ c4_
def I1(k:Int)(o0_:AO)(c0__0 c0__1:Int)(c0__2 c0__3:AX)(c0__4:Ad)(c0__5 c0__6:AO)(c0__7:AX)(c2_ c4_:Int):Option (Bool×AO):=BM 1000000 k o0_ c0__0 c0__1 c0__2 c0__3 c0__4 c0__5 c0__6 c0__7 c2_ c4_
abbrev XP:List Nat:=[39,40,41,42,43,44,45,46,47,48,49,50,51,52]
def gJ:SC:= .seq (.ops [oB 37 .lss 3 (tK 36) (tK 35) 3 4]) (.seq (.cond (tK 37) .skip (.exit 1)) (.seq (.block 2 (.seq (.ops [oM 38 36 3,oA 8 38 3]) (.seq (.draws [(⟨[39,1,1],XP,[39]⟩,oL 39 91 1 91),(⟨[40,39,1],XP,[40]⟩,oX 40 (.nilCheck (tK 39)) 0),(⟨[41,40,1],XP,[41]⟩,oF 41 93 40 2),(⟨[42,41,1],XP,[42]⟩,oL 42 22 41 22),(⟨[43,5,5],XP,[43]⟩,oL 43 3 5 3),(⟨[44,42,43,1,5],XP,[44]⟩,oI 44 22 42 43),(⟨[45,44,1],XP,[45]⟩,oL 45 26 44 26),(⟨[46,0,0],XP,[46]⟩,oM 46 0 3),(⟨[47,45,46,1,0],XP,[47]⟩,oI 47 26 45 46),(⟨[48,47,1],XP,[48]⟩,oL 48 3 47 3),(⟨[49,8,8],XP,[49]⟩,oM 49 8 3),(⟨[50,48,49,1,8],XP,[50]⟩,oB 50 .shr 3 (tK 48) (tK 49) 3 3),(⟨[51,50,50],XP,[51]⟩,oB 51 .and 3 (tK 50) (iK 1) 3 3),(⟨[52,51,51],XP,[52]⟩,oB 52 .eql 3 (tK 51) (iK 1) 3 4)]) (.cond (tK 52) (.seq (.ops [oL 53 26 2 26,oM 54 0 3,oM 55 8 3,oI 56 26 53 54,oS 3 56 55]) (.seq (.ops [oL 57 105 4 105,oM 58 0 3,oB 59 .add 3 (tK 58) (iK 1) 3 3,oX 60 (.call ⟨(.value (tK 57)), #[(tK 59)], #[3]⟩) 4]) (.cond (tK 60) (.seq (.ops [oX 7 (.assign Cy) 4]) .ret) .skip))) .skip)))) (.ops [oB 61 .add 3 (tK 36) (iK 1) 3 3,oM 36 61 3])))
def A0j:SC:= .loop gJ
abbrev zk:List Nat:=[17,18,19,20,21,22,7,22,22]
def AEZ:SC:= .seq (.ops [oX 7 Ba 4]) (.seq (.block 0 (.seq (.ops [oM 10 0 3,oL 11 91 1 91,oX 12 (.nilCheck (tK 11)) 0,oF 13 93 12 0,oF 14 34 13 1,oL 15 3 14 3,oB 16 .eql 3 (tK 10) (tK 15) 3 4,oA 9 16 4]) (.cond (tK 9) (.seq (.draws [(⟨[17,1,1],zk,[17]⟩,oL 17 91 1 91),(⟨[18,17,1],zk,[18]⟩,oX 18 (.nilCheck (tK 17)) 0),(⟨[19,18,1],zk,[19]⟩,oF 19 93 18 0),(⟨[20,19,1],zk,[20]⟩,oL 20 34 19 34),(⟨[21,2,2],zk,[21]⟩,oL 21 26 2 26),(⟨[22,20,21,1,2],zk,[22]⟩,oC 22 119 [(tK 20),(tK 21)] [34,26] 4),(⟨[7,22,22],zk,[7,22,22]⟩,oA 7 22 4)]) .ret) (.seq (.ops [oM 24 0 3,oL 25 3 3 3,oB 26 .eql 3 (tK 24) (tK 25) 3 4,oA 23 26 4]) (.cond (tK 23) (.seq (.ops [oL 27 105 4 105,oM 28 0 3,oB 29 .add 3 (tK 28) (iK 1) 3 3,oX 30 (.call ⟨(.value (tK 27)), #[(tK 29)], #[3]⟩) 4,oA 7 30 4]) .ret) .skip))))) (.seq (.seq (.ops [oL 31 91 1 91,oX 32 (.nilCheck (tK 31)) 0,oF 33 93 32 0,oF 34 34 33 0,oL 35 3 34 3,oX 36 (.move (iK 0)) 3]) (.block 1 A0j)) (.seq (.ops [oX 7 Ba 4]) .ret)))
theorem A7v:Tryz.f130.body.map (BP lends)=some AEZ:=by kernel_rfl
theorem AM6:BR Tryz.f130 6=true:=by kernel_rfl
theorem ASX{a l:List D}{r:D×List D}(h:BS Y.env AEZ (fin Aj l.length [bt 7] r) (entry a l))(ha:a.length=6):Y.call 130 a l=some r:=
 AY (Y:=Y) rfl Tryz.func130 (ha▸AM6) A7v h
def BZ(rec_:Int→AO→Int→Int→AX→AX→Ad→AO→AO→AX→Int→Int→Option (Bool×AO))(k c0__0 c0__1:Int)(c0__2 c0__3:AX)(c0__4:Ad)(c0__5 c0__6:AO)(c0__7:AX)(c2_ c4_ qj:Int)(t100000_0:AO)(s:St):Prop:=s.v 0=bc .i64 k∧s.v 1=b8 [b8 [bc .i64 c0__0,bc .i64 c0__1,bk 26 (AQ BX c0__2),bk 26 (AQ BX c0__3),bk 79 (AQ (fun x=>bk 87 (Ak .i64 .i64 x)) c0__4),bk 3 (AQ (bc .i64) c0__5),bk 3 (AQ (bc .i64) c0__6),bk 26 (AQ BX c0__7)]]∧(∃w_,s.v 2=D.vw [100000] (s.k 100000) w_)∧(∃w_,s.v 4=D.ocl true 130 [b8 [b8 [bc .i64 c0__0,bc .i64 c0__1,bk 26 (AQ BX c0__2),bk 26 (AQ BX c0__3),bk 79 (AQ (fun x=>bk 87 (Ak .i64 .i64 x)) c0__4),bk 3 (AQ (bc .i64) c0__5),bk 3 (AQ (bc .i64) c0__6),bk 26 (AQ BX c0__7)]],D.vw [100000] (s.k 100000) w_,b8 [bc .i64 c2_],D.undef,b8 [bc .i64 c4_]])∧s.v 5=b8 [bc .i64 c4_]∧s.v 35=bc .i64 c0__0∧s.v 36=bc .i64 qj∧s.v 100000=b7 [br 3 (AQ (bc .i64) t100000_0)]
def Bz(rec_:Int→AO→Int→Int→AX→AX→Ad→AO→AO→AX→Int→Int→Option (Bool×AO))(k c0__0 c0__1:Int)(c0__2 c0__3:AX)(c0__4:Ad)(c0__5 c0__6:AO)(c0__7:AX)(c2_ c4_:Int)(r:(AO)⊕(AO))(ex:Ex)(s:St):Prop:=match r with
 | .inl q=>ex= .ret∧s.v 7=bp true∧s.v 100000=b7 [br 3 (AQ (bc .i64) q)]
 | .inr q=>ex= .exit 1∧s.v 100000=b7 [br 3 (AQ (bc .i64) q)]
theorem OB(rec_:Int→AO→Int→Int→AX→AX→Ad→AO→AO→AX→Int→Int→Option (Bool×AO))(k c0__0 c0__1:Int)(c0__2 c0__3:AX)(c0__4:Ad)(c0__5 c0__6:AO)(c0__7:AX)(c2_ c4_:Int)(rec_h: ∀(k:Int) (o0_:AO) (c0__0 c0__1:Int) (c0__2 c0__3:AX) (c0__4:Ad) (c0__5 c0__6:AO) (c0__7:AX) (c2_ c4_:Int) (r:Bool×AO),rec_ k o0_ c0__0 c0__1 c0__2 c0__3 c0__4 c0__5 c0__6 c0__7 c2_ c4_=some r→Y.call 130 [bc .i64 k,b8 [b8 [bc .i64 c0__0,bc .i64 c0__1,bk 26 (AQ BX c0__2),bk 26 (AQ BX c0__3),bk 79 (AQ (fun x=>bk 87 (Ak .i64 .i64 x)) c0__4),bk 3 (AQ (bc .i64) c0__5),bk 3 (AQ (bc .i64) c0__6),bk 26 (AQ BX c0__7)]],D.vw [100000] 0 0,b8 [bc .i64 c2_],D.ocl true 130 [b8 [b8 [bc .i64 c0__0,bc .i64 c0__1,bk 26 (AQ BX c0__2),bk 26 (AQ BX c0__3),bk 79 (AQ (fun x=>bk 87 (Ak .i64 .i64 x)) c0__4),bk 3 (AQ (bc .i64) c0__5),bk 3 (AQ (bc .i64) c0__6),bk 26 (AQ BX c0__7)]],D.vw [100000] 0 0,b8 [bc .i64 c2_],D.undef,b8 [bc .i64 c4_]],b8 [bc .i64 c4_]] [b7 [br 3 (AQ (bc .i64) o0_)]]=some (bp r.1,[b7 [br 3 (AQ (bc .i64) r.2)]])){v:Int×AO}{s:St}{r:(AO)⊕(AO)}(h:Db rec_ k c0__0 c0__1 c0__2 c0__3 c0__4 c0__5 c0__6 c0__7 c2_ c4_ v=some r)(hM:BZ rec_ k c0__0 c0__1 c0__2 c0__3 c0__4 c0__5 c0__6 c0__7 c2_ c4_ v.1 v.2 s):BS Y.env A0j (Bz rec_ k c0__0 c0__1 c0__2 c0__3 c0__4 c0__5 c0__6 c0__7 c2_ c4_ r) s:=by
 unfold Db at h;refine Aw (c:=gJ) (fun v=>CY rec_ k c0__0 c0__1 c0__2 c0__3 c0__4 c0__5 c0__6 c0__7 c2_ c4_ v.1 v.2) (fun v s=>BZ rec_ k c0__0 c0__1 c0__2 c0__3 c0__4 c0__5 c0__6 c0__7 c2_ c4_ v.1 v.2 s) (Bz rec_ k c0__0 c0__1 c0__2 c0__3 c0__4 c0__5 c0__6 c0__7 c2_ c4_) ?_ h hM;clear h hM s v r;intro v s o hM h;obtain⟨qj,t100000_0⟩:=v;dsimp only at h hM;unfold CY at h;unfold BZ at hM;obtain⟨m0,m1,⟨w2_,m2⟩,⟨w3_,m3⟩,m4,m5,m6,m7⟩:=hM;unfold gJ;rcases iS h with⟨e3,h⟩|⟨e3,h⟩
 ·obtain⟨e4,e5,e6,h⟩:=NC h;rcases iS h with⟨e7,h⟩|⟨e7,h⟩
  ·obtain⟨e8,h⟩:=Cu h;obtain⟨ql,hl9,h⟩:=Ag h;have c9:=rec_h _ _ _ _ _ _ _ _ _ _ _ _ _ hl9;rcases iS h with⟨e10,h⟩|⟨e10,h⟩
   ·cases h;simp (maxDischargeDepth:=9) only [↓AJ,AL,↓reduceIte,bj,bh,bx,m0,m1,m2,m3,m4,m5,m6,m7,e3,e4.1,e4.2,e5.1,e5.2,e6,decide_eq_true e7,e8.2,c9,e10,BZ,Bz,QC]
   ·have e10f:ql.1=false:=G8.mpr e10;cases h;simp (maxDischargeDepth:=9) only [↓AJ,AL,↓reduceIte,bj,bh,bx,m0,m1,m2,m3,m4,m5,m6,m7,e3,e4.1,e4.2,e5.1,e5.2,e6,decide_eq_true e7,e8.2,c9,e10f,BZ,Cx]<;>(repeat' apply A7)<;>first|rfl|exact⟨_,rfl⟩|exact⟨_,_,rfl⟩|simp [AQ,Ay]
  ·cases h;simp (maxDischargeDepth:=9) only [↓AJ,AL,↓reduceIte,bj,bh,m0,m1,m2,m3,m4,m5,m6,m7,e3,e4.1,e4.2,e5.1,e5.2,e6,e7,BZ,Cx]<;>(repeat' apply A7)<;>first|rfl|exact⟨_,rfl⟩|exact⟨_,_,rfl⟩|simp [AQ,Ay]
 ·cases h;simp (maxDischargeDepth:=9) only [↓AJ,AL,↓reduceIte,bj,bh,m5,m6,m7,e3,BZ,Bz,Gf]
theorem NJ(rec_:Int→AO→Int→Int→AX→AX→Ad→AO→AO→AX→Int→Int→Option (Bool×AO))(k:Int)(o0_:AO)(c0__0 c0__1:Int)(c0__2 c0__3:AX)(c0__4:Ad)(c0__5 c0__6:AO)(c0__7:AX)(c2_ c4_:Int)(rec_h: ∀(k:Int) (o0_:AO) (c0__0 c0__1:Int) (c0__2 c0__3:AX) (c0__4:Ad) (c0__5 c0__6:AO) (c0__7:AX) (c2_ c4_:Int) (r:Bool×AO),rec_ k o0_ c0__0 c0__1 c0__2 c0__3 c0__4 c0__5 c0__6 c0__7 c2_ c4_=some r→Y.call 130 [bc .i64 k,b8 [b8 [bc .i64 c0__0,bc .i64 c0__1,bk 26 (AQ BX c0__2),bk 26 (AQ BX c0__3),bk 79 (AQ (fun x=>bk 87 (Ak .i64 .i64 x)) c0__4),bk 3 (AQ (bc .i64) c0__5),bk 3 (AQ (bc .i64) c0__6),bk 26 (AQ BX c0__7)]],D.vw [100000] 0 0,b8 [bc .i64 c2_],D.ocl true 130 [b8 [b8 [bc .i64 c0__0,bc .i64 c0__1,bk 26 (AQ BX c0__2),bk 26 (AQ BX c0__3),bk 79 (AQ (fun x=>bk 87 (Ak .i64 .i64 x)) c0__4),bk 3 (AQ (bc .i64) c0__5),bk 3 (AQ (bc .i64) c0__6),bk 26 (AQ BX c0__7)]],D.vw [100000] 0 0,b8 [bc .i64 c2_],D.undef,b8 [bc .i64 c4_]],b8 [bc .i64 c4_]] [b7 [br 3 (AQ (bc .i64) o0_)]]=some (bp r.1,[b7 [br 3 (AQ (bc .i64) r.2)]])){r:Bool×AO}(h:Bw rec_ k o0_ c0__0 c0__1 c0__2 c0__3 c0__4 c0__5 c0__6 c0__7 c2_ c4_=some r):Y.call 130 [bc .i64 k,b8 [b8 [bc .i64 c0__0,bc .i64 c0__1,bk 26 (AQ BX c0__2),bk 26 (AQ BX c0__3),bk 79 (AQ (fun x=>bk 87 (Ak .i64 .i64 x)) c0__4),bk 3 (AQ (bc .i64) c0__5),bk 3 (AQ (bc .i64) c0__6),bk 26 (AQ BX c0__7)]],D.vw [100000] 0 0,b8 [bc .i64 c2_],D.ocl true 130 [b8 [b8 [bc .i64 c0__0,bc .i64 c0__1,bk 26 (AQ BX c0__2),bk 26 (AQ BX c0__3),bk 79 (AQ (fun x=>bk 87 (Ak .i64 .i64 x)) c0__4),bk 3 (AQ (bc .i64) c0__5),bk 3 (AQ (bc .i64) c0__6),bk 26 (AQ BX c0__7)]],D.vw [100000] 0 0,b8 [bc .i64 c2_],D.undef,b8 [bc .i64 c4_]],b8 [bc .i64 c4_]] [b7 [br 3 (AQ (bc .i64) o0_)]]=some (bp r.1,[b7 [br 3 (AQ (bc .i64) r.2)]]):=by
 refine ASX ?_ rfl;unfold AEZ;unfold Bw at h;rcases iS h with⟨e1,h⟩|⟨e1,h⟩
 ·obtain⟨AM5,hl2,h⟩:=Ag h;try dsimp only at h
  have c2:=VA c0__0 c0__1 c0__2 c0__3 o0_ hl2;cases h;simp (maxDischargeDepth:=9) only [↓AJ,AL,↓reduceIte,bj,bh,b5,bx,cb,b9,decide_eq_true e1,c2]
 ·rcases iS h with⟨e2,h⟩|⟨e2,h⟩
  ·obtain⟨A2T,hl3,h⟩:=Ag h;try dsimp only at h
   have c3:=rec_h _ _ _ _ _ _ _ _ _ _ _ _ _ hl3;cases h;simp (maxDischargeDepth:=9) only [↓AJ,AL,↓reduceIte,bj,bh,bx,cb,e1,decide_eq_true e2,c3]
  ·obtain⟨AU,hl4,h⟩:=Ag h;try dsimp only at h
   simp (maxDischargeDepth:=9) only [↓AJ,AL,↓reduceIte,bj,bh,bx,e1,e2];refine Al (OB rec_ k c0__0 c0__1 c0__2 c0__3 c0__4 c0__5 c0__6 c0__7 c2_ c4_ rec_h hl4 ?_) ?_
   ·simp (maxDischargeDepth:=9) only [BK,Cg,↓reduceIte,bj,bh,cb,BZ]<;>(repeat' apply A7)<;>first|rfl|exact⟨_,rfl⟩|exact⟨_,_,rfl⟩|simp [AQ,Ay]
   ·intro ex4 s4 hX4;rcases AU with q1000_|q1000_
    ·unfold Bz at hX4;dsimp only at hX4 h;obtain⟨rfl,n4_0,n4_1⟩:=hX4;cases h;simp (maxDischargeDepth:=9) only [↓AJ,AL,↓reduceIte,n4_0,n4_1]
    ·unfold Bz at hX4;dsimp only at hX4 h;obtain⟨rfl,n4_0⟩:=hX4;cases h;simp (maxDischargeDepth:=9) only [↓AJ,AL,↓reduceIte,bj,bh,n4_0]
theorem NK(n:Nat): ∀(k:Int) (o0_:AO) (c0__0:Int) (c0__1:Int) (c0__2:AX) (c0__3:AX) (c0__4:Ad) (c0__5:AO) (c0__6:AO) (c0__7:AX) (c2_:Int) (c4_:Int) (r:Bool×AO),BM n k o0_ c0__0 c0__1 c0__2 c0__3 c0__4 c0__5 c0__6 c0__7 c2_ c4_=some r→Y.call 130 [bc .i64 k,b8 [b8 [bc .i64 c0__0,bc .i64 c0__1,bk 26 (AQ BX c0__2),bk 26 (AQ BX c0__3),bk 79 (AQ (fun x=>bk 87 (Ak .i64 .i64 x)) c0__4),bk 3 (AQ (bc .i64) c0__5),bk 3 (AQ (bc .i64) c0__6),bk 26 (AQ BX c0__7)]],D.vw [100000] 0 0,b8 [bc .i64 c2_],D.ocl true 130 [b8 [b8 [bc .i64 c0__0,bc .i64 c0__1,bk 26 (AQ BX c0__2),bk 26 (AQ BX c0__3),bk 79 (AQ (fun x=>bk 87 (Ak .i64 .i64 x)) c0__4),bk 3 (AQ (bc .i64) c0__5),bk 3 (AQ (bc .i64) c0__6),bk 26 (AQ BX c0__7)]],D.vw [100000] 0 0,b8 [bc .i64 c2_],D.undef,b8 [bc .i64 c4_]],b8 [bc .i64 c4_]] [b7 [br 3 (AQ (bc .i64) o0_)]]=some (bp r.1,[b7 [br 3 (AQ (bc .i64) r.2)]]):=by
 induction n with
 |zero=>intro k o0_ c0__0 c0__1 c0__2 c0__3 c0__4 c0__5 c0__6 c0__7 c2_ c4_ r h;exact absurd h (by rw [BM];exact fun e=>by cases e)
 |succ n ih=>intro k o0_ c0__0 c0__1 c0__2 c0__3 c0__4 c0__5 c0__6 c0__7 c2_ c4_ r h;rw [BM]at h;exact NJ (BM n) k o0_ c0__0 c0__1 c0__2 c0__3 c0__4 c0__5 c0__6 c0__7 c2_ c4_ ih h
theorem OX(k:Int)(o0_:AO)(c0__0 c0__1:Int)(c0__2 c0__3:AX)(c0__4:Ad)(c0__5 c0__6:AO)(c0__7:AX)(c2_ c4_:Int){r:Bool×AO}(h:I1 k o0_ c0__0 c0__1 c0__2 c0__3 c0__4 c0__5 c0__6 c0__7 c2_ c4_=some r):Y.call 130 [bc .i64 k,b8 [b8 [bc .i64 c0__0,bc .i64 c0__1,bk 26 (AQ BX c0__2),bk 26 (AQ BX c0__3),bk 79 (AQ (fun x=>bk 87 (Ak .i64 .i64 x)) c0__4),bk 3 (AQ (bc .i64) c0__5),bk 3 (AQ (bc .i64) c0__6),bk 26 (AQ BX c0__7)]],D.vw [100000] 0 0,b8 [bc .i64 c2_],D.ocl true 130 [b8 [b8 [bc .i64 c0__0,bc .i64 c0__1,bk 26 (AQ BX c0__2),bk 26 (AQ BX c0__3),bk 79 (AQ (fun x=>bk 87 (Ak .i64 .i64 x)) c0__4),bk 3 (AQ (bc .i64) c0__5),bk 3 (AQ (bc .i64) c0__6),bk 26 (AQ BX c0__7)]],D.vw [100000] 0 0,b8 [bc .i64 c2_],D.undef,b8 [bc .i64 c4_]],b8 [bc .i64 c4_]] [b7 [br 3 (AQ (bc .i64) o0_)]]=some (bp r.1,[b7 [br 3 (AQ (bc .i64) r.2)]]):=NK 1000000 k o0_ c0__0 c0__1 c0__2 c0__3 c0__4 c0__5 c0__6 c0__7 c2_ c4_ r h
def Dw(m_0 m_1:Int)(m_2 m_3:AX)(m_4:Ad)(m_5 m_6:AO)(m_7:AX)(v_ i a:Int):Option (Bool):= (gRp [(-1)] m_1).bind fun zm=> ck (0≤i∧i.toNat<zm.length)<| (I1 (0:Int) (zm.set i.toNat a) m_0 m_1 m_2 m_3 m_4 m_5 m_6 m_7 i v_).bind fun NL=> some NL.1
def AEa:SC:= .seq (.ops [oX 4 (.box 91 (tK 0)) 0,oX 5 (.box 3 (tK 1)) 0,oX 6 (.box 3 (tK 2)) 0,oX 8 Ba 4]) (.seq (.ops [oX 11 (.buildSlice 26 1 #[(0,wL)]) 26,oL 12 91 4 91,oX 13 (.nilCheck (tK 12)) 0,oF 14 93 13 0,oF 15 34 14 1,oL 16 3 15 3,oC 17 81 [(tK 11),(tK 16)] [26,3] 26,oX 9 (.alloc 26) 0,oS 26 9 17]) (.seq (.ops [oL 18 26 9 26,oL 19 3 6 3,oM 20 3 3,oI 21 26 18 19,oS 3 21 20]) (.seq (.ops [oX 10 (.alloc 105) 0]) (.seq (.ops [oX 22 (.makeFunc (Fn.func 130) #[] #[(tK 4),(tK 9),(tK 6),(tK 10),(tK 5)]) 3000010,⟨none,(.store 105 (tK 10) (tK 22)),900010,none⟩]) (.seq (.ops [oL 23 105 10 105,oX 24 (.call ⟨(.value (tK 23)), #[(iK 0)], #[3]⟩) 4,oA 8 24 4]) .ret)))))
theorem A7w:Tryz.f106.body.map (BP lends)=some AEa:=by kernel_rfl
theorem AM7:BR Tryz.f106 4=true:=by kernel_rfl
theorem ASY{a l:List D}{r:D×List D}(h:BS Y.env AEa (fin Aj l.length [bt 8] r) (entry a l))(ha:a.length=4):Y.call 106 a l=some r:=
 AY (Y:=Y) rfl Tryz.func106 (ha▸AM7) A7w h
theorem Pw(m_0 m_1:Int)(m_2 m_3:AX)(m_4:Ad)(m_5 m_6:AO)(m_7:AX)(v_ i a:Int){r:Bool}(h:Dw m_0 m_1 m_2 m_3 m_4 m_5 m_6 m_7 v_ i a=some r):Y.call 106 [b8 [bc .i64 m_0,bc .i64 m_1,bk 26 (AQ BX m_2),bk 26 (AQ BX m_3),bk 79 (AQ (fun x=>bk 87 (Ak .i64 .i64 x)) m_4),bk 3 (AQ (bc .i64) m_5),bk 3 (AQ (bc .i64) m_6),bk 26 (AQ BX m_7)],bc .i64 v_,bc .i64 i,bc .i64 a] []=some (bp r,[]):=by
 refine ASY ?_ rfl;unfold AEa;unfold Dw at h;obtain⟨zm,hl1,h⟩:=Ag h;try dsimp only at h
 have c1:=XM [(-1)] m_1 hl1;simp only [Iw,Ul]at c1;obtain⟨e2,h⟩:=Cu h;obtain⟨NL,hl3,h⟩:=Ag h;try dsimp only at h
 have c3:=OX (0:Int) (zm.set i.toNat a) m_0 m_1 m_2 m_3 m_4 m_5 m_6 m_7 i v_ hl3;cases h;simp (maxDischargeDepth:=9) only [↓AJ,AL,↓reduceIte,bj,bh,b5,bx,Nat.reduceMod,Nat.reduceDiv,Nat.reducePow,cb,Int.reduceNeg,c1,e2.1,e2.2,c3]
def DC(t0_0 t0_1:Int)(t0_2 t0_3:AX)(t0_4:Ad)(t0_5 t0_6:AO)(t0_7:AX)(Bb:Int)(t100000_7:AX)(Ci:Int)(t3_2:Bool)(UK:Int)(t100000_72:AX):Option ((Bool×Int×AX)⊕(Bool×AX)):= if UK<t0_0 then ck (0≤Bb∧Bb.toNat<t100000_72.length)<| ck (0≤Ci∧Ci.toNat<(t100000_72.getD Bb.toNat be).length)<| ck (¬UK<0)<| if(G9 .and .i64 (((t100000_72.getD Bb.toNat be).getD Ci.toNat be).fdiv (2 ^ (min UK.toNat (bm.bits)))) 1)=0 then some (bo (t3_2,bm.wrap (UK+1),t100000_72)) else (Du t0_0 t0_1 t0_2 t0_3 t0_4 t0_5 t0_6 t100000_72 Bb Ci UK).bind fun AEb=> if AEb=true then if((t100000_72.getD Bb.toNat be).length:Int)=t0_1 then (Dw t0_0 t0_1 t0_2 t0_3 t0_4 t0_5 t0_6 t100000_72 Bb Ci UK).bind fun AEc=> if AEc=true then some (bo (t3_2,bm.wrap (UK+1),t100000_72)) else some (bo (true,bm.wrap (UK+1),(t100000_72.set Bb.toNat ((t100000_72.getD Bb.toNat be).set Ci.toNat (G9 .andNot .i64 ((t100000_72.getD Bb.toNat be).getD Ci.toNat be) (bm.wrap (1*2 ^ (min UK.toNat (bm.bits))))))))) else some (bo (t3_2,bm.wrap (UK+1),t100000_72)) else some (bo (true,bm.wrap (UK+1),(t100000_72.set Bb.toNat ((t100000_72.getD Bb.toNat be).set Ci.toNat (G9 .andNot .i64 ((t100000_72.getD Bb.toNat be).getD Ci.toNat be) (bm.wrap (1*2 ^ (min UK.toNat (bm.bits)))))))))
 else some (bl (t3_2,t100000_72))
def Ih(t0_0 t0_1:Int)(t0_2 t0_3:AX)(t0_4:Ad)(t0_5 t0_6:AO)(t0_7:AX)(Bb:Int)(t100000_7:AX)(Ci:Int)(v:Bool×Int×AX):Option (Bool×AX):=Dq (fun v=>DC t0_0 t0_1 t0_2 t0_3 t0_4 t0_5 t0_6 t0_7 Bb t100000_7 Ci v.1 v.2.1 v.2.2) v
def DD(t0_0 t0_1:Int)(t0_2 t0_3:AX)(t0_4:Ad)(t0_5 t0_6:AO)(t0_7:AX)(Bb:Int)(t100000_7:AX)(t3_1:Bool)(Ci:Int)(t100000_71:AX):Option ((Bool×Int×AX)⊕(Bool×AX)):= if Ci<((t100000_7.getD Bb.toNat be).length:Int)then (Ih t0_0 t0_1 t0_2 t0_3 t0_4 t0_5 t0_6 t0_7 Bb t100000_7 Ci (t3_1,0,t100000_71)).bind fun AU=> some (bo (AU.1,bm.wrap (Ci+1),AU.2)) else some (bl (t3_1,t100000_71))
def Ii(t0_0 t0_1:Int)(t0_2 t0_3:AX)(t0_4:Ad)(t0_5 t0_6:AO)(t0_7:AX)(Bb:Int)(t100000_7:AX)(v:Bool×Int×AX):Option (Bool×AX):=Dq (fun v=>DD t0_0 t0_1 t0_2 t0_3 t0_4 t0_5 t0_6 t0_7 Bb t100000_7 v.1 v.2.1 v.2.2) v
def DF(t0_0 t0_1:Int)(t0_2 t0_3:AX)(t0_4:Ad)(t0_5 t0_6:AO)(t0_7:AX)(Bc:Bool)(Bb:Int)(t100000_7:AX):Option ((Bool×Int×AX)⊕(Bool×AX)):= if Bb<(t0_7.length:Int)then ck (0≤Bb∧Bb.toNat<t100000_7.length)<| (Ii t0_0 t0_1 t0_2 t0_3 t0_4 t0_5 t0_6 t0_7 Bb t100000_7 (Bc,0,t100000_7)).bind fun Au=> some (bo (Au.1,bm.wrap (Bb+1),Au.2)) else some (bl (Bc,t100000_7))
def Ij(t0_0 t0_1:Int)(t0_2 t0_3:AX)(t0_4:Ad)(t0_5 t0_6:AO)(t0_7:AX)(v:Bool×Int×AX):Option (Bool×AX):=Dq (fun v=>DF t0_0 t0_1 t0_2 t0_3 t0_4 t0_5 t0_6 t0_7 v.1 v.2.1 v.2.2) v
def J3(t0_0 t0_1:Int)(t0_2 t0_3:AX)(t0_4:Ad)(t0_5 t0_6:AO)(t0_7:AX):Option (Bool×Int×Int×AX×AX×Ad×AO×AO×AX):= (Ij t0_0 t0_1 t0_2 t0_3 t0_4 t0_5 t0_6 t0_7 (false,0,t0_7)).bind fun BH=> some (BH.1,t0_0,t0_1,t0_2,t0_3,t0_4,t0_5,t0_6,BH.2)
abbrev MJ:List Nat:=[48,49,50,51,52,53,54,55,56,57,58,59,60,61,62,63,64,65,66,67,68,69,70,71,72,73,74,75,76,77]
abbrev Vo:List Nat:=[78,79,80,81,82,83,84,85,86,87,88,89,90,91,100000,100001,100002,100003,100004,100005,100006,100007,91,90,0,90]
def qm:SC:= .seq (.ops [oB 32 .lss 3 (tK 31) (tK 30) 3 4]) (.seq (.cond (tK 32) .skip (.exit 4)) (.seq (.block 5 (.seq (.ops [oM 33 31 3,oA 6 33 3]) (.seq (.seq (.ops [oM 34 0 91,oX 35 (.nilCheck (tK 34)) 0,oF 36 93 35 2,oL 37 22 36 22,oM 38 4 3,oI 39 22 37 38,oL 40 26 39 26,oM 41 5 3,oI 42 26 40 41,oL 43 3 42 3,oM 44 6 3,oB 45 .shr 3 (tK 43) (tK 44) 3 3,oB 46 .and 3 (tK 45) (iK 1) 3 3,oB 47 .eql 3 (tK 46) (iK 0) 3 4]) (.cond (tK 47) (.exit 5) .skip)) (.seq (.draws [(⟨[48,0,0],MJ,[48]⟩,oM 48 0 91),(⟨[49,4,4],MJ,[49]⟩,oM 49 4 3),(⟨[50,5,5],MJ,[50]⟩,oM 50 5 3),(⟨[51,6,6],MJ,[51]⟩,oM 51 6 3),(⟨[52,48,49,50,51,0,4,5,6],MJ,[52]⟩,oC 52 105 [(tK 48),(tK 49),(tK 50),(tK 51)] [91,3,3,3] 4),(⟨[53,52,52],MJ,[53]⟩,oX 53 (.unOp .not 4 (tK 52)) 4),(⟨[54,53,53],MJ,[54]⟩,oM 54 53 4),(⟨[55,0,0,54],MJ,[55]⟩,⟨some 55,.move (tK 0),91,(some (some 54,false))⟩),(⟨[56,55,0,54],MJ,[56]⟩,⟨some 56,.nilCheck (tK 55),0,(some (some 54,false))⟩),(⟨[57,56,0,54],MJ,[57]⟩,⟨some 57,.fieldAddr 93 (tK 56) 2,0,(some (some 54,false))⟩),(⟨[58,57,0,54],MJ,[58]⟩,⟨some 58,.load 22 (tK 57),22,(some (some 54,false))⟩),(⟨[59,4,4,54],MJ,[59]⟩,⟨some 59,.move (tK 4),3,(some (some 54,false))⟩),(⟨[60,58,59,0,4,54],MJ,[60]⟩,⟨some 60,.indexAddr 22 (tK 58) (tK 59),0,(some (some 54,false))⟩),
 (⟨[61,60,0,54],MJ,[61]⟩,⟨some 61,.load 26 (tK 60),26,(some (some 54,false))⟩),(⟨[62,61,0,54],MJ,[62]⟩,⟨some 62,.call ⟨(.builtin .len), #[(tK 61)], #[26]⟩,3,(some (some 54,false))⟩),(⟨[63,0,0,54],MJ,[63]⟩,⟨some 63,.move (tK 0),91,(some (some 54,false))⟩),(⟨[64,63,0,54],MJ,[64]⟩,⟨some 64,.nilCheck (tK 63),0,(some (some 54,false))⟩),(⟨[65,64,0,54],MJ,[65]⟩,⟨some 65,.fieldAddr 93 (tK 64) 0,0,(some (some 54,false))⟩),(⟨[66,65,0,54],MJ,[66]⟩,⟨some 66,.fieldAddr 34 (tK 65) 1,0,(some (some 54,false))⟩),(⟨[67,66,0,54],MJ,[67]⟩,⟨some 67,.load 3 (tK 66),3,(some (some 54,false))⟩),(⟨[68,62,67,62,0,54],MJ,[68]⟩,⟨some 68,.binOp .eql 3 (tK 62) (tK 67) 3,4,(some (some 54,false))⟩),(⟨[69,68,68,54],MJ,[69]⟩,⟨some 69,.move (tK 68),4,(some (some 54,false))⟩),(⟨[70,0,0,69],MJ,[70]⟩,⟨some 70,.move (tK 0),91,(some (some 69,true))⟩),(⟨[71,4,4,69],MJ,[71]⟩,⟨some 71,.move (tK 4),3,(some (some 69,true))⟩),(⟨[72,5,5,69],MJ,[72]⟩,⟨some 72,.move (tK 5),3,(some (some 69,true))⟩),(⟨[73,6,6,69],MJ,[73]⟩,⟨some 73,.move (tK 6),3,(some (some 69,true))⟩),(⟨[74,70,71,72,73,0,4,5,6,69],MJ,[74]⟩,⟨some 74,.call ⟨(.value (.func 106)), #[(tK 70),(tK 71),(tK 72),(tK 73)], #[91,3,3,3]⟩,4,(some (some 69,true))⟩),
 (⟨[75,74,74,69],MJ,[75]⟩,⟨some 75,.unOp .not 4 (tK 74),4,(some (some 69,true))⟩),(⟨[76,69,75,68,75,54],MJ,[76]⟩,⟨some 76,.pick (tK 69) (tK 75) LK,4,(some (some 54,false))⟩),(⟨[77,54,76,53,76],MJ,[77]⟩,oX 77 (.pick (tK 54) Cy (tK 76)) 4)]) (.cond (tK 77) (.seq (.draws [(⟨[78,0,0],Vo,[78]⟩,oM 78 0 91),(⟨[100000,100001,100002,100003,100004,100005,100006,100007,79,78,0],Vo,[79]⟩,oX 79 (.nilCheck (tK 78)) 0),(⟨[100000,100001,100002,100003,100004,100005,100006,100007,80,79,0],Vo,[80]⟩,oF 80 93 79 2),(⟨[100000,100001,100002,100003,100004,100005,100006,100007,81,80,0],Vo,[81]⟩,oL 81 22 80 22),(⟨[82,4,4],Vo,[82]⟩,oM 82 4 3),(⟨[100000,100001,100002,100003,100004,100005,100006,100007,83,81,82,0,4],Vo,[83]⟩,oI 83 22 81 82),(⟨[100000,100001,100002,100003,100004,100005,100006,100007,84,83,0],Vo,[84]⟩,oL 84 26 83 26),(⟨[85,5,5],Vo,[85]⟩,oM 85 5 3),(⟨[100000,100001,100002,100003,100004,100005,100006,100007,86,84,85,0,5],Vo,[86]⟩,oI 86 26 84 85),(⟨[100000,100001,100002,100003,100004,100005,100006,100007,87,86,0],Vo,[87]⟩,oL 87 3 86 3),(⟨[88,6,6],Vo,[88]⟩,oM 88 6 3),(⟨[89,88,6],Vo,[89]⟩,oB 89 .shl 3 (iK 1) (tK 88) 3 3),(⟨[90,87,89,0,89],Vo,[90]⟩,oB 90 .andNot 3 (tK 87) (tK 89) 3 3),(⟨[100000,100001,100002,100003,100004,100005,100006,100007,91,84,85,0,5],Vo,[91]⟩,oI 91 26 84 85),
 (⟨[100000,100001,100002,100003,100004,100005,100006,100007,91,90,0,90],Vo,[100000,100001,100002,100003,100004,100005,100006,100007,91,90,0,90]⟩,oS 3 91 90)]) (.ops [oX 3 (.assign Cy) 4])) .skip))))) (.ops [oB 92 .add 3 (tK 31) (iK 1) 3 3,oM 31 92 3])))
def A5L:SC:= .loop qm
def qo:SC:= .seq (.ops [oB 24 .lss 3 (tK 23) (tK 22) 3 0]) (.seq (.cond (tK 24) .skip (.exit 2)) (.seq (.block 3 (.seq (.ops [oM 25 23 3,oA 5 25 3]) (.seq (.ops [oM 26 0 91,oX 27 (.nilCheck (tK 26)) 0,oF 28 93 27 0,oF 29 34 28 0,oL 30 3 29 3,oX 31 (.move (iK 0)) 3]) (.block 4 A5L)))) (.ops [oB 93 .add 3 (tK 23) (iK 1) 3 3,oM 23 93 3])))
def A5M:SC:= .loop qo
def qp:SC:= .seq (.ops [oB 13 .lss 3 (tK 12) (tK 11) 3 0]) (.seq (.cond (tK 13) .skip (.exit 0)) (.seq (.block 1 (.seq (.ops [oM 14 12 3,oA 4 14 3]) (.seq (.ops [oM 15 0 91,oX 16 (.nilCheck (tK 15)) 0,oF 17 93 16 2,oL 18 22 17 22,oM 19 4 3,oI 20 22 18 19,oL 21 26 20 26,oN 22 21 26,oX 23 (.move (iK 0)) 3]) (.block 2 A5M)))) (.ops [oB 94 .add 3 (tK 12) (iK 1) 3 3,oM 12 94 3])))
def A5N:SC:= .loop qp
def k73:SC:= .seq (.ops [oX 2 Ba 4]) (.seq (.ops [oX 3 Ba 4]) (.seq (.seq (.ops [oM 7 0 91,oX 8 (.nilCheck (tK 7)) 0,oF 9 93 8 2,oL 10 22 9 22,oN 11 10 22,oX 12 (.move (iK 0)) 3]) (.block 0 A5N)) (.seq (.ops [oM 95 3 4,oA 2 95 4]) .ret)))
theorem AEd:Tryz.f73.body.map (BP lends)=some k73:=by kernel_rfl
theorem ASa:BR Tryz.f73 1=true:=by kernel_rfl
theorem c73{a l:List D}{r:D×List D}(h:BS Y.env k73 (fin Aj l.length [bt 2] r) (entry a l))(ha:a.length=1):Y.call 73 a l=some r:=
 AY (Y:=Y) rfl Tryz.func73 (ha▸ASa) AEd h
def Bq(t0_0 t0_1:Int)(t0_2 t0_3:AX)(t0_4:Ad)(t0_5 t0_6:AO)(t0_7:AX)(Bb:Int)(t100000_7:AX)(Ci:Int)(t3_2:Bool)(UK:Int)(t100000_72:AX)(s:St):Prop:=(∃w_,s.v 0=D.vw [100000] (s.k 100000) w_)∧s.v 3=bp t3_2∧s.v 4=bc .i64 Bb∧s.v 5=bc .i64 Ci∧s.v 11=bc .i64 (t0_7.length:Int)∧s.v 12=bc .i64 Bb∧s.v 22=bc .i64 ((t100000_7.getD Bb.toNat be).length:Int)∧s.v 23=bc .i64 Ci∧s.v 30=bc .i64 t0_0∧s.v 31=bc .i64 UK∧s.v 100000=b7 [bc .i64 t0_0,bc .i64 t0_1,bk 26 (AQ BX t0_2),bk 26 (AQ BX t0_3),bk 79 (AQ (fun x=>bk 87 (Ak .i64 .i64 x)) t0_4),bk 3 (AQ (bc .i64) t0_5),bk 3 (AQ (bc .i64) t0_6),br 26 (AQ Jp t100000_72)]
def GR(t0_0 t0_1:Int)(t0_2 t0_3:AX)(t0_4:Ad)(t0_5 t0_6:AO)(t0_7:AX)(Bb:Int)(t100000_7:AX)(Ci:Int)(r:Bool×AX)(ex:Ex)(s:St):Prop:=ex= .exit 4∧(∃w_,s.v 0=D.vw [100000] (s.k 100000) w_)∧s.v 3=bp r.1∧s.v 4=bc .i64 Bb∧s.v 11=bc .i64 (t0_7.length:Int)∧s.v 12=bc .i64 Bb∧s.v 22=bc .i64 ((t100000_7.getD Bb.toNat be).length:Int)∧s.v 23=bc .i64 Ci∧s.v 100000=b7 [bc .i64 t0_0,bc .i64 t0_1,bk 26 (AQ BX t0_2),bk 26 (AQ BX t0_3),bk 79 (AQ (fun x=>bk 87 (Ak .i64 .i64 x)) t0_4),bk 3 (AQ (bc .i64) t0_5),bk 3 (AQ (bc .i64) t0_6),br 26 (AQ Jp r.2)]
theorem TM(t0_0 t0_1:Int)(t0_2 t0_3:AX)(t0_4:Ad)(t0_5 t0_6:AO)(t0_7:AX)(Bb:Int)(t100000_7:AX)(Ci:Int){v:Bool×Int×AX}{s:St}{r:Bool×AX}(h:Ih t0_0 t0_1 t0_2 t0_3 t0_4 t0_5 t0_6 t0_7 Bb t100000_7 Ci v=some r)(hM:Bq t0_0 t0_1 t0_2 t0_3 t0_4 t0_5 t0_6 t0_7 Bb t100000_7 Ci v.1 v.2.1 v.2.2 s):BS Y.env A5L (GR t0_0 t0_1 t0_2 t0_3 t0_4 t0_5 t0_6 t0_7 Bb t100000_7 Ci r) s:=by
 unfold Ih at h;refine Aw (c:=qm) (fun v=>DC t0_0 t0_1 t0_2 t0_3 t0_4 t0_5 t0_6 t0_7 Bb t100000_7 Ci v.1 v.2.1 v.2.2) (fun v s=>Bq t0_0 t0_1 t0_2 t0_3 t0_4 t0_5 t0_6 t0_7 Bb t100000_7 Ci v.1 v.2.1 v.2.2 s) (GR t0_0 t0_1 t0_2 t0_3 t0_4 t0_5 t0_6 t0_7 Bb t100000_7 Ci) ?_ h hM;clear h hM s v r;intro v s o hM h;obtain⟨t3_2,UK,t100000_72⟩:=v;dsimp only at h hM;unfold DC at h;unfold Bq at hM;obtain⟨⟨w0_,m0⟩,m1,m2,m3,m4,m5,m6,m7,m8,m9,m10⟩:=hM;unfold qm;rcases iS h with⟨e4,h⟩|⟨e4,h⟩
 ·obtain⟨e5,e6,e7,h⟩:=NC h;rcases iS h with⟨e8,h⟩|⟨e8,h⟩
  ·cases h;simp (maxDischargeDepth:=9) only [↓AJ,AL,↓reduceIte,bj,bh,m0,m1,m2,m3,m4,m5,m6,m7,m8,m9,m10,e4,e5.1,e5.2,e6.1,e6.2,e7,decide_eq_true e8,Bq,Cx]<;>(repeat' apply A7)<;>first|rfl|exact⟨_,rfl⟩|exact⟨_,_,rfl⟩|simp [AQ,Ay]
  ·obtain⟨AEb,hl9,h⟩:=Ag h;have c9:=Pv t0_0 t0_1 t0_2 t0_3 t0_4 t0_5 t0_6 t100000_72 Bb Ci UK hl9;rcases iS h with⟨e10,h⟩|⟨e10,h⟩
   ·rcases iS h with⟨e11,h⟩|⟨e11,h⟩
    ·obtain⟨AEc,hl12,h⟩:=Ag h;have zQ:=Pw t0_0 t0_1 t0_2 t0_3 t0_4 t0_5 t0_6 t100000_72 Bb Ci UK hl12;rcases iS h with⟨e13,h⟩|⟨e13,h⟩
     ·cases h;simp (maxDischargeDepth:=9) only [↓AJ,AL,↓reduceIte,bj,bh,bx,b9,m0,m1,m2,m3,m4,m5,m6,m7,m8,m9,m10,e4,e5.1,e5.2,e6.1,e6.2,e7,e8,c9,e10,decide_eq_true e11,zQ,e13,Bq,Cx]<;>(repeat' apply A7)<;>first|rfl|exact⟨_,rfl⟩|exact⟨_,_,rfl⟩|simp [AQ,Ay]
     ·have e13f:AEc=false:=G8.mpr e13;cases h;simp (maxDischargeDepth:=9) only [↓AJ,AL,↓reduceIte,bj,bh,bx,b9,m0,m2,m3,m4,m5,m6,m7,m8,m9,m10,e4,e5.1,e5.2,e6.1,e6.2,e7,e8,c9,e10,decide_eq_true e11,zQ,e13f,Bq,Cx]<;>(repeat' apply A7)<;>first|rfl|exact⟨_,rfl⟩|exact⟨_,_,rfl⟩|simp [AQ,Ay]
    ·cases h;simp (maxDischargeDepth:=9) only [↓AJ,AL,↓reduceIte,bj,bh,bx,b9,m0,m1,m2,m3,m4,m5,m6,m7,m8,m9,m10,e4,e5.1,e5.2,e6.1,e6.2,e7,e8,c9,e10,e11,Bq,Cx]<;>(repeat' apply A7)<;>first|rfl|exact⟨_,rfl⟩|exact⟨_,_,rfl⟩|simp [AQ,Ay]
   ·have e10f:AEb=false:=G8.mpr e10;cases h;simp (maxDischargeDepth:=9) only [↓AJ,AL,↓reduceIte,bj,bh,bx,b9,m0,m2,m3,m4,m5,m6,m7,m8,m9,m10,e4,e5.1,e5.2,e6.1,e6.2,e7,e8,c9,e10f,Bq,Cx]<;>(repeat' apply A7)<;>first|rfl|exact⟨_,rfl⟩|exact⟨_,_,rfl⟩|simp [AQ,Ay]
 ·cases h;simp (maxDischargeDepth:=9) only [↓AJ,AL,↓reduceIte,bj,bh,m0,m1,m2,m4,m5,m6,m7,m8,m9,m10,e4,Bq,GR,Gf]<;>(repeat' apply A7)<;>first|rfl|exact⟨_,rfl⟩|exact⟨_,_,rfl⟩|simp [AQ,Ay]
def DI(t0_0 t0_1:Int)(t0_2 t0_3:AX)(t0_4:Ad)(t0_5 t0_6:AO)(t0_7:AX)(Bb:Int)(t100000_7:AX)(t3_1:Bool)(Ci:Int)(t100000_71:AX)(s:St):Prop:=(∃w_,s.v 0=D.vw [100000] (s.k 100000) w_)∧s.v 3=bp t3_1∧s.v 4=bc .i64 Bb∧s.v 11=bc .i64 (t0_7.length:Int)∧s.v 12=bc .i64 Bb∧s.v 22=bc .i64 ((t100000_7.getD Bb.toNat be).length:Int)∧s.v 23=bc .i64 Ci∧s.v 100000=b7 [bc .i64 t0_0,bc .i64 t0_1,bk 26 (AQ BX t0_2),bk 26 (AQ BX t0_3),bk 79 (AQ (fun x=>bk 87 (Ak .i64 .i64 x)) t0_4),bk 3 (AQ (bc .i64) t0_5),bk 3 (AQ (bc .i64) t0_6),br 26 (AQ Jp t100000_71)]
def GU(t0_0 t0_1:Int)(t0_2 t0_3:AX)(t0_4:Ad)(t0_5 t0_6:AO)(t0_7:AX)(Bb:Int)(t100000_7:AX)(r:Bool×AX)(ex:Ex)(s:St):Prop:=ex= .exit 2∧(∃w_,s.v 0=D.vw [100000] (s.k 100000) w_)∧s.v 3=bp r.1∧s.v 11=bc .i64 (t0_7.length:Int)∧s.v 12=bc .i64 Bb∧s.v 100000=b7 [bc .i64 t0_0,bc .i64 t0_1,bk 26 (AQ BX t0_2),bk 26 (AQ BX t0_3),bk 79 (AQ (fun x=>bk 87 (Ak .i64 .i64 x)) t0_4),bk 3 (AQ (bc .i64) t0_5),bk 3 (AQ (bc .i64) t0_6),br 26 (AQ Jp r.2)]
theorem TN(t0_0 t0_1:Int)(t0_2 t0_3:AX)(t0_4:Ad)(t0_5 t0_6:AO)(t0_7:AX)(Bb:Int)(t100000_7:AX){v:Bool×Int×AX}{s:St}{r:Bool×AX}(h:Ii t0_0 t0_1 t0_2 t0_3 t0_4 t0_5 t0_6 t0_7 Bb t100000_7 v=some r)(hM:DI t0_0 t0_1 t0_2 t0_3 t0_4 t0_5 t0_6 t0_7 Bb t100000_7 v.1 v.2.1 v.2.2 s):BS Y.env A5M (GU t0_0 t0_1 t0_2 t0_3 t0_4 t0_5 t0_6 t0_7 Bb t100000_7 r) s:=by
 unfold Ii at h;refine Aw (c:=qo) (fun v=>DD t0_0 t0_1 t0_2 t0_3 t0_4 t0_5 t0_6 t0_7 Bb t100000_7 v.1 v.2.1 v.2.2) (fun v s=>DI t0_0 t0_1 t0_2 t0_3 t0_4 t0_5 t0_6 t0_7 Bb t100000_7 v.1 v.2.1 v.2.2 s) (GU t0_0 t0_1 t0_2 t0_3 t0_4 t0_5 t0_6 t0_7 Bb t100000_7) ?_ h hM;clear h hM s v r;intro v s o hM h;obtain⟨t3_1,Ci,t100000_71⟩:=v;dsimp only at h hM;unfold DD at h;unfold DI at hM;obtain⟨⟨w0_,m0⟩,m1,m2,m3,m4,m5,m6,m7⟩:=hM;unfold qo;rcases iS h with⟨e3,h⟩|⟨e3,h⟩
 ·obtain⟨AU,hl5,h⟩:=Ag h;try dsimp only at h
  simp (maxDischargeDepth:=9) only [↓AJ,AL,↓reduceIte,bj,bh,m0,m5,m6,m7,e3];refine Al (TM t0_0 t0_1 t0_2 t0_3 t0_4 t0_5 t0_6 t0_7 Bb t100000_7 Ci hl5 ?_) ?_
  ·simp (maxDischargeDepth:=9) only [BK,↓reduceIte,bj,m0,m1,m2,m3,m4,m5,m6,m7,Bq]<;>(repeat' apply A7)<;>first|rfl|exact⟨_,rfl⟩|exact⟨_,_,rfl⟩|simp [AQ,Ay]
  ·intro ex5 s5 hX5;unfold GR at hX5;obtain⟨rfl,⟨w0_,n5_0⟩,n5_1,n5_2,n5_3,n5_4,n5_5,n5_6,n5_7⟩:=hX5;cases h;simp (maxDischargeDepth:=9) only [↓AJ,AL,↓reduceIte,bj,bh,n5_0,n5_1,n5_2,n5_3,n5_4,n5_5,n5_6,n5_7,DI,Cx]<;>(repeat' apply A7)<;>first|rfl|exact⟨_,rfl⟩|exact⟨_,_,rfl⟩|simp [AQ,Ay]
 ·cases h;simp (maxDischargeDepth:=9) only [↓AJ,AL,↓reduceIte,bj,bh,m0,m1,m3,m4,m5,m6,m7,e3,DI,GU,Gf]<;>(repeat' apply A7)<;>first|rfl|exact⟨_,rfl⟩|exact⟨_,_,rfl⟩|simp [AQ,Ay]
def DJ(t0_0 t0_1:Int)(t0_2 t0_3:AX)(t0_4:Ad)(t0_5 t0_6:AO)(t0_7:AX)(Bc:Bool)(Bb:Int)(t100000_7:AX)(s:St):Prop:=(∃w_,s.v 0=D.vw [100000] (s.k 100000) w_)∧s.v 3=bp Bc∧s.v 11=bc .i64 (t0_7.length:Int)∧s.v 12=bc .i64 Bb∧s.v 100000=b7 [bc .i64 t0_0,bc .i64 t0_1,bk 26 (AQ BX t0_2),bk 26 (AQ BX t0_3),bk 79 (AQ (fun x=>bk 87 (Ak .i64 .i64 x)) t0_4),bk 3 (AQ (bc .i64) t0_5),bk 3 (AQ (bc .i64) t0_6),br 26 (AQ Jp t100000_7)]
def GV(t0_0 t0_1:Int)(t0_2 t0_3:AX)(t0_4:Ad)(t0_5 t0_6:AO)(t0_7:AX)(r:Bool×AX)(ex:Ex)(s:St):Prop:=ex= .exit 0∧s.v 3=bp r.1∧s.v 100000=b7 [bc .i64 t0_0,bc .i64 t0_1,bk 26 (AQ BX t0_2),bk 26 (AQ BX t0_3),bk 79 (AQ (fun x=>bk 87 (Ak .i64 .i64 x)) t0_4),bk 3 (AQ (bc .i64) t0_5),bk 3 (AQ (bc .i64) t0_6),br 26 (AQ Jp r.2)]
theorem TP(t0_0 t0_1:Int)(t0_2 t0_3:AX)(t0_4:Ad)(t0_5 t0_6:AO)(t0_7:AX){v:Bool×Int×AX}{s:St}{r:Bool×AX}(h:Ij t0_0 t0_1 t0_2 t0_3 t0_4 t0_5 t0_6 t0_7 v=some r)(hM:DJ t0_0 t0_1 t0_2 t0_3 t0_4 t0_5 t0_6 t0_7 v.1 v.2.1 v.2.2 s):BS Y.env A5N (GV t0_0 t0_1 t0_2 t0_3 t0_4 t0_5 t0_6 t0_7 r) s:=by
 unfold Ij at h;refine Aw (c:=qp) (fun v=>DF t0_0 t0_1 t0_2 t0_3 t0_4 t0_5 t0_6 t0_7 v.1 v.2.1 v.2.2) (fun v s=>DJ t0_0 t0_1 t0_2 t0_3 t0_4 t0_5 t0_6 t0_7 v.1 v.2.1 v.2.2 s) (GV t0_0 t0_1 t0_2 t0_3 t0_4 t0_5 t0_6 t0_7) ?_ h hM;clear h hM s v r;intro v s o hM h;obtain⟨Bc,Bb,t100000_7⟩:=v;dsimp only at h hM;unfold DF at h;unfold DJ at hM;obtain⟨⟨w0_,m0⟩,m1,m2,m3,m4⟩:=hM;unfold qp;rcases iS h with⟨e1,h⟩|⟨e1,h⟩
 ·obtain⟨e2,h⟩:=Cu h;obtain⟨Au,hl4,h⟩:=Ag h;try dsimp only at h
  simp (maxDischargeDepth:=9) only [↓AJ,AL,↓reduceIte,bj,bh,m0,m2,m3,m4,e1,e2.1,e2.2];refine Al (TN t0_0 t0_1 t0_2 t0_3 t0_4 t0_5 t0_6 t0_7 Bb t100000_7 hl4 ?_) ?_
  ·simp (maxDischargeDepth:=9) only [BK,↓reduceIte,bj,m0,m1,m2,m3,m4,DI]<;>(repeat' apply A7)<;>first|rfl|exact⟨_,rfl⟩|exact⟨_,_,rfl⟩|simp [AQ,Ay]
  ·intro ex4 s4 hX4;unfold GU at hX4;obtain⟨rfl,⟨w0_,n4_0⟩,n4_1,n4_2,n4_3,n4_4⟩:=hX4;cases h;simp (maxDischargeDepth:=9) only [↓AJ,AL,↓reduceIte,bj,bh,n4_0,n4_1,n4_2,n4_3,n4_4,DJ,Cx]<;>(repeat' apply A7)<;>first|rfl|exact⟨_,rfl⟩|exact⟨_,_,rfl⟩|simp [AQ,Ay]
 ·cases h;simp (maxDischargeDepth:=9) only [↓AJ,AL,↓reduceIte,bj,bh,m1,m2,m3,m4,e1,DJ,GV,Gf]
theorem UL(t0_0 t0_1:Int)(t0_2 t0_3:AX)(t0_4:Ad)(t0_5 t0_6:AO)(t0_7:AX){r:Bool×Int×Int×AX×AX×Ad×AO×AO×AX}(h:J3 t0_0 t0_1 t0_2 t0_3 t0_4 t0_5 t0_6 t0_7=some r):Y.call 73 [D.vw [100000] 0 0] [b7 [bc .i64 t0_0,bc .i64 t0_1,bk 26 (AQ BX t0_2),bk 26 (AQ BX t0_3),bk 79 (AQ (fun x=>bk 87 (Ak .i64 .i64 x)) t0_4),bk 3 (AQ (bc .i64) t0_5),bk 3 (AQ (bc .i64) t0_6),br 26 (AQ Jp t0_7)]]=some (bp r.1,[b7 [bc .i64 r.2.1,bc .i64 r.2.2.1,bk 26 (AQ BX r.2.2.2.1),bk 26 (AQ BX r.2.2.2.2.1),bk 79 (AQ (fun x=>bk 87 (Ak .i64 .i64 x)) r.2.2.2.2.2.1),bk 3 (AQ (bc .i64) r.2.2.2.2.2.2.1),bk 3 (AQ (bc .i64) r.2.2.2.2.2.2.2.1),br 26 (AQ Jp r.2.2.2.2.2.2.2.2)]]):=by
 refine c73 ?_ rfl;unfold k73;unfold J3 at h;obtain⟨BH,hl2,h⟩:=Ag h;try dsimp only at h
 simp (maxDischargeDepth:=9) only [↓AJ,AL,↓reduceIte,bj,bh,bx,cb];refine Al (TP t0_0 t0_1 t0_2 t0_3 t0_4 t0_5 t0_6 t0_7 hl2 ?_) ?_
 ·simp (maxDischargeDepth:=9) only [BK,Cg,↓reduceIte,bj,bh,cb,DJ]<;>(repeat' apply A7)<;>first|rfl|exact⟨_,rfl⟩|exact⟨_,_,rfl⟩|simp [AQ,Ay]
 ·intro ex2 s2 hX2;unfold GV at hX2;obtain⟨rfl,n2_0,n2_1⟩:=hX2;cases h;simp (maxDischargeDepth:=9) only [↓AJ,AL,↓reduceIte,bj,bh,n2_0,n2_1]
def F4(tL tD:Int)(tN tE:AX)(AV:Ad)(Ab AP:AO)(BO:AX)(Ff:Int)(t8_71:AX)(MB:Int):Option ((AX×Int)⊕(AX)):= if MB<((BO.getD Ff.toNat be).length:Int)then ck (0≤MB∧MB.toNat<(BO.getD Ff.toNat be).length)<| ck (0≤Ff∧Ff.toNat<t8_71.length)<| ck (¬tL<0)<| ck (0≤MB∧MB.toNat<(t8_71.getD Ff.toNat be).length)<| if 0≤((BO.getD Ff.toNat be).getD MB.toNat be)then ck (¬((BO.getD Ff.toNat be).getD MB.toNat be)<0)<| ck (0≤MB∧MB.toNat<((t8_71.set Ff.toNat ((t8_71.getD Ff.toNat be).set MB.toNat (bm.wrap ((bm.wrap (1*2 ^ (min tL.toNat (bm.bits))))-1)))).getD Ff.toNat be).length)<| some (bo (((t8_71.set Ff.toNat ((t8_71.getD Ff.toNat be).set MB.toNat (bm.wrap ((bm.wrap (1*2 ^ (min tL.toNat (bm.bits))))-1)))).set Ff.toNat (((t8_71.set Ff.toNat ((t8_71.getD Ff.toNat be).set MB.toNat (bm.wrap ((bm.wrap (1*2 ^ (min tL.toNat (bm.bits))))-1)))).getD Ff.toNat be).set MB.toNat (bm.wrap (1*2 ^ (min ((BO.getD Ff.toNat be).getD MB.toNat be).toNat (bm.bits)))))),bm.wrap (MB+1))) else some (bo ((t8_71.set Ff.toNat ((t8_71.getD Ff.toNat be).set MB.toNat (bm.wrap ((bm.wrap (1*2 ^ (min tL.toNat (bm.bits))))-1)))),bm.wrap (MB+1)))
 else some (bl t8_71)
def KJ(tL tD:Int)(tN tE:AX)(AV:Ad)(Ab AP:AO)(BO:AX)(Ff:Int)(v:AX×Int):Option (AX):=Dq (fun v=>F4 tL tD tN tE AV Ab AP BO Ff v.1 v.2) v
def F5(tL tD:Int)(tN tE:AX)(AV:Ad)(Ab AP:AO)(BO t8_7:AX)(Ff:Int):Option ((AX×Int)⊕(AX)):= if Ff<(BO.length:Int)then ck (0≤Ff∧Ff.toNat<BO.length)<| (KJ tL tD tN tE AV Ab AP BO Ff (t8_7,0)).bind fun AU=> some (bo (AU,bm.wrap (Ff+1))) else some (bl t8_7)
def KL(tL tD:Int)(tN tE:AX)(AV:Ad)(Ab AP:AO)(BO:AX)(v:AX×Int):Option (AX):=Dq (fun v=>F5 tL tD tN tE AV Ab AP BO v.1 v.2) v
def I4(t8_0 t8_1:Int)(t8_2 t8_3:AX)(t8_4:Ad)(t8_5 t8_6:AO)(t8_7:AX):Option ((Int×Int×AX×AX×Ad×AO×AO×AX)⊕(Int×Int×AX×AX×Ad×AO×AO×AX)):= (J3 t8_0 t8_1 t8_2 t8_3 t8_4 t8_5 t8_6 t8_7).bind fun Sk=> if Sk.1=true then some (bo (Sk.2.1,Sk.2.2.1,Sk.2.2.2.1,Sk.2.2.2.2.1,Sk.2.2.2.2.2.1,Sk.2.2.2.2.2.2.1,Sk.2.2.2.2.2.2.2.1,Sk.2.2.2.2.2.2.2.2)) else some (bl (Sk.2.1,Sk.2.2.1,Sk.2.2.2.1,Sk.2.2.2.2.1,Sk.2.2.2.2.2.1,Sk.2.2.2.2.2.2.1,Sk.2.2.2.2.2.2.2.1,Sk.2.2.2.2.2.2.2.2))
def I5(v:Int×Int×AX×AX×Ad×AO×AO×AX):Option (Int×Int×AX×AX×Ad×AO×AO×AX):=Dq (fun v=>I4 v.1 v.2.1 v.2.2.1 v.2.2.2.1 v.2.2.2.2.1 v.2.2.2.2.2.1 v.2.2.2.2.2.2.1 v.2.2.2.2.2.2.2) v
def F6(BH:Int×Int×AX×AX×Ad×AO×AO×AX)(gK:Int):Option ((Int)⊕(Unit⊕Unit)):= if gK<(BH.2.2.2.2.2.2.2.length:Int)then ck (0≤gK∧gK.toNat<BH.2.2.2.2.2.2.2.length)<| ck ((BH.2.2.2.2.2.2.2.getD gK.toNat be).length<1099511627776)<| if((BH.2.2.2.2.2.2.2.getD gK.toNat be).contains (0:Int))=true then some (bl (bo ())) else some (bo (bm.wrap (gK+1))) else some (bl (bl ()))
def Mj(BH:Int×Int×AX×AX×Ad×AO×AO×AX)(v:Int):Option (Unit⊕Unit):=Dq (fun v=>F6 BH v) v
def OC(tL tD:Int)(tN tE:AX)(AV:Ad)(Ab AP:AO)(BO:AX):Option (AX×Bool):=
 (OA BO).bind fun zm=>
 (KL tL tD tN tE AV Ab AP BO (zm,0)).bind fun Au=>
 (I5 (tL,tD,tN,tE,AV,Ab,AP,Au)).bind fun BH=>
 (Mj BH 0).bind fun Sl=>
 match Sl with
 | .inl q1003_=>
  some ([],false)
 | .inr q1003_=>
  some (BH.2.2.2.2.2.2.2,true)
abbrev XQ:List Nat:=[35,36,37,38,39,40,41,42,43,44,45,46,47,47,46,8,46]
abbrev aH:List Nat:=[50,51,52,53,54,55,56,57,58,59,60,60,59,8,59]
def qw:SC:= .seq (.ops [oB 31 .lss 3 (tK 30) (tK 29) 3 0]) (.seq (.cond (tK 31) .skip (.exit 2)) (.seq (.block 3 (.seq (.ops [oM 32 30 3,oI 33 26 28 30,oL 34 3 33 3,oA 10 32 3,oA 11 34 3]) (.seq (.draws [(⟨[35,8,8],XQ,[35]⟩,oM 35 8 91),(⟨[36,35,8],XQ,[36]⟩,oX 36 (.nilCheck (tK 35)) 0),(⟨[37,36,8],XQ,[37]⟩,oF 37 93 36 2),(⟨[38,37,8],XQ,[38]⟩,oL 38 22 37 22),(⟨[39,9,9],XQ,[39]⟩,oM 39 9 3),(⟨[40,38,39,8,9],XQ,[40]⟩,oI 40 22 38 39),(⟨[41,40,8],XQ,[41]⟩,oL 41 26 40 26),(⟨[42,10,10],XQ,[42]⟩,oM 42 10 3),(⟨[43,3,3],XQ,[43]⟩,oF 43 34 3 0),(⟨[44,43,3],XQ,[44]⟩,oL 44 3 43 3),(⟨[45,44,3],XQ,[45]⟩,oB 45 .shl 3 (iK 1) (tK 44) 3 3),(⟨[46,45,45],XQ,[46]⟩,oB 46 .sub 3 (tK 45) (iK 1) 3 3),(⟨[47,41,42,8,10],XQ,[47]⟩,oI 47 26 41 42),(⟨[47,46,8,46],XQ,[47,46,8,46]⟩,oS 3 47 46)]) (.seq (.ops [oM 48 11 3,oB 49 .geq 3 (tK 48) (iK 0) 3 4]) (.cond (tK 49) (.draws [(⟨[50,8,8],aH,[50]⟩,oM 50 8 91),(⟨[51,50,8],aH,[51]⟩,oX 51 (.nilCheck (tK 50)) 0),(⟨[52,51,8],aH,[52]⟩,oF 52 93 51 2),(⟨[53,52,8],aH,[53]⟩,oL 53 22 52 22),(⟨[54,9,9],aH,[54]⟩,oM 54 9 3),(⟨[55,53,54,8,9],aH,[55]⟩,oI 55 22 53 54),(⟨[56,55,8],aH,[56]⟩,oL 56 26 55 26),(⟨[57,10,10],aH,[57]⟩,oM 57 10 3),(⟨[58,11,11],aH,[58]⟩,oM 58 11 3),
 (⟨[59,58,11],aH,[59]⟩,oB 59 .shl 3 (iK 1) (tK 58) 3 3),(⟨[60,56,57,8,10],aH,[60]⟩,oI 60 26 56 57),(⟨[60,59,8,59],aH,[60,59,8,59]⟩,oS 3 60 59)]) .skip))))) (.ops [oB 61 .add 3 (tK 30) (iK 1) 3 3,oM 30 61 3])))
def A5O:SC:= .loop qw
def qx:SC:= .seq (.ops [oB 23 .lss 3 (tK 22) (tK 21) 3 0]) (.seq (.cond (tK 23) .skip (.exit 0)) (.seq (.block 1 (.seq (.ops [oM 24 22 3,oA 9 24 3]) (.seq (.ops [oM 25 2 22,oM 26 9 3,oI 27 22 25 26,oL 28 26 27 26,oN 29 28 26,oX 30 (.move (iK 0)) 3]) (.block 2 A5O)))) (.ops [oB 62 .add 3 (tK 22) (iK 1) 3 3,oM 22 62 3])))
def A5P:SC:= .loop qx
def qy:SC:= .seq (.seq (.ops [oM 63 8 91,oC 64 73 [(tK 63)] [91] 4]) (.cond (tK 64) .skip (.exit 4))) (.block 5 .skip)
def A5Q:SC:= .loop qy
def qz:SC:= .seq (.ops [oB 71 .lss 3 (tK 70) (tK 69) 3 0]) (.seq (.cond (tK 71) .skip (.exit 6)) (.seq (.block 7 (.seq (.ops [oI 72 22 68 70,oL 73 26 72 26,oA 13 73 26]) (.seq (.ops [oM 74 13 26,oC 75 74 [(tK 74),(iK 0)] [26,3] 4]) (.cond (tK 75) (.seq (.ops [oX 6 Gv 22,oX 7 Ba 4]) .ret) .skip)))) (.ops [oB 76 .add 3 (tK 70) (iK 1) 3 3,oM 70 76 3])))
def A5R:SC:= .loop qz
abbrev zn:List Nat:=[14,15,16,17,18,14,15,17,3,4,17,19,18,18,8,19,19]
def k42:SC:= .seq (.ops [oX 3 (.box 34 (tK 0)) 0,oX 4 (.box 38 (tK 1)) 0,oX 6 Gv 22,oX 7 Ba 4]) (.seq (.draws [(⟨[14,3,3],zn,[14]⟩,oL 14 34 3 34),(⟨[15,4,4],zn,[15]⟩,oL 15 38 4 38),(⟨[16,2,2],zn,[16]⟩,oM 16 2 22),(⟨[17,16,2],zn,[17]⟩,oC 17 72 [(tK 16)] [22] 22),(⟨[18,14,15,17,3,4,17],zn,[18,14,15,17,3,4,17]⟩,oX 18 (.build 93 #[(0,(tK 14)),(1,(tK 15)),(2,(tK 17))]) 93),(⟨[19,18,18],zn,[19,18,18]⟩,oX 19 (.box 93 (tK 18)) 91),(⟨[8,19,19],zn,[8,19,19]⟩,oA 8 19 91)]) (.seq (.seq (.ops [oM 20 2 22,oN 21 20 22,oX 22 (.move (iK 0)) 3]) (.block 0 A5P)) (.seq (.block 4 A5Q) (.seq (.seq (.ops [oM 65 8 91,oX 66 (.nilCheck (tK 65)) 0,oF 67 93 66 2,oL 68 22 67 22,oN 69 68 22,oX 70 (.move (iK 0)) 3]) (.block 6 A5R)) (.seq (.ops [oM 77 8 91,oX 78 (.nilCheck (tK 77)) 0,oF 79 93 78 2,oL 80 22 79 22,oA 6 80 22,oX 7 (.assign Cy) 4]) .ret)))))
theorem AEe:Tryz.f42.body.map (BP lends)=some k42:=by kernel_rfl
theorem ASc:BR Tryz.f42 3=true:=by kernel_rfl
theorem c42{a l:List D}{r:D×List D}(h:BS Y.env k42 (fin Aj l.length [bt 6,bt 7] r) (entry a l))(ha:a.length=3):Y.call 42 a l=some r:=
 AY (Y:=Y) rfl Tryz.func42 (ha▸ASc) AEe h
def Dz(tL tD:Int)(tN tE:AX)(AV:Ad)(Ab AP:AO)(BO:AX)(Ff:Int)(t8_71:AX)(MB:Int)(s:St):Prop:=s.v 2=bk 26 (AQ BX BO)∧s.v 3=b7 [bc .i64 tL,bc .i64 tD,bk 26 (AQ BX tN),bk 26 (AQ BX tE)]∧s.v 8=b7 [bc .i64 tL,bc .i64 tD,bk 26 (AQ BX tN),bk 26 (AQ BX tE),bk 79 (AQ (fun x=>bk 87 (Ak .i64 .i64 x)) AV),bk 3 (AQ (bc .i64) Ab),bk 3 (AQ (bc .i64) AP),br 26 (AQ Jp t8_71)]∧s.v 9=bc .i64 Ff∧s.v 21=bc .i64 (BO.length:Int)∧s.v 22=bc .i64 Ff∧s.v 28=bk 3 (AQ (bc .i64) (BO.getD Ff.toNat be))∧s.v 29=bc .i64 ((BO.getD Ff.toNat be).length:Int)∧s.v 30=bc .i64 MB
def Kj(tL tD:Int)(tN tE:AX)(AV:Ad)(Ab AP:AO)(BO:AX)(Ff:Int)(r:AX)(ex:Ex)(s:St):Prop:=ex= .exit 2∧s.v 2=bk 26 (AQ BX BO)∧s.v 3=b7 [bc .i64 tL,bc .i64 tD,bk 26 (AQ BX tN),bk 26 (AQ BX tE)]∧s.v 8=b7 [bc .i64 tL,bc .i64 tD,bk 26 (AQ BX tN),bk 26 (AQ BX tE),bk 79 (AQ (fun x=>bk 87 (Ak .i64 .i64 x)) AV),bk 3 (AQ (bc .i64) Ab),bk 3 (AQ (bc .i64) AP),br 26 (AQ Jp r)]∧s.v 21=bc .i64 (BO.length:Int)∧s.v 22=bc .i64 Ff
theorem XR(tL tD:Int)(tN tE:AX)(AV:Ad)(Ab AP:AO)(BO:AX)(Ff:Int){v:AX×Int}{s:St}{r:AX}(h:KJ tL tD tN tE AV Ab AP BO Ff v=some r)(hM:Dz tL tD tN tE AV Ab AP BO Ff v.1 v.2 s):BS Y.env A5O (Kj tL tD tN tE AV Ab AP BO Ff r) s:=by
 unfold KJ at h;refine Aw (c:=qw) (fun v=>F4 tL tD tN tE AV Ab AP BO Ff v.1 v.2) (fun v s=>Dz tL tD tN tE AV Ab AP BO Ff v.1 v.2 s) (Kj tL tD tN tE AV Ab AP BO Ff) ?_ h hM;clear h hM s v r;intro v s o hM h;obtain⟨t8_71,MB⟩:=v;dsimp only at h hM;unfold F4 at h;unfold Dz at hM;obtain⟨m0,m1,m2,m3,m4,m5,m6,m7,m8⟩:=hM;unfold qw;rcases iS h with⟨e4,h⟩|⟨e4,h⟩
 ·obtain⟨e5,e6,e7,e8,h⟩:=A26 h;rcases iS h with⟨e9,h⟩|⟨e9,h⟩
  ·obtain⟨e10,e11,h⟩:=Dr h;cases h;simp (maxDischargeDepth:=9) only [↓AJ,AL,↓reduceIte,bj,bh,b9,m0,m1,m2,m3,m4,m5,m6,m7,m8,e4,e5.1,e5.2,e6.1,e6.2,e7,e8.2,e9,e10,e11.2,Dz,Cx]
  ·cases h;simp (maxDischargeDepth:=9) only [↓AJ,AL,↓reduceIte,bj,bh,b9,m0,m1,m2,m3,m4,m5,m6,m7,m8,e4,e5.1,e5.2,e6.1,e6.2,e7,e8.2,e9,Dz,Cx]
 ·cases h;simp (maxDischargeDepth:=9) only [↓AJ,AL,↓reduceIte,bj,bh,m0,m1,m2,m4,m5,m7,m8,e4,Dz,Kj,Gf]
def F7(tL tD:Int)(tN tE:AX)(AV:Ad)(Ab AP:AO)(BO t8_7:AX)(Ff:Int)(s:St):Prop:=s.v 2=bk 26 (AQ BX BO)∧s.v 3=b7 [bc .i64 tL,bc .i64 tD,bk 26 (AQ BX tN),bk 26 (AQ BX tE)]∧s.v 8=b7 [bc .i64 tL,bc .i64 tD,bk 26 (AQ BX tN),bk 26 (AQ BX tE),bk 79 (AQ (fun x=>bk 87 (Ak .i64 .i64 x)) AV),bk 3 (AQ (bc .i64) Ab),bk 3 (AQ (bc .i64) AP),br 26 (AQ Jp t8_7)]∧s.v 21=bc .i64 (BO.length:Int)∧s.v 22=bc .i64 Ff
def Kk(tL tD:Int)(tN tE:AX)(AV:Ad)(Ab AP:AO)(BO:AX)(r:AX)(ex:Ex)(s:St):Prop:=ex= .exit 0∧s.v 8=b7 [bc .i64 tL,bc .i64 tD,bk 26 (AQ BX tN),bk 26 (AQ BX tE),bk 79 (AQ (fun x=>bk 87 (Ak .i64 .i64 x)) AV),bk 3 (AQ (bc .i64) Ab),bk 3 (AQ (bc .i64) AP),br 26 (AQ Jp r)]
theorem XT(tL tD:Int)(tN tE:AX)(AV:Ad)(Ab AP:AO)(BO:AX){v:AX×Int}{s:St}{r:AX}(h:KL tL tD tN tE AV Ab AP BO v=some r)(hM:F7 tL tD tN tE AV Ab AP BO v.1 v.2 s):BS Y.env A5P (Kk tL tD tN tE AV Ab AP BO r) s:=by
 unfold KL at h;refine Aw (c:=qx) (fun v=>F5 tL tD tN tE AV Ab AP BO v.1 v.2) (fun v s=>F7 tL tD tN tE AV Ab AP BO v.1 v.2 s) (Kk tL tD tN tE AV Ab AP BO) ?_ h hM;clear h hM s v r;intro v s o hM h;obtain⟨t8_7,Ff⟩:=v;dsimp only at h hM;unfold F5 at h;unfold F7 at hM;obtain⟨m0,m1,m2,m3,m4⟩:=hM;unfold qx;rcases iS h with⟨e2,h⟩|⟨e2,h⟩
 ·obtain⟨e3,h⟩:=Cu h;obtain⟨AU,hl5,h⟩:=Ag h;try dsimp only at h
  simp (maxDischargeDepth:=9) only [↓AJ,AL,↓reduceIte,bj,bh,m0,m3,m4,e2,e3.1,e3.2];refine Al (XR tL tD tN tE AV Ab AP BO Ff hl5 ?_) ?_
  ·simp (maxDischargeDepth:=9) only [BK,↓reduceIte,bj,m0,m1,m2,m3,m4,Dz]
  ·intro ex5 s5 hX5;unfold Kj at hX5;obtain⟨rfl,n5_0,n5_1,n5_2,n5_3,n5_4⟩:=hX5;cases h;simp (maxDischargeDepth:=9) only [↓AJ,AL,↓reduceIte,bj,bh,n5_0,n5_1,n5_2,n5_3,n5_4,F7,Cx]
 ·cases h;simp (maxDischargeDepth:=9) only [↓AJ,AL,↓reduceIte,bj,bh,m2,m3,m4,e2,F7,Kk,Gf]
def F8(t8_0 t8_1:Int)(t8_2 t8_3:AX)(t8_4:Ad)(t8_5 t8_6:AO)(t8_7:AX)(s:St):Prop:=s.v 8=b7 [bc .i64 t8_0,bc .i64 t8_1,bk 26 (AQ BX t8_2),bk 26 (AQ BX t8_3),bk 79 (AQ (fun x=>bk 87 (Ak .i64 .i64 x)) t8_4),bk 3 (AQ (bc .i64) t8_5),bk 3 (AQ (bc .i64) t8_6),br 26 (AQ Jp t8_7)]
def Kl(r:Int×Int×AX×AX×Ad×AO×AO×AX)(ex:Ex)(s:St):Prop:=ex= .exit 4∧s.v 8=b7 [bc .i64 r.1,bc .i64 r.2.1,bk 26 (AQ BX r.2.2.1),bk 26 (AQ BX r.2.2.2.1),bk 79 (AQ (fun x=>bk 87 (Ak .i64 .i64 x)) r.2.2.2.2.1),bk 3 (AQ (bc .i64) r.2.2.2.2.2.1),bk 3 (AQ (bc .i64) r.2.2.2.2.2.2.1),br 26 (AQ Jp r.2.2.2.2.2.2.2)]
theorem XU{v:Int×Int×AX×AX×Ad×AO×AO×AX}{s:St}{r:Int×Int×AX×AX×Ad×AO×AO×AX}(h:I5 v=some r)(hM:F8 v.1 v.2.1 v.2.2.1 v.2.2.2.1 v.2.2.2.2.1 v.2.2.2.2.2.1 v.2.2.2.2.2.2.1 v.2.2.2.2.2.2.2 s):BS Y.env A5Q (Kl r) s:=by
 unfold I5 at h;refine Aw (c:=qy) (fun v=>I4 v.1 v.2.1 v.2.2.1 v.2.2.2.1 v.2.2.2.2.1 v.2.2.2.2.2.1 v.2.2.2.2.2.2.1 v.2.2.2.2.2.2.2) (fun v s=>F8 v.1 v.2.1 v.2.2.1 v.2.2.2.1 v.2.2.2.2.1 v.2.2.2.2.2.1 v.2.2.2.2.2.2.1 v.2.2.2.2.2.2.2 s) (Kl) ?_ h hM;clear h hM s v r;intro v s o hM h;obtain⟨t8_0,t8_1,t8_2,t8_3,t8_4,t8_5,t8_6,t8_7⟩:=v;dsimp only at h hM;unfold I4 at h;unfold F8 at hM;have m0:=hM;unfold qy;obtain⟨Sk,hl4,h⟩:=Ag h;have c4:=UL t8_0 t8_1 t8_2 t8_3 t8_4 t8_5 t8_6 t8_7 hl4;rcases iS h with⟨e5,h⟩|⟨e5,h⟩
 ·cases h;simp (maxDischargeDepth:=9) only [↓AJ,AL,↓reduceIte,bj,bx,m0,c4,e5,F8,Cx]
 ·have e5f:Sk.1=false:=G8.mpr e5;cases h;simp (maxDischargeDepth:=9) only [↓AJ,AL,↓reduceIte,bj,bx,m0,c4,e5f,F8,Kl,Gf]
def E5(BH:Int×Int×AX×AX×Ad×AO×AO×AX)(gK:Int)(s:St):Prop:=s.v 8=b7 [bc .i64 BH.1,bc .i64 BH.2.1,bk 26 (AQ BX BH.2.2.1),bk 26 (AQ BX BH.2.2.2.1),bk 79 (AQ (fun x=>bk 87 (Ak .i64 .i64 x)) BH.2.2.2.2.1),bk 3 (AQ (bc .i64) BH.2.2.2.2.2.1),bk 3 (AQ (bc .i64) BH.2.2.2.2.2.2.1),br 26 (AQ Jp BH.2.2.2.2.2.2.2)]∧s.v 68=D.vw [8,7] (s.k 8) (s.m 8)∧s.v 69=bc .i64 (BH.2.2.2.2.2.2.2.length:Int)∧s.v 70=bc .i64 gK
def F9(BH:Int×Int×AX×AX×Ad×AO×AO×AX)(r:Unit⊕Unit)(ex:Ex)(s:St):Prop:=match r with
 | .inl q=>ex= .ret∧s.v 6=br 26 []∧s.v 7=bp false
 | .inr q=>ex= .exit 6∧s.v 8=b7 [bc .i64 BH.1,bc .i64 BH.2.1,bk 26 (AQ BX BH.2.2.1),bk 26 (AQ BX BH.2.2.2.1),bk 79 (AQ (fun x=>bk 87 (Ak .i64 .i64 x)) BH.2.2.2.2.1),bk 3 (AQ (bc .i64) BH.2.2.2.2.2.1),bk 3 (AQ (bc .i64) BH.2.2.2.2.2.2.1),br 26 (AQ Jp BH.2.2.2.2.2.2.2)]
theorem XV(BH:Int×Int×AX×AX×Ad×AO×AO×AX){v:Int}{s:St}{r:Unit⊕Unit}(h:Mj BH v=some r)(hM:E5 BH v s):BS Y.env A5R (F9 BH r) s:=by
 unfold Mj at h;refine Aw (c:=qz) (fun v=>F6 BH v) (fun v s=>E5 BH v s) (F9 BH) ?_ h hM;clear h hM s v r;intro gK s o hM h;unfold F6 at h;unfold E5 at hM;obtain⟨m0,m1,m2,m3⟩:=hM;unfold qz;rcases iS h with⟨e7,h⟩|⟨e7,h⟩
 ·obtain⟨e8,e9,h⟩:=Dr h;have Uq:=O5 (BH.2.2.2.2.2.2.2.getD gK.toNat be) (0:Int) e9;rcases iS h with⟨e11,h⟩|⟨e11,h⟩
  ·cases h;simp (maxDischargeDepth:=9) only [↓AJ,AL,↓reduceIte,bj,bh,bx,m0,m1,m2,m3,e7,e8.1,e8.2,Uq,e11,E5,F9,QC]
  ·have e11f:((BH.2.2.2.2.2.2.2.getD gK.toNat be).contains (0:Int))=false:=G8.mpr e11;cases h;simp (maxDischargeDepth:=9) only [↓AJ,AL,↓reduceIte,bj,bh,bx,m0,m1,m2,m3,e7,e8.1,e8.2,Uq,e11f,E5,Cx]
 ·cases h;simp (maxDischargeDepth:=9) only [↓AJ,AL,↓reduceIte,bj,bh,m0,m2,m3,e7,E5,F9,Gf]
theorem YX(tL tD:Int)(tN tE:AX)(AV:Ad)(Ab AP:AO)(BO:AX){r:AX×Bool}(h:OC tL tD tN tE AV Ab AP BO=some r):Y.call 42 [bw [bc .i64 tL,bc .i64 tD,bk 26 (AQ BX tN),bk 26 (AQ BX tE)],bw [bk 79 (AQ (fun x=>bk 87 (Ak .i64 .i64 x)) AV),bk 3 (AQ (bc .i64) Ab),bk 3 (AQ (bc .i64) AP)],bk 26 (AQ BX BO)] []=some (D.tup [br 26 (AQ Jp r.1),bp r.2],[]):=by
 refine c42 ?_ rfl;unfold k42;unfold OC at h;obtain⟨zm,hl1,h⟩:=Ag h;have c1:=YW BO hl1;obtain⟨Au,hl3,h⟩:=Ag h;try dsimp only at h
 simp (maxDischargeDepth:=9) only [↓AJ,AL,↓reduceIte,bj,bh,b5,bx,c1];refine Al (XT tL tD tN tE AV Ab AP BO hl3 ?_) ?_
 ·simp (maxDischargeDepth:=9) only [BK,Cg,↓reduceIte,bj,bh,F7]
 ·intro ex3 s3 hX3;unfold Kk at hX3;obtain⟨rfl,n3_0⟩:=hX3;obtain⟨BH,hl6,h⟩:=Ag h;try dsimp only at h
  simp (maxDischargeDepth:=9) only [↓AJ,↓reduceIte];refine Al (XU hl6 ?_) ?_
  ·simp (maxDischargeDepth:=9) only [n3_0,F8]
  ·intro ex6 s6 hX6;unfold Kl at hX6;obtain⟨rfl,n6_0⟩:=hX6;obtain⟨Sl,hl8,h⟩:=Ag h;try dsimp only at h
   simp (maxDischargeDepth:=9) only [↓AJ,AL,↓reduceIte,bj,n6_0];refine Al (XV BH hl8 ?_) ?_
   ·simp (maxDischargeDepth:=9) only [BK,↓reduceIte,bj,n6_0,E5]
   ·intro ex8 s8 hX8;rcases Sl with q1003_|q1003_
    ·unfold F9 at hX8;dsimp only at hX8 h;obtain⟨rfl,n8_0,n8_1⟩:=hX8;cases h;simp (maxDischargeDepth:=9) only [↓AJ,AL,↓reduceIte,bj,n8_0,n8_1]<;>(repeat' apply A7)<;>first|rfl|exact⟨_,rfl⟩|exact⟨_,_,rfl⟩|simp [AQ,Ay]
    ·unfold F9 at hX8;dsimp only at hX8 h;obtain⟨rfl,n8_0⟩:=hX8;cases h;simp (maxDischargeDepth:=9) only [↓AJ,AL,↓reduceIte,bj,bh,n8_0]
def k14:SC:= .seq (.ops [oX 3 (.box 34 (tK 0)) 0,oX 4 (.box 38 (tK 1)) 0,oX 6 Gv 22,oX 7 Ba 4]) (.seq (.seq (.ops [oL 8 34 3 34,oC 9 39 [(tK 8)] [34] 4,oX 10 (.unOp .not 4 (tK 9)) 4,oM 11 10 4,⟨some 12,.load 38 (tK 4),38,(some (some 11,false))⟩,⟨some 13,.call ⟨(.value (.func 40)), #[(tK 12)], #[38]⟩,4,(some (some 11,false))⟩,⟨some 14,.unOp .not 4 (tK 13),4,(some (some 11,false))⟩,oX 15 (.pick (tK 11) Cy (tK 14)) 4,oM 16 15 4,⟨some 17,.load 34 (tK 3),34,(some (some 16,false))⟩,⟨some 18,.load 38 (tK 4),38,(some (some 16,false))⟩,⟨some 19,.move (tK 2),22,(some (some 16,false))⟩,⟨some 20,.call ⟨(.value (.func 41)), #[(tK 17),(tK 18),(tK 19)], #[34,38,22]⟩,4,(some (some 16,false))⟩,⟨some 21,.unOp .not 4 (tK 20),4,(some (some 16,false))⟩,oX 22 (.pick (tK 16) Cy (tK 21)) 4]) (.cond (tK 22) (.seq (.ops [oX 6 Gv 22,oX 7 Ba 4]) .ret) .skip)) (.seq (.ops [oL 23 34 3 34,oL 24 38 4 38,oM 25 2 22,oC 26 42 [(tK 23),(tK 24),(tK 25)] [34,38,22] 32,oE 27 26 0 22,oE 28 26 1 4,oA 6 27 22,oA 7 28 4]) .ret))
theorem AEf:Tryz.f14.body.map (BP lends)=some k14:=by kernel_rfl
theorem ASd:BR Tryz.f14 3=true:=by kernel_rfl
theorem kV{a l:List D}{r:D×List D}(h:BS Y.env k14 (fin Aj l.length [bt 6,bt 7] r) (entry a l))(ha:a.length=3):Y.call 14 a l=some r:=
 AY (Y:=Y) rfl Tryz.func14 (ha▸ASd) AEf h
def JQ(l out:AX)(GI:Int):Option ((AX×Int)⊕(AX)):= if GI<(l.length:Int)then ck (0≤GI∧GI.toNat<l.length)<| (KZ (l.getD GI.toNat be)).bind fun Vn=> ck (out.length+1<1099511627776)<| some (bo ((out++[Vn]),bm.wrap (GI+1))) else some (bl out)
def Qe(l:AX)(v:AX×Int):Option (AX):=Dq (fun v=>JQ l v.1 v.2) v
def UM(l:AX):Option (AX):= (Qe l ([],0)).bind fun AU=> some AU
def rA:SC:= .seq (.ops [oB 9 .lss 3 (tK 8) (tK 7) 3 0]) (.seq (.cond (tK 9) .skip (.exit 0)) (.seq (.block 1 (.seq (.ops [oI 10 22 6 8,oL 11 26 10 26,oA 5 11 26]) (.ops [oM 12 3 22,oM 13 5 26,oC 14 92 [(tK 13)] [26] 26,oX 15 (.buildSlice 22 1 #[(0,(tK 14))]) 22,oX 16 (.call ⟨(.builtin .append), #[(tK 12),(tK 15)], #[22,22]⟩) 22,oA 3 16 22]))) (.ops [oB 17 .add 3 (tK 8) (iK 1) 3 3,oM 8 17 3])))
def A5S:SC:= .loop rA
def k60:SC:= .seq (.ops [oX 2 Gv 22]) (.seq (.ops [oX 3 Gv 22]) (.seq (.seq (.ops [oM 6 0 22,oN 7 6 22,oX 8 (.move (iK 0)) 3]) (.block 0 A5S)) (.seq (.ops [oM 18 3 22,oA 2 18 22]) .ret)))
theorem AEg:Tryz.f60.body.map (BP lends)=some k60:=by kernel_rfl
theorem ASf:BR Tryz.f60 1=true:=by kernel_rfl
theorem c60{a l:List D}{r:D×List D}(h:BS Y.env k60 (fin Aj l.length [bt 2] r) (entry a l))(ha:a.length=1):Y.call 60 a l=some r:=
 AY (Y:=Y) rfl Tryz.func60 (ha▸ASf) AEg h
def JR(l out:AX)(GI:Int)(s:St):Prop:=s.v 3=br 26 (AQ Jp out)∧s.v 6=bk 26 (AQ BX l)∧s.v 7=bc .i64 (l.length:Int)∧s.v 8=bc .i64 GI
def NW(l:AX)(r:AX)(ex:Ex)(s:St):Prop:=ex= .exit 0∧s.v 3=br 26 (AQ Jp r)
theorem gL(l:AX){v:AX×Int}{s:St}{r:AX}(h:Qe l v=some r)(hM:JR l v.1 v.2 s):BS Y.env A5S (NW l r) s:=by
 unfold Qe at h;refine Aw (c:=rA) (fun v=>JQ l v.1 v.2) (fun v s=>JR l v.1 v.2 s) (NW l) ?_ h hM;clear h hM s v r;intro v s o hM h;obtain⟨out,GI⟩:=v;dsimp only at h hM;unfold JQ at h;unfold JR at hM;obtain⟨m0,m1,m2,m3⟩:=hM;unfold rA;rcases iS h with⟨e1,h⟩|⟨e1,h⟩
 ·obtain⟨e2,h⟩:=Cu h;obtain⟨Vn,hl3,h⟩:=Ag h;have c3:=IZ (l.getD GI.toNat be) hl3;obtain⟨e4,h⟩:=Cu h;cases h;simp (maxDischargeDepth:=9) only [↓AJ,AL,↓reduceIte,bj,bh,b5,bx,m0,m1,m2,m3,e1,e2.1,e2.2,c3,e4,JR,Cx]
 ·cases h;simp (maxDischargeDepth:=9) only [↓AJ,AL,↓reduceIte,bj,bh,m0,m2,m3,e1,JR,NW,Gf]
theorem kW(l:AX){r:AX}(h:UM l=some r):Y.call 60 [bk 26 (AQ BX l)] []=some (br 26 (AQ Jp r),[]):=by
 refine c60 ?_ rfl;unfold k60;unfold UM at h;obtain⟨AU,hl2,h⟩:=Ag h;try dsimp only at h
 simp (maxDischargeDepth:=9) only [↓AJ,AL,↓reduceIte,bj,bh];refine Al (gL l hl2 ?_) ?_
 ·simp (maxDischargeDepth:=9) only [BK,↓reduceIte,bj,JR]<;>(repeat' apply A7)<;>first|rfl|exact⟨_,rfl⟩|exact⟨_,_,rfl⟩|simp [AQ,Ay]
 ·intro ex2 s2 hX2;unfold NW at hX2;obtain⟨rfl,n2_0⟩:=hX2;cases h;simp (maxDischargeDepth:=9) only [↓AJ,AL,↓reduceIte,bj,bh,n2_0]
def JS(pL pD:Int)(pN pE:AX)(Bt:AX)(out:AX)(Bd:Int)(out1:AX)(CW:Int):Option ((AX×Int)⊕(AX)):= if CW<((out.getD Bd.toNat be).length:Int)then ck (Bd.toNat<out1.length)<| ck (0≤CW∧CW.toNat<(out1.getD Bd.toNat be).length)<| if((out1.getD Bd.toNat be).getD CW.toNat be)<0 then ck (0≤Bd∧Bd.toNat<out1.length)<| ck (¬(bO.wrap pL)<0)<| some (bo ((out1.set Bd.toNat ((out1.getD Bd.toNat be).set CW.toNat (bm.wrap ((bm.wrap (1*2 ^ (min (bO.wrap pL).toNat (bm.bits))))-1)))),bm.wrap (CW+1))) else ck (0≤Bd∧Bd.toNat<out1.length)<| ck (¬(bO.wrap ((out1.getD Bd.toNat be).getD CW.toNat be))<0)<| some (bo ((out1.set Bd.toNat ((out1.getD Bd.toNat be).set CW.toNat (bm.wrap (1*2 ^ (min (bO.wrap ((out1.getD Bd.toNat be).getD CW.toNat be)).toNat (bm.bits)))))),bm.wrap (CW+1))) else some (bl out1)
def OD(pL pD:Int)(pN pE:AX)(Bt:AX)(out:AX)(Bd:Int)(v:AX×Int):Option (AX):=Dq (fun v=>JS pL pD pN pE Bt out Bd v.1 v.2) v
def JU(pL pD:Int)(pN pE:AX)(Bt:AX)(out:AX)(Bd:Int):Option ((AX×Int)⊕(AX)):= if Bd<(Bt.length:Int)then ck (0≤Bd∧Bd.toNat<out.length)<| (OD pL pD pN pE Bt out Bd (out,0)).bind fun AU=> some (bo (AU,bm.wrap (Bd+1))) else some (bl out)
def OE(pL pD:Int)(pN pE:AX)(Bt:AX)(v:AX×Int):Option (AX):=Dq (fun v=>JU pL pD pN pE Bt v.1 v.2) v
def UN(pL pD:Int)(pN pE l:AX):Option (AX):= (UM l).bind fun Bt=> (OE pL pD pN pE Bt (Bt,0)).bind fun Au=> some Au
abbrev aI:List Nat:=[28,29,30,31,32,33,34,35,36,37,38,38,37,5,37]
def rC:SC:= .seq (.ops [oB 22 .lss 3 (tK 21) (tK 20) 3 0]) (.seq (.cond (tK 22) .skip (.exit 2)) (.seq (.block 3 (.seq (.ops [oM 23 21 3,oI 24 26 19 21,oL 25 3 24 3,oA 8 23 3,oA 9 25 3]) (.seq (.ops [oM 26 9 3,oB 27 .lss 3 (tK 26) (iK 0) 3 4]) (.cond (tK 27) (.draws [(⟨[28,5,5],aI,[28]⟩,oM 28 5 22),(⟨[29,6,6],aI,[29]⟩,oM 29 6 3),(⟨[30,28,29,5,6],aI,[30]⟩,oI 30 22 28 29),(⟨[31,30,5],aI,[31]⟩,oL 31 26 30 26),(⟨[32,8,8],aI,[32]⟩,oM 32 8 3),(⟨[33,2,2],aI,[33]⟩,oF 33 34 2 0),(⟨[34,33,2],aI,[34]⟩,oL 34 3 33 3),(⟨[35,34,2],aI,[35]⟩,oX 35 (.convert 3 82 (tK 34)) 82),(⟨[36,35,35],aI,[36]⟩,oB 36 .shl 3 (iK 1) (tK 35) 82 3),(⟨[37,36,36],aI,[37]⟩,oB 37 .sub 3 (tK 36) (iK 1) 3 3),(⟨[38,31,32,5,8],aI,[38]⟩,oI 38 26 31 32),(⟨[38,37,5,37],aI,[38,37,5,37]⟩,oS 3 38 37)]) (.ops [oM 39 5 22,oM 40 6 3,oI 41 22 39 40,oL 42 26 41 26,oM 43 8 3,oM 44 9 3,oX 45 (.convert 3 82 (tK 44)) 82,oB 46 .shl 3 (iK 1) (tK 45) 82 3,oI 47 26 42 43,oS 3 47 46]))))) (.ops [oB 48 .add 3 (tK 21) (iK 1) 3 3,oM 21 48 3])))
def A5T:SC:= .loop rC
def rD:SC:= .seq (.ops [oB 15 .lss 3 (tK 14) (tK 13) 3 0]) (.seq (.cond (tK 15) .skip (.exit 0)) (.seq (.block 1 (.seq (.ops [oM 16 14 3,oI 17 22 12 14,oL 18 26 17 26,oA 6 16 3,oA 7 18 26]) (.seq (.ops [oM 19 7 26,oN 20 19 26,oX 21 (.move (iK 0)) 3]) (.block 2 A5T)))) (.ops [oB 49 .add 3 (tK 14) (iK 1) 3 3,oM 14 49 3])))
def A5U:SC:= .loop rD
def k35:SC:= .seq (.ops [oX 2 (.box 34 (tK 0)) 0,oX 4 Gv 22]) (.seq (.ops [oM 10 1 22,oC 11 60 [(tK 10)] [22] 22,oA 5 11 22]) (.seq (.seq (.ops [oM 12 5 22,oN 13 12 22,oX 14 (.move (iK 0)) 3]) (.block 0 A5U)) (.seq (.ops [oM 50 5 22,oA 4 50 22]) .ret)))
theorem AEh:Tryz.f35.body.map (BP lends)=some k35:=by kernel_rfl
theorem ASh:BR Tryz.f35 2=true:=by kernel_rfl
theorem c35{a l:List D}{r:D×List D}(h:BS Y.env k35 (fin Aj l.length [bt 4] r) (entry a l))(ha:a.length=2):Y.call 35 a l=some r:=
 AY (Y:=Y) rfl Tryz.func35 (ha▸ASh) AEh h
def Gn(pL pD:Int)(pN pE:AX)(Bt:AX)(out:AX)(Bd:Int)(out1:AX)(CW:Int)(s:St):Prop:=s.v 2=b7 [bc .i64 pL,bc .i64 pD,bk 26 (AQ BX pN),bk 26 (AQ BX pE)]∧s.v 5=br 26 (AQ Jp out1)∧s.v 6=bc .i64 Bd∧(∃w_,s.v 12=D.vw [5] (s.k 5) w_)∧s.v 13=bc .i64 (Bt.length:Int)∧s.v 14=bc .i64 Bd∧s.v 19=D.vw [5,Bd.toNat] (s.k 5) (s.m 5)∧s.v 20=bc .i64 ((out.getD Bd.toNat be).length:Int)∧s.v 21=bc .i64 CW
def NY(pL pD:Int)(pN pE:AX)(Bt:AX)(out:AX)(Bd:Int)(r:AX)(ex:Ex)(s:St):Prop:=ex= .exit 2∧s.v 2=b7 [bc .i64 pL,bc .i64 pD,bk 26 (AQ BX pN),bk 26 (AQ BX pE)]∧s.v 5=br 26 (AQ Jp r)∧(∃w_,s.v 12=D.vw [5] (s.k 5) w_)∧s.v 13=bc .i64 (Bt.length:Int)∧s.v 14=bc .i64 Bd
theorem gM(pL pD:Int)(pN pE:AX)(Bt:AX)(out:AX)(Bd:Int){v:AX×Int}{s:St}{r:AX}(h:OD pL pD pN pE Bt out Bd v=some r)(hM:Gn pL pD pN pE Bt out Bd v.1 v.2 s):BS Y.env A5T (NY pL pD pN pE Bt out Bd r) s:=by
 unfold OD at h;refine Aw (c:=rC) (fun v=>JS pL pD pN pE Bt out Bd v.1 v.2) (fun v s=>Gn pL pD pN pE Bt out Bd v.1 v.2 s) (NY pL pD pN pE Bt out Bd) ?_ h hM;clear h hM s v r;intro v s o hM h;obtain⟨out1,CW⟩:=v;dsimp only at h hM;unfold JS at h;unfold Gn at hM;obtain⟨m0,m1,m2,⟨w3_,m3⟩,m4,m5,m6,m7,m8⟩:=hM;unfold rC;rcases iS h with⟨e4,h⟩|⟨e4,h⟩
 ·obtain⟨e5,e6,h⟩:=Dr h;rcases iS h with⟨e7,h⟩|⟨e7,h⟩
  ·obtain⟨e8,e9,h⟩:=Dr h;cases h;simp (maxDischargeDepth:=9) only [↓AJ,AL,↓reduceIte,bj,bh,b9,m0,m1,m2,m3,m4,m5,m6,m7,m8,e4,e5,e6.1,e6.2,e7,e8.1,e9,Gn,Cx]<;>(repeat' apply A7)<;>first|rfl|exact⟨_,rfl⟩|exact⟨_,_,rfl⟩|simp [AQ,Ay]
  ·obtain⟨e8,e9,h⟩:=Dr h;cases h;simp (maxDischargeDepth:=9) only [↓AJ,AL,↓reduceIte,bj,bh,m0,m1,m2,m3,m4,m5,m6,m7,m8,e4,e5,e6.1,e6.2,e7,e8.1,e9,Gn,Cx]<;>(repeat' apply A7)<;>first|rfl|exact⟨_,rfl⟩|exact⟨_,_,rfl⟩|simp [AQ,Ay]
 ·cases h;simp (maxDischargeDepth:=9) only [↓AJ,AL,↓reduceIte,bj,bh,m0,m1,m3,m4,m5,m7,m8,e4,Gn,NY,Gf]<;>(repeat' apply A7)<;>first|rfl|exact⟨_,rfl⟩|exact⟨_,_,rfl⟩|simp [AQ,Ay]
def JV(pL pD:Int)(pN pE:AX)(Bt:AX)(out:AX)(Bd:Int)(s:St):Prop:=s.v 2=b7 [bc .i64 pL,bc .i64 pD,bk 26 (AQ BX pN),bk 26 (AQ BX pE)]∧s.v 5=br 26 (AQ Jp out)∧(∃w_,s.v 12=D.vw [5] (s.k 5) w_)∧s.v 13=bc .i64 (Bt.length:Int)∧s.v 14=bc .i64 Bd
def NZ(pL pD:Int)(pN pE:AX)(Bt:AX)(r:AX)(ex:Ex)(s:St):Prop:=ex= .exit 0∧s.v 5=br 26 (AQ Jp r)
theorem gN(pL pD:Int)(pN pE:AX)(Bt:AX){v:AX×Int}{s:St}{r:AX}(h:OE pL pD pN pE Bt v=some r)(hM:JV pL pD pN pE Bt v.1 v.2 s):BS Y.env A5U (NZ pL pD pN pE Bt r) s:=by
 unfold OE at h;refine Aw (c:=rD) (fun v=>JU pL pD pN pE Bt v.1 v.2) (fun v s=>JV pL pD pN pE Bt v.1 v.2 s) (NZ pL pD pN pE Bt) ?_ h hM;clear h hM s v r;intro v s o hM h;obtain⟨out,Bd⟩:=v;dsimp only at h hM;unfold JU at h;unfold JV at hM;obtain⟨m0,m1,⟨w2_,m2⟩,m3,m4⟩:=hM;unfold rD;rcases iS h with⟨e2,h⟩|⟨e2,h⟩
 ·obtain⟨e3,h⟩:=Cu h;obtain⟨AU,hl5,h⟩:=Ag h;try dsimp only at h
  simp (maxDischargeDepth:=9) only [↓AJ,AL,↓reduceIte,bj,bh,m1,m2,m3,m4,e2,e3.1,e3.2];refine Al (gM pL pD pN pE Bt out Bd hl5 ?_) ?_
  ·simp (maxDischargeDepth:=9) only [BK,↓reduceIte,bj,m0,m1,m2,m3,m4,Gn]<;>(repeat' apply A7)<;>first|rfl|exact⟨_,rfl⟩|exact⟨_,_,rfl⟩|simp [AQ,Ay]
  ·intro ex5 s5 hX5;unfold NY at hX5;obtain⟨rfl,n5_0,n5_1,⟨w2_,n5_2⟩,n5_3,n5_4⟩:=hX5;cases h;simp (maxDischargeDepth:=9) only [↓AJ,AL,↓reduceIte,bj,bh,n5_0,n5_1,n5_2,n5_3,n5_4,JV,Cx]<;>(repeat' apply A7)<;>first|rfl|exact⟨_,rfl⟩|exact⟨_,_,rfl⟩|simp [AQ,Ay]
 ·cases h;simp (maxDischargeDepth:=9) only [↓AJ,AL,↓reduceIte,bj,bh,m1,m3,m4,e2,JV,NZ,Gf]
theorem kX(pL pD:Int)(pN pE l:AX){r:AX}(h:UN pL pD pN pE l=some r):Y.call 35 [bw [bc .i64 pL,bc .i64 pD,bk 26 (AQ BX pN),bk 26 (AQ BX pE)],bk 26 (AQ BX l)] []=some (br 26 (AQ Jp r),[]):=by
 refine c35 ?_ rfl;unfold k35;unfold UN at h;obtain⟨Bt,hl1,h⟩:=Ag h;have c1:=kW l hl1;obtain⟨Au,hl3,h⟩:=Ag h;try dsimp only at h
 simp (maxDischargeDepth:=9) only [↓AJ,AL,↓reduceIte,bj,bh,bx,c1];refine Al (gN pL pD pN pE Bt hl3 ?_) ?_
 ·simp (maxDischargeDepth:=9) only [BK,↓reduceIte,bj,bx,JV]<;>(repeat' apply A7)<;>first|rfl|exact⟨_,rfl⟩|exact⟨_,_,rfl⟩|simp [AQ,Ay]
 ·intro ex3 s3 hX3;unfold NZ at hX3;obtain⟨rfl,n3_0⟩:=hX3;cases h;simp (maxDischargeDepth:=9) only [↓AJ,AL,↓reduceIte,bj,bh,n3_0]
def Km(n_1 i1:Int):Option ((Int×Int)⊕(Int)):= if 0<i1 then some (bo (bm.wrap (n_1.tdiv 2),bm.wrap (i1-1))) else some (bl n_1)
def Px(v:Int×Int):Option (Int):=Dq (fun v=>Km v.1 v.2) v
def bC(n_ i:Int):Option (Int):= (Px (n_,i)).bind fun AU=> some (AU.tmod 2)
def rE:SC:= .seq (.seq (.ops [oM 5 1 3,oB 6 .gtr 3 (tK 5) (iK 0) 3 4]) (.cond (tK 6) .skip (.exit 0))) (.seq (.block 1 (.ops [oM 9 0 3,oB 10 .quo 3 (tK 9) (iK 2) 3 3,oA 0 10 3])) (.ops [oM 7 1 3,oB 8 .sub 3 (tK 7) (iK 1) 3 3,oA 1 8 3]))
def A5W:SC:= .loop rE
def k93:SC:= .seq (.ops [oX 4 (.assign (iK 0)) 3]) (.seq (.block 0 A5W) (.seq (.ops [oM 11 0 3,oB 12 .rem 3 (tK 11) (iK 2) 3 3,oA 4 12 3]) .ret))
theorem AEi:Tryz.f93.body.map (BP lends)=some k93:=by kernel_rfl
theorem ASj:BR Tryz.f93 2=true:=by kernel_rfl
theorem c93{a l:List D}{r:D×List D}(h:BS Y.env k93 (fin Aj l.length [bt 4] r) (entry a l))(ha:a.length=2):Y.call 93 a l=some r:=
 AY (Y:=Y) rfl Tryz.func93 (ha▸ASj) AEi h
def Kn(n_1 i1:Int)(s:St):Prop:=s.v 0=bc .i64 n_1∧s.v 1=bc .i64 i1
def Oi(r:Int)(ex:Ex)(s:St):Prop:=ex= .exit 0∧s.v 0=bc .i64 r
theorem kY{v:Int×Int}{s:St}{r:Int}(h:Px v=some r)(hM:Kn v.1 v.2 s):BS Y.env A5W (Oi r) s:=by
 unfold Px at h;refine Aw (c:=rE) (fun v=>Km v.1 v.2) (fun v s=>Kn v.1 v.2 s) (Oi) ?_ h hM;clear h hM s v r;intro v s o hM h;obtain⟨n_1,i1⟩:=v;dsimp only at h hM;unfold Km at h;unfold Kn at hM;obtain⟨m0,m1⟩:=hM;unfold rE;rcases iS h with⟨e1,h⟩|⟨e1,h⟩
 ·cases h;simp (maxDischargeDepth:=9) only [↓AJ,AL,↓reduceIte,bj,bh,Int.reduceEq,m0,m1,e1,Kn,Cx]
 ·cases h;simp (maxDischargeDepth:=9) only [↓AJ,AL,↓reduceIte,bj,bh,m0,m1,e1,Kn,Oi,Gf]
theorem rF(n_ i:Int){r:Int}(h:bC n_ i=some r):Y.call 93 [bc .i64 n_,bc .i64 i] []=some (bc .i64 r,[]):=by
 refine c93 ?_ rfl;unfold k93;unfold bC at h;obtain⟨AU,hl2,h⟩:=Ag h;try dsimp only at h
 simp (maxDischargeDepth:=9) only [↓AJ,AL,↓reduceIte,bj,bh];refine Al (kY hl2 ?_) ?_
 ·simp (maxDischargeDepth:=9) only [BK,Cg,↓reduceIte,bj,bh,Kn]
 ·intro ex2 s2 hX2;unfold Oi at hX2;obtain⟨rfl,n2_0⟩:=hX2;cases h;simp (maxDischargeDepth:=9) only [↓AJ,AL,↓reduceIte,bj,bh,Int.reduceEq,n2_0]
def UO(mask a:Int):Option (Bool):= (bC mask a).bind fun r7_=> some (decide (r7_=1))
def k61:SC:= .seq (.ops [oX 4 Ba 4]) (.seq (.ops [oM 5 0 3,oM 6 1 3,oC 7 93 [(tK 5),(tK 6)] [3,3] 3,oB 8 .eql 3 (tK 7) (iK 1) 3 4,oA 4 8 4]) .ret)
theorem AEj:Tryz.f61.body.map (BP lends)=some k61:=by kernel_rfl
theorem ASl:BR Tryz.f61 2=true:=by kernel_rfl
theorem c61{a l:List D}{r:D×List D}(h:BS Y.env k61 (fin Aj l.length [bt 4] r) (entry a l))(ha:a.length=2):Y.call 61 a l=some r:=
 AY (Y:=Y) rfl Tryz.func61 (ha▸ASl) AEj h
theorem ZQ(mask a:Int){r:Bool}(h:UO mask a=some r):Y.call 61 [bc .i64 mask,bc .i64 a] []=some (bp r,[]):=by
 refine c61 ?_ rfl;unfold k61;unfold UO at h;obtain⟨r7_,hl1,h⟩:=Ag h;try dsimp only at h
 have c1:=rF mask a hl1;cases h;simp (maxDischargeDepth:=9) only [↓AJ,AL,↓reduceIte,bj,bh,bx,c1]
def A7x:SC:= .seq (.ops [oB 25 .lss 3 (tK 24) (tK 23) 3 0]) (.seq (.cond (tK 25) .skip (.exit 0)) (.seq (.block 1 (.seq (.ops [oI 26 22 22 24,oL 27 26 26 26,oA 10 27 26]) (.seq (.ops [oM 28 10 26,oC 29 36 [(tK 28),(iK 0)] [26,3] 4]) (.cond (tK 29) (.seq (.ops [oX 6 Gv 22,oX 7 Ba 4]) .ret) .skip)))) (.ops [oB 30 .add 3 (tK 24) (iK 1) 3 3,oM 24 30 3])))
def AEk:SC:= .loop A7x
abbrev zo:List Nat:=[16,17,18,19,20,21,8,21,21]
def k10:SC:= .seq (.ops [oX 3 (.box 34 (tK 0)) 0,oX 4 (.box 38 (tK 1)) 0,oX 6 Gv 22,oX 7 Ba 4]) (.seq (.seq (.ops [oL 11 34 3 34,oL 12 38 4 38,oM 13 2 22,oC 14 33 [(tK 11),(tK 12),(tK 13)] [34,38,22] 4,oX 15 (.unOp .not 4 (tK 14)) 4]) (.cond (tK 15) (.seq (.ops [oX 6 Gv 22,oX 7 Ba 4]) .ret) .skip)) (.seq (.draws [(⟨[16,3,3],zo,[16]⟩,oL 16 34 3 34),(⟨[17,4,4],zo,[17]⟩,oL 17 38 4 38),(⟨[18,3,3],zo,[18]⟩,oL 18 34 3 34),(⟨[19,2,2],zo,[19]⟩,oM 19 2 22),(⟨[20,18,19,3,2],zo,[20]⟩,oC 20 35 [(tK 18),(tK 19)] [34,22] 22),(⟨[21,16,17,20,3,4,20],zo,[21]⟩,oC 21 34 [(tK 16),(tK 17),(tK 20)] [34,38,22] 22),(⟨[8,21,21],zo,[8,21,21]⟩,oA 8 21 22)]) (.seq (.seq (.ops [oM 22 8 22,oN 23 22 22,oX 24 (.move (iK 0)) 3]) (.block 0 AEk)) (.seq (.ops [oM 31 8 22,oA 6 31 22,oX 7 (.assign Cy) 4]) .ret))))
theorem AEl:Tryz.f10.body.map (BP lends)=some k10:=by kernel_rfl
theorem ASm:BR Tryz.f10 3=true:=by kernel_rfl
theorem Uq{a l:List D}{r:D×List D}(h:BS Y.env k10 (fin Aj l.length [bt 6,bt 7] r) (entry a l))(ha:a.length=3):Y.call 10 a l=some r:=
 AY (Y:=Y) rfl Tryz.func10 (ha▸ASm) AEl h
def DK(A8:Ad)(AR A9 queue out1 queue1:AO)(YY:Int):Option ((AO×AO×Int)⊕(AO×AO)):= if YY<((A8.getD ((queue.getD 0 be).toNat) be).length:Int)then ck (0≤YY∧YY.toNat<(A8.getD ((queue.getD 0 be).toNat) be).length)<| ck (0≤(BJ (A8.getD ((queue.getD 0 be).toNat) be) YY.toNat)∧(BJ (A8.getD ((queue.getD 0 be).toNat) be) YY.toNat).toNat<out1.length)<| if(out1.getD ((BJ (A8.getD ((queue.getD 0 be).toNat) be) YY.toNat).toNat) be)<0 then ck (0≤(queue.getD 0 be)∧(queue.getD 0 be).toNat<out1.length)<| ck (queue1.length+1<1099511627776)<| some (bo ((out1.set ((BJ (A8.getD ((queue.getD 0 be).toNat) be) YY.toNat).toNat) (bm.wrap ((out1.getD ((queue.getD 0 be).toNat) be)+1))),(queue1++[(BJ (A8.getD ((queue.getD 0 be).toNat) be) YY.toNat)]),bm.wrap (YY+1))) else some (bo (out1,queue1,bm.wrap (YY+1))) else some (bl (out1,queue1))
def Ik(A8:Ad)(AR A9 queue:AO)(v:AO×AO×Int):Option (AO×AO):=Dq (fun v=>DK A8 AR A9 queue v.1 v.2.1 v.2.2) v
def DL(A8:Ad)(AR A9 out queue:AO):Option ((AO×AO)⊕(AO)):= if 0<(queue.length:Int)then ck (0<queue.length)<| ck (1≤queue.length)<| ck (0≤(queue.getD 0 be)∧(queue.getD 0 be).toNat<A8.length)<| (Ik A8 AR A9 queue (out,(queue.drop 1),0)).bind fun AU=> some (bo (AU.1,AU.2)) else some (bl out)
def Il(A8:Ad)(AR A9:AO)(v:AO×AO):Option (AO):=Dq (fun v=>DL A8 AR A9 v.1 v.2) v
def J4(A8:Ad)(AR A9:AO)(v_:Int):Option (AO):= (gRp [(-1)] (A8.length:Int)).bind fun Vn=> ck (0≤v_∧v_.toNat<Vn.length)<| (Il A8 AR A9 ((Vn.set v_.toNat 0),[v_])).bind fun Au=> some Au
abbrev kZ:List Nat:=[44,45,46,47,48,49,50,51,52,52,51,5,51]
def rG:SC:= .seq (.ops [oB 35 .lss 3 (tK 34) (tK 33) 3 0]) (.seq (.cond (tK 35) .skip (.exit 2)) (.seq (.block 3 (.seq (.ops [oI 36 79 32 34,oL 37 87 36 87,oX 9 (.alloc 87) 0,oS 87 9 37]) (.seq (.ops [oM 38 5 26,oF 39 87 9 0,oL 40 3 39 3,oI 41 26 38 40,oL 42 3 41 3,oB 43 .lss 3 (tK 42) (iK 0) 3 4]) (.cond (tK 43) (.seq (.draws [(⟨[44,5,5],kZ,[44]⟩,oM 44 5 26),(⟨[45,9,9],kZ,[45]⟩,oF 45 87 9 0),(⟨[46,45,9],kZ,[46]⟩,oL 46 3 45 3),(⟨[47,5,5],kZ,[47]⟩,oM 47 5 26),(⟨[48,7,7],kZ,[48]⟩,oM 48 7 3),(⟨[49,47,48,5,7],kZ,[49]⟩,oI 49 26 47 48),(⟨[50,49,5],kZ,[50]⟩,oL 50 3 49 3),(⟨[51,50,5],kZ,[51]⟩,oB 51 .add 3 (tK 50) (iK 1) 3 3),(⟨[52,44,46,5,9],kZ,[52]⟩,oI 52 26 44 46),(⟨[52,51,5,51],kZ,[52,51,5,51]⟩,oS 3 52 51)]) (.ops [oM 53 6 26,oF 54 87 9 0,oL 55 3 54 3,oX 56 (.buildSlice 26 1 #[(0,(tK 55))]) 26,oX 57 (.call ⟨(.builtin .append), #[(tK 53),(tK 56)], #[26,26]⟩) 26,oA 6 57 26])) .skip)))) (.ops [oB 58 .add 3 (tK 34) (iK 1) 3 3,oM 34 58 3])))
def A5X:SC:= .loop rG
def rH:SC:= .seq (.seq (.ops [oM 20 6 26,oN 21 20 26,oB 22 .gtr 3 (tK 21) (iK 0) 3 4]) (.cond (tK 22) .skip (.exit 0))) (.block 1 (.seq (.ops [oM 23 6 26,oX 24 (.indexAddr 26 (tK 23) (iK 0)) 0,oL 25 3 24 3,oA 7 25 3]) (.seq (.ops [oM 26 6 26,oX 27 (.slice 26 (tK 26) (some (iK 1)) none none) 900005,oA 6 27 26]) (.seq (.ops [oF 28 38 2 0,oL 29 36 28 36,oM 30 7 3,oI 31 36 29 30,oL 32 79 31 79,oN 33 32 79,oX 34 (.move (iK 0)) 3]) (.block 2 A5X)))))
def A5Y:SC:= .loop rH
def k87:SC:= .seq (.ops [oX 2 (.box 38 (tK 0)) 0,oX 4 Gv 26]) (.seq (.ops [oX 10 (.buildSlice 26 1 #[(0,wL)]) 26,oF 11 38 2 0,oL 12 36 11 36,oN 13 12 36,oC 14 81 [(tK 10),(tK 13)] [26,3] 26,oA 5 14 26]) (.seq (.ops [oM 15 5 26,oM 16 1 3,oI 17 26 15 16,⟨none,(.store 3 (tK 17) (iK 0)),0,none⟩]) (.seq (.ops [oM 18 1 3,oX 19 (.buildSlice 26 1 #[(0,(tK 18))]) 26,oA 6 19 26]) (.seq (.block 0 A5Y) (.seq (.ops [oM 59 5 26,oA 4 59 26]) .ret)))))
theorem AEm:Tryz.f87.body.map (BP lends)=some k87:=by kernel_rfl
theorem ASo:BR Tryz.f87 2=true:=by kernel_rfl
theorem c87{a l:List D}{r:D×List D}(h:BS Y.env k87 (fin Aj l.length [bt 4] r) (entry a l))(ha:a.length=2):Y.call 87 a l=some r:=
 AY (Y:=Y) rfl Tryz.func87 (ha▸ASo) AEm h
def Cm(A8:Ad)(AR A9 queue out1 queue1:AO)(YY:Int)(s:St):Prop:=s.v 2=b7 [bk 79 (AQ (fun x=>bk 87 (Ak .i64 .i64 x)) A8),bk 3 (AQ (bc .i64) AR),bk 3 (AQ (bc .i64) A9)]∧s.v 5=br 3 (AQ (bc .i64) out1)∧s.v 6=br 3 (AQ (bc .i64) queue1)∧s.v 7=bc .i64 (queue.getD 0 be)∧s.v 32=bk 87 (Ak .i64 .i64 (A8.getD ((queue.getD 0 be).toNat) be))∧s.v 33=bc .i64 ((A8.getD ((queue.getD 0 be).toNat) be).length:Int)∧s.v 34=bc .i64 YY
def GX(A8:Ad)(AR A9 queue:AO)(r:AO×AO)(ex:Ex)(s:St):Prop:=ex= .exit 2∧s.v 2=b7 [bk 79 (AQ (fun x=>bk 87 (Ak .i64 .i64 x)) A8),bk 3 (AQ (bc .i64) AR),bk 3 (AQ (bc .i64) A9)]∧s.v 5=br 3 (AQ (bc .i64) r.1)∧s.v 6=br 3 (AQ (bc .i64) r.2)
theorem TQ(A8:Ad)(AR A9 queue:AO){v:AO×AO×Int}{s:St}{r:AO×AO}(h:Ik A8 AR A9 queue v=some r)(hM:Cm A8 AR A9 queue v.1 v.2.1 v.2.2 s):BS Y.env A5X (GX A8 AR A9 queue r) s:=by
 unfold Ik at h;refine Aw (c:=rG) (fun v=>DK A8 AR A9 queue v.1 v.2.1 v.2.2) (fun v s=>Cm A8 AR A9 queue v.1 v.2.1 v.2.2 s) (GX A8 AR A9 queue) ?_ h hM;clear h hM s v r;intro v s o hM h;obtain⟨out1,queue1,YY⟩:=v;dsimp only at h hM;unfold DK at h;unfold Cm at hM;obtain⟨m0,m1,m2,m3,m4,m5,m6⟩:=hM;unfold rG;rcases iS h with⟨e7,h⟩|⟨e7,h⟩
 ·obtain⟨e8,e9,h⟩:=Dr h;rcases iS h with⟨e10,h⟩|⟨e10,h⟩
  ·obtain⟨e11,e12,h⟩:=Dr h;cases h;simp only [↓AJ,AL,↓reduceIte,bj,bh,b5,m0,m1,m2,m3,m4,m5,m6,e7,e8.1,e8.2,e9.1,e9.2,e10,e11.1,e11.2,e12,Cm,Cx]
  ·cases h;simp only [↓AJ,AL,↓reduceIte,bj,bh,m0,m1,m2,m3,m4,m5,m6,e7,e8.1,e8.2,e9.1,e9.2,e10,Cm,Cx]
 ·cases h;simp only [↓AJ,AL,↓reduceIte,bj,bh,m0,m1,m2,m5,m6,e7,Cm,GX,Gf]
def DN(A8:Ad)(AR A9 out queue:AO)(s:St):Prop:=s.v 2=b7 [bk 79 (AQ (fun x=>bk 87 (Ak .i64 .i64 x)) A8),bk 3 (AQ (bc .i64) AR),bk 3 (AQ (bc .i64) A9)]∧s.v 5=br 3 (AQ (bc .i64) out)∧s.v 6=br 3 (AQ (bc .i64) queue)
def GY(A8:Ad)(AR A9:AO)(r:AO)(ex:Ex)(s:St):Prop:=ex= .exit 0∧s.v 5=br 3 (AQ (bc .i64) r)
theorem TR(A8:Ad)(AR A9:AO){v:AO×AO}{s:St}{r:AO}(h:Il A8 AR A9 v=some r)(hM:DN A8 AR A9 v.1 v.2 s):BS Y.env A5Y (GY A8 AR A9 r) s:=by
 unfold Il at h;refine Aw (c:=rH) (fun v=>DL A8 AR A9 v.1 v.2) (fun v s=>DN A8 AR A9 v.1 v.2 s) (GY A8 AR A9) ?_ h hM;clear h hM s v r;intro v s o hM h;obtain⟨out,queue⟩:=v;dsimp only at h hM;unfold DL at h;unfold DN at hM;obtain⟨m0,m1,m2⟩:=hM;unfold rH;rcases iS h with⟨e3,h⟩|⟨e3,h⟩
 ·obtain⟨e4,e5,e6,h⟩:=NC h;obtain⟨AU,hl8,h⟩:=Ag h;try dsimp only at h
  simp only [↓AJ,AL,↓reduceIte,bj,bh,Int.reduceLE,Int.reduceToNat,m0,m2,e3,e4,e5,e6.1,e6.2];refine Al (TQ A8 AR A9 queue hl8 ?_) ?_
  ·simp only [BK,↓reduceIte,bj,m0,m1,Cm]
  ·intro ex8 s8 hX8;unfold GX at hX8;obtain⟨rfl,n8_0,n8_1,n8_2⟩:=hX8;cases h;simp only [↓AJ,AL,↓reduceIte,n8_0,n8_1,n8_2,DN,Cx]
 ·cases h;simp only [↓AJ,AL,↓reduceIte,bj,bh,m1,m2,e3,DN,GY,Gf]
theorem UQ(A8:Ad)(AR A9:AO)(v_:Int){r:AO}(h:J4 A8 AR A9 v_=some r):Y.call 87 [bw [bk 79 (AQ (fun x=>bk 87 (Ak .i64 .i64 x)) A8),bk 3 (AQ (bc .i64) AR),bk 3 (AQ (bc .i64) A9)],bc .i64 v_] []=some (br 3 (AQ (bc .i64) r),[]):=by
 refine c87 ?_ rfl;unfold k87;unfold J4 at h;obtain⟨Vn,hl1,h⟩:=Ag h;try dsimp only at h
 have c1:=XM [(-1)] (A8.length:Int) hl1;simp only [Iw,Ul]at c1;obtain⟨e2,h⟩:=Cu h;obtain⟨Au,hl4,h⟩:=Ag h;try dsimp only at h
 simp only [↓AJ,AL,↓reduceIte,bj,bh,b5,c1,e2.1,e2.2];refine Al (TR A8 AR A9 hl4 ?_) ?_
 ·simp only [BK,↓reduceIte,bj,DN]<;>(repeat' apply A7)<;>first|rfl|exact⟨_,rfl⟩|exact⟨_,_,rfl⟩|simp [AQ,Ay]
 ·intro ex4 s4 hX4;unfold GY at hX4;obtain⟨rfl,n4_0⟩:=hX4;cases h;simp only [↓AJ,AL,↓reduceIte,bj,bh,n4_0]
def JW(A8:Ad)(v_:Int)(out:AO)(Bd:Int):Option ((AO×Int)⊕(AO)):= if Bd<((A8.getD v_.toNat be).length:Int)then ck (0≤Bd∧Bd.toNat<(A8.getD v_.toNat be).length)<| ck (out.length+1<1099511627776)<| some (bo ((out++[(BJ (A8.getD v_.toNat be) Bd.toNat)]),bm.wrap (Bd+1))) else some (bl out)
def Qf(A8:Ad)(v_:Int)(v:AO×Int):Option (AO):=Dq (fun v=>JW A8 v_ v.1 v.2) v
def UR(A8:Ad)(AR A9:AO)(v_:Int):Option (AO):= ck (0≤v_∧v_.toNat<A8.length)<| (Qf A8 v_ ([],0)).bind fun AU=> some AU
def gP:SC:= .seq (.ops [oB 15 .lss 3 (tK 14) (tK 13) 3 0]) (.seq (.cond (tK 15) .skip (.exit 0)) (.seq (.block 1 (.seq (.ops [oI 16 79 12 14,oL 17 87 16 87,oX 7 (.alloc 87) 0,oS 87 7 17]) (.ops [oM 18 5 26,oF 19 87 7 0,oL 20 3 19 3,oX 21 (.buildSlice 26 1 #[(0,(tK 20))]) 26,oX 22 (.call ⟨(.builtin .append), #[(tK 18),(tK 21)], #[26,26]⟩) 26,oA 5 22 26]))) (.ops [oB 23 .add 3 (tK 14) (iK 1) 3 3,oM 14 23 3])))
def A0k:SC:= .loop gP
def AEn:SC:= .seq (.ops [oX 2 (.box 38 (tK 0)) 0,oX 4 Gv 26]) (.seq (.ops [oX 5 Gv 26]) (.seq (.seq (.ops [oF 8 38 2 0,oL 9 36 8 36,oM 10 1 3,oI 11 36 9 10,oL 12 79 11 79,oN 13 12 79,oX 14 (.move (iK 0)) 3]) (.block 0 A0k)) (.seq (.ops [oM 24 5 26,oA 4 24 26]) .ret)))
theorem A7y:Tryz.f154.body.map (BP lends)=some AEn:=by kernel_rfl
theorem AM8:BR Tryz.f154 2=true:=by kernel_rfl
theorem ASp{a l:List D}{r:D×List D}(h:BS Y.env AEn (fin Aj l.length [bt 4] r) (entry a l))(ha:a.length=2):Y.call 154 a l=some r:=
 AY (Y:=Y) rfl Tryz.func154 (ha▸AM8) A7y h
def JX(A8:Ad)(v_:Int)(out:AO)(Bd:Int)(s:St):Prop:=s.v 5=br 3 (AQ (bc .i64) out)∧s.v 12=bk 87 (Ak .i64 .i64 (A8.getD v_.toNat be))∧s.v 13=bc .i64 ((A8.getD v_.toNat be).length:Int)∧s.v 14=bc .i64 Bd
def Na(A8:Ad)(v_:Int)(r:AO)(ex:Ex)(s:St):Prop:=ex= .exit 0∧s.v 5=br 3 (AQ (bc .i64) r)
theorem gQ(A8:Ad)(v_:Int){v:AO×Int}{s:St}{r:AO}(h:Qf A8 v_ v=some r)(hM:JX A8 v_ v.1 v.2 s):BS Y.env A0k (Na A8 v_ r) s:=by
 unfold Qf at h;refine Aw (c:=gP) (fun v=>JW A8 v_ v.1 v.2) (fun v s=>JX A8 v_ v.1 v.2 s) (Na A8 v_) ?_ h hM;clear h hM s v r;intro v s o hM h;obtain⟨out,Bd⟩:=v;dsimp only at h hM;unfold JW at h;unfold JX at hM;obtain⟨m0,m1,m2,m3⟩:=hM;unfold gP;rcases iS h with⟨e2,h⟩|⟨e2,h⟩
 ·obtain⟨e3,e4,h⟩:=Dr h;cases h;simp only [↓AJ,AL,↓reduceIte,bj,bh,b5,m0,m1,m2,m3,e2,e3.1,e3.2,e4,JX,Cx]
 ·cases h;simp only [↓AJ,AL,↓reduceIte,bj,bh,m0,m2,m3,e2,JX,Na,Gf]
theorem kg(A8:Ad)(AR A9:AO)(v_:Int){r:AO}(h:UR A8 AR A9 v_=some r):Y.call 154 [bw [bk 79 (AQ (fun x=>bk 87 (Ak .i64 .i64 x)) A8),bk 3 (AQ (bc .i64) AR),bk 3 (AQ (bc .i64) A9)],bc .i64 v_] []=some (br 3 (AQ (bc .i64) r),[]):=by
 refine ASp ?_ rfl;unfold AEn;unfold UR at h;obtain⟨e1,h⟩:=Cu h;obtain⟨AU,hl3,h⟩:=Ag h;try dsimp only at h
 simp only [↓AJ,AL,↓reduceIte,bj,bh,e1.1,e1.2];refine Al (gQ A8 v_ hl3 ?_) ?_
 ·simp only [BK,↓reduceIte,bj,JX]<;>(repeat' apply A7)<;>first|rfl|exact⟨_,rfl⟩|exact⟨_,_,rfl⟩|simp [AQ,Ay]
 ·intro ex3 s3 hX3;unfold Na at hX3;obtain⟨rfl,n3_0⟩:=hX3;cases h;simp only [↓AJ,AL,↓reduceIte,bj,bh,n3_0]
def EE(AA:Ad)(AZ AB:AO)(Bv:Int)(uD:AO)(x8:Int):Option ((AO×Int)⊕(AO)):= if x8<((ap AA.length (0:Int)).length:Int)then ck (0≤x8∧x8.toNat<uD.length)<| some (bo ((uD.set x8.toNat (-1)),bm.wrap (x8+1))) else some (bl uD)
def OG(AA:Ad)(AZ AB:AO)(Bv:Int)(v:AO×Int):Option (AO):=Dq (fun v=>EE AA AZ AB Bv v.1 v.2) v
def JY(AA:Ad)(AZ AB:AO)(GI:Int)(Oj:AO)(t5_1 t7_1:AO)(YZ:Int):Option ((AO×AO×Int)⊕(AO×AO)):= if YZ<(Oj.length:Int)then ck (0≤YZ∧YZ.toNat<Oj.length)<| ck (0≤(Oj.getD YZ.toNat be)∧(Oj.getD YZ.toNat be).toNat<t5_1.length)<| if(t5_1.getD ((Oj.getD YZ.toNat be).toNat) be)<0 then ck (0≤GI∧GI.toNat<t7_1.length)<| ck (0≤(t7_1.getD GI.toNat be)∧(t7_1.getD GI.toNat be).toNat<t5_1.length)<| ck (t7_1.length+1<1099511627776)<| some (bo ((t5_1.set ((Oj.getD YZ.toNat be).toNat) (bm.wrap ((t5_1.getD ((t7_1.getD GI.toNat be).toNat) be)+1))),(t7_1++[(Oj.getD YZ.toNat be)]),bm.wrap (YZ+1))) else some (bo (t5_1,t7_1,bm.wrap (YZ+1))) else some (bl (t5_1,t7_1))
def Qg(AA:Ad)(AZ AB:AO)(GI:Int)(Oj:AO)(v:AO×AO×Int):Option (AO×AO):=Dq (fun v=>JY AA AZ AB GI Oj v.1 v.2.1 v.2.2) v
def EF(AA:Ad)(AZ AB uD t7_:AO)(GI:Int):Option ((AO×AO×Int)⊕(AO)):= if GI<(t7_.length:Int)then ck (0≤GI∧GI.toNat<t7_.length)<| (UR AA AZ AB (t7_.getD GI.toNat be)).bind fun Oj=> (Qg AA AZ AB GI Oj (uD,t7_,0)).bind fun Au=> some (bo (Au.1,Au.2,bm.wrap (GI+1))) else some (bl uD)
def OH(AA:Ad)(AZ AB:AO)(v:AO×AO×Int):Option (AO):=Dq (fun v=>EF AA AZ AB v.1 v.2.1 v.2.2) v
def OI(AA:Ad)(AZ AB:AO)(Bv:Int):Option (AO):= ck (0≤(AA.length:Int)∧(AA.length:Int)<1099511627776)<| (OG AA AZ AB Bv ((ap AA.length 0),0)).bind fun AU=> ck (0≤Bv∧Bv.toNat<AU.length)<| (OH AA AZ AB ((AU.set Bv.toNat 0),[Bv],0)).bind fun BH=> some BH
def gT:SC:= .seq (.ops [oB 18 .lss 3 (tK 17) (tK 16) 3 0]) (.seq (.cond (tK 18) .skip (.exit 0)) (.seq (.block 1 (.seq (.ops [oM 19 17 3,oA 6 19 3]) (.ops [oM 20 5 26,oM 21 6 3,oI 22 26 20 21,⟨none,(.store 3 (tK 22) wL),0,none⟩]))) (.ops [oB 23 .add 3 (tK 17) (iK 1) 3 3,oM 17 23 3])))
def A0l:SC:= .loop gT
def gU:SC:= .seq (.ops [oB 43 .lss 3 (tK 42) (tK 41) 3 0]) (.seq (.cond (tK 43) .skip (.exit 4)) (.seq (.block 5 (.seq (.ops [oI 44 26 40 42,oL 45 3 44 3,oA 10 45 3]) (.seq (.ops [oM 46 5 26,oM 47 10 3,oI 48 26 46 47,oL 49 3 48 3,oB 50 .lss 3 (tK 49) (iK 0) 3 4]) (.cond (tK 50) (.seq (.ops [oM 51 5 26,oM 52 10 3,oM 53 5 26,oM 54 7 26,oM 55 8 3,oI 56 26 54 55,oL 57 3 56 3,oI 58 26 53 57,oL 59 3 58 3,oB 60 .add 3 (tK 59) (iK 1) 3 3,oI 61 26 51 52,oS 3 61 60]) (.ops [oM 62 7 26,oM 63 10 3,oX 64 (.buildSlice 26 1 #[(0,(tK 63))]) 26,oX 65 (.call ⟨(.builtin .append), #[(tK 62),(tK 64)], #[26,26]⟩) 26,oA 7 65 26])) .skip)))) (.ops [oB 66 .add 3 (tK 42) (iK 1) 3 3,oM 42 66 3])))
def A0m:SC:= .loop gU
abbrev x9:List Nat:=[35,36,37,38,39,40,41,42]
def gV:SC:= .seq (.seq (.ops [oM 29 8 3,oM 30 7 26,oN 31 30 26,oB 32 .lss 3 (tK 29) (tK 31) 3 4]) (.cond (tK 32) .skip (.exit 2))) (.seq (.block 3 (.seq (.draws [(⟨[35,2,2],x9,[35]⟩,oL 35 38 2 38),(⟨[36,7,7],x9,[36]⟩,oM 36 7 26),(⟨[37,8,8],x9,[37]⟩,oM 37 8 3),(⟨[38,36,37,7,8],x9,[38]⟩,oI 38 26 36 37),(⟨[39,38,7],x9,[39]⟩,oL 39 3 38 3),(⟨[40,35,39,2,7],x9,[40]⟩,oC 40 154 [(tK 35),(tK 39)] [38,3] 26),(⟨[41,40,40],x9,[41]⟩,oN 41 40 26),(⟨[42],x9,[42]⟩,oX 42 (.move (iK 0)) 3)]) (.block 4 A0m))) (.ops [oM 33 8 3,oB 34 .add 3 (tK 33) (iK 1) 3 3,oA 8 34 3]))
def A0n:SC:= .loop gV
def AEo:SC:= .seq (.ops [oX 2 (.box 38 (tK 0)) 0,oX 4 Gv 26]) (.seq (.ops [oF 11 38 2 0,oL 12 36 11 36,oN 13 12 36,oX 14 (.makeSlice 26 (tK 13) (tK 13)) 26,oA 5 14 26]) (.seq (.seq (.ops [oM 15 5 26,oN 16 15 26,oX 17 (.move (iK 0)) 3]) (.block 0 A0l)) (.seq (.ops [oM 24 5 26,oM 25 1 3,oI 26 26 24 25,⟨none,(.store 3 (tK 26) (iK 0)),0,none⟩]) (.seq (.ops [oM 27 1 3,oX 28 (.buildSlice 26 1 #[(0,(tK 27))]) 26,oA 7 28 26]) (.seq (.seq (.ops [oX 8 (.assign (iK 0)) 3]) (.block 2 A0n)) (.seq (.ops [oM 67 5 26,oA 4 67 26]) .ret))))))
theorem A7z:Tryz.f134.body.map (BP lends)=some AEo:=by kernel_rfl
theorem AM9:BR Tryz.f134 2=true:=by kernel_rfl
theorem ASq{a l:List D}{r:D×List D}(h:BS Y.env AEo (fin Aj l.length [bt 4] r) (entry a l))(ha:a.length=2):Y.call 134 a l=some r:=
 AY (Y:=Y) rfl Tryz.func134 (ha▸AM9) A7z h
def JZ(AA:Ad)(AZ AB:AO)(Bv:Int)(uD:AO)(x8:Int)(s:St):Prop:=s.v 1=bc .i64 Bv∧s.v 2=b7 [bk 79 (AQ (fun x=>bk 87 (Ak .i64 .i64 x)) AA),bk 3 (AQ (bc .i64) AZ),bk 3 (AQ (bc .i64) AB)]∧s.v 5=br 3 (AQ (bc .i64) uD)∧s.v 16=bc .i64 ((ap AA.length (0:Int)).length:Int)∧s.v 17=bc .i64 x8
def Nb(AA:Ad)(AZ AB:AO)(Bv:Int)(r:AO)(ex:Ex)(s:St):Prop:=ex= .exit 0∧s.v 1=bc .i64 Bv∧s.v 2=b7 [bk 79 (AQ (fun x=>bk 87 (Ak .i64 .i64 x)) AA),bk 3 (AQ (bc .i64) AZ),bk 3 (AQ (bc .i64) AB)]∧s.v 5=br 3 (AQ (bc .i64) r)
theorem gW(AA:Ad)(AZ AB:AO)(Bv:Int){v:AO×Int}{s:St}{r:AO}(h:OG AA AZ AB Bv v=some r)(hM:JZ AA AZ AB Bv v.1 v.2 s):BS Y.env A0l (Nb AA AZ AB Bv r) s:=by
 unfold OG at h;refine Aw (c:=gT) (fun v=>EE AA AZ AB Bv v.1 v.2) (fun v s=>JZ AA AZ AB Bv v.1 v.2 s) (Nb AA AZ AB Bv) ?_ h hM;clear h hM s v r;intro v s o hM h;obtain⟨uD,x8⟩:=v;dsimp only at h hM;unfold EE at h;unfold JZ at hM;obtain⟨m0,m1,m2,m3,m4⟩:=hM;unfold gT;rcases iS h with⟨e2,h⟩|⟨e2,h⟩
 ·obtain⟨e3,h⟩:=Cu h;cases h;simp only [↓AJ,AL,↓reduceIte,bj,bh,m0,m1,m2,m3,m4,e2,e3.1,e3.2,JZ,Cx]
 ·cases h;simp only [↓AJ,AL,↓reduceIte,bj,bh,m0,m1,m2,m3,m4,e2,JZ,Nb,Gf]
def Gp(AA:Ad)(AZ AB:AO)(GI:Int)(Oj:AO)(t5_1 t7_1:AO)(YZ:Int)(s:St):Prop:=s.v 2=b7 [bk 79 (AQ (fun x=>bk 87 (Ak .i64 .i64 x)) AA),bk 3 (AQ (bc .i64) AZ),bk 3 (AQ (bc .i64) AB)]∧s.v 5=br 3 (AQ (bc .i64) t5_1)∧s.v 7=br 3 (AQ (bc .i64) t7_1)∧s.v 8=bc .i64 GI∧s.v 40=br 3 (AQ (bc .i64) Oj)∧s.v 41=bc .i64 (Oj.length:Int)∧s.v 42=bc .i64 YZ
def Nc(AA:Ad)(AZ AB:AO)(GI:Int)(Oj:AO)(r:AO×AO)(ex:Ex)(s:St):Prop:=ex= .exit 4∧s.v 2=b7 [bk 79 (AQ (fun x=>bk 87 (Ak .i64 .i64 x)) AA),bk 3 (AQ (bc .i64) AZ),bk 3 (AQ (bc .i64) AB)]∧s.v 5=br 3 (AQ (bc .i64) r.1)∧s.v 7=br 3 (AQ (bc .i64) r.2)∧s.v 8=bc .i64 GI
theorem gX(AA:Ad)(AZ AB:AO)(GI:Int)(Oj:AO){v:AO×AO×Int}{s:St}{r:AO×AO}(h:Qg AA AZ AB GI Oj v=some r)(hM:Gp AA AZ AB GI Oj v.1 v.2.1 v.2.2 s):BS Y.env A0m (Nc AA AZ AB GI Oj r) s:=by
 unfold Qg at h;refine Aw (c:=gU) (fun v=>JY AA AZ AB GI Oj v.1 v.2.1 v.2.2) (fun v s=>Gp AA AZ AB GI Oj v.1 v.2.1 v.2.2 s) (Nc AA AZ AB GI Oj) ?_ h hM;clear h hM s v r;intro v s o hM h;obtain⟨t5_1,t7_1,YZ⟩:=v;dsimp only at h hM;unfold JY at h;unfold Gp at hM;obtain⟨m0,m1,m2,m3,m4,m5,m6⟩:=hM;unfold gU;rcases iS h with⟨e8,h⟩|⟨e8,h⟩
 ·obtain⟨e9,e10,h⟩:=Dr h;rcases iS h with⟨e11,h⟩|⟨e11,h⟩
  ·obtain⟨e12,e13,e14,h⟩:=NC h;cases h;simp only [↓AJ,AL,↓reduceIte,bj,bh,b5,m0,m1,m2,m3,m4,m5,m6,e8,e9.1,e9.2,e10.1,e10.2,e11,e12.1,e12.2,e13.1,e13.2,e14,Gp,Cx]
  ·cases h;simp only [↓AJ,AL,↓reduceIte,bj,bh,m0,m1,m2,m3,m4,m5,m6,e8,e9.1,e9.2,e10.1,e10.2,e11,Gp,Cx]
 ·cases h;simp only [↓AJ,AL,↓reduceIte,bj,bh,m0,m1,m2,m3,m5,m6,e8,Gp,Nc,Gf]
def Ja(AA:Ad)(AZ AB uD t7_:AO)(GI:Int)(s:St):Prop:=s.v 2=b7 [bk 79 (AQ (fun x=>bk 87 (Ak .i64 .i64 x)) AA),bk 3 (AQ (bc .i64) AZ),bk 3 (AQ (bc .i64) AB)]∧s.v 5=br 3 (AQ (bc .i64) uD)∧s.v 7=br 3 (AQ (bc .i64) t7_)∧s.v 8=bc .i64 GI
def Nf(AA:Ad)(AZ AB:AO)(r:AO)(ex:Ex)(s:St):Prop:=ex= .exit 2∧s.v 5=br 3 (AQ (bc .i64) r)
theorem gY(AA:Ad)(AZ AB:AO){v:AO×AO×Int}{s:St}{r:AO}(h:OH AA AZ AB v=some r)(hM:Ja AA AZ AB v.1 v.2.1 v.2.2 s):BS Y.env A0n (Nf AA AZ AB r) s:=by
 unfold OH at h;refine Aw (c:=gV) (fun v=>EF AA AZ AB v.1 v.2.1 v.2.2) (fun v s=>Ja AA AZ AB v.1 v.2.1 v.2.2 s) (Nf AA AZ AB) ?_ h hM;clear h hM s v r;intro v s o hM h;obtain⟨uD,t7_,GI⟩:=v;dsimp only at h hM;unfold EF at h;unfold Ja at hM;obtain⟨m0,m1,m2,m3⟩:=hM;unfold gV;rcases iS h with⟨e5,h⟩|⟨e5,h⟩
 ·obtain⟨e6,h⟩:=Cu h;obtain⟨Oj,hl7,h⟩:=Ag h;have c7:=kg AA AZ AB (t7_.getD GI.toNat be) hl7;obtain⟨Au,hl9,h⟩:=Ag h;try dsimp only at h
  simp only [↓AJ,AL,↓reduceIte,bj,bh,m0,m2,m3,e5,e6.1,e6.2,c7];refine Al (gX AA AZ AB GI Oj hl9 ?_) ?_
  ·simp only [BK,↓reduceIte,bj,m0,m1,m2,m3,Gp]
  ·intro ex9 s9 hX9;unfold Nc at hX9;obtain⟨rfl,n9_0,n9_1,n9_2,n9_3⟩:=hX9;cases h;simp only [↓AJ,AL,↓reduceIte,bj,bh,n9_0,n9_1,n9_2,n9_3,Ja,Cx]
 ·cases h;simp only [↓AJ,AL,↓reduceIte,bj,bh,m1,m2,m3,e5,Ja,Nf,Gf]
theorem VO(AA:Ad)(AZ AB:AO)(Bv:Int){r:AO}(h:OI AA AZ AB Bv=some r):Y.call 134 [bw [bk 79 (AQ (fun x=>bk 87 (Ak .i64 .i64 x)) AA),bk 3 (AQ (bc .i64) AZ),bk 3 (AQ (bc .i64) AB)],bc .i64 Bv] []=some (br 3 (AQ (bc .i64) r),[]):=by
 refine ASq ?_ rfl;unfold AEo;unfold OI at h;obtain⟨e1,h⟩:=Cu h;obtain⟨AU,hl3,h⟩:=Ag h;try dsimp only at h
 simp only [↓AJ,AL,↓reduceIte,bj,bh,b5,e1.1,e1.2];refine Al (gW AA AZ AB Bv hl3 ?_) ?_
 ·simp only [BK,Cg,↓reduceIte,bj,bh,JZ]
 ·intro ex3 s3 hX3;unfold Nb at hX3;obtain⟨rfl,n3_0,n3_1,n3_2⟩:=hX3;obtain⟨e4,h⟩:=Cu h;obtain⟨BH,hl6,h⟩:=Ag h;try dsimp only at h
  simp only [↓AJ,AL,↓reduceIte,bj,bh,b5,n3_0,n3_2,e4.1,e4.2];refine Al (gY AA AZ AB hl6 ?_) ?_
  ·simp only [BK,↓reduceIte,bj,n3_1,n3_2,Ja]<;>(repeat' apply A7)<;>first|rfl|exact⟨_,rfl⟩|exact⟨_,_,rfl⟩|simp [AQ,Ay]
  ·intro ex6 s6 hX6;unfold Nf at hX6;obtain⟨rfl,n6_0⟩:=hX6;cases h;simp only [↓AJ,AL,↓reduceIte,bj,bh,n6_0]
end Go.Proofs.YtiehjihckndgkaaGreat
end
