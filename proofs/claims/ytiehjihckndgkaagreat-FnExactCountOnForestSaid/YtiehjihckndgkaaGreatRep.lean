/- slices.Repeat of one element, as a plain function. Conditions: the number is small. -/
import Derived.Test.YtiehjihckndgkaaGreatL6
import Derived.Test.YtiehjihckndgkaaGreatIsP
namespace Go.Proofs.YtiehjihckndgkaaGreat
open Go Dv
set_option linter.unusedSimpArgs false
set_option linter.unusedVariables false
set_option maxRecDepth 100000
set_option maxHeartbeats 4000000
theorem bU(n:Int)(h:0≤n∧n<18446744073709551616):IntKind.u64.wrap n=n:=by
 unfold IntKind.wrap;simp only [IntKind.signed,IntKind.bits]
 simp
 omega
theorem AI0(y:Int)(h:0≤y∧y<1099511627776):Nj .and .u64 y 4294967295=y % 4294967296:=by
 obtain⟨n,rfl⟩:=Int.eq_ofNat_of_zero_le h.1;have hn:n<1099511627776:=by omega
 show IntKind.u64.wrap (((BitVec.ofInt 64 (n:Int) &&& BitVec.ofInt 64 4294967295).toNat:Nat):Int)=_
 have e1:(BitVec.ofInt 64 (n:Int)).toNat=n:=by
  rw [BitVec.toNat_ofInt];omega
 have e2:(BitVec.ofInt 64 4294967295).toNat=4294967295:=by decide
 rw [BitVec.toNat_and,e1,e2];have e3:n &&& 4294967295=n % 4294967296:=Nat.and_two_pow_sub_one_eq_mod n 32;rw [e3,bU _ (by omega)]
 rfl
noncomputable def KF(x_:Int)(y:Int):Option (Int×Int):= some (IntKind.u64.wrap ((IntKind.u64.wrap ((IntKind.u64.wrap ((x_.fdiv (2 ^ (min 32 (IntKind.u64.bits))))*(y.fdiv (2 ^ (min 32 (IntKind.u64.bits))))))+((IntKind.u64.wrap ((IntKind.u64.wrap ((x_.fdiv (2 ^ (min 32 (IntKind.u64.bits))))*(Nj .and .u64 y 4294967295)))+((IntKind.u64.wrap ((Nj .and .u64 x_ 4294967295)*(Nj .and .u64 y 4294967295))).fdiv (2 ^ (min 32 (IntKind.u64.bits)))))).fdiv (2 ^ (min 32 (IntKind.u64.bits))))))+((IntKind.u64.wrap ((Nj .and .u64 (IntKind.u64.wrap ((IntKind.u64.wrap ((x_.fdiv (2 ^ (min 32 (IntKind.u64.bits))))*(Nj .and .u64 y 4294967295)))+((IntKind.u64.wrap ((Nj .and .u64 x_ 4294967295)*(Nj .and .u64 y 4294967295))).fdiv (2 ^ (min 32 (IntKind.u64.bits)))))) 4294967295)+(IntKind.u64.wrap ((Nj .and .u64 x_ 4294967295)*(y.fdiv (2 ^ (min 32 (IntKind.u64.bits)))))))).fdiv (2 ^ (min 32 (IntKind.u64.bits))))),IntKind.u64.wrap (x_*y))
def AAh:SC:= .seq (.ops [oX 4 (.assign (.const (.int .u64 0))) 135,oX 5 (.assign (.const (.int .u64 0))) 135]) (.seq (.ops [oM 14 0 135,oB 15 .and 135 (tK 14) (.const (.int .u64 4294967295)) 135 135,oA 6 15 135]) (.seq (.ops [oM 16 0 135,oB 17 .shr 135 (tK 16) (.const (.int .u64 32)) 82 135,oA 7 17 135]) (.seq (.ops [oM 18 1 135,oB 19 .and 135 (tK 18) (.const (.int .u64 4294967295)) 135 135,oA 8 19 135]) (.seq (.ops [oM 20 1 135,oB 21 .shr 135 (tK 20) (.const (.int .u64 32)) 82 135,oA 9 21 135]) (.seq (.ops [oM 22 6 135,oM 23 8 135,oB 24 .mul 135 (tK 22) (tK 23) 135 135,oA 10 24 135]) (.seq (.ops [oM 25 7 135,oM 26 8 135,oB 27 .mul 135 (tK 25) (tK 26) 135 135,oM 28 10 135,oB 29 .shr 135 (tK 28) (.const (.int .u64 32)) 82 135,oB 30 .add 135 (tK 27) (tK 29) 135 135,oA 11 30 135]) (.seq (.ops [oM 31 11 135,oB 32 .and 135 (tK 31) (.const (.int .u64 4294967295)) 135 135,oA 12 32 135]) (.seq (.ops [oM 33 11 135,oB 34 .shr 135 (tK 33) (.const (.int .u64 32)) 82 135,oA 13 34 135]) (.seq (.ops [oM 35 12 135,oM 36 6 135,oM 37 9 135,oB 38 .mul 135 (tK 36) (tK 37) 135 135,oB 39 .add 135 (tK 35) (tK 38) 135 135,oA 12 39 135]) (.seq (.ops [oM 40 7 135,oM 41 9 135,
 oB 42 .mul 135 (tK 40) (tK 41) 135 135,oM 43 13 135,oB 44 .add 135 (tK 42) (tK 43) 135 135,oM 45 12 135,oB 46 .shr 135 (tK 45) (.const (.int .u64 32)) 82 135,oB 47 .add 135 (tK 44) (tK 46) 135 135,oA 4 47 135]) (.seq (.ops [oM 48 0 135,oM 49 1 135,oB 50 .mul 135 (tK 48) (tK 49) 135 135,oA 5 50 135]) .ret)))))))))))
theorem A4b:Tryz.f133.body.map (BX lends)=some AAh:=by kernel_rfl
theorem AI1:Bj Tryz.f133 2=true:=by kernel_rfl
theorem AO4{a l:List D}{r:D×List D}(h:Br Y.env AAh (fin Ap l.length [ResultVar.tmp 4,ResultVar.tmp 5] r) (entry a l))(ha:a.length=2):Y.call 133 a l=some r:=
 AZ (Y:=Y) rfl Tryz.func133 (ha▸AI1) A4b h
theorem Ro(x_:Int)(y:Int){r:Int×Int}(h:KF x_ y=some r):Y.call 133 [D.int .u64 x_,D.int .u64 y] []=some (D.tup [D.int .u64 r.1,D.int .u64 r.2],[]):=by
 refine AO4 ?_ rfl;unfold AAh;unfold KF at h
 obtain rfl:=Option.some.inj h
 simp (maxDischargeDepth:=9) only [↓AL,AO,↓reduceIte,Nat.reduceEqDiff,Nat.reduceLT,Int.reduceLT,Int.reduceToNat]
noncomputable def JH(x_:Int)(y:Int):Option (Int×Int):= (KF x_ y).bind fun vX=> some (vX.1,vX.2)
def AAi:SC:= .seq (.ops [oX 4 (.assign (.const (.int .u64 0))) 82,oX 5 (.assign (.const (.int .u64 0))) 82]) (.seq (.cond MS (.seq (.ops [oM 11 0 82,oX 12 (.convert 82 132 (tK 11)) 132,oM 13 1 82,oX 14 (.convert 82 132 (tK 13)) 132,oC 15 132 [(tK 12),(tK 14)] [132,132] 133,oM 10 15 133,oE 16 10 0 132,oE 17 10 1 132,oA 6 16 132,oA 7 17 132]) (.seq (.ops [oM 18 6 132,oX 19 (.convert 132 82 (tK 18)) 82,oM 20 7 132,oX 21 (.convert 132 82 (tK 20)) 82,oA 4 19 82,oA 5 21 82]) .ret)) .skip) (.seq (.ops [oM 23 0 82,oM 24 1 82,oC 25 133 [(tK 23),(tK 24)] [135,135] 136,oM 22 25 136,oE 26 22 0 135,oE 27 22 1 135,oA 8 26 135,oA 9 27 135]) (.seq (.ops [oM 28 8 135,oM 29 9 135,oA 4 28 82,oA 5 29 82]) .ret)))
theorem A4c:Tryz.f112.body.map (BX lends)=some AAi:=by kernel_rfl
theorem AI2:Bj Tryz.f112 2=true:=by kernel_rfl
theorem AO5{a l:List D}{r:D×List D}(h:Br Y.env AAi (fin Ap l.length [ResultVar.tmp 4,ResultVar.tmp 5] r) (entry a l))(ha:a.length=2):Y.call 112 a l=some r:=
 AZ (Y:=Y) rfl Tryz.func112 (ha▸AI2) A4c h
theorem TU(x_:Int)(y:Int){r:Int×Int}(h:JH x_ y=some r):Y.call 112 [D.int .u64 x_,D.int .u64 y] []=some (D.tup [D.int .u64 r.1,D.int .u64 r.2],[]):=by
 refine AO5 ?_ rfl;unfold AAi;unfold JH at h;obtain⟨vX,hl1,h⟩:=Ak h;try dsimp only at h
 have c1:=Ro x_ y hl1
 obtain rfl:=Option.some.inj h
 simp (maxDischargeDepth:=9) only [↓AL,AO,↓reduceIte,Nat.reduceEqDiff,Nat.reduceLT,Nat.reduceAdd,c1]
theorem mul_one(n:Int)(h:0≤n∧n<1099511627776):JH 1 n=some (0,n):=by
 unfold JH KF;have e32:(2:Int) ^ (min 32 (IntKind.u64.bits))=4294967296:=rfl;have a1:Int.fdiv 1 4294967296=0:=by decide
 have a2:Nj .and .u64 1 4294967295=1:=by decide
 have a3:Int.fdiv n 4294967296=n / 4294967296:=Int.fdiv_eq_ediv_of_nonneg _ (by decide)
 have w0:IntKind.u64.wrap 0=0:=by decide
 have a4:Int.fdiv 0 4294967296=0:=by decide
 have a5:Nj .and .u64 0 4294967295=0:=by decide
 have a6:IntKind.u64.wrap (n % 4294967296)=n % 4294967296:=bU _ (by omega)
 have a7:Int.fdiv (n % 4294967296) 4294967296=0:=by rw [Int.fdiv_eq_ediv_of_nonneg _ (by decide)];omega
 have a8:IntKind.u64.wrap (n / 4294967296)=n / 4294967296:=bU _ (by omega)
 have a9:Int.fdiv (n / 4294967296) 4294967296=0:=by rw [Int.fdiv_eq_ediv_of_nonneg _ (by decide)];omega
 have aA:IntKind.u64.wrap n=n:=bU _ (by omega)
 simp only [e32,a1,a2,AI0 n h,a3,Int.zero_mul,Int.one_mul,w0,Cz,Int.zero_add,a4,a5,a6,a7,a8,a9,aA]
noncomputable def Ba(newslice:AB)(n_:Int):Option ((AB×Int)⊕(AB)):= if n_<(newslice.length:Int)then ck (0≤n_)<| ck (n_.toNat≤newslice.length)<| ck (n_.toNat+(newslice.length-n_.toNat)≤newslice.length)<| ck (0+(n_.toNat-0)≤newslice.length)<| some (Sum.inl ((spl newslice n_.toNat (((newslice.drop 0).take (n_.toNat-0)).take (min (newslice.length-n_.toNat) ((newslice.drop 0).take (n_.toNat-0)).length))),IntKind.i64.wrap (n_+(((min (newslice.length-n_.toNat) ((newslice.drop 0).take (n_.toNat-0)).length):Nat):Int)))) else some (Sum.inr newslice)
noncomputable def DT(v:AB×Int):Option (AB):=Fb (fun v=>Ba v.1 v.2) v
noncomputable def Ch(x_:AB)(count:Int):Option (AB):= if count<0 then none else (JH (IntKind.u64.wrap (x_.length:Int)) (IntKind.u64.wrap count)).bind fun Ph=> if 0<Ph.1 then none else if 9223372036854775807<Ph.2 then none else ck (0≤IntKind.i64.wrap Ph.2∧IntKind.i64.wrap Ph.2<1099511627776)<| (DT ((spl (List.replicate (IntKind.i64.wrap Ph.2).toNat 0) 0 (x_.take (min ((List.replicate (IntKind.i64.wrap Ph.2).toNat 0).length) x_.length))),(((min ((List.replicate (IntKind.i64.wrap Ph.2).toNat 0).length) x_.length):Nat):Int))).bind fun Aa=> some Aa
abbrev gq:List Nat:=[38,39,40,41,42,43,44,45,41,44,7,7,46,8,46]
def mV:SC:= .seq (.seq (.ops [oM 34 8 3,oM 35 7 26,oN 36 35 26,oB 37 .lss 3 (tK 34) (tK 36) 3 4]) (.cond (tK 37) .skip (.exit 0))) (.block 1 (.draws [(⟨[38,8,8],gq,[38]⟩,oM 38 8 3),(⟨[39,7,7],gq,[39]⟩,oM 39 7 26),(⟨[40,8,8],gq,[40]⟩,oM 40 8 3),(⟨[41,39,40,7,8],gq,[41]⟩,oX 41 (.slice 26 (tK 39) (some (tK 40)) none none) 26),(⟨[42,7,7],gq,[42]⟩,oM 42 7 26),(⟨[43,8,8],gq,[43]⟩,oM 43 8 3),(⟨[44,42,43,7,8],gq,[44]⟩,oX 44 (.slice 26 (tK 42) none (some (tK 43)) none) 26),(⟨[45,41,44,7,7],gq,[45,41,44,7,7]⟩,oX 45 (.call ⟨(.builtin .copy), #[(tK 41),(tK 44)], #[26,26]⟩) 3),(⟨[46,38,45,8,45],gq,[46]⟩,oB 46 .add 3 (tK 38) (tK 45) 3 3),(⟨[8,46,46],gq,[8,46]⟩,oA 8 46 3)]))
def A2K:SC:= .loop mV
def k81:SC:= .seq (.ops [oX 4 KL 26]) (.seq (.seq (.ops [oM 9 1 3,oB 10 .lss 3 (tK 9) (iK 0) 3 4]) (.cond (tK 10) (.ops [oX 11 (.makeInterface 9 (.const (.string {data:= #[99,97,110,110,111,116,32,98,101,32,110,101,103,97,116,105,118,101]}))) 20,⟨none,(.panic (tK 11)),0,none⟩]) .skip)) (.seq (.ops [oM 13 0 26,oN 14 13 26,oX 15 (.convert 3 82 (tK 14)) 82,oM 16 1 3,oX 17 (.convert 3 82 (tK 16)) 82,oC 18 112 [(tK 15),(tK 17)] [82,82] 119,oM 12 18 119,oE 19 12 0 82,oE 20 12 1 82,oA 5 19 82,oA 6 20 82]) (.seq (.seq (.ops [oM 21 5 82,oB 22 .gtr 82 (tK 21) (.const (.int .u64 0)) 82 4,oM 23 22 4,⟨(some 24),(.move (tK 6)),82,(some (some 23,false))⟩,⟨(some 25),(.binOp .gtr 82 (tK 24) (.const (.int .u64 9223372036854775807)) 82),4,(some (some 23,false))⟩,oX 26 (.pick (tK 23) F7 (tK 25)) 4]) (.cond (tK 26) (.ops [oX 27 (.makeInterface 9 (.const (.string {data:= #[116,104,101,32,114,101,115,117,108,116,32,111,102,32,40,108,101,110,40,120,41,32,42,32,99,111,117,110,116,41,32,111,118,101,114,102,108,111,119,115]}))) 20,⟨none,(.panic (tK 27)),0,none⟩]) .skip)) (.seq (.ops [oM 28 6 82,oX 29 (.convert 82 3 (tK 28)) 3,oX 30 (.makeSlice 26 (tK 29) (tK 29)) 900012,oA 7 30 26])
 (.seq (.ops [oM 31 7 26,oM 32 0 26,oX 33 (.call ⟨(.builtin .copy), #[(tK 31),(tK 32)], #[26,26]⟩) 3,oA 8 33 3]) (.seq (.block 0 A2K) (.seq (.ops [oM 47 7 26,oA 4 47 26]) .ret)))))))
theorem AAj:Tryz.f81.body.map (BX lends)=some k81:=by kernel_rfl
theorem AO7:Bj Tryz.f81 2=true:=by kernel_rfl
theorem c81{a l:List D}{r:D×List D}(h:Br Y.env k81 (fin Ap l.length [ResultVar.tmp 4] r) (entry a l))(ha:a.length=2):Y.call 81 a l=some r:=
 AZ (Y:=Y) rfl Tryz.func81 (ha▸AO7) AAj h
def CZ(newslice:AB)(n_:Int)(s:St):Prop:=s.v 7=D.own 3 (AQ (D.int .i64) newslice)∧s.v 8=D.int .i64 n_
def Du(r:AB)(ex:Ex)(s:St):Prop:=ex= .exit 0∧s.v 7=D.own 3 (AQ (D.int .i64) r)
theorem NJ{v:AB×Int}{s:St}{r:AB}(h:DT v=some r)(hM:CZ v.1 v.2 s):Br Y.env A2K (Du r) s:=by
 unfold DT at h;refine BH (c:=mV) (fun v=>Ba v.1 v.2) (fun v s=>CZ v.1 v.2 s) (Du) ?_ h hM;clear h hM s v r;intro v s o hM h;obtain⟨newslice,n_⟩:=v;dsimp only at h hM;unfold Ba at h;unfold CZ at hM;obtain⟨m0,m1⟩:=hM;unfold mV;rcases iS h with⟨e6,h⟩|⟨e6,h⟩
 ·obtain⟨e7,e8,e9,e10,h⟩:=A1S h
  obtain rfl:=Option.some.inj h
  simp (maxDischargeDepth:=9) only [↓AL,AO,↓reduceIte,Nat.reduceEqDiff,Nat.reduceLT,Nat.reduceBEq,m0,m1,e6,e7,e8,e9,e10,CZ,En]
 ·obtain rfl:=Option.some.inj h
  simp (maxDischargeDepth:=9) only [↓AL,AO,↓reduceIte,Nat.reduceEqDiff,Nat.reduceLT,m0,m1,e6,CZ,Du,K3]
theorem FC(x_:AB)(count:Int){r:AB}(h:Ch x_ count=some r):Y.call 81 [D.sl 3 (AQ (D.int .i64) x_),D.int .i64 count] []=some (D.own 3 (AQ (D.int .i64) r),[]):=by
 refine c81 ?_ rfl;unfold k81;unfold Ch at h;rcases iS h with⟨e1,h⟩|⟨e1,h⟩
 ·cases h
 ·obtain⟨Ph,hl2,h⟩:=Ak h;have c2:=TU (IntKind.u64.wrap (x_.length:Int)) (IntKind.u64.wrap count) hl2;rcases iS h with⟨e3,h⟩|⟨e3,h⟩
  ·cases h
  ·rcases iS h with⟨e4,h⟩|⟨e4,h⟩
   ·cases h
   ·obtain⟨e5,h⟩:=ES h;obtain⟨Aa,hl7,h⟩:=Ak h;try dsimp only at h
    simp (maxDischargeDepth:=9) only [↓AL,AO,↓reduceIte,Nat.reduceEqDiff,Nat.reduceLT,Nat.reduceLeDiff,Nat.reduceAdd,e1,c2,e3,e4,e5.1,e5.2];refine Aw (NJ hl7 ?_) ?_
    ·simp (maxDischargeDepth:=9) only [BZ,↓reduceIte,Nat.reduceEqDiff,CZ]<;>(repeat' apply A7)<;>first|rfl|exact⟨_,rfl⟩|exact⟨_,_,rfl⟩|simp [AQ]
    ·intro ex7 s7 hX7;unfold Du at hX7;obtain⟨rfl,n7_0⟩:=hX7
     obtain rfl:=Option.some.inj h
     simp (maxDischargeDepth:=9) only [↓AL,AO,↓reduceIte,Nat.reduceEqDiff,Nat.reduceLT,n7_0]
theorem jU(x:Int)(N:Nat)(hN:N<1099511627776)(l:AB)(k:Nat)(hl:l.length=N)(hk:k≤N)(h1:0<k∨N=0)(he:l.take k=List.replicate k x):DT (l,(k:Int))=some (List.replicate N x):=by
 have step: ∀(m:Nat) (v:AB×Int),(∃k:Nat,v.2=(k:Int)∧m=N-k∧v.1.length=N∧k≤N∧(0<k∨N=0)∧v.1.take k=List.replicate k x)→
   (∃s' m',Ba v.1 v.2=some (.inl s')∧m'<m∧ ∃k:Nat,s'.2=(k:Int)∧m'=N-k∧s'.1.length=N∧k≤N∧(0<k∨N=0)∧s'.1.take k=List.replicate k x)∨(∃r,Ba v.1 v.2=some (.inr r)∧r=List.replicate N x):=by
  rintro m ⟨l,kk⟩ ⟨k,hkk,rfl,hl,hk,h1,he⟩
  simp only at hl he hkk;subst hkk;by_cases hlt:k<N
  ·left
   have hk0:0<k:=by omega
   have e0:((l.drop 0).take (k-0))=List.replicate k x:=by rw [YC,Nat.sub_zero,he]
   refine⟨_,N-(k+min (N-k) k),by
    simp only [Ba]
    rw [hl,if_pos (by omega),BL (by omega),EC,BL (by omega),BL (by omega),BL (by omega),e0,M8],by omega,k+min (N-k) k, ?_,rfl, ?_,by omega,by omega, ?_⟩
   ·rw [I7 _ (by omega)];omega
   ·simp only;rw [ut _ _ _ (by simp;omega)];simp;omega
   ·simp only;rw [ut _ _ _ (by simp;omega),List.take_replicate,he,M8,←OC,show min (min (N-k) k) k=min (N-k) k by omega,List.replicate_append_replicate,List.take_append_of_le_length (by simp),ji (by simp)]
  ·right
   have hkN:k=N:=by omega
   subst hkN
   refine⟨l, ?_, ?_⟩
   ·simp only [Ba];rw [if_neg (by omega)]
   ·rw [←he,ji (by omega)]
 obtain⟨r,h2,h3⟩:=Rc (fun v=>Ba v.1 v.2) (fun m v=> ∃k:Nat,v.2=(k:Int)∧m=N-k∧v.1.length=N∧k≤N∧(0<k∨N=0)∧v.1.take k=List.replicate k x) (fun r=>r=List.replicate N x) step (N-k) (l,(k:Int)) ⟨k,rfl,rfl,hl,hk,h1,he⟩;unfold DT;rw [h2,h3]
theorem bV(x:Int)(n:Int)(h:0≤n∧n<1099511627776):Ch [x] n=some (List.replicate n.toNat x):=by
 unfold Ch;have e1:IntKind.u64.wrap (([x]:AB).length:Int)=1:=by rw [bU _ (by simp)];rfl
 rw [if_neg (by omega),e1,bU n (by omega),mul_one n h,Cz]
 simp only;rw [if_neg (by decide),if_neg (by omega),I7 n (by omega),BL (by omega),M8]
 rcases Nat.eq_zero_or_pos n.toNat with h0|h0
 ·rw [h0];rw [show min 0 ([x]:AB).length=0 by simp]
  have:=jU x 0 (by decide) [] 0 rfl (Dh _) (.inr rfl) rfl
  simp only [List.replicate_zero,ZB,spl,Gn]at this ⊢;rw [this];rfl
 ·have e2:min n.toNat ([x]:AB).length=1:=by simp;omega
  rw [e2]
  have e3:spl (List.replicate n.toNat 0) 0 ([x].take 1)=x::List.replicate (n.toNat-1) 0:=by
   rw [ut _ _ _ (by simp;omega)];simp
  rw [e3,jU x n.toNat (by omega) _ 1 (by simp;omega) (by omega) (.inl (by omega)) (by simp)]
  rfl
end Go.Proofs.YtiehjihckndgkaaGreat
