/- slices.Repeat of one element, as a plain function. Conditions: the number is small. -/
import Derived.Test.YtipfckompmhljaaL6
import Derived.Test.YtipfckompmhljaaIsP
namespace Go.Proofs.Ytipfckompmhljaa
open Go Dv
set_option linter.unusedSimpArgs false
set_option linter.unusedVariables false
set_option maxRecDepth 100000
set_option maxHeartbeats 4000000
theorem XD(n:Int)(h:0≤n∧n<18446744073709551616):IntKind.u64.wrap n=n:=by
 unfold IntKind.wrap;simp only [IntKind.signed,IntKind.bits]
 simp
 omega
theorem ACR(y:Int)(h:0≤y∧y<1099511627776):JG .and .u64 y 4294967295=y % 4294967296:=by
 obtain⟨n,rfl⟩:=Int.eq_ofNat_of_zero_le h.1;have hn:n<1099511627776:=by omega
 show IntKind.u64.wrap (((BitVec.ofInt 64 (n:Int) &&& BitVec.ofInt 64 4294967295).toNat:Nat):Int)=_
 have e1:(BitVec.ofInt 64 (n:Int)).toNat=n:=by
  rw [BitVec.toNat_ofInt];omega
 have e2:(BitVec.ofInt 64 4294967295).toNat=4294967295:=by decide
 rw [BitVec.toNat_and,e1,e2];have e3:n &&& 4294967295=n % 4294967296:=Nat.and_two_pow_sub_one_eq_mod n 32;rw [e3,XD _ (by omega)]
 rfl
noncomputable def Hw(x_ y:Int):Option (Int×Int):= some (IntKind.u64.wrap ((IntKind.u64.wrap ((IntKind.u64.wrap ((x_.fdiv (2 ^ (min 32 (IntKind.u64.bits))))*(y.fdiv (2 ^ (min 32 (IntKind.u64.bits))))))+((IntKind.u64.wrap ((IntKind.u64.wrap ((x_.fdiv (2 ^ (min 32 (IntKind.u64.bits))))*(JG .and .u64 y 4294967295)))+((IntKind.u64.wrap ((JG .and .u64 x_ 4294967295)*(JG .and .u64 y 4294967295))).fdiv (2 ^ (min 32 (IntKind.u64.bits)))))).fdiv (2 ^ (min 32 (IntKind.u64.bits))))))+((IntKind.u64.wrap ((JG .and .u64 (IntKind.u64.wrap ((IntKind.u64.wrap ((x_.fdiv (2 ^ (min 32 (IntKind.u64.bits))))*(JG .and .u64 y 4294967295)))+((IntKind.u64.wrap ((JG .and .u64 x_ 4294967295)*(JG .and .u64 y 4294967295))).fdiv (2 ^ (min 32 (IntKind.u64.bits)))))) 4294967295)+(IntKind.u64.wrap ((JG .and .u64 x_ 4294967295)*(y.fdiv (2 ^ (min 32 (IntKind.u64.bits)))))))).fdiv (2 ^ (min 32 (IntKind.u64.bits))))),IntKind.u64.wrap (x_*y))
def A40:SC:= .seq (.ops [⟨some 4,.assign (.const (.int .u64 0)),160,none⟩,⟨some 5,.assign (.const (.int .u64 0)),160,none⟩]) (.seq (.ops [⟨some 14,.move (.tmp 0),160,none⟩,⟨some 15,.binOp .and 160 (.tmp 14) (.const (.int .u64 4294967295)) 160,160,none⟩,⟨some 6,.assign (.tmp 15),160,none⟩]) (.seq (.ops [⟨some 16,.move (.tmp 0),160,none⟩,⟨some 17,.binOp .shr 160 (.tmp 16) (.const (.int .u64 32)) 129,160,none⟩,⟨some 7,.assign (.tmp 17),160,none⟩]) (.seq (.ops [⟨some 18,.move (.tmp 1),160,none⟩,⟨some 19,.binOp .and 160 (.tmp 18) (.const (.int .u64 4294967295)) 160,160,none⟩,⟨some 8,.assign (.tmp 19),160,none⟩]) (.seq (.ops [⟨some 20,.move (.tmp 1),160,none⟩,⟨some 21,.binOp .shr 160 (.tmp 20) (.const (.int .u64 32)) 129,160,none⟩,⟨some 9,.assign (.tmp 21),160,none⟩]) (.seq (.ops [⟨some 22,.move (.tmp 6),160,none⟩,⟨some 23,.move (.tmp 8),160,none⟩,⟨some 24,.binOp .mul 160 (.tmp 22) (.tmp 23) 160,160,none⟩,⟨some 10,.assign (.tmp 24),160,none⟩]) (.seq (.ops [⟨some 25,.move (.tmp 7),160,none⟩,⟨some 26,.move (.tmp 8),160,none⟩,⟨some 27,.binOp .mul 160 (.tmp 25) (.tmp 26) 160,160,none⟩,⟨some 28,.move (.tmp 10),160,none⟩,⟨some 29,.binOp .shr 160 (.tmp 28) (.const (.int .u64 32)) 129,160,none⟩,
 ⟨some 30,.binOp .add 160 (.tmp 27) (.tmp 29) 160,160,none⟩,⟨some 11,.assign (.tmp 30),160,none⟩]) (.seq (.ops [⟨some 31,.move (.tmp 11),160,none⟩,⟨some 32,.binOp .and 160 (.tmp 31) (.const (.int .u64 4294967295)) 160,160,none⟩,⟨some 12,.assign (.tmp 32),160,none⟩]) (.seq (.ops [⟨some 33,.move (.tmp 11),160,none⟩,⟨some 34,.binOp .shr 160 (.tmp 33) (.const (.int .u64 32)) 129,160,none⟩,⟨some 13,.assign (.tmp 34),160,none⟩]) (.seq (.ops [⟨some 35,.move (.tmp 12),160,none⟩,⟨some 36,.move (.tmp 6),160,none⟩,⟨some 37,.move (.tmp 9),160,none⟩,⟨some 38,.binOp .mul 160 (.tmp 36) (.tmp 37) 160,160,none⟩,⟨some 39,.binOp .add 160 (.tmp 35) (.tmp 38) 160,160,none⟩,⟨some 12,.assign (.tmp 39),160,none⟩]) (.seq (.ops [⟨some 40,.move (.tmp 7),160,none⟩,⟨some 41,.move (.tmp 9),160,none⟩,⟨some 42,.binOp .mul 160 (.tmp 40) (.tmp 41) 160,160,none⟩,⟨some 43,.move (.tmp 13),160,none⟩,⟨some 44,.binOp .add 160 (.tmp 42) (.tmp 43) 160,160,none⟩,⟨some 45,.move (.tmp 12),160,none⟩,⟨some 46,.binOp .shr 160 (.tmp 45) (.const (.int .u64 32)) 129,160,none⟩,⟨some 47,.binOp .add 160 (.tmp 44) (.tmp 46) 160,160,none⟩,⟨some 4,.assign (.tmp 47),160,none⟩]) (.seq (.ops [⟨some 48,.move (.tmp 0),160,none⟩,
 ⟨some 49,.move (.tmp 1),160,none⟩,⟨some 50,.binOp .mul 160 (.tmp 48) (.tmp 49) 160,160,none⟩,⟨some 5,.assign (.tmp 50),160,none⟩]) .ret)))))))))))
theorem vE:Try.f151.body.map (Be lends)=some A40:=by kernel_rfl
theorem ACS:Bu Try.f151 2=true:=by kernel_rfl
theorem AJJ{a l:List D}{r:D×List D}(h:Bo Y.env A40 (fin Ad l.length [ResultVar.tmp 4,ResultVar.tmp 5] r) (entry a l))(ha:a.length=2):Y.call 151 a l=some r:=
 Ab (Y:=Y) rfl Try.func151 (ha▸ACS) vE h
theorem NJ(x_ y:Int){r:Int×Int}(h:Hw x_ y=some r):Y.call 151 [D.int .u64 x_,D.int .u64 y] []=some (D.tup [D.int .u64 r.1,D.int .u64 r.2],[]):=by
 refine AJJ ?_ rfl;unfold A40;unfold Hw at h;cases h;simp (maxDischargeDepth:=9) only [↓AP,AC,AL,AR,↓reduceIte,Nat.reduceEqDiff,Nat.reduceLT,Int.reduceLT,Int.reduceToNat]
noncomputable def GR(x_ y:Int):Option (Int×Int):= (Hw x_ y).bind fun BI=> some (BI.1,BI.2)
def A41:SC:= .seq (.ops [⟨some 4,.assign (.const (.int .u64 0)),129,none⟩,⟨some 5,.assign (.const (.int .u64 0)),129,none⟩]) (.seq (.cond (.const (.bool false)) (.seq (.ops [⟨some 11,.move (.tmp 0),129,none⟩,⟨some 12,.convert 129 157 (.tmp 11),157,none⟩,⟨some 13,.move (.tmp 1),129,none⟩,⟨some 14,.convert 129 157 (.tmp 13),157,none⟩,⟨some 15,.call ⟨(.value (.func 150)), #[(.tmp 12),(.tmp 14)], #[157,157]⟩,158,none⟩,⟨some 10,.move (.tmp 15),158,none⟩,⟨some 16,.extract (.tmp 10) 0,157,none⟩,⟨some 17,.extract (.tmp 10) 1,157,none⟩,⟨some 6,.assign (.tmp 16),157,none⟩,⟨some 7,.assign (.tmp 17),157,none⟩]) (.seq (.ops [⟨some 18,.move (.tmp 6),157,none⟩,⟨some 19,.convert 157 129 (.tmp 18),129,none⟩,⟨some 20,.move (.tmp 7),157,none⟩,⟨some 21,.convert 157 129 (.tmp 20),129,none⟩,⟨some 4,.assign (.tmp 19),129,none⟩,⟨some 5,.assign (.tmp 21),129,none⟩]) .ret)) .skip) (.seq (.ops [⟨some 23,.move (.tmp 0),129,none⟩,⟨some 24,.move (.tmp 1),129,none⟩,⟨some 25,.call ⟨(.value (.func 151)), #[(.tmp 23),(.tmp 24)], #[160,160]⟩,161,none⟩,⟨some 22,.move (.tmp 25),161,none⟩,⟨some 26,.extract (.tmp 22) 0,160,none⟩,⟨some 27,.extract (.tmp 22) 1,160,none⟩,⟨some 8,.assign (.tmp 26),160,none⟩,
 ⟨some 9,.assign (.tmp 27),160,none⟩]) (.seq (.ops [⟨some 28,.move (.tmp 8),160,none⟩,⟨some 29,.move (.tmp 9),160,none⟩,⟨some 4,.assign (.tmp 28),129,none⟩,⟨some 5,.assign (.tmp 29),129,none⟩]) .ret)))
theorem vF:Try.f120.body.map (Be lends)=some A41:=by kernel_rfl
theorem ACT:Bu Try.f120 2=true:=by kernel_rfl
theorem AJK{a l:List D}{r:D×List D}(h:Bo Y.env A41 (fin Ad l.length [ResultVar.tmp 4,ResultVar.tmp 5] r) (entry a l))(ha:a.length=2):Y.call 120 a l=some r:=
 Ab (Y:=Y) rfl Try.func120 (ha▸ACT) vF h
theorem OI(x_ y:Int){r:Int×Int}(h:GR x_ y=some r):Y.call 120 [D.int .u64 x_,D.int .u64 y] []=some (D.tup [D.int .u64 r.1,D.int .u64 r.2],[]):=by
 refine AJK ?_ rfl;unfold A41;unfold GR at h;obtain⟨BI,hl1,h⟩:=Aw h;try dsimp only at h
 have c1:=NJ x_ y hl1;cases h;simp (maxDischargeDepth:=9) only [↓AP,AC,BV,AL,AR,↓reduceIte,Nat.reduceEqDiff,Nat.reduceLT,Nat.reduceAdd,c1]
theorem mul_one(n:Int)(h:0≤n∧n<1099511627776):GR 1 n=some (0,n):=by
 unfold GR Hw;have e32:(2:Int) ^ (min 32 (IntKind.u64.bits))=4294967296:=rfl;have a1:Int.fdiv 1 4294967296=0:=by decide
 have a2:JG .and .u64 1 4294967295=1:=by decide
 have a3:Int.fdiv n 4294967296=n / 4294967296:=Int.fdiv_eq_ediv_of_nonneg _ (by decide)
 have w0:IntKind.u64.wrap 0=0:=by decide
 have a4:Int.fdiv 0 4294967296=0:=by decide
 have a5:JG .and .u64 0 4294967295=0:=by decide
 have a6:IntKind.u64.wrap (n % 4294967296)=n % 4294967296:=XD _ (by omega)
 have a7:Int.fdiv (n % 4294967296) 4294967296=0:=by rw [Int.fdiv_eq_ediv_of_nonneg _ (by decide)];omega
 have a8:IntKind.u64.wrap (n / 4294967296)=n / 4294967296:=XD _ (by omega)
 have a9:Int.fdiv (n / 4294967296) 4294967296=0:=by rw [Int.fdiv_eq_ediv_of_nonneg _ (by decide)];omega
 have aA:IntKind.u64.wrap n=n:=XD _ (by omega)
 simp only [e32,a1,a2,ACR n h,a3,Int.zero_mul,Int.one_mul,w0,Option.bind_some,Int.zero_add,a4,a5,a6,a7,a8,a9,aA]
noncomputable def KO(newslice:List Int)(n_:Int):Option (((List Int)×Int)⊕((List Int))):= if n_<(newslice.length:Int)then ck (0≤n_)<| ck (n_.toNat≤newslice.length)<| ck (n_.toNat+(newslice.length-n_.toNat)≤newslice.length)<| ck (0+(n_.toNat-0)≤newslice.length)<| some (Sum.inl ((sM newslice n_.toNat (((newslice.drop 0).take (n_.toNat-0)).take (min (newslice.length-n_.toNat) ((newslice.drop 0).take (n_.toNat-0)).length))),IntKind.i64.wrap (n_+(((min (newslice.length-n_.toNat) ((newslice.drop 0).take (n_.toNat-0)).length):Nat):Int)))) else some (Sum.inr newslice)
noncomputable def Uv(v:(List Int)×Int):Option ((List Int)):=Ht (fun v=>KO v.1 v.2) v
noncomputable def gRp(x_:List Int)(count:Int):Option ((List Int)):= if count<0 then none else (GR (IntKind.u64.wrap (x_.length:Int)) (IntKind.u64.wrap count)).bind fun DX=> if 0<DX.1 then none else if 9223372036854775807<DX.2 then none else ck (0≤IntKind.i64.wrap DX.2∧IntKind.i64.wrap DX.2<1099511627776)<| (Uv ((sM (List.replicate (IntKind.i64.wrap DX.2).toNat 0) 0 (x_.take (min ((List.replicate (IntKind.i64.wrap DX.2).toNat 0).length) x_.length))),(((min ((List.replicate (IntKind.i64.wrap DX.2).toNat 0).length) x_.length):Nat):Int))).bind fun P6=> some P6
def Uw:SC:= .seq (.seq (.ops [⟨some 34,.move (.tmp 8),3,none⟩,⟨some 35,.move (.tmp 7),23,none⟩,⟨some 36,.call ⟨(.builtin .len), #[(.tmp 35)], #[23]⟩,3,none⟩,⟨some 37,.binOp .lss 3 (.tmp 34) (.tmp 36) 3,4,none⟩]) (.cond (.tmp 37) .skip (.exit 0))) (.block 1 (.draws [(⟨[38,8,8],[38,39,40,41,42,43,44,45,41,44,7,7,46,8,46],[38]⟩,⟨some 38,.move (.tmp 8),3,none⟩),(⟨[39,7,7],[38,39,40,41,42,43,44,45,41,44,7,7,46,8,46],[39]⟩,⟨some 39,.move (.tmp 7),23,none⟩),(⟨[40,8,8],[38,39,40,41,42,43,44,45,41,44,7,7,46,8,46],[40]⟩,⟨some 40,.move (.tmp 8),3,none⟩),(⟨[41,39,40,7,8],[38,39,40,41,42,43,44,45,41,44,7,7,46,8,46],[41]⟩,⟨some 41,.slice 23 (.tmp 39) (some (.tmp 40)) none none,23,none⟩),(⟨[42,7,7],[38,39,40,41,42,43,44,45,41,44,7,7,46,8,46],[42]⟩,⟨some 42,.move (.tmp 7),23,none⟩),(⟨[43,8,8],[38,39,40,41,42,43,44,45,41,44,7,7,46,8,46],[43]⟩,⟨some 43,.move (.tmp 8),3,none⟩),(⟨[44,42,43,7,8],[38,39,40,41,42,43,44,45,41,44,7,7,46,8,46],[44]⟩,⟨some 44,.slice 23 (.tmp 42) none (some (.tmp 43)) none,23,none⟩),(⟨[45,41,44,7,7],[38,39,40,41,42,43,44,45,41,44,7,7,46,8,46],[45,41,44,7,7]⟩,⟨some 45,.call ⟨(.builtin .copy), #[(.tmp 41),(.tmp 44)], #[23,23]⟩,3,none⟩),(⟨[46,38,45,8,45],[38,39,40,41,42,43,44,45,41,44,7,7,46,8,46],[46]⟩,⟨some 46,.binOp .add 3 (.tmp 38) (.tmp 45) 3,3,none⟩),
 (⟨[8,46,46],[38,39,40,41,42,43,44,45,41,44,7,7,46,8,46],[8,46]⟩,⟨some 8,.assign (.tmp 46),3,none⟩)]))
def j4:SC:= .loop Uw
def A42:SC:= .seq (.ops [⟨some 4,.assign (.const (.slice none 0 0)),23,none⟩]) (.seq (.seq (.ops [⟨some 9,.move (.tmp 1),3,none⟩,⟨some 10,.binOp .lss 3 (.tmp 9) (.const (.int .i64 0)) 3,4,none⟩]) (.cond (.tmp 10) (.ops [⟨some 11,.makeInterface 9 (.const (.string {data:= #[99,97,110,110,111,116,32,98,101,32,110,101,103,97,116,105,118,101]})),20,none⟩,⟨none,.panic (.tmp 11),0,none⟩]) .skip)) (.seq (.ops [⟨some 13,.move (.tmp 0),23,none⟩,⟨some 14,.call ⟨(.builtin .len), #[(.tmp 13)], #[23]⟩,3,none⟩,⟨some 15,.convert 3 129 (.tmp 14),129,none⟩,⟨some 16,.move (.tmp 1),3,none⟩,⟨some 17,.convert 3 129 (.tmp 16),129,none⟩,⟨some 18,.call ⟨(.value (.func 120)), #[(.tmp 15),(.tmp 17)], #[129,129]⟩,135,none⟩,⟨some 12,.move (.tmp 18),135,none⟩,⟨some 19,.extract (.tmp 12) 0,129,none⟩,⟨some 20,.extract (.tmp 12) 1,129,none⟩,⟨some 5,.assign (.tmp 19),129,none⟩,⟨some 6,.assign (.tmp 20),129,none⟩]) (.seq (.seq (.ops [⟨some 21,.move (.tmp 5),129,none⟩,⟨some 22,.binOp .gtr 129 (.tmp 21) (.const (.int .u64 0)) 129,4,none⟩,⟨some 23,.move (.tmp 22),4,none⟩,⟨some 24,.move (.tmp 6),129,(some (some 23,false))⟩,⟨some 25,.binOp .gtr 129 (.tmp 24) (.const (.int .u64 9223372036854775807)) 129,4,(some (some 23,false))⟩,
 ⟨some 26,.pick (.tmp 23) (.const (.bool true)) (.tmp 25),4,none⟩]) (.cond (.tmp 26) (.ops [⟨some 27,.makeInterface 9 (.const (.string {data:= #[116,104,101,32,114,101,115,117,108,116,32,111,102,32,40,108,101,110,40,120,41,32,42,32,99,111,117,110,116,41,32,111,118,101,114,102,108,111,119,115]})),20,none⟩,⟨none,.panic (.tmp 27),0,none⟩]) .skip)) (.seq (.ops [⟨some 28,.move (.tmp 6),129,none⟩,⟨some 29,.convert 129 3 (.tmp 28),3,none⟩,⟨some 30,.makeSlice 23 (.tmp 29) (.tmp 29),900012,none⟩,⟨some 7,.assign (.tmp 30),23,none⟩]) (.seq (.ops [⟨some 31,.move (.tmp 7),23,none⟩,⟨some 32,.move (.tmp 0),23,none⟩,⟨some 33,.call ⟨(.builtin .copy), #[(.tmp 31),(.tmp 32)], #[23,23]⟩,3,none⟩,⟨some 8,.assign (.tmp 33),3,none⟩]) (.seq (.block 0 j4) (.seq (.ops [⟨some 47,.move (.tmp 7),23,none⟩,⟨some 4,.assign (.tmp 47),23,none⟩]) .ret)))))))
theorem vG:Try.f130.body.map (Be lends)=some A42:=by kernel_rfl
theorem ACU:Bu Try.f130 2=true:=by kernel_rfl
theorem AJL{a l:List D}{r:D×List D}(h:Bo Y.env A42 (fin Ad l.length [ResultVar.tmp 4] r) (entry a l))(ha:a.length=2):Y.call 130 a l=some r:=
 Ab (Y:=Y) rfl Try.func130 (ha▸ACU) vG h
def Me(newslice:List Int)(n_:Int)(s:St):Prop:=s.v 7=D.own 3 (AQ (D.int .i64) newslice)∧s.v 8=D.int .i64 n_
def QV(r:(List Int))(ex:Ex)(s:St):Prop:=ex= .exit 0∧s.v 7=D.own 3 (AQ (D.int .i64) r)
theorem l8{v:(List Int)×Int}{s:St}{r:(List Int)}(h:Uv v=some r)(hM:Me v.1 v.2 s):Bo Y.env j4 (QV r) s:=by
 unfold Uv at h;refine BR (c:=Uw) (fun v=>KO v.1 v.2) (fun v s=>Me v.1 v.2 s) (QV) ?_ h hM;clear h hM s v r;intro v s o hM h;obtain⟨newslice,n_⟩:=v;dsimp only at h hM;unfold KO at h;unfold Me at hM;obtain⟨m0,m1⟩:=hM;unfold Uw;by_cases e6:n_<(newslice.length:Int)
 ·rw [if_pos e6]at h;obtain⟨e7,h⟩:=BO h;obtain⟨e8,h⟩:=BO h;obtain⟨e9,h⟩:=BO h;obtain⟨e10,h⟩:=BO h;cases h;simp (maxDischargeDepth:=9) only [↓AP,AC,Ae,AL,AR,↓reduceIte,Nat.reduceEqDiff,Nat.reduceLT,Nat.reduceBEq,m0,m1,e6,e7,e8,e9,e10,Me,G9]
 ·rw [if_neg e6]at h;cases h;simp (maxDischargeDepth:=9) only [↓AP,AC,Ae,AL,AR,↓reduceIte,Nat.reduceEqDiff,Nat.reduceLT,m0,m1,e6,Me,QV,JF]
theorem bW(x_:List Int)(count:Int){r:(List Int)}(h:gRp x_ count=some r):Y.call 130 [D.sl 3 (AQ (D.int .i64) x_),D.int .i64 count] []=some (D.own 3 (AQ (D.int .i64) r),[]):=by
 refine AJL ?_ rfl;unfold A42;unfold gRp at h;by_cases e1:count<0
 ·rw [if_pos e1]at h;cases h
 ·rw [if_neg e1]at h;obtain⟨DX,hl2,h⟩:=Aw h;try dsimp only at h
  have c2:=OI (IntKind.u64.wrap (x_.length:Int)) (IntKind.u64.wrap count) hl2;by_cases e3:0<DX.1
  ·rw [if_pos e3]at h;cases h
  ·rw [if_neg e3]at h;by_cases e4:9223372036854775807<DX.2
   ·rw [if_pos e4]at h;cases h
   ·rw [if_neg e4]at h;obtain⟨e5,h⟩:=BO h;obtain⟨P6,hl7,h⟩:=Aw h;try dsimp only at h
    simp (maxDischargeDepth:=9) only [↓AP,AC,Ae,BV,AL,AR,↓reduceIte,Nat.reduceEqDiff,Nat.reduceLT,Nat.reduceLeDiff,Nat.reduceAdd,e1,c2,e3,e4,e5.1,e5.2];refine BC (l8 hl7 ?_) ?_
    ·simp (maxDischargeDepth:=9) only [AC,↓reduceIte,Nat.reduceEqDiff,Me]<;>(repeat' apply And.intro)<;>first | rfl | exact⟨_,rfl⟩ | exact⟨_,_,rfl⟩ | simp [AQ]
    ·intro ex7 s7 hX7;unfold QV at hX7;obtain⟨rfl,n7_0⟩:=hX7;cases h;simp (maxDischargeDepth:=9) only [↓AP,AC,Ae,AL,↓reduceIte,Nat.reduceEqDiff,Nat.reduceLT,n7_0]
theorem XE(x:Int)(N:Nat)(hN:N<1099511627776)(l:List Int)(k:Nat)(hl:l.length=N)(hk:k≤N)(h1:0<k∨N=0)(he:l.take k=List.replicate k x):Uv (l,(k:Int))=some (List.replicate N x):=by
 have step: ∀(m:Nat) (v:List Int×Int),(∃k:Nat,v.2=(k:Int)∧m=N-k∧v.1.length=N∧k≤N∧(0<k∨N=0)∧v.1.take k=List.replicate k x)→
   (∃s' m',KO v.1 v.2=some (.inl s')∧m'<m∧ ∃k:Nat,s'.2=(k:Int)∧m'=N-k∧s'.1.length=N∧k≤N∧(0<k∨N=0)∧s'.1.take k=List.replicate k x)∨(∃r,KO v.1 v.2=some (.inr r)∧r=List.replicate N x):=by
  rintro m ⟨l,kk⟩ ⟨k,hkk,rfl,hl,hk,h1,he⟩
  simp only at hl he hkk;subst hkk;by_cases hlt:k<N
  ·left
   have hk0:0<k:=by omega
   have e0:((l.drop 0).take (k-0))=List.replicate k x:=by rw [List.drop_zero,Nat.sub_zero,he]
   refine⟨_,N-(k+min (N-k) k),by
    simp only [KO]
    rw [hl,if_pos (by omega),BM (by omega),Int.toNat_natCast,BM (by omega),BM (by omega),BM (by omega),e0,List.length_replicate],by omega,k+min (N-k) k, ?_,rfl, ?_,by omega,by omega, ?_⟩
   ·rw [Ir _ (by omega)];omega
   ·simp only;rw [fI _ _ _ (by simp;omega)];simp;omega
   ·simp only;rw [fI _ _ _ (by simp;omega),List.take_replicate,he,List.length_replicate,←List.append_assoc,show min (min (N-k) k) k=min (N-k) k by omega,List.replicate_append_replicate,List.take_append_of_le_length (by simp),List.take_of_length_le (by simp)]
  ·right
   have hkN:k=N:=by omega
   subst hkN
   refine⟨l, ?_, ?_⟩
   ·simp only [KO];rw [if_neg (by omega)]
   ·rw [←he,List.take_of_length_le (by omega)]
 obtain⟨r,h2,h3⟩:=uj (fun v=>KO v.1 v.2) (fun m v=> ∃k:Nat,v.2=(k:Int)∧m=N-k∧v.1.length=N∧k≤N∧(0<k∨N=0)∧v.1.take k=List.replicate k x) (fun r=>r=List.replicate N x) step (N-k) (l,(k:Int)) ⟨k,rfl,rfl,hl,hk,h1,he⟩;unfold Uv;rw [h2,h3]
theorem bX(x:Int)(n:Int)(h:0≤n∧n<1099511627776):gRp [x] n=some (List.replicate n.toNat x):=by
 unfold gRp;have e1:IntKind.u64.wrap (([x]:List Int).length:Int)=1:=by rw [XD _ (by simp)];rfl
 rw [if_neg (by omega),e1,XD n (by omega),mul_one n h,Option.bind_some]
 simp only;rw [if_neg (by decide),if_neg (by omega),Ir n (by omega),BM (by omega),List.length_replicate]
 rcases Nat.eq_zero_or_pos n.toNat with h0 | h0
 ·rw [h0];rw [show min 0 ([x]:List Int).length=0 by simp]
  have:=XE x 0 (by decide) [] 0 rfl (Nat.le_refl _) (.inr rfl) rfl
  simp only [List.replicate_zero,List.take_zero,sM,Int.natCast_zero]at this ⊢;rw [this];rfl
 ·have e2:min n.toNat ([x]:List Int).length=1:=by simp;omega
  rw [e2]
  have e3:sM (List.replicate n.toNat 0) 0 ([x].take 1)=x::List.replicate (n.toNat-1) 0:=by
   rw [fI _ _ _ (by simp;omega)];simp
  rw [e3,XE x n.toNat (by omega) _ 1 (by simp;omega) (by omega) (.inl (by omega)) (by simp)]
  rfl
end Go.Proofs.Ytipfckompmhljaa
