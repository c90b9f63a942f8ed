/- Networks marked, and marks held, as plain functions. Conditions: the lists are short. -/
import Derived.Test.YtiehjihckndgkaaGreatL6
import Derived.Test.YtiehjihckndgkaaGreatNis
namespace Go.Proofs.YtiehjihckndgkaaGreat
open Go Dv
set_option linter.unusedSimpArgs false
set_option linter.unusedVariables false
set_option maxRecDepth 100000
set_option maxHeartbeats 4000000
def ja(k:Int)(n:Nat):List (Int×Int):=(List.range n).map fun(i:Nat)=>(k+2*(i:Int),k+2*(i:Int)+1)
theorem fJ(k:Int)(n:Nat):(ja k n).length=n:=by simp [ja]
theorem xJ(k:Int)(n:Nat):ja k (n+1)=ja k n++[(k+2*(n:Int),k+2*(n:Int)+1)]:=by simp [ja,List.range_succ]
theorem A5w{α:Type}(A xs:List α)(i:Nat)(v:α)(hA:A.length=i)(h:i<xs.length):(A++xs.drop i).set i v=(A++[v])++xs.drop (i+1):=by
 rw [jr _ _ (by omega),hA,Nat.sub_self,WH h,kD,Qy];rfl
theorem xK(t:List (Int×Int))(i:Nat)(p:Int×Int)(h:i<t.length):CV (t.set i p) i=p.1:=by
 unfold CV;simp [MQ,h]
noncomputable def Fv(k:Int)(k1:Int)(i:Int)(BD:List (Int×Int)):Option ((Int×Int×(List (Int×Int)))⊕(Int×(List (Int×Int)))):= if i<(BD.length:Int)then ck (0≤i∧i.toNat<BD.length)<| ck (0≤i∧i.toNat<(BD.set i.toNat (k1,(Cx BD i.toNat))).length)<| some (Sum.inl (IntKind.i64.wrap ((IntKind.i64.wrap (k1+1))+1),IntKind.i64.wrap (i+1),((BD.set i.toNat (k1,(Cx BD i.toNat))).set i.toNat ((CV (BD.set i.toNat (k1,(Cx BD i.toNat))) i.toNat),IntKind.i64.wrap (k1+1))))) else some (Sum.inr (k1,BD))
noncomputable def Lp(k:Int)(v:Int×Int×(List (Int×Int))):Option (Int×(List (Int×Int))):=I4 (fun v=>Fv k v.1 v.2.1 v.2.2) v
noncomputable def PV(a:List (Int×Int))(k:Int):Option (Int×(List (Int×Int))):= (Lp k (k,0,a)).bind fun AY=> some (AY.1,AY.2)
def fK:SC:= .seq (.seq (.ops [oM 6 5 3,oM 7 0 79,oN 8 7 79,oB 9 .lss 3 (tK 6) (tK 8) 3 4]) (.cond (tK 9) .skip (.exit 0))) (.seq (.block 1 (.seq (.ops [oM 12 0 79,oM 13 5 3,oM 14 1 3,oI 15 79 12 13,oF 16 87 15 0,oS 3 16 14]) (.seq (.ops [oM 17 1 3,oB 18 .add 3 (tK 17) (iK 1) 3 3,oA 1 18 3]) (.seq (.ops [oM 19 0 79,oM 20 5 3,oM 21 1 3,oI 22 79 19 20,oF 23 87 22 1,oS 3 23 21]) (.ops [oM 24 1 3,oB 25 .add 3 (tK 24) (iK 1) 3 3,oA 1 25 3]))))) (.ops [oM 10 5 3,oB 11 .add 3 (tK 10) (iK 1) 3 3,oA 5 11 3]))
def xL:SC:= .loop fK
def k76:SC:= .seq (.ops [oX 4 (.assign (iK 0)) 3]) (.seq (.seq (.ops [oX 5 (.assign (iK 0)) 3]) (.block 0 xL)) (.seq (.ops [oM 26 1 3,oA 4 26 3]) .ret))
theorem A5x:Tryz.f76.body.map (Bf lends)=some k76:=by kernel_rfl
theorem AIx:Bz Tryz.f76 2=true:=by kernel_rfl
theorem c76{a l:List D}{r:D×List D}(h:CF Y.env k76 (ES Ae l.length [ResultVar.tmp 4] r) (entry a l))(ha:a.length=2):Y.call 76 a l=some r:=
 Ab (Y:=Y) rfl Tryz.func76 (ha▸AIx) A5x h
def Fw(k:Int)(k1:Int)(i:Int)(BD:List (Int×Int))(s:St):Prop:=(∃w_,s.v 0=D.vw [100000] (s.k 100000) w_)∧s.v 1=D.int .i64 k1∧s.v 5=D.int .i64 i∧s.v 100000=D.own 87 (Ay .i64 .i64 BD)
def KN(k:Int)(r:Int×(List (Int×Int)))(ex:Ex)(s:St):Prop:=ex= .exit 0∧s.v 1=D.int .i64 r.1∧s.v 100000=D.own 87 (Ay .i64 .i64 r.2)
theorem Ub(k:Int){v:Int×Int×(List (Int×Int))}{s:St}{r:Int×(List (Int×Int))}(h:Lp k v=some r)(hM:Fw k v.1 v.2.1 v.2.2 s):CF Y.env xL (KN k r) s:=by
 unfold Lp at h;refine BN (c:=fK) (fun v=>Fv k v.1 v.2.1 v.2.2) (fun v s=>Fw k v.1 v.2.1 v.2.2 s) (KN k) ?_ h hM;clear h hM s v r;intro v s o hM h;obtain⟨k1,i,BD⟩:=v;dsimp only at h hM;unfold Fv at h;unfold Fw at hM;obtain⟨⟨w0_,m0⟩,m1,m2,m3⟩:=hM;unfold fK;rcases iS h with⟨e1,h⟩|⟨e1,h⟩
 ·obtain⟨e2,e3,h⟩:=Ei h
  obtain rfl:=Option.some.inj h
  simp (maxDischargeDepth:=9) only [↓AP,AQ,↓reduceIte,Nat.reduceEqDiff,Nat.reduceLT,m0,m1,m2,m3,e1,e2.1,e2.2,Fw,GZ]<;>(repeat' apply A7)<;>first|rfl|exact⟨_,rfl⟩|exact⟨_,_,rfl⟩|simp [AL,BP]
 ·obtain rfl:=Option.some.inj h
  simp (maxDischargeDepth:=9) only [↓AP,AQ,↓reduceIte,Nat.reduceEqDiff,Nat.reduceLT,m0,m1,m2,m3,e1,Fw,KN,KW]
theorem Vq(a:List (Int×Int))(k:Int){r:Int×(List (Int×Int))}(h:PV a k=some r):Y.call 76 [D.vw [100000] 0 0,D.int .i64 k] [D.own 87 (Ay .i64 .i64 a)]=some (D.int .i64 r.1,[D.own 87 (Ay .i64 .i64 r.2)]):=by
 refine c76 ?_ rfl;unfold k76;unfold PV at h;obtain⟨AY,hl2,h⟩:=Ag h;try dsimp only at h
 simp (maxDischargeDepth:=9) only [↓AP,AQ,↓reduceIte,Nat.reduceEqDiff,Nat.reduceLT,Nat.reduceAdd];refine Av (Ub k hl2 ?_) ?_
 ·simp (maxDischargeDepth:=9) only [C9,DK,↓reduceIte,Nat.reduceEqDiff,Nat.reduceLT,Nat.reduceSub,Fw]<;>(repeat' apply A7)<;>first|rfl|exact⟨_,rfl⟩|exact⟨_,_,rfl⟩|simp [AL,BP]
 ·intro ex2 s2 hX2;unfold KN at hX2;obtain⟨rfl,n2_0,n2_1⟩:=hX2
  obtain rfl:=Option.some.inj h
  simp (maxDischargeDepth:=9) only [↓AP,AQ,↓reduceIte,Nat.reduceEqDiff,Nat.reduceLT,n2_0,n2_1]
theorem Zb(a:List (Int×Int))(k:Int)(ha:a.length<549755813888)(hk:0≤k∧k+2*(a.length:Int)<1099511627776):PV a k=some (k+2*(a.length:Int),ja k a.length):=by
 have key:=EX (fun v=>Fv k v.1 v.2.1 v.2.2) (fun i=>(k+2*(i:Int),(i:Int),ja k i++a.drop i)) a.length (k+2*(a.length:Int),ja k a.length) ?_ ?_
 ·unfold PV Lp;have e0:ja k 0=[]:=rfl;simp only [GY,Int.mul_zero,Int.add_zero,Ru,e0,NV]at key;rw [key];rfl
 ·intro i hi;simp only [Fv];have el:(ja k i++a.drop i).length=a.length:=by simp [fJ];omega
  rw [el,if_pos (CJ hi),BJ (Df hi),IV,BJ (by rw [MR,el];omega),xK _ _ _ (by rw [el];exact hi),List.set_set,Kh i (by omega),J9 (k+2*(i:Int)+1) (by omega),J9 (k+2*(i:Int)+1+1) (by omega),A5w _ _ _ _ (fJ k i) hi,←xJ]
  rw [show k+2*(i:Int)+1+1=k+2*((i+1:Nat):Int) by omega]
 ·simp only [Fv];have el:(ja k a.length++a.drop a.length).length=a.length:=by simp [fJ]
  rw [el,if_neg (Ar _)];simp
theorem Zc(a:List (Int×Int))(k:Int)(h0:a.length<549755813888)(h1:0≤k∧k+2*(a.length:Int)<1099511627776):Y.call 76 [D.vw [100000] 0 0,D.int .i64 k] [D.own 87 (Ay .i64 .i64 a)]=some (D.int .i64 (k+2*(a.length:Int)),[D.own 87 (Ay .i64 .i64 (ja k a.length))]):=Vq a k (Zb a k h0 h1)
noncomputable def Hz(k:Int)(k1:Int)(i:Int)(BD:List (List (Int×Int))):Option ((Int×Int×(List (List (Int×Int))))⊕(Int×(List (List (Int×Int))))):= if i<(BD.length:Int)then ck (0≤i∧i.toNat<BD.length)<| ck ((BD.getD i.toNat default).length<549755813888)<| ck (0≤k1∧k1+2*((BD.getD i.toNat default).length:Int)<1099511627776)<| some (Sum.inl ((k1+2*((BD.getD i.toNat default).length:Int)),IntKind.i64.wrap (i+1),(BD.set i.toNat (ja k1 (BD.getD i.toNat default).length)))) else some (Sum.inr (k1,BD))
noncomputable def I1(k:Int)(v:Int×Int×(List (List (Int×Int)))):Option (Int×(List (List (Int×Int)))):=I4 (fun v=>Hz k v.1 v.2.1 v.2.2) v
noncomputable def O7(a:List (List (Int×Int)))(k:Int):Option (Int×(List (List (Int×Int)))):= (I1 k (k,0,a)).bind fun AY=> some (AY.1,AY.2)
def fM:SC:= .seq (.seq (.ops [oM 6 5 3,oM 7 0 36,oN 8 7 36,oB 9 .lss 3 (tK 6) (tK 8) 3 4]) (.cond (tK 9) .skip (.exit 0))) (.seq (.block 1 (.ops [oM 12 0 36,oM 13 5 3,oI 14 36 12 13,oL 15 79 14 79,oM 16 1 3,oC 17 76 [(tK 15),(tK 16)] [79,3] 3,oA 1 17 3])) (.ops [oM 10 5 3,oB 11 .add 3 (tK 10) (iK 1) 3 3,oA 5 11 3]))
def xM:SC:= .loop fM
def k44:SC:= .seq (.ops [oX 4 (.assign (iK 0)) 3]) (.seq (.seq (.ops [oX 5 (.assign (iK 0)) 3]) (.block 0 xM)) (.seq (.ops [oM 18 1 3,oA 4 18 3]) .ret))
theorem A5y:Tryz.f44.body.map (Bf lends)=some k44:=by kernel_rfl
theorem AIz:Bz Tryz.f44 2=true:=by kernel_rfl
theorem c44{a l:List D}{r:D×List D}(h:CF Y.env k44 (ES Ae l.length [ResultVar.tmp 4] r) (entry a l))(ha:a.length=2):Y.call 44 a l=some r:=
 Ab (Y:=Y) rfl Tryz.func44 (ha▸AIz) A5y h
def FE(k:Int)(k1:Int)(i:Int)(BD:List (List (Int×Int)))(s:St):Prop:=(∃w_,s.v 0=D.vw [100000] (s.k 100000) w_)∧s.v 1=D.int .i64 k1∧s.v 5=D.int .i64 i∧s.v 100000=D.own 79 (AL (fun x=>D.own 87 (Ay .i64 .i64 x)) BD)
def Jz(k:Int)(r:Int×(List (List (Int×Int))))(ex:Ex)(s:St):Prop:=ex= .exit 0∧s.v 1=D.int .i64 r.1∧s.v 100000=D.own 79 (AL (fun x=>D.own 87 (Ay .i64 .i64 x)) r.2)
theorem TZ(k:Int){v:Int×Int×(List (List (Int×Int)))}{s:St}{r:Int×(List (List (Int×Int)))}(h:I1 k v=some r)(hM:FE k v.1 v.2.1 v.2.2 s):CF Y.env xM (Jz k r) s:=by
 unfold I1 at h;refine BN (c:=fM) (fun v=>Hz k v.1 v.2.1 v.2.2) (fun v s=>FE k v.1 v.2.1 v.2.2 s) (Jz k) ?_ h hM;clear h hM s v r;intro v s o hM h;obtain⟨k1,i,BD⟩:=v;dsimp only at h hM;unfold Hz at h;unfold FE at hM;obtain⟨⟨w0_,m0⟩,m1,m2,m3⟩:=hM;unfold fM;rcases iS h with⟨e1,h⟩|⟨e1,h⟩
 ·obtain⟨e2,e3,e4,h⟩:=Oa h;have c5:=Zc (BD.getD i.toNat default) k1 e3 e4
  obtain rfl:=Option.some.inj h
  simp (maxDischargeDepth:=9) only [↓AP,AQ,↓reduceIte,Nat.reduceEqDiff,Nat.reduceLT,Nat.reduceAdd,m0,m1,m2,m3,e1,e2.1,e2.2,c5,FE,GZ]<;>(repeat' apply A7)<;>first|rfl|exact⟨_,rfl⟩|exact⟨_,_,rfl⟩|simp [AL,BP]
 ·obtain rfl:=Option.some.inj h
  simp (maxDischargeDepth:=9) only [↓AP,AQ,↓reduceIte,Nat.reduceEqDiff,Nat.reduceLT,m0,m1,m2,m3,e1,FE,Jz,KW]
theorem Uc(a:List (List (Int×Int)))(k:Int){r:Int×(List (List (Int×Int)))}(h:O7 a k=some r):Y.call 44 [D.vw [100000] 0 0,D.int .i64 k] [D.own 79 (AL (fun x=>D.own 87 (Ay .i64 .i64 x)) a)]=some (D.int .i64 r.1,[D.own 79 (AL (fun x=>D.own 87 (Ay .i64 .i64 x)) r.2)]):=by
 refine c44 ?_ rfl;unfold k44;unfold O7 at h;obtain⟨AY,hl2,h⟩:=Ag h;try dsimp only at h
 simp (maxDischargeDepth:=9) only [↓AP,AQ,↓reduceIte,Nat.reduceEqDiff,Nat.reduceLT,Nat.reduceAdd];refine Av (TZ k hl2 ?_) ?_
 ·simp (maxDischargeDepth:=9) only [C9,DK,↓reduceIte,Nat.reduceEqDiff,Nat.reduceLT,Nat.reduceSub,FE]<;>(repeat' apply A7)<;>first|rfl|exact⟨_,rfl⟩|exact⟨_,_,rfl⟩|simp [AL,BP]
 ·intro ex2 s2 hX2;unfold Jz at hX2;obtain⟨rfl,n2_0,n2_1⟩:=hX2
  obtain rfl:=Option.some.inj h
  simp (maxDischargeDepth:=9) only [↓AP,AQ,↓reduceIte,Nat.reduceEqDiff,Nat.reduceLT,n2_0,n2_1]
def QZ:Int→List (List (Int×Int))→List (List (Int×Int))
 |_,[]=>[]
 |k,x::l=>ja k x.length::QZ (k+2*(x.length:Int)) l
theorem oW(x:List (Int×Int))(l:List (List (Int×Int))):Bl (fE (x::l))=x.length+Bl (fE l):=by
 rw [show fE (x::l)=x.map Prod.fst::fE l from rfl,KC,VD]
theorem Ta(kk:Int): ∀(b a:List (List (Int×Int))) (k:Int),Cw b→a.length+b.length<1099511627776→0≤k→k+2*Bl (fE b)<1099511627776→
  I1 kk (k,(a.length:Int),a++b)=some (k+2*Bl (fE b),a++QZ k b):=by
 intro b
 induction b with
 |nil=>
  intro a k hb hab hk hkt;unfold I1;rw [EH (r:=(k,a++[]))]
  ·rw [show Bl (fE [])=0 from rfl,Int.mul_zero,Int.add_zero];rfl
  ·simp only [Hz];rw [if_neg (Qk _)]
 |cons x b ih=>
  intro a k hb hab hk hkt;rw [oW]at hkt;simp only [Lt]at hab;have hx:x.length<549755813888:=hb.2 x (KV ..);have ht:=CU (fE b);have:=ih (a++[ja k x.length]) (k+2*(x.length:Int)) ⟨by omega,fun y hy=>hb.2 y (JY _ hy)⟩ (by simp;omega) (by omega) (by omega)
  unfold I1 at this ⊢;have eg:(a++x::b).getD (a.length:Int).toNat default=x:=by rw [IV];exact EN a (x::b) a.length rfl (by simp)
  rw [Jg (s':=(k+2*(x.length:Int),((a++[ja k x.length]).length:Int),(a++[ja k x.length])++b)),this]
  ·rw [oW,show k+2*(x.length:Int)+2*Bl (fE b)=k+2*(x.length+Bl (fE b)) by omega]
   simp [QZ]
  ·simp only [Hz];rw [if_pos (QL ..),BJ (QM ..),BJ (by rw [eg];exact hx),BJ (by rw [eg];omega),eg,Kh _ (by omega),IV,jr _ _ (KS _),Nat.sub_self,kD]
   simp
theorem YW(a:List (List (Int×Int)))(k:Int)(ha:Cw a)(hk:0≤k∧k+2*Bl (fE a)<1099511627776):O7 a k=some (k+2*Bl (fE a),QZ k a):=by
 unfold O7;have:=Ta k a [] k ha (by have:=ha.1;simp;omega) hk.1 hk.2
 simp only [Pn,NV,GY]at this;rw [this];rfl
theorem YX(a:List (List (Int×Int)))(k:Int)(h0:Cw a)(h1:0≤k∧k+2*Bl (fE a)<1099511627776):Y.call 44 [D.vw [100000] 0 0,D.int .i64 k] [D.own 79 (AL (fun x=>D.own 87 (Ay .i64 .i64 x)) a)]=some (D.int .i64 (k+2*Bl (fE a)),[D.own 79 (AL (fun x=>D.own 87 (Ay .i64 .i64 x)) (QZ k a))]):=Uc a k (YW a k h0 h1)
noncomputable def Lr(Ap:List (List (Int×Int)))(CB:List Int)(Aq:List Int)(k:Int):Option (Int×(List (List (Int×Int)))×(List Int)×(List Int)):= ck (Cw Ap)<| ck (0≤k∧k+2*Bl (fE Ap)<1099511627776)<| ck (CB.length<1099511627776)<| ck (0≤(k+2*Bl (fE Ap))∧(k+2*Bl (fE Ap))<1099511627776)<| ck (Aq.length<1099511627776)<| ck (0≤((k+2*Bl (fE Ap))+CB.length)∧((k+2*Bl (fE Ap))+CB.length)<1099511627776)<| some ((((k+2*Bl (fE Ap))+CB.length)+Aq.length),(QZ k Ap),(upto (k+2*Bl (fE Ap)) CB.length),(upto ((k+2*Bl (fE Ap))+CB.length) Aq.length))
def k19:SC:= .seq (.ops [oX 2 (.box 38 (tK 0)) 0,oX 4 (.assign (iK 0)) 3]) (.seq (.ops [oF 5 38 2 0,oL 6 36 5 36,oM 7 1 3,oC 8 44 [(tK 6),(tK 7)] [36,3] 3,oA 1 8 3]) (.seq (.ops [oF 9 38 2 1,oL 10 26 9 26,oM 11 1 3,oC 12 27 [(tK 10),(tK 11)] [26,3] 3,oA 1 12 3]) (.seq (.ops [oF 13 38 2 2,oL 14 26 13 26,oM 15 1 3,oC 16 27 [(tK 14),(tK 15)] [26,3] 3,oA 1 16 3]) (.seq (.ops [oM 17 1 3,oA 4 17 3]) .ret))))
theorem A5z:Tryz.f19.body.map (Bf lends)=some k19:=by kernel_rfl
theorem AJ1:Bz Tryz.f19 2=true:=by kernel_rfl
theorem c19{a l:List D}{r:D×List D}(h:CF Y.env k19 (ES Ae l.length [ResultVar.tmp 4] r) (entry a l))(ha:a.length=2):Y.call 19 a l=some r:=
 Ab (Y:=Y) rfl Tryz.func19 (ha▸AJ1) A5z h
theorem Rk(Ap:List (List (Int×Int)))(CB:List Int)(Aq:List Int)(k:Int){r:Int×(List (List (Int×Int)))×(List Int)×(List Int)}(h:Lr Ap CB Aq k=some r):Y.call 19 [D.agg [D.vw [100000] 0 0,D.vw [100001] 0 0,D.vw [100002] 0 0],D.int .i64 k] [D.own 79 (AL (fun x=>D.own 87 (Ay .i64 .i64 x)) Ap),D.own 3 (AL (D.int .i64) CB),D.own 3 (AL (D.int .i64) Aq)]=some (D.int .i64 r.1,[D.own 79 (AL (fun x=>D.own 87 (Ay .i64 .i64 x)) r.2.1),D.own 3 (AL (D.int .i64) r.2.2.1),D.own 3 (AL (D.int .i64) r.2.2.2)]):=by
 refine c19 ?_ rfl;unfold k19;unfold Lr at h;obtain⟨e1,e2,h⟩:=Ei h;have c3:=YX Ap k e1 e2;obtain⟨e4,e5,h⟩:=Ei h;have c6:=OC CB (k+2*Bl (fE Ap)) e4 e5;obtain⟨e7,e8,h⟩:=Ei h;have c9:=OC Aq ((k+2*Bl (fE Ap))+CB.length) e7 e8
 obtain rfl:=Option.some.inj h
 simp (maxDischargeDepth:=9) only [↓AP,AQ,↓reduceIte,Nat.reduceEqDiff,Nat.reduceLT,Nat.reduceAdd,Nat.reduceSub,c3,c6,c9]
theorem Ud(a:List (List (Int×Int)))(b c:List Int)(k:Int)(ha:Cw a)(hb:b.length<1099511627776)(hc:c.length<1099511627776)(hk:0≤k∧k+2*Bl (fE a)+b.length+c.length<1099511627776):
  Lr a b c k=some (k+2*Bl (fE a)+b.length+c.length,QZ k a,upto (k+2*Bl (fE a)) b.length,upto (k+2*Bl (fE a)+b.length) c.length):=by
 have ht:=CU (fE a);unfold Lr;rw [BJ ha,BJ (by omega),BJ hb,BJ (by omega),BJ hc,BJ (by omega)]
theorem Ot(Ap:List (List (Int×Int)))(CB:List Int)(Aq:List Int)(k:Int)(h0:Cw Ap)(h1:CB.length<1099511627776)(h2:Aq.length<1099511627776)(h3:0≤k∧k+2*Bl (fE Ap)+CB.length+Aq.length<1099511627776):Y.call 19 [D.agg [D.vw [100000] 0 0,D.vw [100001] 0 0,D.vw [100002] 0 0],D.int .i64 k] [D.own 79 (AL (fun x=>D.own 87 (Ay .i64 .i64 x)) Ap),D.own 3 (AL (D.int .i64) CB),D.own 3 (AL (D.int .i64) Aq)]=some (D.int .i64 (k+2*Bl (fE Ap)+CB.length+Aq.length),[D.own 79 (AL (fun x=>D.own 87 (Ay .i64 .i64 x)) (QZ k Ap)),D.own 3 (AL (D.int .i64) (upto (k+2*Bl (fE Ap)) CB.length)),D.own 3 (AL (D.int .i64) (upto (k+2*Bl (fE Ap)+CB.length) Aq.length))]):=Rk Ap CB Aq k (Ud Ap CB Aq k h0 h1 h2 h3)
end Go.Proofs.YtiehjihckndgkaaGreat
