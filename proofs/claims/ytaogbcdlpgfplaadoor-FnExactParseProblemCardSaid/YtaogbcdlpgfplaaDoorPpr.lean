/- Texts of problems read: program and reference agree. Conditions: those in each lemma. -/
import Derived.Test.YtaogbcdlpgfplaaDoorL6
import Derived.Test.YtaogbcdlpgfplaaDoorRdf
import Derived.Test.YtaogbcdlpgfplaaDoorTxp
namespace Go.Proofs.YtaogbcdlpgfplaaDoor
open Go Dv
set_option linter.unusedSimpArgs false
set_option linter.unusedVariables false
set_option maxRecDepth 100000
theorem Rt(pr:Nat→Bool): ∀(L:List (List UInt8)) (t:Nat) (st:St),VU (fun t=>HY (pr t)) t st L=Sw pr t st L
 | [],_,_=>rfl
 |x::L,t,st=>by
  rw [MU]
  unfold Sw
  cases HY (pr t) st x with
  |none=>rfl
  |some s=>rw [Option.bind_some,Option.bind_some,Rt pr L]
theorem xU:({data:= #[32]}:ByteArray)=Br [32]:=rfl
theorem Hd:({data:= #[10]}:ByteArray)=Br [10]:=rfl
theorem qA:({data:= #[112,114,111,98,108,101,109]}:ByteArray)=Br F5:=rfl
theorem qB:({data:= #[110,111,100,101]}:ByteArray)=Br F9:=rfl
theorem qC:({data:= #[101,100,103,101]}:ByteArray)=Br GV:=rfl
theorem qD(w:List UInt8)(r:List (List UInt8)):(((w::r).map Br).drop 1).take (((w::r).map Br).length-1)=r.map Br:=by
 rw [List.map_cons,List.drop_succ_cons,List.drop_zero,List.length_cons,Nat.add_sub_cancel,List.take_length]
theorem qE(w:List UInt8)(r:List (List UInt8)):((w::r).map Br).getD 0 default=Br w:=rfl
structure LinesOk(L:List (List UInt8)):Prop where
 len:L.length≤1048577
 row: ∀x∈L,x.length≤1048577
theorem Xh(l:List UInt8){w:List UInt8}{r:List (List UInt8)}(e:Da 32 l=w::r):r.length≤l.length:=by
 have h:=M6 32 l
 have h2:l.count 32≤l.length:=List.count_le_length
 rw [e,List.length_cons]at h
 omega
theorem Xi(s:ByteArray)(L:List (List UInt8))(hL:LinesOk L)(i:Nat)(hi:i<L.length)(a d:Int)(ns es:List (List Int))(hn:ns.length+1<1099511627776)(he:es.length+1<1099511627776):
  CP s (L.map Br,true) a d ns es (i:Int)=some (match HY true (a,d,ns,es) L[i]with|some c=> .inl (c.1,c.2.1,c.2.2.1,c.2.2.2,((i+1:Nat):Int))|none=> .inr (.inl ())):=by
 have hrow:=hL.row _ (List.getElem_mem hi)
 have hlen:=hL.len
 have eg:((L.map Br,true):List ByteArray×Bool).1.getD i default=Br L[i]:=IQ L hi
 have esp:Bl (Br L[i]) ({data:= #[32]}:ByteArray)=(Da 32 L[i]).map Br:=by rw [xU,Rm,Re]
 simp only [CP,Int.toNat_natCast,eg,esp]
 rw [List.length_map,if_pos (EJ hi),Cn (by omega),BN,xU,BN,Cn (by simp;omega)]
 unfold HY
 cases ec:Da 32 L[i]with
 |nil=>exact absurd ec (OG 32 _)
 |cons w r=>
  have hr:=Xh _ ec
  rw [qD,qE,Cn (by simp),x8 r (by omega),Option.bind_some,qA,qB,qC,jR,jR,jR,PV i (by omega)]
  cases es':IB r with
  |none=>simp only [es',Option.bind_none,Bool.false_eq_true,if_false]
  |some l=>
   simp only [es',Option.bind_some,if_true,true_and,decide_eq_true_eq]
   rw [Cn (by simp)]
   by_cases h1:w=F5
   ·have h2: ¬F5=F9:=by decide
    have h3: ¬F5=GV:=by decide
    subst h1
    simp only [if_true,true_and,if_neg h2,if_neg h3]
    by_cases h4:l.length=2
    ·rw [if_pos (by omega),if_pos h4,Cn (by omega),Cn (by omega)]
    ·rw [if_neg (by omega),if_neg h4]
   ·have n1: ¬(w=F5∧l.length=2):=fun h=>h1 h.1
    rw [if_neg h1,if_neg n1]
    by_cases h2:w=F9
    ·rw [if_pos h2,if_pos h2,Cn hn]
    ·rw [if_neg h2,if_neg h2]
     by_cases h3:w=GV
     ·rw [if_pos h3,if_pos h3,Cn he]
     ·rw [if_neg h3,if_neg h3]
theorem Xj(s:ByteArray)(L:List (List UInt8))(M:List ByteArray)(hM:(M.take ((IntKind.i64.wrap ((M.length:Int)-1)).toNat)).drop 0=L.map Br)(hL:LinesOk L)(i:Nat)(hi:i<L.length)(a d:Int)(ns es:List (List Int))(hn:ns.length+1<1099511627776)(he:es.length+1<1099511627776):
  CQ s M a d ns es (i:Int)=some (match HY (i==0) (a,d,ns,es) L[i]with|some c=> .inl (c.1,c.2.1,c.2.2.1,c.2.2.2,((i+1:Nat):Int))|none=> .inr (.inl ())):=by
 have hrow:=hL.row _ (List.getElem_mem hi)
 have hlen:=hL.len
 have hsp:=Zy 32 L[i] (by omega)
 have e32':((32:UInt8).toNat:Int)=32:=rfl
 rw [e32']at hsp
 simp only [CQ,Int.toNat_natCast]
 rw [hM,List.length_map,if_pos (EJ hi),Cn (by omega),IQ L hi,hsp,Option.bind_some]
 unfold HY
 cases ec:Da 32 L[i]with
 |nil=>exact absurd ec (OG 32 _)
 |cons w r=>
  have hr:=Xh _ ec
  rw [qD,qE,Cn (by simp),x9 r (by omega),Option.bind_some,qA,qB,qC,jR,jR,jR,PV i (by omega)]
  cases es':IB r with
  |none=>simp only [es',Option.bind_none,Bool.false_eq_true,if_false]
  |some l=>
   have hck: ∀ {α:Type} (k:Option α),ck (0<((w::r).map Br).length) k=k:=fun k=>Cn (by simp)
   simp only [es',Option.bind_some,if_true,decide_eq_true_eq,hck]
   have hz:(i==0)=true↔(i:Int)=0:=by rw [beq_iff_eq];omega
   by_cases h1:w=F5
   ·have h2: ¬F5=F9:=by decide
    have h3: ¬F5=GV:=by decide
    subst h1
    simp only [if_true,true_and,if_neg h2,if_neg h3]
    by_cases h0:(i:Int)=0
    ·rw [if_pos h0]
     by_cases h4:l.length=2
     ·rw [if_pos (by omega),if_pos ⟨hz.2 h0,h4⟩,Cn (by omega),Cn (by omega)]
     ·rw [if_neg (by omega),if_neg (fun h=>h4 h.2)]
    ·have n0: ¬((i==0)=true∧l.length=2):=fun h=>h0 (hz.1 h.1)
     rw [if_neg h0,if_neg n0]
   ·have n1: ¬((i==0)=true∧w=F5∧l.length=2):=fun h=>h1 h.2.1
    rw [if_neg h1,if_neg n1]
    by_cases h2:w=F9
    ·rw [if_pos h2,if_pos h2,Cn hn,ite_self]
    ·rw [if_neg h2,if_neg h2]
     by_cases h3:w=GV
     ·rw [if_pos h3,if_pos h3,Cn he,ite_self]
     ·rw [if_neg h3,if_neg h3,ite_self]
theorem VX(m:Nat):Xf 0 m (0,0,[],[]):=⟨Nat.le_refl _,Nat.le_refl _,fun x hx=>by simp at hx,fun x hx=>by simp at hx⟩
theorem mI(s:ByteArray)(L:List (List UInt8))(hL:LinesOk L):
  ES s (L.map Br,true) (0,0,[],[],0)=some (match Sw (fun _=>true) 0 (0,0,[],[]) L with|some st=> .inr st|none=> .inl ()):=by
 have hlen:=hL.len
 have key:=M8 (fun v=>CP s (L.map Br,true) v.1 v.2.1 v.2.2.1 v.2.2.2.1 v.2.2.2.2) (fun i (st:St)=>(st.1,st.2.1,st.2.2.1,st.2.2.2,(i:Int))) L (fun _=>HY true) (fun i st=>Xf i 1048577 st) (.inl ()) (fun st=> .inr st) ?_ ?_ ?_ (0,0,[],[]) (VX _)
 ·rw [Rt (fun _=>true)]at key
  unfold ES
  rw [Int.natCast_zero]at key
  refine key.trans ?_
  cases Sw (fun _=>true) 0 (0,0,[],[]) L<;>rfl
 ·intro i st hi hst
  have h1:=hst.1
  have h2:=hst.2.1
  refine(Xi s L hL i hi st.1 st.2.1 st.2.2.1 st.2.2.2 (by omega) (by omega)).trans ?_
  cases HY true st L[i]<;>rfl
 ·intro i st c hi hst hc
  exact Rs hst (hL.row _ (List.getElem_mem hi)) hc
 ·intro st hst
  simp only [CP]
  rw [List.length_map,if_neg (Bq _)]
theorem mJ(s:ByteArray)(L:List (List UInt8))(M:List ByteArray)(hM:(M.take ((IntKind.i64.wrap ((M.length:Int)-1)).toNat)).drop 0=L.map Br)(hL:LinesOk L):
  ET s M (0,0,[],[],0)=some (match Sw (fun t=>t==0) 0 (0,0,[],[]) L with|some st=> .inr st|none=> .inl ()):=by
 have hlen:=hL.len
 have key:=M8 (fun v=>CQ s M v.1 v.2.1 v.2.2.1 v.2.2.2.1 v.2.2.2.2) (fun i (st:St)=>(st.1,st.2.1,st.2.2.1,st.2.2.2,(i:Int))) L (fun t=>HY (t==0)) (fun i st=>Xf i 1048577 st) (.inl ()) (fun st=> .inr st) ?_ ?_ ?_ (0,0,[],[]) (VX _)
 ·rw [Rt (fun t=>t==0)]at key
  unfold ET
  rw [Int.natCast_zero]at key
  refine key.trans ?_
  cases Sw (fun t=>t==0) 0 (0,0,[],[]) L<;>rfl
 ·intro i st hi hst
  have h1:=hst.1
  have h2:=hst.2.1
  refine(Xj s L M hM hL i hi st.1 st.2.1 st.2.2.1 st.2.2.2 (by omega) (by omega)).trans ?_
  cases HY (i==0) st L[i]<;>rfl
 ·intro i st c hi hst hc
  exact Rs hst (hL.row _ (List.getElem_mem hi)) hc
 ·intro st hst
  simp only [CQ]
  rw [hM,List.length_map,if_neg (Bq _)]
def VY(l:List UInt8):Option (List UInt8):=if l.getLast? =some 10 then some l.dropLast else none
theorem Ru(r:List UInt8)(x:UInt8):VY (r++[x])=if x=10 then some r else none:=by
 unfold VY
 rw [List.getLast?_concat,List.dropLast_concat]
 by_cases h:x=10
 ·rw [if_pos h,if_pos (by rw [h])]
 ·rw [if_neg h,if_neg (fun e=>h (Option.some.inj e))]
theorem Rv(l:List UInt8):l=[]∨ ∃r x,l=r++[x]:=by
 by_cases h:l=[]
 ·exact .inl h
 ·exact .inr ⟨_,_,(List.dropLast_concat_getLast h).symm⟩
theorem Zz{l r:List UInt8}(h:VY l=some r):l=r++[10]:=by
 rcases Rv l with rfl|⟨q,x,rfl⟩
 ·cases h
 ·rw [Ru]at h
  split at h
  ·rename_i hx
   injection h with h
   rw [h,hx]
  ·cases h
theorem jW(l:List UInt8)(hl:l.length<4294967296):Ba (Br l) (Br [10])=some (VY l).isSome:=by
 unfold Ba
 rw [BN,BN]
 rcases Rv l with rfl|⟨q,x,rfl⟩
 ·rfl
 ·have el:(q++[x]).length=q.length+1:=by simp
  have e1:([10]:List UInt8).length=1:=rfl
  rw [el]at hl
  rw [el,e1]
  have hw:IntKind.i64.wrap (((q.length+1:Nat):Int)-((1:Nat):Int))=((q.length:Nat):Int):=by
   rw [KQ _ (by omega)];omega
  rw [hw,if_pos (by omega),Cn (by omega),Int.toNat_natCast,Cn (by omega),VV,jR,Ru]
  have ht:((q++[x]).drop q.length).take (q.length+1-q.length)=[x]:=by
   rw [List.drop_left' rfl,show q.length+1-q.length=1 by omega];rfl
  rw [ht]
  by_cases h:x=10
  ·rw [if_pos h,h];rfl
  ·rw [if_neg h]
   simp [h]
theorem mK(l:List UInt8)(hl:l.length<4294967281):I6 (Br l)=some (match VY l with|some r=>((Da 10 r).map Br,true)|none=>([],false)):=by
 unfold I6 Ec Bu
 rw [Hd,jW l (by omega),Option.bind_some]
 cases he:VY l with
 |none=>rfl
 |some r=>
  have e:=Zz he
  have hw:IntKind.i64.wrap (((Br l).size:Int)-((Br [10]).size:Int))=(r.length:Int):=by
   rw [BN,BN,KQ _ (by simp;omega),e];simp
  rw [hw]
  have hlen:=congrArg List.length e
  rw [List.length_append]at hlen
  simp only [Option.isSome_some,if_true,Int.toNat_natCast]
  rw [Cn (by omega),Cn (by rw [BN];omega),Option.bind_some,Option.bind_some]
  have hx:(Br l).extract 0 r.length=Br r:=by rw [VV,e];simp
  simp only [hx,if_true]
  rw [BN,BN,Cn (by simp;omega),Rm,Re]
theorem Rw{l:List (List Int)}{s n:Int}(h:H9 l s n=true)(hn:n≤8): ∀x∈l,Pj x:=by
 intro x hx
 obtain⟨i,hi,rfl⟩:=List.getElem_of_mem hx
 have:=H6.1 h i hi
 unfold K3 at this
 rw [Cm _ _ hi]at this
 simp only [Bool.and_eq_true,decide_eq_true_eq]at this
 have hall:=this.1.2
 intro k hk
 unfold Hz at hall
 have:=Fg.1 (List.all_eq_true.1 hall k hk)
 omega
theorem Xk{a d:Int}{ns es:List (List Int)}(h:DZ a d ns es=true):(∀x∈ns,Pj x)∧ ∀x∈es,Pj x:=by
 simp only [DZ,Bool.and_eq_true]at h
 have ha:=Fg.1 h.1.1.1
 exact⟨Rw h.1.2 ha.2,Rw h.2 ha.2⟩
theorem dE{a d:Int}{ns es:List (List Int)}(h:DZ a d ns es=true):(1≤a∧a≤8)∧(1≤d∧d≤4):=by
 simp only [DZ,Bool.and_eq_true]at h
 exact⟨Fg.1 h.1.1.1,Fg.1 h.1.1.2⟩
def Xl(l:List UInt8)(o:Option St):Int×Int×List (List Int)×List (List Int)×Bool:=
 match o with
 |some st=>if DZ st.1 st.2.1 st.2.2.1 st.2.2.2=true∧M5 st.1 st.2.1 st.2.2.1 st.2.2.2=l then(st.1,st.2.1,st.2.2.1,st.2.2.2,true)else(0,0,[],[],false)
 |none=>(0,0,[],[],false)
theorem Rx{n m:Nat}{st:St}(h:Xf n m st)(hn:n≤1048577)(hm:m≤1048577):BV st.2.2.1∧BV st.2.2.2:=
 ⟨⟨by have:=h.1;omega,fun x hx=>by have:=h.2.2.1 x hx;omega⟩,⟨by have:=h.2.1;omega,fun x hx=>by have:=h.2.2.2 x hx;omega⟩⟩
theorem mM(l:List UInt8)(hl:l.length≤1048576):Ew (Br l)=some (Xl l ((VY l).bind fun r=>Sw (fun _=>true) 0 (0,0,[],[]) (Da 10 r))):=by
 unfold Ew
 rw [mK l (by omega),Option.bind_some]
 cases he:VY l with
 |none=>rfl
 |some r=>
  have hlen:=congrArg List.length (Zz he)
  rw [List.length_append,List.length_cons,List.length_nil]at hlen
  have hc:=M6 10 r
  have hct:r.count 10≤r.length:=List.count_le_length
  have hok:LinesOk (Da 10 r):=⟨by omega,fun x hx=>by have:=Rk 10 r x hx;omega⟩
  simp only [if_true,Option.bind_some]
  rw [mI _ _ hok,Option.bind_some]
  cases hr:Sw (fun _=>true) 0 (0,0,[],[]) (Da 10 r)with
  |none=>rfl
  |some st=>
   have hst:=ZP (fun _=>true) 1048577 (Da 10 r) 0 0 _ st (VX _) hok.row hr
   obtain⟨sn,se⟩:=Rx hst (by omega) (Nat.le_refl _)
   have h1:=hst.1
   have h2:=hst.2.1
   simp only
   rw [Cn sn,Cn se]
   unfold Xl
   by_cases hp:DZ st.1 st.2.1 st.2.2.1 st.2.2.2=true
   ·obtain⟨ha,hd,cn,ce⟩:=NJ hp (by omega) (by omega)
    rw [if_pos hp,xB (by omega) (by omega) cn ce,Option.bind_some,jR]
    by_cases ht:M5 st.1 st.2.1 st.2.2.1 st.2.2.2=l
    ·simp only [ht,decide_true,if_true,hp,and_self]
    ·simp only [ht,decide_false,if_false,and_false,Bool.false_eq_true]
   ·rw [if_neg hp]
    simp only [hp,false_and,if_false,Bool.false_eq_true]
theorem mO(l:List UInt8)(hl:l.length≤1048576):F4 (Br l)=some (Xl l (Sw (fun t=>t==0) 0 (0,0,[],[]) (Da 10 l).dropLast)):=by
 have hsp:=Zy 10 l (by omega)
 have e10':((10:UInt8).toNat:Int)=10:=rfl
 rw [e10']at hsp
 have hc:=M6 10 l
 have hct:l.count 10≤l.length:=List.count_le_length
 unfold F4
 rw [hsp,Option.bind_some]
 have hw:IntKind.i64.wrap ((((Da 10 l).map Br).length:Int)-1)=((l.count 10:Nat):Int):=by
  rw [List.length_map,KQ _ (by omega)];omega
 have hM:(((Da 10 l).map Br).take ((IntKind.i64.wrap ((((Da 10 l).map Br).length:Int)-1)).toNat)).drop 0=(Da 10 l).dropLast.map Br:=by
  rw [hw,Int.toNat_natCast,List.drop_zero,←List.map_take,List.dropLast_eq_take,hc,Nat.add_sub_cancel]
 have hok:LinesOk (Da 10 l).dropLast:=⟨by rw [List.length_dropLast];omega,fun x hx=>by have:=Rk 10 l x ((List.dropLast_sublist _).subset hx);omega⟩
 rw [mJ _ _ _ hM hok,hw,Cn (by omega),Int.toNat_natCast,Cn (by rw [List.length_map];omega),Option.bind_some]
 cases hr:Sw (fun t=>t==0) 0 (0,0,[],[]) (Da 10 l).dropLast with
 |none=>rfl
 |some st=>
  have hst:=ZP (fun t=>t==0) 1048577 _ 0 0 _ st (VX _) hok.row hr
  have hdl:(Da 10 l).dropLast.length=l.count 10:=by rw [List.length_dropLast];omega
  rw [hdl]at hst
  obtain⟨sn,se⟩:=Rx hst (by omega) (Nat.le_refl _)
  have h1:=hst.1
  have h2:=hst.2.1
  simp only
  rw [Cn sn,Cn se]
  unfold Xl
  by_cases hp:DZ st.1 st.2.1 st.2.2.1 st.2.2.2=true
  ·obtain⟨ha,hd,cn,ce⟩:=NJ hp (by omega) (by omega)
   rw [if_pos hp,xC (by omega) (by omega) cn ce,Option.bind_some,jR]
   by_cases ht:M5 st.1 st.2.1 st.2.2.1 st.2.2.2=l
   ·simp only [ht,decide_true,if_true,hp,and_self]
   ·simp only [ht,decide_false,if_false,and_false,Bool.false_eq_true]
  ·rw [if_neg hp]
   simp only [hp,false_and,if_false,Bool.false_eq_true]
theorem U0{l:List UInt8}(h: ¬ ∃a d ns es,DZ a d ns es=true∧M5 a d ns es=l)(o:Option St):Xl l o=(0,0,[],[],false):=by
 unfold Xl
 cases o with
 |none=>rfl
 |some st=>
  simp only
  rw [if_neg]
  rintro⟨h1,h2⟩
  exact h ⟨_,_,_,_,h1,h2⟩
theorem ZR(l:List UInt8)(hl:l.length≤1048576): ∃a d ns es t,Ew (Br l)=some (a,d,ns,es,t)∧F4 (Br l)=some (a,d,ns,es,t)∧
  ((t=false∧ns=[]∧es=[])∨(t=true∧DZ a d ns es=true∧M5 a d ns es=l)):=by
 rw [mM l hl,mO l hl]
 by_cases h: ∃a d ns es,DZ a d ns es=true∧M5 a d ns es=l
 ·obtain⟨a,d,ns,es,hp,ht⟩:=h
  obtain⟨ha,hd⟩:=dE hp
  obtain⟨hn,he⟩:=Xk hp
  have e:l=Lib.join (Cg a d ns es) [10]++[10]:=by rw [←ht,ZO]
  have eE:VY l=some (Lib.join (Cg a d ns es) [10]):=by rw [e,Ru,if_pos rfl]
  have eC:(Da 10 l).dropLast=Cg a d ns es:=by rw [e,Xe,Xd];simp
  have r1:=Xc (fun _=>true) rfl (a:=a) (d:=d) (by omega) (by omega) hn he
  have r2:=Xc (fun t=>t==0) rfl (a:=a) (d:=d) (by omega) (by omega) hn he
  rw [eE,Option.bind_some,Xd,r1,eC,r2]
  have ef:Xl l (some (a,d,ns,es))=(a,d,ns,es,true):=by
   unfold Xl
   simp only
   rw [if_pos ⟨hp,ht⟩]
  rw [ef]
  exact⟨a,d,ns,es,true,rfl,rfl, .inr ⟨rfl,hp,ht⟩⟩
 ·rw [U0 h,U0 h]
  exact⟨0,0,[],[],false,rfl,rfl, .inl ⟨rfl,rfl,rfl⟩⟩
end Go.Proofs.YtaogbcdlpgfplaaDoor
