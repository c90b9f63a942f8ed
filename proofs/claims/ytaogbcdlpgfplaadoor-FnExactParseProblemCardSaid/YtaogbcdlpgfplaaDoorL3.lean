/- Value semantics for Go code, part 3: regions, control, calls and whole functions. Conditions: none beyond those in each lemma. -/
import Derived.Test.YtaogbcdlpgfplaaDoorL2
import Derived.LoopN
import Derived.Orders
import Derived.Maps.RangeRun
set_option linter.unusedSimpArgs false
set_option linter.unusedVariables false
namespace Dv
open Go
def Qc(N:Nat):Operand→Bool
 | .tmp u=>decide (u<N)
 |_=>true
def Zb(N:Nat)(o:Oper):Bool:=(match o.dst with|some t=>decide (t<N)|none=>true)&&o.op.operands.toList.all (Qc N)
def Y8(N:Nat)(ops:Array Oper):Bool:=ops.toList.all (Zb N)
theorem UM{N:Nat}{o:Oper}(h:Zb N o=true):Mt N o:=by
 simp only [Zb,Bool.and_eq_true,List.all_eq_true]at h
 refine⟨fun t ht=> ?_,fun x hx=> ?_⟩
 ·rw [ht]at h;simpa using h.1
 ·have:=h.2 x hx
  cases x<;>simp_all [Qc,Ar]
def DU(N:Nat):Code→Bool
 | .region _ ops _=>Y8 N ops
 | .seq a b=>DU N a&&DU N b
 | .cond c a b=>Qc N c&&DU N a&&DU N b
 | .block _ c=>DU N c
 | .loop c=>DU N c
 | .scope c=>DU N c
 |_=>true
section
variable {P:Program} {E:Env} {s s':St} {gh:Nat→Value} {a:Act} {w w':World} {S:Nat→Prop} {Fs:Nat→Nat→Prop} {N:Nat}
theorem Qd(h:Fr E.T N gh s a w S Fs){ops:Array Oper}(hops: ∀(j:Nat) (o:Oper),ops[j]? =some o→Mt N o){o:Oper}{b:Bool}(hw:KD ops s o=some b):Region.wanted o (yielded ops a.tmps)=b:=by
 unfold KD at hw
 unfold Region.wanted
 split at hw
 ·rename_i hg;simp only [Option.some.injEq]at hw;subst hw;rw [hg]
 ·rename_i j b' hg
  rw [hg]
  simp only
  cases hj:(ops[j]?).bind (·.dst)with
  |none=>
   rw [hj]at hw
   simp only [Option.some.injEq]at hw;subst hw
   simp [yielded,hj]
  |some t=>
   rw [hj]at hw
   simp only at hw
   have htN:t<N:=by
    simp only [Option.bind_eq_some_iff]at hj
    obtain⟨oj,h1,h2⟩:=hj
    exact(hops j oj h1).1 t h2
   have hlt:t<a.tmps.size:=by rw [h.size];exact htN
   have hrv:Ad a gh t=a.tmps[t]:=by
    have:t<G:=Nat.lt_of_lt_of_le htN h.small
    simp [Ad,this,Array.getD,hlt]
   have hW:=h.rel.val t
   rw [hrv]at hW
   have hy:yielded ops a.tmps j=match a.tmps[t]with| .bool b=>some b|_=>none:=by
    simp only [yielded,hj,Option.bind_some,Array.getElem?_eq_getElem hlt]
    cases a.tmps[t]<;>rfl
   rw [hy]
   generalize a.tmps[t]=v at*
   split at hw
   ·rename_i b1 hv
    rw [hv]at hW
    simp only [Option.some.injEq]at hw;subst hw
    cases hW with
    |bool=>cases b1<;>cases b'<;>rfl
   ·rename_i vs hv
    rw [hv]at hW
    simp only [Option.some.injEq]at hw;subst hw
    cases hW with
    |konst=>rfl
   ·cases hw
theorem Be.fr{s0 s':St}{a0 a':Act}(hF:Fr E.T N gh s0 a0 w S Fs)(h:Be E.T gh N s' w S Fs a' w'): ∃S' Fs',Fr E.T N gh s' a' w' S' Fs'∧Step w S Fs w' S' Fs':=by
 obtain⟨S',Fs',h1,h2,h3,h4⟩:=h
 exact⟨S',Fs',⟨h1,h3,h4,hF.small,hF.inv.step hF.rel h2⟩,h2⟩
theorem Be.back{s':St}{a':Act}{S':Nat→Prop}{Fs':Nat→Nat→Prop}{w'':World}(hst:Step w S Fs w' S' Fs')(h:Be E.T gh N s' w' S' Fs' a' w''):Be E.T gh N s' w S Fs a' w'':=by
 obtain⟨S2,Fs2,h1,h2,h3,h4⟩:=h
 exact⟨S2,Fs2,h1,hst.trans h2,h3,h4⟩
theorem WH{pm:Pm}{ops:Array Oper}{i:Nat}{o:Oper}{Q:Exit→Act→World→Prop}{K:Act→World→Prop}(hT:BU P E.T)(hC:Ho P E)(h:Fr E.T N gh s a w S Fs)
  (hops: ∀(j:Nat) (o:Oper),ops[j]? =some o→Mt N o)(hi:ops[i]? =some o)(hs:Hl E ops pm s o=some s')(hK: ∀a' w',Be E.T gh N s' w S Fs a' w'→K a' w'):wpOp P ops Q i K a w:=by
 unfold Hl at hs
 unfold wpOp
 simp only [hi]
 cases hw:KD ops s o with
 |none=>simp [hw]at hs
 |some b=>
  have hwant:=Qd h hops hw
  cases b with
  |true=>
   simp only [hw]at hs
   simp only [hwant,if_true]
   exact .inl (Oper.wp_mono hK (TD hT hC h (hops i o hi) hs))
  |false=>
   simp only [hw,Option.some.injEq]at hs
   subst hs
   simp only [hwant,Bool.false_eq_true,if_false]
   exact hK _ _ (Ag h (hops i o hi).1 (F:=fun _=>False) (.konst (fun _ h=>h)) (fun _ h=>h))
theorem Qe{pm:Pm}{ops:Array Oper}{i:Nat}{o:Oper}{ty:TypeId}{Q:Exit→Act→World→Prop}{K:Act→World→Prop}(hT:BU P E.T)(hC:Ho P E)(h:Fr E.T N gh s a w S Fs)
  (hops: ∀(j:Nat) (o:Oper),ops[j]? =some o→Mt N o)(hi:ops[i]? =some o)(hs:Hl E ops pm s ({o with type:=ty}:Oper)=some s')(hty:ty=o.type∨(∃t x lo hi mx,o.op= .slice t x lo hi mx)∨(∃x,o.op= .assign x)∨(∃t n p,o.op= .buildSlice t n p)∨(∃t x,o.op= .box t x)∨(∃p t x y z,o.op= .binOp p t x y z)∨(∃t x y,o.op= .store t x y)∨(∃g x y,o.op= .makeFunc g x y)∨(∃t l c,o.op= .makeSlice t l c)∨(∃f xs ts,o.op= .call ⟨.value (.func f),xs,ts⟩)∨ ∃t p,o.op= .build t p)(hK: ∀a' w',Be E.T gh N s' w S Fs a' w'→K a' w'):wpOp P ops Q i K a w:=by
 rcases hty with rfl|hop
 ·exact WH hT hC h hops hi hs hK
 unfold Hl at hs
 unfold wpOp
 simp only [hi]
 have hwd:KD ops s ({o with type:=ty}:Oper)=KD ops s o:=rfl
 rw [hwd]at hs
 cases hw:KD ops s o with
 |none=>simp [hw]at hs
 |some b=>
  have hwant:=Qd h hops hw
  cases b with
  |true=>
   simp only [hw]at hs
   simp only [hwant,if_true]
   have hok:=hops i o hi
   have hok':Mt N ({o with type:=ty}:Oper):=hok
   have hp:=fun(Q0:Exit→Act→World→Prop)=>Oper.wp_mono (Q:=Q0) hK (TD (P:=P) (Q:=Q0) hT hC h hok' hs)
   refine .inl ?_
   obtain⟨dst,op,type,pos,after,guard⟩:=o
   simp only at hop
   rcases hop with⟨t,x,lo,hi',mx,rfl⟩|⟨x,rfl⟩|⟨t,n,p,rfl⟩|⟨t,x,rfl⟩|⟨p,t,x,y,z,rfl⟩|⟨t,x,y,rfl⟩|⟨g,x,y,rfl⟩|⟨t,l,c,rfl⟩|⟨f,xs,ts,rfl⟩|⟨t,p,rfl⟩
   ·exact hp Q
   ·exact hp Q
   ·exact hp Q
   ·exact hp Q
   ·exact hp Q
   ·exact hp Q
   ·exact hp Q
   ·exact hp Q
   ·exact hp Q
   ·exact hp Q
  |false=>
   simp only [hw,Option.some.injEq]at hs
   subst hs
   simp only [hwant,Bool.false_eq_true,if_false]
   exact hK _ _ (Ag h (hops i o hi).1 (F:=fun _=>False) (.konst (fun _ h=>h)) (fun _ h=>h))
theorem Qf(lends:FuncId→Bool)(l:List Oper)(o:Oper):Vh lends l o=o.type∨(∃t x lo hi mx,o.op= .slice t x lo hi mx)∨(∃x,o.op= .assign x)∨(∃t n p,o.op= .buildSlice t n p)∨(∃t x,o.op= .box t x)∨(∃p t x y z,o.op= .binOp p t x y z)∨(∃t x y,o.op= .store t x y)∨(∃g x y,o.op= .makeFunc g x y)∨(∃t l c,o.op= .makeSlice t l c)∨(∃f xs ts,o.op= .call ⟨.value (.func f),xs,ts⟩)∨ ∃t p,o.op= .build t p:=by
 obtain⟨dst,op,type,pos,after,guard⟩:=o
 cases op with
 |slice t x lo hi mx=>exact .inr (.inl ⟨_,_,_,_,_,rfl⟩)
 |assign x=>exact .inr (.inr (.inl ⟨_,rfl⟩))
 |buildSlice t n p=>exact .inr (.inr (.inr (.inl ⟨_,_,_,rfl⟩)))
 |box t x=>exact .inr (.inr (.inr (.inr (.inl ⟨_,_,rfl⟩))))
 |binOp p t x y z=>exact .inr (.inr (.inr (.inr (.inr (.inl ⟨_,_,_,_,_,rfl⟩)))))
 |store t x y=>exact .inr (.inr (.inr (.inr (.inr (.inr (.inl ⟨_,_,_,rfl⟩))))))
 |makeFunc g x y=>exact .inr (.inr (.inr (.inr (.inr (.inr (.inr (.inl ⟨_,_,_,rfl⟩)))))))
 |build t p=>exact .inr (.inr (.inr (.inr (.inr (.inr (.inr (.inr (.inr (.inr ⟨_,_,rfl⟩)))))))))
 |makeSlice t l c=>exact .inr (.inr (.inr (.inr (.inr (.inr (.inr (.inr (.inl ⟨_,_,_,rfl⟩))))))))
 |call c=>
  obtain⟨g,xs,ts⟩:=c
  cases g with
  |value x=>
   cases x with
   |func f=>exact .inr (.inr (.inr (.inr (.inr (.inr (.inr (.inr (.inr (.inl ⟨_,_,_,rfl⟩)))))))))
   |_=>left;unfold Vh;rfl
  |_=>left;unfold Vh;rfl
 |_=>exact .inl rfl
theorem Y9{pm:Pm}{ops:Array Oper}{i:Nat}{o:Oper}{l:List Oper}{Q:Exit→Act→World→Prop}{K:Act→World→Prop}(hT:BU P E.T)(hC:Ho P E)(h:Fr E.T N gh s a w S Fs)
  (hops: ∀(j:Nat) (o:Oper),ops[j]? =some o→Mt N o)(hi:ops[i]? =some o)(hs:Hl E ops pm s (xf E.lends l o)=some s')(hK: ∀a' w',Be E.T gh N s' w S Fs a' w'→K a' w'):wpOp P ops Q i K a w:=
 Qe hT hC h hops hi hs (Qf _ _ _) hK
theorem YA{pm:Pm}{ops:Array Oper}{i:Nat}{o:Oper}{l:List Oper}{Q:Exit→Act→World→Prop}{K:Act→World→Prop}(hT:BU P E.T)(hC:Ho P E)(h:Fr E.T N gh s a w S Fs)
  (hops: ∀(j:Nat) (o:Oper),ops[j]? =some o→Mt N o)(hi:ops[i]? =some o)(hs:Hl E ops pm s (QA E.lends l o)=some s')(hK: ∀a' w',Be E.T gh N s' w S Fs a' w'→K a' w'):wpOp P ops Q i K a w:=by
 refine Qe hT hC h hops hi hs ?_ hK
 rcases Qf E.lends l o with h1|h1
 ·left;split
  ·exact h1
  ·rfl
 ·exact .inr h1
theorem Qg{ops:Array Oper}(hT:BU P E.T)(hC:Ho P E)(hops: ∀(j:Nat) (o:Oper),ops[j]? =some o→Mt N o): ∀(l:List Oper) (k:Nat) {s s':St} {a:Act} {w:World} {S:Nat→Prop} {Fs:Nat→Nat→Prop} {Q:Exit→Act→World→Prop},
  ops.toList.drop k=l→Fr E.T N gh s a w S Fs→QB E ops s l=some s'→(∀a' w',Be E.T gh N s' w S Fs a' w'→Q .normal a' w')→wpOps P ops Q (List.range' k l.length) a w:=by
 intro l
 induction l with
 |nil=>
  intro k s s' a w S Fs Q _ h hs hQ
  simp only [QB,Option.some.injEq]at hs
  subst hs
  simp only [List.length_nil,List.range'_zero,wpOps]
  exact hQ a w ⟨S,Fs,h.rel,Step.refl _ _ _,h.defs,h.size⟩
 |cons o l ih=>
  intro k s s' a w S Fs Q hl h hs hQ
  simp only [QB,Option.bind_eq_some_iff]at hs
  obtain⟨s1,h1,h2⟩:=hs
  have hk:ops[k]? =some o:=by
   have:(ops.toList.drop k)[0]? =some o:=by rw [hl];rfl
   rw [List.getElem?_drop]at this
   simpa using this
  rw [List.length_cons,List.range'_succ,wpOps_cons]
  refine Y9 hT hC h hops hk h1 (fun a' w' hp=> ?_)
  obtain⟨S',Fs',hf,hst⟩:=hp.fr h
  refine ih (k+1) ?_ hf h2 (fun a2 w2 hp2=>hQ a2 w2 (hp2.back hst))
  rw [←List.drop_drop,hl];rfl
def Mw:Ex→Exit
 | .normal=> .normal
 | .exit id=> .exit id
 | .ret=> .ret
def UN(P:Program)(E:Env):Prop:=
 ∀ {s s':St} {gh:Nat→Value} {a:Act} {w:World} {S:Nat→Prop} {Fs:Nat→Nat→Prop} {N:Nat} {ops:Array Oper} {Q:Exit→Act→World→Prop},
  Fr E.T N gh s a w S Fs→Y8 N ops=true→KZ E.lends ops.toList=true→LJ E ops ops.toList s ops.toList=some s'→(∀a' w',Be E.T gh N s' w S Fs a' w'→Q .normal a' w')→ ∀t,wpOps P ops Q (Region.schedule (P.follows .mixedOrders) ops t) a {w with drawn:=w.drawn+1}
theorem KJ{step:St→Option (Ex×St)}{s:St}{r:Ex×St}(h:QC step s=some r): ∃n,Fv step n s=some r:=by
 unfold QC at h
 split at h
 ·rename_i hx
  simp only [Option.some.injEq]at h
  subst h
  exact hx.choose_spec
 ·cases h
section
variable {T:Tys}
theorem Qh{w:World}{S:Nat→Prop}: ∀(ds:List Tmp) {s:St} {rv:Nat→Value} {Fs:Nat→Nat→Prop} (rv':Nat→Value),Rel T s rv w S Fs→(∀t,t ∉ ds→rv' t=rv t)→
  ∃Fs',Rel T (Gv s ds) rv' w S Fs'∧ ∀t k,Fs' t k→Fs t k
 | [],s,rv,Fs,rv',h,hr=>by
  have:rv'=rv:=funext fun t=>hr t (by simp)
  subst this
  exact⟨Fs,h,fun _ _ h=>h⟩
 |t::ds,s,rv,Fs,rv',h,hr=>by
  have h1:=h.put t (d:= .undef) (v:=rv' t) (F:=fun _=>False) (.undef (fun _ h=>h)) (fun u k _ hf=>hf.elim)
  obtain⟨Fs',q1,q2⟩:=Qh ds rv' h1 (fun u hu=>by
   by_cases e:u=t
   ·subst e;rw [Ae]
   ·rw [AX _ _ e];exact hr u (by simp [e,hu]))
  refine⟨Fs',q1,fun u k hk=> ?_⟩
  have:=q2 u k hk
  by_cases e:u=t
  ·subst e;rw [Ae]at this;exact this.elim
  ·rw [AX _ _ e]at this;exact this
def qQ(gh:Nat→Value)(N:Nat)(ds:List Tmp)(a a':Act):Prop:=a'.defers=[]∧a'.tmps.size=N∧ ∀u,u ∉ ds→Ad a' gh u=Ad a gh u
theorem qQ.put{gh:Nat→Value}{N:Nat}{ds:List Tmp}{a a':Act}(h:qQ gh N ds a a')(hG:N≤G){t:Tmp}(ht:t∈ds)(htN:t<N)(v:Value):qQ gh N ds a (a'.put (some t) v):=by
 refine⟨by simpa [Act.put] using h.1,by simpa [Act.put] using h.2.1,fun u hu=> ?_⟩
 rw [LM h.2.1 htN hG,AX _ _ (fun e=>hu (by rw [e];exact ht))]
 exact h.2.2 u hu
structure FarW(w w':World):Prop where
 os:w'.os=w.os
 tape:w'.tape=w.tape
 output:w'.output=w.output
 size:w.heap.size≤w'.heap.size
 heap: ∀k,k<w.heap.size→w'.heap[k]? =w.heap[k]?
theorem FarW.setBlock{w w':World}(h:FarW w w'){r:Nat}(hr:w.heap.size≤r)(o:Obj):FarW w (ChangeMaps.setBlock w' r o):=
 ⟨h.os,h.tape,h.output,by simpa [ChangeMaps.setBlock] using h.size,fun k hk=>by rw [←h.heap k hk];simp [ChangeMaps.setBlock,Array.getElem?_setIfInBounds,show r≠k by omega]⟩
theorem FarW.drew{w w':World}(h:FarW w w'):FarW w w'.drew:=⟨h.os,h.tape,h.output,h.size,h.heap⟩
theorem Qi{N:Nat}{gh:Nat→Value}{s:St}{a a':Act}{w w':World}{S:Nat→Prop}{Fs:Nat→Nat→Prop}(h:Fr T N gh s a w S Fs){ds:List Tmp}(ha:qQ gh N ds a a')(hw:FarW w w'):Be T gh N (Gv s ds) w S Fs a' w':=by
 have h1:=h.rel.grow hw.heap hw.size
 obtain⟨Fs',q1,q2⟩:=Qh ds (Ad a' gh) h1 ha.2.2
 exact⟨S,Fs',q1,⟨hw.os,hw.tape,hw.output,hw.size,fun k hk _=>hw.heap k hk,fun _ h=>h,fun _ h=> .inl h,fun u k hk=> .inl ⟨u,q2 u k hk⟩⟩,ha.1,ha.2.1⟩
end
theorem J2{ops:Array Oper}{i:Nat}{o:Oper}{Q:Exit→Act→World→Prop}{K:Act→World→Prop}{v:Value}(hi:ops[i]? =some o)(hg:o.guard=none)(hr:(execOp a.eval o).run P w= .ok (.value v) w')(h:K (a.put o.dst v) w'):wpOp P ops Q i K a w:=by
 unfold wpOp
 simp only [hi]
 have hw:Region.wanted o (yielded ops a.tmps)=true:=by simp [Region.wanted,hg]
 rw [if_pos hw]
 exact .inl (Ai hr h)
def dh(o:Oper)(d:Tmp)(op:Op):Prop:=o.dst=some d∧o.op=op∧o.guard=none
theorem KL{c:Code}{l:List (Option Tmp×Op×Bool)}(h:QD c=some l): ∃id ops,c= .region id ops false∧ops.toList.map (fun o=>(o.dst,o.op,o.guard.isNone))=l:=by
 unfold QD at h
 split at h
 ·exact⟨_,_,rfl,by simpa using h⟩
 ·cases h
theorem Jw{o:Oper}{d:Tmp}{op:Op}(h:(o.dst,o.op,o.guard.isNone)=(some d,op,true)):dh o d op:=by
 simp only [Prod.mk.injEq,Option.isNone_iff_eq_none]at h
 exact⟨h.1,h.2.1,h.2.2⟩
theorem A6T{α β:Type}{f:α→β}{l:List α}{b:β}(h:l.map f=[b]): ∃x,l=[x]∧f x=b:=by
 rcases l with _|⟨x,_|⟨_,_⟩⟩<;>simp at h
 exact⟨x,rfl,h⟩
theorem qR{α β:Type}{f:α→β}{l:List α}{b c:β}(h:l.map f=[b,c]): ∃x y,l=[x,y]∧f x=b∧f y=c:=by
 rcases l with _|⟨x,_|⟨y,_|⟨_,_⟩⟩⟩<;>simp at h
 exact⟨x,y,rfl,h.1,h.2⟩
theorem A6U{α β:Type}{f:α→β}{l:List α}{b c d:β}(h:l.map f=[b,c,d]): ∃x y z,l=[x,y,z]∧f x=b∧f y=c∧f z=d:=by
 rcases l with _|⟨x,_|⟨y,_|⟨z,_|⟨_,_⟩⟩⟩⟩<;>simp at h
 exact⟨x,y,z,rfl,h.1,h.2.1,h.2.2⟩
theorem dm{x y:Code}{q:AnyI}(h:Vi x y=some q): ∃(i8 i9 ia ib ic bid bid2:Nat) (A8 A9 Aa Ab Ac:Array Oper) (o1 o2 o3 o4 o5 o6 o7 o8 o9 o10:Oper) (ty:TypeId),
  x= .region i8 A8 false∧y= .block bid (.loop (.seq (.region i9 A9 false) (.seq (.cond (.tmp q.n1) .skip (.exit bid)) (.block bid2 (.seq (.region ia Aa false) (.seq (.region ib Ab false) (.cond (.tmp q.c) (.seq (.region ic Ac false) .ret) .skip)))))))∧
  A8.toList=[o1,o2]∧A9.toList=[o3,o4]∧Aa.toList=[o5,o6,o7]∧Ab.toList=[o8,o9]∧Ac.toList=[o10]∧
  dh o1 q.d0 (.move (.tmp q.m))∧dh o2 q.d1 (.range q.tm (.tmp q.d0))∧dh o3 q.n0 (.next (.tmp q.d1) false)∧dh o4 q.n1 (.extract (.tmp q.n0) 0)∧dh o5 q.e0 (.entry (.tmp q.d1))∧dh o6 q.e1 (.extract (.tmp q.e0) 1)∧dh o7 q.v (.assign (.tmp q.e1))∧
  dh o8 q.x (.move (.tmp q.v))∧dh o9 q.c (.binOp .eql q.t3 (.tmp q.x) (.const (.int .i64 q.cst)) ty)∧dh o10 q.r (.assign (.const (.bool q.bb)))∧(q.m::q.ds).Nodup:=by
 unfold Vi at h
 split at h
 ·rename_i bid lp
  split at h
  ·rename_i r9 n1' b' r10 r11 c' r12 hb
   split at h
   ·rename_i h8 h9 ha hbb hc
    split at h
    ·rename_i hcond
     obtain⟨rfl,rfl,rfl,rfl,rfl,rfl,rfl,rfl,rfl,rfl,rfl,hnd⟩:=hcond
     simp only [Option.some.injEq]at h
     subst h
     unfold ZZ at hb
     split at hb
     ·simp only [Option.some.injEq,Prod.mk.injEq]at hb
      obtain⟨rfl,rfl,rfl,rfl,rfl,rfl,rfl⟩:=hb
      obtain⟨i8,A8,rfl,e8⟩:=KL h8
      obtain⟨i9,A9,rfl,e9⟩:=KL h9
      obtain⟨ia,Aa,rfl,ea⟩:=KL ha
      obtain⟨ib,Ab,rfl,eb⟩:=KL hbb
      obtain⟨ic,Ac,rfl,ec⟩:=KL hc
      obtain⟨o1,o2,l8,f1,f2⟩:=qR e8
      obtain⟨o3,o4,l9,f3,f4⟩:=qR e9
      obtain⟨o5,o6,o7,la,f5,f6,f7⟩:=A6U ea
      obtain⟨o8,o9,lb,f8,f9⟩:=qR eb
      obtain⟨o10,lc,f10⟩:=A6T ec
      exact⟨i8,i9,ia,ib,ic,_,_,A8,A9,Aa,Ab,Ac,o1,o2,o3,o4,o5,o6,o7,o8,o9,o10,_,rfl,rfl,l8,l9,la,lb,lc,Jw f1,Jw f2,Jw f3,Jw f4,Jw f5,Jw f6,Jw f7,Jw f8,Jw f9,Jw f10,hnd⟩
     ·cases hb
    ·cases h
   ·cases h
  ·cases h
 ·cases h
theorem FM{α:Type}{A:Array α}{l:List α}(h:A.toList=l)(i:Nat):A[i]? =l[i]? :=by rw [←h,Array.getElem?_toList]
theorem KM{α:Type}{A:Array α}{l:List α}(h:A.toList=l):A.size=l.length:=by rw [←h,Array.length_toList]
theorem Dm{a:Act}(hN:a.tmps.size=N)(hG:N≤G){t:Tmp}(ht:t<N)(v:Value):(a.put (some t) v).eval (.tmp t)=v:=by
 rw [CV (gh:=fun _=>undef) hG ht,LM hN ht hG,Ae]
theorem IW{a:Act}(hN:a.tmps.size=N)(hG:N≤G){t u:Tmp}(ht:t<N)(h:u≠t)(v:Value):Ad (a.put (some t) v) gh u=Ad a gh u:=by
 rw [LM hN ht hG,AX _ _ h]
theorem WI{ents:Array MapEntry}{Bc:Array Nat}{e:MapEntry}(h:e∈(leftOf ents Bc).toList):e∈ents.toList∧e.born ∉ Bc:=by
 unfold leftOf at h
 simpa using h
theorem jm{ents:Array MapEntry}{Bc:Array Nat}{e:MapEntry}(h:e∈(leftOf ents Bc).toList):(leftOf ents (Bc.push e.born)).size<(leftOf ents Bc).size:=by
 obtain⟨h1,h2⟩:=WI h
 have hs: ∀sn:Array Nat,(leftOf ents sn).size=ents.toList.countP (fun e=> !sn.contains e.born):=fun sn=>by
  unfold leftOf
  rw [List.countP_eq_length_filter,←Array.toList_filter,Array.length_toList]
 rw [hs,hs]
 have key: ∀l:List MapEntry,e∈l→l.countP (fun e_1=> !(Bc.push e.born).contains e_1.born)<l.countP (fun e=> !Bc.contains e.born):=by
  intro l
  induction l with
  |nil=>intro hm;cases hm
  |cons x l ih=>
   intro hm
   have hle:l.countP (fun e_1=> !(Bc.push e.born).contains e_1.born)≤l.countP (fun e=> !Bc.contains e.born):=List.countP_mono_left fun x _ hx=>by
    simp at hx ⊢
    exact hx.1
   rw [List.countP_cons,List.countP_cons]
   rcases List.mem_cons.1 hm with rfl|hm
   ·have e1:(!(Bc.push e.born).contains e.born)=false:=by simp
    have e2:(!Bc.contains e.born)=true:=by simpa using h2
    rw [e1,e2,if_neg (by decide),if_pos rfl];omega
   ·have:=ih hm
    have hx:((!(Bc.push e.born).contains x.born)=true→(!Bc.contains x.born)=true):=fun hx=>by
     simp at hx ⊢
     exact hx.1
    by_cases c1:(!(Bc.push e.born).contains x.born)=true
    ·rw [if_pos c1,if_pos (hx c1)];omega
    ·rw [if_neg c1];omega
 exact key _ h1
theorem aW{T:Tys}(hT:BU P T){x y:Code}{q:AnyI}(hq:Vi x y=some q)(h:Fr T N gh s a w S Fs)(hk:(DU N x&&DU N y)=true){ex:Ex}(he:M9 T s q=some (ex,s')):
  (Code.seq x y).wp P (fun e a' w'=>e=Mw ex∧Be T gh N s' w S Fs a' w') a w:=by
 obtain⟨i8,i9,ia,ib,ic,bid,bid2,A8,A9,Aa,Ab,Ac,o1,o2,o3,o4,o5,o6,o7,o8,o9,o10,ty,rfl,rfl,l8,l9,la,lb,lc,f1,f2,f3,f4,f5,f6,f7,f8,f9,f10,hnd⟩:=dm hq
 have hG:=h.small
 have hsz:=h.size
 simp only [DU,Y8,l8,l9,la,lb,lc,List.all_cons,List.all_nil,Zb,f1.1,f2.1,f3.1,f4.1,f5.1,f6.1,f7.1,f8.1,f9.1,f10.1,f1.2.1,Op.operands,Qc,Bool.and_true,Bool.and_eq_true,decide_eq_true_eq]at hk
 obtain⟨⟨⟨hd0,hm⟩,hd1,_⟩,⟨⟨hn0,_⟩,hn1,_⟩,_,⟨⟨he0,_⟩,⟨he1,_⟩,hv,_⟩,⟨⟨hx,_⟩,hc,_⟩,_,hr⟩:=hk
 simp only [AnyI.ds,List.nodup_cons,List.mem_cons,List.not_mem_nil,or_false,not_or]at hnd
 obtain⟨_,_,⟨g1,g2,g3,g4,g5,g6,g7⟩,_⟩:=hnd
 unfold M9 at he
 split at he
 rotate_left
 ·cases he
 rename_i k0 e0 k e es htm hsm ht3
 split at he
 rotate_left
 ·cases he
 rename_i hnum
 have hW:=h.rel.val q.m
 rw [hsm]at hW
 generalize hvm:Ad a gh q.m=vm at hW
 cases hW with
 |mp hka hea hb hes hl hB hF hSb=>
 rename_i b clock ents ka kn ea en
 rw [hnum]at hea
 injection hea with hea
 injection hea with hea1 hea2
 subst hea1 hea2
 have hbl:=Gw hb
 have hvals: ∀z∈ents.toList,∃n:Int,z.val= .int .i64 n∧ ∃p∈es,p.2=[n]:=by
  intro z hz
  have hm:(z.key,z.val)∈es.map (fun p=>(Bi ka p.1,Bi false p.2)):=by rw [←hes];exact List.mem_map.2 ⟨z,hz,rfl⟩
  obtain⟨p,hp,he2⟩:=List.mem_map.1 hm
  have hlp:=(hl p hp).2
  obtain⟨n,hn⟩: ∃n,p.2=[n]:=by
   rcases hpp:p.2 with _|⟨n,_|⟨_,_⟩⟩<;>rw [hpp]at hlp<;>simp at hlp
   exact⟨n,rfl⟩
  refine⟨n, ?_,p,hp,hn⟩
  have:=congrArg Prod.snd he2
  simp only [hn]at this
  rw [←this];rfl
 have hany:es.any (fun p=>p.2==[q.cst])=true→ ∃z∈ents.toList,z.val= .int .i64 q.cst:=by
  intro ha
  obtain⟨p,hp,hpc⟩:=List.any_eq_true.1 ha
  have hpc:p.2=[q.cst]:=by simpa using hpc
  have hm:(Bi ka p.1,Bi false p.2)∈ents.toList.map (fun x=>(x.key,x.val)):=by rw [hes];exact List.mem_map.2 ⟨p,hp,rfl⟩
  obtain⟨z,hz,he2⟩:=List.mem_map.1 hm
  refine⟨z,hz, ?_⟩
  have:=congrArg Prod.snd he2
  simp only [hpc]at this
  rw [this];rfl
 have hevm:a.eval (.tmp q.m)= .map (some b):=by rw [CV (gh:=gh) hG hm];exact hvm
 refine wp_seq ?_
 refine wp_region ?_
 rw [KM l8]
 show wpOps P A8 _ [0,1] a w
 rw [wpOps_cons]
 refine J2 (o:=o1) (v:= .map (some b)) (w':=w) (by rw [FM l8];rfl) f1.2.2 (by simp [execOp,f1.2.1,hevm]) ?_
 rw [f1.1,wpOps_cons]
 have hag0:qQ gh N q.ds a a:=⟨h.defs,hsz,fun _ _=>rfl⟩
 have hag1:=hag0.put hG (t:=q.d0) (by simp [AnyI.ds]) hd0 (.map (some b))
 have hev1:=Dm (a:=a) hsz hG hd0 (.map (some b))
 have hrng:=run_range_map (P:=P) w q.tm k0 e0 b ents clock (JJ hT htm) hb
 refine J2 (o:=o2) (v:= .pointer (some ⟨w.heap.size,0,none⟩)) (w':=w.alloc (.mapIter (some b) clock #[] clock)) (by rw [FM l8];rfl) f2.2.2 (by simp [execOp,f2.2.1,hev1,hrng]) ?_
 rw [f2.1]
 have hag2:=hag1.put hG (t:=q.d1) (by simp [AnyI.ds]) hd1 (.pointer (some ⟨w.heap.size,0,none⟩))
 have hfar:FarW w (w.alloc (.mapIter (some b) clock #[] clock)):=⟨rfl,rfl,rfl,NP w _,fun k hk=>heap_alloc_old w _ hk⟩
 show(Code.block bid _).wp P _ _ _
 refine wp_block ?_
 refine wp_loop_rounds (ents.size+1) ?_
 have key: ∀(n:Nat) (a':Act) (w':World) (Bc:Array Nat) (c0:Nat),(leftOf ents Bc).size≤n→qQ gh N q.ds a a'→FarW w w'→Ad a' gh q.d1= .pointer (some ⟨w.heap.size,0,none⟩)→w'.heap[w.heap.size]? =some (.mapIter (some b) clock Bc c0)→clock≤c0→
   (∀z∈ents.toList,z.born∈Bc→z.val≠ .int .i64 q.cst)→
   Code.rounds P (.seq (.region i9 A9 false) (.seq (.cond (.tmp q.n1) .skip (.exit bid)) (.block bid2 (.seq (.region ia Aa false) (.seq (.region ib Ab false) (.cond (.tmp q.c) (.seq (.region ic Ac false) .ret) .skip))))))
    (Exit.inBlock bid (fun e a' w'=>e=Mw ex∧Be T gh N s' w S Fs a' w')) (n+1) a' w':=by
  intro n
  induction n using Nat.strongRecOn with
  |_ n ih=>
  intro a' w' Bc c0 hleft hag hfw hptr hit hc0 hseen
  have hbm:w'.heap[b]? =some (.map ents clock):=by rw [hfw.heap b hbl];exact hb
  have hsz':=hag.2.1
  rw [rounds_succ]
  refine wp_seq ?_
  refine wp_region ?_
  rw [KM l9]
  show wpOps P A9 _ [0,1] a' w'
  rw [wpOps_cons]
  have hev:a'.eval (.tmp q.d1)= .pointer (some ⟨w.heap.size,0,none⟩):=by rw [CV (gh:=gh) hG hd1];exact hptr
  rcases run_next_at (P:=P) w' o3.type w.heap.size b clock c0 Bc ents clock hit hbm hB.1 hc0 with⟨hz,hrun⟩|⟨z,hzl,w1,hw1,hrun⟩
  ·refine J2 (o:=o3) (v:= .tuple #[.bool false]) (w':=w') (by rw [FM l9];rfl) f3.2.2 (by simp [execOp,f3.2.1,hev,hrun]) ?_
   rw [f3.1,wpOps_cons]
   have hg3:=hag.put hG (t:=q.n0) (by simp [AnyI.ds]) hn0 (.tuple #[.bool false])
   have hev3:=Dm (a:=a') hsz' hG hn0 (.tuple #[.bool false])
   refine J2 (o:=o4) (v:= .bool false) (w':=w') (by rw [FM l9];rfl) f4.2.2 (by simp [execOp,f4.2.1,hev3,Instr.extract]) ?_
   rw [f4.1]
   have hg4:=hg3.put hG (t:=q.n1) (by simp [AnyI.ds]) hn1 (.bool false)
   have hev4:=Dm (a:=a'.put (some q.n0) (.tuple #[.bool false])) hg3.2.1 hG hn1 (.bool false)
   refine wp_seq ?_
   refine wp_cond hev4 ?_
   refine wp_exit ?_
   show(if bid=bid then _ else _)
   rw [if_pos rfl]
   have hno: ¬es.any (fun p=>p.2==[q.cst])=true:=by
    intro ha
    obtain⟨z,hz1,hz2⟩:=hany ha
    refine hseen z hz1 ?_ hz2
    have hn:z ∉ (leftOf ents Bc).toList:=by
     have:(leftOf ents Bc).toList=[]:=by rw [←List.length_eq_zero_iff,Array.length_toList];exact hz
     rw [this];exact List.not_mem_nil
    unfold leftOf at hn
    simp at hn
    exact hn (by simpa using hz1)
   rw [if_neg hno]at he
   simp only [Option.some.injEq,Prod.mk.injEq]at he
   obtain⟨rfl,rfl⟩:=he
   exact⟨rfl,Qi h hg4 hfw⟩
  ·obtain⟨hz1,hz2⟩:=WI hzl
   obtain⟨y,hy,p,hp,hpy⟩:=hvals z hz1
   have hlt:=jm hzl
   let w2:=ChangeMaps.setBlock w1 w.heap.size (.mapIter (some b) clock (Bc.push z.born) clock)
   have hfw1:FarW w w1:=by rcases hw1 with rfl|rfl;exact hfw;exact hfw.drew
   have hfw2:FarW w w2:=hfw1.setBlock (Nat.le_refl _) _
   have hit2:w2.heap[w.heap.size]? =some (.mapIter (some b) clock (Bc.push z.born) clock):=by
    have hl1:w.heap.size<w1.heap.size:=by
     have:w.heap.size<w'.heap.size:=Gw hit
     rcases hw1 with rfl|rfl<;>exact this
    simp [w2,ChangeMaps.setBlock,Array.getElem?_setIfInBounds,hl1]
   have hbm2:w2.heap[b]? =some (.map ents clock):=by rw [hfw2.heap b hbl];exact hb
   refine J2 (o:=o3) (v:= .tuple #[.bool true,z.key,z.val]) (w':=w2) (by rw [FM l9];rfl) f3.2.2 (by simp [execOp,f3.2.1,hev,hrun,w2]) ?_
   rw [f3.1,wpOps_cons]
   have hg3:=hag.put hG (t:=q.n0) (by simp [AnyI.ds]) hn0 (.tuple #[.bool true,z.key,z.val])
   have hev3:=Dm (a:=a') hsz' hG hn0 (.tuple #[.bool true,z.key,z.val])
   refine J2 (o:=o4) (v:= .bool true) (w':=w2) (by rw [FM l9];rfl) f4.2.2 (by simp [execOp,f4.2.1,hev3,Instr.extract]) ?_
   rw [f4.1]
   have hg4:=hg3.put hG (t:=q.n1) (by simp [AnyI.ds]) hn1 (.bool true)
   have hev4:=Dm (a:=a'.put (some q.n0) (.tuple #[.bool true,z.key,z.val])) hg3.2.1 hG hn1 (.bool true)
   refine wp_seq ?_
   refine wp_cond hev4 ?_
   refine wp_skip ?_
   show(Code.block bid2 _).wp P _ _ _
   refine wp_block ?_
   refine wp_seq ?_
   refine wp_region ?_
   rw [KM la]
   show wpOps P Aa _ [0,1,2] _ w2
   rw [wpOps_cons]
   generalize ha4:(a'.put (some q.n0) (.tuple #[.bool true,z.key,z.val])).put (some q.n1) (.bool true)=a4 at hg4 ⊢
   have hp4:Ad a4 gh q.d1= .pointer (some ⟨w.heap.size,0,none⟩):=by
    rw [←ha4,IW hg3.2.1 hG hn1 g2,IW hsz' hG hn0 g1];exact hptr
   have hevd:a4.eval (.tmp q.d1)= .pointer (some ⟨w.heap.size,0,none⟩):=by rw [CV (gh:=gh) hG hd1];exact hp4
   have hent:=run_entry_at (P:=P) w2 w.heap.size b clock Bc ents clock z hit2 hbm2 hz1 hB.2
   refine J2 (o:=o5) (v:= .tuple #[z.key,z.val]) (w':=w2) (by rw [FM la];rfl) f5.2.2 (by simp [execOp,f5.2.1,hevd,hent]) ?_
   rw [f5.1,wpOps_cons]
   have hg5:=hg4.put hG (t:=q.e0) (by simp [AnyI.ds]) he0 (.tuple #[z.key,z.val])
   have hev5:=Dm (a:=a4) hg4.2.1 hG he0 (.tuple #[z.key,z.val])
   have hp5:=(IW (gh:=gh) hg4.2.1 hG he0 g3 (.tuple #[z.key,z.val])).trans hp4
   generalize a4.put (some q.e0) (.tuple #[z.key,z.val])=a5 at hg5 hev5 hp5 ⊢
   refine J2 (o:=o6) (v:= .int .i64 y) (w':=w2) (by rw [FM la];rfl) f6.2.2 (by simp [execOp,f6.2.1,hev5,Instr.extract,hy]) ?_
   rw [f6.1,wpOps_cons]
   have hg6:=hg5.put hG (t:=q.e1) (by simp [AnyI.ds]) he1 (.int .i64 y)
   have hev6:=Dm (a:=a5) hg5.2.1 hG he1 (.int .i64 y)
   have hp6:=(IW (gh:=gh) hg5.2.1 hG he1 g4 (.int .i64 y)).trans hp5
   generalize a5.put (some q.e1) (.int .i64 y)=a6 at hg6 hev6 hp6 ⊢
   refine J2 (o:=o7) (v:= .int .i64 y) (w':=w2) (by rw [FM la];rfl) f7.2.2 (by simp [execOp,f7.2.1,hev6]) ?_
   rw [f7.1]
   have hg7:=hg6.put hG (t:=q.v) (by simp [AnyI.ds]) hv (.int .i64 y)
   have hev7:=Dm (a:=a6) hg6.2.1 hG hv (.int .i64 y)
   have hp7:=(IW (gh:=gh) hg6.2.1 hG hv g5 (.int .i64 y)).trans hp6
   generalize a6.put (some q.v) (.int .i64 y)=a7 at hg7 hev7 hp7 ⊢
   show(Code.seq _ _).wp P _ a7 w2
   refine wp_seq ?_
   refine wp_region ?_
   rw [KM lb]
   show wpOps P Ab _ [0,1] _ w2
   rw [wpOps_cons]
   refine J2 (o:=o8) (v:= .int .i64 y) (w':=w2) (by rw [FM lb];rfl) f8.2.2 (by simp [execOp,f8.2.1,hev7]) ?_
   rw [f8.1,wpOps_cons]
   have hg8:=hg7.put hG (t:=q.x) (by simp [AnyI.ds]) hx (.int .i64 y)
   have hev8:=Dm (a:=a7) hg7.2.1 hG hx (.int .i64 y)
   have hp8:=(IW (gh:=gh) hg7.2.1 hG hx g6 (.int .i64 y)).trans hp7
   generalize a7.put (some q.x) (.int .i64 y)=a8 at hg8 hev8 hp8 ⊢
   have hbin:(binOp .eql q.t3 (.int .i64 y) (.int .i64 q.cst)).run P w2= .ok (.bool (y==q.cst)) w2:=by
    obtain⟨v,hv1,hv2⟩:=QN (P:=P) (T:=T) (t:=q.t3) (op:= .eql) (k:= .i64) (k':= .i64) (x:=y) (y:=q.cst) (r:= .bool (y==q.cst)) w2 rfl
    have hv3:=hv2 S V0 Fj
    cases hv3
    exact hv1
   have hgd:(eqGuard .eql q.t3 (.tmp q.x) (.const (.int .i64 q.cst)) (.int .i64 y) (.int .i64 q.cst)).run P w2= .ok () w2:=rfl
   have hec:a8.eval (.const (.int .i64 q.cst))= .int .i64 q.cst:=rfl
   refine J2 (o:=o9) (v:= .bool (y==q.cst)) (w':=w2) (by rw [FM lb];rfl) f9.2.2 (by simp [execOp,f9.2.1,hev8,hec,hgd,hbin]) ?_
   rw [f9.1]
   have hg9:=hg8.put hG (t:=q.c) (by simp [AnyI.ds]) hc (.bool (y==q.cst))
   have hev9:=Dm (a:=a8) hg8.2.1 hG hc (.bool (y==q.cst))
   have hp9:=(IW (gh:=gh) hg8.2.1 hG hc g7 (.bool (y==q.cst))).trans hp8
   generalize a8.put (some q.c) (.bool (y==q.cst))=a9 at hg9 hev9 hp9 ⊢
   show(Code.cond _ _ _).wp P _ a9 w2
   refine wp_cond hev9 ?_
   by_cases hyc:y=q.cst
   ·subst hyc
    have hyes:es.any (fun p=>p.2==[q.cst])=true:=List.any_eq_true.2 ⟨p,hp,by rw [hpy];simp⟩
    rw [if_pos hyes]at he
    simp only [Option.some.injEq,Prod.mk.injEq]at he
    obtain⟨rfl,rfl⟩:=he
    rw [if_pos (by simp)]
    refine wp_seq ?_
    refine wp_region ?_
    rw [KM lc]
    show wpOps P Ac _ [0] _ w2
    rw [wpOps_cons]
    have hec2:a9.eval (.const (.bool q.bb))= .bool q.bb:=rfl
    refine J2 (o:=o10) (v:= .bool q.bb) (w':=w2) (by rw [FM lc];rfl) f10.2.2 (by simp [execOp,f10.2.1,hec2]) ?_
    rw [f10.1]
    show Code.ret.wp P _ _ w2
    refine wp_ret ?_
    show _∧_
    refine⟨rfl, ?_⟩
    obtain⟨S',Fs',q1,q2,q3,q4⟩:=Qi h hg9 hfw2
    have hf:Fr T N gh (Gv s q.ds) a9 w2 S' Fs':=⟨q1,q3,q4,hG,h.inv.step h.rel q2⟩
    obtain⟨S2,Fs2,r1,r2,r3,r4⟩:=Ag hf (dst:=some q.r) (d:= .bool q.bb) (v:= .bool q.bb) (fun t ht=>by injection ht with ht;subst ht;exact hr.1) (F:=fun _=>False) (.bool (fun _ h=>h)) (fun _ h=>h)
    exact⟨S2,Fs2,r1,q2.trans r2,r3,r4⟩
   ·rw [if_neg (by simpa using hyc)]
    refine wp_skip ?_
    have hn1':n-1+1=n:=by omega
    show Code.rounds P _ _ n a9 w2
    have:=ih (n-1) (by omega) a9 w2 (Bc.push z.born) clock (by omega) hg9 hfw2 hp9 hit2 (Nat.le_refl _) (fun u hu hub=>by
     rw [Array.mem_push]at hub
     rcases hub with hub|hub
     ·exact hseen u hu hub
     ·have:u=z:=by
       have h1:=find_born u ents.toList hB.2 hu
       have h2:=find_born z ents.toList hB.2 hz1
       rw [hub,h2]at h1
       injection h1 with h1
       exact h1.symm
      subst this
      rw [hy]
      intro hc
      injection hc with _ hc
      exact hyc hc)
    rwa [hn1']at this
 refine key ents.size _ _ #[] clock ?_ hag2 hfar ?_ (heap_alloc_new w _) (Nat.le_refl _) (fun z _ hz=>by simp at hz)
 ·unfold leftOf;exact Array.size_filter_le
 ·rw [LM hag1.2.1 hd1 hG,Ae]
theorem aX{o:Oper}{a:Act}{w:World}{K K':Act→World→Prop}{Q Q':Exit→Act→World→Prop}(hQ: ∀e a w,e≠ .normal→Q e a w→Q' e a w)
  (hK: ∀a' w',(∀u,o.dst≠some u→a'.tmps[u]? =a.tmps[u]?)→K a' w'→K' a' w')(hh:o.wp P a w K Q):o.wp P a w K' Q':=by
 have hp: ∀(b:Act) (v:Value),b.tmps=a.tmps→ ∀u,o.dst≠some u→(b.put o.dst v).tmps[u]? =a.tmps[u]? :=fun b v hb u hu=>by
  cases hd:o.dst with
  |none=>simp only [Act.put];rw [hb]
  |some d=>
   have:d≠u:=fun e=>hu (by rw [hd,e])
   simp only [Act.put]
   rw [hb,Array.getElem?_setIfInBounds,if_neg this]
 unfold Oper.wp at*
 generalize (execOp a.eval o).run P w=r at*
 cases r with
 |ok n w'=>
  cases n<;>simp only [Oper.upon]at hh ⊢
  ·exact hK _ _ (hp _ _ rfl) hh
  all_goals first
   |exact hK _ _ (hp _ _ rfl) hh
   |exact Calls.mono hh (fun e w'' he=>by
     cases e with
     |returned v=>exact hK _ _ (hp _ _ rfl) he
     |panicked chain=>exact hQ _ _ _ (by simp) he
     |outgrown=>obtain⟨a0,w0,hq⟩:=he;exact⟨a0,w0,hQ _ _ _ (by simp) hq⟩)
   |exact Rows.mono hh (fun _ _ he=>hK _ _ (hp _ _ rfl) he)
 |halt x w'=>cases x<;>simp only [Oper.upon]at hh ⊢ <;>first|exact hh|exact hQ _ _ _ (by simp) hh
theorem Ik{ops:Array Oper}{Q:Exit→Act→World→Prop}{ds:List Tmp}(hds: ∀(i:Nat) (o:Oper) (d:Tmp),ops[i]? =some o→o.dst=some d→d∈ds){a0:Act}: ∀(l:List Nat) (a:Act) (w:World),(∀u,u ∉ ds→a.tmps[u]? =a0.tmps[u]?)→wpOps P ops Q l a w→
  wpOps P ops (fun e a' w'=>Q e a' w'∧(e= .normal→ ∀u,u ∉ ds→a'.tmps[u]? =a0.tmps[u]?)) l a w
 | [],a,w,ha,h=>⟨h,fun _=>ha⟩
 |i::rest,a,w,ha,h=>by
  rw [wpOps_cons]at h ⊢
  unfold wpOp at h ⊢
  cases ho:ops[i]? with
  |none=>simp only [ho]at h ⊢;exact Ik hds rest a w ha h
  |some o=>
   simp only [ho]at h ⊢
   have hn: ∀e a' w',e≠Exit.normal→Q e a' w'→Q e a' w'∧(e= .normal→ ∀u,u ∉ ds→a'.tmps[u]? =a0.tmps[u]?):=fun e a' w' he hq=>⟨hq,fun h=>absurd h he⟩
   have hs: ∀a':Act,(∀u,o.dst≠some u→a'.tmps[u]? =a.tmps[u]?)→ ∀u,u ∉ ds→a'.tmps[u]? =a0.tmps[u]? :=fun a' hf u hu=>by
    rw [hf u (fun e=>hu (hds i o u ho e))];exact ha u hu
   split
   ·rename_i hw
    rw [if_pos hw]at h
    rcases h with h|⟨hk,a1,w1,hq⟩
    ·exact .inl (aX hn (fun a' w' hf hk=>Ik hds rest a' w' (hs a' hf) hk) h)
    ·exact .inr ⟨hk,a1,w1,hn _ _ _ (by simp) hq⟩
   ·rename_i hw
    rw [if_neg hw]at h
    refine Ik hds rest _ w (hs _ (fun u hu=> ?_)) h
    cases hd:o.dst with
    |none=>rfl
    |some d=>
     have:d≠u:=fun e=>hu (by rw [hd,e])
     simp only [Act.put]
     rw [Array.getElem?_setIfInBounds,if_neg this]
theorem dn{T:Tys}{s:St}{rv:Nat→Value}{w:World}{S:Nat→Prop}{Fs:Nat→Nat→Prop}(h:Rel T s rv w S Fs):Rel T (IU s) rv w (fun k=>S k∨ ∃u,Fs u k) (fun _ _=>False):=by
 refine⟨fun t=> ?_,fun _ _ _ _ hf=>hf.elim,fun k hk=> ?_⟩
 ·show WR T (IU s) rv w _ (dM (s.v t)) (rv t) (fun _=>False)
  unfold dM
  cases hf:CZ (s.v t)with
  |none=>exact .undef (fun _ h=>h)
  |some d'=>exact((h.val t).freeze d' hf (S':=fun k=>S k∨ ∃u,Fs u k) (fun k hk=> .inr ⟨t,hk⟩) (fun k hk=> .inl hk)).up
 ·rcases hk with hk|⟨u,hk⟩
  ·exact h.lt k hk
  ·exact(h.val u).lt k hk
theorem dw{gh:Nat→Value}{a a':Act}{u:Nat}(h:a'.tmps[u]? =a.tmps[u]?):Ad a' gh u=Ad a gh u:=by
 unfold Ad
 rw [Array.getD_eq_getD_getElem?,Array.getD_eq_getD_getElem?,h]
theorem YB(hT:BU P E.T)(hC:Ho P E)(hD:UN P E){x y:Code}{q:List Tmp×Tmp}(hq:QE x y=some q)(h:Fr E.T N gh s a w S Fs)(hk:(DU N x&&DU N y)=true){ex:Ex}
  (he:J7 s q.1 q.2 (match Cj E x (IU s)with|some (.normal,s1)=>Cj E y s1|_=>none)=some (ex,s')):
  (Code.seq x y).wp P (fun e a' w'=>e=Mw ex∧Be E.T gh N s' w S Fs a' w') a w:=by
 unfold QE at hq
 split at hq
 ·rename_i i1 A i2 B
  split at hq
  ·rename_i o ho
   rw [Option.map_eq_some_iff]at hq
   obtain⟨g,_,rfl⟩:=hq
   simp only at he
   rw [Bool.and_eq_true]at hk
   obtain⟨hkx,hky⟩:=hk
   simp only [DU]at hkx hky
   have hA: ∀(i:Nat) (o:Oper) (d:Tmp),A[i]? =some o→o.dst=some d→d∈(A.toList++B.toList).filterMap (·.dst):=fun i o d ho hd=>
    List.mem_filterMap.2 ⟨o,List.mem_append_left _ (by simpa using Array.mem_of_getElem? ho),hd⟩
   have hB: ∀(i:Nat) (o:Oper) (d:Tmp),B[i]? =some o→o.dst=some d→d∈(A.toList++B.toList).filterMap (·.dst):=fun i o d ho hd=>
    List.mem_filterMap.2 ⟨o,List.mem_append_right _ (by simpa using Array.mem_of_getElem? ho),hd⟩
   generalize (A.toList++B.toList).filterMap (·.dst)=ds at he hA hB
   simp only [Cj,if_true,Bool.false_eq_true,if_false]at he
   by_cases hdr:KZ E.lends A.toList=true
   case neg=>simp [hdr,J7]at he
   rw [if_pos hdr]at he
   cases h1:LJ E A A.toList (IU s) A.toList with
   |none=>simp [h1,J7]at he
   |some s1=>
    simp only [h1,Option.map_some]at he
    cases h2:QB E B s1 B.toList with
    |none=>simp [h2,J7]at he
    |some s2=>
     simp only [h2,Option.map_some,J7]at he
     have hf0:Fr E.T N gh (IU s) a w (fun k=>S k∨ ∃u,Fs u k) (fun _ _=>False):=⟨dn h.rel,h.defs,h.size,h.small,h.inv.more (fun k hk=> .inl hk) (fun _ _=>rfl)⟩
     refine wp_seq ?_
     refine wp_mono (wp_region_draw fun t=>Ik hA _ a _ (fun _ _=>rfl) (hD (Q:=fun e a' w'=>e=Exit.normal∧Be E.T gh N s1 w (fun k=>S k∨ ∃u,Fs u k) (fun _ _=>False) a' w') hf0 hkx hdr h1 (fun a' w' hp=>⟨rfl,hp⟩) t)) ?_
     rintro e a1 w1 ⟨⟨rfl,hp1⟩,hfr1⟩
     obtain⟨S',Fs',hf1,hst1⟩:=hp1.fr hf0
     have hopsB: ∀(j:Nat) (o:Oper),B[j]? =some o→Mt N o:=fun j o ho=>UM (List.all_eq_true.1 hky o (by simpa using Array.mem_of_getElem? ho))
     have hw2:=Qg (P:=P) (Q:=fun e a' w'=>e=Exit.normal∧Be E.T gh N s2 w1 S' Fs' a' w') hT hC hopsB B.toList 0 rfl hf1 h2 (fun a' w' hp=>⟨rfl,hp⟩)
     rw [Array.length_toList,←List.range_eq_range']at hw2
     refine wp_mono (wp_region (Ik hB _ a1 _ (hfr1 rfl) hw2)) ?_
     rintro e a2 w2 ⟨⟨rfl,hp2⟩,hfr2⟩
     obtain⟨S2,F2,hr2,hst,hd2,hs2⟩:=hp2.back hst1
     have hfar:FarW w w2:=⟨hst.os,hst.tape,hst.output,hst.size,fun k hk=>hst.heap k hk (fun _ h=>h)⟩
     have hag:qQ gh N ds a a2:=⟨hd2,hs2,fun u hu=>dw (hfr2 rfl u hu)⟩
     cases hv:s2.v g with
     |bool t=>
      simp only [hv]at he
      split at he
      ·simp only [Option.some.injEq,Prod.mk.injEq]at he
       obtain⟨rfl,rfl⟩:=he
       have hg:=hr2.val g
       rw [hv]at hg
       have hgv:Ad a2 gh g= .bool t:=by
        generalize Ad a2 gh g=z at hg ⊢
        cases hg with
        |bool=>rfl
       obtain⟨S3,F3,hr3,hst3,hd3,hs3⟩:=Qi h hag hfar
       have hr4:=hr3.put g (d:= .bool t) (v:=Ad a2 gh g) (F:=fun _=>False) (by rw [hgv];exact .bool (fun _ h=>h)) (fun _ _ _ hf=>hf.elim)
       have hup:JN (Ad a2 gh) g (Ad a2 gh g)=Ad a2 gh:=funext fun u=>by unfold JN;split<;>simp_all
       rw [hup]at hr4
       refine⟨rfl,S3,_,hr4,⟨hst3.os,hst3.tape,hst3.output,hst3.size,hst3.heap,hst3.sS,hst3.sS',fun u k hu=> ?_⟩,hd3,hs3⟩
       by_cases e:u=g
       ·subst e;rw [Ae]at hu;exact hu.elim
       ·rw [AX _ _ e]at hu;exact hst3.sF u k hu
      ·cases he
     |_=>simp [hv]at he
  ·cases hq
 ·cases hq
theorem YC(hT:BU P E.T)(hC:Ho P E)(hD:UN P E): ∀(c:Code) {s s':St} {ex:Ex} {a:Act} {w:World} {S:Nat→Prop} {Fs:Nat→Nat→Prop},DU N c=true→Fr E.T N gh s a w S Fs→Cj E c s=some (ex,s')→
  c.wp P (fun e a' w'=>e=Mw ex∧Be E.T gh N s' w S Fs a' w') a w:=by
 intro c
 induction c with
 |skip=>
  intro s s' ex a w S Fs _ h he
  simp only [Cj,Option.some.injEq,Prod.mk.injEq]at he
  obtain⟨rfl,rfl⟩:=he
  exact wp_skip ⟨rfl,S,Fs,h.rel,Step.refl _ _ _,h.defs,h.size⟩
 |region id ops draw=>
  intro s s' ex a w S Fs hk h he
  simp only [DU]at hk
  have hops: ∀(j:Nat) (o:Oper),ops[j]? =some o→Mt N o:=fun j o ho=>UM (List.all_eq_true.1 hk o (by simpa using Array.mem_of_getElem? ho))
  simp only [Cj]at he
  cases draw with
  |true=>
   simp only [if_true]at he
   split at he
   ·rename_i hdr
    simp only [Option.map_eq_some_iff,Prod.mk.injEq]at he
    obtain⟨s1,h1,rfl,rfl⟩:=he
    exact wp_region_draw (hD h hk hdr h1 (fun a' w' hp=>⟨rfl,hp⟩))
   ·cases he
  |false=>
   simp only [Bool.false_eq_true,if_false,Option.map_eq_some_iff,Prod.mk.injEq]at he
   obtain⟨s1,h1,rfl,rfl⟩:=he
   refine wp_region ?_
   have:=Qg (P:=P) (Q:=fun e a' w'=>e=Mw Ex.normal∧Be E.T gh N s1 w S Fs a' w') hT hC hops ops.toList 0 rfl h h1 (fun a' w' hp=>⟨rfl,hp⟩)
   rwa [Array.length_toList,←List.range_eq_range']at this
 |seq x y ihx ihy=>
  intro s s' ex a w S Fs hk h he
  simp only [DU,Bool.and_eq_true]at hk
  simp only [Cj]at he
  cases hany:Vi x y with
  |some q=>
   rw [hany]at he
   exact aW hT hany h (by rw [Bool.and_eq_true];exact hk) he
  |none=>
  rw [hany]at he
  simp only at he
  cases hloan:QE x y with
  |some q=>
   rw [hloan]at he
   exact YB hT hC hD hloan h (by rw [Bool.and_eq_true];exact hk) he
  |none=>
  rw [hloan]at he
  simp only at he
  refine wp_seq ?_
  cases hx:Cj E x s with
  |none=>simp [hx]at he
  |some r=>
   obtain⟨PM,s1⟩:=r
   have h1:=ihx hk.1 h hx
   refine wp_mono h1 ?_
   rintro e a' w' ⟨rfl,hp⟩
   cases PM with
   |normal=>
    simp only [hx]at he
    obtain⟨S',Fs',hf,hst⟩:=hp.fr h
    exact wp_mono (ihy hk.2 hf he) (fun e a2 w2 ⟨q1,q2⟩=>⟨q1,q2.back hst⟩)
   |exit id=>
    simp only [hx,Option.some.injEq,Prod.mk.injEq]at he
    obtain⟨rfl,rfl⟩:=he
    exact⟨rfl,hp⟩
   |ret=>
    simp only [hx,Option.some.injEq,Prod.mk.injEq]at he
    obtain⟨rfl,rfl⟩:=he
    exact⟨rfl,hp⟩
 |cond c x y ihx ihy=>
  intro s s' ex a w S Fs hk h he
  simp only [DU,Bool.and_eq_true]at hk
  simp only [Cj]at he
  split at he
  ·rename_i t hc
   have hcd:Ar N c:=by have:=hk.1.1;cases c<;>simp_all [Qc,Ar]
   have hW:=Dc h.rel h.small hcd hc
   have hv:a.eval c= .bool t:=by
    generalize a.eval c=v at*
    cases hW with
    |bool=>rfl
   refine wp_cond hv ?_
   cases t with
   |true=>simp only [if_true]at he ⊢;exact ihx hk.1.2 h he
   |false=>simp only [Bool.false_eq_true,if_false]at he ⊢;exact ihy hk.2 h he
  ·cases he
 |block id c ih=>
  intro s s' ex a w S Fs hk h he
  simp only [DU]at hk
  simp only [Cj]at he
  refine wp_block ?_
  cases hx:Cj E c s with
  |none=>simp [hx]at he
  |some r=>
   obtain⟨PM,s1⟩:=r
   refine wp_mono (ih hk h hx) ?_
   rintro e a' w' ⟨rfl,hp⟩
   cases PM with
   |normal=>
    simp only [hx,Option.some.injEq,Prod.mk.injEq]at he
    obtain⟨rfl,rfl⟩:=he
    exact⟨rfl,hp⟩
   |exit j=>
    simp only [hx]at he
    simp only [Mw,Exit.inBlock]
    split at he
    ·rename_i hj
     simp only [Option.some.injEq,Prod.mk.injEq]at he
     obtain⟨rfl,rfl⟩:=he
     rw [if_pos hj];exact⟨rfl,hp⟩
    ·rename_i hj
     simp only [Option.some.injEq,Prod.mk.injEq]at he
     obtain⟨rfl,rfl⟩:=he
     rw [if_neg hj];exact⟨rfl,hp⟩
   |ret=>
    simp only [hx,Option.some.injEq,Prod.mk.injEq]at he
    obtain⟨rfl,rfl⟩:=he
    exact⟨rfl,hp⟩
 |loop c ih=>
  intro s s' ex a w S Fs hk h he
  simp only [DU]at hk
  simp only [Cj]at he
  obtain⟨n,hn⟩:=KJ he
  refine wp_loop_rounds n ?_
  have key: ∀(n:Nat) {s:St} {a1:Act} {w1:World} {S1:Nat→Prop} {Fs1:Nat→Nat→Prop},Fv (Cj E c) n s=some (ex,s')→Fr E.T N gh s a1 w1 S1 Fs1→Step w S Fs w1 S1 Fs1→
    Code.rounds P c (fun e a' w'=>e=Mw ex∧Be E.T gh N s' w S Fs a' w') n a1 w1:=by
   intro n
   induction n with
   |zero=>intro s a1 w1 S1 Fs1 hn;simp [Fv]at hn
   |succ n ihn=>
    intro s a1 w1 S1 Fs1 hn hf hst
    simp only [Fv]at hn
    rw [rounds_succ]
    cases hx:Cj E c s with
    |none=>simp [hx]at hn
    |some r=>
     obtain⟨PM,s1⟩:=r
     refine wp_mono (ih hk hf hx) ?_
     rintro e a' w' ⟨rfl,hp⟩
     cases PM with
     |normal=>
      simp only [hx]at hn
      obtain⟨S',Fs',hf',hst'⟩:=hp.fr hf
      exact ihn hn hf' (hst.trans hst')
     |exit id=>
      simp only [hx,Option.some.injEq,Prod.mk.injEq]at hn
      obtain⟨rfl,rfl⟩:=hn
      exact⟨rfl,hp.back hst⟩
     |ret=>
      simp only [hx,Option.some.injEq,Prod.mk.injEq]at hn
      obtain⟨rfl,rfl⟩:=hn
      exact⟨rfl,hp.back hst⟩
  exact key n hn h (Step.refl _ _ _)
 |exit id=>
  intro s s' ex a w S Fs _ h he
  simp only [Cj,Option.some.injEq,Prod.mk.injEq]at he
  obtain⟨rfl,rfl⟩:=he
  exact wp_exit ⟨rfl,S,Fs,h.rel,Step.refl _ _ _,h.defs,h.size⟩
 |ret=>
  intro s s' ex a w S Fs _ h he
  simp only [Cj,Option.some.injEq,Prod.mk.injEq]at he
  obtain⟨rfl,rfl⟩:=he
  exact wp_ret ⟨rfl,S,Fs,h.rel,Step.refl _ _ _,h.defs,h.size⟩
 |rangeFunc=>intro s s' ex a w S Fs _ h he;simp [Cj]at he
 |scope=>intro s s' ex a w S Fs _ h he;simp [Cj]at he
 |label=>intro s s' ex a w S Fs _ h he;simp [Cj]at he
 |goto=>intro s s' ex a w S Fs _ h he;simp [Cj]at he
 |refuse=>intro s s' ex a w S Fs _ h he;simp [Cj]at he
end
end Dv
namespace Dv
open Go
def DD(A:Nat→Bool)(s t:St):Prop:= ∀r,A r=true→s.v r=t.v r∧s.k r=t.k r∧s.m r=t.m r
def Bb(B:Nat→Bool)(s s':St):Prop:= ∀r,B r=false→s'.v r=s.v r∧s'.k r=s.k r∧s'.m r=s.m r
theorem Bb.refl(B:Nat→Bool)(s:St):Bb B s s:=fun _ _=>⟨rfl,rfl,rfl⟩
theorem Bb.trans{B:Nat→Bool}{s s1 s2:St}(h:Bb B s s1)(h':Bb B s1 s2):Bb B s s2:=fun r hr=>
 ⟨(h' r hr).1.trans (h r hr).1,(h' r hr).2.1.trans (h r hr).2.1,(h' r hr).2.2.trans (h r hr).2.2⟩
section
variable {A B:Nat→Bool} {s t:St}
theorem Hr{α:Type}(f:Nat→α)(u:Nat)(d:α)(r:Nat):JN f u d r=if r=u then d else f r:=rfl
theorem DD.put(h:DD A s t)(u:Nat)(d:D):DD A (s.put u d) (t.put u d):=by
 intro r hr
 obtain⟨h1,h2,h3⟩:=h r hr
 unfold St.put
 split
 ·by_cases e:r=u
  ·subst e;simp [Hr,h2,h3]
  ·simp [Hr,e,h1,h2,h3]
 ·by_cases e:r=u
  ·subst e;simp [Hr,h2,h3]
  ·simp [Hr,e,h1,h2,h3]
theorem DD.putO(h:DD A s t)(u:Option Tmp)(d:D):DD A (s.putO u d) (t.putO u d):=by
 cases u with
 |none=>exact h
 |some u=>exact h.put u d
theorem DD.clr(h:DD A s t)(u:Nat):DD A (s.clr u) (t.clr u):=by
 intro r hr
 obtain⟨h1,h2,h3⟩:=h r hr
 by_cases e:r=u
 ·subst e;simp [St.clr,Hr,h2,h3]
 ·simp [St.clr,Hr,e,h1,h2,h3]
theorem DD.bump(h:DD A s t)(u:Nat):DD A (s.bump u) (t.bump u):=by
 intro r hr
 obtain⟨h1,h2,h3⟩:=h r hr
 by_cases e:r=u
 ·subst e;simp [St.bump,Hr,h1,h2,h3]
 ·simp [St.bump,Hr,e,h1,h2,h3]
theorem DD.set(h:DD A s t)(L:AA)(d:D):DD A (s.set L d) (t.set L d):=by
 cases L with
 |nil=>exact h
 |cons u p=>
  intro r hr
  obtain⟨h1,h2,h3⟩:=h r hr
  by_cases e:r=u
  ·subst e;simp [St.set,Hr,h1,h2,h3]
  ·simp [St.set,Hr,e,h1,h2,h3]
theorem Bb.put{u:Nat}(hu:B u=true)(d:D):Bb B s (s.put u d):=by
 intro r hr
 have e:r≠u:=fun e=>by subst e;simp [hu]at hr
 unfold St.put
 split<;>simp [Hr,e]
theorem Bb.putO{u:Option Tmp}(hu: ∀t,u=some t→B t=true)(d:D):Bb B s (s.putO u d):=by
 cases u with
 |none=>exact Bb.refl _ _
 |some u=>exact Bb.put (hu u rfl) d
theorem Bb.clr{u:Nat}(hu:B u=true):Bb B s (s.clr u):=by
 intro r hr
 have e:r≠u:=fun e=>by subst e;simp [hu]at hr
 simp [St.clr,Hr,e]
theorem Bb.bump{u:Nat}(hu:B u=true):Bb B s (s.bump u):=by
 intro r hr
 have e:r≠u:=fun e=>by subst e;simp [hu]at hr
 simp [St.bump,Hr,e]
theorem Bb.set{L:AA}(hu:L≠[]→B (L.headD 0)=true)(d:D):Bb B s (s.set L d):=by
 cases L with
 |nil=>exact Bb.refl _ _
 |cons u p=>
  intro r hr
  have e:r≠u:=fun e=>by subst e;have:=hu (by simp);simp at this;simp [this]at hr
  simp [St.set,Hr,e]
def BI(A:Nat→Bool)(x:Operand):Prop:= ∀u,x= .tmp u→A u=true
theorem BZ(T:Tys)(h:DD A s t)(ty:TypeId){x:Operand}(hx:BI A x):ev T s ty x=ev T t ty x:=by
 cases x with
 |tmp u=>simp only [ev];rw [(h u (hx u rfl)).1]
 |_=>rfl
theorem Px(h:DD A s t){L:AA}(hL:A (L.headD 0)=true):Xn s L=Xn t L:=by
 obtain⟨_,h2,h3⟩:=h _ hL
 unfold Xn
 rw [h2,h3]
end
section
variable {pm:Pm} {s t:St}
theorem DK(h:DD pm.rd s t)(L:AA)(n m:Nat):s.look pm L n m=t.look pm L n m:=by
 cases L with
 |nil=>rfl
 |cons u p=>
  unfold St.look
  simp only
  by_cases hu:pm.rd u=true
  ·obtain⟨h1,h2,h3⟩:=h u hu
   rw [h1,h2,h3]
  ·simp [hu]
theorem NT{L:AA}{n m:Nat}{d:D}(h:s.look pm L n m=some d):L≠[]∧pm.rd (L.headD 0)=true:=by
 cases L with
 |nil=>simp [St.look]at h
 |cons u p=>
  refine⟨by simp, ?_⟩
  unfold St.look at h
  simp only at h
  split at h
  ·rename_i hc;simp only [Bool.and_eq_true]at hc;simpa using hc.1.1
  ·cases h
theorem OX(h:DD pm.rd s t)(x:Operand)(d:D):Ee pm s x d=Ee pm t x d:=by
 unfold Ee
 split<;>simp only [DK h]
theorem dz{x:Operand}{d:D}{L:AA}{c:Nat}{o:D}(hx:BI pm.rd x)(h:Ee pm s x d=some (L,c,o)):pm.rd (L.headD 0)=true:=by
 unfold Ee at h
 split at h
 ·split at h
  ·simp only [Option.some.injEq,Prod.mk.injEq]at h
   obtain⟨rfl,_⟩:=h
   exact hx _ rfl
  ·cases h
 ·split at h
  ·rename_i hl
   simp only [Option.some.injEq,Prod.mk.injEq]at h
   obtain⟨rfl,_⟩:=h
   exact(NT hl).2
  ·cases h
 ·split at h
  ·rename_i hl
   simp only [Option.some.injEq,Prod.mk.injEq]at h
   obtain⟨rfl,_⟩:=h
   exact(NT hl).2
  ·cases h
 ·cases h
theorem IX(h:DD pm.rd s t){x:Operand}(hx:BI pm.rd x)(d:D):Bd pm s x d=Bd pm t x d:=by
 unfold Bd
 split
 ·rfl
 ·split
  ·rename_i u
   obtain⟨_,h2,h3⟩:=h u (hx u rfl)
   rw [h2,h3]
  ·rfl
 ·simp only [DK h]
 ·rfl
theorem LW(h:DD pm.rd s t){L:AA}(hne:L≠[])(hL:pm.rd (L.headD 0)=true)(c:Nat)(d:D):Bc s L c d=Bc t L c d:=by
 have:pm.rd ((L++[c]).headD 0)=true:=by cases L with
  |nil=>exact absurd rfl hne
  |cons u p=>simpa using hL
 unfold Bc
 split
 ·exact Px h this
 ·exact Px h this
 ·rfl
theorem eB{x:Operand}{d:D}{L:AA}{c:Nat}{o:D}(h:Ee pm s x d=some (L,c,o)):L≠[]:=by
 unfold Ee at h
 split at h
 ·split at h
  ·simp only [Option.some.injEq,Prod.mk.injEq]at h
   obtain⟨rfl,_⟩:=h
   simp
  ·cases h
 ·split at h
  ·rename_i hl
   simp only [Option.some.injEq,Prod.mk.injEq]at h
   obtain⟨rfl,_⟩:=h
   exact(NT hl).1
  ·cases h
 ·split at h
  ·rename_i hl
   simp only [Option.some.injEq,Prod.mk.injEq]at h
   obtain⟨rfl,_⟩:=h
   exact(NT hl).1
  ·cases h
 ·cases h
theorem YD(T:Tys)(h:DD pm.rd s t)(ty:TypeId){x:Operand}(hx:BI pm.rd x)(d:D):DV T pm s ty x d=DV T pm t ty x d:=by
 unfold DV
 split
 ·split
  ·rfl
  ·rfl
  ·rw [←OX h]
   cases ha:Ee pm s x d with
   |none=>rfl
   |some r=>
    obtain⟨L,c,o⟩:=r
    have h1:=eB ha
    have h2:=dz hx ha
    simp only [LW h h1 h2]
 ·rfl
theorem Ph(T:Tys)(h:DD pm.rd s t)(ty:TypeId){x:Operand}(hx:BI pm.rd x)(d:D)(i:Nat):EO T pm s ty x d i=EO T pm t ty x d i:=by
 unfold EO
 cases T.foff ty i with
 |none=>rfl
 |some j=>
 simp only
 split
 ·split
  ·split
   ·rename_i u
    obtain⟨_,h2,h3⟩:=h u (hx u rfl)
    rw [h2,h3]
   ·rfl
  ·simp only [DK h]
  ·simp only [DK h]
  ·rfl
  ·rfl
 ·rfl
theorem Pi(T:Tys)(h:DD pm.rd s t)(ty:TypeId){x:Operand}(hx:BI pm.rd x)(d i:D):Cr T pm s ty x d i=Cr T pm t ty x d i:=by
 unfold Cr
 split
 ·simp only [IX h hx]
 ·split
  ·split
   ·split
    ·rename_i u
     obtain⟨_,h2,h3⟩:=h u (hx u rfl)
     rw [h2,h3]
    ·rfl
   ·simp only [DK h]
   ·rfl
   ·rfl
  ·rfl
 ·rfl
theorem aY(T:Tys)(h:DD pm.rd s t)(ty:TypeId){x:Operand}(hx:BI pm.rd x)(d:D):Je T pm s ty x d=Je T pm t ty x d:=by
 unfold Je
 simp only [IX h hx]
theorem eD(T:Tys)(h:DD pm.rd s t)(ty:TypeId){x:Operand}(hx:BI pm.rd x)(d i:D):NK T pm s ty x d i=NK T pm t ty x d i:=by
 unfold NK
 split
 ·unfold dH
  simp only [DK h]
 ·exact Pi T h ty hx _ i
theorem WJ(T:Tys)(h:DD pm.rd s t)(ty:TypeId){x:Operand}(hx:BI pm.rd x)(d:D):Va T pm s ty x d=Va T pm t ty x d:=by
 unfold Va
 split
 ·rfl
 ·exact aY T h ty hx _
theorem aZ(h:DD pm.rd s t)(L:AA)(n:Nat):s.lookM pm L n=t.lookM pm L n:=by
 unfold St.lookM
 split
 ·rename_i u
  by_cases hu:pm.rd u=true
  ·obtain⟨h1,h2,_⟩:=h u hu
   rw [h1,h2]
  ·simp [hu]
 ·rfl
theorem NU(h:DD pm.rd s t)(x:Operand)(d:D):NM pm s x d=NM pm t x d:=by
 unfold NM
 split
 ·rfl
 ·rw [aZ h]
 ·rfl
theorem UO(T:Tys)(h:DD pm.rd s t)(ty:TypeId)(x:Operand)(d i:D)(ok:Bool):Fp T pm s ty x d i ok=Fp T pm t ty x d i ok:=by
 unfold Fp
 rw [NU h]
theorem aa(T:Tys)(h:DD pm.rd s t)(ty:TypeId){x:Operand}(hx:BI pm.rd x)(d:D):KC T pm s ty x d=KC T pm t ty x d:=by
 unfold KC
 split
 ·unfold Rz;rw [NU h]
 ·split
  ·unfold Rz;rw [NU h]
  ·exact WJ T h ty hx _
 ·exact WJ T h ty hx _
theorem NV(T:Tys)(h:DD pm.rd s t)(n:Nat){x:Option Operand}(hx: ∀o,x=some o→BI pm.rd o):K9 T s n x=K9 T t n x:=by
 cases x with
 |none=>rfl
 |some o=>simp only [K9,BZ T h 0 (hx o rfl)]
def TE{α:Type}(pm:Pm)(s t:St)(r r':Option (α×St)):Prop:=
 ∀d s1,r=some (d,s1)→Bb pm.wr s s1∧ ∃t1,r'=some (d,t1)∧DD pm.rd s1 t1
theorem WK(h:DD pm.rd s t)(L:AA)(n m:Nat):TE pm s t (LB pm s L n m) (LB pm t L n m):=by
 intro d s1 hp
 unfold LB at hp ⊢
 rw [←DK h]
 cases hl:s.look pm L n m with
 |none=>simp [hl]at hp
 |some c=>
  simp only [hl]at hp ⊢
  obtain⟨hne,hrd⟩:=NT hl
  have hget:s.get L.dropLast=t.get L.dropLast:=by
   cases L with
   |nil=>exact absurd rfl hne
   |cons u p=>
    cases p with
    |nil=>rfl
    |cons q p=>simp only [List.dropLast,St.get];rw [(h u hrd).1]
  rw [←hget]
  split at hp
  ·rename_i hw
   simp only [hw,if_true]
   split at hp
   ·simp only [Option.map_eq_some_iff,Prod.mk.injEq]at hp
    obtain⟨c',hc,rfl,rfl⟩:=hp
    exact⟨Bb.set (fun _=>hw) _,t.set L c',by simp [hc],h.set _ _⟩
   ·simp only [Option.some.injEq,Prod.mk.injEq]at hp
    obtain⟨rfl,rfl⟩:=hp
    exact⟨Bb.set (fun _=>hw) _,t.set L .undef,rfl,h.set _ _⟩
  ·cases hp
mutual
theorem KN(d0:D): ∀ {s t:St},DD pm.rd s t→TE pm s t (BQ pm s d0) (BQ pm t d0):=by
 intro s t h d s1 hd
 cases d0<;>simp only [BQ]at hd ⊢
 case vw L n m=>exact WK h L n m d s1 hd
 case agg xs=>
  simp only [Option.map_eq_some_iff,Prod.mk.injEq]at hd
  obtain⟨⟨ys,s2⟩,h1,rfl,rfl⟩:=hd
  obtain⟨hs,t1,ht,ha⟩:=Qj xs h _ _ h1
  exact⟨hs,t1,by simp [ht],ha⟩
 case konst v=>
  cases v<;>simp only at hd ⊢ <;>first
   |(cases hd;done)
   |(simp only [Option.some.injEq,Prod.mk.injEq]at hd;obtain⟨rfl,rfl⟩:=hd;exact⟨Bb.refl _ _,t,rfl,h⟩)
 all_goals first
  |(cases hd;done)
  |(simp only [Option.some.injEq,Prod.mk.injEq]at hd;obtain⟨rfl,rfl⟩:=hd;exact⟨Bb.refl _ _,t,rfl,h⟩)
theorem Qj(l:List D): ∀ {s t:St},DD pm.rd s t→TE pm s t (Dt pm s l) (Dt pm t l):=by
 intro s t h d s1 hd
 cases l with
 |nil=>
  simp only [Dt,Option.some.injEq,Prod.mk.injEq]at hd ⊢
  obtain⟨rfl,rfl⟩:=hd
  exact⟨Bb.refl _ _,t,⟨rfl,rfl⟩,h⟩
 |cons x xs=>
  simp only [Dt,Option.bind_eq_some_iff,Option.map_eq_some_iff,Prod.mk.injEq]at hd
  obtain⟨⟨y,s2⟩,h1,⟨ys,s3⟩,h2,rfl,rfl⟩:=hd
  obtain⟨hs,t1,ht,ha⟩:=KN x h _ _ h1
  obtain⟨hs',t2,ht',ha'⟩:=Qj xs ha _ _ h2
  exact⟨hs.trans hs',t2,by simp [Dt,ht,ht'],ha'⟩
end
theorem Il(T:Tys)(h:DD pm.rd s t)(ty:TypeId){x:Operand}(hx:BI pm.rd x)(hw:BI pm.wr x):TE pm s t (take T pm s ty x) (take T pm t ty x):=by
 intro d s1 hd
 unfold take at hd ⊢
 rw [←BZ T h ty hx]
 cases he:ev T s ty x with
 |none=>simp [he]at hd
 |some d0=>
  simp only [he]at hd ⊢
  cases x with
  |tmp u=>
   simp only at hd ⊢
   split at hd
   ·rename_i ho
    simp only [ho,if_true]
    obtain⟨hs,r⟩:=KN d0 (h.clr u) _ _ hd
    exact⟨(Bb.clr (hw u rfl)).trans hs,r⟩
   ·rename_i ho
    simp only [ho]
    exact KN d0 h _ _ hd
  |_=>exact KN d0 h _ _ hd
theorem TF(T:Tys)(tf:Nat→TypeId)(sz:Nat): ∀(l:List (Nat×Operand)) {s t:St} (cs:List D),DD pm.rd s t→(∀q∈l,BI pm.rd q.2∧BI pm.wr q.2)→TE pm s t (Eg T pm tf sz s cs l) (Eg T pm tf sz t cs l):=by
 intro l
 induction l with
 |nil=>
  intro s t cs h _ d s1 hd
  simp only [Eg,Option.some.injEq,Prod.mk.injEq]at hd ⊢
  obtain⟨rfl,rfl⟩:=hd
  exact⟨Bb.refl _ _,t,⟨rfl,rfl⟩,h⟩
 |cons q l ih=>
  obtain⟨i,x⟩:=q
  intro s t cs h hl d s1 hd
  simp only [Eg]at hd ⊢
  cases ht:take T pm s (tf i) x with
  |none=>simp [ht]at hd
  |some r=>
   obtain⟨d0,s2⟩:=r
   obtain⟨hs,t1,ht1,ha⟩:=Il T h (tf i) (hl (i,x) (by simp)).1 (hl (i,x) (by simp)).2 _ _ ht
   simp only [ht]at hd
   simp only [ht1]
   split at hd
   ·rename_i hc
    simp only [hc,and_self,if_true]
    obtain⟨hs',r'⟩:=ih _ ha (fun q hq=>hl q (by simp [hq])) _ _ hd
    exact⟨hs.trans hs',r'⟩
   ·cases hd
theorem ae(T:Tys)(fl:List (Nat×TypeId)): ∀(l:List (Nat×Operand)) {s t:St} (cs:List D),DD pm.rd s t→(∀q∈l,BI pm.rd q.2∧BI pm.wr q.2)→TE pm s t (Gz T pm fl s cs l) (Gz T pm fl t cs l):=by
 intro l
 induction l with
 |nil=>
  intro s t cs h _ d s1 hd
  simp only [Gz,Option.some.injEq,Prod.mk.injEq]at hd ⊢
  obtain⟨rfl,rfl⟩:=hd
  exact⟨Bb.refl _ _,t,⟨rfl,rfl⟩,h⟩
 |cons q l ih=>
  obtain⟨i,x⟩:=q
  intro s t cs h hl d s1 hd
  simp only [Gz]at hd ⊢
  cases hfi:fl[i]? with
  |none=>simp [hfi]at hd
  |some p=>
   obtain⟨off,ty⟩:=p
   simp only [hfi]at hd ⊢
   cases ht:take T pm s ty x with
   |none=>simp [ht]at hd
   |some r=>
    obtain⟨d0,s2⟩:=r
    obtain⟨hs,t1,ht1,ha⟩:=Il T h ty (hl (i,x) (by simp)).1 (hl (i,x) (by simp)).2 _ _ ht
    simp only [ht]at hd
    simp only [ht1]
    split at hd
    ·rename_i hc
     simp only [hc,and_self,if_true]
     obtain⟨hs',r'⟩:=ih _ ha (fun q hq=>hl q (by simp [hq])) _ _ hd
     exact⟨hs.trans hs',r'⟩
    ·cases hd
theorem PN(T:Tys)(h:DD pm.rd s t)(ty:TypeId){x:Operand}(hx:BI pm.rd x)(d0:D){lo hi mx:Option Operand}(h1: ∀o,lo=some o→BI pm.rd o)(h2: ∀o,hi=some o→BI pm.rd o)(h3: ∀o,mx=some o→BI pm.rd o):
  TE pm s t (GD T pm s ty x d0 lo hi mx) (GD T pm t ty x d0 lo hi mx):=by
 intro d s1 hd
 unfold GD at hd ⊢
 simp only [←IX h hx,←NV T h _ h1,←NV T h _ h2,←NV T h _ h3]
 split at hd
 ·split at hd
  ·rename_i l q hl hq
   split at hd
   ·rename_i hc
    simp only [Option.some.injEq,Prod.mk.injEq]at hd
    obtain⟨rfl,rfl⟩:=hd
    exact⟨Bb.refl _ _,t,by simp only [hl,hq,hc,and_self,if_true],h⟩
   ·cases hd
  ·cases hd
 ·split at hd
  ·cases hd
  ·rename_i e xs o hsl
   try simp only [hsl]
   split at hd
   ·rename_i l q hl hq
    split at hd
    ·rename_i hc
     simp only [hl,hq,hc,and_self,if_true]
     split at hd
     ·rename_i hm
      simp only [hm,if_true]
      split at hd
      ·rename_i z hz
       split at hd
       ·rename_i hc2
        simp only [Option.some.injEq,Prod.mk.injEq]at hd
        obtain⟨rfl,rfl⟩:=hd
        exact⟨Bb.refl _ _,t,by simp only [hz,hc2,and_self,if_true],h⟩
       ·cases hd
      ·cases hd
     ·rename_i hm
      simp only [hm]
      split at hd
      ·simp only [Option.some.injEq,Prod.mk.injEq]at hd
       obtain⟨rfl,rfl⟩:=hd
       exact⟨Bb.refl _ _,t,by simp,h⟩
      ·split at hd
       ·rename_i hw
        split at hd
        ·rename_i ys hy
         simp only [Option.some.injEq,Prod.mk.injEq]at hd
         obtain⟨rfl,rfl⟩:=hd
         exact⟨Bb.set (fun _=>hw) _,t.set _ _,by simp only [hw,Bool.false_eq_true,if_true,if_false],h.set _ _⟩
        ·cases hd
       ·rename_i hw
        simp only [Q5,Option.some.injEq,Prod.mk.injEq]at hd
        obtain⟨rfl,rfl⟩:=hd
        exact⟨Bb.refl _ _,t,by simp only [hw,Q5,Bool.false_eq_true,if_false],h⟩
    ·cases hd
   ·cases hd
 ·cases hd
theorem WL(h:DD pm.rd s t){x:Operand}(hx:BI pm.rd x)(d:D):NL pm s x d=NL pm t x d:=by
 unfold NL
 split
 ·simp only [DK h]
 ·simp only [IX h hx]
theorem eF(h:DD pm.rd s t){x:Operand}(hx:BI pm.rd x)(d:D):Pb pm s x d=Pb pm t x d:=by
 unfold Pb
 split
 ·simp only [DK h]
 ·simp only [IX h hx]
theorem YE(T:Tys)(h:DD pm.rd s t)(ty:TypeId){x y:Operand}(hx:BI pm.rd x)(hy:BI pm.rd y)(da db:D):
  TE pm s t (KY T pm s ty x y da db) (KY T pm t ty x y da db):=by
 intro d s1 hd
 unfold KY at hd ⊢
 simp only [←WL h hx,←eF h hy]
 split at hd
 ·rename_i e L xs lo len e' ys hds hsr
  try simp only [hds,hsr]
  split at hd
  ·rename_i hc
   rw [if_pos hc]
   simp only [Option.some.injEq,Prod.mk.injEq]at hd
   obtain⟨rfl,rfl⟩:=hd
   simp only [Bool.and_eq_true]at hc
   exact⟨Bb.set (fun _=>hc.2) _,t.set _ _,rfl,h.set _ _⟩
  ·cases hd
 ·cases hd
theorem WM(T:Tys)(h:DD pm.rd s t)(ty:TypeId){x:Operand}(hx:BI pm.rd x)(da:D):
  TE pm s t (J9 T pm s ty x da) (J9 T pm t ty x da):=by
 intro d s1 hd
 unfold J9 at hd ⊢
 simp only [←WL h hx]
 split at hd
 ·rename_i e L xs lo len hds
  try simp only [hds]
  split at hd
  ·rename_i hc
   rw [if_pos hc]
   simp only [Option.some.injEq,Prod.mk.injEq]at hd
   obtain⟨rfl,rfl⟩:=hd
   simp only [Bool.and_eq_true]at hc
   exact⟨(Bb.set (fun _=>hc.2) _).trans (Bb.bump hc.2),(t.set _ _).bump _,rfl,(h.set _ _).bump _⟩
  ·cases hd
 ·cases hd
theorem af(T:Tys)(h:DD pm.rd s t)(ty:TypeId){x:Operand}(hx:BI pm.rd x){hi:Option Operand}(h2: ∀o,hi=some o→BI pm.rd o):
  TE pm s t (LC T pm s ty x hi) (LC T pm t ty x hi):=by
 intro d s1 hd
 unfold LC at hd ⊢
 split at hd
 ·rename_i e' hty
  split at hd
  ·rename_i e xs s2 htk
   split at htk
   case isFalse=>cases htk
   rename_i hwx
   have hw:BI pm.wr x:=by
    intro u hu;subst hu;exact hwx
   obtain⟨hs,t1,ht1,ha⟩:=Il T h ty hx hw _ _ htk
   simp only [if_pos hwx,ht1,←NV T h _ h2]
   split at hd
   ·rename_i q hq
    split at hd
    ·rename_i hc
     simp only [Option.some.injEq,Prod.mk.injEq]at hd
     obtain⟨rfl,rfl⟩:=hd
     exact⟨hs,t1,by simp only [hq,hc,and_self,if_true],ha⟩
    ·cases hd
   ·cases hd
  ·cases hd
 ·cases hd
theorem YF(T:Tys)(h:DD pm.rd s t)(ty:TypeId){x:Operand}(hx:BI pm.rd x){hi:Option Operand}(h2: ∀o,hi=some o→BI pm.rd o):
  TE pm s t (JO T pm s ty x hi) (JO T pm t ty x hi):=by
 intro d s1 hd
 unfold JO at hd ⊢
 split at hd
 ·rename_i e' hty
  split at hd
  ·rename_i e xs s2 htk
   split at htk
   case isFalse=>cases htk
   rename_i hwx
   have hw:BI pm.wr x:=by
    intro u hu;subst hu;exact hwx
   obtain⟨hs,t1,ht1,ha⟩:=Il T h ty hx hw _ _ htk
   simp only [if_pos hwx,ht1,←NV T h _ h2]
   split at hd
   ·rename_i q hq
    split at hd
    ·rename_i hc
     simp only [Option.some.injEq,Prod.mk.injEq]at hd
     obtain⟨rfl,rfl⟩:=hd
     exact⟨hs,t1,by simp only [hq,hc,and_self,if_true],ha⟩
    ·cases hd
   ·cases hd
  ·cases hd
 ·cases hd
theorem ah(h:DD pm.rd s t){t0:Nat}(h0:pm.rd t0=true)(d:D):Gb s t0 d=Gb t t0 d:=by
 unfold Gb
 rw [(h t0 h0).2.1]
theorem ai(T:Tys)(h:DD pm.rd s t)(ty:TypeId){ax x:Operand}(hx:BI pm.rd x){s1:St}(hd:P7 T pm s ty ax x=some s1):
  Bb pm.wr s s1∧ ∃t1,P7 T pm t ty ax x=some t1∧DD pm.rd s1 t1:=by
 unfold P7 at hd ⊢
 split at hd
 ·rename_i t0 u
  split at hd
  ·rename_i x0 f xs hb hu
   split at hd
   ·rename_i hc
    have hc':=hc
    simp only [Bool.and_eq_true]at hc'
    simp only [Option.some.injEq]at hd
    subst hd
    have hr0:=hc'.1.2
    have hb':t.v t0= .box [x0]:=by rw [←(h t0 hr0).1];exact hb
    have hu':t.v u= .ocl false f xs:=by rw [←(h u (hx u rfl)).1];exact hu
    have hm:xs.map (Gb t t0)=xs.map (Gb s t0):=List.map_congr_left fun d _=>(ah h hr0 d).symm
    refine⟨Bb.set (fun _=>hc'.2) _,_, ?_,h.set [t0] (.ocl true f (xs.map (Gb s t0)))⟩
    simp only [hb',hu']
    rw [if_pos hc,hm]
   ·cases hd
  ·cases hd
 ·cases hd
theorem WN(T:Tys)(h:DD pm.rd s t)(ty:TypeId)(x:Operand)(d i v:D){s1:St}(hd:Ff T pm s ty x d i v=some s1):
  Bb pm.wr s s1∧ ∃t1,Ff T pm t ty x d i v=some t1∧DD pm.rd s1 t1:=by
 unfold Ff at hd ⊢
 rw [←NU h]
 split at hd
 ·rename_i k e k' e' es L hty hm
  try simp only [hm]
  split at hd
  ·rename_i ka kn ea en hka hea
   try simp only [hka,hea]
   split at hd
   ·rename_i hc
    rw [if_pos hc]
    split at hd
    ·rename_i key val hk hv
     try simp only [hk,hv]
     simp only [Option.some.injEq]at hd
     subst hd
     exact⟨Bb.set (fun _=>hc.2.2) _,_,rfl,h.set _ _⟩
    ·cases hd
   ·cases hd
  ·cases hd
 ·cases hd
theorem TG(T:Tys)(h:DD pm.rd s t)(ty:TypeId){x:Operand}(hx:BI pm.rd x)(hxw:BI pm.wr x):TE pm s t (Ih T pm s ty x) (Ih T pm t ty x):=by
 intro d s1 hd
 unfold Ih at hd ⊢
 rw [←BZ T h ty hx]
 split at hd
 ·rename_i L n m he
  try simp only [he]
  unfold Q4 at hd ⊢
  rw [←DK h]
  cases hl:s.look pm L n m with
  |none=>simp [hl]at hd
  |some c=>
   simp only [hl]at hd ⊢
   split at hd
   ·rename_i hw
    simp only [hw,if_true]
    simp only [Option.some.injEq,Prod.mk.injEq]at hd
    obtain⟨rfl,rfl⟩:=hd
    exact⟨Bb.set (fun _=>hw) _,t.set L .undef,rfl,h.set _ _⟩
   ·cases hd
 ·exact Il T h ty hx hxw _ _ hd
theorem UQ(T:Tys)(h:DD pm.rd s t)(ty:TypeId){x y:Operand}(hx:BI pm.rd x)(hxw:BI pm.wr x)(hy:BI pm.rd y)(hyw:BI pm.wr y):
  TE pm s t (Ef T pm s ty x y) (Ef T pm t ty x y):=by
 intro d s1 hd
 unfold Ef at hd ⊢
 split at hd
 ·split at hd
  ·rename_i e hty e1 xs s2 htk
   obtain⟨hs,t1,ht1,ha⟩:=TG T h ty hx hxw _ _ htk
   simp only [ht1,←BZ T ha ty hy,←IX ha hy]
   split at hd
   ·rename_i d1 hev
    try simp only [hev]
    split at hd
    ·rename_i e2 ys o hsl
     try simp only [hsl]
     split at hd
     ·rename_i hc
      rw [if_pos hc]
      split at hd
      ·rename_i ho
       rw [if_pos ho]
       split at hd
       ·simp only [Option.some.injEq,Prod.mk.injEq]at hd
        obtain⟨rfl,rfl⟩:=hd
        exact⟨hs.trans (Bb.clr (hyw _ rfl)),_,rfl,ha.clr _⟩
       ·cases hd
      ·rename_i ho
       rw [if_neg ho]
       simp only [Option.some.injEq,Prod.mk.injEq]at hd
       obtain⟨rfl,rfl⟩:=hd
       exact⟨hs,t1,rfl,ha⟩
     ·cases hd
    ·cases hd
   ·cases hd
  ·cases hd
 ·cases hd
theorem YG(T:Tys)(h:DD pm.rd s t)(ty:TypeId){x:Operand}(hx:BI pm.rd x)(hxw:BI pm.wr x):TE pm s t (JP T pm s ty x) (JP T pm t ty x):=by
 intro d s1 hd
 unfold JP at hd ⊢
 split at hd
 ·split at hd
  ·rename_i e hty e1 xs s2 htk
   obtain⟨hs,t1,ht1,ha⟩:=Il T h ty hx hxw _ _ htk
   simp only [ht1]
   split at hd
   ·rename_i hc
    rw [if_pos hc]
    simp only [Option.some.injEq,Prod.mk.injEq]at hd
    obtain⟨rfl,rfl⟩:=hd
    exact⟨hs,t1,rfl,ha⟩
   ·cases hd
  ·cases hd
 ·cases hd
theorem eG(h:DD pm.rd s t)(d:D):Mo pm s d=Mo pm t d:=by
 unfold Mo
 simp only [DK h]
theorem jo(h:DD pm.rd s t)(r:Nat):mQ pm s r=mQ pm t r:=by
 unfold mQ
 cases hr:pm.rd r with
 |false=>rfl
 |true=>rw [(h r hr).1]
theorem jq(h:DD pm.rd s t)(d:D):VZ pm s d=VZ pm t d:=by
 unfold VZ
 split
 ·exact jo h _
 ·rfl
theorem eH(h:DD pm.rd s t)(d:D):U3 pm s d=U3 pm t d:=by
 have hf:VZ pm s=VZ pm t:=funext (jq h)
 unfold U3
 rw [hf]
theorem NW(T:Tys)(ty:TypeId){ax:Operand}(ha:BI pm.rd ax){q q':Option (D×St)}(hq:TE pm s t q q'){s1:St}(hd:EN T pm ty ax q=some s1):
  Bb pm.wr s s1∧ ∃t1,EN T pm ty ax q'=some t1∧DD pm.rd s1 t1:=by
 unfold EN at hd ⊢
 split at hd
 ·cases hd
 ·rename_i d s2 htk
  obtain⟨hs,t1,ht1,hag⟩:=hq _ _ rfl
  simp only [ht1,←BZ T hag ty ha]
  split at hd
  ·cases hd
  ·rename_i ad hev
   simp only [hev,←OX hag]
   split at hd
   ·cases hd
   ·rename_i L c o had
    try simp only [had]
    split at hd
    ·rename_i hc
     rw [if_pos hc]
     simp only [Bool.and_eq_true]at hc
     have hw:pm.wr (L.headD 0)=true:=hc.1.1.1.1.2
     simp only [Option.some.injEq]at hd
     subst hd
     split
     ·exact⟨hs.trans ((Bb.set (fun _=>hw) _).trans (Bb.bump hw)),_,rfl,(hag.set _ _).bump _⟩
     ·exact⟨hs.trans (Bb.set (fun _=>hw) _),_,rfl,hag.set _ _⟩
    ·cases hd
theorem UR(ok:D→Bool)(T:Tys)(ty:TypeId){ax:Operand}(ha:BI pm.rd ax){q q':Option (D×St)}(hq:TE pm s t q q'){s1:St}(hd:Ii ok T pm ty ax q=some s1):
  Bb pm.wr s s1∧ ∃t1,Ii ok T pm ty ax q'=some t1∧DD pm.rd s1 t1:=by
 unfold Ii at hd ⊢
 split at hd
 ·cases hd
 ·rename_i d s2 htk
  obtain⟨hs,t1,ht1,hag⟩:=hq _ _ rfl
  simp only [ht1,←BZ T hag ty ha]
  split at hd
  ·cases hd
  ·rename_i ad hev
   simp only [hev,←OX hag]
   split at hd
   ·cases hd
   ·rename_i L c o had
    try simp only [had]
    split at hd
    ·rename_i hc
     rw [if_pos hc]
     simp only [Bool.and_eq_true]at hc
     have hw:pm.wr (L.headD 0)=true:=hc.1.1.1.1.2
     simp only [Option.some.injEq]at hd
     subst hd
     split
     ·exact⟨hs.trans ((Bb.set (fun _=>hw) _).trans (Bb.bump hw)),_,rfl,(hag.set _ _).bump _⟩
     ·exact⟨hs.trans (Bb.set (fun _=>hw) _),_,rfl,hag.set _ _⟩
    ·cases hd
theorem TH(h:DD pm.rd s t):II pm s=II pm t:=by
 funext d
 cases d<;>first|rfl|(simp only [II,DK h])
theorem UT(T:Tys)(h:DD pm.rd s t)(ty:TypeId){ax x:Operand}(hx:BI pm.rd x)(ha:BI pm.rd ax){s1:St}(hd:Hf T pm s ty ax x=some s1):
  Bb pm.wr s s1∧ ∃t1,Hf T pm t ty ax x=some t1∧DD pm.rd s1 t1:=by
 unfold Hf at hd ⊢
 rw [←BZ T h ty hx,←TH h]
 split at hd
 ·rename_i ds hk
  refine UR (t:=t) _ T ty ha (q:=some (.agg ds,s)) (q':=some (.agg ds,t)) ?_ hd
  intro d s2 he
  simp only [Option.some.injEq,Prod.mk.injEq]at he
  obtain⟨rfl,rfl⟩:=he
  exact⟨Bb.refl _ _,t,rfl,h⟩
 ·cases hd
theorem aj(T:Tys)(h:DD pm.rd s t)(tf:Nat→TypeId): ∀(parts:List (Nat×Operand)) (cs:List D),(∀q∈parts,BI pm.rd q.2)→J6 T pm s tf cs parts=J6 T pm t tf cs parts:=by
 intro parts
 induction parts with
 |nil=>intro cs _;rfl
 |cons q parts ih=>
  obtain⟨i,x⟩:=q
  intro cs hx
  simp only [J6,BZ T h (tf i) (hx (i,x) (by simp)),TH h]
  split
  ·rfl
  ·split
   ·exact ih _ (fun q hq=>hx q (by simp [hq]))
   ·rfl
theorem UU(T:Tys)(h:DD pm.rd s t)(ty:TypeId)(parts:List (Nat×Operand))(hx: ∀q∈parts,BI pm.rd q.2):Fq T pm s ty parts=Fq T pm t ty parts:=by
 unfold Fq
 simp only [aj T h _ parts _ hx]
theorem PO(T:Tys)(h:DD pm.rd s t)(ty:TypeId){ax x:Operand}(hx:BI pm.rd x)(hxw:BI pm.wr x)(ha:BI pm.rd ax){s1:St}(hd:He T pm s ty ax x=some s1):
  Bb pm.wr s s1∧ ∃t1,He T pm t ty ax x=some t1∧DD pm.rd s1 t1:=by
 unfold He at hd ⊢
 exact NW T ty ha (Il T h ty hx hxw) hd
theorem WO: ∀(l:List Operand) {s t:St},DD pm.rd s t→(∀x∈l,BI pm.rd x)→TE pm s t (JA pm s l) (JA pm t l):=by
 intro l
 induction l with
 |nil=>
  intro s t h _ d s1 hd
  simp only [JA,Option.some.injEq,Prod.mk.injEq]at hd ⊢
  obtain⟨rfl,rfl⟩:=hd
  exact⟨Bb.refl _ _,t,⟨rfl,rfl⟩,h⟩
 |cons x l ih=>
  intro s t h hl d s1 hd
  unfold JA at hd ⊢
  cases x with
  |tmp u=>
   simp only at hd ⊢
   rw [←(h u (hl (.tmp u) (by simp) u rfl)).1]
   split at hd
   ·rename_i xs hu
    split at hd
    ·rename_i ys hy
     split at hd
     ·rename_i hw
      simp only [Option.map_eq_some_iff,Prod.mk.injEq]at hd
      obtain⟨⟨zs,s2⟩,h1,rfl,rfl⟩:=hd
      obtain⟨hs,t1,ht1,ha⟩:=ih (h.set [u] (.cptr ys)) (fun x hx=>hl x (by simp [hx])) _ _ h1
      exact⟨(Bb.set (fun _=>hw) _).trans hs,t1,by simp [hy,hw,ht1],ha⟩
     ·cases hd
    ·cases hd
   ·rename_i ys hu
    simp only [Option.map_eq_some_iff,Prod.mk.injEq]at hd
    obtain⟨⟨zs,s2⟩,h1,rfl,rfl⟩:=hd
    obtain⟨hs,t1,ht1,ha⟩:=ih h (fun x hx=>hl x (by simp [hx])) _ _ h1
    exact⟨hs,t1,by simp [ht1],ha⟩
   ·cases hd
  |_=>simp at hd
theorem WP(h:DD pm.rd s t): ∀(l:List Operand),(∀x∈l,BI pm.rd x)→LF s l=LF t l
 | [],_=>rfl
 |x::l,hl=>by
  unfold LF
  cases x with
  |tmp u=>
   have hu:=hl (.tmp u) (by simp) u rfl
   simp only
   rw [←(h u hu).1,WP h l (fun x hx=>hl x (List.mem_cons_of_mem _ hx)),Px (L:=[u]) h hu]
  |_=>rfl
theorem OY(m:Nat){A:Nat→Bool}: ∀(l:List Operand) (i:Nat),(∀x∈l,BI A x)→ ∀x∈GY m i l,BI A x
 | [],_,_,x,h=>by simp [GY]at h
 |y::l,i,hl,x,h=>by
  unfold GY at h
  split at h
  ·exact OY m l _ (fun x hx=>hl x (List.mem_cons_of_mem _ hx)) x h
  ·rcases List.mem_cons.1 h with rfl|h
   ·exact hl _ List.mem_cons_self
   ·exact OY m l _ (fun x hx=>hl x (List.mem_cons_of_mem _ hx)) x h
theorem eO(m:Nat)(l:List Operand)(h:DD pm.rd s t)(hl: ∀x∈l,BI pm.rd x):TE pm s t (Q7 pm s m l) (Q7 pm t m l):=by
 intro d s1 hd
 unfold Q7 at hd ⊢
 split at hd
 ·cases hd
 ·rename_i ys s2 hc
  obtain⟨es,he,hd⟩:=Option.map_eq_some_iff.1 hd
  simp only [Prod.mk.injEq]at hd
  obtain⟨rfl,rfl⟩:=hd
  obtain⟨hs,t1,ht1,ha⟩:=WO _ h (OY m l 0 hl) _ _ hc
  exact⟨hs,t1,by simp only [ht1];rw [←WP ha l hl,he];rfl,ha⟩
theorem PP(lend:Bool)(h:DD pm.rd s t)(j:Nat)(L0:AA)(d:D):EE lend pm s j L0 d=EE lend pm t j L0 d:=by
 unfold EE
 split<;>simp only [DK h]
theorem UV(lend:Bool)(h:DD pm.rd s t)(L0:AA): ∀(l:List D) (j i:Nat),Db lend pm s L0 j i l=Db lend pm t L0 j i l:=by
 intro l
 induction l with
 |nil=>intro j i;rfl
 |cons d l ih=>intro j i;simp only [Db,PP lend h,ih]
theorem YH(lend:Bool)(h:DD pm.rd s t)(j:Nat)(L0:AA)(d:D):Bv lend pm s j L0 d=Bv lend pm t j L0 d:=by
 unfold Bv
 split
 ·rw [UV lend h]
 ·rw [PP lend h]
theorem Qk(h:DD pm.rd s t): ∀(l:List D),JQ pm s l=JQ pm t l
 | []=>rfl
 |d::l=>by
  unfold JQ
  cases d with
  |vw L n m=>simp only [DK h,Qk h l]
  |cptr ys=>simp only [Qk h l]
  |_=>rfl
theorem eQ(T:Tys)(lend:Bool)(h:DD pm.rd s t)(j:Nat)(L0:AA)(d:D):IR T lend pm s j L0 d=IR T lend pm t j L0 d:=by
 unfold IR
 split
 ·simp only [Qk h]
 ·unfold Sy;simp only [DK h]
 ·rw [YH lend h]
theorem TI(E:Env)(lend:Bool)(h:DD pm.rd s t): ∀(l:List (Operand×TypeId)) (j:Nat),(∀x∈l,BI pm.rd x.1)→Cs E lend pm s j l=Cs E lend pm t j l:=by
 intro l
 induction l with
 |nil=>intro j _;rfl
 |cons q l ih=>
  obtain⟨x,ty⟩:=q
  intro j hl
  simp only [Cs,BZ E.T h ty (hl (x,ty) (by simp)),eQ E.T lend h,ih _ (fun x hx=>hl x (by simp [hx]))]
theorem LX(deep:Bool): ∀(l:List (AA×D)) {s t:St},DD pm.rd s t→DD pm.rd (back deep s l) (back deep t l):=by
 intro l
 induction l with
 |nil=>intro s t h;exact h
 |cons q l ih=>
  obtain⟨L,c⟩:=q
  intro s t h
  simp only [back]
  split
  ·exact ih h
  ·split
   ·exact ih ((h.set _ _).bump _)
   ·exact ih (h.set _ _)
theorem KO(deep:Bool): ∀(l:List (AA×D)) {s:St},(∀q∈l,pm.wr (q.1.headD 0)=true)→Bb pm.wr s (back deep s l):=by
 intro l
 induction l with
 |nil=>intro s _;exact Bb.refl _ _
 |cons q l ih=>
  obtain⟨L,c⟩:=q
  intro s h
  have hw:=h (L,c) (by simp)
  simp only [back]
  refine Bb.trans ?_ (ih (fun q hq=>h q (by simp [hq])))
  split
  ·exact Bb.refl _ _
  ·split
   ·exact(Bb.set (fun _=>hw) _).trans (Bb.bump hw)
   ·exact Bb.set (fun _=>hw) _
theorem SH: ∀ {l l':List (AA×D)},GX l=some l'→l'.map (·.1)=l.map (·.1):=by
 intro l
 induction l with
 |nil=>intro l' h;simp only [GX,Option.some.injEq]at h;subst h;rfl
 |cons q l ih=>
  obtain⟨L,c⟩:=q
  intro l' h
  simp only [GX,Option.bind_eq_some_iff,Option.map_eq_some_iff]at h
  obtain⟨c',_,l2,h2,rfl⟩:=h
  simp [ih h2]
theorem Kk(h:DD pm.rd s t): ∀(l:List D) (j:Nat),Ce pm s j l=Ce pm t j l
 | [],_=>rfl
 |d::l,j=>by
  unfold Ce
  cases d with
  |vw L n m=>simp only [DK h,Kk h l (j+1)]
  |cptr ys=>simp only [Kk h l j]
  |undef=>simp only [Kk h l j]
  |_=>rfl
theorem ak{E:Env}(h:DD pm.rd s t){dst:Option Tmp}(hdst: ∀u,dst=some u→pm.wr u=true){f:FuncId}{xs:List (Operand×TypeId)}(hxs: ∀x∈xs,BI pm.rd x.1){caps:List D}{s1:St}(hd:JR E pm s dst f xs caps=some s1):
  Bb pm.wr s s1∧ ∃t1,JR E pm t dst f xs caps=some t1∧DD pm.rd s1 t1:=by
 unfold JR at hd ⊢
 simp only [←TI E _ h xs _ hxs,←Kk h]
 split at hd
 ·cases hd
 ·rename_i as ls has
  try simp only [has]
  split at hd
  ·cases hd
  ·rename_i cs lc hcs
   try simp only [hcs]
   split at hd
   ·rename_i hc
    rw [if_pos hc]
    simp only [Bool.and_eq_true,List.all_eq_true]at hc
    split at hd
    ·rename_i r outs hcall
     try simp only [hcall]
     split at hd
     ·rename_i hz
      rw [if_pos hz]
      simp only [Option.some.injEq]at hd
      subst hd
      refine⟨((KO false _ ?_).trans (KO true _ ?_)).trans (Bb.putO hdst r),_,rfl,(LX true _ (LX false _ h)).putO dst r⟩
      ·intro q hq
       obtain⟨L,h1,rfl⟩:=List.mem_map.1 hq
       obtain⟨l,hl',rfl⟩:=List.mem_map.1 h1
       exact hc.1.2 l hl'
      ·intro q hq
       obtain⟨l,hl',e⟩:=List.mem_map.1 (List.of_mem_zip hq).1
       rw [←e];exact hc.1.2 l hl'
     ·cases hd
    ·cases hd
   ·cases hd
theorem OZ{E:Env}(h:DD pm.rd s t){dst:Option Tmp}(hdst: ∀u,dst=some u→pm.wr u=true){f:FuncId}{xs:List (Operand×TypeId)}(hxs: ∀x∈xs,BI pm.rd x.1){caps:List D}{s1:St}(hd:F8 E pm s dst f xs caps=some s1):
  Bb pm.wr s s1∧ ∃t1,F8 E pm t dst f xs caps=some t1∧DD pm.rd s1 t1:=by
 unfold F8 at hd ⊢
 simp only [←TI E _ h xs _ hxs]
 split at hd
 ·rename_i hl
  rw [if_pos hl]
  split at hd
  ·cases hd
  ·rename_i as ls has
   try simp only [has]
   split at hd
   ·rename_i hc
    rw [if_pos hc]
    simp only [Bool.and_eq_true,List.all_eq_true]at hc
    split at hd
    ·rename_i r outs hcall
     try simp only [hcall]
     split at hd
     ·rename_i hz
      rw [if_pos hz]
      simp only [Option.some.injEq]at hd
      subst hd
      refine⟨((KO false _ ?_).trans (KO true _ ?_)).trans (Bb.putO hdst r),_,rfl,(LX true _ (LX false _ h)).putO dst r⟩
      ·intro q hq
       simp only [List.mem_map]at hq
       obtain⟨L,⟨l,hl',rfl⟩,rfl⟩:=hq
       exact hc.1.2 l hl'
      ·intro q hq
       have:=(List.of_mem_zip hq).1
       simp only [List.mem_map]at this
       obtain⟨l,hl',e⟩:=this
       rw [←e];exact hc.1.2 l hl'
     ·cases hd
    ·cases hd
   ·cases hd
 ·rename_i hl
  rw [if_neg hl]
  split at hd
  ·cases hd
  ·rename_i as ls has
   try simp only [has]
   split at hd
   ·rename_i r outs hcall
    try simp only [hcall]
    split at hd
    ·rename_i hsl
     rw [if_pos hsl]
     split at hd
     ·rename_i hc
      rw [if_pos hc]
      simp only [Bool.and_eq_true,List.all_eq_true]at hc
      simp only [Option.map_eq_some_iff]at hd
      obtain⟨ls',hf,rfl⟩:=hd
      refine⟨(KO false _ ?_).trans (Bb.putO hdst r),_,by rw [hf];rfl,(LX false _ h).putO dst r⟩
      intro q hq
      have:q.1∈ls.map (·.1):=by rw [←SH hf];exact List.mem_map_of_mem hq
      simp only [List.mem_map]at this
      obtain⟨l,hl',e⟩:=this
      rw [←e];exact hc.2 l hl'
     ·cases hd
    ·rename_i hsl
     rw [if_neg hsl]
     simp only [Option.some.injEq]at hd
     subst hd
     exact⟨Bb.putO hdst r,_,rfl,h.putO dst r⟩
   ·cases hd
end
end Dv
namespace Dv
open Go
def tak:Op→Bool
 | .assign _| .box .. | .build .. | .buildSlice .. | .store .. =>true
 | .call {callee:= .builtin .append, .. }=>true
 |_=>false
section
variable {pm:Pm} {s t s':St} {E:Env}
def CX(pm:Pm)(s t s':St)(r:Option St):Prop:=Bb pm.wr s s'∧ ∃t',r=some t'∧DD pm.rd s' t'
theorem CX.put(h:DD pm.rd s t){dst:Option Tmp}(hd: ∀u,dst=some u→pm.wr u=true)(d:D):CX pm s t (s.putO dst d) (some (t.putO dst d)):=
 ⟨Bb.putO hd d,_,rfl,h.putO dst d⟩
theorem CX.of{α:Type}{r r':Option (α×St)}{x:α}{s1:St}{dst:Option Tmp}(hd: ∀u,dst=some u→pm.wr u=true)(f:α→D)(h:TE pm s t r r')(hr:r=some (x,s1)):
  CX pm s t (s1.putO dst (f x)) (r'.map fun q=>q.2.putO dst (f q.1)):=by
 obtain⟨hs,t1,ht,ha⟩:=h _ _ hr
 exact⟨hs.trans (Bb.putO hd _),_,by rw [ht];rfl,ha.putO dst _⟩
theorem au(h:DD pm.rd s t){L:AA}(hne:L≠[])(hL:pm.rd (L.headD 0)=true): ∀(ys:List D) (i:Nat),Dl s L i ys=Dl t L i ys:=by
 intro ys
 induction ys with
 |nil=>intro i;rfl
 |cons y ys ih=>intro i;simp only [Dl,ih,LW h hne hL]
theorem av(h:DD pm.rd s t){u:Nat}(hu:pm.rd u=true)(i:Nat)(d:D):Hg s u i d=Hg t u i d:=by
 unfold Hg
 split
 ·rw [au h (L:=[u,i]) (by simp) (by simpa using hu)]
 ·exact LW h (L:=[u]) (by simp) (by simpa using hu) i _
theorem ay(h:DD pm.rd s t){u:Nat}(hu:pm.rd u=true): ∀ {xs:List D} {i:Nat},IJ s u i xs=IJ t u i xs:=by
 intro xs
 induction xs with
 |nil=>intro i;rfl
 |cons y ys ih=>intro i;simp only [IJ,ih,av h hu]
theorem Ql(h:DD pm.rd s t){dst:Option Tmp}(hd: ∀u,dst=some u→pm.wr u=true){x:Operand}(hx:BI pm.rd x){d:D}(hm: ∀u,x= .tmp u→d.hasObj=true→d.isObj=false→pm.wr u=true):
  CX pm s t (Bg s dst x d) (some (Bg t dst x d)):=by
 cases x with
 |tmp u=>
  unfold Bg
  simp only
  split
  ·rw [Px h (L:=[u]) (hx u rfl)];exact CX.put h hd _
  ·rename_i ho
   split
   ·rename_i ho'
    have hw:=hm u rfl ho' (by simpa using ho)
    have hcl: ∀d',CX pm s t ((s.clr u).putO dst d') (some ((t.clr u).putO dst d')):=fun d'=>⟨(Bb.clr hw).trans (Bb.putO hd _),_,rfl,(h.clr u).putO dst _⟩
    unfold U7
    split
    ·rw [←ay h (hx u rfl)]
     split
     ·exact hcl _
     ·exact CX.put h hd _
    ·exact hcl _
   ·exact CX.put h hd _
 |_=>exact CX.put h hd _
theorem NY(h:DD pm.rd s t){dst:Option Tmp}(hd: ∀u,dst=some u→pm.wr u=true){x:Operand}(hw:BI pm.wr x){d:D}(ha:Aq pm s dst x d=some s'):
  CX pm s t s' (Aq pm t dst x d):=by
 unfold Aq at ha ⊢
 cases x with
 |tmp u=>
  simp only at ha ⊢
  rw [←eH h]
  split at ha
  ·rename_i htup
   rw [if_pos htup]
   simp only [Option.map_eq_some_iff]at ha
   obtain⟨⟨d1,s1⟩,h1,rfl⟩:=ha
   exact CX.of hd (fun x=>x) (KN d h) h1
  rename_i htup
  rw [if_neg htup]
  split at ha
  ·simp only [Option.map_eq_some_iff]at ha
   obtain⟨⟨d1,s1⟩,h1,rfl⟩:=ha
   exact CX.of hd (fun x=>x) (WK h _ _ _) h1
  ·simp only [Option.some.injEq]at ha
   subst ha
   split
   ·exact⟨(Bb.clr (hw u rfl)).trans (Bb.putO hd _),_,rfl,(h.clr u).putO dst _⟩
   ·exact CX.put h hd _
 |_=>
  simp only [Option.some.injEq]at ha ⊢
  subst ha
  exact CX.put h hd _
theorem SI(h:DD pm.rd s t){dst:Option Tmp}(hd: ∀u,dst=some u→pm.wr u=true){x:Operand}(hx:BI pm.rd x){d:D}{i:Nat}(ha:GG s dst x d i=some s'):
  CX pm s t s' (GG t dst x d i):=by
 unfold GG at ha ⊢
 split at ha
 ·rename_i u xs
  have hru:=hx u rfl
  split at ha
  ·cases ha
  ·rename_i ys hc
   simp only [Option.map_eq_some_iff]at ha
   obtain⟨r,hr,rfl⟩:=ha
   have:(fun j=>Bc s [u,i] j (ys.getD j .undef))=fun j=>Bc t [u,i] j (ys.getD j .undef):=by
    funext j;exact LW h (by simp) (by simpa using hru) j _
   simp only [hc,←this,hr]
   exact CX.put h hd _
  ·rename_i c hne hc
   simp only [Option.map_eq_some_iff]at ha
   obtain⟨r,hr,rfl⟩:=ha
   have:Bc s [u] i c=Bc t [u] i c:=LW h (by simp) (by simpa using hru) i c
   rw [this]at hr
   rw [hr]
   exact CX.put h hd _
 ·cases ha
theorem WQ{T:Tys}(h:DD pm.rd s t){dst:Option Tmp}(hd: ∀u,dst=some u→pm.wr u=true){ty:TypeId}{len:Nat}{parts:Array (Nat×Operand)}
  (hps: ∀q∈parts.toList,BI pm.rd q.2∧BI pm.wr q.2)(ho:Q8 T pm s dst ty len parts=some s'):CX pm s t s' (Q8 T pm t dst ty len parts):=by
 unfold Q8 at ho ⊢
 split at ho
 ·rename_i e hty
  split at ho
  ·rename_i hk
   rw [if_pos hk]
   simp only [Option.map_eq_some_iff]at ho
   obtain⟨⟨ys,s1⟩,hf,rfl⟩:=ho
   exact CX.of hd (fun x=>D.own e x) (TF T _ _ parts.toList _ h hps) hf
  ·cases ho
 ·cases ho
theorem TJ{T:Tys}(h:DD pm.rd s t){dst:Option Tmp}(hd: ∀u,dst=some u→pm.wr u=true){ty:TypeId}{x:Operand}(hx:BI pm.rd x)(hw:BI pm.wr x)
  (ho:LG T pm s dst ty x=some s'):CX pm s t s' (LG T pm t dst ty x):=by
 unfold LG at ho ⊢
 rw [←BZ T h _ hx]
 split at ho
 ·split at ho
  ·rename_i hc
   rw [if_pos hc]
   simp only [Option.some.injEq]at ho;subst ho
   exact CX.put h hd _
  ·cases ho
 split at ho
 ·rename_i d s1 ht
  obtain⟨hs,t1,ht1,ha⟩:=Il T h ty hx hw _ _ ht
  simp only [ht1]
  split at ho
  ·rename_i hc
   rw [if_pos hc]
   simp only [Option.some.injEq]at ho;subst ho
   exact⟨hs.trans (Bb.putO hd _),_,rfl,ha.putO _ _⟩
  ·cases ho
 ·cases ho
theorem TK{T:Tys}(h:DD pm.rd s t){dst:Option Tmp}(hd: ∀u,dst=some u→pm.wr u=true){op:BinOp}{ty:TypeId}{x y:Operand}(hx:BI pm.rd x)(hy:BI pm.rd y)
  (ho:FB T pm s dst op ty x y=some s'):CX pm s t s' (FB T pm t dst op ty x y):=by
 unfold FB at ho ⊢
 rw [←BZ T h _ hx,←BZ T h _ hy]
 split at ho
 ·simp only [Option.bind_eq_some_iff,Option.map_eq_some_iff]at ho
  obtain⟨d,he,b,hb,rfl⟩:=ho
  simp only [he,Option.bind_some,←eG h,hb]
  exact CX.put h hd _
 split at ho
 ·simp only [Option.bind_eq_some_iff,Option.map_eq_some_iff]at ho
  obtain⟨d,he,b,hb,rfl⟩:=ho
  simp only [he,Option.bind_some,hb]
  exact CX.put h hd _
 split at ho
 ·split at ho
  ·rename_i hb
   rw [if_pos hb]
   simp only [Option.map_eq_some_iff]at ho
   obtain⟨r,hr,rfl⟩:=ho
   rw [hr];exact CX.put h hd _
  ·cases ho
 ·cases ho
theorem Qm{dst:Option Tmp}{s1 t1:St}(q1:Bb pm.wr s s1)(q3:DD pm.rd s1 t1)(hf:Du pm s1 dst=some s'):CX pm s t s' (Du pm t1 dst):=by
 unfold Du at hf ⊢
 split at hf
 ·rename_i u
  split at hf
  ·rename_i hc
   rw [if_pos hc]
   simp only [Bool.and_eq_true]at hc
   simp only [Option.map_eq_some_iff]at hf
   obtain⟨c,hfz,rfl⟩:=hf
   rw [←(q3 u hc.1).1,hfz]
   exact⟨q1.trans (Bb.set (L:=[u]) (fun _=>hc.2) _),_,rfl,q3.set _ _⟩
  ·cases hf
 ·cases hf
theorem az{dst:Option Tmp}{s1 t1:St}(q1:Bb pm.wr s s1)(q3:DD pm.rd s1 t1)(hf:KA pm s1 dst=some s'):CX pm s t s' (KA pm t1 dst):=by
 unfold KA at hf ⊢
 split at hf
 ·rename_i u
  split at hf
  ·rename_i hc
   rw [if_pos hc]
   simp only [Bool.and_eq_true]at hc
   split at hf
   ·rename_i e xs hv
    simp only [Option.map_eq_some_iff]at hf
    obtain⟨c,hfz,rfl⟩:=hf
    rw [←(q3 u hc.1).1,hv]
    simp only [hfz,Option.map_some]
    exact⟨q1.trans (Bb.set (L:=[u]) (fun _=>hc.2) _),_,rfl,q3.set _ _⟩
   ·cases hf
  ·cases hf
 ·cases hf
theorem eT{dst:Option Tmp}{u:Tmp}{s1 t1:St}(q1:Bb pm.wr s s1)(q3:DD pm.rd s1 t1)(hf:Vf pm s1 dst u=some s'):CX pm s t s' (Vf pm t1 dst u):=by
 unfold Vf at hf ⊢
 split at hf
 ·rename_i d
  split at hf
  ·rename_i hr
   rw [if_pos hr,←(q3 d hr).1]
   split at hf
   ·rename_i b hv
    split at hf
    ·rename_i hb
     rw [if_pos hb]
     simp only [Option.some.injEq]at hf;subst hf
     exact⟨q1,_,rfl,q3⟩
    ·rename_i hb
     rw [if_neg hb]
     unfold Du at hf ⊢
     simp only at hf ⊢
     split at hf
     ·rename_i hc
      rw [if_pos hc]
      simp only [Bool.and_eq_true]at hc
      simp only [Option.map_eq_some_iff]at hf
      obtain⟨c,hfz,rfl⟩:=hf
      rw [←(q3 u hc.1).1,hfz]
      exact⟨q1.trans (Bb.set (L:=[u]) (fun _=>hc.2) _),_,rfl,q3.set _ _⟩
     ·cases hf
   ·cases hf
  ·cases hf
 ·cases hf
theorem jr{o:Oper}(h:DD pm.rd s t)(hd: ∀u,o.dst=some u→pm.wr u=true)(hx: ∀x∈o.op.operands.toList,BI pm.rd x)
  (hw:tak o.op=true→ ∀x∈o.op.operands.toList,BI pm.wr x)(hm:Xq pm s o=true)(ho:jX E pm s o=some s'):CX pm s t s' (jX E pm t o):=by
 unfold jX at ho ⊢
 cases hop:o.op<;>simp only [hop]at ho hx hw ⊢
 case move x=>
  rw [←BZ E.T h _ (hx x (by simp [Op.operands]))]
  simp only [Option.map_eq_some_iff]at ho
  obtain⟨d,he,rfl⟩:=ho
  rw [he]
  refine Ql h hd (hx x (by simp [Op.operands])) (fun u hu h1 h2=> ?_)
  subst hu
  simp only [ev,Option.some.injEq]at he
  subst he
  simp only [Xq,hop,Bool.or_eq_true,Bool.not_eq_true',h1,h2]at hm
  simpa using hm
 case assign x=>
  rw [←BZ E.T h _ (hx x (by simp [Op.operands]))]
  simp only [Option.bind_eq_some_iff]at ho
  obtain⟨d,he,ha⟩:=ho
  rw [he,Option.bind_some]
  split at ha
  ·rename_i htg
   rw [if_pos htg]
   simp only [Option.bind_eq_some_iff]at ha
   obtain⟨s1,ha,hf⟩:=ha
   obtain⟨q1,t1,q2,q3⟩:=NY h hd (hw rfl x (by simp [Op.operands])) ha
   rw [q2,Option.bind_some]
   unfold Du at hf ⊢
   split at hf
   ·rename_i u _
    split at hf
    ·rename_i hc
     rw [if_pos hc]
     simp only [Bool.and_eq_true]at hc
     simp only [Option.map_eq_some_iff]at hf
     obtain⟨c,hfz,rfl⟩:=hf
     rw [←(q3 u hc.1).1,hfz]
     exact⟨q1.trans (Bb.set (L:=[u]) (fun _=>hc.2) _),_,rfl,q3.set _ _⟩
    ·cases hf
   ·cases hf
  ·rename_i htg
   rw [if_neg htg]
   exact NY h hd (hw rfl x (by simp [Op.operands])) ha
 case nilCheck x=>
  rw [←BZ E.T h _ (hx x (by simp [Op.operands]))]
  simp only [Option.bind_eq_some_iff]at ho
  obtain⟨d,he,ha⟩:=ho
  rw [he]
  have key:(d.hasObj=false∨d.isObj=true)→CX pm s t (Bg s o.dst x d) (some (Bg t o.dst x d)):=fun hq=>Ql h hd (hx x (by simp [Op.operands])) (d:=d) (fun u hu h1 h2=>by rcases hq with hq|hq<;>simp_all)
  simp only [Option.bind_some,←DK h]
  split at ha
  ·simp only [Option.some.injEq]at ha;subst ha;exact key (.inr rfl)
  ·split at ha
   ·rename_i hl;simp only [Option.some.injEq]at ha;subst ha;exact key (.inl rfl)
   ·cases ha
  ·split at ha
   ·rename_i hl;simp only [Option.some.injEq]at ha;subst ha;exact key (.inl rfl)
   ·cases ha
  ·simp only [Option.some.injEq]at ha;subst ha;exact key (.inl rfl)
  ·simp only [Option.some.injEq]at ha;subst ha;exact key (.inl rfl)
  ·simp only [Option.some.injEq]at ha;subst ha;exact key (.inl rfl)
  ·cases ha
 case pick c x y=>
  rw [←BZ E.T h _ (hx c (by simp [Op.operands])),←BZ E.T h _ (hx x (by simp [Op.operands])),←BZ E.T h _ (hx y (by simp [Op.operands]))]
  split at ho
  ·rename_i tb dx dy _ _ _
   by_cases hn:(if tb=true then dx else dy).hasObj=true
   ·rw [if_pos hn]at ho;cases ho
   ·rw [if_neg hn]at ho
    rw [if_neg hn]
    simp only [Option.some.injEq]at ho;subst ho
    exact CX.put h hd _
  ·cases ho
 case alloc ty=>
  split at ho
  ·rename_i hk;rw [if_pos hk];simp only [Option.some.injEq]at ho;subst ho;exact CX.put h hd _
  ·cases ho
 case box ty x=>
  have hxr:=hx x (by simp [Op.operands])
  have hxw:=hw rfl x (by simp [Op.operands])
  split at ho
  ·rename_i htg
   rw [if_pos htg]
   simp only [Option.bind_eq_some_iff]at ho
   obtain⟨s1,ha,hf⟩:=ho
   obtain⟨q1,t1,q2,q3⟩:=TJ (T:=E.T) h hd hxr hxw ha
   rw [q2,Option.bind_some]
   unfold Du at hf ⊢
   split at hf
   ·rename_i u _
    split at hf
    ·rename_i hc
     rw [if_pos hc]
     simp only [Bool.and_eq_true]at hc
     simp only [Option.map_eq_some_iff]at hf
     obtain⟨c,hfz,rfl⟩:=hf
     rw [←(q3 u hc.1).1,hfz]
     exact⟨q1.trans (Bb.set (L:=[u]) (fun _=>hc.2) _),_,rfl,q3.set _ _⟩
    ·cases hf
   ·cases hf
  ·rename_i htg
   rw [if_neg htg]
   exact TJ (T:=E.T) h hd hxr hxw ho
 case build ty parts=>
  split at ho
  ·rename_i htg
   rw [if_pos htg]
   simp only [Option.map_eq_some_iff]at ho
   obtain⟨r,hf,rfl⟩:=ho
   rw [←UU E.T h ty parts.toList (fun q hq=>hx q.2 (by simp [Op.operands];exact⟨q.1,by simpa using hq⟩)),hf,Option.map_some]
   exact CX.put h hd _
  rename_i htg
  rw [if_neg htg]
  split at ho
  ·rename_i fl hn
   split at ho
   ·rename_i hk
    rw [if_pos hk]
    simp only [Option.map_eq_some_iff]at ho
    obtain⟨⟨ys,s1⟩,hf,rfl⟩:=ho
    exact CX.of hd (fun x=>D.agg x) (ae E.T _ parts.toList _ h (fun q hq=>⟨hx q.2 (by simp [Op.operands];exact⟨q.1,by simpa using hq⟩),hw rfl q.2 (by simp [Op.operands];exact⟨q.1,by simpa using hq⟩)⟩)) hf
   ·cases ho
  split at ho
  ·rename_i fs hty
   split at ho
   ·rename_i hk
    rw [if_pos hk]
    simp only [Option.map_eq_some_iff]at ho
    obtain⟨⟨ys,s1⟩,hf,rfl⟩:=ho
    exact CX.of hd (fun x=>D.agg x) (TF E.T _ 1 parts.toList _ h (fun q hq=>⟨hx q.2 (by simp [Op.operands];exact⟨q.1,by simpa using hq⟩),hw rfl q.2 (by simp [Op.operands];exact⟨q.1,by simpa using hq⟩)⟩)) hf
   ·cases ho
  ·cases ho
 case buildSlice ty len parts=>
  have hps: ∀q∈parts.toList,BI pm.rd q.2∧BI pm.wr q.2:=fun q hq=>⟨hx q.2 (by simp [Op.operands];exact⟨q.1,by simpa using hq⟩),hw rfl q.2 (by simp [Op.operands];exact⟨q.1,by simpa using hq⟩)⟩
  split at ho
  ·rename_i htg
   rw [if_pos htg]
   simp only [Option.bind_eq_some_iff]at ho
   obtain⟨s1,ha,hf⟩:=ho
   obtain⟨q1,t1,q2,q3⟩:=WQ (T:=E.T) h hd hps ha
   rw [q2,Option.bind_some]
   unfold KA at hf ⊢
   split at hf
   ·rename_i u _
    split at hf
    ·rename_i hc
     rw [if_pos hc]
     simp only [Bool.and_eq_true]at hc
     split at hf
     ·rename_i e xs hv
      simp only [Option.map_eq_some_iff]at hf
      obtain⟨c,hfz,rfl⟩:=hf
      rw [←(q3 u hc.1).1,hv]
      simp only [hfz,Option.map_some]
      exact⟨q1.trans (Bb.set (L:=[u]) (fun _=>hc.2) _),_,rfl,q3.set _ _⟩
     ·cases hf
    ·cases hf
   ·cases hf
  ·rename_i htg
   rw [if_neg htg]
   exact WQ (T:=E.T) h hd hps ho
 case load ty x=>
  have hxi:=hx x (by simp [Op.operands])
  rw [←BZ E.T h _ hxi]
  simp only [Option.bind_eq_some_iff,Option.map_eq_some_iff]at ho
  obtain⟨d,he,r,hl,rfl⟩:=ho
  rw [he,Option.bind_some,←YD E.T h ty hxi,hl]
  exact CX.put h hd _
 case store ty ax x=>
  split at ho
  ·rename_i hn
   rw [if_pos hn]
   split at ho
   ·rename_i htg
    rw [if_pos htg]
    exact NW E.T ty (hx ax (by simp [Op.operands])) (TG E.T h ty (hx x (by simp [Op.operands])) (hw rfl x (by simp [Op.operands]))) ho
   rename_i htg
   rw [if_neg htg]
   split at ho
   ·rename_i htg
    rw [if_pos htg]
    exact ai E.T h ty (hx x (by simp [Op.operands])) ho
   rename_i htg
   rw [if_neg htg]
   split at ho
   ·rename_i htg
    rw [if_pos htg]
    simp only [Option.bind_eq_some_iff]at ho
    obtain⟨s1,ha,hf⟩:=ho
    obtain⟨q1,t1,q2,q3⟩:=PO E.T h ty (hx x (by simp [Op.operands])) (hw rfl x (by simp [Op.operands])) (hx ax (by simp [Op.operands])) ha
    rw [q2,Option.bind_some]
    exact Qm q1 q3 hf
   rename_i htg
   rw [if_neg htg]
   split at ho
   ·rename_i htg
    rw [if_pos htg]
    exact UT E.T h ty (hx x (by simp [Op.operands])) (hx ax (by simp [Op.operands])) ho
   ·rename_i htg
    rw [if_neg htg]
    exact PO E.T h ty (hx x (by simp [Op.operands])) (hw rfl x (by simp [Op.operands])) (hx ax (by simp [Op.operands])) ho
  ·cases ho
 case binOp op ty x y ty'=>
  split at ho
  ·rename_i htg
   rw [if_pos htg]
   exact TK h hd (hx x (by simp [Op.operands])) (hx y (by simp [Op.operands])) ho
  ·rename_i htg
   rw [if_neg htg]
   simp only [Option.bind_eq_some_iff]at ho
   obtain⟨s1,ha,hf⟩:=ho
   obtain⟨q1,t1,q2,q3⟩:=TK h hd (hx x (by simp [Op.operands])) (hx y (by simp [Op.operands])) ha
   rw [q2,Option.bind_some]
   exact eT q1 q3 hf
 case unOp op ty x=>
  rw [←BZ E.T h _ (hx x (by simp [Op.operands]))]
  simp only [Option.bind_eq_some_iff,Option.map_eq_some_iff]at ho
  obtain⟨d,he,r,hl,rfl⟩:=ho
  rw [he,Option.bind_some,hl]
  exact CX.put h hd _
 case convert src dst x=>
  split at ho
  ·rename_i hk
   rw [if_pos hk,←BZ E.T h _ (hx x (by simp [Op.operands]))]
   split at ho
   ·simp only [Option.some.injEq]at ho;subst ho;exact CX.put h hd _
   ·simp only [Option.some.injEq]at ho;subst ho;exact CX.put h hd _
   ·rename_i e n hev hty
    unfold qH at ho ⊢
    split at ho
    ·split at ho
     ·rename_i he
      simp only [Option.some.injEq]at ho;subst ho
      rw [if_pos he]
      exact CX.put h hd _
     ·cases ho
    ·cases ho
   ·cases ho
  ·cases ho
 case index ty x i=>
  rw [←BZ E.T h _ (hx x (by simp [Op.operands])),←BZ E.T h _ (hx i (by simp [Op.operands]))]
  split at ho
  ·simp only [Option.map_eq_some_iff]at ho
   obtain⟨r,hr,rfl⟩:=ho
   rw [hr]
   exact CX.put h hd _
  ·cases ho
 case makeFunc fn first captured=>
  cases fn<;>simp only at ho ⊢ <;>try (cases ho;done)
  rename_i f
  split at ho
  ·rename_i hty
   rw [if_pos hty]
   split at ho
   ·rename_i hfe
    rw [if_pos hfe]
    simp only [Option.map_eq_some_iff]at ho
    obtain⟨⟨ys,s1⟩,hc,rfl⟩:=ho
    exact CX.of hd (fun x=>D.clo f x) (WO captured.toList h (fun x hx'=>hx x (by simp [Op.operands];right;simpa using hx'))) hc
   ·cases ho
  ·rename_i hty
   rw [if_neg hty]
   split at ho
   ·rename_i hfe
    rw [if_pos hfe]
    simp only [Option.map_eq_some_iff]at ho
    obtain⟨⟨ys,s1⟩,hc,rfl⟩:=ho
    exact CX.of hd (fun x=>D.ocl false f x) (eO _ captured.toList h (fun x hx'=>hx x (by simp [Op.operands];right;simpa using hx'))) hc
   ·cases ho
 case makeSlice ty l c=>
  have key: ∀s1,S9 E.T s o.dst ty l c=some s1→CX pm s t s1 (S9 E.T t o.dst ty l c):=by
   intro s1 ho
   unfold S9 at ho ⊢
   rw [←BZ E.T h _ (hx l (by simp [Op.operands])),←BZ E.T h _ (hx c (by simp [Op.operands]))]
   split at ho
   ·simp only [Option.map_eq_some_iff]at ho
    obtain⟨r,hr,rfl⟩:=ho
    rw [hr];exact CX.put h hd _
   ·cases ho
  split at ho
  ·rename_i htg
   rw [if_pos htg]
   simp only [Option.bind_eq_some_iff]at ho
   obtain⟨s1,ha,hf⟩:=ho
   obtain⟨q1,t1,q2,q3⟩:=key s1 ha
   rw [q2,Option.bind_some]
   exact az q1 q3 hf
  ·rename_i htg
   rw [if_neg htg]
   exact key _ ho
 case slice ty x lo hi mx=>
  have hxi:=hx x (by simp [Op.operands])
  split at ho
  ·rename_i htg
   rw [if_pos htg]
   split at ho
   ·rename_i hlm
    rw [if_pos hlm]
    simp only [Option.map_eq_some_iff]at ho
    obtain⟨⟨r,s1⟩,hl,rfl⟩:=ho
    exact CX.of hd (fun x=>x) (af E.T h ty hxi (fun o ho=>hx o (by simp [Op.operands,ho]))) hl
   ·cases ho
  rename_i htg
  rw [if_neg htg]
  split at ho
  ·rename_i htg
   rw [if_pos htg]
   split at ho
   ·rename_i hlm
    rw [if_pos hlm]
    simp only [Option.map_eq_some_iff]at ho
    obtain⟨⟨r,s1⟩,hl,rfl⟩:=ho
    exact CX.of hd (fun x=>x) (YF E.T h ty hxi (fun o ho=>hx o (by simp [Op.operands,ho]))) hl
   ·cases ho
  rename_i htg
  rw [if_neg htg]
  rw [←BZ E.T h _ hxi]
  simp only [Option.bind_eq_some_iff,Option.map_eq_some_iff]at ho
  obtain⟨d,he,⟨r,s1⟩,hl,rfl⟩:=ho
  rw [he,Option.bind_some]
  have hloc:TE pm s t (GD E.T (if o.type=900001 then pm.see else pm) s ty x d lo hi mx) (GD E.T (if o.type=900001 then pm.see else pm) t ty x d lo hi mx):=by
   split
   ·intro d1 s2 hd1
    obtain⟨q1,q2⟩:=PN (pm:=pm.see) E.T h ty hxi d (fun o ho=>hx o (by simp [Op.operands,ho])) (fun o ho=>hx o (by simp [Op.operands,ho])) (fun o ho=>hx o (by simp [Op.operands,ho])) d1 s2 hd1
    exact⟨fun r _=>q1 r rfl,q2⟩
   ·exact PN E.T h ty hxi d (fun o ho=>hx o (by simp [Op.operands,ho])) (fun o ho=>hx o (by simp [Op.operands,ho])) (fun o ho=>hx o (by simp [Op.operands,ho]))
  exact CX.of hd (fun x=>x) hloc hl
 case fieldAddr ty x i=>
  have hxi:=hx x (by simp [Op.operands])
  rw [←BZ E.T h _ hxi]
  simp only [Option.bind_eq_some_iff,Option.map_eq_some_iff]at ho
  obtain⟨d,he,r,hl,rfl⟩:=ho
  rw [he,Option.bind_some,←Ph E.T h ty hxi,hl]
  exact CX.put h hd _
 case indexAddr ty x i=>
  have hxi:=hx x (by simp [Op.operands])
  rw [←BZ E.T h _ hxi,←BZ E.T h _ (hx i (by simp [Op.operands]))]
  split at ho
  ·simp only [Option.map_eq_some_iff]at ho
   obtain⟨r,hr,rfl⟩:=ho
   simp only [←eD E.T h ty hxi,hr]
   exact CX.put h hd _
  ·cases ho
 case makeMap ty r=>
  split at ho
  ·rename_i hr0
   rw [if_pos hr0]
   simp only [Option.map_eq_some_iff]at ho
   obtain⟨r,hr,rfl⟩:=ho
   rw [hr]
   exact CX.put h hd _
  ·cases ho
 case lookup ty x i ok=>
  rw [←BZ E.T h _ (hx x (by simp [Op.operands])),←BZ E.T h _ (hx i (by simp [Op.operands]))]
  split at ho
  ·simp only [Option.map_eq_some_iff]at ho
   obtain⟨r,hr,rfl⟩:=ho
   simp only [←UO E.T h ty,hr]
   exact CX.put h hd _
  ·cases ho
 case mapUpdate ty x i v=>
  split at ho
  ·rename_i hn
   rw [if_pos hn,←BZ E.T h _ (hx x (by simp [Op.operands])),←BZ E.T h _ (hx i (by simp [Op.operands])),←BZ E.T h _ (hx v (by simp [Op.operands]))]
   split at ho
   ·exact WN E.T h ty x _ _ _ ho
   ·cases ho
  ·cases ho
 case extract x i=>
  rw [←BZ E.T h _ (hx x (by simp [Op.operands]))]
  simp only [Option.bind_eq_some_iff]at ho
  obtain⟨d,he,ha⟩:=ho
  rw [he]
  exact SI h hd (hx x (by simp [Op.operands])) ha
 case call c=>
  have hargs: ∀x∈c.args.toList,BI pm.rd x:=fun x hx'=>hx x (by simp only [Op.operands,Call.operands];simp;right;simpa using hx')
  have hzip: ∀q∈c.args.toList.zip c.argTypes.toList,BI pm.rd q.1:=fun q hq=>hargs q.1 (List.of_mem_zip hq).1
  cases hcal:c.callee<;>simp only [hcal]at ho ⊢
  case builtin b=>
   cases b<;>simp only at ho ⊢
   case len=>
    split at ho
    ·rename_i x ty hargs' hts
     have hxi:=hargs x (by rw [hargs'];simp)
     rw [←BZ E.T h _ hxi]
     simp only [Option.bind_eq_some_iff,Option.map_eq_some_iff]at ho
     obtain⟨d,he,r,hr,rfl⟩:=ho
     rw [he,Option.bind_some,←aa E.T h ty hxi,hr]
     exact CX.put h hd _
    ·cases ho
   case append=>
    split at ho
    ·rename_i x y ty ty' hargs' hts
     split at ho
     ·rename_i htt
      rw [if_pos htt]
      simp only [Option.map_eq_some_iff]at ho
      obtain⟨⟨r,s1⟩,hr,rfl⟩:=ho
      have hwa: ∀x∈c.args.toList,BI pm.wr x:=fun x hx'=>hw (by obtain⟨cal,_,_⟩:=c;simp only at hcal;subst hcal;rfl) x (by simp only [Op.operands,Call.operands];simp;right;simpa using hx')
      rw [←BZ E.T h ty (hargs y (by rw [hargs'];simp))]
      by_cases hz:qG (ev E.T s ty y)=true
      ·simp only [hz,if_true]at hr ⊢
       exact CX.of hd (fun x=>x) (YG E.T h ty (hargs x (by rw [hargs'];simp)) (hwa x (by rw [hargs'];simp))) hr
      ·simp only [hz]at hr ⊢
       exact CX.of hd (fun x=>x) (UQ E.T h ty (hargs x (by rw [hargs'];simp)) (hwa x (by rw [hargs'];simp)) (hargs y (by rw [hargs'];simp)) (hwa y (by rw [hargs'];simp))) hr
     ·cases ho
    ·cases ho
   case min=>
    split at ho
    ·rename_i x y ty ty' hargs' hts
     rw [←BZ E.T h ty (hargs x (by rw [hargs'];simp)),←BZ E.T h ty' (hargs y (by rw [hargs'];simp))]
     split at ho
     ·rename_i da db hea heb
      simp only [Option.map_eq_some_iff]at ho
      obtain⟨r,hr,rfl⟩:=ho
      rw [hr]
      exact CX.put h hd _
     ·cases ho
    ·cases ho
   case max=>
    split at ho
    ·rename_i x y ty ty' hargs' hts
     rw [←BZ E.T h ty (hargs x (by rw [hargs'];simp)),←BZ E.T h ty' (hargs y (by rw [hargs'];simp))]
     split at ho
     ·rename_i da db hea heb
      simp only [Option.map_eq_some_iff]at ho
      obtain⟨r,hr,rfl⟩:=ho
      rw [hr]
      exact CX.put h hd _
     ·cases ho
    ·cases ho
   case clear=>
    split at ho
    ·rename_i x ty hargs' hts
     rw [←BZ E.T h ty (hargs x (by rw [hargs'];simp))]
     simp only [Option.bind_eq_some_iff,Option.map_eq_some_iff]at ho
     obtain⟨da,hea,⟨r,s1⟩,hr,rfl⟩:=ho
     rw [hea,Option.bind_some]
     exact CX.of hd (fun x=>x) (WM E.T h ty (hargs x (by rw [hargs'];simp)) da) hr
    ·cases ho
   case copy=>
    split at ho
    ·rename_i x y ty ty' hargs' hts
     rw [←BZ E.T h ty (hargs x (by rw [hargs'];simp)),←BZ E.T h ty (hargs y (by rw [hargs'];simp))]
     split at ho
     ·rename_i da db hea heb
      simp only [Option.map_eq_some_iff]at ho
      obtain⟨⟨r,s1⟩,hr,rfl⟩:=ho
      exact CX.of hd (fun x=>x) (YE E.T h ty (hargs x (by rw [hargs'];simp)) (hargs y (by rw [hargs'];simp)) da db) hr
     ·cases ho
    ·cases ho
   all_goals (cases ho)
  case value fo=>
   cases fo<;>simp only at ho ⊢
   case func f=>
    split at ho
    ·rename_i hsz
     rw [if_pos hsz]
     split at ho
     ·rename_i hty
      rw [if_pos hty]
      obtain⟨s1,h1,h2⟩:=Option.bind_eq_some_iff.1 ho
      obtain⟨q1,t1,q2,q3⟩:=OZ h hd (fun q hq=>hargs q.1 (List.of_mem_zip hq).1) h1
      rw [q2]
      exact Qm q1 q3 h2
     ·rename_i hty
      rw [if_neg hty]
      exact OZ h hd (fun q hq=>hargs q.1 (List.of_mem_zip hq).1) ho
    ·cases ho
   case tmp u=>
    rw [←(h u (hx (.tmp u) (by simp [Op.operands,Call.operands,hcal]) u rfl)).1]
    split at ho
    ·split at ho
     ·rename_i hsz
      rw [if_pos hsz]
      exact OZ h hd hzip ho
     ·cases ho
    ·split at ho
     ·rename_i hsz
      rw [if_pos hsz]
      exact ak h hd hzip ho
     ·cases ho
    ·cases ho
   all_goals (cases ho)
  all_goals (cases ho)
 all_goals (cases ho)
theorem bA{ops:Array Oper}(h:DD pm.rd s t){o:Oper}(hg: ∀j b u,o.guard=some (j,b)→(ops[j]?).bind (·.dst)=some u→pm.rd u=true):KD ops s o=KD ops t o:=by
 unfold KD
 split
 ·rfl
 ·rename_i j b hgd
  cases hj:(ops[j]?).bind (·.dst)with
  |none=>rfl
  |some u=>simp only;rw [(h u (hg j b u hgd hj)).1]
def Kz(E:Env)(ops:Array Oper)(pm:Pm)(s:St)(o:Oper):Option St:=if Xq pm s o then Hl E ops pm s (QA E.lends ops.toList o)else none
theorem bB{ops:Array Oper}{o:Oper}(h:DD pm.rd s t)(hd: ∀u,o.dst=some u→pm.wr u=true)(hx: ∀x∈o.op.operands.toList,BI pm.rd x)
  (hw:tak o.op=true→ ∀x∈o.op.operands.toList,BI pm.wr x)(hg: ∀j b u,o.guard=some (j,b)→(ops[j]?).bind (·.dst)=some u→pm.rd u=true)
  (ho:Kz E ops pm s o=some s'):CX pm s t s' (Kz E ops pm t o):=by
 unfold Kz at ho ⊢
 split at ho
 ·rename_i hm
  have hmt:Xq pm t o=true:=by
   unfold Xq at hm ⊢
   split
   ·rename_i u hu
    simp only [hu]at hm
    rw [←(h u (hx (.tmp u) (by simp [hu,Op.operands]) u rfl)).1];exact hm
   ·rfl
  rw [if_pos hmt]
  unfold Hl at ho ⊢
  have hwd: ∀q,KD ops q (QA E.lends ops.toList o)=KD ops q o:=fun _=>rfl
  rw [hwd]at ho ⊢
  rw [←bA h hg]
  split at ho
  ·exact jr (o:=QA E.lends ops.toList o) h hd hx hw hm ho
  ·simp only [Option.some.injEq]at ho;subst ho;exact CX.put h hd _
  ·cases ho
 ·cases ho
end
end Dv
namespace Dv
open Go
theorem St.eq_of{s t:St}(h: ∀r,s.v r=t.v r∧s.k r=t.k r∧s.m r=t.m r):s=t:=by
 obtain⟨v,k,m⟩:=s
 obtain⟨v',k',m'⟩:=t
 have h1:v=v':=funext fun r=>(h r).1
 have h2:k=k':=funext fun r=>(h r).2.1
 have h3:m=m':=funext fun r=>(h r).2.2
 subst h1 h2 h3;rfl
section
variable {E:Env} {ops:Array Oper} {l:List Oper} {lends:FuncId→Bool}
theorem LY{o:Oper}{u:Nat}:u∈Eb o↔Operand.tmp u∈o.op.operands.toList:=by
 simp only [Eb,List.mem_filterMap]
 constructor
 ·rintro⟨x,hx,hu⟩
  cases x<;>simp at hu
  subst hu;exact hx
 ·intro h;exact⟨_,h,rfl⟩
theorem Cx{o:Oper}{u:Nat}(h:o.dst=some u):u∈Ea l o:=by
 simp [Ea,h]
theorem Fy{o:Oper}{u:Nat}(h:u∈Eb o):u∈Ea l o:=by
 simp [Ea,h]
theorem YI{o:Oper}{u:Nat}(h:o.dst=some u):u∈Dj lends l o:=by
 unfold Dj
 split
 ·split
  ·simp [h]
  ·exact Cx h
 split
 ·simp [h]
 ·split
  ·simp [h]
  ·simp [h]
  ·split
   ·simp [h]
   ·split<;>simp [h]
  ·simp [h]
  ·simp [h]
  ·split
   ·simp [h]
   ·exact Cx h
  ·split
   ·simp [h]
   ·exact Cx h
  ·split
   ·simp [h]
   ·exact Cx h
  ·exact Cx h
theorem Kl{o:Oper}{r:Nat}(h:r∈Dj lends l o):r∈Ea l o:=by
 unfold Dj at h
 split at h
 ·split at h
  ·unfold Ea
   simp only [List.mem_append]at h ⊢
   rcases h with(h|h)|h<;>simp [h]
  ·exact h
 split at h
 ·exact Cx (by simpa using h)
 ·split at h
  ·rename_i u hu
   simp only [List.mem_append]at h
   rcases h with h|h
   ·exact Cx (by simpa using h)
   ·split at h
    ·simp only [List.mem_singleton]at h
     subst h
     exact Fy (LY.2 (by simp [hu,Op.operands]))
    ·cases h
  ·exact Cx (by simpa using h)
  ·rename_i hop
   split at h
   ·rcases List.mem_append.1 h with h|h
    ·unfold Ea
     simp only [List.mem_append]at h ⊢
     rcases h with(h|h)|h<;>simp [h]
    ·obtain⟨u,hu,rfl⟩:=List.mem_map.1 h
     have hu:=(List.mem_filter.1 hu).1
     unfold Ea Pv
     rw [hop]
     simp only [List.mem_append,List.mem_map]
     exact .inl (.inr ⟨u,hu,rfl⟩)
   ·split at h
    ·rcases List.mem_append.1 h with h|h
     ·exact Cx (by simpa using h)
     ·exact Fy h
    ·exact Cx (by simpa using h)
  ·rename_i hop
   rcases List.mem_append.1 h with h|h
   ·rcases List.mem_append.1 h with h|h
    ·exact Cx (by simpa using h)
    ·exact Fy h
   ·obtain⟨u,hu,rfl⟩:=List.mem_map.1 h
    have hu:=(List.mem_filter.1 hu).1
    unfold Ea Pv
    rw [hop]
    simp only [List.mem_append,List.mem_map]
    exact .inl (.inr ⟨u,hu,rfl⟩)
  ·rename_i hop
   rcases List.mem_append.1 h with h|h
   ·rcases List.mem_append.1 h with h|h
    ·exact Cx (by simpa using h)
    ·exact Fy h
   ·obtain⟨u,hu,rfl⟩:=List.mem_map.1 h
    have hu:=(List.mem_filter.1 hu).1
    unfold Ea Pv
    rw [hop]
    simp only [List.mem_append,List.mem_map]
    exact .inl (.inr ⟨u,hu,rfl⟩)
  ·split at h
   ·rcases List.mem_append.1 h with h|h
    ·exact Cx (by simpa using h)
    ·exact Fy h
   ·exact h
  ·split at h
   ·exact Cx (by simpa using h)
   ·exact h
  ·split at h
   ·rcases List.mem_append.1 h with h|h
    ·exact Cx (by simpa using h)
    ·exact Fy h
   ·exact h
  ·exact h
theorem YJ{o:Oper}(h:tak o.op=true){u:Nat}(hu:u∈Eb o):u∈Dj lends l o:=by
 have hn:u∈Ea l o:=Fy hu
 unfold Dj
 split
 ·split
  ·exact List.mem_append_right _ hu
  ·exact hn
 cases hop:o.op<;>simp only [hop,tak]at h<;>try (cases h;done)
 all_goals (try (simp [Op.calm,hn,hu];done))
 ·simp only [Op.calm,Bool.false_eq_true,if_false]
  split
  ·exact List.mem_append_right _ hu
  ·exact hn
 rename_i c
 obtain⟨cal,_,_⟩:=c
 cases cal with
 |builtin b=>cases b<;>first|(simp [Op.calm,hn];done)|(cases h;done)|(simp only [Op.calm,Bool.false_eq_true,if_false];split<;>simp [hn,hu])
 |_=>cases h
theorem NZ{o:Oper}{r:Nat}(h:r∈Ea l o):(Gc lends l o).rd r=true:=by
 simp [Gc,h]
theorem JK{o:Oper}{r:Nat}:(Gc lends l o).wr r=true↔r∈Dj lends l o:=by
 simp [Gc]
theorem LZ(hl:l=ops.toList){s t s':St}{o:Oper}(h:DD (Gc E.lends l o).rd s t)(ho:Kz E ops (Gc E.lends l o) s o=some s'):
  CX (Gc E.lends l o) s t s' (Kz E ops (Gc E.lends l o) t o):=by
 refine bB h (fun u hu=>JK.2 (YI hu)) (fun x hx u hu=>NZ (Fy (LY.2 (hu▸hx)))) (fun ht x hx u hu=>JK.2 ?_) (fun j b u hg hj=>NZ ?_) ho
 ·exact YJ ht (LY.2 (hu▸hx))
 ·have hj':(l[j]?).bind (·.dst)=some u:=by rw [hl];simpa using hj
  simp [Ea,hg,hj']
theorem PQ{a b:List Nat}(h:ZY a b=false): ∀r,r∈a→r ∉ b:=by
 intro r hr hb
 simp only [ZY,List.any_eq_false,List.contains_iff_mem]at h
 exact h r hr hb
theorem eU{s s1:St}{oi oj:Oper}(hj:oj∈l)(hs:Bb (Gc lends l oj).wr s s1)(hm: ∀r,r∈Dj lends l oj→r ∉ Ea l oi):DD (Gc lends l oi).rd s1 s:=by
 intro r hr
 have hnw:(Gc lends l oj).wr r=false:=by
  cases hw:(Gc lends l oj).wr r with
  |false=>rfl
  |true=>
   rw [JK]at hw
   have h1:=hm r hw
   have h2:r∈l.flatMap (Dj lends l):=List.mem_flatMap.2 ⟨oj,hj,hw⟩
   simp only [Gc,Bool.or_eq_true,List.contains_iff_mem,Bool.not_eq_true']at hr
   rcases hr with hr|hr
   ·exact(h1 hr).elim
   ·rw [←Bool.not_eq_true,List.contains_iff_mem]at hr
    exact(hr h2).elim
 exact hs r hnw
theorem DD.symm{A:Nat→Bool}{s t:St}(h:DD A s t):DD A t s:=fun r hr=>⟨(h r hr).1.symm,(h r hr).2.1.symm,(h r hr).2.2.symm⟩
theorem DD.refl{A:Nat→Bool}{s:St}:DD A s s:=fun _ _=>⟨rfl,rfl,rfl⟩
theorem A6V(hl:l=ops.toList){s s1 s2:St}{oi oj:Oper}(hi:oi∈l)(hj:oj∈l)(h1: ∀r,r∈Dj E.lends l oj→r ∉ Ea l oi)(h2: ∀r,r∈Dj E.lends l oi→r ∉ Ea l oj)
  (a:Kz E ops (Gc E.lends l oj) s oj=some s1)(b:Kz E ops (Gc E.lends l oi) s1 oi=some s2):
  ∃t1,Kz E ops (Gc E.lends l oi) s oi=some t1∧Kz E ops (Gc E.lends l oj) t1 oj=some s2:=by
 have sj:=(LZ hl DD.refl a).1
 obtain⟨si,t1,e1,a1⟩:=LZ hl (eU hj sj h1) b
 have si':=(LZ hl DD.refl e1).1
 obtain⟨_,t2,e2,a2⟩:=LZ hl (eU hi si' h2).symm a
 have sj':=(LZ hl DD.refl e2).1
 refine⟨t1,e1, ?_⟩
 rw [e2]
 congr 1
 refine St.eq_of fun r=> ?_
 by_cases hwi:r∈Dj E.lends l oi
 ·have hnj:(Gc E.lends l oj).wr r=false:=by
   cases hw:(Gc E.lends l oj).wr r with
   |false=>rfl
   |true=>exact(h1 r (JK.1 hw) (Kl hwi)).elim
  obtain⟨p1,p2,p3⟩:=sj' r hnj
  obtain⟨q1,q2,q3⟩:=a1 r (NZ (Kl hwi))
  exact⟨p1.trans q1.symm,p2.trans q2.symm,p3.trans q3.symm⟩
 ·have hni:(Gc E.lends l oi).wr r=false:=by
   cases hw:(Gc E.lends l oi).wr r with
   |false=>rfl
   |true=>exact(hwi (JK.1 hw)).elim
  obtain⟨p1,p2,p3⟩:=si r hni
  by_cases hwj:r∈Dj E.lends l oj
  ·obtain⟨q1,q2,q3⟩:=a2 r (NZ (Kl hwj))
   exact⟨(p1.trans q1).symm,(p2.trans q2).symm,(p3.trans q3).symm⟩
  ·have hnj:(Gc E.lends l oj).wr r=false:=by
    cases hw:(Gc E.lends l oj).wr r with
    |false=>rfl
    |true=>exact(hwj (JK.1 hw)).elim
   obtain⟨q1,q2,q3⟩:=sj r hnj
   obtain⟨u1,u2,u3⟩:=sj' r hnj
   obtain⟨x1,x2,x3⟩:=si' r hni
   exact⟨(u1.trans x1).trans (p1.trans q1).symm,(u2.trans x2).trans (p2.trans q2).symm,(u3.trans x3).trans (p3.trans q3).symm⟩
def qU(E:Env)(ops:Array Oper)(l:List Oper)(s:St)(i:Nat):Option St:=
 match ops[i]? with
 |some o=>Kz E ops (Gc E.lends l o) s o
 |none=>none
def Qn(E:Env)(ops:Array Oper)(l:List Oper):St→List Nat→Option St
 |s,[]=>some s
 |s,i::is=>(qU E ops l s i).bind fun s'=>Qn E ops l s' is
theorem YK: ∀(q:List Oper) (k:Nat) (s:St),ops.toList.drop k=q→LJ E ops l s q=Qn E ops l s (List.range' k q.length):=by
 intro q
 induction q with
 |nil=>intro k s _;rfl
 |cons o q ih=>
  intro k s hq
  have hk:ops[k]? =some o:=by
   have:(ops.toList.drop k)[0]? =some o:=by rw [hq];rfl
   rw [List.getElem?_drop]at this
   simpa using this
  have hd:ops.toList.drop (k+1)=q:=by rw [←List.drop_drop,hq];rfl
  simp only [LJ,List.length_cons,List.range'_succ,Qn,qU,hk,Kz]
  split
  ·cases Hl E ops (Gc E.lends l o) s (QA E.lends ops.toList o)with
   |none=>rfl
   |some s1=>simp only [Option.bind_some];exact ih (k+1) s1 hd
  ·rfl
def xg(lends:FuncId→Bool)(ops:Array Oper)(l:List Oper)(j i:Nat):Prop:=
 ∀oi oj,ops[i]? =some oi→ops[j]? =some oj→(∀r,r∈Dj lends l oj→r ∉ Ea l oi)∧(∀r,r∈Dj lends l oi→r ∉ Ea l oj)
theorem YL(hl:l=ops.toList){i:Nat}{post:List Nat}: ∀(pre:List Nat) {s s':St},(∀j∈pre,xg E.lends ops l j i)→Qn E ops l s (pre++i::post)=some s'→
  ∃t,qU E ops l s i=some t∧Qn E ops l t (pre++post)=some s':=by
 intro pre
 induction pre with
 |nil=>
  intro s s' _ h
  simp only [List.nil_append,Qn,Option.bind_eq_some_iff]at h
  exact h
 |cons j pre ih=>
  intro s s' hf h
  simp only [List.cons_append,Qn,Option.bind_eq_some_iff]at h
  obtain⟨s1,e1,h⟩:=h
  obtain⟨s2,e2,h⟩:=ih (fun j' hj'=>hf j' (List.mem_cons_of_mem _ hj')) h
  unfold qU at e1 e2
  cases hj:ops[j]? with
  |none=>simp [hj]at e1
  |some oj=>
   cases hi:ops[i]? with
   |none=>simp [hi]at e2
   |some oi=>
    simp only [hj]at e1
    simp only [hi]at e2
    obtain⟨f1,f2⟩:=hf j (List.mem_cons_self) oi oj hi hj
    have mi:oi∈l:=by rw [hl];exact List.mem_of_getElem? (i:=i) (by simpa using hi)
    have mj:oj∈l:=by rw [hl];exact List.mem_of_getElem? (i:=j) (by simpa using hj)
    obtain⟨t1,g1,g2⟩:=A6V hl mi mj f1 f2 e1 e2
    refine⟨t1,by simp [qU,hi,g1], ?_⟩
    simp only [List.cons_append,Qn,qU,hj,g2,Option.bind_some]
    exact h
def GJ(acc:List Nat)(o:Oper):List Nat:=acc++[U8 acc o]
theorem Qo(a:List Oper):Pw a=a.foldl GJ []:=rfl
theorem jv: ∀(q:List Oper) (acc:List Nat),∃ext,q.foldl GJ acc=acc++ext∧ext.length=q.length:=by
 intro q
 induction q with
 |nil=>intro acc;exact⟨[],by simp,rfl⟩
 |cons o q ih=>
  intro acc
  obtain⟨ext,h1,h2⟩:=ih (GJ acc o)
  exact⟨_::ext,by rw [List.foldl_cons,h1,GJ,List.append_assoc];rfl,by simp [h2]⟩
theorem YM{acc acc':List Nat}{o:Oper}(h: ∀e∈o.after.toList,Region.binds .any e=true→acc.getD e.on 0=acc'.getD e.on 0):U8 acc o=U8 acc' o:=by
 unfold U8
 generalize o.after.toList=l at h
 generalize (0:Nat)=m0 at h ⊢
 suffices hs: ∀(m:Nat),l.foldl (fun m e=>if Region.binds .any e then(m ||| 2 ^ e.on) ||| acc.getD e.on m0 else m) m=l.foldl (fun m e=>if Region.binds .any e then(m ||| 2 ^ e.on) ||| acc'.getD e.on m0 else m) m from hs m0
 induction l with
 |nil=>intro m;rfl
 |cons e l ih=>
  intro m
  rw [List.foldl_cons,List.foldl_cons]
  have:(if Region.binds .any e then(m ||| 2 ^ e.on) ||| acc.getD e.on m0 else m)=(if Region.binds .any e then(m ||| 2 ^ e.on) ||| acc'.getD e.on m0 else m):=by
   split
   ·rename_i hb;rw [h e (List.mem_cons_self) hb]
   ·rfl
  rw [this]
  exact ih (fun e' he'=>h e' (List.mem_cons_of_mem _ he')) _
theorem TL{acc:List Nat}{o:Oper}{j:Nat}(h:(U8 acc o).testBit j=true): ∃e∈o.after.toList,Region.binds .any e=true∧(j=e.on∨(acc.getD e.on 0).testBit j=true):=by
 unfold U8 at h
 suffices hs: ∀(l:List _) (m:Nat),(l.foldl (fun m e=>if Region.binds .any e then(m ||| 2 ^ e.on) ||| acc.getD e.on 0 else m) m).testBit j=true→m.testBit j=true∨ ∃e∈l,Region.binds .any e=true∧(j=e.on∨(acc.getD e.on 0).testBit j=true) by
  rcases hs _ _ h with h0|h0
  ·simp at h0
  ·exact h0
 intro l
 induction l with
 |nil=>intro m hm;exact .inl hm
 |cons e l ih=>
  intro m hm
  rw [List.foldl_cons]at hm
  rcases ih _ hm with h1|⟨e',he',h2⟩
  ·split at h1
   ·rename_i hb
    rw [Nat.testBit_or,Nat.testBit_or,Bool.or_eq_true,Bool.or_eq_true]at h1
    rcases h1 with(h1|h1)|h1
    ·exact .inl h1
    ·rw [Nat.testBit_two_pow,decide_eq_true_eq]at h1
     exact .inr ⟨e,List.mem_cons_self,hb, .inl h1.symm⟩
    ·exact .inr ⟨e,List.mem_cons_self,hb, .inr h1⟩
   ·exact .inl h1
  ·exact .inr ⟨e',List.mem_cons_of_mem _ he',h2⟩
theorem Zc: ∀(q:List Oper) (acc:List Nat) (i:Nat) (o:Oper),q[i]? =some o→(∀e∈o.after.toList,Region.binds .any e=true→e.on<acc.length+i)→
  (q.foldl GJ acc).getD (acc.length+i) 0=U8 (q.foldl GJ acc) o:=by
 intro q
 induction q with
 |nil=>intro acc i o h;simp at h
 |cons p q ih=>
  intro acc i o hi he
  cases i with
  |zero=>
   simp only [List.getElem?_cons_zero,Option.some.injEq]at hi
   subst hi
   obtain⟨ext,h1,h2⟩:=jv q (GJ acc p)
   rw [List.foldl_cons,h1]
   have h3:(GJ acc p++ext).getD (acc.length+0) 0=U8 acc p:=by
    simp [GJ,List.getD_eq_getElem?_getD]
   rw [h3]
   refine YM fun e hm hb=> ?_
   have:=he e hm hb
   simp only [GJ,List.append_assoc,List.getD_eq_getElem?_getD]
   rw [List.getElem?_append_left (by omega)]
  |succ i=>
   simp only [List.getElem?_cons_succ]at hi
   have hlen:(GJ acc p).length=acc.length+1:=by simp [GJ]
   have:=ih (GJ acc p) i o hi (fun e hm hb=>by rw [hlen];have:=he e hm hb;omega)
   rw [List.foldl_cons]
   rw [hlen]at this
   rw [show acc.length+(i+1)=acc.length+1+i by omega]
   exact this
def eX(ops:Array Oper)(listed:Array Bool):Prop:=
 ∀(i:Nat) (o:Oper),ops[i]? =some o→listed.getD i false=true→ ∀e∈o.after.toList,Region.binds .any e=true→listed.getD e.on false=true
def eY(ops:Array Oper):Prop:= ∀(i:Nat) (o:Oper),ops[i]? =some o→ ∀e∈o.after.toList,Region.binds .any e=true→e.on<i
theorem Qp(hb:eY ops){listed:Array Bool}(hc:eX ops listed): ∀(n i:Nat) (o:Oper),i≤n→ops[i]? =some o→(∀e∈o.after.toList,Region.binds .any e=true→listed.getD e.on false=true)→
  ∀j,((Pw ops.toList).getD i 0).testBit j=true→listed.getD j false=true:=by
 intro n
 induction n with
 |zero=>
  intro i o hi ho _ j hj
  have:i=0:=by omega
  subst this
  have h:=Zc ops.toList [] 0 o (by simpa using ho) (fun e hm hbi=>by have:=hb 0 o ho e hm hbi;omega)
  rw [Qo]at hj
  simp only [List.length_nil,Nat.zero_add]at h
  rw [h]at hj
  obtain⟨e,hm,hbi,hj⟩:=TL hj
  have:=hb 0 o ho e hm hbi;omega
 |succ n ih=>
  intro i o hi ho hl j hj
  have h:=Zc ops.toList [] i o (by simpa using ho) (fun e hm hbi=>by have:=hb i o ho e hm hbi;simpa using this)
  rw [Qo]at hj
  simp only [List.length_nil,Nat.zero_add]at h
  rw [h]at hj
  obtain⟨e,hm,hbi,hj⟩:=TL hj
  have hlt:=hb i o ho e hm hbi
  have hle:=hl e hm hbi
  rcases hj with rfl|hj
  ·exact hle
  ·have hon:e.on<ops.size:=by
    have:i<ops.size:=(Array.getElem?_eq_some_iff.1 ho).1
    omega
   exact ih e.on ops[e.on] (by omega) (Array.getElem?_eq_getElem hon) (hc e.on _ (Array.getElem?_eq_getElem hon) hle) j hj
theorem UW(h:KZ lends ops.toList=true):eY ops:=by
 simp only [KZ,Bool.and_eq_true,List.all_eq_true]at h
 intro i o ho e hm hb
 have:=h.1 (o,i) (by rw [List.mem_zipIdx_iff_getElem?];simpa using ho) e hm
 simpa [hb] using this
theorem WS(h:KZ lends ops.toList=true){i j:Nat}(hji:j<i)(hi:i<ops.size)(hn: ¬((Pw ops.toList).getD i 0).testBit j=true):xg lends ops ops.toList j i:=by
 simp only [KZ,Bool.and_eq_true,List.all_eq_true]at h
 have:=h.2 i (by simpa using hi) j (by simpa using hji)
 simp only [Bool.or_eq_true,Bool.and_eq_true,Bool.not_eq_true']at this
 rcases this with hc|⟨h1,h2⟩
 ·exact(hn hc).elim
 ·intro oi oj hoi hoj
  have gi:ops.toList[i]? =some oi:=by simpa using hoi
  have gj:ops.toList[j]? =some oj:=by simpa using hoj
  simp only [List.getD_eq_getElem?_getD,List.getElem?_map,gi,gj,Option.map_some,Option.getD_some]at h1 h2
  exact⟨PQ h1,fun r hw hn=>PQ h2 r hn hw⟩
def rem(n:Nat)(listed:Array Bool):List Nat:=(List.range n).filter fun i=> !listed.getD i true
theorem PR{n i:Nat}(h:i<n):List.range n=List.range i++i::List.range' (i+1) (n-i-1):=by
 have h1:n=i+((n-i-1)+1):=by omega
 rw [List.range_eq_range',List.range_eq_range']
 conv=>lhs;rw [h1,←List.range'_append_1]
 rw [List.range'_succ]
 simp
theorem Im{listed:Array Bool}{i j:Nat}(h:j≠i)(b c:Bool):(listed.setIfInBounds i b).getD j c=listed.getD j c:=by
 simp only [Array.getD_eq_getD_getElem?]
 rw [Array.getElem?_setIfInBounds_ne (Ne.symm h)]
theorem PS{listed:Array Bool}{i:Nat}(h:i<listed.size)(b c:Bool):(listed.setIfInBounds i b).getD i c=b:=by
 simp [Array.getD_eq_getD_getElem?,h]
theorem bC{n i:Nat}{listed:Array Bool}(hsz:listed.size=n)(hi:i<n)(hl:listed.getD i true=false):
  ∃pre post,rem n listed=pre++i::post∧rem n (listed.setIfInBounds i true)=pre++post∧ ∀j∈pre,j<i∧listed.getD j true=false:=by
 refine⟨(List.range i).filter fun i=> !listed.getD i true,(List.range' (i+1) (n-i-1)).filter fun i=> !listed.getD i true, ?_, ?_,fun j hj=> ?_⟩
 ·rw [rem,PR hi,List.filter_append,List.filter_cons];simp [hl]
 ·rw [rem,PR hi,List.filter_append,List.filter_cons,PS (by omega)]
  simp only [Bool.not_true,Bool.false_eq_true,if_false]
  congr 1
  ·refine List.filter_congr fun j hj=> ?_
   rw [Im (by simp at hj;omega)]
  ·refine List.filter_congr fun j hj=> ?_
   rw [Im (by simp [List.mem_range']at hj;omega)]
 ·simp only [List.mem_filter,List.mem_range,Bool.not_eq_true']at hj
  exact hj
theorem Na{listed:Array Bool}{i:Nat}(h:i<listed.size)(b c:Bool):listed.getD i b=listed.getD i c:=by
 simp [Array.getD_eq_getD_getElem?,h]
theorem MF{listed:Array Bool}{i:Nat}:i∈Region.ready .any ops listed↔ ∃o,ops[i]? =some o∧listed.getD i true=false∧ ∀e∈o.after.toList,Region.binds .any e=true→listed.getD e.on false=true:=by
 simp only [Region.ready,List.mem_filter,List.mem_range,Bool.and_eq_true,Bool.not_eq_true']
 constructor
 ·rintro⟨h1,h2,h3⟩
  refine⟨ops[i],Array.getElem?_eq_getElem h1,h2,fun e he hb=> ?_⟩
  rw [Array.getElem?_eq_getElem h1]at h3
  simp only [Option.map_some,Option.getD_some,Array.all_eq_true_iff_forall_mem,Bool.or_eq_true,Bool.not_eq_true']at h3
  rcases h3 e (by simpa using he)with h|h
  ·rw [hb]at h;cases h
  ·exact h
 ·rintro⟨o,ho,h2,h3⟩
  refine⟨(Array.getElem?_eq_some_iff.1 ho).1,h2, ?_⟩
  rw [ho]
  simp only [Option.map_some,Option.getD_some,Array.all_eq_true_iff_forall_mem,Bool.or_eq_true,Bool.not_eq_true']
  intro e he
  cases hb:Region.binds .any e with
  |false=>exact .inl rfl
  |true=>exact .inr (h3 e (by simpa using he) hb)
theorem bD(hb:eY ops){listed:Array Bool}(hsz:listed.size=ops.size)(h:Region.ready .any ops listed=[]):rem ops.size listed=[]:=by
 have key: ∀(n i:Nat),i≤n→i<ops.size→listed.getD i false=true:=by
  intro n
  induction n with
  |zero=>
   intro i hi hlt
   have:i=0:=by omega
   subst this
   rw [Na (by omega) false true]
   cases hl:listed.getD 0 true with
   |true=>rfl
   |false=>
    have:0∈Region.ready .any ops listed:=MF.2 ⟨ops[0],Array.getElem?_eq_getElem hlt,hl,fun e he hbi=>by have:=hb 0 _ (Array.getElem?_eq_getElem hlt) e he hbi;omega⟩
    rw [h]at this;cases this
  |succ n ih=>
   intro i hi hlt
   rw [Na (by omega) false true]
   cases hl:listed.getD i true with
   |true=>rfl
   |false=>
    have:i∈Region.ready .any ops listed:=MF.2 ⟨ops[i],Array.getElem?_eq_getElem hlt,hl,fun e he hbi=>by
     have:=hb i _ (Array.getElem?_eq_getElem hlt) e he hbi
     exact ih e.on (by omega) (by omega)⟩
    rw [h]at this;cases this
 rw [rem,List.filter_eq_nil_iff]
 intro i hi
 have:=key i i (Nat.le_refl _) (by simpa using hi)
 rw [Na (by simp at hi;omega) true false,this];simp
theorem eZ{P:Program}{N:Nat}{gh:Nat→Value}(hT:BU P E.T)(hC:Ho P E)(hops: ∀(j:Nat) (o:Oper),ops[j]? =some o→Mt N o)(hok:KZ E.lends ops.toList=true):
  ∀(fuel:Nat) (listed:Array Bool) {s s':St} {a:Act} {w:World} {S:Nat→Prop} {Fs:Nat→Nat→Prop} {Q:Exit→Act→World→Prop},
  listed.size=ops.size→eX ops listed→(rem ops.size listed).length≤fuel→Fr E.T N gh s a w S Fs→Qn E ops ops.toList s (rem ops.size listed)=some s'→
  (∀a' w',Be E.T gh N s' w S Fs a' w'→Q .normal a' w')→wpAny P .any ops Q fuel listed a w:=by
 have hb:=UW hok
 have hdone: ∀ {listed:Array Bool} {s s':St} {a:Act} {w:World} {S:Nat→Prop} {Fs:Nat→Nat→Prop} {Q:Exit→Act→World→Prop},rem ops.size listed=[]→Fr E.T N gh s a w S Fs→Qn E ops ops.toList s (rem ops.size listed)=some s'→
   (∀a' w',Be E.T gh N s' w S Fs a' w'→Q .normal a' w')→Q .normal a w:=by
  intro listed s s' a w S Fs Q hr hf hrun hQ
  rw [hr]at hrun
  simp only [Qn,Option.some.injEq]at hrun
  subst hrun
  exact hQ a w ⟨S,Fs,hf.rel,Step.refl _ _ _,hf.defs,hf.size⟩
 intro fuel
 induction fuel with
 |zero=>
  intro listed s s' a w S Fs Q hsz hc hlen hf hrun hQ
  have hr:rem ops.size listed=[]:=List.eq_nil_of_length_eq_zero (by omega)
  refine⟨?_,hdone hr hf hrun hQ⟩
  rw [List.eq_nil_iff_forall_not_mem]
  intro i hi
  obtain⟨o,ho,hl,_⟩:=MF.1 hi
  have:i∈rem ops.size listed:=by
   simp only [rem,List.mem_filter,List.mem_range,hl]
   exact⟨(Array.getElem?_eq_some_iff.1 ho).1,rfl⟩
  rw [hr]at this;cases this
 |succ fuel ih=>
  intro listed s s' a w S Fs Q hsz hc hlen hf hrun hQ
  refine⟨fun hr=>hdone (bD hb hsz hr) hf hrun hQ,fun i hi=> ?_⟩
  obtain⟨o,ho,hl,he⟩:=MF.1 hi
  have hlt:i<ops.size:=(Array.getElem?_eq_some_iff.1 ho).1
  obtain⟨pre,post,e1,e2,hpre⟩:=bC hsz hlt hl
  rw [e1]at hrun hlen
  obtain⟨t,ht,hrun'⟩:=YL rfl pre (fun j hj=>by
   obtain⟨hji,hjl⟩:=hpre j hj
   refine WS hok hji hlt (fun hm=> ?_)
   have:=Qp hb hc i i o (Nat.le_refl _) ho he j hm
   rw [Na (by omega) false true,hjl]at this;cases this) hrun
  have hst:Hl E ops (Gc E.lends ops.toList o) s (QA E.lends ops.toList o)=some t:=by
   simp only [qU,ho,Kz]at ht
   split at ht
   ·exact ht
   ·cases ht
  refine YA hT hC hf hops ho hst (fun a' w' hp=> ?_)
  obtain⟨S',Fs',hf',hst'⟩:=hp.fr hf
  refine ih _ (by simp [hsz]) ?_ (by rw [e2];simp at hlen ⊢;omega) hf' (by rw [e2];exact hrun') (fun a2 w2 hp2=>hQ a2 w2 (hp2.back hst'))
  intro k ok hk hkl e hm hbi
  by_cases hki:k=i
  ·subst hki
   rw [ho]at hk
   simp only [Option.some.injEq]at hk
   subst hk
   have hon:=hb k o ho e hm hbi
   rw [Im (by omega)]
   exact he e hm hbi
  ·rw [Im hki]at hkl
   have:=hc k ok hk hkl e hm hbi
   by_cases hei:e.on=i
   ·rw [hei,PS (by omega)]
   ·rw [Im hei];exact this
theorem Fr.drawn{T:Tys}{N:Nat}{gh:Nat→Value}{s:St}{a:Act}{w:World}{S:Nat→Prop}{Fs:Nat→Nat→Prop}(h:Fr T N gh s a w S Fs)(n:Nat):Fr T N gh s a {w with drawn:=n} S Fs:=
 ⟨h.rel.grow (fun _ _=>rfl) (Nat.le_refl _),h.defs,h.size,h.small,h.inv⟩
theorem jw{P:Program}(hm:P.follows .mixedOrders=true)(hT:BU P E.T)(hC:Ho P E):UN P E:=by
 intro s s' gh a w S Fs N ops Q hf hk hok hd hQ t
 have hops: ∀(j:Nat) (o:Oper),ops[j]? =some o→Mt N o:=fun j o ho=>UM (List.all_eq_true.1 hk o (by simpa using Array.mem_of_getElem? ho))
 simp only [Region.schedule,hm,Bool.true_or,if_true]
 refine wpAny_sound ops.size _ _ a _ ?_
 have hrem:rem ops.size (Array.replicate ops.size false)=List.range ops.size:=by
  rw [rem,List.filter_eq_self]
  intro i hi
  simp at hi
  simp [Array.getD_eq_getD_getElem?,hi]
 refine eZ (s':=s') hT hC hops hok ops.size _ (by simp) ?_ (by rw [hrem];simp) (hf.drawn _) ?_ (fun a' w' hp=>hQ a' w' ?_)
 ·intro i o ho hl
  have:i<ops.size:=(Array.getElem?_eq_some_iff.1 ho).1
  simp [Array.getD_eq_getD_getElem?,this]at hl
 ·rw [YK ops.toList 0 s rfl]at hd
  rw [hrem,List.range_eq_range']
  simpa using hd
 ·obtain⟨S',Fs',h1,h2,h3,h4⟩:=hp
  exact⟨S',Fs',h1,⟨h2.os,h2.tape,h2.output,h2.size,h2.heap,h2.sS,h2.sS',h2.sF⟩,h3,h4⟩
end
end Dv
namespace Dv
open Go
def VG(gh:Nat→Value):AA→Nat→Nat→Value→Prop:=fun L n m v=> ∃j,L=[G+j]∧n=0∧m=0∧v=gh j
def jy(s:St)(w:World)(rv:Nat→Value)(L:AA)(c:D)(v:Value):Prop:=
 c.isObj=true∧((L=[]∧(∃e,c= .own e [])∧ ∃A,v= .slice A 0 0)∨ ∃t p,L=t::p∧BK (s.v t) p=some c∧DI w rv L=some v)
section
variable {T:Tys} {s s':St} {rv:Nat→Value} {w w':World} {S S':Nat→Prop} {Fs:Nat→Nat→Prop} {pm:Pm}
variable {V:AA→Nat→Nat→Value→Prop} {Vp:AA→Nat→Nat→Nat→Value→Prop}
mutual
theorem UX: ∀(d:D) {v:Value} {F:Nat→Prop},W T S w V Vp d v F→(CZ d).isSome=true→W T S w V0 Fj d v F
 | .own e xs,_,_,h,ho=>by
  cases h with
  |own0 h=>exact .own0 h
  |own us Fi hb hz hn hc hm hx hF hFb hd hS hw=>
   refine .own us Fi hb hz hn hc hm hx hF hFb hd hS (fun i x hi=>Nb xs (by simpa [CZ] using ho) i x hi (hw i x hi))
 | .box xs,_,_,h,ho=>by
  cases h with
  |box us Fi hb hz hx hF hFb hd hS hw=>
   exact .box us Fi hb hz hx hF hFb hd hS (fun i x hi=>Nb xs (by simpa [CZ] using ho) i x hi (hw i x hi))
 | .agg xs,_,_,h,ho=>by
  cases h with
  |agg us Fi hz hx hF hd hw=>exact .agg us Fi hz hx hF hd (fun i x hi=>Nb xs (by simpa [CZ] using ho) i x hi (hw i x hi))
 | .tup xs,_,_,h,ho=>by
  cases h with
  |tup us Fi hz hx hF hd hw=>exact .tup us Fi hz hx hF hd (fun i x hi=>Nb xs (by simpa [CZ] using ho) i x hi (hw i x hi))
 | .vw _ _ _,_,_,_,ho=>by simp [CZ]at ho
 | .pe _ _ _ _,_,_,_,ho=>by simp [CZ]at ho
 | .vs _ _ _ _ _ _,_,_,_,ho=>by simp [CZ]at ho
 | .undef,_,_,_,ho=>by simp [CZ]at ho
 | .int k n,_,_,h,_=>by cases h with|int h=>exact .int h
 | .bool b,_,_,h,_=>by cases h with|bool h=>exact .bool h
 | .str x,_,_,h,_=>by cases h with|str h=>exact .str h
 | .konst v,_,_,h,_=>by cases h with|konst h=>exact .konst h
 | .err,_,_,h,_=>by cases h with|err h=>exact .err h
 | .sl e xs,_,_,h,_=>by cases h with|sl us h hn hc hm hx hw=>exact .sl us h hn hc hm hx hw
 | .clo f xs,_,_,h,_=>by cases h with|clo us h hz hx hw=>exact .clo us h hz hx hw
 | .ocl _ _ _,_,_,_,ho=>by simp [CZ]at ho
 | .cptr xs,_,_,h,_=>by cases h with|cptr us h hx hw=>exact .cptr us h hx hw
theorem Nb: ∀(xs:List D),(Bz xs).isSome=true→ ∀(i:Nat) (x:D),xs[i]? =some x→ ∀ {v:Value} {F:Nat→Prop},W T S w V Vp x v F→W T S w V0 Fj x v F
 | [],_,i,x,hi,_,_,_=>by simp at hi
 |d::ds,ho,i,x,hi,_,_,h=>by
  simp only [Bz,Option.isSome_bind,Option.any_eq_true,Option.isSome_map]at ho
  obtain⟨d',hd,hds⟩:=ho
  cases i with
  |zero=>
   simp only [List.getElem?_cons_zero,Option.some.injEq]at hi
   subst hi
   exact UX d h (by simp [hd])
  |succ i=>
   simp only [List.getElem?_cons_succ]at hi
   exact Nb ds hds i x hi h
end
theorem qV{d:D}{v:Value}{F:Nat→Prop}(h:W T S' w V Vp d v F):CG d=false→(∀k,F k→ ¬S k)→W T S w V Vp d v F:=by
 have hsl: ∀(xs:List D),CJ xs=false→ ∀(i:Nat) (x:D),xs[i]? =some x→CG x=false:=by
  intro xs
  induction xs with
  |nil=>intro _ i x hi;simp at hi
  |cons d ds ih=>
   intro hx i x hi
   simp only [CJ,Bool.or_eq_false_iff]at hx
   cases i with
   |zero=>simp at hi;subst hi;exact hx.1
   |succ i=>simp at hi;exact ih hx.2 i x hi
 induction h with
 |undef h=>exact fun _ _=> .undef h
 |int h=>exact fun _ _=> .int h
 |bool h=>exact fun _ _=> .bool h
 |str h=>exact fun _ _=> .str h
 |konst h=>exact fun _ _=> .konst h
 |err h=>exact fun _ _=> .err h
 |sl us h hn hc hm hx hw ih=>
  intro hs _
  simp only [CG,Bool.not_eq_false',List.isEmpty_iff]at hs
  subst hs
  exact .sl us h hn hc hm (by simp) (by simp)
 |own0 h=>exact fun _ _=> .own0 h
 |own us Fi hb hz hn hc hm hx hF hFb hd hSb hw ih=>
  intro hs hk
  exact .own us Fi hb hz hn hc hm hx hF hFb hd (hk _ ((hF _).2 (.inl rfl))) (fun i x hi=>ih i x hi (hsl _ (by simpa [CG] using hs) i x hi) (fun k hf=>hk k ((hF k).2 (.inr ⟨i,(List.getElem?_eq_some_iff.1 hi).1,hf⟩))))
 |box us Fi hb hz hx hF hFb hd hSb hw ih=>
  intro hs hk
  exact .box us Fi hb hz hx hF hFb hd (hk _ ((hF _).2 (.inl rfl))) (fun i x hi=>ih i x hi (hsl _ (by simpa [CG] using hs) i x hi) (fun k hf=>hk k ((hF k).2 (.inr ⟨i,(List.getElem?_eq_some_iff.1 hi).1,hf⟩))))
 |cptr us h hx hw ih=>intro hs;simp [CG]at hs
 |agg us Fi hz hx hF hd hw ih=>
  intro hs hk
  exact .agg us Fi hz hx hF hd (fun i x hi=>ih i x hi (hsl _ (by simpa [CG] using hs) i x hi) (fun k hf=>hk k ((hF k).2 ⟨i,(List.getElem?_eq_some_iff.1 hi).1,hf⟩)))
 |tup us Fi hz hx hF hd hw ih=>
  intro hs hk
  exact .tup us Fi hz hx hF hd (fun i x hi=>ih i x hi (hsl _ (by simpa [CG] using hs) i x hi) (fun k hf=>hk k ((hF k).2 ⟨i,(List.getElem?_eq_some_iff.1 hi).1,hf⟩)))
 |clo us h hz hx hw ih=>
  intro hs _
  simp only [CG,Bool.not_eq_false',List.isEmpty_iff]at hs
  subst hs
  exact .clo us h hz (by simp) (by simp)
 |ocl=>intro hs;simp [CG]at hs
 |mp=>intro hs;simp [CG]at hs
 |vw=>intro hs;simp [CG]at hs
 |pe=>intro hs;simp [CG]at hs
 |vs=>intro hs;simp [CG]at hs
theorem xh(rv:Nat→Value)(t:Nat):DI w rv [t]=some (rv t):=by simp [DI,Af]
theorem Mi{lend:Bool}{j:Nat}{L0:AA}{d a:D}{v:Value}{F:Nat→Prop}{l:List (AA×D)}(hW:WR T s rv w S d v F)
  (hsrc:d.isObj=true→(L0=[]∧(∃e,d= .own e [])∧ ∃A,v= .slice A 0 0)∨ ∃t p,L0=t::p∧BK (s.v t) p=some d∧DI w rv L0=some v)
  (ha:EE lend pm s j L0 d=some (a,l)):
  (l=[]∧ ∀S' V Vp,(∀k,S k→S' k)→W T S' w V Vp a v (fun _=>False))∨
   ∃L c,l=[(L,c)]∧jy s w rv L c v∧(lend=true→a= .vw [G+j] 0 0)∧(lend=false→CZ c=some a):=by
 have plain:d.hasObj=false→CZ d=some d→a=d→l=[]→(l=[]∧ ∀S' V Vp,(∀k,S k→S' k)→W T S' w V Vp a v (fun _=>False)):=by
  intro hno hf ha hl
  refine⟨hl,fun S' V Vp hS=> ?_⟩
  subst ha
  exact(hW.freeze a hf (fun k hk=>(CR hW hno k hk).elim) hS).up
 unfold EE at ha
 split at ha
 ·rename_i L n m
  cases hl:s.look pm L n m with
  |none=>simp [hl]at ha
  |some c=>
   simp only [hl]at ha
   obtain⟨t,p,rfl,hg,hobj,hval⟩:=CU hl
   have hfo:DI w rv (t::p)=some v:=by
    cases hW with
    |vw h hv=>exact hv.2 hval
   have hS:jy s w rv (t::p) c v:=⟨hobj, .inr ⟨t,p,rfl,hg,hfo⟩⟩
   right
   cases lend with
   |true=>
    simp only [if_true,Option.some.injEq,Prod.mk.injEq]at ha
    obtain⟨rfl,rfl⟩:=ha
    exact⟨_,_,rfl,hS,(fun _=>rfl),(fun h=>by cases h)⟩
   |false=>
    simp only [Bool.false_eq_true,if_false,Option.map_eq_some_iff,Prod.mk.injEq]at ha
    obtain⟨c',hc',rfl,rfl⟩:=ha
    exact⟨_,_,rfl,hS,(fun h=>by cases h),fun _=>hc'⟩
 ·rename_i e xs
  have hS:jy s w rv L0 (.own e xs) v:=⟨rfl,hsrc rfl⟩
  right
  cases lend with
  |true=>
   simp only [if_true,Option.some.injEq,Prod.mk.injEq]at ha
   obtain⟨rfl,rfl⟩:=ha
   exact⟨_,_,rfl,hS,(fun _=>rfl),(fun h=>by cases h)⟩
  |false=>
   simp only [Bool.false_eq_true,if_false,Option.map_eq_some_iff,Prod.mk.injEq]at ha
   obtain⟨c',hc',rfl,rfl⟩:=ha
   exact⟨_,_,rfl,hS,(fun h=>by cases h),fun _=>hc'⟩
 ·rename_i xs
  have hS:jy s w rv L0 (.box xs) v:=⟨rfl,hsrc rfl⟩
  right
  cases lend with
  |true=>
   simp only [if_true,Option.some.injEq,Prod.mk.injEq]at ha
   obtain⟨rfl,rfl⟩:=ha
   exact⟨_,_,rfl,hS,(fun _=>rfl),(fun h=>by cases h)⟩
  |false=>
   simp only [Bool.false_eq_true,if_false,Option.map_eq_some_iff,Prod.mk.injEq]at ha
   obtain⟨c',hc',rfl,rfl⟩:=ha
   exact⟨_,_,rfl,hS,(fun h=>by cases h),fun _=>hc'⟩
 ·cases ha
 ·cases ha
 ·cases ha
 ·cases ha
 ·cases ha
 ·cases ha
 ·cases ha
 ·rename_i h1 h2 h3 h4 h5 h6 h7 h8 h9 h10
  simp only [Option.some.injEq,Prod.mk.injEq]at ha
  left
  refine plain ?_ ?_ ha.1.symm ha.2.symm
  ·cases d<;>first|rfl|(exact(h2 _ _ rfl).elim)|(exact(h3 _ rfl).elim)|(exact(h5 _ rfl).elim)|(exact(h6 _ rfl).elim)|(exact(h10 _ _ _ rfl).elim)
  ·cases d<;>first|rfl|(exact(h1 _ _ _ rfl).elim)|(exact(h2 _ _ rfl).elim)|(exact(h3 _ rfl).elim)|(exact(h4 rfl).elim)|(exact(h5 _ rfl).elim)|(exact(h6 _ rfl).elim)|(exact(h7 _ _ _ _ rfl).elim)|(exact(h8 _ _ _ _ _ _ rfl).elim)|(exact(h9 _ _ _ rfl).elim)|(exact(h10 _ _ _ rfl).elim)
def IC(s:St)(w:World)(rv:Nat→Value)(ls:List (AA×D))(lv:List Value):Prop:=
 lv.length=ls.length∧ ∀(i:Nat) (q:AA×D) (v:Value),ls[i]? =some q→lv[i]? =some v→jy s w rv q.1 q.2 v
theorem IC.nil:IC s w rv [] []:=⟨rfl,by simp⟩
theorem IC.append{l1 l2:List (AA×D)}{v1 v2:List Value}(h1:IC s w rv l1 v1)(h2:IC s w rv l2 v2):IC s w rv (l1++l2) (v1++v2):=by
 refine⟨by simp [h1.1,h2.1],fun i q v hq hv=> ?_⟩
 rcases Nat.lt_or_ge i l1.length with hi|hi
 ·rw [List.getElem?_append_left hi]at hq
  rw [List.getElem?_append_left (by rw [h1.1];exact hi)]at hv
  exact h1.2 i q v hq hv
 ·rw [List.getElem?_append_right hi]at hq
  rw [List.getElem?_append_right (by rw [h1.1];exact hi),h1.1]at hv
  exact h2.2 _ q v hq hv
def Ei(T:Tys)(s:St)(w:World)(rv:Nat→Value)(S:Nat→Prop)(lend:Bool)(j:Nat)(ls:List (AA×D))(lv:List Value)(K:(gh:Nat→Value)→(S':Nat→Prop)→Prop):Prop:=
 ∀(gh:Nat→Value) (S':Nat→Prop),(∀k,S k→S' k)→(lend=true→ ∀(i:Nat) (v:Value),lv[i]? =some v→gh (j+i)=v)→
  (lend=false→ ∀(i:Nat) (q:AA×D) (v:Value) (c':D),ls[i]? =some q→lv[i]? =some v→jy s w rv q.1 q.2 v→CZ q.2=some c'→W T S' w V0 Fj c' v (fun _=>False))→K gh S'
theorem Ei.left{lend:Bool}{j:Nat}{l1 l2:List (AA×D)}{v1 v2:List Value}{K:(gh:Nat→Value)→(S':Nat→Prop)→Prop}(h1:IC s w rv l1 v1)(h:Ei T s w rv S lend j l1 v1 K):Ei T s w rv S lend j (l1++l2) (v1++v2) K:=by
 intro gh S' hS hg ha
 refine h gh S' hS (fun hl i v hv=> ?_) (fun hl i q v c' hq hv hs hf=> ?_)
 ·exact hg hl i v (by rw [List.getElem?_append_left (List.getElem?_eq_some_iff.1 hv).1];exact hv)
 ·exact ha hl i q v c' (by rw [List.getElem?_append_left (List.getElem?_eq_some_iff.1 hq).1];exact hq) (by rw [List.getElem?_append_left (List.getElem?_eq_some_iff.1 hv).1];exact hv) hs hf
theorem Ei.right{lend:Bool}{j:Nat}{l1 l2:List (AA×D)}{v1 v2:List Value}{K:(gh:Nat→Value)→(S':Nat→Prop)→Prop}(h1:IC s w rv l1 v1)(h:Ei T s w rv S lend (j+l1.length) l2 v2 K):Ei T s w rv S lend j (l1++l2) (v1++v2) K:=by
 intro gh S' hS hg ha
 refine h gh S' hS (fun hl i v hv=> ?_) (fun hl i q v c' hq hv hs hf=> ?_)
 ·rw [Nat.add_assoc]
  exact hg hl (l1.length+i) v (by rw [←h1.1,List.getElem?_append_right (by omega)];simpa using hv)
 ·exact ha hl (l1.length+i) q v c' (by rw [List.getElem?_append_right (by omega)];simpa using hq) (by rw [←h1.1,List.getElem?_append_right (by omega)];simpa using hv) hs hf
theorem Jy{lend:Bool}{j:Nat}{L0:AA}{d a:D}{v:Value}{F:Nat→Prop}{l:List (AA×D)}(hW:WR T s rv w S d v F)
  (hsrc:d.isObj=true→(L0=[]∧(∃e,d= .own e [])∧ ∃A,v= .slice A 0 0)∨ ∃t p,L0=t::p∧BK (s.v t) p=some d∧DI w rv L0=some v)
  (ha:EE lend pm s j L0 d=some (a,l)): ∃lv,IC s w rv l lv∧Ei T s w rv S lend j l lv (fun gh S'=>W T S' w (VG gh) Fj a v (fun _=>False)):=by
 rcases Mi hW hsrc ha with⟨rfl,h⟩|⟨L,c,rfl,hS,h1,h2⟩
 ·exact⟨[],IC.nil,fun gh S' hS _ _=>h S' _ _ hS⟩
 ·refine⟨[v],⟨rfl,fun i q u hq hu=> ?_⟩,fun gh S' hS' hg hA=> ?_⟩
  ·cases i with
   |zero=>simp at hq hu;subst hq;subst hu;exact hS
   |succ i=>simp at hq
  ·cases lend with
   |true=>
    rw [h1 rfl]
    exact .vw (fun _ h=>h) ⟨j,rfl,rfl,rfl,(hg rfl 0 v rfl).symm⟩
   |false=>exact(hA rfl 0 (L,c) v a rfl rfl hS (h2 rfl)).up
theorem Qq{lend:Bool}{t0:Nat}{p0:AA}(L0:AA)(hL0:L0=t0::p0): ∀(ds:List D) (j i:Nat) {as:List D} {ls:List (AA×D)} (us:Nat→Value) (Fi:Nat→Nat→Prop),
  (∀k x,ds[k]? =some x→WR T s rv w S x (us k) (Fi k)∧BK (s.v t0) (p0++[i+k])=some x∧DI w rv (t0::(p0++[i+k]))=some (us k))→
  Db lend pm s L0 j i ds=some (as,ls)→ ∃lv,IC s w rv ls lv∧as.length=ds.length∧
   Ei T s w rv S lend j ls lv (fun gh S'=> ∀k x,as[k]? =some x→W T S' w (VG gh) Fj x (us k) (fun _=>False)):=by
 intro ds
 induction ds with
 |nil=>
  intro j i as ls us Fi _ ha
  simp only [Db,Option.some.injEq,Prod.mk.injEq]at ha
  obtain⟨rfl,rfl⟩:=ha
  exact⟨[],IC.nil,rfl,fun gh S' _ _ _ k x hk=>by simp at hk⟩
 |cons d ds ih=>
  intro j i as ls us Fi hd ha
  simp only [Db]at ha
  split at ha
  ·cases ha
  ·rename_i a l hc
   split at ha
   ·cases ha
   ·rename_i as' ls' hcs
    simp only [Option.some.injEq,Prod.mk.injEq]at ha
    obtain⟨rfl,rfl⟩:=ha
    obtain⟨h1,h2,h3⟩:=hd 0 d rfl
    obtain⟨lv1,o1,g1⟩:=Jy h1 (fun _=> .inr ⟨t0,p0++[i],by simp [hL0],h2,by rw [hL0];exact h3⟩) hc
    obtain⟨lv2,o2,hlen,g2⟩:=ih (j+l.length) (i+1) (fun k=>us (k+1)) (fun k=>Fi (k+1)) (fun k x hk=>by
     have:=hd (k+1) x (by simpa using hk)
     rw [show i+1+k=i+(k+1) by omega];exact this) hcs
    refine⟨lv1++lv2,o1.append o2,by simp [hlen],fun gh S' hS hg hA k x hk=> ?_⟩
    cases k with
    |zero=>
     simp only [List.getElem?_cons_zero,Option.some.injEq]at hk
     subst hk
     exact Ei.left o1 g1 gh S' hS hg hA
    |succ k=>
     simp only [List.getElem?_cons_succ]at hk
     exact Ei.right o1 g2 gh S' hS hg hA k x hk
theorem UY{lend:Bool}{j:Nat}{L0:AA}{d a:D}{v:Value}{F:Nat→Prop}{l:List (AA×D)}(hW:WR T s rv w S d v F)
  (hsrc:(∃t,L0=[t]∧s.v t=d∧rv t=v)∨(L0=[]∧(∀xs,d≠ .agg xs)∧(d.isObj=true→(∃e,d= .own e [])∧ ∃A,v= .slice A 0 0)))
  (ha:Bv lend pm s j L0 d=some (a,l)): ∃lv,IC s w rv l lv∧Ei T s w rv S lend j l lv (fun gh S'=>W T S' w (VG gh) Fj a v (fun _=>False)):=by
 unfold Bv at ha
 split at ha
 ·rename_i xs
  simp only [Option.map_eq_some_iff,Prod.mk.injEq]at ha
  obtain⟨⟨as,ls⟩,hc,rfl,rfl⟩:=ha
  rcases hsrc with⟨t,rfl,hst,hrv⟩|⟨_,hn,_⟩
  ·cases hW with
   |agg us Fi hz hx hF hd hw=>
    obtain⟨lv,o,hlen,g⟩:=Qq (p0:=[]) [t] rfl xs j 0 us Fi (fun k x hk=>⟨hw k x hk,by simp [BK,hst,hk],by simp [DI,hrv,Af,hx k x hk]⟩) hc
    refine⟨lv,o,fun gh S' hS hg hA=> ?_⟩
    have:=g gh S' hS hg hA
    refine .agg us (fun _ _=>False) (by rw [hz,hlen]) (fun i x hi=> ?_) (fun k=>⟨fun h=>h.elim,fun⟨_,_,h⟩=>h⟩) (fun _ _ _ _ _ _ h=>h.elim) this
    have hi':i<xs.length:=by rw [←hlen];exact(List.getElem?_eq_some_iff.1 hi).1
    exact hx i _ (List.getElem?_eq_getElem hi')
  ·exact(hn xs rfl).elim
 ·refine Jy hW (fun ho=> ?_) ha
  rcases hsrc with⟨t,rfl,hst,hrv⟩|⟨h1,_,h2⟩
  ·exact .inr ⟨t,[],rfl,by simp [BK,hst],by simp [DI,Af,hrv]⟩
  ·exact .inl ⟨h1,h2 ho⟩
theorem WT{N:Nat}{gh0:Nat→Value}{a0:Act}{lend:Bool}(h:Rel T s (Ad a0 gh0) w S Fs){j:Nat}{e:TypeId}{L:AA}{n m lo len:Nat}{a:D}{v:Value}{F:Nat→Prop}{l:List (AA×D)}
  (hW:WR T s (Ad a0 gh0) w S (.vs e L n m lo len) v F)(hl:lend=false)(ha:Sy T pm s e L n m lo len=some (a,l)):
  ∃lv,IC s w (Ad a0 gh0) l lv∧Ei T s w (Ad a0 gh0) S lend j l lv (fun gh S'=>W T S' w (VG gh) Fj a v (fun _=>False)):=by
 subst hl
 unfold Sy at ha
 split at ha
 ·rename_i e' xs hlk
  split at ha
  ·rename_i hc
   obtain⟨rfl,hkn,hle⟩:=hc
   simp only [Option.map_eq_some_iff,Prod.mk.injEq]at ha
   obtain⟨ys,hys,rfl,rfl⟩:=ha
   obtain⟨t,p,rfl,hg,hobj,hval⟩:=CU hlk
   obtain⟨v0,F0,hfo,hW0,_⟩:=h.focus hg
   have hS:jy s w (Ad a0 gh0) (t::p) (.own e' xs) v0:=⟨rfl, .inr ⟨t,p,rfl,hg,hfo⟩⟩
   have hfz:CZ (.own e' xs)=some (.sl e' ys):=by simp [CZ,hys]
   obtain⟨hyl,_⟩:=JU hys
   refine⟨[v0],⟨rfl,fun i q u hq hu=> ?_⟩,fun gh S' hS' _ hA=> ?_⟩
   ·cases i with
    |zero=>simp at hq hu;subst hq;subst hu;exact hS
    |succ i=>simp at hq
   ·have hWf:=hA rfl 0 (t::p, .own e' xs) v0 (.sl e' ys) rfl rfl hS hfz
    cases hW with
    |vs hE hlq hmq hv=>
     rename_i A q
     cases hWf with
     |sl us hE' hn' hc' hm' hx' hw'=>
      rename_i A0 n0 c0
      have hget: ∀(i:Nat) (x:D),((ys.drop (lo*T.size e')).take (len*T.size e'))[i]? =some x→ys[lo*T.size e'+i]? =some x∧0<len:=fun i x hi=>by
       have hlt:=(List.getElem?_eq_some_iff.1 hi).1
       simp only [List.length_take,List.length_drop]at hlt
       rw [List.getElem?_take_of_lt (by omega),List.getElem?_drop]at hi
       refine⟨hi, ?_⟩
       rcases Nat.eq_zero_or_pos len with h0|h0
       ·subst h0;simp only [Nat.zero_mul]at hlt;omega
       ·exact h0
      refine .sl (fun i=>us (lo*T.size e'+i)) (fun _ h=>h) ?_ hlq hmq (fun i x hi=> ?_) (fun i x hi=> ?_)
      ·simp only [List.length_drop,List.length_take]
       rw [hyl];rw [Nat.add_mul]at hle;omega
      ·obtain⟨hi,h0⟩:=hget i x hi
       obtain⟨ad,hA1,_,hvp⟩:=hv h0
       obtain⟨hv',ad',hfo',had',hptr⟩:=hvp hval
       rw [hfo]at hfo'
       injection hfo' with hfo'
       subst hfo'
       obtain⟨ad2,h3,h4,h5⟩:=hx' _ x hi
       simp only [Kb]at had'
       rw [had']at h3
       injection h3 with h3
       subst h3
       injection hptr with hptr
       injection hptr with hptr
       subst hptr
       exact⟨_,hA1,by rw [JI];exact h4,by rw [Hm];exact h5⟩
      ·obtain⟨hi,_⟩:=hget i x hi
       exact hw' _ x hi
  ·cases ha
 ·cases ha
theorem UZ: ∀(caps:List D) (j:Nat) {cs:List D} {lc:List (AA×D)} (us:Nat→Value),
  (∀(k:Nat) (x:D),caps[k]? =some x→WR T s rv w S x (us k) (fun _=>False))→Ce pm s j caps=some (cs,lc)→
  ∃lv:List Value,IC s w rv lc lv∧cs.length=caps.length∧(∀k:Nat,cs[k]? =some D.undef→caps[k]? =some D.undef)∧
   Ei T s w rv S true j lc lv (fun gh S'=> ∀(k:Nat) (x:D),cs[k]? =some x→W T S' w (VG gh) Fj x (us k) (fun _=>False)):=by
 intro caps
 induction caps with
 |nil=>
  intro j cs lc us _ ha
  simp only [Ce,Option.some.injEq,Prod.mk.injEq]at ha
  obtain⟨rfl,rfl⟩:=ha
  exact⟨[],IC.nil,rfl,by simp,fun gh S' _ _ _ k x hk=>by simp at hk⟩
 |cons d caps ih=>
  intro j cs lc us hd ha
  have h0:=hd 0 d rfl
  have hd': ∀k x,caps[k]? =some x→WR T s rv w S x (us (k+1)) (fun _=>False):=fun k x hk=>hd (k+1) x (by simpa using hk)
  have join: ∀(a:D) (l1:List (AA×D)) (cs':List D) (l2:List (AA×D)),EE true pm s j [] d=some (a,l1)→d.isObj=false→(a=D.undef→d=D.undef)→
    Ce pm s (j+l1.length) caps=some (cs',l2)→cs=a::cs'→lc=l1++l2→
    ∃lv:List Value,IC s w rv lc lv∧cs.length=(d::caps).length∧(∀k:Nat,cs[k]? =some D.undef→(d::caps)[k]? =some D.undef)∧
     Ei T s w rv S true j lc lv (fun gh S'=> ∀(k:Nat) (x:D),cs[k]? =some x→W T S' w (VG gh) Fj x (us k) (fun _=>False)):=by
   intro a l1 cs' l2 hc ho hu hr e1 e2
   subst e1 e2
   obtain⟨lv1,o1,g1⟩:=Jy h0 (fun h=>by rw [ho]at h;cases h) hc
   obtain⟨lv2,o2,hlen,hun,g2⟩:=ih (j+l1.length) (fun k=>us (k+1)) hd' hr
   refine⟨lv1++lv2,o1.append o2,by simp [hlen],fun k hk=> ?_,fun gh S' hS hg hA k x hk=> ?_⟩
   ·cases k with
    |zero=>simp only [List.getElem?_cons_zero,Option.some.injEq]at hk ⊢;exact hu hk
    |succ k=>simp only [List.getElem?_cons_succ]at hk ⊢;exact hun k hk
   ·cases k with
    |zero=>
     simp only [List.getElem?_cons_zero,Option.some.injEq]at hk
     subst hk
     exact Ei.left o1 g1 gh S' hS hg hA
    |succ k=>
     simp only [List.getElem?_cons_succ]at hk
     exact Ei.right o1 g2 gh S' hS hg hA k x hk
  unfold Ce at ha
  split at ha
  ·rename_i L n m
   split at ha
   ·rename_i c hl
    obtain⟨⟨cs',l2⟩,hr,he⟩:=Option.map_eq_some_iff.1 ha
    simp only [Prod.mk.injEq]at he
    exact join (.vw [G+j] 0 0) [(L,c)] cs' l2 (by simp [EE,hl]) rfl (fun h=>by cases h) hr he.1.symm he.2.symm
   ·cases ha
  ·rename_i ys
   obtain⟨⟨cs',l2⟩,hr,he⟩:=Option.map_eq_some_iff.1 ha
   simp only [Prod.mk.injEq]at he
   exact join (.cptr ys) [] cs' l2 (by simp [EE]) rfl (fun h=>by cases h) hr he.1.symm he.2.symm
  ·obtain⟨⟨cs',l2⟩,hr,he⟩:=Option.map_eq_some_iff.1 ha
   simp only [Prod.mk.injEq]at he
   obtain⟨rfl,rfl⟩:=he
   obtain⟨lv2,o2,hlen,hun,g2⟩:=ih j (fun k=>us (k+1)) hd' hr
   refine⟨lv2,o2,by simp [hlen],fun k hk=> ?_,fun gh S' hS hg hA k x hk=> ?_⟩
   ·cases k with
    |zero=>rfl
    |succ k=>simp only [List.getElem?_cons_succ]at hk ⊢;exact hun k hk
   ·cases k with
    |zero=>
     simp only [List.getElem?_cons_zero,Option.some.injEq]at hk
     subst hk
     exact .undef (fun _ h=>h)
    |succ k=>
     simp only [List.getElem?_cons_succ]at hk
     exact g2 gh S' hS hg hA k x hk
  ·cases ha
theorem YN: ∀(caps:List D) (j:Nat) {cs:List D} {lc:List (AA×D)} (us:Nat→Value),
  (∀(k:Nat) (x:D),caps[k]? =some x→WR T s rv w S x (us k) (fun _=>False))→JQ pm s caps=some (cs,lc)→
  ∃lv:List Value,IC s w rv lc lv∧cs.length=caps.length∧
   Ei T s w rv S false j lc lv (fun _ S'=> ∀(k:Nat) (x:D),cs[k]? =some x→W T S' w V0 Fj x (us k) (fun _=>False)):=by
 intro caps
 induction caps with
 |nil=>
  intro j cs lc us _ ha
  simp only [JQ,Option.some.injEq,Prod.mk.injEq]at ha
  obtain⟨rfl,rfl⟩:=ha
  exact⟨[],IC.nil,rfl,fun gh S' _ _ _ k x hk=>by simp at hk⟩
 |cons d caps ih=>
  intro j cs lc us hd ha
  have h0:=hd 0 d rfl
  have hd': ∀k x,caps[k]? =some x→WR T s rv w S x (us (k+1)) (fun _=>False):=fun k x hk=>hd (k+1) x (by simpa using hk)
  have join: ∀(a:D) (l1:List (AA×D)) (cs':List D) (l2:List (AA×D)),EE false pm s j [] d=some (a,l1)→d.isObj=false→
    JQ pm s caps=some (cs',l2)→cs=a::cs'→lc=l1++l2→
    ∃lv:List Value,IC s w rv lc lv∧cs.length=(d::caps).length∧
     Ei T s w rv S false j lc lv (fun _ S'=> ∀(k:Nat) (x:D),cs[k]? =some x→W T S' w V0 Fj x (us k) (fun _=>False)):=by
   intro a l1 cs' l2 hc ho hr e1 e2
   subst e1 e2
   have first: ∃lv1:List Value,IC s w rv l1 lv1∧Ei T s w rv S false j l1 lv1 (fun _ S'=>W T S' w V0 Fj a (us 0) (fun _=>False)):=by
    rcases Mi h0 (fun h=>by rw [ho]at h;cases h) hc with⟨rfl,h⟩|⟨L,c,rfl,hS,h1,h2⟩
    ·exact⟨[],IC.nil,fun gh S' hS _ _=>h S' _ _ hS⟩
    ·exact⟨[us 0],⟨rfl,fun i q u hq hu=>by
      cases i with
      |zero=>simp at hq hu;subst hq;subst hu;exact hS
      |succ i=>simp at hq⟩,fun gh S' _ _ hA=>hA rfl 0 (L,c) (us 0) a rfl rfl hS (h2 rfl)⟩
   obtain⟨lv1,o1,g1⟩:=first
   obtain⟨lv2,o2,hlen,g2⟩:=ih (j+l1.length) (fun k=>us (k+1)) hd' hr
   refine⟨lv1++lv2,o1.append o2,by simp [hlen],fun gh S' hS hg hA k x hk=> ?_⟩
   cases k with
   |zero=>
    simp only [List.getElem?_cons_zero,Option.some.injEq]at hk
    subst hk
    exact Ei.left o1 g1 gh S' hS hg hA
   |succ k=>
    simp only [List.getElem?_cons_succ]at hk
    exact Ei.right o1 g2 gh S' hS hg hA k x hk
  unfold JQ at ha
  split at ha
  ·rename_i L n m
   split at ha
   ·rename_i c hl
    obtain⟨c',hf,ha⟩:=Option.bind_eq_some_iff.1 ha
    obtain⟨⟨cs',l2⟩,hr,he⟩:=Option.map_eq_some_iff.1 ha
    simp only [Prod.mk.injEq]at he
    exact join c' [(L,c)] cs' l2 (by simp [EE,hl,hf]) rfl hr he.1.symm he.2.symm
   ·cases ha
  ·rename_i ys
   obtain⟨⟨cs',l2⟩,hr,he⟩:=Option.map_eq_some_iff.1 ha
   simp only [Prod.mk.injEq]at he
   exact join (.cptr ys) [] cs' l2 (by simp [EE]) rfl hr he.1.symm he.2.symm
  ·cases ha
theorem YO{N:Nat}{gh0:Nat→Value}{a0:Act}{lend:Bool}(h:Rel T s (Ad a0 gh0) w S Fs){j:Nat}{L0:AA}{d a:D}{v:Value}{F:Nat→Prop}{l:List (AA×D)}(hW:WR T s (Ad a0 gh0) w S d v F)
  (hsrc:(∃t,L0=[t]∧s.v t=d∧Ad a0 gh0 t=v)∨(L0=[]∧(∀xs,d≠ .agg xs)∧(d.isObj=true→(∃e,d= .own e [])∧ ∃A,v= .slice A 0 0)))
  (ha:IR T lend pm s j L0 d=some (a,l)): ∃lv,IC s w (Ad a0 gh0) l lv∧Ei T s w (Ad a0 gh0) S lend j l lv (fun gh S'=>W T S' w (VG gh) Fj a v (fun _=>False)):=by
 unfold IR at ha
 split at ha
 ·rename_i p f caps
  split at ha
  ·cases ha
  ·rename_i hlp
   simp only [Bool.or_eq_true,not_or,Bool.not_eq_true]at hlp
   obtain⟨rfl,rfl⟩:=hlp
   obtain⟨⟨cs,lc⟩,hc,he⟩:=Option.map_eq_some_iff.1 ha
   simp only [Prod.mk.injEq]at he
   obtain⟨rfl,rfl⟩:=he
   cases hW with
   |ocl us hE hz hx hw hs hv=>
    rcases hv with⟨_,rfl⟩|⟨hp,_⟩
    ·obtain⟨lv,ho,hlen,hg⟩:=YN caps j us hw hc
     refine⟨lv,ho,fun gh S' hS hgh hA=> ?_⟩
     have hW':=hg gh S' hS hgh hA
     refine .clo us (fun _ h=>h) (by rw [hz,hlen]) (fun i x hi=> ?_) hW'
     have hi':i<caps.length:=by rw [←hlen];exact(List.getElem?_eq_some_iff.1 hi).1
     exact hx i _ (List.getElem?_eq_getElem hi')
    ·cases hp
 ·cases lend with
  |true=>cases ha
  |false=>exact WT (N:=N) h hW rfl ha
 ·exact UY hW hsrc ha
theorem Ji{E:Env}{lend:Bool}{N:Nat}{gh0:Nat→Value}{a:Act}(h:Rel E.T s (Ad a gh0) w S Fs)(hG:N≤G): ∀(xs:List (Operand×TypeId)) (j:Nat) {as:List D} {ls:List (AA×D)},
  (∀q∈xs,Ar N q.1)→Cs E lend pm s j xs=some (as,ls)→ ∃lv,IC s w (Ad a gh0) ls lv∧as.length=xs.length∧
   Ei E.T s w (Ad a gh0) S lend j ls lv (fun gh S'=> ∀(k:Nat) (x:D),as[k]? =some x→ ∃q:Operand×TypeId,xs[k]? =some q∧W E.T S' w (VG gh) Fj x (a.eval q.1) (fun _=>False)):=by
 intro xs
 induction xs with
 |nil=>
  intro j as ls _ ha
  simp only [Cs,Option.some.injEq,Prod.mk.injEq]at ha
  obtain⟨rfl,rfl⟩:=ha
  exact⟨[],IC.nil,rfl,fun gh S' _ _ _ k x hk=>by simp at hk⟩
 |cons q xs ih=>
  obtain⟨x,t⟩:=q
  intro j as ls hok ha
  simp only [Cs]at ha
  split at ha
  ·cases ha
  ·rename_i d he
   split at ha
   ·cases ha
   ·rename_i b l hc
    split at ha
    ·cases ha
    ·rename_i as' ls' hcs
     simp only [Option.some.injEq,Prod.mk.injEq]at ha
     obtain⟨rfl,rfl⟩:=ha
     have hx:=hok _ (List.mem_cons_self)
     have hW:=Dc h hG hx he
     obtain⟨lv1,o1,g1⟩:=YO (N:=N) h hW (by
      cases x with
      |tmp u=>
       simp only [ev,Option.some.injEq]at he
       exact .inl ⟨u,rfl,he,(CV hG hx).symm⟩
      |const v=>
       right
       refine⟨rfl,fun xs hxs=> ?_,fun ho=> ?_⟩
       ·subst hxs
        simp only [ev,Ml]at he
        split at he<;>try (cases he;done)
        split at he<;>cases he
       ·simp only [ev,Ml]at he
        split at he<;>try (simp only [Option.some.injEq]at he;subst he;simp [D.isObj]at ho;done)
        ·split at he
         ·simp only [Option.some.injEq]at he
          subst he
          exact⟨⟨_,rfl⟩,none,rfl⟩
         ·simp only [Option.some.injEq]at he
          subst he;simp [D.isObj]at ho
         ·cases he
        ·cases he
      |func f=>
       simp only [ev,Option.some.injEq]at he
       subst he
       exact .inr ⟨rfl,(fun xs hxs=>by cases hxs),(fun ho=>by simp [D.isObj]at ho)⟩
      |global g=>simp [ev]at he) hc
     obtain⟨lv2,o2,hlen,g2⟩:=ih (j+l.length) (fun q hq=>hok q (List.mem_cons_of_mem _ hq)) hcs
     refine⟨lv1++lv2,o1.append o2,by simp [hlen],fun gh S' hS hg hA k y hk=> ?_⟩
     cases k with
     |zero=>
      simp only [List.getElem?_cons_zero,Option.some.injEq]at hk
      subst hk
      exact⟨(x,t),rfl,Ei.left o1 g1 gh S' hS hg hA⟩
     |succ k=>
      simp only [List.getElem?_cons_succ]at hk
      obtain⟨q,hq,hWq⟩:=Ei.right o1 g2 gh S' hS hg hA k y hk
      exact⟨q,by simpa using hq,hWq⟩
end
end Dv
namespace Dv
open Go
def Qr(T:Tys)(gh:Nat→Value)(r:D)(outs:List D)(w:World)(S:Nat→Prop)(FL:Nat→Nat→Prop)(v:Value)(w':World):Prop:=
 ∃(S' F:Nat→Prop) (FL':Nat→Nat→Prop),W T S' w' V0 Fj r v F∧(∀(j:Nat) (d:D),outs[j]? =some d→W T S' w' V0 Fj d (gh j) (FL' j))∧
  (∀i j k,i≠j→FL' i k→ ¬FL' j k)∧(∀j k,F k→ ¬FL' j k)∧Step w S FL w' S' FL'∧(∀k,F k→(∃j,FL j k)∨w.heap.size≤k)∧(∀k,S' k→k<w'.heap.size)
def Good(P:Program)(T:Tys)(f:FuncId)(args lent:List D)(r:D)(outs:List D):Prop:=
 (∃fn,P.funcs[f]? =some fn∧fn.body.isSome=true∧(fn.name== "runtime.NumGoroutine")=false)∧
 ∀(vs:Array Value) (gh:Nat→Value) (w:World) (S:Nat→Prop) (FL:Nat→Nat→Prop),vs.size=args.length→
  (∀(i:Nat) (d:D),args[i]? =some d→ ∃v,vs[i]? =some v∧W T S w (VG gh) Fj d v (fun _=>False))→
  (∀(j:Nat) (d:D),lent[j]? =some d→W T S w V0 Fj d (gh j) (FL j))→(∀j,lent.length≤j→Em (FL j))→(∀i j k,i≠j→FL i k→ ¬FL j k)→(∀k,S k→k<w.heap.size)→jf T w S→
  Calls P f vs w fun| .returned v,w'=>Qr T gh r outs w S FL v w'|_,_=>False
def Nc(P:Program)(E:Env):Prop:= ∀(f:FuncId) (args lent:List D) (r:D) (outs:List D),E.call f args lent=some (r,outs)→Good P E.T f args lent r outs
theorem Nf{P:Program}{f:FuncId}{fn:Func}{args:Array Value}(hf:P.funcs[f]? =some fn)(hb:fn.body.isSome=true)(hn:(fn.name== "runtime.NumGoroutine")=false)(w:World):
  (callFunc f args).run P w= .ok (.enter f args) w:=by
 have hb':fn.body≠none:=by cases h:fn.body<;>simp_all
 have hn':fn.name≠ "runtime.NumGoroutine" :=by simpa using hn
 simp [callFunc,hf,hb',hn']
def dF(L M:AA):Prop:= ¬L<+:M∧ ¬M<+:L
theorem dF.symm{L M:AA}(h:dF L M):dF M L:=⟨h.2,h.1⟩
theorem La{L:AA}{Ls:List AA}(h:Di (L::Ls)=true):(L=[]∨ ∀M∈Ls,M=[]∨dF L M)∧Di Ls=true:=by
 simp only [Di,Bool.and_eq_true,Bool.or_eq_true,List.isEmpty_iff,List.all_eq_true,Bool.not_eq_true',←Bool.not_eq_true,List.isPrefixOf_iff_prefix]at h
 exact⟨h.1,h.2⟩
theorem SK: ∀(p:AA) (d x:D) (q:AA),dF p q→BK (Ed d p x) q=BK d q:=by
 intro p
 induction p with
 |nil=>intro d x q h;exact(h.1 List.nil_prefix).elim
 |cons c p ih=>
  intro d x q h
  cases q with
  |nil=>exact(h.2 List.nil_prefix).elim
  |cons c' q=>
   have key: ∀xs:List D,((xs.set c (Ed (xs.getD c .undef) p x))[c']?).bind (fun d=>BK d q)=(xs[c']?).bind (fun d=>BK d q):=by
    intro xs
    by_cases hc:c=c'
    ·subst hc
     have hf:dF p q:=⟨fun hh=>h.1 (by simpa using hh),fun hh=>h.2 (by simpa using hh)⟩
     rcases Nat.lt_or_ge c xs.length with hl|hl
     ·simp only [List.getElem?_set_self hl,Option.bind_some,List.getElem?_eq_getElem hl]
      rw [ih _ _ _ hf,List.getD_eq_getElem?_getD,List.getElem?_eq_getElem hl];rfl
     ·rw [List.set_eq_of_length_le hl]
    ·rw [List.getElem?_set_ne hc]
   cases d<;>first|rfl|(simp only [Ed,BK];exact key _)
theorem Py{s:St}{L:AA}{x:D}{t:Nat}{p:AA}(h:L=[]∨dF L (t::p)):BK ((s.set L x).v t) p=BK (s.v t) p:=by
 unfold St.set
 cases L with
 |nil=>rfl
 |cons u q=>
  rcases h with h|h
  ·cases h
  ·by_cases hut:t=u
   ·subst hut
    simp only [Ae]
    exact SK _ _ _ _ ⟨fun hh=>h.1 (by simpa using hh),fun hh=>h.2 (by simpa using hh)⟩
   ·simp only [AX _ _ hut]
def Lb(deep:Bool)(s:St)(L:AA)(c:D):St:=if L.isEmpty then s else if deep then(s.set L c).bump (L.headD 0)else s.set L c
theorem FT(deep:Bool)(s:St)(L:AA)(c:D)(rest:List (AA×D)):back deep s ((L,c)::rest)=back deep (Lb deep s L c) rest:=rfl
theorem Jj(deep:Bool)(s:St)(L:AA)(c:D):(Lb deep s L c).v=(s.set L c).v:=by
 unfold Lb
 cases L with
 |nil=>rfl
 |cons t p=>cases deep<;>rfl
theorem kC(deep:Bool)(s:St)(L:AA)(c:D):(Lb deep s L c).k=s.k:=by
 unfold Lb
 cases L with
 |nil=>rfl
 |cons t p=>cases deep<;>rfl
theorem ek(deep:Bool){t:Nat}{p:AA}: ∀(l:List (AA×D)) (s:St),(∀q∈l,q.1=[]∨dF q.1 (t::p))→BK ((back deep s l).v t) p=BK (s.v t) p:=by
 intro l
 induction l with
 |nil=>intro s _;rfl
 |cons q l ih=>
  obtain⟨L,c⟩:=q
  intro s h
  rw [FT,ih _ (fun q hq=>h q (List.mem_cons_of_mem _ hq)),Jj]
  exact Py (h _ (List.mem_cons_self))
theorem Ua(deep:Bool): ∀(l:List (AA×D)) (s:St),(back deep s l).k=s.k:=by
 intro l
 induction l with
 |nil=>intro s;rfl
 |cons q l ih=>obtain⟨L,c⟩:=q;intro s;rw [FT,ih,kC]
theorem Ng(deep:Bool)(s:St)(L:AA)(c:D)(t:Nat):(Lb deep s L c).m t=if L≠[]∧deep=true∧L.headD 0=t then s.m t+1 else s.m t:=by
 unfold Lb
 cases L with
 |nil=>simp
 |cons u p=>
  cases deep with
  |false=>simp [St.set]
  |true=>
   simp only [List.isEmpty_cons,Bool.false_eq_true,if_false,if_true,St.bump,St.set,List.headD_cons]
   by_cases h:t=u
   ·subst h;simp [Ae]
   ·simp [AX _ _ h,Ne.symm h]
theorem TM(deep:Bool)(t:Nat): ∀(l:List (AA×D)) (s:St),s.m t≤(back deep s l).m t:=by
 intro l
 induction l with
 |nil=>intro s;exact Nat.le_refl _
 |cons q l ih=>
  obtain⟨L,c⟩:=q
  intro s
  rw [FT]
  refine Nat.le_trans ?_ (ih _)
  rw [Ng];split<;>omega
theorem bE(t:Nat): ∀(l:List (AA×D)) (s:St),(∃q∈l,q.1≠[]∧q.1.headD 0=t)→s.m t<(back true s l).m t:=by
 intro l
 induction l with
 |nil=>intro s ⟨q,hq,_⟩;cases hq
 |cons q l ih=>
  obtain⟨L,c⟩:=q
  intro s ⟨q,hq,h1,h2⟩
  rw [FT]
  rcases List.mem_cons.1 hq with rfl|hq
  ·refine Nat.lt_of_lt_of_le ?_ (TM true t l _)
   rw [Ng,if_pos ⟨h1,rfl,h2⟩];omega
  ·refine Nat.lt_of_le_of_lt ?_ (ih _ ⟨q,hq,h1,h2⟩)
   rw [Ng];split<;>omega
theorem Nh(t:Nat): ∀(l:List (AA×D)) (s:St),(back false s l).m t=s.m t:=by
 intro l
 induction l with
 |nil=>intro s;rfl
 |cons q l ih=>obtain⟨L,c⟩:=q;intro s;rw [FT,ih,Ng];simp
theorem Qs(deep:Bool)(t:Nat): ∀(l:List (AA×D)) (s:St),(∀q∈l,q.1=[]∨q.1.headD 0≠t)→(back deep s l).v t=s.v t∧(back deep s l).m t=s.m t:=by
 intro l
 induction l with
 |nil=>intro s _;exact⟨rfl,rfl⟩
 |cons q l ih=>
  obtain⟨L,c⟩:=q
  intro s h
  rw [FT]
  obtain⟨h1,h2⟩:=ih (Lb deep s L c) (fun q hq=>h q (List.mem_cons_of_mem _ hq))
  rw [h1,h2,Jj,Ng]
  rcases h _ (List.mem_cons_self)with h|h
  ·simp only at h;subst h;simp [St.set]
  ·cases L with
   |nil=>simp [St.set]
   |cons u p=>
    simp only [List.headD_cons]at h
    simp [St.set,AX _ _ (Ne.symm h),h]
theorem YP{d x:D}{c:Nat}{p:AA}:(Ed d (c::p) x).isObj=d.isObj:=by cases d<;>rfl
theorem TN(deep:Bool)(t:Nat): ∀(l:List (AA×D)) (s:St),(∀q∈l,q.1≠[t])→((back deep s l).v t).isObj=(s.v t).isObj:=by
 intro l
 induction l with
 |nil=>intro s _;rfl
 |cons q l ih=>
  obtain⟨L,c⟩:=q
  intro s h
  rw [FT,ih _ (fun q hq=>h q (List.mem_cons_of_mem _ hq)),Jj]
  have:=h _ (List.mem_cons_self)
  cases L with
  |nil=>rfl
  |cons u p=>
   by_cases hut:t=u
   ·subst hut
    cases p with
    |nil=>exact(this rfl).elim
    |cons a p=>simp only [St.set,Ae];exact YP
   ·simp only [St.set,AX _ _ hut]
structure RelV(T:Tys)(V:AA→Nat→Nat→Value→Prop)(Vp:AA→Nat→Nat→Nat→Value→Prop)(s:St)(rv:Nat→Value)(w:World)(S:Nat→Prop)(Fs:Nat→Nat→Prop):Prop where
 val: ∀t,W T S w V Vp (s.v t) (rv t) (Fs t)
 disj: ∀t u k,t≠u→Fs t k→ ¬Fs u k
section
variable {T:Tys} {s s':St} {rv:Nat→Value} {w w':World} {S S':Nat→Prop} {Fs:Nat→Nat→Prop} {pm:Pm}
variable {V:AA→Nat→Nat→Value→Prop} {Vp:AA→Nat→Nat→Nat→Value→Prop}
theorem RelV.focus(h:RelV T V Vp s rv w S Fs){t:Nat}{p:AA}{d:D}(hg:BK (s.v t) p=some d):
  ∃v F,DI w rv (t::p)=some v∧W T S w V Vp d v F∧(∀k,F k→Fs t k)∧
   (∀(s':St) (d':D) (F':Nat→Prop),s'.v=(s.set (t::p) d').v→(∀k u,Fs u k→ ¬F k→ ¬F' k)→W T S w V Vp d' v F'→
    RelV T V Vp s' rv w S (JN Fs t (fun k=>(Fs t k∧ ¬F k)∨F' k))):=by
 obtain⟨v,F,hfo,hW,hsub,hset,_⟩:=(h.val t).focus d hg
 refine⟨v,F,hfo,hW,hsub,fun s' d' F' hs' hr hn=> ?_⟩
 refine⟨fun u=> ?_,fun u u' k hne=> ?_⟩
 ·rw [hs']
  by_cases hut:u=t
  ·subst hut
   simp only [St.set,Ae]
   exact hset w S V Vp d' F' (fun k hf hn=>⟨rfl,(h.val u).notS k hf,hr k u hf hn⟩) (fun k hk=>⟨hk,rfl⟩) (fun _ _ _ _ h=>h) (fun _ _ _ _ _ h=>h) hn
  ·simp only [St.set,AX _ _ hut]
   exact h.val u
 ·by_cases h1:u=t
  ·subst h1
   have h2:u'≠u:=fun e=>hne e.symm
   simp only [Ae,AX _ _ h2]
   rintro(⟨hf,_⟩|hf) hg
   ·exact h.disj u u' k hne hf hg
   ·exact hr k u' hg (fun hF=>h.disj u' u k h2 hg (hsub k hF)) hf
  ·by_cases h2:u'=t
   ·subst h2
    simp only [Ae,AX _ _ h1]
    rintro hf (⟨hg,_⟩|hg)
    ·exact h.disj u u' k hne hf hg
    ·exact hr k u hf (fun hF=>h.disj u u' k h1 hf (hsub k hF)) hg
   ·simp only [AX _ _ h1,AX _ _ h2];exact h.disj u u' k hne
theorem Ni{Fs:Nat→Nat→Prop}{t:Nat}{F F':Nat→Prop}{u k:Nat}(h:JN Fs t (fun k=>(Fs t k∧ ¬F k)∨F' k) u k):Fs u k∨F' k:=by
 by_cases hut:u=t
 ·subst hut;simp only [Ae]at h;exact h.imp (·.1) id
 ·rw [AX _ _ hut]at h;exact .inl h
theorem W.undef_Em{v:Value}{F:Nat→Prop}(h:W T S w V Vp .undef v F):Em F:=by cases h with|undef h=>exact h
theorem bF: ∀(l:List (AA×D)) {s:St} {Fs:Nat→Nat→Prop},RelV T V Vp s rv w S Fs→Di (l.map (·.1))=true→
  (∀q∈l,q.1=[]∨ ∃t p,q.1=t::p∧BK (s.v t) p=some q.2)→
  ∃(Fs1 FL:Nat→Nat→Prop),RelV T V Vp (back false s (l.map fun q=>(q.1, .undef))) rv w S Fs1∧
   (∀(i:Nat) (q:AA×D) (t:Nat) (p:AA),l[i]? =some q→q.1=t::p→BK ((back false s (l.map fun q=>(q.1, .undef))).v t) p=some .undef∧ ∃v,DI w rv q.1=some v∧W T S w V Vp q.2 v (FL i))∧
   (∀i,(∀q,l[i]? =some q→q.1=[])→Em (FL i))∧(∀i j k,i≠j→FL i k→ ¬FL j k)∧(∀i u k,FL i k→ ¬Fs1 u k)∧(∀u k,Fs1 u k→Fs u k)∧
   (∀i k,FL i k→ ∃q t p,l[i]? =some q∧q.1=t::p∧Fs t k):=by
 intro l
 induction l with
 |nil=>
  intro s Fs h _ _
  exact⟨Fs,fun _ _=>False,h,by simp,fun _ _ _ h=>h,fun _ _ _ _ h=>h.elim,fun _ _ _ h=>h.elim,fun _ _ h=>h,fun _ _ h=>h.elim⟩
 |cons q l ih=>
  obtain⟨L,c⟩:=q
  intro s Fs h hap hq
  simp only [List.map_cons]at hap
  obtain⟨ha,hap2⟩:=La hap
  have hq0:=hq _ (List.mem_cons_self)
  simp only [List.map_cons,FT]
  cases L with
  |nil=>
   obtain⟨Fs1,FL,r1,r2,r3,r4,r5,r6,r7⟩:=ih h hap2 (fun q hm=>hq q (List.mem_cons_of_mem _ hm))
   refine⟨Fs1,fun i=>match i with|0=>fun _=>False|i+1=>FL i,r1,fun i q t p hi ht=> ?_,fun i hi=> ?_,fun i j k hij=> ?_,fun i u k=> ?_,r6,fun i k=> ?_⟩
   ·cases i with
    |zero=>simp at hi;subst hi;cases ht
    |succ i=>exact r2 i q t p (by simpa using hi) ht
   ·cases i with
    |zero=>exact fun _ h=>h
    |succ i=>exact r3 i (fun q hq=>hi q (by simpa using hq))
   ·cases i with
    |zero=>exact fun h=>h.elim
    |succ i=>cases j with
     |zero=>exact fun _ h=>h
     |succ j=>exact r4 i j k (by omega)
   ·cases i with
    |zero=>exact fun h=>h.elim
    |succ i=>exact r5 i u k
   ·cases i with
    |zero=>exact fun h=>h.elim
    |succ i=>intro hk;obtain⟨q,t,p,h1,h2⟩:=r7 i k hk;exact⟨q,t,p,by simpa using h1,h2⟩
  |cons t p=>
   have hg:BK (s.v t) p=some c:=by
    rcases hq0 with h|⟨t',p',h1,h2⟩
    ·cases h
    ·simp only at h1 h2;injection h1 with e1 e2;subst e1;subst e2;exact h2
   have hfar: ∀q∈l,q.1=[]∨dF (t::p) q.1:=fun q hm=>by
    rcases ha with ha|ha
    ·cases ha
    ·exact ha q.1 (List.mem_map_of_mem hm)
   obtain⟨v,F,hfo,hW,hsub,hset⟩:=h.focus hg
   have h1:=hset (Lb false s (t::p) .undef) .undef (fun _=>False) (by rw [Jj]) (fun _ _ _ _ h=>h) (.undef fun _ h=>h)
   obtain⟨Fs1,FL,r1,r2,r3,r4,r5,r6,r7⟩:=ih h1 hap2 (fun q hm=>by
    rcases hq q (List.mem_cons_of_mem _ hm)with h|⟨t',p',e,hh⟩
    ·exact .inl h
    ·refine .inr ⟨t',p',e, ?_⟩
     rw [Jj,Py]
     ·exact hh
     ·right
      rcases hfar q hm with h|h
      ·rw [h]at e;cases e
      ·rw [←e];exact h)
   have hFn: ∀u k,F k→ ¬Fs1 u k:=fun u k hf hu=>by
    have:=r6 u k hu
    by_cases hut:u=t
    ·subst hut;simp only [Ae,or_false]at this;exact this.2 hf
    ·rw [AX _ _ hut]at this;exact h.disj u t k hut this (hsub k hf)
   have hFL: ∀i k,FL i k→ ¬F k:=fun i k hi hf=>by
    obtain⟨q,t',p',_,_,hk⟩:=r7 i k hi
    by_cases hut:t'=t
    ·subst hut;simp only [Ae,or_false]at hk;exact hk.2 hf
    ·rw [AX _ _ hut]at hk;exact h.disj t' t k hut hk (hsub k hf)
   refine⟨Fs1,fun i=>match i with|0=>F|i+1=>FL i,r1,fun i q t' p' hi ht=> ?_,fun i hi=> ?_,fun i j k hij=> ?_,fun i u k=> ?_,fun u k hu=> ?_,fun i k=> ?_⟩
   ·cases i with
    |zero=>
     simp only [List.getElem?_cons_zero,Option.some.injEq]at hi
     subst hi
     simp only at ht
     injection ht with e1 e2
     subst e1;subst e2
     refine⟨?_,v,hfo,hW⟩
     rw [ek false]
     ·rw [Jj];simp only [St.set,Ae];exact dN hg
     ·intro q hm
      simp only [List.mem_map]at hm
      obtain⟨q',hm,rfl⟩:=hm
      exact(hfar q' hm).imp id dF.symm
    |succ i=>exact r2 i q t' p' (by simpa using hi) ht
   ·cases i with
    |zero=>have:=hi _ rfl;cases this
    |succ i=>exact r3 i (fun q hq=>hi q (by simpa using hq))
   ·cases i with
    |zero=>cases j with
     |zero=>exact(hij rfl).elim
     |succ j=>exact fun hf hj=>hFL j k hj hf
    |succ i=>cases j with
     |zero=>exact fun hi hf=>hFL i k hi hf
     |succ j=>exact r4 i j k (by omega)
   ·cases i with
    |zero=>exact hFn u k
    |succ i=>exact r5 i u k
   ·rcases Ni (r6 u k hu)with h|h
    ·exact h
    ·exact h.elim
   ·cases i with
    |zero=>exact fun hf=>⟨_,t,p,rfl,rfl,hsub k hf⟩
    |succ i=>
     intro hk
     obtain⟨q,t',p',h1,h2,h3⟩:=r7 i k hk
     refine⟨q,t',p',by simpa using h1,h2, ?_⟩
     rcases Ni h3 with h|h
     ·exact h
     ·exact h.elim
theorem eu: ∀(l:List (AA×D)) {s:St} {Fs FL:Nat→Nat→Prop} {gh:Nat→Value},RelV T V Vp s rv w S Fs→Di (l.map (·.1))=true→
  (∀(i:Nat) (q:AA×D),l[i]? =some q→q.1=[]∨ ∃t p,q.1=t::p∧BK (s.v t) p=some .undef∧DI w rv q.1=some (gh i))→
  (∀(i:Nat) (q:AA×D),l[i]? =some q→W T S w V Vp q.2 (gh i) (FL i))→(∀i j k,i≠j→FL i k→ ¬FL j k)→(∀i u k,FL i k→ ¬Fs u k)→
  ∃(Fs1:Nat→Nat→Prop),RelV T V Vp (back true s l) rv w S Fs1∧ ∀u k,Fs1 u k→Fs u k∨ ∃j,FL j k:=by
 intro l
 induction l with
 |nil=>intro s Fs FL gh h _ _ _ _ _;exact⟨Fs,h,fun u k h=> .inl h⟩
 |cons q l ih=>
  obtain⟨L,c⟩:=q
  intro s Fs FL gh h hap hq hw hd hn
  simp only [List.map_cons]at hap
  obtain⟨ha,hap2⟩:=La hap
  rw [FT]
  cases L with
  |nil=>
   obtain⟨Fs1,r1,r2⟩:=ih (FL:=fun i=>FL (i+1)) (gh:=fun i=>gh (i+1)) h hap2 (fun i q hi=>hq (i+1) q (by simpa using hi)) (fun i q hi=>hw (i+1) q (by simpa using hi)) (fun i j k hij=>hd _ _ k (by omega)) (fun i=>hn (i+1))
   exact⟨Fs1,r1,fun u k hu=>(r2 u k hu).imp id (fun⟨j,hj⟩=>⟨_,hj⟩)⟩
  |cons t p=>
   have hfar: ∀q∈l,q.1=[]∨dF (t::p) q.1:=fun q hm=>by
    rcases ha with ha|ha
    ·cases ha
    ·exact ha q.1 (List.mem_map_of_mem hm)
   obtain⟨hg,hfo0⟩:BK (s.v t) p=some .undef∧DI w rv (t::p)=some (gh 0):=by
    rcases hq 0 _ rfl with h|⟨t',p',h1,h2,h3⟩
    ·cases h
    ·simp only at h1 h2 h3;injection h1 with e1 e2;subst e1;subst e2;exact⟨h2,h3⟩
   obtain⟨v,F,hfo,hW,hsub,hset⟩:=h.focus hg
   have hFE:=hW.undef_Em
   rw [hfo0]at hfo
   injection hfo with hfo
   subst hfo
   have h1:=hset (Lb true s (t::p) c) c (FL 0) (by rw [Jj]) (fun k u hu _ hf=>hn 0 u k hf hu) (hw 0 _ rfl)
   obtain⟨Fs1,r1,r2⟩:=ih (FL:=fun i=>FL (i+1)) (gh:=fun i=>gh (i+1)) h1 hap2 (fun i q hi=>by
    rcases hq (i+1) q (by simpa using hi)with h|⟨t',p',e,hh,hf⟩
    ·exact .inl h
    ·refine .inr ⟨t',p',e, ?_,hf⟩
     rw [Jj,Py]
     ·exact hh
     ·right
      rcases hfar q (List.mem_of_getElem? hi)with h|h
      ·rw [h]at e;cases e
      ·rw [←e];exact h) (fun i q hi=>hw (i+1) q (by simpa using hi)) (fun i j k hij=>hd _ _ k (by omega)) (fun i u k hi hu=>by
       rcases Ni hu with h|h
       ·exact hn (i+1) u k hi h
       ·exact hd (i+1) 0 k (by omega) hi h)
   refine⟨Fs1,r1,fun u k hu=> ?_⟩
   rcases r2 u k hu with h|⟨j,hj⟩
   ·rcases Ni h with h|h
    ·exact .inl h
    ·exact .inr ⟨0,h⟩
   ·exact .inr ⟨_,hj⟩
theorem YQ: ∀(l:List (AA×D)) {l':List (AA×D)} {s:St} {S:Nat→Prop} {Fs:Nat→Nat→Prop},GX l=some l'→Di (l.map (·.1))=true→Rel T s rv w S Fs→
  (∀q∈l,q.1=[]∨ ∃t p,q.1=t::p∧BK (s.v t) p=some q.2)→
  ∃(S1:Nat→Prop) (Fs1:Nat→Nat→Prop),Rel T (back false s l') rv w S1 Fs1∧Step w S Fs w S1 Fs1∧
   (∀(q:AA×D) (v:Value) (c':D),q∈l→jy s w rv q.1 q.2 v→CZ q.2=some c'→W T S1 w V0 Fj c' v (fun _=>False)):=by
 intro l
 induction l with
 |nil=>
  intro l' s S Fs hf _ h _
  simp only [GX,Option.some.injEq]at hf
  subst hf
  exact⟨S,Fs,h,Step.refl _ _ _,fun q v c' hq=>by cases hq⟩
 |cons q l ih=>
  obtain⟨L,c⟩:=q
  intro l' s S Fs hf hap h hq
  simp only [GX,Option.bind_eq_some_iff,Option.map_eq_some_iff]at hf
  obtain⟨c',hc',ls',hls,rfl⟩:=hf
  simp only [List.map_cons]at hap
  obtain⟨ha,hap2⟩:=La hap
  rw [FT]
  have hsrc0: ∀(q:AA×D) (v:Value) (c':D) (S1:Nat→Prop),q.1=[]→jy s w rv q.1 q.2 v→CZ q.2=some c'→W T S1 w V0 Fj c' v (fun _=>False):=by
   intro q v c' S1 e hs hf
   obtain⟨_,⟨_,⟨e1,h1⟩,A,h2⟩|⟨t,p,h1,_⟩⟩:=hs
   ·have:W T S1 w V0 Fj (.own e1 []) (.slice A 0 0) (fun _=>False):= .own0 fun _ h=>h
    rw [h1]at hf
    rw [h2]
    exact this.freeze c' hf (fun _ h=>h.elim) (fun _ h=>h)
   ·rw [e]at h1;cases h1
  cases L with
  |nil=>
   obtain⟨S1,Fs1,r1,r2,r3⟩:=ih hls hap2 h (fun q hm=>hq q (List.mem_cons_of_mem _ hm))
   refine⟨S1,Fs1,r1,r2,fun q v d hm hs hf=> ?_⟩
   rcases List.mem_cons.1 hm with rfl|hm
   ·exact hsrc0 _ v d S1 rfl hs hf
   ·exact r3 q v d hm hs hf
  |cons t p=>
   have hfar: ∀q∈l,q.1=[]∨dF (t::p) q.1:=fun q hm=>by
    rcases ha with ha|ha
    ·cases ha
    ·exact ha q.1 (List.mem_map_of_mem hm)
   have hg:BK (s.v t) p=some c:=by
    rcases hq _ (List.mem_cons_self)with h|⟨t',p',h1,h2⟩
    ·cases h
    ·simp only at h1 h2;injection h1 with e1 e2;subst e1;subst e2;exact h2
   obtain⟨v,F,hfo,hW,hsub,hset,_⟩:=h.focus hg
   have hk:=Keeps.set0 (w:=w) (rv:=rv) hg (MC c c' hc')
   have hWf:W T (fun k=>S k∨F k) w V0 Fj c' v (fun _=>False):=hW.freeze c' hc' (fun k hk=> .inr hk) (fun k hk=> .inl hk)
   have h1:=hset w (fun k=>S k∨F k) (s.set (t::p) c') c' (fun _=>False) rfl (fun k u hu hn=>⟨rfl,fun hs=>hs.elim ((h.val u).notS k hu) hn,id⟩) (fun k hk=>⟨.inl hk,rfl⟩) (fun k hs=>hs.elim (h.lt k) (hW.lt k)) hk hWf.up
   have hset':Lb false s (t::p) c'=s.set (t::p) c':=rfl
   have hstep:Step w S Fs w (fun k=>S k∨F k) (JN Fs t (fun k=>(Fs t k∧ ¬F k)∨False)):=
    Step.of_sub (fun k hk=> .inl hk) (fun k hk=>hk.imp id (fun hf=>⟨t,hsub k hf⟩)) (fun u k hu=>(Ni hu).elim (fun h=>⟨u,h⟩) (fun h=>h.elim))
   have hst2: ∀q∈l,∀t' p',q.1=t'::p'→BK ((s.set (t::p) c').v t') p'=BK (s.v t') p':=fun q hm t' p' e=>by
    refine Py (.inr ?_)
    rcases hfar q hm with h|h
    ·rw [h]at e;cases e
    ·rw [←e];exact h
   rw [hset']
   obtain⟨S1,Fs1,r1,r2,r3⟩:=ih hls hap2 h1 (fun q hm=>by
    rcases hq q (List.mem_cons_of_mem _ hm)with h|⟨t',p',e,hh⟩
    ·exact .inl h
    ·exact .inr ⟨t',p',e,by rw [hst2 q hm t' p' e];exact hh⟩)
   refine⟨S1,Fs1,r1,hstep.trans r2,fun q u d hm hs hf=> ?_⟩
   rcases List.mem_cons.1 hm with rfl|hm
   ·simp only at hf
    rw [hc']at hf
    injection hf with hf
    subst hf
    have hu:u=v:=by
     obtain⟨_,⟨h1,_⟩|⟨t',p',h1,h2,h3⟩⟩:=hs
     ·cases h1
     ·simp only at h3;rw [hfo]at h3;injection h3 with h3;exact h3.symm
    subst hu
    exact W.mono (fun k hk=>⟨r2.sS k hk,rfl⟩) hWf _ _ (fun _ _ _ _ h=>h) (fun _ _ _ _ _ h=>h) (fun _ h=>h.elim)
   ·refine r3 q u d hm ?_ hf
    obtain⟨ho,h1|⟨t',p',h1,h2,h3⟩⟩:=hs
    ·exact⟨ho, .inl h1⟩
    ·exact⟨ho, .inr ⟨t',p',h1,by rw [hst2 q hm t' p' h1];exact h2,h3⟩⟩
end
end Dv
namespace Dv
open Go
section
variable {P:Program} {E:Env} {s s':St} {gh:Nat→Value} {a:Act} {w w':World} {S:Nat→Prop} {Fs:Nat→Nat→Prop} {N:Nat} {pm:Pm}
theorem MG{T:Tys}{S0:Nat→Prop}{gh0:Nat→Value}{xs:List (Operand×TypeId)}{as caps:List D}{args vcaps:Array Value}(hlen:as.length=xs.length)(hsz:args.size=xs.length)
  (hargs: ∀(i:Nat) (q:Operand×TypeId),xs[i]? =some q→args[i]? =some (a.eval q.1))
  (h: ∀(k:Nat) (x:D),as[k]? =some x→ ∃q:Operand×TypeId,xs[k]? =some q∧W T S0 w (VG gh0) Fj x (a.eval q.1) (fun _=>False))
  (hc:vcaps.size=caps.length)(hcaps: ∀(i:Nat) (d:D),caps[i]? =some d→ ∃v,vcaps[i]? =some v∧W T S0 w (VG gh0) Fj d v (fun _=>False)):
  (args++vcaps).size=(as++caps).length∧ ∀(i:Nat) (d:D),(as++caps)[i]? =some d→ ∃v,(args++vcaps)[i]? =some v∧W T S0 w (VG gh0) Fj d v (fun _=>False):=by
 refine⟨by simp [hlen,hsz,hc],fun i d hi=> ?_⟩
 rcases Nat.lt_or_ge i as.length with hl|hl
 ·rw [List.getElem?_append_left hl]at hi
  obtain⟨q,hq,hW⟩:=h i d hi
  exact⟨_,by rw [Array.getElem?_append_left (by omega)];exact hargs i q hq,hW⟩
 ·rw [List.getElem?_append_right hl]at hi
  obtain⟨v,hv,hW⟩:=hcaps _ d hi
  exact⟨v,by rw [Array.getElem?_append_right (by omega),show i-args.size=i-as.length by omega];exact hv,hW⟩
theorem Ub{T:Tys}{S0:Nat→Prop}{gh0:Nat→Value}{caps:List D}{vcaps:Array Value}(hS: ∀k,S k→S0 k)
  (hcaps: ∀(i:Nat) (d:D),caps[i]? =some d→ ∃v,vcaps[i]? =some v∧W T S w V0 Fj d v (fun _=>False)):
  ∀(i:Nat) (d:D),caps[i]? =some d→ ∃v,vcaps[i]? =some v∧W T S0 w (VG gh0) Fj d v (fun _=>False):=by
 intro i d hi
 obtain⟨v,hv,hW⟩:=hcaps i d hi
 exact⟨v,hv,(W.mono (fun k hk=>⟨hS k hk,rfl⟩) hW V0 Fj (fun _ _ _ _ h=>h) (fun _ _ _ _ _ h=>h) (fun _ h=>h.elim)).up⟩
theorem WU{c:Call}{ts:List TypeId}(hsz:c.args.size=ts.length):(c.args.map a.eval).size=(c.args.toList.zip ts).length∧
  ∀(i:Nat) (q:Operand×TypeId),(c.args.toList.zip ts)[i]? =some q→(c.args.map a.eval)[i]? =some (a.eval q.1):=by
 refine⟨by simp [hsz],fun i q hi=> ?_⟩
 rw [List.getElem?_zip_eq_some]at hi
 rw [Array.getElem?_map]
 have:c.args[i]? =some q.1:=by simpa using hi.1
 rw [this];rfl
theorem Uc(h:Fr E.T N gh s a w S Fs){xs:List (Operand×TypeId)}(hxs: ∀q∈xs,Ar N q.1){as caps:List D}{ls:List (AA×D)}(ha:Cs E false pm s 0 xs=some (as,ls))
  {args vcaps:Array Value}(hsz:args.size=xs.length)(hargs: ∀(i:Nat) (q:Operand×TypeId),xs[i]? =some q→args[i]? =some (a.eval q.1))
  (hc:vcaps.size=caps.length)(hcaps: ∀(i:Nat) (d:D),caps[i]? =some d→ ∃v,vcaps[i]? =some v∧W E.T S w V0 Fj d v (fun _=>False))
  {f:FuncId}{r:D}{outs:List D}(hg:Good P E.T f (as++caps) [] r outs)(hno:CG r=false){dst:Option Tmp}(hd:Ca N dst):
  Calls P f (args++vcaps) w fun| .returned v,w'=>Be E.T gh N (s.putO dst r) w S Fs (a.put dst v) w'|_,_=>False:=by
 obtain⟨lv,ho,hlen,hgi⟩:=Ji h.rel h.small xs 0 hxs ha
 have hA:=hgi (fun _=>undef) (fun k=>S k∨ ∃u,Fs u k) (fun k hk=> .inl hk) (fun hl=>by cases hl) (fun _ i q v c' hq hv hs hf=>by
  obtain⟨_,⟨e,⟨e1,h1⟩,A,h2⟩|⟨t,p,h1,h2,h3⟩⟩:=hs
  ·have:W E.T (fun k=>S k∨ ∃u,Fs u k) w V0 Fj (.own e1 []) (.slice A 0 0) (fun _=>False):= .own0 fun _ h=>h
   rw [h1]at hf
   rw [h2]
   exact this.freeze c' hf (fun _ h=>h.elim) (fun _ h=>h)
  ·obtain⟨v',F,hfo,hW,hsub,_⟩:=h.rel.focus h2
   rw [h1,hfo]at h3
   injection h3 with h3
   subst h3
   exact hW.freeze c' hf (fun k hk=> .inr ⟨t,hsub k hk⟩) (fun k hk=> .inl hk))
 obtain⟨e1,e2⟩:=MG hlen hsz hargs hA hc (Ub (fun k hk=> .inl hk) hcaps)
 refine Calls.mono (hg.2 _ (fun _=>undef) w _ (fun _ _=>False) e1 e2 (fun j d hj=>by simp at hj) (fun _ _ _ h=>h) (fun _ _ _ _ h=>h.elim) (fun k hk=>hk.elim (h.rel.lt k) (fun⟨u,hu⟩=>(h.rel.val u).lt k hu)) (h.inv.more (fun _ hk=> .inl hk) (fun _ _=>rfl))) ?_
 intro e w' he
 cases e with
 |returned v=>
  obtain⟨S',F,FL',hW,_,_,_,hst,hF,hlt⟩:=he
  have hheap: ∀k,k<w.heap.size→w'.heap[k]? =w.heap[k]? :=fun k hk=>hst.heap k hk (fun _ h=>h)
  have hFn: ∀k,F k→w.heap.size≤k:=fun k hk=>(hF k hk).elim (fun⟨_,h⟩=>h.elim) id
  have hW':W E.T S w' V0 Fj r v F:=qV hW hno (fun k hk hs=>by have:=hFn k hk;have:=h.rel.lt k hs;omega)
  exact Bj (h.rel.grow hheap hst.size) hW'.up (fun t k _ hf hu=>by have:=hFn k hf;have:=(h.rel.val t).lt k hu;omega)
   ⟨hst.os,hst.tape,hst.output,hst.size,fun k hk _=>hheap k hk,fun _ h=>h,fun _ h=> .inl h,fun u k h=> .inl ⟨u,h⟩⟩ (fun k hk=> .inr (hFn k hk)) h.defs h.size h.small hd
 |panicked=>exact he.elim
 |outgrown=>exact he.elim
theorem Zd{l:List (AA×D)}{lv:List Value}{rv:Nat→Value}(ho:IC s w rv l lv): ∀q∈l,q.1=[]∨ ∃t p,q.1=t::p∧BK (s.v t) p=some q.2:=by
 intro q hq
 obtain⟨i,hi⟩:=List.getElem?_of_mem hq
 have hlt:i<lv.length:=by rw [ho.1];exact(List.getElem?_eq_some_iff.1 hi).1
 obtain⟨_,⟨h,_⟩|⟨t,p,h1,h2,_⟩⟩:=ho.2 i q _ hi (List.getElem?_eq_getElem hlt)
 ·exact .inl h
 ·exact .inr ⟨t,p,h1,h2⟩
theorem WV(h:Fr E.T N gh s a w S Fs){xs:List (Operand×TypeId)}(hxs: ∀q∈xs,Ar N q.1){as caps:List D}{ls ls':List (AA×D)}(ha:Cs E false pm s 0 xs=some (as,ls))
  {args vcaps:Array Value}(hsz:args.size=xs.length)(hargs: ∀(i:Nat) (q:Operand×TypeId),xs[i]? =some q→args[i]? =some (a.eval q.1))
  (hc:vcaps.size=caps.length)(hcaps: ∀(i:Nat) (d:D),caps[i]? =some d→ ∃v,vcaps[i]? =some v∧W E.T S w V0 Fj d v (fun _=>False))
  {f:FuncId}{r:D}{outs:List D}(hg:Good P E.T f (as++caps) [] r outs)(hap:Di (ls.map (·.1))=true)(hfz:GX ls=some ls'){dst:Option Tmp}(hd:Ca N dst):
  Calls P f (args++vcaps) w fun| .returned v,w'=>Be E.T gh N ((back false s ls').putO dst r) w S Fs (a.put dst v) w'|_,_=>False:=by
 obtain⟨lv,ho,hlen,hgi⟩:=Ji h.rel h.small xs 0 hxs ha
 obtain⟨S1,Fs1,r1,r2,r3⟩:=YQ ls hfz hap h.rel (Zd ho)
 have hA:=hgi (fun _=>undef) S1 r2.sS (fun hl=>by cases hl) (fun _ i q v c' hq hv hs hf=>r3 q v c' (List.mem_of_getElem? hq) hs hf)
 obtain⟨e1,e2⟩:=MG hlen hsz hargs hA hc (Ub r2.sS hcaps)
 refine Calls.mono (hg.2 _ (fun _=>undef) w _ (fun _ _=>False) e1 e2 (fun j d hj=>by simp at hj) (fun _ _ _ h=>h) (fun _ _ _ _ h=>h.elim) r1.lt (h.inv.more (fun k hk=>r2.sS k hk) (fun _ _=>rfl))) ?_
 intro e w' he
 cases e with
 |returned v=>
  obtain⟨S',F,FL',hW,_,_,_,hst,hF,hlt⟩:=he
  have hheap: ∀k,k<w.heap.size→w'.heap[k]? =w.heap[k]? :=fun k hk=>hst.heap k hk (fun _ h=>h)
  have hFn: ∀k,F k→w.heap.size≤k:=fun k hk=>(hF k hk).elim (fun⟨_,h⟩=>h.elim) id
  have hk:=Keeps.grow r1 hheap
  have hnS: ∀u k,Fs1 u k→ ¬S' k:=fun u k hu hs=>by
   rcases hst.sS' k hs with h1|⟨_,h1⟩|h1
   ·exact(r1.val u).notS k hu h1
   ·exact h1
   ·have:=(r1.val u).lt k hu;omega
  have hrel:Rel E.T (back false s ls') (Ad a gh) w' S' Fs1:=⟨fun t=>(r1.val t).keep hk (fun k hs=>⟨hst.sS k hs,hheap k (r1.lt k hs)⟩) (fun k hf=>⟨hnS t k hf,hheap k ((r1.val t).lt k hf)⟩),r1.disj,hlt⟩
  refine Bj hrel hW.up (fun t k _ hf hu=>by have:=hFn k hf;have:=(r1.val t).lt k hu;omega) (r2.trans ⟨hst.os,hst.tape,hst.output,hst.size,fun k hk _=>hheap k hk,hst.sS,fun k hs=> ?_,fun u k h=> .inl ⟨u,h⟩⟩) (fun k hk=> .inr (hFn k hk)) h.defs h.size h.small hd
  rcases hst.sS' k hs with h1|⟨_,h1⟩|h1
  ·exact .inl h1
  ·exact h1.elim
  ·exact .inr (.inr h1)
 |panicked=>exact he.elim
 |outgrown=>exact he.elim
theorem WW{T:Tys}{rv:Nat→Value}(h:Rel T s rv w S Fs){l:List (AA×D)}{lv:List Value}(ho:IC s w rv l lv){outs:List D}(hlen:outs.length=l.length)
  (hheap: ∀t,(∀q∈l,q.1=[]∨q.1.headD 0≠t)→ ∀k,Fs t k→w'.heap[k]? =w.heap[k]?):Keeps s w rv (Ij s (l.map (·.1)) outs) w' rv:=by
 have hzip: ∀L,L∈l.map (·.1)→ ∃q∈(l.map (·.1)).zip outs,q.1=L:=by
  intro L hL
  obtain⟨i,hi⟩:=List.getElem?_of_mem hL
  have hl:i<outs.length:=by rw [hlen];simpa using (List.getElem?_eq_some_iff.1 hi).1
  exact⟨(L,outs[i]),List.mem_of_getElem? (i:=i) (by rw [List.getElem?_zip_eq_some];exact⟨hi,List.getElem?_eq_getElem hl⟩),rfl⟩
 refine⟨fun t=>by unfold Ij;rw [Ua,Ua];exact Nat.le_refl _,fun t=> ?_,fun L n m he hva=> ?_⟩
 ·unfold Ij
  refine Nat.le_trans ?_ (TM true t _ _)
  rw [Nh];exact Nat.le_refl _
 ·obtain⟨t,q,x,rfl,h1,h2,h3,h4⟩:=hva
  unfold Ij at h1 h2 h3
  rw [Ua,Ua]at h1
  by_cases htch: ∃q∈l,q.1≠[]∧q.1.headD 0=t
  ·obtain⟨q0,hm,hne,hhd⟩:=htch
   have hq:q=[]:=by
    rcases h2 with h2|h2
    ·exact h2
    ·obtain⟨q1,hm1,e1⟩:=hzip q0.1 (List.mem_map_of_mem hm)
     have:=bE t ((l.map (·.1)).zip outs) (back false s ((l.map (·.1)).map fun L=>(L, .undef))) ⟨q1,hm1,by rw [e1];exact hne,by rw [e1];exact hhd⟩
     rw [Nh]at this
     have h5:=he.2
     simp only [List.headD_cons]at h5
     omega
   subst hq
   simp only [BK,Option.some.injEq]at h3
   refine⟨⟨t,[],s.v t,rfl,h1, .inl rfl,rfl, ?_⟩,by simp [DI,Af]⟩
   by_cases hroot: ∃q∈l,q.1=[t]
   ·obtain⟨q2,hm2,e2⟩:=hroot
    obtain⟨i,hi⟩:=List.getElem?_of_mem hm2
    have hlt:i<lv.length:=by rw [ho.1];exact(List.getElem?_eq_some_iff.1 hi).1
    obtain⟨hob,⟨h5,_⟩|⟨t',p',h5,h6,_⟩⟩:=ho.2 i q2 _ hi (List.getElem?_eq_getElem hlt)
    ·rw [h5]at e2;cases e2
    ·rw [e2]at h5
     injection h5 with h5 h7
     subst h5;subst h7
     simp only [BK,Option.some.injEq]at h6
     rw [h6];exact hob
   ·have hr: ∀L,L∈l.map (·.1)→L≠[t]:=fun L hL e=>by
     obtain⟨q',hm',e'⟩:=List.mem_map.1 hL
     exact hroot ⟨q',hm',e'.trans e⟩
    rw [←h3,TN,TN]at h4
    ·exact h4
    ·intro q hq
     obtain⟨L,hL,rfl⟩:=List.mem_map.1 hq
     exact hr L hL
    ·intro q hq
     exact hr q.1 (List.of_mem_zip hq).1
  ·have hu: ∀q∈l,q.1=[]∨q.1.headD 0≠t:=fun q hq=>by
    by_cases hn:q.1=[]
    ·exact .inl hn
    ·exact .inr fun e=>htch ⟨q,hq,hn,e⟩
   have hu1: ∀q∈(l.map (·.1)).map (fun L=>(L,D.undef)),q.1=[]∨q.1.headD 0≠t:=by
    intro q hq
    obtain⟨L,hL,rfl⟩:=List.mem_map.1 hq
    obtain⟨q',hm',rfl⟩:=List.mem_map.1 hL
    exact hu q' hm'
   have hu2: ∀q∈(l.map (·.1)).zip outs,q.1=[]∨q.1.headD 0≠t:=by
    intro q hq
    obtain⟨q',hm',e⟩:=List.mem_map.1 (List.of_mem_zip hq).1
    rw [←e];exact hu q' hm'
   obtain⟨b1,b2⟩:=Qs true t _ (back false s ((l.map (·.1)).map fun L=>(L, .undef))) hu2
   obtain⟨c1,c2⟩:=Qs false t _ s hu1
   rw [b1,c1]at h3
   rw [b2,c2]at h2
   refine⟨⟨t,q,x,rfl,h1,h2,h3,h4⟩, ?_⟩
   simp only [DI]
   exact(h.val t).follow_frame (hheap t hu) x h3
theorem TP(h:Fr E.T N gh s a w S Fs){args:List D}{ls:List (AA×D)}{lv:List Value}(ho:IC s w (Ad a gh) ls lv){vs:Array Value}
  (e1:vs.size=args.length)(e2: ∀(i:Nat) (d:D),args[i]? =some d→ ∃v,vs[i]? =some v∧W E.T S w (VG fun j=>lv.getD j undef) Fj d v (fun _=>False))
  {f:FuncId}{r:D}{outs:List D}(hg:Good P E.T f args (ls.map (·.2)) r outs)(hap:Di (ls.map (·.1))=true)(hok:ls.all (fun l=>U5 l.2)=true)(hol:outs.length=ls.length){dst:Option Tmp}(hd:Ca N dst):
  Calls P f vs w fun| .returned v,w'=>Be E.T gh N ((Ij s (ls.map (·.1)) outs).putO dst r) w S Fs (a.put dst v) w'|_,_=>False:=by
 have hV:RelV E.T (VR s w (Ad a gh)) (VpR s w (Ad a gh)) s (Ad a gh) w S Fs:=⟨h.rel.val,h.rel.disj⟩
 obtain⟨Fs1,FL,q1,q2,q3,q4,q5,q6,q7⟩:=bF ls hV hap (Zd ho)
 have hlent: ∀(j:Nat) (q:AA×D),ls[j]? =some q→W E.T S w V0 Fj q.2 (lv.getD j undef) (FL j):=by
  intro j q hj
  have hlt:j<lv.length:=by rw [ho.1];exact(List.getElem?_eq_some_iff.1 hj).1
  have hgd:lv.getD j undef=lv[j]:=by simp [List.getD_eq_getElem?_getD,hlt]
  obtain⟨hob,⟨h1,⟨e,h2⟩,A,h3⟩|⟨t,p,h1,h2,h3⟩⟩:=ho.2 j q _ hj (List.getElem?_eq_getElem hlt)
  ·rw [hgd,h2,h3]
   exact .own0 (q3 j (fun q' hq'=>by rw [hj]at hq';injection hq' with hq';rw [←hq'];exact h1))
  ·obtain⟨_,v,hv,hW⟩:=q2 j q t p hj h1
   rw [h3]at hv
   injection hv with hv
   rw [hgd,hv]
   exact UX q.2 hW (by simpa [U5] using List.all_eq_true.1 hok q (List.mem_of_getElem? hj))
 refine Calls.mono (hg.2 _ (fun j=>lv.getD j undef) w S FL e1 e2 (fun j d hj=>by
   rw [List.getElem?_map]at hj
   obtain⟨q,hq,rfl⟩:=Option.map_eq_some_iff.1 hj
   exact hlent j q hq) (fun j hj=>q3 j (fun q hq=>by have:=(List.getElem?_eq_some_iff.1 hq).1;simp at hj;omega)) q4 h.rel.lt h.inv) ?_
 intro e w' he
 cases e with
 |returned v=>
  obtain⟨S',F,FL',hW,hWo,hd1,hd2,hst,hF,hlt⟩:=he
  have hFs1lt: ∀u k,Fs1 u k→k<w.heap.size:=fun u k hu=>(h.rel.val u).lt k (q6 u k hu)
  have hheap1: ∀u k,Fs1 u k→w'.heap[k]? =w.heap[k]? :=fun u k hu=>hst.heap k (hFs1lt u k hu) (fun j hj=>q5 j u k hj hu)
  have hnS: ∀u k,Fs1 u k→ ¬S' k:=fun u k hu hs=>by
   rcases hst.sS' k hs with h1|⟨j,h1⟩|h1
   ·exact(q1.val u).notS k hu h1
   ·exact q5 j u k h1 hu
   ·have:=hFs1lt u k hu;omega
  have hFLS: ∀j k,FL j k→ ¬S k:=fun j k hj hs=>by
   obtain⟨q,t,p,_,_,hk⟩:=q7 j k hj
   exact(h.rel.val t).notS k hk hs
  have hSheap: ∀k,S k→S' k∧w'.heap[k]? =w.heap[k]? :=fun k hs=>⟨hst.sS k hs,hst.heap k (h.rel.lt k hs) (fun j hj=>hFLS j k hj hs)⟩
  have hV1:RelV E.T (VR s w (Ad a gh)) (VpR s w (Ad a gh)) (back false s (ls.map fun q=>(q.1, .undef))) (Ad a gh) w' S' Fs1:=
   ⟨fun t=>W.mono hSheap (q1.val t) _ _ (fun _ _ _ _ h=>h) (fun _ _ _ _ _ h=>h) (fun k hk=>⟨hnS t k hk,hheap1 t k hk⟩),q1.disj⟩
  have hFLn: ∀j u k,FL' j k→ ¬Fs1 u k:=fun j u k hj hu=>by
   rcases hst.sF j k hj with⟨i,hi⟩|hge
   ·exact q5 i u k hi hu
   ·have:=hFs1lt u k hu;omega
  have hzg: ∀(i:Nat) (q:AA×D),((ls.map (·.1)).zip outs)[i]? =some q→ ∃q',ls[i]? =some q'∧q'.1=q.1∧outs[i]? =some q.2:=by
   intro i q hi
   rw [List.getElem?_zip_eq_some,List.getElem?_map]at hi
   obtain⟨q',h1,h2⟩:=Option.map_eq_some_iff.1 hi.1
   exact⟨q',h1,h2,hi.2⟩
  obtain⟨Fs2,f1,f2⟩:=eu ((ls.map (·.1)).zip outs) (FL:=FL') (gh:=fun j=>lv.getD j undef) hV1 (by
    have:((ls.map (·.1)).zip outs).map (·.1)=ls.map (·.1):=List.map_fst_zip (by simp [hol])
    rw [this];exact hap) (fun i q hi=>by
    obtain⟨q',h1,h2,h3⟩:=hzg i q hi
    cases hL:q.1 with
    |nil=>exact .inl rfl
    |cons t p=>
     right
     obtain⟨g1,v1,g2,g3⟩:=q2 i q' t p h1 (h2.trans hL)
     refine⟨t,p,rfl,g1, ?_⟩
     have hlt':i<lv.length:=by rw [ho.1];exact(List.getElem?_eq_some_iff.1 h1).1
     have hgd:lv.getD i undef=lv[i]:=by simp [List.getD_eq_getElem?_getD,hlt']
     obtain⟨hob,⟨h4,_⟩|⟨t',p',h4,h5,h6⟩⟩:=ho.2 i q' _ h1 (List.getElem?_eq_getElem hlt')
     ·rw [h2,hL]at h4;cases h4
     ·rw [h2,hL]at h6
      simp only [hgd,←h6,DI]
      exact(q1.val t).follow_frame (fun k hk=>hheap1 t k hk) _ g1)
   (fun i q hi=>by
    obtain⟨q',h1,h2,h3⟩:=hzg i q hi
    exact(hWo i q.2 h3).up) hd1 hFLn
  have hbk:Ij s (ls.map (·.1)) outs=back true (back false s (ls.map fun q=>(q.1, .undef))) ((ls.map (·.1)).zip outs):=by
   unfold Ij
   rw [List.map_map];rfl
  have hkeep:Keeps s w (Ad a gh) (Ij s (ls.map (·.1)) outs) w' (Ad a gh):=WW h.rel ho hol (fun t ht k hk=>by
   refine hst.heap k ((h.rel.val t).lt k hk) (fun j hj=> ?_)
   obtain⟨q,t',p,h1,h2,h3⟩:=q7 j k hj
   rcases ht q (List.mem_of_getElem? h1)with h4|h4
   ·rw [h4]at h2;cases h2
   ·rw [h2]at h4
    exact h.rel.disj t t' k (fun e=>h4 (by simpa using e.symm)) hk h3)
  have hFs2: ∀u k,Fs2 u k→(∃u,Fs u k)∨w.heap.size≤k:=fun u k hu=>by
   rcases f2 u k hu with h1|⟨j,h1⟩
   ·exact .inl ⟨u,q6 u k h1⟩
   ·rcases hst.sF j k h1 with⟨i,hi⟩|hge
    ·obtain⟨q,t',p,_,_,h3⟩:=q7 i k hi
     exact .inl ⟨t',h3⟩
    ·exact .inr hge
  have hrel:Rel E.T (Ij s (ls.map (·.1)) outs) (Ad a gh) w' S' Fs2:=by
   refine⟨fun t=> ?_,f1.disj,hlt⟩
   have:=f1.val t
   rw [←hbk]at this
   exact W.mono (fun k hk=>⟨hk,rfl⟩) this _ _ hkeep.VR hkeep.VpR (fun k hk=>⟨this.notS k hk,rfl⟩)
  refine Bj hrel hW.up (fun t k _ hf hu=> ?_) ⟨hst.os,hst.tape,hst.output,hst.size,fun k hk hn=>hst.heap k hk (fun j hj=> ?_),hst.sS,fun k hs=> ?_,hFs2⟩ (fun k hf=> ?_) h.defs h.size h.small hd
  ·rcases f2 t k hu with h1|⟨j,h1⟩
   ·rcases hF k hf with⟨j,hj⟩|hge
    ·exact q5 j t k hj h1
    ·have:=hFs1lt t k h1;omega
   ·exact hd2 j k hf h1
  ·obtain⟨q,t',p,_,_,h3⟩:=q7 j k hj
   exact hn t' h3
  ·rcases hst.sS' k hs with h1|⟨j,h1⟩|h1
   ·exact .inl h1
   ·obtain⟨q,t',p,_,_,h3⟩:=q7 j k h1
    exact .inr (.inl ⟨t',h3⟩)
   ·exact .inr (.inr h1)
  ·rcases hF k hf with⟨j,hj⟩|hge
   ·obtain⟨q,t',p,_,_,h3⟩:=q7 j k hj
    exact .inl ⟨t',h3⟩
   ·exact .inr hge
 |panicked=>exact he.elim
 |outgrown=>exact he.elim
theorem YR(h:Fr E.T N gh s a w S Fs){xs:List (Operand×TypeId)}(hxs: ∀q∈xs,Ar N q.1){as caps:List D}{ls:List (AA×D)}(ha:Cs E true pm s 0 xs=some (as,ls))
  {args vcaps:Array Value}(hsz:args.size=xs.length)(hargs: ∀(i:Nat) (q:Operand×TypeId),xs[i]? =some q→args[i]? =some (a.eval q.1))
  (hc:vcaps.size=caps.length)(hcaps: ∀(i:Nat) (d:D),caps[i]? =some d→ ∃v,vcaps[i]? =some v∧W E.T S w V0 Fj d v (fun _=>False))
  {f:FuncId}{r:D}{outs:List D}(hg:Good P E.T f (as++caps) (ls.map (·.2)) r outs)(hap:Di (ls.map (·.1))=true)(hok:ls.all (fun l=>U5 l.2)=true)(hol:outs.length=ls.length){dst:Option Tmp}(hd:Ca N dst):
  Calls P f (args++vcaps) w fun| .returned v,w'=>Be E.T gh N ((Ij s (ls.map (·.1)) outs).putO dst r) w S Fs (a.put dst v) w'|_,_=>False:=by
 obtain⟨lv,ho,hlen,hgi⟩:=Ji h.rel h.small xs 0 hxs ha
 have hA:=hgi (fun j=>lv.getD j undef) S (fun _ h=>h) (fun _ i v hv=>by rw [Nat.zero_add,List.getD_eq_getElem?_getD,hv];rfl) (fun hl=>by cases hl)
 obtain⟨e1,e2⟩:=MG hlen hsz hargs hA hc (Ub (fun _ h=>h) hcaps)
 exact TP h ho e1 e2 hg hap hok hol hd
theorem bG(h:Fr E.T N gh s a w S Fs){xs:List (Operand×TypeId)}(hxs: ∀q∈xs,Ar N q.1){as caps cs:List D}{ls lc:List (AA×D)}(ha:Cs E true pm s 0 xs=some (as,ls))(hoc:Ce pm s ls.length caps=some (cs,lc))
  {args vcaps:Array Value}(hsz:args.size=xs.length)(hargs: ∀(i:Nat) (q:Operand×TypeId),xs[i]? =some q→args[i]? =some (a.eval q.1)){f:FuncId}{us:Nat→Value}
  (hc:vcaps.size=caps.length)(hcx: ∀(i:Nat) (d:D),caps[i]? =some d→vcaps[i]? =some (us i))(hcw: ∀(i:Nat) (d:D),caps[i]? =some d→WR E.T s (Ad a gh) w S d (us i) (fun _=>False))
  (hself: ∀i,caps[i]? =some D.undef→ ∃ad,us i= .pointer (some ad)∧S ad.block∧w.cell? (ad.add 0)=some (.func (.func f) #[] vcaps))
  {r:D}{outs:List D}(hg:Good P E.T f (as++cs.map (Gr f cs)) ((ls++lc).map (·.2)) r outs)(hap:Di ((ls++lc).map (·.1))=true)(hok:(ls++lc).all (fun l=>U5 l.2)=true)(hol:outs.length=(ls++lc).length){dst:Option Tmp}(hd:Ca N dst):
  Calls P f (args++vcaps) w fun| .returned v,w'=>Be E.T gh N ((Ij s ((ls++lc).map (·.1)) outs).putO dst r) w S Fs (a.put dst v) w'|_,_=>False:=by
 obtain⟨lv1,ho1,hlen,hgi⟩:=Ji h.rel h.small xs 0 hxs ha
 obtain⟨lv2,ho2,hlc,hun,hgo⟩:=UZ caps ls.length us hcw hoc
 have ho:=ho1.append ho2
 have hgd: ∀(i:Nat) (v:Value),(lv1++lv2)[i]? =some v→(lv1++lv2).getD i undef=v:=fun i v hv=>by rw [List.getD_eq_getElem?_getD,hv];rfl
 have hA:=Ei.left (l2:=lc) (v2:=lv2) ho1 hgi (fun j=>(lv1++lv2).getD j undef) S (fun _ h=>h) (fun _ i v hv=>by rw [Nat.zero_add];exact hgd i v hv) (fun hl=>by cases hl)
 have hO:=Ei.right (l1:=ls) (v1:=lv1) (j:=0) ho1 (by rw [Nat.zero_add];exact hgo) (fun j=>(lv1++lv2).getD j undef) S (fun _ h=>h) (fun _ i v hv=>by rw [Nat.zero_add];exact hgd i v hv) (fun hl=>by cases hl)
 have hvi: ∀(i:Nat) (d:D),cs[i]? =some d→vcaps[i]? =some (us i):=fun i d hi=>by
  have hlt:=(List.getElem?_eq_some_iff.1 hi).1
  exact hcx i _ (List.getElem?_eq_getElem (by rw [←hlc];exact hlt))
 obtain⟨e1,e2⟩:=MG hlen hsz hargs hA (caps:=cs.map (Gr f cs)) (vcaps:=vcaps) (by rw [hc,List.length_map,hlc]) (fun i d hi=>by
  rw [List.getElem?_map]at hi
  obtain⟨x,hx,rfl⟩:=Option.map_eq_some_iff.1 hi
  refine⟨us i,hvi i x hx, ?_⟩
  by_cases hu:x=D.undef
  ·subst hu
   obtain⟨ad,s1,s2,s3⟩:=hself i (hun i hx)
   rw [s1]
   exact .ocl us (fun _ h=>h) (by rw [hc,hlc]) hvi hO (fun k hk=>hself k (hun k hk)) (.inr ⟨rfl,ad,rfl,s2,s3⟩)
  ·have:Gr f cs x=x:=by unfold Gr;split<;>first|exact absurd rfl hu|rfl
   rw [this]
   exact hO i x hx)
 exact TP h ho e1 e2 hg hap hok hol hd
theorem fA(hK:Nc P E):dY P E:=by
 intro pm s s' gh a w S Fs N Q o c f caps vcaps ts h hok hop hsz hcd hvc hcaps hrun
 obtain⟨hd,hx⟩:=hok
 have hxs: ∀q∈c.args.toList.zip ts,Ar N q.1:=fun q hq=>hx q.1 (by
  have:=(List.of_mem_zip hq).1
  rw [hop];simp only [Op.operands,Call.operands];simp;right;simpa using this)
 obtain⟨z1,z2⟩:=WU (a:=a) hsz
 have key: ∀ {args lent:List D} {r:D} {outs:List D},Good P E.T f args lent r outs→(Calls P f (c.args.map a.eval++vcaps) w fun| .returned v,w'=>Be E.T gh N s' w S Fs (a.put o.dst v) w'|_,_=>False)→o.wp P a w (Be E.T gh N s' w S Fs) Q:=by
  intro args lent r outs hg hcalls
  obtain⟨⟨fn,hf,hb,hn⟩,_⟩:=hg
  unfold Oper.wp
  rw [hrun,Nf hf hb hn,Oper.upon_enter]
  refine Calls.mono hcalls ?_
  intro e w' he
  cases e with
  |returned v=>exact he
  |panicked=>exact he.elim
  |outgrown=>exact he.elim
 unfold F8 at hcd
 split at hcd
 ·split at hcd
  ·cases hcd
  ·rename_i as ls ha
   split at hcd
   ·rename_i hcond
    simp only [Bool.and_eq_true]at hcond
    split at hcd
    ·rename_i r outs hcall
     split at hcd
     ·rename_i hol
      simp only [Option.some.injEq]at hcd
      subst hcd
      exact key (hK _ _ _ _ _ hcall) (YR h hxs ha z1 z2 hvc hcaps (hK _ _ _ _ _ hcall) hcond.1.1 hcond.2 hol hd)
     ·cases hcd
    ·cases hcd
   ·cases hcd
 ·split at hcd
  ·cases hcd
  ·rename_i as ls ha
   split at hcd
   ·rename_i r outs hcall
    split at hcd
    ·split at hcd
     ·rename_i hcond
      simp only [Bool.and_eq_true]at hcond
      simp only [Option.map_eq_some_iff]at hcd
      obtain⟨ls',hfz,rfl⟩:=hcd
      exact key (hK _ _ _ _ _ hcall) (WV h hxs ha z1 z2 hvc hcaps (hK _ _ _ _ _ hcall) hcond.1 hfz hd)
     ·cases hcd
    ·rename_i hno
     simp only [Option.some.injEq]at hcd
     subst hcd
     exact key (hK _ _ _ _ _ hcall) (Uc h hxs ha z1 z2 hvc hcaps (hK _ _ _ _ _ hcall) (by simpa using hno) hd)
   ·cases hcd
theorem fB(hK:Nc P E):dZ P E:=by
 intro pm s s' gh a w S Fs N Q o c f caps vcaps us h hok hop hsz hcd hvc hcx hcw hself hrun
 obtain⟨hd,hx⟩:=hok
 have hxs: ∀q∈c.args.toList.zip c.argTypes.toList,Ar N q.1:=fun q hq=>hx q.1 (by
  have:=(List.of_mem_zip hq).1
  rw [hop];simp only [Op.operands,Call.operands];simp;right;simpa using this)
 obtain⟨z1,z2⟩:=WU (a:=a) (ts:=c.argTypes.toList) (by simpa using hsz)
 unfold JR at hcd
 split at hcd
 ·cases hcd
 ·rename_i as ls ha
  split at hcd
  ·cases hcd
  ·rename_i cs lc hoc
   split at hcd
   ·rename_i hcond
    simp only [Bool.and_eq_true]at hcond
    split at hcd
    ·rename_i r outs hcall
     split at hcd
     ·rename_i hol
      simp only [Option.some.injEq]at hcd
      subst hcd
      have hg:=hK _ _ _ _ _ hcall
      have hcalls:=bG h hxs ha hoc z1 z2 hvc hcx hcw hself hg hcond.1.1 hcond.2 hol hd
      obtain⟨⟨fn,hf,hb,hn⟩,_⟩:=hg
      unfold Oper.wp
      rw [hrun,Nf hf hb hn,Oper.upon_enter]
      refine Calls.mono hcalls ?_
      intro e w' he
      cases e with
      |returned v=>exact he
      |panicked=>exact he.elim
      |outgrown=>exact he.elim
     ·cases hcd
    ·cases hcd
   ·cases hcd
theorem Ze(hK:Nc P E):Ho P E:=⟨fA hK,fB hK⟩
end
end Dv
namespace Dv
open Go
def WX(a:Act):ResultVar→Sem Value
 | .tmp t=>pure (a.tmps.getD t undef)
 | .cell x t=>do loadVar t (←asAddr (a.tmps.getD x undef))
def TQ(N:Nat):ResultVar→Bool
 | .tmp t=>decide (t<N)
 | .cell t _=>decide (t<N)
section
variable {P:Program} {T:Tys} {s s':St} {gh:Nat→Value} {a:Act} {w w':World} {S:Nat→Prop} {Fs:Nat→Nat→Prop} {N:Nat}
theorem YS(hG:N≤G){t:Nat}(ht:t<N):a.tmps.getD t undef=Ad a gh t:=by
 have:t<G:=by omega
 simp [Ad,this]
theorem Nj(h:BU P T){t:TypeId}(hk:T.known t=true)(hs:T.isStruct t=false){w:World}{A:Addr}{u:Value}(hc:w.cell? A=some u):(loadVar t A).run P w= .ok u w:=by
 simp [loadVar,h.isAgg hk,hs,hc]
theorem Nk(h:BU P T){t:TypeId}(hk:T.known t=true)(hs:T.isStruct t=true){w:World}{A:Addr}(f:Nat→Value)(hc: ∀j,j<T.size t→w.cell? (A.add j)=some (f j)):
  (loadVar t A).run P w= .ok (.agg ((List.range (T.size t)).map f).toArray) w:=by
 simp [loadVar,h.isAgg hk,hs,h.szOf hk,run_loadCells w A (T.size t) f hc]
theorem Qt(hT:BU P T)(h:Rel T s (Ad a gh) w S Fs)(hG:N≤G){r:ResultVar}(hr:TQ N r=true){d:D}(hd:QF T s r=some (d,s')):
  ∃v,(WX a r).run P w= .ok v w∧ ∃S' Fs' F,Rel T s' (Ad a gh) w S' Fs'∧Hand T s' (Ad a gh) w S' Fs' d v F∧Keeps s w (Ad a gh) s' w (Ad a gh)∧Sub S Fs S' Fs' F:=by
 cases r with
 |tmp t=>
  simp only [TQ,decide_eq_true_eq]at hr
  have ht:take T Pm.all s 0 (.tmp t)=some (d,s'):=by simpa [take,ev,QF] using hd
  obtain⟨S',Fs',F,h1,h2,h3,h4,h5,h6⟩:=FC h hG (x:= .tmp t) hr ht
  rw [CV (gh:=gh) hG hr]at h2
  refine⟨Ad a gh t,by simp only [WX,Sem.run_pure];rw [YS (gh:=gh) hG hr],S',Fs',F,h1,h2,h3,h4.sS,fun k hk=> ?_,h6,h5⟩
  rcases h4.sS' k hk with h|h|h
  ·exact .inl h
  ·exact .inr h
  ·have:=h1.lt k hk;omega
 |cell t ty=>
  simp only [TQ,decide_eq_true_eq]at hr
  simp only [QF]at hd
  split at hd
  ·rename_i hk
   have hW:=h.val t
   split at hd
   ·rename_i xs hv
    rw [hv]at hW
    have hrv:=YS (a:=a) (gh:=gh) hG hr
    generalize hgen:Ad a gh t=v0 at hW
    cases hW with
    |box us Fi hb hz hx hF hFb hdj hS hw=>
     rename_i ty0 b cs
     have hcell: ∀i x,xs[i]? =some x→w.cell? (Addr.add ⟨b,0,none⟩ i)=some (us i):=fun i x hi=>by rw [Ka hb];exact hx i x hi
     have hkc:=Keeps.clr s w (Ad a gh) t
     have hcl:=h.clr t
     have hnF: ∀i u k,i<xs.length→Fi i k→ ¬JN Fs t (fun _=>False) u k:=fun i u k hi hf hu=>by
      by_cases hut:u=t
      ·subst hut;simp [Ae]at hu
      ·rw [AX _ _ hut]at hu;exact h.disj u t k hut hu ((hF k).2 (.inr ⟨i,hi,hf⟩))
     have hsub: ∀u k,JN Fs t (fun _=>False) u k→Fs u k:=fun u k hu=>by
      by_cases hut:u=t
      ·subst hut;simp [Ae]at hu
      ·rwa [AX _ _ hut]at hu
     split at hd
     ·rename_i hst
      split at hd
      ·rename_i hlen
       simp only [Option.map_eq_some_iff,Prod.mk.injEq]at hd
       obtain⟨⟨ys,s1⟩,hts,rfl,rfl⟩:=hd
       obtain⟨S',Fs',Gi,r1,r2,r3,r4,r5,r6,r7,r8,r9,r10⟩:=Ke xs hts hcl us Fi (fun i x hi=>WR.same (hw i x hi) hkc) hnF hdj
       refine⟨.agg ((List.range (T.size ty)).map us).toArray, ?_,S',Fs',fun k=> ∃i,i<ys.length∧Gi i k,r1,⟨?_,fun u k ⟨i,hi,hk⟩=>r4 i u k hi hk⟩,hkc.trans r6,r7,fun k hs=> ?_,fun u k hu=>hsub u k (r9 u k hu),fun k ⟨i,hi,hk⟩=> ?_⟩
       ·simp only [WX,hrv,hgen,asAddr,Sem.run_bind,Sem.run_pure]
        exact Nk hT hk hst us (fun j hj=>hcell j _ (List.getElem?_eq_getElem (by omega)))
       ·refine .agg us Gi (by simp [r2,hlen]) (fun i x hi=> ?_) (fun _=>Iff.rfl) r5 r3
        have:=(List.getElem?_eq_some_iff.1 hi).1
        simp only at this r2
        have hi':i<T.size ty:=by omega
        simp [hi']
       ·rcases r8 k hs with h|⟨u,hu⟩|⟨i,hi,hf⟩
        ·exact .inl h
        ·exact .inr ⟨u,hsub u k hu⟩
        ·exact .inr ⟨t,(hF k).2 (.inr ⟨i,hi,hf⟩)⟩
       ·rcases r10 i k hi hk with hf|⟨u,hu⟩
        ·exact⟨t,(hF k).2 (.inr ⟨i,by omega,hf⟩)⟩
        ·exact⟨u,hsub u k hu⟩
      ·cases hd
     ·rename_i hst
      split at hd
      ·rename_i d0
       obtain⟨S',Fs',F',r1,r2,r3,r4⟩:=Fw d0 hd hcl ⟨WR.same (hw 0 d0 rfl) hkc,fun u k hf=>hnF 0 u k (by simp) hf⟩
       refine⟨us 0, ?_,S',Fs',F',r1,r2,hkc.trans r3,r4.sS,fun k hs=> ?_,fun u k hu=>hsub u k (r4.sF u k hu),fun k hk=> ?_⟩
       ·simp only [WX,hrv,hgen,asAddr,Sem.run_bind,Sem.run_pure]
        have h0:=hcell 0 d0 rfl
        rw [add_zero]at h0
        exact Nj hT hk (by simpa using hst) h0
       ·rcases r4.sS' k hs with h|⟨u,hu⟩|hf
        ·exact .inl h
        ·exact .inr ⟨u,hsub u k hu⟩
        ·exact .inr ⟨t,(hF k).2 (.inr ⟨0,by simp,hf⟩)⟩
       ·rcases r4.sH k hk with hf|⟨u,hu⟩
        ·exact⟨t,(hF k).2 (.inr ⟨0,by simp,hf⟩)⟩
        ·exact⟨u,hsub u k hu⟩
      ·cases hd
   ·rename_i xs hv
    rw [hv]at hW
    have hrv:=YS (a:=a) (gh:=gh) hG hr
    generalize hgen:Ad a gh t=v0 at hW
    cases hW with
    |cptr us hE hx hw=>
     rename_i ad
     split at hd
     ·rename_i hst
      split at hd
      ·rename_i hlen
       simp only [Option.some.injEq,Prod.mk.injEq]at hd
       obtain⟨rfl,rfl⟩:=hd
       refine⟨.agg ((List.range (T.size ty)).map us).toArray, ?_,S,Fs,fun _=>False,h,⟨?_,fun _ _ h=>h.elim⟩,Keeps.refl _ _ _,fun _ h=>h,fun _ h=> .inl h,fun _ _ h=>h,fun _ h=>h.elim⟩
       ·simp only [WX,hrv,hgen,asAddr,Sem.run_bind,Sem.run_pure]
        exact Nk hT hk hst us (fun j hj=>(hx j _ (List.getElem?_eq_getElem (by omega))).2)
       ·refine .agg us (fun _ _=>False) (by simp [hlen]) (fun i x hi=> ?_) (fun k=>⟨fun h=>h.elim,fun⟨_,_,h⟩=>h⟩) (fun _ _ _ _ _ _ h=>h.elim) (fun i x hi=>(hw i x hi).up)
        have:=(List.getElem?_eq_some_iff.1 hi).1
        have hi':i<T.size ty:=by omega
        simp [hi']
      ·cases hd
     ·rename_i hst
      split at hd
      ·rename_i d0
       simp only [Option.some.injEq,Prod.mk.injEq]at hd
       obtain⟨rfl,rfl⟩:=hd
       refine⟨us 0, ?_,S,Fs,fun _=>False,h,⟨(hw 0 d0 rfl).up,fun _ _ h=>h.elim⟩,Keeps.refl _ _ _,fun _ h=>h,fun _ h=> .inl h,fun _ _ h=>h,fun _ h=>h.elim⟩
       simp only [WX,hrv,hgen,asAddr,Sem.run_bind,Sem.run_pure]
       have h0:=(hx 0 d0 rfl).2
       rw [add_zero]at h0
       exact Nj hT hk (by simpa using hst) h0
      ·cases hd
   ·cases hd
  ·cases hd
theorem WY(hT:BU P T)(hG:N≤G): ∀(rs:List ResultVar) {s s':St} {S:Nat→Prop} {Fs:Nat→Nat→Prop} {ds:List D},Rel T s (Ad a gh) w S Fs→rs.all (TQ N)=true→KE T s rs=some (ds,s')→
  ∃vs:List Value,(rs.mapM (WX a)).run P w= .ok vs w∧vs.length=rs.length∧ds.length=rs.length∧ ∃(S':Nat→Prop) (Fs' Gi:Nat→Nat→Prop),Rel T s' (Ad a gh) w S' Fs'∧
   (∀(i:Nat) (d:D),ds[i]? =some d→ ∃v,vs[i]? =some v∧WR T s' (Ad a gh) w S' d v (Gi i))∧(∀i t k,i<ds.length→Gi i k→ ¬Fs' t k)∧(∀i j k,i<ds.length→j<ds.length→i≠j→Gi i k→ ¬Gi j k)∧
   Keeps s w (Ad a gh) s' w (Ad a gh)∧(∀k,S k→S' k)∧(∀k,S' k→S k∨ ∃u,Fs u k)∧(∀u k,Fs' u k→Fs u k)∧(∀i k,i<ds.length→Gi i k→ ∃u,Fs u k):=by
 intro rs
 induction rs with
 |nil=>
  intro s s' S Fs ds h _ hd
  simp only [KE,Option.some.injEq,Prod.mk.injEq]at hd
  obtain⟨rfl,rfl⟩:=hd
  exact⟨[],by simp,rfl,rfl,S,Fs,fun _ _=>False,h,by simp,by simp,by simp,Keeps.refl _ _ _,fun _ h=>h,fun _ h=> .inl h,fun _ _ h=>h,by simp⟩
 |cons r rs ih=>
  intro s s' S Fs ds h hok hd
  simp only [List.all_cons,Bool.and_eq_true]at hok
  simp only [KE,Option.bind_eq_some_iff,Option.map_eq_some_iff,Prod.mk.injEq]at hd
  obtain⟨⟨d,s1⟩,hd1,⟨ds',s2⟩,hds,rfl,rfl⟩:=hd
  obtain⟨v,hv,S1,Fs1,F,r1,r2,r3,r4⟩:=Qt (P:=P) hT h hG hok.1 hd1
  obtain⟨vs,hvs,hl1,hl2,S2,Fs2,Gi,q1,q2,q3,q4,q5,q6,q7,q8,q9⟩:=ih r1 hok.2 hds
  have hFS2: ∀k,F k→ ¬S2 k:=fun k hf hs=>by
   rcases q7 k hs with h|⟨u,hu⟩
   ·exact r2.val.notS k hf h
   ·exact r2.apart u k hf hu
  refine⟨v::vs,by simp [List.mapM_cons,hv,hvs],by simp [hl1],by simp [hl2],S2,Fs2,fun i=>match i with|0=>F|i+1=>Gi i,q1,fun i x hi=> ?_,fun i t k hi=> ?_,fun i j k hi hj hij=> ?_,r3.trans q5,fun k hk=>q6 k (r4.sS k hk),fun k hk=> ?_,fun u k hu=>r4.sF u k (q8 u k hu),fun i k hi=> ?_⟩
  ·cases i with
   |zero=>
    simp only [List.getElem?_cons_zero,Option.some.injEq]at hi
    subst hi
    exact⟨v,rfl,WR.keep r2.val q5 (fun k hk=>⟨q6 k hk,rfl⟩) (fun k hf=>⟨hFS2 k hf,rfl⟩)⟩
   |succ i=>exact q2 i x (by simpa using hi)
  ·cases i with
   |zero=>exact fun hf hu=>r2.apart t k hf (q8 t k hu)
   |succ i=>exact q3 i t k (by simpa using hi)
  ·cases i with
   |zero=>cases j with
    |zero=>exact(hij rfl).elim
    |succ j=>
     intro hf hg
     obtain⟨u,hu⟩:=q9 j k (by simpa using hj) hg
     exact r2.apart u k hf hu
   |succ i=>cases j with
    |zero=>
     intro hg hf
     obtain⟨u,hu⟩:=q9 i k (by simpa using hi) hg
     exact r2.apart u k hf hu
    |succ j=>exact q4 i j k (by simpa using hi) (by simpa using hj) (by omega)
  ·rcases q7 k hk with h|⟨u,hu⟩
   ·exact r4.sS' k h
   ·exact .inr ⟨u,r4.sF u k hu⟩
  ·cases i with
   |zero=>exact r4.sH k
   |succ i=>
    intro hg
    obtain⟨u,hu⟩:=q9 i k (by simpa using hi) hg
    exact⟨u,r4.sF u k hu⟩
theorem Qu(fn:Func):results fn a.tmps=(do let vs←fn.results.mapM (WX a);pure (if h:vs.size=1 then vs[0]else .tuple vs)):=by
 unfold results
 congr 1
theorem SL(hT:BU P T)(h:Rel T s (Ad a gh) w S Fs)(hG:N≤G){fn:Func}(hok:fn.results.toList.all (TQ N)=true){d:D}(hd:Jf T s fn.results.toList=some (d,s')):
  ∃v,(results fn a.tmps).run P w= .ok v w∧ ∃S' Fs' F,Rel T s' (Ad a gh) w S' Fs'∧Hand T s' (Ad a gh) w S' Fs' d v F∧Keeps s w (Ad a gh) s' w (Ad a gh)∧Sub S Fs S' Fs' F:=by
 unfold Jf at hd
 split at hd
 ·rename_i r hrs
  rw [hrs]at hok
  simp only [List.all_cons,List.all_nil,Bool.and_true]at hok
  obtain⟨v,hv,rest⟩:=Qt (P:=P) hT h hG hok hd
  refine⟨v, ?_,rest⟩
  have:fn.results= #[r]:=by rw [←Array.toArray_toList (xs:=fn.results),hrs]
  rw [Qu,this]
  simp [hv]
 ·rename_i hne
  simp only [Option.map_eq_some_iff,Prod.mk.injEq]at hd
  obtain⟨⟨ds,s1⟩,hds,rfl,rfl⟩:=hd
  obtain⟨vs,hvs,hl1,hl2,S2,Fs2,Gi,q1,q2,q3,q4,q5,q6,q7,q8,q9⟩:=WY (P:=P) hT hG _ h hok hds
  refine⟨.tuple vs.toArray, ?_,S2,Fs2,fun k=> ∃i,i<ds.length∧Gi i k,q1,⟨?_,fun u k ⟨i,hi,hk⟩=>q3 i u k hi hk⟩,q5,q6,q7,q8,fun k ⟨i,hi,hk⟩=>q9 i k hi hk⟩
  ·rw [Qu,Array.mapM_eq_mapM_toList]
   have hl:vs.length≠1:=fun e=>by
    rw [hl1]at e
    obtain⟨r,hr⟩:=List.length_eq_one_iff.1 e
    exact hne r hr
   simp [hvs,hl]
  ·have hval: ∀(i:Nat) (d:D),ds[i]? =some d→vs[i]? =some (vs.getD i undef)∧WR T s1 (Ad a gh) w S2 d (vs.getD i undef) (Gi i):=fun i d hi=>by
    obtain⟨v,hv,hW⟩:=q2 i d hi
    rw [List.getD_eq_getElem?_getD,hv];exact⟨rfl,hW⟩
   exact .tup (fun i=>vs.getD i undef) Gi (by simp [hl1,hl2]) (fun i x hi=>by simpa using (hval i x hi).1) (fun _=>Iff.rfl) q4 (fun i x hi=>(hval i x hi).2)
end
def DR(fn:Func)(n:Nat):Bool:=
 (match fn.body with|some c=>DU fn.ntmps c|none=>false)&&fn.results.toList.all (TQ fn.ntmps)&&decide (fn.ntmps≤G)&&decide (n≤fn.ntmps)&& !(fn.name== "runtime.NumGoroutine")
theorem qW{T:Tys}{S:Nat→Prop}{w:World}{V:AA→Nat→Nat→Value→Prop}{Vp:AA→Nat→Nat→Nat→Value→Prop}{d:D}{v:Value}{F:Nat→Prop}(h:W T S w V Vp d v F)(ho:U6 d=true):W T S w V0 Fj d v F:=by
 unfold U6 at ho
 split at ho
 ·cases h with|undef h=>exact .undef h
 ·exact UX _ h ho
theorem bH{P:Program}{E:Env}(hT:BU P E.T)(hm:P.follows .mixedOrders=true)(hK:Nc P E){f:FuncId}{fn:Func}(hf:P.funcs[f]? =some fn){args lent:List D}{r:D}{outs:List D}
  (hok:DR fn args.length=true)(hr:Vj E fn args lent=some (r,outs)):Good P E.T f args lent r outs:=by
 simp only [DR,Bool.and_eq_true,decide_eq_true_eq,Bool.not_eq_true']at hok
 obtain⟨⟨⟨⟨hcode,hres⟩,hG⟩,hargs⟩,hname⟩:=hok
 unfold Vj at hr
 cases hb:fn.body with
 |none=>simp [hb]at hr
 |some c=>
  rw [hb]at hcode hr
  simp only at hcode hr
  refine⟨⟨fn,hf,by simp [hb],hname⟩,fun vs gh w S FL hsz hA hL hL0 hLd hlt hinv=> ?_⟩
  refine calls_of_wp hf hb ?_
  have hent:Fr E.T fn.ntmps gh (entry args lent) {tmps:=vs++Array.replicate (fn.ntmps-vs.size) undef,defers:=[]} w S (fun t=>if t<G then fun _=>False else FL (t-G)):=by
   refine⟨⟨fun t=> ?_,fun t u k htu=> ?_,hlt⟩,rfl,by simp;omega,hG,hinv⟩
   ·by_cases htG:t<G
    ·simp only [entry,htG,if_true,Ad]
     cases ha:args[t]? with
     |none=>rw [List.getD_eq_getElem?_getD,ha];exact .undef fun _ h=>h
     |some d=>
      obtain⟨v,hv,hW⟩:=hA t d ha
      have hvt:(vs++Array.replicate (fn.ntmps-vs.size) undef).getD t undef=v:=by
       rw [Array.getD_eq_getD_getElem?,Array.getElem?_append_left (by rw [hsz];exact(List.getElem?_eq_some_iff.1 ha).1),hv];rfl
      rw [List.getD_eq_getElem?_getD,ha]
      simp only [Option.getD_some]
      rw [hvt]
      refine W.mono (fun k hk=>⟨hk,rfl⟩) hW _ _ ?_ (fun _ _ _ _ _ h=>h.elim) (fun _ h=>h.elim)
      rintro L n m u ⟨j,rfl,rfl,rfl,rfl⟩
      refine⟨⟨Nat.zero_le _,Nat.zero_le _⟩,fun _=> ?_⟩
      have: ¬G+j<G:=by omega
      simp [DI,Af,Ad,this]
    ·simp only [entry,htG,if_false,Ad]
     cases hl:lent[t-G]? with
     |none=>rw [List.getD_eq_getElem?_getD,hl];exact .undef (hL0 _ (by simpa using hl))
     |some d=>rw [List.getD_eq_getElem?_getD,hl];exact(hL _ d hl).up
   ·by_cases h1:t<G
    ·simp [h1]
    ·by_cases h2:u<G
     ·simp [h1,h2]
     ·simp only [h1,h2,if_false];exact hLd _ _ k (by omega)
  have hfin: ∀(s1:St) (a1:Act) (w1:World),SA E.T lent.length fn.results.toList s1=some (r,outs)→Be E.T gh fn.ntmps s1 w S (fun t=>if t<G then fun _=>False else FL (t-G)) a1 w1→
    a1.defers=[]∧ ∃v,(results fn a1.tmps).run P w1= .ok v w1∧Qr E.T gh r outs w S FL v w1:=by
   intro s1 a1 w1 hfd hp
   obtain⟨S1,Fs1,hrel,hst,hdef,hsz1⟩:=hp
   refine⟨hdef, ?_⟩
   unfold SA at hfd
   split at hfd
   ·cases hfd
   ·rename_i r0 s2 hres2
    split at hfd
    ·rename_i hoks
     simp only [Bool.and_eq_true]at hoks
     simp only [Option.some.injEq,Prod.mk.injEq]at hfd
     obtain⟨rfl,rfl⟩:=hfd
     obtain⟨v,hv,S2,Fs2,F,p1,p2,p3,p4⟩:=SL (P:=P) hT hrel hG hres hres2
     have hFs: ∀u k,Fs1 u k→(∃j,FL j k)∨w.heap.size≤k:=fun u k hu=>by
      rcases hst.sF u k hu with⟨u',h⟩|h
      ·by_cases hu':u'<G
       ·simp [hu']at h
       ·simp only [hu',if_false]at h;exact .inl ⟨_,h⟩
      ·exact .inr h
     refine⟨v,hv,S2,F,fun j=>Fs2 (G+j),UX _ p2.val (by simpa [U5] using hoks.1),fun j d hj=> ?_,fun i j k hij=>p1.disj _ _ k (by omega),fun j k hf=>p2.apart _ k hf,⟨hst.os,hst.tape,hst.output,hst.size,fun k hk hn=>hst.heap k hk (fun u hu=> ?_),fun k hk=>p4.sS k (hst.sS k hk),fun k hk=> ?_,fun j k hj=>hFs _ k (p4.sF _ k hj)⟩,fun k hk=> ?_,p1.lt⟩
     ·rw [List.getElem?_map]at hj
      obtain⟨j',hj',rfl⟩:=Option.map_eq_some_iff.1 hj
      have hj2:=List.getElem?_eq_some_iff.1 hj'
      obtain⟨hlt',hjj⟩:=hj2
      simp only [List.getElem_range]at hjj
      subst hjj
      have hall:=List.all_eq_true.1 hoks.2 (s2.v (G+j)) (List.mem_map.2 ⟨j,List.mem_range.2 (by simpa using hlt'),rfl⟩)
      have hW:=p1.val (G+j)
      have hrv:Ad a1 gh (G+j)=gh j:=by
       have: ¬G+j<G:=by omega
       simp [Ad,this]
      rw [hrv]at hW
      exact qW hW hall
     ·by_cases hu':u<G
      ·simp [hu']at hu
      ·simp only [hu',if_false]at hu;exact hn _ hu
     ·rcases p4.sS' k hk with h|⟨u,hu⟩
      ·rcases hst.sS' k h with h|⟨u,hu⟩|h
       ·exact .inl h
       ·by_cases hu':u<G
        ·simp [hu']at hu
        ·simp only [hu',if_false]at hu;exact .inr (.inl ⟨_,hu⟩)
       ·exact .inr (.inr h)
      ·exact .inr (hFs u k hu)
     ·obtain⟨u,hu⟩:=p4.sH k hk
      exact hFs u k hu
    ·cases hfd
  cases hx:Cj E c (entry args lent)with
  |none=>simp [hx]at hr
  |some q=>
   obtain⟨ex,s1⟩:=q
   rw [hx]at hr
   refine wp_mono (YC hT (Ze hK) (jw hm hT (Ze hK)) c hcode hent hx) ?_
   rintro e a1 w1 ⟨rfl,hp⟩
   cases ex with
   |normal=>exact hfin s1 a1 w1 hr hp
   |ret=>exact hfin s1 a1 w1 hr hp
   |exit id=>simp at hr
end Dv
namespace Dv
open Go
abbrev PT:=FuncId→List D→List D→Option (D×List D)
def kD(c:PT)(cn:Nat→PT):Prop:= ∀f a l r,c f a l=some r→ ∃n,∀m,n≤m→cn m f a l=some r
section
variable {T:Tys} {lends:FuncId→Bool} {c:PT} {cn:Nat→PT}
theorem Oa(lend:Bool)(pm:Pm)(s:St)(c c':PT): ∀(xs:List (Operand×TypeId)) (j:Nat),Cs ⟨T,lends,c⟩ lend pm s j xs=Cs ⟨T,lends,c'⟩ lend pm s j xs:=by
 intro xs
 induction xs with
 |nil=>intro j;rfl
 |cons q xs ih=>
  intro j
  obtain⟨x,t⟩:=q
  simp only [Cs]
  cases ev T s t x with
  |none=>rfl
  |some d=>
   simp only
   cases IR T lend pm s j (match x with| .tmp u=>[u]|_=>[]) d with
   |none=>rfl
   |some q=>simp only;rw [ih]
theorem Ob(h:kD c cn){pm:Pm}{s s':St}{dst:Option Tmp}{f:FuncId}{xs:List (Operand×TypeId)}{caps:List D}(hd:F8 ⟨T,lends,c⟩ pm s dst f xs caps=some s'):
  ∃n,∀m,n≤m→F8 ⟨T,lends,cn m⟩ pm s dst f xs caps=some s':=by
 unfold F8 at hd
 simp only at hd
 by_cases hl:lends f=true
 ·rw [if_pos hl]at hd
  cases ha:Cs ⟨T,lends,c⟩ true pm s 0 xs with
  |none=>simp [ha]at hd
  |some q=>
   obtain⟨as,ls⟩:=q
   simp only [ha]at hd
   split at hd
   ·rename_i hcond
    cases hc:c f (as++caps) (ls.map (·.2))with
    |none=>simp [hc]at hd
    |some r=>
     obtain⟨n,hn⟩:=h _ _ _ _ hc
     refine⟨n,fun m hm=> ?_⟩
     unfold F8
     simp only
     rw [if_pos hl,Oa true pm s (cn m) c,ha]
     simp only
     rw [if_pos hcond,hn m hm]
     rw [hc]at hd
     exact hd
   ·cases hd
 ·rw [if_neg hl]at hd
  cases ha:Cs ⟨T,lends,c⟩ false pm s 0 xs with
  |none=>simp [ha]at hd
  |some q=>
   obtain⟨as,ls⟩:=q
   simp only [ha]at hd
   cases hc:c f (as++caps) []with
   |none=>simp [hc]at hd
   |some r=>
    obtain⟨n,hn⟩:=h _ _ _ _ hc
    refine⟨n,fun m hm=> ?_⟩
    unfold F8
    simp only
    rw [if_neg hl,Oa false pm s (cn m) c,ha]
    simp only
    rw [hn m hm]
    rw [hc]at hd
    exact hd
theorem bI(h:kD c cn){pm:Pm}{s s':St}{dst:Option Tmp}{f:FuncId}{xs:List (Operand×TypeId)}{caps:List D}(hd:JR ⟨T,lends,c⟩ pm s dst f xs caps=some s'):
  ∃n,∀m,n≤m→JR ⟨T,lends,cn m⟩ pm s dst f xs caps=some s':=by
 unfold JR at hd
 simp only at hd
 cases ha:Cs ⟨T,lends,c⟩ true pm s 0 xs with
 |none=>simp [ha]at hd
 |some q=>
  obtain⟨as,ls⟩:=q
  simp only [ha]at hd
  cases ho:Ce pm s ls.length caps with
  |none=>simp [ho]at hd
  |some p=>
   obtain⟨cs,lc⟩:=p
   simp only [ho]at hd
   split at hd
   ·rename_i hcond
    cases hc:c f (as++cs.map (Gr f cs)) ((ls++lc).map (·.2))with
    |none=>simp only [hc]at hd;cases hd
    |some r=>
     obtain⟨n,hn⟩:=h _ _ _ _ hc
     refine⟨n,fun m hm=> ?_⟩
     unfold JR
     simp only
     rw [Oa true pm s (cn m) c,ha]
     simp only [ho]
     rw [if_pos hcond,hn m hm]
     rw [hc]at hd
     exact hd
   ·cases hd
theorem kE(h:kD c cn){pm:Pm}{s s':St}{o:Oper}(hd:jX ⟨T,lends,c⟩ pm s o=some s'): ∃n,∀m,n≤m→jX ⟨T,lends,cn m⟩ pm s o=some s':=by
 unfold jX at hd ⊢
 cases hop:o.op<;>simp only [hop]at hd ⊢
 case call cl=>
  cases hcal:cl.callee<;>simp only [hcal]at hd ⊢
  case builtin b=>cases b<;>simp only at hd ⊢ <;>exact⟨0,fun _ _=>hd⟩
  case value fo=>
   cases fo<;>simp only at hd ⊢
   case func f=>
    split at hd
    ·rename_i hsz
     simp only [hsz,if_true]
     split at hd
     ·rename_i hty
      obtain⟨s1,h1,h2⟩:=Option.bind_eq_some_iff.1 hd
      obtain⟨n,hn⟩:=Ob h h1
      refine⟨n,fun m hm=> ?_⟩
      rw [if_pos hty,hn m hm]
      exact h2
     ·rename_i hty
      simp only [if_neg hty]
      exact Ob h hd
    ·cases hd
   case tmp u=>
    cases hv:s.v u<;>simp only [hv]at hd ⊢
    case clo f caps=>
     split at hd
     ·rename_i hsz
      simp only [hsz,if_true]
      exact Ob h hd
     ·cases hd
    case ocl b f caps=>
     cases b
     ·simp only at hd ⊢
      split at hd
      ·rename_i hsz
       simp only [hsz,if_true]
       exact bI h hd
      ·cases hd
     ·cases hd
    all_goals (cases hd)
   all_goals (cases hd)
  all_goals (cases hd)
 case makeFunc fn first captured=>cases fn<;>exact⟨0,fun _ _=>hd⟩
 all_goals exact⟨0,fun _ _=>hd⟩
theorem TR(h:kD c cn){ops:Array Oper}{pm:Pm}{s s':St}{o:Oper}(hd:Hl ⟨T,lends,c⟩ ops pm s o=some s'): ∃n,∀m,n≤m→Hl ⟨T,lends,cn m⟩ ops pm s o=some s':=by
 unfold Hl at hd ⊢
 split at hd
 ·exact kE h hd
 ·exact⟨0,fun _ _=>hd⟩
 ·cases hd
theorem fC(h:kD c cn){ops:Array Oper}: ∀(l:List Oper) {s s':St},QB ⟨T,lends,c⟩ ops s l=some s'→ ∃n,∀m,n≤m→QB ⟨T,lends,cn m⟩ ops s l=some s':=by
 intro l
 induction l with
 |nil=>intro s s' hd;exact⟨0,fun _ _=>hd⟩
 |cons o l ih=>
  intro s s' hd
  simp only [QB,Option.bind_eq_some_iff]at hd ⊢
  obtain⟨s1,h1,h2⟩:=hd
  obtain⟨n1,e1⟩:=TR h h1
  obtain⟨n2,e2⟩:=ih h2
  exact⟨max n1 n2,fun m hm=>⟨s1,e1 m (by omega),e2 m (by omega)⟩⟩
theorem bJ(h:kD c cn){ops:Array Oper}{l0:List Oper}: ∀(l:List Oper) {s s':St},LJ ⟨T,lends,c⟩ ops l0 s l=some s'→ ∃n,∀m,n≤m→LJ ⟨T,lends,cn m⟩ ops l0 s l=some s':=by
 intro l
 induction l with
 |nil=>intro s s' hd;exact⟨0,fun _ _=>hd⟩
 |cons o l ih=>
  intro s s' hd
  simp only [LJ]at hd ⊢
  split at hd
  ·rename_i hmv
   simp only [hmv,if_true]
   simp only [Option.bind_eq_some_iff]at hd ⊢
   obtain⟨s1,h1,h2⟩:=hd
   obtain⟨n1,e1⟩:=TR h h1
   obtain⟨n2,e2⟩:=ih h2
   exact⟨max n1 n2,fun m hm=>⟨s1,e1 m (by omega),e2 m (by omega)⟩⟩
  ·cases hd
theorem Qv{step:St→Option (Ex×St)}: ∀ {n m:Nat} {s:St} {r:Ex×St},n≤m→Fv step n s=some r→Fv step m s=some r:=by
 intro n
 induction n with
 |zero=>intro m s r _ h;simp [Fv]at h
 |succ n ih=>
  intro m s r hm h
  cases m with
  |zero=>omega
  |succ m=>
   simp only [Fv]at h ⊢
   cases hs:step s with
   |none=>simp [hs]at h
   |some q=>
    obtain⟨ex,s1⟩:=q
    cases ex with
    |normal=>simp only [hs]at h ⊢;exact ih (by omega) h
    |exit id=>simp only [hs]at h ⊢;exact h
    |ret=>simp only [hs]at h ⊢;exact h
theorem Nl{step:St→Option (Ex×St)}{n:Nat}{s:St}{r:Ex×St}(h:Fv step n s=some r):QC step s=some r:=by
 unfold QC
 have hx: ∃r n,Fv step n s=some r:=⟨r,n,h⟩
 rw [dif_pos hx]
 obtain⟨n',h'⟩:=hx.choose_spec
 have h1:=Qv (Nat.le_max_left n n') h
 have h2:=Qv (Nat.le_max_right n n') h'
 rw [h1]at h2
 exact h2.symm
theorem Ud(step:St→Option (Ex×St))(s:St):QC step s=match step s with|none=>none|some (.normal,s')=>QC step s'|some r=>some r:=by
 cases hs:step s with
 |none=>
  simp only
  cases hi:QC step s with
  |none=>rfl
  |some r=>
   obtain⟨n,hn⟩:=KJ hi
   cases n<;>simp [Fv,hs]at hn
 |some q=>
  obtain⟨ex,s1⟩:=q
  cases ex with
  |normal=>
   simp only
   cases hi:QC step s with
   |some r=>
    obtain⟨n,hn⟩:=KJ hi
    cases n with
    |zero=>simp [Fv]at hn
    |succ n=>simp only [Fv,hs]at hn;exact(Nl hn).symm
   |none=>
    cases hj:QC step s1 with
    |none=>rfl
    |some r=>
     obtain⟨n,hn⟩:=KJ hj
     have:Fv step (n+1) s=some r:=by simp only [Fv,hs];exact hn
     rw [Nl this]at hi
     cases hi
  |exit id=>simp only;exact Nl (n:=1) (by simp [Fv,hs])
  |ret=>simp only;exact Nl (n:=1) (by simp [Fv,hs])
theorem fD(h:kD c cn): ∀(k:Code) {s:St} {r:Ex×St},Cj ⟨T,lends,c⟩ k s=some r→ ∃n,∀m,n≤m→Cj ⟨T,lends,cn m⟩ k s=some r:=by
 intro k
 induction k with
 |skip=>intro s r hd;exact⟨0,fun _ _=>hd⟩
 |region id ops draw=>
  intro s r hd
  simp only [Cj]at hd ⊢
  split at hd
  ·rename_i hdr
   simp only [hdr,if_true]
   split at hd
   ·rename_i hok
    simp only [hok,if_true]
    simp only [Option.map_eq_some_iff]at hd ⊢
    obtain⟨s1,h1,rfl⟩:=hd
    obtain⟨n,hn⟩:=bJ h _ h1
    exact⟨n,fun m hm=>⟨s1,hn m hm,rfl⟩⟩
   ·cases hd
  ·rename_i hdr
   simp only [hdr]
   simp only [Option.map_eq_some_iff]at hd ⊢
   obtain⟨s1,h1,rfl⟩:=hd
   obtain⟨n,hn⟩:=fC h _ h1
   exact⟨n,fun m hm=>by simpa using hn m hm⟩
 |seq x y ihx ihy=>
  intro s r hd
  simp only [Cj]at hd ⊢
  cases hany:Vi x y with
  |some q=>rw [hany]at hd;exact⟨0,fun m _=>hd⟩
  |none=>
  rw [hany]at hd
  simp only at hd ⊢
  cases hloan:QE x y with
  |some q=>
   rw [hloan]at hd
   simp only at hd ⊢
   cases hx:Cj ⟨T,lends,c⟩ x (IU s)with
   |none=>simp [hx,J7]at hd
   |some r1=>
    obtain⟨n1,e1⟩:=ihx hx
    obtain⟨ex,s1⟩:=r1
    cases ex with
    |normal=>
     simp only [hx]at hd
     cases hy:Cj ⟨T,lends,c⟩ y s1 with
     |none=>simp [hy,J7]at hd
     |some r2=>
      obtain⟨n2,e2⟩:=ihy hy
      rw [hy]at hd
      exact⟨max n1 n2,fun m hm=>by rw [e1 m (by omega)];simp only;rw [e2 m (by omega)];exact hd⟩
    |exit id=>simp [hx,J7]at hd
    |ret=>simp [hx,J7]at hd
  |none=>
  rw [hloan]at hd
  simp only at hd ⊢
  cases hx:Cj ⟨T,lends,c⟩ x s with
  |none=>simp [hx]at hd
  |some q=>
   obtain⟨n1,e1⟩:=ihx hx
   obtain⟨ex,s1⟩:=q
   cases ex with
   |normal=>
    simp only [hx]at hd
    obtain⟨n2,e2⟩:=ihy hd
    exact⟨max n1 n2,fun m hm=>by rw [e1 m (by omega)];exact e2 m (by omega)⟩
   |exit id=>simp only [hx]at hd;exact⟨n1,fun m hm=>by rw [e1 m hm];exact hd⟩
   |ret=>simp only [hx]at hd;exact⟨n1,fun m hm=>by rw [e1 m hm];exact hd⟩
 |cond x a b iha ihb=>
  intro s r hd
  simp only [Cj]at hd ⊢
  cases hx:ev T s 0 x with
  |none=>simp [hx]at hd
  |some d=>
   cases d<;>simp only [hx]at hd ⊢ <;>try (cases hd;done)
   rename_i t
   cases t with
   |true=>simp only [if_true]at hd ⊢;exact iha hd
   |false=>simp only [Bool.false_eq_true,if_false]at hd ⊢;exact ihb hd
 |block id x ih=>
  intro s r hd
  simp only [Cj]at hd ⊢
  cases hx:Cj ⟨T,lends,c⟩ x s with
  |none=>simp [hx]at hd
  |some q=>
   obtain⟨n1,e1⟩:=ih hx
   exact⟨n1,fun m hm=>by rw [e1 m hm];rw [hx]at hd;exact hd⟩
 |loop x ih=>
  intro s r hd
  simp only [Cj]at hd ⊢
  obtain⟨k,hk⟩:=KJ hd
  have key: ∀(k:Nat) {s:St},Fv (Cj ⟨T,lends,c⟩ x) k s=some r→ ∃n,∀m,n≤m→Fv (Cj ⟨T,lends,cn m⟩ x) k s=some r:=by
   intro k
   induction k with
   |zero=>intro s hk;simp [Fv]at hk
   |succ k ihk=>
    intro s hk
    simp only [Fv]at hk ⊢
    cases hx:Cj ⟨T,lends,c⟩ x s with
    |none=>simp [hx]at hk
    |some q=>
     obtain⟨n1,e1⟩:=ih hx
     obtain⟨ex,s1⟩:=q
     cases ex with
     |normal=>
      simp only [hx]at hk
      obtain⟨n2,e2⟩:=ihk hk
      exact⟨max n1 n2,fun m hm=>by rw [e1 m (by omega)];exact e2 m (by omega)⟩
     |exit id=>simp only [hx]at hk;exact⟨n1,fun m hm=>by rw [e1 m hm];exact hk⟩
     |ret=>simp only [hx]at hk;exact⟨n1,fun m hm=>by rw [e1 m hm];exact hk⟩
  obtain⟨n,hn⟩:=key k hk
  exact⟨n,fun m hm=>Nl (hn m hm)⟩
 |exit id=>intro s r hd;exact⟨0,fun _ _=>hd⟩
 |ret=>intro s r hd;exact⟨0,fun _ _=>hd⟩
 |rangeFunc=>intro s r hd;simp [Cj]at hd
 |scope=>intro s r hd;simp [Cj]at hd
 |label=>intro s r hd;simp [Cj]at hd
 |goto=>intro s r hd;simp [Cj]at hd
 |refuse=>intro s r hd;simp [Cj]at hd
theorem WZ(h:kD c cn){fn:Func}{args lent:List D}{r:D×List D}(hd:Vj ⟨T,lends,c⟩ fn args lent=some r): ∃n,∀m,n≤m→Vj ⟨T,lends,cn m⟩ fn args lent=some r:=by
 unfold Vj at hd ⊢
 cases hb:fn.body with
 |none=>simp [hb]at hd
 |some k=>
  simp only [hb]at hd ⊢
  cases hx:Cj ⟨T,lends,c⟩ k (entry args lent)with
  |none=>simp [hx]at hd
  |some q=>
   obtain⟨n,hn⟩:=fD h k hx
   exact⟨n,fun m hm=>by rw [hn m hm];rw [hx]at hd;exact hd⟩
end
structure Sys where
 P:Program
 T:Tys
 lends:FuncId→Bool
 base:PT
namespace Sys
variable (Y:Sys)
noncomputable def callN:Nat→PT
 |0=>Y.base
 |n+1=>fun f a l=>
  match Y.base f a l with
  |some r=>some r
  |none=>
   match Y.P.funcs[f]? with
   |some fn=>if DR fn a.length then Vj ⟨Y.T,Y.lends,callN n⟩ fn a l else none
   |none=>none
open Classical in
noncomputable def call:PT:=fun f a l=>if h: ∃r n,Y.callN n f a l=some r then some h.choose else none
noncomputable def env:Env:=⟨Y.T,Y.lends,Y.call⟩
variable {Y}
theorem YT{n:Nat}: ∀ {f:FuncId} {a l:List D} {r:D×List D},Y.callN n f a l=some r→Y.callN (n+1) f a l=some r:=by
 induction n with
 |zero=>intro f a l r h;simp only [callN]at h ⊢;rw [h]
 |succ n ih=>
  intro f a l r h
  rw [callN]at h ⊢
  simp only at h ⊢
  cases hb:Y.base f a l with
  |some q=>simp only [hb]at h ⊢;exact h
  |none=>
   simp only [hb]at h ⊢
   cases hf:Y.P.funcs[f]? with
   |none=>simp [hf]at h
   |some fn=>
    simp only [hf]at h ⊢
    split at h
    ·rename_i hok
     rw [if_pos hok]
     obtain⟨k,hk⟩:=WZ (cn:=fun _=>Y.callN (n+1)) (fun f a l r hh=>⟨0,fun _ _=>ih hh⟩) h
     exact hk k (Nat.le_refl _)
    ·cases h
theorem Mx{n m:Nat}(hm:n≤m){f:FuncId}{a l:List D}{r:D×List D}(h:Y.callN n f a l=some r):Y.callN m f a l=some r:=by
 induction hm with
 |refl=>exact h
 |step _ ih=>exact YT ih
theorem Zf{n:Nat}{f:FuncId}{a l:List D}{r:D×List D}(h:Y.callN n f a l=some r):Y.call f a l=some r:=by
 unfold call
 have hx: ∃r n,Y.callN n f a l=some r:=⟨r,n,h⟩
 rw [dif_pos hx]
 obtain⟨n',h'⟩:=hx.choose_spec
 have h1:=Mx (Nat.le_max_left n n') h
 have h2:=Mx (Nat.le_max_right n n') h'
 rw [h1]at h2
 exact h2.symm
theorem TS{f:FuncId}{a l:List D}{r:D×List D}(h:Y.call f a l=some r): ∃n,Y.callN n f a l=some r:=by
 unfold call at h
 split at h
 ·rename_i hx
  simp only [Option.some.injEq]at h
  subst h
  exact hx.choose_spec
 ·cases h
theorem fE:kD Y.call Y.callN:=fun f a l r h=>by
 obtain⟨n,hn⟩:=TS h
 exact⟨n,fun m hm=>Mx hm hn⟩
theorem call_run{f:FuncId}{fn:Func}{a l:List D}{r:D×List D}(hb:Y.base f a l=none)(hf:Y.P.funcs[f]? =some fn)(hok:DR fn a.length=true)(hr:Vj Y.env fn a l=some r):Y.call f a l=some r:=by
 obtain⟨n,hn⟩:=WZ fE hr
 refine Zf (n:=n+1) ?_
 rw [callN]
 simp only [hb,hf,hok,if_true]
 exact hn n (Nat.le_refl _)
theorem call_base{f:FuncId}{a l:List D}{r:D×List D}(hb:Y.base f a l=some r):Y.call f a l=some r:=Zf (n:=0) hb
structure Ok(Y:Sys):Prop where
 ty:BU Y.P Y.T
 mixed:Y.P.follows .mixedOrders=true
 base: ∀f a l r outs,Y.base f a l=some (r,outs)→Good Y.P Y.T f a l r outs
theorem YU(h:Y.Ok): ∀n f a l r outs,Y.callN n f a l=some (r,outs)→Good Y.P Y.T f a l r outs:=by
 intro n
 induction n with
 |zero=>exact h.base
 |succ n ih=>
  intro f a l r outs hc
  rw [callN]at hc
  simp only at hc
  cases hb:Y.base f a l with
  |some q=>simp only [hb,Option.some.injEq]at hc;subst hc;exact h.base _ _ _ _ _ hb
  |none=>
   simp only [hb]at hc
   cases hf:Y.P.funcs[f]? with
   |none=>simp [hf]at hc
   |some fn=>
    simp only [hf]at hc
    split at hc
    ·rename_i hok
     exact bH (E:=⟨Y.T,Y.lends,Y.callN n⟩) h.ty h.mixed (fun f a l r outs hh=>ih f a l r outs hh) hf hok hc
    ·cases hc
theorem call_good(h:Y.Ok){f:FuncId}{a l:List D}{r:D}{outs:List D}(hc:Y.call f a l=some (r,outs)):Good Y.P Y.T f a l r outs:=by
 obtain⟨n,hn⟩:=TS hc
 exact YU h n f a l r outs hn
end Sys
end Dv
