/- Value semantics for Go code, part 3: regions, control, calls and whole functions. Conditions: none beyond those in each lemma. -/
import Derived.Test.YtclkfhhdikfcpaaL2
import Derived.LoopN
import Derived.Orders
open Option.some renaming injEq → al
open Go renaming Operand → ac,TypeId → ab,FuncId → am
open List renaming range → an,mem_filter → aw,mem_map_of_mem → aE,range_eq_range' → ba,getElem?_zip_eq_some → bb
noncomputable section
set_option linter.unusedSimpArgs false
set_option linter.unusedVariables false
namespace Dv
open Go
def Vw(N:Nat):ac→Bool
 | .tmp u=>decide (u<N)
 |_=>true
def j6(N:Nat)(o:Oper):Bool:=(match o.dst with|some t=>decide (t<N)|none=>true)&&o.op.operands.toList.all (Vw N)
def jA(N:Nat)(ops:Array Oper):Bool:=ops.toList.all (j6 N)
theorem bQ{N:Nat}{o:Oper}(h:j6 N o=true):OO N o:=by
 simp only [j6,F9,IQ]at h
 refine⟨fun t ht=> ?_,fun x hx=> ?_⟩
 ·rw [ht]at h;simpa using h.1
 ·have:=h.2 x hx
  cases x<;>simp_all [Vw,BB]
def Gg(N:Nat):Code→Bool
 | .region _ ops _=>jA N ops
 | .seq a b=>Gg N a&&Gg N b
 | .cond c a b=>Vw N c&&Gg N a&&Gg N b
 | .block _ c=>Gg N c
 | .loop c=>Gg N c
 | .scope c=>Gg N c
 |_=>true
section
variable {P:Program} {E:Env} {s s':St} {gh:Nat→Value} {a:Act} {w w':World} {S:Nat→Prop} {Fs:Nat→Nat→Prop} {N:Nat}
theorem SA(h:Fr E.T N gh s a w S Fs){ops:Array Oper}(hops: ∀(j:Nat) (o:Oper),ops[j]? =some o→OO N o){o:Oper}{b:Bool}(hw:Kl ops s o=some b):Region.wanted o (yielded ops a.tmps)=b:=by
 unfold Kl at hw;unfold Region.wanted
 split at hw
 ·rename_i hg;simp only [al]at hw;subst hw;rw [hg]
 ·rename_i j b' hg
  rw [hg];simp only
  cases hj:(ops[j]?).bind (·.dst)with
  |none=>
   rw [hj]at hw;simp only [al]at hw;subst hw
   simp [yielded,hj]
  |some t=>
   rw [hj]at hw;simp only at hw
   have htN:t<N:=by
    simp only [Gl]at hj;obtain⟨oj,h1,h2⟩:=hj
    exact(hops j oj h1).1 t h2
   have hlt:t<a.tmps.size:=by rw [h.size];exact htN
   have hrv:Am a gh t=a.tmps[t]:=by
    have:t<G:=ZE htN h.small
    simp [Am,this,Array.getD,hlt]
   have hW:=h.rel.val t;rw [hrv]at hW
   have hy:yielded ops a.tmps j=match a.tmps[t]with| .bool b=>some b|_=>none:=by
    simp only [yielded,hj,DT,Ji hlt]
    cases a.tmps[t]<;>rfl
   rw [hy];generalize a.tmps[t]=v at*
   split at hw
   ·rename_i b1 hv
    rw [hv]at hW;simp only [al]at hw;subst hw
    cases hW with
    |bool=>cases b1<;>cases b'<;>rfl
   ·rename_i vs hv
    rw [hv]at hW;simp only [al]at hw;subst hw
    cases hW with
    |konst=>rfl
   ·cases hw
theorem C8.fr{s':St}{a':Act}(hG:N≤G)(h:C8 E.T gh N s' w S Fs a' w'): ∃S' Fs',Fr E.T N gh s' a' w' S' Fs'∧Step w S Fs w' S' Fs':=by
 obtain⟨S',Fs',h1,h2,h3,h4⟩:=h
 exact⟨S',Fs',⟨h1,h3,h4,hG⟩,h2⟩
theorem C8.back{s':St}{a':Act}{S':Nat→Prop}{Fs':Nat→Nat→Prop}{w'':World}(hst:Step w S Fs w' S' Fs')(h:C8 E.T gh N s' w' S' Fs' a' w''):C8 E.T gh N s' w S Fs a' w'':=by
 obtain⟨S2,Fs2,h1,h2,h3,h4⟩:=h
 exact⟨S2,Fs2,h1,hst.trans h2,h3,h4⟩
theorem Xx{pm:Pm}{ops:Array Oper}{i:Nat}{o:Oper}{Q:Exit→Act→World→Prop}{K:Act→World→Prop}(hT:Ba P E.T)(hC:JD P E)(h:Fr E.T N gh s a w S Fs)
  (hops: ∀(j:Nat) (o:Oper),ops[j]? =some o→OO N o)(hi:ops[i]? =some o)(hs:IV E ops pm s o=some s')(hK: ∀a' w',C8 E.T gh N s' w S Fs a' w'→K a' w'):wpOp P ops Q i K a w:=by
 unfold IV at hs;unfold wpOp;simp only [hi]
 cases hw:Kl ops s o with
 |none=>simp [hw]at hs
 |some b=>
  have hwant:=SA h hops hw
  cases b with
  |true=>
   simp only [hw]at hs;simp only [hwant,if_true];exact .inl (Oper.wp_mono hK (V7 hT hC h (hops i o hi) hs))
  |false=>
   simp only [hw,al]at hs;subst hs;simp only [hwant,Ik,if_false];exact hK _ _ (Ao h (hops i o hi).1 (F:=fun _=>False) (.konst (fun _ h=>h)) (fun _ h=>h))
theorem SB{pm:Pm}{ops:Array Oper}{i:Nat}{o:Oper}{ty:ab}{Q:Exit→Act→World→Prop}{K:Act→World→Prop}(hT:Ba P E.T)(hC:JD P E)(h:Fr E.T N gh s a w S Fs)
  (hops: ∀(j:Nat) (o:Oper),ops[j]? =some o→OO N o)(hi:ops[i]? =some o)(hs:IV E ops pm s ({o with type:=ty}:Oper)=some s')(hty:ty=o.type∨(∃t x lo hi mx,o.op= .slice t x lo hi mx)∨(∃x,o.op= .assign x)∨(∃t n p,o.op= .buildSlice t n p)∨(∃t x,o.op= .box t x)∨(∃p t x y z,o.op= .binOp p t x y z)∨(∃t x y,o.op= .store t x y)∨(∃g x y,o.op= .makeFunc g x y)∨(∃t l c,o.op= .makeSlice t l c)∨ ∃f xs ts,o.op= .call ⟨.value (.func f),xs,ts⟩)(hK: ∀a' w',C8 E.T gh N s' w S Fs a' w'→K a' w'):wpOp P ops Q i K a w:=by
 rcases hty with rfl|hop
 ·exact Xx hT hC h hops hi hs hK
 unfold IV at hs;unfold wpOp;simp only [hi];have hwd:Kl ops s ({o with type:=ty}:Oper)=Kl ops s o:=rfl
 rw [hwd]at hs
 cases hw:Kl ops s o with
 |none=>simp [hw]at hs
 |some b=>
  have hwant:=SA h hops hw
  cases b with
  |true=>
   simp only [hw]at hs;simp only [hwant,if_true];have hok:=hops i o hi;have hok':OO N ({o with type:=ty}:Oper):=hok
   have hp:=fun(Q0:Exit→Act→World→Prop)=>Oper.wp_mono (Q:=Q0) hK (V7 (P:=P) (Q:=Q0) hT hC h hok' hs);refine .inl ?_;obtain⟨dst,op,type,pos,after,guard⟩:=o;simp only at hop;rcases hop with⟨t,x,lo,hi',mx,rfl⟩|⟨x,rfl⟩|⟨t,n,p,rfl⟩|⟨t,x,rfl⟩|⟨p,t,x,y,z,rfl⟩|⟨t,x,y,rfl⟩|⟨g,x,y,rfl⟩|⟨t,l,c,rfl⟩|⟨f,xs,ts,rfl⟩
   ·exact hp Q
   ·exact hp Q
   ·exact hp Q
   ·exact hp Q
   ·exact hp Q
   ·exact hp Q
   ·exact hp Q
   ·exact hp Q
   ·exact hp Q
  |false=>
   simp only [hw,al]at hs;subst hs;simp only [hwant,Ik,if_false];exact hK _ _ (Ao h (hops i o hi).1 (F:=fun _=>False) (.konst (fun _ h=>h)) (fun _ h=>h))
theorem SE(lends:am→Bool)(l:List Oper)(o:Oper):XZ lends l o=o.type∨(∃t x lo hi mx,o.op= .slice t x lo hi mx)∨(∃x,o.op= .assign x)∨(∃t n p,o.op= .buildSlice t n p)∨(∃t x,o.op= .box t x)∨(∃p t x y z,o.op= .binOp p t x y z)∨(∃t x y,o.op= .store t x y)∨(∃g x y,o.op= .makeFunc g x y)∨(∃t l c,o.op= .makeSlice t l c)∨ ∃f xs ts,o.op= .call ⟨.value (.func f),xs,ts⟩:=by
 obtain⟨dst,op,type,pos,after,guard⟩:=o
 cases op with
 |slice t x lo hi mx=>exact .inr (.inl ⟨_,_,_,_,_,rfl⟩)
 |assign x=>exact .inr (.inr (.inl ⟨_,rfl⟩))
 |buildSlice t n p=>exact .inr (.inr (.inr (.inl ⟨_,_,_,rfl⟩)))
 |box t x=>exact .inr (.inr (.inr (.inr (.inl ⟨_,_,rfl⟩))))
 |binOp p t x y z=>exact .inr (.inr (.inr (.inr (.inr (.inl ⟨_,_,_,_,_,rfl⟩)))))
 |store t x y=>exact .inr (.inr (.inr (.inr (.inr (.inr (.inl ⟨_,_,_,rfl⟩))))))
 |makeFunc g x y=>exact .inr (.inr (.inr (.inr (.inr (.inr (.inr (.inl ⟨_,_,_,rfl⟩)))))))
 |makeSlice t l c=>exact .inr (.inr (.inr (.inr (.inr (.inr (.inr (.inr (.inl ⟨_,_,_,rfl⟩))))))))
 |call c=>
  obtain⟨g,xs,ts⟩:=c
  cases g with
  |value x=>
   cases x with
   |func f=>exact .inr (.inr (.inr (.inr (.inr (.inr (.inr (.inr (.inr ⟨_,_,_,rfl⟩))))))))
   |_=>left;unfold XZ;rfl
  |_=>left;unfold XZ;rfl
 |_=>exact .inl rfl
theorem Za{pm:Pm}{ops:Array Oper}{i:Nat}{o:Oper}{l:List Oper}{Q:Exit→Act→World→Prop}{K:Act→World→Prop}(hT:Ba P E.T)(hC:JD P E)(h:Fr E.T N gh s a w S Fs)
  (hops: ∀(j:Nat) (o:Oper),ops[j]? =some o→OO N o)(hi:ops[i]? =some o)(hs:IV E ops pm s (tag E.lends l o)=some s')(hK: ∀a' w',C8 E.T gh N s' w S Fs a' w'→K a' w'):wpOp P ops Q i K a w:=
 SB hT hC h hops hi hs (SE _ _ _) hK
theorem Zb{pm:Pm}{ops:Array Oper}{i:Nat}{o:Oper}{l:List Oper}{Q:Exit→Act→World→Prop}{K:Act→World→Prop}(hT:Ba P E.T)(hC:JD P E)(h:Fr E.T N gh s a w S Fs)
  (hops: ∀(j:Nat) (o:Oper),ops[j]? =some o→OO N o)(hi:ops[i]? =some o)(hs:IV E ops pm s (Rb E.lends l o)=some s')(hK: ∀a' w',C8 E.T gh N s' w S Fs a' w'→K a' w'):wpOp P ops Q i K a w:=by
 refine SB hT hC h hops hi hs ?_ hK;rcases SE E.lends l o with h1|h1
 ·left;split
  ·exact h1
  ·rfl
 ·exact .inr h1
theorem Zc{ops:Array Oper}(hT:Ba P E.T)(hC:JD P E)(hops: ∀(j:Nat) (o:Oper),ops[j]? =some o→OO N o): ∀(l:List Oper) (k:Nat) {s s':St} {a:Act} {w:World} {S:Nat→Prop} {Fs:Nat→Nat→Prop} {Q:Exit→Act→World→Prop},
  ops.toList.drop k=l→Fr E.T N gh s a w S Fs→UJ E ops s l=some s'→(∀a' w',C8 E.T gh N s' w S Fs a' w'→Q .normal a' w')→wpOps P ops Q (List.range' k l.length) a w:=by
 intro l
 induction l with
 |nil=>
  intro k s s' a w S Fs Q _ h hs hQ;simp only [UJ,al]at hs;subst hs;simp only [RN,List.range'_zero,wpOps];exact hQ a w ⟨S,Fs,h.rel,Step.refl _ _ _,h.defs,h.size⟩
 |cons o l ih=>
  intro k s s' a w S Fs Q hl h hs hQ;simp only [UJ,Gl]at hs;obtain⟨s1,h1,h2⟩:=hs
  have hk:ops[k]? =some o:=by
   have:(ops.toList.drop k)[0]? =some o:=by rw [hl];rfl
   rw [MG]at this;simpa using this
  rw [NU,List.range'_succ,wpOps_cons];refine Za hT hC h hops hk h1 (fun a' w' hp=> ?_);obtain⟨S',Fs',hf,hst⟩:=hp.fr h.small;refine ih (k+1) ?_ hf h2 (fun a2 w2 hp2=>hQ a2 w2 (hp2.back hst));rw [←List.drop_drop,hl];rfl
def Vx:Ex→Exit
 | .normal=> .normal
 | .exit id=> .exit id
 | .ret=> .ret
def bR(P:Program)(E:Env):Prop:=
 ∀ {s s':St} {gh:Nat→Value} {a:Act} {w:World} {S:Nat→Prop} {Fs:Nat→Nat→Prop} {N id:Nat} {ops:Array Oper} {Q:Exit→Act→World→Prop},
  Fr E.T N gh s a w S Fs→jA N ops=true→Ma E.lends ops.toList=true→Nb E ops ops.toList s ops.toList=some s'→(∀a' w',C8 E.T gh N s' w S Fs a' w'→Q .normal a' w')→(Code.region id ops true).wp P Q a w
theorem Ku{step:St→Option (Ex×St)}{s:St}{r:Ex×St}(h:Rc step s=some r): ∃n,Gq step n s=some r:=by
 unfold Rc at h
 split at h
 ·rename_i hx
  simp only [al]at h;subst h;exact hx.choose_spec
 ·cases h
theorem Zd(hT:Ba P E.T)(hC:JD P E)(hD:bR P E): ∀(c:Code) {s s':St} {ex:Ex} {a:Act} {w:World} {S:Nat→Prop} {Fs:Nat→Nat→Prop},Gg N c=true→Fr E.T N gh s a w S Fs→Dq E c s=some (ex,s')→
  c.wp P (fun e a' w'=>e=Vx ex∧C8 E.T gh N s' w S Fs a' w') a w:=by
 intro c
 induction c with
 |skip=>
  intro s s' ex a w S Fs _ h he;simp only [Dq,al,Prod.mk.injEq]at he;obtain⟨rfl,rfl⟩:=he;exact wp_skip ⟨rfl,S,Fs,h.rel,Step.refl _ _ _,h.defs,h.size⟩
 |region id ops draw=>
  intro s s' ex a w S Fs hk h he;simp only [Gg]at hk;have hops: ∀(j:Nat) (o:Oper),ops[j]? =some o→OO N o:=fun j o ho=>bQ (IQ.1 hk o (by simpa using Array.mem_of_getElem? ho))
  simp only [Dq]at he
  cases draw with
  |true=>
   simp only [if_true]at he
   split at he
   ·rename_i hdr
    simp only [Cb,Prod.mk.injEq]at he;obtain⟨s1,h1,rfl,rfl⟩:=he;exact hD h hk hdr h1 (fun a' w' hp=>⟨rfl,hp⟩)
   ·cases he
  |false=>
   simp only [Ik,if_false,Cb,Prod.mk.injEq]at he;obtain⟨s1,h1,rfl,rfl⟩:=he;refine wp_region ?_;have:=Zc (P:=P) (Q:=fun e a' w'=>e=Vx Ex.normal∧C8 E.T gh N s1 w S Fs a' w') hT hC hops ops.toList 0 rfl h h1 (fun a' w' hp=>⟨rfl,hp⟩)
   rwa [Array.length_toList,←ba]at this
 |seq x y ihx ihy=>
  intro s s' ex a w S Fs hk h he;simp only [Gg,F9]at hk;simp only [Dq]at he;refine wp_seq ?_
  cases hx:Dq E x s with
  |none=>simp [hx]at he
  |some r=>
   obtain⟨eT,s1⟩:=r;have h1:=ihx hk.1 h hx;refine wp_mono h1 ?_;rintro e a' w' ⟨rfl,hp⟩
   cases eT with
   |normal=>
    simp only [hx]at he;obtain⟨S',Fs',hf,hst⟩:=hp.fr h.small;exact wp_mono (ihy hk.2 hf he) (fun e a2 w2 ⟨q1,q2⟩=>⟨q1,q2.back hst⟩)
   |exit id=>
    simp only [hx,al,Prod.mk.injEq]at he;obtain⟨rfl,rfl⟩:=he
    exact⟨rfl,hp⟩
   |ret=>
    simp only [hx,al,Prod.mk.injEq]at he;obtain⟨rfl,rfl⟩:=he
    exact⟨rfl,hp⟩
 |cond c x y ihx ihy=>
  intro s s' ex a w S Fs hk h he;simp only [Gg,F9]at hk;simp only [Dq]at he
  split at he
  ·rename_i t hc
   have hcd:BB N c:=by have:=hk.1.1;cases c<;>simp_all [Vw,BB]
   have hW:=Eg h.rel h.small hcd hc
   have hv:a.eval c= .bool t:=by
    generalize a.eval c=v at*
    cases hW with
    |bool=>rfl
   refine wp_cond hv ?_
   cases t with
   |true=>simp only [if_true]at he ⊢;exact ihx hk.1.2 h he
   |false=>simp only [Ik,if_false]at he ⊢;exact ihy hk.2 h he
  ·cases he
 |block id c ih=>
  intro s s' ex a w S Fs hk h he;simp only [Gg]at hk;simp only [Dq]at he;refine wp_block ?_
  cases hx:Dq E c s with
  |none=>simp [hx]at he
  |some r=>
   obtain⟨eT,s1⟩:=r;refine wp_mono (ih hk h hx) ?_;rintro e a' w' ⟨rfl,hp⟩
   cases eT with
   |normal=>
    simp only [hx,al,Prod.mk.injEq]at he;obtain⟨rfl,rfl⟩:=he
    exact⟨rfl,hp⟩
   |exit j=>
    simp only [hx]at he;simp only [Vx,Exit.inBlock]
    split at he
    ·rename_i hj
     simp only [al,Prod.mk.injEq]at he;obtain⟨rfl,rfl⟩:=he;rw [if_pos hj];exact⟨rfl,hp⟩
    ·rename_i hj
     simp only [al,Prod.mk.injEq]at he;obtain⟨rfl,rfl⟩:=he;rw [if_neg hj];exact⟨rfl,hp⟩
   |ret=>
    simp only [hx,al,Prod.mk.injEq]at he;obtain⟨rfl,rfl⟩:=he
    exact⟨rfl,hp⟩
 |loop c ih=>
  intro s s' ex a w S Fs hk h he;simp only [Gg]at hk;simp only [Dq]at he;obtain⟨n,hn⟩:=Ku he;refine wp_loop_rounds n ?_
  have key: ∀(n:Nat) {s:St} {a1:Act} {w1:World} {S1:Nat→Prop} {Fs1:Nat→Nat→Prop},Gq (Dq E c) n s=some (ex,s')→Fr E.T N gh s a1 w1 S1 Fs1→Step w S Fs w1 S1 Fs1→
    Code.rounds P c (fun e a' w'=>e=Vx ex∧C8 E.T gh N s' w S Fs a' w') n a1 w1:=by
   intro n
   induction n with
   |zero=>intro s a1 w1 S1 Fs1 hn;simp [Gq]at hn
   |succ n ihn=>
    intro s a1 w1 S1 Fs1 hn hf hst;simp only [Gq]at hn;rw [rounds_succ]
    cases hx:Dq E c s with
    |none=>simp [hx]at hn
    |some r=>
     obtain⟨eT,s1⟩:=r;refine wp_mono (ih hk hf hx) ?_;rintro e a' w' ⟨rfl,hp⟩
     cases eT with
     |normal=>
      simp only [hx]at hn;obtain⟨S',Fs',hf',hst'⟩:=hp.fr h.small;exact ihn hn hf' (hst.trans hst')
     |exit id=>
      simp only [hx,al,Prod.mk.injEq]at hn;obtain⟨rfl,rfl⟩:=hn
      exact⟨rfl,hp.back hst⟩
     |ret=>
      simp only [hx,al,Prod.mk.injEq]at hn;obtain⟨rfl,rfl⟩:=hn
      exact⟨rfl,hp.back hst⟩
  exact key n hn h (Step.refl _ _ _)
 |exit id=>
  intro s s' ex a w S Fs _ h he;simp only [Dq,al,Prod.mk.injEq]at he;obtain⟨rfl,rfl⟩:=he;exact wp_exit ⟨rfl,S,Fs,h.rel,Step.refl _ _ _,h.defs,h.size⟩
 |ret=>
  intro s s' ex a w S Fs _ h he;simp only [Dq,al,Prod.mk.injEq]at he;obtain⟨rfl,rfl⟩:=he;exact wp_ret ⟨rfl,S,Fs,h.rel,Step.refl _ _ _,h.defs,h.size⟩
 |rangeFunc=>intro s s' ex a w S Fs _ h he;simp [Dq]at he
 |scope=>intro s s' ex a w S Fs _ h he;simp [Dq]at he
 |label=>intro s s' ex a w S Fs _ h he;simp [Dq]at he
 |goto=>intro s s' ex a w S Fs _ h he;simp [Dq]at he
 |refuse=>intro s s' ex a w S Fs _ h he;simp [Dq]at he
end
end Dv
namespace Dv
open Go
def Dr(A:Nat→Bool)(s t:St):Prop:= ∀r,A r=true→s.v r=t.v r∧s.k r=t.k r∧s.m r=t.m r
def Bo(B:Nat→Bool)(s s':St):Prop:= ∀r,B r=false→s'.v r=s.v r∧s'.k r=s.k r∧s'.m r=s.m r
theorem Bo.refl(B:Nat→Bool)(s:St):Bo B s s:=fun _ _=>⟨rfl,rfl,rfl⟩
theorem Bo.trans{B:Nat→Bool}{s s1 s2:St}(h:Bo B s s1)(h':Bo B s1 s2):Bo B s s2:=fun r hr=>
 ⟨(h' r hr).1.trans (h r hr).1,(h' r hr).2.1.trans (h r hr).2.1,(h' r hr).2.2.trans (h r hr).2.2⟩
section
variable {A B:Nat→Bool} {s t:St}
theorem IY{α:Type}(f:Nat→α)(u:Nat)(d:α)(r:Nat):KH f u d r=if r=u then d else f r:=rfl
theorem Dr.put(h:Dr A s t)(u:Nat)(d:D):Dr A (s.put u d) (t.put u d):=by
 intro r hr;obtain⟨h1,h2,h3⟩:=h r hr;unfold St.put;split
 ·by_cases e:r=u
  ·subst e;simp [IY,h2,h3]
  ·simp [IY,e,h1,h2,h3]
 ·by_cases e:r=u
  ·subst e;simp [IY,h2,h3]
  ·simp [IY,e,h1,h2,h3]
theorem Dr.putO(h:Dr A s t)(u:Option Tmp)(d:D):Dr A (s.putO u d) (t.putO u d):=by
 cases u with
 |none=>exact h
 |some u=>exact h.put u d
theorem Dr.clr(h:Dr A s t)(u:Nat):Dr A (s.clr u) (t.clr u):=by
 intro r hr;obtain⟨h1,h2,h3⟩:=h r hr;by_cases e:r=u
 ·subst e;simp [St.clr,IY,h2,h3]
 ·simp [St.clr,IY,e,h1,h2,h3]
theorem Dr.bump(h:Dr A s t)(u:Nat):Dr A (s.bump u) (t.bump u):=by
 intro r hr;obtain⟨h1,h2,h3⟩:=h r hr;by_cases e:r=u
 ·subst e;simp [St.bump,IY,h1,h2,h3]
 ·simp [St.bump,IY,e,h1,h2,h3]
theorem Dr.set(h:Dr A s t)(L:AB)(d:D):Dr A (s.set L d) (t.set L d):=by
 cases L with
 |nil=>exact h
 |cons u p=>
  intro r hr;obtain⟨h1,h2,h3⟩:=h r hr;by_cases e:r=u
  ·subst e;simp [St.set,IY,h1,h2,h3]
  ·simp [St.set,IY,e,h1,h2,h3]
theorem Bo.put{u:Nat}(hu:B u=true)(d:D):Bo B s (s.put u d):=by
 intro r hr;have e:r≠u:=fun e=>by subst e;simp [hu]at hr
 unfold St.put
 split<;>simp [IY,e]
theorem Bo.putO{u:Option Tmp}(hu: ∀t,u=some t→B t=true)(d:D):Bo B s (s.putO u d):=by
 cases u with
 |none=>exact Bo.refl _ _
 |some u=>exact Bo.put (hu u rfl) d
theorem Bo.clr{u:Nat}(hu:B u=true):Bo B s (s.clr u):=by
 intro r hr;have e:r≠u:=fun e=>by subst e;simp [hu]at hr
 simp [St.clr,IY,e]
theorem Bo.bump{u:Nat}(hu:B u=true):Bo B s (s.bump u):=by
 intro r hr;have e:r≠u:=fun e=>by subst e;simp [hu]at hr
 simp [St.bump,IY,e]
theorem Bo.set{L:AB}(hu:L≠[]→B (L.headD 0)=true)(d:D):Bo B s (s.set L d):=by
 cases L with
 |nil=>exact Bo.refl _ _
 |cons u p=>
  intro r hr;have e:r≠u:=fun e=>by subst e;have:=hu (by simp);simp at this;simp [this]at hr
  simp [St.set,IY,e]
def BK(A:Nat→Bool)(x:ac):Prop:= ∀u,x= .tmp u→A u=true
theorem Bt(T:Tys)(h:Dr A s t)(ty:ab){x:ac}(hx:BK A x):ev T s ty x=ev T t ty x:=by
 cases x with
 |tmp u=>simp only [ev];rw [(h u (hx u rfl)).1]
 |_=>rfl
theorem Qw(h:Dr A s t){L:AB}(hL:A (L.headD 0)=true):iF s L=iF t L:=by
 obtain⟨_,h2,h3⟩:=h _ hL;unfold iF;rw [h2,h3]
end
section
variable {pm:Pm} {s t:St}
theorem E9(h:Dr pm.rd s t)(L:AB)(n m:Nat):s.look pm L n m=t.look pm L n m:=by
 cases L with
 |nil=>rfl
 |cons u p=>
  unfold St.look;simp only;by_cases hu:pm.rd u=true
  ·obtain⟨h1,h2,h3⟩:=h u hu;rw [h1,h2,h3]
  ·simp [hu]
theorem OP{L:AB}{n m:Nat}{d:D}(h:s.look pm L n m=some d):L≠[]∧pm.rd (L.headD 0)=true:=by
 cases L with
 |nil=>simp [St.look]at h
 |cons u p=>
  refine⟨by simp, ?_⟩
  unfold St.look at h;simp only at h
  split at h
  ·rename_i hc;simp only [F9]at hc;simpa using hc.1.1
  ·cases h
theorem V8(h:Dr pm.rd s t)(x:ac)(d:D):Hm pm s x d=Hm pm t x d:=by
 unfold Hm
 split<;>simp only [E9 h]
theorem jB{x:ac}{d:D}{L:AB}{c:Nat}{o:D}(hx:BK pm.rd x)(h:Hm pm s x d=some (L,c,o)):pm.rd (L.headD 0)=true:=by
 unfold Hm at h
 split at h
 ·split at h
  ·simp only [al,Prod.mk.injEq]at h;obtain⟨rfl,_⟩:=h;exact hx _ rfl
  ·cases h
 ·split at h
  ·rename_i hl
   simp only [al,Prod.mk.injEq]at h;obtain⟨rfl,_⟩:=h
   exact(OP hl).2
  ·cases h
 ·split at h
  ·rename_i hl
   simp only [al,Prod.mk.injEq]at h;obtain⟨rfl,_⟩:=h
   exact(OP hl).2
  ·cases h
 ·cases h
theorem J3(h:Dr pm.rd s t){x:ac}(hx:BK pm.rd x)(d:D):DN pm s x d=DN pm t x d:=by
 unfold DN;split
 ·rfl
 ·split
  ·rename_i u
   obtain⟨_,h2,h3⟩:=h u (hx u rfl);rw [h2,h3]
  ·rfl
 ·simp only [E9 h]
 ·rfl
theorem Mh(h:Dr pm.rd s t){L:AB}(hne:L≠[])(hL:pm.rd (L.headD 0)=true)(c:Nat)(d:D):FQ s L c d=FQ t L c d:=by
 have:pm.rd ((L++[c]).headD 0)=true:=by cases L with
  |nil=>exact absurd rfl hne
  |cons u p=>simpa using hL
 unfold FQ;split
 ·exact Qw h this
 ·exact Qw h this
 ·rfl
theorem jC{x:ac}{d:D}{L:AB}{c:Nat}{o:D}(h:Hm pm s x d=some (L,c,o)):L≠[]:=by
 unfold Hm at h
 split at h
 ·split at h
  ·simp only [al,Prod.mk.injEq]at h;obtain⟨rfl,_⟩:=h
   simp
  ·cases h
 ·split at h
  ·rename_i hl
   simp only [al,Prod.mk.injEq]at h;obtain⟨rfl,_⟩:=h
   exact(OP hl).1
  ·cases h
 ·split at h
  ·rename_i hl
   simp only [al,Prod.mk.injEq]at h;obtain⟨rfl,_⟩:=h
   exact(OP hl).1
  ·cases h
 ·cases h
theorem Ze(T:Tys)(h:Dr pm.rd s t)(ty:ab){x:ac}(hx:BK pm.rd x)(d:D):Gn T pm s ty x d=Gn T pm t ty x d:=by
 unfold Gn;split
 ·split
  ·rfl
  ·rfl
  ·rw [←V8 h]
   cases ha:Hm pm s x d with
   |none=>rfl
   |some r=>
    obtain⟨L,c,o⟩:=r;have h1:=jC ha;have h2:=jB hx ha;simp only [Mh h h1 h2]
 ·rfl
theorem Qd(T:Tys)(h:Dr pm.rd s t)(ty:ab){x:ac}(hx:BK pm.rd x)(d:D)(i:Nat):Ef T pm s ty x d i=Ef T pm t ty x d i:=by
 unfold Ef
 cases T.foff ty i with
 |none=>rfl
 |some j=>
 simp only;split
 ·split
  ·split
   ·rename_i u
    obtain⟨_,h2,h3⟩:=h u (hx u rfl);rw [h2,h3]
   ·rfl
  ·simp only [E9 h]
  ·simp only [E9 h]
  ·rfl
  ·rfl
 ·rfl
theorem Qe(T:Tys)(h:Dr pm.rd s t)(ty:ab){x:ac}(hx:BK pm.rd x)(d i:D):Di T pm s ty x d i=Di T pm t ty x d i:=by
 unfold Di;split
 ·simp only [J3 h hx]
 ·split
  ·split
   ·split
    ·rename_i u
     obtain⟨_,h2,h3⟩:=h u (hx u rfl);rw [h2,h3]
    ·rfl
   ·simp only [E9 h]
   ·rfl
   ·rfl
  ·rfl
 ·rfl
theorem eU(T:Tys)(h:Dr pm.rd s t)(ty:ab){x:ac}(hx:BK pm.rd x)(d:D):M6 T pm s ty x d=M6 T pm t ty x d:=by
 unfold M6;simp only [J3 h hx]
theorem jD(T:Tys)(h:Dr pm.rd s t)(ty:ab){x:ac}(hx:BK pm.rd x)(d i:D):PU T pm s ty x d i=PU T pm t ty x d i:=by
 unfold PU;split
 ·unfold iQ;simp only [E9 h]
 ·exact Qe T h ty hx _ i
theorem Xy(T:Tys)(h:Dr pm.rd s t)(ty:ab){x:ac}(hx:BK pm.rd x)(d:D):XU T pm s ty x d=XU T pm t ty x d:=by
 unfold XU;split
 ·rfl
 ·exact eU T h ty hx _
theorem eX(h:Dr pm.rd s t)(L:AB)(n:Nat):s.lookM pm L n=t.lookM pm L n:=by
 unfold St.lookM;split
 ·rename_i u
  by_cases hu:pm.rd u=true
  ·obtain⟨h1,h2,_⟩:=h u hu;rw [h1,h2]
  ·simp [hu]
 ·rfl
theorem OQ(h:Dr pm.rd s t)(x:ac)(d:D):RX pm s x d=RX pm t x d:=by
 unfold RX;split
 ·rfl
 ·rw [eX h]
 ·rfl
theorem Vy(T:Tys)(h:Dr pm.rd s t)(ty:ab)(x:ac)(d i:D)(ok:Bool):IU T pm s ty x d i ok=IU T pm t ty x d i ok:=by
 unfold IU;rw [OQ h]
theorem eY(T:Tys)(h:Dr pm.rd s t)(ty:ab){x:ac}(hx:BK pm.rd x)(d:D):MX T pm s ty x d=MX T pm t ty x d:=by
 unfold MX;split
 ·unfold XV;rw [OQ h]
 ·split
  ·unfold XV;rw [OQ h]
  ·exact Xy T h ty hx _
 ·exact Xy T h ty hx _
theorem OT(T:Tys)(h:Dr pm.rd s t)(n:Nat){x:Option ac}(hx: ∀o,x=some o→BK pm.rd o):NZ T s n x=NZ T t n x:=by
 cases x with
 |none=>rfl
 |some o=>simp only [NZ,Bt T h 0 (hx o rfl)]
def Vz{α:Type}(pm:Pm)(s t:St)(r r':Option (α×St)):Prop:=
 ∀d s1,r=some (d,s1)→Bo pm.wr s s1∧ ∃t1,r'=some (d,t1)∧Dr pm.rd s1 t1
theorem Xz(h:Dr pm.rd s t)(L:AB)(n m:Nat):Vz pm s t (MR pm s L n m) (MR pm t L n m):=by
 intro d s1 hp;unfold MR at hp ⊢;rw [←E9 h]
 cases hl:s.look pm L n m with
 |none=>simp [hl]at hp
 |some c=>
  simp only [hl]at hp ⊢;obtain⟨hne,hrd⟩:=OP hl
  have hget:s.get L.dropLast=t.get L.dropLast:=by
   cases L with
   |nil=>exact absurd rfl hne
   |cons u p=>
    cases p with
    |nil=>rfl
    |cons q p=>simp only [List.dropLast,St.get];rw [(h u hrd).1]
  rw [←hget]
  split at hp
  ·rename_i hw
   simp only [hw,if_true]
   split at hp
   ·simp only [Cb,Prod.mk.injEq]at hp;obtain⟨c',hc,rfl,rfl⟩:=hp
    exact⟨Bo.set (fun _=>hw) _,t.set L c',by simp [hc],h.set _ _⟩
   ·simp only [al,Prod.mk.injEq]at hp;obtain⟨rfl,rfl⟩:=hp
    exact⟨Bo.set (fun _=>hw) _,t.set L .undef,rfl,h.set _ _⟩
  ·cases hp
mutual
theorem Kv(d0:D): ∀ {s t:St},Dr pm.rd s t→Vz pm s t (CO pm s d0) (CO pm t d0):=by
 intro s t h d s1 hd
 cases d0<;>simp only [CO]at hd ⊢
 case vw L n m=>exact Xz h L n m d s1 hd
 case agg xs=>
  simp only [Cb,Prod.mk.injEq]at hd;obtain⟨⟨ys,s2⟩,h1,rfl,rfl⟩:=hd;obtain⟨hs,t1,ht,ha⟩:=SF xs h _ _ h1
  exact⟨hs,t1,by simp [ht],ha⟩
 case konst v=>
  cases v<;>simp only at hd ⊢ <;>first
   |(cases hd;done)
   |(simp only [al,Prod.mk.injEq]at hd;obtain⟨rfl,rfl⟩:=hd;exact⟨Bo.refl _ _,t,rfl,h⟩)
 all_goals first
  |(cases hd;done)
  |(simp only [al,Prod.mk.injEq]at hd;obtain⟨rfl,rfl⟩:=hd;exact⟨Bo.refl _ _,t,rfl,h⟩)
theorem SF(l:List D): ∀ {s t:St},Dr pm.rd s t→Vz pm s t (EQ pm s l) (EQ pm t l):=by
 intro s t h d s1 hd
 cases l with
 |nil=>
  simp only [EQ,al,Prod.mk.injEq]at hd ⊢;obtain⟨rfl,rfl⟩:=hd
  exact⟨Bo.refl _ _,t,⟨rfl,rfl⟩,h⟩
 |cons x xs=>
  simp only [EQ,Gl,Cb,Prod.mk.injEq]at hd;obtain⟨⟨y,s2⟩,h1,⟨ys,s3⟩,h2,rfl,rfl⟩:=hd;obtain⟨hs,t1,ht,ha⟩:=Kv x h _ _ h1;obtain⟨hs',t2,ht',ha'⟩:=SF xs ha _ _ h2
  exact⟨hs.trans hs',t2,by simp [EQ,ht,ht'],ha'⟩
end
theorem JJ(T:Tys)(h:Dr pm.rd s t)(ty:ab){x:ac}(hx:BK pm.rd x)(hw:BK pm.wr x):Vz pm s t (take T pm s ty x) (take T pm t ty x):=by
 intro d s1 hd;unfold take at hd ⊢;rw [←Bt T h ty hx]
 cases he:ev T s ty x with
 |none=>simp [he]at hd
 |some d0=>
  simp only [he]at hd ⊢
  cases x with
  |tmp u=>
   simp only at hd ⊢
   split at hd
   ·rename_i ho
    simp only [ho,if_true];obtain⟨hs,r⟩:=Kv d0 (h.clr u) _ _ hd
    exact⟨(Bo.clr (hw u rfl)).trans hs,r⟩
   ·rename_i ho
    simp only [ho];exact Kv d0 h _ _ hd
  |_=>exact Kv d0 h _ _ hd
theorem V9(T:Tys)(tf:Nat→ab)(sz:Nat): ∀(l:List (Nat×ac)) {s t:St} (cs:List D),Dr pm.rd s t→(∀q∈l,BK pm.rd q.2∧BK pm.wr q.2)→Vz pm s t (FV T pm tf sz s cs l) (FV T pm tf sz t cs l):=by
 intro l
 induction l with
 |nil=>
  intro s t cs h _ d s1 hd;simp only [FV,al,Prod.mk.injEq]at hd ⊢;obtain⟨rfl,rfl⟩:=hd
  exact⟨Bo.refl _ _,t,⟨rfl,rfl⟩,h⟩
 |cons q l ih=>
  obtain⟨i,x⟩:=q;intro s t cs h hl d s1 hd;simp only [FV]at hd ⊢
  cases ht:take T pm s (tf i) x with
  |none=>simp [ht]at hd
  |some r=>
   obtain⟨d0,s2⟩:=r;obtain⟨hs,t1,ht1,ha⟩:=JJ T h (tf i) (hl (i,x) (by simp)).1 (hl (i,x) (by simp)).2 _ _ ht
   simp only [ht]at hd;simp only [ht1]
   split at hd
   ·rename_i hc
    simp only [hc,and_self,if_true];obtain⟨hs',r'⟩:=ih _ ha (fun q hq=>hl q (by simp [hq])) _ _ hd
    exact⟨hs.trans hs',r'⟩
   ·cases hd
theorem eZ(T:Tys)(fl:List (Nat×ab)): ∀(l:List (Nat×ac)) {s t:St} (cs:List D),Dr pm.rd s t→(∀q∈l,BK pm.rd q.2∧BK pm.wr q.2)→Vz pm s t (IJ T pm fl s cs l) (IJ T pm fl t cs l):=by
 intro l
 induction l with
 |nil=>
  intro s t cs h _ d s1 hd;simp only [IJ,al,Prod.mk.injEq]at hd ⊢;obtain⟨rfl,rfl⟩:=hd
  exact⟨Bo.refl _ _,t,⟨rfl,rfl⟩,h⟩
 |cons q l ih=>
  obtain⟨i,x⟩:=q;intro s t cs h hl d s1 hd;simp only [IJ]at hd ⊢
  cases hfi:fl[i]? with
  |none=>simp [hfi]at hd
  |some p=>
   obtain⟨off,ty⟩:=p;simp only [hfi]at hd ⊢
   cases ht:take T pm s ty x with
   |none=>simp [ht]at hd
   |some r=>
    obtain⟨d0,s2⟩:=r;obtain⟨hs,t1,ht1,ha⟩:=JJ T h ty (hl (i,x) (by simp)).1 (hl (i,x) (by simp)).2 _ _ ht
    simp only [ht]at hd;simp only [ht1]
    split at hd
    ·rename_i hc
     simp only [hc,and_self,if_true];obtain⟨hs',r'⟩:=ih _ ha (fun q hq=>hl q (by simp [hq])) _ _ hd
     exact⟨hs.trans hs',r'⟩
    ·cases hd
theorem QG(T:Tys)(h:Dr pm.rd s t)(ty:ab){x:ac}(hx:BK pm.rd x)(d0:D){lo hi mx:Option ac}(h1: ∀o,lo=some o→BK pm.rd o)(h2: ∀o,hi=some o→BK pm.rd o)(h3: ∀o,mx=some o→BK pm.rd o):
  Vz pm s t (H8 T pm s ty x d0 lo hi mx) (H8 T pm t ty x d0 lo hi mx):=by
 intro d s1 hd;unfold H8 at hd ⊢;simp only [←J3 h hx,←OT T h _ h1,←OT T h _ h2,←OT T h _ h3]
 split at hd
 ·split at hd
  ·rename_i l q hl hq
   split at hd
   ·rename_i hc
    simp only [al,Prod.mk.injEq]at hd;obtain⟨rfl,rfl⟩:=hd
    exact⟨Bo.refl _ _,t,by simp only [hl,hq,hc,and_self,if_true],h⟩
   ·cases hd
  ·cases hd
 ·split at hd
  ·cases hd
  ·rename_i e xs o hsl
   try simp only [hsl]
   split at hd
   ·rename_i l q hl hq
    split at hd
    ·rename_i hc
     simp only [hl,hq,hc,and_self,if_true]
     split at hd
     ·rename_i hm
      simp only [hm,if_true]
      split at hd
      ·rename_i z hz
       split at hd
       ·rename_i hc2
        simp only [al,Prod.mk.injEq]at hd;obtain⟨rfl,rfl⟩:=hd
        exact⟨Bo.refl _ _,t,by simp only [hz,hc2,and_self,if_true],h⟩
       ·cases hd
      ·cases hd
     ·rename_i hm
      simp only [hm]
      split at hd
      ·simp only [al,Prod.mk.injEq]at hd;obtain⟨rfl,rfl⟩:=hd
       exact⟨Bo.refl _ _,t,by simp,h⟩
      ·split at hd
       ·rename_i hw
        split at hd
        ·rename_i ys hy
         simp only [al,Prod.mk.injEq]at hd;obtain⟨rfl,rfl⟩:=hd
         exact⟨Bo.set (fun _=>hw) _,t.set _ _,by simp only [hw,Ik,if_true,if_false],h.set _ _⟩
        ·cases hd
       ·rename_i hw
        simp only [RV,al,Prod.mk.injEq]at hd;obtain⟨rfl,rfl⟩:=hd
        exact⟨Bo.refl _ _,t,by simp only [hw,RV,Ik,if_false],h⟩
    ·cases hd
   ·cases hd
 ·cases hd
theorem Y1(h:Dr pm.rd s t){x:ac}(hx:BK pm.rd x)(d:D):UG pm s x d=UG pm t x d:=by
 unfold UG;split
 ·simp only [E9 h]
 ·simp only [J3 h hx]
theorem jE(h:Dr pm.rd s t){x:ac}(hx:BK pm.rd x)(d:D):dY pm s x d=dY pm t x d:=by
 unfold dY;split
 ·simp only [E9 h]
 ·simp only [J3 h hx]
theorem Zf(T:Tys)(h:Dr pm.rd s t)(ty:ab){x y:ac}(hx:BK pm.rd x)(hy:BK pm.rd y)(da db:D):
  Vz pm s t (PV T pm s ty x y da db) (PV T pm t ty x y da db):=by
 intro d s1 hd;unfold PV at hd ⊢;simp only [←Y1 h hx,←jE h hy]
 split at hd
 ·rename_i e L xs lo len e' ys hds hsr
  try simp only [hds,hsr]
  split at hd
  ·rename_i hc
   rw [if_pos hc];simp only [al,Prod.mk.injEq]at hd;obtain⟨rfl,rfl⟩:=hd;simp only [F9]at hc
   exact⟨Bo.set (fun _=>hc.2) _,t.set _ _,rfl,h.set _ _⟩
  ·cases hd
 ·cases hd
theorem Y2(T:Tys)(h:Dr pm.rd s t)(ty:ab){x:ac}(hx:BK pm.rd x)(da:D):
  Vz pm s t (Jj T pm s ty x da) (Jj T pm t ty x da):=by
 intro d s1 hd;unfold Jj at hd ⊢;simp only [←Y1 h hx]
 split at hd
 ·rename_i e L xs lo len hds
  try simp only [hds]
  split at hd
  ·rename_i hc
   rw [if_pos hc];simp only [al,Prod.mk.injEq]at hd;obtain⟨rfl,rfl⟩:=hd;simp only [F9]at hc
   exact⟨(Bo.set (fun _=>hc.2) _).trans (Bo.bump hc.2),(t.set _ _).bump _,rfl,(h.set _ _).bump _⟩
  ·cases hd
 ·cases hd
theorem ed(T:Tys)(h:Dr pm.rd s t)(ty:ab){x:ac}(hx:BK pm.rd x){hi:Option ac}(h2: ∀o,hi=some o→BK pm.rd o):
  Vz pm s t (MS T pm s ty x hi) (MS T pm t ty x hi):=by
 intro d s1 hd;unfold MS at hd ⊢
 split at hd
 ·rename_i e' hty
  split at hd
  ·rename_i e xs s2 htk
   split at htk
   case isFalse=>cases htk
   rename_i hwx
   have hw:BK pm.wr x:=by
    intro u hu;subst hu;exact hwx
   obtain⟨hs,t1,ht1,ha⟩:=JJ T h ty hx hw _ _ htk;simp only [if_pos hwx,ht1,←OT T h _ h2]
   split at hd
   ·rename_i q hq
    split at hd
    ·rename_i hc
     simp only [al,Prod.mk.injEq]at hd;obtain⟨rfl,rfl⟩:=hd
     exact⟨hs,t1,by simp only [hq,hc,and_self,if_true],ha⟩
    ·cases hd
   ·cases hd
  ·cases hd
 ·cases hd
theorem Zg(T:Tys)(h:Dr pm.rd s t)(ty:ab){x:ac}(hx:BK pm.rd x){hi:Option ac}(h2: ∀o,hi=some o→BK pm.rd o):
  Vz pm s t (MU T pm s ty x hi) (MU T pm t ty x hi):=by
 intro d s1 hd;unfold MU at hd ⊢
 split at hd
 ·rename_i e' hty
  split at hd
  ·rename_i e xs s2 htk
   split at htk
   case isFalse=>cases htk
   rename_i hwx
   have hw:BK pm.wr x:=by
    intro u hu;subst hu;exact hwx
   obtain⟨hs,t1,ht1,ha⟩:=JJ T h ty hx hw _ _ htk;simp only [if_pos hwx,ht1,←OT T h _ h2]
   split at hd
   ·rename_i q hq
    split at hd
    ·rename_i hc
     simp only [al,Prod.mk.injEq]at hd;obtain⟨rfl,rfl⟩:=hd
     exact⟨hs,t1,by simp only [hq,hc,and_self,if_true],ha⟩
    ·cases hd
   ·cases hd
  ·cases hd
 ·cases hd
theorem ek(h:Dr pm.rd s t){t0:Nat}(h0:pm.rd t0=true)(d:D):Jz s t0 d=Jz t t0 d:=by
 unfold Jz;rw [(h t0 h0).2.1]
theorem fA(T:Tys)(h:Dr pm.rd s t)(ty:ab){ax x:ac}(hx:BK pm.rd x){s1:St}(hd:RU T pm s ty ax x=some s1):
  Bo pm.wr s s1∧ ∃t1,RU T pm t ty ax x=some t1∧Dr pm.rd s1 t1:=by
 unfold RU at hd ⊢
 split at hd
 ·rename_i t0 u
  split at hd
  ·rename_i x0 f xs hb hu
   split at hd
   ·rename_i hc
    have hc':=hc;simp only [F9]at hc';simp only [al]at hd;subst hd;have hr0:=hc'.1.2;have hb':t.v t0= .box [x0]:=by rw [←(h t0 hr0).1];exact hb
    have hu':t.v u= .ocl false f xs:=by rw [←(h u (hx u rfl)).1];exact hu
    have hm:xs.map (Jz t t0)=xs.map (Jz s t0):=List.map_congr_left fun d _=>(ek h hr0 d).symm
    refine⟨Bo.set (fun _=>hc'.2) _,_, ?_,h.set [t0] (.ocl true f (xs.map (Jz s t0)))⟩
    simp only [hb',hu'];rw [if_pos hc,hm]
   ·cases hd
  ·cases hd
 ·cases hd
theorem Y3(T:Tys)(h:Dr pm.rd s t)(ty:ab)(x:ac)(d i v:D){s1:St}(hd:Jk T pm s ty x d i v=some s1):
  Bo pm.wr s s1∧ ∃t1,Jk T pm t ty x d i v=some t1∧Dr pm.rd s1 t1:=by
 unfold Jk at hd ⊢;rw [←OQ h]
 split at hd
 ·rename_i k e k' e' es L hty hm
  try simp only [hm]
  split at hd
  ·rename_i ka kn ea en hka hea
   try simp only [hka,hea]
   split at hd
   ·rename_i hc
    rw [if_pos hc]
    split at hd
    ·rename_i key val hk hv
     try simp only [hk,hv]
     simp only [al]at hd;subst hd
     exact⟨Bo.set (fun _=>hc.2.2) _,_,rfl,h.set _ _⟩
    ·cases hd
   ·cases hd
  ·cases hd
 ·cases hd
theorem VA(T:Tys)(h:Dr pm.rd s t)(ty:ab){x:ac}(hx:BK pm.rd x)(hxw:BK pm.wr x):Vz pm s t (Jy T pm s ty x) (Jy T pm t ty x):=by
 intro d s1 hd;unfold Jy at hd ⊢;rw [←Bt T h ty hx]
 split at hd
 ·rename_i L n m he
  try simp only [he]
  unfold RS at hd ⊢;rw [←E9 h]
  cases hl:s.look pm L n m with
  |none=>simp [hl]at hd
  |some c=>
   simp only [hl]at hd ⊢
   split at hd
   ·rename_i hw
    simp only [hw,if_true];simp only [al,Prod.mk.injEq]at hd;obtain⟨rfl,rfl⟩:=hd
    exact⟨Bo.set (fun _=>hw) _,t.set L .undef,rfl,h.set _ _⟩
   ·cases hd
 ·exact JJ T h ty hx hxw _ _ hd
theorem W9(T:Tys)(h:Dr pm.rd s t)(ty:ab){x y:ac}(hx:BK pm.rd x)(hxw:BK pm.wr x)(hy:BK pm.rd y)(hyw:BK pm.wr y):
  Vz pm s t (Fw T pm s ty x y) (Fw T pm t ty x y):=by
 intro d s1 hd;unfold Fw at hd ⊢
 split at hd
 ·split at hd
  ·rename_i e hty e1 xs s2 htk
   obtain⟨hs,t1,ht1,ha⟩:=VA T h ty hx hxw _ _ htk;simp only [ht1,←Bt T ha ty hy,←J3 ha hy]
   split at hd
   ·rename_i d1 hev
    try simp only [hev]
    split at hd
    ·rename_i e2 ys o hsl
     try simp only [hsl]
     split at hd
     ·rename_i hc
      rw [if_pos hc]
      split at hd
      ·rename_i ho
       rw [if_pos ho]
       split at hd
       ·simp only [al,Prod.mk.injEq]at hd;obtain⟨rfl,rfl⟩:=hd
        exact⟨hs.trans (Bo.clr (hyw _ rfl)),_,rfl,ha.clr _⟩
       ·cases hd
      ·rename_i ho
       rw [if_neg ho];simp only [al,Prod.mk.injEq]at hd;obtain⟨rfl,rfl⟩:=hd
       exact⟨hs,t1,rfl,ha⟩
     ·cases hd
    ·cases hd
   ·cases hd
  ·cases hd
 ·cases hd
theorem Zh(T:Tys)(h:Dr pm.rd s t)(ty:ab){x:ac}(hx:BK pm.rd x)(hxw:BK pm.wr x):Vz pm s t (K3 T pm s ty x) (K3 T pm t ty x):=by
 intro d s1 hd;unfold K3 at hd ⊢
 split at hd
 ·split at hd
  ·rename_i e hty e1 xs s2 htk
   obtain⟨hs,t1,ht1,ha⟩:=JJ T h ty hx hxw _ _ htk;simp only [ht1]
   split at hd
   ·rename_i hc
    rw [if_pos hc];simp only [al,Prod.mk.injEq]at hd;obtain⟨rfl,rfl⟩:=hd
    exact⟨hs,t1,rfl,ha⟩
   ·cases hd
  ·cases hd
 ·cases hd
theorem jF(h:Dr pm.rd s t)(d:D):OI pm s d=OI pm t d:=by
 unfold OI;simp only [E9 h]
theorem nD(h:Dr pm.rd s t)(r:Nat):yP pm s r=yP pm t r:=by
 unfold yP
 cases hr:pm.rd r with
 |false=>rfl
 |true=>rw [(h r hr).1]
theorem nE(h:Dr pm.rd s t)(d:D):qO pm s d=qO pm t d:=by
 unfold qO;split
 ·exact nD h _
 ·rfl
theorem jG(h:Dr pm.rd s t)(d:D):ZH pm s d=ZH pm t d:=by
 have hf:qO pm s=qO pm t:=funext (nE h);unfold ZH;rw [hf]
theorem OU(T:Tys)(ty:ab){ax:ac}(ha:BK pm.rd ax){q q':Option (D×St)}(hq:Vz pm s t q q'){s1:St}(hd:Fv T pm ty ax q=some s1):
  Bo pm.wr s s1∧ ∃t1,Fv T pm ty ax q'=some t1∧Dr pm.rd s1 t1:=by
 unfold Fv at hd ⊢
 split at hd
 ·cases hd
 ·rename_i d s2 htk
  obtain⟨hs,t1,ht1,hag⟩:=hq _ _ rfl;simp only [ht1,←Bt T hag ty ha]
  split at hd
  ·cases hd
  ·rename_i ad hev
   simp only [hev,←V8 hag]
   split at hd
   ·cases hd
   ·rename_i L c o had
    try simp only [had]
    split at hd
    ·rename_i hc
     rw [if_pos hc];simp only [F9]at hc;have hw:pm.wr (L.headD 0)=true:=hc.1.1.1.1.2;simp only [al]at hd;subst hd;split
     ·exact⟨hs.trans ((Bo.set (fun _=>hw) _).trans (Bo.bump hw)),_,rfl,(hag.set _ _).bump _⟩
     ·exact⟨hs.trans (Bo.set (fun _=>hw) _),_,rfl,hag.set _ _⟩
    ·cases hd
theorem QH(T:Tys)(h:Dr pm.rd s t)(ty:ab){ax x:ac}(hx:BK pm.rd x)(hxw:BK pm.wr x)(ha:BK pm.rd ax){s1:St}(hd:IR T pm s ty ax x=some s1):
  Bo pm.wr s s1∧ ∃t1,IR T pm t ty ax x=some t1∧Dr pm.rd s1 t1:=by
 unfold IR at hd ⊢;exact OU T ty ha (JJ T h ty hx hxw) hd
theorem Y4: ∀(l:List ac) {s t:St},Dr pm.rd s t→(∀x∈l,BK pm.rd x)→Vz pm s t (Kh pm s l) (Kh pm t l):=by
 intro l
 induction l with
 |nil=>
  intro s t h _ d s1 hd;simp only [Kh,al,Prod.mk.injEq]at hd ⊢;obtain⟨rfl,rfl⟩:=hd
  exact⟨Bo.refl _ _,t,⟨rfl,rfl⟩,h⟩
 |cons x l ih=>
  intro s t h hl d s1 hd;unfold Kh at hd ⊢
  cases x with
  |tmp u=>
   simp only at hd ⊢;rw [←(h u (hl (.tmp u) (by simp) u rfl)).1]
   split at hd
   ·rename_i xs hu
    split at hd
    ·rename_i ys hy
     split at hd
     ·rename_i hw
      simp only [Cb,Prod.mk.injEq]at hd;obtain⟨⟨zs,s2⟩,h1,rfl,rfl⟩:=hd;obtain⟨hs,t1,ht1,ha⟩:=ih (h.set [u] (.cptr ys)) (fun x hx=>hl x (by simp [hx])) _ _ h1
      exact⟨(Bo.set (fun _=>hw) _).trans hs,t1,by simp [hy,hw,ht1],ha⟩
     ·cases hd
    ·cases hd
   ·rename_i ys hu
    simp only [Cb,Prod.mk.injEq]at hd;obtain⟨⟨zs,s2⟩,h1,rfl,rfl⟩:=hd;obtain⟨hs,t1,ht1,ha⟩:=ih h (fun x hx=>hl x (by simp [hx])) _ _ h1
    exact⟨hs,t1,by simp [ht1],ha⟩
   ·cases hd
  |_=>simp at hd
theorem Y5(h:Dr pm.rd s t): ∀(l:List ac),(∀x∈l,BK pm.rd x)→UH s l=UH t l
 | [],_=>rfl
 |x::l,hl=>by
  unfold UH
  cases x with
  |tmp u=>
   have hu:=hl (.tmp u) (by simp) u rfl
   simp only;rw [←(h u hu).1,Y5 h l (fun x hx=>hl x (JG _ hx)),Qw (L:=[u]) h hu]
  |_=>rfl
theorem Ph(m:Nat){A:Nat→Bool}: ∀(l:List ac) (i:Nat),(∀x∈l,BK A x)→ ∀x∈LW m i l,BK A x
 | [],_,_,x,h=>by simp [LW]at h
 |y::l,i,hl,x,h=>by
  unfold LW at h
  split at h
  ·exact Ph m l _ (fun x hx=>hl x (JG _ hx)) x h
  ·rcases OH.1 h with rfl|h
   ·exact hl _ Ke
   ·exact Ph m l _ (fun x hx=>hl x (JG _ hx)) x h
theorem jH(m:Nat)(l:List ac)(h:Dr pm.rd s t)(hl: ∀x∈l,BK pm.rd x):Vz pm s t (Vg pm s m l) (Vg pm t m l):=by
 intro d s1 hd;unfold Vg at hd ⊢
 split at hd
 ·cases hd
 ·rename_i ys s2 hc
  obtain⟨es,he,hd⟩:=Cb.1 hd;simp only [Prod.mk.injEq]at hd;obtain⟨rfl,rfl⟩:=hd;obtain⟨hs,t1,ht1,ha⟩:=Y4 _ h (Ph m l 0 hl) _ _ hc
  exact⟨hs,t1,by simp only [ht1];rw [←Y5 ha l hl,he];rfl,ha⟩
theorem QI(lend:Bool)(h:Dr pm.rd s t)(j:Nat)(L0:AB)(d:D):Eb lend pm s j L0 d=Eb lend pm t j L0 d:=by
 unfold Eb
 split<;>simp only [E9 h]
theorem WA(lend:Bool)(h:Dr pm.rd s t)(L0:AB): ∀(l:List D) (j i:Nat),E8 lend pm s L0 j i l=E8 lend pm t L0 j i l:=by
 intro l
 induction l with
 |nil=>intro j i;rfl
 |cons d l ih=>intro j i;simp only [E8,QI lend h,ih]
theorem Zi(lend:Bool)(h:Dr pm.rd s t)(j:Nat)(L0:AB)(d:D):DR lend pm s j L0 d=DR lend pm t j L0 d:=by
 unfold DR;split
 ·rw [WA lend h]
 ·rw [QI lend h]
theorem SG(h:Dr pm.rd s t): ∀(l:List D),K4 pm s l=K4 pm t l
 | []=>rfl
 |d::l=>by
  unfold K4
  cases d with
  |vw L n m=>simp only [E9 h,SG h l]
  |cptr ys=>simp only [SG h l]
  |_=>rfl
theorem jI(T:Tys)(lend:Bool)(h:Dr pm.rd s t)(j:Nat)(L0:AB)(d:D):Jl T lend pm s j L0 d=Jl T lend pm t j L0 d:=by
 unfold Jl;split
 ·simp only [SG h]
 ·unfold Uy;simp only [E9 h]
 ·rw [Zi lend h]
theorem VB(E:Env)(lend:Bool)(h:Dr pm.rd s t): ∀(l:List (ac×ab)) (j:Nat),(∀x∈l,BK pm.rd x.1)→Da E lend pm s j l=Da E lend pm t j l:=by
 intro l
 induction l with
 |nil=>intro j _;rfl
 |cons q l ih=>
  obtain⟨x,ty⟩:=q;intro j hl;simp only [Da,Bt E.T h ty (hl (x,ty) (by simp)),jI E.T lend h,ih _ (fun x hx=>hl x (by simp [hx]))]
theorem Mi(deep:Bool): ∀(l:List (AB×D)) {s t:St},Dr pm.rd s t→Dr pm.rd (back deep s l) (back deep t l):=by
 intro l
 induction l with
 |nil=>intro s t h;exact h
 |cons q l ih=>
  obtain⟨L,c⟩:=q;intro s t h;simp only [back];split
  ·exact ih h
  ·split
   ·exact ih ((h.set _ _).bump _)
   ·exact ih (h.set _ _)
theorem Kw(deep:Bool): ∀(l:List (AB×D)) {s:St},(∀q∈l,pm.wr (q.1.headD 0)=true)→Bo pm.wr s (back deep s l):=by
 intro l
 induction l with
 |nil=>intro s _;exact Bo.refl _ _
 |cons q l ih=>
  obtain⟨L,c⟩:=q;intro s h;have hw:=h (L,c) (by simp)
  simp only [back];refine Bo.trans ?_ (ih (fun q hq=>h q (by simp [hq])))
  split
  ·exact Bo.refl _ _
  ·split
   ·exact(Bo.set (fun _=>hw) _).trans (Bo.bump hw)
   ·exact Bo.set (fun _=>hw) _
theorem UO: ∀ {l l':List (AB×D)},Ho l=some l'→l'.map (·.1)=l.map (·.1):=by
 intro l
 induction l with
 |nil=>intro l' h;simp only [Ho,al]at h;subst h;rfl
 |cons q l ih=>
  obtain⟨L,c⟩:=q;intro l' h;simp only [Ho,Gl,Cb]at h;obtain⟨c',_,l2,h2,rfl⟩:=h;simp [ih h2]
theorem Lg(h:Dr pm.rd s t): ∀(l:List D) (j:Nat),Iz pm s j l=Iz pm t j l
 | [],_=>rfl
 |d::l,j=>by
  unfold Iz
  cases d with
  |vw L n m=>simp only [E9 h,Lg h l (j+1)]
  |cptr ys=>simp only [Lg h l j]
  |undef=>simp only [Lg h l j]
  |_=>rfl
theorem fB{E:Env}(h:Dr pm.rd s t){dst:Option Tmp}(hdst: ∀u,dst=some u→pm.wr u=true){f:am}{xs:List (ac×ab)}(hxs: ∀x∈xs,BK pm.rd x.1){caps:List D}{s1:St}(hd:M7 E pm s dst f xs caps=some s1):
  Bo pm.wr s s1∧ ∃t1,M7 E pm t dst f xs caps=some t1∧Dr pm.rd s1 t1:=by
 unfold M7 at hd ⊢;simp only [←VB E _ h xs _ hxs,←Lg h]
 split at hd
 ·cases hd
 ·rename_i as ls has
  try simp only [has]
  split at hd
  ·cases hd
  ·rename_i cs lc hcs
   try simp only [hcs]
   split at hd
   ·rename_i hc
    rw [if_pos hc];simp only [F9,IQ]at hc
    split at hd
    ·rename_i r outs hcall
     try simp only [hcall]
     split at hd
     ·rename_i hz
      rw [if_pos hz];simp only [al]at hd;subst hd
      refine⟨((Kw false _ ?_).trans (Kw true _ ?_)).trans (Bo.putO hdst r),_,rfl,(Mi true _ (Mi false _ h)).putO dst r⟩
      ·intro q hq;obtain⟨L,h1,rfl⟩:=Iy.1 hq;obtain⟨l,hl',rfl⟩:=Iy.1 h1;exact hc.1.2 l hl'
      ·intro q hq;obtain⟨l,hl',e⟩:=Iy.1 (Vd hq).1;rw [←e];exact hc.1.2 l hl'
     ·cases hd
    ·cases hd
   ·cases hd
theorem Pi{E:Env}(h:Dr pm.rd s t){dst:Option Tmp}(hdst: ∀u,dst=some u→pm.wr u=true){f:am}{xs:List (ac×ab)}(hxs: ∀x∈xs,BK pm.rd x.1){caps:List D}{s1:St}(hd:FW E pm s dst f xs caps=some s1):
  Bo pm.wr s s1∧ ∃t1,FW E pm t dst f xs caps=some t1∧Dr pm.rd s1 t1:=by
 unfold FW at hd ⊢;simp only [←VB E _ h xs _ hxs]
 split at hd
 ·rename_i hl
  rw [if_pos hl]
  split at hd
  ·cases hd
  ·rename_i as ls has
   try simp only [has]
   split at hd
   ·rename_i hc
    rw [if_pos hc];simp only [F9,IQ]at hc
    split at hd
    ·rename_i r outs hcall
     try simp only [hcall]
     split at hd
     ·rename_i hz
      rw [if_pos hz];simp only [al]at hd;subst hd
      refine⟨((Kw false _ ?_).trans (Kw true _ ?_)).trans (Bo.putO hdst r),_,rfl,(Mi true _ (Mi false _ h)).putO dst r⟩
      ·intro q hq;simp only [Iy]at hq;obtain⟨L,⟨l,hl',rfl⟩,rfl⟩:=hq;exact hc.1.2 l hl'
      ·intro q hq;have:=(Vd hq).1
       simp only [Iy]at this;obtain⟨l,hl',e⟩:=this;rw [←e];exact hc.1.2 l hl'
     ·cases hd
    ·cases hd
   ·cases hd
 ·rename_i hl
  rw [if_neg hl]
  split at hd
  ·cases hd
  ·rename_i as ls has
   try simp only [has]
   split at hd
   ·rename_i r outs hcall
    try simp only [hcall]
    split at hd
    ·rename_i hsl
     rw [if_pos hsl]
     split at hd
     ·rename_i hc
      rw [if_pos hc];simp only [F9,IQ]at hc;simp only [Cb]at hd;obtain⟨ls',hf,rfl⟩:=hd
      refine⟨(Kw false _ ?_).trans (Bo.putO hdst r),_,by rw [hf];rfl,(Mi false _ h).putO dst r⟩
      intro q hq;have:q.1∈ls.map (·.1):=by rw [←UO hf];exact aE hq
      simp only [Iy]at this;obtain⟨l,hl',e⟩:=this;rw [←e];exact hc.2 l hl'
     ·cases hd
    ·rename_i hsl
     rw [if_neg hsl];simp only [al]at hd;subst hd
     exact⟨Bo.putO hdst r,_,rfl,h.putO dst r⟩
   ·cases hd
end
end Dv
namespace Dv
open Go
def tak:Op→Bool
 | .assign _| .box .. | .build .. | .buildSlice .. | .store .. =>true
 | .call {callee:= .builtin .append, .. }=>true
 |_=>false
section
variable {pm:Pm} {s t s':St} {E:Env}
def D9(pm:Pm)(s t s':St)(r:Option St):Prop:=Bo pm.wr s s'∧ ∃t',r=some t'∧Dr pm.rd s' t'
theorem D9.put(h:Dr pm.rd s t){dst:Option Tmp}(hd: ∀u,dst=some u→pm.wr u=true)(d:D):D9 pm s t (s.putO dst d) (some (t.putO dst d)):=
 ⟨Bo.putO hd d,_,rfl,h.putO dst d⟩
theorem D9.of{α:Type}{r r':Option (α×St)}{x:α}{s1:St}{dst:Option Tmp}(hd: ∀u,dst=some u→pm.wr u=true)(f:α→D)(h:Vz pm s t r r')(hr:r=some (x,s1)):
  D9 pm s t (s1.putO dst (f x)) (r'.map fun q=>q.2.putO dst (f q.1)):=by
 obtain⟨hs,t1,ht,ha⟩:=h _ _ hr
 exact⟨hs.trans (Bo.putO hd _),_,by rw [ht];rfl,ha.putO dst _⟩
theorem fC(h:Dr pm.rd s t){L:AB}(hne:L≠[])(hL:pm.rd (L.headD 0)=true): ∀(ys:List D) (i:Nat),M8 s L i ys=M8 t L i ys:=by
 intro ys
 induction ys with
 |nil=>intro i;rfl
 |cons y ys ih=>intro i;simp only [M8,ih,Mh h hne hL]
theorem fD(h:Dr pm.rd s t){u:Nat}(hu:pm.rd u=true)(i:Nat)(d:D):Na s u i d=Na t u i d:=by
 unfold Na;split
 ·rw [fC h (L:=[u,i]) (by simp) (by simpa using hu)]
 ·exact Mh h (L:=[u]) (by simp) (by simpa using hu) i _
theorem fF(h:Dr pm.rd s t){u:Nat}(hu:pm.rd u=true): ∀ {xs:List D} {i:Nat},Iu s u i xs=Iu t u i xs:=by
 intro xs
 induction xs with
 |nil=>intro i;rfl
 |cons y ys ih=>intro i;simp only [Iu,ih,fD h hu]
theorem SH(h:Dr pm.rd s t){dst:Option Tmp}(hd: ∀u,dst=some u→pm.wr u=true){x:ac}(hx:BK pm.rd x){d:D}(hm: ∀u,x= .tmp u→d.hasObj=true→d.isObj=false→pm.wr u=true):
  D9 pm s t (CU s dst x d) (some (CU t dst x d)):=by
 cases x with
 |tmp u=>
  unfold CU;simp only;split
  ·rw [Qw h (L:=[u]) (hx u rfl)];exact D9.put h hd _
  ·rename_i ho
   split
   ·rename_i ho'
    have hw:=hm u rfl ho' (by simpa using ho)
    have hcl: ∀d',D9 pm s t ((s.clr u).putO dst d') (some ((t.clr u).putO dst d')):=fun d'=>⟨(Bo.clr hw).trans (Bo.putO hd _),_,rfl,(h.clr u).putO dst _⟩;unfold Vh;split
    ·rw [←fF h (hx u rfl)];split
     ·exact hcl _
     ·exact D9.put h hd _
    ·exact hcl _
   ·exact D9.put h hd _
 |_=>exact D9.put h hd _
theorem OV(h:Dr pm.rd s t){dst:Option Tmp}(hd: ∀u,dst=some u→pm.wr u=true){x:ac}(hw:BK pm.wr x){d:D}(ha:BR pm s dst x d=some s'):
  D9 pm s t s' (BR pm t dst x d):=by
 unfold BR at ha ⊢
 cases x with
 |tmp u=>
  simp only at ha ⊢;rw [←jG h]
  split at ha
  ·rename_i htup
   rw [if_pos htup];simp only [Cb]at ha;obtain⟨⟨d1,s1⟩,h1,rfl⟩:=ha;exact D9.of hd (fun x=>x) (Kv d h) h1
  rename_i htup
  rw [if_neg htup]
  split at ha
  ·simp only [Cb]at ha;obtain⟨⟨d1,s1⟩,h1,rfl⟩:=ha;exact D9.of hd (fun x=>x) (Xz h _ _ _) h1
  ·simp only [al]at ha;subst ha;split
   ·exact⟨(Bo.clr (hw u rfl)).trans (Bo.putO hd _),_,rfl,(h.clr u).putO dst _⟩
   ·exact D9.put h hd _
 |_=>
  simp only [al]at ha ⊢;subst ha;exact D9.put h hd _
theorem UQ(h:Dr pm.rd s t){dst:Option Tmp}(hd: ∀u,dst=some u→pm.wr u=true){x:ac}(hx:BK pm.rd x){d:D}{i:Nat}(ha:H9 s dst x d i=some s'):
  D9 pm s t s' (H9 t dst x d i):=by
 unfold H9 at ha ⊢
 split at ha
 ·rename_i u xs
  have hru:=hx u rfl
  split at ha
  ·cases ha
  ·rename_i ys hc
   simp only [Cb]at ha;obtain⟨r,hr,rfl⟩:=ha
   have:(fun j=>FQ s [u,i] j (ys.getD j .undef))=fun j=>FQ t [u,i] j (ys.getD j .undef):=by
    funext j;exact Mh h (by simp) (by simpa using hru) j _
   simp only [hc,←this,hr];exact D9.put h hd _
  ·rename_i c hne hc
   simp only [Cb]at ha;obtain⟨r,hr,rfl⟩:=ha;have:FQ s [u] i c=FQ t [u] i c:=Mh h (by simp) (by simpa using hru) i c
   rw [this]at hr;rw [hr];exact D9.put h hd _
 ·cases ha
theorem Y6{T:Tys}(h:Dr pm.rd s t){dst:Option Tmp}(hd: ∀u,dst=some u→pm.wr u=true){ty:ab}{len:Nat}{parts:Array (Nat×ac)}
  (hps: ∀q∈parts.toList,BK pm.rd q.2∧BK pm.wr q.2)(ho:RZ T pm s dst ty len parts=some s'):D9 pm s t s' (RZ T pm t dst ty len parts):=by
 unfold RZ at ho ⊢
 split at ho
 ·rename_i e hty
  split at ho
  ·rename_i hk
   rw [if_pos hk];simp only [Cb]at ho;obtain⟨⟨ys,s1⟩,hf,rfl⟩:=ho;exact D9.of hd (fun x=>D.own e x) (V9 T _ _ parts.toList _ h hps) hf
  ·cases ho
 ·cases ho
theorem VC{T:Tys}(h:Dr pm.rd s t){dst:Option Tmp}(hd: ∀u,dst=some u→pm.wr u=true){ty:ab}{x:ac}(hx:BK pm.rd x)(hw:BK pm.wr x)
  (ho:MW T pm s dst ty x=some s'):D9 pm s t s' (MW T pm t dst ty x):=by
 unfold MW at ho ⊢;rw [←Bt T h _ hx]
 split at ho
 ·split at ho
  ·rename_i hc
   rw [if_pos hc];simp only [al]at ho;subst ho
   exact D9.put h hd _
  ·cases ho
 split at ho
 ·rename_i d s1 ht
  obtain⟨hs,t1,ht1,ha⟩:=JJ T h ty hx hw _ _ ht;simp only [ht1]
  split at ho
  ·rename_i hc
   rw [if_pos hc];simp only [al]at ho;subst ho
   exact⟨hs.trans (Bo.putO hd _),_,rfl,ha.putO _ _⟩
  ·cases ho
 ·cases ho
theorem VD{T:Tys}(h:Dr pm.rd s t){dst:Option Tmp}(hd: ∀u,dst=some u→pm.wr u=true){op:BinOp}{ty:ab}{x y:ac}(hx:BK pm.rd x)(hy:BK pm.rd y)
  (ho:Gp T pm s dst op ty x y=some s'):D9 pm s t s' (Gp T pm t dst op ty x y):=by
 unfold Gp at ho ⊢;rw [←Bt T h _ hx,←Bt T h _ hy]
 split at ho
 ·simp only [Gl,Cb]at ho;obtain⟨d,he,b,hb,rfl⟩:=ho;simp only [he,DT,←jF h,hb];exact D9.put h hd _
 split at ho
 ·split at ho
  ·rename_i hb
   rw [if_pos hb];simp only [Cb]at ho;obtain⟨r,hr,rfl⟩:=ho;rw [hr];exact D9.put h hd _
  ·cases ho
 ·cases ho
theorem SI{dst:Option Tmp}{s1 t1:St}(q1:Bo pm.wr s s1)(q3:Dr pm.rd s1 t1)(hf:Ee pm s1 dst=some s'):D9 pm s t s' (Ee pm t1 dst):=by
 unfold Ee at hf ⊢
 split at hf
 ·rename_i u
  split at hf
  ·rename_i hc
   rw [if_pos hc];simp only [F9]at hc;simp only [Cb]at hf;obtain⟨c,hfz,rfl⟩:=hf;rw [←(q3 u hc.1).1,hfz]
   exact⟨q1.trans (Bo.set (L:=[u]) (fun _=>hc.2) _),_,rfl,q3.set _ _⟩
  ·cases hf
 ·cases hf
theorem fG{dst:Option Tmp}{s1 t1:St}(q1:Bo pm.wr s s1)(q3:Dr pm.rd s1 t1)(hf:MV pm s1 dst=some s'):D9 pm s t s' (MV pm t1 dst):=by
 unfold MV at hf ⊢
 split at hf
 ·rename_i u
  split at hf
  ·rename_i hc
   rw [if_pos hc];simp only [F9]at hc
   split at hf
   ·rename_i e xs hv
    simp only [Cb]at hf;obtain⟨c,hfz,rfl⟩:=hf;rw [←(q3 u hc.1).1,hv];simp only [hfz,MI]
    exact⟨q1.trans (Bo.set (L:=[u]) (fun _=>hc.2) _),_,rfl,q3.set _ _⟩
   ·cases hf
  ·cases hf
 ·cases hf
theorem jJ{dst:Option Tmp}{u:Tmp}{s1 t1:St}(q1:Bo pm.wr s s1)(q3:Dr pm.rd s1 t1)(hf:XX pm s1 dst u=some s'):D9 pm s t s' (XX pm t1 dst u):=by
 unfold XX at hf ⊢
 split at hf
 ·rename_i d
  split at hf
  ·rename_i hr
   rw [if_pos hr,←(q3 d hr).1]
   split at hf
   ·rename_i b hv
    split at hf
    ·rename_i hb
     rw [if_pos hb];simp only [al]at hf;subst hf
     exact⟨q1,_,rfl,q3⟩
    ·rename_i hb
     rw [if_neg hb];unfold Ee at hf ⊢;simp only at hf ⊢
     split at hf
     ·rename_i hc
      rw [if_pos hc];simp only [F9]at hc;simp only [Cb]at hf;obtain⟨c,hfz,rfl⟩:=hf;rw [←(q3 u hc.1).1,hfz]
      exact⟨q1.trans (Bo.set (L:=[u]) (fun _=>hc.2) _),_,rfl,q3.set _ _⟩
     ·cases hf
   ·cases hf
  ·cases hf
 ·cases hf
theorem nG{o:Oper}(h:Dr pm.rd s t)(hd: ∀u,o.dst=some u→pm.wr u=true)(hx: ∀x∈o.op.operands.toList,BK pm.rd x)
  (hw:tak o.op=true→ ∀x∈o.op.operands.toList,BK pm.wr x)(hm:ZJ pm s o=true)(ho:mR E pm s o=some s'):D9 pm s t s' (mR E pm t o):=by
 unfold mR at ho ⊢
 cases hop:o.op<;>simp only [hop]at ho hx hw ⊢
 case move x=>
  rw [←Bt E.T h _ (hx x (by simp [Op.operands]))]
  simp only [Cb]at ho;obtain⟨d,he,rfl⟩:=ho;rw [he];refine SH h hd (hx x (by simp [Op.operands])) (fun u hu h1 h2=> ?_)
  subst hu;simp only [ev,al]at he;subst he;simp only [ZJ,hop,MQ,Kg,h1,h2]at hm;simpa using hm
 case assign x=>
  rw [←Bt E.T h _ (hx x (by simp [Op.operands]))]
  simp only [Gl]at ho;obtain⟨d,he,ha⟩:=ho;rw [he,DT]
  split at ha
  ·rename_i htg
   rw [if_pos htg];simp only [Gl]at ha;obtain⟨s1,ha,hf⟩:=ha;obtain⟨q1,t1,q2,q3⟩:=OV h hd (hw rfl x (by simp [Op.operands])) ha
   rw [q2,DT];unfold Ee at hf ⊢
   split at hf
   ·rename_i u _
    split at hf
    ·rename_i hc
     rw [if_pos hc];simp only [F9]at hc;simp only [Cb]at hf;obtain⟨c,hfz,rfl⟩:=hf;rw [←(q3 u hc.1).1,hfz]
     exact⟨q1.trans (Bo.set (L:=[u]) (fun _=>hc.2) _),_,rfl,q3.set _ _⟩
    ·cases hf
   ·cases hf
  ·rename_i htg
   rw [if_neg htg];exact OV h hd (hw rfl x (by simp [Op.operands])) ha
 case nilCheck x=>
  rw [←Bt E.T h _ (hx x (by simp [Op.operands]))]
  simp only [Gl]at ho;obtain⟨d,he,ha⟩:=ho;rw [he];have key:(d.hasObj=false∨d.isObj=true)→D9 pm s t (CU s o.dst x d) (some (CU t o.dst x d)):=fun hq=>SH h hd (hx x (by simp [Op.operands])) (d:=d) (fun u hu h1 h2=>by rcases hq with hq|hq<;>simp_all)
  simp only [DT,←E9 h]
  split at ha
  ·simp only [al]at ha;subst ha;exact key (.inr rfl)
  ·split at ha
   ·rename_i hl;simp only [al]at ha;subst ha;exact key (.inl rfl)
   ·cases ha
  ·split at ha
   ·rename_i hl;simp only [al]at ha;subst ha;exact key (.inl rfl)
   ·cases ha
  ·simp only [al]at ha;subst ha;exact key (.inl rfl)
  ·simp only [al]at ha;subst ha;exact key (.inl rfl)
  ·simp only [al]at ha;subst ha;exact key (.inl rfl)
  ·cases ha
 case pick c x y=>
  rw [←Bt E.T h _ (hx c (by simp [Op.operands])),←Bt E.T h _ (hx x (by simp [Op.operands])),←Bt E.T h _ (hx y (by simp [Op.operands]))]
  split at ho
  ·rename_i tb dx dy _ _ _
   by_cases hn:(if tb=true then dx else dy).hasObj=true
   ·rw [if_pos hn]at ho;cases ho
   ·rw [if_neg hn]at ho;rw [if_neg hn];simp only [al]at ho;subst ho
    exact D9.put h hd _
  ·cases ho
 case alloc ty=>
  split at ho
  ·rename_i hk;rw [if_pos hk];simp only [al]at ho;subst ho;exact D9.put h hd _
  ·cases ho
 case box ty x=>
  have hxr:=hx x (by simp [Op.operands])
  have hxw:=hw rfl x (by simp [Op.operands])
  split at ho
  ·rename_i htg
   rw [if_pos htg];simp only [Gl]at ho;obtain⟨s1,ha,hf⟩:=ho;obtain⟨q1,t1,q2,q3⟩:=VC (T:=E.T) h hd hxr hxw ha;rw [q2,DT];unfold Ee at hf ⊢
   split at hf
   ·rename_i u _
    split at hf
    ·rename_i hc
     rw [if_pos hc];simp only [F9]at hc;simp only [Cb]at hf;obtain⟨c,hfz,rfl⟩:=hf;rw [←(q3 u hc.1).1,hfz]
     exact⟨q1.trans (Bo.set (L:=[u]) (fun _=>hc.2) _),_,rfl,q3.set _ _⟩
    ·cases hf
   ·cases hf
  ·rename_i htg
   rw [if_neg htg];exact VC (T:=E.T) h hd hxr hxw ho
 case build ty parts=>
  split at ho
  ·rename_i fl hn
   split at ho
   ·rename_i hk
    rw [if_pos hk];simp only [Cb]at ho;obtain⟨⟨ys,s1⟩,hf,rfl⟩:=ho;exact D9.of hd (fun x=>D.agg x) (eZ E.T _ parts.toList _ h (fun q hq=>⟨hx q.2 (by simp [Op.operands];exact⟨q.1,by simpa using hq⟩),hw rfl q.2 (by simp [Op.operands];exact⟨q.1,by simpa using hq⟩)⟩)) hf
   ·cases ho
  split at ho
  ·rename_i fs hty
   split at ho
   ·rename_i hk
    rw [if_pos hk];simp only [Cb]at ho;obtain⟨⟨ys,s1⟩,hf,rfl⟩:=ho;exact D9.of hd (fun x=>D.agg x) (V9 E.T _ 1 parts.toList _ h (fun q hq=>⟨hx q.2 (by simp [Op.operands];exact⟨q.1,by simpa using hq⟩),hw rfl q.2 (by simp [Op.operands];exact⟨q.1,by simpa using hq⟩)⟩)) hf
   ·cases ho
  ·cases ho
 case buildSlice ty len parts=>
  have hps: ∀q∈parts.toList,BK pm.rd q.2∧BK pm.wr q.2:=fun q hq=>⟨hx q.2 (by simp [Op.operands];exact⟨q.1,by simpa using hq⟩),hw rfl q.2 (by simp [Op.operands];exact⟨q.1,by simpa using hq⟩)⟩
  split at ho
  ·rename_i htg
   rw [if_pos htg];simp only [Gl]at ho;obtain⟨s1,ha,hf⟩:=ho;obtain⟨q1,t1,q2,q3⟩:=Y6 (T:=E.T) h hd hps ha;rw [q2,DT];unfold MV at hf ⊢
   split at hf
   ·rename_i u _
    split at hf
    ·rename_i hc
     rw [if_pos hc];simp only [F9]at hc
     split at hf
     ·rename_i e xs hv
      simp only [Cb]at hf;obtain⟨c,hfz,rfl⟩:=hf;rw [←(q3 u hc.1).1,hv];simp only [hfz,MI]
      exact⟨q1.trans (Bo.set (L:=[u]) (fun _=>hc.2) _),_,rfl,q3.set _ _⟩
     ·cases hf
    ·cases hf
   ·cases hf
  ·rename_i htg
   rw [if_neg htg];exact Y6 (T:=E.T) h hd hps ho
 case load ty x=>
  have hxi:=hx x (by simp [Op.operands])
  rw [←Bt E.T h _ hxi];simp only [Gl,Cb]at ho;obtain⟨d,he,r,hl,rfl⟩:=ho;rw [he,DT,←Ze E.T h ty hxi,hl];exact D9.put h hd _
 case store ty ax x=>
  split at ho
  ·rename_i hn
   rw [if_pos hn]
   split at ho
   ·rename_i htg
    rw [if_pos htg];exact OU E.T ty (hx ax (by simp [Op.operands])) (VA E.T h ty (hx x (by simp [Op.operands])) (hw rfl x (by simp [Op.operands]))) ho
   rename_i htg
   rw [if_neg htg]
   split at ho
   ·rename_i htg
    rw [if_pos htg];exact fA E.T h ty (hx x (by simp [Op.operands])) ho
   rename_i htg
   rw [if_neg htg]
   split at ho
   ·rename_i htg
    rw [if_pos htg];simp only [Gl]at ho;obtain⟨s1,ha,hf⟩:=ho;obtain⟨q1,t1,q2,q3⟩:=QH E.T h ty (hx x (by simp [Op.operands])) (hw rfl x (by simp [Op.operands])) (hx ax (by simp [Op.operands])) ha
    rw [q2,DT];exact SI q1 q3 hf
   ·rename_i htg
    rw [if_neg htg];exact QH E.T h ty (hx x (by simp [Op.operands])) (hw rfl x (by simp [Op.operands])) (hx ax (by simp [Op.operands])) ho
  ·cases ho
 case binOp op ty x y ty'=>
  split at ho
  ·rename_i htg
   rw [if_pos htg];exact VD h hd (hx x (by simp [Op.operands])) (hx y (by simp [Op.operands])) ho
  ·rename_i htg
   rw [if_neg htg];simp only [Gl]at ho;obtain⟨s1,ha,hf⟩:=ho;obtain⟨q1,t1,q2,q3⟩:=VD h hd (hx x (by simp [Op.operands])) (hx y (by simp [Op.operands])) ha
   rw [q2,DT];exact jJ q1 q3 hf
 case unOp op ty x=>
  rw [←Bt E.T h _ (hx x (by simp [Op.operands]))]
  simp only [Gl,Cb]at ho;obtain⟨d,he,r,hl,rfl⟩:=ho;rw [he,DT,hl];exact D9.put h hd _
 case convert src dst x=>
  split at ho
  ·rename_i hk
   rw [if_pos hk,←Bt E.T h _ (hx x (by simp [Op.operands]))]
   split at ho
   ·simp only [al]at ho;subst ho;exact D9.put h hd _
   ·simp only [al]at ho;subst ho;exact D9.put h hd _
   ·cases ho
  ·cases ho
 case makeFunc fn first captured=>
  cases fn<;>simp only at ho ⊢ <;>try (cases ho;done)
  rename_i f
  split at ho
  ·rename_i hty
   rw [if_pos hty]
   split at ho
   ·rename_i hfe
    rw [if_pos hfe];simp only [Cb]at ho;obtain⟨⟨ys,s1⟩,hc,rfl⟩:=ho;exact D9.of hd (fun x=>D.clo f x) (Y4 captured.toList h (fun x hx'=>hx x (by simp [Op.operands];right;simpa using hx'))) hc
   ·cases ho
  ·rename_i hty
   rw [if_neg hty]
   split at ho
   ·rename_i hfe
    rw [if_pos hfe];simp only [Cb]at ho;obtain⟨⟨ys,s1⟩,hc,rfl⟩:=ho;exact D9.of hd (fun x=>D.ocl false f x) (jH _ captured.toList h (fun x hx'=>hx x (by simp [Op.operands];right;simpa using hx'))) hc
   ·cases ho
 case makeSlice ty l c=>
  have key: ∀s1,UI E.T s o.dst ty l c=some s1→D9 pm s t s1 (UI E.T t o.dst ty l c):=by
   intro s1 ho;unfold UI at ho ⊢;rw [←Bt E.T h _ (hx l (by simp [Op.operands])),←Bt E.T h _ (hx c (by simp [Op.operands]))]
   split at ho
   ·simp only [Cb]at ho;obtain⟨r,hr,rfl⟩:=ho;rw [hr];exact D9.put h hd _
   ·cases ho
  split at ho
  ·rename_i htg
   rw [if_pos htg];simp only [Gl]at ho;obtain⟨s1,ha,hf⟩:=ho;obtain⟨q1,t1,q2,q3⟩:=key s1 ha;rw [q2,DT];exact fG q1 q3 hf
  ·rename_i htg
   rw [if_neg htg];exact key _ ho
 case slice ty x lo hi mx=>
  have hxi:=hx x (by simp [Op.operands])
  split at ho
  ·rename_i htg
   rw [if_pos htg]
   split at ho
   ·rename_i hlm
    rw [if_pos hlm];simp only [Cb]at ho;obtain⟨⟨r,s1⟩,hl,rfl⟩:=ho;exact D9.of hd (fun x=>x) (ed E.T h ty hxi (fun o ho=>hx o (by simp [Op.operands,ho]))) hl
   ·cases ho
  rename_i htg
  rw [if_neg htg]
  split at ho
  ·rename_i htg
   rw [if_pos htg]
   split at ho
   ·rename_i hlm
    rw [if_pos hlm];simp only [Cb]at ho;obtain⟨⟨r,s1⟩,hl,rfl⟩:=ho;exact D9.of hd (fun x=>x) (Zg E.T h ty hxi (fun o ho=>hx o (by simp [Op.operands,ho]))) hl
   ·cases ho
  rename_i htg
  rw [if_neg htg];rw [←Bt E.T h _ hxi];simp only [Gl,Cb]at ho;obtain⟨d,he,⟨r,s1⟩,hl,rfl⟩:=ho;rw [he,DT]
  have hloc:Vz pm s t (H8 E.T (if o.type=900001 then pm.see else pm) s ty x d lo hi mx) (H8 E.T (if o.type=900001 then pm.see else pm) t ty x d lo hi mx):=by
   split
   ·intro d1 s2 hd1;obtain⟨q1,q2⟩:=QG (pm:=pm.see) E.T h ty hxi d (fun o ho=>hx o (by simp [Op.operands,ho])) (fun o ho=>hx o (by simp [Op.operands,ho])) (fun o ho=>hx o (by simp [Op.operands,ho])) d1 s2 hd1
    exact⟨fun r _=>q1 r rfl,q2⟩
   ·exact QG E.T h ty hxi d (fun o ho=>hx o (by simp [Op.operands,ho])) (fun o ho=>hx o (by simp [Op.operands,ho])) (fun o ho=>hx o (by simp [Op.operands,ho]))
  exact D9.of hd (fun x=>x) hloc hl
 case fieldAddr ty x i=>
  have hxi:=hx x (by simp [Op.operands])
  rw [←Bt E.T h _ hxi];simp only [Gl,Cb]at ho;obtain⟨d,he,r,hl,rfl⟩:=ho;rw [he,DT,←Qd E.T h ty hxi,hl];exact D9.put h hd _
 case indexAddr ty x i=>
  have hxi:=hx x (by simp [Op.operands])
  rw [←Bt E.T h _ hxi,←Bt E.T h _ (hx i (by simp [Op.operands]))]
  split at ho
  ·simp only [Cb]at ho;obtain⟨r,hr,rfl⟩:=ho;simp only [←jD E.T h ty hxi,hr];exact D9.put h hd _
  ·cases ho
 case makeMap ty r=>
  split at ho
  ·rename_i hr0
   rw [if_pos hr0];simp only [Cb]at ho;obtain⟨r,hr,rfl⟩:=ho;rw [hr];exact D9.put h hd _
  ·cases ho
 case lookup ty x i ok=>
  rw [←Bt E.T h _ (hx x (by simp [Op.operands])),←Bt E.T h _ (hx i (by simp [Op.operands]))]
  split at ho
  ·simp only [Cb]at ho;obtain⟨r,hr,rfl⟩:=ho;simp only [←Vy E.T h ty,hr];exact D9.put h hd _
  ·cases ho
 case mapUpdate ty x i v=>
  split at ho
  ·rename_i hn
   rw [if_pos hn,←Bt E.T h _ (hx x (by simp [Op.operands])),←Bt E.T h _ (hx i (by simp [Op.operands])),←Bt E.T h _ (hx v (by simp [Op.operands]))]
   split at ho
   ·exact Y3 E.T h ty x _ _ _ ho
   ·cases ho
  ·cases ho
 case extract x i=>
  rw [←Bt E.T h _ (hx x (by simp [Op.operands]))]
  simp only [Gl]at ho;obtain⟨d,he,ha⟩:=ho;rw [he];exact UQ h hd (hx x (by simp [Op.operands])) ha
 case call c=>
  have hargs: ∀x∈c.args.toList,BK pm.rd x:=fun x hx'=>hx x (by simp only [Op.operands,Call.operands];simp;right;simpa using hx')
  have hzip: ∀q∈c.args.toList.zip c.argTypes.toList,BK pm.rd q.1:=fun q hq=>hargs q.1 (Vd hq).1
  cases hcal:c.callee<;>simp only [hcal]at ho ⊢
  case builtin b=>
   cases b<;>simp only at ho ⊢
   case len=>
    split at ho
    ·rename_i x ty hargs' hts
     have hxi:=hargs x (by rw [hargs'];simp)
     rw [←Bt E.T h _ hxi];simp only [Gl,Cb]at ho;obtain⟨d,he,r,hr,rfl⟩:=ho;rw [he,DT,←eY E.T h ty hxi,hr];exact D9.put h hd _
    ·cases ho
   case append=>
    split at ho
    ·rename_i x y ty ty' hargs' hts
     split at ho
     ·rename_i htt
      rw [if_pos htt];simp only [Cb]at ho;obtain⟨⟨r,s1⟩,hr,rfl⟩:=ho;have hwa: ∀x∈c.args.toList,BK pm.wr x:=fun x hx'=>hw (by obtain⟨cal,_,_⟩:=c;simp only at hcal;subst hcal;rfl) x (by simp only [Op.operands,Call.operands];simp;right;simpa using hx')
      rw [←Bt E.T h ty (hargs y (by rw [hargs'];simp))]
      by_cases hz:yN (ev E.T s ty y)=true
      ·simp only [hz,if_true]at hr ⊢;exact D9.of hd (fun x=>x) (Zh E.T h ty (hargs x (by rw [hargs'];simp)) (hwa x (by rw [hargs'];simp))) hr
      ·simp only [hz]at hr ⊢;exact D9.of hd (fun x=>x) (W9 E.T h ty (hargs x (by rw [hargs'];simp)) (hwa x (by rw [hargs'];simp)) (hargs y (by rw [hargs'];simp)) (hwa y (by rw [hargs'];simp))) hr
     ·cases ho
    ·cases ho
   case min=>
    split at ho
    ·rename_i x y ty ty' hargs' hts
     rw [←Bt E.T h ty (hargs x (by rw [hargs'];simp)),←Bt E.T h ty' (hargs y (by rw [hargs'];simp))]
     split at ho
     ·rename_i da db hea heb
      simp only [Cb]at ho;obtain⟨r,hr,rfl⟩:=ho;rw [hr];exact D9.put h hd _
     ·cases ho
    ·cases ho
   case max=>
    split at ho
    ·rename_i x y ty ty' hargs' hts
     rw [←Bt E.T h ty (hargs x (by rw [hargs'];simp)),←Bt E.T h ty' (hargs y (by rw [hargs'];simp))]
     split at ho
     ·rename_i da db hea heb
      simp only [Cb]at ho;obtain⟨r,hr,rfl⟩:=ho;rw [hr];exact D9.put h hd _
     ·cases ho
    ·cases ho
   case clear=>
    split at ho
    ·rename_i x ty hargs' hts
     rw [←Bt E.T h ty (hargs x (by rw [hargs'];simp))]
     simp only [Gl,Cb]at ho;obtain⟨da,hea,⟨r,s1⟩,hr,rfl⟩:=ho;rw [hea,DT];exact D9.of hd (fun x=>x) (Y2 E.T h ty (hargs x (by rw [hargs'];simp)) da) hr
    ·cases ho
   case copy=>
    split at ho
    ·rename_i x y ty ty' hargs' hts
     rw [←Bt E.T h ty (hargs x (by rw [hargs'];simp)),←Bt E.T h ty (hargs y (by rw [hargs'];simp))]
     split at ho
     ·rename_i da db hea heb
      simp only [Cb]at ho;obtain⟨⟨r,s1⟩,hr,rfl⟩:=ho;exact D9.of hd (fun x=>x) (Zf E.T h ty (hargs x (by rw [hargs'];simp)) (hargs y (by rw [hargs'];simp)) da db) hr
     ·cases ho
    ·cases ho
   all_goals (cases ho)
  case value fo=>
   cases fo<;>simp only at ho ⊢
   case func f=>
    split at ho
    ·rename_i hsz
     rw [if_pos hsz]
     split at ho
     ·rename_i hty
      rw [if_pos hty];obtain⟨s1,h1,h2⟩:=Gl.1 ho;obtain⟨q1,t1,q2,q3⟩:=Pi h hd (fun q hq=>hargs q.1 (Vd hq).1) h1;rw [q2];exact SI q1 q3 h2
     ·rename_i hty
      rw [if_neg hty];exact Pi h hd (fun q hq=>hargs q.1 (Vd hq).1) ho
    ·cases ho
   case tmp u=>
    rw [←(h u (hx (.tmp u) (by simp [Op.operands,Call.operands,hcal]) u rfl)).1]
    split at ho
    ·split at ho
     ·rename_i hsz
      rw [if_pos hsz];exact Pi h hd hzip ho
     ·cases ho
    ·split at ho
     ·rename_i hsz
      rw [if_pos hsz];exact fB h hd hzip ho
     ·cases ho
    ·cases ho
   all_goals (cases ho)
  all_goals (cases ho)
 all_goals (cases ho)
theorem fH{ops:Array Oper}(h:Dr pm.rd s t){o:Oper}(hg: ∀j b u,o.guard=some (j,b)→(ops[j]?).bind (·.dst)=some u→pm.rd u=true):Kl ops s o=Kl ops t o:=by
 unfold Kl;split
 ·rfl
 ·rename_i j b hgd
  cases hj:(ops[j]?).bind (·.dst)with
  |none=>rfl
  |some u=>simp only;rw [(h u (hg j b u hgd hj)).1]
def MB(E:Env)(ops:Array Oper)(pm:Pm)(s:St)(o:Oper):Option St:=if ZJ pm s o then IV E ops pm s (Rb E.lends ops.toList o)else none
theorem fI{ops:Array Oper}{o:Oper}(h:Dr pm.rd s t)(hd: ∀u,o.dst=some u→pm.wr u=true)(hx: ∀x∈o.op.operands.toList,BK pm.rd x)
  (hw:tak o.op=true→ ∀x∈o.op.operands.toList,BK pm.wr x)(hg: ∀j b u,o.guard=some (j,b)→(ops[j]?).bind (·.dst)=some u→pm.rd u=true)
  (ho:MB E ops pm s o=some s'):D9 pm s t s' (MB E ops pm t o):=by
 unfold MB at ho ⊢
 split at ho
 ·rename_i hm
  have hmt:ZJ pm t o=true:=by
   unfold ZJ at hm ⊢;split
   ·rename_i u hu
    simp only [hu]at hm;rw [←(h u (hx (.tmp u) (by simp [hu,Op.operands]) u rfl)).1];exact hm
   ·rfl
  rw [if_pos hmt];unfold IV at ho ⊢;have hwd: ∀q,Kl ops q (Rb E.lends ops.toList o)=Kl ops q o:=fun _=>rfl;rw [hwd]at ho ⊢;rw [←fH h hg]
  split at ho
  ·exact nG (o:=Rb E.lends ops.toList o) h hd hx hw hm ho
  ·simp only [al]at ho;subst ho;exact D9.put h hd _
  ·cases ho
 ·cases ho
end
end Dv
namespace Dv
open Go
theorem St.eq_of{s t:St}(h: ∀r,s.v r=t.v r∧s.k r=t.k r∧s.m r=t.m r):s=t:=by
 obtain⟨v,k,m⟩:=s;obtain⟨v',k',m'⟩:=t;have h1:v=v':=funext fun r=>(h r).1;have h2:k=k':=funext fun r=>(h r).2.1;have h3:m=m':=funext fun r=>(h r).2.2
 subst h1 h2 h3;rfl
section
variable {E:Env} {ops:Array Oper} {l:List Oper} {lends:am→Bool}
theorem Mj{o:Oper}{u:Nat}:u∈F8 o↔Operand.tmp u∈o.op.operands.toList:=by
 simp only [F8,List.mem_filterMap]
 constructor
 ·rintro⟨x,hx,hu⟩
  cases x<;>simp at hu
  subst hu;exact hx
 ·intro h;exact⟨_,h,rfl⟩
theorem DV{o:Oper}{u:Nat}(h:o.dst=some u):u∈F7 l o:=by
 simp [F7,h]
theorem Gt{o:Oper}{u:Nat}(h:u∈F8 o):u∈F7 l o:=by
 simp [F7,h]
theorem Zj{o:Oper}{u:Nat}(h:o.dst=some u):u∈EB lends l o:=by
 unfold EB;split
 ·split
  ·simp [h]
  ·exact DV h
 split
 ·simp [h]
 ·split
  ·simp [h]
  ·simp [h]
  ·split
   ·simp [h]
   ·split<;>simp [h]
  ·simp [h]
  ·simp [h]
  ·split
   ·simp [h]
   ·exact DV h
  ·split
   ·simp [h]
   ·exact DV h
  ·split
   ·simp [h]
   ·exact DV h
  ·exact DV h
theorem Lh{o:Oper}{r:Nat}(h:r∈EB lends l o):r∈F7 l o:=by
 unfold EB at h
 split at h
 ·split at h
  ·unfold F7;simp only [LV]at h ⊢;rcases h with(h|h)|h<;>simp [h]
  ·exact h
 split at h
 ·exact DV (by simpa using h)
 ·split at h
  ·rename_i u hu
   simp only [LV]at h;rcases h with h|h
   ·exact DV (by simpa using h)
   ·split at h
    ·simp only [List.mem_singleton]at h;subst h;exact Gt (Mj.2 (by simp [hu,Op.operands]))
    ·cases h
  ·exact DV (by simpa using h)
  ·rename_i hop
   split at h
   ·rcases LV.1 h with h|h
    ·unfold F7;simp only [LV]at h ⊢;rcases h with(h|h)|h<;>simp [h]
    ·obtain⟨u,hu,rfl⟩:=Iy.1 h;have hu:=(aw.1 hu).1;unfold F7 Qu;rw [hop];simp only [LV,Iy];exact .inl (.inr ⟨u,hu,rfl⟩)
   ·split at h
    ·rcases LV.1 h with h|h
     ·exact DV (by simpa using h)
     ·exact Gt h
    ·exact DV (by simpa using h)
  ·rename_i hop
   rcases LV.1 h with h|h
   ·rcases LV.1 h with h|h
    ·exact DV (by simpa using h)
    ·exact Gt h
   ·obtain⟨u,hu,rfl⟩:=Iy.1 h;have hu:=(aw.1 hu).1;unfold F7 Qu;rw [hop];simp only [LV,Iy];exact .inl (.inr ⟨u,hu,rfl⟩)
  ·rename_i hop
   rcases LV.1 h with h|h
   ·rcases LV.1 h with h|h
    ·exact DV (by simpa using h)
    ·exact Gt h
   ·obtain⟨u,hu,rfl⟩:=Iy.1 h;have hu:=(aw.1 hu).1;unfold F7 Qu;rw [hop];simp only [LV,Iy];exact .inl (.inr ⟨u,hu,rfl⟩)
  ·split at h
   ·rcases LV.1 h with h|h
    ·exact DV (by simpa using h)
    ·exact Gt h
   ·exact h
  ·split at h
   ·exact DV (by simpa using h)
   ·exact h
  ·split at h
   ·rcases LV.1 h with h|h
    ·exact DV (by simpa using h)
    ·exact Gt h
   ·exact h
  ·exact h
theorem Zk{o:Oper}(h:tak o.op=true){u:Nat}(hu:u∈F8 o):u∈EB lends l o:=by
 have hn:u∈F7 l o:=Gt hu;unfold EB;split
 ·split
  ·exact List.mem_append_right _ hu
  ·exact hn
 cases hop:o.op<;>simp only [hop,tak]at h<;>try (cases h;done)
 all_goals (try (simp [Op.calm,hn,hu];done))
 ·simp only [Op.calm,Ik,if_false];split
  ·exact List.mem_append_right _ hu
  ·exact hn
 rename_i c
 obtain⟨cal,_,_⟩:=c
 cases cal with
 |builtin b=>cases b<;>first|(simp [Op.calm,hn];done)|(cases h;done)|(simp only [Op.calm,Ik,if_false];split<;>simp [hn,hu])
 |_=>cases h
theorem OW{o:Oper}{r:Nat}(h:r∈F7 l o):(Hr lends l o).rd r=true:=by
 simp [Hr,h]
theorem Ju{o:Oper}{r:Nat}:(Hr lends l o).wr r=true↔r∈EB lends l o:=by
 simp [Hr]
theorem Mk(hl:l=ops.toList){s t s':St}{o:Oper}(h:Dr (Hr E.lends l o).rd s t)(ho:MB E ops (Hr E.lends l o) s o=some s'):
  D9 (Hr E.lends l o) s t s' (MB E ops (Hr E.lends l o) t o):=by
 refine fI h (fun u hu=>Ju.2 (Zj hu)) (fun x hx u hu=>OW (Gt (Mj.2 (hu▸hx)))) (fun ht x hx u hu=>Ju.2 ?_) (fun j b u hg hj=>OW ?_) ho
 ·exact Zk ht (Mj.2 (hu▸hx))
 ·have hj':(l[j]?).bind (·.dst)=some u:=by rw [hl];simpa using hj
  simp [F7,hg,hj']
theorem QJ{a b:List Nat}(h:bN a b=false): ∀r,r∈a→r ∉ b:=by
 intro r hr hb;simp only [bN,List.any_eq_false,VZ]at h;exact h r hr hb
theorem jK{s s1:St}{oi oj:Oper}(hj:oj∈l)(hs:Bo (Hr lends l oj).wr s s1)(hm: ∀r,r∈EB lends l oj→r ∉ F7 l oi):Dr (Hr lends l oi).rd s1 s:=by
 intro r hr
 have hnw:(Hr lends l oj).wr r=false:=by
  cases hw:(Hr lends l oj).wr r with
  |false=>rfl
  |true=>
   rw [Ju]at hw;have h1:=hm r hw;have h2:r∈l.flatMap (EB lends l):=List.mem_flatMap.2 ⟨oj,hj,hw⟩;simp only [Hr,MQ,VZ,Kg]at hr;rcases hr with hr|hr
   ·exact(h1 hr).elim
   ·rw [←Bool.not_eq_true,VZ]at hr
    exact(hr h2).elim
 exact hs r hnw
theorem Dr.symm{A:Nat→Bool}{s t:St}(h:Dr A s t):Dr A t s:=fun r hr=>⟨(h r hr).1.symm,(h r hr).2.1.symm,(h r hr).2.2.symm⟩
theorem Dr.refl{A:Nat→Bool}{s:St}:Dr A s s:=fun _ _=>⟨rfl,rfl,rfl⟩
theorem swap(hl:l=ops.toList){s s1 s2:St}{oi oj:Oper}(hi:oi∈l)(hj:oj∈l)(h1: ∀r,r∈EB E.lends l oj→r ∉ F7 l oi)(h2: ∀r,r∈EB E.lends l oi→r ∉ F7 l oj)
  (a:MB E ops (Hr E.lends l oj) s oj=some s1)(b:MB E ops (Hr E.lends l oi) s1 oi=some s2):
  ∃t1,MB E ops (Hr E.lends l oi) s oi=some t1∧MB E ops (Hr E.lends l oj) t1 oj=some s2:=by
 have sj:=(Mk hl Dr.refl a).1;obtain⟨si,t1,e1,a1⟩:=Mk hl (jK hj sj h1) b;have si':=(Mk hl Dr.refl e1).1;obtain⟨_,t2,e2,a2⟩:=Mk hl (jK hi si' h2).symm a;have sj':=(Mk hl Dr.refl e2).1
 refine⟨t1,e1, ?_⟩
 rw [e2]
 congr 1
 refine St.eq_of fun r=> ?_;by_cases hwi:r∈EB E.lends l oi
 ·have hnj:(Hr E.lends l oj).wr r=false:=by
   cases hw:(Hr E.lends l oj).wr r with
   |false=>rfl
   |true=>exact(h1 r (Ju.1 hw) (Lh hwi)).elim
  obtain⟨p1,p2,p3⟩:=sj' r hnj;obtain⟨q1,q2,q3⟩:=a1 r (OW (Lh hwi))
  exact⟨p1.trans q1.symm,p2.trans q2.symm,p3.trans q3.symm⟩
 ·have hni:(Hr E.lends l oi).wr r=false:=by
   cases hw:(Hr E.lends l oi).wr r with
   |false=>rfl
   |true=>exact(hwi (Ju.1 hw)).elim
  obtain⟨p1,p2,p3⟩:=si r hni;by_cases hwj:r∈EB E.lends l oj
  ·obtain⟨q1,q2,q3⟩:=a2 r (OW (Lh hwj))
   exact⟨(p1.trans q1).symm,(p2.trans q2).symm,(p3.trans q3).symm⟩
  ·have hnj:(Hr E.lends l oj).wr r=false:=by
    cases hw:(Hr E.lends l oj).wr r with
    |false=>rfl
    |true=>exact(hwj (Ju.1 hw)).elim
   obtain⟨q1,q2,q3⟩:=sj r hnj;obtain⟨u1,u2,u3⟩:=sj' r hnj;obtain⟨x1,x2,x3⟩:=si' r hni
   exact⟨(u1.trans x1).trans (p1.trans q1).symm,(u2.trans x2).trans (p2.trans q2).symm,(u3.trans x3).trans (p3.trans q3).symm⟩
def yc(E:Env)(ops:Array Oper)(l:List Oper)(s:St)(i:Nat):Option St:=
 match ops[i]? with
 |some o=>MB E ops (Hr E.lends l o) s o
 |none=>none
def SK(E:Env)(ops:Array Oper)(l:List Oper):St→List Nat→Option St
 |s,[]=>some s
 |s,i::is=>(yc E ops l s i).bind fun s'=>SK E ops l s' is
theorem Zl: ∀(q:List Oper) (k:Nat) (s:St),ops.toList.drop k=q→Nb E ops l s q=SK E ops l s (List.range' k q.length):=by
 intro q
 induction q with
 |nil=>intro k s _;rfl
 |cons o q ih=>
  intro k s hq
  have hk:ops[k]? =some o:=by
   have:(ops.toList.drop k)[0]? =some o:=by rw [hq];rfl
   rw [MG]at this;simpa using this
  have hd:ops.toList.drop (k+1)=q:=by rw [←List.drop_drop,hq];rfl
  simp only [Nb,NU,List.range'_succ,SK,yc,hk,MB];split
  ·cases IV E ops (Hr E.lends l o) s (Rb E.lends ops.toList o)with
   |none=>rfl
   |some s1=>simp only [DT];exact ih (k+1) s1 hd
  ·rfl
def A1n(lends:am→Bool)(ops:Array Oper)(l:List Oper)(j i:Nat):Prop:=
 ∀oi oj,ops[i]? =some oi→ops[j]? =some oj→(∀r,r∈EB lends l oj→r ∉ F7 l oi)∧(∀r,r∈EB lends l oi→r ∉ F7 l oj)
theorem Zm(hl:l=ops.toList){i:Nat}{post:List Nat}: ∀(pre:List Nat) {s s':St},(∀j∈pre,A1n E.lends ops l j i)→SK E ops l s (pre++i::post)=some s'→
  ∃t,yc E ops l s i=some t∧SK E ops l t (pre++post)=some s':=by
 intro pre
 induction pre with
 |nil=>
  intro s s' _ h;simp only [UE,SK,Gl]at h;exact h
 |cons j pre ih=>
  intro s s' hf h;simp only [PR,SK,Gl]at h;obtain⟨s1,e1,h⟩:=h;obtain⟨s2,e2,h⟩:=ih (fun j' hj'=>hf j' (JG _ hj')) h;unfold yc at e1 e2
  cases hj:ops[j]? with
  |none=>simp [hj]at e1
  |some oj=>
   cases hi:ops[i]? with
   |none=>simp [hi]at e2
   |some oi=>
    simp only [hj]at e1;simp only [hi]at e2;obtain⟨f1,f2⟩:=hf j (Ke) oi oj hi hj;have mi:oi∈l:=by rw [hl];exact UB (i:=i) (by simpa using hi)
    have mj:oj∈l:=by rw [hl];exact UB (i:=j) (by simpa using hj)
    obtain⟨t1,g1,g2⟩:=swap hl mi mj f1 f2 e1 e2
    refine⟨t1,by simp [yc,hi,g1], ?_⟩
    simp only [PR,SK,yc,hj,g2,DT];exact h
def Ha(acc:List Nat)(o:Oper):List Nat:=acc++[Vi acc o]
theorem SL(a:List Oper):Qv a=a.foldl Ha []:=rfl
theorem nH: ∀(q:List Oper) (acc:List Nat),∃ext,q.foldl Ha acc=acc++ext∧ext.length=q.length:=by
 intro q
 induction q with
 |nil=>intro acc;exact⟨[],by simp,rfl⟩
 |cons o q ih=>
  intro acc;obtain⟨ext,h1,h2⟩:=ih (Ha acc o)
  exact⟨_::ext,by rw [Vb,h1,Ha,OD];rfl,by simp [h2]⟩
theorem Zn{acc acc':List Nat}{o:Oper}(h: ∀e∈o.after.toList,Region.binds .any e=true→acc.getD e.on 0=acc'.getD e.on 0):Vi acc o=Vi acc' o:=by
 unfold Vi;generalize o.after.toList=l at h;generalize (0:Nat)=m0 at h ⊢
 suffices hs: ∀(m:Nat),l.foldl (fun m e=>if Region.binds .any e then(m ||| 2 ^ e.on) ||| acc.getD e.on m0 else m) m=l.foldl (fun m e=>if Region.binds .any e then(m ||| 2 ^ e.on) ||| acc'.getD e.on m0 else m) m from hs m0
 induction l with
 |nil=>intro m;rfl
 |cons e l ih=>
  intro m;rw [Vb,Vb]
  have:(if Region.binds .any e then(m ||| 2 ^ e.on) ||| acc.getD e.on m0 else m)=(if Region.binds .any e then(m ||| 2 ^ e.on) ||| acc'.getD e.on m0 else m):=by
   split
   ·rename_i hb;rw [h e (Ke) hb]
   ·rfl
  rw [this];exact ih (fun e' he'=>h e' (JG _ he')) _
theorem VE{acc:List Nat}{o:Oper}{j:Nat}(h:(Vi acc o).testBit j=true): ∃e∈o.after.toList,Region.binds .any e=true∧(j=e.on∨(acc.getD e.on 0).testBit j=true):=by
 unfold Vi at h
 suffices hs: ∀(l:List _) (m:Nat),(l.foldl (fun m e=>if Region.binds .any e then(m ||| 2 ^ e.on) ||| acc.getD e.on 0 else m) m).testBit j=true→m.testBit j=true∨ ∃e∈l,Region.binds .any e=true∧(j=e.on∨(acc.getD e.on 0).testBit j=true) by
  rcases hs _ _ h with h0|h0
  ·simp at h0
  ·exact h0
 intro l
 induction l with
 |nil=>intro m hm;exact .inl hm
 |cons e l ih=>
  intro m hm;rw [Vb]at hm;rcases ih _ hm with h1|⟨e',he',h2⟩
  ·split at h1
   ·rename_i hb
    rw [Nat.testBit_or,Nat.testBit_or,MQ,MQ]at h1;rcases h1 with(h1|h1)|h1
    ·exact .inl h1
    ·rw [Nat.testBit_two_pow,decide_eq_true_eq]at h1;exact .inr ⟨e,Ke,hb,.inl h1.symm⟩
    ·exact .inr ⟨e,Ke,hb,.inr h1⟩
   ·exact .inl h1
  ·exact .inr ⟨e',JG _ he',h2⟩
theorem bS: ∀(q:List Oper) (acc:List Nat) (i:Nat) (o:Oper),q[i]? =some o→(∀e∈o.after.toList,Region.binds .any e=true→e.on<acc.length+i)→
  (q.foldl Ha acc).getD (acc.length+i) 0=Vi (q.foldl Ha acc) o:=by
 intro q
 induction q with
 |nil=>intro acc i o h;simp at h
 |cons p q ih=>
  intro acc i o hi he
  cases i with
  |zero=>
   simp only [NT,al]at hi;subst hi;obtain⟨ext,h1,h2⟩:=nH q (Ha acc p);rw [Vb,h1]
   have h3:(Ha acc p++ext).getD (acc.length+0) 0=Vi acc p:=by
    simp [Ha,Jg]
   rw [h3];refine Zn fun e hm hb=> ?_;have:=he e hm hb
   simp only [Ha,OD,Jg];rw [MP (by omega)]
  |succ i=>
   simp only [PQ]at hi;have hlen:(Ha acc p).length=acc.length+1:=by simp [Ha]
   have:=ih (Ha acc p) i o hi (fun e hm hb=>by rw [hlen];have:=he e hm hb;omega)
   rw [Vb];rw [hlen]at this;rw [show acc.length+(i+1)=acc.length+1+i by omega]
   exact this
def jL(ops:Array Oper)(listed:Array Bool):Prop:=
 ∀(i:Nat) (o:Oper),ops[i]? =some o→listed.getD i false=true→ ∀e∈o.after.toList,Region.binds .any e=true→listed.getD e.on false=true
def jM(ops:Array Oper):Prop:= ∀(i:Nat) (o:Oper),ops[i]? =some o→ ∀e∈o.after.toList,Region.binds .any e=true→e.on<i
theorem SN(hb:jM ops){listed:Array Bool}(hc:jL ops listed): ∀(n i:Nat) (o:Oper),i≤n→ops[i]? =some o→(∀e∈o.after.toList,Region.binds .any e=true→listed.getD e.on false=true)→
  ∀j,((Qv ops.toList).getD i 0).testBit j=true→listed.getD j false=true:=by
 intro n
 induction n with
 |zero=>
  intro i o hi ho _ j hj;have:i=0:=by omega
  subst this;have h:=bS ops.toList [] 0 o (by simpa using ho) (fun e hm hbi=>by have:=hb 0 o ho e hm hbi;omega)
  rw [SL]at hj;simp only [RN,Il]at h;rw [h]at hj;obtain⟨e,hm,hbi,hj⟩:=VE hj;have:=hb 0 o ho e hm hbi;omega
 |succ n ih=>
  intro i o hi ho hl j hj;have h:=bS ops.toList [] i o (by simpa using ho) (fun e hm hbi=>by have:=hb i o ho e hm hbi;simpa using this)
  rw [SL]at hj;simp only [RN,Il]at h;rw [h]at hj;obtain⟨e,hm,hbi,hj⟩:=VE hj;have hlt:=hb i o ho e hm hbi;have hle:=hl e hm hbi;rcases hj with rfl|hj
  ·exact hle
  ·have hon:e.on<ops.size:=by
    have:i<ops.size:=(U9.1 ho).1
    omega
   exact ih e.on ops[e.on] (by omega) (Ji hon) (hc e.on _ (Ji hon) hle) j hj
theorem WB(h:Ma lends ops.toList=true):jM ops:=by
 simp only [Ma,F9,IQ]at h;intro i o ho e hm hb;have:=h.1 (o,i) (by rw [List.mem_zipIdx_iff_getElem?];simpa using ho) e hm
 simpa [hb] using this
theorem Y7(h:Ma lends ops.toList=true){i j:Nat}(hji:j<i)(hi:i<ops.size)(hn: ¬((Qv ops.toList).getD i 0).testBit j=true):A1n lends ops ops.toList j i:=by
 simp only [Ma,F9,IQ]at h;have:=h.2 i (by simpa using hi) j (by simpa using hji)
 simp only [MQ,F9,Kg]at this;rcases this with hc|⟨h1,h2⟩
 ·exact(hn hc).elim
 ·intro oi oj hoi hoj;have gi:ops.toList[i]? =some oi:=by simpa using hoi
  have gj:ops.toList[j]? =some oj:=by simpa using hoj
  simp only [Jg,LU,gi,gj,MI,XT]at h1 h2
  exact⟨QJ h1,fun r hw hn=>QJ h2 r hn hw⟩
def rem(n:Nat)(listed:Array Bool):List Nat:=(an n).filter fun i=> !listed.getD i true
theorem QK{n i:Nat}(h:i<n):an n=an i++i::List.range' (i+1) (n-i-1):=by
 have h1:n=i+((n-i-1)+1):=by omega
 rw [ba,ba]
 conv=>lhs;rw [h1,←List.range'_append_1]
 rw [List.range'_succ]
 simp
theorem JK{listed:Array Bool}{i j:Nat}(h:j≠i)(b c:Bool):(listed.setIfInBounds i b).getD j c=listed.getD j c:=by
 simp only [LQ];rw [Array.getElem?_setIfInBounds_ne (Ne.symm h)]
theorem QL{listed:Array Bool}{i:Nat}(h:i<listed.size)(b c:Bool):(listed.setIfInBounds i b).getD i c=b:=by
 simp [LQ,h]
theorem fJ{n i:Nat}{listed:Array Bool}(hsz:listed.size=n)(hi:i<n)(hl:listed.getD i true=false):
  ∃pre post,rem n listed=pre++i::post∧rem n (listed.setIfInBounds i true)=pre++post∧ ∀j∈pre,j<i∧listed.getD j true=false:=by
 refine⟨(an i).filter fun i=> !listed.getD i true,(List.range' (i+1) (n-i-1)).filter fun i=> !listed.getD i true, ?_, ?_,fun j hj=> ?_⟩
 ·rw [rem,QK hi,List.filter_append,List.filter_cons];simp [hl]
 ·rw [rem,QK hi,List.filter_append,List.filter_cons,QL (by omega)]
  simp only [Bool.not_true,Ik,if_false]
  congr 1
  ·refine List.filter_congr fun j hj=> ?_;rw [JK (by simp at hj;omega)]
  ·refine List.filter_congr fun j hj=> ?_;rw [JK (by simp [List.mem_range']at hj;omega)]
 ·simp only [aw,Nn,Kg]at hj;exact hj
theorem OX{listed:Array Bool}{i:Nat}(h:i<listed.size)(b c:Bool):listed.getD i b=listed.getD i c:=by
 simp [LQ,h]
theorem NG{listed:Array Bool}{i:Nat}:i∈Region.ready .any ops listed↔ ∃o,ops[i]? =some o∧listed.getD i true=false∧ ∀e∈o.after.toList,Region.binds .any e=true→listed.getD e.on false=true:=by
 simp only [Region.ready,aw,Nn,F9,Kg]
 constructor
 ·rintro⟨h1,h2,h3⟩
  refine⟨ops[i],Ji h1,h2,fun e he hb=> ?_⟩
  rw [Ji h1]at h3;simp only [MI,XT,Array.all_eq_true_iff_forall_mem,MQ,Kg]at h3;rcases h3 e (by simpa using he)with h|h
  ·rw [hb]at h;cases h
  ·exact h
 ·rintro⟨o,ho,h2,h3⟩
  refine⟨(U9.1 ho).1,h2, ?_⟩
  rw [ho];simp only [MI,XT,Array.all_eq_true_iff_forall_mem,MQ,Kg];intro e he
  cases hb:Region.binds .any e with
  |false=>exact .inl rfl
  |true=>exact .inr (h3 e (by simpa using he) hb)
theorem fK(hb:jM ops){listed:Array Bool}(hsz:listed.size=ops.size)(h:Region.ready .any ops listed=[]):rem ops.size listed=[]:=by
 have key: ∀(n i:Nat),i≤n→i<ops.size→listed.getD i false=true:=by
  intro n
  induction n with
  |zero=>
   intro i hi hlt;have:i=0:=by omega
   subst this;rw [OX (by omega) false true]
   cases hl:listed.getD 0 true with
   |true=>rfl
   |false=>
    have:0∈Region.ready .any ops listed:=NG.2 ⟨ops[0],Ji hlt,hl,fun e he hbi=>by have:=hb 0 _ (Ji hlt) e he hbi;omega⟩
    rw [h]at this;cases this
  |succ n ih=>
   intro i hi hlt;rw [OX (by omega) false true]
   cases hl:listed.getD i true with
   |true=>rfl
   |false=>
    have:i∈Region.ready .any ops listed:=NG.2 ⟨ops[i],Ji hlt,hl,fun e he hbi=>by
     have:=hb i _ (Ji hlt) e he hbi
     exact ih e.on (by omega) (by omega)⟩
    rw [h]at this;cases this
 rw [rem,List.filter_eq_nil_iff];intro i hi;have:=key i i (Hq _) (by simpa using hi)
 rw [OX (by simp at hi;omega) true false,this];simp
theorem jO{P:Program}{N:Nat}{gh:Nat→Value}(hT:Ba P E.T)(hC:JD P E)(hops: ∀(j:Nat) (o:Oper),ops[j]? =some o→OO N o)(hok:Ma E.lends ops.toList=true):
  ∀(fuel:Nat) (listed:Array Bool) {s s':St} {a:Act} {w:World} {S:Nat→Prop} {Fs:Nat→Nat→Prop} {Q:Exit→Act→World→Prop},
  listed.size=ops.size→jL ops listed→(rem ops.size listed).length≤fuel→Fr E.T N gh s a w S Fs→SK E ops ops.toList s (rem ops.size listed)=some s'→
  (∀a' w',C8 E.T gh N s' w S Fs a' w'→Q .normal a' w')→wpAny P .any ops Q fuel listed a w:=by
 have hb:=WB hok
 have hdone: ∀ {listed:Array Bool} {s s':St} {a:Act} {w:World} {S:Nat→Prop} {Fs:Nat→Nat→Prop} {Q:Exit→Act→World→Prop},rem ops.size listed=[]→Fr E.T N gh s a w S Fs→SK E ops ops.toList s (rem ops.size listed)=some s'→
   (∀a' w',C8 E.T gh N s' w S Fs a' w'→Q .normal a' w')→Q .normal a w:=by
  intro listed s s' a w S Fs Q hr hf hrun hQ;rw [hr]at hrun;simp only [SK,al]at hrun;subst hrun;exact hQ a w ⟨S,Fs,hf.rel,Step.refl _ _ _,hf.defs,hf.size⟩
 intro fuel
 induction fuel with
 |zero=>
  intro listed s s' a w S Fs Q hsz hc hlen hf hrun hQ;have hr:rem ops.size listed=[]:=Z7 (by omega)
  refine⟨?_,hdone hr hf hrun hQ⟩
  rw [List.eq_nil_iff_forall_not_mem];intro i hi;obtain⟨o,ho,hl,_⟩:=NG.1 hi
  have:i∈rem ops.size listed:=by
   simp only [rem,aw,Nn,hl]
   exact⟨(U9.1 ho).1,rfl⟩
  rw [hr]at this;cases this
 |succ fuel ih=>
  intro listed s s' a w S Fs Q hsz hc hlen hf hrun hQ
  refine⟨fun hr=>hdone (fK hb hsz hr) hf hrun hQ,fun i hi=> ?_⟩
  obtain⟨o,ho,hl,he⟩:=NG.1 hi;have hlt:i<ops.size:=(U9.1 ho).1;obtain⟨pre,post,e1,e2,hpre⟩:=fJ hsz hlt hl;rw [e1]at hrun hlen
  obtain⟨t,ht,hrun'⟩:=Zm rfl pre (fun j hj=>by
   obtain⟨hji,hjl⟩:=hpre j hj;refine Y7 hok hji hlt (fun hm=> ?_);have:=SN hb hc i i o (Hq _) ho he j hm
   rw [OX (by omega) false true,hjl]at this;cases this) hrun
  have hst:IV E ops (Hr E.lends ops.toList o) s (Rb E.lends ops.toList o)=some t:=by
   simp only [yc,ho,MB]at ht
   split at ht
   ·exact ht
   ·cases ht
  refine Zb hT hC hf hops ho hst (fun a' w' hp=> ?_);obtain⟨S',Fs',hf',hst'⟩:=hp.fr hf.small;refine ih _ (by simp [hsz]) ?_ (by rw [e2];simp at hlen ⊢;omega) hf' (by rw [e2];exact hrun') (fun a2 w2 hp2=>hQ a2 w2 (hp2.back hst'))
  intro k ok hk hkl e hm hbi;by_cases hki:k=i
  ·subst hki;rw [ho]at hk;simp only [al]at hk;subst hk;have hon:=hb k o ho e hm hbi;rw [JK (by omega)]
   exact he e hm hbi
  ·rw [JK hki]at hkl;have:=hc k ok hk hkl e hm hbi
   by_cases hei:e.on=i
   ·rw [hei,QL (by omega)]
   ·rw [JK hei];exact this
theorem Fr.drawn{T:Tys}{N:Nat}{gh:Nat→Value}{s:St}{a:Act}{w:World}{S:Nat→Prop}{Fs:Nat→Nat→Prop}(h:Fr T N gh s a w S Fs)(n:Nat):Fr T N gh s a {w with drawn:=n} S Fs:=
 ⟨h.rel.grow (fun _ _=>rfl) (Hq _),h.defs,h.size,h.small⟩
theorem nI{P:Program}(hm:P.follows .mixedOrders=true)(hT:Ba P E.T)(hC:JD P E):bR P E:=by
 intro s s' gh a w S Fs N id ops Q hf hk hok hd hQ;have hops: ∀(j:Nat) (o:Oper),ops[j]? =some o→OO N o:=fun j o ho=>bQ (IQ.1 hk o (by simpa using Array.mem_of_getElem? ho))
 refine wp_region_any hm ?_
 have hrem:rem ops.size (Array.replicate ops.size false)=an ops.size:=by
  rw [rem,List.filter_eq_self];intro i hi;simp at hi;simp [LQ,hi]
 refine jO (s':=s') hT hC hops hok ops.size _ (by simp) ?_ (by rw [hrem];simp) (hf.drawn _) ?_ (fun a' w' hp=>hQ a' w' ?_)
 ·intro i o ho hl;have:i<ops.size:=(U9.1 ho).1
  simp [LQ,this]at hl
 ·rw [Zl ops.toList 0 s rfl]at hd;rw [hrem,ba];simpa using hd
 ·obtain⟨S',Fs',h1,h2,h3,h4⟩:=hp
  exact⟨S',Fs',h1,⟨h2.os,h2.tape,h2.output,h2.size,h2.heap,h2.sS,h2.sS',h2.sF⟩,h3,h4⟩
end
end Dv
namespace Dv
open Go
def VG(gh:Nat→Value):AB→Nat→Nat→Value→Prop:=fun L n m v=> ∃j,L=[G+j]∧n=0∧m=0∧v=gh j
def nJ(s:St)(w:World)(rv:Nat→Value)(L:AB)(c:D)(v:Value):Prop:=
 c.isObj=true∧((L=[]∧(∃e,c= .own e [])∧ ∃A,v= .slice A 0 0)∨ ∃t p,L=t::p∧BL (s.v t) p=some c∧Dj w rv L=some v)
section
variable {T:Tys} {s s':St} {rv:Nat→Value} {w w':World} {S S':Nat→Prop} {Fs:Nat→Nat→Prop} {pm:Pm}
variable {V:AB→Nat→Nat→Value→Prop} {Vp:AB→Nat→Nat→Nat→Value→Prop}
mutual
theorem WC: ∀(d:D) {v:Value} {F:Nat→Prop},W T S w V Vp d v F→(E5 d).isSome=true→W T S w V0 HV d v F
 | .own e xs,_,_,h,ho=>by
  cases h with
  |own0 h=>exact .own0 h
  |own us Fi hb hz hn hc hm hx hF hFb hd hS hw=>
   refine .own us Fi hb hz hn hc hm hx hF hFb hd hS (fun i x hi=>OY xs (by simpa [E5] using ho) i x hi (hw i x hi))
 | .box xs,_,_,h,ho=>by
  cases h with
  |box us Fi hb hz hx hF hFb hd hS hw=>
   exact .box us Fi hb hz hx hF hFb hd hS (fun i x hi=>OY xs (by simpa [E5] using ho) i x hi (hw i x hi))
 | .agg xs,_,_,h,ho=>by
  cases h with
  |agg us Fi hz hx hF hd hw=>exact .agg us Fi hz hx hF hd (fun i x hi=>OY xs (by simpa [E5] using ho) i x hi (hw i x hi))
 | .tup xs,_,_,h,ho=>by
  cases h with
  |tup us Fi hz hx hF hd hw=>exact .tup us Fi hz hx hF hd (fun i x hi=>OY xs (by simpa [E5] using ho) i x hi (hw i x hi))
 | .vw _ _ _,_,_,_,ho=>by simp [E5]at ho
 | .pe _ _ _ _,_,_,_,ho=>by simp [E5]at ho
 | .vs _ _ _ _ _ _,_,_,_,ho=>by simp [E5]at ho
 | .undef,_,_,_,ho=>by simp [E5]at ho
 | .int k n,_,_,h,_=>by cases h with|int h=>exact .int h
 | .bool b,_,_,h,_=>by cases h with|bool h=>exact .bool h
 | .str x,_,_,h,_=>by cases h with|str h=>exact .str h
 | .konst v,_,_,h,_=>by cases h with|konst h=>exact .konst h
 | .sl e xs,_,_,h,_=>by cases h with|sl us h hn hc hm hx hw=>exact .sl us h hn hc hm hx hw
 | .clo f xs,_,_,h,_=>by cases h with|clo us h hz hx hw=>exact .clo us h hz hx hw
 | .ocl _ _ _,_,_,_,ho=>by simp [E5]at ho
 | .cptr xs,_,_,h,_=>by cases h with|cptr us h hx hw=>exact .cptr us h hx hw
theorem OY: ∀(xs:List D),(DL xs).isSome=true→ ∀(i:Nat) (x:D),xs[i]? =some x→ ∀ {v:Value} {F:Nat→Prop},W T S w V Vp x v F→W T S w V0 HV x v F
 | [],_,i,x,hi,_,_,_=>by simp at hi
 |d::ds,ho,i,x,hi,_,_,h=>by
  simp only [DL,Option.isSome_bind,Option.any_eq_true,Option.isSome_map]at ho;obtain⟨d',hd,hds⟩:=ho
  cases i with
  |zero=>
   simp only [NT,al]at hi;subst hi;exact WC d h (by simp [hd])
  |succ i=>
   simp only [PQ]at hi;exact OY ds hds i x hi h
end
theorem yf{d:D}{v:Value}{F:Nat→Prop}(h:W T S' w V Vp d v F):Df d=false→(∀k,F k→ ¬S k)→W T S w V Vp d v F:=by
 have hsl: ∀(xs:List D),Dh xs=false→ ∀(i:Nat) (x:D),xs[i]? =some x→Df x=false:=by
  intro xs
  induction xs with
  |nil=>intro _ i x hi;simp at hi
  |cons d ds ih=>
   intro hx i x hi;simp only [Dh,Bool.or_eq_false_iff]at hx
   cases i with
   |zero=>simp at hi;subst hi;exact hx.1
   |succ i=>simp at hi;exact ih hx.2 i x hi
 induction h with
 |undef h=>exact fun _ _=> .undef h
 |int h=>exact fun _ _=> .int h
 |bool h=>exact fun _ _=> .bool h
 |str h=>exact fun _ _=> .str h
 |konst h=>exact fun _ _=> .konst h
 |sl us h hn hc hm hx hw ih=>
  intro hs _;simp only [Df,Bool.not_eq_false',List.isEmpty_iff]at hs;subst hs;exact .sl us h hn hc hm (by simp) (by simp)
 |own0 h=>exact fun _ _=> .own0 h
 |own us Fi hb hz hn hc hm hx hF hFb hd hSb hw ih=>
  intro hs hk;exact .own us Fi hb hz hn hc hm hx hF hFb hd (hk _ ((hF _).2 (.inl rfl))) (fun i x hi=>ih i x hi (hsl _ (by simpa [Df] using hs) i x hi) (fun k hf=>hk k ((hF k).2 (.inr ⟨i,(EI.1 hi).1,hf⟩))))
 |box us Fi hb hz hx hF hFb hd hSb hw ih=>
  intro hs hk;exact .box us Fi hb hz hx hF hFb hd (hk _ ((hF _).2 (.inl rfl))) (fun i x hi=>ih i x hi (hsl _ (by simpa [Df] using hs) i x hi) (fun k hf=>hk k ((hF k).2 (.inr ⟨i,(EI.1 hi).1,hf⟩))))
 |cptr us h hx hw ih=>intro hs;simp [Df]at hs
 |agg us Fi hz hx hF hd hw ih=>
  intro hs hk;exact .agg us Fi hz hx hF hd (fun i x hi=>ih i x hi (hsl _ (by simpa [Df] using hs) i x hi) (fun k hf=>hk k ((hF k).2 ⟨i,(EI.1 hi).1,hf⟩)))
 |tup us Fi hz hx hF hd hw ih=>
  intro hs hk;exact .tup us Fi hz hx hF hd (fun i x hi=>ih i x hi (hsl _ (by simpa [Df] using hs) i x hi) (fun k hf=>hk k ((hF k).2 ⟨i,(EI.1 hi).1,hf⟩)))
 |clo us h hz hx hw ih=>
  intro hs _;simp only [Df,Bool.not_eq_false',List.isEmpty_iff]at hs;subst hs;exact .clo us h hz (by simp) (by simp)
 |ocl=>intro hs;simp [Df]at hs
 |mp=>intro hs;simp [Df]at hs
 |vw=>intro hs;simp [Df]at hs
 |pe=>intro hs;simp [Df]at hs
 |vs=>intro hs;simp [Df]at hs
theorem A1o(rv:Nat→Value)(t:Nat):Dj w rv [t]=some (rv t):=by simp [Dj,Aj]
theorem Ng{lend:Bool}{j:Nat}{L0:AB}{d a:D}{v:Value}{F:Nat→Prop}{l:List (AB×D)}(hW:WR T s rv w S d v F)
  (hsrc:d.isObj=true→(L0=[]∧(∃e,d= .own e [])∧ ∃A,v= .slice A 0 0)∨ ∃t p,L0=t::p∧BL (s.v t) p=some d∧Dj w rv L0=some v)
  (ha:Eb lend pm s j L0 d=some (a,l)):
  (l=[]∧ ∀S' V Vp,(∀k,S k→S' k)→W T S' w V Vp a v (fun _=>False))∨
   ∃L c,l=[(L,c)]∧nJ s w rv L c v∧(lend=true→a= .vw [G+j] 0 0)∧(lend=false→E5 c=some a):=by
 have plain:d.hasObj=false→E5 d=some d→a=d→l=[]→(l=[]∧ ∀S' V Vp,(∀k,S k→S' k)→W T S' w V Vp a v (fun _=>False)):=by
  intro hno hf ha hl
  refine⟨hl,fun S' V Vp hS=> ?_⟩
  subst ha
  exact(hW.freeze a hf (fun k hk=>(Cs hW hno k hk).elim) hS).up
 unfold Eb at ha
 split at ha
 ·rename_i L n m
  cases hl:s.look pm L n m with
  |none=>simp [hl]at ha
  |some c=>
   simp only [hl]at ha;obtain⟨t,p,rfl,hg,hobj,hval⟩:=Cr hl
   have hfo:Dj w rv (t::p)=some v:=by
    cases hW with
    |vw h hv=>exact hv.2 hval
   have hS:nJ s w rv (t::p) c v:=⟨hobj,.inr ⟨t,p,rfl,hg,hfo⟩⟩
   right
   cases lend with
   |true=>
    simp only [if_true,al,Prod.mk.injEq]at ha;obtain⟨rfl,rfl⟩:=ha
    exact⟨_,_,rfl,hS,(fun _=>rfl),(fun h=>by cases h)⟩
   |false=>
    simp only [Ik,if_false,Cb,Prod.mk.injEq]at ha;obtain⟨c',hc',rfl,rfl⟩:=ha
    exact⟨_,_,rfl,hS,(fun h=>by cases h),fun _=>hc'⟩
 ·rename_i e xs
  have hS:nJ s w rv L0 (.own e xs) v:=⟨rfl,hsrc rfl⟩
  right
  cases lend with
  |true=>
   simp only [if_true,al,Prod.mk.injEq]at ha;obtain⟨rfl,rfl⟩:=ha
   exact⟨_,_,rfl,hS,(fun _=>rfl),(fun h=>by cases h)⟩
  |false=>
   simp only [Ik,if_false,Cb,Prod.mk.injEq]at ha;obtain⟨c',hc',rfl,rfl⟩:=ha
   exact⟨_,_,rfl,hS,(fun h=>by cases h),fun _=>hc'⟩
 ·rename_i xs
  have hS:nJ s w rv L0 (.box xs) v:=⟨rfl,hsrc rfl⟩
  right
  cases lend with
  |true=>
   simp only [if_true,al,Prod.mk.injEq]at ha;obtain⟨rfl,rfl⟩:=ha
   exact⟨_,_,rfl,hS,(fun _=>rfl),(fun h=>by cases h)⟩
  |false=>
   simp only [Ik,if_false,Cb,Prod.mk.injEq]at ha;obtain⟨c',hc',rfl,rfl⟩:=ha
   exact⟨_,_,rfl,hS,(fun h=>by cases h),fun _=>hc'⟩
 ·cases ha
 ·cases ha
 ·cases ha
 ·cases ha
 ·cases ha
 ·cases ha
 ·cases ha
 ·rename_i h1 h2 h3 h4 h5 h6 h7 h8 h9 h10
  simp only [al,Prod.mk.injEq]at ha
  left
  refine plain ?_ ?_ ha.1.symm ha.2.symm
  ·cases d<;>first|rfl|(exact(h2 _ _ rfl).elim)|(exact(h3 _ rfl).elim)|(exact(h5 _ rfl).elim)|(exact(h6 _ rfl).elim)|(exact(h10 _ _ _ rfl).elim)
  ·cases d<;>first|rfl|(exact(h1 _ _ _ rfl).elim)|(exact(h2 _ _ rfl).elim)|(exact(h3 _ rfl).elim)|(exact(h4 rfl).elim)|(exact(h5 _ rfl).elim)|(exact(h6 _ rfl).elim)|(exact(h7 _ _ _ _ rfl).elim)|(exact(h8 _ _ _ _ _ _ rfl).elim)|(exact(h9 _ _ _ rfl).elim)|(exact(h10 _ _ _ rfl).elim)
def Im(s:St)(w:World)(rv:Nat→Value)(ls:List (AB×D))(lv:List Value):Prop:=
 lv.length=ls.length∧ ∀(i:Nat) (q:AB×D) (v:Value),ls[i]? =some q→lv[i]? =some v→nJ s w rv q.1 q.2 v
theorem Im.nil:Im s w rv [] []:=⟨rfl,by simp⟩
theorem Im.append{l1 l2:List (AB×D)}{v1 v2:List Value}(h1:Im s w rv l1 v1)(h2:Im s w rv l2 v2):Im s w rv (l1++l2) (v1++v2):=by
 refine⟨by simp [h1.1,h2.1],fun i q v hq hv=> ?_⟩
 rcases Nat.lt_or_ge i l1.length with hi|hi
 ·rw [MP hi]at hq;rw [MP (by rw [h1.1];exact hi)]at hv
  exact h1.2 i q v hq hv
 ·rw [MO hi]at hq;rw [MO (by rw [h1.1];exact hi),h1.1]at hv
  exact h2.2 _ q v hq hv
def FC(T:Tys)(s:St)(w:World)(rv:Nat→Value)(S:Nat→Prop)(lend:Bool)(j:Nat)(ls:List (AB×D))(lv:List Value)(K:(gh:Nat→Value)→(S':Nat→Prop)→Prop):Prop:=
 ∀(gh:Nat→Value) (S':Nat→Prop),(∀k,S k→S' k)→(lend=true→ ∀(i:Nat) (v:Value),lv[i]? =some v→gh (j+i)=v)→
  (lend=false→ ∀(i:Nat) (q:AB×D) (v:Value) (c':D),ls[i]? =some q→lv[i]? =some v→nJ s w rv q.1 q.2 v→E5 q.2=some c'→W T S' w V0 HV c' v (fun _=>False))→K gh S'
theorem FC.left{lend:Bool}{j:Nat}{l1 l2:List (AB×D)}{v1 v2:List Value}{K:(gh:Nat→Value)→(S':Nat→Prop)→Prop}(h1:Im s w rv l1 v1)(h:FC T s w rv S lend j l1 v1 K):FC T s w rv S lend j (l1++l2) (v1++v2) K:=by
 intro gh S' hS hg ha;refine h gh S' hS (fun hl i v hv=> ?_) (fun hl i q v c' hq hv hs hf=> ?_)
 ·exact hg hl i v (by rw [MP (EI.1 hv).1];exact hv)
 ·exact ha hl i q v c' (by rw [MP (EI.1 hq).1];exact hq) (by rw [MP (EI.1 hv).1];exact hv) hs hf
theorem FC.right{lend:Bool}{j:Nat}{l1 l2:List (AB×D)}{v1 v2:List Value}{K:(gh:Nat→Value)→(S':Nat→Prop)→Prop}(h1:Im s w rv l1 v1)(h:FC T s w rv S lend (j+l1.length) l2 v2 K):FC T s w rv S lend j (l1++l2) (v1++v2) K:=by
 intro gh S' hS hg ha;refine h gh S' hS (fun hl i v hv=> ?_) (fun hl i q v c' hq hv hs hf=> ?_)
 ·rw [Nat.add_assoc];exact hg hl (l1.length+i) v (by rw [←h1.1,MO (by omega)];simpa using hv)
 ·exact ha hl (l1.length+i) q v c' (by rw [MO (by omega)];simpa using hq) (by rw [←h1.1,MO (by omega)];simpa using hv) hs hf
theorem Kj{lend:Bool}{j:Nat}{L0:AB}{d a:D}{v:Value}{F:Nat→Prop}{l:List (AB×D)}(hW:WR T s rv w S d v F)
  (hsrc:d.isObj=true→(L0=[]∧(∃e,d= .own e [])∧ ∃A,v= .slice A 0 0)∨ ∃t p,L0=t::p∧BL (s.v t) p=some d∧Dj w rv L0=some v)
  (ha:Eb lend pm s j L0 d=some (a,l)): ∃lv,Im s w rv l lv∧FC T s w rv S lend j l lv (fun gh S'=>W T S' w (VG gh) HV a v (fun _=>False)):=by
 rcases Ng hW hsrc ha with⟨rfl,h⟩|⟨L,c,rfl,hS,h1,h2⟩
 ·exact⟨[],Im.nil,fun gh S' hS _ _=>h S' _ _ hS⟩
 ·refine⟨[v],⟨rfl,fun i q u hq hu=> ?_⟩,fun gh S' hS' hg hA=> ?_⟩
  ·cases i with
   |zero=>simp at hq hu;subst hq;subst hu;exact hS
   |succ i=>simp at hq
  ·cases lend with
   |true=>
    rw [h1 rfl];exact .vw (fun _ h=>h) ⟨j,rfl,rfl,rfl,(hg rfl 0 v rfl).symm⟩
   |false=>exact(hA rfl 0 (L,c) v a rfl rfl hS (h2 rfl)).up
theorem SQ{lend:Bool}{t0:Nat}{p0:AB}(L0:AB)(hL0:L0=t0::p0): ∀(ds:List D) (j i:Nat) {as:List D} {ls:List (AB×D)} (us:Nat→Value) (Fi:Nat→Nat→Prop),
  (∀k x,ds[k]? =some x→WR T s rv w S x (us k) (Fi k)∧BL (s.v t0) (p0++[i+k])=some x∧Dj w rv (t0::(p0++[i+k]))=some (us k))→
  E8 lend pm s L0 j i ds=some (as,ls)→ ∃lv,Im s w rv ls lv∧as.length=ds.length∧
   FC T s w rv S lend j ls lv (fun gh S'=> ∀k x,as[k]? =some x→W T S' w (VG gh) HV x (us k) (fun _=>False)):=by
 intro ds
 induction ds with
 |nil=>
  intro j i as ls us Fi _ ha;simp only [E8,al,Prod.mk.injEq]at ha;obtain⟨rfl,rfl⟩:=ha
  exact⟨[],Im.nil,rfl,fun gh S' _ _ _ k x hk=>by simp at hk⟩
 |cons d ds ih=>
  intro j i as ls us Fi hd ha;simp only [E8]at ha
  split at ha
  ·cases ha
  ·rename_i a l hc
   split at ha
   ·cases ha
   ·rename_i as' ls' hcs
    simp only [al,Prod.mk.injEq]at ha;obtain⟨rfl,rfl⟩:=ha;obtain⟨h1,h2,h3⟩:=hd 0 d rfl;obtain⟨lv1,o1,g1⟩:=Kj h1 (fun _=> .inr ⟨t0,p0++[i],by simp [hL0],h2,by rw [hL0];exact h3⟩) hc
    obtain⟨lv2,o2,hlen,g2⟩:=ih (j+l.length) (i+1) (fun k=>us (k+1)) (fun k=>Fi (k+1)) (fun k x hk=>by
     have:=hd (k+1) x (by simpa using hk)
     rw [show i+1+k=i+(k+1) by omega];exact this) hcs
    refine⟨lv1++lv2,o1.append o2,by simp [hlen],fun gh S' hS hg hA k x hk=> ?_⟩
    cases k with
    |zero=>
     simp only [NT,al]at hk;subst hk;exact FC.left o1 g1 gh S' hS hg hA
    |succ k=>
     simp only [PQ]at hk;exact FC.right o1 g2 gh S' hS hg hA k x hk
theorem WE{lend:Bool}{j:Nat}{L0:AB}{d a:D}{v:Value}{F:Nat→Prop}{l:List (AB×D)}(hW:WR T s rv w S d v F)
  (hsrc:(∃t,L0=[t]∧s.v t=d∧rv t=v)∨(L0=[]∧(∀xs,d≠ .agg xs)∧(d.isObj=true→(∃e,d= .own e [])∧ ∃A,v= .slice A 0 0)))
  (ha:DR lend pm s j L0 d=some (a,l)): ∃lv,Im s w rv l lv∧FC T s w rv S lend j l lv (fun gh S'=>W T S' w (VG gh) HV a v (fun _=>False)):=by
 unfold DR at ha
 split at ha
 ·rename_i xs
  simp only [Cb,Prod.mk.injEq]at ha;obtain⟨⟨as,ls⟩,hc,rfl,rfl⟩:=ha;rcases hsrc with⟨t,rfl,hst,hrv⟩|⟨_,hn,_⟩
  ·cases hW with
   |agg us Fi hz hx hF hd hw=>
    obtain⟨lv,o,hlen,g⟩:=SQ (p0:=[]) [t] rfl xs j 0 us Fi (fun k x hk=>⟨hw k x hk,by simp [BL,hst,hk],by simp [Dj,hrv,Aj,hx k x hk]⟩) hc
    refine⟨lv,o,fun gh S' hS hg hA=> ?_⟩
    have:=g gh S' hS hg hA
    refine .agg us (fun _ _=>False) (by rw [hz,hlen]) (fun i x hi=> ?_) (fun k=>⟨fun h=>h.elim,fun⟨_,_,h⟩=>h⟩) (fun _ _ _ _ _ _ h=>h.elim) this
    have hi':i<xs.length:=by rw [←hlen];exact(EI.1 hi).1
    exact hx i _ (Gc hi')
  ·exact(hn xs rfl).elim
 ·refine Kj hW (fun ho=> ?_) ha;rcases hsrc with⟨t,rfl,hst,hrv⟩|⟨h1,_,h2⟩
  ·exact .inr ⟨t,[],rfl,by simp [BL,hst],by simp [Dj,Aj,hrv]⟩
  ·exact .inl ⟨h1,h2 ho⟩
theorem Y8{N:Nat}{gh0:Nat→Value}{a0:Act}{lend:Bool}(h:Rel T s (Am a0 gh0) w S Fs){j:Nat}{e:ab}{L:AB}{n m lo len:Nat}{a:D}{v:Value}{F:Nat→Prop}{l:List (AB×D)}
  (hW:WR T s (Am a0 gh0) w S (.vs e L n m lo len) v F)(hl:lend=false)(ha:Uy T pm s e L n m lo len=some (a,l)):
  ∃lv,Im s w (Am a0 gh0) l lv∧FC T s w (Am a0 gh0) S lend j l lv (fun gh S'=>W T S' w (VG gh) HV a v (fun _=>False)):=by
 subst hl;unfold Uy at ha
 split at ha
 ·rename_i e' xs hlk
  split at ha
  ·rename_i hc
   obtain⟨rfl,hkn,hle⟩:=hc;simp only [Cb,Prod.mk.injEq]at ha;obtain⟨ys,hys,rfl,rfl⟩:=ha;obtain⟨t,p,rfl,hg,hobj,hval⟩:=Cr hlk;obtain⟨v0,F0,hfo,hW0,_⟩:=h.focus hg;have hS:nJ s w (Am a0 gh0) (t::p) (.own e' xs) v0:=⟨rfl,.inr ⟨t,p,rfl,hg,hfo⟩⟩;have hfz:E5 (.own e' xs)=some (.sl e' ys):=by simp [E5,hys]
   obtain⟨hyl,_⟩:=K7 hys
   refine⟨[v0],⟨rfl,fun i q u hq hu=> ?_⟩,fun gh S' hS' _ hA=> ?_⟩
   ·cases i with
    |zero=>simp at hq hu;subst hq;subst hu;exact hS
    |succ i=>simp at hq
   ·have hWf:=hA rfl 0 (t::p,.own e' xs) v0 (.sl e' ys) rfl rfl hS hfz
    cases hW with
    |vs hE hlq hmq hv=>
     rename_i A q
     cases hWf with
     |sl us hE' hn' hc' hm' hx' hw'=>
      rename_i A0 n0 c0
      have hget: ∀(i:Nat) (x:D),((ys.drop (lo*T.size e')).take (len*T.size e'))[i]? =some x→ys[lo*T.size e'+i]? =some x∧0<len:=fun i x hi=>by
       have hlt:=(EI.1 hi).1;simp only [MH,List.length_drop]at hlt;rw [PP (by omega),MG]at hi
       refine⟨hi, ?_⟩
       rcases Nat.eq_zero_or_pos len with h0|h0
       ·subst h0;simp only [Nat.zero_mul]at hlt;omega
       ·exact h0
      refine .sl (fun i=>us (lo*T.size e'+i)) (fun _ h=>h) ?_ hlq hmq (fun i x hi=> ?_) (fun i x hi=> ?_)
      ·simp only [List.length_drop,MH];rw [hyl];rw [Nat.add_mul]at hle;omega
      ·obtain⟨hi,h0⟩:=hget i x hi;obtain⟨ad,hA1,_,hvp⟩:=hv h0;obtain⟨hv',ad',hfo',had',hptr⟩:=hvp hval;rw [hfo]at hfo'
       injection hfo' with hfo'
       subst hfo';obtain⟨ad2,h3,h4,h5⟩:=hx' _ x hi;simp only [La]at had';rw [had']at h3
       injection h3 with h3
       subst h3
       injection hptr with hptr
       injection hptr with hptr
       subst hptr
       exact⟨_,hA1,by rw [Jt];exact h4,by rw [IW];exact h5⟩
      ·obtain⟨hi,_⟩:=hget i x hi;exact hw' _ x hi
  ·cases ha
 ·cases ha
theorem WF: ∀(caps:List D) (j:Nat) {cs:List D} {lc:List (AB×D)} (us:Nat→Value),
  (∀(k:Nat) (x:D),caps[k]? =some x→WR T s rv w S x (us k) (fun _=>False))→Iz pm s j caps=some (cs,lc)→
  ∃lv:List Value,Im s w rv lc lv∧cs.length=caps.length∧(∀k:Nat,cs[k]? =some D.undef→caps[k]? =some D.undef)∧
   FC T s w rv S true j lc lv (fun gh S'=> ∀(k:Nat) (x:D),cs[k]? =some x→W T S' w (VG gh) HV x (us k) (fun _=>False)):=by
 intro caps
 induction caps with
 |nil=>
  intro j cs lc us _ ha;simp only [Iz,al,Prod.mk.injEq]at ha;obtain⟨rfl,rfl⟩:=ha
  exact⟨[],Im.nil,rfl,by simp,fun gh S' _ _ _ k x hk=>by simp at hk⟩
 |cons d caps ih=>
  intro j cs lc us hd ha;have h0:=hd 0 d rfl;have hd': ∀k x,caps[k]? =some x→WR T s rv w S x (us (k+1)) (fun _=>False):=fun k x hk=>hd (k+1) x (by simpa using hk)
  have join: ∀(a:D) (l1:List (AB×D)) (cs':List D) (l2:List (AB×D)),Eb true pm s j [] d=some (a,l1)→d.isObj=false→(a=D.undef→d=D.undef)→
    Iz pm s (j+l1.length) caps=some (cs',l2)→cs=a::cs'→lc=l1++l2→
    ∃lv:List Value,Im s w rv lc lv∧cs.length=(d::caps).length∧(∀k:Nat,cs[k]? =some D.undef→(d::caps)[k]? =some D.undef)∧
     FC T s w rv S true j lc lv (fun gh S'=> ∀(k:Nat) (x:D),cs[k]? =some x→W T S' w (VG gh) HV x (us k) (fun _=>False)):=by
   intro a l1 cs' l2 hc ho hu hr e1 e2;subst e1 e2;obtain⟨lv1,o1,g1⟩:=Kj h0 (fun h=>by rw [ho]at h;cases h) hc
   obtain⟨lv2,o2,hlen,hun,g2⟩:=ih (j+l1.length) (fun k=>us (k+1)) hd' hr
   refine⟨lv1++lv2,o1.append o2,by simp [hlen],fun k hk=> ?_,fun gh S' hS hg hA k x hk=> ?_⟩
   ·cases k with
    |zero=>simp only [NT,al]at hk ⊢;exact hu hk
    |succ k=>simp only [PQ]at hk ⊢;exact hun k hk
   ·cases k with
    |zero=>
     simp only [NT,al]at hk;subst hk;exact FC.left o1 g1 gh S' hS hg hA
    |succ k=>
     simp only [PQ]at hk;exact FC.right o1 g2 gh S' hS hg hA k x hk
  unfold Iz at ha
  split at ha
  ·rename_i L n m
   split at ha
   ·rename_i c hl
    obtain⟨⟨cs',l2⟩,hr,he⟩:=Cb.1 ha;simp only [Prod.mk.injEq]at he;exact join (.vw [G+j] 0 0) [(L,c)] cs' l2 (by simp [Eb,hl]) rfl (fun h=>by cases h) hr he.1.symm he.2.symm
   ·cases ha
  ·rename_i ys
   obtain⟨⟨cs',l2⟩,hr,he⟩:=Cb.1 ha;simp only [Prod.mk.injEq]at he;exact join (.cptr ys) [] cs' l2 (by simp [Eb]) rfl (fun h=>by cases h) hr he.1.symm he.2.symm
  ·obtain⟨⟨cs',l2⟩,hr,he⟩:=Cb.1 ha;simp only [Prod.mk.injEq]at he;obtain⟨rfl,rfl⟩:=he;obtain⟨lv2,o2,hlen,hun,g2⟩:=ih j (fun k=>us (k+1)) hd' hr
   refine⟨lv2,o2,by simp [hlen],fun k hk=> ?_,fun gh S' hS hg hA k x hk=> ?_⟩
   ·cases k with
    |zero=>rfl
    |succ k=>simp only [PQ]at hk ⊢;exact hun k hk
   ·cases k with
    |zero=>
     simp only [NT,al]at hk;subst hk;exact .undef (fun _ h=>h)
    |succ k=>
     simp only [PQ]at hk;exact g2 gh S' hS hg hA k x hk
  ·cases ha
theorem Zo: ∀(caps:List D) (j:Nat) {cs:List D} {lc:List (AB×D)} (us:Nat→Value),
  (∀(k:Nat) (x:D),caps[k]? =some x→WR T s rv w S x (us k) (fun _=>False))→K4 pm s caps=some (cs,lc)→
  ∃lv:List Value,Im s w rv lc lv∧cs.length=caps.length∧
   FC T s w rv S false j lc lv (fun _ S'=> ∀(k:Nat) (x:D),cs[k]? =some x→W T S' w V0 HV x (us k) (fun _=>False)):=by
 intro caps
 induction caps with
 |nil=>
  intro j cs lc us _ ha;simp only [K4,al,Prod.mk.injEq]at ha;obtain⟨rfl,rfl⟩:=ha
  exact⟨[],Im.nil,rfl,fun gh S' _ _ _ k x hk=>by simp at hk⟩
 |cons d caps ih=>
  intro j cs lc us hd ha;have h0:=hd 0 d rfl;have hd': ∀k x,caps[k]? =some x→WR T s rv w S x (us (k+1)) (fun _=>False):=fun k x hk=>hd (k+1) x (by simpa using hk)
  have join: ∀(a:D) (l1:List (AB×D)) (cs':List D) (l2:List (AB×D)),Eb false pm s j [] d=some (a,l1)→d.isObj=false→
    K4 pm s caps=some (cs',l2)→cs=a::cs'→lc=l1++l2→
    ∃lv:List Value,Im s w rv lc lv∧cs.length=(d::caps).length∧
     FC T s w rv S false j lc lv (fun _ S'=> ∀(k:Nat) (x:D),cs[k]? =some x→W T S' w V0 HV x (us k) (fun _=>False)):=by
   intro a l1 cs' l2 hc ho hr e1 e2;subst e1 e2
   have first: ∃lv1:List Value,Im s w rv l1 lv1∧FC T s w rv S false j l1 lv1 (fun _ S'=>W T S' w V0 HV a (us 0) (fun _=>False)):=by
    rcases Ng h0 (fun h=>by rw [ho]at h;cases h) hc with⟨rfl,h⟩|⟨L,c,rfl,hS,h1,h2⟩
    ·exact⟨[],Im.nil,fun gh S' hS _ _=>h S' _ _ hS⟩
    ·exact⟨[us 0],⟨rfl,fun i q u hq hu=>by
      cases i with
      |zero=>simp at hq hu;subst hq;subst hu;exact hS
      |succ i=>simp at hq⟩,fun gh S' _ _ hA=>hA rfl 0 (L,c) (us 0) a rfl rfl hS (h2 rfl)⟩
   obtain⟨lv1,o1,g1⟩:=first
   obtain⟨lv2,o2,hlen,g2⟩:=ih (j+l1.length) (fun k=>us (k+1)) hd' hr
   refine⟨lv1++lv2,o1.append o2,by simp [hlen],fun gh S' hS hg hA k x hk=> ?_⟩
   cases k with
   |zero=>
    simp only [NT,al]at hk;subst hk;exact FC.left o1 g1 gh S' hS hg hA
   |succ k=>
    simp only [PQ]at hk;exact FC.right o1 g2 gh S' hS hg hA k x hk
  unfold K4 at ha
  split at ha
  ·rename_i L n m
   split at ha
   ·rename_i c hl
    obtain⟨c',hf,ha⟩:=Gl.1 ha;obtain⟨⟨cs',l2⟩,hr,he⟩:=Cb.1 ha;simp only [Prod.mk.injEq]at he;exact join c' [(L,c)] cs' l2 (by simp [Eb,hl,hf]) rfl hr he.1.symm he.2.symm
   ·cases ha
  ·rename_i ys
   obtain⟨⟨cs',l2⟩,hr,he⟩:=Cb.1 ha;simp only [Prod.mk.injEq]at he;exact join (.cptr ys) [] cs' l2 (by simp [Eb]) rfl hr he.1.symm he.2.symm
  ·cases ha
theorem Zp{N:Nat}{gh0:Nat→Value}{a0:Act}{lend:Bool}(h:Rel T s (Am a0 gh0) w S Fs){j:Nat}{L0:AB}{d a:D}{v:Value}{F:Nat→Prop}{l:List (AB×D)}(hW:WR T s (Am a0 gh0) w S d v F)
  (hsrc:(∃t,L0=[t]∧s.v t=d∧Am a0 gh0 t=v)∨(L0=[]∧(∀xs,d≠ .agg xs)∧(d.isObj=true→(∃e,d= .own e [])∧ ∃A,v= .slice A 0 0)))
  (ha:Jl T lend pm s j L0 d=some (a,l)): ∃lv,Im s w (Am a0 gh0) l lv∧FC T s w (Am a0 gh0) S lend j l lv (fun gh S'=>W T S' w (VG gh) HV a v (fun _=>False)):=by
 unfold Jl at ha
 split at ha
 ·rename_i p f caps
  split at ha
  ·cases ha
  ·rename_i hlp
   simp only [MQ,not_or,Bool.not_eq_true]at hlp;obtain⟨rfl,rfl⟩:=hlp;obtain⟨⟨cs,lc⟩,hc,he⟩:=Cb.1 ha;simp only [Prod.mk.injEq]at he;obtain⟨rfl,rfl⟩:=he
   cases hW with
   |ocl us hE hz hx hw hs hv=>
    rcases hv with⟨_,rfl⟩|⟨hp,_⟩
    ·obtain⟨lv,ho,hlen,hg⟩:=Zo caps j us hw hc
     refine⟨lv,ho,fun gh S' hS hgh hA=> ?_⟩
     have hW':=hg gh S' hS hgh hA;refine .clo us (fun _ h=>h) (by rw [hz,hlen]) (fun i x hi=> ?_) hW'
     have hi':i<caps.length:=by rw [←hlen];exact(EI.1 hi).1
     exact hx i _ (Gc hi')
    ·cases hp
 ·cases lend with
  |true=>cases ha
  |false=>exact Y8 (N:=N) h hW rfl ha
 ·exact WE hW hsrc ha
theorem KO{E:Env}{lend:Bool}{N:Nat}{gh0:Nat→Value}{a:Act}(h:Rel E.T s (Am a gh0) w S Fs)(hG:N≤G): ∀(xs:List (ac×ab)) (j:Nat) {as:List D} {ls:List (AB×D)},
  (∀q∈xs,BB N q.1)→Da E lend pm s j xs=some (as,ls)→ ∃lv,Im s w (Am a gh0) ls lv∧as.length=xs.length∧
   FC E.T s w (Am a gh0) S lend j ls lv (fun gh S'=> ∀(k:Nat) (x:D),as[k]? =some x→ ∃q:ac×ab,xs[k]? =some q∧W E.T S' w (VG gh) HV x (a.eval q.1) (fun _=>False)):=by
 intro xs
 induction xs with
 |nil=>
  intro j as ls _ ha;simp only [Da,al,Prod.mk.injEq]at ha;obtain⟨rfl,rfl⟩:=ha
  exact⟨[],Im.nil,rfl,fun gh S' _ _ _ k x hk=>by simp at hk⟩
 |cons q xs ih=>
  obtain⟨x,t⟩:=q;intro j as ls hok ha;simp only [Da]at ha
  split at ha
  ·cases ha
  ·rename_i d he
   split at ha
   ·cases ha
   ·rename_i b l hc
    split at ha
    ·cases ha
    ·rename_i as' ls' hcs
     simp only [al,Prod.mk.injEq]at ha;obtain⟨rfl,rfl⟩:=ha;have hx:=hok _ (Ke);have hW:=Eg h hG hx he
     obtain⟨lv1,o1,g1⟩:=Zp (N:=N) h hW (by
      cases x with
      |tmp u=>
       simp only [ev,al]at he;exact .inl ⟨u,rfl,he,(Dk hG hx).symm⟩
      |const v=>
       right
       refine⟨rfl,fun xs hxs=> ?_,fun ho=> ?_⟩
       ·subst hxs;simp only [ev,RQ]at he
        split at he<;>try (cases he;done)
        split at he<;>cases he
       ·simp only [ev,RQ]at he
        split at he<;>try (simp only [al]at he;subst he;simp [D.isObj]at ho;done)
        ·split at he
         ·simp only [al]at he;subst he
          exact⟨⟨_,rfl⟩,none,rfl⟩
         ·simp only [al]at he
          subst he;simp [D.isObj]at ho
         ·cases he
        ·cases he
      |func f=>
       simp only [ev,al]at he;subst he;exact .inr ⟨rfl,(fun xs hxs=>by cases hxs),(fun ho=>by simp [D.isObj]at ho)⟩
      |global g=>simp [ev]at he) hc
     obtain⟨lv2,o2,hlen,g2⟩:=ih (j+l.length) (fun q hq=>hok q (JG _ hq)) hcs
     refine⟨lv1++lv2,o1.append o2,by simp [hlen],fun gh S' hS hg hA k y hk=> ?_⟩
     cases k with
     |zero=>
      simp only [NT,al]at hk;subst hk
      exact⟨(x,t),rfl,FC.left o1 g1 gh S' hS hg hA⟩
     |succ k=>
      simp only [PQ]at hk;obtain⟨q,hq,hWq⟩:=FC.right o1 g2 gh S' hS hg hA k y hk
      exact⟨q,by simpa using hq,hWq⟩
end
end Dv
namespace Dv
open Go
def OZ(T:Tys)(gh:Nat→Value)(r:D)(outs:List D)(w:World)(S:Nat→Prop)(FL:Nat→Nat→Prop)(v:Value)(w':World):Prop:=
 ∃(S' F:Nat→Prop) (FL':Nat→Nat→Prop),W T S' w' V0 HV r v F∧(∀(j:Nat) (d:D),outs[j]? =some d→W T S' w' V0 HV d (gh j) (FL' j))∧
  (∀i j k,i≠j→FL' i k→ ¬FL' j k)∧(∀j k,F k→ ¬FL' j k)∧Step w S FL w' S' FL'∧(∀k,F k→(∃j,FL j k)∨w.heap.size≤k)∧(∀k,S' k→k<w'.heap.size)
def Good(P:Program)(T:Tys)(f:am)(args lent:List D)(r:D)(outs:List D):Prop:=
 (∃fn,P.funcs[f]? =some fn∧fn.body.isSome=true∧(fn.name== "runtime.NumGoroutine")=false)∧
 ∀(vs:Array Value) (gh:Nat→Value) (w:World) (S:Nat→Prop) (FL:Nat→Nat→Prop),vs.size=args.length→
  (∀(i:Nat) (d:D),args[i]? =some d→ ∃v,vs[i]? =some v∧W T S w (VG gh) HV d v (fun _=>False))→
  (∀(j:Nat) (d:D),lent[j]? =some d→W T S w V0 HV d (gh j) (FL j))→(∀j,lent.length≤j→Em (FL j))→(∀i j k,i≠j→FL i k→ ¬FL j k)→(∀k,S k→k<w.heap.size)→
  Calls P f vs w fun| .returned v,w'=>OZ T gh r outs w S FL v w'|_,_=>False
def Oa(P:Program)(E:Env):Prop:= ∀(f:am) (args lent:List D) (r:D) (outs:List D),E.call f args lent=some (r,outs)→Good P E.T f args lent r outs
theorem Ob{P:Program}{f:am}{fn:Func}{args:Array Value}(hf:P.funcs[f]? =some fn)(hb:fn.body.isSome=true)(hn:(fn.name== "runtime.NumGoroutine")=false)(w:World):
  (callFunc f args).run P w= .ok (.enter f args) w:=by
 have hb':fn.body≠none:=by cases h:fn.body<;>simp_all
 have hn':fn.name≠ "runtime.NumGoroutine" :=by simpa using hn
 simp [callFunc,hf,hb',hn']
def bT(L M:AB):Prop:= ¬L<+:M∧ ¬M<+:L
theorem bT.symm{L M:AB}(h:bT L M):bT M L:=⟨h.2,h.1⟩
theorem Ml{L:AB}{Ls:List AB}(h:Ed (L::Ls)=true):(L=[]∨ ∀M∈Ls,M=[]∨bT L M)∧Ed Ls=true:=by
 simp only [Ed,F9,MQ,List.isEmpty_iff,IQ,Kg,←Bool.not_eq_true,List.isPrefixOf_iff_prefix]at h
 exact⟨h.1,h.2⟩
theorem UR: ∀(p:AB) (d x:D) (q:AB),bT p q→BL (Gd d p x) q=BL d q:=by
 intro p
 induction p with
 |nil=>intro d x q h;exact(h.1 List.nil_prefix).elim
 |cons c p ih=>
  intro d x q h
  cases q with
  |nil=>exact(h.2 List.nil_prefix).elim
  |cons c' q=>
   have key: ∀xs:List D,((xs.set c (Gd (xs.getD c .undef) p x))[c']?).bind (fun d=>BL d q)=(xs[c']?).bind (fun d=>BL d q):=by
    intro xs;by_cases hc:c=c'
    ·subst hc;have hf:bT p q:=⟨fun hh=>h.1 (by simpa using hh),fun hh=>h.2 (by simpa using hh)⟩
     rcases Nat.lt_or_ge c xs.length with hl|hl
     ·simp only [List.getElem?_set_self hl,DT,Gc hl];rw [ih _ _ _ hf,Jg,Gc hl];rfl
     ·rw [List.set_eq_of_length_le hl]
    ·rw [List.getElem?_set_ne hc]
   cases d<;>first|rfl|(simp only [Gd,BL];exact key _)
theorem Qx{s:St}{L:AB}{x:D}{t:Nat}{p:AB}(h:L=[]∨bT L (t::p)):BL ((s.set L x).v t) p=BL (s.v t) p:=by
 unfold St.set
 cases L with
 |nil=>rfl
 |cons u q=>
  rcases h with h|h
  ·cases h
  ·by_cases hut:t=u
   ·subst hut;simp only [Al];exact UR _ _ _ _ ⟨fun hh=>h.1 (by simpa using hh),fun hh=>h.2 (by simpa using hh)⟩
   ·simp only [Ad _ _ hut]
def Mm(deep:Bool)(s:St)(L:AB)(c:D):St:=if L.isEmpty then s else if deep then(s.set L c).bump (L.headD 0)else s.set L c
theorem G9(deep:Bool)(s:St)(L:AB)(c:D)(rest:List (AB×D)):back deep s ((L,c)::rest)=back deep (Mm deep s L c) rest:=rfl
theorem KP(deep:Bool)(s:St)(L:AB)(c:D):(Mm deep s L c).v=(s.set L c).v:=by
 unfold Mm
 cases L with
 |nil=>rfl
 |cons t p=>cases deep<;>rfl
theorem nK(deep:Bool)(s:St)(L:AB)(c:D):(Mm deep s L c).k=s.k:=by
 unfold Mm
 cases L with
 |nil=>rfl
 |cons t p=>cases deep<;>rfl
theorem jP(deep:Bool){t:Nat}{p:AB}: ∀(l:List (AB×D)) (s:St),(∀q∈l,q.1=[]∨bT q.1 (t::p))→BL ((back deep s l).v t) p=BL (s.v t) p:=by
 intro l
 induction l with
 |nil=>intro s _;rfl
 |cons q l ih=>
  obtain⟨L,c⟩:=q;intro s h;rw [G9,ih _ (fun q hq=>h q (JG _ hq)),KP];exact Qx (h _ (Ke))
theorem WG(deep:Bool): ∀(l:List (AB×D)) (s:St),(back deep s l).k=s.k:=by
 intro l
 induction l with
 |nil=>intro s;rfl
 |cons q l ih=>obtain⟨L,c⟩:=q;intro s;rw [G9,ih,nK]
theorem Oc(deep:Bool)(s:St)(L:AB)(c:D)(t:Nat):(Mm deep s L c).m t=if L≠[]∧deep=true∧L.headD 0=t then s.m t+1 else s.m t:=by
 unfold Mm
 cases L with
 |nil=>simp
 |cons u p=>
  cases deep with
  |false=>simp [St.set]
  |true=>
   simp only [List.isEmpty_cons,Ik,if_false,if_true,St.bump,St.set,UC];by_cases h:t=u
   ·subst h;simp [Al]
   ·simp [Ad _ _ h,Ne.symm h]
theorem VF(deep:Bool)(t:Nat): ∀(l:List (AB×D)) (s:St),s.m t≤(back deep s l).m t:=by
 intro l
 induction l with
 |nil=>intro s;exact Hq _
 |cons q l ih=>
  obtain⟨L,c⟩:=q;intro s;rw [G9];refine Nat.le_trans ?_ (ih _);rw [Oc];split<;>omega
theorem fM(t:Nat): ∀(l:List (AB×D)) (s:St),(∃q∈l,q.1≠[]∧q.1.headD 0=t)→s.m t<(back true s l).m t:=by
 intro l
 induction l with
 |nil=>intro s ⟨q,hq,_⟩;cases hq
 |cons q l ih=>
  obtain⟨L,c⟩:=q;intro s ⟨q,hq,h1,h2⟩;rw [G9];rcases OH.1 hq with rfl|hq
  ·refine ZE ?_ (VF true t l _);rw [Oc,if_pos ⟨h1,rfl,h2⟩];omega
  ·refine Nat.lt_of_le_of_lt ?_ (ih _ ⟨q,hq,h1,h2⟩);rw [Oc];split<;>omega
theorem Od(t:Nat): ∀(l:List (AB×D)) (s:St),(back false s l).m t=s.m t:=by
 intro l
 induction l with
 |nil=>intro s;rfl
 |cons q l ih=>obtain⟨L,c⟩:=q;intro s;rw [G9,ih,Oc];simp
theorem SS(deep:Bool)(t:Nat): ∀(l:List (AB×D)) (s:St),(∀q∈l,q.1=[]∨q.1.headD 0≠t)→(back deep s l).v t=s.v t∧(back deep s l).m t=s.m t:=by
 intro l
 induction l with
 |nil=>intro s _;exact⟨rfl,rfl⟩
 |cons q l ih=>
  obtain⟨L,c⟩:=q;intro s h;rw [G9];obtain⟨h1,h2⟩:=ih (Mm deep s L c) (fun q hq=>h q (JG _ hq));rw [h1,h2,KP,Oc];rcases h _ (Ke)with h|h
  ·simp only at h;subst h;simp [St.set]
  ·cases L with
   |nil=>simp [St.set]
   |cons u p=>
    simp only [UC]at h;simp [St.set,Ad _ _ (Ne.symm h),h]
theorem Zq{d x:D}{c:Nat}{p:AB}:(Gd d (c::p) x).isObj=d.isObj:=by cases d<;>rfl
theorem VH(deep:Bool)(t:Nat): ∀(l:List (AB×D)) (s:St),(∀q∈l,q.1≠[t])→((back deep s l).v t).isObj=(s.v t).isObj:=by
 intro l
 induction l with
 |nil=>intro s _;rfl
 |cons q l ih=>
  obtain⟨L,c⟩:=q;intro s h;rw [G9,ih _ (fun q hq=>h q (JG _ hq)),KP];have:=h _ (Ke)
  cases L with
  |nil=>rfl
  |cons u p=>
   by_cases hut:t=u
   ·subst hut
    cases p with
    |nil=>exact(this rfl).elim
    |cons a p=>simp only [St.set,Al];exact Zq
   ·simp only [St.set,Ad _ _ hut]
structure RelV(T:Tys)(V:AB→Nat→Nat→Value→Prop)(Vp:AB→Nat→Nat→Nat→Value→Prop)(s:St)(rv:Nat→Value)(w:World)(S:Nat→Prop)(Fs:Nat→Nat→Prop):Prop where
 val: ∀t,W T S w V Vp (s.v t) (rv t) (Fs t)
 disj: ∀t u k,t≠u→Fs t k→ ¬Fs u k
section
variable {T:Tys} {s s':St} {rv:Nat→Value} {w w':World} {S S':Nat→Prop} {Fs:Nat→Nat→Prop} {pm:Pm}
variable {V:AB→Nat→Nat→Value→Prop} {Vp:AB→Nat→Nat→Nat→Value→Prop}
theorem RelV.focus(h:RelV T V Vp s rv w S Fs){t:Nat}{p:AB}{d:D}(hg:BL (s.v t) p=some d):
  ∃v F,Dj w rv (t::p)=some v∧W T S w V Vp d v F∧(∀k,F k→Fs t k)∧
   (∀(s':St) (d':D) (F':Nat→Prop),s'.v=(s.set (t::p) d').v→(∀k u,Fs u k→ ¬F k→ ¬F' k)→W T S w V Vp d' v F'→
    RelV T V Vp s' rv w S (KH Fs t (fun k=>(Fs t k∧ ¬F k)∨F' k))):=by
 obtain⟨v,F,hfo,hW,hsub,hset,_⟩:=(h.val t).focus d hg
 refine⟨v,F,hfo,hW,hsub,fun s' d' F' hs' hr hn=> ?_⟩
 refine⟨fun u=> ?_,fun u u' k hne=> ?_⟩
 ·rw [hs'];by_cases hut:u=t
  ·subst hut;simp only [St.set,Al];exact hset w S V Vp d' F' (fun k hf hn=>⟨rfl,(h.val u).notS k hf,hr k u hf hn⟩) (fun k hk=>⟨hk,rfl⟩) (fun _ _ _ _ h=>h) (fun _ _ _ _ _ h=>h) hn
  ·simp only [St.set,Ad _ _ hut];exact h.val u
 ·by_cases h1:u=t
  ·subst h1;have h2:u'≠u:=fun e=>hne e.symm;simp only [Al,Ad _ _ h2]
   rintro(⟨hf,_⟩|hf) hg
   ·exact h.disj u u' k hne hf hg
   ·exact hr k u' hg (fun hF=>h.disj u' u k h2 hg (hsub k hF)) hf
  ·by_cases h2:u'=t
   ·subst h2;simp only [Al,Ad _ _ h1];rintro hf (⟨hg,_⟩|hg)
    ·exact h.disj u u' k hne hf hg
    ·exact hr k u hf (fun hF=>h.disj u u' k h1 hf (hsub k hF)) hg
   ·simp only [Ad _ _ h1,Ad _ _ h2];exact h.disj u u' k hne
theorem Oe{Fs:Nat→Nat→Prop}{t:Nat}{F F':Nat→Prop}{u k:Nat}(h:KH Fs t (fun k=>(Fs t k∧ ¬F k)∨F' k) u k):Fs u k∨F' k:=by
 by_cases hut:u=t
 ·subst hut;simp only [Al]at h;exact h.imp (·.1) id
 ·rw [Ad _ _ hut]at h;exact .inl h
theorem W.undef_Em{v:Value}{F:Nat→Prop}(h:W T S w V Vp .undef v F):Em F:=by cases h with|undef h=>exact h
theorem fO: ∀(l:List (AB×D)) {s:St} {Fs:Nat→Nat→Prop},RelV T V Vp s rv w S Fs→Ed (l.map (·.1))=true→
  (∀q∈l,q.1=[]∨ ∃t p,q.1=t::p∧BL (s.v t) p=some q.2)→
  ∃(Fs1 FL:Nat→Nat→Prop),RelV T V Vp (back false s (l.map fun q=>(q.1,.undef))) rv w S Fs1∧
   (∀(i:Nat) (q:AB×D) (t:Nat) (p:AB),l[i]? =some q→q.1=t::p→BL ((back false s (l.map fun q=>(q.1,.undef))).v t) p=some .undef∧ ∃v,Dj w rv q.1=some v∧W T S w V Vp q.2 v (FL i))∧
   (∀i,(∀q,l[i]? =some q→q.1=[])→Em (FL i))∧(∀i j k,i≠j→FL i k→ ¬FL j k)∧(∀i u k,FL i k→ ¬Fs1 u k)∧(∀u k,Fs1 u k→Fs u k)∧
   (∀i k,FL i k→ ∃q t p,l[i]? =some q∧q.1=t::p∧Fs t k):=by
 intro l
 induction l with
 |nil=>
  intro s Fs h _ _
  exact⟨Fs,fun _ _=>False,h,by simp,fun _ _ _ h=>h,fun _ _ _ _ h=>h.elim,fun _ _ _ h=>h.elim,fun _ _ h=>h,fun _ _ h=>h.elim⟩
 |cons q l ih=>
  obtain⟨L,c⟩:=q;intro s Fs h hap hq;simp only [OG]at hap;obtain⟨ha,hap2⟩:=Ml hap;have hq0:=hq _ (Ke);simp only [OG,G9]
  cases L with
  |nil=>
   obtain⟨Fs1,FL,r1,r2,r3,r4,r5,r6,r7⟩:=ih h hap2 (fun q hm=>hq q (JG _ hm))
   refine⟨Fs1,fun i=>match i with|0=>fun _=>False|i+1=>FL i,r1,fun i q t p hi ht=> ?_,fun i hi=> ?_,fun i j k hij=> ?_,fun i u k=> ?_,r6,fun i k=> ?_⟩
   ·cases i with
    |zero=>simp at hi;subst hi;cases ht
    |succ i=>exact r2 i q t p (by simpa using hi) ht
   ·cases i with
    |zero=>exact fun _ h=>h
    |succ i=>exact r3 i (fun q hq=>hi q (by simpa using hq))
   ·cases i with
    |zero=>exact fun h=>h.elim
    |succ i=>cases j with
     |zero=>exact fun _ h=>h
     |succ j=>exact r4 i j k (by omega)
   ·cases i with
    |zero=>exact fun h=>h.elim
    |succ i=>exact r5 i u k
   ·cases i with
    |zero=>exact fun h=>h.elim
    |succ i=>intro hk;obtain⟨q,t,p,h1,h2⟩:=r7 i k hk;exact⟨q,t,p,by simpa using h1,h2⟩
  |cons t p=>
   have hg:BL (s.v t) p=some c:=by
    rcases hq0 with h|⟨t',p',h1,h2⟩
    ·cases h
    ·simp only at h1 h2;injection h1 with e1 e2;subst e1;subst e2;exact h2
   have hfar: ∀q∈l,q.1=[]∨bT (t::p) q.1:=fun q hm=>by
    rcases ha with ha|ha
    ·cases ha
    ·exact ha q.1 (aE hm)
   obtain⟨v,F,hfo,hW,hsub,hset⟩:=h.focus hg;have h1:=hset (Mm false s (t::p) .undef) .undef (fun _=>False) (by rw [KP]) (fun _ _ _ _ h=>h) (.undef fun _ h=>h)
   obtain⟨Fs1,FL,r1,r2,r3,r4,r5,r6,r7⟩:=ih h1 hap2 (fun q hm=>by
    rcases hq q (JG _ hm)with h|⟨t',p',e,hh⟩
    ·exact .inl h
    ·refine .inr ⟨t',p',e, ?_⟩;rw [KP,Qx]
     ·exact hh
     ·right
      rcases hfar q hm with h|h
      ·rw [h]at e;cases e
      ·rw [←e];exact h)
   have hFn: ∀u k,F k→ ¬Fs1 u k:=fun u k hf hu=>by
    have:=r6 u k hu
    by_cases hut:u=t
    ·subst hut;simp only [Al,or_false]at this;exact this.2 hf
    ·rw [Ad _ _ hut]at this;exact h.disj u t k hut this (hsub k hf)
   have hFL: ∀i k,FL i k→ ¬F k:=fun i k hi hf=>by
    obtain⟨q,t',p',_,_,hk⟩:=r7 i k hi;by_cases hut:t'=t
    ·subst hut;simp only [Al,or_false]at hk;exact hk.2 hf
    ·rw [Ad _ _ hut]at hk;exact h.disj t' t k hut hk (hsub k hf)
   refine⟨Fs1,fun i=>match i with|0=>F|i+1=>FL i,r1,fun i q t' p' hi ht=> ?_,fun i hi=> ?_,fun i j k hij=> ?_,fun i u k=> ?_,fun u k hu=> ?_,fun i k=> ?_⟩
   ·cases i with
    |zero=>
     simp only [NT,al]at hi;subst hi;simp only at ht
     injection ht with e1 e2
     subst e1;subst e2
     refine⟨?_,v,hfo,hW⟩
     rw [jP false]
     ·rw [KP];simp only [St.set,Al];exact iW hg
     ·intro q hm;simp only [Iy]at hm;obtain⟨q',hm,rfl⟩:=hm
      exact(hfar q' hm).imp id bT.symm
    |succ i=>exact r2 i q t' p' (by simpa using hi) ht
   ·cases i with
    |zero=>have:=hi _ rfl;cases this
    |succ i=>exact r3 i (fun q hq=>hi q (by simpa using hq))
   ·cases i with
    |zero=>cases j with
     |zero=>exact(hij rfl).elim
     |succ j=>exact fun hf hj=>hFL j k hj hf
    |succ i=>cases j with
     |zero=>exact fun hi hf=>hFL i k hi hf
     |succ j=>exact r4 i j k (by omega)
   ·cases i with
    |zero=>exact hFn u k
    |succ i=>exact r5 i u k
   ·rcases Oe (r6 u k hu)with h|h
    ·exact h
    ·exact h.elim
   ·cases i with
    |zero=>exact fun hf=>⟨_,t,p,rfl,rfl,hsub k hf⟩
    |succ i=>
     intro hk;obtain⟨q,t',p',h1,h2,h3⟩:=r7 i k hk
     refine⟨q,t',p',by simpa using h1,h2, ?_⟩
     rcases Oe h3 with h|h
     ·exact h
     ·exact h.elim
theorem jQ: ∀(l:List (AB×D)) {s:St} {Fs FL:Nat→Nat→Prop} {gh:Nat→Value},RelV T V Vp s rv w S Fs→Ed (l.map (·.1))=true→
  (∀(i:Nat) (q:AB×D),l[i]? =some q→q.1=[]∨ ∃t p,q.1=t::p∧BL (s.v t) p=some .undef∧Dj w rv q.1=some (gh i))→
  (∀(i:Nat) (q:AB×D),l[i]? =some q→W T S w V Vp q.2 (gh i) (FL i))→(∀i j k,i≠j→FL i k→ ¬FL j k)→(∀i u k,FL i k→ ¬Fs u k)→
  ∃(Fs1:Nat→Nat→Prop),RelV T V Vp (back true s l) rv w S Fs1∧ ∀u k,Fs1 u k→Fs u k∨ ∃j,FL j k:=by
 intro l
 induction l with
 |nil=>intro s Fs FL gh h _ _ _ _ _;exact⟨Fs,h,fun u k h=> .inl h⟩
 |cons q l ih=>
  obtain⟨L,c⟩:=q;intro s Fs FL gh h hap hq hw hd hn;simp only [OG]at hap;obtain⟨ha,hap2⟩:=Ml hap;rw [G9]
  cases L with
  |nil=>
   obtain⟨Fs1,r1,r2⟩:=ih (FL:=fun i=>FL (i+1)) (gh:=fun i=>gh (i+1)) h hap2 (fun i q hi=>hq (i+1) q (by simpa using hi)) (fun i q hi=>hw (i+1) q (by simpa using hi)) (fun i j k hij=>hd _ _ k (by omega)) (fun i=>hn (i+1))
   exact⟨Fs1,r1,fun u k hu=>(r2 u k hu).imp id (fun⟨j,hj⟩=>⟨_,hj⟩)⟩
  |cons t p=>
   have hfar: ∀q∈l,q.1=[]∨bT (t::p) q.1:=fun q hm=>by
    rcases ha with ha|ha
    ·cases ha
    ·exact ha q.1 (aE hm)
   obtain⟨hg,hfo0⟩:BL (s.v t) p=some .undef∧Dj w rv (t::p)=some (gh 0):=by
    rcases hq 0 _ rfl with h|⟨t',p',h1,h2,h3⟩
    ·cases h
    ·simp only at h1 h2 h3;injection h1 with e1 e2;subst e1;subst e2;exact⟨h2,h3⟩
   obtain⟨v,F,hfo,hW,hsub,hset⟩:=h.focus hg;have hFE:=hW.undef_Em;rw [hfo0]at hfo
   injection hfo with hfo
   subst hfo;have h1:=hset (Mm true s (t::p) c) c (FL 0) (by rw [KP]) (fun k u hu _ hf=>hn 0 u k hf hu) (hw 0 _ rfl)
   obtain⟨Fs1,r1,r2⟩:=ih (FL:=fun i=>FL (i+1)) (gh:=fun i=>gh (i+1)) h1 hap2 (fun i q hi=>by
    rcases hq (i+1) q (by simpa using hi)with h|⟨t',p',e,hh,hf⟩
    ·exact .inl h
    ·refine .inr ⟨t',p',e, ?_,hf⟩;rw [KP,Qx]
     ·exact hh
     ·right
      rcases hfar q (UB hi)with h|h
      ·rw [h]at e;cases e
      ·rw [←e];exact h) (fun i q hi=>hw (i+1) q (by simpa using hi)) (fun i j k hij=>hd _ _ k (by omega)) (fun i u k hi hu=>by
       rcases Oe hu with h|h
       ·exact hn (i+1) u k hi h
       ·exact hd (i+1) 0 k (by omega) hi h)
   refine⟨Fs1,r1,fun u k hu=> ?_⟩
   rcases r2 u k hu with h|⟨j,hj⟩
   ·rcases Oe h with h|h
    ·exact .inl h
    ·exact .inr ⟨0,h⟩
   ·exact .inr ⟨_,hj⟩
theorem Zr: ∀(l:List (AB×D)) {l':List (AB×D)} {s:St} {S:Nat→Prop} {Fs:Nat→Nat→Prop},Ho l=some l'→Ed (l.map (·.1))=true→Rel T s rv w S Fs→
  (∀q∈l,q.1=[]∨ ∃t p,q.1=t::p∧BL (s.v t) p=some q.2)→
  ∃(S1:Nat→Prop) (Fs1:Nat→Nat→Prop),Rel T (back false s l') rv w S1 Fs1∧Step w S Fs w S1 Fs1∧
   (∀(q:AB×D) (v:Value) (c':D),q∈l→nJ s w rv q.1 q.2 v→E5 q.2=some c'→W T S1 w V0 HV c' v (fun _=>False)):=by
 intro l
 induction l with
 |nil=>
  intro l' s S Fs hf _ h _;simp only [Ho,al]at hf;subst hf
  exact⟨S,Fs,h,Step.refl _ _ _,fun q v c' hq=>by cases hq⟩
 |cons q l ih=>
  obtain⟨L,c⟩:=q;intro l' s S Fs hf hap h hq;simp only [Ho,Gl,Cb]at hf;obtain⟨c',hc',ls',hls,rfl⟩:=hf;simp only [OG]at hap;obtain⟨ha,hap2⟩:=Ml hap;rw [G9]
  have hsrc0: ∀(q:AB×D) (v:Value) (c':D) (S1:Nat→Prop),q.1=[]→nJ s w rv q.1 q.2 v→E5 q.2=some c'→W T S1 w V0 HV c' v (fun _=>False):=by
   intro q v c' S1 e hs hf;obtain⟨_,⟨_,⟨e1,h1⟩,A,h2⟩|⟨t,p,h1,_⟩⟩:=hs
   ·have:W T S1 w V0 HV (.own e1 []) (.slice A 0 0) (fun _=>False):= .own0 fun _ h=>h
    rw [h1]at hf;rw [h2];exact this.freeze c' hf (fun _ h=>h.elim) (fun _ h=>h)
   ·rw [e]at h1;cases h1
  cases L with
  |nil=>
   obtain⟨S1,Fs1,r1,r2,r3⟩:=ih hls hap2 h (fun q hm=>hq q (JG _ hm))
   refine⟨S1,Fs1,r1,r2,fun q v d hm hs hf=> ?_⟩
   rcases OH.1 hm with rfl|hm
   ·exact hsrc0 _ v d S1 rfl hs hf
   ·exact r3 q v d hm hs hf
  |cons t p=>
   have hfar: ∀q∈l,q.1=[]∨bT (t::p) q.1:=fun q hm=>by
    rcases ha with ha|ha
    ·cases ha
    ·exact ha q.1 (aE hm)
   have hg:BL (s.v t) p=some c:=by
    rcases hq _ (Ke)with h|⟨t',p',h1,h2⟩
    ·cases h
    ·simp only at h1 h2;injection h1 with e1 e2;subst e1;subst e2;exact h2
   obtain⟨v,F,hfo,hW,hsub,hset,_⟩:=h.focus hg;have hk:=Keeps.set0 (w:=w) (rv:=rv) hg (ND c c' hc');have hWf:W T (fun k=>S k∨F k) w V0 HV c' v (fun _=>False):=hW.freeze c' hc' (fun k hk=> .inr hk) (fun k hk=> .inl hk);have h1:=hset w (fun k=>S k∨F k) (s.set (t::p) c') c' (fun _=>False) rfl (fun k u hu hn=>⟨rfl,fun hs=>hs.elim ((h.val u).notS k hu) hn,id⟩) (fun k hk=>⟨.inl hk,rfl⟩) (fun k hs=>hs.elim (h.lt k) (hW.lt k)) hk hWf.up;have hset':Mm false s (t::p) c'=s.set (t::p) c':=rfl
   have hstep:Step w S Fs w (fun k=>S k∨F k) (KH Fs t (fun k=>(Fs t k∧ ¬F k)∨False)):=
    Step.of_sub (fun k hk=> .inl hk) (fun k hk=>hk.imp id (fun hf=>⟨t,hsub k hf⟩)) (fun u k hu=>(Oe hu).elim (fun h=>⟨u,h⟩) (fun h=>h.elim))
   have hst2: ∀q∈l,∀t' p',q.1=t'::p'→BL ((s.set (t::p) c').v t') p'=BL (s.v t') p':=fun q hm t' p' e=>by
    refine Qx (.inr ?_);rcases hfar q hm with h|h
    ·rw [h]at e;cases e
    ·rw [←e];exact h
   rw [hset']
   obtain⟨S1,Fs1,r1,r2,r3⟩:=ih hls hap2 h1 (fun q hm=>by
    rcases hq q (JG _ hm)with h|⟨t',p',e,hh⟩
    ·exact .inl h
    ·exact .inr ⟨t',p',e,by rw [hst2 q hm t' p' e];exact hh⟩)
   refine⟨S1,Fs1,r1,hstep.trans r2,fun q u d hm hs hf=> ?_⟩
   rcases OH.1 hm with rfl|hm
   ·simp only at hf;rw [hc']at hf
    injection hf with hf
    subst hf
    have hu:u=v:=by
     obtain⟨_,⟨h1,_⟩|⟨t',p',h1,h2,h3⟩⟩:=hs
     ·cases h1
     ·simp only at h3;rw [hfo]at h3;injection h3 with h3;exact h3.symm
    subst hu;exact W.mono (fun k hk=>⟨r2.sS k hk,rfl⟩) hWf _ _ (fun _ _ _ _ h=>h) (fun _ _ _ _ _ h=>h) (fun _ h=>h.elim)
   ·refine r3 q u d hm ?_ hf;obtain⟨ho,h1|⟨t',p',h1,h2,h3⟩⟩:=hs
    ·exact⟨ho,.inl h1⟩
    ·exact⟨ho,.inr ⟨t',p',h1,by rw [hst2 q hm t' p' h1];exact h2,h3⟩⟩
end
end Dv
namespace Dv
open Go
section
variable {P:Program} {E:Env} {s s':St} {gh:Nat→Value} {a:Act} {w w':World} {S:Nat→Prop} {Fs:Nat→Nat→Prop} {N:Nat} {pm:Pm}
theorem NH{T:Tys}{S0:Nat→Prop}{gh0:Nat→Value}{xs:List (ac×ab)}{as caps:List D}{args vcaps:Array Value}(hlen:as.length=xs.length)(hsz:args.size=xs.length)
  (hargs: ∀(i:Nat) (q:ac×ab),xs[i]? =some q→args[i]? =some (a.eval q.1))
  (h: ∀(k:Nat) (x:D),as[k]? =some x→ ∃q:ac×ab,xs[k]? =some q∧W T S0 w (VG gh0) HV x (a.eval q.1) (fun _=>False))
  (hc:vcaps.size=caps.length)(hcaps: ∀(i:Nat) (d:D),caps[i]? =some d→ ∃v,vcaps[i]? =some v∧W T S0 w (VG gh0) HV d v (fun _=>False)):
  (args++vcaps).size=(as++caps).length∧ ∀(i:Nat) (d:D),(as++caps)[i]? =some d→ ∃v,(args++vcaps)[i]? =some v∧W T S0 w (VG gh0) HV d v (fun _=>False):=by
 refine⟨by simp [hlen,hsz,hc],fun i d hi=> ?_⟩
 rcases Nat.lt_or_ge i as.length with hl|hl
 ·rw [MP hl]at hi;obtain⟨q,hq,hW⟩:=h i d hi
  exact⟨_,by rw [Array.getElem?_append_left (by omega)];exact hargs i q hq,hW⟩
 ·rw [MO hl]at hi;obtain⟨v,hv,hW⟩:=hcaps _ d hi
  exact⟨v,by rw [Array.getElem?_append_right (by omega),show i-args.size=i-as.length by omega];exact hv,hW⟩
theorem WH{T:Tys}{S0:Nat→Prop}{gh0:Nat→Value}{caps:List D}{vcaps:Array Value}(hS: ∀k,S k→S0 k)
  (hcaps: ∀(i:Nat) (d:D),caps[i]? =some d→ ∃v,vcaps[i]? =some v∧W T S w V0 HV d v (fun _=>False)):
  ∀(i:Nat) (d:D),caps[i]? =some d→ ∃v,vcaps[i]? =some v∧W T S0 w (VG gh0) HV d v (fun _=>False):=by
 intro i d hi;obtain⟨v,hv,hW⟩:=hcaps i d hi
 exact⟨v,hv,(W.mono (fun k hk=>⟨hS k hk,rfl⟩) hW V0 HV (fun _ _ _ _ h=>h) (fun _ _ _ _ _ h=>h) (fun _ h=>h.elim)).up⟩
theorem Y9{c:Call}{ts:List ab}(hsz:c.args.size=ts.length):(c.args.map a.eval).size=(c.args.toList.zip ts).length∧
  ∀(i:Nat) (q:ac×ab),(c.args.toList.zip ts)[i]? =some q→(c.args.map a.eval)[i]? =some (a.eval q.1):=by
 refine⟨by simp [hsz],fun i q hi=> ?_⟩
 rw [bb]at hi;rw [Array.getElem?_map];have:c.args[i]? =some q.1:=by simpa using hi.1
 rw [this];rfl
theorem WI(h:Fr E.T N gh s a w S Fs){xs:List (ac×ab)}(hxs: ∀q∈xs,BB N q.1){as caps:List D}{ls:List (AB×D)}(ha:Da E false pm s 0 xs=some (as,ls))
  {args vcaps:Array Value}(hsz:args.size=xs.length)(hargs: ∀(i:Nat) (q:ac×ab),xs[i]? =some q→args[i]? =some (a.eval q.1))
  (hc:vcaps.size=caps.length)(hcaps: ∀(i:Nat) (d:D),caps[i]? =some d→ ∃v,vcaps[i]? =some v∧W E.T S w V0 HV d v (fun _=>False))
  {f:am}{r:D}{outs:List D}(hg:Good P E.T f (as++caps) [] r outs)(hno:Df r=false){dst:Option Tmp}(hd:D7 N dst):
  Calls P f (args++vcaps) w fun| .returned v,w'=>C8 E.T gh N (s.putO dst r) w S Fs (a.put dst v) w'|_,_=>False:=by
 obtain⟨lv,ho,hlen,hgi⟩:=KO h.rel h.small xs 0 hxs ha
 have hA:=hgi (fun _=>undef) (fun k=>S k∨ ∃u,Fs u k) (fun k hk=> .inl hk) (fun hl=>by cases hl) (fun _ i q v c' hq hv hs hf=>by
  obtain⟨_,⟨e,⟨e1,h1⟩,A,h2⟩|⟨t,p,h1,h2,h3⟩⟩:=hs
  ·have:W E.T (fun k=>S k∨ ∃u,Fs u k) w V0 HV (.own e1 []) (.slice A 0 0) (fun _=>False):= .own0 fun _ h=>h
   rw [h1]at hf;rw [h2];exact this.freeze c' hf (fun _ h=>h.elim) (fun _ h=>h)
  ·obtain⟨v',F,hfo,hW,hsub,_⟩:=h.rel.focus h2;rw [h1,hfo]at h3
   injection h3 with h3
   subst h3
   exact hW.freeze c' hf (fun k hk=> .inr ⟨t,hsub k hk⟩) (fun k hk=> .inl hk))
 obtain⟨e1,e2⟩:=NH hlen hsz hargs hA hc (WH (fun k hk=> .inl hk) hcaps);refine Calls.mono (hg.2 _ (fun _=>undef) w _ (fun _ _=>False) e1 e2 (fun j d hj=>by simp at hj) (fun _ _ _ h=>h) (fun _ _ _ _ h=>h.elim) (fun k hk=>hk.elim (h.rel.lt k) (fun⟨u,hu⟩=>(h.rel.val u).lt k hu))) ?_
 intro e w' he
 cases e with
 |returned v=>
  obtain⟨S',F,FL',hW,_,_,_,hst,hF,hlt⟩:=he;have hheap: ∀k,k<w.heap.size→w'.heap[k]? =w.heap[k]? :=fun k hk=>hst.heap k hk (fun _ h=>h);have hFn: ∀k,F k→w.heap.size≤k:=fun k hk=>(hF k hk).elim (fun⟨_,h⟩=>h.elim) id;have hW':W E.T S w' V0 HV r v F:=yf hW hno (fun k hk hs=>by have:=hFn k hk;have:=h.rel.lt k hs;omega)
  exact Bn (h.rel.grow hheap hst.size) hW'.up (fun t k _ hf hu=>by have:=hFn k hf;have:=(h.rel.val t).lt k hu;omega)
   ⟨hst.os,hst.tape,hst.output,hst.size,fun k hk _=>hheap k hk,fun _ h=>h,fun _ h=> .inl h,fun u k h=> .inl ⟨u,h⟩⟩ (fun k hk=> .inr (hFn k hk)) h.defs h.size h.small hd
 |panicked=>exact he.elim
 |outgrown=>exact he.elim
theorem bU{l:List (AB×D)}{lv:List Value}{rv:Nat→Value}(ho:Im s w rv l lv): ∀q∈l,q.1=[]∨ ∃t p,q.1=t::p∧BL (s.v t) p=some q.2:=by
 intro q hq;obtain⟨i,hi⟩:=ZB hq;have hlt:i<lv.length:=by rw [ho.1];exact(EI.1 hi).1
 obtain⟨_,⟨h,_⟩|⟨t,p,h1,h2,_⟩⟩:=ho.2 i q _ hi (Gc hlt)
 ·exact .inl h
 ·exact .inr ⟨t,p,h1,h2⟩
theorem YA(h:Fr E.T N gh s a w S Fs){xs:List (ac×ab)}(hxs: ∀q∈xs,BB N q.1){as caps:List D}{ls ls':List (AB×D)}(ha:Da E false pm s 0 xs=some (as,ls))
  {args vcaps:Array Value}(hsz:args.size=xs.length)(hargs: ∀(i:Nat) (q:ac×ab),xs[i]? =some q→args[i]? =some (a.eval q.1))
  (hc:vcaps.size=caps.length)(hcaps: ∀(i:Nat) (d:D),caps[i]? =some d→ ∃v,vcaps[i]? =some v∧W E.T S w V0 HV d v (fun _=>False))
  {f:am}{r:D}{outs:List D}(hg:Good P E.T f (as++caps) [] r outs)(hap:Ed (ls.map (·.1))=true)(hfz:Ho ls=some ls'){dst:Option Tmp}(hd:D7 N dst):
  Calls P f (args++vcaps) w fun| .returned v,w'=>C8 E.T gh N ((back false s ls').putO dst r) w S Fs (a.put dst v) w'|_,_=>False:=by
 obtain⟨lv,ho,hlen,hgi⟩:=KO h.rel h.small xs 0 hxs ha;obtain⟨S1,Fs1,r1,r2,r3⟩:=Zr ls hfz hap h.rel (bU ho);have hA:=hgi (fun _=>undef) S1 r2.sS (fun hl=>by cases hl) (fun _ i q v c' hq hv hs hf=>r3 q v c' (UB hq) hs hf)
 obtain⟨e1,e2⟩:=NH hlen hsz hargs hA hc (WH r2.sS hcaps);refine Calls.mono (hg.2 _ (fun _=>undef) w _ (fun _ _=>False) e1 e2 (fun j d hj=>by simp at hj) (fun _ _ _ h=>h) (fun _ _ _ _ h=>h.elim) r1.lt) ?_
 intro e w' he
 cases e with
 |returned v=>
  obtain⟨S',F,FL',hW,_,_,_,hst,hF,hlt⟩:=he;have hheap: ∀k,k<w.heap.size→w'.heap[k]? =w.heap[k]? :=fun k hk=>hst.heap k hk (fun _ h=>h);have hFn: ∀k,F k→w.heap.size≤k:=fun k hk=>(hF k hk).elim (fun⟨_,h⟩=>h.elim) id;have hk:=Keeps.grow r1 hheap
  have hnS: ∀u k,Fs1 u k→ ¬S' k:=fun u k hu hs=>by
   rcases hst.sS' k hs with h1|⟨_,h1⟩|h1
   ·exact(r1.val u).notS k hu h1
   ·exact h1
   ·have:=(r1.val u).lt k hu;omega
  have hrel:Rel E.T (back false s ls') (Am a gh) w' S' Fs1:=⟨fun t=>(r1.val t).keep hk (fun k hs=>⟨hst.sS k hs,hheap k (r1.lt k hs)⟩) (fun k hf=>⟨hnS t k hf,hheap k ((r1.val t).lt k hf)⟩),r1.disj,hlt⟩;refine Bn hrel hW.up (fun t k _ hf hu=>by have:=hFn k hf;have:=(r1.val t).lt k hu;omega) (r2.trans ⟨hst.os,hst.tape,hst.output,hst.size,fun k hk _=>hheap k hk,hst.sS,fun k hs=> ?_,fun u k h=> .inl ⟨u,h⟩⟩) (fun k hk=> .inr (hFn k hk)) h.defs h.size h.small hd
  rcases hst.sS' k hs with h1|⟨_,h1⟩|h1
  ·exact .inl h1
  ·exact h1.elim
  ·exact .inr (.inr h1)
 |panicked=>exact he.elim
 |outgrown=>exact he.elim
theorem YB{T:Tys}{rv:Nat→Value}(h:Rel T s rv w S Fs){l:List (AB×D)}{lv:List Value}(ho:Im s w rv l lv){outs:List D}(hlen:outs.length=l.length)
  (hheap: ∀t,(∀q∈l,q.1=[]∨q.1.headD 0≠t)→ ∀k,Fs t k→w'.heap[k]? =w.heap[k]?):Keeps s w rv (JI s (l.map (·.1)) outs) w' rv:=by
 have hzip: ∀L,L∈l.map (·.1)→ ∃q∈(l.map (·.1)).zip outs,q.1=L:=by
  intro L hL;obtain⟨i,hi⟩:=ZB hL;have hl:i<outs.length:=by rw [hlen];simpa using (EI.1 hi).1
  exact⟨(L,outs[i]),UB (i:=i) (by rw [bb];exact⟨hi,Gc hl⟩),rfl⟩
 refine⟨fun t=>by unfold JI;rw [WG,WG];exact Hq _,fun t=> ?_,fun L n m he hva=> ?_⟩
 ·unfold JI;refine Nat.le_trans ?_ (VF true t _ _);rw [Od];exact Hq _
 ·obtain⟨t,q,x,rfl,h1,h2,h3,h4⟩:=hva;unfold JI at h1 h2 h3;rw [WG,WG]at h1;by_cases htch: ∃q∈l,q.1≠[]∧q.1.headD 0=t
  ·obtain⟨q0,hm,hne,hhd⟩:=htch
   have hq:q=[]:=by
    rcases h2 with h2|h2
    ·exact h2
    ·obtain⟨q1,hm1,e1⟩:=hzip q0.1 (aE hm);have:=fM t ((l.map (·.1)).zip outs) (back false s ((l.map (·.1)).map fun L=>(L,.undef))) ⟨q1,hm1,by rw [e1];exact hne,by rw [e1];exact hhd⟩
     rw [Od]at this;have h5:=he.2;simp only [UC]at h5;omega
   subst hq;simp only [BL,al]at h3
   refine⟨⟨t,[],s.v t,rfl,h1,.inl rfl,rfl, ?_⟩,by simp [Dj,Aj]⟩
   by_cases hroot: ∃q∈l,q.1=[t]
   ·obtain⟨q2,hm2,e2⟩:=hroot;obtain⟨i,hi⟩:=ZB hm2;have hlt:i<lv.length:=by rw [ho.1];exact(EI.1 hi).1
    obtain⟨hob,⟨h5,_⟩|⟨t',p',h5,h6,_⟩⟩:=ho.2 i q2 _ hi (Gc hlt)
    ·rw [h5]at e2;cases e2
    ·rw [e2]at h5
     injection h5 with h5 h7
     subst h5;subst h7;simp only [BL,al]at h6;rw [h6];exact hob
   ·have hr: ∀L,L∈l.map (·.1)→L≠[t]:=fun L hL e=>by
     obtain⟨q',hm',e'⟩:=Iy.1 hL;exact hroot ⟨q',hm',e'.trans e⟩
    rw [←h3,VH,VH]at h4
    ·exact h4
    ·intro q hq;obtain⟨L,hL,rfl⟩:=Iy.1 hq;exact hr L hL
    ·intro q hq;exact hr q.1 (Vd hq).1
  ·have hu: ∀q∈l,q.1=[]∨q.1.headD 0≠t:=fun q hq=>by
    by_cases hn:q.1=[]
    ·exact .inl hn
    ·exact .inr fun e=>htch ⟨q,hq,hn,e⟩
   have hu1: ∀q∈(l.map (·.1)).map (fun L=>(L,D.undef)),q.1=[]∨q.1.headD 0≠t:=by
    intro q hq;obtain⟨L,hL,rfl⟩:=Iy.1 hq;obtain⟨q',hm',rfl⟩:=Iy.1 hL;exact hu q' hm'
   have hu2: ∀q∈(l.map (·.1)).zip outs,q.1=[]∨q.1.headD 0≠t:=by
    intro q hq;obtain⟨q',hm',e⟩:=Iy.1 (Vd hq).1;rw [←e];exact hu q' hm'
   obtain⟨b1,b2⟩:=SS true t _ (back false s ((l.map (·.1)).map fun L=>(L,.undef))) hu2;obtain⟨c1,c2⟩:=SS false t _ s hu1;rw [b1,c1]at h3;rw [b2,c2]at h2
   refine⟨⟨t,q,x,rfl,h1,h2,h3,h4⟩, ?_⟩
   simp only [Dj]
   exact(h.val t).follow_frame (hheap t hu) x h3
theorem VI(h:Fr E.T N gh s a w S Fs){args:List D}{ls:List (AB×D)}{lv:List Value}(ho:Im s w (Am a gh) ls lv){vs:Array Value}
  (e1:vs.size=args.length)(e2: ∀(i:Nat) (d:D),args[i]? =some d→ ∃v,vs[i]? =some v∧W E.T S w (VG fun j=>lv.getD j undef) HV d v (fun _=>False))
  {f:am}{r:D}{outs:List D}(hg:Good P E.T f args (ls.map (·.2)) r outs)(hap:Ed (ls.map (·.1))=true)(hok:ls.all (fun l=>Yz l.2)=true)(hol:outs.length=ls.length){dst:Option Tmp}(hd:D7 N dst):
  Calls P f vs w fun| .returned v,w'=>C8 E.T gh N ((JI s (ls.map (·.1)) outs).putO dst r) w S Fs (a.put dst v) w'|_,_=>False:=by
 have hV:RelV E.T (VR s w (Am a gh)) (VpR s w (Am a gh)) s (Am a gh) w S Fs:=⟨h.rel.val,h.rel.disj⟩;obtain⟨Fs1,FL,q1,q2,q3,q4,q5,q6,q7⟩:=fO ls hV hap (bU ho)
 have hlent: ∀(j:Nat) (q:AB×D),ls[j]? =some q→W E.T S w V0 HV q.2 (lv.getD j undef) (FL j):=by
  intro j q hj;have hlt:j<lv.length:=by rw [ho.1];exact(EI.1 hj).1
  have hgd:lv.getD j undef=lv[j]:=by simp [Jg,hlt]
  obtain⟨hob,⟨h1,⟨e,h2⟩,A,h3⟩|⟨t,p,h1,h2,h3⟩⟩:=ho.2 j q _ hj (Gc hlt)
  ·rw [hgd,h2,h3];exact .own0 (q3 j (fun q' hq'=>by rw [hj]at hq';injection hq' with hq';rw [←hq'];exact h1))
  ·obtain⟨_,v,hv,hW⟩:=q2 j q t p hj h1;rw [h3]at hv
   injection hv with hv
   rw [hgd,hv];exact WC q.2 hW (by simpa [Yz] using IQ.1 hok q (UB hj))
 refine Calls.mono (hg.2 _ (fun j=>lv.getD j undef) w S FL e1 e2 (fun j d hj=>by
   rw [LU]at hj;obtain⟨q,hq,rfl⟩:=Cb.1 hj
   exact hlent j q hq) (fun j hj=>q3 j (fun q hq=>by have:=(EI.1 hq).1;simp at hj;omega)) q4 h.rel.lt) ?_
 intro e w' he
 cases e with
 |returned v=>
  obtain⟨S',F,FL',hW,hWo,hd1,hd2,hst,hF,hlt⟩:=he;have hFs1lt: ∀u k,Fs1 u k→k<w.heap.size:=fun u k hu=>(h.rel.val u).lt k (q6 u k hu);have hheap1: ∀u k,Fs1 u k→w'.heap[k]? =w.heap[k]? :=fun u k hu=>hst.heap k (hFs1lt u k hu) (fun j hj=>q5 j u k hj hu)
  have hnS: ∀u k,Fs1 u k→ ¬S' k:=fun u k hu hs=>by
   rcases hst.sS' k hs with h1|⟨j,h1⟩|h1
   ·exact(q1.val u).notS k hu h1
   ·exact q5 j u k h1 hu
   ·have:=hFs1lt u k hu;omega
  have hFLS: ∀j k,FL j k→ ¬S k:=fun j k hj hs=>by
   obtain⟨q,t,p,_,_,hk⟩:=q7 j k hj
   exact(h.rel.val t).notS k hk hs
  have hSheap: ∀k,S k→S' k∧w'.heap[k]? =w.heap[k]? :=fun k hs=>⟨hst.sS k hs,hst.heap k (h.rel.lt k hs) (fun j hj=>hFLS j k hj hs)⟩
  have hV1:RelV E.T (VR s w (Am a gh)) (VpR s w (Am a gh)) (back false s (ls.map fun q=>(q.1,.undef))) (Am a gh) w' S' Fs1:=
   ⟨fun t=>W.mono hSheap (q1.val t) _ _ (fun _ _ _ _ h=>h) (fun _ _ _ _ _ h=>h) (fun k hk=>⟨hnS t k hk,hheap1 t k hk⟩),q1.disj⟩
  have hFLn: ∀j u k,FL' j k→ ¬Fs1 u k:=fun j u k hj hu=>by
   rcases hst.sF j k hj with⟨i,hi⟩|hge
   ·exact q5 i u k hi hu
   ·have:=hFs1lt u k hu;omega
  have hzg: ∀(i:Nat) (q:AB×D),((ls.map (·.1)).zip outs)[i]? =some q→ ∃q',ls[i]? =some q'∧q'.1=q.1∧outs[i]? =some q.2:=by
   intro i q hi;rw [bb,LU]at hi;obtain⟨q',h1,h2⟩:=Cb.1 hi.1
   exact⟨q',h1,h2,hi.2⟩
  obtain⟨Fs2,f1,f2⟩:=jQ ((ls.map (·.1)).zip outs) (FL:=FL') (gh:=fun j=>lv.getD j undef) hV1 (by
    have:((ls.map (·.1)).zip outs).map (·.1)=ls.map (·.1):=List.map_fst_zip (by simp [hol])
    rw [this];exact hap) (fun i q hi=>by
    obtain⟨q',h1,h2,h3⟩:=hzg i q hi
    cases hL:q.1 with
    |nil=>exact .inl rfl
    |cons t p=>
     right
     obtain⟨g1,v1,g2,g3⟩:=q2 i q' t p h1 (h2.trans hL)
     refine⟨t,p,rfl,g1, ?_⟩
     have hlt':i<lv.length:=by rw [ho.1];exact(EI.1 h1).1
     have hgd:lv.getD i undef=lv[i]:=by simp [Jg,hlt']
     obtain⟨hob,⟨h4,_⟩|⟨t',p',h4,h5,h6⟩⟩:=ho.2 i q' _ h1 (Gc hlt')
     ·rw [h2,hL]at h4;cases h4
     ·rw [h2,hL]at h6;simp only [hgd,←h6,Dj]
      exact(q1.val t).follow_frame (fun k hk=>hheap1 t k hk) _ g1)
   (fun i q hi=>by
    obtain⟨q',h1,h2,h3⟩:=hzg i q hi
    exact(hWo i q.2 h3).up) hd1 hFLn
  have hbk:JI s (ls.map (·.1)) outs=back true (back false s (ls.map fun q=>(q.1,.undef))) ((ls.map (·.1)).zip outs):=by
   unfold JI;rw [List.map_map];rfl
  have hkeep:Keeps s w (Am a gh) (JI s (ls.map (·.1)) outs) w' (Am a gh):=YB h.rel ho hol (fun t ht k hk=>by
   refine hst.heap k ((h.rel.val t).lt k hk) (fun j hj=> ?_);obtain⟨q,t',p,h1,h2,h3⟩:=q7 j k hj;rcases ht q (UB h1)with h4|h4
   ·rw [h4]at h2;cases h2
   ·rw [h2]at h4
    exact h.rel.disj t t' k (fun e=>h4 (by simpa using e.symm)) hk h3)
  have hFs2: ∀u k,Fs2 u k→(∃u,Fs u k)∨w.heap.size≤k:=fun u k hu=>by
   rcases f2 u k hu with h1|⟨j,h1⟩
   ·exact .inl ⟨u,q6 u k h1⟩
   ·rcases hst.sF j k h1 with⟨i,hi⟩|hge
    ·obtain⟨q,t',p,_,_,h3⟩:=q7 i k hi;exact .inl ⟨t',h3⟩
    ·exact .inr hge
  have hrel:Rel E.T (JI s (ls.map (·.1)) outs) (Am a gh) w' S' Fs2:=by
   refine⟨fun t=> ?_,f1.disj,hlt⟩
   have:=f1.val t
   rw [←hbk]at this;exact W.mono (fun k hk=>⟨hk,rfl⟩) this _ _ hkeep.VR hkeep.VpR (fun k hk=>⟨this.notS k hk,rfl⟩)
  refine Bn hrel hW.up (fun t k _ hf hu=> ?_) ⟨hst.os,hst.tape,hst.output,hst.size,fun k hk hn=>hst.heap k hk (fun j hj=> ?_),hst.sS,fun k hs=> ?_,hFs2⟩ (fun k hf=> ?_) h.defs h.size h.small hd
  ·rcases f2 t k hu with h1|⟨j,h1⟩
   ·rcases hF k hf with⟨j,hj⟩|hge
    ·exact q5 j t k hj h1
    ·have:=hFs1lt t k h1;omega
   ·exact hd2 j k hf h1
  ·obtain⟨q,t',p,_,_,h3⟩:=q7 j k hj;exact hn t' h3
  ·rcases hst.sS' k hs with h1|⟨j,h1⟩|h1
   ·exact .inl h1
   ·obtain⟨q,t',p,_,_,h3⟩:=q7 j k h1;exact .inr (.inl ⟨t',h3⟩)
   ·exact .inr (.inr h1)
  ·rcases hF k hf with⟨j,hj⟩|hge
   ·obtain⟨q,t',p,_,_,h3⟩:=q7 j k hj;exact .inl ⟨t',h3⟩
   ·exact .inr hge
 |panicked=>exact he.elim
 |outgrown=>exact he.elim
theorem Zt(h:Fr E.T N gh s a w S Fs){xs:List (ac×ab)}(hxs: ∀q∈xs,BB N q.1){as caps:List D}{ls:List (AB×D)}(ha:Da E true pm s 0 xs=some (as,ls))
  {args vcaps:Array Value}(hsz:args.size=xs.length)(hargs: ∀(i:Nat) (q:ac×ab),xs[i]? =some q→args[i]? =some (a.eval q.1))
  (hc:vcaps.size=caps.length)(hcaps: ∀(i:Nat) (d:D),caps[i]? =some d→ ∃v,vcaps[i]? =some v∧W E.T S w V0 HV d v (fun _=>False))
  {f:am}{r:D}{outs:List D}(hg:Good P E.T f (as++caps) (ls.map (·.2)) r outs)(hap:Ed (ls.map (·.1))=true)(hok:ls.all (fun l=>Yz l.2)=true)(hol:outs.length=ls.length){dst:Option Tmp}(hd:D7 N dst):
  Calls P f (args++vcaps) w fun| .returned v,w'=>C8 E.T gh N ((JI s (ls.map (·.1)) outs).putO dst r) w S Fs (a.put dst v) w'|_,_=>False:=by
 obtain⟨lv,ho,hlen,hgi⟩:=KO h.rel h.small xs 0 hxs ha;have hA:=hgi (fun j=>lv.getD j undef) S (fun _ h=>h) (fun _ i v hv=>by rw [Il,Jg,hv];rfl) (fun hl=>by cases hl)
 obtain⟨e1,e2⟩:=NH hlen hsz hargs hA hc (WH (fun _ h=>h) hcaps);exact VI h ho e1 e2 hg hap hok hol hd
theorem fP(h:Fr E.T N gh s a w S Fs){xs:List (ac×ab)}(hxs: ∀q∈xs,BB N q.1){as caps cs:List D}{ls lc:List (AB×D)}(ha:Da E true pm s 0 xs=some (as,ls))(hoc:Iz pm s ls.length caps=some (cs,lc))
  {args vcaps:Array Value}(hsz:args.size=xs.length)(hargs: ∀(i:Nat) (q:ac×ab),xs[i]? =some q→args[i]? =some (a.eval q.1)){f:am}{us:Nat→Value}
  (hc:vcaps.size=caps.length)(hcx: ∀(i:Nat) (d:D),caps[i]? =some d→vcaps[i]? =some (us i))(hcw: ∀(i:Nat) (d:D),caps[i]? =some d→WR E.T s (Am a gh) w S d (us i) (fun _=>False))
  (hself: ∀i,caps[i]? =some D.undef→ ∃ad,us i= .pointer (some ad)∧S ad.block∧w.cell? (ad.add 0)=some (.func (.func f) #[] vcaps))
  {r:D}{outs:List D}(hg:Good P E.T f (as++cs.map (NB f cs)) ((ls++lc).map (·.2)) r outs)(hap:Ed ((ls++lc).map (·.1))=true)(hok:(ls++lc).all (fun l=>Yz l.2)=true)(hol:outs.length=(ls++lc).length){dst:Option Tmp}(hd:D7 N dst):
  Calls P f (args++vcaps) w fun| .returned v,w'=>C8 E.T gh N ((JI s ((ls++lc).map (·.1)) outs).putO dst r) w S Fs (a.put dst v) w'|_,_=>False:=by
 obtain⟨lv1,ho1,hlen,hgi⟩:=KO h.rel h.small xs 0 hxs ha;obtain⟨lv2,ho2,hlc,hun,hgo⟩:=WF caps ls.length us hcw hoc;have ho:=ho1.append ho2;have hgd: ∀(i:Nat) (v:Value),(lv1++lv2)[i]? =some v→(lv1++lv2).getD i undef=v:=fun i v hv=>by rw [Jg,hv];rfl
 have hA:=FC.left (l2:=lc) (v2:=lv2) ho1 hgi (fun j=>(lv1++lv2).getD j undef) S (fun _ h=>h) (fun _ i v hv=>by rw [Il];exact hgd i v hv) (fun hl=>by cases hl)
 have hO:=FC.right (l1:=ls) (v1:=lv1) (j:=0) ho1 (by rw [Il];exact hgo) (fun j=>(lv1++lv2).getD j undef) S (fun _ h=>h) (fun _ i v hv=>by rw [Il];exact hgd i v hv) (fun hl=>by cases hl)
 have hvi: ∀(i:Nat) (d:D),cs[i]? =some d→vcaps[i]? =some (us i):=fun i d hi=>by
  have hlt:=(EI.1 hi).1;exact hcx i _ (Gc (by rw [←hlc];exact hlt))
 obtain⟨e1,e2⟩:=NH hlen hsz hargs hA (caps:=cs.map (NB f cs)) (vcaps:=vcaps) (by rw [hc,QY,hlc]) (fun i d hi=>by
  rw [LU]at hi;obtain⟨x,hx,rfl⟩:=Cb.1 hi
  refine⟨us i,hvi i x hx, ?_⟩
  by_cases hu:x=D.undef
  ·subst hu;obtain⟨ad,s1,s2,s3⟩:=hself i (hun i hx);rw [s1];exact .ocl us (fun _ h=>h) (by rw [hc,hlc]) hvi hO (fun k hk=>hself k (hun k hk)) (.inr ⟨rfl,ad,rfl,s2,s3⟩)
  ·have:NB f cs x=x:=by unfold NB;split<;>first|exact absurd rfl hu|rfl
   rw [this]
   exact hO i x hx)
 exact VI h ho e1 e2 hg hap hok hol hd
theorem jR(hK:Oa P E):j3 P E:=by
 intro pm s s' gh a w S Fs N Q o c f caps vcaps ts h hok hop hsz hcd hvc hcaps hrun;obtain⟨hd,hx⟩:=hok
 have hxs: ∀q∈c.args.toList.zip ts,BB N q.1:=fun q hq=>hx q.1 (by
  have:=(Vd hq).1
  rw [hop];simp only [Op.operands,Call.operands];simp;right;simpa using this)
 obtain⟨z1,z2⟩:=Y9 (a:=a) hsz
 have key: ∀ {args lent:List D} {r:D} {outs:List D},Good P E.T f args lent r outs→(Calls P f (c.args.map a.eval++vcaps) w fun| .returned v,w'=>C8 E.T gh N s' w S Fs (a.put o.dst v) w'|_,_=>False)→o.wp P a w (C8 E.T gh N s' w S Fs) Q:=by
  intro args lent r outs hg hcalls;obtain⟨⟨fn,hf,hb,hn⟩,_⟩:=hg;unfold Oper.wp;rw [hrun,Ob hf hb hn,Oper.upon_enter];refine Calls.mono hcalls ?_;intro e w' he
  cases e with
  |returned v=>exact he
  |panicked=>exact he.elim
  |outgrown=>exact he.elim
 unfold FW at hcd
 split at hcd
 ·split at hcd
  ·cases hcd
  ·rename_i as ls ha
   split at hcd
   ·rename_i hcond
    simp only [F9]at hcond
    split at hcd
    ·rename_i r outs hcall
     split at hcd
     ·rename_i hol
      simp only [al]at hcd;subst hcd;exact key (hK _ _ _ _ _ hcall) (Zt h hxs ha z1 z2 hvc hcaps (hK _ _ _ _ _ hcall) hcond.1.1 hcond.2 hol hd)
     ·cases hcd
    ·cases hcd
   ·cases hcd
 ·split at hcd
  ·cases hcd
  ·rename_i as ls ha
   split at hcd
   ·rename_i r outs hcall
    split at hcd
    ·split at hcd
     ·rename_i hcond
      simp only [F9]at hcond;simp only [Cb]at hcd;obtain⟨ls',hfz,rfl⟩:=hcd;exact key (hK _ _ _ _ _ hcall) (YA h hxs ha z1 z2 hvc hcaps (hK _ _ _ _ _ hcall) hcond.1 hfz hd)
     ·cases hcd
    ·rename_i hno
     simp only [al]at hcd;subst hcd;exact key (hK _ _ _ _ _ hcall) (WI h hxs ha z1 z2 hvc hcaps (hK _ _ _ _ _ hcall) (by simpa using hno) hd)
   ·cases hcd
theorem jS(hK:Oa P E):j4 P E:=by
 intro pm s s' gh a w S Fs N Q o c f caps vcaps us h hok hop hsz hcd hvc hcx hcw hself hrun;obtain⟨hd,hx⟩:=hok
 have hxs: ∀q∈c.args.toList.zip c.argTypes.toList,BB N q.1:=fun q hq=>hx q.1 (by
  have:=(Vd hq).1
  rw [hop];simp only [Op.operands,Call.operands];simp;right;simpa using this)
 obtain⟨z1,z2⟩:=Y9 (a:=a) (ts:=c.argTypes.toList) (by simpa using hsz)
 unfold M7 at hcd
 split at hcd
 ·cases hcd
 ·rename_i as ls ha
  split at hcd
  ·cases hcd
  ·rename_i cs lc hoc
   split at hcd
   ·rename_i hcond
    simp only [F9]at hcond
    split at hcd
    ·rename_i r outs hcall
     split at hcd
     ·rename_i hol
      simp only [al]at hcd;subst hcd;have hg:=hK _ _ _ _ _ hcall;have hcalls:=fP h hxs ha hoc z1 z2 hvc hcx hcw hself hg hcond.1.1 hcond.2 hol hd;obtain⟨⟨fn,hf,hb,hn⟩,_⟩:=hg;unfold Oper.wp;rw [hrun,Ob hf hb hn,Oper.upon_enter];refine Calls.mono hcalls ?_;intro e w' he
      cases e with
      |returned v=>exact he
      |panicked=>exact he.elim
      |outgrown=>exact he.elim
     ·cases hcd
    ·cases hcd
   ·cases hcd
theorem bV(hK:Oa P E):JD P E:=⟨jR hK,jS hK⟩
end
end Dv
namespace Dv
open Go
def YC(a:Act):ResultVar→Sem Value
 | .tmp t=>pure (a.tmps.getD t undef)
 | .cell x t=>do loadVar t (←asAddr (a.tmps.getD x undef))
def VJ(N:Nat):ResultVar→Bool
 | .tmp t=>decide (t<N)
 | .cell t _=>decide (t<N)
section
variable {P:Program} {T:Tys} {s s':St} {gh:Nat→Value} {a:Act} {w w':World} {S:Nat→Prop} {Fs:Nat→Nat→Prop} {N:Nat}
theorem Zu(hG:N≤G){t:Nat}(ht:t<N):a.tmps.getD t undef=Am a gh t:=by
 have:t<G:=by omega
 simp [Am,this]
theorem Og(h:Ba P T){t:ab}(hk:T.known t=true)(hs:T.isStruct t=false){w:World}{A:Addr}{u:Value}(hc:w.cell? A=some u):(loadVar t A).run P w= .ok u w:=by
 simp [loadVar,h.isAgg hk,hs,hc]
theorem Oh(h:Ba P T){t:ab}(hk:T.known t=true)(hs:T.isStruct t=true){w:World}{A:Addr}(f:Nat→Value)(hc: ∀j,j<T.size t→w.cell? (A.add j)=some (f j)):
  (loadVar t A).run P w= .ok (.agg ((an (T.size t)).map f).toArray) w:=by
 simp [loadVar,h.isAgg hk,hs,h.szOf hk,run_loadCells w A (T.size t) f hc]
theorem SV(hT:Ba P T)(h:Rel T s (Am a gh) w S Fs)(hG:N≤G){r:ResultVar}(hr:VJ N r=true){d:D}(hd:Re T s r=some (d,s')):
  ∃v,(YC a r).run P w= .ok v w∧ ∃S' Fs' F,Rel T s' (Am a gh) w S' Fs'∧Hand T s' (Am a gh) w S' Fs' d v F∧Keeps s w (Am a gh) s' w (Am a gh)∧Sub S Fs S' Fs' F:=by
 cases r with
 |tmp t=>
  simp only [VJ,decide_eq_true_eq]at hr;have ht:take T Pm.all s 0 (.tmp t)=some (d,s'):=by simpa [take,ev,Re] using hd
  obtain⟨S',Fs',F,h1,h2,h3,h4,h5,h6⟩:=Fa h hG (x:= .tmp t) hr ht;rw [Dk (gh:=gh) hG hr]at h2
  refine⟨Am a gh t,by simp only [YC,Sem.run_pure];rw [Zu (gh:=gh) hG hr],S',Fs',F,h1,h2,h3,h4.sS,fun k hk=> ?_,h6,h5⟩
  rcases h4.sS' k hk with h|h|h
  ·exact .inl h
  ·exact .inr h
  ·have:=h1.lt k hk;omega
 |cell t ty=>
  simp only [VJ,decide_eq_true_eq]at hr;simp only [Re]at hd
  split at hd
  ·rename_i hk
   have hW:=h.val t
   split at hd
   ·rename_i xs hv
    rw [hv]at hW;have hrv:=Zu (a:=a) (gh:=gh) hG hr;generalize hgen:Am a gh t=v0 at hW
    cases hW with
    |box us Fi hb hz hx hF hFb hdj hS hw=>
     rename_i ty0 b cs
     have hcell: ∀i x,xs[i]? =some x→w.cell? (Addr.add ⟨b,0,none⟩ i)=some (us i):=fun i x hi=>by rw [LZ hb];exact hx i x hi
     have hkc:=Keeps.clr s w (Am a gh) t;have hcl:=h.clr t
     have hnF: ∀i u k,i<xs.length→Fi i k→ ¬KH Fs t (fun _=>False) u k:=fun i u k hi hf hu=>by
      by_cases hut:u=t
      ·subst hut;simp [Al]at hu
      ·rw [Ad _ _ hut]at hu;exact h.disj u t k hut hu ((hF k).2 (.inr ⟨i,hi,hf⟩))
     have hsub: ∀u k,KH Fs t (fun _=>False) u k→Fs u k:=fun u k hu=>by
      by_cases hut:u=t
      ·subst hut;simp [Al]at hu
      ·rwa [Ad _ _ hut]at hu
     split at hd
     ·rename_i hst
      split at hd
      ·rename_i hlen
       simp only [Cb,Prod.mk.injEq]at hd;obtain⟨⟨ys,s1⟩,hts,rfl,rfl⟩:=hd;obtain⟨S',Fs',Gi,r1,r2,r3,r4,r5,r6,r7,r8,r9,r10⟩:=Lc xs hts hcl us Fi (fun i x hi=>WR.same (hw i x hi) hkc) hnF hdj
       refine⟨.agg ((an (T.size ty)).map us).toArray, ?_,S',Fs',fun k=> ∃i,i<ys.length∧Gi i k,r1,⟨?_,fun u k ⟨i,hi,hk⟩=>r4 i u k hi hk⟩,hkc.trans r6,r7,fun k hs=> ?_,fun u k hu=>hsub u k (r9 u k hu),fun k ⟨i,hi,hk⟩=> ?_⟩
       ·simp only [YC,hrv,hgen,asAddr,Sem.run_bind,Sem.run_pure];exact Oh hT hk hst us (fun j hj=>hcell j _ (Gc (by omega)))
       ·refine .agg us Gi (by simp [r2,hlen]) (fun i x hi=> ?_) (fun _=>Iff.rfl) r5 r3
        have:=(EI.1 hi).1
        simp only at this r2;have hi':i<T.size ty:=by omega
        simp [hi']
       ·rcases r8 k hs with h|⟨u,hu⟩|⟨i,hi,hf⟩
        ·exact .inl h
        ·exact .inr ⟨u,hsub u k hu⟩
        ·exact .inr ⟨t,(hF k).2 (.inr ⟨i,hi,hf⟩)⟩
       ·rcases r10 i k hi hk with hf|⟨u,hu⟩
        ·exact⟨t,(hF k).2 (.inr ⟨i,by omega,hf⟩)⟩
        ·exact⟨u,hsub u k hu⟩
      ·cases hd
     ·rename_i hst
      split at hd
      ·rename_i d0
       obtain⟨S',Fs',F',r1,r2,r3,r4⟩:=Gr d0 hd hcl ⟨WR.same (hw 0 d0 rfl) hkc,fun u k hf=>hnF 0 u k (by simp) hf⟩
       refine⟨us 0, ?_,S',Fs',F',r1,r2,hkc.trans r3,r4.sS,fun k hs=> ?_,fun u k hu=>hsub u k (r4.sF u k hu),fun k hk=> ?_⟩
       ·simp only [YC,hrv,hgen,asAddr,Sem.run_bind,Sem.run_pure];have h0:=hcell 0 d0 rfl;rw [add_zero]at h0;exact Og hT hk (by simpa using hst) h0
       ·rcases r4.sS' k hs with h|⟨u,hu⟩|hf
        ·exact .inl h
        ·exact .inr ⟨u,hsub u k hu⟩
        ·exact .inr ⟨t,(hF k).2 (.inr ⟨0,by simp,hf⟩)⟩
       ·rcases r4.sH k hk with hf|⟨u,hu⟩
        ·exact⟨t,(hF k).2 (.inr ⟨0,by simp,hf⟩)⟩
        ·exact⟨u,hsub u k hu⟩
      ·cases hd
   ·rename_i xs hv
    rw [hv]at hW;have hrv:=Zu (a:=a) (gh:=gh) hG hr;generalize hgen:Am a gh t=v0 at hW
    cases hW with
    |cptr us hE hx hw=>
     rename_i ad
     split at hd
     ·rename_i hst
      split at hd
      ·rename_i hlen
       simp only [al,Prod.mk.injEq]at hd;obtain⟨rfl,rfl⟩:=hd
       refine⟨.agg ((an (T.size ty)).map us).toArray, ?_,S,Fs,fun _=>False,h,⟨?_,fun _ _ h=>h.elim⟩,Keeps.refl _ _ _,fun _ h=>h,fun _ h=> .inl h,fun _ _ h=>h,fun _ h=>h.elim⟩
       ·simp only [YC,hrv,hgen,asAddr,Sem.run_bind,Sem.run_pure];exact Oh hT hk hst us (fun j hj=>(hx j _ (Gc (by omega))).2)
       ·refine .agg us (fun _ _=>False) (by simp [hlen]) (fun i x hi=> ?_) (fun k=>⟨fun h=>h.elim,fun⟨_,_,h⟩=>h⟩) (fun _ _ _ _ _ _ h=>h.elim) (fun i x hi=>(hw i x hi).up)
        have:=(EI.1 hi).1
        have hi':i<T.size ty:=by omega
        simp [hi']
      ·cases hd
     ·rename_i hst
      split at hd
      ·rename_i d0
       simp only [al,Prod.mk.injEq]at hd;obtain⟨rfl,rfl⟩:=hd
       refine⟨us 0, ?_,S,Fs,fun _=>False,h,⟨(hw 0 d0 rfl).up,fun _ _ h=>h.elim⟩,Keeps.refl _ _ _,fun _ h=>h,fun _ h=> .inl h,fun _ _ h=>h,fun _ h=>h.elim⟩
       simp only [YC,hrv,hgen,asAddr,Sem.run_bind,Sem.run_pure];have h0:=(hx 0 d0 rfl).2;rw [add_zero]at h0;exact Og hT hk (by simpa using hst) h0
      ·cases hd
   ·cases hd
  ·cases hd
theorem YD(hT:Ba P T)(hG:N≤G): ∀(rs:List ResultVar) {s s':St} {S:Nat→Prop} {Fs:Nat→Nat→Prop} {ds:List D},Rel T s (Am a gh) w S Fs→rs.all (VJ N)=true→Km T s rs=some (ds,s')→
  ∃vs:List Value,(rs.mapM (YC a)).run P w= .ok vs w∧vs.length=rs.length∧ds.length=rs.length∧ ∃(S':Nat→Prop) (Fs' Gi:Nat→Nat→Prop),Rel T s' (Am a gh) w S' Fs'∧
   (∀(i:Nat) (d:D),ds[i]? =some d→ ∃v,vs[i]? =some v∧WR T s' (Am a gh) w S' d v (Gi i))∧(∀i t k,i<ds.length→Gi i k→ ¬Fs' t k)∧(∀i j k,i<ds.length→j<ds.length→i≠j→Gi i k→ ¬Gi j k)∧
   Keeps s w (Am a gh) s' w (Am a gh)∧(∀k,S k→S' k)∧(∀k,S' k→S k∨ ∃u,Fs u k)∧(∀u k,Fs' u k→Fs u k)∧(∀i k,i<ds.length→Gi i k→ ∃u,Fs u k):=by
 intro rs
 induction rs with
 |nil=>
  intro s s' S Fs ds h _ hd;simp only [Km,al,Prod.mk.injEq]at hd;obtain⟨rfl,rfl⟩:=hd
  exact⟨[],by simp,rfl,rfl,S,Fs,fun _ _=>False,h,by simp,by simp,by simp,Keeps.refl _ _ _,fun _ h=>h,fun _ h=> .inl h,fun _ _ h=>h,by simp⟩
 |cons r rs ih=>
  intro s s' S Fs ds h hok hd;simp only [PT,F9]at hok;simp only [Km,Gl,Cb,Prod.mk.injEq]at hd;obtain⟨⟨d,s1⟩,hd1,⟨ds',s2⟩,hds,rfl,rfl⟩:=hd;obtain⟨v,hv,S1,Fs1,F,r1,r2,r3,r4⟩:=SV (P:=P) hT h hG hok.1 hd1;obtain⟨vs,hvs,hl1,hl2,S2,Fs2,Gi,q1,q2,q3,q4,q5,q6,q7,q8,q9⟩:=ih r1 hok.2 hds
  have hFS2: ∀k,F k→ ¬S2 k:=fun k hf hs=>by
   rcases q7 k hs with h|⟨u,hu⟩
   ·exact r2.val.notS k hf h
   ·exact r2.apart u k hf hu
  refine⟨v::vs,by simp [List.mapM_cons,hv,hvs],by simp [hl1],by simp [hl2],S2,Fs2,fun i=>match i with|0=>F|i+1=>Gi i,q1,fun i x hi=> ?_,fun i t k hi=> ?_,fun i j k hi hj hij=> ?_,r3.trans q5,fun k hk=>q6 k (r4.sS k hk),fun k hk=> ?_,fun u k hu=>r4.sF u k (q8 u k hu),fun i k hi=> ?_⟩
  ·cases i with
   |zero=>
    simp only [NT,al]at hi;subst hi
    exact⟨v,rfl,WR.keep r2.val q5 (fun k hk=>⟨q6 k hk,rfl⟩) (fun k hf=>⟨hFS2 k hf,rfl⟩)⟩
   |succ i=>exact q2 i x (by simpa using hi)
  ·cases i with
   |zero=>exact fun hf hu=>r2.apart t k hf (q8 t k hu)
   |succ i=>exact q3 i t k (by simpa using hi)
  ·cases i with
   |zero=>cases j with
    |zero=>exact(hij rfl).elim
    |succ j=>
     intro hf hg;obtain⟨u,hu⟩:=q9 j k (by simpa using hj) hg
     exact r2.apart u k hf hu
   |succ i=>cases j with
    |zero=>
     intro hg hf;obtain⟨u,hu⟩:=q9 i k (by simpa using hi) hg
     exact r2.apart u k hf hu
    |succ j=>exact q4 i j k (by simpa using hi) (by simpa using hj) (by omega)
  ·rcases q7 k hk with h|⟨u,hu⟩
   ·exact r4.sS' k h
   ·exact .inr ⟨u,r4.sF u k hu⟩
  ·cases i with
   |zero=>exact r4.sH k
   |succ i=>
    intro hg;obtain⟨u,hu⟩:=q9 i k (by simpa using hi) hg
    exact⟨u,r4.sF u k hu⟩
theorem SX(fn:Func):results fn a.tmps=(do let vs←fn.results.mapM (YC a);pure (if h:vs.size=1 then vs[0]else .tuple vs)):=by
 unfold results
 congr 1
theorem UT(hT:Ba P T)(h:Rel T s (Am a gh) w S Fs)(hG:N≤G){fn:Func}(hok:fn.results.toList.all (VJ N)=true){d:D}(hd:LY T s fn.results.toList=some (d,s')):
  ∃v,(results fn a.tmps).run P w= .ok v w∧ ∃S' Fs' F,Rel T s' (Am a gh) w S' Fs'∧Hand T s' (Am a gh) w S' Fs' d v F∧Keeps s w (Am a gh) s' w (Am a gh)∧Sub S Fs S' Fs' F:=by
 unfold LY at hd
 split at hd
 ·rename_i r hrs
  rw [hrs]at hok;simp only [PT,List.all_nil,UF]at hok;obtain⟨v,hv,rest⟩:=SV (P:=P) hT h hG hok hd
  refine⟨v, ?_,rest⟩
  have:fn.results= #[r]:=by rw [←OC (xs:=fn.results),hrs]
  rw [SX,this];simp [hv]
 ·rename_i hne
  simp only [Cb,Prod.mk.injEq]at hd;obtain⟨⟨ds,s1⟩,hds,rfl,rfl⟩:=hd;obtain⟨vs,hvs,hl1,hl2,S2,Fs2,Gi,q1,q2,q3,q4,q5,q6,q7,q8,q9⟩:=YD (P:=P) hT hG _ h hok hds
  refine⟨.tuple vs.toArray, ?_,S2,Fs2,fun k=> ∃i,i<ds.length∧Gi i k,q1,⟨?_,fun u k ⟨i,hi,hk⟩=>q3 i u k hi hk⟩,q5,q6,q7,q8,fun k ⟨i,hi,hk⟩=>q9 i k hi hk⟩
  ·rw [SX,Array.mapM_eq_mapM_toList]
   have hl:vs.length≠1:=fun e=>by
    rw [hl1]at e;obtain⟨r,hr⟩:=List.length_eq_one_iff.1 e;exact hne r hr
   simp [hvs,hl]
  ·have hval: ∀(i:Nat) (d:D),ds[i]? =some d→vs[i]? =some (vs.getD i undef)∧WR T s1 (Am a gh) w S2 d (vs.getD i undef) (Gi i):=fun i d hi=>by
    obtain⟨v,hv,hW⟩:=q2 i d hi;rw [Jg,hv];exact⟨rfl,hW⟩
   exact .tup (fun i=>vs.getD i undef) Gi (by simp [hl1,hl2]) (fun i x hi=>by simpa using (hval i x hi).1) (fun _=>Iff.rfl) q4 (fun i x hi=>(hval i x hi).2)
end
def CL(fn:Func)(n:Nat):Bool:=
 (match fn.body with|some c=>Gg fn.ntmps c|none=>false)&&fn.results.toList.all (VJ fn.ntmps)&&decide (fn.ntmps≤G)&&decide (n≤fn.ntmps)&& !(fn.name== "runtime.NumGoroutine")
theorem yg{T:Tys}{S:Nat→Prop}{w:World}{V:AB→Nat→Nat→Value→Prop}{Vp:AB→Nat→Nat→Nat→Value→Prop}{d:D}{v:Value}{F:Nat→Prop}(h:W T S w V Vp d v F)(ho:iG d=true):W T S w V0 HV d v F:=by
 unfold iG at ho
 split at ho
 ·cases h with|undef h=>exact .undef h
 ·exact WC _ h ho
theorem fQ{P:Program}{E:Env}(hT:Ba P E.T)(hm:P.follows .mixedOrders=true)(hK:Oa P E){f:am}{fn:Func}(hf:P.funcs[f]? =some fn){args lent:List D}{r:D}{outs:List D}
  (hok:CL fn args.length=true)(hr:Xa E fn args lent=some (r,outs)):Good P E.T f args lent r outs:=by
 simp only [CL,F9,decide_eq_true_eq,Kg]at hok;obtain⟨⟨⟨⟨hcode,hres⟩,hG⟩,hargs⟩,hname⟩:=hok;unfold Xa at hr
 cases hb:fn.body with
 |none=>simp [hb]at hr
 |some c=>
  rw [hb]at hcode hr;simp only at hcode hr
  refine⟨⟨fn,hf,by simp [hb],hname⟩,fun vs gh w S FL hsz hA hL hL0 hLd hlt=> ?_⟩
  refine calls_of_wp hf hb ?_
  have hent:Fr E.T fn.ntmps gh (entry args lent) {tmps:=vs++Array.replicate (fn.ntmps-vs.size) undef,defers:=[]} w S (fun t=>if t<G then fun _=>False else FL (t-G)):=by
   refine⟨⟨fun t=> ?_,fun t u k htu=> ?_,hlt⟩,rfl,by simp;omega,hG⟩
   ·by_cases htG:t<G
    ·simp only [entry,htG,if_true,Am]
     cases ha:args[t]? with
     |none=>rw [Jg,ha];exact .undef fun _ h=>h
     |some d=>
      obtain⟨v,hv,hW⟩:=hA t d ha
      have hvt:(vs++Array.replicate (fn.ntmps-vs.size) undef).getD t undef=v:=by
       rw [LQ,Array.getElem?_append_left (by rw [hsz];exact(EI.1 ha).1),hv];rfl
      rw [Jg,ha];simp only [XT];rw [hvt];refine W.mono (fun k hk=>⟨hk,rfl⟩) hW _ _ ?_ (fun _ _ _ _ _ h=>h.elim) (fun _ h=>h.elim);rintro L n m u ⟨j,rfl,rfl,rfl,rfl⟩
      refine⟨⟨Nat.zero_le _,Nat.zero_le _⟩,fun _=> ?_⟩
      have: ¬G+j<G:=by omega
      simp [Dj,Aj,Am,this]
    ·simp only [entry,htG,if_false,Am]
     cases hl:lent[t-G]? with
     |none=>rw [Jg,hl];exact .undef (hL0 _ (by simpa using hl))
     |some d=>rw [Jg,hl];exact(hL _ d hl).up
   ·by_cases h1:t<G
    ·simp [h1]
    ·by_cases h2:u<G
     ·simp [h1,h2]
     ·simp only [h1,h2,if_false];exact hLd _ _ k (by omega)
  have hfin: ∀(s1:St) (a1:Act) (w1:World),Vj E.T lent.length fn.results.toList s1=some (r,outs)→C8 E.T gh fn.ntmps s1 w S (fun t=>if t<G then fun _=>False else FL (t-G)) a1 w1→
    a1.defers=[]∧ ∃v,(results fn a1.tmps).run P w1= .ok v w1∧OZ E.T gh r outs w S FL v w1:=by
   intro s1 a1 w1 hfd hp;obtain⟨S1,Fs1,hrel,hst,hdef,hsz1⟩:=hp
   refine⟨hdef, ?_⟩
   unfold Vj at hfd
   split at hfd
   ·cases hfd
   ·rename_i r0 s2 hres2
    split at hfd
    ·rename_i hoks
     simp only [F9]at hoks;simp only [al,Prod.mk.injEq]at hfd;obtain⟨rfl,rfl⟩:=hfd;obtain⟨v,hv,S2,Fs2,F,p1,p2,p3,p4⟩:=UT (P:=P) hT hrel hG hres hres2
     have hFs: ∀u k,Fs1 u k→(∃j,FL j k)∨w.heap.size≤k:=fun u k hu=>by
      rcases hst.sF u k hu with⟨u',h⟩|h
      ·by_cases hu':u'<G
       ·simp [hu']at h
       ·simp only [hu',if_false]at h;exact .inl ⟨_,h⟩
      ·exact .inr h
     refine⟨v,hv,S2,F,fun j=>Fs2 (G+j),WC _ p2.val (by simpa [Yz] using hoks.1),fun j d hj=> ?_,fun i j k hij=>p1.disj _ _ k (by omega),fun j k hf=>p2.apart _ k hf,⟨hst.os,hst.tape,hst.output,hst.size,fun k hk hn=>hst.heap k hk (fun u hu=> ?_),fun k hk=>p4.sS k (hst.sS k hk),fun k hk=> ?_,fun j k hj=>hFs _ k (p4.sF _ k hj)⟩,fun k hk=> ?_,p1.lt⟩
     ·rw [LU]at hj;obtain⟨j',hj',rfl⟩:=Cb.1 hj;have hj2:=EI.1 hj';obtain⟨hlt',hjj⟩:=hj2;simp only [Va]at hjj;subst hjj;have hall:=IQ.1 hoks.2 (s2.v (G+j)) (Iy.2 ⟨j,Nn.2 (by simpa using hlt'),rfl⟩)
      have hW:=p1.val (G+j)
      have hrv:Am a1 gh (G+j)=gh j:=by
       have: ¬G+j<G:=by omega
       simp [Am,this]
      rw [hrv]at hW;exact yg hW hall
     ·by_cases hu':u<G
      ·simp [hu']at hu
      ·simp only [hu',if_false]at hu;exact hn _ hu
     ·rcases p4.sS' k hk with h|⟨u,hu⟩
      ·rcases hst.sS' k h with h|⟨u,hu⟩|h
       ·exact .inl h
       ·by_cases hu':u<G
        ·simp [hu']at hu
        ·simp only [hu',if_false]at hu;exact .inr (.inl ⟨_,hu⟩)
       ·exact .inr (.inr h)
      ·exact .inr (hFs u k hu)
     ·obtain⟨u,hu⟩:=p4.sH k hk;exact hFs u k hu
    ·cases hfd
  cases hx:Dq E c (entry args lent)with
  |none=>simp [hx]at hr
  |some q=>
   obtain⟨ex,s1⟩:=q;rw [hx]at hr;refine wp_mono (Zd hT (bV hK) (nI hm hT (bV hK)) c hcode hent hx) ?_;rintro e a1 w1 ⟨rfl,hp⟩
   cases ex with
   |normal=>exact hfin s1 a1 w1 hr hp
   |ret=>exact hfin s1 a1 w1 hr hp
   |exit id=>simp at hr
end Dv
namespace Dv
open Go
abbrev QM:=am→List D→List D→Option (D×List D)
def nL(c:QM)(cn:Nat→QM):Prop:= ∀f a l r,c f a l=some r→ ∃n,∀m,n≤m→cn m f a l=some r
section
variable {T:Tys} {lends:am→Bool} {c:QM} {cn:Nat→QM}
theorem Pj(lend:Bool)(pm:Pm)(s:St)(c c':QM): ∀(xs:List (ac×ab)) (j:Nat),Da ⟨T,lends,c⟩ lend pm s j xs=Da ⟨T,lends,c'⟩ lend pm s j xs:=by
 intro xs
 induction xs with
 |nil=>intro j;rfl
 |cons q xs ih=>
  intro j;obtain⟨x,t⟩:=q;simp only [Da]
  cases ev T s t x with
  |none=>rfl
  |some d=>
   simp only
   cases Jl T lend pm s j (match x with| .tmp u=>[u]|_=>[]) d with
   |none=>rfl
   |some q=>simp only;rw [ih]
theorem Pk(h:nL c cn){pm:Pm}{s s':St}{dst:Option Tmp}{f:am}{xs:List (ac×ab)}{caps:List D}(hd:FW ⟨T,lends,c⟩ pm s dst f xs caps=some s'):
  ∃n,∀m,n≤m→FW ⟨T,lends,cn m⟩ pm s dst f xs caps=some s':=by
 unfold FW at hd;simp only at hd;by_cases hl:lends f=true
 ·rw [if_pos hl]at hd
  cases ha:Da ⟨T,lends,c⟩ true pm s 0 xs with
  |none=>simp [ha]at hd
  |some q=>
   obtain⟨as,ls⟩:=q;simp only [ha]at hd
   split at hd
   ·rename_i hcond
    cases hc:c f (as++caps) (ls.map (·.2))with
    |none=>simp [hc]at hd
    |some r=>
     obtain⟨n,hn⟩:=h _ _ _ _ hc
     refine⟨n,fun m hm=> ?_⟩
     unfold FW;simp only;rw [if_pos hl,Pj true pm s (cn m) c,ha];simp only;rw [if_pos hcond,hn m hm];rw [hc]at hd;exact hd
   ·cases hd
 ·rw [if_neg hl]at hd
  cases ha:Da ⟨T,lends,c⟩ false pm s 0 xs with
  |none=>simp [ha]at hd
  |some q=>
   obtain⟨as,ls⟩:=q;simp only [ha]at hd
   cases hc:c f (as++caps) []with
   |none=>simp [hc]at hd
   |some r=>
    obtain⟨n,hn⟩:=h _ _ _ _ hc
    refine⟨n,fun m hm=> ?_⟩
    unfold FW;simp only;rw [if_neg hl,Pj false pm s (cn m) c,ha];simp only;rw [hn m hm];rw [hc]at hd;exact hd
theorem fT(h:nL c cn){pm:Pm}{s s':St}{dst:Option Tmp}{f:am}{xs:List (ac×ab)}{caps:List D}(hd:M7 ⟨T,lends,c⟩ pm s dst f xs caps=some s'):
  ∃n,∀m,n≤m→M7 ⟨T,lends,cn m⟩ pm s dst f xs caps=some s':=by
 unfold M7 at hd;simp only at hd
 cases ha:Da ⟨T,lends,c⟩ true pm s 0 xs with
 |none=>simp [ha]at hd
 |some q=>
  obtain⟨as,ls⟩:=q;simp only [ha]at hd
  cases ho:Iz pm s ls.length caps with
  |none=>simp [ho]at hd
  |some p=>
   obtain⟨cs,lc⟩:=p;simp only [ho]at hd
   split at hd
   ·rename_i hcond
    cases hc:c f (as++cs.map (NB f cs)) ((ls++lc).map (·.2))with
    |none=>simp only [hc]at hd;cases hd
    |some r=>
     obtain⟨n,hn⟩:=h _ _ _ _ hc
     refine⟨n,fun m hm=> ?_⟩
     unfold M7;simp only;rw [Pj true pm s (cn m) c,ha];simp only [ho];rw [if_pos hcond,hn m hm];rw [hc]at hd;exact hd
   ·cases hd
theorem nM(h:nL c cn){pm:Pm}{s s':St}{o:Oper}(hd:mR ⟨T,lends,c⟩ pm s o=some s'): ∃n,∀m,n≤m→mR ⟨T,lends,cn m⟩ pm s o=some s':=by
 unfold mR at hd ⊢
 cases hop:o.op<;>simp only [hop]at hd ⊢
 case call cl=>
  cases hcal:cl.callee<;>simp only [hcal]at hd ⊢
  case builtin b=>cases b<;>simp only at hd ⊢ <;>exact⟨0,fun _ _=>hd⟩
  case value fo=>
   cases fo<;>simp only at hd ⊢
   case func f=>
    split at hd
    ·rename_i hsz
     simp only [hsz,if_true]
     split at hd
     ·rename_i hty
      obtain⟨s1,h1,h2⟩:=Gl.1 hd;obtain⟨n,hn⟩:=Pk h h1
      refine⟨n,fun m hm=> ?_⟩
      rw [if_pos hty,hn m hm];exact h2
     ·rename_i hty
      simp only [if_neg hty];exact Pk h hd
    ·cases hd
   case tmp u=>
    cases hv:s.v u<;>simp only [hv]at hd ⊢
    case clo f caps=>
     split at hd
     ·rename_i hsz
      simp only [hsz,if_true];exact Pk h hd
     ·cases hd
    case ocl b f caps=>
     cases b
     ·simp only at hd ⊢
      split at hd
      ·rename_i hsz
       simp only [hsz,if_true];exact fT h hd
      ·cases hd
     ·cases hd
    all_goals (cases hd)
   all_goals (cases hd)
  all_goals (cases hd)
 case makeFunc fn first captured=>cases fn<;>exact⟨0,fun _ _=>hd⟩
 all_goals exact⟨0,fun _ _=>hd⟩
theorem VK(h:nL c cn){ops:Array Oper}{pm:Pm}{s s':St}{o:Oper}(hd:IV ⟨T,lends,c⟩ ops pm s o=some s'): ∃n,∀m,n≤m→IV ⟨T,lends,cn m⟩ ops pm s o=some s':=by
 unfold IV at hd ⊢
 split at hd
 ·exact nM h hd
 ·exact⟨0,fun _ _=>hd⟩
 ·cases hd
theorem jT(h:nL c cn){ops:Array Oper}: ∀(l:List Oper) {s s':St},UJ ⟨T,lends,c⟩ ops s l=some s'→ ∃n,∀m,n≤m→UJ ⟨T,lends,cn m⟩ ops s l=some s':=by
 intro l
 induction l with
 |nil=>intro s s' hd;exact⟨0,fun _ _=>hd⟩
 |cons o l ih=>
  intro s s' hd;simp only [UJ,Gl]at hd ⊢;obtain⟨s1,h1,h2⟩:=hd;obtain⟨n1,e1⟩:=VK h h1;obtain⟨n2,e2⟩:=ih h2
  exact⟨max n1 n2,fun m hm=>⟨s1,e1 m (by omega),e2 m (by omega)⟩⟩
theorem fU(h:nL c cn){ops:Array Oper}{l0:List Oper}: ∀(l:List Oper) {s s':St},Nb ⟨T,lends,c⟩ ops l0 s l=some s'→ ∃n,∀m,n≤m→Nb ⟨T,lends,cn m⟩ ops l0 s l=some s':=by
 intro l
 induction l with
 |nil=>intro s s' hd;exact⟨0,fun _ _=>hd⟩
 |cons o l ih=>
  intro s s' hd;simp only [Nb]at hd ⊢
  split at hd
  ·rename_i hmv
   simp only [hmv,if_true];simp only [Gl]at hd ⊢;obtain⟨s1,h1,h2⟩:=hd;obtain⟨n1,e1⟩:=VK h h1;obtain⟨n2,e2⟩:=ih h2
   exact⟨max n1 n2,fun m hm=>⟨s1,e1 m (by omega),e2 m (by omega)⟩⟩
  ·cases hd
theorem SY{step:St→Option (Ex×St)}: ∀ {n m:Nat} {s:St} {r:Ex×St},n≤m→Gq step n s=some r→Gq step m s=some r:=by
 intro n
 induction n with
 |zero=>intro m s r _ h;simp [Gq]at h
 |succ n ih=>
  intro m s r hm h
  cases m with
  |zero=>omega
  |succ m=>
   simp only [Gq]at h ⊢
   cases hs:step s with
   |none=>simp [hs]at h
   |some q=>
    obtain⟨ex,s1⟩:=q
    cases ex with
    |normal=>simp only [hs]at h ⊢;exact ih (by omega) h
    |exit id=>simp only [hs]at h ⊢;exact h
    |ret=>simp only [hs]at h ⊢;exact h
theorem Oi{step:St→Option (Ex×St)}{n:Nat}{s:St}{r:Ex×St}(h:Gq step n s=some r):Rc step s=some r:=by
 unfold Rc;have hx: ∃r n,Gq step n s=some r:=⟨r,n,h⟩;rw [dif_pos hx];obtain⟨n',h'⟩:=hx.choose_spec;have h1:=SY (Nat.le_max_left n n') h;have h2:=SY (Nat.le_max_right n n') h';rw [h1]at h2;exact h2.symm
theorem WJ(step:St→Option (Ex×St))(s:St):Rc step s=match step s with|none=>none|some (.normal,s')=>Rc step s'|some r=>some r:=by
 cases hs:step s with
 |none=>
  simp only
  cases hi:Rc step s with
  |none=>rfl
  |some r=>
   obtain⟨n,hn⟩:=Ku hi
   cases n<;>simp [Gq,hs]at hn
 |some q=>
  obtain⟨ex,s1⟩:=q
  cases ex with
  |normal=>
   simp only
   cases hi:Rc step s with
   |some r=>
    obtain⟨n,hn⟩:=Ku hi
    cases n with
    |zero=>simp [Gq]at hn
    |succ n=>simp only [Gq,hs]at hn;exact(Oi hn).symm
   |none=>
    cases hj:Rc step s1 with
    |none=>rfl
    |some r=>
     obtain⟨n,hn⟩:=Ku hj;have:Gq step (n+1) s=some r:=by simp only [Gq,hs];exact hn
     rw [Oi this]at hi;cases hi
  |exit id=>simp only;exact Oi (n:=1) (by simp [Gq,hs])
  |ret=>simp only;exact Oi (n:=1) (by simp [Gq,hs])
theorem jU(h:nL c cn): ∀(k:Code) {s:St} {r:Ex×St},Dq ⟨T,lends,c⟩ k s=some r→ ∃n,∀m,n≤m→Dq ⟨T,lends,cn m⟩ k s=some r:=by
 intro k
 induction k with
 |skip=>intro s r hd;exact⟨0,fun _ _=>hd⟩
 |region id ops draw=>
  intro s r hd;simp only [Dq]at hd ⊢
  split at hd
  ·rename_i hdr
   simp only [hdr,if_true]
   split at hd
   ·rename_i hok
    simp only [hok,if_true];simp only [Cb]at hd ⊢;obtain⟨s1,h1,rfl⟩:=hd;obtain⟨n,hn⟩:=fU h _ h1
    exact⟨n,fun m hm=>⟨s1,hn m hm,rfl⟩⟩
   ·cases hd
  ·rename_i hdr
   simp only [hdr];simp only [Cb]at hd ⊢;obtain⟨s1,h1,rfl⟩:=hd;obtain⟨n,hn⟩:=jT h _ h1
   exact⟨n,fun m hm=>by simpa using hn m hm⟩
 |seq x y ihx ihy=>
  intro s r hd;simp only [Dq]at hd ⊢
  cases hx:Dq ⟨T,lends,c⟩ x s with
  |none=>simp [hx]at hd
  |some q=>
   obtain⟨n1,e1⟩:=ihx hx;obtain⟨ex,s1⟩:=q
   cases ex with
   |normal=>
    simp only [hx]at hd;obtain⟨n2,e2⟩:=ihy hd
    exact⟨max n1 n2,fun m hm=>by rw [e1 m (by omega)];exact e2 m (by omega)⟩
   |exit id=>simp only [hx]at hd;exact⟨n1,fun m hm=>by rw [e1 m hm];exact hd⟩
   |ret=>simp only [hx]at hd;exact⟨n1,fun m hm=>by rw [e1 m hm];exact hd⟩
 |cond x a b iha ihb=>
  intro s r hd;simp only [Dq]at hd ⊢
  cases hx:ev T s 0 x with
  |none=>simp [hx]at hd
  |some d=>
   cases d<;>simp only [hx]at hd ⊢ <;>try (cases hd;done)
   rename_i t
   cases t with
   |true=>simp only [if_true]at hd ⊢;exact iha hd
   |false=>simp only [Ik,if_false]at hd ⊢;exact ihb hd
 |block id x ih=>
  intro s r hd;simp only [Dq]at hd ⊢
  cases hx:Dq ⟨T,lends,c⟩ x s with
  |none=>simp [hx]at hd
  |some q=>
   obtain⟨n1,e1⟩:=ih hx
   exact⟨n1,fun m hm=>by rw [e1 m hm];rw [hx]at hd;exact hd⟩
 |loop x ih=>
  intro s r hd;simp only [Dq]at hd ⊢;obtain⟨k,hk⟩:=Ku hd
  have key: ∀(k:Nat) {s:St},Gq (Dq ⟨T,lends,c⟩ x) k s=some r→ ∃n,∀m,n≤m→Gq (Dq ⟨T,lends,cn m⟩ x) k s=some r:=by
   intro k
   induction k with
   |zero=>intro s hk;simp [Gq]at hk
   |succ k ihk=>
    intro s hk;simp only [Gq]at hk ⊢
    cases hx:Dq ⟨T,lends,c⟩ x s with
    |none=>simp [hx]at hk
    |some q=>
     obtain⟨n1,e1⟩:=ih hx;obtain⟨ex,s1⟩:=q
     cases ex with
     |normal=>
      simp only [hx]at hk;obtain⟨n2,e2⟩:=ihk hk
      exact⟨max n1 n2,fun m hm=>by rw [e1 m (by omega)];exact e2 m (by omega)⟩
     |exit id=>simp only [hx]at hk;exact⟨n1,fun m hm=>by rw [e1 m hm];exact hk⟩
     |ret=>simp only [hx]at hk;exact⟨n1,fun m hm=>by rw [e1 m hm];exact hk⟩
  obtain⟨n,hn⟩:=key k hk
  exact⟨n,fun m hm=>Oi (hn m hm)⟩
 |exit id=>intro s r hd;exact⟨0,fun _ _=>hd⟩
 |ret=>intro s r hd;exact⟨0,fun _ _=>hd⟩
 |rangeFunc=>intro s r hd;simp [Dq]at hd
 |scope=>intro s r hd;simp [Dq]at hd
 |label=>intro s r hd;simp [Dq]at hd
 |goto=>intro s r hd;simp [Dq]at hd
 |refuse=>intro s r hd;simp [Dq]at hd
theorem YE(h:nL c cn){fn:Func}{args lent:List D}{r:D×List D}(hd:Xa ⟨T,lends,c⟩ fn args lent=some r): ∃n,∀m,n≤m→Xa ⟨T,lends,cn m⟩ fn args lent=some r:=by
 unfold Xa at hd ⊢
 cases hb:fn.body with
 |none=>simp [hb]at hd
 |some k=>
  simp only [hb]at hd ⊢
  cases hx:Dq ⟨T,lends,c⟩ k (entry args lent)with
  |none=>simp [hx]at hd
  |some q=>
   obtain⟨n,hn⟩:=jU h k hx
   exact⟨n,fun m hm=>by rw [hn m hm];rw [hx]at hd;exact hd⟩
end
structure Sys where
 P:Program
 T:Tys
 lends:am→Bool
 base:QM
namespace Sys
variable (Y:Sys)
def callN:Nat→QM
 |0=>Y.base
 |n+1=>fun f a l=>
  match Y.base f a l with
  |some r=>some r
  |none=>
   match Y.P.funcs[f]? with
   |some fn=>if CL fn a.length then Xa ⟨Y.T,Y.lends,callN n⟩ fn a l else none
   |none=>none
open Classical in
def call:QM:=fun f a l=>if h: ∃r n,Y.callN n f a l=some r then some h.choose else none
def env:Env:=⟨Y.T,Y.lends,Y.call⟩
variable {Y}
theorem Zv{n:Nat}: ∀ {f:am} {a l:List D} {r:D×List D},Y.callN n f a l=some r→Y.callN (n+1) f a l=some r:=by
 induction n with
 |zero=>intro f a l r h;simp only [callN]at h ⊢;rw [h]
 |succ n ih=>
  intro f a l r h;rw [callN]at h ⊢;simp only at h ⊢
  cases hb:Y.base f a l with
  |some q=>simp only [hb]at h ⊢;exact h
  |none=>
   simp only [hb]at h ⊢
   cases hf:Y.P.funcs[f]? with
   |none=>simp [hf]at h
   |some fn=>
    simp only [hf]at h ⊢
    split at h
    ·rename_i hok
     rw [if_pos hok];obtain⟨k,hk⟩:=YE (cn:=fun _=>Y.callN (n+1)) (fun f a l r hh=>⟨0,fun _ _=>ih hh⟩) h;exact hk k (Hq _)
    ·cases h
theorem Nu{n m:Nat}(hm:n≤m){f:am}{a l:List D}{r:D×List D}(h:Y.callN n f a l=some r):Y.callN m f a l=some r:=by
 induction hm with
 |refl=>exact h
 |step _ ih=>exact Zv ih
theorem bW{n:Nat}{f:am}{a l:List D}{r:D×List D}(h:Y.callN n f a l=some r):Y.call f a l=some r:=by
 unfold call;have hx: ∃r n,Y.callN n f a l=some r:=⟨r,n,h⟩;rw [dif_pos hx];obtain⟨n',h'⟩:=hx.choose_spec;have h1:=Nu (Nat.le_max_left n n') h;have h2:=Nu (Nat.le_max_right n n') h';rw [h1]at h2;exact h2.symm
theorem VL{f:am}{a l:List D}{r:D×List D}(h:Y.call f a l=some r): ∃n,Y.callN n f a l=some r:=by
 unfold call at h
 split at h
 ·rename_i hx
  simp only [al]at h;subst h;exact hx.choose_spec
 ·cases h
theorem jV:nL Y.call Y.callN:=fun f a l r h=>by
 obtain⟨n,hn⟩:=VL h
 exact⟨n,fun m hm=>Nu hm hn⟩
theorem call_run{f:am}{fn:Func}{a l:List D}{r:D×List D}(hb:Y.base f a l=none)(hf:Y.P.funcs[f]? =some fn)(hok:CL fn a.length=true)(hr:Xa Y.env fn a l=some r):Y.call f a l=some r:=by
 obtain⟨n,hn⟩:=YE jV hr;refine bW (n:=n+1) ?_;rw [callN];simp only [hb,hf,hok,if_true];exact hn n (Hq _)
theorem call_base{f:am}{a l:List D}{r:D×List D}(hb:Y.base f a l=some r):Y.call f a l=some r:=bW (n:=0) hb
structure Ok(Y:Sys):Prop where
 ty:Ba Y.P Y.T
 mixed:Y.P.follows .mixedOrders=true
 base: ∀f a l r outs,Y.base f a l=some (r,outs)→Good Y.P Y.T f a l r outs
theorem Zw(h:Y.Ok): ∀n f a l r outs,Y.callN n f a l=some (r,outs)→Good Y.P Y.T f a l r outs:=by
 intro n
 induction n with
 |zero=>exact h.base
 |succ n ih=>
  intro f a l r outs hc;rw [callN]at hc;simp only at hc
  cases hb:Y.base f a l with
  |some q=>simp only [hb,al]at hc;subst hc;exact h.base _ _ _ _ _ hb
  |none=>
   simp only [hb]at hc
   cases hf:Y.P.funcs[f]? with
   |none=>simp [hf]at hc
   |some fn=>
    simp only [hf]at hc
    split at hc
    ·rename_i hok
     exact fQ (E:=⟨Y.T,Y.lends,Y.callN n⟩) h.ty h.mixed (fun f a l r outs hh=>ih f a l r outs hh) hf hok hc
    ·cases hc
theorem call_good(h:Y.Ok){f:am}{a l:List D}{r:D}{outs:List D}(hc:Y.call f a l=some (r,outs)):Good Y.P Y.T f a l r outs:=by
 obtain⟨n,hn⟩:=VL hc;exact Zw h n f a l r outs hn
end Sys
end Dv
end
