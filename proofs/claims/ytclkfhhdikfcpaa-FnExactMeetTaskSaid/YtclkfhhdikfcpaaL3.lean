/- Value semantics for Go code, part 3: regions, control, calls and whole functions. Conditions: none beyond those in each lemma. -/
import Derived.Test.YtclkfhhdikfcpaaL2
import Derived.LoopN
import Derived.Orders
open Option.some renaming injEq → al
open Go renaming Operand → ac,TypeId → ab,FuncId → am
open List renaming range → an,mem_filter → aw,mem_map_of_mem → aE,range_eq_range' → ba,getElem?_zip_eq_some → bb
noncomputable section
set_option linter.unusedSimpArgs false
set_option linter.unusedVariables false
namespace Dv
open Go
def Xg(N:Nat):ac→Bool
 | .tmp u=>decide (u<N)
 |_=>true
def lq(N:Nat)(o:Oper):Bool:=(match o.dst with|some t=>decide (t<N)|none=>true)&&o.op.operands.toList.all (Xg N)
def lu(N:Nat)(ops:Array Oper):Bool:=ops.toList.all (lq N)
theorem gF{N:Nat}{o:Oper}(h:lq N o=true):Ph N o:=by
 simp only [lq,FV,JC]at h
 refine⟨fun t ht=> ?_,fun x hx=> ?_⟩
 ·rw [ht]at h;simpa using h.1
 ·have:=h.2 x hx
  cases x<;>simp_all [Xg,BC]
def Hd(N:Nat):Code→Bool
 | .region _ ops _=>lu N ops
 | .seq a b=>Hd N a&&Hd N b
 | .cond c a b=>Xg N c&&Hd N a&&Hd N b
 | .block _ c=>Hd N c
 | .loop c=>Hd N c
 | .scope c=>Hd N c
 |_=>true
section
variable {P:Program} {E:Env} {s s':St} {gh:Nat→Value} {a:Act} {w w':World} {S:Nat→Prop} {Fs:Nat→Nat→Prop} {N:Nat}
theorem Tu(h:Fr E.T N gh s a w S Fs){ops:Array Oper}(hops: ∀(j:Nat) (o:Oper),ops[j]? =some o→Ph N o){o:Oper}{b:Bool}(hw:Lv ops s o=some b):Region.wanted o (yielded ops a.tmps)=b:=by
 unfold Lv at hw;unfold Region.wanted
 split at hw
 ·rename_i hg;simp only [al]at hw;subst hw;rw [hg]
 ·rename_i j b' hg
  rw [hg];simp only
  cases hj:(ops[j]?).bind (·.dst)with
  |none=>
   rw [hj]at hw;simp only [al]at hw;subst hw
   simp [yielded,hj]
  |some t=>
   rw [hj]at hw;simp only at hw
   have htN:t<N:=by
    simp only [Hl]at hj;obtain⟨oj,h1,h2⟩:=hj
    exact(hops j oj h1).1 t h2
   have hlt:t<a.tmps.size:=by rw [h.size];exact htN
   have hrv:Ar a gh t=a.tmps[t]:=by
    have:t<G:=bK htN h.small
    simp [Ar,this,Array.getD,hlt]
   have hW:=h.rel.val t;rw [hrv]at hW
   have hy:yielded ops a.tmps j=match a.tmps[t]with| .bool b=>some b|_=>none:=by
    simp only [yielded,hj,Cq,KR hlt]
    cases a.tmps[t]<;>rfl
   rw [hy];generalize a.tmps[t]=v at*
   split at hw
   ·rename_i b1 hv
    rw [hv]at hW;simp only [al]at hw;subst hw
    cases hW with
    |bool=>cases b1<;>cases b'<;>rfl
   ·rename_i vs hv
    rw [hv]at hW;simp only [al]at hw;subst hw
    cases hW with
    |konst=>rfl
   ·cases hw
theorem CJ.fr{s':St}{a':Act}(hG:N≤G)(h:CJ E.T gh N s' w S Fs a' w'): ∃S' Fs',Fr E.T N gh s' a' w' S' Fs'∧Step w S Fs w' S' Fs':=by
 obtain⟨S',Fs',h1,h2,h3,h4⟩:=h
 exact⟨S',Fs',⟨h1,h3,h4,hG⟩,h2⟩
theorem CJ.back{s':St}{a':Act}{S':Nat→Prop}{Fs':Nat→Nat→Prop}{w'':World}(hst:Step w S Fs w' S' Fs')(h:CJ E.T gh N s' w' S' Fs' a' w''):CJ E.T gh N s' w S Fs a' w'':=by
 obtain⟨S2,Fs2,h1,h2,h3,h4⟩:=h
 exact⟨S2,Fs2,h1,hst.trans h2,h3,h4⟩
theorem ZW{pm:Pm}{ops:Array Oper}{i:Nat}{o:Oper}{Q:Exit→Act→World→Prop}{K:Act→World→Prop}(hT:Bg P E.T)(hC:Jq P E)(h:Fr E.T N gh s a w S Fs)
  (hops: ∀(j:Nat) (o:Oper),ops[j]? =some o→Ph N o)(hi:ops[i]? =some o)(hs:JF E ops pm s o=some s')(hK: ∀a' w',CJ E.T gh N s' w S Fs a' w'→K a' w'):wpOp P ops Q i K a w:=by
 unfold JF at hs;unfold wpOp;simp only [hi]
 cases hw:Lv ops s o with
 |none=>simp [hw]at hs
 |some b=>
  have hwant:=Tu h hops hw
  cases b with
  |true=>
   simp only [hw]at hs;simp only [hwant,if_true];exact .inl (Oper.wp_mono hK (Wo hT hC h (hops i o hi) hs))
  |false=>
   simp only [hw,al]at hs;subst hs;simp only [hwant,JQ,if_false];exact hK _ _ (Au h (hops i o hi).1 (F:=fun _=>False) (.konst (fun _ h=>h)) (fun _ h=>h))
theorem Tv{pm:Pm}{ops:Array Oper}{i:Nat}{o:Oper}{ty:ab}{Q:Exit→Act→World→Prop}{K:Act→World→Prop}(hT:Bg P E.T)(hC:Jq P E)(h:Fr E.T N gh s a w S Fs)
  (hops: ∀(j:Nat) (o:Oper),ops[j]? =some o→Ph N o)(hi:ops[i]? =some o)(hs:JF E ops pm s ({o with type:=ty}:Oper)=some s')(hty:ty=o.type∨(∃t x lo hi mx,o.op= .slice t x lo hi mx)∨(∃x,o.op= .assign x)∨(∃t n p,o.op= .buildSlice t n p)∨(∃t x,o.op= .box t x)∨(∃p t x y z,o.op= .binOp p t x y z)∨(∃t x y,o.op= .store t x y)∨(∃g x y,o.op= .makeFunc g x y)∨(∃t l c,o.op= .makeSlice t l c)∨ ∃f xs ts,o.op= .call ⟨.value (.func f),xs,ts⟩)(hK: ∀a' w',CJ E.T gh N s' w S Fs a' w'→K a' w'):wpOp P ops Q i K a w:=by
 rcases hty with rfl|hop
 ·exact ZW hT hC h hops hi hs hK
 unfold JF at hs;unfold wpOp;simp only [hi];have hwd:Lv ops s ({o with type:=ty}:Oper)=Lv ops s o:=rfl
 rw [hwd]at hs
 cases hw:Lv ops s o with
 |none=>simp [hw]at hs
 |some b=>
  have hwant:=Tu h hops hw
  cases b with
  |true=>
   simp only [hw]at hs;simp only [hwant,if_true];have hok:=hops i o hi;have hok':Ph N ({o with type:=ty}:Oper):=hok
   have hp:=fun(Q0:Exit→Act→World→Prop)=>Oper.wp_mono (Q:=Q0) hK (Wo (P:=P) (Q:=Q0) hT hC h hok' hs);refine .inl ?_;obtain⟨dst,op,type,pos,after,guard⟩:=o;simp only at hop;rcases hop with⟨t,x,lo,hi',mx,rfl⟩|⟨x,rfl⟩|⟨t,n,p,rfl⟩|⟨t,x,rfl⟩|⟨p,t,x,y,z,rfl⟩|⟨t,x,y,rfl⟩|⟨g,x,y,rfl⟩|⟨t,l,c,rfl⟩|⟨f,xs,ts,rfl⟩
   ·exact hp Q
   ·exact hp Q
   ·exact hp Q
   ·exact hp Q
   ·exact hp Q
   ·exact hp Q
   ·exact hp Q
   ·exact hp Q
   ·exact hp Q
  |false=>
   simp only [hw,al]at hs;subst hs;simp only [hwant,JQ,if_false];exact hK _ _ (Au h (hops i o hi).1 (F:=fun _=>False) (.konst (fun _ h=>h)) (fun _ h=>h))
theorem Tw(lends:am→Bool)(l:List Oper)(o:Oper):Z7 lends l o=o.type∨(∃t x lo hi mx,o.op= .slice t x lo hi mx)∨(∃x,o.op= .assign x)∨(∃t n p,o.op= .buildSlice t n p)∨(∃t x,o.op= .box t x)∨(∃p t x y z,o.op= .binOp p t x y z)∨(∃t x y,o.op= .store t x y)∨(∃g x y,o.op= .makeFunc g x y)∨(∃t l c,o.op= .makeSlice t l c)∨ ∃f xs ts,o.op= .call ⟨.value (.func f),xs,ts⟩:=by
 obtain⟨dst,op,type,pos,after,guard⟩:=o
 cases op with
 |slice t x lo hi mx=>exact .inr (.inl ⟨_,_,_,_,_,rfl⟩)
 |assign x=>exact .inr (.inr (.inl ⟨_,rfl⟩))
 |buildSlice t n p=>exact .inr (.inr (.inr (.inl ⟨_,_,_,rfl⟩)))
 |box t x=>exact .inr (.inr (.inr (.inr (.inl ⟨_,_,rfl⟩))))
 |binOp p t x y z=>exact .inr (.inr (.inr (.inr (.inr (.inl ⟨_,_,_,_,_,rfl⟩)))))
 |store t x y=>exact .inr (.inr (.inr (.inr (.inr (.inr (.inl ⟨_,_,_,rfl⟩))))))
 |makeFunc g x y=>exact .inr (.inr (.inr (.inr (.inr (.inr (.inr (.inl ⟨_,_,_,rfl⟩)))))))
 |makeSlice t l c=>exact .inr (.inr (.inr (.inr (.inr (.inr (.inr (.inr (.inl ⟨_,_,_,rfl⟩))))))))
 |call c=>
  obtain⟨g,xs,ts⟩:=c
  cases g with
  |value x=>
   cases x with
   |func f=>exact .inr (.inr (.inr (.inr (.inr (.inr (.inr (.inr (.inr ⟨_,_,_,rfl⟩))))))))
   |_=>left;unfold Z7;rfl
  |_=>left;unfold Z7;rfl
 |_=>exact .inl rfl
theorem bz{pm:Pm}{ops:Array Oper}{i:Nat}{o:Oper}{l:List Oper}{Q:Exit→Act→World→Prop}{K:Act→World→Prop}(hT:Bg P E.T)(hC:Jq P E)(h:Fr E.T N gh s a w S Fs)
  (hops: ∀(j:Nat) (o:Oper),ops[j]? =some o→Ph N o)(hi:ops[i]? =some o)(hs:JF E ops pm s (tag E.lends l o)=some s')(hK: ∀a' w',CJ E.T gh N s' w S Fs a' w'→K a' w'):wpOp P ops Q i K a w:=
 Tv hT hC h hops hi hs (Tw _ _ _) hK
theorem cB{pm:Pm}{ops:Array Oper}{i:Nat}{o:Oper}{l:List Oper}{Q:Exit→Act→World→Prop}{K:Act→World→Prop}(hT:Bg P E.T)(hC:Jq P E)(h:Fr E.T N gh s a w S Fs)
  (hops: ∀(j:Nat) (o:Oper),ops[j]? =some o→Ph N o)(hi:ops[i]? =some o)(hs:JF E ops pm s (TP E.lends l o)=some s')(hK: ∀a' w',CJ E.T gh N s' w S Fs a' w'→K a' w'):wpOp P ops Q i K a w:=by
 refine Tv hT hC h hops hi hs ?_ hK;rcases Tw E.lends l o with h1|h1
 ·left;split
  ·exact h1
  ·rfl
 ·exact .inr h1
theorem cK{ops:Array Oper}(hT:Bg P E.T)(hC:Jq P E)(hops: ∀(j:Nat) (o:Oper),ops[j]? =some o→Ph N o): ∀(l:List Oper) (k:Nat) {s s':St} {a:Act} {w:World} {S:Nat→Prop} {Fs:Nat→Nat→Prop} {Q:Exit→Act→World→Prop},
  ops.toList.drop k=l→Fr E.T N gh s a w S Fs→Vk E ops s l=some s'→(∀a' w',CJ E.T gh N s' w S Fs a' w'→Q .normal a' w')→wpOps P ops Q (List.range' k l.length) a w:=by
 intro l
 induction l with
 |nil=>
  intro k s s' a w S Fs Q _ h hs hQ;simp only [Vk,al]at hs;subst hs;simp only [Qa,List.range'_zero,wpOps];exact hQ a w ⟨S,Fs,h.rel,Step.refl _ _ _,h.defs,h.size⟩
 |cons o l ih=>
  intro k s s' a w S Fs Q hl h hs hQ;simp only [Vk,Hl]at hs;obtain⟨s1,h1,h2⟩:=hs
  have hk:ops[k]? =some o:=by
   have:(ops.toList.drop k)[0]? =some o:=by rw [hl];rfl
   rw [NN]at this;simpa using this
  rw [Lr,List.range'_succ,wpOps_cons];refine bz hT hC h hops hk h1 (fun a' w' hp=> ?_);obtain⟨S',Fs',hf,hst⟩:=hp.fr h.small;refine ih (k+1) ?_ hf h2 (fun a2 w2 hp2=>hQ a2 w2 (hp2.back hst));rw [←List.drop_drop,hl];rfl
def Xh:Ex→Exit
 | .normal=> .normal
 | .exit id=> .exit id
 | .ret=> .ret
def gG(P:Program)(E:Env):Prop:=
 ∀ {s s':St} {gh:Nat→Value} {a:Act} {w:World} {S:Nat→Prop} {Fs:Nat→Nat→Prop} {N id:Nat} {ops:Array Oper} {Q:Exit→Act→World→Prop},
  Fr E.T N gh s a w S Fs→lu N ops=true→Ni E.lends ops.toList=true→Om E ops ops.toList s ops.toList=some s'→(∀a' w',CJ E.T gh N s' w S Fs a' w'→Q .normal a' w')→(Code.region id ops true).wp P Q a w
theorem M7{step:St→Option (Ex×St)}{s:St}{r:Ex×St}(h:TQ step s=some r): ∃n,Hw step n s=some r:=by
 unfold TQ at h
 split at h
 ·rename_i hx
  simp only [al]at h;subst h;exact hx.choose_spec
 ·cases h
theorem cO(hT:Bg P E.T)(hC:Jq P E)(hD:gG P E): ∀(c:Code) {s s':St} {ex:Ex} {a:Act} {w:World} {S:Nat→Prop} {Fs:Nat→Nat→Prop},Hd N c=true→Fr E.T N gh s a w S Fs→Du E c s=some (ex,s')→
  c.wp P (fun e a' w'=>e=Xh ex∧CJ E.T gh N s' w S Fs a' w') a w:=by
 intro c
 induction c with
 |skip=>
  intro s s' ex a w S Fs _ h he;simp only [Du,al,Prod.mk.injEq]at he;obtain⟨rfl,rfl⟩:=he;exact wp_skip ⟨rfl,S,Fs,h.rel,Step.refl _ _ _,h.defs,h.size⟩
 |region id ops draw=>
  intro s s' ex a w S Fs hk h he;simp only [Hd]at hk;have hops: ∀(j:Nat) (o:Oper),ops[j]? =some o→Ph N o:=fun j o ho=>gF (JC.1 hk o (by simpa using Array.mem_of_getElem? ho))
  simp only [Du]at he
  cases draw with
  |true=>
   simp only [if_true]at he
   split at he
   ·rename_i hdr
    simp only [Cj,Prod.mk.injEq]at he;obtain⟨s1,h1,rfl,rfl⟩:=he;exact hD h hk hdr h1 (fun a' w' hp=>⟨rfl,hp⟩)
   ·cases he
  |false=>
   simp only [JQ,if_false,Cj,Prod.mk.injEq]at he;obtain⟨s1,h1,rfl,rfl⟩:=he;refine wp_region ?_;have:=cK (P:=P) (Q:=fun e a' w'=>e=Xh Ex.normal∧CJ E.T gh N s1 w S Fs a' w') hT hC hops ops.toList 0 rfl h h1 (fun a' w' hp=>⟨rfl,hp⟩)
   rwa [Array.length_toList,←ba]at this
 |seq x y ihx ihy=>
  intro s s' ex a w S Fs hk h he;simp only [Hd,FV]at hk;simp only [Du]at he;refine wp_seq ?_
  cases hx:Du E x s with
  |none=>simp [hx]at he
  |some r=>
   obtain⟨cZ,s1⟩:=r;have h1:=ihx hk.1 h hx;refine wp_mono h1 ?_;rintro e a' w' ⟨rfl,hp⟩
   cases cZ with
   |normal=>
    simp only [hx]at he;obtain⟨S',Fs',hf,hst⟩:=hp.fr h.small;exact wp_mono (ihy hk.2 hf he) (fun e a2 w2 ⟨q1,q2⟩=>⟨q1,q2.back hst⟩)
   |exit id=>
    simp only [hx,al,Prod.mk.injEq]at he;obtain⟨rfl,rfl⟩:=he
    exact⟨rfl,hp⟩
   |ret=>
    simp only [hx,al,Prod.mk.injEq]at he;obtain⟨rfl,rfl⟩:=he
    exact⟨rfl,hp⟩
 |cond c x y ihx ihy=>
  intro s s' ex a w S Fs hk h he;simp only [Hd,FV]at hk;simp only [Du]at he
  split at he
  ·rename_i t hc
   have hcd:BC N c:=by have:=hk.1.1;cases c<;>simp_all [Xg,BC]
   have hW:=Ew h.rel h.small hcd hc
   have hv:a.eval c= .bool t:=by
    generalize a.eval c=v at*
    cases hW with
    |bool=>rfl
   refine wp_cond hv ?_
   cases t with
   |true=>simp only [if_true]at he ⊢;exact ihx hk.1.2 h he
   |false=>simp only [JQ,if_false]at he ⊢;exact ihy hk.2 h he
  ·cases he
 |block id c ih=>
  intro s s' ex a w S Fs hk h he;simp only [Hd]at hk;simp only [Du]at he;refine wp_block ?_
  cases hx:Du E c s with
  |none=>simp [hx]at he
  |some r=>
   obtain⟨cZ,s1⟩:=r;refine wp_mono (ih hk h hx) ?_;rintro e a' w' ⟨rfl,hp⟩
   cases cZ with
   |normal=>
    simp only [hx,al,Prod.mk.injEq]at he;obtain⟨rfl,rfl⟩:=he
    exact⟨rfl,hp⟩
   |exit j=>
    simp only [hx]at he;simp only [Xh,Exit.inBlock]
    split at he
    ·rename_i hj
     simp only [al,Prod.mk.injEq]at he;obtain⟨rfl,rfl⟩:=he;rw [if_pos hj];exact⟨rfl,hp⟩
    ·rename_i hj
     simp only [al,Prod.mk.injEq]at he;obtain⟨rfl,rfl⟩:=he;rw [if_neg hj];exact⟨rfl,hp⟩
   |ret=>
    simp only [hx,al,Prod.mk.injEq]at he;obtain⟨rfl,rfl⟩:=he
    exact⟨rfl,hp⟩
 |loop c ih=>
  intro s s' ex a w S Fs hk h he;simp only [Hd]at hk;simp only [Du]at he;obtain⟨n,hn⟩:=M7 he;refine wp_loop_rounds n ?_
  have key: ∀(n:Nat) {s:St} {a1:Act} {w1:World} {S1:Nat→Prop} {Fs1:Nat→Nat→Prop},Hw (Du E c) n s=some (ex,s')→Fr E.T N gh s a1 w1 S1 Fs1→Step w S Fs w1 S1 Fs1→
    Code.rounds P c (fun e a' w'=>e=Xh ex∧CJ E.T gh N s' w S Fs a' w') n a1 w1:=by
   intro n
   induction n with
   |zero=>intro s a1 w1 S1 Fs1 hn;simp [Hw]at hn
   |succ n ihn=>
    intro s a1 w1 S1 Fs1 hn hf hst;simp only [Hw]at hn;rw [rounds_succ]
    cases hx:Du E c s with
    |none=>simp [hx]at hn
    |some r=>
     obtain⟨cZ,s1⟩:=r;refine wp_mono (ih hk hf hx) ?_;rintro e a' w' ⟨rfl,hp⟩
     cases cZ with
     |normal=>
      simp only [hx]at hn;obtain⟨S',Fs',hf',hst'⟩:=hp.fr h.small;exact ihn hn hf' (hst.trans hst')
     |exit id=>
      simp only [hx,al,Prod.mk.injEq]at hn;obtain⟨rfl,rfl⟩:=hn
      exact⟨rfl,hp.back hst⟩
     |ret=>
      simp only [hx,al,Prod.mk.injEq]at hn;obtain⟨rfl,rfl⟩:=hn
      exact⟨rfl,hp.back hst⟩
  exact key n hn h (Step.refl _ _ _)
 |exit id=>
  intro s s' ex a w S Fs _ h he;simp only [Du,al,Prod.mk.injEq]at he;obtain⟨rfl,rfl⟩:=he;exact wp_exit ⟨rfl,S,Fs,h.rel,Step.refl _ _ _,h.defs,h.size⟩
 |ret=>
  intro s s' ex a w S Fs _ h he;simp only [Du,al,Prod.mk.injEq]at he;obtain⟨rfl,rfl⟩:=he;exact wp_ret ⟨rfl,S,Fs,h.rel,Step.refl _ _ _,h.defs,h.size⟩
 |rangeFunc=>intro s s' ex a w S Fs _ h he;simp [Du]at he
 |scope=>intro s s' ex a w S Fs _ h he;simp [Du]at he
 |label=>intro s s' ex a w S Fs _ h he;simp [Du]at he
 |goto=>intro s s' ex a w S Fs _ h he;simp [Du]at he
 |refuse=>intro s s' ex a w S Fs _ h he;simp [Du]at he
end
end Dv
namespace Dv
open Go
def Dw(A:Nat→Bool)(s t:St):Prop:= ∀r,A r=true→s.v r=t.v r∧s.k r=t.k r∧s.m r=t.m r
def Bv(B:Nat→Bool)(s s':St):Prop:= ∀r,B r=false→s'.v r=s.v r∧s'.k r=s.k r∧s'.m r=s.m r
theorem Bv.refl(B:Nat→Bool)(s:St):Bv B s s:=fun _ _=>⟨rfl,rfl,rfl⟩
theorem Bv.trans{B:Nat→Bool}{s s1 s2:St}(h:Bv B s s1)(h':Bv B s1 s2):Bv B s s2:=fun r hr=>
 ⟨(h' r hr).1.trans (h r hr).1,(h' r hr).2.1.trans (h r hr).2.1,(h' r hr).2.2.trans (h r hr).2.2⟩
section
variable {A B:Nat→Bool} {s t:St}
theorem JI{α:Type}(f:Nat→α)(u:Nat)(d:α)(r:Nat):LG f u d r=if r=u then d else f r:=rfl
theorem Dw.put(h:Dw A s t)(u:Nat)(d:D):Dw A (s.put u d) (t.put u d):=by
 intro r hr;obtain⟨h1,h2,h3⟩:=h r hr;unfold St.put;split
 ·by_cases e:r=u
  ·subst e;simp [JI,h2,h3]
  ·simp [JI,e,h1,h2,h3]
 ·by_cases e:r=u
  ·subst e;simp [JI,h2,h3]
  ·simp [JI,e,h1,h2,h3]
theorem Dw.putO(h:Dw A s t)(u:Option Tmp)(d:D):Dw A (s.putO u d) (t.putO u d):=by
 cases u with
 |none=>exact h
 |some u=>exact h.put u d
theorem Dw.clr(h:Dw A s t)(u:Nat):Dw A (s.clr u) (t.clr u):=by
 intro r hr;obtain⟨h1,h2,h3⟩:=h r hr;by_cases e:r=u
 ·subst e;simp [St.clr,JI,h2,h3]
 ·simp [St.clr,JI,e,h1,h2,h3]
theorem Dw.bump(h:Dw A s t)(u:Nat):Dw A (s.bump u) (t.bump u):=by
 intro r hr;obtain⟨h1,h2,h3⟩:=h r hr;by_cases e:r=u
 ·subst e;simp [St.bump,JI,h1,h2,h3]
 ·simp [St.bump,JI,e,h1,h2,h3]
theorem Dw.set(h:Dw A s t)(L:AJ)(d:D):Dw A (s.set L d) (t.set L d):=by
 cases L with
 |nil=>exact h
 |cons u p=>
  intro r hr;obtain⟨h1,h2,h3⟩:=h r hr;by_cases e:r=u
  ·subst e;simp [St.set,JI,h1,h2,h3]
  ·simp [St.set,JI,e,h1,h2,h3]
theorem Bv.put{u:Nat}(hu:B u=true)(d:D):Bv B s (s.put u d):=by
 intro r hr;have e:r≠u:=fun e=>by subst e;simp [hu]at hr
 unfold St.put
 split<;>simp [JI,e]
theorem Bv.putO{u:Option Tmp}(hu: ∀t,u=some t→B t=true)(d:D):Bv B s (s.putO u d):=by
 cases u with
 |none=>exact Bv.refl _ _
 |some u=>exact Bv.put (hu u rfl) d
theorem Bv.clr{u:Nat}(hu:B u=true):Bv B s (s.clr u):=by
 intro r hr;have e:r≠u:=fun e=>by subst e;simp [hu]at hr
 simp [St.clr,JI,e]
theorem Bv.bump{u:Nat}(hu:B u=true):Bv B s (s.bump u):=by
 intro r hr;have e:r≠u:=fun e=>by subst e;simp [hu]at hr
 simp [St.bump,JI,e]
theorem Bv.set{L:AJ}(hu:L≠[]→B (L.headD 0)=true)(d:D):Bv B s (s.set L d):=by
 cases L with
 |nil=>exact Bv.refl _ _
 |cons u p=>
  intro r hr;have e:r≠u:=fun e=>by subst e;have:=hu (by simp);simp at this;simp [this]at hr
  simp [St.set,JI,e]
def BL(A:Nat→Bool)(x:ac):Prop:= ∀u,x= .tmp u→A u=true
theorem C9(T:Tys)(h:Dw A s t)(ty:ab){x:ac}(hx:BL A x):ev T s ty x=ev T t ty x:=by
 cases x with
 |tmp u=>simp only [ev];rw [(h u (hx u rfl)).1]
 |_=>rfl
theorem Sg(h:Dw A s t){L:AJ}(hL:A (L.headD 0)=true):l6 s L=l6 t L:=by
 obtain⟨_,h2,h3⟩:=h _ hL;unfold l6;rw [h2,h3]
end
section
variable {pm:Pm} {s t:St}
theorem EE(h:Dw pm.rd s t)(L:AJ)(n m:Nat):s.look pm L n m=t.look pm L n m:=by
 cases L with
 |nil=>rfl
 |cons u p=>
  unfold St.look;simp only;by_cases hu:pm.rd u=true
  ·obtain⟨h1,h2,h3⟩:=h u hu;rw [h1,h2,h3]
  ·simp [hu]
theorem Pi{L:AJ}{n m:Nat}{d:D}(h:s.look pm L n m=some d):L≠[]∧pm.rd (L.headD 0)=true:=by
 cases L with
 |nil=>simp [St.look]at h
 |cons u p=>
  refine⟨by simp, ?_⟩
  unfold St.look at h;simp only at h
  split at h
  ·rename_i hc;simp only [FV]at hc;simpa using hc.1.1
  ·cases h
theorem Wp(h:Dw pm.rd s t)(x:ac)(d:D):IX pm s x d=IX pm t x d:=by
 unfold IX
 split<;>simp only [EE h]
theorem lw{x:ac}{d:D}{L:AJ}{c:Nat}{o:D}(hx:BL pm.rd x)(h:IX pm s x d=some (L,c,o)):pm.rd (L.headD 0)=true:=by
 unfold IX at h
 split at h
 ·split at h
  ·simp only [al,Prod.mk.injEq]at h;obtain⟨rfl,_⟩:=h;exact hx _ rfl
  ·cases h
 ·split at h
  ·rename_i hl
   simp only [al,Prod.mk.injEq]at h;obtain⟨rfl,_⟩:=h
   exact(Pi hl).2
  ·cases h
 ·split at h
  ·rename_i hl
   simp only [al,Prod.mk.injEq]at h;obtain⟨rfl,_⟩:=h
   exact(Pi hl).2
  ·cases h
 ·cases h
theorem Jg(h:Dw pm.rd s t){x:ac}(hx:BL pm.rd x)(d:D):DU pm s x d=DU pm t x d:=by
 unfold DU;split
 ·rfl
 ·split
  ·rename_i u
   obtain⟨_,h2,h3⟩:=h u (hx u rfl);rw [h2,h3]
  ·rfl
 ·simp only [EE h]
 ·rfl
theorem Nq(h:Dw pm.rd s t){L:AJ}(hne:L≠[])(hL:pm.rd (L.headD 0)=true)(c:Nat)(d:D):FW s L c d=FW t L c d:=by
 have:pm.rd ((L++[c]).headD 0)=true:=by cases L with
  |nil=>exact absurd rfl hne
  |cons u p=>simpa using hL
 unfold FW;split
 ·exact Sg h this
 ·exact Sg h this
 ·rfl
theorem mD{x:ac}{d:D}{L:AJ}{c:Nat}{o:D}(h:IX pm s x d=some (L,c,o)):L≠[]:=by
 unfold IX at h
 split at h
 ·split at h
  ·simp only [al,Prod.mk.injEq]at h;obtain⟨rfl,_⟩:=h
   simp
  ·cases h
 ·split at h
  ·rename_i hl
   simp only [al,Prod.mk.injEq]at h;obtain⟨rfl,_⟩:=h
   exact(Pi hl).1
  ·cases h
 ·split at h
  ·rename_i hl
   simp only [al,Prod.mk.injEq]at h;obtain⟨rfl,_⟩:=h
   exact(Pi hl).1
  ·cases h
 ·cases h
theorem cu(T:Tys)(h:Dw pm.rd s t)(ty:ab){x:ac}(hx:BL pm.rd x)(d:D):Ht T pm s ty x d=Ht T pm t ty x d:=by
 unfold Ht;split
 ·split
  ·rfl
  ·rfl
  ·rw [←Wp h]
   cases ha:IX pm s x d with
   |none=>rfl
   |some r=>
    obtain⟨L,c,o⟩:=r;have h1:=mD ha;have h2:=lw hx ha;simp only [Nq h h1 h2]
 ·rfl
theorem Ru(T:Tys)(h:Dw pm.rd s t)(ty:ab){x:ac}(hx:BL pm.rd x)(d:D)(i:Nat):Ev T pm s ty x d i=Ev T pm t ty x d i:=by
 unfold Ev
 cases T.foff ty i with
 |none=>rfl
 |some j=>
 simp only;split
 ·split
  ·split
   ·rename_i u
    obtain⟨_,h2,h3⟩:=h u (hx u rfl);rw [h2,h3]
   ·rfl
  ·simp only [EE h]
  ·simp only [EE h]
  ·rfl
  ·rfl
 ·rfl
theorem Rv(T:Tys)(h:Dw pm.rd s t)(ty:ab){x:ac}(hx:BL pm.rd x)(d i:D):Dl T pm s ty x d i=Dl T pm t ty x d i:=by
 unfold Dl;split
 ·simp only [Jg h hx]
 ·split
  ·split
   ·split
    ·rename_i u
     obtain⟨_,h2,h3⟩:=h u (hx u rfl);rw [h2,h3]
    ·rfl
   ·simp only [EE h]
   ·rfl
   ·rfl
  ·rfl
 ·rfl
theorem jU(T:Tys)(h:Dw pm.rd s t)(ty:ab){x:ac}(hx:BL pm.rd x)(d:D):NF T pm s ty x d=NF T pm t ty x d:=by
 unfold NF;simp only [Jg h hx]
theorem mE(T:Tys)(h:Dw pm.rd s t)(ty:ab){x:ac}(hx:BL pm.rd x)(d i:D):Qe T pm s ty x d i=Qe T pm t ty x d i:=by
 unfold Qe;split
 ·unfold lH;simp only [EE h]
 ·exact Rv T h ty hx _ i
theorem ZX(T:Tys)(h:Dw pm.rd s t)(ty:ab){x:ac}(hx:BL pm.rd x)(d:D):Yz T pm s ty x d=Yz T pm t ty x d:=by
 unfold Yz;split
 ·rfl
 ·exact jU T h ty hx _
theorem jV(h:Dw pm.rd s t)(L:AJ)(n:Nat):s.lookM pm L n=t.lookM pm L n:=by
 unfold St.lookM;split
 ·rename_i u
  by_cases hu:pm.rd u=true
  ·obtain⟨h1,h2,_⟩:=h u hu;rw [h1,h2]
  ·simp [hu]
 ·rfl
theorem Pj(h:Dw pm.rd s t)(x:ac)(d:D):TK pm s x d=TK pm t x d:=by
 unfold TK;split
 ·rfl
 ·rw [jV h]
 ·rfl
theorem Xi(T:Tys)(h:Dw pm.rd s t)(ty:ab)(x:ac)(d i:D)(ok:Bool):JE T pm s ty x d i ok=JE T pm t ty x d i ok:=by
 unfold JE;rw [Pj h]
theorem jW(T:Tys)(h:Dw pm.rd s t)(ty:ab){x:ac}(hx:BL pm.rd x)(d:D):Ng T pm s ty x d=Ng T pm t ty x d:=by
 unfold Ng;split
 ·unfold Z0;rw [Pj h]
 ·split
  ·unfold Z0;rw [Pj h]
  ·exact ZX T h ty hx _
 ·exact ZX T h ty hx _
theorem Pk(T:Tys)(h:Dw pm.rd s t)(n:Nat){x:Option ac}(hx: ∀o,x=some o→BL pm.rd o):Ol T s n x=Ol T t n x:=by
 cases x with
 |none=>rfl
 |some o=>simp only [Ol,C9 T h 0 (hx o rfl)]
def Xj{α:Type}(pm:Pm)(s t:St)(r r':Option (α×St)):Prop:=
 ∀d s1,r=some (d,s1)→Bv pm.wr s s1∧ ∃t1,r'=some (d,t1)∧Dw pm.rd s1 t1
theorem ZY(h:Dw pm.rd s t)(L:AJ)(n m:Nat):Xj pm s t (NY pm s L n m) (NY pm t L n m):=by
 intro d s1 hp;unfold NY at hp ⊢;rw [←EE h]
 cases hl:s.look pm L n m with
 |none=>simp [hl]at hp
 |some c=>
  simp only [hl]at hp ⊢;obtain⟨hne,hrd⟩:=Pi hl
  have hget:s.get L.dropLast=t.get L.dropLast:=by
   cases L with
   |nil=>exact absurd rfl hne
   |cons u p=>
    cases p with
    |nil=>rfl
    |cons q p=>simp only [List.dropLast,St.get];rw [(h u hrd).1]
  rw [←hget]
  split at hp
  ·rename_i hw
   simp only [hw,if_true]
   split at hp
   ·simp only [Cj,Prod.mk.injEq]at hp;obtain⟨c',hc,rfl,rfl⟩:=hp
    exact⟨Bv.set (fun _=>hw) _,t.set L c',by simp [hc],h.set _ _⟩
   ·simp only [al,Prod.mk.injEq]at hp;obtain⟨rfl,rfl⟩:=hp
    exact⟨Bv.set (fun _=>hw) _,t.set L .undef,rfl,h.set _ _⟩
  ·cases hp
mutual
theorem M8(d0:D): ∀ {s t:St},Dw pm.rd s t→Xj pm s t (CR pm s d0) (CR pm t d0):=by
 intro s t h d s1 hd
 cases d0<;>simp only [CR]at hd ⊢
 case vw L n m=>exact ZY h L n m d s1 hd
 case agg xs=>
  simp only [Cj,Prod.mk.injEq]at hd;obtain⟨⟨ys,s2⟩,h1,rfl,rfl⟩:=hd;obtain⟨hs,t1,ht,ha⟩:=Tx xs h _ _ h1
  exact⟨hs,t1,by simp [ht],ha⟩
 case konst v=>
  cases v<;>simp only at hd ⊢ <;>first
   |(cases hd;done)
   |(simp only [al,Prod.mk.injEq]at hd;obtain⟨rfl,rfl⟩:=hd;exact⟨Bv.refl _ _,t,rfl,h⟩)
 all_goals first
  |(cases hd;done)
  |(simp only [al,Prod.mk.injEq]at hd;obtain⟨rfl,rfl⟩:=hd;exact⟨Bv.refl _ _,t,rfl,h⟩)
theorem Tx(l:List D): ∀ {s t:St},Dw pm.rd s t→Xj pm s t (EX pm s l) (EX pm t l):=by
 intro s t h d s1 hd
 cases l with
 |nil=>
  simp only [EX,al,Prod.mk.injEq]at hd ⊢;obtain⟨rfl,rfl⟩:=hd
  exact⟨Bv.refl _ _,t,⟨rfl,rfl⟩,h⟩
 |cons x xs=>
  simp only [EX,Hl,Cj,Prod.mk.injEq]at hd;obtain⟨⟨y,s2⟩,h1,⟨ys,s3⟩,h2,rfl,rfl⟩:=hd;obtain⟨hs,t1,ht,ha⟩:=M8 x h _ _ h1;obtain⟨hs',t2,ht',ha'⟩:=Tx xs ha _ _ h2
  exact⟨hs.trans hs',t2,by simp [EX,ht,ht'],ha'⟩
end
theorem Jw(T:Tys)(h:Dw pm.rd s t)(ty:ab){x:ac}(hx:BL pm.rd x)(hw:BL pm.wr x):Xj pm s t (take T pm s ty x) (take T pm t ty x):=by
 intro d s1 hd;unfold take at hd ⊢;rw [←C9 T h ty hx]
 cases he:ev T s ty x with
 |none=>simp [he]at hd
 |some d0=>
  simp only [he]at hd ⊢
  cases x with
  |tmp u=>
   simp only at hd ⊢
   split at hd
   ·rename_i ho
    simp only [ho,if_true];obtain⟨hs,r⟩:=M8 d0 (h.clr u) _ _ hd
    exact⟨(Bv.clr (hw u rfl)).trans hs,r⟩
   ·rename_i ho
    simp only [ho];exact M8 d0 h _ _ hd
  |_=>exact M8 d0 h _ _ hd
theorem Wq(T:Tys)(tf:Nat→ab)(sz:Nat): ∀(l:List (Nat×ac)) {s t:St} (cs:List D),Dw pm.rd s t→(∀q∈l,BL pm.rd q.2∧BL pm.wr q.2)→Xj pm s t (G5 T pm tf sz s cs l) (G5 T pm tf sz t cs l):=by
 intro l
 induction l with
 |nil=>
  intro s t cs h _ d s1 hd;simp only [G5,al,Prod.mk.injEq]at hd ⊢;obtain⟨rfl,rfl⟩:=hd
  exact⟨Bv.refl _ _,t,⟨rfl,rfl⟩,h⟩
 |cons q l ih=>
  obtain⟨i,x⟩:=q;intro s t cs h hl d s1 hd;simp only [G5]at hd ⊢
  cases ht:take T pm s (tf i) x with
  |none=>simp [ht]at hd
  |some r=>
   obtain⟨d0,s2⟩:=r;obtain⟨hs,t1,ht1,ha⟩:=Jw T h (tf i) (hl (i,x) (by simp)).1 (hl (i,x) (by simp)).2 _ _ ht
   simp only [ht]at hd;simp only [ht1]
   split at hd
   ·rename_i hc
    simp only [hc,and_self,if_true];obtain⟨hs',r'⟩:=ih _ ha (fun q hq=>hl q (by simp [hq])) _ _ hd
    exact⟨hs.trans hs',r'⟩
   ·cases hd
theorem jX(T:Tys)(fl:List (Nat×ab)): ∀(l:List (Nat×ac)) {s t:St} (cs:List D),Dw pm.rd s t→(∀q∈l,BL pm.rd q.2∧BL pm.wr q.2)→Xj pm s t (J4 T pm fl s cs l) (J4 T pm fl t cs l):=by
 intro l
 induction l with
 |nil=>
  intro s t cs h _ d s1 hd;simp only [J4,al,Prod.mk.injEq]at hd ⊢;obtain⟨rfl,rfl⟩:=hd
  exact⟨Bv.refl _ _,t,⟨rfl,rfl⟩,h⟩
 |cons q l ih=>
  obtain⟨i,x⟩:=q;intro s t cs h hl d s1 hd;simp only [J4]at hd ⊢
  cases hfi:fl[i]? with
  |none=>simp [hfi]at hd
  |some p=>
   obtain⟨off,ty⟩:=p;simp only [hfi]at hd ⊢
   cases ht:take T pm s ty x with
   |none=>simp [ht]at hd
   |some r=>
    obtain⟨d0,s2⟩:=r;obtain⟨hs,t1,ht1,ha⟩:=Jw T h ty (hl (i,x) (by simp)).1 (hl (i,x) (by simp)).2 _ _ ht
    simp only [ht]at hd;simp only [ht1]
    split at hd
    ·rename_i hc
     simp only [hc,and_self,if_true];obtain⟨hs',r'⟩:=ih _ ha (fun q hq=>hl q (by simp [hq])) _ _ hd
     exact⟨hs.trans hs',r'⟩
    ·cases hd
theorem RV(T:Tys)(h:Dw pm.rd s t)(ty:ab){x:ac}(hx:BL pm.rd x)(d0:D){lo hi mx:Option ac}(h1: ∀o,lo=some o→BL pm.rd o)(h2: ∀o,hi=some o→BL pm.rd o)(h3: ∀o,mx=some o→BL pm.rd o):
  Xj pm s t (II T pm s ty x d0 lo hi mx) (II T pm t ty x d0 lo hi mx):=by
 intro d s1 hd;unfold II at hd ⊢;simp only [←Jg h hx,←Pk T h _ h1,←Pk T h _ h2,←Pk T h _ h3]
 split at hd
 ·split at hd
  ·rename_i l q hl hq
   split at hd
   ·rename_i hc
    simp only [al,Prod.mk.injEq]at hd;obtain⟨rfl,rfl⟩:=hd
    exact⟨Bv.refl _ _,t,by simp only [hl,hq,hc,and_self,if_true],h⟩
   ·cases hd
  ·cases hd
 ·split at hd
  ·cases hd
  ·rename_i e xs o hsl
   try simp only [hsl]
   split at hd
   ·rename_i l q hl hq
    split at hd
    ·rename_i hc
     simp only [hl,hq,hc,and_self,if_true]
     split at hd
     ·rename_i hm
      simp only [hm,if_true]
      split at hd
      ·rename_i z hz
       split at hd
       ·rename_i hc2
        simp only [al,Prod.mk.injEq]at hd;obtain⟨rfl,rfl⟩:=hd
        exact⟨Bv.refl _ _,t,by simp only [hz,hc2,and_self,if_true],h⟩
       ·cases hd
      ·cases hd
     ·rename_i hm
      simp only [hm]
      split at hd
      ·simp only [al,Prod.mk.injEq]at hd;obtain⟨rfl,rfl⟩:=hd
       exact⟨Bv.refl _ _,t,by simp,h⟩
      ·split at hd
       ·rename_i hw
        split at hd
        ·rename_i ys hy
         simp only [al,Prod.mk.injEq]at hd;obtain⟨rfl,rfl⟩:=hd
         exact⟨Bv.set (fun _=>hw) _,t.set _ _,by simp only [hw,JQ,if_true,if_false],h.set _ _⟩
        ·cases hd
       ·rename_i hw
        simp only [TJ,al,Prod.mk.injEq]at hd;obtain⟨rfl,rfl⟩:=hd
        exact⟨Bv.refl _ _,t,by simp only [hw,TJ,JQ,if_false],h⟩
    ·cases hd
   ·cases hd
 ·cases hd
theorem ZZ(h:Dw pm.rd s t){x:ac}(hx:BL pm.rd x)(d:D):Vh pm s x d=Vh pm t x d:=by
 unfold Vh;split
 ·simp only [EE h]
 ·simp only [Jg h hx]
theorem mF(h:Dw pm.rd s t){x:ac}(hx:BL pm.rd x)(d:D):jD pm s x d=jD pm t x d:=by
 unfold jD;split
 ·simp only [EE h]
 ·simp only [Jg h hx]
theorem cz(T:Tys)(h:Dw pm.rd s t)(ty:ab){x y:ac}(hx:BL pm.rd x)(hy:BL pm.rd y)(da db:D):
  Xj pm s t (Qf T pm s ty x y da db) (Qf T pm t ty x y da db):=by
 intro d s1 hd;unfold Qf at hd ⊢;simp only [←ZZ h hx,←mF h hy]
 split at hd
 ·rename_i e L xs lo len e' ys hds hsr
  try simp only [hds,hsr]
  split at hd
  ·rename_i hc
   rw [if_pos hc];simp only [al,Prod.mk.injEq]at hd;obtain⟨rfl,rfl⟩:=hd;simp only [FV]at hc
   exact⟨Bv.set (fun _=>hc.2) _,t.set _ _,rfl,h.set _ _⟩
  ·cases hd
 ·cases hd
theorem Za(T:Tys)(h:Dw pm.rd s t)(ty:ab){x:ac}(hx:BL pm.rd x)(da:D):
  Xj pm s t (KT T pm s ty x da) (KT T pm t ty x da):=by
 intro d s1 hd;unfold KT at hd ⊢;simp only [←ZZ h hx]
 split at hd
 ·rename_i e L xs lo len hds
  try simp only [hds]
  split at hd
  ·rename_i hc
   rw [if_pos hc];simp only [al,Prod.mk.injEq]at hd;obtain⟨rfl,rfl⟩:=hd;simp only [FV]at hc
   exact⟨(Bv.set (fun _=>hc.2) _).trans (Bv.bump hc.2),(t.set _ _).bump _,rfl,(h.set _ _).bump _⟩
  ·cases hd
 ·cases hd
theorem jY(T:Tys)(h:Dw pm.rd s t)(ty:ab){x:ac}(hx:BL pm.rd x){hi:Option ac}(h2: ∀o,hi=some o→BL pm.rd o):
  Xj pm s t (NZ T pm s ty x hi) (NZ T pm t ty x hi):=by
 intro d s1 hd;unfold NZ at hd ⊢
 split at hd
 ·rename_i e' hty
  split at hd
  ·rename_i e xs s2 htk
   split at htk
   case isFalse=>cases htk
   rename_i hwx
   have hw:BL pm.wr x:=by
    intro u hu;subst hu;exact hwx
   obtain⟨hs,t1,ht1,ha⟩:=Jw T h ty hx hw _ _ htk;simp only [if_pos hwx,ht1,←Pk T h _ h2]
   split at hd
   ·rename_i q hq
    split at hd
    ·rename_i hc
     simp only [al,Prod.mk.injEq]at hd;obtain⟨rfl,rfl⟩:=hd
     exact⟨hs,t1,by simp only [hq,hc,and_self,if_true],ha⟩
    ·cases hd
   ·cases hd
  ·cases hd
 ·cases hd
theorem d9(T:Tys)(h:Dw pm.rd s t)(ty:ab){x:ac}(hx:BL pm.rd x){hi:Option ac}(h2: ∀o,hi=some o→BL pm.rd o):
  Xj pm s t (Na T pm s ty x hi) (Na T pm t ty x hi):=by
 intro d s1 hd;unfold Na at hd ⊢
 split at hd
 ·rename_i e' hty
  split at hd
  ·rename_i e xs s2 htk
   split at htk
   case isFalse=>cases htk
   rename_i hwx
   have hw:BL pm.wr x:=by
    intro u hu;subst hu;exact hwx
   obtain⟨hs,t1,ht1,ha⟩:=Jw T h ty hx hw _ _ htk;simp only [if_pos hwx,ht1,←Pk T h _ h2]
   split at hd
   ·rename_i q hq
    split at hd
    ·rename_i hc
     simp only [al,Prod.mk.injEq]at hd;obtain⟨rfl,rfl⟩:=hd
     exact⟨hs,t1,by simp only [hq,hc,and_self,if_true],ha⟩
    ·cases hd
   ·cases hd
  ·cases hd
 ·cases hd
theorem jZ(h:Dw pm.rd s t){t0:Nat}(h0:pm.rd t0=true)(d:D):Kn s t0 d=Kn t t0 d:=by
 unfold Kn;rw [(h t0 h0).2.1]
theorem ja(T:Tys)(h:Dw pm.rd s t)(ty:ab){ax x:ac}(hx:BL pm.rd x){s1:St}(hd:TI T pm s ty ax x=some s1):
  Bv pm.wr s s1∧ ∃t1,TI T pm t ty ax x=some t1∧Dw pm.rd s1 t1:=by
 unfold TI at hd ⊢
 split at hd
 ·rename_i t0 u
  split at hd
  ·rename_i x0 f xs hb hu
   split at hd
   ·rename_i hc
    have hc':=hc;simp only [FV]at hc';simp only [al]at hd;subst hd;have hr0:=hc'.1.2;have hb':t.v t0= .box [x0]:=by rw [←(h t0 hr0).1];exact hb
    have hu':t.v u= .ocl false f xs:=by rw [←(h u (hx u rfl)).1];exact hu
    have hm:xs.map (Kn t t0)=xs.map (Kn s t0):=List.map_congr_left fun d _=>(jZ h hr0 d).symm
    refine⟨Bv.set (fun _=>hc'.2) _,_, ?_,h.set [t0] (.ocl true f (xs.map (Kn s t0)))⟩
    simp only [hb',hu'];rw [if_pos hc,hm]
   ·cases hd
  ·cases hd
 ·cases hd
theorem Zb(T:Tys)(h:Dw pm.rd s t)(ty:ab)(x:ac)(d i v:D){s1:St}(hd:KU T pm s ty x d i v=some s1):
  Bv pm.wr s s1∧ ∃t1,KU T pm t ty x d i v=some t1∧Dw pm.rd s1 t1:=by
 unfold KU at hd ⊢;rw [←Pj h]
 split at hd
 ·rename_i k e k' e' es L hty hm
  try simp only [hm]
  split at hd
  ·rename_i ka kn ea en hka hea
   try simp only [hka,hea]
   split at hd
   ·rename_i hc
    rw [if_pos hc]
    split at hd
    ·rename_i key val hk hv
     try simp only [hk,hv]
     simp only [al]at hd;subst hd
     exact⟨Bv.set (fun _=>hc.2.2) _,_,rfl,h.set _ _⟩
    ·cases hd
   ·cases hd
  ·cases hd
 ·cases hd
theorem Ws(T:Tys)(h:Dw pm.rd s t)(ty:ab){x:ac}(hx:BL pm.rd x)(hxw:BL pm.wr x):Xj pm s t (Km T pm s ty x) (Km T pm t ty x):=by
 intro d s1 hd;unfold Km at hd ⊢;rw [←C9 T h ty hx]
 split at hd
 ·rename_i L n m he
  try simp only [he]
  unfold TH at hd ⊢;rw [←EE h]
  cases hl:s.look pm L n m with
  |none=>simp [hl]at hd
  |some c=>
   simp only [hl]at hd ⊢
   split at hd
   ·rename_i hw
    simp only [hw,if_true];simp only [al,Prod.mk.injEq]at hd;obtain⟨rfl,rfl⟩:=hd
    exact⟨Bv.set (fun _=>hw) _,t.set L .undef,rfl,h.set _ _⟩
   ·cases hd
 ·exact Jw T h ty hx hxw _ _ hd
theorem Xk(T:Tys)(h:Dw pm.rd s t)(ty:ab){x y:ac}(hx:BL pm.rd x)(hxw:BL pm.wr x)(hy:BL pm.rd y)(hyw:BL pm.wr y):
  Xj pm s t (GQ T pm s ty x y) (GQ T pm t ty x y):=by
 intro d s1 hd;unfold GQ at hd ⊢
 split at hd
 ·split at hd
  ·rename_i e hty e1 xs s2 htk
   obtain⟨hs,t1,ht1,ha⟩:=Ws T h ty hx hxw _ _ htk;simp only [ht1,←C9 T ha ty hy,←Jg ha hy]
   split at hd
   ·rename_i d1 hev
    try simp only [hev]
    split at hd
    ·rename_i e2 ys o hsl
     try simp only [hsl]
     split at hd
     ·rename_i hc
      rw [if_pos hc]
      split at hd
      ·rename_i ho
       rw [if_pos ho]
       split at hd
       ·simp only [al,Prod.mk.injEq]at hd;obtain⟨rfl,rfl⟩:=hd
        exact⟨hs.trans (Bv.clr (hyw _ rfl)),_,rfl,ha.clr _⟩
       ·cases hd
      ·rename_i ho
       rw [if_neg ho];simp only [al,Prod.mk.injEq]at hd;obtain⟨rfl,rfl⟩:=hd
       exact⟨hs,t1,rfl,ha⟩
     ·cases hd
    ·cases hd
   ·cases hd
  ·cases hd
 ·cases hd
theorem dA(T:Tys)(h:Dw pm.rd s t)(ty:ab){x:ac}(hx:BL pm.rd x)(hxw:BL pm.wr x):Xj pm s t (Ko T pm s ty x) (Ko T pm t ty x):=by
 intro d s1 hd;unfold Ko at hd ⊢
 split at hd
 ·split at hd
  ·rename_i e hty e1 xs s2 htk
   obtain⟨hs,t1,ht1,ha⟩:=Jw T h ty hx hxw _ _ htk;simp only [ht1]
   split at hd
   ·rename_i hc
    rw [if_pos hc];simp only [al,Prod.mk.injEq]at hd;obtain⟨rfl,rfl⟩:=hd
    exact⟨hs,t1,rfl,ha⟩
   ·cases hd
  ·cases hd
 ·cases hd
theorem mG(h:Dw pm.rd s t)(d:D):Pd pm s d=Pd pm t d:=by
 unfold Pd;simp only [EE h]
theorem rD(h:Dw pm.rd s t)(r:Nat):isT pm s r=isT pm t r:=by
 unfold isT
 cases hr:pm.rd r with
 |false=>rfl
 |true=>rw [(h r hr).1]
theorem rE(h:Dw pm.rd s t)(d:D):uy pm s d=uy pm t d:=by
 unfold uy;split
 ·exact rD h _
 ·rfl
theorem mH(h:Dw pm.rd s t)(d:D):bP pm s d=bP pm t d:=by
 have hf:uy pm s=uy pm t:=funext (rE h);unfold bP;rw [hf]
theorem Pn(T:Tys)(ty:ab){ax:ac}(ha:BL pm.rd ax){q q':Option (D×St)}(hq:Xj pm s t q q'){s1:St}(hd:GN T pm ty ax q=some s1):
  Bv pm.wr s s1∧ ∃t1,GN T pm ty ax q'=some t1∧Dw pm.rd s1 t1:=by
 unfold GN at hd ⊢
 split at hd
 ·cases hd
 ·rename_i d s2 htk
  obtain⟨hs,t1,ht1,hag⟩:=hq _ _ rfl;simp only [ht1,←C9 T hag ty ha]
  split at hd
  ·cases hd
  ·rename_i ad hev
   simp only [hev,←Wp hag]
   split at hd
   ·cases hd
   ·rename_i L c o had
    try simp only [had]
    split at hd
    ·rename_i hc
     rw [if_pos hc];simp only [FV]at hc;have hw:pm.wr (L.headD 0)=true:=hc.1.1.1.1.2;simp only [al]at hd;subst hd;split
     ·exact⟨hs.trans ((Bv.set (fun _=>hw) _).trans (Bv.bump hw)),_,rfl,(hag.set _ _).bump _⟩
     ·exact⟨hs.trans (Bv.set (fun _=>hw) _),_,rfl,hag.set _ _⟩
    ·cases hd
theorem RX(T:Tys)(h:Dw pm.rd s t)(ty:ab){ax x:ac}(hx:BL pm.rd x)(hxw:BL pm.wr x)(ha:BL pm.rd ax){s1:St}(hd:JD T pm s ty ax x=some s1):
  Bv pm.wr s s1∧ ∃t1,JD T pm t ty ax x=some t1∧Dw pm.rd s1 t1:=by
 unfold JD at hd ⊢;exact Pn T ty ha (Jw T h ty hx hxw) hd
theorem Zc: ∀(l:List ac) {s t:St},Dw pm.rd s t→(∀x∈l,BL pm.rd x)→Xj pm s t (Li pm s l) (Li pm t l):=by
 intro l
 induction l with
 |nil=>
  intro s t h _ d s1 hd;simp only [Li,al,Prod.mk.injEq]at hd ⊢;obtain⟨rfl,rfl⟩:=hd
  exact⟨Bv.refl _ _,t,⟨rfl,rfl⟩,h⟩
 |cons x l ih=>
  intro s t h hl d s1 hd;unfold Li at hd ⊢
  cases x with
  |tmp u=>
   simp only at hd ⊢;rw [←(h u (hl (.tmp u) (by simp) u rfl)).1]
   split at hd
   ·rename_i xs hu
    split at hd
    ·rename_i ys hy
     split at hd
     ·rename_i hw
      simp only [Cj,Prod.mk.injEq]at hd;obtain⟨⟨zs,s2⟩,h1,rfl,rfl⟩:=hd;obtain⟨hs,t1,ht1,ha⟩:=ih (h.set [u] (.cptr ys)) (fun x hx=>hl x (by simp [hx])) _ _ h1
      exact⟨(Bv.set (fun _=>hw) _).trans hs,t1,by simp [hy,hw,ht1],ha⟩
     ·cases hd
    ·cases hd
   ·rename_i ys hu
    simp only [Cj,Prod.mk.injEq]at hd;obtain⟨⟨zs,s2⟩,h1,rfl,rfl⟩:=hd;obtain⟨hs,t1,ht1,ha⟩:=ih h (fun x hx=>hl x (by simp [hx])) _ _ h1
    exact⟨hs,t1,by simp [ht1],ha⟩
   ·cases hd
  |_=>simp at hd
theorem Zd(h:Dw pm.rd s t): ∀(l:List ac),(∀x∈l,BL pm.rd x)→Vi s l=Vi t l
 | [],_=>rfl
 |x::l,hl=>by
  unfold Vi
  cases x with
  |tmp u=>
   have hu:=hl (.tmp u) (by simp) u rfl
   simp only;rw [←(h u hu).1,Zd h l (fun x hx=>hl x (Jb _ hx)),Sg (L:=[u]) h hu]
  |_=>rfl
theorem Qp(m:Nat){A:Nat→Bool}: ∀(l:List ac) (i:Nat),(∀x∈l,BL A x)→ ∀x∈MV m i l,BL A x
 | [],_,_,x,h=>by simp [MV]at h
 |y::l,i,hl,x,h=>by
  unfold MV at h
  split at h
  ·exact Qp m l _ (fun x hx=>hl x (Jb _ hx)) x h
  ·rcases Pb.1 h with rfl|h
   ·exact hl _ LF
   ·exact Qp m l _ (fun x hx=>hl x (Jb _ hx)) x h
theorem mI(m:Nat)(l:List ac)(h:Dw pm.rd s t)(hl: ∀x∈l,BL pm.rd x):Xj pm s t (XQ pm s m l) (XQ pm t m l):=by
 intro d s1 hd;unfold XQ at hd ⊢
 split at hd
 ·cases hd
 ·rename_i ys s2 hc
  obtain⟨es,he,hd⟩:=Cj.1 hd;simp only [Prod.mk.injEq]at hd;obtain⟨rfl,rfl⟩:=hd;obtain⟨hs,t1,ht1,ha⟩:=Zc _ h (Qp m l 0 hl) _ _ hc
  exact⟨hs,t1,by simp only [ht1];rw [←Zd ha l hl,he];rfl,ha⟩
theorem RY(lend:Bool)(h:Dw pm.rd s t)(j:Nat)(L0:AJ)(d:D):Ef lend pm s j L0 d=Ef lend pm t j L0 d:=by
 unfold Ef
 split<;>simp only [EE h]
theorem Xl(lend:Bool)(h:Dw pm.rd s t)(L0:AJ): ∀(l:List D) (j i:Nat),ED lend pm s L0 j i l=ED lend pm t L0 j i l:=by
 intro l
 induction l with
 |nil=>intro j i;rfl
 |cons d l ih=>intro j i;simp only [ED,RY lend h,ih]
theorem dB(lend:Bool)(h:Dw pm.rd s t)(j:Nat)(L0:AJ)(d:D):DV lend pm s j L0 d=DV lend pm t j L0 d:=by
 unfold DV;split
 ·rw [Xl lend h]
 ·rw [RY lend h]
theorem Tz(h:Dw pm.rd s t): ∀(l:List D),Kq pm s l=Kq pm t l
 | []=>rfl
 |d::l=>by
  unfold Kq
  cases d with
  |vw L n m=>simp only [EE h,Tz h l]
  |cptr ys=>simp only [Tz h l]
  |_=>rfl
theorem mJ(T:Tys)(lend:Bool)(h:Dw pm.rd s t)(j:Nat)(L0:AJ)(d:D):KV T lend pm s j L0 d=KV T lend pm t j L0 d:=by
 unfold KV;split
 ·simp only [Tz h]
 ·unfold Wh;simp only [EE h]
 ·rw [dB lend h]
theorem Wt(E:Env)(lend:Bool)(h:Dw pm.rd s t): ∀(l:List (ac×ab)) (j:Nat),(∀x∈l,BL pm.rd x.1)→De E lend pm s j l=De E lend pm t j l:=by
 intro l
 induction l with
 |nil=>intro j _;rfl
 |cons q l ih=>
  obtain⟨x,ty⟩:=q;intro j hl;simp only [De,C9 E.T h ty (hl (x,ty) (by simp)),mJ E.T lend h,ih _ (fun x hx=>hl x (by simp [hx]))]
theorem Nr(deep:Bool): ∀(l:List (AJ×D)) {s t:St},Dw pm.rd s t→Dw pm.rd (back deep s l) (back deep t l):=by
 intro l
 induction l with
 |nil=>intro s t h;exact h
 |cons q l ih=>
  obtain⟨L,c⟩:=q;intro s t h;simp only [back];split
  ·exact ih h
  ·split
   ·exact ih ((h.set _ _).bump _)
   ·exact ih (h.set _ _)
theorem M9(deep:Bool): ∀(l:List (AJ×D)) {s:St},(∀q∈l,pm.wr (q.1.headD 0)=true)→Bv pm.wr s (back deep s l):=by
 intro l
 induction l with
 |nil=>intro s _;exact Bv.refl _ _
 |cons q l ih=>
  obtain⟨L,c⟩:=q;intro s h;have hw:=h (L,c) (by simp)
  simp only [back];refine Bv.trans ?_ (ih (fun q hq=>h q (by simp [hq])))
  split
  ·exact Bv.refl _ _
  ·split
   ·exact(Bv.set (fun _=>hw) _).trans (Bv.bump hw)
   ·exact Bv.set (fun _=>hw) _
theorem Vq: ∀ {l l':List (AJ×D)},IY l=some l'→l'.map (·.1)=l.map (·.1):=by
 intro l
 induction l with
 |nil=>intro l' h;simp only [IY,al]at h;subst h;rfl
 |cons q l ih=>
  obtain⟨L,c⟩:=q;intro l' h;simp only [IY,Hl,Cj]at h;obtain⟨c',_,l2,h2,rfl⟩:=h;simp [ih h2]
theorem Mh(h:Dw pm.rd s t): ∀(l:List D) (j:Nat),Je pm s j l=Je pm t j l
 | [],_=>rfl
 |d::l,j=>by
  unfold Je
  cases d with
  |vw L n m=>simp only [EE h,Mh h l (j+1)]
  |cptr ys=>simp only [Mh h l j]
  |undef=>simp only [Mh h l j]
  |_=>rfl
theorem jb{E:Env}(h:Dw pm.rd s t){dst:Option Tmp}(hdst: ∀u,dst=some u→pm.wr u=true){f:am}{xs:List (ac×ab)}(hxs: ∀x∈xs,BL pm.rd x.1){caps:List D}{s1:St}(hd:NG E pm s dst f xs caps=some s1):
  Bv pm.wr s s1∧ ∃t1,NG E pm t dst f xs caps=some t1∧Dw pm.rd s1 t1:=by
 unfold NG at hd ⊢;simp only [←Wt E _ h xs _ hxs,←Mh h]
 split at hd
 ·cases hd
 ·rename_i as ls has
  try simp only [has]
  split at hd
  ·cases hd
  ·rename_i cs lc hcs
   try simp only [hcs]
   split at hd
   ·rename_i hc
    rw [if_pos hc];simp only [FV,JC]at hc
    split at hd
    ·rename_i r outs hcall
     try simp only [hcall]
     split at hd
     ·rename_i hz
      rw [if_pos hz];simp only [al]at hd;subst hd
      refine⟨((M9 false _ ?_).trans (M9 true _ ?_)).trans (Bv.putO hdst r),_,rfl,(Nr true _ (Nr false _ h)).putO dst r⟩
      ·intro q hq;obtain⟨L,h1,rfl⟩:=Jd.1 hq;obtain⟨l,hl',rfl⟩:=Jd.1 h1;exact hc.1.2 l hl'
      ·intro q hq;obtain⟨l,hl',e⟩:=Jd.1 (XN hq).1;rw [←e];exact hc.1.2 l hl'
     ·cases hd
    ·cases hd
   ·cases hd
theorem Qq{E:Env}(h:Dw pm.rd s t){dst:Option Tmp}(hdst: ∀u,dst=some u→pm.wr u=true){f:am}{xs:List (ac×ab)}(hxs: ∀x∈xs,BL pm.rd x.1){caps:List D}{s1:St}(hd:G6 E pm s dst f xs caps=some s1):
  Bv pm.wr s s1∧ ∃t1,G6 E pm t dst f xs caps=some t1∧Dw pm.rd s1 t1:=by
 unfold G6 at hd ⊢;simp only [←Wt E _ h xs _ hxs]
 split at hd
 ·rename_i hl
  rw [if_pos hl]
  split at hd
  ·cases hd
  ·rename_i as ls has
   try simp only [has]
   split at hd
   ·rename_i hc
    rw [if_pos hc];simp only [FV,JC]at hc
    split at hd
    ·rename_i r outs hcall
     try simp only [hcall]
     split at hd
     ·rename_i hz
      rw [if_pos hz];simp only [al]at hd;subst hd
      refine⟨((M9 false _ ?_).trans (M9 true _ ?_)).trans (Bv.putO hdst r),_,rfl,(Nr true _ (Nr false _ h)).putO dst r⟩
      ·intro q hq;simp only [Jd]at hq;obtain⟨L,⟨l,hl',rfl⟩,rfl⟩:=hq;exact hc.1.2 l hl'
      ·intro q hq;have:=(XN hq).1
       simp only [Jd]at this;obtain⟨l,hl',e⟩:=this;rw [←e];exact hc.1.2 l hl'
     ·cases hd
    ·cases hd
   ·cases hd
 ·rename_i hl
  rw [if_neg hl]
  split at hd
  ·cases hd
  ·rename_i as ls has
   try simp only [has]
   split at hd
   ·rename_i r outs hcall
    try simp only [hcall]
    split at hd
    ·rename_i hsl
     rw [if_pos hsl]
     split at hd
     ·rename_i hc
      rw [if_pos hc];simp only [FV,JC]at hc;simp only [Cj]at hd;obtain⟨ls',hf,rfl⟩:=hd
      refine⟨(M9 false _ ?_).trans (Bv.putO hdst r),_,by rw [hf];rfl,(Nr false _ h).putO dst r⟩
      intro q hq;have:q.1∈ls.map (·.1):=by rw [←Vq hf];exact aE hq
      simp only [Jd]at this;obtain⟨l,hl',e⟩:=this;rw [←e];exact hc.2 l hl'
     ·cases hd
    ·rename_i hsl
     rw [if_neg hsl];simp only [al]at hd;subst hd
     exact⟨Bv.putO hdst r,_,rfl,h.putO dst r⟩
   ·cases hd
end
end Dv
namespace Dv
open Go
def tak:Op→Bool
 | .assign _| .box .. | .build .. | .buildSlice .. | .store .. =>true
 | .call {callee:= .builtin .append, .. }=>true
 |_=>false
section
variable {pm:Pm} {s t s':St} {E:Env}
def DI(pm:Pm)(s t s':St)(r:Option St):Prop:=Bv pm.wr s s'∧ ∃t',r=some t'∧Dw pm.rd s' t'
theorem DI.put(h:Dw pm.rd s t){dst:Option Tmp}(hd: ∀u,dst=some u→pm.wr u=true)(d:D):DI pm s t (s.putO dst d) (some (t.putO dst d)):=
 ⟨Bv.putO hd d,_,rfl,h.putO dst d⟩
theorem DI.of{α:Type}{r r':Option (α×St)}{x:α}{s1:St}{dst:Option Tmp}(hd: ∀u,dst=some u→pm.wr u=true)(f:α→D)(h:Xj pm s t r r')(hr:r=some (x,s1)):
  DI pm s t (s1.putO dst (f x)) (r'.map fun q=>q.2.putO dst (f q.1)):=by
 obtain⟨hs,t1,ht,ha⟩:=h _ _ hr
 exact⟨hs.trans (Bv.putO hd _),_,by rw [ht];rfl,ha.putO dst _⟩
theorem jc(h:Dw pm.rd s t){L:AJ}(hne:L≠[])(hL:pm.rd (L.headD 0)=true): ∀(ys:List D) (i:Nat),NH s L i ys=NH t L i ys:=by
 intro ys
 induction ys with
 |nil=>intro i;rfl
 |cons y ys ih=>intro i;simp only [NH,ih,Nq h hne hL]
theorem jd(h:Dw pm.rd s t){u:Nat}(hu:pm.rd u=true)(i:Nat)(d:D):Nb s u i d=Nb t u i d:=by
 unfold Nb;split
 ·rw [jc h (L:=[u,i]) (by simp) (by simpa using hu)]
 ·exact Nq h (L:=[u]) (by simp) (by simpa using hu) i _
theorem je(h:Dw pm.rd s t){u:Nat}(hu:pm.rd u=true): ∀ {xs:List D} {i:Nat},JZ s u i xs=JZ t u i xs:=by
 intro xs
 induction xs with
 |nil=>intro i;rfl
 |cons y ys ih=>intro i;simp only [JZ,ih,jd h hu]
theorem U0(h:Dw pm.rd s t){dst:Option Tmp}(hd: ∀u,dst=some u→pm.wr u=true){x:ac}(hx:BL pm.rd x){d:D}(hm: ∀u,x= .tmp u→d.hasObj=true→d.isObj=false→pm.wr u=true):
  DI pm s t (Cb s dst x d) (some (Cb t dst x d)):=by
 cases x with
 |tmp u=>
  unfold Cb;simp only;split
  ·rw [Sg h (L:=[u]) (hx u rfl)];exact DI.put h hd _
  ·rename_i ho
   split
   ·rename_i ho'
    have hw:=hm u rfl ho' (by simpa using ho)
    have hcl: ∀d',DI pm s t ((s.clr u).putO dst d') (some ((t.clr u).putO dst d')):=fun d'=>⟨(Bv.clr hw).trans (Bv.putO hd _),_,rfl,(h.clr u).putO dst _⟩;unfold XR;split
    ·rw [←je h (hx u rfl)];split
     ·exact hcl _
     ·exact DI.put h hd _
    ·exact hcl _
   ·exact DI.put h hd _
 |_=>exact DI.put h hd _
theorem Po(h:Dw pm.rd s t){dst:Option Tmp}(hd: ∀u,dst=some u→pm.wr u=true){x:ac}(hw:BL pm.wr x){d:D}(ha:BU pm s dst x d=some s'):
  DI pm s t s' (BU pm t dst x d):=by
 unfold BU at ha ⊢
 cases x with
 |tmp u=>
  simp only at ha ⊢;rw [←mH h]
  split at ha
  ·rename_i htup
   rw [if_pos htup];simp only [Cj]at ha;obtain⟨⟨d1,s1⟩,h1,rfl⟩:=ha;exact DI.of hd (fun x=>x) (M8 d h) h1
  rename_i htup
  rw [if_neg htup]
  split at ha
  ·simp only [Cj]at ha;obtain⟨⟨d1,s1⟩,h1,rfl⟩:=ha;exact DI.of hd (fun x=>x) (ZY h _ _ _) h1
  ·simp only [al]at ha;subst ha;split
   ·exact⟨(Bv.clr (hw u rfl)).trans (Bv.putO hd _),_,rfl,(h.clr u).putO dst _⟩
   ·exact DI.put h hd _
 |_=>
  simp only [al]at ha ⊢;subst ha;exact DI.put h hd _
theorem Vr(h:Dw pm.rd s t){dst:Option Tmp}(hd: ∀u,dst=some u→pm.wr u=true){x:ac}(hx:BL pm.rd x){d:D}{i:Nat}(ha:IJ s dst x d i=some s'):
  DI pm s t s' (IJ t dst x d i):=by
 unfold IJ at ha ⊢
 split at ha
 ·rename_i u xs
  have hru:=hx u rfl
  split at ha
  ·cases ha
  ·rename_i ys hc
   simp only [Cj]at ha;obtain⟨r,hr,rfl⟩:=ha
   have:(fun j=>FW s [u,i] j (ys.getD j .undef))=fun j=>FW t [u,i] j (ys.getD j .undef):=by
    funext j;exact Nq h (by simp) (by simpa using hru) j _
   simp only [hc,←this,hr];exact DI.put h hd _
  ·rename_i c hne hc
   simp only [Cj]at ha;obtain⟨r,hr,rfl⟩:=ha;have:FW s [u] i c=FW t [u] i c:=Nq h (by simp) (by simpa using hru) i c
   rw [this]at hr;rw [hr];exact DI.put h hd _
 ·cases ha
theorem Ze{T:Tys}(h:Dw pm.rd s t){dst:Option Tmp}(hd: ∀u,dst=some u→pm.wr u=true){ty:ab}{len:Nat}{parts:Array (Nat×ac)}
  (hps: ∀q∈parts.toList,BL pm.rd q.2∧BL pm.wr q.2)(ho:TM T pm s dst ty len parts=some s'):DI pm s t s' (TM T pm t dst ty len parts):=by
 unfold TM at ho ⊢
 split at ho
 ·rename_i e hty
  split at ho
  ·rename_i hk
   rw [if_pos hk];simp only [Cj]at ho;obtain⟨⟨ys,s1⟩,hf,rfl⟩:=ho;exact DI.of hd (fun x=>D.own e x) (Wq T _ _ parts.toList _ h hps) hf
  ·cases ho
 ·cases ho
theorem Wu{T:Tys}(h:Dw pm.rd s t){dst:Option Tmp}(hd: ∀u,dst=some u→pm.wr u=true){ty:ab}{x:ac}(hx:BL pm.rd x)(hw:BL pm.wr x)
  (ho:Nf T pm s dst ty x=some s'):DI pm s t s' (Nf T pm t dst ty x):=by
 unfold Nf at ho ⊢;rw [←C9 T h _ hx]
 split at ho
 ·split at ho
  ·rename_i hc
   rw [if_pos hc];simp only [al]at ho;subst ho
   exact DI.put h hd _
  ·cases ho
 split at ho
 ·rename_i d s1 ht
  obtain⟨hs,t1,ht1,ha⟩:=Jw T h ty hx hw _ _ ht;simp only [ht1]
  split at ho
  ·rename_i hc
   rw [if_pos hc];simp only [al]at ho;subst ho
   exact⟨hs.trans (Bv.putO hd _),_,rfl,ha.putO _ _⟩
  ·cases ho
 ·cases ho
theorem Wv{T:Tys}(h:Dw pm.rd s t){dst:Option Tmp}(hd: ∀u,dst=some u→pm.wr u=true){op:BinOp}{ty:ab}{x y:ac}(hx:BL pm.rd x)(hy:BL pm.rd y)
  (ho:Hu T pm s dst op ty x y=some s'):DI pm s t s' (Hu T pm t dst op ty x y):=by
 unfold Hu at ho ⊢;rw [←C9 T h _ hx,←C9 T h _ hy]
 split at ho
 ·simp only [Hl,Cj]at ho;obtain⟨d,he,b,hb,rfl⟩:=ho;simp only [he,Cq,←mG h,hb];exact DI.put h hd _
 split at ho
 ·split at ho
  ·rename_i hb
   rw [if_pos hb];simp only [Cj]at ho;obtain⟨r,hr,rfl⟩:=ho;rw [hr];exact DI.put h hd _
  ·cases ho
 ·cases ho
theorem U1{dst:Option Tmp}{s1 t1:St}(q1:Bv pm.wr s s1)(q3:Dw pm.rd s1 t1)(hf:Ej pm s1 dst=some s'):DI pm s t s' (Ej pm t1 dst):=by
 unfold Ej at hf ⊢
 split at hf
 ·rename_i u
  split at hf
  ·rename_i hc
   rw [if_pos hc];simp only [FV]at hc;simp only [Cj]at hf;obtain⟨c,hfz,rfl⟩:=hf;rw [←(q3 u hc.1).1,hfz]
   exact⟨q1.trans (Bv.set (L:=[u]) (fun _=>hc.2) _),_,rfl,q3.set _ _⟩
  ·cases hf
 ·cases hf
theorem jf{dst:Option Tmp}{s1 t1:St}(q1:Bv pm.wr s s1)(q3:Dw pm.rd s1 t1)(hf:Nc pm s1 dst=some s'):DI pm s t s' (Nc pm t1 dst):=by
 unfold Nc at hf ⊢
 split at hf
 ·rename_i u
  split at hf
  ·rename_i hc
   rw [if_pos hc];simp only [FV]at hc
   split at hf
   ·rename_i e xs hv
    simp only [Cj]at hf;obtain⟨c,hfz,rfl⟩:=hf;rw [←(q3 u hc.1).1,hv];simp only [hfz,NP]
    exact⟨q1.trans (Bv.set (L:=[u]) (fun _=>hc.2) _),_,rfl,q3.set _ _⟩
   ·cases hf
  ·cases hf
 ·cases hf
theorem mK{dst:Option Tmp}{u:Tmp}{s1 t1:St}(q1:Bv pm.wr s s1)(q3:Dw pm.rd s1 t1)(hf:Z5 pm s1 dst u=some s'):DI pm s t s' (Z5 pm t1 dst u):=by
 unfold Z5 at hf ⊢
 split at hf
 ·rename_i d
  split at hf
  ·rename_i hr
   rw [if_pos hr,←(q3 d hr).1]
   split at hf
   ·rename_i b hv
    split at hf
    ·rename_i hb
     rw [if_pos hb];simp only [al]at hf;subst hf
     exact⟨q1,_,rfl,q3⟩
    ·rename_i hb
     rw [if_neg hb];unfold Ej at hf ⊢;simp only at hf ⊢
     split at hf
     ·rename_i hc
      rw [if_pos hc];simp only [FV]at hc;simp only [Cj]at hf;obtain⟨c,hfz,rfl⟩:=hf;rw [←(q3 u hc.1).1,hfz]
      exact⟨q1.trans (Bv.set (L:=[u]) (fun _=>hc.2) _),_,rfl,q3.set _ _⟩
     ·cases hf
   ·cases hf
  ·cases hf
 ·cases hf
theorem rF{o:Oper}(h:Dw pm.rd s t)(hd: ∀u,o.dst=some u→pm.wr u=true)(hx: ∀x∈o.op.operands.toList,BL pm.rd x)
  (hw:tak o.op=true→ ∀x∈o.op.operands.toList,BL pm.wr x)(hm:bR pm s o=true)(ho:qd E pm s o=some s'):DI pm s t s' (qd E pm t o):=by
 unfold qd at ho ⊢
 cases hop:o.op<;>simp only [hop]at ho hx hw ⊢
 case move x=>
  rw [←C9 E.T h _ (hx x (by simp [Op.operands]))]
  simp only [Cj]at ho;obtain⟨d,he,rfl⟩:=ho;rw [he];refine U0 h hd (hx x (by simp [Op.operands])) (fun u hu h1 h2=> ?_)
  subst hu;simp only [ev,al]at he;subst he;simp only [bR,hop,NW,Lh,h1,h2]at hm;simpa using hm
 case assign x=>
  rw [←C9 E.T h _ (hx x (by simp [Op.operands]))]
  simp only [Hl]at ho;obtain⟨d,he,ha⟩:=ho;rw [he,Cq]
  split at ha
  ·rename_i htg
   rw [if_pos htg];simp only [Hl]at ha;obtain⟨s1,ha,hf⟩:=ha;obtain⟨q1,t1,q2,q3⟩:=Po h hd (hw rfl x (by simp [Op.operands])) ha
   rw [q2,Cq];unfold Ej at hf ⊢
   split at hf
   ·rename_i u _
    split at hf
    ·rename_i hc
     rw [if_pos hc];simp only [FV]at hc;simp only [Cj]at hf;obtain⟨c,hfz,rfl⟩:=hf;rw [←(q3 u hc.1).1,hfz]
     exact⟨q1.trans (Bv.set (L:=[u]) (fun _=>hc.2) _),_,rfl,q3.set _ _⟩
    ·cases hf
   ·cases hf
  ·rename_i htg
   rw [if_neg htg];exact Po h hd (hw rfl x (by simp [Op.operands])) ha
 case nilCheck x=>
  rw [←C9 E.T h _ (hx x (by simp [Op.operands]))]
  simp only [Hl]at ho;obtain⟨d,he,ha⟩:=ho;rw [he];have key:(d.hasObj=false∨d.isObj=true)→DI pm s t (Cb s o.dst x d) (some (Cb t o.dst x d)):=fun hq=>U0 h hd (hx x (by simp [Op.operands])) (d:=d) (fun u hu h1 h2=>by rcases hq with hq|hq<;>simp_all)
  simp only [Cq,←EE h]
  split at ha
  ·simp only [al]at ha;subst ha;exact key (.inr rfl)
  ·split at ha
   ·rename_i hl;simp only [al]at ha;subst ha;exact key (.inl rfl)
   ·cases ha
  ·split at ha
   ·rename_i hl;simp only [al]at ha;subst ha;exact key (.inl rfl)
   ·cases ha
  ·simp only [al]at ha;subst ha;exact key (.inl rfl)
  ·simp only [al]at ha;subst ha;exact key (.inl rfl)
  ·simp only [al]at ha;subst ha;exact key (.inl rfl)
  ·cases ha
 case pick c x y=>
  rw [←C9 E.T h _ (hx c (by simp [Op.operands])),←C9 E.T h _ (hx x (by simp [Op.operands])),←C9 E.T h _ (hx y (by simp [Op.operands]))]
  split at ho
  ·rename_i tb dx dy _ _ _
   by_cases hn:(if tb=true then dx else dy).hasObj=true
   ·rw [if_pos hn]at ho;cases ho
   ·rw [if_neg hn]at ho;rw [if_neg hn];simp only [al]at ho;subst ho
    exact DI.put h hd _
  ·cases ho
 case alloc ty=>
  split at ho
  ·rename_i hk;rw [if_pos hk];simp only [al]at ho;subst ho;exact DI.put h hd _
  ·cases ho
 case box ty x=>
  have hxr:=hx x (by simp [Op.operands])
  have hxw:=hw rfl x (by simp [Op.operands])
  split at ho
  ·rename_i htg
   rw [if_pos htg];simp only [Hl]at ho;obtain⟨s1,ha,hf⟩:=ho;obtain⟨q1,t1,q2,q3⟩:=Wu (T:=E.T) h hd hxr hxw ha;rw [q2,Cq];unfold Ej at hf ⊢
   split at hf
   ·rename_i u _
    split at hf
    ·rename_i hc
     rw [if_pos hc];simp only [FV]at hc;simp only [Cj]at hf;obtain⟨c,hfz,rfl⟩:=hf;rw [←(q3 u hc.1).1,hfz]
     exact⟨q1.trans (Bv.set (L:=[u]) (fun _=>hc.2) _),_,rfl,q3.set _ _⟩
    ·cases hf
   ·cases hf
  ·rename_i htg
   rw [if_neg htg];exact Wu (T:=E.T) h hd hxr hxw ho
 case build ty parts=>
  split at ho
  ·rename_i fl hn
   split at ho
   ·rename_i hk
    rw [if_pos hk];simp only [Cj]at ho;obtain⟨⟨ys,s1⟩,hf,rfl⟩:=ho;exact DI.of hd (fun x=>D.agg x) (jX E.T _ parts.toList _ h (fun q hq=>⟨hx q.2 (by simp [Op.operands];exact⟨q.1,by simpa using hq⟩),hw rfl q.2 (by simp [Op.operands];exact⟨q.1,by simpa using hq⟩)⟩)) hf
   ·cases ho
  split at ho
  ·rename_i fs hty
   split at ho
   ·rename_i hk
    rw [if_pos hk];simp only [Cj]at ho;obtain⟨⟨ys,s1⟩,hf,rfl⟩:=ho;exact DI.of hd (fun x=>D.agg x) (Wq E.T _ 1 parts.toList _ h (fun q hq=>⟨hx q.2 (by simp [Op.operands];exact⟨q.1,by simpa using hq⟩),hw rfl q.2 (by simp [Op.operands];exact⟨q.1,by simpa using hq⟩)⟩)) hf
   ·cases ho
  ·cases ho
 case buildSlice ty len parts=>
  have hps: ∀q∈parts.toList,BL pm.rd q.2∧BL pm.wr q.2:=fun q hq=>⟨hx q.2 (by simp [Op.operands];exact⟨q.1,by simpa using hq⟩),hw rfl q.2 (by simp [Op.operands];exact⟨q.1,by simpa using hq⟩)⟩
  split at ho
  ·rename_i htg
   rw [if_pos htg];simp only [Hl]at ho;obtain⟨s1,ha,hf⟩:=ho;obtain⟨q1,t1,q2,q3⟩:=Ze (T:=E.T) h hd hps ha;rw [q2,Cq];unfold Nc at hf ⊢
   split at hf
   ·rename_i u _
    split at hf
    ·rename_i hc
     rw [if_pos hc];simp only [FV]at hc
     split at hf
     ·rename_i e xs hv
      simp only [Cj]at hf;obtain⟨c,hfz,rfl⟩:=hf;rw [←(q3 u hc.1).1,hv];simp only [hfz,NP]
      exact⟨q1.trans (Bv.set (L:=[u]) (fun _=>hc.2) _),_,rfl,q3.set _ _⟩
     ·cases hf
    ·cases hf
   ·cases hf
  ·rename_i htg
   rw [if_neg htg];exact Ze (T:=E.T) h hd hps ho
 case load ty x=>
  have hxi:=hx x (by simp [Op.operands])
  rw [←C9 E.T h _ hxi];simp only [Hl,Cj]at ho;obtain⟨d,he,r,hl,rfl⟩:=ho;rw [he,Cq,←cu E.T h ty hxi,hl];exact DI.put h hd _
 case store ty ax x=>
  split at ho
  ·rename_i hn
   rw [if_pos hn]
   split at ho
   ·rename_i htg
    rw [if_pos htg];exact Pn E.T ty (hx ax (by simp [Op.operands])) (Ws E.T h ty (hx x (by simp [Op.operands])) (hw rfl x (by simp [Op.operands]))) ho
   rename_i htg
   rw [if_neg htg]
   split at ho
   ·rename_i htg
    rw [if_pos htg];exact ja E.T h ty (hx x (by simp [Op.operands])) ho
   rename_i htg
   rw [if_neg htg]
   split at ho
   ·rename_i htg
    rw [if_pos htg];simp only [Hl]at ho;obtain⟨s1,ha,hf⟩:=ho;obtain⟨q1,t1,q2,q3⟩:=RX E.T h ty (hx x (by simp [Op.operands])) (hw rfl x (by simp [Op.operands])) (hx ax (by simp [Op.operands])) ha
    rw [q2,Cq];exact U1 q1 q3 hf
   ·rename_i htg
    rw [if_neg htg];exact RX E.T h ty (hx x (by simp [Op.operands])) (hw rfl x (by simp [Op.operands])) (hx ax (by simp [Op.operands])) ho
  ·cases ho
 case binOp op ty x y ty'=>
  split at ho
  ·rename_i htg
   rw [if_pos htg];exact Wv h hd (hx x (by simp [Op.operands])) (hx y (by simp [Op.operands])) ho
  ·rename_i htg
   rw [if_neg htg];simp only [Hl]at ho;obtain⟨s1,ha,hf⟩:=ho;obtain⟨q1,t1,q2,q3⟩:=Wv h hd (hx x (by simp [Op.operands])) (hx y (by simp [Op.operands])) ha
   rw [q2,Cq];exact mK q1 q3 hf
 case unOp op ty x=>
  rw [←C9 E.T h _ (hx x (by simp [Op.operands]))]
  simp only [Hl,Cj]at ho;obtain⟨d,he,r,hl,rfl⟩:=ho;rw [he,Cq,hl];exact DI.put h hd _
 case convert src dst x=>
  split at ho
  ·rename_i hk
   rw [if_pos hk,←C9 E.T h _ (hx x (by simp [Op.operands]))]
   split at ho
   ·simp only [al]at ho;subst ho;exact DI.put h hd _
   ·simp only [al]at ho;subst ho;exact DI.put h hd _
   ·cases ho
  ·cases ho
 case makeFunc fn first captured=>
  cases fn<;>simp only at ho ⊢ <;>try (cases ho;done)
  rename_i f
  split at ho
  ·rename_i hty
   rw [if_pos hty]
   split at ho
   ·rename_i hfe
    rw [if_pos hfe];simp only [Cj]at ho;obtain⟨⟨ys,s1⟩,hc,rfl⟩:=ho;exact DI.of hd (fun x=>D.clo f x) (Zc captured.toList h (fun x hx'=>hx x (by simp [Op.operands];right;simpa using hx'))) hc
   ·cases ho
  ·rename_i hty
   rw [if_neg hty]
   split at ho
   ·rename_i hfe
    rw [if_pos hfe];simp only [Cj]at ho;obtain⟨⟨ys,s1⟩,hc,rfl⟩:=ho;exact DI.of hd (fun x=>D.ocl false f x) (mI _ captured.toList h (fun x hx'=>hx x (by simp [Op.operands];right;simpa using hx'))) hc
   ·cases ho
 case makeSlice ty l c=>
  have key: ∀s1,Vj E.T s o.dst ty l c=some s1→DI pm s t s1 (Vj E.T t o.dst ty l c):=by
   intro s1 ho;unfold Vj at ho ⊢;rw [←C9 E.T h _ (hx l (by simp [Op.operands])),←C9 E.T h _ (hx c (by simp [Op.operands]))]
   split at ho
   ·simp only [Cj]at ho;obtain⟨r,hr,rfl⟩:=ho;rw [hr];exact DI.put h hd _
   ·cases ho
  split at ho
  ·rename_i htg
   rw [if_pos htg];simp only [Hl]at ho;obtain⟨s1,ha,hf⟩:=ho;obtain⟨q1,t1,q2,q3⟩:=key s1 ha;rw [q2,Cq];exact jf q1 q3 hf
  ·rename_i htg
   rw [if_neg htg];exact key _ ho
 case slice ty x lo hi mx=>
  have hxi:=hx x (by simp [Op.operands])
  split at ho
  ·rename_i htg
   rw [if_pos htg]
   split at ho
   ·rename_i hlm
    rw [if_pos hlm];simp only [Cj]at ho;obtain⟨⟨r,s1⟩,hl,rfl⟩:=ho;exact DI.of hd (fun x=>x) (jY E.T h ty hxi (fun o ho=>hx o (by simp [Op.operands,ho]))) hl
   ·cases ho
  rename_i htg
  rw [if_neg htg]
  split at ho
  ·rename_i htg
   rw [if_pos htg]
   split at ho
   ·rename_i hlm
    rw [if_pos hlm];simp only [Cj]at ho;obtain⟨⟨r,s1⟩,hl,rfl⟩:=ho;exact DI.of hd (fun x=>x) (d9 E.T h ty hxi (fun o ho=>hx o (by simp [Op.operands,ho]))) hl
   ·cases ho
  rename_i htg
  rw [if_neg htg];rw [←C9 E.T h _ hxi];simp only [Hl,Cj]at ho;obtain⟨d,he,⟨r,s1⟩,hl,rfl⟩:=ho;rw [he,Cq]
  have hloc:Xj pm s t (II E.T (if o.type=900001 then pm.see else pm) s ty x d lo hi mx) (II E.T (if o.type=900001 then pm.see else pm) t ty x d lo hi mx):=by
   split
   ·intro d1 s2 hd1;obtain⟨q1,q2⟩:=RV (pm:=pm.see) E.T h ty hxi d (fun o ho=>hx o (by simp [Op.operands,ho])) (fun o ho=>hx o (by simp [Op.operands,ho])) (fun o ho=>hx o (by simp [Op.operands,ho])) d1 s2 hd1
    exact⟨fun r _=>q1 r rfl,q2⟩
   ·exact RV E.T h ty hxi d (fun o ho=>hx o (by simp [Op.operands,ho])) (fun o ho=>hx o (by simp [Op.operands,ho])) (fun o ho=>hx o (by simp [Op.operands,ho]))
  exact DI.of hd (fun x=>x) hloc hl
 case fieldAddr ty x i=>
  have hxi:=hx x (by simp [Op.operands])
  rw [←C9 E.T h _ hxi];simp only [Hl,Cj]at ho;obtain⟨d,he,r,hl,rfl⟩:=ho;rw [he,Cq,←Ru E.T h ty hxi,hl];exact DI.put h hd _
 case indexAddr ty x i=>
  have hxi:=hx x (by simp [Op.operands])
  rw [←C9 E.T h _ hxi,←C9 E.T h _ (hx i (by simp [Op.operands]))]
  split at ho
  ·simp only [Cj]at ho;obtain⟨r,hr,rfl⟩:=ho;simp only [←mE E.T h ty hxi,hr];exact DI.put h hd _
  ·cases ho
 case makeMap ty r=>
  split at ho
  ·rename_i hr0
   rw [if_pos hr0];simp only [Cj]at ho;obtain⟨r,hr,rfl⟩:=ho;rw [hr];exact DI.put h hd _
  ·cases ho
 case lookup ty x i ok=>
  rw [←C9 E.T h _ (hx x (by simp [Op.operands])),←C9 E.T h _ (hx i (by simp [Op.operands]))]
  split at ho
  ·simp only [Cj]at ho;obtain⟨r,hr,rfl⟩:=ho;simp only [←Xi E.T h ty,hr];exact DI.put h hd _
  ·cases ho
 case mapUpdate ty x i v=>
  split at ho
  ·rename_i hn
   rw [if_pos hn,←C9 E.T h _ (hx x (by simp [Op.operands])),←C9 E.T h _ (hx i (by simp [Op.operands])),←C9 E.T h _ (hx v (by simp [Op.operands]))]
   split at ho
   ·exact Zb E.T h ty x _ _ _ ho
   ·cases ho
  ·cases ho
 case extract x i=>
  rw [←C9 E.T h _ (hx x (by simp [Op.operands]))]
  simp only [Hl]at ho;obtain⟨d,he,ha⟩:=ho;rw [he];exact Vr h hd (hx x (by simp [Op.operands])) ha
 case call c=>
  have hargs: ∀x∈c.args.toList,BL pm.rd x:=fun x hx'=>hx x (by simp only [Op.operands,Call.operands];simp;right;simpa using hx')
  have hzip: ∀q∈c.args.toList.zip c.argTypes.toList,BL pm.rd q.1:=fun q hq=>hargs q.1 (XN hq).1
  cases hcal:c.callee<;>simp only [hcal]at ho ⊢
  case builtin b=>
   cases b<;>simp only at ho ⊢
   case len=>
    split at ho
    ·rename_i x ty hargs' hts
     have hxi:=hargs x (by rw [hargs'];simp)
     rw [←C9 E.T h _ hxi];simp only [Hl,Cj]at ho;obtain⟨d,he,r,hr,rfl⟩:=ho;rw [he,Cq,←jW E.T h ty hxi,hr];exact DI.put h hd _
    ·cases ho
   case append=>
    split at ho
    ·rename_i x y ty ty' hargs' hts
     split at ho
     ·rename_i htt
      rw [if_pos htt];simp only [Cj]at ho;obtain⟨⟨r,s1⟩,hr,rfl⟩:=ho;have hwa: ∀x∈c.args.toList,BL pm.wr x:=fun x hx'=>hw (by obtain⟨cal,_,_⟩:=c;simp only at hcal;subst hcal;rfl) x (by simp only [Op.operands,Call.operands];simp;right;simpa using hx')
      rw [←C9 E.T h ty (hargs y (by rw [hargs'];simp))]
      by_cases hz:isZ (ev E.T s ty y)=true
      ·simp only [hz,if_true]at hr ⊢;exact DI.of hd (fun x=>x) (dA E.T h ty (hargs x (by rw [hargs'];simp)) (hwa x (by rw [hargs'];simp))) hr
      ·simp only [hz]at hr ⊢;exact DI.of hd (fun x=>x) (Xk E.T h ty (hargs x (by rw [hargs'];simp)) (hwa x (by rw [hargs'];simp)) (hargs y (by rw [hargs'];simp)) (hwa y (by rw [hargs'];simp))) hr
     ·cases ho
    ·cases ho
   case min=>
    split at ho
    ·rename_i x y ty ty' hargs' hts
     rw [←C9 E.T h ty (hargs x (by rw [hargs'];simp)),←C9 E.T h ty' (hargs y (by rw [hargs'];simp))]
     split at ho
     ·rename_i da db hea heb
      simp only [Cj]at ho;obtain⟨r,hr,rfl⟩:=ho;rw [hr];exact DI.put h hd _
     ·cases ho
    ·cases ho
   case max=>
    split at ho
    ·rename_i x y ty ty' hargs' hts
     rw [←C9 E.T h ty (hargs x (by rw [hargs'];simp)),←C9 E.T h ty' (hargs y (by rw [hargs'];simp))]
     split at ho
     ·rename_i da db hea heb
      simp only [Cj]at ho;obtain⟨r,hr,rfl⟩:=ho;rw [hr];exact DI.put h hd _
     ·cases ho
    ·cases ho
   case clear=>
    split at ho
    ·rename_i x ty hargs' hts
     rw [←C9 E.T h ty (hargs x (by rw [hargs'];simp))]
     simp only [Hl,Cj]at ho;obtain⟨da,hea,⟨r,s1⟩,hr,rfl⟩:=ho;rw [hea,Cq];exact DI.of hd (fun x=>x) (Za E.T h ty (hargs x (by rw [hargs'];simp)) da) hr
    ·cases ho
   case copy=>
    split at ho
    ·rename_i x y ty ty' hargs' hts
     rw [←C9 E.T h ty (hargs x (by rw [hargs'];simp)),←C9 E.T h ty (hargs y (by rw [hargs'];simp))]
     split at ho
     ·rename_i da db hea heb
      simp only [Cj]at ho;obtain⟨⟨r,s1⟩,hr,rfl⟩:=ho;exact DI.of hd (fun x=>x) (cz E.T h ty (hargs x (by rw [hargs'];simp)) (hargs y (by rw [hargs'];simp)) da db) hr
     ·cases ho
    ·cases ho
   all_goals (cases ho)
  case value fo=>
   cases fo<;>simp only at ho ⊢
   case func f=>
    split at ho
    ·rename_i hsz
     rw [if_pos hsz]
     split at ho
     ·rename_i hty
      rw [if_pos hty];obtain⟨s1,h1,h2⟩:=Hl.1 ho;obtain⟨q1,t1,q2,q3⟩:=Qq h hd (fun q hq=>hargs q.1 (XN hq).1) h1;rw [q2];exact U1 q1 q3 h2
     ·rename_i hty
      rw [if_neg hty];exact Qq h hd (fun q hq=>hargs q.1 (XN hq).1) ho
    ·cases ho
   case tmp u=>
    rw [←(h u (hx (.tmp u) (by simp [Op.operands,Call.operands,hcal]) u rfl)).1]
    split at ho
    ·split at ho
     ·rename_i hsz
      rw [if_pos hsz];exact Qq h hd hzip ho
     ·cases ho
    ·split at ho
     ·rename_i hsz
      rw [if_pos hsz];exact jb h hd hzip ho
     ·cases ho
    ·cases ho
   all_goals (cases ho)
  all_goals (cases ho)
 all_goals (cases ho)
theorem jg{ops:Array Oper}(h:Dw pm.rd s t){o:Oper}(hg: ∀j b u,o.guard=some (j,b)→(ops[j]?).bind (·.dst)=some u→pm.rd u=true):Lv ops s o=Lv ops t o:=by
 unfold Lv;split
 ·rfl
 ·rename_i j b hgd
  cases hj:(ops[j]?).bind (·.dst)with
  |none=>rfl
  |some u=>simp only;rw [(h u (hg j b u hgd hj)).1]
def NJ(E:Env)(ops:Array Oper)(pm:Pm)(s:St)(o:Oper):Option St:=if bR pm s o then JF E ops pm s (TP E.lends ops.toList o)else none
theorem jh{ops:Array Oper}{o:Oper}(h:Dw pm.rd s t)(hd: ∀u,o.dst=some u→pm.wr u=true)(hx: ∀x∈o.op.operands.toList,BL pm.rd x)
  (hw:tak o.op=true→ ∀x∈o.op.operands.toList,BL pm.wr x)(hg: ∀j b u,o.guard=some (j,b)→(ops[j]?).bind (·.dst)=some u→pm.rd u=true)
  (ho:NJ E ops pm s o=some s'):DI pm s t s' (NJ E ops pm t o):=by
 unfold NJ at ho ⊢
 split at ho
 ·rename_i hm
  have hmt:bR pm t o=true:=by
   unfold bR at hm ⊢;split
   ·rename_i u hu
    simp only [hu]at hm;rw [←(h u (hx (.tmp u) (by simp [hu,Op.operands]) u rfl)).1];exact hm
   ·rfl
  rw [if_pos hmt];unfold JF at ho ⊢;have hwd: ∀q,Lv ops q (TP E.lends ops.toList o)=Lv ops q o:=fun _=>rfl;rw [hwd]at ho ⊢;rw [←jg h hg]
  split at ho
  ·exact rF (o:=TP E.lends ops.toList o) h hd hx hw hm ho
  ·simp only [al]at ho;subst ho;exact DI.put h hd _
  ·cases ho
 ·cases ho
end
end Dv
namespace Dv
open Go
theorem St.eq_of{s t:St}(h: ∀r,s.v r=t.v r∧s.k r=t.k r∧s.m r=t.m r):s=t:=by
 obtain⟨v,k,m⟩:=s;obtain⟨v',k',m'⟩:=t;have h1:v=v':=funext fun r=>(h r).1;have h2:k=k':=funext fun r=>(h r).2.1;have h3:m=m':=funext fun r=>(h r).2.2
 subst h1 h2 h3;rfl
section
variable {E:Env} {ops:Array Oper} {l:List Oper} {lends:am→Bool}
theorem Nt{o:Oper}{u:Nat}:u∈FU o↔Operand.tmp u∈o.op.operands.toList:=by
 simp only [FU,List.mem_filterMap]
 constructor
 ·rintro⟨x,hx,hu⟩
  cases x<;>simp at hu
  subst hu;exact hx
 ·intro h;exact⟨_,h,rfl⟩
theorem DX{o:Oper}{u:Nat}(h:o.dst=some u):u∈FR l o:=by
 simp [FR,h]
theorem I1{o:Oper}{u:Nat}(h:u∈FU o):u∈FR l o:=by
 simp [FR,h]
theorem dC{o:Oper}{u:Nat}(h:o.dst=some u):u∈EG lends l o:=by
 unfold EG;split
 ·split
  ·simp [h]
  ·exact DX h
 split
 ·simp [h]
 ·split
  ·simp [h]
  ·simp [h]
  ·split
   ·simp [h]
   ·split<;>simp [h]
  ·simp [h]
  ·simp [h]
  ·split
   ·simp [h]
   ·exact DX h
  ·split
   ·simp [h]
   ·exact DX h
  ·split
   ·simp [h]
   ·exact DX h
  ·exact DX h
theorem Mi{o:Oper}{r:Nat}(h:r∈EG lends l o):r∈FR l o:=by
 unfold EG at h
 split at h
 ·split at h
  ·unfold FR;simp only [MU]at h ⊢;rcases h with(h|h)|h<;>simp [h]
  ·exact h
 split at h
 ·exact DX (by simpa using h)
 ·split at h
  ·rename_i u hu
   simp only [MU]at h;rcases h with h|h
   ·exact DX (by simpa using h)
   ·split at h
    ·simp only [List.mem_singleton]at h;subst h;exact I1 (Nt.2 (by simp [hu,Op.operands]))
    ·cases h
  ·exact DX (by simpa using h)
  ·rename_i hop
   split at h
   ·rcases MU.1 h with h|h
    ·unfold FR;simp only [MU]at h ⊢;rcases h with(h|h)|h<;>simp [h]
    ·obtain⟨u,hu,rfl⟩:=Jd.1 h;have hu:=(aw.1 hu).1;unfold FR Sc;rw [hop];simp only [MU,Jd];exact .inl (.inr ⟨u,hu,rfl⟩)
   ·split at h
    ·rcases MU.1 h with h|h
     ·exact DX (by simpa using h)
     ·exact I1 h
    ·exact DX (by simpa using h)
  ·rename_i hop
   rcases MU.1 h with h|h
   ·rcases MU.1 h with h|h
    ·exact DX (by simpa using h)
    ·exact I1 h
   ·obtain⟨u,hu,rfl⟩:=Jd.1 h;have hu:=(aw.1 hu).1;unfold FR Sc;rw [hop];simp only [MU,Jd];exact .inl (.inr ⟨u,hu,rfl⟩)
  ·rename_i hop
   rcases MU.1 h with h|h
   ·rcases MU.1 h with h|h
    ·exact DX (by simpa using h)
    ·exact I1 h
   ·obtain⟨u,hu,rfl⟩:=Jd.1 h;have hu:=(aw.1 hu).1;unfold FR Sc;rw [hop];simp only [MU,Jd];exact .inl (.inr ⟨u,hu,rfl⟩)
  ·split at h
   ·rcases MU.1 h with h|h
    ·exact DX (by simpa using h)
    ·exact I1 h
   ·exact h
  ·split at h
   ·exact DX (by simpa using h)
   ·exact h
  ·split at h
   ·rcases MU.1 h with h|h
    ·exact DX (by simpa using h)
    ·exact I1 h
   ·exact h
  ·exact h
theorem dD{o:Oper}(h:tak o.op=true){u:Nat}(hu:u∈FU o):u∈EG lends l o:=by
 have hn:u∈FR l o:=I1 hu;unfold EG;split
 ·split
  ·exact List.mem_append_right _ hu
  ·exact hn
 cases hop:o.op<;>simp only [hop,tak]at h<;>try (cases h;done)
 all_goals (try (simp [Op.calm,hn,hu];done))
 ·simp only [Op.calm,JQ,if_false];split
  ·exact List.mem_append_right _ hu
  ·exact hn
 rename_i c
 obtain⟨cal,_,_⟩:=c
 cases cal with
 |builtin b=>cases b<;>first|(simp [Op.calm,hn];done)|(cases h;done)|(simp only [Op.calm,JQ,if_false];split<;>simp [hn,hu])
 |_=>cases h
theorem Pp{o:Oper}{r:Nat}(h:r∈FR l o):(Ia lends l o).rd r=true:=by
 simp [Ia,h]
theorem Ki{o:Oper}{r:Nat}:(Ia lends l o).wr r=true↔r∈EG lends l o:=by
 simp [Ia]
theorem Nu(hl:l=ops.toList){s t s':St}{o:Oper}(h:Dw (Ia E.lends l o).rd s t)(ho:NJ E ops (Ia E.lends l o) s o=some s'):
  DI (Ia E.lends l o) s t s' (NJ E ops (Ia E.lends l o) t o):=by
 refine jh h (fun u hu=>Ki.2 (dC hu)) (fun x hx u hu=>Pp (I1 (Nt.2 (hu▸hx)))) (fun ht x hx u hu=>Ki.2 ?_) (fun j b u hg hj=>Pp ?_) ho
 ·exact dD ht (Nt.2 (hu▸hx))
 ·have hj':(l[j]?).bind (·.dst)=some u:=by rw [hl];simpa using hj
  simp [FR,hg,hj']
theorem RZ{a b:List Nat}(h:gB a b=false): ∀r,r∈a→r ∉ b:=by
 intro r hr hb;simp only [gB,List.any_eq_false,XI]at h;exact h r hr hb
theorem mM{s s1:St}{oi oj:Oper}(hj:oj∈l)(hs:Bv (Ia lends l oj).wr s s1)(hm: ∀r,r∈EG lends l oj→r ∉ FR l oi):Dw (Ia lends l oi).rd s1 s:=by
 intro r hr
 have hnw:(Ia lends l oj).wr r=false:=by
  cases hw:(Ia lends l oj).wr r with
  |false=>rfl
  |true=>
   rw [Ki]at hw;have h1:=hm r hw;have h2:r∈l.flatMap (EG lends l):=List.mem_flatMap.2 ⟨oj,hj,hw⟩;simp only [Ia,NW,XI,Lh]at hr;rcases hr with hr|hr
   ·exact(h1 hr).elim
   ·rw [←Bool.not_eq_true,XI]at hr
    exact(hr h2).elim
 exact hs r hnw
theorem Dw.symm{A:Nat→Bool}{s t:St}(h:Dw A s t):Dw A t s:=fun r hr=>⟨(h r hr).1.symm,(h r hr).2.1.symm,(h r hr).2.2.symm⟩
theorem Dw.refl{A:Nat→Bool}{s:St}:Dw A s s:=fun _ _=>⟨rfl,rfl,rfl⟩
theorem swap(hl:l=ops.toList){s s1 s2:St}{oi oj:Oper}(hi:oi∈l)(hj:oj∈l)(h1: ∀r,r∈EG E.lends l oj→r ∉ FR l oi)(h2: ∀r,r∈EG E.lends l oi→r ∉ FR l oj)
  (a:NJ E ops (Ia E.lends l oj) s oj=some s1)(b:NJ E ops (Ia E.lends l oi) s1 oi=some s2):
  ∃t1,NJ E ops (Ia E.lends l oi) s oi=some t1∧NJ E ops (Ia E.lends l oj) t1 oj=some s2:=by
 have sj:=(Nu hl Dw.refl a).1;obtain⟨si,t1,e1,a1⟩:=Nu hl (mM hj sj h1) b;have si':=(Nu hl Dw.refl e1).1;obtain⟨_,t2,e2,a2⟩:=Nu hl (mM hi si' h2).symm a;have sj':=(Nu hl Dw.refl e2).1
 refine⟨t1,e1, ?_⟩
 rw [e2]
 congr 1
 refine St.eq_of fun r=> ?_;by_cases hwi:r∈EG E.lends l oi
 ·have hnj:(Ia E.lends l oj).wr r=false:=by
   cases hw:(Ia E.lends l oj).wr r with
   |false=>rfl
   |true=>exact(h1 r (Ki.1 hw) (Mi hwi)).elim
  obtain⟨p1,p2,p3⟩:=sj' r hnj;obtain⟨q1,q2,q3⟩:=a1 r (Pp (Mi hwi))
  exact⟨p1.trans q1.symm,p2.trans q2.symm,p3.trans q3.symm⟩
 ·have hni:(Ia E.lends l oi).wr r=false:=by
   cases hw:(Ia E.lends l oi).wr r with
   |false=>rfl
   |true=>exact(hwi (Ki.1 hw)).elim
  obtain⟨p1,p2,p3⟩:=si r hni;by_cases hwj:r∈EG E.lends l oj
  ·obtain⟨q1,q2,q3⟩:=a2 r (Pp (Mi hwj))
   exact⟨(p1.trans q1).symm,(p2.trans q2).symm,(p3.trans q3).symm⟩
  ·have hnj:(Ia E.lends l oj).wr r=false:=by
    cases hw:(Ia E.lends l oj).wr r with
    |false=>rfl
    |true=>exact(hwj (Ki.1 hw)).elim
   obtain⟨q1,q2,q3⟩:=sj r hnj;obtain⟨u1,u2,u3⟩:=sj' r hnj;obtain⟨x1,x2,x3⟩:=si' r hni
   exact⟨(u1.trans x1).trans (p1.trans q1).symm,(u2.trans x2).trans (p2.trans q2).symm,(u3.trans x3).trans (p3.trans q3).symm⟩
def stI(E:Env)(ops:Array Oper)(l:List Oper)(s:St)(i:Nat):Option St:=
 match ops[i]? with
 |some o=>NJ E ops (Ia E.lends l o) s o
 |none=>none
def U2(E:Env)(ops:Array Oper)(l:List Oper):St→List Nat→Option St
 |s,[]=>some s
 |s,i::is=>(stI E ops l s i).bind fun s'=>U2 E ops l s' is
theorem dE: ∀(q:List Oper) (k:Nat) (s:St),ops.toList.drop k=q→Om E ops l s q=U2 E ops l s (List.range' k q.length):=by
 intro q
 induction q with
 |nil=>intro k s _;rfl
 |cons o q ih=>
  intro k s hq
  have hk:ops[k]? =some o:=by
   have:(ops.toList.drop k)[0]? =some o:=by rw [hq];rfl
   rw [NN]at this;simpa using this
  have hd:ops.toList.drop (k+1)=q:=by rw [←List.drop_drop,hq];rfl
  simp only [Om,Lr,List.range'_succ,U2,stI,hk,NJ];split
  ·cases JF E ops (Ia E.lends l o) s (TP E.lends ops.toList o)with
   |none=>rfl
   |some s1=>simp only [Cq];exact ih (k+1) s1 hd
  ·rfl
def A3y(lends:am→Bool)(ops:Array Oper)(l:List Oper)(j i:Nat):Prop:=
 ∀oi oj,ops[i]? =some oi→ops[j]? =some oj→(∀r,r∈EG lends l oj→r ∉ FR l oi)∧(∀r,r∈EG lends l oi→r ∉ FR l oj)
theorem dF(hl:l=ops.toList){i:Nat}{post:List Nat}: ∀(pre:List Nat) {s s':St},(∀j∈pre,A3y E.lends ops l j i)→U2 E ops l s (pre++i::post)=some s'→
  ∃t,stI E ops l s i=some t∧U2 E ops l t (pre++post)=some s':=by
 intro pre
 induction pre with
 |nil=>
  intro s s' _ h;simp only [PY,U2,Hl]at h;exact h
 |cons j pre ih=>
  intro s s' hf h;simp only [QZ,U2,Hl]at h;obtain⟨s1,e1,h⟩:=h;obtain⟨s2,e2,h⟩:=ih (fun j' hj'=>hf j' (Jb _ hj')) h;unfold stI at e1 e2
  cases hj:ops[j]? with
  |none=>simp [hj]at e1
  |some oj=>
   cases hi:ops[i]? with
   |none=>simp [hi]at e2
   |some oi=>
    simp only [hj]at e1;simp only [hi]at e2;obtain⟨f1,f2⟩:=hf j (LF) oi oj hi hj;have mi:oi∈l:=by rw [hl];exact Ve (i:=i) (by simpa using hi)
    have mj:oj∈l:=by rw [hl];exact Ve (i:=j) (by simpa using hj)
    obtain⟨t1,g1,g2⟩:=swap hl mi mj f1 f2 e1 e2
    refine⟨t1,by simp [stI,hi,g1], ?_⟩
    simp only [QZ,U2,stI,hj,g2,Cq];exact h
def IP(acc:List Nat)(o:Oper):List Nat:=acc++[XT acc o]
theorem U3(a:List Oper):Sd a=a.foldl IP []:=rfl
theorem rG: ∀(q:List Oper) (acc:List Nat),∃ext,q.foldl IP acc=acc++ext∧ext.length=q.length:=by
 intro q
 induction q with
 |nil=>intro acc;exact⟨[],by simp,rfl⟩
 |cons o q ih=>
  intro acc;obtain⟨ext,h1,h2⟩:=ih (IP acc o)
  exact⟨_::ext,by rw [XM,h1,IP,P5];rfl,by simp [h2]⟩
theorem dG{acc acc':List Nat}{o:Oper}(h: ∀e∈o.after.toList,Region.binds .any e=true→acc.getD e.on 0=acc'.getD e.on 0):XT acc o=XT acc' o:=by
 unfold XT;generalize o.after.toList=l at h;generalize (0:Nat)=m0 at h ⊢
 suffices hs: ∀(m:Nat),l.foldl (fun m e=>if Region.binds .any e then(m ||| 2 ^ e.on) ||| acc.getD e.on m0 else m) m=l.foldl (fun m e=>if Region.binds .any e then(m ||| 2 ^ e.on) ||| acc'.getD e.on m0 else m) m from hs m0
 induction l with
 |nil=>intro m;rfl
 |cons e l ih=>
  intro m;rw [XM,XM]
  have:(if Region.binds .any e then(m ||| 2 ^ e.on) ||| acc.getD e.on m0 else m)=(if Region.binds .any e then(m ||| 2 ^ e.on) ||| acc'.getD e.on m0 else m):=by
   split
   ·rename_i hb;rw [h e (LF) hb]
   ·rfl
  rw [this];exact ih (fun e' he'=>h e' (Jb _ he')) _
theorem Ww{acc:List Nat}{o:Oper}{j:Nat}(h:(XT acc o).testBit j=true): ∃e∈o.after.toList,Region.binds .any e=true∧(j=e.on∨(acc.getD e.on 0).testBit j=true):=by
 unfold XT at h
 suffices hs: ∀(l:List _) (m:Nat),(l.foldl (fun m e=>if Region.binds .any e then(m ||| 2 ^ e.on) ||| acc.getD e.on 0 else m) m).testBit j=true→m.testBit j=true∨ ∃e∈l,Region.binds .any e=true∧(j=e.on∨(acc.getD e.on 0).testBit j=true) by
  rcases hs _ _ h with h0|h0
  ·simp at h0
  ·exact h0
 intro l
 induction l with
 |nil=>intro m hm;exact .inl hm
 |cons e l ih=>
  intro m hm;rw [XM]at hm;rcases ih _ hm with h1|⟨e',he',h2⟩
  ·split at h1
   ·rename_i hb
    rw [Nat.testBit_or,Nat.testBit_or,NW,NW]at h1;rcases h1 with(h1|h1)|h1
    ·exact .inl h1
    ·rw [Nat.testBit_two_pow,decide_eq_true_eq]at h1;exact .inr ⟨e,LF,hb,.inl h1.symm⟩
    ·exact .inr ⟨e,LF,hb,.inr h1⟩
   ·exact .inl h1
  ·exact .inr ⟨e',Jb _ he',h2⟩
theorem gH: ∀(q:List Oper) (acc:List Nat) (i:Nat) (o:Oper),q[i]? =some o→(∀e∈o.after.toList,Region.binds .any e=true→e.on<acc.length+i)→
  (q.foldl IP acc).getD (acc.length+i) 0=XT (q.foldl IP acc) o:=by
 intro q
 induction q with
 |nil=>intro acc i o h;simp at h
 |cons p q ih=>
  intro acc i o hi he
  cases i with
  |zero=>
   simp only [Oc,al]at hi;subst hi;obtain⟨ext,h1,h2⟩:=rG q (IP acc p);rw [XM,h1]
   have h3:(IP acc p++ext).getD (acc.length+0) 0=XT acc p:=by
    simp [IP,KG]
   rw [h3];refine dG fun e hm hb=> ?_;have:=he e hm hb
   simp only [IP,P5,KG];rw [NV (by omega)]
  |succ i=>
   simp only [QY]at hi;have hlen:(IP acc p).length=acc.length+1:=by simp [IP]
   have:=ih (IP acc p) i o hi (fun e hm hb=>by rw [hlen];have:=he e hm hb;omega)
   rw [XM];rw [hlen]at this;rw [show acc.length+(i+1)=acc.length+1+i by omega]
   exact this
def mO(ops:Array Oper)(listed:Array Bool):Prop:=
 ∀(i:Nat) (o:Oper),ops[i]? =some o→listed.getD i false=true→ ∀e∈o.after.toList,Region.binds .any e=true→listed.getD e.on false=true
def mP(ops:Array Oper):Prop:= ∀(i:Nat) (o:Oper),ops[i]? =some o→ ∀e∈o.after.toList,Region.binds .any e=true→e.on<i
theorem U4(hb:mP ops){listed:Array Bool}(hc:mO ops listed): ∀(n i:Nat) (o:Oper),i≤n→ops[i]? =some o→(∀e∈o.after.toList,Region.binds .any e=true→listed.getD e.on false=true)→
  ∀j,((Sd ops.toList).getD i 0).testBit j=true→listed.getD j false=true:=by
 intro n
 induction n with
 |zero=>
  intro i o hi ho _ j hj;have:i=0:=by omega
  subst this;have h:=gH ops.toList [] 0 o (by simpa using ho) (fun e hm hbi=>by have:=hb 0 o ho e hm hbi;omega)
  rw [U3]at hj;simp only [Qa,JR]at h;rw [h]at hj;obtain⟨e,hm,hbi,hj⟩:=Ww hj;have:=hb 0 o ho e hm hbi;omega
 |succ n ih=>
  intro i o hi ho hl j hj;have h:=gH ops.toList [] i o (by simpa using ho) (fun e hm hbi=>by have:=hb i o ho e hm hbi;simpa using this)
  rw [U3]at hj;simp only [Qa,JR]at h;rw [h]at hj;obtain⟨e,hm,hbi,hj⟩:=Ww hj;have hlt:=hb i o ho e hm hbi;have hle:=hl e hm hbi;rcases hj with rfl|hj
  ·exact hle
  ·have hon:e.on<ops.size:=by
    have:i<ops.size:=(Vb.1 ho).1
    omega
   exact ih e.on ops[e.on] (by omega) (KR hon) (hc e.on _ (KR hon) hle) j hj
theorem Xm(h:Ni lends ops.toList=true):mP ops:=by
 simp only [Ni,FV,JC]at h;intro i o ho e hm hb;have:=h.1 (o,i) (by rw [List.mem_zipIdx_iff_getElem?];simpa using ho) e hm
 simpa [hb] using this
theorem Zf(h:Ni lends ops.toList=true){i j:Nat}(hji:j<i)(hi:i<ops.size)(hn: ¬((Sd ops.toList).getD i 0).testBit j=true):A3y lends ops ops.toList j i:=by
 simp only [Ni,FV,JC]at h;have:=h.2 i (by simpa using hi) j (by simpa using hji)
 simp only [NW,FV,Lh]at this;rcases this with hc|⟨h1,h2⟩
 ·exact(hn hc).elim
 ·intro oi oj hoi hoj;have gi:ops.toList[i]? =some oi:=by simpa using hoi
  have gj:ops.toList[j]? =some oj:=by simpa using hoj
  simp only [KG,MS,gi,gj,NP,Yy]at h1 h2
  exact⟨RZ h1,fun r hw hn=>RZ h2 r hn hw⟩
def rem(n:Nat)(listed:Array Bool):List Nat:=(an n).filter fun i=> !listed.getD i true
theorem Ra{n i:Nat}(h:i<n):an n=an i++i::List.range' (i+1) (n-i-1):=by
 have h1:n=i+((n-i-1)+1):=by omega
 rw [ba,ba]
 conv=>lhs;rw [h1,←List.range'_append_1]
 rw [List.range'_succ]
 simp
theorem Jy{listed:Array Bool}{i j:Nat}(h:j≠i)(b c:Bool):(listed.setIfInBounds i b).getD j c=listed.getD j c:=by
 simp only [MR];rw [Array.getElem?_setIfInBounds_ne (Ne.symm h)]
theorem Rb{listed:Array Bool}{i:Nat}(h:i<listed.size)(b c:Bool):(listed.setIfInBounds i b).getD i c=b:=by
 simp [MR,h]
theorem ji{n i:Nat}{listed:Array Bool}(hsz:listed.size=n)(hi:i<n)(hl:listed.getD i true=false):
  ∃pre post,rem n listed=pre++i::post∧rem n (listed.setIfInBounds i true)=pre++post∧ ∀j∈pre,j<i∧listed.getD j true=false:=by
 refine⟨(an i).filter fun i=> !listed.getD i true,(List.range' (i+1) (n-i-1)).filter fun i=> !listed.getD i true, ?_, ?_,fun j hj=> ?_⟩
 ·rw [rem,Ra hi,List.filter_append,List.filter_cons];simp [hl]
 ·rw [rem,Ra hi,List.filter_append,List.filter_cons,Rb (by omega)]
  simp only [Bool.not_true,JQ,if_false]
  congr 1
  ·refine List.filter_congr fun j hj=> ?_;rw [Jy (by simp at hj;omega)]
  ·refine List.filter_congr fun j hj=> ?_;rw [Jy (by simp [List.mem_range']at hj;omega)]
 ·simp only [aw,P7,Lh]at hj;exact hj
theorem Pq{listed:Array Bool}{i:Nat}(h:i<listed.size)(b c:Bool):listed.getD i b=listed.getD i c:=by
 simp [MR,h]
theorem OQ{listed:Array Bool}{i:Nat}:i∈Region.ready .any ops listed↔ ∃o,ops[i]? =some o∧listed.getD i true=false∧ ∀e∈o.after.toList,Region.binds .any e=true→listed.getD e.on false=true:=by
 simp only [Region.ready,aw,P7,FV,Lh]
 constructor
 ·rintro⟨h1,h2,h3⟩
  refine⟨ops[i],KR h1,h2,fun e he hb=> ?_⟩
  rw [KR h1]at h3;simp only [NP,Yy,Array.all_eq_true_iff_forall_mem,NW,Lh]at h3;rcases h3 e (by simpa using he)with h|h
  ·rw [hb]at h;cases h
  ·exact h
 ·rintro⟨o,ho,h2,h3⟩
  refine⟨(Vb.1 ho).1,h2, ?_⟩
  rw [ho];simp only [NP,Yy,Array.all_eq_true_iff_forall_mem,NW,Lh];intro e he
  cases hb:Region.binds .any e with
  |false=>exact .inl rfl
  |true=>exact .inr (h3 e (by simpa using he) hb)
theorem jk(hb:mP ops){listed:Array Bool}(hsz:listed.size=ops.size)(h:Region.ready .any ops listed=[]):rem ops.size listed=[]:=by
 have key: ∀(n i:Nat),i≤n→i<ops.size→listed.getD i false=true:=by
  intro n
  induction n with
  |zero=>
   intro i hi hlt;have:i=0:=by omega
   subst this;rw [Pq (by omega) false true]
   cases hl:listed.getD 0 true with
   |true=>rfl
   |false=>
    have:0∈Region.ready .any ops listed:=OQ.2 ⟨ops[0],KR hlt,hl,fun e he hbi=>by have:=hb 0 _ (KR hlt) e he hbi;omega⟩
    rw [h]at this;cases this
  |succ n ih=>
   intro i hi hlt;rw [Pq (by omega) false true]
   cases hl:listed.getD i true with
   |true=>rfl
   |false=>
    have:i∈Region.ready .any ops listed:=OQ.2 ⟨ops[i],KR hlt,hl,fun e he hbi=>by
     have:=hb i _ (KR hlt) e he hbi
     exact ih e.on (by omega) (by omega)⟩
    rw [h]at this;cases this
 rw [rem,List.filter_eq_nil_iff];intro i hi;have:=key i i (IG _) (by simpa using hi)
 rw [Pq (by simp at hi;omega) true false,this];simp
theorem mQ{P:Program}{N:Nat}{gh:Nat→Value}(hT:Bg P E.T)(hC:Jq P E)(hops: ∀(j:Nat) (o:Oper),ops[j]? =some o→Ph N o)(hok:Ni E.lends ops.toList=true):
  ∀(fuel:Nat) (listed:Array Bool) {s s':St} {a:Act} {w:World} {S:Nat→Prop} {Fs:Nat→Nat→Prop} {Q:Exit→Act→World→Prop},
  listed.size=ops.size→mO ops listed→(rem ops.size listed).length≤fuel→Fr E.T N gh s a w S Fs→U2 E ops ops.toList s (rem ops.size listed)=some s'→
  (∀a' w',CJ E.T gh N s' w S Fs a' w'→Q .normal a' w')→wpAny P .any ops Q fuel listed a w:=by
 have hb:=Xm hok
 have hdone: ∀ {listed:Array Bool} {s s':St} {a:Act} {w:World} {S:Nat→Prop} {Fs:Nat→Nat→Prop} {Q:Exit→Act→World→Prop},rem ops.size listed=[]→Fr E.T N gh s a w S Fs→U2 E ops ops.toList s (rem ops.size listed)=some s'→
   (∀a' w',CJ E.T gh N s' w S Fs a' w'→Q .normal a' w')→Q .normal a w:=by
  intro listed s s' a w S Fs Q hr hf hrun hQ;rw [hr]at hrun;simp only [U2,al]at hrun;subst hrun;exact hQ a w ⟨S,Fs,hf.rel,Step.refl _ _ _,hf.defs,hf.size⟩
 intro fuel
 induction fuel with
 |zero=>
  intro listed s s' a w S Fs Q hsz hc hlen hf hrun hQ;have hr:rem ops.size listed=[]:=bE (by omega)
  refine⟨?_,hdone hr hf hrun hQ⟩
  rw [List.eq_nil_iff_forall_not_mem];intro i hi;obtain⟨o,ho,hl,_⟩:=OQ.1 hi
  have:i∈rem ops.size listed:=by
   simp only [rem,aw,P7,hl]
   exact⟨(Vb.1 ho).1,rfl⟩
  rw [hr]at this;cases this
 |succ fuel ih=>
  intro listed s s' a w S Fs Q hsz hc hlen hf hrun hQ
  refine⟨fun hr=>hdone (jk hb hsz hr) hf hrun hQ,fun i hi=> ?_⟩
  obtain⟨o,ho,hl,he⟩:=OQ.1 hi;have hlt:i<ops.size:=(Vb.1 ho).1;obtain⟨pre,post,e1,e2,hpre⟩:=ji hsz hlt hl;rw [e1]at hrun hlen
  obtain⟨t,ht,hrun'⟩:=dF rfl pre (fun j hj=>by
   obtain⟨hji,hjl⟩:=hpre j hj;refine Zf hok hji hlt (fun hm=> ?_);have:=U4 hb hc i i o (IG _) ho he j hm
   rw [Pq (by omega) false true,hjl]at this;cases this) hrun
  have hst:JF E ops (Ia E.lends ops.toList o) s (TP E.lends ops.toList o)=some t:=by
   simp only [stI,ho,NJ]at ht
   split at ht
   ·exact ht
   ·cases ht
  refine cB hT hC hf hops ho hst (fun a' w' hp=> ?_);obtain⟨S',Fs',hf',hst'⟩:=hp.fr hf.small;refine ih _ (by simp [hsz]) ?_ (by rw [e2];simp at hlen ⊢;omega) hf' (by rw [e2];exact hrun') (fun a2 w2 hp2=>hQ a2 w2 (hp2.back hst'))
  intro k ok hk hkl e hm hbi;by_cases hki:k=i
  ·subst hki;rw [ho]at hk;simp only [al]at hk;subst hk;have hon:=hb k o ho e hm hbi;rw [Jy (by omega)]
   exact he e hm hbi
  ·rw [Jy hki]at hkl;have:=hc k ok hk hkl e hm hbi
   by_cases hei:e.on=i
   ·rw [hei,Rb (by omega)]
   ·rw [Jy hei];exact this
theorem Fr.drawn{T:Tys}{N:Nat}{gh:Nat→Value}{s:St}{a:Act}{w:World}{S:Nat→Prop}{Fs:Nat→Nat→Prop}(h:Fr T N gh s a w S Fs)(n:Nat):Fr T N gh s a {w with drawn:=n} S Fs:=
 ⟨h.rel.grow (fun _ _=>rfl) (IG _),h.defs,h.size,h.small⟩
theorem rH{P:Program}(hm:P.follows .mixedOrders=true)(hT:Bg P E.T)(hC:Jq P E):gG P E:=by
 intro s s' gh a w S Fs N id ops Q hf hk hok hd hQ;have hops: ∀(j:Nat) (o:Oper),ops[j]? =some o→Ph N o:=fun j o ho=>gF (JC.1 hk o (by simpa using Array.mem_of_getElem? ho))
 refine wp_region_any hm ?_
 have hrem:rem ops.size (Array.replicate ops.size false)=an ops.size:=by
  rw [rem,List.filter_eq_self];intro i hi;simp at hi;simp [MR,hi]
 refine mQ (s':=s') hT hC hops hok ops.size _ (by simp) ?_ (by rw [hrem];simp) (hf.drawn _) ?_ (fun a' w' hp=>hQ a' w' ?_)
 ·intro i o ho hl;have:i<ops.size:=(Vb.1 ho).1
  simp [MR,this]at hl
 ·rw [dE ops.toList 0 s rfl]at hd;rw [hrem,ba];simpa using hd
 ·obtain⟨S',Fs',h1,h2,h3,h4⟩:=hp
  exact⟨S',Fs',h1,⟨h2.os,h2.tape,h2.output,h2.size,h2.heap,h2.sS,h2.sS',h2.sF⟩,h3,h4⟩
end
end Dv
namespace Dv
open Go
def VG(gh:Nat→Value):AJ→Nat→Nat→Value→Prop:=fun L n m v=> ∃j,L=[G+j]∧n=0∧m=0∧v=gh j
def rJ(s:St)(w:World)(rv:Nat→Value)(L:AJ)(c:D)(v:Value):Prop:=
 c.isObj=true∧((L=[]∧(∃e,c= .own e [])∧ ∃A,v= .slice A 0 0)∨ ∃t p,L=t::p∧BM (s.v t) p=some c∧Dm w rv L=some v)
section
variable {T:Tys} {s s':St} {rv:Nat→Value} {w w':World} {S S':Nat→Prop} {Fs:Nat→Nat→Prop} {pm:Pm}
variable {V:AJ→Nat→Nat→Value→Prop} {Vp:AJ→Nat→Nat→Nat→Value→Prop}
mutual
theorem Xn: ∀(d:D) {v:Value} {F:Nat→Prop},W T S w V Vp d v F→(EA d).isSome=true→W T S w V0 IK d v F
 | .own e xs,_,_,h,ho=>by
  cases h with
  |own0 h=>exact .own0 h
  |own us Fi hb hz hn hc hm hx hF hFb hd hS hw=>
   refine .own us Fi hb hz hn hc hm hx hF hFb hd hS (fun i x hi=>Ps xs (by simpa [EA] using ho) i x hi (hw i x hi))
 | .box xs,_,_,h,ho=>by
  cases h with
  |box us Fi hb hz hx hF hFb hd hS hw=>
   exact .box us Fi hb hz hx hF hFb hd hS (fun i x hi=>Ps xs (by simpa [EA] using ho) i x hi (hw i x hi))
 | .agg xs,_,_,h,ho=>by
  cases h with
  |agg us Fi hz hx hF hd hw=>exact .agg us Fi hz hx hF hd (fun i x hi=>Ps xs (by simpa [EA] using ho) i x hi (hw i x hi))
 | .tup xs,_,_,h,ho=>by
  cases h with
  |tup us Fi hz hx hF hd hw=>exact .tup us Fi hz hx hF hd (fun i x hi=>Ps xs (by simpa [EA] using ho) i x hi (hw i x hi))
 | .vw _ _ _,_,_,_,ho=>by simp [EA]at ho
 | .pe _ _ _ _,_,_,_,ho=>by simp [EA]at ho
 | .vs _ _ _ _ _ _,_,_,_,ho=>by simp [EA]at ho
 | .undef,_,_,_,ho=>by simp [EA]at ho
 | .int k n,_,_,h,_=>by cases h with|int h=>exact .int h
 | .bool b,_,_,h,_=>by cases h with|bool h=>exact .bool h
 | .str x,_,_,h,_=>by cases h with|str h=>exact .str h
 | .konst v,_,_,h,_=>by cases h with|konst h=>exact .konst h
 | .sl e xs,_,_,h,_=>by cases h with|sl us h hn hc hm hx hw=>exact .sl us h hn hc hm hx hw
 | .clo f xs,_,_,h,_=>by cases h with|clo us h hz hx hw=>exact .clo us h hz hx hw
 | .ocl _ _ _,_,_,_,ho=>by simp [EA]at ho
 | .cptr xs,_,_,h,_=>by cases h with|cptr us h hx hw=>exact .cptr us h hx hw
theorem Ps: ∀(xs:List D),(DT xs).isSome=true→ ∀(i:Nat) (x:D),xs[i]? =some x→ ∀ {v:Value} {F:Nat→Prop},W T S w V Vp x v F→W T S w V0 IK x v F
 | [],_,i,x,hi,_,_,_=>by simp at hi
 |d::ds,ho,i,x,hi,_,_,h=>by
  simp only [DT,Option.isSome_bind,Option.any_eq_true,Option.isSome_map]at ho;obtain⟨d',hd,hds⟩:=ho
  cases i with
  |zero=>
   simp only [Oc,al]at hi;subst hi;exact Xn d h (by simp [hd])
  |succ i=>
   simp only [QY]at hi;exact Ps ds hds i x hi h
end
theorem A16{d:D}{v:Value}{F:Nat→Prop}(h:W T S' w V Vp d v F):Dj d=false→(∀k,F k→ ¬S k)→W T S w V Vp d v F:=by
 have hsl: ∀(xs:List D),Dk xs=false→ ∀(i:Nat) (x:D),xs[i]? =some x→Dj x=false:=by
  intro xs
  induction xs with
  |nil=>intro _ i x hi;simp at hi
  |cons d ds ih=>
   intro hx i x hi;simp only [Dk,Bool.or_eq_false_iff]at hx
   cases i with
   |zero=>simp at hi;subst hi;exact hx.1
   |succ i=>simp at hi;exact ih hx.2 i x hi
 induction h with
 |undef h=>exact fun _ _=> .undef h
 |int h=>exact fun _ _=> .int h
 |bool h=>exact fun _ _=> .bool h
 |str h=>exact fun _ _=> .str h
 |konst h=>exact fun _ _=> .konst h
 |sl us h hn hc hm hx hw ih=>
  intro hs _;simp only [Dj,Bool.not_eq_false',List.isEmpty_iff]at hs;subst hs;exact .sl us h hn hc hm (by simp) (by simp)
 |own0 h=>exact fun _ _=> .own0 h
 |own us Fi hb hz hn hc hm hx hF hFb hd hSb hw ih=>
  intro hs hk;exact .own us Fi hb hz hn hc hm hx hF hFb hd (hk _ ((hF _).2 (.inl rfl))) (fun i x hi=>ih i x hi (hsl _ (by simpa [Dj] using hs) i x hi) (fun k hf=>hk k ((hF k).2 (.inr ⟨i,(EO.1 hi).1,hf⟩))))
 |box us Fi hb hz hx hF hFb hd hSb hw ih=>
  intro hs hk;exact .box us Fi hb hz hx hF hFb hd (hk _ ((hF _).2 (.inl rfl))) (fun i x hi=>ih i x hi (hsl _ (by simpa [Dj] using hs) i x hi) (fun k hf=>hk k ((hF k).2 (.inr ⟨i,(EO.1 hi).1,hf⟩))))
 |cptr us h hx hw ih=>intro hs;simp [Dj]at hs
 |agg us Fi hz hx hF hd hw ih=>
  intro hs hk;exact .agg us Fi hz hx hF hd (fun i x hi=>ih i x hi (hsl _ (by simpa [Dj] using hs) i x hi) (fun k hf=>hk k ((hF k).2 ⟨i,(EO.1 hi).1,hf⟩)))
 |tup us Fi hz hx hF hd hw ih=>
  intro hs hk;exact .tup us Fi hz hx hF hd (fun i x hi=>ih i x hi (hsl _ (by simpa [Dj] using hs) i x hi) (fun k hf=>hk k ((hF k).2 ⟨i,(EO.1 hi).1,hf⟩)))
 |clo us h hz hx hw ih=>
  intro hs _;simp only [Dj,Bool.not_eq_false',List.isEmpty_iff]at hs;subst hs;exact .clo us h hz (by simp) (by simp)
 |ocl=>intro hs;simp [Dj]at hs
 |mp=>intro hs;simp [Dj]at hs
 |vw=>intro hs;simp [Dj]at hs
 |pe=>intro hs;simp [Dj]at hs
 |vs=>intro hs;simp [Dj]at hs
theorem A3z(rv:Nat→Value)(t:Nat):Dm w rv [t]=some (rv t):=by simp [Dm,Ak]
theorem Ot{lend:Bool}{j:Nat}{L0:AJ}{d a:D}{v:Value}{F:Nat→Prop}{l:List (AJ×D)}(hW:WR T s rv w S d v F)
  (hsrc:d.isObj=true→(L0=[]∧(∃e,d= .own e [])∧ ∃A,v= .slice A 0 0)∨ ∃t p,L0=t::p∧BM (s.v t) p=some d∧Dm w rv L0=some v)
  (ha:Ef lend pm s j L0 d=some (a,l)):
  (l=[]∧ ∀S' V Vp,(∀k,S k→S' k)→W T S' w V Vp a v (fun _=>False))∨
   ∃L c,l=[(L,c)]∧rJ s w rv L c v∧(lend=true→a= .vw [G+j] 0 0)∧(lend=false→EA c=some a):=by
 have plain:d.hasObj=false→EA d=some d→a=d→l=[]→(l=[]∧ ∀S' V Vp,(∀k,S k→S' k)→W T S' w V Vp a v (fun _=>False)):=by
  intro hno hf ha hl
  refine⟨hl,fun S' V Vp hS=> ?_⟩
  subst ha
  exact(hW.freeze a hf (fun k hk=>(Cx hW hno k hk).elim) hS).up
 unfold Ef at ha
 split at ha
 ·rename_i L n m
  cases hl:s.look pm L n m with
  |none=>simp [hl]at ha
  |some c=>
   simp only [hl]at ha;obtain⟨t,p,rfl,hg,hobj,hval⟩:=Cw hl
   have hfo:Dm w rv (t::p)=some v:=by
    cases hW with
    |vw h hv=>exact hv.2 hval
   have hS:rJ s w rv (t::p) c v:=⟨hobj,.inr ⟨t,p,rfl,hg,hfo⟩⟩
   right
   cases lend with
   |true=>
    simp only [if_true,al,Prod.mk.injEq]at ha;obtain⟨rfl,rfl⟩:=ha
    exact⟨_,_,rfl,hS,(fun _=>rfl),(fun h=>by cases h)⟩
   |false=>
    simp only [JQ,if_false,Cj,Prod.mk.injEq]at ha;obtain⟨c',hc',rfl,rfl⟩:=ha
    exact⟨_,_,rfl,hS,(fun h=>by cases h),fun _=>hc'⟩
 ·rename_i e xs
  have hS:rJ s w rv L0 (.own e xs) v:=⟨rfl,hsrc rfl⟩
  right
  cases lend with
  |true=>
   simp only [if_true,al,Prod.mk.injEq]at ha;obtain⟨rfl,rfl⟩:=ha
   exact⟨_,_,rfl,hS,(fun _=>rfl),(fun h=>by cases h)⟩
  |false=>
   simp only [JQ,if_false,Cj,Prod.mk.injEq]at ha;obtain⟨c',hc',rfl,rfl⟩:=ha
   exact⟨_,_,rfl,hS,(fun h=>by cases h),fun _=>hc'⟩
 ·rename_i xs
  have hS:rJ s w rv L0 (.box xs) v:=⟨rfl,hsrc rfl⟩
  right
  cases lend with
  |true=>
   simp only [if_true,al,Prod.mk.injEq]at ha;obtain⟨rfl,rfl⟩:=ha
   exact⟨_,_,rfl,hS,(fun _=>rfl),(fun h=>by cases h)⟩
  |false=>
   simp only [JQ,if_false,Cj,Prod.mk.injEq]at ha;obtain⟨c',hc',rfl,rfl⟩:=ha
   exact⟨_,_,rfl,hS,(fun h=>by cases h),fun _=>hc'⟩
 ·cases ha
 ·cases ha
 ·cases ha
 ·cases ha
 ·cases ha
 ·cases ha
 ·cases ha
 ·rename_i h1 h2 h3 h4 h5 h6 h7 h8 h9 h10
  simp only [al,Prod.mk.injEq]at ha
  left
  refine plain ?_ ?_ ha.1.symm ha.2.symm
  ·cases d<;>first|rfl|(exact(h2 _ _ rfl).elim)|(exact(h3 _ rfl).elim)|(exact(h5 _ rfl).elim)|(exact(h6 _ rfl).elim)|(exact(h10 _ _ _ rfl).elim)
  ·cases d<;>first|rfl|(exact(h1 _ _ _ rfl).elim)|(exact(h2 _ _ rfl).elim)|(exact(h3 _ rfl).elim)|(exact(h4 rfl).elim)|(exact(h5 _ rfl).elim)|(exact(h6 _ rfl).elim)|(exact(h7 _ _ _ _ rfl).elim)|(exact(h8 _ _ _ _ _ _ rfl).elim)|(exact(h9 _ _ _ rfl).elim)|(exact(h10 _ _ _ rfl).elim)
def JS(s:St)(w:World)(rv:Nat→Value)(ls:List (AJ×D))(lv:List Value):Prop:=
 lv.length=ls.length∧ ∀(i:Nat) (q:AJ×D) (v:Value),ls[i]? =some q→lv[i]? =some v→rJ s w rv q.1 q.2 v
theorem JS.nil:JS s w rv [] []:=⟨rfl,by simp⟩
theorem JS.append{l1 l2:List (AJ×D)}{v1 v2:List Value}(h1:JS s w rv l1 v1)(h2:JS s w rv l2 v2):JS s w rv (l1++l2) (v1++v2):=by
 refine⟨by simp [h1.1,h2.1],fun i q v hq hv=> ?_⟩
 rcases Nat.lt_or_ge i l1.length with hi|hi
 ·rw [NV hi]at hq;rw [NV (by rw [h1.1];exact hi)]at hv
  exact h1.2 i q v hq hv
 ·rw [NM hi]at hq;rw [NM (by rw [h1.1];exact hi),h1.1]at hv
  exact h2.2 _ q v hq hv
def FY(T:Tys)(s:St)(w:World)(rv:Nat→Value)(S:Nat→Prop)(lend:Bool)(j:Nat)(ls:List (AJ×D))(lv:List Value)(K:(gh:Nat→Value)→(S':Nat→Prop)→Prop):Prop:=
 ∀(gh:Nat→Value) (S':Nat→Prop),(∀k,S k→S' k)→(lend=true→ ∀(i:Nat) (v:Value),lv[i]? =some v→gh (j+i)=v)→
  (lend=false→ ∀(i:Nat) (q:AJ×D) (v:Value) (c':D),ls[i]? =some q→lv[i]? =some v→rJ s w rv q.1 q.2 v→EA q.2=some c'→W T S' w V0 IK c' v (fun _=>False))→K gh S'
theorem FY.left{lend:Bool}{j:Nat}{l1 l2:List (AJ×D)}{v1 v2:List Value}{K:(gh:Nat→Value)→(S':Nat→Prop)→Prop}(h1:JS s w rv l1 v1)(h:FY T s w rv S lend j l1 v1 K):FY T s w rv S lend j (l1++l2) (v1++v2) K:=by
 intro gh S' hS hg ha;refine h gh S' hS (fun hl i v hv=> ?_) (fun hl i q v c' hq hv hs hf=> ?_)
 ·exact hg hl i v (by rw [NV (EO.1 hv).1];exact hv)
 ·exact ha hl i q v c' (by rw [NV (EO.1 hq).1];exact hq) (by rw [NV (EO.1 hv).1];exact hv) hs hf
theorem FY.right{lend:Bool}{j:Nat}{l1 l2:List (AJ×D)}{v1 v2:List Value}{K:(gh:Nat→Value)→(S':Nat→Prop)→Prop}(h1:JS s w rv l1 v1)(h:FY T s w rv S lend (j+l1.length) l2 v2 K):FY T s w rv S lend j (l1++l2) (v1++v2) K:=by
 intro gh S' hS hg ha;refine h gh S' hS (fun hl i v hv=> ?_) (fun hl i q v c' hq hv hs hf=> ?_)
 ·rw [Nat.add_assoc];exact hg hl (l1.length+i) v (by rw [←h1.1,NM (by omega)];simpa using hv)
 ·exact ha hl (l1.length+i) q v c' (by rw [NM (by omega)];simpa using hq) (by rw [←h1.1,NM (by omega)];simpa using hv) hs hf
theorem Ll{lend:Bool}{j:Nat}{L0:AJ}{d a:D}{v:Value}{F:Nat→Prop}{l:List (AJ×D)}(hW:WR T s rv w S d v F)
  (hsrc:d.isObj=true→(L0=[]∧(∃e,d= .own e [])∧ ∃A,v= .slice A 0 0)∨ ∃t p,L0=t::p∧BM (s.v t) p=some d∧Dm w rv L0=some v)
  (ha:Ef lend pm s j L0 d=some (a,l)): ∃lv,JS s w rv l lv∧FY T s w rv S lend j l lv (fun gh S'=>W T S' w (VG gh) IK a v (fun _=>False)):=by
 rcases Ot hW hsrc ha with⟨rfl,h⟩|⟨L,c,rfl,hS,h1,h2⟩
 ·exact⟨[],JS.nil,fun gh S' hS _ _=>h S' _ _ hS⟩
 ·refine⟨[v],⟨rfl,fun i q u hq hu=> ?_⟩,fun gh S' hS' hg hA=> ?_⟩
  ·cases i with
   |zero=>simp at hq hu;subst hq;subst hu;exact hS
   |succ i=>simp at hq
  ·cases lend with
   |true=>
    rw [h1 rfl];exact .vw (fun _ h=>h) ⟨j,rfl,rfl,rfl,(hg rfl 0 v rfl).symm⟩
   |false=>exact(hA rfl 0 (L,c) v a rfl rfl hS (h2 rfl)).up
theorem U5{lend:Bool}{t0:Nat}{p0:AJ}(L0:AJ)(hL0:L0=t0::p0): ∀(ds:List D) (j i:Nat) {as:List D} {ls:List (AJ×D)} (us:Nat→Value) (Fi:Nat→Nat→Prop),
  (∀k x,ds[k]? =some x→WR T s rv w S x (us k) (Fi k)∧BM (s.v t0) (p0++[i+k])=some x∧Dm w rv (t0::(p0++[i+k]))=some (us k))→
  ED lend pm s L0 j i ds=some (as,ls)→ ∃lv,JS s w rv ls lv∧as.length=ds.length∧
   FY T s w rv S lend j ls lv (fun gh S'=> ∀k x,as[k]? =some x→W T S' w (VG gh) IK x (us k) (fun _=>False)):=by
 intro ds
 induction ds with
 |nil=>
  intro j i as ls us Fi _ ha;simp only [ED,al,Prod.mk.injEq]at ha;obtain⟨rfl,rfl⟩:=ha
  exact⟨[],JS.nil,rfl,fun gh S' _ _ _ k x hk=>by simp at hk⟩
 |cons d ds ih=>
  intro j i as ls us Fi hd ha;simp only [ED]at ha
  split at ha
  ·cases ha
  ·rename_i a l hc
   split at ha
   ·cases ha
   ·rename_i as' ls' hcs
    simp only [al,Prod.mk.injEq]at ha;obtain⟨rfl,rfl⟩:=ha;obtain⟨h1,h2,h3⟩:=hd 0 d rfl;obtain⟨lv1,o1,g1⟩:=Ll h1 (fun _=> .inr ⟨t0,p0++[i],by simp [hL0],h2,by rw [hL0];exact h3⟩) hc
    obtain⟨lv2,o2,hlen,g2⟩:=ih (j+l.length) (i+1) (fun k=>us (k+1)) (fun k=>Fi (k+1)) (fun k x hk=>by
     have:=hd (k+1) x (by simpa using hk)
     rw [show i+1+k=i+(k+1) by omega];exact this) hcs
    refine⟨lv1++lv2,o1.append o2,by simp [hlen],fun gh S' hS hg hA k x hk=> ?_⟩
    cases k with
    |zero=>
     simp only [Oc,al]at hk;subst hk;exact FY.left o1 g1 gh S' hS hg hA
    |succ k=>
     simp only [QY]at hk;exact FY.right o1 g2 gh S' hS hg hA k x hk
theorem Xo{lend:Bool}{j:Nat}{L0:AJ}{d a:D}{v:Value}{F:Nat→Prop}{l:List (AJ×D)}(hW:WR T s rv w S d v F)
  (hsrc:(∃t,L0=[t]∧s.v t=d∧rv t=v)∨(L0=[]∧(∀xs,d≠ .agg xs)∧(d.isObj=true→(∃e,d= .own e [])∧ ∃A,v= .slice A 0 0)))
  (ha:DV lend pm s j L0 d=some (a,l)): ∃lv,JS s w rv l lv∧FY T s w rv S lend j l lv (fun gh S'=>W T S' w (VG gh) IK a v (fun _=>False)):=by
 unfold DV at ha
 split at ha
 ·rename_i xs
  simp only [Cj,Prod.mk.injEq]at ha;obtain⟨⟨as,ls⟩,hc,rfl,rfl⟩:=ha;rcases hsrc with⟨t,rfl,hst,hrv⟩|⟨_,hn,_⟩
  ·cases hW with
   |agg us Fi hz hx hF hd hw=>
    obtain⟨lv,o,hlen,g⟩:=U5 (p0:=[]) [t] rfl xs j 0 us Fi (fun k x hk=>⟨hw k x hk,by simp [BM,hst,hk],by simp [Dm,hrv,Ak,hx k x hk]⟩) hc
    refine⟨lv,o,fun gh S' hS hg hA=> ?_⟩
    have:=g gh S' hS hg hA
    refine .agg us (fun _ _=>False) (by rw [hz,hlen]) (fun i x hi=> ?_) (fun k=>⟨fun h=>h.elim,fun⟨_,_,h⟩=>h⟩) (fun _ _ _ _ _ _ h=>h.elim) this
    have hi':i<xs.length:=by rw [←hlen];exact(EO.1 hi).1
    exact hx i _ (GM hi')
  ·exact(hn xs rfl).elim
 ·refine Ll hW (fun ho=> ?_) ha;rcases hsrc with⟨t,rfl,hst,hrv⟩|⟨h1,_,h2⟩
  ·exact .inr ⟨t,[],rfl,by simp [BM,hst],by simp [Dm,Ak,hrv]⟩
  ·exact .inl ⟨h1,h2 ho⟩
theorem Zg{N:Nat}{gh0:Nat→Value}{a0:Act}{lend:Bool}(h:Rel T s (Ar a0 gh0) w S Fs){j:Nat}{e:ab}{L:AJ}{n m lo len:Nat}{a:D}{v:Value}{F:Nat→Prop}{l:List (AJ×D)}
  (hW:WR T s (Ar a0 gh0) w S (.vs e L n m lo len) v F)(hl:lend=false)(ha:Wh T pm s e L n m lo len=some (a,l)):
  ∃lv,JS s w (Ar a0 gh0) l lv∧FY T s w (Ar a0 gh0) S lend j l lv (fun gh S'=>W T S' w (VG gh) IK a v (fun _=>False)):=by
 subst hl;unfold Wh at ha
 split at ha
 ·rename_i e' xs hlk
  split at ha
  ·rename_i hc
   obtain⟨rfl,hkn,hle⟩:=hc;simp only [Cj,Prod.mk.injEq]at ha;obtain⟨ys,hys,rfl,rfl⟩:=ha;obtain⟨t,p,rfl,hg,hobj,hval⟩:=Cw hlk;obtain⟨v0,F0,hfo,hW0,_⟩:=h.focus hg;have hS:rJ s w (Ar a0 gh0) (t::p) (.own e' xs) v0:=⟨rfl,.inr ⟨t,p,rfl,hg,hfo⟩⟩;have hfz:EA (.own e' xs)=some (.sl e' ys):=by simp [EA,hys]
   obtain⟨hyl,_⟩:=Ku hys
   refine⟨[v0],⟨rfl,fun i q u hq hu=> ?_⟩,fun gh S' hS' _ hA=> ?_⟩
   ·cases i with
    |zero=>simp at hq hu;subst hq;subst hu;exact hS
    |succ i=>simp at hq
   ·have hWf:=hA rfl 0 (t::p,.own e' xs) v0 (.sl e' ys) rfl rfl hS hfz
    cases hW with
    |vs hE hlq hmq hv=>
     rename_i A q
     cases hWf with
     |sl us hE' hn' hc' hm' hx' hw'=>
      rename_i A0 n0 c0
      have hget: ∀(i:Nat) (x:D),((ys.drop (lo*T.size e')).take (len*T.size e'))[i]? =some x→ys[lo*T.size e'+i]? =some x∧0<len:=fun i x hi=>by
       have hlt:=(EO.1 hi).1;simp only [Lt,List.length_drop]at hlt;rw [QX (by omega),NN]at hi
       refine⟨hi, ?_⟩
       rcases Nat.eq_zero_or_pos len with h0|h0
       ·subst h0;simp only [Nat.zero_mul]at hlt;omega
       ·exact h0
      refine .sl (fun i=>us (lo*T.size e'+i)) (fun _ h=>h) ?_ hlq hmq (fun i x hi=> ?_) (fun i x hi=> ?_)
      ·simp only [List.length_drop,Lt];rw [hyl];rw [Nat.add_mul]at hle;omega
      ·obtain⟨hi,h0⟩:=hget i x hi;obtain⟨ad,hA1,_,hvp⟩:=hv h0;obtain⟨hv',ad',hfo',had',hptr⟩:=hvp hval;rw [hfo]at hfo'
       injection hfo' with hfo'
       subst hfo';obtain⟨ad2,h3,h4,h5⟩:=hx' _ x hi;simp only [Ma]at had';rw [had']at h3
       injection h3 with h3
       subst h3
       injection hptr with hptr
       injection hptr with hptr
       subst hptr
       exact⟨_,hA1,by rw [Kh];exact h4,by rw [JG];exact h5⟩
      ·obtain⟨hi,_⟩:=hget i x hi;exact hw' _ x hi
  ·cases ha
 ·cases ha
theorem Xp: ∀(caps:List D) (j:Nat) {cs:List D} {lc:List (AJ×D)} (us:Nat→Value),
  (∀(k:Nat) (x:D),caps[k]? =some x→WR T s rv w S x (us k) (fun _=>False))→Je pm s j caps=some (cs,lc)→
  ∃lv:List Value,JS s w rv lc lv∧cs.length=caps.length∧(∀k:Nat,cs[k]? =some D.undef→caps[k]? =some D.undef)∧
   FY T s w rv S true j lc lv (fun gh S'=> ∀(k:Nat) (x:D),cs[k]? =some x→W T S' w (VG gh) IK x (us k) (fun _=>False)):=by
 intro caps
 induction caps with
 |nil=>
  intro j cs lc us _ ha;simp only [Je,al,Prod.mk.injEq]at ha;obtain⟨rfl,rfl⟩:=ha
  exact⟨[],JS.nil,rfl,by simp,fun gh S' _ _ _ k x hk=>by simp at hk⟩
 |cons d caps ih=>
  intro j cs lc us hd ha;have h0:=hd 0 d rfl;have hd': ∀k x,caps[k]? =some x→WR T s rv w S x (us (k+1)) (fun _=>False):=fun k x hk=>hd (k+1) x (by simpa using hk)
  have join: ∀(a:D) (l1:List (AJ×D)) (cs':List D) (l2:List (AJ×D)),Ef true pm s j [] d=some (a,l1)→d.isObj=false→(a=D.undef→d=D.undef)→
    Je pm s (j+l1.length) caps=some (cs',l2)→cs=a::cs'→lc=l1++l2→
    ∃lv:List Value,JS s w rv lc lv∧cs.length=(d::caps).length∧(∀k:Nat,cs[k]? =some D.undef→(d::caps)[k]? =some D.undef)∧
     FY T s w rv S true j lc lv (fun gh S'=> ∀(k:Nat) (x:D),cs[k]? =some x→W T S' w (VG gh) IK x (us k) (fun _=>False)):=by
   intro a l1 cs' l2 hc ho hu hr e1 e2;subst e1 e2;obtain⟨lv1,o1,g1⟩:=Ll h0 (fun h=>by rw [ho]at h;cases h) hc
   obtain⟨lv2,o2,hlen,hun,g2⟩:=ih (j+l1.length) (fun k=>us (k+1)) hd' hr
   refine⟨lv1++lv2,o1.append o2,by simp [hlen],fun k hk=> ?_,fun gh S' hS hg hA k x hk=> ?_⟩
   ·cases k with
    |zero=>simp only [Oc,al]at hk ⊢;exact hu hk
    |succ k=>simp only [QY]at hk ⊢;exact hun k hk
   ·cases k with
    |zero=>
     simp only [Oc,al]at hk;subst hk;exact FY.left o1 g1 gh S' hS hg hA
    |succ k=>
     simp only [QY]at hk;exact FY.right o1 g2 gh S' hS hg hA k x hk
  unfold Je at ha
  split at ha
  ·rename_i L n m
   split at ha
   ·rename_i c hl
    obtain⟨⟨cs',l2⟩,hr,he⟩:=Cj.1 ha;simp only [Prod.mk.injEq]at he;exact join (.vw [G+j] 0 0) [(L,c)] cs' l2 (by simp [Ef,hl]) rfl (fun h=>by cases h) hr he.1.symm he.2.symm
   ·cases ha
  ·rename_i ys
   obtain⟨⟨cs',l2⟩,hr,he⟩:=Cj.1 ha;simp only [Prod.mk.injEq]at he;exact join (.cptr ys) [] cs' l2 (by simp [Ef]) rfl (fun h=>by cases h) hr he.1.symm he.2.symm
  ·obtain⟨⟨cs',l2⟩,hr,he⟩:=Cj.1 ha;simp only [Prod.mk.injEq]at he;obtain⟨rfl,rfl⟩:=he;obtain⟨lv2,o2,hlen,hun,g2⟩:=ih j (fun k=>us (k+1)) hd' hr
   refine⟨lv2,o2,by simp [hlen],fun k hk=> ?_,fun gh S' hS hg hA k x hk=> ?_⟩
   ·cases k with
    |zero=>rfl
    |succ k=>simp only [QY]at hk ⊢;exact hun k hk
   ·cases k with
    |zero=>
     simp only [Oc,al]at hk;subst hk;exact .undef (fun _ h=>h)
    |succ k=>
     simp only [QY]at hk;exact g2 gh S' hS hg hA k x hk
  ·cases ha
theorem dH: ∀(caps:List D) (j:Nat) {cs:List D} {lc:List (AJ×D)} (us:Nat→Value),
  (∀(k:Nat) (x:D),caps[k]? =some x→WR T s rv w S x (us k) (fun _=>False))→Kq pm s caps=some (cs,lc)→
  ∃lv:List Value,JS s w rv lc lv∧cs.length=caps.length∧
   FY T s w rv S false j lc lv (fun _ S'=> ∀(k:Nat) (x:D),cs[k]? =some x→W T S' w V0 IK x (us k) (fun _=>False)):=by
 intro caps
 induction caps with
 |nil=>
  intro j cs lc us _ ha;simp only [Kq,al,Prod.mk.injEq]at ha;obtain⟨rfl,rfl⟩:=ha
  exact⟨[],JS.nil,rfl,fun gh S' _ _ _ k x hk=>by simp at hk⟩
 |cons d caps ih=>
  intro j cs lc us hd ha;have h0:=hd 0 d rfl;have hd': ∀k x,caps[k]? =some x→WR T s rv w S x (us (k+1)) (fun _=>False):=fun k x hk=>hd (k+1) x (by simpa using hk)
  have join: ∀(a:D) (l1:List (AJ×D)) (cs':List D) (l2:List (AJ×D)),Ef false pm s j [] d=some (a,l1)→d.isObj=false→
    Kq pm s caps=some (cs',l2)→cs=a::cs'→lc=l1++l2→
    ∃lv:List Value,JS s w rv lc lv∧cs.length=(d::caps).length∧
     FY T s w rv S false j lc lv (fun _ S'=> ∀(k:Nat) (x:D),cs[k]? =some x→W T S' w V0 IK x (us k) (fun _=>False)):=by
   intro a l1 cs' l2 hc ho hr e1 e2;subst e1 e2
   have first: ∃lv1:List Value,JS s w rv l1 lv1∧FY T s w rv S false j l1 lv1 (fun _ S'=>W T S' w V0 IK a (us 0) (fun _=>False)):=by
    rcases Ot h0 (fun h=>by rw [ho]at h;cases h) hc with⟨rfl,h⟩|⟨L,c,rfl,hS,h1,h2⟩
    ·exact⟨[],JS.nil,fun gh S' hS _ _=>h S' _ _ hS⟩
    ·exact⟨[us 0],⟨rfl,fun i q u hq hu=>by
      cases i with
      |zero=>simp at hq hu;subst hq;subst hu;exact hS
      |succ i=>simp at hq⟩,fun gh S' _ _ hA=>hA rfl 0 (L,c) (us 0) a rfl rfl hS (h2 rfl)⟩
   obtain⟨lv1,o1,g1⟩:=first
   obtain⟨lv2,o2,hlen,g2⟩:=ih (j+l1.length) (fun k=>us (k+1)) hd' hr
   refine⟨lv1++lv2,o1.append o2,by simp [hlen],fun gh S' hS hg hA k x hk=> ?_⟩
   cases k with
   |zero=>
    simp only [Oc,al]at hk;subst hk;exact FY.left o1 g1 gh S' hS hg hA
   |succ k=>
    simp only [QY]at hk;exact FY.right o1 g2 gh S' hS hg hA k x hk
  unfold Kq at ha
  split at ha
  ·rename_i L n m
   split at ha
   ·rename_i c hl
    obtain⟨c',hf,ha⟩:=Hl.1 ha;obtain⟨⟨cs',l2⟩,hr,he⟩:=Cj.1 ha;simp only [Prod.mk.injEq]at he;exact join c' [(L,c)] cs' l2 (by simp [Ef,hl,hf]) rfl hr he.1.symm he.2.symm
   ·cases ha
  ·rename_i ys
   obtain⟨⟨cs',l2⟩,hr,he⟩:=Cj.1 ha;simp only [Prod.mk.injEq]at he;exact join (.cptr ys) [] cs' l2 (by simp [Ef]) rfl hr he.1.symm he.2.symm
  ·cases ha
theorem dI{N:Nat}{gh0:Nat→Value}{a0:Act}{lend:Bool}(h:Rel T s (Ar a0 gh0) w S Fs){j:Nat}{L0:AJ}{d a:D}{v:Value}{F:Nat→Prop}{l:List (AJ×D)}(hW:WR T s (Ar a0 gh0) w S d v F)
  (hsrc:(∃t,L0=[t]∧s.v t=d∧Ar a0 gh0 t=v)∨(L0=[]∧(∀xs,d≠ .agg xs)∧(d.isObj=true→(∃e,d= .own e [])∧ ∃A,v= .slice A 0 0)))
  (ha:KV T lend pm s j L0 d=some (a,l)): ∃lv,JS s w (Ar a0 gh0) l lv∧FY T s w (Ar a0 gh0) S lend j l lv (fun gh S'=>W T S' w (VG gh) IK a v (fun _=>False)):=by
 unfold KV at ha
 split at ha
 ·rename_i p f caps
  split at ha
  ·cases ha
  ·rename_i hlp
   simp only [NW,not_or,Bool.not_eq_true]at hlp;obtain⟨rfl,rfl⟩:=hlp;obtain⟨⟨cs,lc⟩,hc,he⟩:=Cj.1 ha;simp only [Prod.mk.injEq]at he;obtain⟨rfl,rfl⟩:=he
   cases hW with
   |ocl us hE hz hx hw hs hv=>
    rcases hv with⟨_,rfl⟩|⟨hp,_⟩
    ·obtain⟨lv,ho,hlen,hg⟩:=dH caps j us hw hc
     refine⟨lv,ho,fun gh S' hS hgh hA=> ?_⟩
     have hW':=hg gh S' hS hgh hA;refine .clo us (fun _ h=>h) (by rw [hz,hlen]) (fun i x hi=> ?_) hW'
     have hi':i<caps.length:=by rw [←hlen];exact(EO.1 hi).1
     exact hx i _ (GM hi')
    ·cases hp
 ·cases lend with
  |true=>cases ha
  |false=>exact Zg (N:=N) h hW rfl ha
 ·exact Xo hW hsrc ha
theorem LP{E:Env}{lend:Bool}{N:Nat}{gh0:Nat→Value}{a:Act}(h:Rel E.T s (Ar a gh0) w S Fs)(hG:N≤G): ∀(xs:List (ac×ab)) (j:Nat) {as:List D} {ls:List (AJ×D)},
  (∀q∈xs,BC N q.1)→De E lend pm s j xs=some (as,ls)→ ∃lv,JS s w (Ar a gh0) ls lv∧as.length=xs.length∧
   FY E.T s w (Ar a gh0) S lend j ls lv (fun gh S'=> ∀(k:Nat) (x:D),as[k]? =some x→ ∃q:ac×ab,xs[k]? =some q∧W E.T S' w (VG gh) IK x (a.eval q.1) (fun _=>False)):=by
 intro xs
 induction xs with
 |nil=>
  intro j as ls _ ha;simp only [De,al,Prod.mk.injEq]at ha;obtain⟨rfl,rfl⟩:=ha
  exact⟨[],JS.nil,rfl,fun gh S' _ _ _ k x hk=>by simp at hk⟩
 |cons q xs ih=>
  obtain⟨x,t⟩:=q;intro j as ls hok ha;simp only [De]at ha
  split at ha
  ·cases ha
  ·rename_i d he
   split at ha
   ·cases ha
   ·rename_i b l hc
    split at ha
    ·cases ha
    ·rename_i as' ls' hcs
     simp only [al,Prod.mk.injEq]at ha;obtain⟨rfl,rfl⟩:=ha;have hx:=hok _ (LF);have hW:=Ew h hG hx he
     obtain⟨lv1,o1,g1⟩:=dI (N:=N) h hW (by
      cases x with
      |tmp u=>
       simp only [ev,al]at he;exact .inl ⟨u,rfl,he,(Dn hG hx).symm⟩
      |const v=>
       right
       refine⟨rfl,fun xs hxs=> ?_,fun ho=> ?_⟩
       ·subst hxs;simp only [ev,TG]at he
        split at he<;>try (cases he;done)
        split at he<;>cases he
       ·simp only [ev,TG]at he
        split at he<;>try (simp only [al]at he;subst he;simp [D.isObj]at ho;done)
        ·split at he
         ·simp only [al]at he;subst he
          exact⟨⟨_,rfl⟩,none,rfl⟩
         ·simp only [al]at he
          subst he;simp [D.isObj]at ho
         ·cases he
        ·cases he
      |func f=>
       simp only [ev,al]at he;subst he;exact .inr ⟨rfl,(fun xs hxs=>by cases hxs),(fun ho=>by simp [D.isObj]at ho)⟩
      |global g=>simp [ev]at he) hc
     obtain⟨lv2,o2,hlen,g2⟩:=ih (j+l.length) (fun q hq=>hok q (Jb _ hq)) hcs
     refine⟨lv1++lv2,o1.append o2,by simp [hlen],fun gh S' hS hg hA k y hk=> ?_⟩
     cases k with
     |zero=>
      simp only [Oc,al]at hk;subst hk
      exact⟨(x,t),rfl,FY.left o1 g1 gh S' hS hg hA⟩
     |succ k=>
      simp only [QY]at hk;obtain⟨q,hq,hWq⟩:=FY.right o1 g2 gh S' hS hg hA k y hk
      exact⟨q,by simpa using hq,hWq⟩
end
end Dv
namespace Dv
open Go
def Pt(T:Tys)(gh:Nat→Value)(r:D)(outs:List D)(w:World)(S:Nat→Prop)(FL:Nat→Nat→Prop)(v:Value)(w':World):Prop:=
 ∃(S' F:Nat→Prop) (FL':Nat→Nat→Prop),W T S' w' V0 IK r v F∧(∀(j:Nat) (d:D),outs[j]? =some d→W T S' w' V0 IK d (gh j) (FL' j))∧
  (∀i j k,i≠j→FL' i k→ ¬FL' j k)∧(∀j k,F k→ ¬FL' j k)∧Step w S FL w' S' FL'∧(∀k,F k→(∃j,FL j k)∨w.heap.size≤k)∧(∀k,S' k→k<w'.heap.size)
def Good(P:Program)(T:Tys)(f:am)(args lent:List D)(r:D)(outs:List D):Prop:=
 (∃fn,P.funcs[f]? =some fn∧fn.body.isSome=true∧(fn.name== "runtime.NumGoroutine")=false)∧
 ∀(vs:Array Value) (gh:Nat→Value) (w:World) (S:Nat→Prop) (FL:Nat→Nat→Prop),vs.size=args.length→
  (∀(i:Nat) (d:D),args[i]? =some d→ ∃v,vs[i]? =some v∧W T S w (VG gh) IK d v (fun _=>False))→
  (∀(j:Nat) (d:D),lent[j]? =some d→W T S w V0 IK d (gh j) (FL j))→(∀j,lent.length≤j→Em (FL j))→(∀i j k,i≠j→FL i k→ ¬FL j k)→(∀k,S k→k<w.heap.size)→
  Calls P f vs w fun| .returned v,w'=>Pt T gh r outs w S FL v w'|_,_=>False
def Pv(P:Program)(E:Env):Prop:= ∀(f:am) (args lent:List D) (r:D) (outs:List D),E.call f args lent=some (r,outs)→Good P E.T f args lent r outs
theorem Pw{P:Program}{f:am}{fn:Func}{args:Array Value}(hf:P.funcs[f]? =some fn)(hb:fn.body.isSome=true)(hn:(fn.name== "runtime.NumGoroutine")=false)(w:World):
  (callFunc f args).run P w= .ok (.enter f args) w:=by
 have hb':fn.body≠none:=by cases h:fn.body<;>simp_all
 have hn':fn.name≠ "runtime.NumGoroutine" :=by simpa using hn
 simp [callFunc,hf,hb',hn']
def gI(L M:AJ):Prop:= ¬L<+:M∧ ¬M<+:L
theorem gI.symm{L M:AJ}(h:gI L M):gI M L:=⟨h.2,h.1⟩
theorem Nw{L:AJ}{Ls:List AJ}(h:Ei (L::Ls)=true):(L=[]∨ ∀M∈Ls,M=[]∨gI L M)∧Ei Ls=true:=by
 simp only [Ei,FV,NW,List.isEmpty_iff,JC,Lh,←Bool.not_eq_true,List.isPrefixOf_iff_prefix]at h
 exact⟨h.1,h.2⟩
theorem Vs: ∀(p:AJ) (d x:D) (q:AJ),gI p q→BM (HZ d p x) q=BM d q:=by
 intro p
 induction p with
 |nil=>intro d x q h;exact(h.1 List.nil_prefix).elim
 |cons c p ih=>
  intro d x q h
  cases q with
  |nil=>exact(h.2 List.nil_prefix).elim
  |cons c' q=>
   have key: ∀xs:List D,((xs.set c (HZ (xs.getD c .undef) p x))[c']?).bind (fun d=>BM d q)=(xs[c']?).bind (fun d=>BM d q):=by
    intro xs;by_cases hc:c=c'
    ·subst hc;have hf:gI p q:=⟨fun hh=>h.1 (by simpa using hh),fun hh=>h.2 (by simpa using hh)⟩
     rcases Nat.lt_or_ge c xs.length with hl|hl
     ·simp only [List.getElem?_set_self hl,Cq,GM hl];rw [ih _ _ _ hf,KG,GM hl];rfl
     ·rw [List.set_eq_of_length_le hl]
    ·rw [List.getElem?_set_ne hc]
   cases d<;>first|rfl|(simp only [HZ,BM];exact key _)
theorem Si{s:St}{L:AJ}{x:D}{t:Nat}{p:AJ}(h:L=[]∨gI L (t::p)):BM ((s.set L x).v t) p=BM (s.v t) p:=by
 unfold St.set
 cases L with
 |nil=>rfl
 |cons u q=>
  rcases h with h|h
  ·cases h
  ·by_cases hut:t=u
   ·subst hut;simp only [Ao];exact Vs _ _ _ _ ⟨fun hh=>h.1 (by simpa using hh),fun hh=>h.2 (by simpa using hh)⟩
   ·simp only [Ad _ _ hut]
def Ny(deep:Bool)(s:St)(L:AJ)(c:D):St:=if L.isEmpty then s else if deep then(s.set L c).bump (L.headD 0)else s.set L c
theorem Gd(deep:Bool)(s:St)(L:AJ)(c:D)(rest:List (AJ×D)):back deep s ((L,c)::rest)=back deep (Ny deep s L c) rest:=rfl
theorem LQ(deep:Bool)(s:St)(L:AJ)(c:D):(Ny deep s L c).v=(s.set L c).v:=by
 unfold Ny
 cases L with
 |nil=>rfl
 |cons t p=>cases deep<;>rfl
theorem rM(deep:Bool)(s:St)(L:AJ)(c:D):(Ny deep s L c).k=s.k:=by
 unfold Ny
 cases L with
 |nil=>rfl
 |cons t p=>cases deep<;>rfl
theorem mR(deep:Bool){t:Nat}{p:AJ}: ∀(l:List (AJ×D)) (s:St),(∀q∈l,q.1=[]∨gI q.1 (t::p))→BM ((back deep s l).v t) p=BM (s.v t) p:=by
 intro l
 induction l with
 |nil=>intro s _;rfl
 |cons q l ih=>
  obtain⟨L,c⟩:=q;intro s h;rw [Gd,ih _ (fun q hq=>h q (Jb _ hq)),LQ];exact Si (h _ (LF))
theorem Xq(deep:Bool): ∀(l:List (AJ×D)) (s:St),(back deep s l).k=s.k:=by
 intro l
 induction l with
 |nil=>intro s;rfl
 |cons q l ih=>obtain⟨L,c⟩:=q;intro s;rw [Gd,ih,rM]
theorem Px(deep:Bool)(s:St)(L:AJ)(c:D)(t:Nat):(Ny deep s L c).m t=if L≠[]∧deep=true∧L.headD 0=t then s.m t+1 else s.m t:=by
 unfold Ny
 cases L with
 |nil=>simp
 |cons u p=>
  cases deep with
  |false=>simp [St.set]
  |true=>
   simp only [List.isEmpty_cons,JQ,if_false,if_true,St.bump,St.set,Vf];by_cases h:t=u
   ·subst h;simp [Ao]
   ·simp [Ad _ _ h,Ne.symm h]
theorem Wx(deep:Bool)(t:Nat): ∀(l:List (AJ×D)) (s:St),s.m t≤(back deep s l).m t:=by
 intro l
 induction l with
 |nil=>intro s;exact IG _
 |cons q l ih=>
  obtain⟨L,c⟩:=q;intro s;rw [Gd];refine Nat.le_trans ?_ (ih _);rw [Px];split<;>omega
theorem jl(t:Nat): ∀(l:List (AJ×D)) (s:St),(∃q∈l,q.1≠[]∧q.1.headD 0=t)→s.m t<(back true s l).m t:=by
 intro l
 induction l with
 |nil=>intro s ⟨q,hq,_⟩;cases hq
 |cons q l ih=>
  obtain⟨L,c⟩:=q;intro s ⟨q,hq,h1,h2⟩;rw [Gd];rcases Pb.1 hq with rfl|hq
  ·refine bK ?_ (Wx true t l _);rw [Px,if_pos ⟨h1,rfl,h2⟩];omega
  ·refine Nat.lt_of_le_of_lt ?_ (ih _ ⟨q,hq,h1,h2⟩);rw [Px];split<;>omega
theorem Py(t:Nat): ∀(l:List (AJ×D)) (s:St),(back false s l).m t=s.m t:=by
 intro l
 induction l with
 |nil=>intro s;rfl
 |cons q l ih=>obtain⟨L,c⟩:=q;intro s;rw [Gd,ih,Px];simp
theorem U6(deep:Bool)(t:Nat): ∀(l:List (AJ×D)) (s:St),(∀q∈l,q.1=[]∨q.1.headD 0≠t)→(back deep s l).v t=s.v t∧(back deep s l).m t=s.m t:=by
 intro l
 induction l with
 |nil=>intro s _;exact⟨rfl,rfl⟩
 |cons q l ih=>
  obtain⟨L,c⟩:=q;intro s h;rw [Gd];obtain⟨h1,h2⟩:=ih (Ny deep s L c) (fun q hq=>h q (Jb _ hq));rw [h1,h2,LQ,Px];rcases h _ (LF)with h|h
  ·simp only at h;subst h;simp [St.set]
  ·cases L with
   |nil=>simp [St.set]
   |cons u p=>
    simp only [Vf]at h;simp [St.set,Ad _ _ (Ne.symm h),h]
theorem dJ{d x:D}{c:Nat}{p:AJ}:(HZ d (c::p) x).isObj=d.isObj:=by cases d<;>rfl
theorem Wy(deep:Bool)(t:Nat): ∀(l:List (AJ×D)) (s:St),(∀q∈l,q.1≠[t])→((back deep s l).v t).isObj=(s.v t).isObj:=by
 intro l
 induction l with
 |nil=>intro s _;rfl
 |cons q l ih=>
  obtain⟨L,c⟩:=q;intro s h;rw [Gd,ih _ (fun q hq=>h q (Jb _ hq)),LQ];have:=h _ (LF)
  cases L with
  |nil=>rfl
  |cons u p=>
   by_cases hut:t=u
   ·subst hut
    cases p with
    |nil=>exact(this rfl).elim
    |cons a p=>simp only [St.set,Ao];exact dJ
   ·simp only [St.set,Ad _ _ hut]
structure RelV(T:Tys)(V:AJ→Nat→Nat→Value→Prop)(Vp:AJ→Nat→Nat→Nat→Value→Prop)(s:St)(rv:Nat→Value)(w:World)(S:Nat→Prop)(Fs:Nat→Nat→Prop):Prop where
 val: ∀t,W T S w V Vp (s.v t) (rv t) (Fs t)
 disj: ∀t u k,t≠u→Fs t k→ ¬Fs u k
section
variable {T:Tys} {s s':St} {rv:Nat→Value} {w w':World} {S S':Nat→Prop} {Fs:Nat→Nat→Prop} {pm:Pm}
variable {V:AJ→Nat→Nat→Value→Prop} {Vp:AJ→Nat→Nat→Nat→Value→Prop}
theorem RelV.focus(h:RelV T V Vp s rv w S Fs){t:Nat}{p:AJ}{d:D}(hg:BM (s.v t) p=some d):
  ∃v F,Dm w rv (t::p)=some v∧W T S w V Vp d v F∧(∀k,F k→Fs t k)∧
   (∀(s':St) (d':D) (F':Nat→Prop),s'.v=(s.set (t::p) d').v→(∀k u,Fs u k→ ¬F k→ ¬F' k)→W T S w V Vp d' v F'→
    RelV T V Vp s' rv w S (LG Fs t (fun k=>(Fs t k∧ ¬F k)∨F' k))):=by
 obtain⟨v,F,hfo,hW,hsub,hset,_⟩:=(h.val t).focus d hg
 refine⟨v,F,hfo,hW,hsub,fun s' d' F' hs' hr hn=> ?_⟩
 refine⟨fun u=> ?_,fun u u' k hne=> ?_⟩
 ·rw [hs'];by_cases hut:u=t
  ·subst hut;simp only [St.set,Ao];exact hset w S V Vp d' F' (fun k hf hn=>⟨rfl,(h.val u).notS k hf,hr k u hf hn⟩) (fun k hk=>⟨hk,rfl⟩) (fun _ _ _ _ h=>h) (fun _ _ _ _ _ h=>h) hn
  ·simp only [St.set,Ad _ _ hut];exact h.val u
 ·by_cases h1:u=t
  ·subst h1;have h2:u'≠u:=fun e=>hne e.symm;simp only [Ao,Ad _ _ h2]
   rintro(⟨hf,_⟩|hf) hg
   ·exact h.disj u u' k hne hf hg
   ·exact hr k u' hg (fun hF=>h.disj u' u k h2 hg (hsub k hF)) hf
  ·by_cases h2:u'=t
   ·subst h2;simp only [Ao,Ad _ _ h1];rintro hf (⟨hg,_⟩|hg)
    ·exact h.disj u u' k hne hf hg
    ·exact hr k u hf (fun hF=>h.disj u u' k h1 hf (hsub k hF)) hg
   ·simp only [Ad _ _ h1,Ad _ _ h2];exact h.disj u u' k hne
theorem Pz{Fs:Nat→Nat→Prop}{t:Nat}{F F':Nat→Prop}{u k:Nat}(h:LG Fs t (fun k=>(Fs t k∧ ¬F k)∨F' k) u k):Fs u k∨F' k:=by
 by_cases hut:u=t
 ·subst hut;simp only [Ao]at h;exact h.imp (·.1) id
 ·rw [Ad _ _ hut]at h;exact .inl h
theorem W.undef_Em{v:Value}{F:Nat→Prop}(h:W T S w V Vp .undef v F):Em F:=by cases h with|undef h=>exact h
theorem jm: ∀(l:List (AJ×D)) {s:St} {Fs:Nat→Nat→Prop},RelV T V Vp s rv w S Fs→Ei (l.map (·.1))=true→
  (∀q∈l,q.1=[]∨ ∃t p,q.1=t::p∧BM (s.v t) p=some q.2)→
  ∃(Fs1 FL:Nat→Nat→Prop),RelV T V Vp (back false s (l.map fun q=>(q.1,.undef))) rv w S Fs1∧
   (∀(i:Nat) (q:AJ×D) (t:Nat) (p:AJ),l[i]? =some q→q.1=t::p→BM ((back false s (l.map fun q=>(q.1,.undef))).v t) p=some .undef∧ ∃v,Dm w rv q.1=some v∧W T S w V Vp q.2 v (FL i))∧
   (∀i,(∀q,l[i]? =some q→q.1=[])→Em (FL i))∧(∀i j k,i≠j→FL i k→ ¬FL j k)∧(∀i u k,FL i k→ ¬Fs1 u k)∧(∀u k,Fs1 u k→Fs u k)∧
   (∀i k,FL i k→ ∃q t p,l[i]? =some q∧q.1=t::p∧Fs t k):=by
 intro l
 induction l with
 |nil=>
  intro s Fs h _ _
  exact⟨Fs,fun _ _=>False,h,by simp,fun _ _ _ h=>h,fun _ _ _ _ h=>h.elim,fun _ _ _ h=>h.elim,fun _ _ h=>h,fun _ _ h=>h.elim⟩
 |cons q l ih=>
  obtain⟨L,c⟩:=q;intro s Fs h hap hq;simp only [P8]at hap;obtain⟨ha,hap2⟩:=Nw hap;have hq0:=hq _ (LF);simp only [P8,Gd]
  cases L with
  |nil=>
   obtain⟨Fs1,FL,r1,r2,r3,r4,r5,r6,r7⟩:=ih h hap2 (fun q hm=>hq q (Jb _ hm))
   refine⟨Fs1,fun i=>match i with|0=>fun _=>False|i+1=>FL i,r1,fun i q t p hi ht=> ?_,fun i hi=> ?_,fun i j k hij=> ?_,fun i u k=> ?_,r6,fun i k=> ?_⟩
   ·cases i with
    |zero=>simp at hi;subst hi;cases ht
    |succ i=>exact r2 i q t p (by simpa using hi) ht
   ·cases i with
    |zero=>exact fun _ h=>h
    |succ i=>exact r3 i (fun q hq=>hi q (by simpa using hq))
   ·cases i with
    |zero=>exact fun h=>h.elim
    |succ i=>cases j with
     |zero=>exact fun _ h=>h
     |succ j=>exact r4 i j k (by omega)
   ·cases i with
    |zero=>exact fun h=>h.elim
    |succ i=>exact r5 i u k
   ·cases i with
    |zero=>exact fun h=>h.elim
    |succ i=>intro hk;obtain⟨q,t,p,h1,h2⟩:=r7 i k hk;exact⟨q,t,p,by simpa using h1,h2⟩
  |cons t p=>
   have hg:BM (s.v t) p=some c:=by
    rcases hq0 with h|⟨t',p',h1,h2⟩
    ·cases h
    ·simp only at h1 h2;injection h1 with e1 e2;subst e1;subst e2;exact h2
   have hfar: ∀q∈l,q.1=[]∨gI (t::p) q.1:=fun q hm=>by
    rcases ha with ha|ha
    ·cases ha
    ·exact ha q.1 (aE hm)
   obtain⟨v,F,hfo,hW,hsub,hset⟩:=h.focus hg;have h1:=hset (Ny false s (t::p) .undef) .undef (fun _=>False) (by rw [LQ]) (fun _ _ _ _ h=>h) (.undef fun _ h=>h)
   obtain⟨Fs1,FL,r1,r2,r3,r4,r5,r6,r7⟩:=ih h1 hap2 (fun q hm=>by
    rcases hq q (Jb _ hm)with h|⟨t',p',e,hh⟩
    ·exact .inl h
    ·refine .inr ⟨t',p',e, ?_⟩;rw [LQ,Si]
     ·exact hh
     ·right
      rcases hfar q hm with h|h
      ·rw [h]at e;cases e
      ·rw [←e];exact h)
   have hFn: ∀u k,F k→ ¬Fs1 u k:=fun u k hf hu=>by
    have:=r6 u k hu
    by_cases hut:u=t
    ·subst hut;simp only [Ao,or_false]at this;exact this.2 hf
    ·rw [Ad _ _ hut]at this;exact h.disj u t k hut this (hsub k hf)
   have hFL: ∀i k,FL i k→ ¬F k:=fun i k hi hf=>by
    obtain⟨q,t',p',_,_,hk⟩:=r7 i k hi;by_cases hut:t'=t
    ·subst hut;simp only [Ao,or_false]at hk;exact hk.2 hf
    ·rw [Ad _ _ hut]at hk;exact h.disj t' t k hut hk (hsub k hf)
   refine⟨Fs1,fun i=>match i with|0=>F|i+1=>FL i,r1,fun i q t' p' hi ht=> ?_,fun i hi=> ?_,fun i j k hij=> ?_,fun i u k=> ?_,fun u k hu=> ?_,fun i k=> ?_⟩
   ·cases i with
    |zero=>
     simp only [Oc,al]at hi;subst hi;simp only at ht
     injection ht with e1 e2
     subst e1;subst e2
     refine⟨?_,v,hfo,hW⟩
     rw [mR false]
     ·rw [LQ];simp only [St.set,Ao];exact lM hg
     ·intro q hm;simp only [Jd]at hm;obtain⟨q',hm,rfl⟩:=hm
      exact(hfar q' hm).imp id gI.symm
    |succ i=>exact r2 i q t' p' (by simpa using hi) ht
   ·cases i with
    |zero=>have:=hi _ rfl;cases this
    |succ i=>exact r3 i (fun q hq=>hi q (by simpa using hq))
   ·cases i with
    |zero=>cases j with
     |zero=>exact(hij rfl).elim
     |succ j=>exact fun hf hj=>hFL j k hj hf
    |succ i=>cases j with
     |zero=>exact fun hi hf=>hFL i k hi hf
     |succ j=>exact r4 i j k (by omega)
   ·cases i with
    |zero=>exact hFn u k
    |succ i=>exact r5 i u k
   ·rcases Pz (r6 u k hu)with h|h
    ·exact h
    ·exact h.elim
   ·cases i with
    |zero=>exact fun hf=>⟨_,t,p,rfl,rfl,hsub k hf⟩
    |succ i=>
     intro hk;obtain⟨q,t',p',h1,h2,h3⟩:=r7 i k hk
     refine⟨q,t',p',by simpa using h1,h2, ?_⟩
     rcases Pz h3 with h|h
     ·exact h
     ·exact h.elim
theorem mU: ∀(l:List (AJ×D)) {s:St} {Fs FL:Nat→Nat→Prop} {gh:Nat→Value},RelV T V Vp s rv w S Fs→Ei (l.map (·.1))=true→
  (∀(i:Nat) (q:AJ×D),l[i]? =some q→q.1=[]∨ ∃t p,q.1=t::p∧BM (s.v t) p=some .undef∧Dm w rv q.1=some (gh i))→
  (∀(i:Nat) (q:AJ×D),l[i]? =some q→W T S w V Vp q.2 (gh i) (FL i))→(∀i j k,i≠j→FL i k→ ¬FL j k)→(∀i u k,FL i k→ ¬Fs u k)→
  ∃(Fs1:Nat→Nat→Prop),RelV T V Vp (back true s l) rv w S Fs1∧ ∀u k,Fs1 u k→Fs u k∨ ∃j,FL j k:=by
 intro l
 induction l with
 |nil=>intro s Fs FL gh h _ _ _ _ _;exact⟨Fs,h,fun u k h=> .inl h⟩
 |cons q l ih=>
  obtain⟨L,c⟩:=q;intro s Fs FL gh h hap hq hw hd hn;simp only [P8]at hap;obtain⟨ha,hap2⟩:=Nw hap;rw [Gd]
  cases L with
  |nil=>
   obtain⟨Fs1,r1,r2⟩:=ih (FL:=fun i=>FL (i+1)) (gh:=fun i=>gh (i+1)) h hap2 (fun i q hi=>hq (i+1) q (by simpa using hi)) (fun i q hi=>hw (i+1) q (by simpa using hi)) (fun i j k hij=>hd _ _ k (by omega)) (fun i=>hn (i+1))
   exact⟨Fs1,r1,fun u k hu=>(r2 u k hu).imp id (fun⟨j,hj⟩=>⟨_,hj⟩)⟩
  |cons t p=>
   have hfar: ∀q∈l,q.1=[]∨gI (t::p) q.1:=fun q hm=>by
    rcases ha with ha|ha
    ·cases ha
    ·exact ha q.1 (aE hm)
   obtain⟨hg,hfo0⟩:BM (s.v t) p=some .undef∧Dm w rv (t::p)=some (gh 0):=by
    rcases hq 0 _ rfl with h|⟨t',p',h1,h2,h3⟩
    ·cases h
    ·simp only at h1 h2 h3;injection h1 with e1 e2;subst e1;subst e2;exact⟨h2,h3⟩
   obtain⟨v,F,hfo,hW,hsub,hset⟩:=h.focus hg;have hFE:=hW.undef_Em;rw [hfo0]at hfo
   injection hfo with hfo
   subst hfo;have h1:=hset (Ny true s (t::p) c) c (FL 0) (by rw [LQ]) (fun k u hu _ hf=>hn 0 u k hf hu) (hw 0 _ rfl)
   obtain⟨Fs1,r1,r2⟩:=ih (FL:=fun i=>FL (i+1)) (gh:=fun i=>gh (i+1)) h1 hap2 (fun i q hi=>by
    rcases hq (i+1) q (by simpa using hi)with h|⟨t',p',e,hh,hf⟩
    ·exact .inl h
    ·refine .inr ⟨t',p',e, ?_,hf⟩;rw [LQ,Si]
     ·exact hh
     ·right
      rcases hfar q (Ve hi)with h|h
      ·rw [h]at e;cases e
      ·rw [←e];exact h) (fun i q hi=>hw (i+1) q (by simpa using hi)) (fun i j k hij=>hd _ _ k (by omega)) (fun i u k hi hu=>by
       rcases Pz hu with h|h
       ·exact hn (i+1) u k hi h
       ·exact hd (i+1) 0 k (by omega) hi h)
   refine⟨Fs1,r1,fun u k hu=> ?_⟩
   rcases r2 u k hu with h|⟨j,hj⟩
   ·rcases Pz h with h|h
    ·exact .inl h
    ·exact .inr ⟨0,h⟩
   ·exact .inr ⟨_,hj⟩
theorem dK: ∀(l:List (AJ×D)) {l':List (AJ×D)} {s:St} {S:Nat→Prop} {Fs:Nat→Nat→Prop},IY l=some l'→Ei (l.map (·.1))=true→Rel T s rv w S Fs→
  (∀q∈l,q.1=[]∨ ∃t p,q.1=t::p∧BM (s.v t) p=some q.2)→
  ∃(S1:Nat→Prop) (Fs1:Nat→Nat→Prop),Rel T (back false s l') rv w S1 Fs1∧Step w S Fs w S1 Fs1∧
   (∀(q:AJ×D) (v:Value) (c':D),q∈l→rJ s w rv q.1 q.2 v→EA q.2=some c'→W T S1 w V0 IK c' v (fun _=>False)):=by
 intro l
 induction l with
 |nil=>
  intro l' s S Fs hf _ h _;simp only [IY,al]at hf;subst hf
  exact⟨S,Fs,h,Step.refl _ _ _,fun q v c' hq=>by cases hq⟩
 |cons q l ih=>
  obtain⟨L,c⟩:=q;intro l' s S Fs hf hap h hq;simp only [IY,Hl,Cj]at hf;obtain⟨c',hc',ls',hls,rfl⟩:=hf;simp only [P8]at hap;obtain⟨ha,hap2⟩:=Nw hap;rw [Gd]
  have hsrc0: ∀(q:AJ×D) (v:Value) (c':D) (S1:Nat→Prop),q.1=[]→rJ s w rv q.1 q.2 v→EA q.2=some c'→W T S1 w V0 IK c' v (fun _=>False):=by
   intro q v c' S1 e hs hf;obtain⟨_,⟨_,⟨e1,h1⟩,A,h2⟩|⟨t,p,h1,_⟩⟩:=hs
   ·have:W T S1 w V0 IK (.own e1 []) (.slice A 0 0) (fun _=>False):= .own0 fun _ h=>h
    rw [h1]at hf;rw [h2];exact this.freeze c' hf (fun _ h=>h.elim) (fun _ h=>h)
   ·rw [e]at h1;cases h1
  cases L with
  |nil=>
   obtain⟨S1,Fs1,r1,r2,r3⟩:=ih hls hap2 h (fun q hm=>hq q (Jb _ hm))
   refine⟨S1,Fs1,r1,r2,fun q v d hm hs hf=> ?_⟩
   rcases Pb.1 hm with rfl|hm
   ·exact hsrc0 _ v d S1 rfl hs hf
   ·exact r3 q v d hm hs hf
  |cons t p=>
   have hfar: ∀q∈l,q.1=[]∨gI (t::p) q.1:=fun q hm=>by
    rcases ha with ha|ha
    ·cases ha
    ·exact ha q.1 (aE hm)
   have hg:BM (s.v t) p=some c:=by
    rcases hq _ (LF)with h|⟨t',p',h1,h2⟩
    ·cases h
    ·simp only at h1 h2;injection h1 with e1 e2;subst e1;subst e2;exact h2
   obtain⟨v,F,hfo,hW,hsub,hset,_⟩:=h.focus hg;have hk:=Keeps.set0 (w:=w) (rv:=rv) hg (OM c c' hc');have hWf:W T (fun k=>S k∨F k) w V0 IK c' v (fun _=>False):=hW.freeze c' hc' (fun k hk=> .inr hk) (fun k hk=> .inl hk);have h1:=hset w (fun k=>S k∨F k) (s.set (t::p) c') c' (fun _=>False) rfl (fun k u hu hn=>⟨rfl,fun hs=>hs.elim ((h.val u).notS k hu) hn,id⟩) (fun k hk=>⟨.inl hk,rfl⟩) (fun k hs=>hs.elim (h.lt k) (hW.lt k)) hk hWf.up;have hset':Ny false s (t::p) c'=s.set (t::p) c':=rfl
   have hstep:Step w S Fs w (fun k=>S k∨F k) (LG Fs t (fun k=>(Fs t k∧ ¬F k)∨False)):=
    Step.of_sub (fun k hk=> .inl hk) (fun k hk=>hk.imp id (fun hf=>⟨t,hsub k hf⟩)) (fun u k hu=>(Pz hu).elim (fun h=>⟨u,h⟩) (fun h=>h.elim))
   have hst2: ∀q∈l,∀t' p',q.1=t'::p'→BM ((s.set (t::p) c').v t') p'=BM (s.v t') p':=fun q hm t' p' e=>by
    refine Si (.inr ?_);rcases hfar q hm with h|h
    ·rw [h]at e;cases e
    ·rw [←e];exact h
   rw [hset']
   obtain⟨S1,Fs1,r1,r2,r3⟩:=ih hls hap2 h1 (fun q hm=>by
    rcases hq q (Jb _ hm)with h|⟨t',p',e,hh⟩
    ·exact .inl h
    ·exact .inr ⟨t',p',e,by rw [hst2 q hm t' p' e];exact hh⟩)
   refine⟨S1,Fs1,r1,hstep.trans r2,fun q u d hm hs hf=> ?_⟩
   rcases Pb.1 hm with rfl|hm
   ·simp only at hf;rw [hc']at hf
    injection hf with hf
    subst hf
    have hu:u=v:=by
     obtain⟨_,⟨h1,_⟩|⟨t',p',h1,h2,h3⟩⟩:=hs
     ·cases h1
     ·simp only at h3;rw [hfo]at h3;injection h3 with h3;exact h3.symm
    subst hu;exact W.mono (fun k hk=>⟨r2.sS k hk,rfl⟩) hWf _ _ (fun _ _ _ _ h=>h) (fun _ _ _ _ _ h=>h) (fun _ h=>h.elim)
   ·refine r3 q u d hm ?_ hf;obtain⟨ho,h1|⟨t',p',h1,h2,h3⟩⟩:=hs
    ·exact⟨ho,.inl h1⟩
    ·exact⟨ho,.inr ⟨t',p',h1,by rw [hst2 q hm t' p' h1];exact h2,h3⟩⟩
end
end Dv
namespace Dv
open Go
section
variable {P:Program} {E:Env} {s s':St} {gh:Nat→Value} {a:Act} {w w':World} {S:Nat→Prop} {Fs:Nat→Nat→Prop} {N:Nat} {pm:Pm}
theorem OT{T:Tys}{S0:Nat→Prop}{gh0:Nat→Value}{xs:List (ac×ab)}{as caps:List D}{args vcaps:Array Value}(hlen:as.length=xs.length)(hsz:args.size=xs.length)
  (hargs: ∀(i:Nat) (q:ac×ab),xs[i]? =some q→args[i]? =some (a.eval q.1))
  (h: ∀(k:Nat) (x:D),as[k]? =some x→ ∃q:ac×ab,xs[k]? =some q∧W T S0 w (VG gh0) IK x (a.eval q.1) (fun _=>False))
  (hc:vcaps.size=caps.length)(hcaps: ∀(i:Nat) (d:D),caps[i]? =some d→ ∃v,vcaps[i]? =some v∧W T S0 w (VG gh0) IK d v (fun _=>False)):
  (args++vcaps).size=(as++caps).length∧ ∀(i:Nat) (d:D),(as++caps)[i]? =some d→ ∃v,(args++vcaps)[i]? =some v∧W T S0 w (VG gh0) IK d v (fun _=>False):=by
 refine⟨by simp [hlen,hsz,hc],fun i d hi=> ?_⟩
 rcases Nat.lt_or_ge i as.length with hl|hl
 ·rw [NV hl]at hi;obtain⟨q,hq,hW⟩:=h i d hi
  exact⟨_,by rw [Array.getElem?_append_left (by omega)];exact hargs i q hq,hW⟩
 ·rw [NM hl]at hi;obtain⟨v,hv,hW⟩:=hcaps _ d hi
  exact⟨v,by rw [Array.getElem?_append_right (by omega),show i-args.size=i-as.length by omega];exact hv,hW⟩
theorem Xr{T:Tys}{S0:Nat→Prop}{gh0:Nat→Value}{caps:List D}{vcaps:Array Value}(hS: ∀k,S k→S0 k)
  (hcaps: ∀(i:Nat) (d:D),caps[i]? =some d→ ∃v,vcaps[i]? =some v∧W T S w V0 IK d v (fun _=>False)):
  ∀(i:Nat) (d:D),caps[i]? =some d→ ∃v,vcaps[i]? =some v∧W T S0 w (VG gh0) IK d v (fun _=>False):=by
 intro i d hi;obtain⟨v,hv,hW⟩:=hcaps i d hi
 exact⟨v,hv,(W.mono (fun k hk=>⟨hS k hk,rfl⟩) hW V0 IK (fun _ _ _ _ h=>h) (fun _ _ _ _ _ h=>h) (fun _ h=>h.elim)).up⟩
theorem Zh{c:Call}{ts:List ab}(hsz:c.args.size=ts.length):(c.args.map a.eval).size=(c.args.toList.zip ts).length∧
  ∀(i:Nat) (q:ac×ab),(c.args.toList.zip ts)[i]? =some q→(c.args.map a.eval)[i]? =some (a.eval q.1):=by
 refine⟨by simp [hsz],fun i q hi=> ?_⟩
 rw [bb]at hi;rw [Array.getElem?_map];have:c.args[i]? =some q.1:=by simpa using hi.1
 rw [this];rfl
theorem Xt(h:Fr E.T N gh s a w S Fs){xs:List (ac×ab)}(hxs: ∀q∈xs,BC N q.1){as caps:List D}{ls:List (AJ×D)}(ha:De E false pm s 0 xs=some (as,ls))
  {args vcaps:Array Value}(hsz:args.size=xs.length)(hargs: ∀(i:Nat) (q:ac×ab),xs[i]? =some q→args[i]? =some (a.eval q.1))
  (hc:vcaps.size=caps.length)(hcaps: ∀(i:Nat) (d:D),caps[i]? =some d→ ∃v,vcaps[i]? =some v∧W E.T S w V0 IK d v (fun _=>False))
  {f:am}{r:D}{outs:List D}(hg:Good P E.T f (as++caps) [] r outs)(hno:Dj r=false){dst:Option Tmp}(hd:DD N dst):
  Calls P f (args++vcaps) w fun| .returned v,w'=>CJ E.T gh N (s.putO dst r) w S Fs (a.put dst v) w'|_,_=>False:=by
 obtain⟨lv,ho,hlen,hgi⟩:=LP h.rel h.small xs 0 hxs ha
 have hA:=hgi (fun _=>undef) (fun k=>S k∨ ∃u,Fs u k) (fun k hk=> .inl hk) (fun hl=>by cases hl) (fun _ i q v c' hq hv hs hf=>by
  obtain⟨_,⟨e,⟨e1,h1⟩,A,h2⟩|⟨t,p,h1,h2,h3⟩⟩:=hs
  ·have:W E.T (fun k=>S k∨ ∃u,Fs u k) w V0 IK (.own e1 []) (.slice A 0 0) (fun _=>False):= .own0 fun _ h=>h
   rw [h1]at hf;rw [h2];exact this.freeze c' hf (fun _ h=>h.elim) (fun _ h=>h)
  ·obtain⟨v',F,hfo,hW,hsub,_⟩:=h.rel.focus h2;rw [h1,hfo]at h3
   injection h3 with h3
   subst h3
   exact hW.freeze c' hf (fun k hk=> .inr ⟨t,hsub k hk⟩) (fun k hk=> .inl hk))
 obtain⟨e1,e2⟩:=OT hlen hsz hargs hA hc (Xr (fun k hk=> .inl hk) hcaps);refine Calls.mono (hg.2 _ (fun _=>undef) w _ (fun _ _=>False) e1 e2 (fun j d hj=>by simp at hj) (fun _ _ _ h=>h) (fun _ _ _ _ h=>h.elim) (fun k hk=>hk.elim (h.rel.lt k) (fun⟨u,hu⟩=>(h.rel.val u).lt k hu))) ?_
 intro e w' he
 cases e with
 |returned v=>
  obtain⟨S',F,FL',hW,_,_,_,hst,hF,hlt⟩:=he;have hheap: ∀k,k<w.heap.size→w'.heap[k]? =w.heap[k]? :=fun k hk=>hst.heap k hk (fun _ h=>h);have hFn: ∀k,F k→w.heap.size≤k:=fun k hk=>(hF k hk).elim (fun⟨_,h⟩=>h.elim) id;have hW':W E.T S w' V0 IK r v F:=A16 hW hno (fun k hk hs=>by have:=hFn k hk;have:=h.rel.lt k hs;omega)
  exact Bu (h.rel.grow hheap hst.size) hW'.up (fun t k _ hf hu=>by have:=hFn k hf;have:=(h.rel.val t).lt k hu;omega)
   ⟨hst.os,hst.tape,hst.output,hst.size,fun k hk _=>hheap k hk,fun _ h=>h,fun _ h=> .inl h,fun u k h=> .inl ⟨u,h⟩⟩ (fun k hk=> .inr (hFn k hk)) h.defs h.size h.small hd
 |panicked=>exact he.elim
 |outgrown=>exact he.elim
theorem gJ{l:List (AJ×D)}{lv:List Value}{rv:Nat→Value}(ho:JS s w rv l lv): ∀q∈l,q.1=[]∨ ∃t p,q.1=t::p∧BM (s.v t) p=some q.2:=by
 intro q hq;obtain⟨i,hi⟩:=bI hq;have hlt:i<lv.length:=by rw [ho.1];exact(EO.1 hi).1
 obtain⟨_,⟨h,_⟩|⟨t,p,h1,h2,_⟩⟩:=ho.2 i q _ hi (GM hlt)
 ·exact .inl h
 ·exact .inr ⟨t,p,h1,h2⟩
theorem Zi(h:Fr E.T N gh s a w S Fs){xs:List (ac×ab)}(hxs: ∀q∈xs,BC N q.1){as caps:List D}{ls ls':List (AJ×D)}(ha:De E false pm s 0 xs=some (as,ls))
  {args vcaps:Array Value}(hsz:args.size=xs.length)(hargs: ∀(i:Nat) (q:ac×ab),xs[i]? =some q→args[i]? =some (a.eval q.1))
  (hc:vcaps.size=caps.length)(hcaps: ∀(i:Nat) (d:D),caps[i]? =some d→ ∃v,vcaps[i]? =some v∧W E.T S w V0 IK d v (fun _=>False))
  {f:am}{r:D}{outs:List D}(hg:Good P E.T f (as++caps) [] r outs)(hap:Ei (ls.map (·.1))=true)(hfz:IY ls=some ls'){dst:Option Tmp}(hd:DD N dst):
  Calls P f (args++vcaps) w fun| .returned v,w'=>CJ E.T gh N ((back false s ls').putO dst r) w S Fs (a.put dst v) w'|_,_=>False:=by
 obtain⟨lv,ho,hlen,hgi⟩:=LP h.rel h.small xs 0 hxs ha;obtain⟨S1,Fs1,r1,r2,r3⟩:=dK ls hfz hap h.rel (gJ ho);have hA:=hgi (fun _=>undef) S1 r2.sS (fun hl=>by cases hl) (fun _ i q v c' hq hv hs hf=>r3 q v c' (Ve hq) hs hf)
 obtain⟨e1,e2⟩:=OT hlen hsz hargs hA hc (Xr r2.sS hcaps);refine Calls.mono (hg.2 _ (fun _=>undef) w _ (fun _ _=>False) e1 e2 (fun j d hj=>by simp at hj) (fun _ _ _ h=>h) (fun _ _ _ _ h=>h.elim) r1.lt) ?_
 intro e w' he
 cases e with
 |returned v=>
  obtain⟨S',F,FL',hW,_,_,_,hst,hF,hlt⟩:=he;have hheap: ∀k,k<w.heap.size→w'.heap[k]? =w.heap[k]? :=fun k hk=>hst.heap k hk (fun _ h=>h);have hFn: ∀k,F k→w.heap.size≤k:=fun k hk=>(hF k hk).elim (fun⟨_,h⟩=>h.elim) id;have hk:=Keeps.grow r1 hheap
  have hnS: ∀u k,Fs1 u k→ ¬S' k:=fun u k hu hs=>by
   rcases hst.sS' k hs with h1|⟨_,h1⟩|h1
   ·exact(r1.val u).notS k hu h1
   ·exact h1
   ·have:=(r1.val u).lt k hu;omega
  have hrel:Rel E.T (back false s ls') (Ar a gh) w' S' Fs1:=⟨fun t=>(r1.val t).keep hk (fun k hs=>⟨hst.sS k hs,hheap k (r1.lt k hs)⟩) (fun k hf=>⟨hnS t k hf,hheap k ((r1.val t).lt k hf)⟩),r1.disj,hlt⟩;refine Bu hrel hW.up (fun t k _ hf hu=>by have:=hFn k hf;have:=(r1.val t).lt k hu;omega) (r2.trans ⟨hst.os,hst.tape,hst.output,hst.size,fun k hk _=>hheap k hk,hst.sS,fun k hs=> ?_,fun u k h=> .inl ⟨u,h⟩⟩) (fun k hk=> .inr (hFn k hk)) h.defs h.size h.small hd
  rcases hst.sS' k hs with h1|⟨_,h1⟩|h1
  ·exact .inl h1
  ·exact h1.elim
  ·exact .inr (.inr h1)
 |panicked=>exact he.elim
 |outgrown=>exact he.elim
theorem Zj{T:Tys}{rv:Nat→Value}(h:Rel T s rv w S Fs){l:List (AJ×D)}{lv:List Value}(ho:JS s w rv l lv){outs:List D}(hlen:outs.length=l.length)
  (hheap: ∀t,(∀q∈l,q.1=[]∨q.1.headD 0≠t)→ ∀k,Fs t k→w'.heap[k]? =w.heap[k]?):Keeps s w rv (Jv s (l.map (·.1)) outs) w' rv:=by
 have hzip: ∀L,L∈l.map (·.1)→ ∃q∈(l.map (·.1)).zip outs,q.1=L:=by
  intro L hL;obtain⟨i,hi⟩:=bI hL;have hl:i<outs.length:=by rw [hlen];simpa using (EO.1 hi).1
  exact⟨(L,outs[i]),Ve (i:=i) (by rw [bb];exact⟨hi,GM hl⟩),rfl⟩
 refine⟨fun t=>by unfold Jv;rw [Xq,Xq];exact IG _,fun t=> ?_,fun L n m he hva=> ?_⟩
 ·unfold Jv;refine Nat.le_trans ?_ (Wx true t _ _);rw [Py];exact IG _
 ·obtain⟨t,q,x,rfl,h1,h2,h3,h4⟩:=hva;unfold Jv at h1 h2 h3;rw [Xq,Xq]at h1;by_cases htch: ∃q∈l,q.1≠[]∧q.1.headD 0=t
  ·obtain⟨q0,hm,hne,hhd⟩:=htch
   have hq:q=[]:=by
    rcases h2 with h2|h2
    ·exact h2
    ·obtain⟨q1,hm1,e1⟩:=hzip q0.1 (aE hm);have:=jl t ((l.map (·.1)).zip outs) (back false s ((l.map (·.1)).map fun L=>(L,.undef))) ⟨q1,hm1,by rw [e1];exact hne,by rw [e1];exact hhd⟩
     rw [Py]at this;have h5:=he.2;simp only [Vf]at h5;omega
   subst hq;simp only [BM,al]at h3
   refine⟨⟨t,[],s.v t,rfl,h1,.inl rfl,rfl, ?_⟩,by simp [Dm,Ak]⟩
   by_cases hroot: ∃q∈l,q.1=[t]
   ·obtain⟨q2,hm2,e2⟩:=hroot;obtain⟨i,hi⟩:=bI hm2;have hlt:i<lv.length:=by rw [ho.1];exact(EO.1 hi).1
    obtain⟨hob,⟨h5,_⟩|⟨t',p',h5,h6,_⟩⟩:=ho.2 i q2 _ hi (GM hlt)
    ·rw [h5]at e2;cases e2
    ·rw [e2]at h5
     injection h5 with h5 h7
     subst h5;subst h7;simp only [BM,al]at h6;rw [h6];exact hob
   ·have hr: ∀L,L∈l.map (·.1)→L≠[t]:=fun L hL e=>by
     obtain⟨q',hm',e'⟩:=Jd.1 hL;exact hroot ⟨q',hm',e'.trans e⟩
    rw [←h3,Wy,Wy]at h4
    ·exact h4
    ·intro q hq;obtain⟨L,hL,rfl⟩:=Jd.1 hq;exact hr L hL
    ·intro q hq;exact hr q.1 (XN hq).1
  ·have hu: ∀q∈l,q.1=[]∨q.1.headD 0≠t:=fun q hq=>by
    by_cases hn:q.1=[]
    ·exact .inl hn
    ·exact .inr fun e=>htch ⟨q,hq,hn,e⟩
   have hu1: ∀q∈(l.map (·.1)).map (fun L=>(L,D.undef)),q.1=[]∨q.1.headD 0≠t:=by
    intro q hq;obtain⟨L,hL,rfl⟩:=Jd.1 hq;obtain⟨q',hm',rfl⟩:=Jd.1 hL;exact hu q' hm'
   have hu2: ∀q∈(l.map (·.1)).zip outs,q.1=[]∨q.1.headD 0≠t:=by
    intro q hq;obtain⟨q',hm',e⟩:=Jd.1 (XN hq).1;rw [←e];exact hu q' hm'
   obtain⟨b1,b2⟩:=U6 true t _ (back false s ((l.map (·.1)).map fun L=>(L,.undef))) hu2;obtain⟨c1,c2⟩:=U6 false t _ s hu1;rw [b1,c1]at h3;rw [b2,c2]at h2
   refine⟨⟨t,q,x,rfl,h1,h2,h3,h4⟩, ?_⟩
   simp only [Dm]
   exact(h.val t).follow_frame (hheap t hu) x h3
theorem Wz(h:Fr E.T N gh s a w S Fs){args:List D}{ls:List (AJ×D)}{lv:List Value}(ho:JS s w (Ar a gh) ls lv){vs:Array Value}
  (e1:vs.size=args.length)(e2: ∀(i:Nat) (d:D),args[i]? =some d→ ∃v,vs[i]? =some v∧W E.T S w (VG fun j=>lv.getD j undef) IK d v (fun _=>False))
  {f:am}{r:D}{outs:List D}(hg:Good P E.T f args (ls.map (·.2)) r outs)(hap:Ei (ls.map (·.1))=true)(hok:ls.all (fun l=>bA l.2)=true)(hol:outs.length=ls.length){dst:Option Tmp}(hd:DD N dst):
  Calls P f vs w fun| .returned v,w'=>CJ E.T gh N ((Jv s (ls.map (·.1)) outs).putO dst r) w S Fs (a.put dst v) w'|_,_=>False:=by
 have hV:RelV E.T (VR s w (Ar a gh)) (VpR s w (Ar a gh)) s (Ar a gh) w S Fs:=⟨h.rel.val,h.rel.disj⟩;obtain⟨Fs1,FL,q1,q2,q3,q4,q5,q6,q7⟩:=jm ls hV hap (gJ ho)
 have hlent: ∀(j:Nat) (q:AJ×D),ls[j]? =some q→W E.T S w V0 IK q.2 (lv.getD j undef) (FL j):=by
  intro j q hj;have hlt:j<lv.length:=by rw [ho.1];exact(EO.1 hj).1
  have hgd:lv.getD j undef=lv[j]:=by simp [KG,hlt]
  obtain⟨hob,⟨h1,⟨e,h2⟩,A,h3⟩|⟨t,p,h1,h2,h3⟩⟩:=ho.2 j q _ hj (GM hlt)
  ·rw [hgd,h2,h3];exact .own0 (q3 j (fun q' hq'=>by rw [hj]at hq';injection hq' with hq';rw [←hq'];exact h1))
  ·obtain⟨_,v,hv,hW⟩:=q2 j q t p hj h1;rw [h3]at hv
   injection hv with hv
   rw [hgd,hv];exact Xn q.2 hW (by simpa [bA] using JC.1 hok q (Ve hj))
 refine Calls.mono (hg.2 _ (fun j=>lv.getD j undef) w S FL e1 e2 (fun j d hj=>by
   rw [MS]at hj;obtain⟨q,hq,rfl⟩:=Cj.1 hj
   exact hlent j q hq) (fun j hj=>q3 j (fun q hq=>by have:=(EO.1 hq).1;simp at hj;omega)) q4 h.rel.lt) ?_
 intro e w' he
 cases e with
 |returned v=>
  obtain⟨S',F,FL',hW,hWo,hd1,hd2,hst,hF,hlt⟩:=he;have hFs1lt: ∀u k,Fs1 u k→k<w.heap.size:=fun u k hu=>(h.rel.val u).lt k (q6 u k hu);have hheap1: ∀u k,Fs1 u k→w'.heap[k]? =w.heap[k]? :=fun u k hu=>hst.heap k (hFs1lt u k hu) (fun j hj=>q5 j u k hj hu)
  have hnS: ∀u k,Fs1 u k→ ¬S' k:=fun u k hu hs=>by
   rcases hst.sS' k hs with h1|⟨j,h1⟩|h1
   ·exact(q1.val u).notS k hu h1
   ·exact q5 j u k h1 hu
   ·have:=hFs1lt u k hu;omega
  have hFLS: ∀j k,FL j k→ ¬S k:=fun j k hj hs=>by
   obtain⟨q,t,p,_,_,hk⟩:=q7 j k hj
   exact(h.rel.val t).notS k hk hs
  have hSheap: ∀k,S k→S' k∧w'.heap[k]? =w.heap[k]? :=fun k hs=>⟨hst.sS k hs,hst.heap k (h.rel.lt k hs) (fun j hj=>hFLS j k hj hs)⟩
  have hV1:RelV E.T (VR s w (Ar a gh)) (VpR s w (Ar a gh)) (back false s (ls.map fun q=>(q.1,.undef))) (Ar a gh) w' S' Fs1:=
   ⟨fun t=>W.mono hSheap (q1.val t) _ _ (fun _ _ _ _ h=>h) (fun _ _ _ _ _ h=>h) (fun k hk=>⟨hnS t k hk,hheap1 t k hk⟩),q1.disj⟩
  have hFLn: ∀j u k,FL' j k→ ¬Fs1 u k:=fun j u k hj hu=>by
   rcases hst.sF j k hj with⟨i,hi⟩|hge
   ·exact q5 i u k hi hu
   ·have:=hFs1lt u k hu;omega
  have hzg: ∀(i:Nat) (q:AJ×D),((ls.map (·.1)).zip outs)[i]? =some q→ ∃q',ls[i]? =some q'∧q'.1=q.1∧outs[i]? =some q.2:=by
   intro i q hi;rw [bb,MS]at hi;obtain⟨q',h1,h2⟩:=Cj.1 hi.1
   exact⟨q',h1,h2,hi.2⟩
  obtain⟨Fs2,f1,f2⟩:=mU ((ls.map (·.1)).zip outs) (FL:=FL') (gh:=fun j=>lv.getD j undef) hV1 (by
    have:((ls.map (·.1)).zip outs).map (·.1)=ls.map (·.1):=List.map_fst_zip (by simp [hol])
    rw [this];exact hap) (fun i q hi=>by
    obtain⟨q',h1,h2,h3⟩:=hzg i q hi
    cases hL:q.1 with
    |nil=>exact .inl rfl
    |cons t p=>
     right
     obtain⟨g1,v1,g2,g3⟩:=q2 i q' t p h1 (h2.trans hL)
     refine⟨t,p,rfl,g1, ?_⟩
     have hlt':i<lv.length:=by rw [ho.1];exact(EO.1 h1).1
     have hgd:lv.getD i undef=lv[i]:=by simp [KG,hlt']
     obtain⟨hob,⟨h4,_⟩|⟨t',p',h4,h5,h6⟩⟩:=ho.2 i q' _ h1 (GM hlt')
     ·rw [h2,hL]at h4;cases h4
     ·rw [h2,hL]at h6;simp only [hgd,←h6,Dm]
      exact(q1.val t).follow_frame (fun k hk=>hheap1 t k hk) _ g1)
   (fun i q hi=>by
    obtain⟨q',h1,h2,h3⟩:=hzg i q hi
    exact(hWo i q.2 h3).up) hd1 hFLn
  have hbk:Jv s (ls.map (·.1)) outs=back true (back false s (ls.map fun q=>(q.1,.undef))) ((ls.map (·.1)).zip outs):=by
   unfold Jv;rw [List.map_map];rfl
  have hkeep:Keeps s w (Ar a gh) (Jv s (ls.map (·.1)) outs) w' (Ar a gh):=Zj h.rel ho hol (fun t ht k hk=>by
   refine hst.heap k ((h.rel.val t).lt k hk) (fun j hj=> ?_);obtain⟨q,t',p,h1,h2,h3⟩:=q7 j k hj;rcases ht q (Ve h1)with h4|h4
   ·rw [h4]at h2;cases h2
   ·rw [h2]at h4
    exact h.rel.disj t t' k (fun e=>h4 (by simpa using e.symm)) hk h3)
  have hFs2: ∀u k,Fs2 u k→(∃u,Fs u k)∨w.heap.size≤k:=fun u k hu=>by
   rcases f2 u k hu with h1|⟨j,h1⟩
   ·exact .inl ⟨u,q6 u k h1⟩
   ·rcases hst.sF j k h1 with⟨i,hi⟩|hge
    ·obtain⟨q,t',p,_,_,h3⟩:=q7 i k hi;exact .inl ⟨t',h3⟩
    ·exact .inr hge
  have hrel:Rel E.T (Jv s (ls.map (·.1)) outs) (Ar a gh) w' S' Fs2:=by
   refine⟨fun t=> ?_,f1.disj,hlt⟩
   have:=f1.val t
   rw [←hbk]at this;exact W.mono (fun k hk=>⟨hk,rfl⟩) this _ _ hkeep.VR hkeep.VpR (fun k hk=>⟨this.notS k hk,rfl⟩)
  refine Bu hrel hW.up (fun t k _ hf hu=> ?_) ⟨hst.os,hst.tape,hst.output,hst.size,fun k hk hn=>hst.heap k hk (fun j hj=> ?_),hst.sS,fun k hs=> ?_,hFs2⟩ (fun k hf=> ?_) h.defs h.size h.small hd
  ·rcases f2 t k hu with h1|⟨j,h1⟩
   ·rcases hF k hf with⟨j,hj⟩|hge
    ·exact q5 j t k hj h1
    ·have:=hFs1lt t k h1;omega
   ·exact hd2 j k hf h1
  ·obtain⟨q,t',p,_,_,h3⟩:=q7 j k hj;exact hn t' h3
  ·rcases hst.sS' k hs with h1|⟨j,h1⟩|h1
   ·exact .inl h1
   ·obtain⟨q,t',p,_,_,h3⟩:=q7 j k h1;exact .inr (.inl ⟨t',h3⟩)
   ·exact .inr (.inr h1)
  ·rcases hF k hf with⟨j,hj⟩|hge
   ·obtain⟨q,t',p,_,_,h3⟩:=q7 j k hj;exact .inl ⟨t',h3⟩
   ·exact .inr hge
 |panicked=>exact he.elim
 |outgrown=>exact he.elim
theorem dL(h:Fr E.T N gh s a w S Fs){xs:List (ac×ab)}(hxs: ∀q∈xs,BC N q.1){as caps:List D}{ls:List (AJ×D)}(ha:De E true pm s 0 xs=some (as,ls))
  {args vcaps:Array Value}(hsz:args.size=xs.length)(hargs: ∀(i:Nat) (q:ac×ab),xs[i]? =some q→args[i]? =some (a.eval q.1))
  (hc:vcaps.size=caps.length)(hcaps: ∀(i:Nat) (d:D),caps[i]? =some d→ ∃v,vcaps[i]? =some v∧W E.T S w V0 IK d v (fun _=>False))
  {f:am}{r:D}{outs:List D}(hg:Good P E.T f (as++caps) (ls.map (·.2)) r outs)(hap:Ei (ls.map (·.1))=true)(hok:ls.all (fun l=>bA l.2)=true)(hol:outs.length=ls.length){dst:Option Tmp}(hd:DD N dst):
  Calls P f (args++vcaps) w fun| .returned v,w'=>CJ E.T gh N ((Jv s (ls.map (·.1)) outs).putO dst r) w S Fs (a.put dst v) w'|_,_=>False:=by
 obtain⟨lv,ho,hlen,hgi⟩:=LP h.rel h.small xs 0 hxs ha;have hA:=hgi (fun j=>lv.getD j undef) S (fun _ h=>h) (fun _ i v hv=>by rw [JR,KG,hv];rfl) (fun hl=>by cases hl)
 obtain⟨e1,e2⟩:=OT hlen hsz hargs hA hc (Xr (fun _ h=>h) hcaps);exact Wz h ho e1 e2 hg hap hok hol hd
theorem jo(h:Fr E.T N gh s a w S Fs){xs:List (ac×ab)}(hxs: ∀q∈xs,BC N q.1){as caps cs:List D}{ls lc:List (AJ×D)}(ha:De E true pm s 0 xs=some (as,ls))(hoc:Je pm s ls.length caps=some (cs,lc))
  {args vcaps:Array Value}(hsz:args.size=xs.length)(hargs: ∀(i:Nat) (q:ac×ab),xs[i]? =some q→args[i]? =some (a.eval q.1)){f:am}{us:Nat→Value}
  (hc:vcaps.size=caps.length)(hcx: ∀(i:Nat) (d:D),caps[i]? =some d→vcaps[i]? =some (us i))(hcw: ∀(i:Nat) (d:D),caps[i]? =some d→WR E.T s (Ar a gh) w S d (us i) (fun _=>False))
  (hself: ∀i,caps[i]? =some D.undef→ ∃ad,us i= .pointer (some ad)∧S ad.block∧w.cell? (ad.add 0)=some (.func (.func f) #[] vcaps))
  {r:D}{outs:List D}(hg:Good P E.T f (as++cs.map (OJ f cs)) ((ls++lc).map (·.2)) r outs)(hap:Ei ((ls++lc).map (·.1))=true)(hok:(ls++lc).all (fun l=>bA l.2)=true)(hol:outs.length=(ls++lc).length){dst:Option Tmp}(hd:DD N dst):
  Calls P f (args++vcaps) w fun| .returned v,w'=>CJ E.T gh N ((Jv s ((ls++lc).map (·.1)) outs).putO dst r) w S Fs (a.put dst v) w'|_,_=>False:=by
 obtain⟨lv1,ho1,hlen,hgi⟩:=LP h.rel h.small xs 0 hxs ha;obtain⟨lv2,ho2,hlc,hun,hgo⟩:=Xp caps ls.length us hcw hoc;have ho:=ho1.append ho2;have hgd: ∀(i:Nat) (v:Value),(lv1++lv2)[i]? =some v→(lv1++lv2).getD i undef=v:=fun i v hv=>by rw [KG,hv];rfl
 have hA:=FY.left (l2:=lc) (v2:=lv2) ho1 hgi (fun j=>(lv1++lv2).getD j undef) S (fun _ h=>h) (fun _ i v hv=>by rw [JR];exact hgd i v hv) (fun hl=>by cases hl)
 have hO:=FY.right (l1:=ls) (v1:=lv1) (j:=0) ho1 (by rw [JR];exact hgo) (fun j=>(lv1++lv2).getD j undef) S (fun _ h=>h) (fun _ i v hv=>by rw [JR];exact hgd i v hv) (fun hl=>by cases hl)
 have hvi: ∀(i:Nat) (d:D),cs[i]? =some d→vcaps[i]? =some (us i):=fun i d hi=>by
  have hlt:=(EO.1 hi).1;exact hcx i _ (GM (by rw [←hlc];exact hlt))
 obtain⟨e1,e2⟩:=OT hlen hsz hargs hA (caps:=cs.map (OJ f cs)) (vcaps:=vcaps) (by rw [hc,P6,hlc]) (fun i d hi=>by
  rw [MS]at hi;obtain⟨x,hx,rfl⟩:=Cj.1 hi
  refine⟨us i,hvi i x hx, ?_⟩
  by_cases hu:x=D.undef
  ·subst hu;obtain⟨ad,s1,s2,s3⟩:=hself i (hun i hx);rw [s1];exact .ocl us (fun _ h=>h) (by rw [hc,hlc]) hvi hO (fun k hk=>hself k (hun k hk)) (.inr ⟨rfl,ad,rfl,s2,s3⟩)
  ·have:OJ f cs x=x:=by unfold OJ;split<;>first|exact absurd rfl hu|rfl
   rw [this]
   exact hO i x hx)
 exact Wz h ho e1 e2 hg hap hok hol hd
theorem mV(hK:Pv P E):lh P E:=by
 intro pm s s' gh a w S Fs N Q o c f caps vcaps ts h hok hop hsz hcd hvc hcaps hrun;obtain⟨hd,hx⟩:=hok
 have hxs: ∀q∈c.args.toList.zip ts,BC N q.1:=fun q hq=>hx q.1 (by
  have:=(XN hq).1
  rw [hop];simp only [Op.operands,Call.operands];simp;right;simpa using this)
 obtain⟨z1,z2⟩:=Zh (a:=a) hsz
 have key: ∀ {args lent:List D} {r:D} {outs:List D},Good P E.T f args lent r outs→(Calls P f (c.args.map a.eval++vcaps) w fun| .returned v,w'=>CJ E.T gh N s' w S Fs (a.put o.dst v) w'|_,_=>False)→o.wp P a w (CJ E.T gh N s' w S Fs) Q:=by
  intro args lent r outs hg hcalls;obtain⟨⟨fn,hf,hb,hn⟩,_⟩:=hg;unfold Oper.wp;rw [hrun,Pw hf hb hn,Oper.upon_enter];refine Calls.mono hcalls ?_;intro e w' he
  cases e with
  |returned v=>exact he
  |panicked=>exact he.elim
  |outgrown=>exact he.elim
 unfold G6 at hcd
 split at hcd
 ·split at hcd
  ·cases hcd
  ·rename_i as ls ha
   split at hcd
   ·rename_i hcond
    simp only [FV]at hcond
    split at hcd
    ·rename_i r outs hcall
     split at hcd
     ·rename_i hol
      simp only [al]at hcd;subst hcd;exact key (hK _ _ _ _ _ hcall) (dL h hxs ha z1 z2 hvc hcaps (hK _ _ _ _ _ hcall) hcond.1.1 hcond.2 hol hd)
     ·cases hcd
    ·cases hcd
   ·cases hcd
 ·split at hcd
  ·cases hcd
  ·rename_i as ls ha
   split at hcd
   ·rename_i r outs hcall
    split at hcd
    ·split at hcd
     ·rename_i hcond
      simp only [FV]at hcond;simp only [Cj]at hcd;obtain⟨ls',hfz,rfl⟩:=hcd;exact key (hK _ _ _ _ _ hcall) (Zi h hxs ha z1 z2 hvc hcaps (hK _ _ _ _ _ hcall) hcond.1 hfz hd)
     ·cases hcd
    ·rename_i hno
     simp only [al]at hcd;subst hcd;exact key (hK _ _ _ _ _ hcall) (Xt h hxs ha z1 z2 hvc hcaps (hK _ _ _ _ _ hcall) (by simpa using hno) hd)
   ·cases hcd
theorem mW(hK:Pv P E):ll P E:=by
 intro pm s s' gh a w S Fs N Q o c f caps vcaps us h hok hop hsz hcd hvc hcx hcw hself hrun;obtain⟨hd,hx⟩:=hok
 have hxs: ∀q∈c.args.toList.zip c.argTypes.toList,BC N q.1:=fun q hq=>hx q.1 (by
  have:=(XN hq).1
  rw [hop];simp only [Op.operands,Call.operands];simp;right;simpa using this)
 obtain⟨z1,z2⟩:=Zh (a:=a) (ts:=c.argTypes.toList) (by simpa using hsz)
 unfold NG at hcd
 split at hcd
 ·cases hcd
 ·rename_i as ls ha
  split at hcd
  ·cases hcd
  ·rename_i cs lc hoc
   split at hcd
   ·rename_i hcond
    simp only [FV]at hcond
    split at hcd
    ·rename_i r outs hcall
     split at hcd
     ·rename_i hol
      simp only [al]at hcd;subst hcd;have hg:=hK _ _ _ _ _ hcall;have hcalls:=jo h hxs ha hoc z1 z2 hvc hcx hcw hself hg hcond.1.1 hcond.2 hol hd;obtain⟨⟨fn,hf,hb,hn⟩,_⟩:=hg;unfold Oper.wp;rw [hrun,Pw hf hb hn,Oper.upon_enter];refine Calls.mono hcalls ?_;intro e w' he
      cases e with
      |returned v=>exact he
      |panicked=>exact he.elim
      |outgrown=>exact he.elim
     ·cases hcd
    ·cases hcd
   ·cases hcd
theorem gK(hK:Pv P E):Jq P E:=⟨mV hK,mW hK⟩
end
end Dv
namespace Dv
open Go
def Zk(a:Act):ResultVar→Sem Value
 | .tmp t=>pure (a.tmps.getD t undef)
 | .cell x t=>do loadVar t (←asAddr (a.tmps.getD x undef))
def X0(N:Nat):ResultVar→Bool
 | .tmp t=>decide (t<N)
 | .cell t _=>decide (t<N)
section
variable {P:Program} {T:Tys} {s s':St} {gh:Nat→Value} {a:Act} {w w':World} {S:Nat→Prop} {Fs:Nat→Nat→Prop} {N:Nat}
theorem dM(hG:N≤G){t:Nat}(ht:t<N):a.tmps.getD t undef=Ar a gh t:=by
 have:t<G:=by omega
 simp [Ar,this]
theorem Q3(h:Bg P T){t:ab}(hk:T.known t=true)(hs:T.isStruct t=false){w:World}{A:Addr}{u:Value}(hc:w.cell? A=some u):(loadVar t A).run P w= .ok u w:=by
 simp [loadVar,h.isAgg hk,hs,hc]
theorem Q4(h:Bg P T){t:ab}(hk:T.known t=true)(hs:T.isStruct t=true){w:World}{A:Addr}(f:Nat→Value)(hc: ∀j,j<T.size t→w.cell? (A.add j)=some (f j)):
  (loadVar t A).run P w= .ok (.agg ((an (T.size t)).map f).toArray) w:=by
 simp [loadVar,h.isAgg hk,hs,h.szOf hk,run_loadCells w A (T.size t) f hc]
theorem U7(hT:Bg P T)(h:Rel T s (Ar a gh) w S Fs)(hG:N≤G){r:ResultVar}(hr:X0 N r=true){d:D}(hd:TR T s r=some (d,s')):
  ∃v,(Zk a r).run P w= .ok v w∧ ∃S' Fs' F,Rel T s' (Ar a gh) w S' Fs'∧Hand T s' (Ar a gh) w S' Fs' d v F∧Keeps s w (Ar a gh) s' w (Ar a gh)∧Sub S Fs S' Fs' F:=by
 cases r with
 |tmp t=>
  simp only [X0,decide_eq_true_eq]at hr;have ht:take T Pm.all s 0 (.tmp t)=some (d,s'):=by simpa [take,ev,TR] using hd
  obtain⟨S',Fs',F,h1,h2,h3,h4,h5,h6⟩:=GA h hG (x:= .tmp t) hr ht;rw [Dn (gh:=gh) hG hr]at h2
  refine⟨Ar a gh t,by simp only [Zk,Sem.run_pure];rw [dM (gh:=gh) hG hr],S',Fs',F,h1,h2,h3,h4.sS,fun k hk=> ?_,h6,h5⟩
  rcases h4.sS' k hk with h|h|h
  ·exact .inl h
  ·exact .inr h
  ·have:=h1.lt k hk;omega
 |cell t ty=>
  simp only [X0,decide_eq_true_eq]at hr;simp only [TR]at hd
  split at hd
  ·rename_i hk
   have hW:=h.val t
   split at hd
   ·rename_i xs hv
    rw [hv]at hW;have hrv:=dM (a:=a) (gh:=gh) hG hr;generalize hgen:Ar a gh t=v0 at hW
    cases hW with
    |box us Fi hb hz hx hF hFb hdj hS hw=>
     rename_i ty0 b cs
     have hcell: ∀i x,xs[i]? =some x→w.cell? (Addr.add ⟨b,0,none⟩ i)=some (us i):=fun i x hi=>by rw [MZ hb];exact hx i x hi
     have hkc:=Keeps.clr s w (Ar a gh) t;have hcl:=h.clr t
     have hnF: ∀i u k,i<xs.length→Fi i k→ ¬LG Fs t (fun _=>False) u k:=fun i u k hi hf hu=>by
      by_cases hut:u=t
      ·subst hut;simp [Ao]at hu
      ·rw [Ad _ _ hut]at hu;exact h.disj u t k hut hu ((hF k).2 (.inr ⟨i,hi,hf⟩))
     have hsub: ∀u k,LG Fs t (fun _=>False) u k→Fs u k:=fun u k hu=>by
      by_cases hut:u=t
      ·subst hut;simp [Ao]at hu
      ·rwa [Ad _ _ hut]at hu
     split at hd
     ·rename_i hst
      split at hd
      ·rename_i hlen
       simp only [Cj,Prod.mk.injEq]at hd;obtain⟨⟨ys,s1⟩,hts,rfl,rfl⟩:=hd;obtain⟨S',Fs',Gi,r1,r2,r3,r4,r5,r6,r7,r8,r9,r10⟩:=Md xs hts hcl us Fi (fun i x hi=>WR.same (hw i x hi) hkc) hnF hdj
       refine⟨.agg ((an (T.size ty)).map us).toArray, ?_,S',Fs',fun k=> ∃i,i<ys.length∧Gi i k,r1,⟨?_,fun u k ⟨i,hi,hk⟩=>r4 i u k hi hk⟩,hkc.trans r6,r7,fun k hs=> ?_,fun u k hu=>hsub u k (r9 u k hu),fun k ⟨i,hi,hk⟩=> ?_⟩
       ·simp only [Zk,hrv,hgen,asAddr,Sem.run_bind,Sem.run_pure];exact Q4 hT hk hst us (fun j hj=>hcell j _ (GM (by omega)))
       ·refine .agg us Gi (by simp [r2,hlen]) (fun i x hi=> ?_) (fun _=>Iff.rfl) r5 r3
        have:=(EO.1 hi).1
        simp only at this r2;have hi':i<T.size ty:=by omega
        simp [hi']
       ·rcases r8 k hs with h|⟨u,hu⟩|⟨i,hi,hf⟩
        ·exact .inl h
        ·exact .inr ⟨u,hsub u k hu⟩
        ·exact .inr ⟨t,(hF k).2 (.inr ⟨i,hi,hf⟩)⟩
       ·rcases r10 i k hi hk with hf|⟨u,hu⟩
        ·exact⟨t,(hF k).2 (.inr ⟨i,by omega,hf⟩)⟩
        ·exact⟨u,hsub u k hu⟩
      ·cases hd
     ·rename_i hst
      split at hd
      ·rename_i d0
       obtain⟨S',Fs',F',r1,r2,r3,r4⟩:=Hy d0 hd hcl ⟨WR.same (hw 0 d0 rfl) hkc,fun u k hf=>hnF 0 u k (by simp) hf⟩
       refine⟨us 0, ?_,S',Fs',F',r1,r2,hkc.trans r3,r4.sS,fun k hs=> ?_,fun u k hu=>hsub u k (r4.sF u k hu),fun k hk=> ?_⟩
       ·simp only [Zk,hrv,hgen,asAddr,Sem.run_bind,Sem.run_pure];have h0:=hcell 0 d0 rfl;rw [add_zero]at h0;exact Q3 hT hk (by simpa using hst) h0
       ·rcases r4.sS' k hs with h|⟨u,hu⟩|hf
        ·exact .inl h
        ·exact .inr ⟨u,hsub u k hu⟩
        ·exact .inr ⟨t,(hF k).2 (.inr ⟨0,by simp,hf⟩)⟩
       ·rcases r4.sH k hk with hf|⟨u,hu⟩
        ·exact⟨t,(hF k).2 (.inr ⟨0,by simp,hf⟩)⟩
        ·exact⟨u,hsub u k hu⟩
      ·cases hd
   ·rename_i xs hv
    rw [hv]at hW;have hrv:=dM (a:=a) (gh:=gh) hG hr;generalize hgen:Ar a gh t=v0 at hW
    cases hW with
    |cptr us hE hx hw=>
     rename_i ad
     split at hd
     ·rename_i hst
      split at hd
      ·rename_i hlen
       simp only [al,Prod.mk.injEq]at hd;obtain⟨rfl,rfl⟩:=hd
       refine⟨.agg ((an (T.size ty)).map us).toArray, ?_,S,Fs,fun _=>False,h,⟨?_,fun _ _ h=>h.elim⟩,Keeps.refl _ _ _,fun _ h=>h,fun _ h=> .inl h,fun _ _ h=>h,fun _ h=>h.elim⟩
       ·simp only [Zk,hrv,hgen,asAddr,Sem.run_bind,Sem.run_pure];exact Q4 hT hk hst us (fun j hj=>(hx j _ (GM (by omega))).2)
       ·refine .agg us (fun _ _=>False) (by simp [hlen]) (fun i x hi=> ?_) (fun k=>⟨fun h=>h.elim,fun⟨_,_,h⟩=>h⟩) (fun _ _ _ _ _ _ h=>h.elim) (fun i x hi=>(hw i x hi).up)
        have:=(EO.1 hi).1
        have hi':i<T.size ty:=by omega
        simp [hi']
      ·cases hd
     ·rename_i hst
      split at hd
      ·rename_i d0
       simp only [al,Prod.mk.injEq]at hd;obtain⟨rfl,rfl⟩:=hd
       refine⟨us 0, ?_,S,Fs,fun _=>False,h,⟨(hw 0 d0 rfl).up,fun _ _ h=>h.elim⟩,Keeps.refl _ _ _,fun _ h=>h,fun _ h=> .inl h,fun _ _ h=>h,fun _ h=>h.elim⟩
       simp only [Zk,hrv,hgen,asAddr,Sem.run_bind,Sem.run_pure];have h0:=(hx 0 d0 rfl).2;rw [add_zero]at h0;exact Q3 hT hk (by simpa using hst) h0
      ·cases hd
   ·cases hd
  ·cases hd
theorem Zl(hT:Bg P T)(hG:N≤G): ∀(rs:List ResultVar) {s s':St} {S:Nat→Prop} {Fs:Nat→Nat→Prop} {ds:List D},Rel T s (Ar a gh) w S Fs→rs.all (X0 N)=true→Lx T s rs=some (ds,s')→
  ∃vs:List Value,(rs.mapM (Zk a)).run P w= .ok vs w∧vs.length=rs.length∧ds.length=rs.length∧ ∃(S':Nat→Prop) (Fs' Gi:Nat→Nat→Prop),Rel T s' (Ar a gh) w S' Fs'∧
   (∀(i:Nat) (d:D),ds[i]? =some d→ ∃v,vs[i]? =some v∧WR T s' (Ar a gh) w S' d v (Gi i))∧(∀i t k,i<ds.length→Gi i k→ ¬Fs' t k)∧(∀i j k,i<ds.length→j<ds.length→i≠j→Gi i k→ ¬Gi j k)∧
   Keeps s w (Ar a gh) s' w (Ar a gh)∧(∀k,S k→S' k)∧(∀k,S' k→S k∨ ∃u,Fs u k)∧(∀u k,Fs' u k→Fs u k)∧(∀i k,i<ds.length→Gi i k→ ∃u,Fs u k):=by
 intro rs
 induction rs with
 |nil=>
  intro s s' S Fs ds h _ hd;simp only [Lx,al,Prod.mk.injEq]at hd;obtain⟨rfl,rfl⟩:=hd
  exact⟨[],by simp,rfl,rfl,S,Fs,fun _ _=>False,h,by simp,by simp,by simp,Keeps.refl _ _ _,fun _ h=>h,fun _ h=> .inl h,fun _ _ h=>h,by simp⟩
 |cons r rs ih=>
  intro s s' S Fs ds h hok hd;simp only [Qc,FV]at hok;simp only [Lx,Hl,Cj,Prod.mk.injEq]at hd;obtain⟨⟨d,s1⟩,hd1,⟨ds',s2⟩,hds,rfl,rfl⟩:=hd;obtain⟨v,hv,S1,Fs1,F,r1,r2,r3,r4⟩:=U7 (P:=P) hT h hG hok.1 hd1;obtain⟨vs,hvs,hl1,hl2,S2,Fs2,Gi,q1,q2,q3,q4,q5,q6,q7,q8,q9⟩:=ih r1 hok.2 hds
  have hFS2: ∀k,F k→ ¬S2 k:=fun k hf hs=>by
   rcases q7 k hs with h|⟨u,hu⟩
   ·exact r2.val.notS k hf h
   ·exact r2.apart u k hf hu
  refine⟨v::vs,by simp [List.mapM_cons,hv,hvs],by simp [hl1],by simp [hl2],S2,Fs2,fun i=>match i with|0=>F|i+1=>Gi i,q1,fun i x hi=> ?_,fun i t k hi=> ?_,fun i j k hi hj hij=> ?_,r3.trans q5,fun k hk=>q6 k (r4.sS k hk),fun k hk=> ?_,fun u k hu=>r4.sF u k (q8 u k hu),fun i k hi=> ?_⟩
  ·cases i with
   |zero=>
    simp only [Oc,al]at hi;subst hi
    exact⟨v,rfl,WR.keep r2.val q5 (fun k hk=>⟨q6 k hk,rfl⟩) (fun k hf=>⟨hFS2 k hf,rfl⟩)⟩
   |succ i=>exact q2 i x (by simpa using hi)
  ·cases i with
   |zero=>exact fun hf hu=>r2.apart t k hf (q8 t k hu)
   |succ i=>exact q3 i t k (by simpa using hi)
  ·cases i with
   |zero=>cases j with
    |zero=>exact(hij rfl).elim
    |succ j=>
     intro hf hg;obtain⟨u,hu⟩:=q9 j k (by simpa using hj) hg
     exact r2.apart u k hf hu
   |succ i=>cases j with
    |zero=>
     intro hg hf;obtain⟨u,hu⟩:=q9 i k (by simpa using hi) hg
     exact r2.apart u k hf hu
    |succ j=>exact q4 i j k (by simpa using hi) (by simpa using hj) (by omega)
  ·rcases q7 k hk with h|⟨u,hu⟩
   ·exact r4.sS' k h
   ·exact .inr ⟨u,r4.sF u k hu⟩
  ·cases i with
   |zero=>exact r4.sH k
   |succ i=>
    intro hg;obtain⟨u,hu⟩:=q9 i k (by simpa using hi) hg
    exact⟨u,r4.sF u k hu⟩
theorem U8(fn:Func):results fn a.tmps=(do let vs←fn.results.mapM (Zk a);pure (if h:vs.size=1 then vs[0]else .tuple vs)):=by
 unfold results
 congr 1
theorem Vt(hT:Bg P T)(h:Rel T s (Ar a gh) w S Fs)(hG:N≤G){fn:Func}(hok:fn.results.toList.all (X0 N)=true){d:D}(hd:MX T s fn.results.toList=some (d,s')):
  ∃v,(results fn a.tmps).run P w= .ok v w∧ ∃S' Fs' F,Rel T s' (Ar a gh) w S' Fs'∧Hand T s' (Ar a gh) w S' Fs' d v F∧Keeps s w (Ar a gh) s' w (Ar a gh)∧Sub S Fs S' Fs' F:=by
 unfold MX at hd
 split at hd
 ·rename_i r hrs
  rw [hrs]at hok;simp only [Qc,List.all_nil,Vg]at hok;obtain⟨v,hv,rest⟩:=U7 (P:=P) hT h hG hok hd
  refine⟨v, ?_,rest⟩
  have:fn.results= #[r]:=by rw [←PX (xs:=fn.results),hrs]
  rw [U8,this];simp [hv]
 ·rename_i hne
  simp only [Cj,Prod.mk.injEq]at hd;obtain⟨⟨ds,s1⟩,hds,rfl,rfl⟩:=hd;obtain⟨vs,hvs,hl1,hl2,S2,Fs2,Gi,q1,q2,q3,q4,q5,q6,q7,q8,q9⟩:=Zl (P:=P) hT hG _ h hok hds
  refine⟨.tuple vs.toArray, ?_,S2,Fs2,fun k=> ∃i,i<ds.length∧Gi i k,q1,⟨?_,fun u k ⟨i,hi,hk⟩=>q3 i u k hi hk⟩,q5,q6,q7,q8,fun k ⟨i,hi,hk⟩=>q9 i k hi hk⟩
  ·rw [U8,Array.mapM_eq_mapM_toList]
   have hl:vs.length≠1:=fun e=>by
    rw [hl1]at e;obtain⟨r,hr⟩:=List.length_eq_one_iff.1 e;exact hne r hr
   simp [hvs,hl]
  ·have hval: ∀(i:Nat) (d:D),ds[i]? =some d→vs[i]? =some (vs.getD i undef)∧WR T s1 (Ar a gh) w S2 d (vs.getD i undef) (Gi i):=fun i d hi=>by
    obtain⟨v,hv,hW⟩:=q2 i d hi;rw [KG,hv];exact⟨rfl,hW⟩
   exact .tup (fun i=>vs.getD i undef) Gi (by simp [hl1,hl2]) (fun i x hi=>by simpa using (hval i x hi).1) (fun _=>Iff.rfl) q4 (fun i x hi=>(hval i x hi).2)
end
def Bn(fn:Func)(n:Nat):Bool:=
 (match fn.body with|some c=>Hd fn.ntmps c|none=>false)&&fn.results.toList.all (X0 fn.ntmps)&&decide (fn.ntmps≤G)&&decide (n≤fn.ntmps)&& !(fn.name== "runtime.NumGoroutine")
theorem A17{T:Tys}{S:Nat→Prop}{w:World}{V:AJ→Nat→Nat→Value→Prop}{Vp:AJ→Nat→Nat→Nat→Value→Prop}{d:D}{v:Value}{F:Nat→Prop}(h:W T S w V Vp d v F)(ho:l7 d=true):W T S w V0 IK d v F:=by
 unfold l7 at ho
 split at ho
 ·cases h with|undef h=>exact .undef h
 ·exact Xn _ h ho
theorem jq{P:Program}{E:Env}(hT:Bg P E.T)(hm:P.follows .mixedOrders=true)(hK:Pv P E){f:am}{fn:Func}(hf:P.funcs[f]? =some fn){args lent:List D}{r:D}{outs:List D}
  (hok:Bn fn args.length=true)(hr:Z8 E fn args lent=some (r,outs)):Good P E.T f args lent r outs:=by
 simp only [Bn,FV,decide_eq_true_eq,Lh]at hok;obtain⟨⟨⟨⟨hcode,hres⟩,hG⟩,hargs⟩,hname⟩:=hok;unfold Z8 at hr
 cases hb:fn.body with
 |none=>simp [hb]at hr
 |some c=>
  rw [hb]at hcode hr;simp only at hcode hr
  refine⟨⟨fn,hf,by simp [hb],hname⟩,fun vs gh w S FL hsz hA hL hL0 hLd hlt=> ?_⟩
  refine calls_of_wp hf hb ?_
  have hent:Fr E.T fn.ntmps gh (entry args lent) {tmps:=vs++Array.replicate (fn.ntmps-vs.size) undef,defers:=[]} w S (fun t=>if t<G then fun _=>False else FL (t-G)):=by
   refine⟨⟨fun t=> ?_,fun t u k htu=> ?_,hlt⟩,rfl,by simp;omega,hG⟩
   ·by_cases htG:t<G
    ·simp only [entry,htG,if_true,Ar]
     cases ha:args[t]? with
     |none=>rw [KG,ha];exact .undef fun _ h=>h
     |some d=>
      obtain⟨v,hv,hW⟩:=hA t d ha
      have hvt:(vs++Array.replicate (fn.ntmps-vs.size) undef).getD t undef=v:=by
       rw [MR,Array.getElem?_append_left (by rw [hsz];exact(EO.1 ha).1),hv];rfl
      rw [KG,ha];simp only [Yy];rw [hvt];refine W.mono (fun k hk=>⟨hk,rfl⟩) hW _ _ ?_ (fun _ _ _ _ _ h=>h.elim) (fun _ h=>h.elim);rintro L n m u ⟨j,rfl,rfl,rfl,rfl⟩
      refine⟨⟨Nat.zero_le _,Nat.zero_le _⟩,fun _=> ?_⟩
      have: ¬G+j<G:=by omega
      simp [Dm,Ak,Ar,this]
    ·simp only [entry,htG,if_false,Ar]
     cases hl:lent[t-G]? with
     |none=>rw [KG,hl];exact .undef (hL0 _ (by simpa using hl))
     |some d=>rw [KG,hl];exact(hL _ d hl).up
   ·by_cases h1:t<G
    ·simp [h1]
    ·by_cases h2:u<G
     ·simp [h1,h2]
     ·simp only [h1,h2,if_false];exact hLd _ _ k (by omega)
  have hfin: ∀(s1:St) (a1:Act) (w1:World),XU E.T lent.length fn.results.toList s1=some (r,outs)→CJ E.T gh fn.ntmps s1 w S (fun t=>if t<G then fun _=>False else FL (t-G)) a1 w1→
    a1.defers=[]∧ ∃v,(results fn a1.tmps).run P w1= .ok v w1∧Pt E.T gh r outs w S FL v w1:=by
   intro s1 a1 w1 hfd hp;obtain⟨S1,Fs1,hrel,hst,hdef,hsz1⟩:=hp
   refine⟨hdef, ?_⟩
   unfold XU at hfd
   split at hfd
   ·cases hfd
   ·rename_i r0 s2 hres2
    split at hfd
    ·rename_i hoks
     simp only [FV]at hoks;simp only [al,Prod.mk.injEq]at hfd;obtain⟨rfl,rfl⟩:=hfd;obtain⟨v,hv,S2,Fs2,F,p1,p2,p3,p4⟩:=Vt (P:=P) hT hrel hG hres hres2
     have hFs: ∀u k,Fs1 u k→(∃j,FL j k)∨w.heap.size≤k:=fun u k hu=>by
      rcases hst.sF u k hu with⟨u',h⟩|h
      ·by_cases hu':u'<G
       ·simp [hu']at h
       ·simp only [hu',if_false]at h;exact .inl ⟨_,h⟩
      ·exact .inr h
     refine⟨v,hv,S2,F,fun j=>Fs2 (G+j),Xn _ p2.val (by simpa [bA] using hoks.1),fun j d hj=> ?_,fun i j k hij=>p1.disj _ _ k (by omega),fun j k hf=>p2.apart _ k hf,⟨hst.os,hst.tape,hst.output,hst.size,fun k hk hn=>hst.heap k hk (fun u hu=> ?_),fun k hk=>p4.sS k (hst.sS k hk),fun k hk=> ?_,fun j k hj=>hFs _ k (p4.sF _ k hj)⟩,fun k hk=> ?_,p1.lt⟩
     ·rw [MS]at hj;obtain⟨j',hj',rfl⟩:=Cj.1 hj;have hj2:=EO.1 hj';obtain⟨hlt',hjj⟩:=hj2;simp only [XJ]at hjj;subst hjj;have hall:=JC.1 hoks.2 (s2.v (G+j)) (Jd.2 ⟨j,P7.2 (by simpa using hlt'),rfl⟩)
      have hW:=p1.val (G+j)
      have hrv:Ar a1 gh (G+j)=gh j:=by
       have: ¬G+j<G:=by omega
       simp [Ar,this]
      rw [hrv]at hW;exact A17 hW hall
     ·by_cases hu':u<G
      ·simp [hu']at hu
      ·simp only [hu',if_false]at hu;exact hn _ hu
     ·rcases p4.sS' k hk with h|⟨u,hu⟩
      ·rcases hst.sS' k h with h|⟨u,hu⟩|h
       ·exact .inl h
       ·by_cases hu':u<G
        ·simp [hu']at hu
        ·simp only [hu',if_false]at hu;exact .inr (.inl ⟨_,hu⟩)
       ·exact .inr (.inr h)
      ·exact .inr (hFs u k hu)
     ·obtain⟨u,hu⟩:=p4.sH k hk;exact hFs u k hu
    ·cases hfd
  cases hx:Du E c (entry args lent)with
  |none=>simp [hx]at hr
  |some q=>
   obtain⟨ex,s1⟩:=q;rw [hx]at hr;refine wp_mono (cO hT (gK hK) (rH hm hT (gK hK)) c hcode hent hx) ?_;rintro e a1 w1 ⟨rfl,hp⟩
   cases ex with
   |normal=>exact hfin s1 a1 w1 hr hp
   |ret=>exact hfin s1 a1 w1 hr hp
   |exit id=>simp at hr
end Dv
namespace Dv
open Go
abbrev Rc:=am→List D→List D→Option (D×List D)
def rO(c:Rc)(cn:Nat→Rc):Prop:= ∀f a l r,c f a l=some r→ ∃n,∀m,n≤m→cn m f a l=some r
section
variable {T:Tys} {lends:am→Bool} {c:Rc} {cn:Nat→Rc}
theorem Qr(lend:Bool)(pm:Pm)(s:St)(c c':Rc): ∀(xs:List (ac×ab)) (j:Nat),De ⟨T,lends,c⟩ lend pm s j xs=De ⟨T,lends,c'⟩ lend pm s j xs:=by
 intro xs
 induction xs with
 |nil=>intro j;rfl
 |cons q xs ih=>
  intro j;obtain⟨x,t⟩:=q;simp only [De]
  cases ev T s t x with
  |none=>rfl
  |some d=>
   simp only
   cases KV T lend pm s j (match x with| .tmp u=>[u]|_=>[]) d with
   |none=>rfl
   |some q=>simp only;rw [ih]
theorem Qs(h:rO c cn){pm:Pm}{s s':St}{dst:Option Tmp}{f:am}{xs:List (ac×ab)}{caps:List D}(hd:G6 ⟨T,lends,c⟩ pm s dst f xs caps=some s'):
  ∃n,∀m,n≤m→G6 ⟨T,lends,cn m⟩ pm s dst f xs caps=some s':=by
 unfold G6 at hd;simp only at hd;by_cases hl:lends f=true
 ·rw [if_pos hl]at hd
  cases ha:De ⟨T,lends,c⟩ true pm s 0 xs with
  |none=>simp [ha]at hd
  |some q=>
   obtain⟨as,ls⟩:=q;simp only [ha]at hd
   split at hd
   ·rename_i hcond
    cases hc:c f (as++caps) (ls.map (·.2))with
    |none=>simp [hc]at hd
    |some r=>
     obtain⟨n,hn⟩:=h _ _ _ _ hc
     refine⟨n,fun m hm=> ?_⟩
     unfold G6;simp only;rw [if_pos hl,Qr true pm s (cn m) c,ha];simp only;rw [if_pos hcond,hn m hm];rw [hc]at hd;exact hd
   ·cases hd
 ·rw [if_neg hl]at hd
  cases ha:De ⟨T,lends,c⟩ false pm s 0 xs with
  |none=>simp [ha]at hd
  |some q=>
   obtain⟨as,ls⟩:=q;simp only [ha]at hd
   cases hc:c f (as++caps) []with
   |none=>simp [hc]at hd
   |some r=>
    obtain⟨n,hn⟩:=h _ _ _ _ hc
    refine⟨n,fun m hm=> ?_⟩
    unfold G6;simp only;rw [if_neg hl,Qr false pm s (cn m) c,ha];simp only;rw [hn m hm];rw [hc]at hd;exact hd
theorem jr(h:rO c cn){pm:Pm}{s s':St}{dst:Option Tmp}{f:am}{xs:List (ac×ab)}{caps:List D}(hd:NG ⟨T,lends,c⟩ pm s dst f xs caps=some s'):
  ∃n,∀m,n≤m→NG ⟨T,lends,cn m⟩ pm s dst f xs caps=some s':=by
 unfold NG at hd;simp only at hd
 cases ha:De ⟨T,lends,c⟩ true pm s 0 xs with
 |none=>simp [ha]at hd
 |some q=>
  obtain⟨as,ls⟩:=q;simp only [ha]at hd
  cases ho:Je pm s ls.length caps with
  |none=>simp [ho]at hd
  |some p=>
   obtain⟨cs,lc⟩:=p;simp only [ho]at hd
   split at hd
   ·rename_i hcond
    cases hc:c f (as++cs.map (OJ f cs)) ((ls++lc).map (·.2))with
    |none=>simp only [hc]at hd;cases hd
    |some r=>
     obtain⟨n,hn⟩:=h _ _ _ _ hc
     refine⟨n,fun m hm=> ?_⟩
     unfold NG;simp only;rw [Qr true pm s (cn m) c,ha];simp only [ho];rw [if_pos hcond,hn m hm];rw [hc]at hd;exact hd
   ·cases hd
theorem rP(h:rO c cn){pm:Pm}{s s':St}{o:Oper}(hd:qd ⟨T,lends,c⟩ pm s o=some s'): ∃n,∀m,n≤m→qd ⟨T,lends,cn m⟩ pm s o=some s':=by
 unfold qd at hd ⊢
 cases hop:o.op<;>simp only [hop]at hd ⊢
 case call cl=>
  cases hcal:cl.callee<;>simp only [hcal]at hd ⊢
  case builtin b=>cases b<;>simp only at hd ⊢ <;>exact⟨0,fun _ _=>hd⟩
  case value fo=>
   cases fo<;>simp only at hd ⊢
   case func f=>
    split at hd
    ·rename_i hsz
     simp only [hsz,if_true]
     split at hd
     ·rename_i hty
      obtain⟨s1,h1,h2⟩:=Hl.1 hd;obtain⟨n,hn⟩:=Qs h h1
      refine⟨n,fun m hm=> ?_⟩
      rw [if_pos hty,hn m hm];exact h2
     ·rename_i hty
      simp only [if_neg hty];exact Qs h hd
    ·cases hd
   case tmp u=>
    cases hv:s.v u<;>simp only [hv]at hd ⊢
    case clo f caps=>
     split at hd
     ·rename_i hsz
      simp only [hsz,if_true];exact Qs h hd
     ·cases hd
    case ocl b f caps=>
     cases b
     ·simp only at hd ⊢
      split at hd
      ·rename_i hsz
       simp only [hsz,if_true];exact jr h hd
      ·cases hd
     ·cases hd
    all_goals (cases hd)
   all_goals (cases hd)
  all_goals (cases hd)
 case makeFunc fn first captured=>cases fn<;>exact⟨0,fun _ _=>hd⟩
 all_goals exact⟨0,fun _ _=>hd⟩
theorem X3(h:rO c cn){ops:Array Oper}{pm:Pm}{s s':St}{o:Oper}(hd:JF ⟨T,lends,c⟩ ops pm s o=some s'): ∃n,∀m,n≤m→JF ⟨T,lends,cn m⟩ ops pm s o=some s':=by
 unfold JF at hd ⊢
 split at hd
 ·exact rP h hd
 ·exact⟨0,fun _ _=>hd⟩
 ·cases hd
theorem mX(h:rO c cn){ops:Array Oper}: ∀(l:List Oper) {s s':St},Vk ⟨T,lends,c⟩ ops s l=some s'→ ∃n,∀m,n≤m→Vk ⟨T,lends,cn m⟩ ops s l=some s':=by
 intro l
 induction l with
 |nil=>intro s s' hd;exact⟨0,fun _ _=>hd⟩
 |cons o l ih=>
  intro s s' hd;simp only [Vk,Hl]at hd ⊢;obtain⟨s1,h1,h2⟩:=hd;obtain⟨n1,e1⟩:=X3 h h1;obtain⟨n2,e2⟩:=ih h2
  exact⟨max n1 n2,fun m hm=>⟨s1,e1 m (by omega),e2 m (by omega)⟩⟩
theorem jv(h:rO c cn){ops:Array Oper}{l0:List Oper}: ∀(l:List Oper) {s s':St},Om ⟨T,lends,c⟩ ops l0 s l=some s'→ ∃n,∀m,n≤m→Om ⟨T,lends,cn m⟩ ops l0 s l=some s':=by
 intro l
 induction l with
 |nil=>intro s s' hd;exact⟨0,fun _ _=>hd⟩
 |cons o l ih=>
  intro s s' hd;simp only [Om]at hd ⊢
  split at hd
  ·rename_i hmv
   simp only [hmv,if_true];simp only [Hl]at hd ⊢;obtain⟨s1,h1,h2⟩:=hd;obtain⟨n1,e1⟩:=X3 h h1;obtain⟨n2,e2⟩:=ih h2
   exact⟨max n1 n2,fun m hm=>⟨s1,e1 m (by omega),e2 m (by omega)⟩⟩
  ·cases hd
theorem U9{step:St→Option (Ex×St)}: ∀ {n m:Nat} {s:St} {r:Ex×St},n≤m→Hw step n s=some r→Hw step m s=some r:=by
 intro n
 induction n with
 |zero=>intro m s r _ h;simp [Hw]at h
 |succ n ih=>
  intro m s r hm h
  cases m with
  |zero=>omega
  |succ m=>
   simp only [Hw]at h ⊢
   cases hs:step s with
   |none=>simp [hs]at h
   |some q=>
    obtain⟨ex,s1⟩:=q
    cases ex with
    |normal=>simp only [hs]at h ⊢;exact ih (by omega) h
    |exit id=>simp only [hs]at h ⊢;exact h
    |ret=>simp only [hs]at h ⊢;exact h
theorem Q5{step:St→Option (Ex×St)}{n:Nat}{s:St}{r:Ex×St}(h:Hw step n s=some r):TQ step s=some r:=by
 unfold TQ;have hx: ∃r n,Hw step n s=some r:=⟨r,n,h⟩;rw [dif_pos hx];obtain⟨n',h'⟩:=hx.choose_spec;have h1:=U9 (Nat.le_max_left n n') h;have h2:=U9 (Nat.le_max_right n n') h';rw [h1]at h2;exact h2.symm
theorem Xu(step:St→Option (Ex×St))(s:St):TQ step s=match step s with|none=>none|some (.normal,s')=>TQ step s'|some r=>some r:=by
 cases hs:step s with
 |none=>
  simp only
  cases hi:TQ step s with
  |none=>rfl
  |some r=>
   obtain⟨n,hn⟩:=M7 hi
   cases n<;>simp [Hw,hs]at hn
 |some q=>
  obtain⟨ex,s1⟩:=q
  cases ex with
  |normal=>
   simp only
   cases hi:TQ step s with
   |some r=>
    obtain⟨n,hn⟩:=M7 hi
    cases n with
    |zero=>simp [Hw]at hn
    |succ n=>simp only [Hw,hs]at hn;exact(Q5 hn).symm
   |none=>
    cases hj:TQ step s1 with
    |none=>rfl
    |some r=>
     obtain⟨n,hn⟩:=M7 hj;have:Hw step (n+1) s=some r:=by simp only [Hw,hs];exact hn
     rw [Q5 this]at hi;cases hi
  |exit id=>simp only;exact Q5 (n:=1) (by simp [Hw,hs])
  |ret=>simp only;exact Q5 (n:=1) (by simp [Hw,hs])
theorem mY(h:rO c cn): ∀(k:Code) {s:St} {r:Ex×St},Du ⟨T,lends,c⟩ k s=some r→ ∃n,∀m,n≤m→Du ⟨T,lends,cn m⟩ k s=some r:=by
 intro k
 induction k with
 |skip=>intro s r hd;exact⟨0,fun _ _=>hd⟩
 |region id ops draw=>
  intro s r hd;simp only [Du]at hd ⊢
  split at hd
  ·rename_i hdr
   simp only [hdr,if_true]
   split at hd
   ·rename_i hok
    simp only [hok,if_true];simp only [Cj]at hd ⊢;obtain⟨s1,h1,rfl⟩:=hd;obtain⟨n,hn⟩:=jv h _ h1
    exact⟨n,fun m hm=>⟨s1,hn m hm,rfl⟩⟩
   ·cases hd
  ·rename_i hdr
   simp only [hdr];simp only [Cj]at hd ⊢;obtain⟨s1,h1,rfl⟩:=hd;obtain⟨n,hn⟩:=mX h _ h1
   exact⟨n,fun m hm=>by simpa using hn m hm⟩
 |seq x y ihx ihy=>
  intro s r hd;simp only [Du]at hd ⊢
  cases hx:Du ⟨T,lends,c⟩ x s with
  |none=>simp [hx]at hd
  |some q=>
   obtain⟨n1,e1⟩:=ihx hx;obtain⟨ex,s1⟩:=q
   cases ex with
   |normal=>
    simp only [hx]at hd;obtain⟨n2,e2⟩:=ihy hd
    exact⟨max n1 n2,fun m hm=>by rw [e1 m (by omega)];exact e2 m (by omega)⟩
   |exit id=>simp only [hx]at hd;exact⟨n1,fun m hm=>by rw [e1 m hm];exact hd⟩
   |ret=>simp only [hx]at hd;exact⟨n1,fun m hm=>by rw [e1 m hm];exact hd⟩
 |cond x a b iha ihb=>
  intro s r hd;simp only [Du]at hd ⊢
  cases hx:ev T s 0 x with
  |none=>simp [hx]at hd
  |some d=>
   cases d<;>simp only [hx]at hd ⊢ <;>try (cases hd;done)
   rename_i t
   cases t with
   |true=>simp only [if_true]at hd ⊢;exact iha hd
   |false=>simp only [JQ,if_false]at hd ⊢;exact ihb hd
 |block id x ih=>
  intro s r hd;simp only [Du]at hd ⊢
  cases hx:Du ⟨T,lends,c⟩ x s with
  |none=>simp [hx]at hd
  |some q=>
   obtain⟨n1,e1⟩:=ih hx
   exact⟨n1,fun m hm=>by rw [e1 m hm];rw [hx]at hd;exact hd⟩
 |loop x ih=>
  intro s r hd;simp only [Du]at hd ⊢;obtain⟨k,hk⟩:=M7 hd
  have key: ∀(k:Nat) {s:St},Hw (Du ⟨T,lends,c⟩ x) k s=some r→ ∃n,∀m,n≤m→Hw (Du ⟨T,lends,cn m⟩ x) k s=some r:=by
   intro k
   induction k with
   |zero=>intro s hk;simp [Hw]at hk
   |succ k ihk=>
    intro s hk;simp only [Hw]at hk ⊢
    cases hx:Du ⟨T,lends,c⟩ x s with
    |none=>simp [hx]at hk
    |some q=>
     obtain⟨n1,e1⟩:=ih hx;obtain⟨ex,s1⟩:=q
     cases ex with
     |normal=>
      simp only [hx]at hk;obtain⟨n2,e2⟩:=ihk hk
      exact⟨max n1 n2,fun m hm=>by rw [e1 m (by omega)];exact e2 m (by omega)⟩
     |exit id=>simp only [hx]at hk;exact⟨n1,fun m hm=>by rw [e1 m hm];exact hk⟩
     |ret=>simp only [hx]at hk;exact⟨n1,fun m hm=>by rw [e1 m hm];exact hk⟩
  obtain⟨n,hn⟩:=key k hk
  exact⟨n,fun m hm=>Q5 (hn m hm)⟩
 |exit id=>intro s r hd;exact⟨0,fun _ _=>hd⟩
 |ret=>intro s r hd;exact⟨0,fun _ _=>hd⟩
 |rangeFunc=>intro s r hd;simp [Du]at hd
 |scope=>intro s r hd;simp [Du]at hd
 |label=>intro s r hd;simp [Du]at hd
 |goto=>intro s r hd;simp [Du]at hd
 |refuse=>intro s r hd;simp [Du]at hd
theorem Zm(h:rO c cn){fn:Func}{args lent:List D}{r:D×List D}(hd:Z8 ⟨T,lends,c⟩ fn args lent=some r): ∃n,∀m,n≤m→Z8 ⟨T,lends,cn m⟩ fn args lent=some r:=by
 unfold Z8 at hd ⊢
 cases hb:fn.body with
 |none=>simp [hb]at hd
 |some k=>
  simp only [hb]at hd ⊢
  cases hx:Du ⟨T,lends,c⟩ k (entry args lent)with
  |none=>simp [hx]at hd
  |some q=>
   obtain⟨n,hn⟩:=mY h k hx
   exact⟨n,fun m hm=>by rw [hn m hm];rw [hx]at hd;exact hd⟩
end
structure Sys where
 P:Program
 T:Tys
 lends:am→Bool
 base:Rc
namespace Sys
variable (Y:Sys)
def callN:Nat→Rc
 |0=>Y.base
 |n+1=>fun f a l=>
  match Y.base f a l with
  |some r=>some r
  |none=>
   match Y.P.funcs[f]? with
   |some fn=>if Bn fn a.length then Z8 ⟨Y.T,Y.lends,callN n⟩ fn a l else none
   |none=>none
open Classical in
def call:Rc:=fun f a l=>if h: ∃r n,Y.callN n f a l=some r then some h.choose else none
def env:Env:=⟨Y.T,Y.lends,Y.call⟩
variable {Y}
theorem dN{n:Nat}: ∀ {f:am} {a l:List D} {r:D×List D},Y.callN n f a l=some r→Y.callN (n+1) f a l=some r:=by
 induction n with
 |zero=>intro f a l r h;simp only [callN]at h ⊢;rw [h]
 |succ n ih=>
  intro f a l r h;rw [callN]at h ⊢;simp only at h ⊢
  cases hb:Y.base f a l with
  |some q=>simp only [hb]at h ⊢;exact h
  |none=>
   simp only [hb]at h ⊢
   cases hf:Y.P.funcs[f]? with
   |none=>simp [hf]at h
   |some fn=>
    simp only [hf]at h ⊢
    split at h
    ·rename_i hok
     rw [if_pos hok];obtain⟨k,hk⟩:=Zm (cn:=fun _=>Y.callN (n+1)) (fun f a l r hh=>⟨0,fun _ _=>ih hh⟩) h;exact hk k (IG _)
    ·cases h
theorem PH{n m:Nat}(hm:n≤m){f:am}{a l:List D}{r:D×List D}(h:Y.callN n f a l=some r):Y.callN m f a l=some r:=by
 induction hm with
 |refl=>exact h
 |step _ ih=>exact dN ih
theorem gL{n:Nat}{f:am}{a l:List D}{r:D×List D}(h:Y.callN n f a l=some r):Y.call f a l=some r:=by
 unfold call;have hx: ∃r n,Y.callN n f a l=some r:=⟨r,n,h⟩;rw [dif_pos hx];obtain⟨n',h'⟩:=hx.choose_spec;have h1:=PH (Nat.le_max_left n n') h;have h2:=PH (Nat.le_max_right n n') h';rw [h1]at h2;exact h2.symm
theorem X4{f:am}{a l:List D}{r:D×List D}(h:Y.call f a l=some r): ∃n,Y.callN n f a l=some r:=by
 unfold call at h
 split at h
 ·rename_i hx
  simp only [al]at h;subst h;exact hx.choose_spec
 ·cases h
theorem mZ:rO Y.call Y.callN:=fun f a l r h=>by
 obtain⟨n,hn⟩:=X4 h
 exact⟨n,fun m hm=>PH hm hn⟩
theorem call_run{f:am}{fn:Func}{a l:List D}{r:D×List D}(hb:Y.base f a l=none)(hf:Y.P.funcs[f]? =some fn)(hok:Bn fn a.length=true)(hr:Z8 Y.env fn a l=some r):Y.call f a l=some r:=by
 obtain⟨n,hn⟩:=Zm mZ hr;refine gL (n:=n+1) ?_;rw [callN];simp only [hb,hf,hok,if_true];exact hn n (IG _)
theorem call_base{f:am}{a l:List D}{r:D×List D}(hb:Y.base f a l=some r):Y.call f a l=some r:=gL (n:=0) hb
structure Ok(Y:Sys):Prop where
 ty:Bg Y.P Y.T
 mixed:Y.P.follows .mixedOrders=true
 base: ∀f a l r outs,Y.base f a l=some (r,outs)→Good Y.P Y.T f a l r outs
theorem dO(h:Y.Ok): ∀n f a l r outs,Y.callN n f a l=some (r,outs)→Good Y.P Y.T f a l r outs:=by
 intro n
 induction n with
 |zero=>exact h.base
 |succ n ih=>
  intro f a l r outs hc;rw [callN]at hc;simp only at hc
  cases hb:Y.base f a l with
  |some q=>simp only [hb,al]at hc;subst hc;exact h.base _ _ _ _ _ hb
  |none=>
   simp only [hb]at hc
   cases hf:Y.P.funcs[f]? with
   |none=>simp [hf]at hc
   |some fn=>
    simp only [hf]at hc
    split at hc
    ·rename_i hok
     exact jq (E:=⟨Y.T,Y.lends,Y.callN n⟩) h.ty h.mixed (fun f a l r outs hh=>ih f a l r outs hh) hf hok hc
    ·cases hc
theorem call_good(h:Y.Ok){f:am}{a l:List D}{r:D}{outs:List D}(hc:Y.call f a l=some (r,outs)):Good Y.P Y.T f a l r outs:=by
 obtain⟨n,hn⟩:=X4 hc;exact dO h n f a l r outs hn
end Sys
end Dv
end
