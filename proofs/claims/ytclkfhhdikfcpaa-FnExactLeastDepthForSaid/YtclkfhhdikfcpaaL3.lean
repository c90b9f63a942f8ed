/- Value semantics for Go code, part 3: regions, control, calls and whole functions. Conditions: none beyond those in each lemma. -/
import Derived.Test.YtclkfhhdikfcpaaL2
import Derived.LoopN
import Derived.Orders
open Option.some renaming injEq → al
open Go renaming Operand → ac,TypeId → ab,FuncId → am
open List renaming range → an,mem_filter → aw,mem_map_of_mem → aE,range_eq_range' → ba,getElem?_zip_eq_some → bb
noncomputable section
set_option linter.unusedSimpArgs false
set_option linter.unusedVariables false
namespace Dv
open Go
def Wx(N:Nat):ac→Bool
 | .tmp u=>decide (u<N)
 |_=>true
def kM(N:Nat)(o:Oper):Bool:=(match o.dst with|some t=>decide (t<N)|none=>true)&&o.op.operands.toList.all (Wx N)
def kN(N:Nat)(ops:Array Oper):Bool:=ops.toList.all (kM N)
theorem dh{N:Nat}{o:Oper}(h:kM N o=true):PL N o:=by
 simp only [kM,FM,Ir]at h
 refine⟨fun t ht=> ?_,fun x hx=> ?_⟩
 ·rw [ht]at h;simpa using h.1
 ·have:=h.2 x hx
  cases x<;>simp_all [Wx,BA]
def H5(N:Nat):Code→Bool
 | .region _ ops _=>kN N ops
 | .seq a b=>H5 N a&&H5 N b
 | .cond c a b=>Wx N c&&H5 N a&&H5 N b
 | .block _ c=>H5 N c
 | .loop c=>H5 N c
 | .scope c=>H5 N c
 |_=>true
section
variable {P:Program} {E:Env} {s s':St} {gh:Nat→Value} {a:Act} {w w':World} {S:Nat→Prop} {Fs:Nat→Nat→Prop} {N:Nat}
theorem TG(h:Fr E.T N gh s a w S Fs){ops:Array Oper}(hops: ∀(j:Nat) (o:Oper),ops[j]? =some o→PL N o){o:Oper}{b:Bool}(hw:Le ops s o=some b):Region.wanted o (yielded ops a.tmps)=b:=by
 unfold Le at hw;unfold Region.wanted
 split at hw
 ·rename_i hg;simp only [al]at hw;subst hw;rw [hg]
 ·rename_i j b' hg
  rw [hg];simp only
  cases hj:(ops[j]?).bind (·.dst)with
  |none=>
   rw [hj]at hw;simp only [al]at hw;subst hw
   simp [yielded,hj]
  |some t=>
   rw [hj]at hw;simp only at hw
   have htN:t<N:=by
    simp only [H8]at hj;obtain⟨oj,h1,h2⟩:=hj
    exact(hops j oj h1).1 t h2
   have hlt:t<a.tmps.size:=by rw [h.size];exact htN
   have hrv:Al a gh t=a.tmps[t]:=by
    have:t<G:=aD htN h.small
    simp [Al,this,Array.getD,hlt]
   have hW:=h.rel.val t;rw [hrv]at hW
   have hy:yielded ops a.tmps j=match a.tmps[t]with| .bool b=>some b|_=>none:=by
    simp only [yielded,hj,Ce,K6 hlt]
    cases a.tmps[t]<;>rfl
   rw [hy];generalize a.tmps[t]=v at*
   split at hw
   ·rename_i b1 hv
    rw [hv]at hW;simp only [al]at hw;subst hw
    cases hW with
    |bool=>cases b1<;>cases b'<;>rfl
   ·rename_i vs hv
    rw [hv]at hW;simp only [al]at hw;subst hw
    cases hW with
    |konst=>rfl
   ·cases hw
theorem CB.fr{s':St}{a':Act}(hG:N≤G)(h:CB E.T gh N s' w S Fs a' w'): ∃S' Fs',Fr E.T N gh s' a' w' S' Fs'∧Step w S Fs w' S' Fs':=by
 obtain⟨S',Fs',h1,h2,h3,h4⟩:=h
 exact⟨S',Fs',⟨h1,h3,h4,hG⟩,h2⟩
theorem CB.back{s':St}{a':Act}{S':Nat→Prop}{Fs':Nat→Nat→Prop}{w'':World}(hst:Step w S Fs w' S' Fs')(h:CB E.T gh N s' w' S' Fs' a' w''):CB E.T gh N s' w S Fs a' w'':=by
 obtain⟨S2,Fs2,h1,h2,h3,h4⟩:=h
 exact⟨S2,Fs2,h1,hst.trans h2,h3,h4⟩
theorem Yi{pm:Pm}{ops:Array Oper}{i:Nat}{o:Oper}{Q:Exit→Act→World→Prop}{K:Act→World→Prop}(hT:BZ P E.T)(hC:Jd P E)(h:Fr E.T N gh s a w S Fs)
  (hops: ∀(j:Nat) (o:Oper),ops[j]? =some o→PL N o)(hi:ops[i]? =some o)(hs:Iy E ops pm s o=some s')(hK: ∀a' w',CB E.T gh N s' w S Fs a' w'→K a' w'):wpOp P ops Q i K a w:=by
 unfold Iy at hs;unfold wpOp;simp only [hi]
 cases hw:Le ops s o with
 |none=>simp [hw]at hs
 |some b=>
  have hwant:=TG h hops hw
  cases b with
  |true=>
   simp only [hw]at hs;simp only [hwant,if_true];exact .inl (Oper.wp_mono hK (Vu hT hC h (hops i o hi) hs))
  |false=>
   simp only [hw,al]at hs;subst hs;simp only [hwant,JF,if_false];exact hK _ _ (Ao h (hops i o hi).1 (F:=fun _=>False) (.konst (fun _ h=>h)) (fun _ h=>h))
theorem TH{pm:Pm}{ops:Array Oper}{i:Nat}{o:Oper}{ty:ab}{Q:Exit→Act→World→Prop}{K:Act→World→Prop}(hT:BZ P E.T)(hC:Jd P E)(h:Fr E.T N gh s a w S Fs)
  (hops: ∀(j:Nat) (o:Oper),ops[j]? =some o→PL N o)(hi:ops[i]? =some o)(hs:Iy E ops pm s ({o with type:=ty}:Oper)=some s')(hty:ty=o.type∨(∃t x lo hi mx,o.op= .slice t x lo hi mx)∨(∃x,o.op= .assign x)∨(∃t n p,o.op= .buildSlice t n p)∨(∃t x,o.op= .box t x)∨(∃p t x y z,o.op= .binOp p t x y z)∨(∃t x y,o.op= .store t x y)∨(∃g x y,o.op= .makeFunc g x y)∨(∃t l c,o.op= .makeSlice t l c)∨ ∃f xs ts,o.op= .call ⟨.value (.func f),xs,ts⟩)(hK: ∀a' w',CB E.T gh N s' w S Fs a' w'→K a' w'):wpOp P ops Q i K a w:=by
 rcases hty with rfl|hop
 ·exact Yi hT hC h hops hi hs hK
 unfold Iy at hs;unfold wpOp;simp only [hi];have hwd:Le ops s ({o with type:=ty}:Oper)=Le ops s o:=rfl
 rw [hwd]at hs
 cases hw:Le ops s o with
 |none=>simp [hw]at hs
 |some b=>
  have hwant:=TG h hops hw
  cases b with
  |true=>
   simp only [hw]at hs;simp only [hwant,if_true];have hok:=hops i o hi;have hok':PL N ({o with type:=ty}:Oper):=hok
   have hp:=fun(Q0:Exit→Act→World→Prop)=>Oper.wp_mono (Q:=Q0) hK (Vu (P:=P) (Q:=Q0) hT hC h hok' hs);refine .inl ?_;obtain⟨dst,op,type,pos,after,guard⟩:=o;simp only at hop;rcases hop with⟨t,x,lo,hi',mx,rfl⟩|⟨x,rfl⟩|⟨t,n,p,rfl⟩|⟨t,x,rfl⟩|⟨p,t,x,y,z,rfl⟩|⟨t,x,y,rfl⟩|⟨g,x,y,rfl⟩|⟨t,l,c,rfl⟩|⟨f,xs,ts,rfl⟩
   ·exact hp Q
   ·exact hp Q
   ·exact hp Q
   ·exact hp Q
   ·exact hp Q
   ·exact hp Q
   ·exact hp Q
   ·exact hp Q
   ·exact hp Q
  |false=>
   simp only [hw,al]at hs;subst hs;simp only [hwant,JF,if_false];exact hK _ _ (Ao h (hops i o hi).1 (F:=fun _=>False) (.konst (fun _ h=>h)) (fun _ h=>h))
theorem TI(lends:am→Bool)(l:List Oper)(o:Oper):YL lends l o=o.type∨(∃t x lo hi mx,o.op= .slice t x lo hi mx)∨(∃x,o.op= .assign x)∨(∃t n p,o.op= .buildSlice t n p)∨(∃t x,o.op= .box t x)∨(∃p t x y z,o.op= .binOp p t x y z)∨(∃t x y,o.op= .store t x y)∨(∃g x y,o.op= .makeFunc g x y)∨(∃t l c,o.op= .makeSlice t l c)∨ ∃f xs ts,o.op= .call ⟨.value (.func f),xs,ts⟩:=by
 obtain⟨dst,op,type,pos,after,guard⟩:=o
 cases op with
 |slice t x lo hi mx=>exact .inr (.inl ⟨_,_,_,_,_,rfl⟩)
 |assign x=>exact .inr (.inr (.inl ⟨_,rfl⟩))
 |buildSlice t n p=>exact .inr (.inr (.inr (.inl ⟨_,_,_,rfl⟩)))
 |box t x=>exact .inr (.inr (.inr (.inr (.inl ⟨_,_,rfl⟩))))
 |binOp p t x y z=>exact .inr (.inr (.inr (.inr (.inr (.inl ⟨_,_,_,_,_,rfl⟩)))))
 |store t x y=>exact .inr (.inr (.inr (.inr (.inr (.inr (.inl ⟨_,_,_,rfl⟩))))))
 |makeFunc g x y=>exact .inr (.inr (.inr (.inr (.inr (.inr (.inr (.inl ⟨_,_,_,rfl⟩)))))))
 |makeSlice t l c=>exact .inr (.inr (.inr (.inr (.inr (.inr (.inr (.inr (.inl ⟨_,_,_,rfl⟩))))))))
 |call c=>
  obtain⟨g,xs,ts⟩:=c
  cases g with
  |value x=>
   cases x with
   |func f=>exact .inr (.inr (.inr (.inr (.inr (.inr (.inr (.inr (.inr ⟨_,_,_,rfl⟩))))))))
   |_=>left;unfold YL;rfl
  |_=>left;unfold YL;rfl
 |_=>exact .inl rfl
theorem aZ{pm:Pm}{ops:Array Oper}{i:Nat}{o:Oper}{l:List Oper}{Q:Exit→Act→World→Prop}{K:Act→World→Prop}(hT:BZ P E.T)(hC:Jd P E)(h:Fr E.T N gh s a w S Fs)
  (hops: ∀(j:Nat) (o:Oper),ops[j]? =some o→PL N o)(hi:ops[i]? =some o)(hs:Iy E ops pm s (tag E.lends l o)=some s')(hK: ∀a' w',CB E.T gh N s' w S Fs a' w'→K a' w'):wpOp P ops Q i K a w:=
 TH hT hC h hops hi hs (TI _ _ _) hK
theorem aa{pm:Pm}{ops:Array Oper}{i:Nat}{o:Oper}{l:List Oper}{Q:Exit→Act→World→Prop}{K:Act→World→Prop}(hT:BZ P E.T)(hC:Jd P E)(h:Fr E.T N gh s a w S Fs)
  (hops: ∀(j:Nat) (o:Oper),ops[j]? =some o→PL N o)(hi:ops[i]? =some o)(hs:Iy E ops pm s (Sc E.lends l o)=some s')(hK: ∀a' w',CB E.T gh N s' w S Fs a' w'→K a' w'):wpOp P ops Q i K a w:=by
 refine TH hT hC h hops hi hs ?_ hK;rcases TI E.lends l o with h1|h1
 ·left;split
  ·exact h1
  ·rfl
 ·exact .inr h1
theorem ae{ops:Array Oper}(hT:BZ P E.T)(hC:Jd P E)(hops: ∀(j:Nat) (o:Oper),ops[j]? =some o→PL N o): ∀(l:List Oper) (k:Nat) {s s':St} {a:Act} {w:World} {S:Nat→Prop} {Fs:Nat→Nat→Prop} {Q:Exit→Act→World→Prop},
  ops.toList.drop k=l→Fr E.T N gh s a w S Fs→V9 E ops s l=some s'→(∀a' w',CB E.T gh N s' w S Fs a' w'→Q .normal a' w')→wpOps P ops Q (List.range' k l.length) a w:=by
 intro l
 induction l with
 |nil=>
  intro k s s' a w S Fs Q _ h hs hQ;simp only [V9,al]at hs;subst hs;simp only [SI,List.range'_zero,wpOps];exact hQ a w ⟨S,Fs,h.rel,Step.refl _ _ _,h.defs,h.size⟩
 |cons o l ih=>
  intro k s s' a w S Fs Q hl h hs hQ;simp only [V9,H8]at hs;obtain⟨s1,h1,h2⟩:=hs
  have hk:ops[k]? =some o:=by
   have:(ops.toList.drop k)[0]? =some o:=by rw [hl];rfl
   rw [Ms]at this;simpa using this
  rw [OI,List.range'_succ,wpOps_cons];refine aZ hT hC h hops hk h1 (fun a' w' hp=> ?_);obtain⟨S',Fs',hf,hst⟩:=hp.fr h.small;refine ih (k+1) ?_ hf h2 (fun a2 w2 hp2=>hQ a2 w2 (hp2.back hst));rw [←List.drop_drop,hl];rfl
def Wy:Ex→Exit
 | .normal=> .normal
 | .exit id=> .exit id
 | .ret=> .ret
def dm(P:Program)(E:Env):Prop:=
 ∀ {s s':St} {gh:Nat→Value} {a:Act} {w:World} {S:Nat→Prop} {Fs:Nat→Nat→Prop} {N id:Nat} {ops:Array Oper} {Q:Exit→Act→World→Prop},
  Fr E.T N gh s a w S Fs→kN N ops=true→NM E.lends ops.toList=true→OU E ops ops.toList s ops.toList=some s'→(∀a' w',CB E.T gh N s' w S Fs a' w'→Q .normal a' w')→(Code.region id ops true).wp P Q a w
theorem Lm{step:St→Option (Ex×St)}{s:St}{r:Ex×St}(h:Sd step s=some r): ∃n,Ha step n s=some r:=by
 unfold Sd at h
 split at h
 ·rename_i hx
  simp only [al]at h;subst h;exact hx.choose_spec
 ·cases h
theorem af(hT:BZ P E.T)(hC:Jd P E)(hD:dm P E): ∀(c:Code) {s s':St} {ex:Ex} {a:Act} {w:World} {S:Nat→Prop} {Fs:Nat→Nat→Prop},H5 N c=true→Fr E.T N gh s a w S Fs→Dz E c s=some (ex,s')→
  c.wp P (fun e a' w'=>e=Wy ex∧CB E.T gh N s' w S Fs a' w') a w:=by
 intro c
 induction c with
 |skip=>
  intro s s' ex a w S Fs _ h he;simp only [Dz,al,Prod.mk.injEq]at he;obtain⟨rfl,rfl⟩:=he;exact wp_skip ⟨rfl,S,Fs,h.rel,Step.refl _ _ _,h.defs,h.size⟩
 |region id ops draw=>
  intro s s' ex a w S Fs hk h he;simp only [H5]at hk;have hops: ∀(j:Nat) (o:Oper),ops[j]? =some o→PL N o:=fun j o ho=>dh (Ir.1 hk o (by simpa using Array.mem_of_getElem? ho))
  simp only [Dz]at he
  cases draw with
  |true=>
   simp only [if_true]at he
   split at he
   ·rename_i hdr
    simp only [Cf,Prod.mk.injEq]at he;obtain⟨s1,h1,rfl,rfl⟩:=he;exact hD h hk hdr h1 (fun a' w' hp=>⟨rfl,hp⟩)
   ·cases he
  |false=>
   simp only [JF,if_false,Cf,Prod.mk.injEq]at he;obtain⟨s1,h1,rfl,rfl⟩:=he;refine wp_region ?_;have:=ae (P:=P) (Q:=fun e a' w'=>e=Wy Ex.normal∧CB E.T gh N s1 w S Fs a' w') hT hC hops ops.toList 0 rfl h h1 (fun a' w' hp=>⟨rfl,hp⟩)
   rwa [Array.length_toList,←ba]at this
 |seq x y ihx ihy=>
  intro s s' ex a w S Fs hk h he;simp only [H5,FM]at hk;simp only [Dz]at he;refine wp_seq ?_
  cases hx:Dz E x s with
  |none=>simp [hx]at he
  |some r=>
   obtain⟨iD,s1⟩:=r;have h1:=ihx hk.1 h hx;refine wp_mono h1 ?_;rintro e a' w' ⟨rfl,hp⟩
   cases iD with
   |normal=>
    simp only [hx]at he;obtain⟨S',Fs',hf,hst⟩:=hp.fr h.small;exact wp_mono (ihy hk.2 hf he) (fun e a2 w2 ⟨q1,q2⟩=>⟨q1,q2.back hst⟩)
   |exit id=>
    simp only [hx,al,Prod.mk.injEq]at he;obtain⟨rfl,rfl⟩:=he
    exact⟨rfl,hp⟩
   |ret=>
    simp only [hx,al,Prod.mk.injEq]at he;obtain⟨rfl,rfl⟩:=he
    exact⟨rfl,hp⟩
 |cond c x y ihx ihy=>
  intro s s' ex a w S Fs hk h he;simp only [H5,FM]at hk;simp only [Dz]at he
  split at he
  ·rename_i t hc
   have hcd:BA N c:=by have:=hk.1.1;cases c<;>simp_all [Wx,BA]
   have hW:=Et h.rel h.small hcd hc
   have hv:a.eval c= .bool t:=by
    generalize a.eval c=v at*
    cases hW with
    |bool=>rfl
   refine wp_cond hv ?_
   cases t with
   |true=>simp only [if_true]at he ⊢;exact ihx hk.1.2 h he
   |false=>simp only [JF,if_false]at he ⊢;exact ihy hk.2 h he
  ·cases he
 |block id c ih=>
  intro s s' ex a w S Fs hk h he;simp only [H5]at hk;simp only [Dz]at he;refine wp_block ?_
  cases hx:Dz E c s with
  |none=>simp [hx]at he
  |some r=>
   obtain⟨iD,s1⟩:=r;refine wp_mono (ih hk h hx) ?_;rintro e a' w' ⟨rfl,hp⟩
   cases iD with
   |normal=>
    simp only [hx,al,Prod.mk.injEq]at he;obtain⟨rfl,rfl⟩:=he
    exact⟨rfl,hp⟩
   |exit j=>
    simp only [hx]at he;simp only [Wy,Exit.inBlock]
    split at he
    ·rename_i hj
     simp only [al,Prod.mk.injEq]at he;obtain⟨rfl,rfl⟩:=he;rw [if_pos hj];exact⟨rfl,hp⟩
    ·rename_i hj
     simp only [al,Prod.mk.injEq]at he;obtain⟨rfl,rfl⟩:=he;rw [if_neg hj];exact⟨rfl,hp⟩
   |ret=>
    simp only [hx,al,Prod.mk.injEq]at he;obtain⟨rfl,rfl⟩:=he
    exact⟨rfl,hp⟩
 |loop c ih=>
  intro s s' ex a w S Fs hk h he;simp only [H5]at hk;simp only [Dz]at he;obtain⟨n,hn⟩:=Lm he;refine wp_loop_rounds n ?_
  have key: ∀(n:Nat) {s:St} {a1:Act} {w1:World} {S1:Nat→Prop} {Fs1:Nat→Nat→Prop},Ha (Dz E c) n s=some (ex,s')→Fr E.T N gh s a1 w1 S1 Fs1→Step w S Fs w1 S1 Fs1→
    Code.rounds P c (fun e a' w'=>e=Wy ex∧CB E.T gh N s' w S Fs a' w') n a1 w1:=by
   intro n
   induction n with
   |zero=>intro s a1 w1 S1 Fs1 hn;simp [Ha]at hn
   |succ n ihn=>
    intro s a1 w1 S1 Fs1 hn hf hst;simp only [Ha]at hn;rw [rounds_succ]
    cases hx:Dz E c s with
    |none=>simp [hx]at hn
    |some r=>
     obtain⟨iD,s1⟩:=r;refine wp_mono (ih hk hf hx) ?_;rintro e a' w' ⟨rfl,hp⟩
     cases iD with
     |normal=>
      simp only [hx]at hn;obtain⟨S',Fs',hf',hst'⟩:=hp.fr h.small;exact ihn hn hf' (hst.trans hst')
     |exit id=>
      simp only [hx,al,Prod.mk.injEq]at hn;obtain⟨rfl,rfl⟩:=hn
      exact⟨rfl,hp.back hst⟩
     |ret=>
      simp only [hx,al,Prod.mk.injEq]at hn;obtain⟨rfl,rfl⟩:=hn
      exact⟨rfl,hp.back hst⟩
  exact key n hn h (Step.refl _ _ _)
 |exit id=>
  intro s s' ex a w S Fs _ h he;simp only [Dz,al,Prod.mk.injEq]at he;obtain⟨rfl,rfl⟩:=he;exact wp_exit ⟨rfl,S,Fs,h.rel,Step.refl _ _ _,h.defs,h.size⟩
 |ret=>
  intro s s' ex a w S Fs _ h he;simp only [Dz,al,Prod.mk.injEq]at he;obtain⟨rfl,rfl⟩:=he;exact wp_ret ⟨rfl,S,Fs,h.rel,Step.refl _ _ _,h.defs,h.size⟩
 |rangeFunc=>intro s s' ex a w S Fs _ h he;simp [Dz]at he
 |scope=>intro s s' ex a w S Fs _ h he;simp [Dz]at he
 |label=>intro s s' ex a w S Fs _ h he;simp [Dz]at he
 |goto=>intro s s' ex a w S Fs _ h he;simp [Dz]at he
 |refuse=>intro s s' ex a w S Fs _ h he;simp [Dz]at he
end
end Dv
namespace Dv
open Go
def E5(A:Nat→Bool)(s t:St):Prop:= ∀r,A r=true→s.v r=t.v r∧s.k r=t.k r∧s.m r=t.m r
def Bo(B:Nat→Bool)(s s':St):Prop:= ∀r,B r=false→s'.v r=s.v r∧s'.k r=s.k r∧s'.m r=s.m r
theorem Bo.refl(B:Nat→Bool)(s:St):Bo B s s:=fun _ _=>⟨rfl,rfl,rfl⟩
theorem Bo.trans{B:Nat→Bool}{s s1 s2:St}(h:Bo B s s1)(h':Bo B s1 s2):Bo B s s2:=fun r hr=>
 ⟨(h' r hr).1.trans (h r hr).1,(h' r hr).2.1.trans (h r hr).2.1,(h' r hr).2.2.trans (h r hr).2.2⟩
section
variable {A B:Nat→Bool} {s t:St}
theorem J3{α:Type}(f:Nat→α)(u:Nat)(d:α)(r:Nat):Kv f u d r=if r=u then d else f r:=rfl
theorem E5.put(h:E5 A s t)(u:Nat)(d:D):E5 A (s.put u d) (t.put u d):=by
 intro r hr;obtain⟨h1,h2,h3⟩:=h r hr;unfold St.put;split
 ·by_cases e:r=u
  ·subst e;simp [J3,h2,h3]
  ·simp [J3,e,h1,h2,h3]
 ·by_cases e:r=u
  ·subst e;simp [J3,h2,h3]
  ·simp [J3,e,h1,h2,h3]
theorem E5.putO(h:E5 A s t)(u:Option Tmp)(d:D):E5 A (s.putO u d) (t.putO u d):=by
 cases u with
 |none=>exact h
 |some u=>exact h.put u d
theorem E5.clr(h:E5 A s t)(u:Nat):E5 A (s.clr u) (t.clr u):=by
 intro r hr;obtain⟨h1,h2,h3⟩:=h r hr;by_cases e:r=u
 ·subst e;simp [St.clr,J3,h2,h3]
 ·simp [St.clr,J3,e,h1,h2,h3]
theorem E5.bump(h:E5 A s t)(u:Nat):E5 A (s.bump u) (t.bump u):=by
 intro r hr;obtain⟨h1,h2,h3⟩:=h r hr;by_cases e:r=u
 ·subst e;simp [St.bump,J3,h1,h2,h3]
 ·simp [St.bump,J3,e,h1,h2,h3]
theorem E5.set(h:E5 A s t)(L:AJ)(d:D):E5 A (s.set L d) (t.set L d):=by
 cases L with
 |nil=>exact h
 |cons u p=>
  intro r hr;obtain⟨h1,h2,h3⟩:=h r hr;by_cases e:r=u
  ·subst e;simp [St.set,J3,h1,h2,h3]
  ·simp [St.set,J3,e,h1,h2,h3]
theorem Bo.put{u:Nat}(hu:B u=true)(d:D):Bo B s (s.put u d):=by
 intro r hr;have e:r≠u:=fun e=>by subst e;simp [hu]at hr
 unfold St.put
 split<;>simp [J3,e]
theorem Bo.putO{u:Option Tmp}(hu: ∀t,u=some t→B t=true)(d:D):Bo B s (s.putO u d):=by
 cases u with
 |none=>exact Bo.refl _ _
 |some u=>exact Bo.put (hu u rfl) d
theorem Bo.clr{u:Nat}(hu:B u=true):Bo B s (s.clr u):=by
 intro r hr;have e:r≠u:=fun e=>by subst e;simp [hu]at hr
 simp [St.clr,J3,e]
theorem Bo.bump{u:Nat}(hu:B u=true):Bo B s (s.bump u):=by
 intro r hr;have e:r≠u:=fun e=>by subst e;simp [hu]at hr
 simp [St.bump,J3,e]
theorem Bo.set{L:AJ}(hu:L≠[]→B (L.headD 0)=true)(d:D):Bo B s (s.set L d):=by
 cases L with
 |nil=>exact Bo.refl _ _
 |cons u p=>
  intro r hr;have e:r≠u:=fun e=>by subst e;have:=hu (by simp);simp at this;simp [this]at hr
  simp [St.set,J3,e]
def BK(A:Nat→Bool)(x:ac):Prop:= ∀u,x= .tmp u→A u=true
theorem Bu(T:Tys)(h:E5 A s t)(ty:ab){x:ac}(hx:BK A x):ev T s ty x=ev T t ty x:=by
 cases x with
 |tmp u=>simp only [ev];rw [(h u (hx u rfl)).1]
 |_=>rfl
theorem Rn(h:E5 A s t){L:AJ}(hL:A (L.headD 0)=true):jb s L=jb t L:=by
 obtain⟨_,h2,h3⟩:=h _ hL;unfold jb;rw [h2,h3]
end
section
variable {pm:Pm} {s t:St}
theorem EI(h:E5 pm.rd s t)(L:AJ)(n m:Nat):s.look pm L n m=t.look pm L n m:=by
 cases L with
 |nil=>rfl
 |cons u p=>
  unfold St.look;simp only;by_cases hu:pm.rd u=true
  ·obtain⟨h1,h2,h3⟩:=h u hu;rw [h1,h2,h3]
  ·simp [hu]
theorem PM{L:AJ}{n m:Nat}{d:D}(h:s.look pm L n m=some d):L≠[]∧pm.rd (L.headD 0)=true:=by
 cases L with
 |nil=>simp [St.look]at h
 |cons u p=>
  refine⟨by simp, ?_⟩
  unfold St.look at h;simp only at h
  split at h
  ·rename_i hc;simp only [FM]at hc;simpa using hc.1.1
  ·cases h
theorem Vv(h:E5 pm.rd s t)(x:ac)(d:D):IA pm s x d=IA pm t x d:=by
 unfold IA
 split<;>simp only [EI h]
theorem kP{x:ac}{d:D}{L:AJ}{c:Nat}{o:D}(hx:BK pm.rd x)(h:IA pm s x d=some (L,c,o)):pm.rd (L.headD 0)=true:=by
 unfold IA at h
 split at h
 ·split at h
  ·simp only [al,Prod.mk.injEq]at h;obtain⟨rfl,_⟩:=h;exact hx _ rfl
  ·cases h
 ·split at h
  ·rename_i hl
   simp only [al,Prod.mk.injEq]at h;obtain⟨rfl,_⟩:=h
   exact(PM hl).2
  ·cases h
 ·split at h
  ·rename_i hl
   simp only [al,Prod.mk.injEq]at h;obtain⟨rfl,_⟩:=h
   exact(PM hl).2
  ·cases h
 ·cases h
theorem JU(h:E5 pm.rd s t){x:ac}(hx:BK pm.rd x)(d:D):DZ pm s x d=DZ pm t x d:=by
 unfold DZ;split
 ·rfl
 ·split
  ·rename_i u
   obtain⟨_,h2,h3⟩:=h u (hx u rfl);rw [h2,h3]
  ·rfl
 ·simp only [EI h]
 ·rfl
theorem NT(h:E5 pm.rd s t){L:AJ}(hne:L≠[])(hL:pm.rd (L.headD 0)=true)(c:Nat)(d:D):Fb s L c d=Fb t L c d:=by
 have:pm.rd ((L++[c]).headD 0)=true:=by cases L with
  |nil=>exact absurd rfl hne
  |cons u p=>simpa using hL
 unfold Fb;split
 ·exact Rn h this
 ·exact Rn h this
 ·rfl
theorem kQ{x:ac}{d:D}{L:AJ}{c:Nat}{o:D}(h:IA pm s x d=some (L,c,o)):L≠[]:=by
 unfold IA at h
 split at h
 ·split at h
  ·simp only [al,Prod.mk.injEq]at h;obtain⟨rfl,_⟩:=h
   simp
  ·cases h
 ·split at h
  ·rename_i hl
   simp only [al,Prod.mk.injEq]at h;obtain⟨rfl,_⟩:=h
   exact(PM hl).1
  ·cases h
 ·split at h
  ·rename_i hl
   simp only [al,Prod.mk.injEq]at h;obtain⟨rfl,_⟩:=h
   exact(PM hl).1
  ·cases h
 ·cases h
theorem ah(T:Tys)(h:E5 pm.rd s t)(ty:ab){x:ac}(hx:BK pm.rd x)(d:D):HY T pm s ty x d=HY T pm t ty x d:=by
 unfold HY;split
 ·split
  ·rfl
  ·rfl
  ·rw [←Vv h]
   cases ha:IA pm s x d with
   |none=>rfl
   |some r=>
    obtain⟨L,c,o⟩:=r;have h1:=kQ ha;have h2:=kP hx ha;simp only [NT h h1 h2]
 ·rfl
theorem RQ(T:Tys)(h:E5 pm.rd s t)(ty:ab){x:ac}(hx:BK pm.rd x)(d:D)(i:Nat):Es T pm s ty x d i=Es T pm t ty x d i:=by
 unfold Es
 cases T.foff ty i with
 |none=>rfl
 |some j=>
 simp only;split
 ·split
  ·split
   ·rename_i u
    obtain⟨_,h2,h3⟩:=h u (hx u rfl);rw [h2,h3]
   ·rfl
  ·simp only [EI h]
  ·simp only [EI h]
  ·rfl
  ·rfl
 ·rfl
theorem RS(T:Tys)(h:E5 pm.rd s t)(ty:ab){x:ac}(hx:BK pm.rd x)(d i:D):Dq T pm s ty x d i=Dq T pm t ty x d i:=by
 unfold Dq;split
 ·simp only [JU h hx]
 ·split
  ·split
   ·split
    ·rename_i u
     obtain⟨_,h2,h3⟩:=h u (hx u rfl);rw [h2,h3]
    ·rfl
   ·simp only [EI h]
   ·rfl
   ·rfl
  ·rfl
 ·rfl
theorem iE(T:Tys)(h:E5 pm.rd s t)(ty:ab){x:ac}(hx:BK pm.rd x)(d:D):Mj T pm s ty x d=Mj T pm t ty x d:=by
 unfold Mj;simp only [JU h hx]
theorem kR(T:Tys)(h:E5 pm.rd s t)(ty:ab){x:ac}(hx:BK pm.rd x)(d i:D):QJ T pm s ty x d i=QJ T pm t ty x d i:=by
 unfold QJ;split
 ·unfold ji;simp only [EI h]
 ·exact RS T h ty hx _ i
theorem Yj(T:Tys)(h:E5 pm.rd s t)(ty:ab){x:ac}(hx:BK pm.rd x)(d:D):YG T pm s ty x d=YG T pm t ty x d:=by
 unfold YG;split
 ·rfl
 ·exact iE T h ty hx _
theorem iF(h:E5 pm.rd s t)(L:AJ)(n:Nat):s.lookM pm L n=t.lookM pm L n:=by
 unfold St.lookM;split
 ·rename_i u
  by_cases hu:pm.rd u=true
  ·obtain⟨h1,h2,_⟩:=h u hu;rw [h1,h2]
  ·simp [hu]
 ·rfl
theorem PN(h:E5 pm.rd s t)(x:ac)(d:D):SX pm s x d=SX pm t x d:=by
 unfold SX;split
 ·rfl
 ·rw [iF h]
 ·rfl
theorem Wz(T:Tys)(h:E5 pm.rd s t)(ty:ab)(x:ac)(d i:D)(ok:Bool):Iw T pm s ty x d i ok=Iw T pm t ty x d i ok:=by
 unfold Iw;rw [PN h]
theorem iG(T:Tys)(h:E5 pm.rd s t)(ty:ab){x:ac}(hx:BK pm.rd x)(d:D):NK T pm s ty x d=NK T pm t ty x d:=by
 unfold NK;split
 ·unfold YH;rw [PN h]
 ·split
  ·unfold YH;rw [PN h]
  ·exact Yj T h ty hx _
 ·exact Yj T h ty hx _
theorem PO(T:Tys)(h:E5 pm.rd s t)(n:Nat){x:Option ac}(hx: ∀o,x=some o→BK pm.rd o):OQ T s n x=OQ T t n x:=by
 cases x with
 |none=>rfl
 |some o=>simp only [OQ,Bu T h 0 (hx o rfl)]
def X0{α:Type}(pm:Pm)(s t:St)(r r':Option (α×St)):Prop:=
 ∀d s1,r=some (d,s1)→Bo pm.wr s s1∧ ∃t1,r'=some (d,t1)∧E5 pm.rd s1 t1
theorem Yk(h:E5 pm.rd s t)(L:AJ)(n m:Nat):X0 pm s t (NF pm s L n m) (NF pm t L n m):=by
 intro d s1 hp;unfold NF at hp ⊢;rw [←EI h]
 cases hl:s.look pm L n m with
 |none=>simp [hl]at hp
 |some c=>
  simp only [hl]at hp ⊢;obtain⟨hne,hrd⟩:=PM hl
  have hget:s.get L.dropLast=t.get L.dropLast:=by
   cases L with
   |nil=>exact absurd rfl hne
   |cons u p=>
    cases p with
    |nil=>rfl
    |cons q p=>simp only [List.dropLast,St.get];rw [(h u hrd).1]
  rw [←hget]
  split at hp
  ·rename_i hw
   simp only [hw,if_true]
   split at hp
   ·simp only [Cf,Prod.mk.injEq]at hp;obtain⟨c',hc,rfl,rfl⟩:=hp
    exact⟨Bo.set (fun _=>hw) _,t.set L c',by simp [hc],h.set _ _⟩
   ·simp only [al,Prod.mk.injEq]at hp;obtain⟨rfl,rfl⟩:=hp
    exact⟨Bo.set (fun _=>hw) _,t.set L .undef,rfl,h.set _ _⟩
  ·cases hp
mutual
theorem Lp(d0:D): ∀ {s t:St},E5 pm.rd s t→X0 pm s t (CP pm s d0) (CP pm t d0):=by
 intro s t h d s1 hd
 cases d0<;>simp only [CP]at hd ⊢
 case vw L n m=>exact Yk h L n m d s1 hd
 case agg xs=>
  simp only [Cf,Prod.mk.injEq]at hd;obtain⟨⟨ys,s2⟩,h1,rfl,rfl⟩:=hd;obtain⟨hs,t1,ht,ha⟩:=TJ xs h _ _ h1
  exact⟨hs,t1,by simp [ht],ha⟩
 case konst v=>
  cases v<;>simp only at hd ⊢ <;>first
   |(cases hd;done)
   |(simp only [al,Prod.mk.injEq]at hd;obtain⟨rfl,rfl⟩:=hd;exact⟨Bo.refl _ _,t,rfl,h⟩)
 all_goals first
  |(cases hd;done)
  |(simp only [al,Prod.mk.injEq]at hd;obtain⟨rfl,rfl⟩:=hd;exact⟨Bo.refl _ _,t,rfl,h⟩)
theorem TJ(l:List D): ∀ {s t:St},E5 pm.rd s t→X0 pm s t (EZ pm s l) (EZ pm t l):=by
 intro s t h d s1 hd
 cases l with
 |nil=>
  simp only [EZ,al,Prod.mk.injEq]at hd ⊢;obtain⟨rfl,rfl⟩:=hd
  exact⟨Bo.refl _ _,t,⟨rfl,rfl⟩,h⟩
 |cons x xs=>
  simp only [EZ,H8,Cf,Prod.mk.injEq]at hd;obtain⟨⟨y,s2⟩,h1,⟨ys,s3⟩,h2,rfl,rfl⟩:=hd;obtain⟨hs,t1,ht,ha⟩:=Lp x h _ _ h1;obtain⟨hs',t2,ht',ha'⟩:=TJ xs ha _ _ h2
  exact⟨hs.trans hs',t2,by simp [EZ,ht,ht'],ha'⟩
end
theorem Jg(T:Tys)(h:E5 pm.rd s t)(ty:ab){x:ac}(hx:BK pm.rd x)(hw:BK pm.wr x):X0 pm s t (take T pm s ty x) (take T pm t ty x):=by
 intro d s1 hd;unfold take at hd ⊢;rw [←Bu T h ty hx]
 cases he:ev T s ty x with
 |none=>simp [he]at hd
 |some d0=>
  simp only [he]at hd ⊢
  cases x with
  |tmp u=>
   simp only at hd ⊢
   split at hd
   ·rename_i ho
    simp only [ho,if_true];obtain⟨hs,r⟩:=Lp d0 (h.clr u) _ _ hd
    exact⟨(Bo.clr (hw u rfl)).trans hs,r⟩
   ·rename_i ho
    simp only [ho];exact Lp d0 h _ _ hd
  |_=>exact Lp d0 h _ _ hd
theorem Vw(T:Tys)(tf:Nat→ab)(sz:Nat): ∀(l:List (Nat×ac)) {s t:St} (cs:List D),E5 pm.rd s t→(∀q∈l,BK pm.rd q.2∧BK pm.wr q.2)→X0 pm s t (Fg T pm tf sz s cs l) (Fg T pm tf sz t cs l):=by
 intro l
 induction l with
 |nil=>
  intro s t cs h _ d s1 hd;simp only [Fg,al,Prod.mk.injEq]at hd ⊢;obtain⟨rfl,rfl⟩:=hd
  exact⟨Bo.refl _ _,t,⟨rfl,rfl⟩,h⟩
 |cons q l ih=>
  obtain⟨i,x⟩:=q;intro s t cs h hl d s1 hd;simp only [Fg]at hd ⊢
  cases ht:take T pm s (tf i) x with
  |none=>simp [ht]at hd
  |some r=>
   obtain⟨d0,s2⟩:=r;obtain⟨hs,t1,ht1,ha⟩:=Jg T h (tf i) (hl (i,x) (by simp)).1 (hl (i,x) (by simp)).2 _ _ ht
   simp only [ht]at hd;simp only [ht1]
   split at hd
   ·rename_i hc
    simp only [hc,and_self,if_true];obtain⟨hs',r'⟩:=ih _ ha (fun q hq=>hl q (by simp [hq])) _ _ hd
    exact⟨hs.trans hs',r'⟩
   ·cases hd
theorem iH(T:Tys)(fl:List (Nat×ab)): ∀(l:List (Nat×ac)) {s t:St} (cs:List D),E5 pm.rd s t→(∀q∈l,BK pm.rd q.2∧BK pm.wr q.2)→X0 pm s t (Ih T pm fl s cs l) (Ih T pm fl t cs l):=by
 intro l
 induction l with
 |nil=>
  intro s t cs h _ d s1 hd;simp only [Ih,al,Prod.mk.injEq]at hd ⊢;obtain⟨rfl,rfl⟩:=hd
  exact⟨Bo.refl _ _,t,⟨rfl,rfl⟩,h⟩
 |cons q l ih=>
  obtain⟨i,x⟩:=q;intro s t cs h hl d s1 hd;simp only [Ih]at hd ⊢
  cases hfi:fl[i]? with
  |none=>simp [hfi]at hd
  |some p=>
   obtain⟨off,ty⟩:=p;simp only [hfi]at hd ⊢
   cases ht:take T pm s ty x with
   |none=>simp [ht]at hd
   |some r=>
    obtain⟨d0,s2⟩:=r;obtain⟨hs,t1,ht1,ha⟩:=Jg T h ty (hl (i,x) (by simp)).1 (hl (i,x) (by simp)).2 _ _ ht
    simp only [ht]at hd;simp only [ht1]
    split at hd
    ·rename_i hc
     simp only [hc,and_self,if_true];obtain⟨hs',r'⟩:=ih _ ha (fun q hq=>hl q (by simp [hq])) _ _ hd
     exact⟨hs.trans hs',r'⟩
    ·cases hd
theorem Qw(T:Tys)(h:E5 pm.rd s t)(ty:ab){x:ac}(hx:BK pm.rd x)(d0:D){lo hi mx:Option ac}(h1: ∀o,lo=some o→BK pm.rd o)(h2: ∀o,hi=some o→BK pm.rd o)(h3: ∀o,mx=some o→BK pm.rd o):
  X0 pm s t (Hu T pm s ty x d0 lo hi mx) (Hu T pm t ty x d0 lo hi mx):=by
 intro d s1 hd;unfold Hu at hd ⊢;simp only [←JU h hx,←PO T h _ h1,←PO T h _ h2,←PO T h _ h3]
 split at hd
 ·split at hd
  ·rename_i l q hl hq
   split at hd
   ·rename_i hc
    simp only [al,Prod.mk.injEq]at hd;obtain⟨rfl,rfl⟩:=hd
    exact⟨Bo.refl _ _,t,by simp only [hl,hq,hc,and_self,if_true],h⟩
   ·cases hd
  ·cases hd
 ·split at hd
  ·cases hd
  ·rename_i e xs o hsl
   try simp only [hsl]
   split at hd
   ·rename_i l q hl hq
    split at hd
    ·rename_i hc
     simp only [hl,hq,hc,and_self,if_true]
     split at hd
     ·rename_i hm
      simp only [hm,if_true]
      split at hd
      ·rename_i z hz
       split at hd
       ·rename_i hc2
        simp only [al,Prod.mk.injEq]at hd;obtain⟨rfl,rfl⟩:=hd
        exact⟨Bo.refl _ _,t,by simp only [hz,hc2,and_self,if_true],h⟩
       ·cases hd
      ·cases hd
     ·rename_i hm
      simp only [hm]
      split at hd
      ·simp only [al,Prod.mk.injEq]at hd;obtain⟨rfl,rfl⟩:=hd
       exact⟨Bo.refl _ _,t,by simp,h⟩
      ·split at hd
       ·rename_i hw
        split at hd
        ·rename_i ys hy
         simp only [al,Prod.mk.injEq]at hd;obtain⟨rfl,rfl⟩:=hd
         exact⟨Bo.set (fun _=>hw) _,t.set _ _,by simp only [hw,JF,if_true,if_false],h.set _ _⟩
        ·cases hd
       ·rename_i hw
        simp only [SV,al,Prod.mk.injEq]at hd;obtain⟨rfl,rfl⟩:=hd
        exact⟨Bo.refl _ _,t,by simp only [hw,SV,JF,if_false],h⟩
    ·cases hd
   ·cases hd
 ·cases hd
theorem Yl(h:E5 pm.rd s t){x:ac}(hx:BK pm.rd x)(d:D):V6 pm s x d=V6 pm t x d:=by
 unfold V6;split
 ·simp only [EI h]
 ·simp only [JU h hx]
theorem kS(h:E5 pm.rd s t){x:ac}(hx:BK pm.rd x)(d:D):gT pm s x d=gT pm t x d:=by
 unfold gT;split
 ·simp only [EI h]
 ·simp only [JU h hx]
theorem ai(T:Tys)(h:E5 pm.rd s t)(ty:ab){x y:ac}(hx:BK pm.rd x)(hy:BK pm.rd y)(da db:D):
  X0 pm s t (QK T pm s ty x y da db) (QK T pm t ty x y da db):=by
 intro d s1 hd;unfold QK at hd ⊢;simp only [←Yl h hx,←kS h hy]
 split at hd
 ·rename_i e L xs lo len e' ys hds hsr
  try simp only [hds,hsr]
  split at hd
  ·rename_i hc
   rw [if_pos hc];simp only [al,Prod.mk.injEq]at hd;obtain⟨rfl,rfl⟩:=hd;simp only [FM]at hc
   exact⟨Bo.set (fun _=>hc.2) _,t.set _ _,rfl,h.set _ _⟩
  ·cases hd
 ·cases hd
theorem Ym(T:Tys)(h:E5 pm.rd s t)(ty:ab){x:ac}(hx:BK pm.rd x)(da:D):
  X0 pm s t (K7 T pm s ty x da) (K7 T pm t ty x da):=by
 intro d s1 hd;unfold K7 at hd ⊢;simp only [←Yl h hx]
 split at hd
 ·rename_i e L xs lo len hds
  try simp only [hds]
  split at hd
  ·rename_i hc
   rw [if_pos hc];simp only [al,Prod.mk.injEq]at hd;obtain⟨rfl,rfl⟩:=hd;simp only [FM]at hc
   exact⟨(Bo.set (fun _=>hc.2) _).trans (Bo.bump hc.2),(t.set _ _).bump _,rfl,(h.set _ _).bump _⟩
  ·cases hd
 ·cases hd
theorem iI(T:Tys)(h:E5 pm.rd s t)(ty:ab){x:ac}(hx:BK pm.rd x){hi:Option ac}(h2: ∀o,hi=some o→BK pm.rd o):
  X0 pm s t (NG T pm s ty x hi) (NG T pm t ty x hi):=by
 intro d s1 hd;unfold NG at hd ⊢
 split at hd
 ·rename_i e' hty
  split at hd
  ·rename_i e xs s2 htk
   split at htk
   case isFalse=>cases htk
   rename_i hwx
   have hw:BK pm.wr x:=by
    intro u hu;subst hu;exact hwx
   obtain⟨hs,t1,ht1,ha⟩:=Jg T h ty hx hw _ _ htk;simp only [if_pos hwx,ht1,←PO T h _ h2]
   split at hd
   ·rename_i q hq
    split at hd
    ·rename_i hc
     simp only [al,Prod.mk.injEq]at hd;obtain⟨rfl,rfl⟩:=hd
     exact⟨hs,t1,by simp only [hq,hc,and_self,if_true],ha⟩
    ·cases hd
   ·cases hd
  ·cases hd
 ·cases hd
theorem aj(T:Tys)(h:E5 pm.rd s t)(ty:ab){x:ac}(hx:BK pm.rd x){hi:Option ac}(h2: ∀o,hi=some o→BK pm.rd o):
  X0 pm s t (NH T pm s ty x hi) (NH T pm t ty x hi):=by
 intro d s1 hd;unfold NH at hd ⊢
 split at hd
 ·rename_i e' hty
  split at hd
  ·rename_i e xs s2 htk
   split at htk
   case isFalse=>cases htk
   rename_i hwx
   have hw:BK pm.wr x:=by
    intro u hu;subst hu;exact hwx
   obtain⟨hs,t1,ht1,ha⟩:=Jg T h ty hx hw _ _ htk;simp only [if_pos hwx,ht1,←PO T h _ h2]
   split at hd
   ·rename_i q hq
    split at hd
    ·rename_i hc
     simp only [al,Prod.mk.injEq]at hd;obtain⟨rfl,rfl⟩:=hd
     exact⟨hs,t1,by simp only [hq,hc,and_self,if_true],ha⟩
    ·cases hd
   ·cases hd
  ·cases hd
 ·cases hd
theorem iJ(h:E5 pm.rd s t){t0:Nat}(h0:pm.rd t0=true)(d:D):KT s t0 d=KT t t0 d:=by
 unfold KT;rw [(h t0 h0).2.1]
theorem iL(T:Tys)(h:E5 pm.rd s t)(ty:ab){ax x:ac}(hx:BK pm.rd x){s1:St}(hd:SS T pm s ty ax x=some s1):
  Bo pm.wr s s1∧ ∃t1,SS T pm t ty ax x=some t1∧E5 pm.rd s1 t1:=by
 unfold SS at hd ⊢
 split at hd
 ·rename_i t0 u
  split at hd
  ·rename_i x0 f xs hb hu
   split at hd
   ·rename_i hc
    have hc':=hc;simp only [FM]at hc';simp only [al]at hd;subst hd;have hr0:=hc'.1.2;have hb':t.v t0= .box [x0]:=by rw [←(h t0 hr0).1];exact hb
    have hu':t.v u= .ocl false f xs:=by rw [←(h u (hx u rfl)).1];exact hu
    have hm:xs.map (KT t t0)=xs.map (KT s t0):=List.map_congr_left fun d _=>(iJ h hr0 d).symm
    refine⟨Bo.set (fun _=>hc'.2) _,_, ?_,h.set [t0] (.ocl true f (xs.map (KT s t0)))⟩
    simp only [hb',hu'];rw [if_pos hc,hm]
   ·cases hd
  ·cases hd
 ·cases hd
theorem Yn(T:Tys)(h:E5 pm.rd s t)(ty:ab)(x:ac)(d i v:D){s1:St}(hd:K8 T pm s ty x d i v=some s1):
  Bo pm.wr s s1∧ ∃t1,K8 T pm t ty x d i v=some t1∧E5 pm.rd s1 t1:=by
 unfold K8 at hd ⊢;rw [←PN h]
 split at hd
 ·rename_i k e k' e' es L hty hm
  try simp only [hm]
  split at hd
  ·rename_i ka kn ea en hka hea
   try simp only [hka,hea]
   split at hd
   ·rename_i hc
    rw [if_pos hc]
    split at hd
    ·rename_i key val hk hv
     try simp only [hk,hv]
     simp only [al]at hd;subst hd
     exact⟨Bo.set (fun _=>hc.2.2) _,_,rfl,h.set _ _⟩
    ·cases hd
   ·cases hd
  ·cases hd
 ·cases hd
theorem Vx(T:Tys)(h:E5 pm.rd s t)(ty:ab){x:ac}(hx:BK pm.rd x)(hxw:BK pm.wr x):X0 pm s t (KS T pm s ty x) (KS T pm t ty x):=by
 intro d s1 hd;unfold KS at hd ⊢;rw [←Bu T h ty hx]
 split at hd
 ·rename_i L n m he
  try simp only [he]
  unfold SQ at hd ⊢;rw [←EI h]
  cases hl:s.look pm L n m with
  |none=>simp [hl]at hd
  |some c=>
   simp only [hl]at hd ⊢
   split at hd
   ·rename_i hw
    simp only [hw,if_true];simp only [al,Prod.mk.injEq]at hd;obtain⟨rfl,rfl⟩:=hd
    exact⟨Bo.set (fun _=>hw) _,t.set L .undef,rfl,h.set _ _⟩
   ·cases hd
 ·exact Jg T h ty hx hxw _ _ hd
theorem X3(T:Tys)(h:E5 pm.rd s t)(ty:ab){x y:ac}(hx:BK pm.rd x)(hxw:BK pm.wr x)(hy:BK pm.rd y)(hyw:BK pm.wr y):
  X0 pm s t (GA T pm s ty x y) (GA T pm t ty x y):=by
 intro d s1 hd;unfold GA at hd ⊢
 split at hd
 ·split at hd
  ·rename_i e hty e1 xs s2 htk
   obtain⟨hs,t1,ht1,ha⟩:=Vx T h ty hx hxw _ _ htk;simp only [ht1,←Bu T ha ty hy,←JU ha hy]
   split at hd
   ·rename_i d1 hev
    try simp only [hev]
    split at hd
    ·rename_i e2 ys o hsl
     try simp only [hsl]
     split at hd
     ·rename_i hc
      rw [if_pos hc]
      split at hd
      ·rename_i ho
       rw [if_pos ho]
       split at hd
       ·simp only [al,Prod.mk.injEq]at hd;obtain⟨rfl,rfl⟩:=hd
        exact⟨hs.trans (Bo.clr (hyw _ rfl)),_,rfl,ha.clr _⟩
       ·cases hd
      ·rename_i ho
       rw [if_neg ho];simp only [al,Prod.mk.injEq]at hd;obtain⟨rfl,rfl⟩:=hd
       exact⟨hs,t1,rfl,ha⟩
     ·cases hd
    ·cases hd
   ·cases hd
  ·cases hd
 ·cases hd
theorem ak(T:Tys)(h:E5 pm.rd s t)(ty:ab){x:ac}(hx:BK pm.rd x)(hxw:BK pm.wr x):X0 pm s t (KU T pm s ty x) (KU T pm t ty x):=by
 intro d s1 hd;unfold KU at hd ⊢
 split at hd
 ·split at hd
  ·rename_i e hty e1 xs s2 htk
   obtain⟨hs,t1,ht1,ha⟩:=Jg T h ty hx hxw _ _ htk;simp only [ht1]
   split at hd
   ·rename_i hc
    rw [if_pos hc];simp only [al,Prod.mk.injEq]at hd;obtain⟨rfl,rfl⟩:=hd
    exact⟨hs,t1,rfl,ha⟩
   ·cases hd
  ·cases hd
 ·cases hd
theorem kT(h:E5 pm.rd s t)(d:D):PG pm s d=PG pm t d:=by
 unfold PG;simp only [EI h]
theorem pR(h:E5 pm.rd s t)(r:Nat):isT pm s r=isT pm t r:=by
 unfold isT
 cases hr:pm.rd r with
 |false=>rfl
 |true=>rw [(h r hr).1]
theorem pU(h:E5 pm.rd s t)(d:D):tF pm s d=tF pm t d:=by
 unfold tF;split
 ·exact pR h _
 ·rfl
theorem kU(h:E5 pm.rd s t)(d:D):aH pm s d=aH pm t d:=by
 have hf:tF pm s=tF pm t:=funext (pU h);unfold aH;rw [hf]
theorem PP(T:Tys)(ty:ab){ax:ac}(ha:BK pm.rd ax){q q':Option (D×St)}(hq:X0 pm s t q q'){s1:St}(hd:G9 T pm ty ax q=some s1):
  Bo pm.wr s s1∧ ∃t1,G9 T pm ty ax q'=some t1∧E5 pm.rd s1 t1:=by
 unfold G9 at hd ⊢
 split at hd
 ·cases hd
 ·rename_i d s2 htk
  obtain⟨hs,t1,ht1,hag⟩:=hq _ _ rfl;simp only [ht1,←Bu T hag ty ha]
  split at hd
  ·cases hd
  ·rename_i ad hev
   simp only [hev,←Vv hag]
   split at hd
   ·cases hd
   ·rename_i L c o had
    try simp only [had]
    split at hd
    ·rename_i hc
     rw [if_pos hc];simp only [FM]at hc;have hw:pm.wr (L.headD 0)=true:=hc.1.1.1.1.2;simp only [al]at hd;subst hd;split
     ·exact⟨hs.trans ((Bo.set (fun _=>hw) _).trans (Bo.bump hw)),_,rfl,(hag.set _ _).bump _⟩
     ·exact⟨hs.trans (Bo.set (fun _=>hw) _),_,rfl,hag.set _ _⟩
    ·cases hd
theorem Qx(T:Tys)(h:E5 pm.rd s t)(ty:ab){ax x:ac}(hx:BK pm.rd x)(hxw:BK pm.wr x)(ha:BK pm.rd ax){s1:St}(hd:Iu T pm s ty ax x=some s1):
  Bo pm.wr s s1∧ ∃t1,Iu T pm t ty ax x=some t1∧E5 pm.rd s1 t1:=by
 unfold Iu at hd ⊢;exact PP T ty ha (Jg T h ty hx hxw) hd
theorem Yo: ∀(l:List ac) {s t:St},E5 pm.rd s t→(∀x∈l,BK pm.rd x)→X0 pm s t (LY pm s l) (LY pm t l):=by
 intro l
 induction l with
 |nil=>
  intro s t h _ d s1 hd;simp only [LY,al,Prod.mk.injEq]at hd ⊢;obtain⟨rfl,rfl⟩:=hd
  exact⟨Bo.refl _ _,t,⟨rfl,rfl⟩,h⟩
 |cons x l ih=>
  intro s t h hl d s1 hd;unfold LY at hd ⊢
  cases x with
  |tmp u=>
   simp only at hd ⊢;rw [←(h u (hl (.tmp u) (by simp) u rfl)).1]
   split at hd
   ·rename_i xs hu
    split at hd
    ·rename_i ys hy
     split at hd
     ·rename_i hw
      simp only [Cf,Prod.mk.injEq]at hd;obtain⟨⟨zs,s2⟩,h1,rfl,rfl⟩:=hd;obtain⟨hs,t1,ht1,ha⟩:=ih (h.set [u] (.cptr ys)) (fun x hx=>hl x (by simp [hx])) _ _ h1
      exact⟨(Bo.set (fun _=>hw) _).trans hs,t1,by simp [hy,hw,ht1],ha⟩
     ·cases hd
    ·cases hd
   ·rename_i ys hu
    simp only [Cf,Prod.mk.injEq]at hd;obtain⟨⟨zs,s2⟩,h1,rfl,rfl⟩:=hd;obtain⟨hs,t1,ht1,ha⟩:=ih h (fun x hx=>hl x (by simp [hx])) _ _ h1
    exact⟨hs,t1,by simp [ht1],ha⟩
   ·cases hd
  |_=>simp at hd
theorem Yp(h:E5 pm.rd s t): ∀(l:List ac),(∀x∈l,BK pm.rd x)→V7 s l=V7 t l
 | [],_=>rfl
 |x::l,hl=>by
  unfold V7
  cases x with
  |tmp u=>
   have hu:=hl (.tmp u) (by simp) u rfl
   simp only;rw [←(h u hu).1,Yp h l (fun x hx=>hl x (Je _ hx)),Rn (L:=[u]) h hu]
  |_=>rfl
theorem QU(m:Nat){A:Nat→Bool}: ∀(l:List ac) (i:Nat),(∀x∈l,BK A x)→ ∀x∈MG m i l,BK A x
 | [],_,_,x,h=>by simp [MG]at h
 |y::l,i,hl,x,h=>by
  unfold MG at h
  split at h
  ·exact QU m l _ (fun x hx=>hl x (Je _ hx)) x h
  ·rcases PE.1 h with rfl|h
   ·exact hl _ LX
   ·exact QU m l _ (fun x hx=>hl x (Je _ hx)) x h
theorem kV(m:Nat)(l:List ac)(h:E5 pm.rd s t)(hl: ∀x∈l,BK pm.rd x):X0 pm s t (We pm s m l) (We pm t m l):=by
 intro d s1 hd;unfold We at hd ⊢
 split at hd
 ·cases hd
 ·rename_i ys s2 hc
  obtain⟨es,he,hd⟩:=Cf.1 hd;simp only [Prod.mk.injEq]at hd;obtain⟨rfl,rfl⟩:=hd;obtain⟨hs,t1,ht1,ha⟩:=Yo _ h (QU m l 0 hl) _ _ hc
  exact⟨hs,t1,by simp only [ht1];rw [←Yp ha l hl,he];rfl,ha⟩
theorem Qy(lend:Bool)(h:E5 pm.rd s t)(j:Nat)(L0:AJ)(d:D):Ej lend pm s j L0 d=Ej lend pm t j L0 d:=by
 unfold Ej
 split<;>simp only [EI h]
theorem X4(lend:Bool)(h:E5 pm.rd s t)(L0:AJ): ∀(l:List D) (j i:Nat),EH lend pm s L0 j i l=EH lend pm t L0 j i l:=by
 intro l
 induction l with
 |nil=>intro j i;rfl
 |cons d l ih=>intro j i;simp only [EH,Qy lend h,ih]
theorem au(lend:Bool)(h:E5 pm.rd s t)(j:Nat)(L0:AJ)(d:D):Da lend pm s j L0 d=Da lend pm t j L0 d:=by
 unfold Da;split
 ·rw [X4 lend h]
 ·rw [Qy lend h]
theorem TK(h:E5 pm.rd s t): ∀(l:List D),KV pm s l=KV pm t l
 | []=>rfl
 |d::l=>by
  unfold KV
  cases d with
  |vw L n m=>simp only [EI h,TK h l]
  |cptr ys=>simp only [TK h l]
  |_=>rfl
theorem kW(T:Tys)(lend:Bool)(h:E5 pm.rd s t)(j:Nat)(L0:AJ)(d:D):K9 T lend pm s j L0 d=K9 T lend pm t j L0 d:=by
 unfold K9;split
 ·simp only [TK h]
 ·unfold Vn;simp only [EI h]
 ·rw [au lend h]
theorem Vy(E:Env)(lend:Bool)(h:E5 pm.rd s t): ∀(l:List (ac×ab)) (j:Nat),(∀x∈l,BK pm.rd x.1)→Dj E lend pm s j l=Dj E lend pm t j l:=by
 intro l
 induction l with
 |nil=>intro j _;rfl
 |cons q l ih=>
  obtain⟨x,ty⟩:=q;intro j hl;simp only [Dj,Bu E.T h ty (hl (x,ty) (by simp)),kW E.T lend h,ih _ (fun x hx=>hl x (by simp [hx]))]
theorem NU(deep:Bool): ∀(l:List (AJ×D)) {s t:St},E5 pm.rd s t→E5 pm.rd (back deep s l) (back deep t l):=by
 intro l
 induction l with
 |nil=>intro s t h;exact h
 |cons q l ih=>
  obtain⟨L,c⟩:=q;intro s t h;simp only [back];split
  ·exact ih h
  ·split
   ·exact ih ((h.set _ _).bump _)
   ·exact ih (h.set _ _)
theorem Lr(deep:Bool): ∀(l:List (AJ×D)) {s:St},(∀q∈l,pm.wr (q.1.headD 0)=true)→Bo pm.wr s (back deep s l):=by
 intro l
 induction l with
 |nil=>intro s _;exact Bo.refl _ _
 |cons q l ih=>
  obtain⟨L,c⟩:=q;intro s h;have hw:=h (L,c) (by simp)
  simp only [back];refine Bo.trans ?_ (ih (fun q hq=>h q (by simp [hq])))
  split
  ·exact Bo.refl _ _
  ·split
   ·exact(Bo.set (fun _=>hw) _).trans (Bo.bump hw)
   ·exact Bo.set (fun _=>hw) _
theorem VE: ∀ {l l':List (AJ×D)},IC l=some l'→l'.map (·.1)=l.map (·.1):=by
 intro l
 induction l with
 |nil=>intro l' h;simp only [IC,al]at h;subst h;rfl
 |cons q l ih=>
  obtain⟨L,c⟩:=q;intro l' h;simp only [IC,H8,Cf]at h;obtain⟨c',_,l2,h2,rfl⟩:=h;simp [ih h2]
theorem MQ(h:E5 pm.rd s t): ∀(l:List D) (j:Nat),JR pm s j l=JR pm t j l
 | [],_=>rfl
 |d::l,j=>by
  unfold JR
  cases d with
  |vw L n m=>simp only [EI h,MQ h l (j+1)]
  |cptr ys=>simp only [MQ h l j]
  |undef=>simp only [MQ h l j]
  |_=>rfl
theorem iM{E:Env}(h:E5 pm.rd s t){dst:Option Tmp}(hdst: ∀u,dst=some u→pm.wr u=true){f:am}{xs:List (ac×ab)}(hxs: ∀x∈xs,BK pm.rd x.1){caps:List D}{s1:St}(hd:Mk E pm s dst f xs caps=some s1):
  Bo pm.wr s s1∧ ∃t1,Mk E pm t dst f xs caps=some t1∧E5 pm.rd s1 t1:=by
 unfold Mk at hd ⊢;simp only [←Vy E _ h xs _ hxs,←MQ h]
 split at hd
 ·cases hd
 ·rename_i as ls has
  try simp only [has]
  split at hd
  ·cases hd
  ·rename_i cs lc hcs
   try simp only [hcs]
   split at hd
   ·rename_i hc
    rw [if_pos hc];simp only [FM,Ir]at hc
    split at hd
    ·rename_i r outs hcall
     try simp only [hcall]
     split at hd
     ·rename_i hz
      rw [if_pos hz];simp only [al]at hd;subst hd
      refine⟨((Lr false _ ?_).trans (Lr true _ ?_)).trans (Bo.putO hdst r),_,rfl,(NU true _ (NU false _ h)).putO dst r⟩
      ·intro q hq;obtain⟨L,h1,rfl⟩:=JH.1 hq;obtain⟨l,hl',rfl⟩:=JH.1 h1;exact hc.1.2 l hl'
      ·intro q hq;obtain⟨l,hl',e⟩:=JH.1 (WY hq).1;rw [←e];exact hc.1.2 l hl'
     ·cases hd
    ·cases hd
   ·cases hd
theorem QV{E:Env}(h:E5 pm.rd s t){dst:Option Tmp}(hdst: ∀u,dst=some u→pm.wr u=true){f:am}{xs:List (ac×ab)}(hxs: ∀x∈xs,BK pm.rd x.1){caps:List D}{s1:St}(hd:Fh E pm s dst f xs caps=some s1):
  Bo pm.wr s s1∧ ∃t1,Fh E pm t dst f xs caps=some t1∧E5 pm.rd s1 t1:=by
 unfold Fh at hd ⊢;simp only [←Vy E _ h xs _ hxs]
 split at hd
 ·rename_i hl
  rw [if_pos hl]
  split at hd
  ·cases hd
  ·rename_i as ls has
   try simp only [has]
   split at hd
   ·rename_i hc
    rw [if_pos hc];simp only [FM,Ir]at hc
    split at hd
    ·rename_i r outs hcall
     try simp only [hcall]
     split at hd
     ·rename_i hz
      rw [if_pos hz];simp only [al]at hd;subst hd
      refine⟨((Lr false _ ?_).trans (Lr true _ ?_)).trans (Bo.putO hdst r),_,rfl,(NU true _ (NU false _ h)).putO dst r⟩
      ·intro q hq;simp only [JH]at hq;obtain⟨L,⟨l,hl',rfl⟩,rfl⟩:=hq;exact hc.1.2 l hl'
      ·intro q hq;have:=(WY hq).1
       simp only [JH]at this;obtain⟨l,hl',e⟩:=this;rw [←e];exact hc.1.2 l hl'
     ·cases hd
    ·cases hd
   ·cases hd
 ·rename_i hl
  rw [if_neg hl]
  split at hd
  ·cases hd
  ·rename_i as ls has
   try simp only [has]
   split at hd
   ·rename_i r outs hcall
    try simp only [hcall]
    split at hd
    ·rename_i hsl
     rw [if_pos hsl]
     split at hd
     ·rename_i hc
      rw [if_pos hc];simp only [FM,Ir]at hc;simp only [Cf]at hd;obtain⟨ls',hf,rfl⟩:=hd
      refine⟨(Lr false _ ?_).trans (Bo.putO hdst r),_,by rw [hf];rfl,(NU false _ h).putO dst r⟩
      intro q hq;have:q.1∈ls.map (·.1):=by rw [←VE hf];exact aE hq
      simp only [JH]at this;obtain⟨l,hl',e⟩:=this;rw [←e];exact hc.2 l hl'
     ·cases hd
    ·rename_i hsl
     rw [if_neg hsl];simp only [al]at hd;subst hd
     exact⟨Bo.putO hdst r,_,rfl,h.putO dst r⟩
   ·cases hd
end
end Dv
namespace Dv
open Go
def tak:Op→Bool
 | .assign _| .box .. | .build .. | .buildSlice .. | .store .. =>true
 | .call {callee:= .builtin .append, .. }=>true
 |_=>false
section
variable {pm:Pm} {s t s':St} {E:Env}
def DK(pm:Pm)(s t s':St)(r:Option St):Prop:=Bo pm.wr s s'∧ ∃t',r=some t'∧E5 pm.rd s' t'
theorem DK.put(h:E5 pm.rd s t){dst:Option Tmp}(hd: ∀u,dst=some u→pm.wr u=true)(d:D):DK pm s t (s.putO dst d) (some (t.putO dst d)):=
 ⟨Bo.putO hd d,_,rfl,h.putO dst d⟩
theorem DK.of{α:Type}{r r':Option (α×St)}{x:α}{s1:St}{dst:Option Tmp}(hd: ∀u,dst=some u→pm.wr u=true)(f:α→D)(h:X0 pm s t r r')(hr:r=some (x,s1)):
  DK pm s t (s1.putO dst (f x)) (r'.map fun q=>q.2.putO dst (f q.1)):=by
 obtain⟨hs,t1,ht,ha⟩:=h _ _ hr
 exact⟨hs.trans (Bo.putO hd _),_,by rw [ht];rfl,ha.putO dst _⟩
theorem iO(h:E5 pm.rd s t){L:AJ}(hne:L≠[])(hL:pm.rd (L.headD 0)=true): ∀(ys:List D) (i:Nat),Ml s L i ys=Ml t L i ys:=by
 intro ys
 induction ys with
 |nil=>intro i;rfl
 |cons y ys ih=>intro i;simp only [Ml,ih,NT h hne hL]
theorem iP(h:E5 pm.rd s t){u:Nat}(hu:pm.rd u=true)(i:Nat)(d:D):OT s u i d=OT t u i d:=by
 unfold OT;split
 ·rw [iO h (L:=[u,i]) (by simp) (by simpa using hu)]
 ·exact NT h (L:=[u]) (by simp) (by simpa using hu) i _
theorem iQ(h:E5 pm.rd s t){u:Nat}(hu:pm.rd u=true): ∀ {xs:List D} {i:Nat},JN s u i xs=JN t u i xs:=by
 intro xs
 induction xs with
 |nil=>intro i;rfl
 |cons y ys ih=>intro i;simp only [JN,ih,iP h hu]
theorem TL(h:E5 pm.rd s t){dst:Option Tmp}(hd: ∀u,dst=some u→pm.wr u=true){x:ac}(hx:BK pm.rd x){d:D}(hm: ∀u,x= .tmp u→d.hasObj=true→d.isObj=false→pm.wr u=true):
  DK pm s t (CW s dst x d) (some (CW t dst x d)):=by
 cases x with
 |tmp u=>
  unfold CW;simp only;split
  ·rw [Rn h (L:=[u]) (hx u rfl)];exact DK.put h hd _
  ·rename_i ho
   split
   ·rename_i ho'
    have hw:=hm u rfl ho' (by simpa using ho)
    have hcl: ∀d',DK pm s t ((s.clr u).putO dst d') (some ((t.clr u).putO dst d')):=fun d'=>⟨(Bo.clr hw).trans (Bo.putO hd _),_,rfl,(h.clr u).putO dst _⟩;unfold Wh;split
    ·rw [←iQ h (hx u rfl)];split
     ·exact hcl _
     ·exact DK.put h hd _
    ·exact hcl _
   ·exact DK.put h hd _
 |_=>exact DK.put h hd _
theorem PQ(h:E5 pm.rd s t){dst:Option Tmp}(hd: ∀u,dst=some u→pm.wr u=true){x:ac}(hw:BK pm.wr x){d:D}(ha:BP pm s dst x d=some s'):
  DK pm s t s' (BP pm t dst x d):=by
 unfold BP at ha ⊢
 cases x with
 |tmp u=>
  simp only at ha ⊢;rw [←kU h]
  split at ha
  ·rename_i htup
   rw [if_pos htup];simp only [Cf]at ha;obtain⟨⟨d1,s1⟩,h1,rfl⟩:=ha;exact DK.of hd (fun x=>x) (Lp d h) h1
  rename_i htup
  rw [if_neg htup]
  split at ha
  ·simp only [Cf]at ha;obtain⟨⟨d1,s1⟩,h1,rfl⟩:=ha;exact DK.of hd (fun x=>x) (Yk h _ _ _) h1
  ·simp only [al]at ha;subst ha;split
   ·exact⟨(Bo.clr (hw u rfl)).trans (Bo.putO hd _),_,rfl,(h.clr u).putO dst _⟩
   ·exact DK.put h hd _
 |_=>
  simp only [al]at ha ⊢;subst ha;exact DK.put h hd _
theorem VF(h:E5 pm.rd s t){dst:Option Tmp}(hd: ∀u,dst=some u→pm.wr u=true){x:ac}(hx:BK pm.rd x){d:D}{i:Nat}(ha:Hw s dst x d i=some s'):
  DK pm s t s' (Hw t dst x d i):=by
 unfold Hw at ha ⊢
 split at ha
 ·rename_i u xs
  have hru:=hx u rfl
  split at ha
  ·cases ha
  ·rename_i ys hc
   simp only [Cf]at ha;obtain⟨r,hr,rfl⟩:=ha
   have:(fun j=>Fb s [u,i] j (ys.getD j .undef))=fun j=>Fb t [u,i] j (ys.getD j .undef):=by
    funext j;exact NT h (by simp) (by simpa using hru) j _
   simp only [hc,←this,hr];exact DK.put h hd _
  ·rename_i c hne hc
   simp only [Cf]at ha;obtain⟨r,hr,rfl⟩:=ha;have:Fb s [u] i c=Fb t [u] i c:=NT h (by simp) (by simpa using hru) i c
   rw [this]at hr;rw [hr];exact DK.put h hd _
 ·cases ha
theorem Yq{T:Tys}(h:E5 pm.rd s t){dst:Option Tmp}(hd: ∀u,dst=some u→pm.wr u=true){ty:ab}{len:Nat}{parts:Array (Nat×ac)}
  (hps: ∀q∈parts.toList,BK pm.rd q.2∧BK pm.wr q.2)(ho:Sa T pm s dst ty len parts=some s'):DK pm s t s' (Sa T pm t dst ty len parts):=by
 unfold Sa at ho ⊢
 split at ho
 ·rename_i e hty
  split at ho
  ·rename_i hk
   rw [if_pos hk];simp only [Cf]at ho;obtain⟨⟨ys,s1⟩,hf,rfl⟩:=ho;exact DK.of hd (fun x=>D.own e x) (Vw T _ _ parts.toList _ h hps) hf
  ·cases ho
 ·cases ho
theorem Vz{T:Tys}(h:E5 pm.rd s t){dst:Option Tmp}(hd: ∀u,dst=some u→pm.wr u=true){ty:ab}{x:ac}(hx:BK pm.rd x)(hw:BK pm.wr x)
  (ho:NJ T pm s dst ty x=some s'):DK pm s t s' (NJ T pm t dst ty x):=by
 unfold NJ at ho ⊢;rw [←Bu T h _ hx]
 split at ho
 ·split at ho
  ·rename_i hc
   rw [if_pos hc];simp only [al]at ho;subst ho
   exact DK.put h hd _
  ·cases ho
 split at ho
 ·rename_i d s1 ht
  obtain⟨hs,t1,ht1,ha⟩:=Jg T h ty hx hw _ _ ht;simp only [ht1]
  split at ho
  ·rename_i hc
   rw [if_pos hc];simp only [al]at ho;subst ho
   exact⟨hs.trans (Bo.putO hd _),_,rfl,ha.putO _ _⟩
  ·cases ho
 ·cases ho
theorem W9{T:Tys}(h:E5 pm.rd s t){dst:Option Tmp}(hd: ∀u,dst=some u→pm.wr u=true){op:BinOp}{ty:ab}{x y:ac}(hx:BK pm.rd x)(hy:BK pm.rd y)
  (ho:HZ T pm s dst op ty x y=some s'):DK pm s t s' (HZ T pm t dst op ty x y):=by
 unfold HZ at ho ⊢;rw [←Bu T h _ hx,←Bu T h _ hy]
 split at ho
 ·simp only [H8,Cf]at ho;obtain⟨d,he,b,hb,rfl⟩:=ho;simp only [he,Ce,←kT h,hb];exact DK.put h hd _
 split at ho
 ·split at ho
  ·rename_i hb
   rw [if_pos hb];simp only [Cf]at ho;obtain⟨r,hr,rfl⟩:=ho;rw [hr];exact DK.put h hd _
  ·cases ho
 ·cases ho
theorem TM{dst:Option Tmp}{s1 t1:St}(q1:Bo pm.wr s s1)(q3:E5 pm.rd s1 t1)(hf:Eo pm s1 dst=some s'):DK pm s t s' (Eo pm t1 dst):=by
 unfold Eo at hf ⊢
 split at hf
 ·rename_i u
  split at hf
  ·rename_i hc
   rw [if_pos hc];simp only [FM]at hc;simp only [Cf]at hf;obtain⟨c,hfz,rfl⟩:=hf;rw [←(q3 u hc.1).1,hfz]
   exact⟨q1.trans (Bo.set (L:=[u]) (fun _=>hc.2) _),_,rfl,q3.set _ _⟩
  ·cases hf
 ·cases hf
theorem iR{dst:Option Tmp}{s1 t1:St}(q1:Bo pm.wr s s1)(q3:E5 pm.rd s1 t1)(hf:NI pm s1 dst=some s'):DK pm s t s' (NI pm t1 dst):=by
 unfold NI at hf ⊢
 split at hf
 ·rename_i u
  split at hf
  ·rename_i hc
   rw [if_pos hc];simp only [FM]at hc
   split at hf
   ·rename_i e xs hv
    simp only [Cf]at hf;obtain⟨c,hfz,rfl⟩:=hf;rw [←(q3 u hc.1).1,hv];simp only [hfz,Mv]
    exact⟨q1.trans (Bo.set (L:=[u]) (fun _=>hc.2) _),_,rfl,q3.set _ _⟩
   ·cases hf
  ·cases hf
 ·cases hf
theorem kX{dst:Option Tmp}{u:Tmp}{s1 t1:St}(q1:Bo pm.wr s s1)(q3:E5 pm.rd s1 t1)(hf:YJ pm s1 dst u=some s'):DK pm s t s' (YJ pm t1 dst u):=by
 unfold YJ at hf ⊢
 split at hf
 ·rename_i d
  split at hf
  ·rename_i hr
   rw [if_pos hr,←(q3 d hr).1]
   split at hf
   ·rename_i b hv
    split at hf
    ·rename_i hb
     rw [if_pos hb];simp only [al]at hf;subst hf
     exact⟨q1,_,rfl,q3⟩
    ·rename_i hb
     rw [if_neg hb];unfold Eo at hf ⊢;simp only at hf ⊢
     split at hf
     ·rename_i hc
      rw [if_pos hc];simp only [FM]at hc;simp only [Cf]at hf;obtain⟨c,hfz,rfl⟩:=hf;rw [←(q3 u hc.1).1,hfz]
      exact⟨q1.trans (Bo.set (L:=[u]) (fun _=>hc.2) _),_,rfl,q3.set _ _⟩
     ·cases hf
   ·cases hf
  ·cases hf
 ·cases hf
theorem pV{o:Oper}(h:E5 pm.rd s t)(hd: ∀u,o.dst=some u→pm.wr u=true)(hx: ∀x∈o.op.operands.toList,BK pm.rd x)
  (hw:tak o.op=true→ ∀x∈o.op.operands.toList,BK pm.wr x)(hm:aJ pm s o=true)(ho:ol E pm s o=some s'):DK pm s t s' (ol E pm t o):=by
 unfold ol at ho ⊢
 cases hop:o.op<;>simp only [hop]at ho hx hw ⊢
 case move x=>
  rw [←Bu E.T h _ (hx x (by simp [Op.operands]))]
  simp only [Cf]at ho;obtain⟨d,he,rfl⟩:=ho;rw [he];refine TL h hd (hx x (by simp [Op.operands])) (fun u hu h1 h2=> ?_)
  subst hu;simp only [ev,al]at he;subst he;simp only [aJ,hop,NE,Ku,h1,h2]at hm;simpa using hm
 case assign x=>
  rw [←Bu E.T h _ (hx x (by simp [Op.operands]))]
  simp only [H8]at ho;obtain⟨d,he,ha⟩:=ho;rw [he,Ce]
  split at ha
  ·rename_i htg
   rw [if_pos htg];simp only [H8]at ha;obtain⟨s1,ha,hf⟩:=ha;obtain⟨q1,t1,q2,q3⟩:=PQ h hd (hw rfl x (by simp [Op.operands])) ha
   rw [q2,Ce];unfold Eo at hf ⊢
   split at hf
   ·rename_i u _
    split at hf
    ·rename_i hc
     rw [if_pos hc];simp only [FM]at hc;simp only [Cf]at hf;obtain⟨c,hfz,rfl⟩:=hf;rw [←(q3 u hc.1).1,hfz]
     exact⟨q1.trans (Bo.set (L:=[u]) (fun _=>hc.2) _),_,rfl,q3.set _ _⟩
    ·cases hf
   ·cases hf
  ·rename_i htg
   rw [if_neg htg];exact PQ h hd (hw rfl x (by simp [Op.operands])) ha
 case nilCheck x=>
  rw [←Bu E.T h _ (hx x (by simp [Op.operands]))]
  simp only [H8]at ho;obtain⟨d,he,ha⟩:=ho;rw [he];have key:(d.hasObj=false∨d.isObj=true)→DK pm s t (CW s o.dst x d) (some (CW t o.dst x d)):=fun hq=>TL h hd (hx x (by simp [Op.operands])) (d:=d) (fun u hu h1 h2=>by rcases hq with hq|hq<;>simp_all)
  simp only [Ce,←EI h]
  split at ha
  ·simp only [al]at ha;subst ha;exact key (.inr rfl)
  ·split at ha
   ·rename_i hl;simp only [al]at ha;subst ha;exact key (.inl rfl)
   ·cases ha
  ·split at ha
   ·rename_i hl;simp only [al]at ha;subst ha;exact key (.inl rfl)
   ·cases ha
  ·simp only [al]at ha;subst ha;exact key (.inl rfl)
  ·simp only [al]at ha;subst ha;exact key (.inl rfl)
  ·simp only [al]at ha;subst ha;exact key (.inl rfl)
  ·cases ha
 case pick c x y=>
  rw [←Bu E.T h _ (hx c (by simp [Op.operands])),←Bu E.T h _ (hx x (by simp [Op.operands])),←Bu E.T h _ (hx y (by simp [Op.operands]))]
  split at ho
  ·rename_i tb dx dy _ _ _
   by_cases hn:(if tb=true then dx else dy).hasObj=true
   ·rw [if_pos hn]at ho;cases ho
   ·rw [if_neg hn]at ho;rw [if_neg hn];simp only [al]at ho;subst ho
    exact DK.put h hd _
  ·cases ho
 case alloc ty=>
  split at ho
  ·rename_i hk;rw [if_pos hk];simp only [al]at ho;subst ho;exact DK.put h hd _
  ·cases ho
 case box ty x=>
  have hxr:=hx x (by simp [Op.operands])
  have hxw:=hw rfl x (by simp [Op.operands])
  split at ho
  ·rename_i htg
   rw [if_pos htg];simp only [H8]at ho;obtain⟨s1,ha,hf⟩:=ho;obtain⟨q1,t1,q2,q3⟩:=Vz (T:=E.T) h hd hxr hxw ha;rw [q2,Ce];unfold Eo at hf ⊢
   split at hf
   ·rename_i u _
    split at hf
    ·rename_i hc
     rw [if_pos hc];simp only [FM]at hc;simp only [Cf]at hf;obtain⟨c,hfz,rfl⟩:=hf;rw [←(q3 u hc.1).1,hfz]
     exact⟨q1.trans (Bo.set (L:=[u]) (fun _=>hc.2) _),_,rfl,q3.set _ _⟩
    ·cases hf
   ·cases hf
  ·rename_i htg
   rw [if_neg htg];exact Vz (T:=E.T) h hd hxr hxw ho
 case build ty parts=>
  split at ho
  ·rename_i fl hn
   split at ho
   ·rename_i hk
    rw [if_pos hk];simp only [Cf]at ho;obtain⟨⟨ys,s1⟩,hf,rfl⟩:=ho;exact DK.of hd (fun x=>D.agg x) (iH E.T _ parts.toList _ h (fun q hq=>⟨hx q.2 (by simp [Op.operands];exact⟨q.1,by simpa using hq⟩),hw rfl q.2 (by simp [Op.operands];exact⟨q.1,by simpa using hq⟩)⟩)) hf
   ·cases ho
  split at ho
  ·rename_i fs hty
   split at ho
   ·rename_i hk
    rw [if_pos hk];simp only [Cf]at ho;obtain⟨⟨ys,s1⟩,hf,rfl⟩:=ho;exact DK.of hd (fun x=>D.agg x) (Vw E.T _ 1 parts.toList _ h (fun q hq=>⟨hx q.2 (by simp [Op.operands];exact⟨q.1,by simpa using hq⟩),hw rfl q.2 (by simp [Op.operands];exact⟨q.1,by simpa using hq⟩)⟩)) hf
   ·cases ho
  ·cases ho
 case buildSlice ty len parts=>
  have hps: ∀q∈parts.toList,BK pm.rd q.2∧BK pm.wr q.2:=fun q hq=>⟨hx q.2 (by simp [Op.operands];exact⟨q.1,by simpa using hq⟩),hw rfl q.2 (by simp [Op.operands];exact⟨q.1,by simpa using hq⟩)⟩
  split at ho
  ·rename_i htg
   rw [if_pos htg];simp only [H8]at ho;obtain⟨s1,ha,hf⟩:=ho;obtain⟨q1,t1,q2,q3⟩:=Yq (T:=E.T) h hd hps ha;rw [q2,Ce];unfold NI at hf ⊢
   split at hf
   ·rename_i u _
    split at hf
    ·rename_i hc
     rw [if_pos hc];simp only [FM]at hc
     split at hf
     ·rename_i e xs hv
      simp only [Cf]at hf;obtain⟨c,hfz,rfl⟩:=hf;rw [←(q3 u hc.1).1,hv];simp only [hfz,Mv]
      exact⟨q1.trans (Bo.set (L:=[u]) (fun _=>hc.2) _),_,rfl,q3.set _ _⟩
     ·cases hf
    ·cases hf
   ·cases hf
  ·rename_i htg
   rw [if_neg htg];exact Yq (T:=E.T) h hd hps ho
 case load ty x=>
  have hxi:=hx x (by simp [Op.operands])
  rw [←Bu E.T h _ hxi];simp only [H8,Cf]at ho;obtain⟨d,he,r,hl,rfl⟩:=ho;rw [he,Ce,←ah E.T h ty hxi,hl];exact DK.put h hd _
 case store ty ax x=>
  split at ho
  ·rename_i hn
   rw [if_pos hn]
   split at ho
   ·rename_i htg
    rw [if_pos htg];exact PP E.T ty (hx ax (by simp [Op.operands])) (Vx E.T h ty (hx x (by simp [Op.operands])) (hw rfl x (by simp [Op.operands]))) ho
   rename_i htg
   rw [if_neg htg]
   split at ho
   ·rename_i htg
    rw [if_pos htg];exact iL E.T h ty (hx x (by simp [Op.operands])) ho
   rename_i htg
   rw [if_neg htg]
   split at ho
   ·rename_i htg
    rw [if_pos htg];simp only [H8]at ho;obtain⟨s1,ha,hf⟩:=ho;obtain⟨q1,t1,q2,q3⟩:=Qx E.T h ty (hx x (by simp [Op.operands])) (hw rfl x (by simp [Op.operands])) (hx ax (by simp [Op.operands])) ha
    rw [q2,Ce];exact TM q1 q3 hf
   ·rename_i htg
    rw [if_neg htg];exact Qx E.T h ty (hx x (by simp [Op.operands])) (hw rfl x (by simp [Op.operands])) (hx ax (by simp [Op.operands])) ho
  ·cases ho
 case binOp op ty x y ty'=>
  split at ho
  ·rename_i htg
   rw [if_pos htg];exact W9 h hd (hx x (by simp [Op.operands])) (hx y (by simp [Op.operands])) ho
  ·rename_i htg
   rw [if_neg htg];simp only [H8]at ho;obtain⟨s1,ha,hf⟩:=ho;obtain⟨q1,t1,q2,q3⟩:=W9 h hd (hx x (by simp [Op.operands])) (hx y (by simp [Op.operands])) ha
   rw [q2,Ce];exact kX q1 q3 hf
 case unOp op ty x=>
  rw [←Bu E.T h _ (hx x (by simp [Op.operands]))]
  simp only [H8,Cf]at ho;obtain⟨d,he,r,hl,rfl⟩:=ho;rw [he,Ce,hl];exact DK.put h hd _
 case convert src dst x=>
  split at ho
  ·rename_i hk
   rw [if_pos hk,←Bu E.T h _ (hx x (by simp [Op.operands]))]
   split at ho
   ·simp only [al]at ho;subst ho;exact DK.put h hd _
   ·simp only [al]at ho;subst ho;exact DK.put h hd _
   ·cases ho
  ·cases ho
 case makeFunc fn first captured=>
  cases fn<;>simp only at ho ⊢ <;>try (cases ho;done)
  rename_i f
  split at ho
  ·rename_i hty
   rw [if_pos hty]
   split at ho
   ·rename_i hfe
    rw [if_pos hfe];simp only [Cf]at ho;obtain⟨⟨ys,s1⟩,hc,rfl⟩:=ho;exact DK.of hd (fun x=>D.clo f x) (Yo captured.toList h (fun x hx'=>hx x (by simp [Op.operands];right;simpa using hx'))) hc
   ·cases ho
  ·rename_i hty
   rw [if_neg hty]
   split at ho
   ·rename_i hfe
    rw [if_pos hfe];simp only [Cf]at ho;obtain⟨⟨ys,s1⟩,hc,rfl⟩:=ho;exact DK.of hd (fun x=>D.ocl false f x) (kV _ captured.toList h (fun x hx'=>hx x (by simp [Op.operands];right;simpa using hx'))) hc
   ·cases ho
 case makeSlice ty l c=>
  have key: ∀s1,V8 E.T s o.dst ty l c=some s1→DK pm s t s1 (V8 E.T t o.dst ty l c):=by
   intro s1 ho;unfold V8 at ho ⊢;rw [←Bu E.T h _ (hx l (by simp [Op.operands])),←Bu E.T h _ (hx c (by simp [Op.operands]))]
   split at ho
   ·simp only [Cf]at ho;obtain⟨r,hr,rfl⟩:=ho;rw [hr];exact DK.put h hd _
   ·cases ho
  split at ho
  ·rename_i htg
   rw [if_pos htg];simp only [H8]at ho;obtain⟨s1,ha,hf⟩:=ho;obtain⟨q1,t1,q2,q3⟩:=key s1 ha;rw [q2,Ce];exact iR q1 q3 hf
  ·rename_i htg
   rw [if_neg htg];exact key _ ho
 case slice ty x lo hi mx=>
  have hxi:=hx x (by simp [Op.operands])
  split at ho
  ·rename_i htg
   rw [if_pos htg]
   split at ho
   ·rename_i hlm
    rw [if_pos hlm];simp only [Cf]at ho;obtain⟨⟨r,s1⟩,hl,rfl⟩:=ho;exact DK.of hd (fun x=>x) (iI E.T h ty hxi (fun o ho=>hx o (by simp [Op.operands,ho]))) hl
   ·cases ho
  rename_i htg
  rw [if_neg htg]
  split at ho
  ·rename_i htg
   rw [if_pos htg]
   split at ho
   ·rename_i hlm
    rw [if_pos hlm];simp only [Cf]at ho;obtain⟨⟨r,s1⟩,hl,rfl⟩:=ho;exact DK.of hd (fun x=>x) (aj E.T h ty hxi (fun o ho=>hx o (by simp [Op.operands,ho]))) hl
   ·cases ho
  rename_i htg
  rw [if_neg htg];rw [←Bu E.T h _ hxi];simp only [H8,Cf]at ho;obtain⟨d,he,⟨r,s1⟩,hl,rfl⟩:=ho;rw [he,Ce]
  have hloc:X0 pm s t (Hu E.T (if o.type=900001 then pm.see else pm) s ty x d lo hi mx) (Hu E.T (if o.type=900001 then pm.see else pm) t ty x d lo hi mx):=by
   split
   ·intro d1 s2 hd1;obtain⟨q1,q2⟩:=Qw (pm:=pm.see) E.T h ty hxi d (fun o ho=>hx o (by simp [Op.operands,ho])) (fun o ho=>hx o (by simp [Op.operands,ho])) (fun o ho=>hx o (by simp [Op.operands,ho])) d1 s2 hd1
    exact⟨fun r _=>q1 r rfl,q2⟩
   ·exact Qw E.T h ty hxi d (fun o ho=>hx o (by simp [Op.operands,ho])) (fun o ho=>hx o (by simp [Op.operands,ho])) (fun o ho=>hx o (by simp [Op.operands,ho]))
  exact DK.of hd (fun x=>x) hloc hl
 case fieldAddr ty x i=>
  have hxi:=hx x (by simp [Op.operands])
  rw [←Bu E.T h _ hxi];simp only [H8,Cf]at ho;obtain⟨d,he,r,hl,rfl⟩:=ho;rw [he,Ce,←RQ E.T h ty hxi,hl];exact DK.put h hd _
 case indexAddr ty x i=>
  have hxi:=hx x (by simp [Op.operands])
  rw [←Bu E.T h _ hxi,←Bu E.T h _ (hx i (by simp [Op.operands]))]
  split at ho
  ·simp only [Cf]at ho;obtain⟨r,hr,rfl⟩:=ho;simp only [←kR E.T h ty hxi,hr];exact DK.put h hd _
  ·cases ho
 case makeMap ty r=>
  split at ho
  ·rename_i hr0
   rw [if_pos hr0];simp only [Cf]at ho;obtain⟨r,hr,rfl⟩:=ho;rw [hr];exact DK.put h hd _
  ·cases ho
 case lookup ty x i ok=>
  rw [←Bu E.T h _ (hx x (by simp [Op.operands])),←Bu E.T h _ (hx i (by simp [Op.operands]))]
  split at ho
  ·simp only [Cf]at ho;obtain⟨r,hr,rfl⟩:=ho;simp only [←Wz E.T h ty,hr];exact DK.put h hd _
  ·cases ho
 case mapUpdate ty x i v=>
  split at ho
  ·rename_i hn
   rw [if_pos hn,←Bu E.T h _ (hx x (by simp [Op.operands])),←Bu E.T h _ (hx i (by simp [Op.operands])),←Bu E.T h _ (hx v (by simp [Op.operands]))]
   split at ho
   ·exact Yn E.T h ty x _ _ _ ho
   ·cases ho
  ·cases ho
 case extract x i=>
  rw [←Bu E.T h _ (hx x (by simp [Op.operands]))]
  simp only [H8]at ho;obtain⟨d,he,ha⟩:=ho;rw [he];exact VF h hd (hx x (by simp [Op.operands])) ha
 case call c=>
  have hargs: ∀x∈c.args.toList,BK pm.rd x:=fun x hx'=>hx x (by simp only [Op.operands,Call.operands];simp;right;simpa using hx')
  have hzip: ∀q∈c.args.toList.zip c.argTypes.toList,BK pm.rd q.1:=fun q hq=>hargs q.1 (WY hq).1
  cases hcal:c.callee<;>simp only [hcal]at ho ⊢
  case builtin b=>
   cases b<;>simp only at ho ⊢
   case len=>
    split at ho
    ·rename_i x ty hargs' hts
     have hxi:=hargs x (by rw [hargs'];simp)
     rw [←Bu E.T h _ hxi];simp only [H8,Cf]at ho;obtain⟨d,he,r,hr,rfl⟩:=ho;rw [he,Ce,←iG E.T h ty hxi,hr];exact DK.put h hd _
    ·cases ho
   case append=>
    split at ho
    ·rename_i x y ty ty' hargs' hts
     split at ho
     ·rename_i htt
      rw [if_pos htt];simp only [Cf]at ho;obtain⟨⟨r,s1⟩,hr,rfl⟩:=ho;have hwa: ∀x∈c.args.toList,BK pm.wr x:=fun x hx'=>hw (by obtain⟨cal,_,_⟩:=c;simp only at hcal;subst hcal;rfl) x (by simp only [Op.operands,Call.operands];simp;right;simpa using hx')
      rw [←Bu E.T h ty (hargs y (by rw [hargs'];simp))]
      by_cases hz:isZ (ev E.T s ty y)=true
      ·simp only [hz,if_true]at hr ⊢;exact DK.of hd (fun x=>x) (ak E.T h ty (hargs x (by rw [hargs'];simp)) (hwa x (by rw [hargs'];simp))) hr
      ·simp only [hz]at hr ⊢;exact DK.of hd (fun x=>x) (X3 E.T h ty (hargs x (by rw [hargs'];simp)) (hwa x (by rw [hargs'];simp)) (hargs y (by rw [hargs'];simp)) (hwa y (by rw [hargs'];simp))) hr
     ·cases ho
    ·cases ho
   case min=>
    split at ho
    ·rename_i x y ty ty' hargs' hts
     rw [←Bu E.T h ty (hargs x (by rw [hargs'];simp)),←Bu E.T h ty' (hargs y (by rw [hargs'];simp))]
     split at ho
     ·rename_i da db hea heb
      simp only [Cf]at ho;obtain⟨r,hr,rfl⟩:=ho;rw [hr];exact DK.put h hd _
     ·cases ho
    ·cases ho
   case max=>
    split at ho
    ·rename_i x y ty ty' hargs' hts
     rw [←Bu E.T h ty (hargs x (by rw [hargs'];simp)),←Bu E.T h ty' (hargs y (by rw [hargs'];simp))]
     split at ho
     ·rename_i da db hea heb
      simp only [Cf]at ho;obtain⟨r,hr,rfl⟩:=ho;rw [hr];exact DK.put h hd _
     ·cases ho
    ·cases ho
   case clear=>
    split at ho
    ·rename_i x ty hargs' hts
     rw [←Bu E.T h ty (hargs x (by rw [hargs'];simp))]
     simp only [H8,Cf]at ho;obtain⟨da,hea,⟨r,s1⟩,hr,rfl⟩:=ho;rw [hea,Ce];exact DK.of hd (fun x=>x) (Ym E.T h ty (hargs x (by rw [hargs'];simp)) da) hr
    ·cases ho
   case copy=>
    split at ho
    ·rename_i x y ty ty' hargs' hts
     rw [←Bu E.T h ty (hargs x (by rw [hargs'];simp)),←Bu E.T h ty (hargs y (by rw [hargs'];simp))]
     split at ho
     ·rename_i da db hea heb
      simp only [Cf]at ho;obtain⟨⟨r,s1⟩,hr,rfl⟩:=ho;exact DK.of hd (fun x=>x) (ai E.T h ty (hargs x (by rw [hargs'];simp)) (hargs y (by rw [hargs'];simp)) da db) hr
     ·cases ho
    ·cases ho
   all_goals (cases ho)
  case value fo=>
   cases fo<;>simp only at ho ⊢
   case func f=>
    split at ho
    ·rename_i hsz
     rw [if_pos hsz]
     split at ho
     ·rename_i hty
      rw [if_pos hty];obtain⟨s1,h1,h2⟩:=H8.1 ho;obtain⟨q1,t1,q2,q3⟩:=QV h hd (fun q hq=>hargs q.1 (WY hq).1) h1;rw [q2];exact TM q1 q3 h2
     ·rename_i hty
      rw [if_neg hty];exact QV h hd (fun q hq=>hargs q.1 (WY hq).1) ho
    ·cases ho
   case tmp u=>
    rw [←(h u (hx (.tmp u) (by simp [Op.operands,Call.operands,hcal]) u rfl)).1]
    split at ho
    ·split at ho
     ·rename_i hsz
      rw [if_pos hsz];exact QV h hd hzip ho
     ·cases ho
    ·split at ho
     ·rename_i hsz
      rw [if_pos hsz];exact iM h hd hzip ho
     ·cases ho
    ·cases ho
   all_goals (cases ho)
  all_goals (cases ho)
 all_goals (cases ho)
theorem iT{ops:Array Oper}(h:E5 pm.rd s t){o:Oper}(hg: ∀j b u,o.guard=some (j,b)→(ops[j]?).bind (·.dst)=some u→pm.rd u=true):Le ops s o=Le ops t o:=by
 unfold Le;split
 ·rfl
 ·rename_i j b hgd
  cases hj:(ops[j]?).bind (·.dst)with
  |none=>rfl
  |some u=>simp only;rw [(h u (hg j b u hgd hj)).1]
def Mo(E:Env)(ops:Array Oper)(pm:Pm)(s:St)(o:Oper):Option St:=if aJ pm s o then Iy E ops pm s (Sc E.lends ops.toList o)else none
theorem iU{ops:Array Oper}{o:Oper}(h:E5 pm.rd s t)(hd: ∀u,o.dst=some u→pm.wr u=true)(hx: ∀x∈o.op.operands.toList,BK pm.rd x)
  (hw:tak o.op=true→ ∀x∈o.op.operands.toList,BK pm.wr x)(hg: ∀j b u,o.guard=some (j,b)→(ops[j]?).bind (·.dst)=some u→pm.rd u=true)
  (ho:Mo E ops pm s o=some s'):DK pm s t s' (Mo E ops pm t o):=by
 unfold Mo at ho ⊢
 split at ho
 ·rename_i hm
  have hmt:aJ pm t o=true:=by
   unfold aJ at hm ⊢;split
   ·rename_i u hu
    simp only [hu]at hm;rw [←(h u (hx (.tmp u) (by simp [hu,Op.operands]) u rfl)).1];exact hm
   ·rfl
  rw [if_pos hmt];unfold Iy at ho ⊢;have hwd: ∀q,Le ops q (Sc E.lends ops.toList o)=Le ops q o:=fun _=>rfl;rw [hwd]at ho ⊢;rw [←iT h hg]
  split at ho
  ·exact pV (o:=Sc E.lends ops.toList o) h hd hx hw hm ho
  ·simp only [al]at ho;subst ho;exact DK.put h hd _
  ·cases ho
 ·cases ho
end
end Dv
namespace Dv
open Go
theorem St.eq_of{s t:St}(h: ∀r,s.v r=t.v r∧s.k r=t.k r∧s.m r=t.m r):s=t:=by
 obtain⟨v,k,m⟩:=s;obtain⟨v',k',m'⟩:=t;have h1:v=v':=funext fun r=>(h r).1;have h2:k=k':=funext fun r=>(h r).2.1;have h3:m=m':=funext fun r=>(h r).2.2
 subst h1 h2 h3;rfl
section
variable {E:Env} {ops:Array Oper} {l:List Oper} {lends:am→Bool}
theorem NV{o:Oper}{u:Nat}:u∈FN o↔Operand.tmp u∈o.op.operands.toList:=by
 simp only [FN,List.mem_filterMap]
 constructor
 ·rintro⟨x,hx,hu⟩
  cases x<;>simp at hu
  subst hu;exact hx
 ·intro h;exact⟨_,h,rfl⟩
theorem Dc{o:Oper}{u:Nat}(h:o.dst=some u):u∈FJ l o:=by
 simp [FJ,h]
theorem Hf{o:Oper}{u:Nat}(h:u∈FN o):u∈FJ l o:=by
 simp [FJ,h]
theorem av{o:Oper}{u:Nat}(h:o.dst=some u):u∈EK lends l o:=by
 unfold EK;split
 ·split
  ·simp [h]
  ·exact Dc h
 split
 ·simp [h]
 ·split
  ·simp [h]
  ·simp [h]
  ·split
   ·simp [h]
   ·split<;>simp [h]
  ·simp [h]
  ·simp [h]
  ·split
   ·simp [h]
   ·exact Dc h
  ·split
   ·simp [h]
   ·exact Dc h
  ·split
   ·simp [h]
   ·exact Dc h
  ·exact Dc h
theorem MR{o:Oper}{r:Nat}(h:r∈EK lends l o):r∈FJ l o:=by
 unfold EK at h
 split at h
 ·split at h
  ·unfold FJ;simp only [ME]at h ⊢;rcases h with(h|h)|h<;>simp [h]
  ·exact h
 split at h
 ·exact Dc (by simpa using h)
 ·split at h
  ·rename_i u hu
   simp only [ME]at h;rcases h with h|h
   ·exact Dc (by simpa using h)
   ·split at h
    ·simp only [List.mem_singleton]at h;subst h;exact Hf (NV.2 (by simp [hu,Op.operands]))
    ·cases h
  ·exact Dc (by simpa using h)
  ·rename_i hop
   split at h
   ·rcases ME.1 h with h|h
    ·unfold FJ;simp only [ME]at h ⊢;rcases h with(h|h)|h<;>simp [h]
    ·obtain⟨u,hu,rfl⟩:=JH.1 h;have hu:=(aw.1 hu).1;unfold FJ Rl;rw [hop];simp only [ME,JH];exact .inl (.inr ⟨u,hu,rfl⟩)
   ·split at h
    ·rcases ME.1 h with h|h
     ·exact Dc (by simpa using h)
     ·exact Hf h
    ·exact Dc (by simpa using h)
  ·rename_i hop
   rcases ME.1 h with h|h
   ·rcases ME.1 h with h|h
    ·exact Dc (by simpa using h)
    ·exact Hf h
   ·obtain⟨u,hu,rfl⟩:=JH.1 h;have hu:=(aw.1 hu).1;unfold FJ Rl;rw [hop];simp only [ME,JH];exact .inl (.inr ⟨u,hu,rfl⟩)
  ·rename_i hop
   rcases ME.1 h with h|h
   ·rcases ME.1 h with h|h
    ·exact Dc (by simpa using h)
    ·exact Hf h
   ·obtain⟨u,hu,rfl⟩:=JH.1 h;have hu:=(aw.1 hu).1;unfold FJ Rl;rw [hop];simp only [ME,JH];exact .inl (.inr ⟨u,hu,rfl⟩)
  ·split at h
   ·rcases ME.1 h with h|h
    ·exact Dc (by simpa using h)
    ·exact Hf h
   ·exact h
  ·split at h
   ·exact Dc (by simpa using h)
   ·exact h
  ·split at h
   ·rcases ME.1 h with h|h
    ·exact Dc (by simpa using h)
    ·exact Hf h
   ·exact h
  ·exact h
theorem ay{o:Oper}(h:tak o.op=true){u:Nat}(hu:u∈FN o):u∈EK lends l o:=by
 have hn:u∈FJ l o:=Hf hu;unfold EK;split
 ·split
  ·exact List.mem_append_right _ hu
  ·exact hn
 cases hop:o.op<;>simp only [hop,tak]at h<;>try (cases h;done)
 all_goals (try (simp [Op.calm,hn,hu];done))
 ·simp only [Op.calm,JF,if_false];split
  ·exact List.mem_append_right _ hu
  ·exact hn
 rename_i c
 obtain⟨cal,_,_⟩:=c
 cases cal with
 |builtin b=>cases b<;>first|(simp [Op.calm,hn];done)|(cases h;done)|(simp only [Op.calm,JF,if_false];split<;>simp [hn,hu])
 |_=>cases h
theorem PR{o:Oper}{r:Nat}(h:r∈FJ l o):(IE lends l o).rd r=true:=by
 simp [IE,h]
theorem KN{o:Oper}{r:Nat}:(IE lends l o).wr r=true↔r∈EK lends l o:=by
 simp [IE]
theorem NW(hl:l=ops.toList){s t s':St}{o:Oper}(h:E5 (IE E.lends l o).rd s t)(ho:Mo E ops (IE E.lends l o) s o=some s'):
  DK (IE E.lends l o) s t s' (Mo E ops (IE E.lends l o) t o):=by
 refine iU h (fun u hu=>KN.2 (av hu)) (fun x hx u hu=>PR (Hf (NV.2 (hu▸hx)))) (fun ht x hx u hu=>KN.2 ?_) (fun j b u hg hj=>PR ?_) ho
 ·exact ay ht (NV.2 (hu▸hx))
 ·have hj':(l[j]?).bind (·.dst)=some u:=by rw [hl];simpa using hj
  simp [FJ,hg,hj']
theorem Qz{a b:List Nat}(h:dZ a b=false): ∀r,r∈a→r ∉ b:=by
 intro r hr hb;simp only [dZ,List.any_eq_false,WV]at h;exact h r hr hb
theorem kY{s s1:St}{oi oj:Oper}(hj:oj∈l)(hs:Bo (IE lends l oj).wr s s1)(hm: ∀r,r∈EK lends l oj→r ∉ FJ l oi):E5 (IE lends l oi).rd s1 s:=by
 intro r hr
 have hnw:(IE lends l oj).wr r=false:=by
  cases hw:(IE lends l oj).wr r with
  |false=>rfl
  |true=>
   rw [KN]at hw;have h1:=hm r hw;have h2:r∈l.flatMap (EK lends l):=List.mem_flatMap.2 ⟨oj,hj,hw⟩;simp only [IE,NE,WV,Ku]at hr;rcases hr with hr|hr
   ·exact(h1 hr).elim
   ·rw [←Bool.not_eq_true,WV]at hr
    exact(hr h2).elim
 exact hs r hnw
theorem E5.symm{A:Nat→Bool}{s t:St}(h:E5 A s t):E5 A t s:=fun r hr=>⟨(h r hr).1.symm,(h r hr).2.1.symm,(h r hr).2.2.symm⟩
theorem E5.refl{A:Nat→Bool}{s:St}:E5 A s s:=fun _ _=>⟨rfl,rfl,rfl⟩
theorem swap(hl:l=ops.toList){s s1 s2:St}{oi oj:Oper}(hi:oi∈l)(hj:oj∈l)(h1: ∀r,r∈EK E.lends l oj→r ∉ FJ l oi)(h2: ∀r,r∈EK E.lends l oi→r ∉ FJ l oj)
  (a:Mo E ops (IE E.lends l oj) s oj=some s1)(b:Mo E ops (IE E.lends l oi) s1 oi=some s2):
  ∃t1,Mo E ops (IE E.lends l oi) s oi=some t1∧Mo E ops (IE E.lends l oj) t1 oj=some s2:=by
 have sj:=(NW hl E5.refl a).1;obtain⟨si,t1,e1,a1⟩:=NW hl (kY hj sj h1) b;have si':=(NW hl E5.refl e1).1;obtain⟨_,t2,e2,a2⟩:=NW hl (kY hi si' h2).symm a;have sj':=(NW hl E5.refl e2).1
 refine⟨t1,e1, ?_⟩
 rw [e2]
 congr 1
 refine St.eq_of fun r=> ?_;by_cases hwi:r∈EK E.lends l oi
 ·have hnj:(IE E.lends l oj).wr r=false:=by
   cases hw:(IE E.lends l oj).wr r with
   |false=>rfl
   |true=>exact(h1 r (KN.1 hw) (MR hwi)).elim
  obtain⟨p1,p2,p3⟩:=sj' r hnj;obtain⟨q1,q2,q3⟩:=a1 r (PR (MR hwi))
  exact⟨p1.trans q1.symm,p2.trans q2.symm,p3.trans q3.symm⟩
 ·have hni:(IE E.lends l oi).wr r=false:=by
   cases hw:(IE E.lends l oi).wr r with
   |false=>rfl
   |true=>exact(hwi (KN.1 hw)).elim
  obtain⟨p1,p2,p3⟩:=si r hni;by_cases hwj:r∈EK E.lends l oj
  ·obtain⟨q1,q2,q3⟩:=a2 r (PR (MR hwj))
   exact⟨(p1.trans q1).symm,(p2.trans q2).symm,(p3.trans q3).symm⟩
  ·have hnj:(IE E.lends l oj).wr r=false:=by
    cases hw:(IE E.lends l oj).wr r with
    |false=>rfl
    |true=>exact(hwj (KN.1 hw)).elim
   obtain⟨q1,q2,q3⟩:=sj r hnj;obtain⟨u1,u2,u3⟩:=sj' r hnj;obtain⟨x1,x2,x3⟩:=si' r hni
   exact⟨(u1.trans x1).trans (p1.trans q1).symm,(u2.trans x2).trans (p2.trans q2).symm,(u3.trans x3).trans (p3.trans q3).symm⟩
def stI(E:Env)(ops:Array Oper)(l:List Oper)(s:St)(i:Nat):Option St:=
 match ops[i]? with
 |some o=>Mo E ops (IE E.lends l o) s o
 |none=>none
def TN(E:Env)(ops:Array Oper)(l:List Oper):St→List Nat→Option St
 |s,[]=>some s
 |s,i::is=>(stI E ops l s i).bind fun s'=>TN E ops l s' is
theorem az: ∀(q:List Oper) (k:Nat) (s:St),ops.toList.drop k=q→OU E ops l s q=TN E ops l s (List.range' k q.length):=by
 intro q
 induction q with
 |nil=>intro k s _;rfl
 |cons o q ih=>
  intro k s hq
  have hk:ops[k]? =some o:=by
   have:(ops.toList.drop k)[0]? =some o:=by rw [hq];rfl
   rw [Ms]at this;simpa using this
  have hd:ops.toList.drop (k+1)=q:=by rw [←List.drop_drop,hq];rfl
  simp only [OU,OI,List.range'_succ,TN,stI,hk,Mo];split
  ·cases Iy E ops (IE E.lends l o) s (Sc E.lends ops.toList o)with
   |none=>rfl
   |some s1=>simp only [Ce];exact ih (k+1) s1 hd
  ·rfl
def A2x(lends:am→Bool)(ops:Array Oper)(l:List Oper)(j i:Nat):Prop:=
 ∀oi oj,ops[i]? =some oi→ops[j]? =some oj→(∀r,r∈EK lends l oj→r ∉ FJ l oi)∧(∀r,r∈EK lends l oi→r ∉ FJ l oj)
theorem bA(hl:l=ops.toList){i:Nat}{post:List Nat}: ∀(pre:List Nat) {s s':St},(∀j∈pre,A2x E.lends ops l j i)→TN E ops l s (pre++i::post)=some s'→
  ∃t,stI E ops l s i=some t∧TN E ops l t (pre++post)=some s':=by
 intro pre
 induction pre with
 |nil=>
  intro s s' _ h;simp only [V4,TN,H8]at h;exact h
 |cons j pre ih=>
  intro s s' hf h;simp only [QG,TN,H8]at h;obtain⟨s1,e1,h⟩:=h;obtain⟨s2,e2,h⟩:=ih (fun j' hj'=>hf j' (Je _ hj')) h;unfold stI at e1 e2
  cases hj:ops[j]? with
  |none=>simp [hj]at e1
  |some oj=>
   cases hi:ops[i]? with
   |none=>simp [hi]at e2
   |some oi=>
    simp only [hj]at e1;simp only [hi]at e2;obtain⟨f1,f2⟩:=hf j (LX) oi oj hi hj;have mi:oi∈l:=by rw [hl];exact Uy (i:=i) (by simpa using hi)
    have mj:oj∈l:=by rw [hl];exact Uy (i:=j) (by simpa using hj)
    obtain⟨t1,g1,g2⟩:=swap hl mi mj f1 f2 e1 e2
    refine⟨t1,by simp [stI,hi,g1], ?_⟩
    simp only [QG,TN,stI,hj,g2,Ce];exact h
def I4(acc:List Nat)(o:Oper):List Nat:=acc++[Wi acc o]
theorem TP(a:List Oper):Rm a=a.foldl I4 []:=rfl
theorem pW: ∀(q:List Oper) (acc:List Nat),∃ext,q.foldl I4 acc=acc++ext∧ext.length=q.length:=by
 intro q
 induction q with
 |nil=>intro acc;exact⟨[],by simp,rfl⟩
 |cons o q ih=>
  intro acc;obtain⟨ext,h1,h2⟩:=ih (I4 acc o)
  exact⟨_::ext,by rw [WX,h1,I4,P8];rfl,by simp [h2]⟩
theorem bB{acc acc':List Nat}{o:Oper}(h: ∀e∈o.after.toList,Region.binds .any e=true→acc.getD e.on 0=acc'.getD e.on 0):Wi acc o=Wi acc' o:=by
 unfold Wi;generalize o.after.toList=l at h;generalize (0:Nat)=m0 at h ⊢
 suffices hs: ∀(m:Nat),l.foldl (fun m e=>if Region.binds .any e then(m ||| 2 ^ e.on) ||| acc.getD e.on m0 else m) m=l.foldl (fun m e=>if Region.binds .any e then(m ||| 2 ^ e.on) ||| acc'.getD e.on m0 else m) m from hs m0
 induction l with
 |nil=>intro m;rfl
 |cons e l ih=>
  intro m;rw [WX,WX]
  have:(if Region.binds .any e then(m ||| 2 ^ e.on) ||| acc.getD e.on m0 else m)=(if Region.binds .any e then(m ||| 2 ^ e.on) ||| acc'.getD e.on m0 else m):=by
   split
   ·rename_i hb;rw [h e (LX) hb]
   ·rfl
  rw [this];exact ih (fun e' he'=>h e' (Je _ he')) _
theorem WA{acc:List Nat}{o:Oper}{j:Nat}(h:(Wi acc o).testBit j=true): ∃e∈o.after.toList,Region.binds .any e=true∧(j=e.on∨(acc.getD e.on 0).testBit j=true):=by
 unfold Wi at h
 suffices hs: ∀(l:List _) (m:Nat),(l.foldl (fun m e=>if Region.binds .any e then(m ||| 2 ^ e.on) ||| acc.getD e.on 0 else m) m).testBit j=true→m.testBit j=true∨ ∃e∈l,Region.binds .any e=true∧(j=e.on∨(acc.getD e.on 0).testBit j=true) by
  rcases hs _ _ h with h0|h0
  ·simp at h0
  ·exact h0
 intro l
 induction l with
 |nil=>intro m hm;exact .inl hm
 |cons e l ih=>
  intro m hm;rw [WX]at hm;rcases ih _ hm with h1|⟨e',he',h2⟩
  ·split at h1
   ·rename_i hb
    rw [Nat.testBit_or,Nat.testBit_or,NE,NE]at h1;rcases h1 with(h1|h1)|h1
    ·exact .inl h1
    ·rw [Nat.testBit_two_pow,decide_eq_true_eq]at h1;exact .inr ⟨e,LX,hb,.inl h1.symm⟩
    ·exact .inr ⟨e,LX,hb,.inr h1⟩
   ·exact .inl h1
  ·exact .inr ⟨e',Je _ he',h2⟩
theorem dn: ∀(q:List Oper) (acc:List Nat) (i:Nat) (o:Oper),q[i]? =some o→(∀e∈o.after.toList,Region.binds .any e=true→e.on<acc.length+i)→
  (q.foldl I4 acc).getD (acc.length+i) 0=Wi (q.foldl I4 acc) o:=by
 intro q
 induction q with
 |nil=>intro acc i o h;simp at h
 |cons p q ih=>
  intro acc i o hi he
  cases i with
  |zero=>
   simp only [OH,al]at hi;subst hi;obtain⟨ext,h1,h2⟩:=pW q (I4 acc p);rw [WX,h1]
   have h3:(I4 acc p++ext).getD (acc.length+0) 0=Wi acc p:=by
    simp [I4,K5]
   rw [h3];refine bB fun e hm hb=> ?_;have:=he e hm hb
   simp only [I4,P8,K5];rw [ND (by omega)]
  |succ i=>
   simp only [QF]at hi;have hlen:(I4 acc p).length=acc.length+1:=by simp [I4]
   have:=ih (I4 acc p) i o hi (fun e hm hb=>by rw [hlen];have:=he e hm hb;omega)
   rw [WX];rw [hlen]at this;rw [show acc.length+(i+1)=acc.length+1+i by omega]
   exact this
def kZ(ops:Array Oper)(listed:Array Bool):Prop:=
 ∀(i:Nat) (o:Oper),ops[i]? =some o→listed.getD i false=true→ ∀e∈o.after.toList,Region.binds .any e=true→listed.getD e.on false=true
def kg(ops:Array Oper):Prop:= ∀(i:Nat) (o:Oper),ops[i]? =some o→ ∀e∈o.after.toList,Region.binds .any e=true→e.on<i
theorem TQ(hb:kg ops){listed:Array Bool}(hc:kZ ops listed): ∀(n i:Nat) (o:Oper),i≤n→ops[i]? =some o→(∀e∈o.after.toList,Region.binds .any e=true→listed.getD e.on false=true)→
  ∀j,((Rm ops.toList).getD i 0).testBit j=true→listed.getD j false=true:=by
 intro n
 induction n with
 |zero=>
  intro i o hi ho _ j hj;have:i=0:=by omega
  subst this;have h:=dn ops.toList [] 0 o (by simpa using ho) (fun e hm hbi=>by have:=hb 0 o ho e hm hbi;omega)
  rw [TP]at hj;simp only [SI,JG]at h;rw [h]at hj;obtain⟨e,hm,hbi,hj⟩:=WA hj;have:=hb 0 o ho e hm hbi;omega
 |succ n ih=>
  intro i o hi ho hl j hj;have h:=dn ops.toList [] i o (by simpa using ho) (fun e hm hbi=>by have:=hb i o ho e hm hbi;simpa using this)
  rw [TP]at hj;simp only [SI,JG]at h;rw [h]at hj;obtain⟨e,hm,hbi,hj⟩:=WA hj;have hlt:=hb i o ho e hm hbi;have hle:=hl e hm hbi;rcases hj with rfl|hj
  ·exact hle
  ·have hon:e.on<ops.size:=by
    have:i<ops.size:=(Uw.1 ho).1
    omega
   exact ih e.on ops[e.on] (by omega) (K6 hon) (hc e.on _ (K6 hon) hle) j hj
theorem X5(h:NM lends ops.toList=true):kg ops:=by
 simp only [NM,FM,Ir]at h;intro i o ho e hm hb;have:=h.1 (o,i) (by rw [List.mem_zipIdx_iff_getElem?];simpa using ho) e hm
 simpa [hb] using this
theorem Yr(h:NM lends ops.toList=true){i j:Nat}(hji:j<i)(hi:i<ops.size)(hn: ¬((Rm ops.toList).getD i 0).testBit j=true):A2x lends ops ops.toList j i:=by
 simp only [NM,FM,Ir]at h;have:=h.2 i (by simpa using hi) j (by simpa using hji)
 simp only [NE,FM,Ku]at this;rcases this with hc|⟨h1,h2⟩
 ·exact(hn hc).elim
 ·intro oi oj hoi hoj;have gi:ops.toList[i]? =some oi:=by simpa using hoi
  have gj:ops.toList[j]? =some oj:=by simpa using hoj
  simp only [K5,MC,gi,gj,Mv,YE]at h1 h2
  exact⟨Qz h1,fun r hw hn=>Qz h2 r hn hw⟩
def rem(n:Nat)(listed:Array Bool):List Nat:=(an n).filter fun i=> !listed.getD i true
theorem R3{n i:Nat}(h:i<n):an n=an i++i::List.range' (i+1) (n-i-1):=by
 have h1:n=i+((n-i-1)+1):=by omega
 rw [ba,ba]
 conv=>lhs;rw [h1,←List.range'_append_1]
 rw [List.range'_succ]
 simp
theorem Jh{listed:Array Bool}{i j:Nat}(h:j≠i)(b c:Bool):(listed.setIfInBounds i b).getD j c=listed.getD j c:=by
 simp only [MB];rw [Array.getElem?_setIfInBounds_ne (Ne.symm h)]
theorem R4{listed:Array Bool}{i:Nat}(h:i<listed.size)(b c:Bool):(listed.setIfInBounds i b).getD i c=b:=by
 simp [MB,h]
theorem iV{n i:Nat}{listed:Array Bool}(hsz:listed.size=n)(hi:i<n)(hl:listed.getD i true=false):
  ∃pre post,rem n listed=pre++i::post∧rem n (listed.setIfInBounds i true)=pre++post∧ ∀j∈pre,j<i∧listed.getD j true=false:=by
 refine⟨(an i).filter fun i=> !listed.getD i true,(List.range' (i+1) (n-i-1)).filter fun i=> !listed.getD i true, ?_, ?_,fun j hj=> ?_⟩
 ·rw [rem,R3 hi,List.filter_append,List.filter_cons];simp [hl]
 ·rw [rem,R3 hi,List.filter_append,List.filter_cons,R4 (by omega)]
  simp only [Bool.not_true,JF,if_false]
  congr 1
  ·refine List.filter_congr fun j hj=> ?_;rw [Jh (by simp at hj;omega)]
  ·refine List.filter_congr fun j hj=> ?_;rw [Jh (by simp [List.mem_range']at hj;omega)]
 ·simp only [aw,MF,Ku]at hj;exact hj
theorem PS{listed:Array Bool}{i:Nat}(h:i<listed.size)(b c:Bool):listed.getD i b=listed.getD i c:=by
 simp [MB,h]
theorem O5{listed:Array Bool}{i:Nat}:i∈Region.ready .any ops listed↔ ∃o,ops[i]? =some o∧listed.getD i true=false∧ ∀e∈o.after.toList,Region.binds .any e=true→listed.getD e.on false=true:=by
 simp only [Region.ready,aw,MF,FM,Ku]
 constructor
 ·rintro⟨h1,h2,h3⟩
  refine⟨ops[i],K6 h1,h2,fun e he hb=> ?_⟩
  rw [K6 h1]at h3;simp only [Mv,YE,Array.all_eq_true_iff_forall_mem,NE,Ku]at h3;rcases h3 e (by simpa using he)with h|h
  ·rw [hb]at h;cases h
  ·exact h
 ·rintro⟨o,ho,h2,h3⟩
  refine⟨(Uw.1 ho).1,h2, ?_⟩
  rw [ho];simp only [Mv,YE,Array.all_eq_true_iff_forall_mem,NE,Ku];intro e he
  cases hb:Region.binds .any e with
  |false=>exact .inl rfl
  |true=>exact .inr (h3 e (by simpa using he) hb)
theorem iW(hb:kg ops){listed:Array Bool}(hsz:listed.size=ops.size)(h:Region.ready .any ops listed=[]):rem ops.size listed=[]:=by
 have key: ∀(n i:Nat),i≤n→i<ops.size→listed.getD i false=true:=by
  intro n
  induction n with
  |zero=>
   intro i hi hlt;have:i=0:=by omega
   subst this;rw [PS (by omega) false true]
   cases hl:listed.getD 0 true with
   |true=>rfl
   |false=>
    have:0∈Region.ready .any ops listed:=O5.2 ⟨ops[0],K6 hlt,hl,fun e he hbi=>by have:=hb 0 _ (K6 hlt) e he hbi;omega⟩
    rw [h]at this;cases this
  |succ n ih=>
   intro i hi hlt;rw [PS (by omega) false true]
   cases hl:listed.getD i true with
   |true=>rfl
   |false=>
    have:i∈Region.ready .any ops listed:=O5.2 ⟨ops[i],K6 hlt,hl,fun e he hbi=>by
     have:=hb i _ (K6 hlt) e he hbi
     exact ih e.on (by omega) (by omega)⟩
    rw [h]at this;cases this
 rw [rem,List.filter_eq_nil_iff];intro i hi;have:=key i i (IB _) (by simpa using hi)
 rw [PS (by simp at hi;omega) true false,this];simp
theorem ko{P:Program}{N:Nat}{gh:Nat→Value}(hT:BZ P E.T)(hC:Jd P E)(hops: ∀(j:Nat) (o:Oper),ops[j]? =some o→PL N o)(hok:NM E.lends ops.toList=true):
  ∀(fuel:Nat) (listed:Array Bool) {s s':St} {a:Act} {w:World} {S:Nat→Prop} {Fs:Nat→Nat→Prop} {Q:Exit→Act→World→Prop},
  listed.size=ops.size→kZ ops listed→(rem ops.size listed).length≤fuel→Fr E.T N gh s a w S Fs→TN E ops ops.toList s (rem ops.size listed)=some s'→
  (∀a' w',CB E.T gh N s' w S Fs a' w'→Q .normal a' w')→wpAny P .any ops Q fuel listed a w:=by
 have hb:=X5 hok
 have hdone: ∀ {listed:Array Bool} {s s':St} {a:Act} {w:World} {S:Nat→Prop} {Fs:Nat→Nat→Prop} {Q:Exit→Act→World→Prop},rem ops.size listed=[]→Fr E.T N gh s a w S Fs→TN E ops ops.toList s (rem ops.size listed)=some s'→
   (∀a' w',CB E.T gh N s' w S Fs a' w'→Q .normal a' w')→Q .normal a w:=by
  intro listed s s' a w S Fs Q hr hf hrun hQ;rw [hr]at hrun;simp only [TN,al]at hrun;subst hrun;exact hQ a w ⟨S,Fs,hf.rel,Step.refl _ _ _,hf.defs,hf.size⟩
 intro fuel
 induction fuel with
 |zero=>
  intro listed s s' a w S Fs Q hsz hc hlen hf hrun hQ;have hr:rem ops.size listed=[]:=Zw (by omega)
  refine⟨?_,hdone hr hf hrun hQ⟩
  rw [List.eq_nil_iff_forall_not_mem];intro i hi;obtain⟨o,ho,hl,_⟩:=O5.1 hi
  have:i∈rem ops.size listed:=by
   simp only [rem,aw,MF,hl]
   exact⟨(Uw.1 ho).1,rfl⟩
  rw [hr]at this;cases this
 |succ fuel ih=>
  intro listed s s' a w S Fs Q hsz hc hlen hf hrun hQ
  refine⟨fun hr=>hdone (iW hb hsz hr) hf hrun hQ,fun i hi=> ?_⟩
  obtain⟨o,ho,hl,he⟩:=O5.1 hi;have hlt:i<ops.size:=(Uw.1 ho).1;obtain⟨pre,post,e1,e2,hpre⟩:=iV hsz hlt hl;rw [e1]at hrun hlen
  obtain⟨t,ht,hrun'⟩:=bA rfl pre (fun j hj=>by
   obtain⟨hji,hjl⟩:=hpre j hj;refine Yr hok hji hlt (fun hm=> ?_);have:=TQ hb hc i i o (IB _) ho he j hm
   rw [PS (by omega) false true,hjl]at this;cases this) hrun
  have hst:Iy E ops (IE E.lends ops.toList o) s (Sc E.lends ops.toList o)=some t:=by
   simp only [stI,ho,Mo]at ht
   split at ht
   ·exact ht
   ·cases ht
  refine aa hT hC hf hops ho hst (fun a' w' hp=> ?_);obtain⟨S',Fs',hf',hst'⟩:=hp.fr hf.small;refine ih _ (by simp [hsz]) ?_ (by rw [e2];simp at hlen ⊢;omega) hf' (by rw [e2];exact hrun') (fun a2 w2 hp2=>hQ a2 w2 (hp2.back hst'))
  intro k ok hk hkl e hm hbi;by_cases hki:k=i
  ·subst hki;rw [ho]at hk;simp only [al]at hk;subst hk;have hon:=hb k o ho e hm hbi;rw [Jh (by omega)]
   exact he e hm hbi
  ·rw [Jh hki]at hkl;have:=hc k ok hk hkl e hm hbi
   by_cases hei:e.on=i
   ·rw [hei,R4 (by omega)]
   ·rw [Jh hei];exact this
theorem Fr.drawn{T:Tys}{N:Nat}{gh:Nat→Value}{s:St}{a:Act}{w:World}{S:Nat→Prop}{Fs:Nat→Nat→Prop}(h:Fr T N gh s a w S Fs)(n:Nat):Fr T N gh s a {w with drawn:=n} S Fs:=
 ⟨h.rel.grow (fun _ _=>rfl) (IB _),h.defs,h.size,h.small⟩
theorem pX{P:Program}(hm:P.follows .mixedOrders=true)(hT:BZ P E.T)(hC:Jd P E):dm P E:=by
 intro s s' gh a w S Fs N id ops Q hf hk hok hd hQ;have hops: ∀(j:Nat) (o:Oper),ops[j]? =some o→PL N o:=fun j o ho=>dh (Ir.1 hk o (by simpa using Array.mem_of_getElem? ho))
 refine wp_region_any hm ?_
 have hrem:rem ops.size (Array.replicate ops.size false)=an ops.size:=by
  rw [rem,List.filter_eq_self];intro i hi;simp at hi;simp [MB,hi]
 refine ko (s':=s') hT hC hops hok ops.size _ (by simp) ?_ (by rw [hrem];simp) (hf.drawn _) ?_ (fun a' w' hp=>hQ a' w' ?_)
 ·intro i o ho hl;have:i<ops.size:=(Uw.1 ho).1
  simp [MB,this]at hl
 ·rw [az ops.toList 0 s rfl]at hd;rw [hrem,ba];simpa using hd
 ·obtain⟨S',Fs',h1,h2,h3,h4⟩:=hp
  exact⟨S',Fs',h1,⟨h2.os,h2.tape,h2.output,h2.size,h2.heap,h2.sS,h2.sS',h2.sF⟩,h3,h4⟩
end
end Dv
namespace Dv
open Go
def VG(gh:Nat→Value):AJ→Nat→Nat→Value→Prop:=fun L n m v=> ∃j,L=[G+j]∧n=0∧m=0∧v=gh j
def pY(s:St)(w:World)(rv:Nat→Value)(L:AJ)(c:D)(v:Value):Prop:=
 c.isObj=true∧((L=[]∧(∃e,c= .own e [])∧ ∃A,v= .slice A 0 0)∨ ∃t p,L=t::p∧BL (s.v t) p=some c∧Dr w rv L=some v)
section
variable {T:Tys} {s s':St} {rv:Nat→Value} {w w':World} {S S':Nat→Prop} {Fs:Nat→Nat→Prop} {pm:Pm}
variable {V:AJ→Nat→Nat→Value→Prop} {Vp:AJ→Nat→Nat→Nat→Value→Prop}
mutual
theorem X6: ∀(d:D) {v:Value} {F:Nat→Prop},W T S w V Vp d v F→(EG d).isSome=true→W T S w V0 Hy d v F
 | .own e xs,_,_,h,ho=>by
  cases h with
  |own0 h=>exact .own0 h
  |own us Fi hb hz hn hc hm hx hF hFb hd hS hw=>
   refine .own us Fi hb hz hn hc hm hx hF hFb hd hS (fun i x hi=>PT xs (by simpa [EG] using ho) i x hi (hw i x hi))
 | .box xs,_,_,h,ho=>by
  cases h with
  |box us Fi hb hz hx hF hFb hd hS hw=>
   exact .box us Fi hb hz hx hF hFb hd hS (fun i x hi=>PT xs (by simpa [EG] using ho) i x hi (hw i x hi))
 | .agg xs,_,_,h,ho=>by
  cases h with
  |agg us Fi hz hx hF hd hw=>exact .agg us Fi hz hx hF hd (fun i x hi=>PT xs (by simpa [EG] using ho) i x hi (hw i x hi))
 | .tup xs,_,_,h,ho=>by
  cases h with
  |tup us Fi hz hx hF hd hw=>exact .tup us Fi hz hx hF hd (fun i x hi=>PT xs (by simpa [EG] using ho) i x hi (hw i x hi))
 | .vw _ _ _,_,_,_,ho=>by simp [EG]at ho
 | .pe _ _ _ _,_,_,_,ho=>by simp [EG]at ho
 | .vs _ _ _ _ _ _,_,_,_,ho=>by simp [EG]at ho
 | .undef,_,_,_,ho=>by simp [EG]at ho
 | .int k n,_,_,h,_=>by cases h with|int h=>exact .int h
 | .bool b,_,_,h,_=>by cases h with|bool h=>exact .bool h
 | .str x,_,_,h,_=>by cases h with|str h=>exact .str h
 | .konst v,_,_,h,_=>by cases h with|konst h=>exact .konst h
 | .sl e xs,_,_,h,_=>by cases h with|sl us h hn hc hm hx hw=>exact .sl us h hn hc hm hx hw
 | .clo f xs,_,_,h,_=>by cases h with|clo us h hz hx hw=>exact .clo us h hz hx hw
 | .ocl _ _ _,_,_,_,ho=>by simp [EG]at ho
 | .cptr xs,_,_,h,_=>by cases h with|cptr us h hx hw=>exact .cptr us h hx hw
theorem PT: ∀(xs:List D),(DY xs).isSome=true→ ∀(i:Nat) (x:D),xs[i]? =some x→ ∀ {v:Value} {F:Nat→Prop},W T S w V Vp x v F→W T S w V0 Hy x v F
 | [],_,i,x,hi,_,_,_=>by simp at hi
 |d::ds,ho,i,x,hi,_,_,h=>by
  simp only [DY,Option.isSome_bind,Option.any_eq_true,Option.isSome_map]at ho;obtain⟨d',hd,hds⟩:=ho
  cases i with
  |zero=>
   simp only [OH,al]at hi;subst hi;exact X6 d h (by simp [hd])
  |succ i=>
   simp only [QF]at hi;exact PT ds hds i x hi h
end
theorem A0D{d:D}{v:Value}{F:Nat→Prop}(h:W T S' w V Vp d v F):Dn d=false→(∀k,F k→ ¬S k)→W T S w V Vp d v F:=by
 have hsl: ∀(xs:List D),Dp xs=false→ ∀(i:Nat) (x:D),xs[i]? =some x→Dn x=false:=by
  intro xs
  induction xs with
  |nil=>intro _ i x hi;simp at hi
  |cons d ds ih=>
   intro hx i x hi;simp only [Dp,Bool.or_eq_false_iff]at hx
   cases i with
   |zero=>simp at hi;subst hi;exact hx.1
   |succ i=>simp at hi;exact ih hx.2 i x hi
 induction h with
 |undef h=>exact fun _ _=> .undef h
 |int h=>exact fun _ _=> .int h
 |bool h=>exact fun _ _=> .bool h
 |str h=>exact fun _ _=> .str h
 |konst h=>exact fun _ _=> .konst h
 |sl us h hn hc hm hx hw ih=>
  intro hs _;simp only [Dn,Bool.not_eq_false',List.isEmpty_iff]at hs;subst hs;exact .sl us h hn hc hm (by simp) (by simp)
 |own0 h=>exact fun _ _=> .own0 h
 |own us Fi hb hz hn hc hm hx hF hFb hd hSb hw ih=>
  intro hs hk;exact .own us Fi hb hz hn hc hm hx hF hFb hd (hk _ ((hF _).2 (.inl rfl))) (fun i x hi=>ih i x hi (hsl _ (by simpa [Dn] using hs) i x hi) (fun k hf=>hk k ((hF k).2 (.inr ⟨i,(ES.1 hi).1,hf⟩))))
 |box us Fi hb hz hx hF hFb hd hSb hw ih=>
  intro hs hk;exact .box us Fi hb hz hx hF hFb hd (hk _ ((hF _).2 (.inl rfl))) (fun i x hi=>ih i x hi (hsl _ (by simpa [Dn] using hs) i x hi) (fun k hf=>hk k ((hF k).2 (.inr ⟨i,(ES.1 hi).1,hf⟩))))
 |cptr us h hx hw ih=>intro hs;simp [Dn]at hs
 |agg us Fi hz hx hF hd hw ih=>
  intro hs hk;exact .agg us Fi hz hx hF hd (fun i x hi=>ih i x hi (hsl _ (by simpa [Dn] using hs) i x hi) (fun k hf=>hk k ((hF k).2 ⟨i,(ES.1 hi).1,hf⟩)))
 |tup us Fi hz hx hF hd hw ih=>
  intro hs hk;exact .tup us Fi hz hx hF hd (fun i x hi=>ih i x hi (hsl _ (by simpa [Dn] using hs) i x hi) (fun k hf=>hk k ((hF k).2 ⟨i,(ES.1 hi).1,hf⟩)))
 |clo us h hz hx hw ih=>
  intro hs _;simp only [Dn,Bool.not_eq_false',List.isEmpty_iff]at hs;subst hs;exact .clo us h hz (by simp) (by simp)
 |ocl=>intro hs;simp [Dn]at hs
 |mp=>intro hs;simp [Dn]at hs
 |vw=>intro hs;simp [Dn]at hs
 |pe=>intro hs;simp [Dn]at hs
 |vs=>intro hs;simp [Dn]at hs
theorem A2y(rv:Nat→Value)(t:Nat):Dr w rv [t]=some (rv t):=by simp [Dr,Ai]
theorem OX{lend:Bool}{j:Nat}{L0:AJ}{d a:D}{v:Value}{F:Nat→Prop}{l:List (AJ×D)}(hW:WR T s rv w S d v F)
  (hsrc:d.isObj=true→(L0=[]∧(∃e,d= .own e [])∧ ∃A,v= .slice A 0 0)∨ ∃t p,L0=t::p∧BL (s.v t) p=some d∧Dr w rv L0=some v)
  (ha:Ej lend pm s j L0 d=some (a,l)):
  (l=[]∧ ∀S' V Vp,(∀k,S k→S' k)→W T S' w V Vp a v (fun _=>False))∨
   ∃L c,l=[(L,c)]∧pY s w rv L c v∧(lend=true→a= .vw [G+j] 0 0)∧(lend=false→EG c=some a):=by
 have plain:d.hasObj=false→EG d=some d→a=d→l=[]→(l=[]∧ ∀S' V Vp,(∀k,S k→S' k)→W T S' w V Vp a v (fun _=>False)):=by
  intro hno hf ha hl
  refine⟨hl,fun S' V Vp hS=> ?_⟩
  subst ha
  exact(hW.freeze a hf (fun k hk=>(Cw hW hno k hk).elim) hS).up
 unfold Ej at ha
 split at ha
 ·rename_i L n m
  cases hl:s.look pm L n m with
  |none=>simp [hl]at ha
  |some c=>
   simp only [hl]at ha;obtain⟨t,p,rfl,hg,hobj,hval⟩:=Cv hl
   have hfo:Dr w rv (t::p)=some v:=by
    cases hW with
    |vw h hv=>exact hv.2 hval
   have hS:pY s w rv (t::p) c v:=⟨hobj,.inr ⟨t,p,rfl,hg,hfo⟩⟩
   right
   cases lend with
   |true=>
    simp only [if_true,al,Prod.mk.injEq]at ha;obtain⟨rfl,rfl⟩:=ha
    exact⟨_,_,rfl,hS,(fun _=>rfl),(fun h=>by cases h)⟩
   |false=>
    simp only [JF,if_false,Cf,Prod.mk.injEq]at ha;obtain⟨c',hc',rfl,rfl⟩:=ha
    exact⟨_,_,rfl,hS,(fun h=>by cases h),fun _=>hc'⟩
 ·rename_i e xs
  have hS:pY s w rv L0 (.own e xs) v:=⟨rfl,hsrc rfl⟩
  right
  cases lend with
  |true=>
   simp only [if_true,al,Prod.mk.injEq]at ha;obtain⟨rfl,rfl⟩:=ha
   exact⟨_,_,rfl,hS,(fun _=>rfl),(fun h=>by cases h)⟩
  |false=>
   simp only [JF,if_false,Cf,Prod.mk.injEq]at ha;obtain⟨c',hc',rfl,rfl⟩:=ha
   exact⟨_,_,rfl,hS,(fun h=>by cases h),fun _=>hc'⟩
 ·rename_i xs
  have hS:pY s w rv L0 (.box xs) v:=⟨rfl,hsrc rfl⟩
  right
  cases lend with
  |true=>
   simp only [if_true,al,Prod.mk.injEq]at ha;obtain⟨rfl,rfl⟩:=ha
   exact⟨_,_,rfl,hS,(fun _=>rfl),(fun h=>by cases h)⟩
  |false=>
   simp only [JF,if_false,Cf,Prod.mk.injEq]at ha;obtain⟨c',hc',rfl,rfl⟩:=ha
   exact⟨_,_,rfl,hS,(fun h=>by cases h),fun _=>hc'⟩
 ·cases ha
 ·cases ha
 ·cases ha
 ·cases ha
 ·cases ha
 ·cases ha
 ·cases ha
 ·rename_i h1 h2 h3 h4 h5 h6 h7 h8 h9 h10
  simp only [al,Prod.mk.injEq]at ha
  left
  refine plain ?_ ?_ ha.1.symm ha.2.symm
  ·cases d<;>first|rfl|(exact(h2 _ _ rfl).elim)|(exact(h3 _ rfl).elim)|(exact(h5 _ rfl).elim)|(exact(h6 _ rfl).elim)|(exact(h10 _ _ _ rfl).elim)
  ·cases d<;>first|rfl|(exact(h1 _ _ _ rfl).elim)|(exact(h2 _ _ rfl).elim)|(exact(h3 _ rfl).elim)|(exact(h4 rfl).elim)|(exact(h5 _ rfl).elim)|(exact(h6 _ rfl).elim)|(exact(h7 _ _ _ _ rfl).elim)|(exact(h8 _ _ _ _ _ _ rfl).elim)|(exact(h9 _ _ _ rfl).elim)|(exact(h10 _ _ _ rfl).elim)
def JI(s:St)(w:World)(rv:Nat→Value)(ls:List (AJ×D))(lv:List Value):Prop:=
 lv.length=ls.length∧ ∀(i:Nat) (q:AJ×D) (v:Value),ls[i]? =some q→lv[i]? =some v→pY s w rv q.1 q.2 v
theorem JI.nil:JI s w rv [] []:=⟨rfl,by simp⟩
theorem JI.append{l1 l2:List (AJ×D)}{v1 v2:List Value}(h1:JI s w rv l1 v1)(h2:JI s w rv l2 v2):JI s w rv (l1++l2) (v1++v2):=by
 refine⟨by simp [h1.1,h2.1],fun i q v hq hv=> ?_⟩
 rcases Nat.lt_or_ge i l1.length with hi|hi
 ·rw [ND hi]at hq;rw [ND (by rw [h1.1];exact hi)]at hv
  exact h1.2 i q v hq hv
 ·rw [NC hi]at hq;rw [NC (by rw [h1.1];exact hi),h1.1]at hv
  exact h2.2 _ q v hq hv
def FP(T:Tys)(s:St)(w:World)(rv:Nat→Value)(S:Nat→Prop)(lend:Bool)(j:Nat)(ls:List (AJ×D))(lv:List Value)(K:(gh:Nat→Value)→(S':Nat→Prop)→Prop):Prop:=
 ∀(gh:Nat→Value) (S':Nat→Prop),(∀k,S k→S' k)→(lend=true→ ∀(i:Nat) (v:Value),lv[i]? =some v→gh (j+i)=v)→
  (lend=false→ ∀(i:Nat) (q:AJ×D) (v:Value) (c':D),ls[i]? =some q→lv[i]? =some v→pY s w rv q.1 q.2 v→EG q.2=some c'→W T S' w V0 Hy c' v (fun _=>False))→K gh S'
theorem FP.left{lend:Bool}{j:Nat}{l1 l2:List (AJ×D)}{v1 v2:List Value}{K:(gh:Nat→Value)→(S':Nat→Prop)→Prop}(h1:JI s w rv l1 v1)(h:FP T s w rv S lend j l1 v1 K):FP T s w rv S lend j (l1++l2) (v1++v2) K:=by
 intro gh S' hS hg ha;refine h gh S' hS (fun hl i v hv=> ?_) (fun hl i q v c' hq hv hs hf=> ?_)
 ·exact hg hl i v (by rw [ND (ES.1 hv).1];exact hv)
 ·exact ha hl i q v c' (by rw [ND (ES.1 hq).1];exact hq) (by rw [ND (ES.1 hv).1];exact hv) hs hf
theorem FP.right{lend:Bool}{j:Nat}{l1 l2:List (AJ×D)}{v1 v2:List Value}{K:(gh:Nat→Value)→(S':Nat→Prop)→Prop}(h1:JI s w rv l1 v1)(h:FP T s w rv S lend (j+l1.length) l2 v2 K):FP T s w rv S lend j (l1++l2) (v1++v2) K:=by
 intro gh S' hS hg ha;refine h gh S' hS (fun hl i v hv=> ?_) (fun hl i q v c' hq hv hs hf=> ?_)
 ·rw [Nat.add_assoc];exact hg hl (l1.length+i) v (by rw [←h1.1,NC (by omega)];simpa using hv)
 ·exact ha hl (l1.length+i) q v c' (by rw [NC (by omega)];simpa using hq) (by rw [←h1.1,NC (by omega)];simpa using hv) hs hf
theorem La{lend:Bool}{j:Nat}{L0:AJ}{d a:D}{v:Value}{F:Nat→Prop}{l:List (AJ×D)}(hW:WR T s rv w S d v F)
  (hsrc:d.isObj=true→(L0=[]∧(∃e,d= .own e [])∧ ∃A,v= .slice A 0 0)∨ ∃t p,L0=t::p∧BL (s.v t) p=some d∧Dr w rv L0=some v)
  (ha:Ej lend pm s j L0 d=some (a,l)): ∃lv,JI s w rv l lv∧FP T s w rv S lend j l lv (fun gh S'=>W T S' w (VG gh) Hy a v (fun _=>False)):=by
 rcases OX hW hsrc ha with⟨rfl,h⟩|⟨L,c,rfl,hS,h1,h2⟩
 ·exact⟨[],JI.nil,fun gh S' hS _ _=>h S' _ _ hS⟩
 ·refine⟨[v],⟨rfl,fun i q u hq hu=> ?_⟩,fun gh S' hS' hg hA=> ?_⟩
  ·cases i with
   |zero=>simp at hq hu;subst hq;subst hu;exact hS
   |succ i=>simp at hq
  ·cases lend with
   |true=>
    rw [h1 rfl];exact .vw (fun _ h=>h) ⟨j,rfl,rfl,rfl,(hg rfl 0 v rfl).symm⟩
   |false=>exact(hA rfl 0 (L,c) v a rfl rfl hS (h2 rfl)).up
theorem TR{lend:Bool}{t0:Nat}{p0:AJ}(L0:AJ)(hL0:L0=t0::p0): ∀(ds:List D) (j i:Nat) {as:List D} {ls:List (AJ×D)} (us:Nat→Value) (Fi:Nat→Nat→Prop),
  (∀k x,ds[k]? =some x→WR T s rv w S x (us k) (Fi k)∧BL (s.v t0) (p0++[i+k])=some x∧Dr w rv (t0::(p0++[i+k]))=some (us k))→
  EH lend pm s L0 j i ds=some (as,ls)→ ∃lv,JI s w rv ls lv∧as.length=ds.length∧
   FP T s w rv S lend j ls lv (fun gh S'=> ∀k x,as[k]? =some x→W T S' w (VG gh) Hy x (us k) (fun _=>False)):=by
 intro ds
 induction ds with
 |nil=>
  intro j i as ls us Fi _ ha;simp only [EH,al,Prod.mk.injEq]at ha;obtain⟨rfl,rfl⟩:=ha
  exact⟨[],JI.nil,rfl,fun gh S' _ _ _ k x hk=>by simp at hk⟩
 |cons d ds ih=>
  intro j i as ls us Fi hd ha;simp only [EH]at ha
  split at ha
  ·cases ha
  ·rename_i a l hc
   split at ha
   ·cases ha
   ·rename_i as' ls' hcs
    simp only [al,Prod.mk.injEq]at ha;obtain⟨rfl,rfl⟩:=ha;obtain⟨h1,h2,h3⟩:=hd 0 d rfl;obtain⟨lv1,o1,g1⟩:=La h1 (fun _=> .inr ⟨t0,p0++[i],by simp [hL0],h2,by rw [hL0];exact h3⟩) hc
    obtain⟨lv2,o2,hlen,g2⟩:=ih (j+l.length) (i+1) (fun k=>us (k+1)) (fun k=>Fi (k+1)) (fun k x hk=>by
     have:=hd (k+1) x (by simpa using hk)
     rw [show i+1+k=i+(k+1) by omega];exact this) hcs
    refine⟨lv1++lv2,o1.append o2,by simp [hlen],fun gh S' hS hg hA k x hk=> ?_⟩
    cases k with
    |zero=>
     simp only [OH,al]at hk;subst hk;exact FP.left o1 g1 gh S' hS hg hA
    |succ k=>
     simp only [QF]at hk;exact FP.right o1 g2 gh S' hS hg hA k x hk
theorem X7{lend:Bool}{j:Nat}{L0:AJ}{d a:D}{v:Value}{F:Nat→Prop}{l:List (AJ×D)}(hW:WR T s rv w S d v F)
  (hsrc:(∃t,L0=[t]∧s.v t=d∧rv t=v)∨(L0=[]∧(∀xs,d≠ .agg xs)∧(d.isObj=true→(∃e,d= .own e [])∧ ∃A,v= .slice A 0 0)))
  (ha:Da lend pm s j L0 d=some (a,l)): ∃lv,JI s w rv l lv∧FP T s w rv S lend j l lv (fun gh S'=>W T S' w (VG gh) Hy a v (fun _=>False)):=by
 unfold Da at ha
 split at ha
 ·rename_i xs
  simp only [Cf,Prod.mk.injEq]at ha;obtain⟨⟨as,ls⟩,hc,rfl,rfl⟩:=ha;rcases hsrc with⟨t,rfl,hst,hrv⟩|⟨_,hn,_⟩
  ·cases hW with
   |agg us Fi hz hx hF hd hw=>
    obtain⟨lv,o,hlen,g⟩:=TR (p0:=[]) [t] rfl xs j 0 us Fi (fun k x hk=>⟨hw k x hk,by simp [BL,hst,hk],by simp [Dr,hrv,Ai,hx k x hk]⟩) hc
    refine⟨lv,o,fun gh S' hS hg hA=> ?_⟩
    have:=g gh S' hS hg hA
    refine .agg us (fun _ _=>False) (by rw [hz,hlen]) (fun i x hi=> ?_) (fun k=>⟨fun h=>h.elim,fun⟨_,_,h⟩=>h⟩) (fun _ _ _ _ _ _ h=>h.elim) this
    have hi':i<xs.length:=by rw [←hlen];exact(ES.1 hi).1
    exact hx i _ (Gy hi')
  ·exact(hn xs rfl).elim
 ·refine La hW (fun ho=> ?_) ha;rcases hsrc with⟨t,rfl,hst,hrv⟩|⟨h1,_,h2⟩
  ·exact .inr ⟨t,[],rfl,by simp [BL,hst],by simp [Dr,Ai,hrv]⟩
  ·exact .inl ⟨h1,h2 ho⟩
theorem Yt{N:Nat}{gh0:Nat→Value}{a0:Act}{lend:Bool}(h:Rel T s (Al a0 gh0) w S Fs){j:Nat}{e:ab}{L:AJ}{n m lo len:Nat}{a:D}{v:Value}{F:Nat→Prop}{l:List (AJ×D)}
  (hW:WR T s (Al a0 gh0) w S (.vs e L n m lo len) v F)(hl:lend=false)(ha:Vn T pm s e L n m lo len=some (a,l)):
  ∃lv,JI s w (Al a0 gh0) l lv∧FP T s w (Al a0 gh0) S lend j l lv (fun gh S'=>W T S' w (VG gh) Hy a v (fun _=>False)):=by
 subst hl;unfold Vn at ha
 split at ha
 ·rename_i e' xs hlk
  split at ha
  ·rename_i hc
   obtain⟨rfl,hkn,hle⟩:=hc;simp only [Cf,Prod.mk.injEq]at ha;obtain⟨ys,hys,rfl,rfl⟩:=ha;obtain⟨t,p,rfl,hg,hobj,hval⟩:=Cv hlk;obtain⟨v0,F0,hfo,hW0,_⟩:=h.focus hg;have hS:pY s w (Al a0 gh0) (t::p) (.own e' xs) v0:=⟨rfl,.inr ⟨t,p,rfl,hg,hfo⟩⟩;have hfz:EG (.own e' xs)=some (.sl e' ys):=by simp [EG,hys]
   obtain⟨hyl,_⟩:=KY hys
   refine⟨[v0],⟨rfl,fun i q u hq hu=> ?_⟩,fun gh S' hS' _ hA=> ?_⟩
   ·cases i with
    |zero=>simp at hq hu;subst hq;subst hu;exact hS
    |succ i=>simp at hq
   ·have hWf:=hA rfl 0 (t::p,.own e' xs) v0 (.sl e' ys) rfl rfl hS hfz
    cases hW with
    |vs hE hlq hmq hv=>
     rename_i A q
     cases hWf with
     |sl us hE' hn' hc' hm' hx' hw'=>
      rename_i A0 n0 c0
      have hget: ∀(i:Nat) (x:D),((ys.drop (lo*T.size e')).take (len*T.size e'))[i]? =some x→ys[lo*T.size e'+i]? =some x∧0<len:=fun i x hi=>by
       have hlt:=(ES.1 hi).1;simp only [Mt,List.length_drop]at hlt;rw [QE (by omega),Ms]at hi
       refine⟨hi, ?_⟩
       rcases Nat.eq_zero_or_pos len with h0|h0
       ·subst h0;simp only [Nat.zero_mul]at hlt;omega
       ·exact h0
      refine .sl (fun i=>us (lo*T.size e'+i)) (fun _ h=>h) ?_ hlq hmq (fun i x hi=> ?_) (fun i x hi=> ?_)
      ·simp only [List.length_drop,Mt];rw [hyl];rw [Nat.add_mul]at hle;omega
      ·obtain⟨hi,h0⟩:=hget i x hi;obtain⟨ad,hA1,_,hvp⟩:=hv h0;obtain⟨hv',ad',hfo',had',hptr⟩:=hvp hval;rw [hfo]at hfo'
       injection hfo' with hfo'
       subst hfo';obtain⟨ad2,h3,h4,h5⟩:=hx' _ x hi;simp only [MK]at had';rw [had']at h3
       injection h3 with h3
       subst h3
       injection hptr with hptr
       injection hptr with hptr
       subst hptr
       exact⟨_,hA1,by rw [KM];exact h4,by rw [Iz];exact h5⟩
      ·obtain⟨hi,_⟩:=hget i x hi;exact hw' _ x hi
  ·cases ha
 ·cases ha
theorem X8: ∀(caps:List D) (j:Nat) {cs:List D} {lc:List (AJ×D)} (us:Nat→Value),
  (∀(k:Nat) (x:D),caps[k]? =some x→WR T s rv w S x (us k) (fun _=>False))→JR pm s j caps=some (cs,lc)→
  ∃lv:List Value,JI s w rv lc lv∧cs.length=caps.length∧(∀k:Nat,cs[k]? =some D.undef→caps[k]? =some D.undef)∧
   FP T s w rv S true j lc lv (fun gh S'=> ∀(k:Nat) (x:D),cs[k]? =some x→W T S' w (VG gh) Hy x (us k) (fun _=>False)):=by
 intro caps
 induction caps with
 |nil=>
  intro j cs lc us _ ha;simp only [JR,al,Prod.mk.injEq]at ha;obtain⟨rfl,rfl⟩:=ha
  exact⟨[],JI.nil,rfl,by simp,fun gh S' _ _ _ k x hk=>by simp at hk⟩
 |cons d caps ih=>
  intro j cs lc us hd ha;have h0:=hd 0 d rfl;have hd': ∀k x,caps[k]? =some x→WR T s rv w S x (us (k+1)) (fun _=>False):=fun k x hk=>hd (k+1) x (by simpa using hk)
  have join: ∀(a:D) (l1:List (AJ×D)) (cs':List D) (l2:List (AJ×D)),Ej true pm s j [] d=some (a,l1)→d.isObj=false→(a=D.undef→d=D.undef)→
    JR pm s (j+l1.length) caps=some (cs',l2)→cs=a::cs'→lc=l1++l2→
    ∃lv:List Value,JI s w rv lc lv∧cs.length=(d::caps).length∧(∀k:Nat,cs[k]? =some D.undef→(d::caps)[k]? =some D.undef)∧
     FP T s w rv S true j lc lv (fun gh S'=> ∀(k:Nat) (x:D),cs[k]? =some x→W T S' w (VG gh) Hy x (us k) (fun _=>False)):=by
   intro a l1 cs' l2 hc ho hu hr e1 e2;subst e1 e2;obtain⟨lv1,o1,g1⟩:=La h0 (fun h=>by rw [ho]at h;cases h) hc
   obtain⟨lv2,o2,hlen,hun,g2⟩:=ih (j+l1.length) (fun k=>us (k+1)) hd' hr
   refine⟨lv1++lv2,o1.append o2,by simp [hlen],fun k hk=> ?_,fun gh S' hS hg hA k x hk=> ?_⟩
   ·cases k with
    |zero=>simp only [OH,al]at hk ⊢;exact hu hk
    |succ k=>simp only [QF]at hk ⊢;exact hun k hk
   ·cases k with
    |zero=>
     simp only [OH,al]at hk;subst hk;exact FP.left o1 g1 gh S' hS hg hA
    |succ k=>
     simp only [QF]at hk;exact FP.right o1 g2 gh S' hS hg hA k x hk
  unfold JR at ha
  split at ha
  ·rename_i L n m
   split at ha
   ·rename_i c hl
    obtain⟨⟨cs',l2⟩,hr,he⟩:=Cf.1 ha;simp only [Prod.mk.injEq]at he;exact join (.vw [G+j] 0 0) [(L,c)] cs' l2 (by simp [Ej,hl]) rfl (fun h=>by cases h) hr he.1.symm he.2.symm
   ·cases ha
  ·rename_i ys
   obtain⟨⟨cs',l2⟩,hr,he⟩:=Cf.1 ha;simp only [Prod.mk.injEq]at he;exact join (.cptr ys) [] cs' l2 (by simp [Ej]) rfl (fun h=>by cases h) hr he.1.symm he.2.symm
  ·obtain⟨⟨cs',l2⟩,hr,he⟩:=Cf.1 ha;simp only [Prod.mk.injEq]at he;obtain⟨rfl,rfl⟩:=he;obtain⟨lv2,o2,hlen,hun,g2⟩:=ih j (fun k=>us (k+1)) hd' hr
   refine⟨lv2,o2,by simp [hlen],fun k hk=> ?_,fun gh S' hS hg hA k x hk=> ?_⟩
   ·cases k with
    |zero=>rfl
    |succ k=>simp only [QF]at hk ⊢;exact hun k hk
   ·cases k with
    |zero=>
     simp only [OH,al]at hk;subst hk;exact .undef (fun _ h=>h)
    |succ k=>
     simp only [QF]at hk;exact g2 gh S' hS hg hA k x hk
  ·cases ha
theorem bC: ∀(caps:List D) (j:Nat) {cs:List D} {lc:List (AJ×D)} (us:Nat→Value),
  (∀(k:Nat) (x:D),caps[k]? =some x→WR T s rv w S x (us k) (fun _=>False))→KV pm s caps=some (cs,lc)→
  ∃lv:List Value,JI s w rv lc lv∧cs.length=caps.length∧
   FP T s w rv S false j lc lv (fun _ S'=> ∀(k:Nat) (x:D),cs[k]? =some x→W T S' w V0 Hy x (us k) (fun _=>False)):=by
 intro caps
 induction caps with
 |nil=>
  intro j cs lc us _ ha;simp only [KV,al,Prod.mk.injEq]at ha;obtain⟨rfl,rfl⟩:=ha
  exact⟨[],JI.nil,rfl,fun gh S' _ _ _ k x hk=>by simp at hk⟩
 |cons d caps ih=>
  intro j cs lc us hd ha;have h0:=hd 0 d rfl;have hd': ∀k x,caps[k]? =some x→WR T s rv w S x (us (k+1)) (fun _=>False):=fun k x hk=>hd (k+1) x (by simpa using hk)
  have join: ∀(a:D) (l1:List (AJ×D)) (cs':List D) (l2:List (AJ×D)),Ej false pm s j [] d=some (a,l1)→d.isObj=false→
    KV pm s caps=some (cs',l2)→cs=a::cs'→lc=l1++l2→
    ∃lv:List Value,JI s w rv lc lv∧cs.length=(d::caps).length∧
     FP T s w rv S false j lc lv (fun _ S'=> ∀(k:Nat) (x:D),cs[k]? =some x→W T S' w V0 Hy x (us k) (fun _=>False)):=by
   intro a l1 cs' l2 hc ho hr e1 e2;subst e1 e2
   have first: ∃lv1:List Value,JI s w rv l1 lv1∧FP T s w rv S false j l1 lv1 (fun _ S'=>W T S' w V0 Hy a (us 0) (fun _=>False)):=by
    rcases OX h0 (fun h=>by rw [ho]at h;cases h) hc with⟨rfl,h⟩|⟨L,c,rfl,hS,h1,h2⟩
    ·exact⟨[],JI.nil,fun gh S' hS _ _=>h S' _ _ hS⟩
    ·exact⟨[us 0],⟨rfl,fun i q u hq hu=>by
      cases i with
      |zero=>simp at hq hu;subst hq;subst hu;exact hS
      |succ i=>simp at hq⟩,fun gh S' _ _ hA=>hA rfl 0 (L,c) (us 0) a rfl rfl hS (h2 rfl)⟩
   obtain⟨lv1,o1,g1⟩:=first
   obtain⟨lv2,o2,hlen,g2⟩:=ih (j+l1.length) (fun k=>us (k+1)) hd' hr
   refine⟨lv1++lv2,o1.append o2,by simp [hlen],fun gh S' hS hg hA k x hk=> ?_⟩
   cases k with
   |zero=>
    simp only [OH,al]at hk;subst hk;exact FP.left o1 g1 gh S' hS hg hA
   |succ k=>
    simp only [QF]at hk;exact FP.right o1 g2 gh S' hS hg hA k x hk
  unfold KV at ha
  split at ha
  ·rename_i L n m
   split at ha
   ·rename_i c hl
    obtain⟨c',hf,ha⟩:=H8.1 ha;obtain⟨⟨cs',l2⟩,hr,he⟩:=Cf.1 ha;simp only [Prod.mk.injEq]at he;exact join c' [(L,c)] cs' l2 (by simp [Ej,hl,hf]) rfl hr he.1.symm he.2.symm
   ·cases ha
  ·rename_i ys
   obtain⟨⟨cs',l2⟩,hr,he⟩:=Cf.1 ha;simp only [Prod.mk.injEq]at he;exact join (.cptr ys) [] cs' l2 (by simp [Ej]) rfl hr he.1.symm he.2.symm
  ·cases ha
theorem bD{N:Nat}{gh0:Nat→Value}{a0:Act}{lend:Bool}(h:Rel T s (Al a0 gh0) w S Fs){j:Nat}{L0:AJ}{d a:D}{v:Value}{F:Nat→Prop}{l:List (AJ×D)}(hW:WR T s (Al a0 gh0) w S d v F)
  (hsrc:(∃t,L0=[t]∧s.v t=d∧Al a0 gh0 t=v)∨(L0=[]∧(∀xs,d≠ .agg xs)∧(d.isObj=true→(∃e,d= .own e [])∧ ∃A,v= .slice A 0 0)))
  (ha:K9 T lend pm s j L0 d=some (a,l)): ∃lv,JI s w (Al a0 gh0) l lv∧FP T s w (Al a0 gh0) S lend j l lv (fun gh S'=>W T S' w (VG gh) Hy a v (fun _=>False)):=by
 unfold K9 at ha
 split at ha
 ·rename_i p f caps
  split at ha
  ·cases ha
  ·rename_i hlp
   simp only [NE,not_or,Bool.not_eq_true]at hlp;obtain⟨rfl,rfl⟩:=hlp;obtain⟨⟨cs,lc⟩,hc,he⟩:=Cf.1 ha;simp only [Prod.mk.injEq]at he;obtain⟨rfl,rfl⟩:=he
   cases hW with
   |ocl us hE hz hx hw hs hv=>
    rcases hv with⟨_,rfl⟩|⟨hp,_⟩
    ·obtain⟨lv,ho,hlen,hg⟩:=bC caps j us hw hc
     refine⟨lv,ho,fun gh S' hS hgh hA=> ?_⟩
     have hW':=hg gh S' hS hgh hA;refine .clo us (fun _ h=>h) (by rw [hz,hlen]) (fun i x hi=> ?_) hW'
     have hi':i<caps.length:=by rw [←hlen];exact(ES.1 hi).1
     exact hx i _ (Gy hi')
    ·cases hp
 ·cases lend with
  |true=>cases ha
  |false=>exact Yt (N:=N) h hW rfl ha
 ·exact X7 hW hsrc ha
theorem L9{E:Env}{lend:Bool}{N:Nat}{gh0:Nat→Value}{a:Act}(h:Rel E.T s (Al a gh0) w S Fs)(hG:N≤G): ∀(xs:List (ac×ab)) (j:Nat) {as:List D} {ls:List (AJ×D)},
  (∀q∈xs,BA N q.1)→Dj E lend pm s j xs=some (as,ls)→ ∃lv,JI s w (Al a gh0) ls lv∧as.length=xs.length∧
   FP E.T s w (Al a gh0) S lend j ls lv (fun gh S'=> ∀(k:Nat) (x:D),as[k]? =some x→ ∃q:ac×ab,xs[k]? =some q∧W E.T S' w (VG gh) Hy x (a.eval q.1) (fun _=>False)):=by
 intro xs
 induction xs with
 |nil=>
  intro j as ls _ ha;simp only [Dj,al,Prod.mk.injEq]at ha;obtain⟨rfl,rfl⟩:=ha
  exact⟨[],JI.nil,rfl,fun gh S' _ _ _ k x hk=>by simp at hk⟩
 |cons q xs ih=>
  obtain⟨x,t⟩:=q;intro j as ls hok ha;simp only [Dj]at ha
  split at ha
  ·cases ha
  ·rename_i d he
   split at ha
   ·cases ha
   ·rename_i b l hc
    split at ha
    ·cases ha
    ·rename_i as' ls' hcs
     simp only [al,Prod.mk.injEq]at ha;obtain⟨rfl,rfl⟩:=ha;have hx:=hok _ (LX);have hW:=Et h hG hx he
     obtain⟨lv1,o1,g1⟩:=bD (N:=N) h hW (by
      cases x with
      |tmp u=>
       simp only [ev,al]at he;exact .inl ⟨u,rfl,he,(Dt hG hx).symm⟩
      |const v=>
       right
       refine⟨rfl,fun xs hxs=> ?_,fun ho=> ?_⟩
       ·subst hxs;simp only [ev,SN]at he
        split at he<;>try (cases he;done)
        split at he<;>cases he
       ·simp only [ev,SN]at he
        split at he<;>try (simp only [al]at he;subst he;simp [D.isObj]at ho;done)
        ·split at he
         ·simp only [al]at he;subst he
          exact⟨⟨_,rfl⟩,none,rfl⟩
         ·simp only [al]at he
          subst he;simp [D.isObj]at ho
         ·cases he
        ·cases he
      |func f=>
       simp only [ev,al]at he;subst he;exact .inr ⟨rfl,(fun xs hxs=>by cases hxs),(fun ho=>by simp [D.isObj]at ho)⟩
      |global g=>simp [ev]at he) hc
     obtain⟨lv2,o2,hlen,g2⟩:=ih (j+l.length) (fun q hq=>hok q (Je _ hq)) hcs
     refine⟨lv1++lv2,o1.append o2,by simp [hlen],fun gh S' hS hg hA k y hk=> ?_⟩
     cases k with
     |zero=>
      simp only [OH,al]at hk;subst hk
      exact⟨(x,t),rfl,FP.left o1 g1 gh S' hS hg hA⟩
     |succ k=>
      simp only [QF]at hk;obtain⟨q,hq,hWq⟩:=FP.right o1 g2 gh S' hS hg hA k y hk
      exact⟨q,by simpa using hq,hWq⟩
end
end Dv
namespace Dv
open Go
def PU(T:Tys)(gh:Nat→Value)(r:D)(outs:List D)(w:World)(S:Nat→Prop)(FL:Nat→Nat→Prop)(v:Value)(w':World):Prop:=
 ∃(S' F:Nat→Prop) (FL':Nat→Nat→Prop),W T S' w' V0 Hy r v F∧(∀(j:Nat) (d:D),outs[j]? =some d→W T S' w' V0 Hy d (gh j) (FL' j))∧
  (∀i j k,i≠j→FL' i k→ ¬FL' j k)∧(∀j k,F k→ ¬FL' j k)∧Step w S FL w' S' FL'∧(∀k,F k→(∃j,FL j k)∨w.heap.size≤k)∧(∀k,S' k→k<w'.heap.size)
def Good(P:Program)(T:Tys)(f:am)(args lent:List D)(r:D)(outs:List D):Prop:=
 (∃fn,P.funcs[f]? =some fn∧fn.body.isSome=true∧(fn.name== "runtime.NumGoroutine")=false)∧
 ∀(vs:Array Value) (gh:Nat→Value) (w:World) (S:Nat→Prop) (FL:Nat→Nat→Prop),vs.size=args.length→
  (∀(i:Nat) (d:D),args[i]? =some d→ ∃v,vs[i]? =some v∧W T S w (VG gh) Hy d v (fun _=>False))→
  (∀(j:Nat) (d:D),lent[j]? =some d→W T S w V0 Hy d (gh j) (FL j))→(∀j,lent.length≤j→Em (FL j))→(∀i j k,i≠j→FL i k→ ¬FL j k)→(∀k,S k→k<w.heap.size)→
  Calls P f vs w fun| .returned v,w'=>PU T gh r outs w S FL v w'|_,_=>False
def PV(P:Program)(E:Env):Prop:= ∀(f:am) (args lent:List D) (r:D) (outs:List D),E.call f args lent=some (r,outs)→Good P E.T f args lent r outs
theorem PW{P:Program}{f:am}{fn:Func}{args:Array Value}(hf:P.funcs[f]? =some fn)(hb:fn.body.isSome=true)(hn:(fn.name== "runtime.NumGoroutine")=false)(w:World):
  (callFunc f args).run P w= .ok (.enter f args) w:=by
 have hb':fn.body≠none:=by cases h:fn.body<;>simp_all
 have hn':fn.name≠ "runtime.NumGoroutine" :=by simpa using hn
 simp [callFunc,hf,hb',hn']
def dw(L M:AJ):Prop:= ¬L<+:M∧ ¬M<+:L
theorem dw.symm{L M:AJ}(h:dw L M):dw M L:=⟨h.2,h.1⟩
theorem NY{L:AJ}{Ls:List AJ}(h:En (L::Ls)=true):(L=[]∨ ∀M∈Ls,M=[]∨dw L M)∧En Ls=true:=by
 simp only [En,FM,NE,List.isEmpty_iff,Ir,Ku,←Bool.not_eq_true,List.isPrefixOf_iff_prefix]at h
 exact⟨h.1,h.2⟩
theorem VH: ∀(p:AJ) (d x:D) (q:AJ),dw p q→BL (Gz d p x) q=BL d q:=by
 intro p
 induction p with
 |nil=>intro d x q h;exact(h.1 List.nil_prefix).elim
 |cons c p ih=>
  intro d x q h
  cases q with
  |nil=>exact(h.2 List.nil_prefix).elim
  |cons c' q=>
   have key: ∀xs:List D,((xs.set c (Gz (xs.getD c .undef) p x))[c']?).bind (fun d=>BL d q)=(xs[c']?).bind (fun d=>BL d q):=by
    intro xs;by_cases hc:c=c'
    ·subst hc;have hf:dw p q:=⟨fun hh=>h.1 (by simpa using hh),fun hh=>h.2 (by simpa using hh)⟩
     rcases Nat.lt_or_ge c xs.length with hl|hl
     ·simp only [List.getElem?_set_self hl,Ce,Gy hl];rw [ih _ _ _ hf,K5,Gy hl];rfl
     ·rw [List.set_eq_of_length_le hl]
    ·rw [List.getElem?_set_ne hc]
   cases d<;>first|rfl|(simp only [Gz,BL];exact key _)
theorem Ro{s:St}{L:AJ}{x:D}{t:Nat}{p:AJ}(h:L=[]∨dw L (t::p)):BL ((s.set L x).v t) p=BL (s.v t) p:=by
 unfold St.set
 cases L with
 |nil=>rfl
 |cons u q=>
  rcases h with h|h
  ·cases h
  ·by_cases hut:t=u
   ·subst hut;simp only [Ak];exact VH _ _ _ _ ⟨fun hh=>h.1 (by simpa using hh),fun hh=>h.2 (by simpa using hh)⟩
   ·simp only [Ad _ _ hut]
def NZ(deep:Bool)(s:St)(L:AJ)(c:D):St:=if L.isEmpty then s else if deep then(s.set L c).bump (L.headD 0)else s.set L c
theorem GU(deep:Bool)(s:St)(L:AJ)(c:D)(rest:List (AJ×D)):back deep s ((L,c)::rest)=back deep (NZ deep s L c) rest:=rfl
theorem LA(deep:Bool)(s:St)(L:AJ)(c:D):(NZ deep s L c).v=(s.set L c).v:=by
 unfold NZ
 cases L with
 |nil=>rfl
 |cons t p=>cases deep<;>rfl
theorem pg(deep:Bool)(s:St)(L:AJ)(c:D):(NZ deep s L c).k=s.k:=by
 unfold NZ
 cases L with
 |nil=>rfl
 |cons t p=>cases deep<;>rfl
theorem kr(deep:Bool){t:Nat}{p:AJ}: ∀(l:List (AJ×D)) (s:St),(∀q∈l,q.1=[]∨dw q.1 (t::p))→BL ((back deep s l).v t) p=BL (s.v t) p:=by
 intro l
 induction l with
 |nil=>intro s _;rfl
 |cons q l ih=>
  obtain⟨L,c⟩:=q;intro s h;rw [GU,ih _ (fun q hq=>h q (Je _ hq)),LA];exact Ro (h _ (LX))
theorem X9(deep:Bool): ∀(l:List (AJ×D)) (s:St),(back deep s l).k=s.k:=by
 intro l
 induction l with
 |nil=>intro s;rfl
 |cons q l ih=>obtain⟨L,c⟩:=q;intro s;rw [GU,ih,pg]
theorem PX(deep:Bool)(s:St)(L:AJ)(c:D)(t:Nat):(NZ deep s L c).m t=if L≠[]∧deep=true∧L.headD 0=t then s.m t+1 else s.m t:=by
 unfold NZ
 cases L with
 |nil=>simp
 |cons u p=>
  cases deep with
  |false=>simp [St.set]
  |true=>
   simp only [List.isEmpty_cons,JF,if_false,if_true,St.bump,St.set,Uz];by_cases h:t=u
   ·subst h;simp [Ak]
   ·simp [Ad _ _ h,Ne.symm h]
theorem WB(deep:Bool)(t:Nat): ∀(l:List (AJ×D)) (s:St),s.m t≤(back deep s l).m t:=by
 intro l
 induction l with
 |nil=>intro s;exact IB _
 |cons q l ih=>
  obtain⟨L,c⟩:=q;intro s;rw [GU];refine Nat.le_trans ?_ (ih _);rw [PX];split<;>omega
theorem iX(t:Nat): ∀(l:List (AJ×D)) (s:St),(∃q∈l,q.1≠[]∧q.1.headD 0=t)→s.m t<(back true s l).m t:=by
 intro l
 induction l with
 |nil=>intro s ⟨q,hq,_⟩;cases hq
 |cons q l ih=>
  obtain⟨L,c⟩:=q;intro s ⟨q,hq,h1,h2⟩;rw [GU];rcases PE.1 hq with rfl|hq
  ·refine aD ?_ (WB true t l _);rw [PX,if_pos ⟨h1,rfl,h2⟩];omega
  ·refine Nat.lt_of_le_of_lt ?_ (ih _ ⟨q,hq,h1,h2⟩);rw [PX];split<;>omega
theorem PY(t:Nat): ∀(l:List (AJ×D)) (s:St),(back false s l).m t=s.m t:=by
 intro l
 induction l with
 |nil=>intro s;rfl
 |cons q l ih=>obtain⟨L,c⟩:=q;intro s;rw [GU,ih,PX];simp
theorem TS(deep:Bool)(t:Nat): ∀(l:List (AJ×D)) (s:St),(∀q∈l,q.1=[]∨q.1.headD 0≠t)→(back deep s l).v t=s.v t∧(back deep s l).m t=s.m t:=by
 intro l
 induction l with
 |nil=>intro s _;exact⟨rfl,rfl⟩
 |cons q l ih=>
  obtain⟨L,c⟩:=q;intro s h;rw [GU];obtain⟨h1,h2⟩:=ih (NZ deep s L c) (fun q hq=>h q (Je _ hq));rw [h1,h2,LA,PX];rcases h _ (LX)with h|h
  ·simp only at h;subst h;simp [St.set]
  ·cases L with
   |nil=>simp [St.set]
   |cons u p=>
    simp only [Uz]at h;simp [St.set,Ad _ _ (Ne.symm h),h]
theorem bE{d x:D}{c:Nat}{p:AJ}:(Gz d (c::p) x).isObj=d.isObj:=by cases d<;>rfl
theorem WC(deep:Bool)(t:Nat): ∀(l:List (AJ×D)) (s:St),(∀q∈l,q.1≠[t])→((back deep s l).v t).isObj=(s.v t).isObj:=by
 intro l
 induction l with
 |nil=>intro s _;rfl
 |cons q l ih=>
  obtain⟨L,c⟩:=q;intro s h;rw [GU,ih _ (fun q hq=>h q (Je _ hq)),LA];have:=h _ (LX)
  cases L with
  |nil=>rfl
  |cons u p=>
   by_cases hut:t=u
   ·subst hut
    cases p with
    |nil=>exact(this rfl).elim
    |cons a p=>simp only [St.set,Ak];exact bE
   ·simp only [St.set,Ad _ _ hut]
structure RelV(T:Tys)(V:AJ→Nat→Nat→Value→Prop)(Vp:AJ→Nat→Nat→Nat→Value→Prop)(s:St)(rv:Nat→Value)(w:World)(S:Nat→Prop)(Fs:Nat→Nat→Prop):Prop where
 val: ∀t,W T S w V Vp (s.v t) (rv t) (Fs t)
 disj: ∀t u k,t≠u→Fs t k→ ¬Fs u k
section
variable {T:Tys} {s s':St} {rv:Nat→Value} {w w':World} {S S':Nat→Prop} {Fs:Nat→Nat→Prop} {pm:Pm}
variable {V:AJ→Nat→Nat→Value→Prop} {Vp:AJ→Nat→Nat→Nat→Value→Prop}
theorem RelV.focus(h:RelV T V Vp s rv w S Fs){t:Nat}{p:AJ}{d:D}(hg:BL (s.v t) p=some d):
  ∃v F,Dr w rv (t::p)=some v∧W T S w V Vp d v F∧(∀k,F k→Fs t k)∧
   (∀(s':St) (d':D) (F':Nat→Prop),s'.v=(s.set (t::p) d').v→(∀k u,Fs u k→ ¬F k→ ¬F' k)→W T S w V Vp d' v F'→
    RelV T V Vp s' rv w S (Kv Fs t (fun k=>(Fs t k∧ ¬F k)∨F' k))):=by
 obtain⟨v,F,hfo,hW,hsub,hset,_⟩:=(h.val t).focus d hg
 refine⟨v,F,hfo,hW,hsub,fun s' d' F' hs' hr hn=> ?_⟩
 refine⟨fun u=> ?_,fun u u' k hne=> ?_⟩
 ·rw [hs'];by_cases hut:u=t
  ·subst hut;simp only [St.set,Ak];exact hset w S V Vp d' F' (fun k hf hn=>⟨rfl,(h.val u).notS k hf,hr k u hf hn⟩) (fun k hk=>⟨hk,rfl⟩) (fun _ _ _ _ h=>h) (fun _ _ _ _ _ h=>h) hn
  ·simp only [St.set,Ad _ _ hut];exact h.val u
 ·by_cases h1:u=t
  ·subst h1;have h2:u'≠u:=fun e=>hne e.symm;simp only [Ak,Ad _ _ h2]
   rintro(⟨hf,_⟩|hf) hg
   ·exact h.disj u u' k hne hf hg
   ·exact hr k u' hg (fun hF=>h.disj u' u k h2 hg (hsub k hF)) hf
  ·by_cases h2:u'=t
   ·subst h2;simp only [Ak,Ad _ _ h1];rintro hf (⟨hg,_⟩|hg)
    ·exact h.disj u u' k hne hf hg
    ·exact hr k u hf (fun hF=>h.disj u u' k h1 hf (hsub k hF)) hg
   ·simp only [Ad _ _ h1,Ad _ _ h2];exact h.disj u u' k hne
theorem PZ{Fs:Nat→Nat→Prop}{t:Nat}{F F':Nat→Prop}{u k:Nat}(h:Kv Fs t (fun k=>(Fs t k∧ ¬F k)∨F' k) u k):Fs u k∨F' k:=by
 by_cases hut:u=t
 ·subst hut;simp only [Ak]at h;exact h.imp (·.1) id
 ·rw [Ad _ _ hut]at h;exact .inl h
theorem W.undef_Em{v:Value}{F:Nat→Prop}(h:W T S w V Vp .undef v F):Em F:=by cases h with|undef h=>exact h
theorem iY: ∀(l:List (AJ×D)) {s:St} {Fs:Nat→Nat→Prop},RelV T V Vp s rv w S Fs→En (l.map (·.1))=true→
  (∀q∈l,q.1=[]∨ ∃t p,q.1=t::p∧BL (s.v t) p=some q.2)→
  ∃(Fs1 FL:Nat→Nat→Prop),RelV T V Vp (back false s (l.map fun q=>(q.1,.undef))) rv w S Fs1∧
   (∀(i:Nat) (q:AJ×D) (t:Nat) (p:AJ),l[i]? =some q→q.1=t::p→BL ((back false s (l.map fun q=>(q.1,.undef))).v t) p=some .undef∧ ∃v,Dr w rv q.1=some v∧W T S w V Vp q.2 v (FL i))∧
   (∀i,(∀q,l[i]? =some q→q.1=[])→Em (FL i))∧(∀i j k,i≠j→FL i k→ ¬FL j k)∧(∀i u k,FL i k→ ¬Fs1 u k)∧(∀u k,Fs1 u k→Fs u k)∧
   (∀i k,FL i k→ ∃q t p,l[i]? =some q∧q.1=t::p∧Fs t k):=by
 intro l
 induction l with
 |nil=>
  intro s Fs h _ _
  exact⟨Fs,fun _ _=>False,h,by simp,fun _ _ _ h=>h,fun _ _ _ _ h=>h.elim,fun _ _ _ h=>h.elim,fun _ _ h=>h,fun _ _ h=>h.elim⟩
 |cons q l ih=>
  obtain⟨L,c⟩:=q;intro s Fs h hap hq;simp only [PD]at hap;obtain⟨ha,hap2⟩:=NY hap;have hq0:=hq _ (LX);simp only [PD,GU]
  cases L with
  |nil=>
   obtain⟨Fs1,FL,r1,r2,r3,r4,r5,r6,r7⟩:=ih h hap2 (fun q hm=>hq q (Je _ hm))
   refine⟨Fs1,fun i=>match i with|0=>fun _=>False|i+1=>FL i,r1,fun i q t p hi ht=> ?_,fun i hi=> ?_,fun i j k hij=> ?_,fun i u k=> ?_,r6,fun i k=> ?_⟩
   ·cases i with
    |zero=>simp at hi;subst hi;cases ht
    |succ i=>exact r2 i q t p (by simpa using hi) ht
   ·cases i with
    |zero=>exact fun _ h=>h
    |succ i=>exact r3 i (fun q hq=>hi q (by simpa using hq))
   ·cases i with
    |zero=>exact fun h=>h.elim
    |succ i=>cases j with
     |zero=>exact fun _ h=>h
     |succ j=>exact r4 i j k (by omega)
   ·cases i with
    |zero=>exact fun h=>h.elim
    |succ i=>exact r5 i u k
   ·cases i with
    |zero=>exact fun h=>h.elim
    |succ i=>intro hk;obtain⟨q,t,p,h1,h2⟩:=r7 i k hk;exact⟨q,t,p,by simpa using h1,h2⟩
  |cons t p=>
   have hg:BL (s.v t) p=some c:=by
    rcases hq0 with h|⟨t',p',h1,h2⟩
    ·cases h
    ·simp only at h1 h2;injection h1 with e1 e2;subst e1;subst e2;exact h2
   have hfar: ∀q∈l,q.1=[]∨dw (t::p) q.1:=fun q hm=>by
    rcases ha with ha|ha
    ·cases ha
    ·exact ha q.1 (aE hm)
   obtain⟨v,F,hfo,hW,hsub,hset⟩:=h.focus hg;have h1:=hset (NZ false s (t::p) .undef) .undef (fun _=>False) (by rw [LA]) (fun _ _ _ _ h=>h) (.undef fun _ h=>h)
   obtain⟨Fs1,FL,r1,r2,r3,r4,r5,r6,r7⟩:=ih h1 hap2 (fun q hm=>by
    rcases hq q (Je _ hm)with h|⟨t',p',e,hh⟩
    ·exact .inl h
    ·refine .inr ⟨t',p',e, ?_⟩;rw [LA,Ro]
     ·exact hh
     ·right
      rcases hfar q hm with h|h
      ·rw [h]at e;cases e
      ·rw [←e];exact h)
   have hFn: ∀u k,F k→ ¬Fs1 u k:=fun u k hf hu=>by
    have:=r6 u k hu
    by_cases hut:u=t
    ·subst hut;simp only [Ak,or_false]at this;exact this.2 hf
    ·rw [Ad _ _ hut]at this;exact h.disj u t k hut this (hsub k hf)
   have hFL: ∀i k,FL i k→ ¬F k:=fun i k hi hf=>by
    obtain⟨q,t',p',_,_,hk⟩:=r7 i k hi;by_cases hut:t'=t
    ·subst hut;simp only [Ak,or_false]at hk;exact hk.2 hf
    ·rw [Ad _ _ hut]at hk;exact h.disj t' t k hut hk (hsub k hf)
   refine⟨Fs1,fun i=>match i with|0=>F|i+1=>FL i,r1,fun i q t' p' hi ht=> ?_,fun i hi=> ?_,fun i j k hij=> ?_,fun i u k=> ?_,fun u k hu=> ?_,fun i k=> ?_⟩
   ·cases i with
    |zero=>
     simp only [OH,al]at hi;subst hi;simp only at ht
     injection ht with e1 e2
     subst e1;subst e2
     refine⟨?_,v,hfo,hW⟩
     rw [kr false]
     ·rw [LA];simp only [St.set,Ak];exact jq hg
     ·intro q hm;simp only [JH]at hm;obtain⟨q',hm,rfl⟩:=hm
      exact(hfar q' hm).imp id dw.symm
    |succ i=>exact r2 i q t' p' (by simpa using hi) ht
   ·cases i with
    |zero=>have:=hi _ rfl;cases this
    |succ i=>exact r3 i (fun q hq=>hi q (by simpa using hq))
   ·cases i with
    |zero=>cases j with
     |zero=>exact(hij rfl).elim
     |succ j=>exact fun hf hj=>hFL j k hj hf
    |succ i=>cases j with
     |zero=>exact fun hi hf=>hFL i k hi hf
     |succ j=>exact r4 i j k (by omega)
   ·cases i with
    |zero=>exact hFn u k
    |succ i=>exact r5 i u k
   ·rcases PZ (r6 u k hu)with h|h
    ·exact h
    ·exact h.elim
   ·cases i with
    |zero=>exact fun hf=>⟨_,t,p,rfl,rfl,hsub k hf⟩
    |succ i=>
     intro hk;obtain⟨q,t',p',h1,h2,h3⟩:=r7 i k hk
     refine⟨q,t',p',by simpa using h1,h2, ?_⟩
     rcases PZ h3 with h|h
     ·exact h
     ·exact h.elim
theorem ku: ∀(l:List (AJ×D)) {s:St} {Fs FL:Nat→Nat→Prop} {gh:Nat→Value},RelV T V Vp s rv w S Fs→En (l.map (·.1))=true→
  (∀(i:Nat) (q:AJ×D),l[i]? =some q→q.1=[]∨ ∃t p,q.1=t::p∧BL (s.v t) p=some .undef∧Dr w rv q.1=some (gh i))→
  (∀(i:Nat) (q:AJ×D),l[i]? =some q→W T S w V Vp q.2 (gh i) (FL i))→(∀i j k,i≠j→FL i k→ ¬FL j k)→(∀i u k,FL i k→ ¬Fs u k)→
  ∃(Fs1:Nat→Nat→Prop),RelV T V Vp (back true s l) rv w S Fs1∧ ∀u k,Fs1 u k→Fs u k∨ ∃j,FL j k:=by
 intro l
 induction l with
 |nil=>intro s Fs FL gh h _ _ _ _ _;exact⟨Fs,h,fun u k h=> .inl h⟩
 |cons q l ih=>
  obtain⟨L,c⟩:=q;intro s Fs FL gh h hap hq hw hd hn;simp only [PD]at hap;obtain⟨ha,hap2⟩:=NY hap;rw [GU]
  cases L with
  |nil=>
   obtain⟨Fs1,r1,r2⟩:=ih (FL:=fun i=>FL (i+1)) (gh:=fun i=>gh (i+1)) h hap2 (fun i q hi=>hq (i+1) q (by simpa using hi)) (fun i q hi=>hw (i+1) q (by simpa using hi)) (fun i j k hij=>hd _ _ k (by omega)) (fun i=>hn (i+1))
   exact⟨Fs1,r1,fun u k hu=>(r2 u k hu).imp id (fun⟨j,hj⟩=>⟨_,hj⟩)⟩
  |cons t p=>
   have hfar: ∀q∈l,q.1=[]∨dw (t::p) q.1:=fun q hm=>by
    rcases ha with ha|ha
    ·cases ha
    ·exact ha q.1 (aE hm)
   obtain⟨hg,hfo0⟩:BL (s.v t) p=some .undef∧Dr w rv (t::p)=some (gh 0):=by
    rcases hq 0 _ rfl with h|⟨t',p',h1,h2,h3⟩
    ·cases h
    ·simp only at h1 h2 h3;injection h1 with e1 e2;subst e1;subst e2;exact⟨h2,h3⟩
   obtain⟨v,F,hfo,hW,hsub,hset⟩:=h.focus hg;have hFE:=hW.undef_Em;rw [hfo0]at hfo
   injection hfo with hfo
   subst hfo;have h1:=hset (NZ true s (t::p) c) c (FL 0) (by rw [LA]) (fun k u hu _ hf=>hn 0 u k hf hu) (hw 0 _ rfl)
   obtain⟨Fs1,r1,r2⟩:=ih (FL:=fun i=>FL (i+1)) (gh:=fun i=>gh (i+1)) h1 hap2 (fun i q hi=>by
    rcases hq (i+1) q (by simpa using hi)with h|⟨t',p',e,hh,hf⟩
    ·exact .inl h
    ·refine .inr ⟨t',p',e, ?_,hf⟩;rw [LA,Ro]
     ·exact hh
     ·right
      rcases hfar q (Uy hi)with h|h
      ·rw [h]at e;cases e
      ·rw [←e];exact h) (fun i q hi=>hw (i+1) q (by simpa using hi)) (fun i j k hij=>hd _ _ k (by omega)) (fun i u k hi hu=>by
       rcases PZ hu with h|h
       ·exact hn (i+1) u k hi h
       ·exact hd (i+1) 0 k (by omega) hi h)
   refine⟨Fs1,r1,fun u k hu=> ?_⟩
   rcases r2 u k hu with h|⟨j,hj⟩
   ·rcases PZ h with h|h
    ·exact .inl h
    ·exact .inr ⟨0,h⟩
   ·exact .inr ⟨_,hj⟩
theorem bF: ∀(l:List (AJ×D)) {l':List (AJ×D)} {s:St} {S:Nat→Prop} {Fs:Nat→Nat→Prop},IC l=some l'→En (l.map (·.1))=true→Rel T s rv w S Fs→
  (∀q∈l,q.1=[]∨ ∃t p,q.1=t::p∧BL (s.v t) p=some q.2)→
  ∃(S1:Nat→Prop) (Fs1:Nat→Nat→Prop),Rel T (back false s l') rv w S1 Fs1∧Step w S Fs w S1 Fs1∧
   (∀(q:AJ×D) (v:Value) (c':D),q∈l→pY s w rv q.1 q.2 v→EG q.2=some c'→W T S1 w V0 Hy c' v (fun _=>False)):=by
 intro l
 induction l with
 |nil=>
  intro l' s S Fs hf _ h _;simp only [IC,al]at hf;subst hf
  exact⟨S,Fs,h,Step.refl _ _ _,fun q v c' hq=>by cases hq⟩
 |cons q l ih=>
  obtain⟨L,c⟩:=q;intro l' s S Fs hf hap h hq;simp only [IC,H8,Cf]at hf;obtain⟨c',hc',ls',hls,rfl⟩:=hf;simp only [PD]at hap;obtain⟨ha,hap2⟩:=NY hap;rw [GU]
  have hsrc0: ∀(q:AJ×D) (v:Value) (c':D) (S1:Nat→Prop),q.1=[]→pY s w rv q.1 q.2 v→EG q.2=some c'→W T S1 w V0 Hy c' v (fun _=>False):=by
   intro q v c' S1 e hs hf;obtain⟨_,⟨_,⟨e1,h1⟩,A,h2⟩|⟨t,p,h1,_⟩⟩:=hs
   ·have:W T S1 w V0 Hy (.own e1 []) (.slice A 0 0) (fun _=>False):= .own0 fun _ h=>h
    rw [h1]at hf;rw [h2];exact this.freeze c' hf (fun _ h=>h.elim) (fun _ h=>h)
   ·rw [e]at h1;cases h1
  cases L with
  |nil=>
   obtain⟨S1,Fs1,r1,r2,r3⟩:=ih hls hap2 h (fun q hm=>hq q (Je _ hm))
   refine⟨S1,Fs1,r1,r2,fun q v d hm hs hf=> ?_⟩
   rcases PE.1 hm with rfl|hm
   ·exact hsrc0 _ v d S1 rfl hs hf
   ·exact r3 q v d hm hs hf
  |cons t p=>
   have hfar: ∀q∈l,q.1=[]∨dw (t::p) q.1:=fun q hm=>by
    rcases ha with ha|ha
    ·cases ha
    ·exact ha q.1 (aE hm)
   have hg:BL (s.v t) p=some c:=by
    rcases hq _ (LX)with h|⟨t',p',h1,h2⟩
    ·cases h
    ·simp only at h1 h2;injection h1 with e1 e2;subst e1;subst e2;exact h2
   obtain⟨v,F,hfo,hW,hsub,hset,_⟩:=h.focus hg;have hk:=Keeps.set0 (w:=w) (rv:=rv) hg (O1 c c' hc');have hWf:W T (fun k=>S k∨F k) w V0 Hy c' v (fun _=>False):=hW.freeze c' hc' (fun k hk=> .inr hk) (fun k hk=> .inl hk);have h1:=hset w (fun k=>S k∨F k) (s.set (t::p) c') c' (fun _=>False) rfl (fun k u hu hn=>⟨rfl,fun hs=>hs.elim ((h.val u).notS k hu) hn,id⟩) (fun k hk=>⟨.inl hk,rfl⟩) (fun k hs=>hs.elim (h.lt k) (hW.lt k)) hk hWf.up;have hset':NZ false s (t::p) c'=s.set (t::p) c':=rfl
   have hstep:Step w S Fs w (fun k=>S k∨F k) (Kv Fs t (fun k=>(Fs t k∧ ¬F k)∨False)):=
    Step.of_sub (fun k hk=> .inl hk) (fun k hk=>hk.imp id (fun hf=>⟨t,hsub k hf⟩)) (fun u k hu=>(PZ hu).elim (fun h=>⟨u,h⟩) (fun h=>h.elim))
   have hst2: ∀q∈l,∀t' p',q.1=t'::p'→BL ((s.set (t::p) c').v t') p'=BL (s.v t') p':=fun q hm t' p' e=>by
    refine Ro (.inr ?_);rcases hfar q hm with h|h
    ·rw [h]at e;cases e
    ·rw [←e];exact h
   rw [hset']
   obtain⟨S1,Fs1,r1,r2,r3⟩:=ih hls hap2 h1 (fun q hm=>by
    rcases hq q (Je _ hm)with h|⟨t',p',e,hh⟩
    ·exact .inl h
    ·exact .inr ⟨t',p',e,by rw [hst2 q hm t' p' e];exact hh⟩)
   refine⟨S1,Fs1,r1,hstep.trans r2,fun q u d hm hs hf=> ?_⟩
   rcases PE.1 hm with rfl|hm
   ·simp only at hf;rw [hc']at hf
    injection hf with hf
    subst hf
    have hu:u=v:=by
     obtain⟨_,⟨h1,_⟩|⟨t',p',h1,h2,h3⟩⟩:=hs
     ·cases h1
     ·simp only at h3;rw [hfo]at h3;injection h3 with h3;exact h3.symm
    subst hu;exact W.mono (fun k hk=>⟨r2.sS k hk,rfl⟩) hWf _ _ (fun _ _ _ _ h=>h) (fun _ _ _ _ _ h=>h) (fun _ h=>h.elim)
   ·refine r3 q u d hm ?_ hf;obtain⟨ho,h1|⟨t',p',h1,h2,h3⟩⟩:=hs
    ·exact⟨ho,.inl h1⟩
    ·exact⟨ho,.inr ⟨t',p',h1,by rw [hst2 q hm t' p' h1];exact h2,h3⟩⟩
end
end Dv
namespace Dv
open Go
section
variable {P:Program} {E:Env} {s s':St} {gh:Nat→Value} {a:Act} {w w':World} {S:Nat→Prop} {Fs:Nat→Nat→Prop} {N:Nat} {pm:Pm}
theorem O6{T:Tys}{S0:Nat→Prop}{gh0:Nat→Value}{xs:List (ac×ab)}{as caps:List D}{args vcaps:Array Value}(hlen:as.length=xs.length)(hsz:args.size=xs.length)
  (hargs: ∀(i:Nat) (q:ac×ab),xs[i]? =some q→args[i]? =some (a.eval q.1))
  (h: ∀(k:Nat) (x:D),as[k]? =some x→ ∃q:ac×ab,xs[k]? =some q∧W T S0 w (VG gh0) Hy x (a.eval q.1) (fun _=>False))
  (hc:vcaps.size=caps.length)(hcaps: ∀(i:Nat) (d:D),caps[i]? =some d→ ∃v,vcaps[i]? =some v∧W T S0 w (VG gh0) Hy d v (fun _=>False)):
  (args++vcaps).size=(as++caps).length∧ ∀(i:Nat) (d:D),(as++caps)[i]? =some d→ ∃v,(args++vcaps)[i]? =some v∧W T S0 w (VG gh0) Hy d v (fun _=>False):=by
 refine⟨by simp [hlen,hsz,hc],fun i d hi=> ?_⟩
 rcases Nat.lt_or_ge i as.length with hl|hl
 ·rw [ND hl]at hi;obtain⟨q,hq,hW⟩:=h i d hi
  exact⟨_,by rw [Array.getElem?_append_left (by omega)];exact hargs i q hq,hW⟩
 ·rw [NC hl]at hi;obtain⟨v,hv,hW⟩:=hcaps _ d hi
  exact⟨v,by rw [Array.getElem?_append_right (by omega),show i-args.size=i-as.length by omega];exact hv,hW⟩
theorem XA{T:Tys}{S0:Nat→Prop}{gh0:Nat→Value}{caps:List D}{vcaps:Array Value}(hS: ∀k,S k→S0 k)
  (hcaps: ∀(i:Nat) (d:D),caps[i]? =some d→ ∃v,vcaps[i]? =some v∧W T S w V0 Hy d v (fun _=>False)):
  ∀(i:Nat) (d:D),caps[i]? =some d→ ∃v,vcaps[i]? =some v∧W T S0 w (VG gh0) Hy d v (fun _=>False):=by
 intro i d hi;obtain⟨v,hv,hW⟩:=hcaps i d hi
 exact⟨v,hv,(W.mono (fun k hk=>⟨hS k hk,rfl⟩) hW V0 Hy (fun _ _ _ _ h=>h) (fun _ _ _ _ _ h=>h) (fun _ h=>h.elim)).up⟩
theorem Yu{c:Call}{ts:List ab}(hsz:c.args.size=ts.length):(c.args.map a.eval).size=(c.args.toList.zip ts).length∧
  ∀(i:Nat) (q:ac×ab),(c.args.toList.zip ts)[i]? =some q→(c.args.map a.eval)[i]? =some (a.eval q.1):=by
 refine⟨by simp [hsz],fun i q hi=> ?_⟩
 rw [bb]at hi;rw [Array.getElem?_map];have:c.args[i]? =some q.1:=by simpa using hi.1
 rw [this];rfl
theorem XB(h:Fr E.T N gh s a w S Fs){xs:List (ac×ab)}(hxs: ∀q∈xs,BA N q.1){as caps:List D}{ls:List (AJ×D)}(ha:Dj E false pm s 0 xs=some (as,ls))
  {args vcaps:Array Value}(hsz:args.size=xs.length)(hargs: ∀(i:Nat) (q:ac×ab),xs[i]? =some q→args[i]? =some (a.eval q.1))
  (hc:vcaps.size=caps.length)(hcaps: ∀(i:Nat) (d:D),caps[i]? =some d→ ∃v,vcaps[i]? =some v∧W E.T S w V0 Hy d v (fun _=>False))
  {f:am}{r:D}{outs:List D}(hg:Good P E.T f (as++caps) [] r outs)(hno:Dn r=false){dst:Option Tmp}(hd:DI N dst):
  Calls P f (args++vcaps) w fun| .returned v,w'=>CB E.T gh N (s.putO dst r) w S Fs (a.put dst v) w'|_,_=>False:=by
 obtain⟨lv,ho,hlen,hgi⟩:=L9 h.rel h.small xs 0 hxs ha
 have hA:=hgi (fun _=>undef) (fun k=>S k∨ ∃u,Fs u k) (fun k hk=> .inl hk) (fun hl=>by cases hl) (fun _ i q v c' hq hv hs hf=>by
  obtain⟨_,⟨e,⟨e1,h1⟩,A,h2⟩|⟨t,p,h1,h2,h3⟩⟩:=hs
  ·have:W E.T (fun k=>S k∨ ∃u,Fs u k) w V0 Hy (.own e1 []) (.slice A 0 0) (fun _=>False):= .own0 fun _ h=>h
   rw [h1]at hf;rw [h2];exact this.freeze c' hf (fun _ h=>h.elim) (fun _ h=>h)
  ·obtain⟨v',F,hfo,hW,hsub,_⟩:=h.rel.focus h2;rw [h1,hfo]at h3
   injection h3 with h3
   subst h3
   exact hW.freeze c' hf (fun k hk=> .inr ⟨t,hsub k hk⟩) (fun k hk=> .inl hk))
 obtain⟨e1,e2⟩:=O6 hlen hsz hargs hA hc (XA (fun k hk=> .inl hk) hcaps);refine Calls.mono (hg.2 _ (fun _=>undef) w _ (fun _ _=>False) e1 e2 (fun j d hj=>by simp at hj) (fun _ _ _ h=>h) (fun _ _ _ _ h=>h.elim) (fun k hk=>hk.elim (h.rel.lt k) (fun⟨u,hu⟩=>(h.rel.val u).lt k hu))) ?_
 intro e w' he
 cases e with
 |returned v=>
  obtain⟨S',F,FL',hW,_,_,_,hst,hF,hlt⟩:=he;have hheap: ∀k,k<w.heap.size→w'.heap[k]? =w.heap[k]? :=fun k hk=>hst.heap k hk (fun _ h=>h);have hFn: ∀k,F k→w.heap.size≤k:=fun k hk=>(hF k hk).elim (fun⟨_,h⟩=>h.elim) id;have hW':W E.T S w' V0 Hy r v F:=A0D hW hno (fun k hk hs=>by have:=hFn k hk;have:=h.rel.lt k hs;omega)
  exact Bn (h.rel.grow hheap hst.size) hW'.up (fun t k _ hf hu=>by have:=hFn k hf;have:=(h.rel.val t).lt k hu;omega)
   ⟨hst.os,hst.tape,hst.output,hst.size,fun k hk _=>hheap k hk,fun _ h=>h,fun _ h=> .inl h,fun u k h=> .inl ⟨u,h⟩⟩ (fun k hk=> .inr (hFn k hk)) h.defs h.size h.small hd
 |panicked=>exact he.elim
 |outgrown=>exact he.elim
theorem dz{l:List (AJ×D)}{lv:List Value}{rv:Nat→Value}(ho:JI s w rv l lv): ∀q∈l,q.1=[]∨ ∃t p,q.1=t::p∧BL (s.v t) p=some q.2:=by
 intro q hq;obtain⟨i,hi⟩:=aA hq;have hlt:i<lv.length:=by rw [ho.1];exact(ES.1 hi).1
 obtain⟨_,⟨h,_⟩|⟨t,p,h1,h2,_⟩⟩:=ho.2 i q _ hi (Gy hlt)
 ·exact .inl h
 ·exact .inr ⟨t,p,h1,h2⟩
theorem Yv(h:Fr E.T N gh s a w S Fs){xs:List (ac×ab)}(hxs: ∀q∈xs,BA N q.1){as caps:List D}{ls ls':List (AJ×D)}(ha:Dj E false pm s 0 xs=some (as,ls))
  {args vcaps:Array Value}(hsz:args.size=xs.length)(hargs: ∀(i:Nat) (q:ac×ab),xs[i]? =some q→args[i]? =some (a.eval q.1))
  (hc:vcaps.size=caps.length)(hcaps: ∀(i:Nat) (d:D),caps[i]? =some d→ ∃v,vcaps[i]? =some v∧W E.T S w V0 Hy d v (fun _=>False))
  {f:am}{r:D}{outs:List D}(hg:Good P E.T f (as++caps) [] r outs)(hap:En (ls.map (·.1))=true)(hfz:IC ls=some ls'){dst:Option Tmp}(hd:DI N dst):
  Calls P f (args++vcaps) w fun| .returned v,w'=>CB E.T gh N ((back false s ls').putO dst r) w S Fs (a.put dst v) w'|_,_=>False:=by
 obtain⟨lv,ho,hlen,hgi⟩:=L9 h.rel h.small xs 0 hxs ha;obtain⟨S1,Fs1,r1,r2,r3⟩:=bF ls hfz hap h.rel (dz ho);have hA:=hgi (fun _=>undef) S1 r2.sS (fun hl=>by cases hl) (fun _ i q v c' hq hv hs hf=>r3 q v c' (Uy hq) hs hf)
 obtain⟨e1,e2⟩:=O6 hlen hsz hargs hA hc (XA r2.sS hcaps);refine Calls.mono (hg.2 _ (fun _=>undef) w _ (fun _ _=>False) e1 e2 (fun j d hj=>by simp at hj) (fun _ _ _ h=>h) (fun _ _ _ _ h=>h.elim) r1.lt) ?_
 intro e w' he
 cases e with
 |returned v=>
  obtain⟨S',F,FL',hW,_,_,_,hst,hF,hlt⟩:=he;have hheap: ∀k,k<w.heap.size→w'.heap[k]? =w.heap[k]? :=fun k hk=>hst.heap k hk (fun _ h=>h);have hFn: ∀k,F k→w.heap.size≤k:=fun k hk=>(hF k hk).elim (fun⟨_,h⟩=>h.elim) id;have hk:=Keeps.grow r1 hheap
  have hnS: ∀u k,Fs1 u k→ ¬S' k:=fun u k hu hs=>by
   rcases hst.sS' k hs with h1|⟨_,h1⟩|h1
   ·exact(r1.val u).notS k hu h1
   ·exact h1
   ·have:=(r1.val u).lt k hu;omega
  have hrel:Rel E.T (back false s ls') (Al a gh) w' S' Fs1:=⟨fun t=>(r1.val t).keep hk (fun k hs=>⟨hst.sS k hs,hheap k (r1.lt k hs)⟩) (fun k hf=>⟨hnS t k hf,hheap k ((r1.val t).lt k hf)⟩),r1.disj,hlt⟩;refine Bn hrel hW.up (fun t k _ hf hu=>by have:=hFn k hf;have:=(r1.val t).lt k hu;omega) (r2.trans ⟨hst.os,hst.tape,hst.output,hst.size,fun k hk _=>hheap k hk,hst.sS,fun k hs=> ?_,fun u k h=> .inl ⟨u,h⟩⟩) (fun k hk=> .inr (hFn k hk)) h.defs h.size h.small hd
  rcases hst.sS' k hs with h1|⟨_,h1⟩|h1
  ·exact .inl h1
  ·exact h1.elim
  ·exact .inr (.inr h1)
 |panicked=>exact he.elim
 |outgrown=>exact he.elim
theorem Yw{T:Tys}{rv:Nat→Value}(h:Rel T s rv w S Fs){l:List (AJ×D)}{lv:List Value}(ho:JI s w rv l lv){outs:List D}(hlen:outs.length=l.length)
  (hheap: ∀t,(∀q∈l,q.1=[]∨q.1.headD 0≠t)→ ∀k,Fs t k→w'.heap[k]? =w.heap[k]?):Keeps s w rv (Jf s (l.map (·.1)) outs) w' rv:=by
 have hzip: ∀L,L∈l.map (·.1)→ ∃q∈(l.map (·.1)).zip outs,q.1=L:=by
  intro L hL;obtain⟨i,hi⟩:=aA hL;have hl:i<outs.length:=by rw [hlen];simpa using (ES.1 hi).1
  exact⟨(L,outs[i]),Uy (i:=i) (by rw [bb];exact⟨hi,Gy hl⟩),rfl⟩
 refine⟨fun t=>by unfold Jf;rw [X9,X9];exact IB _,fun t=> ?_,fun L n m he hva=> ?_⟩
 ·unfold Jf;refine Nat.le_trans ?_ (WB true t _ _);rw [PY];exact IB _
 ·obtain⟨t,q,x,rfl,h1,h2,h3,h4⟩:=hva;unfold Jf at h1 h2 h3;rw [X9,X9]at h1;by_cases htch: ∃q∈l,q.1≠[]∧q.1.headD 0=t
  ·obtain⟨q0,hm,hne,hhd⟩:=htch
   have hq:q=[]:=by
    rcases h2 with h2|h2
    ·exact h2
    ·obtain⟨q1,hm1,e1⟩:=hzip q0.1 (aE hm);have:=iX t ((l.map (·.1)).zip outs) (back false s ((l.map (·.1)).map fun L=>(L,.undef))) ⟨q1,hm1,by rw [e1];exact hne,by rw [e1];exact hhd⟩
     rw [PY]at this;have h5:=he.2;simp only [Uz]at h5;omega
   subst hq;simp only [BL,al]at h3
   refine⟨⟨t,[],s.v t,rfl,h1,.inl rfl,rfl, ?_⟩,by simp [Dr,Ai]⟩
   by_cases hroot: ∃q∈l,q.1=[t]
   ·obtain⟨q2,hm2,e2⟩:=hroot;obtain⟨i,hi⟩:=aA hm2;have hlt:i<lv.length:=by rw [ho.1];exact(ES.1 hi).1
    obtain⟨hob,⟨h5,_⟩|⟨t',p',h5,h6,_⟩⟩:=ho.2 i q2 _ hi (Gy hlt)
    ·rw [h5]at e2;cases e2
    ·rw [e2]at h5
     injection h5 with h5 h7
     subst h5;subst h7;simp only [BL,al]at h6;rw [h6];exact hob
   ·have hr: ∀L,L∈l.map (·.1)→L≠[t]:=fun L hL e=>by
     obtain⟨q',hm',e'⟩:=JH.1 hL;exact hroot ⟨q',hm',e'.trans e⟩
    rw [←h3,WC,WC]at h4
    ·exact h4
    ·intro q hq;obtain⟨L,hL,rfl⟩:=JH.1 hq;exact hr L hL
    ·intro q hq;exact hr q.1 (WY hq).1
  ·have hu: ∀q∈l,q.1=[]∨q.1.headD 0≠t:=fun q hq=>by
    by_cases hn:q.1=[]
    ·exact .inl hn
    ·exact .inr fun e=>htch ⟨q,hq,hn,e⟩
   have hu1: ∀q∈(l.map (·.1)).map (fun L=>(L,D.undef)),q.1=[]∨q.1.headD 0≠t:=by
    intro q hq;obtain⟨L,hL,rfl⟩:=JH.1 hq;obtain⟨q',hm',rfl⟩:=JH.1 hL;exact hu q' hm'
   have hu2: ∀q∈(l.map (·.1)).zip outs,q.1=[]∨q.1.headD 0≠t:=by
    intro q hq;obtain⟨q',hm',e⟩:=JH.1 (WY hq).1;rw [←e];exact hu q' hm'
   obtain⟨b1,b2⟩:=TS true t _ (back false s ((l.map (·.1)).map fun L=>(L,.undef))) hu2;obtain⟨c1,c2⟩:=TS false t _ s hu1;rw [b1,c1]at h3;rw [b2,c2]at h2
   refine⟨⟨t,q,x,rfl,h1,h2,h3,h4⟩, ?_⟩
   simp only [Dr]
   exact(h.val t).follow_frame (hheap t hu) x h3
theorem WE(h:Fr E.T N gh s a w S Fs){args:List D}{ls:List (AJ×D)}{lv:List Value}(ho:JI s w (Al a gh) ls lv){vs:Array Value}
  (e1:vs.size=args.length)(e2: ∀(i:Nat) (d:D),args[i]? =some d→ ∃v,vs[i]? =some v∧W E.T S w (VG fun j=>lv.getD j undef) Hy d v (fun _=>False))
  {f:am}{r:D}{outs:List D}(hg:Good P E.T f args (ls.map (·.2)) r outs)(hap:En (ls.map (·.1))=true)(hok:ls.all (fun l=>Zq l.2)=true)(hol:outs.length=ls.length){dst:Option Tmp}(hd:DI N dst):
  Calls P f vs w fun| .returned v,w'=>CB E.T gh N ((Jf s (ls.map (·.1)) outs).putO dst r) w S Fs (a.put dst v) w'|_,_=>False:=by
 have hV:RelV E.T (VR s w (Al a gh)) (VpR s w (Al a gh)) s (Al a gh) w S Fs:=⟨h.rel.val,h.rel.disj⟩;obtain⟨Fs1,FL,q1,q2,q3,q4,q5,q6,q7⟩:=iY ls hV hap (dz ho)
 have hlent: ∀(j:Nat) (q:AJ×D),ls[j]? =some q→W E.T S w V0 Hy q.2 (lv.getD j undef) (FL j):=by
  intro j q hj;have hlt:j<lv.length:=by rw [ho.1];exact(ES.1 hj).1
  have hgd:lv.getD j undef=lv[j]:=by simp [K5,hlt]
  obtain⟨hob,⟨h1,⟨e,h2⟩,A,h3⟩|⟨t,p,h1,h2,h3⟩⟩:=ho.2 j q _ hj (Gy hlt)
  ·rw [hgd,h2,h3];exact .own0 (q3 j (fun q' hq'=>by rw [hj]at hq';injection hq' with hq';rw [←hq'];exact h1))
  ·obtain⟨_,v,hv,hW⟩:=q2 j q t p hj h1;rw [h3]at hv
   injection hv with hv
   rw [hgd,hv];exact X6 q.2 hW (by simpa [Zq] using Ir.1 hok q (Uy hj))
 refine Calls.mono (hg.2 _ (fun j=>lv.getD j undef) w S FL e1 e2 (fun j d hj=>by
   rw [MC]at hj;obtain⟨q,hq,rfl⟩:=Cf.1 hj
   exact hlent j q hq) (fun j hj=>q3 j (fun q hq=>by have:=(ES.1 hq).1;simp at hj;omega)) q4 h.rel.lt) ?_
 intro e w' he
 cases e with
 |returned v=>
  obtain⟨S',F,FL',hW,hWo,hd1,hd2,hst,hF,hlt⟩:=he;have hFs1lt: ∀u k,Fs1 u k→k<w.heap.size:=fun u k hu=>(h.rel.val u).lt k (q6 u k hu);have hheap1: ∀u k,Fs1 u k→w'.heap[k]? =w.heap[k]? :=fun u k hu=>hst.heap k (hFs1lt u k hu) (fun j hj=>q5 j u k hj hu)
  have hnS: ∀u k,Fs1 u k→ ¬S' k:=fun u k hu hs=>by
   rcases hst.sS' k hs with h1|⟨j,h1⟩|h1
   ·exact(q1.val u).notS k hu h1
   ·exact q5 j u k h1 hu
   ·have:=hFs1lt u k hu;omega
  have hFLS: ∀j k,FL j k→ ¬S k:=fun j k hj hs=>by
   obtain⟨q,t,p,_,_,hk⟩:=q7 j k hj
   exact(h.rel.val t).notS k hk hs
  have hSheap: ∀k,S k→S' k∧w'.heap[k]? =w.heap[k]? :=fun k hs=>⟨hst.sS k hs,hst.heap k (h.rel.lt k hs) (fun j hj=>hFLS j k hj hs)⟩
  have hV1:RelV E.T (VR s w (Al a gh)) (VpR s w (Al a gh)) (back false s (ls.map fun q=>(q.1,.undef))) (Al a gh) w' S' Fs1:=
   ⟨fun t=>W.mono hSheap (q1.val t) _ _ (fun _ _ _ _ h=>h) (fun _ _ _ _ _ h=>h) (fun k hk=>⟨hnS t k hk,hheap1 t k hk⟩),q1.disj⟩
  have hFLn: ∀j u k,FL' j k→ ¬Fs1 u k:=fun j u k hj hu=>by
   rcases hst.sF j k hj with⟨i,hi⟩|hge
   ·exact q5 i u k hi hu
   ·have:=hFs1lt u k hu;omega
  have hzg: ∀(i:Nat) (q:AJ×D),((ls.map (·.1)).zip outs)[i]? =some q→ ∃q',ls[i]? =some q'∧q'.1=q.1∧outs[i]? =some q.2:=by
   intro i q hi;rw [bb,MC]at hi;obtain⟨q',h1,h2⟩:=Cf.1 hi.1
   exact⟨q',h1,h2,hi.2⟩
  obtain⟨Fs2,f1,f2⟩:=ku ((ls.map (·.1)).zip outs) (FL:=FL') (gh:=fun j=>lv.getD j undef) hV1 (by
    have:((ls.map (·.1)).zip outs).map (·.1)=ls.map (·.1):=List.map_fst_zip (by simp [hol])
    rw [this];exact hap) (fun i q hi=>by
    obtain⟨q',h1,h2,h3⟩:=hzg i q hi
    cases hL:q.1 with
    |nil=>exact .inl rfl
    |cons t p=>
     right
     obtain⟨g1,v1,g2,g3⟩:=q2 i q' t p h1 (h2.trans hL)
     refine⟨t,p,rfl,g1, ?_⟩
     have hlt':i<lv.length:=by rw [ho.1];exact(ES.1 h1).1
     have hgd:lv.getD i undef=lv[i]:=by simp [K5,hlt']
     obtain⟨hob,⟨h4,_⟩|⟨t',p',h4,h5,h6⟩⟩:=ho.2 i q' _ h1 (Gy hlt')
     ·rw [h2,hL]at h4;cases h4
     ·rw [h2,hL]at h6;simp only [hgd,←h6,Dr]
      exact(q1.val t).follow_frame (fun k hk=>hheap1 t k hk) _ g1)
   (fun i q hi=>by
    obtain⟨q',h1,h2,h3⟩:=hzg i q hi
    exact(hWo i q.2 h3).up) hd1 hFLn
  have hbk:Jf s (ls.map (·.1)) outs=back true (back false s (ls.map fun q=>(q.1,.undef))) ((ls.map (·.1)).zip outs):=by
   unfold Jf;rw [List.map_map];rfl
  have hkeep:Keeps s w (Al a gh) (Jf s (ls.map (·.1)) outs) w' (Al a gh):=Yw h.rel ho hol (fun t ht k hk=>by
   refine hst.heap k ((h.rel.val t).lt k hk) (fun j hj=> ?_);obtain⟨q,t',p,h1,h2,h3⟩:=q7 j k hj;rcases ht q (Uy h1)with h4|h4
   ·rw [h4]at h2;cases h2
   ·rw [h2]at h4
    exact h.rel.disj t t' k (fun e=>h4 (by simpa using e.symm)) hk h3)
  have hFs2: ∀u k,Fs2 u k→(∃u,Fs u k)∨w.heap.size≤k:=fun u k hu=>by
   rcases f2 u k hu with h1|⟨j,h1⟩
   ·exact .inl ⟨u,q6 u k h1⟩
   ·rcases hst.sF j k h1 with⟨i,hi⟩|hge
    ·obtain⟨q,t',p,_,_,h3⟩:=q7 i k hi;exact .inl ⟨t',h3⟩
    ·exact .inr hge
  have hrel:Rel E.T (Jf s (ls.map (·.1)) outs) (Al a gh) w' S' Fs2:=by
   refine⟨fun t=> ?_,f1.disj,hlt⟩
   have:=f1.val t
   rw [←hbk]at this;exact W.mono (fun k hk=>⟨hk,rfl⟩) this _ _ hkeep.VR hkeep.VpR (fun k hk=>⟨this.notS k hk,rfl⟩)
  refine Bn hrel hW.up (fun t k _ hf hu=> ?_) ⟨hst.os,hst.tape,hst.output,hst.size,fun k hk hn=>hst.heap k hk (fun j hj=> ?_),hst.sS,fun k hs=> ?_,hFs2⟩ (fun k hf=> ?_) h.defs h.size h.small hd
  ·rcases f2 t k hu with h1|⟨j,h1⟩
   ·rcases hF k hf with⟨j,hj⟩|hge
    ·exact q5 j t k hj h1
    ·have:=hFs1lt t k h1;omega
   ·exact hd2 j k hf h1
  ·obtain⟨q,t',p,_,_,h3⟩:=q7 j k hj;exact hn t' h3
  ·rcases hst.sS' k hs with h1|⟨j,h1⟩|h1
   ·exact .inl h1
   ·obtain⟨q,t',p,_,_,h3⟩:=q7 j k h1;exact .inr (.inl ⟨t',h3⟩)
   ·exact .inr (.inr h1)
  ·rcases hF k hf with⟨j,hj⟩|hge
   ·obtain⟨q,t',p,_,_,h3⟩:=q7 j k hj;exact .inl ⟨t',h3⟩
   ·exact .inr hge
 |panicked=>exact he.elim
 |outgrown=>exact he.elim
theorem bG(h:Fr E.T N gh s a w S Fs){xs:List (ac×ab)}(hxs: ∀q∈xs,BA N q.1){as caps:List D}{ls:List (AJ×D)}(ha:Dj E true pm s 0 xs=some (as,ls))
  {args vcaps:Array Value}(hsz:args.size=xs.length)(hargs: ∀(i:Nat) (q:ac×ab),xs[i]? =some q→args[i]? =some (a.eval q.1))
  (hc:vcaps.size=caps.length)(hcaps: ∀(i:Nat) (d:D),caps[i]? =some d→ ∃v,vcaps[i]? =some v∧W E.T S w V0 Hy d v (fun _=>False))
  {f:am}{r:D}{outs:List D}(hg:Good P E.T f (as++caps) (ls.map (·.2)) r outs)(hap:En (ls.map (·.1))=true)(hok:ls.all (fun l=>Zq l.2)=true)(hol:outs.length=ls.length){dst:Option Tmp}(hd:DI N dst):
  Calls P f (args++vcaps) w fun| .returned v,w'=>CB E.T gh N ((Jf s (ls.map (·.1)) outs).putO dst r) w S Fs (a.put dst v) w'|_,_=>False:=by
 obtain⟨lv,ho,hlen,hgi⟩:=L9 h.rel h.small xs 0 hxs ha;have hA:=hgi (fun j=>lv.getD j undef) S (fun _ h=>h) (fun _ i v hv=>by rw [JG,K5,hv];rfl) (fun hl=>by cases hl)
 obtain⟨e1,e2⟩:=O6 hlen hsz hargs hA hc (XA (fun _ h=>h) hcaps);exact WE h ho e1 e2 hg hap hok hol hd
theorem iZ(h:Fr E.T N gh s a w S Fs){xs:List (ac×ab)}(hxs: ∀q∈xs,BA N q.1){as caps cs:List D}{ls lc:List (AJ×D)}(ha:Dj E true pm s 0 xs=some (as,ls))(hoc:JR pm s ls.length caps=some (cs,lc))
  {args vcaps:Array Value}(hsz:args.size=xs.length)(hargs: ∀(i:Nat) (q:ac×ab),xs[i]? =some q→args[i]? =some (a.eval q.1)){f:am}{us:Nat→Value}
  (hc:vcaps.size=caps.length)(hcx: ∀(i:Nat) (d:D),caps[i]? =some d→vcaps[i]? =some (us i))(hcw: ∀(i:Nat) (d:D),caps[i]? =some d→WR E.T s (Al a gh) w S d (us i) (fun _=>False))
  (hself: ∀i,caps[i]? =some D.undef→ ∃ad,us i= .pointer (some ad)∧S ad.block∧w.cell? (ad.add 0)=some (.func (.func f) #[] vcaps))
  {r:D}{outs:List D}(hg:Good P E.T f (as++cs.map (Nz f cs)) ((ls++lc).map (·.2)) r outs)(hap:En ((ls++lc).map (·.1))=true)(hok:(ls++lc).all (fun l=>Zq l.2)=true)(hol:outs.length=(ls++lc).length){dst:Option Tmp}(hd:DI N dst):
  Calls P f (args++vcaps) w fun| .returned v,w'=>CB E.T gh N ((Jf s ((ls++lc).map (·.1)) outs).putO dst r) w S Fs (a.put dst v) w'|_,_=>False:=by
 obtain⟨lv1,ho1,hlen,hgi⟩:=L9 h.rel h.small xs 0 hxs ha;obtain⟨lv2,ho2,hlc,hun,hgo⟩:=X8 caps ls.length us hcw hoc;have ho:=ho1.append ho2;have hgd: ∀(i:Nat) (v:Value),(lv1++lv2)[i]? =some v→(lv1++lv2).getD i undef=v:=fun i v hv=>by rw [K5,hv];rfl
 have hA:=FP.left (l2:=lc) (v2:=lv2) ho1 hgi (fun j=>(lv1++lv2).getD j undef) S (fun _ h=>h) (fun _ i v hv=>by rw [JG];exact hgd i v hv) (fun hl=>by cases hl)
 have hO:=FP.right (l1:=ls) (v1:=lv1) (j:=0) ho1 (by rw [JG];exact hgo) (fun j=>(lv1++lv2).getD j undef) S (fun _ h=>h) (fun _ i v hv=>by rw [JG];exact hgd i v hv) (fun hl=>by cases hl)
 have hvi: ∀(i:Nat) (d:D),cs[i]? =some d→vcaps[i]? =some (us i):=fun i d hi=>by
  have hlt:=(ES.1 hi).1;exact hcx i _ (Gy (by rw [←hlc];exact hlt))
 obtain⟨e1,e2⟩:=O6 hlen hsz hargs hA (caps:=cs.map (Nz f cs)) (vcaps:=vcaps) (by rw [hc,RJ,hlc]) (fun i d hi=>by
  rw [MC]at hi;obtain⟨x,hx,rfl⟩:=Cf.1 hi
  refine⟨us i,hvi i x hx, ?_⟩
  by_cases hu:x=D.undef
  ·subst hu;obtain⟨ad,s1,s2,s3⟩:=hself i (hun i hx);rw [s1];exact .ocl us (fun _ h=>h) (by rw [hc,hlc]) hvi hO (fun k hk=>hself k (hun k hk)) (.inr ⟨rfl,ad,rfl,s2,s3⟩)
  ·have:Nz f cs x=x:=by unfold Nz;split<;>first|exact absurd rfl hu|rfl
   rw [this]
   exact hO i x hx)
 exact WE h ho e1 e2 hg hap hok hol hd
theorem kv(hK:PV P E):kJ P E:=by
 intro pm s s' gh a w S Fs N Q o c f caps vcaps ts h hok hop hsz hcd hvc hcaps hrun;obtain⟨hd,hx⟩:=hok
 have hxs: ∀q∈c.args.toList.zip ts,BA N q.1:=fun q hq=>hx q.1 (by
  have:=(WY hq).1
  rw [hop];simp only [Op.operands,Call.operands];simp;right;simpa using this)
 obtain⟨z1,z2⟩:=Yu (a:=a) hsz
 have key: ∀ {args lent:List D} {r:D} {outs:List D},Good P E.T f args lent r outs→(Calls P f (c.args.map a.eval++vcaps) w fun| .returned v,w'=>CB E.T gh N s' w S Fs (a.put o.dst v) w'|_,_=>False)→o.wp P a w (CB E.T gh N s' w S Fs) Q:=by
  intro args lent r outs hg hcalls;obtain⟨⟨fn,hf,hb,hn⟩,_⟩:=hg;unfold Oper.wp;rw [hrun,PW hf hb hn,Oper.upon_enter];refine Calls.mono hcalls ?_;intro e w' he
  cases e with
  |returned v=>exact he
  |panicked=>exact he.elim
  |outgrown=>exact he.elim
 unfold Fh at hcd
 split at hcd
 ·split at hcd
  ·cases hcd
  ·rename_i as ls ha
   split at hcd
   ·rename_i hcond
    simp only [FM]at hcond
    split at hcd
    ·rename_i r outs hcall
     split at hcd
     ·rename_i hol
      simp only [al]at hcd;subst hcd;exact key (hK _ _ _ _ _ hcall) (bG h hxs ha z1 z2 hvc hcaps (hK _ _ _ _ _ hcall) hcond.1.1 hcond.2 hol hd)
     ·cases hcd
    ·cases hcd
   ·cases hcd
 ·split at hcd
  ·cases hcd
  ·rename_i as ls ha
   split at hcd
   ·rename_i r outs hcall
    split at hcd
    ·split at hcd
     ·rename_i hcond
      simp only [FM]at hcond;simp only [Cf]at hcd;obtain⟨ls',hfz,rfl⟩:=hcd;exact key (hK _ _ _ _ _ hcall) (Yv h hxs ha z1 z2 hvc hcaps (hK _ _ _ _ _ hcall) hcond.1 hfz hd)
     ·cases hcd
    ·rename_i hno
     simp only [al]at hcd;subst hcd;exact key (hK _ _ _ _ _ hcall) (XB h hxs ha z1 z2 hvc hcaps (hK _ _ _ _ _ hcall) (by simpa using hno) hd)
   ·cases hcd
theorem kw(hK:PV P E):kK P E:=by
 intro pm s s' gh a w S Fs N Q o c f caps vcaps us h hok hop hsz hcd hvc hcx hcw hself hrun;obtain⟨hd,hx⟩:=hok
 have hxs: ∀q∈c.args.toList.zip c.argTypes.toList,BA N q.1:=fun q hq=>hx q.1 (by
  have:=(WY hq).1
  rw [hop];simp only [Op.operands,Call.operands];simp;right;simpa using this)
 obtain⟨z1,z2⟩:=Yu (a:=a) (ts:=c.argTypes.toList) (by simpa using hsz)
 unfold Mk at hcd
 split at hcd
 ·cases hcd
 ·rename_i as ls ha
  split at hcd
  ·cases hcd
  ·rename_i cs lc hoc
   split at hcd
   ·rename_i hcond
    simp only [FM]at hcond
    split at hcd
    ·rename_i r outs hcall
     split at hcd
     ·rename_i hol
      simp only [al]at hcd;subst hcd;have hg:=hK _ _ _ _ _ hcall;have hcalls:=iZ h hxs ha hoc z1 z2 hvc hcx hcw hself hg hcond.1.1 hcond.2 hol hd;obtain⟨⟨fn,hf,hb,hn⟩,_⟩:=hg;unfold Oper.wp;rw [hrun,PW hf hb hn,Oper.upon_enter];refine Calls.mono hcalls ?_;intro e w' he
      cases e with
      |returned v=>exact he
      |panicked=>exact he.elim
      |outgrown=>exact he.elim
     ·cases hcd
    ·cases hcd
   ·cases hcd
theorem eB(hK:PV P E):Jd P E:=⟨kv hK,kw hK⟩
end
end Dv
namespace Dv
open Go
def Yx(a:Act):ResultVar→Sem Value
 | .tmp t=>pure (a.tmps.getD t undef)
 | .cell x t=>do loadVar t (←asAddr (a.tmps.getD x undef))
def WF(N:Nat):ResultVar→Bool
 | .tmp t=>decide (t<N)
 | .cell t _=>decide (t<N)
section
variable {P:Program} {T:Tys} {s s':St} {gh:Nat→Value} {a:Act} {w w':World} {S:Nat→Prop} {Fs:Nat→Nat→Prop} {N:Nat}
theorem bH(hG:N≤G){t:Nat}(ht:t<N):a.tmps.getD t undef=Al a gh t:=by
 have:t<G:=by omega
 simp [Al,this]
theorem Pb(h:BZ P T){t:ab}(hk:T.known t=true)(hs:T.isStruct t=false){w:World}{A:Addr}{u:Value}(hc:w.cell? A=some u):(loadVar t A).run P w= .ok u w:=by
 simp [loadVar,h.isAgg hk,hs,hc]
theorem Pd(h:BZ P T){t:ab}(hk:T.known t=true)(hs:T.isStruct t=true){w:World}{A:Addr}(f:Nat→Value)(hc: ∀j,j<T.size t→w.cell? (A.add j)=some (f j)):
  (loadVar t A).run P w= .ok (.agg ((an (T.size t)).map f).toArray) w:=by
 simp [loadVar,h.isAgg hk,hs,h.szOf hk,run_loadCells w A (T.size t) f hc]
theorem TT(hT:BZ P T)(h:Rel T s (Al a gh) w S Fs)(hG:N≤G){r:ResultVar}(hr:WF N r=true){d:D}(hd:Sg T s r=some (d,s')):
  ∃v,(Yx a r).run P w= .ok v w∧ ∃S' Fs' F,Rel T s' (Al a gh) w S' Fs'∧Hand T s' (Al a gh) w S' Fs' d v F∧Keeps s w (Al a gh) s' w (Al a gh)∧Sub S Fs S' Fs' F:=by
 cases r with
 |tmp t=>
  simp only [WF,decide_eq_true_eq]at hr;have ht:take T Pm.all s 0 (.tmp t)=some (d,s'):=by simpa [take,ev,Sg] using hd
  obtain⟨S',Fs',F,h1,h2,h3,h4,h5,h6⟩:=Fv h hG (x:= .tmp t) hr ht;rw [Dt (gh:=gh) hG hr]at h2
  refine⟨Al a gh t,by simp only [Yx,Sem.run_pure];rw [bH (gh:=gh) hG hr],S',Fs',F,h1,h2,h3,h4.sS,fun k hk=> ?_,h6,h5⟩
  rcases h4.sS' k hk with h|h|h
  ·exact .inl h
  ·exact .inr h
  ·have:=h1.lt k hk;omega
 |cell t ty=>
  simp only [WF,decide_eq_true_eq]at hr;simp only [Sg]at hd
  split at hd
  ·rename_i hk
   have hW:=h.val t
   split at hd
   ·rename_i xs hv
    rw [hv]at hW;have hrv:=bH (a:=a) (gh:=gh) hG hr;generalize hgen:Al a gh t=v0 at hW
    cases hW with
    |box us Fi hb hz hx hF hFb hdj hS hw=>
     rename_i ty0 b cs
     have hcell: ∀i x,xs[i]? =some x→w.cell? (Addr.add ⟨b,0,none⟩ i)=some (us i):=fun i x hi=>by rw [MJ hb];exact hx i x hi
     have hkc:=Keeps.clr s w (Al a gh) t;have hcl:=h.clr t
     have hnF: ∀i u k,i<xs.length→Fi i k→ ¬Kv Fs t (fun _=>False) u k:=fun i u k hi hf hu=>by
      by_cases hut:u=t
      ·subst hut;simp [Ak]at hu
      ·rw [Ad _ _ hut]at hu;exact h.disj u t k hut hu ((hF k).2 (.inr ⟨i,hi,hf⟩))
     have hsub: ∀u k,Kv Fs t (fun _=>False) u k→Fs u k:=fun u k hu=>by
      by_cases hut:u=t
      ·subst hut;simp [Ak]at hu
      ·rwa [Ad _ _ hut]at hu
     split at hd
     ·rename_i hst
      split at hd
      ·rename_i hlen
       simp only [Cf,Prod.mk.injEq]at hd;obtain⟨⟨ys,s1⟩,hts,rfl,rfl⟩:=hd;obtain⟨S',Fs',Gi,r1,r2,r3,r4,r5,r6,r7,r8,r9,r10⟩:=MM xs hts hcl us Fi (fun i x hi=>WR.same (hw i x hi) hkc) hnF hdj
       refine⟨.agg ((an (T.size ty)).map us).toArray, ?_,S',Fs',fun k=> ∃i,i<ys.length∧Gi i k,r1,⟨?_,fun u k ⟨i,hi,hk⟩=>r4 i u k hi hk⟩,hkc.trans r6,r7,fun k hs=> ?_,fun u k hu=>hsub u k (r9 u k hu),fun k ⟨i,hi,hk⟩=> ?_⟩
       ·simp only [Yx,hrv,hgen,asAddr,Sem.run_bind,Sem.run_pure];exact Pd hT hk hst us (fun j hj=>hcell j _ (Gy (by omega)))
       ·refine .agg us Gi (by simp [r2,hlen]) (fun i x hi=> ?_) (fun _=>Iff.rfl) r5 r3
        have:=(ES.1 hi).1
        simp only at this r2;have hi':i<T.size ty:=by omega
        simp [hi']
       ·rcases r8 k hs with h|⟨u,hu⟩|⟨i,hi,hf⟩
        ·exact .inl h
        ·exact .inr ⟨u,hsub u k hu⟩
        ·exact .inr ⟨t,(hF k).2 (.inr ⟨i,hi,hf⟩)⟩
       ·rcases r10 i k hi hk with hf|⟨u,hu⟩
        ·exact⟨t,(hF k).2 (.inr ⟨i,by omega,hf⟩)⟩
        ·exact⟨u,hsub u k hu⟩
      ·cases hd
     ·rename_i hst
      split at hd
      ·rename_i d0
       obtain⟨S',Fs',F',r1,r2,r3,r4⟩:=Hd d0 hd hcl ⟨WR.same (hw 0 d0 rfl) hkc,fun u k hf=>hnF 0 u k (by simp) hf⟩
       refine⟨us 0, ?_,S',Fs',F',r1,r2,hkc.trans r3,r4.sS,fun k hs=> ?_,fun u k hu=>hsub u k (r4.sF u k hu),fun k hk=> ?_⟩
       ·simp only [Yx,hrv,hgen,asAddr,Sem.run_bind,Sem.run_pure];have h0:=hcell 0 d0 rfl;rw [add_zero]at h0;exact Pb hT hk (by simpa using hst) h0
       ·rcases r4.sS' k hs with h|⟨u,hu⟩|hf
        ·exact .inl h
        ·exact .inr ⟨u,hsub u k hu⟩
        ·exact .inr ⟨t,(hF k).2 (.inr ⟨0,by simp,hf⟩)⟩
       ·rcases r4.sH k hk with hf|⟨u,hu⟩
        ·exact⟨t,(hF k).2 (.inr ⟨0,by simp,hf⟩)⟩
        ·exact⟨u,hsub u k hu⟩
      ·cases hd
   ·rename_i xs hv
    rw [hv]at hW;have hrv:=bH (a:=a) (gh:=gh) hG hr;generalize hgen:Al a gh t=v0 at hW
    cases hW with
    |cptr us hE hx hw=>
     rename_i ad
     split at hd
     ·rename_i hst
      split at hd
      ·rename_i hlen
       simp only [al,Prod.mk.injEq]at hd;obtain⟨rfl,rfl⟩:=hd
       refine⟨.agg ((an (T.size ty)).map us).toArray, ?_,S,Fs,fun _=>False,h,⟨?_,fun _ _ h=>h.elim⟩,Keeps.refl _ _ _,fun _ h=>h,fun _ h=> .inl h,fun _ _ h=>h,fun _ h=>h.elim⟩
       ·simp only [Yx,hrv,hgen,asAddr,Sem.run_bind,Sem.run_pure];exact Pd hT hk hst us (fun j hj=>(hx j _ (Gy (by omega))).2)
       ·refine .agg us (fun _ _=>False) (by simp [hlen]) (fun i x hi=> ?_) (fun k=>⟨fun h=>h.elim,fun⟨_,_,h⟩=>h⟩) (fun _ _ _ _ _ _ h=>h.elim) (fun i x hi=>(hw i x hi).up)
        have:=(ES.1 hi).1
        have hi':i<T.size ty:=by omega
        simp [hi']
      ·cases hd
     ·rename_i hst
      split at hd
      ·rename_i d0
       simp only [al,Prod.mk.injEq]at hd;obtain⟨rfl,rfl⟩:=hd
       refine⟨us 0, ?_,S,Fs,fun _=>False,h,⟨(hw 0 d0 rfl).up,fun _ _ h=>h.elim⟩,Keeps.refl _ _ _,fun _ h=>h,fun _ h=> .inl h,fun _ _ h=>h,fun _ h=>h.elim⟩
       simp only [Yx,hrv,hgen,asAddr,Sem.run_bind,Sem.run_pure];have h0:=(hx 0 d0 rfl).2;rw [add_zero]at h0;exact Pb hT hk (by simpa using hst) h0
      ·cases hd
   ·cases hd
  ·cases hd
theorem Yy(hT:BZ P T)(hG:N≤G): ∀(rs:List ResultVar) {s s':St} {S:Nat→Prop} {Fs:Nat→Nat→Prop} {ds:List D},Rel T s (Al a gh) w S Fs→rs.all (WF N)=true→Lf T s rs=some (ds,s')→
  ∃vs:List Value,(rs.mapM (Yx a)).run P w= .ok vs w∧vs.length=rs.length∧ds.length=rs.length∧ ∃(S':Nat→Prop) (Fs' Gi:Nat→Nat→Prop),Rel T s' (Al a gh) w S' Fs'∧
   (∀(i:Nat) (d:D),ds[i]? =some d→ ∃v,vs[i]? =some v∧WR T s' (Al a gh) w S' d v (Gi i))∧(∀i t k,i<ds.length→Gi i k→ ¬Fs' t k)∧(∀i j k,i<ds.length→j<ds.length→i≠j→Gi i k→ ¬Gi j k)∧
   Keeps s w (Al a gh) s' w (Al a gh)∧(∀k,S k→S' k)∧(∀k,S' k→S k∨ ∃u,Fs u k)∧(∀u k,Fs' u k→Fs u k)∧(∀i k,i<ds.length→Gi i k→ ∃u,Fs u k):=by
 intro rs
 induction rs with
 |nil=>
  intro s s' S Fs ds h _ hd;simp only [Lf,al,Prod.mk.injEq]at hd;obtain⟨rfl,rfl⟩:=hd
  exact⟨[],by simp,rfl,rfl,S,Fs,fun _ _=>False,h,by simp,by simp,by simp,Keeps.refl _ _ _,fun _ h=>h,fun _ h=> .inl h,fun _ _ h=>h,by simp⟩
 |cons r rs ih=>
  intro s s' S Fs ds h hok hd;simp only [QI,FM]at hok;simp only [Lf,H8,Cf,Prod.mk.injEq]at hd;obtain⟨⟨d,s1⟩,hd1,⟨ds',s2⟩,hds,rfl,rfl⟩:=hd;obtain⟨v,hv,S1,Fs1,F,r1,r2,r3,r4⟩:=TT (P:=P) hT h hG hok.1 hd1;obtain⟨vs,hvs,hl1,hl2,S2,Fs2,Gi,q1,q2,q3,q4,q5,q6,q7,q8,q9⟩:=ih r1 hok.2 hds
  have hFS2: ∀k,F k→ ¬S2 k:=fun k hf hs=>by
   rcases q7 k hs with h|⟨u,hu⟩
   ·exact r2.val.notS k hf h
   ·exact r2.apart u k hf hu
  refine⟨v::vs,by simp [List.mapM_cons,hv,hvs],by simp [hl1],by simp [hl2],S2,Fs2,fun i=>match i with|0=>F|i+1=>Gi i,q1,fun i x hi=> ?_,fun i t k hi=> ?_,fun i j k hi hj hij=> ?_,r3.trans q5,fun k hk=>q6 k (r4.sS k hk),fun k hk=> ?_,fun u k hu=>r4.sF u k (q8 u k hu),fun i k hi=> ?_⟩
  ·cases i with
   |zero=>
    simp only [OH,al]at hi;subst hi
    exact⟨v,rfl,WR.keep r2.val q5 (fun k hk=>⟨q6 k hk,rfl⟩) (fun k hf=>⟨hFS2 k hf,rfl⟩)⟩
   |succ i=>exact q2 i x (by simpa using hi)
  ·cases i with
   |zero=>exact fun hf hu=>r2.apart t k hf (q8 t k hu)
   |succ i=>exact q3 i t k (by simpa using hi)
  ·cases i with
   |zero=>cases j with
    |zero=>exact(hij rfl).elim
    |succ j=>
     intro hf hg;obtain⟨u,hu⟩:=q9 j k (by simpa using hj) hg
     exact r2.apart u k hf hu
   |succ i=>cases j with
    |zero=>
     intro hg hf;obtain⟨u,hu⟩:=q9 i k (by simpa using hi) hg
     exact r2.apart u k hf hu
    |succ j=>exact q4 i j k (by simpa using hi) (by simpa using hj) (by omega)
  ·rcases q7 k hk with h|⟨u,hu⟩
   ·exact r4.sS' k h
   ·exact .inr ⟨u,r4.sF u k hu⟩
  ·cases i with
   |zero=>exact r4.sH k
   |succ i=>
    intro hg;obtain⟨u,hu⟩:=q9 i k (by simpa using hi) hg
    exact⟨u,r4.sF u k hu⟩
theorem TU(fn:Func):results fn a.tmps=(do let vs←fn.results.mapM (Yx a);pure (if h:vs.size=1 then vs[0]else .tuple vs)):=by
 unfold results
 congr 1
theorem VI(hT:BZ P T)(h:Rel T s (Al a gh) w S Fs)(hG:N≤G){fn:Func}(hok:fn.results.toList.all (WF N)=true){d:D}(hd:MI T s fn.results.toList=some (d,s')):
  ∃v,(results fn a.tmps).run P w= .ok v w∧ ∃S' Fs' F,Rel T s' (Al a gh) w S' Fs'∧Hand T s' (Al a gh) w S' Fs' d v F∧Keeps s w (Al a gh) s' w (Al a gh)∧Sub S Fs S' Fs' F:=by
 unfold MI at hd
 split at hd
 ·rename_i r hrs
  rw [hrs]at hok;simp only [QI,List.all_nil,V5]at hok;obtain⟨v,hv,rest⟩:=TT (P:=P) hT h hG hok hd
  refine⟨v, ?_,rest⟩
  have:fn.results= #[r]:=by rw [←P7 (xs:=fn.results),hrs]
  rw [TU,this];simp [hv]
 ·rename_i hne
  simp only [Cf,Prod.mk.injEq]at hd;obtain⟨⟨ds,s1⟩,hds,rfl,rfl⟩:=hd;obtain⟨vs,hvs,hl1,hl2,S2,Fs2,Gi,q1,q2,q3,q4,q5,q6,q7,q8,q9⟩:=Yy (P:=P) hT hG _ h hok hds
  refine⟨.tuple vs.toArray, ?_,S2,Fs2,fun k=> ∃i,i<ds.length∧Gi i k,q1,⟨?_,fun u k ⟨i,hi,hk⟩=>q3 i u k hi hk⟩,q5,q6,q7,q8,fun k ⟨i,hi,hk⟩=>q9 i k hi hk⟩
  ·rw [TU,Array.mapM_eq_mapM_toList]
   have hl:vs.length≠1:=fun e=>by
    rw [hl1]at e;obtain⟨r,hr⟩:=List.length_eq_one_iff.1 e;exact hne r hr
   simp [hvs,hl]
  ·have hval: ∀(i:Nat) (d:D),ds[i]? =some d→vs[i]? =some (vs.getD i undef)∧WR T s1 (Al a gh) w S2 d (vs.getD i undef) (Gi i):=fun i d hi=>by
    obtain⟨v,hv,hW⟩:=q2 i d hi;rw [K5,hv];exact⟨rfl,hW⟩
   exact .tup (fun i=>vs.getD i undef) Gi (by simp [hl1,hl2]) (fun i x hi=>by simpa using (hval i x hi).1) (fun _=>Iff.rfl) q4 (fun i x hi=>(hval i x hi).2)
end
def Bz(fn:Func)(n:Nat):Bool:=
 (match fn.body with|some c=>H5 fn.ntmps c|none=>false)&&fn.results.toList.all (WF fn.ntmps)&&decide (fn.ntmps≤G)&&decide (n≤fn.ntmps)&& !(fn.name== "runtime.NumGoroutine")
theorem A0E{T:Tys}{S:Nat→Prop}{w:World}{V:AJ→Nat→Nat→Value→Prop}{Vp:AJ→Nat→Nat→Nat→Value→Prop}{d:D}{v:Value}{F:Nat→Prop}(h:W T S w V Vp d v F)(ho:jc d=true):W T S w V0 Hy d v F:=by
 unfold jc at ho
 split at ho
 ·cases h with|undef h=>exact .undef h
 ·exact X6 _ h ho
theorem ib{P:Program}{E:Env}(hT:BZ P E.T)(hm:P.follows .mixedOrders=true)(hK:PV P E){f:am}{fn:Func}(hf:P.funcs[f]? =some fn){args lent:List D}{r:D}{outs:List D}
  (hok:Bz fn args.length=true)(hr:YM E fn args lent=some (r,outs)):Good P E.T f args lent r outs:=by
 simp only [Bz,FM,decide_eq_true_eq,Ku]at hok;obtain⟨⟨⟨⟨hcode,hres⟩,hG⟩,hargs⟩,hname⟩:=hok;unfold YM at hr
 cases hb:fn.body with
 |none=>simp [hb]at hr
 |some c=>
  rw [hb]at hcode hr;simp only at hcode hr
  refine⟨⟨fn,hf,by simp [hb],hname⟩,fun vs gh w S FL hsz hA hL hL0 hLd hlt=> ?_⟩
  refine calls_of_wp hf hb ?_
  have hent:Fr E.T fn.ntmps gh (entry args lent) {tmps:=vs++Array.replicate (fn.ntmps-vs.size) undef,defers:=[]} w S (fun t=>if t<G then fun _=>False else FL (t-G)):=by
   refine⟨⟨fun t=> ?_,fun t u k htu=> ?_,hlt⟩,rfl,by simp;omega,hG⟩
   ·by_cases htG:t<G
    ·simp only [entry,htG,if_true,Al]
     cases ha:args[t]? with
     |none=>rw [K5,ha];exact .undef fun _ h=>h
     |some d=>
      obtain⟨v,hv,hW⟩:=hA t d ha
      have hvt:(vs++Array.replicate (fn.ntmps-vs.size) undef).getD t undef=v:=by
       rw [MB,Array.getElem?_append_left (by rw [hsz];exact(ES.1 ha).1),hv];rfl
      rw [K5,ha];simp only [YE];rw [hvt];refine W.mono (fun k hk=>⟨hk,rfl⟩) hW _ _ ?_ (fun _ _ _ _ _ h=>h.elim) (fun _ h=>h.elim);rintro L n m u ⟨j,rfl,rfl,rfl,rfl⟩
      refine⟨⟨Nat.zero_le _,Nat.zero_le _⟩,fun _=> ?_⟩
      have: ¬G+j<G:=by omega
      simp [Dr,Ai,Al,this]
    ·simp only [entry,htG,if_false,Al]
     cases hl:lent[t-G]? with
     |none=>rw [K5,hl];exact .undef (hL0 _ (by simpa using hl))
     |some d=>rw [K5,hl];exact(hL _ d hl).up
   ·by_cases h1:t<G
    ·simp [h1]
    ·by_cases h2:u<G
     ·simp [h1,h2]
     ·simp only [h1,h2,if_false];exact hLd _ _ k (by omega)
  have hfin: ∀(s1:St) (a1:Act) (w1:World),Wj E.T lent.length fn.results.toList s1=some (r,outs)→CB E.T gh fn.ntmps s1 w S (fun t=>if t<G then fun _=>False else FL (t-G)) a1 w1→
    a1.defers=[]∧ ∃v,(results fn a1.tmps).run P w1= .ok v w1∧PU E.T gh r outs w S FL v w1:=by
   intro s1 a1 w1 hfd hp;obtain⟨S1,Fs1,hrel,hst,hdef,hsz1⟩:=hp
   refine⟨hdef, ?_⟩
   unfold Wj at hfd
   split at hfd
   ·cases hfd
   ·rename_i r0 s2 hres2
    split at hfd
    ·rename_i hoks
     simp only [FM]at hoks;simp only [al,Prod.mk.injEq]at hfd;obtain⟨rfl,rfl⟩:=hfd;obtain⟨v,hv,S2,Fs2,F,p1,p2,p3,p4⟩:=VI (P:=P) hT hrel hG hres hres2
     have hFs: ∀u k,Fs1 u k→(∃j,FL j k)∨w.heap.size≤k:=fun u k hu=>by
      rcases hst.sF u k hu with⟨u',h⟩|h
      ·by_cases hu':u'<G
       ·simp [hu']at h
       ·simp only [hu',if_false]at h;exact .inl ⟨_,h⟩
      ·exact .inr h
     refine⟨v,hv,S2,F,fun j=>Fs2 (G+j),X6 _ p2.val (by simpa [Zq] using hoks.1),fun j d hj=> ?_,fun i j k hij=>p1.disj _ _ k (by omega),fun j k hf=>p2.apart _ k hf,⟨hst.os,hst.tape,hst.output,hst.size,fun k hk hn=>hst.heap k hk (fun u hu=> ?_),fun k hk=>p4.sS k (hst.sS k hk),fun k hk=> ?_,fun j k hj=>hFs _ k (p4.sF _ k hj)⟩,fun k hk=> ?_,p1.lt⟩
     ·rw [MC]at hj;obtain⟨j',hj',rfl⟩:=Cf.1 hj;have hj2:=ES.1 hj';obtain⟨hlt',hjj⟩:=hj2;simp only [WW]at hjj;subst hjj;have hall:=Ir.1 hoks.2 (s2.v (G+j)) (JH.2 ⟨j,MF.2 (by simpa using hlt'),rfl⟩)
      have hW:=p1.val (G+j)
      have hrv:Al a1 gh (G+j)=gh j:=by
       have: ¬G+j<G:=by omega
       simp [Al,this]
      rw [hrv]at hW;exact A0E hW hall
     ·by_cases hu':u<G
      ·simp [hu']at hu
      ·simp only [hu',if_false]at hu;exact hn _ hu
     ·rcases p4.sS' k hk with h|⟨u,hu⟩
      ·rcases hst.sS' k h with h|⟨u,hu⟩|h
       ·exact .inl h
       ·by_cases hu':u<G
        ·simp [hu']at hu
        ·simp only [hu',if_false]at hu;exact .inr (.inl ⟨_,hu⟩)
       ·exact .inr (.inr h)
      ·exact .inr (hFs u k hu)
     ·obtain⟨u,hu⟩:=p4.sH k hk;exact hFs u k hu
    ·cases hfd
  cases hx:Dz E c (entry args lent)with
  |none=>simp [hx]at hr
  |some q=>
   obtain⟨ex,s1⟩:=q;rw [hx]at hr;refine wp_mono (af hT (eB hK) (pX hm hT (eB hK)) c hcode hent hx) ?_;rintro e a1 w1 ⟨rfl,hp⟩
   cases ex with
   |normal=>exact hfin s1 a1 w1 hr hp
   |ret=>exact hfin s1 a1 w1 hr hp
   |exit id=>simp at hr
end Dv
namespace Dv
open Go
abbrev R5:=am→List D→List D→Option (D×List D)
def pq(c:R5)(cn:Nat→R5):Prop:= ∀f a l r,c f a l=some r→ ∃n,∀m,n≤m→cn m f a l=some r
section
variable {T:Tys} {lends:am→Bool} {c:R5} {cn:Nat→R5}
theorem QW(lend:Bool)(pm:Pm)(s:St)(c c':R5): ∀(xs:List (ac×ab)) (j:Nat),Dj ⟨T,lends,c⟩ lend pm s j xs=Dj ⟨T,lends,c'⟩ lend pm s j xs:=by
 intro xs
 induction xs with
 |nil=>intro j;rfl
 |cons q xs ih=>
  intro j;obtain⟨x,t⟩:=q;simp only [Dj]
  cases ev T s t x with
  |none=>rfl
  |some d=>
   simp only
   cases K9 T lend pm s j (match x with| .tmp u=>[u]|_=>[]) d with
   |none=>rfl
   |some q=>simp only;rw [ih]
theorem QX(h:pq c cn){pm:Pm}{s s':St}{dst:Option Tmp}{f:am}{xs:List (ac×ab)}{caps:List D}(hd:Fh ⟨T,lends,c⟩ pm s dst f xs caps=some s'):
  ∃n,∀m,n≤m→Fh ⟨T,lends,cn m⟩ pm s dst f xs caps=some s':=by
 unfold Fh at hd;simp only at hd;by_cases hl:lends f=true
 ·rw [if_pos hl]at hd
  cases ha:Dj ⟨T,lends,c⟩ true pm s 0 xs with
  |none=>simp [ha]at hd
  |some q=>
   obtain⟨as,ls⟩:=q;simp only [ha]at hd
   split at hd
   ·rename_i hcond
    cases hc:c f (as++caps) (ls.map (·.2))with
    |none=>simp [hc]at hd
    |some r=>
     obtain⟨n,hn⟩:=h _ _ _ _ hc
     refine⟨n,fun m hm=> ?_⟩
     unfold Fh;simp only;rw [if_pos hl,QW true pm s (cn m) c,ha];simp only;rw [if_pos hcond,hn m hm];rw [hc]at hd;exact hd
   ·cases hd
 ·rw [if_neg hl]at hd
  cases ha:Dj ⟨T,lends,c⟩ false pm s 0 xs with
  |none=>simp [ha]at hd
  |some q=>
   obtain⟨as,ls⟩:=q;simp only [ha]at hd
   cases hc:c f (as++caps) []with
   |none=>simp [hc]at hd
   |some r=>
    obtain⟨n,hn⟩:=h _ _ _ _ hc
    refine⟨n,fun m hm=> ?_⟩
    unfold Fh;simp only;rw [if_neg hl,QW false pm s (cn m) c,ha];simp only;rw [hn m hm];rw [hc]at hd;exact hd
theorem ic(h:pq c cn){pm:Pm}{s s':St}{dst:Option Tmp}{f:am}{xs:List (ac×ab)}{caps:List D}(hd:Mk ⟨T,lends,c⟩ pm s dst f xs caps=some s'):
  ∃n,∀m,n≤m→Mk ⟨T,lends,cn m⟩ pm s dst f xs caps=some s':=by
 unfold Mk at hd;simp only at hd
 cases ha:Dj ⟨T,lends,c⟩ true pm s 0 xs with
 |none=>simp [ha]at hd
 |some q=>
  obtain⟨as,ls⟩:=q;simp only [ha]at hd
  cases ho:JR pm s ls.length caps with
  |none=>simp [ho]at hd
  |some p=>
   obtain⟨cs,lc⟩:=p;simp only [ho]at hd
   split at hd
   ·rename_i hcond
    cases hc:c f (as++cs.map (Nz f cs)) ((ls++lc).map (·.2))with
    |none=>simp only [hc]at hd;cases hd
    |some r=>
     obtain⟨n,hn⟩:=h _ _ _ _ hc
     refine⟨n,fun m hm=> ?_⟩
     unfold Mk;simp only;rw [QW true pm s (cn m) c,ha];simp only [ho];rw [if_pos hcond,hn m hm];rw [hc]at hd;exact hd
   ·cases hd
theorem pu(h:pq c cn){pm:Pm}{s s':St}{o:Oper}(hd:ol ⟨T,lends,c⟩ pm s o=some s'): ∃n,∀m,n≤m→ol ⟨T,lends,cn m⟩ pm s o=some s':=by
 unfold ol at hd ⊢
 cases hop:o.op<;>simp only [hop]at hd ⊢
 case call cl=>
  cases hcal:cl.callee<;>simp only [hcal]at hd ⊢
  case builtin b=>cases b<;>simp only at hd ⊢ <;>exact⟨0,fun _ _=>hd⟩
  case value fo=>
   cases fo<;>simp only at hd ⊢
   case func f=>
    split at hd
    ·rename_i hsz
     simp only [hsz,if_true]
     split at hd
     ·rename_i hty
      obtain⟨s1,h1,h2⟩:=H8.1 hd;obtain⟨n,hn⟩:=QX h h1
      refine⟨n,fun m hm=> ?_⟩
      rw [if_pos hty,hn m hm];exact h2
     ·rename_i hty
      simp only [if_neg hty];exact QX h hd
    ·cases hd
   case tmp u=>
    cases hv:s.v u<;>simp only [hv]at hd ⊢
    case clo f caps=>
     split at hd
     ·rename_i hsz
      simp only [hsz,if_true];exact QX h hd
     ·cases hd
    case ocl b f caps=>
     cases b
     ·simp only at hd ⊢
      split at hd
      ·rename_i hsz
       simp only [hsz,if_true];exact ic h hd
      ·cases hd
     ·cases hd
    all_goals (cases hd)
   all_goals (cases hd)
  all_goals (cases hd)
 case makeFunc fn first captured=>cases fn<;>exact⟨0,fun _ _=>hd⟩
 all_goals exact⟨0,fun _ _=>hd⟩
theorem WG(h:pq c cn){ops:Array Oper}{pm:Pm}{s s':St}{o:Oper}(hd:Iy ⟨T,lends,c⟩ ops pm s o=some s'): ∃n,∀m,n≤m→Iy ⟨T,lends,cn m⟩ ops pm s o=some s':=by
 unfold Iy at hd ⊢
 split at hd
 ·exact pu h hd
 ·exact⟨0,fun _ _=>hd⟩
 ·cases hd
theorem ky(h:pq c cn){ops:Array Oper}: ∀(l:List Oper) {s s':St},V9 ⟨T,lends,c⟩ ops s l=some s'→ ∃n,∀m,n≤m→V9 ⟨T,lends,cn m⟩ ops s l=some s':=by
 intro l
 induction l with
 |nil=>intro s s' hd;exact⟨0,fun _ _=>hd⟩
 |cons o l ih=>
  intro s s' hd;simp only [V9,H8]at hd ⊢;obtain⟨s1,h1,h2⟩:=hd;obtain⟨n1,e1⟩:=WG h h1;obtain⟨n2,e2⟩:=ih h2
  exact⟨max n1 n2,fun m hm=>⟨s1,e1 m (by omega),e2 m (by omega)⟩⟩
theorem ig(h:pq c cn){ops:Array Oper}{l0:List Oper}: ∀(l:List Oper) {s s':St},OU ⟨T,lends,c⟩ ops l0 s l=some s'→ ∃n,∀m,n≤m→OU ⟨T,lends,cn m⟩ ops l0 s l=some s':=by
 intro l
 induction l with
 |nil=>intro s s' hd;exact⟨0,fun _ _=>hd⟩
 |cons o l ih=>
  intro s s' hd;simp only [OU]at hd ⊢
  split at hd
  ·rename_i hmv
   simp only [hmv,if_true];simp only [H8]at hd ⊢;obtain⟨s1,h1,h2⟩:=hd;obtain⟨n1,e1⟩:=WG h h1;obtain⟨n2,e2⟩:=ih h2
   exact⟨max n1 n2,fun m hm=>⟨s1,e1 m (by omega),e2 m (by omega)⟩⟩
  ·cases hd
theorem TV{step:St→Option (Ex×St)}: ∀ {n m:Nat} {s:St} {r:Ex×St},n≤m→Ha step n s=some r→Ha step m s=some r:=by
 intro n
 induction n with
 |zero=>intro m s r _ h;simp [Ha]at h
 |succ n ih=>
  intro m s r hm h
  cases m with
  |zero=>omega
  |succ m=>
   simp only [Ha]at h ⊢
   cases hs:step s with
   |none=>simp [hs]at h
   |some q=>
    obtain⟨ex,s1⟩:=q
    cases ex with
    |normal=>simp only [hs]at h ⊢;exact ih (by omega) h
    |exit id=>simp only [hs]at h ⊢;exact h
    |ret=>simp only [hs]at h ⊢;exact h
theorem Pe{step:St→Option (Ex×St)}{n:Nat}{s:St}{r:Ex×St}(h:Ha step n s=some r):Sd step s=some r:=by
 unfold Sd;have hx: ∃r n,Ha step n s=some r:=⟨r,n,h⟩;rw [dif_pos hx];obtain⟨n',h'⟩:=hx.choose_spec;have h1:=TV (Nat.le_max_left n n') h;have h2:=TV (Nat.le_max_right n n') h';rw [h1]at h2;exact h2.symm
theorem XC(step:St→Option (Ex×St))(s:St):Sd step s=match step s with|none=>none|some (.normal,s')=>Sd step s'|some r=>some r:=by
 cases hs:step s with
 |none=>
  simp only
  cases hi:Sd step s with
  |none=>rfl
  |some r=>
   obtain⟨n,hn⟩:=Lm hi
   cases n<;>simp [Ha,hs]at hn
 |some q=>
  obtain⟨ex,s1⟩:=q
  cases ex with
  |normal=>
   simp only
   cases hi:Sd step s with
   |some r=>
    obtain⟨n,hn⟩:=Lm hi
    cases n with
    |zero=>simp [Ha]at hn
    |succ n=>simp only [Ha,hs]at hn;exact(Pe hn).symm
   |none=>
    cases hj:Sd step s1 with
    |none=>rfl
    |some r=>
     obtain⟨n,hn⟩:=Lm hj;have:Ha step (n+1) s=some r:=by simp only [Ha,hs];exact hn
     rw [Pe this]at hi;cases hi
  |exit id=>simp only;exact Pe (n:=1) (by simp [Ha,hs])
  |ret=>simp only;exact Pe (n:=1) (by simp [Ha,hs])
theorem kz(h:pq c cn): ∀(k:Code) {s:St} {r:Ex×St},Dz ⟨T,lends,c⟩ k s=some r→ ∃n,∀m,n≤m→Dz ⟨T,lends,cn m⟩ k s=some r:=by
 intro k
 induction k with
 |skip=>intro s r hd;exact⟨0,fun _ _=>hd⟩
 |region id ops draw=>
  intro s r hd;simp only [Dz]at hd ⊢
  split at hd
  ·rename_i hdr
   simp only [hdr,if_true]
   split at hd
   ·rename_i hok
    simp only [hok,if_true];simp only [Cf]at hd ⊢;obtain⟨s1,h1,rfl⟩:=hd;obtain⟨n,hn⟩:=ig h _ h1
    exact⟨n,fun m hm=>⟨s1,hn m hm,rfl⟩⟩
   ·cases hd
  ·rename_i hdr
   simp only [hdr];simp only [Cf]at hd ⊢;obtain⟨s1,h1,rfl⟩:=hd;obtain⟨n,hn⟩:=ky h _ h1
   exact⟨n,fun m hm=>by simpa using hn m hm⟩
 |seq x y ihx ihy=>
  intro s r hd;simp only [Dz]at hd ⊢
  cases hx:Dz ⟨T,lends,c⟩ x s with
  |none=>simp [hx]at hd
  |some q=>
   obtain⟨n1,e1⟩:=ihx hx;obtain⟨ex,s1⟩:=q
   cases ex with
   |normal=>
    simp only [hx]at hd;obtain⟨n2,e2⟩:=ihy hd
    exact⟨max n1 n2,fun m hm=>by rw [e1 m (by omega)];exact e2 m (by omega)⟩
   |exit id=>simp only [hx]at hd;exact⟨n1,fun m hm=>by rw [e1 m hm];exact hd⟩
   |ret=>simp only [hx]at hd;exact⟨n1,fun m hm=>by rw [e1 m hm];exact hd⟩
 |cond x a b iha ihb=>
  intro s r hd;simp only [Dz]at hd ⊢
  cases hx:ev T s 0 x with
  |none=>simp [hx]at hd
  |some d=>
   cases d<;>simp only [hx]at hd ⊢ <;>try (cases hd;done)
   rename_i t
   cases t with
   |true=>simp only [if_true]at hd ⊢;exact iha hd
   |false=>simp only [JF,if_false]at hd ⊢;exact ihb hd
 |block id x ih=>
  intro s r hd;simp only [Dz]at hd ⊢
  cases hx:Dz ⟨T,lends,c⟩ x s with
  |none=>simp [hx]at hd
  |some q=>
   obtain⟨n1,e1⟩:=ih hx
   exact⟨n1,fun m hm=>by rw [e1 m hm];rw [hx]at hd;exact hd⟩
 |loop x ih=>
  intro s r hd;simp only [Dz]at hd ⊢;obtain⟨k,hk⟩:=Lm hd
  have key: ∀(k:Nat) {s:St},Ha (Dz ⟨T,lends,c⟩ x) k s=some r→ ∃n,∀m,n≤m→Ha (Dz ⟨T,lends,cn m⟩ x) k s=some r:=by
   intro k
   induction k with
   |zero=>intro s hk;simp [Ha]at hk
   |succ k ihk=>
    intro s hk;simp only [Ha]at hk ⊢
    cases hx:Dz ⟨T,lends,c⟩ x s with
    |none=>simp [hx]at hk
    |some q=>
     obtain⟨n1,e1⟩:=ih hx;obtain⟨ex,s1⟩:=q
     cases ex with
     |normal=>
      simp only [hx]at hk;obtain⟨n2,e2⟩:=ihk hk
      exact⟨max n1 n2,fun m hm=>by rw [e1 m (by omega)];exact e2 m (by omega)⟩
     |exit id=>simp only [hx]at hk;exact⟨n1,fun m hm=>by rw [e1 m hm];exact hk⟩
     |ret=>simp only [hx]at hk;exact⟨n1,fun m hm=>by rw [e1 m hm];exact hk⟩
  obtain⟨n,hn⟩:=key k hk
  exact⟨n,fun m hm=>Pe (hn m hm)⟩
 |exit id=>intro s r hd;exact⟨0,fun _ _=>hd⟩
 |ret=>intro s r hd;exact⟨0,fun _ _=>hd⟩
 |rangeFunc=>intro s r hd;simp [Dz]at hd
 |scope=>intro s r hd;simp [Dz]at hd
 |label=>intro s r hd;simp [Dz]at hd
 |goto=>intro s r hd;simp [Dz]at hd
 |refuse=>intro s r hd;simp [Dz]at hd
theorem Yz(h:pq c cn){fn:Func}{args lent:List D}{r:D×List D}(hd:YM ⟨T,lends,c⟩ fn args lent=some r): ∃n,∀m,n≤m→YM ⟨T,lends,cn m⟩ fn args lent=some r:=by
 unfold YM at hd ⊢
 cases hb:fn.body with
 |none=>simp [hb]at hd
 |some k=>
  simp only [hb]at hd ⊢
  cases hx:Dz ⟨T,lends,c⟩ k (entry args lent)with
  |none=>simp [hx]at hd
  |some q=>
   obtain⟨n,hn⟩:=kz h k hx
   exact⟨n,fun m hm=>by rw [hn m hm];rw [hx]at hd;exact hd⟩
end
structure Sys where
 P:Program
 T:Tys
 lends:am→Bool
 base:R5
namespace Sys
variable (Y:Sys)
def callN:Nat→R5
 |0=>Y.base
 |n+1=>fun f a l=>
  match Y.base f a l with
  |some r=>some r
  |none=>
   match Y.P.funcs[f]? with
   |some fn=>if Bz fn a.length then YM ⟨Y.T,Y.lends,callN n⟩ fn a l else none
   |none=>none
open Classical in
def call:R5:=fun f a l=>if h: ∃r n,Y.callN n f a l=some r then some h.choose else none
def env:Env:=⟨Y.T,Y.lends,Y.call⟩
variable {Y}
theorem bI{n:Nat}: ∀ {f:am} {a l:List D} {r:D×List D},Y.callN n f a l=some r→Y.callN (n+1) f a l=some r:=by
 induction n with
 |zero=>intro f a l r h;simp only [callN]at h ⊢;rw [h]
 |succ n ih=>
  intro f a l r h;rw [callN]at h ⊢;simp only at h ⊢
  cases hb:Y.base f a l with
  |some q=>simp only [hb]at h ⊢;exact h
  |none=>
   simp only [hb]at h ⊢
   cases hf:Y.P.funcs[f]? with
   |none=>simp [hf]at h
   |some fn=>
    simp only [hf]at h ⊢
    split at h
    ·rename_i hok
     rw [if_pos hok];obtain⟨k,hk⟩:=Yz (cn:=fun _=>Y.callN (n+1)) (fun f a l r hh=>⟨0,fun _ _=>ih hh⟩) h;exact hk k (IB _)
    ·cases h
theorem Oi{n m:Nat}(hm:n≤m){f:am}{a l:List D}{r:D×List D}(h:Y.callN n f a l=some r):Y.callN m f a l=some r:=by
 induction hm with
 |refl=>exact h
 |step _ ih=>exact bI ih
theorem eD{n:Nat}{f:am}{a l:List D}{r:D×List D}(h:Y.callN n f a l=some r):Y.call f a l=some r:=by
 unfold call;have hx: ∃r n,Y.callN n f a l=some r:=⟨r,n,h⟩;rw [dif_pos hx];obtain⟨n',h'⟩:=hx.choose_spec;have h1:=Oi (Nat.le_max_left n n') h;have h2:=Oi (Nat.le_max_right n n') h';rw [h1]at h2;exact h2.symm
theorem WH{f:am}{a l:List D}{r:D×List D}(h:Y.call f a l=some r): ∃n,Y.callN n f a l=some r:=by
 unfold call at h
 split at h
 ·rename_i hx
  simp only [al]at h;subst h;exact hx.choose_spec
 ·cases h
theorem l5:pq Y.call Y.callN:=fun f a l r h=>by
 obtain⟨n,hn⟩:=WH h
 exact⟨n,fun m hm=>Oi hm hn⟩
theorem call_run{f:am}{fn:Func}{a l:List D}{r:D×List D}(hb:Y.base f a l=none)(hf:Y.P.funcs[f]? =some fn)(hok:Bz fn a.length=true)(hr:YM Y.env fn a l=some r):Y.call f a l=some r:=by
 obtain⟨n,hn⟩:=Yz l5 hr;refine eD (n:=n+1) ?_;rw [callN];simp only [hb,hf,hok,if_true];exact hn n (IB _)
theorem call_base{f:am}{a l:List D}{r:D×List D}(hb:Y.base f a l=some r):Y.call f a l=some r:=eD (n:=0) hb
structure Ok(Y:Sys):Prop where
 ty:BZ Y.P Y.T
 mixed:Y.P.follows .mixedOrders=true
 base: ∀f a l r outs,Y.base f a l=some (r,outs)→Good Y.P Y.T f a l r outs
theorem bJ(h:Y.Ok): ∀n f a l r outs,Y.callN n f a l=some (r,outs)→Good Y.P Y.T f a l r outs:=by
 intro n
 induction n with
 |zero=>exact h.base
 |succ n ih=>
  intro f a l r outs hc;rw [callN]at hc;simp only at hc
  cases hb:Y.base f a l with
  |some q=>simp only [hb,al]at hc;subst hc;exact h.base _ _ _ _ _ hb
  |none=>
   simp only [hb]at hc
   cases hf:Y.P.funcs[f]? with
   |none=>simp [hf]at hc
   |some fn=>
    simp only [hf]at hc
    split at hc
    ·rename_i hok
     exact ib (E:=⟨Y.T,Y.lends,Y.callN n⟩) h.ty h.mixed (fun f a l r outs hh=>ih f a l r outs hh) hf hok hc
    ·cases hc
theorem call_good(h:Y.Ok){f:am}{a l:List D}{r:D}{outs:List D}(hc:Y.call f a l=some (r,outs)):Good Y.P Y.T f a l r outs:=by
 obtain⟨n,hn⟩:=WH hc;exact bJ h n f a l r outs hn
end Sys
end Dv
end
