/- Lines of problems' texts read, as plain functions. Conditions: those in each lemma. -/
import Derived.Test.YtaogbcdlpgfplaaDoorL6
import Derived.Test.YtaogbcdlpgfplaaDoorRdn
namespace Go.Proofs.YtaogbcdlpgfplaaDoor
open Go Dv
set_option linter.unusedSimpArgs false
set_option linter.unusedVariables false
set_option maxRecDepth 100000
def VT(k:Int):List UInt8:=if k<0 then [42]else Ga k.toNat
theorem Rp(n:Nat): ∀c∈Ga n,48≤c.toNat∧c.toNat≤57:=Tq _ _ _ (Kv n)
theorem mH{c:UInt8}(h:c.toNat<48)(n:Nat):c ∉ Ga n:=fun hm=>by have:=Rp n c hm;omega
theorem Zv{c:UInt8}(h:c.toNat<48)(h2:c≠42)(k:Int):c ∉ VT k:=by
 unfold VT
 split
 ·simpa using h2
 ·exact mH h _
theorem Tt(w:List UInt8):Bf w []=w:=by simp [Bf]
theorem Rq(w:List UInt8)(k:Int)(l:List Int):Bf w (k::l)=w++32::Bf (VT k) l:=by
 simp only [Bf,List.map_cons,List.flatten_cons,IP,VT]
 simp
theorem OH: ∀(l:List Int) (w:List UInt8),32 ∉ w→Da 32 (Bf w l)=w::l.map VT
 | [],w,h=>by rw [Tt,KX 32 w h];rfl
 |k::l,w,h=>by
  rw [Rq,M7 32 w _ h,OH l (VT k) (Zv (by decide) (by decide) k)];rfl
theorem MS: ∀(l:List Int) (w:List UInt8),10 ∉ w→10 ∉ Bf w l
 | [],w,h=>by rwa [Tt]
 |k::l,w,h=>by
  rw [Rq]
  intro hm
  rcases List.mem_append.1 hm with hm|hm
  ·exact h hm
  ·rcases List.mem_cons.1 hm with hm|hm
   ·exact absurd hm (by decide)
   ·exact MS l _ (Zv (by decide) (by decide) k) hm
def Me(w:List UInt8):Option Int:=if w=[42]then some (-1)else(IM w).map fun n=>(n:Int)
def IB:List (List UInt8)→Option (List Int)
 | []=>some []
 |w::r=>(Me w).bind fun k=>(IB r).map fun l=>k::l
theorem dA{k:Int}(h: -1≤k∧k<1000000):Me (VT k)=some k:=by
 unfold Me VT
 by_cases c:k<0
 ·rw [if_pos c,if_pos rfl]
  congr 1;omega
 ·rw [if_neg c,if_neg,ZJ (by omega)]
  ·show some ((k.toNat:Int))=some k
   congr 1;omega
  ·intro e
   have:=Rp k.toNat 42 (by rw [e];simp)
   have ww:(42:UInt8).toNat=42:=rfl
   omega
theorem Kw: ∀l:List Int,(∀k∈l,-1≤k∧k<1000000)→IB (l.map VT)=some l
 | [],_=>rfl
 |k::l,h=>by
  rw [List.map_cons]
  unfold IB
  rw [dA (h k List.mem_cons_self),Kw l (fun x hx=>h x (List.mem_cons_of_mem _ hx))];rfl
theorem Tu: ∀(r:List (List UInt8)) (l:List Int),IB r=some l→l.length=r.length
 | [],l,h=>by unfold IB at h;injection h with h;rw [←h];rfl
 |w::r,l,h=>by
  unfold IB at h
  cases e:Me w with
  |none=>rw [e]at h;cases h
  |some k=>
   rw [e,Option.bind_some]at h
   cases e2:IB r with
   |none=>rw [e2]at h;cases h
   |some m=>
    rw [e2]at h
    injection h with h
    rw [←h,List.length_cons,List.length_cons,Tu r m e2]
abbrev St:=Int×Int×List (List Int)×List (List Int)
def HY(p:Bool)(st:St)(line:List UInt8):Option St:=
 match Da 32 line with
 | []=>none
 |w::r=>(IB r).bind fun l=>
  if p=true∧w=F5∧l.length=2 then some (l.getD 0 default,l.getD 1 default,st.2.2.1,st.2.2.2)
  else if w=F9 then some (st.1,st.2.1,st.2.2.1++[l],st.2.2.2)
  else if w=GV then some (st.1,st.2.1,st.2.2.1,st.2.2.2++[l])
  else none
def Sw(pr:Nat→Bool):Nat→St→List (List UInt8)→Option St
 |_,st,[]=>some st
 |t,st,x::r=>(HY (pr t) st x).bind fun s=>Sw pr (t+1) s r
def Pj(l:List Int):Prop:= ∀k∈l,-1≤k∧k<1000000
theorem ZL(p:Bool)(st:St)(l:List Int)(h:Pj l):HY p st (Bf F9 l)=some (st.1,st.2.1,st.2.2.1++[l],st.2.2.2):=by
 unfold HY
 rw [OH l F9 (by decide)]
 simp only
 rw [Kw l h,Option.bind_some,if_neg (by intro h;exact absurd h.2.1 (by decide)),if_pos trivial]
theorem ZM(p:Bool)(st:St)(l:List Int)(h:Pj l):HY p st (Bf GV l)=some (st.1,st.2.1,st.2.2.1,st.2.2.2++[l]):=by
 unfold HY
 rw [OH l GV (by decide)]
 simp only
 rw [Kw l h,Option.bind_some,if_neg (by intro h;exact absurd h.2.1 (by decide)),if_neg (by decide),if_pos trivial]
theorem ZN(st:St)(a d:Int)(h:Pj [a,d]):HY true st (Bf F5 [a,d])=some (a,d,st.2.2.1,st.2.2.2):=by
 unfold HY
 rw [OH [a,d] F5 (by decide)]
 simp only
 rw [Kw _ h,Option.bind_some,if_pos ⟨trivial,trivial,rfl⟩]
 rfl
theorem Tv(pr:Nat→Bool)(a d:Int)(ns:List (List Int)): ∀(es es0:List (List Int)) (t:Nat),(∀x∈es,Pj x)→Sw pr t (a,d,ns,es0) (es.map (Bf GV))=some (a,d,ns,es0++es)
 | [],es0,t,_=>by simp [Sw]
 |x::es,es0,t,h=>by
  rw [List.map_cons]
  unfold Sw
  rw [ZM _ _ x (h x List.mem_cons_self),Option.bind_some,Tv pr a d ns es _ _ (fun y hy=>h y (List.mem_cons_of_mem _ hy))]
  simp
theorem Tw(pr:Nat→Bool)(a d:Int)(es:List (List Int))(he: ∀x∈es,Pj x): ∀(ns ns0:List (List Int)) (t:Nat),(∀x∈ns,Pj x)→Sw pr t (a,d,ns0,[]) (ns.map (Bf F9)++es.map (Bf GV))=some (a,d,ns0++ns,es)
 | [],ns0,t,_=>by
  rw [List.map_nil,List.nil_append,Tv pr a d ns0 es [] t he]
  simp
 |x::ns,ns0,t,h=>by
  rw [List.map_cons,List.cons_append]
  unfold Sw
  rw [ZL _ _ x (h x List.mem_cons_self),Option.bind_some,Tw pr a d es he ns _ _ (fun y hy=>h y (List.mem_cons_of_mem _ hy))]
  simp
theorem Xc(pr:Nat→Bool)(h0:pr 0=true){a d:Int}{ns es:List (List Int)}(ha:0≤a∧a≤8)(hd:0≤d∧d≤4)(hn: ∀x∈ns,Pj x)(he: ∀x∈es,Pj x):
  Sw pr 0 (0,0,[],[]) (Cg a d ns es)=some (a,d,ns,es):=by
 unfold Cg Sw
 rw [h0,ZN _ a d (fun k hk=>by simp at hk;omega),Option.bind_some]
 exact Tw pr a d es he ns [] 1 hn
theorem dB(a d:Int)(ns es:List (List Int)): ∀x∈Cg a d ns es,(10:UInt8) ∉ x:=by
 intro x hx
 unfold Cg at hx
 rcases List.mem_cons.1 hx with rfl|hx
 ·exact MS _ _ (by decide)
 ·rcases List.mem_append.1 hx with hx|hx
  ·obtain⟨y,_,rfl⟩:=List.mem_map.1 hx
   exact MS _ _ (by decide)
  ·obtain⟨y,_,rfl⟩:=List.mem_map.1 hx
   exact MS _ _ (by decide)
theorem Tx(a d:Int)(ns es:List (List Int)):Cg a d ns es≠[]:=by unfold Cg;simp
theorem ZO(a d:Int)(ns es:List (List Int)):M5 a d ns es=Lib.join (Cg a d ns es) [10]++[10]:=(Rj _ (Tx a d ns es)).symm
theorem Xd(a d:Int)(ns es:List (List Int)):Da 10 (Lib.join (Cg a d ns es) [10])=Cg a d ns es:=by
 have h:=dB a d ns es
 have h2:=Tx a d ns es
 generalize Cg a d ns es=L at h h2
 cases L with
 |nil=>exact absurd rfl h2
 |cons x r=>exact Tj 10 r x h
theorem Xe(c:UInt8): ∀l:List UInt8,Da c (l++[c])=Da c l++[[]]
 | []=>by simp [Da]
 |x::l=>by
  rw [List.cons_append,MQ,MQ,Xe c l]
  by_cases h:x=c
  ·rw [if_pos h,if_pos h];rfl
  ·rw [if_neg h,if_neg h]
   cases e:Da c l with
   |nil=>exact absurd e (OG c l)
   |cons a t=>rfl
def Xf(n m:Nat)(st:St):Prop:=st.2.2.1.length≤n∧st.2.2.2.length≤n∧(∀x∈st.2.2.1,x.length≤m)∧ ∀x∈st.2.2.2,x.length≤m
theorem Rs{p:Bool}{st st':St}{line:List UInt8}{n m:Nat}(h:Xf n m st)(hl:line.length≤m)(e:HY p st line=some st'):Xf (n+1) m st':=by
 obtain⟨h1,h2,h3,h4⟩:=h
 unfold HY at e
 have hc:=M6 32 line
 cases ec:Da 32 line with
 |nil=>rw [ec]at e;cases e
 |cons w r=>
  rw [ec]at e hc
  simp only at e
  have hcount:line.count 32≤line.length:=List.count_le_length
  cases es:IB r with
  |none=>rw [es]at e;cases e
  |some l=>
   rw [es,Option.bind_some]at e
   have hlen:=Tu r l es
   rw [List.length_cons]at hc
   split at e
   ·injection e with e;subst e
    exact⟨by simp only;omega,by simp only;omega,h3,h4⟩
   ·split at e
    ·injection e with e;subst e
     refine⟨by simp only [List.length_append,List.length_cons,List.length_nil];omega,by simp only;omega,fun x hx=> ?_,h4⟩
     rcases List.mem_append.1 hx with hx|hx
     ·exact h3 x hx
     ·rw [List.mem_singleton.1 hx];omega
    ·split at e
     ·injection e with e;subst e
      refine⟨by simp only;omega,by simp only [List.length_append,List.length_cons,List.length_nil];omega,h3,fun x hx=> ?_⟩
      rcases List.mem_append.1 hx with hx|hx
      ·exact h4 x hx
      ·rw [List.mem_singleton.1 hx];omega
     ·cases e
theorem ZP(pr:Nat→Bool)(m:Nat): ∀(L:List (List UInt8)) (t n:Nat) (st st':St),Xf n m st→(∀x∈L,x.length≤m)→Sw pr t st L=some st'→Xf (n+L.length) m st'
 | [],t,n,st,st',h,_,e=>by unfold Sw at e;injection e with e;subst e;exact h
 |x::L,t,n,st,st',h,hl,e=>by
  unfold Sw at e
  cases e1:HY (pr t) st x with
  |none=>rw [e1]at e;cases e
  |some s=>
   rw [e1,Option.bind_some]at e
   have:=ZP pr m L (t+1) (n+1) s st' (Rs h (hl x List.mem_cons_self) e1) (fun y hy=>hl y (List.mem_cons_of_mem _ hy)) e
   rw [List.length_cons]
   rwa [show n+(L.length+1)=n+1+L.length by omega]
end Go.Proofs.YtaogbcdlpgfplaaDoor
