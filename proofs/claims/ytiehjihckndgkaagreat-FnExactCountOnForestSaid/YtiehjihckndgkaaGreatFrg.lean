/- Parts and edges counted: when lists of edges have no cycle. Conditions: none. -/
import Derived.Test.YtiehjihckndgkaaGreatL6
import Derived.Test.YtiehjihckndgkaaGreatBfs
namespace Go.Proofs.YtiehjihckndgkaaGreat
open Go Dv
set_option linter.unusedSimpArgs false
set_option linter.unusedVariables false
set_option maxRecDepth 100000
def iU(P:List (Nat×Nat))(x:Nat):AB:=P.flatMap fun e=>(if e.1=x then [(e.2:Int)]else [])++(if e.2=x then [(e.1:Int)]else [])
theorem N9{P:List (Nat×Nat)}{x:Nat}{y:Int}:y∈iU P x↔ ∃e∈P,(e.1=x∧y=(e.2:Int))∨(e.2=x∧y=(e.1:Int)):=by
 unfold iU;rw [List.mem_flatMap]
 constructor
 ·rintro⟨e,he,h⟩
  refine⟨e,he, ?_⟩
  rcases OU.1 h with h|h
  ·split at h
   ·rename_i c;rw [Wl]at h;exact .inl ⟨c,h⟩
   ·cases h
  ·split at h
   ·rename_i c;rw [Wl]at h;exact .inr ⟨c,h⟩
   ·cases h
 ·rintro⟨e,he,h⟩
  refine⟨e,he,OU.2 ?_⟩
  rcases h with⟨c,h⟩|⟨c,h⟩
  ·left;rw [if_pos c,h];simp
  ·right;rw [if_pos c,h];simp
def Cn(adj:Nat→AB)(x y:Nat):Prop:= ∃k,Rch adj x k y
theorem Cn.refl{adj:Nat→AB}(x:Nat):Cn adj x x:=⟨0,Rch.z⟩
theorem Cn.trans{adj:Nat→AB}{x y z:Nat}(h1:Cn adj x y)(h2:Cn adj y z):Cn adj x z:=by
 obtain⟨k,hk⟩:=h1;obtain⟨l,hl⟩:=h2
 exact⟨_,hk.trans hl⟩
theorem Cn.of{adj:Nat→AB}{x:Nat}{y:Int}(h:y∈adj x):Cn adj x y.toNat:=⟨1,Rch.s Rch.z h⟩
theorem A31{adj adj':Nat→AB}(h: ∀x y,y∈adj x→y∈adj' x){v k x:Nat}(hr:Rch adj v k x):Rch adj' v k x:=by
 induction hr with
 |z=>exact Rch.z
 |s _ hy ih=>exact Rch.s ih (h _ _ hy)
theorem Cn.mono{adj adj':Nat→AB}(h: ∀x y,y∈adj x→y∈adj' x){x y:Nat}(hr:Cn adj x y):Cn adj' x y:=by
 obtain⟨k,hk⟩:=hr
 exact⟨k,A31 h hk⟩
theorem A32(P:List (Nat×Nat)): ∀x y,y∈iU P x→(x:Int)∈iU P y.toNat:=by
 intro x y h;obtain⟨e,he,h⟩:=N9.1 h;refine N9.2 ⟨e,he, ?_⟩;rcases h with⟨c,h⟩|⟨c,h⟩
 ·right;subst h;exact⟨by omega,by omega⟩
 ·left;subst h;exact⟨by omega,by omega⟩
def CP(P:List (Nat×Nat)):Nat→Nat→Prop:=Cn (iU P)
theorem CP.symm{P:List (Nat×Nat)}{x y:Nat}(h:CP P x y):CP P y x:=by
 obtain⟨k,hk⟩:=h
 exact⟨k,hk.rev (A32 P)⟩
theorem CP.sub{P Q:List (Nat×Nat)}(h: ∀e∈P,e∈Q){x y:Nat}(hc:CP P x y):CP Q x y:=
 Cn.mono (fun x y hy=>by obtain⟨e,he,q⟩:=N9.1 hy;exact N9.2 ⟨e,h e he,q⟩) hc
theorem CP.edge{P:List (Nat×Nat)}{e:Nat×Nat}(h:e∈P):CP P e.1 e.2:=by
 have:=Cn.of (N9.2 ⟨e,h,.inl ⟨rfl,rfl⟩⟩:(e.2:Int)∈iU P e.1)
 rwa [EC]at this
theorem CP.cons{P:List (Nat×Nat)}{e:Nat×Nat}{x y:Nat}:CP (e::P) x y↔CP P x y∨(CP P x e.1∧CP P e.2 y)∨(CP P x e.2∧CP P e.1 y):=by
 have up: ∀ {x y:Nat},CP P x y→CP (e::P) x y:=fun h=>h.sub fun _ he=>RL _ he;have he:CP (e::P) e.1 e.2:=CP.edge KM
 constructor
 ·rintro⟨k,hk⟩
  induction hk with
  |z=>exact .inl (Cn.refl x)
  | @s k z w _ hw ih=>
   obtain⟨f,hf,hq⟩:=N9.1 hw;rcases SK.1 hf with rfl|hf
   ·rcases hq with⟨c,q⟩|⟨c,q⟩
    ·rw [q,EC];subst c;rcases ih with h|⟨h1,h2⟩|⟨h1,h2⟩
     ·exact .inr (.inl ⟨h,Cn.refl _⟩)
     ·exact .inr (.inl ⟨h1,Cn.refl _⟩)
     ·exact .inl h1
    ·rw [q,EC];subst c;rcases ih with h|⟨h1,h2⟩|⟨h1,h2⟩
     ·exact .inr (.inr ⟨h,Cn.refl _⟩)
     ·exact .inl h1
     ·exact .inr (.inr ⟨h1,Cn.refl _⟩)
   ·have hz:CP P z w.toNat:=Cn.of (N9.2 ⟨f,hf,hq⟩);rcases ih with h|⟨h1,h2⟩|⟨h1,h2⟩
    ·exact .inl (h.trans hz)
    ·exact .inr (.inl ⟨h1,h2.trans hz⟩)
    ·exact .inr (.inr ⟨h1,h2.trans hz⟩)
 ·rintro(h|⟨h1,h2⟩|⟨h1,h2⟩)
  ·exact up h
  ·exact((up h1).trans he).trans (up h2)
  ·exact((up h1).trans he.symm).trans (up h2)
noncomputable def dcd(p:Prop):Bool:= @decide p (Classical.propDecidable p)
theorem JC{p:Prop}:dcd p=true↔p:= @decide_eq_true_iff p (Classical.propDecidable p)
noncomputable def GM(n:Nat)(R:Nat→Nat→Prop):Nat:=(List.range n).countP fun v=>dcd (∀u,u<v→ ¬R u v)
theorem eF(p q:Nat→Bool)(r:Nat): ∀n,r<n→p r=true→q r=false→(∀v,v≠r→q v=p v)→(List.range n).countP p=(List.range n).countP q+1
 |0,h,_,_,_=>by omega
 |n+1,h,hp,hq,hs=>by
  rw [fD,List.countP_append,List.countP_append,List.countP_singleton,List.countP_singleton];by_cases e:r=n
  ·subst e;rw [if_pos hp,hq];have:(List.range r).countP p=(List.range r).countP q:=List.countP_congr fun v hv=>by rw [hs v (by have:=MJ.1 hv;omega)]
   rw [this];simp
  ·rw [eF p q r n (by omega) hp hq hs,hs n (fun h=>e h.symm)]
   omega
theorem sI(R:Nat→Nat→Prop)(hr: ∀x,R x x)(a:Nat): ∃r,R r a∧r≤a∧ ∀u,u<r→ ¬R u a:=by
 have key: ∀k x,x≤k→R x a→ ∃r,R r a∧r≤x∧ ∀u,u<r→ ¬R u a:=by
  intro k
  induction k with
  |zero=>
   intro x hx h
   exact⟨x,h,Dh _,fun u hu=>by omega⟩
  |succ k ih=>
   intro x hx h;by_cases c: ∃u,u<x∧R u a
   ·obtain⟨u,hu,h1⟩:=c;obtain⟨r,r1,r2,r3⟩:=ih u (by omega) h1
    exact⟨r,r1,by omega,r3⟩
   ·exact⟨x,h,Dh _,fun u hu h1=>c ⟨u,hu,h1⟩⟩
 obtain⟨r,r1,r2,r3⟩:=key a a (Dh _) (hr a)
 exact⟨r,r1,r2,r3⟩
theorem Y8{n:Nat}{R R':Nat→Nat→Prop}(h: ∀x y,R x y↔R' x y):GM n R=GM n R':=by
 have:R=R':=by funext x y;exact propext (h x y)
 rw [this]
theorem sJ{n:Nat}{R R':Nat→Nat→Prop}(hr: ∀x,R x x)(hs: ∀ {x y},R x y→R y x)(ht: ∀ {x y z},R x y→R y z→R x z){a b:Nat}(ha:a<n)(hb:b<n)(hab: ¬R a b)
  (h': ∀x y,R' x y↔R x y∨(R x a∧R b y)∨(R x b∧R a y)):GM n R=GM n R'+1:=by
 obtain⟨ra,a1,a2,a3⟩:=sI R hr a;obtain⟨rb,b1,b2,b3⟩:=sI R hr b;have hne:ra≠rb:=fun e=>hab (ht (hs a1) (e▸b1))
 have key: ∀(c d rc rd:Nat),R rc c→R rd d→(∀u,u<rc→ ¬R u c)→(∀u,u<rd→ ¬R u d)→ ¬R c d→rc<rd→rd<n→(∀x y,R' x y↔R x y∨(R x c∧R d y)∨(R x d∧R c y))→GM n R=GM n R'+1:=by
  intro c d rc rd c1 d1 c3 d3 hcd hlt hn hR;unfold GM;refine eF _ _ rd n hn ?_ ?_ ?_
  ·rw [JC];exact fun u hu h=>d3 u hu (ht h d1)
  ·rw [←fB,JC];intro h;exact h rc hlt ((hR _ _).2 (.inr (.inl ⟨c1,hs d1⟩)))
  ·intro v hv
   have hiff:(∀u,u<v→ ¬R' u v)↔(∀u,u<v→ ¬R u v):=by
    constructor
    ·intro h u hu h1;exact h u hu ((hR _ _).2 (.inl h1))
    ·intro h u hu h1
     rcases(hR _ _).1 h1 with h1|⟨h1,h2⟩|⟨h1,h2⟩
     ·exact h u hu h1
     ·
      apply hv
      have e1: ¬rd<v:=fun hl=>h rd hl (ht d1 h2);have e2: ¬v<rd:=fun hl=>d3 v hl (hs h2);omega
     ·
      have e1: ¬rc<v:=fun hl=>h rc hl (ht c1 h2);have: ¬u<rd:=fun hl=>d3 u hl h1
      omega
   rw [VE,JC,JC];exact hiff
 rcases Nat.lt_or_gt_of_ne hne with hl|hl
 ·exact key a b ra rb a1 b1 a3 b3 hab hl (by omega) h'
 ·refine key b a rb ra b1 a1 b3 a3 (fun h=>hab (hs h)) hl (by omega) fun x y=> ?_
  rw [h' x y]
  constructor
  ·rintro(h|h|h)
   ·exact .inl h
   ·exact .inr (.inr h)
   ·exact .inr (.inl h)
  ·rintro(h|h|h)
   ·exact .inl h
   ·exact .inr (.inr h)
   ·exact .inr (.inl h)
def Z9:List (Nat×Nat)→Prop
 | []=>True
 |e::P=> ¬CP P e.1 e.2∧Z9 P
theorem A09(n:Nat):GM n (CP [])=n:=by
 unfold GM
 have:(List.range n).countP (fun v=>dcd (∀u,u<v→ ¬CP [] u v))=(List.range n).countP (fun _=>true):=by
  refine List.countP_congr fun v _=> ?_;rw [JC]
  refine⟨fun _=>rfl,fun _ u hu h=> ?_⟩
  obtain⟨k,hk⟩:=h
  have: ∀k x,Rch (iU []) u k x→x=u:=by
   intro k x hx
   induction hx with
   |z=>rfl
   |s _ hy _=>exact absurd hy (by simp [iU])
  have:=this k v hk
  omega
 rw [this];simp
theorem eG{n:Nat}{P:List (Nat×Nat)}{e:Nat×Nat}(he:e.1<n∧e.2<n):(CP P e.1 e.2→GM n (CP (e::P))=GM n (CP P))∧(¬CP P e.1 e.2→GM n (CP P)=GM n (CP (e::P))+1):=by
 constructor
 ·intro h;refine Y8 fun x y=> ?_;rw [CP.cons]
  constructor
  ·rintro(h1|⟨h1,h2⟩|⟨h1,h2⟩)
   ·exact h1
   ·exact(h1.trans h).trans h2
   ·exact(h1.trans h.symm).trans h2
  ·exact .inl
 ·intro h;exact sJ (fun x=>Cn.refl x) (fun h=>CP.symm h) (fun h1 h2=>Cn.trans h1 h2) he.1 he.2 h fun x y=>CP.cons
theorem Wh{n:Nat}: ∀ {P:List (Nat×Nat)},(∀e∈P,e.1<n∧e.2<n)→n≤GM n (CP P)+P.length∧(GM n (CP P)+P.length=n↔Z9 P)
 | [],_=>by rw [A09];exact⟨by simp,by simp [Z9]⟩
 |e::P,h=>by
  obtain⟨h1,h2⟩:=Wh (P:=P) fun f hf=>h f (RL _ hf);obtain⟨g1,g2⟩:=eG (P:=P) (h e KM);rw [Lb];by_cases c:CP P e.1 e.2
  ·rw [g1 c]
   refine⟨by omega,fun hh=>by omega,fun hh=>absurd c hh.1⟩
  ·have:=g2 c
   refine⟨by omega,fun hh=>⟨c,h2.1 (by omega)⟩,fun hh=> ?_⟩
   have:=h2.2 hh.2
   omega
def ABa(P:List (Nat×Nat)):Prop:= ∀A e B,P=A++e::B→ ¬CP (A++B) e.1 e.2
theorem A0A{n:Nat}{P:List (Nat×Nat)}(h: ∀e∈P,e.1<n∧e.2<n):ABa P↔Z9 P:=by
 constructor
 ·clear h
  induction P with
  |nil=>intro _;trivial
  |cons e P ih=>
   intro ha
   refine⟨ha [] e P rfl,ih fun A f B hP hc=> ?_⟩
   subst hP;exact ha (e::A) f B rfl (hc.sub fun g hg=>RL _ hg)
 ·intro hj A e B hP hc;subst hP;have hmem: ∀f,f∈A++e::B↔f∈e::(A++B):=fun f=>by simp [or_left_comm]
  have e1:GM n (CP (A++e::B))=GM n (CP (A++B)):=by
   rw [←(eG (P:=A++B) (h e (by simp))).1 hc]
   exact Y8 fun x y=>⟨fun q=>q.sub fun f hf=>(hmem f).1 hf,fun q=>q.sub fun f hf=>(hmem f).2 hf⟩
  have e2:=(Wh h).2.2 hj
  have e3:=(Wh (n:=n) (P:=A++B) fun f hf=>h f (by
   rcases OU.1 hf with hf|hf
   ·exact List.mem_append_left _ hf
   ·exact List.mem_append_right _ (RL _ hf))).1
  simp only [Nf,Lb]at e2 e3;omega
theorem wM{n:Nat}{P:List (Nat×Nat)}(h: ∀e∈P,e.1<n∧e.2<n):P.length=n-GM n (CP P)↔ABa P:=by
 rw [A0A h,←(Wh h).2]
 have hl:GM n (CP P)≤n:=by
  unfold GM;exact VH List.countP_le_length (by simp)
 omega
end Go.Proofs.YtiehjihckndgkaaGreat
