/- The nodes near a node, as plain functions. Conditions: those in each lemma. -/
import Derived.Test.YtipfckompmhljaaL6
import Derived.Test.YtipfckompmhljaaBfs
import Derived.Test.YtipfckompmhljaaSti
namespace Go.Proofs.Ytipfckompmhljaa
open Go Dv
set_option linter.unusedSimpArgs false
set_option linter.unusedVariables false
set_option maxRecDepth 100000
def Za(adj:Nat→List Int)(v k m:Nat):Prop:= ∃j,j≤k∧Rch adj v j m
theorem Vb{adj:Nat→List Int}{v m:Nat}:Za adj v 0 m↔m=v:=by
 constructor
 ·rintro⟨j,hj,h⟩
  have:j=0:=by omega
  subst this
  cases h;rfl
 ·rintro rfl;exact⟨0,Nat.le_refl _, .z⟩
theorem QD{adj:Nat→List Int}{v k m:Nat}:Za adj v (k+1) m↔Za adj v k m∨ ∃w,Za adj v k w∧ ∃y∈adj w,y.toNat=m:=by
 constructor
 ·rintro⟨j,hj,h⟩
  cases h with
  | z=>exact .inl ⟨0,by omega, .z⟩
  | s h' hy=>exact .inr ⟨_,⟨_,by omega,h'⟩,_,hy,rfl⟩
 ·rintro(⟨j,hj,h⟩ | ⟨w,⟨j,hj,h⟩,y,hy,rfl⟩)
  ·exact⟨j,by omega,h⟩
  ·exact⟨j+1,by omega,h.s hy⟩
structure BallB(adj:Nat→List Int)(v k:Nat)(l:List Int):Prop where
 inc:LV l
 mem: ∀y:Int,y∈l↔ ∃m:Nat,y=(m:Int)∧Za adj v k m
theorem iK(adj:Nat→List Int)(v:Nat):BallB adj v 0 [(v:Int)]:=by
 refine⟨List.pairwise_singleton _ _,fun y=> ?_⟩
 rw [List.mem_singleton]
 constructor
 ·rintro rfl;exact⟨v,rfl,Vb.2 rfl⟩
 ·rintro⟨m,rfl,h⟩;rw [Vb.1 h]
theorem iL{adj:Nat→List Int}{v k:Nat}{l l':List Int}(h:BallB adj v k l)(h':BallB adj v k l'):l=l':=ZY h.inc h'.inc fun x=>(h.mem x).trans (h'.mem x).symm
def LH(adj:Nat→List Int)(xs l:List Int):List Int:=xs.foldl (fun b w=>Hu b (adj w.toNat)) l
theorem Vd(adj:Nat→List Int)(xs:List Int): ∀(l:List Int) (y:Int),y∈LH adj xs l↔y∈l∨ ∃w∈xs,y∈adj w.toNat:=by
 unfold LH
 induction xs with
 | nil=>intro l y;simp
 | cons x xs ih=>
  intro l y
  rw [List.foldl_cons,ih,Tp]
  constructor
  ·rintro((h | h) | ⟨w,hw,h⟩)
   ·exact .inl h
   ·exact .inr ⟨x,List.mem_cons_self,h⟩
   ·exact .inr ⟨w,List.mem_cons_of_mem _ hw,h⟩
  ·rintro(h | ⟨w,hw,h⟩)
   ·exact .inl (.inl h)
   ·rcases List.mem_cons.1 hw with e | hw
    ·subst e;exact .inl (.inr h)
    ·exact .inr ⟨w,hw,h⟩
theorem Tq(adj:Nat→List Int)(xs:List Int): ∀(l:List Int),LV l→LV (LH adj xs l):=by
 unfold LH
 induction xs with
 | nil=>intro l h;exact h
 | cons x xs ih=>intro l h;exact ih _ (Qd _ _ h)
theorem iM{adj:Nat→List Int}{v k:Nat}{l:List Int}(hA: ∀x,∀y∈adj x,0≤y)(h:BallB adj v k l):BallB adj v (k+1) (LH adj l l):=by
 refine⟨Tq adj l l h.inc,fun y=> ?_⟩
 rw [Vd,h.mem]
 constructor
 ·rintro(⟨m,e,hm⟩ | ⟨w,hw,hy⟩)
  ·exact⟨m,e,QD.2 (.inl hm)⟩
  ·obtain⟨m,rfl,hm⟩:=(h.mem w).1 hw
   rw [Int.toNat_natCast]at hy
   have h0:=hA _ _ hy
   exact⟨y.toNat,by omega,QD.2 (.inr ⟨m,hm,y,hy,rfl⟩)⟩
 ·rintro⟨m,rfl,hm⟩
  rcases QD.1 hm with hm | ⟨w,hw,y,hy,e⟩
  ·exact .inl ⟨m,rfl,hm⟩
  ·refine .inr ⟨(w:Int),(h.mem _).2 ⟨w,rfl,hw⟩, ?_⟩
   have h0:=hA _ _ hy
   rw [Int.toNat_natCast]
   have:y=(m:Int):=by omega
   rwa [←this]
def PU(o:List Int)(t:Nat):List Int:=((List.range o.length).filter fun w=>decide (0≤Ef o w∧Ef o w≤(t:Int))).map fun w:Nat=>(w:Int)
theorem dJ(n:Nat)(p:Nat→Bool):LV (((List.range n).filter p).map fun w:Nat=>(w:Int)):=by
 unfold LV
 rw [List.pairwise_map]
 refine List.Pairwise.imp ?_ (List.Pairwise.filter p List.pairwise_lt_range)
 intro a b h;omega
theorem FinB.lt{adj:Nat→List Int}{n v:Nat}(hA: ∀x,x<n→ ∀y∈adj x,0≤y∧y.toNat<n)(hv:v<n){k x:Nat}(h:Rch adj v k x):x<n:=by
 induction h with
 | z=>exact hv
 | s _ hy ih=>exact(hA _ ih _ hy).2
theorem Tt{adj:Nat→List Int}{n v:Nat}{o:List Int}(hA: ∀x,x<n→ ∀y∈adj x,0≤y∧y.toNat<n)(hv:v<n)(h:FinB adj n v o)(t:Nat):BallB adj v t (PU o t):=by
 refine⟨dJ _ _,fun y=> ?_⟩
 unfold PU
 rw [h.len,List.mem_map]
 constructor
 ·rintro⟨w,hw,rfl⟩
  rw [List.mem_filter,List.mem_range,decide_eq_true_eq]at hw
  exact⟨w,rfl,(h.near hw.1).1 hw.2⟩
 ·rintro⟨m,rfl,hm⟩
  have hmn:m<n:=by obtain⟨j,_,hj⟩:=hm;exact FinB.lt hA hv hj
  refine⟨m, ?_,rfl⟩
  rw [List.mem_filter,List.mem_range,decide_eq_true_eq]
  exact⟨hmn,(h.near hmn).2 hm⟩
end Go.Proofs.Ytipfckompmhljaa
