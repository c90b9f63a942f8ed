/- Walks in order of their length, as plain functions. Conditions: those in each lemma. -/
import Derived.Test.YtipfckompmhljaaGreatL6
import Derived.Test.YtipfckompmhljaaGreatFst
namespace Go.Proofs.YtipfckompmhljaaGreat
open Go Dv
set_option linter.unusedSimpArgs false
set_option linter.unusedVariables false
set_option maxRecDepth 100000
def E7(o:List Int)(x:Nat):Int:=o.getD x default
theorem Yq(o:List Int)(x y:Nat)(a:Int)(h:x<o.length):E7 (o.set x a) y=if y=x then a else E7 o y:=by
 unfold E7
 rw [List.getD_eq_getElem?_getD,List.getD_eq_getElem?_getD,List.getElem?_set]
 by_cases e:y=x
 ·subst e;rw [if_pos rfl,if_pos rfl,if_pos h];rfl
 ·rw [if_neg (fun c=>e c.symm),if_neg e]
inductive Rch(adj:Nat→List Int)(v:Nat):Nat→Nat→Prop where
 | z:Rch adj v 0 v
 | s {k x:Nat} {y:Int}:Rch adj v k x→y∈adj x→Rch adj v (k+1) y.toNat
def Lf(o:List Int):Nat:=o.countP fun x=>decide (x<0)
theorem R2(o:List Int)(x:Nat)(a:Int)(h:x<o.length)(h1:E7 o x<0)(ha:0≤a):Lf (o.set x a)+1=Lf o:=by
 unfold Lf E7 at*
 rw [Ar _ _ h]at h1
 have:=List.countP_set (p:=fun x=>decide (x<0)) (l:=o) (i:=x) (a:=a) h
 rw [this,if_pos (by simpa using h1),if_neg (by simpa using ha)]
 have:0<o.countP fun x=>decide (x<0):=List.countP_pos_iff.2 ⟨o[x],List.getElem_mem h,by simpa using h1⟩
 omega
def BO(w:Nat):List Int→List Int×List Int→List Int×List Int
 | [],s=>s
 | x::xs,s=>BO w xs (if E7 s.1 x.toNat<0 then(s.1.set x.toNat (E7 s.1 w+1),s.2++[x])else s)
theorem JE(w:Nat): ∀(xs ys:List Int) (s:List Int×List Int),BO w (xs++ys) s=BO w ys (BO w xs s)
 | [],_,_=>rfl
 | x::xs,ys,s=>by simp only [List.cons_append,BO];exact JE w xs ys _
def xv(adj:Nat→List Int):Nat→List Int→List Int→List Int
 | 0,o,_=>o
 | _+1,o,[]=>o
 | k+1,o,w::q=>xv adj k (BO w.toNat (adj w.toNat) (o,q)).1 (BO w.toNat (adj w.toNat) (o,q)).2
structure MidB(adj:Nat→List Int)(n v w:Nat)(d:Int)(don:List Int)(o q:List Int):Prop where
 len:o.length=n
 wn:w<n
 ow:E7 o w=d
 d0:0≤d
 qn: ∀x∈q,0≤x∧x.toNat<n∧d≤E7 o x.toNat
 hi: ∀x,x<n→E7 o x≤d+1
 lo: ∀x,x<n→ -1≤E7 o x
 src:E7 o v=0
 rch: ∀x,x<n→0≤E7 o x→Rch adj v (E7 o x).toNat x
 srt:q.Pairwise fun a b=>E7 o a.toNat≤E7 o b.toNat
 cl: ∀x,x<n→0≤E7 o x→(x:Int) ∉ q→x≠w→ ∀y∈adj x,0≤E7 o y.toNat∧E7 o y.toNat≤E7 o x+1
 dn: ∀y∈don,0≤E7 o y.toNat∧E7 o y.toNat≤d+1
 bd:d+1+((q.length+Lf o:Nat):Int)≤n
theorem MidB.step{adj:Nat→List Int}{n v w:Nat}{d:Int}{don o q:List Int}(h:MidB adj n v w d don o q){x:Int}(hx:x∈adj w)(hxn:0≤x∧x.toNat<n):
  MidB adj n v w d (don++[x]) (BO w [x] (o,q)).1 (BO w [x] (o,q)).2:=by
 obtain⟨len,wn,ow,d0,qn,hi,lo,src,rch,srt,cl,dn,bd⟩:=h
 simp only [BO]
 by_cases hn:E7 o x.toNat<0
 ·rw [if_pos hn]
  have hl:x.toNat<o.length:=by omega
  have hs: ∀y,E7 (o.set x.toNat (E7 o w+1)) y=if y=x.toNat then d+1 else E7 o y:=fun y=>by rw [Yq _ _ _ _ hl,ow]
  have hv:v≠x.toNat:=fun e=>by rw [←e,src]at hn;omega
  have hw:w≠x.toNat:=fun e=>by rw [←e,ow]at hn;omega
  have keep: ∀y:Nat,0≤E7 o y→E7 (o.set x.toNat (E7 o w+1)) y=E7 o y:=fun y hy=>by rw [hs,if_neg (fun e=>by rw [e]at hy;omega)]
  have hng:=R2 o x.toNat (E7 o w+1) hl hn (by omega)
  refine⟨by simpa using len,wn,by rw [keep _ (by omega)];exact ow,d0, ?_, ?_, ?_,by rw [keep _ (by omega)];exact src, ?_, ?_, ?_, ?_, ?_⟩
  ·intro y hy
   rcases List.mem_append.1 hy with h | h
   ·have:=qn y h
    rw [keep _ (by omega)];exact this
   ·rw [List.mem_singleton]at h;subst h
    rw [hs,if_pos rfl];omega
  ·intro y hy
   rw [hs];split
   ·omega
   ·exact hi y hy
  ·intro y hy
   rw [hs];split
   ·omega
   ·exact lo y hy
  ·intro y hy h0
   rw [hs]at h0 ⊢
   by_cases e:y=x.toNat
   ·subst e
    rw [if_pos rfl]
    have:=rch w wn (by omega)
    rw [ow]at this
    have:=Rch.s this hx
    rwa [show(d+1).toNat=d.toNat+1 by omega]
   ·rw [if_neg e]at h0 ⊢;exact rch y hy h0
  ·rw [List.pairwise_append]
   refine⟨srt.imp_of_mem fun {a b} ha hb hab=> ?_,List.pairwise_singleton ..,fun a ha b hb=> ?_⟩
   ·have h1:=qn a ha
    have h2:=qn b hb
    rw [keep _ (by omega),keep _ (by omega)];exact hab
   ·rw [List.mem_singleton]at hb;subst hb
    have h1:=qn a ha
    rw [keep _ (by omega),hs,if_pos rfl]
    exact hi _ (by omega)
  ·intro y hy h0 hq hyw z hz
   rw [List.mem_append,List.mem_singleton,not_or]at hq
   have hyx:y≠x.toNat:=fun e=>hq.2 (by omega)
   rw [hs,if_neg hyx]at h0
   have:=cl y hy h0 hq.1 hyw z hz
   rw [keep _ this.1,keep _ h0];exact this
  ·intro y hy
   rcases List.mem_append.1 hy with h | h
   ·have:=dn y h
    rw [keep _ this.1];exact this
   ·rw [List.mem_singleton]at h;subst h
    rw [hs,if_pos rfl];omega
  ·show d+1+(((q++[x]).length+Lf (o.set x.toNat (E7 o w+1)):Nat):Int)≤n
   rw [List.length_append,List.length_singleton];omega
 ·rw [if_neg hn]
  refine⟨len,wn,ow,d0,qn,hi,lo,src,rch,srt,cl, ?_,bd⟩
  intro y hy
  rcases List.mem_append.1 hy with h | h
  ·exact dn y h
  ·rw [List.mem_singleton]at h;subst h
   have:=hi y.toNat hxn.2
   show 0≤E7 o y.toNat∧E7 o y.toNat≤d+1
   omega
theorem MidB.steps{adj:Nat→List Int}{n v w:Nat}{d:Int}: ∀(xs:List Int) {don o q:List Int},MidB adj n v w d don o q→(∀x∈xs,x∈adj w∧0≤x∧x.toNat<n)→
  MidB adj n v w d (don++xs) (BO w xs (o,q)).1 (BO w xs (o,q)).2
 | [],don,o,q,h,_=>by simpa [BO] using h
 | x::xs,don,o,q,h,hx=>by
  obtain⟨h1,h2⟩:=hx x List.mem_cons_self
  have h3:=MidB.steps xs (h.step h1 h2) (fun y hy=>hx y (List.mem_cons_of_mem _ hy))
  rw [List.append_assoc]at h3
  have:BO w (x::xs) (o,q)=BO w xs (BO w [x] (o,q)):=JE w [x] xs (o,q)
  rw [this];exact h3
structure InvB(adj:Nat→List Int)(n v:Nat)(o q:List Int):Prop where
 len:o.length=n
 qn: ∀x∈q,0≤x∧x.toNat<n∧0≤E7 o x.toNat
 hi: ∀h∈q.head?,∀x,x<n→E7 o x≤E7 o h.toNat+1
 lo: ∀x,x<n→ -1≤E7 o x
 src:E7 o v=0
 rch: ∀x,x<n→0≤E7 o x→Rch adj v (E7 o x).toNat x
 srt:q.Pairwise fun a b=>E7 o a.toNat≤E7 o b.toNat
 cl: ∀x,x<n→0≤E7 o x→(x:Int) ∉ q→ ∀y∈adj x,0≤E7 o y.toNat∧E7 o y.toNat≤E7 o x+1
 bd: ∀h∈q.head?,E7 o h.toNat+((q.length+Lf o:Nat):Int)≤n
theorem InvB.pop{adj:Nat→List Int}{n v:Nat}{o q:List Int}{w:Int}(h:InvB adj n v o (w::q)):MidB adj n v w.toNat (E7 o w.toNat) [] o q:=by
 obtain⟨len,qn,hi,lo,src,rch,srt,cl,bd⟩:=h
 have h1:=qn w List.mem_cons_self
 have h2:=bd w rfl
 rw [List.pairwise_cons]at srt
 refine⟨len,h1.2.1,rfl,h1.2.2,fun x hx=> ?_,hi w rfl,lo,src,rch,srt.2,fun x hx h0 hq hw=>cl x hx h0 ?_,(fun y hy=>by cases hy), ?_⟩
 ·have:=qn x (List.mem_cons_of_mem _ hx)
  exact⟨this.1,this.2.1,srt.1 x hx⟩
 ·rw [List.mem_cons,not_or]
  exact⟨fun e=>hw (by omega),hq⟩
 ·simp only [List.length_cons]at h2;omega
theorem MidB.fin{adj:Nat→List Int}{n v w:Nat}{d:Int}{o q:List Int}(h:MidB adj n v w d (adj w) o q):InvB adj n v o q:=by
 obtain⟨len,wn,ow,d0,qn,hi,lo,src,rch,srt,cl,dn,bd⟩:=h
 refine⟨len,fun x hx=> ?_,fun x hx y hy=> ?_,lo,src,rch,srt,fun x hx h0 hq=> ?_,fun x hx=> ?_⟩
 ·have:=qn x hx;omega
 ·have h1:=(qn x (List.mem_of_mem_head? hx)).2.2
  have:=hi y hy
  omega
 ·by_cases e:x=w
  ·subst e;intro y hy;rw [ow];exact dn y hy
  ·exact cl x hx h0 hq e
 ·have h1:=qn x (List.mem_of_mem_head? hx)
  have:=hi x.toNat h1.2.1
  omega
theorem InvB.next{adj:Nat→List Int}{n v:Nat}{o q:List Int}{w:Int}(hA: ∀x,x<n→ ∀y∈adj x,0≤y∧y.toNat<n)(h:InvB adj n v o (w::q)):
  InvB adj n v (BO w.toNat (adj w.toNat) (o,q)).1 (BO w.toNat (adj w.toNat) (o,q)).2:=by
 have h1:=h.pop
 have h2:=MidB.steps (adj w.toNat) h1 (fun x hx=>⟨hx,hA _ h1.wn x hx⟩)
 rw [List.nil_append]at h2
 exact h2.fin
theorem LD(w:Nat)(n:Nat): ∀(xs o q:List Int),o.length=n→0≤E7 o w→(∀x∈xs,x.toNat<n)→
  (BO w xs (o,q)).2.length+Lf (BO w xs (o,q)).1=q.length+Lf o
 | [],_,_,_,_,_=>rfl
 | x::xs,o,q,hl,hw,hx=>by
  simp only [BO]
  have hx':=fun y hy=>hx y (List.mem_cons_of_mem _ hy)
  have h0:=hx x List.mem_cons_self
  by_cases h:E7 o x.toNat<0
  ·rw [if_pos h]
   have e:w≠x.toNat:=fun e=>by rw [e]at hw;omega
   have hlx:x.toNat<o.length:=by rw [hl];exact h0
   rw [LD w n xs _ _ (by simpa using hl) (by rw [Yq _ _ _ _ hlx,if_neg e];exact hw) hx']
   have:=R2 o x.toNat (E7 o w+1) hlx h (by omega)
   rw [List.length_append,List.length_singleton];omega
  ·rw [if_neg h];exact LD w n xs o q hl hw hx'
structure FinB(adj:Nat→List Int)(n v:Nat)(o:List Int):Prop where
 len:o.length=n
 lo: ∀x,x<n→ -1≤E7 o x
 hi: ∀x,x<n→E7 o x≤n
 rch: ∀x,x<n→0≤E7 o x→Rch adj v (E7 o x).toNat x
 all: ∀k x,Rch adj v k x→0≤E7 o x∧E7 o x≤k
theorem R3{σ ρ:Type}(adj:Nat→List Int)(n v:Nat)(hv:v<n)(hA: ∀x,x<n→ ∀y∈adj x,0≤y∧y.toNat<n)(f:σ→Option (σ⊕ρ))(mk:List Int→List Int→List Int→σ)(fin:List Int→ρ)
  (h1: ∀don o w q,InvB adj n v o (w::q)→don.length+(w::q).length+Lf o≤n→f (mk don o (w::q))=some (.inl (mk (don++[w]) (BO w.toNat (adj w.toNat) (o,q)).1 (BO w.toNat (adj w.toNat) (o,q)).2)))
  (h2: ∀don o,o.length=n→don.length≤n→f (mk don o [])=some (.inr (fin o))):
  ∀m don o q,InvB adj n v o q→q.length+Lf o≤m→(∀x,x<n→E7 o x≤n)→don.length+q.length+Lf o≤n→DT f (mk don o q)=some (fin (xv adj m o q))∧FinB adj n v (xv adj m o q):=by
 have fin0: ∀o,InvB adj n v o []→(∀x,x<n→E7 o x≤n)→FinB adj n v o:=by
  intro o hI hn
  refine⟨hI.len,hI.lo,hn,hI.rch,fun k x hr=> ?_⟩
  have key: ∀k x,Rch adj v k x→x<n∧0≤E7 o x∧E7 o x≤k:=by
   intro k x hr
   induction hr with
   | z=>exact⟨hv,by rw [hI.src];omega,by rw [hI.src];omega⟩
   | s hr hy ih=>
    obtain⟨i1,i2,i3⟩:=ih
    have:=hI.cl _ i1 i2 (by simp) _ hy
    exact⟨(hA _ i1 _ hy).2,this.1,by omega⟩
  exact(key k x hr).2
 intro m
 induction m with
 | zero=>
  intro don o q hI hm hn hd
  have hq:q=[]:=List.eq_nil_of_length_eq_zero (by omega)
  subst hq
  exact⟨C5 (h2 don o hI.len (by omega)),fin0 o hI hn⟩
 | succ m ih=>
  intro don o q hI hm hn hd
  cases q with
  | nil=>exact⟨C5 (h2 don o hI.len (by omega)),fin0 o hI hn⟩
  | cons w q=>
   have hp:=hI.pop
   have hme:=LD w.toNat n (adj w.toNat) o q hI.len hp.d0 (fun x hx=>(hA _ hp.wn x hx).2)
   have hx:=hI.next hA
   simp only [List.length_cons]at hm hd
   have hq:(BO w.toNat (adj w.toNat) (o,q)).2.length+Lf (BO w.toNat (adj w.toNat) (o,q)).1=q.length+Lf o:=hme
   have h3:=MidB.steps (adj w.toNat) hp (fun x hx=>⟨hx,hA _ hp.wn x hx⟩)
   have:=ih (don++[w]) _ _ hx (by omega) (fun x hx'=>by have a:=h3.hi x hx';have b:=h3.bd;omega) (by rw [List.length_append,List.length_singleton];omega)
   rw [GU (h1 don o w q hI (by simp only [List.length_cons];omega))]
   exact this
def H8(n v:Nat):List Int:=(List.replicate n (-1)).set v 0
theorem IC(n v x:Nat)(hv:v<n)(hx:x<n):E7 (H8 n v) x=if x=v then 0 else-1:=by
 unfold H8
 rw [Yq _ _ _ _ (by simpa using hv)]
 split
 ·rfl
 ·unfold E7;rw [Ar _ _ (by simpa using hx)];simp
theorem MB(adj:Nat→List Int)(n v:Nat)(hv:v<n):InvB adj n v (H8 n v) [(v:Int)]∧1+Lf (H8 n v)=n∧(∀x,x<n→E7 (H8 n v) x≤n):=by
 have hl:(H8 n v).length=n:=by simp [H8]
 have hneg:Lf (H8 n v)+1=n:=by
  unfold H8
  have:E7 (List.replicate n (-1)) v<0:=by unfold E7;rw [Ar _ _ (by simpa using hv)];simp
  rw [R2 _ v 0 (by simpa using hv) this (by omega)]
  unfold Lf
  rw [List.countP_replicate];simp
 have h0:E7 (H8 n v) v=0:=by rw [IC n v v hv hv,if_pos rfl]
 refine⟨⟨hl, ?_, ?_, ?_,h0, ?_,List.pairwise_singleton .., ?_, ?_⟩,by omega, ?_⟩
 ·intro x hx
  rw [List.mem_singleton]at hx;subst hx
  rw [Int.toNat_natCast,h0];omega
 ·intro h hh x hx
  simp only [List.head?_cons,Option.mem_def,Option.some.injEq]at hh
  subst hh
  rw [Int.toNat_natCast,h0,IC n v x hv hx];split<;>omega
 ·intro x hx
  rw [IC n v x hv hx];split<;>omega
 ·intro x hx hr
  rw [IC n v x hv hx]at hr ⊢
  by_cases e:x=v
  ·subst e;rw [if_pos rfl];exact Rch.z
  ·rw [if_neg e]at hr;omega
 ·intro x hx hr hq
  rw [IC n v x hv hx]at hr
  by_cases e:x=v
  ·subst e;simp at hq
  ·rw [if_neg e]at hr;omega
 ·intro h hh
  simp only [List.head?_cons,Option.mem_def,Option.some.injEq]at hh
  subst hh
  rw [Int.toNat_natCast,h0,List.length_singleton];omega
 ·intro x hx
  rw [IC n v x hv hx];split<;>omega
theorem Rch.trans{adj:Nat→List Int}{u x:Nat}{k:Nat}(h1:Rch adj u k x): ∀ {l y:Nat},Rch adj x l y→Rch adj u (k+l) y:=by
 intro l y h2
 induction h2 with
 | z=>exact h1
 | s _ hy ih=>exact ih.s hy
theorem Rch.rev{adj:Nat→List Int}(hs: ∀x y,y∈adj x→(x:Int)∈adj y.toNat){u x k:Nat}(h:Rch adj u k x):Rch adj x k u:=by
 induction h with
 | z=>exact Rch.z
 | s h1 hy ih=>
  have:=(Rch.s (adj:=adj) Rch.z (hs _ _ hy)).trans ih
  rwa [Nat.zero_add,Nat.add_comm]at this
theorem FinB.conn{adj:Nat→List Int}{n v:Nat}{o:List Int}(h:FinB adj n v o){x:Nat}(hx:x<n):0≤E7 o x↔ ∃k,Rch adj v k x:=
 ⟨fun h0=>⟨_,h.rch x hx h0⟩,fun⟨k,hk⟩=>(h.all k x hk).1⟩
theorem FinB.near{adj:Nat→List Int}{n v:Nat}{o:List Int}(h:FinB adj n v o){x:Nat}(hx:x<n){t:Nat}:(0≤E7 o x∧E7 o x≤t)↔ ∃k,k≤t∧Rch adj v k x:=
 ⟨fun⟨h0,h1⟩=>⟨_,by omega,h.rch x hx h0⟩,fun⟨k,hk,hr⟩=>by have:=h.all k x hr;omega⟩
end Go.Proofs.YtipfckompmhljaaGreat
