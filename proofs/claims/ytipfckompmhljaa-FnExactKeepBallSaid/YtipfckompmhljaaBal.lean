/- Networks of the nodes near a node: program and reference agree. Conditions: those in each lemma. -/
import Derived.Test.YtipfckompmhljaaL6
import Derived.Test.YtipfckompmhljaaKbA
import Derived.Test.YtipfckompmhljaaBap
import Derived.Test.YtipfckompmhljaaKbp
import Derived.Test.YtipfckompmhljaaDst
import Derived.Test.YtipfckompmhljaaPrt
namespace Go.Proofs.Ytipfckompmhljaa
open Go Dv
set_option linter.unusedSimpArgs false
set_option linter.unusedVariables false
set_option maxRecDepth 100000
theorem PV{α:Type}(n:Nat)(f:Nat→α)(v:Nat)(a:α):((List.range n).map f).set v a=(List.range n).map fun w=>if w=v then a else f w:=by
 refine List.ext_getElem (by simp) fun i h1 h2=> ?_
 rw [List.getElem_set]
 simp only [List.getElem_map,List.getElem_range]
 by_cases e:v=i
 ·rw [if_pos e,if_pos e.symm]
 ·rw [if_neg e,if_neg (fun c=>e c.symm)]
theorem KA{α:Type}[Inhabited α](n:Nat)(f:Nat→α)(v:Nat)(hv:v<n):((List.range n).map f).getD v default=f v:=by
 rw [Av _ _ (by simpa using hv)];simp
theorem CV{α:Type}{n:Nat}{f g:Nat→α}(h: ∀i,i<n→f i=g i):(List.range n).map f=(List.range n).map g:=List.map_congr_left fun i hi=>h i (List.mem_range.1 hi)
theorem GX{α:Type}(n:Nat)(f:Nat→α):((List.range n).map f).length=n:=by simp
theorem oK(l:List Int)(x:Int)(hs:LV l)(hl:l.length<1000000):Ng l x=some (.inl (QB l x))∨Ng l x=some (.inr (QB l x)):=by
 have h0:=oI l x
 have loop:Kb l x 0=some ((Ii l x:Nat):Int):=by
  unfold Kb
  have key:=Bd (fun v=>H7 l x v) (fun i=>(i:Int)) (Ii l x) ((Ii l x:Nat):Int) ?_ ?_
  ·rw [Int.natCast_zero]at key;exact key
  ·intro i hi
   simp only [H7,Int.toNat_natCast]
   have hh:l.getD i default<x:=by rw [Av _ _ (show i<l.length by omega)];exact(QC hs i (by omega)).2 hi
   rw [if_pos (by omega),BL (by omega),if_pos hh,KH i (by omega)]
  ·simp only [H7,Int.toNat_natCast]
   by_cases e:Ii l x<l.length
   ·have hh: ¬l.getD (Ii l x) default<x:=by rw [Av _ _ e];exact fun c=>absurd ((QC hs _ e).1 c) (Nat.lt_irrefl _)
    rw [if_pos (by omega),BL (by omega),if_neg hh]
   ·rw [if_neg (by omega)]
 unfold Ng
 rw [loop,Option.bind_some,ZZ x hs]
 simp only [Int.toNat_natCast,List.drop_zero,List.take_length]
 have t1:(l.take (Ii l x)).length≤l.length:=by rw [List.length_take];omega
 have t2:(l.drop (Ii l x)).length≤l.length:=by rw [List.length_drop];omega
 by_cases e:Ii l x<l.length
 ·rw [if_pos (by omega),BL (by omega)]
  by_cases e2:l.getD (Ii l x) default=x
  ·rw [if_pos e2,if_pos ⟨e,e2⟩];exact .inl rfl
  ·rw [if_neg e2,if_neg (fun c=>e2 c.2),BL (by omega),BL h0,BL (by omega),BL (by omega),BL (by rw [List.length_append,List.length_singleton];omega)]
   exact .inr rfl
 ·rw [if_neg (by omega),if_neg (fun c=>e c.1),BL (by omega),BL h0,BL (by omega),BL (by omega),BL (by rw [List.length_append,List.length_singleton];omega)]
  exact .inr rfl
theorem iU(E:List (List (Int×Int)))(ids ins:List Int)(t:Int)(r2:List Int)(t21:Int)(xs b:List Int)(hb:LV b)(hr: ∀x∈b,0≤x∧x<40)(hx: ∀x∈xs,0≤x∧x<40)(hl:xs.length≤6):
  Ji E ids ins t r2 t21 xs (b,0)=some (Hu b xs):=by
 unfold Ji
 have key:=Bd (fun v=>G7 E ids ins t r2 t21 xs v.1 v.2) (fun i=>(Hu b (xs.take i),(i:Int))) xs.length (Hu b xs) ?_ ?_
 ·simpa [Hu] using key
 ·intro i hi
  have h1:LV (Hu b (xs.take i)):=Qd _ _ hb
  have h2:(Hu b (xs.take i)).length≤40:=MR h1 fun x hx'=>by
   rcases(Tp _ _ _).1 hx' with h | h
   ·exact hr x h
   ·exact hx x (List.mem_of_mem_take h)
  have e:Hu b (xs.take (i+1))=QB (Hu b (xs.take i)) xs[i]:=by
   unfold Hu
   rw [List.take_succ_eq_append_getElem hi,List.foldl_append];rfl
  simp only [G7,Int.toNat_natCast]
  rw [if_pos (BV hi),BL (by omega),Av _ _ hi,KH i (by omega),e]
  rcases oK (Hu b (xs.take i)) xs[i] h1 (by omega)with h3 | h3<;>rw [h3,Option.bind_some]
 ·simp only [G7]
  rw [if_neg (Ag _),List.take_length]
theorem Zf{E:List (List (Int×Int))}{ids ins:List Int}(h:Eg E ids ins=true){v k:Nat}(hv:v<E.length){b:List Int}(hb:BallB (GZ E) v k b): ∀x∈b,0≤x∧x.toNat<E.length:=by
 intro x hx
 obtain⟨m,rfl,j,_,hj⟩:=(hb.mem x).1 hx
 have:=FinB.lt (MS h) hv hj
 omega
theorem iV{E:List (List (Int×Int))}{ids ins:List Int}(h:Eg E ids ins=true)(t:Int)(b:List Int)(hb:LV b)(hr: ∀x∈b,0≤x∧x.toNat<E.length):
  Jj E ids ins t b (b,0)=some (LH (GZ E) b b):=by
 obtain⟨hn,_,h6,_⟩:=D9 h
 have hA:=MS h
 have hbl:b.length≤40:=Nat.le_trans (MR hb fun x hx=>by have:=hr x hx;omega) hn
 unfold Jj
 have key:=Bd (fun v=>G8 E ids ins t b v.1 v.2) (fun i=>(LH (GZ E) (b.take i) b,(i:Int))) b.length (LH (GZ E) b b) ?_ ?_
 ·simpa [LH] using key
 ·intro i hi
  have hx:=hr _ (List.getElem_mem hi)
  have h1:LV (LH (GZ E) (b.take i) b):=Tq _ _ _ hb
  have h2: ∀x∈LH (GZ E) (b.take i) b,0≤x∧x<40:=fun x hx'=>by
   rcases(Vd _ _ _ _).1 hx' with h | ⟨w,hw,h⟩
   ·have:=hr x h;omega
   ·have hw:=hr w (List.mem_of_mem_take hw)
    have:=hA _ hw.2 _ h;omega
  have e:LH (GZ E) (b.take (i+1)) b=Hu (LH (GZ E) (b.take i) b) (GZ E b[i].toNat):=by
   unfold LH
   rw [List.take_succ_eq_append_getElem hi,List.foldl_append];rfl
  have hnr:=iT E ids ins b[i].toNat hx.2 (h6 _ hx.2)
  rw [show((b[i].toNat:Nat):Int)=b[i] by omega]at hnr
  simp only [G8,Int.toNat_natCast]
  rw [if_pos (BV hi),BL (by omega),Av _ _ hi,hnr,Option.bind_some,iU E ids ins t b (i:Int) _ _ h1 h2 (fun x hx'=>by have:=hA _ hx.2 _ hx';omega) (by rw [Lp];exact h6 _ hx.2),Option.bind_some,KH i (by omega),e]
 ·simp only [G8]
  rw [if_neg (Ag _),List.take_length]
theorem iW{E:List (List (Int×Int))}{ids ins:List Int}(h:Eg E ids ins=true)(v:Nat)(hv:v<E.length)(t:Nat)(ht:t≤40):NP E ids ins (v:Int) (t:Int)=some (PU (Qe E v) t):=by
 obtain⟨hn,_,h6,_⟩:=D9 h
 have hA:=MS h
 have hA0: ∀x,∀y∈GZ E x,0≤y:=by
  intro x y hy
  by_cases hx:x<E.length
  ·exact(hA x hx y hy).1
  ·unfold GZ at hy
   rw [List.getD_eq_getElem?_getD,List.getElem?_eq_none (by omega)]at hy
   exact absurd hy (by simp [default])
 unfold NP LD
 have key:=eB (fun x=>I9 E ids ins x.1 x.2) (fun m x=> ∃k,m+k=t∧x.1=(m:Int)∧BallB (GZ E) v k x.2) (fun r=>r=PU (Qe E v) t) ?_ t ((t:Int),[(v:Int)]) ⟨0,rfl,rfl,iK _ _⟩
 ·obtain⟨r,hr,rfl⟩:=key
  rw [hr];rfl
 ·rintro m ⟨t1,b⟩ ⟨k,hk,e,hb⟩
  dsimp only at e hb
  subst e
  simp only [I9]
  cases m with
  | zero=>
   rw [if_neg (by omega)]
   have:k=t:=by omega
   subst this
   exact .inr ⟨_,rfl,iL hb (Tt hA hv (Ve h v hv) k)⟩
  | succ m=>
   have hr:=Zf h hv hb
   have hbl:b.length≤40:=Nat.le_trans (MR hb.inc fun x hx=>by have:=hr x hx;omega) hn
   rw [if_pos (by omega)]
   unfold MG
   rw [BL (by omega),Option.bind_some,iV h _ b hb.inc hr,Option.bind_some]
   refine .inl ⟨_,m,rfl,by omega,k+1,by omega, ?_,iM hA0 hb⟩
   show IntKind.i64.wrap (((m+1:Nat):Int)-1)=_
   rw [LP _ (by omega)];omega
theorem iX(o:List Int)(t:Nat)(h:o.length≤40):Jh (t:Int) o ([],0)=some (PU o t):=by
 unfold Jh
 have key:=Bd (fun v=>G5 (t:Int) o v.1 v.2) (fun i=>(((List.range i).filter fun w=>decide (0≤Ef o w∧Ef o w≤(t:Int))).map fun w:Nat=>(w:Int),(i:Int))) o.length (PU o t) ?_ ?_
 ·exact key
 ·intro i hi
  have hl:(((List.range i).filter fun w=>decide (0≤Ef o w∧Ef o w≤(t:Int))).map fun w:Nat=>(w:Int)).length≤i:=by
   rw [List.length_map];exact Nat.le_trans (List.length_filter_le _ _) (by rw [List.length_range];exact Nat.le_refl _)
  have er:Gq (o.getD i default) 0 (t:Int)=decide (0≤Ef o i∧Ef o i≤(t:Int)):=rfl
  simp only [G5,Int.toNat_natCast]
  rw [if_pos (BV hi),BL (by omega),er,List.range_succ,List.filter_append,List.map_append,KH i (by omega)]
  by_cases c:0≤Ef o i∧Ef o i≤(t:Int)
  ·have hf:([i].filter fun w=>decide (0≤Ef o w∧Ef o w≤(t:Int)))=[i]:=by simp [c]
   rw [if_pos (decide_eq_true c),BL (by omega),hf];rfl
  ·have hf:([i].filter fun w=>decide (0≤Ef o w∧Ef o w≤(t:Int)))=[]:=by simpa using c
   rw [if_neg (by simpa using c),hf];simp
 ·simp only [G5]
  rw [if_neg (Ag _)];rfl
end Go.Proofs.Ytipfckompmhljaa
