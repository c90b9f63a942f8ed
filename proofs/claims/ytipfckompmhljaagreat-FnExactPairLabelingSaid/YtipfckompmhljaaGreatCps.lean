/- Parts of networks, as plain functions. Conditions: those in each lemma. -/
import Derived.Test.YtipfckompmhljaaGreatL6
import Derived.Test.YtipfckompmhljaaGreatFst
namespace Go.Proofs.YtipfckompmhljaaGreat
open Go Dv
set_option linter.unusedSimpArgs false
set_option linter.unusedVariables false
set_option maxRecDepth 100000
theorem I7(n:Nat)(P:Nat→Bool):AR (n+1) P=(match AR n P with | some u=>some u | none=>if P n=true then some n else none):=by
 unfold AR
 rw [List.range_succ,List.find?_append]
 cases List.find? P (List.range n)with
 | some u=>rfl
 | none=>cases h:P n<;>simp [h]
def Ht(con:Nat→Nat→Bool)(n v:Nat):List Int:=(List.range n).map fun x=>match AR v (fun u=>con u x)with | some u=>(u:Int) | none=> -1
theorem X3(con:Nat→Nat→Bool)(n v:Nat):(Ht con n v).length=n:=by simp [Ht]
theorem V2(con:Nat→Nat→Bool)(n v x:Nat)(hx:x<n):(Ht con n v).getD x default=match AR v (fun u=>con u x)with | some u=>(u:Int) | none=> -1:=by
 rw [Ar _ _ (by rw [X3];exact hx)]
 simp [Ht]
theorem am(con:Nat→Nat→Bool)(n:Nat):Ht con n 0=List.replicate n (-1):=by
 refine List.ext_getElem (by simp [Ht]) fun i h1 h2=> ?_
 simp [Ht,AR]
structure EqvB(con:Nat→Nat→Bool)(n:Nat):Prop where
 rfl': ∀x,x<n→con x x=true
 sym: ∀x y,x<n→y<n→con x y=true→con y x=true
 trn: ∀x y z,x<n→y<n→z<n→con x y=true→con y z=true→con x z=true
theorem an{con:Nat→Nat→Bool}{n v:Nat}(h:EqvB con n)(hv:v<n)(h0:0≤(Ht con n v).getD v default):Ht con n (v+1)=Ht con n v:=by
 rw [V2 con n v v hv]at h0
 refine List.ext_getElem (by simp [Ht]) fun x h1 h2=> ?_
 simp only [Ht,List.length_map,List.length_range]at h1
 simp only [Ht,List.getElem_map,List.getElem_range]
 rw [I7]
 cases e:AR v (fun u=>con u x)with
 | some u=>rfl
 | none=>
  cases hc:con v x with
  | false=>rfl
  | true=>
   exfalso
   cases e2:AR v (fun u=>con u v)with
   | none=>rw [e2]at h0;simp at h0
   | some u=>
    obtain⟨q1,q2⟩:=Gg e2
    have:(AR v (fun u=>con u x)).isSome=true:=H1.2 ⟨u,q1,h.trn u v x (by omega) hv h1 q2 hc⟩
    rw [e]at this;cases this
theorem eZ{con:Nat→Nat→Bool}{n v:Nat}(h:EqvB con n)(hv:v<n)(h0: ¬0≤(Ht con n v).getD v default):Ht con n (v+1)=(List.range n).map fun x=>if con v x=true then(v:Int)else(Ht con n v).getD x default:=by
 rw [V2 con n v v hv]at h0
 refine List.ext_getElem (by simp [Ht]) fun x h1 h2=> ?_
 simp only [Ht,List.length_map,List.length_range]at h1
 simp only [List.getElem_map,List.getElem_range]
 rw [V2 con n v x h1]
 simp only [Ht,List.getElem_map,List.getElem_range]
 rw [I7]
 cases e:AR v (fun u=>con u x)with
 | none=>cases hc:con v x<;>rfl
 | some u=>
  cases hc:con v x with
  | false=>rfl
  | true=>
   exfalso
   obtain⟨q1,q2⟩:=Gg e
   have:(AR v (fun u=>con u v)).isSome=true:=H1.2 ⟨u,q1,h.trn u x v (by omega) h1 hv q2 (h.sym v x hv h1 hc)⟩
   cases e2:AR v (fun u=>con u v)with
   | none=>rw [e2]at this;cases this
   | some w=>rw [e2]at h0;simp at h0
def P3(con:Nat→Nat→Bool)(n x:Nat):Nat:=(AR n (fun u=>con u x)).getD 0
theorem eb{con:Nat→Nat→Bool}{n:Nat}(h:EqvB con n):Ht con n n=(List.range n).map fun x=>(P3 con n x:Int):=by
 refine List.ext_getElem (by simp [Ht]) fun x h1 h2=> ?_
 simp only [Ht,List.length_map,List.length_range]at h1
 simp only [Ht,P3,List.getElem_map,List.getElem_range]
 cases e:AR n (fun u=>con u x)with
 | some u=>rfl
 | none=>
  have:(AR n (fun u=>con u x)).isSome=true:=H1.2 ⟨x,h1,h.rfl' x h1⟩
  rw [e]at this;cases this
theorem R5{con:Nat→Nat→Bool}{n x:Nat}(h:EqvB con n)(hx:x<n):AR n (fun u=>con x u)=some (P3 con n x):=by
 have:AR n (fun u=>con x u)=AR n (fun u=>con u x):=by
  have key: ∀m,m≤n→AR m (fun u=>con x u)=AR m (fun u=>con u x):=by
   intro m
   induction m with
   | zero=>intro _;rfl
   | succ m ih=>
    intro hm
    have e:con x m=con m x:=by
     rw [Bool.eq_iff_iff]
     exact⟨h.sym x m hx (by omega),h.sym m x (by omega) hx⟩
    rw [I7,I7,ih (by omega),e]
  exact key n (Nat.le_refl _)
 rw [this,P3]
 cases e:AR n (fun u=>con u x)with
 | some u=>rfl
 | none=>
  have:(AR n (fun u=>con u x)).isSome=true:=H1.2 ⟨x,hx,h.rfl' x hx⟩
  rw [e]at this;cases this
theorem ZK{con:Nat→Nat→Bool}{n x:Nat}(h:EqvB con n)(hx:x<n):P3 con n x<n:=by
 have:=Gg (R5 h hx)
 exact this.1
end Go.Proofs.YtipfckompmhljaaGreat
