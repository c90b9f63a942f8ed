/- Parts of networks, as plain functions. Conditions: those in each lemma. -/
import Derived.Test.YtiehjihckndgkaaGreatL6
import Derived.Test.YtiehjihckndgkaaGreatFst
namespace Go.Proofs.YtiehjihckndgkaaGreat
open Go Dv
set_option linter.unusedSimpArgs false
set_option linter.unusedVariables false
set_option maxRecDepth 100000
theorem PD(n:Nat)(P:Nat→Bool):CJ (n+1) P=(match CJ n P with|some u=>some u|none=>if P n=true then some n else none):=by
 unfold CJ;rw [fD,List.find?_append]
 cases List.find? P (List.range n)with
 |some u=>rfl
 |none=>cases h:P n<;>simp [h]
def OM(con:Nat→Nat→Bool)(n v:Nat):AB:=(List.range n).map fun x=>match CJ v (fun u=>con u x)with|some u=>(u:Int)|none=> -1
theorem sD(con:Nat→Nat→Bool)(n v:Nat):(OM con n v).length=n:=by simp [OM]
theorem nZ(con:Nat→Nat→Bool)(n v x:Nat)(hx:x<n):(OM con n v).getD x default=match CJ v (fun u=>con u x)with|some u=>(u:Int)|none=> -1:=by
 rw [Ao _ _ (by rw [sD];exact hx)]
 simp [OM]
theorem A06(con:Nat→Nat→Bool)(n:Nat):OM con n 0=List.replicate n (-1):=by
 refine VC (by simp [OM]) fun i h1 h2=> ?_
 simp [OM,CJ]
structure EqvB(con:Nat→Nat→Bool)(n:Nat):Prop where
 rfl': ∀x,x<n→con x x=true
 sym: ∀x y,x<n→y<n→con x y=true→con y x=true
 trn: ∀x y z,x<n→y<n→z<n→con x y=true→con y z=true→con x z=true
theorem A07{con:Nat→Nat→Bool}{n v:Nat}(h:EqvB con n)(hv:v<n)(h0:0≤(OM con n v).getD v default):OM con n (v+1)=OM con n v:=by
 rw [nZ con n v v hv]at h0;refine VC (by simp [OM]) fun x h1 h2=> ?_
 simp only [OM,SI,Uc]at h1;simp only [OM,Ni,Ng];rw [PD]
 cases e:CJ v (fun u=>con u x)with
 |some u=>rfl
 |none=>
  cases hc:con v x with
  |false=>rfl
  |true=>
   exfalso
   cases e2:CJ v (fun u=>con u v)with
   |none=>rw [e2]at h0;simp at h0
   |some u=>
    obtain⟨q1,q2⟩:=Rn e2;have:(CJ v (fun u=>con u x)).isSome=true:=IV.2 ⟨u,q1,h.trn u v x (by omega) hv h1 q2 hc⟩
    rw [e]at this;cases this
theorem A2y{con:Nat→Nat→Bool}{n v:Nat}(h:EqvB con n)(hv:v<n)(h0: ¬0≤(OM con n v).getD v default):OM con n (v+1)=(List.range n).map fun x=>if con v x=true then(v:Int)else(OM con n v).getD x default:=by
 rw [nZ con n v v hv]at h0;refine VC (by simp [OM]) fun x h1 h2=> ?_
 simp only [OM,SI,Uc]at h1;simp only [Ni,Ng];rw [nZ con n v x h1];simp only [OM,Ni,Ng];rw [PD]
 cases e:CJ v (fun u=>con u x)with
 |none=>cases hc:con v x<;>rfl
 |some u=>
  cases hc:con v x with
  |false=>rfl
  |true=>
   exfalso;obtain⟨q1,q2⟩:=Rn e;have:(CJ v (fun u=>con u v)).isSome=true:=IV.2 ⟨u,q1,h.trn u x v (by omega) h1 hv q2 (h.sym v x hv h1 hc)⟩
   cases e2:CJ v (fun u=>con u v)with
   |none=>rw [e2]at this;cases this
   |some w=>rw [e2]at h0;simp at h0
def ng(con:Nat→Nat→Bool)(n x:Nat):Nat:=(CJ n (fun u=>con u x)).getD 0
theorem A2z{con:Nat→Nat→Bool}{n:Nat}(h:EqvB con n):OM con n n=(List.range n).map fun x=>(ng con n x:Int):=by
 refine VC (by simp [OM]) fun x h1 h2=> ?_
 simp only [OM,SI,Uc]at h1;simp only [OM,ng,Ni,Ng]
 cases e:CJ n (fun u=>con u x)with
 |some u=>rfl
 |none=>
  have:(CJ n (fun u=>con u x)).isSome=true:=IV.2 ⟨x,h1,h.rfl' x h1⟩
  rw [e]at this;cases this
theorem A30{con:Nat→Nat→Bool}{n x:Nat}(h:EqvB con n)(hx:x<n):CJ n (fun u=>con x u)=some (ng con n x):=by
 have:CJ n (fun u=>con x u)=CJ n (fun u=>con u x):=by
  have key: ∀m,m≤n→CJ m (fun u=>con x u)=CJ m (fun u=>con u x):=by
   intro m
   induction m with
   |zero=>intro _;rfl
   |succ m ih=>
    intro hm
    have e:con x m=con m x:=by
     rw [VE]
     exact⟨h.sym x m hx (by omega),h.sym m x (by omega) hx⟩
    rw [PD,PD,ih (by omega),e]
  exact key n (Dh _)
 rw [this,ng]
 cases e:CJ n (fun u=>con u x)with
 |some u=>rfl
 |none=>
  have:(CJ n (fun u=>con u x)).isSome=true:=IV.2 ⟨x,hx,h.rfl' x hx⟩
  rw [e]at this;cases this
end Go.Proofs.YtiehjihckndgkaaGreat
