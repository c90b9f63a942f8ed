/- Tables of configurations, as plain functions. Conditions: those in each lemma. -/
import Derived.Test.YtclkfhhdikfcpaaL6
import Derived.Test.YtclkfhhdikfcpaaLmA
import Derived.Test.YtclkfhhdikfcpaaBin
namespace Go.Proofs.Ytclkfhhdikfcpaa
open Go Dv
set_option linter.unusedSimpArgs false
set_option linter.unusedVariables false
set_option maxRecDepth 100000
def UX(b:Nat):Nat→Nat→List Int
 |0,_=>[]
 |s+1,n=>((n % b:Nat):Int)::UX b s (n / b)
theorem YS(b:Nat): ∀s n,(UX b s n).length=s
 |0,_=>rfl
 |s+1,n=>by simp [UX,YS b s]
def L8(b:Nat)(d:List Int):Nat:=d.foldl (fun n x=>n*b+x.toNat) 0
theorem V3(b:Nat)(d:List Int)(x:Int):L8 b (d++[x])=L8 b d*b+x.toNat:=by simp [L8]
theorem PU(b:Nat): ∀(s:Nat) (d:List Int),d.length=s→(∀x∈d,0≤x∧x<b)→L8 b d<b ^ s∧UX b s (L8 b d)=d.reverse
 |0,d,hd,_=>by rw [ae hd];exact⟨by simp [L8],rfl⟩
 |s+1,d,hd,hx=>by
  have hne:d≠[]:=by intro e;rw [e]at hd;cases hd
  have e:=List.dropLast_concat_getLast hne;have hl:=hx _ (List.getLast_mem hne);have hl2:(d.getLast hne).toNat<b:=by omega
  obtain⟨h1,h2⟩:=PU b s d.dropLast (by simp [hd]) (fun x h=>hx x (List.dropLast_subset d h))
  have en:L8 b d=L8 b d.dropLast*b+(d.getLast hne).toNat:=by
   rw [←V3,e]
  have hpow:b ^ (s+1)=b ^ s*b:=by rw [Nat.pow_succ]
  refine⟨?_, ?_⟩
  ·rw [en,hpow];have:=Wy b (Nat.succ_le_of_lt h1)
   rw [Nat.succ_mul]at this;omega
  ·have em:(L8 b d.dropLast*b+(d.getLast hne).toNat) % b=(d.getLast hne).toNat:=by
    rw [Nat.mul_comm,Nat.mul_add_mod,Nat.mod_eq_of_lt hl2]
   have ed:(L8 b d.dropLast*b+(d.getLast hne).toNat) / b=L8 b d.dropLast:=by
    rw [Nat.mul_comm,Nat.mul_add_div (by omega),Nat.div_eq_of_lt hl2,Nat.add_zero]
   have er:d.reverse=d.getLast hne::d.dropLast.reverse:=(congrArg List.reverse e).symm.trans (by rw [List.reverse_append];rfl)
   rw [en,er];simp only [UX,em,ed,h2]
   congr 1
   omega
theorem YT{x y:List Int}(h:x.Perm y):Dp x=Dp y:=
 List.Perm.eq_of_pairwise (le:=fun a b:Int=>a≤b) (fun a b _ _ h1 h2=>Int.le_antisymm h1 h2) (OM x) (OM y) ((KI x).trans (h.trans (KI y).symm))
def Bd(l:List (List Int))(b s:Nat):List Bool:=(List.range (b ^ s)).map fun n=>l.contains (Dp (UX b s n))
theorem Ta(l:List (List Int))(b s:Nat):(Bd l b s).length=b ^ s:=by simp [Bd]
theorem dR(l:List (List Int))(b s:Nat)(d:List Int)(hd:d.length=s)(hx: ∀x∈d,0≤x∧x<b):(Bd l b s).getD (L8 b d) default=l.contains (Dp d):=by
 obtain⟨h1,h2⟩:=PU b s d hd hx;rw [Av _ _ (by rw [Ta];exact h1)]
 simp only [Bd,List.getElem_map,List.getElem_range,h2];rw [YT d.reverse_perm]
theorem QP{b s:Nat}(hb:b≤8)(hs:s≤4):b ^ s≤4096:=by
 have h1:b ^ s≤8 ^ s:=Nat.pow_le_pow_left hb s;have h2:8 ^ s≤8 ^ 4:=Nat.pow_le_pow_right (by decide) hs
 have:8 ^ 4=4096:=by decide
 omega
theorem ja(l:List (List Int))(b s:Nat)(r:Int)(out:List Bool)(t:Int)(hb:1≤b)(hs:s≤4): ∀(m:Nat) (x:List Int) (n:Nat),x.length+m=s→n<1099511627776→FN l (b:Int) (s:Int) r out t (x,(n:Int))=some (x++UX b m n)
 |0,x,n,hx,hn=>by
  unfold FN;refine Dy ?_;simp only [He];rw [if_neg (by omega)];simp [UX]
 |m+1,x,n,hx,hn=>by
  have ed:(n:Int).tdiv (b:Int)=((n / b:Nat):Int):=by rw [Int.tdiv_eq_ediv_of_nonneg (by omega),Int.natCast_ediv]
  have em:(n:Int).tmod (b:Int)=((n % b:Nat):Int):=by rw [Int.tmod_eq_emod_of_nonneg (by omega),Int.natCast_emod]
  have hle:n / b≤n:=Nat.div_le_self n b;have hle1:((n / b:Nat):Int)≤(n:Int):=by exact_mod_cast hle
  have hle0:0≤((n / b:Nat):Int):=Int.natCast_nonneg _
  have h1:FN l (b:Int) (s:Int) r out t (x,(n:Int))=FN l (b:Int) (s:Int) r out t (x++[((n % b:Nat):Int)],((n / b:Nat):Int)):=by
   unfold FN;refine IX ?_;simp only [He];rw [if_pos (by omega),CU (by omega),CU (by omega),em,ed,IK _ (by omega)]
  rw [h1,ja l b s r out t hb hs m _ _ (by simp;omega) (by exact Nat.lt_of_le_of_lt hle hn)]
  simp [UX]
theorem PV(l:List (List Int))(b s:Nat)(hb:1≤b∧b≤8)(hs:s≤4)(hl:l.length<1099511627776):JK l (b:Int) (s:Int)=some (Bd l b s):=by
 have hp:=QP hb.2 hs
 have l0:J5 l (b:Int) (s:Int) (1,0)=some ((b ^ s:Nat):Int):=by
  unfold J5;have key:=Hy (fun v=>G7 l (b:Int) (s:Int) v.1 v.2) (fun k=>(((b ^ k:Nat):Int),(k:Int))) s ((b ^ s:Nat):Int) ?_ ?_
  ·simpa using key
  ·intro k hk;have hk1:=QP (b:=b) (s:=k+1) hb.2 (by omega)
   have e:((b ^ k:Nat):Int)*(b:Int)=((b ^ (k+1):Nat):Int):=by rw [Nat.pow_succ,Int.natCast_mul]
   simp only [G7];rw [if_pos (by omega),e,IK _ (by omega),Ny k (by omega)]
  ·simp only [G7];rw [if_neg (by omega)]
 unfold JK;rw [l0,Ee,CU (by omega),KP]
 have key:=iI (fun v=>G8 l (b:Int) (s:Int) ((b ^ s:Nat):Int) v.1 v.2) (List.range (b ^ s)) (fun n=>l.contains (Dp (UX b s n))) false ?_ ?_
 ·rw [List.length_range]at key;have key2:Jt l (b:Int) (s:Int) ((b ^ s:Nat):Int) (List.replicate (b ^ s) false,0)=_:=key;rw [key2];rfl
 ·intro i hi out ho;rw [List.length_range]at hi ho;have h1:=ja l b s ((b ^ s:Nat):Int) out (i:Int) hb.1 hs s [] i (by simp) (by omega)
  have h2:=YS b s i;simp only [G8,KP,Yb,List.getElem_range];rw [if_pos (by omega),h1,Ee,LA,CU (by omega),CU hl,CU (by rw [(KI _).length_eq];omega),CU (by omega),Ny i (by omega)]
 ·intro out ho;simp only [G8,KP,Yb,List.length_range];rw [if_neg (by omega)]
theorem Tc(m:Int)(a:Nat)(h:0≤m∧m≤255)(ha:a≤64):Nk m (a:Int)=some (Bv m a):=by
 unfold Nk;rw [CU (by omega),KP,dQ m a ha,Int.tmod_eq_emod_of_nonneg (YQ m a h.1)];rfl
end Go.Proofs.Ytclkfhhdikfcpaa
