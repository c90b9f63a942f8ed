/- Sets of labels as numbers, as plain functions. Conditions: those in each lemma. -/
import Derived.Test.YtjhjkfoabhplfaaGreatL6
import Derived.Test.YtjhjkfoabhplfaaGreatDt
namespace Go.Proofs.YtjhjkfoabhplfaaGreat
open Go Dv
set_option linter.unusedSimpArgs false
set_option linter.unusedVariables false
set_option maxRecDepth 100000
def O9(set:Int)(a:Nat):Bool:=decide (set / 2 ^ a % 2=1)
theorem Na{a b:Nat}(h:a≤b):(2:Int) ^ a≤2 ^ b:=by
 have:=Nat.pow_le_pow_right (n:=2) (by decide) h
 exact_mod_cast this
theorem Xx(set:Int)(a:Nat)(ha:a≤64):set.fdiv (2 ^ (min a IntKind.i64.bits))=set / 2 ^ a:=by
 have:min a IntKind.i64.bits=a:=by show min a 64=a;omega
 rw [this,Int.fdiv_eq_ediv_of_nonneg _ (Int.pow_nonneg (by decide))]
theorem TS(set:Int)(a:Nat)(h:0≤set):0≤set / 2 ^ a:=Int.ediv_nonneg h (Int.pow_nonneg (by decide))
def AZ(set:Int)(n:Nat):List Int:=((List.range n).filter (O9 set)).map fun(a:Nat)=>(a:Int)
theorem Mf(set:Int)(n:Nat):AZ set (n+1)=if O9 set n then AZ set n++[(n:Int)]else AZ set n:=by
 simp only [AZ,List.range_succ,List.filter_append,List.map_append,List.filter_cons,List.filter_nil]
 split<;>simp
theorem Jz(set:Int)(n:Nat):(AZ set n).length≤n:=by
 simp only [AZ,List.length_map];exact Nat.le_trans (List.length_filter_le _ _) (by simp)
theorem xc: ∀x:Fin 256,LX .and .i64 (x.val:Int) 1=(x.val:Int) % 2:=by decide+kernel
theorem uE(x:Int)(h:0≤x∧x≤255):LX .and .i64 x 1=x % 2:=by
 have:=xc ⟨x.toNat,by omega⟩
 simp only at this;rwa [show((x.toNat:Nat):Int)=x by omega]at this
theorem xe(set:Int)(a:Nat)(h:0≤set):set / 2 ^ a≤set:=by
 have:(1:Int)≤2 ^ a:=by
  have:=Nat.one_le_two_pow (n:=a)
  exact_mod_cast this
 exact Int.ediv_le_self _ h
theorem TT(set:Int)(a b:Nat)(h:0≤set)(hab:a≤b)(hz:set / 2 ^ a=0):set / 2 ^ b=0:=by
 have h1:=Int.mul_ediv_add_emod set (2 ^ a);rw [hz,Int.mul_zero,Int.zero_add]at h1;have h2:=Int.emod_lt_of_pos set (b:=2 ^ a) (Int.pow_pos (by decide))
 exact Int.ediv_eq_zero_of_lt h (Int.lt_of_lt_of_le (h1▸h2) (Na hab))
theorem nP(set:Int)(i n:Nat)(h:0≤set)(hi:i≤n)(hz:set / 2 ^ i=0):AZ set i=AZ set n:=by
 have key: ∀k,AZ set (i+k)=AZ set i:=by
  intro k
  induction k with
  | zero=>rfl
  | succ k ih=>
   have hf:O9 set (i+k)=false:=by
    simp only [O9,TT set i (i+k) h (by omega) hz];decide
   rw [show i+(k+1)=i+k+1 by omega,Mf,hf];simp only [Bool.false_eq_true,if_false];exact ih
 have:=key (n-i)
 rw [show i+(n-i)=n by omega]at this
 exact this.symm
theorem A3i(set:Int)(i:Nat)(h:0≤set∧set≤255)(hz: ¬set / 2 ^ i=0):i<8:=by
 apply Classical.byContradiction
 intro hc;apply hz
 have e:set / 2 ^ 8=0:=Int.ediv_eq_zero_of_lt h.1 (by omega)
 exact TT set 8 i h.1 (by omega) e
def H9(p:Nat→Bool):Nat→Int
 | 0=>0
 | n+1=>H9 p n+if p n=true then 2 ^ n else 0
theorem PX(p:Nat→Bool): ∀n,0≤H9 p n∧H9 p n<2 ^ n
 | 0=>by simp [H9]
 | n+1=>by
  have ih:=PX p n;have e:(2:Int) ^ (n+1)=2*2 ^ n:=by rw [Int.pow_succ];omega
  unfold H9
  split<;>omega
theorem A3j: ∀b:Fin 8,∀x:Fin 256,x.val<2 ^ b.val→LX .or .i64 (x.val:Int) (2 ^ b.val)=(x.val:Int)+2 ^ b.val:=by decide+kernel
theorem xf(x:Int)(b:Nat)(hb:b<8)(h:0≤x∧x<2 ^ b):LX .or .i64 x (2 ^ b)=x+2 ^ b:=by
 have h2:(2:Int) ^ b≤2 ^ 7:=Na (by omega)
 have e:(2:Int) ^ 7=128:=by decide
 have hx:((x.toNat:Nat):Int)=x:=by omega
 have h3:x.toNat<2 ^ b:=by
  have h4:((2 ^ b:Nat):Int)=2 ^ b:=by exact_mod_cast rfl
  omega
 have:=A3j ⟨b,hb⟩ ⟨x.toNat,by omega⟩ h3
 simp only at this;rwa [hx]at this
end Go.Proofs.YtjhjkfoabhplfaaGreat
