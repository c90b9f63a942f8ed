/- Sets of labels as numbers, as plain functions. Conditions: those in each lemma. -/
import Derived.Test.YtjhjkfoabhplfaaGreatL6
import Derived.Test.YtjhjkfoabhplfaaGreatDt
namespace Go.Proofs.YtjhjkfoabhplfaaGreat
open Go Dv
set_option linter.unusedSimpArgs false
set_option linter.unusedVariables false
set_option maxRecDepth 100000
def Ea(set:Int)(a:Nat):Bool:=decide (set / 2 ^ a % 2=1)
theorem I1{a b:Nat}(h:a≤b):(2:Int) ^ a≤2 ^ b:=by
 have:=qJ (n:=2) (by decide) h
 exact_mod_cast this
theorem X4(set:Int)(a:Nat)(ha:a≤64):set.fdiv (2 ^ (min a IntKind.i64.bits))=set / 2 ^ a:=by
 have:min a IntKind.i64.bits=a:=by show min a 64=a;omega
 rw [this,Int.fdiv_eq_ediv_of_nonneg _ (gH (by decide))]
theorem TB(set:Int)(a:Nat)(h:0≤set):0≤set / 2 ^ a:=Int.ediv_nonneg h (gH (by decide))
def AR(set:Int)(n:Nat):AA:=((List.range n).filter (Ea set)).map fun(a:Nat)=>(a:Int)
theorem Le(set:Int)(n:Nat):AR set (n+1)=if Ea set n then AR set n++[(n:Int)]else AR set n:=by
 simp only [AR,YU,lM,UR,List.filter_cons,List.filter_nil]
 split<;>simp
theorem Jk(set:Int)(n:Nat):(AR set n).length≤n:=by
 simp only [AR,R4];exact UU (qF _ _) (by simp)
theorem A3C: ∀x:Fin 256,Lv .and .i64 (x.val:Int) 1=(x.val:Int) % 2:=by decide+kernel
theorem ou(x:Int)(h:0≤x∧x≤255):Lv .and .i64 x 1=x % 2:=by
 have:=A3C ⟨x.toNat,by omega⟩
 simp only at this;rwa [show((x.toNat:Nat):Int)=x by omega]at this
theorem uw(set:Int)(a:Nat)(h:0≤set):set / 2 ^ a≤set:=by
 have:(1:Int)≤2 ^ a:=by
  have:=Nat.one_le_two_pow (n:=a)
  exact_mod_cast this
 exact Int.ediv_le_self _ h
theorem Xg(set:Int)(a b:Nat)(h:0≤set)(hab:a≤b)(hz:set / 2 ^ a=0):set / 2 ^ b=0:=by
 have h1:=Int.mul_ediv_add_emod set (2 ^ a);rw [hz,Int.mul_zero,Int.zero_add]at h1;have h2:=Int.emod_lt_of_pos set (b:=2 ^ a) (Int.pow_pos (by decide))
 exact qD h (Int.lt_of_lt_of_le (h1▸h2) (I1 hab))
theorem fG(set:Int)(i n:Nat)(h:0≤set)(hi:i≤n)(hz:set / 2 ^ i=0):AR set i=AR set n:=by
 have key: ∀k,AR set (i+k)=AR set i:=by
  intro k
  induction k with
  |zero=>rfl
  |succ k ih=>
   have hf:Ea set (i+k)=false:=by
    simp only [Ea,Xg set i (i+k) h (by omega) hz];decide
   rw [show i+(k+1)=i+k+1 by omega,Le,hf];simp only [O5,if_false];exact ih
 have:=key (n-i)
 rw [show i+(n-i)=n by omega]at this
 exact this.symm
theorem A82(set:Int)(i:Nat)(h:0≤set∧set≤255)(hz: ¬set / 2 ^ i=0):i<8:=by
 apply Classical.byContradiction
 intro hc;apply hz
 have e:set / 2 ^ 8=0:=qD h.1 (by omega)
 exact Xg set 8 i h.1 (by omega) e
def Az(p:Nat→Bool):Nat→Int
 |0=>0
 |n+1=>Az p n+if p n=true then 2 ^ n else 0
theorem Eh(p:Nat→Bool): ∀n,0≤Az p n∧Az p n<2 ^ n
 |0=>by simp [Az]
 |n+1=>by
  have ih:=Eh p n;have e:(2:Int) ^ (n+1)=2*2 ^ n:=by rw [Int.pow_succ];omega
  unfold Az
  split<;>omega
theorem fH(p:Nat→Bool): ∀n a,a<n→Az p n / 2 ^ a % 2=if p a=true then 1 else 0
 |n+1,a,h=>by
  have hr:=Eh p n;have pa:(0:Int)<2 ^ a:=Int.pow_pos (by decide)
  unfold Az;by_cases e:a=n
  ·subst e;split
   ·rename_i hp
    have:(Az p a+2 ^ a) / 2 ^ a=Az p a / 2 ^ a+1:=by
     have:=Int.add_mul_ediv_right (Az p a) 1 (c:=2 ^ a) (by omega)
     rwa [Int.one_mul]at this
    rw [this,qD hr.1 hr.2];decide
   ·rw [Int.add_zero,qD hr.1 hr.2];decide
  ·have ih:=fH p n a (by omega)
   split
   ·have e2:(2:Int) ^ n=2 ^ (n-a-1)*2*2 ^ a:=by
     rw [←Int.pow_succ,←Int.pow_add];congr 1;omega
    have:(Az p n+2 ^ n) / 2 ^ a=Az p n / 2 ^ a+2 ^ (n-a-1)*2:=by
     rw [e2,Int.add_mul_ediv_right _ _ (by omega)]
    rw [this,Int.add_mul_emod_self_right];exact ih
   ·rw [Int.add_zero];exact ih
theorem Tj(p:Nat→Bool)(n a:Nat):Ea (Az p n) a=(decide (a<n)&&p a):=by
 unfold Ea;by_cases h:a<n
 ·rw [fH p n a h,decide_eq_true h,Bool.true_and]
  cases p a<;>rfl
 ·have hr:=Eh p n;have:Az p n / 2 ^ a=0:=qD hr.1 (Int.lt_of_lt_of_le hr.2 (I1 (by omega)))
  rw [this,decide_eq_false h];rfl
theorem A83: ∀b:Fin 8,∀x:Fin 256,x.val<2 ^ b.val→Lv .or .i64 (x.val:Int) (2 ^ b.val)=(x.val:Int)+2 ^ b.val:=by decide+kernel
theorem uy(x:Int)(b:Nat)(hb:b<8)(h:0≤x∧x<2 ^ b):Lv .or .i64 x (2 ^ b)=x+2 ^ b:=by
 have h2:(2:Int) ^ b≤2 ^ 7:=I1 (by omega)
 have e:(2:Int) ^ 7=128:=by decide
 have hx:((x.toNat:Nat):Int)=x:=by omega
 have h3:x.toNat<2 ^ b:=by
  have h4:((2 ^ b:Nat):Int)=2 ^ b:=by exact_mod_cast rfl
  omega
 have:=A83 ⟨b,hb⟩ ⟨x.toNat,by omega⟩ h3
 simp only at this;rwa [hx]at this
theorem A0s{set:Int}{n:Nat}{x:Int}:x∈AR set n↔ ∃a:Nat,x=(a:Int)∧a<n∧Ea set a=true:=by
 unfold AR;rw [Fq]
 constructor
 ·rintro⟨a,ha,rfl⟩
  rw [QD,Lt]at ha
  exact⟨a,rfl,ha.1,ha.2⟩
 ·rintro⟨a,rfl,h1,h2⟩
  exact⟨a,QD.2 ⟨Lt.2 h1,h2⟩,rfl⟩
end Go.Proofs.YtjhjkfoabhplfaaGreat
