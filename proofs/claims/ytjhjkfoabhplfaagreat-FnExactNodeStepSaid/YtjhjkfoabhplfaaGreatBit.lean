/- Sets of labels as numbers, as plain functions. Conditions: those in each lemma. -/
import Derived.Test.YtjhjkfoabhplfaaGreatL6
import Derived.Test.YtjhjkfoabhplfaaGreatDt
namespace Go.Proofs.YtjhjkfoabhplfaaGreat
open Go Dv
set_option linter.unusedSimpArgs false
set_option linter.unusedVariables false
set_option maxRecDepth 100000
def EQ(set:Int)(a:Nat):Bool:=decide (set / 2 ^ a % 2=1)
theorem Kn{a b:Nat}(h:a≤b):(2:Int) ^ a≤2 ^ b:=by
 have:=qF (n:=2) (by decide) h
 exact_mod_cast this
theorem VH(set:Int)(a:Nat)(ha:a≤64):set.fdiv (2 ^ (min a IntKind.i64.bits))=set / 2 ^ a:=by
 have:min a IntKind.i64.bits=a:=by show min a 64=a;omega
 rw [this,Int.fdiv_eq_ediv_of_nonneg _ (Int.pow_nonneg (by decide))]
theorem RG(set:Int)(a:Nat)(h:0≤set):0≤set / 2 ^ a:=Int.ediv_nonneg h (Int.pow_nonneg (by decide))
def AU(set:Int)(n:Nat):List Int:=((List.range n).filter (EQ set)).map fun(a:Nat)=>(a:Int)
theorem Ko(set:Int)(n:Nat):AU set (n+1)=if EQ set n then AU set n++[(n:Int)]else AU set n:=by
 simp only [AU,Yo,ko,TT,List.filter_cons,List.filter_nil]
 split<;>simp
theorem Nz(set:Int)(n:Nat):(AU set n).length≤n:=by
 simp only [AU,S9];exact Sl (qC _ _) (by simp)
theorem A0Z: ∀x:Fin 256,Kj .and .i64 (x.val:Int) 1=(x.val:Int) % 2:=by decide+kernel
theorem jy(x:Int)(h:0≤x∧x≤255):Kj .and .i64 x 1=x % 2:=by
 have:=A0Z ⟨x.toNat,by omega⟩
 simp only at this;rwa [show((x.toNat:Nat):Int)=x by omega]at this
theorem pK(set:Int)(a:Nat)(h:0≤set):set / 2 ^ a≤set:=by
 have:(1:Int)≤2 ^ a:=by
  have:=Nat.one_le_two_pow (n:=a)
  exact_mod_cast this
 exact Int.ediv_le_self _ h
theorem Vr(set:Int)(a b:Nat)(h:0≤set)(hab:a≤b)(hz:set / 2 ^ a=0):set / 2 ^ b=0:=by
 have h1:=Int.mul_ediv_add_emod set (2 ^ a);rw [hz,Int.mul_zero,Int.zero_add]at h1;have h2:=Int.emod_lt_of_pos set (b:=2 ^ a) (Int.pow_pos (by decide))
 exact kV h (Int.lt_of_lt_of_le (h1▸h2) (Kn hab))
theorem aF(set:Int)(i n:Nat)(h:0≤set)(hi:i≤n)(hz:set / 2 ^ i=0):AU set i=AU set n:=by
 have key: ∀k,AU set (i+k)=AU set i:=by
  intro k
  induction k with
  | zero=>rfl
  | succ k ih=>
   have hf:EQ set (i+k)=false:=by
    simp only [EQ,Vr set i (i+k) h (by omega) hz];decide
   rw [show i+(k+1)=i+k+1 by omega,Ko,hf];simp only [Mw,if_false];exact ih
 have:=key (n-i)
 rw [show i+(n-i)=n by omega]at this
 exact this.symm
theorem A5Q(set:Int)(i:Nat)(h:0≤set∧set≤255)(hz: ¬set / 2 ^ i=0):i<8:=by
 apply Classical.byContradiction
 intro hc;apply hz
 have e:set / 2 ^ 8=0:=kV h.1 (by omega)
 exact Vr set 8 i h.1 (by omega) e
def BQ(p:Nat→Bool):Nat→Int
 | 0=>0
 | n+1=>BQ p n+if p n=true then 2 ^ n else 0
theorem Gr(p:Nat→Bool): ∀n,0≤BQ p n∧BQ p n<2 ^ n
 | 0=>by simp [BQ]
 | n+1=>by
  have ih:=Gr p n;have e:(2:Int) ^ (n+1)=2*2 ^ n:=by rw [Int.pow_succ];omega
  unfold BQ
  split<;>omega
theorem aG(p:Nat→Bool): ∀n a,a<n→BQ p n / 2 ^ a % 2=if p a=true then 1 else 0
 | n+1,a,h=>by
  have hr:=Gr p n;have pa:(0:Int)<2 ^ a:=Int.pow_pos (by decide)
  unfold BQ;by_cases e:a=n
  ·subst e;split
   ·rename_i hp
    have:(BQ p a+2 ^ a) / 2 ^ a=BQ p a / 2 ^ a+1:=by
     have:=Int.add_mul_ediv_right (BQ p a) 1 (c:=2 ^ a) (by omega)
     rwa [Int.one_mul]at this
    rw [this,kV hr.1 hr.2];decide
   ·rw [Int.add_zero,kV hr.1 hr.2];decide
  ·have ih:=aG p n a (by omega)
   split
   ·have e2:(2:Int) ^ n=2 ^ (n-a-1)*2*2 ^ a:=by
     rw [←Int.pow_succ,←Int.pow_add];congr 1;omega
    have:(BQ p n+2 ^ n) / 2 ^ a=BQ p n / 2 ^ a+2 ^ (n-a-1)*2:=by
     rw [e2,Int.add_mul_ediv_right _ _ (by omega)]
    rw [this,Int.add_mul_emod_self_right];exact ih
   ·rw [Int.add_zero];exact ih
theorem Rq(p:Nat→Bool)(n a:Nat):EQ (BQ p n) a=(decide (a<n)&&p a):=by
 unfold EQ;by_cases h:a<n
 ·rw [aG p n a h,decide_eq_true h,Bool.true_and]
  cases p a<;>rfl
 ·have hr:=Gr p n;have:BQ p n / 2 ^ a=0:=kV hr.1 (Int.lt_of_lt_of_le hr.2 (Kn (by omega)))
  rw [this,decide_eq_false h];rfl
theorem A5R: ∀b:Fin 8,∀x:Fin 256,x.val<2 ^ b.val→Kj .or .i64 (x.val:Int) (2 ^ b.val)=(x.val:Int)+2 ^ b.val:=by decide+kernel
theorem A0a(x:Int)(b:Nat)(hb:b<8)(h:0≤x∧x<2 ^ b):Kj .or .i64 x (2 ^ b)=x+2 ^ b:=by
 have h2:(2:Int) ^ b≤2 ^ 7:=Kn (by omega)
 have e:(2:Int) ^ 7=128:=by decide
 have hx:((x.toNat:Nat):Int)=x:=by omega
 have h3:x.toNat<2 ^ b:=by
  have h4:((2 ^ b:Nat):Int)=2 ^ b:=by exact_mod_cast rfl
  omega
 have:=A5R ⟨b,hb⟩ ⟨x.toNat,by omega⟩ h3
 simp only at this;rwa [hx]at this
theorem xe{set:Int}{n:Nat}{x:Int}:x∈AU set n↔ ∃a:Nat,x=(a:Int)∧a<n∧EQ set a=true:=by
 unfold AU;rw [GV]
 constructor
 ·rintro⟨a,ha,rfl⟩
  rw [Px,Mx]at ha
  exact⟨a,rfl,ha.1,ha.2⟩
 ·rintro⟨a,rfl,h1,h2⟩
  exact⟨a,Px.2 ⟨Mx.2 h1,h2⟩,rfl⟩
end Go.Proofs.YtjhjkfoabhplfaaGreat
