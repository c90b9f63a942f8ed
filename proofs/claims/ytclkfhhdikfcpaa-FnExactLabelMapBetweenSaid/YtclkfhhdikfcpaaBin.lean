/- Sets of labels as natural numbers. Conditions: the numbers are small. -/
import Derived.Test.YtclkfhhdikfcpaaL6
import Derived.Test.YtclkfhhdikfcpaaBit
namespace Go.Proofs.Ytclkfhhdikfcpaa
open Go Dv
set_option linter.unusedSimpArgs false
set_option linter.unusedVariables false
set_option maxRecDepth 100000
theorem KN(n a:Nat):Bv (n:Int) a=n.testBit a:=by
 unfold Bv;rw [Nat.testBit_eq_decide_div_mod_eq]
 have e:((n:Int) / 2 ^ a % 2=1)↔(n / 2 ^ a % 2=1):=by
  have h:((n / 2 ^ a % 2:Nat):Int)=(n:Int) / 2 ^ a % 2:=by
   rw [Int.natCast_emod,Int.natCast_ediv,Int.natCast_pow];rfl
  omega
 rw [Bool.eq_iff_iff,decide_eq_true_eq,decide_eq_true_eq];exact e
theorem jY(n m:Nat)(hn:n≤255)(hm:m≤255):IE .and .i64 (n:Int) (m:Int)=((n &&& m:Nat):Int):=by
 have h:=Nat.and_le_left (n:=n) (m:=m);unfold IE;simp only [BitVec.toNat_and,BitVec.toNat_ofInt]
 have e1:((n:Int) % ((2 ^ IntKind.i64.bits:Nat):Int)).toNat=n:=by
  rw [Int.emod_eq_of_lt (by omega) (by show(n:Int)<((2 ^ 64:Nat):Int);omega)];omega
 have e2:((m:Int) % ((2 ^ IntKind.i64.bits:Nat):Int)).toNat=m:=by
  rw [Int.emod_eq_of_lt (by omega) (by show(m:Int)<((2 ^ 64:Nat):Int);omega)];omega
 rw [e1,e2,IK _ (by omega)]
theorem jZ{n m:Nat}(hn:n≤255)(hm:m≤255):n ||| m≤255:=by
 have:=Nat.or_lt_two_pow (x:=n) (y:=m) (n:=8) (by omega) (by omega)
 omega
theorem mg(n m:Nat)(hn:n≤255)(hm:m≤255):IE .or .i64 (n:Int) (m:Int)=((n ||| m:Nat):Int):=by
 have h:=jZ hn hm;unfold IE;simp only [BitVec.toNat_or,BitVec.toNat_ofInt]
 have e1:((n:Int) % ((2 ^ IntKind.i64.bits:Nat):Int)).toNat=n:=by
  rw [Int.emod_eq_of_lt (by omega) (by show(n:Int)<((2 ^ 64:Nat):Int);omega)];omega
 have e2:((m:Int) % ((2 ^ IntKind.i64.bits:Nat):Int)).toNat=m:=by
  rw [Int.emod_eq_of_lt (by omega) (by show(m:Int)<((2 ^ 64:Nat):Int);omega)];omega
 rw [e1,e2,IK _ (by omega)]
theorem mh(x y:Int)(hx:0≤x∧x≤255)(hy:0≤y∧y≤255):0≤IE .and .i64 x y∧IE .and .i64 x y≤x∧ ∀a,Bv (IE .and .i64 x y) a=(Bv x a&&Bv y a):=by
 obtain⟨n,rfl⟩: ∃n:Nat,x=(n:Int):=⟨x.toNat,by omega⟩
 obtain⟨m,rfl⟩: ∃m:Nat,y=(m:Int):=⟨y.toNat,by omega⟩
 rw [jY n m (by omega) (by omega)]
 refine⟨by omega,by have:=Nat.and_le_left (n:=n) (m:=m);omega,fun a=> ?_⟩
 rw [KN,KN,KN,Nat.testBit_and]
theorem zg(x:Int)(b:Nat)(hx:0≤x∧x≤255)(hb:b<8):0≤IE .or .i64 x (2 ^ b)∧IE .or .i64 x (2 ^ b)≤255∧ ∀a,Bv (IE .or .i64 x (2 ^ b)) a=(Bv x a||decide (a=b)):=by
 obtain⟨n,rfl⟩: ∃n:Nat,x=(n:Int):=⟨x.toNat,by omega⟩
 have hp:(2:Nat) ^ b≤2 ^ 7:=Nat.pow_le_pow_right (by decide) (by omega)
 have e7:(2:Nat) ^ 7=128:=by decide
 have e:((2:Int) ^ b)=(((2:Nat) ^ b:Nat):Int):=by rw [Int.natCast_pow];rfl
 rw [e,mg n (2 ^ b) (by omega) (by omega)]
 refine⟨by omega,by have:=jZ (n:=n) (m:=2 ^ b) (by omega) (by omega);omega,fun a=> ?_⟩
 rw [KN,KN,Nat.testBit_or,Nat.testBit_two_pow]
 congr 1
 rw [Bool.eq_iff_iff,decide_eq_true_eq,decide_eq_true_eq]
 exact⟨fun h=>h.symm,fun h=>h.symm⟩
end Go.Proofs.Ytclkfhhdikfcpaa
