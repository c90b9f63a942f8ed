/- Labels placed at ports with sets: the reference's search, as a plain function. Conditions: those in each lemma. -/
import Derived.Test.YtiehjihckndgkaaGreatL6
import Derived.Test.YtiehjihckndgkaaGreatSmA
import Derived.Test.YtiehjihckndgkaaGreatBit
import Derived.Test.YtiehjihckndgkaaGreatChc
namespace Go.Proofs.YtiehjihckndgkaaGreat
open Go Dv
set_option linter.unusedSimpArgs false
set_option linter.unusedVariables false
set_option maxRecDepth 100000
theorem jY(mask:Int)(a:Nat)(h:0≤mask∧mask≤255)(ha:a≤8):TY mask (a:Int)=some (nV mask a):=by
 have loop:Pi (mask,(a:Int))=some (mask / 2 ^ a):=by
  unfold Pi;have key:=Cf (fun v=>L9 v.1 v.2) (fun k=>(mask / 2 ^ k,((a-k:Nat):Int))) a (mask / 2 ^ a) ?_ ?_
  ·simpa using key
  ·intro k hk;have h0:=Y3 mask k h.1;have h1:=Int.le_trans (A4w mask k h.1) h.2;simp only [L9];rw [if_pos (by omega),Int.tdiv_eq_ediv_of_nonneg h0,I7 _ (by omega),I7 _ (by omega),Int.pow_succ,←Int.ediv_ediv_of_nonneg (Int.pow_nonneg (by decide))]
   congr 3
   omega
  ·simp only [L9];rw [if_neg (by omega)]
 unfold TY Z7;rw [loop,Cz,Cz,Int.tmod_eq_emod_of_nonneg (Y3 mask a h.1)];rfl
structure RelM(Ls:AY)(masks:AB):Prop where
 len:masks.length=Ls.length
 rng: ∀k,k<masks.length→0≤masks.getD k default∧masks.getD k default≤255
 has: ∀k a:Nat,k<masks.length→a<8→nV (masks.getD k default) a=(Ls.getD k default).contains (a:Int)
end Go.Proofs.YtiehjihckndgkaaGreat
