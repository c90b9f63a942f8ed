/- Sets of labels that shrink to the greatest ones: program and reference agree. Conditions: those in each lemma. -/
import Derived.Test.YtiehjihckndgkaaGreatL6
import Derived.Test.YtiehjihckndgkaaGreatSmd
namespace Go.Proofs.YtiehjihckndgkaaGreat
open Go Dv
set_option linter.unusedSimpArgs false
set_option linter.unusedVariables false
set_option maxRecDepth 100000
structure Ctx(en:List (List (Int×Int)))(ns es:AY)(n D:Nat):Prop where
 hN:NetOk en
 hn:n≤8
 hD:D≤4
 hs:Bv ns
 he:Bv es
 hin:Us ns=true
 hie:Us es=true
 hp: ∀c∈ns,c.Pairwise fun a b=>a≤b
 hc: ∀c∈ns,c.length=D∧ ∀a∈c,0≤a∧a<8
theorem A2q(a:Nat)(ha:a≤8):IntKind.i64.wrap (1*2 ^ (min a IntKind.i64.bits))=2 ^ a:=by
 have:min a IntKind.i64.bits=a:=by show min a 64=a;omega
 have h1:=ABW ha;have h2:(0:Int)<2 ^ a:=Int.pow_pos (by decide)
 rw [this,Int.one_mul,I7 _ (by omega)]
theorem A4x{M:AY}{v i:Nat}{x:Int}(hv:v<M.length)(hi:i<(M.getD v default).length)(w j:Nat)(hj:j<(M.getD w default).length):mk2 (M.set v ((M.getD v default).set i x)) w j=if v=w∧i=j then x else mk2 M w j:=by
 unfold mk2;by_cases e:v=w
 ·subst e;rw [Ao (M.set v _) v (by rw [Ki];exact hv),oK,Ao _ _ (by rw [Ki];exact hj),List.getElem_set,Ao _ j hj]
  by_cases e2:i=j
  ·rw [if_pos e2,if_pos ⟨rfl,e2⟩]
  ·rw [if_neg e2,if_neg (fun h=>e2 h.2)]
 ·rw [if_neg (fun h=>e h.1)]
  have:(M.set v ((M.getD v default).set i x)).getD w default=M.getD w default:=by
   rw [Le,List.getElem?_set_ne e,←Le]
  rw [this]
theorem A4y{M:AY}{v i:Nat}{x:Int}(w:Nat):((M.set v ((M.getD v default).set i x)).getD w default).length=(M.getD w default).length:=by
 by_cases e:v=w
 ·subst e;by_cases hv:v<M.length
  ·rw [Ao (M.set v _) v (by rw [Ki];exact hv),oK,Ki]
  ·rw [List.set_eq_of_length_le (by omega)]
 ·rw [Le,List.getElem?_set_ne e,←Le]
theorem OkM.set{en:List (List (Int×Int))}{n:Nat}{M:AY}(h:OkM en n M){v i:Nat}{x:Int}(hv:v<en.length)(hi:i<(en.getD v default).length)(hx:0≤x∧x<2 ^ n):OkM en n (M.set v ((M.getD v default).set i x)):=by
 refine⟨by rw [Ki];exact h.len,fun w hw=>by rw [A4y];exact h.row w hw,fun w j hw hj=> ?_⟩
 have:=h.len
 rw [A4x (by omega) (by rw [h.row v hv];exact hi) w j (by rw [h.row w hw];exact hj)]
 split
 ·exact hx
 ·exact h.rng w j hw hj
section
variable {en:List (List (Int×Int))} {ns es:AY} {n D:Nat} (C:Ctx en ns es n D) (ids inp:AB)
include C
end
end Go.Proofs.YtiehjihckndgkaaGreat
