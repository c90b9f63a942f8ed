/- Greatest sets of labels of ports: program and reference agree on all arguments. Conditions: the lists are short. -/
import Derived.Test.YtiehjihckndgkaaGreatL6
import Derived.Test.YtiehjihckndgkaaGreatSmg
namespace Go.Proofs.YtiehjihckndgkaaGreat
open Go Dv
set_option linter.unusedSimpArgs false
set_option linter.unusedVariables false
set_option maxRecDepth 100000
theorem ABX{n D:Nat}{ns es:AY}{E:List (List (Int×Int))}{ids ins:AB}(h:MC n D ns es=true)(hw:FX E ids ins=true)(hn:Bv ns)(he:Bv es):Ctx E ns es n D:=by
 obtain⟨ha,hd,c1,c2⟩:=Uu h
 refine⟨A2p hw,by omega,by omega,hn,he,jS c1,jS c2,fun c hc=>mR (WK c1 hc).2.1,fun c hc=>⟨?_,fun a hac=> ?_⟩⟩
 ·have:=(WK c1 hc).1;omega
 ·have h3:=(WK c1 hc).2.2;unfold GG at h3;have:=Fg.1 (KN.1 h3 a hac)
  omega
end Go.Proofs.YtiehjihckndgkaaGreat
