/- Supports of labels, and sets that shrink: program and reference agree. Conditions: those in each lemma. -/
import Derived.Test.YtiehjihckndgkaaGreatL6
import Derived.Test.YtiehjihckndgkaaGreatSmf
namespace Go.Proofs.YtiehjihckndgkaaGreat
open Go Dv
set_option linter.unusedSimpArgs false
set_option linter.unusedVariables false
set_option maxRecDepth 100000
def mk2(M:AY)(v i:Nat):Int:=(M.getD v default).getD i default
def UO(en:List (List (Int×Int)))(v i:Nat):Nat:=(BP (en.getD v default) i).toNat
def Ub(en:List (List (Int×Int)))(v i:Nat):Nat:=(Ck (en.getD v default) i).toNat
structure OkM(en:List (List (Int×Int)))(n:Nat)(M:AY):Prop where
 len:M.length=en.length
 row: ∀v,v<en.length→(M.getD v default).length=(en.getD v default).length
 rng: ∀v i,v<en.length→i<(en.getD v default).length→0≤mk2 M v i∧mk2 M v i<2 ^ n
structure NetOk(en:List (List (Int×Int))):Prop where
 big:en.length≤40
 deg: ∀v,v<en.length→(en.getD v default).length≤6
 prt: ∀v i,v<en.length→i<(en.getD v default).length→UZ en v i=true
theorem A2p{E:List (List (Int×Int))}{ids ins:AB}(hw:FX E ids ins=true):NetOk E:=by
 unfold FX at hw;simp only [Gb]at hw
 refine⟨?_,fun v hv=> ?_,fun v i hv hi=> ?_⟩
 ·have:=Fg.1 hw.1;omega
 ·have:=DV.1 hw.2.2.2.2 v hv
  rw [PH,Gb,decide_eq_true_eq]at this;exact this.1
 ·have:=DV.1 hw.2.2.2.2 v hv
  rw [PH,Gb]at this;exact DV.1 this.2 i hi
theorem NetOk.at{en:List (List (Int×Int))}(h:NetOk en){v i:Nat}(hv:v<en.length)(hi:i<(en.getD v default).length):
  BP (en.getD v default) i=(UO en v i:Int)∧Ck (en.getD v default) i=(Ub en v i:Int)∧UO en v i<en.length∧Ub en v i<(en.getD (UO en v i) default).length∧UO en (UO en v i) (Ub en v i)=v∧Ub en (UO en v i) (Ub en v i)=i:=by
 have hp:=h.prt v i hv hi;rw [UB]at hp;simp only [Gb,beq_iff_eq]at hp;have p1:=Fg.1 hp.1;have p2:=Fg.1 hp.2.1;have e1:BP (en.getD v default) i=(UO en v i:Int):=by unfold UO;omega
 have e2:Ck (en.getD v default) i=(Ub en v i:Int):=by unfold Ub;omega
 refine⟨e1,e2,by omega, ?_, ?_, ?_⟩
 ·rw [e1,EC]at p2;omega
 ·have:=hp.2.2.1
  show(BP (en.getD (UO en v i) default) (Ub en v i)).toNat=v
  rw [show UO en v i=(BP (en.getD v default) i).toNat from rfl,show Ub en v i=(Ck (en.getD v default) i).toNat from rfl,this,EC]
 ·have:=hp.2.2.2
  show(Ck (en.getD (UO en v i) default) (Ub en v i)).toNat=i
  rw [show UO en v i=(BP (en.getD v default) i).toNat from rfl,show Ub en v i=(Ck (en.getD v default) i).toNat from rfl,this,EC]
theorem ABW{n:Nat}(hn:n≤8):(2:Int) ^ n≤256:=by
 have:=zz hn
 have e:(2:Int) ^ 8=256:=by decide
 omega
theorem OkM.le{en:List (List (Int×Int))}{n:Nat}{M:AY}(h:OkM en n M)(hn:n≤8){v i:Nat}(hv:v<en.length)(hi:i<(en.getD v default).length):0≤mk2 M v i∧mk2 M v i≤255:=by
 have:=h.rng v i hv hi
 have:=ABW hn
 omega
end Go.Proofs.YtiehjihckndgkaaGreat
