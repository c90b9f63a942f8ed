/- Connected twins: the law. Conditions: none. -/
import Derived.Test.YtipfckompmhljaaL6
import Derived.Test.YtipfckompmhljaaTwC
import Derived.Test.YtipfckompmhljaaTwx
namespace Go.Proofs.Ytipfckompmhljaa
open Go Dv
set_option linter.unusedSimpArgs false
set_option linter.unusedVariables false
set_option maxRecDepth 100000
theorem A4e(E:List (List (Int×Int)))(ids ins:List Int)(hE:Oz E)(hids:ids.length<9223372036854775808)(hins:ins.length<9223372036854775808):EB E ids ins=some true:=by
 unfold EB;rw [BM hE,BM hids,BM hins,BM (by omega)]
 by_cases q1:sN 1048576 E ids ins<0
 ·rw [if_pos q1]
 ·obtain⟨g1,sE,g2⟩:=vC (by omega) q1
  have tE:=EP (fE E);have h1:ids.length<1099511627776:=by omega
  have h2:ins.length<1099511627776:=by omega
  obtain⟨E',ids',ins',b,ok,hS,hI,sE',t1,t2,t3,t4⟩:=lN E ids ins sE (by omega) (by omega)
  have tE':=EP (fE E');have hh:=RX E' ids' ins' 1 sE' (by omega) (by omega) (by omega)
  have c0:b.length<1099511627776:=by omega
  have c1:ids'.length<1099511627776:=by omega
  have c2:ins'.length<1099511627776:=by omega
  have c3:(0:Int)≤1∧(1:Int)+2*CW (fE E)+ids.length+ins.length<1099511627776:=by omega
  have c4: ¬(1:Int)+2*CW (fE E)+ids.length+ins.length<0:=by omega
  have c5:(0:Int)≤1∧(1:Int)+2*CW (fE E')+ids'.length+ins'.length<1099511627776:=by omega
  have c6: ¬(1:Int)+2*CW (fE E')+ids'.length+ins'.length<0:=by omega
  have c7:0≤(1:Int)+2*CW (fE E')+ids'.length+ins'.length∧(1:Int)+2*CW (fE E')+ids'.length+ins'.length+b.length<1099511627776:=by omega
  have c9:0≤(1:Int)+2*CW (fE E')+ids'.length+ins'.length∧(1:Int)+2*CW (fE E')+ids'.length+ins'.length<1099511627776:=by omega
  have c8: ¬(1:Int)+2*CW (fE E')+ids'.length+ins'.length+b.length<0:=by omega
  rw [if_neg q1,BM sE,BM h1,BM h2];simp only [hS,hI,Option.bind_some,BM sE',BM c0,BM c1,BM c2,gT,decide_true,if_true,BM c3,if_neg c4,BM c5,BM c7,BM c9,hh,LK,RB,if_neg c6,if_neg c8]
  cases ok<;>rfl
theorem A4f(ds:List D)(h:A1R Ad [25] ds):Y.call 5 ds []=some (.bool true,[]):=by
 rcases ds with _ | ⟨x,_ | ⟨_,_⟩⟩
 ·cases h
 ·obtain⟨E,ids,ins,rfl,hE,hids,hins⟩:=gF A3N A3J A3O pJ ty3 A3K h.1;exact Kl E ids ins (A4e E ids ins (qL hE) (Nat.lt_of_le_of_lt hids.1 (by decide)) (Nat.lt_of_le_of_lt hins.1 (by decide)))
 ·exact h.2.elim
end Go.Proofs.Ytipfckompmhljaa
