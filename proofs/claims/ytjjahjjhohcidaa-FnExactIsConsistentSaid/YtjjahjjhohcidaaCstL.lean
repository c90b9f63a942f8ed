/- Whether classes are consistent: the law. Conditions: none. -/
import Derived.Test.YtjjahjjhohcidaaL6
import Derived.Test.YtjjahjjhohcidaaCstC
import Derived.Test.YtjjahjjhohcidaaCst
namespace Go.Proofs.Ytjjahjjhohcidaa
open Go Dv
set_option linter.unusedSimpArgs false
set_option linter.unusedVariables false
set_option maxRecDepth 100000
theorem US(E:List (List (Int×Int)))(ids ins cls:List Int)(hE:H8 E)(h1:ids.length<9223372036854775808)(h2:ins.length<9223372036854775808):CC E ids ins cls=some true:=by
 unfold CC
 by_cases q0:1048576<(cls.length:Int)
 ·rw [if_pos q0]
 ·rw [if_neg q0,C3 hE,C3 h1,C3 h2,C3 (by omega)]
  by_cases q1:Ub 1048576 E ids ins<0
  ·rw [if_pos q1]
  ·obtain⟨g1,sE,g2⟩:=Vl (by omega) q1
   have tE:=EI (fE E)
   have k1:ids.length<1099511627776:=by omega
   have k2:ins.length<1099511627776:=by omega
   have k3:cls.length<1099511627776:=by omega
   obtain⟨x,y,hS,hI⟩:=S8 E ids ins cls sE k1 k2 k3
   rw [if_neg q1,C3 sE,C3 k1,C3 k2,C3 k3]
   simp only [hS,hI,Option.bind_some,decide_true,QS,if_true]
   cases x<;>cases y<;>simp
theorem UT(ds:List D)(h:ZO AE [25,23] ds):Y.call 3 ds []=some (.bool true,[]):=by
 rcases ds with _ | ⟨x,_ | ⟨z,_ | ⟨_,_⟩⟩⟩
 ·cases h
 ·exact h.2.elim
 ·obtain⟨E,ids,ins,rfl,hE,hids,hins⟩:=QH bX bW Tt Tu nH Vc h.1
  obtain⟨l,rfl,hl⟩:=VS Vc nH h.2.1
  exact F5 E ids ins l (US E ids ins l (UC hE) (Nat.lt_of_le_of_lt hids.1 (by decide)) (Nat.lt_of_le_of_lt hins.1 (by decide)))
 ·exact h.2.2.elim
end Go.Proofs.Ytjjahjjhohcidaa
