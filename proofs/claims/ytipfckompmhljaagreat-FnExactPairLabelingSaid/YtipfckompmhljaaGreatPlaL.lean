/- Labelings with a pair: the law. Conditions: none. -/
import Derived.Test.YtipfckompmhljaaGreatL6
import Derived.Test.YtipfckompmhljaaGreatPla
import Derived.Test.YtipfckompmhljaaGreatPlaC
namespace Go.Proofs.YtipfckompmhljaaGreat
open Go Dv
set_option linter.unusedSimpArgs false
set_option linter.unusedVariables false
set_option maxRecDepth 100000
theorem nX(a d:Int)(ns es:List (List Int))(E:List (List (Int×Int)))(ids ins:List Int)(hn:M0 ns)(he:M0 es)(hE:Lj E)(hids:ids.length<9223372036854775808)(hins:ins.length<9223372036854775808):Co a d ns es E ids ins=some true:=by
 unfold Co
 rw [Ac hn,Ac he,Ac (by omega)]
 by_cases q1:XB 1048576 ns es<0
 ·rw [if_pos q1]
 ·obtain⟨f1,sn,se,f2⟩:=gK (by omega) q1
  rw [if_neg q1,Ac hE,Ac hids,Ac hins,Ac (by omega)]
  by_cases q2:fC (XB 1048576 ns es) E ids ins<0
  ·rw [if_pos q2]
  ·obtain⟨g1,sE,g2⟩:=gQ (by omega) q2
   have tE:=B5 (fE E)
   have t1:=B5 ns
   have t2:=B5 es
   have h1:ids.length<1099511627776:=by omega
   have h2:ins.length<1099511627776:=by omega
   obtain⟨r,ok,hS,hI,hr,ht⟩:=gW a d ns es E ids ins sn se sE h1 h2
   have t3:=B5 r
   have hh:=QK r 1 hr (by omega)
   have c1:(0:Int)≤1∧1+Aw ns+Aw es<1099511627776:=by omega
   have c2:0≤1+Aw ns+Aw es∧1+Aw ns+Aw es+2*Aw (fE E)+ids.length+ins.length<1099511627776:=by omega
   have c3: ¬1+Aw ns+Aw es+2*Aw (fE E)+ids.length+ins.length<0:=by omega
   have c4:(0:Int)≤1∧(1:Int)+Aw r<1099511627776:=by omega
   have c5: ¬(1:Int)+Aw r<0:=by omega
   rw [if_neg q2,Ac sn,Ac se,Ac sE,Ac h1,Ac h2]
   simp only [hS,hI,Option.bind_some,Ac hr,decide_true,YU,Yg,if_true,Ac c1,Ac c2,if_neg c3,Ac c4,hh,if_neg c5]
   cases ok<;>rfl
theorem nY(ds:List D)(h:jL AJ [24,28] ds):Y.call 3 ds []=some (.bool true,[]):=by
 rcases ds with _ | ⟨x,_ | ⟨y,_ | ⟨_,_⟩⟩⟩
 ·cases h
 ·exact h.2.elim
 ·obtain⟨a,d,ns,es,rfl,_,_,hn,he⟩:=Y3 lT tT lS gH tT h.1
  obtain⟨E,ids,ins,rfl,hE,hids,hins⟩:=YQ lV lU lW lX tT gH h.2.1
  exact Ie a d ns es E ids ins (nX a d ns es E ids ins (ZI hn) (ZI he) (dp hE) (Nat.lt_of_le_of_lt hids.1 (by decide)) (Nat.lt_of_le_of_lt hins.1 (by decide)))
 ·exact h.2.2.elim
end Go.Proofs.YtipfckompmhljaaGreat
