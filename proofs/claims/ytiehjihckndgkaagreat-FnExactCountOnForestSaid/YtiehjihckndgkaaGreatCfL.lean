/- Solutions on a forest counted: the law. Conditions: none. -/
import Derived.Test.YtiehjihckndgkaaGreatL6
import Derived.Test.YtiehjihckndgkaaGreatCfC
import Derived.Test.YtiehjihckndgkaaGreatCnz
namespace Go.Proofs.YtiehjihckndgkaaGreat
open Go Dv
set_option linter.unusedSimpArgs false
set_option linter.unusedVariables false
set_option maxRecDepth 100000
theorem A0D(a d:Int)(ns es:AY)(E:List (List (Int×Int)))(ids ins:AB)(hn:Um ns)(he:Um es)(hE:UY E)(hids:ids.length<9223372036854775808)(hins:ins.length<9223372036854775808):Fh a d ns es E ids ins=some true:=by
 unfold Fh;rw [BL hn,BL he,BL (by omega)]
 by_cases q1:xN 1048576 ns es<0
 ·rw [if_pos q1]
 ·obtain⟨f1,sn,se,f2⟩:=A4E (by omega) q1
  rw [if_neg q1,BL hE,BL hids,BL hins,BL (by omega)]
  by_cases q2:szW (xN 1048576 ns es) E ids ins<0
  ·rw [if_pos q2]
  ·obtain⟨g1,sE,g2⟩:=A4X (by omega) q2
   have tE:=Ep (fE E);have t1:=Ep ns;have t2:=Ep es;have h1:ids.length<1099511627776:=by omega
   have h2:ins.length<1099511627776:=by omega
   obtain⟨r,ok,hS,hI⟩:=wZ a d ns es E ids ins sn se sE h1 h2;rw [if_neg q2,BL sn,BL se,BL sE,BL h1,BL h2,hS,hI];simp only [Cz,vN,vZ,if_true]
   cases ok<;>rfl
theorem A0E(ds:List D)(h:A8J Ap [24,28] ds):Y.call 6 ds []=some (.bool true,[]):=by
 rcases ds with _|⟨x,_|⟨y,_|⟨_,_⟩⟩⟩
 ·cases h
 ·exact h.2.elim
 ·obtain⟨a,d,ns,es,rfl,_,_,hn,he⟩:=uh A9Y ty3 A9X A48 ty3 h.1;obtain⟨E,ids,ins,rfl,hE,hids,hins⟩:=vD A9a A9Z A9b A1j ty3 A48 h.2.1;exact P8 a d ns es E ids ins (A0D a d ns es E ids ins (xO hn) (xO he) (A28 hE) (sZ hids.1 (by decide)) (sZ hins.1 (by decide)))
 ·exact h.2.2.elim
end Go.Proofs.YtiehjihckndgkaaGreat
