/- The node step: the law. Conditions: none. -/
import Derived.Test.YtjhjkfoabhplfaaGreatL6
import Derived.Test.YtjhjkfoabhplfaaGreatNstC
namespace Go.Proofs.YtjhjkfoabhplfaaGreat
open Go Dv
set_option linter.unusedSimpArgs false
set_option linter.unusedVariables false
set_option maxRecDepth 100000
theorem A0r(a d:Int)(ns es:List (List Int))(hn:TB ns)(he:TB es):Ir a d ns es=some true:=by
 unfold Ir;rw [Am hn,Am he,Am (by omega)]
 by_cases q1:zL 1048576 ns es<0
 ·rw [if_pos q1]
 ·obtain⟨f1,sn,se,f2⟩:=A0S (by omega) q1
  have t1:=Ce ns;have t2:=Ce es;have g1:(0:Int)≤1∧(1:Int)+Bz ns+Bz es<1099511627776:=by omega
  have g2: ¬(1:Int)+Bz ns+Bz es<0:=by omega
  rw [if_neg q1,Am sn,Am se];obtain⟨_,_,hN,hE,l1,l2,l3,l4,l5⟩:=Yi a d ns es sn se;generalize AL a d ns es=q at hN hE l1 l2 l3 l4 l5 ⊢;obtain⟨L,e,N,E,left,ok⟩:=q;simp only at hN hE l1 l2 l3 l4 l5;have t3:=Ce N;have t4:=Ce E;have h1:(0:Int)≤1∧(1:Int)+Bz N+Bz E<1099511627776:=by omega
  have h3:0≤(1:Int)+Bz N+Bz E∧(1:Int)+Bz N+Bz E<1099511627776:=by omega
  have h4:=VA L e N E 1 hN hE (by omega)
  have h5: ¬(1:Int)+Bz N+Bz E<0:=by omega
  have h6:(upto ((1:Int)+Bz N+Bz E) left.length).length<1099511627776:=by rw [Ma];omega
  have h7:0≤(1:Int)+Bz N+Bz E∧(1:Int)+Bz N+Bz E+((upto ((1:Int)+Bz N+Bz E) left.length).length:Int)<1099511627776:=by rw [Ma];omega
  have h8:MX ((1:Int)+Bz N+Bz E) (upto ((1:Int)+Bz N+Bz E) left.length)=(1:Int)+Bz N+Bz E+left.length:=Zv _ _;have h9: ¬(1:Int)+Bz N+Bz E+left.length<0:=by omega
  have hl:left.length<1099511627776:=by omega
  simp only [CO,Am hN,Am hE,nL,if_true,Am hl,decide_true,Am g1,if_neg g2,Am h1,Am h3,h4,if_neg h5,Am h6,Am h7,h8,if_neg h9,↓reduceIte,ite_self]
theorem A0s(ds:List D)(h:A35 AX [24] ds):Y.call 4 ds []=some (.bool true,[]):=by
 rcases ds with _ | ⟨x,_ | ⟨_,_⟩⟩
 ·cases h
 ·obtain⟨a,d,ns,es,rfl,_,_,hn,he⟩:=mU A4Y ty3 A4X A4Z ty3 h.1;exact QN a d ns es (A0r a d ns es (pG hn) (pG he))
 ·exact h.2.elim
end Go.Proofs.YtjhjkfoabhplfaaGreat
