/- The node step: the law. Conditions: none. -/
import Derived.Test.YtjhjkfoabhplfaaGreatL6
import Derived.Test.YtjhjkfoabhplfaaGreatNstC
namespace Go.Proofs.YtjhjkfoabhplfaaGreat
open Go Dv
set_option linter.unusedSimpArgs false
set_option linter.unusedVariables false
set_option maxRecDepth 100000
theorem A1d(a d:Int)(ns es:AO)(hn:U9 ns)(he:U9 es):Jp a d ns es=some true:=by
 unfold Jp;rw [BF hn,BF he,BF (by omega)]
 by_cases q1:szP 1048576 ns es<0
 ·rw [if_pos q1]
 ·obtain⟨f1,sn,se,f2⟩:=A1G (by omega) q1
  have t1:=DL ns;have t2:=DL es;have g1:(0:Int)≤1∧(1:Int)+DC ns+DC es<1099511627776:=by omega
  have g2: ¬(1:Int)+DC ns+DC es<0:=by omega
  rw [if_neg q1,BF sn,BF se];obtain⟨_,_,hN,hE,l1,l2,l3,l4,l5⟩:=Zi a d ns es sn se;generalize Ab a d ns es=q at hN hE l1 l2 l3 l4 l5 ⊢;obtain⟨L,e,N,E,left,ok⟩:=q;simp only at hN hE l1 l2 l3 l4 l5;have t3:=DL N;have t4:=DL E;have h1:(0:Int)≤1∧(1:Int)+DC N+DC E<1099511627776:=by omega
  have h3:0≤(1:Int)+DC N+DC E∧(1:Int)+DC N+DC E<1099511627776:=by omega
  have h4:=WB L e N E 1 hN hE (by omega)
  have h5: ¬(1:Int)+DC N+DC E<0:=by omega
  have h6:(upto ((1:Int)+DC N+DC E) left.length).length<1099511627776:=by rw [Nl];omega
  have h7:0≤(1:Int)+DC N+DC E∧(1:Int)+DC N+DC E+((upto ((1:Int)+DC N+DC E) left.length).length:Int)<1099511627776:=by rw [Nl];omega
  have h8:Py ((1:Int)+DC N+DC E) (upto ((1:Int)+DC N+DC E) left.length)=(1:Int)+DC N+DC E+left.length:=bn _ _;have h9: ¬(1:Int)+DC N+DC E+left.length<0:=by omega
  have hl:left.length<1099511627776:=by omega
  simp only [Cs,BF hN,BF hE,pu,BF hl,decide_true,BF g1,if_neg g2,BF h1,BF h3,h4,if_neg h5,BF h6,BF h7,h8,if_neg h9,↓reduceIte]
theorem A1e(ds:List D)(h:A3r Ah [24] ds):Y.call 4 ds []=some (.bool true,[]):=by
 rcases ds with _|⟨x,_|⟨_,_⟩⟩
 ·cases h
 ·obtain⟨a,d,ns,es,rfl,_,_,hn,he⟩:=ou A5K ty3 A5J A5L ty3 h.1;exact RD a d ns es (A1d a d ns es (rE hn) (rE he))
 ·exact h.2.elim
end Go.Proofs.YtjhjkfoabhplfaaGreat
