/- A round of an elimination: the law. Conditions: none. -/
import Derived.Test.YtjhjkfoabhplfaaGreatL6
import Derived.Test.YtjhjkfoabhplfaaGreatElrC
namespace Go.Proofs.YtjhjkfoabhplfaaGreat
open Go Dv
set_option linter.unusedSimpArgs false
set_option linter.unusedVariables false
set_option maxRecDepth 100000
theorem A3O(a d:Int)(ns es:AL)(hn:Uf ns)(he:Uf es):Ei a d ns es=some true:=by
 unfold Ei;rw [Ao hn,Ao he,Ao (by omega)]
 by_cases q1:szP 1048576 ns es<0
 ·rw [if_pos q1]
 ·obtain⟨f1,sn,se,f2⟩:=A33 (by omega) q1
  have t1:=Cj ns;have t2:=Cj es;have g1:(0:Int)≤1∧(1:Int)+Bi ns+Bi es<1099511627776:=by omega
  have g2: ¬(1:Int)+Bi ns+Bi es<0:=by omega
  rw [if_neg q1,Ao sn,Ao se];obtain⟨_,_,⟨hN,hE,l1,l2,l3,l4,l5⟩,l6⟩:=XL a d ns es sn se;generalize AO a d ns es=q at hN hE l1 l2 l3 l4 l5 l6 ⊢;obtain⟨L,e,N,E,left,right,ok⟩:=q;simp only at hN hE l1 l2 l3 l4 l5 l6;have t3:=Cj N;have t4:=Cj E;have h1:(0:Int)≤1∧(1:Int)+Bi N+Bi E<1099511627776:=by omega
  have h3:0≤(1:Int)+Bi N+Bi E∧(1:Int)+Bi N+Bi E<1099511627776:=by omega
  have h3':0≤(1:Int)+Bi N+Bi E∧(1:Int)+Bi N+Bi E+left.length<1099511627776:=by omega
  have h3'':0≤(1:Int)+Bi N+Bi E+left.length∧(1:Int)+Bi N+Bi E+left.length+right.length<1099511627776:=by omega
  have h3a:0≤(1:Int)+Bi N+Bi E+left.length∧(1:Int)+Bi N+Bi E+left.length<1099511627776:=by omega
  have h4:=Ww L e N E 1 hN hE (by omega)
  have h5: ¬(1:Int)+Bi N+Bi E<0:=by omega
  have h9: ¬(1:Int)+Bi N+Bi E+left.length<0:=by omega
  have h9': ¬(1:Int)+Bi N+Bi E+left.length+right.length<0:=by omega
  have hl:left.length<1099511627776:=by omega
  have hl2:right.length<1099511627776:=by omega
  simp only [Bl,Ao hN,Ao hE,tH,Ao hl,Ao hl2,decide_true,Ao g1,if_neg g2,Ao h1,Ao h3,Ao h3',Ao h3'',Ao h3a,h4,if_neg h5,Oz,eu,if_neg h9,if_neg h9',↓reduceIte]
theorem A3P(ds:List D)(h:A5c Ab [24] ds):Y.call 5 ds []=some (.bool true,[]):=by
 rcases ds with _|⟨x,_|⟨_,_⟩⟩
 ·cases h
 ·obtain⟨a,d,ns,es,rfl,_,_,hn,he⟩:=rf A75 ty3 A74 A76 ty3 h.1;exact OD a d ns es (A3O a d ns es (uo hn) (uo he))
 ·exact h.2.elim
end Go.Proofs.YtjhjkfoabhplfaaGreat
