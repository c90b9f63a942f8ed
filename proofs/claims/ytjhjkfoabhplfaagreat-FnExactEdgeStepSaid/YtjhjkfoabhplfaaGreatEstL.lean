/- The edge step: the law. Conditions: none. -/
import Derived.Test.YtjhjkfoabhplfaaGreatL6
import Derived.Test.YtjhjkfoabhplfaaGreatEstC
namespace Go.Proofs.YtjhjkfoabhplfaaGreat
open Go Dv
set_option linter.unusedSimpArgs false
set_option linter.unusedVariables false
set_option maxRecDepth 100000
theorem xy(a d:Int)(ns es:List (List Int))(hn:Q8 ns)(he:Q8 es):HV a d ns es=some true:=by
 unfold HV;rw [Az hn,Az he,Az (by omega)]
 by_cases q1:vQ 1048576 ns es<0
 ·rw [if_pos q1]
 ·obtain⟨f1,sn,se,f2⟩:=xS (by omega) q1
  have t1:=CZ ns;have t2:=CZ es;have g1:(0:Int)≤1∧(1:Int)+Ab ns+Ab es<1099511627776:=by omega
  have g2: ¬(1:Int)+Ab ns+Ab es<0:=by omega
  rw [if_neg q1,Az sn,Az se];obtain⟨hI,hN,hE,l1,l2,l3,l4,l5⟩:=kZ a d ns es sn se;have hS:=xx a d ns es sn se;generalize A8 a d ns es=q at hI hN hE l1 l2 l3 l4 l5 hS ⊢;obtain⟨L,e,N,E,left,ok⟩:=q;simp only at hN hE l1 l2 l3 l4 l5;have t3:=CZ N;have t4:=CZ E;have h1:(0:Int)≤1∧(1:Int)+Ab N+Ab E<1099511627776:=by omega
  have h3:0≤(1:Int)+Ab N+Ab E∧(1:Int)+Ab N+Ab E<1099511627776:=by omega
  have h4:=SV L e N E 1 hN hE (by omega)
  have h5: ¬(1:Int)+Ab N+Ab E<0:=by omega
  have h6:(upto ((1:Int)+Ab N+Ab E) left.length).length<1099511627776:=by rw [Kc];omega
  have h7:0≤(1:Int)+Ab N+Ab E∧(1:Int)+Ab N+Ab E+((upto ((1:Int)+Ab N+Ab E) left.length).length:Int)<1099511627776:=by rw [Kc];omega
  have h8:F6 ((1:Int)+Ab N+Ab E) (upto ((1:Int)+Ab N+Ab E) left.length)=(1:Int)+Ab N+Ab E+left.length:=Xp _ _;have h9: ¬(1:Int)+Ab N+Ab E+left.length<0:=by omega
  have hl:left.length<1099511627776:=by omega
  rcases hS with hS | ⟨hS,_⟩<;>
   simp only [hS,Option.bind_some,Az hN,Az hE,jK,if_true,Az hl,decide_true,Az g1,if_neg g2,Az h1,Az h3,h4,if_neg h5,Az h6,Az h7,h8,if_neg h9,↓reduceIte,ite_self]<;>cases ok<;>rfl
theorem xz(ds:List D)(h:A0s AV [24] ds):Y.call 3 ds []=some (.bool true,[]):=by
 rcases ds with _ | ⟨x,_ | ⟨_,_⟩⟩
 ·cases h
 ·obtain⟨a,d,ns,es,rfl,_,_,hn,he⟩:=iP A2l ty3 A2k A2m ty3 h.1;exact OE a d ns es (xy a d ns es (kP hn) (kP he))
 ·exact h.2.elim
end Go.Proofs.YtjhjkfoabhplfaaGreat
