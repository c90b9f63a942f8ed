/- Greatest sets of labels of ports: the law. Conditions: none. -/
import Derived.Test.YtiehjihckndgkaaGreatL6
import Derived.Test.YtiehjihckndgkaaGreatSmC
import Derived.Test.YtiehjihckndgkaaGreatSmh
namespace Go.Proofs.YtiehjihckndgkaaGreat
open Go Dv
set_option linter.unusedSimpArgs false
set_option linter.unusedVariables false
set_option maxRecDepth 100000
theorem nO{r:List (List Int)}(h1:r.length≤40)(h2: ∀x∈r,x.length≤6):BB r∧Bl r≤240:=by
 refine⟨⟨by omega,fun x hx=>by have:=h2 x hx;omega⟩, ?_⟩
 have key: ∀l:List (List Int),(∀x∈l,x.length≤6)→Bl l≤6*l.length:=by
  intro l
  induction l with
  |nil=>intro _;simp [Bl]
  |cons x l ih=>
   intro hx;rw [KC];have:=ih fun y hy=>hx y (JY _ hy)
   have:=hx x KV
   simp only [Lt];omega
 have:=key _ h2
 omega
theorem xW(a d:Int)(ns es:List (List Int))(E:List (List (Int×Int)))(ids ins:List Int)(l:List (List Int))(hn:QN ns)(he:QN es)(hE:RI E)(hids:ids.length<9223372036854775808)(hins:ins.length<9223372036854775808)(hl:QN l):IU a d ns es E ids ins l=some true:=by
 unfold IU;rw [BJ hn,BJ he,BJ (by omega)]
 by_cases q1:ZC 1048576 ns es<0
 ·rw [if_pos q1]
 ·obtain⟨f1,sn,se,f2⟩:=yx (by omega) q1
  rw [if_neg q1,BJ hE,BJ hids,BJ hins,BJ (by omega)]
  by_cases q2:jm (ZC 1048576 ns es) E ids ins<0
  ·rw [if_pos q2]
  ·obtain⟨g1,sE,g2⟩:=zR (by omega) q2
   have tE:=CU (fE E);rw [if_neg q2,BJ hl,BJ (by omega)]
   by_cases q3:FW (jm (ZC 1048576 ns es) E ids ins) (l.length+Bl l)<0
   ·rw [if_pos q3]
   ·have t4:=CU l
    have hsz:(l.length:Int)+Bl l<1099511627776:=by
     rcases Fe (jm (ZC 1048576 ns es) E ids ins) (l.length+Bl l)with c|⟨c,c'⟩
     ·rw [c]at q3;simp at q3
     ·omega
    have sl:BB l:=U4 hsz;have t1:=CU ns;have t2:=CU es;have h1:ids.length<1099511627776:=by omega
    have h2:ins.length<1099511627776:=by omega
    obtain⟨r,ok,hS,hI,hr1,hr2⟩:=rJ a d ns es E ids ins l sn se sE h1 h2 sl;obtain⟨sr,hr⟩:=nO hr1 hr2;have t3:=CU r
    have hsz2:(l.length:Int)+Bl l≤1048576:=by
     rcases Fe (jm (ZC 1048576 ns es) E ids ins) (l.length+Bl l)with c|⟨c,c'⟩
     ·rw [c]at q3;simp at q3
     ·omega
    have hh:=XY r 1 sr (by omega)
    have c1:(0:Int)≤1∧1+Bl ns+Bl es<1099511627776:=by omega
    have c2:0≤1+Bl ns+Bl es∧1+Bl ns+Bl es+2*Bl (fE E)+ids.length+ins.length<1099511627776:=by omega
    have c3:0≤1+Bl ns+Bl es+2*Bl (fE E)+ids.length+ins.length∧1+Bl ns+Bl es+2*Bl (fE E)+ids.length+ins.length+Bl l<1099511627776:=by omega
    have c6: ¬1+Bl ns+Bl es+2*Bl (fE E)+ids.length+ins.length+Bl l<0:=by omega
    have c4:(0:Int)≤1∧(1:Int)+Bl r<1099511627776:=by omega
    have c5: ¬(1:Int)+Bl r<0:=by omega
    rw [if_neg q3,BJ sn,BJ se,BJ sE,BJ h1,BJ h2,BJ sl];simp only [hS,hI,DJ,BJ sr,decide_true,mJ,mX,if_true,BJ c1,BJ c2,BJ c3,if_neg c6,BJ c4,hh,if_neg c5]
    cases ok<;>rfl
theorem xX(ds:List D)(h:A37 Ae [24,28,22] ds):Y.call 3 ds []=some (.bool true,[]):=by
 rcases ds with _|⟨x,_|⟨y,_|⟨z,_|⟨_,_⟩⟩⟩⟩
 ·cases h
 ·exact h.2.elim
 ·exact h.2.2.elim
 ·obtain⟨a,d,ns,es,rfl,_,_,hn,he⟩:=lW A4J ty3 yu uw ty3 h.1;obtain⟨E,ids,ins,rfl,hE,hids,hins⟩:=mE A4L A4K A4M vE ty3 uw h.2.1;obtain⟨l,rfl,hl⟩:=uV yu uw ty3 h.2.2.1;exact Ou a d ns es E ids ins l (xW a d ns es E ids ins l (bz hn) (bz he) (wG hE) (kC hids.1 (by decide)) (kC hins.1 (by decide)) (bz hl))
 ·exact h.2.2.2.elim
end Go.Proofs.YtiehjihckndgkaaGreat
