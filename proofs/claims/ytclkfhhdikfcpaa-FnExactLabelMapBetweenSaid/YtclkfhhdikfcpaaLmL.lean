/- Label maps between problems: the law. Conditions: none. -/
import Derived.Test.YtclkfhhdikfcpaaL6
import Derived.Test.YtclkfhhdikfcpaaLmC
import Derived.Test.YtclkfhhdikfcpaaLmb
namespace Go.Proofs.Ytclkfhhdikfcpaa
open Go Dv
set_option linter.unusedSimpArgs false
set_option linter.unusedVariables false
set_option maxRecDepth 100000
theorem jq(a d:Int)(ns es:List (List Int))(a' d':Int)(ms fs:List (List Int))(hn:M0 ns)(he:M0 es)(hm:M0 ms)(hf:M0 fs):E5 a d ns es a' d' ms fs=some true:=by
 unfold E5;rw [CU hn,CU he,CU (by omega)]
 by_cases q1:WE 1048576 ns es<0
 ·rw [if_pos q1]
 ·obtain⟨f1,sn,se,f2⟩:=aR (by omega) q1
  rw [if_neg q1,CU hm,CU hf,CU (by omega)]
  by_cases q2:WE (WE 1048576 ns es) ms fs<0
  ·rw [if_pos q2]
  ·obtain⟨f3,sm,sf,f4⟩:=aR (by omega) q2
   have t1:=Cv ns;have t2:=Cv es;have t3:=Cv ms;have t4:=Cv fs;obtain⟨r,ok,hS,hI,hr⟩:=dW a d ns es a' d' ms fs sn se sm sf (by have:=Cv ns;have:=Cv es;omega)
   have g1:(0:Int)≤1∧1+CF ns+CF es<1099511627776:=by omega
   have g2:0≤1+CF ns+CF es∧1+CF ns+CF es+CF ms+CF fs<1099511627776:=by omega
   have g3: ¬1+CF ns+CF es+CF ms+CF fs<0:=by omega
   have g4:(0:Int)≤1∧(1:Int)<1099511627776:=by omega
   have g5:(0:Int)≤1∧(1:Int)+(r.length:Int)<1099511627776:=by omega
   have g6: ¬(1:Int)+(r.length:Int)<0:=by omega
   have g7:r.length<1099511627776:=by omega
   rw [if_neg q2,CU sn,CU se,CU sm,CU sf];rcases hS with hS|hS
   ·simp only [hS,hI,Ee,CU g7,decide_true,TA,if_true,CU g1,CU g2,if_neg g3,CU g4,LX,CU g5,Uw,if_neg g6]
    cases ok<;>rfl
   ·simp only [hS,hI,Ee,CU g7,decide_true,TA,if_true,CU g1,CU g2,if_neg g3,CU g4,LX,CU g5,Uw,if_neg g6]
    cases ok<;>rfl
theorem jr(ds:List D)(h:wL Aa [24,24] ds):Y.call 3 ds []=some (.bool true,[]):=by
 rcases ds with _|⟨x,_|⟨y,_|⟨_,_⟩⟩⟩
 ·cases h
 ·exact h.2.elim
 ·obtain⟨a,d,ns,es,rfl,_,_,hn,he⟩:=Sk lU zw lT lV zw h.1;obtain⟨a',d',ms,fs,rfl,_,_,hm,hf⟩:=Sk lU zw lT lV zw h.2.1;exact Jd a d ns es a' d' ms fs (jq a d ns es a' d' ms fs (RN hn) (RN he) (RN hm) (RN hf))
 ·exact h.2.2.elim
end Go.Proofs.Ytclkfhhdikfcpaa
