/- Texts of problems read: the law. Conditions: none. -/
import Derived.Test.YtaogbcdlpgfplaaDoorL6
import Derived.Test.YtaogbcdlpgfplaaDoorPpC
import Derived.Test.YtaogbcdlpgfplaaDoorPpr
namespace Go.Proofs.YtaogbcdlpgfplaaDoor
open Go Dv
set_option linter.unusedSimpArgs false
set_option linter.unusedVariables false
set_option maxRecDepth 100000
theorem P5: ∀(l:List (List Int)),(∀x∈l,x.length≤8)→GU l≤8*l.length
 | [],_=>by rw [ML];simp
 |x::l,h=>by
  have h1:=P5 l fun y hy=>h y (List.mem_cons_of_mem _ hy)
  have h2:=h x List.mem_cons_self
  rw [JZ,List.length_cons];omega
theorem aA: ∀L:List (List UInt8),L.length≤((L.map (· ++[10])).flatten).length
 | []=>by simp
 |x::L=>by
  have:=aA L
  rw [List.map_cons,List.flatten_cons,List.length_append,List.length_append,List.length_cons,List.length_cons,List.length_nil];omega
theorem Xm{a d:Int}{ns es:List (List Int)}{l:List UInt8}(hl:l.length≤1048576)(hp:DZ a d ns es=true)(ht:M5 a d ns es=l):
  BV ns∧BV es∧GU ns≤8388608∧GU es≤8388608:=by
 have hg:=aA (Cg a d ns es)
 have e:((Cg a d ns es).map (· ++[10])).flatten=l:=ht
 rw [e]at hg
 have hlen:(Cg a d ns es).length=ns.length+es.length+1:=by unfold Cg;simp
 obtain⟨_,_,cn,ce⟩:=NJ hp (by omega) (by omega)
 have t1:=P5 ns fun x hx=>(cn.row x hx).2
 have t2:=P5 es fun x hx=>(ce.row x hx).2
 exact⟨Tg (by omega),Tg (by omega),by omega,by omega⟩
theorem ZT(t:ByteArray):EG t=some true:=by
 unfold EG
 by_cases h:1048576<(t.size:Int)
 ·rw [if_pos h]
 ·rw [if_neg h]
  have hs:(BL t).length≤1048576:=by rw [←Zt];omega
  obtain⟨a,d,ns,es,ok,hI,hS,hx⟩:=ZR (BL t) hs
  rw [Zr]at hI hS
  have hb:BV ns∧BV es∧GU ns≤8388608∧GU es≤8388608:=by
   rcases hx with⟨_,rfl,rfl⟩|⟨_,hp,ht⟩
   ·exact⟨BV.nil,BV.nil,by rw [ML];decide,by rw [ML];decide⟩
   ·exact Xm hs hp ht
  obtain⟨hN,hE,t1,t2⟩:=hb
  have p1:=EX ns
  have p2:=EX es
  have hh:=Ot a d ns es 1 hN hE (by omega)
  have g4:(0:Int)≤1∧1+GU ns+GU es<1099511627776:=by omega
  have g5: ¬1+GU ns+GU es<0:=by omega
  simp only [hS,hI,Option.bind_some,Cn hN,Cn hE,Z6,if_true,Cn g4,hh,if_neg g5]
  cases ok<;>rfl
theorem ZU(ds:List D)(h:qX Ak [9] ds):Y.call 6 ds []=some (.bool true,[]):=by
 rcases ds with _|⟨x,_|⟨_,_⟩⟩
 ·cases h
 ·obtain⟨b,rfl,_⟩:=uk ty9 h.1
  exact Jd b (ZT b)
 ·exact h.2.elim
end Go.Proofs.YtaogbcdlpgfplaaDoor
