/- Networks of the nodes near a node: the law. Conditions: none. -/
import Derived.Test.YtipfckompmhljaaL6
import Derived.Test.YtipfckompmhljaaKbC
import Derived.Test.YtipfckompmhljaaBam
namespace Go.Proofs.Ytipfckompmhljaa
open Go Dv
set_option linter.unusedSimpArgs false
set_option linter.unusedVariables false
set_option maxRecDepth 100000
theorem dK(E:List (List (Int×Int)))(K:List Int)(hr: ∀k,k<K.length→(E.getD (kn K k) default).length≤6)(hl:K.length≤40):BX (Gp E K K.length)∧BK (fE (Gp E K K.length))≤240:=by
 have h1: ∀x∈Gp E K K.length,x.length≤6:=by
  intro x hx
  obtain⟨k,hk,rfl⟩:=List.mem_map.1 hx
  exact Nat.le_trans (Zc _ _ _ _) (hr k (List.mem_range.1 hk))
 have h2:(Gp E K K.length).length≤40:=by rw [Gp,GX];exact hl
 refine⟨⟨by omega,fun x hx=>by have:=h1 x hx;omega⟩, ?_⟩
 have key: ∀l:List (List (Int×Int)),(∀x∈l,x.length≤6)→BK (fE l)≤6*l.length:=by
  intro l
  induction l with
  | nil=>intro _;simp [fE,BK]
  | cons x l ih=>
   intro hx
   rw [PQ]
   have:=ih fun y hy=>hx y (List.mem_cons_of_mem _ hy)
   have:=hx x List.mem_cons_self
   simp only [List.length_cons];omega
 have:=key _ h1
 omega
theorem rW(E:List (List (Int×Int)))(ids ins:List Int)(v t:Int)(sE:BX E)(h1:ids.length<1000000*1000)(h2:ins.length<1000000*1000):
  ∃E' ids' ins' b ok,(J5 E ids ins v t=some (.inl (E',ids',ins',b,ok))∨J5 E ids ins v t=some (.inr (E',ids',ins',b,ok)))∧J3 E ids ins v t=some (E',ids',ins',b,ok)∧
   BX E'∧BK (fE E')≤240∧ids'.length≤40∧ins'.length≤40∧b.length≤40:=by
 have e0:BX []∧BK (fE [])≤240:=by unfold BX;simp [fE,BK]
 unfold J5 J3 PN PL
 rw [BL sE,BL (by omega),BL (by omega),BL sE,BL (by omega),BL (by omega)]
 by_cases h:Eg E ids ins=true
 ·have hn:=(D9 h).1
  have hp:=(D9 h).2.1
  rw [if_pos h,if_pos h,LP _ (by omega)]
  unfold DU
  rw [LP _ (by omega)]
  simp only [Option.bind_some]
  by_cases c:Gq v 0 ((E.length:Int)-1)=true
  ·rw [if_pos c,if_pos c]
   by_cases c2:Gq t 0 40=true
   ·rw [if_pos c2,if_pos c2]
    have c:=Jv.1 c
    have c2:=Jv.1 c2
    obtain⟨m,rfl⟩: ∃m:Nat,v=(m:Int):=⟨v.toNat,by omega⟩
    obtain⟨r,rfl⟩: ∃r:Nat,t=(r:Int):=⟨t.toNat,by omega⟩
    have hm:m<E.length:=by omega
    have hF:=Ve h m hm
    have hb:=Tt (MS h) hm hF r
    have hK:NodesK E (PU (Qe E m) r):=⟨hb.inc,Zf h hm hb⟩
    have hl:(PU (Qe E m) r).length≤40:=Nat.le_trans (MR hb.inc fun x hx=>by have:=hK.rng x hx;omega) hn
    have hins:=Tv h
    have hids:=Xm h
    rw [iW h m hm r (by omega),Option.bind_some,iw h hK (by omega) (by omega) hl,iR h m hm,Option.bind_some,Option.bind_some,iX _ r (by rw [hF.len];omega),Option.bind_some]
    simp only [Option.bind_some,if_true]
    rw [ik h hK hl]
    have hs:=dK E (PU (Qe E m) r) (fun k hk=>(D9 h).2.2.1 _ (hK.kth hk).2.1) hl
    refine⟨_,_,_,_,_, .inl rfl,rfl,hs.1,hs.2, ?_, ?_,hl⟩
    ·unfold Ei;split
     ·rw [GX];exact hl
     ·simp
    ·unfold Ij;rw [GX];exact hl
   ·rw [if_neg c2,if_neg c2];exact⟨_,_,_,_,_, .inr rfl,rfl,e0.1,e0.2,by simp,by simp,by simp⟩
  ·rw [if_neg c,if_neg c];exact⟨_,_,_,_,_, .inr rfl,rfl,e0.1,e0.2,by simp,by simp,by simp⟩
 ·rw [if_neg h,if_neg h];exact⟨_,_,_,_,_, .inr rfl,rfl,e0.1,e0.2,by simp,by simp,by simp⟩
theorem A2n(E:List (List (Int×Int)))(ids ins:List Int)(v t:Int)(hE:Nr E)(hids:ids.length<9223372036854775808)(hins:ins.length<9223372036854775808):GV E ids ins v t=some true:=by
 unfold GV
 rw [BL hE,BL hids,BL hins,BL (by omega)]
 by_cases q1:oq 1048576 E ids ins<0
 ·rw [if_pos q1]
 ·obtain⟨g1,sE,g2⟩:=rD (by omega) q1
  have tE:=Dw (fE E)
  have h1:ids.length<1099511627776:=by omega
  have h2:ins.length<1099511627776:=by omega
  obtain⟨E',ids',ins',b,ok,hS,hI,sE',t1,t2,t3,t4⟩:=rW E ids ins v t sE (by omega) (by omega)
  have tE':=Dw (fE E')
  have hh:=QA E' ids' ins' 1 sE' (by omega) (by omega) (by omega)
  have c0:b.length<1099511627776:=by omega
  have c1:ids'.length<1099511627776:=by omega
  have c2:ins'.length<1099511627776:=by omega
  have c3:(0:Int)≤1∧(1:Int)+2*BK (fE E)+ids.length+ins.length<1099511627776:=by omega
  have c4: ¬(1:Int)+2*BK (fE E)+ids.length+ins.length<0:=by omega
  have c5:(0:Int)≤1∧(1:Int)+2*BK (fE E')+ids'.length+ins'.length<1099511627776:=by omega
  have c6: ¬(1:Int)+2*BK (fE E')+ids'.length+ins'.length<0:=by omega
  have c7:0≤(1:Int)+2*BK (fE E')+ids'.length+ins'.length∧(1:Int)+2*BK (fE E')+ids'.length+ins'.length+b.length<1099511627776:=by omega
  have c9:0≤(1:Int)+2*BK (fE E')+ids'.length+ins'.length∧(1:Int)+2*BK (fE E')+ids'.length+ins'.length<1099511627776:=by omega
  have c8: ¬(1:Int)+2*BK (fE E')+ids'.length+ins'.length+b.length<0:=by omega
  rw [if_neg q1,BL sE,BL h1,BL h2]
  rcases hS with hS | hS
  ·simp only [hS,hI,Option.bind_some,BL sE',BL c0,BL c1,BL c2,TG,decide_true,if_true,BL c3,if_neg c4,BL c5,BL c7,BL c9,hh,JZ,NY,if_neg c6,if_neg c8]
   cases ok<;>rfl
  ·simp only [hS,hI,Option.bind_some,BL sE',BL c0,BL c1,BL c2,TG,decide_true,if_true,BL c3,if_neg c4,BL c5,BL c7,BL c9,hh,JZ,NY,if_neg c6,if_neg c8]
   cases ok<;>rfl
theorem A2o(ds:List D)(h:ze AX [25,3,3] ds):Y.call 4 ds []=some (.bool true,[]):=by
 rcases ds with _ | ⟨x,_ | ⟨y,_ | ⟨z,_ | ⟨_,_⟩⟩⟩⟩
 ·cases h
 ·exact h.2.elim
 ·exact h.2.2.elim
 ·obtain⟨E,ids,ins,rfl,hE,hids,hins⟩:=bg A1d A1Z A1e mE ty3 A1a h.1
  obtain⟨v,rfl,_⟩:=lC ty3 h.2.1
  obtain⟨t,rfl,_⟩:=lC ty3 h.2.2.1
  exact MQ E ids ins v t (A2n E ids ins v t (mo hE) (Nat.lt_of_le_of_lt hids.1 (by decide)) (Nat.lt_of_le_of_lt hins.1 (by decide)))
 ·exact h.2.2.2.elim
end Go.Proofs.Ytipfckompmhljaa
