/- Connected twins: program and reference agree. Conditions: those in each lemma. -/
import Derived.Test.YtipfckompmhljaaL6
import Derived.Test.YtipfckompmhljaaTwv
import Derived.Test.YtipfckompmhljaaTwu
import Derived.Test.YtipfckompmhljaaTwf
namespace Go.Proofs.Ytipfckompmhljaa
open Go Dv
set_option linter.unusedSimpArgs false
set_option linter.unusedVariables false
set_option maxRecDepth 100000
theorem lM{E B:List (List (Int×Int))}(h:Shp E B)(hn:E.length≤20)(hd: ∀v,v<E.length→(E.getD v default).length≤6):BU B∧CW (fE B)≤240:=by
 have h1: ∀x∈B,x.length≤6:=by
  intro x hx;obtain⟨k,hk,rfl⟩:=List.getElem_of_mem hx;have hk2:k<2*E.length:=by rw [←h.len];exact hk
  have:=h.row k hk2
  rw [List.getD_eq_getElem?_getD,List.getElem?_eq_getElem hk,Option.getD_some]at this;rw [this];exact hd _ (by omega)
 have h2:B.length≤40:=by rw [h.len];omega
 refine⟨⟨by omega,fun x hx=>by have:=h1 x hx;omega⟩, ?_⟩
 have key: ∀l:List (List (Int×Int)),(∀x∈l,x.length≤6)→CW (fE l)≤6*l.length:=by
  intro l
  induction l with
  | nil=>intro _;simp [fE,CW]
  | cons x l ih=>
   intro hx;rw [Qb];have:=ih fun y hy=>hx y (List.mem_cons_of_mem _ hy)
   have:=hx x List.mem_cons_self
   simp only [List.length_cons];omega
 have:=key _ h1
 omega
theorem lN(E:List (List (Int×Int)))(ids ins:List Int)(sE:BU E)(h1:ids.length<1000000*1000)(h2:ins.length<1000000*1000):
  ∃E' ids' ins' b ok,GZ E ids ins=some (E',ids',ins',b,ok)∧GX E ids ins=some (E',ids',ins',b,ok)∧
   BU E'∧CW (fE E')≤240∧ids'.length≤40∧ins'.length≤40∧b.length≤40:=by
 have e0:BU []∧CW (fE [])≤240:=by unfold BU;simp [fE,CW]
 have none_: ∀o:Option (List (List (Int×Int))×List Int×List Int×List Int×Bool),o=some ([],[],[],[],false)→
   ∃E' ids' ins' b ok,some ([],[],[],[],false)=some (E',ids',ins',b,ok)∧o=some (E',ids',ins',b,ok)∧BU E'∧CW (fE E')≤240∧ids'.length≤40∧ins'.length≤40∧b.length≤40:=
  fun o ho=>⟨[],[],[],[],false,rfl,ho,e0.1,e0.2,by simp,by simp,by simp⟩
 unfold GZ GX;rw [BM sE,BM (by omega),BM (by omega),BM sE,BM (by omega),BM (by omega)]
 by_cases h:Bj E ids ins=true
 ·obtain⟨p1,p2,p3,_⟩:=Dj h;rw [if_pos h,if_pos h,rT h,rU h,Option.bind_some,Option.bind_some]
  cases hc:Qh E with
  | false=>exact none_ _ rfl
  | true=>
   have hl:=NM E p3 E.length (by omega)
   have hsl:=Om E (BJ E 0) E.length
   have hok: ∀x∈F9 E E.length,(0≤x.1∧x.1.toNat<(E5 E (BJ E 0) E.length).length)∧0≤x.2.2.1∧x.2.2.1.toNat<(E5 E (BJ E 0) E.length).length:=fun x hx=>by
    obtain⟨v,i,w,j,rfl,hv,hw,_,_⟩:=XM h x hx;simp only [hsl];omega
   have hX:=bu h hc;have hps:=iB E ids ins (E5 E (BJ E 0) E.length) true (F9 E E.length) (by omega) hok
   have hss:=iC (E5 E (BJ E 0) E.length) (F9 E E.length) (by omega) hok
   have hT:Mj E ids ins=some (Nh (E5 E (BJ E 0) E.length) (F9 E E.length) (F9 E E.length).length,(F9 E E.length).any fun x=> !G7 (E5 E (BJ E 0) E.length) x):=by
    unfold Mj;rw [l9 h,Option.bind_some,VY E ids ins p1 p3,Option.bind_some,hss];rfl
   simp only [if_true];rw [bq h hc,hX,hT,Option.bind_some,Option.bind_some]
   cases hXX:(F9 E E.length).any fun x=> !G7 (E5 E (BJ E 0) E.length) x with
   | false=>exact none_ _ rfl
   | true=>
    simp only [Bool.not_true,if_true,Bool.false_eq_true,if_false];obtain⟨q1,q2⟩:=ry (E5 E (BJ E 0) E.length) (F9 E E.length);rw [lC h sE (by omega) (by omega),Option.bind_some,VU E ids ins p1 p3,Option.bind_some,hps,Option.bind_some]
    have ew:IntKind.i64.wrap (2*(E.length:Int))=2*(E.length:Int):=Ir _ (by omega)
    by_cases c:40<2*(E.length:Int)
    ·rw [ew,if_pos c]
     have:LW E ids ins 2 (Nh (E5 E (BJ E 0) E.length) (F9 E E.length) (F9 E E.length).length)=some ([],[],[],false):=by
      unfold LW;rw [BM sE,BM (by omega),BM (by omega),if_pos h,if_pos (by decide),ew,if_pos c]
     rw [this];exact none_ _ rfl
    ·have hn:E.length≤20:=by omega
     have hsh:=rz h (Nh (E5 E (BJ E 0) E.length) (F9 E E.length) (F9 E E.length).length) q2;obtain⟨t1,t2⟩:=lM hsh hn p3;rw [ew,if_neg c,iH E ids ins _ hn,Option.bind_some,lL h hn _ q1 q2,Option.bind_some,lK h sE (by omega) (by omega) hn _ q1 q2 t1,Option.bind_some]
     simp only [if_true];rw [iI _ (2*E.length) hsh.len (by omega)]
     refine⟨_,_,_,_,_,rfl,rfl,t1,t2,by simp, ?_, ?_⟩
     ·rw [OZ];omega
     ·rw [Ra];omega
 ·rw [if_neg h,if_neg h];exact none_ _ rfl
end Go.Proofs.Ytipfckompmhljaa
