/- Lifts: the edges of a lift as they are laid. Conditions: those in each lemma. -/
import Derived.Test.YtipfckompmhljaaL6
import Derived.Test.YtipfckompmhljaaTwl
namespace Go.Proofs.Ytipfckompmhljaa
open Go Dv
set_option linter.unusedSimpArgs false
set_option linter.unusedVariables false
set_option maxRecDepth 100000
def ZF(B:List (List (Int×Int)))(x p:Nat)(e:Int×Int):List (List (Int×Int)):=B.set x ((B.getD x default).set p e)
def rV(B:List (List (Int×Int)))(x y p q:Nat):List (List (Int×Int)):=ZF (ZF B x p ((y:Int),(q:Int))) y q ((x:Int),(p:Int))
structure Shp(E B:List (List (Int×Int))):Prop where
 len:B.length=2*E.length
 row: ∀x,x<2*E.length→(B.getD x default).length=(E.getD (x / 2) default).length
theorem bv(B:List (List (Int×Int)))(x p:Nat)(e:Int×Int)(hx:x<B.length)(y:Nat):(ZF B x p e).getD y default=if x=y then(B.getD x default).set p e else B.getD y default:=by
 unfold ZF;rw [List.getD_eq_getElem?_getD,List.getElem?_set];by_cases c:x=y
 ·subst c;rw [if_pos rfl,if_pos rfl,if_pos hx];rfl
 ·rw [if_neg c,if_neg c,List.getD_eq_getElem?_getD]
theorem Shp.put{E B:List (List (Int×Int))}(h:Shp E B)(x p:Nat)(e:Int×Int)(hx:x<2*E.length):Shp E (ZF B x p e):=by
 refine⟨by unfold ZF;rw [List.length_set,h.len],fun y hy=> ?_⟩
 rw [bv B x p e (by rw [h.len];exact hx)]
 by_cases c:x=y
 ·subst c;rw [if_pos rfl,List.length_set,h.row x hx]
 ·rw [if_neg c,h.row y hy]
def KY(B:List (List (Int×Int)))(pk:List Int)(v i w j:Nat):Nat→List (List (Int×Int))
 | 0=>B
 | t+1=>rV (KY B pk v i w j t) (2*v+t) (2*w+(pk.getD t default).toNat) i j
def bz(pk:List Int):Prop:=pk=[0,1]∨pk=[1,0]
theorem VZ{pk:List Int}(h:bz pk)(t:Nat)(ht:t<2):pk.length=2∧ ∃c:Nat,pk.getD t default=(c:Int)∧c<2∧pk.getD c default=(t:Int):=by
 rcases h with rfl | rfl<;>(refine⟨rfl, ?_⟩;rcases t with _ | _ | t)
 ·exact⟨0,rfl,by omega,rfl⟩
 ·exact⟨1,rfl,by omega,rfl⟩
 ·omega
 ·exact⟨1,rfl,by omega,rfl⟩
 ·exact⟨0,rfl,by omega,rfl⟩
 ·omega
theorem Ql{E B:List (List (Int×Int))}(h:Shp E B){pk:List Int}(hp:bz pk){v i w j:Nat}(hv:v<E.length)(hw:w<E.length): ∀t,t≤2→Shp E (KY B pk v i w j t)
 | 0,_=>h
 | t+1,ht=>by
  have ih:=Ql h hp (i:=i) (j:=j) hv hw t (by omega)
  obtain⟨_,c,hc,hc2,_⟩:=VZ hp t (by omega)
  unfold KY rV;rw [hc,Int.toNat_natCast]
  exact(ih.put _ _ _ (by omega)).put _ _ _ (by omega)
theorem rW{E B:List (List (Int×Int))}(hB:Shp E B)(hn:E.length≤20)(P:List (List Int))(L:List Ed)(r13:List (List (Int×Int))×List Int)(k v i w j:Nat)(hL:L.getD k default=((v:Int),(i:Int),(w:Int),(j:Int)))(hp:bz (P.getD k default))
  (hv:v<E.length)(hw:w<E.length)(hi:i<(E.getD v default).length)(hj:j<(E.getD w default).length):
  KQ 2 P L r13 (k:Int) (B,0)=some (.inr (KY B (P.getD k default) v i w j 2)):=by
 unfold KQ;have key:=Bb (fun x=>H6 2 P L r13 (k:Int) x.1 x.2) (fun t=>(KY B (P.getD k default) v i w j t,(t:Int))) 2 (.inr (KY B (P.getD k default) v i w j 2)) ?_ ?_
 ·exact key
 ·intro t ht;obtain⟨hpl,c,hc,hc2,hct⟩:=VZ hp t ht;have hS:=Ql hB hp (i:=i) (j:=j) hv hw t (by omega)
  have e1:=at2 v t (by omega) ht
  have e2:=at2 w c (by omega) hc2
  have hl:=hS.len;have hr:=hS.row (2*v+t) (by omega)
  rw [show(2*v+t) / 2=v by omega]at hr
  have hS2:=hS.put (2*v+t) i (((2*w+c:Nat):Int),(j:Int)) (by omega)
  have hr2:=hS2.row (2*w+c) (by omega)
  rw [show(2*w+c) / 2=w by omega]at hr2
  unfold ZF at hr2;obtain⟨b,hb⟩: ∃b,G6 (v:Int) (i:Int) (w:Int) (j:Int)=some b:=by unfold G6;split<;>exact⟨_,rfl⟩
  simp only [H6,Int.toNat_natCast,NT,R6,Oq,R7,hL,hc,hct,e1,e2];rw [if_pos (by omega),hb,Option.bind_some]
  have fin:(some (Sum.inl (KY B (P.getD k default) v i w j (t+1),((t+1:Nat):Int))):Option ((List (List (Int×Int))×Int)⊕(Unit⊕List (List (Int×Int)))))=some (Sum.inl (rV (KY B (P.getD k default) v i w j t) (2*v+t) (2*w+c) i j,((t+1:Nat):Int))):=by
   show some (Sum.inl (rV (KY B (P.getD k default) v i w j t) (2*v+t) (2*w+((P.getD k default).getD t default).toNat) i j,((t+1:Nat):Int)))=_
   rw [hc,Int.toNat_natCast]
  rw [fin,Je t (by omega)]
  cases b with
  | true=>rw [if_pos rfl,BM (by omega),BM (by omega),if_pos trivial,BM (by omega),BM (by omega),BM (by omega),BM (by omega)];rfl
  | false=>rw [if_neg (by decide),BM (by omega),BM (by omega),BM (by omega),BM (by omega),BM (by omega)];rfl
 ·simp only [H6];rw [if_neg (by omega)]
theorem rX{E B:List (List (Int×Int))}(hB:Shp E B)(hn:E.length≤20)(P:List (List Int))(L:List Ed)(r1:List (List (Int×Int))×List Int×List Int)(r3:List (List (Int×Int))×List Int)(k v i w j:Nat)(hk:k<L.length)(hL:L.getD k default=((v:Int),(i:Int),(w:Int),(j:Int)))(hp:bz (P.getD k default))
  (hv:v<E.length)(hw:w<E.length)(hi:i<(E.getD v default).length)(hj:j<(E.getD w default).length):
  KV 2 P r1 r3 (L.map bi) (k:Int) (B,0)=some (KY B (P.getD k default) v i w j 2):=by
 unfold KV
 have hm:(L.map bi).getD k default=[(v:Int),(i:Int),(w:Int),(j:Int)]:=by
  rw [Av _ _ (by rw [List.length_map];exact hk),List.getElem_map,←Av L k hk,hL];rfl
 have g0: ∀a b c d:Int,[a,b,c,d].getD 0 default=a:=fun _ _ _ _=>rfl;have g1: ∀a b c d:Int,[a,b,c,d].getD 1 default=b:=fun _ _ _ _=>rfl;have g2: ∀a b c d:Int,[a,b,c,d].getD 2 default=c:=fun _ _ _ _=>rfl;have g3: ∀a b c d:Int,[a,b,c,d].getD 3 default=d:=fun _ _ _ _=>rfl;have key:=Bb (fun x=>Hd 2 P r1 r3 (L.map bi) (k:Int) x.1 x.2) (fun t=>(KY B (P.getD k default) v i w j t,(t:Int))) 2 (KY B (P.getD k default) v i w j 2) ?_ ?_
 ·exact key
 ·intro t ht;obtain⟨hpl,c,hc,hc2,hct⟩:=VZ hp t ht;have hS:=Ql hB hp (i:=i) (j:=j) hv hw t (by omega)
  have e1:=at2 v t (by omega) ht
  have e2:=at2 w c (by omega) hc2
  have hl:=hS.len;have hr:=hS.row (2*v+t) (by omega)
  rw [show(2*v+t) / 2=v by omega]at hr
  have hS2:=hS.put (2*v+t) i (((2*w+c:Nat):Int),(j:Int)) (by omega)
  have hr2:=hS2.row (2*w+c) (by omega)
  rw [show(2*w+c) / 2=w by omega]at hr2
  unfold ZF at hr2;simp only [Hd,Int.toNat_natCast,hm,g0,g1,g2,g3,hc,e1,e2,List.length_cons,List.length_nil]
  have fin:(some (Sum.inl (KY B (P.getD k default) v i w j (t+1),((t+1:Nat):Int))):Option ((List (List (Int×Int))×Int)⊕(List (List (Int×Int)))))=some (Sum.inl (rV (KY B (P.getD k default) v i w j t) (2*v+t) (2*w+c) i j,((t+1:Nat):Int))):=by
   show some (Sum.inl (rV (KY B (P.getD k default) v i w j t) (2*v+t) (2*w+((P.getD k default).getD t default).toNat) i j,((t+1:Nat):Int)))=_
   rw [hc,Int.toNat_natCast]
  rw [if_pos (by omega),fin,Je t (by omega),BM (by omega),BM (by rw [List.length_map];exact hk),BM (by omega),BM (by omega),BM (by omega),BM (by omega),BM (by omega),BM (by omega),BM (by omega),BM (by omega)];rfl
 ·have hpl:=(VZ hp 0 (by omega)).1
  simp only [Hd,Int.toNat_natCast];rw [if_neg (by omega)]
end Go.Proofs.Ytipfckompmhljaa
