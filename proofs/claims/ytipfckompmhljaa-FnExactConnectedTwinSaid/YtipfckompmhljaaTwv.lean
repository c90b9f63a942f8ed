/- Lifts and node maps of twins: program and reference agree. Conditions: those in each lemma. -/
import Derived.Test.YtipfckompmhljaaL6
import Derived.Test.YtipfckompmhljaaTws
namespace Go.Proofs.Ytipfckompmhljaa
open Go Dv
set_option linter.unusedSimpArgs false
set_option linter.unusedVariables false
set_option maxRecDepth 100000
theorem ry(span:List Int)(L:List Ed):(Nh span L L.length).length=L.length∧ ∀k,k<L.length→bz ((Nh span L L.length).getD k default):=by
 refine⟨OY span L _,fun k hk=> ?_⟩
 rw [Av _ _ (by rw [OY];exact hk)]
 have:(Nh span L L.length)[k]'(by rw [OY];exact hk)=prm span L k:=by simp [Nh]
 rw [this];unfold prm bz;split
 ·exact .inl rfl
 ·exact .inr rfl
def SF(E:List (List (Int×Int)))(P:List (List Int)):List (List (Int×Int)):=Mm (F9 E E.length) P (Ml E (2*E.length)) (F9 E E.length).length
theorem lK{E:List (List (Int×Int))}{ids ins:List Int}(h:Bj E ids ins=true)(hE:BU E)(h1:ids.length<1099511627776)(h2:ins.length<1099511627776)(hn:E.length≤20)(P:List (List Int))(hPl:P.length=(F9 E E.length).length)(hP: ∀k,k<(F9 E E.length).length→bz (P.getD k default))
  (hT:BU (SF E P)):LW E ids ins 2 P=some (SF E P,[],Le ins (2*E.length),true):=by
 obtain⟨p1,p2,p3,_⟩:=Dj h;have hl:=NM E p3 E.length (by omega)
 have hi:ins.length=E.length:=by
  have h':=h;unfold Bj at h';simp only [Bool.and_eq_true,decide_eq_true_eq]at h';omega
 have ew:IntKind.i64.wrap (2*(E.length:Int))=2*(E.length:Int):=Ir _ (by omega)
 have et:(2*(E.length:Int)).toNat=2*E.length:=by omega
 unfold LW;rw [BM hE,BM h1,BM h2,if_pos h,if_pos (by decide)]
 simp only [ew,et]
 rw [if_neg (by omega),VU E ids ins p1 p3,Option.bind_some,if_pos (by omega),BM (by omega),iE E ids ins P hn hi p3,Option.bind_some,
  lH (Qm E) hn (F9 E E.length) (by omega) P hPl (XM h) hP,Option.bind_some]
 have hN:=ru h hn P hP
 have e:Kt (SF E P) [] (Le ins (2*E.length))=some (.inl (SF E P,[],Le ins (2*E.length),true)):=by
  unfold Kt;rw [BM hT,BM (by decide),BM (by rw [OZ];omega)]
  unfold SF;rw [if_pos hN]
 show(Kt (SF E P) [] (Le ins (2*E.length))).bind _=_
 rw [e];rfl
theorem lL{E:List (List (Int×Int))}{ids ins:List Int}(h:Bj E ids ins=true)(hn:E.length≤20)(P:List (List Int))(hPl:P.length=(F9 E E.length).length)(hP: ∀k,k<(F9 E E.length).length→bz (P.getD k default)):
  OQ E ids ins 2 P=some (SF E P,[],Le ins (2*E.length)):=by
 obtain⟨p1,p2,p3,_⟩:=Dj h;have hl:=NM E p3 E.length (by omega)
 have hi:ins.length=E.length:=by
  have h':=h;unfold Bj at h';simp only [Bool.and_eq_true,decide_eq_true_eq]at h';omega
 have ew:IntKind.i64.wrap (2*(E.length:Int))=2*(E.length:Int):=Ir _ (by omega)
 have et:(2*(E.length:Int)).toNat=2*E.length:=by omega
 unfold OQ Ol;simp only [ew,et]
 rw [BM (by omega),Option.bind_some,iG E ids ins P _ hn hi p3,Option.bind_some,VY E ids ins p1 p3,Option.bind_some,
  lI (Qm E) hn (F9 E E.length) (by omega) P hPl (XM h) hP,Option.bind_some]
 rfl
def below(n:Nat):List Int:=(List.range n).map fun x=>((x / 2:Nat):Int)
theorem Pd(n:Nat):below (n+1)=below n++[((n / 2:Nat):Int)]:=by simp [below,List.range_succ]
theorem Ra(n:Nat):(below n).length=n:=by simp [below]
theorem iH(E:List (List (Int×Int)))(ids ins:List Int)(r:List (List Int)×Bool)(hn:E.length≤20):EY E ids ins r ([],0)=some (below (2*E.length)):=by
 unfold EY;have key:=Bb (fun x=>Cv E ids ins r x.1 x.2) (fun v=>(below (2*v),(v:Int))) E.length (below (2*E.length)) ?_ ?_
 ·exact key
 ·intro v hv;have hl:=Ra (2*v);simp only [Cv];rw [if_pos (BZ hv),BM (by omega),Je v (by omega),show 2*(v+1)=2*v+1+1 by omega,Pd (2*v+1),Pd (2*v),show 2*v / 2=v by omega,show(2*v+1) / 2=v by omega]
 ·simp only [Cv];rw [if_neg (Aq _)]
theorem iI(q:List (List (Int×Int))×List Int×List Int×Bool)(n:Nat)(hq:q.1.length=n)(hn:n≤40):EW q ([],0)=some (below n):=by
 unfold EW;have key:=Bb (fun x=>Ct q x.1 x.2) (fun v=>(below v,(v:Int))) n (below n) ?_ ?_
 ·exact key
 ·intro v hv;have hl:=Ra v;simp only [Ct,hq];rw [if_pos (BZ hv),BM (by omega),ACj v (by omega),Je v (by omega),Pd]
 ·simp only [Ct,hq];rw [if_neg (Aq _)]
theorem rz{E:List (List (Int×Int))}{ids ins:List Int}(h:Bj E ids ins=true)(P:List (List Int))(hP: ∀k,k<(F9 E E.length).length→bz (P.getD k default)):Shp E (SF E P):=Mo (Qm E) (F9 E E.length) P (XM h) hP _ (Nat.le_refl _)
end Go.Proofs.Ytipfckompmhljaa
