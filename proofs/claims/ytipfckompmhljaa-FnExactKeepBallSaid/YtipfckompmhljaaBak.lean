/- Networks of some nodes: program and reference agree. Conditions: those in each lemma. -/
import Derived.Test.YtipfckompmhljaaL6
import Derived.Test.YtipfckompmhljaaBal
namespace Go.Proofs.Ytipfckompmhljaa
open Go Dv
set_option linter.unusedSimpArgs false
set_option linter.unusedVariables false
set_option maxRecDepth 100000
theorem iY{α:Type}(p:Nat→Bool)(f:Nat→α)(m:Nat):((List.range (m+1)).filter p).map f=if p m=true then((List.range m).filter p).map f++[f m]else((List.range m).filter p).map f:=by
 rw [List.range_succ,List.filter_append,List.map_append]
 by_cases h:p m=true
 ·rw [if_pos h,List.filter_cons_of_pos h];rfl
 ·rw [if_neg h,List.filter_cons_of_neg h];simp
theorem Zg{α:Type}(p:Nat→Bool)(f:Nat→α)(m:Nat):(((List.range m).filter p).map f).length≤m:=by
 rw [List.length_map];exact Nat.le_trans (List.length_filter_le _ _) (by rw [List.length_range];exact Nat.le_refl _)
theorem Xm{E:List (List (Int×Int))}{ids ins:List Int}(h:Eg E ids ins=true):ids.length=0∨ids.length=E.length:=by
 unfold Eg Nj at h
 simp only [Bool.and_eq_true,Bool.or_eq_true,decide_eq_true_eq]at h
 omega
theorem Tv{E:List (List (Int×Int))}{ids ins:List Int}(h:Eg E ids ins=true):ins.length=E.length:=by
 unfold Eg at h
 simp only [Bool.and_eq_true,decide_eq_true_eq]at h
 omega
def kn(K:List Int)(k:Nat):Nat:=(K.getD k default).toNat
structure NodesK(E:List (List (Int×Int)))(K:List Int):Prop where
 inc:LV K
 rng: ∀x∈K,0≤x∧x.toNat<E.length
theorem NodesK.kth{E:List (List (Int×Int))}{K:List Int}(h:NodesK E K){k:Nat}(hk:k<K.length):K.getD k default=(kn K k:Int)∧kn K k<E.length∧(kn K k:Int)∈K∧0≤K.getD k default:=by
 have hm:=List.getElem_mem hk
 have h1:=h.rng _ hm
 unfold kn
 rw [Av _ _ hk]
 have:((K[k].toNat:Nat):Int)=K[k]:=by omega
 exact⟨this.symm,h1.2,this▸hm,h1.1⟩
theorem NodesK.nodup{E:List (List (Int×Int))}{K:List Int}(h:NodesK E K):K.Nodup:=h.inc.imp fun h=>by omega
theorem Xn{E:List (List (Int×Int))}{ids ins:List Int}(h:Eg E ids ins=true){v i:Nat}(hv:v<E.length)(hi:i<(E.getD v default).length):
  ∃w p:Nat,BB (E.getD v default) i=(w:Int)∧Bt (E.getD v default) i=(p:Int)∧w<E.length∧p<(E.getD w default).length∧BB (E.getD w default) p=(v:Int):=by
 obtain⟨w,p,h1,h2,h3,h4,h5,_⟩:=(D9 h).2.2.2 v i hv hi
 exact⟨w,p,h1,h2,h3,h4,h5⟩
theorem Vf{E:List (List (Int×Int))}{K:List Int}{v i w:Nat}(hk:Eh E K v i=true)(e:BB (E.getD v default) i=(w:Int)):(w:Int)∈K:=by
 unfold Eh at hk
 rw [e]at hk
 simpa using hk
theorem rU{K:List Int}(hn:K.Nodup){w:Int}(hw:w∈K): ∃j,j<K.length∧K.getD j default=w∧K.idxOf w=j:=by
 obtain⟨j,hj,e⟩:=List.getElem_of_mem hw
 refine⟨j,hj,by rw [Av _ _ hj];exact e, ?_⟩
 rw [←e]
 exact List.Nodup.idxOf_getElem hn j hj
section
variable {E:List (List (Int×Int))} {ids ins K:List Int} (h:Eg E ids ins=true) (hK:NodesK E K)
include h hK
theorem iZ(f:Int→Int→Option Bool)(hf: ∀v i:Nat,v<E.length→i<(E.getD v default).length→f (v:Int) (i:Int)=some (Eh E K v i))(k:Nat)(hk:k<K.length)(m:List (E2×E2)):
  EO E ids ins K f (k:Int) (m,0,0)=some (RB E K k (kn K k) m (E.getD (kn K k) default).length):=by
 obtain⟨e1,e2,e3,e4⟩:=hK.kth hk
 have h6:=(D9 h).2.2.1 _ e2
 unfold EO
 have key:=Bd (fun x=>Cv E ids ins K f (k:Int) x.1 x.2.1 x.2.2) (fun i=>(RB E K k (kn K k) m i,(Lr E K (kn K k) i:Int),(i:Int))) (E.getD (kn K k) default).length (RB E K k (kn K k) m (E.getD (kn K k) default).length) ?_ ?_
 ·exact key
 ·intro i hi
  have hr:=rT E K (kn K k) i
  simp only [Cv,Int.toNat_natCast,e1]
  rw [if_pos (BV hi),hf _ _ e2 hi,Option.bind_some,KH i (by omega),KH _ (by omega),iP]
  show _=some (Sum.inl (if Eh E K (kn K k) i=true then Sc (RB E K k (kn K k) m i) ((kn K k:Int),(i:Int)) ((k:Int),(Lr E K (kn K k) i:Int))else RB E K k (kn K k) m i,_,_))
  by_cases c:Eh E K (kn K k) i=true
  ·rw [if_pos c,if_pos c,if_pos c]
  ·rw [if_neg c,if_neg c,if_neg c];rfl
 ·simp only [Cv,Int.toNat_natCast,e1]
  rw [if_neg (Ag _)]
theorem ib(f:Int→Int→Option Bool)(hf: ∀v i:Nat,v<E.length→i<(E.getD v default).length→f (v:Int) (i:Int)=some (Eh E K v i))(hl:K.length≤40):
  EP E ids ins K f ([],0)=some (Uq E K K.length):=by
 unfold EP
 have key:=Bd (fun x=>Cw E ids ins K f x.1 x.2) (fun i=>(Uq E K i,(i:Int))) K.length (Uq E K K.length) ?_ ?_
 ·exact key
 ·intro k hk
  obtain⟨e1,e2,e3,e4⟩:=hK.kth hk
  simp only [Cw,Int.toNat_natCast]
  rw [if_pos (BV hk),BL (by omega),BL (by omega),iZ h hK f hf k hk,Option.bind_some,KH k (by omega)]
  rfl
 ·simp only [Cw]
  rw [if_neg (Ag _)]
theorem ic(f:Int→Int→Option Bool)(hf: ∀v i:Nat,v<E.length→i<(E.getD v default).length→f (v:Int) (i:Int)=some (Eh E K v i))(r0:List (List (Int×Int)))(r1 r2:List Int)(k:Nat)(hk:k<K.length):
  EQ E ids ins K f (Uq E K K.length) r0 r1 r2 (k:Int) ([],0)=some (OH E K (kn K k) (E.getD (kn K k) default).length):=by
 obtain⟨e1,e2,e3,e4⟩:=hK.kth hk
 have h6:=(D9 h).2.2.1 _ e2
 unfold EQ
 have key:=Bd (fun x=>Cx E ids ins K f (Uq E K K.length) r0 r1 r2 (k:Int) x.1 x.2) (fun i=>(OH E K (kn K k) i,(i:Int))) (E.getD (kn K k) default).length (OH E K (kn K k) (E.getD (kn K k) default).length) ?_ ?_
 ·exact key
 ·intro i hi
  have hl:=Zc E K (kn K k) i
  simp only [Cx,Int.toNat_natCast,e1]
  rw [if_pos (BV hi),BL (by omega),hf _ _ e2 hi,Option.bind_some,KH i (by omega),iQ]
  by_cases c:Eh E K (kn K k) i=true
  ·rw [if_pos c,if_pos c,BL (by omega)]
   obtain⟨w,p,w1,w2,w3,w4,w5⟩:=Xn h e2 hi
   have hw:=Vf c w1
   obtain⟨j,j1,j2,j3⟩:=rU hK.nodup hw
   have hkp:Eh E K w p=true:=by
    unfold Eh;rw [w5];simpa using e3
   have hg:=Ze E K hK.nodup (fun x hx=>(hK.rng x hx).1) j p j1 (by rw [j2,Int.toNat_natCast];exact w4) (by rw [j2,Int.toNat_natCast];exact hkp) K.length j1 (Nat.le_refl _)
   rw [j2,Int.toNat_natCast]at hg
   have ec:Zb E K (kn K k) i=((j:Int),(Lr E K w p:Int)):=by
    unfold Zb;rw [w1,w2,Int.toNat_natCast,Int.toNat_natCast,j3]
   rw [w1,w2,hg,ec]
  ·rw [if_neg c,if_neg c]
 ·simp only [Cx,Int.toNat_natCast,e1]
  rw [if_neg (Ag _)]
def Gp(E:List (List (Int×Int)))(K:List Int)(m:Nat):List (List (Int×Int)):=(List.range m).map fun k=>OH E K (kn K k) (E.getD (kn K k) default).length
def Ei(ids K:List Int)(m:Nat):List Int:=if 0<ids.length then(List.range m).map fun k=>ids.getD (kn K k) default else []
def Ij(ins K:List Int)(m:Nat):List Int:=(List.range m).map fun k=>ins.getD (kn K k) default
theorem ig(f:Int→Int→Option Bool)(hf: ∀v i:Nat,v<E.length→i<(E.getD v default).length→f (v:Int) (i:Int)=some (Eh E K v i))(hl:K.length≤40):
  ER E ids ins K f (Uq E K K.length) ([],[],[],0)=some (Gp E K K.length,Ei ids K K.length,Ij ins K K.length):=by
 have hi:=Tv h
 have hd:=Xm h
 unfold ER
 have key:=Bd (fun x=>Cy E ids ins K f (Uq E K K.length) x.1 x.2.1 x.2.2.1 x.2.2.2) (fun i=>(Gp E K i,Ei ids K i,Ij ins K i,(i:Int))) K.length (Gp E K K.length,Ei ids K K.length,Ij ins K K.length) ?_ ?_
 ·have e0:Ei ids K 0=[]:=by unfold Ei;split<;>rfl
  rw [e0]at key
  exact key
 ·intro k hk
  obtain⟨e1,e2,e3,e4⟩:=hK.kth hk
  have n1:(Gp E K k).length=k:=by simp [Gp]
  have n2:(Ij ins K k).length=k:=by simp [Ij]
  have n3:(Ei ids K k).length≤k:=by unfold Ei;split<;>simp
  have et:(K.getD k default).toNat=kn K k:=rfl
  have s1:Gp E K (k+1)=Gp E K k++[OH E K (kn K k) (E.getD (kn K k) default).length]:=by unfold Gp;rw [List.range_succ,List.map_append];rfl
  have s2:Ij ins K (k+1)=Ij ins K k++[ins.getD (kn K k) default]:=by unfold Ij;rw [List.range_succ,List.map_append];rfl
  simp only [Cy,Int.toNat_natCast,et]
  rw [if_pos (BV hk),BL (by omega),BL (by omega),ic h hK f hf _ _ _ k hk,Option.bind_some,BL (by omega),BL (by omega),BL (by omega),KH k (by omega),s1,s2]
  by_cases c:0<ids.length
  ·have s3:Ei ids K (k+1)=Ei ids K k++[ids.getD (kn K k) default]:=by unfold Ei;rw [if_pos c,if_pos c,List.range_succ,List.map_append];rfl
   rw [if_pos (by omega),BL (by omega),BL (by omega),s3]
  ·have s3:Ei ids K (k+1)=Ei ids K k:=by unfold Ei;rw [if_neg c,if_neg c]
   rw [if_neg (by omega),s3]
 ·simp only [Cy]
  rw [if_neg (Ag _)]
theorem ik(hl:K.length≤40):Dc E ids ins K=some (Gp E K K.length,Ei ids K K.length,Ij ins K K.length):=by
 have hf: ∀v i:Nat,v<E.length→i<(E.getD v default).length→CU (v:Int) (i:Int) K E ids ins=some (Eh E K v i):=by
  intro v i hv hi
  unfold CU
  simp only [Int.toNat_natCast]
  rw [BL (by omega),BL (by omega),BL (by omega)];rfl
 unfold Dc Ig
 rw [ib h hK _ hf hl,Option.bind_some,ig h hK _ hf hl,Option.bind_some,Option.bind_some]
def kM(E:List (List (Int×Int)))(K:List Int)(v i:Nat):Bool:=K.contains (v:Int)&&Eh E K v i
def PW(E:List (List (Int×Int)))(K:List Int)(v i:Nat):Nat:=(List.range i).countP (kM E K v)
omit hK in
theorem oL:PO E ids ins=some ((List.range E.length).map fun v=>(List.range (E.getD v default).length).map fun _=>true):=by
 obtain⟨hn,_,h6,_⟩:=D9 h
 unfold PO J4
 have key:=Bd (fun x=>H9 E x.1 x.2) (fun i=>((List.range i).map fun v=>(List.range (E.getD v default).length).map fun _=>true,(i:Int))) E.length ((List.range E.length).map fun v=>(List.range (E.getD v default).length).map fun _=>true) ?_ ?_
 ·have e0:J4 E ([],0)=_:=key
  unfold J4 at e0
  rw [e0];rfl
 ·intro v hv
  have hl:=h6 v hv
  have inner: ∀out,Kc E out (v:Int) (List.replicate (E.getD v default).length false,0)=some ((List.range (E.getD v default).length).map fun _=>true):=by
   intro out
   unfold Kc
   have k2:=Bd (fun x=>H8 E out (v:Int) x.1 x.2) (fun i=>((List.range (E.getD v default).length).map fun j=>decide (j<i),(i:Int))) (E.getD v default).length ((List.range (E.getD v default).length).map fun _=>true) ?_ ?_
   ·have e:((List.range (E.getD v default).length).map fun j=>decide (j<0))=List.replicate (E.getD v default).length false:=by
     refine List.ext_getElem (by simp) fun i _ _=>by simp
    rw [e]at k2
    exact k2
   ·intro i hi
    simp only [H8,Int.toNat_natCast,List.length_replicate]
    rw [if_pos (BV hi),BL (by rw [GX];omega),PV,KH i (by omega)]
    congr 3
    refine CV fun j _=> ?_
    by_cases e:j=i
    ·rw [if_pos e,e];simp
    ·rw [if_neg e]
     by_cases e2:j<i
     ·rw [decide_eq_true e2,decide_eq_true (by omega)]
     ·rw [decide_eq_false e2,decide_eq_false (by omega)]
   ·simp only [H8,Int.toNat_natCast,List.length_replicate]
    rw [if_neg (Ag _)]
    congr 2
    exact CV fun j hj=>by simpa using hj
  simp only [H9,Int.toNat_natCast]
  rw [if_pos (BV hv),BL (by omega),BL (by omega),inner,Option.bind_some,BL (by rw [GX];omega),List.range_succ,List.map_append,KH v (by omega)];rfl
 ·simp only [H9]
  rw [if_neg (Ag _)]
omit hK in
theorem Xo(hl:K.length≤40):Jl E ids ins K ((List.range E.length).map fun v=>(List.range (E.getD v default).length).map fun _=>true,0)=some ((List.range E.length).map fun v=>(List.range (E.getD v default).length).map (kM E K v)):=by
 obtain⟨hn,_,h6,_⟩:=D9 h
 unfold Jl
 have key:=Bd (fun x=>GG E ids ins K x.1 x.2) (fun i=>((List.range E.length).map fun v=>(List.range (E.getD v default).length).map fun j=>if v<i then kM E K v j else true,(i:Int))) E.length ((List.range E.length).map fun v=>(List.range (E.getD v default).length).map (kM E K v)) ?_ ?_
 ·have e:((List.range E.length).map fun v=>(List.range (E.getD v default).length).map fun j=>if v<0 then kM E K v j else true)=(List.range E.length).map fun v=>(List.range (E.getD v default).length).map fun _=>true:=CV fun v _=>CV fun j _=>by simp
  rw [e]at key
  exact key
 ·intro v hv
  have hl6:=h6 v hv
  have inner:Jk E ids ins K (v:Int) ((List.range E.length).map fun w=>(List.range (E.getD w default).length).map fun j=>if w<v then kM E K w j else true,0)=some ((List.range E.length).map fun w=>(List.range (E.getD w default).length).map fun j=>if w<v+1 then kM E K w j else true):=by
   unfold Jk
   have k2:=Bd (fun x=>GD E ids ins K (v:Int) x.1 x.2) (fun i=>((List.range E.length).map fun w=>(List.range (E.getD w default).length).map fun j=>if w<v∨(w=v∧j<i)then kM E K w j else true,(i:Int))) (E.getD v default).length ((List.range E.length).map fun w=>(List.range (E.getD w default).length).map fun j=>if w<v+1 then kM E K w j else true) ?_ ?_
   ·have e:((List.range E.length).map fun w=>(List.range (E.getD w default).length).map fun j=>if w<v∨(w=v∧j<0)then kM E K w j else true)=(List.range E.length).map fun w=>(List.range (E.getD w default).length).map fun j=>if w<v then kM E K w j else true:=CV fun w _=>CV fun j _=>by
     by_cases c:w<v
     ·rw [if_pos (.inl c),if_pos c]
     ·rw [if_neg (by omega),if_neg c]
    rw [e]at k2
    exact k2
   ·intro i hi
    simp only [GD,Int.toNat_natCast]
    have eg:(((List.range E.length).map fun w=>(List.range (E.getD w default).length).map fun j=>if w<v∨(w=v∧j<i)then kM E K w j else true).getD v default).length=(E.getD v default).length:=by rw [KA _ _ _ hv,GX]
    rw [if_pos (BV hi),BL (by omega),BL (by rw [GX];omega),BL (by omega),KH i (by omega)]
    have e: ∀b,b=kM E K v i→((List.range E.length).map fun w=>(List.range (E.getD w default).length).map fun j=>if w<v∨(w=v∧j<i)then kM E K w j else true).set v ((((List.range E.length).map fun w=>(List.range (E.getD w default).length).map fun j=>if w<v∨(w=v∧j<i)then kM E K w j else true).getD v default).set i b)=(List.range E.length).map fun w=>(List.range (E.getD w default).length).map fun j=>if w<v∨(w=v∧j<i+1)then kM E K w j else true:=by
     intro b hb
     rw [KA _ _ _ hv,PV,PV]
     refine CV fun w _=> ?_
     by_cases ew:w=v
     ·subst ew
      rw [if_pos rfl]
      refine CV fun j _=> ?_
      by_cases ej:j=i
      ·subst ej;rw [if_pos rfl,if_pos (.inr ⟨rfl,by omega⟩),hb]
      ·rw [if_neg ej]
       by_cases c:j<i
       ·rw [if_pos (.inr ⟨rfl,c⟩),if_pos (.inr ⟨rfl,by omega⟩)]
       ·rw [if_neg (by omega),if_neg (by omega)]
     ·rw [if_neg ew]
      refine CV fun j _=> ?_
      by_cases c:w<v
      ·rw [if_pos (.inl c),if_pos (.inl c)]
      ·rw [if_neg (by omega),if_neg (by omega)]
    by_cases c:K.contains (v:Int)=true
    ·rw [if_pos c,BL (by omega),e _ (by unfold kM Eh;rw [c,Bool.true_and])]
    ·rw [if_neg c,BL (by omega),e _ (by unfold kM;rw [Bool.eq_false_iff.2 c,Bool.false_and])]
   ·simp only [GD,Int.toNat_natCast]
    rw [if_neg (Ag _)]
    congr 2
    refine CV fun w _=>CV fun j hj=> ?_
    by_cases e:w=v
    ·subst e;rw [if_pos (.inr ⟨rfl,hj⟩),if_pos (by omega)]
    ·by_cases c:w<v
     ·rw [if_pos (.inl c),if_pos (by omega)]
     ·rw [if_neg (by omega),if_neg (by omega)]
  simp only [GG,Int.toNat_natCast]
  rw [if_pos (BV hv),BL (by omega),inner,Option.bind_some,KH v (by omega)]
 ·simp only [GG]
  rw [if_neg (Ag _)]
  congr 2
  exact CV fun v hv=>CV fun j _=>by rw [if_pos hv]
end
end Go.Proofs.Ytipfckompmhljaa
