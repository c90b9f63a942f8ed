/- Parts of a network, as plain functions. Conditions: those in each lemma. -/
import Derived.Test.YtipfckompmhljaaL6
import Derived.Test.YtipfckompmhljaaPrt
import Derived.Test.YtipfckompmhljaaSti
import Derived.Test.YtipfckompmhljaaFst
namespace Go.Proofs.Ytipfckompmhljaa
open Go Dv
set_option linter.unusedSimpArgs false
set_option linter.unusedVariables false
set_option maxRecDepth 100000
theorem iO(l:List (E2×E2))(k v k':E2):Ll (Sc l k v) k'=if k'=k then(v,true)else Ll l k':=by
 have key: ∀l:List (E2×E2),(match (match l.findIdx? (fun p:E2×E2=>p.1==k)with | some i=>l.set i (k,v) | none=>l++[(k,v)]).find? (fun p:E2×E2=>p.1==k')with | some p=>(p.2,true) | none=>(((0,0):E2),false))=if k'=k then(v,true)else(match l.find? (fun p:E2×E2=>p.1==k')with | some p=>(p.2,true) | none=>(((0,0):E2),false)):=by
  intro l
  induction l with
  | nil=>
   by_cases e:k'=k
   ·subst e;simp
   ·rw [if_neg e]
    have:(k==k')=false:=by simpa using fun c:k=k'=>e c.symm
    simp [this]
  | cons p l ih=>
   rw [List.findIdx?_cons]
   by_cases h1:p.1=k
   ·rw [if_pos (by simpa using h1)]
    simp only [List.set_cons_zero]
    by_cases e:k'=k
    ·subst e;simp
    ·rw [if_neg e]
     have h2:(k==k')=false:=by simpa using fun c:k=k'=>e c.symm
     have h3:(p.1==k')=false:=by rw [h1];exact h2
     rw [List.find?_cons,h2,List.find?_cons,h3]
   ·rw [if_neg (by simpa using h1)]
    cases hf:l.findIdx? (fun p:E2×E2=>p.1==k)with
    | none=>
     rw [hf]at ih
     simp only [Option.map_none]
     rw [List.cons_append,List.find?_cons]
     by_cases e:p.1=k'
     ·have: ¬k'=k:=fun c=>h1 (e.trans c)
      rw [if_neg this,List.find?_cons]
      have h3:(p.1==k')=true:=by simpa using e
      rw [h3]
     ·have h3:(p.1==k')=false:=by simpa using e
      rw [h3];simp only [List.find?_cons,h3]
      exact ih
    | some i=>
     rw [hf]at ih
     simp only [Option.map_some,List.set_cons_succ]
     rw [List.find?_cons]
     by_cases e:p.1=k'
     ·have: ¬k'=k:=fun c=>h1 (e.trans c)
      rw [if_neg this,List.find?_cons]
      have h3:(p.1==k')=true:=by simpa using e
      rw [h3]
     ·have h3:(p.1==k')=false:=by simpa using e
      rw [h3];simp only [List.find?_cons,h3]
      exact ih
 exact key l
def Eh(E:List (List (Int×Int)))(K:List Int)(v i:Nat):Bool:=K.contains (BB (E.getD v default) i)
def Lr(E:List (List (Int×Int)))(K:List Int)(v i:Nat):Nat:=(List.range i).countP (Eh E K v)
theorem iP(E:List (List (Int×Int)))(K:List Int)(v i:Nat):Lr E K v (i+1)=Lr E K v i+if Eh E K v i=true then 1 else 0:=by
 unfold Lr
 rw [List.range_succ,List.countP_append,List.countP_singleton]
theorem rT(E:List (List (Int×Int)))(K:List Int)(v i:Nat):Lr E K v i≤i:=by
 have:=List.countP_le_length (p:=Eh E K v) (l:=List.range i)
 rwa [List.length_range]at this
def Zb(E:List (List (Int×Int)))(K:List Int)(v i:Nat):Int×Int:=((K.idxOf (BB (E.getD v default) i):Int),(Lr E K (BB (E.getD v default) i).toNat (Bt (E.getD v default) i).toNat:Int))
def OH(E:List (List (Int×Int)))(K:List Int)(v:Nat)(m:Nat):List (Int×Int):=((List.range m).filter (Eh E K v)).map (Zb E K v)
theorem iQ(E:List (List (Int×Int)))(K:List Int)(v m:Nat):OH E K v (m+1)=if Eh E K v m=true then OH E K v m++[Zb E K v m]else OH E K v m:=by
 unfold OH
 rw [List.range_succ,List.filter_append,List.map_append]
 by_cases h:Eh E K v m=true
 ·rw [if_pos h,List.filter_cons_of_pos h];rfl
 ·rw [if_neg h,List.filter_cons_of_neg h];simp
theorem Zc(E:List (List (Int×Int)))(K:List Int)(v m:Nat):(OH E K v m).length≤m:=by
 unfold OH
 rw [List.length_map]
 exact Nat.le_trans (List.length_filter_le _ _) (by rw [List.length_range];exact Nat.le_refl _)
def RB(E:List (List (Int×Int)))(K:List Int)(k v:Nat)(m:List (E2×E2)):Nat→List (E2×E2)
 | 0=>m
 | i+1=>if Eh E K v i=true then Sc (RB E K k v m i) ((v:Int),(i:Int)) ((k:Int),(Lr E K v i:Int))else RB E K k v m i
theorem Zd(E:List (List (Int×Int)))(K:List Int)(k v:Nat)(m:List (E2×E2))(w p:Nat): ∀i,Ll (RB E K k v m i) ((w:Int),(p:Int))=if w=v∧p<i∧Eh E K v p=true then(((k:Int),(Lr E K v p:Int)),true)else Ll m ((w:Int),(p:Int))
 | 0=>by rw [if_neg (fun c=>absurd c.2.1 (Nat.not_lt_zero _))];rfl
 | i+1=>by
  have ih:=Zd E K k v m w p i
  show Ll (if Eh E K v i=true then Sc (RB E K k v m i) ((v:Int),(i:Int)) ((k:Int),(Lr E K v i:Int))else RB E K k v m i) _=_
  by_cases hk:Eh E K v i=true
  ·rw [if_pos hk,iO]
   by_cases e:(((w:Int),(p:Int)):E2)=((v:Int),(i:Int))
   ·rw [if_pos e]
    rw [Prod.mk.injEq]at e
    have e1:w=v:=by omega
    have e2:p=i:=by omega
    subst e1 e2
    rw [if_pos ⟨rfl,by omega,hk⟩]
   ·rw [if_neg e,ih]
    by_cases c:w=v∧p<i∧Eh E K v p=true
    ·rw [if_pos c,if_pos ⟨c.1,by omega,c.2.2⟩]
    ·rw [if_neg c,if_neg (fun c'=>c ⟨c'.1, ?_,c'.2.2⟩)]
     have:p≠i:=fun hp=>e (by rw [hp,c'.1])
     omega
  ·rw [if_neg hk,ih]
   by_cases c:w=v∧p<i∧Eh E K v p=true
   ·rw [if_pos c,if_pos ⟨c.1,by omega,c.2.2⟩]
   ·rw [if_neg c,if_neg (fun c'=>c ⟨c'.1, ?_,c'.2.2⟩)]
    have:p≠i:=fun hp=>hk (hp▸c'.2.2)
    omega
def Uq(E:List (List (Int×Int)))(K:List Int):Nat→List (E2×E2)
 | 0=>[]
 | k+1=>RB E K k (K.getD k default).toNat (Uq E K k) (E.getD (K.getD k default).toNat default).length
theorem Ze(E:List (List (Int×Int)))(K:List Int)(hK:K.Nodup)(h0: ∀x∈K,0≤x)(j p:Nat)(hj:j<K.length)(hp:p<(E.getD (K.getD j default).toNat default).length)(hk:Eh E K (K.getD j default).toNat p=true):
  ∀k,j<k→k≤K.length→(Ll (Uq E K k) (K.getD j default,(p:Int))).1=((j:Int),(Lr E K (K.getD j default).toNat p:Int))
 | 0,h,_=>absurd h (Nat.not_lt_zero _)
 | k+1,h,hl=>by
  have hj0:=h0 _ (List.getElem_mem hj)
  have ej:K.getD j default=((K.getD j default).toNat:Int):=by rw [Av _ _ hj];omega
  show(Ll (RB E K k (K.getD k default).toNat (Uq E K k) (E.getD (K.getD k default).toNat default).length) _).1=_
  rw [ej,Zd,Int.toNat_natCast]
  by_cases e:j=k
  ·subst e
   rw [if_pos ⟨rfl,hp,hk⟩]
  ·have hk0:=h0 _ (List.getElem_mem (show k<K.length by omega))
   have hne: ¬(K.getD j default).toNat=(K.getD k default).toNat:=by
    rw [Av _ _ hj,Av _ _ (show k<K.length by omega)]
    intro c
    exact e ((List.getElem_inj hK).1 (by omega))
   rw [if_neg (fun c=>hne c.1),←ej]
   exact Ze E K hK h0 j p hj hp hk k (by omega) (by omega)
end Go.Proofs.Ytipfckompmhljaa
