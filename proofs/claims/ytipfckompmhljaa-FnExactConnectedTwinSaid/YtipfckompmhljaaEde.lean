/- The edges of a network, listed; the ports of a network (as in Mt). Conditions: those in each lemma. -/
import Derived.Test.YtipfckompmhljaaL6
import Derived.Test.YtipfckompmhljaaTwA
import Derived.Test.YtipfckompmhljaaFst
namespace Go.Proofs.Ytipfckompmhljaa
open Go Dv
set_option linter.unusedSimpArgs false
set_option linter.unusedVariables false
set_option maxRecDepth 100000
def JE(E:List (List (Int×Int)))(v i:Nat):Bool:=decide ((v:Int)<BA (E.getD v default) i)||(decide ((v:Int)=BA (E.getD v default) i)&&decide ((i:Int)≤Bc (E.getD v default) i))
def SE(E:List (List (Int×Int)))(v:Nat):Nat→List (Int×Int×Int×Int)
 | 0=>[]
 | i+1=>if JE E v i=true then SE E v i++[((v:Int),(i:Int),BA (E.getD v default) i,Bc (E.getD v default) i)]else SE E v i
def F9(E:List (List (Int×Int))):Nat→List (Int×Int×Int×Int)
 | 0=>[]
 | v+1=>F9 E v++SE E v (E.getD v default).length
theorem TM(E:List (List (Int×Int)))(v:Nat): ∀i,(SE E v i).length≤i
 | 0=>Nat.le_refl _
 | i+1=>by
  have:=TM E v i
  unfold SE;split
  ·rw [List.length_append,List.length_singleton];omega
  ·omega
theorem NM(E:List (List (Int×Int)))(h: ∀v,v<E.length→(E.getD v default).length≤6): ∀v,v≤E.length→(F9 E v).length≤6*v
 | 0,_=>Nat.le_refl _
 | v+1,hv=>by
  have h1:=NM E h v (by omega)
  have h2:=TM E v (E.getD v default).length;have h3:=h v (by omega)
  unfold F9;rw [List.length_append];omega
theorem TN(E:List (List (Int×Int)))(v:Nat)(x:Int×Int×Int×Int): ∀n,x∈SE E v n↔ ∃i,i<n∧JE E v i=true∧x=((v:Int),(i:Int),BA (E.getD v default) i,Bc (E.getD v default) i)
 | 0=>by simp [SE]
 | n+1=>by
  have ih:=TN E v x n;unfold SE;split
  ·rename_i hc
   rw [List.mem_append,List.mem_singleton,ih]
   constructor
   ·rintro(⟨i,h1,h2,h3⟩ | h)
    ·exact⟨i,by omega,h2,h3⟩
    ·exact⟨n,by omega,hc,h⟩
   ·rintro⟨i,h1,h2,h3⟩
    by_cases e:i=n
    ·subst e;exact .inr h3
    ·exact .inl ⟨i,by omega,h2,h3⟩
  ·rename_i hc
   rw [ih]
   constructor
   ·rintro⟨i,h1,h2,h3⟩;exact⟨i,by omega,h2,h3⟩
   ·rintro⟨i,h1,h2,h3⟩
    by_cases e:i=n
    ·subst e;exact absurd h2 hc
    ·exact⟨i,by omega,h2,h3⟩
theorem Jb(E:List (List (Int×Int)))(x:Int×Int×Int×Int): ∀n,x∈F9 E n↔ ∃v i,v<n∧i<(E.getD v default).length∧JE E v i=true∧x=((v:Int),(i:Int),BA (E.getD v default) i,Bc (E.getD v default) i)
 | 0=>by simp [F9]
 | n+1=>by
  unfold F9;rw [List.mem_append,Jb E x n,TN]
  constructor
  ·rintro(⟨v,i,h1,h2⟩ | ⟨i,h1,h2⟩)
   ·exact⟨v,i,by omega,h2⟩
   ·exact⟨n,i,by omega,h1,h2⟩
  ·rintro⟨v,i,h1,h2,h3⟩
   by_cases e:v=n
   ·subst e;exact .inr ⟨i,h2,h3⟩
   ·exact .inl ⟨v,i,by omega,h2,h3⟩
theorem rQ(E:List (List (Int×Int)))(v:Nat)(out:List (Int×Int×Int×Int))(hd:(E.getD v default).length≤6)(ho:out.length≤1000):
  ET E (v:Int) (out,0)=some (out++SE E v (E.getD v default).length):=by
 unfold ET;have key:=Bb (fun w=>Co E (v:Int) w.1 w.2) (fun i=>(out++SE E v i,(i:Int))) (E.getD v default).length (out++SE E v (E.getD v default).length) ?_ ?_
 ·have e:((0:Nat):Int)=0:=rfl;simp only [e,SE,List.append_nil]at key;exact key
 ·intro i hi;have hl:=TM E v i;have hlen:(out++SE E v i).length*4+4<1099511627776:=by rw [List.length_append];omega
  simp only [Co,Int.toNat_natCast];rw [if_pos (BZ hi),BM (by omega),Je i (by omega)]
  have hc:JE E v i=(decide ((v:Int)<BA (E.getD v default) i)||(decide ((v:Int)=BA (E.getD v default) i)&&decide ((i:Int)≤Bc (E.getD v default) i))):=rfl;have hs:SE E v (i+1)=if JE E v i=true then SE E v i++[((v:Int),(i:Int),BA (E.getD v default) i,Bc (E.getD v default) i)]else SE E v i:=rfl
  rw [hs];by_cases c1:(v:Int)<BA (E.getD v default) i
  ·rw [if_pos c1,BM hlen,if_pos (by rw [hc,decide_eq_true c1];rfl),List.append_assoc]
  ·rw [if_neg c1];by_cases c2:(v:Int)=BA (E.getD v default) i
   ·rw [if_pos c2];by_cases c3:(i:Int)≤Bc (E.getD v default) i
    ·rw [if_pos c3,BM hlen,if_pos (by rw [hc,decide_eq_true c2,decide_eq_true c3,Bool.and_true,Bool.or_true]),List.append_assoc]
    ·rw [if_neg c3,if_neg (by rw [hc,decide_eq_false c1,decide_eq_false c3,Bool.and_false];simp)]
   ·rw [if_neg c2,if_neg (by rw [hc,decide_eq_false c1,decide_eq_false c2];simp)]
 ·simp only [Co,Int.toNat_natCast];rw [if_neg (Aq _)]
theorem VU(E:List (List (Int×Int)))(ids ins:List Int)(hE:E.length≤40)(hd: ∀v,v<E.length→(E.getD v default).length≤6):Dw E ids ins=some (F9 E E.length):=by
 unfold Dw GK;have key:=Bb (fun w=>Cq E w.1 w.2) (fun v=>(F9 E v,(v:Int))) E.length (F9 E E.length) ?_ ?_
 ·have e:((0:Nat):Int)=0:=rfl;simp only [e]at key;rw [show(([],0):List (Int×Int×Int×Int)×Int)=(F9 E 0,0)from rfl,key];rfl
 ·intro v hv;have hl:=NM E hd v (by omega)
  simp only [Cq];rw [if_pos (BZ hv),BM (by omega),rQ E v _ (hd v hv) (by omega),Option.bind_some,Je v (by omega)]
  rfl
 ·simp only [Cq];rw [if_neg (Aq _)]
theorem A4d(L:List (Int×Int×Int×Int))(f:Int→Int→Int→Int→Option Bool)(p:Int×Int×Int×Int→Bool)(hL:L.length<1099511627776)(hf: ∀x∈L,f x.1 x.2.1 x.2.2.1 x.2.2.2=some (p x)):
  Ac L f=some (L.any p):=by
 unfold Ac Ap Al;have key:=VT (fun v=>AX L f v) (fun i=>(i:Int)) L.length (fun i=>p (L.getD i default)) (fun i=> .inl (i:Int)) (.inr ()) ?_ ?_
 ·rw [Int.natCast_zero]at key;rw [key]
  have hany:L.any p=(EC L.length fun i=>p (L.getD i default)).isSome:=by
   rw [Bool.eq_iff_iff,OU,List.any_eq_true]
   constructor
   ·rintro⟨x,hx,hp⟩
    obtain⟨i,hi,rfl⟩:=List.getElem_of_mem hx
    exact⟨i,hi,by rw [Av _ _ hi];exact hp⟩
   ·rintro⟨i,hi,hp⟩
    rw [Av _ _ hi]at hp
    exact⟨_,List.getElem_mem hi,hp⟩
  rw [hany]
  cases EC L.length fun i=>p (L.getD i default)with
  | none=>rfl
  | some i=>simp
 ·intro i hi;have hx:=hf _ (List.getElem_mem hi);simp only [AX,Int.toNat_natCast,NT,R6,Oq,R7];rw [if_pos (BZ hi),BM (by omega),Av _ _ hi,hx,Option.bind_some,Je i (by omega)]
 ·simp only [AX];rw [if_neg (Aq _)]
theorem Dj{E:List (List (Int×Int))}{ids ins:List Int}(h:Bj E ids ins=true):E.length≤40∧1≤E.length∧(∀v,v<E.length→(E.getD v default).length≤6)∧
  ∀v i,v<E.length→i<(E.getD v default).length→ ∃w p:Nat,BA (E.getD v default) i=(w:Int)∧Bc (E.getD v default) i=(p:Int)∧w<E.length∧p<(E.getD w default).length∧BA (E.getD w default) p=(v:Int)∧Bc (E.getD w default) p=(i:Int):=by
 unfold Bj at h;simp only [Bool.and_eq_true]at h;obtain⟨h1,_,_,_,h5⟩:=h;have h1:=FK.1 h1;have hn: ∀v,v<E.length→P5 E v=true:=FU.1 h5
 refine⟨by omega,by omega,fun v hv=> ?_,fun v i hv hi=> ?_⟩
 ·have:=hn v hv
  rw [Jm,Bool.and_eq_true,decide_eq_true_eq]at this;exact this.1
 ·have:=hn v hv
  rw [Jm,Bool.and_eq_true]at this;have:=FU.1 this.2 i hi
  rw [Md]at this;simp only [Bool.and_eq_true,beq_iff_eq]at this;obtain⟨k1,k2,k3,k4⟩:=this;have k1:=FK.1 k1;have k2:=FK.1 k2
  refine⟨(BA (E.getD v default) i).toNat,(Bc (E.getD v default) i).toNat,by omega,by omega,by omega,by omega,k3,k4⟩
end Go.Proofs.Ytipfckompmhljaa
