/- Numbers read from texts. Conditions: those in each lemma. -/
import Derived.Test.YtaogbcdlpgfplaaDoorL6
import Derived.Test.YtaogbcdlpgfplaaDoorTxn
import Derived.Test.YtaogbcdlpgfplaaDoorSpl
namespace Go.Proofs.YtaogbcdlpgfplaaDoor
open Go Dv
set_option linter.unusedSimpArgs false
set_option linter.unusedVariables false
set_option maxRecDepth 100000
def ED:Nat→List UInt8→Option Nat
 |a,[]=>some a
 |a,c::r=>if 48≤c.toNat∧c.toNat≤57 then ED (a*10+(c.toNat-48)) r else none
theorem NH(a:Nat)(c:UInt8)(r:List UInt8):ED a (c::r)=if 48≤c.toNat∧c.toNat≤57 then ED (a*10+(c.toNat-48)) r else none:=rfl
theorem Oy(r:List UInt8): ∀(l:List UInt8) (a:Nat),ED a (l++r)=(ED a l).bind fun b=>ED b r
 | [],a=>rfl
 |c::l,a=>by
  rw [List.cons_append,NH,NH]
  by_cases h:48≤c.toNat∧c.toNat≤57
  ·rw [if_pos h,if_pos h,Oy r l]
  ·rw [if_neg h,if_neg h];rfl
theorem Q3{k:Nat}(h:k<10):(UInt8.ofNat (48+k)).toNat=48+k:=by
 rw [UInt8.toNat_ofNat'];omega
theorem Tn{a k:Nat}(h:k<10):ED a [UInt8.ofNat (48+k)]=some (a*10+k):=by
 unfold ED
 rw [Q3 h,if_pos (by omega),show 48+k-48=k by omega];rfl
theorem Kv(n:Nat):ED 0 (Ga n)=some n:=by
 induction n using Nat.strongRecOn with
 |_ n ih=>
  by_cases h:n<10
  ·rw [JF h,Tn h];simp
  ·rw [MP h,Oy,ih (n / 10) (by omega),Option.bind_some,Tn (Nat.mod_lt _ (by decide))]
   congr 1;omega
theorem Zu(n:Nat):Ga n≠[]:=by
 by_cases h:n<10
 ·rw [JF h];simp
 ·rw [MP h];simp
theorem Tp(n:Nat): ∃k,k<10∧(Ga n).head? =some (UInt8.ofNat (48+k))∧(k=0→n=0):=by
 induction n using Nat.strongRecOn with
 |_ n ih=>
  by_cases h:n<10
  ·exact⟨n,h,by rw [JF h];rfl,id⟩
  ·obtain⟨k,h1,h2,h3⟩:=ih (n / 10) (by omega)
   refine⟨k,h1, ?_,fun e=> ?_⟩
   ·rw [MP h,List.head?_append,h2];rfl
   ·have:=h3 e;omega
theorem Xa: ∀(l:List UInt8) (a n:Nat),ED a l=some n→a≤n
 | [],a,n,h=>by unfold ED at h;injection h with h;omega
 |c::r,a,n,h=>by
  unfold ED at h
  split at h
  ·have:=Xa r _ n h;omega
  ·cases h
theorem Rn: ∀(l:List UInt8) (a n:Nat),ED a l=some n→n<(a+1)*10 ^ l.length
 | [],a,n,h=>by unfold ED at h;injection h with h;simp;omega
 |c::r,a,n,h=>by
  unfold ED at h
  split at h
  ·have h1:=Rn r _ n h
   rw [List.length_cons,Nat.pow_succ,Nat.mul_comm (10 ^ r.length) 10,←Nat.mul_assoc]
   exact Nat.lt_of_lt_of_le h1 (Nat.mul_le_mul_right _ (by omega))
  ·cases h
theorem Tq: ∀(l:List UInt8) (a n:Nat),ED a l=some n→ ∀c∈l,48≤c.toNat∧c.toNat≤57
 | [],_,_,_,c,hc=>by cases hc
 |x::r,a,n,h,c,hc=>by
  unfold ED at h
  split at h
  ·rename_i hx
   rcases List.mem_cons.1 hc with rfl|hc
   ·exact hx
   ·exact Tq r _ n h c hc
  ·cases h
theorem PX: ∀(m:Nat) (l:List UInt8) (n:Nat),l.length=m→l≠[]→(l.head? =some 48→l.length=1)→ED 0 l=some n→l=Ga n
 |0,l,n,hm,hne,_,_=>absurd (List.eq_nil_of_length_eq_zero hm) hne
 |m+1,l,n,hm,hne,hc,hs=>by
  have el:=List.dropLast_concat_getLast hne
  generalize hx:l.getLast hne=x at el
  generalize hd:l.dropLast=d at el
  have hdl:d.length=m:=by rw [←hd,List.length_dropLast];omega
  rw [←el,Oy]at hs
  cases e:ED 0 d with
  |none=>rw [e]at hs;cases hs
  |some b=>
   rw [e,Option.bind_some]at hs
   unfold ED at hs
   split at hs
   ·rename_i hx
    unfold ED at hs
    injection hs with hs
    have ex:x=UInt8.ofNat (48+(x.toNat-48)):=UInt8.toNat_inj.1 (by rw [Q3 (by omega)];omega)
    by_cases h0:d=[]
    ·subst h0
     unfold ED at e
     injection e with e
     rw [←el,JF (by omega),List.nil_append]
     congr 1
     rw [ex]
     congr 1
     omega
    ·have hhead:l.head? =d.head? :=by
      rw [←el]
      cases d with
      |nil=>exact absurd rfl h0
      |cons y t=>rfl
     have hlen:1≤d.length:=by
      cases d with
      |nil=>exact absurd rfl h0
      |cons y t=>simp
     have h48: ¬d.head? =some 48:=fun e=>by have:=hc (hhead.trans e);omega
     have ih:=PX m d b hdl h0 (fun e=>absurd e h48) e
     have hb:b≠0:=fun e0=>by
      subst e0
      rw [JF (by decide)]at ih
      exact h48 (by rw [ih];rfl)
     rw [←el,MP (by omega),ih]
     congr 1
     ·congr 1;omega
     ·congr 1
      rw [ex];congr 1;omega
   ·cases hs
theorem ZI(n:Nat):(Ga n).head? =some 48→(Ga n).length=1:=fun h=>by
 obtain⟨k,h1,h2,h3⟩:=Tp n
 rw [h2]at h
 injection h with h
 have h4:=congrArg UInt8.toNat h
 rw [Q3 h1]at h4
 have:k=0:=by have:(48:UInt8).toNat=48:=rfl;omega
 rw [h3 this,JF (by decide)];rfl
def IM(l:List UInt8):Option Nat:=if l≠[]∧l.length≤6∧(l.head? =some 48→l.length=1)then ED 0 l else none
theorem MR(l:List UInt8)(n:Nat):IM l=some n↔n<1000000∧l=Ga n:=by
 unfold IM
 constructor
 ·intro h
  split at h
  ·rename_i hc
   have e:=PX _ l n rfl hc.1 hc.2.2 h
   refine⟨?_,e⟩
   have h1:=Rn l 0 n h
   have h2:10 ^ l.length≤10 ^ 6:=Nat.pow_le_pow_right (by decide) hc.2.1
   have h3:(10:Nat) ^ 6=1000000:=by decide
   omega
  ·cases h
 ·rintro⟨h,rfl⟩
  rw [if_pos ⟨Zu n,OE 5 n (by have h3:(10:Nat) ^ 6=1000000:=(by decide);omega),ZI n⟩,Kv]
theorem ZJ{n:Nat}(h:n<1000000):IM (Ga n)=some n:=(MR _ _).2 ⟨h,rfl⟩
theorem PY: ∀(l:List UInt8) (a n:Nat),ED a l=some n→n<18446744073709551616→Lib.parseUint10 a l= .ok n
 | [],a,n,h,_=>by unfold ED at h;injection h with h;subst h;rfl
 |c::r,a,n,h,hn=>by
  unfold ED at h
  split at h
  ·rename_i hc
   have:=Xa r _ n h
   unfold Lib.parseUint10
   rw [if_pos hc,if_neg (by omega),if_neg (by omega)]
   exact PY r _ n h hn
  ·cases h
theorem Xb{n:Nat}(h:n<18446744073709551616):Lib.parseMag (Ga n)= .ok n:=by
 unfold Lib.parseMag
 rw [if_neg (Zu n)]
 exact PY _ _ _ (Kv n) h
theorem d9{n:Int}(h: -9223372036854775808≤n∧n≤9223372036854775807):Lib.atoiAll (Lib.itoa n)= .ok n:=by
 by_cases c:n<0
 ·have e:Lib.itoa n=45::Ga n.natAbs:=by unfold Lib.itoa Ga;rw [if_pos c]
  rw [e]
  unfold Lib.atoiAll
  have e45:(45:UInt8).toNat=45:=rfl
  simp only [e45,or_true,if_true]
  rw [Xb (by omega)]
  simp only [not_true,false_and,if_false,true_and]
  rw [if_neg (by omega)]
  congr 1;omega
 ·have e:Lib.itoa n=Ga n.toNat:=by unfold Lib.itoa Ga;rw [if_neg c]
  obtain⟨k,h1,h2,h3⟩:=Tp n.toNat
  have hm:=Xb (n:=n.toNat) (by omega)
  rw [e]
  generalize hl:Ga n.toNat=l at h2 hm
  cases l with
  |nil=>cases h2
  |cons x r=>
   have ex:x=UInt8.ofNat (48+k):=by simpa using h2
   have en:x.toNat=48+k:=by rw [ex,Q3 h1]
   unfold Lib.atoiAll
   have q1: ¬(x.toNat=43∨x.toNat=45):=by omega
   have q2: ¬x.toNat=45:=by omega
   have q3: ¬x.toNat=43:=by omega
   simp only [q2,q3,or_self,not_false_eq_true,true_and,false_and,if_false,hm]
   rw [if_neg (by omega)]
   congr 1;omega
theorem Ro{l:List UInt8}{n:Int}(h:Lib.atoiAll l= .ok n): -9223372036854775808≤n∧n≤9223372036854775807:=by
 unfold Lib.atoiAll at h
 split at h
 ·cases h
 ·simp only at h
  split at h
  ·cases h
  ·cases h
  ·split at h
   ·cases h
   ·split at h
    ·cases h
    ·injection h with h
     split at h<;>omega
theorem ZK(w:ByteArray)(hw:w.size≤281474976710656):
  (∃n:Int,(-9223372036854775808≤n∧n≤9223372036854775807)∧w=G5 n∧Nu w=some (.inl n))∨
  ((∀n:Int,(-9223372036854775808≤n∧n≤9223372036854775807)→w≠G5 n)∧((∃q:Int,Nu w=some (.inl q)∧(-9223372036854775808≤q∧q≤9223372036854775807)∧G5 q≠w)∨ ∃q,Nu w=some (.inr q))):=by
 by_cases h: ∃n:Int,(-9223372036854775808≤n∧n≤9223372036854775807)∧w=G5 n
 ·obtain⟨n,h1,h2⟩:=h
  refine .inl ⟨n,h1,h2, ?_⟩
  have:Lib.atoiAll w.data.toList= .ok n:=by rw [h2];exact d9 h1
  unfold Nu Nt
  rw [if_pos hw,this]
 ·refine .inr ⟨fun n h1 h2=>h ⟨n,h1,h2⟩, ?_⟩
  unfold Nu Nt
  rw [if_pos hw]
  match e:Lib.atoiAll w.data.toList with
  | .ok v=>exact .inl ⟨v,rfl,Ro e,fun e2=>h ⟨v,Ro e,e2.symm⟩⟩
  |Lib.NumEnd.syntax=>exact .inr ⟨_,rfl⟩
  | .range=>exact .inr ⟨_,rfl⟩
end Go.Proofs.YtaogbcdlpgfplaaDoor
