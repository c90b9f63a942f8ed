/- Labels that the other ports of a node support: the program's search, as a plain function. Conditions: those in each lemma. -/
import Derived.Test.YtiehjihckndgkaaGreatL6
import Derived.Test.YtiehjihckndgkaaGreatSmb
namespace Go.Proofs.YtiehjihckndgkaaGreat
open Go Dv
set_option linter.unusedSimpArgs false
set_option linter.unusedVariables false
set_option maxRecDepth 100000
theorem nC(m:Int)(b:Nat)(h:0≤m∧m≤255)(hb:b≤64):GX .and .i64 (m.fdiv (2 ^ (min b IntKind.i64.bits))) 1=m / 2 ^ b % 2:=by
 rw [rA m b hb,xN _ ⟨Qa m b h.1,Int.le_trans (oZ m b h.1) h.2⟩]
def O8(row:List Int)(n i:Nat)(a:Int):List (List Int):=(row.map fun m=>Ue m n).set i [a]
theorem LZ(row:List Int)(n i:Nat)(a:Int):(O8 row n i a).length=row.length:=by simp [O8]
theorem jc{row:List Int}{n i:Nat}{a:Int}{k:Nat}(hk:k<row.length):(O8 row n i a)[k]'(by rw [LZ];exact hk)=if i=k then [a]else Ue (row.getD k default) n:=by
 unfold O8;rw [List.getElem_set];by_cases e:i=k
 ·rw [if_pos e,if_pos e]
 ·rw [if_neg e,if_neg e,List.getElem_map,Am _ _ hk]
def gdN(ns:List (List Int))(c:List Int):Bool:=ns.contains (LK c)
theorem Ug{n D v i:Nat}{a:Int}{ns es:List (List Int)}{en:List (List (Int×Int))}{ids inp:List Int}{M:List (List Int)}{row:List Int}(hn:n≤8)(hD:D≤4)(hv:v<M.length)(hrow:M.getD v default=row)(hl:row.length=D)
  (hr: ∀k,k<D→0≤row.getD k default∧row.getD k default≤255)(hns:BB ns)(hinc:QQ ns=true)(hi:i<D):
  ∀(m k fuel:Nat) (o:List Int),m+k=D→o.length=D→o.getD i default=a→m<fuel→ ∃o',BF fuel (k:Int) o (n:Int) (D:Int) ns es en ids inp M (i:Int) (v:Int)=some (rC (gdN ns) ((O8 row n i a).drop k) (o.take k),o')∧o'.length=D∧o'.take k=o.take k∧o'.getD i default=a
 |0,k,0,o,_,_,_,hf=>by omega
 |0,k,fuel+1,o,hk,ho,ha,_=>by
  refine⟨o, ?_,ho,rfl,ha⟩
  show CP (BF fuel) (k:Int) o (n:Int) (D:Int) ns es en ids inp M (i:Int) (v:Int)=_
  have hfl:=LZ row n i a;unfold CP;rw [if_pos (by omega),List.drop_of_length_le (by omega),List.take_of_length_le (by omega)]
  unfold Kw;rw [BJ hns,BJ (by omega),BJ hinc];rfl
 |m+1,k,0,o,_,_,_,hf=>by omega
 |m+1,k,fuel+1,o,hk,ho,ha,hf=>by
  have hkl:k<row.length:=by omega
  have hfl:=LZ row n i a;have hd:(O8 row n i a).drop k=(O8 row n i a)[k]'(by omega)::(O8 row n i a).drop (k+1):=WH (by omega)
  rw [jc hkl]at hd;show ∃o',CP (BF fuel) (k:Int) o (n:Int) (D:Int) ns es en ids inp M (i:Int) (v:Int)=_∧_
  unfold CP;rw [if_neg (by omega)]
  by_cases e:i=k
  ·subst e;obtain⟨o2,g1,g2,g3,g4⟩:=Ug (a:=a) (es:=es) (en:=en) (ids:=ids) (inp:=inp) hn hD hv hrow hl hr hns hinc hi m (i+1) fuel o (by omega) ho ha (by omega)
   rw [if_pos rfl,hd,if_pos rfl,Kh i (by omega),g1,DJ]
   have et:o.take (i+1)=o.take i++[a]:=by
    have hoa:o[i]'(by omega)=a:=by rw [←Am _ _ (by omega:i<o.length)];exact ha
    rw [jo (by omega),hoa]
   refine⟨o2, ?_,g2, ?_,g4⟩
   ·rw [et];simp only [rC,List.any_cons,List.any_nil,Bool.or_false]
   ·have:=congrArg (List.take i) g3
    rw [List.take_take,List.take_take,Nat.min_eq_left (by omega)]at this
    exact this
  ·rw [if_neg (by omega),hd,if_neg e]
   have hrk:=hr k (by omega)
   have key:=bV (fun v1=>Cj (BF fuel) (k:Int) (n:Int) (D:Int) ns es en ids inp M (i:Int) (v:Int) v1.1 v1.2)
    (fun q s=> ∃b:Nat,q=n-b∧b≤n∧s.1=(b:Int)∧s.2.length=D∧s.2.take k=o.take k∧s.2.getD i default=a∧ ∀j:Nat,j<b→Dh (row.getD k default) j=true→rC (gdN ns) ((O8 row n i a).drop (k+1)) (o.take k++[(j:Int)])=false)
    (fun r=> ∃o',(r= .inl o'∧rC (gdN ns) (Ue (row.getD k default) n::(O8 row n i a).drop (k+1)) (o.take k)=true∨r= .inr o'∧rC (gdN ns) (Ue (row.getD k default) n::(O8 row n i a).drop (k+1)) (o.take k)=false)∧o'.length=D∧o'.take k=o.take k∧o'.getD i default=a) ?_ n ((0:Int),o) ⟨0,rfl,by omega,rfl,ho,rfl,ha,fun j hj=>by omega⟩
   ·obtain⟨r,hr',o',h1,h2,h3,h4⟩:=key
    refine⟨o', ?_,h2,h3,h4⟩
    have hr2:Dq (BF fuel) (k:Int) (n:Int) (D:Int) ns es en ids inp M (i:Int) (v:Int) (0,o)=some r:=hr';rw [hr2,DJ];rcases h1 with⟨rfl,e⟩|⟨rfl,e⟩<;>rw [e]
   ·rintro q ⟨b',o1⟩ ⟨b,hq,hb,eb,h1,h2,h5,h3⟩
    dsimp only at eb h1 h2 h5;subst eb;simp only [Cj,IV,hrow];by_cases c:b<n
    ·rw [if_pos (by omega),BJ (by omega),BJ (by omega),BJ (by omega),nC _ b hrk (by omega),Kh b (by omega)]
     by_cases hb1:row.getD k default / 2 ^ b % 2=1
     ·have hhas:Dh (row.getD k default) b=true:=decide_eq_true hb1;rw [if_pos hb1,BJ (by omega),Kh k (by omega)]
      obtain⟨o2,g1,g2,g3,g4⟩:=Ug (a:=a) (es:=es) (en:=en) (ids:=ids) (inp:=inp) hn hD hv hrow hl hr hns hinc hi m (k+1) fuel (o1.set k (b:Int)) (by omega) (by rw [MR];exact h1) (by rw [MQ,List.getElem?_set_ne (by omega),←MQ];exact h5) (by omega)
      have et:(o1.set k (b:Int)).take (k+1)=o.take k++[(b:Int)]:=by
       rw [jo (by rw [MR];omega),oz,List.take_set_of_le (KS _),h2]
      rw [et]at g1 g3
      have g5:o2.take k=o.take k:=by
       have:=congrArg (List.take k) g3
       rw [List.take_take,Nat.min_eq_left (by omega)]at this
       rw [this,List.take_append_of_le_length (by rw [Rq];omega),List.take_take,Nat.min_self]
      rw [g1,DJ]
      cases hc:rC (gdN ns) ((O8 row n i a).drop (k+1)) (o.take k++[(b:Int)])with
      |true=>
       right
       refine⟨_,rfl,o2,.inl ⟨rfl, ?_⟩,g2,g5,g4⟩
       unfold rC;rw [WJ]
       exact⟨(b:Int),YZ.2 ⟨b,rfl,c,hhas⟩,hc⟩
      |false=>
       left
       refine⟨_,n-(b+1),rfl,by omega,b+1,rfl,by omega,rfl,g2,g5,g4,fun j hj hh=> ?_⟩
       by_cases ej:j=b
       ·rw [ej];exact hc
       ·exact h3 j (by omega) hh
     ·rw [if_neg hb1]
      left
      refine⟨_,n-(b+1),rfl,by omega,b+1,rfl,by omega,rfl,h1,h2,h5,fun j hj hh=> ?_⟩
      by_cases ej:j=b
      ·rw [ej]at hh;exact absurd (of_decide_eq_true hh) hb1
      ·exact h3 j (by omega) hh
    ·rw [if_neg (by omega)]
     right
     refine⟨_,rfl,o1,.inr ⟨rfl, ?_⟩,h1,h2,h5⟩
     unfold rC;rw [List.any_eq_false];intro x hx;obtain⟨j,rfl,hj,hh⟩:=YZ.1 hx;have:=h3 j (by omega) hh
     simp [this]
end Go.Proofs.YtiehjihckndgkaaGreat
