/- Labels placed at ports with sets: the reference's search, as a plain function. Conditions: those in each lemma. -/
import Derived.Test.YtiehjihckndgkaaGreatL6
import Derived.Test.YtiehjihckndgkaaGreatSmA
import Derived.Test.YtiehjihckndgkaaGreatBit
import Derived.Test.YtiehjihckndgkaaGreatChc
namespace Go.Proofs.YtiehjihckndgkaaGreat
open Go Dv
set_option linter.unusedSimpArgs false
set_option linter.unusedVariables false
set_option maxRecDepth 100000
theorem Uf(mask:Int)(a:Nat)(h:0≤mask∧mask≤255)(ha:a≤8):Kz mask (a:Int)=some (Dh mask a):=by
 have loop:NT (mask,(a:Int))=some (mask / 2 ^ a):=by
  unfold NT;have key:=EX (fun v=>Jw v.1 v.2) (fun k=>(mask / 2 ^ k,((a-k:Nat):Int))) a (mask / 2 ^ a) ?_ ?_
  ·simpa using key
  ·intro k hk;have h0:=Qa mask k h.1;have h1:=Int.le_trans (oZ mask k h.1) h.2;simp only [Jw];rw [if_pos (by omega),Int.tdiv_eq_ediv_of_nonneg h0,J9 _ (by omega),J9 _ (by omega),Int.pow_succ,←Int.ediv_ediv_of_nonneg (Int.pow_nonneg (by decide))]
   congr 3
   omega
  ·simp only [Jw];rw [if_neg (by omega)]
 unfold Kz WE;rw [loop,DJ,DJ,Int.tmod_eq_emod_of_nonneg (Qa mask a h.1)];rfl
theorem rD(x:List Int)(k:Nat)(h:k+1<x.length)(e:x.getD k default=x.getD (k+1) default):x.eraseIdx k=x.eraseIdx (k+1):=by
 rw [Am _ _ (by omega),Am _ _ h]at e
 refine List.ext_getElem (by rw [List.length_eraseIdx_of_lt (by omega),List.length_eraseIdx_of_lt h]) fun i h1 h2=> ?_
 rw [List.getElem_eraseIdx,List.getElem_eraseIdx];by_cases c1:i<k
 ·rw [dif_pos c1,dif_pos (by omega)]
 ·rw [dif_neg c1];by_cases c2:i<k+1
  ·rw [dif_pos c2];have:i=k:=by omega
   subst this;exact e.symm
  ·rw [dif_neg c2]
theorem zh(L:List Int)(Ls:List (List Int))(x:List Int):(List.range x.length).any (fun j=> !(decide (0<j)&&decide (x.getD (j-1) default=x.getD j default))&&(L.contains (x.getD j default)&&Yb Ls (x.eraseIdx j)))=Yb (L::Ls) x:=by
 have e:Yb (L::Ls) x=(List.range x.length).any fun j=>L.contains (x.getD j default)&&Yb Ls (x.eraseIdx j):=rfl;rw [e,Rt,WJ,WJ]
 constructor
 ·rintro⟨j,hj,h⟩
  rw [Fa]at h
  exact⟨j,hj,h.2⟩
 ·have key: ∀j,j<x.length→(L.contains (x.getD j default)&&Yb Ls (x.eraseIdx j))=true→ ∃y,y∈List.range x.length∧(!(decide (0<y)&&decide (x.getD (y-1) default=x.getD y default))&&(L.contains (x.getD y default)&&Yb Ls (x.eraseIdx y)))=true:=by
   intro j
   induction j with
   |zero=>intro hj h;exact⟨0,Mw.2 hj,by rw [h];rfl⟩
   |succ j ih=>
    intro hj h;by_cases c:x.getD j default=x.getD (j+1) default
    ·exact ih (by omega) (by rw [c,rD x j hj c];exact h)
    ·refine⟨j+1,Mw.2 hj, ?_⟩
     rw [h,Nat.add_sub_cancel,decide_eq_false c];simp
  rintro⟨j,hj,h⟩
  exact key j (Mw.1 hj) h
structure RelM(Ls:List (List Int))(masks:List Int):Prop where
 len:masks.length=Ls.length
 rng: ∀k,k<masks.length→0≤masks.getD k default∧masks.getD k default≤255
 has: ∀k a:Nat,k<masks.length→a<8→Dh (masks.getD k default) a=(Ls.getD k default).contains (a:Int)
theorem Yc{Ls:List (List Int)}{masks:List Int}(h:RelM Ls masks)(hl:Ls.length≤4): ∀(m k fuel:Nat) (x:List Int),m+k=Ls.length→x.length=m→m<fuel→(∀a∈x,0≤a∧a<8)→EQ fuel x masks (k:Int)=some (Yb (Ls.drop k) x)
 |0,k,0,x,_,_,hf,_=>by omega
 |0,k,fuel+1,x,hk,hx,_,_=>by
  show JX (EQ fuel) x masks (k:Int)=_
  have hm:=h.len;unfold JX;rw [if_pos (by omega),List.drop_of_length_le (by omega),ow hx];rfl
 |m+1,k,0,x,_,_,hf,_=>by omega
 |m+1,k,fuel+1,x,hk,hx,hf,ha=>by
  show JX (EQ fuel) x masks (k:Int)=_
  have hm:=h.len;have hkl:k<Ls.length:=by omega
  have hd:Ls.drop k=Ls[k]::Ls.drop (k+1):=WH hkl;have hg:Ls.getD k default=Ls[k]:=Am _ _ hkl;unfold JX;rw [if_neg (by omega),hd,←zh]
  unfold Mo;have key:=Db (fun v=>Hl (EQ fuel) x masks (k:Int) v) (fun i=>(i:Int)) x.length (fun j=> !(!(decide (0<j)&&decide (x.getD (j-1) default=x.getD j default))&&(Ls[k].contains (x.getD j default)&&Yb (Ls.drop (k+1)) (x.eraseIdx j)))) (.inl ()) (.inr ()) ?_ ?_
  ·rw [GY]at key;rw [key,DJ];have: ∀(l:List Nat) (p:Nat→Bool),(l.all fun j=> !p j)= !(l.any p):=fun l p=>by induction l<;>simp_all
   rw [this]
   cases (List.range x.length).any fun j=> !(decide (0<j)&&decide (x.getD (j-1) default=x.getD j default))&&(Ls[k].contains (x.getD j default)&&Yb (Ls.drop (k+1)) (x.eraseIdx j))<;>rfl
  ·intro i hi;have hai:=ha _ (OA hi);have e1:IntKind.i64.wrap ((i:Int)+1)=((i+1:Nat):Int):=Kh i (by omega)
   have e2:IntKind.i64.wrap ((k:Int)+1)=((k+1:Nat):Int):=Kh k (by omega)
   have hr:=h.rng k (by omega)
   have hh:=h.has k x[i].toNat (by omega) (by omega)
   have ex:((x[i].toNat:Nat):Int)=x[i]:=by omega
   have es:Kz (masks.getD k default) (x.getD i default)=some (Ls[k].contains (x.getD i default)):=by
    rw [Am _ _ hi,←ex,Uf _ _ hr (by omega),hh,hg]
   have er:(x.take i).drop 0++(x.take x.length).drop (i+1)=x.eraseIdx i:=by
    rw [Ru,List.take_length,List.eraseIdx_eq_take_drop_succ]
   have hrec:=Yc h hl m (k+1) fuel (x.eraseIdx i) (by omega) (by rw [List.length_eraseIdx_of_lt hi];omega) (by omega) (fun a hm=>ha a (List.mem_of_mem_eraseIdx hm))
   have lt1:(x.take i).length≤x.length:=by rw [Rq];omega
   have lt2:(x.drop (i+1)).length≤x.length:=by rw [List.length_drop];omega
   have body: ∀ {α:Type} (q:Bool→Option α),((Kz (masks.getD k default) (x.getD i default)).bind fun r=>if r=true then(ck (0≤(i:Int))<|ck (i≤x.length)<|(Lg ((x.take i).drop 0)).bind fun r12=>ck (0≤((i+1:Nat):Int))<|ck (i+1≤x.length)<|ck (r12.length+((x.take x.length).drop (i+1)).length<1099511627776)<|(EQ fuel (r12++(x.take x.length).drop (i+1)) masks ((k+1:Nat):Int)).bind q)else q false)=
     q (Ls[k].contains (x.getD i default)&&Yb (Ls.drop (k+1)) (x.eraseIdx i)):=by
    intro α q;rw [es,DJ]
    cases Ls[k].contains (x.getD i default)with
    |false=>rw [if_neg (by decide)];rfl
    |true=>
     unfold Lg;rw [if_pos rfl,BJ (by omega),BJ (by omega),BJ (by rw [Ru];omega),DJ,BJ (by omega),BJ (by omega),BJ (by rw [Ru,List.take_length];omega),er,hrec,DJ,OH]
   have b0:=body (fun r=>if r=true then some (Sum.inr (Sum.inl ()))else(some (Sum.inl ((i+1:Nat):Int)):Option (Int⊕(Unit⊕Unit))))
   simp only [Md,if_false]at b0;simp only [Hl,IV,e1,e2];rw [if_pos (CJ hi),BJ (by omega)]
   by_cases c:0<i
   ·have e3:IntKind.i64.wrap ((i:Int)-1)=((i-1:Nat):Int):=by rw [J9 _ (by omega)];omega
    rw [if_pos (by omega),e3,IV,BJ (by omega)]
    by_cases c2:x.getD (i-1) default=x.getD i default
    ·rw [if_pos c2,decide_eq_true c2,decide_eq_true c];rfl
    ·rw [if_neg c2,BJ (by omega),b0,decide_eq_false c2,Bool.and_false,Bool.not_false,OH]
     cases (Ls[k].contains (x.getD i default)&&Yb (Ls.drop (k+1)) (x.eraseIdx i))<;>rfl
   ·rw [if_neg (by omega),BJ (by omega),b0,decide_eq_false c,Bool.false_and,Bool.not_false,OH]
    cases (Ls[k].contains (x.getD i default)&&Yb (Ls.drop (k+1)) (x.eraseIdx i))<;>rfl
  ·simp only [Hl];rw [if_neg (Ar _)]
theorem Rl{α:Type}(p:α→Bool): ∀l:List α,(l.all fun c=> !p c)= !(l.any p)
 | []=>rfl
 |a::l=>by rw [VF,List.any_cons,Rl p l];cases p a<;>rfl
theorem jb{Ls:List (List Int)}{masks:List Int}(h:RelM Ls masks)(hl:Ls.length≤4)(n D:Int)(ns es:List (List Int))(hn:ns.length<1099511627776)(hc: ∀c∈ns,c.length=Ls.length∧ ∀a∈c,0≤a∧a<8):NU n D ns es masks=some (ns.any (Yb Ls)):=by
 unfold NU Lm;have key:=Db (fun v=>Fp ns masks v) (fun i=>(i:Int)) ns.length (fun j=> !Yb Ls (ns.getD j default)) (.inl ()) (.inr ()) ?_ ?_
 ·rw [GY]at key;rw [key,DJ,NK (fun c=> !Yb Ls c)];rw [Rl]
  cases ns.any (Yb Ls)<;>rfl
 ·intro i hi;have hm:=hc _ (OA hi);simp only [Fp,IV,Am _ _ hi];rw [if_pos (CJ hi),BJ (by omega)]
  have:=Yc h hl Ls.length 0 1000000 ns[i] (by omega) hm.1 (by omega) hm.2
  rw [GY,Ru]at this;unfold UV;rw [this,DJ,Kh i (by omega)]
  cases Yb Ls ns[i]<;>rfl
 ·simp only [Fp];rw [if_neg (Ar _)]
theorem zi{ns:List (List Int)}(Ls:List (List Int))(hs: ∀c∈ns,c.Pairwise fun a b=>a≤b):rC (fun c=>ns.contains (LK c)) Ls []=ns.any (Yb Ls):=by
 rw [Rt,fO,WJ]
 constructor
 ·rintro⟨d,h1,h2⟩
  rw [NV]at h2;have h2:=RP.1 h2
  exact⟨_,h2,(WF Ls _).2 ⟨d,h1,(NN d).symm⟩⟩
 ·rintro⟨c,hc,h⟩
  obtain⟨d,h1,h2⟩:=(WF Ls c).1 h
  refine⟨d,h1, ?_⟩
  rw [NV];have:LK d=c:=List.Perm.eq_of_pairwise (le:=fun a b:Int=>a≤b) (fun a b _ _ h1 h2=>Int.le_antisymm h1 h2) (Re d) (hs c hc) ((NN d).trans h2)
  rw [this];exact RP.2 hc
end Go.Proofs.YtiehjihckndgkaaGreat
