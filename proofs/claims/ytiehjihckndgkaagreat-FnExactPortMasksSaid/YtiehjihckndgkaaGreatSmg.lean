/- Greatest sets of labels of ports: program and reference agree. Conditions: those in each lemma. -/
import Derived.Test.YtiehjihckndgkaaGreatL6
import Derived.Test.YtiehjihckndgkaaGreatSme
namespace Go.Proofs.YtiehjihckndgkaaGreat
open Go Dv
set_option linter.unusedSimpArgs false
set_option linter.unusedVariables false
set_option maxRecDepth 100000
theorem xS{α:Type}(g:α→α)(l:List α)(k:Nat)(hk:k<l.length)(x:α):((l.take k).map g++l.drop k).set k x=(l.take k).map g++x::l.drop (k+1):=by
 rw [jr _ _ (by simp;omega),WH hk]
 have:k-((l.take k).map g).length=0:=by simp;omega
 rw [this];rfl
theorem jh{α:Type}[Inhabited α](g:α→α)(l:List α)(k:Nat)(hk:k<l.length):((l.take k).map g++l.drop k).set k (g (l.getD k default))=(l.take (k+1)).map g++l.drop (k+1):=by
 rw [xS g l k hk,jo hk,List.map_append,Qy,Am _ _ hk];rfl
theorem ol{α:Type}[Inhabited α](g:α→α)(l:List α)(k:Nat)(hk:k<l.length):((l.take k).map g++l.drop k).getD k default=l.getD k default:=by
 rw [MQ,Qv (by simp [Nat.min_le_left])]
 have:k-((l.take k).map g).length=0:=by simp;omega
 rw [this,Pk,Nat.add_zero,←MQ]
theorem oo{α:Type}(g:α→α)(l:List α)(k:Nat)(hk:k≤l.length):((l.take k).map g++l.drop k).length=l.length:=by simp;omega
theorem oq{α:Type}[Inhabited α](f:List α×Int→Option ((List α×Int)⊕List α))(g:α→α)(l:List α)
  (h: ∀(k:Nat) (o:List α),k<l.length→o.length=l.length→o.getD k default=l.getD k default→f (o,(k:Int))=some (.inl (o.set k (g (l.getD k default)),((k+1:Nat):Int))))
  (e: ∀o,f (o,(l.length:Int))=some (.inr o)):I4 f (l,0)=some (l.map g):=by
 have key:=EX f (fun k=>((l.take k).map g++l.drop k,(k:Int))) l.length (l.map g) ?_ ?_
 ·simpa using key
 ·intro k hk;rw [h k _ hk (oo g l k (by omega)) (ol g l k hk),jh g l k hk]
 ·rw [e,List.take_length,List.drop_length,WK]
theorem xU{α:Type}[Inhabited α](l:List α)(v:Nat)(hv:v<l.length):l.set v (l.getD v default)=l:=by
 rw [Am _ _ hv,List.set_getElem_self]
theorem ji{α:Type}[Inhabited α](l:List α)(v:Nat)(x:α)(hv:v<l.length):(l.set v x).getD v default=x:=by
 rw [Am _ _ (by rw [MR];exact hv),oz]
theorem aO(f:List (List Int)×Int→Option ((List (List Int)×Int)⊕List (List Int)))(g:Int→Int)(M:List (List Int))(v:Nat)(hv:v<M.length)
  (h: ∀(k:Nat) (M':List (List Int)),k<(M.getD v default).length→M'.length=M.length→(M'.getD v default).length=(M.getD v default).length→(M'.getD v default).getD k default=(M.getD v default).getD k default→f (M',(k:Int))=some (.inl (M'.set v ((M'.getD v default).set k (g ((M.getD v default).getD k default))),((k+1:Nat):Int))))
  (e: ∀M',f (M',((M.getD v default).length:Int))=some (.inr M')):I4 f (M,0)=some (M.set v ((M.getD v default).map g)):=by
 have key:=EX f (fun k=>(M.set v (((M.getD v default).take k).map g++(M.getD v default).drop k),(k:Int))) (M.getD v default).length (M.set v ((M.getD v default).map g)) ?_ ?_
 ·simp only [Yk,List.map_nil,Ru,NV,xU M v hv,GY]at key;exact key
 ·intro k hk;have hg:(M.set v (((M.getD v default).take k).map g++(M.getD v default).drop k)).getD v default=((M.getD v default).take k).map g++(M.getD v default).drop k:=ji M v _ hv;rw [h k _ hk (by rw [MR]) (by rw [hg,oo g _ k (by omega)]) (by rw [hg,ol g _ k hk]),hg,List.set_set,jh g _ k hk]
 ·rw [e,List.take_length,List.drop_length,WK]
theorem zy(l:List (List Int))(h:BB l):MF l=some l:=by
 unfold MF;have h1:=h.1;rw [BJ (by omega)]
 have key:=EX (fun v=>Ez l v.1 v.2) (fun i=>(l.take i++List.replicate (l.length-i) [],(i:Int))) l.length l ?_ ?_
 ·unfold Kv;have e:((0:Nat):Int)=0:=rfl;simp only [e,Nat.sub_zero,Yk,NV]at key;rw [key];rfl
 ·intro i hi
  have e1:(l.take i++List.replicate (l.length-i) []).set i l[i]=l.take (i+1)++List.replicate (l.length-(i+1)) ([]:List Int):=by
   rw [jr _ _ (by simp;omega)]
   have:i-(l.take i).length=0:=by simp;omega
   rw [this,jo hi,Qy,show l.length-i=(l.length-(i+1))+1 by omega,p8];rfl
  simp only [Ez,IV];rw [if_pos (CJ hi),BJ (by omega),BJ (h.getD i),BJ (by simp;omega),Kh i (by omega),Am _ _ hi,e1]
 ·simp only [Ez];rw [if_neg (Ar _)]
  simp
theorem ou(l:List (List Int))(h:BB l):Oo l=some l:=by
 have h1:=h.1;unfold Oo O6;have key:=uq (fun v=>J2 l v.1 v.2) l (fun x=>x) ?_ ?_
 ·rw [key,List.map_id'];rfl
 ·intro i hi out ho;simp only [J2,Lg,IV];rw [if_pos (CJ hi),BJ (by omega),BJ (by have:=h.getD i;omega),DJ,BJ (by omega),Kh i (by omega),Am _ _ hi]
 ·intro out ho;simp only [J2];rw [if_neg (Ar _)]
def Qb(n:Nat)(a:Int):Int:=if a<0 then 2 ^ n-1 else 2 ^ a.toNat
def Ie(n:Nat)(l:List (List Int)):List (List Int):=l.map fun row=>row.map (Qb n)
structure ShpL(en:List (List (Int×Int)))(n:Nat)(l:List (List Int)):Prop where
 len:l.length=en.length
 row: ∀v,v<en.length→(l.getD v default).length=(en.getD v default).length
 rng: ∀v i,v<en.length→i<(en.getD v default).length→ -1≤(l.getD v default).getD i default∧(l.getD v default).getD i default<n
theorem jk(n:Nat)(hn:n≤8):IntKind.i64.wrap (IntKind.i64.wrap (1*2 ^ (min n IntKind.i64.bits))-1)=2 ^ n-1:=by
 have h1:=A60 hn;have h2:(0:Int)<2 ^ n:=Int.pow_pos (by decide)
 rw [Ye n hn,J9 _ (by omega)]
theorem aP(n:Nat)(l:List (List Int))(v:Nat)(hv:v<l.length):(Ie n l).getD v default=(l.getD v default).map (Qb n):=by
 unfold Ie;rw [Am _ _ (by rw [VD];exact hv),List.getElem_map,Am _ _ hv]
theorem jl{en:List (List (Int×Int))}{n:Nat}{l:List (List Int)}(h:ShpL en n l):OkM en n (Ie n l):=by
 have hl:=h.len
 refine⟨by unfold Ie;rw [VD,hl],fun v hv=> ?_,fun v i hv hi=> ?_⟩
 ·rw [aP n l v (by omega),VD];exact h.row v hv
 ·have hr:=h.row v hv;have hx:=h.rng v i hv hi;unfold Qu;rw [aP n l v (by omega),Am _ _ (by rw [VD];omega),List.getElem_map]
  rw [Am _ _ (by omega)]at hx
  unfold Qb;have hp:(0:Int)<2 ^ n:=Int.pow_pos (by decide)
  split
  ·omega
  ·refine⟨Int.le_of_lt (Int.pow_pos (by decide)), ?_⟩
   have:(2:Nat) ^ (l.getD v default)[i].toNat<2 ^ n:=Nat.pow_lt_pow_right (by decide) (by omega)
   exact_mod_cast this
section
variable {en:List (List (Int×Int))} {ns es:List (List Int)} {n D:Nat} (C:Ctx en ns es n D) (ids inp:List Int)
include C
theorem nJ(l:List (List Int))(h:ShpL en n l):JV (n:Int) (D:Int) ns es en ids inp l (l,0)=some (Ie n l):=by
 have hn:=C.hn;have hb:=C.hN.big;have hl:=h.len;unfold JV;refine oq (fun w=>F5 (n:Int) (D:Int) ns es en ids inp l w.1 w.2) (fun row=>row.map (Qb n)) l ?_ ?_
 ·intro v o hv ho hg;have hr:=h.row v (by omega)
  have hd:=C.hN.deg v (by omega)
  simp only [F5]
  have inner:JU (n:Int) (D:Int) ns es en ids inp l (v:Int) (o,0)=some (o.set v ((o.getD v default).map (Qb n))):=by
   unfold JU;refine aO (fun w=>F4 (n:Int) (D:Int) ns es en ids inp l (v:Int) w.1 w.2) (Qb n) o v (by omega) ?_ ?_
   ·intro k M' hk hM' hrow hget;rw [hg]at hk hrow hget ⊢;have hx:=h.rng v k (by omega) (by omega)
    simp only [F4,IV,jk n hn];rw [if_pos (CJ hk),BJ (by omega),BJ (by omega),BJ (by omega),BJ (by omega),Kh k (by omega)]
    unfold Qb;by_cases c:0≤(l.getD v default).getD k default
    ·rw [if_pos c,if_neg (by omega),BJ (by omega)]
     have hq:(M'.set v ((M'.getD v default).set k (2 ^ n-1))).getD v default=(M'.getD v default).set k (2 ^ n-1):=ji _ _ _ (by omega)
     rw [hq,BJ (by rw [MR];omega),Ye _ (by omega),List.set_set,List.set_set]
    ·rw [if_neg c,if_pos (by omega)]
   ·intro M';rw [hg];simp only [F4,IV];rw [if_neg (by omega)]
  rw [if_pos (CJ hv),BJ (by omega),inner,DJ,hg,Kh v (by omega)]
 ·intro o;simp only [F5];rw [if_neg (Ar _)]
theorem rH(l:List (List Int))(h:ShpL en n l)(hs:BB l):QY (n:Int) (D:Int) ns es l=some (Ie n l):=by
 have hn:=C.hn;have hb:=C.hN.big;have hl:=h.len;have hu: ∀a:Int,0≤a∧a<1000→IntKind.u64.wrap a=a:=fun a ha=>TQ _ (by omega)
 have outer:MK (n:Int) (D:Int) ns es l (l,0)=some (Ie n l):=by
  unfold MK;refine oq (fun w=>J5 (n:Int) (D:Int) ns es l w.1 w.2) (fun row=>row.map (Qb n)) l ?_ ?_
  ·intro v o hv ho hg;have hr:=h.row v (by omega)
   have hd:=C.hN.deg v (by omega)
   simp only [J5]
   have inner:MJ (n:Int) (D:Int) ns es l o (v:Int) (o,0)=some (o.set v ((o.getD v default).map (Qb n))):=by
    unfold MJ;refine aO (fun w=>J4 (n:Int) (D:Int) ns es l o (v:Int) w.1 w.2) (Qb n) o v (by omega) ?_ ?_
    ·intro k M' hk hM' hrow hget;rw [hg]at hk hrow hget ⊢;have hx:=h.rng v k (by omega) (by omega)
     simp only [J4,IV,hget,hg];rw [if_pos (CJ hk),BJ (by omega),BJ (by omega),Kh k (by omega)]
     unfold Qb;by_cases c:(l.getD v default).getD k default<0
     ·rw [if_pos c,if_pos c,hu _ (by omega),BJ (by omega),BJ (by omega),IV,jk n hn]
     ·rw [if_neg c,if_neg c,hu _ (by omega),BJ (by omega),BJ (by omega),Ye _ (by omega)]
    ·intro M';simp only [J4,IV];rw [if_neg (by omega)]
   rw [if_pos (CJ hv),BJ (by omega),inner,DJ,hg,Kh v (by omega)]
  ·intro o;simp only [J5];rw [if_neg (Ar _)]
 unfold QY;rw [ou l hs,DJ,outer];rfl
def R9(en:List (List (Int×Int)))(ns es:List (List Int))(n D:Nat)(M:List (List Int)):List (List Int):=jf (JF en ns es n D) n en ((wt M).toNat+1) M
omit C in
theorem OkM.short{M:List (List Int)}(hN:NetOk en)(h:OkM en n M):BB M:=by
 have hb:=hN.big;have hl:=h.len
 refine⟨by omega,fun x hx=> ?_⟩
 obtain⟨v,hv,rfl⟩:=VB hx;have:=h.row v (by omega)
 have:=hN.deg v (by omega)
 rw [Am _ _ hv]at*;omega
theorem A65{M:List (List Int)}(h:OkM en n M):OkM en n (R9 en ns es n D M):=(Yf C [] [] ((wt M).toNat+1) M h (by have:=h.nonneg;omega)).2
theorem nK{M:List (List Int)}(h:OkM en n M):Oq (n:Int) (D:Int) ns es en ids inp M=some (R9 en ns es n D M):=by
 unfold Oq;rw [ou M (h.short C.hN),DJ,jg C ids inp _ M h (by have:=h.nonneg;omega:wt M<(((wt M).toNat+1:Nat):Int))];rfl
theorem Yg(l:List (List Int))(h:ShpL en n l)(hs:BB l):MH (n:Int) (D:Int) ns es en ids inp l=some (if(R9 en ns es n D (Ie n l)).all (fun row=> !row.contains (0:Int))=true then(R9 en ns es n D (Ie n l),true)else([],false)):=by
 have hM:=jl h;have hF:=Yf C ids inp ((wt (Ie n l)).toNat+1) (Ie n l) hM (by have:=hM.nonneg;omega)
 have hG:OkM en n (R9 en ns es n D (Ie n l)):=hF.2;have sG:=hG.short C.hN;have sG1:=sG.1;unfold MH;rw [zy l hs,DJ,nJ C ids inp l h,DJ,hF.1,DJ];have key:=Db (fun w=>F6 ((n:Int),(D:Int),ns,es,en,ids,inp,R9 en ns es n D (Ie n l)) w) (fun j=>(j:Int)) (R9 en ns es n D (Ie n l)).length (fun j=> !((R9 en ns es n D (Ie n l)).getD j default).contains (0:Int)) (.inl ()) (.inr ()) ?_ ?_
 ·rw [GY]at key;have key2:Ky ((n:Int),(D:Int),ns,es,en,ids,inp,jf (JF en ns es n D) n en ((wt (Ie n l)).toNat+1) (Ie n l)) 0=_:=key;rw [key2,DJ,NK (fun row:List Int=> !row.contains (0:Int))]
  cases (R9 en ns es n D (Ie n l)).all (fun row=> !row.contains (0:Int))<;>rfl
 ·intro j hj;simp only [F6,IV];rw [if_pos (CJ hj),BJ (by omega),BJ (sG.getD j),Kh j (by omega)]
  by_cases hc:((R9 en ns es n D (Ie n l)).getD j default).contains (0:Int)=true
  ·rw [if_pos hc,hc];rfl
  ·rw [if_neg hc,Fx.2 hc];rfl
 ·simp only [F6];rw [if_neg (Ar _)]
end
end Go.Proofs.YtiehjihckndgkaaGreat
