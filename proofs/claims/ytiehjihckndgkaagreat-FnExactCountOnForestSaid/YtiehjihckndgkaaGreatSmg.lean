/- Greatest sets of labels of ports: program and reference agree. Conditions: those in each lemma. -/
import Derived.Test.YtiehjihckndgkaaGreatL6
import Derived.Test.YtiehjihckndgkaaGreatSme
namespace Go.Proofs.YtiehjihckndgkaaGreat
open Go Dv
set_option linter.unusedSimpArgs false
set_option linter.unusedVariables false
set_option maxRecDepth 100000
theorem A2r{α:Type}(g:α→α)(l:List α)(k:Nat)(hk:k<l.length)(x:α):((l.take k).map g++l.drop k).set k x=(l.take k).map g++x::l.drop (k+1):=by
 rw [List.set_append_right _ _ (by simp;omega),ed hk]
 have:k-((l.take k).map g).length=0:=by simp;omega
 rw [this];rfl
theorem rz{α:Type}[Inhabited α](g:α→α)(l:List α)(k:Nat)(hk:k<l.length):((l.take k).map g++l.drop k).set k (g (l.getD k default))=(l.take (k+1)).map g++l.drop (k+1):=by
 rw [A2r g l k hk,jh hk,List.map_append,OC,Ao _ _ hk];rfl
theorem yD{α:Type}[Inhabited α](g:α→α)(l:List α)(k:Nat)(hk:k<l.length):((l.take k).map g++l.drop k).getD k default=l.getD k default:=by
 rw [Le,RN (by simp [Nat.min_le_left])]
 have:k-((l.take k).map g).length=0:=by simp;omega
 rw [this,Sc,YE,←Le]
theorem yE{α:Type}(g:α→α)(l:List α)(k:Nat)(hk:k≤l.length):((l.take k).map g++l.drop k).length=l.length:=by simp;omega
theorem A4z{α:Type}[Inhabited α](f:List α×Int→Option ((List α×Int)⊕List α))(g:α→α)(l:List α)
  (h: ∀(k:Nat) (o:List α),k<l.length→o.length=l.length→o.getD k default=l.getD k default→f (o,(k:Int))=some (.inl (o.set k (g (l.getD k default)),((k+1:Nat):Int))))
  (e: ∀o,f (o,(l.length:Int))=some (.inr o)):Fb f (l,0)=some (l.map g):=by
 have key:=Cf f (fun k=>((l.take k).map g++l.drop k,(k:Int))) l.length (l.map g) ?_ ?_
 ·simpa using key
 ·intro k hk;rw [h k _ hk (yE g l k (by omega)) (yD g l k hk),rz g l k hk]
 ·rw [e,oQ,List.drop_length,VD]
theorem WX{α:Type}[Inhabited α](l:List α)(v:Nat)(hv:v<l.length):l.set v (l.getD v default)=l:=by
 rw [Ao _ _ hv,List.set_getElem_self]
theorem dm{α:Type}[Inhabited α](l:List α)(v:Nat)(x:α)(hv:v<l.length):(l.set v x).getD v default=x:=by
 rw [Ao _ _ (by rw [Ki];exact hv),oK]
theorem A01(f:AY×Int→Option ((AY×Int)⊕AY))(g:Int→Int)(M:AY)(v:Nat)(hv:v<M.length)
  (h: ∀(k:Nat) (M':AY),k<(M.getD v default).length→M'.length=M.length→(M'.getD v default).length=(M.getD v default).length→(M'.getD v default).getD k default=(M.getD v default).getD k default→f (M',(k:Int))=some (.inl (M'.set v ((M'.getD v default).set k (g ((M.getD v default).getD k default))),((k+1:Nat):Int))))
  (e: ∀M',f (M',((M.getD v default).length:Int))=some (.inr M')):Fb f (M,0)=some (M.set v ((M.getD v default).map g)):=by
 have key:=Cf f (fun k=>(M.set v (((M.getD v default).take k).map g++(M.getD v default).drop k),(k:Int))) (M.getD v default).length (M.set v ((M.getD v default).map g)) ?_ ?_
 ·simp only [ZB,List.map_nil,YC,Ue,WX M v hv,Gn]at key;exact key
 ·intro k hk;have hg:(M.set v (((M.getD v default).take k).map g++(M.getD v default).drop k)).getD v default=((M.getD v default).take k).map g++(M.getD v default).drop k:=dm M v _ hv;rw [h k _ hk (by rw [Ki]) (by rw [hg,yE g _ k (by omega)]) (by rw [hg,yD g _ k hk]),hg,List.set_set,rz g _ k hk]
 ·rw [e,oQ,List.drop_length,VD]
theorem A50(l:AY)(h:Bv l):TV l=some l:=by
 have h1:=h.1;unfold TV QQ;have key:=PZ (fun v=>Jg l v.1 v.2) l (fun x=>x) ?_ ?_
 ·rw [key,List.map_id'];rfl
 ·intro i hi out ho;simp only [Jg,Ku,EC];rw [if_pos (CL hi),BL (by omega),BL (by have:=h.getD i;omega),Cz,BL (by omega),K4 i (by omega),Ao _ _ hi]
 ·intro out ho;simp only [Jg];rw [if_neg (Az _)]
def Y5(n:Nat)(a:Int):Int:=if a<0 then 2 ^ n-1 else 2 ^ a.toNat
def Y6(n:Nat)(l:AY):AY:=l.map fun row=>row.map (Y5 n)
structure ShpL(en:List (List (Int×Int)))(n:Nat)(l:AY):Prop where
 len:l.length=en.length
 row: ∀v,v<en.length→(l.getD v default).length=(en.getD v default).length
 rng: ∀v i,v<en.length→i<(en.getD v default).length→ -1≤(l.getD v default).getD i default∧(l.getD v default).getD i default<n
theorem A2s(n:Nat)(hn:n≤8):IntKind.i64.wrap (IntKind.i64.wrap (1*2 ^ (min n IntKind.i64.bits))-1)=2 ^ n-1:=by
 have h1:=ABW hn;have h2:(0:Int)<2 ^ n:=Int.pow_pos (by decide)
 rw [A2q n hn,I7 _ (by omega)]
theorem XU(n:Nat)(l:AY)(v:Nat)(hv:v<l.length):(Y6 n l).getD v default=(l.getD v default).map (Y5 n):=by
 unfold Y6;rw [Ao _ _ (by rw [SI];exact hv),Ni,Ao _ _ hv]
theorem A2t{en:List (List (Int×Int))}{n:Nat}{l:AY}(h:ShpL en n l):OkM en n (Y6 n l):=by
 have hl:=h.len
 refine⟨by unfold Y6;rw [SI,hl],fun v hv=> ?_,fun v i hv hi=> ?_⟩
 ·rw [XU n l v (by omega),SI];exact h.row v hv
 ·have hr:=h.row v hv;have hx:=h.rng v i hv hi;unfold mk2;rw [XU n l v (by omega),Ao _ _ (by rw [SI];omega),Ni]
  rw [Ao _ _ (by omega)]at hx
  unfold Y5;have hp:(0:Int)<2 ^ n:=Int.pow_pos (by decide)
  split
  ·omega
  ·refine⟨Int.le_of_lt (Int.pow_pos (by decide)), ?_⟩
   have:(2:Nat) ^ (l.getD v default)[i].toNat<2 ^ n:=Nat.pow_lt_pow_right (by decide) (by omega)
   exact_mod_cast this
section
variable {en:List (List (Int×Int))} {ns es:AY} {n D:Nat} (C:Ctx en ns es n D) (ids inp:AB)
include C
theorem A02(l:AY)(h:ShpL en n l)(hs:Bv l):TW (n:Int) (D:Int) ns es l=some (Y6 n l):=by
 have hn:=C.hn;have hb:=C.hN.big;have hl:=h.len;have hu: ∀a:Int,0≤a∧a<1000→IntKind.u64.wrap a=a:=fun a ha=>bU _ (by omega)
 have outer:O0 (n:Int) (D:Int) ns es l (l,0)=some (Y6 n l):=by
  unfold O0;refine A4z (fun w=>Jj (n:Int) (D:Int) ns es l w.1 w.2) (fun row=>row.map (Y5 n)) l ?_ ?_
  ·intro v o hv ho hg;have hr:=h.row v (by omega)
   have hd:=C.hN.deg v (by omega)
   simp only [Jj]
   have inner:Nz (n:Int) (D:Int) ns es l o (v:Int) (o,0)=some (o.set v ((o.getD v default).map (Y5 n))):=by
    unfold Nz;refine A01 (fun w=>Ji (n:Int) (D:Int) ns es l o (v:Int) w.1 w.2) (Y5 n) o v (by omega) ?_ ?_
    ·intro k M' hk hM' hrow hget;rw [hg]at hk hrow hget ⊢;have hx:=h.rng v k (by omega) (by omega)
     simp only [Ji,EC,hget,hg];rw [if_pos (CL hk),BL (by omega),BL (by omega),K4 k (by omega)]
     unfold Y5;by_cases c:(l.getD v default).getD k default<0
     ·rw [if_pos c,if_pos c,hu _ (by omega),BL (by omega),BL (by omega),EC,A2s n hn]
     ·rw [if_neg c,if_neg c,hu _ (by omega),BL (by omega),BL (by omega),A2q _ (by omega)]
    ·intro M';simp only [Ji,EC];rw [if_neg (by omega)]
   rw [if_pos (CL hv),BL (by omega),inner,Cz,hg,K4 v (by omega)]
  ·intro o;simp only [Jj];rw [if_neg (Az _)]
 unfold TW;rw [A50 l hs,Cz,outer];rfl
omit C in
theorem OkM.short{M:AY}(hN:NetOk en)(h:OkM en n M):Bv M:=by
 have hb:=hN.big;have hl:=h.len
 refine⟨by omega,fun x hx=> ?_⟩
 obtain⟨v,hv,rfl⟩:=jm hx;have:=h.row v (by omega)
 have:=hN.deg v (by omega)
 rw [Ao _ _ hv]at*;omega
end
end Go.Proofs.YtiehjihckndgkaaGreat
