/- Functions of the program as plain functions, and what they compute. Conditions: those in each lemma. -/
import Derived.Test.YtiehjihckndgkaaGreatL6
import Derived.Test.YtiehjihckndgkaaGreatSme
import Derived.Test.YtiehjihckndgkaaGreatRep
import Derived.Test.YtiehjihckndgkaaGreatDstA
open Inhabited renaming default → be
open List renaming range → ao,replicate → ap,set_set → cg,countP_append → cj,countP_singleton → cm,map_append → co,countP_le_length → cq,any_eq_false → cr,mem_append_left → cv,mem_append_right → cw
open Go.IntKind renaming i64 → bm
open Int renaming pow_pos → cc
open Nat renaming pow_lt_pow_right → ct
open Classical renaming byContradiction → cx
noncomputable section
namespace Go.Proofs.YtiehjihckndgkaaGreat
open Go Dv
set_option linter.unusedSimpArgs false
set_option linter.unusedVariables false
set_option maxRecDepth 100000
theorem A5i{α:Type}(g:α→α)(l:List α)(k:Nat)(hk:k<l.length)(x:α):((l.take k).map g++l.drop k).set k x=(l.take k).map g++x::l.drop (k+1):=by
 rw [mX _ _ (by simp;omega),ZN hk]
 have:k-((l.take k).map g).length=0:=by simp;omega
 rw [this];rfl
theorem wh{α:Type}[Inhabited α](g:α→α)(l:List α)(k:Nat)(hk:k<l.length):((l.take k).map g++l.drop k).set k (g (l.getD k be))=(l.take (k+1)).map g++l.drop (k+1):=by
 rw [A5i g l k hk,mV hk,co,NV,Ad _ _ hk];rfl
theorem A0s{α:Type}[Inhabited α](g:α→α)(l:List α)(k:Nat)(hk:k<l.length):((l.take k).map g++l.drop k).getD k be=l.getD k be:=by
 rw [Lh,TE (by simp [Nat.min_le_left])]
 have:k-((l.take k).map g).length=0:=by simp;omega
 rw [this,TS,Nat.add_zero,←Lh]
theorem A0t{α:Type}(g:α→α)(l:List α)(k:Nat)(hk:k≤l.length):((l.take k).map g++l.drop k).length=l.length:=by simp;omega
theorem A0u{α:Type}[Inhabited α](f:List α×Int→Option ((List α×Int)⊕List α))(g:α→α)(l:List α)
  (h: ∀(k:Nat) (o:List α),k<l.length→o.length=l.length→o.getD k be=l.getD k be→f (o,(k:Int))=some (.inl (o.set k (g (l.getD k be)),((k+1:Nat):Int))))
  (e: ∀o,f (o,(l.length:Int))=some (.inr o)):E9 f (l,0)=some (l.map g):=by
 have key:=CO f (fun k=>((l.take k).map g++l.drop k,(k:Int))) l.length (l.map g) ?_ ?_
 ·simpa using key
 ·intro k hk;rw [h k _ hk (A0t g l k (by omega)) (A0s g l k hk),wh g l k hk]
 ·rw [e,List.take_length,List.drop_length,V8]
theorem A5j{α:Type}[Inhabited α](l:List α)(v:Nat)(hv:v<l.length):l.set v (l.getD v be)=l:=by
 rw [Ad _ _ hv,List.set_getElem_self]
theorem ic{α:Type}[Inhabited α](l:List α)(v:Nat)(x:α)(hv:v<l.length):(l.set v x).getD v be=x:=by
 rw [Ad _ _ (by rw [Ij];exact hv),tV]
theorem mH(f:AV×Int→Option ((AV×Int)⊕AV))(g:Int→Int)(M:AV)(v:Nat)(hv:v<M.length)
  (h: ∀(k:Nat) (M':AV),k<(M.getD v be).length→M'.length=M.length→(M'.getD v be).length=(M.getD v be).length→(M'.getD v be).getD k be=(M.getD v be).getD k be→f (M',(k:Int))=some (.inl (M'.set v ((M'.getD v be).set k (g ((M.getD v be).getD k be))),((k+1:Nat):Int))))
  (e: ∀M',f (M',((M.getD v be).length:Int))=some (.inr M')):E9 f (M,0)=some (M.set v ((M.getD v be).map g)):=by
 have key:=CO f (fun k=>(M.set v (((M.getD v be).take k).map g++(M.getD v be).drop k),(k:Int))) (M.getD v be).length (M.set v ((M.getD v be).map g)) ?_ ?_
 ·simp only [bD,List.map_nil,WK,PW,A5j M v hv,Et]at key;exact key
 ·intro k hk;have hg:(M.set v (((M.getD v be).take k).map g++(M.getD v be).drop k)).getD v be=((M.getD v be).take k).map g++(M.getD v be).drop k:=ic M v _ hv;rw [h k _ hk (by rw [Ij]) (by rw [hg,A0t g _ k (by omega)]) (by rw [hg,A0s g _ k hk]),hg,cg,wh g _ k hk]
 ·rw [e,List.take_length,List.drop_length,V8]
theorem A83(l:AV)(h:BK l):OQ l=some l:=by
 unfold OQ;have h1:=h.1;rw [BC (by omega)]
 have key:=CO (fun v=>FB l v.1 v.2) (fun i=>(l.take i++ap (l.length-i) [],(i:Int))) l.length l ?_ ?_
 ·unfold Mm;have e:((0:Nat):Int)=0:=rfl;simp only [e,Nat.sub_zero,bD,PW]at key;rw [key];rfl
 ·intro i hi
  have e1:(l.take i++ap (l.length-i) []).set i l[i]=l.take (i+1)++ap (l.length-(i+1)) ([]:AU):=by
   rw [mX _ _ (by simp;omega)]
   have:i-(l.take i).length=0:=by simp;omega
   rw [this,mV hi,NV,show l.length-i=(l.length-(i+1))+1 by omega,tX];rfl
  simp only [FB,Cg];rw [if_pos (BX hi),BC (by omega),BC (h.getD i),BC (by simp;omega),Gf i (by omega),Ad _ _ hi,e1]
 ·simp only [FB];rw [if_neg (Am _)]
  simp
theorem A0v(l:AV)(h:BK l):Rm l=some l:=by
 have h1:=h.1;unfold Rm Qp;have key:=Wx (fun v=>Ji l v.1 v.2) l (fun x=>x) ?_ ?_
 ·rw [key,List.map_id'];rfl
 ·intro i hi out ho;simp only [Ji,Kw,Cg];rw [if_pos (BX hi),BC (by omega),BC (by have:=h.getD i;omega),C8,BC (by omega),Gf i (by omega),Ad _ _ hi]
 ·intro out ho;simp only [Ji];rw [if_neg (Am _)]
def Rv(n:Nat)(a:Int):Int:=if a<0 then 2 ^ n-1 else 2 ^ a.toNat
def Dc(n:Nat)(l:AV):AV:=l.map fun row=>row.map (Rv n)
structure ShpL(en:Ac)(n:Nat)(l:AV):Prop where
 len:l.length=en.length
 row: ∀v,v<en.length→(l.getD v be).length=(en.getD v be).length
 rng: ∀v i,v<en.length→i<(en.getD v be).length→ -1≤(l.getD v be).getD i be∧(l.getD v be).getD i be<n
theorem wm(n:Nat)(hn:n≤8):bm.wrap (bm.wrap (1*2 ^ (min n bm.bits))-1)=2 ^ n-1:=by
 have h1:=A7t hn;have h2:(0:Int)<2 ^ n:=cc (by decide)
 rw [Yl n hn,Ib _ (by omega)]
theorem Ym(n:Nat)(l:AV)(v:Nat)(hv:v<l.length):(Dc n l).getD v be=(l.getD v be).map (Rv n):=by
 unfold Dc;rw [Ad _ _ (by rw [Qz];exact hv),TT,Ad _ _ hv]
theorem M5{en:Ac}{n:Nat}{l:AV}(h:ShpL en n l):OkM en n (Dc n l):=by
 have hl:=h.len
 refine⟨by unfold Dc;rw [Qz,hl],fun v hv=> ?_,fun v i hv hi=> ?_⟩
 ·rw [Ym n l v (by omega),Qz];exact h.row v hv
 ·have hr:=h.row v hv;have hx:=h.rng v i hv hi;unfold Kj;rw [Ym n l v (by omega),Ad _ _ (by rw [Qz];omega),TT]
  rw [Ad _ _ (by omega)]at hx
  unfold Rv;have hp:(0:Int)<2 ^ n:=cc (by decide)
  split
  ·omega
  ·refine⟨Int.le_of_lt (cc (by decide)), ?_⟩
   have:(2:Nat) ^ (l.getD v be)[i].toNat<2 ^ n:=ct (by decide) (by omega)
   exact_mod_cast this
section
variable {en:Ac} {ns es:AV} {n D:Nat} (C:Ctx en ns es n D) (ids inp:AU)
include C
theorem za(l:AV)(h:ShpL en n l):Kb (n:Int) (D:Int) ns es en ids inp l (l,0)=some (Dc n l):=by
 have hn:=C.hn;have hb:=C.hN.big;have hl:=h.len;unfold Kb;refine A0u (fun w=>FE (n:Int) (D:Int) ns es en ids inp l w.1 w.2) (fun row=>row.map (Rv n)) l ?_ ?_
 ·intro v o hv ho hg;have hr:=h.row v (by omega)
  have hd:=C.hN.deg v (by omega)
  simp only [FE]
  have inner:Ka (n:Int) (D:Int) ns es en ids inp l (v:Int) (o,0)=some (o.set v ((o.getD v be).map (Rv n))):=by
   unfold Ka;refine mH (fun w=>FD (n:Int) (D:Int) ns es en ids inp l (v:Int) w.1 w.2) (Rv n) o v (by omega) ?_ ?_
   ·intro k M' hk hM' hrow hget;rw [hg]at hk hrow hget ⊢;have hx:=h.rng v k (by omega) (by omega)
    simp only [FD,Cg,wm n hn];rw [if_pos (BX hk),BC (by omega),BC (by omega),BC (by omega),BC (by omega),Gf k (by omega)]
    unfold Rv;by_cases c:0≤(l.getD v be).getD k be
    ·rw [if_pos c,if_neg (by omega),BC (by omega)]
     have hq:(M'.set v ((M'.getD v be).set k (2 ^ n-1))).getD v be=(M'.getD v be).set k (2 ^ n-1):=ic _ _ _ (by omega)
     rw [hq,BC (by rw [Ij];omega),Yl _ (by omega),cg,cg]
    ·rw [if_neg c,if_pos (by omega)]
   ·intro M';rw [hg];simp only [FD,Cg];rw [if_neg (by omega)]
  rw [if_pos (BX hv),BC (by omega),inner,C8,hg,Gf v (by omega)]
 ·intro o;simp only [FE];rw [if_neg (Am _)]
theorem mI(l:AV)(h:ShpL en n l)(hs:BK l):UL (n:Int) (D:Int) ns es l=some (Dc n l):=by
 have hn:=C.hn;have hb:=C.hN.big;have hl:=h.len;have hu: ∀a:Int,0≤a∧a<1000→IntKind.u64.wrap a=a:=fun a ha=>VV _ (by omega)
 have outer:OV (n:Int) (D:Int) ns es l (l,0)=some (Dc n l):=by
  unfold OV;refine A0u (fun w=>Jl (n:Int) (D:Int) ns es l w.1 w.2) (fun row=>row.map (Rv n)) l ?_ ?_
  ·intro v o hv ho hg;have hr:=h.row v (by omega)
   have hd:=C.hN.deg v (by omega)
   simp only [Jl]
   have inner:OU (n:Int) (D:Int) ns es l o (v:Int) (o,0)=some (o.set v ((o.getD v be).map (Rv n))):=by
    unfold OU;refine mH (fun w=>Jk (n:Int) (D:Int) ns es l o (v:Int) w.1 w.2) (Rv n) o v (by omega) ?_ ?_
    ·intro k M' hk hM' hrow hget;rw [hg]at hk hrow hget ⊢;have hx:=h.rng v k (by omega) (by omega)
     simp only [Jk,Cg,hget,hg];rw [if_pos (BX hk),BC (by omega),BC (by omega),Gf k (by omega)]
     unfold Rv;by_cases c:(l.getD v be).getD k be<0
     ·rw [if_pos c,if_pos c,hu _ (by omega),BC (by omega),BC (by omega),Cg,wm n hn]
     ·rw [if_neg c,if_neg c,hu _ (by omega),BC (by omega),BC (by omega),Yl _ (by omega)]
    ·intro M';simp only [Jk,Cg];rw [if_neg (by omega)]
   rw [if_pos (BX hv),BC (by omega),inner,C8,hg,Gf v (by omega)]
  ·intro o;simp only [Jl];rw [if_neg (Am _)]
 unfold UL;rw [A0v l hs,C8,outer];rfl
def NS(en:Ac)(ns es:AV)(n D:Nat)(M:AV):AV:=aU (E5 en ns es n D) n en ((wt M).toNat+1) M
omit C in
theorem OkM.short{M:AV}(hN:NetOk en)(h:OkM en n M):BK M:=by
 have hb:=hN.big;have hl:=h.len
 refine⟨by omega,fun x hx=> ?_⟩
 obtain⟨v,hv,rfl⟩:=V6 hx;have:=h.row v (by omega)
 have:=hN.deg v (by omega)
 rw [Ad _ _ hv]at*;omega
theorem Ua{M:AV}(h:OkM en n M):OkM en n (NS en ns es n D M):=(ib C [] [] ((wt M).toNat+1) M h (by have:=h.nonneg;omega)).2
theorem WF{M:AV}(h:OkM en n M):PT (n:Int) (D:Int) ns es en ids inp M=some (NS en ns es n D M):=by
 unfold PT;rw [A0v M (h.short C.hN),C8,wZ C ids inp _ M h (by have:=h.nonneg;omega:wt M<(((wt M).toNat+1:Nat):Int))];rfl
theorem NL(l:AV)(h:ShpL en n l)(hs:BK l):Ii (n:Int) (D:Int) ns es en ids inp l=some (if(NS en ns es n D (Dc n l)).all (fun row=> !row.contains (0:Int))=true then(NS en ns es n D (Dc n l),true)else([],false)):=by
 have hM:=M5 h;have hF:=ib C ids inp ((wt (Dc n l)).toNat+1) (Dc n l) hM (by have:=hM.nonneg;omega)
 have hG:OkM en n (NS en ns es n D (Dc n l)):=hF.2;have sG:=hG.short C.hN;have sG1:=sG.1;unfold Ii;rw [A83 l hs,C8,za C ids inp l h,C8,hF.1,C8];have key:=Df (fun w=>FF ((n:Int),(D:Int),ns,es,en,ids,inp,NS en ns es n D (Dc n l)) w) (fun j=>(j:Int)) (NS en ns es n D (Dc n l)).length (fun j=> !((NS en ns es n D (Dc n l)).getD j be).contains (0:Int)) (.inl ()) (.inr ()) ?_ ?_
 ·rw [Et]at key;have key2:Mq ((n:Int),(D:Int),ns,es,en,ids,inp,aU (E5 en ns es n D) n en ((wt (Dc n l)).toNat+1) (Dc n l)) 0=_:=key;rw [key2,C8,RU (fun row:AU=> !row.contains (0:Int))]
  cases (NS en ns es n D (Dc n l)).all (fun row=> !row.contains (0:Int))<;>rfl
 ·intro j hj;simp only [FF,Cg];rw [if_pos (BX hj),BC (by omega),BC (sG.getD j),Gf j (by omega)]
  by_cases hc:((NS en ns es n D (Dc n l)).getD j be).contains (0:Int)=true
  ·rw [if_pos hc,hc];rfl
  ·rw [if_neg hc,Es.2 hc];rfl
 ·simp only [FF];rw [if_neg (Am _)]
end
theorem AEt{n D:Nat}{ns es:AV}{E:Ac}{ids ins:AU}(h:MI n D ns es=true)(hw:GQ E ids ins=true)(hn:BK ns)(he:BK es):Ctx E ns es n D:=by
 obtain⟨ha,hd,c1,c2⟩:=Vu h
 refine⟨wX hw,by omega,by omega,hn,he,mF c1,mF c2,fun c hc=>qM (XN c1 hc).2.1,fun c hc=>⟨?_,fun a hac=> ?_⟩⟩
 ·have:=(XN c1 hc).1;omega
 ·have h3:=(XN c1 hc).2.2;unfold FW at h3;have:=Ey.1 (KJ.1 h3 a hac)
  omega
structure Ctn(E:Ac)(ns es:AV)(n D:Nat):Prop extends Ctx E ns es n D where
 hcn: ∀c∈ns,∀a∈c,0≤a∧a<n
theorem AEu{n D:Nat}{ns es:AV}{E:Ac}{ids ins:AU}(h:MI n D ns es=true)(hw:GQ E ids ins=true)(hn:BK ns)(he:BK es):Ctn E ns es n D:=by
 refine⟨AEt h hw hn he,fun c hc a hac=> ?_⟩
 obtain⟨_,_,c1,_⟩:=Vu h;have h3:=(XN c1 hc).2.2;unfold FW at h3;have:=Ey.1 (KJ.1 h3 a hac)
 omega
section
variable {E:Ac} {ns es:AV} {n D:Nat} (C:Ctn E ns es n D) (ids inp:AU)
include C
def lbM(M:AV)(v k a:Nat):Bool:=BS (Kj M v k) a
end

section
variable {E:Ac} {ns es:AV} {n D:Nat} (C:Ctn E ns es n D) (ids inp:AU)
include C
end
section
variable {E:Ac} {ns es:AV} {n D:Nat} (C:Ctn E ns es n D) (ids inp:AU)
include C
end
def JB(o:AU)(x:Nat):Int:=o.getD x be
theorem zb(o:AU)(x y:Nat)(a:Int)(h:x<o.length):JB (o.set x a) y=if y=x then a else JB o y:=by
 unfold JB;rw [Lh,Lh,ZP];by_cases e:y=x
 ·subst e;rw [if_pos rfl,if_pos rfl,if_pos h];rfl
 ·rw [if_neg (fun c=>e c.symm),if_neg e]
inductive Rch(adj:Nat→AU)(v:Nat):Nat→Nat→Prop where
 |z:Rch adj v 0 v
 |s {k x:Nat} {y:Int}:Rch adj v k x→y∈adj x→Rch adj v (k+1) y.toNat
def VJ(o:AU):Nat:=o.countP fun x=>decide (x<0)
theorem ig(o:AU)(x:Nat)(a:Int)(h:x<o.length)(h1:JB o x<0)(ha:0≤a):VJ (o.set x a)+1=VJ o:=by
 unfold VJ JB at*;rw [Ad _ _ h]at h1;have:=List.countP_set (p:=fun x=>decide (x<0)) (l:=o) (i:=x) (a:=a) h
 rw [this,if_pos (by simpa using h1),if_neg (by simpa using ha)]
 have:0<o.countP fun x=>decide (x<0):=List.countP_pos_iff.2 ⟨o[x],O6 h,by simpa using h1⟩
 omega
def Cs(w:Nat):AU→AU×AU→AU×AU
 | [],s=>s
 |x::xs,s=>Cs w xs (if JB s.1 x.toNat<0 then(s.1.set x.toNat (JB s.1 w+1),s.2++[x])else s)
theorem R7(w:Nat): ∀(xs ys:AU) (s:AU×AU),Cs w (xs++ys) s=Cs w ys (Cs w xs s)
 | [],_,_=>rfl
 |x::xs,ys,s=>by simp only [Xp,Cs];exact R7 w xs ys _
def bfs(adj:Nat→AU):Nat→AU→AU→AU
 |0,o,_=>o
 |_+1,o,[]=>o
 |k+1,o,w::q=>bfs adj k (Cs w.toNat (adj w.toNat) (o,q)).1 (Cs w.toNat (adj w.toNat) (o,q)).2
structure MidB(adj:Nat→AU)(n v w:Nat)(d:Int)(don:AU)(o q:AU):Prop where
 len:o.length=n
 wn:w<n
 ow:JB o w=d
 d0:0≤d
 qn: ∀x∈q,0≤x∧x.toNat<n∧d≤JB o x.toNat
 hi: ∀x,x<n→JB o x≤d+1
 lo: ∀x,x<n→ -1≤JB o x
 src:JB o v=0
 rch: ∀x,x<n→0≤JB o x→Rch adj v (JB o x).toNat x
 srt:q.Pairwise fun a b=>JB o a.toNat≤JB o b.toNat
 cl: ∀x,x<n→0≤JB o x→(x:Int) ∉ q→x≠w→ ∀y∈adj x,0≤JB o y.toNat∧JB o y.toNat≤JB o x+1
 dn: ∀y∈don,0≤JB o y.toNat∧JB o y.toNat≤d+1
 bd:d+1+((q.length+VJ o:Nat):Int)≤n
theorem MidB.step{adj:Nat→AU}{n v w:Nat}{d:Int}{don o q:AU}(h:MidB adj n v w d don o q){x:Int}(hx:x∈adj w)(hxn:0≤x∧x.toNat<n):
  MidB adj n v w d (don++[x]) (Cs w [x] (o,q)).1 (Cs w [x] (o,q)).2:=by
 obtain⟨len,wn,ow,d0,qn,hi,lo,src,rch,srt,cl,dn,bd⟩:=h;simp only [Cs];by_cases hn:JB o x.toNat<0
 ·rw [if_pos hn];have hl:x.toNat<o.length:=by omega
  have hs: ∀y,JB (o.set x.toNat (JB o w+1)) y=if y=x.toNat then d+1 else JB o y:=fun y=>by rw [zb _ _ _ _ hl,ow]
  have hv:v≠x.toNat:=fun e=>by rw [←e,src]at hn;omega
  have hw:w≠x.toNat:=fun e=>by rw [←e,ow]at hn;omega
  have keep: ∀y:Nat,0≤JB o y→JB (o.set x.toNat (JB o w+1)) y=JB o y:=fun y hy=>by rw [hs,if_neg (fun e=>by rw [e]at hy;omega)]
  have hng:=ig o x.toNat (JB o w+1) hl hn (by omega)
  refine⟨by simpa using len,wn,by rw [keep _ (by omega)];exact ow,d0, ?_, ?_, ?_,by rw [keep _ (by omega)];exact src, ?_, ?_, ?_, ?_, ?_⟩
  ·intro y hy;rcases PV.1 hy with h|h
   ·have:=qn y h
    rw [keep _ (by omega)];exact this
   ·rw [VZ]at h;subst h;rw [hs,if_pos rfl];omega
  ·intro y hy;rw [hs];split
   ·omega
   ·exact hi y hy
  ·intro y hy;rw [hs];split
   ·omega
   ·exact lo y hy
  ·intro y hy h0;rw [hs]at h0 ⊢;by_cases e:y=x.toNat
   ·subst e;rw [if_pos rfl];have:=rch w wn (by omega)
    rw [ow]at this;have:=Rch.s this hx
    rwa [show(d+1).toNat=d.toNat+1 by omega]
   ·rw [if_neg e]at h0 ⊢;exact rch y hy h0
  ·rw [List.pairwise_append]
   refine⟨srt.imp_of_mem fun {a b} ha hb hab=> ?_,List.pairwise_singleton ..,fun a ha b hb=> ?_⟩
   ·have h1:=qn a ha;have h2:=qn b hb;rw [keep _ (by omega),keep _ (by omega)];exact hab
   ·rw [VZ]at hb;subst hb;have h1:=qn a ha;rw [keep _ (by omega),hs,if_pos rfl]
    exact hi _ (by omega)
  ·intro y hy h0 hq hyw z hz;rw [PV,VZ,not_or]at hq;have hyx:y≠x.toNat:=fun e=>hq.2 (by omega)
   rw [hs,if_neg hyx]at h0;have:=cl y hy h0 hq.1 hyw z hz
   rw [keep _ this.1,keep _ h0];exact this
  ·intro y hy;rcases PV.1 hy with h|h
   ·have:=dn y h
    rw [keep _ this.1];exact this
   ·rw [VZ]at h;subst h;rw [hs,if_pos rfl];omega
  ·show d+1+(((q++[x]).length+VJ (o.set x.toNat (JB o w+1)):Nat):Int)≤n
   rw [Ol,ZO];omega
 ·rw [if_neg hn]
  refine⟨len,wn,ow,d0,qn,hi,lo,src,rch,srt,cl, ?_,bd⟩
  intro y hy;rcases PV.1 hy with h|h
  ·exact dn y h
  ·rw [VZ]at h;subst h;have:=hi y.toNat hxn.2
   show 0≤JB o y.toNat∧JB o y.toNat≤d+1
   omega
theorem MidB.steps{adj:Nat→AU}{n v w:Nat}{d:Int}: ∀(xs:AU) {don o q:AU},MidB adj n v w d don o q→(∀x∈xs,x∈adj w∧0≤x∧x.toNat<n)→
  MidB adj n v w d (don++xs) (Cs w xs (o,q)).1 (Cs w xs (o,q)).2
 | [],don,o,q,h,_=>by simpa [Cs] using h
 |x::xs,don,o,q,h,hx=>by
  obtain⟨h1,h2⟩:=hx x Ia;have h3:=MidB.steps xs (h.step h1 h2) (fun y hy=>hx y (QL _ hy));rw [NV]at h3;have:Cs w (x::xs) (o,q)=Cs w xs (Cs w [x] (o,q)):=R7 w [x] xs (o,q)
  rw [this];exact h3
structure InvB(adj:Nat→AU)(n v:Nat)(o q:AU):Prop where
 len:o.length=n
 qn: ∀x∈q,0≤x∧x.toNat<n∧0≤JB o x.toNat
 hi: ∀h∈q.head?,∀x,x<n→JB o x≤JB o h.toNat+1
 lo: ∀x,x<n→ -1≤JB o x
 src:JB o v=0
 rch: ∀x,x<n→0≤JB o x→Rch adj v (JB o x).toNat x
 srt:q.Pairwise fun a b=>JB o a.toNat≤JB o b.toNat
 cl: ∀x,x<n→0≤JB o x→(x:Int) ∉ q→ ∀y∈adj x,0≤JB o y.toNat∧JB o y.toNat≤JB o x+1
 bd: ∀h∈q.head?,JB o h.toNat+((q.length+VJ o:Nat):Int)≤n
theorem InvB.pop{adj:Nat→AU}{n v:Nat}{o q:AU}{w:Int}(h:InvB adj n v o (w::q)):MidB adj n v w.toNat (JB o w.toNat) [] o q:=by
 obtain⟨len,qn,hi,lo,src,rch,srt,cl,bd⟩:=h;have h1:=qn w Ia;have h2:=bd w rfl;rw [List.pairwise_cons]at srt
 refine⟨len,h1.2.1,rfl,h1.2.2,fun x hx=> ?_,hi w rfl,lo,src,rch,srt.2,fun x hx h0 hq hw=>cl x hx h0 ?_,(fun y hy=>by cases hy), ?_⟩
 ·have:=qn x (QL _ hx)
  exact⟨this.1,this.2.1,srt.1 x hx⟩
 ·rw [TF,not_or]
  exact⟨fun e=>hw (by omega),hq⟩
 ·simp only [KL]at h2;omega
theorem MidB.fin{adj:Nat→AU}{n v w:Nat}{d:Int}{o q:AU}(h:MidB adj n v w d (adj w) o q):InvB adj n v o q:=by
 obtain⟨len,wn,ow,d0,qn,hi,lo,src,rch,srt,cl,dn,bd⟩:=h
 refine⟨len,fun x hx=> ?_,fun x hx y hy=> ?_,lo,src,rch,srt,fun x hx h0 hq=> ?_,fun x hx=> ?_⟩
 ·have:=qn x hx;omega
 ·have h1:=(qn x (List.mem_of_mem_head? hx)).2.2;have:=hi y hy
  omega
 ·by_cases e:x=w
  ·subst e;intro y hy;rw [ow];exact dn y hy
  ·exact cl x hx h0 hq e
 ·have h1:=qn x (List.mem_of_mem_head? hx);have:=hi x.toNat h1.2.1
  omega
theorem InvB.next{adj:Nat→AU}{n v:Nat}{o q:AU}{w:Int}(hA: ∀x,x<n→ ∀y∈adj x,0≤y∧y.toNat<n)(h:InvB adj n v o (w::q)):
  InvB adj n v (Cs w.toNat (adj w.toNat) (o,q)).1 (Cs w.toNat (adj w.toNat) (o,q)).2:=by
 have h1:=h.pop;have h2:=MidB.steps (adj w.toNat) h1 (fun x hx=>⟨hx,hA _ h1.wn x hx⟩);rw [PW]at h2;exact h2.fin
theorem Ub(w:Nat)(n:Nat): ∀(xs o q:AU),o.length=n→0≤JB o w→(∀x∈xs,x.toNat<n)→
  (Cs w xs (o,q)).2.length+VJ (Cs w xs (o,q)).1=q.length+VJ o
 | [],_,_,_,_,_=>rfl
 |x::xs,o,q,hl,hw,hx=>by
  simp only [Cs];have hx':=fun y hy=>hx y (QL _ hy);have h0:=hx x Ia;by_cases h:JB o x.toNat<0
  ·rw [if_pos h];have e:w≠x.toNat:=fun e=>by rw [e]at hw;omega
   have hlx:x.toNat<o.length:=by rw [hl];exact h0
   rw [Ub w n xs _ _ (by simpa using hl) (by rw [zb _ _ _ _ hlx,if_neg e];exact hw) hx']
   have:=ig o x.toNat (JB o w+1) hlx h (by omega)
   rw [Ol,ZO];omega
  ·rw [if_neg h];exact Ub w n xs o q hl hw hx'
structure FinB(adj:Nat→AU)(n v:Nat)(o:AU):Prop where
 len:o.length=n
 lo: ∀x,x<n→ -1≤JB o x
 hi: ∀x,x<n→JB o x≤n
 rch: ∀x,x<n→0≤JB o x→Rch adj v (JB o x).toNat x
 all: ∀k x,Rch adj v k x→0≤JB o x∧JB o x≤k
theorem ik{σ ρ:Type}(adj:Nat→AU)(n v:Nat)(hv:v<n)(hA: ∀x,x<n→ ∀y∈adj x,0≤y∧y.toNat<n)(f:σ→Option (σ⊕ρ))(mk:AU→AU→AU→σ)(fin:AU→ρ)
  (h1: ∀don o w q,InvB adj n v o (w::q)→don.length+(w::q).length+VJ o≤n→f (mk don o (w::q))=some (.inl (mk (don++[w]) (Cs w.toNat (adj w.toNat) (o,q)).1 (Cs w.toNat (adj w.toNat) (o,q)).2)))
  (h2: ∀don o,o.length=n→don.length≤n→f (mk don o [])=some (.inr (fin o))):
  ∀m don o q,InvB adj n v o q→q.length+VJ o≤m→(∀x,x<n→JB o x≤n)→don.length+q.length+VJ o≤n→E9 f (mk don o q)=some (fin (bfs adj m o q))∧FinB adj n v (bfs adj m o q):=by
 have fin0: ∀o,InvB adj n v o []→(∀x,x<n→JB o x≤n)→FinB adj n v o:=by
  intro o hI hn
  refine⟨hI.len,hI.lo,hn,hI.rch,fun k x hr=> ?_⟩
  have key: ∀k x,Rch adj v k x→x<n∧0≤JB o x∧JB o x≤k:=by
   intro k x hr
   induction hr with
   |z=>exact⟨hv,by rw [hI.src];omega,by rw [hI.src];omega⟩
   |s hr hy ih=>
    obtain⟨i1,i2,i3⟩:=ih;have:=hI.cl _ i1 i2 (by simp) _ hy
    exact⟨(hA _ i1 _ hy).2,this.1,by omega⟩
  exact(key k x hr).2
 intro m
 induction m with
 |zero=>
  intro don o q hI hm hn hd;have hq:q=[]:=tQ (by omega)
  subst hq
  exact⟨D5 (h2 don o hI.len (by omega)),fin0 o hI hn⟩
 |succ m ih=>
  intro don o q hI hm hn hd
  cases q with
  |nil=>exact⟨D5 (h2 don o hI.len (by omega)),fin0 o hI hn⟩
  |cons w q=>
   have hp:=hI.pop;have hme:=Ub w.toNat n (adj w.toNat) o q hI.len hp.d0 (fun x hx=>(hA _ hp.wn x hx).2);have hx:=hI.next hA;simp only [KL]at hm hd;have hq:(Cs w.toNat (adj w.toNat) (o,q)).2.length+VJ (Cs w.toNat (adj w.toNat) (o,q)).1=q.length+VJ o:=hme;have h3:=MidB.steps (adj w.toNat) hp (fun x hx=>⟨hx,hA _ hp.wn x hx⟩);have:=ih (don++[w]) _ _ hx (by omega) (fun x hx'=>by have a:=h3.hi x hx';have b:=h3.bd;omega) (by rw [Ol,ZO];omega)
   rw [KC (h1 don o w q hI (by simp only [KL];omega))]
   exact this
def NM(n v:Nat):AU:=(ap n (-1)).set v 0
theorem PU(n v x:Nat)(hv:v<n)(hx:x<n):JB (NM n v) x=if x=v then 0 else-1:=by
 unfold NM;rw [zb _ _ _ _ (by simpa using hv)]
 split
 ·rfl
 ·unfold JB;rw [Ad _ _ (by simpa using hx)];simp
theorem WG(adj:Nat→AU)(n v:Nat)(hv:v<n):InvB adj n v (NM n v) [(v:Int)]∧1+VJ (NM n v)=n∧(∀x,x<n→JB (NM n v) x≤n):=by
 have hl:(NM n v).length=n:=by simp [NM]
 have hneg:VJ (NM n v)+1=n:=by
  unfold NM;have:JB (ap n (-1)) v<0:=by unfold JB;rw [Ad _ _ (by simpa using hv)];simp
  rw [ig _ v 0 (by simpa using hv) this (by omega)]
  unfold VJ;rw [List.countP_replicate];simp
 have h0:JB (NM n v) v=0:=by rw [PU n v v hv hv,if_pos rfl]
 refine⟨⟨hl, ?_, ?_, ?_,h0, ?_,List.pairwise_singleton .., ?_, ?_⟩,by omega, ?_⟩
 ·intro x hx;rw [VZ]at hx;subst hx
  rw [Cg,h0];omega
 ·intro h hh x hx;simp only [List.head?_cons,Option.mem_def,Option.some.injEq]at hh;subst hh;rw [Cg,h0,PU n v x hv hx];split<;>omega
 ·intro x hx;rw [PU n v x hv hx];split<;>omega
 ·intro x hx hr;rw [PU n v x hv hx]at hr ⊢;by_cases e:x=v
  ·subst e;rw [if_pos rfl];exact Rch.z
  ·rw [if_neg e]at hr;omega
 ·intro x hx hr hq;rw [PU n v x hv hx]at hr;by_cases e:x=v
  ·subst e;simp at hq
  ·rw [if_neg e]at hr;omega
 ·intro h hh;simp only [List.head?_cons,Option.mem_def,Option.some.injEq]at hh;subst hh;rw [Cg,h0,ZO];omega
 ·intro x hx;rw [PU n v x hv hx];split<;>omega
theorem Rch.trans{adj:Nat→AU}{u x:Nat}{k:Nat}(h1:Rch adj u k x): ∀ {l y:Nat},Rch adj x l y→Rch adj u (k+l) y:=by
 intro l y h2
 induction h2 with
 |z=>exact h1
 |s _ hy ih=>exact ih.s hy
theorem Rch.rev{adj:Nat→AU}(hs: ∀x y,y∈adj x→(x:Int)∈adj y.toNat){u x k:Nat}(h:Rch adj u k x):Rch adj x k u:=by
 induction h with
 |z=>exact Rch.z
 |s h1 hy ih=>
  have:=(Rch.s (adj:=adj) Rch.z (hs _ _ hy)).trans ih
  rwa [NW,Nat.add_comm]at this
theorem FinB.conn{adj:Nat→AU}{n v:Nat}{o:AU}(h:FinB adj n v o){x:Nat}(hx:x<n):0≤JB o x↔ ∃k,Rch adj v k x:=
 ⟨fun h0=>⟨_,h.rch x hx h0⟩,fun⟨k,hk⟩=>(h.all k x hk).1⟩
theorem Uc{E:Ac}{ids ins:AU}(h:GQ E ids ins=true):E.length≤40∧1≤E.length∧(∀v,v<E.length→(E.getD v be).length≤6)∧
  ∀v i,v<E.length→i<(E.getD v be).length→ ∃w p:Nat,BH (E.getD v be) i=(w:Int)∧Bj (E.getD v be) i=(p:Int)∧w<E.length∧p<(E.getD w be).length∧BH (E.getD w be) p=(v:Int)∧Bj (E.getD w be) p=(i:Int):=by
 unfold GQ at h;simp only [En]at h;obtain⟨h1,_,_,_,h5⟩:=h;have h1:=Ey.1 h1;have hn: ∀v,v<E.length→XM E v=true:=Cc.1 h5
 refine⟨by omega,by omega,fun v hv=> ?_,fun v i hv hi=> ?_⟩
 ·have:=hn v hv
  rw [PS,En,decide_eq_true_eq]at this;exact this.1
 ·have:=hn v hv
  rw [PS,En]at this;have:=Cc.1 this.2 i hi
  rw [Uv]at this;simp only [En,beq_iff_eq]at this;obtain⟨k1,k2,k3,k4⟩:=this;have k1:=Ey.1 k1;have k2:=Ey.1 k2
  refine⟨(BH (E.getD v be) i).toNat,(Bj (E.getD v be) i).toNat,by omega,by omega,by omega,by omega,k3,k4⟩
def E8(E:Ac)(x:Nat):AU:=(E.getD x be).map (·.1)
theorem Rw(E:Ac)(x:Nat):(E8 E x).length=(E.getD x be).length:=by simp [E8]
theorem il(E:Ac)(x i:Nat)(h:i<(E8 E x).length):(E8 E x)[i]=BH (E.getD x be) i:=by
 have h':i<(E.getD x be).length:=by rwa [Rw]at h
 unfold BH;rw [Ad _ _ h'];simp [E8]
theorem QH{E:Ac}{x:Nat}{y:Int}:y∈E8 E x↔ ∃i,i<(E.getD x be).length∧BH (E.getD x be) i=y:=by
 constructor
 ·intro h;obtain⟨i,hi,rfl⟩:=V6 h
  exact⟨i,by rwa [Rw]at hi,(il E x i hi).symm⟩
 ·rintro⟨i,hi,rfl⟩
  have hi':i<(E8 E x).length:=by rwa [Rw]
  rw [←il E x i hi'];exact O6 hi'
theorem sI{E:Ac}{ids ins:AU}(h:GQ E ids ins=true): ∀x,x<E.length→ ∀y∈E8 E x,0≤y∧y.toNat<E.length:=by
 intro x hx y hy;obtain⟨i,hi,rfl⟩:=QH.1 hy;obtain⟨_,_,_,hp⟩:=Uc h;obtain⟨w,p,e1,_,hw,_⟩:=hp x i hx hi;omega
theorem A5k{E:Ac}{ids ins:AU}(h:GQ E ids ins=true): ∀x y,x<E.length→y∈E8 E x→(x:Int)∈E8 E y.toNat:=by
 intro x y hx hy;obtain⟨i,hi,rfl⟩:=QH.1 hy;obtain⟨_,_,_,hp⟩:=Uc h;obtain⟨w,p,e1,_,hw,hpl,b1,_⟩:=hp x i hx hi;rw [e1,Cg];exact QH.2 ⟨p,hpl,b1⟩
def Ud(E:Ac)(v:Nat):AU:=bfs (E8 E) E.length (NM E.length v) [(v:Int)]
theorem Ue(w:Nat): ∀(xs:AU) (s:AU×AU),xs.foldl (fun b x=>Cs w [x] b) s=Cs w xs s
 | [],_=>rfl
 |x::xs,s=>by
  rw [Ve,Ue w xs]
  exact(R7 w [x] xs s).symm
theorem sJ(E:Ac)(ids ins:AU)(n v w:Nat)(d:Int)(hn:n≤40)(hd:(E.getD w be).length≤6)(hA: ∀y∈E8 E w,0≤y∧y.toNat<n)(queue o q:AU)(hw:queue.getD 0 be=(w:Int))(hM:MidB (E8 E) n v w d [] o q):
  J5 E ids ins queue (o,q,0)=some (Cs w (E8 E w) (o,q)):=by
 have key:=JG (fun x=>DU E ids ins queue x.1 x.2.1 x.2.2) (fun i (b:AU×AU)=>(b.1,b.2,(i:Int))) (fun _ b=> ∃don,MidB (E8 E) n v w d don b.1 b.2) (E8 E w) (fun b x=>Cs w [x] b) (fun b=>b) ?_ ?_ (o,q) ⟨[],hM⟩
 ·rw [Ue]at key;exact key.1
 ·rintro i ⟨o',q'⟩ hi ⟨don,h⟩
  have hx:(E8 E w)[i]∈E8 E w:=O6 hi;have h0:=hA _ hx
  refine⟨?_,_,h.step hx h0⟩
  have e:=il E w i hi;rw [Rw]at hi;have hb:=h.bd;have hl:=h.len;have hwn:=h.wn;have how:=h.ow;have hd0:=h.d0;dsimp only at hb hl how;simp only [DU,hw,Cg,←e];rw [if_pos (BX hi),BC ⟨by omega,hi⟩,BC (by omega),Gf i (by omega)]
  simp only [Cs];by_cases hneg:JB o' (E8 E w)[i].toNat<0
  ·rw [if_pos hneg,if_pos (by exact hneg),BC (by omega),BC (by omega)]
   have:bm.wrap (o'.getD w be+1)=JB o' w+1:=by
    show bm.wrap (JB o' w+1)=_
    rw [Ib _ (by omega)]
   rw [this]
  ·rw [if_neg hneg,if_neg (by exact hneg)]
 ·rintro⟨o',q'⟩ _
  simp only [DU,hw,Cg];rw [Rw,if_neg (Am _)]
theorem mJ{E:Ac}{ids ins:AU}(h:GQ E ids ins=true)(v:Nat)(hv:v<E.length):FinB (E8 E) E.length v (Ud E v):=by
 obtain⟨i1,i2,i3⟩:=WG (E8 E) E.length v hv;have:=ik (E8 E) E.length v hv (sI h) (fun s:AU×AU=>match s.2 with| []=>some (.inr s.1)|w::q=>some (.inl (Cs w.toNat (E8 E w.toNat) (s.1,q)))) (fun _ o q=>(o,q)) (fun o=>o) (fun _ _ _ _ _ _=>rfl) (fun _ _ _ _=>rfl)
  E.length [] (NM E.length v) [(v:Int)] i1 (by simp only [ZO];omega) i3 (by simp only [ZO,R8];omega)
 exact this.2
theorem A2N{E:Ac}{ids ins:AU}(h:GQ E ids ins=true)(v:Nat)(hv:v<E.length):JN E ids ins (v:Int)=some (Ud E v):=by
 obtain⟨hn,_,hd,_⟩:=Uc h;obtain⟨i1,i2,i3⟩:=WG (E8 E) E.length v hv;have key:=ik (E8 E) E.length v hv (sI h) (fun s=>DV E ids ins s.1 s.2) (fun _ o q=>(o,q)) (fun o=>o) ?_ ?_
  E.length [] (NM E.length v) [(v:Int)] i1 (by simp only [ZO];omega) i3 (by simp only [ZO,R8];omega)
 ·unfold JN;rw [XU (-1) (E.length:Int) (by omega),C8,Cg,BC (by rw [Qy];omega),Cg]
  have:J6 E ids ins ((ap E.length (-1)).set v 0,[(v:Int)])=some (Ud E v):=key.1
  rw [this];rfl
 ·intro don o w q hI _;have hw:=hI.qn w Ia;have hwn:((w.toNat:Nat):Int)=w:=by omega
  have:=sJ E ids ins E.length v w.toNat _ hn (hd _ hw.2.1) (sI h _ hw.2.1) (w::q) o q (by simpa using hwn.symm) hI.pop
  simp only [DV];rw [if_pos (by simp only [KL];omega),BC (by simp),BC (by simp),BC (by simpa using ⟨hw.1,hw.2.1⟩),List.drop_one,List.tail_cons,this]
  rfl
 ·intro don o _ _;simp only [DV];rw [if_neg (by simp)]
theorem A2O(E:Ac)(ids ins:AU)(v:Nat)(hv:v<E.length)(hd:(E.getD v be).length≤6):UO E ids ins (v:Int)=some (E8 E v):=by
 unfold UO Qq;rw [BC (by omega)]
 have key:=CO (fun x=>Jn E (v:Int) x.1 x.2) (fun i=>(((E.getD v be).take i).map (·.1),(i:Int))) (E.getD v be).length ((E.getD v be).map (·.1)) ?_ ?_
 ·have e:((0:Nat):Int)=0:=rfl;simp only [e,bD,List.map_nil]at key;rw [key];rfl
 ·intro i hi;simp only [Jn,Cg];rw [if_pos (BX hi),BC (by omega),BC (by rw [Qz,Va];omega),Gf i (by omega),List.take_add_one,Kk hi,co]
  unfold BH;rw [Ad (E.getD v be) _ hi];rfl
 ·simp only [Jn,Cg];rw [if_neg (Am _),List.take_length]
theorem sK(E:Ac)(ids ins:AU)(n v w:Nat)(d:Int)(hn:n≤40)(hd:(E.getD w be).length≤6)(hA: ∀y∈E8 E w,0≤y∧y.toNat<n)(don:AU)(hdon:don.length≤40)(o q:AU)(hM:MidB (E8 E) n v w d [] o q):
  Qs E ids ins (don.length:Int) (E8 E w) (o,don++(w:Int)::q,0)=some ((Cs w (E8 E w) (o,q)).1,(don++[(w:Int)])++(Cs w (E8 E w) (o,q)).2):=by
 have key:=JG (fun x=>Jq E ids ins (don.length:Int) (E8 E w) x.1 x.2.1 x.2.2) (fun i (b:AU×AU)=>(b.1,(don++[(w:Int)])++b.2,(i:Int))) (fun _ b=> ∃don,MidB (E8 E) n v w d don b.1 b.2) (E8 E w) (fun b x=>Cs w [x] b) (fun b=>(b.1,(don++[(w:Int)])++b.2)) ?_ ?_ (o,q) ⟨[],hM⟩
 ·rw [Ue]at key;have e:don++(w:Int)::q=(don++[(w:Int)])++q:=by simp
  rw [e];exact key.1
 ·rintro i ⟨o',q'⟩ hi ⟨don',h⟩
  have hx:(E8 E w)[i]∈E8 E w:=O6 hi;have h0:=hA _ hx
  refine⟨?_,_,h.step hx h0⟩
  have hb:=h.bd;have hl:=h.len;have hwn:=h.wn;have how:=h.ow;have hd0:=h.d0;dsimp only at hb hl how;have hi6:i<6:=by rw [Rw]at hi;omega
  have ew:((don++[(w:Int)])++q').getD don.length be=(w:Int):=by
   rw [Lh,NV,TE (Ch _),Xt];rfl
  have el:((don++[(w:Int)])++q').length=don.length+1+q'.length:=by simp;omega
  simp only [Jq,Cg,Ad _ _ hi,ew,el];rw [if_pos (BX hi),BC ⟨by omega,hi⟩,BC (by omega),Gf i (by omega)]
  simp only [Cs];by_cases hneg:JB o' (E8 E w)[i].toNat<0
  ·rw [if_pos hneg,if_pos (by exact hneg),BC (by omega),BC (by omega),BC (by omega)]
   have:bm.wrap (o'.getD w be+1)=JB o' w+1:=by
    show bm.wrap (JB o' w+1)=_
    rw [Ib _ (by omega)]
   rw [this,NV]
  ·rw [if_neg hneg,if_neg (by exact hneg)]
 ·rintro⟨o',q'⟩ _
  simp only [Jq];rw [if_neg (Am _)]
theorem Xj(n:Nat)(P:Nat→Bool):C9 (n+1) P=(match C9 n P with|some u=>some u|none=>if P n=true then some n else none):=by
 unfold C9;rw [ZQ,List.find?_append]
 cases List.find? P (ao n)with
 |some u=>rfl
 |none=>cases h:P n<;>simp [h]
def Oi(con:Nat→Nat→Bool)(n v:Nat):AU:=(ao n).map fun x=>match C9 v (fun u=>con u x)with|some u=>(u:Int)|none=> -1
theorem wo(con:Nat→Nat→Bool)(n v:Nat):(Oi con n v).length=n:=by simp [Oi]
theorem sM(con:Nat→Nat→Bool)(n v x:Nat)(hx:x<n):(Oi con n v).getD x be=match C9 v (fun u=>con u x)with|some u=>(u:Int)|none=> -1:=by
 rw [Ad _ _ (by rw [wo];exact hx)]
 simp [Oi]
theorem A2P(con:Nat→Nat→Bool)(n:Nat):Oi con n 0=ap n (-1):=by
 refine Vb (by simp [Oi]) fun i h1 h2=> ?_
 simp [Oi,C9]
structure EqvB(con:Nat→Nat→Bool)(n:Nat):Prop where
 rfl': ∀x,x<n→con x x=true
 sym: ∀x y,x<n→y<n→con x y=true→con y x=true
 trn: ∀x y z,x<n→y<n→z<n→con x y=true→con y z=true→con x z=true
theorem A2Q{con:Nat→Nat→Bool}{n v:Nat}(h:EqvB con n)(hv:v<n)(h0:0≤(Oi con n v).getD v be):Oi con n (v+1)=Oi con n v:=by
 rw [sM con n v v hv]at h0;refine Vb (by simp [Oi]) fun x h1 h2=> ?_
 simp only [Oi,Qz,MS]at h1;simp only [Oi,TT,MR];rw [Xj]
 cases e:C9 v (fun u=>con u x)with
 |some u=>rfl
 |none=>
  cases hc:con v x with
  |false=>rfl
  |true=>
   exfalso
   cases e2:C9 v (fun u=>con u v)with
   |none=>rw [e2]at h0;simp at h0
   |some u=>
    obtain⟨q1,q2⟩:=Nc e2;have:(C9 v (fun u=>con u x)).isSome=true:=Hw.2 ⟨u,q1,h.trn u v x (by omega) hv h1 q2 hc⟩
    rw [e]at this;cases this
theorem A5l{con:Nat→Nat→Bool}{n v:Nat}(h:EqvB con n)(hv:v<n)(h0: ¬0≤(Oi con n v).getD v be):Oi con n (v+1)=(ao n).map fun x=>if con v x=true then(v:Int)else(Oi con n v).getD x be:=by
 rw [sM con n v v hv]at h0;refine Vb (by simp [Oi]) fun x h1 h2=> ?_
 simp only [Oi,Qz,MS]at h1;simp only [TT,MR];rw [sM con n v x h1];simp only [Oi,TT,MR];rw [Xj]
 cases e:C9 v (fun u=>con u x)with
 |none=>cases hc:con v x<;>rfl
 |some u=>
  cases hc:con v x with
  |false=>rfl
  |true=>
   exfalso;obtain⟨q1,q2⟩:=Nc e;have:(C9 v (fun u=>con u v)).isSome=true:=Hw.2 ⟨u,q1,h.trn u x v (by omega) h1 hv q2 (h.sym v x hv h1 hc)⟩
   cases e2:C9 v (fun u=>con u v)with
   |none=>rw [e2]at this;cases this
   |some w=>rw [e2]at h0;simp at h0
def A5m(con:Nat→Nat→Bool)(n x:Nat):Nat:=(C9 n (fun u=>con u x)).getD 0
theorem A5n{con:Nat→Nat→Bool}{n:Nat}(h:EqvB con n):Oi con n n=(ao n).map fun x=>(A5m con n x:Int):=by
 refine Vb (by simp [Oi]) fun x h1 h2=> ?_
 simp only [Oi,Qz,MS]at h1;simp only [Oi,A5m,TT,MR]
 cases e:C9 n (fun u=>con u x)with
 |some u=>rfl
 |none=>
  have:(C9 n (fun u=>con u x)).isSome=true:=Hw.2 ⟨x,h1,h.rfl' x h1⟩
  rw [e]at this;cases this
theorem A2R{E:Ac}{ids ins:AU}(h:GQ E ids ins=true): ∀x y,y∈E8 E x→(x:Int)∈E8 E y.toNat:=by
 intro x y hy;by_cases hx:x<E.length
 ·exact A5k h x y hx hy
 ·unfold E8 at hy;rw [Lh,jI (by omega)]at hy
  exact absurd hy (by simp [be])
def QR(E:Ac)(u x:Nat):Bool:=decide (0≤JB (Ud E u) x)
theorem OY{E:Ac}{ids ins:AU}(h:GQ E ids ins=true){u x:Nat}(hu:u<E.length)(hx:x<E.length):QR E u x=true↔ ∃k,Rch (E8 E) u k x:=by
 unfold QR;rw [decide_eq_true_eq]
 exact(mJ h u hu).conn hx
theorem A5o{E:Ac}{ids ins:AU}(h:GQ E ids ins=true):EqvB (QR E) E.length:=by
 refine⟨fun x hx=>(OY h hx hx).2 ⟨0,Rch.z⟩,fun x y hx hy hc=> ?_,fun x y z hx hy hz h1 h2=> ?_⟩
 ·obtain⟨k,hk⟩:=(OY h hx hy).1 hc
  exact(OY h hy hx).2 ⟨k,hk.rev (A2R h)⟩
 ·obtain⟨k,hk⟩:=(OY h hx hy).1 h1;obtain⟨l,hl⟩:=(OY h hy hz).1 h2
  exact(OY h hx hz).2 ⟨k+l,hk.trans hl⟩
def ky(E:Ac):AU:=(ao E.length).map fun x=>(A5m (QR E) E.length x:Int)
def kz(P:List (Nat×Nat))(x:Nat):AU:=P.flatMap fun e=>(if e.1=x then [(e.2:Int)]else [])++(if e.2=x then [(e.1:Int)]else [])
theorem NN{P:List (Nat×Nat)}{x:Nat}{y:Int}:y∈kz P x↔ ∃e∈P,(e.1=x∧y=(e.2:Int))∨(e.2=x∧y=(e.1:Int)):=by
 unfold kz;rw [List.mem_flatMap]
 constructor
 ·rintro⟨e,he,h⟩
  refine⟨e,he, ?_⟩
  rcases PV.1 h with h|h
  ·split at h
   ·rename_i c;rw [VZ]at h;exact .inl ⟨c,h⟩
   ·cases h
  ·split at h
   ·rename_i c;rw [VZ]at h;exact .inr ⟨c,h⟩
   ·cases h
 ·rintro⟨e,he,h⟩
  refine⟨e,he,PV.2 ?_⟩
  rcases h with⟨c,h⟩|⟨c,h⟩
  ·left;rw [if_pos c,h];simp
  ·right;rw [if_pos c,h];simp
def Cn(adj:Nat→AU)(x y:Nat):Prop:= ∃k,Rch adj x k y
theorem Cn.refl{adj:Nat→AU}(x:Nat):Cn adj x x:=⟨0,Rch.z⟩
theorem Cn.trans{adj:Nat→AU}{x y z:Nat}(h1:Cn adj x y)(h2:Cn adj y z):Cn adj x z:=by
 obtain⟨k,hk⟩:=h1;obtain⟨l,hl⟩:=h2
 exact⟨_,hk.trans hl⟩
theorem Cn.of{adj:Nat→AU}{x:Nat}{y:Int}(h:y∈adj x):Cn adj x y.toNat:=⟨1,Rch.s Rch.z h⟩
theorem A5p{adj adj':Nat→AU}(h: ∀x y,y∈adj x→y∈adj' x){v k x:Nat}(hr:Rch adj v k x):Rch adj' v k x:=by
 induction hr with
 |z=>exact Rch.z
 |s _ hy ih=>exact Rch.s ih (h _ _ hy)
theorem Cn.mono{adj adj':Nat→AU}(h: ∀x y,y∈adj x→y∈adj' x){x y:Nat}(hr:Cn adj x y):Cn adj' x y:=by
 obtain⟨k,hk⟩:=hr
 exact⟨k,A5p h hk⟩
theorem A5q(P:List (Nat×Nat)): ∀x y,y∈kz P x→(x:Int)∈kz P y.toNat:=by
 intro x y h;obtain⟨e,he,h⟩:=NN.1 h;refine NN.2 ⟨e,he, ?_⟩;rcases h with⟨c,h⟩|⟨c,h⟩
 ·right;subst h;exact⟨by omega,by omega⟩
 ·left;subst h;exact⟨by omega,by omega⟩
def CP(P:List (Nat×Nat)):Nat→Nat→Prop:=Cn (kz P)
theorem CP.symm{P:List (Nat×Nat)}{x y:Nat}(h:CP P x y):CP P y x:=by
 obtain⟨k,hk⟩:=h
 exact⟨k,hk.rev (A5q P)⟩
theorem CP.sub{P Q:List (Nat×Nat)}(h: ∀e∈P,e∈Q){x y:Nat}(hc:CP P x y):CP Q x y:=
 Cn.mono (fun x y hy=>by obtain⟨e,he,q⟩:=NN.1 hy;exact NN.2 ⟨e,h e he,q⟩) hc
theorem CP.edge{P:List (Nat×Nat)}{e:Nat×Nat}(h:e∈P):CP P e.1 e.2:=by
 have:=Cn.of (NN.2 ⟨e,h,.inl ⟨rfl,rfl⟩⟩:(e.2:Int)∈kz P e.1)
 rwa [Cg]at this
theorem CP.cons{P:List (Nat×Nat)}{e:Nat×Nat}{x y:Nat}:CP (e::P) x y↔CP P x y∨(CP P x e.1∧CP P e.2 y)∨(CP P x e.2∧CP P e.1 y):=by
 have up: ∀ {x y:Nat},CP P x y→CP (e::P) x y:=fun h=>h.sub fun _ he=>QL _ he;have he:CP (e::P) e.1 e.2:=CP.edge Ia
 constructor
 ·rintro⟨k,hk⟩
  induction hk with
  |z=>exact .inl (Cn.refl x)
  | @s k z w _ hw ih=>
   obtain⟨f,hf,hq⟩:=NN.1 hw;rcases TF.1 hf with rfl|hf
   ·rcases hq with⟨c,q⟩|⟨c,q⟩
    ·rw [q,Cg];subst c;rcases ih with h|⟨h1,h2⟩|⟨h1,h2⟩
     ·exact .inr (.inl ⟨h,Cn.refl _⟩)
     ·exact .inr (.inl ⟨h1,Cn.refl _⟩)
     ·exact .inl h1
    ·rw [q,Cg];subst c;rcases ih with h|⟨h1,h2⟩|⟨h1,h2⟩
     ·exact .inr (.inr ⟨h,Cn.refl _⟩)
     ·exact .inl h1
     ·exact .inr (.inr ⟨h1,Cn.refl _⟩)
   ·have hz:CP P z w.toNat:=Cn.of (NN.2 ⟨f,hf,hq⟩);rcases ih with h|⟨h1,h2⟩|⟨h1,h2⟩
    ·exact .inl (h.trans hz)
    ·exact .inr (.inl ⟨h1,h2.trans hz⟩)
    ·exact .inr (.inr ⟨h1,h2.trans hz⟩)
 ·rintro(h|⟨h1,h2⟩|⟨h1,h2⟩)
  ·exact up h
  ·exact((up h1).trans he).trans (up h2)
  ·exact((up h1).trans he.symm).trans (up h2)
def dcd(p:Prop):Bool:= @decide p (Classical.propDecidable p)
theorem JC{p:Prop}:dcd p=true↔p:= @decide_eq_true_iff p (Classical.propDecidable p)
def Fe(n:Nat)(R:Nat→Nat→Prop):Nat:=(ao n).countP fun v=>dcd (∀u,u<v→ ¬R u v)
theorem iq(p q:Nat→Bool)(r:Nat): ∀n,r<n→p r=true→q r=false→(∀v,v≠r→q v=p v)→(ao n).countP p=(ao n).countP q+1
 |0,h,_,_,_=>by omega
 |n+1,h,hp,hq,hs=>by
  rw [ZQ,cj,cj,cm,cm];by_cases e:r=n
  ·subst e;rw [if_pos hp,hq];have:(ao r).countP p=(ao r).countP q:=List.countP_congr fun v hv=>by rw [hs v (by have:=Eo.1 hv;omega)]
   rw [this];simp
  ·rw [iq p q r n (by omega) hp hq hs,hs n (fun h=>e h.symm)]
   omega
theorem wu(R:Nat→Nat→Prop)(hr: ∀x,R x x)(a:Nat): ∃r,R r a∧r≤a∧ ∀u,u<r→ ¬R u a:=by
 have key: ∀k x,x≤k→R x a→ ∃r,R r a∧r≤x∧ ∀u,u<r→ ¬R u a:=by
  intro k
  induction k with
  |zero=>
   intro x hx h
   exact⟨x,h,Ch _,fun u hu=>by omega⟩
  |succ k ih=>
   intro x hx h;by_cases c: ∃u,u<x∧R u a
   ·obtain⟨u,hu,h1⟩:=c;obtain⟨r,r1,r2,r3⟩:=ih u (by omega) h1
    exact⟨r,r1,by omega,r3⟩
   ·exact⟨x,h,Ch _,fun u hu h1=>c ⟨u,hu,h1⟩⟩
 obtain⟨r,r1,r2,r3⟩:=key a a (Ch _) (hr a)
 exact⟨r,r1,r2,r3⟩
theorem ZL{n:Nat}{R R':Nat→Nat→Prop}(h: ∀x y,R x y↔R' x y):Fe n R=Fe n R':=by
 have:R=R':=by funext x y;exact propext (h x y)
 rw [this]
theorem ww{n:Nat}{R R':Nat→Nat→Prop}(hr: ∀x,R x x)(hs: ∀ {x y},R x y→R y x)(ht: ∀ {x y z},R x y→R y z→R x z){a b:Nat}(ha:a<n)(hb:b<n)(hab: ¬R a b)
  (h': ∀x y,R' x y↔R x y∨(R x a∧R b y)∨(R x b∧R a y)):Fe n R=Fe n R'+1:=by
 obtain⟨ra,a1,a2,a3⟩:=wu R hr a;obtain⟨rb,b1,b2,b3⟩:=wu R hr b;have hne:ra≠rb:=fun e=>hab (ht (hs a1) (e▸b1))
 have key: ∀(c d rc rd:Nat),R rc c→R rd d→(∀u,u<rc→ ¬R u c)→(∀u,u<rd→ ¬R u d)→ ¬R c d→rc<rd→rd<n→(∀x y,R' x y↔R x y∨(R x c∧R d y)∨(R x d∧R c y))→Fe n R=Fe n R'+1:=by
  intro c d rc rd c1 d1 c3 d3 hcd hlt hn hR;unfold Fe;refine iq _ _ rd n hn ?_ ?_ ?_
  ·rw [JC];exact fun u hu h=>d3 u hu (ht h d1)
  ·rw [←jK,JC];intro h;exact h rc hlt ((hR _ _).2 (.inr (.inl ⟨c1,hs d1⟩)))
  ·intro v hv
   have hiff:(∀u,u<v→ ¬R' u v)↔(∀u,u<v→ ¬R u v):=by
    constructor
    ·intro h u hu h1;exact h u hu ((hR _ _).2 (.inl h1))
    ·intro h u hu h1
     rcases(hR _ _).1 h1 with h1|⟨h1,h2⟩|⟨h1,h2⟩
     ·exact h u hu h1
     ·
      apply hv
      have e1: ¬rd<v:=fun hl=>h rd hl (ht d1 h2);have e2: ¬v<rd:=fun hl=>d3 v hl (hs h2);omega
     ·
      have e1: ¬rc<v:=fun hl=>h rc hl (ht c1 h2);have: ¬u<rd:=fun hl=>d3 u hl h1
      omega
   rw [S9,JC,JC];exact hiff
 rcases Nat.lt_or_gt_of_ne hne with hl|hl
 ·exact key a b ra rb a1 b1 a3 b3 hab hl (by omega) h'
 ·refine key b a rb ra b1 a1 b3 a3 (fun h=>hab (hs h)) hl (by omega) fun x y=> ?_
  rw [h' x y]
  constructor
  ·rintro(h|h|h)
   ·exact .inl h
   ·exact .inr (.inr h)
   ·exact .inr (.inl h)
  ·rintro(h|h|h)
   ·exact .inl h
   ·exact .inr (.inr h)
   ·exact .inr (.inl h)
def bB:List (Nat×Nat)→Prop
 | []=>True
 |e::P=> ¬CP P e.1 e.2∧bB P
theorem A2S(n:Nat):Fe n (CP [])=n:=by
 unfold Fe
 have:(ao n).countP (fun v=>dcd (∀u,u<v→ ¬CP [] u v))=(ao n).countP (fun _=>true):=by
  refine List.countP_congr fun v _=> ?_;rw [JC]
  refine⟨fun _=>rfl,fun _ u hu h=> ?_⟩
  obtain⟨k,hk⟩:=h
  have: ∀k x,Rch (kz []) u k x→x=u:=by
   intro k x hx
   induction hx with
   |z=>rfl
   |s _ hy _=>exact absurd hy (by simp [kz])
  have:=this k v hk
  omega
 rw [this];simp
theorem iw{n:Nat}{P:List (Nat×Nat)}{e:Nat×Nat}(he:e.1<n∧e.2<n):(CP P e.1 e.2→Fe n (CP (e::P))=Fe n (CP P))∧(¬CP P e.1 e.2→Fe n (CP P)=Fe n (CP (e::P))+1):=by
 constructor
 ·intro h;refine ZL fun x y=> ?_;rw [CP.cons]
  constructor
  ·rintro(h1|⟨h1,h2⟩|⟨h1,h2⟩)
   ·exact h1
   ·exact(h1.trans h).trans h2
   ·exact(h1.trans h.symm).trans h2
  ·exact .inl
 ·intro h;exact ww (fun x=>Cn.refl x) (fun h=>CP.symm h) (fun h1 h2=>Cn.trans h1 h2) he.1 he.2 h fun x y=>CP.cons
theorem Xk{n:Nat}: ∀ {P:List (Nat×Nat)},(∀e∈P,e.1<n∧e.2<n)→n≤Fe n (CP P)+P.length∧(Fe n (CP P)+P.length=n↔bB P)
 | [],_=>by rw [A2S];exact⟨by simp,by simp [bB]⟩
 |e::P,h=>by
  obtain⟨h1,h2⟩:=Xk (P:=P) fun f hf=>h f (QL _ hf);obtain⟨g1,g2⟩:=iw (P:=P) (h e Ia);rw [KL];by_cases c:CP P e.1 e.2
  ·rw [g1 c]
   refine⟨by omega,fun hh=>by omega,fun hh=>absurd c hh.1⟩
  ·have:=g2 c
   refine⟨by omega,fun hh=>⟨c,h2.1 (by omega)⟩,fun hh=> ?_⟩
   have:=h2.2 hh.2
   omega
def AEw(P:List (Nat×Nat)):Prop:= ∀A e B,P=A++e::B→ ¬CP (A++B) e.1 e.2
theorem A2T{n:Nat}{P:List (Nat×Nat)}(h: ∀e∈P,e.1<n∧e.2<n):AEw P↔bB P:=by
 constructor
 ·clear h
  induction P with
  |nil=>intro _;trivial
  |cons e P ih=>
   intro ha
   refine⟨ha [] e P rfl,ih fun A f B hP hc=> ?_⟩
   subst hP;exact ha (e::A) f B rfl (hc.sub fun g hg=>QL _ hg)
 ·intro hj A e B hP hc;subst hP;have hmem: ∀f,f∈A++e::B↔f∈e::(A++B):=fun f=>by simp [or_left_comm]
  have e1:Fe n (CP (A++e::B))=Fe n (CP (A++B)):=by
   rw [←(iw (P:=A++B) (h e (by simp))).1 hc]
   exact ZL fun x y=>⟨fun q=>q.sub fun f hf=>(hmem f).1 hf,fun q=>q.sub fun f hf=>(hmem f).2 hf⟩
  have e2:=(Xk h).2.2 hj
  have e3:=(Xk (n:=n) (P:=A++B) fun f hf=>h f (by
   rcases PV.1 hf with hf|hf
   ·exact cv _ hf
   ·exact cw _ (QL _ hf))).1
  simp only [Ol,KL]at e2 e3;omega
theorem ze{n:Nat}{P:List (Nat×Nat)}(h: ∀e∈P,e.1<n∧e.2<n):P.length=n-Fe n (CP P)↔AEw P:=by
 rw [A2T h,←(Xk h).2]
 have hl:Fe n (CP P)≤n:=by
  unfold Fe;exact Xr cq (by simp)
 omega
theorem zf{E:Ac}(ids ins:AU)(hn:E.length≤40)(hd: ∀v,v<E.length→(E.getD v be).length≤6)(hA: ∀x,x<E.length→ ∀y∈E8 E x,0≤y∧y.toNat<E.length)(v:Nat)(hv:v<E.length):
  UQ E ids ins (v:Int)=some (Ud E v)∧FinB (E8 E) E.length v (Ud E v):=by
 obtain⟨i1,i2,i3⟩:=WG (E8 E) E.length v hv;have fill:=vV (fun x=>Jp E ids ins (v:Int) x.1 x.2) (ap E.length (0:Int)) (fun _=>(-1:Int)) (0:Int) ?_ ?_
 ·have key:=ik (E8 E) E.length v hv hA (fun s=>Jr E ids ins s.1 s.2.1 s.2.2) (fun don o q=>(o,don++q,(don.length:Int))) (fun o=>o) ?_ ?_
   E.length [] (NM E.length v) [(v:Int)] i1 (by simp only [ZO];omega) i3 (by simp only [ZO,R8];omega)
  ·refine⟨?_,key.2⟩
   unfold UQ;rw [Qy,List.map_replicate]at fill;rw [BC (by omega)]
   have f2:Qr E ids ins (v:Int) (ap E.length 0,0)=some (ap E.length (-1)):=fill;rw [f2,C8,Cg,BC (by rw [Qy];omega)]
   have:Qt E ids ins ((ap E.length (-1)).set v 0,[(v:Int)],0)=some (Ud E v):=key.1
   rw [this];rfl
  ·intro don o w q hI hb;simp only [KL]at hb;have hw:=hI.qn w Ia;have hwn:((w.toNat:Nat):Int)=w:=by omega
   have:=sK E ids ins E.length v w.toNat _ hn (hd _ hw.2.1) (hA _ hw.2.1) don (by omega) o q hI.pop
   rw [hwn]at this
   have e1:(don++w::q).getD don.length be=w:=by
    rw [Lh,TE (Ch _),Xt];rfl
   have e2:=A2O E ids ins w.toNat hw.2.1 (hd _ hw.2.1);rw [hwn]at e2;simp only [Jr,Cg,e1];rw [if_pos (by simp only [Ol,KL];omega),BC (by simp only [Ol,KL];omega),e2,C8,this,C8,Gf _ (by omega)]
   simp
  ·intro don o _ _;simp only [Jr];rw [if_neg (by simp)]
 ·intro i hi out ho;simp only [Qy]at hi ho;simp only [Jp,Cg,Qy];rw [if_pos (BX hi),BC (by omega),Gf i (by omega)]
 ·intro out ho;simp only [Jp,Qy];rw [if_neg (Am _)]
def Rx(E:Ac):List (List Bool):=(ao E.length).map fun v=>ap (E.getD v be).length true
theorem A2U{E:Ac}(ids ins:AU)(hn:E.length≤40)(h6: ∀v,v<E.length→(E.getD v be).length≤6):Xd E ids ins=some (Rx E):=by
 unfold Xd Sn;have key:=Wx (fun x=>LM E x.1 x.2) (ao E.length) (fun v=>ap (E.getD v be).length true) ?_ ?_
 ·rw [key];rfl
 ·intro v hv out ho;rw [MS]at hv;have hl:=h6 v hv
  have inner:QD E out (v:Int) (ap (E.getD v be).length false,0)=some (ap (E.getD v be).length true):=by
   unfold QD;have k2:=vV (fun x=>LK E out (v:Int) x.1 x.2) (ap (E.getD v be).length false) (fun _=>true) false ?_ ?_
   ·rw [Qy,List.map_replicate]at k2;exact k2
   ·intro i hi o2 ho2;rw [Qy]at hi ho2;simp only [LK,Cg,Qy];rw [if_pos (BX hi),BC (by omega),Gf i (by omega)]
   ·intro o2 ho2;simp only [LK,Cg,Qy];rw [if_neg (Am _)]
  simp only [LM,Cg,MR];rw [if_pos (BX hv),BC (by omega),BC (by omega),inner,C8,BC (by omega),Gf v (by omega)]
 ·intro out ho;simp only [LM,MS];rw [if_neg (Am _)]
def kpt(K:List (List Bool))(x y:Nat):Bool:=(K.getD x be).getD y be
structure ShK{α:Type}(E:Ac)(K:List (List α)):Prop where
 len:K.length=E.length
 row: ∀v,v<E.length→(K.getD v be).length=(E.getD v be).length
theorem A84{E:Ac}(ids ins:AU)(hn:E.length≤40)(h6: ∀v,v<E.length→(E.getD v be).length≤6){K:List (List Bool)}(hK:ShK E K): ∃T,QE E ids ins K (ap E.length [],0)=some T∧ShK E T:=by
 have hkl:=hK.len;unfold QE;have key:=QY (fun x=>N7 E ids ins K x.1 x.2) (fun n s=> ∃v:Nat,n=E.length-v∧v≤E.length∧s.2=(v:Int)∧s.1.length=E.length∧(∀x,x<v→(s.1.getD x be).length=(E.getD x be).length)∧ ∀x,v≤x→x<E.length→s.1.getD x be=[])
  (fun T=>ShK E T) ?_ E.length (ap E.length ([]:AU),(0:Int)) ⟨0,rfl,by omega,rfl,by simp,fun x hx=>by omega,fun x _ hx=>by rw [Ad _ _ (by simpa using hx),List.getElem_replicate]⟩
 ·exact key
 ·rintro n ⟨T,v'⟩ ⟨v,hn',hv,ev,hl,h1,h2⟩
  dsimp only at ev hl h1 h2;subst ev;simp only [N7];by_cases c:v<E.length
  ·have hd:=h6 v c;have hkr:=hK.row v c;rw [if_pos (by omega),BC (by omega)]
   have k2:=QY (fun x=>Mx E ids ins K (v:Int) x.1 x.2.1 x.2.2) (fun n s=> ∃i k:Nat,n=(E.getD v be).length-i∧i≤(E.getD v be).length∧k≤i∧s.2.2=(i:Int)∧s.2.1=(k:Int)∧s.1.length=E.length∧(s.1.getD v be).length=i∧ ∀x,x≠v→s.1.getD x be=T.getD x be)
    (fun T'=>T'.length=E.length∧(T'.getD v be).length=(E.getD v be).length∧ ∀x,x≠v→T'.getD x be=T.getD x be) ?_ (E.getD v be).length (T,(0:Int),(0:Int)) ⟨0,0,rfl,by omega,by omega,rfl,rfl,hl,by rw [h2 v (by omega) c];rfl,fun _ _=>rfl⟩
   ·obtain⟨T',e1,e2,e3,e4⟩:=k2;have e1':Sq E ids ins K (v:Int) (T,0,0)=some T':=e1;rw [e1',C8,Gf v (by omega)]
    left
    refine⟨_,E.length-(v+1),rfl,by omega,v+1,rfl,by omega,rfl,e2,fun x hx=> ?_,fun x hx hx2=> ?_⟩
    ·dsimp only;by_cases e:x=v
     ·rw [e];exact e3
     ·rw [e4 x e];exact h1 x (by omega)
    ·dsimp only;rw [e4 x (by omega)]
     exact h2 x (by omega) hx2
   ·rintro n2 ⟨T2,k',i'⟩ ⟨i,k,hn2,hi,hki,ei,ek,g1,g2,g3⟩
    dsimp only at ei ek g1 g2 g3;subst ei;subst ek;simp only [Mx,Cg];by_cases c2:i<(E.getD v be).length
    ·have fin: ∀(z:Int),(T2.set v (T2.getD v be++[z])).length=E.length∧((T2.set v (T2.getD v be++[z])).getD v be).length=i+1∧ ∀x,x≠v→(T2.set v (T2.getD v be++[z])).getD x be=T.getD x be:=by
      intro z
      refine⟨by rw [Ij];exact g1, ?_,fun x hx=> ?_⟩
      ·rw [Ad _ _ (by rw [Ij];omega),tV,Ol,g2];rfl
      ·rw [Lh,A10 (fun e=>hx e.symm),←Lh];exact g3 x hx
     rw [if_pos (by omega),BC (by omega),BC (by omega),BC (by omega),BC (by omega),Gf i (by omega),Gf k (by omega)]
     left
     split
     ·exact⟨_,(E.getD v be).length-(i+1),rfl,by omega,i+1,k+1,rfl,by omega,by omega,rfl,rfl,fin _⟩
     ·exact⟨_,(E.getD v be).length-(i+1),rfl,by omega,i+1,k,rfl,by omega,by omega,rfl,rfl,fin _⟩
    ·rw [if_neg (by omega)]
     right
     exact⟨_,rfl,g1,by omega,g3⟩
  ·rw [if_neg (by omega)]
   right
   exact⟨_,rfl,hl,fun x hx=>h1 x (by omega)⟩
def ZM(E:Ac)(K:List (List Bool))(x:Nat):List Nat:=(ao (E.getD x be).length).filter (kpt K x)
theorem A5r{E:Ac}(ids ins:AU)(hn:E.length≤40)(h6: ∀v,v<E.length→(E.getD v be).length≤6)(hp: ∀v i,v<E.length→i<(E.getD v be).length→ ∃w p:Nat,BH (E.getD v be) i=(w:Int)∧Bj (E.getD v be) i=(p:Int)∧w<E.length∧p<(E.getD w be).length)(h1:ids.length<1099511627776)(h2:ins.length<1099511627776){K:List (List Bool)}(hK:ShK E K):
  ∃E',Ux E ids ins K=some (E',ids,ins)∧E'.length=E.length∧ ∀x,x<E.length→(E'.getD x be).map (·.1)=(ZM E K x).map (BH (E.getD x be)):=by
 obtain⟨T,t1,t2⟩:=A84 ids ins hn h6 hK;have hkl:=hK.len;have htl:=t2.len
 refine⟨(ao E.length).map fun x=>(ZM E K x).map fun y=>(BH (E.getD x be) y,(T.getD (BH (E.getD x be) y).toNat be).getD (Bj (E.getD x be) y).toNat be), ?_,by simp,fun x hx=> ?_⟩
 ·unfold Ux Kw;rw [BC (by omega),t1,C8,BC (by omega),C8,BC (by omega),C8]
  have key:=Wx (fun w=>LW E K T ids ins w.1 w.2) (ao E.length) (fun x=>(ZM E K x).map fun y=>(BH (E.getD x be) y,(T.getD (BH (E.getD x be) y).toNat be).getD (Bj (E.getD x be) y).toNat be)) ?_ ?_
  ·unfold Sr;rw [key];rfl
  ·intro x hx out ho;rw [MS]at hx;have hd:=h6 x hx;have hkr:=hK.row x hx;simp only [LW,MR]
   have inner:QF E K T ids ins out (x:Int) ([],0)=some ((ZM E K x).map fun y=>(BH (E.getD x be) y,(T.getD (BH (E.getD x be) y).toNat be).getD (Bj (E.getD x be) y).toNat be)):=by
    unfold QF ZM;have k2:=CO (fun w=>LU E K T ids ins out (x:Int) w.1 w.2) (fun i=>(((ao i).filter (kpt K x)).map fun y=>(BH (E.getD x be) y,(T.getD (BH (E.getD x be) y).toNat be).getD (Bj (E.getD x be) y).toNat be),(i:Int))) (E.getD x be).length (((ao (E.getD x be).length).filter (kpt K x)).map fun y=>(BH (E.getD x be) y,(T.getD (BH (E.getD x be) y).toNat be).getD (Bj (E.getD x be) y).toNat be)) ?_ ?_
    ·exact k2
    ·intro i hi;obtain⟨w,p,q1,q2,q3,q4⟩:=hp x i hx hi;have htr:=t2.row w q3;have hfl:((ao i).filter (kpt K x)).length≤i:=Xr (List.length_filter_le _ _) (by simp)
     simp only [LU,Cg,q1,q2,Qz];rw [if_pos (BX hi),BC (by omega),BC (by omega),BC (by omega),Gf i (by omega),ZQ,List.filter_append,co]
     by_cases c:(K.getD x be).getD i be=true
     ·have c':kpt K x i=true:=c;rw [if_pos c,BC (by omega),BC (by omega),BC (by omega)]
      simp only [c',List.filter_cons,List.filter_nil,if_true,WL,List.map_nil,q1,q2,Cg]
     ·have c':kpt K x i=false:=Es.2 c;rw [if_neg c];simp [c']
    ·simp only [LU,Cg];rw [if_neg (Am _)]
   rw [if_pos (BX hx),BC (by omega),inner,C8,BC (by omega),Gf x (by omega)]
  ·intro out ho;simp only [LW,MS];rw [if_neg (Am _)]
 ·rw [Ad _ _ (by simpa using hx)]
  simp only [TT,MR,List.map_map];rfl
def iy(E:Ac)(v i:Nat):Bool:=decide ((v:Int)<BH (E.getD v be) i)||(decide ((v:Int)=BH (E.getD v be) i)&&decide ((i:Int)≤Bj (E.getD v be) i))
def tO(E:Ac)(v:Nat):Nat→List (Int×Int×Int×Int)
 |0=>[]
 |i+1=>if iy E v i=true then tO E v i++[((v:Int),(i:Int),BH (E.getD v be) i,Bj (E.getD v be) i)]else tO E v i
def j3(E:Ac):Nat→List (Int×Int×Int×Int)
 |0=>[]
 |v+1=>j3 E v++tO E v (E.getD v be).length
theorem sN(E:Ac)(v:Nat): ∀i,(tO E v i).length≤i
 |0=>Ch _
 |i+1=>by
  have:=sN E v i
  unfold tO;split
  ·rw [Ol,ZO];omega
  ·omega
theorem sO(E:Ac)(h: ∀v,v<E.length→(E.getD v be).length≤6): ∀v,v≤E.length→(j3 E v).length≤6*v
 |0,_=>Ch _
 |v+1,hv=>by
  have h1:=sO E h v (by omega)
  have h2:=sN E v (E.getD v be).length;have h3:=h v (by omega)
  unfold j3;rw [Ol];omega
theorem bC(E:Ac)(v:Nat)(x:Int×Int×Int×Int): ∀n,x∈tO E v n↔ ∃i,i<n∧iy E v i=true∧x=((v:Int),(i:Int),BH (E.getD v be) i,Bj (E.getD v be) i)
 |0=>by simp [tO]
 |n+1=>by
  have ih:=bC E v x n;unfold tO;split
  ·rename_i hc
   rw [PV,VZ,ih]
   constructor
   ·rintro(⟨i,h1,h2,h3⟩|h)
    ·exact⟨i,by omega,h2,h3⟩
    ·exact⟨n,by omega,hc,h⟩
   ·rintro⟨i,h1,h2,h3⟩
    by_cases e:i=n
    ·subst e;exact .inr h3
    ·exact .inl ⟨i,by omega,h2,h3⟩
  ·rename_i hc
   rw [ih]
   constructor
   ·rintro⟨i,h1,h2,h3⟩;exact⟨i,by omega,h2,h3⟩
   ·rintro⟨i,h1,h2,h3⟩
    by_cases e:i=n
    ·subst e;exact absurd h2 hc
    ·exact⟨i,by omega,h2,h3⟩
theorem sP(E:Ac)(x:Int×Int×Int×Int): ∀n,x∈j3 E n↔ ∃v i,v<n∧i<(E.getD v be).length∧iy E v i=true∧x=((v:Int),(i:Int),BH (E.getD v be) i,Bj (E.getD v be) i)
 |0=>by simp [j3]
 |n+1=>by
  unfold j3;rw [PV,sP E x n,bC]
  constructor
  ·rintro(⟨v,i,h1,h2⟩|⟨i,h1,h2⟩)
   ·exact⟨v,i,by omega,h2⟩
   ·exact⟨n,i,by omega,h1,h2⟩
  ·rintro⟨v,i,h1,h2,h3⟩
   by_cases e:v=n
   ·subst e;exact .inr ⟨i,h2,h3⟩
   ·exact .inl ⟨v,i,by omega,h2,h3⟩
theorem A5s(E:Ac)(v:Nat)(out:List (Int×Int×Int×Int))(hd:(E.getD v be).length≤6)(ho:out.length≤1000):
  Fb E (v:Int) (out,0)=some (out++tO E v (E.getD v be).length):=by
 unfold Fb;have key:=CO (fun w=>DX E (v:Int) w.1 w.2) (fun i=>(out++tO E v i,(i:Int))) (E.getD v be).length (out++tO E v (E.getD v be).length) ?_ ?_
 ·have e:((0:Nat):Int)=0:=rfl;simp only [e,tO,V8]at key;exact key
 ·intro i hi;have hl:=sN E v i;have hlen:(out++tO E v i).length*4+4<1099511627776:=by rw [Ol];omega
  simp only [DX,Cg];rw [if_pos (BX hi),BC (by omega),Gf i (by omega)]
  have hc:iy E v i=(decide ((v:Int)<BH (E.getD v be) i)||(decide ((v:Int)=BH (E.getD v be) i)&&decide ((i:Int)≤Bj (E.getD v be) i))):=rfl;have hs:tO E v (i+1)=if iy E v i=true then tO E v i++[((v:Int),(i:Int),BH (E.getD v be) i,Bj (E.getD v be) i)]else tO E v i:=rfl
  rw [hs];by_cases c1:(v:Int)<BH (E.getD v be) i
  ·rw [if_pos c1,BC hlen,if_pos (by rw [hc,decide_eq_true c1];rfl),NV]
  ·rw [if_neg c1];by_cases c2:(v:Int)=BH (E.getD v be) i
   ·rw [if_pos c2];by_cases c3:(i:Int)≤Bj (E.getD v be) i
    ·rw [if_pos c3,BC hlen,if_pos (by rw [hc,decide_eq_true c2,decide_eq_true c3,ZR,Bool.or_true]),NV]
    ·rw [if_neg c3,if_neg (by rw [hc,decide_eq_false c1,decide_eq_false c3,Bool.and_false];simp)]
   ·rw [if_neg c2,if_neg (by rw [hc,decide_eq_false c1,decide_eq_false c2];simp)]
 ·simp only [DX,Cg];rw [if_neg (Am _)]
theorem A5t(E:Ac)(ids ins:AU)(hE:E.length≤40)(hd: ∀v,v<E.length→(E.getD v be).length≤6):JO E ids ins=some (j3 E E.length):=by
 unfold JO J7;have key:=CO (fun w=>DY E w.1 w.2) (fun v=>(j3 E v,(v:Int))) E.length (j3 E E.length) ?_ ?_
 ·have e:((0:Nat):Int)=0:=rfl;simp only [e]at key;rw [show(([],0):List (Int×Int×Int×Int)×Int)=(j3 E 0,0)from rfl,key];rfl
 ·intro v hv;have hl:=sO E hd v (by omega)
  simp only [DY];rw [if_pos (BX hv),BC (by omega),A5s E v _ (hd v hv) (by omega),C8,Gf v (by omega)]
  rfl
 ·simp only [DY];rw [if_neg (Am _)]
theorem AEx(L:List (Int×Int×Int×Int))(f:Int→Int→Int→Int→Option Bool)(p:Int×Int×Int×Int→Bool)(hL:L.length<1099511627776)(hf: ∀x∈L,f x.1 x.2.1 x.2.2.1 x.2.2.2=some (p x)):
  Ah L f=some (L.any p):=by
 unfold Ah Ar Aq;have key:=A4w (fun v=>Ae L f v) (fun i=>(i:Int)) L.length (fun i=>p (L.getD i be)) (fun i=> .inl (i:Int)) (.inr ()) ?_ ?_
 ·rw [Et]at key;rw [key]
  have hany:L.any p=(C9 L.length fun i=>p (L.getD i be)).isSome:=by
   rw [S9,Hw,Vd]
   constructor
   ·rintro⟨x,hx,hp⟩
    obtain⟨i,hi,rfl⟩:=V6 hx
    exact⟨i,hi,by rw [Ad _ _ hi];exact hp⟩
   ·rintro⟨i,hi,hp⟩
    rw [Ad _ _ hi]at hp
    exact⟨_,O6 hi,hp⟩
  rw [hany]
  cases C9 L.length fun i=>p (L.getD i be)with
  |none=>rfl
  |some i=>simp
 ·intro i hi;have hx:=hf _ (O6 hi);simp only [Ae,Cg,q4a,q4b,q4c,q4d];rw [if_pos (BX hi),BC (by omega),Ad _ _ hi,hx,C8,Gf i (by omega)]
 ·simp only [Ae];rw [if_neg (Am _)]
theorem mK(E:Ac)(v:Nat): ∀n,(tO E v n).Nodup
 |0=>List.nodup_nil
 |n+1=>by
  have ih:=mK E v n;unfold tO;split
  ·rw [List.nodup_append]
   refine⟨ih,by simp,fun a ha b hb e=> ?_⟩
   subst e;obtain⟨i,hi,_,rfl⟩:=(bC E v a n).1 ha;simp only [VZ,Prod.mk.injEq]at hb;omega
  ·exact ih
theorem mM(E:Ac): ∀n,(j3 E n).Nodup
 |0=>List.nodup_nil
 |n+1=>by
  have ih:=mM E n;unfold j3;rw [List.nodup_append]
  refine⟨ih,mK E n _,fun a ha b hb e=> ?_⟩
  subst e;obtain⟨v,i,hv,_,_,rfl⟩:=(sP E a n).1 ha;obtain⟨j,_,_,he⟩:=(bC E n _ _).1 hb;simp only [Prod.mk.injEq]at he;omega
theorem zg{E:Ac}{ids ins:AU}(h:GQ E ids ins=true):Mw E ids ins=some (ky E):=by
 obtain⟨hn,_,_,_⟩:=Uc h;have hq:=A5o h
 have inner: ∀v:Nat,v<E.length→ ∀out:AU,out.length=E.length→ ∀r1:AU,JP E ids ins r1 (v:Int) (Ud E v) (out,0)=some ((ao E.length).map fun x=>if QR E v x=true then(v:Int)else out.getD x be):=by
  intro v hv out hout r1;have hF:=mJ h v hv;unfold JP;have key:=CO (fun w=>Ef E ids ins r1 (v:Int) (Ud E v) w.1 w.2) (fun i=>((ao E.length).map fun x=>if x<i∧QR E v x=true then(v:Int)else out.getD x be,(i:Int))) E.length ((ao E.length).map fun x=>if QR E v x=true then(v:Int)else out.getD x be) ?_ ?_
  ·have e:((ao E.length).map fun x=>if x<0∧QR E v x=true then(v:Int)else out.getD x be)=out:=by
    refine Vb (by simp [hout]) fun i h1 h2=> ?_
    simp only [TT,MR,Nat.not_lt_zero,false_and,if_false];exact Ad _ _ h2
   simp only [e,Et]at key;exact key
  ·intro i hi;simp only [Ef,Cg,hF.len];rw [if_pos (BX hi),BC ⟨by omega,hi⟩,Gf i (by omega)]
   have hc:(0≤(Ud E v).getD i be)↔QR E v i=true:=by unfold QR JB;rw [decide_eq_true_eq]
   by_cases c:QR E v i=true
   ·rw [if_pos (hc.2 c),BC ⟨by omega,by simpa using hi⟩]
    congr 3
    refine Vb (by simp) fun j h1 h2=> ?_
    simp only [Ij,Qz,MS]at h1;simp only [List.getElem_set,TT,MR];by_cases e:i=j
    ·subst e;rw [if_pos rfl,if_pos ⟨by omega,c⟩]
    ·rw [if_neg e];by_cases e2:j<i
     ·by_cases c2:QR E v j=true
      ·rw [if_pos ⟨e2,c2⟩,if_pos ⟨by omega,c2⟩]
      ·rw [if_neg (fun q=>c2 q.2),if_neg (fun q=>c2 q.2)]
     ·rw [if_neg (fun q=>e2 q.1),if_neg (fun q=>by omega)]
   ·rw [if_neg (fun q=>c (hc.1 q))]
    congr 3
    refine xK fun j _=> ?_;by_cases c2:j<i∧QR E v j=true
    ·rw [if_pos c2,if_pos ⟨by omega,c2.2⟩]
    ·rw [if_neg c2,if_neg (fun q=>c2 ⟨by
      rcases Nat.lt_succ_iff_lt_or_eq.1 q.1 with h1|h1
      ·exact h1
      ·exact absurd (h1▸q.2) c,q.2⟩)]
  ·simp only [Ef,hF.len];rw [if_neg (Am _)]
   congr 2
   refine xK fun j hj=> ?_;have hj:=Eo.1 hj;by_cases c2:QR E v j=true
   ·rw [if_pos ⟨hj,c2⟩,if_pos c2]
   ·rw [if_neg (fun q=>c2 q.2),if_neg c2]
 have key:=CO (fun w=>Eg E ids ins (ap E.length (-1)) w.1 w.2) (fun v=>(Oi (QR E) E.length v,(v:Int))) E.length (ky E) ?_ ?_
 ·unfold Mw MC;rw [XU (-1) (E.length:Int) (by omega),C8,Cg]
  simp only [A2P,Et]at key;rw [key];rfl
 ·intro v hv;have hl:=wo (QR E) E.length v;simp only [Eg,Cg,Qy];rw [if_pos (BX hv),BC ⟨by omega,by omega⟩,Gf v (by omega)]
  by_cases c:0≤(Oi (QR E) E.length v).getD v be
  ·rw [if_pos c,A2Q hq hv c]
  ·rw [if_neg c,A2N h v hv,C8,inner v hv _ hl,C8,A5l hq hv c]
 ·simp only [Eg,Qy];rw [if_neg (Am _),A5n hq];rfl
def K4(E:Ac)(v i:Nat):Nat:=(BH (E.getD v be) i).toNat
def TQ(E:Ac)(v i:Nat):Nat:=(Bj (E.getD v be) i).toNat
def QS(E:Ac)(v i:Nat):Bool:=(BH (E.getD v be) i==(v:Int))&&(Bj (E.getD v be) i==(i:Int))
def wy(E:Ac)(v i x y:Nat):Bool:= !(decide (x=v)&&decide (y=i))&& !(decide (x=K4 E v i)&&decide (y=TQ E v i))
def OZ(E:Ac)(v i x:Nat):AU:=((ao (E.getD x be).length).filter (wy E v i x)).map (BH (E.getD x be))
theorem Ry{E:Ac}{v i x:Nat}{y:Int}:y∈OZ E v i x↔ ∃k,k<(E.getD x be).length∧wy E v i x k=true∧y=BH (E.getD x be) k:=by
 unfold OZ;rw [MO]
 constructor
 ·rintro⟨k,hk,rfl⟩
  rw [mf,Eo]at hk
  exact⟨k,hk.1,hk.2,rfl⟩
 ·rintro⟨k,h1,h2,rfl⟩
  exact⟨k,mf.2 ⟨Eo.2 h1,h2⟩,rfl⟩
structure PortN(E:Ac):Prop where
 big:E.length≤40∧1≤E.length
 deg: ∀v,v<E.length→(E.getD v be).length≤6
 prt: ∀v i,v<E.length→i<(E.getD v be).length→BH (E.getD v be) i=(K4 E v i:Int)∧Bj (E.getD v be) i=(TQ E v i:Int)∧K4 E v i<E.length∧TQ E v i<(E.getD (K4 E v i) be).length∧K4 E (K4 E v i) (TQ E v i)=v∧TQ E (K4 E v i) (TQ E v i)=i
theorem j4{E:Ac}{ids ins:AU}(h:GQ E ids ins=true):PortN E:=by
 obtain⟨h1,h2,h3,h4⟩:=Uc h
 refine⟨⟨h1,h2⟩,h3,fun v i hv hi=> ?_⟩
 obtain⟨w,p,q1,q2,q3,q4,q5,q6⟩:=h4 v i hv hi;unfold K4 TQ;rw [q1,q2,Cg,Cg,q5,q6,Cg,Cg]
 exact⟨rfl,rfl,q3,q4,rfl,rfl⟩
def j5(E:Ac)(v i w j:Nat):List (List Bool):=
 ((Rx E).set v (((Rx E).getD v be).set i false)).set w ((((Rx E).set v (((Rx E).getD v be).set i false)).getD w be).set j false)
theorem Ld{α:Type}[Inhabited α](l:List α)(a b:Nat)(x:α)(ha:a<l.length):(l.set a x).getD b be=if a=b then x else l.getD b be:=by
 by_cases e:a=b
 ·subst e;rw [if_pos rfl,Ad _ _ (by rw [Ij];exact ha),tV]
 ·rw [if_neg e,Lh,A10 e,←Lh]
theorem sQ(E:Ac):ShK E (Rx E):=⟨by simp [Rx],fun v hv=>by unfold Rx;rw [Ad _ _ (by simpa using hv)];simp⟩
theorem A0w{E:Ac}{x y:Nat}(hx:x<E.length)(hy:y<(E.getD x be).length):((Rx E).getD x be).getD y be=true:=by
 unfold Rx;rw [Ad ((ao E.length).map _) x (by simpa using hx)]
 simp only [TT,MR];rw [Ad _ _ (by simpa using hy),List.getElem_replicate]
theorem A5u{E:Ac}{v i w j:Nat}(hv:v<E.length)(hw:w<E.length):ShK E (j5 E v i w j):=by
 have ha:=sQ E;have hl:=ha.len
 refine⟨by unfold j5;rw [Ij,Ij,hl],fun x hx=> ?_⟩
 unfold j5;rw [Ld _ _ _ _ (by rw [Ij];omega)]
 split
 ·rename_i e
  subst e;rw [Ij,Ld _ _ _ _ (by omega)]
  split
  ·rename_i e;subst e;rw [Ij];exact ha.row _ hx
  ·exact ha.row _ hx
 ·rw [Ld _ _ _ _ (by omega)]
  split
  ·rename_i e;subst e;rw [Ij];exact ha.row _ hx
  ·exact ha.row _ hx
theorem A5v{E:Ac}{v i w j x y:Nat}(hv:v<E.length)(hi:i<(E.getD v be).length)(hw:w<E.length)(hj:j<(E.getD w be).length)(hx:x<E.length)(hy:y<(E.getD x be).length):
  kpt (j5 E v i w j) x y=(!(decide (x=v)&&decide (y=i))&& !(decide (x=w)&&decide (y=j))):=by
 have ha:=sQ E;have hl:=ha.len;have hr:=ha.row x hx
 have inner: ∀z,z<E.length→z=x→(((Rx E).set v (((Rx E).getD v be).set i false)).getD z be).getD y be= !(decide (x=v)&&decide (y=i)):=by
  intro z hz e;subst e;rw [Ld _ _ _ _ (by omega)]
  split
  ·rename_i e
   subst e;rw [Ld _ _ _ _ (by rw [hr];exact hi)]
   split
   ·rename_i e;subst e;simp
   ·rename_i e
    rw [A0w hx hy,decide_eq_false (p:=y=i) (fun q=>e q.symm)];simp
  ·rename_i e
   rw [A0w hx hy,decide_eq_false (p:=z=v) (fun q=>e q.symm)];rfl
 unfold kpt j5;rw [Ld _ _ _ _ (by rw [Ij];omega)]
 split
 ·rename_i e
  subst e
  have hrow:(((Rx E).set v (((Rx E).getD v be).set i false)).getD w be).length=(E.getD w be).length:=by
   rw [Ld _ _ _ _ (by omega)]
   split
   ·rename_i e;subst e;rw [Ij];exact hr
   ·exact hr
  rw [Ld _ _ _ _ (by rw [hrow];exact hj)]
  split
  ·rename_i e;subst e;simp
  ·rename_i e
   rw [inner w hw rfl,decide_eq_false (p:=y=j) (fun q=>e q.symm)];simp
 ·rename_i e
  rw [inner x hx rfl,decide_eq_false (p:=x=w) (fun q=>e q.symm)];simp
theorem zh{E:Ac}{ids ins:AU}(H:PortN E)(h1:ids.length<1099511627776)(h2:ins.length<1099511627776){v i:Nat}(hv:v<E.length)(hi:i<(E.getD v be).length):
  ∃d,Ro E ids ins (v:Int) (i:Int)=some d∧ -1≤d∧d≤40∧(0≤d↔Cn (OZ E v i) v (K4 E v i)):=by
 obtain⟨p1,p2,p3,p4,p5,p6⟩:=H.prt v i hv hi;have hn:=H.big;have hall:=sQ E;have hal:=hall.len;have har:=hall.row v hv;have hK:=A5u (E:=E) (v:=v) (i:=i) (w:=K4 E v i) (j:=TQ E v i) hv p3;obtain⟨E',c1,c2,c3⟩:=A5r ids ins hn.1 H.deg (fun x y hx hy=>by obtain⟨q1,q2,q3,q4,_⟩:=H.prt x y hx hy;exact⟨_,_,q1,q2,q3,q4⟩) h1 h2 hK
 have hrowF:(((Rx E).set v (((Rx E).getD v be).set i false)).getD (K4 E v i) be).length=(E.getD (K4 E v i) be).length:=by
  rw [Ld _ _ _ _ (by omega)]
  split
  ·rename_i e;rw [Ij,←e];exact hall.row v hv
  ·exact hall.row _ p3
 have hkl: ∀x,(ZM E (j5 E v i (K4 E v i) (TQ E v i)) x).length≤(E.getD x be).length:=fun x=>Xr (List.length_filter_le _ _) (by simp)
 have hd': ∀x,x<E'.length→(E'.getD x be).length≤6:=fun x hx=>by
  have:=congrArg List.length (c3 x (by omega))
  rw [Qz,Qz]at this;have:=hkl x
  have:=H.deg x (by omega)
  omega
 have hadj:E8 E'=OZ E v i:=by
  funext x
  unfold E8 OZ;by_cases hx:x<E.length
  ·have hk:ZM E (j5 E v i (K4 E v i) (TQ E v i)) x=(ao (E.getD x be).length).filter (wy E v i x):=by
    unfold ZM;refine List.filter_congr fun y hy=> ?_;rw [A5v hv hi p3 p4 hx (Eo.1 hy)];unfold wy;rfl
   rw [c3 x hx,hk]
  ·have e1:E'.getD x be=[]:=by rw [Lh,jI (by omega)];rfl
   have e2:E.getD x be=[]:=by rw [Lh,jI (by omega)];rfl
   rw [e1,e2];rfl
 have hA': ∀x,x<E'.length→ ∀y∈E8 E' x,0≤y∧y.toNat<E'.length:=by
  intro x hx y hy;rw [hadj]at hy;obtain⟨k,k1,_,rfl⟩:=Ry.1 hy;obtain⟨q1,_,q3,_⟩:=H.prt x k (by omega) k1
  omega
 obtain⟨d1,d2⟩:=zf ids ins (by omega) hd' hA' v (by omega)
 refine⟨(Ud E' v).getD (K4 E v i) be, ?_, ?_, ?_, ?_⟩
 ·unfold Ro;simp only [Cg,p1,p2];rw [BC (by omega),BC (by omega),A2U ids ins hn.1 H.deg,C8,BC (by omega),BC (by omega),BC (by omega),BC (by rw [hrowF];omega)]
  have e:Ux E ids ins (((Rx E).set v (((Rx E).getD v be).set i false)).set (K4 E v i) ((((Rx E).set v (((Rx E).getD v be).set i false)).getD (K4 E v i) be).set (TQ E v i) false))=some (E',ids,ins):=c1;rw [e,C8,d1,C8,BC (by rw [d2.len];omega)]
 ·exact d2.lo _ (by omega)
 ·have:=d2.hi (K4 E v i) (by omega)
  unfold JB at this;omega
 ·have:=d2.conn (x:=K4 E v i) (by omega)
  rw [hadj]at this;exact this
theorem zi{E:Ac}{ids ins:AU}(H:PortN E)(h1:ids.length<1099511627776)(h2:ins.length<1099511627776):
  ∃g,Rp E ids ins=some g∧0≤g∧(g=0↔ ∀v,v<E.length→ ∀i,i<(E.getD v be).length→QS E v i=false→ ¬Cn (OZ E v i) v (K4 E v i)):=by
 have hn:=H.big;unfold Rp PM;have key:=QY (fun w=>Kh E ids ins w.1 w.2) (fun n s=> ∃v:Nat,n=E.length-v∧v≤E.length∧s.2=(v:Int)∧(0≤s.1∧s.1≤41)∧(s.1=0↔ ∀x,x<v→ ∀i,i<(E.getD x be).length→QS E x i=false→ ¬Cn (OZ E x i) x (K4 E x i)))
  (fun g=>0≤g∧(g=0↔ ∀v,v<E.length→ ∀i,i<(E.getD v be).length→QS E v i=false→ ¬Cn (OZ E v i) v (K4 E v i))) ?_ E.length ((0:Int),(0:Int)) ⟨0,rfl,by omega,rfl,⟨by omega,by omega⟩,⟨fun _ x hx=>by omega,fun _=>rfl⟩⟩
 ·obtain⟨g,e1,e2,e3⟩:=key;rw [e1]
  exact⟨g,rfl,e2,e3⟩
 ·rintro n ⟨o,v'⟩ ⟨v,hn',hv,ev,ho,hA⟩
  dsimp only at ev ho hA;subst ev;simp only [Kh];by_cases c:v<E.length
  ·have hd:=H.deg v c;rw [if_pos (by omega),BC (by omega)]
   have k2:=QY (fun w=>Kg E ids ins (v:Int) w.1 w.2) (fun n s=> ∃i:Nat,n=(E.getD v be).length-i∧i≤(E.getD v be).length∧s.2=(i:Int)∧(0≤s.1∧s.1≤41)∧(s.1=0↔o=0∧ ∀k,k<i→QS E v k=false→ ¬Cn (OZ E v k) v (K4 E v k)))
    (fun g=>(0≤g∧g≤41)∧(g=0↔o=0∧ ∀k,k<(E.getD v be).length→QS E v k=false→ ¬Cn (OZ E v k) v (K4 E v k))) ?_ (E.getD v be).length (o,(0:Int)) ⟨0,rfl,by omega,rfl,ho,⟨fun e=>⟨e,fun k hk=>by omega⟩,fun e=>e.1⟩⟩
   ·obtain⟨g,e1,e2,e3⟩:=k2;have e1':PL E ids ins (v:Int) (o,0)=some g:=e1;rw [e1',C8,Gf v (by omega)]
    left
    refine⟨_,E.length-(v+1),rfl,by omega,v+1,rfl,by omega,rfl,e2, ?_⟩
    dsimp only;rw [e3,hA]
    constructor
    ·rintro⟨q1,q2⟩ x hx i hi hs
     by_cases e:x=v
     ·subst e;exact q2 i hi hs
     ·exact q1 x (by omega) i hi hs
    ·intro q
     exact⟨fun x hx=>q x (by omega),fun k hk=>q v (by omega) k hk⟩
   ·rintro n2 ⟨o2,i'⟩ ⟨i,hn2,hi,ei,ho2,hB⟩
    dsimp only at ei ho2 hB;subst ei;simp only [Kg,Cg];by_cases c2:i<(E.getD v be).length
    ·rw [if_pos (by omega),BC (by omega),Gf i (by omega)]
     rw [show((BH (E.getD v be) i==(v:Int))&&(Bj (E.getD v be) i==(i:Int)))=QS E v i from rfl]
     left
     cases hs:QS E v i with
     |true=>
      rw [if_pos rfl]
      refine⟨_,(E.getD v be).length-(i+1),rfl,by omega,i+1,rfl,by omega,rfl,ho2, ?_⟩
      dsimp only;rw [hB]
      constructor
      ·rintro⟨q1,q2⟩
       refine⟨q1,fun k hk hks=> ?_⟩
       by_cases e:k=i
       ·subst e;rw [hs]at hks;cases hks
       ·exact q2 k (by omega) hks
      ·rintro⟨q1,q2⟩
       exact⟨q1,fun k hk=>q2 k (by omega)⟩
     |false=>
      obtain⟨d,d1,d2,d3,d4⟩:=zh H h1 h2 c c2;rw [if_neg (by decide),d1,C8]
      by_cases c3:0≤d
      ·have hbad: ∀z:Int,z≠0→(z=0↔o=0∧ ∀k,k<i+1→QS E v k=false→ ¬Cn (OZ E v k) v (K4 E v k)):=fun z hz=>⟨fun e=>absurd e hz,fun q=>absurd (d4.1 c3) (q.2 i (by omega) hs)⟩
       rw [if_pos c3,Ib (d+1) (by omega)]
       by_cases c4:o2=0
       ·rw [if_pos c4]
        exact⟨_,(E.getD v be).length-(i+1),rfl,by omega,i+1,rfl,by omega,rfl,by dsimp only;omega,hbad _ (by dsimp only;omega)⟩
       ·rw [if_neg c4];by_cases c5:d+1<o2
        ·rw [if_pos c5]
         exact⟨_,(E.getD v be).length-(i+1),rfl,by omega,i+1,rfl,by omega,rfl,by dsimp only;omega,hbad _ (by dsimp only;omega)⟩
        ·rw [if_neg c5]
         exact⟨_,(E.getD v be).length-(i+1),rfl,by omega,i+1,rfl,by omega,rfl,ho2,hbad _ c4⟩
      ·rw [if_neg c3]
       refine⟨_,(E.getD v be).length-(i+1),rfl,by omega,i+1,rfl,by omega,rfl,ho2, ?_⟩
       dsimp only;rw [hB]
       constructor
       ·rintro⟨q1,q2⟩
        refine⟨q1,fun k hk hks=> ?_⟩
        by_cases e:k=i
        ·subst e;exact fun hc=>c3 (d4.2 hc)
        ·exact q2 k (by omega) hks
       ·rintro⟨q1,q2⟩
        exact⟨q1,fun k hk=>q2 k (by omega)⟩
    ·rw [if_neg (by omega)]
     right
     refine⟨_,rfl,ho2, ?_⟩
     have:i=(E.getD v be).length:=by omega
     subst this;exact hB
  ·rw [if_neg (by omega)]
   right
   have:v=E.length:=by omega
   subst this
   exact⟨_,rfl,ho.1,hA⟩
def Xl(E:Ac):Bool:=(ao E.length).any fun v=>(ao (E.getD v be).length).any (QS E v)
theorem WH{α:Type}(p:α→Bool): ∀l:List α,(l.all fun c=> !p c)= !(l.any p)
 | []=>rfl
 |a::l=>by rw [Xq,List.any_cons,WH p l];cases p a<;>rfl
theorem A2V{E:Ac}(ids ins:AU)(H:PortN E):UT E ids ins=some (Xl E):=by
 have hn:=H.big
 have inner: ∀v,v<E.length→OW E ids ins (v:Int) 0=some (if(ao (E.getD v be).length).any (QS E v)=true then .inl ()else .inr ()):=by
  intro v hv;have hd:=H.deg v hv;unfold OW;have key:=Df (fun w=>Ju E ids ins (v:Int) w) (fun i=>(i:Int)) (E.getD v be).length (fun i=> !QS E v i) (.inl ()) (.inr ()) ?_ ?_
  ·rw [Et]at key;rw [key,WH]
   cases (ao (E.getD v be).length).any (QS E v)<;>rfl
  ·intro i hi;simp only [Ju,Cg];rw [if_pos (BX hi),BC (by omega),Gf i (by omega)]
   by_cases hs:((BH (E.getD v be) i==(v:Int))&&(Bj (E.getD v be) i==(i:Int)))=true
   ·have hs':QS E v i=true:=hs;rw [if_pos hs,hs'];rfl
   ·have hs':QS E v i=false:=Es.2 hs;rw [if_neg hs,hs'];rfl
  ·simp only [Ju,Cg];rw [if_neg (Am _)]
 unfold UT Qu;have key:=Df (fun w=>Jv E ids ins w) (fun v=>(v:Int)) E.length (fun v=> !(ao (E.getD v be).length).any (QS E v)) (.inl ()) (.inr ()) ?_ ?_
 ·rw [Et]at key;rw [key,C8,WH];unfold Xl
  cases (ao E.length).any fun v=>(ao (E.getD v be).length).any (QS E v)<;>rfl
 ·intro v hv;simp only [Jv];rw [if_pos (BX hv),BC (by omega),inner v hv,C8,Gf v (by omega)]
  cases (ao (E.getD v be).length).any (QS E v)<;>rfl
 ·simp only [Jv];rw [if_neg (Am _)]
def A5w(E:Ac):Prop:= ∀v,v<E.length→ ∀i,i<(E.getD v be).length→QS E v i=false→ ¬Cn (OZ E v i) v (K4 E v i)
def zk(E:Ac):Bool:= !Xl E&&dcd (A5w E)
theorem wz{E:Ac}{ids ins:AU}(H:PortN E)(h1:ids.length<1099511627776)(h2:ins.length<1099511627776):QG E ids ins=some (zk E):=by
 unfold QG zk;rw [A2V ids ins H,C8]
 cases hs:Xl E with
 |true=>rfl
 |false=>
  obtain⟨g,g1,g2,g3⟩:=zi H h1 h2;rw [if_neg (by decide),g1,C8]
  congr 1
  rw [Bool.not_false,SA,S9,decide_eq_true_eq,JC,g3];rfl
def mO(x:Int×Int×Int×Int):Nat×Nat:=(x.1.toNat,x.2.2.1.toNat)
def zm(E:Ac):List (Nat×Nat):=(j3 E E.length).map mO
def Uf(E:Ac)(v i:Nat):Int×Int×Int×Int:=((v:Int),(i:Int),(K4 E v i:Int),(TQ E v i:Int))
theorem Qx{E:Ac}(H:PortN E){x:Int×Int×Int×Int}:x∈j3 E E.length↔ ∃v i,v<E.length∧i<(E.getD v be).length∧(v<K4 E v i∨(v=K4 E v i∧i≤TQ E v i))∧x=Uf E v i:=by
 rw [sP]
 constructor
 ·rintro⟨v,i,hv,hi,hc,rfl⟩
  obtain⟨p1,p2,_⟩:=H.prt v i hv hi
  refine⟨v,i,hv,hi, ?_,by unfold Uf;rw [p1,p2]⟩
  unfold iy at hc;rw [p1,p2]at hc;simp only [TU,En,decide_eq_true_eq]at hc;omega
 ·rintro⟨v,i,hv,hi,hc,rfl⟩
  obtain⟨p1,p2,_⟩:=H.prt v i hv hi
  refine⟨v,i,hv,hi, ?_,by unfold Uf;rw [p1,p2]⟩
  unfold iy;rw [p1,p2];simp only [TU,En,decide_eq_true_eq];omega
def Rz(E:Ac)(v i:Nat):Int×Int×Int×Int:=if v<K4 E v i∨(v=K4 E v i∧i≤TQ E v i)then Uf E v i else Uf E (K4 E v i) (TQ E v i)
theorem j6{E:Ac}(H:PortN E){v i:Nat}(hv:v<E.length)(hi:i<(E.getD v be).length):Rz E v i∈j3 E E.length:=by
 obtain⟨p1,p2,p3,p4,p5,p6⟩:=H.prt v i hv hi;unfold Rz;split
 ·rename_i c
  exact(Qx H).2 ⟨v,i,hv,hi,c,rfl⟩
 ·rename_i c
  exact(Qx H).2 ⟨K4 E v i,TQ E v i,p3,p4,by rw [p5,p6];omega,rfl⟩
theorem Yn{E:Ac}(H:PortN E){v i:Nat}(hv:v<E.length)(hi:i<(E.getD v be).length):mO (Rz E v i)=(v,K4 E v i)∨mO (Rz E v i)=(K4 E v i,v):=by
 obtain⟨p1,p2,p3,p4,p5,p6⟩:=H.prt v i hv hi;unfold Rz;split
 ·left;simp [mO,Uf]
 ·right;simp [mO,Uf,p5]
theorem A5x{E:Ac}(H:PortN E)(x:Nat)(y:Int):y∈kz (zm E) x↔y∈E8 E x:=by
 rw [NN,QH]
 constructor
 ·rintro⟨e,he,hq⟩
  obtain⟨z,hz,rfl⟩:=MO.1 he;obtain⟨v,i,hv,hi,_,rfl⟩:=(Qx H).1 hz;obtain⟨p1,p2,p3,p4,p5,p6⟩:=H.prt v i hv hi;rcases hq with⟨c,q⟩|⟨c,q⟩
  ·simp only [mO,Uf,Cg]at c q;subst c
   exact⟨i,hi,by rw [p1,q]⟩
  ·simp only [mO,Uf,Cg]at c q;subst c
   refine⟨TQ E v i,p4, ?_⟩
   rw [(H.prt _ _ p3 p4).1,p5,q]
 ·rintro⟨i,hi,rfl⟩
  have hx:x<E.length:=by
   apply cx
   intro hc;rw [Lh,jI (by omega)]at hi
   exact absurd hi (by simp [be])
  obtain⟨p1,_⟩:=H.prt x i hx hi
  refine⟨mO (Rz E x i),MO.2 ⟨_,j6 H hx hi,rfl⟩, ?_⟩
  rw [p1];rcases Yn H hx hi with e|e
  ·rw [e];exact .inl ⟨rfl,rfl⟩
  ·rw [e];exact .inr ⟨rfl,rfl⟩
theorem A5y{E:Ac}(H:PortN E){x y:Nat}:CP (zm E) x y↔Cn (E8 E) x y:=
 ⟨fun h=>Cn.mono (fun x y hy=>(A5x H x y).1 hy) h,fun h=>Cn.mono (fun x y hy=>(A5x H x y).2 hy) h⟩
theorem A85{E:Ac}(H:PortN E): ∀e∈zm E,e.1<E.length∧e.2<E.length:=by
 intro e he;obtain⟨z,hz,rfl⟩:=MO.1 he;obtain⟨v,i,hv,hi,_,rfl⟩:=(Qx H).1 hz;obtain⟨p1,p2,p3,_⟩:=H.prt v i hv hi;simp only [mO,Uf,Cg]
 exact⟨hv,p3⟩
theorem sU{E:Ac}(H:PortN E){v i x k:Nat}(hv:v<E.length)(hi:i<(E.getD v be).length)(hx:x<E.length)(hk:k<(E.getD x be).length):wy E v i x k=true↔Rz E x k≠Rz E v i:=by
 obtain⟨p1,p2,p3,p4,p5,p6⟩:=H.prt v i hv hi;obtain⟨q1,q2,q3,q4,q5,q6⟩:=H.prt x k hx hk
 have key:Rz E x k=Rz E v i↔(x=v∧k=i)∨(x=K4 E v i∧k=TQ E v i):=by
  constructor
  ·intro e;unfold Rz at e
   split at e<;>split at e<;>simp only [Uf,Prod.mk.injEq,Int.natCast_inj]at e
   ·exact .inl ⟨e.1,e.2.1⟩
   ·exact .inr ⟨e.1,e.2.1⟩
   ·right;exact⟨by omega,by omega⟩
   ·left;exact⟨by omega,by omega⟩
  ·rintro(⟨rfl,rfl⟩|⟨rfl,rfl⟩)
   ·rfl
   ·unfold Rz;rw [p5,p6];by_cases c1:K4 E v i<v∨(K4 E v i=v∧TQ E v i≤i)
    ·rw [if_pos c1];by_cases c2:v<K4 E v i∨(v=K4 E v i∧i≤TQ E v i)
     ·rw [if_pos c2];have e1:K4 E v i=v:=by omega
      have e2:TQ E v i=i:=by omega
      rw [e1,e2]
     ·rw [if_neg c2]
    ·rw [if_neg c1,if_pos (by omega)]
 unfold wy;rw [En,NP,NP,Bool.and_eq_false_iff,Bool.and_eq_false_iff,decide_eq_false_iff_not,decide_eq_false_iff_not,decide_eq_false_iff_not,decide_eq_false_iff_not,ne_eq,key]
 constructor
 ·rintro⟨h1,h2⟩ (⟨a,b⟩|⟨a,b⟩)
  ·rcases h1 with h|h
   ·exact h a
   ·exact h b
  ·rcases h2 with h|h
   ·exact h a
   ·exact h b
 ·intro h
  refine⟨?_, ?_⟩
  ·by_cases a:x=v
   ·exact .inr fun b=>h (.inl ⟨a,b⟩)
   ·exact .inl a
  ·by_cases a:x=K4 E v i
   ·exact .inr fun b=>h (.inr ⟨a,b⟩)
   ·exact .inl a
theorem mP{E:Ac}(H:PortN E){v i:Nat}(hv:v<E.length)(hi:i<(E.getD v be).length)(hc:v<K4 E v i∨(v=K4 E v i∧i≤TQ E v i)):Rz E v i=Uf E v i:=by unfold Rz;rw [if_pos hc]
theorem A86{E:Ac}(H:PortN E)(hs:Xl E=false):AEw (zm E)↔A5w E:=by
 have hns: ∀v,v<E.length→ ∀i,i<(E.getD v be).length→QS E v i=false:=by
  intro v hv i hi;unfold Xl at hs;rw [cr]at hs;have:=hs v (Eo.2 hv)
  rw [jK,cr]at this;exact jK _▸this i (Eo.2 hi)
 have walk: ∀v i,v<E.length→i<(E.getD v be).length→ ∀A B,j3 E E.length=A++Rz E v i::B→ ∀x y:Nat,Cn (OZ E v i) x y↔CP (A.map mO++B.map mO) x y:=by
  intro v i hv hi A B hAB x y;have hnd:=mM E E.length;rw [hAB]at hnd
  have hmem: ∀z,z∈A++B↔z∈j3 E E.length∧z≠Rz E v i:=by
   intro z;rw [hAB];have hd:=(List.nodup_append.1 hnd);have hb:=List.nodup_cons.1 hd.2.1
   constructor
   ·intro hz;rcases PV.1 hz with hz|hz
    ·exact⟨cv _ hz,hd.2.2 z hz _ Ia⟩
    ·exact⟨cw _ (QL _ hz),fun e=>hb.1 (e▸hz)⟩
   ·rintro⟨hz,hne⟩
    rcases PV.1 hz with hz|hz
    ·exact cv _ hz
    ·rcases TF.1 hz with hz|hz
     ·exact absurd hz hne
     ·exact cw _ hz
  have hadj: ∀x y,y∈OZ E v i x↔y∈kz (A.map mO++B.map mO) x:=by
   intro x y;rw [Ry,NN,←co]
   constructor
   ·rintro⟨k,hk,ho,rfl⟩
    have hx:x<E.length:=by
     apply cx
     intro hc;rw [Lh,jI (by omega)]at hk
     exact absurd hk (by simp [be])
    obtain⟨q1,_⟩:=H.prt x k hx hk
    refine⟨mO (Rz E x k),MO.2 ⟨_,(hmem _).2 ⟨j6 H hx hk,(sU H hv hi hx hk).1 ho⟩,rfl⟩, ?_⟩
    rw [q1];rcases Yn H hx hk with e|e
    ·rw [e];exact .inl ⟨rfl,rfl⟩
    ·rw [e];exact .inr ⟨rfl,rfl⟩
   ·rintro⟨e,he,hq⟩
    obtain⟨z,hz,rfl⟩:=MO.1 he;obtain⟨hz1,hz2⟩:=(hmem z).1 hz;obtain⟨a,k,ha,hk,hc,rfl⟩:=(Qx H).1 hz1;obtain⟨q1,q2,q3,q4,q5,q6⟩:=H.prt a k ha hk;have hself:=mP H ha hk hc;rcases hq with⟨c,q⟩|⟨c,q⟩
    ·simp only [mO,Uf,Cg]at c q;subst c
     exact⟨k,hk,(sU H hv hi ha hk).2 (by rw [hself];exact hz2),by rw [q1,q]⟩
    ·simp only [mO,Uf,Cg]at c q;subst c
     refine⟨TQ E a k,q4,(sU H hv hi q3 q4).2 ?_,by rw [(H.prt _ _ q3 q4).1,q5,q]⟩
     have:Rz E (K4 E a k) (TQ E a k)=Uf E a k:=by
      unfold Rz;rw [q5,q6];by_cases c1:K4 E a k<a∨(K4 E a k=a∧TQ E a k≤k)
      ·rw [if_pos c1];have e1:K4 E a k=a:=by omega
       have e2:TQ E a k=k:=by omega
       rw [e1,e2]
      ·rw [if_neg c1]
     rw [this];exact hz2
  exact⟨fun h=>Cn.mono (fun x y hy=>(hadj x y).1 hy) h,fun h=>Cn.mono (fun x y hy=>(hadj x y).2 hy) h⟩
 constructor
 ·intro hP v hv i hi hsl hc;obtain⟨A,B,hAB⟩:=List.append_of_mem (j6 H hv hi);have h1:=(walk v i hv hi A B hAB v (K4 E v i)).1 hc;have h2:=hP (A.map mO) (mO (Rz E v i)) (B.map mO) (by unfold zm;rw [hAB];simp)
  rcases Yn H hv hi with e|e
  ·rw [e]at h2;exact h2 h1
  ·rw [e]at h2;exact h2 h1.symm
 ·intro hE A' e B' hP hc;unfold zm at hP;obtain⟨A,R,hAB,hA,hR⟩:=List.map_eq_append_iff.1 hP;obtain⟨z,B,hz,hze,hB⟩:=List.map_eq_cons_iff.1 hR;subst hz;have hzm:z∈j3 E E.length:=by rw [hAB];simp
  obtain⟨v,i,hv,hi,hcd,rfl⟩:=(Qx H).1 hzm;have hself:=mP H hv hi hcd
  have h1:=(walk v i hv hi A B (by rw [hself];exact hAB) v (K4 E v i)).2 (by
   rw [hA,hB];rw [←hze]at hc
   simpa only [mO,Uf,Cg] using hc)
  exact hE v hv i hi (hns v hv i hi) h1
theorem zn{E:Ac}{ids ins:AU}(h:GQ E ids ins=true)(H:PortN E){v:Nat}(hv:v<E.length):(v:Int)=(ky E).getD v be↔ ∀u,u<v→ ¬CP (zm E) u v:=by
 have hg:(ky E).getD v be=(A5m (QR E) E.length v:Int):=by
  unfold ky;rw [Ad _ _ (by simpa using hv)];simp
 have hself:QR E v v=true:=(OY h hv hv).2 ⟨0,Rch.z⟩;have hiff: ∀u,u<E.length→(QR E u v=true↔CP (zm E) u v):=fun u hu=>by rw [OY h hu hv,A5y H];rfl
 rw [hg];unfold A5m
 cases hf:C9 E.length (fun u=>QR E u v)with
 |none=>
  have:=(Hw (P:=fun u=>QR E u v)).2 ⟨v,hv,hself⟩
  rw [hf]at this;cases this
 |some m=>
  obtain⟨m1,m2⟩:=Nc hf;have m3:=ZI hf;rw [mZ]
  constructor
  ·intro e u hu hc;have:=m3 u (by omega)
   have hx:=(hiff u (by omega)).2 hc
   rw [this]at hx;cases hx
  ·intro hall;have a1: ¬m<v:=fun hl=>hall m hl ((hiff m m1).1 m2)
   have a2: ¬v<m:=fun hl=>by
    have:=m3 v hl
    rw [hself]at this;cases this
   omega
theorem sV{E:Ac}{ids ins:AU}(h:GQ E ids ins=true):QC E ids ins=some (zk E):=by
 have H:=j4 h;have hn:=H.big;have hlen:=sO E H.deg E.length (Ch _)
 have hany:(j3 E E.length).any (fun x=>decide (x.1=x.2.2.1)&&decide (x.2.1=x.2.2.2))=Xl E:=by
  rw [S9,Vd];unfold Xl;rw [Vd]
  constructor
  ·rintro⟨x,hx,hp⟩
   obtain⟨v,i,hv,hi,_,rfl⟩:=(Qx H).1 hx;obtain⟨p1,p2,_⟩:=H.prt v i hv hi;have hp:(decide ((v:Int)=(K4 E v i:Int))&&decide ((i:Int)=(TQ E v i:Int)))=true:=hp;rw [En,decide_eq_true_eq,decide_eq_true_eq]at hp
   refine⟨v,Eo.2 hv,Vd.2 ⟨i,Eo.2 hi, ?_⟩⟩
   unfold QS;rw [p1,p2,En,beq_iff_eq,beq_iff_eq];omega
  ·rintro⟨v,hv,hp⟩
   have hv:=Eo.1 hv;obtain⟨i,hi,hp⟩:=Vd.1 hp;have hi:=Eo.1 hi;obtain⟨p1,p2,_⟩:=H.prt v i hv hi;unfold QS at hp;rw [p1,p2,En,beq_iff_eq,beq_iff_eq]at hp
   refine⟨Uf E v i,(Qx H).2 ⟨v,i,hv,hi,by omega,rfl⟩, ?_⟩
   show(decide ((v:Int)=(K4 E v i:Int))&&decide ((i:Int)=(TQ E v i:Int)))=true
   rw [En,decide_eq_true_eq,decide_eq_true_eq];omega
 have hcon:=AEx (j3 E E.length) (fun a0_0 a0_1 a0_2 a0_3=>MN a0_0 a0_1 a0_2 a0_3) (fun x=>decide (x.1=x.2.2.1)&&decide (x.2.1=x.2.2.2)) (by omega) (fun x _=>by
  unfold MN;by_cases c:x.1=x.2.2.1
  ·rw [if_pos c,decide_eq_true c];rfl
  ·rw [if_neg c,decide_eq_false c];rfl)
 have hcount:Lx E ids ins (j3 E E.length) (ky E) (0,0)=some (Fe E.length (CP (zm E)):Int):=by
  have hpl:(ky E).length=E.length:=by simp [ky]
  unfold Lx;have key:=CO (fun w=>G7 E ids ins (j3 E E.length) (ky E) w.1 w.2) (fun k=>((((ao k).countP fun v=>dcd (∀u,u<v→ ¬CP (zm E) u v):Nat):Int),(k:Int))) E.length (Fe E.length (CP (zm E)):Int) ?_ ?_
  ·exact key
  ·intro k hk;have hc:(ao k).countP (fun v=>dcd (∀u,u<v→ ¬CP (zm E) u v))≤k:=Xr cq (by simp)
   have hr:=zn h H hk;simp only [G7,Cg];rw [if_pos (by omega),BC (by omega),Gf k (by omega),ZQ,cj,cm]
   by_cases c:(k:Int)=(ky E).getD k be
   ·rw [if_pos c,if_pos (JC.2 (hr.1 c)),Ib _ (by omega)];rfl
   ·rw [if_neg c,if_neg (fun q=>c (hr.2 (JC.1 q)))];rfl
  ·simp only [G7];rw [if_neg (by omega)];rfl
 unfold QC zk;rw [A5t E ids ins hn.1 H.deg,C8,hcon,C8,hany]
 cases hs:Xl E with
 |true=>rfl
 |false=>
  have hle:Fe E.length (CP (zm E))≤E.length:=by
   unfold Fe;exact Xr cq (by simp)
  rw [if_neg (by decide),zg h,C8,hcount,C8,Ib _ (by omega)]
  congr 1
  have hc:=ze (A85 H);rw [A86 H hs]at hc;have hl:(zm E).length=(j3 E E.length).length:=by simp [zm]
  rw [Bool.not_false,SA,S9,decide_eq_true_eq,JC,←hc,hl];omega
theorem mQ(p q:Nat→Bool)(h: ∀x,q x=true→p x=true)(r:Nat)(hp:p r=true)(hq:q r=false): ∀n,r<n→(ao n).countP q<(ao n).countP p
 |0,h=>by omega
 |n+1,hr=>by
  rw [ZQ,cj,cj,cm,cm];by_cases e:r=n
  ·subst e;have:(ao r).countP q≤(ao r).countP p:=List.countP_mono_left fun x _=>h x
   rw [if_pos hp,hq];simp only [O5,if_false];omega
  ·have ih:=mQ p q h r hp hq n (by omega)
   by_cases c:q n=true
   ·rw [if_pos c,if_pos (h n c)];omega
   ·rw [if_neg c];omega
def msr(E:Ac)(v i:Nat):Nat:=(ao E.length).countP fun x=>dcd (Cn (OZ E v i) v x)
theorem sW{E:Ac}(hs:Xl E=false){v i:Nat}(hv:v<E.length)(hi:i<(E.getD v be).length):QS E v i=false:=by
 unfold Xl at hs;rw [cr]at hs;have h1:=hs v (Eo.2 hv);rw [jK,cr]at h1;have h2:=h1 i (Eo.2 hi);simpa using h2
theorem jA{E:Ac}(H:PortN E)(hs:Xl E=false)(ha:A5w E){v i k:Nat}(hv:v<E.length)(hi:i<(E.getD v be).length)(hk:k<(E.getD v be).length)(hki:k≠i):
  (∀x,Cn (OZ E (K4 E v k) (TQ E v k)) (K4 E v k) x→Cn (OZ E v i) v x)∧ ¬Cn (OZ E (K4 E v k) (TQ E v k)) (K4 E v k) v:=by
 obtain⟨p1,p2,p3,p4,p5,p6⟩:=H.prt v k hv hk;obtain⟨q1,q2,q3,q4,q5,q6⟩:=H.prt v i hv hi
 have hno: ¬Cn (OZ E (K4 E v k) (TQ E v k)) (K4 E v k) v:=by
  have:=ha (K4 E v k) p3 (TQ E v k) p4 (sW hs p3 p4)
  rwa [p5]at this
 have hself:K4 E v i≠v:=by
  intro e;have:=ha v hv i hi (sW hs hv hi)
  rw [e]at this;exact this (Cn.refl v)
 refine⟨fun x hx=> ?_,hno⟩
 obtain⟨l,hl⟩:=hx
 induction hl with
 |z=>
  have hm:BH (E.getD v be) k∈OZ E v i v:=by
   rw [Ry]
   refine⟨k,hk, ?_,rfl⟩
   unfold wy;rw [decide_eq_true (rfl:v=v),decide_eq_false hki,decide_eq_false (fun e:v=K4 E v i=>hself e.symm)];rfl
  have:=Cn.of hm
  rwa [p1,Cg]at this
 | @s l x y hr hy ih=>
  have hx:x≠v:=fun e=>hno (Eq.subst (motive:=fun z=>Cn (OZ E (K4 E v k) (TQ E v k)) (K4 E v k) z) e ⟨_,hr⟩);have hyv:y.toNat≠v:=fun e=>hno (Eq.subst (motive:=fun z=>Cn (OZ E (K4 E v k) (TQ E v k)) (K4 E v k) z) e ⟨_,Rch.s hr hy⟩);obtain⟨p,hp,_,rfl⟩:=Ry.1 hy;refine ih.trans (Cn.of (Ry.2 ⟨p,hp, ?_,rfl⟩));unfold wy;rw [decide_eq_false hx,Bool.false_and];by_cases e1:x=K4 E v i
  ·by_cases e2:p=TQ E v i
   ·exfalso;apply hyv
    rw [e1,e2];exact q5
   ·rw [decide_eq_false e2,Bool.and_false];rfl
  ·rw [decide_eq_false e1];rfl
theorem A5z{E:Ac}(H:PortN E)(hs:Xl E=false)(ha:A5w E): ∀(f v i:Nat),v<E.length→i<(E.getD v be).length→msr E v i≤f→A2M E f v (i:Int)
 |0,v,i,hv,hi,hm=>by
  have:0<msr E v i:=by
   unfold msr;rw [List.countP_pos_iff]
   exact⟨v,Eo.2 hv,JC.2 (Cn.refl v)⟩
  omega
 |f+1,v,i,hv,hi,hm=>by
  refine⟨hv,fun k hk hki=> ?_⟩
  have hki':k≠i:=by omega
  obtain⟨p1,p2,p3,p4,p5,p6⟩:=H.prt v k hv hk;obtain⟨b1,b2⟩:=jA H hs ha hv hi hk hki';refine A5z H hs ha f (K4 E v k) (TQ E v k) p3 p4 ?_
  have:msr E (K4 E v k) (TQ E v k)<msr E v i:=by
   unfold msr
   exact mQ _ _ (fun x hx=>JC.2 (b1 x (JC.1 hx))) v (JC.2 (Cn.refl v)) (by
    rw [Es];intro hc
    exact b2 (JC.1 hc)) E.length hv
  omega
theorem A60: ∀n:Fin 9,∀a:Fin 8,a.val<n.val→BS (2 ^ n.val-1) a.val=true:=by decide+kernel
def BD(E:Ac):AV:=E.map fun row=>(ao row.length).map fun _=>(-1:Int)
theorem jB{E:Ac}(ids inp:AU)(hN:NetOk E):Rq E ids inp=some (BD E):=by
 have hb:=hN.big;unfold Rq PN;have key:=Wx (fun w=>IJ E w.1 w.2) E (fun row=>(ao row.length).map fun _=>(-1:Int)) ?_ ?_
 ·rw [key];rfl
 ·intro v hv out ho;have hd:=hN.deg v hv
  have inner:NA E out (v:Int) (ap (E.getD v be).length 0,0)=some ((ao (E.getD v be).length).map fun _=>(-1:Int)):=by
   unfold NA;refine A7w (fun w=>II E out (v:Int) w.1 w.2) (E.getD v be).length (fun _=> -1) ?_ ?_
   ·intro a w ha hw _;simp only [II,Cg,Qy];rw [if_pos (by omega),BC (by omega),Gf a (by omega)]
   ·intro w hw;simp only [II,Cg,Qy];rw [if_neg (by omega)]
  simp only [IJ,Cg];rw [if_pos (by omega),BC (by omega),BC (by omega),inner,C8,BC (by omega),Gf v (by omega),Ad _ _ hv]
 ·intro out ho;simp only [IJ];rw [if_neg (by omega)]
theorem WI{E:Ac}{v:Nat}(hv:v<E.length):(BD E).getD v be=(ao (E.getD v be).length).map fun _=>(-1:Int):=by
 unfold BD;rw [Ad _ _ (by simpa using hv),TT,Ad _ _ hv]
theorem QI(E:Ac)(n:Nat):ShpL E n (BD E):=by
 refine⟨by simp [BD],fun v hv=>by rw [WI hv];simp,fun v i hv hi=> ?_⟩
 rw [WI hv,Ad _ _ (by simpa using hi),TT]
 omega
theorem PP{E:Ac}(hN:NetOk E):BK (BD E):=by
 have hb:=hN.big
 refine⟨by simp [BD];omega,fun x hx=> ?_⟩
 unfold BD at hx;obtain⟨row,hr,rfl⟩:=MO.1 hx;obtain⟨v,hv,rfl⟩:=V6 hr;have:=hN.deg v hv
 rw [Ad _ _ hv]at this
 simp;omega
section
variable {E:Ac} {ns es:AV} {n D:Nat} (C:Ctn E ns es n D) {ids inp:AU}
include C
end
theorem jC: ∀(d:AU) (L:AV),ZJ d L↔d.length=L.length∧ ∀k (h1:k<d.length) (h2:k<L.length),d[k]∈L[k]
 | [],[]=>by simp [ZJ]
 | [],_::_=>by simp [ZJ]
 |_::_,[]=>by simp [ZJ]
 |a::d,l::L=>by
  unfold ZJ;rw [jC d L]
  constructor
  ·rintro⟨h1,h2,h3⟩
   refine⟨by simp [h2],fun k k1 k2=> ?_⟩
   cases k with
   |zero=>exact h1
   |succ k=>exact h3 k (by simpa using k1) (by simpa using k2)
  ·rintro⟨h1,h2⟩
   exact⟨h2 0 (by simp) (by simp),by simpa using h1,fun k k1 k2=>h2 (k+1) (by simpa using k1) (by simpa using k2)⟩
def A61(E:Ac)(ns es:AV)(n D:Nat)(P:Nat→Nat→Nat→Prop)(v i a:Nat):Prop:=
 (∃b,b<n∧P (PO E v i) (QQ E v i) b∧K5 es (a:Int) (b:Int)=true)∧
 ((E.getD v be).length=D→ ∃d:AU,d.length=D∧d.getD i be=(a:Int)∧(∀k,k<D→k≠i→ ∃c:Nat,c<n∧d.getD k be=(c:Int)∧P v k c)∧ns.contains (JJ d)=true)
def ER(M:AV)(v i a:Nat):Prop:=BS (Kj M v i) a=true
theorem x8{E:Ac}{ns es:AV}{n D:Nat}(hp: ∀c∈ns,c.Pairwise fun a b=>a≤b){M:AV}(hM:OkM E n M){v i a:Nat}(hv:v<E.length)(hi:i<(E.getD v be).length)(hs:UZ E v i=false):
  E5 E ns es n D M v i a=true↔A61 E ns es n D (ER M) v i a:=by
 have hrow:=hM.row v hv;unfold E5 A61 rf A7u;rw [hs,if_neg (by decide),En,Vd]
 refine and_congr ?_ ?_
 ·constructor
  ·rintro⟨b,hb,h⟩
   rw [En]at h
   exact⟨b,Eo.1 hb,h.1,h.2⟩
  ·rintro⟨b,hb,h1,h2⟩
   exact⟨b,Eo.2 hb,by rw [h2,ZR];exact h1⟩
 ·rw [TU,NP,decide_eq_false_iff_not,←A0q _ hp,az]
  constructor
  ·intro h hD;rcases h with h|⟨d,h1,h2⟩
   ·exact absurd hD h
   ·obtain⟨e1,e2⟩:=(jC _ _).1 h1;have hfl:=Lc (M.getD v be) n i (a:Int)
    refine⟨d,by omega, ?_,fun k hk hki=> ?_,by simpa using h2⟩
    ·have:=e2 i (by omega) (by omega)
     rw [UY (by omega),if_pos rfl,VZ]at this
     rw [Ad _ _ (by omega),this]
    ·have:=e2 k (by omega) (by omega)
     rw [UY (by omega),if_neg (fun e=>hki e.symm),UX]at this
     obtain⟨c,q1,q2,q3⟩:=this
     exact⟨c,q2,by rw [Ad _ _ (by omega),q1],q3⟩
  ·intro h;by_cases hD:(E.getD v be).length=D
   ·obtain⟨d,h1,h2,h3,h4⟩:=h hD
    right
    have hfl:=Lc (M.getD v be) n i (a:Int)
    refine⟨d,(jC _ _).2 ⟨by omega,fun k k1 k2=> ?_⟩,by simpa using h4⟩
    rw [UY (by omega)]
    by_cases e:i=k
    ·subst e;rw [if_pos rfl,VZ,←h2,Ad _ _ k1]
    ·rw [if_neg e,UX];obtain⟨c,q1,q2,q3⟩:=h3 k (by omega) (fun q=>e q.symm)
     exact⟨c,by rw [←q2,Ad _ _ k1],q1,q3⟩
   ·exact .inl hD
theorem A2W{E:Ac}{ns es:AV}{n D:Nat}{P Q:Nat→Nat→Nat→Prop}(hN:NetOk E)(h: ∀v i a,v<E.length→i<(E.getD v be).length→a<n→P v i a→Q v i a){v i a:Nat}(hv:v<E.length)(hi:i<(E.getD v be).length)(hs:A61 E ns es n D P v i a):A61 E ns es n D Q v i a:=by
 obtain⟨⟨b,h1,h2,h3⟩,h4⟩:=hs;obtain⟨_,_,f3,f4,_,_⟩:=hN.at hv hi
 refine⟨⟨b,h1,h _ _ _ f3 f4 h1 h2,h3⟩,fun hD=> ?_⟩
 obtain⟨d,e1,e2,e3,e4⟩:=h4 hD
 refine⟨d,e1,e2,fun k hk hki=> ?_,e4⟩
 obtain⟨c,c1,c2,c3⟩:=e3 k hk hki
 exact⟨c,c1,c2,h v k c hv (by omega) c1 c3⟩
theorem A87: ∀a b:Fin 8,∀x:Fin 256,BS (x.val:Int) a.val=true→BS ((x.val:Int)-2 ^ a.val) b.val=(BS (x.val:Int) b.val&& !decide (b=a)):=by decide+kernel
def sZ(E:Ac)(ns es:AV)(n D:Nat)(P:Nat→Nat→Nat→Prop):Prop:= ∀v i a,v<E.length→i<(E.getD v be).length→a<n→P v i a→A61 E ns es n D P v i a
def QJ(E:Ac)(n:Nat)(P Q:Nat→Nat→Nat→Prop):Prop:= ∀v i a,v<E.length→i<(E.getD v be).length→a<n→P v i a→Q v i a
section
variable {E:Ac} {ns es:AV} {n D:Nat} (C:Ctx E ns es n D) (hns: ∀v i,v<E.length→i<(E.getD v be).length→UZ E v i=false)
include C hns
theorem A62{P:Nat→Nat→Nat→Prop}(hP:sZ E ns es n D P){M0:AV}{v i:Nat}(hv:v<E.length)(hi:i<(E.getD v be).length){a:Nat}(ha:a<n){q:Bool×AV}(hq:OkM E n q.2)(h1:QJ E n P (ER q.2))(h2:QJ E n (ER q.2) (ER M0)):
  QJ E n P (ER (stA (E5 E ns es n D) v i q a).2)∧QJ E n (ER (stA (E5 E ns es n D) v i q a).2) (ER M0):=by
 have hn:=C.hn;unfold stA;split
 ·rename_i h
  rw [En,NP]at h;have hl:=hq.len;have hr:=hq.row v hv;have hx:=hq.le hn hv hi;have hget: ∀w j,w<E.length→j<(E.getD w be).length→Kj (q.2.set v ((q.2.getD v be).set i (Kj q.2 v i-2 ^ a))) w j=if v=w∧i=j then Kj q.2 v i-2 ^ a else Kj q.2 w j:=fun w j hw hj=>Xh (by omega) (by omega) w j (by have:=hq.row w hw;omega)
  have hsub: ∀b,b<n→BS (Kj q.2 v i-2 ^ a) b=(BS (Kj q.2 v i) b&& !decide (b=a)):=by
   intro b hb;have hxx:(((Kj q.2 v i).toNat:Nat):Int)=Kj q.2 v i:=by omega
   have:=A87 ⟨a,by omega⟩ ⟨b,by omega⟩ ⟨(Kj q.2 v i).toNat,by omega⟩
   simp only [hxx,Fin.mk.injEq]at this;exact this h.1
  constructor
  ·intro w j b hw hj hb hp;have hp1:=h1 w j b hw hj hb hp;show BS (Kj _ w j) b=true
   dsimp only;rw [hget w j hw hj];by_cases e:v=w∧i=j
   ·rw [if_pos e,hsub b hb];obtain⟨rfl,rfl⟩:=e;by_cases eb:b=a
    ·subst eb;have:=(x8 C.hp hq hv hi (hns v i hv hi)).2 (A2W C.hN h1 hv hi (hP v i b hv hi hb hp))
     rw [this]at h;exact absurd h.2 (by decide)
    ·rw [decide_eq_false eb,Bool.not_false,ZR];exact hp1
   ·rw [if_neg e];exact hp1
  ·intro w j b hw hj hb hp;have hp':BS (Kj (q.2.set v ((q.2.getD v be).set i (Kj q.2 v i-2 ^ a))) w j) b=true:=hp;rw [hget w j hw hj]at hp';by_cases e:v=w∧i=j
   ·rw [if_pos e,hsub b hb,En]at hp';obtain⟨rfl,rfl⟩:=e;exact h2 v i b hv hi hb hp'.1
   ·rw [if_neg e]at hp';exact h2 w j b hw hj hb hp'
 ·exact⟨h1,h2⟩
omit C hns in
theorem Uz(I:Bool×AV→Prop)(g:Bool×AV→Nat→Bool×AV): ∀(l:List Nat),(∀q,I q→ ∀x∈l,I (g q x))→ ∀q,I q→I (l.foldl g q)
 | [],_,q,hq=>hq
 |x::l,h,q,hq=>Uz I g l (fun q hq y hy=>h q hq y (QL _ hy)) _ (h q hq x Ia)
omit C hns in
theorem Sz{g:Bool×AV→Nat→Bool×AV}: ∀(l:List Nat),(∀q,OkM E n q.2→ ∀x∈l,DnM E n q (g q x))→ ∀q,OkM E n q.2→(l.foldl g q).1=false→ ∀x∈l,g q x=q
 | [],_,q,_,_=>fun x hx=>by cases hx
 |y::l,h,q,hq,hf=>by
  obtain⟨h1,h2⟩:=h q hq y Ia;have hrest:=Xi g l (fun q hq z hz=>h q hq z (QL _ hz)) (g q y) h1
  have hy:g q y=q:=by
   rcases h2 with h2|⟨h2,_⟩
   ·exact h2
   ·exfalso;rw [Ve]at hf;rcases hrest.2 with h3|⟨h3,_⟩
    ·rw [h3,h2]at hf;cases hf
    ·rw [h3]at hf;cases hf
  intro x hx;rcases TF.1 hx with rfl|hx
  ·exact hy
  ·rw [Ve,hy]at hf;exact Sz l (fun q hq z hz=>h q hq z (QL _ hz)) q hq hf x hx
theorem A2X{P:Nat→Nat→Nat→Prop}(hP:sZ E ns es n D P){M0:AV}{q:Bool×AV}(hq:OkM E n q.2)(h1:QJ E n P (ER q.2))(h2:QJ E n (ER q.2) (ER M0)):
  QJ E n P (ER (Ki (E5 E ns es n D) n E q).2)∧QJ E n (ER (Ki (E5 E ns es n D) n E q).2) (ER M0):=by
 have key:=Uz (fun q=>OkM E n q.2∧QJ E n P (ER q.2)∧QJ E n (ER q.2) (ER M0)) (stV (E5 E ns es n D) n E) (ao E.length) (fun q hq v hv=>by
  have hv:=Eo.1 hv;refine Uz (fun q=>OkM E n q.2∧QJ E n P (ER q.2)∧QJ E n (ER q.2) (ER M0)) (xG (E5 E ns es n D) n v) (ao (E.getD v be).length) (fun q hq i hi=> ?_) q hq;have hi:=Eo.1 hi;refine Uz (fun q=>OkM E n q.2∧QJ E n P (ER q.2)∧QJ E n (ER q.2) (ER M0)) (stA (E5 E ns es n D) v i) (ao n) (fun q hq a ha=> ?_) q hq
  exact⟨(iZ _ hv hi q hq.1 a).1,A62 C hns hP hv hi (Eo.1 ha) hq.1 hq.2.1 hq.2.2⟩) q ⟨hq,h1,h2⟩
 exact key.2
theorem zo{M:AV}(hM:OkM E n M)(h:(Ki (E5 E ns es n D) n E (false,M)).1=false):sZ E ns es n D (ER M):=by
 intro v i a hv hi ha hp;have k1:=Sz (n:=n) (ao E.length) (fun q hq v hv=>rz (E5 E ns es n D) (Eo.1 hv) q hq) (false,M) hM h v (Eo.2 hv);have k2:=Sz (n:=n) (ao (E.getD v be).length) (fun q hq i hi=>ry (E5 E ns es n D) hv (Eo.1 hi) q hq) (false,M) hM (by have:=congrArg Prod.fst k1;exact this) i (Eo.2 hi)
 have k3:=Sz (n:=n) (ao n) (fun q hq a _=>iZ (E5 E ns es n D) hv hi q hq a) (false,M) hM (by have:=congrArg Prod.fst k2;exact this) a (Eo.2 ha)
 unfold stA at k3;have hp':BS (Kj M v i) a=true:=hp;rw [←x8 C.hp hM hv hi (hns v i hv hi)]
 cases hsup:E5 E ns es n D M v i a with
 |true=>rfl
 |false=>
  dsimp only at k3;rw [hsup,hp',if_pos (by decide)]at k3
  have:=congrArg Prod.fst k3
  cases this
theorem V3{P:Nat→Nat→Nat→Prop}(hP:sZ E ns es n D P){M0:AV}: ∀(k:Nat) (M:AV),OkM E n M→wt M<k→QJ E n P (ER M)→QJ E n (ER M) (ER M0)→
  QJ E n P (ER (aU (E5 E ns es n D) n E k M))∧QJ E n (ER (aU (E5 E ns es n D) n E k M)) (ER M0)∧sZ E ns es n D (ER (aU (E5 E ns es n D) n E k M))
 |0,M,hM,hk,_,_=>by have:=hM.nonneg;omega
 |k+1,M,hM,hk,h1,h2=>by
  obtain⟨d1,d2⟩:=sD (n:=n) (E5 E ns es n D) (false,M) hM;obtain⟨p1,p2⟩:=A2X C hns hP (q:=(false,M)) hM h1 h2;unfold aU;split
  ·rename_i c
   rcases d2 with d2|⟨_,d2⟩
   ·rw [d2]at c;cases c
   ·exact V3 hP k _ d1 (by have:wt (Ki (E5 E ns es n D) n E (false,M)).2<wt M:=d2;omega) p1 p2
  ·rename_i c
   have c':(Ki (E5 E ns es n D) n E (false,M)).1=false:=by simpa using c
   have e:Ki (E5 E ns es n D) n E (false,M)=(false,M):=by
    rcases d2 with d2|⟨d2,_⟩
    ·exact d2
    ·rw [d2]at c';cases c'
   rw [e]
   exact⟨h1,h2,zo C hns hM c'⟩
theorem zq{M:AV}(hM:OkM E n M):QJ E n (ER (NS E ns es n D M)) (ER M):=
 (V3 C hns (P:=fun _ _ _=>False) (fun _ _ _ _ _ _ h=>h.elim) _ M hM (by have:=hM.nonneg;omega) (fun _ _ _ _ _ _ h=>h.elim) (fun _ _ _ _ _ _ h=>h)).2.1
theorem su{M:AV}(hM:OkM E n M):sZ E ns es n D (ER (NS E ns es n D M)):=
 (V3 C hns (M0:=M) (P:=fun _ _ _=>False) (fun _ _ _ _ _ _ h=>h.elim) _ M hM (by have:=hM.nonneg;omega) (fun _ _ _ _ _ _ h=>h.elim) (fun _ _ _ _ _ _ h=>h)).2.2
theorem Xm{M:AV}(hM:OkM E n M){P:Nat→Nat→Nat→Prop}(hP:sZ E ns es n D P)(h:QJ E n P (ER M)):QJ E n P (ER (NS E ns es n D M)):=
 (V3 C hns (M0:=M) hP _ M hM (by have:=hM.nonneg;omega) h (fun _ _ _ _ _ _ h=>h)).1
end
theorem jD{f:Nat→Nat}: ∀n,0<aS n f↔ ∃i,i<n∧0<f i
 |0=>by simp [A2F]
 |n+1=>by
  rw [A2G];have ih:=jD (f:=f) n
  constructor
  ·intro h;by_cases c:0<f n
   ·exact⟨n,by omega,c⟩
   ·obtain⟨i,h1,h2⟩:=ih.1 (by omega)
    exact⟨i,by omega,h2⟩
  ·rintro⟨i,h1,h2⟩
   by_cases c:i=n
   ·subst c;omega
   ·have:=ih.2 ⟨i,by omega,h2⟩
    omega
theorem jE{n:Nat}{g:AU→Nat}: ∀(Ws:List (Int→Nat)) (c:AU),0<rZ n g Ws c↔ ∃d:AU,d.length=Ws.length∧(∀k (h:k<Ws.length),∃b:Nat,b<n∧d.getD k be=(b:Int)∧0<Ws[k] (b:Int))∧0<g (c++d)
 | [],c=>by
  unfold rZ
  constructor
  ·intro h
   exact⟨[],rfl,fun k hk=>by simp at hk,by rwa [V8]⟩
  ·rintro⟨d,h1,_,h3⟩
   have:d=[]:=tQ h1
   rw [this,V8]at h3;exact h3
 |w::Ws,c=>by
  unfold rZ;rw [jD]
  constructor
  ·rintro⟨b,hb,h⟩
   have h1:0<w (b:Int):=Nat.pos_of_mul_pos_right h;have h2:0<rZ n g Ws (c++[(b:Int)]):=Nat.pos_of_mul_pos_left h;obtain⟨d,d1,d2,d3⟩:=(jE Ws _).1 h2
   refine⟨(b:Int)::d,by simp [d1],fun k hk=> ?_,by rw [NV]at d3;exact d3⟩
   cases k with
   |zero=>exact⟨b,hb,rfl,h1⟩
   |succ k=>
    obtain⟨x,x1,x2,x3⟩:=d2 k (by simpa using hk)
    exact⟨x,x1,by rw [List.getD_cons_succ];exact x2,by simpa using x3⟩
  ·rintro⟨d,d1,d2,d3⟩
   cases d with
   |nil=>simp at d1
   |cons y d=>
    obtain⟨b,b1,b2,b3⟩:=d2 0 (by simp)
    have e:y=(b:Int):=by simpa using b2
    subst e
    refine⟨b,b1,Nat.mul_pos (by simpa using b3) ((jE Ws _).2 ⟨d,by simpa using d1,fun k hk=> ?_,by rw [NV];exact d3⟩)⟩
    obtain⟨x,x1,x2,x3⟩:=d2 (k+1) (by simpa using hk)
    exact⟨x,x1,by rw [List.getD_cons_succ]at x2;exact x2,by simpa using x3⟩
theorem A0x{ns:AV}{c:AU}:0<gdC ns c↔ns.contains (JJ c)=true:=by
 unfold gdC;split
 ·rename_i h;exact⟨fun _=>h,fun _=>by decide⟩
 ·rename_i h;exact⟨fun h=>by omega,fun q=>absurd q h⟩
theorem A2Y(es:AV)(a b:Int):K5 es a b=K5 es b a:=by
 unfold K5;by_cases c:b<a
 ·rw [if_pos c,if_neg (by omega)]
 ·by_cases d:a<b
  ·rw [if_neg c,if_pos d]
  ·have:a=b:=by omega
   rw [this]
section
variable {E:Ac} {ns es:AV} {n D:Nat} {m:Nat→Nat→Nat→Bool}
theorem V4: ∀(f f' v:Nat) (i:Int) (a:Nat),f≤f'→A2M E f v i→aT E ns es n D m f v i a=aT E ns es n D m f' v i a
 |0,_,_,_,_,_,hd=>hd.elim
 |f+1,0,_,_,_,h,_=>by omega
 |f+1,f'+1,v,i,a,h,hd=>by
  obtain⟨hv,hd⟩:=hd;unfold aT;refine ZK _ _ [] (by rw [Sy,Sy]) fun k h1 h2 b hb=> ?_
  rw [Sy]at h1;rw [rq,rq];unfold wgt;by_cases ci:(k:Int)=i
  ·rw [if_pos ci,if_pos ci]
  ·rw [if_neg ci,if_neg ci]
   have:(aS n fun c=>if K5 es (b:Int) (c:Int)=true then(fun u j c=>if m u j c=true then aT E ns es n D m f u (j:Int) c else 0) (PO E v k) (QQ E v k) c else 0)=aS n fun c=>if K5 es (b:Int) (c:Int)=true then(fun u j c=>if m u j c=true then aT E ns es n D m f' u (j:Int) c else 0) (PO E v k) (QQ E v k) c else 0:=by
    refine iV fun c hc=> ?_;dsimp only;rw [V4 f f' _ _ c (by omega) (hd k h1 ci)]
   rw [this]
def Tm(E:Ac)(ns es:AV)(n D:Nat)(m:Nat→Nat→Nat→Bool)(u j c:Nat):Prop:=m u j c=true∧0<aT E ns es n D m E.length u (j:Int) c
def Bm(E:Ac)(ns es:AV)(n D:Nat)(m:Nat→Nat→Nat→Bool)(u j c:Nat):Prop:=Tm E ns es n D m u j c∧ ∃c',c'<n∧Tm E ns es n D m (PO E u j) (QQ E u j) c'∧K5 es (c:Int) (c':Int)=true
def Lab(E:Ac)(ns es:AV)(n D:Nat)(m:Nat→Nat→Nat→Bool)(u:Nat)(d:AU):Prop:=
 d.length=(E.getD u be).length∧(∀k,k<(E.getD u be).length→ ∃b,b<n∧d.getD k be=(b:Int)∧m u k b=true∧ ∃c,c<n∧Tm E ns es n D m (PO E u k) (QQ E u k) c∧K5 es (b:Int) (c:Int)=true)∧((E.getD u be).length=D→ns.contains (JJ d)=true)
theorem x9{f v:Nat}{i:Int}{a:Nat}(hf:f≤E.length)(hd:A2M E (f+1) v i):0<aT E ns es n D m (f+1) v i a↔ ∃d:AU,d.length=(E.getD v be).length∧(∀k,k<(E.getD v be).length→ ∃b,b<n∧d.getD k be=(b:Int)∧if(k:Int)=i then b=a else(m v k b=true∧ ∃c,c<n∧Tm E ns es n D m (PO E v k) (QQ E v k) c∧K5 es (b:Int) (c:Int)=true))∧((E.getD v be).length=D→ns.contains (JJ d)=true):=by
 obtain⟨hv,hd⟩:=hd;unfold aT;rw [jE]
 have hw: ∀k (hk:k<(E.getD v be).length) (b:Nat),b<n→(0<wgt E es n m (fun u j c=>if m u j c=true then aT E ns es n D m f u (j:Int) c else 0) v i a k (b:Int)↔if(k:Int)=i then b=a else(m v k b=true∧ ∃c,c<n∧Tm E ns es n D m (PO E v k) (QQ E v k) c∧K5 es (b:Int) (c:Int)=true)):=by
  intro k hk b hb;unfold wgt;by_cases ci:(k:Int)=i
  ·rw [if_pos ci,if_pos ci];by_cases e:b=a
   ·rw [if_pos (by omega)];exact⟨fun _=>e,fun _=>by decide⟩
   ·rw [if_neg (by omega)];exact⟨fun h=>by omega,fun q=>absurd q e⟩
  ·rw [if_neg ci,if_neg ci,Cg]
   cases hm:m v k b with
   |false=>simp
   |true=>
    rw [if_pos rfl,jD];simp only [true_and]
    constructor
    ·rintro⟨c,c1,c2⟩
     by_cases he:K5 es (b:Int) (c:Int)=true
     ·rw [if_pos he]at c2;by_cases h1:m (PO E v k) (QQ E v k) c=true
      ·rw [if_pos h1,V4 f E.length _ _ c hf (hd k hk ci)]at c2
       exact⟨c,c1,⟨h1,c2⟩,he⟩
      ·rw [if_neg h1]at c2;omega
     ·rw [if_neg he]at c2;omega
    ·rintro⟨c,c1,⟨c2,c3⟩,he⟩
     refine⟨c,c1, ?_⟩
     rw [if_pos he,if_pos c2,V4 f E.length _ _ c hf (hd k hk ci)];exact c3
 constructor
 ·rintro⟨d,d1,d2,d3⟩
  rw [Sy]at d1
  refine⟨d,d1,fun k hk=> ?_,fun hD=> ?_⟩
  ·obtain⟨b,b1,b2,b3⟩:=d2 k (by rw [Sy];exact hk)
   rw [rq]at b3
   exact⟨b,b1,b2,(hw k hk b b1).1 b3⟩
  ·rw [if_pos hD]at d3;exact A0x.1 d3
 ·rintro⟨d,d1,d2,d3⟩
  refine⟨d,by rw [Sy];exact d1,fun k hk=> ?_, ?_⟩
  ·rw [Sy]at hk;obtain⟨b,b1,b2,b3⟩:=d2 k hk;rw [rq]
   exact⟨b,b1,b2,(hw k hk b b1).2 b3⟩
  ·by_cases hD:(E.getD v be).length=D
   ·rw [if_pos hD];exact A0x.2 (d3 hD)
   ·rw [if_neg hD];decide
end
structure Fo(E:Ac):Prop where
 hN:NetOk E
 hP:PortN E
 st:Xl E=false
 ac:A5w E
theorem ALo{E:Ac}{ids ins:AU}(h:GQ E ids ins=true)(hf:zk E=true):Fo E:=by
 unfold zk at hf;rw [En,NP,JC]at hf
 exact⟨wX h,j4 h,hf.1,hf.2⟩
theorem Fo.dep{E:Ac}(H:Fo E){v i:Nat}(hv:v<E.length)(hi:i<(E.getD v be).length):A2M E E.length v (i:Int):=by
 refine A5z H.hP H.st H.ac E.length v i hv hi ?_;unfold msr;exact Xr cq (by simp)
section
variable {E:Ac} {ns es:AV} {n D:Nat} {m:Nat→Nat→Nat→Bool} (H:Fo E)
include H
theorem A63{u j a:Nat}(hu:u<E.length)(hj:j<(E.getD u be).length):0<aT E ns es n D m E.length u (j:Int) a↔ ∃d:AU,d.length=(E.getD u be).length∧(∀k,k<(E.getD u be).length→ ∃b,b<n∧d.getD k be=(b:Int)∧if(k:Int)=(j:Int)then b=a else(m u k b=true∧ ∃c,c<n∧Tm E ns es n D m (PO E u k) (QQ E u k) c∧K5 es (b:Int) (c:Int)=true))∧((E.getD u be).length=D→ns.contains (JJ d)=true):=by
 have hd:=H.dep hu hj;have hE:E.length=(E.length-1)+1:=by omega
 rw [hE]at hd;have:=x9 (ns:=ns) (es:=es) (n:=n) (D:=D) (m:=m) (a:=a) (f:=E.length-1) (by omega) hd
 rw [←hE]at this;exact this
theorem A64{u:Nat}{d:AU}(hu:u<E.length)(h:Lab E ns es n D m u d){k:Nat}(hk:k<(E.getD u be).length): ∃b,b<n∧d.getD k be=(b:Int)∧Bm E ns es n D m u k b:=by
 obtain⟨h1,h2,h3⟩:=h;obtain⟨b,b1,b2,b3,c,c1,c2,c3⟩:=h2 k hk
 refine⟨b,b1,b2,⟨b3,(A63 H hu hk).2 ⟨d,h1,fun l hl=> ?_,h3⟩⟩,c,c1,c2,c3⟩
 obtain⟨x,x1,x2,x3,x4⟩:=h2 l hl
 refine⟨x,x1,x2, ?_⟩
 by_cases e:(l:Int)=(k:Int)
 ·rw [if_pos e];have:l=k:=by omega
  subst this;omega
 ·rw [if_neg e];exact⟨x3,x4⟩
theorem ABA{u j a:Nat}(hu:u<E.length)(hj:j<(E.getD u be).length)(h:Bm E ns es n D m u j a): ∃d,Lab E ns es n D m u d∧d.getD j be=(a:Int):=by
 obtain⟨⟨h1,h2⟩,c,c1,c2,c3⟩:=h;obtain⟨d,d1,d2,d3⟩:=(A63 H hu hj).1 h2;obtain⟨b,b1,b2,b3⟩:=d2 j hj;rw [if_pos rfl]at b3;subst b3
 refine⟨d,⟨d1,fun k hk=> ?_,d3⟩,b2⟩
 obtain⟨x,x1,x2,x3⟩:=d2 k hk;by_cases e:(k:Int)=(j:Int)
 ·have:k=j:=by omega
  subst this
  exact⟨b,b1,b2,h1,c,c1,c2,c3⟩
 ·rw [if_neg e]at x3
  exact⟨x,x1,x2,x3.1,x3.2⟩
theorem A65{u j a:Nat}(hu:u<E.length)(hj:j<(E.getD u be).length)(h:Bm E ns es n D m u j a): ∃b,b<n∧Bm E ns es n D m (PO E u j) (QQ E u j) b∧K5 es (a:Int) (b:Int)=true:=by
 obtain⟨h1,c,c1,c2,c3⟩:=h;obtain⟨_,_,f3,f4,f5,f6⟩:=H.hN.at hu hj
 refine⟨c,c1,⟨c2,a, ?_, ?_,by rw [A2Y];exact c3⟩,c3⟩
 ·obtain⟨d,d1,d2,d3⟩:=(A63 H hu hj).1 h1.2;obtain⟨b,b1,b2,b3⟩:=d2 j hj;rw [if_pos rfl]at b3;omega
 ·rw [f5,f6];exact h1
theorem ALp:sZ E ns es n D (Bm E ns es n D m):=by
 intro v i a hv hi ha h
 refine⟨A65 H hv hi h,fun hD=> ?_⟩
 obtain⟨d,hd,e⟩:=ABA H hv hi h
 refine⟨d,by rw [hd.1,hD],e,fun k hk _=> ?_,hd.2.2 hD⟩
 obtain⟨b,b1,b2,b3⟩:=A64 H hv hd (k:=k) (by omega)
 exact⟨b,b1,b2,b3⟩
def xA(E:Ac)(n:Nat)(P:Nat→Nat→Nat→Prop)(u:Nat):Prop:= ∀k,k<(E.getD u be).length→ ∃a,a<n∧P u k a
theorem ALq{u j a:Nat}(hu:u<E.length)(hj:j<(E.getD u be).length)(h:Bm E ns es n D m u j a):xA E n (Bm E ns es n D m) u:=by
 intro k hk;obtain⟨d,hd,_⟩:=ABA H hu hj h;obtain⟨b,b1,_,b3⟩:=A64 H hu hd hk
 exact⟨b,b1,b3⟩
theorem AEz{u x:Nat}(hu:u<E.length)(h:xA E n (Bm E ns es n D m) u)(hc:Cn (E8 E) u x):x<E.length∧xA E n (Bm E ns es n D m) x:=by
 obtain⟨l,hl⟩:=hc
 induction hl with
 |z=>exact⟨hu,h⟩
 |s hr hy ih=>
  obtain⟨hx,hB⟩:=ih;obtain⟨k,hk,rfl⟩:=QH.1 hy;obtain⟨f1,f2,f3,f4,_,_⟩:=H.hN.at hx hk;obtain⟨a,a1,a2⟩:=hB k hk;obtain⟨b,b1,b2,_⟩:=A65 H hx hk a2;rw [f1,Cg]
  exact⟨f3,ALq H f3 f4 b2⟩
end
section
variable {E:Ac} {ns es:AV} {n D:Nat} {P:Nat→Nat→Nat→Prop} (H:Fo E) (hcl:sZ E ns es n D P) (hne: ∀u,u<E.length→xA E n P u)
include H hcl hne
omit H in
theorem ABB{u j c:Nat}(hu:u<E.length)(hj:j<(E.getD u be).length)(hc:c<n)(h:P u j c): ∃d:AU,d.length=(E.getD u be).length∧d.getD j be=(c:Int)∧(∀k,k<(E.getD u be).length→ ∃b,b<n∧d.getD k be=(b:Int)∧P u k b)∧((E.getD u be).length=D→ns.contains (JJ d)=true):=by
 by_cases hD:(E.getD u be).length=D
 ·obtain⟨d,d1,d2,d3,d4⟩:=(hcl u j c hu hj hc h).2 hD
  refine⟨d,by omega,d2,fun k hk=> ?_,fun _=>d4⟩
  by_cases e:k=j
  ·subst e;exact⟨c,hc,d2,h⟩
  ·obtain⟨b,b1,b2,b3⟩:=d3 k (by omega) e
   exact⟨b,b1,b2,b3⟩
 ·have hg0: ∀k,∃x,k<(E.getD u be).length→x<n∧P u k x:=by
   intro k;by_cases hk:k<(E.getD u be).length
   ·obtain⟨x,hx⟩:=hne u hu k hk
    exact⟨x,fun _=>hx⟩
   ·exact⟨0,fun q=>absurd q hk⟩
  have hg: ∃g:Nat→Nat,∀k,k<(E.getD u be).length→g k<n∧P u k (g k):=⟨fun k=>Classical.choose (hg0 k),fun k hk=>Classical.choose_spec (hg0 k) hk⟩;obtain⟨g,hg⟩:=hg
  have hget: ∀k,k<(E.getD u be).length→((ao (E.getD u be).length).map fun k=>((if k=j then c else g k:Nat):Int)).getD k be=((if k=j then c else g k:Nat):Int):=by
   intro k hk;rw [Ad _ _ (by simpa using hk),TT,MR]
  refine⟨(ao (E.getD u be).length).map fun k=>((if k=j then c else g k:Nat):Int),by simp,by rw [hget j hj,if_pos rfl],fun k hk=>⟨if k=j then c else g k, ?_,hget k hk, ?_⟩,fun q=>absurd q hD⟩
  ·split
   ·exact hc
   ·exact(hg k hk).1
  ·split
   ·rename_i e;subst e;exact h
   ·exact(hg k hk).2
theorem grow{m:Nat→Nat→Nat→Bool}(X:Nat→Prop)(hm: ∀x k c,X x→x<E.length→k<(E.getD x be).length→c<n→P x k c→m x k c=true):
  ∀(f u j c:Nat),f≤E.length→A2M E f u (j:Int)→u<E.length→j<(E.getD u be).length→(∀x,Cn (OZ E u j) u x→X x)→c<n→P u j c→0<aT E ns es n D m f u (j:Int) c
 |0,u,j,c,_,hd,_,_,_,_,_=>hd.elim
 |f+1,u,j,c,hf,hd,hu,hj,hX,hc,hp=>by
  obtain⟨d,d1,d2,d3,d4⟩:=ABB hcl hne hu hj hc hp
  refine(x9 (by omega) hd).2 ⟨d,d1,fun k hk=> ?_,d4⟩
  obtain⟨b,b1,b2,b3⟩:=d3 k hk
  refine⟨b,b1,b2, ?_⟩
  by_cases e:(k:Int)=(j:Int)
  ·rw [if_pos e];have:k=j:=by omega
   subst this;omega
  ·rw [if_neg e];obtain⟨_,_,f3,f4,_,_⟩:=H.hN.at hu hk;obtain⟨s1,s2⟩:=jA H.hP H.st H.ac hu hj hk (by omega)
   obtain⟨b',q1,q2,q3⟩:=(hcl u k b hu hk b1 b3).1;have hdk:=hd.2 k hk e;have hX': ∀x,Cn (OZ E (PO E u k) (QQ E u k)) (PO E u k) x→X x:=fun x hx=>hX x (s1 x hx)
   refine⟨hm u k b (hX u (Cn.refl u)) hu hk b1 b3,b',q1,⟨hm _ _ _ (hX' _ (Cn.refl _)) f3 f4 q1 q2, ?_⟩,q3⟩
   rw [←V4 f E.length _ _ b' (by omega) hdk]
   exact grow X hm f _ _ b' (by omega) hdk f3 f4 hX' q1 q2
theorem zt{m:Nat→Nat→Nat→Bool}(X:Nat→Prop)(hm: ∀x k c,X x→x<E.length→k<(E.getD x be).length→c<n→P x k c→m x k c=true){u j c:Nat}(hu:u<E.length)(hj:j<(E.getD u be).length)(hX: ∀x,Cn (OZ E u j) u x→X x)(hc:c<n)(h:P u j c):Tm E ns es n D m u j c:=
 ⟨hm u j c (hX u (Cn.refl u)) hu hj hc h,grow H hcl hne X hm E.length u j c (Ch _) (H.dep hu hj) hu hj hX hc h⟩
theorem A88{m:Nat→Nat→Nat→Bool}{v i a:Nat}(hv:v<E.length)(hi:i<(E.getD v be).length)(ha:a<n)(hp:P v i a)(hm1:m v i a=true)
  (hm: ∀x k c,x<E.length→k<(E.getD x be).length→c<n→ ¬(x=v∧k=i)→P x k c→m x k c=true): ∀u,u<E.length→xA E n (Bm E ns es n D m) u:=by
 have hoff: ∀x k c,x≠v→x<E.length→k<(E.getD x be).length→c<n→P x k c→m x k c=true:=fun x k c hx h1 h2 h3 h4=>hm x k c h1 h2 h3 (fun e=>hx e.1) h4
 have hsub: ∀ {u k x:Nat},Cn (OZ E u k) u x→Cn (E8 E) u x:=fun h=>Cn.mono (fun x y hy=>by
  obtain⟨p,hp,_,rfl⟩:=Ry.1 hy
  exact QH.2 ⟨p,hp,rfl⟩) h
 have hbr: ∀k,k<(E.getD v be).length→ ∀b,b<n→P v k b→ ∃b',b'<n∧Tm E ns es n D m (PO E v k) (QQ E v k) b'∧K5 es (b:Int) (b':Int)=true:=by
  intro k hk b hb hpk;obtain⟨_,_,f3,f4,f5,f6⟩:=H.hN.at hv hk;obtain⟨b',q1,q2,q3⟩:=(hcl v k b hv hk hb hpk).1
  refine⟨b',q1,zt H hcl hne (fun x=>x≠v) (fun x k c hx h1 h2 h3 h4=>hoff x k c hx h1 h2 h3 h4) f3 f4 (fun x hx e=> ?_) q1 q2,q3⟩
  have:=H.ac _ f3 _ f4 (sW H.st f3 f4)
  have e5:K4 E (PO E v k) (QQ E v k)=v:=f5;rw [e5]at this;exact this (e▸hx)
 have hLv: ∃d,Lab E ns es n D m v d:=by
  obtain⟨d,d1,d2,d3,d4⟩:=ABB hcl hne hv hi ha hp
  refine⟨d,d1,fun k hk=> ?_,d4⟩
  obtain⟨b,b1,b2,b3⟩:=d3 k hk
  refine⟨b,b1,b2, ?_,hbr k hk b b1 b3⟩
  by_cases e:k=i
  ·subst e;have:b=a:=by omega
   subst this;exact hm1
  ·exact hm v k b hv hk b1 (fun q=>e q.2) b3
 have hQv:xA E n (Bm E ns es n D m) v:=by
  obtain⟨d,hd⟩:=hLv;intro k hk;obtain⟨b,b1,_,b3⟩:=A64 H hv hd hk
  exact⟨b,b1,b3⟩
 intro u hu;by_cases hc:Cn (E8 E) v u
 ·exact(AEz H hv hQv hc).2
 ·have hsy: ∀ {x y:Nat},Cn (E8 E) x y→Cn (E8 E) y x:=fun h=>(A5y H.hP).1 (CP.symm ((A5y H.hP).2 h));intro k hk;obtain⟨c,c1,c2⟩:=hne u hu k hk;obtain⟨f1,_,f3,f4,_,_⟩:=H.hN.at hu hk;obtain⟨b',q1,q2,q3⟩:=(hcl u k c hu hk c1 c2).1
  have hw:Cn (E8 E) u (PO E u k):=by
   have:=Cn.of (QH.2 ⟨k,hk,rfl⟩:BH (E.getD u be) k∈E8 E u)
   rwa [f1,Cg]at this
  refine⟨c,c1,zt H hcl hne (fun x=>x≠v) (fun x k c hx h1 h2 h3 h4=>hoff x k c hx h1 h2 h3 h4) hu hk (fun x hx e=> ?_) c1 c2,b',q1,zt H hcl hne (fun x=>x≠v) (fun x k c hx h1 h2 h3 h4=>hoff x k c hx h1 h2 h3 h4) f3 f4 (fun x hx e=> ?_) q1 q2,q3⟩
  ·exact hc (hsy (e▸hsub hx))
  ·exact hc (hsy (hw.trans (e▸hsub hx)))
end
section
variable {E:Ac} {ns es:AV} {n D:Nat} {m:Nat→Nat→Nat→Bool} (H:Fo E)
include H
end
theorem AF0: ∀x:Fin 256,x.val≠0→ ∃a:Fin 8,BS (x.val:Int) a.val=true:=by decide+kernel
theorem A66{n:Nat}{x:Int}(hn:n≤8)(h:0≤x∧x<2 ^ n):x≠0↔ ∃a,a<n∧BS x a=true:=by
 have:=A7t hn
 have hx:((x.toNat:Nat):Int)=x:=by omega
 constructor
 ·intro h0;obtain⟨a,ha⟩:=AF0 ⟨x.toNat,by omega⟩ (by show x.toNat≠0;omega)
  simp only [hx]at ha
  refine⟨a.val, ?_,ha⟩
  apply cx
  intro hc;rw [Ru h (by omega)]at ha
  cases ha
 ·rintro⟨a,_,ha⟩ e
  subst e;unfold BS at ha;simp at ha
theorem sw{E:Ac}{n:Nat}{M:AV}(hn:n≤8)(hM:OkM E n M):M.all (fun row=> !row.contains (0:Int))=true↔ ∀u,u<E.length→xA E n (ER M) u:=by
 have hl:=hM.len;rw [KJ]
 constructor
 ·intro h u hu k hk;have hr:=hM.row u hu;have:=h _ (O6 (by omega:u<M.length))
  rw [NP,Es,Ne,TR]at this
  refine(A66 hn (hM.rng u k hu hk)).1 fun e=>this ?_
  unfold Kj at e;rw [Ad _ _ (by omega:u<M.length)]at e hr
  rw [Ad _ _ (by omega)]at e
  rw [←e];exact O6 _
 ·intro h row hrow;rw [NP,Es,Ne,TR];intro hm;obtain⟨u,hu,rfl⟩:=V6 hrow;obtain⟨k,hk,e⟩:=V6 hm;have hr:=hM.row u (by omega)
  rw [Ad _ _ hu]at hr
  refine(A66 hn (hM.rng u k (by omega) (by omega))).2 (h u (by omega) k (by omega)) ?_
  unfold Kj;rw [Ad _ _ hu,Ad _ _ hk];exact e
def Ni(l:AV)(v i:Nat)(a:Int):AV:=l.set v ((l.getD v be).set i a)
theorem jF{E:Ac}{n:Nat}{l:AV}(h:ShpL E n l){v i a:Nat}(hv:v<E.length)(hi:i<(E.getD v be).length)(ha:a<n):ShpL E n (Ni l v i (a:Int)):=by
 have hl:=h.len;have hr:=h.row v hv
 refine⟨by unfold Ni;rw [Ij,hl],fun u hu=>by unfold Ni;rw [A0r];exact h.row u hu,fun u k hu hk=> ?_⟩
 have hru:=h.row u hu;have e:((Ni l v i (a:Int)).getD u be).getD k be=Kj (Ni l v i (a:Int)) u k:=rfl;rw [e];unfold Ni;rw [Xh (by omega) (by omega) u k (by omega)]
 have:=h.rng u k hu hk
 unfold Kj
 split<;>omega
theorem tC{E:Ac}{n:Nat}{l:AV}(h:ShpL E n l){v i a u k:Nat}(hv:v<E.length)(hi:i<(E.getD v be).length)(hu:u<E.length)(hk:k<(E.getD u be).length):((Ni l v i (a:Int)).getD u be).getD k be=if v=u∧i=k then(a:Int)else(l.getD u be).getD k be:=by
 have hl:=h.len;have hr:=h.row v hv;have hru:=h.row u hu;exact Xh (by omega) (by omega) u k (by omega)
theorem A2Z{l:AV}{v i:Nat}{a b:Int}(hv:v<l.length):Ni (Ni l v i a) v i b=Ni l v i b:=by
 unfold Ni;rw [ic _ _ _ hv,cg,cg]
theorem xB{E:Ac}{n:Nat}{l:AV}(hn:n≤8)(h:ShpL E n l){u k c:Nat}(hu:u<E.length)(hk:k<(E.getD u be).length)(hc:c<n):ER (Dc n l) u k c↔(l.getD u be).getD k be<0∨(l.getD u be).getD k be=(c:Int):=by
 have hl:=h.len;have hr:=h.row u hu;have hx:=h.rng u k hu hk
 have e:Kj (Dc n l) u k=Rv n ((l.getD u be).getD k be):=by
  unfold Kj;rw [Ym n l u (by omega),Ad _ _ (by rw [Qz];omega),TT,Ad _ k (by omega)]
 unfold ER;rw [e];unfold Rv;by_cases c0:(l.getD u be).getD k be<0
 ·rw [if_pos c0,A60 ⟨n,by omega⟩ ⟨c,by omega⟩ hc]
  exact⟨fun _=> .inl c0,fun _=>rfl⟩
 ·rw [if_neg c0];have:=Sw ⟨((l.getD u be).getD k be).toNat,by omega⟩ ⟨c,by omega⟩
  simp only at this;rw [this,decide_eq_true_eq,Fin.mk.injEq];omega
theorem A89{E:Ac}(H:Fo E): ∀v i,v<E.length→i<(E.getD v be).length→UZ E v i=false:=fun _ _ hv hi=>sW H.st hv hi
section
variable {E:Ac} {ns es:AV} {n D:Nat} (C:Ctn E ns es n D) (H:Fo E)
include C H
end
theorem xC{E:Ac}(ids inp:AU)(hN:NetOk E):OX E ids inp=some (BD E):=by
 have hb:=hN.big;unfold OX ND;rw [BC (by omega)]
 have key:=CO (fun w=>FK E w.1 w.2) (fun k=>((BD E).take k++ap (E.length-k) [],(k:Int))) E.length (BD E) ?_ ?_
 ·have e0:(BD E).take 0++ap (E.length-0) []=ap E.length ([]:AU):=by simp
  rw [e0,Et]at key;rw [key];rfl
 ·intro v hv;have hel:(BD E).length=E.length:=by simp [BD]
  have hd:=hN.deg v hv
  have e1:((BD E).take v++ap (E.length-v) []).set v (ap (E.getD v be).length (-1))=(BD E).take (v+1)++ap (E.length-(v+1)) ([]:AU):=by
   rw [mX _ _ (by simp;omega)]
   have:v-((BD E).take v).length=0:=by simp;omega
   have er:(BD E)[v]'(by omega)=ap (E.getD v be).length (-1):=by
    rw [←Ad _ _ (by omega),WI hv]
    refine Vb (by simp) fun i h1 h2=> ?_
    simp
   rw [this,mV (by omega),NV,show E.length-v=(E.length-(v+1))+1 by omega,tX,er];rfl
  simp only [FK,Cg];rw [if_pos (by omega),BC (by omega),XU _ _ (by omega),C8]
  simp only [Cg];rw [BC (by simp;omega),e1,Gf v (by omega)]
 ·simp only [FK];have hel:(BD E).length=E.length:=by simp [BD]
  rw [if_neg (by omega),List.take_of_length_le (by omega),Xt,List.replicate_zero,V8]
def ALr(p:Nat→Bool):Int:=((ao 8).map fun a=>if p a=true then(2:Int) ^ a else 0).sum
theorem A0y: ∀x:Fin 256,(x.val:Int)=ALr (BS (x.val:Int)):=by decide+kernel
theorem A8A{x y:Int}(hx:0≤x∧x≤255)(hy:0≤y∧y≤255)(h: ∀a,a<8→BS x a=BS y a):x=y:=by
 have ex:((x.toNat:Nat):Int)=x:=by omega
 have ey:((y.toNat:Nat):Int)=y:=by omega
 have h1:=A0y ⟨x.toNat,by omega⟩
 have h2:=A0y ⟨y.toNat,by omega⟩
 simp only [ex,ey]at h1 h2;rw [h1,h2];unfold ALr
 congr 1
 refine xK fun a ha=> ?_;rw [h a (Eo.1 ha)]
theorem A0z{E:Ac}{n:Nat}{M M':AV}(hn:n≤8)(h1:OkM E n M)(h2:OkM E n M')(h: ∀u k a,u<E.length→k<(E.getD u be).length→a<n→(ER M u k a↔ER M' u k a)):M=M':=by
 have l1:=h1.len;have l2:=h2.len;refine Vb (by omega) fun u hu hu'=> ?_
 have r1:=h1.row u (by omega)
 have r2:=h2.row u (by omega)
 rw [Ad _ _ hu]at r1;rw [Ad _ _ hu']at r2;refine Vb (by omega) fun k hk hk'=> ?_
 have e1:Kj M u k=M[u][k]:=by unfold Kj;rw [Ad _ _ hu,Ad _ _ hk]
 have e2:Kj M' u k=M'[u][k]:=by unfold Kj;rw [Ad _ _ hu',Ad _ _ hk']
 rw [←e1,←e2];refine A8A (h1.le hn (by omega) (by omega)) (h2.le hn (by omega) (by omega)) fun a ha=> ?_
 by_cases c:a<n
 ·have:=h u k a (by omega) (by omega) c
  unfold ER at this;rw [S9];exact this
 ·rw [Ru (h1.rng u k (by omega) (by omega)) (by omega),Ru (h2.rng u k (by omega) (by omega)) (by omega)]
def aV(M:AV)(n v i:Nat):Nat:=(C9 n fun a=>BS (Kj M v i) a).getD 0
theorem A67{M:AV}{n v i:Nat}(h: ∃a,a<n∧BS (Kj M v i) a=true):aV M n v i<n∧BS (Kj M v i) (aV M n v i)=true∧ ∀b,b<aV M n v i→BS (Kj M v i) b=false:=by
 have hs:=Hw.2 h
 cases hq:C9 n fun a=>BS (Kj M v i) a with
 |none=>rw [hq]at hs;cases hs
 |some m=>
  unfold aV;rw [hq]
  exact⟨(Nc hq).1,(Nc hq).2,ZI hq⟩
section
variable {E:Ac} {ns es:AV} {n D:Nat} (C:Ctn E ns es n D) (H:Fo E) (ids inp:AU)
include C H
def gL(E:Ac)(ns es:AV)(n D:Nat)(l:AV):AV:=NS E ns es n D (Dc n l)
def xD(E:Ac)(ns es:AV)(n D:Nat)(l:AV):Prop:=ShpL E n l∧ ∀u,u<E.length→xA E n (ER (gL E ns es n D l)) u
theorem mR{l:AV}(hI:xD E ns es n D l){v i a:Nat}(hv:v<E.length)(hi:i<(E.getD v be).length)(ha:a<n)(hg:ER (gL E ns es n D l) v i a):
  xD E ns es n D (Ni l v i (a:Int))∧NS E ns es n D ((gL E ns es n D l).set v (((gL E ns es n D l).getD v be).set i (2 ^ a)))=gL E ns es n D (Ni l v i (a:Int))∧(Kj (gL E ns es n D l) v i=2 ^ a→gL E ns es n D l=gL E ns es n D (Ni l v i (a:Int))):=by
 obtain⟨hS,hall⟩:=hI;have hn:=C.hn;have hns:=A89 H;have hS':=jF hS hv hi ha;have hM:=M5 hS;have hM':=M5 hS';have hG:=Ua C.toCtx hM;have hG':=Ua C.toCtx hM';have hcl:=su C.toCtx hns hM;have hcl':=su C.toCtx hns hM';have hle:=zq C.toCtx hns hM;have hle':=zq C.toCtx hns hM';have hpo:(0:Int)<2 ^ a:=cc (by decide)
 have hpn:(2:Int) ^ a<2 ^ n:=by
  have:(2:Nat) ^ a<2 ^ n:=ct (by decide) ha
  exact_mod_cast this
 have hf': ∀u k c,u<E.length→k<(E.getD u be).length→c<n→(ER (Dc n (Ni l v i (a:Int))) u k c↔if v=u∧i=k then c=a else ER (Dc n l) u k c):=by
  intro u k c hu hk hc;rw [xB hn hS' hu hk hc,tC hS hv hi hu hk];by_cases e:v=u∧i=k
  ·rw [if_pos e,if_pos e];omega
  ·rw [if_neg e,if_neg e,xB hn hS hu hk hc]
 have hfs:QJ E n (ER (Dc n (Ni l v i (a:Int)))) (ER (Dc n l)):=by
  intro u k c hu hk hc h;rw [hf' u k c hu hk hc]at h;by_cases e:v=u∧i=k
  ·rw [if_pos e]at h;obtain⟨rfl,rfl⟩:=e;subst h;exact hle v i c hv hi ha hg
  ·rw [if_neg e]at h;exact h
 have hgg:QJ E n (ER (gL E ns es n D (Ni l v i (a:Int)))) (ER (gL E ns es n D l)):=Xm C.toCtx hns hM hcl' (fun u k c hu hk hc h=>hfs u k c hu hk hc (hle' u k c hu hk hc h))
 have hga: ∀c,c<n→ER (gL E ns es n D (Ni l v i (a:Int))) v i c→c=a:=by
  intro c hc h;have:=(hf' v i c hv hi hc).1 (hle' v i c hv hi hc h)
  rwa [if_pos ⟨rfl,rfl⟩]at this
 refine⟨⟨hS', ?_⟩, ?_, ?_⟩
 ·have hpin:=A88 H hcl hall (m:=lbM (Dc n (Ni l v i (a:Int)))) hv hi ha hg
   ((hf' v i a hv hi ha).2 (by rw [if_pos ⟨rfl,rfl⟩]))
   (fun x k c hx hk hc hne h=>(hf' x k c hx hk hc).2 (by rw [if_neg (fun e=>hne ⟨e.1.symm,e.2.symm⟩)];exact hle x k c hx hk hc h))
  have hsub:=Xm C.toCtx hns hM' (ALp (ns:=ns) (es:=es) (n:=n) (D:=D) (m:=lbM (Dc n (Ni l v i (a:Int)))) H) (fun u k c hu hk hc h=>h.1.1);intro u hu k hk;obtain⟨c,c1,c2⟩:=hpin u hu k hk
  exact⟨c,c1,hsub u k c hu hk c1 c2⟩
 ·
  have hG1:OkM E n ((gL E ns es n D l).set v (((gL E ns es n D l).getD v be).set i (2 ^ a))):=OkM.set hG hv hi ⟨by omega,hpn⟩
  have h1: ∀u k c,u<E.length→k<(E.getD u be).length→c<n→(ER ((gL E ns es n D l).set v (((gL E ns es n D l).getD v be).set i (2 ^ a))) u k c↔if v=u∧i=k then c=a else ER (gL E ns es n D l) u k c):=by
   intro u k c hu hk hc;have gl:=hG.len;have gr:=hG.row v hv;have gu:=hG.row u hu;unfold ER;rw [Xh (by unfold gL;omega) (by unfold gL;omega) u k (by unfold gL;omega)]
   by_cases e:v=u∧i=k
   ·rw [if_pos e,if_pos e];have:=Sw ⟨a,by omega⟩ ⟨c,by omega⟩
    simp only at this;rw [this,decide_eq_true_eq,Fin.mk.injEq]
   ·rw [if_neg e,if_neg e]
  refine A0z hn (Ua C.toCtx hG1) hG' fun u k c hu hk hc=> ?_
  constructor
  ·refine Xm C.toCtx hns hM' (su C.toCtx hns hG1) (fun u k c hu hk hc h=> ?_) u k c hu hk hc;have:=(h1 u k c hu hk hc).1 (zq C.toCtx hns hG1 u k c hu hk hc h)
   rw [hf' u k c hu hk hc];by_cases e:v=u∧i=k
   ·rw [if_pos e]at this ⊢;exact this
   ·rw [if_neg e]at this ⊢;exact hle u k c hu hk hc this
  ·refine Xm C.toCtx hns hG1 hcl' (fun u k c hu hk hc h=> ?_) u k c hu hk hc;rw [h1 u k c hu hk hc];by_cases e:v=u∧i=k
   ·rw [if_pos e];obtain⟨rfl,rfl⟩:=e;exact hga c hc h
   ·rw [if_neg e];exact hgg u k c hu hk hc h
 ·intro he;refine A0z hn hG hG' fun u k c hu hk hc=> ?_
  constructor
  ·refine Xm C.toCtx hns hM' hcl (fun u k c hu hk hc h=> ?_) u k c hu hk hc;rw [hf' u k c hu hk hc];by_cases e:v=u∧i=k
   ·rw [if_pos e];obtain⟨rfl,rfl⟩:=e;unfold ER at h;rw [show Kj (NS E ns es n D (Dc n l)) v i=2 ^ a from he]at h;have:=Sw ⟨a,by omega⟩ ⟨c,by omega⟩
    simp only at this;rw [this,decide_eq_true_eq,Fin.mk.injEq]at h;exact h
   ·rw [if_neg e];exact hle u k c hu hk hc h
  ·exact hgg u k c hu hk hc
def VX(E:Ac)(ns es:AV)(n D v:Nat)(l:AV)(i:Nat):AV:=Ni l v i (aV (gL E ns es n D l) n v i:Int)
def zu(E:Ac)(ns es:AV)(n D:Nat)(l:AV)(v:Nat):AV:=(ao (E.getD v be).length).foldl (VX E ns es n D v) l
omit C H in
theorem zw{l:AV}(hI:xD E ns es n D l){v i:Nat}(hv:v<E.length)(hi:i<(E.getD v be).length):aV (gL E ns es n D l) n v i<n∧BS (Kj (gL E ns es n D l) v i) (aV (gL E ns es n D l) n v i)=true∧ ∀b,b<aV (gL E ns es n D l) n v i→BS (Kj (gL E ns es n D l) v i) b=false:=
 A67 (hI.2 v hv i hi)
theorem xE{l:AV}(hI:xD E ns es n D l){v i:Nat}(hv:v<E.length)(hi:i<(E.getD v be).length):xD E ns es n D (VX E ns es n D v l i):=by
 obtain⟨h1,h2,_⟩:=zw hI hv hi
 exact(mR C H hI hv hi h1 h2).1
omit C H in
theorem mU{l:AV}(hN:NetOk E)(hS:ShpL E n l):BK l∧l.length≤40∧ ∀r∈l,r.length≤6:=by
 have hb:=hN.big;have hl:=hS.len
 have key: ∀r∈l,r.length≤6:=by
  intro r hr;obtain⟨u,hu,rfl⟩:=V6 hr;have h2:=hS.row u (by omega)
  have h3:=hN.deg u (by omega)
  rw [Ad _ _ hu]at h2;omega
 exact⟨⟨by omega,fun r hr=>by have:=key r hr;omega⟩,by omega,key⟩
theorem xF{l0:AV}(T0:AV){v:Nat}(hv:v<E.length)(hI:xD E ns es n D l0):
  Da (n:Int) (D:Int) ns es E ids inp T0 l0 (v:Int) (l0,0)=some (.inr (zu E ns es n D l0 v))∧xD E ns es n D (zu E ns es n D l0 v):=by
 have hn:=C.hn;have hdg:=C.hN.deg v hv;unfold Da;have hr0:=hI.1.row v hv;have key:=JG (fun w=>Cq (n:Int) (D:Int) ns es E ids inp T0 l0 (v:Int) w.1 w.2) (fun k l=>(l,(k:Int))) (fun _ l=>xD E ns es n D l) (ao (E.getD v be).length) (VX E ns es n D v) (fun l=> .inr l) ?_ ?_ l0 hI
 ·exact key
 ·intro i l hi hIl;rw [MS]at hi;rw [MR]
  refine⟨?_,xE C H hIl hv hi⟩
  obtain⟨a1,a2,a3⟩:=zw hIl hv hi;obtain⟨sh,_,_⟩:=mU C.hN hIl.1;have hG:=Ua C.toCtx (M5 hIl.1);have gl:=hG.len;have gr:=hG.row v hv;have ll:=hIl.1.len;have lr:=hIl.1.row v hv;have hok:=(sw hn hG).2 hIl.2
  have inner:IM (n:Int) (D:Int) ns es E ids inp T0 l0 (v:Int) (i:Int) (NS E ns es n D (Dc n l),true) (l.set v ((l.getD v be).set i 0))=some (VX E ns es n D v l i):=by
   unfold IM;have key:=CO (fun w=>EJ (n:Int) (D:Int) ns es E ids inp T0 l0 (v:Int) (i:Int) (NS E ns es n D (Dc n l),true) w) (fun a=>Ni l v i (a:Int)) (aV (gL E ns es n D l) n v i) (VX E ns es n D v l i) ?_ ?_
   ·exact key
   ·intro b hb;have hx:0≤((NS E ns es n D (Dc n l)).getD v be).getD i be∧((NS E ns es n D (Dc n l)).getD v be).getD i be≤255:=hG.le hn hv hi;have hS':=jF hIl.1 hv hi (by omega:b<n)
    have q1:=hS'.len;have q2:=hS'.row v hv;have q3:((Ni l v i (b:Int)).getD v be).getD i be=(b:Int):=by rw [tC hIl.1 hv hi hv hi,if_pos ⟨rfl,rfl⟩]
    have q4:(Ni l v i (b:Int)).set v (((Ni l v i (b:Int)).getD v be).set i ((b+1:Nat):Int))=Ni l v i ((b+1:Nat):Int):=A2Z (by omega)
    have hno:=a3 b hb;simp only [EJ,Cg];rw [BC (by omega),BC (by omega),BC (by omega),BC (by omega)]
    simp only [q3,Cg];rw [BC (by omega),iX _ b hx (by omega),Gf b (by omega),q4,if_pos]
    have:BS (((NS E ns es n D (Dc n l)).getD v be).getD i be) b=false:=hno
    unfold BS at this;rw [decide_eq_false_iff_not]at this;omega
   ·have hx:0≤((NS E ns es n D (Dc n l)).getD v be).getD i be∧((NS E ns es n D (Dc n l)).getD v be).getD i be≤255:=hG.le hn hv hi;have hS':=jF hIl.1 hv hi a1;have q1:=hS'.len;have q2:=hS'.row v hv;have q3:((Ni l v i (aV (gL E ns es n D l) n v i:Int)).getD v be).getD i be=(aV (gL E ns es n D l) n v i:Int):=by rw [tC hIl.1 hv hi hv hi,if_pos ⟨rfl,rfl⟩]
    simp only [EJ,Cg];rw [BC (by omega),BC (by omega),BC (by omega),BC (by omega)]
    simp only [q3,Cg];rw [BC (by omega),iX _ _ hx (by omega),if_neg]
    ·rfl
    ·have:BS (((NS E ns es n D (Dc n l)).getD v be).getD i be) (aV (gL E ns es n D l) n v i)=true:=a2
     unfold BS at this;rw [decide_eq_true_eq]at this;omega
  simp only [Cq,Cg];rw [if_pos (by omega),NL C.toCtx ids inp l hIl.1 sh,C8,if_pos hok]
  simp only [if_true];rw [BC (by omega),BC (by omega),inner,C8,Gf i (by omega)]
 ·intro l hIl;simp only [Cq,Cg,MS];rw [if_neg (by omega)]
theorem A68{l0:AV}(T0:AV){v:Nat}(hv:v<E.length)(hI:xD E ns es n D l0):
  NG (n:Int) (D:Int) ns es E ids inp T0 l0 (v:Int) (l0,gL E ns es n D l0,0)=some (zu E ns es n D l0 v,gL E ns es n D (zu E ns es n D l0 v)):=by
 have hn:=C.hn;have hdg:=C.hN.deg v hv;unfold NG;have hr0:=hI.1.row v hv;have key:=JG (fun w=>IR (n:Int) (D:Int) ns es E ids inp T0 l0 (v:Int) w.1 w.2.1 w.2.2) (fun k l=>(l,gL E ns es n D l,(k:Int))) (fun _ l=>xD E ns es n D l) (ao (E.getD v be).length) (VX E ns es n D v) (fun l=>(l,gL E ns es n D l)) ?_ ?_ l0 hI
 ·exact key.1
 ·intro i l hi hIl;rw [MS]at hi;rw [MR]
  refine⟨?_,xE C H hIl hv hi⟩
  obtain⟨a1,a2,a3⟩:=zw hIl hv hi;have hG:=Ua C.toCtx (M5 hIl.1);have gl:=hG.len;have gr:=hG.row v hv;have ll:=hIl.1.len;have lr:=hIl.1.row v hv;obtain⟨_,p2,p3⟩:=mR C H hIl hv hi a1 a2
  have inner:NF (n:Int) (D:Int) ns es E ids inp T0 l0 (v:Int) l (gL E ns es n D l) (i:Int) 0=some (aV (gL E ns es n D l) n v i:Int):=by
   unfold NF;have key:=CO (fun w=>IQ (n:Int) (D:Int) ns es E ids inp T0 l0 (v:Int) l (gL E ns es n D l) (i:Int) w) (fun a=>(a:Int)) (aV (gL E ns es n D l) n v i) (aV (gL E ns es n D l) n v i:Int) ?_ ?_
   ·rw [Et]at key;exact key
   ·intro b hb;have hsi:Kc (((gL E ns es n D l).getD v be).getD i be) (b:Int)=some (BS (Kj (gL E ns es n D l) v i) b):=Rt _ b (hG.le hn hv hi) (by omega)
    simp only [IQ,Cg];rw [BC (by unfold gL;omega),BC (by unfold gL;omega),hsi,C8,a3 b hb,if_neg (by decide),Gf b (by omega)]
   ·have hsi:Kc (((gL E ns es n D l).getD v be).getD i be) (aV (gL E ns es n D l) n v i:Int)=some (BS (Kj (gL E ns es n D l) v i) (aV (gL E ns es n D l) n v i)):=Rt _ _ (hG.le hn hv hi) (by omega)
    simp only [IQ,Cg];rw [BC (by unfold gL;omega),BC (by unfold gL;omega),hsi,C8,a2,if_pos rfl]
  have hu:IntKind.u64.wrap (aV (gL E ns es n D l) n v i:Int)=(aV (gL E ns es n D l) n v i:Int):=VV _ (by omega)
  simp only [IR,Cg];rw [if_pos (by omega),inner,C8,BC (by omega),BC (by omega),BC (by unfold gL;omega),BC (by unfold gL;omega)]
  simp only [hu,Cg,Yl _ (by omega:aV (gL E ns es n D l) n v i≤8)]
  rw [BC (by omega),Gf i (by omega)]
  have hpow:(2:Int) ^ aV (gL E ns es n D l) n v i<2 ^ n:=by
   have:(2:Nat) ^ aV (gL E ns es n D l) n v i<2 ^ n:=ct (by decide) a1
   exact_mod_cast this
  have hpo:(0:Int)<2 ^ aV (gL E ns es n D l) n v i:=cc (by decide)
  by_cases c:((gL E ns es n D l).getD v be).getD i be=2 ^ aV (gL E ns es n D l) n v i
  ·rw [if_pos c];have:=p3 c
   show some (Sum.inl (VX E ns es n D v l i,gL E ns es n D l,((i+1:Nat):Int)))=some (Sum.inl (VX E ns es n D v l i,gL E ns es n D (VX E ns es n D v l i),((i+1:Nat):Int)))
   rw [show gL E ns es n D (VX E ns es n D v l i)=gL E ns es n D l from this.symm]
  ·have hG1:OkM E n ((gL E ns es n D l).set v (((gL E ns es n D l).getD v be).set i (2 ^ aV (gL E ns es n D l) n v i))):=OkM.set hG hv hi ⟨by omega,hpow⟩
   rw [if_neg c,WF C.toCtx ids inp hG1,C8,p2];rfl
 ·intro l hIl;simp only [IR,Cg,MS];rw [if_neg (by omega)]
end
section
variable {E:Ac} {ns es:AV} {n D:Nat} (C:Ctn E ns es n D) (H:Fo E) (ids inp:AU)
include C H
def A69(E:Ac)(ns es:AV)(n D:Nat):AV:=(ao E.length).foldl (zu E ns es n D) (BD E)
theorem A6A(hI:xD E ns es n D (BD E)):Db (n:Int) (D:Int) ns es E ids inp (BD E) (BD E,0)=some (.inr (A69 E ns es n D))∧xD E ns es n D (A69 E ns es n D):=by
 have hb:=C.hN.big;have hel:(BD E).length=E.length:=by simp [BD]
 unfold Db;have key:=JG (fun w=>Cr (n:Int) (D:Int) ns es E ids inp (BD E) w.1 w.2) (fun k l=>(l,(k:Int))) (fun _ l=>xD E ns es n D l) (ao E.length) (zu E ns es n D) (fun l=> .inr l) ?_ ?_ (BD E) hI
 ·exact key
 ·intro v l hv hIl;rw [MS]at hv;rw [MR];obtain⟨h1,h2⟩:=xF C H ids inp (BD E) hv hIl
  refine⟨?_,h2⟩
  have ll:=hIl.1.len;simp only [Cr,Cg];rw [if_pos (by omega),BC (by omega),h1,C8,Gf v (by omega)]
 ·intro l hIl;simp only [Cr,MS];rw [if_neg (by omega)]
theorem A6B(hI:xD E ns es n D (BD E)):NH (n:Int) (D:Int) ns es E ids inp (BD E) (BD E,gL E ns es n D (BD E),0)=some (A69 E ns es n D):=by
 have hb:=C.hN.big;have hel:(BD E).length=E.length:=by simp [BD]
 unfold NH;have key:=JG (fun w=>IU (n:Int) (D:Int) ns es E ids inp (BD E) w.1 w.2.1 w.2.2) (fun k l=>(l,gL E ns es n D l,(k:Int))) (fun _ l=>xD E ns es n D l) (ao E.length) (zu E ns es n D) (fun l=>l) ?_ ?_ (BD E) hI
 ·exact key.1
 ·intro v l hv hIl;rw [MS]at hv;rw [MR];obtain⟨_,h2⟩:=xF C H ids inp (BD E) hv hIl
  refine⟨?_,h2⟩
  have ll:=hIl.1.len;simp only [IU,Cg];rw [if_pos (by omega),BC (by omega),A68 C H ids inp (BD E) hv hIl,C8,Gf v (by omega)]
 ·intro l hIl;simp only [IU,MS];rw [if_neg (by omega)]
omit H in
theorem A2a(hno: ¬(gL E ns es n D (BD E)).all (fun row=> !row.contains (0:Int))=true):Db (n:Int) (D:Int) ns es E ids inp (BD E) (BD E,0)=some (.inl ())∨Db (n:Int) (D:Int) ns es E ids inp (BD E) (BD E,0)=some (.inr (BD E)):=by
 have hb:=C.hN.big;have hel:(BD E).length=E.length:=by simp [BD]
 have hS:=QI E n;have hpm:=NL C.toCtx ids inp _ hS (PP C.hN);rw [show NS E ns es n D (Dc n (BD E))=gL E ns es n D (BD E)from rfl,if_neg hno]at hpm
 have row: ∀v,v<E.length→Da (n:Int) (D:Int) ns es E ids inp (BD E) (BD E) (v:Int) (BD E,0)=some (.inl ())∨Da (n:Int) (D:Int) ns es E ids inp (BD E) (BD E) (v:Int) (BD E,0)=some (.inr (BD E)):=by
  intro v hv;have hr:=hS.row v hv;unfold Da;by_cases h0:(E.getD v be).length=0
  ·right
   refine D5 ?_;simp only [Cq,Cg];rw [if_neg (by omega)]
  ·left
   refine D5 ?_;simp only [Cq,Cg];rw [if_pos (by omega),hpm,C8];rfl
 unfold Db;have key:=QY (fun w=>Cr (n:Int) (D:Int) ns es E ids inp (BD E) w.1 w.2) (fun q s=> ∃v:Nat,q=E.length-v∧v≤E.length∧s=(BD E,(v:Int))) (fun r=>r= .inl ()∨r= .inr (BD E)) ?_ E.length (BD E,0) ⟨0,rfl,by omega,rfl⟩
 ·obtain⟨r,h1,h2⟩:=key;rcases h2 with rfl|rfl
  ·exact .inl h1
  ·exact .inr h1
 ·rintro q s ⟨v,hq,hv,rfl⟩
  simp only [Cr,Cg];by_cases c:v<E.length
  ·rw [if_pos (by omega),BC (by omega)]
   rcases row v c with h|h
   ·right
    rw [h]
    exact⟨_,rfl,.inl rfl⟩
   ·left
    rw [h,C8,Gf v (by omega)]
    exact⟨_,E.length-(v+1),rfl,by omega,v+1,rfl,by omega,rfl⟩
  ·right
   rw [if_neg (by omega)]
   exact⟨_,rfl,.inr rfl⟩
omit H in
theorem A6C:NE (n:Int) (D:Int) ns es E ids inp (BD E) (gL E ns es n D (BD E)) 0=some (if(gL E ns es n D (BD E)).all (fun row=> !row.contains (0:Int))=true then .inr ()else .inl ()):=by
 have hb:=C.hN.big;have hG:OkM E n (gL E ns es n D (BD E)):=Ua C.toCtx (M5 (QI E n));have sG:=hG.short C.hN;have sG1:=sG.1;unfold NE;have key:=Df (fun w=>IP (n:Int) (D:Int) ns es E ids inp (BD E) (gL E ns es n D (BD E)) w) (fun j=>(j:Int)) (gL E ns es n D (BD E)).length (fun j=> !((gL E ns es n D (BD E)).getD j be).contains (0:Int)) (.inl ()) (.inr ()) ?_ ?_
 ·rw [Et,RU (fun row:AU=> !row.contains (0:Int))]at key;exact key
 ·intro j hj;simp only [IP,Cg];rw [if_pos (BX hj),BC (by omega),BC (sG.getD j),Gf j (by omega)]
  by_cases hc:((gL E ns es n D (BD E)).getD j be).contains (0:Int)=true
  ·rw [if_pos hc,hc];rfl
  ·rw [if_neg hc,Es.2 hc];rfl
 ·simp only [IP];rw [if_neg (Am _)]
theorem zx(hok:(gL E ns es n D (BD E)).all (fun row=> !row.contains (0:Int))=true)(hI:xD E ns es n D (BD E)):Nh (n:Int) (D:Int) ns es E ids inp=some (A69 E ns es n D,true):=by
 have hS:=QI E n;have hM:=M5 hS;unfold Nh;rw [jB ids inp C.hN,C8,mI C.toCtx _ hS (PP C.hN),C8,WF C.toCtx ids inp hM,C8,show NS E ns es n D (Dc n (BD E))=gL E ns es n D (BD E)from rfl,A6C C ids inp,C8,A6B C H ids inp hI,if_pos hok];rfl
omit H in
theorem zy(hok: ¬(gL E ns es n D (BD E)).all (fun row=> !row.contains (0:Int))=true):Nh (n:Int) (D:Int) ns es E ids inp=some ([],false):=by
 have hS:=QI E n;have hM:=M5 hS;unfold Nh;rw [jB ids inp C.hN,C8,mI C.toCtx _ hS (PP C.hN),C8,WF C.toCtx ids inp hM,C8,show NS E ns es n D (Dc n (BD E))=gL E ns es n D (BD E)from rfl,A6C C ids inp,C8,if_neg hok]
end
theorem AF1(pm:AV→Option (AV×Bool))(r:Option (Unit⊕AV))(l G:AV)(h:r=some (Sum.inr l))(e:pm l=some (G,true)):
  (r.bind fun BP=>match BP with
   | .inl q1002_=>some ([],false)
   | .inr q1002_=>(pm q1002_).bind fun Vz=>if Vz.2=true then some (q1002_,true)else some ([],false))=some (l,true):=by
 subst h
 show(pm l).bind _=_
 rw [e];rfl
theorem ALs(pm:AV→Option (AV×Bool))(r:Option (Unit⊕AV))(l:AV)(h:r=some (Sum.inl ())∨r=some (Sum.inr l))(e:pm l=some ([],false)):
  (r.bind fun BP=>match BP with
   | .inl q1002_=>some ([],false)
   | .inr q1002_=>(pm q1002_).bind fun Vz=>if Vz.2=true then some (q1002_,true)else some ([],false))=some ([],false):=by
 rcases h with h|h
 ·subst h;rfl
 ·subst h
  show(pm l).bind _=_
  rw [e];rfl
theorem zz(a d:Int)(ns es:AV)(E:Ac)(ids ins:AU)(hn:BK ns)(he:BK es)(hE:Cm E)(hids:ids.length<1099511627776)(hins:ins.length<1099511627776):
  ∃x y,M4 a d ns es E ids ins=some (x,y)∧M3 a d ns es E ids ins=some (x,y)∧x.length≤40∧ ∀r∈x,r.length≤6:=by
 unfold M4 M3 Su;rw [BC hn,BC he,BC hn,BC he,BC hE,BC hids,BC hins,BC hE,BC hids,BC hins];by_cases h:MI a d ns es=true
 ·rw [if_pos h,if_pos h];by_cases hw:GQ E ids ins=true
  ·rw [if_pos hw,if_pos hw,wz (j4 hw) hids hins,sV hw];simp only [C8];by_cases hf:zk E=true
   ·rw [if_pos hf,if_pos hf];obtain⟨ha,hd,c1,c2⟩:=Vu h;obtain⟨n,rfl⟩: ∃n:Nat,a=(n:Int):=⟨a.toNat,by omega⟩
    obtain⟨D,rfl⟩: ∃D:Nat,d=(D:Int):=⟨d.toNat,by omega⟩
    have C:=AEu h hw hn he;have H:=ALo hw hf;have hnn:=C.hn;have hb:=C.hN.big;have hS:=QI E n;have hM:=M5 hS;have hG:OkM E n (gL E ns es n D (BD E)):=Ua C.toCtx hM;have sS:=PP C.hN;by_cases hok:(gL E ns es n D (BD E)).all (fun row=> !row.contains (0:Int))=true
    ·have hI:xD E ns es n D (BD E):=⟨hS,(sw hnn hG).1 hok⟩;obtain⟨h1,h2⟩:=A6A C H ids ins hI;obtain⟨q1,q2,q3⟩:=mU C.hN h2.1;have hG2:=Ua C.toCtx (M5 h2.1);have e1:=NL C.toCtx ids ins _ h2.1 q1;rw [if_pos ((sw hnn hG2).2 h2.2)]at e1
     refine⟨A69 E ns es n D,true, ?_, ?_,q2,q3⟩
     ·rw [zx C H ids ins hok hI];rfl
     ·rw [xC ids ins C.hN,C8];exact AF1 (Ii (n:Int) (D:Int) ns es E ids ins) _ _ _ h1 e1
    ·have hpm:=NL C.toCtx ids ins _ hS sS;rw [show NS E ns es n D (Dc n (BD E))=gL E ns es n D (BD E)from rfl,if_neg hok]at hpm
     refine⟨[],false, ?_, ?_,by simp,by simp⟩
     ·rw [zy C ids ins hok];rfl
     ·rw [xC ids ins C.hN,C8];exact ALs (Ii (n:Int) (D:Int) ns es E ids ins) _ _ (A2a C ids ins hok) hpm
   ·rw [if_neg hf,if_neg hf]
    exact⟨_,_,rfl,rfl,by simp,by simp⟩
  ·rw [if_neg hw,if_neg hw]
   exact⟨_,_,rfl,rfl,by simp,by simp⟩
 ·rw [if_neg h,if_neg h]
  exact⟨_,_,rfl,rfl,by simp,by simp⟩
theorem A00{r:AV}(h1:r.length≤40)(h2: ∀x∈r,x.length≤6):BK r∧Bw r≤240:=by
 refine⟨⟨by omega,fun x hx=>by have:=h2 x hx;omega⟩, ?_⟩
 have key: ∀l:AV,(∀x∈l,x.length≤6)→Bw l≤6*l.length:=by
  intro l
  induction l with
  |nil=>intro _;simp [Bw]
  |cons x l ih=>
   intro hx;rw [Lp];have:=ih fun y hy=>hx y (QL _ hy)
   have:=hx x Ia
   simp only [KL];omega
 have:=key _ h2
 omega
theorem A2b(a d:Int)(ns es:AV)(E:Ac)(ids ins:AU)(hn:Vl ns)(he:Vl es)(hE:VT E)(hids:ids.length<9223372036854775808)(hins:ins.length<9223372036854775808):Gd a d ns es E ids ins=some true:=by
 unfold Gd;rw [BC hn,BC he,BC (by omega)]
 by_cases q1:szP 1048576 ns es<0
 ·rw [if_pos q1]
 ·obtain⟨f1,sn,se,f2⟩:=A7B (by omega) q1
  rw [if_neg q1,BC hE,BC hids,BC hins,BC (by omega)]
  by_cases q2:szW (szP 1048576 ns es) E ids ins<0
  ·rw [if_pos q2]
  ·obtain⟨g1,sE,g2⟩:=A7U (by omega) q2
   have tE:=CE (fE E);have t1:=CE ns;have t2:=CE es;have h1:ids.length<1099511627776:=by omega
   have h2:ins.length<1099511627776:=by omega
   obtain⟨r,ok,hS,hI,hr1,hr2⟩:=zz a d ns es E ids ins sn se sE h1 h2;obtain⟨sr,hr⟩:=A00 hr1 hr2;have t3:=CE r;have hh:=dm r 1 sr (by omega)
   have c1:(0:Int)≤1∧1+Bw ns+Bw es<1099511627776:=by omega
   have c2:0≤1+Bw ns+Bw es∧1+Bw ns+Bw es+2*Bw (fE E)+ids.length+ins.length<1099511627776:=by omega
   have c3: ¬1+Bw ns+Bw es+2*Bw (fE E)+ids.length+ins.length<0:=by omega
   have c4:(0:Int)≤1∧(1:Int)+Bw r<1099511627776:=by omega
   have c5: ¬(1:Int)+Bw r<0:=by omega
   rw [if_neg q2,BC sn,BC se,BC sE,BC h1,BC h2];simp only [hS,hI,C8,BC sr,decide_true,z8,zK,if_true,BC c1,BC c2,if_neg c3,BC c4,hh,if_neg c5]
   cases ok<;>rfl
theorem A2c(ds:List D)(h:ABR Ai [24,28] ds):Y.call 4 ds []=some (.bool true,[]):=by
 rcases ds with _|⟨x,_|⟨y,_|⟨_,_⟩⟩⟩
 ·cases h
 ·exact h.2.elim
 ·obtain⟨a,d,ns,es,rfl,_,_,hn,he⟩:=yU ACk ty3 ACj A76 ty3 h.1;obtain⟨E,ids,ins,rfl,hE,hids,hins⟩:=yt ACm ACl ACn A45 ty3 A76 h.2.1;exact QP a d ns es E ids ins (A2b a d ns es E ids ins (A0M hn) (A0M he) (A4l hE) (xM hids.1 (by decide)) (xM hins.1 (by decide)))
 ·exact h.2.2.elim
end Go.Proofs.YtiehjihckndgkaaGreat
end
