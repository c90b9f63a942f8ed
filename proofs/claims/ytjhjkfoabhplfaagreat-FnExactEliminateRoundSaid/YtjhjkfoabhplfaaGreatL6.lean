/- Value semantics for Go code, part 6: sorting as known calls. Conditions: none beyond those in each lemma. -/
import Derived.Test.YtjhjkfoabhplfaaGreatL5
import Derived.Sort.Grow
import Derived.Sort.Row
import Derived.Laws.AppendOwn
import Derived.Shelf.Spec.SlicesGrow
import Derived.Shelf.SlSortCmp.Kit1
import Derived.Lib.SlicesCompact
set_option linter.unusedSimpArgs false
set_option linter.unusedVariables false
namespace Dv
open Go
set_option linter.unusedSimpArgs false
theorem xD(w:World)(m b off:Nat)(d:Array Int)(os:Array Obj){cs:Array Value}{t:TypeId}{fr:Nat×Nat}(hb:w.heap[b]? =some (.cells cs t fr)):
  (Go.Sort.grow (Go.Sort.putRow (Value.int .i64) (Go.Sort.ahead w m) b off d) os).heap[b]? =some (.cells (Go.Sort.putCells (Value.int .i64) off d cs) t fr)∧
  (∀k,k<w.heap.size→k≠b→(Go.Sort.grow (Go.Sort.putRow (Value.int .i64) (Go.Sort.ahead w m) b off d) os).heap[k]? =w.heap[k]?)∧
  w.heap.size≤(Go.Sort.grow (Go.Sort.putRow (Value.int .i64) (Go.Sort.ahead w m) b off d) os).heap.size:=by
 have hlt:=(Ut.1 hb).1;unfold Go.Sort.grow Go.Sort.putRow Go.Sort.mapBlock Go.Sort.ahead
 refine⟨?_,fun k hk hne=> ?_, ?_⟩
 ·simp only;rw [vN (by simpa using hlt),bF,if_pos rfl,hb];rfl
 ·simp only;rw [vN (by simpa using hk),bF,if_neg (Ne.symm hne)]
 ·simp
theorem xE{P:Program}{T:Tys}{f:FuncId}{e:TypeId}(hfn: ∃fn,P.funcs[f]? =some fn∧fn.body.isSome=true∧(fn.name== "runtime.NumGoroutine")=false)(hsz:T.size e=1)
  (hs: ∀(blk off cap:Nat) (zs:AA) (w:World),Go.Sort.Holds (Value.int .i64) w blk off zs.toArray→blk<w.heap.size→zs.length<4611686018427387904→
   Calls P f #[.slice (some ⟨blk,off,none⟩) zs.length cap] w fun x w'=>x= .returned (.tuple #[])∧ ∃n os,w'=Go.Sort.grow (Go.Sort.putRow (Value.int .i64) (Go.Sort.ahead w n) blk off (zs.mergeSort fun x y=>decide (x≤y)).toArray) os)
  (hn: ∀(p:Option Addr) (cap:Nat) (w:World),Calls P f #[.slice p 0 cap] w fun x w'=>x= .returned (.tuple #[])∧w'=w)
  (zs:AA)(hl:zs.length<4611686018427387904):
  Good P T f [.vw [100000] 0 0] [.own e (GR zs)] (.tup []) [.own e (GR (zs.mergeSort fun x y=>decide (x≤y)))]:=by
 refine⟨hfn,fun vs gh w S FL hvs hA hL hL0 hLd hlt=> ?_⟩
 obtain⟨v,hv0,hvW⟩:=hA 0 _ rfl
 have hv:v=gh 0:=by
  cases hvW with
  |vw hE hv=>
   obtain⟨j,h1,_,_,h2⟩:=hv;simp only [G,List.cons.injEq,and_true]at h1;have:j=0:=by omega
   subst this;exact h2
 subst hv
 have hvs':vs= #[gh 0]:=by
  apply lQ
  intro i
  cases i with
  |zero=>simpa using hv0
  |succ i=>rw [SA (by rw [hvs];simp),SA (by simp)]
 subst hvs';have hW:=hL 0 _ rfl
 have tupW: ∀(w':World),W T S w' V0 Jc (.tup []) (.tuple #[]) (fun _=>False):=fun w'=>
  .tup (fun _=>undef) (fun _ _=>False) rfl (by simp) (by simp) (by simp) (by simp)
 have noth: ∀(p:Option Addr) (cap:Nat),zs=[]→gh 0= .slice p 0 cap→
   Calls P f #[gh 0] w fun| .returned v,w'=>QX T gh (.tup []) [.own e (GR (zs.mergeSort fun x y=>decide (x≤y)))] w S FL v w'|_,_=>False:=by
  intro p cap hz hg;rw [hg]
  refine(hn p cap w).mono fun x w' ⟨h1,h2⟩=> ?_
  subst h1 h2
  refine⟨S,fun _=>False,FL,tupW _,fun j d hj=> ?_,hLd,fun _ _ h=>h.elim,Step.refl _ _ _,fun _ h=>h.elim,hlt⟩
  cases j with
  |zero=>
   simp only [QK,Option.some.injEq]at hj;subst hj;subst hz;simp only [List.mergeSort_nil];exact hW
  |succ j=>simp at hj
 by_cases hz:zs=[]
 ·have: ∃p cap,gh 0= .slice p 0 cap:=by
   subst hz;generalize hxs:GR []=xs at hW;generalize gh 0=g0 at hW
   cases hW with
   |own0=>exact⟨_,_,rfl⟩
   |own us Fi hb hcz hn'=>
    rename_i n c cs
    have:xs=[]:=hxs.symm
    rw [this,hsz]at hn';simp at hn'
    exact⟨_,_,by rw [←hn']⟩
  obtain⟨p,cap,hg⟩:=this;exact noth p cap hz hg
 ·have hpos:0<zs.length:=by cases zs with|nil=>exact absurd rfl hz|cons _ _=>simp
  generalize hxs:GR zs=xs at hW;generalize hg0:gh 0=g0 at hW;have hxl:xs.length=zs.length:=by rw [←hxs,Ci]
  cases hW with
  |own0=>simp at hxl;omega
  |own us Fi hb hcz hn' hnc hcm hx hF hFb hd hS hw=>
   rename_i b off n c cs
   rw [hsz,Lu]at hn' hcz;have hnz:n=zs.length:=by omega
   subst hnz;have hxi: ∀i (hi:i<zs.length),xs[i]? =some (.int .i64 zs[i]):=fun i hi=>by rw [←hxs,TY zs i hi,Lp,Fz hi];rfl
   have hus: ∀i (hi:i<zs.length),us i= .int .i64 zs[i]∧Em (Fi i):=fun i hi=>by
    have h1:=hw i _ (hxi i hi);generalize us i=u at h1
    cases h1 with
    |int h=>exact⟨rfl,h⟩
   have hlt2:=(Ut.1 hb).1
   have hH:Go.Sort.Holds (Value.int .i64) w b off zs.toArray:=by
    intro j hj;simp only [List.size_toArray]at hj
    refine⟨?_, ?_⟩
    ·have:=E8 (o:=off) (i:=j) hb
     rw [OM]at this;rw [this,hx j _ (hxi j hj),(hus j hj).1];simp [hj]
    ·simp [World.frozen?,hb]
   have hlm:(zs.mergeSort fun x y=>decide (x≤y)).length=zs.length:=List.length_mergeSort _
   refine(hs b off c zs w hH hlt2 hl).mono fun x w' ⟨h1,m,os,h2⟩=> ?_
   subst h1 h2;obtain⟨k1,k2,k3⟩:=xD w m b off (zs.mergeSort fun x y=>decide (x≤y)).toArray os hb;have hbF:FL 0 b:=(hF b).2 (.inl rfl)
   refine⟨S,fun _=>False,FL,tupW _,fun j d hj=> ?_,hLd,fun _ _ h=>h.elim,⟨rfl,rfl,rfl,k3,fun k hk hno=>k2 k hk (fun he=>hno 0 (he▸hbF)),fun _ h=>h,fun _ h=> .inl h,fun u k h=> .inl ⟨u,h⟩⟩,fun _ h=>h.elim,fun k hk=>gD (hlt k hk) k3⟩
   cases j with
   |zero=>
    simp only [QK,Option.some.injEq]at hj;subst hj;rw [hg0];refine .own (fun i=> .int .i64 ((zs.mergeSort fun x y=>decide (x≤y)).getD i 0)) Fi k1 (by rw [hsz,Lu];simpa [Go.Sort.putCells] using hcz) (by rw [hsz,Lu,Ci,hlm]) hnc hcm (fun i y hi=> ?_) (fun k=> ?_) (fun i hi=>hFb i (by rw [Ci,hlm]at hi;omega)) (fun i j k hi hj=>hd i j k (by rw [Ci,hlm]at hi;omega) (by rw [Ci,hlm]at hj;omega)) hS (fun i y hi=> ?_)
    ·have hil:=(Er.1 hi).1;rw [Ci,hlm]at hil;unfold Go.Sort.putCells;have hic:off+i<cs.size:=by omega
     rw [Array.getElem?_mapIdx,Lj hic,QC];rw [if_pos (by simp;omega)]
     simp only [yQ,Option.some.injEq,Value.int.injEq,true_and];rw [Lp];simp [hlm,hil]
    ·rw [hF k];simp only [hxl,Ci,hlm]
    ·have hil:=(Er.1 hi).1;rw [Ci]at hil;rw [TY _ i hil]at hi
     injection hi with hi
     subst hi;rw [hlm]at hil;exact .int (hus i hil).2
   |succ j=>simp at hj
def Dn(zs:AA):AA:=zs.mergeSort fun x y=>decide (x≤y)
def Ox:List D→Option AA
 | []=>some []
 | .int .i64 n::ds=>(Ox ds).map (n:: ·)
 |_=>none
theorem Pj: ∀(zs:AA),Ox (GR zs)=some zs:=by
 intro zs
 induction zs with
 |nil=>rfl
 |cons z zs ih=>rw [eT,Ox,ih];rfl
theorem Pk: ∀ {xs:List D} {zs:AA},Ox xs=some zs→xs=GR zs:=by
 intro xs
 induction xs with
 |nil=>intro zs h;simp only [Ox,Option.some.injEq]at h;subst h;rfl
 |cons d xs ih=>
  intro zs h;unfold Ox at h
  split at h
  ·rename_i heq;cases heq
  ·rename_i n ds heq
   simp only [List.cons.injEq]at heq;obtain⟨rfl,rfl⟩:=heq;simp only [Cw]at h;obtain⟨ys,h1,rfl⟩:=h;rw [ih h1,eT]
  ·cases h
def Sm(k e f:Nat)(a l:List D):Option (D×List D):=
 if f=k then
  match a,l with
  | [.vw [100000] 0 0],[.own e' xs]=>if e'=e then(Ox xs).bind fun zs=>if zs.length<4611686018427387904 then some (.tup [],[.own e (GR (Dn zs))])else none else none
  |_,_=>none
 else none
theorem bZ{P:Program}{T:Tys}{k e:Nat}(hg: ∀zs:AA,zs.length<4611686018427387904→Good P T k [.vw [100000] 0 0] [.own e (GR zs)] (.tup []) [.own e (GR (Dn zs))]):
  ∀f a l r outs,Sm k e f a l=some (r,outs)→Good P T f a l r outs:=by
 intro f a l r outs h;unfold Sm at h
 split at h
 ·rename_i hf
  subst hf
  split at h
  ·split at h
   ·rename_i he
    subst he;simp only [J4]at h;obtain⟨zs,h1,h2⟩:=h
    split at h2
    ·rename_i hl
     simp only [Option.some.injEq,Prod.mk.injEq]at h2;obtain⟨rfl,rfl⟩:=h2;rw [Pk h1];exact hg zs hl
    ·cases h2
   ·cases h
  ·cases h
 ·cases h
theorem ni(k e:Nat)(zs:AA)(h:zs.length<4611686018427387904):Sm k e k [.vw [100000] 0 0] [.own e (AJ (D.int .i64) zs)]=some (.tup [],[.own e (AJ (D.int .i64) (Dn zs))]):=by
 unfold Sm;rw [if_pos rfl];simp only [if_true];rw [show AJ (D.int .i64) zs=GR zs from rfl,Pj,Bl,if_pos h];rfl
def QF(h g:FuncId→List D→List D→Option (D×List D))(f:FuncId)(a l:List D):Option (D×List D):=
 match h f a l with
 |some r=>some r
 |none=>g f a l
theorem Lb{P:Program}{T:Tys}{h g:FuncId→List D→List D→Option (D×List D)}(hh: ∀f a l r outs,h f a l=some (r,outs)→Good P T f a l r outs)(hg: ∀f a l r outs,g f a l=some (r,outs)→Good P T f a l r outs):
  ∀f a l r outs,QF h g f a l=some (r,outs)→Good P T f a l r outs:=by
 intro f a l r outs he;unfold QF at he
 cases hq:h f a l with
 |some q=>rw [hq]at he;simp only [Option.some.injEq]at he;subst he;exact hh _ _ _ _ _ hq
 |none=>rw [hq]at he;exact hg _ _ _ _ _ he
end Dv
namespace Dv
open Go
set_option linter.unusedSimpArgs false
def Ua(e:TypeId)(zs:AA)(w:World)(x:Ending)(w':World):Prop:=
 ∃v,x= .returned v∧w'.ownsRow w.heap.size e 1 v zs.length ((zs.mergeSort fun x y=>decide (x≤y)).map (Value.int .i64))∧(v= .slice none 0 0↔zs=[])∧Go.RowKit.Below w.heap.size w w'
theorem ZV:Em (fun _:Nat=>False):=fun _ h=>h
theorem xF{T:Tys}{S:Nat→Prop}{e:TypeId}{w w':World}{v:Value}{zs:AA}(hsz:T.size e=1)(hS: ∀k,S k→k<w.heap.size)(h:w'.ownsRow w.heap.size e 1 v zs.length (zs.map (Value.int .i64))):
  ∃F:Nat→Prop,W T S w' V0 Jc (.own e (GR zs)) v F∧(∀k,F k→w.heap.size≤k):=by
 rcases h.2 with⟨rfl,h0⟩|⟨g,cap,cur,rfl,hb,hg,h1,h2,h3,h4⟩
 ·have:zs=[]:=qC h0
  subst this
  exact⟨fun _=>False,.own0 ZV,fun _ h=>h.elim⟩
 ·have hlt:=(Ut.1 hg).1
  refine⟨fun k=>k=g,.own (fun i=> .int .i64 (zs.getD i 0)) (fun _ _=>False) hg (by rw [hsz,Mj];exact h3) (by rw [hsz,Ci,Lu]) h1 h2 (fun i x hi=> ?_) (fun k=>⟨.inl,fun h=>h.elim id (fun⟨_,_,h⟩=>h.elim)⟩) (fun _ _ h=>h) (fun _ _ _ _ _ _ h=>h.elim) (fun hs=> ?_) (fun i x hi=> ?_),fun k hk=>by rw [hk];exact hb⟩
  ·have hil:=(Er.1 hi).1;rw [Ci]at hil
   have:cur.toList[i]? =some (Value.int .i64 zs[i]):=by
    have h5:(cur.toList.take (zs.length*1))[i]? =some (Value.int .i64 zs[i]):=by rw [h4];simp [hil]
    rw [List.getElem?_take]at h5;simpa [hil] using h5
   rw [Mj,←bE,this,Lp,Fz hil];rfl
  ·have:=hS _ hs;omega
  ·have hil:=(Er.1 hi).1;rw [Ci]at hil;rw [TY _ i hil]at hi
   injection hi with hi
   subst hi;exact .int ZV
theorem sN{S:Nat→Prop}{w w':World}{FL:Nat→Nat→Prop}(hb:Go.RowKit.Below w.heap.size w w'):Step w S FL w' S (fun _ _=>False):=
 ⟨hb.os,hb.tape,hb.output,hb.size,fun k hk _=>hb.block k hk,fun _ h=>h,fun _ h=> .inl h,fun _ _ h=>h.elim⟩
theorem nk{P:Program}{T:Tys}{f g:FuncId}{e:TypeId}(hfn: ∃fn,P.funcs[f]? =some fn∧fn.body.isSome=true∧(fn.name== "runtime.NumGoroutine")=false)(hsz:T.size e=1)
  (h0: ∀(p:Addr) (ad:Option Addr) (cap:Nat) (w:World),p.block<w.heap.size→w.cell? p=some (.slice ad 0 cap)→Calls P f #[.func (.func g) #[] #[.pointer (some p)]] w (Ua e [] w))
  (h1: ∀(p:Addr) (b off cap:Nat) (zs:AA) (w:World),zs.length<1099511627776→p.block<w.heap.size→w.cell? p=some (.slice (some ⟨b,off,none⟩) zs.length cap)→b<w.heap.size→
   (∀j,j<zs.length→w.cell? ⟨b,off+j,none⟩=some (.int .i64 (zs[j]?.getD 0)))→Calls P f #[.func (.func g) #[] #[.pointer (some p)]] w (Ua e zs w))
  (zs:AA)(hl:zs.length<1099511627776):
  Good P T f [.clo g [.cptr [.sl e (GR zs)]]] [] (.own e (GR (Dn zs))) []:=by
 refine⟨hfn,fun vs gh w S FL hvs hA hL hL0 hLd hlt=> ?_⟩
 obtain⟨v,hv0,hvW⟩:=hA 0 _ rfl
 have hvs':vs= #[v]:=by
  apply lQ
  intro i
  cases i with
  |zero=>simpa using hv0
  |succ i=>rw [SA (by rw [hvs];simp),SA (by simp)]
 subst hvs'
 have Du: ∀x w',Ua e zs w x w'→(match x,w' with| .returned v,w'=>QX T gh (.own e (GR (Dn zs))) [] w S FL v w'|_,_=>False):=by
  rintro x w' ⟨v,rfl,hrow,_,hb⟩
  have hlen:(zs.mergeSort fun x y=>decide (x≤y)).length=zs.length:=List.length_mergeSort _;have hrow':w'.ownsRow w.heap.size e 1 v (Dn zs).length ((Dn zs).map (Value.int .i64)):=by unfold Dn;rw [hlen];exact hrow
  obtain⟨F,hF,hFb⟩:=xF (T:=T) hsz hlt hrow'
  exact⟨S,F,fun _ _=>False,hF,fun j d hj=>by simp at hj,fun _ _ _ _ h=>h.elim,fun _ _ _ h=>h,sN hb,fun k hk=> .inr (hFb k hk),fun k hk=>gD (hlt k hk) hb.size⟩
 cases hvW with
 |clo us hE hz hx hw=>
  rename_i ws
  have hx0:=hx 0 _ rfl;have hw0:=hw 0 _ rfl
  have hws:ws= #[us 0]:=by
   apply lQ
   intro i
   cases i with
   |zero=>simpa using hx0
   |succ i=>rw [SA (by rw [hz];simp),SA (by simp)]
  subst hws;clear hx hw hx0 hz hv0 hA hvs;generalize us 0=u at hw0 ⊢
  cases hw0 with
  |cptr us hE hx hw=>
   rename_i p
   obtain⟨hpS,hpc⟩:=hx 0 _ rfl;have hw0:=hw 0 _ rfl;have hp0:p.add 0=p:=by simp [Addr.add]
   rw [hp0]at hpc;clear hx hw;generalize us 0=u at hw0 hpc
   cases hw0 with
   |sl us hE hn hc hm hx hw=>
    rename_i A n c
    rw [hsz,Lu,Ci]at hn;subst hn;have hpl:=hlt _ hpS;by_cases hz:zs=[]
    ·subst hz
     exact(h0 p A c w hpl hpc).mono Du
    ·have hpos:0<zs.length:=by cases zs with|nil=>exact absurd rfl hz|cons _ _=>simp
     have hxi: ∀i (hi:i<zs.length),(GR zs)[i]? =some (.int .i64 zs[i]):=fun i hi=>by rw [TY zs i hi,Lp,Fz hi];rfl
     obtain⟨ad,rfl,haS,hac⟩:=hx 0 _ (hxi 0 hpos)
     have hus: ∀i (hi:i<zs.length),us i= .int .i64 zs[i]:=fun i hi=>by
      have h1:=hw i _ (hxi i hi);generalize us i=u at h1
      cases h1 with
      |int h=>rfl
     have hsp:ad.spot=none:=by
      rw [show ad.add 0=ad by simp [Addr.add]]at hac
      unfold World.cell? at hac
      split at hac
      ·split at hac
       ·cases hac
       ·rename_i h;simpa using h
      ·cases hac
     obtain⟨b,off,sp⟩:=ad;simp only at hsp;subst hsp
     refine(h1 p b off c zs w hl hpl hpc (hlt _ haS) (fun j hj=> ?_)).mono Du
     obtain⟨ad',had,_,hcj⟩:=hx j _ (hxi j hj);simp only [Option.some.injEq]at had;subst had;rw [hus j hj]at hcj
     have:(⟨b,off,none⟩:Addr).add j=⟨b,off+j,none⟩:=by
      unfold Addr.add;split
      ·rename_i h;subst h;rfl
      ·rfl
     rw [this]at hcj;rw [hcj,Fz hj];rfl
def Oy(k g e f:Nat)(a l:List D):Option (D×List D):=
 if f=k then
  match a,l with
  | [.clo g' [.cptr [.sl e' xs]]],[]=>if g'=g∧e'=e then(Ox xs).bind fun zs=>if zs.length<1099511627776 then some (.own e (GR (Dn zs)),[])else none else none
  |_,_=>none
 else none
theorem Xy{P:Program}{T:Tys}{k g e:Nat}(hg: ∀zs:AA,zs.length<1099511627776→Good P T k [.clo g [.cptr [.sl e (GR zs)]]] [] (.own e (GR (Dn zs))) []):
  ∀f a l r outs,Oy k g e f a l=some (r,outs)→Good P T f a l r outs:=by
 intro f a l r outs h;unfold Oy at h
 split at h
 ·rename_i hf
  subst hf
  split at h
  ·split at h
   ·rename_i he
    obtain⟨rfl,rfl⟩:=he;simp only [J4]at h;obtain⟨zs,h1,h2⟩:=h
    split at h2
    ·rename_i hl
     simp only [Option.some.injEq,Prod.mk.injEq]at h2;obtain⟨rfl,rfl⟩:=h2;rw [Pk h1];exact hg zs hl
    ·cases h2
   ·cases h
  ·cases h
 ·cases h
theorem bf(k g e:Nat)(zs:AA)(h:zs.length<1099511627776):Oy k g e k [.clo g [.cptr [.sl e (AJ (D.int .i64) zs)]]] []=some (.own e (AJ (D.int .i64) (Dn zs)),[]):=by
 unfold Oy;rw [if_pos rfl];simp only [and_self,if_true];rw [show AJ (D.int .i64) zs=GR zs from rfl,Pj,Bl,if_pos h];rfl
theorem EW{h g:FuncId→List D→List D→Option (D×List D)}{f:FuncId}{a l:List D}{r:D×List D}(e:h f a l=some r):QF h g f a l=some r:=by
 unfold QF;rw [e]
end Dv
namespace Dv
open Go
set_option linter.unusedSimpArgs false
theorem xG{P:Program}{T:Tys}{f:FuncId}{e:TypeId}{z:Array Value}(hfn: ∃fn,P.funcs[f]? =some fn∧fn.body.isSome=true∧(fn.name== "runtime.NumGoroutine")=false)(hsz:T.size e=1)(hz:z.size=1)
  (h0: ∀w:World,Calls P f #[.slice none 0 0,.int .i64 ((0:Nat):Int)] w fun x w'=>x= .returned (.slice none 0 0)∧w'=w)
  (h1: ∀(n:Nat) (w:World),0<n→n<1099511627776→Calls P f #[.slice none 0 0,.int .i64 (n:Int)] w fun x w'=>x= .returned (.slice (some ⟨w.heap.size,0,none⟩) 0 (grownCap w n 0 e))∧
   w'=w.drew.alloc (.cells (#[]++Builtin.zeroCells z n++Builtin.zeroCells z (grownCap w n 0 e-n)) e))
  (n:Nat)(hn:n<1099511627776):Good P T f [.konst (.slice none 0 0),.int .i64 n] [] (.own e []) []:=by
 refine⟨hfn,fun vs gh w S FL hvs hA hL hL0 hLd hlt=> ?_⟩
 obtain⟨v,hv0,hvW⟩:=hA 0 _ rfl;have hc:v= .slice none 0 0:=by cases hvW with|konst=>rfl
 subst hc;obtain⟨v1,hv1,hvW1⟩:=hA 1 _ rfl;have hc1:v1= .int .i64 n:=by cases hvW1 with|int=>rfl
 subst hc1
 have hvs':vs= #[.slice none 0 0,.int .i64 n]:=by
  apply lQ
  intro k
  match k with
  |0=>simpa using hv0
  |1=>simpa using hv1
  |k+2=>rw [SA (by rw [hvs];simp),SA (by simp)]
 subst hvs';by_cases hp:n=0
 ·subst hp
  refine(h0 w).mono fun x w' ⟨e1,e2⟩=> ?_
  subst e1 e2
  exact⟨S,fun _=>False,fun _ _=>False,.own0 ZV,fun j d hj=>by simp at hj,fun _ _ _ _ h=>h.elim,fun _ _ h=>h.elim,⟨rfl,rfl,rfl,Io _,fun _ _ _=>rfl,fun _ h=>h,fun _ h=> .inl h,fun _ _ h=>h.elim⟩,fun k h=>h.elim,hlt⟩
 ·refine(h1 n w (by omega) hn).mono fun x w' ⟨e1,e2⟩=> ?_
  have hG1:=grownCap_ge w n 0 e;have hG2:=grownCap_le_maxLen w n 0 e (by unfold maxLen;omega)
  generalize grownCap w n 0 e=G at e1 e2 hG1 hG2;subst e1
  have hb:w'.heap[w.heap.size]? =some (.cells (#[]++Builtin.zeroCells z n++Builtin.zeroCells z (G-n)) e):=by
   subst e2
   show(w.heap.push _)[w.heap.size]? =_
   rw [Array.getElem?_push,if_pos rfl]
  have hcs:(#[]++Builtin.zeroCells z n++Builtin.zeroCells z (G-n)).size=0+G*T.size e:=by
   rw [Array.size_append,Array.size_append,size_zeroCells,size_zeroCells,hz,hsz]
   simp;omega
  have hold: ∀k,k<w.heap.size→w'.heap[k]? =w.heap[k]? :=by
   intro k hk;subst e2
   show(w.heap.push _)[k]? =_
   rw [Array.getElem?_push,if_neg (by omega)]
  have hsize:w'.heap.size=w.heap.size+1:=by
   subst e2
   show(w.heap.push _).size=_
   rw [Array.size_push]
  refine⟨S,fun k=>k=w.heap.size,fun _ _=>False, ?_,fun j d hj=>by simp at hj,fun _ _ _ _ h=>h.elim,fun _ _ _ h=>h.elim,⟨?_, ?_, ?_,by omega,fun k hk _=>hold k hk,fun _ h=>h,fun _ h=> .inl h,fun _ _ h=>h.elim⟩,fun k h=> .inr (Nat.le_of_eq h.symm),fun k hk=>by have:=hlt k hk;omega⟩
  ·refine .own (fun _=>undef) (fun _ _=>False) hb hcs (by simp) (Tx _) hG2 (fun i x hi=>by simp at hi) (fun k=>⟨.inl,fun h=>h.elim id (fun⟨_,h,_⟩=>by simp at h)⟩) (fun i hi=>by simp at hi) (fun i j k hi=>by simp at hi) (fun hs=>by have:=hlt _ hs;omega) (fun i x hi=>by simp at hi)
  ·subst e2;rfl
  ·subst e2;rfl
  ·subst e2;rfl
theorem sO{P:Program}{T:Tys}{ρ:Go.Shelf.Ren}(hT:Bu P T)(L:Go.Proofs.Lays8.n4 P ρ)(hfn: ∃fn,P.funcs[ρ.f 4]? =some fn∧fn.body.isSome=true∧(fn.name== "runtime.NumGoroutine")=false)
  (hk:T.known (ρ.t 25)=true)(hsz:T.size (ρ.t 25)=1)(n:Nat)(hn:n<1099511627776):Good P T (ρ.f 4) [.konst (.slice none 0 0),.int .i64 n] [] (.own (ρ.t 25) []) []:=by
 obtain⟨i,hi1,hi2,hi3,hi4⟩:=hT.info hk;obtain⟨zs,zl,_⟩:=zeroCells hk;have hb:i.bytes≤128:=hi3 (by omega)
 refine xG (z:=(Gh T (ρ.t 25)).cells) hfn hsz (by rw [zs,zl,hsz]) (fun w=>Go.Proofs.Any8.slices_Grow_room L none 0 0 0 w (Io _) (by omega) (by omega) (Io _)) (fun n w h0 h1=> ?_) n hn
 have hm:(0+n)*i.bytes≤1099511627776*128:=Nat.mul_le_mul (by omega) hb
 have:=Go.Proofs.Any8.slices_Grow_grow L i _ hi1 hi4 (by omega) none 0 0 n [] w (Io _) (by omega) (by omega) (by omega) (by simp) (fun _=>rfl) (fun a h=>by cases h)
 simp only [Mj,Nat.sub_zero]at this;exact this
def Sn(k e f:Nat)(a l:List D):Option (D×List D):=
 if f=k then
  match a,l with
  | [.konst (.slice none 0 0),.int .i64 n],[]=>if 0≤n∧n<1099511627776 then some (.own e [],[])else none
  |_,_=>none
 else none
theorem bg{P:Program}{T:Tys}{k e:Nat}(hg: ∀n:Nat,n<1099511627776→Good P T k [.konst (.slice none 0 0),.int .i64 n] [] (.own e []) []):
  ∀f a l r outs,Sn k e f a l=some (r,outs)→Good P T f a l r outs:=by
 intro f a l r outs h;unfold Sn at h
 split at h
 ·rename_i hf
  subst hf
  split at h
  ·rename_i n
   split at h
   ·rename_i hn
    simp only [Option.some.injEq,Prod.mk.injEq]at h;obtain⟨rfl,rfl⟩:=h;have:=hg n.toNat (by omega)
    rwa [Int.toNat_of_nonneg hn.1]at this
   ·cases h
  ·cases h
 ·cases h
theorem nu(k e:Nat)(n:Int)(h:0≤n∧n<1099511627776):Sn k e k [.konst (.slice none 0 0),.int .i64 n] []=some (.own e [],[]):=by
 unfold Sn;rw [if_pos rfl]
 show(if 0≤n∧n<1099511627776 then some (D.own e [],[])else none)=_
 rw [if_pos h]
end Dv
namespace Dv
open Go Go.Sort Go.Proofs Go.RowKit
set_option linter.unusedSimpArgs false
set_option linter.unusedVariables false
def cmpI(x y:Int):Int:=if x<y then-1 else if y<x then 1 else 0
def cmpL:AA→AA→Int
 | [],[]=>0
 | [],_::_=> -1
 |_::_,[]=>1
 |x::xs,y::ys=>if cmpI x y=0 then cmpL xs ys else cmpI x y
theorem cmpI_eq(x y:Int):cmpI x y=0↔x=y:=by unfold cmpI;split<;>(try split)<;>constructor<;>intro h<;>first|omega|(exfalso;omega)
theorem cmpI_neg(x y:Int):cmpI x y<0↔x<y:=by unfold cmpI;split<;>(try split)<;>constructor<;>intro h<;>omega
theorem A2r(x y:Int):cmpI x y≤0↔x≤y:=by unfold cmpI;split<;>(try split)<;>constructor<;>intro h<;>omega
theorem xH(x y:Int):cmpI y x= -cmpI x y:=by unfold cmpI;(repeat' split)<;>omega
theorem cmpL_self: ∀(a:AA),cmpL a a=0
 | []=>rfl
 |x::xs=>by simp only [cmpL,(cmpI_eq x x).2 rfl,if_true,cmpL_self xs]
theorem cmpL_swap: ∀(a b:AA),cmpL b a= -cmpL a b
 | [],[]=>rfl
 | [],_::_=>rfl
 |_::_,[]=>rfl
 |x::xs,y::ys=>by
  have h:=xH x y;simp only [cmpL];by_cases h0:cmpI x y=0
  ·rw [if_pos h0,if_pos (by omega),cmpL_swap xs ys]
  ·rw [if_neg h0,if_neg (by omega),h]
theorem cmpL_eq: ∀(a b:AA),cmpL a b=0→a=b
 | [],[],_=>rfl
 | [],_::_,h=>by simp [cmpL]at h
 |_::_,[],h=>by simp [cmpL]at h
 |x::xs,y::ys,h=>by
  simp only [cmpL]at h;by_cases h0:cmpI x y=0
  ·rw [if_pos h0]at h;rw [(cmpI_eq x y).1 h0,cmpL_eq xs ys h]
  ·rw [if_neg h0]at h;exact absurd h h0
theorem cmpL_le_trans: ∀(a b c:AA),cmpL a b≤0→cmpL b c≤0→cmpL a c≤0
 | [],_,[],_,_=>by simp [cmpL]
 | [],_,_::_,_,_=>by simp [cmpL]
 |_::_,[],_,h,_=>by simp [cmpL]at h
 |_::_,_::_,[],_,h=>by simp [cmpL]at h
 |x::xs,y::ys,z::zs,h1,h2=>by
  simp only [cmpL]at h1 h2 ⊢;by_cases e1:cmpI x y=0
  ·have:=(cmpI_eq x y).1 e1
   subst this;rw [if_pos e1]at h1;by_cases e2:cmpI x z=0
   ·rw [if_pos e2]at h2 ⊢;exact cmpL_le_trans xs ys zs h1 h2
   ·rw [if_neg e2]at h2 ⊢;exact h2
  ·rw [if_neg e1]at h1;have l1:=(cmpI_neg x y).1 (by omega)
   have l2:y≤z:=by
    by_cases e2:cmpI y z=0
    ·have:=(cmpI_eq y z).1 e2;omega
    ·rw [if_neg e2]at h2;exact(A2r y z).1 h2
   have:cmpI x z<0:=(cmpI_neg x z).2 (by omega)
   rw [if_neg (by omega)];omega
theorem cmpL_lt_trans(a b c:AA)(h1:cmpL a b<0)(h2:cmpL b c<0):cmpL a c<0:=by
 have h:=cmpL_le_trans a b c (by omega) (by omega)
 by_cases h0:cmpL a c=0
 ·have:=cmpL_eq a c h0
  subst this;rw [cmpL_swap a b]at h2;omega
 ·omega
theorem sP(a b:AA):cmpL a b≤0∨cmpL b a≤0:=by rw [cmpL_swap a b];omega
def EX(l:AL):AL:=l.mergeSort fun a b=>decide (cmpL a b≤0)
theorem K6(l:AL):(EX l).length=l.length:=List.length_mergeSort _
theorem Ub(l:AL):(EX l).Perm l:=List.mergeSort_perm _ _
theorem Sq(l:AL):(EX l).Pairwise fun a b=>cmpL a b≤0:=by
 have:=List.pairwise_mergeSort (le:=fun a b=>decide (cmpL a b≤0)) (fun a b c h1 h2=>by simp only [decide_eq_true_eq]at h1 h2 ⊢;exact cmpL_le_trans a b c h1 h2) (fun a b=>by simpa using sP a b) l
 exact this.imp (fun h=>by simpa using h)
theorem iU{l m:AL}(hp:m.Perm l)(hs:m.Pairwise fun a b=>cmpL a b≤0):m=EX l:=
 List.Perm.eq_of_pairwise (le:=fun a b=>cmpL a b≤0) (fun a b _ _ h1 h2=>cmpL_eq a b (by have:=cmpL_swap a b;omega)) hs (Sq l) (hp.trans (Ub l).symm)
theorem ZW{α:Type}[Inhabited α](enc:α→Value)(w:World)(m b off:Nat)(d:Array α)(os:Array Obj){cs:Array Value}{t:TypeId}{fr:Nat×Nat}(hb:w.heap[b]? =some (.cells cs t fr)):
  (sortWorld enc w b off m d os).heap[b]? =some (.cells (putCells enc off d cs) t fr)∧
  (∀k,k<w.heap.size→k≠b→(sortWorld enc w b off m d os).heap[k]? =w.heap[k]?)∧
  w.heap.size≤(sortWorld enc w b off m d os).heap.size:=by
 have hlt:=(Ut.1 hb).1;unfold sortWorld Go.Sort.grow Go.Sort.putRow Go.Sort.mapBlock Go.Sort.ahead
 refine⟨?_,fun k hk hne=> ?_, ?_⟩
 ·simp only;rw [vN (by simpa using hlt),bF,if_pos rfl,hb];rfl
 ·simp only;rw [vN (by simpa using hk),bF,if_neg (Ne.symm hne)]
 ·simp
theorem sQ{n:Nat}[Inhabited (Fin n)](xss:AL)(hn:xss.length=n)(d':Array (Fin n))(hp:PermIn 0 n (Array.ofFn (n:=n) id) d')(hs:SortedIn (ltOf fun(i j:Fin n)=>cmpL (xss.getD i []) (xss.getD j [])) 0 n d'):
  d'.size=n∧d'.toList.Perm (List.ofFn (n:=n) id)∧d'.toList.map (fun i:Fin n=>xss.getD i [])=EX xss:=by
 obtain⟨h1,_,h3⟩:=hp;have hsz:d'.size=n:=by simpa using h1
 have hpm:d'.toList.Perm (List.ofFn (n:=n) id):=by
  have e1:(d'.extract 0 n).toList=d'.toList:=by simp [←hsz]
  have e2:((Array.ofFn (n:=n) id).extract 0 n).toList=List.ofFn (n:=n) id:=by
   simp only [Array.toList_extract,Array.toList_ofFn,List.extract_eq_take_drop,Nat.sub_zero,UT];exact List.take_of_length_le (by simp)
  rw [e1,e2]at h3;exact h3
 refine⟨hsz,hpm,iU ?_ ?_⟩
 ·have:=hpm.map (fun i:Fin n=>xss.getD i [])
  refine this.trans (List.Perm.of_eq ?_);apply List.ext_getElem
  ·simp [hn]
  ·intro i h1 h2;simp [h2]
 ·rw [WK];intro i j hi hj hij;simp only [R4,Array.length_toList]at hi hj;have:=hs i j (Tx _) hij (by omega)
  simp only [ltOf,decide_eq_false_iff_not,Int.not_lt]at this;rw [getElem!_pos d' i hi,getElem!_pos d' j hj,cmpL_swap]at this;simp only [List.getElem_map,vP];omega
theorem sU{P:Program}{T:Tys}{f g:FuncId}{e e':TypeId}(hfn: ∃fn,P.funcs[f]? =some fn∧fn.body.isSome=true∧(fn.name== "runtime.NumGoroutine")=false)(hsz:T.size e=1)(hsz':T.size e'=1)
  (eg: ∀args w,(callFunc g args).run P w= .ok (.enter g args) w)
  (hcm: ∀(A1 A2:Option Addr) (c1 c2:Nat) (xs ys:AA) (w:World),xs.length≤9223372036854775807→ys.length≤9223372036854775807→
   (∀k,k<xs.length→ ∃b o,A1=some ⟨b,o,none⟩∧w.cell? ⟨b,o+k,none⟩=some (.int .i64 xs[k]!))→
   (∀k,k<ys.length→ ∃b o,A2=some ⟨b,o,none⟩∧w.cell? ⟨b,o+k,none⟩=some (.int .i64 ys[k]!))→
   Calls P g #[.slice A1 xs.length c1,.slice A2 ys.length c2] w fun x w'=>x= .returned (.int .i64 (cmpL xs ys))∧w'=w)
  (hs: ∀(n:Nat) [Inhabited (Fin n)] (enc:Fin n→Value) (cf:Fin n→Fin n→Int) (blk off cap:Nat) (w:World),(∀x,(enc x).oneCell'=true)→SWO (ltOf cf)→CmpLays1 P g #[] enc cf blk off n w→Holds enc w blk off (Array.ofFn (n:=n) id)→blk<w.heap.size→n<4611686018427387904→
   Calls P f #[.slice (some ⟨blk,off,none⟩) n cap,.func (.func g) #[] #[]] w fun x w'=>x= .returned (.tuple #[])∧ ∃d' m os,PermIn 0 n (Array.ofFn (n:=n) id) d'∧SortedIn (ltOf cf) 0 n d'∧w'=sortWorld enc w blk off m d' os)
  (hn: ∀(p:Option Addr) (cap:Nat) (fv:Value) (w:World),Calls P f #[.slice p 0 cap,fv] w fun x w'=>x= .returned (.tuple #[])∧w'=w)
  (xss:AL)(hl:xss.length<4611686018427387904)(hl2: ∀x∈xss,x.length≤9223372036854775807):
  Good P T f [.vw [100000] 0 0,.clo g []] [.own e (AJ (fun x=> .own e' (AJ (D.int .i64) x)) xss)] (.tup []) [.own e (AJ (fun x=> .own e' (AJ (D.int .i64) x)) (EX xss))]:=by
 refine⟨hfn,fun vs gh w S FL hvs hA hL hL0 hLd hlt=> ?_⟩
 obtain⟨v,hv0,hvW⟩:=hA 0 _ rfl
 have hv:v=gh 0:=by
  cases hvW with
  |vw hE hv=>
   obtain⟨j,h1,_,_,h2⟩:=hv;simp only [G,List.cons.injEq,and_true]at h1;have:j=0:=by omega
   subst this;exact h2
 subst hv;obtain⟨v1,hv1,hvW1⟩:=hA 1 _ rfl
 have hvc:v1= .func (.func g) #[] #[]:=by
  cases hvW1 with
  |clo us hE hz hx hw=>
   rename_i vs'
   have:vs'= #[]:=Array.eq_empty_of_size_eq_zero (by simpa using hz)
   rw [this]
 subst hvc
 have hvs':vs= #[gh 0,.func (.func g) #[] #[]]:=by
  apply lQ
  intro i
  match i with
  |0=>simpa using hv0
  |1=>simpa using hv1
  |i+2=>rw [SA (by rw [hvs];simp),SA (by simp)]
 subst hvs';have hW:=hL 0 _ rfl
 have tupW: ∀(w':World),W T S w' V0 Jc (.tup []) (.tuple #[]) (fun _=>False):=fun w'=>
  .tup (fun _=>undef) (fun _ _=>False) rfl (by simp) (by simp) (by simp) (by simp)
 have noth: ∀(p:Option Addr) (cap:Nat),xss=[]→gh 0= .slice p 0 cap→
   Calls P f #[gh 0,.func (.func g) #[] #[]] w fun| .returned v,w'=>QX T gh (.tup []) [.own e (AJ (fun x=> .own e' (AJ (D.int .i64) x)) (EX xss))] w S FL v w'|_,_=>False:=by
  intro p cap hz hg;rw [hg]
  refine(hn p cap _ w).mono fun x w' ⟨h1,h2⟩=> ?_
  subst h1 h2
  refine⟨S,fun _=>False,FL,tupW _,fun j d hj=> ?_,hLd,fun _ _ h=>h.elim,Step.refl _ _ _,fun _ h=>h.elim,hlt⟩
  cases j with
  |zero=>
   simp only [QK,Option.some.injEq]at hj;subst hj;subst hz;simp only [EX,List.mergeSort_nil];exact hW
  |succ j=>simp at hj
 by_cases hz:xss=[]
 ·have: ∃p cap,gh 0= .slice p 0 cap:=by
   subst hz;generalize hxs:AJ (fun x=>D.own e' (AJ (D.int .i64) x)) []=xs at hW;generalize gh 0=g0 at hW
   cases hW with
   |own0=>exact⟨_,_,rfl⟩
   |own us Fi hb hcz hn'=>
    rename_i n c cs
    have:xs=[]:=hxs.symm
    rw [this,hsz]at hn';simp at hn'
    exact⟨_,_,by rw [←hn']⟩
  obtain⟨p,cap,hg⟩:=this;exact noth p cap hz hg
 ·have hpos:0<xss.length:=by cases xss with|nil=>exact absurd rfl hz|cons _ _=>simp
  generalize hxs:AJ (fun x=>D.own e' (AJ (D.int .i64) x)) xss=xs at hW;generalize hg0:gh 0=g0 at hW;have hxl:xs.length=xss.length:=by rw [←hxs,CP]
  cases hW with
  |own0=>simp at hxl;omega
  |own us Fi hb hcz hn' hnc hcm' hx hF hFb hd hS hw=>
   rename_i b off n c cs
   rw [hsz,Lu]at hn' hcz;have hnz:n=xss.length:=by omega
   subst hnz
   have hxi: ∀i (hi:i<xss.length),xs[i]? =some (.own e' (AJ (D.int .i64) (xss.getD i []))):=fun i hi=>by
    rw [←hxs];unfold AJ;rw [OJ,Fz hi,Lp,Fz hi];rfl
   have hW1: ∀i (hi:i<xss.length),W T S w V0 Jc (.own e' (AJ (D.int .i64) (xss.getD i []))) (us i) (Fi i):=fun i hi=>hw i _ (hxi i hi);have hFh: ∀i (hi:i<xss.length) k,Fi i k→k≠b∧k<w.heap.size:=fun i hi k hk=>⟨fun he=>hFb i (by omega) (he▸hk),(hW1 i hi).lt k hk⟩
   have hus: ∀i (hi:i<xss.length),∃A c,us i= .slice A (xss.getD i []).length c∧ ∀k,k<(xss.getD i []).length→ ∃bb o,A=some ⟨bb,o,none⟩∧(bb≠b∧bb<w.heap.size)∧w.cell? ⟨bb,o+k,none⟩=some (.int .i64 (xss.getD i [])[k]!):=fun i hi=>by
    have h1:=hW1 i hi;have hfb:=hFh i hi;generalize xss.getD i []=a at h1 ⊢;generalize us i=u at h1 ⊢;generalize Fi i=FF at h1 hfb;generalize hqd:AJ (D.int .i64) a=dd at h1;have hal:dd.length=a.length:=by rw [←hqd,CP]
    cases h1 with
    |own0 hE=>
     have:a=[]:=qC (by rw [←hal];rfl)
     subst this
     exact⟨_,_,rfl,fun k hk=>by simp at hk⟩
    |own us' Fi' hb' hcz' hln hc hm hx2 hF' hFb' hd' hS' hw2=>
     rename_i bb off2 n2 c2 cs2
     rw [hsz',Lu]at hln;have hbb:=hfb bb ((hF' bb).2 (.inl rfl))
     refine⟨some ⟨bb,off2,none⟩,c2,by rw [←hln,hal],fun k hk=>⟨bb,off2,rfl,hbb, ?_⟩⟩
     have hki:dd[k]? =some (.int .i64 a[k]!):=by rw [←hqd];unfold AJ;simp [hk]
     have e3:=hx2 k _ hki;have hv:=hw2 k _ hki;generalize us' k=uk at hv e3
     cases hv with
     |int=>
      have:=E8 (o:=off2) (i:=k) hb'
      rw [Addr.add_lit]at this;rw [this,e3]
   have hlt2:=(Ut.1 hb).1;have hone: ∀i (hi:i<xss.length),(us i).oneCell'=true:=fun i hi=>by obtain⟨A,c,h1,_⟩:=hus i hi;rw [h1];rfl
   haveI:Inhabited (Fin xss.length):=⟨⟨0,hpos⟩⟩
   have hH:Holds (fun i:Fin xss.length=>us i) w b off (Array.ofFn (n:=xss.length) id):=by
    intro j hj;simp only [Array.size_ofFn]at hj
    refine⟨?_, ?_⟩
    ·have:=E8 (o:=off) (i:=j) hb
     rw [OM]at this;rw [this,hx j _ (hxi j hj)];rw [getElem!_pos _ j (by simpa using hj)]
     simp
    ·simp [World.frozen?,hb]
   have hO:SWO (ltOf fun(i j:Fin xss.length)=>cmpL (xss.getD i []) (xss.getD j [])):=by
    refine⟨fun x=> ?_,fun x y z h1 h2=> ?_,fun x y z h1 h2=> ?_⟩
    ·simp [ltOf,cmpL_self]
    ·simp only [ltOf,decide_eq_true_eq]at h1 h2 ⊢;exact cmpL_lt_trans _ _ _ h1 h2
    ·simp only [ltOf,decide_eq_false_iff_not,Int.not_lt]at h1 h2 ⊢;rw [cmpL_swap]at h1 h2 ⊢;have:=cmpL_le_trans _ _ _ (show cmpL (xss.getD z []) (xss.getD y [])≤0 by omega) (show cmpL (xss.getD y []) (xss.getD x [])≤0 by omega)
     omega
   have hCmp:CmpLays1 P g #[] (fun i:Fin xss.length=>us i) (fun(i j:Fin xss.length)=>cmpL (xss.getD i []) (xss.getD j [])) b off xss.length w:=by
    intro m os dk _ x y;obtain⟨A1,c1,e1,k1⟩:=hus x x.2;obtain⟨A2,c2,e2,k2⟩:=hus y y.2;have hmem: ∀i:Fin xss.length,(xss.getD i []).length≤9223372036854775807:=fun i=>hl2 _ (by rw [Lp,Fz i.2];exact FT _)
    have hcell: ∀(bb oo:Nat) (u:Value),(bb≠b∧bb<w.heap.size)→w.cell? ⟨bb,oo,none⟩=some u→(sortWorld (fun i:Fin xss.length=>us i) w b off m dk os).cell? ⟨bb,oo,none⟩=some u:=fun bb oo u hSb hc=>by
     have hk:=(ZW (fun i:Fin xss.length=>us i) w m b off dk os hb).2.1 bb hSb.2 hSb.1;rw [←hc];exact World.cell?_of_block hk
    have:=hcm A1 A2 c1 c2 (xss.getD x []) (xss.getD y []) (sortWorld (fun i:Fin xss.length=>us i) w b off m dk os) (hmem x) (hmem y)
     (fun k hk=>by obtain⟨bb,oo,h1,h2,h3⟩:=k1 k hk;exact⟨bb,oo,h1,hcell _ _ _ h2 h3⟩)
     (fun k hk=>by obtain⟨bb,oo,h1,h2,h3⟩:=k2 k hk;exact⟨bb,oo,h1,hcell _ _ _ h2 h3⟩)
    simp only [e1,e2];refine Calls.mono this ?_;intro ex w' ⟨h1,h2⟩
    exact⟨h1,0, #[],by rw [h2,grow_empty];rfl⟩
   refine(hs xss.length (fun i=>us i) (fun i j=>cmpL (xss.getD i []) (xss.getD j [])) b off c w (fun i=>hone i i.2) hO hCmp hH hlt2 hl).mono fun x w' ⟨h1,d',m,os,hp,hso,h2⟩=> ?_
   obtain⟨hds,hpm,hdl⟩:=sQ xss rfl d' hp hso;subst h1 h2;obtain⟨k1,k2,k3⟩:=ZW (fun i:Fin xss.length=>us i) w m b off d' os hb;have hbF:FL 0 b:=(hF b).2 (.inl rfl)
   refine⟨S,fun _=>False,FL,tupW _,fun j d hj=> ?_,hLd,fun _ _ h=>h.elim,⟨rfl,rfl,rfl,k3,fun k hk hno=>k2 k hk (fun he=>hno 0 (he▸hbF)),fun _ h=>h,fun _ h=> .inl h,fun u k h=> .inl ⟨u,h⟩⟩,fun _ h=>h.elim,fun k hk=>gD (hlt k hk) k3⟩
   cases j with
   |zero=>
    simp only [QK,Option.some.injEq]at hj;subst hj;rw [hg0];have hlm:(EX xss).length=xss.length:=K6 _
    have hat: ∀i (hi:i<xss.length),(EX xss)[i]'(by omega)=xss.getD (d'[i]'(by omega)) []:=fun i hi=>by
     have:(EX xss)[i]? =some (xss.getD (d'[i]'(by omega)) []):=by
      rw [←hdl,OJ,bE,Lj (by omega)];rfl
     rw [Fz (by omega)]at this
     injection this
    have hdi: ∀i (hi:i<xss.length),d'.getD i ⟨0,hpos⟩=d'[i]'(by omega):=fun i hi=>by rw [R3,Lj (by omega)];rfl
    have hnd:d'.toList.Nodup:=hpm.nodup_iff.2 (by
     rw [List.nodup_iff_pairwise_ne,WK];intro i j hi hj hij he;simp at he
     omega)
    have hne: ∀i j (hi:i<xss.length) (hj:j<xss.length),i≠j→(d'[i]'(by omega)).1≠(d'[j]'(by omega)).1:=fun i j hi hj hij he=>by
     have he':=Fin.ext he;have hpw:=WK.1 (List.nodup_iff_pairwise_ne.1 hnd);rcases Nat.lt_or_gt_of_ne hij with h|h
     ·exact hpw i j (by simp;omega) (by simp;omega) h (by rw [vP,vP];exact he')
     ·exact hpw j i (by simp;omega) (by simp;omega) h (by rw [vP,vP];exact he'.symm)
    have hsur: ∀j,j<xss.length→ ∃i,∃hi:i<xss.length,(d'[i]'(by omega)).1=j:=fun j hj=>by
     have hm:(⟨j,hj⟩:Fin xss.length)∈d'.toList:=hpm.mem_iff.2 (by simp)
     obtain⟨i,hi,he⟩:=UO hm
     refine⟨i,by simpa [hds] using hi, ?_⟩
     rw [←vP,he]
    refine .own (fun i=>us (d'.getD i ⟨0,hpos⟩)) (fun i=>Fi (d'.getD i ⟨0,hpos⟩)) k1 (by rw [hsz,Lu];simpa [putCells] using hcz) (by rw [hsz,Lu,CP,hlm]) hnc hcm' (fun i y hi=> ?_) (fun k=> ?_) (fun i hi=> ?_) (fun i j k hi hj hij=> ?_) hS (fun i y hi=> ?_)
    ·have hil:=(Er.1 hi).1;rw [CP,hlm]at hil;unfold putCells;have hic:off+i<cs.size:=by omega
     rw [Array.getElem?_mapIdx,Lj hic,QC];rw [if_pos (by omega)]
     simp only [yQ,Option.some.injEq];rw [getElem!_pos d' i (by omega),hdi i hil]
    ·rw [hF k]
     constructor
     ·rintro(h|⟨j,hj,h⟩)
      ·exact .inl h
      ·obtain⟨i,hi,he⟩:=hsur j (by omega)
       exact .inr ⟨i,by rw [CP,hlm];exact hi,by rw [hdi i hi,he];exact h⟩
     ·rintro(h|⟨i,hi,h⟩)
      ·exact .inl h
      ·rw [CP,hlm]at hi;rw [hdi i hi]at h;exact .inr ⟨_,by rw [hxl];exact(d'[i]'(by omega)).2,h⟩
    ·rw [CP,hlm]at hi;rw [hdi i hi];exact hFb _ (by rw [hxl];exact(d'[i]'(by omega)).2)
    ·rw [CP,hlm]at hi hj;rw [hdi i hi,hdi j hj];exact hd _ _ k (by rw [hxl];exact(d'[i]'(by omega)).2) (by rw [hxl];exact(d'[j]'(by omega)).2) (hne i j hi hj hij)
    ·have hil:=(Er.1 hi).1;rw [CP,hlm]at hil
     have hy:y= .own e' (AJ (D.int .i64) (xss.getD (d'[i]'(by omega)) [])):=by
      unfold AJ at hi;rw [OJ,Fz (by omega),QC]at hi
      injection hi with hi
      rw [←hi,hat i hil];rfl
     rw [hy,hdi i hil];have hx2:=(d'[i]'(by omega)).2
     exact(hW1 _ hx2).mono (fun k hk=>⟨hk,k2 k (hlt k hk) (fun he=>hS (he▸hk))⟩) _ _ (fun _ _ _ _ h=>h) (fun _ _ _ _ _ h=>h) (fun k hf=>⟨(hW1 _ hx2).notS k hf,k2 k (hFh _ hx2 k hf).2 (hFh _ hx2 k hf).1⟩)
   |succ j=>simp at hj
def Pn(e':TypeId):List D→Option AL
 | []=>some []
 | .own e1 xs::ds=>if e1=e' then(Ox xs).bind fun zs=>(Pn e' ds).map (zs:: ·)else none
 |_=>none
theorem Xf(e':TypeId): ∀(xss:AL),Pn e' (AJ (fun x=> .own e' (AJ (D.int .i64) x)) xss)=some xss:=by
 intro xss
 induction xss with
 |nil=>rfl
 |cons x xss ih=>
  show(if e'=e' then(Ox (AJ (D.int .i64) x)).bind fun zs=>(Pn e' (AJ (fun x=> .own e' (AJ (D.int .i64) x)) xss)).map (zs:: ·)else none)=_
  rw [if_pos rfl,show AJ (D.int .i64) x=GR x from rfl,Pj,ih];rfl
theorem VS(e':TypeId): ∀ {xs:List D} {xss:AL},Pn e' xs=some xss→xs=AJ (fun x=> .own e' (AJ (D.int .i64) x)) xss:=by
 intro xs
 induction xs with
 |nil=>intro xss h;simp only [Pn,Option.some.injEq]at h;subst h;rfl
 |cons d xs ih=>
  intro xss h;unfold Pn at h
  split at h
  ·rename_i heq;cases heq
  ·rename_i e1 ys ds heq
   simp only [List.cons.injEq]at heq;obtain⟨rfl,rfl⟩:=heq
   split at h
   ·rename_i he
    subst he;simp only [J4,Cw]at h;obtain⟨zs,h1,rest,h2,rfl⟩:=h;rw [ih h2,Pk h1];rfl
   ·cases h
  ·cases h
def Qd(k g e e' f:Nat)(a l:List D):Option (D×List D):=
 if f=k then
  match a,l with
  | [.vw [100000] 0 0,.clo g1 []],[.own e1 xs]=>
   if e1=e∧g1=g then(Pn e' xs).bind fun xss=>if xss.length<4611686018427387904∧ ∀x∈xss,x.length≤9223372036854775807 then some (.tup [],[.own e (AJ (fun x=> .own e' (AJ (D.int .i64) x)) (EX xss))])else none else none
  |_,_=>none
 else none
theorem ZX{P:Program}{T:Tys}{k g e e':Nat}(hg: ∀xss:AL,xss.length<4611686018427387904→(∀x∈xss,x.length≤9223372036854775807)→Good P T k [.vw [100000] 0 0,.clo g []] [.own e (AJ (fun x=> .own e' (AJ (D.int .i64) x)) xss)] (.tup []) [.own e (AJ (fun x=> .own e' (AJ (D.int .i64) x)) (EX xss))]):
  ∀f a l r outs,Qd k g e e' f a l=some (r,outs)→Good P T f a l r outs:=by
 intro f a l r outs h;unfold Qd at h
 split at h
 ·rename_i hf
  subst hf
  split at h
  ·split at h
   ·rename_i he
    obtain⟨rfl,rfl⟩:=he;simp only [J4]at h;obtain⟨xss,h1,h2⟩:=h
    split at h2
    ·rename_i hl
     simp only [Option.some.injEq,Prod.mk.injEq]at h2;obtain⟨rfl,rfl⟩:=h2;rw [VS e' h1];exact hg xss hl.1 hl.2
    ·cases h2
   ·cases h
  ·cases h
 ·cases h
theorem iV(k g e e':Nat)(xss:AL)(h:xss.length<4611686018427387904)(h2: ∀x∈xss,x.length≤9223372036854775807):
  Qd k g e e' k [.vw [100000] 0 0,.clo g []] [.own e (AJ (fun x=> .own e' (AJ (D.int .i64) x)) xss)]=some (.tup [],[.own e (AJ (fun x=> .own e' (AJ (D.int .i64) x)) (EX xss))]):=by
 unfold Qd;rw [if_pos rfl];simp only [and_self,if_true];rw [Xf,Bl,if_pos ⟨h,h2⟩]
end Dv
namespace Dv
open Go
set_option linter.unusedSimpArgs false
theorem A0A(w:World)(m b off:Nat)(d:Array Int){cs:Array Value}{t:TypeId}{fr:Nat×Nat}(hb:w.heap[b]? =some (.cells cs t fr)):
  (Go.Sort.putRow (Value.int .i64) (Go.Sort.ahead w m) b off d).heap[b]? =some (.cells (Go.Sort.putCells (Value.int .i64) off d cs) t fr)∧
  (∀k,k≠b→(Go.Sort.putRow (Value.int .i64) (Go.Sort.ahead w m) b off d).heap[k]? =w.heap[k]?)∧
  (Go.Sort.putRow (Value.int .i64) (Go.Sort.ahead w m) b off d).heap.size=w.heap.size:=by
 unfold Go.Sort.putRow Go.Sort.mapBlock Go.Sort.ahead
 refine⟨?_,fun k hne=> ?_, ?_⟩
 ·simp only;rw [bF,if_pos rfl,hb];rfl
 ·simp only;rw [bF,if_neg (Ne.symm hne)]
 ·simp
def U0(zs:AA)(i j:Nat):AA:=zs.take i++zs.drop j
theorem ny{P:Program}{T:Tys}{f:FuncId}{e:TypeId}(hfn: ∃fn,P.funcs[f]? =some fn∧fn.body.isSome=true∧(fn.name== "runtime.NumGoroutine")=false)(hsz:T.size e=1)
  (hs: ∀(blk off cap:Nat) (zs:AA) (i j:Nat) (w:World),Go.Sort.Holds (Value.int .i64) w blk off zs.toArray→zs.length≤cap→cap≤9223372036854775807→i≤j→j≤zs.length→
   Calls P f #[.slice (some ⟨blk,off,none⟩) zs.length cap,.int .i64 i,.int .i64 j] w fun x w'=>x= .returned (.slice (some ⟨blk,off,none⟩) (zs.length-(j-i)) cap)∧ ∃q,w'=Go.Sort.putRow (Value.int .i64) (Go.Sort.ahead w q) blk off (zs.take i++zs.drop j++List.replicate (j-i) 0).toArray)
  (zs:AA)(i j:Nat)(hpos:0<zs.length)(hij:i≤j)(hj:j≤zs.length):
  Good P T f [.vw [100000] 0 0,.int .i64 i,.int .i64 j] [.own e (GR zs)] (.own e (GR (U0 zs i j))) [.undef]:=by
 refine⟨hfn,fun vs gh w S FL hvs hA hL hL0 hLd hlt=> ?_⟩
 obtain⟨v,hv0,hvW⟩:=hA 0 _ rfl
 have hv:v=gh 0:=by
  cases hvW with
  |vw hE hv=>
   obtain⟨j,h1,_,_,h2⟩:=hv;simp only [G,List.cons.injEq,and_true]at h1;have:j=0:=by omega
   subst this;exact h2
 subst hv;obtain⟨v1,hv1,hvW1⟩:=hA 1 _ rfl;have hc1:v1= .int .i64 i:=by cases hvW1 with|int=>rfl
 subst hc1;obtain⟨v2,hv2,hvW2⟩:=hA 2 _ rfl;have hc2:v2= .int .i64 j:=by cases hvW2 with|int=>rfl
 subst hc2
 have hvs':vs= #[gh 0,.int .i64 i,.int .i64 j]:=by
  apply lQ
  intro k
  match k with
  |0=>simpa using hv0
  |1=>simpa using hv1
  |2=>simpa using hv2
  |k+3=>rw [SA (by rw [hvs];simp),SA (by simp)]
 subst hvs';have hW:=hL 0 _ rfl;generalize hxs:GR zs=xs at hW;generalize hg0:gh 0=g0 at hW;have hxl:xs.length=zs.length:=by rw [←hxs,Ci]
 cases hW with
 |own0=>simp at hxl;omega
 |own us Fi hb hcz hn' hnc hcm hx hF hFb hd hS hw=>
  rename_i b off n c cs
  rw [hsz,Lu]at hn' hcz;have hnz:n=zs.length:=by omega
  subst hnz;have hxi: ∀i (hi:i<zs.length),xs[i]? =some (.int .i64 zs[i]):=fun i hi=>by rw [←hxs,TY zs i hi,Lp,Fz hi];rfl
  have hus: ∀i (hi:i<zs.length),us i= .int .i64 zs[i]∧Em (Fi i):=fun i hi=>by
   have h1:=hw i _ (hxi i hi);generalize us i=u at h1
   cases h1 with
   |int h=>exact⟨rfl,h⟩
  have hlt2:=(Ut.1 hb).1
  have hH:Go.Sort.Holds (Value.int .i64) w b off zs.toArray:=by
   intro j hj;simp only [List.size_toArray]at hj
   refine⟨?_, ?_⟩
   ·have:=E8 (o:=off) (i:=j) hb
    rw [OM]at this;rw [this,hx j _ (hxi j hj),(hus j hj).1];simp [hj]
   ·simp [World.frozen?,hb]
  have hcl:(U0 zs i j).length=zs.length-(j-i):=by simp only [U0,KU,KV,gF];omega
  refine(hs b off c zs i j w hH hnc (by have:=hcm;unfold maxLen at this;omega) hij hj).mono fun x w' ⟨h1,m,h2⟩=> ?_
  subst h1 h2;obtain⟨k1,k2,k3⟩:=A0A w m b off (zs.take i++zs.drop j++List.replicate (j-i) 0).toArray hb;have hbF:FL 0 b:=(hF b).2 (.inl rfl)
  refine⟨S,fun k=>k=b,fun _ _=>False, ?_,fun j' d hj'=> ?_,fun _ _ _ _ h=>h.elim,fun _ _ _ h=>h.elim,⟨rfl,rfl,rfl,Nat.le_of_eq k3.symm,fun k hk hno=>k2 k (fun he=>hno 0 (he▸hbF)),fun _ h=>h,fun _ h=> .inl h,fun u k h=>h.elim⟩,fun k hk=> .inl ⟨0,hk▸hbF⟩,fun k hk=>by rw [k3];exact hlt k hk⟩
  ·have hin: ∀p y,(GR (U0 zs i j))[p]? =some y→p<(U0 zs i j).length∧y= .int .i64 ((U0 zs i j).getD p 0):=fun p y hp=>by
    have hpl:=(Er.1 hp).1;rw [Ci]at hpl;rw [TY _ p hpl]at hp
    injection hp with hp
    exact⟨hpl,hp.symm⟩
   refine .own (fun p=> .int .i64 ((U0 zs i j).getD p 0)) (fun _ _=>False) k1 (by rw [hsz,Lu];simpa [Go.Sort.putCells] using hcz) (by rw [hsz,Lu,Ci,hcl]) (by omega) hcm (fun p y hp=> ?_) (fun k=>⟨.inl,fun h=>h.elim id fun⟨_,_,h⟩=>h.elim⟩) (fun _ _ h=>h) (fun _ _ _ _ _ _ h=>h.elim) hS (fun p y hp=> ?_)
   ·obtain⟨hpl,rfl⟩:=hin p y hp;unfold Go.Sort.putCells;have hic:off+p<cs.size:=by omega
    rw [Array.getElem?_mapIdx,Lj hic,QC,if_pos (by simp;omega)]
    simp only [yQ,Option.some.injEq,Value.int.injEq,true_and];have e1:(zs.take i++zs.drop j++List.replicate (j-i) 0)[p]? =(U0 zs i j)[p]? :=QJ hpl;rw [Fz hpl]at e1;rw [Lp,Fz hpl,YT];simp only [List.getElem!_toArray,List.getElem!_eq_getElem?_getD];rw [e1];rfl
   ·obtain⟨hpl,rfl⟩:=hin p y hp;exact .int (fun _ h=>h)
  ·cases j' with
   |zero=>
    simp only [QK,Option.some.injEq]at hj';subst hj';exact .undef (fun _ h=>h)
   |succ j'=>simp at hj'
def VT(k e f:Nat)(a l:List D):Option (D×List D):=
 if f=k then
  match a,l with
  | [.vw [100000] 0 0,.int .i64 i,.int .i64 j],[.own e' xs]=>if e'=e then(Ox xs).bind fun zs=>if 0<zs.length∧0≤i∧i≤j∧j≤(zs.length:Int)then some (.own e (GR (U0 zs i.toNat j.toNat)),[.undef])else none else none
  |_,_=>none
 else none
theorem iW{P:Program}{T:Tys}{k e:Nat}(hg: ∀(zs:AA) (i j:Nat),0<zs.length→i≤j→j≤zs.length→Good P T k [.vw [100000] 0 0,.int .i64 i,.int .i64 j] [.own e (GR zs)] (.own e (GR (U0 zs i j))) [.undef]):
  ∀f a l r outs,VT k e f a l=some (r,outs)→Good P T f a l r outs:=by
 intro f a l r outs h;unfold VT at h
 split at h
 ·rename_i hf
  subst hf
  split at h
  ·rename_i i j e' xs
   split at h
   ·rename_i he
    subst he;simp only [J4]at h;obtain⟨zs,h1,h2⟩:=h
    split at h2
    ·rename_i hl
     simp only [Option.some.injEq,Prod.mk.injEq]at h2;obtain⟨rfl,rfl⟩:=h2;rw [Pk h1];have:=hg zs i.toNat j.toNat hl.1 (by omega) (by omega)
     rwa [Int.toNat_of_nonneg hl.2.1,Int.toNat_of_nonneg (by omega)]at this
    ·cases h2
   ·cases h
  ·cases h
 ·cases h
theorem sV(k e:Nat)(zs:AA)(i j:Int)(h:0<zs.length∧0≤i∧i≤j∧j≤(zs.length:Int)):VT k e k [.vw [100000] 0 0,.int .i64 i,.int .i64 j] [.own e (AJ (D.int .i64) zs)]=some (.own e (AJ (D.int .i64) (U0 zs i.toNat j.toNat)),[.undef]):=by
 unfold VT;rw [if_pos rfl];simp only [if_true];rw [show AJ (D.int .i64) zs=GR zs from rfl,Pj,Bl,if_pos h];rfl
end Dv
namespace Dv
open Go Go.Sort Go.Proofs Go.RowKit
set_option linter.unusedSimpArgs false
set_option linter.unusedVariables false
def kpL(xss:AL)(j:Nat):Bool:=decide (j=0)|| !decide (xss.getD j []=xss.getD (j-1) [])
def keptL(kp:Nat→Bool)(m:Nat):List Nat:=(List.range m).filter kp
def dedL(xss:AL):AL:=(keptL (kpL xss) xss.length).map fun i=>xss.getD i []
theorem A0B(kp:Nat→Bool)(m:Nat)(k:Nat)(hk:k<(keptL kp m).length):(keptL kp m)[k]<m:=Lt.1 (QD.1 (FT hk)).1
theorem nz(kp:Nat→Bool)(m:Nat):(keptL kp m).Nodup:=List.nodup_range.filter _
theorem keptL_le(kp:Nat→Bool)(m:Nat):(keptL kp m).length≤m:=by have:=qF kp (List.range m);simpa [keptL] using this
theorem A0C(xss:AL):(dedL xss).length=(keptL (kpL xss) xss.length).length:=by simp [dedL]
theorem eX{α:Type}(enc:α→Value)(w:World)(m b off:Nat)(d:Array α){cs:Array Value}{t:TypeId}{fr:Nat×Nat}[Inhabited α](hb:w.heap[b]? =some (.cells cs t fr)):
  (putRow enc (ahead w m) b off d).heap[b]? =some (.cells (putCells enc off d cs) t fr)∧
  (∀k,k≠b→(putRow enc (ahead w m) b off d).heap[k]? =w.heap[k]?)∧
  (putRow enc (ahead w m) b off d).heap.size=w.heap.size:=by
 unfold Go.Sort.putRow Go.Sort.mapBlock Go.Sort.ahead
 refine⟨?_,fun k hne=> ?_, ?_⟩
 ·simp only;rw [bF,if_pos rfl,hb];rfl
 ·simp only;rw [bF,if_neg (Ne.symm hne)]
 ·simp
theorem keptL_succ(kp:Nat→Bool)(m:Nat):keptL kp (m+1)=keptL kp m++(if kp m=true then [m]else []):=by
 unfold keptL;rw [YU,lM]
 congr 1
 by_cases h:kp m=true<;>simp [h]
theorem keptL_all{kp:Nat→Bool}{m:Nat}(h: ∀j,j<m→kp j=true):keptL kp m=List.range m:=List.filter_eq_self.2 fun j hj=>h j (Lt.1 hj)
structure Cinv(kp:Nat→Bool)(n m k:Nat)(dk:Array Nat):Prop where
 size:dk.size=n
 len:(keptL kp m).length=k
 lt:k<m
 low: ∀j,j<k→(keptL kp m)[j]? =some dk[j]!
 high: ∀j,k≤j→j<n→dk[j]! =j
theorem range_at(n j:Nat)(h:j<n):(Array.range n)[j]! =j:=by rw [getElem!_pos _ j (by simpa using h)];simp
theorem Cinv.start{kp:Nat→Bool}{n k:Nat}(h: ∀j,j<k→kp j=true)(hk:kp k=false)(hn:k<n):Cinv kp n (k+1) k (Array.range n) where
 size:=by simp
 len:=by rw [keptL_succ,hk,keptL_all h];simp
 lt:=Nat.lt_succ_self _
 low:=fun j hj=>by rw [keptL_succ,hk,keptL_all h,range_at n j (by omega)];simp [hj]
 high:=fun j _ hj=>range_at n j hj
theorem Cinv.keep{kp:Nat→Bool}{n m k:Nat}{dk:Array Nat}(h:Cinv kp n m k dk)(hm:m<n)(hk:kp m=true):Cinv kp n (m+1) (k+1) (dk.setIfInBounds k m) where
 size:=by simp [h.size]
 len:=by rw [keptL_succ,hk];simp [h.len]
 lt:=by have:=h.lt;omega
 low:=fun j hj=>by
  rw [keptL_succ,hk,if_pos rfl];by_cases e:j=k
  ·subst e;rw [Ro (by rw [h.len];exact Io _),h.len,Xp,getElem!_set_same dk j _ (by have:=h.lt;have:=h.size;omega)]
   rfl
  ·rw [QJ (by rw [h.len];omega),h.low j (by omega),getElem!_set_other dk k j _ e]
 high:=fun j hj hn=>by rw [getElem!_set_other dk k j _ (by omega),h.high j (by omega) hn]
theorem Cinv.skip{kp:Nat→Bool}{n m k:Nat}{dk:Array Nat}(h:Cinv kp n m k dk)(hk:kp m=false):Cinv kp n (m+1) k dk where
 size:=h.size
 len:=by rw [keptL_succ,hk];simpa using h.len
 lt:=by have:=h.lt;omega
 low:=fun j hj=>by rw [keptL_succ,hk];simpa using h.low j hj
 high:=h.high
theorem Cinv.done{kp:Nat→Bool}{n k:Nat}{dk:Array Nat}(h:Cinv kp n n k dk):Go.Lib.lay dk k (List.replicate (n-k) n)=(keptL kp n++List.replicate (n-k) n).toArray:=by
 have hs:=h.size;have hl:=h.len;have hlt:=h.lt;apply lQ
 intro j;have e2:(keptL kp n++List.replicate (n-k) n).toArray[j]? =(keptL kp n++List.replicate (n-k) n)[j]? :=by simp
 rw [Go.Lib.lay_get? _ _ _ _ (by simp;omega),e2]
 simp only [bG];by_cases c:k≤j∧j<k+(n-k)
 ·rw [if_pos c,Ro (by omega),hl]
 ·rw [if_neg c];by_cases c2:j<k
  ·rw [QJ (by omega),h.low j c2,getElem!_pos dk j (by omega),Lj (by omega)]
  ·rw [SA (by omega),List.getElem?_eq_none (by simp;omega)]
theorem sW{P:Program}{T:Tys}{f g:FuncId}{e e':TypeId}(hfn: ∃fn,P.funcs[f]? =some fn∧fn.body.isSome=true∧(fn.name== "runtime.NumGoroutine")=false)(hsz:T.size e=1)(hsz':T.size e'=1)
  (hcm: ∀(A1 A2:Option Addr) (c1 c2:Nat) (xs ys:AA) (w:World),xs.length≤9223372036854775807→ys.length≤9223372036854775807→
   (∀k,k<xs.length→ ∃b o,A1=some ⟨b,o,none⟩∧w.cell? ⟨b,o+k,none⟩=some (.int .i64 xs[k]!))→
   (∀k,k<ys.length→ ∃b o,A2=some ⟨b,o,none⟩∧w.cell? ⟨b,o+k,none⟩=some (.int .i64 ys[k]!))→
   Calls P g #[.slice A1 xs.length c1,.slice A2 ys.length c2] w fun x w'=>x= .returned (.bool (decide (xs=ys)))∧ ∃m,w'=w.drewN m)
  (hs: ∀(n:Nat) (enc:Nat→Value) (kp:Nat→Bool) (blk off cap:Nat) (w:World),(∀x,∃a l c,enc x= .slice a l c)→enc n= .slice none 0 0→kp 0=true→
   (∀(q:Nat) (dk:Array Nat) (i:Nat),dk.size=n→0<i→i<n→Calls P g #[enc i,enc (i-1)] (putRow enc (ahead w q) blk off dk) fun x w'=>x= .returned (.bool (!kp i))∧ ∃m,w'=putRow enc (ahead w (q+m)) blk off dk)→
   Holds enc w blk off (Array.range n)→0<n→n≤cap→n≤9223372036854775807→
   Calls P f #[.slice (some ⟨blk,off,none⟩) n cap,.func (.func g) #[] #[]] w fun x w'=>x= .returned (.slice (some ⟨blk,off,none⟩) (keptL kp n).length cap)∧ ∃q,w'=putRow enc (ahead w q) blk off (keptL kp n++List.replicate (n-(keptL kp n).length) n).toArray)
  (hn: ∀(p:Option Addr) (cap:Nat) (fv:Value) (w:World),Calls P f #[.slice p 0 cap,fv] w fun x w'=>x= .returned (.slice p 0 cap)∧w'=w)
  (xss:AL)(hl:xss.length≤9223372036854775807)(hl2: ∀x∈xss,x.length≤9223372036854775807):
  Good P T f [.vw [100000] 0 0,.clo g []] [.own e (AJ (fun x=> .own e' (AJ (D.int .i64) x)) xss)] (.own e (AJ (fun x=> .own e' (AJ (D.int .i64) x)) (dedL xss))) [.undef]:=by
 refine⟨hfn,fun vs gh w S FL hvs hA hL hL0 hLd hlt=> ?_⟩
 obtain⟨v,hv0,hvW⟩:=hA 0 _ rfl
 have hv:v=gh 0:=by
  cases hvW with
  |vw hE hv=>
   obtain⟨j,h1,_,_,h2⟩:=hv;simp only [G,List.cons.injEq,and_true]at h1;have:j=0:=by omega
   subst this;exact h2
 subst hv;obtain⟨v1,hv1,hvW1⟩:=hA 1 _ rfl
 have hvc:v1= .func (.func g) #[] #[]:=by
  cases hvW1 with
  |clo us hE hz hx hw=>
   rename_i vs'
   have:vs'= #[]:=Array.eq_empty_of_size_eq_zero (by simpa using hz)
   rw [this]
 subst hvc
 have hvs':vs= #[gh 0,.func (.func g) #[] #[]]:=by
  apply lQ
  intro i
  match i with
  |0=>simpa using hv0
  |1=>simpa using hv1
  |i+2=>rw [SA (by rw [hvs];simp),SA (by simp)]
 subst hvs';have hW:=hL 0 _ rfl
 have undefs: ∀(w':World) (j:Nat) (d:D),[D.undef][j]? =some d→W T S w' V0 Jc d (gh j) (fun _=>False):=fun w' j d hj=>by
  cases j with
  |zero=>simp only [QK,Option.some.injEq]at hj;subst hj;exact .undef (fun _ h=>h)
  |succ j=>simp at hj
 have noth: ∀(p:Option Addr) (cap:Nat),xss=[]→gh 0= .slice p 0 cap→
   Calls P f #[gh 0,.func (.func g) #[] #[]] w fun| .returned v,w'=>QX T gh (.own e (AJ (fun x=> .own e' (AJ (D.int .i64) x)) (dedL xss))) [.undef] w S FL v w'|_,_=>False:=by
  intro p cap hz hg;rw [hg]
  refine(hn p cap _ w).mono fun x w' ⟨h1,h2⟩=> ?_
  subst h1 h2;subst hz
  refine⟨S,FL 0,fun _ _=>False, ?_,undefs _,fun _ _ _ _ h=>h.elim,fun _ _ _ h=>h.elim,⟨rfl,rfl,rfl,Io _,fun _ _ _=>rfl,fun _ h=>h,fun _ h=> .inl h,fun u k h=>h.elim⟩,fun k hk=> .inl ⟨0,hk⟩,hlt⟩
  rw [hg]at hW;exact hW
 by_cases hz:xss=[]
 ·have: ∃p cap,gh 0= .slice p 0 cap:=by
   subst hz;generalize hxs:AJ (fun x=>D.own e' (AJ (D.int .i64) x)) []=xs at hW;generalize gh 0=g0 at hW
   cases hW with
   |own0=>exact⟨_,_,rfl⟩
   |own us Fi hb hcz hn'=>
    rename_i n c cs
    have:xs=[]:=hxs.symm
    rw [this,hsz]at hn';simp at hn'
    exact⟨_,_,by rw [←hn']⟩
  obtain⟨p,cap,hg⟩:=this;exact noth p cap hz hg
 ·have hpos:0<xss.length:=by cases xss with|nil=>exact absurd rfl hz|cons _ _=>simp
  generalize hxs:AJ (fun x=>D.own e' (AJ (D.int .i64) x)) xss=xs at hW;generalize hg0:gh 0=g0 at hW;have hxl:xs.length=xss.length:=by rw [←hxs,CP]
  cases hW with
  |own0=>simp at hxl;omega
  |own us Fi hb hcz hn' hnc hcm' hx hF hFb hd hS hw=>
   rename_i b off n c cs
   rw [hsz,Lu]at hn' hcz;have hnz:n=xss.length:=by omega
   subst hnz
   have hxi: ∀i (hi:i<xss.length),xs[i]? =some (.own e' (AJ (D.int .i64) (xss.getD i []))):=fun i hi=>by
    rw [←hxs];unfold AJ;rw [OJ,Fz hi,Lp,Fz hi];rfl
   have hW1: ∀i (hi:i<xss.length),W T S w V0 Jc (.own e' (AJ (D.int .i64) (xss.getD i []))) (us i) (Fi i):=fun i hi=>hw i _ (hxi i hi);have hFh: ∀i (hi:i<xss.length) k,Fi i k→k≠b∧k<w.heap.size:=fun i hi k hk=>⟨fun he=>hFb i (by omega) (he▸hk),(hW1 i hi).lt k hk⟩
   have hus: ∀i (hi:i<xss.length),∃A c,us i= .slice A (xss.getD i []).length c∧ ∀k,k<(xss.getD i []).length→ ∃bb o,A=some ⟨bb,o,none⟩∧(bb≠b∧bb<w.heap.size)∧w.cell? ⟨bb,o+k,none⟩=some (.int .i64 (xss.getD i [])[k]!):=fun i hi=>by
    have h1:=hW1 i hi;have hfb:=hFh i hi;generalize xss.getD i []=a at h1 ⊢;generalize us i=u at h1 ⊢;generalize Fi i=FF at h1 hfb;generalize hqd:AJ (D.int .i64) a=dd at h1;have hal:dd.length=a.length:=by rw [←hqd,CP]
    cases h1 with
    |own0 hE=>
     have:a=[]:=qC (by rw [←hal];rfl)
     subst this
     exact⟨_,_,rfl,fun k hk=>by simp at hk⟩
    |own us' Fi' hb' hcz' hln hc hm hx2 hF' hFb' hd' hS' hw2=>
     rename_i bb off2 n2 c2 cs2
     rw [hsz',Lu]at hln;have hbb:=hfb bb ((hF' bb).2 (.inl rfl))
     refine⟨some ⟨bb,off2,none⟩,c2,by rw [←hln,hal],fun k hk=>⟨bb,off2,rfl,hbb, ?_⟩⟩
     have hki:dd[k]? =some (.int .i64 a[k]!):=by rw [←hqd];unfold AJ;simp [hk]
     have e3:=hx2 k _ hki;have hv:=hw2 k _ hki;generalize us' k=uk at hv e3
     cases hv with
     |int=>
      have:=E8 (o:=off2) (i:=k) hb'
      rw [Addr.add_lit]at this;rw [this,e3]
   have hlt2:=(Ut.1 hb).1;have hmem: ∀i,i<xss.length→(xss.getD i []).length≤9223372036854775807:=fun i hi=>hl2 _ (by rw [Lp,Fz hi];exact FT _)
   obtain⟨enc,henc⟩: ∃enc:Nat→Value,enc=fun i=>if i<xss.length then us i else .slice none 0 0:=⟨_,rfl⟩
   have enc1: ∀i,i<xss.length→enc i=us i:=fun i hi=>by rw [henc];exact if_pos hi
   have hone: ∀i,∃a l c,enc i= .slice a l c:=fun i=>by
    by_cases hi:i<xss.length
    ·rw [enc1 i hi];obtain⟨A,c,h1,_⟩:=hus i hi;exact⟨_,_,_,h1⟩
    ·rw [henc];simp only [if_neg hi];exact⟨_,_,_,rfl⟩
   have hH:Holds enc w b off (Array.range xss.length):=by
    intro j hj;simp only [Array.size_range]at hj
    refine⟨?_, ?_⟩
    ·have:=E8 (o:=off) (i:=j) hb
     rw [OM]at this;rw [this,hx j _ (hxi j hj)];rw [getElem!_pos _ j (by simpa using hj)]
     simp [enc1 j hj]
    ·simp [World.frozen?,hb]
   have hCmp: ∀(q:Nat) (dk:Array Nat) (i:Nat),dk.size=xss.length→0<i→i<xss.length→Calls P g #[enc i,enc (i-1)] (putRow enc (ahead w q) b off dk) fun x w'=>x= .returned (.bool (!kpL xss i))∧ ∃m,w'=putRow enc (ahead w (q+m)) b off dk:=by
    intro q dk i _ hi0 hi;obtain⟨A1,c1,e1,k1⟩:=hus i hi;obtain⟨A2,c2,e2,k2⟩:=hus (i-1) (by omega)
    have hcell: ∀(bb oo:Nat) (u:Value),(bb≠b∧bb<w.heap.size)→w.cell? ⟨bb,oo,none⟩=some u→(putRow enc (ahead w q) b off dk).cell? ⟨bb,oo,none⟩=some u:=fun bb oo u hSb hc=>by
     have hk:=(eX enc w q b off dk hb).2.1 bb hSb.1;rw [←hc];exact World.cell?_of_block hk
    have:=hcm A1 A2 c1 c2 (xss.getD i []) (xss.getD (i-1) []) (putRow enc (ahead w q) b off dk) (hmem i hi) (hmem (i-1) (by omega))
     (fun k hk=>by obtain⟨bb,oo,h1,h2,h3⟩:=k1 k hk;exact⟨bb,oo,h1,hcell _ _ _ h2 h3⟩)
     (fun k hk=>by obtain⟨bb,oo,h1,h2,h3⟩:=k2 k hk;exact⟨bb,oo,h1,hcell _ _ _ h2 h3⟩)
    rw [enc1 i hi,enc1 (i-1) (by omega),e1,e2]
    refine Calls.mono this ?_;intro ex w' ⟨h1,m,h2⟩
    refine⟨by rw [h1];unfold kpL;rw [decide_eq_false (by omega: ¬i=0)];simp,m, ?_⟩
    rw [h2];show ahead (putRow enc (ahead w q) b off dk) m=_
    rw [putRow_ahead enc w q,ahead_ahead,←putRow_ahead]
   refine(hs xss.length enc (kpL xss) b off c w hone (by rw [henc];exact if_neg (Nat.lt_irrefl _)) (by unfold kpL;simp) hCmp hH hpos hnc hl).mono fun x w' ⟨h1,q,h2⟩=> ?_
   subst h1 h2;have hkl:=keptL_le (kpL xss) xss.length;obtain⟨k1,k2,k3⟩:=eX enc w q b off (keptL (kpL xss) xss.length++List.replicate (xss.length-(keptL (kpL xss) xss.length).length) xss.length).toArray hb;have hbF:FL 0 b:=(hF b).2 (.inl rfl);have hlm:=A0C xss
   have hki: ∀i,i<(dedL xss).length→(keptL (kpL xss) xss.length).getD i 0<xss.length:=fun i hi=>by
    rw [Lp,Fz (by omega)];exact A0B _ _ i (by omega)
   have hinj: ∀i j,i<(dedL xss).length→j<(dedL xss).length→i≠j→(keptL (kpL xss) xss.length).getD i 0≠(keptL (kpL xss) xss.length).getD j 0:=fun i j hi hj hij he=>by
    rw [Lp,Fz (by omega),Lp,Fz (by omega)]at he
    have hpw:=WK.1 (List.nodup_iff_pairwise_ne.1 (nz (kpL xss) xss.length));rcases Nat.lt_or_gt_of_ne hij with h|h
    ·exact hpw i j (by omega) (by omega) h he
    ·exact hpw j i (by omega) (by omega) h he.symm
   refine⟨S,fun k=>k=b∨ ∃i,i<(dedL xss).length∧Fi ((keptL (kpL xss) xss.length).getD i 0) k,fun _ _=>False, ?_,undefs _,fun _ _ _ _ h=>h.elim,fun _ _ _ h=>h.elim,⟨rfl,rfl,rfl,Nat.le_of_eq k3.symm,fun k hk hno=>k2 k (fun he=>hno 0 (he▸hbF)),fun _ h=>h,fun _ h=> .inl h,fun u k h=>h.elim⟩,fun k hk=> .inl ⟨0, ?_⟩,fun k hk=>by rw [k3];exact hlt k hk⟩
   ·refine .own (fun i=>us ((keptL (kpL xss) xss.length).getD i 0)) (fun i=>Fi ((keptL (kpL xss) xss.length).getD i 0)) k1 (by rw [hsz,Lu];simpa [putCells] using hcz) (by rw [hsz,Lu,CP,hlm]) (by omega) hcm' (fun i y hi=> ?_) (fun k=> ?_) (fun i hi=> ?_) (fun i j k hi hj hij=> ?_) hS (fun i y hi=> ?_)
    ·have hil:=(Er.1 hi).1;rw [CP]at hil;unfold putCells;have hic:off+i<cs.size:=by omega
     rw [Array.getElem?_mapIdx,Lj hic,QC];rw [if_pos (by simp;omega)]
     simp only [yQ,Option.some.injEq]
     have e1:(keptL (kpL xss) xss.length++List.replicate (xss.length-(keptL (kpL xss) xss.length).length) xss.length).toArray[i]! =(keptL (kpL xss) xss.length).getD i 0:=by
      simp only [List.getElem!_toArray,List.getElem!_eq_getElem?_getD];rw [QJ (by omega),Lp,Fz (by omega)]
      rfl
     rw [e1,enc1 _ (hki i hil)]
    ·rw [CP]
    ·rw [CP]at hi;exact hFb _ (by rw [hxl];exact hki i hi)
    ·rw [CP]at hi hj;exact hd _ _ k (by rw [hxl];exact hki i hi) (by rw [hxl];exact hki j hj) (hinj i j hi hj hij)
    ·have hil:=(Er.1 hi).1;rw [CP]at hil;have hx2:=hki i hil
     have hy:y= .own e' (AJ (D.int .i64) (xss.getD ((keptL (kpL xss) xss.length).getD i 0) [])):=by
      unfold AJ at hi;rw [OJ,Fz hil,QC]at hi
      injection hi with hi
      rw [←hi]
      have e2:(dedL xss)[i]=xss.getD ((keptL (kpL xss) xss.length).getD i 0) []:=by
       simp only [dedL,List.getElem_map];rw [Lp (l:=keptL (kpL xss) xss.length),Fz (by omega)]
       rfl
      rw [e2];rfl
     rw [hy]
     exact(hW1 _ hx2).mono (fun k hk=>⟨hk,k2 k (fun he=>hS (he▸hk))⟩) _ _ (fun _ _ _ _ h=>h) (fun _ _ _ _ _ h=>h) (fun k hf=>⟨(hW1 _ hx2).notS k hf,k2 k (hFh _ hx2 k hf).1⟩)
   ·rw [hF k];rcases hk with h|⟨i,hi,h⟩
    ·exact .inl h
    ·exact .inr ⟨_,by rw [hxl];exact hki i hi,h⟩
def Qe(k g e e' f:Nat)(a l:List D):Option (D×List D):=
 if f=k then
  match a,l with
  | [.vw [100000] 0 0,.clo g1 []],[.own e1 xs]=>
   if e1=e∧g1=g then(Pn e' xs).bind fun xss=>if xss.length≤9223372036854775807∧ ∀x∈xss,x.length≤9223372036854775807 then some (.own e (AJ (fun x=> .own e' (AJ (D.int .i64) x)) (dedL xss)),[.undef])else none else none
  |_,_=>none
 else none
theorem ZY{P:Program}{T:Tys}{k g e e':Nat}(hg: ∀xss:AL,xss.length≤9223372036854775807→(∀x∈xss,x.length≤9223372036854775807)→Good P T k [.vw [100000] 0 0,.clo g []] [.own e (AJ (fun x=> .own e' (AJ (D.int .i64) x)) xss)] (.own e (AJ (fun x=> .own e' (AJ (D.int .i64) x)) (dedL xss))) [.undef]):
  ∀f a l r outs,Qe k g e e' f a l=some (r,outs)→Good P T f a l r outs:=by
 intro f a l r outs h;unfold Qe at h
 split at h
 ·rename_i hf
  subst hf
  split at h
  ·split at h
   ·rename_i he
    obtain⟨rfl,rfl⟩:=he;simp only [J4]at h;obtain⟨xss,h1,h2⟩:=h
    split at h2
    ·rename_i hl
     simp only [Option.some.injEq,Prod.mk.injEq]at h2;obtain⟨rfl,rfl⟩:=h2;rw [VS e' h1];exact hg xss hl.1 hl.2
    ·cases h2
   ·cases h
  ·cases h
 ·cases h
theorem iX(k g e e':Nat)(xss:AL)(h:xss.length≤9223372036854775807)(h2: ∀x∈xss,x.length≤9223372036854775807):Qe k g e e' k [.vw [100000] 0 0,.clo g []] [.own e (AJ (fun x=> .own e' (AJ (D.int .i64) x)) xss)]=some (.own e (AJ (fun x=> .own e' (AJ (D.int .i64) x)) (dedL xss)),[.undef]):=by
 unfold Qe;rw [if_pos rfl];simp only [and_self,if_true];rw [Xf,Bl,if_pos ⟨h,h2⟩]
end Dv
