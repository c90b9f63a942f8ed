/- Value semantics for Go code, part 6: sorting as known calls. Conditions: none beyond those in each lemma. -/
import Derived.Test.YtclkfhhdikfcpaaL5
import Derived.Sort.Grow
import Derived.Sort.Row
import Derived.Laws.AppendOwn
import Derived.Shelf.Spec.SlicesGrow
open Option.some renaming injEq → al
open Go renaming FuncId → am
set_option linter.unusedSimpArgs false
set_option linter.unusedVariables false
namespace Dv
open Go
set_option linter.unusedSimpArgs false
theorem jM(w:World)(m b off:Nat)(d:Array Int)(os:Array Obj){cs:Array Value}{t:TypeId}{fr:Nat×Nat}(hb:w.heap[b]? =some (.cells cs t fr)):
  (Go.Sort.grow (Go.Sort.putRow (Value.int .i64) (Go.Sort.ahead w m) b off d) os).heap[b]? =some (.cells (Go.Sort.putCells (Value.int .i64) off d cs) t fr)∧
  (∀k,k<w.heap.size→k≠b→(Go.Sort.grow (Go.Sort.putRow (Value.int .i64) (Go.Sort.ahead w m) b off d) os).heap[k]? =w.heap[k]?)∧
  w.heap.size≤(Go.Sort.grow (Go.Sort.putRow (Value.int .i64) (Go.Sort.ahead w m) b off d) os).heap.size:=by
 have hlt:=(VV.1 hb).1;unfold Go.Sort.grow Go.Sort.putRow Go.Sort.mapBlock Go.Sort.ahead
 refine⟨?_,fun k hk hne=> ?_, ?_⟩
 ·simp only;rw [Array.getElem?_append_left (by simpa using hlt),Array.getElem?_modify,if_pos rfl,hb];rfl
 ·simp only;rw [Array.getElem?_append_left (by simpa using hk),Array.getElem?_modify,if_neg (Ne.symm hne)]
 ·simp
theorem jO{P:Program}{T:Tys}{f:am}{e:TypeId}(hfn: ∃fn,P.funcs[f]? =some fn∧fn.body.isSome=true∧(fn.name== "runtime.NumGoroutine")=false)(hsz:T.size e=1)
  (hs: ∀(blk off cap:Nat) (zs:AU) (w:World),Go.Sort.Holds (Value.int .i64) w blk off zs.toArray→blk<w.heap.size→zs.length<4611686018427387904→
   Calls P f #[.slice (some ⟨blk,off,none⟩) zs.length cap] w fun x w'=>x= .returned (.tuple #[])∧ ∃n os,w'=Go.Sort.grow (Go.Sort.putRow (Value.int .i64) (Go.Sort.ahead w n) blk off (zs.mergeSort fun x y=>decide (x≤y)).toArray) os)
  (hn: ∀(p:Option Addr) (cap:Nat) (w:World),Calls P f #[.slice p 0 cap] w fun x w'=>x= .returned (.tuple #[])∧w'=w)
  (zs:AU)(hl:zs.length<4611686018427387904):
  Good P T f [.vw [100000] 0 0] [.own e (II zs)] (.tup []) [.own e (II (zs.mergeSort fun x y=>decide (x≤y)))]:=by
 refine⟨hfn,fun vs gh w S FL hvs hA hL hL0 hLd hlt=> ?_⟩
 obtain⟨v,hv0,hvW⟩:=hA 0 _ rfl
 have hv:v=gh 0:=by
  cases hvW with
  |vw hE hv=>
   obtain⟨j,h1,_,_,h2⟩:=hv;simp only [G,List.cons.injEq,and_true]at h1;have:j=0:=by omega
   subst this;exact h2
 subst hv
 have hvs':vs= #[gh 0]:=by
  apply Array.ext_getElem?
  intro i
  cases i with
  |zero=>simpa using hv0
  |succ i=>rw [VW (by rw [hvs];simp),VW (by simp)]
 subst hvs';have hW:=hL 0 _ rfl
 have tupW: ∀(w':World),W T S w' V0 Ho (.tup []) (.tuple #[]) (fun _=>False):=fun w'=>
  .tup (fun _=>undef) (fun _ _=>False) rfl (by simp) (by simp) (by simp) (by simp)
 have noth: ∀(p:Option Addr) (cap:Nat),zs=[]→gh 0= .slice p 0 cap→
   Calls P f #[gh 0] w fun| .returned v,w'=>Pt T gh (.tup []) [.own e (II (zs.mergeSort fun x y=>decide (x≤y)))] w S FL v w'|_,_=>False:=by
  intro p cap hz hg;rw [hg]
  refine(hn p cap w).mono fun x w' ⟨h1,h2⟩=> ?_
  subst h1 h2
  refine⟨S,fun _=>False,FL,tupW _,fun j d hj=> ?_,hLd,fun _ _ h=>h.elim,Step.refl _ _ _,fun _ h=>h.elim,hlt⟩
  cases j with
  |zero=>
   simp only [OW,al]at hj;subst hj;subst hz;simp only [List.mergeSort_nil];exact hW
  |succ j=>simp at hj
 by_cases hz:zs=[]
 ·have: ∃p cap,gh 0= .slice p 0 cap:=by
   subst hz;generalize hxs:II []=xs at hW;generalize gh 0=g0 at hW
   cases hW with
   |own0=>exact⟨_,_,rfl⟩
   |own us Fi hb hcz hn'=>
    rename_i n c cs
    have:xs=[]:=hxs.symm
    rw [this,hsz]at hn';simp at hn'
    exact⟨_,_,by rw [←hn']⟩
  obtain⟨p,cap,hg⟩:=this;exact noth p cap hz hg
 ·have hpos:0<zs.length:=by cases zs with|nil=>exact absurd rfl hz|cons _ _=>simp
  generalize hxs:II zs=xs at hW;generalize hg0:gh 0=g0 at hW;have hxl:xs.length=zs.length:=by rw [←hxs,Dc]
  cases hW with
  |own0=>simp at hxl;omega
  |own us Fi hb hcz hn' hnc hcm hx hF hFb hd hS hw=>
   rename_i b off n c cs
   rw [hsz,NE]at hn' hcz;have hnz:n=zs.length:=by omega
   subst hnz;have hxi: ∀i (hi:i<zs.length),xs[i]? =some (.int .i64 zs[i]):=fun i hi=>by rw [←hxs,Sv zs i hi,MJ,IC hi];rfl
   have hus: ∀i (hi:i<zs.length),us i= .int .i64 zs[i]∧Em (Fi i):=fun i hi=>by
    have h1:=hw i _ (hxi i hi);generalize us i=u at h1
    cases h1 with
    |int h=>exact⟨rfl,h⟩
   have hlt2:=(VV.1 hb).1
   have hH:Go.Sort.Holds (Value.int .i64) w b off zs.toArray:=by
    intro j hj;simp only [List.size_toArray]at hj
    refine⟨?_, ?_⟩
    ·have:=Fb (o:=off) (i:=j) hb
     rw [OD]at this;rw [this,hx j _ (hxi j hj),(hus j hj).1];simp [hj]
    ·simp [World.frozen?,hb]
   have hlm:(zs.mergeSort fun x y=>decide (x≤y)).length=zs.length:=List.length_mergeSort _
   refine(hs b off c zs w hH hlt2 hl).mono fun x w' ⟨h1,m,os,h2⟩=> ?_
   subst h1 h2;obtain⟨k1,k2,k3⟩:=jM w m b off (zs.mergeSort fun x y=>decide (x≤y)).toArray os hb;have hbF:FL 0 b:=(hF b).2 (.inl rfl)
   refine⟨S,fun _=>False,FL,tupW _,fun j d hj=> ?_,hLd,fun _ _ h=>h.elim,⟨rfl,rfl,rfl,k3,fun k hk hno=>k2 k hk (fun he=>hno 0 (he▸hbF)),fun _ h=>h,fun _ h=> .inl h,fun u k h=> .inl ⟨u,h⟩⟩,fun _ h=>h.elim,fun k hk=>bC (hlt k hk) k3⟩
   cases j with
   |zero=>
    simp only [OW,al]at hj;subst hj;rw [hg0];refine .own (fun i=> .int .i64 ((zs.mergeSort fun x y=>decide (x≤y)).getD i 0)) Fi k1 (by rw [hsz,NE];simpa [Go.Sort.putCells] using hcz) (by rw [hsz,NE,Dc,hlm]) hnc hcm (fun i y hi=> ?_) (fun k=> ?_) (fun i hi=>hFb i (by rw [Dc,hlm]at hi;omega)) (fun i j k hi hj=>hd i j k (by rw [Dc,hlm]at hi;omega) (by rw [Dc,hlm]at hj;omega)) hS (fun i y hi=> ?_)
    ·have hil:=(EQ.1 hi).1;rw [Dc,hlm]at hil;unfold Go.Sort.putCells;have hic:off+i<cs.size:=by omega
     rw [Array.getElem?_mapIdx,Jt hic,Li];rw [if_pos (by simp;omega)]
     simp only [Nat.add_sub_cancel_left,al,Value.int.injEq,true_and];rw [MJ];simp [hlm,hil]
    ·rw [hF k];simp only [hxl,Dc,hlm]
    ·have hil:=(EQ.1 hi).1;rw [Dc]at hil;rw [Sv _ i hil]at hi
     injection hi with hi
     subst hi;rw [hlm]at hil;exact .int (hus i hil).2
   |succ j=>simp at hj
def JE(zs:AU):AU:=zs.mergeSort fun x y=>decide (x≤y)
def Nf:List D→Option AU
 | []=>some []
 | .int .i64 n::ds=>(Nf ds).map (n:: ·)
 |_=>none
theorem Rp: ∀(zs:AU),Nf (II zs)=some zs:=by
 intro zs
 induction zs with
 |nil=>rfl
 |cons z zs ih=>rw [X4,Nf,ih];rfl
theorem Rq: ∀ {xs:List D} {zs:AU},Nf xs=some zs→xs=II zs:=by
 intro xs
 induction xs with
 |nil=>intro zs h;simp only [Nf,al]at h;subst h;rfl
 |cons d xs ih=>
  intro zs h;unfold Nf at h
  split at h
  ·rename_i heq;cases heq
  ·rename_i n ds heq
   simp only [List.cons.injEq]at heq;obtain⟨rfl,rfl⟩:=heq;simp only [Ck]at h;obtain⟨ys,h1,rfl⟩:=h;rw [ih h1,X4]
  ·cases h
def Ng(k e f:Nat)(a l:List D):Option (D×List D):=
 if f=k then
  match a,l with
  | [.vw [100000] 0 0],[.own e' xs]=>if e'=e then(Nf xs).bind fun zs=>if zs.length<4611686018427387904 then some (.tup [],[.own e (II (JE zs))])else none else none
  |_,_=>none
 else none
theorem Vn{P:Program}{T:Tys}{k e:Nat}(hg: ∀zs:AU,zs.length<4611686018427387904→Good P T k [.vw [100000] 0 0] [.own e (II zs)] (.tup []) [.own e (II (JE zs))]):
  ∀f a l r outs,Ng k e f a l=some (r,outs)→Good P T f a l r outs:=by
 intro f a l r outs h;unfold Ng at h
 split at h
 ·rename_i hf
  subst hf
  split at h
  ·split at h
   ·rename_i he
    subst he;simp only [HV]at h;obtain⟨zs,h1,h2⟩:=h
    split at h2
    ·rename_i hl
     simp only [al,Prod.mk.injEq]at h2;obtain⟨rfl,rfl⟩:=h2;rw [Rq h1];exact hg zs hl
    ·cases h2
   ·cases h
  ·cases h
 ·cases h
theorem Zz(k e:Nat)(zs:AU)(h:zs.length<4611686018427387904):Ng k e k [.vw [100000] 0 0] [.own e (AP (D.int .i64) zs)]=some (.tup [],[.own e (AP (D.int .i64) (JE zs))]):=by
 unfold Ng;rw [if_pos rfl];simp only [if_true];rw [show AP (D.int .i64) zs=II zs from rfl,Rp,Dh,if_pos h];rfl
def PH(h g:am→List D→List D→Option (D×List D))(f:am)(a l:List D):Option (D×List D):=
 match h f a l with
 |some r=>some r
 |none=>g f a l
theorem Nh{P:Program}{T:Tys}{h g:am→List D→List D→Option (D×List D)}(hh: ∀f a l r outs,h f a l=some (r,outs)→Good P T f a l r outs)(hg: ∀f a l r outs,g f a l=some (r,outs)→Good P T f a l r outs):
  ∀f a l r outs,PH h g f a l=some (r,outs)→Good P T f a l r outs:=by
 intro f a l r outs he;unfold PH at he
 cases hq:h f a l with
 |some q=>rw [hq]at he;simp only [al]at he;subst he;exact hh _ _ _ _ _ hq
 |none=>rw [hq]at he;exact hg _ _ _ _ _ he
end Dv
namespace Dv
open Go
set_option linter.unusedSimpArgs false
def PI(e:TypeId)(zs:AU)(w:World)(x:Ending)(w':World):Prop:=
 ∃v,x= .returned v∧w'.ownsRow w.heap.size e 1 v zs.length ((zs.mergeSort fun x y=>decide (x≤y)).map (Value.int .i64))∧(v= .slice none 0 0↔zs=[])∧Go.RowKit.Below w.heap.size w w'
theorem UT:Em (fun _:Nat=>False):=fun _ h=>h
theorem jP{T:Tys}{S:Nat→Prop}{e:TypeId}{w w':World}{v:Value}{zs:AU}(hsz:T.size e=1)(hS: ∀k,S k→k<w.heap.size)(h:w'.ownsRow w.heap.size e 1 v zs.length (zs.map (Value.int .i64))):
  ∃F:Nat→Prop,W T S w' V0 Ho (.own e (II zs)) v F∧(∀k,F k→w.heap.size≤k):=by
 rcases h.2 with⟨rfl,h0⟩|⟨g,cap,cur,rfl,hb,hg,h1,h2,h3,h4⟩
 ·have:zs=[]:=ji h0
  subst this
  exact⟨fun _=>False,.own0 UT,fun _ h=>h.elim⟩
 ·have hlt:=(VV.1 hg).1
  refine⟨fun k=>k=g,.own (fun i=> .int .i64 (zs.getD i 0)) (fun _ _=>False) hg (by rw [hsz,JS];exact h3) (by rw [hsz,Dc,NE]) h1 h2 (fun i x hi=> ?_) (fun k=>⟨.inl,fun h=>h.elim id (fun⟨_,_,h⟩=>h.elim)⟩) (fun _ _ h=>h) (fun _ _ _ _ _ _ h=>h.elim) (fun hs=> ?_) (fun i x hi=> ?_),fun k hk=>by rw [hk];exact hb⟩
  ·have hil:=(EQ.1 hi).1;rw [Dc]at hil
   have:cur.toList[i]? =some (Value.int .i64 zs[i]):=by
    have h5:(cur.toList.take (zs.length*1))[i]? =some (Value.int .i64 zs[i]):=by rw [h4];simp [hil]
    rw [List.getElem?_take]at h5;simpa [hil] using h5
   rw [JS,←TB,this,MJ,IC hil];rfl
  ·have:=hS _ hs;omega
  ·have hil:=(EQ.1 hi).1;rw [Dc]at hil;rw [Sv _ i hil]at hi
   injection hi with hi
   subst hi;exact .int UT
theorem dY{S:Nat→Prop}{w w':World}{FL:Nat→Nat→Prop}(hb:Go.RowKit.Below w.heap.size w w'):Step w S FL w' S (fun _ _=>False):=
 ⟨hb.os,hb.tape,hb.output,hb.size,fun k hk _=>hb.block k hk,fun _ h=>h,fun _ h=> .inl h,fun _ _ h=>h.elim⟩
theorem aB{P:Program}{T:Tys}{f g:am}{e:TypeId}(hfn: ∃fn,P.funcs[f]? =some fn∧fn.body.isSome=true∧(fn.name== "runtime.NumGoroutine")=false)(hsz:T.size e=1)
  (h0: ∀(p:Addr) (ad:Option Addr) (cap:Nat) (w:World),p.block<w.heap.size→w.cell? p=some (.slice ad 0 cap)→Calls P f #[.func (.func g) #[] #[.pointer (some p)]] w (PI e [] w))
  (h1: ∀(p:Addr) (b off cap:Nat) (zs:AU) (w:World),zs.length<1099511627776→p.block<w.heap.size→w.cell? p=some (.slice (some ⟨b,off,none⟩) zs.length cap)→b<w.heap.size→
   (∀j,j<zs.length→w.cell? ⟨b,off+j,none⟩=some (.int .i64 (zs[j]?.getD 0)))→Calls P f #[.func (.func g) #[] #[.pointer (some p)]] w (PI e zs w))
  (zs:AU)(hl:zs.length<1099511627776):
  Good P T f [.clo g [.cptr [.sl e (II zs)]]] [] (.own e (II (JE zs))) []:=by
 refine⟨hfn,fun vs gh w S FL hvs hA hL hL0 hLd hlt=> ?_⟩
 obtain⟨v,hv0,hvW⟩:=hA 0 _ rfl
 have hvs':vs= #[v]:=by
  apply Array.ext_getElem?
  intro i
  cases i with
  |zero=>simpa using hv0
  |succ i=>rw [VW (by rw [hvs];simp),VW (by simp)]
 subst hvs'
 have Gq: ∀x w',PI e zs w x w'→(match x,w' with| .returned v,w'=>Pt T gh (.own e (II (JE zs))) [] w S FL v w'|_,_=>False):=by
  rintro x w' ⟨v,rfl,hrow,_,hb⟩
  have hlen:(zs.mergeSort fun x y=>decide (x≤y)).length=zs.length:=List.length_mergeSort _;have hrow':w'.ownsRow w.heap.size e 1 v (JE zs).length ((JE zs).map (Value.int .i64)):=by unfold JE;rw [hlen];exact hrow
  obtain⟨F,hF,hFb⟩:=jP (T:=T) hsz hlt hrow'
  exact⟨S,F,fun _ _=>False,hF,fun j d hj=>by simp at hj,fun _ _ _ _ h=>h.elim,fun _ _ _ h=>h,dY hb,fun k hk=> .inr (hFb k hk),fun k hk=>bC (hlt k hk) hb.size⟩
 cases hvW with
 |clo us hE hz hx hw=>
  rename_i ws
  have hx0:=hx 0 _ rfl;have hw0:=hw 0 _ rfl
  have hws:ws= #[us 0]:=by
   apply Array.ext_getElem?
   intro i
   cases i with
   |zero=>simpa using hx0
   |succ i=>rw [VW (by rw [hz];simp),VW (by simp)]
  subst hws;clear hx hw hx0 hz hv0 hA hvs;generalize us 0=u at hw0 ⊢
  cases hw0 with
  |cptr us hE hx hw=>
   rename_i p
   obtain⟨hpS,hpc⟩:=hx 0 _ rfl;have hw0:=hw 0 _ rfl;have hp0:p.add 0=p:=by simp [Addr.add]
   rw [hp0]at hpc;clear hx hw;generalize us 0=u at hw0 hpc
   cases hw0 with
   |sl us hE hn hc hm hx hw=>
    rename_i A n c
    rw [hsz,NE,Dc]at hn;subst hn;have hpl:=hlt _ hpS;by_cases hz:zs=[]
    ·subst hz
     exact(h0 p A c w hpl hpc).mono Gq
    ·have hpos:0<zs.length:=by cases zs with|nil=>exact absurd rfl hz|cons _ _=>simp
     have hxi: ∀i (hi:i<zs.length),(II zs)[i]? =some (.int .i64 zs[i]):=fun i hi=>by rw [Sv zs i hi,MJ,IC hi];rfl
     obtain⟨ad,rfl,haS,hac⟩:=hx 0 _ (hxi 0 hpos)
     have hus: ∀i (hi:i<zs.length),us i= .int .i64 zs[i]:=fun i hi=>by
      have h1:=hw i _ (hxi i hi);generalize us i=u at h1
      cases h1 with
      |int h=>rfl
     have hsp:ad.spot=none:=by
      rw [show ad.add 0=ad by simp [Addr.add]]at hac
      unfold World.cell? at hac
      split at hac
      ·split at hac
       ·cases hac
       ·rename_i h;simpa using h
      ·cases hac
     obtain⟨b,off,sp⟩:=ad;simp only at hsp;subst hsp
     refine(h1 p b off c zs w hl hpl hpc (hlt _ haS) (fun j hj=> ?_)).mono Gq
     obtain⟨ad',had,_,hcj⟩:=hx j _ (hxi j hj);simp only [al]at had;subst had;rw [hus j hj]at hcj
     have:(⟨b,off,none⟩:Addr).add j=⟨b,off+j,none⟩:=by
      unfold Addr.add;split
      ·rename_i h;subst h;rfl
      ·rfl
     rw [this]at hcj;rw [hcj,IC hj];rfl
def Kr(k g e f:Nat)(a l:List D):Option (D×List D):=
 if f=k then
  match a,l with
  | [.clo g' [.cptr [.sl e' xs]]],[]=>if g'=g∧e'=e then(Nf xs).bind fun zs=>if zs.length<1099511627776 then some (.own e (II (JE zs)),[])else none else none
  |_,_=>none
 else none
theorem SH{P:Program}{T:Tys}{k g e:Nat}(hg: ∀zs:AU,zs.length<1099511627776→Good P T k [.clo g [.cptr [.sl e (II zs)]]] [] (.own e (II (JE zs))) []):
  ∀f a l r outs,Kr k g e f a l=some (r,outs)→Good P T f a l r outs:=by
 intro f a l r outs h;unfold Kr at h
 split at h
 ·rename_i hf
  subst hf
  split at h
  ·split at h
   ·rename_i he
    obtain⟨rfl,rfl⟩:=he;simp only [HV]at h;obtain⟨zs,h1,h2⟩:=h
    split at h2
    ·rename_i hl
     simp only [al,Prod.mk.injEq]at h2;obtain⟨rfl,rfl⟩:=h2;rw [Rq h1];exact hg zs hl
    ·cases h2
   ·cases h
  ·cases h
 ·cases h
theorem Vo(k g e:Nat)(zs:AU)(h:zs.length<1099511627776):Kr k g e k [.clo g [.cptr [.sl e (AP (D.int .i64) zs)]]] []=some (.own e (AP (D.int .i64) (JE zs)),[]):=by
 unfold Kr;rw [if_pos rfl];simp only [and_self,if_true];rw [show AP (D.int .i64) zs=II zs from rfl,Rp,Dh,if_pos h];rfl
theorem Rs{h g:am→List D→List D→Option (D×List D)}{f:am}{a l:List D}{r:D×List D}(e:h f a l=some r):PH h g f a l=some r:=by
 unfold PH;rw [e]
end Dv
namespace Dv
open Go
set_option linter.unusedSimpArgs false
theorem jQ{P:Program}{T:Tys}{f:am}{e:TypeId}{z:Array Value}(hfn: ∃fn,P.funcs[f]? =some fn∧fn.body.isSome=true∧(fn.name== "runtime.NumGoroutine")=false)(hsz:T.size e=1)(hz:z.size=1)
  (h0: ∀w:World,Calls P f #[.slice none 0 0,.int .i64 ((0:Nat):Int)] w fun x w'=>x= .returned (.slice none 0 0)∧w'=w)
  (h1: ∀(n:Nat) (w:World),0<n→n<1099511627776→Calls P f #[.slice none 0 0,.int .i64 (n:Int)] w fun x w'=>x= .returned (.slice (some ⟨w.heap.size,0,none⟩) 0 (grownCap w n 0 e))∧
   w'=w.drew.alloc (.cells (#[]++Builtin.zeroCells z n++Builtin.zeroCells z (grownCap w n 0 e-n)) e))
  (n:Nat)(hn:n<1099511627776):Good P T f [.konst (.slice none 0 0),.int .i64 n] [] (.own e []) []:=by
 refine⟨hfn,fun vs gh w S FL hvs hA hL hL0 hLd hlt=> ?_⟩
 obtain⟨v,hv0,hvW⟩:=hA 0 _ rfl;have hc:v= .slice none 0 0:=by cases hvW with|konst=>rfl
 subst hc;obtain⟨v1,hv1,hvW1⟩:=hA 1 _ rfl;have hc1:v1= .int .i64 n:=by cases hvW1 with|int=>rfl
 subst hc1
 have hvs':vs= #[.slice none 0 0,.int .i64 n]:=by
  apply Array.ext_getElem?
  intro k
  match k with
  |0=>simpa using hv0
  |1=>simpa using hv1
  |k+2=>rw [VW (by rw [hvs];simp),VW (by simp)]
 subst hvs';by_cases hp:n=0
 ·subst hp
  refine(h0 w).mono fun x w' ⟨e1,e2⟩=> ?_
  subst e1 e2
  exact⟨S,fun _=>False,fun _ _=>False,.own0 UT,fun j d hj=>by simp at hj,fun _ _ _ _ h=>h.elim,fun _ _ h=>h.elim,⟨rfl,rfl,rfl,Hq _,fun _ _ _=>rfl,fun _ h=>h,fun _ h=> .inl h,fun _ _ h=>h.elim⟩,fun k h=>h.elim,hlt⟩
 ·refine(h1 n w (by omega) hn).mono fun x w' ⟨e1,e2⟩=> ?_
  have hG1:=grownCap_ge w n 0 e;have hG2:=grownCap_le_maxLen w n 0 e (by unfold maxLen;omega)
  generalize grownCap w n 0 e=G at e1 e2 hG1 hG2;subst e1
  have hb:w'.heap[w.heap.size]? =some (.cells (#[]++Builtin.zeroCells z n++Builtin.zeroCells z (G-n)) e):=by
   subst e2
   show(w.heap.push _)[w.heap.size]? =_
   rw [Array.getElem?_push,if_pos rfl]
  have hcs:(#[]++Builtin.zeroCells z n++Builtin.zeroCells z (G-n)).size=0+G*T.size e:=by
   rw [Array.size_append,Array.size_append,size_zeroCells,size_zeroCells,hz,hsz]
   simp;omega
  have hold: ∀k,k<w.heap.size→w'.heap[k]? =w.heap[k]? :=by
   intro k hk;subst e2
   show(w.heap.push _)[k]? =_
   rw [Array.getElem?_push,if_neg (by omega)]
  have hsize:w'.heap.size=w.heap.size+1:=by
   subst e2
   show(w.heap.push _).size=_
   rw [Array.size_push]
  refine⟨S,fun k=>k=w.heap.size,fun _ _=>False, ?_,fun j d hj=>by simp at hj,fun _ _ _ _ h=>h.elim,fun _ _ _ h=>h.elim,⟨?_, ?_, ?_,by omega,fun k hk _=>hold k hk,fun _ h=>h,fun _ h=> .inl h,fun _ _ h=>h.elim⟩,fun k h=> .inr (Nat.le_of_eq h.symm),fun k hk=>by have:=hlt k hk;omega⟩
  ·refine .own (fun _=>undef) (fun _ _=>False) hb hcs (by simp) (Nat.zero_le _) hG2 (fun i x hi=>by simp at hi) (fun k=>⟨.inl,fun h=>h.elim id (fun⟨_,h,_⟩=>by simp at h)⟩) (fun i hi=>by simp at hi) (fun i j k hi=>by simp at hi) (fun hs=>by have:=hlt _ hs;omega) (fun i x hi=>by simp at hi)
  ·subst e2;rfl
  ·subst e2;rfl
  ·subst e2;rfl
theorem dZ{P:Program}{T:Tys}{ρ:Go.Shelf.Ren}(hT:Bn P T)(L:Go.Proofs.Lays8.n4 P ρ)(hfn: ∃fn,P.funcs[ρ.f 4]? =some fn∧fn.body.isSome=true∧(fn.name== "runtime.NumGoroutine")=false)
  (hk:T.known (ρ.t 25)=true)(hsz:T.size (ρ.t 25)=1)(n:Nat)(hn:n<1099511627776):Good P T (ρ.f 4) [.konst (.slice none 0 0),.int .i64 n] [] (.own (ρ.t 25) []) []:=by
 obtain⟨i,hi1,hi2,hi3,hi4⟩:=hT.info hk;obtain⟨zs,zl,_⟩:=zeroCells hk;have hb:i.bytes≤128:=hi3 (by omega)
 refine jQ (z:=(EZ T (ρ.t 25)).cells) hfn hsz (by rw [zs,zl,hsz]) (fun w=>Go.Proofs.Any8.slices_Grow_room L none 0 0 0 w (Hq _) (by omega) (by omega) (Hq _)) (fun n w h0 h1=> ?_) n hn
 have hm:(0+n)*i.bytes≤1099511627776*128:=Nat.mul_le_mul (by omega) hb
 have:=Go.Proofs.Any8.slices_Grow_grow L i _ hi1 hi4 (by omega) none 0 0 n [] w (Hq _) (by omega) (by omega) (by omega) (by simp) (fun _=>rfl) (fun a h=>by cases h)
 simp only [JS,Nat.sub_zero]at this;exact this
def Ni(k e f:Nat)(a l:List D):Option (D×List D):=
 if f=k then
  match a,l with
  | [.konst (.slice none 0 0),.int .i64 n],[]=>if 0≤n∧n<1099511627776 then some (.own e [],[])else none
  |_,_=>none
 else none
theorem Vq{P:Program}{T:Tys}{k e:Nat}(hg: ∀n:Nat,n<1099511627776→Good P T k [.konst (.slice none 0 0),.int .i64 n] [] (.own e []) []):
  ∀f a l r outs,Ni k e f a l=some (r,outs)→Good P T f a l r outs:=by
 intro f a l r outs h;unfold Ni at h
 split at h
 ·rename_i hf
  subst hf
  split at h
  ·rename_i n
   split at h
   ·rename_i hn
    simp only [al,Prod.mk.injEq]at h;obtain⟨rfl,rfl⟩:=h;have:=hg n.toNat (by omega)
    rwa [Int.toNat_of_nonneg hn.1]at this
   ·cases h
  ·cases h
 ·cases h
theorem aD(k e:Nat)(n:Int)(h:0≤n∧n<1099511627776):Ni k e k [.konst (.slice none 0 0),.int .i64 n] []=some (.own e [],[]):=by
 unfold Ni;rw [if_pos rfl]
 show(if 0≤n∧n<1099511627776 then some (D.own e [],[])else none)=_
 rw [if_pos h]
end Dv
