/- Value semantics for Go code, part 6: sorting as known calls. Conditions: none beyond those in each lemma. -/
import Derived.Test.YtipfckompmhljaaGreatL5
import Derived.Sort.Grow
import Derived.Sort.Row
import Derived.Laws.AppendOwn
set_option linter.unusedSimpArgs false
set_option linter.unusedVariables false
namespace Dv
open Go
set_option linter.unusedSimpArgs false
theorem aO(w:World)(m b off:Nat)(d:Array Int)(os:Array Obj){cs:Array Value}{t:TypeId}{fr:Nat×Nat}(hb:w.heap[b]? =some (.cells cs t fr)):
  (Go.Sort.grow (Go.Sort.putRow (Value.int .i64) (Go.Sort.ahead w m) b off d) os).heap[b]? =some (.cells (Go.Sort.putCells (Value.int .i64) off d cs) t fr)∧
  (∀k,k<w.heap.size→k≠b→(Go.Sort.grow (Go.Sort.putRow (Value.int .i64) (Go.Sort.ahead w m) b off d) os).heap[k]? =w.heap[k]?)∧
  w.heap.size≤(Go.Sort.grow (Go.Sort.putRow (Value.int .i64) (Go.Sort.ahead w m) b off d) os).heap.size:=by
 have hlt:=(Array.getElem?_eq_some_iff.1 hb).1
 unfold Go.Sort.grow Go.Sort.putRow Go.Sort.mapBlock Go.Sort.ahead
 refine⟨?_,fun k hk hne=> ?_, ?_⟩
 ·simp only
  rw [Array.getElem?_append_left (by simpa using hlt),Array.getElem?_modify,if_pos rfl,hb];rfl
 ·simp only
  rw [Array.getElem?_append_left (by simpa using hk),Array.getElem?_modify,if_neg (Ne.symm hne)]
 ·simp
theorem aP{P:Program}{T:Tys}{f:FuncId}{e:TypeId}(hfn: ∃fn,P.funcs[f]? =some fn∧fn.body.isSome=true∧(fn.name== "runtime.NumGoroutine")=false)(hsz:T.size e=1)
  (hs: ∀(blk off cap:Nat) (zs:List Int) (w:World),Go.Sort.Holds (Value.int .i64) w blk off zs.toArray→blk<w.heap.size→zs.length<4611686018427387904→
   Calls P f #[.slice (some ⟨blk,off,none⟩) zs.length cap] w fun x w'=>x= .returned (.tuple #[])∧ ∃n os,w'=Go.Sort.grow (Go.Sort.putRow (Value.int .i64) (Go.Sort.ahead w n) blk off (zs.mergeSort fun x y=>decide (x≤y)).toArray) os)
  (hn: ∀(p:Option Addr) (cap:Nat) (w:World),Calls P f #[.slice p 0 cap] w fun x w'=>x= .returned (.tuple #[])∧w'=w)
  (zs:List Int)(hl:zs.length<4611686018427387904):
  Good P T f [.vw [100000] 0 0] [.own e (BP zs)] (.tup []) [.own e (BP (zs.mergeSort fun x y=>decide (x≤y)))]:=by
 refine⟨hfn,fun vs gh w S FL hvs hA hL hL0 hLd hlt=> ?_⟩
 obtain⟨v,hv0,hvW⟩:=hA 0 _ rfl
 have hv:v=gh 0:=by
  cases hvW with
  | vw hE hv=>
   obtain⟨j,h1,_,_,h2⟩:=hv
   simp only [G,List.cons.injEq,and_true]at h1
   have:j=0:=by omega
   subst this
   exact h2
 subst hv
 have hvs':vs= #[gh 0]:=by
  apply Array.ext_getElem?
  intro i
  cases i with
  | zero=>simpa using hv0
  | succ i=>rw [Array.getElem?_eq_none (by rw [hvs];simp),Array.getElem?_eq_none (by simp)]
 subst hvs'
 have hW:=hL 0 _ rfl
 have tupW: ∀(w':World),W T S w' V0 GF (.tup []) (.tuple #[]) (fun _=>False):=fun w'=>
  .tup (fun _=>undef) (fun _ _=>False) rfl (by simp) (by simp) (by simp) (by simp)
 have noth: ∀(p:Option Addr) (cap:Nat),zs=[]→gh 0= .slice p 0 cap→
   Calls P f #[gh 0] w fun | .returned v,w'=>MV T gh (.tup []) [.own e (BP (zs.mergeSort fun x y=>decide (x≤y)))] w S FL v w' | _,_=>False:=by
  intro p cap hz hg
  rw [hg]
  refine(hn p cap w).mono fun x w' ⟨h1,h2⟩=> ?_
  subst h1 h2
  refine⟨S,fun _=>False,FL,tupW _,fun j d hj=> ?_,hLd,fun _ _ h=>h.elim,Step.refl _ _ _,fun _ h=>h.elim,hlt⟩
  cases j with
  | zero=>
   simp only [List.getElem?_cons_zero,Option.some.injEq]at hj
   subst hj
   subst hz
   simp only [List.mergeSort_nil]
   exact hW
  | succ j=>simp at hj
 by_cases hz:zs=[]
 ·have: ∃p cap,gh 0= .slice p 0 cap:=by
   subst hz
   generalize hxs:BP []=xs at hW
   generalize gh 0=g0 at hW
   cases hW with
   | own0=>exact⟨_,_,rfl⟩
   | own us Fi hb hcz hn'=>
    rename_i n c cs
    have:xs=[]:=hxs.symm
    rw [this,hsz]at hn'
    simp at hn'
    exact⟨_,_,by rw [←hn']⟩
  obtain⟨p,cap,hg⟩:=this
  exact noth p cap hz hg
 ·have hpos:0<zs.length:=by cases zs with | nil=>exact absurd rfl hz | cons _ _=>simp
  generalize hxs:BP zs=xs at hW
  generalize hg0:gh 0=g0 at hW
  have hxl:xs.length=zs.length:=by rw [←hxs,BZ]
  cases hW with
  | own0=>simp at hxl;omega
  | own us Fi hb hcz hn' hnc hcm hx hF hFb hd hS hw=>
   rename_i b off n c cs
   rw [hsz,Nat.mul_one]at hn' hcz
   have hnz:n=zs.length:=by omega
   subst hnz
   have hxi: ∀i (hi:i<zs.length),xs[i]? =some (.int .i64 zs[i]):=fun i hi=>by rw [←hxs,Mi zs i hi,List.getD_eq_getElem?_getD,List.getElem?_eq_getElem hi];rfl
   have hus: ∀i (hi:i<zs.length),us i= .int .i64 zs[i]∧Em (Fi i):=fun i hi=>by
    have h1:=hw i _ (hxi i hi)
    generalize us i=u at h1
    cases h1 with
    | int h=>exact⟨rfl,h⟩
   have hlt2:=(Array.getElem?_eq_some_iff.1 hb).1
   have hH:Go.Sort.Holds (Value.int .i64) w b off zs.toArray:=by
    intro j hj
    simp only [List.size_toArray]at hj
    refine⟨?_, ?_⟩
    ·have:=Db (o:=off) (i:=j) hb
     rw [LJ]at this
     rw [this,hx j _ (hxi j hj),(hus j hj).1]
     simp [hj]
    ·simp [World.frozen?,hb]
   have hlm:(zs.mergeSort fun x y=>decide (x≤y)).length=zs.length:=List.length_mergeSort _
   refine(hs b off c zs w hH hlt2 hl).mono fun x w' ⟨h1,m,os,h2⟩=> ?_
   subst h1 h2
   obtain⟨k1,k2,k3⟩:=aO w m b off (zs.mergeSort fun x y=>decide (x≤y)).toArray os hb
   have hbF:FL 0 b:=(hF b).2 (.inl rfl)
   refine⟨S,fun _=>False,FL,tupW _,fun j d hj=> ?_,hLd,fun _ _ h=>h.elim,⟨rfl,rfl,rfl,k3,fun k hk hno=>k2 k hk (fun he=>hno 0 (he▸hbF)),fun _ h=>h,fun _ h=> .inl h,fun u k h=> .inl ⟨u,h⟩⟩,fun _ h=>h.elim,fun k hk=>Nat.lt_of_lt_of_le (hlt k hk) k3⟩
   cases j with
   | zero=>
    simp only [List.getElem?_cons_zero,Option.some.injEq]at hj
    subst hj
    rw [hg0]
    refine .own (fun i=> .int .i64 ((zs.mergeSort fun x y=>decide (x≤y)).getD i 0)) Fi k1 (by rw [hsz,Nat.mul_one];simpa [Go.Sort.putCells] using hcz) (by rw [hsz,Nat.mul_one,BZ,hlm]) hnc hcm (fun i y hi=> ?_) (fun k=> ?_) (fun i hi=>hFb i (by rw [BZ,hlm]at hi;omega)) (fun i j k hi hj=>hd i j k (by rw [BZ,hlm]at hi;omega) (by rw [BZ,hlm]at hj;omega)) hS (fun i y hi=> ?_)
    ·have hil:=(List.getElem?_eq_some_iff.1 hi).1
     rw [BZ,hlm]at hil
     unfold Go.Sort.putCells
     have hic:off+i<cs.size:=by omega
     rw [Array.getElem?_mapIdx,Array.getElem?_eq_getElem hic,Option.map_some]
     rw [if_pos (by simp;omega)]
     simp only [Nat.add_sub_cancel_left,Option.some.injEq,Value.int.injEq,true_and]
     rw [List.getD_eq_getElem?_getD]
     simp [hlm,hil]
    ·rw [hF k]
     simp only [hxl,BZ,hlm]
    ·have hil:=(List.getElem?_eq_some_iff.1 hi).1
     rw [BZ]at hil
     rw [Mi _ i hil]at hi
     injection hi with hi
     subst hi
     rw [hlm]at hil
     exact .int (hus i hil).2
   | succ j=>simp at hj
def GA(zs:List Int):List Int:=zs.mergeSort fun x y=>decide (x≤y)
def Km:List D→Option (List Int)
 | []=>some []
 | .int .i64 n::ds=>(Km ds).map (n:: ·)
 | _=>none
theorem OO: ∀(zs:List Int),Km (BP zs)=some zs:=by
 intro zs
 induction zs with
 | nil=>rfl
 | cons z zs ih=>rw [SU,Km,ih];rfl
theorem OP: ∀ {xs:List D} {zs:List Int},Km xs=some zs→xs=BP zs:=by
 intro xs
 induction xs with
 | nil=>intro zs h;simp only [Km,Option.some.injEq]at h;subst h;rfl
 | cons d xs ih=>
  intro zs h
  unfold Km at h
  split at h
  ·rename_i heq;cases heq
  ·rename_i n ds heq
   simp only [List.cons.injEq]at heq
   obtain⟨rfl,rfl⟩:=heq
   simp only [Option.map_eq_some_iff]at h
   obtain⟨ys,h1,rfl⟩:=h
   rw [ih h1,SU]
  ·cases h
def Kn(k e f:Nat)(a l:List D):Option (D×List D):=
 if f=k then
  match a,l with
  | [.vw [100000] 0 0],[.own e' xs]=>if e'=e then(Km xs).bind fun zs=>if zs.length<4611686018427387904 then some (.tup [],[.own e (BP (GA zs))])else none else none
  | _,_=>none
 else none
theorem RQ{P:Program}{T:Tys}{k e:Nat}(hg: ∀zs:List Int,zs.length<4611686018427387904→Good P T k [.vw [100000] 0 0] [.own e (BP zs)] (.tup []) [.own e (BP (GA zs))]):
  ∀f a l r outs,Kn k e f a l=some (r,outs)→Good P T f a l r outs:=by
 intro f a l r outs h
 unfold Kn at h
 split at h
 ·rename_i hf
  subst hf
  split at h
  ·split at h
   ·rename_i he
    subst he
    simp only [Option.bind_eq_some_iff]at h
    obtain⟨zs,h1,h2⟩:=h
    split at h2
    ·rename_i hl
     simp only [Option.some.injEq,Prod.mk.injEq]at h2
     obtain⟨rfl,rfl⟩:=h2
     rw [OP h1]
     exact hg zs hl
    ·cases h2
   ·cases h
  ·cases h
 ·cases h
theorem WZ(k e:Nat)(zs:List Int)(h:zs.length<4611686018427387904):Kn k e k [.vw [100000] 0 0] [.own e (A9 (D.int .i64) zs)]=some (.tup [],[.own e (A9 (D.int .i64) (GA zs))]):=by
 unfold Kn
 rw [if_pos rfl]
 simp only [if_true]
 rw [show A9 (D.int .i64) zs=BP zs from rfl,OO,Option.bind_some,if_pos h];rfl
def Ni(h g:FuncId→List D→List D→Option (D×List D))(f:FuncId)(a l:List D):Option (D×List D):=
 match h f a l with
 | some r=>some r
 | none=>g f a l
theorem OQ{P:Program}{T:Tys}{h g:FuncId→List D→List D→Option (D×List D)}(hh: ∀f a l r outs,h f a l=some (r,outs)→Good P T f a l r outs)(hg: ∀f a l r outs,g f a l=some (r,outs)→Good P T f a l r outs):
  ∀f a l r outs,Ni h g f a l=some (r,outs)→Good P T f a l r outs:=by
 intro f a l r outs he
 unfold Ni at he
 cases hq:h f a l with
 | some q=>rw [hq]at he;simp only [Option.some.injEq]at he;subst he;exact hh _ _ _ _ _ hq
 | none=>rw [hq]at he;exact hg _ _ _ _ _ he
end Dv
namespace Dv
open Go
set_option linter.unusedSimpArgs false
def Lz(e:TypeId)(zs:List Int)(w:World)(x:Ending)(w':World):Prop:=
 ∃v,x= .returned v∧w'.ownsRow w.heap.size e 1 v zs.length ((zs.mergeSort fun x y=>decide (x≤y)).map (Value.int .i64))∧(v= .slice none 0 0↔zs=[])∧Go.RowKit.Below w.heap.size w w'
theorem Wa:Em (fun _:Nat=>False):=fun _ h=>h
theorem aQ{T:Tys}{S:Nat→Prop}{e:TypeId}{w w':World}{v:Value}{zs:List Int}(hsz:T.size e=1)(hS: ∀k,S k→k<w.heap.size)(h:w'.ownsRow w.heap.size e 1 v zs.length (zs.map (Value.int .i64))):
  ∃F:Nat→Prop,W T S w' V0 GF (.own e (BP zs)) v F∧(∀k,F k→w.heap.size≤k):=by
 rcases h.2 with⟨rfl,h0⟩ | ⟨g,cap,cur,rfl,hb,hg,h1,h2,h3,h4⟩
 ·have:zs=[]:=List.eq_nil_of_length_eq_zero h0
  subst this
  exact⟨fun _=>False, .own0 Wa,fun _ h=>h.elim⟩
 ·have hlt:=(Array.getElem?_eq_some_iff.1 hg).1
  refine⟨fun k=>k=g, .own (fun i=> .int .i64 (zs.getD i 0)) (fun _ _=>False) hg (by rw [hsz,Nat.zero_add];exact h3) (by rw [hsz,BZ,Nat.mul_one]) h1 h2 (fun i x hi=> ?_) (fun k=>⟨.inl,fun h=>h.elim id (fun⟨_,_,h⟩=>h.elim)⟩) (fun _ _ h=>h) (fun _ _ _ _ _ _ h=>h.elim) (fun hs=> ?_) (fun i x hi=> ?_),fun k hk=>by rw [hk];exact hb⟩
  ·have hil:=(List.getElem?_eq_some_iff.1 hi).1
   rw [BZ]at hil
   have:cur.toList[i]? =some (Value.int .i64 zs[i]):=by
    have h5:(cur.toList.take (zs.length*1))[i]? =some (Value.int .i64 zs[i]):=by rw [h4];simp [hil]
    rw [List.getElem?_take]at h5
    simpa [hil] using h5
   rw [Nat.zero_add,←Array.getElem?_toList,this,List.getD_eq_getElem?_getD,List.getElem?_eq_getElem hil];rfl
  ·have:=hS _ hs;omega
  ·have hil:=(List.getElem?_eq_some_iff.1 hi).1
   rw [BZ]at hil
   rw [Mi _ i hil]at hi
   injection hi with hi
   subst hi
   exact .int Wa
theorem YR{S:Nat→Prop}{w w':World}{FL:Nat→Nat→Prop}(hb:Go.RowKit.Below w.heap.size w w'):Step w S FL w' S (fun _ _=>False):=
 ⟨hb.os,hb.tape,hb.output,hb.size,fun k hk _=>hb.block k hk,fun _ h=>h,fun _ h=> .inl h,fun _ _ h=>h.elim⟩
theorem Wb{P:Program}{T:Tys}{f g:FuncId}{e:TypeId}(hfn: ∃fn,P.funcs[f]? =some fn∧fn.body.isSome=true∧(fn.name== "runtime.NumGoroutine")=false)(hsz:T.size e=1)
  (h0: ∀(p:Addr) (ad:Option Addr) (cap:Nat) (w:World),p.block<w.heap.size→w.cell? p=some (.slice ad 0 cap)→Calls P f #[.func (.func g) #[] #[.pointer (some p)]] w (Lz e [] w))
  (h1: ∀(p:Addr) (b off cap:Nat) (zs:List Int) (w:World),zs.length<1099511627776→p.block<w.heap.size→w.cell? p=some (.slice (some ⟨b,off,none⟩) zs.length cap)→b<w.heap.size→
   (∀j,j<zs.length→w.cell? ⟨b,off+j,none⟩=some (.int .i64 (zs[j]?.getD 0)))→Calls P f #[.func (.func g) #[] #[.pointer (some p)]] w (Lz e zs w))
  (zs:List Int)(hl:zs.length<1099511627776):
  Good P T f [.clo g [.cptr [.sl e (BP zs)]]] [] (.own e (BP (GA zs))) []:=by
 refine⟨hfn,fun vs gh w S FL hvs hA hL hL0 hLd hlt=> ?_⟩
 obtain⟨v,hv0,hvW⟩:=hA 0 _ rfl
 have hvs':vs= #[v]:=by
  apply Array.ext_getElem?
  intro i
  cases i with
  | zero=>simpa using hv0
  | succ i=>rw [Array.getElem?_eq_none (by rw [hvs];simp),Array.getElem?_eq_none (by simp)]
 subst hvs'
 have fin: ∀x w',Lz e zs w x w'→(match x,w' with | .returned v,w'=>MV T gh (.own e (BP (GA zs))) [] w S FL v w' | _,_=>False):=by
  rintro x w' ⟨v,rfl,hrow,_,hb⟩
  have hlen:(zs.mergeSort fun x y=>decide (x≤y)).length=zs.length:=List.length_mergeSort _
  have hrow':w'.ownsRow w.heap.size e 1 v (GA zs).length ((GA zs).map (Value.int .i64)):=by unfold GA;rw [hlen];exact hrow
  obtain⟨F,hF,hFb⟩:=aQ (T:=T) hsz hlt hrow'
  exact⟨S,F,fun _ _=>False,hF,fun j d hj=>by simp at hj,fun _ _ _ _ h=>h.elim,fun _ _ _ h=>h,YR hb,fun k hk=> .inr (hFb k hk),fun k hk=>Nat.lt_of_lt_of_le (hlt k hk) hb.size⟩
 cases hvW with
 | clo us hE hz hx hw=>
  rename_i ws
  have hx0:=hx 0 _ rfl
  have hw0:=hw 0 _ rfl
  have hws:ws= #[us 0]:=by
   apply Array.ext_getElem?
   intro i
   cases i with
   | zero=>simpa using hx0
   | succ i=>rw [Array.getElem?_eq_none (by rw [hz];simp),Array.getElem?_eq_none (by simp)]
  subst hws
  clear hx hw hx0 hz hv0 hA hvs
  generalize us 0=u at hw0 ⊢
  cases hw0 with
  | cptr us hE hx hw=>
   rename_i p
   obtain⟨hpS,hpc⟩:=hx 0 _ rfl
   have hw0:=hw 0 _ rfl
   have hp0:p.add 0=p:=by simp [Addr.add]
   rw [hp0]at hpc
   clear hx hw
   generalize us 0=u at hw0 hpc
   cases hw0 with
   | sl us hE hn hc hm hx hw=>
    rename_i A n c
    rw [hsz,Nat.mul_one,BZ]at hn
    subst hn
    have hpl:=hlt _ hpS
    by_cases hz:zs=[]
    ·subst hz
     exact(h0 p A c w hpl hpc).mono fin
    ·have hpos:0<zs.length:=by cases zs with | nil=>exact absurd rfl hz | cons _ _=>simp
     have hxi: ∀i (hi:i<zs.length),(BP zs)[i]? =some (.int .i64 zs[i]):=fun i hi=>by rw [Mi zs i hi,List.getD_eq_getElem?_getD,List.getElem?_eq_getElem hi];rfl
     obtain⟨ad,rfl,haS,hac⟩:=hx 0 _ (hxi 0 hpos)
     have hus: ∀i (hi:i<zs.length),us i= .int .i64 zs[i]:=fun i hi=>by
      have h1:=hw i _ (hxi i hi)
      generalize us i=u at h1
      cases h1 with
      | int h=>rfl
     have hsp:ad.spot=none:=by
      rw [show ad.add 0=ad by simp [Addr.add]]at hac
      unfold World.cell? at hac
      split at hac
      ·split at hac
       ·cases hac
       ·rename_i h;simpa using h
      ·cases hac
     obtain⟨b,off,sp⟩:=ad
     simp only at hsp
     subst hsp
     refine(h1 p b off c zs w hl hpl hpc (hlt _ haS) (fun j hj=> ?_)).mono fin
     obtain⟨ad',had,_,hcj⟩:=hx j _ (hxi j hj)
     simp only [Option.some.injEq]at had
     subst had
     rw [hus j hj]at hcj
     have:(⟨b,off,none⟩:Addr).add j=⟨b,off+j,none⟩:=by
      unfold Addr.add;split
      ·rename_i h;subst h;rfl
      ·rfl
     rw [this]at hcj
     rw [hcj,List.getElem?_eq_getElem hj];rfl
def Ja0(k g e f:Nat)(a l:List D):Option (D×List D):=
 if f=k then
  match a,l with
  | [.clo g' [.cptr [.sl e' xs]]],[]=>if g'=g∧e'=e then(Km xs).bind fun zs=>if zs.length<1099511627776 then some (.own e (BP (GA zs)),[])else none else none
  | _,_=>none
 else none
theorem Oc{P:Program}{T:Tys}{k g e:Nat}(hg: ∀zs:List Int,zs.length<1099511627776→Good P T k [.clo g [.cptr [.sl e (BP zs)]]] [] (.own e (BP (GA zs))) []):
  ∀f a l r outs,Ja0 k g e f a l=some (r,outs)→Good P T f a l r outs:=by
 intro f a l r outs h
 unfold Ja0 at h
 split at h
 ·rename_i hf
  subst hf
  split at h
  ·split at h
   ·rename_i he
    obtain⟨rfl,rfl⟩:=he
    simp only [Option.bind_eq_some_iff]at h
    obtain⟨zs,h1,h2⟩:=h
    split at h2
    ·rename_i hl
     simp only [Option.some.injEq,Prod.mk.injEq]at h2
     obtain⟨rfl,rfl⟩:=h2
     rw [OP h1]
     exact hg zs hl
    ·cases h2
   ·cases h
  ·cases h
 ·cases h
theorem RR(k g e:Nat)(zs:List Int)(h:zs.length<1099511627776):Ja0 k g e k [.clo g [.cptr [.sl e (A9 (D.int .i64) zs)]]] []=some (.own e (A9 (D.int .i64) (GA zs)),[]):=by
 unfold Ja0
 rw [if_pos rfl]
 simp only [and_self,if_true]
 rw [show A9 (D.int .i64) zs=BP zs from rfl,OO,Option.bind_some,if_pos h];rfl
theorem Wc{h g:FuncId→List D→List D→Option (D×List D)}{f:FuncId}{a l:List D}{r:D×List D}(e:h f a l=some r):Ni h g f a l=some r:=by
 unfold Ni;rw [e]
end Dv
