/- Value semantics for Go code, part 4: arguments of laws, slim code and rules. Conditions: none beyond those in each lemma. -/
import Derived.Test.YtipfckompmhljaaL3
import Derived.WalkKit
import Derived.ProofKit
import Derived.OpenShut
import Derived.ShutString
import Derived.ChangeOld
import Derived.Below
import Derived.Carry
import Derived.IntWalk
set_option linter.unusedSimpArgs false
set_option linter.unusedVariables false
namespace Dv
open Go
inductive Shp(T:Tys):TypeId→List D→Prop
 | int {t k n} (ht:T.ty t= .int k) (hw:(Lit.int k n).wf=true):Shp T t [.int k n]
 | bool {t b} (ht:T.ty t= .bool):Shp T t [.bool b]
 | string {t s} (ht:T.ty t= .string) (hs:s.size≤maxLen):Shp T t [.str s]
 | slice {t e} {xss:List (List D)} (ht:T.ty t= .slice e) (hx: ∀xs,xs∈xss→Shp T e xs) (hl:xss.length≤maxLen):Shp T t [.sl e xss.flatten]
 | struct {t fs} {ds:List D} (ht:T.ty t= .struct fs) (hl:ds.length=fs.length) (hx: ∀(i:Nat) (f:TypeId) (d:D),fs[i]? =some f→ds[i]? =some d→Shp T f [d]):Shp T t ds
def Oq(T:Tys):Nat→TypeId→Bool
 | 0,_=>false
 | n+1,t=>match T.ty t with
  | .int _=>true
  | .bool=>true
  | .string=>true
  | .slice e=>T.known e&&Oq T n e
  | .struct fs=>(T.nest t).isNone&& !fs.isEmpty&&fs.all (Oq T n)
  | _=>false
theorem Shp.length{T:Tys}{t:TypeId}{ds:List D}(h:Shp T t ds):ds.length=T.size t:=by
 cases h with
 | int ht=>simp [Tys.size,ht,Ty.size]
 | bool ht=>simp [Tys.size,ht,Ty.size]
 | string ht=>simp [Tys.size,ht,Ty.size]
 | slice ht=>simp [Tys.size,ht,Ty.size]
 | struct ht hl=>simp [Tys.size,ht,Ty.size,hl]
theorem Yc{α:Type}{n:Nat}(hn:0<n): ∀(xss:List (List α)),(∀xs∈xss,xs.length=n)→ ∀k:Nat,xss.flatten[k]? =(xss[k / n]?).bind fun xs=>xs[k % n]? :=by
 intro xss
 induction xss with
 | nil=>intro _ k;simp
 | cons xs xss ih=>
  intro h k
  have hx:=h xs (List.mem_cons_self)
  rw [List.flatten_cons]
  rcases Nat.lt_or_ge k n with hk | hk
  ·rw [List.getElem?_append_left (by omega),Nat.div_eq_of_lt hk,Nat.mod_eq_of_lt hk];rfl
  ·rw [List.getElem?_append_right (by omega),ih (fun ys hy=>h ys (List.mem_cons_of_mem _ hy)),hx]
   have h1:k / n=(k-n) / n+1:=by
    rw [Nat.div_eq_sub_div hn hk]
   have h2:k % n=(k-n) % n:=by rw [Nat.mod_eq_sub_mod hk]
   rw [h1,h2];rfl
theorem SX{α:Type}{n:Nat}: ∀(xss:List (List α)),(∀xs∈xss,xs.length=n)→xss.flatten.length=xss.length*n:=by
 intro xss
 induction xss with
 | nil=>intro _;simp
 | cons xs xss ih=>
  intro h
  rw [List.flatten_cons,List.length_append,ih (fun ys hy=>h ys (List.mem_cons_of_mem _ hy)),h xs (List.mem_cons_self),List.length_cons,Nat.add_mul];omega
abbrev dY(w:World):Nat→Prop:=fun k=>k<w.heap.size
section
variable {P:Program} {T:Tys} {H:Type} {enc:TypeId×Value→H} {w:World} {spare:Nat→Bool} {Du:Bool}
theorem Bb.cells(h:Bb P T){t:TypeId}(hk:T.known t=true):P.cellsOf t=T.size t:=by
 obtain⟨i,h1,h2,_⟩:=h.info hk
 simp [Program.cellsOf,h1,h2]
theorem af{n:Nat}{t:TypeId}(h:Oq T n t=true):T.known t=true:=by
 cases n with
 | zero=>cases h
 | succ n=>
  unfold Oq at h
  unfold Tys.known
  cases ht:T.ty t with
  | struct fs=>
   rw [ht]at h
   cases fs with
   | nil=>simp at h
   | cons=>rfl
  | other=>rw [ht]at h;cases h
  | map=>rw [ht]at h;cases h
  | _=>rfl
theorem Yd{t:TypeId}(hk:T.known t=true):0<T.size t:=by
 unfold Tys.known at hk
 unfold Tys.size
 cases ht:T.ty t with
 | struct fs=>
  rw [ht]at hk
  cases fs with
  | nil=>cases hk
  | cons=>simp [Ty.size]
 | _=>simp [Ty.size]
theorem ah{base:Nat}{a:Addr}{n:Nat}{cs:List Value}(h:w.cells? base a n=some cs):cs.length=n∧ ∀i,i<n→w.cell? (a.add i)=cs[i]? :=by
 unfold World.cells? at h
 split at h
 ·exact⟨by simpa using mapM_some_length h,fun i hi=>by have:=mapM_some_get h i i (by simp [hi]);simpa using this⟩
 ·cases h
theorem pX{ad:Addr}{v:Value}(h:w.cell? ad=some v):ad.block<w.heap.size:=by
 rcases Nat.lt_or_ge ad.block w.heap.size with hl | hl
 ·exact hl
 ·have h1:=Array.getElem?_eq_none hl
  simp [World.cell?,h1]at h
theorem jr(hT:Bb P T): ∀(fuel:Nat) (n:Nat) (t:TypeId) (cs:List Value) (x:DataW H×List MemPlace),Oq T n t=true→DataW.trod enc P w 0 spare Du fuel t cs=some x→
  ∃ds,Shp T t ds∧cs.length=ds.length∧ ∀(i:Nat) (d:D),ds[i]? =some d→ ∃v,cs[i]? =some v∧W T (dY w) w V0 Hw d v (fun _=>False):=by
 have hE:Em (fun _:Nat=>False):=fun _ h=>h
 have one: ∀(d0:D) (v0:Value),W T (dY w) w V0 Hw d0 v0 (fun _=>False)→ ∀(i:Nat) (d:D),[d0][i]? =some d→ ∃v,[v0][i]? =some v∧W T (dY w) w V0 Hw d v (fun _=>False):=by
  intro d0 v0 h i d hi
  cases i with
  | zero=>simp at hi;subst hi;exact⟨v0,rfl,h⟩
  | succ i=>simp at hi
 intro fuel
 induction fuel with
 | zero=>intro n t cs x _ h;simp [DataW.trod]at h
 | succ fuel ih=>
  intro n t cs x hd h
  have hk:=af hd
  have h0:=(hT t).1
  unfold Ev at h0
  cases n with
  | zero=>cases hd
  | succ n=>
   unfold Oq at hd
   cases ht:T.ty t<;>rw [ht]at h0 hd<;>simp only at h0 hd
   case int k=>
    obtain⟨m,rfl,_,hw⟩:=DataW.trod_int h0.1 h
    exact⟨[.int k m], .int ht hw,rfl,one _ _ (.int hE)⟩
   case bool=>
    obtain⟨b,rfl,_⟩:=DataW.trod_bool h0.1 h
    exact⟨[.bool b], .bool ht,rfl,one _ _ (.bool hE)⟩
   case string=>
    obtain⟨s,rfl,_,hs⟩:=DataW.trod_string h0.1 h
    exact⟨[.str s], .string ht hs,rfl,one _ _ (.str hE)⟩
   case slice e=>
    simp only [Bool.and_eq_true]at hd
    have hc:=hT.cells hd.1
    have hpos:=Yd hd.1
    rcases DataW.trod_slice h0.1 h with⟨rfl,_⟩ | ⟨a,len,cap,elems,rest,m,hm,rfl,_,_,hl,hcap,hlen,hel,_,_⟩
    ·exact⟨[.sl e ([]:List (List D)).flatten], .slice ht (by simp) (by simp [maxLen]),rfl,one _ _ (.sl (fun _=>undef) hE (by simp) (Nat.le_refl _) (by simp [maxLen]) (by simp) (by simp))⟩
    ·injection hm with hm
     subst hm
     have hex: ∀i,i<len→ ∃ds,Shp T e ds∧ ∀(j:Nat) (d:D),ds[j]? =some d→ ∃v,w.cell? (a.add (i*T.size e+j))=some v∧W T (dY w) w V0 Hw d v (fun _=>False):=by
      intro i hi
      have h1:=hel i hi
      rw [List.getElem?_eq_getElem (by omega),Option.bind_eq_some_iff]at h1
      obtain⟨cs',h2,h3⟩:=h1
      obtain⟨ds,q1,q2,q3⟩:=ih n e cs' _ hd.2 h3
      refine⟨ds,q1,fun j d hj=> ?_⟩
      obtain⟨v,hv,hW⟩:=q3 j d hj
      obtain⟨c1,c2⟩:=ah h2
      rw [hc]at c1 c2
      have hj':j<T.size e:=by rw [←c1];exact(List.getElem?_eq_some_iff.1 hv).1
      have h4:=c2 j hj'
      rw [J7]at h4
      exact⟨v,by rw [h4,hv],hW⟩
     let ch:Nat→List D:=fun i=>if h:i<len then(hex i h).choose else []
     have hch: ∀i,i<len→Shp T e (ch i)∧ ∀(j:Nat) (d:D),(ch i)[j]? =some d→ ∃v,w.cell? (a.add (i*T.size e+j))=some v∧W T (dY w) w V0 Hw d v (fun _=>False):=by
      intro i hi
      have:=(hex i hi).choose_spec
      simp only [ch,hi,dif_pos];exact this
     have hall: ∀xs∈(List.range len).map ch,xs.length=T.size e:=by
      intro xs hxs
      obtain⟨i,hi,rfl⟩:=List.mem_map.1 hxs
      exact(hch i (List.mem_range.1 hi)).1.length
     refine⟨[.sl e ((List.range len).map ch).flatten], .slice ht (fun xs hxs=> ?_) (by simp;omega),rfl,one _ _ ?_⟩
     ·obtain⟨i,hi,rfl⟩:=List.mem_map.1 hxs
      exact(hch i (List.mem_range.1 hi)).1
     ·have key: ∀(i:Nat) (x:D),((List.range len).map ch).flatten[i]? =some x→ ∃v,w.cell? (a.add i)=some v∧W T (dY w) w V0 Hw x v (fun _=>False):=by
       intro i x hi
       rw [Yc hpos _ hall,Option.bind_eq_some_iff]at hi
       obtain⟨xs,h1,h2⟩:=hi
       rw [List.getElem?_map,Option.map_eq_some_iff]at h1
       obtain⟨q,hq,rfl⟩:=h1
       obtain⟨hq1,hq2⟩:=List.getElem?_eq_some_iff.1 hq
       simp only [List.getElem_range]at hq2
       subst hq2
       obtain⟨v,hv,hW⟩:=(hch _ (by simpa using hq1)).2 _ x h2
       rw [show i / T.size e*T.size e+i % T.size e=i by rw [Nat.mul_comm];exact Nat.div_add_mod i (T.size e)]at hv
       exact⟨v,hv,hW⟩
      refine .sl (fun i=>(w.cell? (a.add i)).getD undef) hE (by rw [SX _ hall];simp) hl hcap (fun i x hi=> ?_) (fun i x hi=> ?_)
      ·obtain⟨v,hv,_⟩:=key i x hi
       exact⟨a,rfl,by have:=pX hv;rw [Lc]at this;exact this,by rw [hv];rfl⟩
      ·obtain⟨v,hv,hW⟩:=key i x hi
       simp only [hv,Option.getD_some];exact hW
   case struct fs=>
    simp only [Bool.and_eq_true,List.all_eq_true,Option.isNone_iff_eq_none]at hd
    obtain⟨⟨fields,hu,hfx⟩,hinfo⟩:=h0
    rw [hd.1.1]at hfx
    obtain⟨hfl,hfi⟩:=hfx
    obtain⟨xs,m,hm,_,hcl,hxl,hx⟩:=DataW.trod_struct hu h
    injection hm with hm
    subst hm
    rw [hT.cells hk]at hcl
    have hsz:T.size t=fs.length:=by simp [Tys.size,ht,Ty.size]
    have hex: ∀i,i<fs.length→ ∃d f,fs[i]? =some f∧Shp T f [d]∧ ∃v,cs[i]? =some v∧W T (dY w) w V0 Hw d v (fun _=>False):=by
     intro i hi
     have hif:i<fields.size:=by omega
     obtain⟨f1,f2,f3,f4⟩:=hfi i _ (Array.getElem?_eq_getElem hif)
     have h1:=hx i _ (Array.getElem?_eq_getElem hif)
     have hs1:T.size fields[i].type=1:=by
      unfold Tys.isStruct at f4
      unfold Tys.size
      cases hty:T.ty fields[i].type<;>simp_all [Ty.isStruct,Ty.size]
     rw [f1,hT.cells f3,hs1,List.getElem?_eq_getElem (by omega)]at h1
     obtain⟨ds,q1,q2,q3⟩:=ih n _ _ _ (hd.2 _ (List.mem_of_getElem? f2)) h1
     have hl1:ds.length=1:=by rw [q1.length,hs1]
     obtain⟨d,rfl⟩:=List.length_eq_one_iff.1 hl1
     obtain⟨v,hv,hW⟩:=q3 0 d rfl
     refine⟨d,_,f2,q1,v, ?_,hW⟩
     rw [List.getElem?_take]at hv
     simp only [Nat.zero_lt_one,if_true,List.getElem?_drop,Nat.add_zero]at hv
     exact hv
    let ch:Nat→D:=fun i=>if h:i<fs.length then(hex i h).choose else .undef
    have hch: ∀i,i<fs.length→ ∃f,fs[i]? =some f∧Shp T f [ch i]∧ ∃v,cs[i]? =some v∧W T (dY w) w V0 Hw (ch i) v (fun _=>False):=by
     intro i hi
     have:=(hex i hi).choose_spec
     simp only [ch,hi,dif_pos];exact this
    have hget: ∀(i:Nat) (d:D),((List.range fs.length).map ch)[i]? =some d→i<fs.length∧d=ch i:=by
     intro i d hi
     rw [List.getElem?_map,Option.map_eq_some_iff]at hi
     obtain⟨q,hq,rfl⟩:=hi
     obtain⟨hq1,hq2⟩:=List.getElem?_eq_some_iff.1 hq
     simp only [List.getElem_range]at hq2
     subst hq2
     exact⟨by simpa using hq1,rfl⟩
    refine⟨(List.range fs.length).map ch, .struct ht (by simp) (fun i f d hf hi=> ?_),by simp;omega,fun i d hi=> ?_⟩
    ·obtain⟨h1,rfl⟩:=hget i d hi
     obtain⟨f',hf',hs,_⟩:=hch i h1
     rw [hf]at hf';injection hf' with hf';subst hf';exact hs
    ·obtain⟨h1,rfl⟩:=hget i d hi
     obtain⟨f',hf',hs,v,hv,hW⟩:=hch i h1
     exact⟨v,hv,hW⟩
   all_goals (cases hd)
def top(T:Tys)(t:TypeId)(ds:List D):D:=if T.isStruct t then .agg ds else ds.headD .undef
def Arg(T:Tys)(t:TypeId)(d:D):Prop:= ∃ds,Shp T t ds∧d=top T t ds
theorem A3I(hT:Bb P T){r:Reach}{base n:Nat}{t:TypeId}{v:Value}{d0:DataW H}{ps:List MemPlace}(hd:Oq T n t=true)(hv:Value.okWide P w r base t v)(h:DataW.Trod enc P w 0 spare Du t v d0 ps):
  ∃d,Arg T t d∧W T (dY w) w V0 Hw d v (fun _=>False):=by
 obtain⟨fuel,hf⟩:=h
 obtain⟨ds,q1,q2,q3⟩:=jr hT fuel n t _ _ hd hf
 have hfact:=(hT t).1
 unfold Ev at hfact
 have flat:T.isStruct t=false→v.cells.toList=[v]→ ∃d,Arg T t d∧W T (dY w) w V0 Hw d v (fun _=>False):=by
  intro hs hc
  have hl:ds.length=1:=by rw [←q2,hc];rfl
  obtain⟨d,rfl⟩:=List.length_eq_one_iff.1 hl
  obtain⟨v',hv',hW⟩:=q3 0 d rfl
  rw [hc]at hv'
  simp only [List.getElem?_cons_zero,Option.some.injEq]at hv'
  subst hv'
  exact⟨d,⟨[d],q1,by simp [top,hs]⟩,hW⟩
 cases n with
 | zero=>cases hd
 | succ n=>
  unfold Oq at hd
  cases ht:T.ty t<;>rw [ht]at hfact hd<;>simp only at hfact hd
  case int k=>
   refine flat (by simp [Tys.isStruct,ht,Ty.isStruct]) ?_
   simp only [Value.okWide,hfact.1,Cell.okWide]at hv
   cases v<;>simp_all [Cell.ok,Value.cells]
  case bool=>
   refine flat (by simp [Tys.isStruct,ht,Ty.isStruct]) ?_
   simp only [Value.okWide,hfact.1,Cell.okWide]at hv
   cases v<;>simp_all [Cell.ok,Value.cells]
  case string=>
   refine flat (by simp [Tys.isStruct,ht,Ty.isStruct]) ?_
   simp only [Value.okWide,hfact.1,Cell.okWide]at hv
   cases v<;>simp_all [Cell.ok,Value.cells]
  case slice e=>
   refine flat (by simp [Tys.isStruct,ht,Ty.isStruct]) ?_
   simp only [Value.okWide,hfact.1,Cell.okWide]at hv
   cases v<;>simp_all [Cell.ok,Value.cells]
  case struct fs=>
   obtain⟨⟨fields,hu,_⟩,_⟩:=hfact
   obtain⟨cs,rfl,hcs⟩:=WideShapes.okWide_struct hu hv
   have hval: ∀(i:Nat) (d:D),ds[i]? =some d→cs[i]? =some (cs.getD i undef)∧W T (dY w) w V0 Hw d (cs.getD i undef) (fun _=>False):=by
    intro i d hi
    obtain⟨v,hv',hW⟩:=q3 i d hi
    have:cs[i]? =some v:=by simpa [Value.cells] using hv'
    rw [Array.getD_eq_getD_getElem?,this];exact⟨rfl,hW⟩
   refine⟨.agg ds,⟨ds,q1,by simp [top,Tys.isStruct,ht,Ty.isStruct]⟩, .agg (fun i=>cs.getD i undef) (fun _ _=>False) (by simpa [Value.cells] using q2) (fun i x hi=>(hval i x hi).1) (fun k=>⟨fun h=>h.elim,fun⟨_,_,h⟩=>h⟩) (fun _ _ _ _ _ _ h=>h.elim) (fun i x hi=>(hval i x hi).2)⟩
  all_goals (cases hd)
end
def ze(T:Tys):List TypeId→List D→Prop
 | [],[]=>True
 | t::ts,d::ds=>Arg T t d∧ze T ts ds
 | _,_=>False
theorem args_W{P:Program}{T:Tys}{H:Type}{enc:TypeId×Value→H}{w:World}{r:Reach}{base n:Nat}(hT:Bb P T): ∀(ts:List TypeId) (vs:List Value) (d0:List (DataW H)) (ps:List MemPlace),ts.all (Oq T n)=true→
  (∀(j:Nat) (t:TypeId) (v:Value),ts[j]? =some t→vs[j]? =some v→Value.okWide P w r base t v)→DataW.TrodAll enc P w 0 (fun _=>true) true ts vs d0 ps→
  ∃ds,ze T ts ds∧vs.length=ds.length∧ ∀(i:Nat) (d:D),ds[i]? =some d→ ∃v,vs[i]? =some v∧W T (dY w) w V0 Hw d v (fun _=>False):=by
 intro ts
 induction ts with
 | nil=>
  intro vs d0 ps _ _ h
  cases vs<;>cases d0<;>simp [DataW.TrodAll]at h
  exact⟨[],trivial,rfl,by simp⟩
 | cons t ts ih=>
  intro vs d0 ps hd hv h
  cases vs with
  | nil=>cases d0<;>simp [DataW.TrodAll]at h
  | cons v vs=>
   cases d0 with
   | nil=>simp [DataW.TrodAll]at h
   | cons d0 ds0=>
    simp only [DataW.TrodAll]at h
    obtain⟨p,q,h1,h2,_⟩:=h
    simp only [List.all_cons,Bool.and_eq_true]at hd
    obtain⟨d,ha,hW⟩:=A3I hT hd.1 (hv 0 t v rfl rfl) h1
    obtain⟨ds,hb,hl,hWs⟩:=ih vs ds0 q hd.2 (fun j t' v' hj hj'=>hv (j+1) t' v' (by simpa using hj) (by simpa using hj')) h2
    refine⟨d::ds,⟨ha,hb⟩,by simp [hl],fun i x hi=> ?_⟩
    cases i with
    | zero=>simp at hi;subst hi;exact⟨v,rfl,hW⟩
    | succ i=>simpa using hWs i x (by simpa using hi)
theorem law_calls{Y:Sys}(hY:Y.Ok){f:FuncId}{ds:List D}(hc:Y.call f ds []=some (.bool true,[])){vs:Array Value}{w:World}(hl:vs.size=ds.length)
  (hW: ∀(i:Nat) (d:D),ds[i]? =some d→ ∃v,vs[i]? =some v∧W Y.T (dY w) w V0 Hw d v (fun _=>False)):
  Calls Y.P f vs w fun e w'=>e= .returned (.bool true)∧RowKit.Below w.heap.size w w':=by
 have hg:=Sys.call_good hY hc
 refine Calls.mono (hg.2 vs (fun _=>undef) w (dY w) (fun _ _=>False) hl (fun i d hi=> ?_) (fun j d hj=>by simp at hj) (fun _ _ _ h=>h) (fun _ _ _ _ h=>h.elim) (fun _ h=>h)) ?_
 ·obtain⟨v,hv,hWv⟩:=hW i d hi
  exact⟨v,hv,hWv.up⟩
 ·intro e w' he
  cases e with
  | returned v=>
   obtain⟨S',F,FL',h1,_,_,_,hst,_,_⟩:=he
   cases h1 with
   | bool=>exact⟨rfl,hst.os,hst.tape,hst.output,hst.size,fun k hk=>hst.heap k hk (fun _ h=>h)⟩
  | panicked=>exact he.elim
  | outgrown=>exact he.elim
theorem trodAll_below{H:Type}{enc:TypeId×Value→H}{P:Program}(hl:laidOutB P=true){W W':World}(hb:RowKit.Below W.heap.size W W'): ∀ {ts:List TypeId} {vs:List Value} {ds:List (DataW H)} {ps:List MemPlace},
  ts.all (fun t=>P.readableRec t&&decide (t<P.types.size))=true→DataW.TrodAll enc P W 0 (fun _=>true) true ts vs ds ps→DataW.TrodAll enc P W' 0 (fun b=>decide (b<W.heap.size)) true ts vs ds ps:=by
 intro ts
 induction ts with
 | nil=>
  intro vs ds ps _ h
  cases vs<;>cases ds<;>simp [DataW.TrodAll]at h ⊢
  exact h
 | cons t ts ih=>
  intro vs ds ps hr h
  cases vs with
  | nil=>cases ds<;>simp [DataW.TrodAll]at h
  | cons v vs=>
   cases ds with
   | nil=>simp [DataW.TrodAll]at h
   | cons d ds=>
    simp only [DataW.TrodAll]at h ⊢
    obtain⟨p,q,h1,h2,h3⟩:=h
    simp only [List.all_cons,Bool.and_eq_true,decide_eq_true_eq]at hr
    have lt0: ∀x∈p,x.block<W.heap.size:=by obtain⟨m,hm⟩:=h1;exact DataW.trod_lt m _ _ _ hm
    exact⟨p,q,RowKit.Below.trod hl hr.1.1 hr.1.2 h1 hb lt0,ih (by simpa using hr.2) h2,h3⟩
end Dv
namespace Dv
open Go
theorem nr{α:Type}{a b:α}(h:a=b):a=b:=h
structure SOp where
 dst:Option Tmp
 op:Op
 type:TypeId
 guard:Option (Option Tmp×Bool)
structure PmL where
 n:List Nat
 r:List Nat
 w:List Nat
def PmL.pm(l:PmL):Pm:=⟨fun r=>l.n.contains r|| !l.r.contains r,fun r=>l.w.contains r⟩
inductive SC where
 | skip
 | ops (l:List SOp)
 | draws (l:List (PmL×SOp))
 | seq (a b:SC)
 | cond (c:Operand) (a b:SC)
 | block (id:Nat) (c:SC)
 | loop (c:SC)
 | exit (id:Nat)
 | ret
 | bad
def O3(ops:Array Oper)(o:Oper):SOp:=⟨o.dst,o.op,o.type,match o.guard with | none=>none | some (j,b)=>some ((ops[j]?).bind (·.dst),b)⟩
def Bh(lends:FuncId→Bool):Code→SC
 | .skip=> .skip
 | .region _ ops draw=>
  if draw then
   (if Mh lends ops.toList then .draws (ops.toList.map fun o=>(⟨FV ops.toList o,ops.toList.flatMap (Df lends ops.toList),Df lends ops.toList o⟩,O3 ops (Rc lends ops.toList o)))else .bad)
  else .ops (ops.toList.map fun o=>O3 ops (tag lends ops.toList o))
 | .seq a b=> .seq (Bh lends a) (Bh lends b)
 | .cond c a b=> .cond c (Bh lends a) (Bh lends b)
 | .block id c=> .block id (Bh lends c)
 | .loop c=> .loop (Bh lends c)
 | .exit id=> .exit id
 | .ret=> .ret
 | _=> .bad
def JX(E:Env)(pm:Pm)(s:St)(dst:Option Tmp)(op:Op)(type:TypeId):Option St:=oV E pm s ⟨dst,op,type, "", #[],none⟩
def Nq(E:Env)(pm:Pm)(s:St)(o:SOp):Option St:=
 match o.guard with
 | none=>JX E pm s o.dst o.op o.type
 | some (none,_)=>some (s.putO o.dst (.konst undef))
 | some (some t,b)=>
  match s.v t with
  | .bool b'=>if b'==b then JX E pm s o.dst o.op o.type else some (s.putO o.dst (.konst undef))
  | .konst (.tuple _)=>some (s.putO o.dst (.konst undef))
  | _=>none
def jv(E:Env):List SOp→St→Option St
 | [],s=>some s
 | o::l,s=>(Nq E Pm.all s o).bind fun s'=>jv E l s'
def EJ(pm:Pm)(s:St)(op:Op):Bool:=
 match op with
 | .move (.tmp u)=> !(s.v u).hasObj||(s.v u).isObj||pm.wr u
 | _=>true
def Ye(E:Env):List (PmL×SOp)→St→Option St
 | [],s=>some s
 | (p,o)::l,s=>if EJ p.pm s o.op then(Nq E p.pm s o).bind fun s'=>Ye E l s' else none
noncomputable def DR(E:Env):SC→St→Option (Ex×St)
 | .skip,s=>some (.normal,s)
 | .ops l,s=>(jv E l s).map fun s'=>(.normal,s')
 | .draws l,s=>(Ye E l s).map fun s'=>(.normal,s')
 | .seq a b,s=>
  match DR E a s with
  | some (.normal,s')=>DR E b s'
  | r=>r
 | .cond c a b,s=>
  match ev E.T s 0 c with
  | some (.bool t)=>if t then DR E a s else DR E b s
  | _=>none
 | .block id c,s=>
  match DR E c s with
  | some (.exit j,s')=>if j=id then some (.normal,s')else some (.exit j,s')
  | r=>r
 | .loop c,s=>Re (DR E c) s
 | .exit id,s=>some (.exit id,s)
 | .ret,s=>some (.ret,s)
 | .bad,_=>none
theorem Yf(E:Env)(ops:Array Oper)(pm:Pm)(s:St)(o:Oper):Nq E pm s (O3 ops o)=IR E ops pm s o:=by
 obtain⟨dst,op,type,pos,after,guard⟩:=o
 unfold Nq IR LZ O3
 cases guard with
 | none=>rfl
 | some g=>
  obtain⟨j,b⟩:=g
  simp only
  cases (ops[j]?).bind (·.dst)with
  | none=>rfl
  | some t=>
   simp only
   cases hv:s.v t with
   | bool b'=>simp only;cases hb:(b'==b)<;>simp<;>rfl
   | konst v=>cases v<;>rfl
   | _=>rfl
theorem pY(E:Env)(ops:Array Oper): ∀(l:List Oper) (s:St),jv E (l.map fun o=>O3 ops (tag E.lends ops.toList o)) s=U2 E ops s l:=by
 intro l
 induction l with
 | nil=>intro s;rfl
 | cons o l ih=>
  intro s
  simp only [List.map_cons,jv,U2,Yf]
  cases IR E ops Pm.all s (tag E.lends ops.toList o)with
  | none=>rfl
  | some s'=>simp only [Option.bind_some];exact ih s'
theorem jw(E:Env)(ops:Array Oper)(l0:List Oper): ∀(l:List Oper) (s:St),
  Ye E (l.map fun o=>(⟨FV l0 o,l0.flatMap (Df E.lends l0),Df E.lends l0 o⟩,O3 ops (Rc E.lends ops.toList o))) s=Nn E ops l0 s l:=by
 intro l
 induction l with
 | nil=>intro s;rfl
 | cons o l ih=>
  intro s
  simp only [List.map_cons,Ye,Nn,Yf]
  have h1:(PmL.mk (FV l0 o) (l0.flatMap (Df E.lends l0)) (Df E.lends l0 o)).pm=I4 E.lends l0 o:=nr rfl
  have h2:EJ (I4 E.lends l0 o) s (O3 ops (Rc E.lends ops.toList o)).op=Zm (I4 E.lends l0 o) s o:=nr rfl
  rw [h1,h2]
  split
  ·cases IR E ops (I4 E.lends l0 o) s (Rc E.lends ops.toList o)with
   | none=>rfl
   | some s'=>simp only [Option.bind_some];exact ih s'
  ·rfl
theorem jy(E:Env): ∀(c:Code),DR E (Bh E.lends c)=DN E c:=by
 intro c
 induction c with
 | skip=>rfl
 | region id ops draw=>
  funext s
  simp only [Bh,DN]
  cases draw with
  | true=>
   simp only [if_true]
   split
   ·simp only [DR];rw [jw]
   ·rfl
  | false=>simp only [Bool.false_eq_true,if_false,DR];rw [pY]
 | seq a b iha ihb=>funext s;simp only [Bh,DR,DN,iha,ihb];rfl
 | cond x a b iha ihb=>funext s;simp only [Bh,DR,DN,iha,ihb];rfl
 | block id c ih=>funext s;simp only [Bh,DR,DN,ih];rfl
 | loop c ih=>funext s;simp only [Bh,DR,DN,ih]
 | exit id=>rfl
 | ret=>rfl
 | rangeFunc=>rfl
 | scope=>rfl
 | label=>rfl
 | goto=>rfl
 | refuse=>rfl
def Bq(E:Env)(c:SC)(Q:Ex→St→Prop)(s:St):Prop:= ∃ex s',DR E c s=some (ex,s')∧Q ex s'
section
variable {E:Env} {Q:Ex→St→Prop} {s:St}
def Yg(E:Env)(b:SC)(Q:Ex→St→Prop):Ex→St→Prop
 | .normal,s=>Bq E b Q s
 | ex,s=>Q ex s
def inBlock(id:Nat)(Q:Ex→St→Prop):Ex→St→Prop
 | .exit j,s=>if j=id then Q .normal s else Q (.exit j) s
 | ex,s=>Q ex s
theorem zf{a b:SC}(h:Bq E a (Yg E b Q) s):Bq E (.seq a b) Q s:=by
 obtain⟨ex,s1,h1,h2⟩:=h
 cases ex with
 | normal=>
  obtain⟨ex',s2,h3,h4⟩:=h2
  exact⟨ex',s2,by simp [DR,h1,h3],h4⟩
 | exit id=>exact⟨_,s1,by simp [DR,h1],h2⟩
 | ret=>exact⟨_,s1,by simp [DR,h1],h2⟩
theorem kC{id:Nat}{c:SC}(h:Bq E c (inBlock id Q) s):Bq E (.block id c) Q s:=by
 obtain⟨ex,s1,h1,h2⟩:=h
 cases ex with
 | normal=>exact⟨_,s1,by simp [DR,h1],h2⟩
 | exit j=>
  simp only [inBlock]at h2
  by_cases hj:j=id
  ·subst hj;rw [if_pos rfl]at h2;exact⟨.normal,s1,by simp [DR,h1],h2⟩
  ·rw [if_neg hj]at h2;exact⟨_,s1,by simp [DR,h1,hj],h2⟩
 | ret=>exact⟨_,s1,by simp [DR,h1],h2⟩
theorem Ay{c:SC}{Q':Ex→St→Prop}(h:Bq E c Q s)(hq: ∀ex s,Q ex s→Q' ex s):Bq E c Q' s:=by
 obtain⟨ex,s1,h1,h2⟩:=h;exact⟨ex,s1,h1,hq _ _ h2⟩
def ai(I:St→Prop)(Q:Ex→St→Prop):Ex→St→Prop
 | .normal,s=>I s
 | ex,s=>Q ex s
end
def fin(T:Tys)(n:Nat)(rs:List ResultVar)(r:D×List D):Ex→St→Prop
 | .normal,s=>U3 T n rs s=some r
 | .ret,s=>U3 T n rs s=some r
 | .exit _,_=>False
theorem Sys.call_wp{Y:Sys}{f:FuncId}{fn:Func}{c:Code}{k:SC}{a l:List D}{r:D×List D}(hb:Y.base f a l=none)(hf:Y.P.funcs[f]? =some fn)(hok:CB fn a.length=true)
  (hbody:fn.body=some c)(hk:Bh Y.lends c=k)(h:Bq Y.env k (fin Y.T l.length fn.results.toList r) (entry a l)):Y.call f a l=some r:=by
 refine Sys.call_run hb hf hok ?_
 obtain⟨ex,s1,h1,h2⟩:=h
 unfold Xy
 rw [←hk]at h1
 have h3:DR Y.env (Bh Y.env.lends c)=DN Y.env c:=jy Y.env c
 have h4:DN Y.env c (entry a l)=some (ex,s1):=by rw [←h3];exact h1
 rw [hbody]
 simp only [h4]
 cases ex with
 | normal=>exact h2
 | ret=>exact h2
 | exit id=>exact h2.elim
section
variable (E:Env) (pm:Pm) (s:St) (dst:Option Tmp) (ty:TypeId)
theorem aj(op:Op):Nq E pm s ⟨dst,op,ty,none⟩=JX E pm s dst op ty:=nr rfl
def grd(E:Env)(pm:Pm)(s:St)(dst:Option Tmp)(op:Op)(ty:TypeId)(b:Bool)(d:D):Option St:=
 match d with
 | .bool b'=>if b'==b then JX E pm s dst op ty else some (s.putO dst (.konst undef))
 | .konst (.tuple _)=>some (s.putO dst (.konst undef))
 | _=>none
theorem Yh(op:Op)(t:Tmp)(b:Bool):Nq E pm s ⟨dst,op,ty,some (some t,b)⟩=grd E pm s dst op ty b (s.v t):=nr rfl
theorem AB6(op:Op)(b':Bool):grd E pm s dst op ty true (.bool b')=if b'=true then JX E pm s dst op ty else some (s.putO dst (.konst undef)):=by cases b'<;>rfl
theorem AB7(op:Op)(b':Bool):grd E pm s dst op ty false (.bool b')=if b'=true then some (s.putO dst (.konst undef))else JX E pm s dst op ty:=by cases b'<;>rfl
theorem AB8(op:Op)(b:Bool):grd E pm s dst op ty b (.konst undef)=some (s.putO dst (.konst undef)):=nr rfl
def pk(s:St)(dst:Option Tmp)(c a b:Option D):Option St:=
 match c,a,b with
 | some (.bool t),some x,some y=>if(if t then x else y).hasObj then none else some (s.putO dst (if t then x else y))
 | _,_,_=>none
theorem kD(c a b:Operand):JX E pm s dst (.pick c a b) ty=pk s dst (ev E.T s ty c) (ev E.T s ty a) (ev E.T s ty b):=nr rfl
theorem pkT(x y:D)(h:x.hasObj=false):pk s dst (some (.bool true)) (some x) (some y)=some (s.putO dst x):=by simp [pk,h]
theorem pkF(x y:D)(h:y.hasObj=false):pk s dst (some (.bool false)) (some x) (some y)=some (s.putO dst y):=by simp [pk,h]
theorem pkB(t p q:Bool):pk s dst (some (.bool t)) (some (.bool p)) (some (.bool q))=some (s.putO dst (.bool (if t then p else q))):=by cases t<;>rfl
theorem hoB(b:Bool):(D.bool b).hasObj=false:=by simp [D.hasObj]
theorem hoI(k:IntKind)(n:Int):(D.int k n).hasObj=false:=by simp [D.hasObj]
theorem hoS(b:ByteArray):(D.str b).hasObj=false:=by simp [D.hasObj]
theorem gK(t:TypeId):JX E pm s dst (.alloc t) ty=if E.T.known t then some (s.putO dst (.box (E.T.zeros t)))else none:=nr rfl
theorem pg(t:TypeId)(x:Operand):JX E pm s dst (.box t x) ty=if ty=900003 then(Mg E.T pm s dst t x).bind fun s1=>EU pm s1 dst else Mg E.T pm s dst t x:=nr rfl
theorem kE(t:TypeId)(x:Operand):Mg E.T pm s dst t x=match RY (ev E.T s t x)with
  | some ds=>if E.T.isStruct t then some (s.putO dst (.box ds))else none
  | none=>
   match take E.T pm s t x with
   | some (d,s1)=>if E.T.isStruct t==d.isAgg then some (s1.putO dst (.box d.asCells))else none
   | none=>none:=nr rfl
theorem gL(t:TypeId)(parts:Array (Nat×Operand)):JX E pm s dst (.build t parts) ty=match E.T.nest t with
  | some fl=>if E.T.isStruct t&&E.T.known t then(IQ E.T pm fl s (E.T.zeros t) parts.toList).map fun r=>r.2.putO dst (.agg r.1)else none
  | none=>match E.T.ty t with
   | .struct fs=>if E.T.known t then(Et E.T pm (fun i=>fs.getD i 0) 1 s (E.T.zeros t) parts.toList).map fun r=>r.2.putO dst (.agg r.1)else none
   | _=>none:=nr rfl
theorem SY(t:TypeId)(len:Nat)(parts:Array (Nat×Operand)):JX E pm s dst (.buildSlice t len parts) ty=if ty=900004 then(Ra E.T pm s dst t len parts).bind fun s1=>LX pm s1 dst else Ra E.T pm s dst t len parts:=nr rfl
def stF(pm:Pm)(a:Operand):Option St→Option St
 | some s1=>EU pm s1 (Vl a)
 | none=>none
theorem kF(a:Operand)(o:Option St):stF pm a o=o.bind fun s1=>EU pm s1 (Vl a):=by cases o<;>rfl
theorem gM(t:TypeId)(a x:Operand):JX E pm s none (.store t a x) ty=if ty=900007 then EF E.T pm t a (JQ E.T pm s t x)else if ty=900010 then QE E.T pm s t a x else if ty=900011 then stF pm a (IP E.T pm s t a x)else IP E.T pm s t a x:=by
 rw [kF];rfl
def Hr(s:St)(dst:Option Tmp):Option D→Option St
 | some r=>some (s.putO dst r)
 | none=>none
theorem A3J(r:D):Hr s dst (some r)=some (s.putO dst r):=nr rfl
def Sa(dst:Option Tmp):Option (D×St)→Option St
 | some r=>some (r.2.putO dst r.1)
 | none=>none
theorem A3K(r:D)(s:St):Sa dst (some (r,s))=some (s.putO dst r):=nr rfl
def Ot(T:Tys)(s:St)(dst:Option Tmp)(op:BinOp)(t:TypeId):Option D→Option D→Option St
 | some a,some b=>if LJ T t a then Hr s dst (Ck op a b)else none
 | _,_=>none
theorem A3L(T:Tys)(op:BinOp)(t:TypeId)(a b:D):Ot T s dst op t (some a) (some b)=if LJ T t a then Hr s dst (Ck op a b)else none:=nr rfl
def zg(pm:Pm)(dst:Option Tmp)(u:Tmp):Option St→Option St
 | some s1=>Xv pm s1 dst u
 | none=>none
def fbC(pm:Pm)(s1:St)(u:Tmp):D→Option St
 | .bool b=>if b then some s1 else EU pm s1 (some u)
 | _=>none
theorem ABA(s1:St)(t u:Tmp)(h:pm.rd t=true):zg pm (some t) u (some s1)=fbC pm s1 u (s1.v t):=by
 show(if pm.rd t then _ else none)=_
 rw [if_pos h]
 cases s1.v t<;>rfl
theorem kG(op:BinOp)(t:TypeId)(x y:Operand)(t':TypeId):JX E pm s dst (.binOp op t x y t') ty=if ty<2000000 then Gb E.T pm s dst op t x y else zg pm dst (ty-2000000) (Gb E.T pm s dst op t x y):=by
 show(if ty<2000000 then Gb E.T pm s dst op t x y else(Gb E.T pm s dst op t x y).bind fun s1=>Xv pm s1 dst (ty-2000000))=_
 cases Gb E.T pm s dst op t x y<;>rfl
theorem NW(op:BinOp)(t:TypeId)(x y:Operand)(hq:Xt E.T op t y=none):Gb E.T pm s dst op t x y=Ot E.T s dst op t (ev E.T s t x) (ev E.T s t y):=by
 unfold Gb
 rw [hq]
 simp only
 cases ev E.T s t x<;>cases ev E.T s t y<;>simp only [Ot]
 rename_i a b
 cases Ck op a b<;>rfl
theorem ABB(op:BinOp)(t:TypeId)(x:Operand)(u:Tmp)(t':TypeId):JX E pm s dst (.binOp op t x (.tmp u) t') ty=if ty<2000000 then Ot E.T s dst op t (ev E.T s t x) (some (s.v u))else zg pm dst (ty-2000000) (Ot E.T s dst op t (ev E.T s t x) (some (s.v u))):=by
 rw [kG,NW E pm s dst op t x (.tmp u) rfl];rfl
theorem ABC(op:BinOp)(t:TypeId)(x:Operand)(k:IntKind)(n:Int)(t':TypeId):JX E pm s dst (.binOp op t x (.const (.int k n)) t') ty=if ty<2000000 then Ot E.T s dst op t (ev E.T s t x) (some (.int k n))else zg pm dst (ty-2000000) (Ot E.T s dst op t (ev E.T s t x) (some (.int k n))):=by
 rw [kG,NW E pm s dst op t x _ rfl];rfl
theorem A3M(op:BinOp)(t:TypeId)(x:Operand)(b:Bool)(t':TypeId):JX E pm s dst (.binOp op t x (.const (.bool b)) t') ty=if ty<2000000 then Ot E.T s dst op t (ev E.T s t x) (some (.bool b))else zg pm dst (ty-2000000) (Ot E.T s dst op t (ev E.T s t x) (some (.bool b))):=by
 rw [kG,NW E pm s dst op t x _ rfl];rfl
theorem A3N(op:BinOp)(t:TypeId)(x:Operand)(b:ByteArray)(t':TypeId):JX E pm s dst (.binOp op t x (.const (.string b)) t') ty=if ty<2000000 then Ot E.T s dst op t (ev E.T s t x) (some (.str b))else zg pm dst (ty-2000000) (Ot E.T s dst op t (ev E.T s t x) (some (.str b))):=by
 rw [kG,NW E pm s dst op t x _ rfl];rfl
def ak(s:St)(dst:Option Tmp)(q:Bool):Option Bool→Option St
 | some b=>some (s.putO dst (.bool (b==q)))
 | none=>none
theorem A3O(b:Bool):ak s dst true (some b)=some (s.putO dst (.bool b)):=by cases b<;>rfl
theorem A3P(b:Bool):ak s dst false (some b)=some (s.putO dst (.bool (!b))):=by cases b<;>rfl
def rq(op:BinOp)(s:St)(dst:Option Tmp)(r:Option Bool)(o:Option St):Ty→Option St
 | .slice _=>match op with | .eql=>ak s dst true r | .neq=>ak s dst false r | _=>o
 | _=>o
theorem ABD(r:Option Bool)(o:Option St)(e:TypeId):rq .eql s dst r o (.slice e)=ak s dst true r:=nr rfl
theorem ABE(r:Option Bool)(o:Option St)(e:TypeId):rq .neq s dst r o (.slice e)=ak s dst false r:=nr rfl
theorem pq(op:BinOp)(t:TypeId)(u:Tmp):Gb E.T pm s dst op t (.tmp u) (.const (.slice none 0 0))=rq op s dst (OL pm s (s.v u)) (Ot E.T s dst op t (some (s.v u)) (ev E.T s t (.const (.slice none 0 0)))) (E.T.ty t):=by
 have key: ∀q,Xt E.T op t (.const (.slice none 0 0))=some q→Gb E.T pm s dst op t (.tmp u) (.const (.slice none 0 0))=ak s dst q (OL pm s (s.v u)):=by
  intro q hq
  unfold Gb
  rw [hq]
  simp only [ev,Option.bind_some]
  cases OL pm s (s.v u)<;>rfl
 cases ht:E.T.ty t with
 | slice e=>
  cases op<;>first
   | (simp only [rq];exact key true (by simp [Xt,ht]))
   | (simp only [rq];exact key false (by simp [Xt,ht]))
   | (simp only [rq];exact NW E pm s dst _ t _ _ (by simp [Xt,ht]))
 | _=>exact NW E pm s dst _ t _ _ (by simp [Xt,ht])
theorem zh(op:BinOp)(t:TypeId)(u:Tmp)(t':TypeId):JX E pm s dst (.binOp op t (.tmp u) (.const (.slice none 0 0)) t') ty=if ty<2000000 then rq op s dst (OL pm s (s.v u)) (Ot E.T s dst op t (some (s.v u)) (ev E.T s t (.const (.slice none 0 0)))) (E.T.ty t)
  else zg pm dst (ty-2000000) (rq op s dst (OL pm s (s.v u)) (Ot E.T s dst op t (some (s.v u)) (ev E.T s t (.const (.slice none 0 0)))) (E.T.ty t)):=by
 rw [kG,pq]
theorem ABF(e:TypeId)(x:D)(xs:List D):OL pm s (.sl e (x::xs))=some false:=nr rfl
theorem A3Q(e:TypeId)(x:D)(xs:List D):OL pm s (.own e (x::xs))=some false:=nr rfl
theorem ndK(A:Option Addr)(n c:Nat):OL pm s (.konst (.slice A n c))=some A.isNone:=nr rfl
theorem Yi(src d:TypeId)(x:Operand):JX E pm s dst (.convert src d x) ty=if E.T.known src then
   match ev E.T s src x,E.T.ty d with
   | some (.int _ n), .int k=>some (s.putO dst (.int k (k.wrap n)))
   | some (.str b), .string=>some (s.putO dst (.str b))
   | _,_=>none
  else none:=nr rfl
theorem WM(f:FuncId)(first captured:Array Operand):JX E pm s dst (.makeFunc (.func f) first captured) ty=if ty<3000000 then(if first.isEmpty then(Jt pm s captured.toList).map fun r=>r.2.putO dst (.clo f r.1)else none)
  else(if first.isEmpty then(RZ pm s (ty-3000000) captured.toList).map fun r=>r.2.putO dst (.ocl false f r.1)else none):=nr rfl
theorem UD(t:TypeId)(l c:Operand):JX E pm s dst (.makeSlice t l c) ty=if ty=900012 then(U1 E.T s dst t l c).bind fun s1=>LX pm s1 dst else U1 E.T s dst t l c:=nr rfl
theorem WN(x:Operand):JX E pm s dst (.nilCheck x) ty=(ev E.T s ty x).bind fun d=>
   match d with
   | .box _=>some (Bg s dst x d)
   | .vw L n m=>match s.look pm L n m with | some (.box _)=>some (Bg s dst x d) | _=>none
   | .pe L _ n m=>match s.look pm L n m with | some _=>some (Bg s dst x d) | none=>none
   | .cptr _=>some (Bg s dst x d)
   | .clo _ _=>some (Bg s dst x d)
   | .ocl false _ _=>some (Bg s dst x d)
   | _=>none:=nr rfl
theorem au(x y:Operand)(t t':TypeId):JX E pm s dst (.call ⟨.builtin .append, #[x,y], #[t,t']⟩) ty=if t=t' then(if zS (ev E.T s t y)then KM E.T pm s t x else Es E.T pm s t x y).map fun r=>r.2.putO dst r.1 else none:=nr rfl
theorem kH(f:FuncId)(args:Array Operand)(ts:Array TypeId):JX E pm s dst (.call ⟨.value (.func f),args,ts⟩) ty=if args.size=ts.size then I1 E pm s dst f (args.toList.zip (Us ty ts.toList)) []else none:=nr rfl
theorem gN(u:Tmp)(args:Array Operand)(ts:Array TypeId):JX E pm s dst (.call ⟨.value (.tmp u),args,ts⟩) ty=match s.v u with
   | .clo f caps=>if args.size=ts.size then I1 E pm s dst f (args.toList.zip ts.toList) caps else none
   | .ocl false f caps=>if args.size=ts.size then KN E pm s dst f (args.toList.zip ts.toList) caps else none
   | _=>none:=nr rfl
end
theorem zi(T:Tys)(s:St)(t:TypeId)(u:Tmp):ev T s t (.tmp u)=some (s.v u):=nr rfl
theorem zk(T:Tys)(s:St)(t:TypeId)(k:IntKind)(n:Int):ev T s t (.const (.int k n))=some (.int k n):=nr rfl
theorem pu(T:Tys)(s:St)(t:TypeId)(b:Bool):ev T s t (.const (.bool b))=some (.bool b):=nr rfl
theorem zm(T:Tys)(s:St)(t:TypeId)(b:ByteArray):ev T s t (.const (.string b))=some (.str b):=nr rfl
theorem zn(T:Tys)(s:St)(t:TypeId):ev T s t (.const (.slice none 0 0))=match T.ty t with | .slice e=>some (.own e []) | .other=>some (.konst (.slice none 0 0)) | _=>none:=nr rfl
theorem pz(T:Tys)(s:St)(t:TypeId)(f:FuncId):ev T s t (.func f)=some (.clo f []):=nr rfl
theorem A3R(s:St)(t u:Nat)(d:D):(s.put t d).v u=if u=t then d else s.v u:=by rw [rf];rfl
theorem A3S(s:St)(t u:Nat)(d:D):(s.put t d).k u=if u=t then(if d.hasObj then s.k t+1 else s.k t)else s.k u:=by
 unfold St.put
 by_cases h:u=t
 ·subst h;cases hd:d.hasObj<;>simp [Kk]
 ·cases hd:d.hasObj<;>simp [Kk,h]
theorem A3T(s:St)(t u:Nat)(d:D):(s.put t d).m u=s.m u:=by unfold St.put;split<;>rfl
theorem A3U(s:St)(t u:Nat):(s.clr t).v u=if u=t then .undef else s.v u:=nr rfl
theorem A3V(s:St)(t u:Nat):(s.clr t).k u=s.k u:=nr rfl
theorem A3W(s:St)(t u:Nat):(s.clr t).m u=s.m u:=nr rfl
theorem zo(s:St)(t u:Nat):(s.bump t).v u=s.v u:=nr rfl
theorem zq(s:St)(t u:Nat):(s.bump t).k u=s.k u:=nr rfl
theorem zt(s:St)(t u:Nat):(s.bump t).m u=if u=t then s.m t+1 else s.m u:=nr rfl
theorem A3X(s:St)(t u:Nat)(p:AA)(d:D):(s.set (t::p) d).v u=if u=t then Er (s.v t) p d else s.v u:=nr rfl
theorem A3Y(s:St)(t u:Nat)(p:AA)(d:D):(s.set (t::p) d).k u=s.k u:=nr rfl
theorem A3Z(s:St)(t u:Nat)(p:AA)(d:D):(s.set (t::p) d).m u=s.m u:=nr rfl
theorem gP(s:St)(t:Tmp)(d:D):s.putO (some t) d=s.put t d:=nr rfl
theorem gQ(s:St)(d:D):s.putO none d=s:=nr rfl
theorem A3a(Y:Sys):Y.env.T=Y.T:=nr rfl
theorem gT(Y:Sys):Y.env.lends=Y.lends:=nr rfl
theorem kI(Y:Sys):Y.env.call=Y.call:=nr rfl
theorem qA(a l:List D)(t:Nat):(entry a l).v t=if t<G then a.getD t .undef else l.getD (t-G) .undef:=nr rfl
theorem qB(a l:List D)(t:Nat):(entry a l).k t=0:=nr rfl
theorem qC(a l:List D)(t:Nat):(entry a l).m t=0:=nr rfl
theorem Lj{r:Ex×St}{Q:Ex→St→Prop}:(∃ex s',some r=some (ex,s')∧Q ex s')=Q r.1 r.2:=
 propext ⟨fun⟨ex,s',h,hq⟩=>by injection h with h;subst h;exact hq,fun h=>⟨r.1,r.2,rfl,h⟩⟩
section
variable (E:Env) (Q:Ex→St→Prop) (s:St)
theorem A3b:Bq E .skip Q s=Q .normal s:=Lj
theorem A3c(id:Nat):Bq E (.exit id) Q s=Q (.exit id) s:=Lj
theorem ABG:Bq E .ret Q s=Q .ret s:=Lj
theorem ABH:Bq E (.ops []) Q s=Q .normal s:=Lj
def nxt(E:Env)(l:List SOp)(Q:Ex→St→Prop):Option St→Prop
 | some s=>Bq E (.ops l) Q s
 | none=>False
theorem ABJ(l:List SOp):nxt E l Q (some s)=Bq E (.ops l) Q s:=nr rfl
theorem A3d(o:SOp)(l:List SOp):Bq E (.ops (o::l)) Q s=nxt E l Q (Nq E Pm.all s o):=by
 unfold Bq
 simp only [DR,jv]
 cases Nq E Pm.all s o with
 | none=>simp [nxt]
 | some s'=>simp [nxt,Bq,DR]
theorem A3e:Bq E (.draws []) Q s=Q .normal s:=Lj
def kJ(E:Env)(l:List (PmL×SOp))(Q:Ex→St→Prop):Bool→Option St→Prop
 | true,some s=>Bq E (.draws l) Q s
 | _,_=>False
theorem A3f(l:List (PmL×SOp)):kJ E l Q true (some s)=Bq E (.draws l) Q s:=nr rfl
theorem zu(p:PmL)(o:SOp)(l:List (PmL×SOp)):Bq E (.draws ((p,o)::l)) Q s=kJ E l Q (EJ p.pm s o.op) (Nq E p.pm s o):=by
 unfold Bq
 simp only [DR,Ye]
 cases EJ p.pm s o.op with
 | true=>
  cases Nq E p.pm s o with
  | none=>simp [kJ]
  | some s'=>simp [kJ,Bq,DR]
 | false=>simp [kJ]
theorem ABK(a b:SC):Bq E (.seq a b) Q s=Bq E a (Yg E b Q) s:=by
 refine propext ⟨fun⟨ex,s1,h1,h2⟩=> ?_,zf⟩
 simp only [DR]at h1
 cases ha:DR E a s with
 | none=>simp [ha]at h1
 | some q=>
  obtain⟨ex',s2⟩:=q
  cases ex' with
  | normal=>simp only [ha]at h1;exact⟨_,s2,ha,ex,s1,h1,h2⟩
  | exit id=>simp only [ha,Option.some.injEq,Prod.mk.injEq]at h1;obtain⟨rfl,rfl⟩:=h1;exact⟨_,s2,ha,h2⟩
  | ret=>simp only [ha,Option.some.injEq,Prod.mk.injEq]at h1;obtain⟨rfl,rfl⟩:=h1;exact⟨_,s2,ha,h2⟩
def cnd(E:Env)(a b:SC)(Q:Ex→St→Prop)(s:St):Option D→Prop
 | some (.bool t)=>if t=true then Bq E a Q s else Bq E b Q s
 | _=>False
theorem ABL(a b:SC)(t:Bool):cnd E a b Q s (some (.bool t))=if t=true then Bq E a Q s else Bq E b Q s:=nr rfl
theorem A3h(c:Operand)(a b:SC):Bq E (.cond c a b) Q s=cnd E a b Q s (ev E.T s 0 c):=by
 unfold Bq
 simp only [DR]
 cases ev E.T s 0 c with
 | none=>simp [cnd]
 | some d=>cases d with
  | bool t=>cases t<;>simp [cnd,Bq]
  | _=>simp [cnd]
theorem zw(id:Nat)(c:SC):Bq E (.block id c) Q s=Bq E c (inBlock id Q) s:=by
 refine propext ⟨fun⟨ex,s1,h1,h2⟩=> ?_,kC⟩
 simp only [DR]at h1
 cases ha:DR E c s with
 | none=>simp [ha]at h1
 | some q=>
  obtain⟨ex',s2⟩:=q
  cases ex' with
  | normal=>simp only [ha,Option.some.injEq,Prod.mk.injEq]at h1;obtain⟨rfl,rfl⟩:=h1;exact⟨_,s2,ha,h2⟩
  | exit j=>
   simp only [ha]at h1
   by_cases hj:j=id
   ·simp only [hj,if_true,Option.some.injEq,Prod.mk.injEq]at h1;obtain⟨rfl,rfl⟩:=h1;exact⟨_,s2,ha,by simpa [inBlock,hj] using h2⟩
   ·simp only [hj,if_false,Option.some.injEq,Prod.mk.injEq]at h1;obtain⟨rfl,rfl⟩:=h1;exact⟨_,s2,ha,by simpa [inBlock,hj] using h2⟩
  | ret=>simp only [ha,Option.some.injEq,Prod.mk.injEq]at h1;obtain⟨rfl,rfl⟩:=h1;exact⟨_,s2,ha,h2⟩
theorem zx(b:SC):Yg E b Q .normal s=Bq E b Q s:=nr rfl
theorem zy(b:SC)(id:Nat):Yg E b Q (.exit id) s=Q (.exit id) s:=nr rfl
theorem zz(b:SC):Yg E b Q .ret s=Q .ret s:=nr rfl
theorem ABM(id:Nat):inBlock id Q .normal s=Q .normal s:=nr rfl
theorem ABN(id j:Nat):inBlock id Q (.exit j) s=if j=id then Q .normal s else Q (.exit j) s:=nr rfl
theorem ABO(id:Nat):inBlock id Q .ret s=Q .ret s:=nr rfl
theorem ABP(I:St→Prop):ai I Q .normal s=I s:=nr rfl
theorem ABQ(I:St→Prop)(id:Nat):ai I Q (.exit id) s=Q (.exit id) s:=nr rfl
theorem ABR(I:St→Prop):ai I Q .ret s=Q .ret s:=nr rfl
theorem A3i(T:Tys)(n:Nat)(rs:List ResultVar)(r:D×List D):fin T n rs r .normal s=(U3 T n rs s=some r):=nr rfl
theorem A3j(T:Tys)(n:Nat)(rs:List ResultVar)(r:D×List D):fin T n rs r .ret s=(U3 T n rs s=some r):=nr rfl
end
section
variable (s:St) (dst:Option Tmp) (u:Tmp) (k:IntKind) (n:Int) (b:Bool) (x:ByteArray) (e:TypeId) (xs:List D) (L:AA) (i j c:Nat) (v:Value) (f:FuncId)
theorem A3k:Bg s dst (.tmp u) (.int k n)=s.putO dst (.int k n):=nr rfl
theorem A00:Bg s dst (.tmp u) (.bool b)=s.putO dst (.bool b):=nr rfl
theorem A3l:Bg s dst (.tmp u) (.str x)=s.putO dst (.str x):=nr rfl
theorem ABS:Bg s dst (.tmp u) (.sl e xs)=s.putO dst (.sl e xs):=nr rfl
theorem qD:Bg s dst (.tmp u) (.konst v)=s.putO dst (.konst v):=nr rfl
theorem A3m:Bg s dst (.tmp u) (.own e xs)=s.putO dst (.vw [u] (s.k u) (s.m u)):=nr rfl
theorem ABT(k:TypeId)(es:List (List Int×List Int)):Bg s dst (.tmp u) (.mp k e es)=s.putO dst (.vw [u] (s.k u) (s.m u)):=nr rfl
theorem A3n:Bg s dst (.tmp u) (.box xs)=s.putO dst (.vw [u] (s.k u) (s.m u)):=nr rfl
theorem ABU:Bg s dst (.tmp u) (.vw L i j)=s.putO dst (.vw L i j):=nr rfl
theorem ABV:Bg s dst (.tmp u) (.pe L c i j)=s.putO dst (.pe L c i j):=nr rfl
theorem A01:Bg s dst (.tmp u) (.cptr xs)=s.putO dst (.cptr xs):=nr rfl
theorem A3o:Bg s dst (.tmp u) (.ocl b f xs)=s.putO dst (.ocl b f xs):=nr rfl
theorem A3p:Bg s dst (.tmp u) (.clo f xs)=s.putO dst (.clo f xs):=nr rfl
theorem A3q:Bg s dst (.tmp u) (.tup xs)=if AZ xs then(if AZ (Ip s u 0 xs)then(s.clr u).putO dst (.tup xs)else s.putO dst (.tup (Ip s u 0 xs)))else s.putO dst (.tup xs):=nr rfl
theorem A3r(i:Nat):Ip s u i []=[]:=nr rfl
theorem A02(i:Nat)(x:D):Ip s u i (x::xs)=Io s u i x::Ip s u (i+1) xs:=nr rfl
theorem A3s(i:Nat):Io s u i (.agg xs)= .agg (Dh s [u,i] 0 xs):=nr rfl
theorem A3t(i:Nat):Io s u i (.int k n)= .int k n:=nr rfl
theorem A03(i:Nat):Io s u i (.bool b)= .bool b:=nr rfl
theorem A3u(i:Nat):Io s u i (.str x)= .str x:=nr rfl
theorem ABW(i:Nat):Io s u i (.sl e xs)= .sl e xs:=nr rfl
theorem qE(i:Nat):Io s u i (.konst v)= .konst v:=nr rfl
theorem qF(i:Nat):Io s u i .undef= .undef:=nr rfl
theorem A3v(i:Nat):Io s u i (.own e xs)= .vw [u,i] (s.k u) (s.m u):=nr rfl
theorem ABX(c:Nat)(L:AA):Io s u c (.vw L i j)= .vw L i j:=nr rfl
theorem A3w(i:Nat):Io s u i (.box xs)= .vw [u,i] (s.k u) (s.m u):=nr rfl
theorem A3x(L:AA)(i:Nat):Dh s L i []=[]:=nr rfl
theorem A04(L:AA)(i:Nat):Dh s L i (.int k n::xs)= .int k n::Dh s L (i+1) xs:=nr rfl
theorem qG(L:AA)(i:Nat):Dh s L i (.bool b::xs)= .bool b::Dh s L (i+1) xs:=nr rfl
theorem A05(L:AA)(i:Nat):Dh s L i (.str x::xs)= .str x::Dh s L (i+1) xs:=nr rfl
theorem A3y(L:AA)(i:Nat)(zs:List D):Dh s L i (.sl e zs::xs)= .sl e zs::Dh s L (i+1) xs:=nr rfl
theorem kK(L:AA)(i:Nat):Dh s L i (.konst v::xs)= .konst v::Dh s L (i+1) xs:=nr rfl
theorem kL(L:AA)(i:Nat):Dh s L i (.undef::xs)= .undef::Dh s L (i+1) xs:=nr rfl
theorem A3z(L:AA)(i:Nat)(M:AA)(i2 j2:Nat):Dh s L i (.vw M i2 j2::xs)= .vw M i2 j2::Dh s L (i+1) xs:=nr rfl
theorem A06(r c:Nat)(i:Nat)(zs:List D):Dh s [r,c] i (.own e zs::xs)= .vw [r,c,i] (s.k r) (s.m r)::Dh s [r,c] (i+1) xs:=nr rfl
theorem A07(r c:Nat)(i:Nat)(zs:List D):Dh s [r,c] i (.box zs::xs)= .vw [r,c,i] (s.k r) (s.m r)::Dh s [r,c] (i+1) xs:=nr rfl
theorem A40:Bg s dst (.tmp u) (.agg xs)=if AZ xs then(s.clr u).putO dst (.agg xs)else s.putO dst (.agg xs):=nr rfl
variable (pm:Pm)
theorem A41:Ar pm s dst (.tmp u) (.int k n)=some (s.putO dst (.int k n)):=nr rfl
theorem A08:Ar pm s dst (.tmp u) (.bool b)=some (s.putO dst (.bool b)):=nr rfl
theorem A42:Ar pm s dst (.tmp u) (.str x)=some (s.putO dst (.str x)):=nr rfl
theorem ABY:Ar pm s dst (.tmp u) (.sl e xs)=some (s.putO dst (.sl e xs)):=nr rfl
theorem qH:Ar pm s dst (.tmp u) (.konst v)=some (s.putO dst (.konst v)):=nr rfl
theorem A43:Ar pm s dst (.tmp u) (.own e xs)=some ((s.clr u).putO dst (.own e xs)):=nr rfl
theorem ABZ(k:TypeId)(es:List (List Int×List Int)):Ar pm s dst (.tmp u) (.mp k e es)=some ((s.clr u).putO dst (.mp k e es)):=nr rfl
theorem A44:Ar pm s dst (.tmp u) (.box xs)=some ((s.clr u).putO dst (.box xs)):=nr rfl
theorem A45(r:Nat):Ar pm s dst (.tmp u) (.vw [r] i j)=(Md pm s [r] i j).map fun q=>q.2.putO dst q.1:=nr rfl
def asT(_s:St)(dst:Option Tmp)(a:Option (D×St))(b:Option St):Bool→Option St
 | true=>a.map fun q=>q.2.putO dst q.1
 | false=>b
theorem ABa(a:Option (D×St))(b:Option St):asT s dst a b true=a.map fun q=>q.2.putO dst q.1:=nr rfl
theorem ABb(a:Option (D×St))(b:Option St):asT s dst a b false=b:=nr rfl
theorem A46(r r':Nat)(p:AA):Ar pm s dst (.tmp u) (.vw (r::r'::p) i j)=asT s dst (BM pm s (.vw (r::r'::p) i j)) (some (s.putO dst (.vw (r::r'::p) i j))) (rY pm s r):=by
 by_cases h:rY pm s r=true
 ·have h':Vh pm s (.vw (r::r'::p) i j)=true:=h
  unfold Ar
  simp only [h',h,if_true]
  rfl
 ·have h':Vh pm s (.vw (r::r'::p) i j)=false:=Bool.eq_false_iff.mpr h
  unfold Ar
  simp only [h',Bool.eq_false_iff.mpr h]
  rfl
theorem ABc(r:Nat):rY pm s r=(pm.rd r&&Xu (s.v r)):=nr rfl
theorem A47:Xu (.tup xs)=true:=nr rfl
theorem A48:Xu (.agg xs)=false:=nr rfl
theorem A49:Xu (.own e xs)=false:=nr rfl
theorem A4A:Xu (.box xs)=false:=nr rfl
theorem ABd:Xu (.vw L i j)=false:=nr rfl
theorem tqU:Xu .undef=false:=nr rfl
theorem A4B:Xq pm s (.int k n)=false:=nr rfl
theorem A09:Xq pm s (.bool b)=false:=nr rfl
theorem A4C:Xq pm s (.str x)=false:=nr rfl
theorem ABe:Xq pm s (.sl e xs)=false:=nr rfl
theorem A4D:Xq pm s (.own e xs)=false:=nr rfl
theorem A4E(r:Nat):Xq pm s (.vw [r] i j)=false:=nr rfl
theorem A4F(r r':Nat)(p:AA):Xq pm s (.vw (r::r'::p) i j)=rY pm s r:=nr rfl
theorem A4G:Xq pm s (.clo f xs)=false:=nr rfl
theorem ABf:Ar pm s dst (.tmp u) (.pe L c i j)=some (s.putO dst (.pe L c i j)):=nr rfl
theorem A0A:Ar pm s dst (.tmp u) (.cptr xs)=some (s.putO dst (.cptr xs)):=nr rfl
theorem A4H:Ar pm s dst (.tmp u) (.clo f xs)=some (s.putO dst (.clo f xs)):=nr rfl
theorem A4I:Ar pm s dst (.tmp u) (.tup xs)=some (if AZ xs then(s.clr u).putO dst (.tup xs)else s.putO dst (.tup xs)):=nr rfl
theorem A4J:Ar pm s dst (.tmp u) (.agg xs)=asT s dst (BM pm s (.agg xs)) (some (if AZ xs then(s.clr u).putO dst (.agg xs)else s.putO dst (.agg xs))) (!AZ xs&&xs.any (Xq pm s)):=by
 by_cases h:(!AZ xs&&xs.any (Xq pm s))=true
 ·have h':Vh pm s (.agg xs)=true:=h
  unfold Ar
  simp only [h',h,if_true]
  rfl
 ·have h':Vh pm s (.agg xs)=false:=Bool.eq_false_iff.mpr h
  unfold Ar
  simp only [h',Bool.eq_false_iff.mpr h]
  rfl
end
section
variable (k:IntKind) (x y:Int) (p q:Bool) (a b:ByteArray)
theorem A4K:Ck .add (.int k x) (.int k y)=some (.int k (k.wrap (x+y))):=by simp [Ck]
theorem A4L:Ck .sub (.int k x) (.int k y)=some (.int k (k.wrap (x-y))):=by simp [Ck]
theorem A4M:Ck .mul (.int k x) (.int k y)=some (.int k (k.wrap (x*y))):=by simp [Ck]
theorem A4N:Ck .quo (.int k x) (.int k y)=if y=0 then none else some (.int k (k.wrap (x.tdiv y))):=by simp [Ck]
theorem A4O:Ck .rem (.int k x) (.int k y)=if y=0 then none else some (.int k (x.tmod y)):=by simp [Ck]
theorem A4P:Ck .and (.int k x) (.int k y)=some (.int k (IM .and k x y)):=by simp [Ck]
theorem ABg:Ck .or (.int k x) (.int k y)=some (.int k (IM .or k x y)):=by simp [Ck]
theorem A4Q:Ck .xor (.int k x) (.int k y)=some (.int k (IM .xor k x y)):=by simp [Ck]
theorem kN:Ck .andNot (.int k x) (.int k y)=some (.int k (IM .andNot k x y)):=by simp [Ck]
theorem A4R(k':IntKind):Ck .shl (.int k x) (.int k' y)=if y<0 then none else some (.int k (k.wrap (x*2 ^ (min y.toNat k.bits)))):=by simp [Ck]
theorem A4S(k':IntKind):Ck .shr (.int k x) (.int k' y)=if y<0 then none else some (.int k (x.fdiv (2 ^ (min y.toNat k.bits)))):=by simp [Ck]
theorem ABh:Ck .eql (.int k x) (.int k y)=some (.bool (decide (x=y))):=by simp [Ck];rfl
theorem ABi:Ck .neq (.int k x) (.int k y)=some (.bool (!decide (x=y))):=by simp [Ck];rfl
theorem ABj:Ck .lss (.int k x) (.int k y)=some (.bool (decide (x<y))):=by simp [Ck]
theorem ABk:Ck .leq (.int k x) (.int k y)=some (.bool (decide (x≤y))):=by simp [Ck]
theorem ABl:Ck .gtr (.int k x) (.int k y)=some (.bool (decide (y<x))):=by simp [Ck]
theorem ABm:Ck .geq (.int k x) (.int k y)=some (.bool (decide (y≤x))):=by simp [Ck]
theorem A4T:Ck .eql (.bool p) (.bool q)=some (.bool (p==q)):=nr rfl
theorem A4U:Ck .neq (.bool p) (.bool q)=some (.bool (!(p==q))):=nr rfl
theorem A4V:Ck .eql (.str a) (.str b)=some (.bool (a.toList==b.toList)):=nr rfl
theorem A4W:Ck .neq (.str a) (.str b)=some (.bool (!(a.toList==b.toList))):=nr rfl
theorem A4X:Ck .lss (.str a) (.str b)=some (.bool (Op.bytesLess a.toList b.toList)):=nr rfl
theorem A0B:Ck .add (.str a) (.str b)=if a.size+b.size<1099511627776 then some (.str (a++b))else none:=nr rfl
theorem A4Y:rX .not (.bool p)=some (.bool (!p)):=nr rfl
theorem A4Z:rX .neg (.int k x)=some (.int k (k.wrap (0-x))):=nr rfl
theorem boI(T:Tys)(t:TypeId):LJ T t (.int k x)=true:=nr rfl
theorem boS(T:Tys)(t:TypeId):LJ T t (.str a)=true:=nr rfl
theorem boB(T:Tys)(t:TypeId):LJ T t (.bool p)=match T.ty t with | .bool=>true | _=>false:=nr rfl
theorem boA(T:Tys)(t:TypeId)(k l:IntKind)(x y:Int):LJ T t (.agg [.int k x, .int l y])=dM T k l (T.ty t):=nr rfl
theorem A0C(T:Tys)(k l:IntKind)(a b:TypeId):dM T k l (.struct [a,b])=(Zl k (T.ty a)&&Zl l (T.ty b)):=nr rfl
theorem A4a(k:IntKind):Zl k (.int k)=true:=by simp [Zl]
theorem A4b(k l:IntKind)(a b c d:Int):Ck .eql (.agg [.int k a, .int l b]) (.agg [.int k c, .int l d])=some (.bool ((a==c)&&(b==d))):=by simp [Ck]
theorem A4c(k l:IntKind)(a b c d:Int):Ck .neq (.agg [.int k a, .int l b]) (.agg [.int k c, .int l d])=some (.bool (!((a==c)&&(b==d)))):=by simp [Ck]
end
def CJ(xs:List Int):List D:=xs.map (D.int .i64)
theorem Ca(xs:List Int):(CJ xs).length=xs.length:=by simp [CJ]
theorem kP(xs:List Int)(i:Nat):(CJ xs)[i]? =(xs[i]?).map (D.int .i64):=by simp [CJ]
theorem Sb(xs:List Int):CL (CJ xs)=false:=by
 induction xs with
 | nil=>rfl
 | cons x xs ih=>simp only [CJ,List.map_cons,CL,CK,Bool.false_or];exact ih
theorem Yj(xs:List Int):AZ (CJ xs)=false:=by
 induction xs with
 | nil=>rfl
 | cons x xs ih=>simp only [CJ,List.map_cons,AZ,D.hasObj,Bool.false_or];exact ih
theorem Yk(xs:List Int):C9 (CJ xs)=some (CJ xs):=by
 induction xs with
 | nil=>rfl
 | cons x xs ih=>simp only [CJ,List.map_cons,C9,D7,Option.bind_some]at ih ⊢;rw [ih];rfl
theorem av(xs:List Int):(CJ xs).all BS=true:=by simp [CJ,BS]
end Dv
namespace Dv
open Go
def zB:Value→Value→Bool
 | .int k n, .int k' n'=>decide (k=k')&&decide (n=n')
 | .bool b, .bool b'=>b==b'
 | .string s, .string s'=>s.size==0&&s'.size==0
 | .slice none 0 0, .slice none 0 0=>true
 | .nilFunc, .nilFunc=>true
 | .pointer none, .pointer none=>true
 | _,_=>false
theorem ru{a b:Value}(h:zB a b=true):a=b:=by
 unfold zB at h
 split at h
 ·simp only [Bool.and_eq_true,decide_eq_true_eq]at h;rw [h.1,h.2]
 ·simp only [beq_iff_eq]at h;rw [h]
 ·simp only [Bool.and_eq_true,beq_iff_eq]at h
  rename_i s s'
  have: ∀t:ByteArray,t.size=0→t=ByteArray.empty:=by
   intro t ht
   obtain⟨d⟩:=t
   have:d= #[]:=Array.size_eq_zero_iff.1 ht
   rw [this];rfl
  rw [this s h.1,this s' h.2]
 ·rfl
 ·rfl
 ·rfl
 ·cases h
def zsB:List Value→List Value→Bool
 | [],[]=>true
 | a::as,b::bs=>zB a b&&zsB as bs
 | _,_=>false
theorem kQ: ∀ {a b:List Value},zsB a b=true→a=b
 | [],[],_=>rfl
 | [],_::_,h=>by cases h
 | _::_,[],h=>by cases h
 | a::as,b::bs,h=>by
  simp only [zsB,Bool.and_eq_true]at h
  rw [ru h.1,kQ h.2]
def Ou(P:Program)(t:TypeId)(n:Nat)(z:Value):Bool:=
 match P.info? t with
 | some i=>(i.size==n)&&(decide (4<n)||decide (i.bytes≤128))&&(match i.zero,z with | some (.agg a), .agg b=>zsB a.toList b.toList | some v,z=>zB v z | _,_=>false)
 | none=>false
theorem KT{P:Program}{t:TypeId}{n:Nat}{z:Value}(h:Ou P t n z=true):M4 P t n z:=by
 unfold Ou at h
 split at h
 ·rename_i i hi
  simp only [Bool.and_eq_true,Bool.or_eq_true,beq_iff_eq,decide_eq_true_eq]at h
  refine⟨i,hi,h.1.1, ?_,fun h4=>h.1.2.resolve_left (by omega)⟩
  have h2:=h.2
  split at h2
  ·rename_i a b hz
   rw [hz]
   have:=kQ h2
   rw [←Array.toArray_toList (xs:=a),this]
  ·rename_i v z' hz _
   rw [hz,ru h2]
  ·cases h2
 ·cases h
def WO(P:Program)(T:Tys)(t:TypeId):Bool:=
 match T.ty t with
 | .int k=>(match P.underlying t with | some (.int k')=>decide (k'=k) | _=>false)&&Ou P t 1 (.int k 0)
 | .bool=>(match P.underlying t with | some .bool=>true | _=>false)&&Ou P t 1 (.bool false)
 | .string=>(match P.underlying t with | some .string=>true | _=>false)&&Ou P t 1 (.string ByteArray.empty)
 | .slice e=>(match P.underlying t with | some (.slice e')=>e'==e | _=>false)&&Ou P t 1 (.slice none 0 0)
 | .struct fs=>(match P.underlying t with
   | some (.struct fields)=>
    match T.nest t with
    | none=>(fields.size==fs.length)&&(List.range fields.size).all (fun j=>match fields[j]?,fs[j]? with | some f,some g=>(f.offset==j)&&(f.type==g)&&T.known g&& !T.isStruct g | _,_=>false)
    | some fl=>decide (4<fs.length)&&(fields.size==fl.length)&&(List.range fields.size).all (fun j=>match fields[j]?,fl[j]? with | some f,some g=>(f.offset==g.1)&&(f.type==g.2)&&T.known g.2 | _,_=>false)
   | _=>false)&&Ou P t fs.length (.agg (fs.map (Gf T)).toArray)
 | .func=>(match P.underlying t with | some (.func ..)=>true | _=>false)&&Ou P t 1 .nilFunc
 | .ptr=>(match P.underlying t with | some (.pointer _)=>true | _=>false)&&Ou P t 1 (.pointer none)
 | .map k e=>match P.underlying t with | some (.map k' e')=>(k'==k)&&(e'==e) | _=>false
 | .other=>true
theorem ay{P:Program}{T:Tys}{t:TypeId}(h:WO P T t=true):Ev P T t:=by
 unfold WO at h
 unfold Ev
 cases hty:T.ty t<;>rw [hty]at h<;>simp only [Bool.and_eq_true]at h ⊢
 case int k=>
  refine⟨?_,KT h.2⟩
  have h1:=h.1
  split at h1
  ·rename_i k' hu;rw [hu];simp only [decide_eq_true_eq]at h1;rw [h1]
  ·cases h1
 case bool=>
  refine⟨?_,KT h.2⟩
  have h1:=h.1
  split at h1
  ·assumption
  ·cases h1
 case string=>
  refine⟨?_,KT h.2⟩
  have h1:=h.1
  split at h1
  ·assumption
  ·cases h1
 case map k e=>
  split at h
  ·rename_i k' e' hu;rw [hu];simp only [Bool.and_eq_true,beq_iff_eq]at h;rw [h.1,h.2]
  ·cases h
 case slice e=>
  refine⟨?_,KT h.2⟩
  have h1:=h.1
  split at h1
  ·rename_i k' hu;rw [hu];simp only [beq_iff_eq]at h1;rw [h1]
  ·cases h1
 case struct fs=>
  refine⟨?_,KT h.2⟩
  have h1:=h.1
  split at h1
  ·rename_i fields hu
   refine⟨fields,hu, ?_⟩
   cases hn:T.nest t with
   | none=>
    simp only [hn,Bool.and_eq_true,beq_iff_eq,List.all_eq_true,List.mem_range]at h1 ⊢
    refine⟨h1.1,fun j f hf=> ?_⟩
    have hlt:=(Array.getElem?_eq_some_iff.1 hf).1
    have:=h1.2 j hlt
    rw [hf]at this
    split at this
    ·rename_i f' g hf' hg
     simp only [Option.some.injEq]at hf'
     subst hf'
     simp only [Bool.and_eq_true,beq_iff_eq,Bool.not_eq_true']at this
     obtain⟨⟨⟨q1,q2⟩,q3⟩,q4⟩:=this
     subst q2
     exact⟨q1,hg,q3,q4⟩
    ·cases this
   | some fl=>
    simp only [hn,Bool.and_eq_true,beq_iff_eq,List.all_eq_true,List.mem_range,decide_eq_true_eq]at h1 ⊢
    refine⟨h1.1.1,h1.1.2,fun j f hf=> ?_⟩
    have hlt:=(Array.getElem?_eq_some_iff.1 hf).1
    have:=h1.2 j hlt
    rw [hf]at this
    split at this
    ·rename_i f' g hf' hg
     simp only [Option.some.injEq]at hf'
     subst hf'
     simp only [Bool.and_eq_true,beq_iff_eq]at this
     obtain⟨⟨q1,q2⟩,q3⟩:=this
     refine⟨?_,by rw [q2];exact q3⟩
     rw [hg,q1,q2]
    ·cases this
  ·cases h1
 case func=>
  refine⟨?_,KT h.2⟩
  have h1:=h.1
  split at h1
  ·exact⟨_,_,_,by assumption⟩
  ·cases h1
 case ptr=>
  refine⟨?_,KT h.2⟩
  have h1:=h.1
  split at h1
  ·exact⟨_,by assumption⟩
  ·cases h1
def gU(oW:List Ty)(ry:List (TypeId×List (Nat×TypeId))):Tys:={ty:=fun t=>oW.getD t .other,nest:=fun t=>ry.lookup t}
theorem A0D{P:Program}{oW:List Ty}{ry:List (TypeId×List (Nat×TypeId))}(h:((List.range oW.length).all fun t=>WO P (gU oW ry) t&&p9 P (gU oW ry) t)=true):Bb P (gU oW ry):=by
 intro t
 rcases Nat.lt_or_ge t oW.length with ht | ht
 ·have:=List.all_eq_true.1 h t (List.mem_range.2 ht)
  rw [Bool.and_eq_true]at this
  exact⟨ay this.1,this.2⟩
 ·have:(gU oW ry).ty t= .other:=by simp [gU,List.getD_eq_getElem?_getD,List.getElem?_eq_none ht]
  refine⟨?_, ?_⟩
  ·unfold Ev
   rw [this];trivial
  ·unfold p9
   rw [this]
theorem AU{Y:Sys}{f:FuncId}{fn:Func}{k:SC}{a l:List D}{r:D×List D}(hb:Y.base f a l=none)(hf:Y.P.funcs[f]? =some fn)(hok:CB fn a.length=true)
  (hk:fn.body.map (Bh Y.lends)=some k)(h:Bq Y.env k (fin Y.T l.length fn.results.toList r) (entry a l)):Y.call f a l=some r:=by
 obtain⟨c,hc,hk⟩:=Option.map_eq_some_iff.1 hk
 exact Sys.call_wp hb hf hok hc hk h
end Dv
namespace Dv
open Go
section
variable (E:Env) (pm:Pm) (s:St) (dst:Option Tmp) (ty:TypeId) (u:Tmp) (t:TypeId)
theorem Gh(o:Option D):(o.map fun r=>s.putO dst r)=Hr s dst o:=by cases o<;>rfl
theorem KU(o:Option (D×St)):(o.map fun r=>r.2.putO dst r.1)=Sa dst o:=by cases o<;>rfl
theorem A4d:JX E pm s dst (.move (.tmp u)) ty=some (Bg s dst (.tmp u) (s.v u)):=nr rfl
def kR(pm:Pm):Option Tmp→Option St→Option St
 | some t,some s1=>EU pm s1 (some t)
 | _,_=>none
def frC(s1:St)(t:Tmp):Option D→Option St
 | some c=>some (s1.set [t] c)
 | none=>none
theorem ABn(s1:St)(t:Tmp)(h1:pm.rd t=true)(h2:pm.wr t=true):kR pm (some t) (some s1)=frC s1 t (D7 (s1.v t)):=by
 show(if pm.rd t&&pm.wr t then(D7 (s1.v t)).map fun c=>s1.set [t] c else none)=_
 rw [h1,h2]
 cases D7 (s1.v t)<;>rfl
theorem ABo(s1:St)(u:Tmp)(b:Bool):fbC pm s1 u (.bool b)=if b=true then some s1 else kR pm (some u) (some s1):=by
 cases b<;>rfl
theorem ABp(s1:St)(t:Tmp)(c:D):frC s1 t (some c)=some (s1.set [t] c):=nr rfl
def fcB(pm:Pm):Option Tmp→Option St→Option St
 | some t,some s1=>LX pm s1 (some t)
 | _,_=>none
def fcD(s1:St)(t:Tmp)(e:TypeId):Option (List D)→Option St
 | some ys=>some (s1.set [t] (.own e ys))
 | none=>none
def fcC(s1:St)(t:Tmp):D→Option St
 | .own e xs=>fcD s1 t e (C9 xs)
 | _=>none
theorem ABs(s1:St)(t:Tmp)(h1:pm.rd t=true)(h2:pm.wr t=true):fcB pm (some t) (some s1)=fcC s1 t (s1.v t):=by
 show LX pm s1 (some t)=_
 unfold LX fcC
 dsimp only
 rw [h1,h2]
 cases s1.v t with
 | own e xs=>simp only [Bool.and_self,if_true];cases C9 xs<;>rfl
 | _=>rfl
theorem ABt(s1:St)(t:Tmp)(e:TypeId)(xs:List D):fcC s1 t (.own e xs)=fcD s1 t e (C9 xs):=nr rfl
theorem ABu(s1:St)(t:Tmp)(e:TypeId)(ys:List D):fcD s1 t e (some ys)=some (s1.set [t] (.own e ys)):=nr rfl
theorem qI:JX E pm s dst (.assign (.tmp u)) ty=if ty=900003 then kR pm dst (Ar pm s dst (.tmp u) (s.v u))else if ty<1000000 then Ar pm s dst (.tmp u) (s.v u)else kR pm dst (Ar pm s dst (.tmp u) (s.v u)):=by
 have hfr:((Ar pm s dst (.tmp u) (s.v u)).bind fun s1=>EU pm s1 dst)=kR pm dst (Ar pm s dst (.tmp u) (s.v u)):=by
  rcases Ar pm s dst (.tmp u) (s.v u)with _ | s1<;>cases dst<;>rfl
 show(if j6 ty=true then(Ar pm s dst (.tmp u) (s.v u)).bind fun s1=>EU pm s1 dst else Ar pm s dst (.tmp u) (s.v u))=_
 rw [hfr]
 unfold j6
 by_cases h1:ty=900003
 ·rw [if_pos h1,if_pos h1];rfl
 ·rw [if_neg h1,if_neg h1]
  by_cases h2:ty<1000000
  ·rw [if_pos h2,if_pos h2];rfl
  ·rw [if_neg h2,if_neg h2];rfl
theorem kS(v:Value):JX E pm s dst (.assign (.const v)) ty=if ty=900003 then kR pm dst (Hr s dst (ev E.T s ty (.const v)))else if ty<1000000 then Hr s dst (ev E.T s ty (.const v))else kR pm dst (Hr s dst (ev E.T s (ty-1000000) (.const v))):=by
 have hfr: ∀t,((ev E.T s t (.const v)).bind fun d=>(Ar pm s dst (.const v) d).bind fun s1=>EU pm s1 dst)=kR pm dst (Hr s dst (ev E.T s t (.const v))):=by
  intro t
  cases ev E.T s t (.const v)<;>cases dst<;>rfl
 have hno: ∀t,((ev E.T s t (.const v)).bind fun d=>Ar pm s dst (.const v) d)=Hr s dst (ev E.T s t (.const v)):=by
  intro t
  cases ev E.T s t (.const v)<;>rfl
 show((ev E.T s (zT ty) (.const v)).bind fun d=>if j6 ty=true then(Ar pm s dst (.const v) d).bind fun s1=>EU pm s1 dst else Ar pm s dst (.const v) d)=_
 unfold j6 zT
 by_cases h1:ty=900003
 ·simp only [if_pos h1,if_true];exact hfr _
 ·by_cases h2:ty<1000000
  ·simp only [if_neg h1,if_pos h2,Bool.false_eq_true,if_false];exact hno _
  ·simp only [if_neg h1,if_neg h2,if_true];exact hfr _
theorem A0E(v:Value):JX E pm s dst (.move (.const v)) ty=Hr s dst (ev E.T s ty (.const v)):=by
 show((ev E.T s ty (.const v)).map fun d=>Bg s dst (.const v) d)=_
 cases ev E.T s ty (.const v)<;>rfl
theorem A4e:JX E pm s dst (.load t (.tmp u)) ty=Hr s dst (DV E.T pm s t (.tmp u) (s.v u)):=Gh s dst _
theorem yUn(op:UnOp):JX E pm s dst (.unOp op t (.tmp u)) ty=Hr s dst (rX op (s.v u)):=Gh s dst _
theorem A0F(i:Nat):JX E pm s dst (.fieldAddr t (.tmp u) i) ty=Hr s dst (EG E.T pm s t (.tmp u) (s.v u) i):=Gh s dst _
theorem ABv:JX E pm s dst (.call ⟨.builtin .len, #[.tmp u], #[t]⟩) ty=Hr s dst (LY E.T pm s t (.tmp u) (s.v u)):=Gh s dst _
theorem kT(i:Nat):JX E pm s dst (.extract (.tmp u) i) ty=Gs s dst (.tmp u) (s.v u) i:=nr rfl
def slC(T:Tys)(pm:Pm)(s:St)(dst:Option Tmp)(t:TypeId)(x:Operand)(hi:Option Operand):Option Operand→Option Operand→Option St
 | none,none=>Sa dst (Me T pm s t x hi)
 | _,_=>none
theorem ABw(T:Tys)(x:Operand)(hi:Option Operand):slC T pm s dst t x hi none none=Sa dst (Me T pm s t x hi):=nr rfl
def slF(T:Tys)(pm:Pm)(s:St)(dst:Option Tmp)(t:TypeId)(x:Operand)(lo:Option Operand):Option Operand→Option Operand→Option St
 | none,none=>Sa dst (KL T pm s t x lo)
 | _,_=>none
theorem ABx(T:Tys)(x:Operand)(lo:Option Operand):slF T pm s dst t x lo none none=Sa dst (KL T pm s t x lo):=nr rfl
theorem A0G(lo hi mx:Option Operand):JX E pm s dst (.slice t (.tmp u) lo hi mx) ty=
  if ty=900002 then slC E.T pm s dst t (.tmp u) hi lo mx
  else if ty=900005 then slF E.T pm s dst t (.tmp u) lo hi mx
  else if ty=900001 then Sa dst (Gr E.T pm.see s t (.tmp u) (s.v u) lo hi mx)else Sa dst (Gr E.T pm s t (.tmp u) (s.v u) lo hi mx):=by
 show(if ty=900002 then(if lo.isNone&&mx.isNone then(Me E.T pm s t (.tmp u) hi).map fun r=>r.2.putO dst r.1 else none)
  else if ty=900005 then(if hi.isNone&&mx.isNone then(KL E.T pm s t (.tmp u) lo).map fun r=>r.2.putO dst r.1 else none)
  else(ev E.T s t (.tmp u)).bind fun d=>(Gr E.T (if ty=900001 then pm.see else pm) s t (.tmp u) d lo hi mx).map fun r=>r.2.putO dst r.1)=_
 split
 ·cases lo<;>cases mx<;>first | rfl | exact KU dst _
 ·split
  ·cases hi<;>cases mx<;>first | rfl | exact KU dst _
  ·split
   ·exact KU dst _
   ·exact KU dst _
def apI(T:Tys)(pm:Pm)(s:St)(t:TypeId)(x y:Operand)(d:D):Option (D×St):=if zS (some d)then KM T pm s t x else Es T pm s t x y
theorem qJ(x:Operand)(v:Tmp):JX E pm s dst (.call ⟨.builtin .append, #[x, .tmp v], #[t,t]⟩) ty=Sa dst (apI E.T pm s t x (.tmp v) (s.v v)):=by
 rw [au,if_pos rfl,KU];rfl
def mn1(mx:Bool):Option D→Option D→Option D
 | some a,some b=>Qg mx a b
 | _,_=>none
theorem ABz(mx:Bool)(a b:D):mn1 mx (some a) (some b)=Qg mx a b:=nr rfl
theorem A4g(k:IntKind)(x y:Int):Qg false (.int k x) (.int k y)=some (.int k (Vg x y)):=by simp [Qg]
theorem A4h(k:IntKind)(x y:Int):Qg true (.int k x) (.int k y)=some (.int k (dL x y)):=by simp [Qg]
theorem AC0(x y:Operand)(t':TypeId):JX E pm s dst (.call ⟨.builtin .min, #[x,y], #[t,t']⟩) ty=Hr s dst (mn1 false (ev E.T s t x) (ev E.T s t' y)):=by
 show(match ev E.T s t x,ev E.T s t' y with | some a,some b=>(Qg false a b).map fun r=>s.putO dst r | _,_=>none)=_
 cases ev E.T s t x<;>cases ev E.T s t' y<;>first | rfl | exact Gh s dst _
theorem AC1(x y:Operand)(t':TypeId):JX E pm s dst (.call ⟨.builtin .max, #[x,y], #[t,t']⟩) ty=Hr s dst (mn1 true (ev E.T s t x) (ev E.T s t' y)):=by
 show(match ev E.T s t x,ev E.T s t' y with | some a,some b=>(Qg true a b).map fun r=>s.putO dst r | _,_=>none)=_
 cases ev E.T s t x<;>cases ev E.T s t' y<;>first | rfl | exact Gh s dst _
theorem AC2(T:Tys)(x y:Operand)(e:TypeId)(xs:List D):apI T pm s t x y (.sl e xs)=Es T pm s t x y:=nr rfl
theorem A4i(T:Tys)(x y:Operand)(e:TypeId)(xs:List D):apI T pm s t x y (.own e xs)=Es T pm s t x y:=nr rfl
theorem AC3(T:Tys)(x y:Operand)(L:AA)(n m:Nat):apI T pm s t x y (.vw L n m)=Es T pm s t x y:=nr rfl
theorem apK(T:Tys)(x y:Operand)(A:Option Addr)(c:Nat):apI T pm s t x y (.konst (.slice A 0 c))=KM T pm s t x:=nr rfl
def ix1(T:Tys)(pm:Pm)(s:St)(t:TypeId)(x:Operand)(d:D):Option D→Option D
 | some i=>PX T pm s t x d i
 | none=>none
theorem AC4(T:Tys)(x:Operand)(d i:D):ix1 T pm s t x d (some i)=PX T pm s t x d i:=nr rfl
theorem A0H(i:Operand):JX E pm s dst (.indexAddr t (.tmp u) i) ty=Hr s dst (ix1 E.T pm s t (.tmp u) (s.v u) (ev E.T s 0 i)):=by
 show(match some (s.v u),ev E.T s 0 i with
  | some a,some b=>(PX E.T pm s t (.tmp u) a b).map fun r=>s.putO dst r
  | _,_=>none)=_
 cases ev E.T s 0 i with
 | none=>rfl
 | some b=>exact Gh s dst _
def mk1(T:Tys)(t:TypeId):Option D→Option D→Option D
 | some a,some b=>FF T t a b
 | _,_=>none
theorem AC5(T:Tys)(a b:D):mk1 T t (some a) (some b)=FF T t a b:=nr rfl
theorem AC6(l c:Operand):U1 E.T s dst t l c=Hr s dst (mk1 E.T t (ev E.T s 0 l) (ev E.T s 0 c)):=by
 show(match ev E.T s 0 l,ev E.T s 0 c with
  | some a,some b=>(FF E.T t a b).map fun r=>s.putO dst r
  | _,_=>none)=_
 cases ev E.T s 0 l<;>cases ev E.T s 0 c<;>first | rfl | exact Gh s dst _
theorem A4k(l c:Operand):JX E pm s dst (.makeSlice t l c) ty=if ty=900012 then fcB pm dst (Hr s dst (mk1 E.T t (ev E.T s 0 l) (ev E.T s 0 c)))else Hr s dst (mk1 E.T t (ev E.T s 0 l) (ev E.T s 0 c)):=by
 rw [UD,AC6]
 by_cases h:ty=900012
 ·rw [if_pos h,if_pos h]
  cases Hr s dst (mk1 E.T t (ev E.T s 0 l) (ev E.T s 0 c))<;>cases dst<;>rfl
 ·rw [if_neg h,if_neg h]
theorem AC7(u:Tmp)(s1:St):stF pm (.tmp u) (some s1)=kR pm (some u) (some s1):=nr rfl
def cv1(s:St)(dst:Option Tmp):Option D→Ty→Option St
 | some (.int _ n), .int k=>some (s.putO dst (.int k (k.wrap n)))
 | some (.str b), .string=>some (s.putO dst (.str b))
 | _,_=>none
theorem AC9(k k':IntKind)(n:Int):cv1 s dst (some (.int k n)) (.int k')=some (s.putO dst (.int k' (k'.wrap n))):=nr rfl
theorem ACA(b:ByteArray):cv1 s dst (some (.str b)) .string=some (s.putO dst (.str b)):=nr rfl
theorem kU(src d:TypeId)(x:Operand):JX E pm s dst (.convert src d x) ty=if E.T.known src then cv1 s dst (ev E.T s src x) (E.T.ty d)else none:=by
 rw [Yi]
 split
 ·rcases ev E.T s src x with _ | d'<;>cases E.T.ty d<;>first | rfl | (cases d'<;>rfl)
 ·rfl
def asM(l:List TypeId):List TypeId:=l.map fun _=>900013
theorem ACB(k e:TypeId)(es:List (List Int×List Int)):(D.mp k e es).hasObj=true:=by simp [D.hasObj]
theorem ACC:asM []=[]:=nr rfl
theorem ACD(t:TypeId)(l:List TypeId):asM (t::l)=900013::asM l:=nr rfl
theorem A4m(f:FuncId)(args:Array Operand)(ts:Array TypeId)(h:args.size=ts.size):JX E pm s dst (.call ⟨.value (.func f),args,ts⟩) ty=I1 E pm s dst f (args.toList.zip (if ty=900013 then asM ts.toList else ts.toList)) []:=by
 rw [kH,if_pos h]
 unfold Us asM;rfl
end
section
variable {T:Tys} {pm:Pm} {s:St} {t:TypeId}
theorem ldC(x:Operand)(xs:List D)(hk:T.known t=true)(hs:T.isStruct t=false):DV T pm s t x (.cptr xs)=xs[0]? :=by simp [DV,hk,hs]
theorem ACE(x:Operand)(xs:List D)(hk:T.known t=true)(hs:T.isStruct t=true):DV T pm s t x (.cptr xs)=if T.size t≤xs.length then some (.agg (xs.take (T.size t)))else none:=by simp [DV,hk,hs]
def Mw(s:St)(L:AA)(c:Nat):Option D→Option D
 | some o=>(o.cells[c]?).bind fun x=>BU (DZ s L c x)
 | none=>none
def cellsOf(s:St)(L:AA)(c n:Nat):Option D→Option D
 | some o=>if c+n≤o.cells.length then BU (.agg ((List.range n).map fun i=>DZ s L (c+i) (o.cells.getD (c+i) .undef)))else none
 | none=>none
theorem ldP(x:Operand)(L:AA)(c n m:Nat)(hk:T.known t=true)(hs:T.isStruct t=false):DV T pm s t x (.pe L c n m)=Mw s L c (s.look pm L n m):=by
 simp only [DV,hk,hs,if_true,FU]
 cases s.look pm L n m<;>simp [Mw]
theorem ACF(x:Operand)(L:AA)(c n m:Nat)(hk:T.known t=true)(hs:T.isStruct t=true):DV T pm s t x (.pe L c n m)=cellsOf s L c (T.size t) (s.look pm L n m):=by
 simp only [DV,hk,hs,if_true,FU]
 cases s.look pm L n m<;>simp [cellsOf]
theorem ldB(u:Tmp)(xs:List D)(hk:T.known t=true)(hs:T.isStruct t=false):DV T pm s t (.tmp u) (.box xs)=Mw s [u] 0 (some (.box xs)):=by
 simp only [DV,hk,hs,if_true,FU]
 simp [Mw]
theorem ACG(u:Tmp)(xs:List D)(hk:T.known t=true)(hs:T.isStruct t=true):DV T pm s t (.tmp u) (.box xs)=cellsOf s [u] 0 (T.size t) (some (.box xs)):=by
 simp only [DV,hk,hs,if_true,FU]
 simp [cellsOf]
def Mx(s:St)(pm:Pm)(L:AA)(n m:Nat):Option D:=
 match s.look pm L n m with
 | some (.box xs)=>some (.box xs)
 | _=>none
theorem ldV(x:Operand)(L:AA)(n m:Nat)(hk:T.known t=true)(hs:T.isStruct t=false):DV T pm s t x (.vw L n m)=Mw s L 0 (Mx s pm L n m):=by
 simp only [DV,hk,hs,if_true,FU,Mx]
 cases s.look pm L n m with
 | none=>simp [Mw]
 | some o=>cases o<;>simp [Mw]
theorem ACH(x:Operand)(L:AA)(n m:Nat)(hk:T.known t=true)(hs:T.isStruct t=true):DV T pm s t x (.vw L n m)=cellsOf s L 0 (T.size t) (Mx s pm L n m):=by
 simp only [DV,hk,hs,if_true,FU,Mx]
 cases s.look pm L n m with
 | none=>simp [cellsOf]
 | some o=>cases o<;>simp [cellsOf]
def Yl:D→Option D
 | .own e xs=>some (.own e xs)
 | .box xs=>some (.box xs)
 | _=>none
theorem A0I(e:TypeId)(xs:List D):Yl (.own e xs)=some (.own e xs):=nr rfl
theorem A0J(xs:List D):Yl (.box xs)=some (.box xs):=nr rfl
theorem A4n(u n m:Nat):s.look pm [u] n m=if pm.rd u&&(s.k u==n)then Yl (s.v u)else none:=by
 simp only [St.look,List.isEmpty_nil,Bool.true_or,Bool.and_true,BD]
 split
 ·cases s.v u<;>rfl
 ·rfl
def A4o:Option D→Option D
 | some d=>Yl d
 | none=>none
theorem A4p(u c n m:Nat)(p:AA):s.look pm (u::c::p) n m=if pm.rd u&&(s.k u==n)&&(s.m u==m)then A4o (BD (s.v u) (c::p))else none:=by
 simp only [St.look,List.isEmpty_cons,Bool.false_or]
 split
 ·cases BD (s.v u) (c::p)with
  | none=>rfl
  | some d=>cases d<;>rfl
 ·rfl
theorem A4q(d:D):A4o (some d)=Yl d:=nr rfl
theorem ACI(x:Operand)(e:TypeId)(xs:List D):BZ pm s x (.sl e xs)=some (e,xs,none):=nr rfl
theorem A4r(u:Tmp)(e:TypeId)(xs:List D):BZ pm s (.tmp u) (.own e xs)=some (e,xs,some ([u],s.k u,s.m u)):=nr rfl
def A4s(L:AA)(n m:Nat):Option D→Option (TypeId×List D×Option (AA×Nat×Nat))
 | some (.own e xs)=>some (e,xs,some (L,n,m))
 | _=>none
theorem A4t(L:AA)(n m:Nat)(e:TypeId)(xs:List D):A4s L n m (some (.own e xs))=some (e,xs,some (L,n,m)):=nr rfl
theorem ACJ(x:Operand)(L:AA)(n m:Nat):BZ pm s x (.vw L n m)=A4s L n m (s.look pm L n m):=by
 simp only [BZ]
 cases s.look pm L n m with
 | none=>rfl
 | some o=>cases o<;>rfl
def qK(T:Tys):Option (TypeId×List D×Option (AA×Nat×Nat))→Option D
 | some (e,xs,_)=>if T.known e then some (.int .i64 (T.len e xs))else none
 | none=>none
theorem A4u(e:TypeId)(xs:List D)(o:Option (AA×Nat×Nat))(hk:T.known e=true):qK T (some (e,xs,o))=some (.int .i64 (T.len e xs)):=by simp [qK,hk]
def ln0(T:Tys)(pm:Pm)(s:St)(x:Operand)(d:D):Ty→Option D
 | .string=>match d with | .str b=>some (.int .i64 b.size) | _=>none
 | .slice _=>qK T (BZ pm s x d)
 | _=>none
theorem lnT(x:Operand)(d:D):Km T pm s t x d=ln0 T pm s x d (T.ty t):=by
 unfold Km ln0
 cases T.ty t with
 | slice e=>
  simp only
  cases BZ pm s x d with
  | none=>rfl
  | some q=>rfl
 | string=>cases d<;>rfl
 | _=>rfl
theorem A4v(x:Operand)(e:TypeId)(xs:List D):LY T pm s t x (.sl e xs)=Km T pm s t x (.sl e xs):=nr rfl
theorem A0K(x:Operand)(e:TypeId)(xs:List D):LY T pm s t x (.own e xs)=Km T pm s t x (.own e xs):=nr rfl
def lnW(T:Tys)(pm:Pm)(s:St)(t:TypeId)(x:Operand)(L:AA)(n m:Nat):Ty→Option D
 | .map _ _=>(s.lookM pm L n).map fun q=> .int .i64 q.2.2.length
 | _=>Km T pm s t x (.vw L n m)
theorem A4x(x:Operand)(L:AA)(n m:Nat):LY T pm s t x (.vw L n m)=lnW T pm s t x L n m (T.ty t):=by
 show(match T.ty t with | .map _ _=>U0 T pm s t x (.vw L n m) | _=>Xr T pm s t x (.vw L n m))=_
 unfold lnW U0
 cases h:T.ty t<;>simp only [OJ]<;>first | rfl | (cases s.lookM pm L n<;>rfl)
theorem ACK(T:Tys)(x:Operand)(L:AA)(n m:Nat)(k e:TypeId):lnW T pm s t x L n m (.map k e)=(s.lookM pm L n).map fun q=> .int .i64 q.2.2.length:=nr rfl
theorem ACM(T:Tys)(x:Operand)(L:AA)(n m:Nat)(e:TypeId):lnW T pm s t x L n m (.slice e)=Km T pm s t x (.vw L n m):=nr rfl
theorem A0L(T:Tys)(x:Operand)(L:AA)(n m:Nat):lnW T pm s t x L n m .string=Km T pm s t x (.vw L n m):=nr rfl
def A4y:D→Option (TypeId×TypeId×List (List Int×List Int))
 | .mp k e es=>some (k,e,es)
 | _=>none
theorem A4z(k e:TypeId)(es:List (List Int×List Int)):A4y (.mp k e es)=some (k,e,es):=nr rfl
theorem A0M(u n:Nat):s.lookM pm [u] n=if pm.rd u&&(s.k u==n)then A4y (s.v u)else none:=by
 simp only [St.lookM]
 split
 ·cases s.v u<;>rfl
 ·rfl
theorem A0N(x:Operand)(b:ByteArray):LY T pm s t x (.str b)=Km T pm s t x (.str b):=nr rfl
theorem A50(x:Operand)(e:TypeId)(L:AA)(n m lo len:Nat):LY T pm s t x (.vs e L n m lo len)=ou len (T.ty t):=nr rfl
theorem A51(len:Nat)(e:TypeId):ou len (.slice e)=some (.int .i64 len):=nr rfl
theorem A52(x:Operand)(e:TypeId)(xs:List D)(i:D):PX T pm s t x (.sl e xs) i=DK T pm s t x (.sl e xs) i:=nr rfl
theorem A0O(x:Operand)(e:TypeId)(xs:List D)(i:D):PX T pm s t x (.own e xs) i=DK T pm s t x (.own e xs) i:=nr rfl
theorem A53(x:Operand)(L:AA)(n m:Nat)(i:D):PX T pm s t x (.vw L n m) i=DK T pm s t x (.vw L n m) i:=nr rfl
def qL(T:Tys)(e e1:TypeId)(L:AA)(va vb lo len:Nat)(n:Int):Option D→Option D
 | some (.own e2 xs)=>if e1=e∧e2=e∧T.known e=true∧T.size e=1∧0≤n∧n.toNat<len∧lo+len≤xs.length then some (.pe L (lo+n.toNat) va vb)else none
 | _=>none
def A0P(T:Tys)(pm:Pm)(s:St)(e1:TypeId)(L:AA)(va vb lo len:Nat)(n:Int):Ty→Option D
 | .slice e=>qL T e e1 L va vb lo len n (s.look pm L va vb)
 | _=>none
theorem A54(x:Operand)(e:TypeId)(L:AA)(va vb lo len:Nat)(k:IntKind)(n:Int):PX T pm s t x (.vs e L va vb lo len) (.int k n)=A0P T pm s e L va vb lo len n (T.ty t):=by
 show j5 T pm s t e L va vb lo len (.int k n)=_
 unfold j5 A0P
 cases T.ty t with
 | slice e'=>
  simp only
  rcases s.look pm L va vb with _ | d
  ·rfl
  ·cases d<;>rfl
 | _=>rfl
theorem A55(e1:TypeId)(L:AA)(va vb lo len:Nat)(n:Int)(e:TypeId):A0P T pm s e1 L va vb lo len n (.slice e)=qL T e e1 L va vb lo len n (s.look pm L va vb):=nr rfl
theorem A56(e:TypeId)(L:AA)(va vb lo len:Nat)(n:Int)(xs:List D)(hk:T.known e=true)(hz:T.size e=1)(h1:0≤n∧n.toNat<len)(h2:lo+len≤xs.length):qL T e e L va vb lo len n (some (.own e xs))=some (.pe L (lo+n.toNat) va vb):=by
 unfold qL
 dsimp only
 rw [if_pos ⟨rfl,rfl,hk,hz,h1.1,h1.2,h2⟩]
theorem ACN(x:Operand)(d:D)(e:TypeId):ln0 T pm s x d (.slice e)=qK T (BZ pm s x d):=nr rfl
theorem A57(x:Operand)(b:ByteArray):ln0 T pm s x (.str b) .string=some (.int .i64 b.size):=nr rfl
theorem A58(e:TypeId)(xs:List D)(h:T.size e=1):T.len e xs=xs.length:=by simp [Tys.len,h]
def VJ(T:Tys)(e:TypeId)(n:Int):Option (TypeId×List D×Option (AA×Nat×Nat))→Option D
 | some (e',xs,o)=>
  if e'=e∧T.known e=true∧0≤n∧n.toNat<T.len e xs then
   match o with
   | none=>some (.cptr ((xs.drop (n.toNat*T.size e)).take (T.size e)))
   | some (L,a,b)=>some (.pe L (n.toNat*T.size e) a b)
  else none
 | none=>none
def ix0(T:Tys)(pm:Pm)(s:St)(x:Operand)(d:D)(n:Int):Ty→Option D
 | .slice e=>VJ T e n (BZ pm s x d)
 | _=>none
theorem ixT(x:Operand)(d:D)(k:IntKind)(n:Int):DK T pm s t x d (.int k n)=ix0 T pm s x d n (T.ty t):=by
 unfold DK ix0
 cases T.ty t with
 | slice e=>
  simp only
  cases BZ pm s x d with
  | none=>rfl
  | some q=>rfl
 | _=>rfl
theorem ACP(x:Operand)(d:D)(n:Int)(e:TypeId):ix0 T pm s x d n (.slice e)=VJ T e n (BZ pm s x d):=nr rfl
theorem A0Q(e:TypeId)(n:Int)(xs:List D)(hk:T.known e=true)(hz:T.size e=1)(hn:0≤n∧n.toNat<xs.length):VJ T e n (some (e,xs,none))=some (.cptr [xs.getD n.toNat .undef]):=by
 simp only [VJ,hk,hz,Tys.len,if_true]
 rw [if_pos ⟨trivial,trivial,hn.1,hn.2⟩,Nat.mul_one,List.drop_eq_getElem_cons hn.2,List.getD_eq_getElem?_getD,List.getElem?_eq_getElem hn.2];rfl
theorem qM(e:TypeId)(n:Int)(xs:List D)(L:AA)(a b:Nat)(hk:T.known e=true)(hz:T.size e=1)(hn:0≤n∧n.toNat<xs.length):VJ T e n (some (e,xs,some (L,a,b)))=some (.pe L n.toNat a b):=by
 simp only [VJ,hk,hz,Tys.len,if_true]
 rw [if_pos ⟨trivial,trivial,hn.1,hn.2⟩,Nat.mul_one]
end
section
variable {T:Tys} {pm:Pm} {s:St} {t:TypeId} (u:Tmp)
def Tz(pm:Pm)(s:St)(u:Tmp)(d:D):Option (D×St):=BM pm (if d.hasObj then s.clr u else s) d
theorem A59:take T pm s t (.tmp u)=Tz pm s u (s.v u):=nr rfl
theorem tkC(v:Value):take T pm s t (.const v)=match ev T s t (.const v)with | none=>none | some d=>BM pm s d:=nr rfl
theorem A5A(k:IntKind)(n:Int):BM pm s (.int k n)=some (.int k n,s):=by simp [BM]
theorem A0R(b:Bool):BM pm s (.bool b)=some (.bool b,s):=by simp [BM]
theorem A5B(b:ByteArray):BM pm s (.str b)=some (.str b,s):=by simp [BM]
theorem ACQ(e:TypeId)(xs:List D):BM pm s (.sl e xs)=some (.sl e xs,s):=by simp [BM]
theorem A5C(e:TypeId)(xs:List D):BM pm s (.own e xs)=some (.own e xs,s):=by simp [BM]
theorem A5D(xs:List D):BM pm s (.box xs)=some (.box xs,s):=by simp [BM]
theorem A5E(f:FuncId)(xs:List D):BM pm s (.clo f xs)=some (.clo f xs,s):=by simp [BM]
theorem A0S(xs:List D):BM pm s (.cptr xs)=some (.cptr xs,s):=by simp [BM]
theorem ACR(L:AA)(n m:Nat):BM pm s (.vw L n m)=Md pm s L n m:=by simp [BM]
def td1:Option (List D×St)→Option (D×St)
 | some r=>some (.agg r.1,r.2)
 | none=>none
theorem ACS(r:List D×St):td1 (some r)=some (.agg r.1,r.2):=nr rfl
theorem rz(xs:List D):BM pm s (.agg xs)=td1 (Dt pm s xs):=by simp only [BM];cases Dt pm s xs<;>rfl
def td2(pm:Pm)(ds:List D):Option (D×St)→Option (List D×St)
 | some r=>(Dt pm r.2 ds).map fun q=>(r.1::q.1,q.2)
 | none=>none
theorem ACT(ds:List D)(d:D):td2 pm ds (some (d,s))=(Dt pm s ds).map fun q=>(d::q.1,q.2):=nr rfl
theorem A0T:Dt pm s []=some ([],s):=by simp [Dt]
theorem qN(d:D)(ds:List D):Dt pm s (d::ds)=td2 pm ds (BM pm s d):=by simp only [Dt];cases BM pm s d<;>rfl
theorem A5G(k:IntKind)(n:Int):Tz pm s u (.int k n)=some (.int k n,s):=by simp [Tz,BM,D.hasObj]
theorem A0U(b:Bool):Tz pm s u (.bool b)=some (.bool b,s):=by simp [Tz,BM,D.hasObj]
theorem A5H(b:ByteArray):Tz pm s u (.str b)=some (.str b,s):=by simp [Tz,BM,D.hasObj]
theorem ACU(e:TypeId)(xs:List D):Tz pm s u (.sl e xs)=some (.sl e xs,s):=by simp [Tz,BM,D.hasObj]
theorem A5I(e:TypeId)(xs:List D):Tz pm s u (.own e xs)=some (.own e xs,s.clr u):=by simp [Tz,BM,D.hasObj]
theorem A5J(xs:List D):Tz pm s u (.box xs)=some (.box xs,s.clr u):=by simp [Tz,BM,D.hasObj]
theorem A5K(f:FuncId)(xs:List D):Tz pm s u (.clo f xs)=some (.clo f xs,s):=by simp [Tz,BM,D.hasObj]
theorem A0V(xs:List D):Tz pm s u (.cptr xs)=some (.cptr xs,s):=by simp [Tz,BM,D.hasObj]
theorem ACV(L:AA)(n m:Nat):Tz pm s u (.vw L n m)=Md pm s L n m:=by simp [Tz,BM,D.hasObj]
theorem A5L(xs:List D):Tz pm s u (.agg xs)=td1 (Dt pm (if AZ xs then s.clr u else s) xs):=by
 simp only [Tz,D.hasObj];rw [rz];rfl
theorem A0W:AZ []=false:=by simp [AZ]
theorem dZ(d:D)(ds:List D):AZ (d::ds)=(d.hasObj||AZ ds):=by simp [AZ]
theorem A5M(e:TypeId)(xs:List D):(D.sl e xs).hasObj=false:=by simp [D.hasObj]
theorem A5N(e:TypeId)(xs:List D):(D.own e xs).hasObj=true:=by simp [D.hasObj]
theorem A5O(xs:List D):(D.box xs).hasObj=true:=by simp [D.hasObj]
theorem A5P(f:FuncId)(xs:List D):(D.clo f xs).hasObj=false:=by simp [D.hasObj]
theorem A0X(xs:List D):(D.cptr xs).hasObj=false:=by simp [D.hasObj]
theorem ACW(L:AA)(n m:Nat):(D.vw L n m).hasObj=false:=by simp [D.hasObj]
theorem ACX(L:AA)(c n m:Nat):(D.pe L c n m).hasObj=false:=by simp [D.hasObj]
theorem hoK(v:Value):(D.konst v).hasObj=false:=by simp [D.hasObj]
theorem hoU:D.undef.hasObj=false:=by simp [D.hasObj]
theorem A5Q(xs:List D):(D.agg xs).hasObj=AZ xs:=by simp [D.hasObj]
theorem A5R(xs:List D):(D.tup xs).hasObj=AZ xs:=by simp [D.hasObj]
def pl1(s:St)(r:Nat):Option D→Option (D×St)
 | some c=>some (c,s.set [r] .undef)
 | none=>none
theorem ACZ(r:Nat)(c:D):pl1 s r (some c)=some (c,s.set [r] .undef):=nr rfl
theorem A5S(r n m:Nat)(hw:pm.wr r=true):Md pm s [r] n m=pl1 s r (s.look pm [r] n m):=by
 unfold Md
 cases s.look pm [r] n m with
 | none=>rfl
 | some c=>simp [hw,St.get,pl1]
def pl2(s:St)(L:AA)(o:Option D):Option D→Option (D×St)
 | some c=>match o with
  | some (.own _ _)=>(D7 c).map fun c'=>(c',s.set L c')
  | _=>some (c,s.set L .undef)
 | none=>none
theorem ACa(L:AA)(xs:List D)(c:D):pl2 s L (some (.box xs)) (some c)=some (c,s.set L .undef):=nr rfl
theorem ACb(L:AA)(xs:List D)(c:D):pl2 s L (some (.agg xs)) (some c)=some (c,s.set L .undef):=nr rfl
theorem ACc(L:AA)(e:TypeId)(xs:List D)(c:D):pl2 s L (some (.own e xs)) (some c)=(D7 c).map fun c'=>(c',s.set L c'):=nr rfl
theorem A5T(u' c n m:Nat)(p:AA)(hw:pm.wr u'=true):Md pm s (u'::c::p) n m=pl2 s (u'::c::p) (s.get (u'::c::p).dropLast) (s.look pm (u'::c::p) n m):=by
 unfold Md
 cases s.look pm (u'::c::p) n m with
 | none=>rfl
 | some d=>simp only [List.headD_cons,hw,if_true,pl2];rfl
theorem ACd(r:Nat):s.get [r]=some (s.v r):=nr rfl
theorem A5U(d:D):BD d []=some d:=by cases d<;>rfl
theorem A5V(e:TypeId)(xs:List D)(c:Nat)(p:AA):BD (.own e xs) (c::p)=(xs[c]?).bind fun d=>BD d p:=nr rfl
theorem A5W(xs:List D)(c:Nat)(p:AA):BD (.box xs) (c::p)=(xs[c]?).bind fun d=>BD d p:=nr rfl
theorem A5X(xs:List D)(c:Nat)(p:AA):BD (.agg xs) (c::p)=(xs[c]?).bind fun d=>BD d p:=nr rfl
theorem A5Y(d x:D):Er d [] x=x:=by cases d<;>rfl
theorem A5Z(e:TypeId)(xs:List D)(c:Nat)(p:AA)(x:D):Er (.own e xs) (c::p) x= .own e (xs.set c (Er (xs.getD c .undef) p x)):=nr rfl
theorem A5a(xs:List D)(c:Nat)(p:AA)(x:D):Er (.box xs) (c::p) x= .box (xs.set c (Er (xs.getD c .undef) p x)):=nr rfl
theorem A5b(xs:List D)(c:Nat)(p:AA)(x:D):Er (.agg xs) (c::p) x= .agg (xs.set c (Er (xs.getD c .undef) p x)):=nr rfl
end
section
variable {T:Tys} {pm:Pm} {s:St} {t:TypeId}
def VK(T:Tys)(pm:Pm)(t:TypeId)(ax:Operand):Option (D×St)→Option St
 | none=>none
 | some (d,s1)=>
  match ev T s1 t ax with
  | none=>none
  | some ad=>
   match FU pm s1 ax ad with
   | none=>none
   | some (L,c,o)=>
    if T.known t&&pm.wr (L.headD 0)&&d.asCells.all BS&&(T.size t==d.asCells.length)&&(T.isStruct t==d.isAgg)&&decide (c+T.size t≤o.cells.length)then
     let s2:=s1.set L (o.withCells (Ba o.cells c d.asCells))
     some (if d.hasObj||AZ o.cells then s2.bump (L.headD 0)else s2)
    else none
theorem A0Y(ax x:Operand):IP T pm s t ax x=VK T pm t ax (take T pm s t x):=by
 unfold IP EF VK
 rcases take T pm s t x with _ | ⟨d,s1⟩<;>rfl
theorem qO(ax:Operand)(q:Option (D×St)):EF T pm t ax q=VK T pm t ax q:=by
 unfold EF VK
 rcases q with _ | ⟨d,s1⟩<;>rfl
def tm1(T:Tys)(pm:Pm)(s:St)(t:TypeId)(u:Tmp):D→Option (D×St)
 | .vw L n m=>RV pm s L n m
 | _=>take T pm s t (.tmp u)
theorem A0a(u:Tmp):JQ T pm s t (.tmp u)=tm1 T pm s t u (s.v u):=by
 unfold JQ
 simp only [ev]
 cases s.v u<;>rfl
def tm2(s:St)(L:AA):Option D→Option (D×St)
 | some c=>some (c,s.set L .undef)
 | none=>none
theorem ACf(u:Tmp)(L:AA)(n m:Nat)(hw:pm.wr (L.headD 0)=true):tm1 T pm s t u (.vw L n m)=tm2 s L (s.look pm L n m):=by
 show RV pm s L n m=_
 unfold RV tm2
 cases s.look pm L n m with
 | none=>rfl
 | some c=>simp only [hw,if_true]
theorem ACg(u:Tmp)(k:IntKind)(n:Int):tm1 T pm s t u (.int k n)=take T pm s t (.tmp u):=nr rfl
theorem A0b(u:Tmp)(e:TypeId)(xs:List D):tm1 T pm s t u (.own e xs)=take T pm s t (.tmp u):=nr rfl
theorem ACh(u:Tmp)(v:Value):tm1 T pm s t u (.konst v)=take T pm s t (.tmp u):=nr rfl
theorem ACi(u:Tmp):tm1 T pm s t u .undef=take T pm s t (.tmp u):=nr rfl
theorem A0c(v:Value):JQ T pm s t (.const v)=take T pm s t (.const v):=by
 unfold JQ
 split
 ·rename_i L n m he
  simp only [ev,Nt]at he
  split at he<;>try (cases he;done)
  split at he<;>cases he
 ·rfl
theorem A5c(u:Tmp)(e:TypeId)(xs:List D):tm1 T pm s t u (.sl e xs)=take T pm s t (.tmp u):=nr rfl
theorem ACj(L:AA)(c:D):tm2 s L (some c)=some (c,s.set L .undef):=nr rfl
def oZ(s1:St)(L:AA)(c:Nat)(d:D):Option D→Option St
 | none=>none
 | some o=>if c<o.cells.length then(if d.hasObj||AZ o.cells then some ((s1.set L (o.withCells (o.cells.set c d))).bump (L.headD 0))else some (s1.set L (o.withCells (o.cells.set c d))))else none
def sD(T:Tys)(pm:Pm)(t:TypeId)(u:Tmp)(d:D)(s:St):D→Option St
 | .pe L c n m=>if T.known t&& !T.isStruct t&&pm.wr (L.headD 0)&&BS d then oZ s L c d (s.look pm L n m)else VK T pm t (.tmp u) (some (d,s))
 | .vw L n m=>if T.known t&& !T.isStruct t&&pm.wr (L.headD 0)&&BS d then oZ s L 0 d (Mx s pm L n m)else VK T pm t (.tmp u) (some (d,s))
 | .box xs=>if T.known t&& !T.isStruct t&&pm.wr u&&BS d then oZ s [u] 0 d (some (.box xs))else VK T pm t (.tmp u) (some (d,s))
 | _=>VK T pm t (.tmp u) (some (d,s))
theorem N7{d:D}(hd:BS d=true):d.asCells=[d]∧d.isAgg=false:=by
 cases d<;>first | exact⟨rfl,rfl⟩ | (simp [BS]at hd)
theorem IW{T:Tys}{t:TypeId}(hs:T.isStruct t=false):T.size t=1:=by
 unfold Tys.isStruct at hs
 unfold Tys.size
 cases hty:T.ty t<;>simp_all [Ty.isStruct,Ty.size]
theorem ACk(u:Tmp)(d:D)(_:d.isAgg=false):VK T pm t (.tmp u) (some (d,s))=sD T pm t u d s (s.v u):=by
 cases hv:s.v u<;>simp only [sD]
 case pe L c n m=>
  split
  ·rename_i hc
   simp only [Bool.and_eq_true,Bool.not_eq_true']at hc
   obtain⟨⟨⟨hk,hs⟩,hw⟩,hd⟩:=hc
   obtain⟨ha,hg⟩:=N7 hd
   have hz:=IW hs
   simp only [VK,ev,hv,FU]
   cases s.look pm L n m with
   | none=>rfl
   | some o=>
    simp only [oZ,hk,hw,ha,hz,hs,hg,List.all_cons,hd,List.all_nil,List.length_cons,List.length_nil,Bool.and_true,Ba,beq_self_eq_true,Nat.zero_add]
    by_cases hc:c<o.cells.length
    ·have h1:c+1≤o.cells.length:=hc
     simp only [hc,h1,decide_true,Bool.and_true,if_true];split<;>first | rfl | (rename_i hq;simp only [hq];rfl)
    ·have h1: ¬c+1≤o.cells.length:=hc
     simp only [hc,h1,decide_false,Bool.and_false,Bool.false_eq_true,if_false]
  ·rfl
 case vw L n m=>
  split
  ·rename_i hc
   simp only [Bool.and_eq_true,Bool.not_eq_true']at hc
   obtain⟨⟨⟨hk,hs⟩,hw⟩,hd⟩:=hc
   obtain⟨ha,hg⟩:=N7 hd
   have hz:=IW hs
   simp only [VK,ev,hv,FU,Mx]
   cases s.look pm L n m with
   | none=>rfl
   | some o=>
    cases o<;>try rfl
    rename_i xs
    simp only [oZ,hk,hw,ha,hz,hs,hg,List.all_cons,hd,List.all_nil,List.length_cons,List.length_nil,Bool.and_true,Ba,beq_self_eq_true,Nat.zero_add,D.cells]
    by_cases hc:0<xs.length
    ·have h1:1≤xs.length:=hc
     simp only [hc,h1,decide_true,Bool.and_true,if_true];split<;>first | rfl | (rename_i hq;simp only [hq];rfl)
    ·have h1: ¬1≤xs.length:=hc
     simp only [hc,h1,decide_false,Bool.and_false,Bool.false_eq_true,if_false]
  ·rfl
 case box xs=>
  split
  ·rename_i hc
   simp only [Bool.and_eq_true,Bool.not_eq_true']at hc
   obtain⟨⟨⟨hk,hs⟩,hw⟩,hd⟩:=hc
   obtain⟨ha,hg⟩:=N7 hd
   have hz:=IW hs
   simp only [VK,ev,hv,FU]
   simp only [oZ,hk,hw,ha,hz,hs,hg,List.all_cons,hd,List.all_nil,List.length_cons,List.length_nil,Bool.and_true,Ba,beq_self_eq_true,Nat.zero_add,D.cells,List.headD_cons]
   by_cases hc:0<xs.length
   ·have h1:1≤xs.length:=hc
    simp only [hc,h1,decide_true,Bool.and_true,if_true];split<;>first | rfl | (rename_i hq;simp only [hq];rfl)
   ·have h1: ¬1≤xs.length:=hc
    simp only [hc,h1,decide_false,Bool.and_false,Bool.false_eq_true,if_false]
  ·rfl
theorem ACl(u:Tmp)(d:D)(L:AA)(c n m:Nat)(hk:T.known t=true)(hs:T.isStruct t=false)(hw:pm.wr (L.headD 0)=true)(hd:BS d=true):sD T pm t u d s (.pe L c n m)=oZ s L c d (s.look pm L n m):=by
 simp [sD,hk,hs,hd];intro h;simp_all
theorem ACm(u:Tmp)(d:D)(L:AA)(n m:Nat)(hk:T.known t=true)(hs:T.isStruct t=false)(hw:pm.wr (L.headD 0)=true)(hd:BS d=true):sD T pm t u d s (.vw L n m)=oZ s L 0 d (Mx s pm L n m):=by
 simp [sD,hk,hs,hd];intro h;simp_all
theorem ACn(u:Tmp)(d:D)(xs:List D)(hk:T.known t=true)(hs:T.isStruct t=false)(hw:pm.wr u=true)(hd:BS d=true):sD T pm t u d s (.box xs)=oZ s [u] 0 d (some (.box xs)):=by
 simp [sD,hk,hs,hd];intro h;simp_all
def bx1:Option D→Option D
 | some (.box xs)=>some (.box xs)
 | _=>none
theorem bxA(L:AA)(n m:Nat):Mx s pm L n m=bx1 (s.look pm L n m):=by
 unfold Mx bx1
 cases s.look pm L n m with
 | none=>rfl
 | some o=>cases o<;>rfl
theorem ACp(xs:List D):bx1 (some (.box xs))=some (.box xs):=nr rfl
theorem hdC(a:Nat)(l:AA)(d:Nat):List.headD (a::l) d=a:=nr rfl
theorem ACq(L:AA)(c:Nat)(d o:D):oZ s L c d (some o)=if c<o.cells.length then(if d.hasObj||AZ o.cells then some ((s.set L (o.withCells (o.cells.set c d))).bump (L.headD 0))else some (s.set L (o.withCells (o.cells.set c d))))else none:=nr rfl
theorem A5d(e:TypeId)(xs:List D):(D.own e xs).cells=xs:=nr rfl
theorem A5e(xs:List D):(D.box xs).cells=xs:=nr rfl
theorem A5f(e:TypeId)(xs ys:List D):(D.own e xs).withCells ys= .own e ys:=nr rfl
theorem A5g(xs ys:List D):(D.box xs).withCells ys= .box ys:=nr rfl
theorem A5h(k:IntKind)(n:Int):BS (.int k n)=true:=nr rfl
theorem A0d(b:Bool):BS (.bool b)=true:=nr rfl
theorem A5i(b:ByteArray):BS (.str b)=true:=nr rfl
theorem ACr(e:TypeId)(xs:List D):BS (.sl e xs)=true:=nr rfl
theorem A5j(e:TypeId)(xs:List D):BS (.own e xs)=true:=nr rfl
theorem A5k(xs:List D):BS (.box xs)=true:=nr rfl
theorem A5l(f:FuncId)(xs:List D):BS (.clo f xs)=true:=nr rfl
theorem A0e(xs:List D):BS (.cptr xs)=true:=nr rfl
theorem ceS(L:AA)(c:Nat)(o:D):Mw s L c (some o)=(o.cells[c]?).bind fun x=>BU (DZ s L c x):=nr rfl
theorem A5m(L:AA)(c:Nat)(k:IntKind)(n:Int):BU (DZ s L c (.int k n))=some (.int k n):=nr rfl
theorem A0f(L:AA)(c:Nat)(b:Bool):BU (DZ s L c (.bool b))=some (.bool b):=nr rfl
theorem A5n(L:AA)(c:Nat)(b:ByteArray):BU (DZ s L c (.str b))=some (.str b):=nr rfl
theorem ACs(L:AA)(c:Nat)(e:TypeId)(xs:List D):BU (DZ s L c (.sl e xs))=some (.sl e xs):=nr rfl
theorem A5o(L:AA)(c:Nat)(f:FuncId)(xs:List D):BU (DZ s L c (.clo f xs))=some (.clo f xs):=nr rfl
theorem ACt(L:AA)(c:Nat)(M:AA)(n m:Nat):BU (DZ s L c (.vw M n m))=some (.vw M n m):=nr rfl
theorem A5p(L:AA)(c:Nat)(e:TypeId)(xs:List D):BU (DZ s L c (.own e xs))=some (Zh s (L++[c])):=nr rfl
theorem ACu(r:Nat)(p:AA):Zh s (r::p)= .vw (r::p) (s.k r) (s.m r):=nr rfl
def ap1(T:Tys)(pm:Pm)(e:TypeId)(ty:TypeId)(y:Operand):Option (D×St)→Option (D×St)
 | some (.own e1 xs,s1)=>
   match ev T s1 ty y with
   | some d=>
    match BZ pm s1 y d with
    | some (e2,ys,_)=>
     if e1=e∧e2=e∧T.elem e=true∧ys.all BS=true∧xs.length+ys.length<1099511627776 then
      if AZ ys then
       match d,y with
       | .own _ _, .tmp u=>some (.own e (xs++ys),s1.clr u)
       | _,_=>none
      else some (.own e (xs++ys),s1)
     else none
    | none=>none
   | none=>none
 | _=>none
def az1(T:Tys)(e:TypeId):Option (D×St)→Option (D×St)
 | some (.own e1 xs,s1)=>if e1=e∧T.known e=true then some (.own e xs,s1)else none
 | _=>none
def az0(T:Tys)(pm:Pm)(s:St)(ty:TypeId)(x:Operand):Ty→Option (D×St)
 | .slice e=>az1 T e (take T pm s ty x)
 | _=>none
theorem A5s(ty:TypeId)(x:Operand):KM T pm s ty x=az0 T pm s ty x (T.ty ty):=by
 unfold KM az0
 cases T.ty ty with
 | slice e=>
  simp only [az1]
  rcases take T pm s ty x with _ | ⟨d,s1⟩
  ·rfl
  ·cases d<;>rfl
 | _=>rfl
theorem RJ{T:Tys}{e:TypeId}(hk:T.known e=true)(h4:T.size e≤4):T.elem e=true:=by simp [Tys.elem,hk,h4]
theorem ACw(ty:TypeId)(x:Operand)(e:TypeId):az0 T pm s ty x (.slice e)=az1 T e (take T pm s ty x):=nr rfl
theorem ACx(e:TypeId)(xs:List D)(hk:T.known e=true):az1 T e (some (.own e xs,s))=some (.own e xs,s):=by simp [az1,hk]
def ap0(T:Tys)(pm:Pm)(s:St)(ty:TypeId)(x y:Operand):Ty→Option (D×St)
 | .slice e=>ap1 T pm e ty y (JQ T pm s ty x)
 | _=>none
theorem ACz(ty:TypeId)(x y:Operand):Es T pm s ty x y=ap0 T pm s ty x y (T.ty ty):=by
 unfold Es ap0
 cases T.ty ty with
 | slice e=>
  simp only [ap1]
  rcases JQ T pm s ty x with _ | ⟨d,s1⟩
  ·rfl
  ·cases d<;>rfl
 | _=>rfl
theorem AD0(ty:TypeId)(x y:Operand)(e:TypeId):ap0 T pm s ty x y (.slice e)=ap1 T pm e ty y (JQ T pm s ty x):=nr rfl
def ap2(T:Tys)(e e1:TypeId)(xs:List D)(s:St)(u:Tmp)(d:D):Option (TypeId×List D×Option (AA×Nat×Nat))→Option (D×St)
 | some (e2,ys,_)=>
     if e1=e∧e2=e∧T.elem e=true∧ys.all BS=true∧xs.length+ys.length<1099511627776 then
      if AZ ys then
       match d with
       | .own _ _=>some (.own e (xs++ys),s.clr u)
       | _=>none
      else some (.own e (xs++ys),s)
     else none
 | none=>none
theorem AD1(ty e e1:TypeId)(u:Tmp)(xs:List D):ap1 T pm e ty (.tmp u) (some (.own e1 xs,s))=ap2 T e e1 xs s u (s.v u) (BZ pm s (.tmp u) (s.v u)):=by
 simp only [ap1,ev,ap2]
 rcases BZ pm s (.tmp u) (s.v u)with _ | ⟨e2,ys,o⟩
 ·rfl
 ·simp only
  split
  ·split
   ·cases s.v u<;>rfl
   ·rfl
  ·rfl
theorem AD2(e:TypeId)(u:Tmp)(xs ys:List D)(d:D)(o:Option (AA×Nat×Nat))(hk:T.known e=true)(h4:T.size e≤4)(hy:ys.all BS=true)(hno:AZ ys=false)(hl:xs.length+ys.length<1099511627776):
  ap2 T e e xs s u d (some (e,ys,o))=some (.own e (xs++ys),s):=by
 simp only [ap2]
 rw [if_pos ⟨trivial,trivial,RJ hk h4,hy,hl⟩,hno];simp
theorem AD3(e e':TypeId)(u:Tmp)(xs ys zs:List D)(o:Option (AA×Nat×Nat))(hk:T.known e=true)(h4:T.size e≤4)(hy:ys.all BS=true)(hno:AZ ys=true)(hl:xs.length+ys.length<1099511627776):
  ap2 T e e xs s u (.own e' zs) (some (e,ys,o))=some (.own e (xs++ys),s.clr u):=by
 simp only [ap2]
 rw [if_pos ⟨trivial,trivial,RJ hk h4,hy,hl⟩,hno];simp
end
section
variable {E:Env} {pm:Pm} {s:St} {dst:Option Tmp}
def Ym(a:D)(l:List (AA×D)):Option (List D×List (AA×D))→Option (List D×List (AA×D))
 | some (as,ls)=>some (a::as,l++ls)
 | none=>none
theorem A0g(a:D)(l:List (AA×D))(as:List D)(ls:List (AA×D)):Ym a l (some (as,ls))=some (a::as,l++ls):=nr rfl
def QU(E:Env)(lend:Bool)(pm:Pm)(s:St)(j:Nat)(rest:List (Operand×TypeId)):Option (D×List (AA×D))→Option (List D×List (AA×D))
 | some (a,l)=>Ym a l (D5 E lend pm s (j+l.length) rest)
 | none=>none
theorem A0h(lend:Bool)(j:Nat)(rest:List (Operand×TypeId))(a:D)(l:List (AA×D)):QU E lend pm s j rest (some (a,l))=Ym a l (D5 E lend pm s (j+l.length) rest):=nr rfl
theorem A5t(lend:Bool)(j:Nat):D5 E lend pm s j []=some ([],[]):=nr rfl
theorem A5u(lend:Bool)(j:Nat)(u:Tmp)(t:TypeId)(rest:List (Operand×TypeId)):D5 E lend pm s j ((.tmp u,t)::rest)=QU E lend pm s j rest (JS E.T lend pm s j [u] (s.v u)):=by
 simp only [D5,ev]
 rcases JS E.T lend pm s j [u] (s.v u)with _ | ⟨a,l⟩
 ·rfl
 ·simp only [QU];rcases D5 E lend pm s (j+l.length) rest with _ | ⟨as,ls⟩<;>rfl
def aC(E:Env)(lend:Bool)(pm:Pm)(s:St)(j:Nat)(rest:List (Operand×TypeId)):Option D→Option (List D×List (AA×D))
 | some d=>QU E lend pm s j rest (JS E.T lend pm s j [] d)
 | none=>none
theorem aCS(lend:Bool)(j:Nat)(rest:List (Operand×TypeId))(d:D):aC E lend pm s j rest (some d)=QU E lend pm s j rest (JS E.T lend pm s j [] d):=nr rfl
theorem arC(lend:Bool)(j:Nat)(v:Value)(t:TypeId)(rest:List (Operand×TypeId)):D5 E lend pm s j ((.const v,t)::rest)=aC E lend pm s j rest (ev E.T s t (.const v)):=by
 simp only [D5]
 cases ev E.T s t (.const v)with
 | none=>rfl
 | some d=>
  simp only [aC]
  rcases JS E.T lend pm s j [] d with _ | ⟨a,l⟩
  ·rfl
  ·simp only [QU];rcases D5 E lend pm s (j+l.length) rest with _ | ⟨as,ls⟩<;>rfl
theorem arF(lend:Bool)(j:Nat)(f:FuncId)(t:TypeId)(rest:List (Operand×TypeId)):D5 E lend pm s j ((.func f,t)::rest)=QU E lend pm s j rest (JS E.T lend pm s j [] (.clo f [])):=by
 simp only [D5,ev]
 rcases JS E.T lend pm s j [] (.clo f [])with _ | ⟨a,l⟩
 ·rfl
 ·simp only [QU];rcases D5 E lend pm s (j+l.length) rest with _ | ⟨as,ls⟩<;>rfl
variable (lend:Bool) (j:Nat) (L:AA)
theorem A5v(T:Tys)(k:IntKind)(n:Int):JS T lend pm s j L (.int k n)=C8 lend pm s j L (.int k n):=nr rfl
theorem A0i(T:Tys)(b:Bool):JS T lend pm s j L (.bool b)=C8 lend pm s j L (.bool b):=nr rfl
theorem A5w(T:Tys)(b:ByteArray):JS T lend pm s j L (.str b)=C8 lend pm s j L (.str b):=nr rfl
theorem AD4(T:Tys)(e:TypeId)(xs:List D):JS T lend pm s j L (.sl e xs)=C8 lend pm s j L (.sl e xs):=nr rfl
theorem A5x(T:Tys)(f:FuncId)(xs:List D):JS T lend pm s j L (.clo f xs)=C8 lend pm s j L (.clo f xs):=nr rfl
theorem A0j(T:Tys)(xs:List D):JS T lend pm s j L (.cptr xs)=C8 lend pm s j L (.cptr xs):=nr rfl
theorem axK(T:Tys)(v:Value):JS T lend pm s j L (.konst v)=C8 lend pm s j L (.konst v):=nr rfl
theorem A5y(T:Tys)(e:TypeId)(xs:List D):JS T lend pm s j L (.own e xs)=C8 lend pm s j L (.own e xs):=nr rfl
theorem A5z(T:Tys)(xs:List D):JS T lend pm s j L (.box xs)=C8 lend pm s j L (.box xs):=nr rfl
theorem AD5(T:Tys)(M:AA)(n m:Nat):JS T lend pm s j L (.vw M n m)=C8 lend pm s j L (.vw M n m):=nr rfl
theorem A60(T:Tys)(xs:List D):JS T lend pm s j L (.agg xs)=C8 lend pm s j L (.agg xs):=nr rfl
theorem A61(k:IntKind)(n:Int):C8 lend pm s j L (.int k n)=some (.int k n,[]):=nr rfl
theorem A0k(b:Bool):C8 lend pm s j L (.bool b)=some (.bool b,[]):=nr rfl
theorem A62(b:ByteArray):C8 lend pm s j L (.str b)=some (.str b,[]):=nr rfl
theorem AD6(e:TypeId)(xs:List D):C8 lend pm s j L (.sl e xs)=some (.sl e xs,[]):=nr rfl
theorem A63(f:FuncId)(xs:List D):C8 lend pm s j L (.clo f xs)=some (.clo f xs,[]):=nr rfl
theorem A0l(xs:List D):C8 lend pm s j L (.cptr xs)=some (.cptr xs,[]):=nr rfl
theorem atK(v:Value):C8 lend pm s j L (.konst v)=some (.konst v,[]):=nr rfl
def fz1(l:List (AA×D)):Option D→Option (D×List (AA×D))
 | some c=>some (c,l)
 | none=>none
theorem AD7(l:List (AA×D))(c:D):fz1 l (some c)=some (c,l):=nr rfl
theorem A65(e:TypeId)(xs:List D):C8 false pm s j L (.own e xs)=fz1 [(L, .own e xs)] (D7 (.own e xs)):=by
 show((D7 (.own e xs)).map fun c'=>(c',[(L,D.own e xs)]))=_
 cases D7 (.own e xs)<;>rfl
theorem A66(xs:List D):C8 false pm s j L (.box xs)=fz1 [(L, .box xs)] (D7 (.box xs)):=by
 show((D7 (.box xs)).map fun c'=>(c',[(L,D.box xs)]))=_
 cases D7 (.box xs)<;>rfl
def fz2(L:AA):Option D→Option (D×List (AA×D))
 | some c=>fz1 [(L,c)] (D7 c)
 | none=>none
theorem AD9(c:D):fz2 L (some c)=fz1 [(L,c)] (D7 c):=nr rfl
theorem ADA(M:AA)(n m:Nat):C8 false pm s j L (.vw M n m)=fz2 M (s.look pm M n m):=by
 simp only [C8,FH]
 cases s.look pm M n m with
 | none=>rfl
 | some c=>simp only [fz2];cases D7 c<;>rfl
theorem A0m(e:TypeId)(xs:List D):C8 true pm s j L (.own e xs)=some (.vw [G+j] 0 0,[(L, .own e xs)]):=nr rfl
theorem A0n(xs:List D):C8 true pm s j L (.box xs)=some (.vw [G+j] 0 0,[(L, .box xs)]):=nr rfl
def ln2(j:Nat)(L:AA):Option D→Option (D×List (AA×D))
 | some c=>some (.vw [G+j] 0 0,[(L,c)])
 | none=>none
theorem ADB(c:D):ln2 j L (some c)=some (.vw [G+j] 0 0,[(L,c)]):=nr rfl
theorem A67(M:AA)(n m:Nat):C8 true pm s j L (.vw M n m)=ln2 j M (s.look pm M n m):=by
 simp only [C8,FH]
 cases s.look pm M n m<;>rfl
def ag1:Option (List D×List (AA×D))→Option (D×List (AA×D))
 | some r=>some (.agg r.1,r.2)
 | none=>none
theorem ADC(r:List D×List (AA×D)):ag1 (some r)=some (.agg r.1,r.2):=nr rfl
theorem A68(xs:List D):C8 lend pm s j L (.agg xs)=ag1 (Da lend pm s L j 0 xs):=by
 simp only [C8]
 cases Da lend pm s L j 0 xs<;>rfl
def kV(lend:Bool)(pm:Pm)(s:St)(L0:AA)(j i:Nat)(ds:List D):Option (D×List (AA×D))→Option (List D×List (AA×D))
 | some (a,l)=>Ym a l (Da lend pm s L0 (j+l.length) (i+1) ds)
 | none=>none
theorem A0o(i:Nat)(ds:List D)(a:D)(l:List (AA×D)):kV lend pm s L j i ds (some (a,l))=Ym a l (Da lend pm s L (j+l.length) (i+1) ds):=nr rfl
theorem A69(i:Nat):Da lend pm s L j i []=some ([],[]):=nr rfl
theorem A0p(i:Nat)(d:D)(ds:List D)(h:d.isAgg=false):Da lend pm s L j i (d::ds)=kV lend pm s L j i ds (C8 lend pm s j (L++[i]) d):=by
 have:C8 lend pm s j (L++[i]) d=FH lend pm s j (L++[i]) d:=by cases d<;>first | rfl | (simp [D.isAgg]at h)
 rw [this]
 simp only [Da]
 rcases FH lend pm s j (L++[i]) d with _ | ⟨a,l⟩
 ·rfl
 ·simp only [kV];rcases Da lend pm s L (j+l.length) (i+1) ds with _ | ⟨as,ls⟩<;>rfl
theorem A6A(k:IntKind)(n:Int):(D.int k n).isAgg=false:=nr rfl
theorem A0q(b:Bool):(D.bool b).isAgg=false:=nr rfl
theorem A6B(b:ByteArray):(D.str b).isAgg=false:=nr rfl
theorem ADE(e:TypeId)(xs:List D):(D.sl e xs).isAgg=false:=nr rfl
theorem A6C(e:TypeId)(xs:List D):(D.own e xs).isAgg=false:=nr rfl
theorem ADF(M:AA)(n m:Nat):(D.vw M n m).isAgg=false:=nr rfl
theorem A6D(f:FuncId)(xs:List D):(D.clo f xs).isAgg=false:=nr rfl
theorem A6E(xs:List D):(D.box xs).isAgg=false:=nr rfl
theorem A0r(xs:List D):(D.cptr xs).isAgg=false:=nr rfl
theorem A6F(xs:List D):(D.agg xs).isAgg=true:=nr rfl
def cb1(E:Env)(pm:Pm)(s:St)(dst:Option Tmp)(f:FuncId)(caps:List D):Option (List D×List (AA×D))→Option St
 | none=>none
 | some (as,ls)=>
  match E.call f (as++caps) []with
  | some (r,_)=>
   if CK r then
    if De (ls.map (·.1))&&ls.all (fun l=>pm.wr (l.1.headD 0))then(Ho ls).map fun ls'=>(back false s ls').putO dst r else none
   else some (s.putO dst r)
  | none=>none
theorem cdB(f:FuncId)(xs:List (Operand×TypeId))(caps:List D)(h:E.lends f=false):I1 E pm s dst f xs caps=cb1 E pm s dst f caps (D5 E false pm s 0 xs):=by
 unfold I1 cb1
 rw [h]
 simp only [Bool.false_eq_true,if_false]
 rcases D5 E false pm s 0 xs with _ | ⟨as,ls⟩<;>rfl
def cb2(pm:Pm)(s:St)(dst:Option Tmp)(ls:List (AA×D)):Option (D×List D)→Option St
 | some (r,_)=>
   if CK r then
    if De (ls.map (·.1))&&ls.all (fun l=>pm.wr (l.1.headD 0))then(Ho ls).map fun ls'=>(back false s ls').putO dst r else none
   else some (s.putO dst r)
 | none=>none
theorem ADG(f:FuncId)(caps as:List D)(ls:List (AA×D)):cb1 E pm s dst f caps (some (as,ls))=cb2 pm s dst ls (E.call f (as++caps) []):=by
 simp only [cb1]
 rcases E.call f (as++caps) []with _ | ⟨r,o⟩<;>rfl
theorem ADH(ls:List (AA×D))(r:D)(o:List D)(h:CK r=false):cb2 pm s dst ls (some (r,o))=some (s.putO dst r):=by simp [cb2,h]
theorem ADI(r:D)(o:List D):cb2 pm s dst [] (some (r,o))=some (s.putO dst r):=by
 simp only [cb2];split<;>rfl
def cl1(E:Env)(pm:Pm)(s:St)(dst:Option Tmp)(f:FuncId)(caps:List D):Option (List D×List (AA×D))→Option St
 | none=>none
 | some (as,ls)=>
   if De (ls.map (·.1))&&ls.all (fun l=>pm.wr (l.1.headD 0))&&ls.all (fun l=>Vi l.2)then
    match E.call f (as++caps) (ls.map (·.2))with
    | some (r,outs)=>if outs.length=ls.length then some ((JU s (ls.map (·.1)) outs).putO dst r)else none
    | none=>none
   else none
theorem cdL(f:FuncId)(xs:List (Operand×TypeId))(caps:List D)(h:E.lends f=true):I1 E pm s dst f xs caps=cl1 E pm s dst f caps (D5 E true pm s 0 xs):=by
 unfold I1 cl1
 rw [h]
 simp only [if_true]
 rcases D5 E true pm s 0 xs with _ | ⟨as,ls⟩<;>rfl
def cl2(s:St)(dst:Option Tmp)(ls:List (AA×D)):Option (D×List D)→Option St
 | some (r,outs)=>if outs.length=ls.length then some ((JU s (ls.map (·.1)) outs).putO dst r)else none
 | none=>none
theorem ADJ(f:FuncId)(caps as:List D)(ls:List (AA×D))(h:(De (ls.map (·.1))&&ls.all (fun l=>pm.wr (l.1.headD 0))&&ls.all (fun l=>Vi l.2))=true):cl1 E pm s dst f caps (some (as,ls))=cl2 s dst ls (E.call f (as++caps) (ls.map (·.2))):=by
 simp only [cl1,h,if_true]
 rcases E.call f (as++caps) (ls.map (·.2))with _ | ⟨r,o⟩<;>rfl
theorem ADK(ls:List (AA×D))(r:D)(outs:List D)(h:outs.length=ls.length):cl2 s dst ls (some (r,outs))=some ((JU s (ls.map (·.1)) outs).putO dst r):=by simp [cl2,h]
end
theorem A6G(k:IntKind)(n:Int):CK (.int k n)=false:=by simp [CK]
theorem A0t(b:Bool):CK (.bool b)=false:=by simp [CK]
theorem A6H(b:ByteArray):CK (.str b)=false:=by simp [CK]
theorem sG(e:TypeId)(xs:List D):CK (.own e xs)=CL xs:=by simp [CK]
theorem A6I(xs:List D):CK (.box xs)=CL xs:=by simp [CK]
theorem A6J(xs:List D):CK (.agg xs)=CL xs:=by simp [CK]
theorem A6K(xs:List D):CK (.tup xs)=CL xs:=by simp [CK]
theorem A0u:CL []=false:=by simp [CL]
theorem df(d:D)(ds:List D):CL (d::ds)=(CK d||CL ds):=by simp [CL]
theorem A6L(k:IntKind)(n:Int):D7 (.int k n)=some (.int k n):=by simp [D7]
theorem A0v(b:Bool):D7 (.bool b)=some (.bool b):=by simp [D7]
theorem A6M(b:ByteArray):D7 (.str b)=some (.str b):=by simp [D7]
theorem A6N(e:TypeId)(xs:List D):D7 (.sl e xs)=some (.sl e xs):=by simp [D7]
theorem A6O(f:FuncId)(xs:List D):D7 (.clo f xs)=some (.clo f xs):=by simp [D7]
theorem A0w(xs:List D):D7 (.cptr xs)=some (.cptr xs):=by simp [D7]
def fzM(f:List D→D):Option (List D)→Option D
 | some xs=>some (f xs)
 | none=>none
theorem A6Q(f:List D→D)(xs:List D):fzM f (some xs)=some (f xs):=nr rfl
theorem kW(e:TypeId)(xs:List D):D7 (.own e xs)=fzM (.sl e) (C9 xs):=by simp only [D7];cases C9 xs<;>rfl
theorem A6R(xs:List D):D7 (.box xs)=fzM .cptr (C9 xs):=by simp only [D7];cases C9 xs<;>rfl
theorem A6S(xs:List D):D7 (.agg xs)=fzM .agg (C9 xs):=by simp only [D7];cases C9 xs<;>rfl
theorem A6T(xs:List D):D7 (.tup xs)=fzM .tup (C9 xs):=by simp only [D7];cases C9 xs<;>rfl
theorem A0x:C9 []=some []:=by simp [C9]
def fzC:Option D→Option (List D)→Option (List D)
 | some d,some ds=>some (d::ds)
 | _,_=>none
theorem ADL(d:D)(ds:List D):fzC (some d) (some ds)=some (d::ds):=nr rfl
theorem RL(d:D)(ds:List D):C9 (d::ds)=fzC (D7 d) (C9 ds):=by
 simp only [C9];cases D7 d<;>cases C9 ds<;>rfl
theorem ADM(d:D):Vi d=(D7 d).isSome:=nr rfl
section
variable {T:Tys} {s:St}
def iy(n:Nat):Option (D×St)→Option (D×List D)
 | none=>none
 | some (r,s')=>if Vi r&&((List.range n).map fun j=>s'.v (G+j)).all Vj then some (r,(List.range n).map fun j=>s'.v (G+j))else none
theorem fiD(n:Nat)(rs:List ResultVar):U3 T n rs s=iy n (Kn T s rs):=by
 unfold U3 iy
 rcases Kn T s rs with _ | ⟨r,s'⟩<;>rfl
theorem fi0(r:D):iy 0 (some (r,s))=if Vi r then some (r,[])else none:=by simp [iy]
theorem fiA(r:D):iy 1 (some (r,s))=if Vi r&&Vj (s.v 100000)then some (r,[s.v 100000])else none:=by
 simp [iy,G,List.range_succ]
theorem fiB(r:D):iy 2 (some (r,s))=if Vi r&&(Vj (s.v 100000)&&Vj (s.v 100001))then some (r,[s.v 100000,s.v 100001])else none:=by
 simp [iy,G,List.range_succ,and_assoc]
theorem fiC(r:D):iy 3 (some (r,s))=if Vi r&&(Vj (s.v 100000)&&(Vj (s.v 100001)&&Vj (s.v 100002)))then some (r,[s.v 100000,s.v 100001,s.v 100002])else none:=by
 simp [iy,G,List.range_succ,and_assoc]
theorem fiE(r:D):iy 4 (some (r,s))=if Vi r&&(Vj (s.v 100000)&&(Vj (s.v 100001)&&(Vj (s.v 100002)&&Vj (s.v 100003))))then some (r,[s.v 100000,s.v 100001,s.v 100002,s.v 100003])else none:=by
 simp [iy,G,List.range_succ,and_assoc]
theorem A0y(e:TypeId)(xs:List D):Vj (.own e xs)=(D7 (.own e xs)).isSome:=nr rfl
theorem A0z(xs:List D):Vj (.box xs)=(D7 (.box xs)).isSome:=nr rfl
theorem ADN:Vj .undef=true:=nr rfl
theorem A6U(e:TypeId)(xs:List D):Vj (.sl e xs)=true:=by simp [Vj,D7]
theorem re1(r:ResultVar):Kn T s [r]=Rf T s r:=nr rfl
def reT:Option (List D×St)→Option (D×St)
 | some q=>some (.tup q.1,q.2)
 | none=>none
theorem ADO(q:List D×St):reT (some q)=some (.tup q.1,q.2):=nr rfl
theorem re2(r r':ResultVar)(rs:List ResultVar):Kn T s (r::r'::rs)=reT (La T s (r::r'::rs)):=by
 show((La T s (r::r'::rs)).map fun q=>(D.tup q.1,q.2))=_
 cases La T s (r::r'::rs)<;>rfl
theorem re0:Kn T s []=some (.tup [],s):=nr rfl
theorem A6V(t:Tmp):Rf T s (.tmp t)=Tz Pm.all s t (s.v t):=nr rfl
theorem A6W:La T s []=some ([],s):=nr rfl
def rdN(T:Tys)(rs:List ResultVar):Option (D×St)→Option (List D×St)
 | some (d,s)=>(La T s rs).map fun p=>(d::p.1,p.2)
 | none=>none
theorem ADP(rs:List ResultVar)(d:D):rdN T rs (some (d,s))=(La T s rs).map fun p=>(d::p.1,p.2):=nr rfl
theorem A10(r:ResultVar)(rs:List ResultVar):La T s (r::rs)=rdN T rs (Rf T s r):=by
 simp only [La]
 rcases Rf T s r with _ | ⟨d,s'⟩<;>rfl
theorem ADQ(r:Nat):Pm.all.rd r=true:=nr rfl
theorem ADR(r:Nat):Pm.all.wr r=true:=nr rfl
def Tx(s:St)(dst:Option Tmp)(u:Tmp)(i:Nat):Option D→Option St
 | none=>none
 | some (.agg ys)=>Hr s dst (BU (.agg ((List.range ys.length).map fun j=>DZ s [u,i] j (ys.getD j .undef))))
 | some c=>Hr s dst (BU (DZ s [u] i c))
theorem A6X(dst:Option Tmp)(u:Tmp)(xs:List D)(i:Nat):Gs s dst (.tmp u) (.tup xs) i=Tx s dst u i xs[i]? :=by
 simp only [Gs]
 rcases xs[i]? with _ | c
 ·rfl
 ·cases c<;>first | exact Gh s dst _ | rfl
theorem A6Y(dst:Option Tmp)(u:Tmp)(i:Nat)(ys:List D):Tx s dst u i (some (.agg ys))=Hr s dst (BU (.agg ((List.range ys.length).map fun j=>DZ s [u,i] j (ys.getD j .undef)))):=nr rfl
theorem A6Z(dst:Option Tmp)(u:Tmp)(i:Nat)(k:IntKind)(n:Int):Tx s dst u i (some (.int k n))=some (s.putO dst (.int k n)):=by simp [Tx,BU,DZ,D.hasObj,Hr]
theorem A11(dst:Option Tmp)(u:Tmp)(i:Nat)(b:Bool):Tx s dst u i (some (.bool b))=some (s.putO dst (.bool b)):=by simp [Tx,BU,DZ,D.hasObj,Hr]
theorem A6a(dst:Option Tmp)(u:Tmp)(i:Nat)(b:ByteArray):Tx s dst u i (some (.str b))=some (s.putO dst (.str b)):=by simp [Tx,BU,DZ,D.hasObj,Hr]
theorem ADS(dst:Option Tmp)(u:Tmp)(i:Nat)(e:TypeId)(xs:List D):Tx s dst u i (some (.sl e xs))=some (s.putO dst (.sl e xs)):=by simp [Tx,BU,DZ,D.hasObj,Hr]
theorem A6b(dst:Option Tmp)(u:Tmp)(i:Nat)(e:TypeId)(xs:List D):Tx s dst u i (some (.own e xs))=some (s.putO dst (.vw [u,i] (s.k u) (s.m u))):=by simp [Tx,BU,DZ,D.hasObj,Hr,Zh]
theorem A6c(dst:Option Tmp)(u:Tmp)(i:Nat)(f:FuncId)(xs:List D):Tx s dst u i (some (.clo f xs))=some (s.putO dst (.clo f xs)):=by simp [Tx,BU,DZ,D.hasObj,Hr]
theorem A6d(xs:List D)(c:Nat)(p:AA):BD (.tup xs) (c::p)=(xs[c]?).bind fun d=>BD d p:=nr rfl
theorem A6e(xs:List D)(c:Nat)(p:AA)(x:D):Er (.tup xs) (c::p) x= .tup (xs.set c (Er (xs.getD c .undef) p x)):=nr rfl
theorem ADT(L:AA)(xs:List D)(c:D):pl2 s L (some (.tup xs)) (some c)=some (c,s.set L .undef):=nr rfl
theorem A6f(deep:Bool):back deep s []=s:=nr rfl
theorem bkT(t:Nat)(p:AA)(c:D)(rest:List (AA×D)):back true s ((t::p,c)::rest)=back true ((s.set (t::p) c).bump t) rest:=nr rfl
theorem bkF(t:Nat)(p:AA)(c:D)(rest:List (AA×D)):back false s ((t::p,c)::rest)=back false (s.set (t::p) c) rest:=nr rfl
theorem bkE(deep:Bool)(c:D)(rest:List (AA×D)):back deep s (([],c)::rest)=back deep s rest:=nr rfl
theorem bkL(Ls:List AA)(outs:List D):JU s Ls outs=back true (back false s (Ls.map fun L=>(L, .undef))) (Ls.zip outs):=nr rfl
theorem A6g:De []=true:=nr rfl
theorem A12(L:AA)(Ls:List AA):De (L::Ls)=((L.isEmpty||Ls.all fun M=>M.isEmpty||(!L.isPrefixOf M&& !M.isPrefixOf L))&&De Ls):=nr rfl
theorem ipC(a b:Nat)(l m:AA):List.isPrefixOf (a::l) (b::m)=(a==b&&List.isPrefixOf l m):=nr rfl
theorem ipN(l:AA):List.isPrefixOf [] l=true:=by cases l<;>rfl
theorem ipE(a:Nat)(l:AA):List.isPrefixOf (a::l) []=false:=nr rfl
theorem ieC(a:Nat)(l:AA):List.isEmpty (a::l)=false:=nr rfl
theorem ieN:List.isEmpty ([]:AA)=true:=nr rfl
end
section
variable {T:Tys} {pm:Pm} {s:St}
def fl1(T:Tys)(pm:Pm)(tf:Nat→TypeId)(sz:Nat)(cs:List D)(i:Nat)(rest:List (Nat×Operand)):Option (D×St)→Option (List D×St)
 | none=>none
 | some (d,s1)=>if d.asCells.length=sz∧i*sz+sz≤cs.length then Et T pm tf sz s1 (Ba cs (i*sz) d.asCells) rest else none
theorem A6h(tf:Nat→TypeId)(sz:Nat)(cs:List D):Et T pm tf sz s cs []=some (cs,s):=nr rfl
theorem A13(tf:Nat→TypeId)(sz:Nat)(cs:List D)(i:Nat)(x:Operand)(rest:List (Nat×Operand)):Et T pm tf sz s cs ((i,x)::rest)=fl1 T pm tf sz cs i rest (take T pm s (tf i) x):=by
 simp only [Et]
 rcases take T pm s (tf i) x with _ | ⟨d,s1⟩<;>rfl
theorem ADV(tf:Nat→TypeId)(cs:List D)(i:Nat)(rest:List (Nat×Operand))(d:D)(h:d.isAgg=false):fl1 T pm tf 1 cs i rest (some (d,s))=if i+1≤cs.length then Et T pm tf 1 s (cs.set i d) rest else none:=by
 have ha:d.asCells=[d]:=by cases d<;>first | rfl | (simp [D.isAgg]at h)
 simp only [fl1,ha,List.length_cons,List.length_nil,Nat.zero_add,Nat.mul_one,true_and,Ba]
end
section
variable (pm:Pm) (s:St) (u:Tmp)
def Ov(pm:Pm)(u:Tmp)(d:D):Bool:= !d.hasObj||d.isObj||pm.wr u
theorem mvT:EJ pm s (.move (.tmp u))=Ov pm u (s.v u):=nr rfl
theorem ADW(v:Value):EJ pm s (.move (.const v))=true:=nr rfl
theorem ADX(f:FuncId):EJ pm s (.move (.func f))=true:=nr rfl
theorem A14(k:IntKind)(n:Int):Ov pm u (.int k n)=true:=by simp [Ov,D.hasObj]
theorem qP(b:Bool):Ov pm u (.bool b)=true:=by simp [Ov,D.hasObj]
theorem A15(b:ByteArray):Ov pm u (.str b)=true:=by simp [Ov,D.hasObj]
theorem A6i(e:TypeId)(xs:List D):Ov pm u (.sl e xs)=true:=by simp [Ov,D.hasObj]
theorem A16(e:TypeId)(xs:List D):Ov pm u (.own e xs)=true:=by simp [Ov,D.isObj]
theorem A17(xs:List D):Ov pm u (.box xs)=true:=by simp [Ov,D.isObj]
theorem A6j(L:AA)(n m:Nat):Ov pm u (.vw L n m)=true:=by simp [Ov,D.hasObj]
theorem A6k(L:AA)(c n m:Nat):Ov pm u (.pe L c n m)=true:=by simp [Ov,D.hasObj]
theorem ADY(v:Value):Ov pm u (.konst v)=true:=by simp [Ov,D.hasObj]
theorem A18(f:FuncId)(xs:List D):Ov pm u (.clo f xs)=true:=by simp [Ov,D.hasObj]
theorem qQ(xs:List D):Ov pm u (.cptr xs)=true:=by simp [Ov,D.hasObj]
theorem A19(xs:List D):Ov pm u (.agg xs)=(!AZ xs||pm.wr u):=by simp [Ov,D.hasObj,D.isObj]
theorem A1A(xs:List D):Ov pm u (.tup xs)=(!AZ xs||pm.wr u):=by simp [Ov,D.hasObj,D.isObj]
theorem kX(x:Operand):EJ pm s (.assign x)=true:=nr rfl
theorem A1B(a b c:Operand):EJ pm s (.pick a b c)=true:=nr rfl
theorem qR(t:TypeId):EJ pm s (.alloc t)=true:=nr rfl
theorem A6l(t:TypeId)(x:Operand):EJ pm s (.box t x)=true:=nr rfl
theorem qU(t:TypeId)(p:Array (Nat×Operand)):EJ pm s (.build t p)=true:=nr rfl
theorem ADZ(t:TypeId)(n:Nat)(p:Array (Nat×Operand)):EJ pm s (.buildSlice t n p)=true:=nr rfl
theorem A1C(t:TypeId)(x:Operand):EJ pm s (.load t x)=true:=nr rfl
theorem qV(t:TypeId)(x y:Operand):EJ pm s (.store t x y)=true:=nr rfl
theorem A6m(o:BinOp)(t:TypeId)(x y:Operand)(t':TypeId):EJ pm s (.binOp o t x y t')=true:=nr rfl
theorem ADa(o:UnOp)(t:TypeId)(x:Operand):EJ pm s (.unOp o t x)=true:=nr rfl
theorem A1D(t t':TypeId)(x:Operand):EJ pm s (.convert t t' x)=true:=nr rfl
theorem ADb(f:Fn)(a b:Array Operand):EJ pm s (.makeFunc f a b)=true:=nr rfl
theorem ADc(t:TypeId)(a b:Operand):EJ pm s (.makeSlice t a b)=true:=nr rfl
theorem ADd(t:TypeId)(x:Operand)(a b c:Option Operand):EJ pm s (.slice t x a b c)=true:=nr rfl
theorem ADe(x:Operand):EJ pm s (.nilCheck x)=true:=nr rfl
theorem ADf(t:TypeId)(x i:Operand)(ok:Bool):EJ pm s (.lookup t x i ok)=true:=nr rfl
theorem ADg(t:TypeId)(r:Option Operand):EJ pm s (.makeMap t r)=true:=nr rfl
theorem ADh(t:TypeId)(x i v:Operand):EJ pm s (.mapUpdate t x i v)=true:=nr rfl
theorem ADi(t:TypeId)(x:Operand)(i:Nat):EJ pm s (.fieldAddr t x i)=true:=nr rfl
theorem ADj(t:TypeId)(x i:Operand):EJ pm s (.indexAddr t x i)=true:=nr rfl
theorem ADk(x:Operand)(i:Nat):EJ pm s (.extract x i)=true:=nr rfl
theorem A1E(c:Call):EJ pm s (.call c)=true:=nr rfl
theorem pmR(n r w:List Nat)(x:Nat):(PmL.pm ⟨n,r,w⟩).rd x=(n.contains x|| !r.contains x):=nr rfl
theorem pmW(n r w:List Nat)(x:Nat):(PmL.pm ⟨n,r,w⟩).wr x=w.contains x:=nr rfl
section
variable {E:Env} {dst:Option Tmp} {t ty:TypeId}
theorem ADl(t:TypeId):JX E pm s dst (.makeMap t none) ty=Hr s dst (KC E.T t):=Gh s dst _
theorem yLk(v:Tmp)(ok:Bool):JX E pm s dst (.lookup t (.tmp u) (.tmp v) ok) ty=Hr s dst (Ga E.T pm s t (.tmp u) (s.v u) (s.v v) ok):=Gh s dst _
theorem yMu(v x:Tmp):JX E pm s none (.mapUpdate t (.tmp u) (.tmp v) (.tmp x)) ty=GN E.T pm s t (.tmp u) (s.v u) (s.v v) (s.v x):=nr rfl
def muC(T:Tys)(pm:Pm)(s:St)(t:TypeId)(u:Tmp)(d i:D):Option D→Option St
 | some v=>GN T pm s t (.tmp u) d i v
 | none=>none
theorem ADm(T:Tys)(d i v:D):muC T pm s t u d i (some v)=GN T pm s t (.tmp u) d i v:=nr rfl
theorem ADn(v:Tmp)(x:Value):JX E pm s none (.mapUpdate t (.tmp u) (.tmp v) (.const x)) ty=muC E.T pm s t u (s.v u) (s.v v) (ev E.T s (Rb E.T t) (.const x)):=by
 show(match some (s.v u),some (s.v v),ev E.T s (Rb E.T t) (.const x)with | some a,some b,some c=>GN E.T pm s t (.tmp u) a b c | _,_,_=>none)=_
 cases ev E.T s (Rb E.T t) (.const x)<;>rfl
def mv0:Ty→TypeId
 | .map _ e=>e
 | _=>0
theorem qW(T:Tys)(t:TypeId):Rb T t=mv0 (T.ty t):=nr rfl
theorem ADo(k e:TypeId):mv0 (.map k e)=e:=nr rfl
def nm1:Ty→Ty→Option (List (Nat×TypeId))→Option (Bool×Nat)
 | .int .i64, .int .i64,none=>some (true,2)
 | _,_,_=>none
theorem ADp:nm1 (.int .i64) (.int .i64) none=some (true,2):=nr rfl
def nm0(T:Tys)(t:TypeId):Ty→Option (Bool×Nat)
 | .int .i64=>some (false,1)
 | .struct [a,b]=>nm1 (T.ty a) (T.ty b) (T.nest t)
 | _=>none
theorem A6n(T:Tys)(t:TypeId):T.nums t=nm0 T t (T.ty t):=by
 unfold Tys.nums nm0
 split
 ·rename_i h;rw [h]
 ·rename_i a b h;rw [h];unfold nm1;rfl
 ·rename_i h1 h2
  cases h:T.ty t with
  | int k=>cases k<;>first | rfl | exact(h1 h).elim
  | struct fs=>
   rcases fs with _ | ⟨a,_ | ⟨b,_ | ⟨c,l⟩⟩⟩
   ·rfl
   ·rfl
   ·exact(h2 a b h).elim
   ·rfl
  | _=>rfl
theorem ADq(T:Tys)(t:TypeId):nm0 T t (.int .i64)=some (false,1):=nr rfl
theorem ADr(T:Tys)(t a b:TypeId):nm0 T t (.struct [a,b])=nm1 (T.ty a) (T.ty b) (T.nest t):=nr rfl
def mm1(k e:TypeId):Option (Bool×Nat)→Option (Bool×Nat)→Option D
 | some _,some _=>some (.mp k e [])
 | _,_=>none
def mm0(T:Tys):Ty→Option D
 | .map k e=>mm1 k e (T.nums k) (T.nums e)
 | _=>none
theorem yMm(T:Tys)(t:TypeId):KC T t=mm0 T (T.ty t):=by
 unfold KC mm0
 cases T.ty t with
 | map k e=>simp only [mm1];cases T.nums k<;>cases T.nums e<;>rfl
 | _=>rfl
theorem ADt(T:Tys)(k e:TypeId):mm0 T (.map k e)=mm1 k e (T.nums k) (T.nums e):=nr rfl
def lkR(ea ok:Bool)(r:List Int×Bool):D:=if ok=true then .tup [Nu ea r.1, .bool r.2]else Nu ea r.1
def lk2(ea ok:Bool)(es:List (List Int×List Int))(en:Nat):Option (List Int)→Option D
 | some key=>some (lkR ea ok (LW es key en))
 | none=>none
theorem ADv(ea ok:Bool)(es:List (List Int×List Int))(en:Nat)(key:List Int):lk2 ea ok es en (some key)=some (lkR ea ok (LW es key en)):=nr rfl
def lk1(es:List (List Int×List Int))(k' e' k e:TypeId)(i:D)(ok:Bool):Option (Bool×Nat)→Option (Bool×Nat)→Option D
 | some (ka,kn),some (ea,en)=>if k'=k∧e'=e then lk2 ea ok es en (JR ka kn i)else none
 | _,_=>none
def lk0(T:Tys)(es:List (List Int×List Int))(k' e':TypeId)(i:D)(ok:Bool):Ty→Option D
 | .map k e=>lk1 es k' e' k e i ok (T.nums k) (T.nums e)
 | _=>none
theorem A6p(T:Tys)(k' e':TypeId)(es:List (List Int×List Int))(i:D)(ok:Bool):Ga T pm s t (.tmp u) (.mp k' e' es) i ok=lk0 T es k' e' i ok (T.ty t):=by
 unfold Ga lk0
 simp only [OJ]
 cases T.ty t with
 | map k e=>
  simp only [lk1]
  cases T.nums k<;>cases T.nums e<;>try rfl
  simp only
  split
  ·cases JR _ _ i<;>rfl
  ·rfl
 | _=>rfl
def lkW(T:Tys)(i:D)(ok:Bool)(ty:Ty):Option (TypeId×TypeId×List (List Int×List Int))→Option D
 | some (k',e',es)=>lk0 T es k' e' i ok ty
 | none=>none
theorem ADx(T:Tys)(i:D)(ok:Bool)(ty:Ty)(k' e':TypeId)(es:List (List Int×List Int)):lkW T i ok ty (some (k',e',es))=lk0 T es k' e' i ok ty:=nr rfl
theorem A1F(T:Tys)(x:Operand)(L:AA)(n m:Nat)(i:D)(ok:Bool):Ga T pm s t x (.vw L n m) i ok=lkW T i ok (T.ty t) (s.lookM pm L n):=by
 unfold Ga lkW lk0
 simp only [OJ]
 cases s.lookM pm L n with
 | none=>cases T.ty t<;>rfl
 | some q=>
  cases T.ty t with
  | map k e=>
   simp only [lk1,Option.map_some]
   cases T.nums k<;>cases T.nums e<;>try rfl
   simp only
   split
   ·cases JR _ _ i<;>rfl
   ·rfl
  | _=>rfl
theorem ADy(T:Tys)(es:List (List Int×List Int))(k' e' k e:TypeId)(i:D)(ok:Bool):lk0 T es k' e' i ok (.map k e)=lk1 es k' e' k e i ok (T.nums k) (T.nums e):=nr rfl
theorem ADz(es:List (List Int×List Int))(k e:TypeId)(i:D)(ok ka ea:Bool)(kn en:Nat):lk1 es k e k e i ok (some (ka,kn)) (some (ea,en))=lk2 ea ok es en (JR ka kn i):=by simp [lk1]
theorem A6q(x:Int):JR false 1 (.int .i64 x)=some [x]:=nr rfl
theorem A6r(x y:Int):JR true 2 (.agg [.int .i64 x, .int .i64 y])=some [x,y]:=nr rfl
def mu2(s:St)(u:Tmp)(k e:TypeId)(es:List (List Int×List Int)):Option (List Int)→Option (List Int)→Option St
 | some key,some val=>some (s.set [u] (.mp k e (Nw es key val)))
 | _,_=>none
theorem AE1(k e:TypeId)(es:List (List Int×List Int))(key val:List Int):mu2 s u k e es (some key) (some val)=some (s.set [u] (.mp k e (Nw es key val))):=nr rfl
def mu1(pm:Pm)(s:St)(u:Tmp)(es:List (List Int×List Int))(k' e' k e:TypeId)(i v:D):Option (Bool×Nat)→Option (Bool×Nat)→Option St
 | some (ka,kn),some (ea,en)=>if k'=k∧e'=e∧pm.wr u=true then mu2 s u k e es (JR ka kn i) (JR ea en v)else none
 | _,_=>none
def mu0(T:Tys)(pm:Pm)(s:St)(u:Tmp)(es:List (List Int×List Int))(k' e':TypeId)(i v:D):Ty→Option St
 | .map k e=>mu1 pm s u es k' e' k e i v (T.nums k) (T.nums e)
 | _=>none
theorem AE2(T:Tys)(k' e':TypeId)(es:List (List Int×List Int))(i v:D):GN T pm s t (.tmp u) (.mp k' e' es) i v=mu0 T pm s u es k' e' i v (T.ty t):=by
 unfold GN mu0
 simp only [OJ]
 cases T.ty t with
 | map k e=>
  simp only [mu1]
  cases T.nums k<;>cases T.nums e<;>rfl
 | _=>rfl
def muW(T:Tys)(pm:Pm)(s:St)(u:Tmp)(i v:D)(ty:Ty):Option (TypeId×TypeId×List (List Int×List Int))→Option St
 | some (k',e',es)=>mu0 T pm s u es k' e' i v ty
 | none=>none
theorem AE4(T:Tys)(i v:D)(ty:Ty)(k' e':TypeId)(es:List (List Int×List Int)):muW T pm s u i v ty (some (k',e',es))=mu0 T pm s u es k' e' i v ty:=nr rfl
theorem A6s(T:Tys)(x:Operand)(n m:Nat)(i v:D):GN T pm s t x (.vw [u] n m) i v=muW T pm s u i v (T.ty t) (s.lookM pm [u] n):=by
 unfold GN muW mu0
 simp only [OJ]
 cases s.lookM pm [u] n with
 | none=>cases T.ty t<;>rfl
 | some q=>
  cases T.ty t with
  | map k e=>
   simp only [mu1,Option.map_some]
   cases T.nums k<;>cases T.nums e<;>rfl
  | _=>rfl
theorem AE5(T:Tys)(es:List (List Int×List Int))(k' e' k e:TypeId)(i v:D):mu0 T pm s u es k' e' i v (.map k e)=mu1 pm s u es k' e' k e i v (T.nums k) (T.nums e):=nr rfl
theorem AE6(es:List (List Int×List Int))(k e:TypeId)(i v:D)(ka ea:Bool)(kn en:Nat)(hw:pm.wr u=true):mu1 pm s u es k e k e i v (some (ka,kn)) (some (ea,en))=mu2 s u k e es (JR ka kn i) (JR ea en v):=by simp [mu1,hw]
def A1G(n:Nat):Ty→Option D
 | .map _ _=>some (.int .i64 n)
 | _=>none
theorem A6t(T:Tys)(k e:TypeId)(es:List (List Int×List Int)):LY T pm s t (.tmp u) (.mp k e es)=A1G es.length (T.ty t):=by
 show U0 T pm s t (.tmp u) (.mp k e es)=_
 unfold U0 A1G
 simp only [OJ]
 cases T.ty t<;>rfl
theorem A6u(n:Nat)(k e:TypeId):A1G n (.map k e)=some (.int .i64 n):=nr rfl
def kY(l:List (Int×Int))(k:Int):Int×Bool:=match l.find? (fun p=>p.1==k)with | some p=>(p.2,true) | none=>(0,false)
def sI(l:List (Int×Int))(k v:Int):List (Int×Int):=match l.findIdx? (fun p=>p.1==k)with | some i=>l.set i (k,v) | none=>l++[(k,v)]
def Yn(l:List (Int×Int)):List (List Int×List Int):=l.map fun p=>([p.1],[p.2])
abbrev E2:=Int×Int
def Ll(l:List (E2×E2))(k:E2):E2×Bool:=match l.find? (fun p=>p.1==k)with | some p=>(p.2,true) | none=>((0,0),false)
def Sc(l:List (E2×E2))(k v:E2):List (E2×E2):=match l.findIdx? (fun p=>p.1==k)with | some i=>l.set i (k,v) | none=>l++[(k,v)]
def O4(l:List (E2×E2)):List (List Int×List Int):=l.map fun p=>([p.1.1,p.1.2],[p.2.1,p.2.2])
theorem A6v(k e:TypeId):mm1 k e (some (false,1)) (some (false,1))=some (.mp k e (Yn [])):=nr rfl
theorem A6w(k e:TypeId):mm1 k e (some (true,2)) (some (true,2))=some (.mp k e (O4 [])):=nr rfl
theorem Lm{α β:Type}(f:α→β)(p:β→Bool)(q:α→Bool)(h: ∀a,p (f a)=q a): ∀(l:List α),(l.map f).find? p=(l.find? q).map f∧(l.map f).findIdx? p=l.findIdx? q
 | []=>⟨rfl,rfl⟩
 | a::l=>by
  obtain⟨h1,h2⟩:=Lm f p q h l
  simp only [List.map_cons,List.find?_cons,List.findIdx?_cons,h]
  cases q a
  ·exact⟨h1,by simp only [h2]⟩
  ·exact⟨rfl,rfl⟩
theorem kZ(l:List (Int×Int))(k:Int):LW (Yn l) [k] 1=([(kY l k).1],(kY l k).2):=by
 unfold LW kY Yn
 rw [(Lm _ _ (fun p=>p.1==k) (fun p=>by simp) l).1]
 cases l.find? (fun p=>p.1==k)<;>rfl
theorem kg(l:List (Int×Int))(k v:Int):Nw (Yn l) [k] [v]=Yn (sI l k v):=by
 unfold Nw sI Yn
 rw [(Lm _ _ (fun p=>p.1==k) (fun p=>by simp) l).2]
 cases l.findIdx? (fun p=>p.1==k)<;>simp [List.map_set]
theorem ko(l:List (Int×Int)):(Yn l).length=l.length:=by simp [Yn]
theorem kr(l:List (E2×E2))(a b:Int):LW (O4 l) [a,b] 2=([(Ll l (a,b)).1.1,(Ll l (a,b)).1.2],(Ll l (a,b)).2):=by
 unfold LW Ll O4
 rw [(Lm _ _ (fun p=>p.1==(a,b)) (fun p=>by obtain⟨⟨x,y⟩,z⟩:=p;rw [Bool.eq_iff_iff];simp) l).1]
 cases l.find? (fun p=>p.1==(a,b))<;>rfl
theorem ku(l:List (E2×E2))(a b c d:Int):Nw (O4 l) [a,b] [c,d]=O4 (Sc l (a,b) (c,d)):=by
 unfold Nw Sc O4
 rw [(Lm _ _ (fun p=>p.1==(a,b)) (fun p=>by obtain⟨⟨x,y⟩,z⟩:=p;rw [Bool.eq_iff_iff];simp) l).2]
 cases l.findIdx? (fun p=>p.1==(a,b))<;>simp [List.map_set]
theorem kv(l:List (E2×E2)):(O4 l).length=l.length:=by simp [O4]
theorem AE7(x:Int)(b:Bool):lkR false false ([x],b)= .int .i64 x:=nr rfl
theorem AE8(x:Int)(b:Bool):lkR false true ([x],b)= .tup [.int .i64 x, .bool b]:=nr rfl
theorem AE9(x y:Int)(b:Bool):lkR true false ([x,y],b)= .agg [.int .i64 x, .int .i64 y]:=nr rfl
theorem AEA(x y:Int)(b:Bool):lkR true true ([x,y],b)= .tup [.agg [.int .i64 x, .int .i64 y], .bool b]:=nr rfl
set_option linter.defProp false in
def AEB:=And.intro @ADl (And.intro @yLk (And.intro @yMu (And.intro @ADm (And.intro @ADn (And.intro @qW (And.intro @ADo (And.intro @ADp (And.intro @A6n (And.intro @ADq (And.intro @ADr (And.intro @yMm (And.intro @ADt (And.intro @A6v (And.intro @A6w (And.intro @ADv (And.intro @A6p (And.intro @ADy (And.intro @ADz (And.intro @A6q (And.intro @A6r
 (And.intro @AE1 (And.intro @AE2 (And.intro @AE5 (And.intro @AE6 (And.intro @A6t (And.intro @A6u (And.intro @kZ (And.intro @kg (And.intro @ko (And.intro @kr (And.intro @ku (And.intro @kv (And.intro @AE7 (And.intro @AE8 (And.intro @AE9 (And.intro @ADx (And.intro @A1F (And.intro @AE4 (And.intro @A6s (@AEA))))))))))))))))))))))))))))))))))))))))
end
end
end Dv
namespace Dv
open Go
theorem LP(n:Int)(h: -9223372036854775808≤n∧n≤9223372036854775807):IntKind.i64.wrap n=n:=IntWalk.i64_in n h
section
variable {T:Tys} {pm:Pm} {s:St} {t:TypeId}
theorem gV(xs:List Int)(i:Nat)(h:i<xs.length):(CJ xs).getD i .undef= .int .i64 (xs.getD i 0):=by
 simp [CJ,List.getD_eq_getElem?_getD,h]
theorem Ow(xs:List Int)(i:Nat)(h:i<xs.length):(CJ xs)[i]? =some (.int .i64 (xs.getD i 0)):=by
 simp [CJ,List.getD_eq_getElem?_getD,h]
theorem kw(xs:List Int)(i:Nat)(n:Int):(CJ xs).set i (.int .i64 n)=CJ (xs.set i n):=by simp [CJ]
theorem Yo(xs ys:List Int):CJ xs++CJ ys=CJ (xs++ys):=by simp [CJ]
theorem VL(x:Int)(xs:List Int):CJ (x::xs)= .int .i64 x::CJ xs:=nr rfl
theorem ky(n:Nat)(x:Int):List.replicate n (D.int .i64 x)=CJ (List.replicate n x):=by simp [CJ]
theorem AEC(e:TypeId)(n:Int)(xs:List Int)(hk:T.known e=true)(hz:T.size e=1)(hn:0≤n∧n.toNat<xs.length):VJ T e n (some (e,CJ xs,none))=some (.cptr [.int .i64 (xs.getD n.toNat 0)]):=by
 rw [A0Q e n (CJ xs) hk hz (by simpa [CJ] using hn),gV xs _ hn.2]
theorem A6x(e:TypeId)(n:Int)(xs:List Int)(L:AA)(a b:Nat)(hk:T.known e=true)(hz:T.size e=1)(hn:0≤n∧n.toNat<xs.length):VJ T e n (some (e,CJ xs,some (L,a,b)))=some (.pe L n.toNat a b):=
 qM e n (CJ xs) L a b hk hz (by simpa [CJ] using hn)
def WP(e:TypeId)(xss:List (List Int)):List D:=xss.map fun xs=> .sl e (CJ xs)
def M9(e:TypeId)(xss:List (List Int)):List D:=xss.map fun xs=> .own e (CJ xs)
theorem az(e:TypeId)(xss:List (List Int)):(WP e xss).length=xss.length:=by simp [WP]
theorem Yp(e:TypeId)(xss:List (List Int)):(M9 e xss).length=xss.length:=by simp [M9]
theorem bA(e:TypeId)(xss:List (List Int)):AZ (WP e xss)=false:=by
 induction xss with
 | nil=>rfl
 | cons x xss ih=>simp only [WP,List.map_cons,AZ,D.hasObj,Bool.false_or];exact ih
theorem qX(e:TypeId)(xss:List (List Int)):C9 (WP e xss)=some (WP e xss):=by
 induction xss with
 | nil=>rfl
 | cons x xss ih=>simp only [WP,List.map_cons,RL,A6N]at ih ⊢;rw [ih];rfl
theorem kz(e:TypeId)(xss:List (List Int)):C9 (M9 e xss)=some (WP e xss):=by
 induction xss with
 | nil=>rfl
 | cons x xss ih=>simp only [M9,WP,List.map_cons,RL,kW,Yk,A6Q]at ih ⊢;rw [ih];rfl
theorem bB(e:TypeId)(xss:List (List Int)):CL (M9 e xss)=false:=by
 induction xss with
 | nil=>rfl
 | cons x xss ih=>simp only [M9,List.map_cons,df,sG,Sb,Bool.false_or];exact ih
theorem gW(e:TypeId)(xss:List (List Int)):(WP e xss).all BS=true:=by simp [WP,BS]
theorem bC(e:TypeId)(xss:List (List Int)):(M9 e xss).all BS=true:=by simp [M9,BS]
theorem l5(e:TypeId)(xss:List (List Int))(i:Nat)(h:i<xss.length):(WP e xss).getD i .undef= .sl e (CJ (xss.getD i [])):=by
 simp [WP,List.getD_eq_getElem?_getD,h]
theorem A1H(e:TypeId)(xss:List (List Int))(i:Nat)(h:i<xss.length):(WP e xss)[i]? =some (.sl e (CJ (xss.getD i []))):=by
 simp [WP,List.getD_eq_getElem?_getD,h]
theorem qY(e:TypeId)(xss:List (List Int))(i:Nat)(h:i<xss.length):(M9 e xss)[i]? =some (.own e (CJ (xss.getD i []))):=by
 simp [M9,List.getD_eq_getElem?_getD,h]
theorem l6(e:TypeId)(xss:List (List Int))(i:Nat)(x:List Int):(M9 e xss).set i (.own e (CJ x))=M9 e (xss.set i x):=by simp [M9]
theorem WQ(e:TypeId)(x:List Int)(xss:List (List Int)):AZ (M9 e (x::xss))=true:=by simp [M9,AZ,D.hasObj]
theorem AED(e e':TypeId)(n:Int)(xss:List (List Int))(hk:T.known e=true)(hz:T.size e=1)(hn:0≤n∧n.toNat<xss.length):VJ T e n (some (e,WP e' xss,none))=some (.cptr [.sl e' (CJ (xss.getD n.toNat []))]):=by
 rw [A0Q e n (WP e' xss) hk hz (by simpa [WP] using hn),l5 e' xss _ hn.2]
theorem A6y(e e':TypeId)(n:Int)(xss:List (List Int))(L:AA)(a b:Nat)(hk:T.known e=true)(hz:T.size e=1)(hn:0≤n∧n.toNat<xss.length):VJ T e n (some (e,M9 e' xss,some (L,a,b)))=some (.pe L n.toNat a b):=
 qM e n (M9 e' xss) L a b hk hz (by simpa [M9] using hn)
variable {E:Env} {dst:Option Tmp} {ty:TypeId}
def A6z(e:TypeId)(dst:Option Tmp):Option (List D×St)→Option St
 | some (xs,s)=>some (s.putO dst (.own e xs))
 | none=>none
theorem A70(e:TypeId)(xs:List D):A6z e dst (some (xs,s))=some (s.putO dst (.own e xs)):=nr rfl
def gX(dst:Option Tmp):Option (List D×St)→Option St
 | some (xs,s)=>some (s.putO dst (.agg xs))
 | none=>none
theorem A71(xs:List D):gX dst (some (xs,s))=some (s.putO dst (.agg xs)):=nr rfl
theorem Yq(T:Tys){e:TypeId}(hs:T.isStruct e=false):T.size e=1∧T.zeros e=[T.zero1 e]:=by
 unfold Tys.isStruct at hs
 unfold Tys.size Tys.zeros
 cases hty:T.ty e<;>simp_all [Ty.isStruct,Ty.size]
def l7(E:Env)(pm:Pm)(s:St)(dst:Option Tmp)(len:Nat)(parts:Array (Nat×Operand)):Ty→Option St
 | .slice e=>
   if len*E.T.size e≤4096∧E.T.known e=true then
    (Et E.T pm (fun _=>e) (E.T.size e) s ((List.range (len*E.T.size e)).map fun j=>(E.T.zeros e).getD (j % E.T.size e) .undef) parts.toList).map fun r=>r.2.putO dst (.own e r.1)
   else none
 | _=>none
theorem A1I(len:Nat)(parts:Array (Nat×Operand)):Ra E.T pm s dst t len parts=l7 E pm s dst len parts (E.T.ty t):=by
 unfold Ra l7
 cases E.T.ty t<;>rfl
theorem yBs(len:Nat)(parts:Array (Nat×Operand)):JX E pm s dst (.buildSlice t len parts) ty=if ty=900004 then fcB pm dst (l7 E pm s dst len parts (E.T.ty t))else l7 E pm s dst len parts (E.T.ty t):=by
 rw [SY,A1I]
 by_cases h:ty=900004
 ·rw [if_pos h,if_pos h]
  unfold fcB
  cases l7 E pm s dst len parts (E.T.ty t)<;>cases dst<;>rfl
 ·rw [if_neg h,if_neg h]
theorem AEE(len:Nat)(parts:Array (Nat×Operand))(e:TypeId)(hk:E.T.known e=true)(hs:E.T.isStruct e=false)(hl:len≤4096):
  l7 E pm s dst len parts (.slice e)=A6z e dst (Et E.T pm (fun _=>e) 1 s (List.replicate len (E.T.zero1 e)) parts.toList):=by
 obtain⟨hz,hzz⟩:=Yq E.T hs
 have hrep:((List.range (len*1)).map fun j=>(E.T.zeros e).getD (j % 1) .undef)=List.replicate len (E.T.zero1 e):=by
  rw [hzz]
  apply List.ext_getElem
  ·simp
  ·intro i h1 h2
   simp [Nat.mod_one]
 simp only [l7,hz]
 rw [if_pos ⟨by omega,hk⟩,hrep]
 rcases Et E.T pm (fun _=>e) 1 s (List.replicate len (E.T.zero1 e)) parts.toList with _ | ⟨a,b⟩<;>rfl
def bsA(E:Env)(e:TypeId)(dst:Option Tmp):Option (D×St)→Option St
 | some (d,s1)=>if d.asCells.length=E.T.size e then some (s1.putO dst (.own e d.asCells))else none
 | none=>none
theorem AEG(e:TypeId)(xs:List D)(h:xs.length=E.T.size e):bsA E e dst (some (.agg xs,s))=some (s.putO dst (.own e xs)):=by
 show(if xs.length=E.T.size e then some (s.putO dst (.own e xs))else none)=_
 rw [if_pos h]
theorem Yr(cs ys:List D)(h:ys.length=cs.length):Ba cs 0 ys=ys:=by
 refine List.ext_getElem? fun i=> ?_
 rw [Gg (by omega)]
 by_cases hi:i<ys.length
 ·rw [if_pos (by omega)];rfl
 ·rw [if_neg (by omega),List.getElem?_eq_none (by omega),List.getElem?_eq_none (by omega)]
theorem AEH(e:TypeId)(x:Operand)(hk:E.T.known e=true)(hs:E.T.isStruct e=true)(hz:E.T.size e≤4096):l7 E pm s dst 1 #[(0,x)] (.slice e)=bsA E e dst (take E.T pm s e x):=by
 simp only [l7,Et]
 rw [if_pos ⟨by omega,hk⟩]
 rcases take E.T pm s e x with _ | ⟨d,s1⟩
 ·rfl
 ·simp only [bsA]
  by_cases h:d.asCells.length=E.T.size e
  ·rw [if_pos ⟨h,by simp⟩,if_pos h,Nat.zero_mul,Yr _ _ (by simp [h])];rfl
  ·rw [if_neg (fun hc=>h hc.1),if_neg h];rfl
theorem AEI(u:Tmp)(e:TypeId)(L:AA)(n m lo len:Nat):Ar pm s dst (.tmp u) (.vs e L n m lo len)=some (s.putO dst (.vs e L n m lo len)):=by
 show some (if(D.vs e L n m lo len).hasObj then(s.clr u).putO dst (.vs e L n m lo len)else s.putO dst (.vs e L n m lo len))=_
 rw [if_neg (by simp [D.hasObj])]
theorem AEJ(e:TypeId)(hk:E.T.known e=true):l7 E pm s dst 0 #[] (.slice e)=some (s.putO dst (.own e [])):=by
 simp [l7,hk,Et]
def bdN(E:Env)(pm:Pm)(s:St)(dst:Option Tmp)(t:TypeId)(parts:Array (Nat×Operand)):Option St:=
 match E.T.ty t with
 | .struct fs=>if E.T.known t then gX dst (Et E.T pm (fun i=>fs.getD i 0) 1 s (E.T.zeros t) parts.toList)else none
 | _=>none
def bd0(E:Env)(pm:Pm)(s:St)(dst:Option Tmp)(t:TypeId)(parts:Array (Nat×Operand)):Option (List (Nat×TypeId))→Option St
 | some fl=>if E.T.isStruct t&&E.T.known t then gX dst (IQ E.T pm fl s (E.T.zeros t) parts.toList)else none
 | none=>bdN E pm s dst t parts
theorem A1J(parts:Array (Nat×Operand)):JX E pm s dst (.build t parts) ty=bd0 E pm s dst t parts (E.T.nest t):=by
 rw [gL]
 unfold bd0 bdN
 cases E.T.nest t with
 | some fl=>
  simp only
  split
  ·rcases IQ E.T pm fl s (E.T.zeros t) parts.toList with _ | ⟨a,b⟩<;>rfl
  ·rfl
 | none=>
  simp only
  cases E.T.ty t with
  | struct fs=>
   simp only
   split
   ·rcases Et E.T pm (fun i=>fs.getD i 0) 1 s (E.T.zeros t) parts.toList with _ | ⟨a,b⟩<;>rfl
   ·rfl
  | _=>rfl
theorem AEK(parts:Array (Nat×Operand))(fl:List (Nat×TypeId))(hk:E.T.known t=true)(hs:E.T.isStruct t=true):bd0 E pm s dst t parts (some fl)=gX dst (IQ E.T pm fl s (E.T.zeros t) parts.toList):=by
 simp [bd0,hk,hs]
def bdT(E:Env)(pm:Pm)(s:St)(dst:Option Tmp)(t:TypeId)(parts:Array (Nat×Operand)):Ty→Option St
 | .struct fs=>if E.T.known t then gX dst (Et E.T pm (fun i=>fs.getD i 0) 1 s (E.T.zeros t) parts.toList)else none
 | _=>none
theorem AEL(parts:Array (Nat×Operand)):bd0 E pm s dst t parts none=bdT E pm s dst t parts (E.T.ty t):=by
 show bdN E pm s dst t parts=_
 unfold bdN bdT
 cases E.T.ty t<;>rfl
theorem AEM(parts:Array (Nat×Operand))(fs:List TypeId)(hk:E.T.known t=true):bdT E pm s dst t parts (.struct fs)=gX dst (Et E.T pm (fun i=>fs.getD i 0) 1 s (E.T.zeros t) parts.toList):=by
 simp [bdT,hk]
def fn1(T:Tys)(pm:Pm)(fl:List (Nat×TypeId))(cs:List D)(off:Nat)(ty:TypeId)(rest:List (Nat×Operand)):Option (D×St)→Option (List D×St)
 | none=>none
 | some (d,s1)=>if d.asCells.length=T.size ty∧off+T.size ty≤cs.length then IQ T pm fl s1 (Ba cs off d.asCells) rest else none
theorem A74(T:Tys)(fl:List (Nat×TypeId))(cs:List D):IQ T pm fl s cs []=some (cs,s):=nr rfl
def fn0(T:Tys)(pm:Pm)(fl:List (Nat×TypeId))(s:St)(cs:List D)(x:Operand)(rest:List (Nat×Operand)):Option (Nat×TypeId)→Option (List D×St)
 | none=>none
 | some (off,ty)=>fn1 T pm fl cs off ty rest (take T pm s ty x)
theorem A1K(T:Tys)(fl:List (Nat×TypeId))(cs:List D)(i:Nat)(x:Operand)(rest:List (Nat×Operand)):IQ T pm fl s cs ((i,x)::rest)=fn0 T pm fl s cs x rest (fl[i]?):=by
 simp only [IQ]
 rcases fl[i]? with _ | ⟨off,ty⟩
 ·rfl
 ·simp only [fn0,fn1]
  rcases take T pm s ty x with _ | ⟨d,s1⟩<;>rfl
theorem AEO(T:Tys)(fl:List (Nat×TypeId))(cs:List D)(x:Operand)(rest:List (Nat×Operand))(off:Nat)(ty:TypeId):fn0 T pm fl s cs x rest (some (off,ty))=fn1 T pm fl cs off ty rest (take T pm s ty x):=nr rfl
theorem AEP(T:Tys)(fl:List (Nat×TypeId))(cs:List D)(off:Nat)(ty:TypeId)(rest:List (Nat×Operand))(d:D)(h1:d.asCells.length=T.size ty)(h2:off+T.size ty≤cs.length):
  fn1 T pm fl cs off ty rest (some (d,s))=IQ T pm fl s (Ba cs off d.asCells) rest:=by simp only [fn1,h1,h2,and_self,if_true]
theorem fnA(ds:List D):(D.agg ds).asCells=ds:=nr rfl
theorem spN(cs:List D)(c:Nat):Ba cs c []=cs:=by cases cs<;>rfl
theorem spC(cs:List D)(c:Nat)(y:D)(ys:List D):Ba cs c (y::ys)=Ba (cs.set c y) (c+1) ys:=by cases cs<;>rfl
def mk0(T:Tys)(n:Int):Ty→Option D
 | .slice e=>if 0≤n∧n<1099511627776∧T.elem e=true then
   if T.isStruct e=true then some (.own e (List.replicate n.toNat (T.zeros e)).flatten)
   else if T.size e=1 then some (.own e (List.replicate n.toNat (T.zero1 e)))else none
  else none
 | _=>none
theorem yMk(n:Int):FF T t (.int .i64 n) (.int .i64 n)=mk0 T n (T.ty t):=by
 unfold FF mk0
 cases T.ty t<;>simp
theorem AEQ(n:Int)(e:TypeId)(hk:T.known e=true)(h4:T.size e≤4)(hs:T.isStruct e=false)(h0:0≤n)(hn:n<1099511627776):mk0 T n (.slice e)=some (.own e (List.replicate n.toNat (T.zero1 e))):=by
 obtain⟨hz,_⟩:=Yq T hs
 simp only [mk0]
 rw [if_pos ⟨h0,hn,RJ hk h4⟩,if_neg (by rw [hs];decide),if_pos hz]
theorem AER(n:Int)(e:TypeId)(hk:T.known e=true)(h4:T.size e≤4)(hs:T.isStruct e=true)(h0:0≤n)(hn:n<1099511627776):mk0 T n (.slice e)=some (.own e (List.replicate n.toNat (T.zeros e)).flatten):=by
 simp only [mk0]
 rw [if_pos ⟨h0,hn,RJ hk h4⟩,if_pos hs]
end
end Dv
namespace Dv
open Go
def l8(n:Int):Prop:= -9223372036854775808≤n∧n≤9223372036854775807
theorem l9{n:Int}(h:(Lit.int .i64 n).wf=true):l8 n:=by
 have h1:IntKind.i64.min= -9223372036854775808:=by decide
 have h2:IntKind.i64.max=9223372036854775807:=by decide
 simp only [Lit.wf,h1,h2,Bool.and_eq_true,decide_eq_true_eq]at h
 exact h
section
variable {T:Tys} {t e:TypeId} {d:D}
theorem lC(ht:T.ty t= .int .i64)(h:Arg T t d): ∃n,d= .int .i64 n∧l8 n:=by
 obtain⟨ds,hs,rfl⟩:=h
 cases hs with
 | int ht' hw=>rw [ht]at ht';injection ht' with ht';subst ht';exact⟨_,by simp [top,Tys.isStruct,ht,Ty.isStruct],l9 hw⟩
 | bool ht'=>rw [ht]at ht';cases ht'
 | string ht'=>rw [ht]at ht';cases ht'
 | slice ht'=>rw [ht]at ht';cases ht'
 | struct ht'=>rw [ht]at ht';cases ht'
theorem bD{ds:List D}(ht:T.ty t= .int .i64)(h:Shp T t ds): ∃n,ds=[.int .i64 n]∧l8 n:=by
 cases h with
 | int ht' hw=>rw [ht]at ht';injection ht' with ht';subst ht';exact⟨_,rfl,l9 hw⟩
 | bool ht'=>rw [ht]at ht';cases ht'
 | string ht'=>rw [ht]at ht';cases ht'
 | slice ht'=>rw [ht]at ht';cases ht'
 | struct ht'=>rw [ht]at ht';cases ht'
theorem Sd{ds:List D}(ht:T.ty t= .slice e)(h:Shp T t ds): ∃xss:List (List D),ds=[.sl e xss.flatten]∧(∀xs,xs∈xss→Shp T e xs)∧xss.length≤maxLen:=by
 cases h with
 | int ht' hw=>rw [ht]at ht';cases ht'
 | bool ht'=>rw [ht]at ht';cases ht'
 | string ht' hs=>rw [ht]at ht';cases ht'
 | slice ht' hx hl=>rw [ht]at ht';injection ht' with ht';subst ht';exact⟨_,rfl,hx,hl⟩
 | struct ht'=>rw [ht]at ht';cases ht'
theorem VM{fs:List TypeId}{ds:List D}(ht:T.ty t= .struct fs)(h:Shp T t ds):ds.length=fs.length∧ ∀(i:Nat) (f:TypeId) (d:D),fs[i]? =some f→ds[i]? =some d→Shp T f [d]:=by
 cases h with
 | int ht' hw=>rw [ht]at ht';cases ht'
 | bool ht'=>rw [ht]at ht';cases ht'
 | string ht' hs=>rw [ht]at ht';cases ht'
 | slice ht' hx hl=>rw [ht]at ht';cases ht'
 | struct ht' hl hx=>rw [ht]at ht';injection ht' with ht';subst ht';exact⟨hl,hx⟩
def A1L(xs:List Int):Prop:=xs.length≤maxLen∧ ∀x∈xs,l8 x
theorem dh{ds:List D}(ht:T.ty t= .slice e)(he:T.ty e= .int .i64)(h:Shp T t ds): ∃xs,ds=[.sl e (CJ xs)]∧A1L xs:=by
 obtain⟨xss,rfl,hx,hl⟩:=Sd ht h
 have: ∀xss:List (List D),(∀xs,xs∈xss→Shp T e xs)→ ∃ys,xss.flatten=CJ ys∧ys.length=xss.length∧ ∀y∈ys,l8 y:=by
  intro xss
  induction xss with
  | nil=>intro _;exact⟨[],rfl,rfl,by simp⟩
  | cons xs xss ih=>
   intro hx
   obtain⟨n,rfl,hn⟩:=bD he (hx xs (List.mem_cons_self))
   obtain⟨ys,h1,h2,h3⟩:=ih (fun q hq=>hx q (List.mem_cons_of_mem _ hq))
   refine⟨n::ys,by rw [List.flatten_cons,h1];rfl,by simp [h2],fun y hy=> ?_⟩
   rcases List.mem_cons.1 hy with rfl | hy
   ·exact hn
   ·exact h3 y hy
 obtain⟨ys,h1,h2,h3⟩:=this xss hx
 exact⟨ys,by rw [h1],by omega,h3⟩
theorem gY{fs:List TypeId}(ht:T.ty t= .struct fs)(h:Arg T t d): ∃ds,d= .agg ds∧ds.length=fs.length∧ ∀(i:Nat) (f:TypeId) (d:D),fs[i]? =some f→ds[i]? =some d→Shp T f [d]:=by
 obtain⟨ds,hs,rfl⟩:=h
 obtain⟨h1,h2⟩:=VM ht hs
 exact⟨ds,by simp [top,Tys.isStruct,ht,Ty.isStruct],h1,h2⟩
end
theorem trodAll_len{H:Type}{enc:TypeId×Value→H}{P:Program}{w:World}{base:Nat}{spare:Nat→Bool}{Du:Bool}: ∀ {ts:List TypeId} {vs:List Value} {ds:List (DataW H)} {ps:List MemPlace},
  DataW.TrodAll enc P w base spare Du ts vs ds ps→ds.length=ts.length∧vs.length=ts.length:=by
 intro ts
 induction ts with
 | nil=>intro vs ds ps h;cases vs<;>cases ds<;>simp [DataW.TrodAll]at h;exact⟨rfl,rfl⟩
 | cons t ts ih=>
  intro vs ds ps h
  cases vs with
  | nil=>cases ds<;>simp [DataW.TrodAll]at h
  | cons v vs=>
   cases ds with
   | nil=>simp [DataW.TrodAll]at h
   | cons d ds=>
    simp only [DataW.TrodAll]at h
    obtain⟨p,q,h1,h2,_⟩:=h
    obtain⟨e1,e2⟩:=ih h2
    exact⟨by simp [e1],by simp [e2]⟩
end Dv
namespace Dv
open Go
section
variable {E:Env} {T:Tys} {pm:Pm} {s:St} {dst:Option Tmp} {ty t:TypeId}
def bE(T:Tys)(t:TypeId)(dst:Option Tmp):Option (D×St)→Option St
 | some (d,s1)=>if T.isStruct t==d.isAgg then some (s1.putO dst (.box d.asCells))else none
 | none=>none
def Zi(E:Env)(pm:Pm)(s:St)(t:TypeId)(x:Operand)(dst:Option Tmp):D→Option St
 | .agg ds=>if AZ ds then bE E.T t dst (take E.T pm s t x)else(if E.T.isStruct t then some (s.putO dst (.box ds))else none)
 | _=>bE E.T t dst (take E.T pm s t x)
theorem A1M(u:Tmp):Mg E.T pm s dst t (.tmp u)=Zi E pm s t (.tmp u) dst (s.v u):=by
 rw [kE]
 cases hk:RY (ev E.T s t (.tmp u))with
 | some ds=>
  simp only [ev]at hk
  cases hv:s.v u<;>rw [hv]at hk<;>simp only [RY]at hk<;>try (cases hk;done)
  split at hk
  ·cases hk
  ·rename_i ho
   simp only [Option.some.injEq]at hk
   subst hk
   simp only [Zi,ho];rfl
 | none=>
  have hold:Zi E pm s t (.tmp u) dst (s.v u)=bE E.T t dst (take E.T pm s t (.tmp u)):=by
   simp only [ev]at hk
   cases hv:s.v u<;>try rfl
   rw [hv]at hk
   simp only [RY]at hk
   split at hk
   ·rename_i ho;simp only [Zi,ho,if_true]
   ·cases hk
  rw [hold]
  simp only
  rcases take E.T pm s t (.tmp u)with _ | ⟨d,s1⟩<;>rfl
theorem AES(u:Tmp):JX E pm s dst (.box t (.tmp u)) ty=if ty=900003 then kR pm dst (Zi E pm s t (.tmp u) dst (s.v u))else Zi E pm s t (.tmp u) dst (s.v u):=by
 rw [pg,A1M]
 by_cases h:ty=900003
 ·rw [if_pos h,if_pos h]
  unfold kR
  cases Zi E pm s t (.tmp u) dst (s.v u)<;>cases dst<;>rfl
 ·rw [if_neg h,if_neg h]
theorem bkK(x:Operand)(ds:List D)(hs:E.T.isStruct t=true):Zi E pm s t x dst (.agg ds)=if AZ ds then bE E.T t dst (take E.T pm s t x)else some (s.putO dst (.box ds)):=by simp [Zi,hs]
theorem A75(x:Operand)(k:IntKind)(n:Int):Zi E pm s t x dst (.int k n)=bE E.T t dst (take E.T pm s t x):=nr rfl
theorem A1N(x:Operand)(b:Bool):Zi E pm s t x dst (.bool b)=bE E.T t dst (take E.T pm s t x):=nr rfl
theorem A76(x:Operand)(b:ByteArray):Zi E pm s t x dst (.str b)=bE E.T t dst (take E.T pm s t x):=nr rfl
theorem AET(x:Operand)(e:TypeId)(xs:List D):Zi E pm s t x dst (.sl e xs)=bE E.T t dst (take E.T pm s t x):=nr rfl
theorem A77(x:Operand)(e:TypeId)(xs:List D):Zi E pm s t x dst (.own e xs)=bE E.T t dst (take E.T pm s t x):=nr rfl
theorem AEU(x:Operand)(L:AA)(n m:Nat):Zi E pm s t x dst (.vw L n m)=bE E.T t dst (take E.T pm s t x):=nr rfl
theorem A78(x:Operand)(f:FuncId)(xs:List D):Zi E pm s t x dst (.clo f xs)=bE E.T t dst (take E.T pm s t x):=nr rfl
theorem AEV(ds:List D)(hs:T.isStruct t=true):bE T t dst (some (.agg ds,s))=some (s.putO dst (.box ds)):=by simp [bE,hs,D.isAgg,D.asCells]
theorem AEW(d:D)(hs:T.isStruct t=false)(hd:d.isAgg=false):bE T t dst (some (d,s))=some (s.putO dst (.box [d])):=by
 have:d.asCells=[d]:=by cases d<;>first | rfl | (simp [D.isAgg]at hd)
 simp [bE,hs,hd,this]
def fa1(L:AA)(i n m:Nat):Option D→Option D
 | some _=>some (.pe L i n m)
 | none=>none
theorem AEY(L:AA)(i n m:Nat)(d:D):fa1 L i n m (some d)=some (.pe L i n m):=nr rfl
def og(T:Tys)(pm:Pm)(s:St)(t:TypeId)(x:Operand)(d:D):Option Nat→Option D
 | none=>none
 | some j=>
  if T.isStruct t then
   match d with
   | .box _=>match x with | .tmp u=>some (.pe [u] j (s.k u) (s.m u)) | _=>none
   | .vw L n m=>match s.look pm L n m with | some (.box _)=>some (.pe L j n m) | _=>none
   | .pe L c n m=>match s.look pm L n m with | some _=>some (.pe L (c+j) n m) | none=>none
   | .cptr xs=>some (.cptr (xs.drop j))
   | _=>none
  else none
theorem faE(x:Operand)(d:D)(i:Nat):EG T pm s t x d i=og T pm s t x d (T.foff t i):=by
 unfold EG og
 cases T.foff t i<;>rfl
theorem foN(i:Nat)(hn:T.nest t=none)(hi:i<T.size t):T.foff t i=some i:=by simp [Tys.foff,hn,hi]
theorem A79(u:Tmp)(xs:List D)(i:Nat)(hs:T.isStruct t=true):og T pm s t (.tmp u) (.box xs) (some i)=some (.pe [u] i (s.k u) (s.m u)):=by simp [og,hs]
theorem AEZ(x:Operand)(L:AA)(n m i:Nat)(hs:T.isStruct t=true):og T pm s t x (.vw L n m) (some i)=fa1 L i n m (Mx s pm L n m):=by
 simp only [og,hs,if_true,Mx]
 cases s.look pm L n m with
 | none=>rfl
 | some o=>cases o<;>rfl
theorem AEa(x:Operand)(L:AA)(c n m i:Nat)(hs:T.isStruct t=true):og T pm s t x (.pe L c n m) (some i)=fa1 L (c+i) n m (s.look pm L n m):=by
 simp only [og,hs,if_true]
 cases s.look pm L n m<;>rfl
theorem AEb(x:Operand)(xs:List D)(i:Nat)(hs:T.isStruct t=true):og T pm s t x (.cptr xs) (some i)=some (.cptr (xs.drop i)):=by simp [og,hs]
theorem csS(L:AA)(c n:Nat)(o:D):cellsOf s L c n (some o)=if c+n≤o.cells.length then BU (.agg ((List.range n).map fun i=>DZ s L (c+i) (o.cells.getD (c+i) .undef)))else none:=nr rfl
variable {α:Type} (f:Nat→α)
theorem rg1:(List.range 1).map f=[f 0]:=nr rfl
theorem rg2:(List.range 2).map f=[f 0,f 1]:=nr rfl
theorem rg3:(List.range 3).map f=[f 0,f 1,f 2]:=nr rfl
theorem rg4:(List.range 4).map f=[f 0,f 1,f 2,f 3]:=nr rfl
theorem rg5:(List.range 5).map f=[f 0,f 1,f 2,f 3,f 4]:=nr rfl
theorem rg6:(List.range 6).map f=[f 0,f 1,f 2,f 3,f 4,f 5]:=nr rfl
theorem rg7:(List.range 7).map f=[f 0,f 1,f 2,f 3,f 4,f 5,f 6]:=nr rfl
theorem rg8:(List.range 8).map f=[f 0,f 1,f 2,f 3,f 4,f 5,f 6,f 7]:=nr rfl
theorem rg9:(List.range 9).map f=[f 0,f 1,f 2,f 3,f 4,f 5,f 6,f 7,f 8]:=nr rfl
theorem AEc:(List.range 10).map f=[f 0,f 1,f 2,f 3,f 4,f 5,f 6,f 7,f 8,f 9]:=nr rfl
theorem AEd:(List.range 11).map f=[f 0,f 1,f 2,f 3,f 4,f 5,f 6,f 7,f 8,f 9,f 10]:=nr rfl
theorem AEe:(List.range 12).map f=[f 0,f 1,f 2,f 3,f 4,f 5,f 6,f 7,f 8,f 9,f 10,f 11]:=nr rfl
theorem A7A(L:AA)(c:Nat)(k:IntKind)(n:Int):DZ s L c (.int k n)= .int k n:=nr rfl
theorem A1O(L:AA)(c:Nat)(b:Bool):DZ s L c (.bool b)= .bool b:=nr rfl
theorem A7B(L:AA)(c:Nat)(b:ByteArray):DZ s L c (.str b)= .str b:=nr rfl
theorem AEf(L:AA)(c:Nat)(e:TypeId)(xs:List D):DZ s L c (.sl e xs)= .sl e xs:=nr rfl
theorem A7C(L:AA)(c:Nat)(e:TypeId)(xs:List D):DZ s L c (.own e xs)=Zh s (L++[c]):=nr rfl
theorem A7D(L:AA)(c:Nat)(g:FuncId)(xs:List D):DZ s L c (.clo g xs)= .clo g xs:=nr rfl
theorem AEg(L:AA)(c:Nat)(M:AA)(n m:Nat):DZ s L c (.vw M n m)= .vw M n m:=nr rfl
theorem noA(xs:List D):BU (.agg xs)=if AZ xs then none else some (.agg xs):=by simp only [BU,D.hasObj];rfl
theorem A7E(k:IntKind)(n:Int):BU (.int k n)=some (.int k n):=by simp [BU,D.hasObj]
theorem A1P(b:Bool):BU (.bool b)=some (.bool b):=by simp [BU,D.hasObj]
theorem A7F(b:ByteArray):BU (.str b)=some (.str b):=by simp [BU,D.hasObj]
theorem AEh(e:TypeId)(xs:List D):BU (.sl e xs)=some (.sl e xs):=by simp [BU,D.hasObj]
theorem AEi(L:AA)(n m:Nat):BU (.vw L n m)=some (.vw L n m):=by simp [BU,D.hasObj]
theorem A7G(g:FuncId)(xs:List D):BU (.clo g xs)=some (.clo g xs):=by simp [BU,D.hasObj]
theorem dl2(a b:Nat)(l:AA):List.dropLast (a::b::l)=a::List.dropLast (b::l):=nr rfl
theorem dl1(a:Nat):List.dropLast [a]=[]:=nr rfl
theorem AEj(r c:Nat)(p:AA):s.get (r::c::p)=BD (s.v r) (c::p):=nr rfl
theorem bF: ∀(ds xs:List D),xs.length=ds.length→Ba xs 0 ds=ds:=by
 have key: ∀(ds pre xs:List D),xs.length=ds.length→Ba (pre++xs) pre.length ds=pre++ds:=by
  intro ds
  induction ds with
  | nil=>intro pre xs h;simp at h;subst h;rfl
  | cons d ds ih=>
   intro pre xs h
   cases xs with
   | nil=>simp at h
   | cons x xs=>
    simp only [Ba]
    have:=ih (pre++[d]) xs (by simpa using h)
    simpa using this
 intro ds xs h
 simpa using key ds [] xs h
def sw1(T:Tys)(pm:Pm)(t:TypeId)(u:Tmp)(ds:List D)(s:St):D→Option St
 | .box xs=>if T.known t&&T.isStruct t&&pm.wr u&&ds.all BS&&(T.size t==ds.length)&&(xs.length==ds.length)then(if AZ ds||AZ xs then some ((s.set [u] (.box ds)).bump u)else some (s.set [u] (.box ds)))else VK T pm t (.tmp u) (some (.agg ds,s))
 | _=>VK T pm t (.tmp u) (some (.agg ds,s))
theorem AEk(u:Tmp)(ds:List D):VK T pm t (.tmp u) (some (.agg ds,s))=sw1 T pm t u ds s (s.v u):=by
 cases hv:s.v u<;>simp only [sw1]
 rename_i xs
 split
 ·rename_i hc
  simp only [Bool.and_eq_true,beq_iff_eq]at hc
  obtain⟨⟨⟨⟨⟨hk,hs⟩,hw⟩,hd⟩,hz⟩,hl⟩:=hc
  have hz':T.size t≤xs.length:=by omega
  simp only [VK,ev,hv,FU,D.asCells,D.isAgg,D.cells,D.withCells,hk,hs,hw,hd,hz,List.headD_cons,beq_self_eq_true,Bool.and_self,Nat.zero_add,D.hasObj]
  rw [bF ds xs hl]
  have h2:ds.length≤xs.length:=by omega
  simp only [h2,decide_true,Bool.and_self,if_true]
  split<;>first | rfl | (rename_i hq;simp only [hq];rfl)
 ·rfl
theorem AEl(u:Tmp)(ds xs:List D)(hk:T.known t=true)(hs:T.isStruct t=true)(hw:pm.wr u=true)(hd:ds.all BS=true)(hz:T.size t=ds.length)(hl:xs.length=ds.length):
  sw1 T pm t u ds s (.box xs)=if AZ ds||AZ xs then some ((s.set [u] (.box ds)).bump u)else some (s.set [u] (.box ds)):=by
 simp [sw1,hk,hs,hw,hd,hz,hl]
def sJ(T:Tys)(s:St)(t:Tmp)(ty:TypeId):D→Option (D×St)
 | .box xs=>if T.isStruct ty then(if xs.length=T.size ty then td1 (Dt Pm.all (s.clr t) xs)else none)else(match xs with | [d]=>BM Pm.all (s.clr t) d | _=>none)
 | .cptr xs=>if T.isStruct ty then(if xs.length=T.size ty then some (.agg xs,s)else none)else(match xs with | [d]=>some (d,s) | _=>none)
 | _=>none
theorem A1Q(u:Tmp)(hk:T.known ty=true):Rf T s (.cell u ty)=sJ T s u ty (s.v u):=by
 simp only [Rf,hk,if_true,sJ]
 cases s.v u with
 | box xs=>
  simp only
  split
  ·split
   ·cases Dt Pm.all (s.clr u) xs<;>rfl
   ·rfl
  ·rfl
 | _=>rfl
theorem AEm(u:Tmp)(xs:List D)(hs:T.isStruct ty=true)(hl:xs.length=T.size ty):sJ T s u ty (.box xs)=td1 (Dt Pm.all (s.clr u) xs):=by simp [sJ,hs,hl]
theorem AEn(u:Tmp)(d:D)(hs:T.isStruct ty=false):sJ T s u ty (.box [d])=BM Pm.all (s.clr u) d:=by simp [sJ,hs]
theorem AEo(u:Tmp)(d:D)(hs:T.isStruct ty=false):sJ T s u ty (.cptr [d])=some (d,s):=by simp [sJ,hs]
def cp1(pm:Pm)(s:St)(u:Tmp)(rest:List Operand):D→Option (List D×St)
 | .box xs=>match C9 xs with
  | some ys=>if pm.wr u then(Jt pm (s.set [u] (.cptr ys)) rest).map fun r=>(.cptr ys::r.1,r.2)else none
  | none=>none
 | .cptr ys=>(Jt pm s rest).map fun r=>(.cptr ys::r.1,r.2)
 | _=>none
theorem A7I:Jt pm s []=some ([],s):=nr rfl
theorem A7J(u:Tmp)(rest:List Operand):Jt pm s (.tmp u::rest)=cp1 pm s u rest (s.v u):=by
 simp only [Jt]
 cases s.v u<;>rfl
def cp2(pm:Pm)(s:St)(u:Tmp)(rest:List Operand):Option (List D)→Option (List D×St)
 | some ys=>if pm.wr u then(Jt pm (s.set [u] (.cptr ys)) rest).map fun r=>(.cptr ys::r.1,r.2)else none
 | none=>none
theorem AEq(u:Tmp)(rest:List Operand)(xs:List D):cp1 pm s u rest (.box xs)=cp2 pm s u rest (C9 xs):=by
 simp only [cp1];cases C9 xs<;>rfl
theorem AEr(u:Tmp)(rest:List Operand)(ys:List D)(hw:pm.wr u=true):cp2 pm s u rest (some ys)=(Jt pm (s.set [u] (.cptr ys)) rest).map fun r=>(.cptr ys::r.1,r.2):=by simp [cp2,hw]
theorem AEs(u:Tmp)(rest:List Operand)(ys:List D):cp1 pm s u rest (.cptr ys)=(Jt pm s rest).map fun r=>(.cptr ys::r.1,r.2):=nr rfl
def clN(E:Env)(pm:Pm)(s:St)(dst:Option Tmp)(args:Array Operand)(ts:Array TypeId):D→Option St
 | .clo f caps=>if args.size=ts.size then I1 E pm s dst f (args.toList.zip ts.toList) caps else none
 | .ocl false f caps=>if args.size=ts.size then KN E pm s dst f (args.toList.zip ts.toList) caps else none
 | _=>none
theorem A1R(u:Tmp)(args:Array Operand)(ts:Array TypeId):JX E pm s dst (.call ⟨.value (.tmp u),args,ts⟩) ty=clN E pm s dst args ts (s.v u):=by
 rw [gN];cases s.v u<;>first | rfl | (rename_i b _ _;cases b<;>rfl)
theorem AEt(args:Array Operand)(ts:Array TypeId)(f':FuncId)(caps:List D)(h:args.size=ts.size):clN E pm s dst args ts (.clo f' caps)=I1 E pm s dst f' (args.toList.zip ts.toList) caps:=by simp [clN,h]
def mf0(f:FuncId)(dst:Option Tmp):Option (List D×St)→Option St
 | some r=>some (r.2.putO dst (.clo f r.1))
 | none=>none
theorem AEu(g:FuncId)(xs:List D):mf0 g dst (some (xs,s))=some (s.putO dst (.clo g xs)):=nr rfl
def mfV(f:FuncId)(dst:Option Tmp):Option (List D×St)→Option St
 | some r=>some (r.2.putO dst (.ocl false f r.1))
 | none=>none
theorem AEv(g:FuncId)(xs:List D):mfV g dst (some (xs,s))=some (s.putO dst (.ocl false g xs)):=nr rfl
theorem yMf(g:FuncId)(captured:Array Operand):JX E pm s dst (.makeFunc (.func g) #[] captured) ty=if ty<3000000 then mf0 g dst (Jt pm s captured.toList)else mfV g dst (RZ pm s (ty-3000000) captured.toList):=by
 rw [WM]
 simp only [List.isEmpty_toArray,List.isEmpty_nil,if_true]
 by_cases h:ty<3000000
 ·rw [if_pos h,if_pos h]
  cases Jt pm s captured.toList<;>rfl
 ·rw [if_neg h,if_neg h]
  cases RZ pm s (ty-3000000) captured.toList<;>rfl
def cvp(l:List Operand):Option (List D×St)→Option (List D×St)
 | none=>none
 | some (_,s1)=>(Mf s1 l).map fun ds=>(ds,s1)
theorem cvE(m:Nat)(l:List Operand):RZ pm s m l=cvp l (Jt pm s (Hq m 0 l)):=by
 unfold RZ cvp
 rcases Jt pm s (Hq m 0 l)with _ | ⟨ys,s1⟩<;>rfl
def cvq(s:St):Option (List D)→Option (List D×St)
 | some ds=>some (ds,s)
 | none=>none
theorem AEw(l:List Operand)(ys:List D):cvp l (some (ys,s))=cvq s (Mf s l):=by
 simp only [cvp];cases Mf s l<;>rfl
theorem AEx(ds:List D):cvq s (some ds)=some (ds,s):=nr rfl
theorem umN(m i:Nat):Hq m i []=[]:=nr rfl
theorem umC(m i:Nat)(x:Operand)(xs:List Operand):Hq m i (x::xs)=if m / 2 ^ i % 2=1 then Hq m (i+1) xs else x::Hq m (i+1) xs:=by
 rw [Hq,Nat.testBit_eq_decide_div_mod_eq]
 by_cases h:m / 2 ^ i % 2=1<;>simp [h]
def ce1(s:St)(u:Tmp)(r:Option (List D)):D→Option (List D)
 | .box _=>r.map (Zh s [u]:: ·)
 | .cptr ys=>r.map (.cptr ys:: ·)
 | _=>none
theorem ceN:Mf s []=some []:=nr rfl
theorem ceT(u:Tmp)(rest:List Operand):Mf s (.tmp u::rest)=ce1 s u (Mf s rest) (s.v u):=by
 simp only [Mf]
 cases s.v u<;>rfl
theorem AEz(u:Tmp)(l xs:List D):ce1 s u (some l) (.box xs)=some (Zh s [u]::l):=nr rfl
theorem AF0(u:Tmp)(l ys:List D):ce1 s u (some l) (.cptr ys)=some (.cptr ys::l):=nr rfl
def A1S(T:Tys)(pm:Pm)(s:St)(t:TypeId)(t0:Tmp):D→D→Option St
 | .box [_], .ocl false f xs=>if T.known t&& !T.isStruct t&&(T.size t==1)&&pm.rd t0&&pm.wr t0 then some (s.set [t0] (.ocl true f (xs.map (Hz s t0))))else none
 | _,_=>none
theorem AF1(T:Tys)(t0 u:Tmp):QE T pm s t (.tmp t0) (.tmp u)=A1S T pm s t t0 (s.v t0) (s.v u):=by
 show(match s.v t0,s.v u with
  | .box [_], .ocl false f xs=>if T.known t&& !T.isStruct t&&(T.size t==1)&&pm.rd t0&&pm.wr t0 then some (s.set [t0] (.ocl true f (xs.map (Hz s t0))))else none
  | _,_=>none)=_
 rfl
theorem AF2(T:Tys)(t0:Tmp)(x:D)(f:FuncId)(xs:List D)(hk:T.known t=true)(hs:T.isStruct t=false)(hz:T.size t=1)(hr:pm.rd t0=true)(hw:pm.wr t0=true):
  A1S T pm s t t0 (.box [x]) (.ocl false f xs)=some (s.set [t0] (.ocl true f (xs.map (Hz s t0)))):=by simp [A1S,hk,hs,hz,hr,hw]
theorem utV(t0 r n m:Nat):Hz s t0 (.vw [r] n m)=if r=t0 then(if n=s.k t0 then .undef else .vw [r] n m)else .vw [r] n m:=by
 unfold Hz
 by_cases h:r=t0<;>by_cases h2:n=s.k t0<;>simp [h,h2]
theorem utC(t0:Nat)(ys:List D):Hz s t0 (.cptr ys)= .cptr ys:=nr rfl
theorem ldO(T:Tys)(x:Operand)(f:FuncId)(xs:List D)(hk:T.known t=true)(hs:T.isStruct t=false):DV T pm s t x (.ocl true f xs)=some (.ocl false f xs):=by simp [DV,hk,hs]
def co2(E:Env)(pm:Pm)(s:St)(dst:Option Tmp)(f:FuncId)(as:List D)(ls:List (AA×D)):Option (List D×List (AA×D))→Option St
 | none=>none
 | some (cs,lc)=>
  if De ((ls++lc).map (·.1))&&(ls++lc).all (fun l=>pm.wr (l.1.headD 0))&&(ls++lc).all (fun l=>Vi l.2)then
   cl2 s dst (ls++lc) (E.call f (as++cs.map (IA f cs)) ((ls++lc).map (·.2)))
  else none
def co1(E:Env)(pm:Pm)(s:St)(dst:Option Tmp)(f:FuncId)(caps:List D):Option (List D×List (AA×D))→Option St
 | none=>none
 | some (as,ls)=>co2 E pm s dst f as ls (Ci pm s ls.length caps)
theorem coE(f:FuncId)(xs:List (Operand×TypeId))(caps:List D):KN E pm s dst f xs caps=co1 E pm s dst f caps (D5 E true pm s 0 xs):=by
 unfold KN co1
 rcases D5 E true pm s 0 xs with _ | ⟨as,ls⟩
 ·rfl
 ·simp only
  unfold co2
  rcases Ci pm s ls.length caps with _ | ⟨cs,lc⟩
  ·rfl
  ·simp only
   split
   ·unfold cl2
    rcases E.call f (as++cs.map (IA f cs)) ((ls++lc).map (·.2))with _ | ⟨r,o⟩<;>rfl
   ·rfl
theorem AF4(f:FuncId)(caps as:List D)(ls:List (AA×D)):co1 E pm s dst f caps (some (as,ls))=co2 E pm s dst f as ls (Ci pm s ls.length caps):=nr rfl
theorem AF5(f:FuncId)(as cs:List D)(ls lc:List (AA×D))(h:(De ((ls++lc).map (·.1))&&(ls++lc).all (fun l=>pm.wr (l.1.headD 0))&&(ls++lc).all (fun l=>Vi l.2))=true):
  co2 E pm s dst f as ls (some (cs,lc))=cl2 s dst (ls++lc) (E.call f (as++cs.map (IA f cs)) ((ls++lc).map (·.2))):=by simp only [co2,h,if_true]
def oaJ(a:D)(l:List (AA×D)):Option (List D×List (AA×D))→Option (List D×List (AA×D))
 | some r=>some (a::r.1,l++r.2)
 | none=>none
theorem AF6(a:D)(l:List (AA×D))(r:List D)(m:List (AA×D)):oaJ a l (some (r,m))=some (a::r,l++m):=nr rfl
def oa1(pm:Pm)(s:St)(j:Nat)(L:AA)(rest:List D):Option D→Option (List D×List (AA×D))
 | some c=>oaJ (.vw [G+j] 0 0) [(L,c)] (Ci pm s (j+1) rest)
 | none=>none
theorem AF8(j:Nat)(L:AA)(rest:List D)(c:D):oa1 pm s j L rest (some c)=oaJ (.vw [G+j] 0 0) [(L,c)] (Ci pm s (j+1) rest):=nr rfl
theorem oaN(j:Nat):Ci pm s j []=some ([],[]):=nr rfl
theorem oaV(j:Nat)(L:AA)(n m:Nat)(rest:List D):Ci pm s j (.vw L n m::rest)=oa1 pm s j L rest (s.look pm L n m):=by
 rw [Ci]
 cases s.look pm L n m with
 | none=>rfl
 | some c=>simp only [oa1];rcases Ci pm s (j+1) rest with _ | ⟨a,b⟩<;>rfl
theorem oaC(j:Nat)(ys rest:List D):Ci pm s j (.cptr ys::rest)=oaJ (.cptr ys) [] (Ci pm s j rest):=by
 rw [Ci]
 rcases Ci pm s j rest with _ | ⟨a,b⟩<;>rfl
theorem oaU(j:Nat)(rest:List D):Ci pm s j (.undef::rest)=oaJ .undef [] (Ci pm s j rest):=by
 rw [Ci]
 rcases Ci pm s j rest with _ | ⟨a,b⟩<;>rfl
theorem saU(f:FuncId)(cs:List D):IA f cs .undef= .ocl true f cs:=nr rfl
theorem saV(f:FuncId)(cs:List D)(L:AA)(n m:Nat):IA f cs (.vw L n m)= .vw L n m:=nr rfl
theorem saC(f:FuncId)(cs ys:List D):IA f cs (.cptr ys)= .cptr ys:=nr rfl
theorem AF9(args:Array Operand)(ts:Array TypeId)(f':FuncId)(caps:List D)(h:args.size=ts.size):clN E pm s dst args ts (.ocl false f' caps)=KN E pm s dst f' (args.toList.zip ts.toList) caps:=by simp [clN,h]
theorem gZ(g:FuncId):CK (.clo g [])=false:=by simp [CK]
def bn1(dflt:Nat):Option D→Option Nat
 | some (.int _ n)=>if 0≤n then some n.toNat else none
 | _=>none
theorem bnN(n:Nat):Ma T s n none=some n:=nr rfl
theorem bnS(n:Nat)(x:Operand):Ma T s n (some x)=bn1 n (ev T s 0 x):=by
 simp only [Ma]
 rcases ev T s 0 x with _ | d
 ·rfl
 ·cases d<;>rfl
theorem AFB(n:Nat)(k:IntKind)(i:Int)(h:0≤i):bn1 n (some (.int k i))=some i.toNat:=by simp [bn1,h]
def sl0(T:Tys)(pm:Pm)(s:St)(x:Operand)(d:D)(lo hi mx:Option Operand):Ty→Option (D×St)
 | .slice e'=>match BZ pm s x d with
  | none=>none
  | some (e,xs,o)=>
   match Ma T s 0 lo,Ma T s (T.len e xs) hi with
   | some l,some h=>
    if e'=e∧T.known e=true∧l≤h∧h≤T.len e xs then
     if mx.isSome then
      match Ma T s 0 mx with
      | some q=>if l=h∧h=q∧hi.isSome=true then some (.own e [],s)else none
      | none=>none
     else match o with
      | none=>some (.sl e ((xs.take (h*T.size e)).drop (l*T.size e)),s)
      | some (L,va,vb)=>
       if pm.wr (L.headD 0)then
        match C9 xs with
        | some ys=>some (.sl e ((ys.take (h*T.size e)).drop (l*T.size e)),s.set L (.sl e ys))
        | none=>none
       else RX L va vb e l h s
    else none
   | _,_=>none
 | .string=>match d with
  | .str b=>match Ma T s 0 lo,Ma T s b.size hi with
   | some l,some h=>if l≤h∧h≤b.size∧mx.isNone then some (.str (b.extract l h),s)else none
   | _,_=>none
  | _=>none
 | _=>none
theorem slT(x:Operand)(d:D)(lo hi mx:Option Operand):Gr T pm s t x d lo hi mx=sl0 T pm s x d lo hi mx (T.ty t):=by
 unfold Gr sl0
 cases T.ty t<;>first | rfl | (cases d<;>rfl)
def sl1(T:Tys)(pm:Pm)(s:St)(e:TypeId)(xs:List D)(o:Option (AA×Nat×Nat)):Option Nat→Option Nat→Option (D×St)
 | some l,some h=>
  if l≤h∧h≤xs.length then
   match o with
   | none=>some (.sl e ((xs.take h).drop l),s)
   | some (L,va,vb)=>
    if pm.wr (L.headD 0)then
     match C9 xs with
     | some ys=>some (.sl e ((ys.take h).drop l),s.set L (.sl e ys))
     | none=>none
    else RX L va vb e l h s
  else none
 | _,_=>none
def sl2(T:Tys)(pm:Pm)(s:St)(e':TypeId)(lo hi:Option Operand):Option (TypeId×List D×Option (AA×Nat×Nat))→Option (D×St)
 | some (e,xs,o)=>if e'=e∧T.known e=true then sl1 T pm s e xs o (Ma T s 0 lo) (Ma T s xs.length hi)else none
 | none=>none
theorem AFC(x:Operand)(d:D)(lo hi:Option Operand)(e:TypeId)(hz:T.isStruct e=false):sl0 T pm s x d lo hi none (.slice e)=sl2 T pm s e lo hi (BZ pm s x d):=by
 have h1:=IW hz
 simp only [sl0,sl2,Option.isSome_none,Bool.false_eq_true,if_false]
 rcases BZ pm s x d with _ | ⟨e',xs,o⟩
 ·rfl
 ·simp only
  by_cases he:e=e'
  ·subst he
   simp only [true_and,h1,Nat.mul_one,Tys.len,if_true]
   cases Ma T s 0 lo<;>cases Ma T s xs.length hi<;>simp only [sl1]<;>(by_cases hk:T.known e=true<;>simp [hk])
  ·simp only [he,false_and,if_false]
   cases Ma T s 0 lo<;>cases Ma T s (T.len e' xs) hi<;>rfl
theorem AFD(e:TypeId)(lo hi:Option Operand)(xs:List D)(o:Option (AA×Nat×Nat))(hk:T.known e=true):sl2 T pm s e lo hi (some (e,xs,o))=sl1 T pm s e xs o (Ma T s 0 lo) (Ma T s xs.length hi):=by simp [sl2,hk]
theorem AFE(e:TypeId)(xs:List D)(l h:Nat)(h1:l≤h)(h2:h≤xs.length):sl1 T pm s e xs none (some l) (some h)=some (.sl e ((xs.take h).drop l),s):=by simp [sl1,h1,h2]
def sl3(pm:Pm)(s:St)(e:TypeId)(L:AA)(a b l h:Nat)(o:Option (List D)):Option (D×St):=
 if pm.wr (L.headD 0)then
  match o with
  | some ys=>some (.sl e ((ys.take h).drop l),s.set L (.sl e ys))
  | none=>none
 else RX L a b e l h s
theorem AFF(e:TypeId)(xs:List D)(L:AA)(a b l h:Nat)(h1:l≤h)(h2:h≤xs.length):sl1 T pm s e xs (some (L,a,b)) (some l) (some h)=sl3 pm s e L a b l h (C9 xs):=by
 simp only [sl1,h1,h2,and_self,if_true];rfl
theorem AFG(e:TypeId)(L:AA)(a b l h:Nat)(ys:List D)(hw:pm.wr (L.headD 0)=true):sl3 pm s e L a b l h (some ys)=some (.sl e ((ys.take h).drop l),s.set L (.sl e ys)):=by simp only [sl3];rw [if_pos hw]
theorem AFH(e:TypeId)(L:AA)(a b l h:Nat)(o:Option (List D))(hw:pm.wr (L.headD 0)=false):sl3 pm s e L a b l h o=some (.vs e L a b l (h-l),s):=by simp only [sl3];rw [if_neg (by rw [hw];decide)];rfl
theorem A7O(r:Nat):pm.see.rd r=pm.rd r:=nr rfl
theorem A7P(r:Nat):pm.see.wr r=false:=nr rfl
theorem AFI(u:Tmp):zR pm (.tmp u)=pm.wr u:=nr rfl
def ct2(e:TypeId)(xs:List D)(s1:St):Option Nat→Option (D×St)
 | some h=>if h≤xs.length then some (.own e (xs.take h),s1)else none
 | none=>none
def ct1(T:Tys)(s:St)(e':TypeId)(hi:Option Operand):Option (D×St)→Option (D×St)
 | some (.own e xs,s1)=>
  match Ma T s (T.len e xs) hi with
  | some h=>if e'=e∧T.known e=true∧h≤T.len e xs then some (.own e (xs.take (h*T.size e)),s1)else none
  | none=>none
 | _=>none
def ct0(T:Tys)(pm:Pm)(s:St)(t:TypeId)(x:Operand)(hi:Option Operand):Ty→Option (D×St)
 | .slice e=>ct1 T s e hi (if zR pm x then take T pm s t x else none)
 | _=>none
theorem ctT(x:Operand)(hi:Option Operand):Me T pm s t x hi=ct0 T pm s t x hi (T.ty t):=by
 unfold Me ct0 ct1
 cases T.ty t<;>rfl
theorem AFJ(x:Operand)(hi:Option Operand)(e:TypeId)(hw:zR pm x=true):ct0 T pm s t x hi (.slice e)=ct1 T s e hi (take T pm s t x):=by
 unfold ct0;rw [if_pos hw]
theorem AFK(hi:Option Operand)(e:TypeId)(xs:List D)(s1:St)(hk:T.known e=true)(hz:T.isStruct e=false):ct1 T s e hi (some (.own e xs,s1))=ct2 e xs s1 (Ma T s xs.length hi):=by
 have h1:=IW hz
 simp only [ct1,hk,true_and,h1,Nat.mul_one,Tys.len,if_true]
 cases Ma T s xs.length hi<;>rfl
theorem AFL(e:TypeId)(xs:List D)(s1:St)(h:Nat)(hle:h≤xs.length):ct2 e xs s1 (some h)=some (.own e (xs.take h),s1):=by
 show(if h≤xs.length then some (D.own e (xs.take h),s1)else none)=_
 rw [if_pos hle]
def cf2(e:TypeId)(xs:List D)(s1:St):Option Nat→Option (D×St)
 | some l=>if l≤xs.length then some (.own e (xs.drop l),s1)else none
 | none=>none
def cf1(T:Tys)(s:St)(e':TypeId)(lo:Option Operand):Option (D×St)→Option (D×St)
 | some (.own e xs,s1)=>
  match Ma T s 0 lo with
  | some l=>if e'=e∧T.known e=true∧l≤T.len e xs then some (.own e (xs.drop (l*T.size e)),s1)else none
  | none=>none
 | _=>none
def cf0(T:Tys)(pm:Pm)(s:St)(t:TypeId)(x:Operand)(lo:Option Operand):Ty→Option (D×St)
 | .slice e=>cf1 T s e lo (if zR pm x then take T pm s t x else none)
 | _=>none
theorem cfT(x:Operand)(lo:Option Operand):KL T pm s t x lo=cf0 T pm s t x lo (T.ty t):=by
 unfold KL cf0 cf1
 cases T.ty t<;>rfl
theorem AFM(x:Operand)(lo:Option Operand)(e:TypeId)(hw:zR pm x=true):cf0 T pm s t x lo (.slice e)=cf1 T s e lo (take T pm s t x):=by
 unfold cf0;rw [if_pos hw]
theorem AFN(lo:Option Operand)(e:TypeId)(xs:List D)(s1:St)(hk:T.known e=true)(hz:T.isStruct e=false):cf1 T s e lo (some (.own e xs,s1))=cf2 e xs s1 (Ma T s 0 lo):=by
 have h1:=IW hz
 simp only [cf1,hk,true_and,h1,Nat.mul_one,Tys.len,if_true]
 cases Ma T s 0 lo<;>rfl
theorem AFO(e:TypeId)(xs:List D)(s1:St)(l:Nat)(hle:l≤xs.length):cf2 e xs s1 (some l)=some (.own e (xs.drop l),s1):=by
 show(if l≤xs.length then some (D.own e (xs.drop l),s1)else none)=_
 rw [if_pos hle]
def va1(T:Tys)(e:TypeId)(L:AA)(lo len:Nat):Option D→Option (D×List (AA×D))
 | some (.own e' xs)=>
  if e'=e∧T.known e=true∧(lo+len)*T.size e≤xs.length then
   (C9 xs).map fun ys=>(.sl e ((ys.drop (lo*T.size e)).take (len*T.size e)),[(L, .own e' xs)])
  else none
 | _=>none
theorem AFP(e:TypeId)(L L0:AA)(n m lo len j:Nat):JS T false pm s j L0 (.vs e L n m lo len)=va1 T e L lo len (s.look pm L n m):=by
 show Ur T pm s e L n m lo len=_
 unfold Ur va1
 rcases s.look pm L n m with _ | d
 ·rfl
 ·cases d<;>rfl
def va2(e:TypeId)(L:AA)(lo len:Nat)(xs:List D):Option (List D)→Option (D×List (AA×D))
 | some ys=>some (.sl e ((ys.drop lo).take len),[(L, .own e xs)])
 | none=>none
theorem AFR(e:TypeId)(L:AA)(l h:Nat)(xs:List D)(hk:T.known e=true)(hz:T.isStruct e=false)(h1:l≤h)(h2:h≤xs.length):va1 T e L l (h-l) (some (.own e xs))=va2 e L l (h-l) xs (C9 xs):=by
 have h3:=IW hz
 unfold va1
 simp only [h3,Nat.mul_one]
 rw [if_pos ⟨trivial,hk,by omega⟩]
 cases C9 xs<;>rfl
theorem AFS(e:TypeId)(L:AA)(lo len:Nat)(xs:List D)(hk:T.known e=true)(hz:T.isStruct e=false)(h1:lo+len≤xs.length):va1 T e L lo len (some (.own e xs))=va2 e L lo len xs (C9 xs):=by
 have h3:=IW hz
 unfold va1
 simp only [h3,Nat.mul_one]
 rw [if_pos ⟨trivial,hk,h1⟩]
 cases C9 xs<;>rfl
theorem AFT(e:TypeId)(L:AA)(lo len:Nat)(xs ys:List D):va2 e L lo len xs (some ys)=some (.sl e ((ys.drop lo).take len),[(L, .own e xs)]):=nr rfl
theorem A7S(x y:Tmp)(t':TypeId):JX E pm s dst (.call ⟨.builtin .copy, #[.tmp x, .tmp y], #[t,t']⟩) ty=Sa dst (Lu E.T pm s t (.tmp x) (.tmp y) (s.v x) (s.v y)):=KU dst _
def qZ(T:Tys)(pm:Pm)(s:St)(t:TypeId):Option (TypeId×AA×List D×Nat×Nat)→Option (TypeId×List D)→Option (D×St)
 | some (e,L,xs,lo,len),some (e',ys)=>
  if T.isSl t e&&(e==e')&&T.known e&&(T.size e==1)&& !AZ xs&& !AZ ys&&ys.all BS&&pm.wr (L.headD 0)then
   some (.int .i64 (min len ys.length:Nat),s.set L (.own e (Ba xs lo (ys.take (min len ys.length)))))
  else none
 | _,_=>none
theorem AFU(x y:Operand)(a b:D):Lu T pm s t x y a b=qZ T pm s t (OI pm s x a) (Qh pm s y b):=by
 unfold Lu qZ
 rcases OI pm s x a with _ | ⟨_,_,_,_,_⟩<;>rcases Qh pm s y b with _ | ⟨_,_⟩<;>rfl
theorem AFV(e:TypeId)(L:AA)(xs ys:List D)(lo len:Nat)(h1:T.isSl t e=true)(h2:T.known e=true)(h3:T.size e=1)(h4:AZ xs=false)(h5:AZ ys=false)(h6:ys.all BS=true)(h7:pm.wr (L.headD 0)=true):
  qZ T pm s t (some (e,L,xs,lo,len)) (some (e,ys))=some (.int .i64 (min len ys.length:Nat),s.set L (.own e (Ba xs lo (ys.take (min len ys.length))))):=by
 unfold qZ
 dsimp only
 rw [if_pos (by rw [h1,h2,h3,h4,h5,h6,h7];simp)]
theorem A1U(x:Tmp):JX E pm s dst (.call ⟨.builtin .clear, #[.tmp x], #[t]⟩) ty=Sa dst (Js E.T pm s t (.tmp x) (s.v x)):=KU dst _
def qa(T:Tys)(pm:Pm)(s:St)(t:TypeId):Option (TypeId×AA×List D×Nat×Nat)→Option (D×St)
 | some (e,L,xs,lo,len)=>
  if T.isSl t e&&T.known e&&(T.size e==1)&& !T.isStruct e&&BS (T.zero1 e)&&pm.wr (L.headD 0)then
   some (.tup [],(s.set L (.own e (Ba xs lo (List.replicate len (T.zero1 e))))).bump (L.headD 0))
  else none
 | none=>none
theorem AFW(x:Operand)(a:D):Js T pm s t x a=qa T pm s t (OI pm s x a):=by
 unfold Js qa
 rcases OI pm s x a with _ | ⟨_,_,_,_,_⟩<;>rfl
theorem AFX(e:TypeId)(L:AA)(xs:List D)(lo len:Nat)(h1:T.isSl t e=true)(h2:T.known e=true)(h3:T.isStruct e=false)(h5:BS (T.zero1 e)=true)(h7:pm.wr (L.headD 0)=true):
  qa T pm s t (some (e,L,xs,lo,len))=some (.tup [],(s.set L (.own e (Ba xs lo (List.replicate len (T.zero1 e))))).bump (L.headD 0)):=by
 have h8:=IW h3
 unfold qa
 dsimp only
 rw [if_pos (by rw [h1,h2,h3,h5,h7,h8];simp)]
def A1V(e:TypeId):Ty→Bool
 | .slice e'=>e'==e
 | _=>false
theorem AFY(e:TypeId):T.isSl t e=A1V e (T.ty t):=by unfold Tys.isSl A1V;cases T.ty t<;>rfl
theorem AFZ(e e':TypeId):A1V e (.slice e')=(e'==e):=nr rfl
def dv0:Option (TypeId×List D×Option (AA×Nat×Nat))→Option (TypeId×AA×List D×Nat×Nat)
 | some (e,xs,some (L,_,_))=>some (e,L,xs,0,xs.length)
 | _=>none
theorem AFb(e:TypeId)(xs:List D)(L:AA)(a b:Nat):dv0 (some (e,xs,some (L,a,b)))=some (e,L,xs,0,xs.length):=nr rfl
theorem dvW(x:Operand)(L:AA)(n m:Nat):OI pm s x (.vw L n m)=dv0 (BZ pm s x (.vw L n m)):=by
 show(match BZ pm s x (.vw L n m)with | some (e,xs,some (L,_,_))=>some (e,L,xs,0,xs.length) | _=>none)=_
 rcases BZ pm s x (.vw L n m)with _ | ⟨_,_,_ | ⟨_,_,_⟩⟩<;>rfl
theorem dvO(x:Operand)(e:TypeId)(xs:List D):OI pm s x (.own e xs)=dv0 (BZ pm s x (.own e xs)):=by
 show(match BZ pm s x (.own e xs)with | some (e,xs,some (L,_,_))=>some (e,L,xs,0,xs.length) | _=>none)=_
 rcases BZ pm s x (.own e xs)with _ | ⟨_,_,_ | ⟨_,_,_⟩⟩<;>rfl
def dv1(e:TypeId)(L:AA)(lo len:Nat):Option D→Option (TypeId×AA×List D×Nat×Nat)
 | some (.own e' xs)=>if e'=e∧lo+len≤xs.length then some (e,L,xs,lo,len)else none
 | _=>none
theorem dvS(x:Operand)(e:TypeId)(L:AA)(n m lo len:Nat):OI pm s x (.vs e L n m lo len)=dv1 e L lo len (s.look pm L n m):=by
 show(match s.look pm L n m with | some (.own e' xs)=>if e'=e∧lo+len≤xs.length then some (e,L,xs,lo,len)else none | _=>none)=_
 rcases s.look pm L n m with _ | d
 ·rfl
 ·cases d<;>rfl
theorem AFd(e:TypeId)(L:AA)(lo len:Nat)(xs:List D)(h:lo+len≤xs.length):dv1 e L lo len (some (.own e xs))=some (e,L,xs,lo,len):=by simp [dv1,h]
def sv0:Option (TypeId×List D×Option (AA×Nat×Nat))→Option (TypeId×List D)
 | some (e,xs,_)=>some (e,xs)
 | _=>none
theorem AFf(e:TypeId)(xs:List D)(o:Option (AA×Nat×Nat)):sv0 (some (e,xs,o))=some (e,xs):=nr rfl
theorem svW(x:Operand)(L:AA)(n m:Nat):Qh pm s x (.vw L n m)=sv0 (BZ pm s x (.vw L n m)):=by
 show(BZ pm s x (.vw L n m)).map (fun r=>(r.1,r.2.1))=_
 rcases BZ pm s x (.vw L n m)with _ | ⟨_,_,_⟩<;>rfl
theorem svO(x:Operand)(e:TypeId)(xs:List D):Qh pm s x (.own e xs)=sv0 (BZ pm s x (.own e xs)):=by
 show(BZ pm s x (.own e xs)).map (fun r=>(r.1,r.2.1))=_
 rcases BZ pm s x (.own e xs)with _ | ⟨_,_,_⟩<;>rfl
theorem svL(x:Operand)(e:TypeId)(xs:List D):Qh pm s x (.sl e xs)=some (e,xs):=nr rfl
def sv1(e:TypeId)(lo len:Nat):Option D→Option (TypeId×List D)
 | some (.own e' xs)=>if e'=e∧lo+len≤xs.length then some (e,(xs.drop lo).take len)else none
 | _=>none
theorem svS(x:Operand)(e:TypeId)(L:AA)(n m lo len:Nat):Qh pm s x (.vs e L n m lo len)=sv1 e lo len (s.look pm L n m):=by
 show(match s.look pm L n m with | some (.own e' xs)=>if e'=e∧lo+len≤xs.length then some (e,(xs.drop lo).take len)else none | _=>none)=_
 rcases s.look pm L n m with _ | d
 ·rfl
 ·cases d<;>rfl
theorem AFh(e:TypeId)(lo len:Nat)(xs:List D)(h:lo+len≤xs.length):sv1 e lo len (some (.own e xs))=some (e,(xs.drop lo).take len):=by simp [sv1,h]
theorem AFi(x:Tmp)(e:TypeId)(L:AA)(n m lo len:Nat):Bg s dst (.tmp x) (.vs e L n m lo len)=s.putO dst (.vs e L n m lo len):=nr rfl
theorem A7T(x:Tmp)(e:TypeId)(L:AA)(n m lo len:Nat):Ov pm x (.vs e L n m lo len)=true:=by simp [Ov,D.hasObj]
theorem AFj(e:TypeId)(L:AA)(n m lo len:Nat):(D.vs e L n m lo len).hasObj=false:=by simp [D.hasObj]
theorem AFk(x:Operand)(d:D)(e:TypeId)(hk:T.known e=true):sl0 T pm s x d none (some (.const (.int .i64 0))) (some (.const (.int .i64 0))) (.slice e)=match BZ pm s x d with | some (e',_,_)=>if e=e' then some (.own e [],s)else none | none=>none:=by
 simp only [sl0]
 rcases BZ pm s x d with _ | ⟨e',xs,o⟩
 ·rfl
 ·simp only [Ma,ev,Nt,Int.le_refl,if_true,Int.toNat_zero,Nat.zero_le,and_true,Option.isSome_some,true_and]
  by_cases he:e=e'
  ·subst he;simp [hk]
  ·simp [he]
end
theorem bG{P:Program}{T:Tys}{f:FuncId}{e:TypeId}{r:D}{outs:List D}(hk:T.known e=true)(h: ∀A c,Good P T f [.konst (.slice A 0 c)] [] r outs):Good P T f [.sl e []] [] r outs:=by
 refine⟨(h none 0).1,fun vs gh w S FL hsz hA hL hL0 hLd hlt=> ?_⟩
 obtain⟨v,hv,hW⟩:=hA 0 _ rfl
 obtain⟨A,c,rfl⟩: ∃A c,v= .slice A 0 c:=by
  cases hW with
  | sl us hE hn hc hm hx hw=>
   rename_i A n c
   have hp:=Yd hk
   have:n=0:=by
    simp only [List.length_nil]at hn
    rcases Nat.mul_eq_zero.1 hn.symm with h0 | h0
    ·exact h0
    ·omega
   subst this
   exact⟨_,_,rfl⟩
 refine(h A c).2 vs gh w S FL hsz (fun i d hi=> ?_) hL hL0 hLd hlt
 cases i with
 | zero=>simp at hi;subst hi;exact⟨_,hv, .konst (fun _ h=>h)⟩
 | succ i=>simp at hi
end Dv
namespace Dv
open Go
set_option maxRecDepth 10000
set_option linter.defProp false
theorem geq:G=100000:=nr rfl
def AO:=And.intro @ABx (And.intro @A7S (And.intro @A1U (And.intro @ABw (
 And.intro @AC0 (
 And.intro @AC1 (
 And.intro @ABB (
 And.intro @ABC (
 And.intro @A3M (
 And.intro @A3N (
 And.intro @zh (
 And.intro @AES (
 And.intro @yMf (
 And.intro @A1R (
 And.intro @ABK (
 And.intro @A3d (
 And.intro @ABH (
 And.intro @zu (
 And.intro @A3e (
 And.intro @A3h (
 And.intro @zw (
 And.intro @A3b (
 And.intro @A3c (
 And.intro @ABG (
 And.intro @zx (
 And.intro @zy (
 And.intro @zz (
 And.intro @ABM (
 And.intro @ABN (
 And.intro @ABO (
 And.intro @ABP (
 And.intro @ABQ (
 And.intro @ABR (
 And.intro @A3i (
 And.intro @A3j (
 And.intro @aj (
 And.intro @Yh (
 And.intro @A4d (
 And.intro @qI (
 And.intro @kS (
 And.intro @A0E (
 And.intro @A4e (
 And.intro @yUn (
 And.intro @A0F (
 And.intro @ABv (
 And.intro @kT (
 And.intro @A0G (
 And.intro @qJ (
 And.intro @A0H (
 And.intro @A4k (
 And.intro @kU (
 And.intro @A4m (
 And.intro @kD (
 And.intro @gM (
 And.intro @gK (
 And.intro @A1J (
 And.intro @yBs (@WN)))))))))))))))))))))))))))))))))))))))))))))))))))))))))
def AB:=And.intro @ABT (And.intro @ABZ (And.intro @ACB (And.intro @ACC (And.intro @ACD (And.intro @AC7 (And.intro AEB (And.intro @ACK (And.intro @ACM (And.intro @A0L (And.intro @A4z (And.intro @A0M (And.intro @rg8 (And.intro @rg9 (And.intro @AEc (And.intro @AEd (And.intro @AEe (And.intro @ADe (And.intro @ADf (And.intro @ADg (And.intro @ADh (And.intro @A0b (And.intro @ACh (And.intro @ACi (And.intro @A0c (And.intro @faE (And.intro @foN (And.intro @AEK (And.intro @AEL (And.intro @A74 (And.intro @A1K (And.intro @AEO (And.intro @AEP (And.intro @fnA (And.intro @spN (And.intro @spC (And.intro @cfT (And.intro @AFM (And.intro @AFN (And.intro @AFO (And.intro @A3o (And.intro @AEv (And.intro @cvE (And.intro @AEw (And.intro @AEx (And.intro @umN (And.intro @umC (And.intro @ceN (And.intro @ceT (And.intro @AEz (And.intro @AF0 (And.intro @AF1 (And.intro @AF2 (And.intro @utV (And.intro @utC (And.intro @ldO (And.intro @coE (And.intro @AF4 (And.intro @AF5 (And.intro @AF6 (And.intro @AF8 (And.intro @oaN (And.intro @oaV (And.intro @oaC (And.intro @oaU (And.intro @saU (And.intro @saV (And.intro @saC (And.intro @AF9 (And.intro @ABs (And.intro @ABt (And.intro @ABu (And.intro @AFW (And.intro @AFX (And.intro @ABA (And.intro @ABo (And.intro @qO (And.intro @A0a (And.intro @ACf (And.intro @ACg (And.intro @A5c (And.intro @ACj (And.intro @A4v (And.intro @A0K (And.intro @A4x (And.intro @A0N (And.intro @A50 (And.intro @A51 (And.intro @A52 (And.intro @A0O (And.intro @A53 (And.intro @A54 (And.intro @A55 (And.intro @A56 (And.intro @AFH (And.intro @ABn (And.intro @ABp (
 And.intro @A7O (
 And.intro @A7P (
 And.intro @AFI (
 And.intro @ctT (
 And.intro @AFJ (
 And.intro @AFK (
 And.intro @AFL (
 And.intro @AFP (
 And.intro @AFR (
 And.intro @AFS (
 And.intro @AFT (
 And.intro @A5v (
 And.intro @A0i (
 And.intro @A5w (
 And.intro @AD4 (
 And.intro @A5x (
 And.intro @A0j (
 And.intro @axK (
 And.intro @A5y (
 And.intro @A5z (
 And.intro @AD5 (
 And.intro @A60 (
 And.intro @AFU (
 And.intro @AFV (
 And.intro @AFY (
 And.intro @AFZ (
 And.intro @AFb (
 And.intro @dvW (
 And.intro @dvO (
 And.intro @dvS (
 And.intro @AFd (
 And.intro @AFf (
 And.intro @svW (
 And.intro @svO (
 And.intro @svL (
 And.intro @svS (
 And.intro @AFh (
 And.intro @AFi (
 And.intro @A7T (
 And.intro @AFj (
 And.intro @ABa (
 And.intro @ABb (
 And.intro @ABc (
 And.intro @A47 (
 And.intro @A48 (
 And.intro @A49 (
 And.intro @A4A (
 And.intro @ABd (
 And.intro @tqU (
 And.intro @A4B (
 And.intro @A09 (
 And.intro @A4C (
 And.intro @ABe (
 And.intro @A4D (
 And.intro @A4E (
 And.intro @A4F (
 And.intro @A4G (
 And.intro @A6Y (
 And.intro @A6Z (
 And.intro @A11 (
 And.intro @A6a (
 And.intro @ADS (
 And.intro @A6b (
 And.intro @A6c (
 And.intro @A6d (
 And.intro @A6e (
 And.intro @ADT (
 And.intro @bkK (
 And.intro @A75 (
 And.intro @A1N (
 And.intro @A76 (
 And.intro @AET (
 And.intro @A77 (
 And.intro @AEU (
 And.intro @A78 (
 And.intro @A3O (
 And.intro @A3P (
 And.intro @ABD (
 And.intro @ABE (
 And.intro @ABF (
 And.intro @A3Q (
 And.intro @ndK (
 And.intro @AC2 (
 And.intro @A4i (
 And.intro @AC3 (
 And.intro @apK (
 And.intro @A5s (
 And.intro @ACw (
 And.intro @ACx (
 And.intro @A6D (
 And.intro @A6E (
 And.intro @A0r (
 And.intro @dl2 (
 And.intro @dl1 (
 And.intro @AEj (
 And.intro @A7E (
 And.intro @A1P (
 And.intro @A7F (
 And.intro @AEh (
 And.intro @AEi (
 And.intro @A7G (
 And.intro @A7D (
 And.intro @AEV (
 And.intro @AEW (
 And.intro @AEY (
 And.intro @A79 (
 And.intro @AEZ (
 And.intro @AEa (
 And.intro @AEb (
 And.intro @csS (
 And.intro @rg1 (
 And.intro @rg2 (
 And.intro @rg3 (
 And.intro @rg4 (
 And.intro @rg5 (
 And.intro @rg6 (
 And.intro @rg7 (
 And.intro @A7A (
 And.intro @A1O (
 And.intro @A7B (
 And.intro @AEf (
 And.intro @A7C (
 And.intro @AEg (
 And.intro @noA (
 And.intro @AEk (
 And.intro @AEl (
 And.intro @A1Q (
 And.intro @AEm (
 And.intro @AEn (
 And.intro @AEo (
 And.intro @A7I (
 And.intro @A7J (
 And.intro @AEq (
 And.intro @AEr (
 And.intro @AEs (
 And.intro @AEt (
 And.intro @AEu (
 And.intro @gZ (
 And.intro @bnN (
 And.intro @bnS (
 And.intro @AFB (
 And.intro @slT (
 And.intro @AFC (
 And.intro @AFk (
 And.intro @AFD (
 And.intro @AFE (
 And.intro @AFF (
 And.intro @AFG (
 And.intro @A6f (
 And.intro @bkT (
 And.intro @bkF (
 And.intro @bkE (
 And.intro @bkL (
 And.intro @A6g (
 And.intro @A12 (
 And.intro @ipC (
 And.intro @ipN (
 And.intro @ipE (
 And.intro @ieC (
 And.intro @ieN (
 And.intro @fiA (
 And.intro @fiB (
 And.intro @fiC (
 And.intro @fiE (
 And.intro @A0y (
 And.intro @A0z (
 And.intro @ADN (
 And.intro @A6U (
 And.intro @ACk (
 And.intro @ACl (
 And.intro @ACm (
 And.intro @ACn (
 And.intro @bxA (
 And.intro @ACp (
 And.intro @hdC (
 And.intro @AD1 (
 And.intro @AD2 (
 And.intro @AD3 (
 And.intro @mvT (
 And.intro @ADW (
 And.intro @ADX (
 And.intro @A14 (
 And.intro @qP (
 And.intro @A15 (
 And.intro @A6i (
 And.intro @A16 (
 And.intro @A17 (
 And.intro @A6j (
 And.intro @A6k (
 And.intro @ADY (
 And.intro @A18 (
 And.intro @qQ (
 And.intro @A19 (
 And.intro @A1A (
 And.intro @kX (
 And.intro @A1B (
 And.intro @qR (
 And.intro @A6l (
 And.intro @qU (
 And.intro @ADZ (
 And.intro @A1C (
 And.intro @qV (
 And.intro @A6m (
 And.intro @ADa (
 And.intro @A1D (
 And.intro @ADb (
 And.intro @ADc (
 And.intro @ADd (
 And.intro @ADi (
 And.intro @ADj (
 And.intro @ADk (
 And.intro @A1E (
 And.intro @pmR (
 And.intro @pmW (
 And.intro @ABJ (
 And.intro @A3f (
 And.intro @ABL (
 And.intro @AB6 (
 And.intro @AB7 (
 And.intro @AB8 (
 And.intro @AEM (
 And.intro @AEH (And.intro @AEG (And.intro @AEI (And.intro @AEJ (
 And.intro @AEE (
 And.intro @yMk (
 And.intro @AEQ (
 And.intro @AER (
 And.intro @A70 (
 And.intro @A71 (
 And.intro @zi (
 And.intro @zk (
 And.intro @pu (
 And.intro @zm (
 And.intro @zn (
 And.intro @pz (
 And.intro @A3k (
 And.intro @A00 (
 And.intro @A3l (
 And.intro @ABS (
 And.intro @qD (
 And.intro @A3m (
 And.intro @A3n (
 And.intro @ABU (
 And.intro @ABV (
 And.intro @A01 (
 And.intro @A3p (
 And.intro @A3q (
 And.intro @A3r (
 And.intro @A02 (
 And.intro @A3s (
 And.intro @A3t (
 And.intro @A03 (
 And.intro @A3u (
 And.intro @ABW (
 And.intro @qE (
 And.intro @qF (
 And.intro @A3v (
 And.intro @A3w (
 And.intro @ABX (
 And.intro @A3x (
 And.intro @A04 (
 And.intro @qG (
 And.intro @A05 (
 And.intro @A3y (
 And.intro @kK (
 And.intro @kL (
 And.intro @A3z (
 And.intro @A06 (
 And.intro @A07 (
 And.intro @A40 (
 And.intro @A41 (
 And.intro @A08 (
 And.intro @A42 (
 And.intro @ABY (
 And.intro @qH (
 And.intro @A43 (
 And.intro @A44 (
 And.intro @A45 (
 And.intro @A46 (
 And.intro @ABf (
 And.intro @A0A (
 And.intro @A4H (
 And.intro @A4I (
 And.intro @A4J (
 And.intro @pkB (
 And.intro @pkT (
 And.intro @pkF (
 And.intro @A3J (
 And.intro @A3K (
 And.intro @A3L (
 And.intro @ABz (
 And.intro @A4g (
 And.intro @A4h (
 And.intro @AC4 (
 And.intro @AC5 (
 And.intro @AC9 (
 And.intro @ACA (
 And.intro @A4K (
 And.intro @A4L (
 And.intro @A4M (
 And.intro @A4N (
 And.intro @A4O (
 And.intro @A4P (
 And.intro @ABg (
 And.intro @A4Q (
 And.intro @kN (
 And.intro @A4R (
 And.intro @A4S (
 And.intro @ABh (
 And.intro @ABi (
 And.intro @ABj (
 And.intro @ABk (
 And.intro @ABl (
 And.intro @ABm (
 And.intro @A4T (
 And.intro @A4U (
 And.intro @A4V (
 And.intro @A4W (
 And.intro @A4X (
 And.intro @A0B (
 And.intro @A4Y (
 And.intro @A4Z (
 And.intro @boI (
 And.intro @boS (
 And.intro @boB (
 And.intro @boA (
 And.intro @A0C (
 And.intro @A4a (
 And.intro @A4b (
 And.intro @A4c (
 And.intro @ldC (
 And.intro @ACE (
 And.intro @ldP (
 And.intro @ACF (
 And.intro @ldB (
 And.intro @ACG (
 And.intro @ldV (
 And.intro @ACH (
 And.intro @A4n (
 And.intro @A4p (
 And.intro @A0I (
 And.intro @A0J (
 And.intro @A4q (
 And.intro @ACI (
 And.intro @A4r (
 And.intro @ACJ (
 And.intro @A4t (
 And.intro @A4u (
 And.intro @lnT (
 And.intro @ACN (
 And.intro @A57 (
 And.intro @A58 (
 And.intro @ixT (
 And.intro @ACP (
 And.intro @AEC (
 And.intro @A6x (
 And.intro @AED (
 And.intro @A6y (
 And.intro @qM (
 And.intro @az (
 And.intro @Yp (
 And.intro @bA (
 And.intro @qX (
 And.intro @kz (
 And.intro @bB (
 And.intro @gW (
 And.intro @bC (
 And.intro @WQ (
 And.intro @Ow (
 And.intro @A1H (
 And.intro @qY (
 And.intro @kw (
 And.intro @l6 (
 And.intro @Yo (
 And.intro @ky (
 And.intro @A59 (
 And.intro @tkC (
 And.intro @A5G (
 And.intro @A0U (
 And.intro @A5H (
 And.intro @ACU (
 And.intro @A5I (
 And.intro @A5J (
 And.intro @A5K (
 And.intro @A0V (
 And.intro @ACV (
 And.intro @A5L (
 And.intro @A5A (
 And.intro @A0R (
 And.intro @A5B (
 And.intro @ACQ (
 And.intro @A5C (
 And.intro @A5D (
 And.intro @A5E (
 And.intro @A0S (
 And.intro @ACR (
 And.intro @rz (
 And.intro @ACS (
 And.intro @ACT (
 And.intro @A0T (
 And.intro @qN (
 And.intro @A0W (
 And.intro @dZ (
 And.intro @hoI (
 And.intro @hoB (
 And.intro @hoS (
 And.intro @A5M (
 And.intro @A5N (
 And.intro @A5O (
 And.intro @A5P (
 And.intro @A0X (
 And.intro @ACW (
 And.intro @ACX (
 And.intro @hoK (
 And.intro @hoU (
 And.intro @A5Q (
 And.intro @A5R (
 And.intro @A5S (
 And.intro @ACZ (
 And.intro @A5T (
 And.intro @ACa (
 And.intro @ACb (
 And.intro @ACc (
 And.intro @ACd (
 And.intro @A5U (
 And.intro @A5V (
 And.intro @A5W (
 And.intro @A5X (
 And.intro @A5Y (
 And.intro @A5Z (
 And.intro @A5a (
 And.intro @A5b (
 And.intro @A0Y (
 And.intro @ACq (
 And.intro @A5d (
 And.intro @A5e (
 And.intro @A5f (
 And.intro @A5g (
 And.intro @A5h (
 And.intro @A0d (
 And.intro @A5i (
 And.intro @ACr (
 And.intro @A5j (
 And.intro @A5k (
 And.intro @A5l (
 And.intro @A0e (
 And.intro @ceS (
 And.intro @A5m (
 And.intro @A0f (
 And.intro @A5n (
 And.intro @ACs (
 And.intro @A5o (
 And.intro @ACt (
 And.intro @A5p (
 And.intro @ACu (
 And.intro @ACz (
 And.intro @AD0 (
 And.intro @A0g (
 And.intro @A0h (
 And.intro @A5t (
 And.intro @A5u (
 And.intro @arC (
 And.intro @arF (
 And.intro @aCS (
 And.intro @A61 (
 And.intro @A0k (
 And.intro @A62 (
 And.intro @AD6 (
 And.intro @A63 (
 And.intro @A0l (
 And.intro @atK (
 And.intro @A65 (
 And.intro @A66 (
 And.intro @ADA (
 And.intro @A0m (
 And.intro @A0n (
 And.intro @A67 (
 And.intro @A68 (
 And.intro @AD7 (
 And.intro @AD9 (
 And.intro @ADB (
 And.intro @ADC (
 And.intro @A0o (
 And.intro @A69 (
 And.intro @A0p (
 And.intro @A6A (
 And.intro @A0q (
 And.intro @A6B (
 And.intro @ADE (
 And.intro @A6C (
 And.intro @ADF (
 And.intro @A6F (
 And.intro @cdB (
 And.intro @ADG (
 And.intro @ADH (
 And.intro @ADI (
 And.intro @cdL (
 And.intro @ADJ (
 And.intro @ADK (
 And.intro @A6G (
 And.intro @A0t (
 And.intro @A6H (
 And.intro @sG (
 And.intro @A6I (
 And.intro @A6J (
 And.intro @A6K (
 And.intro @A0u (
 And.intro @df (
 And.intro @A6L (
 And.intro @A0v (
 And.intro @A6M (
 And.intro @A6N (
 And.intro @A6O (
 And.intro @A0w (
 And.intro @A6Q (
 And.intro @kW (
 And.intro @A6R (
 And.intro @A6S (
 And.intro @A6T (
 And.intro @A0x (
 And.intro @ADL (
 And.intro @RL (
 And.intro @ADM (
 And.intro @fiD (
 And.intro @fi0 (
 And.intro @re0 (
 And.intro @re1 (
 And.intro @re2 (
 And.intro @ADO (
 And.intro @A6V (
 And.intro @A6W (
 And.intro @ADP (
 And.intro @A10 (
 And.intro @ADQ (
 And.intro @ADR (
 And.intro @A6X (
 And.intro @A6h (
 And.intro @A13 (
 And.intro @ADV (
 And.intro @Ca (
 And.intro @kP (
 And.intro @Sb (
 And.intro @Yj (
 And.intro @Yk (
 And.intro @av (
 And.intro @A3R (
 And.intro @A3U (
 And.intro @zo (
 And.intro @A3X (
 And.intro @A3S (
 And.intro @A3V (
 And.intro @zq (
 And.intro @A3Y (
 And.intro @A3T (
 And.intro @A3W (
 And.intro @zt (
 And.intro @A3Z (
 And.intro @gP (
 And.intro @gQ (
 And.intro @A3a (
 And.intro @gT (
 And.intro @kI (
 And.intro @qA (
 And.intro @qB (
 And.intro @qC (
 And.intro @geq (
 And.intro @Int.toNat_natCast (
 And.intro @Int.toNat_zero (
 And.intro @Int.natCast_nonneg (
 And.intro @Nat.zero_le (
 And.intro @Int.le_refl (
 And.intro @Nat.le_refl (
 And.intro @Bool.and_true (
 And.intro @Bool.true_and (
 And.intro @Bool.and_false (
 And.intro @Bool.false_and (
 And.intro @Bool.or_false (
 And.intro @Bool.false_or (
 And.intro @Bool.or_true (
 And.intro @Bool.true_or (
 And.intro @Bool.not_true (
 And.intro @Bool.not_false (
 And.intro @Bool.false_eq_true (
 And.intro @decide_true (
 And.intro @decide_false (
 And.intro @and_self (
 And.intro @and_true (@true_and))))))))))))))))))))))))))))))))))))))))))))))))))))))))))))))))))))))))))))))))))))))))))))))))))))))))))))))))))))))))))))))))))))))))))))))))))))))))))))))))))))))))))))))))))))))))))))))))))))))))))))))))))))))))))))))))))))))))))))))))))))))))))))))))))))))))))))))))))))))))))))))))))))))))))))))))))))))))))))))))))))))))))))))))))))))))))))))))))))))))))))))))))))))))))))))))))))))))))))))))))))))))))))))))))))))))))))))))))))))))))))))))))))))))))))))))))))))))))))))))))))))))))))))))))))))))))))))))))))))))))))))))))))))))))))))))))))))))))))))))))))))))))))))))))))))))))))))))))))))))))))))))))))))))))))))))))))))))))))))))))))))))))))))))))))))))))))))))))))))))))))))
end Dv
