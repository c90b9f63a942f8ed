/- Value semantics for Go code, part 4: arguments of laws, slim code and rules. Conditions: none beyond those in each lemma. -/
import Derived.Test.YtipfckompmhljaaGreatL3
import Derived.WalkKit
import Derived.ProofKit
import Derived.OpenShut
import Derived.ShutString
import Derived.ChangeOld
import Derived.Below
import Derived.Carry
import Derived.IntWalk
set_option linter.unusedSimpArgs false
set_option linter.unusedVariables false
namespace Dv
open Go
inductive Shp(T:Tys):TypeId→List D→Prop
 | int {t k n} (ht:T.ty t= .int k) (hw:(Lit.int k n).wf=true):Shp T t [.int k n]
 | bool {t b} (ht:T.ty t= .bool):Shp T t [.bool b]
 | string {t s} (ht:T.ty t= .string) (hs:s.size≤maxLen):Shp T t [.str s]
 | slice {t e} {xss:List (List D)} (ht:T.ty t= .slice e) (hx: ∀xs,xs∈xss→Shp T e xs) (hl:xss.length≤maxLen):Shp T t [.sl e xss.flatten]
 | struct {t fs} {ds:List D} (ht:T.ty t= .struct fs) (hl:ds.length=fs.length) (hx: ∀(i:Nat) (f:TypeId) (d:D),fs[i]? =some f→ds[i]? =some d→Shp T f [d]):Shp T t ds
def Me(T:Tys):Nat→TypeId→Bool
 | 0,_=>false
 | n+1,t=>match T.ty t with
  | .int _=>true
  | .bool=>true
  | .string=>true
  | .slice e=>T.known e&&Me T n e
  | .struct fs=>(T.nest t).isNone&& !fs.isEmpty&&fs.all (Me T n)
  | _=>false
theorem Shp.length{T:Tys}{t:TypeId}{ds:List D}(h:Shp T t ds):ds.length=T.size t:=by
 cases h with
 | int ht=>simp [Tys.size,ht,Ty.size]
 | bool ht=>simp [Tys.size,ht,Ty.size]
 | string ht=>simp [Tys.size,ht,Ty.size]
 | slice ht=>simp [Tys.size,ht,Ty.size]
 | struct ht hl=>simp [Tys.size,ht,Ty.size,hl]
theorem Vy{α:Type}{n:Nat}(hn:0<n): ∀(xss:List (List α)),(∀xs∈xss,xs.length=n)→ ∀k:Nat,xss.flatten[k]? =(xss[k / n]?).bind fun xs=>xs[k % n]? :=by
 intro xss
 induction xss with
 | nil=>intro _ k;simp
 | cons xs xss ih=>
  intro h k
  have hx:=h xs (List.mem_cons_self)
  rw [List.flatten_cons]
  rcases Nat.lt_or_ge k n with hk | hk
  ·rw [List.getElem?_append_left (by omega),Nat.div_eq_of_lt hk,Nat.mod_eq_of_lt hk];rfl
  ·rw [List.getElem?_append_right (by omega),ih (fun ys hy=>h ys (List.mem_cons_of_mem _ hy)),hx]
   have h1:k / n=(k-n) / n+1:=by
    rw [Nat.div_eq_sub_div hn hk]
   have h2:k % n=(k-n) % n:=by rw [Nat.mod_eq_sub_mod hk]
   rw [h1,h2];rfl
theorem Q2{α:Type}{n:Nat}: ∀(xss:List (List α)),(∀xs∈xss,xs.length=n)→xss.flatten.length=xss.length*n:=by
 intro xss
 induction xss with
 | nil=>intro _;simp
 | cons xs xss ih=>
  intro h
  rw [List.flatten_cons,List.length_append,ih (fun ys hy=>h ys (List.mem_cons_of_mem _ hy)),h xs (List.mem_cons_self),List.length_cons,Nat.add_mul];omega
abbrev Z9(w:World):Nat→Prop:=fun k=>k<w.heap.size
section
variable {P:Program} {T:Tys} {H:Type} {enc:TypeId×Value→H} {w:World} {spare:Nat→Bool} {Ju:Bool}
theorem B7.cells(h:B7 P T){t:TypeId}(hk:T.known t=true):P.cellsOf t=T.size t:=by
 obtain⟨i,h1,h2,_⟩:=h.info hk
 simp [Program.cellsOf,h1,h2]
theorem Xq{n:Nat}{t:TypeId}(h:Me T n t=true):T.known t=true:=by
 cases n with
 | zero=>cases h
 | succ n=>
  unfold Me at h
  unfold Tys.known
  cases ht:T.ty t with
  | struct fs=>
   rw [ht]at h
   cases fs with
   | nil=>simp at h
   | cons=>rfl
  | other=>rw [ht]at h;cases h
  | map=>rw [ht]at h;cases h
  | _=>rfl
theorem Vz{t:TypeId}(hk:T.known t=true):0<T.size t:=by
 unfold Tys.known at hk
 unfold Tys.size
 cases ht:T.ty t with
 | struct fs=>
  rw [ht]at hk
  cases fs with
  | nil=>cases hk
  | cons=>simp [Ty.size]
 | _=>simp [Ty.size]
theorem Xr{base:Nat}{a:Addr}{n:Nat}{cs:List Value}(h:w.cells? base a n=some cs):cs.length=n∧ ∀i,i<n→w.cell? (a.add i)=cs[i]? :=by
 unfold World.cells? at h
 split at h
 ·exact⟨by simpa using mapM_some_length h,fun i hi=>by have:=mapM_some_get h i i (by simp [hi]);simpa using this⟩
 ·cases h
theorem fW{ad:Addr}{v:Value}(h:w.cell? ad=some v):ad.block<w.heap.size:=by
 rcases Nat.lt_or_ge ad.block w.heap.size with hl | hl
 ·exact hl
 ·have h1:=Array.getElem?_eq_none hl
  simp [World.cell?,h1]at h
theorem bk(hT:B7 P T): ∀(fuel:Nat) (n:Nat) (t:TypeId) (cs:List Value) (x:DataW H×List MemPlace),Me T n t=true→DataW.trod enc P w 0 spare Ju fuel t cs=some x→
  ∃ds,Shp T t ds∧cs.length=ds.length∧ ∀(i:Nat) (d:D),ds[i]? =some d→ ∃v,cs[i]? =some v∧W T (Z9 w) w V0 GF d v (fun _=>False):=by
 have hE:Em (fun _:Nat=>False):=fun _ h=>h
 have one: ∀(d0:D) (v0:Value),W T (Z9 w) w V0 GF d0 v0 (fun _=>False)→ ∀(i:Nat) (d:D),[d0][i]? =some d→ ∃v,[v0][i]? =some v∧W T (Z9 w) w V0 GF d v (fun _=>False):=by
  intro d0 v0 h i d hi
  cases i with
  | zero=>simp at hi;subst hi;exact⟨v0,rfl,h⟩
  | succ i=>simp at hi
 intro fuel
 induction fuel with
 | zero=>intro n t cs x _ h;simp [DataW.trod]at h
 | succ fuel ih=>
  intro n t cs x hd h
  have hk:=Xq hd
  have h0:=(hT t).1
  unfold Dd at h0
  cases n with
  | zero=>cases hd
  | succ n=>
   unfold Me at hd
   cases ht:T.ty t<;>rw [ht]at h0 hd<;>simp only at h0 hd
   case int k=>
    obtain⟨m,rfl,_,hw⟩:=DataW.trod_int h0.1 h
    exact⟨[.int k m], .int ht hw,rfl,one _ _ (.int hE)⟩
   case bool=>
    obtain⟨b,rfl,_⟩:=DataW.trod_bool h0.1 h
    exact⟨[.bool b], .bool ht,rfl,one _ _ (.bool hE)⟩
   case string=>
    obtain⟨s,rfl,_,hs⟩:=DataW.trod_string h0.1 h
    exact⟨[.str s], .string ht hs,rfl,one _ _ (.str hE)⟩
   case slice e=>
    simp only [Bool.and_eq_true]at hd
    have hc:=hT.cells hd.1
    have hpos:=Vz hd.1
    rcases DataW.trod_slice h0.1 h with⟨rfl,_⟩ | ⟨a,len,cap,elems,rest,m,hm,rfl,_,_,hl,hcap,hlen,hel,_,_⟩
    ·exact⟨[.sl e ([]:List (List D)).flatten], .slice ht (by simp) (by simp [maxLen]),rfl,one _ _ (.sl (fun _=>undef) hE (by simp) (Nat.le_refl _) (by simp [maxLen]) (by simp) (by simp))⟩
    ·injection hm with hm
     subst hm
     have hex: ∀i,i<len→ ∃ds,Shp T e ds∧ ∀(j:Nat) (d:D),ds[j]? =some d→ ∃v,w.cell? (a.add (i*T.size e+j))=some v∧W T (Z9 w) w V0 GF d v (fun _=>False):=by
      intro i hi
      have h1:=hel i hi
      rw [List.getElem?_eq_getElem (by omega),Option.bind_eq_some_iff]at h1
      obtain⟨cs',h2,h3⟩:=h1
      obtain⟨ds,q1,q2,q3⟩:=ih n e cs' _ hd.2 h3
      refine⟨ds,q1,fun j d hj=> ?_⟩
      obtain⟨v,hv,hW⟩:=q3 j d hj
      obtain⟨c1,c2⟩:=Xr h2
      rw [hc]at c1 c2
      have hj':j<T.size e:=by rw [←c1];exact(List.getElem?_eq_some_iff.1 hv).1
      have h4:=c2 j hj'
      rw [HI]at h4
      exact⟨v,by rw [h4,hv],hW⟩
     let ch:Nat→List D:=fun i=>if h:i<len then(hex i h).choose else []
     have hch: ∀i,i<len→Shp T e (ch i)∧ ∀(j:Nat) (d:D),(ch i)[j]? =some d→ ∃v,w.cell? (a.add (i*T.size e+j))=some v∧W T (Z9 w) w V0 GF d v (fun _=>False):=by
      intro i hi
      have:=(hex i hi).choose_spec
      simp only [ch,hi,dif_pos];exact this
     have hall: ∀xs∈(List.range len).map ch,xs.length=T.size e:=by
      intro xs hxs
      obtain⟨i,hi,rfl⟩:=List.mem_map.1 hxs
      exact(hch i (List.mem_range.1 hi)).1.length
     refine⟨[.sl e ((List.range len).map ch).flatten], .slice ht (fun xs hxs=> ?_) (by simp;omega),rfl,one _ _ ?_⟩
     ·obtain⟨i,hi,rfl⟩:=List.mem_map.1 hxs
      exact(hch i (List.mem_range.1 hi)).1
     ·have key: ∀(i:Nat) (x:D),((List.range len).map ch).flatten[i]? =some x→ ∃v,w.cell? (a.add i)=some v∧W T (Z9 w) w V0 GF x v (fun _=>False):=by
       intro i x hi
       rw [Vy hpos _ hall,Option.bind_eq_some_iff]at hi
       obtain⟨xs,h1,h2⟩:=hi
       rw [List.getElem?_map,Option.map_eq_some_iff]at h1
       obtain⟨q,hq,rfl⟩:=h1
       obtain⟨hq1,hq2⟩:=List.getElem?_eq_some_iff.1 hq
       simp only [List.getElem_range]at hq2
       subst hq2
       obtain⟨v,hv,hW⟩:=(hch _ (by simpa using hq1)).2 _ x h2
       rw [show i / T.size e*T.size e+i % T.size e=i by rw [Nat.mul_comm];exact Nat.div_add_mod i (T.size e)]at hv
       exact⟨v,hv,hW⟩
      refine .sl (fun i=>(w.cell? (a.add i)).getD undef) hE (by rw [Q2 _ hall];simp) hl hcap (fun i x hi=> ?_) (fun i x hi=> ?_)
      ·obtain⟨v,hv,_⟩:=key i x hi
       exact⟨a,rfl,by have:=fW hv;rw [JJ]at this;exact this,by rw [hv];rfl⟩
      ·obtain⟨v,hv,hW⟩:=key i x hi
       simp only [hv,Option.getD_some];exact hW
   case struct fs=>
    simp only [Bool.and_eq_true,List.all_eq_true,Option.isNone_iff_eq_none]at hd
    obtain⟨⟨fields,hu,hfx⟩,hinfo⟩:=h0
    rw [hd.1.1]at hfx
    obtain⟨hfl,hfi⟩:=hfx
    obtain⟨xs,m,hm,_,hcl,hxl,hx⟩:=DataW.trod_struct hu h
    injection hm with hm
    subst hm
    rw [hT.cells hk]at hcl
    have hsz:T.size t=fs.length:=by simp [Tys.size,ht,Ty.size]
    have hex: ∀i,i<fs.length→ ∃d f,fs[i]? =some f∧Shp T f [d]∧ ∃v,cs[i]? =some v∧W T (Z9 w) w V0 GF d v (fun _=>False):=by
     intro i hi
     have hif:i<fields.size:=by omega
     obtain⟨f1,f2,f3,f4⟩:=hfi i _ (Array.getElem?_eq_getElem hif)
     have h1:=hx i _ (Array.getElem?_eq_getElem hif)
     have hs1:T.size fields[i].type=1:=by
      unfold Tys.isStruct at f4
      unfold Tys.size
      cases hty:T.ty fields[i].type<;>simp_all [Ty.isStruct,Ty.size]
     rw [f1,hT.cells f3,hs1,List.getElem?_eq_getElem (by omega)]at h1
     obtain⟨ds,q1,q2,q3⟩:=ih n _ _ _ (hd.2 _ (List.mem_of_getElem? f2)) h1
     have hl1:ds.length=1:=by rw [q1.length,hs1]
     obtain⟨d,rfl⟩:=List.length_eq_one_iff.1 hl1
     obtain⟨v,hv,hW⟩:=q3 0 d rfl
     refine⟨d,_,f2,q1,v, ?_,hW⟩
     rw [List.getElem?_take]at hv
     simp only [Nat.zero_lt_one,if_true,List.getElem?_drop,Nat.add_zero]at hv
     exact hv
    let ch:Nat→D:=fun i=>if h:i<fs.length then(hex i h).choose else .undef
    have hch: ∀i,i<fs.length→ ∃f,fs[i]? =some f∧Shp T f [ch i]∧ ∃v,cs[i]? =some v∧W T (Z9 w) w V0 GF (ch i) v (fun _=>False):=by
     intro i hi
     have:=(hex i hi).choose_spec
     simp only [ch,hi,dif_pos];exact this
    have hget: ∀(i:Nat) (d:D),((List.range fs.length).map ch)[i]? =some d→i<fs.length∧d=ch i:=by
     intro i d hi
     rw [List.getElem?_map,Option.map_eq_some_iff]at hi
     obtain⟨q,hq,rfl⟩:=hi
     obtain⟨hq1,hq2⟩:=List.getElem?_eq_some_iff.1 hq
     simp only [List.getElem_range]at hq2
     subst hq2
     exact⟨by simpa using hq1,rfl⟩
    refine⟨(List.range fs.length).map ch, .struct ht (by simp) (fun i f d hf hi=> ?_),by simp;omega,fun i d hi=> ?_⟩
    ·obtain⟨h1,rfl⟩:=hget i d hi
     obtain⟨f',hf',hs,_⟩:=hch i h1
     rw [hf]at hf';injection hf' with hf';subst hf';exact hs
    ·obtain⟨h1,rfl⟩:=hget i d hi
     obtain⟨f',hf',hs,v,hv,hW⟩:=hch i h1
     exact⟨v,hv,hW⟩
   all_goals (cases hd)
def xa(T:Tys)(t:TypeId)(ds:List D):D:=if T.isStruct t then .agg ds else ds.headD .undef
def nZ(T:Tys)(t:TypeId)(d:D):Prop:= ∃ds,Shp T t ds∧d=xa T t ds
theorem nx(hT:B7 P T){r:Reach}{base n:Nat}{t:TypeId}{v:Value}{d0:DataW H}{ps:List MemPlace}(hd:Me T n t=true)(hv:Value.okWide P w r base t v)(h:DataW.Trod enc P w 0 spare Ju t v d0 ps):
  ∃d,nZ T t d∧W T (Z9 w) w V0 GF d v (fun _=>False):=by
 obtain⟨fuel,hf⟩:=h
 obtain⟨ds,q1,q2,q3⟩:=bk hT fuel n t _ _ hd hf
 have hfact:=(hT t).1
 unfold Dd at hfact
 have flat:T.isStruct t=false→v.cells.toList=[v]→ ∃d,nZ T t d∧W T (Z9 w) w V0 GF d v (fun _=>False):=by
  intro hs hc
  have hl:ds.length=1:=by rw [←q2,hc];rfl
  obtain⟨d,rfl⟩:=List.length_eq_one_iff.1 hl
  obtain⟨v',hv',hW⟩:=q3 0 d rfl
  rw [hc]at hv'
  simp only [List.getElem?_cons_zero,Option.some.injEq]at hv'
  subst hv'
  exact⟨d,⟨[d],q1,by simp [xa,hs]⟩,hW⟩
 cases n with
 | zero=>cases hd
 | succ n=>
  unfold Me at hd
  cases ht:T.ty t<;>rw [ht]at hfact hd<;>simp only at hfact hd
  case int k=>
   refine flat (by simp [Tys.isStruct,ht,Ty.isStruct]) ?_
   simp only [Value.okWide,hfact.1,Cell.okWide]at hv
   cases v<;>simp_all [Cell.ok,Value.cells]
  case bool=>
   refine flat (by simp [Tys.isStruct,ht,Ty.isStruct]) ?_
   simp only [Value.okWide,hfact.1,Cell.okWide]at hv
   cases v<;>simp_all [Cell.ok,Value.cells]
  case string=>
   refine flat (by simp [Tys.isStruct,ht,Ty.isStruct]) ?_
   simp only [Value.okWide,hfact.1,Cell.okWide]at hv
   cases v<;>simp_all [Cell.ok,Value.cells]
  case slice e=>
   refine flat (by simp [Tys.isStruct,ht,Ty.isStruct]) ?_
   simp only [Value.okWide,hfact.1,Cell.okWide]at hv
   cases v<;>simp_all [Cell.ok,Value.cells]
  case struct fs=>
   obtain⟨⟨fields,hu,_⟩,_⟩:=hfact
   obtain⟨cs,rfl,hcs⟩:=WideShapes.okWide_struct hu hv
   have hval: ∀(i:Nat) (d:D),ds[i]? =some d→cs[i]? =some (cs.getD i undef)∧W T (Z9 w) w V0 GF d (cs.getD i undef) (fun _=>False):=by
    intro i d hi
    obtain⟨v,hv',hW⟩:=q3 i d hi
    have:cs[i]? =some v:=by simpa [Value.cells] using hv'
    rw [Array.getD_eq_getD_getElem?,this];exact⟨rfl,hW⟩
   refine⟨.agg ds,⟨ds,q1,by simp [xa,Tys.isStruct,ht,Ty.isStruct]⟩, .agg (fun i=>cs.getD i undef) (fun _ _=>False) (by simpa [Value.cells] using q2) (fun i x hi=>(hval i x hi).1) (fun k=>⟨fun h=>h.elim,fun⟨_,_,h⟩=>h⟩) (fun _ _ _ _ _ _ h=>h.elim) (fun i x hi=>(hval i x hi).2)⟩
  all_goals (cases hd)
end
def jL(T:Tys):List TypeId→List D→Prop
 | [],[]=>True
 | t::ts,d::ds=>nZ T t d∧jL T ts ds
 | _,_=>False
theorem args_W{P:Program}{T:Tys}{H:Type}{enc:TypeId×Value→H}{w:World}{r:Reach}{base n:Nat}(hT:B7 P T): ∀(ts:List TypeId) (vs:List Value) (d0:List (DataW H)) (ps:List MemPlace),ts.all (Me T n)=true→
  (∀(j:Nat) (t:TypeId) (v:Value),ts[j]? =some t→vs[j]? =some v→Value.okWide P w r base t v)→DataW.TrodAll enc P w 0 (fun _=>true) true ts vs d0 ps→
  ∃ds,jL T ts ds∧vs.length=ds.length∧ ∀(i:Nat) (d:D),ds[i]? =some d→ ∃v,vs[i]? =some v∧W T (Z9 w) w V0 GF d v (fun _=>False):=by
 intro ts
 induction ts with
 | nil=>
  intro vs d0 ps _ _ h
  cases vs<;>cases d0<;>simp [DataW.TrodAll]at h
  exact⟨[],trivial,rfl,by simp⟩
 | cons t ts ih=>
  intro vs d0 ps hd hv h
  cases vs with
  | nil=>cases d0<;>simp [DataW.TrodAll]at h
  | cons v vs=>
   cases d0 with
   | nil=>simp [DataW.TrodAll]at h
   | cons d0 ds0=>
    simp only [DataW.TrodAll]at h
    obtain⟨p,q,h1,h2,_⟩:=h
    simp only [List.all_cons,Bool.and_eq_true]at hd
    obtain⟨d,ha,hW⟩:=nx hT hd.1 (hv 0 t v rfl rfl) h1
    obtain⟨ds,hb,hl,hWs⟩:=ih vs ds0 q hd.2 (fun j t' v' hj hj'=>hv (j+1) t' v' (by simpa using hj) (by simpa using hj')) h2
    refine⟨d::ds,⟨ha,hb⟩,by simp [hl],fun i x hi=> ?_⟩
    cases i with
    | zero=>simp at hi;subst hi;exact⟨v,rfl,hW⟩
    | succ i=>simpa using hWs i x (by simpa using hi)
theorem law_calls{Y:Sys}(hY:Y.Ok){f:FuncId}{ds:List D}(hc:Y.call f ds []=some (.bool true,[])){vs:Array Value}{w:World}(hl:vs.size=ds.length)
  (hW: ∀(i:Nat) (d:D),ds[i]? =some d→ ∃v,vs[i]? =some v∧W Y.T (Z9 w) w V0 GF d v (fun _=>False)):
  Calls Y.P f vs w fun e w'=>e= .returned (.bool true)∧RowKit.Below w.heap.size w w':=by
 have hg:=Sys.call_good hY hc
 refine Calls.mono (hg.2 vs (fun _=>undef) w (Z9 w) (fun _ _=>False) hl (fun i d hi=> ?_) (fun j d hj=>by simp at hj) (fun _ _ _ h=>h) (fun _ _ _ _ h=>h.elim) (fun _ h=>h)) ?_
 ·obtain⟨v,hv,hWv⟩:=hW i d hi
  exact⟨v,hv,hWv.up⟩
 ·intro e w' he
  cases e with
  | returned v=>
   obtain⟨S',F,FL',h1,_,_,_,hst,_,_⟩:=he
   cases h1 with
   | bool=>exact⟨rfl,hst.os,hst.tape,hst.output,hst.size,fun k hk=>hst.heap k hk (fun _ h=>h)⟩
  | panicked=>exact he.elim
  | outgrown=>exact he.elim
theorem trodAll_below{H:Type}{enc:TypeId×Value→H}{P:Program}(hl:laidOutB P=true){W W':World}(hb:RowKit.Below W.heap.size W W'): ∀ {ts:List TypeId} {vs:List Value} {ds:List (DataW H)} {ps:List MemPlace},
  ts.all (fun t=>P.readableRec t&&decide (t<P.types.size))=true→DataW.TrodAll enc P W 0 (fun _=>true) true ts vs ds ps→DataW.TrodAll enc P W' 0 (fun b=>decide (b<W.heap.size)) true ts vs ds ps:=by
 intro ts
 induction ts with
 | nil=>
  intro vs ds ps _ h
  cases vs<;>cases ds<;>simp [DataW.TrodAll]at h ⊢
  exact h
 | cons t ts ih=>
  intro vs ds ps hr h
  cases vs with
  | nil=>cases ds<;>simp [DataW.TrodAll]at h
  | cons v vs=>
   cases ds with
   | nil=>simp [DataW.TrodAll]at h
   | cons d ds=>
    simp only [DataW.TrodAll]at h ⊢
    obtain⟨p,q,h1,h2,h3⟩:=h
    simp only [List.all_cons,Bool.and_eq_true,decide_eq_true_eq]at hr
    have lt0: ∀x∈p,x.block<W.heap.size:=by obtain⟨m,hm⟩:=h1;exact DataW.trod_lt m _ _ _ hm
    exact⟨p,q,RowKit.Below.trod hl hr.1.1 hr.1.2 h1 hb lt0,ih (by simpa using hr.2) h2,h3⟩
end Dv
namespace Dv
open Go
theorem nr{α:Type}{a b:α}(h:a=b):a=b:=h
structure SOp where
 dst:Option Tmp
 op:Op
 type:TypeId
 guard:Option (Option Tmp×Bool)
structure PmL where
 n:List Nat
 r:List Nat
 w:List Nat
def PmL.pm(l:PmL):Pm:=⟨fun r=>l.n.contains r|| !l.r.contains r,fun r=>l.w.contains r⟩
inductive SC where
 | skip
 | ops (l:List SOp)
 | draws (l:List (PmL×SOp))
 | seq (a b:SC)
 | cond (c:Operand) (a b:SC)
 | block (id:Nat) (c:SC)
 | loop (c:SC)
 | exit (id:Nat)
 | ret
 | bad
def Lt(ops:Array Oper)(o:Oper):SOp:=⟨o.dst,o.op,o.type,match o.guard with | none=>none | some (j,b)=>some ((ops[j]?).bind (·.dst),b)⟩
def Am(lends:FuncId→Bool):Code→SC
 | .skip=> .skip
 | .region _ ops draw=>
  if draw then
   (if KT lends ops.toList then .draws (ops.toList.map fun o=>(⟨EX ops.toList o,ops.toList.flatMap (CT lends ops.toList),CT lends ops.toList o⟩,Lt ops (PR lends ops.toList o)))else .bad)
  else .ops (ops.toList.map fun o=>Lt ops (nt lends ops.toList o))
 | .seq a b=> .seq (Am lends a) (Am lends b)
 | .cond c a b=> .cond c (Am lends a) (Am lends b)
 | .block id c=> .block id (Am lends c)
 | .loop c=> .loop (Am lends c)
 | .exit id=> .exit id
 | .ret=> .ret
 | _=> .bad
def IA(E:Env)(pm:Pm)(s:St)(dst:Option Tmp)(op:Op)(type:TypeId):Option St:=er E pm s ⟨dst,op,type, "", #[],none⟩
def Li(E:Env)(pm:Pm)(s:St)(o:SOp):Option St:=
 match o.guard with
 | none=>IA E pm s o.dst o.op o.type
 | some (none,_)=>some (s.putO o.dst (.konst undef))
 | some (some t,b)=>
  match s.v t with
  | .bool b'=>if b'==b then IA E pm s o.dst o.op o.type else some (s.putO o.dst (.konst undef))
  | .konst (.tuple _)=>some (s.putO o.dst (.konst undef))
  | _=>none
def bl(E:Env):List SOp→St→Option St
 | [],s=>some s
 | o::l,s=>(Li E Pm.all s o).bind fun s'=>bl E l s'
def EA(pm:Pm)(s:St)(op:Op):Bool:=
 match op with
 | .move (.tmp u)=> !(s.v u).hasObj||(s.v u).isObj||pm.wr u
 | _=>true
def W0(E:Env):List (PmL×SOp)→St→Option St
 | [],s=>some s
 | (p,o)::l,s=>if EA p.pm s o.op then(Li E p.pm s o).bind fun s'=>W0 E l s' else none
noncomputable def CC(E:Env):SC→St→Option (Ex×St)
 | .skip,s=>some (.normal,s)
 | .ops l,s=>(bl E l s).map fun s'=>(.normal,s')
 | .draws l,s=>(W0 E l s).map fun s'=>(.normal,s')
 | .seq a b,s=>
  match CC E a s with
  | some (.normal,s')=>CC E b s'
  | r=>r
 | .cond c a b,s=>
  match ev E.T s 0 c with
  | some (.bool t)=>if t then CC E a s else CC E b s
  | _=>none
 | .block id c,s=>
  match CC E c s with
  | some (.exit j,s')=>if j=id then some (.normal,s')else some (.exit j,s')
  | r=>r
 | .loop c,s=>PS (CC E c) s
 | .exit id,s=>some (.exit id,s)
 | .ret,s=>some (.ret,s)
 | .bad,_=>none
theorem W1(E:Env)(ops:Array Oper)(pm:Pm)(s:St)(o:Oper):Li E pm s (Lt ops o)=Gr E ops pm s o:=by
 obtain⟨dst,op,type,pos,after,guard⟩:=o
 unfold Li Gr JG Lt
 cases guard with
 | none=>rfl
 | some g=>
  obtain⟨j,b⟩:=g
  simp only
  cases (ops[j]?).bind (·.dst)with
  | none=>rfl
  | some t=>
   simp only
   cases hv:s.v t with
   | bool b'=>simp only;cases hb:(b'==b)<;>simp<;>rfl
   | konst v=>cases v<;>rfl
   | _=>rfl
theorem fX(E:Env)(ops:Array Oper): ∀(l:List Oper) (s:St),bl E (l.map fun o=>Lt ops (nt E.lends ops.toList o)) s=RE E ops s l:=by
 intro l
 induction l with
 | nil=>intro s;rfl
 | cons o l ih=>
  intro s
  simp only [List.map_cons,bl,RE,W1]
  cases Gr E ops Pm.all s (nt E.lends ops.toList o)with
  | none=>rfl
  | some s'=>simp only [Option.bind_some];exact ih s'
theorem bm(E:Env)(ops:Array Oper)(l0:List Oper): ∀(l:List Oper) (s:St),
  W0 E (l.map fun o=>(⟨EX l0 o,l0.flatMap (CT E.lends l0),CT E.lends l0 o⟩,Lt ops (PR E.lends ops.toList o))) s=Lg E ops l0 s l:=by
 intro l
 induction l with
 | nil=>intro s;rfl
 | cons o l ih=>
  intro s
  simp only [List.map_cons,W0,Lg,W1]
  have h1:(PmL.mk (EX l0 o) (l0.flatMap (CT E.lends l0)) (CT E.lends l0 o)).pm=GI E.lends l0 o:=nr rfl
  have h2:EA (GI E.lends l0 o) s (Lt ops (PR E.lends ops.toList o)).op=XF (GI E.lends l0 o) s o:=nr rfl
  rw [h1,h2]
  split
  ·cases Gr E ops (GI E.lends l0 o) s (PR E.lends ops.toList o)with
   | none=>rfl
   | some s'=>simp only [Option.bind_some];exact ih s'
  ·rfl
theorem bn(E:Env): ∀(c:Code),CC E (Am E.lends c)=CB E c:=by
 intro c
 induction c with
 | skip=>rfl
 | region id ops draw=>
  funext s
  simp only [Am,CB]
  cases draw with
  | true=>
   simp only [if_true]
   split
   ·simp only [CC];rw [bm]
   ·rfl
  | false=>simp only [Bool.false_eq_true,if_false,CC];rw [fX]
 | seq a b iha ihb=>funext s;simp only [Am,CC,CB,iha,ihb];rfl
 | cond x a b iha ihb=>funext s;simp only [Am,CC,CB,iha,ihb];rfl
 | block id c ih=>funext s;simp only [Am,CC,CB,ih];rfl
 | loop c ih=>funext s;simp only [Am,CC,CB,ih]
 | exit id=>rfl
 | ret=>rfl
 | rangeFunc=>rfl
 | scope=>rfl
 | label=>rfl
 | goto=>rfl
 | refuse=>rfl
def Av(E:Env)(c:SC)(Q:Ex→St→Prop)(s:St):Prop:= ∃ex s',CC E c s=some (ex,s')∧Q ex s'
section
variable {E:Env} {Q:Ex→St→Prop} {s:St}
def W2(E:Env)(b:SC)(Q:Ex→St→Prop):Ex→St→Prop
 | .normal,s=>Av E b Q s
 | ex,s=>Q ex s
def inBlock(id:Nat)(Q:Ex→St→Prop):Ex→St→Prop
 | .exit j,s=>if j=id then Q .normal s else Q (.exit j) s
 | ex,s=>Q ex s
theorem jM{a b:SC}(h:Av E a (W2 E b Q) s):Av E (.seq a b) Q s:=by
 obtain⟨ex,s1,h1,h2⟩:=h
 cases ex with
 | normal=>
  obtain⟨ex',s2,h3,h4⟩:=h2
  exact⟨ex',s2,by simp [CC,h1,h3],h4⟩
 | exit id=>exact⟨_,s1,by simp [CC,h1],h2⟩
 | ret=>exact⟨_,s1,by simp [CC,h1],h2⟩
theorem bo{id:Nat}{c:SC}(h:Av E c (inBlock id Q) s):Av E (.block id c) Q s:=by
 obtain⟨ex,s1,h1,h2⟩:=h
 cases ex with
 | normal=>exact⟨_,s1,by simp [CC,h1],h2⟩
 | exit j=>
  simp only [inBlock]at h2
  by_cases hj:j=id
  ·subst hj;rw [if_pos rfl]at h2;exact⟨.normal,s1,by simp [CC,h1],h2⟩
  ·rw [if_neg hj]at h2;exact⟨_,s1,by simp [CC,h1,hj],h2⟩
 | ret=>exact⟨_,s1,by simp [CC,h1],h2⟩
theorem AP{c:SC}{Q':Ex→St→Prop}(h:Av E c Q s)(hq: ∀ex s,Q ex s→Q' ex s):Av E c Q' s:=by
 obtain⟨ex,s1,h1,h2⟩:=h;exact⟨ex,s1,h1,hq _ _ h2⟩
def Xs(I:St→Prop)(Q:Ex→St→Prop):Ex→St→Prop
 | .normal,s=>I s
 | ex,s=>Q ex s
end
def fin(T:Tys)(n:Nat)(rs:List ResultVar)(r:D×List D):Ex→St→Prop
 | .normal,s=>RF T n rs s=some r
 | .ret,s=>RF T n rs s=some r
 | .exit _,_=>False
theorem Sys.call_wp{Y:Sys}{f:FuncId}{fn:Func}{c:Code}{k:SC}{a l:List D}{r:D×List D}(hb:Y.base f a l=none)(hf:Y.P.funcs[f]? =some fn)(hok:As fn a.length=true)
  (hbody:fn.body=some c)(hk:Am Y.lends c=k)(h:Av Y.env k (fin Y.T l.length fn.results.toList r) (entry a l)):Y.call f a l=some r:=by
 refine Sys.call_run hb hf hok ?_
 obtain⟨ex,s1,h1,h2⟩:=h
 unfold VF
 rw [←hk]at h1
 have h3:CC Y.env (Am Y.env.lends c)=CB Y.env c:=bn Y.env c
 have h4:CB Y.env c (entry a l)=some (ex,s1):=by rw [←h3];exact h1
 rw [hbody]
 simp only [h4]
 cases ex with
 | normal=>exact h2
 | ret=>exact h2
 | exit id=>exact h2.elim
section
variable (E:Env) (pm:Pm) (s:St) (dst:Option Tmp) (ty:TypeId)
theorem Xt(op:Op):Li E pm s ⟨dst,op,ty,none⟩=IA E pm s dst op ty:=nr rfl
def xb(E:Env)(pm:Pm)(s:St)(dst:Option Tmp)(op:Op)(ty:TypeId)(b:Bool)(d:D):Option St:=
 match d with
 | .bool b'=>if b'==b then IA E pm s dst op ty else some (s.putO dst (.konst undef))
 | .konst (.tuple _)=>some (s.putO dst (.konst undef))
 | _=>none
theorem W4(op:Op)(t:Tmp)(b:Bool):Li E pm s ⟨dst,op,ty,some (some t,b)⟩=xb E pm s dst op ty b (s.v t):=nr rfl
theorem xx(op:Op)(b':Bool):xb E pm s dst op ty true (.bool b')=if b'=true then IA E pm s dst op ty else some (s.putO dst (.konst undef)):=by cases b'<;>rfl
theorem xy(op:Op)(b':Bool):xb E pm s dst op ty false (.bool b')=if b'=true then some (s.putO dst (.konst undef))else IA E pm s dst op ty:=by cases b'<;>rfl
theorem xz(op:Op)(b:Bool):xb E pm s dst op ty b (.konst undef)=some (s.putO dst (.konst undef)):=nr rfl
def pk(s:St)(dst:Option Tmp)(c a b:Option D):Option St:=
 match c,a,b with
 | some (.bool t),some x,some y=>if(if t then x else y).hasObj then none else some (s.putO dst (if t then x else y))
 | _,_,_=>none
theorem bp(c a b:Operand):IA E pm s dst (.pick c a b) ty=pk s dst (ev E.T s ty c) (ev E.T s ty a) (ev E.T s ty b):=nr rfl
theorem pkT(x y:D)(h:x.hasObj=false):pk s dst (some (.bool true)) (some x) (some y)=some (s.putO dst x):=by simp [pk,h]
theorem pkF(x y:D)(h:y.hasObj=false):pk s dst (some (.bool false)) (some x) (some y)=some (s.putO dst y):=by simp [pk,h]
theorem pkB(t p q:Bool):pk s dst (some (.bool t)) (some (.bool p)) (some (.bool q))=some (s.putO dst (.bool (if t then p else q))):=by cases t<;>rfl
theorem y4(b:Bool):(D.bool b).hasObj=false:=by simp [D.hasObj]
theorem y5(k:IntKind)(n:Int):(D.int k n).hasObj=false:=by simp [D.hasObj]
theorem y6(b:ByteArray):(D.str b).hasObj=false:=by simp [D.hasObj]
theorem Zu(t:TypeId):IA E pm s dst (.alloc t) ty=if E.T.known t then some (s.putO dst (.box (E.T.zeros t)))else none:=nr rfl
theorem fY(t:TypeId)(x:Operand):IA E pm s dst (.box t x) ty=if ty=900003 then(KS E.T pm s dst t x).bind fun s1=>Gc pm s1 dst else KS E.T pm s dst t x:=nr rfl
theorem bq(t:TypeId)(x:Operand):KS E.T pm s dst t x=match PO (ev E.T s t x)with
  | some ds=>if E.T.isStruct t then some (s.putO dst (.box ds))else none
  | none=>
   match take E.T pm s t x with
   | some (d,s1)=>if E.T.isStruct t==d.isAgg then some (s1.putO dst (.box d.asCells))else none
   | none=>none:=nr rfl
theorem Zv(t:TypeId)(parts:Array (Nat×Operand)):IA E pm s dst (.build t parts) ty=match E.T.nest t with
  | some fl=>if E.T.isStruct t&&E.T.known t then(Gq E.T pm fl s (E.T.zeros t) parts.toList).map fun r=>r.2.putO dst (.agg r.1)else none
  | none=>match E.T.ty t with
   | .struct fs=>if E.T.known t then(Da E.T pm (fun i=>fs.getD i 0) 1 s (E.T.zeros t) parts.toList).map fun r=>r.2.putO dst (.agg r.1)else none
   | _=>none:=nr rfl
theorem Q3(t:TypeId)(len:Nat)(parts:Array (Nat×Operand)):IA E pm s dst (.buildSlice t len parts) ty=if ty=900004 then(PQ E.T pm s dst t len parts).bind fun s1=>O9 pm s1 dst else PQ E.T pm s dst t len parts:=nr rfl
theorem Zw(t:TypeId)(a x:Operand):IA E pm s none (.store t a x) ty=if ty=900007 then D0 E.T pm t a (HV E.T pm s t x)else if ty=900010 then O8 E.T pm s t a x else Hv E.T pm s t a x:=nr rfl
def H9(s:St)(dst:Option Tmp):Option D→Option St
 | some r=>some (s.putO dst r)
 | none=>none
theorem ny(r:D):H9 s dst (some r)=some (s.putO dst r):=nr rfl
def Q4(dst:Option Tmp):Option (D×St)→Option St
 | some r=>some (r.2.putO dst r.1)
 | none=>none
theorem nz(r:D)(s:St):Q4 dst (some (r,s))=some (s.putO dst r):=nr rfl
def Mf(T:Tys)(s:St)(dst:Option Tmp)(op:BinOp)(t:TypeId):Option D→Option D→Option St
 | some a,some b=>if J9 T t a then H9 s dst (Bj op a b)else none
 | _,_=>none
theorem o3(T:Tys)(op:BinOp)(t:TypeId)(a b:D):Mf T s dst op t (some a) (some b)=if J9 T t a then H9 s dst (Bj op a b)else none:=nr rfl
def jN(pm:Pm)(dst:Option Tmp)(u:Tmp):Option St→Option St
 | some s1=>VD pm s1 dst u
 | none=>none
def fbC(pm:Pm)(s1:St)(u:Tmp):D→Option St
 | .bool b=>if b then some s1 else Gc pm s1 (some u)
 | _=>none
theorem y7(s1:St)(t u:Tmp)(h:pm.rd t=true):jN pm (some t) u (some s1)=fbC pm s1 u (s1.v t):=by
 show(if pm.rd t then _ else none)=_
 rw [if_pos h]
 cases s1.v t<;>rfl
theorem br(op:BinOp)(t:TypeId)(x y:Operand)(t':TypeId):IA E pm s dst (.binOp op t x y t') ty=if ty<2000000 then FO E.T pm s dst op t x y else jN pm dst (ty-2000000) (FO E.T pm s dst op t x y):=by
 show(if ty<2000000 then FO E.T pm s dst op t x y else(FO E.T pm s dst op t x y).bind fun s1=>VD pm s1 dst (ty-2000000))=_
 cases FO E.T pm s dst op t x y<;>rfl
theorem LN(op:BinOp)(t:TypeId)(x y:Operand)(hq:VB E.T op t y=none):FO E.T pm s dst op t x y=Mf E.T s dst op t (ev E.T s t x) (ev E.T s t y):=by
 unfold FO
 rw [hq]
 simp only
 cases ev E.T s t x<;>cases ev E.T s t y<;>simp only [Mf]
 rename_i a b
 cases Bj op a b<;>rfl
theorem y8(op:BinOp)(t:TypeId)(x:Operand)(u:Tmp)(t':TypeId):IA E pm s dst (.binOp op t x (.tmp u) t') ty=if ty<2000000 then Mf E.T s dst op t (ev E.T s t x) (some (s.v u))else jN pm dst (ty-2000000) (Mf E.T s dst op t (ev E.T s t x) (some (s.v u))):=by
 rw [br,LN E pm s dst op t x (.tmp u) rfl];rfl
theorem y9(op:BinOp)(t:TypeId)(x:Operand)(k:IntKind)(n:Int)(t':TypeId):IA E pm s dst (.binOp op t x (.const (.int k n)) t') ty=if ty<2000000 then Mf E.T s dst op t (ev E.T s t x) (some (.int k n))else jN pm dst (ty-2000000) (Mf E.T s dst op t (ev E.T s t x) (some (.int k n))):=by
 rw [br,LN E pm s dst op t x _ rfl];rfl
theorem o4(op:BinOp)(t:TypeId)(x:Operand)(b:Bool)(t':TypeId):IA E pm s dst (.binOp op t x (.const (.bool b)) t') ty=if ty<2000000 then Mf E.T s dst op t (ev E.T s t x) (some (.bool b))else jN pm dst (ty-2000000) (Mf E.T s dst op t (ev E.T s t x) (some (.bool b))):=by
 rw [br,LN E pm s dst op t x _ rfl];rfl
theorem o5(op:BinOp)(t:TypeId)(x:Operand)(b:ByteArray)(t':TypeId):IA E pm s dst (.binOp op t x (.const (.string b)) t') ty=if ty<2000000 then Mf E.T s dst op t (ev E.T s t x) (some (.str b))else jN pm dst (ty-2000000) (Mf E.T s dst op t (ev E.T s t x) (some (.str b))):=by
 rw [br,LN E pm s dst op t x _ rfl];rfl
def Xu(s:St)(dst:Option Tmp)(q:Bool):Option Bool→Option St
 | some b=>some (s.putO dst (.bool (b==q)))
 | none=>none
theorem o6(b:Bool):Xu s dst true (some b)=some (s.putO dst (.bool b)):=by cases b<;>rfl
theorem o7(b:Bool):Xu s dst false (some b)=some (s.putO dst (.bool (!b))):=by cases b<;>rfl
def gc(op:BinOp)(s:St)(dst:Option Tmp)(r:Option Bool)(o:Option St):Ty→Option St
 | .slice _=>match op with | .eql=>Xu s dst true r | .neq=>Xu s dst false r | _=>o
 | _=>o
theorem yA(r:Option Bool)(o:Option St)(e:TypeId):gc .eql s dst r o (.slice e)=Xu s dst true r:=nr rfl
theorem yB(r:Option Bool)(o:Option St)(e:TypeId):gc .neq s dst r o (.slice e)=Xu s dst false r:=nr rfl
theorem fZ(op:BinOp)(t:TypeId)(u:Tmp):FO E.T pm s dst op t (.tmp u) (.const (.slice none 0 0))=gc op s dst (MG pm s (s.v u)) (Mf E.T s dst op t (some (s.v u)) (ev E.T s t (.const (.slice none 0 0)))) (E.T.ty t):=by
 have key: ∀q,VB E.T op t (.const (.slice none 0 0))=some q→FO E.T pm s dst op t (.tmp u) (.const (.slice none 0 0))=Xu s dst q (MG pm s (s.v u)):=by
  intro q hq
  unfold FO
  rw [hq]
  simp only [ev,Option.bind_some]
  cases MG pm s (s.v u)<;>rfl
 cases ht:E.T.ty t with
 | slice e=>
  cases op<;>first
   | (simp only [gc];exact key true (by simp [VB,ht]))
   | (simp only [gc];exact key false (by simp [VB,ht]))
   | (simp only [gc];exact LN E pm s dst _ t _ _ (by simp [VB,ht]))
 | _=>exact LN E pm s dst _ t _ _ (by simp [VB,ht])
theorem jO(op:BinOp)(t:TypeId)(u:Tmp)(t':TypeId):IA E pm s dst (.binOp op t (.tmp u) (.const (.slice none 0 0)) t') ty=if ty<2000000 then gc op s dst (MG pm s (s.v u)) (Mf E.T s dst op t (some (s.v u)) (ev E.T s t (.const (.slice none 0 0)))) (E.T.ty t)
  else jN pm dst (ty-2000000) (gc op s dst (MG pm s (s.v u)) (Mf E.T s dst op t (some (s.v u)) (ev E.T s t (.const (.slice none 0 0)))) (E.T.ty t)):=by
 rw [br,fZ]
theorem yC(e:TypeId)(x:D)(xs:List D):MG pm s (.sl e (x::xs))=some false:=nr rfl
theorem o8(e:TypeId)(x:D)(xs:List D):MG pm s (.own e (x::xs))=some false:=nr rfl
theorem ndK(A:Option Addr)(n c:Nat):MG pm s (.konst (.slice A n c))=some A.isNone:=nr rfl
theorem W5(src d:TypeId)(x:Operand):IA E pm s dst (.convert src d x) ty=if E.T.known src then
   match ev E.T s src x,E.T.ty d with
   | some (.int _ n), .int k=>some (s.putO dst (.int k (k.wrap n)))
   | some (.str b), .string=>some (s.putO dst (.str b))
   | _,_=>none
  else none:=nr rfl
theorem TM(f:FuncId)(first captured:Array Operand):IA E pm s dst (.makeFunc (.func f) first captured) ty=if ty<3000000 then(if first.isEmpty then(Hx pm s captured.toList).map fun r=>r.2.putO dst (.clo f r.1)else none)
  else(if first.isEmpty then(PP pm s (ty-3000000) captured.toList).map fun r=>r.2.putO dst (.ocl false f r.1)else none):=nr rfl
theorem TN(x:Operand):IA E pm s dst (.nilCheck x) ty=(ev E.T s ty x).bind fun d=>
   match d with
   | .box _=>some (B8 s dst x d)
   | .vw L n m=>match s.look pm L n m with | some (.box _)=>some (B8 s dst x d) | _=>none
   | .pe L _ n m=>match s.look pm L n m with | some _=>some (B8 s dst x d) | none=>none
   | .cptr _=>some (B8 s dst x d)
   | .clo _ _=>some (B8 s dst x d)
   | .ocl false _ _=>some (B8 s dst x d)
   | _=>none:=nr rfl
theorem Xv(x y:Operand)(t t':TypeId):IA E pm s dst (.call ⟨.builtin .append, #[x,y], #[t,t']⟩) ty=if t=t' then(if jA (ev E.T s t y)then IE E.T pm s t x else DZ E.T pm s t x y).map fun r=>r.2.putO dst r.1 else none:=nr rfl
theorem bt(f:FuncId)(args:Array Operand)(ts:Array TypeId):IA E pm s dst (.call ⟨.value (.func f),args,ts⟩) ty=if args.size=ts.size then GH E pm s dst f (args.toList.zip ts.toList) []else none:=nr rfl
theorem Zx(u:Tmp)(args:Array Operand)(ts:Array TypeId):IA E pm s dst (.call ⟨.value (.tmp u),args,ts⟩) ty=match s.v u with
   | .clo f caps=>if args.size=ts.size then GH E pm s dst f (args.toList.zip ts.toList) caps else none
   | .ocl false f caps=>if args.size=ts.size then IF E pm s dst f (args.toList.zip ts.toList) caps else none
   | _=>none:=nr rfl
end
theorem jP(T:Tys)(s:St)(t:TypeId)(u:Tmp):ev T s t (.tmp u)=some (s.v u):=nr rfl
theorem jQ(T:Tys)(s:St)(t:TypeId)(k:IntKind)(n:Int):ev T s t (.const (.int k n))=some (.int k n):=nr rfl
theorem fa(T:Tys)(s:St)(t:TypeId)(b:Bool):ev T s t (.const (.bool b))=some (.bool b):=nr rfl
theorem jR(T:Tys)(s:St)(t:TypeId)(b:ByteArray):ev T s t (.const (.string b))=some (.str b):=nr rfl
theorem jS(T:Tys)(s:St)(t:TypeId):ev T s t (.const (.slice none 0 0))=match T.ty t with | .slice e=>some (.own e []) | _=>none:=nr rfl
theorem fb(T:Tys)(s:St)(t:TypeId)(f:FuncId):ev T s t (.func f)=some (.clo f []):=nr rfl
theorem o9(s:St)(t u:Nat)(d:D):(s.put t d).v u=if u=t then d else s.v u:=by rw [ga];rfl
theorem oA(s:St)(t u:Nat)(d:D):(s.put t d).k u=if u=t then(if d.hasObj then s.k t+1 else s.k t)else s.k u:=by
 unfold St.put
 by_cases h:u=t
 ·subst h;cases hd:d.hasObj<;>simp [If]
 ·cases hd:d.hasObj<;>simp [If,h]
theorem oB(s:St)(t u:Nat)(d:D):(s.put t d).m u=s.m u:=by unfold St.put;split<;>rfl
theorem oC(s:St)(t u:Nat):(s.clr t).v u=if u=t then .undef else s.v u:=nr rfl
theorem oD(s:St)(t u:Nat):(s.clr t).k u=s.k u:=nr rfl
theorem oE(s:St)(t u:Nat):(s.clr t).m u=s.m u:=nr rfl
theorem jT(s:St)(t u:Nat):(s.bump t).v u=s.v u:=nr rfl
theorem jU(s:St)(t u:Nat):(s.bump t).k u=s.k u:=nr rfl
theorem jV(s:St)(t u:Nat):(s.bump t).m u=if u=t then s.m t+1 else s.m u:=nr rfl
theorem oF(s:St)(t u:Nat)(p:A5)(d:D):(s.set (t::p) d).v u=if u=t then DY (s.v t) p d else s.v u:=nr rfl
theorem oG(s:St)(t u:Nat)(p:A5)(d:D):(s.set (t::p) d).k u=s.k u:=nr rfl
theorem oH(s:St)(t u:Nat)(p:A5)(d:D):(s.set (t::p) d).m u=s.m u:=nr rfl
theorem Zy(s:St)(t:Tmp)(d:D):s.putO (some t) d=s.put t d:=nr rfl
theorem Zz(s:St)(d:D):s.putO none d=s:=nr rfl
theorem oI(Y:Sys):Y.env.T=Y.T:=nr rfl
theorem aB(Y:Sys):Y.env.lends=Y.lends:=nr rfl
theorem bu(Y:Sys):Y.env.call=Y.call:=nr rfl
theorem fc(a l:List D)(t:Nat):(entry a l).v t=if t<G then a.getD t .undef else l.getD (t-G) .undef:=nr rfl
theorem fd(a l:List D)(t:Nat):(entry a l).k t=0:=nr rfl
theorem fe(a l:List D)(t:Nat):(entry a l).m t=0:=nr rfl
theorem JQ{r:Ex×St}{Q:Ex→St→Prop}:(∃ex s',some r=some (ex,s')∧Q ex s')=Q r.1 r.2:=
 propext ⟨fun⟨ex,s',h,hq⟩=>by injection h with h;subst h;exact hq,fun h=>⟨r.1,r.2,rfl,h⟩⟩
section
variable (E:Env) (Q:Ex→St→Prop) (s:St)
theorem oJ:Av E .skip Q s=Q .normal s:=JQ
theorem oK(id:Nat):Av E (.exit id) Q s=Q (.exit id) s:=JQ
theorem yD:Av E .ret Q s=Q .ret s:=JQ
theorem yE:Av E (.ops []) Q s=Q .normal s:=JQ
def xc(E:Env)(l:List SOp)(Q:Ex→St→Prop):Option St→Prop
 | some s=>Av E (.ops l) Q s
 | none=>False
theorem yF(l:List SOp):xc E l Q (some s)=Av E (.ops l) Q s:=nr rfl
theorem oL(o:SOp)(l:List SOp):Av E (.ops (o::l)) Q s=xc E l Q (Li E Pm.all s o):=by
 unfold Av
 simp only [CC,bl]
 cases Li E Pm.all s o with
 | none=>simp [xc]
 | some s'=>simp [xc,Av,CC]
theorem oM:Av E (.draws []) Q s=Q .normal s:=JQ
def bv(E:Env)(l:List (PmL×SOp))(Q:Ex→St→Prop):Bool→Option St→Prop
 | true,some s=>Av E (.draws l) Q s
 | _,_=>False
theorem oN(l:List (PmL×SOp)):bv E l Q true (some s)=Av E (.draws l) Q s:=nr rfl
theorem jW(p:PmL)(o:SOp)(l:List (PmL×SOp)):Av E (.draws ((p,o)::l)) Q s=bv E l Q (EA p.pm s o.op) (Li E p.pm s o):=by
 unfold Av
 simp only [CC,W0]
 cases EA p.pm s o.op with
 | true=>
  cases Li E p.pm s o with
  | none=>simp [bv]
  | some s'=>simp [bv,Av,CC]
 | false=>simp [bv]
theorem yG(a b:SC):Av E (.seq a b) Q s=Av E a (W2 E b Q) s:=by
 refine propext ⟨fun⟨ex,s1,h1,h2⟩=> ?_,jM⟩
 simp only [CC]at h1
 cases ha:CC E a s with
 | none=>simp [ha]at h1
 | some q=>
  obtain⟨ex',s2⟩:=q
  cases ex' with
  | normal=>simp only [ha]at h1;exact⟨_,s2,ha,ex,s1,h1,h2⟩
  | exit id=>simp only [ha,Option.some.injEq,Prod.mk.injEq]at h1;obtain⟨rfl,rfl⟩:=h1;exact⟨_,s2,ha,h2⟩
  | ret=>simp only [ha,Option.some.injEq,Prod.mk.injEq]at h1;obtain⟨rfl,rfl⟩:=h1;exact⟨_,s2,ha,h2⟩
def oO(E:Env)(a b:SC)(Q:Ex→St→Prop)(s:St):Option D→Prop
 | some (.bool t)=>if t=true then Av E a Q s else Av E b Q s
 | _=>False
theorem yH(a b:SC)(t:Bool):oO E a b Q s (some (.bool t))=if t=true then Av E a Q s else Av E b Q s:=nr rfl
theorem oP(c:Operand)(a b:SC):Av E (.cond c a b) Q s=oO E a b Q s (ev E.T s 0 c):=by
 unfold Av
 simp only [CC]
 cases ev E.T s 0 c with
 | none=>simp [oO]
 | some d=>cases d with
  | bool t=>cases t<;>simp [oO,Av]
  | _=>simp [oO]
theorem jX(id:Nat)(c:SC):Av E (.block id c) Q s=Av E c (inBlock id Q) s:=by
 refine propext ⟨fun⟨ex,s1,h1,h2⟩=> ?_,bo⟩
 simp only [CC]at h1
 cases ha:CC E c s with
 | none=>simp [ha]at h1
 | some q=>
  obtain⟨ex',s2⟩:=q
  cases ex' with
  | normal=>simp only [ha,Option.some.injEq,Prod.mk.injEq]at h1;obtain⟨rfl,rfl⟩:=h1;exact⟨_,s2,ha,h2⟩
  | exit j=>
   simp only [ha]at h1
   by_cases hj:j=id
   ·simp only [hj,if_true,Option.some.injEq,Prod.mk.injEq]at h1;obtain⟨rfl,rfl⟩:=h1;exact⟨_,s2,ha,by simpa [inBlock,hj] using h2⟩
   ·simp only [hj,if_false,Option.some.injEq,Prod.mk.injEq]at h1;obtain⟨rfl,rfl⟩:=h1;exact⟨_,s2,ha,by simpa [inBlock,hj] using h2⟩
  | ret=>simp only [ha,Option.some.injEq,Prod.mk.injEq]at h1;obtain⟨rfl,rfl⟩:=h1;exact⟨_,s2,ha,h2⟩
theorem jY(b:SC):W2 E b Q .normal s=Av E b Q s:=nr rfl
theorem jZ(b:SC)(id:Nat):W2 E b Q (.exit id) s=Q (.exit id) s:=nr rfl
theorem ja(b:SC):W2 E b Q .ret s=Q .ret s:=nr rfl
theorem yI(id:Nat):inBlock id Q .normal s=Q .normal s:=nr rfl
theorem yJ(id j:Nat):inBlock id Q (.exit j) s=if j=id then Q .normal s else Q (.exit j) s:=nr rfl
theorem yK(id:Nat):inBlock id Q .ret s=Q .ret s:=nr rfl
theorem yM(I:St→Prop):Xs I Q .normal s=I s:=nr rfl
theorem yN(I:St→Prop)(id:Nat):Xs I Q (.exit id) s=Q (.exit id) s:=nr rfl
theorem yO(I:St→Prop):Xs I Q .ret s=Q .ret s:=nr rfl
theorem oQ(T:Tys)(n:Nat)(rs:List ResultVar)(r:D×List D):fin T n rs r .normal s=(RF T n rs s=some r):=nr rfl
theorem oR(T:Tys)(n:Nat)(rs:List ResultVar)(r:D×List D):fin T n rs r .ret s=(RF T n rs s=some r):=nr rfl
end
section
variable (s:St) (dst:Option Tmp) (u:Tmp) (k:IntKind) (n:Int) (b:Bool) (x:ByteArray) (e:TypeId) (xs:List D) (L:A5) (i j c:Nat) (v:Value) (f:FuncId)
theorem oS:B8 s dst (.tmp u) (.int k n)=s.putO dst (.int k n):=nr rfl
theorem jb:B8 s dst (.tmp u) (.bool b)=s.putO dst (.bool b):=nr rfl
theorem oT:B8 s dst (.tmp u) (.str x)=s.putO dst (.str x):=nr rfl
theorem yP:B8 s dst (.tmp u) (.sl e xs)=s.putO dst (.sl e xs):=nr rfl
theorem ff:B8 s dst (.tmp u) (.konst v)=s.putO dst (.konst v):=nr rfl
theorem oU:B8 s dst (.tmp u) (.own e xs)=s.putO dst (.vw [u] (s.k u) (s.m u)):=nr rfl
theorem oV:B8 s dst (.tmp u) (.box xs)=s.putO dst (.vw [u] (s.k u) (s.m u)):=nr rfl
theorem yQ:B8 s dst (.tmp u) (.vw L i j)=s.putO dst (.vw L i j):=nr rfl
theorem yR:B8 s dst (.tmp u) (.pe L c i j)=s.putO dst (.pe L c i j):=nr rfl
theorem jc:B8 s dst (.tmp u) (.cptr xs)=s.putO dst (.cptr xs):=nr rfl
theorem oW:B8 s dst (.tmp u) (.ocl b f xs)=s.putO dst (.ocl b f xs):=nr rfl
theorem oX:B8 s dst (.tmp u) (.clo f xs)=s.putO dst (.clo f xs):=nr rfl
theorem oY:B8 s dst (.tmp u) (.tup xs)=if AF xs then(if AF (HB s u 0 xs)then(s.clr u).putO dst (.tup xs)else s.putO dst (.tup (HB s u 0 xs)))else s.putO dst (.tup xs):=nr rfl
theorem oZ(i:Nat):HB s u i []=[]:=nr rfl
theorem jd(i:Nat)(x:D):HB s u i (x::xs)=HA s u i x::HB s u (i+1) xs:=nr rfl
theorem oa(i:Nat):HA s u i (.agg xs)= .agg (CU s [u,i] 0 xs):=nr rfl
theorem ob(i:Nat):HA s u i (.int k n)= .int k n:=nr rfl
theorem je(i:Nat):HA s u i (.bool b)= .bool b:=nr rfl
theorem oc(i:Nat):HA s u i (.str x)= .str x:=nr rfl
theorem yS(i:Nat):HA s u i (.sl e xs)= .sl e xs:=nr rfl
theorem fg(i:Nat):HA s u i (.konst v)= .konst v:=nr rfl
theorem fh(i:Nat):HA s u i .undef= .undef:=nr rfl
theorem od(i:Nat):HA s u i (.own e xs)= .vw [u,i] (s.k u) (s.m u):=nr rfl
theorem yU(c:Nat)(L:A5):HA s u c (.vw L i j)= .vw L i j:=nr rfl
theorem oe(i:Nat):HA s u i (.box xs)= .vw [u,i] (s.k u) (s.m u):=nr rfl
theorem og(L:A5)(i:Nat):CU s L i []=[]:=nr rfl
theorem jf(L:A5)(i:Nat):CU s L i (.int k n::xs)= .int k n::CU s L (i+1) xs:=nr rfl
theorem fi(L:A5)(i:Nat):CU s L i (.bool b::xs)= .bool b::CU s L (i+1) xs:=nr rfl
theorem jg(L:A5)(i:Nat):CU s L i (.str x::xs)= .str x::CU s L (i+1) xs:=nr rfl
theorem ol(L:A5)(i:Nat)(zs:List D):CU s L i (.sl e zs::xs)= .sl e zs::CU s L (i+1) xs:=nr rfl
theorem bw(L:A5)(i:Nat):CU s L i (.konst v::xs)= .konst v::CU s L (i+1) xs:=nr rfl
theorem bx(L:A5)(i:Nat):CU s L i (.undef::xs)= .undef::CU s L (i+1) xs:=nr rfl
theorem oo(L:A5)(i:Nat)(M:A5)(i2 j2:Nat):CU s L i (.vw M i2 j2::xs)= .vw M i2 j2::CU s L (i+1) xs:=nr rfl
theorem jh(r c:Nat)(i:Nat)(zs:List D):CU s [r,c] i (.own e zs::xs)= .vw [r,c,i] (s.k r) (s.m r)::CU s [r,c] (i+1) xs:=nr rfl
theorem ji(r c:Nat)(i:Nat)(zs:List D):CU s [r,c] i (.box zs::xs)= .vw [r,c,i] (s.k r) (s.m r)::CU s [r,c] (i+1) xs:=nr rfl
theorem oq:B8 s dst (.tmp u) (.agg xs)=if AF xs then(s.clr u).putO dst (.agg xs)else s.putO dst (.agg xs):=nr rfl
variable (pm:Pm)
theorem ot:Ad pm s dst (.tmp u) (.int k n)=some (s.putO dst (.int k n)):=nr rfl
theorem jj:Ad pm s dst (.tmp u) (.bool b)=some (s.putO dst (.bool b)):=nr rfl
theorem ou:Ad pm s dst (.tmp u) (.str x)=some (s.putO dst (.str x)):=nr rfl
theorem yV:Ad pm s dst (.tmp u) (.sl e xs)=some (s.putO dst (.sl e xs)):=nr rfl
theorem fj:Ad pm s dst (.tmp u) (.konst v)=some (s.putO dst (.konst v)):=nr rfl
theorem ov:Ad pm s dst (.tmp u) (.own e xs)=some ((s.clr u).putO dst (.own e xs)):=nr rfl
theorem ox:Ad pm s dst (.tmp u) (.box xs)=some ((s.clr u).putO dst (.box xs)):=nr rfl
theorem oy(r:Nat):Ad pm s dst (.tmp u) (.vw [r] i j)=(KP pm s [r] i j).map fun q=>q.2.putO dst q.1:=nr rfl
def xd(_s:St)(dst:Option Tmp)(a:Option (D×St))(b:Option St):Bool→Option St
 | true=>a.map fun q=>q.2.putO dst q.1
 | false=>b
theorem yW(a:Option (D×St))(b:Option St):xd s dst a b true=a.map fun q=>q.2.putO dst q.1:=nr rfl
theorem yX(a:Option (D×St))(b:Option St):xd s dst a b false=b:=nr rfl
theorem oz(r r':Nat)(p:A5):Ad pm s dst (.tmp u) (.vw (r::r'::p) i j)=xd s dst (At pm s (.vw (r::r'::p) i j)) (some (s.putO dst (.vw (r::r'::p) i j))) (gY pm s r):=by
 by_cases h:gY pm s r=true
 ·have h':Ss pm s (.vw (r::r'::p) i j)=true:=h
  unfold Ad
  simp only [h',h,if_true]
  rfl
 ·have h':Ss pm s (.vw (r::r'::p) i j)=false:=Bool.eq_false_iff.mpr h
  unfold Ad
  simp only [h',Bool.eq_false_iff.mpr h]
  rfl
theorem yY(r:Nat):gY pm s r=(pm.rd r&&VC (s.v r)):=nr rfl
theorem p5:VC (.tup xs)=true:=nr rfl
theorem p6:VC (.agg xs)=false:=nr rfl
theorem p7:VC (.own e xs)=false:=nr rfl
theorem p8:VC (.box xs)=false:=nr rfl
theorem yZ:VC (.vw L i j)=false:=nr rfl
theorem tqU:VC .undef=false:=nr rfl
theorem p9:V8 pm s (.int k n)=false:=nr rfl
theorem jk:V8 pm s (.bool b)=false:=nr rfl
theorem pA:V8 pm s (.str x)=false:=nr rfl
theorem ya:V8 pm s (.sl e xs)=false:=nr rfl
theorem pB:V8 pm s (.own e xs)=false:=nr rfl
theorem pC(r:Nat):V8 pm s (.vw [r] i j)=false:=nr rfl
theorem pF(r r':Nat)(p:A5):V8 pm s (.vw (r::r'::p) i j)=gY pm s r:=nr rfl
theorem pG:V8 pm s (.clo f xs)=false:=nr rfl
theorem yb:Ad pm s dst (.tmp u) (.pe L c i j)=some (s.putO dst (.pe L c i j)):=nr rfl
theorem jl:Ad pm s dst (.tmp u) (.cptr xs)=some (s.putO dst (.cptr xs)):=nr rfl
theorem pH:Ad pm s dst (.tmp u) (.clo f xs)=some (s.putO dst (.clo f xs)):=nr rfl
theorem pI:Ad pm s dst (.tmp u) (.tup xs)=some (if AF xs then(s.clr u).putO dst (.tup xs)else s.putO dst (.tup xs)):=nr rfl
theorem pJ:Ad pm s dst (.tmp u) (.agg xs)=xd s dst (At pm s (.agg xs)) (some (if AF xs then(s.clr u).putO dst (.agg xs)else s.putO dst (.agg xs))) (!AF xs&&xs.any (V8 pm s)):=by
 by_cases h:(!AF xs&&xs.any (V8 pm s))=true
 ·have h':Ss pm s (.agg xs)=true:=h
  unfold Ad
  simp only [h',h,if_true]
  rfl
 ·have h':Ss pm s (.agg xs)=false:=Bool.eq_false_iff.mpr h
  unfold Ad
  simp only [h',Bool.eq_false_iff.mpr h]
  rfl
end
section
variable (k:IntKind) (x y:Int) (p q:Bool) (a b:ByteArray)
theorem pK:Bj .add (.int k x) (.int k y)=some (.int k (k.wrap (x+y))):=by simp [Bj]
theorem pM:Bj .sub (.int k x) (.int k y)=some (.int k (k.wrap (x-y))):=by simp [Bj]
theorem pO:Bj .mul (.int k x) (.int k y)=some (.int k (k.wrap (x*y))):=by simp [Bj]
theorem pP:Bj .quo (.int k x) (.int k y)=if y=0 then none else some (.int k (k.wrap (x.tdiv y))):=by simp [Bj]
theorem pQ:Bj .rem (.int k x) (.int k y)=if y=0 then none else some (.int k (x.tmod y)):=by simp [Bj]
theorem pR:Bj .and (.int k x) (.int k y)=some (.int k (Gp .and k x y)):=by simp [Bj]
theorem yc:Bj .or (.int k x) (.int k y)=some (.int k (Gp .or k x y)):=by simp [Bj]
theorem pS:Bj .xor (.int k x) (.int k y)=some (.int k (Gp .xor k x y)):=by simp [Bj]
theorem bz:Bj .andNot (.int k x) (.int k y)=some (.int k (Gp .andNot k x y)):=by simp [Bj]
theorem pT(k':IntKind):Bj .shl (.int k x) (.int k' y)=if y<0 then none else some (.int k (k.wrap (x*2 ^ (min y.toNat k.bits)))):=by simp [Bj]
theorem pU(k':IntKind):Bj .shr (.int k x) (.int k' y)=if y<0 then none else some (.int k (x.fdiv (2 ^ (min y.toNat k.bits)))):=by simp [Bj]
theorem yd:Bj .eql (.int k x) (.int k y)=some (.bool (decide (x=y))):=by simp [Bj];rfl
theorem ye:Bj .neq (.int k x) (.int k y)=some (.bool (!decide (x=y))):=by simp [Bj];rfl
theorem yf:Bj .lss (.int k x) (.int k y)=some (.bool (decide (x<y))):=by simp [Bj]
theorem yg:Bj .leq (.int k x) (.int k y)=some (.bool (decide (x≤y))):=by simp [Bj]
theorem yh:Bj .gtr (.int k x) (.int k y)=some (.bool (decide (y<x))):=by simp [Bj]
theorem yi:Bj .geq (.int k x) (.int k y)=some (.bool (decide (y≤x))):=by simp [Bj]
theorem pV:Bj .eql (.bool p) (.bool q)=some (.bool (p==q)):=nr rfl
theorem pW:Bj .neq (.bool p) (.bool q)=some (.bool (!(p==q))):=nr rfl
theorem pX:Bj .eql (.str a) (.str b)=some (.bool (a.toList==b.toList)):=nr rfl
theorem pY:Bj .neq (.str a) (.str b)=some (.bool (!(a.toList==b.toList))):=nr rfl
theorem pZ:Bj .lss (.str a) (.str b)=some (.bool (Op.bytesLess a.toList b.toList)):=nr rfl
theorem jm:Bj .add (.str a) (.str b)=if a.size+b.size<1099511627776 then some (.str (a++b))else none:=nr rfl
theorem pa:gX .not (.bool p)=some (.bool (!p)):=nr rfl
theorem pb:gX .neg (.int k x)=some (.int k (k.wrap (0-x))):=nr rfl
theorem boI(T:Tys)(t:TypeId):J9 T t (.int k x)=true:=nr rfl
theorem boS(T:Tys)(t:TypeId):J9 T t (.str a)=true:=nr rfl
theorem boB(T:Tys)(t:TypeId):J9 T t (.bool p)=match T.ty t with | .bool=>true | _=>false:=nr rfl
theorem boA(T:Tys)(t:TypeId)(k l:IntKind)(x y:Int):J9 T t (.agg [.int k x, .int l y])=Yy T k l (T.ty t):=nr rfl
theorem jn(T:Tys)(k l:IntKind)(a b:TypeId):Yy T k l (.struct [a,b])=(XE k (T.ty a)&&XE l (T.ty b)):=nr rfl
theorem pc(k:IntKind):XE k (.int k)=true:=by simp [XE]
theorem pd(k l:IntKind)(a b c d:Int):Bj .eql (.agg [.int k a, .int l b]) (.agg [.int k c, .int l d])=some (.bool ((a==c)&&(b==d))):=by simp [Bj]
theorem pf(k l:IntKind)(a b c d:Int):Bj .neq (.agg [.int k a, .int l b]) (.agg [.int k c, .int l d])=some (.bool (!((a==c)&&(b==d)))):=by simp [Bj]
end
def BP(xs:List Int):List D:=xs.map (D.int .i64)
theorem BZ(xs:List Int):(BP xs).length=xs.length:=by simp [BP]
theorem cA(xs:List Int)(i:Nat):(BP xs)[i]? =(xs[i]?).map (D.int .i64):=by simp [BP]
theorem Q5(xs:List Int):BR (BP xs)=false:=by
 induction xs with
 | nil=>rfl
 | cons x xs ih=>simp only [BP,List.map_cons,BR,BQ,Bool.false_or];exact ih
theorem W6(xs:List Int):AF (BP xs)=false:=by
 induction xs with
 | nil=>rfl
 | cons x xs ih=>simp only [BP,List.map_cons,AF,D.hasObj,Bool.false_or];exact ih
theorem W7(xs:List Int):BI (BP xs)=some (BP xs):=by
 induction xs with
 | nil=>rfl
 | cons x xs ih=>simp only [BP,List.map_cons,BI,Bz,Option.bind_some]at ih ⊢;rw [ih];rfl
theorem Xw(xs:List Int):(BP xs).all Ax=true:=by simp [BP,Ax]
end Dv
namespace Dv
open Go
def zB:Value→Value→Bool
 | .int k n, .int k' n'=>decide (k=k')&&decide (n=n')
 | .bool b, .bool b'=>b==b'
 | .string s, .string s'=>s.size==0&&s'.size==0
 | .slice none 0 0, .slice none 0 0=>true
 | .nilFunc, .nilFunc=>true
 | .pointer none, .pointer none=>true
 | _,_=>false
theorem gd{a b:Value}(h:zB a b=true):a=b:=by
 unfold zB at h
 split at h
 ·simp only [Bool.and_eq_true,decide_eq_true_eq]at h;rw [h.1,h.2]
 ·simp only [beq_iff_eq]at h;rw [h]
 ·simp only [Bool.and_eq_true,beq_iff_eq]at h
  rename_i s s'
  have: ∀t:ByteArray,t.size=0→t=ByteArray.empty:=by
   intro t ht
   obtain⟨d⟩:=t
   have:d= #[]:=Array.size_eq_zero_iff.1 ht
   rw [this];rfl
  rw [this s h.1,this s' h.2]
 ·rfl
 ·rfl
 ·rfl
 ·cases h
def xe:List Value→List Value→Bool
 | [],[]=>true
 | a::as,b::bs=>zB a b&&xe as bs
 | _,_=>false
theorem cB: ∀ {a b:List Value},xe a b=true→a=b
 | [],[],_=>rfl
 | [],_::_,h=>by cases h
 | _::_,[],h=>by cases h
 | a::as,b::bs,h=>by
  simp only [xe,Bool.and_eq_true]at h
  rw [gd h.1,cB h.2]
def Mg(P:Program)(t:TypeId)(n:Nat)(z:Value):Bool:=
 match P.info? t with
 | some i=>(i.size==n)&&(decide (4<n)||decide (i.bytes≤128))&&(match i.zero,z with | some (.agg a), .agg b=>xe a.toList b.toList | some v,z=>zB v z | _,_=>false)
 | none=>false
theorem IL{P:Program}{t:TypeId}{n:Nat}{z:Value}(h:Mg P t n z=true):Jo P t n z:=by
 unfold Mg at h
 split at h
 ·rename_i i hi
  simp only [Bool.and_eq_true,Bool.or_eq_true,beq_iff_eq,decide_eq_true_eq]at h
  refine⟨i,hi,h.1.1, ?_,fun h4=>h.1.2.resolve_left (by omega)⟩
  have h2:=h.2
  split at h2
  ·rename_i a b hz
   rw [hz]
   have:=cB h2
   rw [←Array.toArray_toList (xs:=a),this]
  ·rename_i v z' hz _
   rw [hz,gd h2]
  ·cases h2
 ·cases h
def TO(P:Program)(T:Tys)(t:TypeId):Bool:=
 match T.ty t with
 | .int k=>(match P.underlying t with | some (.int k')=>decide (k'=k) | _=>false)&&Mg P t 1 (.int k 0)
 | .bool=>(match P.underlying t with | some .bool=>true | _=>false)&&Mg P t 1 (.bool false)
 | .string=>(match P.underlying t with | some .string=>true | _=>false)&&Mg P t 1 (.string ByteArray.empty)
 | .slice e=>(match P.underlying t with | some (.slice e')=>e'==e | _=>false)&&Mg P t 1 (.slice none 0 0)
 | .struct fs=>(match P.underlying t with
   | some (.struct fields)=>
    match T.nest t with
    | none=>(fields.size==fs.length)&&(List.range fields.size).all (fun j=>match fields[j]?,fs[j]? with | some f,some g=>(f.offset==j)&&(f.type==g)&&T.known g&& !T.isStruct g | _,_=>false)
    | some fl=>decide (4<fs.length)&&(fields.size==fl.length)&&(List.range fields.size).all (fun j=>match fields[j]?,fl[j]? with | some f,some g=>(f.offset==g.1)&&(f.type==g.2)&&T.known g.2 | _,_=>false)
   | _=>false)&&Mg P t fs.length (.agg (fs.map (FR T)).toArray)
 | .func=>(match P.underlying t with | some (.func ..)=>true | _=>false)&&Mg P t 1 .nilFunc
 | .ptr=>(match P.underlying t with | some (.pointer _)=>true | _=>false)&&Mg P t 1 (.pointer none)
 | .map k e=>match P.underlying t with | some (.map k' e')=>(k'==k)&&(e'==e) | _=>false
 | .other=>true
theorem Xx{P:Program}{T:Tys}{t:TypeId}(h:TO P T t=true):Dd P T t:=by
 unfold TO at h
 unfold Dd
 cases hty:T.ty t<;>rw [hty]at h<;>simp only [Bool.and_eq_true]at h ⊢
 case int k=>
  refine⟨?_,IL h.2⟩
  have h1:=h.1
  split at h1
  ·rename_i k' hu;rw [hu];simp only [decide_eq_true_eq]at h1;rw [h1]
  ·cases h1
 case bool=>
  refine⟨?_,IL h.2⟩
  have h1:=h.1
  split at h1
  ·assumption
  ·cases h1
 case string=>
  refine⟨?_,IL h.2⟩
  have h1:=h.1
  split at h1
  ·assumption
  ·cases h1
 case map k e=>
  split at h
  ·rename_i k' e' hu;rw [hu];simp only [Bool.and_eq_true,beq_iff_eq]at h;rw [h.1,h.2]
  ·cases h
 case slice e=>
  refine⟨?_,IL h.2⟩
  have h1:=h.1
  split at h1
  ·rename_i k' hu;rw [hu];simp only [beq_iff_eq]at h1;rw [h1]
  ·cases h1
 case struct fs=>
  refine⟨?_,IL h.2⟩
  have h1:=h.1
  split at h1
  ·rename_i fields hu
   refine⟨fields,hu, ?_⟩
   cases hn:T.nest t with
   | none=>
    simp only [hn,Bool.and_eq_true,beq_iff_eq,List.all_eq_true,List.mem_range]at h1 ⊢
    refine⟨h1.1,fun j f hf=> ?_⟩
    have hlt:=(Array.getElem?_eq_some_iff.1 hf).1
    have:=h1.2 j hlt
    rw [hf]at this
    split at this
    ·rename_i f' g hf' hg
     simp only [Option.some.injEq]at hf'
     subst hf'
     simp only [Bool.and_eq_true,beq_iff_eq,Bool.not_eq_true']at this
     obtain⟨⟨⟨q1,q2⟩,q3⟩,q4⟩:=this
     subst q2
     exact⟨q1,hg,q3,q4⟩
    ·cases this
   | some fl=>
    simp only [hn,Bool.and_eq_true,beq_iff_eq,List.all_eq_true,List.mem_range,decide_eq_true_eq]at h1 ⊢
    refine⟨h1.1.1,h1.1.2,fun j f hf=> ?_⟩
    have hlt:=(Array.getElem?_eq_some_iff.1 hf).1
    have:=h1.2 j hlt
    rw [hf]at this
    split at this
    ·rename_i f' g hf' hg
     simp only [Option.some.injEq]at hf'
     subst hf'
     simp only [Bool.and_eq_true,beq_iff_eq]at this
     obtain⟨⟨q1,q2⟩,q3⟩:=this
     refine⟨?_,by rw [q2];exact q3⟩
     rw [hg,q1,q2]
    ·cases this
  ·cases h1
 case func=>
  refine⟨?_,IL h.2⟩
  have h1:=h.1
  split at h1
  ·exact⟨_,_,_,by assumption⟩
  ·cases h1
 case ptr=>
  refine⟨?_,IL h.2⟩
  have h1:=h.1
  split at h1
  ·exact⟨_,by assumption⟩
  ·cases h1
def aD(et:List Ty)(ge:List (TypeId×List (Nat×TypeId))):Tys:={ty:=fun t=>et.getD t .other,nest:=fun t=>ge.lookup t}
theorem jo{P:Program}{et:List Ty}{ge:List (TypeId×List (Nat×TypeId))}(h:((List.range et.length).all fun t=>TO P (aD et ge) t&&fI P (aD et ge) t)=true):B7 P (aD et ge):=by
 intro t
 rcases Nat.lt_or_ge t et.length with ht | ht
 ·have:=List.all_eq_true.1 h t (List.mem_range.2 ht)
  rw [Bool.and_eq_true]at this
  exact⟨Xx this.1,this.2⟩
 ·have:(aD et ge).ty t= .other:=by simp [aD,List.getD_eq_getElem?_getD,List.getElem?_eq_none ht]
  refine⟨?_, ?_⟩
  ·unfold Dd
   rw [this];trivial
  ·unfold fI
   rw [this]
theorem AC{Y:Sys}{f:FuncId}{fn:Func}{k:SC}{a l:List D}{r:D×List D}(hb:Y.base f a l=none)(hf:Y.P.funcs[f]? =some fn)(hok:As fn a.length=true)
  (hk:fn.body.map (Am Y.lends)=some k)(h:Av Y.env k (fin Y.T l.length fn.results.toList r) (entry a l)):Y.call f a l=some r:=by
 obtain⟨c,hc,hk⟩:=Option.map_eq_some_iff.1 hk
 exact Sys.call_wp hb hf hok hc hk h
end Dv
namespace Dv
open Go
section
variable (E:Env) (pm:Pm) (s:St) (dst:Option Tmp) (ty:TypeId) (u:Tmp) (t:TypeId)
theorem Gu(o:Option D):(o.map fun r=>s.putO dst r)=H9 s dst o:=by cases o<;>rfl
theorem IM(o:Option (D×St)):(o.map fun r=>r.2.putO dst r.1)=Q4 dst o:=by cases o<;>rfl
theorem pg:IA E pm s dst (.move (.tmp u)) ty=some (B8 s dst (.tmp u) (s.v u)):=nr rfl
def eu(pm:Pm):Option Tmp→Option St→Option St
 | some t,some s1=>Gc pm s1 (some t)
 | _,_=>none
def frC(s1:St)(t:Tmp):Option D→Option St
 | some c=>some (s1.set [t] c)
 | none=>none
theorem yj(s1:St)(t:Tmp)(h1:pm.rd t=true)(h2:pm.wr t=true):eu pm (some t) (some s1)=frC s1 t (Bz (s1.v t)):=by
 show(if pm.rd t&&pm.wr t then(Bz (s1.v t)).map fun c=>s1.set [t] c else none)=_
 rw [h1,h2]
 cases Bz (s1.v t)<;>rfl
theorem yk(s1:St)(u:Tmp)(b:Bool):fbC pm s1 u (.bool b)=if b=true then some s1 else eu pm (some u) (some s1):=by
 cases b<;>rfl
theorem yl(s1:St)(t:Tmp)(c:D):frC s1 t (some c)=some (s1.set [t] c):=nr rfl
def ym(pm:Pm):Option Tmp→Option St→Option St
 | some t,some s1=>O9 pm s1 (some t)
 | _,_=>none
def yn(s1:St)(t:Tmp)(e:TypeId):Option (List D)→Option St
 | some ys=>some (s1.set [t] (.own e ys))
 | none=>none
def yo(s1:St)(t:Tmp):D→Option St
 | .own e xs=>yn s1 t e (BI xs)
 | _=>none
theorem yp(s1:St)(t:Tmp)(h1:pm.rd t=true)(h2:pm.wr t=true):ym pm (some t) (some s1)=yo s1 t (s1.v t):=by
 show O9 pm s1 (some t)=_
 unfold O9 yo
 dsimp only
 rw [h1,h2]
 cases s1.v t with
 | own e xs=>simp only [Bool.and_self,if_true];cases BI xs<;>rfl
 | _=>rfl
theorem yq(s1:St)(t:Tmp)(e:TypeId)(xs:List D):yo s1 t (.own e xs)=yn s1 t e (BI xs):=nr rfl
theorem yr(s1:St)(t:Tmp)(e:TypeId)(ys:List D):yn s1 t e (some ys)=some (s1.set [t] (.own e ys)):=nr rfl
theorem fk:IA E pm s dst (.assign (.tmp u)) ty=if ty=900003 then eu pm dst (Ad pm s dst (.tmp u) (s.v u))else if ty<1000000 then Ad pm s dst (.tmp u) (s.v u)else eu pm dst (Ad pm s dst (.tmp u) (s.v u)):=by
 have hfr:((Ad pm s dst (.tmp u) (s.v u)).bind fun s1=>Gc pm s1 dst)=eu pm dst (Ad pm s dst (.tmp u) (s.v u)):=by
  rcases Ad pm s dst (.tmp u) (s.v u)with _ | s1<;>cases dst<;>rfl
 show(if b4 ty=true then(Ad pm s dst (.tmp u) (s.v u)).bind fun s1=>Gc pm s1 dst else Ad pm s dst (.tmp u) (s.v u))=_
 rw [hfr]
 unfold b4
 by_cases h1:ty=900003
 ·rw [if_pos h1,if_pos h1];rfl
 ·rw [if_neg h1,if_neg h1]
  by_cases h2:ty<1000000
  ·rw [if_pos h2,if_pos h2];rfl
  ·rw [if_neg h2,if_neg h2];rfl
theorem cC(v:Value):IA E pm s dst (.assign (.const v)) ty=if ty=900003 then eu pm dst (H9 s dst (ev E.T s ty (.const v)))else if ty<1000000 then H9 s dst (ev E.T s ty (.const v))else eu pm dst (H9 s dst (ev E.T s (ty-1000000) (.const v))):=by
 have hfr: ∀t,((ev E.T s t (.const v)).bind fun d=>(Ad pm s dst (.const v) d).bind fun s1=>Gc pm s1 dst)=eu pm dst (H9 s dst (ev E.T s t (.const v))):=by
  intro t
  cases ev E.T s t (.const v)<;>cases dst<;>rfl
 have hno: ∀t,((ev E.T s t (.const v)).bind fun d=>Ad pm s dst (.const v) d)=H9 s dst (ev E.T s t (.const v)):=by
  intro t
  cases ev E.T s t (.const v)<;>rfl
 show((ev E.T s (jB ty) (.const v)).bind fun d=>if b4 ty=true then(Ad pm s dst (.const v) d).bind fun s1=>Gc pm s1 dst else Ad pm s dst (.const v) d)=_
 unfold b4 jB
 by_cases h1:ty=900003
 ·simp only [if_pos h1,if_true];exact hfr _
 ·by_cases h2:ty<1000000
  ·simp only [if_neg h1,if_pos h2,Bool.false_eq_true,if_false];exact hno _
  ·simp only [if_neg h1,if_neg h2,if_true];exact hfr _
theorem jp(v:Value):IA E pm s dst (.move (.const v)) ty=H9 s dst (ev E.T s ty (.const v)):=by
 show((ev E.T s ty (.const v)).map fun d=>B8 s dst (.const v) d)=_
 cases ev E.T s ty (.const v)<;>rfl
theorem ph:IA E pm s dst (.load t (.tmp u)) ty=H9 s dst (CJ E.T pm s t (.tmp u) (s.v u)):=Gu s dst _
theorem yUn(op:UnOp):IA E pm s dst (.unOp op t (.tmp u)) ty=H9 s dst (gX op (s.v u)):=Gu s dst _
theorem jq(i:Nat):IA E pm s dst (.fieldAddr t (.tmp u) i) ty=H9 s dst (D1 E.T pm s t (.tmp u) (s.v u) i):=Gu s dst _
theorem yt:IA E pm s dst (.call ⟨.builtin .len, #[.tmp u], #[t]⟩) ty=H9 s dst (KE E.T pm s t (.tmp u) (s.v u)):=Gu s dst _
theorem cD(i:Nat):IA E pm s dst (.extract (.tmp u) i) ty=Fe s dst (.tmp u) (s.v u) i:=nr rfl
def slC(T:Tys)(pm:Pm)(s:St)(dst:Option Tmp)(t:TypeId)(x:Operand)(hi:Option Operand):Option Operand→Option Operand→Option St
 | none,none=>Q4 dst (KQ T pm s t x hi)
 | _,_=>none
theorem yu(T:Tys)(x:Operand)(hi:Option Operand):slC T pm s dst t x hi none none=Q4 dst (KQ T pm s t x hi):=nr rfl
def slF(T:Tys)(pm:Pm)(s:St)(dst:Option Tmp)(t:TypeId)(x:Operand)(lo:Option Operand):Option Operand→Option Operand→Option St
 | none,none=>Q4 dst (ID T pm s t x lo)
 | _,_=>none
theorem yv(T:Tys)(x:Operand)(lo:Option Operand):slF T pm s dst t x lo none none=Q4 dst (ID T pm s t x lo):=nr rfl
theorem jr(lo hi mx:Option Operand):IA E pm s dst (.slice t (.tmp u) lo hi mx) ty=
  if ty=900002 then slC E.T pm s dst t (.tmp u) hi lo mx
  else if ty=900005 then slF E.T pm s dst t (.tmp u) lo hi mx
  else if ty=900001 then Q4 dst (Fd E.T pm.see s t (.tmp u) (s.v u) lo hi mx)else Q4 dst (Fd E.T pm s t (.tmp u) (s.v u) lo hi mx):=by
 show(if ty=900002 then(if lo.isNone&&mx.isNone then(KQ E.T pm s t (.tmp u) hi).map fun r=>r.2.putO dst r.1 else none)
  else if ty=900005 then(if hi.isNone&&mx.isNone then(ID E.T pm s t (.tmp u) lo).map fun r=>r.2.putO dst r.1 else none)
  else(ev E.T s t (.tmp u)).bind fun d=>(Fd E.T (if ty=900001 then pm.see else pm) s t (.tmp u) d lo hi mx).map fun r=>r.2.putO dst r.1)=_
 split
 ·cases lo<;>cases mx<;>first | rfl | exact IM dst _
 ·split
  ·cases hi<;>cases mx<;>first | rfl | exact IM dst _
  ·split
   ·exact IM dst _
   ·exact IM dst _
def pi(T:Tys)(pm:Pm)(s:St)(t:TypeId)(x y:Operand)(d:D):Option (D×St):=if jA (some d)then IE T pm s t x else DZ T pm s t x y
theorem fm(x:Operand)(v:Tmp):IA E pm s dst (.call ⟨.builtin .append, #[x, .tmp v], #[t,t]⟩) ty=Q4 dst (pi E.T pm s t x (.tmp v) (s.v v)):=by
 rw [Xv,if_pos rfl,IM];rfl
def yw(mx:Bool):Option D→Option D→Option D
 | some a,some b=>OS mx a b
 | _,_=>none
theorem yx(mx:Bool)(a b:D):yw mx (some a) (some b)=OS mx a b:=nr rfl
theorem pj(k:IntKind)(x y:Int):OS false (.int k x) (.int k y)=some (.int k (Sp x y)):=by simp [OS]
theorem pl(k:IntKind)(x y:Int):OS true (.int k x) (.int k y)=some (.int k (Yx x y)):=by simp [OS]
theorem yy(x y:Operand)(t':TypeId):IA E pm s dst (.call ⟨.builtin .min, #[x,y], #[t,t']⟩) ty=H9 s dst (yw false (ev E.T s t x) (ev E.T s t' y)):=by
 show(match ev E.T s t x,ev E.T s t' y with | some a,some b=>(OS false a b).map fun r=>s.putO dst r | _,_=>none)=_
 cases ev E.T s t x<;>cases ev E.T s t' y<;>first | rfl | exact Gu s dst _
theorem yz(x y:Operand)(t':TypeId):IA E pm s dst (.call ⟨.builtin .max, #[x,y], #[t,t']⟩) ty=H9 s dst (yw true (ev E.T s t x) (ev E.T s t' y)):=by
 show(match ev E.T s t x,ev E.T s t' y with | some a,some b=>(OS true a b).map fun r=>s.putO dst r | _,_=>none)=_
 cases ev E.T s t x<;>cases ev E.T s t' y<;>first | rfl | exact Gu s dst _
theorem z6(T:Tys)(x y:Operand)(e:TypeId)(xs:List D):pi T pm s t x y (.sl e xs)=DZ T pm s t x y:=nr rfl
theorem pn(T:Tys)(x y:Operand)(e:TypeId)(xs:List D):pi T pm s t x y (.own e xs)=DZ T pm s t x y:=nr rfl
theorem z7(T:Tys)(x y:Operand)(L:A5)(n m:Nat):pi T pm s t x y (.vw L n m)=DZ T pm s t x y:=nr rfl
theorem apK(T:Tys)(x y:Operand)(A:Option Addr)(c:Nat):pi T pm s t x y (.konst (.slice A 0 c))=IE T pm s t x:=nr rfl
def ix1(T:Tys)(pm:Pm)(s:St)(t:TypeId)(x:Operand)(d:D):Option D→Option D
 | some i=>NR T pm s t x d i
 | none=>none
theorem z8(T:Tys)(x:Operand)(d i:D):ix1 T pm s t x d (some i)=NR T pm s t x d i:=nr rfl
theorem jt(i:Operand):IA E pm s dst (.indexAddr t (.tmp u) i) ty=H9 s dst (ix1 E.T pm s t (.tmp u) (s.v u) (ev E.T s 0 i)):=by
 show(match some (s.v u),ev E.T s 0 i with
  | some a,some b=>(NR E.T pm s t (.tmp u) a b).map fun r=>s.putO dst r
  | _,_=>none)=_
 cases ev E.T s 0 i with
 | none=>rfl
 | some b=>exact Gu s dst _
def mk1(T:Tys)(t:TypeId):Option D→Option D→Option D
 | some a,some b=>E9 T t a b
 | _,_=>none
theorem zA(T:Tys)(a b:D):mk1 T t (some a) (some b)=E9 T t a b:=nr rfl
theorem po(l c:Operand):IA E pm s dst (.makeSlice t l c) ty=H9 s dst (mk1 E.T t (ev E.T s 0 l) (ev E.T s 0 c)):=by
 show(match ev E.T s 0 l,ev E.T s 0 c with
  | some a,some b=>(E9 E.T t a b).map fun r=>s.putO dst r
  | _,_=>none)=_
 cases ev E.T s 0 l<;>cases ev E.T s 0 c<;>first | rfl | exact Gu s dst _
def zC(s:St)(dst:Option Tmp):Option D→Ty→Option St
 | some (.int _ n), .int k=>some (s.putO dst (.int k (k.wrap n)))
 | some (.str b), .string=>some (s.putO dst (.str b))
 | _,_=>none
theorem zD(k k':IntKind)(n:Int):zC s dst (some (.int k n)) (.int k')=some (s.putO dst (.int k' (k'.wrap n))):=nr rfl
theorem zE(b:ByteArray):zC s dst (some (.str b)) .string=some (s.putO dst (.str b)):=nr rfl
theorem cE(src d:TypeId)(x:Operand):IA E pm s dst (.convert src d x) ty=if E.T.known src then zC s dst (ev E.T s src x) (E.T.ty d)else none:=by
 rw [W5]
 split
 ·rcases ev E.T s src x with _ | d'<;>cases E.T.ty d<;>first | rfl | (cases d'<;>rfl)
 ·rfl
theorem pp(f:FuncId)(args:Array Operand)(ts:Array TypeId)(h:args.size=ts.size):IA E pm s dst (.call ⟨.value (.func f),args,ts⟩) ty=GH E pm s dst f (args.toList.zip ts.toList) []:=by
 rw [bt,if_pos h]
end
section
variable {T:Tys} {pm:Pm} {s:St} {t:TypeId}
theorem ldC(x:Operand)(xs:List D)(hk:T.known t=true)(hs:T.isStruct t=false):CJ T pm s t x (.cptr xs)=xs[0]? :=by simp [CJ,hk,hs]
theorem zF(x:Operand)(xs:List D)(hk:T.known t=true)(hs:T.isStruct t=true):CJ T pm s t x (.cptr xs)=if T.size t≤xs.length then some (.agg (xs.take (T.size t)))else none:=by simp [CJ,hk,hs]
def Kf(s:St)(L:A5)(c:Nat):Option D→Option D
 | some o=>(o.cells[c]?).bind fun x=>Ay (CO s L c x)
 | none=>none
def cellsOf(s:St)(L:A5)(c n:Nat):Option D→Option D
 | some o=>if c+n≤o.cells.length then Ay (.agg ((List.range n).map fun i=>CO s L (c+i) (o.cells.getD (c+i) .undef)))else none
 | none=>none
theorem ldP(x:Operand)(L:A5)(c n m:Nat)(hk:T.known t=true)(hs:T.isStruct t=false):CJ T pm s t x (.pe L c n m)=Kf s L c (s.look pm L n m):=by
 simp only [CJ,hk,hs,if_true,EW]
 cases s.look pm L n m<;>simp [Kf]
theorem zG(x:Operand)(L:A5)(c n m:Nat)(hk:T.known t=true)(hs:T.isStruct t=true):CJ T pm s t x (.pe L c n m)=cellsOf s L c (T.size t) (s.look pm L n m):=by
 simp only [CJ,hk,hs,if_true,EW]
 cases s.look pm L n m<;>simp [cellsOf]
theorem ldB(u:Tmp)(xs:List D)(hk:T.known t=true)(hs:T.isStruct t=false):CJ T pm s t (.tmp u) (.box xs)=Kf s [u] 0 (some (.box xs)):=by
 simp only [CJ,hk,hs,if_true,EW]
 simp [Kf]
theorem zH(u:Tmp)(xs:List D)(hk:T.known t=true)(hs:T.isStruct t=true):CJ T pm s t (.tmp u) (.box xs)=cellsOf s [u] 0 (T.size t) (some (.box xs)):=by
 simp only [CJ,hk,hs,if_true,EW]
 simp [cellsOf]
def Kg(s:St)(pm:Pm)(L:A5)(n m:Nat):Option D:=
 match s.look pm L n m with
 | some (.box xs)=>some (.box xs)
 | _=>none
theorem ldV(x:Operand)(L:A5)(n m:Nat)(hk:T.known t=true)(hs:T.isStruct t=false):CJ T pm s t x (.vw L n m)=Kf s L 0 (Kg s pm L n m):=by
 simp only [CJ,hk,hs,if_true,EW,Kg]
 cases s.look pm L n m with
 | none=>simp [Kf]
 | some o=>cases o<;>simp [Kf]
theorem zI(x:Operand)(L:A5)(n m:Nat)(hk:T.known t=true)(hs:T.isStruct t=true):CJ T pm s t x (.vw L n m)=cellsOf s L 0 (T.size t) (Kg s pm L n m):=by
 simp only [CJ,hk,hs,if_true,EW,Kg]
 cases s.look pm L n m with
 | none=>simp [cellsOf]
 | some o=>cases o<;>simp [cellsOf]
def W8:D→Option D
 | .own e xs=>some (.own e xs)
 | .box xs=>some (.box xs)
 | _=>none
theorem ju(e:TypeId)(xs:List D):W8 (.own e xs)=some (.own e xs):=nr rfl
theorem jv(xs:List D):W8 (.box xs)=some (.box xs):=nr rfl
theorem pq(u n m:Nat):s.look pm [u] n m=if pm.rd u&&(s.k u==n)then W8 (s.v u)else none:=by
 simp only [St.look,List.isEmpty_nil,Bool.true_or,Bool.and_true,Ai]
 split
 ·cases s.v u<;>rfl
 ·rfl
def pr:Option D→Option D
 | some d=>W8 d
 | none=>none
theorem pt(u c n m:Nat)(p:A5):s.look pm (u::c::p) n m=if pm.rd u&&(s.k u==n)&&(s.m u==m)then pr (Ai (s.v u) (c::p))else none:=by
 simp only [St.look,List.isEmpty_cons,Bool.false_or]
 split
 ·cases Ai (s.v u) (c::p)with
  | none=>rfl
  | some d=>cases d<;>rfl
 ·rfl
theorem pu(d:D):pr (some d)=W8 d:=nr rfl
theorem zJ(x:Operand)(e:TypeId)(xs:List D):B2 pm s x (.sl e xs)=some (e,xs,none):=nr rfl
theorem pv(u:Tmp)(e:TypeId)(xs:List D):B2 pm s (.tmp u) (.own e xs)=some (e,xs,some ([u],s.k u,s.m u)):=nr rfl
def pw(L:A5)(n m:Nat):Option D→Option (TypeId×List D×Option (A5×Nat×Nat))
 | some (.own e xs)=>some (e,xs,some (L,n,m))
 | _=>none
theorem px(L:A5)(n m:Nat)(e:TypeId)(xs:List D):pw L n m (some (.own e xs))=some (e,xs,some (L,n,m)):=nr rfl
theorem zK(x:Operand)(L:A5)(n m:Nat):B2 pm s x (.vw L n m)=pw L n m (s.look pm L n m):=by
 simp only [B2]
 cases s.look pm L n m with
 | none=>rfl
 | some o=>cases o<;>rfl
def fp(T:Tys):Option (TypeId×List D×Option (A5×Nat×Nat))→Option D
 | some (e,xs,_)=>if T.known e then some (.int .i64 (T.len e xs))else none
 | none=>none
theorem py(e:TypeId)(xs:List D)(o:Option (A5×Nat×Nat))(hk:T.known e=true):fp T (some (e,xs,o))=some (.int .i64 (T.len e xs)):=by simp [fp,hk]
def xf(T:Tys)(pm:Pm)(s:St)(x:Operand)(d:D):Ty→Option D
 | .string=>match d with | .str b=>some (.int .i64 b.size) | _=>none
 | .slice _=>fp T (B2 pm s x d)
 | _=>none
theorem lnT(x:Operand)(d:D):Ig T pm s t x d=xf T pm s x d (T.ty t):=by
 unfold Ig xf
 cases T.ty t with
 | slice e=>
  simp only
  cases B2 pm s x d with
  | none=>rfl
  | some q=>rfl
 | string=>cases d<;>rfl
 | _=>rfl
theorem pz(x:Operand)(e:TypeId)(xs:List D):KE T pm s t x (.sl e xs)=Ig T pm s t x (.sl e xs):=nr rfl
theorem jw(x:Operand)(e:TypeId)(xs:List D):KE T pm s t x (.own e xs)=Ig T pm s t x (.own e xs):=nr rfl
def qA(T:Tys)(pm:Pm)(s:St)(t:TypeId)(x:Operand)(L:A5)(n m:Nat):Ty→Option D
 | .map _ _=>(s.lookM pm L n).map fun q=> .int .i64 q.2.2.length
 | _=>Ig T pm s t x (.vw L n m)
theorem qB(x:Operand)(L:A5)(n m:Nat):KE T pm s t x (.vw L n m)=qA T pm s t x L n m (T.ty t):=by
 show(match T.ty t with | .map _ _=>VA T pm s t x (.vw L n m) | _=>V9 T pm s t x (.vw L n m))=_
 unfold qA VA
 cases h:T.ty t<;>simp only [Sq]<;>first | rfl | (cases s.lookM pm L n<;>rfl)
theorem zL(T:Tys)(x:Operand)(L:A5)(n m:Nat)(k e:TypeId):qA T pm s t x L n m (.map k e)=(s.lookM pm L n).map fun q=> .int .i64 q.2.2.length:=nr rfl
theorem zM(T:Tys)(x:Operand)(L:A5)(n m:Nat)(e:TypeId):qA T pm s t x L n m (.slice e)=Ig T pm s t x (.vw L n m):=nr rfl
theorem jx(T:Tys)(x:Operand)(L:A5)(n m:Nat):qA T pm s t x L n m .string=Ig T pm s t x (.vw L n m):=nr rfl
def qC:D→Option (TypeId×TypeId×List (List Int×List Int))
 | .mp k e es=>some (k,e,es)
 | _=>none
theorem qD(k e:TypeId)(es:List (List Int×List Int)):qC (.mp k e es)=some (k,e,es):=nr rfl
theorem jy(u n:Nat):s.lookM pm [u] n=if pm.rd u&&(s.k u==n)then qC (s.v u)else none:=by
 simp only [St.lookM]
 split
 ·cases s.v u<;>rfl
 ·rfl
theorem jz(x:Operand)(b:ByteArray):KE T pm s t x (.str b)=Ig T pm s t x (.str b):=nr rfl
theorem qE(x:Operand)(e:TypeId)(L:A5)(n m lo len:Nat):KE T pm s t x (.vs e L n m lo len)=fD len (T.ty t):=nr rfl
theorem qF(len:Nat)(e:TypeId):fD len (.slice e)=some (.int .i64 len):=nr rfl
theorem qG(x:Operand)(e:TypeId)(xs:List D)(i:D):NR T pm s t x (.sl e xs) i=C8 T pm s t x (.sl e xs) i:=nr rfl
theorem kA(x:Operand)(e:TypeId)(xs:List D)(i:D):NR T pm s t x (.own e xs) i=C8 T pm s t x (.own e xs) i:=nr rfl
theorem qH(x:Operand)(L:A5)(n m:Nat)(i:D):NR T pm s t x (.vw L n m) i=C8 T pm s t x (.vw L n m) i:=nr rfl
def fq(T:Tys)(e e1:TypeId)(L:A5)(va vb lo len:Nat)(n:Int):Option D→Option D
 | some (.own e2 xs)=>if e1=e∧e2=e∧T.known e=true∧T.size e=1∧0≤n∧n.toNat<len∧lo+len≤xs.length then some (.pe L (lo+n.toNat) va vb)else none
 | _=>none
def kB(T:Tys)(pm:Pm)(s:St)(e1:TypeId)(L:A5)(va vb lo len:Nat)(n:Int):Ty→Option D
 | .slice e=>fq T e e1 L va vb lo len n (s.look pm L va vb)
 | _=>none
theorem qI(x:Operand)(e:TypeId)(L:A5)(va vb lo len:Nat)(k:IntKind)(n:Int):NR T pm s t x (.vs e L va vb lo len) (.int k n)=kB T pm s e L va vb lo len n (T.ty t):=by
 show b3 T pm s t e L va vb lo len (.int k n)=_
 unfold b3 kB
 cases T.ty t with
 | slice e'=>
  simp only
  rcases s.look pm L va vb with _ | d
  ·rfl
  ·cases d<;>rfl
 | _=>rfl
theorem qJ(e1:TypeId)(L:A5)(va vb lo len:Nat)(n:Int)(e:TypeId):kB T pm s e1 L va vb lo len n (.slice e)=fq T e e1 L va vb lo len n (s.look pm L va vb):=nr rfl
theorem qK(e:TypeId)(L:A5)(va vb lo len:Nat)(n:Int)(xs:List D)(hk:T.known e=true)(hz:T.size e=1)(h1:0≤n∧n.toNat<len)(h2:lo+len≤xs.length):fq T e e L va vb lo len n (some (.own e xs))=some (.pe L (lo+n.toNat) va vb):=by
 unfold fq
 dsimp only
 rw [if_pos ⟨rfl,rfl,hk,hz,h1.1,h1.2,h2⟩]
theorem zN(x:Operand)(d:D)(e:TypeId):xf T pm s x d (.slice e)=fp T (B2 pm s x d):=nr rfl
theorem qL(x:Operand)(b:ByteArray):xf T pm s x (.str b) .string=some (.int .i64 b.size):=nr rfl
theorem qM(e:TypeId)(xs:List D)(h:T.size e=1):T.len e xs=xs.length:=by simp [Tys.len,h]
def SS(T:Tys)(e:TypeId)(n:Int):Option (TypeId×List D×Option (A5×Nat×Nat))→Option D
 | some (e',xs,o)=>
  if e'=e∧T.known e=true∧0≤n∧n.toNat<T.len e xs then
   match o with
   | none=>some (.cptr ((xs.drop (n.toNat*T.size e)).take (T.size e)))
   | some (L,a,b)=>some (.pe L (n.toNat*T.size e) a b)
  else none
 | none=>none
def zO(T:Tys)(pm:Pm)(s:St)(x:Operand)(d:D)(n:Int):Ty→Option D
 | .slice e=>SS T e n (B2 pm s x d)
 | _=>none
theorem ixT(x:Operand)(d:D)(k:IntKind)(n:Int):C8 T pm s t x d (.int k n)=zO T pm s x d n (T.ty t):=by
 unfold C8 zO
 cases T.ty t with
 | slice e=>
  simp only
  cases B2 pm s x d with
  | none=>rfl
  | some q=>rfl
 | _=>rfl
theorem zP(x:Operand)(d:D)(n:Int)(e:TypeId):zO T pm s x d n (.slice e)=SS T e n (B2 pm s x d):=nr rfl
theorem kC(e:TypeId)(n:Int)(xs:List D)(hk:T.known e=true)(hz:T.size e=1)(hn:0≤n∧n.toNat<xs.length):SS T e n (some (e,xs,none))=some (.cptr [xs.getD n.toNat .undef]):=by
 simp only [SS,hk,hz,Tys.len,if_true]
 rw [if_pos ⟨trivial,trivial,hn.1,hn.2⟩,Nat.mul_one,List.drop_eq_getElem_cons hn.2,List.getD_eq_getElem?_getD,List.getElem?_eq_getElem hn.2];rfl
theorem ft(e:TypeId)(n:Int)(xs:List D)(L:A5)(a b:Nat)(hk:T.known e=true)(hz:T.size e=1)(hn:0≤n∧n.toNat<xs.length):SS T e n (some (e,xs,some (L,a,b)))=some (.pe L n.toNat a b):=by
 simp only [SS,hk,hz,Tys.len,if_true]
 rw [if_pos ⟨trivial,trivial,hn.1,hn.2⟩,Nat.mul_one]
end
section
variable {T:Tys} {pm:Pm} {s:St} {t:TypeId} (u:Tmp)
def RD(pm:Pm)(s:St)(u:Tmp)(d:D):Option (D×St):=At pm (if d.hasObj then s.clr u else s) d
theorem qN:take T pm s t (.tmp u)=RD pm s u (s.v u):=nr rfl
theorem tkC(v:Value):take T pm s t (.const v)=match ev T s t (.const v)with | none=>none | some d=>At pm s d:=nr rfl
theorem qO(k:IntKind)(n:Int):At pm s (.int k n)=some (.int k n,s):=by simp [At]
theorem kD(b:Bool):At pm s (.bool b)=some (.bool b,s):=by simp [At]
theorem qP(b:ByteArray):At pm s (.str b)=some (.str b,s):=by simp [At]
theorem zQ(e:TypeId)(xs:List D):At pm s (.sl e xs)=some (.sl e xs,s):=by simp [At]
theorem qQ(e:TypeId)(xs:List D):At pm s (.own e xs)=some (.own e xs,s):=by simp [At]
theorem qR(xs:List D):At pm s (.box xs)=some (.box xs,s):=by simp [At]
theorem qS(f:FuncId)(xs:List D):At pm s (.clo f xs)=some (.clo f xs,s):=by simp [At]
theorem kE(xs:List D):At pm s (.cptr xs)=some (.cptr xs,s):=by simp [At]
theorem zR(L:A5)(n m:Nat):At pm s (.vw L n m)=KP pm s L n m:=by simp [At]
def qT:Option (List D×St)→Option (D×St)
 | some r=>some (.agg r.1,r.2)
 | none=>none
theorem zS(r:List D×St):qT (some r)=some (.agg r.1,r.2):=nr rfl
theorem gg(xs:List D):At pm s (.agg xs)=qT (Ce pm s xs):=by simp only [At];cases Ce pm s xs<;>rfl
def td2(pm:Pm)(ds:List D):Option (D×St)→Option (List D×St)
 | some r=>(Ce pm r.2 ds).map fun q=>(r.1::q.1,q.2)
 | none=>none
theorem zT(ds:List D)(d:D):td2 pm ds (some (d,s))=(Ce pm s ds).map fun q=>(d::q.1,q.2):=nr rfl
theorem kF:Ce pm s []=some ([],s):=by simp [Ce]
theorem fu(d:D)(ds:List D):Ce pm s (d::ds)=td2 pm ds (At pm s d):=by simp only [Ce];cases At pm s d<;>rfl
theorem qU(k:IntKind)(n:Int):RD pm s u (.int k n)=some (.int k n,s):=by simp [RD,At,D.hasObj]
theorem kG(b:Bool):RD pm s u (.bool b)=some (.bool b,s):=by simp [RD,At,D.hasObj]
theorem qV(b:ByteArray):RD pm s u (.str b)=some (.str b,s):=by simp [RD,At,D.hasObj]
theorem zU(e:TypeId)(xs:List D):RD pm s u (.sl e xs)=some (.sl e xs,s):=by simp [RD,At,D.hasObj]
theorem qW(e:TypeId)(xs:List D):RD pm s u (.own e xs)=some (.own e xs,s.clr u):=by simp [RD,At,D.hasObj]
theorem qX(xs:List D):RD pm s u (.box xs)=some (.box xs,s.clr u):=by simp [RD,At,D.hasObj]
theorem qY(f:FuncId)(xs:List D):RD pm s u (.clo f xs)=some (.clo f xs,s):=by simp [RD,At,D.hasObj]
theorem kH(xs:List D):RD pm s u (.cptr xs)=some (.cptr xs,s):=by simp [RD,At,D.hasObj]
theorem zV(L:A5)(n m:Nat):RD pm s u (.vw L n m)=KP pm s L n m:=by simp [RD,At,D.hasObj]
theorem qZ(xs:List D):RD pm s u (.agg xs)=qT (Ce pm (if AF xs then s.clr u else s) xs):=by
 simp only [RD,D.hasObj];rw [gg];rfl
theorem kI:AF []=false:=by simp [AF]
theorem ZA(d:D)(ds:List D):AF (d::ds)=(d.hasObj||AF ds):=by simp [AF]
theorem kJ(e:TypeId)(xs:List D):(D.sl e xs).hasObj=false:=by simp [D.hasObj]
theorem qa(e:TypeId)(xs:List D):(D.own e xs).hasObj=true:=by simp [D.hasObj]
theorem qb(xs:List D):(D.box xs).hasObj=true:=by simp [D.hasObj]
theorem qc(f:FuncId)(xs:List D):(D.clo f xs).hasObj=false:=by simp [D.hasObj]
theorem kK(xs:List D):(D.cptr xs).hasObj=false:=by simp [D.hasObj]
theorem zW(L:A5)(n m:Nat):(D.vw L n m).hasObj=false:=by simp [D.hasObj]
theorem zX(L:A5)(c n m:Nat):(D.pe L c n m).hasObj=false:=by simp [D.hasObj]
theorem hoK(v:Value):(D.konst v).hasObj=false:=by simp [D.hasObj]
theorem hoU:D.undef.hasObj=false:=by simp [D.hasObj]
theorem qd(xs:List D):(D.agg xs).hasObj=AF xs:=by simp [D.hasObj]
theorem qe(xs:List D):(D.tup xs).hasObj=AF xs:=by simp [D.hasObj]
def zY(s:St)(r:Nat):Option D→Option (D×St)
 | some c=>some (c,s.set [r] .undef)
 | none=>none
theorem zZ(r:Nat)(c:D):zY s r (some c)=some (c,s.set [r] .undef):=nr rfl
theorem qf(r n m:Nat)(hw:pm.wr r=true):KP pm s [r] n m=zY s r (s.look pm [r] n m):=by
 unfold KP
 cases s.look pm [r] n m with
 | none=>rfl
 | some c=>simp [hw,St.get,zY]
def na(s:St)(L:A5)(o:Option D):Option D→Option (D×St)
 | some c=>match o with
  | some (.own _ _)=>(Bz c).map fun c'=>(c',s.set L c')
  | _=>some (c,s.set L .undef)
 | none=>none
theorem za(L:A5)(xs:List D)(c:D):na s L (some (.box xs)) (some c)=some (c,s.set L .undef):=nr rfl
theorem zb(L:A5)(xs:List D)(c:D):na s L (some (.agg xs)) (some c)=some (c,s.set L .undef):=nr rfl
theorem zd(L:A5)(e:TypeId)(xs:List D)(c:D):na s L (some (.own e xs)) (some c)=(Bz c).map fun c'=>(c',s.set L c'):=nr rfl
theorem qg(u' c n m:Nat)(p:A5)(hw:pm.wr u'=true):KP pm s (u'::c::p) n m=na s (u'::c::p) (s.get (u'::c::p).dropLast) (s.look pm (u'::c::p) n m):=by
 unfold KP
 cases s.look pm (u'::c::p) n m with
 | none=>rfl
 | some d=>simp only [List.headD_cons,hw,if_true,na];rfl
theorem ze(r:Nat):s.get [r]=some (s.v r):=nr rfl
theorem qh(d:D):Ai d []=some d:=by cases d<;>rfl
theorem qi(e:TypeId)(xs:List D)(c:Nat)(p:A5):Ai (.own e xs) (c::p)=(xs[c]?).bind fun d=>Ai d p:=nr rfl
theorem qj(xs:List D)(c:Nat)(p:A5):Ai (.box xs) (c::p)=(xs[c]?).bind fun d=>Ai d p:=nr rfl
theorem qk(xs:List D)(c:Nat)(p:A5):Ai (.agg xs) (c::p)=(xs[c]?).bind fun d=>Ai d p:=nr rfl
theorem ql(d x:D):DY d [] x=x:=by cases d<;>rfl
theorem qm(e:TypeId)(xs:List D)(c:Nat)(p:A5)(x:D):DY (.own e xs) (c::p) x= .own e (xs.set c (DY (xs.getD c .undef) p x)):=nr rfl
theorem qo(xs:List D)(c:Nat)(p:A5)(x:D):DY (.box xs) (c::p) x= .box (xs.set c (DY (xs.getD c .undef) p x)):=nr rfl
theorem qp(xs:List D)(c:Nat)(p:A5)(x:D):DY (.agg xs) (c::p) x= .agg (xs.set c (DY (xs.getD c .undef) p x)):=nr rfl
end
section
variable {T:Tys} {pm:Pm} {s:St} {t:TypeId}
def ST(T:Tys)(pm:Pm)(t:TypeId)(ax:Operand):Option (D×St)→Option St
 | none=>none
 | some (d,s1)=>
  match ev T s1 t ax with
  | none=>none
  | some ad=>
   match EW pm s1 ax ad with
   | none=>none
   | some (L,c,o)=>
    if T.known t&&pm.wr (L.headD 0)&&d.asCells.all Ax&&(T.size t==d.asCells.length)&&(T.isStruct t==d.isAgg)&&decide (c+T.size t≤o.cells.length)then
     let s2:=s1.set L (o.withCells (B3 o.cells c d.asCells))
     some (if d.hasObj||AF o.cells then s2.bump (L.headD 0)else s2)
    else none
theorem kL(ax x:Operand):Hv T pm s t ax x=ST T pm t ax (take T pm s t x):=by
 unfold Hv D0 ST
 rcases take T pm s t x with _ | ⟨d,s1⟩<;>rfl
theorem fv(ax:Operand)(q:Option (D×St)):D0 T pm t ax q=ST T pm t ax q:=by
 unfold D0 ST
 rcases q with _ | ⟨d,s1⟩<;>rfl
def kM(T:Tys)(pm:Pm)(s:St)(t:TypeId)(u:Tmp):D→Option (D×St)
 | .vw L n m=>PK pm s L n m
 | _=>take T pm s t (.tmp u)
theorem kN(u:Tmp):HV T pm s t (.tmp u)=kM T pm s t u (s.v u):=by
 unfold HV
 simp only [ev]
 cases s.v u<;>rfl
def zf(s:St)(L:A5):Option D→Option (D×St)
 | some c=>some (c,s.set L .undef)
 | none=>none
theorem zg(u:Tmp)(L:A5)(n m:Nat)(hw:pm.wr (L.headD 0)=true):kM T pm s t u (.vw L n m)=zf s L (s.look pm L n m):=by
 show PK pm s L n m=_
 unfold PK zf
 cases s.look pm L n m with
 | none=>rfl
 | some c=>simp only [hw,if_true]
theorem zh(u:Tmp)(k:IntKind)(n:Int):kM T pm s t u (.int k n)=take T pm s t (.tmp u):=nr rfl
theorem kO(u:Tmp)(e:TypeId)(xs:List D):kM T pm s t u (.own e xs)=take T pm s t (.tmp u):=nr rfl
theorem zi(u:Tmp)(v:Value):kM T pm s t u (.konst v)=take T pm s t (.tmp u):=nr rfl
theorem zj(u:Tmp):kM T pm s t u .undef=take T pm s t (.tmp u):=nr rfl
theorem kP(v:Value):HV T pm s t (.const v)=take T pm s t (.const v):=by
 unfold HV
 split
 ·rename_i L n m he
  simp only [ev,Ln]at he
  split at he<;>try (cases he;done)
  split at he<;>cases he
 ·rfl
theorem qq(u:Tmp)(e:TypeId)(xs:List D):kM T pm s t u (.sl e xs)=take T pm s t (.tmp u):=nr rfl
theorem zk(L:A5)(c:D):zf s L (some c)=some (c,s.set L .undef):=nr rfl
def ez(s1:St)(L:A5)(c:Nat)(d:D):Option D→Option St
 | none=>none
 | some o=>if c<o.cells.length then(if d.hasObj||AF o.cells then some ((s1.set L (o.withCells (o.cells.set c d))).bump (L.headD 0))else some (s1.set L (o.withCells (o.cells.set c d))))else none
def gk(T:Tys)(pm:Pm)(t:TypeId)(u:Tmp)(d:D)(s:St):D→Option St
 | .pe L c n m=>if T.known t&& !T.isStruct t&&pm.wr (L.headD 0)&&Ax d then ez s L c d (s.look pm L n m)else ST T pm t (.tmp u) (some (d,s))
 | .vw L n m=>if T.known t&& !T.isStruct t&&pm.wr (L.headD 0)&&Ax d then ez s L 0 d (Kg s pm L n m)else ST T pm t (.tmp u) (some (d,s))
 | .box xs=>if T.known t&& !T.isStruct t&&pm.wr u&&Ax d then ez s [u] 0 d (some (.box xs))else ST T pm t (.tmp u) (some (d,s))
 | _=>ST T pm t (.tmp u) (some (d,s))
theorem Kh{d:D}(hd:Ax d=true):d.asCells=[d]∧d.isAgg=false:=by
 cases d<;>first | exact⟨rfl,rfl⟩ | (simp [Ax]at hd)
theorem Gv{T:Tys}{t:TypeId}(hs:T.isStruct t=false):T.size t=1:=by
 unfold Tys.isStruct at hs
 unfold Tys.size
 cases hty:T.ty t<;>simp_all [Ty.isStruct,Ty.size]
theorem zm(u:Tmp)(d:D)(_:d.isAgg=false):ST T pm t (.tmp u) (some (d,s))=gk T pm t u d s (s.v u):=by
 cases hv:s.v u<;>simp only [gk]
 case pe L c n m=>
  split
  ·rename_i hc
   simp only [Bool.and_eq_true,Bool.not_eq_true']at hc
   obtain⟨⟨⟨hk,hs⟩,hw⟩,hd⟩:=hc
   obtain⟨ha,hg⟩:=Kh hd
   have hz:=Gv hs
   simp only [ST,ev,hv,EW]
   cases s.look pm L n m with
   | none=>rfl
   | some o=>
    simp only [ez,hk,hw,ha,hz,hs,hg,List.all_cons,hd,List.all_nil,List.length_cons,List.length_nil,Bool.and_true,B3,beq_self_eq_true,Nat.zero_add]
    by_cases hc:c<o.cells.length
    ·have h1:c+1≤o.cells.length:=hc
     simp only [hc,h1,decide_true,Bool.and_true,if_true];split<;>first | rfl | (rename_i hq;simp only [hq];rfl)
    ·have h1: ¬c+1≤o.cells.length:=hc
     simp only [hc,h1,decide_false,Bool.and_false,Bool.false_eq_true,if_false]
  ·rfl
 case vw L n m=>
  split
  ·rename_i hc
   simp only [Bool.and_eq_true,Bool.not_eq_true']at hc
   obtain⟨⟨⟨hk,hs⟩,hw⟩,hd⟩:=hc
   obtain⟨ha,hg⟩:=Kh hd
   have hz:=Gv hs
   simp only [ST,ev,hv,EW,Kg]
   cases s.look pm L n m with
   | none=>rfl
   | some o=>
    cases o<;>try rfl
    rename_i xs
    simp only [ez,hk,hw,ha,hz,hs,hg,List.all_cons,hd,List.all_nil,List.length_cons,List.length_nil,Bool.and_true,B3,beq_self_eq_true,Nat.zero_add,D.cells]
    by_cases hc:0<xs.length
    ·have h1:1≤xs.length:=hc
     simp only [hc,h1,decide_true,Bool.and_true,if_true];split<;>first | rfl | (rename_i hq;simp only [hq];rfl)
    ·have h1: ¬1≤xs.length:=hc
     simp only [hc,h1,decide_false,Bool.and_false,Bool.false_eq_true,if_false]
  ·rfl
 case box xs=>
  split
  ·rename_i hc
   simp only [Bool.and_eq_true,Bool.not_eq_true']at hc
   obtain⟨⟨⟨hk,hs⟩,hw⟩,hd⟩:=hc
   obtain⟨ha,hg⟩:=Kh hd
   have hz:=Gv hs
   simp only [ST,ev,hv,EW]
   simp only [ez,hk,hw,ha,hz,hs,hg,List.all_cons,hd,List.all_nil,List.length_cons,List.length_nil,Bool.and_true,B3,beq_self_eq_true,Nat.zero_add,D.cells,List.headD_cons]
   by_cases hc:0<xs.length
   ·have h1:1≤xs.length:=hc
    simp only [hc,h1,decide_true,Bool.and_true,if_true];split<;>first | rfl | (rename_i hq;simp only [hq];rfl)
   ·have h1: ¬1≤xs.length:=hc
    simp only [hc,h1,decide_false,Bool.and_false,Bool.false_eq_true,if_false]
  ·rfl
theorem zn(u:Tmp)(d:D)(L:A5)(c n m:Nat)(hk:T.known t=true)(hs:T.isStruct t=false)(hw:pm.wr (L.headD 0)=true)(hd:Ax d=true):gk T pm t u d s (.pe L c n m)=ez s L c d (s.look pm L n m):=by
 simp [gk,hk,hs,hd];intro h;simp_all
theorem zo(u:Tmp)(d:D)(L:A5)(n m:Nat)(hk:T.known t=true)(hs:T.isStruct t=false)(hw:pm.wr (L.headD 0)=true)(hd:Ax d=true):gk T pm t u d s (.vw L n m)=ez s L 0 d (Kg s pm L n m):=by
 simp [gk,hk,hs,hd];intro h;simp_all
theorem zp(u:Tmp)(d:D)(xs:List D)(hk:T.known t=true)(hs:T.isStruct t=false)(hw:pm.wr u=true)(hd:Ax d=true):gk T pm t u d s (.box xs)=ez s [u] 0 d (some (.box xs)):=by
 simp [gk,hk,hs,hd];intro h;simp_all
def zq:Option D→Option D
 | some (.box xs)=>some (.box xs)
 | _=>none
theorem bxA(L:A5)(n m:Nat):Kg s pm L n m=zq (s.look pm L n m):=by
 unfold Kg zq
 cases s.look pm L n m with
 | none=>rfl
 | some o=>cases o<;>rfl
theorem zr(xs:List D):zq (some (.box xs))=some (.box xs):=nr rfl
theorem hdC(a:Nat)(l:A5)(d:Nat):List.headD (a::l) d=a:=nr rfl
theorem zt(L:A5)(c:Nat)(d o:D):ez s L c d (some o)=if c<o.cells.length then(if d.hasObj||AF o.cells then some ((s.set L (o.withCells (o.cells.set c d))).bump (L.headD 0))else some (s.set L (o.withCells (o.cells.set c d))))else none:=nr rfl
theorem qr(e:TypeId)(xs:List D):(D.own e xs).cells=xs:=nr rfl
theorem qs(xs:List D):(D.box xs).cells=xs:=nr rfl
theorem qt(e:TypeId)(xs ys:List D):(D.own e xs).withCells ys= .own e ys:=nr rfl
theorem qu(xs ys:List D):(D.box xs).withCells ys= .box ys:=nr rfl
theorem qv(k:IntKind)(n:Int):Ax (.int k n)=true:=nr rfl
theorem kQ(b:Bool):Ax (.bool b)=true:=nr rfl
theorem qw(b:ByteArray):Ax (.str b)=true:=nr rfl
theorem zu(e:TypeId)(xs:List D):Ax (.sl e xs)=true:=nr rfl
theorem qx(e:TypeId)(xs:List D):Ax (.own e xs)=true:=nr rfl
theorem qy(xs:List D):Ax (.box xs)=true:=nr rfl
theorem qz(f:FuncId)(xs:List D):Ax (.clo f xs)=true:=nr rfl
theorem kR(xs:List D):Ax (.cptr xs)=true:=nr rfl
theorem ceS(L:A5)(c:Nat)(o:D):Kf s L c (some o)=(o.cells[c]?).bind fun x=>Ay (CO s L c x):=nr rfl
theorem rA(L:A5)(c:Nat)(k:IntKind)(n:Int):Ay (CO s L c (.int k n))=some (.int k n):=nr rfl
theorem kS(L:A5)(c:Nat)(b:Bool):Ay (CO s L c (.bool b))=some (.bool b):=nr rfl
theorem rB(L:A5)(c:Nat)(b:ByteArray):Ay (CO s L c (.str b))=some (.str b):=nr rfl
theorem zv(L:A5)(c:Nat)(e:TypeId)(xs:List D):Ay (CO s L c (.sl e xs))=some (.sl e xs):=nr rfl
theorem rC(L:A5)(c:Nat)(f:FuncId)(xs:List D):Ay (CO s L c (.clo f xs))=some (.clo f xs):=nr rfl
theorem zw(L:A5)(c:Nat)(M:A5)(n m:Nat):Ay (CO s L c (.vw M n m))=some (.vw M n m):=nr rfl
theorem rD(L:A5)(c:Nat)(e:TypeId)(xs:List D):Ay (CO s L c (.own e xs))=some (X9 s (L++[c])):=nr rfl
theorem zx(r:Nat)(p:A5):X9 s (r::p)= .vw (r::p) (s.k r) (s.m r):=nr rfl
def rE(T:Tys)(pm:Pm)(e:TypeId)(ty:TypeId)(y:Operand):Option (D×St)→Option (D×St)
 | some (.own e1 xs,s1)=>
   match ev T s1 ty y with
   | some d=>
    match B2 pm s1 y d with
    | some (e2,ys,_)=>
     if e1=e∧e2=e∧T.elem e=true∧ys.all Ax=true∧xs.length+ys.length<1099511627776 then
      if AF ys then
       match d,y with
       | .own _ _, .tmp u=>some (.own e (xs++ys),s1.clr u)
       | _,_=>none
      else some (.own e (xs++ys),s1)
     else none
    | none=>none
   | none=>none
 | _=>none
def rF(T:Tys)(e:TypeId):Option (D×St)→Option (D×St)
 | some (.own e1 xs,s1)=>if e1=e∧T.known e=true then some (.own e xs,s1)else none
 | _=>none
def zy(T:Tys)(pm:Pm)(s:St)(ty:TypeId)(x:Operand):Ty→Option (D×St)
 | .slice e=>rF T e (take T pm s ty x)
 | _=>none
theorem rG(ty:TypeId)(x:Operand):IE T pm s ty x=zy T pm s ty x (T.ty ty):=by
 unfold IE zy
 cases T.ty ty with
 | slice e=>
  simp only [rF]
  rcases take T pm s ty x with _ | ⟨d,s1⟩
  ·rfl
  ·cases d<;>rfl
 | _=>rfl
theorem P8{T:Tys}{e:TypeId}(hk:T.known e=true)(h4:T.size e≤4):T.elem e=true:=by simp [Tys.elem,hk,h4]
theorem zz(ty:TypeId)(x:Operand)(e:TypeId):zy T pm s ty x (.slice e)=rF T e (take T pm s ty x):=nr rfl
theorem A00(e:TypeId)(xs:List D)(hk:T.known e=true):rF T e (some (.own e xs,s))=some (.own e xs,s):=by simp [rF,hk]
def ap0(T:Tys)(pm:Pm)(s:St)(ty:TypeId)(x y:Operand):Ty→Option (D×St)
 | .slice e=>rE T pm e ty y (HV T pm s ty x)
 | _=>none
theorem A02(ty:TypeId)(x y:Operand):DZ T pm s ty x y=ap0 T pm s ty x y (T.ty ty):=by
 unfold DZ ap0
 cases T.ty ty with
 | slice e=>
  simp only [rE]
  rcases HV T pm s ty x with _ | ⟨d,s1⟩
  ·rfl
  ·cases d<;>rfl
 | _=>rfl
theorem A03(ty:TypeId)(x y:Operand)(e:TypeId):ap0 T pm s ty x y (.slice e)=rE T pm e ty y (HV T pm s ty x):=nr rfl
def nb(T:Tys)(e e1:TypeId)(xs:List D)(s:St)(u:Tmp)(d:D):Option (TypeId×List D×Option (A5×Nat×Nat))→Option (D×St)
 | some (e2,ys,_)=>
     if e1=e∧e2=e∧T.elem e=true∧ys.all Ax=true∧xs.length+ys.length<1099511627776 then
      if AF ys then
       match d with
       | .own _ _=>some (.own e (xs++ys),s.clr u)
       | _=>none
      else some (.own e (xs++ys),s)
     else none
 | none=>none
theorem A04(ty e e1:TypeId)(u:Tmp)(xs:List D):rE T pm e ty (.tmp u) (some (.own e1 xs,s))=nb T e e1 xs s u (s.v u) (B2 pm s (.tmp u) (s.v u)):=by
 simp only [rE,ev,nb]
 rcases B2 pm s (.tmp u) (s.v u)with _ | ⟨e2,ys,o⟩
 ·rfl
 ·simp only
  split
  ·split
   ·cases s.v u<;>rfl
   ·rfl
  ·rfl
theorem A05(e:TypeId)(u:Tmp)(xs ys:List D)(d:D)(o:Option (A5×Nat×Nat))(hk:T.known e=true)(h4:T.size e≤4)(hy:ys.all Ax=true)(hno:AF ys=false)(hl:xs.length+ys.length<1099511627776):
  nb T e e xs s u d (some (e,ys,o))=some (.own e (xs++ys),s):=by
 simp only [nb]
 rw [if_pos ⟨trivial,trivial,P8 hk h4,hy,hl⟩,hno];simp
theorem A06(e e':TypeId)(u:Tmp)(xs ys zs:List D)(o:Option (A5×Nat×Nat))(hk:T.known e=true)(h4:T.size e≤4)(hy:ys.all Ax=true)(hno:AF ys=true)(hl:xs.length+ys.length<1099511627776):
  nb T e e xs s u (.own e' zs) (some (e,ys,o))=some (.own e (xs++ys),s.clr u):=by
 simp only [nb]
 rw [if_pos ⟨trivial,trivial,P8 hk h4,hy,hl⟩,hno];simp
end
section
variable {E:Env} {pm:Pm} {s:St} {dst:Option Tmp}
def W9(a:D)(l:List (A5×D)):Option (List D×List (A5×D))→Option (List D×List (A5×D))
 | some (as,ls)=>some (a::as,l++ls)
 | none=>none
theorem kT(a:D)(l:List (A5×D))(as:List D)(ls:List (A5×D)):W9 a l (some (as,ls))=some (a::as,l++ls):=nr rfl
def OM(E:Env)(lend:Bool)(pm:Pm)(s:St)(j:Nat)(rest:List (Operand×TypeId)):Option (D×List (A5×D))→Option (List D×List (A5×D))
 | some (a,l)=>W9 a l (Bx E lend pm s (j+l.length) rest)
 | none=>none
theorem kU(lend:Bool)(j:Nat)(rest:List (Operand×TypeId))(a:D)(l:List (A5×D)):OM E lend pm s j rest (some (a,l))=W9 a l (Bx E lend pm s (j+l.length) rest):=nr rfl
theorem rH(lend:Bool)(j:Nat):Bx E lend pm s j []=some ([],[]):=nr rfl
theorem rI(lend:Bool)(j:Nat)(u:Tmp)(t:TypeId)(rest:List (Operand×TypeId)):Bx E lend pm s j ((.tmp u,t)::rest)=OM E lend pm s j rest (HW E.T lend pm s j [u] (s.v u)):=by
 simp only [Bx,ev]
 rcases HW E.T lend pm s j [u] (s.v u)with _ | ⟨a,l⟩
 ·rfl
 ·simp only [OM];rcases Bx E lend pm s (j+l.length) rest with _ | ⟨as,ls⟩<;>rfl
def aC(E:Env)(lend:Bool)(pm:Pm)(s:St)(j:Nat)(rest:List (Operand×TypeId)):Option D→Option (List D×List (A5×D))
 | some d=>OM E lend pm s j rest (HW E.T lend pm s j [] d)
 | none=>none
theorem aCS(lend:Bool)(j:Nat)(rest:List (Operand×TypeId))(d:D):aC E lend pm s j rest (some d)=OM E lend pm s j rest (HW E.T lend pm s j [] d):=nr rfl
theorem arC(lend:Bool)(j:Nat)(v:Value)(t:TypeId)(rest:List (Operand×TypeId)):Bx E lend pm s j ((.const v,t)::rest)=aC E lend pm s j rest (ev E.T s t (.const v)):=by
 simp only [Bx]
 cases ev E.T s t (.const v)with
 | none=>rfl
 | some d=>
  simp only [aC]
  rcases HW E.T lend pm s j [] d with _ | ⟨a,l⟩
  ·rfl
  ·simp only [OM];rcases Bx E lend pm s (j+l.length) rest with _ | ⟨as,ls⟩<;>rfl
theorem arF(lend:Bool)(j:Nat)(f:FuncId)(t:TypeId)(rest:List (Operand×TypeId)):Bx E lend pm s j ((.func f,t)::rest)=OM E lend pm s j rest (HW E.T lend pm s j [] (.clo f [])):=by
 simp only [Bx,ev]
 rcases HW E.T lend pm s j [] (.clo f [])with _ | ⟨a,l⟩
 ·rfl
 ·simp only [OM];rcases Bx E lend pm s (j+l.length) rest with _ | ⟨as,ls⟩<;>rfl
variable (lend:Bool) (j:Nat) (L:A5)
theorem rJ(T:Tys)(k:IntKind)(n:Int):HW T lend pm s j L (.int k n)=BF lend pm s j L (.int k n):=nr rfl
theorem kV(T:Tys)(b:Bool):HW T lend pm s j L (.bool b)=BF lend pm s j L (.bool b):=nr rfl
theorem rK(T:Tys)(b:ByteArray):HW T lend pm s j L (.str b)=BF lend pm s j L (.str b):=nr rfl
theorem A07(T:Tys)(e:TypeId)(xs:List D):HW T lend pm s j L (.sl e xs)=BF lend pm s j L (.sl e xs):=nr rfl
theorem rL(T:Tys)(f:FuncId)(xs:List D):HW T lend pm s j L (.clo f xs)=BF lend pm s j L (.clo f xs):=nr rfl
theorem kW(T:Tys)(xs:List D):HW T lend pm s j L (.cptr xs)=BF lend pm s j L (.cptr xs):=nr rfl
theorem axK(T:Tys)(v:Value):HW T lend pm s j L (.konst v)=BF lend pm s j L (.konst v):=nr rfl
theorem rM(T:Tys)(e:TypeId)(xs:List D):HW T lend pm s j L (.own e xs)=BF lend pm s j L (.own e xs):=nr rfl
theorem rN(T:Tys)(xs:List D):HW T lend pm s j L (.box xs)=BF lend pm s j L (.box xs):=nr rfl
theorem A08(T:Tys)(M:A5)(n m:Nat):HW T lend pm s j L (.vw M n m)=BF lend pm s j L (.vw M n m):=nr rfl
theorem rO(T:Tys)(xs:List D):HW T lend pm s j L (.agg xs)=BF lend pm s j L (.agg xs):=nr rfl
theorem rP(k:IntKind)(n:Int):BF lend pm s j L (.int k n)=some (.int k n,[]):=nr rfl
theorem kX(b:Bool):BF lend pm s j L (.bool b)=some (.bool b,[]):=nr rfl
theorem rQ(b:ByteArray):BF lend pm s j L (.str b)=some (.str b,[]):=nr rfl
theorem A09(e:TypeId)(xs:List D):BF lend pm s j L (.sl e xs)=some (.sl e xs,[]):=nr rfl
theorem rR(f:FuncId)(xs:List D):BF lend pm s j L (.clo f xs)=some (.clo f xs,[]):=nr rfl
theorem kY(xs:List D):BF lend pm s j L (.cptr xs)=some (.cptr xs,[]):=nr rfl
theorem atK(v:Value):BF lend pm s j L (.konst v)=some (.konst v,[]):=nr rfl
def rS(l:List (A5×D)):Option D→Option (D×List (A5×D))
 | some c=>some (c,l)
 | none=>none
theorem A0A(l:List (A5×D))(c:D):rS l (some c)=some (c,l):=nr rfl
theorem rT(e:TypeId)(xs:List D):BF false pm s j L (.own e xs)=rS [(L, .own e xs)] (Bz (.own e xs)):=by
 show((Bz (.own e xs)).map fun c'=>(c',[(L,D.own e xs)]))=_
 cases Bz (.own e xs)<;>rfl
theorem rU(xs:List D):BF false pm s j L (.box xs)=rS [(L, .box xs)] (Bz (.box xs)):=by
 show((Bz (.box xs)).map fun c'=>(c',[(L,D.box xs)]))=_
 cases Bz (.box xs)<;>rfl
def fz2(L:A5):Option D→Option (D×List (A5×D))
 | some c=>rS [(L,c)] (Bz c)
 | none=>none
theorem A0C(c:D):fz2 L (some c)=rS [(L,c)] (Bz c):=nr rfl
theorem A0D(M:A5)(n m:Nat):BF false pm s j L (.vw M n m)=fz2 M (s.look pm M n m):=by
 simp only [BF,EC]
 cases s.look pm M n m with
 | none=>rfl
 | some c=>simp only [fz2];cases Bz c<;>rfl
theorem kZ(e:TypeId)(xs:List D):BF true pm s j L (.own e xs)=some (.vw [G+j] 0 0,[(L, .own e xs)]):=nr rfl
theorem kb(xs:List D):BF true pm s j L (.box xs)=some (.vw [G+j] 0 0,[(L, .box xs)]):=nr rfl
def ln2(j:Nat)(L:A5):Option D→Option (D×List (A5×D))
 | some c=>some (.vw [G+j] 0 0,[(L,c)])
 | none=>none
theorem A0E(c:D):ln2 j L (some c)=some (.vw [G+j] 0 0,[(L,c)]):=nr rfl
theorem rV(M:A5)(n m:Nat):BF true pm s j L (.vw M n m)=ln2 j M (s.look pm M n m):=by
 simp only [BF,EC]
 cases s.look pm M n m<;>rfl
def ag1:Option (List D×List (A5×D))→Option (D×List (A5×D))
 | some r=>some (.agg r.1,r.2)
 | none=>none
theorem A0F(r:List D×List (A5×D)):ag1 (some r)=some (.agg r.1,r.2):=nr rfl
theorem rW(xs:List D):BF lend pm s j L (.agg xs)=ag1 (CP lend pm s L j 0 xs):=by
 simp only [BF]
 cases CP lend pm s L j 0 xs<;>rfl
def cF(lend:Bool)(pm:Pm)(s:St)(L0:A5)(j i:Nat)(ds:List D):Option (D×List (A5×D))→Option (List D×List (A5×D))
 | some (a,l)=>W9 a l (CP lend pm s L0 (j+l.length) (i+1) ds)
 | none=>none
theorem kc(i:Nat)(ds:List D)(a:D)(l:List (A5×D)):cF lend pm s L j i ds (some (a,l))=W9 a l (CP lend pm s L (j+l.length) (i+1) ds):=nr rfl
theorem rX(i:Nat):CP lend pm s L j i []=some ([],[]):=nr rfl
theorem kd(i:Nat)(d:D)(ds:List D)(h:d.isAgg=false):CP lend pm s L j i (d::ds)=cF lend pm s L j i ds (BF lend pm s j (L++[i]) d):=by
 have:BF lend pm s j (L++[i]) d=EC lend pm s j (L++[i]) d:=by cases d<;>first | rfl | (simp [D.isAgg]at h)
 rw [this]
 simp only [CP]
 rcases EC lend pm s j (L++[i]) d with _ | ⟨a,l⟩
 ·rfl
 ·simp only [cF];rcases CP lend pm s L (j+l.length) (i+1) ds with _ | ⟨as,ls⟩<;>rfl
theorem rY(k:IntKind)(n:Int):(D.int k n).isAgg=false:=nr rfl
theorem ke(b:Bool):(D.bool b).isAgg=false:=nr rfl
theorem rZ(b:ByteArray):(D.str b).isAgg=false:=nr rfl
theorem A0G(e:TypeId)(xs:List D):(D.sl e xs).isAgg=false:=nr rfl
theorem ra(e:TypeId)(xs:List D):(D.own e xs).isAgg=false:=nr rfl
theorem A0H(M:A5)(n m:Nat):(D.vw M n m).isAgg=false:=nr rfl
theorem rb(f:FuncId)(xs:List D):(D.clo f xs).isAgg=false:=nr rfl
theorem rc(xs:List D):(D.box xs).isAgg=false:=nr rfl
theorem kf(xs:List D):(D.cptr xs).isAgg=false:=nr rfl
theorem re(xs:List D):(D.agg xs).isAgg=true:=nr rfl
def xg(E:Env)(pm:Pm)(s:St)(dst:Option Tmp)(f:FuncId)(caps:List D):Option (List D×List (A5×D))→Option St
 | none=>none
 | some (as,ls)=>
  match E.call f (as++caps) []with
  | some (r,_)=>
   if BQ r then
    if CS (ls.map (·.1))&&ls.all (fun l=>pm.wr (l.1.headD 0))then(GC ls).map fun ls'=>(back false s ls').putO dst r else none
   else some (s.putO dst r)
  | none=>none
theorem cdB(f:FuncId)(xs:List (Operand×TypeId))(caps:List D)(h:E.lends f=false):GH E pm s dst f xs caps=xg E pm s dst f caps (Bx E false pm s 0 xs):=by
 unfold GH xg
 rw [h]
 simp only [Bool.false_eq_true,if_false]
 rcases Bx E false pm s 0 xs with _ | ⟨as,ls⟩<;>rfl
def kg(pm:Pm)(s:St)(dst:Option Tmp)(ls:List (A5×D)):Option (D×List D)→Option St
 | some (r,_)=>
   if BQ r then
    if CS (ls.map (·.1))&&ls.all (fun l=>pm.wr (l.1.headD 0))then(GC ls).map fun ls'=>(back false s ls').putO dst r else none
   else some (s.putO dst r)
 | none=>none
theorem A0I(f:FuncId)(caps as:List D)(ls:List (A5×D)):xg E pm s dst f caps (some (as,ls))=kg pm s dst ls (E.call f (as++caps) []):=by
 simp only [xg]
 rcases E.call f (as++caps) []with _ | ⟨r,o⟩<;>rfl
theorem A0J(ls:List (A5×D))(r:D)(o:List D)(h:BQ r=false):kg pm s dst ls (some (r,o))=some (s.putO dst r):=by simp [kg,h]
theorem A0K(r:D)(o:List D):kg pm s dst [] (some (r,o))=some (s.putO dst r):=by
 simp only [kg];split<;>rfl
def xh(E:Env)(pm:Pm)(s:St)(dst:Option Tmp)(f:FuncId)(caps:List D):Option (List D×List (A5×D))→Option St
 | none=>none
 | some (as,ls)=>
   if CS (ls.map (·.1))&&ls.all (fun l=>pm.wr (l.1.headD 0))&&ls.all (fun l=>Su l.2)then
    match E.call f (as++caps) (ls.map (·.2))with
    | some (r,outs)=>if outs.length=ls.length then some ((HX s (ls.map (·.1)) outs).putO dst r)else none
    | none=>none
   else none
theorem cdL(f:FuncId)(xs:List (Operand×TypeId))(caps:List D)(h:E.lends f=true):GH E pm s dst f xs caps=xh E pm s dst f caps (Bx E true pm s 0 xs):=by
 unfold GH xh
 rw [h]
 simp only [if_true]
 rcases Bx E true pm s 0 xs with _ | ⟨as,ls⟩<;>rfl
def nc(s:St)(dst:Option Tmp)(ls:List (A5×D)):Option (D×List D)→Option St
 | some (r,outs)=>if outs.length=ls.length then some ((HX s (ls.map (·.1)) outs).putO dst r)else none
 | none=>none
theorem A0L(f:FuncId)(caps as:List D)(ls:List (A5×D))(h:(CS (ls.map (·.1))&&ls.all (fun l=>pm.wr (l.1.headD 0))&&ls.all (fun l=>Su l.2))=true):xh E pm s dst f caps (some (as,ls))=nc s dst ls (E.call f (as++caps) (ls.map (·.2))):=by
 simp only [xh,h,if_true]
 rcases E.call f (as++caps) (ls.map (·.2))with _ | ⟨r,o⟩<;>rfl
theorem A0M(ls:List (A5×D))(r:D)(outs:List D)(h:outs.length=ls.length):nc s dst ls (some (r,outs))=some ((HX s (ls.map (·.1)) outs).putO dst r):=by simp [nc,h]
end
theorem rf(k:IntKind)(n:Int):BQ (.int k n)=false:=by simp [BQ]
theorem ki(b:Bool):BQ (.bool b)=false:=by simp [BQ]
theorem rg(b:ByteArray):BQ (.str b)=false:=by simp [BQ]
theorem gl(e:TypeId)(xs:List D):BQ (.own e xs)=BR xs:=by simp [BQ]
theorem rh(xs:List D):BQ (.box xs)=BR xs:=by simp [BQ]
theorem ri(xs:List D):BQ (.agg xs)=BR xs:=by simp [BQ]
theorem rj(xs:List D):BQ (.tup xs)=BR xs:=by simp [BQ]
theorem kj:BR []=false:=by simp [BR]
theorem ZB(d:D)(ds:List D):BR (d::ds)=(BQ d||BR ds):=by simp [BR]
theorem rk(k:IntKind)(n:Int):Bz (.int k n)=some (.int k n):=by simp [Bz]
theorem kl(b:Bool):Bz (.bool b)=some (.bool b):=by simp [Bz]
theorem rl(b:ByteArray):Bz (.str b)=some (.str b):=by simp [Bz]
theorem rm(e:TypeId)(xs:List D):Bz (.sl e xs)=some (.sl e xs):=by simp [Bz]
theorem rn(f:FuncId)(xs:List D):Bz (.clo f xs)=some (.clo f xs):=by simp [Bz]
theorem ko(xs:List D):Bz (.cptr xs)=some (.cptr xs):=by simp [Bz]
def ro(f:List D→D):Option (List D)→Option D
 | some xs=>some (f xs)
 | none=>none
theorem rp(f:List D→D)(xs:List D):ro f (some xs)=some (f xs):=nr rfl
theorem cG(e:TypeId)(xs:List D):Bz (.own e xs)=ro (.sl e) (BI xs):=by simp only [Bz];cases BI xs<;>rfl
theorem rq(xs:List D):Bz (.box xs)=ro .cptr (BI xs):=by simp only [Bz];cases BI xs<;>rfl
theorem rr(xs:List D):Bz (.agg xs)=ro .agg (BI xs):=by simp only [Bz];cases BI xs<;>rfl
theorem rt(xs:List D):Bz (.tup xs)=ro .tup (BI xs):=by simp only [Bz];cases BI xs<;>rfl
theorem kp:BI []=some []:=by simp [BI]
def fzC:Option D→Option (List D)→Option (List D)
 | some d,some ds=>some (d::ds)
 | _,_=>none
theorem A0N(d:D)(ds:List D):fzC (some d) (some ds)=some (d::ds):=nr rfl
theorem P9(d:D)(ds:List D):BI (d::ds)=fzC (Bz d) (BI ds):=by
 simp only [BI];cases Bz d<;>cases BI ds<;>rfl
theorem A0O(d:D):Su d=(Bz d).isSome:=nr rfl
section
variable {T:Tys} {s:St}
def ar(n:Nat):Option (D×St)→Option (D×List D)
 | none=>none
 | some (r,s')=>if Su r&&((List.range n).map fun j=>s'.v (G+j)).all Sv then some (r,(List.range n).map fun j=>s'.v (G+j))else none
theorem fiD(n:Nat)(rs:List ResultVar):RF T n rs s=ar n (Ih T s rs):=by
 unfold RF ar
 rcases Ih T s rs with _ | ⟨r,s'⟩<;>rfl
theorem fi0(r:D):ar 0 (some (r,s))=if Su r then some (r,[])else none:=by simp [ar]
theorem fiA(r:D):ar 1 (some (r,s))=if Su r&&Sv (s.v 100000)then some (r,[s.v 100000])else none:=by
 simp [ar,G,List.range_succ]
theorem fiB(r:D):ar 2 (some (r,s))=if Su r&&(Sv (s.v 100000)&&Sv (s.v 100001))then some (r,[s.v 100000,s.v 100001])else none:=by
 simp [ar,G,List.range_succ,and_assoc]
theorem fiC(r:D):ar 3 (some (r,s))=if Su r&&(Sv (s.v 100000)&&(Sv (s.v 100001)&&Sv (s.v 100002)))then some (r,[s.v 100000,s.v 100001,s.v 100002])else none:=by
 simp [ar,G,List.range_succ,and_assoc]
theorem fiE(r:D):ar 4 (some (r,s))=if Su r&&(Sv (s.v 100000)&&(Sv (s.v 100001)&&(Sv (s.v 100002)&&Sv (s.v 100003))))then some (r,[s.v 100000,s.v 100001,s.v 100002,s.v 100003])else none:=by
 simp [ar,G,List.range_succ,and_assoc]
theorem kq(e:TypeId)(xs:List D):Sv (.own e xs)=(Bz (.own e xs)).isSome:=nr rfl
theorem kr(xs:List D):Sv (.box xs)=(Bz (.box xs)).isSome:=nr rfl
theorem A0P:Sv .undef=true:=nr rfl
theorem ru(e:TypeId)(xs:List D):Sv (.sl e xs)=true:=by simp [Sv,Bz]
theorem re1(r:ResultVar):Ih T s [r]=PT T s r:=nr rfl
def reT:Option (List D×St)→Option (D×St)
 | some q=>some (.tup q.1,q.2)
 | none=>none
theorem A0Q(q:List D×St):reT (some q)=some (.tup q.1,q.2):=nr rfl
theorem re2(r r':ResultVar)(rs:List ResultVar):Ih T s (r::r'::rs)=reT (JH T s (r::r'::rs)):=by
 show((JH T s (r::r'::rs)).map fun q=>(D.tup q.1,q.2))=_
 cases JH T s (r::r'::rs)<;>rfl
theorem re0:Ih T s []=some (.tup [],s):=nr rfl
theorem rx(t:Tmp):PT T s (.tmp t)=RD Pm.all s t (s.v t):=nr rfl
theorem ry:JH T s []=some ([],s):=nr rfl
def rdN(T:Tys)(rs:List ResultVar):Option (D×St)→Option (List D×St)
 | some (d,s)=>(JH T s rs).map fun p=>(d::p.1,p.2)
 | none=>none
theorem A0R(rs:List ResultVar)(d:D):rdN T rs (some (d,s))=(JH T s rs).map fun p=>(d::p.1,p.2):=nr rfl
theorem ks(r:ResultVar)(rs:List ResultVar):JH T s (r::rs)=rdN T rs (PT T s r):=by
 simp only [JH]
 rcases PT T s r with _ | ⟨d,s'⟩<;>rfl
theorem A0S(r:Nat):Pm.all.rd r=true:=nr rfl
theorem A0T(r:Nat):Pm.all.wr r=true:=nr rfl
def RC(s:St)(dst:Option Tmp)(u:Tmp)(i:Nat):Option D→Option St
 | none=>none
 | some (.agg ys)=>H9 s dst (Ay (.agg ((List.range ys.length).map fun j=>CO s [u,i] j (ys.getD j .undef))))
 | some c=>H9 s dst (Ay (CO s [u] i c))
theorem rz(dst:Option Tmp)(u:Tmp)(xs:List D)(i:Nat):Fe s dst (.tmp u) (.tup xs) i=RC s dst u i xs[i]? :=by
 simp only [Fe]
 rcases xs[i]? with _ | c
 ·rfl
 ·cases c<;>first | exact Gu s dst _ | rfl
theorem s0(dst:Option Tmp)(u:Tmp)(i:Nat)(ys:List D):RC s dst u i (some (.agg ys))=H9 s dst (Ay (.agg ((List.range ys.length).map fun j=>CO s [u,i] j (ys.getD j .undef)))):=nr rfl
theorem s5(dst:Option Tmp)(u:Tmp)(i:Nat)(k:IntKind)(n:Int):RC s dst u i (some (.int k n))=some (s.putO dst (.int k n)):=by simp [RC,Ay,CO,D.hasObj,H9]
theorem kt(dst:Option Tmp)(u:Tmp)(i:Nat)(b:Bool):RC s dst u i (some (.bool b))=some (s.putO dst (.bool b)):=by simp [RC,Ay,CO,D.hasObj,H9]
theorem sA(dst:Option Tmp)(u:Tmp)(i:Nat)(b:ByteArray):RC s dst u i (some (.str b))=some (s.putO dst (.str b)):=by simp [RC,Ay,CO,D.hasObj,H9]
theorem A0U(dst:Option Tmp)(u:Tmp)(i:Nat)(e:TypeId)(xs:List D):RC s dst u i (some (.sl e xs))=some (s.putO dst (.sl e xs)):=by simp [RC,Ay,CO,D.hasObj,H9]
theorem sB(dst:Option Tmp)(u:Tmp)(i:Nat)(e:TypeId)(xs:List D):RC s dst u i (some (.own e xs))=some (s.putO dst (.vw [u,i] (s.k u) (s.m u))):=by simp [RC,Ay,CO,D.hasObj,H9,X9]
theorem sC(dst:Option Tmp)(u:Tmp)(i:Nat)(f:FuncId)(xs:List D):RC s dst u i (some (.clo f xs))=some (s.putO dst (.clo f xs)):=by simp [RC,Ay,CO,D.hasObj,H9]
theorem sD(xs:List D)(c:Nat)(p:A5):Ai (.tup xs) (c::p)=(xs[c]?).bind fun d=>Ai d p:=nr rfl
theorem sG(xs:List D)(c:Nat)(p:A5)(x:D):DY (.tup xs) (c::p) x= .tup (xs.set c (DY (xs.getD c .undef) p x)):=nr rfl
theorem A0V(L:A5)(xs:List D)(c:D):na s L (some (.tup xs)) (some c)=some (c,s.set L .undef):=nr rfl
theorem sI(deep:Bool):back deep s []=s:=nr rfl
theorem bkT(t:Nat)(p:A5)(c:D)(rest:List (A5×D)):back true s ((t::p,c)::rest)=back true ((s.set (t::p) c).bump t) rest:=nr rfl
theorem bkF(t:Nat)(p:A5)(c:D)(rest:List (A5×D)):back false s ((t::p,c)::rest)=back false (s.set (t::p) c) rest:=nr rfl
theorem bkE(deep:Bool)(c:D)(rest:List (A5×D)):back deep s (([],c)::rest)=back deep s rest:=nr rfl
theorem bkL(Ls:List A5)(outs:List D):HX s Ls outs=back true (back false s (Ls.map fun L=>(L, .undef))) (Ls.zip outs):=nr rfl
theorem sJ:CS []=true:=nr rfl
theorem ku(L:A5)(Ls:List A5):CS (L::Ls)=((L.isEmpty||Ls.all fun M=>M.isEmpty||(!L.isPrefixOf M&& !M.isPrefixOf L))&&CS Ls):=nr rfl
theorem ipC(a b:Nat)(l m:A5):List.isPrefixOf (a::l) (b::m)=(a==b&&List.isPrefixOf l m):=nr rfl
theorem ipN(l:A5):List.isPrefixOf [] l=true:=by cases l<;>rfl
theorem ipE(a:Nat)(l:A5):List.isPrefixOf (a::l) []=false:=nr rfl
theorem ieC(a:Nat)(l:A5):List.isEmpty (a::l)=false:=nr rfl
theorem ieN:List.isEmpty ([]:A5)=true:=nr rfl
end
section
variable {T:Tys} {pm:Pm} {s:St}
def fl1(T:Tys)(pm:Pm)(tf:Nat→TypeId)(sz:Nat)(cs:List D)(i:Nat)(rest:List (Nat×Operand)):Option (D×St)→Option (List D×St)
 | none=>none
 | some (d,s1)=>if d.asCells.length=sz∧i*sz+sz≤cs.length then Da T pm tf sz s1 (B3 cs (i*sz) d.asCells) rest else none
theorem sK(tf:Nat→TypeId)(sz:Nat)(cs:List D):Da T pm tf sz s cs []=some (cs,s):=nr rfl
theorem kv(tf:Nat→TypeId)(sz:Nat)(cs:List D)(i:Nat)(x:Operand)(rest:List (Nat×Operand)):Da T pm tf sz s cs ((i,x)::rest)=fl1 T pm tf sz cs i rest (take T pm s (tf i) x):=by
 simp only [Da]
 rcases take T pm s (tf i) x with _ | ⟨d,s1⟩<;>rfl
theorem A0X(tf:Nat→TypeId)(cs:List D)(i:Nat)(rest:List (Nat×Operand))(d:D)(h:d.isAgg=false):fl1 T pm tf 1 cs i rest (some (d,s))=if i+1≤cs.length then Da T pm tf 1 s (cs.set i d) rest else none:=by
 have ha:d.asCells=[d]:=by cases d<;>first | rfl | (simp [D.isAgg]at h)
 simp only [fl1,ha,List.length_cons,List.length_nil,Nat.zero_add,Nat.mul_one,true_and,B3]
end
section
variable (pm:Pm) (s:St) (u:Tmp)
def Mh(pm:Pm)(u:Tmp)(d:D):Bool:= !d.hasObj||d.isObj||pm.wr u
theorem mvT:EA pm s (.move (.tmp u))=Mh pm u (s.v u):=nr rfl
theorem A0Y(v:Value):EA pm s (.move (.const v))=true:=nr rfl
theorem A0Z(f:FuncId):EA pm s (.move (.func f))=true:=nr rfl
theorem kw(k:IntKind)(n:Int):Mh pm u (.int k n)=true:=by simp [Mh,D.hasObj]
theorem fw(b:Bool):Mh pm u (.bool b)=true:=by simp [Mh,D.hasObj]
theorem kx(b:ByteArray):Mh pm u (.str b)=true:=by simp [Mh,D.hasObj]
theorem sL(e:TypeId)(xs:List D):Mh pm u (.sl e xs)=true:=by simp [Mh,D.hasObj]
theorem ky(e:TypeId)(xs:List D):Mh pm u (.own e xs)=true:=by simp [Mh,D.isObj]
theorem kz(xs:List D):Mh pm u (.box xs)=true:=by simp [Mh,D.isObj]
theorem sM(L:A5)(n m:Nat):Mh pm u (.vw L n m)=true:=by simp [Mh,D.hasObj]
theorem sN(L:A5)(c n m:Nat):Mh pm u (.pe L c n m)=true:=by simp [Mh,D.hasObj]
theorem A0a(v:Value):Mh pm u (.konst v)=true:=by simp [Mh,D.hasObj]
theorem l3(f:FuncId)(xs:List D):Mh pm u (.clo f xs)=true:=by simp [Mh,D.hasObj]
theorem fx(xs:List D):Mh pm u (.cptr xs)=true:=by simp [Mh,D.hasObj]
theorem l4(xs:List D):Mh pm u (.agg xs)=(!AF xs||pm.wr u):=by simp [Mh,D.hasObj,D.isObj]
theorem l5(xs:List D):Mh pm u (.tup xs)=(!AF xs||pm.wr u):=by simp [Mh,D.hasObj,D.isObj]
theorem cH(x:Operand):EA pm s (.assign x)=true:=nr rfl
theorem l6(a b c:Operand):EA pm s (.pick a b c)=true:=nr rfl
theorem fy(t:TypeId):EA pm s (.alloc t)=true:=nr rfl
theorem sO(t:TypeId)(x:Operand):EA pm s (.box t x)=true:=nr rfl
theorem g4(t:TypeId)(p:Array (Nat×Operand)):EA pm s (.build t p)=true:=nr rfl
theorem A0b(t:TypeId)(n:Nat)(p:Array (Nat×Operand)):EA pm s (.buildSlice t n p)=true:=nr rfl
theorem l7(t:TypeId)(x:Operand):EA pm s (.load t x)=true:=nr rfl
theorem g5(t:TypeId)(x y:Operand):EA pm s (.store t x y)=true:=nr rfl
theorem sP(o:BinOp)(t:TypeId)(x y:Operand)(t':TypeId):EA pm s (.binOp o t x y t')=true:=nr rfl
theorem A0c(o:UnOp)(t:TypeId)(x:Operand):EA pm s (.unOp o t x)=true:=nr rfl
theorem l8(t t':TypeId)(x:Operand):EA pm s (.convert t t' x)=true:=nr rfl
theorem A0d(f:Fn)(a b:Array Operand):EA pm s (.makeFunc f a b)=true:=nr rfl
theorem A0e(t:TypeId)(a b:Operand):EA pm s (.makeSlice t a b)=true:=nr rfl
theorem A0f(t:TypeId)(x:Operand)(a b c:Option Operand):EA pm s (.slice t x a b c)=true:=nr rfl
theorem A0g(x:Operand):EA pm s (.nilCheck x)=true:=nr rfl
theorem A0h(t:TypeId)(x:Operand)(i:Nat):EA pm s (.fieldAddr t x i)=true:=nr rfl
theorem A0i(t:TypeId)(x i:Operand):EA pm s (.indexAddr t x i)=true:=nr rfl
theorem A0j(x:Operand)(i:Nat):EA pm s (.extract x i)=true:=nr rfl
theorem l9(c:Call):EA pm s (.call c)=true:=nr rfl
theorem pmR(n r w:List Nat)(x:Nat):(PmL.pm ⟨n,r,w⟩).rd x=(n.contains x|| !r.contains x):=nr rfl
theorem pmW(n r w:List Nat)(x:Nat):(PmL.pm ⟨n,r,w⟩).wr x=w.contains x:=nr rfl
end
end Dv
namespace Dv
open Go
theorem Gl(n:Int)(h: -9223372036854775808≤n∧n≤9223372036854775807):IntKind.i64.wrap n=n:=IntWalk.i64_in n h
section
variable {T:Tys} {pm:Pm} {s:St} {t:TypeId}
theorem aE(xs:List Int)(i:Nat)(h:i<xs.length):(BP xs).getD i .undef= .int .i64 (xs.getD i 0):=by
 simp [BP,List.getD_eq_getElem?_getD,h]
theorem Mi(xs:List Int)(i:Nat)(h:i<xs.length):(BP xs)[i]? =some (.int .i64 (xs.getD i 0)):=by
 simp [BP,List.getD_eq_getElem?_getD,h]
theorem cI(xs:List Int)(i:Nat)(n:Int):(BP xs).set i (.int .i64 n)=BP (xs.set i n):=by simp [BP]
theorem WA(xs ys:List Int):BP xs++BP ys=BP (xs++ys):=by simp [BP]
theorem SU(x:Int)(xs:List Int):BP (x::xs)= .int .i64 x::BP xs:=nr rfl
theorem cJ(n:Nat)(x:Int):List.replicate n (D.int .i64 x)=BP (List.replicate n x):=by simp [BP]
theorem A0k(e:TypeId)(n:Int)(xs:List Int)(hk:T.known e=true)(hz:T.size e=1)(hn:0≤n∧n.toNat<xs.length):SS T e n (some (e,BP xs,none))=some (.cptr [.int .i64 (xs.getD n.toNat 0)]):=by
 rw [kC e n (BP xs) hk hz (by simpa [BP] using hn),aE xs _ hn.2]
theorem sQ(e:TypeId)(n:Int)(xs:List Int)(L:A5)(a b:Nat)(hk:T.known e=true)(hz:T.size e=1)(hn:0≤n∧n.toNat<xs.length):SS T e n (some (e,BP xs,some (L,a,b)))=some (.pe L n.toNat a b):=
 ft e n (BP xs) L a b hk hz (by simpa [BP] using hn)
def Q6(e:TypeId)(xss:List (List Int)):List D:=xss.map fun xs=> .sl e (BP xs)
def Jv(e:TypeId)(xss:List (List Int)):List D:=xss.map fun xs=> .own e (BP xs)
theorem Xy(e:TypeId)(xss:List (List Int)):(Q6 e xss).length=xss.length:=by simp [Q6]
theorem WB(e:TypeId)(xss:List (List Int)):(Jv e xss).length=xss.length:=by simp [Jv]
theorem Xz(e:TypeId)(xss:List (List Int)):AF (Q6 e xss)=false:=by
 induction xss with
 | nil=>rfl
 | cons x xss ih=>simp only [Q6,List.map_cons,AF,D.hasObj,Bool.false_or];exact ih
theorem g6(e:TypeId)(xss:List (List Int)):BI (Q6 e xss)=some (Q6 e xss):=by
 induction xss with
 | nil=>rfl
 | cons x xss ih=>simp only [Q6,List.map_cons,P9,rm]at ih ⊢;rw [ih];rfl
theorem cK(e:TypeId)(xss:List (List Int)):BI (Jv e xss)=some (Q6 e xss):=by
 induction xss with
 | nil=>rfl
 | cons x xss ih=>simp only [Jv,Q6,List.map_cons,P9,cG,W7,rp]at ih ⊢;rw [ih];rfl
theorem Y1(e:TypeId)(xss:List (List Int)):BR (Jv e xss)=false:=by
 induction xss with
 | nil=>rfl
 | cons x xss ih=>simp only [Jv,List.map_cons,ZB,gl,Q5,Bool.false_or];exact ih
theorem aF(e:TypeId)(xss:List (List Int)):(Q6 e xss).all Ax=true:=by simp [Q6,Ax]
theorem Y2(e:TypeId)(xss:List (List Int)):(Jv e xss).all Ax=true:=by simp [Jv,Ax]
theorem cL(e:TypeId)(xss:List (List Int))(i:Nat)(h:i<xss.length):(Q6 e xss).getD i .undef= .sl e (BP (xss.getD i [])):=by
 simp [Q6,List.getD_eq_getElem?_getD,h]
theorem lA(e:TypeId)(xss:List (List Int))(i:Nat)(h:i<xss.length):(Q6 e xss)[i]? =some (.sl e (BP (xss.getD i []))):=by
 simp [Q6,List.getD_eq_getElem?_getD,h]
theorem g7(e:TypeId)(xss:List (List Int))(i:Nat)(h:i<xss.length):(Jv e xss)[i]? =some (.own e (BP (xss.getD i []))):=by
 simp [Jv,List.getD_eq_getElem?_getD,h]
theorem cM(e:TypeId)(xss:List (List Int))(i:Nat)(x:List Int):(Jv e xss).set i (.own e (BP x))=Jv e (xss.set i x):=by simp [Jv]
theorem TP(e:TypeId)(x:List Int)(xss:List (List Int)):AF (Jv e (x::xss))=true:=by simp [Jv,AF,D.hasObj]
theorem A0l(e e':TypeId)(n:Int)(xss:List (List Int))(hk:T.known e=true)(hz:T.size e=1)(hn:0≤n∧n.toNat<xss.length):SS T e n (some (e,Q6 e' xss,none))=some (.cptr [.sl e' (BP (xss.getD n.toNat []))]):=by
 rw [kC e n (Q6 e' xss) hk hz (by simpa [Q6] using hn),cL e' xss _ hn.2]
theorem sR(e e':TypeId)(n:Int)(xss:List (List Int))(L:A5)(a b:Nat)(hk:T.known e=true)(hz:T.size e=1)(hn:0≤n∧n.toNat<xss.length):SS T e n (some (e,Jv e' xss,some (L,a,b)))=some (.pe L n.toNat a b):=
 ft e n (Jv e' xss) L a b hk hz (by simpa [Jv] using hn)
variable {E:Env} {dst:Option Tmp} {ty:TypeId}
def sT(e:TypeId)(dst:Option Tmp):Option (List D×St)→Option St
 | some (xs,s)=>some (s.putO dst (.own e xs))
 | none=>none
theorem sU(e:TypeId)(xs:List D):sT e dst (some (xs,s))=some (s.putO dst (.own e xs)):=nr rfl
def aG(dst:Option Tmp):Option (List D×St)→Option St
 | some (xs,s)=>some (s.putO dst (.agg xs))
 | none=>none
theorem sV(xs:List D):aG dst (some (xs,s))=some (s.putO dst (.agg xs)):=nr rfl
theorem WC(T:Tys){e:TypeId}(hs:T.isStruct e=false):T.size e=1∧T.zeros e=[T.zero1 e]:=by
 unfold Tys.isStruct at hs
 unfold Tys.size Tys.zeros
 cases hty:T.ty e<;>simp_all [Ty.isStruct,Ty.size]
def cN(E:Env)(pm:Pm)(s:St)(dst:Option Tmp)(len:Nat)(parts:Array (Nat×Operand)):Ty→Option St
 | .slice e=>
   if len*E.T.size e≤4096∧E.T.known e=true then
    (Da E.T pm (fun _=>e) (E.T.size e) s ((List.range (len*E.T.size e)).map fun j=>(E.T.zeros e).getD (j % E.T.size e) .undef) parts.toList).map fun r=>r.2.putO dst (.own e r.1)
   else none
 | _=>none
theorem lB(len:Nat)(parts:Array (Nat×Operand)):PQ E.T pm s dst t len parts=cN E pm s dst len parts (E.T.ty t):=by
 unfold PQ cN
 cases E.T.ty t<;>rfl
theorem yBs(len:Nat)(parts:Array (Nat×Operand)):IA E pm s dst (.buildSlice t len parts) ty=if ty=900004 then ym pm dst (cN E pm s dst len parts (E.T.ty t))else cN E pm s dst len parts (E.T.ty t):=by
 rw [Q3,lB]
 by_cases h:ty=900004
 ·rw [if_pos h,if_pos h]
  unfold ym
  cases cN E pm s dst len parts (E.T.ty t)<;>cases dst<;>rfl
 ·rw [if_neg h,if_neg h]
theorem A0m(len:Nat)(parts:Array (Nat×Operand))(e:TypeId)(hk:E.T.known e=true)(hs:E.T.isStruct e=false)(hl:len≤4096):
  cN E pm s dst len parts (.slice e)=sT e dst (Da E.T pm (fun _=>e) 1 s (List.replicate len (E.T.zero1 e)) parts.toList):=by
 obtain⟨hz,hzz⟩:=WC E.T hs
 have hrep:((List.range (len*1)).map fun j=>(E.T.zeros e).getD (j % 1) .undef)=List.replicate len (E.T.zero1 e):=by
  rw [hzz]
  apply List.ext_getElem
  ·simp
  ·intro i h1 h2
   simp [Nat.mod_one]
 simp only [cN,hz]
 rw [if_pos ⟨by omega,hk⟩,hrep]
 rcases Da E.T pm (fun _=>e) 1 s (List.replicate len (E.T.zero1 e)) parts.toList with _ | ⟨a,b⟩<;>rfl
def bsA(E:Env)(e:TypeId)(dst:Option Tmp):Option (D×St)→Option St
 | some (d,s1)=>if d.asCells.length=E.T.size e then some (s1.putO dst (.own e d.asCells))else none
 | none=>none
theorem A0o(e:TypeId)(xs:List D)(h:xs.length=E.T.size e):bsA E e dst (some (.agg xs,s))=some (s.putO dst (.own e xs)):=by
 show(if xs.length=E.T.size e then some (s.putO dst (.own e xs))else none)=_
 rw [if_pos h]
theorem WD(cs ys:List D)(h:ys.length=cs.length):B3 cs 0 ys=ys:=by
 refine List.ext_getElem? fun i=> ?_
 rw [Jb0 (by omega)]
 by_cases hi:i<ys.length
 ·rw [if_pos (by omega)];rfl
 ·rw [if_neg (by omega),List.getElem?_eq_none (by omega),List.getElem?_eq_none (by omega)]
theorem A0p(e:TypeId)(x:Operand)(hk:E.T.known e=true)(hs:E.T.isStruct e=true)(hz:E.T.size e≤4096):cN E pm s dst 1 #[(0,x)] (.slice e)=bsA E e dst (take E.T pm s e x):=by
 simp only [cN,Da]
 rw [if_pos ⟨by omega,hk⟩]
 rcases take E.T pm s e x with _ | ⟨d,s1⟩
 ·rfl
 ·simp only [bsA]
  by_cases h:d.asCells.length=E.T.size e
  ·rw [if_pos ⟨h,by simp⟩,if_pos h,Nat.zero_mul,WD _ _ (by simp [h])];rfl
  ·rw [if_neg (fun hc=>h hc.1),if_neg h];rfl
theorem A0q(u:Tmp)(e:TypeId)(L:A5)(n m lo len:Nat):Ad pm s dst (.tmp u) (.vs e L n m lo len)=some (s.putO dst (.vs e L n m lo len)):=by
 show some (if(D.vs e L n m lo len).hasObj then(s.clr u).putO dst (.vs e L n m lo len)else s.putO dst (.vs e L n m lo len))=_
 rw [if_neg (by simp [D.hasObj])]
theorem A0r(e:TypeId)(hk:E.T.known e=true):cN E pm s dst 0 #[] (.slice e)=some (s.putO dst (.own e [])):=by
 simp [cN,hk,Da]
def xi(E:Env)(pm:Pm)(s:St)(dst:Option Tmp)(t:TypeId)(parts:Array (Nat×Operand)):Option St:=
 match E.T.ty t with
 | .struct fs=>if E.T.known t then aG dst (Da E.T pm (fun i=>fs.getD i 0) 1 s (E.T.zeros t) parts.toList)else none
 | _=>none
def sW(E:Env)(pm:Pm)(s:St)(dst:Option Tmp)(t:TypeId)(parts:Array (Nat×Operand)):Option (List (Nat×TypeId))→Option St
 | some fl=>if E.T.isStruct t&&E.T.known t then aG dst (Gq E.T pm fl s (E.T.zeros t) parts.toList)else none
 | none=>xi E pm s dst t parts
theorem lC(parts:Array (Nat×Operand)):IA E pm s dst (.build t parts) ty=sW E pm s dst t parts (E.T.nest t):=by
 rw [Zv]
 unfold sW xi
 cases E.T.nest t with
 | some fl=>
  simp only
  split
  ·rcases Gq E.T pm fl s (E.T.zeros t) parts.toList with _ | ⟨a,b⟩<;>rfl
  ·rfl
 | none=>
  simp only
  cases E.T.ty t with
  | struct fs=>
   simp only
   split
   ·rcases Da E.T pm (fun i=>fs.getD i 0) 1 s (E.T.zeros t) parts.toList with _ | ⟨a,b⟩<;>rfl
   ·rfl
  | _=>rfl
theorem A0s(parts:Array (Nat×Operand))(fl:List (Nat×TypeId))(hk:E.T.known t=true)(hs:E.T.isStruct t=true):sW E pm s dst t parts (some fl)=aG dst (Gq E.T pm fl s (E.T.zeros t) parts.toList):=by
 simp [sW,hk,hs]
def xj(E:Env)(pm:Pm)(s:St)(dst:Option Tmp)(t:TypeId)(parts:Array (Nat×Operand)):Ty→Option St
 | .struct fs=>if E.T.known t then aG dst (Da E.T pm (fun i=>fs.getD i 0) 1 s (E.T.zeros t) parts.toList)else none
 | _=>none
theorem A0t(parts:Array (Nat×Operand)):sW E pm s dst t parts none=xj E pm s dst t parts (E.T.ty t):=by
 show xi E pm s dst t parts=_
 unfold xi xj
 cases E.T.ty t<;>rfl
theorem A0u(parts:Array (Nat×Operand))(fs:List TypeId)(hk:E.T.known t=true):xj E pm s dst t parts (.struct fs)=aG dst (Da E.T pm (fun i=>fs.getD i 0) 1 s (E.T.zeros t) parts.toList):=by
 simp [xj,hk]
def sX(T:Tys)(pm:Pm)(fl:List (Nat×TypeId))(cs:List D)(off:Nat)(ty:TypeId)(rest:List (Nat×Operand)):Option (D×St)→Option (List D×St)
 | none=>none
 | some (d,s1)=>if d.asCells.length=T.size ty∧off+T.size ty≤cs.length then Gq T pm fl s1 (B3 cs off d.asCells) rest else none
theorem sY(T:Tys)(fl:List (Nat×TypeId))(cs:List D):Gq T pm fl s cs []=some (cs,s):=nr rfl
def fn0(T:Tys)(pm:Pm)(fl:List (Nat×TypeId))(s:St)(cs:List D)(x:Operand)(rest:List (Nat×Operand)):Option (Nat×TypeId)→Option (List D×St)
 | none=>none
 | some (off,ty)=>sX T pm fl cs off ty rest (take T pm s ty x)
theorem lD(T:Tys)(fl:List (Nat×TypeId))(cs:List D)(i:Nat)(x:Operand)(rest:List (Nat×Operand)):Gq T pm fl s cs ((i,x)::rest)=fn0 T pm fl s cs x rest (fl[i]?):=by
 simp only [Gq]
 rcases fl[i]? with _ | ⟨off,ty⟩
 ·rfl
 ·simp only [fn0,sX]
  rcases take T pm s ty x with _ | ⟨d,s1⟩<;>rfl
theorem A0w(T:Tys)(fl:List (Nat×TypeId))(cs:List D)(x:Operand)(rest:List (Nat×Operand))(off:Nat)(ty:TypeId):fn0 T pm fl s cs x rest (some (off,ty))=sX T pm fl cs off ty rest (take T pm s ty x):=nr rfl
theorem A0x(T:Tys)(fl:List (Nat×TypeId))(cs:List D)(off:Nat)(ty:TypeId)(rest:List (Nat×Operand))(d:D)(h1:d.asCells.length=T.size ty)(h2:off+T.size ty≤cs.length):
  sX T pm fl cs off ty rest (some (d,s))=Gq T pm fl s (B3 cs off d.asCells) rest:=by simp only [sX,h1,h2,and_self,if_true]
theorem fnA(ds:List D):(D.agg ds).asCells=ds:=nr rfl
theorem spN(cs:List D)(c:Nat):B3 cs c []=cs:=by cases cs<;>rfl
theorem spC(cs:List D)(c:Nat)(y:D)(ys:List D):B3 cs c (y::ys)=B3 (cs.set c y) (c+1) ys:=by cases cs<;>rfl
def nd(T:Tys)(n:Int):Ty→Option D
 | .slice e=>if 0≤n∧n<1099511627776∧T.elem e=true then
   if T.isStruct e=true then some (.own e (List.replicate n.toNat (T.zeros e)).flatten)
   else if T.size e=1 then some (.own e (List.replicate n.toNat (T.zero1 e)))else none
  else none
 | _=>none
theorem yMk(n:Int):E9 T t (.int .i64 n) (.int .i64 n)=nd T n (T.ty t):=by
 unfold E9 nd
 cases T.ty t<;>simp
theorem A0y(n:Int)(e:TypeId)(hk:T.known e=true)(h4:T.size e≤4)(hs:T.isStruct e=false)(h0:0≤n)(hn:n<1099511627776):nd T n (.slice e)=some (.own e (List.replicate n.toNat (T.zero1 e))):=by
 obtain⟨hz,_⟩:=WC T hs
 simp only [nd]
 rw [if_pos ⟨h0,hn,P8 hk h4⟩,if_neg (by rw [hs];decide),if_pos hz]
theorem A0z(n:Int)(e:TypeId)(hk:T.known e=true)(h4:T.size e≤4)(hs:T.isStruct e=true)(h0:0≤n)(hn:n<1099511627776):nd T n (.slice e)=some (.own e (List.replicate n.toNat (T.zeros e)).flatten):=by
 simp only [nd]
 rw [if_pos ⟨h0,hn,P8 hk h4⟩,if_pos hs]
end
end Dv
namespace Dv
open Go
def au(n:Int):Prop:= -9223372036854775808≤n∧n≤9223372036854775807
theorem lE{n:Int}(h:(Lit.int .i64 n).wf=true):au n:=by
 have h1:IntKind.i64.min= -9223372036854775808:=by decide
 have h2:IntKind.i64.max=9223372036854775807:=by decide
 simp only [Lit.wf,h1,h2,Bool.and_eq_true,decide_eq_true_eq]at h
 exact h
section
variable {T:Tys} {t e:TypeId} {d:D}
theorem Q7{ds:List D}(ht:T.ty t= .int .i64)(h:Shp T t ds): ∃n,ds=[.int .i64 n]∧au n:=by
 cases h with
 | int ht' hw=>rw [ht]at ht';injection ht' with ht';subst ht';exact⟨_,rfl,lE hw⟩
 | bool ht'=>rw [ht]at ht';cases ht'
 | string ht'=>rw [ht]at ht';cases ht'
 | slice ht'=>rw [ht]at ht';cases ht'
 | struct ht'=>rw [ht]at ht';cases ht'
theorem Mj{ds:List D}(ht:T.ty t= .slice e)(h:Shp T t ds): ∃xss:List (List D),ds=[.sl e xss.flatten]∧(∀xs,xs∈xss→Shp T e xs)∧xss.length≤maxLen:=by
 cases h with
 | int ht' hw=>rw [ht]at ht';cases ht'
 | bool ht'=>rw [ht]at ht';cases ht'
 | string ht' hs=>rw [ht]at ht';cases ht'
 | slice ht' hx hl=>rw [ht]at ht';injection ht' with ht';subst ht';exact⟨_,rfl,hx,hl⟩
 | struct ht'=>rw [ht]at ht';cases ht'
theorem SV{fs:List TypeId}{ds:List D}(ht:T.ty t= .struct fs)(h:Shp T t ds):ds.length=fs.length∧ ∀(i:Nat) (f:TypeId) (d:D),fs[i]? =some f→ds[i]? =some d→Shp T f [d]:=by
 cases h with
 | int ht' hw=>rw [ht]at ht';cases ht'
 | bool ht'=>rw [ht]at ht';cases ht'
 | string ht' hs=>rw [ht]at ht';cases ht'
 | slice ht' hx hl=>rw [ht]at ht';cases ht'
 | struct ht' hl hx=>rw [ht]at ht';injection ht' with ht';subst ht';exact⟨hl,hx⟩
def cO(xs:List Int):Prop:=xs.length≤maxLen∧ ∀x∈xs,au x
def ZC(xss:List (List Int)):Prop:=xss.length≤maxLen∧ ∀xs∈xss,cO xs
theorem TQ{ds:List D}(ht:T.ty t= .slice e)(he:T.ty e= .int .i64)(h:Shp T t ds): ∃xs,ds=[.sl e (BP xs)]∧cO xs:=by
 obtain⟨xss,rfl,hx,hl⟩:=Mj ht h
 have: ∀xss:List (List D),(∀xs,xs∈xss→Shp T e xs)→ ∃ys,xss.flatten=BP ys∧ys.length=xss.length∧ ∀y∈ys,au y:=by
  intro xss
  induction xss with
  | nil=>intro _;exact⟨[],rfl,rfl,by simp⟩
  | cons xs xss ih=>
   intro hx
   obtain⟨n,rfl,hn⟩:=Q7 he (hx xs (List.mem_cons_self))
   obtain⟨ys,h1,h2,h3⟩:=ih (fun q hq=>hx q (List.mem_cons_of_mem _ hq))
   refine⟨n::ys,by rw [List.flatten_cons,h1];rfl,by simp [h2],fun y hy=> ?_⟩
   rcases List.mem_cons.1 hy with rfl | hy
   ·exact hn
   ·exact h3 y hy
 obtain⟨ys,h1,h2,h3⟩:=this xss hx
 exact⟨ys,by rw [h1],by omega,h3⟩
theorem WE{e2:TypeId}{ds:List D}(ht:T.ty t= .slice e)(he:T.ty e= .slice e2)(he2:T.ty e2= .int .i64)(h:Shp T t ds): ∃xss,ds=[.sl e (Q6 e2 xss)]∧ZC xss:=by
 obtain⟨xss,rfl,hx,hl⟩:=Mj ht h
 have: ∀xss:List (List D),(∀xs,xs∈xss→Shp T e xs)→ ∃ys,xss.flatten=Q6 e2 ys∧ys.length=xss.length∧ ∀y∈ys,cO y:=by
  intro xss
  induction xss with
  | nil=>intro _;exact⟨[],rfl,rfl,by simp⟩
  | cons xs xss ih=>
   intro hx
   obtain⟨n,rfl,hn⟩:=TQ he he2 (hx xs (List.mem_cons_self))
   obtain⟨ys,h1,h2,h3⟩:=ih (fun q hq=>hx q (List.mem_cons_of_mem _ hq))
   refine⟨n::ys,by rw [List.flatten_cons,h1];rfl,by simp [h2],fun y hy=> ?_⟩
   rcases List.mem_cons.1 hy with rfl | hy
   ·exact hn
   ·exact h3 y hy
 obtain⟨ys,h1,h2,h3⟩:=this xss hx
 exact⟨ys,by rw [h1],by omega,h3⟩
theorem SW{fs:List TypeId}(ht:T.ty t= .struct fs)(h:nZ T t d): ∃ds,d= .agg ds∧ds.length=fs.length∧ ∀(i:Nat) (f:TypeId) (d:D),fs[i]? =some f→ds[i]? =some d→Shp T f [d]:=by
 obtain⟨ds,hs,rfl⟩:=h
 obtain⟨h1,h2⟩:=SV ht hs
 exact⟨ds,by simp [xa,Tys.isStruct,ht,Ty.isStruct],h1,h2⟩
theorem Y3{a b:TypeId}(ht:T.ty t= .struct [a,a,b,b])(ha:T.ty a= .int .i64)(hb:T.ty b= .slice e){e2:TypeId}(he:T.ty e= .slice e2)(he2:T.ty e2= .int .i64)(h:nZ T t d):
  ∃l k ns es,d= .agg [.int .i64 l, .int .i64 k, .sl e (Q6 e2 ns), .sl e (Q6 e2 es)]∧au l∧au k∧ZC ns∧ZC es:=by
 obtain⟨ds,rfl,hl,hx⟩:=SW ht h
 rcases ds with _ | ⟨d0,_ | ⟨d1,_ | ⟨d2,_ | ⟨d3,_ | ⟨_,_⟩⟩⟩⟩⟩<;>simp at hl
 obtain⟨l,h0,hl0⟩:=Q7 ha (hx 0 a d0 rfl rfl)
 obtain⟨k,h1,hl1⟩:=Q7 ha (hx 1 a d1 rfl rfl)
 obtain⟨ns,h2,hl2⟩:=WE hb he he2 (hx 2 b d2 rfl rfl)
 obtain⟨es,h3,hl3⟩:=WE hb he he2 (hx 3 b d3 rfl rfl)
 simp only [List.cons.injEq,and_true]at h0 h1 h2 h3
 subst h0 h1 h2 h3
 exact⟨l,k,ns,es,rfl,hl0,hl1,hl2,hl3⟩
end
theorem trodAll_len{H:Type}{enc:TypeId×Value→H}{P:Program}{w:World}{base:Nat}{spare:Nat→Bool}{Ju:Bool}: ∀ {ts:List TypeId} {vs:List Value} {ds:List (DataW H)} {ps:List MemPlace},
  DataW.TrodAll enc P w base spare Ju ts vs ds ps→ds.length=ts.length∧vs.length=ts.length:=by
 intro ts
 induction ts with
 | nil=>intro vs ds ps h;cases vs<;>cases ds<;>simp [DataW.TrodAll]at h;exact⟨rfl,rfl⟩
 | cons t ts ih=>
  intro vs ds ps h
  cases vs with
  | nil=>cases ds<;>simp [DataW.TrodAll]at h
  | cons v vs=>
   cases ds with
   | nil=>simp [DataW.TrodAll]at h
   | cons d ds=>
    simp only [DataW.TrodAll]at h
    obtain⟨p,q,h1,h2,_⟩:=h
    obtain⟨e1,e2⟩:=ih h2
    exact⟨by simp [e1],by simp [e2]⟩
end Dv
namespace Dv
open Go
section
variable {E:Env} {T:Tys} {pm:Pm} {s:St} {dst:Option Tmp} {ty t:TypeId}
def Y4(T:Tys)(t:TypeId)(dst:Option Tmp):Option (D×St)→Option St
 | some (d,s1)=>if T.isStruct t==d.isAgg then some (s1.putO dst (.box d.asCells))else none
 | none=>none
def XA(E:Env)(pm:Pm)(s:St)(t:TypeId)(x:Operand)(dst:Option Tmp):D→Option St
 | .agg ds=>if AF ds then Y4 E.T t dst (take E.T pm s t x)else(if E.T.isStruct t then some (s.putO dst (.box ds))else none)
 | _=>Y4 E.T t dst (take E.T pm s t x)
theorem lF(u:Tmp):KS E.T pm s dst t (.tmp u)=XA E pm s t (.tmp u) dst (s.v u):=by
 rw [bq]
 cases hk:PO (ev E.T s t (.tmp u))with
 | some ds=>
  simp only [ev]at hk
  cases hv:s.v u<;>rw [hv]at hk<;>simp only [PO]at hk<;>try (cases hk;done)
  split at hk
  ·cases hk
  ·rename_i ho
   simp only [Option.some.injEq]at hk
   subst hk
   simp only [XA,ho];rfl
 | none=>
  have hold:XA E pm s t (.tmp u) dst (s.v u)=Y4 E.T t dst (take E.T pm s t (.tmp u)):=by
   simp only [ev]at hk
   cases hv:s.v u<;>try rfl
   rw [hv]at hk
   simp only [PO]at hk
   split at hk
   ·rename_i ho;simp only [XA,ho,if_true]
   ·cases hk
  rw [hold]
  simp only
  rcases take E.T pm s t (.tmp u)with _ | ⟨d,s1⟩<;>rfl
theorem A10(u:Tmp):IA E pm s dst (.box t (.tmp u)) ty=if ty=900003 then eu pm dst (XA E pm s t (.tmp u) dst (s.v u))else XA E pm s t (.tmp u) dst (s.v u):=by
 rw [fY,lF]
 by_cases h:ty=900003
 ·rw [if_pos h,if_pos h]
  unfold eu
  cases XA E pm s t (.tmp u) dst (s.v u)<;>cases dst<;>rfl
 ·rw [if_neg h,if_neg h]
theorem bkK(x:Operand)(ds:List D)(hs:E.T.isStruct t=true):XA E pm s t x dst (.agg ds)=if AF ds then Y4 E.T t dst (take E.T pm s t x)else some (s.putO dst (.box ds)):=by simp [XA,hs]
theorem sZ(x:Operand)(k:IntKind)(n:Int):XA E pm s t x dst (.int k n)=Y4 E.T t dst (take E.T pm s t x):=nr rfl
theorem lG(x:Operand)(b:Bool):XA E pm s t x dst (.bool b)=Y4 E.T t dst (take E.T pm s t x):=nr rfl
theorem sa(x:Operand)(b:ByteArray):XA E pm s t x dst (.str b)=Y4 E.T t dst (take E.T pm s t x):=nr rfl
theorem A11(x:Operand)(e:TypeId)(xs:List D):XA E pm s t x dst (.sl e xs)=Y4 E.T t dst (take E.T pm s t x):=nr rfl
theorem sc(x:Operand)(e:TypeId)(xs:List D):XA E pm s t x dst (.own e xs)=Y4 E.T t dst (take E.T pm s t x):=nr rfl
theorem A12(x:Operand)(L:A5)(n m:Nat):XA E pm s t x dst (.vw L n m)=Y4 E.T t dst (take E.T pm s t x):=nr rfl
theorem sd(x:Operand)(f:FuncId)(xs:List D):XA E pm s t x dst (.clo f xs)=Y4 E.T t dst (take E.T pm s t x):=nr rfl
theorem A13(ds:List D)(hs:T.isStruct t=true):Y4 T t dst (some (.agg ds,s))=some (s.putO dst (.box ds)):=by simp [Y4,hs,D.isAgg,D.asCells]
theorem A14(d:D)(hs:T.isStruct t=false)(hd:d.isAgg=false):Y4 T t dst (some (d,s))=some (s.putO dst (.box [d])):=by
 have:d.asCells=[d]:=by cases d<;>first | rfl | (simp [D.isAgg]at hd)
 simp [Y4,hs,hd,this]
def fa1(L:A5)(i n m:Nat):Option D→Option D
 | some _=>some (.pe L i n m)
 | none=>none
theorem A16(L:A5)(i n m:Nat)(d:D):fa1 L i n m (some d)=some (.pe L i n m):=nr rfl
def fA(T:Tys)(pm:Pm)(s:St)(t:TypeId)(x:Operand)(d:D):Option Nat→Option D
 | none=>none
 | some j=>
  if T.isStruct t then
   match d with
   | .box _=>match x with | .tmp u=>some (.pe [u] j (s.k u) (s.m u)) | _=>none
   | .vw L n m=>match s.look pm L n m with | some (.box _)=>some (.pe L j n m) | _=>none
   | .pe L c n m=>match s.look pm L n m with | some _=>some (.pe L (c+j) n m) | none=>none
   | .cptr xs=>some (.cptr (xs.drop j))
   | _=>none
  else none
theorem faE(x:Operand)(d:D)(i:Nat):D1 T pm s t x d i=fA T pm s t x d (T.foff t i):=by
 unfold D1 fA
 cases T.foff t i<;>rfl
theorem foN(i:Nat)(hn:T.nest t=none)(hi:i<T.size t):T.foff t i=some i:=by simp [Tys.foff,hn,hi]
theorem sf(u:Tmp)(xs:List D)(i:Nat)(hs:T.isStruct t=true):fA T pm s t (.tmp u) (.box xs) (some i)=some (.pe [u] i (s.k u) (s.m u)):=by simp [fA,hs]
theorem A17(x:Operand)(L:A5)(n m i:Nat)(hs:T.isStruct t=true):fA T pm s t x (.vw L n m) (some i)=fa1 L i n m (Kg s pm L n m):=by
 simp only [fA,hs,if_true,Kg]
 cases s.look pm L n m with
 | none=>rfl
 | some o=>cases o<;>rfl
theorem A18(x:Operand)(L:A5)(c n m i:Nat)(hs:T.isStruct t=true):fA T pm s t x (.pe L c n m) (some i)=fa1 L (c+i) n m (s.look pm L n m):=by
 simp only [fA,hs,if_true]
 cases s.look pm L n m<;>rfl
theorem A19(x:Operand)(xs:List D)(i:Nat)(hs:T.isStruct t=true):fA T pm s t x (.cptr xs) (some i)=some (.cptr (xs.drop i)):=by simp [fA,hs]
theorem csS(L:A5)(c n:Nat)(o:D):cellsOf s L c n (some o)=if c+n≤o.cells.length then Ay (.agg ((List.range n).map fun i=>CO s L (c+i) (o.cells.getD (c+i) .undef)))else none:=nr rfl
variable {α:Type} (f:Nat→α)
theorem rg1:(List.range 1).map f=[f 0]:=nr rfl
theorem rg2:(List.range 2).map f=[f 0,f 1]:=nr rfl
theorem rg3:(List.range 3).map f=[f 0,f 1,f 2]:=nr rfl
theorem rg4:(List.range 4).map f=[f 0,f 1,f 2,f 3]:=nr rfl
theorem rg5:(List.range 5).map f=[f 0,f 1,f 2,f 3,f 4]:=nr rfl
theorem rg6:(List.range 6).map f=[f 0,f 1,f 2,f 3,f 4,f 5]:=nr rfl
theorem rg7:(List.range 7).map f=[f 0,f 1,f 2,f 3,f 4,f 5,f 6]:=nr rfl
theorem rg8:(List.range 8).map f=[f 0,f 1,f 2,f 3,f 4,f 5,f 6,f 7]:=nr rfl
theorem rg9:(List.range 9).map f=[f 0,f 1,f 2,f 3,f 4,f 5,f 6,f 7,f 8]:=nr rfl
theorem A1A:(List.range 10).map f=[f 0,f 1,f 2,f 3,f 4,f 5,f 6,f 7,f 8,f 9]:=nr rfl
theorem A1B:(List.range 11).map f=[f 0,f 1,f 2,f 3,f 4,f 5,f 6,f 7,f 8,f 9,f 10]:=nr rfl
theorem A1C:(List.range 12).map f=[f 0,f 1,f 2,f 3,f 4,f 5,f 6,f 7,f 8,f 9,f 10,f 11]:=nr rfl
theorem sg(L:A5)(c:Nat)(k:IntKind)(n:Int):CO s L c (.int k n)= .int k n:=nr rfl
theorem lH(L:A5)(c:Nat)(b:Bool):CO s L c (.bool b)= .bool b:=nr rfl
theorem sh(L:A5)(c:Nat)(b:ByteArray):CO s L c (.str b)= .str b:=nr rfl
theorem A1D(L:A5)(c:Nat)(e:TypeId)(xs:List D):CO s L c (.sl e xs)= .sl e xs:=nr rfl
theorem sk(L:A5)(c:Nat)(e:TypeId)(xs:List D):CO s L c (.own e xs)=X9 s (L++[c]):=nr rfl
theorem sm(L:A5)(c:Nat)(g:FuncId)(xs:List D):CO s L c (.clo g xs)= .clo g xs:=nr rfl
theorem A1E(L:A5)(c:Nat)(M:A5)(n m:Nat):CO s L c (.vw M n m)= .vw M n m:=nr rfl
theorem noA(xs:List D):Ay (.agg xs)=if AF xs then none else some (.agg xs):=by simp only [Ay,D.hasObj];rfl
theorem so(k:IntKind)(n:Int):Ay (.int k n)=some (.int k n):=by simp [Ay,D.hasObj]
theorem lI(b:Bool):Ay (.bool b)=some (.bool b):=by simp [Ay,D.hasObj]
theorem sq(b:ByteArray):Ay (.str b)=some (.str b):=by simp [Ay,D.hasObj]
theorem A1F(e:TypeId)(xs:List D):Ay (.sl e xs)=some (.sl e xs):=by simp [Ay,D.hasObj]
theorem A1G(L:A5)(n m:Nat):Ay (.vw L n m)=some (.vw L n m):=by simp [Ay,D.hasObj]
theorem sr(g:FuncId)(xs:List D):Ay (.clo g xs)=some (.clo g xs):=by simp [Ay,D.hasObj]
theorem dl2(a b:Nat)(l:A5):List.dropLast (a::b::l)=a::List.dropLast (b::l):=nr rfl
theorem dl1(a:Nat):List.dropLast [a]=[]:=nr rfl
theorem A1H(r c:Nat)(p:A5):s.get (r::c::p)=Ai (s.v r) (c::p):=nr rfl
theorem Y5: ∀(ds xs:List D),xs.length=ds.length→B3 xs 0 ds=ds:=by
 have key: ∀(ds pre xs:List D),xs.length=ds.length→B3 (pre++xs) pre.length ds=pre++ds:=by
  intro ds
  induction ds with
  | nil=>intro pre xs h;simp at h;subst h;rfl
  | cons d ds ih=>
   intro pre xs h
   cases xs with
   | nil=>simp at h
   | cons x xs=>
    simp only [B3]
    have:=ih (pre++[d]) xs (by simpa using h)
    simpa using this
 intro ds xs h
 simpa using key ds [] xs h
def ss(T:Tys)(pm:Pm)(t:TypeId)(u:Tmp)(ds:List D)(s:St):D→Option St
 | .box xs=>if T.known t&&T.isStruct t&&pm.wr u&&ds.all Ax&&(T.size t==ds.length)&&(xs.length==ds.length)then(if AF ds||AF xs then some ((s.set [u] (.box ds)).bump u)else some (s.set [u] (.box ds)))else ST T pm t (.tmp u) (some (.agg ds,s))
 | _=>ST T pm t (.tmp u) (some (.agg ds,s))
theorem A1I(u:Tmp)(ds:List D):ST T pm t (.tmp u) (some (.agg ds,s))=ss T pm t u ds s (s.v u):=by
 cases hv:s.v u<;>simp only [ss]
 rename_i xs
 split
 ·rename_i hc
  simp only [Bool.and_eq_true,beq_iff_eq]at hc
  obtain⟨⟨⟨⟨⟨hk,hs⟩,hw⟩,hd⟩,hz⟩,hl⟩:=hc
  have hz':T.size t≤xs.length:=by omega
  simp only [ST,ev,hv,EW,D.asCells,D.isAgg,D.cells,D.withCells,hk,hs,hw,hd,hz,List.headD_cons,beq_self_eq_true,Bool.and_self,Nat.zero_add,D.hasObj]
  rw [Y5 ds xs hl]
  have h2:ds.length≤xs.length:=by omega
  simp only [h2,decide_true,Bool.and_self,if_true]
  split<;>first | rfl | (rename_i hq;simp only [hq];rfl)
 ·rfl
theorem A1J(u:Tmp)(ds xs:List D)(hk:T.known t=true)(hs:T.isStruct t=true)(hw:pm.wr u=true)(hd:ds.all Ax=true)(hz:T.size t=ds.length)(hl:xs.length=ds.length):
  ss T pm t u ds s (.box xs)=if AF ds||AF xs then some ((s.set [u] (.box ds)).bump u)else some (s.set [u] (.box ds)):=by
 simp [ss,hk,hs,hw,hd,hz,hl]
def gm(T:Tys)(s:St)(t:Tmp)(ty:TypeId):D→Option (D×St)
 | .box xs=>if T.isStruct ty then(if xs.length=T.size ty then qT (Ce Pm.all (s.clr t) xs)else none)else(match xs with | [d]=>At Pm.all (s.clr t) d | _=>none)
 | .cptr xs=>if T.isStruct ty then(if xs.length=T.size ty then some (.agg xs,s)else none)else(match xs with | [d]=>some (d,s) | _=>none)
 | _=>none
theorem lJ(u:Tmp)(hk:T.known ty=true):PT T s (.cell u ty)=gm T s u ty (s.v u):=by
 simp only [PT,hk,if_true,gm]
 cases s.v u with
 | box xs=>
  simp only
  split
  ·split
   ·cases Ce Pm.all (s.clr u) xs<;>rfl
   ·rfl
  ·rfl
 | _=>rfl
theorem A1K(u:Tmp)(xs:List D)(hs:T.isStruct ty=true)(hl:xs.length=T.size ty):gm T s u ty (.box xs)=qT (Ce Pm.all (s.clr u) xs):=by simp [gm,hs,hl]
theorem A1L(u:Tmp)(d:D)(hs:T.isStruct ty=false):gm T s u ty (.box [d])=At Pm.all (s.clr u) d:=by simp [gm,hs]
theorem A1M(u:Tmp)(d:D)(hs:T.isStruct ty=false):gm T s u ty (.cptr [d])=some (d,s):=by simp [gm,hs]
def xk(pm:Pm)(s:St)(u:Tmp)(rest:List Operand):D→Option (List D×St)
 | .box xs=>match BI xs with
  | some ys=>if pm.wr u then(Hx pm (s.set [u] (.cptr ys)) rest).map fun r=>(.cptr ys::r.1,r.2)else none
  | none=>none
 | .cptr ys=>(Hx pm s rest).map fun r=>(.cptr ys::r.1,r.2)
 | _=>none
theorem su:Hx pm s []=some ([],s):=nr rfl
theorem sw(u:Tmp)(rest:List Operand):Hx pm s (.tmp u::rest)=xk pm s u rest (s.v u):=by
 simp only [Hx]
 cases s.v u<;>rfl
def cp2(pm:Pm)(s:St)(u:Tmp)(rest:List Operand):Option (List D)→Option (List D×St)
 | some ys=>if pm.wr u then(Hx pm (s.set [u] (.cptr ys)) rest).map fun r=>(.cptr ys::r.1,r.2)else none
 | none=>none
theorem A1O(u:Tmp)(rest:List Operand)(xs:List D):xk pm s u rest (.box xs)=cp2 pm s u rest (BI xs):=by
 simp only [xk];cases BI xs<;>rfl
theorem A1P(u:Tmp)(rest:List Operand)(ys:List D)(hw:pm.wr u=true):cp2 pm s u rest (some ys)=(Hx pm (s.set [u] (.cptr ys)) rest).map fun r=>(.cptr ys::r.1,r.2):=by simp [cp2,hw]
theorem A1Q(u:Tmp)(rest:List Operand)(ys:List D):xk pm s u rest (.cptr ys)=(Hx pm s rest).map fun r=>(.cptr ys::r.1,r.2):=nr rfl
def sx(E:Env)(pm:Pm)(s:St)(dst:Option Tmp)(args:Array Operand)(ts:Array TypeId):D→Option St
 | .clo f caps=>if args.size=ts.size then GH E pm s dst f (args.toList.zip ts.toList) caps else none
 | .ocl false f caps=>if args.size=ts.size then IF E pm s dst f (args.toList.zip ts.toList) caps else none
 | _=>none
theorem lK(u:Tmp)(args:Array Operand)(ts:Array TypeId):IA E pm s dst (.call ⟨.value (.tmp u),args,ts⟩) ty=sx E pm s dst args ts (s.v u):=by
 rw [Zx];cases s.v u<;>first | rfl | (rename_i b _ _;cases b<;>rfl)
theorem A1R(args:Array Operand)(ts:Array TypeId)(f':FuncId)(caps:List D)(h:args.size=ts.size):sx E pm s dst args ts (.clo f' caps)=GH E pm s dst f' (args.toList.zip ts.toList) caps:=by simp [sx,h]
def mf0(f:FuncId)(dst:Option Tmp):Option (List D×St)→Option St
 | some r=>some (r.2.putO dst (.clo f r.1))
 | none=>none
theorem A1S(g:FuncId)(xs:List D):mf0 g dst (some (xs,s))=some (s.putO dst (.clo g xs)):=nr rfl
def mfV(f:FuncId)(dst:Option Tmp):Option (List D×St)→Option St
 | some r=>some (r.2.putO dst (.ocl false f r.1))
 | none=>none
theorem A1T(g:FuncId)(xs:List D):mfV g dst (some (xs,s))=some (s.putO dst (.ocl false g xs)):=nr rfl
theorem yMf(g:FuncId)(captured:Array Operand):IA E pm s dst (.makeFunc (.func g) #[] captured) ty=if ty<3000000 then mf0 g dst (Hx pm s captured.toList)else mfV g dst (PP pm s (ty-3000000) captured.toList):=by
 rw [TM]
 simp only [List.isEmpty_toArray,List.isEmpty_nil,if_true]
 by_cases h:ty<3000000
 ·rw [if_pos h,if_pos h]
  cases Hx pm s captured.toList<;>rfl
 ·rw [if_neg h,if_neg h]
  cases PP pm s (ty-3000000) captured.toList<;>rfl
def xl(l:List Operand):Option (List D×St)→Option (List D×St)
 | none=>none
 | some (_,s1)=>(KR s1 l).map fun ds=>(ds,s1)
theorem cvE(m:Nat)(l:List Operand):PP pm s m l=xl l (Hx pm s (GD m 0 l)):=by
 unfold PP xl
 rcases Hx pm s (GD m 0 l)with _ | ⟨ys,s1⟩<;>rfl
def cvq(s:St):Option (List D)→Option (List D×St)
 | some ds=>some (ds,s)
 | none=>none
theorem A1U(l:List Operand)(ys:List D):xl l (some (ys,s))=cvq s (KR s l):=by
 simp only [xl];cases KR s l<;>rfl
theorem A1V(ds:List D):cvq s (some ds)=some (ds,s):=nr rfl
theorem umN(m i:Nat):GD m i []=[]:=nr rfl
theorem umC(m i:Nat)(x:Operand)(xs:List Operand):GD m i (x::xs)=if m / 2 ^ i % 2=1 then GD m (i+1) xs else x::GD m (i+1) xs:=by
 rw [GD,Nat.testBit_eq_decide_div_mod_eq]
 by_cases h:m / 2 ^ i % 2=1<;>simp [h]
def ce1(s:St)(u:Tmp)(r:Option (List D)):D→Option (List D)
 | .box _=>r.map (X9 s [u]:: ·)
 | .cptr ys=>r.map (.cptr ys:: ·)
 | _=>none
theorem ceN:KR s []=some []:=nr rfl
theorem ceT(u:Tmp)(rest:List Operand):KR s (.tmp u::rest)=ce1 s u (KR s rest) (s.v u):=by
 simp only [KR]
 cases s.v u<;>rfl
theorem A1X(u:Tmp)(l xs:List D):ce1 s u (some l) (.box xs)=some (X9 s [u]::l):=nr rfl
theorem A1Y(u:Tmp)(l ys:List D):ce1 s u (some l) (.cptr ys)=some (.cptr ys::l):=nr rfl
def lL(T:Tys)(pm:Pm)(s:St)(t:TypeId)(t0:Tmp):D→D→Option St
 | .box [_], .ocl false f xs=>if T.known t&& !T.isStruct t&&(T.size t==1)&&pm.rd t0&&pm.wr t0 then some (s.set [t0] (.ocl true f (xs.map (GG s t0))))else none
 | _,_=>none
theorem A1Z(T:Tys)(t0 u:Tmp):O8 T pm s t (.tmp t0) (.tmp u)=lL T pm s t t0 (s.v t0) (s.v u):=by
 show(match s.v t0,s.v u with
  | .box [_], .ocl false f xs=>if T.known t&& !T.isStruct t&&(T.size t==1)&&pm.rd t0&&pm.wr t0 then some (s.set [t0] (.ocl true f (xs.map (GG s t0))))else none
  | _,_=>none)=_
 rfl
theorem A1a(T:Tys)(t0:Tmp)(x:D)(f:FuncId)(xs:List D)(hk:T.known t=true)(hs:T.isStruct t=false)(hz:T.size t=1)(hr:pm.rd t0=true)(hw:pm.wr t0=true):
  lL T pm s t t0 (.box [x]) (.ocl false f xs)=some (s.set [t0] (.ocl true f (xs.map (GG s t0)))):=by simp [lL,hk,hs,hz,hr,hw]
theorem utV(t0 r n m:Nat):GG s t0 (.vw [r] n m)=if r=t0 then(if n=s.k t0 then .undef else .vw [r] n m)else .vw [r] n m:=by
 unfold GG
 by_cases h:r=t0<;>by_cases h2:n=s.k t0<;>simp [h,h2]
theorem utC(t0:Nat)(ys:List D):GG s t0 (.cptr ys)= .cptr ys:=nr rfl
theorem ldO(T:Tys)(x:Operand)(f:FuncId)(xs:List D)(hk:T.known t=true)(hs:T.isStruct t=false):CJ T pm s t x (.ocl true f xs)=some (.ocl false f xs):=by simp [CJ,hk,hs]
def sy(E:Env)(pm:Pm)(s:St)(dst:Option Tmp)(f:FuncId)(as:List D)(ls:List (A5×D)):Option (List D×List (A5×D))→Option St
 | none=>none
 | some (cs,lc)=>
  if CS ((ls++lc).map (·.1))&&(ls++lc).all (fun l=>pm.wr (l.1.headD 0))&&(ls++lc).all (fun l=>Su l.2)then
   nc s dst (ls++lc) (E.call f (as++cs.map (GS f cs)) ((ls++lc).map (·.2)))
  else none
def co1(E:Env)(pm:Pm)(s:St)(dst:Option Tmp)(f:FuncId)(caps:List D):Option (List D×List (A5×D))→Option St
 | none=>none
 | some (as,ls)=>sy E pm s dst f as ls (Bi pm s ls.length caps)
theorem coE(f:FuncId)(xs:List (Operand×TypeId))(caps:List D):IF E pm s dst f xs caps=co1 E pm s dst f caps (Bx E true pm s 0 xs):=by
 unfold IF co1
 rcases Bx E true pm s 0 xs with _ | ⟨as,ls⟩
 ·rfl
 ·simp only
  unfold sy
  rcases Bi pm s ls.length caps with _ | ⟨cs,lc⟩
  ·rfl
  ·simp only
   split
   ·unfold nc
    rcases E.call f (as++cs.map (GS f cs)) ((ls++lc).map (·.2))with _ | ⟨r,o⟩<;>rfl
   ·rfl
theorem A1c(f:FuncId)(caps as:List D)(ls:List (A5×D)):co1 E pm s dst f caps (some (as,ls))=sy E pm s dst f as ls (Bi pm s ls.length caps):=nr rfl
theorem A1d(f:FuncId)(as cs:List D)(ls lc:List (A5×D))(h:(CS ((ls++lc).map (·.1))&&(ls++lc).all (fun l=>pm.wr (l.1.headD 0))&&(ls++lc).all (fun l=>Su l.2))=true):
  sy E pm s dst f as ls (some (cs,lc))=nc s dst (ls++lc) (E.call f (as++cs.map (GS f cs)) ((ls++lc).map (·.2))):=by simp only [sy,h,if_true]
def t6(a:D)(l:List (A5×D)):Option (List D×List (A5×D))→Option (List D×List (A5×D))
 | some r=>some (a::r.1,l++r.2)
 | none=>none
theorem A1e(a:D)(l:List (A5×D))(r:List D)(m:List (A5×D)):t6 a l (some (r,m))=some (a::r,l++m):=nr rfl
def oa1(pm:Pm)(s:St)(j:Nat)(L:A5)(rest:List D):Option D→Option (List D×List (A5×D))
 | some c=>t6 (.vw [G+j] 0 0) [(L,c)] (Bi pm s (j+1) rest)
 | none=>none
theorem A1g(j:Nat)(L:A5)(rest:List D)(c:D):oa1 pm s j L rest (some c)=t6 (.vw [G+j] 0 0) [(L,c)] (Bi pm s (j+1) rest):=nr rfl
theorem oaN(j:Nat):Bi pm s j []=some ([],[]):=nr rfl
theorem oaV(j:Nat)(L:A5)(n m:Nat)(rest:List D):Bi pm s j (.vw L n m::rest)=oa1 pm s j L rest (s.look pm L n m):=by
 rw [Bi]
 cases s.look pm L n m with
 | none=>rfl
 | some c=>simp only [oa1];rcases Bi pm s (j+1) rest with _ | ⟨a,b⟩<;>rfl
theorem oaC(j:Nat)(ys rest:List D):Bi pm s j (.cptr ys::rest)=t6 (.cptr ys) [] (Bi pm s j rest):=by
 rw [Bi]
 rcases Bi pm s j rest with _ | ⟨a,b⟩<;>rfl
theorem oaU(j:Nat)(rest:List D):Bi pm s j (.undef::rest)=t6 .undef [] (Bi pm s j rest):=by
 rw [Bi]
 rcases Bi pm s j rest with _ | ⟨a,b⟩<;>rfl
theorem saU(f:FuncId)(cs:List D):GS f cs .undef= .ocl true f cs:=nr rfl
theorem saV(f:FuncId)(cs:List D)(L:A5)(n m:Nat):GS f cs (.vw L n m)= .vw L n m:=nr rfl
theorem saC(f:FuncId)(cs ys:List D):GS f cs (.cptr ys)= .cptr ys:=nr rfl
theorem A1h(args:Array Operand)(ts:Array TypeId)(f':FuncId)(caps:List D)(h:args.size=ts.size):sx E pm s dst args ts (.ocl false f' caps)=IF E pm s dst f' (args.toList.zip ts.toList) caps:=by simp [sx,h]
theorem aH(g:FuncId):BQ (.clo g [])=false:=by simp [BQ]
def bn1(dflt:Nat):Option D→Option Nat
 | some (.int _ n)=>if 0≤n then some n.toNat else none
 | _=>none
theorem bnN(n:Nat):KO T s n none=some n:=nr rfl
theorem bnS(n:Nat)(x:Operand):KO T s n (some x)=bn1 n (ev T s 0 x):=by
 simp only [KO]
 rcases ev T s 0 x with _ | d
 ·rfl
 ·cases d<;>rfl
theorem A1j(n:Nat)(k:IntKind)(i:Int)(h:0≤i):bn1 n (some (.int k i))=some i.toNat:=by simp [bn1,h]
def ne(T:Tys)(pm:Pm)(s:St)(x:Operand)(d:D)(lo hi mx:Option Operand):Ty→Option (D×St)
 | .slice e'=>match B2 pm s x d with
  | none=>none
  | some (e,xs,o)=>
   match KO T s 0 lo,KO T s (T.len e xs) hi with
   | some l,some h=>
    if e'=e∧T.known e=true∧l≤h∧h≤T.len e xs then
     if mx.isSome then
      match KO T s 0 mx with
      | some q=>if l=h∧h=q∧hi.isSome=true then some (.own e [],s)else none
      | none=>none
     else match o with
      | none=>some (.sl e ((xs.take (h*T.size e)).drop (l*T.size e)),s)
      | some (L,va,vb)=>
       if pm.wr (L.headD 0)then
        match BI xs with
        | some ys=>some (.sl e ((ys.take (h*T.size e)).drop (l*T.size e)),s.set L (.sl e ys))
        | none=>none
       else PL L va vb e l h s
    else none
   | _,_=>none
 | .string=>match d with
  | .str b=>match KO T s 0 lo,KO T s b.size hi with
   | some l,some h=>if l≤h∧h≤b.size∧mx.isNone then some (.str (b.extract l h),s)else none
   | _,_=>none
  | _=>none
 | _=>none
theorem slT(x:Operand)(d:D)(lo hi mx:Option Operand):Fd T pm s t x d lo hi mx=ne T pm s x d lo hi mx (T.ty t):=by
 unfold Fd ne
 cases T.ty t<;>first | rfl | (cases d<;>rfl)
def lM(T:Tys)(pm:Pm)(s:St)(e:TypeId)(xs:List D)(o:Option (A5×Nat×Nat)):Option Nat→Option Nat→Option (D×St)
 | some l,some h=>
  if l≤h∧h≤xs.length then
   match o with
   | none=>some (.sl e ((xs.take h).drop l),s)
   | some (L,va,vb)=>
    if pm.wr (L.headD 0)then
     match BI xs with
     | some ys=>some (.sl e ((ys.take h).drop l),s.set L (.sl e ys))
     | none=>none
    else PL L va vb e l h s
  else none
 | _,_=>none
def xm(T:Tys)(pm:Pm)(s:St)(e':TypeId)(lo hi:Option Operand):Option (TypeId×List D×Option (A5×Nat×Nat))→Option (D×St)
 | some (e,xs,o)=>if e'=e∧T.known e=true then lM T pm s e xs o (KO T s 0 lo) (KO T s xs.length hi)else none
 | none=>none
theorem A1k(x:Operand)(d:D)(lo hi:Option Operand)(e:TypeId)(hz:T.isStruct e=false):ne T pm s x d lo hi none (.slice e)=xm T pm s e lo hi (B2 pm s x d):=by
 have h1:=Gv hz
 simp only [ne,xm,Option.isSome_none,Bool.false_eq_true,if_false]
 rcases B2 pm s x d with _ | ⟨e',xs,o⟩
 ·rfl
 ·simp only
  by_cases he:e=e'
  ·subst he
   simp only [true_and,h1,Nat.mul_one,Tys.len,if_true]
   cases KO T s 0 lo<;>cases KO T s xs.length hi<;>simp only [lM]<;>(by_cases hk:T.known e=true<;>simp [hk])
  ·simp only [he,false_and,if_false]
   cases KO T s 0 lo<;>cases KO T s (T.len e' xs) hi<;>rfl
theorem A1l(e:TypeId)(lo hi:Option Operand)(xs:List D)(o:Option (A5×Nat×Nat))(hk:T.known e=true):xm T pm s e lo hi (some (e,xs,o))=lM T pm s e xs o (KO T s 0 lo) (KO T s xs.length hi):=by simp [xm,hk]
theorem A1m(e:TypeId)(xs:List D)(l h:Nat)(h1:l≤h)(h2:h≤xs.length):lM T pm s e xs none (some l) (some h)=some (.sl e ((xs.take h).drop l),s):=by simp [lM,h1,h2]
def t7(pm:Pm)(s:St)(e:TypeId)(L:A5)(a b l h:Nat)(o:Option (List D)):Option (D×St):=
 if pm.wr (L.headD 0)then
  match o with
  | some ys=>some (.sl e ((ys.take h).drop l),s.set L (.sl e ys))
  | none=>none
 else PL L a b e l h s
theorem A1n(e:TypeId)(xs:List D)(L:A5)(a b l h:Nat)(h1:l≤h)(h2:h≤xs.length):lM T pm s e xs (some (L,a,b)) (some l) (some h)=t7 pm s e L a b l h (BI xs):=by
 simp only [lM,h1,h2,and_self,if_true];rfl
theorem A1o(e:TypeId)(L:A5)(a b l h:Nat)(ys:List D)(hw:pm.wr (L.headD 0)=true):t7 pm s e L a b l h (some ys)=some (.sl e ((ys.take h).drop l),s.set L (.sl e ys)):=by simp only [t7];rw [if_pos hw]
theorem A1p(e:TypeId)(L:A5)(a b l h:Nat)(o:Option (List D))(hw:pm.wr (L.headD 0)=false):t7 pm s e L a b l h o=some (.vs e L a b l (h-l),s):=by simp only [t7];rw [if_neg (by rw [hw];decide)];rfl
theorem t8(r:Nat):pm.see.rd r=pm.rd r:=nr rfl
theorem tA(r:Nat):pm.see.wr r=false:=nr rfl
theorem A1q(u:Tmp):j9 pm (.tmp u)=pm.wr u:=nr rfl
def ct2(e:TypeId)(xs:List D)(s1:St):Option Nat→Option (D×St)
 | some h=>if h≤xs.length then some (.own e (xs.take h),s1)else none
 | none=>none
def tB(T:Tys)(s:St)(e':TypeId)(hi:Option Operand):Option (D×St)→Option (D×St)
 | some (.own e xs,s1)=>
  match KO T s (T.len e xs) hi with
  | some h=>if e'=e∧T.known e=true∧h≤T.len e xs then some (.own e (xs.take (h*T.size e)),s1)else none
  | none=>none
 | _=>none
def xn(T:Tys)(pm:Pm)(s:St)(t:TypeId)(x:Operand)(hi:Option Operand):Ty→Option (D×St)
 | .slice e=>tB T s e hi (if j9 pm x then take T pm s t x else none)
 | _=>none
theorem ctT(x:Operand)(hi:Option Operand):KQ T pm s t x hi=xn T pm s t x hi (T.ty t):=by
 unfold KQ xn tB
 cases T.ty t<;>rfl
theorem A1r(x:Operand)(hi:Option Operand)(e:TypeId)(hw:j9 pm x=true):xn T pm s t x hi (.slice e)=tB T s e hi (take T pm s t x):=by
 unfold xn;rw [if_pos hw]
theorem A1s(hi:Option Operand)(e:TypeId)(xs:List D)(s1:St)(hk:T.known e=true)(hz:T.isStruct e=false):tB T s e hi (some (.own e xs,s1))=ct2 e xs s1 (KO T s xs.length hi):=by
 have h1:=Gv hz
 simp only [tB,hk,true_and,h1,Nat.mul_one,Tys.len,if_true]
 cases KO T s xs.length hi<;>rfl
theorem A1t(e:TypeId)(xs:List D)(s1:St)(h:Nat)(hle:h≤xs.length):ct2 e xs s1 (some h)=some (.own e (xs.take h),s1):=by
 show(if h≤xs.length then some (D.own e (xs.take h),s1)else none)=_
 rw [if_pos hle]
def cf2(e:TypeId)(xs:List D)(s1:St):Option Nat→Option (D×St)
 | some l=>if l≤xs.length then some (.own e (xs.drop l),s1)else none
 | none=>none
def tC(T:Tys)(s:St)(e':TypeId)(lo:Option Operand):Option (D×St)→Option (D×St)
 | some (.own e xs,s1)=>
  match KO T s 0 lo with
  | some l=>if e'=e∧T.known e=true∧l≤T.len e xs then some (.own e (xs.drop (l*T.size e)),s1)else none
  | none=>none
 | _=>none
def xo(T:Tys)(pm:Pm)(s:St)(t:TypeId)(x:Operand)(lo:Option Operand):Ty→Option (D×St)
 | .slice e=>tC T s e lo (if j9 pm x then take T pm s t x else none)
 | _=>none
theorem cfT(x:Operand)(lo:Option Operand):ID T pm s t x lo=xo T pm s t x lo (T.ty t):=by
 unfold ID xo tC
 cases T.ty t<;>rfl
theorem A1u(x:Operand)(lo:Option Operand)(e:TypeId)(hw:j9 pm x=true):xo T pm s t x lo (.slice e)=tC T s e lo (take T pm s t x):=by
 unfold xo;rw [if_pos hw]
theorem A1v(lo:Option Operand)(e:TypeId)(xs:List D)(s1:St)(hk:T.known e=true)(hz:T.isStruct e=false):tC T s e lo (some (.own e xs,s1))=cf2 e xs s1 (KO T s 0 lo):=by
 have h1:=Gv hz
 simp only [tC,hk,true_and,h1,Nat.mul_one,Tys.len,if_true]
 cases KO T s 0 lo<;>rfl
theorem A1w(e:TypeId)(xs:List D)(s1:St)(l:Nat)(hle:l≤xs.length):cf2 e xs s1 (some l)=some (.own e (xs.drop l),s1):=by
 show(if l≤xs.length then some (D.own e (xs.drop l),s1)else none)=_
 rw [if_pos hle]
def nf(T:Tys)(e:TypeId)(L:A5)(lo len:Nat):Option D→Option (D×List (A5×D))
 | some (.own e' xs)=>
  if e'=e∧T.known e=true∧(lo+len)*T.size e≤xs.length then
   (BI xs).map fun ys=>(.sl e ((ys.drop (lo*T.size e)).take (len*T.size e)),[(L, .own e' xs)])
  else none
 | _=>none
theorem A1x(e:TypeId)(L L0:A5)(n m lo len j:Nat):HW T false pm s j L0 (.vs e L n m lo len)=nf T e L lo len (s.look pm L n m):=by
 show S4 T pm s e L n m lo len=_
 unfold S4 nf
 rcases s.look pm L n m with _ | d
 ·rfl
 ·cases d<;>rfl
def va2(e:TypeId)(L:A5)(lo len:Nat)(xs:List D):Option (List D)→Option (D×List (A5×D))
 | some ys=>some (.sl e ((ys.drop lo).take len),[(L, .own e xs)])
 | none=>none
theorem A1z(e:TypeId)(L:A5)(l h:Nat)(xs:List D)(hk:T.known e=true)(hz:T.isStruct e=false)(h1:l≤h)(h2:h≤xs.length):nf T e L l (h-l) (some (.own e xs))=va2 e L l (h-l) xs (BI xs):=by
 have h3:=Gv hz
 unfold nf
 simp only [h3,Nat.mul_one]
 rw [if_pos ⟨trivial,hk,by omega⟩]
 cases BI xs<;>rfl
theorem A20(e:TypeId)(L:A5)(lo len:Nat)(xs:List D)(hk:T.known e=true)(hz:T.isStruct e=false)(h1:lo+len≤xs.length):nf T e L lo len (some (.own e xs))=va2 e L lo len xs (BI xs):=by
 have h3:=Gv hz
 unfold nf
 simp only [h3,Nat.mul_one]
 rw [if_pos ⟨trivial,hk,h1⟩]
 cases BI xs<;>rfl
theorem A21(e:TypeId)(L:A5)(lo len:Nat)(xs ys:List D):va2 e L lo len xs (some ys)=some (.sl e ((ys.drop lo).take len),[(L, .own e xs)]):=nr rfl
theorem tF(x y:Tmp)(t':TypeId):IA E pm s dst (.call ⟨.builtin .copy, #[.tmp x, .tmp y], #[t,t']⟩) ty=Q4 dst (Jj E.T pm s t (.tmp x) (.tmp y) (s.v x) (s.v y)):=IM dst _
def g8(T:Tys)(pm:Pm)(s:St)(t:TypeId):Option (TypeId×A5×List D×Nat×Nat)→Option (TypeId×List D)→Option (D×St)
 | some (e,L,xs,lo,len),some (e',ys)=>
  if T.isSl t e&&(e==e')&&T.known e&&(T.size e==1)&& !AF xs&& !AF ys&&ys.all Ax&&pm.wr (L.headD 0)then
   some (.int .i64 (min len ys.length:Nat),s.set L (.own e (B3 xs lo (ys.take (min len ys.length)))))
  else none
 | _,_=>none
theorem A22(x y:Operand)(a b:D):Jj T pm s t x y a b=g8 T pm s t (ME pm s x a) (OT pm s y b):=by
 unfold Jj g8
 rcases ME pm s x a with _ | ⟨_,_,_,_,_⟩<;>rcases OT pm s y b with _ | ⟨_,_⟩<;>rfl
theorem A23(e:TypeId)(L:A5)(xs ys:List D)(lo len:Nat)(h1:T.isSl t e=true)(h2:T.known e=true)(h3:T.size e=1)(h4:AF xs=false)(h5:AF ys=false)(h6:ys.all Ax=true)(h7:pm.wr (L.headD 0)=true):
  g8 T pm s t (some (e,L,xs,lo,len)) (some (e,ys))=some (.int .i64 (min len ys.length:Nat),s.set L (.own e (B3 xs lo (ys.take (min len ys.length))))):=by
 unfold g8
 dsimp only
 rw [if_pos (by rw [h1,h2,h3,h4,h5,h6,h7];simp)]
theorem lN(x:Tmp):IA E pm s dst (.call ⟨.builtin .clear, #[.tmp x], #[t]⟩) ty=Q4 dst (Hw E.T pm s t (.tmp x) (s.v x)):=IM dst _
def g9(T:Tys)(pm:Pm)(s:St)(t:TypeId):Option (TypeId×A5×List D×Nat×Nat)→Option (D×St)
 | some (e,L,xs,lo,len)=>
  if T.isSl t e&&T.known e&&(T.size e==1)&& !T.isStruct e&&Ax (T.zero1 e)&&pm.wr (L.headD 0)then
   some (.tup [],(s.set L (.own e (B3 xs lo (List.replicate len (T.zero1 e))))).bump (L.headD 0))
  else none
 | none=>none
theorem A24(x:Operand)(a:D):Hw T pm s t x a=g9 T pm s t (ME pm s x a):=by
 unfold Hw g9
 rcases ME pm s x a with _ | ⟨_,_,_,_,_⟩<;>rfl
theorem A25(e:TypeId)(L:A5)(xs:List D)(lo len:Nat)(h1:T.isSl t e=true)(h2:T.known e=true)(h3:T.isStruct e=false)(h5:Ax (T.zero1 e)=true)(h7:pm.wr (L.headD 0)=true):
  g9 T pm s t (some (e,L,xs,lo,len))=some (.tup [],(s.set L (.own e (B3 xs lo (List.replicate len (T.zero1 e))))).bump (L.headD 0)):=by
 have h8:=Gv h3
 unfold g9
 dsimp only
 rw [if_pos (by rw [h1,h2,h3,h5,h7,h8];simp)]
def lO(e:TypeId):Ty→Bool
 | .slice e'=>e'==e
 | _=>false
theorem A26(e:TypeId):T.isSl t e=lO e (T.ty t):=by unfold Tys.isSl lO;cases T.ty t<;>rfl
theorem A27(e e':TypeId):lO e (.slice e')=(e'==e):=nr rfl
def dv0:Option (TypeId×List D×Option (A5×Nat×Nat))→Option (TypeId×A5×List D×Nat×Nat)
 | some (e,xs,some (L,_,_))=>some (e,L,xs,0,xs.length)
 | _=>none
theorem A29(e:TypeId)(xs:List D)(L:A5)(a b:Nat):dv0 (some (e,xs,some (L,a,b)))=some (e,L,xs,0,xs.length):=nr rfl
theorem dvW(x:Operand)(L:A5)(n m:Nat):ME pm s x (.vw L n m)=dv0 (B2 pm s x (.vw L n m)):=by
 show(match B2 pm s x (.vw L n m)with | some (e,xs,some (L,_,_))=>some (e,L,xs,0,xs.length) | _=>none)=_
 rcases B2 pm s x (.vw L n m)with _ | ⟨_,_,_ | ⟨_,_,_⟩⟩<;>rfl
theorem dvO(x:Operand)(e:TypeId)(xs:List D):ME pm s x (.own e xs)=dv0 (B2 pm s x (.own e xs)):=by
 show(match B2 pm s x (.own e xs)with | some (e,xs,some (L,_,_))=>some (e,L,xs,0,xs.length) | _=>none)=_
 rcases B2 pm s x (.own e xs)with _ | ⟨_,_,_ | ⟨_,_,_⟩⟩<;>rfl
def dv1(e:TypeId)(L:A5)(lo len:Nat):Option D→Option (TypeId×A5×List D×Nat×Nat)
 | some (.own e' xs)=>if e'=e∧lo+len≤xs.length then some (e,L,xs,lo,len)else none
 | _=>none
theorem dvS(x:Operand)(e:TypeId)(L:A5)(n m lo len:Nat):ME pm s x (.vs e L n m lo len)=dv1 e L lo len (s.look pm L n m):=by
 show(match s.look pm L n m with | some (.own e' xs)=>if e'=e∧lo+len≤xs.length then some (e,L,xs,lo,len)else none | _=>none)=_
 rcases s.look pm L n m with _ | d
 ·rfl
 ·cases d<;>rfl
theorem A2B(e:TypeId)(L:A5)(lo len:Nat)(xs:List D)(h:lo+len≤xs.length):dv1 e L lo len (some (.own e xs))=some (e,L,xs,lo,len):=by simp [dv1,h]
def sv0:Option (TypeId×List D×Option (A5×Nat×Nat))→Option (TypeId×List D)
 | some (e,xs,_)=>some (e,xs)
 | _=>none
theorem A2D(e:TypeId)(xs:List D)(o:Option (A5×Nat×Nat)):sv0 (some (e,xs,o))=some (e,xs):=nr rfl
theorem svW(x:Operand)(L:A5)(n m:Nat):OT pm s x (.vw L n m)=sv0 (B2 pm s x (.vw L n m)):=by
 show(B2 pm s x (.vw L n m)).map (fun r=>(r.1,r.2.1))=_
 rcases B2 pm s x (.vw L n m)with _ | ⟨_,_,_⟩<;>rfl
theorem svO(x:Operand)(e:TypeId)(xs:List D):OT pm s x (.own e xs)=sv0 (B2 pm s x (.own e xs)):=by
 show(B2 pm s x (.own e xs)).map (fun r=>(r.1,r.2.1))=_
 rcases B2 pm s x (.own e xs)with _ | ⟨_,_,_⟩<;>rfl
theorem svL(x:Operand)(e:TypeId)(xs:List D):OT pm s x (.sl e xs)=some (e,xs):=nr rfl
def sv1(e:TypeId)(lo len:Nat):Option D→Option (TypeId×List D)
 | some (.own e' xs)=>if e'=e∧lo+len≤xs.length then some (e,(xs.drop lo).take len)else none
 | _=>none
theorem svS(x:Operand)(e:TypeId)(L:A5)(n m lo len:Nat):OT pm s x (.vs e L n m lo len)=sv1 e lo len (s.look pm L n m):=by
 show(match s.look pm L n m with | some (.own e' xs)=>if e'=e∧lo+len≤xs.length then some (e,(xs.drop lo).take len)else none | _=>none)=_
 rcases s.look pm L n m with _ | d
 ·rfl
 ·cases d<;>rfl
theorem A2F(e:TypeId)(lo len:Nat)(xs:List D)(h:lo+len≤xs.length):sv1 e lo len (some (.own e xs))=some (e,(xs.drop lo).take len):=by simp [sv1,h]
theorem A2G(x:Tmp)(e:TypeId)(L:A5)(n m lo len:Nat):B8 s dst (.tmp x) (.vs e L n m lo len)=s.putO dst (.vs e L n m lo len):=nr rfl
theorem tG(x:Tmp)(e:TypeId)(L:A5)(n m lo len:Nat):Mh pm x (.vs e L n m lo len)=true:=by simp [Mh,D.hasObj]
theorem A2H(e:TypeId)(L:A5)(n m lo len:Nat):(D.vs e L n m lo len).hasObj=false:=by simp [D.hasObj]
theorem A2I(x:Operand)(d:D)(e:TypeId)(hk:T.known e=true):ne T pm s x d none (some (.const (.int .i64 0))) (some (.const (.int .i64 0))) (.slice e)=match B2 pm s x d with | some (e',_,_)=>if e=e' then some (.own e [],s)else none | none=>none:=by
 simp only [ne]
 rcases B2 pm s x d with _ | ⟨e',xs,o⟩
 ·rfl
 ·simp only [KO,ev,Ln,Int.le_refl,if_true,Int.toNat_zero,Nat.zero_le,and_true,Option.isSome_some,true_and]
  by_cases he:e=e'
  ·subst he;simp [hk]
  ·simp [he]
end
theorem Y6{P:Program}{T:Tys}{f:FuncId}{e:TypeId}{r:D}{outs:List D}(hk:T.known e=true)(h: ∀A c,Good P T f [.konst (.slice A 0 c)] [] r outs):Good P T f [.sl e []] [] r outs:=by
 refine⟨(h none 0).1,fun vs gh w S FL hsz hA hL hL0 hLd hlt=> ?_⟩
 obtain⟨v,hv,hW⟩:=hA 0 _ rfl
 obtain⟨A,c,rfl⟩: ∃A c,v= .slice A 0 c:=by
  cases hW with
  | sl us hE hn hc hm hx hw=>
   rename_i A n c
   have hp:=Vz hk
   have:n=0:=by
    simp only [List.length_nil]at hn
    rcases Nat.mul_eq_zero.1 hn.symm with h0 | h0
    ·exact h0
    ·omega
   subst this
   exact⟨_,_,rfl⟩
 refine(h A c).2 vs gh w S FL hsz (fun i d hi=> ?_) hL hL0 hLd hlt
 cases i with
 | zero=>simp at hi;subst hi;exact⟨_,hv, .konst (fun _ h=>h)⟩
 | succ i=>simp at hi
end Dv
namespace Dv
open Go
set_option maxRecDepth 10000
set_option linter.defProp false
theorem geq:G=100000:=nr rfl
def A8:=And.intro @yv (And.intro @tF (And.intro @lN (And.intro @yu (
 And.intro @yy (
 And.intro @yz (
 And.intro @y8 (
 And.intro @y9 (
 And.intro @o4 (
 And.intro @o5 (
 And.intro @jO (
 And.intro @A10 (
 And.intro @yMf (
 And.intro @lK (
 And.intro @yG (
 And.intro @oL (
 And.intro @yE (
 And.intro @jW (
 And.intro @oM (
 And.intro @oP (
 And.intro @jX (
 And.intro @oJ (
 And.intro @oK (
 And.intro @yD (
 And.intro @jY (
 And.intro @jZ (
 And.intro @ja (
 And.intro @yI (
 And.intro @yJ (
 And.intro @yK (
 And.intro @yM (
 And.intro @yN (
 And.intro @yO (
 And.intro @oQ (
 And.intro @oR (
 And.intro @Xt (
 And.intro @W4 (
 And.intro @pg (
 And.intro @fk (
 And.intro @cC (
 And.intro @jp (
 And.intro @ph (
 And.intro @yUn (
 And.intro @jq (
 And.intro @yt (
 And.intro @cD (
 And.intro @jr (
 And.intro @fm (
 And.intro @jt (
 And.intro @po (
 And.intro @cE (
 And.intro @pp (
 And.intro @bp (
 And.intro @Zw (
 And.intro @Zu (
 And.intro @lC (
 And.intro @yBs (@TN)))))))))))))))))))))))))))))))))))))))))))))))))))))))))
def A1:=And.intro @zL (And.intro @zM (And.intro @jx (And.intro @qD (And.intro @jy (And.intro @rg8 (And.intro @rg9 (And.intro @A1A (And.intro @A1B (And.intro @A1C (And.intro @A0g (And.intro @kO (And.intro @zi (And.intro @zj (And.intro @kP (And.intro @faE (And.intro @foN (And.intro @A0s (And.intro @A0t (And.intro @sY (And.intro @lD (And.intro @A0w (And.intro @A0x (And.intro @fnA (And.intro @spN (And.intro @spC (And.intro @cfT (And.intro @A1u (And.intro @A1v (And.intro @A1w (And.intro @oW (And.intro @A1T (And.intro @cvE (And.intro @A1U (And.intro @A1V (And.intro @umN (And.intro @umC (And.intro @ceN (And.intro @ceT (And.intro @A1X (And.intro @A1Y (And.intro @A1Z (And.intro @A1a (And.intro @utV (And.intro @utC (And.intro @ldO (And.intro @coE (And.intro @A1c (And.intro @A1d (And.intro @A1e (And.intro @A1g (And.intro @oaN (And.intro @oaV (And.intro @oaC (And.intro @oaU (And.intro @saU (And.intro @saV (And.intro @saC (And.intro @A1h (And.intro @yp (And.intro @yq (And.intro @yr (And.intro @A24 (And.intro @A25 (And.intro @y7 (And.intro @yk (And.intro @fv (And.intro @kN (And.intro @zg (And.intro @zh (And.intro @qq (And.intro @zk (And.intro @pz (And.intro @jw (And.intro @qB (And.intro @jz (And.intro @qE (And.intro @qF (And.intro @qG (And.intro @kA (And.intro @qH (And.intro @qI (And.intro @qJ (And.intro @qK (And.intro @A1p (And.intro @yj (And.intro @yl (
 And.intro @t8 (
 And.intro @tA (
 And.intro @A1q (
 And.intro @ctT (
 And.intro @A1r (
 And.intro @A1s (
 And.intro @A1t (
 And.intro @A1x (
 And.intro @A1z (
 And.intro @A20 (
 And.intro @A21 (
 And.intro @rJ (
 And.intro @kV (
 And.intro @rK (
 And.intro @A07 (
 And.intro @rL (
 And.intro @kW (
 And.intro @axK (
 And.intro @rM (
 And.intro @rN (
 And.intro @A08 (
 And.intro @rO (
 And.intro @A22 (
 And.intro @A23 (
 And.intro @A26 (
 And.intro @A27 (
 And.intro @A29 (
 And.intro @dvW (
 And.intro @dvO (
 And.intro @dvS (
 And.intro @A2B (
 And.intro @A2D (
 And.intro @svW (
 And.intro @svO (
 And.intro @svL (
 And.intro @svS (
 And.intro @A2F (
 And.intro @A2G (
 And.intro @tG (
 And.intro @A2H (
 And.intro @yW (
 And.intro @yX (
 And.intro @yY (
 And.intro @p5 (
 And.intro @p6 (
 And.intro @p7 (
 And.intro @p8 (
 And.intro @yZ (
 And.intro @tqU (
 And.intro @p9 (
 And.intro @jk (
 And.intro @pA (
 And.intro @ya (
 And.intro @pB (
 And.intro @pC (
 And.intro @pF (
 And.intro @pG (
 And.intro @s0 (
 And.intro @s5 (
 And.intro @kt (
 And.intro @sA (
 And.intro @A0U (
 And.intro @sB (
 And.intro @sC (
 And.intro @sD (
 And.intro @sG (
 And.intro @A0V (
 And.intro @bkK (
 And.intro @sZ (
 And.intro @lG (
 And.intro @sa (
 And.intro @A11 (
 And.intro @sc (
 And.intro @A12 (
 And.intro @sd (
 And.intro @o6 (
 And.intro @o7 (
 And.intro @yA (
 And.intro @yB (
 And.intro @yC (
 And.intro @o8 (
 And.intro @ndK (
 And.intro @z6 (
 And.intro @pn (
 And.intro @z7 (
 And.intro @apK (
 And.intro @rG (
 And.intro @zz (
 And.intro @A00 (
 And.intro @rb (
 And.intro @rc (
 And.intro @kf (
 And.intro @dl2 (
 And.intro @dl1 (
 And.intro @A1H (
 And.intro @so (
 And.intro @lI (
 And.intro @sq (
 And.intro @A1F (
 And.intro @A1G (
 And.intro @sr (
 And.intro @sm (
 And.intro @A13 (
 And.intro @A14 (
 And.intro @A16 (
 And.intro @sf (
 And.intro @A17 (
 And.intro @A18 (
 And.intro @A19 (
 And.intro @csS (
 And.intro @rg1 (
 And.intro @rg2 (
 And.intro @rg3 (
 And.intro @rg4 (
 And.intro @rg5 (
 And.intro @rg6 (
 And.intro @rg7 (
 And.intro @sg (
 And.intro @lH (
 And.intro @sh (
 And.intro @A1D (
 And.intro @sk (
 And.intro @A1E (
 And.intro @noA (
 And.intro @A1I (
 And.intro @A1J (
 And.intro @lJ (
 And.intro @A1K (
 And.intro @A1L (
 And.intro @A1M (
 And.intro @su (
 And.intro @sw (
 And.intro @A1O (
 And.intro @A1P (
 And.intro @A1Q (
 And.intro @A1R (
 And.intro @A1S (
 And.intro @aH (
 And.intro @bnN (
 And.intro @bnS (
 And.intro @A1j (
 And.intro @slT (
 And.intro @A1k (
 And.intro @A2I (
 And.intro @A1l (
 And.intro @A1m (
 And.intro @A1n (
 And.intro @A1o (
 And.intro @sI (
 And.intro @bkT (
 And.intro @bkF (
 And.intro @bkE (
 And.intro @bkL (
 And.intro @sJ (
 And.intro @ku (
 And.intro @ipC (
 And.intro @ipN (
 And.intro @ipE (
 And.intro @ieC (
 And.intro @ieN (
 And.intro @fiA (
 And.intro @fiB (
 And.intro @fiC (
 And.intro @fiE (
 And.intro @kq (
 And.intro @kr (
 And.intro @A0P (
 And.intro @ru (
 And.intro @zm (
 And.intro @zn (
 And.intro @zo (
 And.intro @zp (
 And.intro @bxA (
 And.intro @zr (
 And.intro @hdC (
 And.intro @A04 (
 And.intro @A05 (
 And.intro @A06 (
 And.intro @mvT (
 And.intro @A0Y (
 And.intro @A0Z (
 And.intro @kw (
 And.intro @fw (
 And.intro @kx (
 And.intro @sL (
 And.intro @ky (
 And.intro @kz (
 And.intro @sM (
 And.intro @sN (
 And.intro @A0a (
 And.intro @l3 (
 And.intro @fx (
 And.intro @l4 (
 And.intro @l5 (
 And.intro @cH (
 And.intro @l6 (
 And.intro @fy (
 And.intro @sO (
 And.intro @g4 (
 And.intro @A0b (
 And.intro @l7 (
 And.intro @g5 (
 And.intro @sP (
 And.intro @A0c (
 And.intro @l8 (
 And.intro @A0d (
 And.intro @A0e (
 And.intro @A0f (
 And.intro @A0h (
 And.intro @A0i (
 And.intro @A0j (
 And.intro @l9 (
 And.intro @pmR (
 And.intro @pmW (
 And.intro @yF (
 And.intro @oN (
 And.intro @yH (
 And.intro @xx (
 And.intro @xy (
 And.intro @xz (
 And.intro @A0u (
 And.intro @A0p (And.intro @A0o (And.intro @A0q (And.intro @A0r (
 And.intro @A0m (
 And.intro @yMk (
 And.intro @A0y (
 And.intro @A0z (
 And.intro @sU (
 And.intro @sV (
 And.intro @jP (
 And.intro @jQ (
 And.intro @fa (
 And.intro @jR (
 And.intro @jS (
 And.intro @fb (
 And.intro @oS (
 And.intro @jb (
 And.intro @oT (
 And.intro @yP (
 And.intro @ff (
 And.intro @oU (
 And.intro @oV (
 And.intro @yQ (
 And.intro @yR (
 And.intro @jc (
 And.intro @oX (
 And.intro @oY (
 And.intro @oZ (
 And.intro @jd (
 And.intro @oa (
 And.intro @ob (
 And.intro @je (
 And.intro @oc (
 And.intro @yS (
 And.intro @fg (
 And.intro @fh (
 And.intro @od (
 And.intro @oe (
 And.intro @yU (
 And.intro @og (
 And.intro @jf (
 And.intro @fi (
 And.intro @jg (
 And.intro @ol (
 And.intro @bw (
 And.intro @bx (
 And.intro @oo (
 And.intro @jh (
 And.intro @ji (
 And.intro @oq (
 And.intro @ot (
 And.intro @jj (
 And.intro @ou (
 And.intro @yV (
 And.intro @fj (
 And.intro @ov (
 And.intro @ox (
 And.intro @oy (
 And.intro @oz (
 And.intro @yb (
 And.intro @jl (
 And.intro @pH (
 And.intro @pI (
 And.intro @pJ (
 And.intro @pkB (
 And.intro @pkT (
 And.intro @pkF (
 And.intro @ny (
 And.intro @nz (
 And.intro @o3 (
 And.intro @yx (
 And.intro @pj (
 And.intro @pl (
 And.intro @z8 (
 And.intro @zA (
 And.intro @zD (
 And.intro @zE (
 And.intro @pK (
 And.intro @pM (
 And.intro @pO (
 And.intro @pP (
 And.intro @pQ (
 And.intro @pR (
 And.intro @yc (
 And.intro @pS (
 And.intro @bz (
 And.intro @pT (
 And.intro @pU (
 And.intro @yd (
 And.intro @ye (
 And.intro @yf (
 And.intro @yg (
 And.intro @yh (
 And.intro @yi (
 And.intro @pV (
 And.intro @pW (
 And.intro @pX (
 And.intro @pY (
 And.intro @pZ (
 And.intro @jm (
 And.intro @pa (
 And.intro @pb (
 And.intro @boI (
 And.intro @boS (
 And.intro @boB (
 And.intro @boA (
 And.intro @jn (
 And.intro @pc (
 And.intro @pd (
 And.intro @pf (
 And.intro @ldC (
 And.intro @zF (
 And.intro @ldP (
 And.intro @zG (
 And.intro @ldB (
 And.intro @zH (
 And.intro @ldV (
 And.intro @zI (
 And.intro @pq (
 And.intro @pt (
 And.intro @ju (
 And.intro @jv (
 And.intro @pu (
 And.intro @zJ (
 And.intro @pv (
 And.intro @zK (
 And.intro @px (
 And.intro @py (
 And.intro @lnT (
 And.intro @zN (
 And.intro @qL (
 And.intro @qM (
 And.intro @ixT (
 And.intro @zP (
 And.intro @A0k (
 And.intro @sQ (
 And.intro @A0l (
 And.intro @sR (
 And.intro @ft (
 And.intro @Xy (
 And.intro @WB (
 And.intro @Xz (
 And.intro @g6 (
 And.intro @cK (
 And.intro @Y1 (
 And.intro @aF (
 And.intro @Y2 (
 And.intro @TP (
 And.intro @Mi (
 And.intro @lA (
 And.intro @g7 (
 And.intro @cI (
 And.intro @cM (
 And.intro @WA (
 And.intro @cJ (
 And.intro @qN (
 And.intro @tkC (
 And.intro @qU (
 And.intro @kG (
 And.intro @qV (
 And.intro @zU (
 And.intro @qW (
 And.intro @qX (
 And.intro @qY (
 And.intro @kH (
 And.intro @zV (
 And.intro @qZ (
 And.intro @qO (
 And.intro @kD (
 And.intro @qP (
 And.intro @zQ (
 And.intro @qQ (
 And.intro @qR (
 And.intro @qS (
 And.intro @kE (
 And.intro @zR (
 And.intro @gg (
 And.intro @zS (
 And.intro @zT (
 And.intro @kF (
 And.intro @fu (
 And.intro @kI (
 And.intro @ZA (
 And.intro @y5 (
 And.intro @y4 (
 And.intro @y6 (
 And.intro @kJ (
 And.intro @qa (
 And.intro @qb (
 And.intro @qc (
 And.intro @kK (
 And.intro @zW (
 And.intro @zX (
 And.intro @hoK (
 And.intro @hoU (
 And.intro @qd (
 And.intro @qe (
 And.intro @qf (
 And.intro @zZ (
 And.intro @qg (
 And.intro @za (
 And.intro @zb (
 And.intro @zd (
 And.intro @ze (
 And.intro @qh (
 And.intro @qi (
 And.intro @qj (
 And.intro @qk (
 And.intro @ql (
 And.intro @qm (
 And.intro @qo (
 And.intro @qp (
 And.intro @kL (
 And.intro @zt (
 And.intro @qr (
 And.intro @qs (
 And.intro @qt (
 And.intro @qu (
 And.intro @qv (
 And.intro @kQ (
 And.intro @qw (
 And.intro @zu (
 And.intro @qx (
 And.intro @qy (
 And.intro @qz (
 And.intro @kR (
 And.intro @ceS (
 And.intro @rA (
 And.intro @kS (
 And.intro @rB (
 And.intro @zv (
 And.intro @rC (
 And.intro @zw (
 And.intro @rD (
 And.intro @zx (
 And.intro @A02 (
 And.intro @A03 (
 And.intro @kT (
 And.intro @kU (
 And.intro @rH (
 And.intro @rI (
 And.intro @arC (
 And.intro @arF (
 And.intro @aCS (
 And.intro @rP (
 And.intro @kX (
 And.intro @rQ (
 And.intro @A09 (
 And.intro @rR (
 And.intro @kY (
 And.intro @atK (
 And.intro @rT (
 And.intro @rU (
 And.intro @A0D (
 And.intro @kZ (
 And.intro @kb (
 And.intro @rV (
 And.intro @rW (
 And.intro @A0A (
 And.intro @A0C (
 And.intro @A0E (
 And.intro @A0F (
 And.intro @kc (
 And.intro @rX (
 And.intro @kd (
 And.intro @rY (
 And.intro @ke (
 And.intro @rZ (
 And.intro @A0G (
 And.intro @ra (
 And.intro @A0H (
 And.intro @re (
 And.intro @cdB (
 And.intro @A0I (
 And.intro @A0J (
 And.intro @A0K (
 And.intro @cdL (
 And.intro @A0L (
 And.intro @A0M (
 And.intro @rf (
 And.intro @ki (
 And.intro @rg (
 And.intro @gl (
 And.intro @rh (
 And.intro @ri (
 And.intro @rj (
 And.intro @kj (
 And.intro @ZB (
 And.intro @rk (
 And.intro @kl (
 And.intro @rl (
 And.intro @rm (
 And.intro @rn (
 And.intro @ko (
 And.intro @rp (
 And.intro @cG (
 And.intro @rq (
 And.intro @rr (
 And.intro @rt (
 And.intro @kp (
 And.intro @A0N (
 And.intro @P9 (
 And.intro @A0O (
 And.intro @fiD (
 And.intro @fi0 (
 And.intro @re0 (
 And.intro @re1 (
 And.intro @re2 (
 And.intro @A0Q (
 And.intro @rx (
 And.intro @ry (
 And.intro @A0R (
 And.intro @ks (
 And.intro @A0S (
 And.intro @A0T (
 And.intro @rz (
 And.intro @sK (
 And.intro @kv (
 And.intro @A0X (
 And.intro @BZ (
 And.intro @cA (
 And.intro @Q5 (
 And.intro @W6 (
 And.intro @W7 (
 And.intro @Xw (
 And.intro @o9 (
 And.intro @oC (
 And.intro @jT (
 And.intro @oF (
 And.intro @oA (
 And.intro @oD (
 And.intro @jU (
 And.intro @oG (
 And.intro @oB (
 And.intro @oE (
 And.intro @jV (
 And.intro @oH (
 And.intro @Zy (
 And.intro @Zz (
 And.intro @oI (
 And.intro @aB (
 And.intro @bu (
 And.intro @fc (
 And.intro @fd (
 And.intro @fe (
 And.intro @geq (
 And.intro @Int.toNat_natCast (
 And.intro @Int.toNat_zero (
 And.intro @Int.natCast_nonneg (
 And.intro @Nat.zero_le (
 And.intro @Int.le_refl (
 And.intro @Nat.le_refl (
 And.intro @Bool.and_true (
 And.intro @Bool.true_and (
 And.intro @Bool.and_false (
 And.intro @Bool.false_and (
 And.intro @Bool.or_false (
 And.intro @Bool.false_or (
 And.intro @Bool.or_true (
 And.intro @Bool.true_or (
 And.intro @Bool.not_true (
 And.intro @Bool.not_false (
 And.intro @Bool.false_eq_true (
 And.intro @decide_true (
 And.intro @decide_false (
 And.intro @and_self (
 And.intro @and_true (@true_and))))))))))))))))))))))))))))))))))))))))))))))))))))))))))))))))))))))))))))))))))))))))))))))))))))))))))))))))))))))))))))))))))))))))))))))))))))))))))))))))))))))))))))))))))))))))))))))))))))))))))))))))))))))))))))))))))))))))))))))))))))))))))))))))))))))))))))))))))))))))))))))))))))))))))))))))))))))))))))))))))))))))))))))))))))))))))))))))))))))))))))))))))))))))))))))))))))))))))))))))))))))))))))))))))))))))))))))))))))))))))))))))))))))))))))))))))))))))))))))))))))))))))))))))))))))))))))))))))))))))))))))))))))))))))))))))))))))))))))))))))))))))))))))))))))))))))))))))))))))))))))))))))))))))))))))))))))))))))))))))))))))))))))))))))))))))))))))))))))
end Dv
