/- Value semantics for Go code, part 4: arguments of laws, slim code and rules. Conditions: none beyond those in each lemma. -/
import Derived.Test.YtjjahjjhohcidaaL3
import Derived.WalkKit
import Derived.ProofKit
import Derived.OpenShut
import Derived.ShutString
import Derived.ChangeOld
import Derived.Below
import Derived.Carry
import Derived.IntWalk
set_option linter.unusedSimpArgs false
set_option linter.unusedVariables false
namespace Dv
open Go
inductive Shp(T:Tys):TypeId→List D→Prop
 | int {t k n} (ht:T.ty t= .int k) (hw:(Lit.int k n).wf=true):Shp T t [.int k n]
 | bool {t b} (ht:T.ty t= .bool):Shp T t [.bool b]
 | string {t s} (ht:T.ty t= .string) (hs:s.size≤maxLen):Shp T t [.str s]
 | slice {t e} {xss:List (List D)} (ht:T.ty t= .slice e) (hx: ∀xs,xs∈xss→Shp T e xs) (hl:xss.length≤maxLen):Shp T t [.sl e xss.flatten]
 | struct {t fs} {ds:List D} (ht:T.ty t= .struct fs) (hl:ds.length=fs.length) (hx: ∀(i:Nat) (f:TypeId) (d:D),fs[i]? =some f→ds[i]? =some d→Shp T f [d]):Shp T t ds
def Hr(T:Tys):Nat→TypeId→Bool
 | 0,_=>false
 | n+1,t=>match T.ty t with
  | .int _=>true
  | .bool=>true
  | .string=>true
  | .slice e=>T.known e&&Hr T n e
  | .struct fs=>(T.nest t).isNone&& !fs.isEmpty&&fs.all (Hr T n)
  | _=>false
theorem Shp.length{T:Tys}{t:TypeId}{ds:List D}(h:Shp T t ds):ds.length=T.size t:=by
 cases h with
 | int ht=>simp [Tys.size,ht,Ty.size]
 | bool ht=>simp [Tys.size,ht,Ty.size]
 | string ht=>simp [Tys.size,ht,Ty.size]
 | slice ht=>simp [Tys.size,ht,Ty.size]
 | struct ht hl=>simp [Tys.size,ht,Ty.size,hl]
theorem O4{α:Type}{n:Nat}(hn:0<n): ∀(xss:List (List α)),(∀xs∈xss,xs.length=n)→ ∀k:Nat,xss.flatten[k]? =(xss[k / n]?).bind fun xs=>xs[k % n]? :=by
 intro xss
 induction xss with
 | nil=>intro _ k;simp
 | cons xs xss ih=>
  intro h k
  have hx:=h xs (List.mem_cons_self)
  rw [List.flatten_cons]
  rcases Nat.lt_or_ge k n with hk | hk
  ·rw [List.getElem?_append_left (by omega),Nat.div_eq_of_lt hk,Nat.mod_eq_of_lt hk];rfl
  ·rw [List.getElem?_append_right (by omega),ih (fun ys hy=>h ys (List.mem_cons_of_mem _ hy)),hx]
   have h1:k / n=(k-n) / n+1:=by
    rw [Nat.div_eq_sub_div hn hk]
   have h2:k % n=(k-n) % n:=by rw [Nat.mod_eq_sub_mod hk]
   rw [h1,h2];rfl
theorem KA{α:Type}{n:Nat}: ∀(xss:List (List α)),(∀xs∈xss,xs.length=n)→xss.flatten.length=xss.length*n:=by
 intro xss
 induction xss with
 | nil=>intro _;simp
 | cons xs xss ih=>
  intro h
  rw [List.flatten_cons,List.length_append,ih (fun ys hy=>h ys (List.mem_cons_of_mem _ hy)),h xs (List.mem_cons_self),List.length_cons,Nat.add_mul];omega
abbrev Qn(w:World):Nat→Prop:=fun k=>k<w.heap.size
section
variable {P:Program} {T:Tys} {H:Type} {enc:TypeId×Value→H} {w:World} {spare:Nat→Bool} {RZ:Bool}
theorem An.cells(h:An P T){t:TypeId}(hk:T.known t=true):P.cellsOf t=T.size t:=by
 obtain⟨i,h1,h2,_⟩:=h.info hk
 simp [Program.cellsOf,h1,h2]
theorem Ph{n:Nat}{t:TypeId}(h:Hr T n t=true):T.known t=true:=by
 cases n with
 | zero=>cases h
 | succ n=>
  unfold Hr at h
  unfold Tys.known
  cases ht:T.ty t with
  | struct fs=>
   rw [ht]at h
   cases fs with
   | nil=>simp at h
   | cons=>rfl
  | other=>rw [ht]at h;cases h
  | map=>rw [ht]at h;cases h
  | _=>rfl
theorem O5{t:TypeId}(hk:T.known t=true):0<T.size t:=by
 unfold Tys.known at hk
 unfold Tys.size
 cases ht:T.ty t with
 | struct fs=>
  rw [ht]at hk
  cases fs with
  | nil=>cases hk
  | cons=>simp [Ty.size]
 | _=>simp [Ty.size]
theorem Pi{base:Nat}{a:Addr}{n:Nat}{cs:List Value}(h:w.cells? base a n=some cs):cs.length=n∧ ∀i,i<n→w.cell? (a.add i)=cs[i]? :=by
 unfold World.cells? at h
 split at h
 ·exact⟨by simpa using mapM_some_length h,fun i hi=>by have:=mapM_some_get h i i (by simp [hi]);simpa using this⟩
 ·cases h
theorem Uu{ad:Addr}{v:Value}(h:w.cell? ad=some v):ad.block<w.heap.size:=by
 rcases Nat.lt_or_ge ad.block w.heap.size with hl | hl
 ·exact hl
 ·have h1:=Array.getElem?_eq_none hl
  simp [World.cell?,h1]at h
theorem Sq(hT:An P T): ∀(fuel:Nat) (n:Nat) (t:TypeId) (cs:List Value) (x:DataW H×List MemPlace),Hr T n t=true→DataW.trod enc P w 0 spare RZ fuel t cs=some x→
  ∃ds,Shp T t ds∧cs.length=ds.length∧ ∀(i:Nat) (d:D),ds[i]? =some d→ ∃v,cs[i]? =some v∧W T (Qn w) w V0 Dj d v (fun _=>False):=by
 have hE:Em (fun _:Nat=>False):=fun _ h=>h
 have one: ∀(d0:D) (v0:Value),W T (Qn w) w V0 Dj d0 v0 (fun _=>False)→ ∀(i:Nat) (d:D),[d0][i]? =some d→ ∃v,[v0][i]? =some v∧W T (Qn w) w V0 Dj d v (fun _=>False):=by
  intro d0 v0 h i d hi
  cases i with
  | zero=>simp at hi;subst hi;exact⟨v0,rfl,h⟩
  | succ i=>simp at hi
 intro fuel
 induction fuel with
 | zero=>intro n t cs x _ h;simp [DataW.trod]at h
 | succ fuel ih=>
  intro n t cs x hd h
  have hk:=Ph hd
  have h0:=(hT t).1
  unfold CZ at h0
  cases n with
  | zero=>cases hd
  | succ n=>
   unfold Hr at hd
   cases ht:T.ty t<;>rw [ht]at h0 hd<;>simp only at h0 hd
   case int k=>
    obtain⟨m,rfl,_,hw⟩:=DataW.trod_int h0.1 h
    exact⟨[.int k m], .int ht hw,rfl,one _ _ (.int hE)⟩
   case bool=>
    obtain⟨b,rfl,_⟩:=DataW.trod_bool h0.1 h
    exact⟨[.bool b], .bool ht,rfl,one _ _ (.bool hE)⟩
   case string=>
    obtain⟨s,rfl,_,hs⟩:=DataW.trod_string h0.1 h
    exact⟨[.str s], .string ht hs,rfl,one _ _ (.str hE)⟩
   case slice e=>
    simp only [Bool.and_eq_true]at hd
    have hc:=hT.cells hd.1
    have hpos:=O5 hd.1
    rcases DataW.trod_slice h0.1 h with⟨rfl,_⟩ | ⟨a,len,cap,elems,rest,m,hm,rfl,_,_,hl,hcap,hlen,hel,_,_⟩
    ·exact⟨[.sl e ([]:List (List D)).flatten], .slice ht (by simp) (by simp [maxLen]),rfl,one _ _ (.sl (fun _=>undef) hE (by simp) (Nat.le_refl _) (by simp [maxLen]) (by simp) (by simp))⟩
    ·injection hm with hm
     subst hm
     have hex: ∀i,i<len→ ∃ds,Shp T e ds∧ ∀(j:Nat) (d:D),ds[j]? =some d→ ∃v,w.cell? (a.add (i*T.size e+j))=some v∧W T (Qn w) w V0 Dj d v (fun _=>False):=by
      intro i hi
      have h1:=hel i hi
      rw [List.getElem?_eq_getElem (by omega),Option.bind_eq_some_iff]at h1
      obtain⟨cs',h2,h3⟩:=h1
      obtain⟨ds,q1,q2,q3⟩:=ih n e cs' _ hd.2 h3
      refine⟨ds,q1,fun j d hj=> ?_⟩
      obtain⟨v,hv,hW⟩:=q3 j d hj
      obtain⟨c1,c2⟩:=Pi h2
      rw [hc]at c1 c2
      have hj':j<T.size e:=by rw [←c1];exact(List.getElem?_eq_some_iff.1 hv).1
      have h4:=c2 j hj'
      rw [EK]at h4
      exact⟨v,by rw [h4,hv],hW⟩
     let ch:Nat→List D:=fun i=>if h:i<len then(hex i h).choose else []
     have hch: ∀i,i<len→Shp T e (ch i)∧ ∀(j:Nat) (d:D),(ch i)[j]? =some d→ ∃v,w.cell? (a.add (i*T.size e+j))=some v∧W T (Qn w) w V0 Dj d v (fun _=>False):=by
      intro i hi
      have:=(hex i hi).choose_spec
      simp only [ch,hi,dif_pos];exact this
     have hall: ∀xs∈(List.range len).map ch,xs.length=T.size e:=by
      intro xs hxs
      obtain⟨i,hi,rfl⟩:=List.mem_map.1 hxs
      exact(hch i (List.mem_range.1 hi)).1.length
     refine⟨[.sl e ((List.range len).map ch).flatten], .slice ht (fun xs hxs=> ?_) (by simp;omega),rfl,one _ _ ?_⟩
     ·obtain⟨i,hi,rfl⟩:=List.mem_map.1 hxs
      exact(hch i (List.mem_range.1 hi)).1
     ·have key: ∀(i:Nat) (x:D),((List.range len).map ch).flatten[i]? =some x→ ∃v,w.cell? (a.add i)=some v∧W T (Qn w) w V0 Dj x v (fun _=>False):=by
       intro i x hi
       rw [O4 hpos _ hall,Option.bind_eq_some_iff]at hi
       obtain⟨xs,h1,h2⟩:=hi
       rw [List.getElem?_map,Option.map_eq_some_iff]at h1
       obtain⟨q,hq,rfl⟩:=h1
       obtain⟨hq1,hq2⟩:=List.getElem?_eq_some_iff.1 hq
       simp only [List.getElem_range]at hq2
       subst hq2
       obtain⟨v,hv,hW⟩:=(hch _ (by simpa using hq1)).2 _ x h2
       rw [show i / T.size e*T.size e+i % T.size e=i by rw [Nat.mul_comm];exact Nat.div_add_mod i (T.size e)]at hv
       exact⟨v,hv,hW⟩
      refine .sl (fun i=>(w.cell? (a.add i)).getD undef) hE (by rw [KA _ hall];simp) hl hcap (fun i x hi=> ?_) (fun i x hi=> ?_)
      ·obtain⟨v,hv,_⟩:=key i x hi
       exact⟨a,rfl,by have:=Uu hv;rw [Fb]at this;exact this,by rw [hv];rfl⟩
      ·obtain⟨v,hv,hW⟩:=key i x hi
       simp only [hv,Option.getD_some];exact hW
   case struct fs=>
    simp only [Bool.and_eq_true,List.all_eq_true,Option.isNone_iff_eq_none]at hd
    obtain⟨⟨fields,hu,hfx⟩,hinfo⟩:=h0
    rw [hd.1.1]at hfx
    obtain⟨hfl,hfi⟩:=hfx
    obtain⟨xs,m,hm,_,hcl,hxl,hx⟩:=DataW.trod_struct hu h
    injection hm with hm
    subst hm
    rw [hT.cells hk]at hcl
    have hsz:T.size t=fs.length:=by simp [Tys.size,ht,Ty.size]
    have hex: ∀i,i<fs.length→ ∃d f,fs[i]? =some f∧Shp T f [d]∧ ∃v,cs[i]? =some v∧W T (Qn w) w V0 Dj d v (fun _=>False):=by
     intro i hi
     have hif:i<fields.size:=by omega
     obtain⟨f1,f2,f3,f4⟩:=hfi i _ (Array.getElem?_eq_getElem hif)
     have h1:=hx i _ (Array.getElem?_eq_getElem hif)
     have hs1:T.size fields[i].type=1:=by
      unfold Tys.isStruct at f4
      unfold Tys.size
      cases hty:T.ty fields[i].type<;>simp_all [Ty.isStruct,Ty.size]
     rw [f1,hT.cells f3,hs1,List.getElem?_eq_getElem (by omega)]at h1
     obtain⟨ds,q1,q2,q3⟩:=ih n _ _ _ (hd.2 _ (List.mem_of_getElem? f2)) h1
     have hl1:ds.length=1:=by rw [q1.length,hs1]
     obtain⟨d,rfl⟩:=List.length_eq_one_iff.1 hl1
     obtain⟨v,hv,hW⟩:=q3 0 d rfl
     refine⟨d,_,f2,q1,v, ?_,hW⟩
     rw [List.getElem?_take]at hv
     simp only [Nat.zero_lt_one,if_true,List.getElem?_drop,Nat.add_zero]at hv
     exact hv
    let ch:Nat→D:=fun i=>if h:i<fs.length then(hex i h).choose else .undef
    have hch: ∀i,i<fs.length→ ∃f,fs[i]? =some f∧Shp T f [ch i]∧ ∃v,cs[i]? =some v∧W T (Qn w) w V0 Dj (ch i) v (fun _=>False):=by
     intro i hi
     have:=(hex i hi).choose_spec
     simp only [ch,hi,dif_pos];exact this
    have hget: ∀(i:Nat) (d:D),((List.range fs.length).map ch)[i]? =some d→i<fs.length∧d=ch i:=by
     intro i d hi
     rw [List.getElem?_map,Option.map_eq_some_iff]at hi
     obtain⟨q,hq,rfl⟩:=hi
     obtain⟨hq1,hq2⟩:=List.getElem?_eq_some_iff.1 hq
     simp only [List.getElem_range]at hq2
     subst hq2
     exact⟨by simpa using hq1,rfl⟩
    refine⟨(List.range fs.length).map ch, .struct ht (by simp) (fun i f d hf hi=> ?_),by simp;omega,fun i d hi=> ?_⟩
    ·obtain⟨h1,rfl⟩:=hget i d hi
     obtain⟨f',hf',hs,_⟩:=hch i h1
     rw [hf]at hf';injection hf' with hf';subst hf';exact hs
    ·obtain⟨h1,rfl⟩:=hget i d hi
     obtain⟨f',hf',hs,v,hv,hW⟩:=hch i h1
     exact⟨v,hv,hW⟩
   all_goals (cases hd)
def cP(T:Tys)(t:TypeId)(ds:List D):D:=if T.isStruct t then .agg ds else ds.headD .undef
def cQ(T:Tys)(t:TypeId)(d:D):Prop:= ∃ds,Shp T t ds∧d=cP T t ds
theorem cz(hT:An P T){r:Reach}{base n:Nat}{t:TypeId}{v:Value}{d0:DataW H}{ps:List MemPlace}(hd:Hr T n t=true)(hv:Value.okWide P w r base t v)(h:DataW.Trod enc P w 0 spare RZ t v d0 ps):
  ∃d,cQ T t d∧W T (Qn w) w V0 Dj d v (fun _=>False):=by
 obtain⟨fuel,hf⟩:=h
 obtain⟨ds,q1,q2,q3⟩:=Sq hT fuel n t _ _ hd hf
 have hfact:=(hT t).1
 unfold CZ at hfact
 have flat:T.isStruct t=false→v.cells.toList=[v]→ ∃d,cQ T t d∧W T (Qn w) w V0 Dj d v (fun _=>False):=by
  intro hs hc
  have hl:ds.length=1:=by rw [←q2,hc];rfl
  obtain⟨d,rfl⟩:=List.length_eq_one_iff.1 hl
  obtain⟨v',hv',hW⟩:=q3 0 d rfl
  rw [hc]at hv'
  simp only [List.getElem?_cons_zero,Option.some.injEq]at hv'
  subst hv'
  exact⟨d,⟨[d],q1,by simp [cP,hs]⟩,hW⟩
 cases n with
 | zero=>cases hd
 | succ n=>
  unfold Hr at hd
  cases ht:T.ty t<;>rw [ht]at hfact hd<;>simp only at hfact hd
  case int k=>
   refine flat (by simp [Tys.isStruct,ht,Ty.isStruct]) ?_
   simp only [Value.okWide,hfact.1,Cell.okWide]at hv
   cases v<;>simp_all [Cell.ok,Value.cells]
  case bool=>
   refine flat (by simp [Tys.isStruct,ht,Ty.isStruct]) ?_
   simp only [Value.okWide,hfact.1,Cell.okWide]at hv
   cases v<;>simp_all [Cell.ok,Value.cells]
  case string=>
   refine flat (by simp [Tys.isStruct,ht,Ty.isStruct]) ?_
   simp only [Value.okWide,hfact.1,Cell.okWide]at hv
   cases v<;>simp_all [Cell.ok,Value.cells]
  case slice e=>
   refine flat (by simp [Tys.isStruct,ht,Ty.isStruct]) ?_
   simp only [Value.okWide,hfact.1,Cell.okWide]at hv
   cases v<;>simp_all [Cell.ok,Value.cells]
  case struct fs=>
   obtain⟨⟨fields,hu,_⟩,_⟩:=hfact
   obtain⟨cs,rfl,hcs⟩:=WideShapes.okWide_struct hu hv
   have hval: ∀(i:Nat) (d:D),ds[i]? =some d→cs[i]? =some (cs.getD i undef)∧W T (Qn w) w V0 Dj d (cs.getD i undef) (fun _=>False):=by
    intro i d hi
    obtain⟨v,hv',hW⟩:=q3 i d hi
    have:cs[i]? =some v:=by simpa [Value.cells] using hv'
    rw [Array.getD_eq_getD_getElem?,this];exact⟨rfl,hW⟩
   refine⟨.agg ds,⟨ds,q1,by simp [cP,Tys.isStruct,ht,Ty.isStruct]⟩, .agg (fun i=>cs.getD i undef) (fun _ _=>False) (by simpa [Value.cells] using q2) (fun i x hi=>(hval i x hi).1) (fun k=>⟨fun h=>h.elim,fun⟨_,_,h⟩=>h⟩) (fun _ _ _ _ _ _ h=>h.elim) (fun i x hi=>(hval i x hi).2)⟩
  all_goals (cases hd)
end
def ZO(T:Tys):List TypeId→List D→Prop
 | [],[]=>True
 | t::ts,d::ds=>cQ T t d∧ZO T ts ds
 | _,_=>False
theorem args_W{P:Program}{T:Tys}{H:Type}{enc:TypeId×Value→H}{w:World}{r:Reach}{base n:Nat}(hT:An P T): ∀(ts:List TypeId) (vs:List Value) (d0:List (DataW H)) (ps:List MemPlace),ts.all (Hr T n)=true→
  (∀(j:Nat) (t:TypeId) (v:Value),ts[j]? =some t→vs[j]? =some v→Value.okWide P w r base t v)→DataW.TrodAll enc P w 0 (fun _=>true) true ts vs d0 ps→
  ∃ds,ZO T ts ds∧vs.length=ds.length∧ ∀(i:Nat) (d:D),ds[i]? =some d→ ∃v,vs[i]? =some v∧W T (Qn w) w V0 Dj d v (fun _=>False):=by
 intro ts
 induction ts with
 | nil=>
  intro vs d0 ps _ _ h
  cases vs<;>cases d0<;>simp [DataW.TrodAll]at h
  exact⟨[],trivial,rfl,by simp⟩
 | cons t ts ih=>
  intro vs d0 ps hd hv h
  cases vs with
  | nil=>cases d0<;>simp [DataW.TrodAll]at h
  | cons v vs=>
   cases d0 with
   | nil=>simp [DataW.TrodAll]at h
   | cons d0 ds0=>
    simp only [DataW.TrodAll]at h
    obtain⟨p,q,h1,h2,_⟩:=h
    simp only [List.all_cons,Bool.and_eq_true]at hd
    obtain⟨d,ha,hW⟩:=cz hT hd.1 (hv 0 t v rfl rfl) h1
    obtain⟨ds,hb,hl,hWs⟩:=ih vs ds0 q hd.2 (fun j t' v' hj hj'=>hv (j+1) t' v' (by simpa using hj) (by simpa using hj')) h2
    refine⟨d::ds,⟨ha,hb⟩,by simp [hl],fun i x hi=> ?_⟩
    cases i with
    | zero=>simp at hi;subst hi;exact⟨v,rfl,hW⟩
    | succ i=>simpa using hWs i x (by simpa using hi)
theorem law_calls{Y:Sys}(hY:Y.Ok){f:FuncId}{ds:List D}(hc:Y.call f ds []=some (.bool true,[])){vs:Array Value}{w:World}(hl:vs.size=ds.length)
  (hW: ∀(i:Nat) (d:D),ds[i]? =some d→ ∃v,vs[i]? =some v∧W Y.T (Qn w) w V0 Dj d v (fun _=>False)):
  Calls Y.P f vs w fun e w'=>e= .returned (.bool true)∧RowKit.Below w.heap.size w w':=by
 have hg:=Sys.call_good hY hc
 refine Calls.mono (hg.2 vs (fun _=>undef) w (Qn w) (fun _ _=>False) hl (fun i d hi=> ?_) (fun j d hj=>by simp at hj) (fun _ _ _ h=>h) (fun _ _ _ _ h=>h.elim) (fun _ h=>h)) ?_
 ·obtain⟨v,hv,hWv⟩:=hW i d hi
  exact⟨v,hv,hWv.up⟩
 ·intro e w' he
  cases e with
  | returned v=>
   obtain⟨S',F,FL',h1,_,_,_,hst,_,_⟩:=he
   cases h1 with
   | bool=>exact⟨rfl,hst.os,hst.tape,hst.output,hst.size,fun k hk=>hst.heap k hk (fun _ h=>h)⟩
  | panicked=>exact he.elim
  | outgrown=>exact he.elim
theorem trodAll_below{H:Type}{enc:TypeId×Value→H}{P:Program}(hl:laidOutB P=true){W W':World}(hb:RowKit.Below W.heap.size W W'): ∀ {ts:List TypeId} {vs:List Value} {ds:List (DataW H)} {ps:List MemPlace},
  ts.all (fun t=>P.readableRec t&&decide (t<P.types.size))=true→DataW.TrodAll enc P W 0 (fun _=>true) true ts vs ds ps→DataW.TrodAll enc P W' 0 (fun b=>decide (b<W.heap.size)) true ts vs ds ps:=by
 intro ts
 induction ts with
 | nil=>
  intro vs ds ps _ h
  cases vs<;>cases ds<;>simp [DataW.TrodAll]at h ⊢
  exact h
 | cons t ts ih=>
  intro vs ds ps hr h
  cases vs with
  | nil=>cases ds<;>simp [DataW.TrodAll]at h
  | cons v vs=>
   cases ds with
   | nil=>simp [DataW.TrodAll]at h
   | cons d ds=>
    simp only [DataW.TrodAll]at h ⊢
    obtain⟨p,q,h1,h2,h3⟩:=h
    simp only [List.all_cons,Bool.and_eq_true,decide_eq_true_eq]at hr
    have lt0: ∀x∈p,x.block<W.heap.size:=by obtain⟨m,hm⟩:=h1;exact DataW.trod_lt m _ _ _ hm
    exact⟨p,q,RowKit.Below.trod hl hr.1.1 hr.1.2 h1 hb lt0,ih (by simpa using hr.2) h2,h3⟩
end Dv
namespace Dv
open Go
theorem nr{α:Type}{a b:α}(h:a=b):a=b:=h
structure SOp where
 dst:Option Tmp
 op:Op
 type:TypeId
 guard:Option (Option Tmp×Bool)
structure PmL where
 n:List Nat
 r:List Nat
 w:List Nat
def PmL.pm(l:PmL):Pm:=⟨fun r=>l.n.contains r|| !l.r.contains r,fun r=>l.w.contains r⟩
inductive SC where
 | skip
 | ops (l:List SOp)
 | draws (l:List (PmL×SOp))
 | seq (a b:SC)
 | cond (c:Operand) (a b:SC)
 | block (id:Nat) (c:SC)
 | loop (c:SC)
 | exit (id:Nat)
 | ret
 | bad
def HH(ops:Array Oper)(o:Oper):SOp:=⟨o.dst,o.op,o.type,match o.guard with | none=>none | some (j,b)=>some ((ops[j]?).bind (·.dst),b)⟩
def BZ(lends:FuncId→Bool):Code→SC
 | .skip=> .skip
 | .region _ ops draw=>
  if draw then
   (if GN lends ops.toList then .draws (ops.toList.map fun o=>(⟨Cs ops.toList o,ops.toList.flatMap (Bv lends ops.toList),Bv lends ops.toList o⟩,HH ops (Ja lends ops.toList o)))else .bad)
  else .ops (ops.toList.map fun o=>HH ops (cv lends ops.toList o))
 | .seq a b=> .seq (BZ lends a) (BZ lends b)
 | .cond c a b=> .cond c (BZ lends a) (BZ lends b)
 | .block id c=> .block id (BZ lends c)
 | .loop c=> .loop (BZ lends c)
 | .exit id=> .exit id
 | .ret=> .ret
 | _=> .bad
def ES(E:Env)(pm:Pm)(s:St)(dst:Option Tmp)(op:Op)(type:TypeId):Option St:=UU E pm s ⟨dst,op,type, "", #[],none⟩
def H7(E:Env)(pm:Pm)(s:St)(o:SOp):Option St:=
 match o.guard with
 | none=>ES E pm s o.dst o.op o.type
 | some (none,_)=>some (s.putO o.dst (.konst undef))
 | some (some t,b)=>
  match s.v t with
  | .bool b'=>if b'==b then ES E pm s o.dst o.op o.type else some (s.putO o.dst (.konst undef))
  | .konst (.tuple _)=>some (s.putO o.dst (.konst undef))
  | _=>none
def Sr(E:Env):List SOp→St→Option St
 | [],s=>some s
 | o::l,s=>(H7 E Pm.all s o).bind fun s'=>Sr E l s'
def CJ(pm:Pm)(s:St)(op:Op):Bool:=
 match op with
 | .move (.tmp u)=> !(s.v u).hasObj||(s.v u).isObj||pm.wr u
 | _=>true
def O6(E:Env):List (PmL×SOp)→St→Option St
 | [],s=>some s
 | (p,o)::l,s=>if CJ p.pm s o.op then(H7 E p.pm s o).bind fun s'=>O6 E l s' else none
noncomputable def Bk(E:Env):SC→St→Option (Ex×St)
 | .skip,s=>some (.normal,s)
 | .ops l,s=>(Sr E l s).map fun s'=>(.normal,s')
 | .draws l,s=>(O6 E l s).map fun s'=>(.normal,s')
 | .seq a b,s=>
  match Bk E a s with
  | some (.normal,s')=>Bk E b s'
  | r=>r
 | .cond c a b,s=>
  match ev E.T s 0 c with
  | some (.bool t)=>if t then Bk E a s else Bk E b s
  | _=>none
 | .block id c,s=>
  match Bk E c s with
  | some (.exit j,s')=>if j=id then some (.normal,s')else some (.exit j,s')
  | r=>r
 | .loop c,s=>Jb (Bk E c) s
 | .exit id,s=>some (.exit id,s)
 | .ret,s=>some (.ret,s)
 | .bad,_=>none
theorem O7(E:Env)(ops:Array Oper)(pm:Pm)(s:St)(o:Oper):H7 E pm s (HH ops o)=E4 E ops pm s o:=by
 obtain⟨dst,op,type,pos,after,guard⟩:=o
 unfold H7 E4 FY HH
 cases guard with
 | none=>rfl
 | some g=>
  obtain⟨j,b⟩:=g
  simp only
  cases (ops[j]?).bind (·.dst)with
  | none=>rfl
  | some t=>
   simp only
   cases hv:s.v t with
   | bool b'=>simp only;cases hb:(b'==b)<;>simp<;>rfl
   | konst v=>cases v<;>rfl
   | _=>rfl
theorem Uv(E:Env)(ops:Array Oper): ∀(l:List Oper) (s:St),Sr E (l.map fun o=>HH ops (cv E.lends ops.toList o)) s=Ku E ops s l:=by
 intro l
 induction l with
 | nil=>intro s;rfl
 | cons o l ih=>
  intro s
  simp only [List.map_cons,Sr,Ku,O7]
  cases E4 E ops Pm.all s (cv E.lends ops.toList o)with
  | none=>rfl
  | some s'=>simp only [Option.bind_some];exact ih s'
theorem Ss(E:Env)(ops:Array Oper)(l0:List Oper): ∀(l:List Oper) (s:St),
  O6 E (l.map fun o=>(⟨Cs l0 o,l0.flatMap (Bv E.lends l0),Bv E.lends l0 o⟩,HH ops (Ja E.lends ops.toList o))) s=H5 E ops l0 s l:=by
 intro l
 induction l with
 | nil=>intro s;rfl
 | cons o l ih=>
  intro s
  simp only [List.map_cons,O6,H5,O7]
  have h1:(PmL.mk (Cs l0 o) (l0.flatMap (Bv E.lends l0)) (Bv E.lends l0 o)).pm=Dm E.lends l0 o:=nr rfl
  have h2:CJ (Dm E.lends l0 o) s (HH ops (Ja E.lends ops.toList o)).op=P5 (Dm E.lends l0 o) s o:=nr rfl
  rw [h1,h2]
  split
  ·cases E4 E ops (Dm E.lends l0 o) s (Ja E.lends ops.toList o)with
   | none=>rfl
   | some s'=>simp only [Option.bind_some];exact ih s'
  ·rfl
theorem Su(E:Env): ∀(c:Code),Bk E (BZ E.lends c)=Bj E c:=by
 intro c
 induction c with
 | skip=>rfl
 | region id ops draw=>
  funext s
  simp only [BZ,Bj]
  cases draw with
  | true=>
   simp only [if_true]
   split
   ·simp only [Bk];rw [Ss]
   ·rfl
  | false=>simp only [Bool.false_eq_true,if_false,Bk];rw [Uv]
 | seq a b iha ihb=>funext s;simp only [BZ,Bk,Bj,iha,ihb];rfl
 | cond x a b iha ihb=>funext s;simp only [BZ,Bk,Bj,iha,ihb];rfl
 | block id c ih=>funext s;simp only [BZ,Bk,Bj,ih];rfl
 | loop c ih=>funext s;simp only [BZ,Bk,Bj,ih]
 | exit id=>rfl
 | ret=>rfl
 | rangeFunc=>rfl
 | scope=>rfl
 | label=>rfl
 | goto=>rfl
 | refuse=>rfl
def Bw(E:Env)(c:SC)(Q:Ex→St→Prop)(s:St):Prop:= ∃ex s',Bk E c s=some (ex,s')∧Q ex s'
section
variable {E:Env} {Q:Ex→St→Prop} {s:St}
def O8(E:Env)(b:SC)(Q:Ex→St→Prop):Ex→St→Prop
 | .normal,s=>Bw E b Q s
 | ex,s=>Q ex s
def inBlock(id:Nat)(Q:Ex→St→Prop):Ex→St→Prop
 | .exit j,s=>if j=id then Q .normal s else Q (.exit j) s
 | ex,s=>Q ex s
theorem ZP{a b:SC}(h:Bw E a (O8 E b Q) s):Bw E (.seq a b) Q s:=by
 obtain⟨ex,s1,h1,h2⟩:=h
 cases ex with
 | normal=>
  obtain⟨ex',s2,h3,h4⟩:=h2
  exact⟨ex',s2,by simp [Bk,h1,h3],h4⟩
 | exit id=>exact⟨_,s1,by simp [Bk,h1],h2⟩
 | ret=>exact⟨_,s1,by simp [Bk,h1],h2⟩
theorem Sv{id:Nat}{c:SC}(h:Bw E c (inBlock id Q) s):Bw E (.block id c) Q s:=by
 obtain⟨ex,s1,h1,h2⟩:=h
 cases ex with
 | normal=>exact⟨_,s1,by simp [Bk,h1],h2⟩
 | exit j=>
  simp only [inBlock]at h2
  by_cases hj:j=id
  ·subst hj;rw [if_pos rfl]at h2;exact⟨.normal,s1,by simp [Bk,h1],h2⟩
  ·rw [if_neg hj]at h2;exact⟨_,s1,by simp [Bk,h1,hj],h2⟩
 | ret=>exact⟨_,s1,by simp [Bk,h1],h2⟩
theorem Ba{c:SC}{Q':Ex→St→Prop}(h:Bw E c Q s)(hq: ∀ex s,Q ex s→Q' ex s):Bw E c Q' s:=by
 obtain⟨ex,s1,h1,h2⟩:=h;exact⟨ex,s1,h1,hq _ _ h2⟩
def Pj(I:St→Prop)(Q:Ex→St→Prop):Ex→St→Prop
 | .normal,s=>I s
 | ex,s=>Q ex s
end
def Ew(T:Tys)(n:Nat)(rs:List ResultVar)(r:D×List D):Ex→St→Prop
 | .normal,s=>Kv T n rs s=some r
 | .ret,s=>Kv T n rs s=some r
 | .exit _,_=>False
theorem Sys.call_wp{Y:Sys}{f:FuncId}{fn:Func}{c:Code}{k:SC}{a l:List D}{r:D×List D}(hb:Y.base f a l=none)(hf:Y.P.funcs[f]? =some fn)(hok:CD fn a.length=true)
  (hbody:fn.body=some c)(hk:BZ Y.lends c=k)(h:Bw Y.env k (Ew Y.T l.length fn.results.toList r) (entry a l)):Y.call f a l=some r:=by
 refine Sys.call_run hb hf hok ?_
 obtain⟨ex,s1,h1,h2⟩:=h
 unfold NQ
 rw [←hk]at h1
 have h3:Bk Y.env (BZ Y.env.lends c)=Bj Y.env c:=Su Y.env c
 have h4:Bj Y.env c (entry a l)=some (ex,s1):=by rw [←h3];exact h1
 rw [hbody]
 simp only [h4]
 cases ex with
 | normal=>exact h2
 | ret=>exact h2
 | exit id=>exact h2.elim
section
variable (E:Env) (pm:Pm) (s:St) (dst:Option Tmp) (ty:TypeId)
theorem Pk(op:Op):H7 E pm s ⟨dst,op,ty,none⟩=ES E pm s dst op ty:=nr rfl
def mw(E:Env)(pm:Pm)(s:St)(dst:Option Tmp)(op:Op)(ty:TypeId)(b:Bool)(d:D):Option St:=
 match d with
 | .bool b'=>if b'==b then ES E pm s dst op ty else some (s.putO dst (.konst undef))
 | .konst (.tuple _)=>some (s.putO dst (.konst undef))
 | _=>none
theorem O9(op:Op)(t:Tmp)(b:Bool):H7 E pm s ⟨dst,op,ty,some (some t,b)⟩=mw E pm s dst op ty b (s.v t):=nr rfl
theorem nM(op:Op)(b':Bool):mw E pm s dst op ty true (.bool b')=if b'=true then ES E pm s dst op ty else some (s.putO dst (.konst undef)):=by cases b'<;>rfl
theorem nN(op:Op)(b':Bool):mw E pm s dst op ty false (.bool b')=if b'=true then some (s.putO dst (.konst undef))else ES E pm s dst op ty:=by cases b'<;>rfl
theorem nO(op:Op)(b:Bool):mw E pm s dst op ty b (.konst undef)=some (s.putO dst (.konst undef)):=nr rfl
def pk(s:St)(dst:Option Tmp)(c a b:Option D):Option St:=
 match c,a,b with
 | some (.bool t),some x,some y=>if(if t then x else y).hasObj then none else some (s.putO dst (if t then x else y))
 | _,_,_=>none
theorem Sw(c a b:Operand):ES E pm s dst (.pick c a b) ty=pk s dst (ev E.T s ty c) (ev E.T s ty a) (ev E.T s ty b):=nr rfl
theorem xD(x y:D)(h:x.hasObj=false):pk s dst (some (.bool true)) (some x) (some y)=some (s.putO dst x):=by simp [pk,h]
theorem xE(x y:D)(h:y.hasObj=false):pk s dst (some (.bool false)) (some x) (some y)=some (s.putO dst y):=by simp [pk,h]
theorem xF(t p q:Bool):pk s dst (some (.bool t)) (some (.bool p)) (some (.bool q))=some (s.putO dst (.bool (if t then p else q))):=by cases t<;>rfl
theorem uz(b:Bool):(D.bool b).hasObj=false:=by simp [D.hasObj]
theorem v6(k:IntKind)(n:Int):(D.int k n).hasObj=false:=by simp [D.hasObj]
theorem v7(b:ByteArray):(D.str b).hasObj=false:=by simp [D.hasObj]
theorem Ra(t:TypeId):ES E pm s dst (.alloc t) ty=if E.T.known t then some (s.putO dst (.box (E.T.zeros t)))else none:=nr rfl
theorem Uw(t:TypeId)(x:Operand):ES E pm s dst (.box t x) ty=if ty=900003 then(GM E.T pm s dst t x).bind fun s1=>CN pm s1 dst else GM E.T pm s dst t x:=nr rfl
theorem Sx(t:TypeId)(x:Operand):GM E.T pm s dst t x=match JW (ev E.T s t x)with
  | some ds=>if E.T.isStruct t then some (s.putO dst (.box ds))else none
  | none=>
   match take E.T pm s t x with
   | some (d,s1)=>if E.T.isStruct t==d.isAgg then some (s1.putO dst (.box d.asCells))else none
   | none=>none:=nr rfl
theorem Rb(t:TypeId)(parts:Array (Nat×Operand)):ES E pm s dst (.build t parts) ty=match E.T.nest t with
  | some fl=>if E.T.isStruct t&&E.T.known t then(E3 E.T pm fl s (E.T.zeros t) parts.toList).map fun r=>r.2.putO dst (.agg r.1)else none
  | none=>match E.T.ty t with
   | .struct fs=>if E.T.known t then(CW E.T pm (fun i=>fs.getD i 0) 1 s (E.T.zeros t) parts.toList).map fun r=>r.2.putO dst (.agg r.1)else none
   | _=>none:=nr rfl
theorem KB(t:TypeId)(len:Nat)(parts:Array (Nat×Operand)):ES E pm s dst (.buildSlice t len parts) ty=if ty=900004 then(JY E.T pm s dst t len parts).bind fun s1=>FW pm s1 dst else JY E.T pm s dst t len parts:=nr rfl
def nP(pm:Pm)(a:Operand):Option St→Option St
 | some s1=>CN pm s1 (M6 a)
 | none=>none
theorem Sy(a:Operand)(o:Option St):nP pm a o=o.bind fun s1=>CN pm s1 (M6 a):=by cases o<;>rfl
theorem Rc(t:TypeId)(a x:Operand):ES E pm s none (.store t a x) ty=if ty=900007 then CF E.T pm t a (EM E.T pm s t x)else if ty=900010 then IZ E.T pm s t a x else if ty=900011 then nP pm a (E1 E.T pm s t a x)else E1 E.T pm s t a x:=by
 rw [Sy];rfl
def Dh(s:St)(dst:Option Tmp):Option D→Option St
 | some r=>some (s.putO dst r)
 | none=>none
theorem d3(r:D):Dh s dst (some r)=some (s.putO dst r):=nr rfl
def KC(dst:Option Tmp):Option (D×St)→Option St
 | some r=>some (r.2.putO dst r.1)
 | none=>none
theorem d4(r:D)(s:St):KC dst (some (r,s))=some (s.putO dst r):=nr rfl
def Hs(T:Tys)(s:St)(dst:Option Tmp)(op:BinOp)(t:TypeId):Option D→Option D→Option St
 | some a,some b=>if FR T t a then Dh s dst (BM op a b)else none
 | _,_=>none
theorem d5(T:Tys)(op:BinOp)(t:TypeId)(a b:D):Hs T s dst op t (some a) (some b)=if FR T t a then Dh s dst (BM op a b)else none:=nr rfl
def ZQ(pm:Pm)(dst:Option Tmp)(u:Tmp):Option St→Option St
 | some s1=>NN pm s1 dst u
 | none=>none
def v8(pm:Pm)(s1:St)(u:Tmp):D→Option St
 | .bool b=>if b then some s1 else CN pm s1 (some u)
 | _=>none
theorem nQ(s1:St)(t u:Tmp)(h:pm.rd t=true):ZQ pm (some t) u (some s1)=v8 pm s1 u (s1.v t):=by
 show(if pm.rd t then _ else none)=_
 rw [if_pos h]
 cases s1.v t<;>rfl
theorem Sz(op:BinOp)(t:TypeId)(x y:Operand)(t':TypeId):ES E pm s dst (.binOp op t x y t') ty=if ty<2000000 then DH E.T pm s dst op t x y else ZQ pm dst (ty-2000000) (DH E.T pm s dst op t x y):=by
 show(if ty<2000000 then DH E.T pm s dst op t x y else(DH E.T pm s dst op t x y).bind fun s1=>NN pm s1 dst (ty-2000000))=_
 cases DH E.T pm s dst op t x y<;>rfl
theorem Gu(op:BinOp)(t:TypeId)(x y:Operand)(hq:NL E.T op t y=none):DH E.T pm s dst op t x y=Hs E.T s dst op t (ev E.T s t x) (ev E.T s t y):=by
 unfold DH
 rw [hq]
 simp only
 cases ev E.T s t x<;>cases ev E.T s t y<;>simp only [Hs]
 rename_i a b
 cases BM op a b<;>rfl
theorem nR(op:BinOp)(t:TypeId)(x:Operand)(u:Tmp)(t':TypeId):ES E pm s dst (.binOp op t x (.tmp u) t') ty=if ty<2000000 then Hs E.T s dst op t (ev E.T s t x) (some (s.v u))else ZQ pm dst (ty-2000000) (Hs E.T s dst op t (ev E.T s t x) (some (s.v u))):=by
 rw [Sz,Gu E pm s dst op t x (.tmp u) rfl];rfl
theorem nS(op:BinOp)(t:TypeId)(x:Operand)(k:IntKind)(n:Int)(t':TypeId):ES E pm s dst (.binOp op t x (.const (.int k n)) t') ty=if ty<2000000 then Hs E.T s dst op t (ev E.T s t x) (some (.int k n))else ZQ pm dst (ty-2000000) (Hs E.T s dst op t (ev E.T s t x) (some (.int k n))):=by
 rw [Sz,Gu E pm s dst op t x _ rfl];rfl
theorem d6(op:BinOp)(t:TypeId)(x:Operand)(b:Bool)(t':TypeId):ES E pm s dst (.binOp op t x (.const (.bool b)) t') ty=if ty<2000000 then Hs E.T s dst op t (ev E.T s t x) (some (.bool b))else ZQ pm dst (ty-2000000) (Hs E.T s dst op t (ev E.T s t x) (some (.bool b))):=by
 rw [Sz,Gu E pm s dst op t x _ rfl];rfl
theorem d7(op:BinOp)(t:TypeId)(x:Operand)(b:ByteArray)(t':TypeId):ES E pm s dst (.binOp op t x (.const (.string b)) t') ty=if ty<2000000 then Hs E.T s dst op t (ev E.T s t x) (some (.str b))else ZQ pm dst (ty-2000000) (Hs E.T s dst op t (ev E.T s t x) (some (.str b))):=by
 rw [Sz,Gu E pm s dst op t x _ rfl];rfl
def Pl(s:St)(dst:Option Tmp)(q:Bool):Option Bool→Option St
 | some b=>some (s.putO dst (.bool (b==q)))
 | none=>none
theorem d8(b:Bool):Pl s dst true (some b)=some (s.putO dst (.bool b)):=by cases b<;>rfl
theorem d9(b:Bool):Pl s dst false (some b)=some (s.putO dst (.bool (!b))):=by cases b<;>rfl
def Vt(op:BinOp)(s:St)(dst:Option Tmp)(r:Option Bool)(o:Option St):Ty→Option St
 | .slice _=>match op with | .eql=>Pl s dst true r | .neq=>Pl s dst false r | _=>o
 | _=>o
theorem nT(r:Option Bool)(o:Option St)(e:TypeId):Vt .eql s dst r o (.slice e)=Pl s dst true r:=nr rfl
theorem nU(r:Option Bool)(o:Option St)(e:TypeId):Vt .neq s dst r o (.slice e)=Pl s dst false r:=nr rfl
theorem Ux(op:BinOp)(t:TypeId)(u:Tmp):DH E.T pm s dst op t (.tmp u) (.const (.slice none 0 0))=Vt op s dst (HS pm s (s.v u)) (Hs E.T s dst op t (some (s.v u)) (ev E.T s t (.const (.slice none 0 0)))) (E.T.ty t):=by
 have key: ∀q,NL E.T op t (.const (.slice none 0 0))=some q→DH E.T pm s dst op t (.tmp u) (.const (.slice none 0 0))=Pl s dst q (HS pm s (s.v u)):=by
  intro q hq
  unfold DH
  rw [hq]
  simp only [ev,Option.bind_some]
  cases HS pm s (s.v u)<;>rfl
 cases ht:E.T.ty t with
 | slice e=>
  cases op<;>first
   | (simp only [Vt];exact key true (by simp [NL,ht]))
   | (simp only [Vt];exact key false (by simp [NL,ht]))
   | (simp only [Vt];exact Gu E pm s dst _ t _ _ (by simp [NL,ht]))
 | _=>exact Gu E pm s dst _ t _ _ (by simp [NL,ht])
theorem ZR(op:BinOp)(t:TypeId)(u:Tmp)(t':TypeId):ES E pm s dst (.binOp op t (.tmp u) (.const (.slice none 0 0)) t') ty=if ty<2000000 then Vt op s dst (HS pm s (s.v u)) (Hs E.T s dst op t (some (s.v u)) (ev E.T s t (.const (.slice none 0 0)))) (E.T.ty t)
  else ZQ pm dst (ty-2000000) (Vt op s dst (HS pm s (s.v u)) (Hs E.T s dst op t (some (s.v u)) (ev E.T s t (.const (.slice none 0 0)))) (E.T.ty t)):=by
 rw [Sz,Ux]
theorem nV(e:TypeId)(x:D)(xs:List D):HS pm s (.sl e (x::xs))=some false:=nr rfl
theorem dA(e:TypeId)(x:D)(xs:List D):HS pm s (.own e (x::xs))=some false:=nr rfl
theorem xG(A:Option Addr)(n c:Nat):HS pm s (.konst (.slice A n c))=some A.isNone:=nr rfl
theorem OA(src d:TypeId)(x:Operand):ES E pm s dst (.convert src d x) ty=if E.T.known src then
   match ev E.T s src x,E.T.ty d with
   | some (.int _ n), .int k=>some (s.putO dst (.int k (k.wrap n)))
   | some (.str b), .string=>some (s.putO dst (.str b))
   | _,_=>none
  else none:=nr rfl
theorem MW(f:FuncId)(first captured:Array Operand):ES E pm s dst (.makeFunc (.func f) first captured) ty=if ty<3000000 then(if first.isEmpty then(Eb pm s captured.toList).map fun r=>r.2.putO dst (.clo f r.1)else none)
  else(if first.isEmpty then(JX pm s (ty-3000000) captured.toList).map fun r=>r.2.putO dst (.ocl false f r.1)else none):=nr rfl
theorem L7(t:TypeId)(l c:Operand):ES E pm s dst (.makeSlice t l c) ty=if ty=900012 then(Kt E.T s dst t l c).bind fun s1=>FW pm s1 dst else Kt E.T s dst t l c:=nr rfl
theorem MX(x:Operand):ES E pm s dst (.nilCheck x) ty=(ev E.T s ty x).bind fun d=>
   match d with
   | .box _=>some (Ao s dst x d)
   | .vw L n m=>match s.look pm L n m with | some (.box _)=>some (Ao s dst x d) | _=>none
   | .pe L _ n m=>match s.look pm L n m with | some _=>some (Ao s dst x d) | none=>none
   | .cptr _=>some (Ao s dst x d)
   | .clo _ _=>some (Ao s dst x d)
   | .ocl false _ _=>some (Ao s dst x d)
   | _=>none:=nr rfl
theorem Pn(x y:Operand)(t t':TypeId):ES E pm s dst (.call ⟨.builtin .append, #[x,y], #[t,t']⟩) ty=if t=t' then(if ZE (ev E.T s t y)then Eo E.T pm s t x else CV E.T pm s t x y).map fun r=>r.2.putO dst r.1 else none:=nr rfl
theorem T0(f:FuncId)(args:Array Operand)(ts:Array TypeId):ES E pm s dst (.call ⟨.value (.func f),args,ts⟩) ty=if args.size=ts.size then Dl E pm s dst f (args.toList.zip (LP ty ts.toList)) []else none:=nr rfl
theorem Rd(u:Tmp)(args:Array Operand)(ts:Array TypeId):ES E pm s dst (.call ⟨.value (.tmp u),args,ts⟩) ty=match s.v u with
   | .clo f caps=>if args.size=ts.size then Dl E pm s dst f (args.toList.zip ts.toList) caps else none
   | .ocl false f caps=>if args.size=ts.size then Ep E pm s dst f (args.toList.zip ts.toList) caps else none
   | _=>none:=nr rfl
end
theorem ZS(T:Tys)(s:St)(t:TypeId)(u:Tmp):ev T s t (.tmp u)=some (s.v u):=nr rfl
theorem ZT(T:Tys)(s:St)(t:TypeId)(k:IntKind)(n:Int):ev T s t (.const (.int k n))=some (.int k n):=nr rfl
theorem Uy(T:Tys)(s:St)(t:TypeId)(b:Bool):ev T s t (.const (.bool b))=some (.bool b):=nr rfl
theorem ZU(T:Tys)(s:St)(t:TypeId)(b:ByteArray):ev T s t (.const (.string b))=some (.str b):=nr rfl
theorem ZV(T:Tys)(s:St)(t:TypeId):ev T s t (.const (.slice none 0 0))=match T.ty t with | .slice e=>some (.own e []) | .other=>some (.konst (.slice none 0 0)) | _=>none:=nr rfl
theorem Uz(T:Tys)(s:St)(t:TypeId)(f:FuncId):ev T s t (.func f)=some (.clo f []):=nr rfl
theorem dB(s:St)(t u:Nat)(d:D):(s.put t d).v u=if u=t then d else s.v u:=by rw [Vs];rfl
theorem dC(s:St)(t u:Nat)(d:D):(s.put t d).k u=if u=t then(if d.hasObj then s.k t+1 else s.k t)else s.k u:=by
 unfold St.put
 by_cases h:u=t
 ·subst h;cases hd:d.hasObj<;>simp [F6]
 ·cases hd:d.hasObj<;>simp [F6,h]
theorem dD(s:St)(t u:Nat)(d:D):(s.put t d).m u=s.m u:=by unfold St.put;split<;>rfl
theorem dE(s:St)(t u:Nat):(s.clr t).v u=if u=t then .undef else s.v u:=nr rfl
theorem dF(s:St)(t u:Nat):(s.clr t).k u=s.k u:=nr rfl
theorem dG(s:St)(t u:Nat):(s.clr t).m u=s.m u:=nr rfl
theorem ZW(s:St)(t u:Nat):(s.bump t).v u=s.v u:=nr rfl
theorem ZX(s:St)(t u:Nat):(s.bump t).k u=s.k u:=nr rfl
theorem ZY(s:St)(t u:Nat):(s.bump t).m u=if u=t then s.m t+1 else s.m u:=nr rfl
theorem dH(s:St)(t u:Nat)(p:A2)(d:D):(s.set (t::p) d).v u=if u=t then CU (s.v t) p d else s.v u:=nr rfl
theorem dI(s:St)(t u:Nat)(p:A2)(d:D):(s.set (t::p) d).k u=s.k u:=nr rfl
theorem dJ(s:St)(t u:Nat)(p:A2)(d:D):(s.set (t::p) d).m u=s.m u:=nr rfl
theorem Re(s:St)(t:Tmp)(d:D):s.putO (some t) d=s.put t d:=nr rfl
theorem Rf(s:St)(d:D):s.putO none d=s:=nr rfl
theorem dK(Y:Sys):Y.env.T=Y.T:=nr rfl
theorem Rg(Y:Sys):Y.env.lends=Y.lends:=nr rfl
theorem T1(Y:Sys):Y.env.call=Y.call:=nr rfl
theorem V1(a l:List D)(t:Nat):(entry a l).v t=if t<G then a.getD t .undef else l.getD (t-G) .undef:=nr rfl
theorem V2(a l:List D)(t:Nat):(entry a l).k t=0:=nr rfl
theorem V3(a l:List D)(t:Nat):(entry a l).m t=0:=nr rfl
theorem Fj{r:Ex×St}{Q:Ex→St→Prop}:(∃ex s',some r=some (ex,s')∧Q ex s')=Q r.1 r.2:=
 propext ⟨fun⟨ex,s',h,hq⟩=>by injection h with h;subst h;exact hq,fun h=>⟨r.1,r.2,rfl,h⟩⟩
section
variable (E:Env) (Q:Ex→St→Prop) (s:St)
theorem dL:Bw E .skip Q s=Q .normal s:=Fj
theorem dM(id:Nat):Bw E (.exit id) Q s=Q (.exit id) s:=Fj
theorem nW:Bw E .ret Q s=Q .ret s:=Fj
theorem nX:Bw E (.ops []) Q s=Q .normal s:=Fj
def my(E:Env)(l:List SOp)(Q:Ex→St→Prop):Option St→Prop
 | some s=>Bw E (.ops l) Q s
 | none=>False
theorem nY(l:List SOp):my E l Q (some s)=Bw E (.ops l) Q s:=nr rfl
theorem dN(o:SOp)(l:List SOp):Bw E (.ops (o::l)) Q s=my E l Q (H7 E Pm.all s o):=by
 unfold Bw
 simp only [Bk,Sr]
 cases H7 E Pm.all s o with
 | none=>simp [my]
 | some s'=>simp [my,Bw,Bk]
theorem dO:Bw E (.draws []) Q s=Q .normal s:=Fj
def T2(E:Env)(l:List (PmL×SOp))(Q:Ex→St→Prop):Bool→Option St→Prop
 | true,some s=>Bw E (.draws l) Q s
 | _,_=>False
theorem dP(l:List (PmL×SOp)):T2 E l Q true (some s)=Bw E (.draws l) Q s:=nr rfl
theorem ZZ(p:PmL)(o:SOp)(l:List (PmL×SOp)):Bw E (.draws ((p,o)::l)) Q s=T2 E l Q (CJ p.pm s o.op) (H7 E p.pm s o):=by
 unfold Bw
 simp only [Bk,O6]
 cases CJ p.pm s o.op with
 | true=>
  cases H7 E p.pm s o with
  | none=>simp [T2]
  | some s'=>simp [T2,Bw,Bk]
 | false=>simp [T2]
theorem nZ(a b:SC):Bw E (.seq a b) Q s=Bw E a (O8 E b Q) s:=by
 refine propext ⟨fun⟨ex,s1,h1,h2⟩=> ?_,ZP⟩
 simp only [Bk]at h1
 cases ha:Bk E a s with
 | none=>simp [ha]at h1
 | some q=>
  obtain⟨ex',s2⟩:=q
  cases ex' with
  | normal=>simp only [ha]at h1;exact⟨_,s2,ha,ex,s1,h1,h2⟩
  | exit id=>simp only [ha,Option.some.injEq,Prod.mk.injEq]at h1;obtain⟨rfl,rfl⟩:=h1;exact⟨_,s2,ha,h2⟩
  | ret=>simp only [ha,Option.some.injEq,Prod.mk.injEq]at h1;obtain⟨rfl,rfl⟩:=h1;exact⟨_,s2,ha,h2⟩
def dQ(E:Env)(a b:SC)(Q:Ex→St→Prop)(s:St):Option D→Prop
 | some (.bool t)=>if t=true then Bw E a Q s else Bw E b Q s
 | _=>False
theorem na(a b:SC)(t:Bool):dQ E a b Q s (some (.bool t))=if t=true then Bw E a Q s else Bw E b Q s:=nr rfl
theorem dR(c:Operand)(a b:SC):Bw E (.cond c a b) Q s=dQ E a b Q s (ev E.T s 0 c):=by
 unfold Bw
 simp only [Bk]
 cases ev E.T s 0 c with
 | none=>simp [dQ]
 | some d=>cases d with
  | bool t=>cases t<;>simp [dQ,Bw]
  | _=>simp [dQ]
theorem Za(id:Nat)(c:SC):Bw E (.block id c) Q s=Bw E c (inBlock id Q) s:=by
 refine propext ⟨fun⟨ex,s1,h1,h2⟩=> ?_,Sv⟩
 simp only [Bk]at h1
 cases ha:Bk E c s with
 | none=>simp [ha]at h1
 | some q=>
  obtain⟨ex',s2⟩:=q
  cases ex' with
  | normal=>simp only [ha,Option.some.injEq,Prod.mk.injEq]at h1;obtain⟨rfl,rfl⟩:=h1;exact⟨_,s2,ha,h2⟩
  | exit j=>
   simp only [ha]at h1
   by_cases hj:j=id
   ·simp only [hj,if_true,Option.some.injEq,Prod.mk.injEq]at h1;obtain⟨rfl,rfl⟩:=h1;exact⟨_,s2,ha,by simpa [inBlock,hj] using h2⟩
   ·simp only [hj,if_false,Option.some.injEq,Prod.mk.injEq]at h1;obtain⟨rfl,rfl⟩:=h1;exact⟨_,s2,ha,by simpa [inBlock,hj] using h2⟩
  | ret=>simp only [ha,Option.some.injEq,Prod.mk.injEq]at h1;obtain⟨rfl,rfl⟩:=h1;exact⟨_,s2,ha,h2⟩
theorem Zb(b:SC):O8 E b Q .normal s=Bw E b Q s:=nr rfl
theorem Zc(b:SC)(id:Nat):O8 E b Q (.exit id) s=Q (.exit id) s:=nr rfl
theorem Zd(b:SC):O8 E b Q .ret s=Q .ret s:=nr rfl
theorem nb(id:Nat):inBlock id Q .normal s=Q .normal s:=nr rfl
theorem nc(id j:Nat):inBlock id Q (.exit j) s=if j=id then Q .normal s else Q (.exit j) s:=nr rfl
theorem nd(id:Nat):inBlock id Q .ret s=Q .ret s:=nr rfl
theorem ne(I:St→Prop):Pj I Q .normal s=I s:=nr rfl
theorem nf(I:St→Prop)(id:Nat):Pj I Q (.exit id) s=Q (.exit id) s:=nr rfl
theorem ng(I:St→Prop):Pj I Q .ret s=Q .ret s:=nr rfl
theorem dS(T:Tys)(n:Nat)(rs:List ResultVar)(r:D×List D):Ew T n rs r .normal s=(Kv T n rs s=some r):=nr rfl
theorem dT(T:Tys)(n:Nat)(rs:List ResultVar)(r:D×List D):Ew T n rs r .ret s=(Kv T n rs s=some r):=nr rfl
end
section
variable (s:St) (dst:Option Tmp) (u:Tmp) (k:IntKind) (n:Int) (b:Bool) (x:ByteArray) (e:TypeId) (xs:List D) (L:A2) (i j c:Nat) (v:Value) (f:FuncId)
theorem dU:Ao s dst (.tmp u) (.int k n)=s.putO dst (.int k n):=nr rfl
theorem Ze:Ao s dst (.tmp u) (.bool b)=s.putO dst (.bool b):=nr rfl
theorem dV:Ao s dst (.tmp u) (.str x)=s.putO dst (.str x):=nr rfl
theorem nh:Ao s dst (.tmp u) (.sl e xs)=s.putO dst (.sl e xs):=nr rfl
theorem V4:Ao s dst (.tmp u) (.konst v)=s.putO dst (.konst v):=nr rfl
theorem dW:Ao s dst (.tmp u) (.own e xs)=s.putO dst (.vw [u] (s.k u) (s.m u)):=nr rfl
theorem ni(k:TypeId)(es:List (List Int×List Int)):Ao s dst (.tmp u) (.mp k e es)=s.putO dst (.vw [u] (s.k u) (s.m u)):=nr rfl
theorem dX:Ao s dst (.tmp u) (.box xs)=s.putO dst (.vw [u] (s.k u) (s.m u)):=nr rfl
theorem nj:Ao s dst (.tmp u) (.vw L i j)=s.putO dst (.vw L i j):=nr rfl
theorem nk:Ao s dst (.tmp u) (.pe L c i j)=s.putO dst (.pe L c i j):=nr rfl
theorem Zf:Ao s dst (.tmp u) (.cptr xs)=s.putO dst (.cptr xs):=nr rfl
theorem dY:Ao s dst (.tmp u) (.ocl b f xs)=s.putO dst (.ocl b f xs):=nr rfl
theorem dZ:Ao s dst (.tmp u) (.clo f xs)=s.putO dst (.clo f xs):=nr rfl
theorem de:Ao s dst (.tmp u) (.tup xs)=if AC xs then(if AC (EE s u 0 xs)then(s.clr u).putO dst (.tup xs)else s.putO dst (.tup (EE s u 0 xs)))else s.putO dst (.tup xs):=nr rfl
theorem df(i:Nat):EE s u i []=[]:=nr rfl
theorem Zg(i:Nat)(x:D):EE s u i (x::xs)=ED s u i x::EE s u (i+1) xs:=nr rfl
theorem dg(i:Nat):ED s u i (.agg xs)= .agg (By s [u,i] 0 xs):=nr rfl
theorem dh(i:Nat):ED s u i (.int k n)= .int k n:=nr rfl
theorem Zh(i:Nat):ED s u i (.bool b)= .bool b:=nr rfl
theorem dj(i:Nat):ED s u i (.str x)= .str x:=nr rfl
theorem nl(i:Nat):ED s u i (.sl e xs)= .sl e xs:=nr rfl
theorem V5(i:Nat):ED s u i (.konst v)= .konst v:=nr rfl
theorem V6(i:Nat):ED s u i .undef= .undef:=nr rfl
theorem dk(i:Nat):ED s u i (.own e xs)= .vw [u,i] (s.k u) (s.m u):=nr rfl
theorem nm(c:Nat)(L:A2):ED s u c (.vw L i j)= .vw L i j:=nr rfl
theorem dm(i:Nat):ED s u i (.box xs)= .vw [u,i] (s.k u) (s.m u):=nr rfl
theorem dn(L:A2)(i:Nat):By s L i []=[]:=nr rfl
theorem Zi(L:A2)(i:Nat):By s L i (.int k n::xs)= .int k n::By s L (i+1) xs:=nr rfl
theorem V7(L:A2)(i:Nat):By s L i (.bool b::xs)= .bool b::By s L (i+1) xs:=nr rfl
theorem Zj(L:A2)(i:Nat):By s L i (.str x::xs)= .str x::By s L (i+1) xs:=nr rfl
theorem dp(L:A2)(i:Nat)(zs:List D):By s L i (.sl e zs::xs)= .sl e zs::By s L (i+1) xs:=nr rfl
theorem T3(L:A2)(i:Nat):By s L i (.konst v::xs)= .konst v::By s L (i+1) xs:=nr rfl
theorem T4(L:A2)(i:Nat):By s L i (.undef::xs)= .undef::By s L (i+1) xs:=nr rfl
theorem dq(L:A2)(i:Nat)(M:A2)(i2 j2:Nat):By s L i (.vw M i2 j2::xs)= .vw M i2 j2::By s L (i+1) xs:=nr rfl
theorem Zk(r c:Nat)(i:Nat)(zs:List D):By s [r,c] i (.own e zs::xs)= .vw [r,c,i] (s.k r) (s.m r)::By s [r,c] (i+1) xs:=nr rfl
theorem Zl(r c:Nat)(i:Nat)(zs:List D):By s [r,c] i (.box zs::xs)= .vw [r,c,i] (s.k r) (s.m r)::By s [r,c] (i+1) xs:=nr rfl
theorem dr:Ao s dst (.tmp u) (.agg xs)=if AC xs then(s.clr u).putO dst (.agg xs)else s.putO dst (.agg xs):=nr rfl
variable (pm:Pm)
theorem dt:AS pm s dst (.tmp u) (.int k n)=some (s.putO dst (.int k n)):=nr rfl
theorem Zm:AS pm s dst (.tmp u) (.bool b)=some (s.putO dst (.bool b)):=nr rfl
theorem du:AS pm s dst (.tmp u) (.str x)=some (s.putO dst (.str x)):=nr rfl
theorem no:AS pm s dst (.tmp u) (.sl e xs)=some (s.putO dst (.sl e xs)):=nr rfl
theorem V8:AS pm s dst (.tmp u) (.konst v)=some (s.putO dst (.konst v)):=nr rfl
theorem dw:AS pm s dst (.tmp u) (.own e xs)=some ((s.clr u).putO dst (.own e xs)):=nr rfl
theorem np(k:TypeId)(es:List (List Int×List Int)):AS pm s dst (.tmp u) (.mp k e es)=some ((s.clr u).putO dst (.mp k e es)):=nr rfl
theorem dz:AS pm s dst (.tmp u) (.box xs)=some ((s.clr u).putO dst (.box xs)):=nr rfl
theorem eA(r:Nat):AS pm s dst (.tmp u) (.vw [r] i j)=(GJ pm s [r] i j).map fun q=>q.2.putO dst q.1:=nr rfl
def mz(_s:St)(dst:Option Tmp)(a:Option (D×St))(b:Option St):Bool→Option St
 | true=>a.map fun q=>q.2.putO dst q.1
 | false=>b
theorem nq(a:Option (D×St))(b:Option St):mz s dst a b true=a.map fun q=>q.2.putO dst q.1:=nr rfl
theorem ns(a:Option (D×St))(b:Option St):mz s dst a b false=b:=nr rfl
theorem eB(r r':Nat)(p:A2):AS pm s dst (.tmp u) (.vw (r::r'::p) i j)=mz s dst (Af pm s (.vw (r::r'::p) i j)) (some (s.putO dst (.vw (r::r'::p) i j))) (Vq pm s r):=by
 by_cases h:Vq pm s r=true
 ·have h':M2 pm s (.vw (r::r'::p) i j)=true:=h
  unfold AS
  simp only [h',h,if_true]
  rfl
 ·have h':M2 pm s (.vw (r::r'::p) i j)=false:=Bool.eq_false_iff.mpr h
  unfold AS
  simp only [h',Bool.eq_false_iff.mpr h]
  rfl
theorem nt(r:Nat):Vq pm s r=(pm.rd r&&NM (s.v r)):=nr rfl
theorem eC:NM (.tup xs)=true:=nr rfl
theorem eD:NM (.agg xs)=false:=nr rfl
theorem eE:NM (.own e xs)=false:=nr rfl
theorem eF:NM (.box xs)=false:=nr rfl
theorem nu:NM (.vw L i j)=false:=nr rfl
theorem xH:NM .undef=false:=nr rfl
theorem eG:NJ pm s (.int k n)=false:=nr rfl
theorem Zn:NJ pm s (.bool b)=false:=nr rfl
theorem eH:NJ pm s (.str x)=false:=nr rfl
theorem nv:NJ pm s (.sl e xs)=false:=nr rfl
theorem eI:NJ pm s (.own e xs)=false:=nr rfl
theorem eJ(r:Nat):NJ pm s (.vw [r] i j)=false:=nr rfl
theorem eK(r r':Nat)(p:A2):NJ pm s (.vw (r::r'::p) i j)=Vq pm s r:=nr rfl
theorem eL:NJ pm s (.clo f xs)=false:=nr rfl
theorem nw:AS pm s dst (.tmp u) (.pe L c i j)=some (s.putO dst (.pe L c i j)):=nr rfl
theorem Zo:AS pm s dst (.tmp u) (.cptr xs)=some (s.putO dst (.cptr xs)):=nr rfl
theorem eM:AS pm s dst (.tmp u) (.clo f xs)=some (s.putO dst (.clo f xs)):=nr rfl
theorem eN:AS pm s dst (.tmp u) (.tup xs)=some (if AC xs then(s.clr u).putO dst (.tup xs)else s.putO dst (.tup xs)):=nr rfl
theorem eO:AS pm s dst (.tmp u) (.agg xs)=mz s dst (Af pm s (.agg xs)) (some (if AC xs then(s.clr u).putO dst (.agg xs)else s.putO dst (.agg xs))) (!AC xs&&xs.any (NJ pm s)):=by
 by_cases h:(!AC xs&&xs.any (NJ pm s))=true
 ·have h':M2 pm s (.agg xs)=true:=h
  unfold AS
  simp only [h',h,if_true]
  rfl
 ·have h':M2 pm s (.agg xs)=false:=Bool.eq_false_iff.mpr h
  unfold AS
  simp only [h',Bool.eq_false_iff.mpr h]
  rfl
end
section
variable (k:IntKind) (x y:Int) (p q:Bool) (a b:ByteArray)
theorem eP:BM .add (.int k x) (.int k y)=some (.int k (k.wrap (x+y))):=by simp [BM]
theorem eQ:BM .sub (.int k x) (.int k y)=some (.int k (k.wrap (x-y))):=by simp [BM]
theorem eR:BM .mul (.int k x) (.int k y)=some (.int k (k.wrap (x*y))):=by simp [BM]
theorem eS:BM .quo (.int k x) (.int k y)=if y=0 then none else some (.int k (k.wrap (x.tdiv y))):=by simp [BM]
theorem eT:BM .rem (.int k x) (.int k y)=if y=0 then none else some (.int k (x.tmod y)):=by simp [BM]
theorem eU:BM .and (.int k x) (.int k y)=some (.int k (IY .and k x y)):=by simp [BM]
theorem nx:BM .or (.int k x) (.int k y)=some (.int k (IY .or k x y)):=by simp [BM]
theorem eV:BM .xor (.int k x) (.int k y)=some (.int k (IY .xor k x y)):=by simp [BM]
theorem T5:BM .andNot (.int k x) (.int k y)=some (.int k (IY .andNot k x y)):=by simp [BM]
theorem eW(k':IntKind):BM .shl (.int k x) (.int k' y)=if y<0 then none else some (.int k (k.wrap (x*2 ^ (min y.toNat k.bits)))):=by simp [BM]
theorem eX(k':IntKind):BM .shr (.int k x) (.int k' y)=if y<0 then none else some (.int k (x.fdiv (2 ^ (min y.toNat k.bits)))):=by simp [BM]
theorem ny:BM .eql (.int k x) (.int k y)=some (.bool (decide (x=y))):=by simp [BM];rfl
theorem nz:BM .neq (.int k x) (.int k y)=some (.bool (!decide (x=y))):=by simp [BM];rfl
theorem o3:BM .lss (.int k x) (.int k y)=some (.bool (decide (x<y))):=by simp [BM]
theorem o4:BM .leq (.int k x) (.int k y)=some (.bool (decide (x≤y))):=by simp [BM]
theorem o5:BM .gtr (.int k x) (.int k y)=some (.bool (decide (y<x))):=by simp [BM]
theorem o6:BM .geq (.int k x) (.int k y)=some (.bool (decide (y≤x))):=by simp [BM]
theorem eY:BM .eql (.bool p) (.bool q)=some (.bool (p==q)):=nr rfl
theorem eZ:BM .neq (.bool p) (.bool q)=some (.bool (!(p==q))):=nr rfl
theorem eb:BM .eql (.str a) (.str b)=some (.bool (a.toList==b.toList)):=nr rfl
theorem ec:BM .neq (.str a) (.str b)=some (.bool (!(a.toList==b.toList))):=nr rfl
theorem ed:BM .lss (.str a) (.str b)=some (.bool (Op.bytesLess a.toList b.toList)):=nr rfl
theorem Zp:BM .add (.str a) (.str b)=if a.size+b.size<1099511627776 then some (.str (a++b))else none:=nr rfl
theorem ee:Vo .not (.bool p)=some (.bool (!p)):=nr rfl
theorem ef:Vo .neg (.int k x)=some (.int k (k.wrap (0-x))):=nr rfl
theorem xI(T:Tys)(t:TypeId):FR T t (.int k x)=true:=nr rfl
theorem xJ(T:Tys)(t:TypeId):FR T t (.str a)=true:=nr rfl
theorem xK(T:Tys)(t:TypeId):FR T t (.bool p)=match T.ty t with | .bool=>true | _=>false:=nr rfl
theorem xL(T:Tys)(t:TypeId)(k l:IntKind)(x y:Int):FR T t (.agg [.int k x, .int l y])=Qc T k l (T.ty t):=nr rfl
theorem Zq(T:Tys)(k l:IntKind)(a b:TypeId):Qc T k l (.struct [a,b])=(P4 k (T.ty a)&&P4 l (T.ty b)):=nr rfl
theorem eg(k:IntKind):P4 k (.int k)=true:=by simp [P4]
theorem eh(k l:IntKind)(a b c d:Int):BM .eql (.agg [.int k a, .int l b]) (.agg [.int k c, .int l d])=some (.bool ((a==c)&&(b==d))):=by simp [BM]
theorem ei(k l:IntKind)(a b c d:Int):BM .neq (.agg [.int k a, .int l b]) (.agg [.int k c, .int l d])=some (.bool (!((a==c)&&(b==d)))):=by simp [BM]
end
def B8(xs:List Int):List D:=xs.map (D.int .i64)
theorem BG(xs:List Int):(B8 xs).length=xs.length:=by simp [B8]
theorem T6(xs:List Int)(i:Nat):(B8 xs)[i]? =(xs[i]?).map (D.int .i64):=by simp [B8]
theorem KD(xs:List Int):BB (B8 xs)=false:=by
 induction xs with
 | nil=>rfl
 | cons x xs ih=>simp only [B8,List.map_cons,BB,BA,Bool.false_or];exact ih
theorem OB(xs:List Int):AC (B8 xs)=false:=by
 induction xs with
 | nil=>rfl
 | cons x xs ih=>simp only [B8,List.map_cons,AC,D.hasObj,Bool.false_or];exact ih
theorem OC(xs:List Int):B5 (B8 xs)=some (B8 xs):=by
 induction xs with
 | nil=>rfl
 | cons x xs ih=>simp only [B8,List.map_cons,B5,BX,Option.bind_some]at ih ⊢;rw [ih];rfl
theorem Po(xs:List Int):(B8 xs).all Ai=true:=by simp [B8,Ai]
end Dv
namespace Dv
open Go
def zB:Value→Value→Bool
 | .int k n, .int k' n'=>decide (k=k')&&decide (n=n')
 | .bool b, .bool b'=>b==b'
 | .string s, .string s'=>s.size==0&&s'.size==0
 | .slice none 0 0, .slice none 0 0=>true
 | .nilFunc, .nilFunc=>true
 | .pointer none, .pointer none=>true
 | _,_=>false
theorem Vu{a b:Value}(h:zB a b=true):a=b:=by
 unfold zB at h
 split at h
 ·simp only [Bool.and_eq_true,decide_eq_true_eq]at h;rw [h.1,h.2]
 ·simp only [beq_iff_eq]at h;rw [h]
 ·simp only [Bool.and_eq_true,beq_iff_eq]at h
  rename_i s s'
  have: ∀t:ByteArray,t.size=0→t=ByteArray.empty:=by
   intro t ht
   obtain⟨d⟩:=t
   have:d= #[]:=Array.size_eq_zero_iff.1 ht
   rw [this];rfl
  rw [this s h.1,this s' h.2]
 ·rfl
 ·rfl
 ·rfl
 ·cases h
def n3:List Value→List Value→Bool
 | [],[]=>true
 | a::as,b::bs=>zB a b&&n3 as bs
 | _,_=>false
theorem T7: ∀ {a b:List Value},n3 a b=true→a=b
 | [],[],_=>rfl
 | [],_::_,h=>by cases h
 | _::_,[],h=>by cases h
 | a::as,b::bs,h=>by
  simp only [n3,Bool.and_eq_true]at h
  rw [Vu h.1,T7 h.2]
def Ht(P:Program)(t:TypeId)(n:Nat)(z:Value):Bool:=
 match P.info? t with
 | some i=>(i.size==n)&&(decide (4<n)||decide (i.bytes≤128))&&(match i.zero,z with | some (.agg a), .agg b=>n3 a.toList b.toList | some v,z=>zB v z | _,_=>false)
 | none=>false
theorem Ey{P:Program}{t:TypeId}{n:Nat}{z:Value}(h:Ht P t n z=true):Fx P t n z:=by
 unfold Ht at h
 split at h
 ·rename_i i hi
  simp only [Bool.and_eq_true,Bool.or_eq_true,beq_iff_eq,decide_eq_true_eq]at h
  refine⟨i,hi,h.1.1, ?_,fun h4=>h.1.2.resolve_left (by omega)⟩
  have h2:=h.2
  split at h2
  ·rename_i a b hz
   rw [hz]
   have:=T7 h2
   rw [←Array.toArray_toList (xs:=a),this]
  ·rename_i v z' hz _
   rw [hz,Vu h2]
  ·cases h2
 ·cases h
def MY(P:Program)(T:Tys)(t:TypeId):Bool:=
 match T.ty t with
 | .int k=>(match P.underlying t with | some (.int k')=>decide (k'=k) | _=>false)&&Ht P t 1 (.int k 0)
 | .bool=>(match P.underlying t with | some .bool=>true | _=>false)&&Ht P t 1 (.bool false)
 | .string=>(match P.underlying t with | some .string=>true | _=>false)&&Ht P t 1 (.string ByteArray.empty)
 | .slice e=>(match P.underlying t with | some (.slice e')=>e'==e | _=>false)&&Ht P t 1 (.slice none 0 0)
 | .struct fs=>(match P.underlying t with
   | some (.struct fields)=>
    match T.nest t with
    | none=>(fields.size==fs.length)&&(List.range fields.size).all (fun j=>match fields[j]?,fs[j]? with | some f,some g=>(f.offset==j)&&(f.type==g)&&T.known g&& !T.isStruct g | _,_=>false)
    | some fl=>decide (4<fs.length)&&(fields.size==fl.length)&&(List.range fields.size).all (fun j=>match fields[j]?,fl[j]? with | some f,some g=>(f.offset==g.1)&&(f.type==g.2)&&T.known g.2 | _,_=>false)
   | _=>false)&&Ht P t fs.length (.agg (fs.map (DK T)).toArray)
 | .func=>(match P.underlying t with | some (.func ..)=>true | _=>false)&&Ht P t 1 .nilFunc
 | .ptr=>(match P.underlying t with | some (.pointer _)=>true | _=>false)&&Ht P t 1 (.pointer none)
 | .map k e=>match P.underlying t with | some (.map k' e')=>(k'==k)&&(e'==e) | _=>false
 | .other=>true
theorem Pp{P:Program}{T:Tys}{t:TypeId}(h:MY P T t=true):CZ P T t:=by
 unfold MY at h
 unfold CZ
 cases hty:T.ty t<;>rw [hty]at h<;>simp only [Bool.and_eq_true]at h ⊢
 case int k=>
  refine⟨?_,Ey h.2⟩
  have h1:=h.1
  split at h1
  ·rename_i k' hu;rw [hu];simp only [decide_eq_true_eq]at h1;rw [h1]
  ·cases h1
 case bool=>
  refine⟨?_,Ey h.2⟩
  have h1:=h.1
  split at h1
  ·assumption
  ·cases h1
 case string=>
  refine⟨?_,Ey h.2⟩
  have h1:=h.1
  split at h1
  ·assumption
  ·cases h1
 case map k e=>
  split at h
  ·rename_i k' e' hu;rw [hu];simp only [Bool.and_eq_true,beq_iff_eq]at h;rw [h.1,h.2]
  ·cases h
 case slice e=>
  refine⟨?_,Ey h.2⟩
  have h1:=h.1
  split at h1
  ·rename_i k' hu;rw [hu];simp only [beq_iff_eq]at h1;rw [h1]
  ·cases h1
 case struct fs=>
  refine⟨?_,Ey h.2⟩
  have h1:=h.1
  split at h1
  ·rename_i fields hu
   refine⟨fields,hu, ?_⟩
   cases hn:T.nest t with
   | none=>
    simp only [hn,Bool.and_eq_true,beq_iff_eq,List.all_eq_true,List.mem_range]at h1 ⊢
    refine⟨h1.1,fun j f hf=> ?_⟩
    have hlt:=(Array.getElem?_eq_some_iff.1 hf).1
    have:=h1.2 j hlt
    rw [hf]at this
    split at this
    ·rename_i f' g hf' hg
     simp only [Option.some.injEq]at hf'
     subst hf'
     simp only [Bool.and_eq_true,beq_iff_eq,Bool.not_eq_true']at this
     obtain⟨⟨⟨q1,q2⟩,q3⟩,q4⟩:=this
     subst q2
     exact⟨q1,hg,q3,q4⟩
    ·cases this
   | some fl=>
    simp only [hn,Bool.and_eq_true,beq_iff_eq,List.all_eq_true,List.mem_range,decide_eq_true_eq]at h1 ⊢
    refine⟨h1.1.1,h1.1.2,fun j f hf=> ?_⟩
    have hlt:=(Array.getElem?_eq_some_iff.1 hf).1
    have:=h1.2 j hlt
    rw [hf]at this
    split at this
    ·rename_i f' g hf' hg
     simp only [Option.some.injEq]at hf'
     subst hf'
     simp only [Bool.and_eq_true,beq_iff_eq]at this
     obtain⟨⟨q1,q2⟩,q3⟩:=this
     refine⟨?_,by rw [q2];exact q3⟩
     rw [hg,q1,q2]
    ·cases this
  ·cases h1
 case func=>
  refine⟨?_,Ey h.2⟩
  have h1:=h.1
  split at h1
  ·exact⟨_,_,_,by assumption⟩
  ·cases h1
 case ptr=>
  refine⟨?_,Ey h.2⟩
  have h1:=h.1
  split at h1
  ·exact⟨_,by assumption⟩
  ·cases h1
def Rh(UV:List Ty)(Vv:List (TypeId×List (Nat×TypeId))):Tys:={ty:=fun t=>UV.getD t .other,nest:=fun t=>Vv.lookup t}
theorem Zr{P:Program}{UV:List Ty}{Vv:List (TypeId×List (Nat×TypeId))}(h:((List.range UV.length).all fun t=>MY P (Rh UV Vv) t&&Ug P (Rh UV Vv) t)=true):An P (Rh UV Vv):=by
 intro t
 rcases Nat.lt_or_ge t UV.length with ht | ht
 ·have:=List.all_eq_true.1 h t (List.mem_range.2 ht)
  rw [Bool.and_eq_true]at this
  exact⟨Pp this.1,this.2⟩
 ·have:(Rh UV Vv).ty t= .other:=by simp [Rh,List.getD_eq_getElem?_getD,List.getElem?_eq_none ht]
  refine⟨?_, ?_⟩
  ·unfold CZ
   rw [this];trivial
  ·unfold Ug
   rw [this]
theorem AN{Y:Sys}{f:FuncId}{fn:Func}{k:SC}{a l:List D}{r:D×List D}(hb:Y.base f a l=none)(hf:Y.P.funcs[f]? =some fn)(hok:CD fn a.length=true)
  (hk:fn.body.map (BZ Y.lends)=some k)(h:Bw Y.env k (Ew Y.T l.length fn.results.toList r) (entry a l)):Y.call f a l=some r:=by
 obtain⟨c,hc,hk⟩:=Option.map_eq_some_iff.1 hk
 exact Sys.call_wp hb hf hok hc hk h
end Dv
namespace Dv
open Go
section
variable (E:Env) (pm:Pm) (s:St) (dst:Option Tmp) (ty:TypeId) (u:Tmp) (t:TypeId)
theorem DM(o:Option D):(o.map fun r=>s.putO dst r)=Dh s dst o:=by cases o<;>rfl
theorem Ez(o:Option (D×St)):(o.map fun r=>r.2.putO dst r.1)=KC dst o:=by cases o<;>rfl
theorem ej:ES E pm s dst (.move (.tmp u)) ty=some (Ao s dst (.tmp u) (s.v u)):=nr rfl
def T8(pm:Pm):Option Tmp→Option St→Option St
 | some t,some s1=>CN pm s1 (some t)
 | _,_=>none
def vA(s1:St)(t:Tmp):Option D→Option St
 | some c=>some (s1.set [t] c)
 | none=>none
theorem o7(s1:St)(t:Tmp)(h1:pm.rd t=true)(h2:pm.wr t=true):T8 pm (some t) (some s1)=vA s1 t (BX (s1.v t)):=by
 show(if pm.rd t&&pm.wr t then(BX (s1.v t)).map fun c=>s1.set [t] c else none)=_
 rw [h1,h2]
 cases BX (s1.v t)<;>rfl
theorem o8(s1:St)(u:Tmp)(b:Bool):v8 pm s1 u (.bool b)=if b=true then some s1 else T8 pm (some u) (some s1):=by
 cases b<;>rfl
theorem o9(s1:St)(t:Tmp)(c:D):vA s1 t (some c)=some (s1.set [t] c):=nr rfl
def n4(pm:Pm):Option Tmp→Option St→Option St
 | some t,some s1=>FW pm s1 (some t)
 | _,_=>none
def oA(s1:St)(t:Tmp)(e:TypeId):Option (List D)→Option St
 | some ys=>some (s1.set [t] (.own e ys))
 | none=>none
def oB(s1:St)(t:Tmp):D→Option St
 | .own e xs=>oA s1 t e (B5 xs)
 | _=>none
theorem oC(s1:St)(t:Tmp)(h1:pm.rd t=true)(h2:pm.wr t=true):n4 pm (some t) (some s1)=oB s1 t (s1.v t):=by
 show FW pm s1 (some t)=_
 unfold FW oB
 dsimp only
 rw [h1,h2]
 cases s1.v t with
 | own e xs=>simp only [Bool.and_self,if_true];cases B5 xs<;>rfl
 | _=>rfl
theorem oD(s1:St)(t:Tmp)(e:TypeId)(xs:List D):oB s1 t (.own e xs)=oA s1 t e (B5 xs):=nr rfl
theorem oE(s1:St)(t:Tmp)(e:TypeId)(ys:List D):oA s1 t e (some ys)=some (s1.set [t] (.own e ys)):=nr rfl
theorem V9:ES E pm s dst (.assign (.tmp u)) ty=if ty=900003 then T8 pm dst (AS pm s dst (.tmp u) (s.v u))else if ty<1000000 then AS pm s dst (.tmp u) (s.v u)else T8 pm dst (AS pm s dst (.tmp u) (s.v u)):=by
 have hfr:((AS pm s dst (.tmp u) (s.v u)).bind fun s1=>CN pm s1 dst)=T8 pm dst (AS pm s dst (.tmp u) (s.v u)):=by
  rcases AS pm s dst (.tmp u) (s.v u)with _ | s1<;>cases dst<;>rfl
 show(if SB ty=true then(AS pm s dst (.tmp u) (s.v u)).bind fun s1=>CN pm s1 dst else AS pm s dst (.tmp u) (s.v u))=_
 rw [hfr]
 unfold SB
 by_cases h1:ty=900003
 ·rw [if_pos h1,if_pos h1];rfl
 ·rw [if_neg h1,if_neg h1]
  by_cases h2:ty<1000000
  ·rw [if_pos h2,if_pos h2];rfl
  ·rw [if_neg h2,if_neg h2];rfl
theorem T9(v:Value):ES E pm s dst (.assign (.const v)) ty=if ty=900003 then T8 pm dst (Dh s dst (ev E.T s ty (.const v)))else if ty<1000000 then Dh s dst (ev E.T s ty (.const v))else T8 pm dst (Dh s dst (ev E.T s (ty-1000000) (.const v))):=by
 have hfr: ∀t,((ev E.T s t (.const v)).bind fun d=>(AS pm s dst (.const v) d).bind fun s1=>CN pm s1 dst)=T8 pm dst (Dh s dst (ev E.T s t (.const v))):=by
  intro t
  cases ev E.T s t (.const v)<;>cases dst<;>rfl
 have hno: ∀t,((ev E.T s t (.const v)).bind fun d=>AS pm s dst (.const v) d)=Dh s dst (ev E.T s t (.const v)):=by
  intro t
  cases ev E.T s t (.const v)<;>rfl
 show((ev E.T s (ZF ty) (.const v)).bind fun d=>if SB ty=true then(AS pm s dst (.const v) d).bind fun s1=>CN pm s1 dst else AS pm s dst (.const v) d)=_
 unfold SB ZF
 by_cases h1:ty=900003
 ·simp only [if_pos h1,if_true];exact hfr _
 ·by_cases h2:ty<1000000
  ·simp only [if_neg h1,if_pos h2,Bool.false_eq_true,if_false];exact hno _
  ·simp only [if_neg h1,if_neg h2,if_true];exact hfr _
theorem Zs(v:Value):ES E pm s dst (.move (.const v)) ty=Dh s dst (ev E.T s ty (.const v)):=by
 show((ev E.T s ty (.const v)).map fun d=>Ao s dst (.const v) d)=_
 cases ev E.T s ty (.const v)<;>rfl
theorem ek:ES E pm s dst (.load t (.tmp u)) ty=Dh s dst (Bn E.T pm s t (.tmp u) (s.v u)):=DM s dst _
theorem xM(op:UnOp):ES E pm s dst (.unOp op t (.tmp u)) ty=Dh s dst (Vo op (s.v u)):=DM s dst _
theorem Zt(i:Nat):ES E pm s dst (.fieldAddr t (.tmp u) i) ty=Dh s dst (CG E.T pm s t (.tmp u) (s.v u) i):=DM s dst _
theorem oF:ES E pm s dst (.call ⟨.builtin .len, #[.tmp u], #[t]⟩) ty=Dh s dst (FX E.T pm s t (.tmp u) (s.v u)):=DM s dst _
theorem TA(i:Nat):ES E pm s dst (.extract (.tmp u) i) ty=DV s dst (.tmp u) (s.v u) i:=nr rfl
def vB(T:Tys)(pm:Pm)(s:St)(dst:Option Tmp)(t:TypeId)(x:Operand)(hi:Option Operand):Option Operand→Option Operand→Option St
 | none,none=>KC dst (GK T pm s t x hi)
 | _,_=>none
theorem oG(T:Tys)(x:Operand)(hi:Option Operand):vB T pm s dst t x hi none none=KC dst (GK T pm s t x hi):=nr rfl
def vC(T:Tys)(pm:Pm)(s:St)(dst:Option Tmp)(t:TypeId)(x:Operand)(lo:Option Operand):Option Operand→Option Operand→Option St
 | none,none=>KC dst (En T pm s t x lo)
 | _,_=>none
theorem oH(T:Tys)(x:Operand)(lo:Option Operand):vC T pm s dst t x lo none none=KC dst (En T pm s t x lo):=nr rfl
theorem Zu(lo hi mx:Option Operand):ES E pm s dst (.slice t (.tmp u) lo hi mx) ty=
  if ty=900002 then vB E.T pm s dst t (.tmp u) hi lo mx
  else if ty=900005 then vC E.T pm s dst t (.tmp u) lo hi mx
  else if ty=900001 then KC dst (DU E.T pm.see s t (.tmp u) (s.v u) lo hi mx)else KC dst (DU E.T pm s t (.tmp u) (s.v u) lo hi mx):=by
 show(if ty=900002 then(if lo.isNone&&mx.isNone then(GK E.T pm s t (.tmp u) hi).map fun r=>r.2.putO dst r.1 else none)
  else if ty=900005 then(if hi.isNone&&mx.isNone then(En E.T pm s t (.tmp u) lo).map fun r=>r.2.putO dst r.1 else none)
  else(ev E.T s t (.tmp u)).bind fun d=>(DU E.T (if ty=900001 then pm.see else pm) s t (.tmp u) d lo hi mx).map fun r=>r.2.putO dst r.1)=_
 split
 ·cases lo<;>cases mx<;>first | rfl | exact Ez dst _
 ·split
  ·cases hi<;>cases mx<;>first | rfl | exact Ez dst _
  ·split
   ·exact Ez dst _
   ·exact Ez dst _
def el(T:Tys)(pm:Pm)(s:St)(t:TypeId)(x y:Operand)(d:D):Option (D×St):=if ZE (some d)then Eo T pm s t x else CV T pm s t x y
theorem VA(x:Operand)(v:Tmp):ES E pm s dst (.call ⟨.builtin .append, #[x, .tmp v], #[t,t]⟩) ty=KC dst (el E.T pm s t x (.tmp v) (s.v v)):=by
 rw [Pn,if_pos rfl,Ez];rfl
def oI(mx:Bool):Option D→Option D→Option D
 | some a,some b=>Iy mx a b
 | _,_=>none
theorem oJ(mx:Bool)(a b:D):oI mx (some a) (some b)=Iy mx a b:=nr rfl
theorem eo(k:IntKind)(x y:Int):Iy false (.int k x) (.int k y)=some (.int k (M1 x y)):=by simp [Iy]
theorem ep(k:IntKind)(x y:Int):Iy true (.int k x) (.int k y)=some (.int k (Qb x y)):=by simp [Iy]
theorem oK(x y:Operand)(t':TypeId):ES E pm s dst (.call ⟨.builtin .min, #[x,y], #[t,t']⟩) ty=Dh s dst (oI false (ev E.T s t x) (ev E.T s t' y)):=by
 show(match ev E.T s t x,ev E.T s t' y with | some a,some b=>(Iy false a b).map fun r=>s.putO dst r | _,_=>none)=_
 cases ev E.T s t x<;>cases ev E.T s t' y<;>first | rfl | exact DM s dst _
theorem oL(x y:Operand)(t':TypeId):ES E pm s dst (.call ⟨.builtin .max, #[x,y], #[t,t']⟩) ty=Dh s dst (oI true (ev E.T s t x) (ev E.T s t' y)):=by
 show(match ev E.T s t x,ev E.T s t' y with | some a,some b=>(Iy true a b).map fun r=>s.putO dst r | _,_=>none)=_
 cases ev E.T s t x<;>cases ev E.T s t' y<;>first | rfl | exact DM s dst _
theorem oM(T:Tys)(x y:Operand)(e:TypeId)(xs:List D):el T pm s t x y (.sl e xs)=CV T pm s t x y:=nr rfl
theorem eq(T:Tys)(x y:Operand)(e:TypeId)(xs:List D):el T pm s t x y (.own e xs)=CV T pm s t x y:=nr rfl
theorem oN(T:Tys)(x y:Operand)(L:A2)(n m:Nat):el T pm s t x y (.vw L n m)=CV T pm s t x y:=nr rfl
theorem xN(T:Tys)(x y:Operand)(A:Option Addr)(c:Nat):el T pm s t x y (.konst (.slice A 0 c))=Eo T pm s t x:=nr rfl
def vD(T:Tys)(pm:Pm)(s:St)(t:TypeId)(x:Operand)(d:D):Option D→Option D
 | some i=>IC T pm s t x d i
 | none=>none
theorem oO(T:Tys)(x:Operand)(d i:D):vD T pm s t x d (some i)=IC T pm s t x d i:=nr rfl
theorem Zv(i:Operand):ES E pm s dst (.indexAddr t (.tmp u) i) ty=Dh s dst (vD E.T pm s t (.tmp u) (s.v u) (ev E.T s 0 i)):=by
 show(match some (s.v u),ev E.T s 0 i with
  | some a,some b=>(IC E.T pm s t (.tmp u) a b).map fun r=>s.putO dst r
  | _,_=>none)=_
 cases ev E.T s 0 i with
 | none=>rfl
 | some b=>exact DM s dst _
def er(T:Tys)(t:TypeId):Option D→Option D→Option D
 | some a,some b=>Ci T t a b
 | _,_=>none
theorem oP(T:Tys)(a b:D):er T t (some a) (some b)=Ci T t a b:=nr rfl
theorem oQ(l c:Operand):Kt E.T s dst t l c=Dh s dst (er E.T t (ev E.T s 0 l) (ev E.T s 0 c)):=by
 show(match ev E.T s 0 l,ev E.T s 0 c with
  | some a,some b=>(Ci E.T t a b).map fun r=>s.putO dst r
  | _,_=>none)=_
 cases ev E.T s 0 l<;>cases ev E.T s 0 c<;>first | rfl | exact DM s dst _
theorem et(l c:Operand):ES E pm s dst (.makeSlice t l c) ty=if ty=900012 then n4 pm dst (Dh s dst (er E.T t (ev E.T s 0 l) (ev E.T s 0 c)))else Dh s dst (er E.T t (ev E.T s 0 l) (ev E.T s 0 c)):=by
 rw [L7,oQ]
 by_cases h:ty=900012
 ·rw [if_pos h,if_pos h]
  cases Dh s dst (er E.T t (ev E.T s 0 l) (ev E.T s 0 c))<;>cases dst<;>rfl
 ·rw [if_neg h,if_neg h]
theorem oR(u:Tmp)(s1:St):nP pm (.tmp u) (some s1)=T8 pm (some u) (some s1):=nr rfl
def oS(s:St)(dst:Option Tmp):Option D→Ty→Option St
 | some (.int _ n), .int k=>some (s.putO dst (.int k (k.wrap n)))
 | some (.str b), .string=>some (s.putO dst (.str b))
 | _,_=>none
theorem oT(k k':IntKind)(n:Int):oS s dst (some (.int k n)) (.int k')=some (s.putO dst (.int k' (k'.wrap n))):=nr rfl
theorem oU(b:ByteArray):oS s dst (some (.str b)) .string=some (s.putO dst (.str b)):=nr rfl
theorem TB(src d:TypeId)(x:Operand):ES E pm s dst (.convert src d x) ty=if E.T.known src then oS s dst (ev E.T s src x) (E.T.ty d)else none:=by
 rw [OA]
 split
 ·rcases ev E.T s src x with _ | d'<;>cases E.T.ty d<;>first | rfl | (cases d'<;>rfl)
 ·rfl
def eu(l:List TypeId):List TypeId:=l.map fun _=>900013
theorem oV(k e:TypeId)(es:List (List Int×List Int)):(D.mp k e es).hasObj=true:=by simp [D.hasObj]
theorem oW:eu []=[]:=nr rfl
theorem oX(t:TypeId)(l:List TypeId):eu (t::l)=900013::eu l:=nr rfl
theorem ey(f:FuncId)(args:Array Operand)(ts:Array TypeId)(h:args.size=ts.size):ES E pm s dst (.call ⟨.value (.func f),args,ts⟩) ty=Dl E pm s dst f (args.toList.zip (if ty=900013 then eu ts.toList else ts.toList)) []:=by
 rw [T0,if_pos h]
 unfold LP eu;rfl
end
section
variable {T:Tys} {pm:Pm} {s:St} {t:TypeId}
theorem xO(x:Operand)(xs:List D)(hk:T.known t=true)(hs:T.isStruct t=false):Bn T pm s t x (.cptr xs)=xs[0]? :=by simp [Bn,hk,hs]
theorem oY(x:Operand)(xs:List D)(hk:T.known t=true)(hs:T.isStruct t=true):Bn T pm s t x (.cptr xs)=if T.size t≤xs.length then some (.agg (xs.take (T.size t)))else none:=by simp [Bn,hk,hs]
def GZ(s:St)(L:A2)(c:Nat):Option D→Option D
 | some o=>(o.cells[c]?).bind fun x=>Aj (Bq s L c x)
 | none=>none
def cellsOf(s:St)(L:A2)(c n:Nat):Option D→Option D
 | some o=>if c+n≤o.cells.length then Aj (.agg ((List.range n).map fun i=>Bq s L (c+i) (o.cells.getD (c+i) .undef)))else none
 | none=>none
theorem xP(x:Operand)(L:A2)(c n m:Nat)(hk:T.known t=true)(hs:T.isStruct t=false):Bn T pm s t x (.pe L c n m)=GZ s L c (s.look pm L n m):=by
 simp only [Bn,hk,hs,if_true,Cr]
 cases s.look pm L n m<;>simp [GZ]
theorem oZ(x:Operand)(L:A2)(c n m:Nat)(hk:T.known t=true)(hs:T.isStruct t=true):Bn T pm s t x (.pe L c n m)=cellsOf s L c (T.size t) (s.look pm L n m):=by
 simp only [Bn,hk,hs,if_true,Cr]
 cases s.look pm L n m<;>simp [cellsOf]
theorem xQ(u:Tmp)(xs:List D)(hk:T.known t=true)(hs:T.isStruct t=false):Bn T pm s t (.tmp u) (.box xs)=GZ s [u] 0 (some (.box xs)):=by
 simp only [Bn,hk,hs,if_true,Cr]
 simp [GZ]
theorem oa(u:Tmp)(xs:List D)(hk:T.known t=true)(hs:T.isStruct t=true):Bn T pm s t (.tmp u) (.box xs)=cellsOf s [u] 0 (T.size t) (some (.box xs)):=by
 simp only [Bn,hk,hs,if_true,Cr]
 simp [cellsOf]
def Ga(s:St)(pm:Pm)(L:A2)(n m:Nat):Option D:=
 match s.look pm L n m with
 | some (.box xs)=>some (.box xs)
 | _=>none
theorem xR(x:Operand)(L:A2)(n m:Nat)(hk:T.known t=true)(hs:T.isStruct t=false):Bn T pm s t x (.vw L n m)=GZ s L 0 (Ga s pm L n m):=by
 simp only [Bn,hk,hs,if_true,Cr,Ga]
 cases s.look pm L n m with
 | none=>simp [GZ]
 | some o=>cases o<;>simp [GZ]
theorem ob(x:Operand)(L:A2)(n m:Nat)(hk:T.known t=true)(hs:T.isStruct t=true):Bn T pm s t x (.vw L n m)=cellsOf s L 0 (T.size t) (Ga s pm L n m):=by
 simp only [Bn,hk,hs,if_true,Cr,Ga]
 cases s.look pm L n m with
 | none=>simp [cellsOf]
 | some o=>cases o<;>simp [cellsOf]
def OD:D→Option D
 | .own e xs=>some (.own e xs)
 | .box xs=>some (.box xs)
 | _=>none
theorem Zw(e:TypeId)(xs:List D):OD (.own e xs)=some (.own e xs):=nr rfl
theorem Zx(xs:List D):OD (.box xs)=some (.box xs):=nr rfl
theorem ez(u n m:Nat):s.look pm [u] n m=if pm.rd u&&(s.k u==n)then OD (s.v u)else none:=by
 simp only [St.look,List.isEmpty_nil,Bool.true_or,Bool.and_true,AX]
 split
 ·cases s.v u<;>rfl
 ·rfl
def f5:Option D→Option D
 | some d=>OD d
 | none=>none
theorem f6(u c n m:Nat)(p:A2):s.look pm (u::c::p) n m=if pm.rd u&&(s.k u==n)&&(s.m u==m)then f5 (AX (s.v u) (c::p))else none:=by
 simp only [St.look,List.isEmpty_cons,Bool.false_or]
 split
 ·cases AX (s.v u) (c::p)with
  | none=>rfl
  | some d=>cases d<;>rfl
 ·rfl
theorem f7(d:D):f5 (some d)=OD d:=nr rfl
theorem oc(x:Operand)(e:TypeId)(xs:List D):Ak pm s x (.sl e xs)=some (e,xs,none):=nr rfl
theorem f8(u:Tmp)(e:TypeId)(xs:List D):Ak pm s (.tmp u) (.own e xs)=some (e,xs,some ([u],s.k u,s.m u)):=nr rfl
def f9(L:A2)(n m:Nat):Option D→Option (TypeId×List D×Option (A2×Nat×Nat))
 | some (.own e xs)=>some (e,xs,some (L,n,m))
 | _=>none
theorem fA(L:A2)(n m:Nat)(e:TypeId)(xs:List D):f9 L n m (some (.own e xs))=some (e,xs,some (L,n,m)):=nr rfl
theorem od(x:Operand)(L:A2)(n m:Nat):Ak pm s x (.vw L n m)=f9 L n m (s.look pm L n m):=by
 simp only [Ak]
 cases s.look pm L n m with
 | none=>rfl
 | some o=>cases o<;>rfl
def VB(T:Tys):Option (TypeId×List D×Option (A2×Nat×Nat))→Option D
 | some (e,xs,_)=>if T.known e then some (.int .i64 (T.len e xs))else none
 | none=>none
theorem fB(e:TypeId)(xs:List D)(o:Option (A2×Nat×Nat))(hk:T.known e=true):VB T (some (e,xs,o))=some (.int .i64 (T.len e xs)):=by simp [VB,hk]
def n5(T:Tys)(pm:Pm)(s:St)(x:Operand)(d:D):Ty→Option D
 | .string=>match d with | .str b=>some (.int .i64 b.size) | _=>none
 | .slice _=>VB T (Ak pm s x d)
 | _=>none
theorem xS(x:Operand)(d:D):FA T pm s t x d=n5 T pm s x d (T.ty t):=by
 unfold FA n5
 cases T.ty t with
 | slice e=>
  simp only
  cases Ak pm s x d with
  | none=>rfl
  | some q=>rfl
 | string=>cases d<;>rfl
 | _=>rfl
theorem fC(x:Operand)(e:TypeId)(xs:List D):FX T pm s t x (.sl e xs)=FA T pm s t x (.sl e xs):=nr rfl
theorem Zy(x:Operand)(e:TypeId)(xs:List D):FX T pm s t x (.own e xs)=FA T pm s t x (.own e xs):=nr rfl
def fD(T:Tys)(pm:Pm)(s:St)(t:TypeId)(x:Operand)(L:A2)(n m:Nat):Ty→Option D
 | .map _ _=>(s.lookM pm L n).map fun q=> .int .i64 q.2.2.length
 | _=>FA T pm s t x (.vw L n m)
theorem fF(x:Operand)(L:A2)(n m:Nat):FX T pm s t x (.vw L n m)=fD T pm s t x L n m (T.ty t):=by
 show(match T.ty t with | .map _ _=>Ks T pm s t x (.vw L n m) | _=>NK T pm s t x (.vw L n m))=_
 unfold fD Ks
 cases h:T.ty t<;>simp only [HR]<;>first | rfl | (cases s.lookM pm L n<;>rfl)
theorem oe(T:Tys)(x:Operand)(L:A2)(n m:Nat)(k e:TypeId):fD T pm s t x L n m (.map k e)=(s.lookM pm L n).map fun q=> .int .i64 q.2.2.length:=nr rfl
theorem og(T:Tys)(x:Operand)(L:A2)(n m:Nat)(e:TypeId):fD T pm s t x L n m (.slice e)=FA T pm s t x (.vw L n m):=nr rfl
theorem Zz(T:Tys)(x:Operand)(L:A2)(n m:Nat):fD T pm s t x L n m .string=FA T pm s t x (.vw L n m):=nr rfl
def fG:D→Option (TypeId×TypeId×List (List Int×List Int))
 | .mp k e es=>some (k,e,es)
 | _=>none
theorem fH(k e:TypeId)(es:List (List Int×List Int)):fG (.mp k e es)=some (k,e,es):=nr rfl
theorem aA(u n:Nat):s.lookM pm [u] n=if pm.rd u&&(s.k u==n)then fG (s.v u)else none:=by
 simp only [St.lookM]
 split
 ·cases s.v u<;>rfl
 ·rfl
theorem aB(x:Operand)(b:ByteArray):FX T pm s t x (.str b)=FA T pm s t x (.str b):=nr rfl
theorem fI(x:Operand)(e:TypeId)(L:A2)(n m lo len:Nat):FX T pm s t x (.vs e L n m lo len)=Ud len (T.ty t):=nr rfl
theorem fJ(len:Nat)(e:TypeId):Ud len (.slice e)=some (.int .i64 len):=nr rfl
theorem fK(x:Operand)(e:TypeId)(xs:List D)(i:D):IC T pm s t x (.sl e xs) i=Bd T pm s t x (.sl e xs) i:=nr rfl
theorem aD(x:Operand)(e:TypeId)(xs:List D)(i:D):IC T pm s t x (.own e xs) i=Bd T pm s t x (.own e xs) i:=nr rfl
theorem fL(x:Operand)(L:A2)(n m:Nat)(i:D):IC T pm s t x (.vw L n m) i=Bd T pm s t x (.vw L n m) i:=nr rfl
def VC(T:Tys)(e e1:TypeId)(L:A2)(va vb lo len:Nat)(n:Int):Option D→Option D
 | some (.own e2 xs)=>if e1=e∧e2=e∧T.known e=true∧T.size e=1∧0≤n∧n.toNat<len∧lo+len≤xs.length then some (.pe L (lo+n.toNat) va vb)else none
 | _=>none
def aE(T:Tys)(pm:Pm)(s:St)(e1:TypeId)(L:A2)(va vb lo len:Nat)(n:Int):Ty→Option D
 | .slice e=>VC T e e1 L va vb lo len n (s.look pm L va vb)
 | _=>none
theorem fM(x:Operand)(e:TypeId)(L:A2)(va vb lo len:Nat)(k:IntKind)(n:Int):IC T pm s t x (.vs e L va vb lo len) (.int k n)=aE T pm s e L va vb lo len n (T.ty t):=by
 show SA T pm s t e L va vb lo len (.int k n)=_
 unfold SA aE
 cases T.ty t with
 | slice e'=>
  simp only
  rcases s.look pm L va vb with _ | d
  ·rfl
  ·cases d<;>rfl
 | _=>rfl
theorem fN(e1:TypeId)(L:A2)(va vb lo len:Nat)(n:Int)(e:TypeId):aE T pm s e1 L va vb lo len n (.slice e)=VC T e e1 L va vb lo len n (s.look pm L va vb):=nr rfl
theorem fO(e:TypeId)(L:A2)(va vb lo len:Nat)(n:Int)(xs:List D)(hk:T.known e=true)(hz:T.size e=1)(h1:0≤n∧n.toNat<len)(h2:lo+len≤xs.length):VC T e e L va vb lo len n (some (.own e xs))=some (.pe L (lo+n.toNat) va vb):=by
 unfold VC
 dsimp only
 rw [if_pos ⟨rfl,rfl,hk,hz,h1.1,h1.2,h2⟩]
theorem ol(x:Operand)(d:D)(e:TypeId):n5 T pm s x d (.slice e)=VB T (Ak pm s x d):=nr rfl
theorem fP(x:Operand)(b:ByteArray):n5 T pm s x (.str b) .string=some (.int .i64 b.size):=nr rfl
theorem fQ(e:TypeId)(xs:List D)(h:T.size e=1):T.len e xs=xs.length:=by simp [Tys.len,h]
def Lm(T:Tys)(e:TypeId)(n:Int):Option (TypeId×List D×Option (A2×Nat×Nat))→Option D
 | some (e',xs,o)=>
  if e'=e∧T.known e=true∧0≤n∧n.toNat<T.len e xs then
   match o with
   | none=>some (.cptr ((xs.drop (n.toNat*T.size e)).take (T.size e)))
   | some (L,a,b)=>some (.pe L (n.toNat*T.size e) a b)
  else none
 | none=>none
def oo(T:Tys)(pm:Pm)(s:St)(x:Operand)(d:D)(n:Int):Ty→Option D
 | .slice e=>Lm T e n (Ak pm s x d)
 | _=>none
theorem xT(x:Operand)(d:D)(k:IntKind)(n:Int):Bd T pm s t x d (.int k n)=oo T pm s x d n (T.ty t):=by
 unfold Bd oo
 cases T.ty t with
 | slice e=>
  simp only
  cases Ak pm s x d with
  | none=>rfl
  | some q=>rfl
 | _=>rfl
theorem oq(x:Operand)(d:D)(n:Int)(e:TypeId):oo T pm s x d n (.slice e)=Lm T e n (Ak pm s x d):=nr rfl
theorem aF(e:TypeId)(n:Int)(xs:List D)(hk:T.known e=true)(hz:T.size e=1)(hn:0≤n∧n.toNat<xs.length):Lm T e n (some (e,xs,none))=some (.cptr [xs.getD n.toNat .undef]):=by
 simp only [Lm,hk,hz,Tys.len,if_true]
 rw [if_pos ⟨trivial,trivial,hn.1,hn.2⟩,Nat.mul_one,List.drop_eq_getElem_cons hn.2,List.getD_eq_getElem?_getD,List.getElem?_eq_getElem hn.2];rfl
theorem VD(e:TypeId)(n:Int)(xs:List D)(L:A2)(a b:Nat)(hk:T.known e=true)(hz:T.size e=1)(hn:0≤n∧n.toNat<xs.length):Lm T e n (some (e,xs,some (L,a,b)))=some (.pe L n.toNat a b):=by
 simp only [Lm,hk,hz,Tys.len,if_true]
 rw [if_pos ⟨trivial,trivial,hn.1,hn.2⟩,Nat.mul_one]
end
section
variable {T:Tys} {pm:Pm} {s:St} {t:TypeId} (u:Tmp)
def Kq(pm:Pm)(s:St)(u:Tmp)(d:D):Option (D×St):=Af pm (if d.hasObj then s.clr u else s) d
theorem fR:take T pm s t (.tmp u)=Kq pm s u (s.v u):=nr rfl
theorem xU(v:Value):take T pm s t (.const v)=match ev T s t (.const v)with | none=>none | some d=>Af pm s d:=nr rfl
theorem fS(k:IntKind)(n:Int):Af pm s (.int k n)=some (.int k n,s):=by simp [Af]
theorem aG(b:Bool):Af pm s (.bool b)=some (.bool b,s):=by simp [Af]
theorem fT(b:ByteArray):Af pm s (.str b)=some (.str b,s):=by simp [Af]
theorem ot(e:TypeId)(xs:List D):Af pm s (.sl e xs)=some (.sl e xs,s):=by simp [Af]
theorem fU(e:TypeId)(xs:List D):Af pm s (.own e xs)=some (.own e xs,s):=by simp [Af]
theorem fV(xs:List D):Af pm s (.box xs)=some (.box xs,s):=by simp [Af]
theorem fW(f:FuncId)(xs:List D):Af pm s (.clo f xs)=some (.clo f xs,s):=by simp [Af]
theorem aH(xs:List D):Af pm s (.cptr xs)=some (.cptr xs,s):=by simp [Af]
theorem ou(L:A2)(n m:Nat):Af pm s (.vw L n m)=GJ pm s L n m:=by simp [Af]
def fX:Option (List D×St)→Option (D×St)
 | some r=>some (.agg r.1,r.2)
 | none=>none
theorem ov(r:List D×St):fX (some r)=some (.agg r.1,r.2):=nr rfl
theorem Vw(xs:List D):Af pm s (.agg xs)=fX (C6 pm s xs):=by simp only [Af];cases C6 pm s xs<;>rfl
def vE(pm:Pm)(ds:List D):Option (D×St)→Option (List D×St)
 | some r=>(C6 pm r.2 ds).map fun q=>(r.1::q.1,q.2)
 | none=>none
theorem ow(ds:List D)(d:D):vE pm ds (some (d,s))=(C6 pm s ds).map fun q=>(d::q.1,q.2):=nr rfl
theorem aI:C6 pm s []=some ([],s):=by simp [C6]
theorem VE(d:D)(ds:List D):C6 pm s (d::ds)=vE pm ds (Af pm s d):=by simp only [C6];cases Af pm s d<;>rfl
theorem fY(k:IntKind)(n:Int):Kq pm s u (.int k n)=some (.int k n,s):=by simp [Kq,Af,D.hasObj]
theorem aJ(b:Bool):Kq pm s u (.bool b)=some (.bool b,s):=by simp [Kq,Af,D.hasObj]
theorem fZ(b:ByteArray):Kq pm s u (.str b)=some (.str b,s):=by simp [Kq,Af,D.hasObj]
theorem ox(e:TypeId)(xs:List D):Kq pm s u (.sl e xs)=some (.sl e xs,s):=by simp [Kq,Af,D.hasObj]
theorem fa(e:TypeId)(xs:List D):Kq pm s u (.own e xs)=some (.own e xs,s.clr u):=by simp [Kq,Af,D.hasObj]
theorem fb(xs:List D):Kq pm s u (.box xs)=some (.box xs,s.clr u):=by simp [Kq,Af,D.hasObj]
theorem fc(f:FuncId)(xs:List D):Kq pm s u (.clo f xs)=some (.clo f xs,s):=by simp [Kq,Af,D.hasObj]
theorem aK(xs:List D):Kq pm s u (.cptr xs)=some (.cptr xs,s):=by simp [Kq,Af,D.hasObj]
theorem oy(L:A2)(n m:Nat):Kq pm s u (.vw L n m)=GJ pm s L n m:=by simp [Kq,Af,D.hasObj]
theorem fd(xs:List D):Kq pm s u (.agg xs)=fX (C6 pm (if AC xs then s.clr u else s) xs):=by
 simp only [Kq,D.hasObj];rw [Vw];rfl
theorem aL:AC []=false:=by simp [AC]
theorem Qo(d:D)(ds:List D):AC (d::ds)=(d.hasObj||AC ds):=by simp [AC]
theorem fe(e:TypeId)(xs:List D):(D.sl e xs).hasObj=false:=by simp [D.hasObj]
theorem ff(e:TypeId)(xs:List D):(D.own e xs).hasObj=true:=by simp [D.hasObj]
theorem fg(xs:List D):(D.box xs).hasObj=true:=by simp [D.hasObj]
theorem fh(f:FuncId)(xs:List D):(D.clo f xs).hasObj=false:=by simp [D.hasObj]
theorem aM(xs:List D):(D.cptr xs).hasObj=false:=by simp [D.hasObj]
theorem oz(L:A2)(n m:Nat):(D.vw L n m).hasObj=false:=by simp [D.hasObj]
theorem p5(L:A2)(c n m:Nat):(D.pe L c n m).hasObj=false:=by simp [D.hasObj]
theorem xV(v:Value):(D.konst v).hasObj=false:=by simp [D.hasObj]
theorem xW:D.undef.hasObj=false:=by simp [D.hasObj]
theorem fi(xs:List D):(D.agg xs).hasObj=AC xs:=by simp [D.hasObj]
theorem fj(xs:List D):(D.tup xs).hasObj=AC xs:=by simp [D.hasObj]
def p6(s:St)(r:Nat):Option D→Option (D×St)
 | some c=>some (c,s.set [r] .undef)
 | none=>none
theorem p7(r:Nat)(c:D):p6 s r (some c)=some (c,s.set [r] .undef):=nr rfl
theorem fk(r n m:Nat)(hw:pm.wr r=true):GJ pm s [r] n m=p6 s r (s.look pm [r] n m):=by
 unfold GJ
 cases s.look pm [r] n m with
 | none=>rfl
 | some c=>simp [hw,St.get,p6]
def cR(s:St)(L:A2)(o:Option D):Option D→Option (D×St)
 | some c=>match o with
  | some (.own _ _)=>(BX c).map fun c'=>(c',s.set L c')
  | _=>some (c,s.set L .undef)
 | none=>none
theorem p8(L:A2)(xs:List D)(c:D):cR s L (some (.box xs)) (some c)=some (c,s.set L .undef):=nr rfl
theorem p9(L:A2)(xs:List D)(c:D):cR s L (some (.agg xs)) (some c)=some (c,s.set L .undef):=nr rfl
theorem pA(L:A2)(e:TypeId)(xs:List D)(c:D):cR s L (some (.own e xs)) (some c)=(BX c).map fun c'=>(c',s.set L c'):=nr rfl
theorem fm(u' c n m:Nat)(p:A2)(hw:pm.wr u'=true):GJ pm s (u'::c::p) n m=cR s (u'::c::p) (s.get (u'::c::p).dropLast) (s.look pm (u'::c::p) n m):=by
 unfold GJ
 cases s.look pm (u'::c::p) n m with
 | none=>rfl
 | some d=>simp only [List.headD_cons,hw,if_true,cR];rfl
theorem pB(r:Nat):s.get [r]=some (s.v r):=nr rfl
theorem fp(d:D):AX d []=some d:=by cases d<;>rfl
theorem fq(e:TypeId)(xs:List D)(c:Nat)(p:A2):AX (.own e xs) (c::p)=(xs[c]?).bind fun d=>AX d p:=nr rfl
theorem ft(xs:List D)(c:Nat)(p:A2):AX (.box xs) (c::p)=(xs[c]?).bind fun d=>AX d p:=nr rfl
theorem fu(xs:List D)(c:Nat)(p:A2):AX (.agg xs) (c::p)=(xs[c]?).bind fun d=>AX d p:=nr rfl
theorem fv(d x:D):CU d [] x=x:=by cases d<;>rfl
theorem fw(e:TypeId)(xs:List D)(c:Nat)(p:A2)(x:D):CU (.own e xs) (c::p) x= .own e (xs.set c (CU (xs.getD c .undef) p x)):=nr rfl
theorem fx(xs:List D)(c:Nat)(p:A2)(x:D):CU (.box xs) (c::p) x= .box (xs.set c (CU (xs.getD c .undef) p x)):=nr rfl
theorem fy(xs:List D)(c:Nat)(p:A2)(x:D):CU (.agg xs) (c::p) x= .agg (xs.set c (CU (xs.getD c .undef) p x)):=nr rfl
end
section
variable {T:Tys} {pm:Pm} {s:St} {t:TypeId}
def Ln(T:Tys)(pm:Pm)(t:TypeId)(ax:Operand):Option (D×St)→Option St
 | none=>none
 | some (d,s1)=>
  match ev T s1 t ax with
  | none=>none
  | some ad=>
   match Cr pm s1 ax ad with
   | none=>none
   | some (L,c,o)=>
    if T.known t&&pm.wr (L.headD 0)&&d.asCells.all Ai&&(T.size t==d.asCells.length)&&(T.isStruct t==d.isAgg)&&decide (c+T.size t≤o.cells.length)then
     let s2:=s1.set L (o.withCells (Al o.cells c d.asCells))
     some (if d.hasObj||AC o.cells then s2.bump (L.headD 0)else s2)
    else none
theorem aN(ax x:Operand):E1 T pm s t ax x=Ln T pm t ax (take T pm s t x):=by
 unfold E1 CF Ln
 rcases take T pm s t x with _ | ⟨d,s1⟩<;>rfl
theorem VF(ax:Operand)(q:Option (D×St)):CF T pm t ax q=Ln T pm t ax q:=by
 unfold CF Ln
 rcases q with _ | ⟨d,s1⟩<;>rfl
def aO(T:Tys)(pm:Pm)(s:St)(t:TypeId)(u:Tmp):D→Option (D×St)
 | .vw L n m=>JU pm s L n m
 | _=>take T pm s t (.tmp u)
theorem aP(u:Tmp):EM T pm s t (.tmp u)=aO T pm s t u (s.v u):=by
 unfold EM
 simp only [ev]
 cases s.v u<;>rfl
def pC(s:St)(L:A2):Option D→Option (D×St)
 | some c=>some (c,s.set L .undef)
 | none=>none
theorem pD(u:Tmp)(L:A2)(n m:Nat)(hw:pm.wr (L.headD 0)=true):aO T pm s t u (.vw L n m)=pC s L (s.look pm L n m):=by
 show JU pm s L n m=_
 unfold JU pC
 cases s.look pm L n m with
 | none=>rfl
 | some c=>simp only [hw,if_true]
theorem pE(u:Tmp)(k:IntKind)(n:Int):aO T pm s t u (.int k n)=take T pm s t (.tmp u):=nr rfl
theorem aQ(u:Tmp)(e:TypeId)(xs:List D):aO T pm s t u (.own e xs)=take T pm s t (.tmp u):=nr rfl
theorem pF(u:Tmp)(v:Value):aO T pm s t u (.konst v)=take T pm s t (.tmp u):=nr rfl
theorem pG(u:Tmp):aO T pm s t u .undef=take T pm s t (.tmp u):=nr rfl
theorem aR(v:Value):EM T pm s t (.const v)=take T pm s t (.const v):=by
 unfold EM
 split
 ·rename_i L n m he
  simp only [ev,HA]at he
  split at he<;>try (cases he;done)
  split at he<;>cases he
 ·rfl
theorem g4(u:Tmp)(e:TypeId)(xs:List D):aO T pm s t u (.sl e xs)=take T pm s t (.tmp u):=nr rfl
theorem pH(L:A2)(c:D):pC s L (some c)=some (c,s.set L .undef):=nr rfl
def UW(s1:St)(L:A2)(c:Nat)(d:D):Option D→Option St
 | none=>none
 | some o=>if c<o.cells.length then(if d.hasObj||AC o.cells then some ((s1.set L (o.withCells (o.cells.set c d))).bump (L.headD 0))else some (s1.set L (o.withCells (o.cells.set c d))))else none
def Vx(T:Tys)(pm:Pm)(t:TypeId)(u:Tmp)(d:D)(s:St):D→Option St
 | .pe L c n m=>if T.known t&& !T.isStruct t&&pm.wr (L.headD 0)&&Ai d then UW s L c d (s.look pm L n m)else Ln T pm t (.tmp u) (some (d,s))
 | .vw L n m=>if T.known t&& !T.isStruct t&&pm.wr (L.headD 0)&&Ai d then UW s L 0 d (Ga s pm L n m)else Ln T pm t (.tmp u) (some (d,s))
 | .box xs=>if T.known t&& !T.isStruct t&&pm.wr u&&Ai d then UW s [u] 0 d (some (.box xs))else Ln T pm t (.tmp u) (some (d,s))
 | _=>Ln T pm t (.tmp u) (some (d,s))
theorem Gb{d:D}(hd:Ai d=true):d.asCells=[d]∧d.isAgg=false:=by
 cases d<;>first | exact⟨rfl,rfl⟩ | (simp [Ai]at hd)
theorem E7{T:Tys}{t:TypeId}(hs:T.isStruct t=false):T.size t=1:=by
 unfold Tys.isStruct at hs
 unfold Tys.size
 cases hty:T.ty t<;>simp_all [Ty.isStruct,Ty.size]
theorem pI(u:Tmp)(d:D)(_:d.isAgg=false):Ln T pm t (.tmp u) (some (d,s))=Vx T pm t u d s (s.v u):=by
 cases hv:s.v u<;>simp only [Vx]
 case pe L c n m=>
  split
  ·rename_i hc
   simp only [Bool.and_eq_true,Bool.not_eq_true']at hc
   obtain⟨⟨⟨hk,hs⟩,hw⟩,hd⟩:=hc
   obtain⟨ha,hg⟩:=Gb hd
   have hz:=E7 hs
   simp only [Ln,ev,hv,Cr]
   cases s.look pm L n m with
   | none=>rfl
   | some o=>
    simp only [UW,hk,hw,ha,hz,hs,hg,List.all_cons,hd,List.all_nil,List.length_cons,List.length_nil,Bool.and_true,Al,beq_self_eq_true,Nat.zero_add]
    by_cases hc:c<o.cells.length
    ·have h1:c+1≤o.cells.length:=hc
     simp only [hc,h1,decide_true,Bool.and_true,if_true];split<;>first | rfl | (rename_i hq;simp only [hq];rfl)
    ·have h1: ¬c+1≤o.cells.length:=hc
     simp only [hc,h1,decide_false,Bool.and_false,Bool.false_eq_true,if_false]
  ·rfl
 case vw L n m=>
  split
  ·rename_i hc
   simp only [Bool.and_eq_true,Bool.not_eq_true']at hc
   obtain⟨⟨⟨hk,hs⟩,hw⟩,hd⟩:=hc
   obtain⟨ha,hg⟩:=Gb hd
   have hz:=E7 hs
   simp only [Ln,ev,hv,Cr,Ga]
   cases s.look pm L n m with
   | none=>rfl
   | some o=>
    cases o<;>try rfl
    rename_i xs
    simp only [UW,hk,hw,ha,hz,hs,hg,List.all_cons,hd,List.all_nil,List.length_cons,List.length_nil,Bool.and_true,Al,beq_self_eq_true,Nat.zero_add,D.cells]
    by_cases hc:0<xs.length
    ·have h1:1≤xs.length:=hc
     simp only [hc,h1,decide_true,Bool.and_true,if_true];split<;>first | rfl | (rename_i hq;simp only [hq];rfl)
    ·have h1: ¬1≤xs.length:=hc
     simp only [hc,h1,decide_false,Bool.and_false,Bool.false_eq_true,if_false]
  ·rfl
 case box xs=>
  split
  ·rename_i hc
   simp only [Bool.and_eq_true,Bool.not_eq_true']at hc
   obtain⟨⟨⟨hk,hs⟩,hw⟩,hd⟩:=hc
   obtain⟨ha,hg⟩:=Gb hd
   have hz:=E7 hs
   simp only [Ln,ev,hv,Cr]
   simp only [UW,hk,hw,ha,hz,hs,hg,List.all_cons,hd,List.all_nil,List.length_cons,List.length_nil,Bool.and_true,Al,beq_self_eq_true,Nat.zero_add,D.cells,List.headD_cons]
   by_cases hc:0<xs.length
   ·have h1:1≤xs.length:=hc
    simp only [hc,h1,decide_true,Bool.and_true,if_true];split<;>first | rfl | (rename_i hq;simp only [hq];rfl)
   ·have h1: ¬1≤xs.length:=hc
    simp only [hc,h1,decide_false,Bool.and_false,Bool.false_eq_true,if_false]
  ·rfl
theorem pJ(u:Tmp)(d:D)(L:A2)(c n m:Nat)(hk:T.known t=true)(hs:T.isStruct t=false)(hw:pm.wr (L.headD 0)=true)(hd:Ai d=true):Vx T pm t u d s (.pe L c n m)=UW s L c d (s.look pm L n m):=by
 simp [Vx,hk,hs,hd];intro h;simp_all
theorem pK(u:Tmp)(d:D)(L:A2)(n m:Nat)(hk:T.known t=true)(hs:T.isStruct t=false)(hw:pm.wr (L.headD 0)=true)(hd:Ai d=true):Vx T pm t u d s (.vw L n m)=UW s L 0 d (Ga s pm L n m):=by
 simp [Vx,hk,hs,hd];intro h;simp_all
theorem pL(u:Tmp)(d:D)(xs:List D)(hk:T.known t=true)(hs:T.isStruct t=false)(hw:pm.wr u=true)(hd:Ai d=true):Vx T pm t u d s (.box xs)=UW s [u] 0 d (some (.box xs)):=by
 simp [Vx,hk,hs,hd];intro h;simp_all
def pM:Option D→Option D
 | some (.box xs)=>some (.box xs)
 | _=>none
theorem xX(L:A2)(n m:Nat):Ga s pm L n m=pM (s.look pm L n m):=by
 unfold Ga pM
 cases s.look pm L n m with
 | none=>rfl
 | some o=>cases o<;>rfl
theorem pN(xs:List D):pM (some (.box xs))=some (.box xs):=nr rfl
theorem xY(a:Nat)(l:A2)(d:Nat):List.headD (a::l) d=a:=nr rfl
theorem pO(L:A2)(c:Nat)(d o:D):UW s L c d (some o)=if c<o.cells.length then(if d.hasObj||AC o.cells then some ((s.set L (o.withCells (o.cells.set c d))).bump (L.headD 0))else some (s.set L (o.withCells (o.cells.set c d))))else none:=nr rfl
theorem g5(e:TypeId)(xs:List D):(D.own e xs).cells=xs:=nr rfl
theorem g6(xs:List D):(D.box xs).cells=xs:=nr rfl
theorem g7(e:TypeId)(xs ys:List D):(D.own e xs).withCells ys= .own e ys:=nr rfl
theorem g8(xs ys:List D):(D.box xs).withCells ys= .box ys:=nr rfl
theorem g9(k:IntKind)(n:Int):Ai (.int k n)=true:=nr rfl
theorem aS(b:Bool):Ai (.bool b)=true:=nr rfl
theorem gA(b:ByteArray):Ai (.str b)=true:=nr rfl
theorem pP(e:TypeId)(xs:List D):Ai (.sl e xs)=true:=nr rfl
theorem gB(e:TypeId)(xs:List D):Ai (.own e xs)=true:=nr rfl
theorem gC(xs:List D):Ai (.box xs)=true:=nr rfl
theorem gD(f:FuncId)(xs:List D):Ai (.clo f xs)=true:=nr rfl
theorem aT(xs:List D):Ai (.cptr xs)=true:=nr rfl
theorem xZ(L:A2)(c:Nat)(o:D):GZ s L c (some o)=(o.cells[c]?).bind fun x=>Aj (Bq s L c x):=nr rfl
theorem gE(L:A2)(c:Nat)(k:IntKind)(n:Int):Aj (Bq s L c (.int k n))=some (.int k n):=nr rfl
theorem aU(L:A2)(c:Nat)(b:Bool):Aj (Bq s L c (.bool b))=some (.bool b):=nr rfl
theorem gF(L:A2)(c:Nat)(b:ByteArray):Aj (Bq s L c (.str b))=some (.str b):=nr rfl
theorem pQ(L:A2)(c:Nat)(e:TypeId)(xs:List D):Aj (Bq s L c (.sl e xs))=some (.sl e xs):=nr rfl
theorem gG(L:A2)(c:Nat)(f:FuncId)(xs:List D):Aj (Bq s L c (.clo f xs))=some (.clo f xs):=nr rfl
theorem pR(L:A2)(c:Nat)(M:A2)(n m:Nat):Aj (Bq s L c (.vw M n m))=some (.vw M n m):=nr rfl
theorem gH(L:A2)(c:Nat)(e:TypeId)(xs:List D):Aj (Bq s L c (.own e xs))=some (Oz s (L++[c])):=nr rfl
theorem pS(r:Nat)(p:A2):Oz s (r::p)= .vw (r::p) (s.k r) (s.m r):=nr rfl
def gI(T:Tys)(pm:Pm)(e:TypeId)(ty:TypeId)(y:Operand):Option (D×St)→Option (D×St)
 | some (.own e1 xs,s1)=>
   match ev T s1 ty y with
   | some d=>
    match Ak pm s1 y d with
    | some (e2,ys,_)=>
     if e1=e∧e2=e∧T.elem e=true∧ys.all Ai=true∧xs.length+ys.length<1099511627776 then
      if AC ys then
       match d,y with
       | .own _ _, .tmp u=>some (.own e (xs++ys),s1.clr u)
       | _,_=>none
      else some (.own e (xs++ys),s1)
     else none
    | none=>none
   | none=>none
 | _=>none
def gJ(T:Tys)(e:TypeId):Option (D×St)→Option (D×St)
 | some (.own e1 xs,s1)=>if e1=e∧T.known e=true then some (.own e xs,s1)else none
 | _=>none
def pT(T:Tys)(pm:Pm)(s:St)(ty:TypeId)(x:Operand):Ty→Option (D×St)
 | .slice e=>gJ T e (take T pm s ty x)
 | _=>none
theorem gK(ty:TypeId)(x:Operand):Eo T pm s ty x=pT T pm s ty x (T.ty ty):=by
 unfold Eo pT
 cases T.ty ty with
 | slice e=>
  simp only [gJ]
  rcases take T pm s ty x with _ | ⟨d,s1⟩
  ·rfl
  ·cases d<;>rfl
 | _=>rfl
theorem JK{T:Tys}{e:TypeId}(hk:T.known e=true)(h4:T.size e≤4):T.elem e=true:=by simp [Tys.elem,hk,h4]
theorem pU(ty:TypeId)(x:Operand)(e:TypeId):pT T pm s ty x (.slice e)=gJ T e (take T pm s ty x):=nr rfl
theorem pV(e:TypeId)(xs:List D)(hk:T.known e=true):gJ T e (some (.own e xs,s))=some (.own e xs,s):=by simp [gJ,hk]
def pW(T:Tys)(pm:Pm)(s:St)(ty:TypeId)(x y:Operand):Ty→Option (D×St)
 | .slice e=>gI T pm e ty y (EM T pm s ty x)
 | _=>none
theorem pX(ty:TypeId)(x y:Operand):CV T pm s ty x y=pW T pm s ty x y (T.ty ty):=by
 unfold CV pW
 cases T.ty ty with
 | slice e=>
  simp only [gI]
  rcases EM T pm s ty x with _ | ⟨d,s1⟩
  ·rfl
  ·cases d<;>rfl
 | _=>rfl
theorem pY(ty:TypeId)(x y:Operand)(e:TypeId):pW T pm s ty x y (.slice e)=gI T pm e ty y (EM T pm s ty x):=nr rfl
def cT(T:Tys)(e e1:TypeId)(xs:List D)(s:St)(u:Tmp)(d:D):Option (TypeId×List D×Option (A2×Nat×Nat))→Option (D×St)
 | some (e2,ys,_)=>
     if e1=e∧e2=e∧T.elem e=true∧ys.all Ai=true∧xs.length+ys.length<1099511627776 then
      if AC ys then
       match d with
       | .own _ _=>some (.own e (xs++ys),s.clr u)
       | _=>none
      else some (.own e (xs++ys),s)
     else none
 | none=>none
theorem pZ(ty e e1:TypeId)(u:Tmp)(xs:List D):gI T pm e ty (.tmp u) (some (.own e1 xs,s))=cT T e e1 xs s u (s.v u) (Ak pm s (.tmp u) (s.v u)):=by
 simp only [gI,ev,cT]
 rcases Ak pm s (.tmp u) (s.v u)with _ | ⟨e2,ys,o⟩
 ·rfl
 ·simp only
  split
  ·split
   ·cases s.v u<;>rfl
   ·rfl
  ·rfl
theorem pa(e:TypeId)(u:Tmp)(xs ys:List D)(d:D)(o:Option (A2×Nat×Nat))(hk:T.known e=true)(h4:T.size e≤4)(hy:ys.all Ai=true)(hno:AC ys=false)(hl:xs.length+ys.length<1099511627776):
  cT T e e xs s u d (some (e,ys,o))=some (.own e (xs++ys),s):=by
 simp only [cT]
 rw [if_pos ⟨trivial,trivial,JK hk h4,hy,hl⟩,hno];simp
theorem pb(e e':TypeId)(u:Tmp)(xs ys zs:List D)(o:Option (A2×Nat×Nat))(hk:T.known e=true)(h4:T.size e≤4)(hy:ys.all Ai=true)(hno:AC ys=true)(hl:xs.length+ys.length<1099511627776):
  cT T e e xs s u (.own e' zs) (some (e,ys,o))=some (.own e (xs++ys),s.clr u):=by
 simp only [cT]
 rw [if_pos ⟨trivial,trivial,JK hk h4,hy,hl⟩,hno];simp
end
section
variable {E:Env} {pm:Pm} {s:St} {dst:Option Tmp}
def OE(a:D)(l:List (A2×D)):Option (List D×List (A2×D))→Option (List D×List (A2×D))
 | some (as,ls)=>some (a::as,l++ls)
 | none=>none
theorem aV(a:D)(l:List (A2×D))(as:List D)(ls:List (A2×D)):OE a l (some (as,ls))=some (a::as,l++ls):=nr rfl
def Iq(E:Env)(lend:Bool)(pm:Pm)(s:St)(j:Nat)(rest:List (Operand×TypeId)):Option (D×List (A2×D))→Option (List D×List (A2×D))
 | some (a,l)=>OE a l (BW E lend pm s (j+l.length) rest)
 | none=>none
theorem aW(lend:Bool)(j:Nat)(rest:List (Operand×TypeId))(a:D)(l:List (A2×D)):Iq E lend pm s j rest (some (a,l))=OE a l (BW E lend pm s (j+l.length) rest):=nr rfl
theorem gL(lend:Bool)(j:Nat):BW E lend pm s j []=some ([],[]):=nr rfl
theorem gM(lend:Bool)(j:Nat)(u:Tmp)(t:TypeId)(rest:List (Operand×TypeId)):BW E lend pm s j ((.tmp u,t)::rest)=Iq E lend pm s j rest (EO E.T lend pm s j [u] (s.v u)):=by
 simp only [BW,ev]
 rcases EO E.T lend pm s j [u] (s.v u)with _ | ⟨a,l⟩
 ·rfl
 ·simp only [Iq];rcases BW E lend pm s (j+l.length) rest with _ | ⟨as,ls⟩<;>rfl
def aC(E:Env)(lend:Bool)(pm:Pm)(s:St)(j:Nat)(rest:List (Operand×TypeId)):Option D→Option (List D×List (A2×D))
 | some d=>Iq E lend pm s j rest (EO E.T lend pm s j [] d)
 | none=>none
theorem xa(lend:Bool)(j:Nat)(rest:List (Operand×TypeId))(d:D):aC E lend pm s j rest (some d)=Iq E lend pm s j rest (EO E.T lend pm s j [] d):=nr rfl
theorem xb(lend:Bool)(j:Nat)(v:Value)(t:TypeId)(rest:List (Operand×TypeId)):BW E lend pm s j ((.const v,t)::rest)=aC E lend pm s j rest (ev E.T s t (.const v)):=by
 simp only [BW]
 cases ev E.T s t (.const v)with
 | none=>rfl
 | some d=>
  simp only [aC]
  rcases EO E.T lend pm s j [] d with _ | ⟨a,l⟩
  ·rfl
  ·simp only [Iq];rcases BW E lend pm s (j+l.length) rest with _ | ⟨as,ls⟩<;>rfl
theorem xc(lend:Bool)(j:Nat)(f:FuncId)(t:TypeId)(rest:List (Operand×TypeId)):BW E lend pm s j ((.func f,t)::rest)=Iq E lend pm s j rest (EO E.T lend pm s j [] (.clo f [])):=by
 simp only [BW,ev]
 rcases EO E.T lend pm s j [] (.clo f [])with _ | ⟨a,l⟩
 ·rfl
 ·simp only [Iq];rcases BW E lend pm s (j+l.length) rest with _ | ⟨as,ls⟩<;>rfl
variable (lend:Bool) (j:Nat) (L:A2)
theorem gN(T:Tys)(k:IntKind)(n:Int):EO T lend pm s j L (.int k n)=B4 lend pm s j L (.int k n):=nr rfl
theorem aX(T:Tys)(b:Bool):EO T lend pm s j L (.bool b)=B4 lend pm s j L (.bool b):=nr rfl
theorem gO(T:Tys)(b:ByteArray):EO T lend pm s j L (.str b)=B4 lend pm s j L (.str b):=nr rfl
theorem pc(T:Tys)(e:TypeId)(xs:List D):EO T lend pm s j L (.sl e xs)=B4 lend pm s j L (.sl e xs):=nr rfl
theorem gP(T:Tys)(f:FuncId)(xs:List D):EO T lend pm s j L (.clo f xs)=B4 lend pm s j L (.clo f xs):=nr rfl
theorem aY(T:Tys)(xs:List D):EO T lend pm s j L (.cptr xs)=B4 lend pm s j L (.cptr xs):=nr rfl
theorem xd(T:Tys)(v:Value):EO T lend pm s j L (.konst v)=B4 lend pm s j L (.konst v):=nr rfl
theorem gQ(T:Tys)(e:TypeId)(xs:List D):EO T lend pm s j L (.own e xs)=B4 lend pm s j L (.own e xs):=nr rfl
theorem gR(T:Tys)(xs:List D):EO T lend pm s j L (.box xs)=B4 lend pm s j L (.box xs):=nr rfl
theorem pd(T:Tys)(M:A2)(n m:Nat):EO T lend pm s j L (.vw M n m)=B4 lend pm s j L (.vw M n m):=nr rfl
theorem gS(T:Tys)(xs:List D):EO T lend pm s j L (.agg xs)=B4 lend pm s j L (.agg xs):=nr rfl
theorem gT(k:IntKind)(n:Int):B4 lend pm s j L (.int k n)=some (.int k n,[]):=nr rfl
theorem aZ(b:Bool):B4 lend pm s j L (.bool b)=some (.bool b,[]):=nr rfl
theorem gU(b:ByteArray):B4 lend pm s j L (.str b)=some (.str b,[]):=nr rfl
theorem pf(e:TypeId)(xs:List D):B4 lend pm s j L (.sl e xs)=some (.sl e xs,[]):=nr rfl
theorem gV(f:FuncId)(xs:List D):B4 lend pm s j L (.clo f xs)=some (.clo f xs,[]):=nr rfl
theorem aa(xs:List D):B4 lend pm s j L (.cptr xs)=some (.cptr xs,[]):=nr rfl
theorem xe(v:Value):B4 lend pm s j L (.konst v)=some (.konst v,[]):=nr rfl
def gW(l:List (A2×D)):Option D→Option (D×List (A2×D))
 | some c=>some (c,l)
 | none=>none
theorem pg(l:List (A2×D))(c:D):gW l (some c)=some (c,l):=nr rfl
theorem gX(e:TypeId)(xs:List D):B4 false pm s j L (.own e xs)=gW [(L, .own e xs)] (BX (.own e xs)):=by
 show((BX (.own e xs)).map fun c'=>(c',[(L,D.own e xs)]))=_
 cases BX (.own e xs)<;>rfl
theorem gY(xs:List D):B4 false pm s j L (.box xs)=gW [(L, .box xs)] (BX (.box xs)):=by
 show((BX (.box xs)).map fun c'=>(c',[(L,D.box xs)]))=_
 cases BX (.box xs)<;>rfl
def ph(L:A2):Option D→Option (D×List (A2×D))
 | some c=>gW [(L,c)] (BX c)
 | none=>none
theorem pi(c:D):ph L (some c)=gW [(L,c)] (BX c):=nr rfl
theorem pj(M:A2)(n m:Nat):B4 false pm s j L (.vw M n m)=ph M (s.look pm M n m):=by
 simp only [B4,Ck]
 cases s.look pm M n m with
 | none=>rfl
 | some c=>simp only [ph];cases BX c<;>rfl
theorem ab(e:TypeId)(xs:List D):B4 true pm s j L (.own e xs)=some (.vw [G+j] 0 0,[(L, .own e xs)]):=nr rfl
theorem ac(xs:List D):B4 true pm s j L (.box xs)=some (.vw [G+j] 0 0,[(L, .box xs)]):=nr rfl
def vF(j:Nat)(L:A2):Option D→Option (D×List (A2×D))
 | some c=>some (.vw [G+j] 0 0,[(L,c)])
 | none=>none
theorem pl(c:D):vF j L (some c)=some (.vw [G+j] 0 0,[(L,c)]):=nr rfl
theorem gZ(M:A2)(n m:Nat):B4 true pm s j L (.vw M n m)=vF j M (s.look pm M n m):=by
 simp only [B4,Ck]
 cases s.look pm M n m<;>rfl
def vG:Option (List D×List (A2×D))→Option (D×List (A2×D))
 | some r=>some (.agg r.1,r.2)
 | none=>none
theorem pn(r:List D×List (A2×D)):vG (some r)=some (.agg r.1,r.2):=nr rfl
theorem ga(xs:List D):B4 lend pm s j L (.agg xs)=vG (Br lend pm s L j 0 xs):=by
 simp only [B4]
 cases Br lend pm s L j 0 xs<;>rfl
def TC(lend:Bool)(pm:Pm)(s:St)(L0:A2)(j i:Nat)(ds:List D):Option (D×List (A2×D))→Option (List D×List (A2×D))
 | some (a,l)=>OE a l (Br lend pm s L0 (j+l.length) (i+1) ds)
 | none=>none
theorem ae(i:Nat)(ds:List D)(a:D)(l:List (A2×D)):TC lend pm s L j i ds (some (a,l))=OE a l (Br lend pm s L (j+l.length) (i+1) ds):=nr rfl
theorem gc(i:Nat):Br lend pm s L j i []=some ([],[]):=nr rfl
theorem af(i:Nat)(d:D)(ds:List D)(h:d.isAgg=false):Br lend pm s L j i (d::ds)=TC lend pm s L j i ds (B4 lend pm s j (L++[i]) d):=by
 have:B4 lend pm s j (L++[i]) d=Ck lend pm s j (L++[i]) d:=by cases d<;>first | rfl | (simp [D.isAgg]at h)
 rw [this]
 simp only [Br]
 rcases Ck lend pm s j (L++[i]) d with _ | ⟨a,l⟩
 ·rfl
 ·simp only [TC];rcases Br lend pm s L (j+l.length) (i+1) ds with _ | ⟨as,ls⟩<;>rfl
theorem gd(k:IntKind)(n:Int):(D.int k n).isAgg=false:=nr rfl
theorem ah(b:Bool):(D.bool b).isAgg=false:=nr rfl
theorem ge(b:ByteArray):(D.str b).isAgg=false:=nr rfl
theorem po(e:TypeId)(xs:List D):(D.sl e xs).isAgg=false:=nr rfl
theorem gg(e:TypeId)(xs:List D):(D.own e xs).isAgg=false:=nr rfl
theorem pp(M:A2)(n m:Nat):(D.vw M n m).isAgg=false:=nr rfl
theorem gk(f:FuncId)(xs:List D):(D.clo f xs).isAgg=false:=nr rfl
theorem gl(xs:List D):(D.box xs).isAgg=false:=nr rfl
theorem ai(xs:List D):(D.cptr xs).isAgg=false:=nr rfl
theorem gm(xs:List D):(D.agg xs).isAgg=true:=nr rfl
def n6(E:Env)(pm:Pm)(s:St)(dst:Option Tmp)(f:FuncId)(caps:List D):Option (List D×List (A2×D))→Option St
 | none=>none
 | some (as,ls)=>
  match E.call f (as++caps) []with
  | some (r,_)=>
   if BA r then
    if Bu (ls.map (·.1))&&ls.all (fun l=>pm.wr (l.1.headD 0))then(Df ls).map fun ls'=>(back false s ls').putO dst r else none
   else some (s.putO dst r)
  | none=>none
theorem xf(f:FuncId)(xs:List (Operand×TypeId))(caps:List D)(h:E.lends f=false):Dl E pm s dst f xs caps=n6 E pm s dst f caps (BW E false pm s 0 xs):=by
 unfold Dl n6
 rw [h]
 simp only [Bool.false_eq_true,if_false]
 rcases BW E false pm s 0 xs with _ | ⟨as,ls⟩<;>rfl
def aj(pm:Pm)(s:St)(dst:Option Tmp)(ls:List (A2×D)):Option (D×List D)→Option St
 | some (r,_)=>
   if BA r then
    if Bu (ls.map (·.1))&&ls.all (fun l=>pm.wr (l.1.headD 0))then(Df ls).map fun ls'=>(back false s ls').putO dst r else none
   else some (s.putO dst r)
 | none=>none
theorem pq(f:FuncId)(caps as:List D)(ls:List (A2×D)):n6 E pm s dst f caps (some (as,ls))=aj pm s dst ls (E.call f (as++caps) []):=by
 simp only [n6]
 rcases E.call f (as++caps) []with _ | ⟨r,o⟩<;>rfl
theorem pr(ls:List (A2×D))(r:D)(o:List D)(h:BA r=false):aj pm s dst ls (some (r,o))=some (s.putO dst r):=by simp [aj,h]
theorem pt(r:D)(o:List D):aj pm s dst [] (some (r,o))=some (s.putO dst r):=by
 simp only [aj];split<;>rfl
def n7(E:Env)(pm:Pm)(s:St)(dst:Option Tmp)(f:FuncId)(caps:List D):Option (List D×List (A2×D))→Option St
 | none=>none
 | some (as,ls)=>
   if Bu (ls.map (·.1))&&ls.all (fun l=>pm.wr (l.1.headD 0))&&ls.all (fun l=>M3 l.2)then
    match E.call f (as++caps) (ls.map (·.2))with
    | some (r,outs)=>if outs.length=ls.length then some ((EP s (ls.map (·.1)) outs).putO dst r)else none
    | none=>none
   else none
theorem xg(f:FuncId)(xs:List (Operand×TypeId))(caps:List D)(h:E.lends f=true):Dl E pm s dst f xs caps=n7 E pm s dst f caps (BW E true pm s 0 xs):=by
 unfold Dl n7
 rw [h]
 simp only [if_true]
 rcases BW E true pm s 0 xs with _ | ⟨as,ls⟩<;>rfl
def cU(s:St)(dst:Option Tmp)(ls:List (A2×D)):Option (D×List D)→Option St
 | some (r,outs)=>if outs.length=ls.length then some ((EP s (ls.map (·.1)) outs).putO dst r)else none
 | none=>none
theorem pu(f:FuncId)(caps as:List D)(ls:List (A2×D))(h:(Bu (ls.map (·.1))&&ls.all (fun l=>pm.wr (l.1.headD 0))&&ls.all (fun l=>M3 l.2))=true):n7 E pm s dst f caps (some (as,ls))=cU s dst ls (E.call f (as++caps) (ls.map (·.2))):=by
 simp only [n7,h,if_true]
 rcases E.call f (as++caps) (ls.map (·.2))with _ | ⟨r,o⟩<;>rfl
theorem pv(ls:List (A2×D))(r:D)(outs:List D)(h:outs.length=ls.length):cU s dst ls (some (r,outs))=some ((EP s (ls.map (·.1)) outs).putO dst r):=by simp [cU,h]
end
theorem gn(k:IntKind)(n:Int):BA (.int k n)=false:=by simp [BA]
theorem ak(b:Bool):BA (.bool b)=false:=by simp [BA]
theorem go(b:ByteArray):BA (.str b)=false:=by simp [BA]
theorem Vy(e:TypeId)(xs:List D):BA (.own e xs)=BB xs:=by simp [BA]
theorem gp(xs:List D):BA (.box xs)=BB xs:=by simp [BA]
theorem gq(xs:List D):BA (.agg xs)=BB xs:=by simp [BA]
theorem gr(xs:List D):BA (.tup xs)=BB xs:=by simp [BA]
theorem al:BB []=false:=by simp [BB]
theorem Qp(d:D)(ds:List D):BB (d::ds)=(BA d||BB ds):=by simp [BB]
theorem gt(k:IntKind)(n:Int):BX (.int k n)=some (.int k n):=by simp [BX]
theorem am(b:Bool):BX (.bool b)=some (.bool b):=by simp [BX]
theorem gu(b:ByteArray):BX (.str b)=some (.str b):=by simp [BX]
theorem gv(e:TypeId)(xs:List D):BX (.sl e xs)=some (.sl e xs):=by simp [BX]
theorem gw(f:FuncId)(xs:List D):BX (.clo f xs)=some (.clo f xs):=by simp [BX]
theorem an(xs:List D):BX (.cptr xs)=some (.cptr xs):=by simp [BX]
def gx(f:List D→D):Option (List D)→Option D
 | some xs=>some (f xs)
 | none=>none
theorem gy(f:List D→D)(xs:List D):gx f (some xs)=some (f xs):=nr rfl
theorem TD(e:TypeId)(xs:List D):BX (.own e xs)=gx (.sl e) (B5 xs):=by simp only [BX];cases B5 xs<;>rfl
theorem gz(xs:List D):BX (.box xs)=gx .cptr (B5 xs):=by simp only [BX];cases B5 xs<;>rfl
theorem hJ(xs:List D):BX (.agg xs)=gx .agg (B5 xs):=by simp only [BX];cases B5 xs<;>rfl
theorem hP(xs:List D):BX (.tup xs)=gx .tup (B5 xs):=by simp only [BX];cases B5 xs<;>rfl
theorem ao:B5 []=some []:=by simp [B5]
def vH:Option D→Option (List D)→Option (List D)
 | some d,some ds=>some (d::ds)
 | _,_=>none
theorem pw(d:D)(ds:List D):vH (some d) (some ds)=some (d::ds):=nr rfl
theorem JL(d:D)(ds:List D):B5 (d::ds)=vH (BX d) (B5 ds):=by
 simp only [B5];cases BX d<;>cases B5 ds<;>rfl
theorem px(d:D):M3 d=(BX d).isSome:=nr rfl
section
variable {T:Tys} {s:St}
def S9(n:Nat):Option (D×St)→Option (D×List D)
 | none=>none
 | some (r,s')=>if M3 r&&((List.range n).map fun j=>s'.v (G+j)).all M4 then some (r,(List.range n).map fun j=>s'.v (G+j))else none
theorem xh(n:Nat)(rs:List ResultVar):Kv T n rs s=S9 n (FB T s rs):=by
 unfold Kv S9
 rcases FB T s rs with _ | ⟨r,s'⟩<;>rfl
theorem xi(r:D):S9 0 (some (r,s))=if M3 r then some (r,[])else none:=by simp [S9]
theorem xj(r:D):S9 1 (some (r,s))=if M3 r&&M4 (s.v 100000)then some (r,[s.v 100000])else none:=by
 simp [S9,G,List.range_succ]
theorem xk(r:D):S9 2 (some (r,s))=if M3 r&&(M4 (s.v 100000)&&M4 (s.v 100001))then some (r,[s.v 100000,s.v 100001])else none:=by
 simp [S9,G,List.range_succ,and_assoc]
theorem xl(r:D):S9 3 (some (r,s))=if M3 r&&(M4 (s.v 100000)&&(M4 (s.v 100001)&&M4 (s.v 100002)))then some (r,[s.v 100000,s.v 100001,s.v 100002])else none:=by
 simp [S9,G,List.range_succ,and_assoc]
theorem xm(r:D):S9 4 (some (r,s))=if M3 r&&(M4 (s.v 100000)&&(M4 (s.v 100001)&&(M4 (s.v 100002)&&M4 (s.v 100003))))then some (r,[s.v 100000,s.v 100001,s.v 100002,s.v 100003])else none:=by
 simp [S9,G,List.range_succ,and_assoc]
theorem ap(e:TypeId)(xs:List D):M4 (.own e xs)=(BX (.own e xs)).isSome:=nr rfl
theorem aq(xs:List D):M4 (.box xs)=(BX (.box xs)).isSome:=nr rfl
theorem py:M4 .undef=true:=nr rfl
theorem hU(e:TypeId)(xs:List D):M4 (.sl e xs)=true:=by simp [M4,BX]
theorem xn(r:ResultVar):FB T s [r]=Jc T s r:=nr rfl
def vI:Option (List D×St)→Option (D×St)
 | some q=>some (.tup q.1,q.2)
 | none=>none
theorem pz(q:List D×St):vI (some q)=some (.tup q.1,q.2):=nr rfl
theorem xo(r r':ResultVar)(rs:List ResultVar):FB T s (r::r'::rs)=vI (FZ T s (r::r'::rs)):=by
 show((FZ T s (r::r'::rs)).map fun q=>(D.tup q.1,q.2))=_
 cases FZ T s (r::r'::rs)<;>rfl
theorem xp:FB T s []=some (.tup [],s):=nr rfl
theorem hX(t:Tmp):Jc T s (.tmp t)=Kq Pm.all s t (s.v t):=nr rfl
theorem hZ:FZ T s []=some ([],s):=nr rfl
def vJ(T:Tys)(rs:List ResultVar):Option (D×St)→Option (List D×St)
 | some (d,s)=>(FZ T s rs).map fun p=>(d::p.1,p.2)
 | none=>none
theorem qA(rs:List ResultVar)(d:D):vJ T rs (some (d,s))=(FZ T s rs).map fun p=>(d::p.1,p.2):=nr rfl
theorem ar(r:ResultVar)(rs:List ResultVar):FZ T s (r::rs)=vJ T rs (Jc T s r):=by
 simp only [FZ]
 rcases Jc T s r with _ | ⟨d,s'⟩<;>rfl
theorem qB(r:Nat):Pm.all.rd r=true:=nr rfl
theorem qC(r:Nat):Pm.all.wr r=true:=nr rfl
def Kp(s:St)(dst:Option Tmp)(u:Tmp)(i:Nat):Option D→Option St
 | none=>none
 | some (.agg ys)=>Dh s dst (Aj (.agg ((List.range ys.length).map fun j=>Bq s [u,i] j (ys.getD j .undef))))
 | some c=>Dh s dst (Aj (Bq s [u] i c))
theorem i1(dst:Option Tmp)(u:Tmp)(xs:List D)(i:Nat):DV s dst (.tmp u) (.tup xs) i=Kp s dst u i xs[i]? :=by
 simp only [DV]
 rcases xs[i]? with _ | c
 ·rfl
 ·cases c<;>first | exact DM s dst _ | rfl
theorem i3(dst:Option Tmp)(u:Tmp)(i:Nat)(ys:List D):Kp s dst u i (some (.agg ys))=Dh s dst (Aj (.agg ((List.range ys.length).map fun j=>Bq s [u,i] j (ys.getD j .undef)))):=nr rfl
theorem i4(dst:Option Tmp)(u:Tmp)(i:Nat)(k:IntKind)(n:Int):Kp s dst u i (some (.int k n))=some (s.putO dst (.int k n)):=by simp [Kp,Aj,Bq,D.hasObj,Dh]
theorem au(dst:Option Tmp)(u:Tmp)(i:Nat)(b:Bool):Kp s dst u i (some (.bool b))=some (s.putO dst (.bool b)):=by simp [Kp,Aj,Bq,D.hasObj,Dh]
theorem i5(dst:Option Tmp)(u:Tmp)(i:Nat)(b:ByteArray):Kp s dst u i (some (.str b))=some (s.putO dst (.str b)):=by simp [Kp,Aj,Bq,D.hasObj,Dh]
theorem qD(dst:Option Tmp)(u:Tmp)(i:Nat)(e:TypeId)(xs:List D):Kp s dst u i (some (.sl e xs))=some (s.putO dst (.sl e xs)):=by simp [Kp,Aj,Bq,D.hasObj,Dh]
theorem i6(dst:Option Tmp)(u:Tmp)(i:Nat)(e:TypeId)(xs:List D):Kp s dst u i (some (.own e xs))=some (s.putO dst (.vw [u,i] (s.k u) (s.m u))):=by simp [Kp,Aj,Bq,D.hasObj,Dh,Oz]
theorem i7(dst:Option Tmp)(u:Tmp)(i:Nat)(f:FuncId)(xs:List D):Kp s dst u i (some (.clo f xs))=some (s.putO dst (.clo f xs)):=by simp [Kp,Aj,Bq,D.hasObj,Dh]
theorem i8(xs:List D)(c:Nat)(p:A2):AX (.tup xs) (c::p)=(xs[c]?).bind fun d=>AX d p:=nr rfl
theorem i9(xs:List D)(c:Nat)(p:A2)(x:D):CU (.tup xs) (c::p) x= .tup (xs.set c (CU (xs.getD c .undef) p x)):=nr rfl
theorem qE(L:A2)(xs:List D)(c:D):cR s L (some (.tup xs)) (some c)=some (c,s.set L .undef):=nr rfl
theorem iA(deep:Bool):back deep s []=s:=nr rfl
theorem xq(t:Nat)(p:A2)(c:D)(rest:List (A2×D)):back true s ((t::p,c)::rest)=back true ((s.set (t::p) c).bump t) rest:=nr rfl
theorem xr(t:Nat)(p:A2)(c:D)(rest:List (A2×D)):back false s ((t::p,c)::rest)=back false (s.set (t::p) c) rest:=nr rfl
theorem xt(deep:Bool)(c:D)(rest:List (A2×D)):back deep s (([],c)::rest)=back deep s rest:=nr rfl
theorem xu(Ls:List A2)(outs:List D):EP s Ls outs=back true (back false s (Ls.map fun L=>(L, .undef))) (Ls.zip outs):=nr rfl
theorem iB:Bu []=true:=nr rfl
theorem av(L:A2)(Ls:List A2):Bu (L::Ls)=((L.isEmpty||Ls.all fun M=>M.isEmpty||(!L.isPrefixOf M&& !M.isPrefixOf L))&&Bu Ls):=nr rfl
theorem xv(a b:Nat)(l m:A2):List.isPrefixOf (a::l) (b::m)=(a==b&&List.isPrefixOf l m):=nr rfl
theorem xw(l:A2):List.isPrefixOf [] l=true:=by cases l<;>rfl
theorem xx(a:Nat)(l:A2):List.isPrefixOf (a::l) []=false:=nr rfl
theorem xy(a:Nat)(l:A2):List.isEmpty (a::l)=false:=nr rfl
theorem xz:List.isEmpty ([]:A2)=true:=nr rfl
end
section
variable {T:Tys} {pm:Pm} {s:St}
def qF(T:Tys)(pm:Pm)(tf:Nat→TypeId)(sz:Nat)(cs:List D)(i:Nat)(rest:List (Nat×Operand)):Option (D×St)→Option (List D×St)
 | none=>none
 | some (d,s1)=>if d.asCells.length=sz∧i*sz+sz≤cs.length then CW T pm tf sz s1 (Al cs (i*sz) d.asCells) rest else none
theorem iC(tf:Nat→TypeId)(sz:Nat)(cs:List D):CW T pm tf sz s cs []=some (cs,s):=nr rfl
theorem aw(tf:Nat→TypeId)(sz:Nat)(cs:List D)(i:Nat)(x:Operand)(rest:List (Nat×Operand)):CW T pm tf sz s cs ((i,x)::rest)=qF T pm tf sz cs i rest (take T pm s (tf i) x):=by
 simp only [CW]
 rcases take T pm s (tf i) x with _ | ⟨d,s1⟩<;>rfl
theorem qG(tf:Nat→TypeId)(cs:List D)(i:Nat)(rest:List (Nat×Operand))(d:D)(h:d.isAgg=false):qF T pm tf 1 cs i rest (some (d,s))=if i+1≤cs.length then CW T pm tf 1 s (cs.set i d) rest else none:=by
 have ha:d.asCells=[d]:=by cases d<;>first | rfl | (simp [D.isAgg]at h)
 simp only [qF,ha,List.length_cons,List.length_nil,Nat.zero_add,Nat.mul_one,true_and,Al]
end
section
variable (pm:Pm) (s:St) (u:Tmp)
def Hu(pm:Pm)(u:Tmp)(d:D):Bool:= !d.hasObj||d.isObj||pm.wr u
theorem y1:CJ pm s (.move (.tmp u))=Hu pm u (s.v u):=nr rfl
theorem qH(v:Value):CJ pm s (.move (.const v))=true:=nr rfl
theorem qI(f:FuncId):CJ pm s (.move (.func f))=true:=nr rfl
theorem ay(k:IntKind)(n:Int):Hu pm u (.int k n)=true:=by simp [Hu,D.hasObj]
theorem VH(b:Bool):Hu pm u (.bool b)=true:=by simp [Hu,D.hasObj]
theorem az(b:ByteArray):Hu pm u (.str b)=true:=by simp [Hu,D.hasObj]
theorem iD(e:TypeId)(xs:List D):Hu pm u (.sl e xs)=true:=by simp [Hu,D.hasObj]
theorem b0(e:TypeId)(xs:List D):Hu pm u (.own e xs)=true:=by simp [Hu,D.isObj]
theorem b3(xs:List D):Hu pm u (.box xs)=true:=by simp [Hu,D.isObj]
theorem iE(L:A2)(n m:Nat):Hu pm u (.vw L n m)=true:=by simp [Hu,D.hasObj]
theorem iF(L:A2)(c n m:Nat):Hu pm u (.pe L c n m)=true:=by simp [Hu,D.hasObj]
theorem qJ(v:Value):Hu pm u (.konst v)=true:=by simp [Hu,D.hasObj]
theorem b4(f:FuncId)(xs:List D):Hu pm u (.clo f xs)=true:=by simp [Hu,D.hasObj]
theorem VI(xs:List D):Hu pm u (.cptr xs)=true:=by simp [Hu,D.hasObj]
theorem b5(xs:List D):Hu pm u (.agg xs)=(!AC xs||pm.wr u):=by simp [Hu,D.hasObj,D.isObj]
theorem b6(xs:List D):Hu pm u (.tup xs)=(!AC xs||pm.wr u):=by simp [Hu,D.hasObj,D.isObj]
theorem TE(x:Operand):CJ pm s (.assign x)=true:=nr rfl
theorem b7(a b c:Operand):CJ pm s (.pick a b c)=true:=nr rfl
theorem VJ(t:TypeId):CJ pm s (.alloc t)=true:=nr rfl
theorem iG(t:TypeId)(x:Operand):CJ pm s (.box t x)=true:=nr rfl
theorem VK(t:TypeId)(p:Array (Nat×Operand)):CJ pm s (.build t p)=true:=nr rfl
theorem qK(t:TypeId)(n:Nat)(p:Array (Nat×Operand)):CJ pm s (.buildSlice t n p)=true:=nr rfl
theorem b8(t:TypeId)(x:Operand):CJ pm s (.load t x)=true:=nr rfl
theorem VL(t:TypeId)(x y:Operand):CJ pm s (.store t x y)=true:=nr rfl
theorem iH(o:BinOp)(t:TypeId)(x y:Operand)(t':TypeId):CJ pm s (.binOp o t x y t')=true:=nr rfl
theorem qL(o:UnOp)(t:TypeId)(x:Operand):CJ pm s (.unOp o t x)=true:=nr rfl
theorem b9(t t':TypeId)(x:Operand):CJ pm s (.convert t t' x)=true:=nr rfl
theorem qM(f:Fn)(a b:Array Operand):CJ pm s (.makeFunc f a b)=true:=nr rfl
theorem qN(t:TypeId)(a b:Operand):CJ pm s (.makeSlice t a b)=true:=nr rfl
theorem qO(t:TypeId)(x:Operand)(a b c:Option Operand):CJ pm s (.slice t x a b c)=true:=nr rfl
theorem qP(x:Operand):CJ pm s (.nilCheck x)=true:=nr rfl
theorem qQ(t:TypeId)(x i:Operand)(ok:Bool):CJ pm s (.lookup t x i ok)=true:=nr rfl
theorem qR(t:TypeId)(r:Option Operand):CJ pm s (.makeMap t r)=true:=nr rfl
theorem qS(t:TypeId)(x i v:Operand):CJ pm s (.mapUpdate t x i v)=true:=nr rfl
theorem qT(t:TypeId)(x:Operand)(i:Nat):CJ pm s (.fieldAddr t x i)=true:=nr rfl
theorem qU(t:TypeId)(x i:Operand):CJ pm s (.indexAddr t x i)=true:=nr rfl
theorem qV(x:Operand)(i:Nat):CJ pm s (.extract x i)=true:=nr rfl
theorem bA(c:Call):CJ pm s (.call c)=true:=nr rfl
theorem y2(n r w:List Nat)(x:Nat):(PmL.pm ⟨n,r,w⟩).rd x=(n.contains x|| !r.contains x):=nr rfl
theorem y3(n r w:List Nat)(x:Nat):(PmL.pm ⟨n,r,w⟩).wr x=w.contains x:=nr rfl
section
variable {E:Env} {dst:Option Tmp} {t ty:TypeId}
theorem qW(t:TypeId):ES E pm s dst (.makeMap t none) ty=Dh s dst (Eh E.T t):=DM s dst _
theorem y4(v:Tmp)(ok:Bool):ES E pm s dst (.lookup t (.tmp u) (.tmp v) ok) ty=Dh s dst (DG E.T pm s t (.tmp u) (s.v u) (s.v v) ok):=DM s dst _
theorem y5(v x:Tmp):ES E pm s none (.mapUpdate t (.tmp u) (.tmp v) (.tmp x)) ty=D9 E.T pm s t (.tmp u) (s.v u) (s.v v) (s.v x):=nr rfl
def vK(T:Tys)(pm:Pm)(s:St)(t:TypeId)(u:Tmp)(d i:D):Option D→Option St
 | some v=>D9 T pm s t (.tmp u) d i v
 | none=>none
theorem qX(T:Tys)(d i v:D):vK T pm s t u d i (some v)=D9 T pm s t (.tmp u) d i v:=nr rfl
theorem qY(v:Tmp)(x:Value):ES E pm s none (.mapUpdate t (.tmp u) (.tmp v) (.const x)) ty=vK E.T pm s t u (s.v u) (s.v v) (ev E.T s (JZ E.T t) (.const x)):=by
 show(match some (s.v u),some (s.v v),ev E.T s (JZ E.T t) (.const x)with | some a,some b,some c=>D9 E.T pm s t (.tmp u) a b c | _,_,_=>none)=_
 cases ev E.T s (JZ E.T t) (.const x)<;>rfl
def vL:Ty→TypeId
 | .map _ e=>e
 | _=>0
theorem VM(T:Tys)(t:TypeId):JZ T t=vL (T.ty t):=nr rfl
theorem qZ(k e:TypeId):vL (.map k e)=e:=nr rfl
def n8:Ty→Ty→Option (List (Nat×TypeId))→Option (Bool×Nat)
 | .int .i64, .int .i64,none=>some (true,2)
 | _,_,_=>none
theorem qa:n8 (.int .i64) (.int .i64) none=some (true,2):=nr rfl
def n9(T:Tys)(t:TypeId):Ty→Option (Bool×Nat)
 | .int .i64=>some (false,1)
 | .struct [a,b]=>n8 (T.ty a) (T.ty b) (T.nest t)
 | _=>none
theorem iI(T:Tys)(t:TypeId):T.nums t=n9 T t (T.ty t):=by
 unfold Tys.nums n9
 split
 ·rename_i h;rw [h]
 ·rename_i a b h;rw [h];unfold n8;rfl
 ·rename_i h1 h2
  cases h:T.ty t with
  | int k=>cases k<;>first | rfl | exact(h1 h).elim
  | struct fs=>
   rcases fs with _ | ⟨a,_ | ⟨b,_ | ⟨c,l⟩⟩⟩
   ·rfl
   ·rfl
   ·exact(h2 a b h).elim
   ·rfl
  | _=>rfl
theorem qb(T:Tys)(t:TypeId):n9 T t (.int .i64)=some (false,1):=nr rfl
theorem qc(T:Tys)(t a b:TypeId):n9 T t (.struct [a,b])=n8 (T.ty a) (T.ty b) (T.nest t):=nr rfl
def iJ(k e:TypeId):Option (Bool×Nat)→Option (Bool×Nat)→Option D
 | some _,some _=>some (.mp k e [])
 | _,_=>none
def qd(T:Tys):Ty→Option D
 | .map k e=>iJ k e (T.nums k) (T.nums e)
 | _=>none
theorem y6(T:Tys)(t:TypeId):Eh T t=qd T (T.ty t):=by
 unfold Eh qd
 cases T.ty t with
 | map k e=>simp only [iJ];cases T.nums k<;>cases T.nums e<;>rfl
 | _=>rfl
theorem qe(T:Tys)(k e:TypeId):qd T (.map k e)=iJ k e (T.nums k) (T.nums e):=nr rfl
def cV(ea ok:Bool)(r:List Int×Bool):D:=if ok=true then .tup [HB ea r.1, .bool r.2]else HB ea r.1
def qf(ea ok:Bool)(es:List (List Int×List Int))(en:Nat):Option (List Int)→Option D
 | some key=>some (cV ea ok (FV es key en))
 | none=>none
theorem qg(ea ok:Bool)(es:List (List Int×List Int))(en:Nat)(key:List Int):qf ea ok es en (some key)=some (cV ea ok (FV es key en)):=nr rfl
def cW(es:List (List Int×List Int))(k' e' k e:TypeId)(i:D)(ok:Bool):Option (Bool×Nat)→Option (Bool×Nat)→Option D
 | some (ka,kn),some (ea,en)=>if k'=k∧e'=e then qf ea ok es en (EN ka kn i)else none
 | _,_=>none
def cX(T:Tys)(es:List (List Int×List Int))(k' e':TypeId)(i:D)(ok:Bool):Ty→Option D
 | .map k e=>cW es k' e' k e i ok (T.nums k) (T.nums e)
 | _=>none
theorem iK(T:Tys)(k' e':TypeId)(es:List (List Int×List Int))(i:D)(ok:Bool):DG T pm s t (.tmp u) (.mp k' e' es) i ok=cX T es k' e' i ok (T.ty t):=by
 unfold DG cX
 simp only [HR]
 cases T.ty t with
 | map k e=>
  simp only [cW]
  cases T.nums k<;>cases T.nums e<;>try rfl
  simp only
  split
  ·cases EN _ _ i<;>rfl
  ·rfl
 | _=>rfl
def qh(T:Tys)(i:D)(ok:Bool)(ty:Ty):Option (TypeId×TypeId×List (List Int×List Int))→Option D
 | some (k',e',es)=>cX T es k' e' i ok ty
 | none=>none
theorem qi(T:Tys)(i:D)(ok:Bool)(ty:Ty)(k' e':TypeId)(es:List (List Int×List Int)):qh T i ok ty (some (k',e',es))=cX T es k' e' i ok ty:=nr rfl
theorem bB(T:Tys)(x:Operand)(L:A2)(n m:Nat)(i:D)(ok:Bool):DG T pm s t x (.vw L n m) i ok=qh T i ok (T.ty t) (s.lookM pm L n):=by
 unfold DG qh cX
 simp only [HR]
 cases s.lookM pm L n with
 | none=>cases T.ty t<;>rfl
 | some q=>
  cases T.ty t with
  | map k e=>
   simp only [cW,Option.map_some]
   cases T.nums k<;>cases T.nums e<;>try rfl
   simp only
   split
   ·cases EN _ _ i<;>rfl
   ·rfl
  | _=>rfl
theorem qj(T:Tys)(es:List (List Int×List Int))(k' e' k e:TypeId)(i:D)(ok:Bool):cX T es k' e' i ok (.map k e)=cW es k' e' k e i ok (T.nums k) (T.nums e):=nr rfl
theorem qk(es:List (List Int×List Int))(k e:TypeId)(i:D)(ok ka ea:Bool)(kn en:Nat):cW es k e k e i ok (some (ka,kn)) (some (ea,en))=qf ea ok es en (EN ka kn i):=by simp [cW]
theorem iL(x:Int):EN false 1 (.int .i64 x)=some [x]:=nr rfl
theorem iM(x y:Int):EN true 2 (.agg [.int .i64 x, .int .i64 y])=some [x,y]:=nr rfl
def ql(s:St)(u:Tmp)(k e:TypeId)(es:List (List Int×List Int)):Option (List Int)→Option (List Int)→Option St
 | some key,some val=>some (s.set [u] (.mp k e (HC es key val)))
 | _,_=>none
theorem qm(k e:TypeId)(es:List (List Int×List Int))(key val:List Int):ql s u k e es (some key) (some val)=some (s.set [u] (.mp k e (HC es key val))):=nr rfl
def cY(pm:Pm)(s:St)(u:Tmp)(es:List (List Int×List Int))(k' e' k e:TypeId)(i v:D):Option (Bool×Nat)→Option (Bool×Nat)→Option St
 | some (ka,kn),some (ea,en)=>if k'=k∧e'=e∧pm.wr u=true then ql s u k e es (EN ka kn i) (EN ea en v)else none
 | _,_=>none
def cZ(T:Tys)(pm:Pm)(s:St)(u:Tmp)(es:List (List Int×List Int))(k' e':TypeId)(i v:D):Ty→Option St
 | .map k e=>cY pm s u es k' e' k e i v (T.nums k) (T.nums e)
 | _=>none
theorem qn(T:Tys)(k' e':TypeId)(es:List (List Int×List Int))(i v:D):D9 T pm s t (.tmp u) (.mp k' e' es) i v=cZ T pm s u es k' e' i v (T.ty t):=by
 unfold D9 cZ
 simp only [HR]
 cases T.ty t with
 | map k e=>
  simp only [cY]
  cases T.nums k<;>cases T.nums e<;>rfl
 | _=>rfl
def qo(T:Tys)(pm:Pm)(s:St)(u:Tmp)(i v:D)(ty:Ty):Option (TypeId×TypeId×List (List Int×List Int))→Option St
 | some (k',e',es)=>cZ T pm s u es k' e' i v ty
 | none=>none
theorem qp(T:Tys)(i v:D)(ty:Ty)(k' e':TypeId)(es:List (List Int×List Int)):qo T pm s u i v ty (some (k',e',es))=cZ T pm s u es k' e' i v ty:=nr rfl
theorem iN(T:Tys)(x:Operand)(n m:Nat)(i v:D):D9 T pm s t x (.vw [u] n m) i v=qo T pm s u i v (T.ty t) (s.lookM pm [u] n):=by
 unfold D9 qo cZ
 simp only [HR]
 cases s.lookM pm [u] n with
 | none=>cases T.ty t<;>rfl
 | some q=>
  cases T.ty t with
  | map k e=>
   simp only [cY,Option.map_some]
   cases T.nums k<;>cases T.nums e<;>rfl
  | _=>rfl
theorem qq(T:Tys)(es:List (List Int×List Int))(k' e' k e:TypeId)(i v:D):cZ T pm s u es k' e' i v (.map k e)=cY pm s u es k' e' k e i v (T.nums k) (T.nums e):=nr rfl
theorem qr(es:List (List Int×List Int))(k e:TypeId)(i v:D)(ka ea:Bool)(kn en:Nat)(hw:pm.wr u=true):cY pm s u es k e k e i v (some (ka,kn)) (some (ea,en))=ql s u k e es (EN ka kn i) (EN ea en v):=by simp [cY,hw]
def bC(n:Nat):Ty→Option D
 | .map _ _=>some (.int .i64 n)
 | _=>none
theorem iO(T:Tys)(k e:TypeId)(es:List (List Int×List Int)):FX T pm s t (.tmp u) (.mp k e es)=bC es.length (T.ty t):=by
 show Ks T pm s t (.tmp u) (.mp k e es)=_
 unfold Ks bC
 simp only [HR]
 cases T.ty t<;>rfl
theorem iP(n:Nat)(k e:TypeId):bC n (.map k e)=some (.int .i64 n):=nr rfl
def Bf(l:List (Int×Int))(k:Int):Int×Bool:=match l.find? (fun p=>p.1==k)with | some p=>(p.2,true) | none=>(0,false)
def KE(l:List (Int×Int))(k v:Int):List (Int×Int):=match l.findIdx? (fun p=>p.1==k)with | some i=>l.set i (k,v) | none=>l++[(k,v)]
def KF(l:List (Int×Int)):List (List Int×List Int):=l.map fun p=>([p.1],[p.2])
abbrev E2:=Int×Int
def Qq(l:List (E2×E2))(k:E2):E2×Bool:=match l.find? (fun p=>p.1==k)with | some p=>(p.2,true) | none=>((0,0),false)
def Vz(l:List (E2×E2))(k v:E2):List (E2×E2):=match l.findIdx? (fun p=>p.1==k)with | some i=>l.set i (k,v) | none=>l++[(k,v)]
def OF(l:List (E2×E2)):List (List Int×List Int):=l.map fun p=>([p.1.1,p.1.2],[p.2.1,p.2.2])
theorem iQ(k e:TypeId):iJ k e (some (false,1)) (some (false,1))=some (.mp k e (KF [])):=nr rfl
theorem iR(k e:TypeId):iJ k e (some (true,2)) (some (true,2))=some (.mp k e (OF [])):=nr rfl
theorem Fk{α β:Type}(f:α→β)(p:β→Bool)(q:α→Bool)(h: ∀a,p (f a)=q a): ∀(l:List α),(l.map f).find? p=(l.find? q).map f∧(l.map f).findIdx? p=l.findIdx? q
 | []=>⟨rfl,rfl⟩
 | a::l=>by
  obtain⟨h1,h2⟩:=Fk f p q h l
  simp only [List.map_cons,List.find?_cons,List.findIdx?_cons,h]
  cases q a
  ·exact⟨h1,by simp only [h2]⟩
  ·exact⟨rfl,rfl⟩
theorem TF(l:List (Int×Int))(k:Int):FV (KF l) [k] 1=([(Bf l k).1],(Bf l k).2):=by
 unfold FV Bf KF
 rw [(Fk _ _ (fun p=>p.1==k) (fun p=>by simp) l).1]
 cases l.find? (fun p=>p.1==k)<;>rfl
theorem TG(l:List (Int×Int))(k v:Int):HC (KF l) [k] [v]=KF (KE l k v):=by
 unfold HC KE KF
 rw [(Fk _ _ (fun p=>p.1==k) (fun p=>by simp) l).2]
 cases l.findIdx? (fun p=>p.1==k)<;>simp [List.map_set]
theorem TH(l:List (Int×Int)):(KF l).length=l.length:=by simp [KF]
theorem TI(l:List (E2×E2))(a b:Int):FV (OF l) [a,b] 2=([(Qq l (a,b)).1.1,(Qq l (a,b)).1.2],(Qq l (a,b)).2):=by
 unfold FV Qq OF
 rw [(Fk _ _ (fun p=>p.1==(a,b)) (fun p=>by obtain⟨⟨x,y⟩,z⟩:=p;rw [Bool.eq_iff_iff];simp) l).1]
 cases l.find? (fun p=>p.1==(a,b))<;>rfl
theorem TJ(l:List (E2×E2))(a b c d:Int):HC (OF l) [a,b] [c,d]=OF (Vz l (a,b) (c,d)):=by
 unfold HC Vz OF
 rw [(Fk _ _ (fun p=>p.1==(a,b)) (fun p=>by obtain⟨⟨x,y⟩,z⟩:=p;rw [Bool.eq_iff_iff];simp) l).2]
 cases l.findIdx? (fun p=>p.1==(a,b))<;>simp [List.map_set]
theorem TK(l:List (E2×E2)):(OF l).length=l.length:=by simp [OF]
theorem qs(x:Int)(b:Bool):cV false false ([x],b)= .int .i64 x:=nr rfl
theorem qt(x:Int)(b:Bool):cV false true ([x],b)= .tup [.int .i64 x, .bool b]:=nr rfl
theorem qu(x y:Int)(b:Bool):cV true false ([x,y],b)= .agg [.int .i64 x, .int .i64 y]:=nr rfl
theorem qv(x y:Int)(b:Bool):cV true true ([x,y],b)= .tup [.agg [.int .i64 x, .int .i64 y], .bool b]:=nr rfl
set_option linter.defProp false in
def qw:=And.intro @qW (And.intro @y4 (And.intro @y5 (And.intro @qX (And.intro @qY (And.intro @VM (And.intro @qZ (And.intro @qa (And.intro @iI (And.intro @qb (And.intro @qc (And.intro @y6 (And.intro @qe (And.intro @iQ (And.intro @iR (And.intro @qg (And.intro @iK (And.intro @qj (And.intro @qk (And.intro @iL (And.intro @iM
 (And.intro @qm (And.intro @qn (And.intro @qq (And.intro @qr (And.intro @iO (And.intro @iP (And.intro @TF (And.intro @TG (And.intro @TH (And.intro @TI (And.intro @TJ (And.intro @TK (And.intro @qs (And.intro @qt (And.intro @qu (And.intro @qi (And.intro @bB (And.intro @qp (And.intro @iN (@qv))))))))))))))))))))))))))))))))))))))))
end
end
end Dv
namespace Dv
open Go
theorem MZ(n:Int)(h: -9223372036854775808≤n∧n≤9223372036854775807):IntKind.i64.wrap n=n:=IntWalk.i64_in n h
section
variable {T:Tys} {pm:Pm} {s:St} {t:TypeId}
theorem Ri(xs:List Int)(i:Nat)(h:i<xs.length):(B8 xs).getD i .undef= .int .i64 (xs.getD i 0):=by
 simp [B8,List.getD_eq_getElem?_getD,h]
theorem Hv(xs:List Int)(i:Nat)(h:i<xs.length):(B8 xs)[i]? =some (.int .i64 (xs.getD i 0)):=by
 simp [B8,List.getD_eq_getElem?_getD,h]
theorem TL(xs:List Int)(i:Nat)(n:Int):(B8 xs).set i (.int .i64 n)=B8 (xs.set i n):=by simp [B8]
theorem OG(xs ys:List Int):B8 xs++B8 ys=B8 (xs++ys):=by simp [B8]
theorem Lo(x:Int)(xs:List Int):B8 (x::xs)= .int .i64 x::B8 xs:=nr rfl
theorem TM(n:Nat)(x:Int):List.replicate n (D.int .i64 x)=B8 (List.replicate n x):=by simp [B8]
theorem qx(e:TypeId)(n:Int)(xs:List Int)(hk:T.known e=true)(hz:T.size e=1)(hn:0≤n∧n.toNat<xs.length):Lm T e n (some (e,B8 xs,none))=some (.cptr [.int .i64 (xs.getD n.toNat 0)]):=by
 rw [aF e n (B8 xs) hk hz (by simpa [B8] using hn),Ri xs _ hn.2]
theorem iS(e:TypeId)(n:Int)(xs:List Int)(L:A2)(a b:Nat)(hk:T.known e=true)(hz:T.size e=1)(hn:0≤n∧n.toNat<xs.length):Lm T e n (some (e,B8 xs,some (L,a,b)))=some (.pe L n.toNat a b):=
 VD e n (B8 xs) L a b hk hz (by simpa [B8] using hn)
def Ma(e:TypeId)(xss:List (List Int)):List D:=xss.map fun xs=> .sl e (B8 xs)
def G2(e:TypeId)(xss:List (List Int)):List D:=xss.map fun xs=> .own e (B8 xs)
theorem Pq(e:TypeId)(xss:List (List Int)):(Ma e xss).length=xss.length:=by simp [Ma]
theorem OH(e:TypeId)(xss:List (List Int)):(G2 e xss).length=xss.length:=by simp [G2]
theorem Pr(e:TypeId)(xss:List (List Int)):AC (Ma e xss)=false:=by
 induction xss with
 | nil=>rfl
 | cons x xss ih=>simp only [Ma,List.map_cons,AC,D.hasObj,Bool.false_or];exact ih
theorem VN(e:TypeId)(xss:List (List Int)):B5 (Ma e xss)=some (Ma e xss):=by
 induction xss with
 | nil=>rfl
 | cons x xss ih=>simp only [Ma,List.map_cons,JL,gv]at ih ⊢;rw [ih];rfl
theorem TN(e:TypeId)(xss:List (List Int)):B5 (G2 e xss)=some (Ma e xss):=by
 induction xss with
 | nil=>rfl
 | cons x xss ih=>simp only [G2,Ma,List.map_cons,JL,TD,OC,gy]at ih ⊢;rw [ih];rfl
theorem Ps(e:TypeId)(xss:List (List Int)):BB (G2 e xss)=false:=by
 induction xss with
 | nil=>rfl
 | cons x xss ih=>simp only [G2,List.map_cons,Qp,Vy,KD,Bool.false_or];exact ih
theorem Rj(e:TypeId)(xss:List (List Int)):(Ma e xss).all Ai=true:=by simp [Ma,Ai]
theorem Pt(e:TypeId)(xss:List (List Int)):(G2 e xss).all Ai=true:=by simp [G2,Ai]
theorem TO(e:TypeId)(xss:List (List Int))(i:Nat)(h:i<xss.length):(Ma e xss).getD i .undef= .sl e (B8 (xss.getD i [])):=by
 simp [Ma,List.getD_eq_getElem?_getD,h]
theorem bD(e:TypeId)(xss:List (List Int))(i:Nat)(h:i<xss.length):(Ma e xss)[i]? =some (.sl e (B8 (xss.getD i []))):=by
 simp [Ma,List.getD_eq_getElem?_getD,h]
theorem VO(e:TypeId)(xss:List (List Int))(i:Nat)(h:i<xss.length):(G2 e xss)[i]? =some (.own e (B8 (xss.getD i []))):=by
 simp [G2,List.getD_eq_getElem?_getD,h]
theorem TP(e:TypeId)(xss:List (List Int))(i:Nat)(x:List Int):(G2 e xss).set i (.own e (B8 x))=G2 e (xss.set i x):=by simp [G2]
theorem Mb(e:TypeId)(x:List Int)(xss:List (List Int)):AC (G2 e (x::xss))=true:=by simp [G2,AC,D.hasObj]
theorem qy(e e':TypeId)(n:Int)(xss:List (List Int))(hk:T.known e=true)(hz:T.size e=1)(hn:0≤n∧n.toNat<xss.length):Lm T e n (some (e,Ma e' xss,none))=some (.cptr [.sl e' (B8 (xss.getD n.toNat []))]):=by
 rw [aF e n (Ma e' xss) hk hz (by simpa [Ma] using hn),TO e' xss _ hn.2]
theorem iT(e e':TypeId)(n:Int)(xss:List (List Int))(L:A2)(a b:Nat)(hk:T.known e=true)(hz:T.size e=1)(hn:0≤n∧n.toNat<xss.length):Lm T e n (some (e,G2 e' xss,some (L,a,b)))=some (.pe L n.toNat a b):=
 VD e n (G2 e' xss) L a b hk hz (by simpa [G2] using hn)
variable {E:Env} {dst:Option Tmp} {ty:TypeId}
def iU(e:TypeId)(dst:Option Tmp):Option (List D×St)→Option St
 | some (xs,s)=>some (s.putO dst (.own e xs))
 | none=>none
theorem iV(e:TypeId)(xs:List D):iU e dst (some (xs,s))=some (s.putO dst (.own e xs)):=nr rfl
def Rk(dst:Option Tmp):Option (List D×St)→Option St
 | some (xs,s)=>some (s.putO dst (.agg xs))
 | none=>none
theorem iW(xs:List D):Rk dst (some (xs,s))=some (s.putO dst (.agg xs)):=nr rfl
theorem OI(T:Tys){e:TypeId}(hs:T.isStruct e=false):T.size e=1∧T.zeros e=[T.zero1 e]:=by
 unfold Tys.isStruct at hs
 unfold Tys.size Tys.zeros
 cases hty:T.ty e<;>simp_all [Ty.isStruct,Ty.size]
def TQ(E:Env)(pm:Pm)(s:St)(dst:Option Tmp)(len:Nat)(parts:Array (Nat×Operand)):Ty→Option St
 | .slice e=>
   if len*E.T.size e≤4096∧E.T.known e=true then
    (CW E.T pm (fun _=>e) (E.T.size e) s ((List.range (len*E.T.size e)).map fun j=>(E.T.zeros e).getD (j % E.T.size e) .undef) parts.toList).map fun r=>r.2.putO dst (.own e r.1)
   else none
 | _=>none
theorem bE(len:Nat)(parts:Array (Nat×Operand)):JY E.T pm s dst t len parts=TQ E pm s dst len parts (E.T.ty t):=by
 unfold JY TQ
 cases E.T.ty t<;>rfl
theorem y7(len:Nat)(parts:Array (Nat×Operand)):ES E pm s dst (.buildSlice t len parts) ty=if ty=900004 then n4 pm dst (TQ E pm s dst len parts (E.T.ty t))else TQ E pm s dst len parts (E.T.ty t):=by
 rw [KB,bE]
 by_cases h:ty=900004
 ·rw [if_pos h,if_pos h]
  unfold n4
  cases TQ E pm s dst len parts (E.T.ty t)<;>cases dst<;>rfl
 ·rw [if_neg h,if_neg h]
theorem qz(len:Nat)(parts:Array (Nat×Operand))(e:TypeId)(hk:E.T.known e=true)(hs:E.T.isStruct e=false)(hl:len≤4096):
  TQ E pm s dst len parts (.slice e)=iU e dst (CW E.T pm (fun _=>e) 1 s (List.replicate len (E.T.zero1 e)) parts.toList):=by
 obtain⟨hz,hzz⟩:=OI E.T hs
 have hrep:((List.range (len*1)).map fun j=>(E.T.zeros e).getD (j % 1) .undef)=List.replicate len (E.T.zero1 e):=by
  rw [hzz]
  apply List.ext_getElem
  ·simp
  ·intro i h1 h2
   simp [Nat.mod_one]
 simp only [TQ,hz]
 rw [if_pos ⟨by omega,hk⟩,hrep]
 rcases CW E.T pm (fun _=>e) 1 s (List.replicate len (E.T.zero1 e)) parts.toList with _ | ⟨a,b⟩<;>rfl
def rA(E:Env)(e:TypeId)(dst:Option Tmp):Option (D×St)→Option St
 | some (d,s1)=>if d.asCells.length=E.T.size e then some (s1.putO dst (.own e d.asCells))else none
 | none=>none
theorem rB(e:TypeId)(xs:List D)(h:xs.length=E.T.size e):rA E e dst (some (.agg xs,s))=some (s.putO dst (.own e xs)):=by
 show(if xs.length=E.T.size e then some (s.putO dst (.own e xs))else none)=_
 rw [if_pos h]
theorem OJ(cs ys:List D)(h:ys.length=cs.length):Al cs 0 ys=ys:=by
 refine List.ext_getElem? fun i=> ?_
 rw [DL (by omega)]
 by_cases hi:i<ys.length
 ·rw [if_pos (by omega)];rfl
 ·rw [if_neg (by omega),List.getElem?_eq_none (by omega),List.getElem?_eq_none (by omega)]
theorem rC(e:TypeId)(x:Operand)(hk:E.T.known e=true)(hs:E.T.isStruct e=true)(hz:E.T.size e≤4096):TQ E pm s dst 1 #[(0,x)] (.slice e)=rA E e dst (take E.T pm s e x):=by
 simp only [TQ,CW]
 rw [if_pos ⟨by omega,hk⟩]
 rcases take E.T pm s e x with _ | ⟨d,s1⟩
 ·rfl
 ·simp only [rA]
  by_cases h:d.asCells.length=E.T.size e
  ·rw [if_pos ⟨h,by simp⟩,if_pos h,Nat.zero_mul,OJ _ _ (by simp [h])];rfl
  ·rw [if_neg (fun hc=>h hc.1),if_neg h];rfl
theorem rD(u:Tmp)(e:TypeId)(L:A2)(n m lo len:Nat):AS pm s dst (.tmp u) (.vs e L n m lo len)=some (s.putO dst (.vs e L n m lo len)):=by
 show some (if(D.vs e L n m lo len).hasObj then(s.clr u).putO dst (.vs e L n m lo len)else s.putO dst (.vs e L n m lo len))=_
 rw [if_neg (by simp [D.hasObj])]
theorem rE(e:TypeId)(hk:E.T.known e=true):TQ E pm s dst 0 #[] (.slice e)=some (s.putO dst (.own e [])):=by
 simp [TQ,hk,CW]
def nA(E:Env)(pm:Pm)(s:St)(dst:Option Tmp)(t:TypeId)(parts:Array (Nat×Operand)):Option St:=
 match E.T.ty t with
 | .struct fs=>if E.T.known t then Rk dst (CW E.T pm (fun i=>fs.getD i 0) 1 s (E.T.zeros t) parts.toList)else none
 | _=>none
def iX(E:Env)(pm:Pm)(s:St)(dst:Option Tmp)(t:TypeId)(parts:Array (Nat×Operand)):Option (List (Nat×TypeId))→Option St
 | some fl=>if E.T.isStruct t&&E.T.known t then Rk dst (E3 E.T pm fl s (E.T.zeros t) parts.toList)else none
 | none=>nA E pm s dst t parts
theorem bF(parts:Array (Nat×Operand)):ES E pm s dst (.build t parts) ty=iX E pm s dst t parts (E.T.nest t):=by
 rw [Rb]
 unfold iX nA
 cases E.T.nest t with
 | some fl=>
  simp only
  split
  ·rcases E3 E.T pm fl s (E.T.zeros t) parts.toList with _ | ⟨a,b⟩<;>rfl
  ·rfl
 | none=>
  simp only
  cases E.T.ty t with
  | struct fs=>
   simp only
   split
   ·rcases CW E.T pm (fun i=>fs.getD i 0) 1 s (E.T.zeros t) parts.toList with _ | ⟨a,b⟩<;>rfl
   ·rfl
  | _=>rfl
theorem rF(parts:Array (Nat×Operand))(fl:List (Nat×TypeId))(hk:E.T.known t=true)(hs:E.T.isStruct t=true):iX E pm s dst t parts (some fl)=Rk dst (E3 E.T pm fl s (E.T.zeros t) parts.toList):=by
 simp [iX,hk,hs]
def nB(E:Env)(pm:Pm)(s:St)(dst:Option Tmp)(t:TypeId)(parts:Array (Nat×Operand)):Ty→Option St
 | .struct fs=>if E.T.known t then Rk dst (CW E.T pm (fun i=>fs.getD i 0) 1 s (E.T.zeros t) parts.toList)else none
 | _=>none
theorem rG(parts:Array (Nat×Operand)):iX E pm s dst t parts none=nB E pm s dst t parts (E.T.ty t):=by
 show nA E pm s dst t parts=_
 unfold nA nB
 cases E.T.ty t<;>rfl
theorem rH(parts:Array (Nat×Operand))(fs:List TypeId)(hk:E.T.known t=true):nB E pm s dst t parts (.struct fs)=Rk dst (CW E.T pm (fun i=>fs.getD i 0) 1 s (E.T.zeros t) parts.toList):=by
 simp [nB,hk]
def iY(T:Tys)(pm:Pm)(fl:List (Nat×TypeId))(cs:List D)(off:Nat)(ty:TypeId)(rest:List (Nat×Operand)):Option (D×St)→Option (List D×St)
 | none=>none
 | some (d,s1)=>if d.asCells.length=T.size ty∧off+T.size ty≤cs.length then E3 T pm fl s1 (Al cs off d.asCells) rest else none
theorem iZ(T:Tys)(fl:List (Nat×TypeId))(cs:List D):E3 T pm fl s cs []=some (cs,s):=nr rfl
def rI(T:Tys)(pm:Pm)(fl:List (Nat×TypeId))(s:St)(cs:List D)(x:Operand)(rest:List (Nat×Operand)):Option (Nat×TypeId)→Option (List D×St)
 | none=>none
 | some (off,ty)=>iY T pm fl cs off ty rest (take T pm s ty x)
theorem bG(T:Tys)(fl:List (Nat×TypeId))(cs:List D)(i:Nat)(x:Operand)(rest:List (Nat×Operand)):E3 T pm fl s cs ((i,x)::rest)=rI T pm fl s cs x rest (fl[i]?):=by
 simp only [E3]
 rcases fl[i]? with _ | ⟨off,ty⟩
 ·rfl
 ·simp only [rI,iY]
  rcases take T pm s ty x with _ | ⟨d,s1⟩<;>rfl
theorem rJ(T:Tys)(fl:List (Nat×TypeId))(cs:List D)(x:Operand)(rest:List (Nat×Operand))(off:Nat)(ty:TypeId):rI T pm fl s cs x rest (some (off,ty))=iY T pm fl cs off ty rest (take T pm s ty x):=nr rfl
theorem rK(T:Tys)(fl:List (Nat×TypeId))(cs:List D)(off:Nat)(ty:TypeId)(rest:List (Nat×Operand))(d:D)(h1:d.asCells.length=T.size ty)(h2:off+T.size ty≤cs.length):
  iY T pm fl cs off ty rest (some (d,s))=E3 T pm fl s (Al cs off d.asCells) rest:=by simp only [iY,h1,h2,and_self,if_true]
theorem y8(ds:List D):(D.agg ds).asCells=ds:=nr rfl
theorem y9(cs:List D)(c:Nat):Al cs c []=cs:=by cases cs<;>rfl
theorem yA(cs:List D)(c:Nat)(y:D)(ys:List D):Al cs c (y::ys)=Al (cs.set c y) (c+1) ys:=by cases cs<;>rfl
def ca(T:Tys)(n:Int):Ty→Option D
 | .slice e=>if 0≤n∧n<1099511627776∧T.elem e=true then
   if T.isStruct e=true then some (.own e (List.replicate n.toNat (T.zeros e)).flatten)
   else if T.size e=1 then some (.own e (List.replicate n.toNat (T.zero1 e)))else none
  else none
 | _=>none
theorem yB(n:Int):Ci T t (.int .i64 n) (.int .i64 n)=ca T n (T.ty t):=by
 unfold Ci ca
 cases T.ty t<;>simp
theorem rL(n:Int)(e:TypeId)(hk:T.known e=true)(h4:T.size e≤4)(hs:T.isStruct e=false)(h0:0≤n)(hn:n<1099511627776):ca T n (.slice e)=some (.own e (List.replicate n.toNat (T.zero1 e))):=by
 obtain⟨hz,_⟩:=OI T hs
 simp only [ca]
 rw [if_pos ⟨h0,hn,JK hk h4⟩,if_neg (by rw [hs];decide),if_pos hz]
theorem rM(n:Int)(e:TypeId)(hk:T.known e=true)(h4:T.size e≤4)(hs:T.isStruct e=true)(h0:0≤n)(hn:n<1099511627776):ca T n (.slice e)=some (.own e (List.replicate n.toNat (T.zeros e)).flatten):=by
 simp only [ca]
 rw [if_pos ⟨h0,hn,JK hk h4⟩,if_pos hs]
end
end Dv
namespace Dv
open Go
def UX(n:Int):Prop:= -9223372036854775808≤n∧n≤9223372036854775807
theorem bH{n:Int}(h:(Lit.int .i64 n).wf=true):UX n:=by
 have h1:IntKind.i64.min= -9223372036854775808:=by decide
 have h2:IntKind.i64.max=9223372036854775807:=by decide
 simp only [Lit.wf,h1,h2,Bool.and_eq_true,decide_eq_true_eq]at h
 exact h
section
variable {T:Tys} {t e:TypeId} {d:D}
theorem Pu{ds:List D}(ht:T.ty t= .int .i64)(h:Shp T t ds): ∃n,ds=[.int .i64 n]∧UX n:=by
 cases h with
 | int ht' hw=>rw [ht]at ht';injection ht' with ht';subst ht';exact⟨_,rfl,bH hw⟩
 | bool ht'=>rw [ht]at ht';cases ht'
 | string ht'=>rw [ht]at ht';cases ht'
 | slice ht'=>rw [ht]at ht';cases ht'
 | struct ht'=>rw [ht]at ht';cases ht'
theorem KG{ds:List D}(ht:T.ty t= .slice e)(h:Shp T t ds): ∃xss:List (List D),ds=[.sl e xss.flatten]∧(∀xs,xs∈xss→Shp T e xs)∧xss.length≤maxLen:=by
 cases h with
 | int ht' hw=>rw [ht]at ht';cases ht'
 | bool ht'=>rw [ht]at ht';cases ht'
 | string ht' hs=>rw [ht]at ht';cases ht'
 | slice ht' hx hl=>rw [ht]at ht';injection ht' with ht';subst ht';exact⟨_,rfl,hx,hl⟩
 | struct ht'=>rw [ht]at ht';cases ht'
theorem Lp{fs:List TypeId}{ds:List D}(ht:T.ty t= .struct fs)(h:Shp T t ds):ds.length=fs.length∧ ∀(i:Nat) (f:TypeId) (d:D),fs[i]? =some f→ds[i]? =some d→Shp T f [d]:=by
 cases h with
 | int ht' hw=>rw [ht]at ht';cases ht'
 | bool ht'=>rw [ht]at ht';cases ht'
 | string ht' hs=>rw [ht]at ht';cases ht'
 | slice ht' hx hl=>rw [ht]at ht';cases ht'
 | struct ht' hl hx=>rw [ht]at ht';injection ht' with ht';subst ht';exact⟨hl,hx⟩
def VP(xs:List Int):Prop:=xs.length≤maxLen∧ ∀x∈xs,UX x
theorem Mc{ds:List D}(ht:T.ty t= .slice e)(he:T.ty e= .int .i64)(h:Shp T t ds): ∃xs,ds=[.sl e (B8 xs)]∧VP xs:=by
 obtain⟨xss,rfl,hx,hl⟩:=KG ht h
 have: ∀xss:List (List D),(∀xs,xs∈xss→Shp T e xs)→ ∃ys,xss.flatten=B8 ys∧ys.length=xss.length∧ ∀y∈ys,UX y:=by
  intro xss
  induction xss with
  | nil=>intro _;exact⟨[],rfl,rfl,by simp⟩
  | cons xs xss ih=>
   intro hx
   obtain⟨n,rfl,hn⟩:=Pu he (hx xs (List.mem_cons_self))
   obtain⟨ys,h1,h2,h3⟩:=ih (fun q hq=>hx q (List.mem_cons_of_mem _ hq))
   refine⟨n::ys,by rw [List.flatten_cons,h1];rfl,by simp [h2],fun y hy=> ?_⟩
   rcases List.mem_cons.1 hy with rfl | hy
   ·exact hn
   ·exact h3 y hy
 obtain⟨ys,h1,h2,h3⟩:=this xss hx
 exact⟨ys,by rw [h1],by omega,h3⟩
theorem VQ(hs:T.isStruct t=false)(d:D):cP T t [d]=d:=by simp [cP,hs]
theorem VS(ht:T.ty t= .slice e)(he:T.ty e= .int .i64)(h:cQ T t d): ∃xs,d= .sl e (B8 xs)∧VP xs:=by
 obtain⟨ds,hs,rfl⟩:=h
 obtain⟨xs,rfl,h1⟩:=Mc ht he hs
 exact⟨xs,VQ (by simp [Tys.isStruct,ht,Ty.isStruct]) _,h1⟩
theorem Rl{fs:List TypeId}(ht:T.ty t= .struct fs)(h:cQ T t d): ∃ds,d= .agg ds∧ds.length=fs.length∧ ∀(i:Nat) (f:TypeId) (d:D),fs[i]? =some f→ds[i]? =some d→Shp T f [d]:=by
 obtain⟨ds,hs,rfl⟩:=h
 obtain⟨h1,h2⟩:=Lp ht hs
 exact⟨ds,by simp [cP,Tys.isStruct,ht,Ty.isStruct],h1,h2⟩
end
theorem trodAll_len{H:Type}{enc:TypeId×Value→H}{P:Program}{w:World}{base:Nat}{spare:Nat→Bool}{RZ:Bool}: ∀ {ts:List TypeId} {vs:List Value} {ds:List (DataW H)} {ps:List MemPlace},
  DataW.TrodAll enc P w base spare RZ ts vs ds ps→ds.length=ts.length∧vs.length=ts.length:=by
 intro ts
 induction ts with
 | nil=>intro vs ds ps h;cases vs<;>cases ds<;>simp [DataW.TrodAll]at h;exact⟨rfl,rfl⟩
 | cons t ts ih=>
  intro vs ds ps h
  cases vs with
  | nil=>cases ds<;>simp [DataW.TrodAll]at h
  | cons v vs=>
   cases ds with
   | nil=>simp [DataW.TrodAll]at h
   | cons d ds=>
    simp only [DataW.TrodAll]at h
    obtain⟨p,q,h1,h2,_⟩:=h
    obtain⟨e1,e2⟩:=ih h2
    exact⟨by simp [e1],by simp [e2]⟩
end Dv
namespace Dv
open Go
section
variable {E:Env} {T:Tys} {pm:Pm} {s:St} {dst:Option Tmp} {ty t:TypeId}
def Pv(T:Tys)(t:TypeId)(dst:Option Tmp):Option (D×St)→Option St
 | some (d,s1)=>if T.isStruct t==d.isAgg then some (s1.putO dst (.box d.asCells))else none
 | none=>none
def P0(E:Env)(pm:Pm)(s:St)(t:TypeId)(x:Operand)(dst:Option Tmp):D→Option St
 | .agg ds=>if AC ds then Pv E.T t dst (take E.T pm s t x)else(if E.T.isStruct t then some (s.putO dst (.box ds))else none)
 | _=>Pv E.T t dst (take E.T pm s t x)
theorem bI(u:Tmp):GM E.T pm s dst t (.tmp u)=P0 E pm s t (.tmp u) dst (s.v u):=by
 rw [Sx]
 cases hk:JW (ev E.T s t (.tmp u))with
 | some ds=>
  simp only [ev]at hk
  cases hv:s.v u<;>rw [hv]at hk<;>simp only [JW]at hk<;>try (cases hk;done)
  split at hk
  ·cases hk
  ·rename_i ho
   simp only [Option.some.injEq]at hk
   subst hk
   simp only [P0,ho];rfl
 | none=>
  have hold:P0 E pm s t (.tmp u) dst (s.v u)=Pv E.T t dst (take E.T pm s t (.tmp u)):=by
   simp only [ev]at hk
   cases hv:s.v u<;>try rfl
   rw [hv]at hk
   simp only [JW]at hk
   split at hk
   ·rename_i ho;simp only [P0,ho,if_true]
   ·cases hk
  rw [hold]
  simp only
  rcases take E.T pm s t (.tmp u)with _ | ⟨d,s1⟩<;>rfl
theorem rN(u:Tmp):ES E pm s dst (.box t (.tmp u)) ty=if ty=900003 then T8 pm dst (P0 E pm s t (.tmp u) dst (s.v u))else P0 E pm s t (.tmp u) dst (s.v u):=by
 rw [Uw,bI]
 by_cases h:ty=900003
 ·rw [if_pos h,if_pos h]
  unfold T8
  cases P0 E pm s t (.tmp u) dst (s.v u)<;>cases dst<;>rfl
 ·rw [if_neg h,if_neg h]
theorem yC(x:Operand)(ds:List D)(hs:E.T.isStruct t=true):P0 E pm s t x dst (.agg ds)=if AC ds then Pv E.T t dst (take E.T pm s t x)else some (s.putO dst (.box ds)):=by simp [P0,hs]
theorem ia(x:Operand)(k:IntKind)(n:Int):P0 E pm s t x dst (.int k n)=Pv E.T t dst (take E.T pm s t x):=nr rfl
theorem bJ(x:Operand)(b:Bool):P0 E pm s t x dst (.bool b)=Pv E.T t dst (take E.T pm s t x):=nr rfl
theorem ib(x:Operand)(b:ByteArray):P0 E pm s t x dst (.str b)=Pv E.T t dst (take E.T pm s t x):=nr rfl
theorem rO(x:Operand)(e:TypeId)(xs:List D):P0 E pm s t x dst (.sl e xs)=Pv E.T t dst (take E.T pm s t x):=nr rfl
theorem ic(x:Operand)(e:TypeId)(xs:List D):P0 E pm s t x dst (.own e xs)=Pv E.T t dst (take E.T pm s t x):=nr rfl
theorem rP(x:Operand)(L:A2)(n m:Nat):P0 E pm s t x dst (.vw L n m)=Pv E.T t dst (take E.T pm s t x):=nr rfl
theorem ie(x:Operand)(f:FuncId)(xs:List D):P0 E pm s t x dst (.clo f xs)=Pv E.T t dst (take E.T pm s t x):=nr rfl
theorem rQ(ds:List D)(hs:T.isStruct t=true):Pv T t dst (some (.agg ds,s))=some (s.putO dst (.box ds)):=by simp [Pv,hs,D.isAgg,D.asCells]
theorem rR(d:D)(hs:T.isStruct t=false)(hd:d.isAgg=false):Pv T t dst (some (d,s))=some (s.putO dst (.box [d])):=by
 have:d.asCells=[d]:=by cases d<;>first | rfl | (simp [D.isAgg]at hd)
 simp [Pv,hs,hd,this]
def rS(L:A2)(i n m:Nat):Option D→Option D
 | some _=>some (.pe L i n m)
 | none=>none
theorem rT(L:A2)(i n m:Nat)(d:D):rS L i n m (some d)=some (.pe L i n m):=nr rfl
def UY(T:Tys)(pm:Pm)(s:St)(t:TypeId)(x:Operand)(d:D):Option Nat→Option D
 | none=>none
 | some j=>
  if T.isStruct t then
   match d with
   | .box _=>match x with | .tmp u=>some (.pe [u] j (s.k u) (s.m u)) | _=>none
   | .vw L n m=>match s.look pm L n m with | some (.box _)=>some (.pe L j n m) | _=>none
   | .pe L c n m=>match s.look pm L n m with | some _=>some (.pe L (c+j) n m) | none=>none
   | .cptr xs=>some (.cptr (xs.drop j))
   | _=>none
  else none
theorem yD(x:Operand)(d:D)(i:Nat):CG T pm s t x d i=UY T pm s t x d (T.foff t i):=by
 unfold CG UY
 cases T.foff t i<;>rfl
theorem yE(i:Nat)(hn:T.nest t=none)(hi:i<T.size t):T.foff t i=some i:=by simp [Tys.foff,hn,hi]
theorem ig(u:Tmp)(xs:List D)(i:Nat)(hs:T.isStruct t=true):UY T pm s t (.tmp u) (.box xs) (some i)=some (.pe [u] i (s.k u) (s.m u)):=by simp [UY,hs]
theorem rU(x:Operand)(L:A2)(n m i:Nat)(hs:T.isStruct t=true):UY T pm s t x (.vw L n m) (some i)=rS L i n m (Ga s pm L n m):=by
 simp only [UY,hs,if_true,Ga]
 cases s.look pm L n m with
 | none=>rfl
 | some o=>cases o<;>rfl
theorem rV(x:Operand)(L:A2)(c n m i:Nat)(hs:T.isStruct t=true):UY T pm s t x (.pe L c n m) (some i)=rS L (c+i) n m (s.look pm L n m):=by
 simp only [UY,hs,if_true]
 cases s.look pm L n m<;>rfl
theorem rW(x:Operand)(xs:List D)(i:Nat)(hs:T.isStruct t=true):UY T pm s t x (.cptr xs) (some i)=some (.cptr (xs.drop i)):=by simp [UY,hs]
theorem yF(L:A2)(c n:Nat)(o:D):cellsOf s L c n (some o)=if c+n≤o.cells.length then Aj (.agg ((List.range n).map fun i=>Bq s L (c+i) (o.cells.getD (c+i) .undef)))else none:=nr rfl
variable {α:Type} (f:Nat→α)
theorem yG:(List.range 1).map f=[f 0]:=nr rfl
theorem yH:(List.range 2).map f=[f 0,f 1]:=nr rfl
theorem yI:(List.range 3).map f=[f 0,f 1,f 2]:=nr rfl
theorem vM:(List.range 4).map f=[f 0,f 1,f 2,f 3]:=nr rfl
theorem yJ:(List.range 5).map f=[f 0,f 1,f 2,f 3,f 4]:=nr rfl
theorem yK:(List.range 6).map f=[f 0,f 1,f 2,f 3,f 4,f 5]:=nr rfl
theorem yM:(List.range 7).map f=[f 0,f 1,f 2,f 3,f 4,f 5,f 6]:=nr rfl
theorem yN:(List.range 8).map f=[f 0,f 1,f 2,f 3,f 4,f 5,f 6,f 7]:=nr rfl
theorem yO:(List.range 9).map f=[f 0,f 1,f 2,f 3,f 4,f 5,f 6,f 7,f 8]:=nr rfl
theorem rX:(List.range 10).map f=[f 0,f 1,f 2,f 3,f 4,f 5,f 6,f 7,f 8,f 9]:=nr rfl
theorem rY:(List.range 11).map f=[f 0,f 1,f 2,f 3,f 4,f 5,f 6,f 7,f 8,f 9,f 10]:=nr rfl
theorem rZ:(List.range 12).map f=[f 0,f 1,f 2,f 3,f 4,f 5,f 6,f 7,f 8,f 9,f 10,f 11]:=nr rfl
theorem ii(L:A2)(c:Nat)(k:IntKind)(n:Int):Bq s L c (.int k n)= .int k n:=nr rfl
theorem bK(L:A2)(c:Nat)(b:Bool):Bq s L c (.bool b)= .bool b:=nr rfl
theorem ij(L:A2)(c:Nat)(b:ByteArray):Bq s L c (.str b)= .str b:=nr rfl
theorem ra(L:A2)(c:Nat)(e:TypeId)(xs:List D):Bq s L c (.sl e xs)= .sl e xs:=nr rfl
theorem ik(L:A2)(c:Nat)(e:TypeId)(xs:List D):Bq s L c (.own e xs)=Oz s (L++[c]):=nr rfl
theorem il(L:A2)(c:Nat)(g:FuncId)(xs:List D):Bq s L c (.clo g xs)= .clo g xs:=nr rfl
theorem rb(L:A2)(c:Nat)(M:A2)(n m:Nat):Bq s L c (.vw M n m)= .vw M n m:=nr rfl
theorem yP(xs:List D):Aj (.agg xs)=if AC xs then none else some (.agg xs):=by simp only [Aj,D.hasObj];rfl
theorem im(k:IntKind)(n:Int):Aj (.int k n)=some (.int k n):=by simp [Aj,D.hasObj]
theorem bL(b:Bool):Aj (.bool b)=some (.bool b):=by simp [Aj,D.hasObj]
theorem io(b:ByteArray):Aj (.str b)=some (.str b):=by simp [Aj,D.hasObj]
theorem rc(e:TypeId)(xs:List D):Aj (.sl e xs)=some (.sl e xs):=by simp [Aj,D.hasObj]
theorem re(L:A2)(n m:Nat):Aj (.vw L n m)=some (.vw L n m):=by simp [Aj,D.hasObj]
theorem ip(g:FuncId)(xs:List D):Aj (.clo g xs)=some (.clo g xs):=by simp [Aj,D.hasObj]
theorem yQ(a b:Nat)(l:A2):List.dropLast (a::b::l)=a::List.dropLast (b::l):=nr rfl
theorem yR(a:Nat):List.dropLast [a]=[]:=nr rfl
theorem rf(r c:Nat)(p:A2):s.get (r::c::p)=AX (s.v r) (c::p):=nr rfl
theorem Pw: ∀(ds xs:List D),xs.length=ds.length→Al xs 0 ds=ds:=by
 have key: ∀(ds pre xs:List D),xs.length=ds.length→Al (pre++xs) pre.length ds=pre++ds:=by
  intro ds
  induction ds with
  | nil=>intro pre xs h;simp at h;subst h;rfl
  | cons d ds ih=>
   intro pre xs h
   cases xs with
   | nil=>simp at h
   | cons x xs=>
    simp only [Al]
    have:=ih (pre++[d]) xs (by simpa using h)
    simpa using this
 intro ds xs h
 simpa using key ds [] xs h
def iq(T:Tys)(pm:Pm)(t:TypeId)(u:Tmp)(ds:List D)(s:St):D→Option St
 | .box xs=>if T.known t&&T.isStruct t&&pm.wr u&&ds.all Ai&&(T.size t==ds.length)&&(xs.length==ds.length)then(if AC ds||AC xs then some ((s.set [u] (.box ds)).bump u)else some (s.set [u] (.box ds)))else Ln T pm t (.tmp u) (some (.agg ds,s))
 | _=>Ln T pm t (.tmp u) (some (.agg ds,s))
theorem rg(u:Tmp)(ds:List D):Ln T pm t (.tmp u) (some (.agg ds,s))=iq T pm t u ds s (s.v u):=by
 cases hv:s.v u<;>simp only [iq]
 rename_i xs
 split
 ·rename_i hc
  simp only [Bool.and_eq_true,beq_iff_eq]at hc
  obtain⟨⟨⟨⟨⟨hk,hs⟩,hw⟩,hd⟩,hz⟩,hl⟩:=hc
  have hz':T.size t≤xs.length:=by omega
  simp only [Ln,ev,hv,Cr,D.asCells,D.isAgg,D.cells,D.withCells,hk,hs,hw,hd,hz,List.headD_cons,beq_self_eq_true,Bool.and_self,Nat.zero_add,D.hasObj]
  rw [Pw ds xs hl]
  have h2:ds.length≤xs.length:=by omega
  simp only [h2,decide_true,Bool.and_self,if_true]
  split<;>first | rfl | (rename_i hq;simp only [hq];rfl)
 ·rfl
theorem rh(u:Tmp)(ds xs:List D)(hk:T.known t=true)(hs:T.isStruct t=true)(hw:pm.wr u=true)(hd:ds.all Ai=true)(hz:T.size t=ds.length)(hl:xs.length=ds.length):
  iq T pm t u ds s (.box xs)=if AC ds||AC xs then some ((s.set [u] (.box ds)).bump u)else some (s.set [u] (.box ds)):=by
 simp [iq,hk,hs,hw,hd,hz,hl]
def W0(T:Tys)(s:St)(t:Tmp)(ty:TypeId):D→Option (D×St)
 | .box xs=>if T.isStruct ty then(if xs.length=T.size ty then fX (C6 Pm.all (s.clr t) xs)else none)else(match xs with | [d]=>Af Pm.all (s.clr t) d | _=>none)
 | .cptr xs=>if T.isStruct ty then(if xs.length=T.size ty then some (.agg xs,s)else none)else(match xs with | [d]=>some (d,s) | _=>none)
 | _=>none
theorem bM(u:Tmp)(hk:T.known ty=true):Jc T s (.cell u ty)=W0 T s u ty (s.v u):=by
 simp only [Jc,hk,if_true,W0]
 cases s.v u with
 | box xs=>
  simp only
  split
  ·split
   ·cases C6 Pm.all (s.clr u) xs<;>rfl
   ·rfl
  ·rfl
 | _=>rfl
theorem ri(u:Tmp)(xs:List D)(hs:T.isStruct ty=true)(hl:xs.length=T.size ty):W0 T s u ty (.box xs)=fX (C6 Pm.all (s.clr u) xs):=by simp [W0,hs,hl]
theorem rj(u:Tmp)(d:D)(hs:T.isStruct ty=false):W0 T s u ty (.box [d])=Af Pm.all (s.clr u) d:=by simp [W0,hs]
theorem rk(u:Tmp)(d:D)(hs:T.isStruct ty=false):W0 T s u ty (.cptr [d])=some (d,s):=by simp [W0,hs]
def nC(pm:Pm)(s:St)(u:Tmp)(rest:List Operand):D→Option (List D×St)
 | .box xs=>match B5 xs with
  | some ys=>if pm.wr u then(Eb pm (s.set [u] (.cptr ys)) rest).map fun r=>(.cptr ys::r.1,r.2)else none
  | none=>none
 | .cptr ys=>(Eb pm s rest).map fun r=>(.cptr ys::r.1,r.2)
 | _=>none
theorem ir:Eb pm s []=some ([],s):=nr rfl
theorem it(u:Tmp)(rest:List Operand):Eb pm s (.tmp u::rest)=nC pm s u rest (s.v u):=by
 simp only [Eb]
 cases s.v u<;>rfl
def rl(pm:Pm)(s:St)(u:Tmp)(rest:List Operand):Option (List D)→Option (List D×St)
 | some ys=>if pm.wr u then(Eb pm (s.set [u] (.cptr ys)) rest).map fun r=>(.cptr ys::r.1,r.2)else none
 | none=>none
theorem rm(u:Tmp)(rest:List Operand)(xs:List D):nC pm s u rest (.box xs)=rl pm s u rest (B5 xs):=by
 simp only [nC];cases B5 xs<;>rfl
theorem rn(u:Tmp)(rest:List Operand)(ys:List D)(hw:pm.wr u=true):rl pm s u rest (some ys)=(Eb pm (s.set [u] (.cptr ys)) rest).map fun r=>(.cptr ys::r.1,r.2):=by simp [rl,hw]
theorem ro(u:Tmp)(rest:List Operand)(ys:List D):nC pm s u rest (.cptr ys)=(Eb pm s rest).map fun r=>(.cptr ys::r.1,r.2):=nr rfl
def iu(E:Env)(pm:Pm)(s:St)(dst:Option Tmp)(args:Array Operand)(ts:Array TypeId):D→Option St
 | .clo f caps=>if args.size=ts.size then Dl E pm s dst f (args.toList.zip ts.toList) caps else none
 | .ocl false f caps=>if args.size=ts.size then Ep E pm s dst f (args.toList.zip ts.toList) caps else none
 | _=>none
theorem bN(u:Tmp)(args:Array Operand)(ts:Array TypeId):ES E pm s dst (.call ⟨.value (.tmp u),args,ts⟩) ty=iu E pm s dst args ts (s.v u):=by
 rw [Rd];cases s.v u<;>first | rfl | (rename_i b _ _;cases b<;>rfl)
theorem rp(args:Array Operand)(ts:Array TypeId)(f':FuncId)(caps:List D)(h:args.size=ts.size):iu E pm s dst args ts (.clo f' caps)=Dl E pm s dst f' (args.toList.zip ts.toList) caps:=by simp [iu,h]
def vN(f:FuncId)(dst:Option Tmp):Option (List D×St)→Option St
 | some r=>some (r.2.putO dst (.clo f r.1))
 | none=>none
theorem rq(g:FuncId)(xs:List D):vN g dst (some (xs,s))=some (s.putO dst (.clo g xs)):=nr rfl
def vO(f:FuncId)(dst:Option Tmp):Option (List D×St)→Option St
 | some r=>some (r.2.putO dst (.ocl false f r.1))
 | none=>none
theorem rr(g:FuncId)(xs:List D):vO g dst (some (xs,s))=some (s.putO dst (.ocl false g xs)):=nr rfl
theorem yS(g:FuncId)(captured:Array Operand):ES E pm s dst (.makeFunc (.func g) #[] captured) ty=if ty<3000000 then vN g dst (Eb pm s captured.toList)else vO g dst (JX pm s (ty-3000000) captured.toList):=by
 rw [MW]
 simp only [List.isEmpty_toArray,List.isEmpty_nil,if_true]
 by_cases h:ty<3000000
 ·rw [if_pos h,if_pos h]
  cases Eb pm s captured.toList<;>rfl
 ·rw [if_neg h,if_neg h]
  cases JX pm s (ty-3000000) captured.toList<;>rfl
def nD(l:List Operand):Option (List D×St)→Option (List D×St)
 | none=>none
 | some (_,s1)=>(GL s1 l).map fun ds=>(ds,s1)
theorem yU(m:Nat)(l:List Operand):JX pm s m l=nD l (Eb pm s (Dg m 0 l)):=by
 unfold JX nD
 rcases Eb pm s (Dg m 0 l)with _ | ⟨ys,s1⟩<;>rfl
def vP(s:St):Option (List D)→Option (List D×St)
 | some ds=>some (ds,s)
 | none=>none
theorem rt(l:List Operand)(ys:List D):nD l (some (ys,s))=vP s (GL s l):=by
 simp only [nD];cases GL s l<;>rfl
theorem ru(ds:List D):vP s (some ds)=some (ds,s):=nr rfl
theorem yV(m i:Nat):Dg m i []=[]:=nr rfl
theorem yW(m i:Nat)(x:Operand)(xs:List Operand):Dg m i (x::xs)=if m / 2 ^ i % 2=1 then Dg m (i+1) xs else x::Dg m (i+1) xs:=by
 rw [Dg,Nat.testBit_eq_decide_div_mod_eq]
 by_cases h:m / 2 ^ i % 2=1<;>simp [h]
def rx(s:St)(u:Tmp)(r:Option (List D)):D→Option (List D)
 | .box _=>r.map (Oz s [u]:: ·)
 | .cptr ys=>r.map (.cptr ys:: ·)
 | _=>none
theorem yX:GL s []=some []:=nr rfl
theorem yY(u:Tmp)(rest:List Operand):GL s (.tmp u::rest)=rx s u (GL s rest) (s.v u):=by
 simp only [GL]
 cases s.v u<;>rfl
theorem ry(u:Tmp)(l xs:List D):rx s u (some l) (.box xs)=some (Oz s [u]::l):=nr rfl
theorem rz(u:Tmp)(l ys:List D):rx s u (some l) (.cptr ys)=some (.cptr ys::l):=nr rfl
def bP(T:Tys)(pm:Pm)(s:St)(t:TypeId)(t0:Tmp):D→D→Option St
 | .box [_], .ocl false f xs=>if T.known t&& !T.isStruct t&&(T.size t==1)&&pm.rd t0&&pm.wr t0 then some (s.set [t0] (.ocl true f (xs.map (Dk s t0))))else none
 | _,_=>none
theorem s0(T:Tys)(t0 u:Tmp):IZ T pm s t (.tmp t0) (.tmp u)=bP T pm s t t0 (s.v t0) (s.v u):=by
 show(match s.v t0,s.v u with
  | .box [_], .ocl false f xs=>if T.known t&& !T.isStruct t&&(T.size t==1)&&pm.rd t0&&pm.wr t0 then some (s.set [t0] (.ocl true f (xs.map (Dk s t0))))else none
  | _,_=>none)=_
 rfl
theorem s4(T:Tys)(t0:Tmp)(x:D)(f:FuncId)(xs:List D)(hk:T.known t=true)(hs:T.isStruct t=false)(hz:T.size t=1)(hr:pm.rd t0=true)(hw:pm.wr t0=true):
  bP T pm s t t0 (.box [x]) (.ocl false f xs)=some (s.set [t0] (.ocl true f (xs.map (Dk s t0)))):=by simp [bP,hk,hs,hz,hr,hw]
theorem yZ(t0 r n m:Nat):Dk s t0 (.vw [r] n m)=if r=t0 then(if n=s.k t0 then .undef else .vw [r] n m)else .vw [r] n m:=by
 unfold Dk
 by_cases h:r=t0<;>by_cases h2:n=s.k t0<;>simp [h,h2]
theorem ya(t0:Nat)(ys:List D):Dk s t0 (.cptr ys)= .cptr ys:=nr rfl
theorem yb(T:Tys)(x:Operand)(f:FuncId)(xs:List D)(hk:T.known t=true)(hs:T.isStruct t=false):Bn T pm s t x (.ocl true f xs)=some (.ocl false f xs):=by simp [Bn,hk,hs]
def iv(E:Env)(pm:Pm)(s:St)(dst:Option Tmp)(f:FuncId)(as:List D)(ls:List (A2×D)):Option (List D×List (A2×D))→Option St
 | none=>none
 | some (cs,lc)=>
  if Bu ((ls++lc).map (·.1))&&(ls++lc).all (fun l=>pm.wr (l.1.headD 0))&&(ls++lc).all (fun l=>M3 l.2)then
   cU s dst (ls++lc) (E.call f (as++cs.map (Ds f cs)) ((ls++lc).map (·.2)))
  else none
def s6(E:Env)(pm:Pm)(s:St)(dst:Option Tmp)(f:FuncId)(caps:List D):Option (List D×List (A2×D))→Option St
 | none=>none
 | some (as,ls)=>iv E pm s dst f as ls (BL pm s ls.length caps)
theorem yc(f:FuncId)(xs:List (Operand×TypeId))(caps:List D):Ep E pm s dst f xs caps=s6 E pm s dst f caps (BW E true pm s 0 xs):=by
 unfold Ep s6
 rcases BW E true pm s 0 xs with _ | ⟨as,ls⟩
 ·rfl
 ·simp only
  unfold iv
  rcases BL pm s ls.length caps with _ | ⟨cs,lc⟩
  ·rfl
  ·simp only
   split
   ·unfold cU
    rcases E.call f (as++cs.map (Ds f cs)) ((ls++lc).map (·.2))with _ | ⟨r,o⟩<;>rfl
   ·rfl
theorem s7(f:FuncId)(caps as:List D)(ls:List (A2×D)):s6 E pm s dst f caps (some (as,ls))=iv E pm s dst f as ls (BL pm s ls.length caps):=nr rfl
theorem sA(f:FuncId)(as cs:List D)(ls lc:List (A2×D))(h:(Bu ((ls++lc).map (·.1))&&(ls++lc).all (fun l=>pm.wr (l.1.headD 0))&&(ls++lc).all (fun l=>M3 l.2))=true):
  iv E pm s dst f as ls (some (cs,lc))=cU s dst (ls++lc) (E.call f (as++cs.map (Ds f cs)) ((ls++lc).map (·.2))):=by simp only [iv,h,if_true]
def iw(a:D)(l:List (A2×D)):Option (List D×List (A2×D))→Option (List D×List (A2×D))
 | some r=>some (a::r.1,l++r.2)
 | none=>none
theorem sB(a:D)(l:List (A2×D))(r:List D)(m:List (A2×D)):iw a l (some (r,m))=some (a::r,l++m):=nr rfl
def sC(pm:Pm)(s:St)(j:Nat)(L:A2)(rest:List D):Option D→Option (List D×List (A2×D))
 | some c=>iw (.vw [G+j] 0 0) [(L,c)] (BL pm s (j+1) rest)
 | none=>none
theorem sD(j:Nat)(L:A2)(rest:List D)(c:D):sC pm s j L rest (some c)=iw (.vw [G+j] 0 0) [(L,c)] (BL pm s (j+1) rest):=nr rfl
theorem yd(j:Nat):BL pm s j []=some ([],[]):=nr rfl
theorem ye(j:Nat)(L:A2)(n m:Nat)(rest:List D):BL pm s j (.vw L n m::rest)=sC pm s j L rest (s.look pm L n m):=by
 rw [BL]
 cases s.look pm L n m with
 | none=>rfl
 | some c=>simp only [sC];rcases BL pm s (j+1) rest with _ | ⟨a,b⟩<;>rfl
theorem yf(j:Nat)(ys rest:List D):BL pm s j (.cptr ys::rest)=iw (.cptr ys) [] (BL pm s j rest):=by
 rw [BL]
 rcases BL pm s j rest with _ | ⟨a,b⟩<;>rfl
theorem yg(j:Nat)(rest:List D):BL pm s j (.undef::rest)=iw .undef [] (BL pm s j rest):=by
 rw [BL]
 rcases BL pm s j rest with _ | ⟨a,b⟩<;>rfl
theorem yh(f:FuncId)(cs:List D):Ds f cs .undef= .ocl true f cs:=nr rfl
theorem yi(f:FuncId)(cs:List D)(L:A2)(n m:Nat):Ds f cs (.vw L n m)= .vw L n m:=nr rfl
theorem yj(f:FuncId)(cs ys:List D):Ds f cs (.cptr ys)= .cptr ys:=nr rfl
theorem sG(args:Array Operand)(ts:Array TypeId)(f':FuncId)(caps:List D)(h:args.size=ts.size):iu E pm s dst args ts (.ocl false f' caps)=Ep E pm s dst f' (args.toList.zip ts.toList) caps:=by simp [iu,h]
theorem Rm(g:FuncId):BA (.clo g [])=false:=by simp [BA]
def sI(dflt:Nat):Option D→Option Nat
 | some (.int _ n)=>if 0≤n then some n.toNat else none
 | _=>none
theorem yk(n:Nat):GH T s n none=some n:=nr rfl
theorem yl(n:Nat)(x:Operand):GH T s n (some x)=sI n (ev T s 0 x):=by
 simp only [GH]
 rcases ev T s 0 x with _ | d
 ·rfl
 ·cases d<;>rfl
theorem sJ(n:Nat)(k:IntKind)(i:Int)(h:0≤i):sI n (some (.int k i))=some i.toNat:=by simp [sI,h]
def cb(T:Tys)(pm:Pm)(s:St)(x:Operand)(d:D)(lo hi mx:Option Operand):Ty→Option (D×St)
 | .slice e'=>match Ak pm s x d with
  | none=>none
  | some (e,xs,o)=>
   match GH T s 0 lo,GH T s (T.len e xs) hi with
   | some l,some h=>
    if e'=e∧T.known e=true∧l≤h∧h≤T.len e xs then
     if mx.isSome then
      match GH T s 0 mx with
      | some q=>if l=h∧h=q∧hi.isSome=true then some (.own e [],s)else none
      | none=>none
     else match o with
      | none=>some (.sl e ((xs.take (h*T.size e)).drop (l*T.size e)),s)
      | some (L,va,vb)=>
       if pm.wr (L.headD 0)then
        match B5 xs with
        | some ys=>some (.sl e ((ys.take (h*T.size e)).drop (l*T.size e)),s.set L (.sl e ys))
        | none=>none
       else JV L va vb e l h s
    else none
   | _,_=>none
 | .string=>match d with
  | .str b=>match GH T s 0 lo,GH T s b.size hi with
   | some l,some h=>if l≤h∧h≤b.size∧mx.isNone then some (.str (b.extract l h),s)else none
   | _,_=>none
  | _=>none
 | _=>none
theorem ym(x:Operand)(d:D)(lo hi mx:Option Operand):DU T pm s t x d lo hi mx=cb T pm s x d lo hi mx (T.ty t):=by
 unfold DU cb
 cases T.ty t<;>first | rfl | (cases d<;>rfl)
def bQ(T:Tys)(pm:Pm)(s:St)(e:TypeId)(xs:List D)(o:Option (A2×Nat×Nat)):Option Nat→Option Nat→Option (D×St)
 | some l,some h=>
  if l≤h∧h≤xs.length then
   match o with
   | none=>some (.sl e ((xs.take h).drop l),s)
   | some (L,va,vb)=>
    if pm.wr (L.headD 0)then
     match B5 xs with
     | some ys=>some (.sl e ((ys.take h).drop l),s.set L (.sl e ys))
     | none=>none
    else JV L va vb e l h s
  else none
 | _,_=>none
def nE(T:Tys)(pm:Pm)(s:St)(e':TypeId)(lo hi:Option Operand):Option (TypeId×List D×Option (A2×Nat×Nat))→Option (D×St)
 | some (e,xs,o)=>if e'=e∧T.known e=true then bQ T pm s e xs o (GH T s 0 lo) (GH T s xs.length hi)else none
 | none=>none
theorem sK(x:Operand)(d:D)(lo hi:Option Operand)(e:TypeId)(hz:T.isStruct e=false):cb T pm s x d lo hi none (.slice e)=nE T pm s e lo hi (Ak pm s x d):=by
 have h1:=E7 hz
 simp only [cb,nE,Option.isSome_none,Bool.false_eq_true,if_false]
 rcases Ak pm s x d with _ | ⟨e',xs,o⟩
 ·rfl
 ·simp only
  by_cases he:e=e'
  ·subst he
   simp only [true_and,h1,Nat.mul_one,Tys.len,if_true]
   cases GH T s 0 lo<;>cases GH T s xs.length hi<;>simp only [bQ]<;>(by_cases hk:T.known e=true<;>simp [hk])
  ·simp only [he,false_and,if_false]
   cases GH T s 0 lo<;>cases GH T s (T.len e' xs) hi<;>rfl
theorem sL(e:TypeId)(lo hi:Option Operand)(xs:List D)(o:Option (A2×Nat×Nat))(hk:T.known e=true):nE T pm s e lo hi (some (e,xs,o))=bQ T pm s e xs o (GH T s 0 lo) (GH T s xs.length hi):=by simp [nE,hk]
theorem sM(e:TypeId)(xs:List D)(l h:Nat)(h1:l≤h)(h2:h≤xs.length):bQ T pm s e xs none (some l) (some h)=some (.sl e ((xs.take h).drop l),s):=by simp [bQ,h1,h2]
def ix(pm:Pm)(s:St)(e:TypeId)(L:A2)(a b l h:Nat)(o:Option (List D)):Option (D×St):=
 if pm.wr (L.headD 0)then
  match o with
  | some ys=>some (.sl e ((ys.take h).drop l),s.set L (.sl e ys))
  | none=>none
 else JV L a b e l h s
theorem sN(e:TypeId)(xs:List D)(L:A2)(a b l h:Nat)(h1:l≤h)(h2:h≤xs.length):bQ T pm s e xs (some (L,a,b)) (some l) (some h)=ix pm s e L a b l h (B5 xs):=by
 simp only [bQ,h1,h2,and_self,if_true];rfl
theorem sO(e:TypeId)(L:A2)(a b l h:Nat)(ys:List D)(hw:pm.wr (L.headD 0)=true):ix pm s e L a b l h (some ys)=some (.sl e ((ys.take h).drop l),s.set L (.sl e ys)):=by simp only [ix];rw [if_pos hw]
theorem sP(e:TypeId)(L:A2)(a b l h:Nat)(o:Option (List D))(hw:pm.wr (L.headD 0)=false):ix pm s e L a b l h o=some (.vs e L a b l (h-l),s):=by simp only [ix];rw [if_neg (by rw [hw];decide)];rfl
theorem iy(r:Nat):pm.see.rd r=pm.rd r:=nr rfl
theorem iz(r:Nat):pm.see.wr r=false:=nr rfl
theorem sQ(u:Tmp):ZD pm (.tmp u)=pm.wr u:=nr rfl
def vQ(e:TypeId)(xs:List D)(s1:St):Option Nat→Option (D×St)
 | some h=>if h≤xs.length then some (.own e (xs.take h),s1)else none
 | none=>none
def j1(T:Tys)(s:St)(e':TypeId)(hi:Option Operand):Option (D×St)→Option (D×St)
 | some (.own e xs,s1)=>
  match GH T s (T.len e xs) hi with
  | some h=>if e'=e∧T.known e=true∧h≤T.len e xs then some (.own e (xs.take (h*T.size e)),s1)else none
  | none=>none
 | _=>none
def nF(T:Tys)(pm:Pm)(s:St)(t:TypeId)(x:Operand)(hi:Option Operand):Ty→Option (D×St)
 | .slice e=>j1 T s e hi (if ZD pm x then take T pm s t x else none)
 | _=>none
theorem yn(x:Operand)(hi:Option Operand):GK T pm s t x hi=nF T pm s t x hi (T.ty t):=by
 unfold GK nF j1
 cases T.ty t<;>rfl
theorem sR(x:Operand)(hi:Option Operand)(e:TypeId)(hw:ZD pm x=true):nF T pm s t x hi (.slice e)=j1 T s e hi (take T pm s t x):=by
 unfold nF;rw [if_pos hw]
theorem sT(hi:Option Operand)(e:TypeId)(xs:List D)(s1:St)(hk:T.known e=true)(hz:T.isStruct e=false):j1 T s e hi (some (.own e xs,s1))=vQ e xs s1 (GH T s xs.length hi):=by
 have h1:=E7 hz
 simp only [j1,hk,true_and,h1,Nat.mul_one,Tys.len,if_true]
 cases GH T s xs.length hi<;>rfl
theorem sU(e:TypeId)(xs:List D)(s1:St)(h:Nat)(hle:h≤xs.length):vQ e xs s1 (some h)=some (.own e (xs.take h),s1):=by
 show(if h≤xs.length then some (D.own e (xs.take h),s1)else none)=_
 rw [if_pos hle]
def vR(e:TypeId)(xs:List D)(s1:St):Option Nat→Option (D×St)
 | some l=>if l≤xs.length then some (.own e (xs.drop l),s1)else none
 | none=>none
def j3(T:Tys)(s:St)(e':TypeId)(lo:Option Operand):Option (D×St)→Option (D×St)
 | some (.own e xs,s1)=>
  match GH T s 0 lo with
  | some l=>if e'=e∧T.known e=true∧l≤T.len e xs then some (.own e (xs.drop (l*T.size e)),s1)else none
  | none=>none
 | _=>none
def nG(T:Tys)(pm:Pm)(s:St)(t:TypeId)(x:Operand)(lo:Option Operand):Ty→Option (D×St)
 | .slice e=>j3 T s e lo (if ZD pm x then take T pm s t x else none)
 | _=>none
theorem yo(x:Operand)(lo:Option Operand):En T pm s t x lo=nG T pm s t x lo (T.ty t):=by
 unfold En nG j3
 cases T.ty t<;>rfl
theorem sV(x:Operand)(lo:Option Operand)(e:TypeId)(hw:ZD pm x=true):nG T pm s t x lo (.slice e)=j3 T s e lo (take T pm s t x):=by
 unfold nG;rw [if_pos hw]
theorem sW(lo:Option Operand)(e:TypeId)(xs:List D)(s1:St)(hk:T.known e=true)(hz:T.isStruct e=false):j3 T s e lo (some (.own e xs,s1))=vR e xs s1 (GH T s 0 lo):=by
 have h1:=E7 hz
 simp only [j3,hk,true_and,h1,Nat.mul_one,Tys.len,if_true]
 cases GH T s 0 lo<;>rfl
theorem sX(e:TypeId)(xs:List D)(s1:St)(l:Nat)(hle:l≤xs.length):vR e xs s1 (some l)=some (.own e (xs.drop l),s1):=by
 show(if l≤xs.length then some (D.own e (xs.drop l),s1)else none)=_
 rw [if_pos hle]
def cc(T:Tys)(e:TypeId)(L:A2)(lo len:Nat):Option D→Option (D×List (A2×D))
 | some (.own e' xs)=>
  if e'=e∧T.known e=true∧(lo+len)*T.size e≤xs.length then
   (B5 xs).map fun ys=>(.sl e ((ys.drop (lo*T.size e)).take (len*T.size e)),[(L, .own e' xs)])
  else none
 | _=>none
theorem sY(e:TypeId)(L L0:A2)(n m lo len j:Nat):EO T false pm s j L0 (.vs e L n m lo len)=cc T e L lo len (s.look pm L n m):=by
 show LO T pm s e L n m lo len=_
 unfold LO cc
 rcases s.look pm L n m with _ | d
 ·rfl
 ·cases d<;>rfl
def sZ(e:TypeId)(L:A2)(lo len:Nat)(xs:List D):Option (List D)→Option (D×List (A2×D))
 | some ys=>some (.sl e ((ys.drop lo).take len),[(L, .own e xs)])
 | none=>none
theorem sa(e:TypeId)(L:A2)(l h:Nat)(xs:List D)(hk:T.known e=true)(hz:T.isStruct e=false)(h1:l≤h)(h2:h≤xs.length):cc T e L l (h-l) (some (.own e xs))=sZ e L l (h-l) xs (B5 xs):=by
 have h3:=E7 hz
 unfold cc
 simp only [h3,Nat.mul_one]
 rw [if_pos ⟨trivial,hk,by omega⟩]
 cases B5 xs<;>rfl
theorem sc(e:TypeId)(L:A2)(lo len:Nat)(xs:List D)(hk:T.known e=true)(hz:T.isStruct e=false)(h1:lo+len≤xs.length):cc T e L lo len (some (.own e xs))=sZ e L lo len xs (B5 xs):=by
 have h3:=E7 hz
 unfold cc
 simp only [h3,Nat.mul_one]
 rw [if_pos ⟨trivial,hk,h1⟩]
 cases B5 xs<;>rfl
theorem sd(e:TypeId)(L:A2)(lo len:Nat)(xs ys:List D):sZ e L lo len xs (some ys)=some (.sl e ((ys.drop lo).take len),[(L, .own e xs)]):=nr rfl
theorem j4(x y:Tmp)(t':TypeId):ES E pm s dst (.call ⟨.builtin .copy, #[.tmp x, .tmp y], #[t,t']⟩) ty=KC dst (Fp E.T pm s t (.tmp x) (.tmp y) (s.v x) (s.v y)):=Ez dst _
def VT(T:Tys)(pm:Pm)(s:St)(t:TypeId):Option (TypeId×A2×List D×Nat×Nat)→Option (TypeId×List D)→Option (D×St)
 | some (e,L,xs,lo,len),some (e',ys)=>
  if T.isSl t e&&(e==e')&&T.known e&&(T.size e==1)&& !AC xs&& !AC ys&&ys.all Ai&&pm.wr (L.headD 0)then
   some (.int .i64 (min len ys.length:Nat),s.set L (.own e (Al xs lo (ys.take (min len ys.length)))))
  else none
 | _,_=>none
theorem se(x y:Operand)(a b:D):Fp T pm s t x y a b=VT T pm s t (HQ pm s x a) (Iz pm s y b):=by
 unfold Fp VT
 rcases HQ pm s x a with _ | ⟨_,_,_,_,_⟩<;>rcases Iz pm s y b with _ | ⟨_,_⟩<;>rfl
theorem sf(e:TypeId)(L:A2)(xs ys:List D)(lo len:Nat)(h1:T.isSl t e=true)(h2:T.known e=true)(h3:T.size e=1)(h4:AC xs=false)(h5:AC ys=false)(h6:ys.all Ai=true)(h7:pm.wr (L.headD 0)=true):
  VT T pm s t (some (e,L,xs,lo,len)) (some (e,ys))=some (.int .i64 (min len ys.length:Nat),s.set L (.own e (Al xs lo (ys.take (min len ys.length))))):=by
 unfold VT
 dsimp only
 rw [if_pos (by rw [h1,h2,h3,h4,h5,h6,h7];simp)]
theorem bR(x:Tmp):ES E pm s dst (.call ⟨.builtin .clear, #[.tmp x], #[t]⟩) ty=KC dst (Ea E.T pm s t (.tmp x) (s.v x)):=Ez dst _
def VU(T:Tys)(pm:Pm)(s:St)(t:TypeId):Option (TypeId×A2×List D×Nat×Nat)→Option (D×St)
 | some (e,L,xs,lo,len)=>
  if T.isSl t e&&T.known e&&(T.size e==1)&& !T.isStruct e&&Ai (T.zero1 e)&&pm.wr (L.headD 0)then
   some (.tup [],(s.set L (.own e (Al xs lo (List.replicate len (T.zero1 e))))).bump (L.headD 0))
  else none
 | none=>none
theorem sg(x:Operand)(a:D):Ea T pm s t x a=VU T pm s t (HQ pm s x a):=by
 unfold Ea VU
 rcases HQ pm s x a with _ | ⟨_,_,_,_,_⟩<;>rfl
theorem sh(e:TypeId)(L:A2)(xs:List D)(lo len:Nat)(h1:T.isSl t e=true)(h2:T.known e=true)(h3:T.isStruct e=false)(h5:Ai (T.zero1 e)=true)(h7:pm.wr (L.headD 0)=true):
  VU T pm s t (some (e,L,xs,lo,len))=some (.tup [],(s.set L (.own e (Al xs lo (List.replicate len (T.zero1 e))))).bump (L.headD 0)):=by
 have h8:=E7 h3
 unfold VU
 dsimp only
 rw [if_pos (by rw [h1,h2,h3,h5,h7,h8];simp)]
def bS(e:TypeId):Ty→Bool
 | .slice e'=>e'==e
 | _=>false
theorem sk(e:TypeId):T.isSl t e=bS e (T.ty t):=by unfold Tys.isSl bS;cases T.ty t<;>rfl
theorem sm(e e':TypeId):bS e (.slice e')=(e'==e):=nr rfl
def sn:Option (TypeId×List D×Option (A2×Nat×Nat))→Option (TypeId×A2×List D×Nat×Nat)
 | some (e,xs,some (L,_,_))=>some (e,L,xs,0,xs.length)
 | _=>none
theorem so(e:TypeId)(xs:List D)(L:A2)(a b:Nat):sn (some (e,xs,some (L,a,b)))=some (e,L,xs,0,xs.length):=nr rfl
theorem yp(x:Operand)(L:A2)(n m:Nat):HQ pm s x (.vw L n m)=sn (Ak pm s x (.vw L n m)):=by
 show(match Ak pm s x (.vw L n m)with | some (e,xs,some (L,_,_))=>some (e,L,xs,0,xs.length) | _=>none)=_
 rcases Ak pm s x (.vw L n m)with _ | ⟨_,_,_ | ⟨_,_,_⟩⟩<;>rfl
theorem yq(x:Operand)(e:TypeId)(xs:List D):HQ pm s x (.own e xs)=sn (Ak pm s x (.own e xs)):=by
 show(match Ak pm s x (.own e xs)with | some (e,xs,some (L,_,_))=>some (e,L,xs,0,xs.length) | _=>none)=_
 rcases Ak pm s x (.own e xs)with _ | ⟨_,_,_ | ⟨_,_,_⟩⟩<;>rfl
def sq(e:TypeId)(L:A2)(lo len:Nat):Option D→Option (TypeId×A2×List D×Nat×Nat)
 | some (.own e' xs)=>if e'=e∧lo+len≤xs.length then some (e,L,xs,lo,len)else none
 | _=>none
theorem yr(x:Operand)(e:TypeId)(L:A2)(n m lo len:Nat):HQ pm s x (.vs e L n m lo len)=sq e L lo len (s.look pm L n m):=by
 show(match s.look pm L n m with | some (.own e' xs)=>if e'=e∧lo+len≤xs.length then some (e,L,xs,lo,len)else none | _=>none)=_
 rcases s.look pm L n m with _ | d
 ·rfl
 ·cases d<;>rfl
theorem sr(e:TypeId)(L:A2)(lo len:Nat)(xs:List D)(h:lo+len≤xs.length):sq e L lo len (some (.own e xs))=some (e,L,xs,lo,len):=by simp [sq,h]
def ss:Option (TypeId×List D×Option (A2×Nat×Nat))→Option (TypeId×List D)
 | some (e,xs,_)=>some (e,xs)
 | _=>none
theorem su(e:TypeId)(xs:List D)(o:Option (A2×Nat×Nat)):ss (some (e,xs,o))=some (e,xs):=nr rfl
theorem yt(x:Operand)(L:A2)(n m:Nat):Iz pm s x (.vw L n m)=ss (Ak pm s x (.vw L n m)):=by
 show(Ak pm s x (.vw L n m)).map (fun r=>(r.1,r.2.1))=_
 rcases Ak pm s x (.vw L n m)with _ | ⟨_,_,_⟩<;>rfl
theorem yu(x:Operand)(e:TypeId)(xs:List D):Iz pm s x (.own e xs)=ss (Ak pm s x (.own e xs)):=by
 show(Ak pm s x (.own e xs)).map (fun r=>(r.1,r.2.1))=_
 rcases Ak pm s x (.own e xs)with _ | ⟨_,_,_⟩<;>rfl
theorem yv(x:Operand)(e:TypeId)(xs:List D):Iz pm s x (.sl e xs)=some (e,xs):=nr rfl
def sw(e:TypeId)(lo len:Nat):Option D→Option (TypeId×List D)
 | some (.own e' xs)=>if e'=e∧lo+len≤xs.length then some (e,(xs.drop lo).take len)else none
 | _=>none
theorem yw(x:Operand)(e:TypeId)(L:A2)(n m lo len:Nat):Iz pm s x (.vs e L n m lo len)=sw e lo len (s.look pm L n m):=by
 show(match s.look pm L n m with | some (.own e' xs)=>if e'=e∧lo+len≤xs.length then some (e,(xs.drop lo).take len)else none | _=>none)=_
 rcases s.look pm L n m with _ | d
 ·rfl
 ·cases d<;>rfl
theorem sx(e:TypeId)(lo len:Nat)(xs:List D)(h:lo+len≤xs.length):sw e lo len (some (.own e xs))=some (e,(xs.drop lo).take len):=by simp [sw,h]
theorem sy(x:Tmp)(e:TypeId)(L:A2)(n m lo len:Nat):Ao s dst (.tmp x) (.vs e L n m lo len)=s.putO dst (.vs e L n m lo len):=nr rfl
theorem j5(x:Tmp)(e:TypeId)(L:A2)(n m lo len:Nat):Hu pm x (.vs e L n m lo len)=true:=by simp [Hu,D.hasObj]
theorem t6(e:TypeId)(L:A2)(n m lo len:Nat):(D.vs e L n m lo len).hasObj=false:=by simp [D.hasObj]
theorem t7(x:Operand)(d:D)(e:TypeId)(hk:T.known e=true):cb T pm s x d none (some (.const (.int .i64 0))) (some (.const (.int .i64 0))) (.slice e)=match Ak pm s x d with | some (e',_,_)=>if e=e' then some (.own e [],s)else none | none=>none:=by
 simp only [cb]
 rcases Ak pm s x d with _ | ⟨e',xs,o⟩
 ·rfl
 ·simp only [GH,ev,HA,Int.le_refl,if_true,Int.toNat_zero,Nat.zero_le,and_true,Option.isSome_some,true_and]
  by_cases he:e=e'
  ·subst he;simp [hk]
  ·simp [he]
end
theorem Px{P:Program}{T:Tys}{f:FuncId}{e:TypeId}{r:D}{outs:List D}(hk:T.known e=true)(h: ∀A c,Good P T f [.konst (.slice A 0 c)] [] r outs):Good P T f [.sl e []] [] r outs:=by
 refine⟨(h none 0).1,fun vs gh w S FL hsz hA hL hL0 hLd hlt=> ?_⟩
 obtain⟨v,hv,hW⟩:=hA 0 _ rfl
 obtain⟨A,c,rfl⟩: ∃A c,v= .slice A 0 c:=by
  cases hW with
  | sl us hE hn hc hm hx hw=>
   rename_i A n c
   have hp:=O5 hk
   have:n=0:=by
    simp only [List.length_nil]at hn
    rcases Nat.mul_eq_zero.1 hn.symm with h0 | h0
    ·exact h0
    ·omega
   subst this
   exact⟨_,_,rfl⟩
 refine(h A c).2 vs gh w S FL hsz (fun i d hi=> ?_) hL hL0 hLd hlt
 cases i with
 | zero=>simp at hi;subst hi;exact⟨_,hv, .konst (fun _ h=>h)⟩
 | succ i=>simp at hi
end Dv
namespace Dv
open Go
set_option maxRecDepth 10000
set_option linter.defProp false
theorem geq:G=100000:=nr rfl
def A9:=And.intro @oH (And.intro @j4 (And.intro @bR (And.intro @oG (
 And.intro @oK (
 And.intro @oL (
 And.intro @nR (
 And.intro @nS (
 And.intro @d6 (
 And.intro @d7 (
 And.intro @ZR (
 And.intro @rN (
 And.intro @yS (
 And.intro @bN (
 And.intro @nZ (
 And.intro @dN (
 And.intro @nX (
 And.intro @ZZ (
 And.intro @dO (
 And.intro @dR (
 And.intro @Za (
 And.intro @dL (
 And.intro @dM (
 And.intro @nW (
 And.intro @Zb (
 And.intro @Zc (
 And.intro @Zd (
 And.intro @nb (
 And.intro @nc (
 And.intro @nd (
 And.intro @ne (
 And.intro @nf (
 And.intro @ng (
 And.intro @dS (
 And.intro @dT (
 And.intro @Pk (
 And.intro @O9 (
 And.intro @ej (
 And.intro @V9 (
 And.intro @T9 (
 And.intro @Zs (
 And.intro @ek (
 And.intro @xM (
 And.intro @Zt (
 And.intro @oF (
 And.intro @TA (
 And.intro @Zu (
 And.intro @VA (
 And.intro @Zv (
 And.intro @et (
 And.intro @TB (
 And.intro @ey (
 And.intro @Sw (
 And.intro @Rc (
 And.intro @Ra (
 And.intro @bF (
 And.intro @y7 (@MX)))))))))))))))))))))))))))))))))))))))))))))))))))))))))
def A5:=And.intro @ni (And.intro @np (And.intro @oV (And.intro @oW (And.intro @oX (And.intro @oR (And.intro qw (And.intro @oe (And.intro @og (And.intro @Zz (And.intro @fH (And.intro @aA (And.intro @yN (And.intro @yO (And.intro @rX (And.intro @rY (And.intro @rZ (And.intro @qP (And.intro @qQ (And.intro @qR (And.intro @qS (And.intro @aQ (And.intro @pF (And.intro @pG (And.intro @aR (And.intro @yD (And.intro @yE (And.intro @rF (And.intro @rG (And.intro @iZ (And.intro @bG (And.intro @rJ (And.intro @rK (And.intro @y8 (And.intro @y9 (And.intro @yA (And.intro @yo (And.intro @sV (And.intro @sW (And.intro @sX (And.intro @dY (And.intro @rr (And.intro @yU (And.intro @rt (And.intro @ru (And.intro @yV (And.intro @yW (And.intro @yX (And.intro @yY (And.intro @ry (And.intro @rz (And.intro @s0 (And.intro @s4 (And.intro @yZ (And.intro @ya (And.intro @yb (And.intro @yc (And.intro @s7 (And.intro @sA (And.intro @sB (And.intro @sD (And.intro @yd (And.intro @ye (And.intro @yf (And.intro @yg (And.intro @yh (And.intro @yi (And.intro @yj (And.intro @sG (And.intro @oC (And.intro @oD (And.intro @oE (And.intro @sg (And.intro @sh (And.intro @nQ (And.intro @o8 (And.intro @VF (And.intro @aP (And.intro @pD (And.intro @pE (And.intro @g4 (And.intro @pH (And.intro @fC (And.intro @Zy (And.intro @fF (And.intro @aB (And.intro @fI (And.intro @fJ (And.intro @fK (And.intro @aD (And.intro @fL (And.intro @fM (And.intro @fN (And.intro @fO (And.intro @sP (And.intro @o7 (And.intro @o9 (
 And.intro @iy (
 And.intro @iz (
 And.intro @sQ (
 And.intro @yn (
 And.intro @sR (
 And.intro @sT (
 And.intro @sU (
 And.intro @sY (
 And.intro @sa (
 And.intro @sc (
 And.intro @sd (
 And.intro @gN (
 And.intro @aX (
 And.intro @gO (
 And.intro @pc (
 And.intro @gP (
 And.intro @aY (
 And.intro @xd (
 And.intro @gQ (
 And.intro @gR (
 And.intro @pd (
 And.intro @gS (
 And.intro @se (
 And.intro @sf (
 And.intro @sk (
 And.intro @sm (
 And.intro @so (
 And.intro @yp (
 And.intro @yq (
 And.intro @yr (
 And.intro @sr (
 And.intro @su (
 And.intro @yt (
 And.intro @yu (
 And.intro @yv (
 And.intro @yw (
 And.intro @sx (
 And.intro @sy (
 And.intro @j5 (
 And.intro @t6 (
 And.intro @nq (
 And.intro @ns (
 And.intro @nt (
 And.intro @eC (
 And.intro @eD (
 And.intro @eE (
 And.intro @eF (
 And.intro @nu (
 And.intro @xH (
 And.intro @eG (
 And.intro @Zn (
 And.intro @eH (
 And.intro @nv (
 And.intro @eI (
 And.intro @eJ (
 And.intro @eK (
 And.intro @eL (
 And.intro @i3 (
 And.intro @i4 (
 And.intro @au (
 And.intro @i5 (
 And.intro @qD (
 And.intro @i6 (
 And.intro @i7 (
 And.intro @i8 (
 And.intro @i9 (
 And.intro @qE (
 And.intro @yC (
 And.intro @ia (
 And.intro @bJ (
 And.intro @ib (
 And.intro @rO (
 And.intro @ic (
 And.intro @rP (
 And.intro @ie (
 And.intro @d8 (
 And.intro @d9 (
 And.intro @nT (
 And.intro @nU (
 And.intro @nV (
 And.intro @dA (
 And.intro @xG (
 And.intro @oM (
 And.intro @eq (
 And.intro @oN (
 And.intro @xN (
 And.intro @gK (
 And.intro @pU (
 And.intro @pV (
 And.intro @gk (
 And.intro @gl (
 And.intro @ai (
 And.intro @yQ (
 And.intro @yR (
 And.intro @rf (
 And.intro @im (
 And.intro @bL (
 And.intro @io (
 And.intro @rc (
 And.intro @re (
 And.intro @ip (
 And.intro @il (
 And.intro @rQ (
 And.intro @rR (
 And.intro @rT (
 And.intro @ig (
 And.intro @rU (
 And.intro @rV (
 And.intro @rW (
 And.intro @yF (
 And.intro @yG (
 And.intro @yH (
 And.intro @yI (
 And.intro @vM (
 And.intro @yJ (
 And.intro @yK (
 And.intro @yM (
 And.intro @ii (
 And.intro @bK (
 And.intro @ij (
 And.intro @ra (
 And.intro @ik (
 And.intro @rb (
 And.intro @yP (
 And.intro @rg (
 And.intro @rh (
 And.intro @bM (
 And.intro @ri (
 And.intro @rj (
 And.intro @rk (
 And.intro @ir (
 And.intro @it (
 And.intro @rm (
 And.intro @rn (
 And.intro @ro (
 And.intro @rp (
 And.intro @rq (
 And.intro @Rm (
 And.intro @yk (
 And.intro @yl (
 And.intro @sJ (
 And.intro @ym (
 And.intro @sK (
 And.intro @t7 (
 And.intro @sL (
 And.intro @sM (
 And.intro @sN (
 And.intro @sO (
 And.intro @iA (
 And.intro @xq (
 And.intro @xr (
 And.intro @xt (
 And.intro @xu (
 And.intro @iB (
 And.intro @av (
 And.intro @xv (
 And.intro @xw (
 And.intro @xx (
 And.intro @xy (
 And.intro @xz (
 And.intro @xj (
 And.intro @xk (
 And.intro @xl (
 And.intro @xm (
 And.intro @ap (
 And.intro @aq (
 And.intro @py (
 And.intro @hU (
 And.intro @pI (
 And.intro @pJ (
 And.intro @pK (
 And.intro @pL (
 And.intro @xX (
 And.intro @pN (
 And.intro @xY (
 And.intro @pZ (
 And.intro @pa (
 And.intro @pb (
 And.intro @y1 (
 And.intro @qH (
 And.intro @qI (
 And.intro @ay (
 And.intro @VH (
 And.intro @az (
 And.intro @iD (
 And.intro @b0 (
 And.intro @b3 (
 And.intro @iE (
 And.intro @iF (
 And.intro @qJ (
 And.intro @b4 (
 And.intro @VI (
 And.intro @b5 (
 And.intro @b6 (
 And.intro @TE (
 And.intro @b7 (
 And.intro @VJ (
 And.intro @iG (
 And.intro @VK (
 And.intro @qK (
 And.intro @b8 (
 And.intro @VL (
 And.intro @iH (
 And.intro @qL (
 And.intro @b9 (
 And.intro @qM (
 And.intro @qN (
 And.intro @qO (
 And.intro @qT (
 And.intro @qU (
 And.intro @qV (
 And.intro @bA (
 And.intro @y2 (
 And.intro @y3 (
 And.intro @nY (
 And.intro @dP (
 And.intro @na (
 And.intro @nM (
 And.intro @nN (
 And.intro @nO (
 And.intro @rH (
 And.intro @rC (And.intro @rB (And.intro @rD (And.intro @rE (
 And.intro @qz (
 And.intro @yB (
 And.intro @rL (
 And.intro @rM (
 And.intro @iV (
 And.intro @iW (
 And.intro @ZS (
 And.intro @ZT (
 And.intro @Uy (
 And.intro @ZU (
 And.intro @ZV (
 And.intro @Uz (
 And.intro @dU (
 And.intro @Ze (
 And.intro @dV (
 And.intro @nh (
 And.intro @V4 (
 And.intro @dW (
 And.intro @dX (
 And.intro @nj (
 And.intro @nk (
 And.intro @Zf (
 And.intro @dZ (
 And.intro @de (
 And.intro @df (
 And.intro @Zg (
 And.intro @dg (
 And.intro @dh (
 And.intro @Zh (
 And.intro @dj (
 And.intro @nl (
 And.intro @V5 (
 And.intro @V6 (
 And.intro @dk (
 And.intro @dm (
 And.intro @nm (
 And.intro @dn (
 And.intro @Zi (
 And.intro @V7 (
 And.intro @Zj (
 And.intro @dp (
 And.intro @T3 (
 And.intro @T4 (
 And.intro @dq (
 And.intro @Zk (
 And.intro @Zl (
 And.intro @dr (
 And.intro @dt (
 And.intro @Zm (
 And.intro @du (
 And.intro @no (
 And.intro @V8 (
 And.intro @dw (
 And.intro @dz (
 And.intro @eA (
 And.intro @eB (
 And.intro @nw (
 And.intro @Zo (
 And.intro @eM (
 And.intro @eN (
 And.intro @eO (
 And.intro @xF (
 And.intro @xD (
 And.intro @xE (
 And.intro @d3 (
 And.intro @d4 (
 And.intro @d5 (
 And.intro @oJ (
 And.intro @eo (
 And.intro @ep (
 And.intro @oO (
 And.intro @oP (
 And.intro @oT (
 And.intro @oU (
 And.intro @eP (
 And.intro @eQ (
 And.intro @eR (
 And.intro @eS (
 And.intro @eT (
 And.intro @eU (
 And.intro @nx (
 And.intro @eV (
 And.intro @T5 (
 And.intro @eW (
 And.intro @eX (
 And.intro @ny (
 And.intro @nz (
 And.intro @o3 (
 And.intro @o4 (
 And.intro @o5 (
 And.intro @o6 (
 And.intro @eY (
 And.intro @eZ (
 And.intro @eb (
 And.intro @ec (
 And.intro @ed (
 And.intro @Zp (
 And.intro @ee (
 And.intro @ef (
 And.intro @xI (
 And.intro @xJ (
 And.intro @xK (
 And.intro @xL (
 And.intro @Zq (
 And.intro @eg (
 And.intro @eh (
 And.intro @ei (
 And.intro @xO (
 And.intro @oY (
 And.intro @xP (
 And.intro @oZ (
 And.intro @xQ (
 And.intro @oa (
 And.intro @xR (
 And.intro @ob (
 And.intro @ez (
 And.intro @f6 (
 And.intro @Zw (
 And.intro @Zx (
 And.intro @f7 (
 And.intro @oc (
 And.intro @f8 (
 And.intro @od (
 And.intro @fA (
 And.intro @fB (
 And.intro @xS (
 And.intro @ol (
 And.intro @fP (
 And.intro @fQ (
 And.intro @xT (
 And.intro @oq (
 And.intro @qx (
 And.intro @iS (
 And.intro @qy (
 And.intro @iT (
 And.intro @VD (
 And.intro @Pq (
 And.intro @OH (
 And.intro @Pr (
 And.intro @VN (
 And.intro @TN (
 And.intro @Ps (
 And.intro @Rj (
 And.intro @Pt (
 And.intro @Mb (
 And.intro @Hv (
 And.intro @bD (
 And.intro @VO (
 And.intro @TL (
 And.intro @TP (
 And.intro @OG (
 And.intro @TM (
 And.intro @fR (
 And.intro @xU (
 And.intro @fY (
 And.intro @aJ (
 And.intro @fZ (
 And.intro @ox (
 And.intro @fa (
 And.intro @fb (
 And.intro @fc (
 And.intro @aK (
 And.intro @oy (
 And.intro @fd (
 And.intro @fS (
 And.intro @aG (
 And.intro @fT (
 And.intro @ot (
 And.intro @fU (
 And.intro @fV (
 And.intro @fW (
 And.intro @aH (
 And.intro @ou (
 And.intro @Vw (
 And.intro @ov (
 And.intro @ow (
 And.intro @aI (
 And.intro @VE (
 And.intro @aL (
 And.intro @Qo (
 And.intro @v6 (
 And.intro @uz (
 And.intro @v7 (
 And.intro @fe (
 And.intro @ff (
 And.intro @fg (
 And.intro @fh (
 And.intro @aM (
 And.intro @oz (
 And.intro @p5 (
 And.intro @xV (
 And.intro @xW (
 And.intro @fi (
 And.intro @fj (
 And.intro @fk (
 And.intro @p7 (
 And.intro @fm (
 And.intro @p8 (
 And.intro @p9 (
 And.intro @pA (
 And.intro @pB (
 And.intro @fp (
 And.intro @fq (
 And.intro @ft (
 And.intro @fu (
 And.intro @fv (
 And.intro @fw (
 And.intro @fx (
 And.intro @fy (
 And.intro @aN (
 And.intro @pO (
 And.intro @g5 (
 And.intro @g6 (
 And.intro @g7 (
 And.intro @g8 (
 And.intro @g9 (
 And.intro @aS (
 And.intro @gA (
 And.intro @pP (
 And.intro @gB (
 And.intro @gC (
 And.intro @gD (
 And.intro @aT (
 And.intro @xZ (
 And.intro @gE (
 And.intro @aU (
 And.intro @gF (
 And.intro @pQ (
 And.intro @gG (
 And.intro @pR (
 And.intro @gH (
 And.intro @pS (
 And.intro @pX (
 And.intro @pY (
 And.intro @aV (
 And.intro @aW (
 And.intro @gL (
 And.intro @gM (
 And.intro @xb (
 And.intro @xc (
 And.intro @xa (
 And.intro @gT (
 And.intro @aZ (
 And.intro @gU (
 And.intro @pf (
 And.intro @gV (
 And.intro @aa (
 And.intro @xe (
 And.intro @gX (
 And.intro @gY (
 And.intro @pj (
 And.intro @ab (
 And.intro @ac (
 And.intro @gZ (
 And.intro @ga (
 And.intro @pg (
 And.intro @pi (
 And.intro @pl (
 And.intro @pn (
 And.intro @ae (
 And.intro @gc (
 And.intro @af (
 And.intro @gd (
 And.intro @ah (
 And.intro @ge (
 And.intro @po (
 And.intro @gg (
 And.intro @pp (
 And.intro @gm (
 And.intro @xf (
 And.intro @pq (
 And.intro @pr (
 And.intro @pt (
 And.intro @xg (
 And.intro @pu (
 And.intro @pv (
 And.intro @gn (
 And.intro @ak (
 And.intro @go (
 And.intro @Vy (
 And.intro @gp (
 And.intro @gq (
 And.intro @gr (
 And.intro @al (
 And.intro @Qp (
 And.intro @gt (
 And.intro @am (
 And.intro @gu (
 And.intro @gv (
 And.intro @gw (
 And.intro @an (
 And.intro @gy (
 And.intro @TD (
 And.intro @gz (
 And.intro @hJ (
 And.intro @hP (
 And.intro @ao (
 And.intro @pw (
 And.intro @JL (
 And.intro @px (
 And.intro @xh (
 And.intro @xi (
 And.intro @xp (
 And.intro @xn (
 And.intro @xo (
 And.intro @pz (
 And.intro @hX (
 And.intro @hZ (
 And.intro @qA (
 And.intro @ar (
 And.intro @qB (
 And.intro @qC (
 And.intro @i1 (
 And.intro @iC (
 And.intro @aw (
 And.intro @qG (
 And.intro @BG (
 And.intro @T6 (
 And.intro @KD (
 And.intro @OB (
 And.intro @OC (
 And.intro @Po (
 And.intro @dB (
 And.intro @dE (
 And.intro @ZW (
 And.intro @dH (
 And.intro @dC (
 And.intro @dF (
 And.intro @ZX (
 And.intro @dI (
 And.intro @dD (
 And.intro @dG (
 And.intro @ZY (
 And.intro @dJ (
 And.intro @Re (
 And.intro @Rf (
 And.intro @dK (
 And.intro @Rg (
 And.intro @T1 (
 And.intro @V1 (
 And.intro @V2 (
 And.intro @V3 (
 And.intro @geq (
 And.intro @Int.toNat_natCast (
 And.intro @Int.toNat_zero (
 And.intro @Int.natCast_nonneg (
 And.intro @Nat.zero_le (
 And.intro @Int.le_refl (
 And.intro @Nat.le_refl (
 And.intro @Bool.and_true (
 And.intro @Bool.true_and (
 And.intro @Bool.and_false (
 And.intro @Bool.false_and (
 And.intro @Bool.or_false (
 And.intro @Bool.false_or (
 And.intro @Bool.or_true (
 And.intro @Bool.true_or (
 And.intro @Bool.not_true (
 And.intro @Bool.not_false (
 And.intro @Bool.false_eq_true (
 And.intro @decide_true (
 And.intro @decide_false (
 And.intro @and_self (
 And.intro @and_true (@true_and))))))))))))))))))))))))))))))))))))))))))))))))))))))))))))))))))))))))))))))))))))))))))))))))))))))))))))))))))))))))))))))))))))))))))))))))))))))))))))))))))))))))))))))))))))))))))))))))))))))))))))))))))))))))))))))))))))))))))))))))))))))))))))))))))))))))))))))))))))))))))))))))))))))))))))))))))))))))))))))))))))))))))))))))))))))))))))))))))))))))))))))))))))))))))))))))))))))))))))))))))))))))))))))))))))))))))))))))))))))))))))))))))))))))))))))))))))))))))))))))))))))))))))))))))))))))))))))))))))))))))))))))))))))))))))))))))))))))))))))))))))))))))))))))))))))))))))))))))))))))))))))))))))))))))))))))))))))))))))))))))))))))))))))))))))))))))))))))))))))))))))))
end Dv
