/- Value semantics for Go code, part 4: arguments of laws, slim code and rules. Conditions: none beyond those in each lemma. -/
import Derived.Test.YtjhjkfoabhplfaaGreatL3
import Derived.WalkKit
import Derived.ProofKit
import Derived.OpenShut
import Derived.ShutString
import Derived.ChangeOld
import Derived.Below
import Derived.Carry
import Derived.IntWalk
set_option linter.unusedSimpArgs false
set_option linter.unusedVariables false
namespace Dv
open Go
inductive Shp(T:Tys):TypeId→List D→Prop
 | int {t k n} (ht:T.ty t= .int k) (hw:(Lit.int k n).wf=true):Shp T t [.int k n]
 | bool {t b} (ht:T.ty t= .bool):Shp T t [.bool b]
 | string {t s} (ht:T.ty t= .string) (hs:s.size≤maxLen):Shp T t [.str s]
 | slice {t e} {xss:List (List D)} (ht:T.ty t= .slice e) (hx: ∀xs,xs∈xss→Shp T e xs) (hl:xss.length≤maxLen):Shp T t [.sl e xss.flatten]
 | struct {t fs} {ds:List D} (ht:T.ty t= .struct fs) (hl:ds.length=fs.length) (hx: ∀(i:Nat) (f:TypeId) (d:D),fs[i]? =some f→ds[i]? =some d→Shp T f [d]):Shp T t ds
def Qm(T:Tys):Nat→TypeId→Bool
 | 0,_=>false
 | n+1,t=>match T.ty t with
  | .int _=>true
  | .bool=>true
  | .string=>true
  | .slice e=>T.known e&&Qm T n e
  | .struct fs=>(T.nest t).isNone&& !fs.isEmpty&&fs.all (Qm T n)
  | _=>false
theorem Shp.length{T:Tys}{t:TypeId}{ds:List D}(h:Shp T t ds):ds.length=T.size t:=by
 cases h with
 | int ht=>simp [Tys.size,ht,Ty.size]
 | bool ht=>simp [Tys.size,ht,Ty.size]
 | string ht=>simp [Tys.size,ht,Ty.size]
 | slice ht=>simp [Tys.size,ht,Ty.size]
 | struct ht hl=>simp [Tys.size,ht,Ty.size,hl]
theorem bV{α:Type}{n:Nat}(hn:0<n): ∀(xss:List (List α)),(∀xs∈xss,xs.length=n)→ ∀k:Nat,xss.flatten[k]? =(xss[k / n]?).bind fun xs=>xs[k % n]? :=by
 intro xss
 induction xss with
 | nil=>intro _ k;simp
 | cons xs xss ih=>
  intro h k;have hx:=h xs (List.mem_cons_self);rw [List.flatten_cons];rcases Nat.lt_or_ge k n with hk | hk
  ·rw [List.getElem?_append_left (by omega),Nat.div_eq_of_lt hk,Nat.mod_eq_of_lt hk];rfl
  ·rw [List.getElem?_append_right (by omega),ih (fun ys hy=>h ys (List.mem_cons_of_mem _ hy)),hx]
   have h1:k / n=(k-n) / n+1:=by
    rw [Nat.div_eq_sub_div hn hk]
   have h2:k % n=(k-n) % n:=by rw [Nat.mod_eq_sub_mod hk]
   rw [h1,h2];rfl
theorem V6{α:Type}{n:Nat}: ∀(xss:List (List α)),(∀xs∈xss,xs.length=n)→xss.flatten.length=xss.length*n:=by
 intro xss
 induction xss with
 | nil=>intro _;simp
 | cons xs xss ih=>
  intro h;rw [List.flatten_cons,List.length_append,ih (fun ys hy=>h ys (List.mem_cons_of_mem _ hy)),h xs (List.mem_cons_self),List.length_cons,Nat.add_mul];omega
abbrev kD(w:World):Nat→Prop:=fun k=>k<w.heap.size
section
variable {P:Program} {T:Tys} {H:Type} {enc:TypeId×Value→H} {w:World} {spare:Nat→Bool} {F6:Bool}
theorem Br.cells(h:Br P T){t:TypeId}(hk:T.known t=true):P.cellsOf t=T.size t:=by
 obtain⟨i,h1,h2,_⟩:=h.info hk;simp [Program.cellsOf,h1,h2]
theorem gz{n:Nat}{t:TypeId}(h:Qm T n t=true):T.known t=true:=by
 cases n with
 | zero=>cases h
 | succ n=>
  unfold Qm at h;unfold Tys.known
  cases ht:T.ty t with
  | struct fs=>
   rw [ht]at h
   cases fs with
   | nil=>simp at h
   | cons=>rfl
  | other=>rw [ht]at h;cases h
  | map=>rw [ht]at h;cases h
  | _=>rfl
theorem bW{t:TypeId}(hk:T.known t=true):0<T.size t:=by
 unfold Tys.known at hk;unfold Tys.size
 cases ht:T.ty t with
 | struct fs=>
  rw [ht]at hk
  cases fs with
  | nil=>cases hk
  | cons=>simp [Ty.size]
 | _=>simp [Ty.size]
theorem iA{base:Nat}{a:Addr}{n:Nat}{cs:List Value}(h:w.cells? base a n=some cs):cs.length=n∧ ∀i,i<n→w.cell? (a.add i)=cs[i]? :=by
 unfold World.cells? at h
 split at h
 ·exact⟨by simpa using mapM_some_length h,fun i hi=>by have:=mapM_some_get h i i (by simp [hi]);simpa using this⟩
 ·cases h
theorem wF{ad:Addr}{v:Value}(h:w.cell? ad=some v):ad.block<w.heap.size:=by
 rcases Nat.lt_or_ge ad.block w.heap.size with hl | hl
 ·exact hl
 ·have h1:=Array.getElem?_eq_none hl;simp [World.cell?,h1]at h
theorem pz(hT:Br P T): ∀(fuel:Nat) (n:Nat) (t:TypeId) (cs:List Value) (x:DataW H×List MemPlace),Qm T n t=true→DataW.trod enc P w 0 spare F6 fuel t cs=some x→
  ∃ds,Shp T t ds∧cs.length=ds.length∧ ∀(i:Nat) (d:D),ds[i]? =some d→ ∃v,cs[i]? =some v∧W T (kD w) w V0 HY d v (fun _=>False):=by
 have hE:Em (fun _:Nat=>False):=fun _ h=>h
 have one: ∀(d0:D) (v0:Value),W T (kD w) w V0 HY d0 v0 (fun _=>False)→ ∀(i:Nat) (d:D),[d0][i]? =some d→ ∃v,[v0][i]? =some v∧W T (kD w) w V0 HY d v (fun _=>False):=by
  intro d0 v0 h i d hi
  cases i with
  | zero=>simp at hi;subst hi;exact⟨v0,rfl,h⟩
  | succ i=>simp at hi
 intro fuel
 induction fuel with
 | zero=>intro n t cs x _ h;simp [DataW.trod]at h
 | succ fuel ih=>
  intro n t cs x hd h;have hk:=gz hd;have h0:=(hT t).1;unfold Fa at h0
  cases n with
  | zero=>cases hd
  | succ n=>
   unfold Qm at hd
   cases ht:T.ty t<;>rw [ht]at h0 hd<;>simp only at h0 hd
   case int k=>
    obtain⟨m,rfl,_,hw⟩:=DataW.trod_int h0.1 h
    exact⟨[.int k m],.int ht hw,rfl,one _ _ (.int hE)⟩
   case bool=>
    obtain⟨b,rfl,_⟩:=DataW.trod_bool h0.1 h
    exact⟨[.bool b],.bool ht,rfl,one _ _ (.bool hE)⟩
   case string=>
    obtain⟨s,rfl,_,hs⟩:=DataW.trod_string h0.1 h
    exact⟨[.str s],.string ht hs,rfl,one _ _ (.str hE)⟩
   case slice e=>
    simp only [Bool.and_eq_true]at hd;have hc:=hT.cells hd.1;have hpos:=bW hd.1;rcases DataW.trod_slice h0.1 h with⟨rfl,_⟩ | ⟨a,len,cap,elems,rest,m,hm,rfl,_,_,hl,hcap,hlen,hel,_,_⟩
    ·exact⟨[.sl e ([]:List (List D)).flatten],.slice ht (by simp) (by simp [maxLen]),rfl,one _ _ (.sl (fun _=>undef) hE (by simp) (Nat.le_refl _) (by simp [maxLen]) (by simp) (by simp))⟩
    ·injection hm with hm
     subst hm
     have hex: ∀i,i<len→ ∃ds,Shp T e ds∧ ∀(j:Nat) (d:D),ds[j]? =some d→ ∃v,w.cell? (a.add (i*T.size e+j))=some v∧W T (kD w) w V0 HY d v (fun _=>False):=by
      intro i hi;have h1:=hel i hi;rw [List.getElem?_eq_getElem (by omega),Option.bind_eq_some_iff]at h1
      obtain⟨cs',h2,h3⟩:=h1;obtain⟨ds,q1,q2,q3⟩:=ih n e cs' _ hd.2 h3
      refine⟨ds,q1,fun j d hj=> ?_⟩
      obtain⟨v,hv,hW⟩:=q3 j d hj;obtain⟨c1,c2⟩:=iA h2;rw [hc]at c1 c2;have hj':j<T.size e:=by rw [←c1];exact(List.getElem?_eq_some_iff.1 hv).1
      have h4:=c2 j hj';rw [K9]at h4
      exact⟨v,by rw [h4,hv],hW⟩
     let ch:Nat→List D:=fun i=>if h:i<len then(hex i h).choose else []
     have hch: ∀i,i<len→Shp T e (ch i)∧ ∀(j:Nat) (d:D),(ch i)[j]? =some d→ ∃v,w.cell? (a.add (i*T.size e+j))=some v∧W T (kD w) w V0 HY d v (fun _=>False):=by
      intro i hi;have:=(hex i hi).choose_spec
      simp only [ch,hi,dif_pos];exact this
     have hall: ∀xs∈(List.range len).map ch,xs.length=T.size e:=by
      intro xs hxs;obtain⟨i,hi,rfl⟩:=List.mem_map.1 hxs
      exact(hch i (List.mem_range.1 hi)).1.length
     refine⟨[.sl e ((List.range len).map ch).flatten],.slice ht (fun xs hxs=> ?_) (by simp;omega),rfl,one _ _ ?_⟩
     ·obtain⟨i,hi,rfl⟩:=List.mem_map.1 hxs
      exact(hch i (List.mem_range.1 hi)).1
     ·have key: ∀(i:Nat) (x:D),((List.range len).map ch).flatten[i]? =some x→ ∃v,w.cell? (a.add i)=some v∧W T (kD w) w V0 HY x v (fun _=>False):=by
       intro i x hi;rw [bV hpos _ hall,Option.bind_eq_some_iff]at hi;obtain⟨xs,h1,h2⟩:=hi;rw [List.getElem?_map,Option.map_eq_some_iff]at h1;obtain⟨q,hq,rfl⟩:=h1;obtain⟨hq1,hq2⟩:=List.getElem?_eq_some_iff.1 hq;simp only [List.getElem_range]at hq2;subst hq2;obtain⟨v,hv,hW⟩:=(hch _ (by simpa using hq1)).2 _ x h2
       rw [show i / T.size e*T.size e+i % T.size e=i by rw [Nat.mul_comm];exact Nat.div_add_mod i (T.size e)]at hv
       exact⟨v,hv,hW⟩
      refine .sl (fun i=>(w.cell? (a.add i)).getD undef) hE (by rw [V6 _ hall];simp) hl hcap (fun i x hi=> ?_) (fun i x hi=> ?_)
      ·obtain⟨v,hv,_⟩:=key i x hi
       exact⟨a,rfl,by have:=wF hv;rw [N9]at this;exact this,by rw [hv];rfl⟩
      ·obtain⟨v,hv,hW⟩:=key i x hi;simp only [hv,Option.getD_some];exact hW
   case struct fs=>
    simp only [Bool.and_eq_true,List.all_eq_true,Option.isNone_iff_eq_none]at hd;obtain⟨⟨fields,hu,hfx⟩,hinfo⟩:=h0;rw [hd.1.1]at hfx;obtain⟨hfl,hfi⟩:=hfx;obtain⟨xs,m,hm,_,hcl,hxl,hx⟩:=DataW.trod_struct hu h
    injection hm with hm
    subst hm;rw [hT.cells hk]at hcl;have hsz:T.size t=fs.length:=by simp [Tys.size,ht,Ty.size]
    have hex: ∀i,i<fs.length→ ∃d f,fs[i]? =some f∧Shp T f [d]∧ ∃v,cs[i]? =some v∧W T (kD w) w V0 HY d v (fun _=>False):=by
     intro i hi;have hif:i<fields.size:=by omega
     obtain⟨f1,f2,f3,f4⟩:=hfi i _ (Array.getElem?_eq_getElem hif);have h1:=hx i _ (Array.getElem?_eq_getElem hif)
     have hs1:T.size fields[i].type=1:=by
      unfold Tys.isStruct at f4;unfold Tys.size
      cases hty:T.ty fields[i].type<;>simp_all [Ty.isStruct,Ty.size]
     rw [f1,hT.cells f3,hs1,List.getElem?_eq_getElem (by omega)]at h1
     obtain⟨ds,q1,q2,q3⟩:=ih n _ _ _ (hd.2 _ (List.mem_of_getElem? f2)) h1;have hl1:ds.length=1:=by rw [q1.length,hs1]
     obtain⟨d,rfl⟩:=List.length_eq_one_iff.1 hl1;obtain⟨v,hv,hW⟩:=q3 0 d rfl
     refine⟨d,_,f2,q1,v, ?_,hW⟩
     rw [List.getElem?_take]at hv;simp only [Nat.zero_lt_one,if_true,List.getElem?_drop,Nat.add_zero]at hv;exact hv
    let ch:Nat→D:=fun i=>if h:i<fs.length then(hex i h).choose else .undef
    have hch: ∀i,i<fs.length→ ∃f,fs[i]? =some f∧Shp T f [ch i]∧ ∃v,cs[i]? =some v∧W T (kD w) w V0 HY (ch i) v (fun _=>False):=by
     intro i hi;have:=(hex i hi).choose_spec
     simp only [ch,hi,dif_pos];exact this
    have hget: ∀(i:Nat) (d:D),((List.range fs.length).map ch)[i]? =some d→i<fs.length∧d=ch i:=by
     intro i d hi;rw [List.getElem?_map,Option.map_eq_some_iff]at hi;obtain⟨q,hq,rfl⟩:=hi;obtain⟨hq1,hq2⟩:=List.getElem?_eq_some_iff.1 hq;simp only [List.getElem_range]at hq2;subst hq2
     exact⟨by simpa using hq1,rfl⟩
    refine⟨(List.range fs.length).map ch,.struct ht (by simp) (fun i f d hf hi=> ?_),by simp;omega,fun i d hi=> ?_⟩
    ·obtain⟨h1,rfl⟩:=hget i d hi;obtain⟨f',hf',hs,_⟩:=hch i h1;rw [hf]at hf';injection hf' with hf';subst hf';exact hs
    ·obtain⟨h1,rfl⟩:=hget i d hi;obtain⟨f',hf',hs,v,hv,hW⟩:=hch i h1
     exact⟨v,hv,hW⟩
   all_goals (cases hd)
def top(T:Tys)(t:TypeId)(ds:List D):D:=if T.isStruct t then .agg ds else ds.headD .undef
def Arg(T:Tys)(t:TypeId)(d:D):Prop:= ∃ds,Shp T t ds∧d=top T t ds
theorem A4o(hT:Br P T){r:Reach}{base n:Nat}{t:TypeId}{v:Value}{d0:DataW H}{ps:List MemPlace}(hd:Qm T n t=true)(hv:Value.okWide P w r base t v)(h:DataW.Trod enc P w 0 spare F6 t v d0 ps):
  ∃d,Arg T t d∧W T (kD w) w V0 HY d v (fun _=>False):=by
 obtain⟨fuel,hf⟩:=h;obtain⟨ds,q1,q2,q3⟩:=pz hT fuel n t _ _ hd hf;have hfact:=(hT t).1;unfold Fa at hfact
 have flat:T.isStruct t=false→v.cells.toList=[v]→ ∃d,Arg T t d∧W T (kD w) w V0 HY d v (fun _=>False):=by
  intro hs hc;have hl:ds.length=1:=by rw [←q2,hc];rfl
  obtain⟨d,rfl⟩:=List.length_eq_one_iff.1 hl;obtain⟨v',hv',hW⟩:=q3 0 d rfl;rw [hc]at hv';simp only [List.getElem?_cons_zero,Option.some.injEq]at hv';subst hv'
  exact⟨d,⟨[d],q1,by simp [top,hs]⟩,hW⟩
 cases n with
 | zero=>cases hd
 | succ n=>
  unfold Qm at hd
  cases ht:T.ty t<;>rw [ht]at hfact hd<;>simp only at hfact hd
  case int k=>
   refine flat (by simp [Tys.isStruct,ht,Ty.isStruct]) ?_
   simp only [Value.okWide,hfact.1,Cell.okWide]at hv
   cases v<;>simp_all [Cell.ok,Value.cells]
  case bool=>
   refine flat (by simp [Tys.isStruct,ht,Ty.isStruct]) ?_
   simp only [Value.okWide,hfact.1,Cell.okWide]at hv
   cases v<;>simp_all [Cell.ok,Value.cells]
  case string=>
   refine flat (by simp [Tys.isStruct,ht,Ty.isStruct]) ?_
   simp only [Value.okWide,hfact.1,Cell.okWide]at hv
   cases v<;>simp_all [Cell.ok,Value.cells]
  case slice e=>
   refine flat (by simp [Tys.isStruct,ht,Ty.isStruct]) ?_
   simp only [Value.okWide,hfact.1,Cell.okWide]at hv
   cases v<;>simp_all [Cell.ok,Value.cells]
  case struct fs=>
   obtain⟨⟨fields,hu,_⟩,_⟩:=hfact;obtain⟨cs,rfl,hcs⟩:=WideShapes.okWide_struct hu hv
   have hval: ∀(i:Nat) (d:D),ds[i]? =some d→cs[i]? =some (cs.getD i undef)∧W T (kD w) w V0 HY d (cs.getD i undef) (fun _=>False):=by
    intro i d hi;obtain⟨v,hv',hW⟩:=q3 i d hi;have:cs[i]? =some v:=by simpa [Value.cells] using hv'
    rw [Array.getD_eq_getD_getElem?,this];exact⟨rfl,hW⟩
   refine⟨.agg ds,⟨ds,q1,by simp [top,Tys.isStruct,ht,Ty.isStruct]⟩,.agg (fun i=>cs.getD i undef) (fun _ _=>False) (by simpa [Value.cells] using q2) (fun i x hi=>(hval i x hi).1) (fun k=>⟨fun h=>h.elim,fun⟨_,_,h⟩=>h⟩) (fun _ _ _ _ _ _ h=>h.elim) (fun i x hi=>(hval i x hi).2)⟩
  all_goals (cases hd)
end
def A0s(T:Tys):List TypeId→List D→Prop
 | [],[]=>True
 | t::ts,d::ds=>Arg T t d∧A0s T ts ds
 | _,_=>False
theorem args_W{P:Program}{T:Tys}{H:Type}{enc:TypeId×Value→H}{w:World}{r:Reach}{base n:Nat}(hT:Br P T): ∀(ts:List TypeId) (vs:List Value) (d0:List (DataW H)) (ps:List MemPlace),ts.all (Qm T n)=true→
  (∀(j:Nat) (t:TypeId) (v:Value),ts[j]? =some t→vs[j]? =some v→Value.okWide P w r base t v)→DataW.TrodAll enc P w 0 (fun _=>true) true ts vs d0 ps→
  ∃ds,A0s T ts ds∧vs.length=ds.length∧ ∀(i:Nat) (d:D),ds[i]? =some d→ ∃v,vs[i]? =some v∧W T (kD w) w V0 HY d v (fun _=>False):=by
 intro ts
 induction ts with
 | nil=>
  intro vs d0 ps _ _ h
  cases vs<;>cases d0<;>simp [DataW.TrodAll]at h
  exact⟨[],trivial,rfl,by simp⟩
 | cons t ts ih=>
  intro vs d0 ps hd hv h
  cases vs with
  | nil=>cases d0<;>simp [DataW.TrodAll]at h
  | cons v vs=>
   cases d0 with
   | nil=>simp [DataW.TrodAll]at h
   | cons d0 ds0=>
    simp only [DataW.TrodAll]at h;obtain⟨p,q,h1,h2,_⟩:=h;simp only [List.all_cons,Bool.and_eq_true]at hd;obtain⟨d,ha,hW⟩:=A4o hT hd.1 (hv 0 t v rfl rfl) h1;obtain⟨ds,hb,hl,hWs⟩:=ih vs ds0 q hd.2 (fun j t' v' hj hj'=>hv (j+1) t' v' (by simpa using hj) (by simpa using hj')) h2
    refine⟨d::ds,⟨ha,hb⟩,by simp [hl],fun i x hi=> ?_⟩
    cases i with
    | zero=>simp at hi;subst hi;exact⟨v,rfl,hW⟩
    | succ i=>simpa using hWs i x (by simpa using hi)
theorem law_calls{Y:Sys}(hY:Y.Ok){f:FuncId}{ds:List D}(hc:Y.call f ds []=some (.bool true,[])){vs:Array Value}{w:World}(hl:vs.size=ds.length)
  (hW: ∀(i:Nat) (d:D),ds[i]? =some d→ ∃v,vs[i]? =some v∧W Y.T (kD w) w V0 HY d v (fun _=>False)):
  Calls Y.P f vs w fun e w'=>e= .returned (.bool true)∧RowKit.Below w.heap.size w w':=by
 have hg:=Sys.call_good hY hc;refine Calls.mono (hg.2 vs (fun _=>undef) w (kD w) (fun _ _=>False) hl (fun i d hi=> ?_) (fun j d hj=>by simp at hj) (fun _ _ _ h=>h) (fun _ _ _ _ h=>h.elim) (fun _ h=>h)) ?_
 ·obtain⟨v,hv,hWv⟩:=hW i d hi
  exact⟨v,hv,hWv.up⟩
 ·intro e w' he
  cases e with
  | returned v=>
   obtain⟨S',F,FL',h1,_,_,_,hst,_,_⟩:=he
   cases h1 with
   | bool=>exact⟨rfl,hst.os,hst.tape,hst.output,hst.size,fun k hk=>hst.heap k hk (fun _ h=>h)⟩
  | panicked=>exact he.elim
  | outgrown=>exact he.elim
theorem trodAll_below{H:Type}{enc:TypeId×Value→H}{P:Program}(hl:laidOutB P=true){W W':World}(hb:RowKit.Below W.heap.size W W'): ∀ {ts:List TypeId} {vs:List Value} {ds:List (DataW H)} {ps:List MemPlace},
  ts.all (fun t=>P.readableRec t&&decide (t<P.types.size))=true→DataW.TrodAll enc P W 0 (fun _=>true) true ts vs ds ps→DataW.TrodAll enc P W' 0 (fun b=>decide (b<W.heap.size)) true ts vs ds ps:=by
 intro ts
 induction ts with
 | nil=>
  intro vs ds ps _ h
  cases vs<;>cases ds<;>simp [DataW.TrodAll]at h ⊢
  exact h
 | cons t ts ih=>
  intro vs ds ps hr h
  cases vs with
  | nil=>cases ds<;>simp [DataW.TrodAll]at h
  | cons v vs=>
   cases ds with
   | nil=>simp [DataW.TrodAll]at h
   | cons d ds=>
    simp only [DataW.TrodAll]at h ⊢;obtain⟨p,q,h1,h2,h3⟩:=h;simp only [List.all_cons,Bool.and_eq_true,decide_eq_true_eq]at hr;have lt0: ∀x∈p,x.block<W.heap.size:=by obtain⟨m,hm⟩:=h1;exact DataW.trod_lt m _ _ _ hm
    exact⟨p,q,RowKit.Below.trod hl hr.1.1 hr.1.2 h1 hb lt0,ih (by simpa using hr.2) h2,h3⟩
end Dv
namespace Dv
open Go
theorem nr{α:Type}{a b:α}(h:a=b):a=b:=h
structure SOp where
 dst:Option Tmp
 op:Op
 type:TypeId
 guard:Option (Option Tmp×Bool)
structure PmL where
 n:List Nat
 r:List Nat
 w:List Nat
def PmL.pm(l:PmL):Pm:=⟨fun r=>l.n.contains r|| !l.r.contains r,fun r=>l.w.contains r⟩
inductive SC where
 | skip
 | ops (l:List SOp)
 | draws (l:List (PmL×SOp))
 | seq (a b:SC)
 | cond (c:Operand) (a b:SC)
 | block (id:Nat) (c:SC)
 | loop (c:SC)
 | exit (id:Nat)
 | ret
 | bad
abbrev tK(u:Nat):Operand:= .tmp u
abbrev iK(n:Int):Operand:= .const (.int .i64 n)
abbrev oX(d:Nat)(p:Op)(y:TypeId):SOp:=⟨some d,p,y,none⟩
abbrev oM(d u:Nat)(y:TypeId):SOp:=⟨some d,.move (.tmp u),y,none⟩
abbrev oA(d u:Nat)(y:TypeId):SOp:=⟨some d,.assign (.tmp u),y,none⟩
abbrev oL(d:Nat)(t:TypeId)(u:Nat)(y:TypeId):SOp:=⟨some d,.load t (.tmp u),y,none⟩
abbrev oI(d:Nat)(t:TypeId)(u v:Nat):SOp:=⟨some d,.indexAddr t (.tmp u) (.tmp v),0,none⟩
abbrev oN(d u:Nat)(t:TypeId):SOp:=⟨some d,.call ⟨.builtin .len, #[.tmp u], #[t]⟩,3,none⟩
abbrev oC(d f:Nat)(a:List Operand)(t:List TypeId)(y:TypeId):SOp:=⟨some d,.call ⟨.value (.func f),a.toArray,t.toArray⟩,y,none⟩
abbrev oS(t:TypeId)(a u:Nat):SOp:=⟨none,.store t (.tmp a) (.tmp u),0,none⟩
abbrev oF(d:Nat)(t:TypeId)(u i:Nat):SOp:=⟨some d,.fieldAddr t (.tmp u) i,0,none⟩
abbrev oE(d u i:Nat)(y:TypeId):SOp:=⟨some d,.extract (.tmp u) i,y,none⟩
abbrev oB(d:Nat)(o:BinOp)(t:TypeId)(a b:Operand)(r y:TypeId):SOp:=⟨some d,.binOp o t a b r,y,none⟩
def Py(ops:Array Oper)(o:Oper):SOp:=⟨o.dst,o.op,o.type,match o.guard with | none=>none | some (j,b)=>some ((ops[j]?).bind (·.dst),b)⟩
def BO(lends:FuncId→Bool):Code→SC
 | .skip=> .skip
 | .region _ ops draw=>
  if draw then
   (if OX lends ops.toList then .draws (ops.toList.map fun o=>(⟨GJ ops.toList o,ops.toList.flatMap (EA lends ops.toList),EA lends ops.toList o⟩,Py ops (UQ lends ops.toList o)))else .bad)
  else .ops (ops.toList.map fun o=>Py ops (tag lends ops.toList o))
 | .seq a b=> .seq (BO lends a) (BO lends b)
 | .cond c a b=> .cond c (BO lends a) (BO lends b)
 | .block id c=> .block id (BO lends c)
 | .loop c=> .loop (BO lends c)
 | .exit id=> .exit id
 | .ret=> .ret
 | _=> .bad
def Ka(E:Env)(pm:Pm)(s:St)(dst:Option Tmp)(op:Op)(type:TypeId):Option St:=vM E pm s ⟨dst,op,type, "", #[],none⟩
def Ph(E:Env)(pm:Pm)(s:St)(o:SOp):Option St:=
 match o.guard with
 | none=>Ka E pm s o.dst o.op o.type
 | some (none,_)=>some (s.putO o.dst (.konst undef))
 | some (some t,b)=>
  match s.v t with
  | .bool b'=>if b'==b then Ka E pm s o.dst o.op o.type else some (s.putO o.dst (.konst undef))
  | .konst (.tuple _)=>some (s.putO o.dst (.konst undef))
  | _=>none
def qA(E:Env):List SOp→St→Option St
 | [],s=>some s
 | o::l,s=>(Ph E Pm.all s o).bind fun s'=>qA E l s'
def F7(pm:Pm)(s:St)(op:Op):Bool:=
 match op with
 | .move (.tmp u)=> !(s.v u).hasObj||(s.v u).isObj||pm.wr u
 | _=>true
def bX(E:Env):List (PmL×SOp)→St→Option St
 | [],s=>some s
 | (p,o)::l,s=>if F7 p.pm s o.op then(Ph E p.pm s o).bind fun s'=>bX E l s' else none
noncomputable def Dr(E:Env):SC→St→Option (Ex×St)
 | .skip,s=>some (.normal,s)
 | .ops l,s=>(qA E l s).map fun s'=>(.normal,s')
 | .draws l,s=>(bX E l s).map fun s'=>(.normal,s')
 | .seq a b,s=>
  match Dr E a s with
  | some (.normal,s')=>Dr E b s'
  | r=>r
 | .cond c a b,s=>
  match ev E.T s 0 c with
  | some (.bool t)=>if t then Dr E a s else Dr E b s
  | _=>none
 | .block id c,s=>
  match Dr E c s with
  | some (.exit j,s')=>if j=id then some (.normal,s')else some (.exit j,s')
  | r=>r
 | .loop c,s=>UR (Dr E c) s
 | .exit id,s=>some (.exit id,s)
 | .ret,s=>some (.ret,s)
 | .bad,_=>none
theorem bY(E:Env)(ops:Array Oper)(pm:Pm)(s:St)(o:Oper):Ph E pm s (Py ops o)=JR E ops pm s o:=by
 obtain⟨dst,op,type,pos,after,guard⟩:=o;unfold Ph JR Mx Py
 cases guard with
 | none=>rfl
 | some g=>
  obtain⟨j,b⟩:=g;simp only
  cases (ops[j]?).bind (·.dst)with
  | none=>rfl
  | some t=>
   simp only
   cases hv:s.v t with
   | bool b'=>simp only;cases hb:(b'==b)<;>simp<;>rfl
   | konst v=>cases v<;>rfl
   | _=>rfl
theorem wG(E:Env)(ops:Array Oper): ∀(l:List Oper) (s:St),qA E (l.map fun o=>Py ops (tag E.lends ops.toList o)) s=WW E ops s l:=by
 intro l
 induction l with
 | nil=>intro s;rfl
 | cons o l ih=>
  intro s;simp only [List.map_cons,qA,WW,bY]
  cases JR E ops Pm.all s (tag E.lends ops.toList o)with
  | none=>rfl
  | some s'=>simp only [Option.bind_some];exact ih s'
theorem qB(E:Env)(ops:Array Oper)(l0:List Oper): ∀(l:List Oper) (s:St),
  bX E (l.map fun o=>(⟨GJ l0 o,l0.flatMap (EA E.lends l0),EA E.lends l0 o⟩,Py ops (UQ E.lends ops.toList o))) s=Pe E ops l0 s l:=by
 intro l
 induction l with
 | nil=>intro s;rfl
 | cons o l ih=>
  intro s;simp only [List.map_cons,bX,Pe,bY];have h1:(PmL.mk (GJ l0 o) (l0.flatMap (EA E.lends l0)) (EA E.lends l0 o)).pm=Ik E.lends l0 o:=nr rfl;have h2:F7 (Ik E.lends l0 o) s (Py ops (UQ E.lends ops.toList o)).op=fK (Ik E.lends l0 o) s o:=nr rfl;rw [h1,h2];split
  ·cases JR E ops (Ik E.lends l0 o) s (UQ E.lends ops.toList o)with
   | none=>rfl
   | some s'=>simp only [Option.bind_some];exact ih s'
  ·rfl
theorem qC(E:Env): ∀(c:Code),Dr E (BO E.lends c)=Dp E c:=by
 intro c
 induction c with
 | skip=>rfl
 | region id ops draw=>
  funext s
  simp only [BO,Dp]
  cases draw with
  | true=>
   simp only [if_true];split
   ·simp only [Dr];rw [qB]
   ·rfl
  | false=>simp only [Bool.false_eq_true,if_false,Dr];rw [wG]
 | seq a b iha ihb=>funext s;simp only [BO,Dr,Dp,iha,ihb];rfl
 | cond x a b iha ihb=>funext s;simp only [BO,Dr,Dp,iha,ihb];rfl
 | block id c ih=>funext s;simp only [BO,Dr,Dp,ih];rfl
 | loop c ih=>funext s;simp only [BO,Dr,Dp,ih]
 | exit id=>rfl
 | ret=>rfl
 | rangeFunc=>rfl
 | scope=>rfl
 | label=>rfl
 | goto=>rfl
 | refuse=>rfl
def Bf(E:Env)(c:SC)(Q:Ex→St→Prop)(s:St):Prop:= ∃ex s',Dr E c s=some (ex,s')∧Q ex s'
section
variable {E:Env} {Q:Ex→St→Prop} {s:St}
def bZ(E:Env)(b:SC)(Q:Ex→St→Prop):Ex→St→Prop
 | .normal,s=>Bf E b Q s
 | ex,s=>Q ex s
def inBlock(id:Nat)(Q:Ex→St→Prop):Ex→St→Prop
 | .exit j,s=>if j=id then Q .normal s else Q (.exit j) s
 | ex,s=>Q ex s
theorem A0t{a b:SC}(h:Bf E a (bZ E b Q) s):Bf E (.seq a b) Q s:=by
 obtain⟨ex,s1,h1,h2⟩:=h
 cases ex with
 | normal=>
  obtain⟨ex',s2,h3,h4⟩:=h2
  exact⟨ex',s2,by simp [Dr,h1,h3],h4⟩
 | exit id=>exact⟨_,s1,by simp [Dr,h1],h2⟩
 | ret=>exact⟨_,s1,by simp [Dr,h1],h2⟩
theorem qD{id:Nat}{c:SC}(h:Bf E c (inBlock id Q) s):Bf E (.block id c) Q s:=by
 obtain⟨ex,s1,h1,h2⟩:=h
 cases ex with
 | normal=>exact⟨_,s1,by simp [Dr,h1],h2⟩
 | exit j=>
  simp only [inBlock]at h2;by_cases hj:j=id
  ·subst hj;rw [if_pos rfl]at h2;exact⟨.normal,s1,by simp [Dr,h1],h2⟩
  ·rw [if_neg hj]at h2;exact⟨_,s1,by simp [Dr,h1,hj],h2⟩
 | ret=>exact⟨_,s1,by simp [Dr,h1],h2⟩
theorem Ag{c:SC}{Q':Ex→St→Prop}(h:Bf E c Q s)(hq: ∀ex s,Q ex s→Q' ex s):Bf E c Q' s:=by
 obtain⟨ex,s1,h1,h2⟩:=h;exact⟨ex,s1,h1,hq _ _ h2⟩
def iB(I:St→Prop)(Q:Ex→St→Prop):Ex→St→Prop
 | .normal,s=>I s
 | ex,s=>Q ex s
end
def EG(T:Tys)(n:Nat)(rs:List ResultVar)(r:D×List D):Ex→St→Prop
 | .normal,s=>WX T n rs s=some r
 | .ret,s=>WX T n rs s=some r
 | .exit _,_=>False
theorem Sys.call_wp{Y:Sys}{f:FuncId}{fn:Func}{c:Code}{k:SC}{a l:List D}{r:D×List D}(hb:Y.base f a l=none)(hf:Y.P.funcs[f]? =some fn)(hok:Bi fn a.length=true)
  (hbody:fn.body=some c)(hk:BO Y.lends c=k)(h:Bf Y.env k (EG Y.T l.length fn.results.toList r) (entry a l)):Y.call f a l=some r:=by
 refine Sys.call_run hb hf hok ?_;obtain⟨ex,s1,h1,h2⟩:=h;unfold aS;rw [←hk]at h1;have h3:Dr Y.env (BO Y.env.lends c)=Dp Y.env c:=qC Y.env c;have h4:Dp Y.env c (entry a l)=some (ex,s1):=by rw [←h3];exact h1
 rw [hbody];simp only [h4]
 cases ex with
 | normal=>exact h2
 | ret=>exact h2
 | exit id=>exact h2.elim
section
variable (E:Env) (pm:Pm) (s:St) (dst:Option Tmp) (ty:TypeId)
theorem iC(op:Op):Ph E pm s ⟨dst,op,ty,none⟩=Ka E pm s dst op ty:=nr rfl
def grd(E:Env)(pm:Pm)(s:St)(dst:Option Tmp)(op:Op)(ty:TypeId)(b:Bool)(d:D):Option St:=
 match d with
 | .bool b'=>if b'==b then Ka E pm s dst op ty else some (s.putO dst (.konst undef))
 | .konst (.tuple _)=>some (s.putO dst (.konst undef))
 | _=>none
theorem bf(op:Op)(t:Tmp)(b:Bool):Ph E pm s ⟨dst,op,ty,some (some t,b)⟩=grd E pm s dst op ty b (s.v t):=nr rfl
theorem ACk(op:Op)(b':Bool):grd E pm s dst op ty true (.bool b')=if b'=true then Ka E pm s dst op ty else some (s.putO dst (.konst undef)):=by cases b'<;>rfl
theorem ACl(op:Op)(b':Bool):grd E pm s dst op ty false (.bool b')=if b'=true then some (s.putO dst (.konst undef))else Ka E pm s dst op ty:=by cases b'<;>rfl
theorem ACm(op:Op)(b:Bool):grd E pm s dst op ty b (.konst undef)=some (s.putO dst (.konst undef)):=nr rfl
def pk(s:St)(dst:Option Tmp)(c a b:Option D):Option St:=
 match c,a,b with
 | some (.bool t),some x,some y=>if(if t then x else y).hasObj then none else some (s.putO dst (if t then x else y))
 | _,_,_=>none
theorem qE(c a b:Operand):Ka E pm s dst (.pick c a b) ty=pk s dst (ev E.T s ty c) (ev E.T s ty a) (ev E.T s ty b):=nr rfl
theorem pkT(x y:D)(h:x.hasObj=false):pk s dst (some (.bool true)) (some x) (some y)=some (s.putO dst x):=by simp [pk,h]
theorem pkF(x y:D)(h:y.hasObj=false):pk s dst (some (.bool false)) (some x) (some y)=some (s.putO dst y):=by simp [pk,h]
theorem pkB(t p q:Bool):pk s dst (some (.bool t)) (some (.bool p)) (some (.bool q))=some (s.putO dst (.bool (if t then p else q))):=by cases t<;>rfl
theorem hoB(b:Bool):(D.bool b).hasObj=false:=by simp [D.hasObj]
theorem hoI(k:IntKind)(n:Int):(D.int k n).hasObj=false:=by simp [D.hasObj]
theorem hoS(b:ByteArray):(D.str b).hasObj=false:=by simp [D.hasObj]
theorem lm(t:TypeId):Ka E pm s dst (.alloc t) ty=if E.T.known t then some (s.putO dst (.box (E.T.zeros t)))else none:=nr rfl
theorem wH(t:TypeId)(x:Operand):Ka E pm s dst (.box t x) ty=if ty=900003 then(OV E.T pm s dst t x).bind fun s1=>Ed pm s1 dst else OV E.T pm s dst t x:=nr rfl
theorem qF(t:TypeId)(x:Operand):OV E.T pm s dst t x=match UK (ev E.T s t x)with
  | some ds=>if E.T.isStruct t then some (s.putO dst (.box ds))else none
  | none=>
   match take E.T pm s t x with
   | some (d,s1)=>if E.T.isStruct t==d.isAgg then some (s1.putO dst (.box d.asCells))else none
   | none=>none:=nr rfl
theorem lq(t:TypeId)(parts:Array (Nat×Operand)):Ka E pm s dst (.build t parts) ty=match E.T.nest t with
  | some fl=>if E.T.isStruct t&&E.T.known t then(JQ E.T pm fl s (E.T.zeros t) parts.toList).map fun r=>r.2.putO dst (.agg r.1)else none
  | none=>match E.T.ty t with
   | .struct fs=>if E.T.known t then(FZ E.T pm (fun i=>fs.getD i 0) 1 s (E.T.zeros t) parts.toList).map fun r=>r.2.putO dst (.agg r.1)else none
   | _=>none:=nr rfl
theorem V7(t:TypeId)(len:Nat)(parts:Array (Nat×Operand)):Ka E pm s dst (.buildSlice t len parts) ty=if ty=900004 then(UM E.T pm s dst t len parts).bind fun s1=>Mv pm s1 dst else UM E.T pm s dst t len parts:=nr rfl
def stF(pm:Pm)(a:Operand):Option St→Option St
 | some s1=>Ed pm s1 (UO a)
 | none=>none
theorem qG(a:Operand)(o:Option St):stF pm a o=o.bind fun s1=>Ed pm s1 (UO a):=by cases o<;>rfl
theorem lu(t:TypeId)(a x:Operand):Ka E pm s none (.store t a x) ty=if ty=900007 then F3 E.T pm t a (KV E.T pm s t x)else if ty=900010 then Sz E.T pm s t a x else if ty=900011 then stF pm a (JP E.T pm s t a x)else JP E.T pm s t a x:=by
 rw [qG];rfl
def Ic(s:St)(dst:Option Tmp):Option D→Option St
 | some r=>some (s.putO dst r)
 | none=>none
theorem A4p(r:D):Ic s dst (some r)=some (s.putO dst r):=nr rfl
def V8(dst:Option Tmp):Option (D×St)→Option St
 | some r=>some (r.2.putO dst r.1)
 | none=>none
theorem A4q(r:D)(s:St):V8 dst (some (r,s))=some (s.putO dst r):=nr rfl
def Qn(T:Tys)(s:St)(dst:Option Tmp)(op:BinOp)(t:TypeId):Option D→Option D→Option St
 | some a,some b=>if Mk T t a then Ic s dst (D5 op a b)else none
 | _,_=>none
theorem A4r(T:Tys)(op:BinOp)(t:TypeId)(a b:D):Qn T s dst op t (some a) (some b)=if Mk T t a then Ic s dst (D5 op a b)else none:=nr rfl
def fzB(pm:Pm)(dst:Option Tmp)(u:Tmp):Option St→Option St
 | some s1=>aP pm s1 dst u
 | none=>none
def fbC(pm:Pm)(s1:St)(u:Tmp):D→Option St
 | .bool b=>if b then some s1 else Ed pm s1 (some u)
 | _=>none
theorem ACo(s1:St)(t u:Tmp)(h:pm.rd t=true):fzB pm (some t) u (some s1)=fbC pm s1 u (s1.v t):=by
 show(if pm.rd t then _ else none)=_
 rw [if_pos h]
 cases s1.v t<;>rfl
theorem qH(op:BinOp)(t:TypeId)(x y:Operand)(t':TypeId):Ka E pm s dst (.binOp op t x y t') ty=if ty<2000000 then He E.T pm s dst op t x y else fzB pm dst (ty-2000000) (He E.T pm s dst op t x y):=by
 show(if ty<2000000 then He E.T pm s dst op t x y else(He E.T pm s dst op t x y).bind fun s1=>aP pm s1 dst (ty-2000000))=_
 cases He E.T pm s dst op t x y<;>rfl
theorem PP(op:BinOp)(t:TypeId)(x y:Operand)(hq:aN E.T op t y=none):He E.T pm s dst op t x y=Qn E.T s dst op t (ev E.T s t x) (ev E.T s t y):=by
 unfold He;rw [hq];simp only
 cases ev E.T s t x<;>cases ev E.T s t y<;>simp only [Qn]
 rename_i a b
 cases D5 op a b<;>rfl
theorem ACp(op:BinOp)(t:TypeId)(x:Operand)(u:Tmp)(t':TypeId):Ka E pm s dst (.binOp op t x (.tmp u) t') ty=if ty<2000000 then Qn E.T s dst op t (ev E.T s t x) (some (s.v u))else fzB pm dst (ty-2000000) (Qn E.T s dst op t (ev E.T s t x) (some (s.v u))):=by
 rw [qH,PP E pm s dst op t x (.tmp u) rfl];rfl
theorem ACq(op:BinOp)(t:TypeId)(x:Operand)(k:IntKind)(n:Int)(t':TypeId):Ka E pm s dst (.binOp op t x (.const (.int k n)) t') ty=if ty<2000000 then Qn E.T s dst op t (ev E.T s t x) (some (.int k n))else fzB pm dst (ty-2000000) (Qn E.T s dst op t (ev E.T s t x) (some (.int k n))):=by
 rw [qH,PP E pm s dst op t x _ rfl];rfl
theorem A4s(op:BinOp)(t:TypeId)(x:Operand)(b:Bool)(t':TypeId):Ka E pm s dst (.binOp op t x (.const (.bool b)) t') ty=if ty<2000000 then Qn E.T s dst op t (ev E.T s t x) (some (.bool b))else fzB pm dst (ty-2000000) (Qn E.T s dst op t (ev E.T s t x) (some (.bool b))):=by
 rw [qH,PP E pm s dst op t x _ rfl];rfl
theorem A4t(op:BinOp)(t:TypeId)(x:Operand)(b:ByteArray)(t':TypeId):Ka E pm s dst (.binOp op t x (.const (.string b)) t') ty=if ty<2000000 then Qn E.T s dst op t (ev E.T s t x) (some (.str b))else fzB pm dst (ty-2000000) (Qn E.T s dst op t (ev E.T s t x) (some (.str b))):=by
 rw [qH,PP E pm s dst op t x _ rfl];rfl
def iD(s:St)(dst:Option Tmp)(q:Bool):Option Bool→Option St
 | some b=>some (s.putO dst (.bool (b==q)))
 | none=>none
theorem A4u(b:Bool):iD s dst true (some b)=some (s.putO dst (.bool b)):=by cases b<;>rfl
theorem A4v(b:Bool):iD s dst false (some b)=some (s.putO dst (.bool (!b))):=by cases b<;>rfl
def yB(op:BinOp)(s:St)(dst:Option Tmp)(r:Option Bool)(o:Option St):Ty→Option St
 | .slice _=>match op with | .eql=>iD s dst true r | .neq=>iD s dst false r | _=>o
 | _=>o
theorem ACr(r:Option Bool)(o:Option St)(e:TypeId):yB .eql s dst r o (.slice e)=iD s dst true r:=nr rfl
theorem ACs(r:Option Bool)(o:Option St)(e:TypeId):yB .neq s dst r o (.slice e)=iD s dst false r:=nr rfl
theorem wI(op:BinOp)(t:TypeId)(u:Tmp):He E.T pm s dst op t (.tmp u) (.const (.slice none 0 0))=yB op s dst (QP pm s (s.v u)) (Qn E.T s dst op t (some (s.v u)) (ev E.T s t (.const (.slice none 0 0)))) (E.T.ty t):=by
 have key: ∀q,aN E.T op t (.const (.slice none 0 0))=some q→He E.T pm s dst op t (.tmp u) (.const (.slice none 0 0))=iD s dst q (QP pm s (s.v u)):=by
  intro q hq;unfold He;rw [hq];simp only [ev,Option.bind_some]
  cases QP pm s (s.v u)<;>rfl
 cases ht:E.T.ty t with
 | slice e=>
  cases op<;>first
   | (simp only [yB];exact key true (by simp [aN,ht]))
   | (simp only [yB];exact key false (by simp [aN,ht]))
   | (simp only [yB];exact PP E pm s dst _ t _ _ (by simp [aN,ht]))
 | _=>exact PP E pm s dst _ t _ _ (by simp [aN,ht])
theorem A0v(op:BinOp)(t:TypeId)(u:Tmp)(t':TypeId):Ka E pm s dst (.binOp op t (.tmp u) (.const (.slice none 0 0)) t') ty=if ty<2000000 then yB op s dst (QP pm s (s.v u)) (Qn E.T s dst op t (some (s.v u)) (ev E.T s t (.const (.slice none 0 0)))) (E.T.ty t)
  else fzB pm dst (ty-2000000) (yB op s dst (QP pm s (s.v u)) (Qn E.T s dst op t (some (s.v u)) (ev E.T s t (.const (.slice none 0 0)))) (E.T.ty t)):=by
 rw [qH,wI]
theorem ACt(e:TypeId)(x:D)(xs:List D):QP pm s (.sl e (x::xs))=some false:=nr rfl
theorem A4w(e:TypeId)(x:D)(xs:List D):QP pm s (.own e (x::xs))=some false:=nr rfl
theorem ndK(A:Option Addr)(n c:Nat):QP pm s (.konst (.slice A n c))=some A.isNone:=nr rfl
theorem bg(src d:TypeId)(x:Operand):Ka E pm s dst (.convert src d x) ty=if E.T.known src then
   match ev E.T s src x,E.T.ty d with
   | some (.int _ n),.int k=>some (s.putO dst (.int k (k.wrap n)))
   | some (.str b),.string=>some (s.putO dst (.str b))
   | _,_=>none
  else none:=nr rfl
theorem YY(f:FuncId)(first captured:Array Operand):Ka E pm s dst (.makeFunc (.func f) first captured) ty=if ty<3000000 then(if first.isEmpty then(LA pm s captured.toList).map fun r=>r.2.putO dst (.clo f r.1)else none)
  else(if first.isEmpty then(UL pm s (ty-3000000) captured.toList).map fun r=>r.2.putO dst (.ocl false f r.1)else none):=nr rfl
theorem Wm(t:TypeId)(l c:Operand):Ka E pm s dst (.makeSlice t l c) ty=if ty=900012 then(WV E.T s dst t l c).bind fun s1=>Mv pm s1 dst else WV E.T s dst t l c:=nr rfl
theorem YZ(x:Operand):Ka E pm s dst (.nilCheck x) ty=(ev E.T s ty x).bind fun d=>
   match d with
   | .box _=>some (C8 s dst x d)
   | .vw L n m=>match s.look pm L n m with | some (.box _)=>some (C8 s dst x d) | _=>none
   | .pe L _ n m=>match s.look pm L n m with | some _=>some (C8 s dst x d) | none=>none
   | .cptr _=>some (C8 s dst x d)
   | .clo _ _=>some (C8 s dst x d)
   | .ocl false _ _=>some (C8 s dst x d)
   | _=>none:=nr rfl
theorem iF(x y:Operand)(t t':TypeId):Ka E pm s dst (.call ⟨.builtin .append, #[x,y], #[t,t']⟩) ty=if t=t' then(if isZ (ev E.T s t y)then LZ E.T pm s t x else FY E.T pm s t x y).map fun r=>r.2.putO dst r.1 else none:=nr rfl
theorem qI(f:FuncId)(args:Array Operand)(ts:Array TypeId):Ka E pm s dst (.call ⟨.value (.func f),args,ts⟩) ty=if args.size=ts.size then(if ty=900014 then(GI E pm s dst f (args.toList.zip (OW ty ts.toList)) []).bind fun s1=>Ed pm s1 dst else GI E pm s dst f (args.toList.zip (OW ty ts.toList)) [])else none:=nr rfl
theorem lw(u:Tmp)(args:Array Operand)(ts:Array TypeId):Ka E pm s dst (.call ⟨.value (.tmp u),args,ts⟩) ty=match s.v u with
   | .clo f caps=>if args.size=ts.size then GI E pm s dst f (args.toList.zip ts.toList) caps else none
   | .ocl false f caps=>if args.size=ts.size then Lb E pm s dst f (args.toList.zip ts.toList) caps else none
   | _=>none:=nr rfl
end
theorem A0w(T:Tys)(s:St)(t:TypeId)(u:Tmp):ev T s t (.tmp u)=some (s.v u):=nr rfl
theorem A0x(T:Tys)(s:St)(t:TypeId)(k:IntKind)(n:Int):ev T s t (.const (.int k n))=some (.int k n):=nr rfl
theorem wJ(T:Tys)(s:St)(t:TypeId)(b:Bool):ev T s t (.const (.bool b))=some (.bool b):=nr rfl
theorem A0y(T:Tys)(s:St)(t:TypeId)(b:ByteArray):ev T s t (.const (.string b))=some (.str b):=nr rfl
theorem A0z(T:Tys)(s:St)(t:TypeId):ev T s t (.const (.slice none 0 0))=match T.ty t with | .slice e=>some (.own e []) | .other=>some (.konst (.slice none 0 0)) | _=>none:=nr rfl
theorem wK(T:Tys)(s:St)(t:TypeId)(f:FuncId):ev T s t (.func f)=some (.clo f []):=nr rfl
theorem A4x(s:St)(t u:Nat)(d:D):(s.put t d).v u=if u=t then d else s.v u:=by rw [yA];rfl
theorem A4y(s:St)(t u:Nat)(d:D):(s.put t d).k u=if u=t then(if d.hasObj then s.k t+1 else s.k t)else s.k u:=by
 unfold St.put;by_cases h:u=t
 ·subst h;cases hd:d.hasObj<;>simp [ME]
 ·cases hd:d.hasObj<;>simp [ME,h]
theorem A4z(s:St)(t u:Nat)(d:D):(s.put t d).m u=s.m u:=by unfold St.put;split<;>rfl
theorem A50(s:St)(t u:Nat):(s.clr t).v u=if u=t then .undef else s.v u:=nr rfl
theorem A51(s:St)(t u:Nat):(s.clr t).k u=s.k u:=nr rfl
theorem A52(s:St)(t u:Nat):(s.clr t).m u=s.m u:=nr rfl
theorem A10(s:St)(t u:Nat):(s.bump t).v u=s.v u:=nr rfl
theorem A11(s:St)(t u:Nat):(s.bump t).k u=s.k u:=nr rfl
theorem A12(s:St)(t u:Nat):(s.bump t).m u=if u=t then s.m t+1 else s.m u:=nr rfl
theorem A53(s:St)(t u:Nat)(p:A9)(d:D):(s.set (t::p) d).v u=if u=t then FX (s.v t) p d else s.v u:=nr rfl
theorem A54(s:St)(t u:Nat)(p:A9)(d:D):(s.set (t::p) d).k u=s.k u:=nr rfl
theorem A55(s:St)(t u:Nat)(p:A9)(d:D):(s.set (t::p) d).m u=s.m u:=nr rfl
theorem mD(s:St)(t:Tmp)(d:D):s.putO (some t) d=s.put t d:=nr rfl
theorem mE(s:St)(d:D):s.putO none d=s:=nr rfl
theorem A56(Y:Sys):Y.env.T=Y.T:=nr rfl
theorem mF(Y:Sys):Y.env.lends=Y.lends:=nr rfl
theorem qJ(Y:Sys):Y.env.call=Y.call:=nr rfl
theorem wL(a l:List D)(t:Nat):(entry a l).v t=if t<G then a.getD t .undef else l.getD (t-G) .undef:=nr rfl
theorem wM(a l:List D)(t:Nat):(entry a l).k t=0:=nr rfl
theorem wN(a l:List D)(t:Nat):(entry a l).m t=0:=nr rfl
theorem NH{r:Ex×St}{Q:Ex→St→Prop}:(∃ex s',some r=some (ex,s')∧Q ex s')=Q r.1 r.2:=
 propext ⟨fun⟨ex,s',h,hq⟩=>by injection h with h;subst h;exact hq,fun h=>⟨r.1,r.2,rfl,h⟩⟩
section
variable (E:Env) (Q:Ex→St→Prop) (s:St)
theorem A57:Bf E .skip Q s=Q .normal s:=NH
theorem A58(id:Nat):Bf E (.exit id) Q s=Q (.exit id) s:=NH
theorem ACu:Bf E .ret Q s=Q .ret s:=NH
theorem ACv:Bf E (.ops []) Q s=Q .normal s:=NH
def nxt(E:Env)(l:List SOp)(Q:Ex→St→Prop):Option St→Prop
 | some s=>Bf E (.ops l) Q s
 | none=>False
theorem ACw(l:List SOp):nxt E l Q (some s)=Bf E (.ops l) Q s:=nr rfl
theorem A59(o:SOp)(l:List SOp):Bf E (.ops (o::l)) Q s=nxt E l Q (Ph E Pm.all s o):=by
 unfold Bf;simp only [Dr,qA]
 cases Ph E Pm.all s o with
 | none=>simp [nxt]
 | some s'=>simp [nxt,Bf,Dr]
theorem A5A:Bf E (.draws []) Q s=Q .normal s:=NH
def qK(E:Env)(l:List (PmL×SOp))(Q:Ex→St→Prop):Bool→Option St→Prop
 | true,some s=>Bf E (.draws l) Q s
 | _,_=>False
theorem A5B(l:List (PmL×SOp)):qK E l Q true (some s)=Bf E (.draws l) Q s:=nr rfl
theorem A13(p:PmL)(o:SOp)(l:List (PmL×SOp)):Bf E (.draws ((p,o)::l)) Q s=qK E l Q (F7 p.pm s o.op) (Ph E p.pm s o):=by
 unfold Bf;simp only [Dr,bX]
 cases F7 p.pm s o.op with
 | true=>
  cases Ph E p.pm s o with
  | none=>simp [qK]
  | some s'=>simp [qK,Bf,Dr]
 | false=>simp [qK]
theorem ACx(a b:SC):Bf E (.seq a b) Q s=Bf E a (bZ E b Q) s:=by
 refine propext ⟨fun⟨ex,s1,h1,h2⟩=> ?_,A0t⟩;simp only [Dr]at h1
 cases ha:Dr E a s with
 | none=>simp [ha]at h1
 | some q=>
  obtain⟨ex',s2⟩:=q
  cases ex' with
  | normal=>simp only [ha]at h1;exact⟨_,s2,ha,ex,s1,h1,h2⟩
  | exit id=>simp only [ha,Option.some.injEq,Prod.mk.injEq]at h1;obtain⟨rfl,rfl⟩:=h1;exact⟨_,s2,ha,h2⟩
  | ret=>simp only [ha,Option.some.injEq,Prod.mk.injEq]at h1;obtain⟨rfl,rfl⟩:=h1;exact⟨_,s2,ha,h2⟩
def cnd(E:Env)(a b:SC)(Q:Ex→St→Prop)(s:St):Option D→Prop
 | some (.bool t)=>if t=true then Bf E a Q s else Bf E b Q s
 | _=>False
theorem ACy(a b:SC)(t:Bool):cnd E a b Q s (some (.bool t))=if t=true then Bf E a Q s else Bf E b Q s:=nr rfl
theorem A5D(c:Operand)(a b:SC):Bf E (.cond c a b) Q s=cnd E a b Q s (ev E.T s 0 c):=by
 unfold Bf;simp only [Dr]
 cases ev E.T s 0 c with
 | none=>simp [cnd]
 | some d=>cases d with
  | bool t=>cases t<;>simp [cnd,Bf]
  | _=>simp [cnd]
theorem A14(id:Nat)(c:SC):Bf E (.block id c) Q s=Bf E c (inBlock id Q) s:=by
 refine propext ⟨fun⟨ex,s1,h1,h2⟩=> ?_,qD⟩;simp only [Dr]at h1
 cases ha:Dr E c s with
 | none=>simp [ha]at h1
 | some q=>
  obtain⟨ex',s2⟩:=q
  cases ex' with
  | normal=>simp only [ha,Option.some.injEq,Prod.mk.injEq]at h1;obtain⟨rfl,rfl⟩:=h1;exact⟨_,s2,ha,h2⟩
  | exit j=>
   simp only [ha]at h1;by_cases hj:j=id
   ·simp only [hj,if_true,Option.some.injEq,Prod.mk.injEq]at h1;obtain⟨rfl,rfl⟩:=h1;exact⟨_,s2,ha,by simpa [inBlock,hj] using h2⟩
   ·simp only [hj,if_false,Option.some.injEq,Prod.mk.injEq]at h1;obtain⟨rfl,rfl⟩:=h1;exact⟨_,s2,ha,by simpa [inBlock,hj] using h2⟩
  | ret=>simp only [ha,Option.some.injEq,Prod.mk.injEq]at h1;obtain⟨rfl,rfl⟩:=h1;exact⟨_,s2,ha,h2⟩
theorem A15(b:SC):bZ E b Q .normal s=Bf E b Q s:=nr rfl
theorem A16(b:SC)(id:Nat):bZ E b Q (.exit id) s=Q (.exit id) s:=nr rfl
theorem A17(b:SC):bZ E b Q .ret s=Q .ret s:=nr rfl
theorem ACz(id:Nat):inBlock id Q .normal s=Q .normal s:=nr rfl
theorem AD0(id j:Nat):inBlock id Q (.exit j) s=if j=id then Q .normal s else Q (.exit j) s:=nr rfl
theorem AD1(id:Nat):inBlock id Q .ret s=Q .ret s:=nr rfl
theorem AD2(I:St→Prop):iB I Q .normal s=I s:=nr rfl
theorem AD3(I:St→Prop)(id:Nat):iB I Q (.exit id) s=Q (.exit id) s:=nr rfl
theorem AD4(I:St→Prop):iB I Q .ret s=Q .ret s:=nr rfl
theorem A5E(T:Tys)(n:Nat)(rs:List ResultVar)(r:D×List D):EG T n rs r .normal s=(WX T n rs s=some r):=nr rfl
theorem A5F(T:Tys)(n:Nat)(rs:List ResultVar)(r:D×List D):EG T n rs r .ret s=(WX T n rs s=some r):=nr rfl
end
section
variable (s:St) (dst:Option Tmp) (u:Tmp) (k:IntKind) (n:Int) (b:Bool) (x:ByteArray) (e:TypeId) (xs:List D) (L:A9) (i j c:Nat) (v:Value) (f:FuncId)
theorem A5G:C8 s dst (.tmp u) (.int k n)=s.putO dst (.int k n):=nr rfl
theorem A18:C8 s dst (.tmp u) (.bool b)=s.putO dst (.bool b):=nr rfl
theorem A5H:C8 s dst (.tmp u) (.str x)=s.putO dst (.str x):=nr rfl
theorem AD5:C8 s dst (.tmp u) (.sl e xs)=s.putO dst (.sl e xs):=nr rfl
theorem wO:C8 s dst (.tmp u) (.konst v)=s.putO dst (.konst v):=nr rfl
theorem A5I:C8 s dst (.tmp u) (.own e xs)=s.putO dst (.vw [u] (s.k u) (s.m u)):=nr rfl
theorem AD6(k:TypeId)(es:List (List Int×List Int)):C8 s dst (.tmp u) (.mp k e es)=s.putO dst (.vw [u] (s.k u) (s.m u)):=nr rfl
theorem A5J:C8 s dst (.tmp u) (.box xs)=s.putO dst (.vw [u] (s.k u) (s.m u)):=nr rfl
theorem AD7:C8 s dst (.tmp u) (.vw L i j)=s.putO dst (.vw L i j):=nr rfl
theorem AD8:C8 s dst (.tmp u) (.pe L c i j)=s.putO dst (.pe L c i j):=nr rfl
theorem A19:C8 s dst (.tmp u) (.cptr xs)=s.putO dst (.cptr xs):=nr rfl
theorem A5K:C8 s dst (.tmp u) (.ocl b f xs)=s.putO dst (.ocl b f xs):=nr rfl
theorem A5L:C8 s dst (.tmp u) (.clo f xs)=s.putO dst (.clo f xs):=nr rfl
theorem A5M:C8 s dst (.tmp u) (.tup xs)=if AP xs then(if AP (Js s u 0 xs)then(s.clr u).putO dst (.tup xs)else s.putO dst (.tup (Js s u 0 xs)))else s.putO dst (.tup xs):=nr rfl
theorem A5N(i:Nat):Js s u i []=[]:=nr rfl
theorem A1A(i:Nat)(x:D):Js s u i (x::xs)=Jr s u i x::Js s u (i+1) xs:=nr rfl
theorem A5O(i:Nat):Jr s u i (.agg xs)= .agg (ED s [u,i] 0 xs):=nr rfl
theorem A5P(i:Nat):Jr s u i (.int k n)= .int k n:=nr rfl
theorem A1B(i:Nat):Jr s u i (.bool b)= .bool b:=nr rfl
theorem A5Q(i:Nat):Jr s u i (.str x)= .str x:=nr rfl
theorem AD9(i:Nat):Jr s u i (.sl e xs)= .sl e xs:=nr rfl
theorem wP(i:Nat):Jr s u i (.konst v)= .konst v:=nr rfl
theorem wQ(i:Nat):Jr s u i .undef= .undef:=nr rfl
theorem A5R(i:Nat):Jr s u i (.own e xs)= .vw [u,i] (s.k u) (s.m u):=nr rfl
theorem ADA(c:Nat)(L:A9):Jr s u c (.vw L i j)= .vw L i j:=nr rfl
theorem A5S(i:Nat):Jr s u i (.box xs)= .vw [u,i] (s.k u) (s.m u):=nr rfl
theorem A5T(L:A9)(i:Nat):ED s L i []=[]:=nr rfl
theorem A1C(L:A9)(i:Nat):ED s L i (.int k n::xs)= .int k n::ED s L (i+1) xs:=nr rfl
theorem wR(L:A9)(i:Nat):ED s L i (.bool b::xs)= .bool b::ED s L (i+1) xs:=nr rfl
theorem A1D(L:A9)(i:Nat):ED s L i (.str x::xs)= .str x::ED s L (i+1) xs:=nr rfl
theorem A5U(L:A9)(i:Nat)(zs:List D):ED s L i (.sl e zs::xs)= .sl e zs::ED s L (i+1) xs:=nr rfl
theorem qL(L:A9)(i:Nat):ED s L i (.konst v::xs)= .konst v::ED s L (i+1) xs:=nr rfl
theorem qM(L:A9)(i:Nat):ED s L i (.undef::xs)= .undef::ED s L (i+1) xs:=nr rfl
theorem A5V(L:A9)(i:Nat)(M:A9)(i2 j2:Nat):ED s L i (.vw M i2 j2::xs)= .vw M i2 j2::ED s L (i+1) xs:=nr rfl
theorem A1E(r c:Nat)(i:Nat)(zs:List D):ED s [r,c] i (.own e zs::xs)= .vw [r,c,i] (s.k r) (s.m r)::ED s [r,c] (i+1) xs:=nr rfl
theorem A1F(r c:Nat)(i:Nat)(zs:List D):ED s [r,c] i (.box zs::xs)= .vw [r,c,i] (s.k r) (s.m r)::ED s [r,c] (i+1) xs:=nr rfl
theorem A5W:C8 s dst (.tmp u) (.agg xs)=if AP xs then(s.clr u).putO dst (.agg xs)else s.putO dst (.agg xs):=nr rfl
variable (pm:Pm)
theorem A5X:Ar pm s dst (.tmp u) (.int k n)=some (s.putO dst (.int k n)):=nr rfl
theorem A1G:Ar pm s dst (.tmp u) (.bool b)=some (s.putO dst (.bool b)):=nr rfl
theorem A5Y:Ar pm s dst (.tmp u) (.str x)=some (s.putO dst (.str x)):=nr rfl
theorem ADB:Ar pm s dst (.tmp u) (.sl e xs)=some (s.putO dst (.sl e xs)):=nr rfl
theorem wS:Ar pm s dst (.tmp u) (.konst v)=some (s.putO dst (.konst v)):=nr rfl
theorem A5Z:Ar pm s dst (.tmp u) (.own e xs)=some ((s.clr u).putO dst (.own e xs)):=nr rfl
theorem ADC(k:TypeId)(es:List (List Int×List Int)):Ar pm s dst (.tmp u) (.mp k e es)=some ((s.clr u).putO dst (.mp k e es)):=nr rfl
theorem A5a:Ar pm s dst (.tmp u) (.box xs)=some ((s.clr u).putO dst (.box xs)):=nr rfl
theorem A5b(r:Nat):Ar pm s dst (.tmp u) (.vw [r] i j)=(OQ pm s [r] i j).map fun q=>q.2.putO dst q.1:=nr rfl
def asT(_s:St)(dst:Option Tmp)(a:Option (D×St))(b:Option St):Bool→Option St
 | true=>a.map fun q=>q.2.putO dst q.1
 | false=>b
theorem ADE(a:Option (D×St))(b:Option St):asT s dst a b true=a.map fun q=>q.2.putO dst q.1:=nr rfl
theorem ADF(a:Option (D×St))(b:Option St):asT s dst a b false=b:=nr rfl
theorem A5c(r r':Nat)(p:A9):Ar pm s dst (.tmp u) (.vw (r::r'::p) i j)=asT s dst (BU pm s (.vw (r::r'::p) i j)) (some (s.putO dst (.vw (r::r'::p) i j))) (y7 pm s r):=by
 by_cases h:y7 pm s r=true
 ·have h':Y4 pm s (.vw (r::r'::p) i j)=true:=h;unfold Ar;simp only [h',h,if_true];rfl
 ·have h':Y4 pm s (.vw (r::r'::p) i j)=false:=Bool.eq_false_iff.mpr h;unfold Ar;simp only [h',Bool.eq_false_iff.mpr h];rfl
theorem ADG(r:Nat):y7 pm s r=(pm.rd r&&aO (s.v r)):=nr rfl
theorem A5d:aO (.tup xs)=true:=nr rfl
theorem A5e:aO (.agg xs)=false:=nr rfl
theorem A5f:aO (.own e xs)=false:=nr rfl
theorem A5g:aO (.box xs)=false:=nr rfl
theorem ADH:aO (.vw L i j)=false:=nr rfl
theorem tqU:aO .undef=false:=nr rfl
theorem A5h:aH pm s (.int k n)=false:=nr rfl
theorem A1H:aH pm s (.bool b)=false:=nr rfl
theorem A5i:aH pm s (.str x)=false:=nr rfl
theorem ADI:aH pm s (.sl e xs)=false:=nr rfl
theorem A5j:aH pm s (.own e xs)=false:=nr rfl
theorem A5k(r:Nat):aH pm s (.vw [r] i j)=false:=nr rfl
theorem A5l(r r':Nat)(p:A9):aH pm s (.vw (r::r'::p) i j)=y7 pm s r:=nr rfl
theorem A5m:aH pm s (.clo f xs)=false:=nr rfl
theorem ADJ:Ar pm s dst (.tmp u) (.pe L c i j)=some (s.putO dst (.pe L c i j)):=nr rfl
theorem A1I:Ar pm s dst (.tmp u) (.cptr xs)=some (s.putO dst (.cptr xs)):=nr rfl
theorem A5n:Ar pm s dst (.tmp u) (.clo f xs)=some (s.putO dst (.clo f xs)):=nr rfl
theorem A5o:Ar pm s dst (.tmp u) (.tup xs)=some (if AP xs then(s.clr u).putO dst (.tup xs)else s.putO dst (.tup xs)):=nr rfl
theorem A5p:Ar pm s dst (.tmp u) (.agg xs)=asT s dst (BU pm s (.agg xs)) (some (if AP xs then(s.clr u).putO dst (.agg xs)else s.putO dst (.agg xs))) (!AP xs&&xs.any (aH pm s)):=by
 by_cases h:(!AP xs&&xs.any (aH pm s))=true
 ·have h':Y4 pm s (.agg xs)=true:=h;unfold Ar;simp only [h',h,if_true];rfl
 ·have h':Y4 pm s (.agg xs)=false:=Bool.eq_false_iff.mpr h;unfold Ar;simp only [h',Bool.eq_false_iff.mpr h];rfl
end
section
variable (k:IntKind) (x y:Int) (p q:Bool) (a b:ByteArray)
theorem A5q:D5 .add (.int k x) (.int k y)=some (.int k (k.wrap (x+y))):=by simp [D5]
theorem A5r:D5 .sub (.int k x) (.int k y)=some (.int k (k.wrap (x-y))):=by simp [D5]
theorem A5s:D5 .mul (.int k x) (.int k y)=some (.int k (k.wrap (x*y))):=by simp [D5]
theorem A5t:D5 .quo (.int k x) (.int k y)=if y=0 then none else some (.int k (k.wrap (x.tdiv y))):=by simp [D5]
theorem A5u:D5 .rem (.int k x) (.int k y)=if y=0 then none else some (.int k (x.tmod y)):=by simp [D5]
theorem A5v:D5 .and (.int k x) (.int k y)=some (.int k (LX .and k x y)):=by simp [D5]
theorem ADK:D5 .or (.int k x) (.int k y)=some (.int k (LX .or k x y)):=by simp [D5]
theorem A5w:D5 .xor (.int k x) (.int k y)=some (.int k (LX .xor k x y)):=by simp [D5]
theorem qN:D5 .andNot (.int k x) (.int k y)=some (.int k (LX .andNot k x y)):=by simp [D5]
theorem A5x(k':IntKind):D5 .shl (.int k x) (.int k' y)=if y<0 then none else some (.int k (k.wrap (x*2 ^ (min y.toNat k.bits)))):=by simp [D5]
theorem A5y(k':IntKind):D5 .shr (.int k x) (.int k' y)=if y<0 then none else some (.int k (x.fdiv (2 ^ (min y.toNat k.bits)))):=by simp [D5]
theorem ADL:D5 .eql (.int k x) (.int k y)=some (.bool (decide (x=y))):=by simp [D5];rfl
theorem ADM:D5 .neq (.int k x) (.int k y)=some (.bool (!decide (x=y))):=by simp [D5];rfl
theorem ADN:D5 .lss (.int k x) (.int k y)=some (.bool (decide (x<y))):=by simp [D5]
theorem ADO:D5 .leq (.int k x) (.int k y)=some (.bool (decide (x≤y))):=by simp [D5]
theorem ADP:D5 .gtr (.int k x) (.int k y)=some (.bool (decide (y<x))):=by simp [D5]
theorem ADQ:D5 .geq (.int k x) (.int k y)=some (.bool (decide (y≤x))):=by simp [D5]
theorem A5z:D5 .eql (.bool p) (.bool q)=some (.bool (p==q)):=nr rfl
theorem A60:D5 .neq (.bool p) (.bool q)=some (.bool (!(p==q))):=nr rfl
theorem A61:D5 .eql (.str a) (.str b)=some (.bool (a.toList==b.toList)):=nr rfl
theorem A62:D5 .neq (.str a) (.str b)=some (.bool (!(a.toList==b.toList))):=nr rfl
theorem A63:D5 .lss (.str a) (.str b)=some (.bool (Op.bytesLess a.toList b.toList)):=nr rfl
theorem A1J:D5 .add (.str a) (.str b)=if a.size+b.size<1099511627776 then some (.str (a++b))else none:=nr rfl
theorem A64:y5 .not (.bool p)=some (.bool (!p)):=nr rfl
theorem A65:y5 .neg (.int k x)=some (.int k (k.wrap (0-x))):=nr rfl
theorem boI(T:Tys)(t:TypeId):Mk T t (.int k x)=true:=nr rfl
theorem boS(T:Tys)(t:TypeId):Mk T t (.str a)=true:=nr rfl
theorem boB(T:Tys)(t:TypeId):Mk T t (.bool p)=match T.ty t with | .bool=>true | _=>false:=nr rfl
theorem boA(T:Tys)(t:TypeId)(k l:IntKind)(x y:Int):Mk T t (.agg [.int k x,.int l y])=jl T k l (T.ty t):=nr rfl
theorem A1K(T:Tys)(k l:IntKind)(a b:TypeId):jl T k l (.struct [a,b])=(fJ k (T.ty a)&&fJ l (T.ty b)):=nr rfl
theorem A66(k:IntKind):fJ k (.int k)=true:=by simp [fJ]
theorem A67(k l:IntKind)(a b c d:Int):D5 .eql (.agg [.int k a,.int l b]) (.agg [.int k c,.int l d])=some (.bool ((a==c)&&(b==d))):=by simp [D5]
theorem A68(k l:IntKind)(a b c d:Int):D5 .neq (.agg [.int k a,.int l b]) (.agg [.int k c,.int l d])=some (.bool (!((a==c)&&(b==d)))):=by simp [D5]
end
def CE(xs:List Int):List D:=xs.map (D.int .i64)
theorem CP(xs:List Int):(CE xs).length=xs.length:=by simp [CE]
theorem qO(xs:List Int)(i:Nat):(CE xs)[i]? =(xs[i]?).map (D.int .i64):=by simp [CE]
theorem V9(xs:List Int):Cf (CE xs)=false:=by
 induction xs with
 | nil=>rfl
 | cons x xs ih=>simp only [CE,List.map_cons,Cf,Ce,Bool.false_or];exact ih
theorem bi(xs:List Int):AP (CE xs)=false:=by
 induction xs with
 | nil=>rfl
 | cons x xs ih=>simp only [CE,List.map_cons,AP,D.hasObj,Bool.false_or];exact ih
theorem bn(xs:List Int):CW (CE xs)=some (CE xs):=by
 induction xs with
 | nil=>rfl
 | cons x xs ih=>simp only [CE,List.map_cons,CW,D8,Option.bind_some]at ih ⊢;rw [ih];rfl
theorem iG(xs:List Int):(CE xs).all Bh=true:=by simp [CE,Bh]
end Dv
namespace Dv
open Go
def zB:Value→Value→Bool
 | .int k n,.int k' n'=>decide (k=k')&&decide (n=n')
 | .bool b,.bool b'=>b==b'
 | .string s,.string s'=>s.size==0&&s'.size==0
 | .slice none 0 0,.slice none 0 0=>true
 | .nilFunc,.nilFunc=>true
 | .pointer none,.pointer none=>true
 | _,_=>false
theorem yC{a b:Value}(h:zB a b=true):a=b:=by
 unfold zB at h
 split at h
 ·simp only [Bool.and_eq_true,decide_eq_true_eq]at h;rw [h.1,h.2]
 ·simp only [beq_iff_eq]at h;rw [h]
 ·simp only [Bool.and_eq_true,beq_iff_eq]at h
  rename_i s s'
  have: ∀t:ByteArray,t.size=0→t=ByteArray.empty:=by
   intro t ht;obtain⟨d⟩:=t;have:d= #[]:=Array.size_eq_zero_iff.1 ht
   rw [this];rfl
  rw [this s h.1,this s' h.2]
 ·rfl
 ·rfl
 ·rfl
 ·cases h
def zsB:List Value→List Value→Bool
 | [],[]=>true
 | a::as,b::bs=>zB a b&&zsB as bs
 | _,_=>false
theorem qP: ∀ {a b:List Value},zsB a b=true→a=b
 | [],[],_=>rfl
 | [],_::_,h=>by cases h
 | _::_,[],h=>by cases h
 | a::as,b::bs,h=>by
  simp only [zsB,Bool.and_eq_true]at h;rw [yC h.1,qP h.2]
def Qo(P:Program)(t:TypeId)(n:Nat)(z:Value):Bool:=
 match P.info? t with
 | some i=>(i.size==n)&&(decide (4<n)||decide (i.bytes≤128))&&(match i.zero,z with | some (.agg a),.agg b=>zsB a.toList b.toList | some v,z=>zB v z | _,_=>false)
 | none=>false
theorem Lh{P:Program}{t:TypeId}{n:Nat}{z:Value}(h:Qo P t n z=true):Nr P t n z:=by
 unfold Qo at h
 split at h
 ·rename_i i hi
  simp only [Bool.and_eq_true,Bool.or_eq_true,beq_iff_eq,decide_eq_true_eq]at h
  refine⟨i,hi,h.1.1, ?_,fun h4=>h.1.2.resolve_left (by omega)⟩
  have h2:=h.2
  split at h2
  ·rename_i a b hz
   rw [hz];have:=qP h2
   rw [←Array.toArray_toList (xs:=a),this]
  ·rename_i v z' hz _
   rw [hz,yC h2]
  ·cases h2
 ·cases h
def Ya(P:Program)(T:Tys)(t:TypeId):Bool:=
 match T.ty t with
 | .int k=>(match P.underlying t with | some (.int k')=>decide (k'=k) | _=>false)&&Qo P t 1 (.int k 0)
 | .bool=>(match P.underlying t with | some .bool=>true | _=>false)&&Qo P t 1 (.bool false)
 | .string=>(match P.underlying t with | some .string=>true | _=>false)&&Qo P t 1 (.string ByteArray.empty)
 | .slice e=>(match P.underlying t with | some (.slice e')=>e'==e | _=>false)&&Qo P t 1 (.slice none 0 0)
 | .struct fs=>(match P.underlying t with
   | some (.struct fields)=>
    match T.nest t with
    | none=>(fields.size==fs.length)&&(List.range fields.size).all (fun j=>match fields[j]?,fs[j]? with | some f,some g=>(f.offset==j)&&(f.type==g)&&T.known g&& !T.isStruct g | _,_=>false)
    | some fl=>decide (4<fs.length)&&(fields.size==fl.length)&&(List.range fields.size).all (fun j=>match fields[j]?,fl[j]? with | some f,some g=>(f.offset==g.1)&&(f.type==g.2)&&T.known g.2 | _,_=>false)
   | _=>false)&&Qo P t fs.length (.agg (fs.map (Hl T)).toArray)
 | .func=>(match P.underlying t with | some (.func ..)=>true | _=>false)&&Qo P t 1 .nilFunc
 | .ptr=>(match P.underlying t with | some (.pointer _)=>true | _=>false)&&Qo P t 1 (.pointer none)
 | .map k e=>match P.underlying t with | some (.map k' e')=>(k'==k)&&(e'==e) | _=>false
 | .other=>true
theorem iH{P:Program}{T:Tys}{t:TypeId}(h:Ya P T t=true):Fa P T t:=by
 unfold Ya at h;unfold Fa
 cases hty:T.ty t<;>rw [hty]at h<;>simp only [Bool.and_eq_true]at h ⊢
 case int k=>
  refine⟨?_,Lh h.2⟩
  have h1:=h.1
  split at h1
  ·rename_i k' hu;rw [hu];simp only [decide_eq_true_eq]at h1;rw [h1]
  ·cases h1
 case bool=>
  refine⟨?_,Lh h.2⟩
  have h1:=h.1
  split at h1
  ·assumption
  ·cases h1
 case string=>
  refine⟨?_,Lh h.2⟩
  have h1:=h.1
  split at h1
  ·assumption
  ·cases h1
 case map k e=>
  split at h
  ·rename_i k' e' hu;rw [hu];simp only [Bool.and_eq_true,beq_iff_eq]at h;rw [h.1,h.2]
  ·cases h
 case slice e=>
  refine⟨?_,Lh h.2⟩
  have h1:=h.1
  split at h1
  ·rename_i k' hu;rw [hu];simp only [beq_iff_eq]at h1;rw [h1]
  ·cases h1
 case struct fs=>
  refine⟨?_,Lh h.2⟩
  have h1:=h.1
  split at h1
  ·rename_i fields hu
   refine⟨fields,hu, ?_⟩
   cases hn:T.nest t with
   | none=>
    simp only [hn,Bool.and_eq_true,beq_iff_eq,List.all_eq_true,List.mem_range]at h1 ⊢
    refine⟨h1.1,fun j f hf=> ?_⟩
    have hlt:=(Array.getElem?_eq_some_iff.1 hf).1;have:=h1.2 j hlt
    rw [hf]at this
    split at this
    ·rename_i f' g hf' hg
     simp only [Option.some.injEq]at hf';subst hf';simp only [Bool.and_eq_true,beq_iff_eq,Bool.not_eq_true']at this;obtain⟨⟨⟨q1,q2⟩,q3⟩,q4⟩:=this;subst q2
     exact⟨q1,hg,q3,q4⟩
    ·cases this
   | some fl=>
    simp only [hn,Bool.and_eq_true,beq_iff_eq,List.all_eq_true,List.mem_range,decide_eq_true_eq]at h1 ⊢
    refine⟨h1.1.1,h1.1.2,fun j f hf=> ?_⟩
    have hlt:=(Array.getElem?_eq_some_iff.1 hf).1;have:=h1.2 j hlt
    rw [hf]at this
    split at this
    ·rename_i f' g hf' hg
     simp only [Option.some.injEq]at hf';subst hf';simp only [Bool.and_eq_true,beq_iff_eq]at this;obtain⟨⟨q1,q2⟩,q3⟩:=this
     refine⟨?_,by rw [q2];exact q3⟩
     rw [hg,q1,q2]
    ·cases this
  ·cases h1
 case func=>
  refine⟨?_,Lh h.2⟩
  have h1:=h.1
  split at h1
  ·exact⟨_,_,_,by assumption⟩
  ·cases h1
 case ptr=>
  refine⟨?_,Lh h.2⟩
  have h1:=h.1
  split at h1
  ·exact⟨_,by assumption⟩
  ·cases h1
def mG(vN:List Ty)(yD:List (TypeId×List (Nat×TypeId))):Tys:={ty:=fun t=>vN.getD t .other,nest:=fun t=>yD.lookup t}
theorem A1L{P:Program}{vN:List Ty}{yD:List (TypeId×List (Nat×TypeId))}(h:((List.range vN.length).all fun t=>Ya P (mG vN yD) t&&vV P (mG vN yD) t)=true):Br P (mG vN yD):=by
 intro t;rcases Nat.lt_or_ge t vN.length with ht | ht
 ·have:=List.all_eq_true.1 h t (List.mem_range.2 ht)
  rw [Bool.and_eq_true]at this
  exact⟨iH this.1,this.2⟩
 ·have:(mG vN yD).ty t= .other:=by simp [mG,List.getD_eq_getElem?_getD,List.getElem?_eq_none ht]
  refine⟨?_, ?_⟩
  ·unfold Fa;rw [this];trivial
  ·unfold vV;rw [this]
theorem AL{Y:Sys}{f:FuncId}{fn:Func}{k:SC}{a l:List D}{r:D×List D}(hb:Y.base f a l=none)(hf:Y.P.funcs[f]? =some fn)(hok:Bi fn a.length=true)
  (hk:fn.body.map (BO Y.lends)=some k)(h:Bf Y.env k (EG Y.T l.length fn.results.toList r) (entry a l)):Y.call f a l=some r:=by
 obtain⟨c,hc,hk⟩:=Option.map_eq_some_iff.1 hk;exact Sys.call_wp hb hf hok hc hk h
end Dv
namespace Dv
open Go
section
variable (E:Env) (pm:Pm) (s:St) (dst:Option Tmp) (ty:TypeId) (u:Tmp) (t:TypeId)
theorem Ho(o:Option D):(o.map fun r=>s.putO dst r)=Ic s dst o:=by cases o<;>rfl
theorem Li(o:Option (D×St)):(o.map fun r=>r.2.putO dst r.1)=V8 dst o:=by cases o<;>rfl
theorem A69:Ka E pm s dst (.move (.tmp u)) ty=some (C8 s dst (.tmp u) (s.v u)):=nr rfl
def mH(pm:Pm):Option Tmp→Option St→Option St
 | some t,some s1=>Ed pm s1 (some t)
 | _,_=>none
def frC(s1:St)(t:Tmp):Option D→Option St
 | some c=>some (s1.set [t] c)
 | none=>none
theorem ADR(s1:St)(t:Tmp)(h1:pm.rd t=true)(h2:pm.wr t=true):mH pm (some t) (some s1)=frC s1 t (D8 (s1.v t)):=by
 show(if pm.rd t&&pm.wr t then(D8 (s1.v t)).map fun c=>s1.set [t] c else none)=_
 rw [h1,h2]
 cases D8 (s1.v t)<;>rfl
theorem ADS(s1:St)(u:Tmp)(b:Bool):fbC pm s1 u (.bool b)=if b=true then some s1 else mH pm (some u) (some s1):=by
 cases b<;>rfl
theorem ADT(s1:St)(t:Tmp)(c:D):frC s1 t (some c)=some (s1.set [t] c):=nr rfl
def fcB(pm:Pm):Option Tmp→Option St→Option St
 | some t,some s1=>Mv pm s1 (some t)
 | _,_=>none
def fcD(s1:St)(t:Tmp)(e:TypeId):Option (List D)→Option St
 | some ys=>some (s1.set [t] (.own e ys))
 | none=>none
def fcC(s1:St)(t:Tmp):D→Option St
 | .own e xs=>fcD s1 t e (CW xs)
 | _=>none
theorem ADW(s1:St)(t:Tmp)(h1:pm.rd t=true)(h2:pm.wr t=true):fcB pm (some t) (some s1)=fcC s1 t (s1.v t):=by
 show Mv pm s1 (some t)=_
 unfold Mv fcC;dsimp only;rw [h1,h2]
 cases s1.v t with
 | own e xs=>simp only [Bool.and_self,if_true];cases CW xs<;>rfl
 | _=>rfl
theorem ADX(s1:St)(t:Tmp)(e:TypeId)(xs:List D):fcC s1 t (.own e xs)=fcD s1 t e (CW xs):=nr rfl
theorem ADY(s1:St)(t:Tmp)(e:TypeId)(ys:List D):fcD s1 t e (some ys)=some (s1.set [t] (.own e ys)):=nr rfl
theorem wT:Ka E pm s dst (.assign (.tmp u)) ty=if ty=900003 then mH pm dst (Ar pm s dst (.tmp u) (s.v u))else if ty<1000000 then Ar pm s dst (.tmp u) (s.v u)else mH pm dst (Ar pm s dst (.tmp u) (s.v u)):=by
 have hfr:((Ar pm s dst (.tmp u) (s.v u)).bind fun s1=>Ed pm s1 dst)=mH pm dst (Ar pm s dst (.tmp u) (s.v u)):=by
  rcases Ar pm s dst (.tmp u) (s.v u)with _ | s1<;>cases dst<;>rfl
 show(if o7 ty=true then(Ar pm s dst (.tmp u) (s.v u)).bind fun s1=>Ed pm s1 dst else Ar pm s dst (.tmp u) (s.v u))=_
 rw [hfr];unfold o7;by_cases h1:ty=900003
 ·rw [if_pos h1,if_pos h1];rfl
 ·rw [if_neg h1,if_neg h1];by_cases h2:ty<1000000
  ·rw [if_pos h2,if_pos h2];rfl
  ·rw [if_neg h2,if_neg h2];rfl
theorem qQ(v:Value):Ka E pm s dst (.assign (.const v)) ty=if ty=900003 then mH pm dst (Ic s dst (ev E.T s ty (.const v)))else if ty<1000000 then Ic s dst (ev E.T s ty (.const v))else mH pm dst (Ic s dst (ev E.T s (ty-1000000) (.const v))):=by
 have hfr: ∀t,((ev E.T s t (.const v)).bind fun d=>(Ar pm s dst (.const v) d).bind fun s1=>Ed pm s1 dst)=mH pm dst (Ic s dst (ev E.T s t (.const v))):=by
  intro t
  cases ev E.T s t (.const v)<;>cases dst<;>rfl
 have hno: ∀t,((ev E.T s t (.const v)).bind fun d=>Ar pm s dst (.const v) d)=Ic s dst (ev E.T s t (.const v)):=by
  intro t
  cases ev E.T s t (.const v)<;>rfl
 show((ev E.T s (A0j ty) (.const v)).bind fun d=>if o7 ty=true then(Ar pm s dst (.const v) d).bind fun s1=>Ed pm s1 dst else Ar pm s dst (.const v) d)=_
 unfold o7 A0j;by_cases h1:ty=900003
 ·simp only [if_pos h1,if_true];exact hfr _
 ·by_cases h2:ty<1000000
  ·simp only [if_neg h1,if_pos h2,Bool.false_eq_true,if_false];exact hno _
  ·simp only [if_neg h1,if_neg h2,if_true];exact hfr _
theorem A1M(v:Value):Ka E pm s dst (.move (.const v)) ty=Ic s dst (ev E.T s ty (.const v)):=by
 show((ev E.T s ty (.const v)).map fun d=>C8 s dst (.const v) d)=_
 cases ev E.T s ty (.const v)<;>rfl
theorem A6A:Ka E pm s dst (.load t (.tmp u)) ty=Ic s dst (Dt E.T pm s t (.tmp u) (s.v u)):=Ho s dst _
theorem yUn(op:UnOp):Ka E pm s dst (.unOp op t (.tmp u)) ty=Ic s dst (y5 op (s.v u)):=Ho s dst _
theorem A1N(i:Nat):Ka E pm s dst (.fieldAddr t (.tmp u) i) ty=Ic s dst (F4 E.T pm s t (.tmp u) (s.v u) i):=Ho s dst _
theorem ADZ:Ka E pm s dst (.call ⟨.builtin .len, #[.tmp u], #[t]⟩) ty=Ic s dst (Mw E.T pm s t (.tmp u) (s.v u)):=Ho s dst _
theorem qR(i:Nat):Ka E pm s dst (.extract (.tmp u) i) ty=I6 s dst (.tmp u) (s.v u) i:=nr rfl
def slC(T:Tys)(pm:Pm)(s:St)(dst:Option Tmp)(t:TypeId)(x:Operand)(hi:Option Operand):Option Operand→Option Operand→Option St
 | none,none=>V8 dst (OT T pm s t x hi)
 | _,_=>none
theorem ADa(T:Tys)(x:Operand)(hi:Option Operand):slC T pm s dst t x hi none none=V8 dst (OT T pm s t x hi):=nr rfl
def slF(T:Tys)(pm:Pm)(s:St)(dst:Option Tmp)(t:TypeId)(x:Operand)(lo:Option Operand):Option Operand→Option Operand→Option St
 | none,none=>V8 dst (LY T pm s t x lo)
 | _,_=>none
theorem ADb(T:Tys)(x:Operand)(lo:Option Operand):slF T pm s dst t x lo none none=V8 dst (LY T pm s t x lo):=nr rfl
theorem A1O(lo hi mx:Option Operand):Ka E pm s dst (.slice t (.tmp u) lo hi mx) ty=
  if ty=900002 then slC E.T pm s dst t (.tmp u) hi lo mx
  else if ty=900005 then slF E.T pm s dst t (.tmp u) lo hi mx
  else if ty=900001 then V8 dst (I5 E.T pm.see s t (.tmp u) (s.v u) lo hi mx)else V8 dst (I5 E.T pm s t (.tmp u) (s.v u) lo hi mx):=by
 show(if ty=900002 then(if lo.isNone&&mx.isNone then(OT E.T pm s t (.tmp u) hi).map fun r=>r.2.putO dst r.1 else none)
  else if ty=900005 then(if hi.isNone&&mx.isNone then(LY E.T pm s t (.tmp u) lo).map fun r=>r.2.putO dst r.1 else none)
  else(ev E.T s t (.tmp u)).bind fun d=>(I5 E.T (if ty=900001 then pm.see else pm) s t (.tmp u) d lo hi mx).map fun r=>r.2.putO dst r.1)=_
 split
 ·cases lo<;>cases mx<;>first | rfl | exact Li dst _
 ·split
  ·cases hi<;>cases mx<;>first | rfl | exact Li dst _
  ·split
   ·exact Li dst _
   ·exact Li dst _
def apI(T:Tys)(pm:Pm)(s:St)(t:TypeId)(x y:Operand)(d:D):Option (D×St):=if isZ (some d)then LZ T pm s t x else FY T pm s t x y
theorem wU(x:Operand)(v:Tmp):Ka E pm s dst (.call ⟨.builtin .append, #[x,.tmp v], #[t,t]⟩) ty=V8 dst (apI E.T pm s t x (.tmp v) (s.v v)):=by
 rw [iF,if_pos rfl,Li];rfl
def mn1(mx:Bool):Option D→Option D→Option D
 | some a,some b=>Ta mx a b
 | _,_=>none
theorem ADd(mx:Bool)(a b:D):mn1 mx (some a) (some b)=Ta mx a b:=nr rfl
theorem A6C(k:IntKind)(x y:Int):Ta false (.int k x) (.int k y)=some (.int k (Y3 x y)):=by simp [Ta]
theorem A6D(k:IntKind)(x y:Int):Ta true (.int k x) (.int k y)=some (.int k (jk x y)):=by simp [Ta]
theorem ADe(x y:Operand)(t':TypeId):Ka E pm s dst (.call ⟨.builtin .min, #[x,y], #[t,t']⟩) ty=Ic s dst (mn1 false (ev E.T s t x) (ev E.T s t' y)):=by
 show(match ev E.T s t x,ev E.T s t' y with | some a,some b=>(Ta false a b).map fun r=>s.putO dst r | _,_=>none)=_
 cases ev E.T s t x<;>cases ev E.T s t' y<;>first | rfl | exact Ho s dst _
theorem ADf(x y:Operand)(t':TypeId):Ka E pm s dst (.call ⟨.builtin .max, #[x,y], #[t,t']⟩) ty=Ic s dst (mn1 true (ev E.T s t x) (ev E.T s t' y)):=by
 show(match ev E.T s t x,ev E.T s t' y with | some a,some b=>(Ta true a b).map fun r=>s.putO dst r | _,_=>none)=_
 cases ev E.T s t x<;>cases ev E.T s t' y<;>first | rfl | exact Ho s dst _
theorem ADg(T:Tys)(x y:Operand)(e:TypeId)(xs:List D):apI T pm s t x y (.sl e xs)=FY T pm s t x y:=nr rfl
theorem A6E(T:Tys)(x y:Operand)(e:TypeId)(xs:List D):apI T pm s t x y (.own e xs)=FY T pm s t x y:=nr rfl
theorem ADh(T:Tys)(x y:Operand)(L:A9)(n m:Nat):apI T pm s t x y (.vw L n m)=FY T pm s t x y:=nr rfl
theorem apK(T:Tys)(x y:Operand)(A:Option Addr)(c:Nat):apI T pm s t x y (.konst (.slice A 0 c))=LZ T pm s t x:=nr rfl
def ix1(T:Tys)(pm:Pm)(s:St)(t:TypeId)(x:Operand)(d:D):Option D→Option D
 | some i=>Rm T pm s t x d i
 | none=>none
theorem ADi(T:Tys)(x:Operand)(d i:D):ix1 T pm s t x d (some i)=Rm T pm s t x d i:=nr rfl
theorem A1P(i:Operand):Ka E pm s dst (.indexAddr t (.tmp u) i) ty=Ic s dst (ix1 E.T pm s t (.tmp u) (s.v u) (ev E.T s 0 i)):=by
 show(match some (s.v u),ev E.T s 0 i with
  | some a,some b=>(Rm E.T pm s t (.tmp u) a b).map fun r=>s.putO dst r
  | _,_=>none)=_
 cases ev E.T s 0 i with
 | none=>rfl
 | some b=>exact Ho s dst _
def mk1(T:Tys)(t:TypeId):Option D→Option D→Option D
 | some a,some b=>EC T t a b
 | _,_=>none
theorem ADj(T:Tys)(a b:D):mk1 T t (some a) (some b)=EC T t a b:=nr rfl
theorem ADk(l c:Operand):WV E.T s dst t l c=Ic s dst (mk1 E.T t (ev E.T s 0 l) (ev E.T s 0 c)):=by
 show(match ev E.T s 0 l,ev E.T s 0 c with
  | some a,some b=>(EC E.T t a b).map fun r=>s.putO dst r
  | _,_=>none)=_
 cases ev E.T s 0 l<;>cases ev E.T s 0 c<;>first | rfl | exact Ho s dst _
theorem A6G(l c:Operand):Ka E pm s dst (.makeSlice t l c) ty=if ty=900012 then fcB pm dst (Ic s dst (mk1 E.T t (ev E.T s 0 l) (ev E.T s 0 c)))else Ic s dst (mk1 E.T t (ev E.T s 0 l) (ev E.T s 0 c)):=by
 rw [Wm,ADk];by_cases h:ty=900012
 ·rw [if_pos h,if_pos h]
  cases Ic s dst (mk1 E.T t (ev E.T s 0 l) (ev E.T s 0 c))<;>cases dst<;>rfl
 ·rw [if_neg h,if_neg h]
theorem ADl(u:Tmp)(s1:St):stF pm (.tmp u) (some s1)=mH pm (some u) (some s1):=nr rfl
def cv1(s:St)(dst:Option Tmp):Option D→Ty→Option St
 | some (.int _ n),.int k=>some (s.putO dst (.int k (k.wrap n)))
 | some (.str b),.string=>some (s.putO dst (.str b))
 | _,_=>none
theorem ADn(k k':IntKind)(n:Int):cv1 s dst (some (.int k n)) (.int k')=some (s.putO dst (.int k' (k'.wrap n))):=nr rfl
theorem ADo(b:ByteArray):cv1 s dst (some (.str b)) .string=some (s.putO dst (.str b)):=nr rfl
theorem qU(src d:TypeId)(x:Operand):Ka E pm s dst (.convert src d x) ty=if E.T.known src then cv1 s dst (ev E.T s src x) (E.T.ty d)else none:=by
 rw [bg];split
 ·rcases ev E.T s src x with _ | d'<;>cases E.T.ty d<;>first | rfl | (cases d'<;>rfl)
 ·rfl
def asM(l:List TypeId):List TypeId:=l.map fun _=>900013
theorem ADp(k e:TypeId)(es:List (List Int×List Int)):(D.mp k e es).hasObj=true:=by simp [D.hasObj]
theorem ADq:asM []=[]:=nr rfl
theorem ADr(t:TypeId)(l:List TypeId):asM (t::l)=900013::asM l:=nr rfl
theorem A6I(f:FuncId)(args:Array Operand)(ts:Array TypeId)(h:args.size=ts.size):Ka E pm s dst (.call ⟨.value (.func f),args,ts⟩) ty=if ty=900014 then mH pm dst (GI E pm s dst f (args.toList.zip ts.toList) [])else GI E pm s dst f (args.toList.zip (if ty=900013 then asM ts.toList else ts.toList)) []:=by
 rw [qI,if_pos h];by_cases c:ty=900014
 ·rw [if_pos c,if_pos c];have e:OW ty ts.toList=ts.toList:=by unfold OW;rw [c,if_neg (by decide)]
  rw [e];unfold mH
  cases GI E pm s dst f (args.toList.zip ts.toList) []with
  | none=>cases dst<;>rfl
  | some s1=>cases dst<;>rfl
 ·rw [if_neg c,if_neg c]
  unfold OW asM;rfl
end
section
variable {T:Tys} {pm:Pm} {s:St} {t:TypeId}
theorem ldC(x:Operand)(xs:List D)(hk:T.known t=true)(hs:T.isStruct t=false):Dt T pm s t x (.cptr xs)=xs[0]? :=by simp [Dt,hk,hs]
theorem ADs(x:Operand)(xs:List D)(hk:T.known t=true)(hs:T.isStruct t=true):Dt T pm s t x (.cptr xs)=if T.size t≤xs.length then some (.agg (xs.take (T.size t)))else none:=by simp [Dt,hk,hs]
def Ol(s:St)(L:A9)(c:Nat):Option D→Option D
 | some o=>(o.cells[c]?).bind fun x=>Bc (Dn s L c x)
 | none=>none
def cellsOf(s:St)(L:A9)(c n:Nat):Option D→Option D
 | some o=>if c+n≤o.cells.length then Bc (.agg ((List.range n).map fun i=>Dn s L (c+i) (o.cells.getD (c+i) .undef)))else none
 | none=>none
theorem ldP(x:Operand)(L:A9)(c n m:Nat)(hk:T.known t=true)(hs:T.isStruct t=false):Dt T pm s t x (.pe L c n m)=Ol s L c (s.look pm L n m):=by
 simp only [Dt,hk,hs,if_true,Gc]
 cases s.look pm L n m<;>simp [Ol]
theorem ADt(x:Operand)(L:A9)(c n m:Nat)(hk:T.known t=true)(hs:T.isStruct t=true):Dt T pm s t x (.pe L c n m)=cellsOf s L c (T.size t) (s.look pm L n m):=by
 simp only [Dt,hk,hs,if_true,Gc]
 cases s.look pm L n m<;>simp [cellsOf]
theorem ldB(u:Tmp)(xs:List D)(hk:T.known t=true)(hs:T.isStruct t=false):Dt T pm s t (.tmp u) (.box xs)=Ol s [u] 0 (some (.box xs)):=by
 simp only [Dt,hk,hs,if_true,Gc];simp [Ol]
theorem ADu(u:Tmp)(xs:List D)(hk:T.known t=true)(hs:T.isStruct t=true):Dt T pm s t (.tmp u) (.box xs)=cellsOf s [u] 0 (T.size t) (some (.box xs)):=by
 simp only [Dt,hk,hs,if_true,Gc];simp [cellsOf]
def Om(s:St)(pm:Pm)(L:A9)(n m:Nat):Option D:=
 match s.look pm L n m with
 | some (.box xs)=>some (.box xs)
 | _=>none
theorem ldV(x:Operand)(L:A9)(n m:Nat)(hk:T.known t=true)(hs:T.isStruct t=false):Dt T pm s t x (.vw L n m)=Ol s L 0 (Om s pm L n m):=by
 simp only [Dt,hk,hs,if_true,Gc,Om]
 cases s.look pm L n m with
 | none=>simp [Ol]
 | some o=>cases o<;>simp [Ol]
theorem ADv(x:Operand)(L:A9)(n m:Nat)(hk:T.known t=true)(hs:T.isStruct t=true):Dt T pm s t x (.vw L n m)=cellsOf s L 0 (T.size t) (Om s pm L n m):=by
 simp only [Dt,hk,hs,if_true,Gc,Om]
 cases s.look pm L n m with
 | none=>simp [cellsOf]
 | some o=>cases o<;>simp [cellsOf]
def bq:D→Option D
 | .own e xs=>some (.own e xs)
 | .box xs=>some (.box xs)
 | _=>none
theorem A1Q(e:TypeId)(xs:List D):bq (.own e xs)=some (.own e xs):=nr rfl
theorem A1R(xs:List D):bq (.box xs)=some (.box xs):=nr rfl
theorem A6J(u n m:Nat):s.look pm [u] n m=if pm.rd u&&(s.k u==n)then bq (s.v u)else none:=by
 simp only [St.look,List.isEmpty_nil,Bool.true_or,Bool.and_true,BJ];split
 ·cases s.v u<;>rfl
 ·rfl
def A6K:Option D→Option D
 | some d=>bq d
 | none=>none
theorem A6L(u c n m:Nat)(p:A9):s.look pm (u::c::p) n m=if pm.rd u&&(s.k u==n)&&(s.m u==m)then A6K (BJ (s.v u) (c::p))else none:=by
 simp only [St.look,List.isEmpty_cons,Bool.false_or];split
 ·cases BJ (s.v u) (c::p)with
  | none=>rfl
  | some d=>cases d<;>rfl
 ·rfl
theorem A6M(d:D):A6K (some d)=bq d:=nr rfl
theorem ADw(x:Operand)(e:TypeId)(xs:List D):Bn pm s x (.sl e xs)=some (e,xs,none):=nr rfl
theorem A6N(u:Tmp)(e:TypeId)(xs:List D):Bn pm s (.tmp u) (.own e xs)=some (e,xs,some ([u],s.k u,s.m u)):=nr rfl
def A6O(L:A9)(n m:Nat):Option D→Option (TypeId×List D×Option (A9×Nat×Nat))
 | some (.own e xs)=>some (e,xs,some (L,n,m))
 | _=>none
theorem A6P(L:A9)(n m:Nat)(e:TypeId)(xs:List D):A6O L n m (some (.own e xs))=some (e,xs,some (L,n,m)):=nr rfl
theorem ADx(x:Operand)(L:A9)(n m:Nat):Bn pm s x (.vw L n m)=A6O L n m (s.look pm L n m):=by
 simp only [Bn]
 cases s.look pm L n m with
 | none=>rfl
 | some o=>cases o<;>rfl
def wV(T:Tys):Option (TypeId×List D×Option (A9×Nat×Nat))→Option D
 | some (e,xs,_)=>if T.known e then some (.int .i64 (T.len e xs))else none
 | none=>none
theorem A6Q(e:TypeId)(xs:List D)(o:Option (A9×Nat×Nat))(hk:T.known e=true):wV T (some (e,xs,o))=some (.int .i64 (T.len e xs)):=by simp [wV,hk]
def ln0(T:Tys)(pm:Pm)(s:St)(x:Operand)(d:D):Ty→Option D
 | .string=>match d with | .str b=>some (.int .i64 b.size) | _=>none
 | .slice _=>wV T (Bn pm s x d)
 | _=>none
theorem lnT(x:Operand)(d:D):MG T pm s t x d=ln0 T pm s x d (T.ty t):=by
 unfold MG ln0
 cases T.ty t with
 | slice e=>
  simp only
  cases Bn pm s x d with
  | none=>rfl
  | some q=>rfl
 | string=>cases d<;>rfl
 | _=>rfl
theorem A6R(x:Operand)(e:TypeId)(xs:List D):Mw T pm s t x (.sl e xs)=MG T pm s t x (.sl e xs):=nr rfl
theorem A1S(x:Operand)(e:TypeId)(xs:List D):Mw T pm s t x (.own e xs)=MG T pm s t x (.own e xs):=nr rfl
def lnW(T:Tys)(pm:Pm)(s:St)(t:TypeId)(x:Operand)(L:A9)(n m:Nat):Ty→Option D
 | .map _ _=>(s.lookM pm L n).map fun q=> .int .i64 q.2.2.length
 | _=>MG T pm s t x (.vw L n m)
theorem A6T(x:Operand)(L:A9)(n m:Nat):Mw T pm s t x (.vw L n m)=lnW T pm s t x L n m (T.ty t):=by
 show(match T.ty t with | .map _ _=>WU T pm s t x (.vw L n m) | _=>aM T pm s t x (.vw L n m))=_
 unfold lnW WU
 cases h:T.ty t<;>simp only [QO]<;>first | rfl | (cases s.lookM pm L n<;>rfl)
theorem ADy(T:Tys)(x:Operand)(L:A9)(n m:Nat)(k e:TypeId):lnW T pm s t x L n m (.map k e)=(s.lookM pm L n).map fun q=> .int .i64 q.2.2.length:=nr rfl
theorem ADz(T:Tys)(x:Operand)(L:A9)(n m:Nat)(e:TypeId):lnW T pm s t x L n m (.slice e)=MG T pm s t x (.vw L n m):=nr rfl
theorem A1T(T:Tys)(x:Operand)(L:A9)(n m:Nat):lnW T pm s t x L n m .string=MG T pm s t x (.vw L n m):=nr rfl
def A6U:D→Option (TypeId×TypeId×List (List Int×List Int))
 | .mp k e es=>some (k,e,es)
 | _=>none
theorem A6V(k e:TypeId)(es:List (List Int×List Int)):A6U (.mp k e es)=some (k,e,es):=nr rfl
theorem A1U(u n:Nat):s.lookM pm [u] n=if pm.rd u&&(s.k u==n)then A6U (s.v u)else none:=by
 simp only [St.lookM];split
 ·cases s.v u<;>rfl
 ·rfl
theorem A1V(x:Operand)(b:ByteArray):Mw T pm s t x (.str b)=MG T pm s t x (.str b):=nr rfl
theorem A6W(x:Operand)(e:TypeId)(L:A9)(n m lo len:Nat):Mw T pm s t x (.vs e L n m lo len)=vR len (T.ty t):=nr rfl
theorem A6X(len:Nat)(e:TypeId):vR len (.slice e)=some (.int .i64 len):=nr rfl
theorem A6Y(x:Operand)(e:TypeId)(xs:List D)(i:D):Rm T pm s t x (.sl e xs) i=Di T pm s t x (.sl e xs) i:=nr rfl
theorem A1W(x:Operand)(e:TypeId)(xs:List D)(i:D):Rm T pm s t x (.own e xs) i=Di T pm s t x (.own e xs) i:=nr rfl
theorem A6Z(x:Operand)(L:A9)(n m:Nat)(i:D):Rm T pm s t x (.vw L n m) i=Di T pm s t x (.vw L n m) i:=nr rfl
def wW(T:Tys)(e e1:TypeId)(L:A9)(va vb lo len:Nat)(n:Int):Option D→Option D
 | some (.own e2 xs)=>if e1=e∧e2=e∧T.known e=true∧T.size e=1∧0≤n∧n.toNat<len∧lo+len≤xs.length then some (.pe L (lo+n.toNat) va vb)else none
 | _=>none
def A1X(T:Tys)(pm:Pm)(s:St)(e1:TypeId)(L:A9)(va vb lo len:Nat)(n:Int):Ty→Option D
 | .slice e=>wW T e e1 L va vb lo len n (s.look pm L va vb)
 | _=>none
theorem A6a(x:Operand)(e:TypeId)(L:A9)(va vb lo len:Nat)(k:IntKind)(n:Int):Rm T pm s t x (.vs e L va vb lo len) (.int k n)=A1X T pm s e L va vb lo len n (T.ty t):=by
 show o6 T pm s t e L va vb lo len (.int k n)=_
 unfold o6 A1X
 cases T.ty t with
 | slice e'=>
  simp only;rcases s.look pm L va vb with _ | d
  ·rfl
  ·cases d<;>rfl
 | _=>rfl
theorem A6b(e1:TypeId)(L:A9)(va vb lo len:Nat)(n:Int)(e:TypeId):A1X T pm s e1 L va vb lo len n (.slice e)=wW T e e1 L va vb lo len n (s.look pm L va vb):=nr rfl
theorem A6c(e:TypeId)(L:A9)(va vb lo len:Nat)(n:Int)(xs:List D)(hk:T.known e=true)(hz:T.size e=1)(h1:0≤n∧n.toNat<len)(h2:lo+len≤xs.length):wW T e e L va vb lo len n (some (.own e xs))=some (.pe L (lo+n.toNat) va vb):=by
 unfold wW;dsimp only;rw [if_pos ⟨rfl,rfl,hk,hz,h1.1,h1.2,h2⟩]
theorem AE0(x:Operand)(d:D)(e:TypeId):ln0 T pm s x d (.slice e)=wV T (Bn pm s x d):=nr rfl
theorem A6d(x:Operand)(b:ByteArray):ln0 T pm s x (.str b) .string=some (.int .i64 b.size):=nr rfl
theorem A6e(e:TypeId)(xs:List D)(h:T.size e=1):T.len e xs=xs.length:=by simp [Tys.len,h]
def Xc(T:Tys)(e:TypeId)(n:Int):Option (TypeId×List D×Option (A9×Nat×Nat))→Option D
 | some (e',xs,o)=>
  if e'=e∧T.known e=true∧0≤n∧n.toNat<T.len e xs then
   match o with
   | none=>some (.cptr ((xs.drop (n.toNat*T.size e)).take (T.size e)))
   | some (L,a,b)=>some (.pe L (n.toNat*T.size e) a b)
  else none
 | none=>none
def ix0(T:Tys)(pm:Pm)(s:St)(x:Operand)(d:D)(n:Int):Ty→Option D
 | .slice e=>Xc T e n (Bn pm s x d)
 | _=>none
theorem ixT(x:Operand)(d:D)(k:IntKind)(n:Int):Di T pm s t x d (.int k n)=ix0 T pm s x d n (T.ty t):=by
 unfold Di ix0
 cases T.ty t with
 | slice e=>
  simp only
  cases Bn pm s x d with
  | none=>rfl
  | some q=>rfl
 | _=>rfl
theorem AE2(x:Operand)(d:D)(n:Int)(e:TypeId):ix0 T pm s x d n (.slice e)=Xc T e n (Bn pm s x d):=nr rfl
theorem A1Y(e:TypeId)(n:Int)(xs:List D)(hk:T.known e=true)(hz:T.size e=1)(hn:0≤n∧n.toNat<xs.length):Xc T e n (some (e,xs,none))=some (.cptr [xs.getD n.toNat .undef]):=by
 simp only [Xc,hk,hz,Tys.len,if_true];rw [if_pos ⟨trivial,trivial,hn.1,hn.2⟩,Nat.mul_one,List.drop_eq_getElem_cons hn.2,List.getD_eq_getElem?_getD,List.getElem?_eq_getElem hn.2];rfl
theorem wX(e:TypeId)(n:Int)(xs:List D)(L:A9)(a b:Nat)(hk:T.known e=true)(hz:T.size e=1)(hn:0≤n∧n.toNat<xs.length):Xc T e n (some (e,xs,some (L,a,b)))=some (.pe L n.toNat a b):=by
 simp only [Xc,hk,hz,Tys.len,if_true];rw [if_pos ⟨trivial,trivial,hn.1,hn.2⟩,Nat.mul_one]
end
section
variable {T:Tys} {pm:Pm} {s:St} {t:TypeId} (u:Tmp)
def WT(pm:Pm)(s:St)(u:Tmp)(d:D):Option (D×St):=BU pm (if d.hasObj then s.clr u else s) d
theorem A6f:take T pm s t (.tmp u)=WT pm s u (s.v u):=nr rfl
theorem tkC(v:Value):take T pm s t (.const v)=match ev T s t (.const v)with | none=>none | some d=>BU pm s d:=nr rfl
theorem A6g(k:IntKind)(n:Int):BU pm s (.int k n)=some (.int k n,s):=by simp [BU]
theorem A1Z(b:Bool):BU pm s (.bool b)=some (.bool b,s):=by simp [BU]
theorem A6h(b:ByteArray):BU pm s (.str b)=some (.str b,s):=by simp [BU]
theorem AE3(e:TypeId)(xs:List D):BU pm s (.sl e xs)=some (.sl e xs,s):=by simp [BU]
theorem A6i(e:TypeId)(xs:List D):BU pm s (.own e xs)=some (.own e xs,s):=by simp [BU]
theorem A6j(xs:List D):BU pm s (.box xs)=some (.box xs,s):=by simp [BU]
theorem A6k(f:FuncId)(xs:List D):BU pm s (.clo f xs)=some (.clo f xs,s):=by simp [BU]
theorem A1a(xs:List D):BU pm s (.cptr xs)=some (.cptr xs,s):=by simp [BU]
theorem AE4(L:A9)(n m:Nat):BU pm s (.vw L n m)=OQ pm s L n m:=by simp [BU]
def td1:Option (List D×St)→Option (D×St)
 | some r=>some (.agg r.1,r.2)
 | none=>none
theorem AE5(r:List D×St):td1 (some r)=some (.agg r.1,r.2):=nr rfl
theorem yE(xs:List D):BU pm s (.agg xs)=td1 (Ec pm s xs):=by simp only [BU];cases Ec pm s xs<;>rfl
def td2(pm:Pm)(ds:List D):Option (D×St)→Option (List D×St)
 | some r=>(Ec pm r.2 ds).map fun q=>(r.1::q.1,q.2)
 | none=>none
theorem AE6(ds:List D)(d:D):td2 pm ds (some (d,s))=(Ec pm s ds).map fun q=>(d::q.1,q.2):=nr rfl
theorem A1b:Ec pm s []=some ([],s):=by simp [Ec]
theorem wY(d:D)(ds:List D):Ec pm s (d::ds)=td2 pm ds (BU pm s d):=by simp only [Ec];cases BU pm s d<;>rfl
theorem A6m(k:IntKind)(n:Int):WT pm s u (.int k n)=some (.int k n,s):=by simp [WT,BU,D.hasObj]
theorem A1c(b:Bool):WT pm s u (.bool b)=some (.bool b,s):=by simp [WT,BU,D.hasObj]
theorem A6n(b:ByteArray):WT pm s u (.str b)=some (.str b,s):=by simp [WT,BU,D.hasObj]
theorem AE7(e:TypeId)(xs:List D):WT pm s u (.sl e xs)=some (.sl e xs,s):=by simp [WT,BU,D.hasObj]
theorem A6o(e:TypeId)(xs:List D):WT pm s u (.own e xs)=some (.own e xs,s.clr u):=by simp [WT,BU,D.hasObj]
theorem A6p(xs:List D):WT pm s u (.box xs)=some (.box xs,s.clr u):=by simp [WT,BU,D.hasObj]
theorem A6q(f:FuncId)(xs:List D):WT pm s u (.clo f xs)=some (.clo f xs,s):=by simp [WT,BU,D.hasObj]
theorem A1d(xs:List D):WT pm s u (.cptr xs)=some (.cptr xs,s):=by simp [WT,BU,D.hasObj]
theorem AE8(L:A9)(n m:Nat):WT pm s u (.vw L n m)=OQ pm s L n m:=by simp [WT,BU,D.hasObj]
theorem A6r(xs:List D):WT pm s u (.agg xs)=td1 (Ec pm (if AP xs then s.clr u else s) xs):=by
 simp only [WT,D.hasObj];rw [yE];rfl
theorem A1e:AP []=false:=by simp [AP]
theorem kE(d:D)(ds:List D):AP (d::ds)=(d.hasObj||AP ds):=by simp [AP]
theorem A6s(e:TypeId)(xs:List D):(D.sl e xs).hasObj=false:=by simp [D.hasObj]
theorem A6t(e:TypeId)(xs:List D):(D.own e xs).hasObj=true:=by simp [D.hasObj]
theorem A6u(xs:List D):(D.box xs).hasObj=true:=by simp [D.hasObj]
theorem A6v(f:FuncId)(xs:List D):(D.clo f xs).hasObj=false:=by simp [D.hasObj]
theorem A1f(xs:List D):(D.cptr xs).hasObj=false:=by simp [D.hasObj]
theorem AE9(L:A9)(n m:Nat):(D.vw L n m).hasObj=false:=by simp [D.hasObj]
theorem AEA(L:A9)(c n m:Nat):(D.pe L c n m).hasObj=false:=by simp [D.hasObj]
theorem hoK(v:Value):(D.konst v).hasObj=false:=by simp [D.hasObj]
theorem hoU:D.undef.hasObj=false:=by simp [D.hasObj]
theorem A6w(xs:List D):(D.agg xs).hasObj=AP xs:=by simp [D.hasObj]
theorem A6x(xs:List D):(D.tup xs).hasObj=AP xs:=by simp [D.hasObj]
def pl1(s:St)(r:Nat):Option D→Option (D×St)
 | some c=>some (c,s.set [r] .undef)
 | none=>none
theorem AEC(r:Nat)(c:D):pl1 s r (some c)=some (c,s.set [r] .undef):=nr rfl
theorem A6y(r n m:Nat)(hw:pm.wr r=true):OQ pm s [r] n m=pl1 s r (s.look pm [r] n m):=by
 unfold OQ
 cases s.look pm [r] n m with
 | none=>rfl
 | some c=>simp [hw,St.get,pl1]
def pl2(s:St)(L:A9)(o:Option D):Option D→Option (D×St)
 | some c=>match o with
  | some (.own _ _)=>(D8 c).map fun c'=>(c',s.set L c')
  | _=>some (c,s.set L .undef)
 | none=>none
theorem AED(L:A9)(xs:List D)(c:D):pl2 s L (some (.box xs)) (some c)=some (c,s.set L .undef):=nr rfl
theorem AEE(L:A9)(xs:List D)(c:D):pl2 s L (some (.agg xs)) (some c)=some (c,s.set L .undef):=nr rfl
theorem AEF(L:A9)(e:TypeId)(xs:List D)(c:D):pl2 s L (some (.own e xs)) (some c)=(D8 c).map fun c'=>(c',s.set L c'):=nr rfl
theorem A6z(u' c n m:Nat)(p:A9)(hw:pm.wr u'=true):OQ pm s (u'::c::p) n m=pl2 s (u'::c::p) (s.get (u'::c::p).dropLast) (s.look pm (u'::c::p) n m):=by
 unfold OQ
 cases s.look pm (u'::c::p) n m with
 | none=>rfl
 | some d=>simp only [List.headD_cons,hw,if_true,pl2];rfl
theorem AEG(r:Nat):s.get [r]=some (s.v r):=nr rfl
theorem A70(d:D):BJ d []=some d:=by cases d<;>rfl
theorem A71(e:TypeId)(xs:List D)(c:Nat)(p:A9):BJ (.own e xs) (c::p)=(xs[c]?).bind fun d=>BJ d p:=nr rfl
theorem A72(xs:List D)(c:Nat)(p:A9):BJ (.box xs) (c::p)=(xs[c]?).bind fun d=>BJ d p:=nr rfl
theorem A73(xs:List D)(c:Nat)(p:A9):BJ (.agg xs) (c::p)=(xs[c]?).bind fun d=>BJ d p:=nr rfl
theorem A74(d x:D):FX d [] x=x:=by cases d<;>rfl
theorem A75(e:TypeId)(xs:List D)(c:Nat)(p:A9)(x:D):FX (.own e xs) (c::p) x= .own e (xs.set c (FX (xs.getD c .undef) p x)):=nr rfl
theorem A76(xs:List D)(c:Nat)(p:A9)(x:D):FX (.box xs) (c::p) x= .box (xs.set c (FX (xs.getD c .undef) p x)):=nr rfl
theorem A77(xs:List D)(c:Nat)(p:A9)(x:D):FX (.agg xs) (c::p) x= .agg (xs.set c (FX (xs.getD c .undef) p x)):=nr rfl
end
section
variable {T:Tys} {pm:Pm} {s:St} {t:TypeId}
def Xd(T:Tys)(pm:Pm)(t:TypeId)(ax:Operand):Option (D×St)→Option St
 | none=>none
 | some (d,s1)=>
  match ev T s1 t ax with
  | none=>none
  | some ad=>
   match Gc pm s1 ax ad with
   | none=>none
   | some (L,c,o)=>
    if T.known t&&pm.wr (L.headD 0)&&d.asCells.all Bh&&(T.size t==d.asCells.length)&&(T.isStruct t==d.isAgg)&&decide (c+T.size t≤o.cells.length)then
     let s2:=s1.set L (o.withCells (Bo o.cells c d.asCells))
     some (if d.hasObj||AP o.cells then s2.bump (L.headD 0)else s2)
    else none
theorem A1g(ax x:Operand):JP T pm s t ax x=Xd T pm t ax (take T pm s t x):=by
 unfold JP F3 Xd;rcases take T pm s t x with _ | ⟨d,s1⟩<;>rfl
theorem wZ(ax:Operand)(q:Option (D×St)):F3 T pm t ax q=Xd T pm t ax q:=by
 unfold F3 Xd;rcases q with _ | ⟨d,s1⟩<;>rfl
def tm1(T:Tys)(pm:Pm)(s:St)(t:TypeId)(u:Tmp):D→Option (D×St)
 | .vw L n m=>UI pm s L n m
 | _=>take T pm s t (.tmp u)
theorem A1i(u:Tmp):KV T pm s t (.tmp u)=tm1 T pm s t u (s.v u):=by
 unfold KV;simp only [ev]
 cases s.v u<;>rfl
def tm2(s:St)(L:A9):Option D→Option (D×St)
 | some c=>some (c,s.set L .undef)
 | none=>none
theorem AEI(u:Tmp)(L:A9)(n m:Nat)(hw:pm.wr (L.headD 0)=true):tm1 T pm s t u (.vw L n m)=tm2 s L (s.look pm L n m):=by
 show UI pm s L n m=_
 unfold UI tm2
 cases s.look pm L n m with
 | none=>rfl
 | some c=>simp only [hw,if_true]
theorem AEJ(u:Tmp)(k:IntKind)(n:Int):tm1 T pm s t u (.int k n)=take T pm s t (.tmp u):=nr rfl
theorem A1j(u:Tmp)(e:TypeId)(xs:List D):tm1 T pm s t u (.own e xs)=take T pm s t (.tmp u):=nr rfl
theorem AEK(u:Tmp)(v:Value):tm1 T pm s t u (.konst v)=take T pm s t (.tmp u):=nr rfl
theorem AEL(u:Tmp):tm1 T pm s t u .undef=take T pm s t (.tmp u):=nr rfl
theorem A1k(v:Value):KV T pm s t (.const v)=take T pm s t (.const v):=by
 unfold KV;split
 ·rename_i L n m he
  simp only [ev,Pp]at he
  split at he<;>try (cases he;done)
  split at he<;>cases he
 ·rfl
theorem A78(u:Tmp)(e:TypeId)(xs:List D):tm1 T pm s t u (.sl e xs)=take T pm s t (.tmp u):=nr rfl
theorem AEM(L:A9)(c:D):tm2 s L (some c)=some (c,s.set L .undef):=nr rfl
def vO(s1:St)(L:A9)(c:Nat)(d:D):Option D→Option St
 | none=>none
 | some o=>if c<o.cells.length then(if d.hasObj||AP o.cells then some ((s1.set L (o.withCells (o.cells.set c d))).bump (L.headD 0))else some (s1.set L (o.withCells (o.cells.set c d))))else none
def yF(T:Tys)(pm:Pm)(t:TypeId)(u:Tmp)(d:D)(s:St):D→Option St
 | .pe L c n m=>if T.known t&& !T.isStruct t&&pm.wr (L.headD 0)&&Bh d then vO s L c d (s.look pm L n m)else Xd T pm t (.tmp u) (some (d,s))
 | .vw L n m=>if T.known t&& !T.isStruct t&&pm.wr (L.headD 0)&&Bh d then vO s L 0 d (Om s pm L n m)else Xd T pm t (.tmp u) (some (d,s))
 | .box xs=>if T.known t&& !T.isStruct t&&pm.wr u&&Bh d then vO s [u] 0 d (some (.box xs))else Xd T pm t (.tmp u) (some (d,s))
 | _=>Xd T pm t (.tmp u) (some (d,s))
theorem Oo{d:D}(hd:Bh d=true):d.asCells=[d]∧d.isAgg=false:=by
 cases d<;>first | exact⟨rfl,rfl⟩ | (simp [Bh]at hd)
theorem JV{T:Tys}{t:TypeId}(hs:T.isStruct t=false):T.size t=1:=by
 unfold Tys.isStruct at hs;unfold Tys.size
 cases hty:T.ty t<;>simp_all [Ty.isStruct,Ty.size]
theorem AEN(u:Tmp)(d:D)(_:d.isAgg=false):Xd T pm t (.tmp u) (some (d,s))=yF T pm t u d s (s.v u):=by
 cases hv:s.v u<;>simp only [yF]
 case pe L c n m=>
  split
  ·rename_i hc
   simp only [Bool.and_eq_true,Bool.not_eq_true']at hc;obtain⟨⟨⟨hk,hs⟩,hw⟩,hd⟩:=hc;obtain⟨ha,hg⟩:=Oo hd;have hz:=JV hs;simp only [Xd,ev,hv,Gc]
   cases s.look pm L n m with
   | none=>rfl
   | some o=>
    simp only [vO,hk,hw,ha,hz,hs,hg,List.all_cons,hd,List.all_nil,List.length_cons,List.length_nil,Bool.and_true,Bo,beq_self_eq_true,Nat.zero_add];by_cases hc:c<o.cells.length
    ·have h1:c+1≤o.cells.length:=hc;simp only [hc,h1,decide_true,Bool.and_true,if_true];split<;>first | rfl | (rename_i hq;simp only [hq];rfl)
    ·have h1: ¬c+1≤o.cells.length:=hc;simp only [hc,h1,decide_false,Bool.and_false,Bool.false_eq_true,if_false]
  ·rfl
 case vw L n m=>
  split
  ·rename_i hc
   simp only [Bool.and_eq_true,Bool.not_eq_true']at hc;obtain⟨⟨⟨hk,hs⟩,hw⟩,hd⟩:=hc;obtain⟨ha,hg⟩:=Oo hd;have hz:=JV hs;simp only [Xd,ev,hv,Gc,Om]
   cases s.look pm L n m with
   | none=>rfl
   | some o=>
    cases o<;>try rfl
    rename_i xs
    simp only [vO,hk,hw,ha,hz,hs,hg,List.all_cons,hd,List.all_nil,List.length_cons,List.length_nil,Bool.and_true,Bo,beq_self_eq_true,Nat.zero_add,D.cells];by_cases hc:0<xs.length
    ·have h1:1≤xs.length:=hc;simp only [hc,h1,decide_true,Bool.and_true,if_true];split<;>first | rfl | (rename_i hq;simp only [hq];rfl)
    ·have h1: ¬1≤xs.length:=hc;simp only [hc,h1,decide_false,Bool.and_false,Bool.false_eq_true,if_false]
  ·rfl
 case box xs=>
  split
  ·rename_i hc
   simp only [Bool.and_eq_true,Bool.not_eq_true']at hc;obtain⟨⟨⟨hk,hs⟩,hw⟩,hd⟩:=hc;obtain⟨ha,hg⟩:=Oo hd;have hz:=JV hs;simp only [Xd,ev,hv,Gc];simp only [vO,hk,hw,ha,hz,hs,hg,List.all_cons,hd,List.all_nil,List.length_cons,List.length_nil,Bool.and_true,Bo,beq_self_eq_true,Nat.zero_add,D.cells,List.headD_cons];by_cases hc:0<xs.length
   ·have h1:1≤xs.length:=hc;simp only [hc,h1,decide_true,Bool.and_true,if_true];split<;>first | rfl | (rename_i hq;simp only [hq];rfl)
   ·have h1: ¬1≤xs.length:=hc;simp only [hc,h1,decide_false,Bool.and_false,Bool.false_eq_true,if_false]
  ·rfl
theorem AEO(u:Tmp)(d:D)(L:A9)(c n m:Nat)(hk:T.known t=true)(hs:T.isStruct t=false)(hw:pm.wr (L.headD 0)=true)(hd:Bh d=true):yF T pm t u d s (.pe L c n m)=vO s L c d (s.look pm L n m):=by
 simp [yF,hk,hs,hd];intro h;simp_all
theorem AEP(u:Tmp)(d:D)(L:A9)(n m:Nat)(hk:T.known t=true)(hs:T.isStruct t=false)(hw:pm.wr (L.headD 0)=true)(hd:Bh d=true):yF T pm t u d s (.vw L n m)=vO s L 0 d (Om s pm L n m):=by
 simp [yF,hk,hs,hd];intro h;simp_all
theorem AEQ(u:Tmp)(d:D)(xs:List D)(hk:T.known t=true)(hs:T.isStruct t=false)(hw:pm.wr u=true)(hd:Bh d=true):yF T pm t u d s (.box xs)=vO s [u] 0 d (some (.box xs)):=by
 simp [yF,hk,hs,hd];intro h;simp_all
def bx1:Option D→Option D
 | some (.box xs)=>some (.box xs)
 | _=>none
theorem bxA(L:A9)(n m:Nat):Om s pm L n m=bx1 (s.look pm L n m):=by
 unfold Om bx1
 cases s.look pm L n m with
 | none=>rfl
 | some o=>cases o<;>rfl
theorem AES(xs:List D):bx1 (some (.box xs))=some (.box xs):=nr rfl
theorem hdC(a:Nat)(l:A9)(d:Nat):List.headD (a::l) d=a:=nr rfl
theorem AET(L:A9)(c:Nat)(d o:D):vO s L c d (some o)=if c<o.cells.length then(if d.hasObj||AP o.cells then some ((s.set L (o.withCells (o.cells.set c d))).bump (L.headD 0))else some (s.set L (o.withCells (o.cells.set c d))))else none:=nr rfl
theorem A79(e:TypeId)(xs:List D):(D.own e xs).cells=xs:=nr rfl
theorem A7A(xs:List D):(D.box xs).cells=xs:=nr rfl
theorem A7B(e:TypeId)(xs ys:List D):(D.own e xs).withCells ys= .own e ys:=nr rfl
theorem A7C(xs ys:List D):(D.box xs).withCells ys= .box ys:=nr rfl
theorem A7D(k:IntKind)(n:Int):Bh (.int k n)=true:=nr rfl
theorem A1l(b:Bool):Bh (.bool b)=true:=nr rfl
theorem A7E(b:ByteArray):Bh (.str b)=true:=nr rfl
theorem AEU(e:TypeId)(xs:List D):Bh (.sl e xs)=true:=nr rfl
theorem A7F(e:TypeId)(xs:List D):Bh (.own e xs)=true:=nr rfl
theorem A7G(xs:List D):Bh (.box xs)=true:=nr rfl
theorem A7H(f:FuncId)(xs:List D):Bh (.clo f xs)=true:=nr rfl
theorem A1m(xs:List D):Bh (.cptr xs)=true:=nr rfl
theorem ceS(L:A9)(c:Nat)(o:D):Ol s L c (some o)=(o.cells[c]?).bind fun x=>Bc (Dn s L c x):=nr rfl
theorem A7I(L:A9)(c:Nat)(k:IntKind)(n:Int):Bc (Dn s L c (.int k n))=some (.int k n):=nr rfl
theorem A1n(L:A9)(c:Nat)(b:Bool):Bc (Dn s L c (.bool b))=some (.bool b):=nr rfl
theorem A7J(L:A9)(c:Nat)(b:ByteArray):Bc (Dn s L c (.str b))=some (.str b):=nr rfl
theorem AEV(L:A9)(c:Nat)(e:TypeId)(xs:List D):Bc (Dn s L c (.sl e xs))=some (.sl e xs):=nr rfl
theorem A7K(L:A9)(c:Nat)(f:FuncId)(xs:List D):Bc (Dn s L c (.clo f xs))=some (.clo f xs):=nr rfl
theorem A1o(L:A9)(c:Nat)(xs:List D):Bc (Dn s L c (.cptr xs))=some (.cptr xs):=nr rfl
theorem AEW(L:A9)(c:Nat)(M:A9)(n m:Nat):Bc (Dn s L c (.vw M n m))=some (.vw M n m):=nr rfl
theorem A7L(L:A9)(c:Nat)(e:TypeId)(xs:List D):Bc (Dn s L c (.own e xs))=some (fF s (L++[c])):=nr rfl
theorem AEX(r:Nat)(p:A9):fF s (r::p)= .vw (r::p) (s.k r) (s.m r):=nr rfl
def ap1(T:Tys)(pm:Pm)(e:TypeId)(ty:TypeId)(y:Operand):Option (D×St)→Option (D×St)
 | some (.own e1 xs,s1)=>
   match ev T s1 ty y with
   | some d=>
    match Bn pm s1 y d with
    | some (e2,ys,_)=>
     if e1=e∧e2=e∧T.elem e=true∧ys.all Bh=true∧xs.length+ys.length<1099511627776 then
      if AP ys then
       match d,y with
       | .own _ _,.tmp u=>some (.own e (xs++ys),s1.clr u)
       | _,_=>none
      else some (.own e (xs++ys),s1)
     else none
    | none=>none
   | none=>none
 | _=>none
def az1(T:Tys)(e:TypeId):Option (D×St)→Option (D×St)
 | some (.own e1 xs,s1)=>if e1=e∧T.known e=true then some (.own e xs,s1)else none
 | _=>none
def az0(T:Tys)(pm:Pm)(s:St)(ty:TypeId)(x:Operand):Ty→Option (D×St)
 | .slice e=>az1 T e (take T pm s ty x)
 | _=>none
theorem A7O(ty:TypeId)(x:Operand):LZ T pm s ty x=az0 T pm s ty x (T.ty ty):=by
 unfold LZ az0
 cases T.ty ty with
 | slice e=>
  simp only [az1];rcases take T pm s ty x with _ | ⟨d,s1⟩
  ·rfl
  ·cases d<;>rfl
 | _=>rfl
theorem Qp{T:Tys}{e:TypeId}(hk:T.known e=true)(h4:T.size e≤4):T.elem e=true:=by simp [Tys.elem,hk,h4]
theorem AEZ(ty:TypeId)(x:Operand)(e:TypeId):az0 T pm s ty x (.slice e)=az1 T e (take T pm s ty x):=nr rfl
theorem AEa(e:TypeId)(xs:List D)(hk:T.known e=true):az1 T e (some (.own e xs,s))=some (.own e xs,s):=by simp [az1,hk]
def ap0(T:Tys)(pm:Pm)(s:St)(ty:TypeId)(x y:Operand):Ty→Option (D×St)
 | .slice e=>ap1 T pm e ty y (KV T pm s ty x)
 | _=>none
theorem AEc(ty:TypeId)(x y:Operand):FY T pm s ty x y=ap0 T pm s ty x y (T.ty ty):=by
 unfold FY ap0
 cases T.ty ty with
 | slice e=>
  simp only [ap1];rcases KV T pm s ty x with _ | ⟨d,s1⟩
  ·rfl
  ·cases d<;>rfl
 | _=>rfl
theorem AEd(ty:TypeId)(x y:Operand)(e:TypeId):ap0 T pm s ty x y (.slice e)=ap1 T pm e ty y (KV T pm s ty x):=nr rfl
def ap2(T:Tys)(e e1:TypeId)(xs:List D)(s:St)(u:Tmp)(d:D):Option (TypeId×List D×Option (A9×Nat×Nat))→Option (D×St)
 | some (e2,ys,_)=>
     if e1=e∧e2=e∧T.elem e=true∧ys.all Bh=true∧xs.length+ys.length<1099511627776 then
      if AP ys then
       match d with
       | .own _ _=>some (.own e (xs++ys),s.clr u)
       | _=>none
      else some (.own e (xs++ys),s)
     else none
 | none=>none
theorem AEe(ty e e1:TypeId)(u:Tmp)(xs:List D):ap1 T pm e ty (.tmp u) (some (.own e1 xs,s))=ap2 T e e1 xs s u (s.v u) (Bn pm s (.tmp u) (s.v u)):=by
 simp only [ap1,ev,ap2];rcases Bn pm s (.tmp u) (s.v u)with _ | ⟨e2,ys,o⟩
 ·rfl
 ·simp only;split
  ·split
   ·cases s.v u<;>rfl
   ·rfl
  ·rfl
theorem AEf(e:TypeId)(u:Tmp)(xs ys:List D)(d:D)(o:Option (A9×Nat×Nat))(hk:T.known e=true)(h4:T.size e≤4)(hy:ys.all Bh=true)(hno:AP ys=false)(hl:xs.length+ys.length<1099511627776):
  ap2 T e e xs s u d (some (e,ys,o))=some (.own e (xs++ys),s):=by
 simp only [ap2];rw [if_pos ⟨trivial,trivial,Qp hk h4,hy,hl⟩,hno];simp
theorem AEg(e e':TypeId)(u:Tmp)(xs ys zs:List D)(o:Option (A9×Nat×Nat))(hk:T.known e=true)(h4:T.size e≤4)(hy:ys.all Bh=true)(hno:AP ys=true)(hl:xs.length+ys.length<1099511627776):
  ap2 T e e xs s u (.own e' zs) (some (e,ys,o))=some (.own e (xs++ys),s.clr u):=by
 simp only [ap2];rw [if_pos ⟨trivial,trivial,Qp hk h4,hy,hl⟩,hno];simp
end
section
variable {E:Env} {pm:Pm} {s:St} {dst:Option Tmp}
def bu(a:D)(l:List (A9×D)):Option (List D×List (A9×D))→Option (List D×List (A9×D))
 | some (as,ls)=>some (a::as,l++ls)
 | none=>none
theorem A1p(a:D)(l:List (A9×D))(as:List D)(ls:List (A9×D)):bu a l (some (as,ls))=some (a::as,l++ls):=nr rfl
def TP(E:Env)(lend:Bool)(pm:Pm)(s:St)(j:Nat)(rest:List (Operand×TypeId)):Option (D×List (A9×D))→Option (List D×List (A9×D))
 | some (a,l)=>bu a l (DR E lend pm s (j+l.length) rest)
 | none=>none
theorem A1q(lend:Bool)(j:Nat)(rest:List (Operand×TypeId))(a:D)(l:List (A9×D)):TP E lend pm s j rest (some (a,l))=bu a l (DR E lend pm s (j+l.length) rest):=nr rfl
theorem A7P(lend:Bool)(j:Nat):DR E lend pm s j []=some ([],[]):=nr rfl
theorem A7Q(lend:Bool)(j:Nat)(u:Tmp)(t:TypeId)(rest:List (Operand×TypeId)):DR E lend pm s j ((.tmp u,t)::rest)=TP E lend pm s j rest (Ju E.T lend pm s j [u] (s.v u)):=by
 simp only [DR,ev];rcases Ju E.T lend pm s j [u] (s.v u)with _ | ⟨a,l⟩
 ·rfl
 ·simp only [TP];rcases DR E lend pm s (j+l.length) rest with _ | ⟨as,ls⟩<;>rfl
def aC(E:Env)(lend:Bool)(pm:Pm)(s:St)(j:Nat)(rest:List (Operand×TypeId)):Option D→Option (List D×List (A9×D))
 | some d=>TP E lend pm s j rest (Ju E.T lend pm s j [] d)
 | none=>none
theorem aCS(lend:Bool)(j:Nat)(rest:List (Operand×TypeId))(d:D):aC E lend pm s j rest (some d)=TP E lend pm s j rest (Ju E.T lend pm s j [] d):=nr rfl
theorem arC(lend:Bool)(j:Nat)(v:Value)(t:TypeId)(rest:List (Operand×TypeId)):DR E lend pm s j ((.const v,t)::rest)=aC E lend pm s j rest (ev E.T s t (.const v)):=by
 simp only [DR]
 cases ev E.T s t (.const v)with
 | none=>rfl
 | some d=>
  simp only [aC];rcases Ju E.T lend pm s j [] d with _ | ⟨a,l⟩
  ·rfl
  ·simp only [TP];rcases DR E lend pm s (j+l.length) rest with _ | ⟨as,ls⟩<;>rfl
theorem arF(lend:Bool)(j:Nat)(f:FuncId)(t:TypeId)(rest:List (Operand×TypeId)):DR E lend pm s j ((.func f,t)::rest)=TP E lend pm s j rest (Ju E.T lend pm s j [] (.clo f [])):=by
 simp only [DR,ev];rcases Ju E.T lend pm s j [] (.clo f [])with _ | ⟨a,l⟩
 ·rfl
 ·simp only [TP];rcases DR E lend pm s (j+l.length) rest with _ | ⟨as,ls⟩<;>rfl
variable (lend:Bool) (j:Nat) (L:A9)
theorem A7R(T:Tys)(k:IntKind)(n:Int):Ju T lend pm s j L (.int k n)=CV lend pm s j L (.int k n):=nr rfl
theorem A1r(T:Tys)(b:Bool):Ju T lend pm s j L (.bool b)=CV lend pm s j L (.bool b):=nr rfl
theorem A7S(T:Tys)(b:ByteArray):Ju T lend pm s j L (.str b)=CV lend pm s j L (.str b):=nr rfl
theorem AEh(T:Tys)(e:TypeId)(xs:List D):Ju T lend pm s j L (.sl e xs)=CV lend pm s j L (.sl e xs):=nr rfl
theorem A7T(T:Tys)(f:FuncId)(xs:List D):Ju T lend pm s j L (.clo f xs)=CV lend pm s j L (.clo f xs):=nr rfl
theorem A1s(T:Tys)(xs:List D):Ju T lend pm s j L (.cptr xs)=CV lend pm s j L (.cptr xs):=nr rfl
theorem axK(T:Tys)(v:Value):Ju T lend pm s j L (.konst v)=CV lend pm s j L (.konst v):=nr rfl
theorem A7U(T:Tys)(e:TypeId)(xs:List D):Ju T lend pm s j L (.own e xs)=CV lend pm s j L (.own e xs):=nr rfl
theorem A7V(T:Tys)(xs:List D):Ju T lend pm s j L (.box xs)=CV lend pm s j L (.box xs):=nr rfl
theorem AEi(T:Tys)(M:A9)(n m:Nat):Ju T lend pm s j L (.vw M n m)=CV lend pm s j L (.vw M n m):=nr rfl
theorem A7W(T:Tys)(xs:List D):Ju T lend pm s j L (.agg xs)=CV lend pm s j L (.agg xs):=nr rfl
theorem A7X(k:IntKind)(n:Int):CV lend pm s j L (.int k n)=some (.int k n,[]):=nr rfl
theorem A1t(b:Bool):CV lend pm s j L (.bool b)=some (.bool b,[]):=nr rfl
theorem A7Y(b:ByteArray):CV lend pm s j L (.str b)=some (.str b,[]):=nr rfl
theorem AEj(e:TypeId)(xs:List D):CV lend pm s j L (.sl e xs)=some (.sl e xs,[]):=nr rfl
theorem A7Z(f:FuncId)(xs:List D):CV lend pm s j L (.clo f xs)=some (.clo f xs,[]):=nr rfl
theorem A1u(xs:List D):CV lend pm s j L (.cptr xs)=some (.cptr xs,[]):=nr rfl
theorem atK(v:Value):CV lend pm s j L (.konst v)=some (.konst v,[]):=nr rfl
def fz1(l:List (A9×D)):Option D→Option (D×List (A9×D))
 | some c=>some (c,l)
 | none=>none
theorem AEk(l:List (A9×D))(c:D):fz1 l (some c)=some (c,l):=nr rfl
theorem A7b(e:TypeId)(xs:List D):CV false pm s j L (.own e xs)=fz1 [(L,.own e xs)] (D8 (.own e xs)):=by
 show((D8 (.own e xs)).map fun c'=>(c',[(L,D.own e xs)]))=_
 cases D8 (.own e xs)<;>rfl
theorem A7c(xs:List D):CV false pm s j L (.box xs)=fz1 [(L,.box xs)] (D8 (.box xs)):=by
 show((D8 (.box xs)).map fun c'=>(c',[(L,D.box xs)]))=_
 cases D8 (.box xs)<;>rfl
def fz2(L:A9):Option D→Option (D×List (A9×D))
 | some c=>fz1 [(L,c)] (D8 c)
 | none=>none
theorem AEm(c:D):fz2 L (some c)=fz1 [(L,c)] (D8 c):=nr rfl
theorem AEn(M:A9)(n m:Nat):CV false pm s j L (.vw M n m)=fz2 M (s.look pm M n m):=by
 simp only [CV,Eo]
 cases s.look pm M n m with
 | none=>rfl
 | some c=>simp only [fz2];cases D8 c<;>rfl
theorem A1v(e:TypeId)(xs:List D):CV true pm s j L (.own e xs)=some (.vw [G+j] 0 0,[(L,.own e xs)]):=nr rfl
theorem A1w(xs:List D):CV true pm s j L (.box xs)=some (.vw [G+j] 0 0,[(L,.box xs)]):=nr rfl
def ln2(j:Nat)(L:A9):Option D→Option (D×List (A9×D))
 | some c=>some (.vw [G+j] 0 0,[(L,c)])
 | none=>none
theorem AEo(c:D):ln2 j L (some c)=some (.vw [G+j] 0 0,[(L,c)]):=nr rfl
theorem A7d(M:A9)(n m:Nat):CV true pm s j L (.vw M n m)=ln2 j M (s.look pm M n m):=by
 simp only [CV,Eo]
 cases s.look pm M n m<;>rfl
def ag1:Option (List D×List (A9×D))→Option (D×List (A9×D))
 | some r=>some (.agg r.1,r.2)
 | none=>none
theorem AEp(r:List D×List (A9×D)):ag1 (some r)=some (.agg r.1,r.2):=nr rfl
theorem A7e(xs:List D):CV lend pm s j L (.agg xs)=ag1 (E5 lend pm s L j 0 xs):=by
 simp only [CV]
 cases E5 lend pm s L j 0 xs<;>rfl
def qV(lend:Bool)(pm:Pm)(s:St)(L0:A9)(j i:Nat)(ds:List D):Option (D×List (A9×D))→Option (List D×List (A9×D))
 | some (a,l)=>bu a l (E5 lend pm s L0 (j+l.length) (i+1) ds)
 | none=>none
theorem A1x(i:Nat)(ds:List D)(a:D)(l:List (A9×D)):qV lend pm s L j i ds (some (a,l))=bu a l (E5 lend pm s L (j+l.length) (i+1) ds):=nr rfl
theorem A7f(i:Nat):E5 lend pm s L j i []=some ([],[]):=nr rfl
theorem A1y(i:Nat)(d:D)(ds:List D)(h:d.isAgg=false):E5 lend pm s L j i (d::ds)=qV lend pm s L j i ds (CV lend pm s j (L++[i]) d):=by
 have:CV lend pm s j (L++[i]) d=Eo lend pm s j (L++[i]) d:=by cases d<;>first | rfl | (simp [D.isAgg]at h)
 rw [this];simp only [E5];rcases Eo lend pm s j (L++[i]) d with _ | ⟨a,l⟩
 ·rfl
 ·simp only [qV];rcases E5 lend pm s L (j+l.length) (i+1) ds with _ | ⟨as,ls⟩<;>rfl
theorem A7g(k:IntKind)(n:Int):(D.int k n).isAgg=false:=nr rfl
theorem A1z(b:Bool):(D.bool b).isAgg=false:=nr rfl
theorem A7h(b:ByteArray):(D.str b).isAgg=false:=nr rfl
theorem AEq(e:TypeId)(xs:List D):(D.sl e xs).isAgg=false:=nr rfl
theorem A7i(e:TypeId)(xs:List D):(D.own e xs).isAgg=false:=nr rfl
theorem AEr(M:A9)(n m:Nat):(D.vw M n m).isAgg=false:=nr rfl
theorem A7j(f:FuncId)(xs:List D):(D.clo f xs).isAgg=false:=nr rfl
theorem A7k(xs:List D):(D.box xs).isAgg=false:=nr rfl
theorem A20(xs:List D):(D.cptr xs).isAgg=false:=nr rfl
theorem A7l(xs:List D):(D.agg xs).isAgg=true:=nr rfl
def cb1(E:Env)(pm:Pm)(s:St)(dst:Option Tmp)(f:FuncId)(caps:List D):Option (List D×List (A9×D))→Option St
 | none=>none
 | some (as,ls)=>
  match E.call f (as++caps) []with
  | some (r,_)=>
   if Ce r then
    if E9 (ls.map (·.1))&&ls.all (fun l=>pm.wr (l.1.headD 0))then(Ia ls).map fun ls'=>(back false s ls').putO dst r else none
   else some (s.putO dst r)
  | none=>none
theorem cdB(f:FuncId)(xs:List (Operand×TypeId))(caps:List D)(h:E.lends f=false):GI E pm s dst f xs caps=cb1 E pm s dst f caps (DR E false pm s 0 xs):=by
 unfold GI cb1;rw [h];simp only [Bool.false_eq_true,if_false];rcases DR E false pm s 0 xs with _ | ⟨as,ls⟩<;>rfl
def cb2(pm:Pm)(s:St)(dst:Option Tmp)(ls:List (A9×D)):Option (D×List D)→Option St
 | some (r,_)=>
   if Ce r then
    if E9 (ls.map (·.1))&&ls.all (fun l=>pm.wr (l.1.headD 0))then(Ia ls).map fun ls'=>(back false s ls').putO dst r else none
   else some (s.putO dst r)
 | none=>none
theorem AEs(f:FuncId)(caps as:List D)(ls:List (A9×D)):cb1 E pm s dst f caps (some (as,ls))=cb2 pm s dst ls (E.call f (as++caps) []):=by
 simp only [cb1];rcases E.call f (as++caps) []with _ | ⟨r,o⟩<;>rfl
theorem AEt(ls:List (A9×D))(r:D)(o:List D)(h:Ce r=false):cb2 pm s dst ls (some (r,o))=some (s.putO dst r):=by simp [cb2,h]
theorem AEu(r:D)(o:List D):cb2 pm s dst [] (some (r,o))=some (s.putO dst r):=by
 simp only [cb2];split<;>rfl
def cl1(E:Env)(pm:Pm)(s:St)(dst:Option Tmp)(f:FuncId)(caps:List D):Option (List D×List (A9×D))→Option St
 | none=>none
 | some (as,ls)=>
   if E9 (ls.map (·.1))&&ls.all (fun l=>pm.wr (l.1.headD 0))&&ls.all (fun l=>Y5 l.2)then
    match E.call f (as++caps) (ls.map (·.2))with
    | some (r,outs)=>if outs.length=ls.length then some ((KX s (ls.map (·.1)) outs).putO dst r)else none
    | none=>none
   else none
theorem cdL(f:FuncId)(xs:List (Operand×TypeId))(caps:List D)(h:E.lends f=true):GI E pm s dst f xs caps=cl1 E pm s dst f caps (DR E true pm s 0 xs):=by
 unfold GI cl1;rw [h];simp only [if_true];rcases DR E true pm s 0 xs with _ | ⟨as,ls⟩<;>rfl
def cl2(s:St)(dst:Option Tmp)(ls:List (A9×D)):Option (D×List D)→Option St
 | some (r,outs)=>if outs.length=ls.length then some ((KX s (ls.map (·.1)) outs).putO dst r)else none
 | none=>none
theorem AEv(f:FuncId)(caps as:List D)(ls:List (A9×D))(h:(E9 (ls.map (·.1))&&ls.all (fun l=>pm.wr (l.1.headD 0))&&ls.all (fun l=>Y5 l.2))=true):cl1 E pm s dst f caps (some (as,ls))=cl2 s dst ls (E.call f (as++caps) (ls.map (·.2))):=by
 simp only [cl1,h,if_true];rcases E.call f (as++caps) (ls.map (·.2))with _ | ⟨r,o⟩<;>rfl
theorem AEw(ls:List (A9×D))(r:D)(outs:List D)(h:outs.length=ls.length):cl2 s dst ls (some (r,outs))=some ((KX s (ls.map (·.1)) outs).putO dst r):=by simp [cl2,h]
end
theorem A7m(k:IntKind)(n:Int):Ce (.int k n)=false:=by simp [Ce]
theorem A22(b:Bool):Ce (.bool b)=false:=by simp [Ce]
theorem A7n(b:ByteArray):Ce (.str b)=false:=by simp [Ce]
theorem yG(e:TypeId)(xs:List D):Ce (.own e xs)=Cf xs:=by simp [Ce]
theorem A7o(xs:List D):Ce (.box xs)=Cf xs:=by simp [Ce]
theorem A7p(xs:List D):Ce (.agg xs)=Cf xs:=by simp [Ce]
theorem A7q(xs:List D):Ce (.tup xs)=Cf xs:=by simp [Ce]
theorem A23:Cf []=false:=by simp [Cf]
theorem kF(d:D)(ds:List D):Cf (d::ds)=(Ce d||Cf ds):=by simp [Cf]
theorem A7r(k:IntKind)(n:Int):D8 (.int k n)=some (.int k n):=by simp [D8]
theorem A24(b:Bool):D8 (.bool b)=some (.bool b):=by simp [D8]
theorem A7s(b:ByteArray):D8 (.str b)=some (.str b):=by simp [D8]
theorem A7t(e:TypeId)(xs:List D):D8 (.sl e xs)=some (.sl e xs):=by simp [D8]
theorem A7u(f:FuncId)(xs:List D):D8 (.clo f xs)=some (.clo f xs):=by simp [D8]
theorem A25(xs:List D):D8 (.cptr xs)=some (.cptr xs):=by simp [D8]
def fzM(f:List D→D):Option (List D)→Option D
 | some xs=>some (f xs)
 | none=>none
theorem A7w(f:List D→D)(xs:List D):fzM f (some xs)=some (f xs):=nr rfl
theorem qW(e:TypeId)(xs:List D):D8 (.own e xs)=fzM (.sl e) (CW xs):=by simp only [D8];cases CW xs<;>rfl
theorem A7x(xs:List D):D8 (.box xs)=fzM .cptr (CW xs):=by simp only [D8];cases CW xs<;>rfl
theorem A7y(xs:List D):D8 (.agg xs)=fzM .agg (CW xs):=by simp only [D8];cases CW xs<;>rfl
theorem A7z(xs:List D):D8 (.tup xs)=fzM .tup (CW xs):=by simp only [D8];cases CW xs<;>rfl
theorem A26:CW []=some []:=by simp [CW]
def fzC:Option D→Option (List D)→Option (List D)
 | some d,some ds=>some (d::ds)
 | _,_=>none
theorem AEx(d:D)(ds:List D):fzC (some d) (some ds)=some (d::ds):=nr rfl
theorem UD(d:D)(ds:List D):CW (d::ds)=fzC (D8 d) (CW ds):=by
 simp only [CW];cases D8 d<;>cases CW ds<;>rfl
theorem AEy(d:D):Y5 d=(D8 d).isSome:=nr rfl
section
variable {T:Tys} {s:St}
def o5(n:Nat):Option (D×St)→Option (D×List D)
 | none=>none
 | some (r,s')=>if Y5 r&&((List.range n).map fun j=>s'.v (G+j)).all Y6 then some (r,(List.range n).map fun j=>s'.v (G+j))else none
theorem fiD(n:Nat)(rs:List ResultVar):WX T n rs s=o5 n (MH T s rs):=by
 unfold WX o5;rcases MH T s rs with _ | ⟨r,s'⟩<;>rfl
theorem fi0(r:D):o5 0 (some (r,s))=if Y5 r then some (r,[])else none:=by simp [o5]
theorem fiA(r:D):o5 1 (some (r,s))=if Y5 r&&Y6 (s.v 100000)then some (r,[s.v 100000])else none:=by
 simp [o5,G,List.range_succ]
theorem fiB(r:D):o5 2 (some (r,s))=if Y5 r&&(Y6 (s.v 100000)&&Y6 (s.v 100001))then some (r,[s.v 100000,s.v 100001])else none:=by
 simp [o5,G,List.range_succ,and_assoc]
theorem fiC(r:D):o5 3 (some (r,s))=if Y5 r&&(Y6 (s.v 100000)&&(Y6 (s.v 100001)&&Y6 (s.v 100002)))then some (r,[s.v 100000,s.v 100001,s.v 100002])else none:=by
 simp [o5,G,List.range_succ,and_assoc]
theorem fiE(r:D):o5 4 (some (r,s))=if Y5 r&&(Y6 (s.v 100000)&&(Y6 (s.v 100001)&&(Y6 (s.v 100002)&&Y6 (s.v 100003))))then some (r,[s.v 100000,s.v 100001,s.v 100002,s.v 100003])else none:=by
 simp [o5,G,List.range_succ,and_assoc]
theorem A27(e:TypeId)(xs:List D):Y6 (.own e xs)=(D8 (.own e xs)).isSome:=nr rfl
theorem A28(xs:List D):Y6 (.box xs)=(D8 (.box xs)).isSome:=nr rfl
theorem AEz:Y6 .undef=true:=nr rfl
theorem A80(e:TypeId)(xs:List D):Y6 (.sl e xs)=true:=by simp [Y6,D8]
theorem re1(r:ResultVar):MH T s [r]=UT T s r:=nr rfl
def reT:Option (List D×St)→Option (D×St)
 | some q=>some (.tup q.1,q.2)
 | none=>none
theorem AF0(q:List D×St):reT (some q)=some (.tup q.1,q.2):=nr rfl
theorem re2(r r':ResultVar)(rs:List ResultVar):MH T s (r::r'::rs)=reT (N7 T s (r::r'::rs)):=by
 show((N7 T s (r::r'::rs)).map fun q=>(D.tup q.1,q.2))=_
 cases N7 T s (r::r'::rs)<;>rfl
theorem re0:MH T s []=some (.tup [],s):=nr rfl
theorem A81(t:Tmp):UT T s (.tmp t)=WT Pm.all s t (s.v t):=nr rfl
theorem A82:N7 T s []=some ([],s):=nr rfl
def rdN(T:Tys)(rs:List ResultVar):Option (D×St)→Option (List D×St)
 | some (d,s)=>(N7 T s rs).map fun p=>(d::p.1,p.2)
 | none=>none
theorem AF1(rs:List ResultVar)(d:D):rdN T rs (some (d,s))=(N7 T s rs).map fun p=>(d::p.1,p.2):=nr rfl
theorem A29(r:ResultVar)(rs:List ResultVar):N7 T s (r::rs)=rdN T rs (UT T s r):=by
 simp only [N7];rcases UT T s r with _ | ⟨d,s'⟩<;>rfl
theorem AF2(r:Nat):Pm.all.rd r=true:=nr rfl
theorem AF3(r:Nat):Pm.all.wr r=true:=nr rfl
def WS(s:St)(dst:Option Tmp)(u:Tmp)(i:Nat):Option D→Option St
 | none=>none
 | some (.agg ys)=>Ic s dst (Bc (.agg ((List.range ys.length).map fun j=>Dn s [u,i] j (ys.getD j .undef))))
 | some c=>Ic s dst (Bc (Dn s [u] i c))
theorem A83(dst:Option Tmp)(u:Tmp)(xs:List D)(i:Nat):I6 s dst (.tmp u) (.tup xs) i=WS s dst u i xs[i]? :=by
 simp only [I6];rcases xs[i]? with _ | c
 ·rfl
 ·cases c<;>first | exact Ho s dst _ | rfl
theorem A84(dst:Option Tmp)(u:Tmp)(i:Nat)(ys:List D):WS s dst u i (some (.agg ys))=Ic s dst (Bc (.agg ((List.range ys.length).map fun j=>Dn s [u,i] j (ys.getD j .undef)))):=nr rfl
theorem A85(dst:Option Tmp)(u:Tmp)(i:Nat)(k:IntKind)(n:Int):WS s dst u i (some (.int k n))=some (s.putO dst (.int k n)):=by simp [WS,Bc,Dn,D.hasObj,Ic]
theorem A2A(dst:Option Tmp)(u:Tmp)(i:Nat)(b:Bool):WS s dst u i (some (.bool b))=some (s.putO dst (.bool b)):=by simp [WS,Bc,Dn,D.hasObj,Ic]
theorem A86(dst:Option Tmp)(u:Tmp)(i:Nat)(b:ByteArray):WS s dst u i (some (.str b))=some (s.putO dst (.str b)):=by simp [WS,Bc,Dn,D.hasObj,Ic]
theorem AF4(dst:Option Tmp)(u:Tmp)(i:Nat)(e:TypeId)(xs:List D):WS s dst u i (some (.sl e xs))=some (s.putO dst (.sl e xs)):=by simp [WS,Bc,Dn,D.hasObj,Ic]
theorem A87(dst:Option Tmp)(u:Tmp)(i:Nat)(e:TypeId)(xs:List D):WS s dst u i (some (.own e xs))=some (s.putO dst (.vw [u,i] (s.k u) (s.m u))):=by simp [WS,Bc,Dn,D.hasObj,Ic,fF]
theorem A88(dst:Option Tmp)(u:Tmp)(i:Nat)(f:FuncId)(xs:List D):WS s dst u i (some (.clo f xs))=some (s.putO dst (.clo f xs)):=by simp [WS,Bc,Dn,D.hasObj,Ic]
theorem A89(xs:List D)(c:Nat)(p:A9):BJ (.tup xs) (c::p)=(xs[c]?).bind fun d=>BJ d p:=nr rfl
theorem A8A(xs:List D)(c:Nat)(p:A9)(x:D):FX (.tup xs) (c::p) x= .tup (xs.set c (FX (xs.getD c .undef) p x)):=nr rfl
theorem AF5(L:A9)(xs:List D)(c:D):pl2 s L (some (.tup xs)) (some c)=some (c,s.set L .undef):=nr rfl
theorem A8B(deep:Bool):back deep s []=s:=nr rfl
theorem bkT(t:Nat)(p:A9)(c:D)(rest:List (A9×D)):back true s ((t::p,c)::rest)=back true ((s.set (t::p) c).bump t) rest:=nr rfl
theorem bkF(t:Nat)(p:A9)(c:D)(rest:List (A9×D)):back false s ((t::p,c)::rest)=back false (s.set (t::p) c) rest:=nr rfl
theorem bkE(deep:Bool)(c:D)(rest:List (A9×D)):back deep s (([],c)::rest)=back deep s rest:=nr rfl
theorem bkL(Ls:List A9)(outs:List D):KX s Ls outs=back true (back false s (Ls.map fun L=>(L,.undef))) (Ls.zip outs):=nr rfl
theorem A8C:E9 []=true:=nr rfl
theorem A2B(L:A9)(Ls:List A9):E9 (L::Ls)=((L.isEmpty||Ls.all fun M=>M.isEmpty||(!L.isPrefixOf M&& !M.isPrefixOf L))&&E9 Ls):=nr rfl
theorem ipC(a b:Nat)(l m:A9):List.isPrefixOf (a::l) (b::m)=(a==b&&List.isPrefixOf l m):=nr rfl
theorem ipN(l:A9):List.isPrefixOf [] l=true:=by cases l<;>rfl
theorem ipE(a:Nat)(l:A9):List.isPrefixOf (a::l) []=false:=nr rfl
theorem ieC(a:Nat)(l:A9):List.isEmpty (a::l)=false:=nr rfl
theorem ieN:List.isEmpty ([]:A9)=true:=nr rfl
end
section
variable {T:Tys} {pm:Pm} {s:St}
def fl1(T:Tys)(pm:Pm)(tf:Nat→TypeId)(sz:Nat)(cs:List D)(i:Nat)(rest:List (Nat×Operand)):Option (D×St)→Option (List D×St)
 | none=>none
 | some (d,s1)=>if d.asCells.length=sz∧i*sz+sz≤cs.length then FZ T pm tf sz s1 (Bo cs (i*sz) d.asCells) rest else none
theorem A8D(tf:Nat→TypeId)(sz:Nat)(cs:List D):FZ T pm tf sz s cs []=some (cs,s):=nr rfl
theorem A2C(tf:Nat→TypeId)(sz:Nat)(cs:List D)(i:Nat)(x:Operand)(rest:List (Nat×Operand)):FZ T pm tf sz s cs ((i,x)::rest)=fl1 T pm tf sz cs i rest (take T pm s (tf i) x):=by
 simp only [FZ];rcases take T pm s (tf i) x with _ | ⟨d,s1⟩<;>rfl
theorem AF7(tf:Nat→TypeId)(cs:List D)(i:Nat)(rest:List (Nat×Operand))(d:D)(h:d.isAgg=false):fl1 T pm tf 1 cs i rest (some (d,s))=if i+1≤cs.length then FZ T pm tf 1 s (cs.set i d) rest else none:=by
 have ha:d.asCells=[d]:=by cases d<;>first | rfl | (simp [D.isAgg]at h)
 simp only [fl1,ha,List.length_cons,List.length_nil,Nat.zero_add,Nat.mul_one,true_and,Bo]
end
section
variable (pm:Pm) (s:St) (u:Tmp)
def Qq(pm:Pm)(u:Tmp)(d:D):Bool:= !d.hasObj||d.isObj||pm.wr u
theorem mvT:F7 pm s (.move (.tmp u))=Qq pm u (s.v u):=nr rfl
theorem AF8(v:Value):F7 pm s (.move (.const v))=true:=nr rfl
theorem AF9(f:FuncId):F7 pm s (.move (.func f))=true:=nr rfl
theorem A2D(k:IntKind)(n:Int):Qq pm u (.int k n)=true:=by simp [Qq,D.hasObj]
theorem wh(b:Bool):Qq pm u (.bool b)=true:=by simp [Qq,D.hasObj]
theorem A2E(b:ByteArray):Qq pm u (.str b)=true:=by simp [Qq,D.hasObj]
theorem A8E(e:TypeId)(xs:List D):Qq pm u (.sl e xs)=true:=by simp [Qq,D.hasObj]
theorem A2F(e:TypeId)(xs:List D):Qq pm u (.own e xs)=true:=by simp [Qq,D.isObj]
theorem A2G(xs:List D):Qq pm u (.box xs)=true:=by simp [Qq,D.isObj]
theorem A8F(L:A9)(n m:Nat):Qq pm u (.vw L n m)=true:=by simp [Qq,D.hasObj]
theorem A8G(L:A9)(c n m:Nat):Qq pm u (.pe L c n m)=true:=by simp [Qq,D.hasObj]
theorem AFA(v:Value):Qq pm u (.konst v)=true:=by simp [Qq,D.hasObj]
theorem A2H(f:FuncId)(xs:List D):Qq pm u (.clo f xs)=true:=by simp [Qq,D.hasObj]
theorem wm(xs:List D):Qq pm u (.cptr xs)=true:=by simp [Qq,D.hasObj]
theorem A2I(xs:List D):Qq pm u (.agg xs)=(!AP xs||pm.wr u):=by simp [Qq,D.hasObj,D.isObj]
theorem A2J(xs:List D):Qq pm u (.tup xs)=(!AP xs||pm.wr u):=by simp [Qq,D.hasObj,D.isObj]
theorem qX(x:Operand):F7 pm s (.assign x)=true:=nr rfl
theorem A2K(a b c:Operand):F7 pm s (.pick a b c)=true:=nr rfl
theorem wo(t:TypeId):F7 pm s (.alloc t)=true:=nr rfl
theorem A8H(t:TypeId)(x:Operand):F7 pm s (.box t x)=true:=nr rfl
theorem wu(t:TypeId)(p:Array (Nat×Operand)):F7 pm s (.build t p)=true:=nr rfl
theorem AFB(t:TypeId)(n:Nat)(p:Array (Nat×Operand)):F7 pm s (.buildSlice t n p)=true:=nr rfl
theorem A2L(t:TypeId)(x:Operand):F7 pm s (.load t x)=true:=nr rfl
theorem ww(t:TypeId)(x y:Operand):F7 pm s (.store t x y)=true:=nr rfl
theorem A8I(o:BinOp)(t:TypeId)(x y:Operand)(t':TypeId):F7 pm s (.binOp o t x y t')=true:=nr rfl
theorem AFC(o:UnOp)(t:TypeId)(x:Operand):F7 pm s (.unOp o t x)=true:=nr rfl
theorem A2M(t t':TypeId)(x:Operand):F7 pm s (.convert t t' x)=true:=nr rfl
theorem AFD(f:Fn)(a b:Array Operand):F7 pm s (.makeFunc f a b)=true:=nr rfl
theorem AFE(t:TypeId)(a b:Operand):F7 pm s (.makeSlice t a b)=true:=nr rfl
theorem AFF(t:TypeId)(x:Operand)(a b c:Option Operand):F7 pm s (.slice t x a b c)=true:=nr rfl
theorem AFG(x:Operand):F7 pm s (.nilCheck x)=true:=nr rfl
theorem AFH(t:TypeId)(x i:Operand)(ok:Bool):F7 pm s (.lookup t x i ok)=true:=nr rfl
theorem AFI(t:TypeId)(r:Option Operand):F7 pm s (.makeMap t r)=true:=nr rfl
theorem AFJ(t:TypeId)(x i v:Operand):F7 pm s (.mapUpdate t x i v)=true:=nr rfl
theorem AFK(t:TypeId)(x:Operand)(i:Nat):F7 pm s (.fieldAddr t x i)=true:=nr rfl
theorem AFL(t:TypeId)(x i:Operand):F7 pm s (.indexAddr t x i)=true:=nr rfl
theorem AFM(x:Operand)(i:Nat):F7 pm s (.extract x i)=true:=nr rfl
theorem A2N(c:Call):F7 pm s (.call c)=true:=nr rfl
theorem pmR(n r w:List Nat)(x:Nat):(PmL.pm ⟨n,r,w⟩).rd x=(n.contains x|| !r.contains x):=nr rfl
theorem pmW(n r w:List Nat)(x:Nat):(PmL.pm ⟨n,r,w⟩).wr x=w.contains x:=nr rfl
section
variable {E:Env} {dst:Option Tmp} {t ty:TypeId}
theorem AFN(t:TypeId):Ka E pm s dst (.makeMap t none) ty=Ic s dst (LP E.T t):=Ho s dst _
theorem yLk(v:Tmp)(ok:Bool):Ka E pm s dst (.lookup t (.tmp u) (.tmp v) ok) ty=Ic s dst (Hd E.T pm s t (.tmp u) (s.v u) (s.v v) ok):=Ho s dst _
theorem yMu(v x:Tmp):Ka E pm s none (.mapUpdate t (.tmp u) (.tmp v) (.tmp x)) ty=H7 E.T pm s t (.tmp u) (s.v u) (s.v v) (s.v x):=nr rfl
def muC(T:Tys)(pm:Pm)(s:St)(t:TypeId)(u:Tmp)(d i:D):Option D→Option St
 | some v=>H7 T pm s t (.tmp u) d i v
 | none=>none
theorem AFO(T:Tys)(d i v:D):muC T pm s t u d i (some v)=H7 T pm s t (.tmp u) d i v:=nr rfl
theorem AFP(v:Tmp)(x:Value):Ka E pm s none (.mapUpdate t (.tmp u) (.tmp v) (.const x)) ty=muC E.T pm s t u (s.v u) (s.v v) (ev E.T s (UN E.T t) (.const x)):=by
 show(match some (s.v u),some (s.v v),ev E.T s (UN E.T t) (.const x)with | some a,some b,some c=>H7 E.T pm s t (.tmp u) a b c | _,_,_=>none)=_
 cases ev E.T s (UN E.T t) (.const x)<;>rfl
def mv0:Ty→TypeId
 | .map _ e=>e
 | _=>0
theorem wy(T:Tys)(t:TypeId):UN T t=mv0 (T.ty t):=nr rfl
theorem AFQ(k e:TypeId):mv0 (.map k e)=e:=nr rfl
def nm1:Ty→Ty→Option (List (Nat×TypeId))→Option (Bool×Nat)
 | .int .i64,.int .i64,none=>some (true,2)
 | _,_,_=>none
theorem AFR:nm1 (.int .i64) (.int .i64) none=some (true,2):=nr rfl
def nm0(T:Tys)(t:TypeId):Ty→Option (Bool×Nat)
 | .int .i64=>some (false,1)
 | .struct [a,b]=>nm1 (T.ty a) (T.ty b) (T.nest t)
 | _=>none
theorem A8J(T:Tys)(t:TypeId):T.nums t=nm0 T t (T.ty t):=by
 unfold Tys.nums nm0;split
 ·rename_i h;rw [h]
 ·rename_i a b h;rw [h];unfold nm1;rfl
 ·rename_i h1 h2
  cases h:T.ty t with
  | int k=>cases k<;>first | rfl | exact(h1 h).elim
  | struct fs=>
   rcases fs with _ | ⟨a,_ | ⟨b,_ | ⟨c,l⟩⟩⟩
   ·rfl
   ·rfl
   ·exact(h2 a b h).elim
   ·rfl
  | _=>rfl
theorem AFS(T:Tys)(t:TypeId):nm0 T t (.int .i64)=some (false,1):=nr rfl
theorem AFT(T:Tys)(t a b:TypeId):nm0 T t (.struct [a,b])=nm1 (T.ty a) (T.ty b) (T.nest t):=nr rfl
def mm1(k e:TypeId):Option (Bool×Nat)→Option (Bool×Nat)→Option D
 | some _,some _=>some (.mp k e [])
 | _,_=>none
def mm0(T:Tys):Ty→Option D
 | .map k e=>mm1 k e (T.nums k) (T.nums e)
 | _=>none
theorem yMm(T:Tys)(t:TypeId):LP T t=mm0 T (T.ty t):=by
 unfold LP mm0
 cases T.ty t with
 | map k e=>simp only [mm1];cases T.nums k<;>cases T.nums e<;>rfl
 | _=>rfl
theorem AFV(T:Tys)(k e:TypeId):mm0 T (.map k e)=mm1 k e (T.nums k) (T.nums e):=nr rfl
def lkR(ea ok:Bool)(r:List Int×Bool):D:=if ok=true then .tup [Pq ea r.1,.bool r.2]else Pq ea r.1
def lk2(ea ok:Bool)(es:List (List Int×List Int))(en:Nat):Option (List Int)→Option D
 | some key=>some (lkR ea ok (Mt es key en))
 | none=>none
theorem AFX(ea ok:Bool)(es:List (List Int×List Int))(en:Nat)(key:List Int):lk2 ea ok es en (some key)=some (lkR ea ok (Mt es key en)):=nr rfl
def lk1(es:List (List Int×List Int))(k' e' k e:TypeId)(i:D)(ok:Bool):Option (Bool×Nat)→Option (Bool×Nat)→Option D
 | some (ka,kn),some (ea,en)=>if k'=k∧e'=e then lk2 ea ok es en (KW ka kn i)else none
 | _,_=>none
def lk0(T:Tys)(es:List (List Int×List Int))(k' e':TypeId)(i:D)(ok:Bool):Ty→Option D
 | .map k e=>lk1 es k' e' k e i ok (T.nums k) (T.nums e)
 | _=>none
theorem A8L(T:Tys)(k' e':TypeId)(es:List (List Int×List Int))(i:D)(ok:Bool):Hd T pm s t (.tmp u) (.mp k' e' es) i ok=lk0 T es k' e' i ok (T.ty t):=by
 unfold Hd lk0;simp only [QO]
 cases T.ty t with
 | map k e=>
  simp only [lk1]
  cases T.nums k<;>cases T.nums e<;>try rfl
  simp only;split
  ·cases KW _ _ i<;>rfl
  ·rfl
 | _=>rfl
def lkW(T:Tys)(i:D)(ok:Bool)(ty:Ty):Option (TypeId×TypeId×List (List Int×List Int))→Option D
 | some (k',e',es)=>lk0 T es k' e' i ok ty
 | none=>none
theorem AFZ(T:Tys)(i:D)(ok:Bool)(ty:Ty)(k' e':TypeId)(es:List (List Int×List Int)):lkW T i ok ty (some (k',e',es))=lk0 T es k' e' i ok ty:=nr rfl
theorem A2O(T:Tys)(x:Operand)(L:A9)(n m:Nat)(i:D)(ok:Bool):Hd T pm s t x (.vw L n m) i ok=lkW T i ok (T.ty t) (s.lookM pm L n):=by
 unfold Hd lkW lk0;simp only [QO]
 cases s.lookM pm L n with
 | none=>cases T.ty t<;>rfl
 | some q=>
  cases T.ty t with
  | map k e=>
   simp only [lk1,Option.map_some]
   cases T.nums k<;>cases T.nums e<;>try rfl
   simp only;split
   ·cases KW _ _ i<;>rfl
   ·rfl
  | _=>rfl
theorem AFa(T:Tys)(es:List (List Int×List Int))(k' e' k e:TypeId)(i:D)(ok:Bool):lk0 T es k' e' i ok (.map k e)=lk1 es k' e' k e i ok (T.nums k) (T.nums e):=nr rfl
theorem AFb(es:List (List Int×List Int))(k e:TypeId)(i:D)(ok ka ea:Bool)(kn en:Nat):lk1 es k e k e i ok (some (ka,kn)) (some (ea,en))=lk2 ea ok es en (KW ka kn i):=by simp [lk1]
theorem A8M(x:Int):KW false 1 (.int .i64 x)=some [x]:=nr rfl
theorem A8N(x y:Int):KW true 2 (.agg [.int .i64 x,.int .i64 y])=some [x,y]:=nr rfl
def mu2(s:St)(u:Tmp)(k e:TypeId)(es:List (List Int×List Int)):Option (List Int)→Option (List Int)→Option St
 | some key,some val=>some (s.set [u] (.mp k e (Ps es key val)))
 | _,_=>none
theorem AFd(k e:TypeId)(es:List (List Int×List Int))(key val:List Int):mu2 s u k e es (some key) (some val)=some (s.set [u] (.mp k e (Ps es key val))):=nr rfl
def mu1(pm:Pm)(s:St)(u:Tmp)(es:List (List Int×List Int))(k' e' k e:TypeId)(i v:D):Option (Bool×Nat)→Option (Bool×Nat)→Option St
 | some (ka,kn),some (ea,en)=>if k'=k∧e'=e∧pm.wr u=true then mu2 s u k e es (KW ka kn i) (KW ea en v)else none
 | _,_=>none
def mu0(T:Tys)(pm:Pm)(s:St)(u:Tmp)(es:List (List Int×List Int))(k' e':TypeId)(i v:D):Ty→Option St
 | .map k e=>mu1 pm s u es k' e' k e i v (T.nums k) (T.nums e)
 | _=>none
theorem AFe(T:Tys)(k' e':TypeId)(es:List (List Int×List Int))(i v:D):H7 T pm s t (.tmp u) (.mp k' e' es) i v=mu0 T pm s u es k' e' i v (T.ty t):=by
 unfold H7 mu0;simp only [QO]
 cases T.ty t with
 | map k e=>
  simp only [mu1]
  cases T.nums k<;>cases T.nums e<;>rfl
 | _=>rfl
def muW(T:Tys)(pm:Pm)(s:St)(u:Tmp)(i v:D)(ty:Ty):Option (TypeId×TypeId×List (List Int×List Int))→Option St
 | some (k',e',es)=>mu0 T pm s u es k' e' i v ty
 | none=>none
theorem AFg(T:Tys)(i v:D)(ty:Ty)(k' e':TypeId)(es:List (List Int×List Int)):muW T pm s u i v ty (some (k',e',es))=mu0 T pm s u es k' e' i v ty:=nr rfl
theorem A8O(T:Tys)(x:Operand)(n m:Nat)(i v:D):H7 T pm s t x (.vw [u] n m) i v=muW T pm s u i v (T.ty t) (s.lookM pm [u] n):=by
 unfold H7 muW mu0;simp only [QO]
 cases s.lookM pm [u] n with
 | none=>cases T.ty t<;>rfl
 | some q=>
  cases T.ty t with
  | map k e=>
   simp only [mu1,Option.map_some]
   cases T.nums k<;>cases T.nums e<;>rfl
  | _=>rfl
theorem AFh(T:Tys)(es:List (List Int×List Int))(k' e' k e:TypeId)(i v:D):mu0 T pm s u es k' e' i v (.map k e)=mu1 pm s u es k' e' k e i v (T.nums k) (T.nums e):=nr rfl
theorem AFi(es:List (List Int×List Int))(k e:TypeId)(i v:D)(ka ea:Bool)(kn en:Nat)(hw:pm.wr u=true):mu1 pm s u es k e k e i v (some (ka,kn)) (some (ea,en))=mu2 s u k e es (KW ka kn i) (KW ea en v):=by simp [mu1,hw]
def A2P(n:Nat):Ty→Option D
 | .map _ _=>some (.int .i64 n)
 | _=>none
theorem A8P(T:Tys)(k e:TypeId)(es:List (List Int×List Int)):Mw T pm s t (.tmp u) (.mp k e es)=A2P es.length (T.ty t):=by
 show WU T pm s t (.tmp u) (.mp k e es)=_
 unfold WU A2P;simp only [QO]
 cases T.ty t<;>rfl
theorem A8Q(n:Nat)(k e:TypeId):A2P n (.map k e)=some (.int .i64 n):=nr rfl
def qY(l:List (Int×Int))(k:Int):Int×Bool:=match l.find? (fun p=>p.1==k)with | some p=>(p.2,true) | none=>(0,false)
def yH(l:List (Int×Int))(k v:Int):List (Int×Int):=match l.findIdx? (fun p=>p.1==k)with | some i=>l.set i (k,v) | none=>l++[(k,v)]
def bv(l:List (Int×Int)):List (List Int×List Int):=l.map fun p=>([p.1],[p.2])
abbrev E2:=Int×Int
def kG(l:List (E2×E2))(k:E2):E2×Bool:=match l.find? (fun p=>p.1==k)with | some p=>(p.2,true) | none=>((0,0),false)
def yI(l:List (E2×E2))(k v:E2):List (E2×E2):=match l.findIdx? (fun p=>p.1==k)with | some i=>l.set i (k,v) | none=>l++[(k,v)]
def bz(l:List (E2×E2)):List (List Int×List Int):=l.map fun p=>([p.1.1,p.1.2],[p.2.1,p.2.2])
theorem A8R(k e:TypeId):mm1 k e (some (false,1)) (some (false,1))=some (.mp k e (bv [])):=nr rfl
theorem A8S(k e:TypeId):mm1 k e (some (true,2)) (some (true,2))=some (.mp k e (bz [])):=nr rfl
theorem NI{α β:Type}(f:α→β)(p:β→Bool)(q:α→Bool)(h: ∀a,p (f a)=q a): ∀(l:List α),(l.map f).find? p=(l.find? q).map f∧(l.map f).findIdx? p=l.findIdx? q
 | []=>⟨rfl,rfl⟩
 | a::l=>by
  obtain⟨h1,h2⟩:=NI f p q h l;simp only [List.map_cons,List.find?_cons,List.findIdx?_cons,h]
  cases q a
  ·exact⟨h1,by simp only [h2]⟩
  ·exact⟨rfl,rfl⟩
theorem qZ(l:List (Int×Int))(k:Int):Mt (bv l) [k] 1=([(qY l k).1],(qY l k).2):=by
 unfold Mt qY bv;rw [(NI _ _ (fun p=>p.1==k) (fun p=>by simp) l).1]
 cases l.find? (fun p=>p.1==k)<;>rfl
theorem qa(l:List (Int×Int))(k v:Int):Ps (bv l) [k] [v]=bv (yH l k v):=by
 unfold Ps yH bv;rw [(NI _ _ (fun p=>p.1==k) (fun p=>by simp) l).2]
 cases l.findIdx? (fun p=>p.1==k)<;>simp [List.map_set]
theorem qb(l:List (Int×Int)):(bv l).length=l.length:=by simp [bv]
theorem qc(l:List (E2×E2))(a b:Int):Mt (bz l) [a,b] 2=([(kG l (a,b)).1.1,(kG l (a,b)).1.2],(kG l (a,b)).2):=by
 unfold Mt kG bz;rw [(NI _ _ (fun p=>p.1==(a,b)) (fun p=>by obtain⟨⟨x,y⟩,z⟩:=p;rw [Bool.eq_iff_iff];simp) l).1]
 cases l.find? (fun p=>p.1==(a,b))<;>rfl
theorem qd(l:List (E2×E2))(a b c d:Int):Ps (bz l) [a,b] [c,d]=bz (yI l (a,b) (c,d)):=by
 unfold Ps yI bz;rw [(NI _ _ (fun p=>p.1==(a,b)) (fun p=>by obtain⟨⟨x,y⟩,z⟩:=p;rw [Bool.eq_iff_iff];simp) l).2]
 cases l.findIdx? (fun p=>p.1==(a,b))<;>simp [List.map_set]
theorem qf(l:List (E2×E2)):(bz l).length=l.length:=by simp [bz]
theorem AFj(x:Int)(b:Bool):lkR false false ([x],b)= .int .i64 x:=nr rfl
theorem AFk(x:Int)(b:Bool):lkR false true ([x],b)= .tup [.int .i64 x,.bool b]:=nr rfl
theorem AFl(x y:Int)(b:Bool):lkR true false ([x,y],b)= .agg [.int .i64 x,.int .i64 y]:=nr rfl
theorem AFm(x y:Int)(b:Bool):lkR true true ([x,y],b)= .tup [.agg [.int .i64 x,.int .i64 y],.bool b]:=nr rfl
set_option linter.defProp false in
def AFn:=And.intro @AFN (And.intro @yLk (And.intro @yMu (And.intro @AFO (And.intro @AFP (And.intro @wy (And.intro @AFQ (And.intro @AFR (And.intro @A8J (And.intro @AFS (And.intro @AFT (And.intro @yMm (And.intro @AFV (And.intro @A8R (And.intro @A8S (And.intro @AFX (And.intro @A8L (And.intro @AFa (And.intro @AFb (And.intro @A8M (And.intro @A8N
 (And.intro @AFd (And.intro @AFe (And.intro @AFh (And.intro @AFi (And.intro @A8P (And.intro @A8Q (And.intro @qZ (And.intro @qa (And.intro @qb (And.intro @qc (And.intro @qd (And.intro @qf (And.intro @AFj (And.intro @AFk (And.intro @AFl (And.intro @AFZ (And.intro @A2O (And.intro @AFg (And.intro @A8O (@AFm))))))))))))))))))))))))))))))))))))))))
end
end
end Dv
namespace Dv
open Go
theorem Ie(n:Int)(h: -9223372036854775808≤n∧n≤9223372036854775807):IntKind.i64.wrap n=n:=IntWalk.i64_in n h
section
variable {T:Tys} {pm:Pm} {s:St} {t:TypeId}
theorem mI(xs:List Int)(i:Nat)(h:i<xs.length):(CE xs).getD i .undef= .int .i64 (xs.getD i 0):=by
 simp [CE,List.getD_eq_getElem?_getD,h]
theorem Nz(xs:List Int)(i:Nat)(h:i<xs.length):(CE xs)[i]? =some (.int .i64 (xs.getD i 0)):=by
 simp [CE,List.getD_eq_getElem?_getD,h]
theorem qg(xs:List Int)(i:Nat)(n:Int):(CE xs).set i (.int .i64 n)=CE (xs.set i n):=by simp [CE]
theorem cB(xs ys:List Int):CE xs++CE ys=CE (xs++ys):=by simp [CE]
theorem Xe(x:Int)(xs:List Int):CE (x::xs)= .int .i64 x::CE xs:=nr rfl
theorem qh(n:Nat)(x:Int):List.replicate n (D.int .i64 x)=CE (List.replicate n x):=by simp [CE]
theorem AFo(e:TypeId)(n:Int)(xs:List Int)(hk:T.known e=true)(hz:T.size e=1)(hn:0≤n∧n.toNat<xs.length):Xc T e n (some (e,CE xs,none))=some (.cptr [.int .i64 (xs.getD n.toNat 0)]):=by
 rw [A1Y e n (CE xs) hk hz (by simpa [CE] using hn),mI xs _ hn.2]
theorem A8T(e:TypeId)(n:Int)(xs:List Int)(L:A9)(a b:Nat)(hk:T.known e=true)(hz:T.size e=1)(hn:0≤n∧n.toNat<xs.length):Xc T e n (some (e,CE xs,some (L,a,b)))=some (.pe L n.toNat a b):=
 wX e n (CE xs) L a b hk hz (by simpa [CE] using hn)
def VA(e:TypeId)(xss:List (List Int)):List D:=xss.map fun xs=> .sl e (CE xs)
def O0(e:TypeId)(xss:List (List Int)):List D:=xss.map fun xs=> .own e (CE xs)
theorem iI(e:TypeId)(xss:List (List Int)):(VA e xss).length=xss.length:=by simp [VA]
theorem cK(e:TypeId)(xss:List (List Int)):(O0 e xss).length=xss.length:=by simp [O0]
theorem iJ(e:TypeId)(xss:List (List Int)):AP (VA e xss)=false:=by
 induction xss with
 | nil=>rfl
 | cons x xss ih=>simp only [VA,List.map_cons,AP,D.hasObj,Bool.false_or];exact ih
theorem wz(e:TypeId)(xss:List (List Int)):CW (VA e xss)=some (VA e xss):=by
 induction xss with
 | nil=>rfl
 | cons x xss ih=>simp only [VA,List.map_cons,UD,A7t]at ih ⊢;rw [ih];rfl
theorem qi(e:TypeId)(xss:List (List Int)):CW (O0 e xss)=some (VA e xss):=by
 induction xss with
 | nil=>rfl
 | cons x xss ih=>simp only [O0,VA,List.map_cons,UD,qW,bn,A7w]at ih ⊢;rw [ih];rfl
theorem iL(e:TypeId)(xss:List (List Int)):Cf (O0 e xss)=false:=by
 induction xss with
 | nil=>rfl
 | cons x xss ih=>simp only [O0,List.map_cons,kF,yG,V9,Bool.false_or];exact ih
theorem mJ(e:TypeId)(xss:List (List Int)):(VA e xss).all Bh=true:=by simp [VA,Bh]
theorem iM(e:TypeId)(xss:List (List Int)):(O0 e xss).all Bh=true:=by simp [O0,Bh]
theorem qj(e:TypeId)(xss:List (List Int))(i:Nat)(h:i<xss.length):(VA e xss).getD i .undef= .sl e (CE (xss.getD i [])):=by
 simp [VA,List.getD_eq_getElem?_getD,h]
theorem A2Q(e:TypeId)(xss:List (List Int))(i:Nat)(h:i<xss.length):(VA e xss)[i]? =some (.sl e (CE (xss.getD i []))):=by
 simp [VA,List.getD_eq_getElem?_getD,h]
theorem x8(e:TypeId)(xss:List (List Int))(i:Nat)(h:i<xss.length):(O0 e xss)[i]? =some (.own e (CE (xss.getD i []))):=by
 simp [O0,List.getD_eq_getElem?_getD,h]
theorem ql(e:TypeId)(xss:List (List Int))(i:Nat)(x:List Int):(O0 e xss).set i (.own e (CE x))=O0 e (xss.set i x):=by simp [O0]
theorem Yb(e:TypeId)(x:List Int)(xss:List (List Int)):AP (O0 e (x::xss))=true:=by simp [O0,AP,D.hasObj]
theorem AFp(e e':TypeId)(n:Int)(xss:List (List Int))(hk:T.known e=true)(hz:T.size e=1)(hn:0≤n∧n.toNat<xss.length):Xc T e n (some (e,VA e' xss,none))=some (.cptr [.sl e' (CE (xss.getD n.toNat []))]):=by
 rw [A1Y e n (VA e' xss) hk hz (by simpa [VA] using hn),qj e' xss _ hn.2]
theorem A8U(e e':TypeId)(n:Int)(xss:List (List Int))(L:A9)(a b:Nat)(hk:T.known e=true)(hz:T.size e=1)(hn:0≤n∧n.toNat<xss.length):Xc T e n (some (e,O0 e' xss,some (L,a,b)))=some (.pe L n.toNat a b):=
 wX e n (O0 e' xss) L a b hk hz (by simpa [O0] using hn)
variable {E:Env} {dst:Option Tmp} {ty:TypeId}
def A8V(e:TypeId)(dst:Option Tmp):Option (List D×St)→Option St
 | some (xs,s)=>some (s.putO dst (.own e xs))
 | none=>none
theorem A8W(e:TypeId)(xs:List D):A8V e dst (some (xs,s))=some (s.putO dst (.own e xs)):=nr rfl
def mK(dst:Option Tmp):Option (List D×St)→Option St
 | some (xs,s)=>some (s.putO dst (.agg xs))
 | none=>none
theorem A8X(xs:List D):mK dst (some (xs,s))=some (s.putO dst (.agg xs)):=nr rfl
theorem VB(T:Tys){e:TypeId}(hs:T.isStruct e=false):T.size e=1∧T.zeros e=[T.zero1 e]:=by
 unfold Tys.isStruct at hs;unfold Tys.size Tys.zeros
 cases hty:T.ty e<;>simp_all [Ty.isStruct,Ty.size]
def qm(E:Env)(pm:Pm)(s:St)(dst:Option Tmp)(len:Nat)(parts:Array (Nat×Operand)):Ty→Option St
 | .slice e=>
   if len*E.T.size e≤4096∧E.T.known e=true then
    (FZ E.T pm (fun _=>e) (E.T.size e) s ((List.range (len*E.T.size e)).map fun j=>(E.T.zeros e).getD (j % E.T.size e) .undef) parts.toList).map fun r=>r.2.putO dst (.own e r.1)
   else none
 | _=>none
theorem A2R(len:Nat)(parts:Array (Nat×Operand)):UM E.T pm s dst t len parts=qm E pm s dst len parts (E.T.ty t):=by
 unfold UM qm
 cases E.T.ty t<;>rfl
theorem yBs(len:Nat)(parts:Array (Nat×Operand)):Ka E pm s dst (.buildSlice t len parts) ty=if ty=900004 then fcB pm dst (qm E pm s dst len parts (E.T.ty t))else qm E pm s dst len parts (E.T.ty t):=by
 rw [V7,A2R];by_cases h:ty=900004
 ·rw [if_pos h,if_pos h];unfold fcB
  cases qm E pm s dst len parts (E.T.ty t)<;>cases dst<;>rfl
 ·rw [if_neg h,if_neg h]
theorem AFq(len:Nat)(parts:Array (Nat×Operand))(e:TypeId)(hk:E.T.known e=true)(hs:E.T.isStruct e=false)(hl:len≤4096):
  qm E pm s dst len parts (.slice e)=A8V e dst (FZ E.T pm (fun _=>e) 1 s (List.replicate len (E.T.zero1 e)) parts.toList):=by
 obtain⟨hz,hzz⟩:=VB E.T hs
 have hrep:((List.range (len*1)).map fun j=>(E.T.zeros e).getD (j % 1) .undef)=List.replicate len (E.T.zero1 e):=by
  rw [hzz];apply List.ext_getElem
  ·simp
  ·intro i h1 h2;simp [Nat.mod_one]
 simp only [qm,hz];rw [if_pos ⟨by omega,hk⟩,hrep]
 rcases FZ E.T pm (fun _=>e) 1 s (List.replicate len (E.T.zero1 e)) parts.toList with _ | ⟨a,b⟩<;>rfl
def bsA(E:Env)(e:TypeId)(dst:Option Tmp):Option (D×St)→Option St
 | some (d,s1)=>if d.asCells.length=E.T.size e then some (s1.putO dst (.own e d.asCells))else none
 | none=>none
theorem AFs(e:TypeId)(xs:List D)(h:xs.length=E.T.size e):bsA E e dst (some (.agg xs,s))=some (s.putO dst (.own e xs)):=by
 show(if xs.length=E.T.size e then some (s.putO dst (.own e xs))else none)=_
 rw [if_pos h]
theorem cO(cs ys:List D)(h:ys.length=cs.length):Bo cs 0 ys=ys:=by
 refine List.ext_getElem? fun i=> ?_;rw [Hm (by omega)]
 by_cases hi:i<ys.length
 ·rw [if_pos (by omega)];rfl
 ·rw [if_neg (by omega),List.getElem?_eq_none (by omega),List.getElem?_eq_none (by omega)]
theorem AFt(e:TypeId)(x:Operand)(hk:E.T.known e=true)(hs:E.T.isStruct e=true)(hz:E.T.size e≤4096):qm E pm s dst 1 #[(0,x)] (.slice e)=bsA E e dst (take E.T pm s e x):=by
 simp only [qm,FZ];rw [if_pos ⟨by omega,hk⟩]
 rcases take E.T pm s e x with _ | ⟨d,s1⟩
 ·rfl
 ·simp only [bsA];by_cases h:d.asCells.length=E.T.size e
  ·rw [if_pos ⟨h,by simp⟩,if_pos h,Nat.zero_mul,cO _ _ (by simp [h])];rfl
  ·rw [if_neg (fun hc=>h hc.1),if_neg h];rfl
theorem AFu(u:Tmp)(e:TypeId)(L:A9)(n m lo len:Nat):Ar pm s dst (.tmp u) (.vs e L n m lo len)=some (s.putO dst (.vs e L n m lo len)):=by
 show some (if(D.vs e L n m lo len).hasObj then(s.clr u).putO dst (.vs e L n m lo len)else s.putO dst (.vs e L n m lo len))=_
 rw [if_neg (by simp [D.hasObj])]
theorem AFv(e:TypeId)(hk:E.T.known e=true):qm E pm s dst 0 #[] (.slice e)=some (s.putO dst (.own e [])):=by
 simp [qm,hk,FZ]
def bdN(E:Env)(pm:Pm)(s:St)(dst:Option Tmp)(t:TypeId)(parts:Array (Nat×Operand)):Option St:=
 match E.T.ty t with
 | .struct fs=>if E.T.known t then mK dst (FZ E.T pm (fun i=>fs.getD i 0) 1 s (E.T.zeros t) parts.toList)else none
 | _=>none
def bd0(E:Env)(pm:Pm)(s:St)(dst:Option Tmp)(t:TypeId)(parts:Array (Nat×Operand)):Option (List (Nat×TypeId))→Option St
 | some fl=>if E.T.isStruct t&&E.T.known t then mK dst (JQ E.T pm fl s (E.T.zeros t) parts.toList)else none
 | none=>bdN E pm s dst t parts
theorem A2S(parts:Array (Nat×Operand)):Ka E pm s dst (.build t parts) ty=bd0 E pm s dst t parts (E.T.nest t):=by
 rw [lq];unfold bd0 bdN
 cases E.T.nest t with
 | some fl=>
  simp only;split
  ·rcases JQ E.T pm fl s (E.T.zeros t) parts.toList with _ | ⟨a,b⟩<;>rfl
  ·rfl
 | none=>
  simp only
  cases E.T.ty t with
  | struct fs=>
   simp only;split
   ·rcases FZ E.T pm (fun i=>fs.getD i 0) 1 s (E.T.zeros t) parts.toList with _ | ⟨a,b⟩<;>rfl
   ·rfl
  | _=>rfl
theorem AFw(parts:Array (Nat×Operand))(fl:List (Nat×TypeId))(hk:E.T.known t=true)(hs:E.T.isStruct t=true):bd0 E pm s dst t parts (some fl)=mK dst (JQ E.T pm fl s (E.T.zeros t) parts.toList):=by
 simp [bd0,hk,hs]
def bdT(E:Env)(pm:Pm)(s:St)(dst:Option Tmp)(t:TypeId)(parts:Array (Nat×Operand)):Ty→Option St
 | .struct fs=>if E.T.known t then mK dst (FZ E.T pm (fun i=>fs.getD i 0) 1 s (E.T.zeros t) parts.toList)else none
 | _=>none
theorem AFx(parts:Array (Nat×Operand)):bd0 E pm s dst t parts none=bdT E pm s dst t parts (E.T.ty t):=by
 show bdN E pm s dst t parts=_
 unfold bdN bdT
 cases E.T.ty t<;>rfl
theorem AFy(parts:Array (Nat×Operand))(fs:List TypeId)(hk:E.T.known t=true):bdT E pm s dst t parts (.struct fs)=mK dst (FZ E.T pm (fun i=>fs.getD i 0) 1 s (E.T.zeros t) parts.toList):=by
 simp [bdT,hk]
def fn1(T:Tys)(pm:Pm)(fl:List (Nat×TypeId))(cs:List D)(off:Nat)(ty:TypeId)(rest:List (Nat×Operand)):Option (D×St)→Option (List D×St)
 | none=>none
 | some (d,s1)=>if d.asCells.length=T.size ty∧off+T.size ty≤cs.length then JQ T pm fl s1 (Bo cs off d.asCells) rest else none
theorem A8a(T:Tys)(fl:List (Nat×TypeId))(cs:List D):JQ T pm fl s cs []=some (cs,s):=nr rfl
def fn0(T:Tys)(pm:Pm)(fl:List (Nat×TypeId))(s:St)(cs:List D)(x:Operand)(rest:List (Nat×Operand)):Option (Nat×TypeId)→Option (List D×St)
 | none=>none
 | some (off,ty)=>fn1 T pm fl cs off ty rest (take T pm s ty x)
theorem A2T(T:Tys)(fl:List (Nat×TypeId))(cs:List D)(i:Nat)(x:Operand)(rest:List (Nat×Operand)):JQ T pm fl s cs ((i,x)::rest)=fn0 T pm fl s cs x rest (fl[i]?):=by
 simp only [JQ];rcases fl[i]? with _ | ⟨off,ty⟩
 ·rfl
 ·simp only [fn0,fn1];rcases take T pm s ty x with _ | ⟨d,s1⟩<;>rfl
theorem AG0(T:Tys)(fl:List (Nat×TypeId))(cs:List D)(x:Operand)(rest:List (Nat×Operand))(off:Nat)(ty:TypeId):fn0 T pm fl s cs x rest (some (off,ty))=fn1 T pm fl cs off ty rest (take T pm s ty x):=nr rfl
theorem AG1(T:Tys)(fl:List (Nat×TypeId))(cs:List D)(off:Nat)(ty:TypeId)(rest:List (Nat×Operand))(d:D)(h1:d.asCells.length=T.size ty)(h2:off+T.size ty≤cs.length):
  fn1 T pm fl cs off ty rest (some (d,s))=JQ T pm fl s (Bo cs off d.asCells) rest:=by simp only [fn1,h1,h2,and_self,if_true]
theorem fnA(ds:List D):(D.agg ds).asCells=ds:=nr rfl
theorem fnO(e:TypeId)(xs:List D):(D.own e xs).asCells=[.own e xs]:=nr rfl
theorem spN(cs:List D)(c:Nat):Bo cs c []=cs:=by cases cs<;>rfl
theorem spC(cs:List D)(c:Nat)(y:D)(ys:List D):Bo cs c (y::ys)=Bo (cs.set c y) (c+1) ys:=by cases cs<;>rfl
def mk0(T:Tys)(n:Int):Ty→Option D
 | .slice e=>if 0≤n∧n<1099511627776∧T.elem e=true then
   if T.isStruct e=true then some (.own e (List.replicate n.toNat (T.zeros e)).flatten)
   else if T.size e=1 then some (.own e (List.replicate n.toNat (T.zero1 e)))else none
  else none
 | _=>none
theorem yMk(n:Int):EC T t (.int .i64 n) (.int .i64 n)=mk0 T n (T.ty t):=by
 unfold EC mk0
 cases T.ty t<;>simp
def x9(T:Tys)(q:Int):Ty→Option D
 | .slice e=>if 0≤q∧q<1099511627776∧T.elem e=true then
   if T.isStruct e=true then some (.own e [])
   else if T.size e=1 then some (.own e [])else none
  else none
 | _=>none
theorem AG2(q:Int):EC T t (.int .i64 0) (.int .i64 q)=x9 T q (T.ty t):=by
 unfold EC x9
 cases T.ty t<;>simp
theorem A8b(q:Int)(e:TypeId)(hk:T.known e=true)(h4:T.size e≤4)(h0:0≤q)(hn:q<1099511627776):x9 T q (.slice e)=some (.own e []):=by
 simp only [x9];rw [if_pos ⟨h0,hn,Qp hk h4⟩];by_cases hs:T.isStruct e=true
 ·rw [if_pos hs]
 ·obtain⟨hz,_⟩:=VB T (by simpa using hs)
  rw [if_neg hs,if_pos hz]
theorem AG3(n:Int)(e:TypeId)(hk:T.known e=true)(h4:T.size e≤4)(hs:T.isStruct e=false)(h0:0≤n)(hn:n<1099511627776):mk0 T n (.slice e)=some (.own e (List.replicate n.toNat (T.zero1 e))):=by
 obtain⟨hz,_⟩:=VB T hs;simp only [mk0];rw [if_pos ⟨h0,hn,Qp hk h4⟩,if_neg (by rw [hs];decide),if_pos hz]
theorem AG4(n:Int)(e:TypeId)(hk:T.known e=true)(h4:T.size e≤4)(hs:T.isStruct e=true)(h0:0≤n)(hn:n<1099511627776):mk0 T n (.slice e)=some (.own e (List.replicate n.toNat (T.zeros e)).flatten):=by
 simp only [mk0];rw [if_pos ⟨h0,hn,Qp hk h4⟩,if_pos hs]
end
end Dv
namespace Dv
open Go
def I64(n:Int):Prop:= -9223372036854775808≤n∧n≤9223372036854775807
theorem A2U{n:Int}(h:(Lit.int .i64 n).wf=true):I64 n:=by
 have h1:IntKind.i64.min= -9223372036854775808:=by decide
 have h2:IntKind.i64.max=9223372036854775807:=by decide
 simp only [Lit.wf,h1,h2,Bool.and_eq_true,decide_eq_true_eq]at h;exact h
section
variable {T:Tys} {t e:TypeId} {d:D}
theorem iO{ds:List D}(ht:T.ty t= .int .i64)(h:Shp T t ds): ∃n,ds=[.int .i64 n]∧I64 n:=by
 cases h with
 | int ht' hw=>rw [ht]at ht';injection ht' with ht';subst ht';exact⟨_,rfl,A2U hw⟩
 | bool ht'=>rw [ht]at ht';cases ht'
 | string ht'=>rw [ht]at ht';cases ht'
 | slice ht'=>rw [ht]at ht';cases ht'
 | struct ht'=>rw [ht]at ht';cases ht'
theorem cZ{ds:List D}(ht:T.ty t= .slice e)(h:Shp T t ds): ∃xss:List (List D),ds=[.sl e xss.flatten]∧(∀xs,xs∈xss→Shp T e xs)∧xss.length≤maxLen:=by
 cases h with
 | int ht' hw=>rw [ht]at ht';cases ht'
 | bool ht'=>rw [ht]at ht';cases ht'
 | string ht' hs=>rw [ht]at ht';cases ht'
 | slice ht' hx hl=>rw [ht]at ht';injection ht' with ht';subst ht';exact⟨_,rfl,hx,hl⟩
 | struct ht'=>rw [ht]at ht';cases ht'
theorem mM{fs:List TypeId}{ds:List D}(ht:T.ty t= .struct fs)(h:Shp T t ds):ds.length=fs.length∧ ∀(i:Nat) (f:TypeId) (d:D),fs[i]? =some f→ds[i]? =some d→Shp T f [d]:=by
 cases h with
 | int ht' hw=>rw [ht]at ht';cases ht'
 | bool ht'=>rw [ht]at ht';cases ht'
 | string ht' hs=>rw [ht]at ht';cases ht'
 | slice ht' hx hl=>rw [ht]at ht';cases ht'
 | struct ht' hl hx=>rw [ht]at ht';injection ht' with ht';subst ht';exact⟨hl,hx⟩
def A2V(xs:List Int):Prop:=xs.length≤maxLen∧ ∀x∈xs,I64 x
def kH(xss:List (List Int)):Prop:=xss.length≤maxLen∧ ∀xs∈xss,A2V xs
theorem xA{ds:List D}(ht:T.ty t= .slice e)(he:T.ty e= .int .i64)(h:Shp T t ds): ∃xs,ds=[.sl e (CE xs)]∧A2V xs:=by
 obtain⟨xss,rfl,hx,hl⟩:=cZ ht h
 have: ∀xss:List (List D),(∀xs,xs∈xss→Shp T e xs)→ ∃ys,xss.flatten=CE ys∧ys.length=xss.length∧ ∀y∈ys,I64 y:=by
  intro xss
  induction xss with
  | nil=>intro _;exact⟨[],rfl,rfl,by simp⟩
  | cons xs xss ih=>
   intro hx;obtain⟨n,rfl,hn⟩:=iO he (hx xs (List.mem_cons_self));obtain⟨ys,h1,h2,h3⟩:=ih (fun q hq=>hx q (List.mem_cons_of_mem _ hq))
   refine⟨n::ys,by rw [List.flatten_cons,h1];rfl,by simp [h2],fun y hy=> ?_⟩
   rcases List.mem_cons.1 hy with rfl | hy
   ·exact hn
   ·exact h3 y hy
 obtain⟨ys,h1,h2,h3⟩:=this xss hx
 exact⟨ys,by rw [h1],by omega,h3⟩
theorem cu{e2:TypeId}{ds:List D}(ht:T.ty t= .slice e)(he:T.ty e= .slice e2)(he2:T.ty e2= .int .i64)(h:Shp T t ds): ∃xss,ds=[.sl e (VA e2 xss)]∧kH xss:=by
 obtain⟨xss,rfl,hx,hl⟩:=cZ ht h
 have: ∀xss:List (List D),(∀xs,xs∈xss→Shp T e xs)→ ∃ys,xss.flatten=VA e2 ys∧ys.length=xss.length∧ ∀y∈ys,A2V y:=by
  intro xss
  induction xss with
  | nil=>intro _;exact⟨[],rfl,rfl,by simp⟩
  | cons xs xss ih=>
   intro hx;obtain⟨n,rfl,hn⟩:=xA he he2 (hx xs (List.mem_cons_self));obtain⟨ys,h1,h2,h3⟩:=ih (fun q hq=>hx q (List.mem_cons_of_mem _ hq))
   refine⟨n::ys,by rw [List.flatten_cons,h1];rfl,by simp [h2],fun y hy=> ?_⟩
   rcases List.mem_cons.1 hy with rfl | hy
   ·exact hn
   ·exact h3 y hy
 obtain⟨ys,h1,h2,h3⟩:=this xss hx
 exact⟨ys,by rw [h1],by omega,h3⟩
theorem mO{fs:List TypeId}(ht:T.ty t= .struct fs)(h:Arg T t d): ∃ds,d= .agg ds∧ds.length=fs.length∧ ∀(i:Nat) (f:TypeId) (d:D),fs[i]? =some f→ds[i]? =some d→Shp T f [d]:=by
 obtain⟨ds,hs,rfl⟩:=h;obtain⟨h1,h2⟩:=mM ht hs
 exact⟨ds,by simp [top,Tys.isStruct,ht,Ty.isStruct],h1,h2⟩
theorem iP{a b:TypeId}(ht:T.ty t= .struct [a,a,b,b])(ha:T.ty a= .int .i64)(hb:T.ty b= .slice e){e2:TypeId}(he:T.ty e= .slice e2)(he2:T.ty e2= .int .i64)(h:Arg T t d):
  ∃l k ns es,d= .agg [.int .i64 l,.int .i64 k,.sl e (VA e2 ns),.sl e (VA e2 es)]∧I64 l∧I64 k∧kH ns∧kH es:=by
 obtain⟨ds,rfl,hl,hx⟩:=mO ht h;rcases ds with _ | ⟨d0,_ | ⟨d1,_ | ⟨d2,_ | ⟨d3,_ | ⟨_,_⟩⟩⟩⟩⟩<;>simp at hl
 obtain⟨l,h0,hl0⟩:=iO ha (hx 0 a d0 rfl rfl);obtain⟨k,h1,hl1⟩:=iO ha (hx 1 a d1 rfl rfl);obtain⟨ns,h2,hl2⟩:=cu hb he he2 (hx 2 b d2 rfl rfl);obtain⟨es,h3,hl3⟩:=cu hb he he2 (hx 3 b d3 rfl rfl);simp only [List.cons.injEq,and_true]at h0 h1 h2 h3;subst h0 h1 h2 h3
 exact⟨l,k,ns,es,rfl,hl0,hl1,hl2,hl3⟩
end
theorem trodAll_len{H:Type}{enc:TypeId×Value→H}{P:Program}{w:World}{base:Nat}{spare:Nat→Bool}{F6:Bool}: ∀ {ts:List TypeId} {vs:List Value} {ds:List (DataW H)} {ps:List MemPlace},
  DataW.TrodAll enc P w base spare F6 ts vs ds ps→ds.length=ts.length∧vs.length=ts.length:=by
 intro ts
 induction ts with
 | nil=>intro vs ds ps h;cases vs<;>cases ds<;>simp [DataW.TrodAll]at h;exact⟨rfl,rfl⟩
 | cons t ts ih=>
  intro vs ds ps h
  cases vs with
  | nil=>cases ds<;>simp [DataW.TrodAll]at h
  | cons v vs=>
   cases ds with
   | nil=>simp [DataW.TrodAll]at h
   | cons d ds=>
    simp only [DataW.TrodAll]at h;obtain⟨p,q,h1,h2,_⟩:=h;obtain⟨e1,e2⟩:=ih h2
    exact⟨by simp [e1],by simp [e2]⟩
end Dv
namespace Dv
open Go
section
variable {E:Env} {T:Tys} {pm:Pm} {s:St} {dst:Option Tmp} {ty t:TypeId}
def fG(T:Tys)(t:TypeId)(dst:Option Tmp):Option (D×St)→Option St
 | some (d,s1)=>if T.isStruct t==d.isAgg then some (s1.putO dst (.box d.asCells))else none
 | none=>none
def cz(E:Env)(pm:Pm)(s:St)(t:TypeId)(x:Operand)(dst:Option Tmp):D→Option St
 | .agg ds=>if AP ds then fG E.T t dst (take E.T pm s t x)else(if E.T.isStruct t then some (s.putO dst (.box ds))else none)
 | _=>fG E.T t dst (take E.T pm s t x)
theorem A2W(u:Tmp):OV E.T pm s dst t (.tmp u)=cz E pm s t (.tmp u) dst (s.v u):=by
 rw [qF]
 cases hk:UK (ev E.T s t (.tmp u))with
 | some ds=>
  simp only [ev]at hk
  cases hv:s.v u<;>rw [hv]at hk<;>simp only [UK]at hk<;>try (cases hk;done)
  split at hk
  ·cases hk
  ·rename_i ho
   simp only [Option.some.injEq]at hk;subst hk;simp only [cz,ho];rfl
 | none=>
  have hold:cz E pm s t (.tmp u) dst (s.v u)=fG E.T t dst (take E.T pm s t (.tmp u)):=by
   simp only [ev]at hk
   cases hv:s.v u<;>try rfl
   rw [hv]at hk;simp only [UK]at hk
   split at hk
   ·rename_i ho;simp only [cz,ho,if_true]
   ·cases hk
  rw [hold];simp only;rcases take E.T pm s t (.tmp u)with _ | ⟨d,s1⟩<;>rfl
theorem AG5(u:Tmp):Ka E pm s dst (.box t (.tmp u)) ty=if ty=900003 then mH pm dst (cz E pm s t (.tmp u) dst (s.v u))else cz E pm s t (.tmp u) dst (s.v u):=by
 rw [wH,A2W];by_cases h:ty=900003
 ·rw [if_pos h,if_pos h];unfold mH
  cases cz E pm s t (.tmp u) dst (s.v u)<;>cases dst<;>rfl
 ·rw [if_neg h,if_neg h]
theorem bkK(x:Operand)(ds:List D)(hs:E.T.isStruct t=true):cz E pm s t x dst (.agg ds)=if AP ds then fG E.T t dst (take E.T pm s t x)else some (s.putO dst (.box ds)):=by simp [cz,hs]
theorem A8c(x:Operand)(k:IntKind)(n:Int):cz E pm s t x dst (.int k n)=fG E.T t dst (take E.T pm s t x):=nr rfl
theorem A2X(x:Operand)(b:Bool):cz E pm s t x dst (.bool b)=fG E.T t dst (take E.T pm s t x):=nr rfl
theorem A8d(x:Operand)(b:ByteArray):cz E pm s t x dst (.str b)=fG E.T t dst (take E.T pm s t x):=nr rfl
theorem AG6(x:Operand)(e:TypeId)(xs:List D):cz E pm s t x dst (.sl e xs)=fG E.T t dst (take E.T pm s t x):=nr rfl
theorem A8e(x:Operand)(e:TypeId)(xs:List D):cz E pm s t x dst (.own e xs)=fG E.T t dst (take E.T pm s t x):=nr rfl
theorem A2Y(x:Operand)(xs:List D):cz E pm s t x dst (.cptr xs)=fG E.T t dst (take E.T pm s t x):=nr rfl
theorem AG7(x:Operand)(L:A9)(n m:Nat):cz E pm s t x dst (.vw L n m)=fG E.T t dst (take E.T pm s t x):=nr rfl
theorem A8f(x:Operand)(f:FuncId)(xs:List D):cz E pm s t x dst (.clo f xs)=fG E.T t dst (take E.T pm s t x):=nr rfl
theorem AG8(ds:List D)(hs:T.isStruct t=true):fG T t dst (some (.agg ds,s))=some (s.putO dst (.box ds)):=by simp [fG,hs,D.isAgg,D.asCells]
theorem AG9(d:D)(hs:T.isStruct t=false)(hd:d.isAgg=false):fG T t dst (some (d,s))=some (s.putO dst (.box [d])):=by
 have:d.asCells=[d]:=by cases d<;>first | rfl | (simp [D.isAgg]at hd)
 simp [fG,hs,hd,this]
def fa1(L:A9)(i n m:Nat):Option D→Option D
 | some _=>some (.pe L i n m)
 | none=>none
theorem AGB(L:A9)(i n m:Nat)(d:D):fa1 L i n m (some d)=some (.pe L i n m):=nr rfl
def vP(T:Tys)(pm:Pm)(s:St)(t:TypeId)(x:Operand)(d:D):Option Nat→Option D
 | none=>none
 | some j=>
  if T.isStruct t then
   match d with
   | .box _=>match x with | .tmp u=>some (.pe [u] j (s.k u) (s.m u)) | _=>none
   | .vw L n m=>match s.look pm L n m with | some (.box _)=>some (.pe L j n m) | _=>none
   | .pe L c n m=>match s.look pm L n m with | some _=>some (.pe L (c+j) n m) | none=>none
   | .cptr xs=>some (.cptr (xs.drop j))
   | _=>none
  else none
theorem faE(x:Operand)(d:D)(i:Nat):F4 T pm s t x d i=vP T pm s t x d (T.foff t i):=by
 unfold F4 vP
 cases T.foff t i<;>rfl
theorem foN(i:Nat)(hn:T.nest t=none)(hi:i<T.size t):T.foff t i=some i:=by simp [Tys.foff,hn,hi]
theorem A8g(u:Tmp)(xs:List D)(i:Nat)(hs:T.isStruct t=true):vP T pm s t (.tmp u) (.box xs) (some i)=some (.pe [u] i (s.k u) (s.m u)):=by simp [vP,hs]
theorem AGC(x:Operand)(L:A9)(n m i:Nat)(hs:T.isStruct t=true):vP T pm s t x (.vw L n m) (some i)=fa1 L i n m (Om s pm L n m):=by
 simp only [vP,hs,if_true,Om]
 cases s.look pm L n m with
 | none=>rfl
 | some o=>cases o<;>rfl
theorem AGD(x:Operand)(L:A9)(c n m i:Nat)(hs:T.isStruct t=true):vP T pm s t x (.pe L c n m) (some i)=fa1 L (c+i) n m (s.look pm L n m):=by
 simp only [vP,hs,if_true]
 cases s.look pm L n m<;>rfl
theorem AGE(x:Operand)(xs:List D)(i:Nat)(hs:T.isStruct t=true):vP T pm s t x (.cptr xs) (some i)=some (.cptr (xs.drop i)):=by simp [vP,hs]
theorem csS(L:A9)(c n:Nat)(o:D):cellsOf s L c n (some o)=if c+n≤o.cells.length then Bc (.agg ((List.range n).map fun i=>Dn s L (c+i) (o.cells.getD (c+i) .undef)))else none:=nr rfl
variable {α:Type} (f:Nat→α)
theorem rg1:(List.range 1).map f=[f 0]:=nr rfl
theorem rg2:(List.range 2).map f=[f 0,f 1]:=nr rfl
theorem rg3:(List.range 3).map f=[f 0,f 1,f 2]:=nr rfl
theorem rg4:(List.range 4).map f=[f 0,f 1,f 2,f 3]:=nr rfl
theorem rg5:(List.range 5).map f=[f 0,f 1,f 2,f 3,f 4]:=nr rfl
theorem rg6:(List.range 6).map f=[f 0,f 1,f 2,f 3,f 4,f 5]:=nr rfl
theorem rg7:(List.range 7).map f=[f 0,f 1,f 2,f 3,f 4,f 5,f 6]:=nr rfl
theorem rg8:(List.range 8).map f=[f 0,f 1,f 2,f 3,f 4,f 5,f 6,f 7]:=nr rfl
theorem rg9:(List.range 9).map f=[f 0,f 1,f 2,f 3,f 4,f 5,f 6,f 7,f 8]:=nr rfl
theorem AGF:(List.range 10).map f=[f 0,f 1,f 2,f 3,f 4,f 5,f 6,f 7,f 8,f 9]:=nr rfl
theorem AGG:(List.range 11).map f=[f 0,f 1,f 2,f 3,f 4,f 5,f 6,f 7,f 8,f 9,f 10]:=nr rfl
theorem AGH:(List.range 12).map f=[f 0,f 1,f 2,f 3,f 4,f 5,f 6,f 7,f 8,f 9,f 10,f 11]:=nr rfl
theorem A8h(L:A9)(c:Nat)(k:IntKind)(n:Int):Dn s L c (.int k n)= .int k n:=nr rfl
theorem A2Z(L:A9)(c:Nat)(b:Bool):Dn s L c (.bool b)= .bool b:=nr rfl
theorem A8i(L:A9)(c:Nat)(b:ByteArray):Dn s L c (.str b)= .str b:=nr rfl
theorem AGI(L:A9)(c:Nat)(e:TypeId)(xs:List D):Dn s L c (.sl e xs)= .sl e xs:=nr rfl
theorem A8j(L:A9)(c:Nat)(e:TypeId)(xs:List D):Dn s L c (.own e xs)=fF s (L++[c]):=nr rfl
theorem A8k(L:A9)(c:Nat)(g:FuncId)(xs:List D):Dn s L c (.clo g xs)= .clo g xs:=nr rfl
theorem AGJ(L:A9)(c:Nat)(M:A9)(n m:Nat):Dn s L c (.vw M n m)= .vw M n m:=nr rfl
theorem noA(xs:List D):Bc (.agg xs)=if AP xs then none else some (.agg xs):=by simp only [Bc,D.hasObj];rfl
theorem A8l(k:IntKind)(n:Int):Bc (.int k n)=some (.int k n):=by simp [Bc,D.hasObj]
theorem A2a(b:Bool):Bc (.bool b)=some (.bool b):=by simp [Bc,D.hasObj]
theorem A8m(b:ByteArray):Bc (.str b)=some (.str b):=by simp [Bc,D.hasObj]
theorem AGK(e:TypeId)(xs:List D):Bc (.sl e xs)=some (.sl e xs):=by simp [Bc,D.hasObj]
theorem AGL(L:A9)(n m:Nat):Bc (.vw L n m)=some (.vw L n m):=by simp [Bc,D.hasObj]
theorem A8n(g:FuncId)(xs:List D):Bc (.clo g xs)=some (.clo g xs):=by simp [Bc,D.hasObj]
theorem dl2(a b:Nat)(l:A9):List.dropLast (a::b::l)=a::List.dropLast (b::l):=nr rfl
theorem dl1(a:Nat):List.dropLast [a]=[]:=nr rfl
theorem AGM(r c:Nat)(p:A9):s.get (r::c::p)=BJ (s.v r) (c::p):=nr rfl
theorem iQ: ∀(ds xs:List D),xs.length=ds.length→Bo xs 0 ds=ds:=by
 have key: ∀(ds pre xs:List D),xs.length=ds.length→Bo (pre++xs) pre.length ds=pre++ds:=by
  intro ds
  induction ds with
  | nil=>intro pre xs h;simp at h;subst h;rfl
  | cons d ds ih=>
   intro pre xs h
   cases xs with
   | nil=>simp at h
   | cons x xs=>
    simp only [Bo];have:=ih (pre++[d]) xs (by simpa using h)
    simpa using this
 intro ds xs h;simpa using key ds [] xs h
def sw1(T:Tys)(pm:Pm)(t:TypeId)(u:Tmp)(ds:List D)(s:St):D→Option St
 | .box xs=>if T.known t&&T.isStruct t&&pm.wr u&&ds.all Bh&&(T.size t==ds.length)&&(xs.length==ds.length)then(if AP ds||AP xs then some ((s.set [u] (.box ds)).bump u)else some (s.set [u] (.box ds)))else Xd T pm t (.tmp u) (some (.agg ds,s))
 | _=>Xd T pm t (.tmp u) (some (.agg ds,s))
theorem AGN(u:Tmp)(ds:List D):Xd T pm t (.tmp u) (some (.agg ds,s))=sw1 T pm t u ds s (s.v u):=by
 cases hv:s.v u<;>simp only [sw1]
 rename_i xs
 split
 ·rename_i hc
  simp only [Bool.and_eq_true,beq_iff_eq]at hc;obtain⟨⟨⟨⟨⟨hk,hs⟩,hw⟩,hd⟩,hz⟩,hl⟩:=hc;have hz':T.size t≤xs.length:=by omega
  simp only [Xd,ev,hv,Gc,D.asCells,D.isAgg,D.cells,D.withCells,hk,hs,hw,hd,hz,List.headD_cons,beq_self_eq_true,Bool.and_self,Nat.zero_add,D.hasObj];rw [iQ ds xs hl];have h2:ds.length≤xs.length:=by omega
  simp only [h2,decide_true,Bool.and_self,if_true]
  split<;>first | rfl | (rename_i hq;simp only [hq];rfl)
 ·rfl
theorem AGO(u:Tmp)(ds xs:List D)(hk:T.known t=true)(hs:T.isStruct t=true)(hw:pm.wr u=true)(hd:ds.all Bh=true)(hz:T.size t=ds.length)(hl:xs.length=ds.length):
  sw1 T pm t u ds s (.box xs)=if AP ds||AP xs then some ((s.set [u] (.box ds)).bump u)else some (s.set [u] (.box ds)):=by
 simp [sw1,hk,hs,hw,hd,hz,hl]
def yJ(T:Tys)(s:St)(t:Tmp)(ty:TypeId):D→Option (D×St)
 | .box xs=>if T.isStruct ty then(if xs.length=T.size ty then td1 (Ec Pm.all (s.clr t) xs)else none)else(match xs with | [d]=>BU Pm.all (s.clr t) d | _=>none)
 | .cptr xs=>if T.isStruct ty then(if xs.length=T.size ty then some (.agg xs,s)else none)else(match xs with | [d]=>some (d,s) | _=>none)
 | _=>none
theorem A2b(u:Tmp)(hk:T.known ty=true):UT T s (.cell u ty)=yJ T s u ty (s.v u):=by
 simp only [UT,hk,if_true,yJ]
 cases s.v u with
 | box xs=>
  simp only;split
  ·split
   ·cases Ec Pm.all (s.clr u) xs<;>rfl
   ·rfl
  ·rfl
 | _=>rfl
theorem AGP(u:Tmp)(xs:List D)(hs:T.isStruct ty=true)(hl:xs.length=T.size ty):yJ T s u ty (.box xs)=td1 (Ec Pm.all (s.clr u) xs):=by simp [yJ,hs,hl]
theorem AGQ(u:Tmp)(d:D)(hs:T.isStruct ty=false):yJ T s u ty (.box [d])=BU Pm.all (s.clr u) d:=by simp [yJ,hs]
theorem AGR(u:Tmp)(d:D)(hs:T.isStruct ty=false):yJ T s u ty (.cptr [d])=some (d,s):=by simp [yJ,hs]
def cp1(pm:Pm)(s:St)(u:Tmp)(rest:List Operand):D→Option (List D×St)
 | .box xs=>match CW xs with
  | some ys=>if pm.wr u then(LA pm (s.set [u] (.cptr ys)) rest).map fun r=>(.cptr ys::r.1,r.2)else none
  | none=>none
 | .cptr ys=>(LA pm s rest).map fun r=>(.cptr ys::r.1,r.2)
 | _=>none
theorem A8p:LA pm s []=some ([],s):=nr rfl
theorem A8q(u:Tmp)(rest:List Operand):LA pm s (.tmp u::rest)=cp1 pm s u rest (s.v u):=by
 simp only [LA]
 cases s.v u<;>rfl
def cp2(pm:Pm)(s:St)(u:Tmp)(rest:List Operand):Option (List D)→Option (List D×St)
 | some ys=>if pm.wr u then(LA pm (s.set [u] (.cptr ys)) rest).map fun r=>(.cptr ys::r.1,r.2)else none
 | none=>none
theorem AGT(u:Tmp)(rest:List Operand)(xs:List D):cp1 pm s u rest (.box xs)=cp2 pm s u rest (CW xs):=by
 simp only [cp1];cases CW xs<;>rfl
theorem AGU(u:Tmp)(rest:List Operand)(ys:List D)(hw:pm.wr u=true):cp2 pm s u rest (some ys)=(LA pm (s.set [u] (.cptr ys)) rest).map fun r=>(.cptr ys::r.1,r.2):=by simp [cp2,hw]
theorem AGV(u:Tmp)(rest:List Operand)(ys:List D):cp1 pm s u rest (.cptr ys)=(LA pm s rest).map fun r=>(.cptr ys::r.1,r.2):=nr rfl
def clN(E:Env)(pm:Pm)(s:St)(dst:Option Tmp)(args:Array Operand)(ts:Array TypeId):D→Option St
 | .clo f caps=>if args.size=ts.size then GI E pm s dst f (args.toList.zip ts.toList) caps else none
 | .ocl false f caps=>if args.size=ts.size then Lb E pm s dst f (args.toList.zip ts.toList) caps else none
 | _=>none
theorem A2c(u:Tmp)(args:Array Operand)(ts:Array TypeId):Ka E pm s dst (.call ⟨.value (.tmp u),args,ts⟩) ty=clN E pm s dst args ts (s.v u):=by
 rw [lw];cases s.v u<;>first | rfl | (rename_i b _ _;cases b<;>rfl)
theorem AGW(args:Array Operand)(ts:Array TypeId)(f':FuncId)(caps:List D)(h:args.size=ts.size):clN E pm s dst args ts (.clo f' caps)=GI E pm s dst f' (args.toList.zip ts.toList) caps:=by simp [clN,h]
def mf0(f:FuncId)(dst:Option Tmp):Option (List D×St)→Option St
 | some r=>some (r.2.putO dst (.clo f r.1))
 | none=>none
theorem AGX(g:FuncId)(xs:List D):mf0 g dst (some (xs,s))=some (s.putO dst (.clo g xs)):=nr rfl
def mfV(f:FuncId)(dst:Option Tmp):Option (List D×St)→Option St
 | some r=>some (r.2.putO dst (.ocl false f r.1))
 | none=>none
theorem AGY(g:FuncId)(xs:List D):mfV g dst (some (xs,s))=some (s.putO dst (.ocl false g xs)):=nr rfl
theorem yMf(g:FuncId)(captured:Array Operand):Ka E pm s dst (.makeFunc (.func g) #[] captured) ty=if ty<3000000 then mf0 g dst (LA pm s captured.toList)else mfV g dst (UL pm s (ty-3000000) captured.toList):=by
 rw [YY];simp only [List.isEmpty_toArray,List.isEmpty_nil,if_true];by_cases h:ty<3000000
 ·rw [if_pos h,if_pos h]
  cases LA pm s captured.toList<;>rfl
 ·rw [if_neg h,if_neg h]
  cases UL pm s (ty-3000000) captured.toList<;>rfl
def cvp(l:List Operand):Option (List D×St)→Option (List D×St)
 | none=>none
 | some (_,s1)=>(OU s1 l).map fun ds=>(ds,s1)
theorem cvE(m:Nat)(l:List Operand):UL pm s m l=cvp l (LA pm s (Ib m 0 l)):=by
 unfold UL cvp;rcases LA pm s (Ib m 0 l)with _ | ⟨ys,s1⟩<;>rfl
def cvq(s:St):Option (List D)→Option (List D×St)
 | some ds=>some (ds,s)
 | none=>none
theorem AGZ(l:List Operand)(ys:List D):cvp l (some (ys,s))=cvq s (OU s l):=by
 simp only [cvp];cases OU s l<;>rfl
theorem AGa(ds:List D):cvq s (some ds)=some (ds,s):=nr rfl
theorem umN(m i:Nat):Ib m i []=[]:=nr rfl
theorem umC(m i:Nat)(x:Operand)(xs:List Operand):Ib m i (x::xs)=if m / 2 ^ i % 2=1 then Ib m (i+1) xs else x::Ib m (i+1) xs:=by
 rw [Ib,Nat.testBit_eq_decide_div_mod_eq];by_cases h:m / 2 ^ i % 2=1<;>simp [h]
def ce1(s:St)(u:Tmp)(r:Option (List D)):D→Option (List D)
 | .box _=>r.map (fF s [u]:: ·)
 | .cptr ys=>r.map (.cptr ys:: ·)
 | _=>none
theorem ceN:OU s []=some []:=nr rfl
theorem ceT(u:Tmp)(rest:List Operand):OU s (.tmp u::rest)=ce1 s u (OU s rest) (s.v u):=by
 simp only [OU]
 cases s.v u<;>rfl
theorem AGc(u:Tmp)(l xs:List D):ce1 s u (some l) (.box xs)=some (fF s [u]::l):=nr rfl
theorem AGd(u:Tmp)(l ys:List D):ce1 s u (some l) (.cptr ys)=some (.cptr ys::l):=nr rfl
def A2d(T:Tys)(pm:Pm)(s:St)(t:TypeId)(t0:Tmp):D→D→Option St
 | .box [_],.ocl false f xs=>if T.known t&& !T.isStruct t&&(T.size t==1)&&pm.rd t0&&pm.wr t0 then some (s.set [t0] (.ocl true f (xs.map (Ij s t0))))else none
 | _,_=>none
theorem AGe(T:Tys)(t0 u:Tmp):Sz T pm s t (.tmp t0) (.tmp u)=A2d T pm s t t0 (s.v t0) (s.v u):=by
 show(match s.v t0,s.v u with
  | .box [_],.ocl false f xs=>if T.known t&& !T.isStruct t&&(T.size t==1)&&pm.rd t0&&pm.wr t0 then some (s.set [t0] (.ocl true f (xs.map (Ij s t0))))else none
  | _,_=>none)=_
 rfl
theorem AGf(T:Tys)(t0:Tmp)(x:D)(f:FuncId)(xs:List D)(hk:T.known t=true)(hs:T.isStruct t=false)(hz:T.size t=1)(hr:pm.rd t0=true)(hw:pm.wr t0=true):
  A2d T pm s t t0 (.box [x]) (.ocl false f xs)=some (s.set [t0] (.ocl true f (xs.map (Ij s t0)))):=by simp [A2d,hk,hs,hz,hr,hw]
theorem utV(t0 r n m:Nat):Ij s t0 (.vw [r] n m)=if r=t0 then(if n=s.k t0 then .undef else .vw [r] n m)else .vw [r] n m:=by
 unfold Ij;by_cases h:r=t0<;>by_cases h2:n=s.k t0<;>simp [h,h2]
theorem utC(t0:Nat)(ys:List D):Ij s t0 (.cptr ys)= .cptr ys:=nr rfl
theorem ldO(T:Tys)(x:Operand)(f:FuncId)(xs:List D)(hk:T.known t=true)(hs:T.isStruct t=false):Dt T pm s t x (.ocl true f xs)=some (.ocl false f xs):=by simp [Dt,hk,hs]
def co2(E:Env)(pm:Pm)(s:St)(dst:Option Tmp)(f:FuncId)(as:List D)(ls:List (A9×D)):Option (List D×List (A9×D))→Option St
 | none=>none
 | some (cs,lc)=>
  if E9 ((ls++lc).map (·.1))&&(ls++lc).all (fun l=>pm.wr (l.1.headD 0))&&(ls++lc).all (fun l=>Y5 l.2)then
   cl2 s dst (ls++lc) (E.call f (as++cs.map (J6 f cs)) ((ls++lc).map (·.2)))
  else none
def co1(E:Env)(pm:Pm)(s:St)(dst:Option Tmp)(f:FuncId)(caps:List D):Option (List D×List (A9×D))→Option St
 | none=>none
 | some (as,ls)=>co2 E pm s dst f as ls (Cz pm s ls.length caps)
theorem coE(f:FuncId)(xs:List (Operand×TypeId))(caps:List D):Lb E pm s dst f xs caps=co1 E pm s dst f caps (DR E true pm s 0 xs):=by
 unfold Lb co1;rcases DR E true pm s 0 xs with _ | ⟨as,ls⟩
 ·rfl
 ·simp only;unfold co2;rcases Cz pm s ls.length caps with _ | ⟨cs,lc⟩
  ·rfl
  ·simp only;split
   ·unfold cl2;rcases E.call f (as++cs.map (J6 f cs)) ((ls++lc).map (·.2))with _ | ⟨r,o⟩<;>rfl
   ·rfl
theorem AGh(f:FuncId)(caps as:List D)(ls:List (A9×D)):co1 E pm s dst f caps (some (as,ls))=co2 E pm s dst f as ls (Cz pm s ls.length caps):=nr rfl
theorem AGi(f:FuncId)(as cs:List D)(ls lc:List (A9×D))(h:(E9 ((ls++lc).map (·.1))&&(ls++lc).all (fun l=>pm.wr (l.1.headD 0))&&(ls++lc).all (fun l=>Y5 l.2))=true):
  co2 E pm s dst f as ls (some (cs,lc))=cl2 s dst (ls++lc) (E.call f (as++cs.map (J6 f cs)) ((ls++lc).map (·.2))):=by simp only [co2,h,if_true]
def yK(a:D)(l:List (A9×D)):Option (List D×List (A9×D))→Option (List D×List (A9×D))
 | some r=>some (a::r.1,l++r.2)
 | none=>none
theorem AGj(a:D)(l:List (A9×D))(r:List D)(m:List (A9×D)):yK a l (some (r,m))=some (a::r,l++m):=nr rfl
def oa1(pm:Pm)(s:St)(j:Nat)(L:A9)(rest:List D):Option D→Option (List D×List (A9×D))
 | some c=>yK (.vw [G+j] 0 0) [(L,c)] (Cz pm s (j+1) rest)
 | none=>none
theorem AGl(j:Nat)(L:A9)(rest:List D)(c:D):oa1 pm s j L rest (some c)=yK (.vw [G+j] 0 0) [(L,c)] (Cz pm s (j+1) rest):=nr rfl
theorem oaN(j:Nat):Cz pm s j []=some ([],[]):=nr rfl
theorem oaV(j:Nat)(L:A9)(n m:Nat)(rest:List D):Cz pm s j (.vw L n m::rest)=oa1 pm s j L rest (s.look pm L n m):=by
 rw [Cz]
 cases s.look pm L n m with
 | none=>rfl
 | some c=>simp only [oa1];rcases Cz pm s (j+1) rest with _ | ⟨a,b⟩<;>rfl
theorem oaC(j:Nat)(ys rest:List D):Cz pm s j (.cptr ys::rest)=yK (.cptr ys) [] (Cz pm s j rest):=by
 rw [Cz];rcases Cz pm s j rest with _ | ⟨a,b⟩<;>rfl
theorem oaU(j:Nat)(rest:List D):Cz pm s j (.undef::rest)=yK .undef [] (Cz pm s j rest):=by
 rw [Cz];rcases Cz pm s j rest with _ | ⟨a,b⟩<;>rfl
theorem saU(f:FuncId)(cs:List D):J6 f cs .undef= .ocl true f cs:=nr rfl
theorem saV(f:FuncId)(cs:List D)(L:A9)(n m:Nat):J6 f cs (.vw L n m)= .vw L n m:=nr rfl
theorem saC(f:FuncId)(cs ys:List D):J6 f cs (.cptr ys)= .cptr ys:=nr rfl
theorem AGm(args:Array Operand)(ts:Array TypeId)(f':FuncId)(caps:List D)(h:args.size=ts.size):clN E pm s dst args ts (.ocl false f' caps)=Lb E pm s dst f' (args.toList.zip ts.toList) caps:=by simp [clN,h]
theorem mP(g:FuncId):Ce (.clo g [])=false:=by simp [Ce]
def bn1(dflt:Nat):Option D→Option Nat
 | some (.int _ n)=>if 0≤n then some n.toNat else none
 | _=>none
theorem bnN(n:Nat):OP T s n none=some n:=nr rfl
theorem bnS(n:Nat)(x:Operand):OP T s n (some x)=bn1 n (ev T s 0 x):=by
 simp only [OP];rcases ev T s 0 x with _ | d
 ·rfl
 ·cases d<;>rfl
theorem AGo(n:Nat)(k:IntKind)(i:Int)(h:0≤i):bn1 n (some (.int k i))=some i.toNat:=by simp [bn1,h]
def sl0(T:Tys)(pm:Pm)(s:St)(x:Operand)(d:D)(lo hi mx:Option Operand):Ty→Option (D×St)
 | .slice e'=>match Bn pm s x d with
  | none=>none
  | some (e,xs,o)=>
   match OP T s 0 lo,OP T s (T.len e xs) hi with
   | some l,some h=>
    if e'=e∧T.known e=true∧l≤h∧h≤T.len e xs then
     if mx.isSome then
      match OP T s 0 mx with
      | some q=>if l=h∧h=q∧hi.isSome=true then some (.own e [],s)else none
      | none=>none
     else match o with
      | none=>some (.sl e ((xs.take (h*T.size e)).drop (l*T.size e)),s)
      | some (L,va,vb)=>
       if pm.wr (L.headD 0)then
        match CW xs with
        | some ys=>some (.sl e ((ys.take (h*T.size e)).drop (l*T.size e)),s.set L (.sl e ys))
        | none=>none
       else UJ L va vb e l h s
    else none
   | _,_=>none
 | .string=>match d with
  | .str b=>match OP T s 0 lo,OP T s b.size hi with
   | some l,some h=>if l≤h∧h≤b.size∧mx.isNone then some (.str (b.extract l h),s)else none
   | _,_=>none
  | _=>none
 | _=>none
theorem slT(x:Operand)(d:D)(lo hi mx:Option Operand):I5 T pm s t x d lo hi mx=sl0 T pm s x d lo hi mx (T.ty t):=by
 unfold I5 sl0
 cases T.ty t<;>first | rfl | (cases d<;>rfl)
def sl1(T:Tys)(pm:Pm)(s:St)(e:TypeId)(xs:List D)(o:Option (A9×Nat×Nat)):Option Nat→Option Nat→Option (D×St)
 | some l,some h=>
  if l≤h∧h≤xs.length then
   match o with
   | none=>some (.sl e ((xs.take h).drop l),s)
   | some (L,va,vb)=>
    if pm.wr (L.headD 0)then
     match CW xs with
     | some ys=>some (.sl e ((ys.take h).drop l),s.set L (.sl e ys))
     | none=>none
    else UJ L va vb e l h s
  else none
 | _,_=>none
def sl2(T:Tys)(pm:Pm)(s:St)(e':TypeId)(lo hi:Option Operand):Option (TypeId×List D×Option (A9×Nat×Nat))→Option (D×St)
 | some (e,xs,o)=>if e'=e∧T.known e=true then sl1 T pm s e xs o (OP T s 0 lo) (OP T s xs.length hi)else none
 | none=>none
theorem AGp(x:Operand)(d:D)(lo hi:Option Operand)(e:TypeId)(hz:T.isStruct e=false):sl0 T pm s x d lo hi none (.slice e)=sl2 T pm s e lo hi (Bn pm s x d):=by
 have h1:=JV hz;simp only [sl0,sl2,Option.isSome_none,Bool.false_eq_true,if_false];rcases Bn pm s x d with _ | ⟨e',xs,o⟩
 ·rfl
 ·simp only;by_cases he:e=e'
  ·subst he;simp only [true_and,h1,Nat.mul_one,Tys.len,if_true]
   cases OP T s 0 lo<;>cases OP T s xs.length hi<;>simp only [sl1]<;>(by_cases hk:T.known e=true<;>simp [hk])
  ·simp only [he,false_and,if_false]
   cases OP T s 0 lo<;>cases OP T s (T.len e' xs) hi<;>rfl
theorem AGq(e:TypeId)(lo hi:Option Operand)(xs:List D)(o:Option (A9×Nat×Nat))(hk:T.known e=true):sl2 T pm s e lo hi (some (e,xs,o))=sl1 T pm s e xs o (OP T s 0 lo) (OP T s xs.length hi):=by simp [sl2,hk]
theorem AGr(e:TypeId)(xs:List D)(l h:Nat)(h1:l≤h)(h2:h≤xs.length):sl1 T pm s e xs none (some l) (some h)=some (.sl e ((xs.take h).drop l),s):=by simp [sl1,h1,h2]
def sl3(pm:Pm)(s:St)(e:TypeId)(L:A9)(a b l h:Nat)(o:Option (List D)):Option (D×St):=
 if pm.wr (L.headD 0)then
  match o with
  | some ys=>some (.sl e ((ys.take h).drop l),s.set L (.sl e ys))
  | none=>none
 else UJ L a b e l h s
theorem AGs(e:TypeId)(xs:List D)(L:A9)(a b l h:Nat)(h1:l≤h)(h2:h≤xs.length):sl1 T pm s e xs (some (L,a,b)) (some l) (some h)=sl3 pm s e L a b l h (CW xs):=by
 simp only [sl1,h1,h2,and_self,if_true];rfl
theorem AGt(e:TypeId)(L:A9)(a b l h:Nat)(ys:List D)(hw:pm.wr (L.headD 0)=true):sl3 pm s e L a b l h (some ys)=some (.sl e ((ys.take h).drop l),s.set L (.sl e ys)):=by simp only [sl3];rw [if_pos hw]
theorem AGu(e:TypeId)(L:A9)(a b l h:Nat)(o:Option (List D))(hw:pm.wr (L.headD 0)=false):sl3 pm s e L a b l h o=some (.vs e L a b l (h-l),s):=by simp only [sl3];rw [if_neg (by rw [hw];decide)];rfl
theorem A8u(r:Nat):pm.see.rd r=pm.rd r:=nr rfl
theorem A8v(r:Nat):pm.see.wr r=false:=nr rfl
theorem AGv(u:Tmp):wrO pm (.tmp u)=pm.wr u:=nr rfl
def ct2(e:TypeId)(xs:List D)(s1:St):Option Nat→Option (D×St)
 | some h=>if h≤xs.length then some (.own e (xs.take h),s1)else none
 | none=>none
def ct1(T:Tys)(s:St)(e':TypeId)(hi:Option Operand):Option (D×St)→Option (D×St)
 | some (.own e xs,s1)=>
  match OP T s (T.len e xs) hi with
  | some h=>if e'=e∧T.known e=true∧h≤T.len e xs then some (.own e (xs.take (h*T.size e)),s1)else none
  | none=>none
 | _=>none
def ct0(T:Tys)(pm:Pm)(s:St)(t:TypeId)(x:Operand)(hi:Option Operand):Ty→Option (D×St)
 | .slice e=>ct1 T s e hi (if wrO pm x then take T pm s t x else none)
 | _=>none
theorem ctT(x:Operand)(hi:Option Operand):OT T pm s t x hi=ct0 T pm s t x hi (T.ty t):=by
 unfold OT ct0 ct1
 cases T.ty t<;>rfl
theorem AGw(x:Operand)(hi:Option Operand)(e:TypeId)(hw:wrO pm x=true):ct0 T pm s t x hi (.slice e)=ct1 T s e hi (take T pm s t x):=by
 unfold ct0;rw [if_pos hw]
theorem AGx(hi:Option Operand)(e:TypeId)(xs:List D)(s1:St)(hk:T.known e=true)(hz:T.isStruct e=false):ct1 T s e hi (some (.own e xs,s1))=ct2 e xs s1 (OP T s xs.length hi):=by
 have h1:=JV hz;simp only [ct1,hk,true_and,h1,Nat.mul_one,Tys.len,if_true]
 cases OP T s xs.length hi<;>rfl
theorem AGy(e:TypeId)(xs:List D)(s1:St)(h:Nat)(hle:h≤xs.length):ct2 e xs s1 (some h)=some (.own e (xs.take h),s1):=by
 show(if h≤xs.length then some (D.own e (xs.take h),s1)else none)=_
 rw [if_pos hle]
def cf2(e:TypeId)(xs:List D)(s1:St):Option Nat→Option (D×St)
 | some l=>if l≤xs.length then some (.own e (xs.drop l),s1)else none
 | none=>none
def cf1(T:Tys)(s:St)(e':TypeId)(lo:Option Operand):Option (D×St)→Option (D×St)
 | some (.own e xs,s1)=>
  match OP T s 0 lo with
  | some l=>if e'=e∧T.known e=true∧l≤T.len e xs then some (.own e (xs.drop (l*T.size e)),s1)else none
  | none=>none
 | _=>none
def cf0(T:Tys)(pm:Pm)(s:St)(t:TypeId)(x:Operand)(lo:Option Operand):Ty→Option (D×St)
 | .slice e=>cf1 T s e lo (if wrO pm x then take T pm s t x else none)
 | _=>none
theorem cfT(x:Operand)(lo:Option Operand):LY T pm s t x lo=cf0 T pm s t x lo (T.ty t):=by
 unfold LY cf0 cf1
 cases T.ty t<;>rfl
theorem AGz(x:Operand)(lo:Option Operand)(e:TypeId)(hw:wrO pm x=true):cf0 T pm s t x lo (.slice e)=cf1 T s e lo (take T pm s t x):=by
 unfold cf0;rw [if_pos hw]
theorem AH0(lo:Option Operand)(e:TypeId)(xs:List D)(s1:St)(hk:T.known e=true)(hz:T.isStruct e=false):cf1 T s e lo (some (.own e xs,s1))=cf2 e xs s1 (OP T s 0 lo):=by
 have h1:=JV hz;simp only [cf1,hk,true_and,h1,Nat.mul_one,Tys.len,if_true]
 cases OP T s 0 lo<;>rfl
theorem AH1(e:TypeId)(xs:List D)(s1:St)(l:Nat)(hle:l≤xs.length):cf2 e xs s1 (some l)=some (.own e (xs.drop l),s1):=by
 show(if l≤xs.length then some (D.own e (xs.drop l),s1)else none)=_
 rw [if_pos hle]
def ca0(f:FuncId):Option (List D×List (A9×D))→Option (D×List (A9×D))
 | some r=>some (.clo f r.1,r.2)
 | none=>none
theorem AH3(f:FuncId)(cs:List D)(ls:List (A9×D)):ca0 f (some (cs,ls))=some (.clo f cs,ls):=nr rfl
def ca2(pm:Pm)(s:St)(L:A9)(c:D)(rest:List D):Option D→Option (List D×List (A9×D))
 | some c'=>yK c' [(L,c)] (La pm s rest)
 | none=>none
theorem AH4(L:A9)(c:D)(rest:List D)(c':D):ca2 pm s L c rest (some c')=yK c' [(L,c)] (La pm s rest):=nr rfl
def ca1(pm:Pm)(s:St)(L:A9)(rest:List D):Option D→Option (List D×List (A9×D))
 | some c=>ca2 pm s L c rest (D8 c)
 | none=>none
theorem AH6(L:A9)(rest:List D)(c:D):ca1 pm s L rest (some c)=ca2 pm s L c rest (D8 c):=nr rfl
theorem caN:La pm s []=some ([],[]):=nr rfl
theorem caV(L:A9)(n m:Nat)(rest:List D):La pm s (.vw L n m::rest)=ca1 pm s L rest (s.look pm L n m):=by
 rw [La]
 cases s.look pm L n m with
 | none=>rfl
 | some c=>
  simp only [ca1,ca2]
  cases D8 c with
  | none=>rfl
  | some c'=>simp only [Option.bind_some];rcases La pm s rest with _ | ⟨a,b⟩<;>rfl
theorem caC(ys rest:List D):La pm s (.cptr ys::rest)=yK (.cptr ys) [] (La pm s rest):=by
 rw [La];rcases La pm s rest with _ | ⟨a,b⟩<;>rfl
theorem A8y(T:Tys)(L0:A9)(j:Nat)(f:FuncId)(caps:List D):Ju T false pm s j L0 (.ocl false f caps)=ca0 f (La pm s caps):=by
 show(if(false||false)=true then none else(La pm s caps).map fun r=>(D.clo f r.1,r.2))=_
 rw [if_neg (by decide)]
 unfold ca0;rcases La pm s caps with _ | ⟨a,b⟩<;>rfl
def va1(T:Tys)(e:TypeId)(L:A9)(lo len:Nat):Option D→Option (D×List (A9×D))
 | some (.own e' xs)=>
  if e'=e∧T.known e=true∧(lo+len)*T.size e≤xs.length then
   (CW xs).map fun ys=>(.sl e ((ys.drop (lo*T.size e)).take (len*T.size e)),[(L,.own e' xs)])
  else none
 | _=>none
theorem AH7(e:TypeId)(L L0:A9)(n m lo len j:Nat):Ju T false pm s j L0 (.vs e L n m lo len)=va1 T e L lo len (s.look pm L n m):=by
 show XH T pm s e L n m lo len=_
 unfold XH va1;rcases s.look pm L n m with _ | d
 ·rfl
 ·cases d<;>rfl
def va2(e:TypeId)(L:A9)(lo len:Nat)(xs:List D):Option (List D)→Option (D×List (A9×D))
 | some ys=>some (.sl e ((ys.drop lo).take len),[(L,.own e xs)])
 | none=>none
theorem AH9(e:TypeId)(L:A9)(l h:Nat)(xs:List D)(hk:T.known e=true)(hz:T.isStruct e=false)(h1:l≤h)(h2:h≤xs.length):va1 T e L l (h-l) (some (.own e xs))=va2 e L l (h-l) xs (CW xs):=by
 have h3:=JV hz;unfold va1;simp only [h3,Nat.mul_one];rw [if_pos ⟨trivial,hk,by omega⟩]
 cases CW xs<;>rfl
theorem AHA(e:TypeId)(L:A9)(lo len:Nat)(xs:List D)(hk:T.known e=true)(hz:T.isStruct e=false)(h1:lo+len≤xs.length):va1 T e L lo len (some (.own e xs))=va2 e L lo len xs (CW xs):=by
 have h3:=JV hz;unfold va1;simp only [h3,Nat.mul_one];rw [if_pos ⟨trivial,hk,h1⟩]
 cases CW xs<;>rfl
theorem AHB(e:TypeId)(L:A9)(lo len:Nat)(xs ys:List D):va2 e L lo len xs (some ys)=some (.sl e ((ys.drop lo).take len),[(L,.own e xs)]):=nr rfl
theorem A8z(x y:Tmp)(t':TypeId):Ka E pm s dst (.call ⟨.builtin .copy, #[.tmp x,.tmp y], #[t,t']⟩) ty=V8 dst (Nk E.T pm s t (.tmp x) (.tmp y) (s.v x) (s.v y)):=Li dst _
def xB(T:Tys)(pm:Pm)(s:St)(t:TypeId):Option (TypeId×A9×List D×Nat×Nat)→Option (TypeId×List D)→Option (D×St)
 | some (e,L,xs,lo,len),some (e',ys)=>
  if T.isSl t e&&(e==e')&&T.known e&&(T.size e==1)&& !AP xs&& !AP ys&&ys.all Bh&&pm.wr (L.headD 0)then
   some (.int .i64 (min len ys.length:Nat),s.set L (.own e (Bo xs lo (ys.take (min len ys.length)))))
  else none
 | _,_=>none
theorem AHC(x y:Operand)(a b:D):Nk T pm s t x y a b=xB T pm s t (QN pm s x a) (Tc pm s y b):=by
 unfold Nk xB;rcases QN pm s x a with _ | ⟨_,_,_,_,_⟩<;>rcases Tc pm s y b with _ | ⟨_,_⟩<;>rfl
theorem AHD(e:TypeId)(L:A9)(xs ys:List D)(lo len:Nat)(h1:T.isSl t e=true)(h2:T.known e=true)(h3:T.size e=1)(h4:AP xs=false)(h5:AP ys=false)(h6:ys.all Bh=true)(h7:pm.wr (L.headD 0)=true):
  xB T pm s t (some (e,L,xs,lo,len)) (some (e,ys))=some (.int .i64 (min len ys.length:Nat),s.set L (.own e (Bo xs lo (ys.take (min len ys.length))))):=by
 unfold xB;dsimp only;rw [if_pos (by rw [h1,h2,h3,h4,h5,h6,h7];simp)]
theorem A2f(x:Tmp):Ka E pm s dst (.call ⟨.builtin .clear, #[.tmp x], #[t]⟩) ty=V8 dst (L9 E.T pm s t (.tmp x) (s.v x)):=Li dst _
def xC(T:Tys)(pm:Pm)(s:St)(t:TypeId):Option (TypeId×A9×List D×Nat×Nat)→Option (D×St)
 | some (e,L,xs,lo,len)=>
  if T.isSl t e&&T.known e&&(T.size e==1)&& !T.isStruct e&&Bh (T.zero1 e)&&pm.wr (L.headD 0)then
   some (.tup [],(s.set L (.own e (Bo xs lo (List.replicate len (T.zero1 e))))).bump (L.headD 0))
  else none
 | none=>none
theorem AHE(x:Operand)(a:D):L9 T pm s t x a=xC T pm s t (QN pm s x a):=by
 unfold L9 xC;rcases QN pm s x a with _ | ⟨_,_,_,_,_⟩<;>rfl
theorem AHF(e:TypeId)(L:A9)(xs:List D)(lo len:Nat)(h1:T.isSl t e=true)(h2:T.known e=true)(h3:T.isStruct e=false)(h5:Bh (T.zero1 e)=true)(h7:pm.wr (L.headD 0)=true):
  xC T pm s t (some (e,L,xs,lo,len))=some (.tup [],(s.set L (.own e (Bo xs lo (List.replicate len (T.zero1 e))))).bump (L.headD 0)):=by
 have h8:=JV h3;unfold xC;dsimp only;rw [if_pos (by rw [h1,h2,h3,h5,h7,h8];simp)]
def A2g(e:TypeId):Ty→Bool
 | .slice e'=>e'==e
 | _=>false
theorem AHG(e:TypeId):T.isSl t e=A2g e (T.ty t):=by unfold Tys.isSl A2g;cases T.ty t<;>rfl
theorem AHH(e e':TypeId):A2g e (.slice e')=(e'==e):=nr rfl
def dv0:Option (TypeId×List D×Option (A9×Nat×Nat))→Option (TypeId×A9×List D×Nat×Nat)
 | some (e,xs,some (L,_,_))=>some (e,L,xs,0,xs.length)
 | _=>none
theorem AHJ(e:TypeId)(xs:List D)(L:A9)(a b:Nat):dv0 (some (e,xs,some (L,a,b)))=some (e,L,xs,0,xs.length):=nr rfl
theorem dvW(x:Operand)(L:A9)(n m:Nat):QN pm s x (.vw L n m)=dv0 (Bn pm s x (.vw L n m)):=by
 show(match Bn pm s x (.vw L n m)with | some (e,xs,some (L,_,_))=>some (e,L,xs,0,xs.length) | _=>none)=_
 rcases Bn pm s x (.vw L n m)with _ | ⟨_,_,_ | ⟨_,_,_⟩⟩<;>rfl
theorem dvO(x:Operand)(e:TypeId)(xs:List D):QN pm s x (.own e xs)=dv0 (Bn pm s x (.own e xs)):=by
 show(match Bn pm s x (.own e xs)with | some (e,xs,some (L,_,_))=>some (e,L,xs,0,xs.length) | _=>none)=_
 rcases Bn pm s x (.own e xs)with _ | ⟨_,_,_ | ⟨_,_,_⟩⟩<;>rfl
def dv1(e:TypeId)(L:A9)(lo len:Nat):Option D→Option (TypeId×A9×List D×Nat×Nat)
 | some (.own e' xs)=>if e'=e∧lo+len≤xs.length then some (e,L,xs,lo,len)else none
 | _=>none
theorem dvS(x:Operand)(e:TypeId)(L:A9)(n m lo len:Nat):QN pm s x (.vs e L n m lo len)=dv1 e L lo len (s.look pm L n m):=by
 show(match s.look pm L n m with | some (.own e' xs)=>if e'=e∧lo+len≤xs.length then some (e,L,xs,lo,len)else none | _=>none)=_
 rcases s.look pm L n m with _ | d
 ·rfl
 ·cases d<;>rfl
theorem AHL(e:TypeId)(L:A9)(lo len:Nat)(xs:List D)(h:lo+len≤xs.length):dv1 e L lo len (some (.own e xs))=some (e,L,xs,lo,len):=by simp [dv1,h]
def sv0:Option (TypeId×List D×Option (A9×Nat×Nat))→Option (TypeId×List D)
 | some (e,xs,_)=>some (e,xs)
 | _=>none
theorem AHN(e:TypeId)(xs:List D)(o:Option (A9×Nat×Nat)):sv0 (some (e,xs,o))=some (e,xs):=nr rfl
theorem svW(x:Operand)(L:A9)(n m:Nat):Tc pm s x (.vw L n m)=sv0 (Bn pm s x (.vw L n m)):=by
 show(Bn pm s x (.vw L n m)).map (fun r=>(r.1,r.2.1))=_
 rcases Bn pm s x (.vw L n m)with _ | ⟨_,_,_⟩<;>rfl
theorem svO(x:Operand)(e:TypeId)(xs:List D):Tc pm s x (.own e xs)=sv0 (Bn pm s x (.own e xs)):=by
 show(Bn pm s x (.own e xs)).map (fun r=>(r.1,r.2.1))=_
 rcases Bn pm s x (.own e xs)with _ | ⟨_,_,_⟩<;>rfl
theorem svL(x:Operand)(e:TypeId)(xs:List D):Tc pm s x (.sl e xs)=some (e,xs):=nr rfl
def sv1(e:TypeId)(lo len:Nat):Option D→Option (TypeId×List D)
 | some (.own e' xs)=>if e'=e∧lo+len≤xs.length then some (e,(xs.drop lo).take len)else none
 | _=>none
theorem svS(x:Operand)(e:TypeId)(L:A9)(n m lo len:Nat):Tc pm s x (.vs e L n m lo len)=sv1 e lo len (s.look pm L n m):=by
 show(match s.look pm L n m with | some (.own e' xs)=>if e'=e∧lo+len≤xs.length then some (e,(xs.drop lo).take len)else none | _=>none)=_
 rcases s.look pm L n m with _ | d
 ·rfl
 ·cases d<;>rfl
theorem AHP(e:TypeId)(lo len:Nat)(xs:List D)(h:lo+len≤xs.length):sv1 e lo len (some (.own e xs))=some (e,(xs.drop lo).take len):=by simp [sv1,h]
theorem AHQ(x:Tmp)(e:TypeId)(L:A9)(n m lo len:Nat):C8 s dst (.tmp x) (.vs e L n m lo len)=s.putO dst (.vs e L n m lo len):=nr rfl
theorem A90(x:Tmp)(e:TypeId)(L:A9)(n m lo len:Nat):Qq pm x (.vs e L n m lo len)=true:=by simp [Qq,D.hasObj]
theorem AHR(e:TypeId)(L:A9)(n m lo len:Nat):(D.vs e L n m lo len).hasObj=false:=by simp [D.hasObj]
theorem AHS(x:Operand)(d:D)(e:TypeId)(hk:T.known e=true):sl0 T pm s x d none (some (.const (.int .i64 0))) (some (.const (.int .i64 0))) (.slice e)=match Bn pm s x d with | some (e',_,_)=>if e=e' then some (.own e [],s)else none | none=>none:=by
 simp only [sl0];rcases Bn pm s x d with _ | ⟨e',xs,o⟩
 ·rfl
 ·simp only [OP,ev,Pp,Int.le_refl,if_true,Int.toNat_zero,Nat.zero_le,and_true,Option.isSome_some,true_and];by_cases he:e=e'
  ·subst he;simp [hk]
  ·simp [he]
end
theorem iR{P:Program}{T:Tys}{f:FuncId}{e:TypeId}{r:D}{outs:List D}(hk:T.known e=true)(h: ∀A c,Good P T f [.konst (.slice A 0 c)] [] r outs):Good P T f [.sl e []] [] r outs:=by
 refine⟨(h none 0).1,fun vs gh w S FL hsz hA hL hL0 hLd hlt=> ?_⟩
 obtain⟨v,hv,hW⟩:=hA 0 _ rfl
 obtain⟨A,c,rfl⟩: ∃A c,v= .slice A 0 c:=by
  cases hW with
  | sl us hE hn hc hm hx hw=>
   rename_i A n c
   have hp:=bW hk
   have:n=0:=by
    simp only [List.length_nil]at hn;rcases Nat.mul_eq_zero.1 hn.symm with h0 | h0
    ·exact h0
    ·omega
   subst this
   exact⟨_,_,rfl⟩
 refine(h A c).2 vs gh w S FL hsz (fun i d hi=> ?_) hL hL0 hLd hlt
 cases i with
 | zero=>simp at hi;subst hi;exact⟨_,hv,.konst (fun _ h=>h)⟩
 | succ i=>simp at hi
end Dv
namespace Dv
open Go
set_option maxRecDepth 10000
set_option linter.defProp false
theorem geq:G=100000:=nr rfl
def AC:=And.intro @ADb (And.intro @A8z (And.intro @A2f (And.intro @ADa (
 And.intro @ADe (
 And.intro @ADf (
 And.intro @ACp (
 And.intro @ACq (
 And.intro @A4s (
 And.intro @A4t (
 And.intro @A0v (
 And.intro @AG5 (
 And.intro @yMf (
 And.intro @A2c (
 And.intro @ACx (
 And.intro @A59 (
 And.intro @ACv (
 And.intro @A13 (
 And.intro @A5A (
 And.intro @A5D (
 And.intro @A14 (
 And.intro @A57 (
 And.intro @A58 (
 And.intro @ACu (
 And.intro @A15 (
 And.intro @A16 (
 And.intro @A17 (
 And.intro @ACz (
 And.intro @AD0 (
 And.intro @AD1 (
 And.intro @AD2 (
 And.intro @AD3 (
 And.intro @AD4 (
 And.intro @A5E (
 And.intro @A5F (
 And.intro @iC (
 And.intro @bf (
 And.intro @A69 (
 And.intro @wT (
 And.intro @qQ (
 And.intro @A1M (
 And.intro @A6A (
 And.intro @yUn (
 And.intro @A1N (
 And.intro @ADZ (
 And.intro @qR (
 And.intro @A1O (
 And.intro @wU (
 And.intro @A1P (
 And.intro @A6G (
 And.intro @qU (
 And.intro @A6I (
 And.intro @qE (
 And.intro @lu (
 And.intro @lm (
 And.intro @A2S (
 And.intro @yBs (@YZ)))))))))))))))))))))))))))))))))))))))))))))))))))))))))
def A7:=And.intro @AD6 (And.intro @ADC (And.intro @ADp (And.intro @ADq (And.intro @ADr (And.intro @ADl (And.intro AFn (And.intro @ADy (And.intro @ADz (And.intro @A1T (And.intro @A6V (And.intro @A1U (And.intro @rg8 (And.intro @rg9 (And.intro @AGF (And.intro @AGG (And.intro @AGH (And.intro @AFG (And.intro @AFH (And.intro @AFI (And.intro @AFJ (And.intro @A1j (And.intro @AEK (And.intro @AEL (And.intro @A1k (And.intro @faE (And.intro @foN (And.intro @AFw (And.intro @AFx (And.intro @A8a (And.intro @A2T (And.intro @AG0 (And.intro @AG1 (And.intro (And.intro @fnO @fnA) (And.intro @spN (And.intro @spC (And.intro @cfT (And.intro @AGz (And.intro @AH0 (And.intro @AH1 (And.intro @A5K (And.intro @AGY (And.intro @cvE (And.intro @AGZ (And.intro @AGa (And.intro @umN (And.intro @umC (And.intro @ceN (And.intro @ceT (And.intro @AGc (And.intro @AGd (And.intro @AGe (And.intro @AGf (And.intro @utV (And.intro @utC (And.intro @ldO (And.intro @coE (And.intro @AGh (And.intro @AGi (And.intro @AGj (And.intro @AGl (And.intro @oaN (And.intro @oaV (And.intro @oaC (And.intro @oaU (And.intro @saU (And.intro @saV (And.intro @saC (And.intro @AGm (And.intro @ADW (And.intro @ADX (And.intro @ADY (And.intro @AHE (And.intro @AHF (And.intro @ACo (And.intro @ADS (And.intro @wZ (And.intro @A1i (And.intro @AEI (And.intro @AEJ (And.intro @A78 (And.intro @AEM (And.intro @A6R (And.intro @A1S (And.intro @A6T (And.intro @A1V (And.intro @A6W (And.intro @A6X (And.intro @A6Y (And.intro @A1W (And.intro @A6Z (And.intro @A6a (And.intro @A6b (And.intro @A6c (And.intro @AGu (And.intro @ADR (And.intro @ADT (
 And.intro @A8u (
 And.intro @A8v (
 And.intro @AGv (
 And.intro @ctT (
 And.intro @AGw (
 And.intro @AGx (
 And.intro @AGy (
 And.intro (And.intro @AH7 (And.intro @A8y (And.intro @AH3 (And.intro @AH6 (And.intro @AH4 (And.intro @caN (And.intro @caV @caC))))))) (
 And.intro @AH9 (
 And.intro @AHA (
 And.intro @AHB (
 And.intro @A7R (
 And.intro @A1r (
 And.intro @A7S (
 And.intro @AEh (
 And.intro @A7T (
 And.intro @A1s (
 And.intro @axK (
 And.intro @A7U (
 And.intro @A7V (
 And.intro @AEi (
 And.intro @A7W (
 And.intro @AHC (
 And.intro @AHD (
 And.intro @AHG (
 And.intro @AHH (
 And.intro @AHJ (
 And.intro @dvW (
 And.intro @dvO (
 And.intro @dvS (
 And.intro @AHL (
 And.intro @AHN (
 And.intro @svW (
 And.intro @svO (
 And.intro @svL (
 And.intro @svS (
 And.intro @AHP (
 And.intro @AHQ (
 And.intro @A90 (
 And.intro @AHR (
 And.intro @ADE (
 And.intro @ADF (
 And.intro @ADG (
 And.intro @A5d (
 And.intro @A5e (
 And.intro @A5f (
 And.intro @A5g (
 And.intro @ADH (
 And.intro @tqU (
 And.intro @A5h (
 And.intro @A1H (
 And.intro @A5i (
 And.intro @ADI (
 And.intro @A5j (
 And.intro @A5k (
 And.intro @A5l (
 And.intro @A5m (
 And.intro @A84 (
 And.intro @A85 (
 And.intro @A2A (
 And.intro @A86 (
 And.intro @AF4 (
 And.intro @A87 (
 And.intro @A88 (
 And.intro @A89 (
 And.intro @A8A (
 And.intro @AF5 (
 And.intro @bkK (
 And.intro @A8c (
 And.intro @A2X (
 And.intro @A8d (
 And.intro (And.intro @A2Y @AG6) (
 And.intro @A8e (
 And.intro @AG7 (
 And.intro @A8f (
 And.intro @A4u (
 And.intro @A4v (
 And.intro @ACr (
 And.intro @ACs (
 And.intro @ACt (
 And.intro @A4w (
 And.intro @ndK (
 And.intro @ADg (
 And.intro @A6E (
 And.intro @ADh (
 And.intro @apK (
 And.intro @A7O (
 And.intro @AEZ (
 And.intro @AEa (
 And.intro @A7j (
 And.intro @A7k (
 And.intro @A20 (
 And.intro @dl2 (
 And.intro @dl1 (
 And.intro @AGM (
 And.intro @A8l (
 And.intro @A2a (
 And.intro @A8m (
 And.intro @AGK (
 And.intro @AGL (
 And.intro @A8n (
 And.intro @A8k (
 And.intro @AG8 (
 And.intro @AG9 (
 And.intro @AGB (
 And.intro @A8g (
 And.intro @AGC (
 And.intro @AGD (
 And.intro @AGE (
 And.intro @csS (
 And.intro @rg1 (
 And.intro @rg2 (
 And.intro @rg3 (
 And.intro @rg4 (
 And.intro @rg5 (
 And.intro @rg6 (
 And.intro @rg7 (
 And.intro @A8h (
 And.intro @A2Z (
 And.intro @A8i (
 And.intro @AGI (
 And.intro @A8j (
 And.intro @AGJ (
 And.intro @noA (
 And.intro @AGN (
 And.intro @AGO (
 And.intro @A2b (
 And.intro @AGP (
 And.intro @AGQ (
 And.intro @AGR (
 And.intro @A8p (
 And.intro @A8q (
 And.intro @AGT (
 And.intro @AGU (
 And.intro @AGV (
 And.intro @AGW (
 And.intro @AGX (
 And.intro @mP (
 And.intro @bnN (
 And.intro @bnS (
 And.intro @AGo (
 And.intro @slT (
 And.intro @AGp (
 And.intro @AHS (
 And.intro @AGq (
 And.intro @AGr (
 And.intro @AGs (
 And.intro @AGt (
 And.intro @A8B (
 And.intro @bkT (
 And.intro @bkF (
 And.intro @bkE (
 And.intro @bkL (
 And.intro @A8C (
 And.intro @A2B (
 And.intro @ipC (
 And.intro @ipN (
 And.intro @ipE (
 And.intro @ieC (
 And.intro @ieN (
 And.intro @fiA (
 And.intro @fiB (
 And.intro @fiC (
 And.intro @fiE (
 And.intro @A27 (
 And.intro @A28 (
 And.intro @AEz (
 And.intro @A80 (
 And.intro @AEN (
 And.intro @AEO (
 And.intro @AEP (
 And.intro @AEQ (
 And.intro @bxA (
 And.intro @AES (
 And.intro @hdC (
 And.intro @AEe (
 And.intro @AEf (
 And.intro @AEg (
 And.intro @mvT (
 And.intro @AF8 (
 And.intro @AF9 (
 And.intro @A2D (
 And.intro @wh (
 And.intro @A2E (
 And.intro @A8E (
 And.intro @A2F (
 And.intro @A2G (
 And.intro @A8F (
 And.intro @A8G (
 And.intro @AFA (
 And.intro @A2H (
 And.intro @wm (
 And.intro @A2I (
 And.intro @A2J (
 And.intro @qX (
 And.intro @A2K (
 And.intro @wo (
 And.intro @A8H (
 And.intro @wu (
 And.intro @AFB (
 And.intro @A2L (
 And.intro @ww (
 And.intro @A8I (
 And.intro @AFC (
 And.intro @A2M (
 And.intro @AFD (
 And.intro @AFE (
 And.intro @AFF (
 And.intro @AFK (
 And.intro @AFL (
 And.intro @AFM (
 And.intro @A2N (
 And.intro @pmR (
 And.intro @pmW (
 And.intro @ACw (
 And.intro @A5B (
 And.intro @ACy (
 And.intro @ACk (
 And.intro @ACl (
 And.intro @ACm (
 And.intro @AFy (
 And.intro @AFt (And.intro @AFs (And.intro @AFu (And.intro @AFv (
 And.intro @AFq (
 And.intro (And.intro @AG2 @yMk) (
 And.intro (And.intro @A8b @AG3) (
 And.intro @AG4 (
 And.intro @A8W (
 And.intro @A8X (
 And.intro @A0w (
 And.intro @A0x (
 And.intro @wJ (
 And.intro @A0y (
 And.intro @A0z (
 And.intro @wK (
 And.intro @A5G (
 And.intro @A18 (
 And.intro @A5H (
 And.intro @AD5 (
 And.intro @wO (
 And.intro @A5I (
 And.intro @A5J (
 And.intro @AD7 (
 And.intro @AD8 (
 And.intro @A19 (
 And.intro @A5L (
 And.intro @A5M (
 And.intro @A5N (
 And.intro @A1A (
 And.intro @A5O (
 And.intro @A5P (
 And.intro @A1B (
 And.intro @A5Q (
 And.intro @AD9 (
 And.intro @wP (
 And.intro @wQ (
 And.intro @A5R (
 And.intro @A5S (
 And.intro @ADA (
 And.intro @A5T (
 And.intro @A1C (
 And.intro @wR (
 And.intro @A1D (
 And.intro @A5U (
 And.intro @qL (
 And.intro @qM (
 And.intro @A5V (
 And.intro @A1E (
 And.intro @A1F (
 And.intro @A5W (
 And.intro @A5X (
 And.intro @A1G (
 And.intro @A5Y (
 And.intro @ADB (
 And.intro @wS (
 And.intro @A5Z (
 And.intro @A5a (
 And.intro @A5b (
 And.intro @A5c (
 And.intro @ADJ (
 And.intro @A1I (
 And.intro @A5n (
 And.intro @A5o (
 And.intro @A5p (
 And.intro @pkB (
 And.intro @pkT (
 And.intro @pkF (
 And.intro @A4p (
 And.intro @A4q (
 And.intro @A4r (
 And.intro @ADd (
 And.intro @A6C (
 And.intro @A6D (
 And.intro @ADi (
 And.intro @ADj (
 And.intro @ADn (
 And.intro @ADo (
 And.intro @A5q (
 And.intro @A5r (
 And.intro @A5s (
 And.intro @A5t (
 And.intro @A5u (
 And.intro @A5v (
 And.intro @ADK (
 And.intro @A5w (
 And.intro @qN (
 And.intro @A5x (
 And.intro @A5y (
 And.intro @ADL (
 And.intro @ADM (
 And.intro @ADN (
 And.intro @ADO (
 And.intro @ADP (
 And.intro @ADQ (
 And.intro @A5z (
 And.intro @A60 (
 And.intro @A61 (
 And.intro @A62 (
 And.intro @A63 (
 And.intro @A1J (
 And.intro @A64 (
 And.intro @A65 (
 And.intro @boI (
 And.intro @boS (
 And.intro @boB (
 And.intro @boA (
 And.intro @A1K (
 And.intro @A66 (
 And.intro @A67 (
 And.intro @A68 (
 And.intro @ldC (
 And.intro @ADs (
 And.intro @ldP (
 And.intro @ADt (
 And.intro @ldB (
 And.intro @ADu (
 And.intro @ldV (
 And.intro @ADv (
 And.intro @A6J (
 And.intro @A6L (
 And.intro @A1Q (
 And.intro @A1R (
 And.intro @A6M (
 And.intro @ADw (
 And.intro @A6N (
 And.intro @ADx (
 And.intro @A6P (
 And.intro @A6Q (
 And.intro @lnT (
 And.intro @AE0 (
 And.intro @A6d (
 And.intro @A6e (
 And.intro @ixT (
 And.intro @AE2 (
 And.intro @AFo (
 And.intro @A8T (
 And.intro @AFp (
 And.intro @A8U (
 And.intro @wX (
 And.intro @iI (
 And.intro @cK (
 And.intro @iJ (
 And.intro @wz (
 And.intro @qi (
 And.intro @iL (
 And.intro @mJ (
 And.intro @iM (
 And.intro @Yb (
 And.intro @Nz (
 And.intro @A2Q (
 And.intro @x8 (
 And.intro @qg (
 And.intro @ql (
 And.intro @cB (
 And.intro @qh (
 And.intro @A6f (
 And.intro @tkC (
 And.intro @A6m (
 And.intro @A1c (
 And.intro @A6n (
 And.intro @AE7 (
 And.intro @A6o (
 And.intro @A6p (
 And.intro @A6q (
 And.intro @A1d (
 And.intro @AE8 (
 And.intro @A6r (
 And.intro @A6g (
 And.intro @A1Z (
 And.intro @A6h (
 And.intro @AE3 (
 And.intro @A6i (
 And.intro @A6j (
 And.intro @A6k (
 And.intro @A1a (
 And.intro @AE4 (
 And.intro @yE (
 And.intro @AE5 (
 And.intro @AE6 (
 And.intro @A1b (
 And.intro @wY (
 And.intro @A1e (
 And.intro @kE (
 And.intro @hoI (
 And.intro @hoB (
 And.intro @hoS (
 And.intro @A6s (
 And.intro @A6t (
 And.intro @A6u (
 And.intro @A6v (
 And.intro @A1f (
 And.intro @AE9 (
 And.intro @AEA (
 And.intro @hoK (
 And.intro @hoU (
 And.intro @A6w (
 And.intro @A6x (
 And.intro @A6y (
 And.intro @AEC (
 And.intro @A6z (
 And.intro @AED (
 And.intro @AEE (
 And.intro @AEF (
 And.intro @AEG (
 And.intro @A70 (
 And.intro @A71 (
 And.intro @A72 (
 And.intro @A73 (
 And.intro @A74 (
 And.intro @A75 (
 And.intro @A76 (
 And.intro @A77 (
 And.intro @A1g (
 And.intro @AET (
 And.intro @A79 (
 And.intro @A7A (
 And.intro @A7B (
 And.intro @A7C (
 And.intro @A7D (
 And.intro @A1l (
 And.intro @A7E (
 And.intro @AEU (
 And.intro @A7F (
 And.intro @A7G (
 And.intro @A7H (
 And.intro @A1m (
 And.intro @ceS (
 And.intro @A7I (
 And.intro @A1n (
 And.intro @A7J (
 And.intro (And.intro @A1o @AEV) (
 And.intro @A7K (
 And.intro @AEW (
 And.intro @A7L (
 And.intro @AEX (
 And.intro @AEc (
 And.intro @AEd (
 And.intro @A1p (
 And.intro @A1q (
 And.intro @A7P (
 And.intro @A7Q (
 And.intro @arC (
 And.intro @arF (
 And.intro @aCS (
 And.intro @A7X (
 And.intro @A1t (
 And.intro @A7Y (
 And.intro @AEj (
 And.intro @A7Z (
 And.intro @A1u (
 And.intro @atK (
 And.intro @A7b (
 And.intro @A7c (
 And.intro @AEn (
 And.intro @A1v (
 And.intro @A1w (
 And.intro @A7d (
 And.intro @A7e (
 And.intro @AEk (
 And.intro @AEm (
 And.intro @AEo (
 And.intro @AEp (
 And.intro @A1x (
 And.intro @A7f (
 And.intro @A1y (
 And.intro @A7g (
 And.intro @A1z (
 And.intro @A7h (
 And.intro @AEq (
 And.intro @A7i (
 And.intro @AEr (
 And.intro @A7l (
 And.intro @cdB (
 And.intro @AEs (
 And.intro @AEt (
 And.intro @AEu (
 And.intro @cdL (
 And.intro @AEv (
 And.intro @AEw (
 And.intro @A7m (
 And.intro @A22 (
 And.intro @A7n (
 And.intro @yG (
 And.intro @A7o (
 And.intro @A7p (
 And.intro @A7q (
 And.intro @A23 (
 And.intro @kF (
 And.intro @A7r (
 And.intro @A24 (
 And.intro @A7s (
 And.intro @A7t (
 And.intro @A7u (
 And.intro @A25 (
 And.intro @A7w (
 And.intro @qW (
 And.intro @A7x (
 And.intro @A7y (
 And.intro @A7z (
 And.intro @A26 (
 And.intro @AEx (
 And.intro @UD (
 And.intro @AEy (
 And.intro @fiD (
 And.intro @fi0 (
 And.intro @re0 (
 And.intro @re1 (
 And.intro @re2 (
 And.intro @AF0 (
 And.intro @A81 (
 And.intro @A82 (
 And.intro @AF1 (
 And.intro @A29 (
 And.intro @AF2 (
 And.intro @AF3 (
 And.intro @A83 (
 And.intro @A8D (
 And.intro @A2C (
 And.intro @AF7 (
 And.intro @CP (
 And.intro @qO (
 And.intro @V9 (
 And.intro @bi (
 And.intro @bn (
 And.intro @iG (
 And.intro @A4x (
 And.intro @A50 (
 And.intro @A10 (
 And.intro @A53 (
 And.intro @A4y (
 And.intro @A51 (
 And.intro @A11 (
 And.intro @A54 (
 And.intro @A4z (
 And.intro @A52 (
 And.intro @A12 (
 And.intro @A55 (
 And.intro @mD (
 And.intro @mE (
 And.intro @A56 (
 And.intro @mF (
 And.intro @qJ (
 And.intro @wL (
 And.intro @wM (
 And.intro @wN (
 And.intro @geq (
 And.intro @Int.toNat_natCast (
 And.intro @Int.toNat_zero (
 And.intro @Int.natCast_nonneg (
 And.intro @Nat.zero_le (
 And.intro @Int.le_refl (
 And.intro @Nat.le_refl (
 And.intro @Bool.and_true (
 And.intro @Bool.true_and (
 And.intro @Bool.and_false (
 And.intro @Bool.false_and (
 And.intro @Bool.or_false (
 And.intro @Bool.false_or (
 And.intro @Bool.or_true (
 And.intro @Bool.true_or (
 And.intro @Bool.not_true (
 And.intro @Bool.not_false (
 And.intro @Bool.false_eq_true (
 And.intro @decide_true (
 And.intro @decide_false (
 And.intro @and_self (
 And.intro @and_true (@true_and))))))))))))))))))))))))))))))))))))))))))))))))))))))))))))))))))))))))))))))))))))))))))))))))))))))))))))))))))))))))))))))))))))))))))))))))))))))))))))))))))))))))))))))))))))))))))))))))))))))))))))))))))))))))))))))))))))))))))))))))))))))))))))))))))))))))))))))))))))))))))))))))))))))))))))))))))))))))))))))))))))))))))))))))))))))))))))))))))))))))))))))))))))))))))))))))))))))))))))))))))))))))))))))))))))))))))))))))))))))))))))))))))))))))))))))))))))))))))))))))))))))))))))))))))))))))))))))))))))))))))))))))))))))))))))))))))))))))))))))))))))))))))))))))))))))))))))))))))))))))))))))))))))))))))))))))))))))))))))))))))))))))))))))))))))))))))))))))))))))))))))))
end Dv
