/- Value semantics for Go code, part 4: arguments of laws, slim code and rules. Conditions: none beyond those in each lemma. -/
import Derived.Test.YtipfckompmhljaaL3
import Derived.WalkKit
import Derived.ProofKit
import Derived.OpenShut
import Derived.ShutString
import Derived.ChangeOld
import Derived.Below
import Derived.Carry
import Derived.IntWalk
set_option linter.unusedSimpArgs false
set_option linter.unusedVariables false
namespace Dv
open Go
inductive Shp(T:Tys):TypeId→List D→Prop
 | int {t k n} (ht:T.ty t= .int k) (hw:(Lit.int k n).wf=true):Shp T t [.int k n]
 | bool {t b} (ht:T.ty t= .bool):Shp T t [.bool b]
 | string {t s} (ht:T.ty t= .string) (hs:s.size≤maxLen):Shp T t [.str s]
 | slice {t e} {xss:List (List D)} (ht:T.ty t= .slice e) (hx: ∀xs,xs∈xss→Shp T e xs) (hl:xss.length≤maxLen):Shp T t [.sl e xss.flatten]
 | struct {t fs} {ds:List D} (ht:T.ty t= .struct fs) (hl:ds.length=fs.length) (hx: ∀(i:Nat) (f:TypeId) (d:D),fs[i]? =some f→ds[i]? =some d→Shp T f [d]):Shp T t ds
def QC(T:Tys):Nat→TypeId→Bool
 | 0,_=>false
 | n+1,t=>match T.ty t with
  | .int _=>true
  | .bool=>true
  | .string=>true
  | .slice e=>T.known e&&QC T n e
  | .struct fs=>(T.nest t).isNone&& !fs.isEmpty&&fs.all (QC T n)
  | _=>false
theorem Shp.length{T:Tys}{t:TypeId}{ds:List D}(h:Shp T t ds):ds.length=T.size t:=by
 cases h with
 | int ht=>simp [Tys.size,ht,Ty.size]
 | bool ht=>simp [Tys.size,ht,Ty.size]
 | string ht=>simp [Tys.size,ht,Ty.size]
 | slice ht=>simp [Tys.size,ht,Ty.size]
 | struct ht hl=>simp [Tys.size,ht,Ty.size,hl]
theorem aF{α:Type}{n:Nat}(hn:0<n): ∀(xss:List (List α)),(∀xs∈xss,xs.length=n)→ ∀k:Nat,xss.flatten[k]? =(xss[k / n]?).bind fun xs=>xs[k % n]? :=by
 intro xss
 induction xss with
 | nil=>intro _ k;simp
 | cons xs xss ih=>
  intro h k;have hx:=h xs (List.mem_cons_self);rw [List.flatten_cons];rcases Nat.lt_or_ge k n with hk | hk
  ·rw [List.getElem?_append_left (by omega),Nat.div_eq_of_lt hk,Nat.mod_eq_of_lt hk];rfl
  ·rw [List.getElem?_append_right (by omega),ih (fun ys hy=>h ys (List.mem_cons_of_mem _ hy)),hx]
   have h1:k / n=(k-n) / n+1:=by
    rw [Nat.div_eq_sub_div hn hk]
   have h2:k % n=(k-n) % n:=by rw [Nat.mod_eq_sub_mod hk]
   rw [h1,h2];rfl
theorem UG{α:Type}{n:Nat}: ∀(xss:List (List α)),(∀xs∈xss,xs.length=n)→xss.flatten.length=xss.length*n:=by
 intro xss
 induction xss with
 | nil=>intro _;simp
 | cons xs xss ih=>
  intro h;rw [List.flatten_cons,List.length_append,ih (fun ys hy=>h ys (List.mem_cons_of_mem _ hy)),h xs (List.mem_cons_self),List.length_cons,Nat.add_mul];omega
abbrev iV(w:World):Nat→Prop:=fun k=>k<w.heap.size
section
variable {P:Program} {T:Tys} {H:Type} {enc:TypeId×Value→H} {w:World} {spare:Nat→Bool} {IB:Bool}
theorem Br.cells(h:Br P T){t:TypeId}(hk:T.known t=true):P.cellsOf t=T.size t:=by
 obtain⟨i,h1,h2,_⟩:=h.info hk;simp [Program.cellsOf,h1,h2]
theorem eP{n:Nat}{t:TypeId}(h:QC T n t=true):T.known t=true:=by
 cases n with
 | zero=>cases h
 | succ n=>
  unfold QC at h;unfold Tys.known
  cases ht:T.ty t with
  | struct fs=>
   rw [ht]at h
   cases fs with
   | nil=>simp at h
   | cons=>rfl
  | other=>rw [ht]at h;cases h
  | map=>rw [ht]at h;cases h
  | _=>rfl
theorem aG{t:TypeId}(hk:T.known t=true):0<T.size t:=by
 unfold Tys.known at hk;unfold Tys.size
 cases ht:T.ty t with
 | struct fs=>
  rw [ht]at hk
  cases fs with
  | nil=>cases hk
  | cons=>simp [Ty.size]
 | _=>simp [Ty.size]
theorem eQ{base:Nat}{a:Addr}{n:Nat}{cs:List Value}(h:w.cells? base a n=some cs):cs.length=n∧ ∀i,i<n→w.cell? (a.add i)=cs[i]? :=by
 unfold World.cells? at h
 split at h
 ·exact⟨by simpa using mapM_some_length h,fun i hi=>by have:=mapM_some_get h i i (by simp [hi]);simpa using this⟩
 ·cases h
theorem tQ{ad:Addr}{v:Value}(h:w.cell? ad=some v):ad.block<w.heap.size:=by
 rcases Nat.lt_or_ge ad.block w.heap.size with hl | hl
 ·exact hl
 ·have h1:=Array.getElem?_eq_none hl;simp [World.cell?,h1]at h
theorem nE(hT:Br P T): ∀(fuel:Nat) (n:Nat) (t:TypeId) (cs:List Value) (x:DataW H×List MemPlace),QC T n t=true→DataW.trod enc P w 0 spare IB fuel t cs=some x→
  ∃ds,Shp T t ds∧cs.length=ds.length∧ ∀(i:Nat) (d:D),ds[i]? =some d→ ∃v,cs[i]? =some v∧W T (iV w) w V0 IW d v (fun _=>False):=by
 have hE:Em (fun _:Nat=>False):=fun _ h=>h
 have one: ∀(d0:D) (v0:Value),W T (iV w) w V0 IW d0 v0 (fun _=>False)→ ∀(i:Nat) (d:D),[d0][i]? =some d→ ∃v,[v0][i]? =some v∧W T (iV w) w V0 IW d v (fun _=>False):=by
  intro d0 v0 h i d hi
  cases i with
  | zero=>simp at hi;subst hi;exact⟨v0,rfl,h⟩
  | succ i=>simp at hi
 intro fuel
 induction fuel with
 | zero=>intro n t cs x _ h;simp [DataW.trod]at h
 | succ fuel ih=>
  intro n t cs x hd h;have hk:=eP hd;have h0:=(hT t).1;unfold FR at h0
  cases n with
  | zero=>cases hd
  | succ n=>
   unfold QC at hd
   cases ht:T.ty t<;>rw [ht]at h0 hd<;>simp only at h0 hd
   case int k=>
    obtain⟨m,rfl,_,hw⟩:=DataW.trod_int h0.1 h
    exact⟨[.int k m],.int ht hw,rfl,one _ _ (.int hE)⟩
   case bool=>
    obtain⟨b,rfl,_⟩:=DataW.trod_bool h0.1 h
    exact⟨[.bool b],.bool ht,rfl,one _ _ (.bool hE)⟩
   case string=>
    obtain⟨s,rfl,_,hs⟩:=DataW.trod_string h0.1 h
    exact⟨[.str s],.string ht hs,rfl,one _ _ (.str hE)⟩
   case slice e=>
    simp only [Bool.and_eq_true]at hd;have hc:=hT.cells hd.1;have hpos:=aG hd.1;rcases DataW.trod_slice h0.1 h with⟨rfl,_⟩ | ⟨a,len,cap,elems,rest,m,hm,rfl,_,_,hl,hcap,hlen,hel,_,_⟩
    ·exact⟨[.sl e ([]:List (List D)).flatten],.slice ht (by simp) (by simp [maxLen]),rfl,one _ _ (.sl (fun _=>undef) hE (by simp) (Nat.le_refl _) (by simp [maxLen]) (by simp) (by simp))⟩
    ·injection hm with hm
     subst hm
     have hex: ∀i,i<len→ ∃ds,Shp T e ds∧ ∀(j:Nat) (d:D),ds[j]? =some d→ ∃v,w.cell? (a.add (i*T.size e+j))=some v∧W T (iV w) w V0 IW d v (fun _=>False):=by
      intro i hi;have h1:=hel i hi;rw [List.getElem?_eq_getElem (by omega),Option.bind_eq_some_iff]at h1
      obtain⟨cs',h2,h3⟩:=h1;obtain⟨ds,q1,q2,q3⟩:=ih n e cs' _ hd.2 h3
      refine⟨ds,q1,fun j d hj=> ?_⟩
      obtain⟨v,hv,hW⟩:=q3 j d hj;obtain⟨c1,c2⟩:=eQ h2;rw [hc]at c1 c2;have hj':j<T.size e:=by rw [←c1];exact(List.getElem?_eq_some_iff.1 hv).1
      have h4:=c2 j hj';rw [Jn]at h4
      exact⟨v,by rw [h4,hv],hW⟩
     let ch:Nat→List D:=fun i=>if h:i<len then(hex i h).choose else []
     have hch: ∀i,i<len→Shp T e (ch i)∧ ∀(j:Nat) (d:D),(ch i)[j]? =some d→ ∃v,w.cell? (a.add (i*T.size e+j))=some v∧W T (iV w) w V0 IW d v (fun _=>False):=by
      intro i hi;have:=(hex i hi).choose_spec
      simp only [ch,hi,dif_pos];exact this
     have hall: ∀xs∈(List.range len).map ch,xs.length=T.size e:=by
      intro xs hxs;obtain⟨i,hi,rfl⟩:=List.mem_map.1 hxs
      exact(hch i (List.mem_range.1 hi)).1.length
     refine⟨[.sl e ((List.range len).map ch).flatten],.slice ht (fun xs hxs=> ?_) (by simp;omega),rfl,one _ _ ?_⟩
     ·obtain⟨i,hi,rfl⟩:=List.mem_map.1 hxs
      exact(hch i (List.mem_range.1 hi)).1
     ·have key: ∀(i:Nat) (x:D),((List.range len).map ch).flatten[i]? =some x→ ∃v,w.cell? (a.add i)=some v∧W T (iV w) w V0 IW x v (fun _=>False):=by
       intro i x hi;rw [aF hpos _ hall,Option.bind_eq_some_iff]at hi;obtain⟨xs,h1,h2⟩:=hi;rw [List.getElem?_map,Option.map_eq_some_iff]at h1;obtain⟨q,hq,rfl⟩:=h1;obtain⟨hq1,hq2⟩:=List.getElem?_eq_some_iff.1 hq;simp only [List.getElem_range]at hq2;subst hq2;obtain⟨v,hv,hW⟩:=(hch _ (by simpa using hq1)).2 _ x h2
       rw [show i / T.size e*T.size e+i % T.size e=i by rw [Nat.mul_comm];exact Nat.div_add_mod i (T.size e)]at hv
       exact⟨v,hv,hW⟩
      refine .sl (fun i=>(w.cell? (a.add i)).getD undef) hE (by rw [UG _ hall];simp) hl hcap (fun i x hi=> ?_) (fun i x hi=> ?_)
      ·obtain⟨v,hv,_⟩:=key i x hi
       exact⟨a,rfl,by have:=tQ hv;rw [MN]at this;exact this,by rw [hv];rfl⟩
      ·obtain⟨v,hv,hW⟩:=key i x hi;simp only [hv,Option.getD_some];exact hW
   case struct fs=>
    simp only [Bool.and_eq_true,List.all_eq_true,Option.isNone_iff_eq_none]at hd;obtain⟨⟨fields,hu,hfx⟩,hinfo⟩:=h0;rw [hd.1.1]at hfx;obtain⟨hfl,hfi⟩:=hfx;obtain⟨xs,m,hm,_,hcl,hxl,hx⟩:=DataW.trod_struct hu h
    injection hm with hm
    subst hm;rw [hT.cells hk]at hcl;have hsz:T.size t=fs.length:=by simp [Tys.size,ht,Ty.size]
    have hex: ∀i,i<fs.length→ ∃d f,fs[i]? =some f∧Shp T f [d]∧ ∃v,cs[i]? =some v∧W T (iV w) w V0 IW d v (fun _=>False):=by
     intro i hi;have hif:i<fields.size:=by omega
     obtain⟨f1,f2,f3,f4⟩:=hfi i _ (Array.getElem?_eq_getElem hif);have h1:=hx i _ (Array.getElem?_eq_getElem hif)
     have hs1:T.size fields[i].type=1:=by
      unfold Tys.isStruct at f4;unfold Tys.size
      cases hty:T.ty fields[i].type<;>simp_all [Ty.isStruct,Ty.size]
     rw [f1,hT.cells f3,hs1,List.getElem?_eq_getElem (by omega)]at h1
     obtain⟨ds,q1,q2,q3⟩:=ih n _ _ _ (hd.2 _ (List.mem_of_getElem? f2)) h1;have hl1:ds.length=1:=by rw [q1.length,hs1]
     obtain⟨d,rfl⟩:=List.length_eq_one_iff.1 hl1;obtain⟨v,hv,hW⟩:=q3 0 d rfl
     refine⟨d,_,f2,q1,v, ?_,hW⟩
     rw [List.getElem?_take]at hv;simp only [Nat.zero_lt_one,if_true,List.getElem?_drop,Nat.add_zero]at hv;exact hv
    let ch:Nat→D:=fun i=>if h:i<fs.length then(hex i h).choose else .undef
    have hch: ∀i,i<fs.length→ ∃f,fs[i]? =some f∧Shp T f [ch i]∧ ∃v,cs[i]? =some v∧W T (iV w) w V0 IW (ch i) v (fun _=>False):=by
     intro i hi;have:=(hex i hi).choose_spec
     simp only [ch,hi,dif_pos];exact this
    have hget: ∀(i:Nat) (d:D),((List.range fs.length).map ch)[i]? =some d→i<fs.length∧d=ch i:=by
     intro i d hi;rw [List.getElem?_map,Option.map_eq_some_iff]at hi;obtain⟨q,hq,rfl⟩:=hi;obtain⟨hq1,hq2⟩:=List.getElem?_eq_some_iff.1 hq;simp only [List.getElem_range]at hq2;subst hq2
     exact⟨by simpa using hq1,rfl⟩
    refine⟨(List.range fs.length).map ch,.struct ht (by simp) (fun i f d hf hi=> ?_),by simp;omega,fun i d hi=> ?_⟩
    ·obtain⟨h1,rfl⟩:=hget i d hi;obtain⟨f',hf',hs,_⟩:=hch i h1;rw [hf]at hf';injection hf' with hf';subst hf';exact hs
    ·obtain⟨h1,rfl⟩:=hget i d hi;obtain⟨f',hf',hs,v,hv,hW⟩:=hch i h1
     exact⟨v,hv,hW⟩
   all_goals (cases hd)
def top(T:Tys)(t:TypeId)(ds:List D):D:=if T.isStruct t then .agg ds else ds.headD .undef
def Arg(T:Tys)(t:TypeId)(d:D):Prop:= ∃ds,Shp T t ds∧d=top T t ds
theorem A54(hT:Br P T){r:Reach}{base n:Nat}{t:TypeId}{v:Value}{d0:DataW H}{ps:List MemPlace}(hd:QC T n t=true)(hv:Value.okWide P w r base t v)(h:DataW.Trod enc P w 0 spare IB t v d0 ps):
  ∃d,Arg T t d∧W T (iV w) w V0 IW d v (fun _=>False):=by
 obtain⟨fuel,hf⟩:=h;obtain⟨ds,q1,q2,q3⟩:=nE hT fuel n t _ _ hd hf;have hfact:=(hT t).1;unfold FR at hfact
 have flat:T.isStruct t=false→v.cells.toList=[v]→ ∃d,Arg T t d∧W T (iV w) w V0 IW d v (fun _=>False):=by
  intro hs hc;have hl:ds.length=1:=by rw [←q2,hc];rfl
  obtain⟨d,rfl⟩:=List.length_eq_one_iff.1 hl;obtain⟨v',hv',hW⟩:=q3 0 d rfl;rw [hc]at hv';simp only [List.getElem?_cons_zero,Option.some.injEq]at hv';subst hv'
  exact⟨d,⟨[d],q1,by simp [top,hs]⟩,hW⟩
 cases n with
 | zero=>cases hd
 | succ n=>
  unfold QC at hd
  cases ht:T.ty t<;>rw [ht]at hfact hd<;>simp only at hfact hd
  case int k=>
   refine flat (by simp [Tys.isStruct,ht,Ty.isStruct]) ?_
   simp only [Value.okWide,hfact.1,Cell.okWide]at hv
   cases v<;>simp_all [Cell.ok,Value.cells]
  case bool=>
   refine flat (by simp [Tys.isStruct,ht,Ty.isStruct]) ?_
   simp only [Value.okWide,hfact.1,Cell.okWide]at hv
   cases v<;>simp_all [Cell.ok,Value.cells]
  case string=>
   refine flat (by simp [Tys.isStruct,ht,Ty.isStruct]) ?_
   simp only [Value.okWide,hfact.1,Cell.okWide]at hv
   cases v<;>simp_all [Cell.ok,Value.cells]
  case slice e=>
   refine flat (by simp [Tys.isStruct,ht,Ty.isStruct]) ?_
   simp only [Value.okWide,hfact.1,Cell.okWide]at hv
   cases v<;>simp_all [Cell.ok,Value.cells]
  case struct fs=>
   obtain⟨⟨fields,hu,_⟩,_⟩:=hfact;obtain⟨cs,rfl,hcs⟩:=WideShapes.okWide_struct hu hv
   have hval: ∀(i:Nat) (d:D),ds[i]? =some d→cs[i]? =some (cs.getD i undef)∧W T (iV w) w V0 IW d (cs.getD i undef) (fun _=>False):=by
    intro i d hi;obtain⟨v,hv',hW⟩:=q3 i d hi;have:cs[i]? =some v:=by simpa [Value.cells] using hv'
    rw [Array.getD_eq_getD_getElem?,this];exact⟨rfl,hW⟩
   refine⟨.agg ds,⟨ds,q1,by simp [top,Tys.isStruct,ht,Ty.isStruct]⟩,.agg (fun i=>cs.getD i undef) (fun _ _=>False) (by simpa [Value.cells] using q2) (fun i x hi=>(hval i x hi).1) (fun k=>⟨fun h=>h.elim,fun⟨_,_,h⟩=>h⟩) (fun _ _ _ _ _ _ h=>h.elim) (fun i x hi=>(hval i x hi).2)⟩
  all_goals (cases hd)
end
def A1R(T:Tys):List TypeId→List D→Prop
 | [],[]=>True
 | t::ts,d::ds=>Arg T t d∧A1R T ts ds
 | _,_=>False
theorem args_W{P:Program}{T:Tys}{H:Type}{enc:TypeId×Value→H}{w:World}{r:Reach}{base n:Nat}(hT:Br P T): ∀(ts:List TypeId) (vs:List Value) (d0:List (DataW H)) (ps:List MemPlace),ts.all (QC T n)=true→
  (∀(j:Nat) (t:TypeId) (v:Value),ts[j]? =some t→vs[j]? =some v→Value.okWide P w r base t v)→DataW.TrodAll enc P w 0 (fun _=>true) true ts vs d0 ps→
  ∃ds,A1R T ts ds∧vs.length=ds.length∧ ∀(i:Nat) (d:D),ds[i]? =some d→ ∃v,vs[i]? =some v∧W T (iV w) w V0 IW d v (fun _=>False):=by
 intro ts
 induction ts with
 | nil=>
  intro vs d0 ps _ _ h
  cases vs<;>cases d0<;>simp [DataW.TrodAll]at h
  exact⟨[],trivial,rfl,by simp⟩
 | cons t ts ih=>
  intro vs d0 ps hd hv h
  cases vs with
  | nil=>cases d0<;>simp [DataW.TrodAll]at h
  | cons v vs=>
   cases d0 with
   | nil=>simp [DataW.TrodAll]at h
   | cons d0 ds0=>
    simp only [DataW.TrodAll]at h;obtain⟨p,q,h1,h2,_⟩:=h;simp only [List.all_cons,Bool.and_eq_true]at hd;obtain⟨d,ha,hW⟩:=A54 hT hd.1 (hv 0 t v rfl rfl) h1;obtain⟨ds,hb,hl,hWs⟩:=ih vs ds0 q hd.2 (fun j t' v' hj hj'=>hv (j+1) t' v' (by simpa using hj) (by simpa using hj')) h2
    refine⟨d::ds,⟨ha,hb⟩,by simp [hl],fun i x hi=> ?_⟩
    cases i with
    | zero=>simp at hi;subst hi;exact⟨v,rfl,hW⟩
    | succ i=>simpa using hWs i x (by simpa using hi)
theorem law_calls{Y:Sys}(hY:Y.Ok){f:FuncId}{ds:List D}(hc:Y.call f ds []=some (.bool true,[])){vs:Array Value}{w:World}(hl:vs.size=ds.length)
  (hW: ∀(i:Nat) (d:D),ds[i]? =some d→ ∃v,vs[i]? =some v∧W Y.T (iV w) w V0 IW d v (fun _=>False)):
  Calls Y.P f vs w fun e w'=>e= .returned (.bool true)∧RowKit.Below w.heap.size w w':=by
 have hg:=Sys.call_good hY hc;refine Calls.mono (hg.2 vs (fun _=>undef) w (iV w) (fun _ _=>False) hl (fun i d hi=> ?_) (fun j d hj=>by simp at hj) (fun _ _ _ h=>h) (fun _ _ _ _ h=>h.elim) (fun _ h=>h)) ?_
 ·obtain⟨v,hv,hWv⟩:=hW i d hi
  exact⟨v,hv,hWv.up⟩
 ·intro e w' he
  cases e with
  | returned v=>
   obtain⟨S',F,FL',h1,_,_,_,hst,_,_⟩:=he
   cases h1 with
   | bool=>exact⟨rfl,hst.os,hst.tape,hst.output,hst.size,fun k hk=>hst.heap k hk (fun _ h=>h)⟩
  | panicked=>exact he.elim
  | outgrown=>exact he.elim
theorem trodAll_below{H:Type}{enc:TypeId×Value→H}{P:Program}(hl:laidOutB P=true){W W':World}(hb:RowKit.Below W.heap.size W W'): ∀ {ts:List TypeId} {vs:List Value} {ds:List (DataW H)} {ps:List MemPlace},
  ts.all (fun t=>P.readableRec t&&decide (t<P.types.size))=true→DataW.TrodAll enc P W 0 (fun _=>true) true ts vs ds ps→DataW.TrodAll enc P W' 0 (fun b=>decide (b<W.heap.size)) true ts vs ds ps:=by
 intro ts
 induction ts with
 | nil=>
  intro vs ds ps _ h
  cases vs<;>cases ds<;>simp [DataW.TrodAll]at h ⊢
  exact h
 | cons t ts ih=>
  intro vs ds ps hr h
  cases vs with
  | nil=>cases ds<;>simp [DataW.TrodAll]at h
  | cons v vs=>
   cases ds with
   | nil=>simp [DataW.TrodAll]at h
   | cons d ds=>
    simp only [DataW.TrodAll]at h ⊢;obtain⟨p,q,h1,h2,h3⟩:=h;simp only [List.all_cons,Bool.and_eq_true,decide_eq_true_eq]at hr;have lt0: ∀x∈p,x.block<W.heap.size:=by obtain⟨m,hm⟩:=h1;exact DataW.trod_lt m _ _ _ hm
    exact⟨p,q,RowKit.Below.trod hl hr.1.1 hr.1.2 h1 hb lt0,ih (by simpa using hr.2) h2,h3⟩
end Dv
namespace Dv
open Go
theorem nr{α:Type}{a b:α}(h:a=b):a=b:=h
structure SOp where
 dst:Option Tmp
 op:Op
 type:TypeId
 guard:Option (Option Tmp×Bool)
structure PmL where
 n:List Nat
 r:List Nat
 w:List Nat
def PmL.pm(l:PmL):Pm:=⟨fun r=>l.n.contains r|| !l.r.contains r,fun r=>l.w.contains r⟩
inductive SC where
 | skip
 | ops (l:List SOp)
 | draws (l:List (PmL×SOp))
 | seq (a b:SC)
 | cond (c:Operand) (a b:SC)
 | block (id:Nat) (c:SC)
 | loop (c:SC)
 | exit (id:Nat)
 | ret
 | bad
def PL(ops:Array Oper)(o:Oper):SOp:=⟨o.dst,o.op,o.type,match o.guard with | none=>none | some (j,b)=>some ((ops[j]?).bind (·.dst),b)⟩
def Be(lends:FuncId→Bool):Code→SC
 | .skip=> .skip
 | .region _ ops draw=>
  if draw then
   (if Nq lends ops.toList then .draws (ops.toList.map fun o=>(⟨G5 ops.toList o,ops.toList.flatMap (EA lends ops.toList),EA lends ops.toList o⟩,PL ops (TY lends ops.toList o)))else .bad)
  else .ops (ops.toList.map fun o=>PL ops (tag lends ops.toList o))
 | .seq a b=> .seq (Be lends a) (Be lends b)
 | .cond c a b=> .cond c (Be lends a) (Be lends b)
 | .block id c=> .block id (Be lends c)
 | .loop c=> .loop (Be lends c)
 | .exit id=> .exit id
 | .ret=> .ret
 | _=> .bad
def KH(E:Env)(pm:Pm)(s:St)(dst:Option Tmp)(op:Op)(type:TypeId):Option St:=sD E pm s ⟨dst,op,type, "", #[],none⟩
def Oy(E:Env)(pm:Pm)(s:St)(o:SOp):Option St:=
 match o.guard with
 | none=>KH E pm s o.dst o.op o.type
 | some (none,_)=>some (s.putO o.dst (.konst undef))
 | some (some t,b)=>
  match s.v t with
  | .bool b'=>if b'==b then KH E pm s o.dst o.op o.type else some (s.putO o.dst (.konst undef))
  | .konst (.tuple _)=>some (s.putO o.dst (.konst undef))
  | _=>none
def nG(E:Env):List SOp→St→Option St
 | [],s=>some s
 | o::l,s=>(Oy E Pm.all s o).bind fun s'=>nG E l s'
def Ew(pm:Pm)(s:St)(op:Op):Bool:=
 match op with
 | .move (.tmp u)=> !(s.v u).hasObj||(s.v u).isObj||pm.wr u
 | _=>true
def aH(E:Env):List (PmL×SOp)→St→Option St
 | [],s=>some s
 | (p,o)::l,s=>if Ew p.pm s o.op then(Oy E p.pm s o).bind fun s'=>aH E l s' else none
noncomputable def Dm(E:Env):SC→St→Option (Ex×St)
 | .skip,s=>some (.normal,s)
 | .ops l,s=>(nG E l s).map fun s'=>(.normal,s')
 | .draws l,s=>(aH E l s).map fun s'=>(.normal,s')
 | .seq a b,s=>
  match Dm E a s with
  | some (.normal,s')=>Dm E b s'
  | r=>r
 | .cond c a b,s=>
  match ev E.T s 0 c with
  | some (.bool t)=>if t then Dm E a s else Dm E b s
  | _=>none
 | .block id c,s=>
  match Dm E c s with
  | some (.exit j,s')=>if j=id then some (.normal,s')else some (.exit j,s')
  | r=>r
 | .loop c,s=>TZ (Dm E c) s
 | .exit id,s=>some (.exit id,s)
 | .ret,s=>some (.ret,s)
 | .bad,_=>none
theorem aI(E:Env)(ops:Array Oper)(pm:Pm)(s:St)(o:Oper):Oy E pm s (PL ops o)=JJ E ops pm s o:=by
 obtain⟨dst,op,type,pos,after,guard⟩:=o;unfold Oy JJ MK PL
 cases guard with
 | none=>rfl
 | some g=>
  obtain⟨j,b⟩:=g;simp only
  cases (ops[j]?).bind (·.dst)with
  | none=>rfl
  | some t=>
   simp only
   cases hv:s.v t with
   | bool b'=>simp only;cases hb:(b'==b)<;>simp<;>rfl
   | konst v=>cases v<;>rfl
   | _=>rfl
theorem tT(E:Env)(ops:Array Oper): ∀(l:List Oper) (s:St),nG E (l.map fun o=>PL ops (tag E.lends ops.toList o)) s=Vg E ops s l:=by
 intro l
 induction l with
 | nil=>intro s;rfl
 | cons o l ih=>
  intro s;simp only [List.map_cons,nG,Vg,aI]
  cases JJ E ops Pm.all s (tag E.lends ops.toList o)with
  | none=>rfl
  | some s'=>simp only [Option.bind_some];exact ih s'
theorem nH(E:Env)(ops:Array Oper)(l0:List Oper): ∀(l:List Oper) (s:St),
  aH E (l.map fun o=>(⟨G5 l0 o,l0.flatMap (EA E.lends l0),EA E.lends l0 o⟩,PL ops (TY E.lends ops.toList o))) s=Ov E ops l0 s l:=by
 intro l
 induction l with
 | nil=>intro s;rfl
 | cons o l ih=>
  intro s;simp only [List.map_cons,aH,Ov,aI];have h1:(PmL.mk (G5 l0 o) (l0.flatMap (EA E.lends l0)) (EA E.lends l0 o)).pm=Ip E.lends l0 o:=nr rfl;have h2:Ew (Ip E.lends l0 o) s (PL ops (TY E.lends ops.toList o)).op=cu (Ip E.lends l0 o) s o:=nr rfl;rw [h1,h2];split
  ·cases JJ E ops (Ip E.lends l0 o) s (TY E.lends ops.toList o)with
   | none=>rfl
   | some s'=>simp only [Option.bind_some];exact ih s'
  ·rfl
theorem nI(E:Env): ∀(c:Code),Dm E (Be E.lends c)=Dk E c:=by
 intro c
 induction c with
 | skip=>rfl
 | region id ops draw=>
  funext s
  simp only [Be,Dk]
  cases draw with
  | true=>
   simp only [if_true];split
   ·simp only [Dm];rw [nH]
   ·rfl
  | false=>simp only [Bool.false_eq_true,if_false,Dm];rw [tT]
 | seq a b iha ihb=>funext s;simp only [Be,Dm,Dk,iha,ihb];rfl
 | cond x a b iha ihb=>funext s;simp only [Be,Dm,Dk,iha,ihb];rfl
 | block id c ih=>funext s;simp only [Be,Dm,Dk,ih];rfl
 | loop c ih=>funext s;simp only [Be,Dm,Dk,ih]
 | exit id=>rfl
 | ret=>rfl
 | rangeFunc=>rfl
 | scope=>rfl
 | label=>rfl
 | goto=>rfl
 | refuse=>rfl
def Bo(E:Env)(c:SC)(Q:Ex→St→Prop)(s:St):Prop:= ∃ex s',Dm E c s=some (ex,s')∧Q ex s'
section
variable {E:Env} {Q:Ex→St→Prop} {s:St}
def aJ(E:Env)(b:SC)(Q:Ex→St→Prop):Ex→St→Prop
 | .normal,s=>Bo E b Q s
 | ex,s=>Q ex s
def inBlock(id:Nat)(Q:Ex→St→Prop):Ex→St→Prop
 | .exit j,s=>if j=id then Q .normal s else Q (.exit j) s
 | ex,s=>Q ex s
theorem A1S{a b:SC}(h:Bo E a (aJ E b Q) s):Bo E (.seq a b) Q s:=by
 obtain⟨ex,s1,h1,h2⟩:=h
 cases ex with
 | normal=>
  obtain⟨ex',s2,h3,h4⟩:=h2
  exact⟨ex',s2,by simp [Dm,h1,h3],h4⟩
 | exit id=>exact⟨_,s1,by simp [Dm,h1],h2⟩
 | ret=>exact⟨_,s1,by simp [Dm,h1],h2⟩
theorem nJ{id:Nat}{c:SC}(h:Bo E c (inBlock id Q) s):Bo E (.block id c) Q s:=by
 obtain⟨ex,s1,h1,h2⟩:=h
 cases ex with
 | normal=>exact⟨_,s1,by simp [Dm,h1],h2⟩
 | exit j=>
  simp only [inBlock]at h2;by_cases hj:j=id
  ·subst hj;rw [if_pos rfl]at h2;exact⟨.normal,s1,by simp [Dm,h1],h2⟩
  ·rw [if_neg hj]at h2;exact⟨_,s1,by simp [Dm,h1,hj],h2⟩
 | ret=>exact⟨_,s1,by simp [Dm,h1],h2⟩
theorem BC{c:SC}{Q':Ex→St→Prop}(h:Bo E c Q s)(hq: ∀ex s,Q ex s→Q' ex s):Bo E c Q' s:=by
 obtain⟨ex,s1,h1,h2⟩:=h;exact⟨ex,s1,h1,hq _ _ h2⟩
def eT(I:St→Prop)(Q:Ex→St→Prop):Ex→St→Prop
 | .normal,s=>I s
 | ex,s=>Q ex s
end
def fin(T:Tys)(n:Nat)(rs:List ResultVar)(r:D×List D):Ex→St→Prop
 | .normal,s=>Vh T n rs s=some r
 | .ret,s=>Vh T n rs s=some r
 | .exit _,_=>False
theorem Sys.call_wp{Y:Sys}{f:FuncId}{fn:Func}{c:Code}{k:SC}{a l:List D}{r:D×List D}(hb:Y.base f a l=none)(hf:Y.P.funcs[f]? =some fn)(hok:Bu fn a.length=true)
  (hbody:fn.body=some c)(hk:Be Y.lends c=k)(h:Bo Y.env k (fin Y.T l.length fn.results.toList r) (entry a l)):Y.call f a l=some r:=by
 refine Sys.call_run hb hf hok ?_;obtain⟨ex,s1,h1,h2⟩:=h;unfold ZN;rw [←hk]at h1;have h3:Dm Y.env (Be Y.env.lends c)=Dk Y.env c:=nI Y.env c;have h4:Dk Y.env c (entry a l)=some (ex,s1):=by rw [←h3];exact h1
 rw [hbody];simp only [h4]
 cases ex with
 | normal=>exact h2
 | ret=>exact h2
 | exit id=>exact h2.elim
section
variable (E:Env) (pm:Pm) (s:St) (dst:Option Tmp) (ty:TypeId)
theorem eU(op:Op):Oy E pm s ⟨dst,op,ty,none⟩=KH E pm s dst op ty:=nr rfl
def grd(E:Env)(pm:Pm)(s:St)(dst:Option Tmp)(op:Op)(ty:TypeId)(b:Bool)(d:D):Option St:=
 match d with
 | .bool b'=>if b'==b then KH E pm s dst op ty else some (s.putO dst (.konst undef))
 | .konst (.tuple _)=>some (s.putO dst (.konst undef))
 | _=>none
theorem aK(op:Op)(t:Tmp)(b:Bool):Oy E pm s ⟨dst,op,ty,some (some t,b)⟩=grd E pm s dst op ty b (s.v t):=nr rfl
theorem ADB(op:Op)(b':Bool):grd E pm s dst op ty true (.bool b')=if b'=true then KH E pm s dst op ty else some (s.putO dst (.konst undef)):=by cases b'<;>rfl
theorem ADC(op:Op)(b':Bool):grd E pm s dst op ty false (.bool b')=if b'=true then some (s.putO dst (.konst undef))else KH E pm s dst op ty:=by cases b'<;>rfl
theorem ADE(op:Op)(b:Bool):grd E pm s dst op ty b (.konst undef)=some (s.putO dst (.konst undef)):=nr rfl
def pk(s:St)(dst:Option Tmp)(c a b:Option D):Option St:=
 match c,a,b with
 | some (.bool t),some x,some y=>if(if t then x else y).hasObj then none else some (s.putO dst (if t then x else y))
 | _,_,_=>none
theorem nK(c a b:Operand):KH E pm s dst (.pick c a b) ty=pk s dst (ev E.T s ty c) (ev E.T s ty a) (ev E.T s ty b):=nr rfl
theorem pkT(x y:D)(h:x.hasObj=false):pk s dst (some (.bool true)) (some x) (some y)=some (s.putO dst x):=by simp [pk,h]
theorem pkF(x y:D)(h:y.hasObj=false):pk s dst (some (.bool false)) (some x) (some y)=some (s.putO dst y):=by simp [pk,h]
theorem pkB(t p q:Bool):pk s dst (some (.bool t)) (some (.bool p)) (some (.bool q))=some (s.putO dst (.bool (if t then p else q))):=by cases t<;>rfl
theorem hoB(b:Bool):(D.bool b).hasObj=false:=by simp [D.hasObj]
theorem hoI(k:IntKind)(n:Int):(D.int k n).hasObj=false:=by simp [D.hasObj]
theorem hoS(b:ByteArray):(D.str b).hasObj=false:=by simp [D.hasObj]
theorem kF(t:TypeId):KH E pm s dst (.alloc t) ty=if E.T.known t then some (s.putO dst (.box (E.T.zeros t)))else none:=nr rfl
theorem tV(t:TypeId)(x:Operand):KH E pm s dst (.box t x) ty=if ty=900003 then(Np E.T pm s dst t x).bind fun s1=>FB pm s1 dst else Np E.T pm s dst t x:=nr rfl
theorem nL(t:TypeId)(x:Operand):Np E.T pm s dst t x=match TS (ev E.T s t x)with
  | some ds=>if E.T.isStruct t then some (s.putO dst (.box ds))else none
  | none=>
   match take E.T pm s t x with
   | some (d,s1)=>if E.T.isStruct t==d.isAgg then some (s1.putO dst (.box d.asCells))else none
   | none=>none:=nr rfl
theorem kG(t:TypeId)(parts:Array (Nat×Operand)):KH E pm s dst (.build t parts) ty=match E.T.nest t with
  | some fl=>if E.T.isStruct t&&E.T.known t then(JI E.T pm fl s (E.T.zeros t) parts.toList).map fun r=>r.2.putO dst (.agg r.1)else none
  | none=>match E.T.ty t with
   | .struct fs=>if E.T.known t then(FP E.T pm (fun i=>fs.getD i 0) 1 s (E.T.zeros t) parts.toList).map fun r=>r.2.putO dst (.agg r.1)else none
   | _=>none:=nr rfl
theorem UH(t:TypeId)(len:Nat)(parts:Array (Nat×Operand)):KH E pm s dst (.buildSlice t len parts) ty=if ty=900004 then(TU E.T pm s dst t len parts).bind fun s1=>MI pm s1 dst else TU E.T pm s dst t len parts:=nr rfl
def stF(pm:Pm)(a:Operand):Option St→Option St
 | some s1=>FB pm s1 (TW a)
 | none=>none
theorem nM(a:Operand)(o:Option St):stF pm a o=o.bind fun s1=>FB pm s1 (TW a):=by cases o<;>rfl
theorem kH(t:TypeId)(a x:Operand):KH E pm s none (.store t a x) ty=if ty=900007 then Et E.T pm t a (KC E.T pm s t x)else if ty=900010 then Rb E.T pm s t a x else if ty=900011 then stF pm a (JH E.T pm s t a x)else JH E.T pm s t a x:=by
 rw [nM];rfl
def Il(s:St)(dst:Option Tmp):Option D→Option St
 | some r=>some (s.putO dst r)
 | none=>none
theorem A55(r:D):Il s dst (some r)=some (s.putO dst r):=nr rfl
def UI(dst:Option Tmp):Option (D×St)→Option St
 | some r=>some (r.2.putO dst r.1)
 | none=>none
theorem A56(r:D)(s:St):UI dst (some (r,s))=some (s.putO dst r):=nr rfl
def QD(T:Tys)(s:St)(dst:Option Tmp)(op:BinOp)(t:TypeId):Option D→Option D→Option St
 | some a,some b=>if ME T t a then Il s dst (D5 op a b)else none
 | _,_=>none
theorem A57(T:Tys)(op:BinOp)(t:TypeId)(a b:D):QD T s dst op t (some a) (some b)=if ME T t a then Il s dst (D5 op a b)else none:=nr rfl
def fzB(pm:Pm)(dst:Option Tmp)(u:Tmp):Option St→Option St
 | some s1=>ZK pm s1 dst u
 | none=>none
def fbC(pm:Pm)(s1:St)(u:Tmp):D→Option St
 | .bool b=>if b then some s1 else FB pm s1 (some u)
 | _=>none
theorem ADG(s1:St)(t u:Tmp)(h:pm.rd t=true):fzB pm (some t) u (some s1)=fbC pm s1 u (s1.v t):=by
 show(if pm.rd t then _ else none)=_
 rw [if_pos h]
 cases s1.v t<;>rfl
theorem nN(op:BinOp)(t:TypeId)(x y:Operand)(t':TypeId):KH E pm s dst (.binOp op t x y t') ty=if ty<2000000 then I6 E.T pm s dst op t x y else fzB pm dst (ty-2000000) (I6 E.T pm s dst op t x y):=by
 show(if ty<2000000 then I6 E.T pm s dst op t x y else(I6 E.T pm s dst op t x y).bind fun s1=>ZK pm s1 dst (ty-2000000))=_
 cases I6 E.T pm s dst op t x y<;>rfl
theorem Oe(op:BinOp)(t:TypeId)(x y:Operand)(hq:ZI E.T op t y=none):I6 E.T pm s dst op t x y=QD E.T s dst op t (ev E.T s t x) (ev E.T s t y):=by
 unfold I6;rw [hq];simp only
 cases ev E.T s t x<;>cases ev E.T s t y<;>simp only [QD]
 rename_i a b
 cases D5 op a b<;>rfl
theorem ADH(op:BinOp)(t:TypeId)(x:Operand)(u:Tmp)(t':TypeId):KH E pm s dst (.binOp op t x (.tmp u) t') ty=if ty<2000000 then QD E.T s dst op t (ev E.T s t x) (some (s.v u))else fzB pm dst (ty-2000000) (QD E.T s dst op t (ev E.T s t x) (some (s.v u))):=by
 rw [nN,Oe E pm s dst op t x (.tmp u) rfl];rfl
theorem ADI(op:BinOp)(t:TypeId)(x:Operand)(k:IntKind)(n:Int)(t':TypeId):KH E pm s dst (.binOp op t x (.const (.int k n)) t') ty=if ty<2000000 then QD E.T s dst op t (ev E.T s t x) (some (.int k n))else fzB pm dst (ty-2000000) (QD E.T s dst op t (ev E.T s t x) (some (.int k n))):=by
 rw [nN,Oe E pm s dst op t x _ rfl];rfl
theorem A58(op:BinOp)(t:TypeId)(x:Operand)(b:Bool)(t':TypeId):KH E pm s dst (.binOp op t x (.const (.bool b)) t') ty=if ty<2000000 then QD E.T s dst op t (ev E.T s t x) (some (.bool b))else fzB pm dst (ty-2000000) (QD E.T s dst op t (ev E.T s t x) (some (.bool b))):=by
 rw [nN,Oe E pm s dst op t x _ rfl];rfl
theorem A59(op:BinOp)(t:TypeId)(x:Operand)(b:ByteArray)(t':TypeId):KH E pm s dst (.binOp op t x (.const (.string b)) t') ty=if ty<2000000 then QD E.T s dst op t (ev E.T s t x) (some (.str b))else fzB pm dst (ty-2000000) (QD E.T s dst op t (ev E.T s t x) (some (.str b))):=by
 rw [nN,Oe E pm s dst op t x _ rfl];rfl
def eX(s:St)(dst:Option Tmp)(q:Bool):Option Bool→Option St
 | some b=>some (s.putO dst (.bool (b==q)))
 | none=>none
theorem A5A(b:Bool):eX s dst true (some b)=some (s.putO dst (.bool b)):=by cases b<;>rfl
theorem A5B(b:Bool):eX s dst false (some b)=some (s.putO dst (.bool (!b))):=by cases b<;>rfl
def vk(op:BinOp)(s:St)(dst:Option Tmp)(r:Option Bool)(o:Option St):Ty→Option St
 | .slice _=>match op with | .eql=>eX s dst true r | .neq=>eX s dst false r | _=>o
 | _=>o
theorem ADJ(r:Option Bool)(o:Option St)(e:TypeId):vk .eql s dst r o (.slice e)=eX s dst true r:=nr rfl
theorem ADK(r:Option Bool)(o:Option St)(e:TypeId):vk .neq s dst r o (.slice e)=eX s dst false r:=nr rfl
theorem tX(op:BinOp)(t:TypeId)(u:Tmp):I6 E.T pm s dst op t (.tmp u) (.const (.slice none 0 0))=vk op s dst (Ph pm s (s.v u)) (QD E.T s dst op t (some (s.v u)) (ev E.T s t (.const (.slice none 0 0)))) (E.T.ty t):=by
 have key: ∀q,ZI E.T op t (.const (.slice none 0 0))=some q→I6 E.T pm s dst op t (.tmp u) (.const (.slice none 0 0))=eX s dst q (Ph pm s (s.v u)):=by
  intro q hq;unfold I6;rw [hq];simp only [ev,Option.bind_some]
  cases Ph pm s (s.v u)<;>rfl
 cases ht:E.T.ty t with
 | slice e=>
  cases op<;>first
   | (simp only [vk];exact key true (by simp [ZI,ht]))
   | (simp only [vk];exact key false (by simp [ZI,ht]))
   | (simp only [vk];exact Oe E pm s dst _ t _ _ (by simp [ZI,ht]))
 | _=>exact Oe E pm s dst _ t _ _ (by simp [ZI,ht])
theorem A1U(op:BinOp)(t:TypeId)(u:Tmp)(t':TypeId):KH E pm s dst (.binOp op t (.tmp u) (.const (.slice none 0 0)) t') ty=if ty<2000000 then vk op s dst (Ph pm s (s.v u)) (QD E.T s dst op t (some (s.v u)) (ev E.T s t (.const (.slice none 0 0)))) (E.T.ty t)
  else fzB pm dst (ty-2000000) (vk op s dst (Ph pm s (s.v u)) (QD E.T s dst op t (some (s.v u)) (ev E.T s t (.const (.slice none 0 0)))) (E.T.ty t)):=by
 rw [nN,tX]
theorem ADL(e:TypeId)(x:D)(xs:List D):Ph pm s (.sl e (x::xs))=some false:=nr rfl
theorem A5C(e:TypeId)(x:D)(xs:List D):Ph pm s (.own e (x::xs))=some false:=nr rfl
theorem ndK(A:Option Addr)(n c:Nat):Ph pm s (.konst (.slice A n c))=some A.isNone:=nr rfl
theorem aL(src d:TypeId)(x:Operand):KH E pm s dst (.convert src d x) ty=if E.T.known src then
   match ev E.T s src x,E.T.ty d with
   | some (.int _ n),.int k=>some (s.putO dst (.int k (k.wrap n)))
   | some (.str b),.string=>some (s.putO dst (.str b))
   | _,_=>none
  else none:=nr rfl
theorem Xu(f:FuncId)(first captured:Array Operand):KH E pm s dst (.makeFunc (.func f) first captured) ty=if ty<3000000 then(if first.isEmpty then(Ke pm s captured.toList).map fun r=>r.2.putO dst (.clo f r.1)else none)
  else(if first.isEmpty then(TT pm s (ty-3000000) captured.toList).map fun r=>r.2.putO dst (.ocl false f r.1)else none):=nr rfl
theorem Vr(t:TypeId)(l c:Operand):KH E pm s dst (.makeSlice t l c) ty=if ty=900012 then(Vf E.T s dst t l c).bind fun s1=>MI pm s1 dst else Vf E.T s dst t l c:=nr rfl
theorem Xv(x:Operand):KH E pm s dst (.nilCheck x) ty=(ev E.T s ty x).bind fun d=>
   match d with
   | .box _=>some (Bw s dst x d)
   | .vw L n m=>match s.look pm L n m with | some (.box _)=>some (Bw s dst x d) | _=>none
   | .pe L _ n m=>match s.look pm L n m with | some _=>some (Bw s dst x d) | none=>none
   | .cptr _=>some (Bw s dst x d)
   | .clo _ _=>some (Bw s dst x d)
   | .ocl false _ _=>some (Bw s dst x d)
   | _=>none:=nr rfl
theorem eY(x y:Operand)(t t':TypeId):KH E pm s dst (.call ⟨.builtin .append, #[x,y], #[t,t']⟩) ty=if t=t' then(if isZ (ev E.T s t y)then Ky E.T pm s t x else FO E.T pm s t x y).map fun r=>r.2.putO dst r.1 else none:=nr rfl
theorem nO(f:FuncId)(args:Array Operand)(ts:Array TypeId):KH E pm s dst (.call ⟨.value (.func f),args,ts⟩) ty=if args.size=ts.size then Io E pm s dst f (args.toList.zip (WU ty ts.toList)) []else none:=nr rfl
theorem kI(u:Tmp)(args:Array Operand)(ts:Array TypeId):KH E pm s dst (.call ⟨.value (.tmp u),args,ts⟩) ty=match s.v u with
   | .clo f caps=>if args.size=ts.size then Io E pm s dst f (args.toList.zip ts.toList) caps else none
   | .ocl false f caps=>if args.size=ts.size then L6 E pm s dst f (args.toList.zip ts.toList) caps else none
   | _=>none:=nr rfl
end
theorem A1V(T:Tys)(s:St)(t:TypeId)(u:Tmp):ev T s t (.tmp u)=some (s.v u):=nr rfl
theorem A1W(T:Tys)(s:St)(t:TypeId)(k:IntKind)(n:Int):ev T s t (.const (.int k n))=some (.int k n):=nr rfl
theorem tY(T:Tys)(s:St)(t:TypeId)(b:Bool):ev T s t (.const (.bool b))=some (.bool b):=nr rfl
theorem A1X(T:Tys)(s:St)(t:TypeId)(b:ByteArray):ev T s t (.const (.string b))=some (.str b):=nr rfl
theorem A1Y(T:Tys)(s:St)(t:TypeId):ev T s t (.const (.slice none 0 0))=match T.ty t with | .slice e=>some (.own e []) | .other=>some (.konst (.slice none 0 0)) | _=>none:=nr rfl
theorem tZ(T:Tys)(s:St)(t:TypeId)(f:FuncId):ev T s t (.func f)=some (.clo f []):=nr rfl
theorem A5D(s:St)(t u:Nat)(d:D):(s.put t d).v u=if u=t then d else s.v u:=by rw [vg];rfl
theorem A5E(s:St)(t u:Nat)(d:D):(s.put t d).k u=if u=t then(if d.hasObj then s.k t+1 else s.k t)else s.k u:=by
 unfold St.put;by_cases h:u=t
 ·subst h;cases hd:d.hasObj<;>simp [Ld]
 ·cases hd:d.hasObj<;>simp [Ld,h]
theorem A5F(s:St)(t u:Nat)(d:D):(s.put t d).m u=s.m u:=by unfold St.put;split<;>rfl
theorem A5G(s:St)(t u:Nat):(s.clr t).v u=if u=t then .undef else s.v u:=nr rfl
theorem A5H(s:St)(t u:Nat):(s.clr t).k u=s.k u:=nr rfl
theorem A5I(s:St)(t u:Nat):(s.clr t).m u=s.m u:=nr rfl
theorem A1Z(s:St)(t u:Nat):(s.bump t).v u=s.v u:=nr rfl
theorem A1a(s:St)(t u:Nat):(s.bump t).k u=s.k u:=nr rfl
theorem A1b(s:St)(t u:Nat):(s.bump t).m u=if u=t then s.m t+1 else s.m u:=nr rfl
theorem A5J(s:St)(t u:Nat)(p:AB)(d:D):(s.set (t::p) d).v u=if u=t then FN (s.v t) p d else s.v u:=nr rfl
theorem A5K(s:St)(t u:Nat)(p:AB)(d:D):(s.set (t::p) d).k u=s.k u:=nr rfl
theorem A5L(s:St)(t u:Nat)(p:AB)(d:D):(s.set (t::p) d).m u=s.m u:=nr rfl
theorem kJ(s:St)(t:Tmp)(d:D):s.putO (some t) d=s.put t d:=nr rfl
theorem kK(s:St)(d:D):s.putO none d=s:=nr rfl
theorem A5M(Y:Sys):Y.env.T=Y.T:=nr rfl
theorem kL(Y:Sys):Y.env.lends=Y.lends:=nr rfl
theorem nP(Y:Sys):Y.env.call=Y.call:=nr rfl
theorem tq(a l:List D)(t:Nat):(entry a l).v t=if t<G then a.getD t .undef else l.getD (t-G) .undef:=nr rfl
theorem tu(a l:List D)(t:Nat):(entry a l).k t=0:=nr rfl
theorem u6(a l:List D)(t:Nat):(entry a l).m t=0:=nr rfl
theorem MV{r:Ex×St}{Q:Ex→St→Prop}:(∃ex s',some r=some (ex,s')∧Q ex s')=Q r.1 r.2:=
 propext ⟨fun⟨ex,s',h,hq⟩=>by injection h with h;subst h;exact hq,fun h=>⟨r.1,r.2,rfl,h⟩⟩
section
variable (E:Env) (Q:Ex→St→Prop) (s:St)
theorem A5N:Bo E .skip Q s=Q .normal s:=MV
theorem A5O(id:Nat):Bo E (.exit id) Q s=Q (.exit id) s:=MV
theorem ADM:Bo E .ret Q s=Q .ret s:=MV
theorem ADN:Bo E (.ops []) Q s=Q .normal s:=MV
def nxt(E:Env)(l:List SOp)(Q:Ex→St→Prop):Option St→Prop
 | some s=>Bo E (.ops l) Q s
 | none=>False
theorem ADO(l:List SOp):nxt E l Q (some s)=Bo E (.ops l) Q s:=nr rfl
theorem A5P(o:SOp)(l:List SOp):Bo E (.ops (o::l)) Q s=nxt E l Q (Oy E Pm.all s o):=by
 unfold Bo;simp only [Dm,nG]
 cases Oy E Pm.all s o with
 | none=>simp [nxt]
 | some s'=>simp [nxt,Bo,Dm]
theorem A5Q:Bo E (.draws []) Q s=Q .normal s:=MV
def nQ(E:Env)(l:List (PmL×SOp))(Q:Ex→St→Prop):Bool→Option St→Prop
 | true,some s=>Bo E (.draws l) Q s
 | _,_=>False
theorem A5R(l:List (PmL×SOp)):nQ E l Q true (some s)=Bo E (.draws l) Q s:=nr rfl
theorem A1c(p:PmL)(o:SOp)(l:List (PmL×SOp)):Bo E (.draws ((p,o)::l)) Q s=nQ E l Q (Ew p.pm s o.op) (Oy E p.pm s o):=by
 unfold Bo;simp only [Dm,aH]
 cases Ew p.pm s o.op with
 | true=>
  cases Oy E p.pm s o with
  | none=>simp [nQ]
  | some s'=>simp [nQ,Bo,Dm]
 | false=>simp [nQ]
theorem ADP(a b:SC):Bo E (.seq a b) Q s=Bo E a (aJ E b Q) s:=by
 refine propext ⟨fun⟨ex,s1,h1,h2⟩=> ?_,A1S⟩;simp only [Dm]at h1
 cases ha:Dm E a s with
 | none=>simp [ha]at h1
 | some q=>
  obtain⟨ex',s2⟩:=q
  cases ex' with
  | normal=>simp only [ha]at h1;exact⟨_,s2,ha,ex,s1,h1,h2⟩
  | exit id=>simp only [ha,Option.some.injEq,Prod.mk.injEq]at h1;obtain⟨rfl,rfl⟩:=h1;exact⟨_,s2,ha,h2⟩
  | ret=>simp only [ha,Option.some.injEq,Prod.mk.injEq]at h1;obtain⟨rfl,rfl⟩:=h1;exact⟨_,s2,ha,h2⟩
def cnd(E:Env)(a b:SC)(Q:Ex→St→Prop)(s:St):Option D→Prop
 | some (.bool t)=>if t=true then Bo E a Q s else Bo E b Q s
 | _=>False
theorem ADQ(a b:SC)(t:Bool):cnd E a b Q s (some (.bool t))=if t=true then Bo E a Q s else Bo E b Q s:=nr rfl
theorem A5T(c:Operand)(a b:SC):Bo E (.cond c a b) Q s=cnd E a b Q s (ev E.T s 0 c):=by
 unfold Bo;simp only [Dm]
 cases ev E.T s 0 c with
 | none=>simp [cnd]
 | some d=>cases d with
  | bool t=>cases t<;>simp [cnd,Bo]
  | _=>simp [cnd]
theorem A1d(id:Nat)(c:SC):Bo E (.block id c) Q s=Bo E c (inBlock id Q) s:=by
 refine propext ⟨fun⟨ex,s1,h1,h2⟩=> ?_,nJ⟩;simp only [Dm]at h1
 cases ha:Dm E c s with
 | none=>simp [ha]at h1
 | some q=>
  obtain⟨ex',s2⟩:=q
  cases ex' with
  | normal=>simp only [ha,Option.some.injEq,Prod.mk.injEq]at h1;obtain⟨rfl,rfl⟩:=h1;exact⟨_,s2,ha,h2⟩
  | exit j=>
   simp only [ha]at h1;by_cases hj:j=id
   ·simp only [hj,if_true,Option.some.injEq,Prod.mk.injEq]at h1;obtain⟨rfl,rfl⟩:=h1;exact⟨_,s2,ha,by simpa [inBlock,hj] using h2⟩
   ·simp only [hj,if_false,Option.some.injEq,Prod.mk.injEq]at h1;obtain⟨rfl,rfl⟩:=h1;exact⟨_,s2,ha,by simpa [inBlock,hj] using h2⟩
  | ret=>simp only [ha,Option.some.injEq,Prod.mk.injEq]at h1;obtain⟨rfl,rfl⟩:=h1;exact⟨_,s2,ha,h2⟩
theorem A1e(b:SC):aJ E b Q .normal s=Bo E b Q s:=nr rfl
theorem A1f(b:SC)(id:Nat):aJ E b Q (.exit id) s=Q (.exit id) s:=nr rfl
theorem A1g(b:SC):aJ E b Q .ret s=Q .ret s:=nr rfl
theorem ADR(id:Nat):inBlock id Q .normal s=Q .normal s:=nr rfl
theorem ADS(id j:Nat):inBlock id Q (.exit j) s=if j=id then Q .normal s else Q (.exit j) s:=nr rfl
theorem ADT(id:Nat):inBlock id Q .ret s=Q .ret s:=nr rfl
theorem ADU(I:St→Prop):eT I Q .normal s=I s:=nr rfl
theorem ADV(I:St→Prop)(id:Nat):eT I Q (.exit id) s=Q (.exit id) s:=nr rfl
theorem ADW(I:St→Prop):eT I Q .ret s=Q .ret s:=nr rfl
theorem A5U(T:Tys)(n:Nat)(rs:List ResultVar)(r:D×List D):fin T n rs r .normal s=(Vh T n rs s=some r):=nr rfl
theorem A5V(T:Tys)(n:Nat)(rs:List ResultVar)(r:D×List D):fin T n rs r .ret s=(Vh T n rs s=some r):=nr rfl
end
section
variable (s:St) (dst:Option Tmp) (u:Tmp) (k:IntKind) (n:Int) (b:Bool) (x:ByteArray) (e:TypeId) (xs:List D) (L:AB) (i j c:Nat) (v:Value) (f:FuncId)
theorem A5W:Bw s dst (.tmp u) (.int k n)=s.putO dst (.int k n):=nr rfl
theorem A1h:Bw s dst (.tmp u) (.bool b)=s.putO dst (.bool b):=nr rfl
theorem A5X:Bw s dst (.tmp u) (.str x)=s.putO dst (.str x):=nr rfl
theorem ADX:Bw s dst (.tmp u) (.sl e xs)=s.putO dst (.sl e xs):=nr rfl
theorem u7:Bw s dst (.tmp u) (.konst v)=s.putO dst (.konst v):=nr rfl
theorem A5Y:Bw s dst (.tmp u) (.own e xs)=s.putO dst (.vw [u] (s.k u) (s.m u)):=nr rfl
theorem ADY(k:TypeId)(es:List (List Int×List Int)):Bw s dst (.tmp u) (.mp k e es)=s.putO dst (.vw [u] (s.k u) (s.m u)):=nr rfl
theorem A5Z:Bw s dst (.tmp u) (.box xs)=s.putO dst (.vw [u] (s.k u) (s.m u)):=nr rfl
theorem ADZ:Bw s dst (.tmp u) (.vw L i j)=s.putO dst (.vw L i j):=nr rfl
theorem ADa:Bw s dst (.tmp u) (.pe L c i j)=s.putO dst (.pe L c i j):=nr rfl
theorem A1i:Bw s dst (.tmp u) (.cptr xs)=s.putO dst (.cptr xs):=nr rfl
theorem A5a:Bw s dst (.tmp u) (.ocl b f xs)=s.putO dst (.ocl b f xs):=nr rfl
theorem A5b:Bw s dst (.tmp u) (.clo f xs)=s.putO dst (.clo f xs):=nr rfl
theorem A5c:Bw s dst (.tmp u) (.tup xs)=if Ah xs then(if Ah (Jh s u 0 xs)then(s.clr u).putO dst (.tup xs)else s.putO dst (.tup (Jh s u 0 xs)))else s.putO dst (.tup xs):=nr rfl
theorem A5d(i:Nat):Jh s u i []=[]:=nr rfl
theorem A1j(i:Nat)(x:D):Jh s u i (x::xs)=Jg s u i x::Jh s u (i+1) xs:=nr rfl
theorem A5e(i:Nat):Jg s u i (.agg xs)= .agg (EE s [u,i] 0 xs):=nr rfl
theorem A5f(i:Nat):Jg s u i (.int k n)= .int k n:=nr rfl
theorem A1k(i:Nat):Jg s u i (.bool b)= .bool b:=nr rfl
theorem A5g(i:Nat):Jg s u i (.str x)= .str x:=nr rfl
theorem ADb(i:Nat):Jg s u i (.sl e xs)= .sl e xs:=nr rfl
theorem uA(i:Nat):Jg s u i (.konst v)= .konst v:=nr rfl
theorem uB(i:Nat):Jg s u i .undef= .undef:=nr rfl
theorem A5h(i:Nat):Jg s u i (.own e xs)= .vw [u,i] (s.k u) (s.m u):=nr rfl
theorem ADc(c:Nat)(L:AB):Jg s u c (.vw L i j)= .vw L i j:=nr rfl
theorem A5i(i:Nat):Jg s u i (.box xs)= .vw [u,i] (s.k u) (s.m u):=nr rfl
theorem A5j(L:AB)(i:Nat):EE s L i []=[]:=nr rfl
theorem A1l(L:AB)(i:Nat):EE s L i (.int k n::xs)= .int k n::EE s L (i+1) xs:=nr rfl
theorem uC(L:AB)(i:Nat):EE s L i (.bool b::xs)= .bool b::EE s L (i+1) xs:=nr rfl
theorem A1m(L:AB)(i:Nat):EE s L i (.str x::xs)= .str x::EE s L (i+1) xs:=nr rfl
theorem A5k(L:AB)(i:Nat)(zs:List D):EE s L i (.sl e zs::xs)= .sl e zs::EE s L (i+1) xs:=nr rfl
theorem nR(L:AB)(i:Nat):EE s L i (.konst v::xs)= .konst v::EE s L (i+1) xs:=nr rfl
theorem nS(L:AB)(i:Nat):EE s L i (.undef::xs)= .undef::EE s L (i+1) xs:=nr rfl
theorem A5l(L:AB)(i:Nat)(M:AB)(i2 j2:Nat):EE s L i (.vw M i2 j2::xs)= .vw M i2 j2::EE s L (i+1) xs:=nr rfl
theorem A1n(r c:Nat)(i:Nat)(zs:List D):EE s [r,c] i (.own e zs::xs)= .vw [r,c,i] (s.k r) (s.m r)::EE s [r,c] (i+1) xs:=nr rfl
theorem A1o(r c:Nat)(i:Nat)(zs:List D):EE s [r,c] i (.box zs::xs)= .vw [r,c,i] (s.k r) (s.m r)::EE s [r,c] (i+1) xs:=nr rfl
theorem A5m:Bw s dst (.tmp u) (.agg xs)=if Ah xs then(s.clr u).putO dst (.agg xs)else s.putO dst (.agg xs):=nr rfl
variable (pm:Pm)
theorem A5n:BG pm s dst (.tmp u) (.int k n)=some (s.putO dst (.int k n)):=nr rfl
theorem A1p:BG pm s dst (.tmp u) (.bool b)=some (s.putO dst (.bool b)):=nr rfl
theorem A5o:BG pm s dst (.tmp u) (.str x)=some (s.putO dst (.str x)):=nr rfl
theorem ADd:BG pm s dst (.tmp u) (.sl e xs)=some (s.putO dst (.sl e xs)):=nr rfl
theorem uD:BG pm s dst (.tmp u) (.konst v)=some (s.putO dst (.konst v)):=nr rfl
theorem A5p:BG pm s dst (.tmp u) (.own e xs)=some ((s.clr u).putO dst (.own e xs)):=nr rfl
theorem ADe(k:TypeId)(es:List (List Int×List Int)):BG pm s dst (.tmp u) (.mp k e es)=some ((s.clr u).putO dst (.mp k e es)):=nr rfl
theorem A5q:BG pm s dst (.tmp u) (.box xs)=some ((s.clr u).putO dst (.box xs)):=nr rfl
theorem A5r(r:Nat):BG pm s dst (.tmp u) (.vw [r] i j)=(Nk pm s [r] i j).map fun q=>q.2.putO dst q.1:=nr rfl
def asT(_s:St)(dst:Option Tmp)(a:Option (D×St))(b:Option St):Bool→Option St
 | true=>a.map fun q=>q.2.putO dst q.1
 | false=>b
theorem ADf(a:Option (D×St))(b:Option St):asT s dst a b true=a.map fun q=>q.2.putO dst q.1:=nr rfl
theorem ADg(a:Option (D×St))(b:Option St):asT s dst a b false=b:=nr rfl
theorem A5s(r r':Nat)(p:AB):BG pm s dst (.tmp u) (.vw (r::r'::p) i j)=asT s dst (Ba pm s (.vw (r::r'::p) i j)) (some (s.putO dst (.vw (r::r'::p) i j))) (vX pm s r):=by
 by_cases h:vX pm s r=true
 ·have h':XO pm s (.vw (r::r'::p) i j)=true:=h;unfold BG;simp only [h',h,if_true];rfl
 ·have h':XO pm s (.vw (r::r'::p) i j)=false:=Bool.eq_false_iff.mpr h;unfold BG;simp only [h',Bool.eq_false_iff.mpr h];rfl
theorem ADh(r:Nat):vX pm s r=(pm.rd r&&ZJ (s.v r)):=nr rfl
theorem A5t:ZJ (.tup xs)=true:=nr rfl
theorem A5u:ZJ (.agg xs)=false:=nr rfl
theorem A5v:ZJ (.own e xs)=false:=nr rfl
theorem A5w:ZJ (.box xs)=false:=nr rfl
theorem ADi:ZJ (.vw L i j)=false:=nr rfl
theorem tqU:ZJ .undef=false:=nr rfl
theorem A5x:ZG pm s (.int k n)=false:=nr rfl
theorem A1q:ZG pm s (.bool b)=false:=nr rfl
theorem A5y:ZG pm s (.str x)=false:=nr rfl
theorem ADj:ZG pm s (.sl e xs)=false:=nr rfl
theorem A5z:ZG pm s (.own e xs)=false:=nr rfl
theorem A60(r:Nat):ZG pm s (.vw [r] i j)=false:=nr rfl
theorem A61(r r':Nat)(p:AB):ZG pm s (.vw (r::r'::p) i j)=vX pm s r:=nr rfl
theorem A62:ZG pm s (.clo f xs)=false:=nr rfl
theorem ADk:BG pm s dst (.tmp u) (.pe L c i j)=some (s.putO dst (.pe L c i j)):=nr rfl
theorem A1r:BG pm s dst (.tmp u) (.cptr xs)=some (s.putO dst (.cptr xs)):=nr rfl
theorem A63:BG pm s dst (.tmp u) (.clo f xs)=some (s.putO dst (.clo f xs)):=nr rfl
theorem A64:BG pm s dst (.tmp u) (.tup xs)=some (if Ah xs then(s.clr u).putO dst (.tup xs)else s.putO dst (.tup xs)):=nr rfl
theorem A65:BG pm s dst (.tmp u) (.agg xs)=asT s dst (Ba pm s (.agg xs)) (some (if Ah xs then(s.clr u).putO dst (.agg xs)else s.putO dst (.agg xs))) (!Ah xs&&xs.any (ZG pm s)):=by
 by_cases h:(!Ah xs&&xs.any (ZG pm s))=true
 ·have h':XO pm s (.agg xs)=true:=h;unfold BG;simp only [h',h,if_true];rfl
 ·have h':XO pm s (.agg xs)=false:=Bool.eq_false_iff.mpr h;unfold BG;simp only [h',Bool.eq_false_iff.mpr h];rfl
end
section
variable (k:IntKind) (x y:Int) (p q:Bool) (a b:ByteArray)
theorem A66:D5 .add (.int k x) (.int k y)=some (.int k (k.wrap (x+y))):=by simp [D5]
theorem A67:D5 .sub (.int k x) (.int k y)=some (.int k (k.wrap (x-y))):=by simp [D5]
theorem A68:D5 .mul (.int k x) (.int k y)=some (.int k (k.wrap (x*y))):=by simp [D5]
theorem A69:D5 .quo (.int k x) (.int k y)=if y=0 then none else some (.int k (k.wrap (x.tdiv y))):=by simp [D5]
theorem A6A:D5 .rem (.int k x) (.int k y)=if y=0 then none else some (.int k (x.tmod y)):=by simp [D5]
theorem A6B:D5 .and (.int k x) (.int k y)=some (.int k (JG .and k x y)):=by simp [D5]
theorem ADl:D5 .or (.int k x) (.int k y)=some (.int k (JG .or k x y)):=by simp [D5]
theorem A6C:D5 .xor (.int k x) (.int k y)=some (.int k (JG .xor k x y)):=by simp [D5]
theorem nT:D5 .andNot (.int k x) (.int k y)=some (.int k (JG .andNot k x y)):=by simp [D5]
theorem A6D(k':IntKind):D5 .shl (.int k x) (.int k' y)=if y<0 then none else some (.int k (k.wrap (x*2 ^ (min y.toNat k.bits)))):=by simp [D5]
theorem A6E(k':IntKind):D5 .shr (.int k x) (.int k' y)=if y<0 then none else some (.int k (x.fdiv (2 ^ (min y.toNat k.bits)))):=by simp [D5]
theorem ADm:D5 .eql (.int k x) (.int k y)=some (.bool (decide (x=y))):=by simp [D5];rfl
theorem ADn:D5 .neq (.int k x) (.int k y)=some (.bool (!decide (x=y))):=by simp [D5];rfl
theorem ADo:D5 .lss (.int k x) (.int k y)=some (.bool (decide (x<y))):=by simp [D5]
theorem ADp:D5 .leq (.int k x) (.int k y)=some (.bool (decide (x≤y))):=by simp [D5]
theorem ADq:D5 .gtr (.int k x) (.int k y)=some (.bool (decide (y<x))):=by simp [D5]
theorem ADr:D5 .geq (.int k x) (.int k y)=some (.bool (decide (y≤x))):=by simp [D5]
theorem A6F:D5 .eql (.bool p) (.bool q)=some (.bool (p==q)):=nr rfl
theorem A6G:D5 .neq (.bool p) (.bool q)=some (.bool (!(p==q))):=nr rfl
theorem A6H:D5 .eql (.str a) (.str b)=some (.bool (a.toList==b.toList)):=nr rfl
theorem A6I:D5 .neq (.str a) (.str b)=some (.bool (!(a.toList==b.toList))):=nr rfl
theorem A6J:D5 .lss (.str a) (.str b)=some (.bool (Op.bytesLess a.toList b.toList)):=nr rfl
theorem A1s:D5 .add (.str a) (.str b)=if a.size+b.size<1099511627776 then some (.str (a++b))else none:=nr rfl
theorem A6K:vW .not (.bool p)=some (.bool (!p)):=nr rfl
theorem A6L:vW .neg (.int k x)=some (.int k (k.wrap (0-x))):=nr rfl
theorem boI(T:Tys)(t:TypeId):ME T t (.int k x)=true:=nr rfl
theorem boS(T:Tys)(t:TypeId):ME T t (.str a)=true:=nr rfl
theorem boB(T:Tys)(t:TypeId):ME T t (.bool p)=match T.ty t with | .bool=>true | _=>false:=nr rfl
theorem boA(T:Tys)(t:TypeId)(k l:IntKind)(x y:Int):ME T t (.agg [.int k x,.int l y])=iK T k l (T.ty t):=nr rfl
theorem A1t(T:Tys)(k l:IntKind)(a b:TypeId):iK T k l (.struct [a,b])=(cZ k (T.ty a)&&cZ l (T.ty b)):=nr rfl
theorem A6M(k:IntKind):cZ k (.int k)=true:=by simp [cZ]
theorem A6N(k l:IntKind)(a b c d:Int):D5 .eql (.agg [.int k a,.int l b]) (.agg [.int k c,.int l d])=some (.bool ((a==c)&&(b==d))):=by simp [D5]
theorem A6O(k l:IntKind)(a b c d:Int):D5 .neq (.agg [.int k a,.int l b]) (.agg [.int k c,.int l d])=some (.bool (!((a==c)&&(b==d)))):=by simp [D5]
end
def Ca(xs:List Int):List D:=xs.map (D.int .i64)
theorem Ch(xs:List Int):(Ca xs).length=xs.length:=by simp [Ca]
theorem nU(xs:List Int)(i:Nat):(Ca xs)[i]? =(xs[i]?).map (D.int .i64):=by simp [Ca]
theorem UJ(xs:List Int):Cc (Ca xs)=false:=by
 induction xs with
 | nil=>rfl
 | cons x xs ih=>simp only [Ca,List.map_cons,Cc,Cb,Bool.false_or];exact ih
theorem aM(xs:List Int):Ah (Ca xs)=false:=by
 induction xs with
 | nil=>rfl
 | cons x xs ih=>simp only [Ca,List.map_cons,Ah,D.hasObj,Bool.false_or];exact ih
theorem aN(xs:List Int):CS (Ca xs)=some (Ca xs):=by
 induction xs with
 | nil=>rfl
 | cons x xs ih=>simp only [Ca,List.map_cons,CS,D6,Option.bind_some]at ih ⊢;rw [ih];rfl
theorem eZ(xs:List Int):(Ca xs).all Bf=true:=by simp [Ca,Bf]
end Dv
namespace Dv
open Go
def zB:Value→Value→Bool
 | .int k n,.int k' n'=>decide (k=k')&&decide (n=n')
 | .bool b,.bool b'=>b==b'
 | .string s,.string s'=>s.size==0&&s'.size==0
 | .slice none 0 0,.slice none 0 0=>true
 | .nilFunc,.nilFunc=>true
 | .pointer none,.pointer none=>true
 | _,_=>false
theorem vo{a b:Value}(h:zB a b=true):a=b:=by
 unfold zB at h
 split at h
 ·simp only [Bool.and_eq_true,decide_eq_true_eq]at h;rw [h.1,h.2]
 ·simp only [beq_iff_eq]at h;rw [h]
 ·simp only [Bool.and_eq_true,beq_iff_eq]at h
  rename_i s s'
  have: ∀t:ByteArray,t.size=0→t=ByteArray.empty:=by
   intro t ht;obtain⟨d⟩:=t;have:d= #[]:=Array.size_eq_zero_iff.1 ht
   rw [this];rfl
  rw [this s h.1,this s' h.2]
 ·rfl
 ·rfl
 ·rfl
 ·cases h
def zsB:List Value→List Value→Bool
 | [],[]=>true
 | a::as,b::bs=>zB a b&&zsB as bs
 | _,_=>false
theorem nV: ∀ {a b:List Value},zsB a b=true→a=b
 | [],[],_=>rfl
 | [],_::_,h=>by cases h
 | _::_,[],h=>by cases h
 | a::as,b::bs,h=>by
  simp only [zsB,Bool.and_eq_true]at h;rw [vo h.1,nV h.2]
def QE(P:Program)(t:TypeId)(n:Nat)(z:Value):Bool:=
 match P.info? t with
 | some i=>(i.size==n)&&(decide (4<n)||decide (i.bytes≤128))&&(match i.zero,z with | some (.agg a),.agg b=>zsB a.toList b.toList | some v,z=>zB v z | _,_=>false)
 | none=>false
theorem LD{P:Program}{t:TypeId}{n:Nat}{z:Value}(h:QE P t n z=true):Mw P t n z:=by
 unfold QE at h
 split at h
 ·rename_i i hi
  simp only [Bool.and_eq_true,Bool.or_eq_true,beq_iff_eq,decide_eq_true_eq]at h
  refine⟨i,hi,h.1.1, ?_,fun h4=>h.1.2.resolve_left (by omega)⟩
  have h2:=h.2
  split at h2
  ·rename_i a b hz
   rw [hz];have:=nV h2
   rw [←Array.toArray_toList (xs:=a),this]
  ·rename_i v z' hz _
   rw [hz,vo h2]
  ·cases h2
 ·cases h
def Xw(P:Program)(T:Tys)(t:TypeId):Bool:=
 match T.ty t with
 | .int k=>(match P.underlying t with | some (.int k')=>decide (k'=k) | _=>false)&&QE P t 1 (.int k 0)
 | .bool=>(match P.underlying t with | some .bool=>true | _=>false)&&QE P t 1 (.bool false)
 | .string=>(match P.underlying t with | some .string=>true | _=>false)&&QE P t 1 (.string ByteArray.empty)
 | .slice e=>(match P.underlying t with | some (.slice e')=>e'==e | _=>false)&&QE P t 1 (.slice none 0 0)
 | .struct fs=>(match P.underlying t with
   | some (.struct fields)=>
    match T.nest t with
    | none=>(fields.size==fs.length)&&(List.range fields.size).all (fun j=>match fields[j]?,fs[j]? with | some f,some g=>(f.offset==j)&&(f.type==g)&&T.known g&& !T.isStruct g | _,_=>false)
    | some fl=>decide (4<fs.length)&&(fields.size==fl.length)&&(List.range fields.size).all (fun j=>match fields[j]?,fl[j]? with | some f,some g=>(f.offset==g.1)&&(f.type==g.2)&&T.known g.2 | _,_=>false)
   | _=>false)&&QE P t fs.length (.agg (fs.map (I9 T)).toArray)
 | .func=>(match P.underlying t with | some (.func ..)=>true | _=>false)&&QE P t 1 .nilFunc
 | .ptr=>(match P.underlying t with | some (.pointer _)=>true | _=>false)&&QE P t 1 (.pointer none)
 | .map k e=>match P.underlying t with | some (.map k' e')=>(k'==k)&&(e'==e) | _=>false
 | .other=>true
theorem ed{P:Program}{T:Tys}{t:TypeId}(h:Xw P T t=true):FR P T t:=by
 unfold Xw at h;unfold FR
 cases hty:T.ty t<;>rw [hty]at h<;>simp only [Bool.and_eq_true]at h ⊢
 case int k=>
  refine⟨?_,LD h.2⟩
  have h1:=h.1
  split at h1
  ·rename_i k' hu;rw [hu];simp only [decide_eq_true_eq]at h1;rw [h1]
  ·cases h1
 case bool=>
  refine⟨?_,LD h.2⟩
  have h1:=h.1
  split at h1
  ·assumption
  ·cases h1
 case string=>
  refine⟨?_,LD h.2⟩
  have h1:=h.1
  split at h1
  ·assumption
  ·cases h1
 case map k e=>
  split at h
  ·rename_i k' e' hu;rw [hu];simp only [Bool.and_eq_true,beq_iff_eq]at h;rw [h.1,h.2]
  ·cases h
 case slice e=>
  refine⟨?_,LD h.2⟩
  have h1:=h.1
  split at h1
  ·rename_i k' hu;rw [hu];simp only [beq_iff_eq]at h1;rw [h1]
  ·cases h1
 case struct fs=>
  refine⟨?_,LD h.2⟩
  have h1:=h.1
  split at h1
  ·rename_i fields hu
   refine⟨fields,hu, ?_⟩
   cases hn:T.nest t with
   | none=>
    simp only [hn,Bool.and_eq_true,beq_iff_eq,List.all_eq_true,List.mem_range]at h1 ⊢
    refine⟨h1.1,fun j f hf=> ?_⟩
    have hlt:=(Array.getElem?_eq_some_iff.1 hf).1;have:=h1.2 j hlt
    rw [hf]at this
    split at this
    ·rename_i f' g hf' hg
     simp only [Option.some.injEq]at hf';subst hf';simp only [Bool.and_eq_true,beq_iff_eq,Bool.not_eq_true']at this;obtain⟨⟨⟨q1,q2⟩,q3⟩,q4⟩:=this;subst q2
     exact⟨q1,hg,q3,q4⟩
    ·cases this
   | some fl=>
    simp only [hn,Bool.and_eq_true,beq_iff_eq,List.all_eq_true,List.mem_range,decide_eq_true_eq]at h1 ⊢
    refine⟨h1.1.1,h1.1.2,fun j f hf=> ?_⟩
    have hlt:=(Array.getElem?_eq_some_iff.1 hf).1;have:=h1.2 j hlt
    rw [hf]at this
    split at this
    ·rename_i f' g hf' hg
     simp only [Option.some.injEq]at hf';subst hf';simp only [Bool.and_eq_true,beq_iff_eq]at this;obtain⟨⟨q1,q2⟩,q3⟩:=this
     refine⟨?_,by rw [q2];exact q3⟩
     rw [hg,q1,q2]
    ·cases this
  ·cases h1
 case func=>
  refine⟨?_,LD h.2⟩
  have h1:=h.1
  split at h1
  ·exact⟨_,_,_,by assumption⟩
  ·cases h1
 case ptr=>
  refine⟨?_,LD h.2⟩
  have h1:=h.1
  split at h1
  ·exact⟨_,by assumption⟩
  ·cases h1
def kM(sG:List Ty)(vz:List (TypeId×List (Nat×TypeId))):Tys:={ty:=fun t=>sG.getD t .other,nest:=fun t=>vz.lookup t}
theorem A1u{P:Program}{sG:List Ty}{vz:List (TypeId×List (Nat×TypeId))}(h:((List.range sG.length).all fun t=>Xw P (kM sG vz) t&&sU P (kM sG vz) t)=true):Br P (kM sG vz):=by
 intro t;rcases Nat.lt_or_ge t sG.length with ht | ht
 ·have:=List.all_eq_true.1 h t (List.mem_range.2 ht)
  rw [Bool.and_eq_true]at this
  exact⟨ed this.1,this.2⟩
 ·have:(kM sG vz).ty t= .other:=by simp [kM,List.getD_eq_getElem?_getD,List.getElem?_eq_none ht]
  refine⟨?_, ?_⟩
  ·unfold FR;rw [this];trivial
  ·unfold sU;rw [this]
theorem Ab{Y:Sys}{f:FuncId}{fn:Func}{k:SC}{a l:List D}{r:D×List D}(hb:Y.base f a l=none)(hf:Y.P.funcs[f]? =some fn)(hok:Bu fn a.length=true)
  (hk:fn.body.map (Be Y.lends)=some k)(h:Bo Y.env k (fin Y.T l.length fn.results.toList r) (entry a l)):Y.call f a l=some r:=by
 obtain⟨c,hc,hk⟩:=Option.map_eq_some_iff.1 hk;exact Sys.call_wp hb hf hok hc hk h
end Dv
namespace Dv
open Go
section
variable (E:Env) (pm:Pm) (s:St) (dst:Option Tmp) (ty:TypeId) (u:Tmp) (t:TypeId)
theorem IC(o:Option D):(o.map fun r=>s.putO dst r)=Il s dst o:=by cases o<;>rfl
theorem LF(o:Option (D×St)):(o.map fun r=>r.2.putO dst r.1)=UI dst o:=by cases o<;>rfl
theorem A6P:KH E pm s dst (.move (.tmp u)) ty=some (Bw s dst (.tmp u) (s.v u)):=nr rfl
def nW(pm:Pm):Option Tmp→Option St→Option St
 | some t,some s1=>FB pm s1 (some t)
 | _,_=>none
def frC(s1:St)(t:Tmp):Option D→Option St
 | some c=>some (s1.set [t] c)
 | none=>none
theorem ADs(s1:St)(t:Tmp)(h1:pm.rd t=true)(h2:pm.wr t=true):nW pm (some t) (some s1)=frC s1 t (D6 (s1.v t)):=by
 show(if pm.rd t&&pm.wr t then(D6 (s1.v t)).map fun c=>s1.set [t] c else none)=_
 rw [h1,h2]
 cases D6 (s1.v t)<;>rfl
theorem ADt(s1:St)(u:Tmp)(b:Bool):fbC pm s1 u (.bool b)=if b=true then some s1 else nW pm (some u) (some s1):=by
 cases b<;>rfl
theorem ADu(s1:St)(t:Tmp)(c:D):frC s1 t (some c)=some (s1.set [t] c):=nr rfl
def fcB(pm:Pm):Option Tmp→Option St→Option St
 | some t,some s1=>MI pm s1 (some t)
 | _,_=>none
def fcD(s1:St)(t:Tmp)(e:TypeId):Option (List D)→Option St
 | some ys=>some (s1.set [t] (.own e ys))
 | none=>none
def fcC(s1:St)(t:Tmp):D→Option St
 | .own e xs=>fcD s1 t e (CS xs)
 | _=>none
theorem ADx(s1:St)(t:Tmp)(h1:pm.rd t=true)(h2:pm.wr t=true):fcB pm (some t) (some s1)=fcC s1 t (s1.v t):=by
 show MI pm s1 (some t)=_
 unfold MI fcC;dsimp only;rw [h1,h2]
 cases s1.v t with
 | own e xs=>simp only [Bool.and_self,if_true];cases CS xs<;>rfl
 | _=>rfl
theorem ADy(s1:St)(t:Tmp)(e:TypeId)(xs:List D):fcC s1 t (.own e xs)=fcD s1 t e (CS xs):=nr rfl
theorem ADz(s1:St)(t:Tmp)(e:TypeId)(ys:List D):fcD s1 t e (some ys)=some (s1.set [t] (.own e ys)):=nr rfl
theorem uE:KH E pm s dst (.assign (.tmp u)) ty=if ty=900003 then nW pm dst (BG pm s dst (.tmp u) (s.v u))else if ty<1000000 then BG pm s dst (.tmp u) (s.v u)else nW pm dst (BG pm s dst (.tmp u) (s.v u)):=by
 have hfr:((BG pm s dst (.tmp u) (s.v u)).bind fun s1=>FB pm s1 dst)=nW pm dst (BG pm s dst (.tmp u) (s.v u)):=by
  rcases BG pm s dst (.tmp u) (s.v u)with _ | s1<;>cases dst<;>rfl
 show(if lW ty=true then(BG pm s dst (.tmp u) (s.v u)).bind fun s1=>FB pm s1 dst else BG pm s dst (.tmp u) (s.v u))=_
 rw [hfr];unfold lW;by_cases h1:ty=900003
 ·rw [if_pos h1,if_pos h1];rfl
 ·rw [if_neg h1,if_neg h1];by_cases h2:ty<1000000
  ·rw [if_pos h2,if_pos h2];rfl
  ·rw [if_neg h2,if_neg h2];rfl
theorem nX(v:Value):KH E pm s dst (.assign (.const v)) ty=if ty=900003 then nW pm dst (Il s dst (ev E.T s ty (.const v)))else if ty<1000000 then Il s dst (ev E.T s ty (.const v))else nW pm dst (Il s dst (ev E.T s (ty-1000000) (.const v))):=by
 have hfr: ∀t,((ev E.T s t (.const v)).bind fun d=>(BG pm s dst (.const v) d).bind fun s1=>FB pm s1 dst)=nW pm dst (Il s dst (ev E.T s t (.const v))):=by
  intro t
  cases ev E.T s t (.const v)<;>cases dst<;>rfl
 have hno: ∀t,((ev E.T s t (.const v)).bind fun d=>BG pm s dst (.const v) d)=Il s dst (ev E.T s t (.const v)):=by
  intro t
  cases ev E.T s t (.const v)<;>rfl
 show((ev E.T s (A1I ty) (.const v)).bind fun d=>if lW ty=true then(BG pm s dst (.const v) d).bind fun s1=>FB pm s1 dst else BG pm s dst (.const v) d)=_
 unfold lW A1I;by_cases h1:ty=900003
 ·simp only [if_pos h1,if_true];exact hfr _
 ·by_cases h2:ty<1000000
  ·simp only [if_neg h1,if_pos h2,Bool.false_eq_true,if_false];exact hno _
  ·simp only [if_neg h1,if_neg h2,if_true];exact hfr _
theorem A1v(v:Value):KH E pm s dst (.move (.const v)) ty=Il s dst (ev E.T s ty (.const v)):=by
 show((ev E.T s ty (.const v)).map fun d=>Bw s dst (.const v) d)=_
 cases ev E.T s ty (.const v)<;>rfl
theorem A6Q:KH E pm s dst (.load t (.tmp u)) ty=Il s dst (Dt E.T pm s t (.tmp u) (s.v u)):=IC s dst _
theorem yUn(op:UnOp):KH E pm s dst (.unOp op t (.tmp u)) ty=Il s dst (vW op (s.v u)):=IC s dst _
theorem A1w(i:Nat):KH E pm s dst (.fieldAddr t (.tmp u) i) ty=Il s dst (Eu E.T pm s t (.tmp u) (s.v u) i):=IC s dst _
theorem AE0:KH E pm s dst (.call ⟨.builtin .len, #[.tmp u], #[t]⟩) ty=Il s dst (MJ E.T pm s t (.tmp u) (s.v u)):=IC s dst _
theorem nY(i:Nat):KH E pm s dst (.extract (.tmp u) i) ty=IU s dst (.tmp u) (s.v u) i:=nr rfl
def slC(T:Tys)(pm:Pm)(s:St)(dst:Option Tmp)(t:TypeId)(x:Operand)(hi:Option Operand):Option Operand→Option Operand→Option St
 | none,none=>UI dst (Nl T pm s t x hi)
 | _,_=>none
theorem AE1(T:Tys)(x:Operand)(hi:Option Operand):slC T pm s dst t x hi none none=UI dst (Nl T pm s t x hi):=nr rfl
def slF(T:Tys)(pm:Pm)(s:St)(dst:Option Tmp)(t:TypeId)(x:Operand)(lo:Option Operand):Option Operand→Option Operand→Option St
 | none,none=>UI dst (Kw T pm s t x lo)
 | _,_=>none
theorem AE2(T:Tys)(x:Operand)(lo:Option Operand):slF T pm s dst t x lo none none=UI dst (Kw T pm s t x lo):=nr rfl
theorem A1x(lo hi mx:Option Operand):KH E pm s dst (.slice t (.tmp u) lo hi mx) ty=
  if ty=900002 then slC E.T pm s dst t (.tmp u) hi lo mx
  else if ty=900005 then slF E.T pm s dst t (.tmp u) lo hi mx
  else if ty=900001 then UI dst (IR E.T pm.see s t (.tmp u) (s.v u) lo hi mx)else UI dst (IR E.T pm s t (.tmp u) (s.v u) lo hi mx):=by
 show(if ty=900002 then(if lo.isNone&&mx.isNone then(Nl E.T pm s t (.tmp u) hi).map fun r=>r.2.putO dst r.1 else none)
  else if ty=900005 then(if hi.isNone&&mx.isNone then(Kw E.T pm s t (.tmp u) lo).map fun r=>r.2.putO dst r.1 else none)
  else(ev E.T s t (.tmp u)).bind fun d=>(IR E.T (if ty=900001 then pm.see else pm) s t (.tmp u) d lo hi mx).map fun r=>r.2.putO dst r.1)=_
 split
 ·cases lo<;>cases mx<;>first | rfl | exact LF dst _
 ·split
  ·cases hi<;>cases mx<;>first | rfl | exact LF dst _
  ·split
   ·exact LF dst _
   ·exact LF dst _
def apI(T:Tys)(pm:Pm)(s:St)(t:TypeId)(x y:Operand)(d:D):Option (D×St):=if isZ (some d)then Ky T pm s t x else FO T pm s t x y
theorem uF(x:Operand)(v:Tmp):KH E pm s dst (.call ⟨.builtin .append, #[x,.tmp v], #[t,t]⟩) ty=UI dst (apI E.T pm s t x (.tmp v) (s.v v)):=by
 rw [eY,if_pos rfl,LF];rfl
def mn1(mx:Bool):Option D→Option D→Option D
 | some a,some b=>SG mx a b
 | _,_=>none
theorem AE4(mx:Bool)(a b:D):mn1 mx (some a) (some b)=SG mx a b:=nr rfl
theorem A6S(k:IntKind)(x y:Int):SG false (.int k x) (.int k y)=some (.int k (XN x y)):=by simp [SG]
theorem A6T(k:IntKind)(x y:Int):SG true (.int k x) (.int k y)=some (.int k (iJ x y)):=by simp [SG]
theorem AE5(x y:Operand)(t':TypeId):KH E pm s dst (.call ⟨.builtin .min, #[x,y], #[t,t']⟩) ty=Il s dst (mn1 false (ev E.T s t x) (ev E.T s t' y)):=by
 show(match ev E.T s t x,ev E.T s t' y with | some a,some b=>(SG false a b).map fun r=>s.putO dst r | _,_=>none)=_
 cases ev E.T s t x<;>cases ev E.T s t' y<;>first | rfl | exact IC s dst _
theorem AE6(x y:Operand)(t':TypeId):KH E pm s dst (.call ⟨.builtin .max, #[x,y], #[t,t']⟩) ty=Il s dst (mn1 true (ev E.T s t x) (ev E.T s t' y)):=by
 show(match ev E.T s t x,ev E.T s t' y with | some a,some b=>(SG true a b).map fun r=>s.putO dst r | _,_=>none)=_
 cases ev E.T s t x<;>cases ev E.T s t' y<;>first | rfl | exact IC s dst _
theorem AE7(T:Tys)(x y:Operand)(e:TypeId)(xs:List D):apI T pm s t x y (.sl e xs)=FO T pm s t x y:=nr rfl
theorem A6U(T:Tys)(x y:Operand)(e:TypeId)(xs:List D):apI T pm s t x y (.own e xs)=FO T pm s t x y:=nr rfl
theorem AE8(T:Tys)(x y:Operand)(L:AB)(n m:Nat):apI T pm s t x y (.vw L n m)=FO T pm s t x y:=nr rfl
theorem apK(T:Tys)(x y:Operand)(A:Option Addr)(c:Nat):apI T pm s t x y (.konst (.slice A 0 c))=Ky T pm s t x:=nr rfl
def ix1(T:Tys)(pm:Pm)(s:St)(t:TypeId)(x:Operand)(d:D):Option D→Option D
 | some i=>Qo T pm s t x d i
 | none=>none
theorem AE9(T:Tys)(x:Operand)(d i:D):ix1 T pm s t x d (some i)=Qo T pm s t x d i:=nr rfl
theorem A1y(i:Operand):KH E pm s dst (.indexAddr t (.tmp u) i) ty=Il s dst (ix1 E.T pm s t (.tmp u) (s.v u) (ev E.T s 0 i)):=by
 show(match some (s.v u),ev E.T s 0 i with
  | some a,some b=>(Qo E.T pm s t (.tmp u) a b).map fun r=>s.putO dst r
  | _,_=>none)=_
 cases ev E.T s 0 i with
 | none=>rfl
 | some b=>exact IC s dst _
def mk1(T:Tys)(t:TypeId):Option D→Option D→Option D
 | some a,some b=>ED T t a b
 | _,_=>none
theorem AEA(T:Tys)(a b:D):mk1 T t (some a) (some b)=ED T t a b:=nr rfl
theorem AEB(l c:Operand):Vf E.T s dst t l c=Il s dst (mk1 E.T t (ev E.T s 0 l) (ev E.T s 0 c)):=by
 show(match ev E.T s 0 l,ev E.T s 0 c with
  | some a,some b=>(ED E.T t a b).map fun r=>s.putO dst r
  | _,_=>none)=_
 cases ev E.T s 0 l<;>cases ev E.T s 0 c<;>first | rfl | exact IC s dst _
theorem A6W(l c:Operand):KH E pm s dst (.makeSlice t l c) ty=if ty=900012 then fcB pm dst (Il s dst (mk1 E.T t (ev E.T s 0 l) (ev E.T s 0 c)))else Il s dst (mk1 E.T t (ev E.T s 0 l) (ev E.T s 0 c)):=by
 rw [Vr,AEB];by_cases h:ty=900012
 ·rw [if_pos h,if_pos h]
  cases Il s dst (mk1 E.T t (ev E.T s 0 l) (ev E.T s 0 c))<;>cases dst<;>rfl
 ·rw [if_neg h,if_neg h]
theorem AEC(u:Tmp)(s1:St):stF pm (.tmp u) (some s1)=nW pm (some u) (some s1):=nr rfl
def cv1(s:St)(dst:Option Tmp):Option D→Ty→Option St
 | some (.int _ n),.int k=>some (s.putO dst (.int k (k.wrap n)))
 | some (.str b),.string=>some (s.putO dst (.str b))
 | _,_=>none
theorem AEE(k k':IntKind)(n:Int):cv1 s dst (some (.int k n)) (.int k')=some (s.putO dst (.int k' (k'.wrap n))):=nr rfl
theorem AEF(b:ByteArray):cv1 s dst (some (.str b)) .string=some (s.putO dst (.str b)):=nr rfl
theorem nZ(src d:TypeId)(x:Operand):KH E pm s dst (.convert src d x) ty=if E.T.known src then cv1 s dst (ev E.T s src x) (E.T.ty d)else none:=by
 rw [aL];split
 ·rcases ev E.T s src x with _ | d'<;>cases E.T.ty d<;>first | rfl | (cases d'<;>rfl)
 ·rfl
def asM(l:List TypeId):List TypeId:=l.map fun _=>900013
theorem AEG(k e:TypeId)(es:List (List Int×List Int)):(D.mp k e es).hasObj=true:=by simp [D.hasObj]
theorem AEH:asM []=[]:=nr rfl
theorem AEI(t:TypeId)(l:List TypeId):asM (t::l)=900013::asM l:=nr rfl
theorem A6Y(f:FuncId)(args:Array Operand)(ts:Array TypeId)(h:args.size=ts.size):KH E pm s dst (.call ⟨.value (.func f),args,ts⟩) ty=Io E pm s dst f (args.toList.zip (if ty=900013 then asM ts.toList else ts.toList)) []:=by
 rw [nO,if_pos h]
 unfold WU asM;rfl
end
section
variable {T:Tys} {pm:Pm} {s:St} {t:TypeId}
theorem ldC(x:Operand)(xs:List D)(hk:T.known t=true)(hs:T.isStruct t=false):Dt T pm s t x (.cptr xs)=xs[0]? :=by simp [Dt,hk,hs]
theorem AEJ(x:Operand)(xs:List D)(hk:T.known t=true)(hs:T.isStruct t=true):Dt T pm s t x (.cptr xs)=if T.size t≤xs.length then some (.agg (xs.take (T.size t)))else none:=by simp [Dt,hk,hs]
def O6(s:St)(L:AB)(c:Nat):Option D→Option D
 | some o=>(o.cells[c]?).bind fun x=>Bd (Cz s L c x)
 | none=>none
def cellsOf(s:St)(L:AB)(c n:Nat):Option D→Option D
 | some o=>if c+n≤o.cells.length then Bd (.agg ((List.range n).map fun i=>Cz s L (c+i) (o.cells.getD (c+i) .undef)))else none
 | none=>none
theorem ldP(x:Operand)(L:AB)(c n m:Nat)(hk:T.known t=true)(hs:T.isStruct t=false):Dt T pm s t x (.pe L c n m)=O6 s L c (s.look pm L n m):=by
 simp only [Dt,hk,hs,if_true,GN]
 cases s.look pm L n m<;>simp [O6]
theorem AEK(x:Operand)(L:AB)(c n m:Nat)(hk:T.known t=true)(hs:T.isStruct t=true):Dt T pm s t x (.pe L c n m)=cellsOf s L c (T.size t) (s.look pm L n m):=by
 simp only [Dt,hk,hs,if_true,GN]
 cases s.look pm L n m<;>simp [cellsOf]
theorem ldB(u:Tmp)(xs:List D)(hk:T.known t=true)(hs:T.isStruct t=false):Dt T pm s t (.tmp u) (.box xs)=O6 s [u] 0 (some (.box xs)):=by
 simp only [Dt,hk,hs,if_true,GN];simp [O6]
theorem AEL(u:Tmp)(xs:List D)(hk:T.known t=true)(hs:T.isStruct t=true):Dt T pm s t (.tmp u) (.box xs)=cellsOf s [u] 0 (T.size t) (some (.box xs)):=by
 simp only [Dt,hk,hs,if_true,GN];simp [cellsOf]
def O7(s:St)(pm:Pm)(L:AB)(n m:Nat):Option D:=
 match s.look pm L n m with
 | some (.box xs)=>some (.box xs)
 | _=>none
theorem ldV(x:Operand)(L:AB)(n m:Nat)(hk:T.known t=true)(hs:T.isStruct t=false):Dt T pm s t x (.vw L n m)=O6 s L 0 (O7 s pm L n m):=by
 simp only [Dt,hk,hs,if_true,GN,O7]
 cases s.look pm L n m with
 | none=>simp [O6]
 | some o=>cases o<;>simp [O6]
theorem AEM(x:Operand)(L:AB)(n m:Nat)(hk:T.known t=true)(hs:T.isStruct t=true):Dt T pm s t x (.vw L n m)=cellsOf s L 0 (T.size t) (O7 s pm L n m):=by
 simp only [Dt,hk,hs,if_true,GN,O7]
 cases s.look pm L n m with
 | none=>simp [cellsOf]
 | some o=>cases o<;>simp [cellsOf]
def aO:D→Option D
 | .own e xs=>some (.own e xs)
 | .box xs=>some (.box xs)
 | _=>none
theorem A1z(e:TypeId)(xs:List D):aO (.own e xs)=some (.own e xs):=nr rfl
theorem A20(xs:List D):aO (.box xs)=some (.box xs):=nr rfl
theorem A6Z(u n m:Nat):s.look pm [u] n m=if pm.rd u&&(s.k u==n)then aO (s.v u)else none:=by
 simp only [St.look,List.isEmpty_nil,Bool.true_or,Bool.and_true,BQ];split
 ·cases s.v u<;>rfl
 ·rfl
def A6a:Option D→Option D
 | some d=>aO d
 | none=>none
theorem A6b(u c n m:Nat)(p:AB):s.look pm (u::c::p) n m=if pm.rd u&&(s.k u==n)&&(s.m u==m)then A6a (BQ (s.v u) (c::p))else none:=by
 simp only [St.look,List.isEmpty_cons,Bool.false_or];split
 ·cases BQ (s.v u) (c::p)with
  | none=>rfl
  | some d=>cases d<;>rfl
 ·rfl
theorem A6c(d:D):A6a (some d)=aO d:=nr rfl
theorem AEN(x:Operand)(e:TypeId)(xs:List D):Bl pm s x (.sl e xs)=some (e,xs,none):=nr rfl
theorem A6d(u:Tmp)(e:TypeId)(xs:List D):Bl pm s (.tmp u) (.own e xs)=some (e,xs,some ([u],s.k u,s.m u)):=nr rfl
def A6e(L:AB)(n m:Nat):Option D→Option (TypeId×List D×Option (AB×Nat×Nat))
 | some (.own e xs)=>some (e,xs,some (L,n,m))
 | _=>none
theorem A6f(L:AB)(n m:Nat)(e:TypeId)(xs:List D):A6e L n m (some (.own e xs))=some (e,xs,some (L,n,m)):=nr rfl
theorem AEO(x:Operand)(L:AB)(n m:Nat):Bl pm s x (.vw L n m)=A6e L n m (s.look pm L n m):=by
 simp only [Bl]
 cases s.look pm L n m with
 | none=>rfl
 | some o=>cases o<;>rfl
def uG(T:Tys):Option (TypeId×List D×Option (AB×Nat×Nat))→Option D
 | some (e,xs,_)=>if T.known e then some (.int .i64 (T.len e xs))else none
 | none=>none
theorem A6g(e:TypeId)(xs:List D)(o:Option (AB×Nat×Nat))(hk:T.known e=true):uG T (some (e,xs,o))=some (.int .i64 (T.len e xs)):=by simp [uG,hk]
def ln0(T:Tys)(pm:Pm)(s:St)(x:Operand)(d:D):Ty→Option D
 | .string=>match d with | .str b=>some (.int .i64 b.size) | _=>none
 | .slice _=>uG T (Bl pm s x d)
 | _=>none
theorem lnT(x:Operand)(d:D):Lf T pm s t x d=ln0 T pm s x d (T.ty t):=by
 unfold Lf ln0
 cases T.ty t with
 | slice e=>
  simp only
  cases Bl pm s x d with
  | none=>rfl
  | some q=>rfl
 | string=>cases d<;>rfl
 | _=>rfl
theorem A6h(x:Operand)(e:TypeId)(xs:List D):MJ T pm s t x (.sl e xs)=Lf T pm s t x (.sl e xs):=nr rfl
theorem A21(x:Operand)(e:TypeId)(xs:List D):MJ T pm s t x (.own e xs)=Lf T pm s t x (.own e xs):=nr rfl
def lnW(T:Tys)(pm:Pm)(s:St)(t:TypeId)(x:Operand)(L:AB)(n m:Nat):Ty→Option D
 | .map _ _=>(s.lookM pm L n).map fun q=> .int .i64 q.2.2.length
 | _=>Lf T pm s t x (.vw L n m)
theorem A6j(x:Operand)(L:AB)(n m:Nat):MJ T pm s t x (.vw L n m)=lnW T pm s t x L n m (T.ty t):=by
 show(match T.ty t with | .map _ _=>Ve T pm s t x (.vw L n m) | _=>ZH T pm s t x (.vw L n m))=_
 unfold lnW Ve
 cases h:T.ty t<;>simp only [Pg]<;>first | rfl | (cases s.lookM pm L n<;>rfl)
theorem AEP(T:Tys)(x:Operand)(L:AB)(n m:Nat)(k e:TypeId):lnW T pm s t x L n m (.map k e)=(s.lookM pm L n).map fun q=> .int .i64 q.2.2.length:=nr rfl
theorem AEQ(T:Tys)(x:Operand)(L:AB)(n m:Nat)(e:TypeId):lnW T pm s t x L n m (.slice e)=Lf T pm s t x (.vw L n m):=nr rfl
theorem A22(T:Tys)(x:Operand)(L:AB)(n m:Nat):lnW T pm s t x L n m .string=Lf T pm s t x (.vw L n m):=nr rfl
def A6k:D→Option (TypeId×TypeId×List (List Int×List Int))
 | .mp k e es=>some (k,e,es)
 | _=>none
theorem A6l(k e:TypeId)(es:List (List Int×List Int)):A6k (.mp k e es)=some (k,e,es):=nr rfl
theorem A23(u n:Nat):s.lookM pm [u] n=if pm.rd u&&(s.k u==n)then A6k (s.v u)else none:=by
 simp only [St.lookM];split
 ·cases s.v u<;>rfl
 ·rfl
theorem A24(x:Operand)(b:ByteArray):MJ T pm s t x (.str b)=Lf T pm s t x (.str b):=nr rfl
theorem A6m(x:Operand)(e:TypeId)(L:AB)(n m lo len:Nat):MJ T pm s t x (.vs e L n m lo len)=sO len (T.ty t):=nr rfl
theorem A6n(len:Nat)(e:TypeId):sO len (.slice e)=some (.int .i64 len):=nr rfl
theorem A6o(x:Operand)(e:TypeId)(xs:List D)(i:D):Qo T pm s t x (.sl e xs) i=Dh T pm s t x (.sl e xs) i:=nr rfl
theorem A25(x:Operand)(e:TypeId)(xs:List D)(i:D):Qo T pm s t x (.own e xs) i=Dh T pm s t x (.own e xs) i:=nr rfl
theorem A6p(x:Operand)(L:AB)(n m:Nat)(i:D):Qo T pm s t x (.vw L n m) i=Dh T pm s t x (.vw L n m) i:=nr rfl
def uH(T:Tys)(e e1:TypeId)(L:AB)(va vb lo len:Nat)(n:Int):Option D→Option D
 | some (.own e2 xs)=>if e1=e∧e2=e∧T.known e=true∧T.size e=1∧0≤n∧n.toNat<len∧lo+len≤xs.length then some (.pe L (lo+n.toNat) va vb)else none
 | _=>none
def A26(T:Tys)(pm:Pm)(s:St)(e1:TypeId)(L:AB)(va vb lo len:Nat)(n:Int):Ty→Option D
 | .slice e=>uH T e e1 L va vb lo len n (s.look pm L va vb)
 | _=>none
theorem A6q(x:Operand)(e:TypeId)(L:AB)(va vb lo len:Nat)(k:IntKind)(n:Int):Qo T pm s t x (.vs e L va vb lo len) (.int k n)=A26 T pm s e L va vb lo len n (T.ty t):=by
 show lV T pm s t e L va vb lo len (.int k n)=_
 unfold lV A26
 cases T.ty t with
 | slice e'=>
  simp only;rcases s.look pm L va vb with _ | d
  ·rfl
  ·cases d<;>rfl
 | _=>rfl
theorem A6r(e1:TypeId)(L:AB)(va vb lo len:Nat)(n:Int)(e:TypeId):A26 T pm s e1 L va vb lo len n (.slice e)=uH T e e1 L va vb lo len n (s.look pm L va vb):=nr rfl
theorem A6s(e:TypeId)(L:AB)(va vb lo len:Nat)(n:Int)(xs:List D)(hk:T.known e=true)(hz:T.size e=1)(h1:0≤n∧n.toNat<len)(h2:lo+len≤xs.length):uH T e e L va vb lo len n (some (.own e xs))=some (.pe L (lo+n.toNat) va vb):=by
 unfold uH;dsimp only;rw [if_pos ⟨rfl,rfl,hk,hz,h1.1,h1.2,h2⟩]
theorem AER(x:Operand)(d:D)(e:TypeId):ln0 T pm s x d (.slice e)=uG T (Bl pm s x d):=nr rfl
theorem A6t(x:Operand)(b:ByteArray):ln0 T pm s x (.str b) .string=some (.int .i64 b.size):=nr rfl
theorem A6u(e:TypeId)(xs:List D)(h:T.size e=1):T.len e xs=xs.length:=by simp [Tys.len,h]
def Wx(T:Tys)(e:TypeId)(n:Int):Option (TypeId×List D×Option (AB×Nat×Nat))→Option D
 | some (e',xs,o)=>
  if e'=e∧T.known e=true∧0≤n∧n.toNat<T.len e xs then
   match o with
   | none=>some (.cptr ((xs.drop (n.toNat*T.size e)).take (T.size e)))
   | some (L,a,b)=>some (.pe L (n.toNat*T.size e) a b)
  else none
 | none=>none
def ix0(T:Tys)(pm:Pm)(s:St)(x:Operand)(d:D)(n:Int):Ty→Option D
 | .slice e=>Wx T e n (Bl pm s x d)
 | _=>none
theorem ixT(x:Operand)(d:D)(k:IntKind)(n:Int):Dh T pm s t x d (.int k n)=ix0 T pm s x d n (T.ty t):=by
 unfold Dh ix0
 cases T.ty t with
 | slice e=>
  simp only
  cases Bl pm s x d with
  | none=>rfl
  | some q=>rfl
 | _=>rfl
theorem AET(x:Operand)(d:D)(n:Int)(e:TypeId):ix0 T pm s x d n (.slice e)=Wx T e n (Bl pm s x d):=nr rfl
theorem A27(e:TypeId)(n:Int)(xs:List D)(hk:T.known e=true)(hz:T.size e=1)(hn:0≤n∧n.toNat<xs.length):Wx T e n (some (e,xs,none))=some (.cptr [xs.getD n.toNat .undef]):=by
 simp only [Wx,hk,hz,Tys.len,if_true];rw [if_pos ⟨trivial,trivial,hn.1,hn.2⟩,Nat.mul_one,List.drop_eq_getElem_cons hn.2,List.getD_eq_getElem?_getD,List.getElem?_eq_getElem hn.2];rfl
theorem uI(e:TypeId)(n:Int)(xs:List D)(L:AB)(a b:Nat)(hk:T.known e=true)(hz:T.size e=1)(hn:0≤n∧n.toNat<xs.length):Wx T e n (some (e,xs,some (L,a,b)))=some (.pe L n.toNat a b):=by
 simp only [Wx,hk,hz,Tys.len,if_true];rw [if_pos ⟨trivial,trivial,hn.1,hn.2⟩,Nat.mul_one]
end
section
variable {T:Tys} {pm:Pm} {s:St} {t:TypeId} (u:Tmp)
def Vb(pm:Pm)(s:St)(u:Tmp)(d:D):Option (D×St):=Ba pm (if d.hasObj then s.clr u else s) d
theorem A6v:take T pm s t (.tmp u)=Vb pm s u (s.v u):=nr rfl
theorem tkC(v:Value):take T pm s t (.const v)=match ev T s t (.const v)with | none=>none | some d=>Ba pm s d:=nr rfl
theorem A6w(k:IntKind)(n:Int):Ba pm s (.int k n)=some (.int k n,s):=by simp [Ba]
theorem A28(b:Bool):Ba pm s (.bool b)=some (.bool b,s):=by simp [Ba]
theorem A6x(b:ByteArray):Ba pm s (.str b)=some (.str b,s):=by simp [Ba]
theorem AEU(e:TypeId)(xs:List D):Ba pm s (.sl e xs)=some (.sl e xs,s):=by simp [Ba]
theorem A6y(e:TypeId)(xs:List D):Ba pm s (.own e xs)=some (.own e xs,s):=by simp [Ba]
theorem A6z(xs:List D):Ba pm s (.box xs)=some (.box xs,s):=by simp [Ba]
theorem A70(f:FuncId)(xs:List D):Ba pm s (.clo f xs)=some (.clo f xs,s):=by simp [Ba]
theorem A29(xs:List D):Ba pm s (.cptr xs)=some (.cptr xs,s):=by simp [Ba]
theorem AEV(L:AB)(n m:Nat):Ba pm s (.vw L n m)=Nk pm s L n m:=by simp [Ba]
def td1:Option (List D×St)→Option (D×St)
 | some r=>some (.agg r.1,r.2)
 | none=>none
theorem AEW(r:List D×St):td1 (some r)=some (.agg r.1,r.2):=nr rfl
theorem w9(xs:List D):Ba pm s (.agg xs)=td1 (EM pm s xs):=by simp only [Ba];cases EM pm s xs<;>rfl
def td2(pm:Pm)(ds:List D):Option (D×St)→Option (List D×St)
 | some r=>(EM pm r.2 ds).map fun q=>(r.1::q.1,q.2)
 | none=>none
theorem AEX(ds:List D)(d:D):td2 pm ds (some (d,s))=(EM pm s ds).map fun q=>(d::q.1,q.2):=nr rfl
theorem A2A:EM pm s []=some ([],s):=by simp [EM]
theorem uJ(d:D)(ds:List D):EM pm s (d::ds)=td2 pm ds (Ba pm s d):=by simp only [EM];cases Ba pm s d<;>rfl
theorem A72(k:IntKind)(n:Int):Vb pm s u (.int k n)=some (.int k n,s):=by simp [Vb,Ba,D.hasObj]
theorem A2B(b:Bool):Vb pm s u (.bool b)=some (.bool b,s):=by simp [Vb,Ba,D.hasObj]
theorem A73(b:ByteArray):Vb pm s u (.str b)=some (.str b,s):=by simp [Vb,Ba,D.hasObj]
theorem AEY(e:TypeId)(xs:List D):Vb pm s u (.sl e xs)=some (.sl e xs,s):=by simp [Vb,Ba,D.hasObj]
theorem A74(e:TypeId)(xs:List D):Vb pm s u (.own e xs)=some (.own e xs,s.clr u):=by simp [Vb,Ba,D.hasObj]
theorem A75(xs:List D):Vb pm s u (.box xs)=some (.box xs,s.clr u):=by simp [Vb,Ba,D.hasObj]
theorem A76(f:FuncId)(xs:List D):Vb pm s u (.clo f xs)=some (.clo f xs,s):=by simp [Vb,Ba,D.hasObj]
theorem A2C(xs:List D):Vb pm s u (.cptr xs)=some (.cptr xs,s):=by simp [Vb,Ba,D.hasObj]
theorem AEZ(L:AB)(n m:Nat):Vb pm s u (.vw L n m)=Nk pm s L n m:=by simp [Vb,Ba,D.hasObj]
theorem A77(xs:List D):Vb pm s u (.agg xs)=td1 (EM pm (if Ah xs then s.clr u else s) xs):=by
 simp only [Vb,D.hasObj];rw [w9];rfl
theorem A2D:Ah []=false:=by simp [Ah]
theorem iW(d:D)(ds:List D):Ah (d::ds)=(d.hasObj||Ah ds):=by simp [Ah]
theorem A78(e:TypeId)(xs:List D):(D.sl e xs).hasObj=false:=by simp [D.hasObj]
theorem A79(e:TypeId)(xs:List D):(D.own e xs).hasObj=true:=by simp [D.hasObj]
theorem A7A(xs:List D):(D.box xs).hasObj=true:=by simp [D.hasObj]
theorem A7B(f:FuncId)(xs:List D):(D.clo f xs).hasObj=false:=by simp [D.hasObj]
theorem A2E(xs:List D):(D.cptr xs).hasObj=false:=by simp [D.hasObj]
theorem AEa(L:AB)(n m:Nat):(D.vw L n m).hasObj=false:=by simp [D.hasObj]
theorem AEb(L:AB)(c n m:Nat):(D.pe L c n m).hasObj=false:=by simp [D.hasObj]
theorem hoK(v:Value):(D.konst v).hasObj=false:=by simp [D.hasObj]
theorem hoU:D.undef.hasObj=false:=by simp [D.hasObj]
theorem A7C(xs:List D):(D.agg xs).hasObj=Ah xs:=by simp [D.hasObj]
theorem A7D(xs:List D):(D.tup xs).hasObj=Ah xs:=by simp [D.hasObj]
def pl1(s:St)(r:Nat):Option D→Option (D×St)
 | some c=>some (c,s.set [r] .undef)
 | none=>none
theorem AEd(r:Nat)(c:D):pl1 s r (some c)=some (c,s.set [r] .undef):=nr rfl
theorem A7E(r n m:Nat)(hw:pm.wr r=true):Nk pm s [r] n m=pl1 s r (s.look pm [r] n m):=by
 unfold Nk
 cases s.look pm [r] n m with
 | none=>rfl
 | some c=>simp [hw,St.get,pl1]
def pl2(s:St)(L:AB)(o:Option D):Option D→Option (D×St)
 | some c=>match o with
  | some (.own _ _)=>(D6 c).map fun c'=>(c',s.set L c')
  | _=>some (c,s.set L .undef)
 | none=>none
theorem AEe(L:AB)(xs:List D)(c:D):pl2 s L (some (.box xs)) (some c)=some (c,s.set L .undef):=nr rfl
theorem AEf(L:AB)(xs:List D)(c:D):pl2 s L (some (.agg xs)) (some c)=some (c,s.set L .undef):=nr rfl
theorem AEg(L:AB)(e:TypeId)(xs:List D)(c:D):pl2 s L (some (.own e xs)) (some c)=(D6 c).map fun c'=>(c',s.set L c'):=nr rfl
theorem A7F(u' c n m:Nat)(p:AB)(hw:pm.wr u'=true):Nk pm s (u'::c::p) n m=pl2 s (u'::c::p) (s.get (u'::c::p).dropLast) (s.look pm (u'::c::p) n m):=by
 unfold Nk
 cases s.look pm (u'::c::p) n m with
 | none=>rfl
 | some d=>simp only [List.headD_cons,hw,if_true,pl2];rfl
theorem AEh(r:Nat):s.get [r]=some (s.v r):=nr rfl
theorem A7G(d:D):BQ d []=some d:=by cases d<;>rfl
theorem A7H(e:TypeId)(xs:List D)(c:Nat)(p:AB):BQ (.own e xs) (c::p)=(xs[c]?).bind fun d=>BQ d p:=nr rfl
theorem A7I(xs:List D)(c:Nat)(p:AB):BQ (.box xs) (c::p)=(xs[c]?).bind fun d=>BQ d p:=nr rfl
theorem A7J(xs:List D)(c:Nat)(p:AB):BQ (.agg xs) (c::p)=(xs[c]?).bind fun d=>BQ d p:=nr rfl
theorem A7K(d x:D):FN d [] x=x:=by cases d<;>rfl
theorem A7L(e:TypeId)(xs:List D)(c:Nat)(p:AB)(x:D):FN (.own e xs) (c::p) x= .own e (xs.set c (FN (xs.getD c .undef) p x)):=nr rfl
theorem A7M(xs:List D)(c:Nat)(p:AB)(x:D):FN (.box xs) (c::p) x= .box (xs.set c (FN (xs.getD c .undef) p x)):=nr rfl
theorem A7N(xs:List D)(c:Nat)(p:AB)(x:D):FN (.agg xs) (c::p) x= .agg (xs.set c (FN (xs.getD c .undef) p x)):=nr rfl
end
section
variable {T:Tys} {pm:Pm} {s:St} {t:TypeId}
def Wy(T:Tys)(pm:Pm)(t:TypeId)(ax:Operand):Option (D×St)→Option St
 | none=>none
 | some (d,s1)=>
  match ev T s1 t ax with
  | none=>none
  | some ad=>
   match GN pm s1 ax ad with
   | none=>none
   | some (L,c,o)=>
    if T.known t&&pm.wr (L.headD 0)&&d.asCells.all Bf&&(T.size t==d.asCells.length)&&(T.isStruct t==d.isAgg)&&decide (c+T.size t≤o.cells.length)then
     let s2:=s1.set L (o.withCells (Bn o.cells c d.asCells))
     some (if d.hasObj||Ah o.cells then s2.bump (L.headD 0)else s2)
    else none
theorem A2F(ax x:Operand):JH T pm s t ax x=Wy T pm t ax (take T pm s t x):=by
 unfold JH Et Wy;rcases take T pm s t x with _ | ⟨d,s1⟩<;>rfl
theorem uK(ax:Operand)(q:Option (D×St)):Et T pm t ax q=Wy T pm t ax q:=by
 unfold Et Wy;rcases q with _ | ⟨d,s1⟩<;>rfl
def tm1(T:Tys)(pm:Pm)(s:St)(t:TypeId)(u:Tmp):D→Option (D×St)
 | .vw L n m=>TQ pm s L n m
 | _=>take T pm s t (.tmp u)
theorem A2H(u:Tmp):KC T pm s t (.tmp u)=tm1 T pm s t u (s.v u):=by
 unfold KC;simp only [ev]
 cases s.v u<;>rfl
def tm2(s:St)(L:AB):Option D→Option (D×St)
 | some c=>some (c,s.set L .undef)
 | none=>none
theorem AEj(u:Tmp)(L:AB)(n m:Nat)(hw:pm.wr (L.headD 0)=true):tm1 T pm s t u (.vw L n m)=tm2 s L (s.look pm L n m):=by
 show TQ pm s L n m=_
 unfold TQ tm2
 cases s.look pm L n m with
 | none=>rfl
 | some c=>simp only [hw,if_true]
theorem AEk(u:Tmp)(k:IntKind)(n:Int):tm1 T pm s t u (.int k n)=take T pm s t (.tmp u):=nr rfl
theorem A2I(u:Tmp)(e:TypeId)(xs:List D):tm1 T pm s t u (.own e xs)=take T pm s t (.tmp u):=nr rfl
theorem AEl(u:Tmp)(v:Value):tm1 T pm s t u (.konst v)=take T pm s t (.tmp u):=nr rfl
theorem AEm(u:Tmp):tm1 T pm s t u .undef=take T pm s t (.tmp u):=nr rfl
theorem A2J(v:Value):KC T pm s t (.const v)=take T pm s t (.const v):=by
 unfold KC;split
 ·rename_i L n m he
  simp only [ev,P9]at he
  split at he<;>try (cases he;done)
  split at he<;>cases he
 ·rfl
theorem A7O(u:Tmp)(e:TypeId)(xs:List D):tm1 T pm s t u (.sl e xs)=take T pm s t (.tmp u):=nr rfl
theorem AEn(L:AB)(c:D):tm2 s L (some c)=some (c,s.set L .undef):=nr rfl
def sI(s1:St)(L:AB)(c:Nat)(d:D):Option D→Option St
 | none=>none
 | some o=>if c<o.cells.length then(if d.hasObj||Ah o.cells then some ((s1.set L (o.withCells (o.cells.set c d))).bump (L.headD 0))else some (s1.set L (o.withCells (o.cells.set c d))))else none
def wB(T:Tys)(pm:Pm)(t:TypeId)(u:Tmp)(d:D)(s:St):D→Option St
 | .pe L c n m=>if T.known t&& !T.isStruct t&&pm.wr (L.headD 0)&&Bf d then sI s L c d (s.look pm L n m)else Wy T pm t (.tmp u) (some (d,s))
 | .vw L n m=>if T.known t&& !T.isStruct t&&pm.wr (L.headD 0)&&Bf d then sI s L 0 d (O7 s pm L n m)else Wy T pm t (.tmp u) (some (d,s))
 | .box xs=>if T.known t&& !T.isStruct t&&pm.wr u&&Bf d then sI s [u] 0 d (some (.box xs))else Wy T pm t (.tmp u) (some (d,s))
 | _=>Wy T pm t (.tmp u) (some (d,s))
theorem O8{d:D}(hd:Bf d=true):d.asCells=[d]∧d.isAgg=false:=by
 cases d<;>first | exact⟨rfl,rfl⟩ | (simp [Bf]at hd)
theorem JL{T:Tys}{t:TypeId}(hs:T.isStruct t=false):T.size t=1:=by
 unfold Tys.isStruct at hs;unfold Tys.size
 cases hty:T.ty t<;>simp_all [Ty.isStruct,Ty.size]
theorem AEo(u:Tmp)(d:D)(_:d.isAgg=false):Wy T pm t (.tmp u) (some (d,s))=wB T pm t u d s (s.v u):=by
 cases hv:s.v u<;>simp only [wB]
 case pe L c n m=>
  split
  ·rename_i hc
   simp only [Bool.and_eq_true,Bool.not_eq_true']at hc;obtain⟨⟨⟨hk,hs⟩,hw⟩,hd⟩:=hc;obtain⟨ha,hg⟩:=O8 hd;have hz:=JL hs;simp only [Wy,ev,hv,GN]
   cases s.look pm L n m with
   | none=>rfl
   | some o=>
    simp only [sI,hk,hw,ha,hz,hs,hg,List.all_cons,hd,List.all_nil,List.length_cons,List.length_nil,Bool.and_true,Bn,beq_self_eq_true,Nat.zero_add];by_cases hc:c<o.cells.length
    ·have h1:c+1≤o.cells.length:=hc;simp only [hc,h1,decide_true,Bool.and_true,if_true];split<;>first | rfl | (rename_i hq;simp only [hq];rfl)
    ·have h1: ¬c+1≤o.cells.length:=hc;simp only [hc,h1,decide_false,Bool.and_false,Bool.false_eq_true,if_false]
  ·rfl
 case vw L n m=>
  split
  ·rename_i hc
   simp only [Bool.and_eq_true,Bool.not_eq_true']at hc;obtain⟨⟨⟨hk,hs⟩,hw⟩,hd⟩:=hc;obtain⟨ha,hg⟩:=O8 hd;have hz:=JL hs;simp only [Wy,ev,hv,GN,O7]
   cases s.look pm L n m with
   | none=>rfl
   | some o=>
    cases o<;>try rfl
    rename_i xs
    simp only [sI,hk,hw,ha,hz,hs,hg,List.all_cons,hd,List.all_nil,List.length_cons,List.length_nil,Bool.and_true,Bn,beq_self_eq_true,Nat.zero_add,D.cells];by_cases hc:0<xs.length
    ·have h1:1≤xs.length:=hc;simp only [hc,h1,decide_true,Bool.and_true,if_true];split<;>first | rfl | (rename_i hq;simp only [hq];rfl)
    ·have h1: ¬1≤xs.length:=hc;simp only [hc,h1,decide_false,Bool.and_false,Bool.false_eq_true,if_false]
  ·rfl
 case box xs=>
  split
  ·rename_i hc
   simp only [Bool.and_eq_true,Bool.not_eq_true']at hc;obtain⟨⟨⟨hk,hs⟩,hw⟩,hd⟩:=hc;obtain⟨ha,hg⟩:=O8 hd;have hz:=JL hs;simp only [Wy,ev,hv,GN];simp only [sI,hk,hw,ha,hz,hs,hg,List.all_cons,hd,List.all_nil,List.length_cons,List.length_nil,Bool.and_true,Bn,beq_self_eq_true,Nat.zero_add,D.cells,List.headD_cons];by_cases hc:0<xs.length
   ·have h1:1≤xs.length:=hc;simp only [hc,h1,decide_true,Bool.and_true,if_true];split<;>first | rfl | (rename_i hq;simp only [hq];rfl)
   ·have h1: ¬1≤xs.length:=hc;simp only [hc,h1,decide_false,Bool.and_false,Bool.false_eq_true,if_false]
  ·rfl
theorem AEp(u:Tmp)(d:D)(L:AB)(c n m:Nat)(hk:T.known t=true)(hs:T.isStruct t=false)(hw:pm.wr (L.headD 0)=true)(hd:Bf d=true):wB T pm t u d s (.pe L c n m)=sI s L c d (s.look pm L n m):=by
 simp [wB,hk,hs,hd];intro h;simp_all
theorem AEq(u:Tmp)(d:D)(L:AB)(n m:Nat)(hk:T.known t=true)(hs:T.isStruct t=false)(hw:pm.wr (L.headD 0)=true)(hd:Bf d=true):wB T pm t u d s (.vw L n m)=sI s L 0 d (O7 s pm L n m):=by
 simp [wB,hk,hs,hd];intro h;simp_all
theorem AEr(u:Tmp)(d:D)(xs:List D)(hk:T.known t=true)(hs:T.isStruct t=false)(hw:pm.wr u=true)(hd:Bf d=true):wB T pm t u d s (.box xs)=sI s [u] 0 d (some (.box xs)):=by
 simp [wB,hk,hs,hd];intro h;simp_all
def bx1:Option D→Option D
 | some (.box xs)=>some (.box xs)
 | _=>none
theorem bxA(L:AB)(n m:Nat):O7 s pm L n m=bx1 (s.look pm L n m):=by
 unfold O7 bx1
 cases s.look pm L n m with
 | none=>rfl
 | some o=>cases o<;>rfl
theorem AEt(xs:List D):bx1 (some (.box xs))=some (.box xs):=nr rfl
theorem hdC(a:Nat)(l:AB)(d:Nat):List.headD (a::l) d=a:=nr rfl
theorem AEu(L:AB)(c:Nat)(d o:D):sI s L c d (some o)=if c<o.cells.length then(if d.hasObj||Ah o.cells then some ((s.set L (o.withCells (o.cells.set c d))).bump (L.headD 0))else some (s.set L (o.withCells (o.cells.set c d))))else none:=nr rfl
theorem A7P(e:TypeId)(xs:List D):(D.own e xs).cells=xs:=nr rfl
theorem A7Q(xs:List D):(D.box xs).cells=xs:=nr rfl
theorem A7R(e:TypeId)(xs ys:List D):(D.own e xs).withCells ys= .own e ys:=nr rfl
theorem A7S(xs ys:List D):(D.box xs).withCells ys= .box ys:=nr rfl
theorem A7T(k:IntKind)(n:Int):Bf (.int k n)=true:=nr rfl
theorem A2K(b:Bool):Bf (.bool b)=true:=nr rfl
theorem A7U(b:ByteArray):Bf (.str b)=true:=nr rfl
theorem AEv(e:TypeId)(xs:List D):Bf (.sl e xs)=true:=nr rfl
theorem A7V(e:TypeId)(xs:List D):Bf (.own e xs)=true:=nr rfl
theorem A7W(xs:List D):Bf (.box xs)=true:=nr rfl
theorem A7X(f:FuncId)(xs:List D):Bf (.clo f xs)=true:=nr rfl
theorem A2L(xs:List D):Bf (.cptr xs)=true:=nr rfl
theorem ceS(L:AB)(c:Nat)(o:D):O6 s L c (some o)=(o.cells[c]?).bind fun x=>Bd (Cz s L c x):=nr rfl
theorem A7Y(L:AB)(c:Nat)(k:IntKind)(n:Int):Bd (Cz s L c (.int k n))=some (.int k n):=nr rfl
theorem A2M(L:AB)(c:Nat)(b:Bool):Bd (Cz s L c (.bool b))=some (.bool b):=nr rfl
theorem A7Z(L:AB)(c:Nat)(b:ByteArray):Bd (Cz s L c (.str b))=some (.str b):=nr rfl
theorem AEw(L:AB)(c:Nat)(e:TypeId)(xs:List D):Bd (Cz s L c (.sl e xs))=some (.sl e xs):=nr rfl
theorem A7a(L:AB)(c:Nat)(f:FuncId)(xs:List D):Bd (Cz s L c (.clo f xs))=some (.clo f xs):=nr rfl
theorem A2N(L:AB)(c:Nat)(xs:List D):Bd (Cz s L c (.cptr xs))=some (.cptr xs):=nr rfl
theorem AEx(L:AB)(c:Nat)(M:AB)(n m:Nat):Bd (Cz s L c (.vw M n m))=some (.vw M n m):=nr rfl
theorem A7b(L:AB)(c:Nat)(e:TypeId)(xs:List D):Bd (Cz s L c (.own e xs))=some (cB s (L++[c])):=nr rfl
theorem AEy(r:Nat)(p:AB):cB s (r::p)= .vw (r::p) (s.k r) (s.m r):=nr rfl
def ap1(T:Tys)(pm:Pm)(e:TypeId)(ty:TypeId)(y:Operand):Option (D×St)→Option (D×St)
 | some (.own e1 xs,s1)=>
   match ev T s1 ty y with
   | some d=>
    match Bl pm s1 y d with
    | some (e2,ys,_)=>
     if e1=e∧e2=e∧T.elem e=true∧ys.all Bf=true∧xs.length+ys.length<1099511627776 then
      if Ah ys then
       match d,y with
       | .own _ _,.tmp u=>some (.own e (xs++ys),s1.clr u)
       | _,_=>none
      else some (.own e (xs++ys),s1)
     else none
    | none=>none
   | none=>none
 | _=>none
def az1(T:Tys)(e:TypeId):Option (D×St)→Option (D×St)
 | some (.own e1 xs,s1)=>if e1=e∧T.known e=true then some (.own e xs,s1)else none
 | _=>none
def az0(T:Tys)(pm:Pm)(s:St)(ty:TypeId)(x:Operand):Ty→Option (D×St)
 | .slice e=>az1 T e (take T pm s ty x)
 | _=>none
theorem A7e(ty:TypeId)(x:Operand):Ky T pm s ty x=az0 T pm s ty x (T.ty ty):=by
 unfold Ky az0
 cases T.ty ty with
 | slice e=>
  simp only [az1];rcases take T pm s ty x with _ | ⟨d,s1⟩
  ·rfl
  ·cases d<;>rfl
 | _=>rfl
theorem QF{T:Tys}{e:TypeId}(hk:T.known e=true)(h4:T.size e≤4):T.elem e=true:=by simp [Tys.elem,hk,h4]
theorem AF0(ty:TypeId)(x:Operand)(e:TypeId):az0 T pm s ty x (.slice e)=az1 T e (take T pm s ty x):=nr rfl
theorem AF1(e:TypeId)(xs:List D)(hk:T.known e=true):az1 T e (some (.own e xs,s))=some (.own e xs,s):=by simp [az1,hk]
def ap0(T:Tys)(pm:Pm)(s:St)(ty:TypeId)(x y:Operand):Ty→Option (D×St)
 | .slice e=>ap1 T pm e ty y (KC T pm s ty x)
 | _=>none
theorem AF3(ty:TypeId)(x y:Operand):FO T pm s ty x y=ap0 T pm s ty x y (T.ty ty):=by
 unfold FO ap0
 cases T.ty ty with
 | slice e=>
  simp only [ap1];rcases KC T pm s ty x with _ | ⟨d,s1⟩
  ·rfl
  ·cases d<;>rfl
 | _=>rfl
theorem AF4(ty:TypeId)(x y:Operand)(e:TypeId):ap0 T pm s ty x y (.slice e)=ap1 T pm e ty y (KC T pm s ty x):=nr rfl
def ap2(T:Tys)(e e1:TypeId)(xs:List D)(s:St)(u:Tmp)(d:D):Option (TypeId×List D×Option (AB×Nat×Nat))→Option (D×St)
 | some (e2,ys,_)=>
     if e1=e∧e2=e∧T.elem e=true∧ys.all Bf=true∧xs.length+ys.length<1099511627776 then
      if Ah ys then
       match d with
       | .own _ _=>some (.own e (xs++ys),s.clr u)
       | _=>none
      else some (.own e (xs++ys),s)
     else none
 | none=>none
theorem AF5(ty e e1:TypeId)(u:Tmp)(xs:List D):ap1 T pm e ty (.tmp u) (some (.own e1 xs,s))=ap2 T e e1 xs s u (s.v u) (Bl pm s (.tmp u) (s.v u)):=by
 simp only [ap1,ev,ap2];rcases Bl pm s (.tmp u) (s.v u)with _ | ⟨e2,ys,o⟩
 ·rfl
 ·simp only;split
  ·split
   ·cases s.v u<;>rfl
   ·rfl
  ·rfl
theorem AF6(e:TypeId)(u:Tmp)(xs ys:List D)(d:D)(o:Option (AB×Nat×Nat))(hk:T.known e=true)(h4:T.size e≤4)(hy:ys.all Bf=true)(hno:Ah ys=false)(hl:xs.length+ys.length<1099511627776):
  ap2 T e e xs s u d (some (e,ys,o))=some (.own e (xs++ys),s):=by
 simp only [ap2];rw [if_pos ⟨trivial,trivial,QF hk h4,hy,hl⟩,hno];simp
theorem AF7(e e':TypeId)(u:Tmp)(xs ys zs:List D)(o:Option (AB×Nat×Nat))(hk:T.known e=true)(h4:T.size e≤4)(hy:ys.all Bf=true)(hno:Ah ys=true)(hl:xs.length+ys.length<1099511627776):
  ap2 T e e xs s u (.own e' zs) (some (e,ys,o))=some (.own e (xs++ys),s.clr u):=by
 simp only [ap2];rw [if_pos ⟨trivial,trivial,QF hk h4,hy,hl⟩,hno];simp
end
section
variable {E:Env} {pm:Pm} {s:St} {dst:Option Tmp}
def aP(a:D)(l:List (AB×D)):Option (List D×List (AB×D))→Option (List D×List (AB×D))
 | some (as,ls)=>some (a::as,l++ls)
 | none=>none
theorem A2O(a:D)(l:List (AB×D))(as:List D)(ls:List (AB×D)):aP a l (some (as,ls))=some (a::as,l++ls):=nr rfl
def Ru(E:Env)(lend:Bool)(pm:Pm)(s:St)(j:Nat)(rest:List (Operand×TypeId)):Option (D×List (AB×D))→Option (List D×List (AB×D))
 | some (a,l)=>aP a l (DT E lend pm s (j+l.length) rest)
 | none=>none
theorem A2P(lend:Bool)(j:Nat)(rest:List (Operand×TypeId))(a:D)(l:List (AB×D)):Ru E lend pm s j rest (some (a,l))=aP a l (DT E lend pm s (j+l.length) rest):=nr rfl
theorem A7f(lend:Bool)(j:Nat):DT E lend pm s j []=some ([],[]):=nr rfl
theorem A7g(lend:Bool)(j:Nat)(u:Tmp)(t:TypeId)(rest:List (Operand×TypeId)):DT E lend pm s j ((.tmp u,t)::rest)=Ru E lend pm s j rest (Ji E.T lend pm s j [u] (s.v u)):=by
 simp only [DT,ev];rcases Ji E.T lend pm s j [u] (s.v u)with _ | ⟨a,l⟩
 ·rfl
 ·simp only [Ru];rcases DT E lend pm s (j+l.length) rest with _ | ⟨as,ls⟩<;>rfl
def aC(E:Env)(lend:Bool)(pm:Pm)(s:St)(j:Nat)(rest:List (Operand×TypeId)):Option D→Option (List D×List (AB×D))
 | some d=>Ru E lend pm s j rest (Ji E.T lend pm s j [] d)
 | none=>none
theorem aCS(lend:Bool)(j:Nat)(rest:List (Operand×TypeId))(d:D):aC E lend pm s j rest (some d)=Ru E lend pm s j rest (Ji E.T lend pm s j [] d):=nr rfl
theorem arC(lend:Bool)(j:Nat)(v:Value)(t:TypeId)(rest:List (Operand×TypeId)):DT E lend pm s j ((.const v,t)::rest)=aC E lend pm s j rest (ev E.T s t (.const v)):=by
 simp only [DT]
 cases ev E.T s t (.const v)with
 | none=>rfl
 | some d=>
  simp only [aC];rcases Ji E.T lend pm s j [] d with _ | ⟨a,l⟩
  ·rfl
  ·simp only [Ru];rcases DT E lend pm s (j+l.length) rest with _ | ⟨as,ls⟩<;>rfl
theorem arF(lend:Bool)(j:Nat)(f:FuncId)(t:TypeId)(rest:List (Operand×TypeId)):DT E lend pm s j ((.func f,t)::rest)=Ru E lend pm s j rest (Ji E.T lend pm s j [] (.clo f [])):=by
 simp only [DT,ev];rcases Ji E.T lend pm s j [] (.clo f [])with _ | ⟨a,l⟩
 ·rfl
 ·simp only [Ru];rcases DT E lend pm s (j+l.length) rest with _ | ⟨as,ls⟩<;>rfl
variable (lend:Bool) (j:Nat) (L:AB)
theorem A7h(T:Tys)(k:IntKind)(n:Int):Ji T lend pm s j L (.int k n)=CR lend pm s j L (.int k n):=nr rfl
theorem A2Q(T:Tys)(b:Bool):Ji T lend pm s j L (.bool b)=CR lend pm s j L (.bool b):=nr rfl
theorem A7i(T:Tys)(b:ByteArray):Ji T lend pm s j L (.str b)=CR lend pm s j L (.str b):=nr rfl
theorem AF8(T:Tys)(e:TypeId)(xs:List D):Ji T lend pm s j L (.sl e xs)=CR lend pm s j L (.sl e xs):=nr rfl
theorem A7j(T:Tys)(f:FuncId)(xs:List D):Ji T lend pm s j L (.clo f xs)=CR lend pm s j L (.clo f xs):=nr rfl
theorem A2R(T:Tys)(xs:List D):Ji T lend pm s j L (.cptr xs)=CR lend pm s j L (.cptr xs):=nr rfl
theorem axK(T:Tys)(v:Value):Ji T lend pm s j L (.konst v)=CR lend pm s j L (.konst v):=nr rfl
theorem A7k(T:Tys)(e:TypeId)(xs:List D):Ji T lend pm s j L (.own e xs)=CR lend pm s j L (.own e xs):=nr rfl
theorem A7l(T:Tys)(xs:List D):Ji T lend pm s j L (.box xs)=CR lend pm s j L (.box xs):=nr rfl
theorem AF9(T:Tys)(M:AB)(n m:Nat):Ji T lend pm s j L (.vw M n m)=CR lend pm s j L (.vw M n m):=nr rfl
theorem A7m(T:Tys)(xs:List D):Ji T lend pm s j L (.agg xs)=CR lend pm s j L (.agg xs):=nr rfl
theorem A7n(k:IntKind)(n:Int):CR lend pm s j L (.int k n)=some (.int k n,[]):=nr rfl
theorem A2S(b:Bool):CR lend pm s j L (.bool b)=some (.bool b,[]):=nr rfl
theorem A7o(b:ByteArray):CR lend pm s j L (.str b)=some (.str b,[]):=nr rfl
theorem AFA(e:TypeId)(xs:List D):CR lend pm s j L (.sl e xs)=some (.sl e xs,[]):=nr rfl
theorem A7p(f:FuncId)(xs:List D):CR lend pm s j L (.clo f xs)=some (.clo f xs,[]):=nr rfl
theorem A2T(xs:List D):CR lend pm s j L (.cptr xs)=some (.cptr xs,[]):=nr rfl
theorem atK(v:Value):CR lend pm s j L (.konst v)=some (.konst v,[]):=nr rfl
def fz1(l:List (AB×D)):Option D→Option (D×List (AB×D))
 | some c=>some (c,l)
 | none=>none
theorem AFB(l:List (AB×D))(c:D):fz1 l (some c)=some (c,l):=nr rfl
theorem A7r(e:TypeId)(xs:List D):CR false pm s j L (.own e xs)=fz1 [(L,.own e xs)] (D6 (.own e xs)):=by
 show((D6 (.own e xs)).map fun c'=>(c',[(L,D.own e xs)]))=_
 cases D6 (.own e xs)<;>rfl
theorem A7s(xs:List D):CR false pm s j L (.box xs)=fz1 [(L,.box xs)] (D6 (.box xs)):=by
 show((D6 (.box xs)).map fun c'=>(c',[(L,D.box xs)]))=_
 cases D6 (.box xs)<;>rfl
def fz2(L:AB):Option D→Option (D×List (AB×D))
 | some c=>fz1 [(L,c)] (D6 c)
 | none=>none
theorem AFD(c:D):fz2 L (some c)=fz1 [(L,c)] (D6 c):=nr rfl
theorem AFE(M:AB)(n m:Nat):CR false pm s j L (.vw M n m)=fz2 M (s.look pm M n m):=by
 simp only [CR,Ea]
 cases s.look pm M n m with
 | none=>rfl
 | some c=>simp only [fz2];cases D6 c<;>rfl
theorem A2U(e:TypeId)(xs:List D):CR true pm s j L (.own e xs)=some (.vw [G+j] 0 0,[(L,.own e xs)]):=nr rfl
theorem A2V(xs:List D):CR true pm s j L (.box xs)=some (.vw [G+j] 0 0,[(L,.box xs)]):=nr rfl
def ln2(j:Nat)(L:AB):Option D→Option (D×List (AB×D))
 | some c=>some (.vw [G+j] 0 0,[(L,c)])
 | none=>none
theorem AFF(c:D):ln2 j L (some c)=some (.vw [G+j] 0 0,[(L,c)]):=nr rfl
theorem A7t(M:AB)(n m:Nat):CR true pm s j L (.vw M n m)=ln2 j M (s.look pm M n m):=by
 simp only [CR,Ea]
 cases s.look pm M n m<;>rfl
def ag1:Option (List D×List (AB×D))→Option (D×List (AB×D))
 | some r=>some (.agg r.1,r.2)
 | none=>none
theorem AFG(r:List D×List (AB×D)):ag1 (some r)=some (.agg r.1,r.2):=nr rfl
theorem A7u(xs:List D):CR lend pm s j L (.agg xs)=ag1 (Dy lend pm s L j 0 xs):=by
 simp only [CR]
 cases Dy lend pm s L j 0 xs<;>rfl
def ng(lend:Bool)(pm:Pm)(s:St)(L0:AB)(j i:Nat)(ds:List D):Option (D×List (AB×D))→Option (List D×List (AB×D))
 | some (a,l)=>aP a l (Dy lend pm s L0 (j+l.length) (i+1) ds)
 | none=>none
theorem A2W(i:Nat)(ds:List D)(a:D)(l:List (AB×D)):ng lend pm s L j i ds (some (a,l))=aP a l (Dy lend pm s L (j+l.length) (i+1) ds):=nr rfl
theorem A7v(i:Nat):Dy lend pm s L j i []=some ([],[]):=nr rfl
theorem A2X(i:Nat)(d:D)(ds:List D)(h:d.isAgg=false):Dy lend pm s L j i (d::ds)=ng lend pm s L j i ds (CR lend pm s j (L++[i]) d):=by
 have:CR lend pm s j (L++[i]) d=Ea lend pm s j (L++[i]) d:=by cases d<;>first | rfl | (simp [D.isAgg]at h)
 rw [this];simp only [Dy];rcases Ea lend pm s j (L++[i]) d with _ | ⟨a,l⟩
 ·rfl
 ·simp only [ng];rcases Dy lend pm s L (j+l.length) (i+1) ds with _ | ⟨as,ls⟩<;>rfl
theorem A7w(k:IntKind)(n:Int):(D.int k n).isAgg=false:=nr rfl
theorem A2Y(b:Bool):(D.bool b).isAgg=false:=nr rfl
theorem A7x(b:ByteArray):(D.str b).isAgg=false:=nr rfl
theorem AFH(e:TypeId)(xs:List D):(D.sl e xs).isAgg=false:=nr rfl
theorem A7y(e:TypeId)(xs:List D):(D.own e xs).isAgg=false:=nr rfl
theorem AFI(M:AB)(n m:Nat):(D.vw M n m).isAgg=false:=nr rfl
theorem A7z(f:FuncId)(xs:List D):(D.clo f xs).isAgg=false:=nr rfl
theorem A80(xs:List D):(D.box xs).isAgg=false:=nr rfl
theorem A2Z(xs:List D):(D.cptr xs).isAgg=false:=nr rfl
theorem A81(xs:List D):(D.agg xs).isAgg=true:=nr rfl
def cb1(E:Env)(pm:Pm)(s:St)(dst:Option Tmp)(f:FuncId)(caps:List D):Option (List D×List (AB×D))→Option St
 | none=>none
 | some (as,ls)=>
  match E.call f (as++caps) []with
  | some (r,_)=>
   if Cb r then
    if E9 (ls.map (·.1))&&ls.all (fun l=>pm.wr (l.1.headD 0))then(Ij ls).map fun ls'=>(back false s ls').putO dst r else none
   else some (s.putO dst r)
  | none=>none
theorem cdB(f:FuncId)(xs:List (Operand×TypeId))(caps:List D)(h:E.lends f=false):Io E pm s dst f xs caps=cb1 E pm s dst f caps (DT E false pm s 0 xs):=by
 unfold Io cb1;rw [h];simp only [Bool.false_eq_true,if_false];rcases DT E false pm s 0 xs with _ | ⟨as,ls⟩<;>rfl
def cb2(pm:Pm)(s:St)(dst:Option Tmp)(ls:List (AB×D)):Option (D×List D)→Option St
 | some (r,_)=>
   if Cb r then
    if E9 (ls.map (·.1))&&ls.all (fun l=>pm.wr (l.1.headD 0))then(Ij ls).map fun ls'=>(back false s ls').putO dst r else none
   else some (s.putO dst r)
 | none=>none
theorem AFJ(f:FuncId)(caps as:List D)(ls:List (AB×D)):cb1 E pm s dst f caps (some (as,ls))=cb2 pm s dst ls (E.call f (as++caps) []):=by
 simp only [cb1];rcases E.call f (as++caps) []with _ | ⟨r,o⟩<;>rfl
theorem AFK(ls:List (AB×D))(r:D)(o:List D)(h:Cb r=false):cb2 pm s dst ls (some (r,o))=some (s.putO dst r):=by simp [cb2,h]
theorem AFL(r:D)(o:List D):cb2 pm s dst [] (some (r,o))=some (s.putO dst r):=by
 simp only [cb2];split<;>rfl
def cl1(E:Env)(pm:Pm)(s:St)(dst:Option Tmp)(f:FuncId)(caps:List D):Option (List D×List (AB×D))→Option St
 | none=>none
 | some (as,ls)=>
   if E9 (ls.map (·.1))&&ls.all (fun l=>pm.wr (l.1.headD 0))&&ls.all (fun l=>XP l.2)then
    match E.call f (as++caps) (ls.map (·.2))with
    | some (r,outs)=>if outs.length=ls.length then some ((KE s (ls.map (·.1)) outs).putO dst r)else none
    | none=>none
   else none
theorem cdL(f:FuncId)(xs:List (Operand×TypeId))(caps:List D)(h:E.lends f=true):Io E pm s dst f xs caps=cl1 E pm s dst f caps (DT E true pm s 0 xs):=by
 unfold Io cl1;rw [h];simp only [if_true];rcases DT E true pm s 0 xs with _ | ⟨as,ls⟩<;>rfl
def cl2(s:St)(dst:Option Tmp)(ls:List (AB×D)):Option (D×List D)→Option St
 | some (r,outs)=>if outs.length=ls.length then some ((KE s (ls.map (·.1)) outs).putO dst r)else none
 | none=>none
theorem AFM(f:FuncId)(caps as:List D)(ls:List (AB×D))(h:(E9 (ls.map (·.1))&&ls.all (fun l=>pm.wr (l.1.headD 0))&&ls.all (fun l=>XP l.2))=true):cl1 E pm s dst f caps (some (as,ls))=cl2 s dst ls (E.call f (as++caps) (ls.map (·.2))):=by
 simp only [cl1,h,if_true];rcases E.call f (as++caps) (ls.map (·.2))with _ | ⟨r,o⟩<;>rfl
theorem AFN(ls:List (AB×D))(r:D)(outs:List D)(h:outs.length=ls.length):cl2 s dst ls (some (r,outs))=some ((KE s (ls.map (·.1)) outs).putO dst r):=by simp [cl2,h]
end
theorem A82(k:IntKind)(n:Int):Cb (.int k n)=false:=by simp [Cb]
theorem A2b(b:Bool):Cb (.bool b)=false:=by simp [Cb]
theorem A83(b:ByteArray):Cb (.str b)=false:=by simp [Cb]
theorem wC(e:TypeId)(xs:List D):Cb (.own e xs)=Cc xs:=by simp [Cb]
theorem A84(xs:List D):Cb (.box xs)=Cc xs:=by simp [Cb]
theorem A85(xs:List D):Cb (.agg xs)=Cc xs:=by simp [Cb]
theorem A86(xs:List D):Cb (.tup xs)=Cc xs:=by simp [Cb]
theorem A2c:Cc []=false:=by simp [Cc]
theorem iX(d:D)(ds:List D):Cc (d::ds)=(Cb d||Cc ds):=by simp [Cc]
theorem A87(k:IntKind)(n:Int):D6 (.int k n)=some (.int k n):=by simp [D6]
theorem A2d(b:Bool):D6 (.bool b)=some (.bool b):=by simp [D6]
theorem A88(b:ByteArray):D6 (.str b)=some (.str b):=by simp [D6]
theorem A89(e:TypeId)(xs:List D):D6 (.sl e xs)=some (.sl e xs):=by simp [D6]
theorem A8A(f:FuncId)(xs:List D):D6 (.clo f xs)=some (.clo f xs):=by simp [D6]
theorem A2e(xs:List D):D6 (.cptr xs)=some (.cptr xs):=by simp [D6]
def fzM(f:List D→D):Option (List D)→Option D
 | some xs=>some (f xs)
 | none=>none
theorem A8C(f:List D→D)(xs:List D):fzM f (some xs)=some (f xs):=nr rfl
theorem ni(e:TypeId)(xs:List D):D6 (.own e xs)=fzM (.sl e) (CS xs):=by simp only [D6];cases CS xs<;>rfl
theorem A8D(xs:List D):D6 (.box xs)=fzM .cptr (CS xs):=by simp only [D6];cases CS xs<;>rfl
theorem A8E(xs:List D):D6 (.agg xs)=fzM .agg (CS xs):=by simp only [D6];cases CS xs<;>rfl
theorem A8F(xs:List D):D6 (.tup xs)=fzM .tup (CS xs):=by simp only [D6];cases CS xs<;>rfl
theorem A2f:CS []=some []:=by simp [CS]
def fzC:Option D→Option (List D)→Option (List D)
 | some d,some ds=>some (d::ds)
 | _,_=>none
theorem AFO(d:D)(ds:List D):fzC (some d) (some ds)=some (d::ds):=nr rfl
theorem TD(d:D)(ds:List D):CS (d::ds)=fzC (D6 d) (CS ds):=by
 simp only [CS];cases D6 d<;>cases CS ds<;>rfl
theorem AFP(d:D):XP d=(D6 d).isSome:=nr rfl
section
variable {T:Tys} {s:St}
def lQ(n:Nat):Option (D×St)→Option (D×List D)
 | none=>none
 | some (r,s')=>if XP r&&((List.range n).map fun j=>s'.v (G+j)).all XQ then some (r,(List.range n).map fun j=>s'.v (G+j))else none
theorem fiD(n:Nat)(rs:List ResultVar):Vh T n rs s=lQ n (Lg T s rs):=by
 unfold Vh lQ;rcases Lg T s rs with _ | ⟨r,s'⟩<;>rfl
theorem fi0(r:D):lQ 0 (some (r,s))=if XP r then some (r,[])else none:=by simp [lQ]
theorem fiA(r:D):lQ 1 (some (r,s))=if XP r&&XQ (s.v 100000)then some (r,[s.v 100000])else none:=by
 simp [lQ,G,List.range_succ]
theorem fiB(r:D):lQ 2 (some (r,s))=if XP r&&(XQ (s.v 100000)&&XQ (s.v 100001))then some (r,[s.v 100000,s.v 100001])else none:=by
 simp [lQ,G,List.range_succ,and_assoc]
theorem fiC(r:D):lQ 3 (some (r,s))=if XP r&&(XQ (s.v 100000)&&(XQ (s.v 100001)&&XQ (s.v 100002)))then some (r,[s.v 100000,s.v 100001,s.v 100002])else none:=by
 simp [lQ,G,List.range_succ,and_assoc]
theorem fiE(r:D):lQ 4 (some (r,s))=if XP r&&(XQ (s.v 100000)&&(XQ (s.v 100001)&&(XQ (s.v 100002)&&XQ (s.v 100003))))then some (r,[s.v 100000,s.v 100001,s.v 100002,s.v 100003])else none:=by
 simp [lQ,G,List.range_succ,and_assoc]
theorem A2g(e:TypeId)(xs:List D):XQ (.own e xs)=(D6 (.own e xs)).isSome:=nr rfl
theorem A2h(xs:List D):XQ (.box xs)=(D6 (.box xs)).isSome:=nr rfl
theorem AFQ:XQ .undef=true:=nr rfl
theorem A8G(e:TypeId)(xs:List D):XQ (.sl e xs)=true:=by simp [XQ,D6]
theorem re1(r:ResultVar):Lg T s [r]=Ta T s r:=nr rfl
def reT:Option (List D×St)→Option (D×St)
 | some q=>some (.tup q.1,q.2)
 | none=>none
theorem AFR(q:List D×St):reT (some q)=some (.tup q.1,q.2):=nr rfl
theorem re2(r r':ResultVar)(rs:List ResultVar):Lg T s (r::r'::rs)=reT (ML T s (r::r'::rs)):=by
 show((ML T s (r::r'::rs)).map fun q=>(D.tup q.1,q.2))=_
 cases ML T s (r::r'::rs)<;>rfl
theorem re0:Lg T s []=some (.tup [],s):=nr rfl
theorem A8H(t:Tmp):Ta T s (.tmp t)=Vb Pm.all s t (s.v t):=nr rfl
theorem A8I:ML T s []=some ([],s):=nr rfl
def rdN(T:Tys)(rs:List ResultVar):Option (D×St)→Option (List D×St)
 | some (d,s)=>(ML T s rs).map fun p=>(d::p.1,p.2)
 | none=>none
theorem AFS(rs:List ResultVar)(d:D):rdN T rs (some (d,s))=(ML T s rs).map fun p=>(d::p.1,p.2):=nr rfl
theorem A2i(r:ResultVar)(rs:List ResultVar):ML T s (r::rs)=rdN T rs (Ta T s r):=by
 simp only [ML];rcases Ta T s r with _ | ⟨d,s'⟩<;>rfl
theorem AFT(r:Nat):Pm.all.rd r=true:=nr rfl
theorem AFU(r:Nat):Pm.all.wr r=true:=nr rfl
def Va(s:St)(dst:Option Tmp)(u:Tmp)(i:Nat):Option D→Option St
 | none=>none
 | some (.agg ys)=>Il s dst (Bd (.agg ((List.range ys.length).map fun j=>Cz s [u,i] j (ys.getD j .undef))))
 | some c=>Il s dst (Bd (Cz s [u] i c))
theorem A8J(dst:Option Tmp)(u:Tmp)(xs:List D)(i:Nat):IU s dst (.tmp u) (.tup xs) i=Va s dst u i xs[i]? :=by
 simp only [IU];rcases xs[i]? with _ | c
 ·rfl
 ·cases c<;>first | exact IC s dst _ | rfl
theorem A8K(dst:Option Tmp)(u:Tmp)(i:Nat)(ys:List D):Va s dst u i (some (.agg ys))=Il s dst (Bd (.agg ((List.range ys.length).map fun j=>Cz s [u,i] j (ys.getD j .undef)))):=nr rfl
theorem A8L(dst:Option Tmp)(u:Tmp)(i:Nat)(k:IntKind)(n:Int):Va s dst u i (some (.int k n))=some (s.putO dst (.int k n)):=by simp [Va,Bd,Cz,D.hasObj,Il]
theorem A2j(dst:Option Tmp)(u:Tmp)(i:Nat)(b:Bool):Va s dst u i (some (.bool b))=some (s.putO dst (.bool b)):=by simp [Va,Bd,Cz,D.hasObj,Il]
theorem A8M(dst:Option Tmp)(u:Tmp)(i:Nat)(b:ByteArray):Va s dst u i (some (.str b))=some (s.putO dst (.str b)):=by simp [Va,Bd,Cz,D.hasObj,Il]
theorem AFV(dst:Option Tmp)(u:Tmp)(i:Nat)(e:TypeId)(xs:List D):Va s dst u i (some (.sl e xs))=some (s.putO dst (.sl e xs)):=by simp [Va,Bd,Cz,D.hasObj,Il]
theorem A8N(dst:Option Tmp)(u:Tmp)(i:Nat)(e:TypeId)(xs:List D):Va s dst u i (some (.own e xs))=some (s.putO dst (.vw [u,i] (s.k u) (s.m u))):=by simp [Va,Bd,Cz,D.hasObj,Il,cB]
theorem A8O(dst:Option Tmp)(u:Tmp)(i:Nat)(f:FuncId)(xs:List D):Va s dst u i (some (.clo f xs))=some (s.putO dst (.clo f xs)):=by simp [Va,Bd,Cz,D.hasObj,Il]
theorem A8P(xs:List D)(c:Nat)(p:AB):BQ (.tup xs) (c::p)=(xs[c]?).bind fun d=>BQ d p:=nr rfl
theorem A8Q(xs:List D)(c:Nat)(p:AB)(x:D):FN (.tup xs) (c::p) x= .tup (xs.set c (FN (xs.getD c .undef) p x)):=nr rfl
theorem AFW(L:AB)(xs:List D)(c:D):pl2 s L (some (.tup xs)) (some c)=some (c,s.set L .undef):=nr rfl
theorem A8R(deep:Bool):back deep s []=s:=nr rfl
theorem bkT(t:Nat)(p:AB)(c:D)(rest:List (AB×D)):back true s ((t::p,c)::rest)=back true ((s.set (t::p) c).bump t) rest:=nr rfl
theorem bkF(t:Nat)(p:AB)(c:D)(rest:List (AB×D)):back false s ((t::p,c)::rest)=back false (s.set (t::p) c) rest:=nr rfl
theorem bkE(deep:Bool)(c:D)(rest:List (AB×D)):back deep s (([],c)::rest)=back deep s rest:=nr rfl
theorem bkL(Ls:List AB)(outs:List D):KE s Ls outs=back true (back false s (Ls.map fun L=>(L,.undef))) (Ls.zip outs):=nr rfl
theorem A8S:E9 []=true:=nr rfl
theorem A2k(L:AB)(Ls:List AB):E9 (L::Ls)=((L.isEmpty||Ls.all fun M=>M.isEmpty||(!L.isPrefixOf M&& !M.isPrefixOf L))&&E9 Ls):=nr rfl
theorem ipC(a b:Nat)(l m:AB):List.isPrefixOf (a::l) (b::m)=(a==b&&List.isPrefixOf l m):=nr rfl
theorem ipN(l:AB):List.isPrefixOf [] l=true:=by cases l<;>rfl
theorem ipE(a:Nat)(l:AB):List.isPrefixOf (a::l) []=false:=nr rfl
theorem ieC(a:Nat)(l:AB):List.isEmpty (a::l)=false:=nr rfl
theorem ieN:List.isEmpty ([]:AB)=true:=nr rfl
end
section
variable {T:Tys} {pm:Pm} {s:St}
def fl1(T:Tys)(pm:Pm)(tf:Nat→TypeId)(sz:Nat)(cs:List D)(i:Nat)(rest:List (Nat×Operand)):Option (D×St)→Option (List D×St)
 | none=>none
 | some (d,s1)=>if d.asCells.length=sz∧i*sz+sz≤cs.length then FP T pm tf sz s1 (Bn cs (i*sz) d.asCells) rest else none
theorem A8T(tf:Nat→TypeId)(sz:Nat)(cs:List D):FP T pm tf sz s cs []=some (cs,s):=nr rfl
theorem A2l(tf:Nat→TypeId)(sz:Nat)(cs:List D)(i:Nat)(x:Operand)(rest:List (Nat×Operand)):FP T pm tf sz s cs ((i,x)::rest)=fl1 T pm tf sz cs i rest (take T pm s (tf i) x):=by
 simp only [FP];rcases take T pm s (tf i) x with _ | ⟨d,s1⟩<;>rfl
theorem AFY(tf:Nat→TypeId)(cs:List D)(i:Nat)(rest:List (Nat×Operand))(d:D)(h:d.isAgg=false):fl1 T pm tf 1 cs i rest (some (d,s))=if i+1≤cs.length then FP T pm tf 1 s (cs.set i d) rest else none:=by
 have ha:d.asCells=[d]:=by cases d<;>first | rfl | (simp [D.isAgg]at h)
 simp only [fl1,ha,List.length_cons,List.length_nil,Nat.zero_add,Nat.mul_one,true_and,Bn]
end
section
variable (pm:Pm) (s:St) (u:Tmp)
def QG(pm:Pm)(u:Tmp)(d:D):Bool:= !d.hasObj||d.isObj||pm.wr u
theorem mvT:Ew pm s (.move (.tmp u))=QG pm u (s.v u):=nr rfl
theorem AFZ(v:Value):Ew pm s (.move (.const v))=true:=nr rfl
theorem AFa(f:FuncId):Ew pm s (.move (.func f))=true:=nr rfl
theorem A2m(k:IntKind)(n:Int):QG pm u (.int k n)=true:=by simp [QG,D.hasObj]
theorem uL(b:Bool):QG pm u (.bool b)=true:=by simp [QG,D.hasObj]
theorem A2n(b:ByteArray):QG pm u (.str b)=true:=by simp [QG,D.hasObj]
theorem A8U(e:TypeId)(xs:List D):QG pm u (.sl e xs)=true:=by simp [QG,D.hasObj]
theorem A2o(e:TypeId)(xs:List D):QG pm u (.own e xs)=true:=by simp [QG,D.isObj]
theorem A2p(xs:List D):QG pm u (.box xs)=true:=by simp [QG,D.isObj]
theorem A8V(L:AB)(n m:Nat):QG pm u (.vw L n m)=true:=by simp [QG,D.hasObj]
theorem A8W(L:AB)(c n m:Nat):QG pm u (.pe L c n m)=true:=by simp [QG,D.hasObj]
theorem AFb(v:Value):QG pm u (.konst v)=true:=by simp [QG,D.hasObj]
theorem A2q(f:FuncId)(xs:List D):QG pm u (.clo f xs)=true:=by simp [QG,D.hasObj]
theorem uM(xs:List D):QG pm u (.cptr xs)=true:=by simp [QG,D.hasObj]
theorem A2r(xs:List D):QG pm u (.agg xs)=(!Ah xs||pm.wr u):=by simp [QG,D.hasObj,D.isObj]
theorem A2s(xs:List D):QG pm u (.tup xs)=(!Ah xs||pm.wr u):=by simp [QG,D.hasObj,D.isObj]
theorem nk(x:Operand):Ew pm s (.assign x)=true:=nr rfl
theorem A2t(a b c:Operand):Ew pm s (.pick a b c)=true:=nr rfl
theorem uN(t:TypeId):Ew pm s (.alloc t)=true:=nr rfl
theorem A8X(t:TypeId)(x:Operand):Ew pm s (.box t x)=true:=nr rfl
theorem uO(t:TypeId)(p:Array (Nat×Operand)):Ew pm s (.build t p)=true:=nr rfl
theorem AFc(t:TypeId)(n:Nat)(p:Array (Nat×Operand)):Ew pm s (.buildSlice t n p)=true:=nr rfl
theorem A2u(t:TypeId)(x:Operand):Ew pm s (.load t x)=true:=nr rfl
theorem uP(t:TypeId)(x y:Operand):Ew pm s (.store t x y)=true:=nr rfl
theorem A8Y(o:BinOp)(t:TypeId)(x y:Operand)(t':TypeId):Ew pm s (.binOp o t x y t')=true:=nr rfl
theorem AFd(o:UnOp)(t:TypeId)(x:Operand):Ew pm s (.unOp o t x)=true:=nr rfl
theorem A2v(t t':TypeId)(x:Operand):Ew pm s (.convert t t' x)=true:=nr rfl
theorem AFe(f:Fn)(a b:Array Operand):Ew pm s (.makeFunc f a b)=true:=nr rfl
theorem AFf(t:TypeId)(a b:Operand):Ew pm s (.makeSlice t a b)=true:=nr rfl
theorem AFg(t:TypeId)(x:Operand)(a b c:Option Operand):Ew pm s (.slice t x a b c)=true:=nr rfl
theorem AFh(x:Operand):Ew pm s (.nilCheck x)=true:=nr rfl
theorem AFi(t:TypeId)(x i:Operand)(ok:Bool):Ew pm s (.lookup t x i ok)=true:=nr rfl
theorem AFj(t:TypeId)(r:Option Operand):Ew pm s (.makeMap t r)=true:=nr rfl
theorem AFk(t:TypeId)(x i v:Operand):Ew pm s (.mapUpdate t x i v)=true:=nr rfl
theorem AFl(t:TypeId)(x:Operand)(i:Nat):Ew pm s (.fieldAddr t x i)=true:=nr rfl
theorem AFm(t:TypeId)(x i:Operand):Ew pm s (.indexAddr t x i)=true:=nr rfl
theorem AFn(x:Operand)(i:Nat):Ew pm s (.extract x i)=true:=nr rfl
theorem A2w(c:Call):Ew pm s (.call c)=true:=nr rfl
theorem pmR(n r w:List Nat)(x:Nat):(PmL.pm ⟨n,r,w⟩).rd x=(n.contains x|| !r.contains x):=nr rfl
theorem pmW(n r w:List Nat)(x:Nat):(PmL.pm ⟨n,r,w⟩).wr x=w.contains x:=nr rfl
section
variable {E:Env} {dst:Option Tmp} {t ty:TypeId}
theorem AFo(t:TypeId):KH E pm s dst (.makeMap t none) ty=Il s dst (Km E.T t):=IC s dst _
theorem yLk(v:Tmp)(ok:Bool):KH E pm s dst (.lookup t (.tmp u) (.tmp v) ok) ty=Il s dst (I5 E.T pm s t (.tmp u) (s.v u) (s.v v) ok):=IC s dst _
theorem yMu(v x:Tmp):KH E pm s none (.mapUpdate t (.tmp u) (.tmp v) (.tmp x)) ty=Hq E.T pm s t (.tmp u) (s.v u) (s.v v) (s.v x):=nr rfl
def muC(T:Tys)(pm:Pm)(s:St)(t:TypeId)(u:Tmp)(d i:D):Option D→Option St
 | some v=>Hq T pm s t (.tmp u) d i v
 | none=>none
theorem AFp(T:Tys)(d i v:D):muC T pm s t u d i (some v)=Hq T pm s t (.tmp u) d i v:=nr rfl
theorem AFq(v:Tmp)(x:Value):KH E pm s none (.mapUpdate t (.tmp u) (.tmp v) (.const x)) ty=muC E.T pm s t u (s.v u) (s.v v) (ev E.T s (TV E.T t) (.const x)):=by
 show(match some (s.v u),some (s.v v),ev E.T s (TV E.T t) (.const x)with | some a,some b,some c=>Hq E.T pm s t (.tmp u) a b c | _,_,_=>none)=_
 cases ev E.T s (TV E.T t) (.const x)<;>rfl
def mv0:Ty→TypeId
 | .map _ e=>e
 | _=>0
theorem uQ(T:Tys)(t:TypeId):TV T t=mv0 (T.ty t):=nr rfl
theorem AFr(k e:TypeId):mv0 (.map k e)=e:=nr rfl
def nm1:Ty→Ty→Option (List (Nat×TypeId))→Option (Bool×Nat)
 | .int .i64,.int .i64,none=>some (true,2)
 | _,_,_=>none
theorem AFs:nm1 (.int .i64) (.int .i64) none=some (true,2):=nr rfl
def nm0(T:Tys)(t:TypeId):Ty→Option (Bool×Nat)
 | .int .i64=>some (false,1)
 | .struct [a,b]=>nm1 (T.ty a) (T.ty b) (T.nest t)
 | _=>none
theorem A8Z(T:Tys)(t:TypeId):T.nums t=nm0 T t (T.ty t):=by
 unfold Tys.nums nm0;split
 ·rename_i h;rw [h]
 ·rename_i a b h;rw [h];unfold nm1;rfl
 ·rename_i h1 h2
  cases h:T.ty t with
  | int k=>cases k<;>first | rfl | exact(h1 h).elim
  | struct fs=>
   rcases fs with _ | ⟨a,_ | ⟨b,_ | ⟨c,l⟩⟩⟩
   ·rfl
   ·rfl
   ·exact(h2 a b h).elim
   ·rfl
  | _=>rfl
theorem AFt(T:Tys)(t:TypeId):nm0 T t (.int .i64)=some (false,1):=nr rfl
theorem AFu(T:Tys)(t a b:TypeId):nm0 T t (.struct [a,b])=nm1 (T.ty a) (T.ty b) (T.nest t):=nr rfl
def mm1(k e:TypeId):Option (Bool×Nat)→Option (Bool×Nat)→Option D
 | some _,some _=>some (.mp k e [])
 | _,_=>none
def mm0(T:Tys):Ty→Option D
 | .map k e=>mm1 k e (T.nums k) (T.nums e)
 | _=>none
theorem yMm(T:Tys)(t:TypeId):Km T t=mm0 T (T.ty t):=by
 unfold Km mm0
 cases T.ty t with
 | map k e=>simp only [mm1];cases T.nums k<;>cases T.nums e<;>rfl
 | _=>rfl
theorem AFw(T:Tys)(k e:TypeId):mm0 T (.map k e)=mm1 k e (T.nums k) (T.nums e):=nr rfl
def lkR(ea ok:Bool)(r:List Int×Bool):D:=if ok=true then .tup [PD ea r.1,.bool r.2]else PD ea r.1
def lk2(ea ok:Bool)(es:List (List Int×List Int))(en:Nat):Option (List Int)→Option D
 | some key=>some (lkR ea ok (MH es key en))
 | none=>none
theorem AFy(ea ok:Bool)(es:List (List Int×List Int))(en:Nat)(key:List Int):lk2 ea ok es en (some key)=some (lkR ea ok (MH es key en)):=nr rfl
def lk1(es:List (List Int×List Int))(k' e' k e:TypeId)(i:D)(ok:Bool):Option (Bool×Nat)→Option (Bool×Nat)→Option D
 | some (ka,kn),some (ea,en)=>if k'=k∧e'=e then lk2 ea ok es en (KD ka kn i)else none
 | _,_=>none
def lk0(T:Tys)(es:List (List Int×List Int))(k' e':TypeId)(i:D)(ok:Bool):Ty→Option D
 | .map k e=>lk1 es k' e' k e i ok (T.nums k) (T.nums e)
 | _=>none
theorem A8b(T:Tys)(k' e':TypeId)(es:List (List Int×List Int))(i:D)(ok:Bool):I5 T pm s t (.tmp u) (.mp k' e' es) i ok=lk0 T es k' e' i ok (T.ty t):=by
 unfold I5 lk0;simp only [Pg]
 cases T.ty t with
 | map k e=>
  simp only [lk1]
  cases T.nums k<;>cases T.nums e<;>try rfl
  simp only;split
  ·cases KD _ _ i<;>rfl
  ·rfl
 | _=>rfl
def lkW(T:Tys)(i:D)(ok:Bool)(ty:Ty):Option (TypeId×TypeId×List (List Int×List Int))→Option D
 | some (k',e',es)=>lk0 T es k' e' i ok ty
 | none=>none
theorem AG0(T:Tys)(i:D)(ok:Bool)(ty:Ty)(k' e':TypeId)(es:List (List Int×List Int)):lkW T i ok ty (some (k',e',es))=lk0 T es k' e' i ok ty:=nr rfl
theorem A2x(T:Tys)(x:Operand)(L:AB)(n m:Nat)(i:D)(ok:Bool):I5 T pm s t x (.vw L n m) i ok=lkW T i ok (T.ty t) (s.lookM pm L n):=by
 unfold I5 lkW lk0;simp only [Pg]
 cases s.lookM pm L n with
 | none=>cases T.ty t<;>rfl
 | some q=>
  cases T.ty t with
  | map k e=>
   simp only [lk1,Option.map_some]
   cases T.nums k<;>cases T.nums e<;>try rfl
   simp only;split
   ·cases KD _ _ i<;>rfl
   ·rfl
  | _=>rfl
theorem AG1(T:Tys)(es:List (List Int×List Int))(k' e' k e:TypeId)(i:D)(ok:Bool):lk0 T es k' e' i ok (.map k e)=lk1 es k' e' k e i ok (T.nums k) (T.nums e):=nr rfl
theorem AG2(es:List (List Int×List Int))(k e:TypeId)(i:D)(ok ka ea:Bool)(kn en:Nat):lk1 es k e k e i ok (some (ka,kn)) (some (ea,en))=lk2 ea ok es en (KD ka kn i):=by simp [lk1]
theorem A8c(x:Int):KD false 1 (.int .i64 x)=some [x]:=nr rfl
theorem A8d(x y:Int):KD true 2 (.agg [.int .i64 x,.int .i64 y])=some [x,y]:=nr rfl
def mu2(s:St)(u:Tmp)(k e:TypeId)(es:List (List Int×List Int)):Option (List Int)→Option (List Int)→Option St
 | some key,some val=>some (s.set [u] (.mp k e (PE es key val)))
 | _,_=>none
theorem AG4(k e:TypeId)(es:List (List Int×List Int))(key val:List Int):mu2 s u k e es (some key) (some val)=some (s.set [u] (.mp k e (PE es key val))):=nr rfl
def mu1(pm:Pm)(s:St)(u:Tmp)(es:List (List Int×List Int))(k' e' k e:TypeId)(i v:D):Option (Bool×Nat)→Option (Bool×Nat)→Option St
 | some (ka,kn),some (ea,en)=>if k'=k∧e'=e∧pm.wr u=true then mu2 s u k e es (KD ka kn i) (KD ea en v)else none
 | _,_=>none
def mu0(T:Tys)(pm:Pm)(s:St)(u:Tmp)(es:List (List Int×List Int))(k' e':TypeId)(i v:D):Ty→Option St
 | .map k e=>mu1 pm s u es k' e' k e i v (T.nums k) (T.nums e)
 | _=>none
theorem AG5(T:Tys)(k' e':TypeId)(es:List (List Int×List Int))(i v:D):Hq T pm s t (.tmp u) (.mp k' e' es) i v=mu0 T pm s u es k' e' i v (T.ty t):=by
 unfold Hq mu0;simp only [Pg]
 cases T.ty t with
 | map k e=>
  simp only [mu1]
  cases T.nums k<;>cases T.nums e<;>rfl
 | _=>rfl
def muW(T:Tys)(pm:Pm)(s:St)(u:Tmp)(i v:D)(ty:Ty):Option (TypeId×TypeId×List (List Int×List Int))→Option St
 | some (k',e',es)=>mu0 T pm s u es k' e' i v ty
 | none=>none
theorem AG7(T:Tys)(i v:D)(ty:Ty)(k' e':TypeId)(es:List (List Int×List Int)):muW T pm s u i v ty (some (k',e',es))=mu0 T pm s u es k' e' i v ty:=nr rfl
theorem A8e(T:Tys)(x:Operand)(n m:Nat)(i v:D):Hq T pm s t x (.vw [u] n m) i v=muW T pm s u i v (T.ty t) (s.lookM pm [u] n):=by
 unfold Hq muW mu0;simp only [Pg]
 cases s.lookM pm [u] n with
 | none=>cases T.ty t<;>rfl
 | some q=>
  cases T.ty t with
  | map k e=>
   simp only [mu1,Option.map_some]
   cases T.nums k<;>cases T.nums e<;>rfl
  | _=>rfl
theorem AG8(T:Tys)(es:List (List Int×List Int))(k' e' k e:TypeId)(i v:D):mu0 T pm s u es k' e' i v (.map k e)=mu1 pm s u es k' e' k e i v (T.nums k) (T.nums e):=nr rfl
theorem AG9(es:List (List Int×List Int))(k e:TypeId)(i v:D)(ka ea:Bool)(kn en:Nat)(hw:pm.wr u=true):mu1 pm s u es k e k e i v (some (ka,kn)) (some (ea,en))=mu2 s u k e es (KD ka kn i) (KD ea en v):=by simp [mu1,hw]
def A2y(n:Nat):Ty→Option D
 | .map _ _=>some (.int .i64 n)
 | _=>none
theorem A8f(T:Tys)(k e:TypeId)(es:List (List Int×List Int)):MJ T pm s t (.tmp u) (.mp k e es)=A2y es.length (T.ty t):=by
 show Ve T pm s t (.tmp u) (.mp k e es)=_
 unfold Ve A2y;simp only [Pg]
 cases T.ty t<;>rfl
theorem A8g(n:Nat)(k e:TypeId):A2y n (.map k e)=some (.int .i64 n):=nr rfl
def nu(l:List (Int×Int))(k:Int):Int×Bool:=match l.find? (fun p=>p.1==k)with | some p=>(p.2,true) | none=>(0,false)
def wD(l:List (Int×Int))(k v:Int):List (Int×Int):=match l.findIdx? (fun p=>p.1==k)with | some i=>l.set i (k,v) | none=>l++[(k,v)]
def aQ(l:List (Int×Int)):List (List Int×List Int):=l.map fun p=>([p.1],[p.2])
abbrev E2:=Int×Int
def iY(l:List (E2×E2))(k:E2):E2×Bool:=match l.find? (fun p=>p.1==k)with | some p=>(p.2,true) | none=>((0,0),false)
def wE(l:List (E2×E2))(k v:E2):List (E2×E2):=match l.findIdx? (fun p=>p.1==k)with | some i=>l.set i (k,v) | none=>l++[(k,v)]
def aR(l:List (E2×E2)):List (List Int×List Int):=l.map fun p=>([p.1.1,p.1.2],[p.2.1,p.2.2])
theorem A8h(k e:TypeId):mm1 k e (some (false,1)) (some (false,1))=some (.mp k e (aQ [])):=nr rfl
theorem A8i(k e:TypeId):mm1 k e (some (true,2)) (some (true,2))=some (.mp k e (aR [])):=nr rfl
theorem MW{α β:Type}(f:α→β)(p:β→Bool)(q:α→Bool)(h: ∀a,p (f a)=q a): ∀(l:List α),(l.map f).find? p=(l.find? q).map f∧(l.map f).findIdx? p=l.findIdx? q
 | []=>⟨rfl,rfl⟩
 | a::l=>by
  obtain⟨h1,h2⟩:=MW f p q h l;simp only [List.map_cons,List.find?_cons,List.findIdx?_cons,h]
  cases q a
  ·exact⟨h1,by simp only [h2]⟩
  ·exact⟨rfl,rfl⟩
theorem ny(l:List (Int×Int))(k:Int):MH (aQ l) [k] 1=([(nu l k).1],(nu l k).2):=by
 unfold MH nu aQ;rw [(MW _ _ (fun p=>p.1==k) (fun p=>by simp) l).1]
 cases l.find? (fun p=>p.1==k)<;>rfl
theorem nz(l:List (Int×Int))(k v:Int):PE (aQ l) [k] [v]=aQ (wD l k v):=by
 unfold PE wD aQ;rw [(MW _ _ (fun p=>p.1==k) (fun p=>by simp) l).2]
 cases l.findIdx? (fun p=>p.1==k)<;>simp [List.map_set]
theorem o5(l:List (Int×Int)):(aQ l).length=l.length:=by simp [aQ]
theorem o6(l:List (E2×E2))(a b:Int):MH (aR l) [a,b] 2=([(iY l (a,b)).1.1,(iY l (a,b)).1.2],(iY l (a,b)).2):=by
 unfold MH iY aR;rw [(MW _ _ (fun p=>p.1==(a,b)) (fun p=>by obtain⟨⟨x,y⟩,z⟩:=p;rw [Bool.eq_iff_iff];simp) l).1]
 cases l.find? (fun p=>p.1==(a,b))<;>rfl
theorem o7(l:List (E2×E2))(a b c d:Int):PE (aR l) [a,b] [c,d]=aR (wE l (a,b) (c,d)):=by
 unfold PE wE aR;rw [(MW _ _ (fun p=>p.1==(a,b)) (fun p=>by obtain⟨⟨x,y⟩,z⟩:=p;rw [Bool.eq_iff_iff];simp) l).2]
 cases l.findIdx? (fun p=>p.1==(a,b))<;>simp [List.map_set]
theorem o8(l:List (E2×E2)):(aR l).length=l.length:=by simp [aR]
theorem AGA(x:Int)(b:Bool):lkR false false ([x],b)= .int .i64 x:=nr rfl
theorem AGB(x:Int)(b:Bool):lkR false true ([x],b)= .tup [.int .i64 x,.bool b]:=nr rfl
theorem AGC(x y:Int)(b:Bool):lkR true false ([x,y],b)= .agg [.int .i64 x,.int .i64 y]:=nr rfl
theorem AGD(x y:Int)(b:Bool):lkR true true ([x,y],b)= .tup [.agg [.int .i64 x,.int .i64 y],.bool b]:=nr rfl
set_option linter.defProp false in
def AGE:=And.intro @AFo (And.intro @yLk (And.intro @yMu (And.intro @AFp (And.intro @AFq (And.intro @uQ (And.intro @AFr (And.intro @AFs (And.intro @A8Z (And.intro @AFt (And.intro @AFu (And.intro @yMm (And.intro @AFw (And.intro @A8h (And.intro @A8i (And.intro @AFy (And.intro @A8b (And.intro @AG1 (And.intro @AG2 (And.intro @A8c (And.intro @A8d
 (And.intro @AG4 (And.intro @AG5 (And.intro @AG8 (And.intro @AG9 (And.intro @A8f (And.intro @A8g (And.intro @ny (And.intro @nz (And.intro @o5 (And.intro @o6 (And.intro @o7 (And.intro @o8 (And.intro @AGA (And.intro @AGB (And.intro @AGC (And.intro @AG0 (And.intro @A2x (And.intro @AG7 (And.intro @A8e (@AGD))))))))))))))))))))))))))))))))))))))))
end
end
end Dv
namespace Dv
open Go
theorem Ir(n:Int)(h: -9223372036854775808≤n∧n≤9223372036854775807):IntKind.i64.wrap n=n:=IntWalk.i64_in n h
section
variable {T:Tys} {pm:Pm} {s:St} {t:TypeId}
theorem kN(xs:List Int)(i:Nat)(h:i<xs.length):(Ca xs).getD i .undef= .int .i64 (xs.getD i 0):=by
 simp [Ca,List.getD_eq_getElem?_getD,h]
theorem QH(xs:List Int)(i:Nat)(h:i<xs.length):(Ca xs)[i]? =some (.int .i64 (xs.getD i 0)):=by
 simp [Ca,List.getD_eq_getElem?_getD,h]
theorem o9(xs:List Int)(i:Nat)(n:Int):(Ca xs).set i (.int .i64 n)=Ca (xs.set i n):=by simp [Ca]
theorem aS(xs ys:List Int):Ca xs++Ca ys=Ca (xs++ys):=by simp [Ca]
theorem Wz(x:Int)(xs:List Int):Ca (x::xs)= .int .i64 x::Ca xs:=nr rfl
theorem oC(n:Nat)(x:Int):List.replicate n (D.int .i64 x)=Ca (List.replicate n x):=by simp [Ca]
theorem AGF(e:TypeId)(n:Int)(xs:List Int)(hk:T.known e=true)(hz:T.size e=1)(hn:0≤n∧n.toNat<xs.length):Wx T e n (some (e,Ca xs,none))=some (.cptr [.int .i64 (xs.getD n.toNat 0)]):=by
 rw [A27 e n (Ca xs) hk hz (by simpa [Ca] using hn),kN xs _ hn.2]
theorem A8j(e:TypeId)(n:Int)(xs:List Int)(L:AB)(a b:Nat)(hk:T.known e=true)(hz:T.size e=1)(hn:0≤n∧n.toNat<xs.length):Wx T e n (some (e,Ca xs,some (L,a,b)))=some (.pe L n.toNat a b):=
 uI e n (Ca xs) L a b hk hz (by simpa [Ca] using hn)
def Xx(e:TypeId)(xss:List (List Int)):List D:=xss.map fun xs=> .sl e (Ca xs)
def NA(e:TypeId)(xss:List (List Int)):List D:=xss.map fun xs=> .own e (Ca xs)
theorem ek(e:TypeId)(xss:List (List Int)):(Xx e xss).length=xss.length:=by simp [Xx]
theorem aT(e:TypeId)(xss:List (List Int)):(NA e xss).length=xss.length:=by simp [NA]
theorem eu(e:TypeId)(xss:List (List Int)):Ah (Xx e xss)=false:=by
 induction xss with
 | nil=>rfl
 | cons x xss ih=>simp only [Xx,List.map_cons,Ah,D.hasObj,Bool.false_or];exact ih
theorem uR(e:TypeId)(xss:List (List Int)):CS (Xx e xss)=some (Xx e xss):=by
 induction xss with
 | nil=>rfl
 | cons x xss ih=>simp only [Xx,List.map_cons,TD,A89]at ih ⊢;rw [ih];rfl
theorem oD(e:TypeId)(xss:List (List Int)):CS (NA e xss)=some (Xx e xss):=by
 induction xss with
 | nil=>rfl
 | cons x xss ih=>simp only [NA,Xx,List.map_cons,TD,ni,aN,A8C]at ih ⊢;rw [ih];rfl
theorem fA(e:TypeId)(xss:List (List Int)):Cc (NA e xss)=false:=by
 induction xss with
 | nil=>rfl
 | cons x xss ih=>simp only [NA,List.map_cons,iX,wC,UJ,Bool.false_or];exact ih
theorem kP(e:TypeId)(xss:List (List Int)):(Xx e xss).all Bf=true:=by simp [Xx,Bf]
theorem fB(e:TypeId)(xss:List (List Int)):(NA e xss).all Bf=true:=by simp [NA,Bf]
theorem oF(e:TypeId)(xss:List (List Int))(i:Nat)(h:i<xss.length):(Xx e xss).getD i .undef= .sl e (Ca (xss.getD i [])):=by
 simp [Xx,List.getD_eq_getElem?_getD,h]
theorem A2z(e:TypeId)(xss:List (List Int))(i:Nat)(h:i<xss.length):(Xx e xss)[i]? =some (.sl e (Ca (xss.getD i []))):=by
 simp [Xx,List.getD_eq_getElem?_getD,h]
theorem uS(e:TypeId)(xss:List (List Int))(i:Nat)(h:i<xss.length):(NA e xss)[i]? =some (.own e (Ca (xss.getD i []))):=by
 simp [NA,List.getD_eq_getElem?_getD,h]
theorem oG(e:TypeId)(xss:List (List Int))(i:Nat)(x:List Int):(NA e xss).set i (.own e (Ca x))=NA e (xss.set i x):=by simp [NA]
theorem Xy(e:TypeId)(x:List Int)(xss:List (List Int)):Ah (NA e (x::xss))=true:=by simp [NA,Ah,D.hasObj]
theorem AGG(e e':TypeId)(n:Int)(xss:List (List Int))(hk:T.known e=true)(hz:T.size e=1)(hn:0≤n∧n.toNat<xss.length):Wx T e n (some (e,Xx e' xss,none))=some (.cptr [.sl e' (Ca (xss.getD n.toNat []))]):=by
 rw [A27 e n (Xx e' xss) hk hz (by simpa [Xx] using hn),oF e' xss _ hn.2]
theorem A8k(e e':TypeId)(n:Int)(xss:List (List Int))(L:AB)(a b:Nat)(hk:T.known e=true)(hz:T.size e=1)(hn:0≤n∧n.toNat<xss.length):Wx T e n (some (e,NA e' xss,some (L,a,b)))=some (.pe L n.toNat a b):=
 uI e n (NA e' xss) L a b hk hz (by simpa [NA] using hn)
variable {E:Env} {dst:Option Tmp} {ty:TypeId}
def A8l(e:TypeId)(dst:Option Tmp):Option (List D×St)→Option St
 | some (xs,s)=>some (s.putO dst (.own e xs))
 | none=>none
theorem A8m(e:TypeId)(xs:List D):A8l e dst (some (xs,s))=some (s.putO dst (.own e xs)):=nr rfl
def kQ(dst:Option Tmp):Option (List D×St)→Option St
 | some (xs,s)=>some (s.putO dst (.agg xs))
 | none=>none
theorem A8n(xs:List D):kQ dst (some (xs,s))=some (s.putO dst (.agg xs)):=nr rfl
theorem UK(T:Tys){e:TypeId}(hs:T.isStruct e=false):T.size e=1∧T.zeros e=[T.zero1 e]:=by
 unfold Tys.isStruct at hs;unfold Tys.size Tys.zeros
 cases hty:T.ty e<;>simp_all [Ty.isStruct,Ty.size]
def oH(E:Env)(pm:Pm)(s:St)(dst:Option Tmp)(len:Nat)(parts:Array (Nat×Operand)):Ty→Option St
 | .slice e=>
   if len*E.T.size e≤4096∧E.T.known e=true then
    (FP E.T pm (fun _=>e) (E.T.size e) s ((List.range (len*E.T.size e)).map fun j=>(E.T.zeros e).getD (j % E.T.size e) .undef) parts.toList).map fun r=>r.2.putO dst (.own e r.1)
   else none
 | _=>none
theorem A30(len:Nat)(parts:Array (Nat×Operand)):TU E.T pm s dst t len parts=oH E pm s dst len parts (E.T.ty t):=by
 unfold TU oH
 cases E.T.ty t<;>rfl
theorem yBs(len:Nat)(parts:Array (Nat×Operand)):KH E pm s dst (.buildSlice t len parts) ty=if ty=900004 then fcB pm dst (oH E pm s dst len parts (E.T.ty t))else oH E pm s dst len parts (E.T.ty t):=by
 rw [UH,A30];by_cases h:ty=900004
 ·rw [if_pos h,if_pos h];unfold fcB
  cases oH E pm s dst len parts (E.T.ty t)<;>cases dst<;>rfl
 ·rw [if_neg h,if_neg h]
theorem AGH(len:Nat)(parts:Array (Nat×Operand))(e:TypeId)(hk:E.T.known e=true)(hs:E.T.isStruct e=false)(hl:len≤4096):
  oH E pm s dst len parts (.slice e)=A8l e dst (FP E.T pm (fun _=>e) 1 s (List.replicate len (E.T.zero1 e)) parts.toList):=by
 obtain⟨hz,hzz⟩:=UK E.T hs
 have hrep:((List.range (len*1)).map fun j=>(E.T.zeros e).getD (j % 1) .undef)=List.replicate len (E.T.zero1 e):=by
  rw [hzz];apply List.ext_getElem
  ·simp
  ·intro i h1 h2;simp [Nat.mod_one]
 simp only [oH,hz];rw [if_pos ⟨by omega,hk⟩,hrep]
 rcases FP E.T pm (fun _=>e) 1 s (List.replicate len (E.T.zero1 e)) parts.toList with _ | ⟨a,b⟩<;>rfl
def bsA(E:Env)(e:TypeId)(dst:Option Tmp):Option (D×St)→Option St
 | some (d,s1)=>if d.asCells.length=E.T.size e then some (s1.putO dst (.own e d.asCells))else none
 | none=>none
theorem AGJ(e:TypeId)(xs:List D)(h:xs.length=E.T.size e):bsA E e dst (some (.agg xs,s))=some (s.putO dst (.own e xs)):=by
 show(if xs.length=E.T.size e then some (s.putO dst (.own e xs))else none)=_
 rw [if_pos h]
theorem aU(cs ys:List D)(h:ys.length=cs.length):Bn cs 0 ys=ys:=by
 refine List.ext_getElem? fun i=> ?_;rw [IA (by omega)]
 by_cases hi:i<ys.length
 ·rw [if_pos (by omega)];rfl
 ·rw [if_neg (by omega),List.getElem?_eq_none (by omega),List.getElem?_eq_none (by omega)]
theorem AGK(e:TypeId)(x:Operand)(hk:E.T.known e=true)(hs:E.T.isStruct e=true)(hz:E.T.size e≤4096):oH E pm s dst 1 #[(0,x)] (.slice e)=bsA E e dst (take E.T pm s e x):=by
 simp only [oH,FP];rw [if_pos ⟨by omega,hk⟩]
 rcases take E.T pm s e x with _ | ⟨d,s1⟩
 ·rfl
 ·simp only [bsA];by_cases h:d.asCells.length=E.T.size e
  ·rw [if_pos ⟨h,by simp⟩,if_pos h,Nat.zero_mul,aU _ _ (by simp [h])];rfl
  ·rw [if_neg (fun hc=>h hc.1),if_neg h];rfl
theorem AGL(u:Tmp)(e:TypeId)(L:AB)(n m lo len:Nat):BG pm s dst (.tmp u) (.vs e L n m lo len)=some (s.putO dst (.vs e L n m lo len)):=by
 show some (if(D.vs e L n m lo len).hasObj then(s.clr u).putO dst (.vs e L n m lo len)else s.putO dst (.vs e L n m lo len))=_
 rw [if_neg (by simp [D.hasObj])]
theorem AGM(e:TypeId)(hk:E.T.known e=true):oH E pm s dst 0 #[] (.slice e)=some (s.putO dst (.own e [])):=by
 simp [oH,hk,FP]
def bdN(E:Env)(pm:Pm)(s:St)(dst:Option Tmp)(t:TypeId)(parts:Array (Nat×Operand)):Option St:=
 match E.T.ty t with
 | .struct fs=>if E.T.known t then kQ dst (FP E.T pm (fun i=>fs.getD i 0) 1 s (E.T.zeros t) parts.toList)else none
 | _=>none
def bd0(E:Env)(pm:Pm)(s:St)(dst:Option Tmp)(t:TypeId)(parts:Array (Nat×Operand)):Option (List (Nat×TypeId))→Option St
 | some fl=>if E.T.isStruct t&&E.T.known t then kQ dst (JI E.T pm fl s (E.T.zeros t) parts.toList)else none
 | none=>bdN E pm s dst t parts
theorem A31(parts:Array (Nat×Operand)):KH E pm s dst (.build t parts) ty=bd0 E pm s dst t parts (E.T.nest t):=by
 rw [kG];unfold bd0 bdN
 cases E.T.nest t with
 | some fl=>
  simp only;split
  ·rcases JI E.T pm fl s (E.T.zeros t) parts.toList with _ | ⟨a,b⟩<;>rfl
  ·rfl
 | none=>
  simp only
  cases E.T.ty t with
  | struct fs=>
   simp only;split
   ·rcases FP E.T pm (fun i=>fs.getD i 0) 1 s (E.T.zeros t) parts.toList with _ | ⟨a,b⟩<;>rfl
   ·rfl
  | _=>rfl
theorem AGN(parts:Array (Nat×Operand))(fl:List (Nat×TypeId))(hk:E.T.known t=true)(hs:E.T.isStruct t=true):bd0 E pm s dst t parts (some fl)=kQ dst (JI E.T pm fl s (E.T.zeros t) parts.toList):=by
 simp [bd0,hk,hs]
def bdT(E:Env)(pm:Pm)(s:St)(dst:Option Tmp)(t:TypeId)(parts:Array (Nat×Operand)):Ty→Option St
 | .struct fs=>if E.T.known t then kQ dst (FP E.T pm (fun i=>fs.getD i 0) 1 s (E.T.zeros t) parts.toList)else none
 | _=>none
theorem AGO(parts:Array (Nat×Operand)):bd0 E pm s dst t parts none=bdT E pm s dst t parts (E.T.ty t):=by
 show bdN E pm s dst t parts=_
 unfold bdN bdT
 cases E.T.ty t<;>rfl
theorem AGP(parts:Array (Nat×Operand))(fs:List TypeId)(hk:E.T.known t=true):bdT E pm s dst t parts (.struct fs)=kQ dst (FP E.T pm (fun i=>fs.getD i 0) 1 s (E.T.zeros t) parts.toList):=by
 simp [bdT,hk]
def fn1(T:Tys)(pm:Pm)(fl:List (Nat×TypeId))(cs:List D)(off:Nat)(ty:TypeId)(rest:List (Nat×Operand)):Option (D×St)→Option (List D×St)
 | none=>none
 | some (d,s1)=>if d.asCells.length=T.size ty∧off+T.size ty≤cs.length then JI T pm fl s1 (Bn cs off d.asCells) rest else none
theorem A8q(T:Tys)(fl:List (Nat×TypeId))(cs:List D):JI T pm fl s cs []=some (cs,s):=nr rfl
def fn0(T:Tys)(pm:Pm)(fl:List (Nat×TypeId))(s:St)(cs:List D)(x:Operand)(rest:List (Nat×Operand)):Option (Nat×TypeId)→Option (List D×St)
 | none=>none
 | some (off,ty)=>fn1 T pm fl cs off ty rest (take T pm s ty x)
theorem A32(T:Tys)(fl:List (Nat×TypeId))(cs:List D)(i:Nat)(x:Operand)(rest:List (Nat×Operand)):JI T pm fl s cs ((i,x)::rest)=fn0 T pm fl s cs x rest (fl[i]?):=by
 simp only [JI];rcases fl[i]? with _ | ⟨off,ty⟩
 ·rfl
 ·simp only [fn0,fn1];rcases take T pm s ty x with _ | ⟨d,s1⟩<;>rfl
theorem AGR(T:Tys)(fl:List (Nat×TypeId))(cs:List D)(x:Operand)(rest:List (Nat×Operand))(off:Nat)(ty:TypeId):fn0 T pm fl s cs x rest (some (off,ty))=fn1 T pm fl cs off ty rest (take T pm s ty x):=nr rfl
theorem AGS(T:Tys)(fl:List (Nat×TypeId))(cs:List D)(off:Nat)(ty:TypeId)(rest:List (Nat×Operand))(d:D)(h1:d.asCells.length=T.size ty)(h2:off+T.size ty≤cs.length):
  fn1 T pm fl cs off ty rest (some (d,s))=JI T pm fl s (Bn cs off d.asCells) rest:=by simp only [fn1,h1,h2,and_self,if_true]
theorem fnA(ds:List D):(D.agg ds).asCells=ds:=nr rfl
theorem fnO(e:TypeId)(xs:List D):(D.own e xs).asCells=[.own e xs]:=nr rfl
theorem spN(cs:List D)(c:Nat):Bn cs c []=cs:=by cases cs<;>rfl
theorem spC(cs:List D)(c:Nat)(y:D)(ys:List D):Bn cs c (y::ys)=Bn (cs.set c y) (c+1) ys:=by cases cs<;>rfl
def mk0(T:Tys)(n:Int):Ty→Option D
 | .slice e=>if 0≤n∧n<1099511627776∧T.elem e=true then
   if T.isStruct e=true then some (.own e (List.replicate n.toNat (T.zeros e)).flatten)
   else if T.size e=1 then some (.own e (List.replicate n.toNat (T.zero1 e)))else none
  else none
 | _=>none
theorem yMk(n:Int):ED T t (.int .i64 n) (.int .i64 n)=mk0 T n (T.ty t):=by
 unfold ED mk0
 cases T.ty t<;>simp
def uT(T:Tys)(q:Int):Ty→Option D
 | .slice e=>if 0≤q∧q<1099511627776∧T.elem e=true then
   if T.isStruct e=true then some (.own e [])
   else if T.size e=1 then some (.own e [])else none
  else none
 | _=>none
theorem AGT(q:Int):ED T t (.int .i64 0) (.int .i64 q)=uT T q (T.ty t):=by
 unfold ED uT
 cases T.ty t<;>simp
theorem A8r(q:Int)(e:TypeId)(hk:T.known e=true)(h4:T.size e≤4)(h0:0≤q)(hn:q<1099511627776):uT T q (.slice e)=some (.own e []):=by
 simp only [uT];rw [if_pos ⟨h0,hn,QF hk h4⟩];by_cases hs:T.isStruct e=true
 ·rw [if_pos hs]
 ·obtain⟨hz,_⟩:=UK T (by simpa using hs)
  rw [if_neg hs,if_pos hz]
theorem AGU(n:Int)(e:TypeId)(hk:T.known e=true)(h4:T.size e≤4)(hs:T.isStruct e=false)(h0:0≤n)(hn:n<1099511627776):mk0 T n (.slice e)=some (.own e (List.replicate n.toNat (T.zero1 e))):=by
 obtain⟨hz,_⟩:=UK T hs;simp only [mk0];rw [if_pos ⟨h0,hn,QF hk h4⟩,if_neg (by rw [hs];decide),if_pos hz]
theorem AGV(n:Int)(e:TypeId)(hk:T.known e=true)(h4:T.size e≤4)(hs:T.isStruct e=true)(h0:0≤n)(hn:n<1099511627776):mk0 T n (.slice e)=some (.own e (List.replicate n.toNat (T.zeros e)).flatten):=by
 simp only [mk0];rw [if_pos ⟨h0,hn,QF hk h4⟩,if_pos hs]
end
end Dv
namespace Dv
open Go
def sJ(n:Int):Prop:= -9223372036854775808≤n∧n≤9223372036854775807
theorem A33{n:Int}(h:(Lit.int .i64 n).wf=true):sJ n:=by
 have h1:IntKind.i64.min= -9223372036854775808:=by decide
 have h2:IntKind.i64.max=9223372036854775807:=by decide
 simp only [Lit.wf,h1,h2,Bool.and_eq_true,decide_eq_true_eq]at h;exact h
section
variable {T:Tys} {t e:TypeId} {d:D}
theorem fC{ds:List D}(ht:T.ty t= .int .i64)(h:Shp T t ds): ∃n,ds=[.int .i64 n]∧sJ n:=by
 cases h with
 | int ht' hw=>rw [ht]at ht';injection ht' with ht';subst ht';exact⟨_,rfl,A33 hw⟩
 | bool ht'=>rw [ht]at ht';cases ht'
 | string ht'=>rw [ht]at ht';cases ht'
 | slice ht'=>rw [ht]at ht';cases ht'
 | struct ht'=>rw [ht]at ht';cases ht'
theorem UL{ds:List D}(ht:T.ty t= .slice e)(h:Shp T t ds): ∃xss:List (List D),ds=[.sl e xss.flatten]∧(∀xs,xs∈xss→Shp T e xs)∧xss.length≤maxLen:=by
 cases h with
 | int ht' hw=>rw [ht]at ht';cases ht'
 | bool ht'=>rw [ht]at ht';cases ht'
 | string ht' hs=>rw [ht]at ht';cases ht'
 | slice ht' hx hl=>rw [ht]at ht';injection ht' with ht';subst ht';exact⟨_,rfl,hx,hl⟩
 | struct ht'=>rw [ht]at ht';cases ht'
theorem X0{fs:List TypeId}{ds:List D}(ht:T.ty t= .struct fs)(h:Shp T t ds):ds.length=fs.length∧ ∀(i:Nat) (f:TypeId) (d:D),fs[i]? =some f→ds[i]? =some d→Shp T f [d]:=by
 cases h with
 | int ht' hw=>rw [ht]at ht';cases ht'
 | bool ht'=>rw [ht]at ht';cases ht'
 | string ht' hs=>rw [ht]at ht';cases ht'
 | slice ht' hx hl=>rw [ht]at ht';cases ht'
 | struct ht' hl hx=>rw [ht]at ht';injection ht' with ht';subst ht';exact⟨hl,hx⟩
def A34(xs:List Int):Prop:=xs.length≤maxLen∧ ∀x∈xs,sJ x
theorem iZ{ds:List D}(ht:T.ty t= .slice e)(he:T.ty e= .int .i64)(h:Shp T t ds): ∃xs,ds=[.sl e (Ca xs)]∧A34 xs:=by
 obtain⟨xss,rfl,hx,hl⟩:=UL ht h
 have: ∀xss:List (List D),(∀xs,xs∈xss→Shp T e xs)→ ∃ys,xss.flatten=Ca ys∧ys.length=xss.length∧ ∀y∈ys,sJ y:=by
  intro xss
  induction xss with
  | nil=>intro _;exact⟨[],rfl,rfl,by simp⟩
  | cons xs xss ih=>
   intro hx;obtain⟨n,rfl,hn⟩:=fC he (hx xs (List.mem_cons_self));obtain⟨ys,h1,h2,h3⟩:=ih (fun q hq=>hx q (List.mem_cons_of_mem _ hq))
   refine⟨n::ys,by rw [List.flatten_cons,h1];rfl,by simp [h2],fun y hy=> ?_⟩
   rcases List.mem_cons.1 hy with rfl | hy
   ·exact hn
   ·exact h3 y hy
 obtain⟨ys,h1,h2,h3⟩:=this xss hx
 exact⟨ys,by rw [h1],by omega,h3⟩
theorem kR{fs:List TypeId}(ht:T.ty t= .struct fs)(h:Arg T t d): ∃ds,d= .agg ds∧ds.length=fs.length∧ ∀(i:Nat) (f:TypeId) (d:D),fs[i]? =some f→ds[i]? =some d→Shp T f [d]:=by
 obtain⟨ds,hs,rfl⟩:=h;obtain⟨h1,h2⟩:=X0 ht hs
 exact⟨ds,by simp [top,Tys.isStruct,ht,Ty.isStruct],h1,h2⟩
end
theorem trodAll_len{H:Type}{enc:TypeId×Value→H}{P:Program}{w:World}{base:Nat}{spare:Nat→Bool}{IB:Bool}: ∀ {ts:List TypeId} {vs:List Value} {ds:List (DataW H)} {ps:List MemPlace},
  DataW.TrodAll enc P w base spare IB ts vs ds ps→ds.length=ts.length∧vs.length=ts.length:=by
 intro ts
 induction ts with
 | nil=>intro vs ds ps h;cases vs<;>cases ds<;>simp [DataW.TrodAll]at h;exact⟨rfl,rfl⟩
 | cons t ts ih=>
  intro vs ds ps h
  cases vs with
  | nil=>cases ds<;>simp [DataW.TrodAll]at h
  | cons v vs=>
   cases ds with
   | nil=>simp [DataW.TrodAll]at h
   | cons d ds=>
    simp only [DataW.TrodAll]at h;obtain⟨p,q,h1,h2,_⟩:=h;obtain⟨e1,e2⟩:=ih h2
    exact⟨by simp [e1],by simp [e2]⟩
end Dv
namespace Dv
open Go
section
variable {E:Env} {T:Tys} {pm:Pm} {s:St} {dst:Option Tmp} {ty t:TypeId}
def cK(T:Tys)(t:TypeId)(dst:Option Tmp):Option (D×St)→Option St
 | some (d,s1)=>if T.isStruct t==d.isAgg then some (s1.putO dst (.box d.asCells))else none
 | none=>none
def aV(E:Env)(pm:Pm)(s:St)(t:TypeId)(x:Operand)(dst:Option Tmp):D→Option St
 | .agg ds=>if Ah ds then cK E.T t dst (take E.T pm s t x)else(if E.T.isStruct t then some (s.putO dst (.box ds))else none)
 | _=>cK E.T t dst (take E.T pm s t x)
theorem A35(u:Tmp):Np E.T pm s dst t (.tmp u)=aV E pm s t (.tmp u) dst (s.v u):=by
 rw [nL]
 cases hk:TS (ev E.T s t (.tmp u))with
 | some ds=>
  simp only [ev]at hk
  cases hv:s.v u<;>rw [hv]at hk<;>simp only [TS]at hk<;>try (cases hk;done)
  split at hk
  ·cases hk
  ·rename_i ho
   simp only [Option.some.injEq]at hk;subst hk;simp only [aV,ho];rfl
 | none=>
  have hold:aV E pm s t (.tmp u) dst (s.v u)=cK E.T t dst (take E.T pm s t (.tmp u)):=by
   simp only [ev]at hk
   cases hv:s.v u<;>try rfl
   rw [hv]at hk;simp only [TS]at hk
   split at hk
   ·rename_i ho;simp only [aV,ho,if_true]
   ·cases hk
  rw [hold];simp only;rcases take E.T pm s t (.tmp u)with _ | ⟨d,s1⟩<;>rfl
theorem AGW(u:Tmp):KH E pm s dst (.box t (.tmp u)) ty=if ty=900003 then nW pm dst (aV E pm s t (.tmp u) dst (s.v u))else aV E pm s t (.tmp u) dst (s.v u):=by
 rw [tV,A35];by_cases h:ty=900003
 ·rw [if_pos h,if_pos h];unfold nW
  cases aV E pm s t (.tmp u) dst (s.v u)<;>cases dst<;>rfl
 ·rw [if_neg h,if_neg h]
theorem bkK(x:Operand)(ds:List D)(hs:E.T.isStruct t=true):aV E pm s t x dst (.agg ds)=if Ah ds then cK E.T t dst (take E.T pm s t x)else some (s.putO dst (.box ds)):=by simp [aV,hs]
theorem A8s(x:Operand)(k:IntKind)(n:Int):aV E pm s t x dst (.int k n)=cK E.T t dst (take E.T pm s t x):=nr rfl
theorem A36(x:Operand)(b:Bool):aV E pm s t x dst (.bool b)=cK E.T t dst (take E.T pm s t x):=nr rfl
theorem A8t(x:Operand)(b:ByteArray):aV E pm s t x dst (.str b)=cK E.T t dst (take E.T pm s t x):=nr rfl
theorem AGX(x:Operand)(e:TypeId)(xs:List D):aV E pm s t x dst (.sl e xs)=cK E.T t dst (take E.T pm s t x):=nr rfl
theorem A8u(x:Operand)(e:TypeId)(xs:List D):aV E pm s t x dst (.own e xs)=cK E.T t dst (take E.T pm s t x):=nr rfl
theorem A37(x:Operand)(xs:List D):aV E pm s t x dst (.cptr xs)=cK E.T t dst (take E.T pm s t x):=nr rfl
theorem AGY(x:Operand)(L:AB)(n m:Nat):aV E pm s t x dst (.vw L n m)=cK E.T t dst (take E.T pm s t x):=nr rfl
theorem A8v(x:Operand)(f:FuncId)(xs:List D):aV E pm s t x dst (.clo f xs)=cK E.T t dst (take E.T pm s t x):=nr rfl
theorem AGZ(ds:List D)(hs:T.isStruct t=true):cK T t dst (some (.agg ds,s))=some (s.putO dst (.box ds)):=by simp [cK,hs,D.isAgg,D.asCells]
theorem AGa(d:D)(hs:T.isStruct t=false)(hd:d.isAgg=false):cK T t dst (some (d,s))=some (s.putO dst (.box [d])):=by
 have:d.asCells=[d]:=by cases d<;>first | rfl | (simp [D.isAgg]at hd)
 simp [cK,hs,hd,this]
def fa1(L:AB)(i n m:Nat):Option D→Option D
 | some _=>some (.pe L i n m)
 | none=>none
theorem AGc(L:AB)(i n m:Nat)(d:D):fa1 L i n m (some d)=some (.pe L i n m):=nr rfl
def sK(T:Tys)(pm:Pm)(s:St)(t:TypeId)(x:Operand)(d:D):Option Nat→Option D
 | none=>none
 | some j=>
  if T.isStruct t then
   match d with
   | .box _=>match x with | .tmp u=>some (.pe [u] j (s.k u) (s.m u)) | _=>none
   | .vw L n m=>match s.look pm L n m with | some (.box _)=>some (.pe L j n m) | _=>none
   | .pe L c n m=>match s.look pm L n m with | some _=>some (.pe L (c+j) n m) | none=>none
   | .cptr xs=>some (.cptr (xs.drop j))
   | _=>none
  else none
theorem faE(x:Operand)(d:D)(i:Nat):Eu T pm s t x d i=sK T pm s t x d (T.foff t i):=by
 unfold Eu sK
 cases T.foff t i<;>rfl
theorem foN(i:Nat)(hn:T.nest t=none)(hi:i<T.size t):T.foff t i=some i:=by simp [Tys.foff,hn,hi]
theorem A8w(u:Tmp)(xs:List D)(i:Nat)(hs:T.isStruct t=true):sK T pm s t (.tmp u) (.box xs) (some i)=some (.pe [u] i (s.k u) (s.m u)):=by simp [sK,hs]
theorem AGd(x:Operand)(L:AB)(n m i:Nat)(hs:T.isStruct t=true):sK T pm s t x (.vw L n m) (some i)=fa1 L i n m (O7 s pm L n m):=by
 simp only [sK,hs,if_true,O7]
 cases s.look pm L n m with
 | none=>rfl
 | some o=>cases o<;>rfl
theorem AGe(x:Operand)(L:AB)(c n m i:Nat)(hs:T.isStruct t=true):sK T pm s t x (.pe L c n m) (some i)=fa1 L (c+i) n m (s.look pm L n m):=by
 simp only [sK,hs,if_true]
 cases s.look pm L n m<;>rfl
theorem AGf(x:Operand)(xs:List D)(i:Nat)(hs:T.isStruct t=true):sK T pm s t x (.cptr xs) (some i)=some (.cptr (xs.drop i)):=by simp [sK,hs]
theorem csS(L:AB)(c n:Nat)(o:D):cellsOf s L c n (some o)=if c+n≤o.cells.length then Bd (.agg ((List.range n).map fun i=>Cz s L (c+i) (o.cells.getD (c+i) .undef)))else none:=nr rfl
variable {α:Type} (f:Nat→α)
theorem rg1:(List.range 1).map f=[f 0]:=nr rfl
theorem rg2:(List.range 2).map f=[f 0,f 1]:=nr rfl
theorem rg3:(List.range 3).map f=[f 0,f 1,f 2]:=nr rfl
theorem rg4:(List.range 4).map f=[f 0,f 1,f 2,f 3]:=nr rfl
theorem rg5:(List.range 5).map f=[f 0,f 1,f 2,f 3,f 4]:=nr rfl
theorem rg6:(List.range 6).map f=[f 0,f 1,f 2,f 3,f 4,f 5]:=nr rfl
theorem rg7:(List.range 7).map f=[f 0,f 1,f 2,f 3,f 4,f 5,f 6]:=nr rfl
theorem rg8:(List.range 8).map f=[f 0,f 1,f 2,f 3,f 4,f 5,f 6,f 7]:=nr rfl
theorem rg9:(List.range 9).map f=[f 0,f 1,f 2,f 3,f 4,f 5,f 6,f 7,f 8]:=nr rfl
theorem AGg:(List.range 10).map f=[f 0,f 1,f 2,f 3,f 4,f 5,f 6,f 7,f 8,f 9]:=nr rfl
theorem AGh:(List.range 11).map f=[f 0,f 1,f 2,f 3,f 4,f 5,f 6,f 7,f 8,f 9,f 10]:=nr rfl
theorem AGi:(List.range 12).map f=[f 0,f 1,f 2,f 3,f 4,f 5,f 6,f 7,f 8,f 9,f 10,f 11]:=nr rfl
theorem A8x(L:AB)(c:Nat)(k:IntKind)(n:Int):Cz s L c (.int k n)= .int k n:=nr rfl
theorem A38(L:AB)(c:Nat)(b:Bool):Cz s L c (.bool b)= .bool b:=nr rfl
theorem A8y(L:AB)(c:Nat)(b:ByteArray):Cz s L c (.str b)= .str b:=nr rfl
theorem AGj(L:AB)(c:Nat)(e:TypeId)(xs:List D):Cz s L c (.sl e xs)= .sl e xs:=nr rfl
theorem A8z(L:AB)(c:Nat)(e:TypeId)(xs:List D):Cz s L c (.own e xs)=cB s (L++[c]):=nr rfl
theorem A90(L:AB)(c:Nat)(g:FuncId)(xs:List D):Cz s L c (.clo g xs)= .clo g xs:=nr rfl
theorem AGk(L:AB)(c:Nat)(M:AB)(n m:Nat):Cz s L c (.vw M n m)= .vw M n m:=nr rfl
theorem noA(xs:List D):Bd (.agg xs)=if Ah xs then none else some (.agg xs):=by simp only [Bd,D.hasObj];rfl
theorem A91(k:IntKind)(n:Int):Bd (.int k n)=some (.int k n):=by simp [Bd,D.hasObj]
theorem A39(b:Bool):Bd (.bool b)=some (.bool b):=by simp [Bd,D.hasObj]
theorem A92(b:ByteArray):Bd (.str b)=some (.str b):=by simp [Bd,D.hasObj]
theorem AGl(e:TypeId)(xs:List D):Bd (.sl e xs)=some (.sl e xs):=by simp [Bd,D.hasObj]
theorem AGm(L:AB)(n m:Nat):Bd (.vw L n m)=some (.vw L n m):=by simp [Bd,D.hasObj]
theorem A93(g:FuncId)(xs:List D):Bd (.clo g xs)=some (.clo g xs):=by simp [Bd,D.hasObj]
theorem dl2(a b:Nat)(l:AB):List.dropLast (a::b::l)=a::List.dropLast (b::l):=nr rfl
theorem dl1(a:Nat):List.dropLast [a]=[]:=nr rfl
theorem AGn(r c:Nat)(p:AB):s.get (r::c::p)=BQ (s.v r) (c::p):=nr rfl
theorem fD: ∀(ds xs:List D),xs.length=ds.length→Bn xs 0 ds=ds:=by
 have key: ∀(ds pre xs:List D),xs.length=ds.length→Bn (pre++xs) pre.length ds=pre++ds:=by
  intro ds
  induction ds with
  | nil=>intro pre xs h;simp at h;subst h;rfl
  | cons d ds ih=>
   intro pre xs h
   cases xs with
   | nil=>simp at h
   | cons x xs=>
    simp only [Bn];have:=ih (pre++[d]) xs (by simpa using h)
    simpa using this
 intro ds xs h;simpa using key ds [] xs h
def sw1(T:Tys)(pm:Pm)(t:TypeId)(u:Tmp)(ds:List D)(s:St):D→Option St
 | .box xs=>if T.known t&&T.isStruct t&&pm.wr u&&ds.all Bf&&(T.size t==ds.length)&&(xs.length==ds.length)then(if Ah ds||Ah xs then some ((s.set [u] (.box ds)).bump u)else some (s.set [u] (.box ds)))else Wy T pm t (.tmp u) (some (.agg ds,s))
 | _=>Wy T pm t (.tmp u) (some (.agg ds,s))
theorem AGo(u:Tmp)(ds:List D):Wy T pm t (.tmp u) (some (.agg ds,s))=sw1 T pm t u ds s (s.v u):=by
 cases hv:s.v u<;>simp only [sw1]
 rename_i xs
 split
 ·rename_i hc
  simp only [Bool.and_eq_true,beq_iff_eq]at hc;obtain⟨⟨⟨⟨⟨hk,hs⟩,hw⟩,hd⟩,hz⟩,hl⟩:=hc;have hz':T.size t≤xs.length:=by omega
  simp only [Wy,ev,hv,GN,D.asCells,D.isAgg,D.cells,D.withCells,hk,hs,hw,hd,hz,List.headD_cons,beq_self_eq_true,Bool.and_self,Nat.zero_add,D.hasObj];rw [fD ds xs hl];have h2:ds.length≤xs.length:=by omega
  simp only [h2,decide_true,Bool.and_self,if_true]
  split<;>first | rfl | (rename_i hq;simp only [hq];rfl)
 ·rfl
theorem AGp(u:Tmp)(ds xs:List D)(hk:T.known t=true)(hs:T.isStruct t=true)(hw:pm.wr u=true)(hd:ds.all Bf=true)(hz:T.size t=ds.length)(hl:xs.length=ds.length):
  sw1 T pm t u ds s (.box xs)=if Ah ds||Ah xs then some ((s.set [u] (.box ds)).bump u)else some (s.set [u] (.box ds)):=by
 simp [sw1,hk,hs,hw,hd,hz,hl]
def wF(T:Tys)(s:St)(t:Tmp)(ty:TypeId):D→Option (D×St)
 | .box xs=>if T.isStruct ty then(if xs.length=T.size ty then td1 (EM Pm.all (s.clr t) xs)else none)else(match xs with | [d]=>Ba Pm.all (s.clr t) d | _=>none)
 | .cptr xs=>if T.isStruct ty then(if xs.length=T.size ty then some (.agg xs,s)else none)else(match xs with | [d]=>some (d,s) | _=>none)
 | _=>none
theorem A3A(u:Tmp)(hk:T.known ty=true):Ta T s (.cell u ty)=wF T s u ty (s.v u):=by
 simp only [Ta,hk,if_true,wF]
 cases s.v u with
 | box xs=>
  simp only;split
  ·split
   ·cases EM Pm.all (s.clr u) xs<;>rfl
   ·rfl
  ·rfl
 | _=>rfl
theorem AGq(u:Tmp)(xs:List D)(hs:T.isStruct ty=true)(hl:xs.length=T.size ty):wF T s u ty (.box xs)=td1 (EM Pm.all (s.clr u) xs):=by simp [wF,hs,hl]
theorem AGr(u:Tmp)(d:D)(hs:T.isStruct ty=false):wF T s u ty (.box [d])=Ba Pm.all (s.clr u) d:=by simp [wF,hs]
theorem AGs(u:Tmp)(d:D)(hs:T.isStruct ty=false):wF T s u ty (.cptr [d])=some (d,s):=by simp [wF,hs]
def cp1(pm:Pm)(s:St)(u:Tmp)(rest:List Operand):D→Option (List D×St)
 | .box xs=>match CS xs with
  | some ys=>if pm.wr u then(Ke pm (s.set [u] (.cptr ys)) rest).map fun r=>(.cptr ys::r.1,r.2)else none
  | none=>none
 | .cptr ys=>(Ke pm s rest).map fun r=>(.cptr ys::r.1,r.2)
 | _=>none
theorem A95:Ke pm s []=some ([],s):=nr rfl
theorem A96(u:Tmp)(rest:List Operand):Ke pm s (.tmp u::rest)=cp1 pm s u rest (s.v u):=by
 simp only [Ke]
 cases s.v u<;>rfl
def cp2(pm:Pm)(s:St)(u:Tmp)(rest:List Operand):Option (List D)→Option (List D×St)
 | some ys=>if pm.wr u then(Ke pm (s.set [u] (.cptr ys)) rest).map fun r=>(.cptr ys::r.1,r.2)else none
 | none=>none
theorem AGu(u:Tmp)(rest:List Operand)(xs:List D):cp1 pm s u rest (.box xs)=cp2 pm s u rest (CS xs):=by
 simp only [cp1];cases CS xs<;>rfl
theorem AGv(u:Tmp)(rest:List Operand)(ys:List D)(hw:pm.wr u=true):cp2 pm s u rest (some ys)=(Ke pm (s.set [u] (.cptr ys)) rest).map fun r=>(.cptr ys::r.1,r.2):=by simp [cp2,hw]
theorem AGw(u:Tmp)(rest:List Operand)(ys:List D):cp1 pm s u rest (.cptr ys)=(Ke pm s rest).map fun r=>(.cptr ys::r.1,r.2):=nr rfl
def clN(E:Env)(pm:Pm)(s:St)(dst:Option Tmp)(args:Array Operand)(ts:Array TypeId):D→Option St
 | .clo f caps=>if args.size=ts.size then Io E pm s dst f (args.toList.zip ts.toList) caps else none
 | .ocl false f caps=>if args.size=ts.size then L6 E pm s dst f (args.toList.zip ts.toList) caps else none
 | _=>none
theorem A3B(u:Tmp)(args:Array Operand)(ts:Array TypeId):KH E pm s dst (.call ⟨.value (.tmp u),args,ts⟩) ty=clN E pm s dst args ts (s.v u):=by
 rw [kI];cases s.v u<;>first | rfl | (rename_i b _ _;cases b<;>rfl)
theorem AGx(args:Array Operand)(ts:Array TypeId)(f':FuncId)(caps:List D)(h:args.size=ts.size):clN E pm s dst args ts (.clo f' caps)=Io E pm s dst f' (args.toList.zip ts.toList) caps:=by simp [clN,h]
def mf0(f:FuncId)(dst:Option Tmp):Option (List D×St)→Option St
 | some r=>some (r.2.putO dst (.clo f r.1))
 | none=>none
theorem AGy(g:FuncId)(xs:List D):mf0 g dst (some (xs,s))=some (s.putO dst (.clo g xs)):=nr rfl
def mfV(f:FuncId)(dst:Option Tmp):Option (List D×St)→Option St
 | some r=>some (r.2.putO dst (.ocl false f r.1))
 | none=>none
theorem AGz(g:FuncId)(xs:List D):mfV g dst (some (xs,s))=some (s.putO dst (.ocl false g xs)):=nr rfl
theorem yMf(g:FuncId)(captured:Array Operand):KH E pm s dst (.makeFunc (.func g) #[] captured) ty=if ty<3000000 then mf0 g dst (Ke pm s captured.toList)else mfV g dst (TT pm s (ty-3000000) captured.toList):=by
 rw [Xu];simp only [List.isEmpty_toArray,List.isEmpty_nil,if_true];by_cases h:ty<3000000
 ·rw [if_pos h,if_pos h]
  cases Ke pm s captured.toList<;>rfl
 ·rw [if_neg h,if_neg h]
  cases TT pm s (ty-3000000) captured.toList<;>rfl
def cvp(l:List Operand):Option (List D×St)→Option (List D×St)
 | none=>none
 | some (_,s1)=>(Nn s1 l).map fun ds=>(ds,s1)
theorem cvE(m:Nat)(l:List Operand):TT pm s m l=cvp l (Ke pm s (Ik m 0 l)):=by
 unfold TT cvp;rcases Ke pm s (Ik m 0 l)with _ | ⟨ys,s1⟩<;>rfl
def cvq(s:St):Option (List D)→Option (List D×St)
 | some ds=>some (ds,s)
 | none=>none
theorem AH0(l:List Operand)(ys:List D):cvp l (some (ys,s))=cvq s (Nn s l):=by
 simp only [cvp];cases Nn s l<;>rfl
theorem AH1(ds:List D):cvq s (some ds)=some (ds,s):=nr rfl
theorem umN(m i:Nat):Ik m i []=[]:=nr rfl
theorem umC(m i:Nat)(x:Operand)(xs:List Operand):Ik m i (x::xs)=if m / 2 ^ i % 2=1 then Ik m (i+1) xs else x::Ik m (i+1) xs:=by
 rw [Ik,Nat.testBit_eq_decide_div_mod_eq];by_cases h:m / 2 ^ i % 2=1<;>simp [h]
def ce1(s:St)(u:Tmp)(r:Option (List D)):D→Option (List D)
 | .box _=>r.map (cB s [u]:: ·)
 | .cptr ys=>r.map (.cptr ys:: ·)
 | _=>none
theorem ceN:Nn s []=some []:=nr rfl
theorem ceT(u:Tmp)(rest:List Operand):Nn s (.tmp u::rest)=ce1 s u (Nn s rest) (s.v u):=by
 simp only [Nn]
 cases s.v u<;>rfl
theorem AH3(u:Tmp)(l xs:List D):ce1 s u (some l) (.box xs)=some (cB s [u]::l):=nr rfl
theorem AH4(u:Tmp)(l ys:List D):ce1 s u (some l) (.cptr ys)=some (.cptr ys::l):=nr rfl
def A3C(T:Tys)(pm:Pm)(s:St)(t:TypeId)(t0:Tmp):D→D→Option St
 | .box [_],.ocl false f xs=>if T.known t&& !T.isStruct t&&(T.size t==1)&&pm.rd t0&&pm.wr t0 then some (s.set [t0] (.ocl true f (xs.map (Im s t0))))else none
 | _,_=>none
theorem AH5(T:Tys)(t0 u:Tmp):Rb T pm s t (.tmp t0) (.tmp u)=A3C T pm s t t0 (s.v t0) (s.v u):=by
 show(match s.v t0,s.v u with
  | .box [_],.ocl false f xs=>if T.known t&& !T.isStruct t&&(T.size t==1)&&pm.rd t0&&pm.wr t0 then some (s.set [t0] (.ocl true f (xs.map (Im s t0))))else none
  | _,_=>none)=_
 rfl
theorem AH6(T:Tys)(t0:Tmp)(x:D)(f:FuncId)(xs:List D)(hk:T.known t=true)(hs:T.isStruct t=false)(hz:T.size t=1)(hr:pm.rd t0=true)(hw:pm.wr t0=true):
  A3C T pm s t t0 (.box [x]) (.ocl false f xs)=some (s.set [t0] (.ocl true f (xs.map (Im s t0)))):=by simp [A3C,hk,hs,hz,hr,hw]
theorem utV(t0 r n m:Nat):Im s t0 (.vw [r] n m)=if r=t0 then(if n=s.k t0 then .undef else .vw [r] n m)else .vw [r] n m:=by
 unfold Im;by_cases h:r=t0<;>by_cases h2:n=s.k t0<;>simp [h,h2]
theorem utC(t0:Nat)(ys:List D):Im s t0 (.cptr ys)= .cptr ys:=nr rfl
theorem ldO(T:Tys)(x:Operand)(f:FuncId)(xs:List D)(hk:T.known t=true)(hs:T.isStruct t=false):Dt T pm s t x (.ocl true f xs)=some (.ocl false f xs):=by simp [Dt,hk,hs]
def co2(E:Env)(pm:Pm)(s:St)(dst:Option Tmp)(f:FuncId)(as:List D)(ls:List (AB×D)):Option (List D×List (AB×D))→Option St
 | none=>none
 | some (cs,lc)=>
  if E9 ((ls++lc).map (·.1))&&(ls++lc).all (fun l=>pm.wr (l.1.headD 0))&&(ls++lc).all (fun l=>XP l.2)then
   cl2 s dst (ls++lc) (E.call f (as++cs.map (J5 f cs)) ((ls++lc).map (·.2)))
  else none
def co1(E:Env)(pm:Pm)(s:St)(dst:Option Tmp)(f:FuncId)(caps:List D):Option (List D×List (AB×D))→Option St
 | none=>none
 | some (as,ls)=>co2 E pm s dst f as ls (Cx pm s ls.length caps)
theorem coE(f:FuncId)(xs:List (Operand×TypeId))(caps:List D):L6 E pm s dst f xs caps=co1 E pm s dst f caps (DT E true pm s 0 xs):=by
 unfold L6 co1;rcases DT E true pm s 0 xs with _ | ⟨as,ls⟩
 ·rfl
 ·simp only;unfold co2;rcases Cx pm s ls.length caps with _ | ⟨cs,lc⟩
  ·rfl
  ·simp only;split
   ·unfold cl2;rcases E.call f (as++cs.map (J5 f cs)) ((ls++lc).map (·.2))with _ | ⟨r,o⟩<;>rfl
   ·rfl
theorem AH8(f:FuncId)(caps as:List D)(ls:List (AB×D)):co1 E pm s dst f caps (some (as,ls))=co2 E pm s dst f as ls (Cx pm s ls.length caps):=nr rfl
theorem AH9(f:FuncId)(as cs:List D)(ls lc:List (AB×D))(h:(E9 ((ls++lc).map (·.1))&&(ls++lc).all (fun l=>pm.wr (l.1.headD 0))&&(ls++lc).all (fun l=>XP l.2))=true):
  co2 E pm s dst f as ls (some (cs,lc))=cl2 s dst (ls++lc) (E.call f (as++cs.map (J5 f cs)) ((ls++lc).map (·.2))):=by simp only [co2,h,if_true]
def wG(a:D)(l:List (AB×D)):Option (List D×List (AB×D))→Option (List D×List (AB×D))
 | some r=>some (a::r.1,l++r.2)
 | none=>none
theorem AHA(a:D)(l:List (AB×D))(r:List D)(m:List (AB×D)):wG a l (some (r,m))=some (a::r,l++m):=nr rfl
def oa1(pm:Pm)(s:St)(j:Nat)(L:AB)(rest:List D):Option D→Option (List D×List (AB×D))
 | some c=>wG (.vw [G+j] 0 0) [(L,c)] (Cx pm s (j+1) rest)
 | none=>none
theorem AHC(j:Nat)(L:AB)(rest:List D)(c:D):oa1 pm s j L rest (some c)=wG (.vw [G+j] 0 0) [(L,c)] (Cx pm s (j+1) rest):=nr rfl
theorem oaN(j:Nat):Cx pm s j []=some ([],[]):=nr rfl
theorem oaV(j:Nat)(L:AB)(n m:Nat)(rest:List D):Cx pm s j (.vw L n m::rest)=oa1 pm s j L rest (s.look pm L n m):=by
 rw [Cx]
 cases s.look pm L n m with
 | none=>rfl
 | some c=>simp only [oa1];rcases Cx pm s (j+1) rest with _ | ⟨a,b⟩<;>rfl
theorem oaC(j:Nat)(ys rest:List D):Cx pm s j (.cptr ys::rest)=wG (.cptr ys) [] (Cx pm s j rest):=by
 rw [Cx];rcases Cx pm s j rest with _ | ⟨a,b⟩<;>rfl
theorem oaU(j:Nat)(rest:List D):Cx pm s j (.undef::rest)=wG .undef [] (Cx pm s j rest):=by
 rw [Cx];rcases Cx pm s j rest with _ | ⟨a,b⟩<;>rfl
theorem saU(f:FuncId)(cs:List D):J5 f cs .undef= .ocl true f cs:=nr rfl
theorem saV(f:FuncId)(cs:List D)(L:AB)(n m:Nat):J5 f cs (.vw L n m)= .vw L n m:=nr rfl
theorem saC(f:FuncId)(cs ys:List D):J5 f cs (.cptr ys)= .cptr ys:=nr rfl
theorem AHD(args:Array Operand)(ts:Array TypeId)(f':FuncId)(caps:List D)(h:args.size=ts.size):clN E pm s dst args ts (.ocl false f' caps)=L6 E pm s dst f' (args.toList.zip ts.toList) caps:=by simp [clN,h]
theorem kS(g:FuncId):Cb (.clo g [])=false:=by simp [Cb]
def bn1(dflt:Nat):Option D→Option Nat
 | some (.int _ n)=>if 0≤n then some n.toNat else none
 | _=>none
theorem bnN(n:Nat):Ni T s n none=some n:=nr rfl
theorem bnS(n:Nat)(x:Operand):Ni T s n (some x)=bn1 n (ev T s 0 x):=by
 simp only [Ni];rcases ev T s 0 x with _ | d
 ·rfl
 ·cases d<;>rfl
theorem AHF(n:Nat)(k:IntKind)(i:Int)(h:0≤i):bn1 n (some (.int k i))=some i.toNat:=by simp [bn1,h]
def sl0(T:Tys)(pm:Pm)(s:St)(x:Operand)(d:D)(lo hi mx:Option Operand):Ty→Option (D×St)
 | .slice e'=>match Bl pm s x d with
  | none=>none
  | some (e,xs,o)=>
   match Ni T s 0 lo,Ni T s (T.len e xs) hi with
   | some l,some h=>
    if e'=e∧T.known e=true∧l≤h∧h≤T.len e xs then
     if mx.isSome then
      match Ni T s 0 mx with
      | some q=>if l=h∧h=q∧hi.isSome=true then some (.own e [],s)else none
      | none=>none
     else match o with
      | none=>some (.sl e ((xs.take (h*T.size e)).drop (l*T.size e)),s)
      | some (L,va,vb)=>
       if pm.wr (L.headD 0)then
        match CS xs with
        | some ys=>some (.sl e ((ys.take (h*T.size e)).drop (l*T.size e)),s.set L (.sl e ys))
        | none=>none
       else TR L va vb e l h s
    else none
   | _,_=>none
 | .string=>match d with
  | .str b=>match Ni T s 0 lo,Ni T s b.size hi with
   | some l,some h=>if l≤h∧h≤b.size∧mx.isNone then some (.str (b.extract l h),s)else none
   | _,_=>none
  | _=>none
 | _=>none
theorem slT(x:Operand)(d:D)(lo hi mx:Option Operand):IR T pm s t x d lo hi mx=sl0 T pm s x d lo hi mx (T.ty t):=by
 unfold IR sl0
 cases T.ty t<;>first | rfl | (cases d<;>rfl)
def sl1(T:Tys)(pm:Pm)(s:St)(e:TypeId)(xs:List D)(o:Option (AB×Nat×Nat)):Option Nat→Option Nat→Option (D×St)
 | some l,some h=>
  if l≤h∧h≤xs.length then
   match o with
   | none=>some (.sl e ((xs.take h).drop l),s)
   | some (L,va,vb)=>
    if pm.wr (L.headD 0)then
     match CS xs with
     | some ys=>some (.sl e ((ys.take h).drop l),s.set L (.sl e ys))
     | none=>none
    else TR L va vb e l h s
  else none
 | _,_=>none
def sl2(T:Tys)(pm:Pm)(s:St)(e':TypeId)(lo hi:Option Operand):Option (TypeId×List D×Option (AB×Nat×Nat))→Option (D×St)
 | some (e,xs,o)=>if e'=e∧T.known e=true then sl1 T pm s e xs o (Ni T s 0 lo) (Ni T s xs.length hi)else none
 | none=>none
theorem AHG(x:Operand)(d:D)(lo hi:Option Operand)(e:TypeId)(hz:T.isStruct e=false):sl0 T pm s x d lo hi none (.slice e)=sl2 T pm s e lo hi (Bl pm s x d):=by
 have h1:=JL hz;simp only [sl0,sl2,Option.isSome_none,Bool.false_eq_true,if_false];rcases Bl pm s x d with _ | ⟨e',xs,o⟩
 ·rfl
 ·simp only;by_cases he:e=e'
  ·subst he;simp only [true_and,h1,Nat.mul_one,Tys.len,if_true]
   cases Ni T s 0 lo<;>cases Ni T s xs.length hi<;>simp only [sl1]<;>(by_cases hk:T.known e=true<;>simp [hk])
  ·simp only [he,false_and,if_false]
   cases Ni T s 0 lo<;>cases Ni T s (T.len e' xs) hi<;>rfl
theorem AHH(e:TypeId)(lo hi:Option Operand)(xs:List D)(o:Option (AB×Nat×Nat))(hk:T.known e=true):sl2 T pm s e lo hi (some (e,xs,o))=sl1 T pm s e xs o (Ni T s 0 lo) (Ni T s xs.length hi):=by simp [sl2,hk]
theorem AHI(e:TypeId)(xs:List D)(l h:Nat)(h1:l≤h)(h2:h≤xs.length):sl1 T pm s e xs none (some l) (some h)=some (.sl e ((xs.take h).drop l),s):=by simp [sl1,h1,h2]
def sl3(pm:Pm)(s:St)(e:TypeId)(L:AB)(a b l h:Nat)(o:Option (List D)):Option (D×St):=
 if pm.wr (L.headD 0)then
  match o with
  | some ys=>some (.sl e ((ys.take h).drop l),s.set L (.sl e ys))
  | none=>none
 else TR L a b e l h s
theorem AHJ(e:TypeId)(xs:List D)(L:AB)(a b l h:Nat)(h1:l≤h)(h2:h≤xs.length):sl1 T pm s e xs (some (L,a,b)) (some l) (some h)=sl3 pm s e L a b l h (CS xs):=by
 simp only [sl1,h1,h2,and_self,if_true];rfl
theorem AHK(e:TypeId)(L:AB)(a b l h:Nat)(ys:List D)(hw:pm.wr (L.headD 0)=true):sl3 pm s e L a b l h (some ys)=some (.sl e ((ys.take h).drop l),s.set L (.sl e ys)):=by simp only [sl3];rw [if_pos hw]
theorem AHL(e:TypeId)(L:AB)(a b l h:Nat)(o:Option (List D))(hw:pm.wr (L.headD 0)=false):sl3 pm s e L a b l h o=some (.vs e L a b l (h-l),s):=by simp only [sl3];rw [if_neg (by rw [hw];decide)];rfl
theorem A9A(r:Nat):pm.see.rd r=pm.rd r:=nr rfl
theorem A9B(r:Nat):pm.see.wr r=false:=nr rfl
theorem AHM(u:Tmp):wrO pm (.tmp u)=pm.wr u:=nr rfl
def ct2(e:TypeId)(xs:List D)(s1:St):Option Nat→Option (D×St)
 | some h=>if h≤xs.length then some (.own e (xs.take h),s1)else none
 | none=>none
def ct1(T:Tys)(s:St)(e':TypeId)(hi:Option Operand):Option (D×St)→Option (D×St)
 | some (.own e xs,s1)=>
  match Ni T s (T.len e xs) hi with
  | some h=>if e'=e∧T.known e=true∧h≤T.len e xs then some (.own e (xs.take (h*T.size e)),s1)else none
  | none=>none
 | _=>none
def ct0(T:Tys)(pm:Pm)(s:St)(t:TypeId)(x:Operand)(hi:Option Operand):Ty→Option (D×St)
 | .slice e=>ct1 T s e hi (if wrO pm x then take T pm s t x else none)
 | _=>none
theorem ctT(x:Operand)(hi:Option Operand):Nl T pm s t x hi=ct0 T pm s t x hi (T.ty t):=by
 unfold Nl ct0 ct1
 cases T.ty t<;>rfl
theorem AHN(x:Operand)(hi:Option Operand)(e:TypeId)(hw:wrO pm x=true):ct0 T pm s t x hi (.slice e)=ct1 T s e hi (take T pm s t x):=by
 unfold ct0;rw [if_pos hw]
theorem AHO(hi:Option Operand)(e:TypeId)(xs:List D)(s1:St)(hk:T.known e=true)(hz:T.isStruct e=false):ct1 T s e hi (some (.own e xs,s1))=ct2 e xs s1 (Ni T s xs.length hi):=by
 have h1:=JL hz;simp only [ct1,hk,true_and,h1,Nat.mul_one,Tys.len,if_true]
 cases Ni T s xs.length hi<;>rfl
theorem AHP(e:TypeId)(xs:List D)(s1:St)(h:Nat)(hle:h≤xs.length):ct2 e xs s1 (some h)=some (.own e (xs.take h),s1):=by
 show(if h≤xs.length then some (D.own e (xs.take h),s1)else none)=_
 rw [if_pos hle]
def cf2(e:TypeId)(xs:List D)(s1:St):Option Nat→Option (D×St)
 | some l=>if l≤xs.length then some (.own e (xs.drop l),s1)else none
 | none=>none
def cf1(T:Tys)(s:St)(e':TypeId)(lo:Option Operand):Option (D×St)→Option (D×St)
 | some (.own e xs,s1)=>
  match Ni T s 0 lo with
  | some l=>if e'=e∧T.known e=true∧l≤T.len e xs then some (.own e (xs.drop (l*T.size e)),s1)else none
  | none=>none
 | _=>none
def cf0(T:Tys)(pm:Pm)(s:St)(t:TypeId)(x:Operand)(lo:Option Operand):Ty→Option (D×St)
 | .slice e=>cf1 T s e lo (if wrO pm x then take T pm s t x else none)
 | _=>none
theorem cfT(x:Operand)(lo:Option Operand):Kw T pm s t x lo=cf0 T pm s t x lo (T.ty t):=by
 unfold Kw cf0 cf1
 cases T.ty t<;>rfl
theorem AHQ(x:Operand)(lo:Option Operand)(e:TypeId)(hw:wrO pm x=true):cf0 T pm s t x lo (.slice e)=cf1 T s e lo (take T pm s t x):=by
 unfold cf0;rw [if_pos hw]
theorem AHR(lo:Option Operand)(e:TypeId)(xs:List D)(s1:St)(hk:T.known e=true)(hz:T.isStruct e=false):cf1 T s e lo (some (.own e xs,s1))=cf2 e xs s1 (Ni T s 0 lo):=by
 have h1:=JL hz;simp only [cf1,hk,true_and,h1,Nat.mul_one,Tys.len,if_true]
 cases Ni T s 0 lo<;>rfl
theorem AHS(e:TypeId)(xs:List D)(s1:St)(l:Nat)(hle:l≤xs.length):cf2 e xs s1 (some l)=some (.own e (xs.drop l),s1):=by
 show(if l≤xs.length then some (D.own e (xs.drop l),s1)else none)=_
 rw [if_pos hle]
def ca0(f:FuncId):Option (List D×List (AB×D))→Option (D×List (AB×D))
 | some r=>some (.clo f r.1,r.2)
 | none=>none
theorem AHU(f:FuncId)(cs:List D)(ls:List (AB×D)):ca0 f (some (cs,ls))=some (.clo f cs,ls):=nr rfl
def ca2(pm:Pm)(s:St)(L:AB)(c:D)(rest:List D):Option D→Option (List D×List (AB×D))
 | some c'=>wG c' [(L,c)] (Kz pm s rest)
 | none=>none
theorem AHV(L:AB)(c:D)(rest:List D)(c':D):ca2 pm s L c rest (some c')=wG c' [(L,c)] (Kz pm s rest):=nr rfl
def ca1(pm:Pm)(s:St)(L:AB)(rest:List D):Option D→Option (List D×List (AB×D))
 | some c=>ca2 pm s L c rest (D6 c)
 | none=>none
theorem AHX(L:AB)(rest:List D)(c:D):ca1 pm s L rest (some c)=ca2 pm s L c rest (D6 c):=nr rfl
theorem caN:Kz pm s []=some ([],[]):=nr rfl
theorem caV(L:AB)(n m:Nat)(rest:List D):Kz pm s (.vw L n m::rest)=ca1 pm s L rest (s.look pm L n m):=by
 rw [Kz]
 cases s.look pm L n m with
 | none=>rfl
 | some c=>
  simp only [ca1,ca2]
  cases D6 c with
  | none=>rfl
  | some c'=>simp only [Option.bind_some];rcases Kz pm s rest with _ | ⟨a,b⟩<;>rfl
theorem caC(ys rest:List D):Kz pm s (.cptr ys::rest)=wG (.cptr ys) [] (Kz pm s rest):=by
 rw [Kz];rcases Kz pm s rest with _ | ⟨a,b⟩<;>rfl
theorem A9E(T:Tys)(L0:AB)(j:Nat)(f:FuncId)(caps:List D):Ji T false pm s j L0 (.ocl false f caps)=ca0 f (Kz pm s caps):=by
 show(if(false||false)=true then none else(Kz pm s caps).map fun r=>(D.clo f r.1,r.2))=_
 rw [if_neg (by decide)]
 unfold ca0;rcases Kz pm s caps with _ | ⟨a,b⟩<;>rfl
def va1(T:Tys)(e:TypeId)(L:AB)(lo len:Nat):Option D→Option (D×List (AB×D))
 | some (.own e' xs)=>
  if e'=e∧T.known e=true∧(lo+len)*T.size e≤xs.length then
   (CS xs).map fun ys=>(.sl e ((ys.drop (lo*T.size e)).take (len*T.size e)),[(L,.own e' xs)])
  else none
 | _=>none
theorem AHY(e:TypeId)(L L0:AB)(n m lo len j:Nat):Ji T false pm s j L0 (.vs e L n m lo len)=va1 T e L lo len (s.look pm L n m):=by
 show WT T pm s e L n m lo len=_
 unfold WT va1;rcases s.look pm L n m with _ | d
 ·rfl
 ·cases d<;>rfl
def va2(e:TypeId)(L:AB)(lo len:Nat)(xs:List D):Option (List D)→Option (D×List (AB×D))
 | some ys=>some (.sl e ((ys.drop lo).take len),[(L,.own e xs)])
 | none=>none
theorem AHa(e:TypeId)(L:AB)(l h:Nat)(xs:List D)(hk:T.known e=true)(hz:T.isStruct e=false)(h1:l≤h)(h2:h≤xs.length):va1 T e L l (h-l) (some (.own e xs))=va2 e L l (h-l) xs (CS xs):=by
 have h3:=JL hz;unfold va1;simp only [h3,Nat.mul_one];rw [if_pos ⟨trivial,hk,by omega⟩]
 cases CS xs<;>rfl
theorem AHb(e:TypeId)(L:AB)(lo len:Nat)(xs:List D)(hk:T.known e=true)(hz:T.isStruct e=false)(h1:lo+len≤xs.length):va1 T e L lo len (some (.own e xs))=va2 e L lo len xs (CS xs):=by
 have h3:=JL hz;unfold va1;simp only [h3,Nat.mul_one];rw [if_pos ⟨trivial,hk,h1⟩]
 cases CS xs<;>rfl
theorem AHc(e:TypeId)(L:AB)(lo len:Nat)(xs ys:List D):va2 e L lo len xs (some ys)=some (.sl e ((ys.drop lo).take len),[(L,.own e xs)]):=nr rfl
theorem A9F(x y:Tmp)(t':TypeId):KH E pm s dst (.call ⟨.builtin .copy, #[.tmp x,.tmp y], #[t,t']⟩) ty=UI dst (Mq E.T pm s t (.tmp x) (.tmp y) (s.v x) (s.v y)):=LF dst _
def uU(T:Tys)(pm:Pm)(s:St)(t:TypeId):Option (TypeId×AB×List D×Nat×Nat)→Option (TypeId×List D)→Option (D×St)
 | some (e,L,xs,lo,len),some (e',ys)=>
  if T.isSl t e&&(e==e')&&T.known e&&(T.size e==1)&& !Ah xs&& !Ah ys&&ys.all Bf&&pm.wr (L.headD 0)then
   some (.int .i64 (min len ys.length:Nat),s.set L (.own e (Bn xs lo (ys.take (min len ys.length)))))
  else none
 | _,_=>none
theorem AHd(x y:Operand)(a b:D):Mq T pm s t x y a b=uU T pm s t (Pf pm s x a) (SH pm s y b):=by
 unfold Mq uU;rcases Pf pm s x a with _ | ⟨_,_,_,_,_⟩<;>rcases SH pm s y b with _ | ⟨_,_⟩<;>rfl
theorem AHe(e:TypeId)(L:AB)(xs ys:List D)(lo len:Nat)(h1:T.isSl t e=true)(h2:T.known e=true)(h3:T.size e=1)(h4:Ah xs=false)(h5:Ah ys=false)(h6:ys.all Bf=true)(h7:pm.wr (L.headD 0)=true):
  uU T pm s t (some (e,L,xs,lo,len)) (some (e,ys))=some (.int .i64 (min len ys.length:Nat),s.set L (.own e (Bn xs lo (ys.take (min len ys.length))))):=by
 unfold uU;dsimp only;rw [if_pos (by rw [h1,h2,h3,h4,h5,h6,h7];simp)]
theorem A3E(x:Tmp):KH E pm s dst (.call ⟨.builtin .clear, #[.tmp x], #[t]⟩) ty=UI dst (Kc E.T pm s t (.tmp x) (s.v x)):=LF dst _
def uV(T:Tys)(pm:Pm)(s:St)(t:TypeId):Option (TypeId×AB×List D×Nat×Nat)→Option (D×St)
 | some (e,L,xs,lo,len)=>
  if T.isSl t e&&T.known e&&(T.size e==1)&& !T.isStruct e&&Bf (T.zero1 e)&&pm.wr (L.headD 0)then
   some (.tup [],(s.set L (.own e (Bn xs lo (List.replicate len (T.zero1 e))))).bump (L.headD 0))
  else none
 | none=>none
theorem AHf(x:Operand)(a:D):Kc T pm s t x a=uV T pm s t (Pf pm s x a):=by
 unfold Kc uV;rcases Pf pm s x a with _ | ⟨_,_,_,_,_⟩<;>rfl
theorem AHg(e:TypeId)(L:AB)(xs:List D)(lo len:Nat)(h1:T.isSl t e=true)(h2:T.known e=true)(h3:T.isStruct e=false)(h5:Bf (T.zero1 e)=true)(h7:pm.wr (L.headD 0)=true):
  uV T pm s t (some (e,L,xs,lo,len))=some (.tup [],(s.set L (.own e (Bn xs lo (List.replicate len (T.zero1 e))))).bump (L.headD 0)):=by
 have h8:=JL h3;unfold uV;dsimp only;rw [if_pos (by rw [h1,h2,h3,h5,h7,h8];simp)]
def A3F(e:TypeId):Ty→Bool
 | .slice e'=>e'==e
 | _=>false
theorem AHh(e:TypeId):T.isSl t e=A3F e (T.ty t):=by unfold Tys.isSl A3F;cases T.ty t<;>rfl
theorem AHi(e e':TypeId):A3F e (.slice e')=(e'==e):=nr rfl
def dv0:Option (TypeId×List D×Option (AB×Nat×Nat))→Option (TypeId×AB×List D×Nat×Nat)
 | some (e,xs,some (L,_,_))=>some (e,L,xs,0,xs.length)
 | _=>none
theorem AHk(e:TypeId)(xs:List D)(L:AB)(a b:Nat):dv0 (some (e,xs,some (L,a,b)))=some (e,L,xs,0,xs.length):=nr rfl
theorem dvW(x:Operand)(L:AB)(n m:Nat):Pf pm s x (.vw L n m)=dv0 (Bl pm s x (.vw L n m)):=by
 show(match Bl pm s x (.vw L n m)with | some (e,xs,some (L,_,_))=>some (e,L,xs,0,xs.length) | _=>none)=_
 rcases Bl pm s x (.vw L n m)with _ | ⟨_,_,_ | ⟨_,_,_⟩⟩<;>rfl
theorem dvO(x:Operand)(e:TypeId)(xs:List D):Pf pm s x (.own e xs)=dv0 (Bl pm s x (.own e xs)):=by
 show(match Bl pm s x (.own e xs)with | some (e,xs,some (L,_,_))=>some (e,L,xs,0,xs.length) | _=>none)=_
 rcases Bl pm s x (.own e xs)with _ | ⟨_,_,_ | ⟨_,_,_⟩⟩<;>rfl
def dv1(e:TypeId)(L:AB)(lo len:Nat):Option D→Option (TypeId×AB×List D×Nat×Nat)
 | some (.own e' xs)=>if e'=e∧lo+len≤xs.length then some (e,L,xs,lo,len)else none
 | _=>none
theorem dvS(x:Operand)(e:TypeId)(L:AB)(n m lo len:Nat):Pf pm s x (.vs e L n m lo len)=dv1 e L lo len (s.look pm L n m):=by
 show(match s.look pm L n m with | some (.own e' xs)=>if e'=e∧lo+len≤xs.length then some (e,L,xs,lo,len)else none | _=>none)=_
 rcases s.look pm L n m with _ | d
 ·rfl
 ·cases d<;>rfl
theorem AHm(e:TypeId)(L:AB)(lo len:Nat)(xs:List D)(h:lo+len≤xs.length):dv1 e L lo len (some (.own e xs))=some (e,L,xs,lo,len):=by simp [dv1,h]
def sv0:Option (TypeId×List D×Option (AB×Nat×Nat))→Option (TypeId×List D)
 | some (e,xs,_)=>some (e,xs)
 | _=>none
theorem AHo(e:TypeId)(xs:List D)(o:Option (AB×Nat×Nat)):sv0 (some (e,xs,o))=some (e,xs):=nr rfl
theorem svW(x:Operand)(L:AB)(n m:Nat):SH pm s x (.vw L n m)=sv0 (Bl pm s x (.vw L n m)):=by
 show(Bl pm s x (.vw L n m)).map (fun r=>(r.1,r.2.1))=_
 rcases Bl pm s x (.vw L n m)with _ | ⟨_,_,_⟩<;>rfl
theorem svO(x:Operand)(e:TypeId)(xs:List D):SH pm s x (.own e xs)=sv0 (Bl pm s x (.own e xs)):=by
 show(Bl pm s x (.own e xs)).map (fun r=>(r.1,r.2.1))=_
 rcases Bl pm s x (.own e xs)with _ | ⟨_,_,_⟩<;>rfl
theorem svL(x:Operand)(e:TypeId)(xs:List D):SH pm s x (.sl e xs)=some (e,xs):=nr rfl
def sv1(e:TypeId)(lo len:Nat):Option D→Option (TypeId×List D)
 | some (.own e' xs)=>if e'=e∧lo+len≤xs.length then some (e,(xs.drop lo).take len)else none
 | _=>none
theorem svS(x:Operand)(e:TypeId)(L:AB)(n m lo len:Nat):SH pm s x (.vs e L n m lo len)=sv1 e lo len (s.look pm L n m):=by
 show(match s.look pm L n m with | some (.own e' xs)=>if e'=e∧lo+len≤xs.length then some (e,(xs.drop lo).take len)else none | _=>none)=_
 rcases s.look pm L n m with _ | d
 ·rfl
 ·cases d<;>rfl
theorem AHq(e:TypeId)(lo len:Nat)(xs:List D)(h:lo+len≤xs.length):sv1 e lo len (some (.own e xs))=some (e,(xs.drop lo).take len):=by simp [sv1,h]
theorem AHr(x:Tmp)(e:TypeId)(L:AB)(n m lo len:Nat):Bw s dst (.tmp x) (.vs e L n m lo len)=s.putO dst (.vs e L n m lo len):=nr rfl
theorem A9G(x:Tmp)(e:TypeId)(L:AB)(n m lo len:Nat):QG pm x (.vs e L n m lo len)=true:=by simp [QG,D.hasObj]
theorem AHs(e:TypeId)(L:AB)(n m lo len:Nat):(D.vs e L n m lo len).hasObj=false:=by simp [D.hasObj]
theorem AHt(x:Operand)(d:D)(e:TypeId)(hk:T.known e=true):sl0 T pm s x d none (some (.const (.int .i64 0))) (some (.const (.int .i64 0))) (.slice e)=match Bl pm s x d with | some (e',_,_)=>if e=e' then some (.own e [],s)else none | none=>none:=by
 simp only [sl0];rcases Bl pm s x d with _ | ⟨e',xs,o⟩
 ·rfl
 ·simp only [Ni,ev,P9,Int.le_refl,if_true,Int.toNat_zero,Nat.zero_le,and_true,Option.isSome_some,true_and];by_cases he:e=e'
  ·subst he;simp [hk]
  ·simp [he]
end
theorem fF{P:Program}{T:Tys}{f:FuncId}{e:TypeId}{r:D}{outs:List D}(hk:T.known e=true)(h: ∀A c,Good P T f [.konst (.slice A 0 c)] [] r outs):Good P T f [.sl e []] [] r outs:=by
 refine⟨(h none 0).1,fun vs gh w S FL hsz hA hL hL0 hLd hlt=> ?_⟩
 obtain⟨v,hv,hW⟩:=hA 0 _ rfl
 obtain⟨A,c,rfl⟩: ∃A c,v= .slice A 0 c:=by
  cases hW with
  | sl us hE hn hc hm hx hw=>
   rename_i A n c
   have hp:=aG hk
   have:n=0:=by
    simp only [List.length_nil]at hn;rcases Nat.mul_eq_zero.1 hn.symm with h0 | h0
    ·exact h0
    ·omega
   subst this
   exact⟨_,_,rfl⟩
 refine(h A c).2 vs gh w S FL hsz (fun i d hi=> ?_) hL hL0 hLd hlt
 cases i with
 | zero=>simp at hi;subst hi;exact⟨_,hv,.konst (fun _ h=>h)⟩
 | succ i=>simp at hi
end Dv
namespace Dv
open Go
set_option maxRecDepth 10000
set_option linter.defProp false
theorem geq:G=100000:=nr rfl
def AP:=And.intro @AE2 (And.intro @A9F (And.intro @A3E (And.intro @AE1 (
 And.intro @AE5 (
 And.intro @AE6 (
 And.intro @ADH (
 And.intro @ADI (
 And.intro @A58 (
 And.intro @A59 (
 And.intro @A1U (
 And.intro @AGW (
 And.intro @yMf (
 And.intro @A3B (
 And.intro @ADP (
 And.intro @A5P (
 And.intro @ADN (
 And.intro @A1c (
 And.intro @A5Q (
 And.intro @A5T (
 And.intro @A1d (
 And.intro @A5N (
 And.intro @A5O (
 And.intro @ADM (
 And.intro @A1e (
 And.intro @A1f (
 And.intro @A1g (
 And.intro @ADR (
 And.intro @ADS (
 And.intro @ADT (
 And.intro @ADU (
 And.intro @ADV (
 And.intro @ADW (
 And.intro @A5U (
 And.intro @A5V (
 And.intro @eU (
 And.intro @aK (
 And.intro @A6P (
 And.intro @uE (
 And.intro @nX (
 And.intro @A1v (
 And.intro @A6Q (
 And.intro @yUn (
 And.intro @A1w (
 And.intro @AE0 (
 And.intro @nY (
 And.intro @A1x (
 And.intro @uF (
 And.intro @A1y (
 And.intro @A6W (
 And.intro @nZ (
 And.intro @A6Y (
 And.intro @nK (
 And.intro @kH (
 And.intro @kF (
 And.intro @A31 (
 And.intro @yBs (@Xv)))))))))))))))))))))))))))))))))))))))))))))))))))))))))
def AC:=And.intro @ADY (And.intro @ADe (And.intro @AEG (And.intro @AEH (And.intro @AEI (And.intro @AEC (And.intro AGE (And.intro @AEP (And.intro @AEQ (And.intro @A22 (And.intro @A6l (And.intro @A23 (And.intro @rg8 (And.intro @rg9 (And.intro @AGg (And.intro @AGh (And.intro @AGi (And.intro @AFh (And.intro @AFi (And.intro @AFj (And.intro @AFk (And.intro @A2I (And.intro @AEl (And.intro @AEm (And.intro @A2J (And.intro @faE (And.intro @foN (And.intro @AGN (And.intro @AGO (And.intro @A8q (And.intro @A32 (And.intro @AGR (And.intro @AGS (And.intro (And.intro @fnO @fnA) (And.intro @spN (And.intro @spC (And.intro @cfT (And.intro @AHQ (And.intro @AHR (And.intro @AHS (And.intro @A5a (And.intro @AGz (And.intro @cvE (And.intro @AH0 (And.intro @AH1 (And.intro @umN (And.intro @umC (And.intro @ceN (And.intro @ceT (And.intro @AH3 (And.intro @AH4 (And.intro @AH5 (And.intro @AH6 (And.intro @utV (And.intro @utC (And.intro @ldO (And.intro @coE (And.intro @AH8 (And.intro @AH9 (And.intro @AHA (And.intro @AHC (And.intro @oaN (And.intro @oaV (And.intro @oaC (And.intro @oaU (And.intro @saU (And.intro @saV (And.intro @saC (And.intro @AHD (And.intro @ADx (And.intro @ADy (And.intro @ADz (And.intro @AHf (And.intro @AHg (And.intro @ADG (And.intro @ADt (And.intro @uK (And.intro @A2H (And.intro @AEj (And.intro @AEk (And.intro @A7O (And.intro @AEn (And.intro @A6h (And.intro @A21 (And.intro @A6j (And.intro @A24 (And.intro @A6m (And.intro @A6n (And.intro @A6o (And.intro @A25 (And.intro @A6p (And.intro @A6q (And.intro @A6r (And.intro @A6s (And.intro @AHL (And.intro @ADs (And.intro @ADu (
 And.intro @A9A (
 And.intro @A9B (
 And.intro @AHM (
 And.intro @ctT (
 And.intro @AHN (
 And.intro @AHO (
 And.intro @AHP (
 And.intro (And.intro @AHY (And.intro @A9E (And.intro @AHU (And.intro @AHX (And.intro @AHV (And.intro @caN (And.intro @caV @caC))))))) (
 And.intro @AHa (
 And.intro @AHb (
 And.intro @AHc (
 And.intro @A7h (
 And.intro @A2Q (
 And.intro @A7i (
 And.intro @AF8 (
 And.intro @A7j (
 And.intro @A2R (
 And.intro @axK (
 And.intro @A7k (
 And.intro @A7l (
 And.intro @AF9 (
 And.intro @A7m (
 And.intro @AHd (
 And.intro @AHe (
 And.intro @AHh (
 And.intro @AHi (
 And.intro @AHk (
 And.intro @dvW (
 And.intro @dvO (
 And.intro @dvS (
 And.intro @AHm (
 And.intro @AHo (
 And.intro @svW (
 And.intro @svO (
 And.intro @svL (
 And.intro @svS (
 And.intro @AHq (
 And.intro @AHr (
 And.intro @A9G (
 And.intro @AHs (
 And.intro @ADf (
 And.intro @ADg (
 And.intro @ADh (
 And.intro @A5t (
 And.intro @A5u (
 And.intro @A5v (
 And.intro @A5w (
 And.intro @ADi (
 And.intro @tqU (
 And.intro @A5x (
 And.intro @A1q (
 And.intro @A5y (
 And.intro @ADj (
 And.intro @A5z (
 And.intro @A60 (
 And.intro @A61 (
 And.intro @A62 (
 And.intro @A8K (
 And.intro @A8L (
 And.intro @A2j (
 And.intro @A8M (
 And.intro @AFV (
 And.intro @A8N (
 And.intro @A8O (
 And.intro @A8P (
 And.intro @A8Q (
 And.intro @AFW (
 And.intro @bkK (
 And.intro @A8s (
 And.intro @A36 (
 And.intro @A8t (
 And.intro (And.intro @A37 @AGX) (
 And.intro @A8u (
 And.intro @AGY (
 And.intro @A8v (
 And.intro @A5A (
 And.intro @A5B (
 And.intro @ADJ (
 And.intro @ADK (
 And.intro @ADL (
 And.intro @A5C (
 And.intro @ndK (
 And.intro @AE7 (
 And.intro @A6U (
 And.intro @AE8 (
 And.intro @apK (
 And.intro @A7e (
 And.intro @AF0 (
 And.intro @AF1 (
 And.intro @A7z (
 And.intro @A80 (
 And.intro @A2Z (
 And.intro @dl2 (
 And.intro @dl1 (
 And.intro @AGn (
 And.intro @A91 (
 And.intro @A39 (
 And.intro @A92 (
 And.intro @AGl (
 And.intro @AGm (
 And.intro @A93 (
 And.intro @A90 (
 And.intro @AGZ (
 And.intro @AGa (
 And.intro @AGc (
 And.intro @A8w (
 And.intro @AGd (
 And.intro @AGe (
 And.intro @AGf (
 And.intro @csS (
 And.intro @rg1 (
 And.intro @rg2 (
 And.intro @rg3 (
 And.intro @rg4 (
 And.intro @rg5 (
 And.intro @rg6 (
 And.intro @rg7 (
 And.intro @A8x (
 And.intro @A38 (
 And.intro @A8y (
 And.intro @AGj (
 And.intro @A8z (
 And.intro @AGk (
 And.intro @noA (
 And.intro @AGo (
 And.intro @AGp (
 And.intro @A3A (
 And.intro @AGq (
 And.intro @AGr (
 And.intro @AGs (
 And.intro @A95 (
 And.intro @A96 (
 And.intro @AGu (
 And.intro @AGv (
 And.intro @AGw (
 And.intro @AGx (
 And.intro @AGy (
 And.intro @kS (
 And.intro @bnN (
 And.intro @bnS (
 And.intro @AHF (
 And.intro @slT (
 And.intro @AHG (
 And.intro @AHt (
 And.intro @AHH (
 And.intro @AHI (
 And.intro @AHJ (
 And.intro @AHK (
 And.intro @A8R (
 And.intro @bkT (
 And.intro @bkF (
 And.intro @bkE (
 And.intro @bkL (
 And.intro @A8S (
 And.intro @A2k (
 And.intro @ipC (
 And.intro @ipN (
 And.intro @ipE (
 And.intro @ieC (
 And.intro @ieN (
 And.intro @fiA (
 And.intro @fiB (
 And.intro @fiC (
 And.intro @fiE (
 And.intro @A2g (
 And.intro @A2h (
 And.intro @AFQ (
 And.intro @A8G (
 And.intro @AEo (
 And.intro @AEp (
 And.intro @AEq (
 And.intro @AEr (
 And.intro @bxA (
 And.intro @AEt (
 And.intro @hdC (
 And.intro @AF5 (
 And.intro @AF6 (
 And.intro @AF7 (
 And.intro @mvT (
 And.intro @AFZ (
 And.intro @AFa (
 And.intro @A2m (
 And.intro @uL (
 And.intro @A2n (
 And.intro @A8U (
 And.intro @A2o (
 And.intro @A2p (
 And.intro @A8V (
 And.intro @A8W (
 And.intro @AFb (
 And.intro @A2q (
 And.intro @uM (
 And.intro @A2r (
 And.intro @A2s (
 And.intro @nk (
 And.intro @A2t (
 And.intro @uN (
 And.intro @A8X (
 And.intro @uO (
 And.intro @AFc (
 And.intro @A2u (
 And.intro @uP (
 And.intro @A8Y (
 And.intro @AFd (
 And.intro @A2v (
 And.intro @AFe (
 And.intro @AFf (
 And.intro @AFg (
 And.intro @AFl (
 And.intro @AFm (
 And.intro @AFn (
 And.intro @A2w (
 And.intro @pmR (
 And.intro @pmW (
 And.intro @ADO (
 And.intro @A5R (
 And.intro @ADQ (
 And.intro @ADB (
 And.intro @ADC (
 And.intro @ADE (
 And.intro @AGP (
 And.intro @AGK (And.intro @AGJ (And.intro @AGL (And.intro @AGM (
 And.intro @AGH (
 And.intro (And.intro @AGT @yMk) (
 And.intro (And.intro @A8r @AGU) (
 And.intro @AGV (
 And.intro @A8m (
 And.intro @A8n (
 And.intro @A1V (
 And.intro @A1W (
 And.intro @tY (
 And.intro @A1X (
 And.intro @A1Y (
 And.intro @tZ (
 And.intro @A5W (
 And.intro @A1h (
 And.intro @A5X (
 And.intro @ADX (
 And.intro @u7 (
 And.intro @A5Y (
 And.intro @A5Z (
 And.intro @ADZ (
 And.intro @ADa (
 And.intro @A1i (
 And.intro @A5b (
 And.intro @A5c (
 And.intro @A5d (
 And.intro @A1j (
 And.intro @A5e (
 And.intro @A5f (
 And.intro @A1k (
 And.intro @A5g (
 And.intro @ADb (
 And.intro @uA (
 And.intro @uB (
 And.intro @A5h (
 And.intro @A5i (
 And.intro @ADc (
 And.intro @A5j (
 And.intro @A1l (
 And.intro @uC (
 And.intro @A1m (
 And.intro @A5k (
 And.intro @nR (
 And.intro @nS (
 And.intro @A5l (
 And.intro @A1n (
 And.intro @A1o (
 And.intro @A5m (
 And.intro @A5n (
 And.intro @A1p (
 And.intro @A5o (
 And.intro @ADd (
 And.intro @uD (
 And.intro @A5p (
 And.intro @A5q (
 And.intro @A5r (
 And.intro @A5s (
 And.intro @ADk (
 And.intro @A1r (
 And.intro @A63 (
 And.intro @A64 (
 And.intro @A65 (
 And.intro @pkB (
 And.intro @pkT (
 And.intro @pkF (
 And.intro @A55 (
 And.intro @A56 (
 And.intro @A57 (
 And.intro @AE4 (
 And.intro @A6S (
 And.intro @A6T (
 And.intro @AE9 (
 And.intro @AEA (
 And.intro @AEE (
 And.intro @AEF (
 And.intro @A66 (
 And.intro @A67 (
 And.intro @A68 (
 And.intro @A69 (
 And.intro @A6A (
 And.intro @A6B (
 And.intro @ADl (
 And.intro @A6C (
 And.intro @nT (
 And.intro @A6D (
 And.intro @A6E (
 And.intro @ADm (
 And.intro @ADn (
 And.intro @ADo (
 And.intro @ADp (
 And.intro @ADq (
 And.intro @ADr (
 And.intro @A6F (
 And.intro @A6G (
 And.intro @A6H (
 And.intro @A6I (
 And.intro @A6J (
 And.intro @A1s (
 And.intro @A6K (
 And.intro @A6L (
 And.intro @boI (
 And.intro @boS (
 And.intro @boB (
 And.intro @boA (
 And.intro @A1t (
 And.intro @A6M (
 And.intro @A6N (
 And.intro @A6O (
 And.intro @ldC (
 And.intro @AEJ (
 And.intro @ldP (
 And.intro @AEK (
 And.intro @ldB (
 And.intro @AEL (
 And.intro @ldV (
 And.intro @AEM (
 And.intro @A6Z (
 And.intro @A6b (
 And.intro @A1z (
 And.intro @A20 (
 And.intro @A6c (
 And.intro @AEN (
 And.intro @A6d (
 And.intro @AEO (
 And.intro @A6f (
 And.intro @A6g (
 And.intro @lnT (
 And.intro @AER (
 And.intro @A6t (
 And.intro @A6u (
 And.intro @ixT (
 And.intro @AET (
 And.intro @AGF (
 And.intro @A8j (
 And.intro @AGG (
 And.intro @A8k (
 And.intro @uI (
 And.intro @ek (
 And.intro @aT (
 And.intro @eu (
 And.intro @uR (
 And.intro @oD (
 And.intro @fA (
 And.intro @kP (
 And.intro @fB (
 And.intro @Xy (
 And.intro @QH (
 And.intro @A2z (
 And.intro @uS (
 And.intro @o9 (
 And.intro @oG (
 And.intro @aS (
 And.intro @oC (
 And.intro @A6v (
 And.intro @tkC (
 And.intro @A72 (
 And.intro @A2B (
 And.intro @A73 (
 And.intro @AEY (
 And.intro @A74 (
 And.intro @A75 (
 And.intro @A76 (
 And.intro @A2C (
 And.intro @AEZ (
 And.intro @A77 (
 And.intro @A6w (
 And.intro @A28 (
 And.intro @A6x (
 And.intro @AEU (
 And.intro @A6y (
 And.intro @A6z (
 And.intro @A70 (
 And.intro @A29 (
 And.intro @AEV (
 And.intro @w9 (
 And.intro @AEW (
 And.intro @AEX (
 And.intro @A2A (
 And.intro @uJ (
 And.intro @A2D (
 And.intro @iW (
 And.intro @hoI (
 And.intro @hoB (
 And.intro @hoS (
 And.intro @A78 (
 And.intro @A79 (
 And.intro @A7A (
 And.intro @A7B (
 And.intro @A2E (
 And.intro @AEa (
 And.intro @AEb (
 And.intro @hoK (
 And.intro @hoU (
 And.intro @A7C (
 And.intro @A7D (
 And.intro @A7E (
 And.intro @AEd (
 And.intro @A7F (
 And.intro @AEe (
 And.intro @AEf (
 And.intro @AEg (
 And.intro @AEh (
 And.intro @A7G (
 And.intro @A7H (
 And.intro @A7I (
 And.intro @A7J (
 And.intro @A7K (
 And.intro @A7L (
 And.intro @A7M (
 And.intro @A7N (
 And.intro @A2F (
 And.intro @AEu (
 And.intro @A7P (
 And.intro @A7Q (
 And.intro @A7R (
 And.intro @A7S (
 And.intro @A7T (
 And.intro @A2K (
 And.intro @A7U (
 And.intro @AEv (
 And.intro @A7V (
 And.intro @A7W (
 And.intro @A7X (
 And.intro @A2L (
 And.intro @ceS (
 And.intro @A7Y (
 And.intro @A2M (
 And.intro @A7Z (
 And.intro (And.intro @A2N @AEw) (
 And.intro @A7a (
 And.intro @AEx (
 And.intro @A7b (
 And.intro @AEy (
 And.intro @AF3 (
 And.intro @AF4 (
 And.intro @A2O (
 And.intro @A2P (
 And.intro @A7f (
 And.intro @A7g (
 And.intro @arC (
 And.intro @arF (
 And.intro @aCS (
 And.intro @A7n (
 And.intro @A2S (
 And.intro @A7o (
 And.intro @AFA (
 And.intro @A7p (
 And.intro @A2T (
 And.intro @atK (
 And.intro @A7r (
 And.intro @A7s (
 And.intro @AFE (
 And.intro @A2U (
 And.intro @A2V (
 And.intro @A7t (
 And.intro @A7u (
 And.intro @AFB (
 And.intro @AFD (
 And.intro @AFF (
 And.intro @AFG (
 And.intro @A2W (
 And.intro @A7v (
 And.intro @A2X (
 And.intro @A7w (
 And.intro @A2Y (
 And.intro @A7x (
 And.intro @AFH (
 And.intro @A7y (
 And.intro @AFI (
 And.intro @A81 (
 And.intro @cdB (
 And.intro @AFJ (
 And.intro @AFK (
 And.intro @AFL (
 And.intro @cdL (
 And.intro @AFM (
 And.intro @AFN (
 And.intro @A82 (
 And.intro @A2b (
 And.intro @A83 (
 And.intro @wC (
 And.intro @A84 (
 And.intro @A85 (
 And.intro @A86 (
 And.intro @A2c (
 And.intro @iX (
 And.intro @A87 (
 And.intro @A2d (
 And.intro @A88 (
 And.intro @A89 (
 And.intro @A8A (
 And.intro @A2e (
 And.intro @A8C (
 And.intro @ni (
 And.intro @A8D (
 And.intro @A8E (
 And.intro @A8F (
 And.intro @A2f (
 And.intro @AFO (
 And.intro @TD (
 And.intro @AFP (
 And.intro @fiD (
 And.intro @fi0 (
 And.intro @re0 (
 And.intro @re1 (
 And.intro @re2 (
 And.intro @AFR (
 And.intro @A8H (
 And.intro @A8I (
 And.intro @AFS (
 And.intro @A2i (
 And.intro @AFT (
 And.intro @AFU (
 And.intro @A8J (
 And.intro @A8T (
 And.intro @A2l (
 And.intro @AFY (
 And.intro @Ch (
 And.intro @nU (
 And.intro @UJ (
 And.intro @aM (
 And.intro @aN (
 And.intro @eZ (
 And.intro @A5D (
 And.intro @A5G (
 And.intro @A1Z (
 And.intro @A5J (
 And.intro @A5E (
 And.intro @A5H (
 And.intro @A1a (
 And.intro @A5K (
 And.intro @A5F (
 And.intro @A5I (
 And.intro @A1b (
 And.intro @A5L (
 And.intro @kJ (
 And.intro @kK (
 And.intro @A5M (
 And.intro @kL (
 And.intro @nP (
 And.intro @tq (
 And.intro @tu (
 And.intro @u6 (
 And.intro @geq (
 And.intro @Int.toNat_natCast (
 And.intro @Int.toNat_zero (
 And.intro @Int.natCast_nonneg (
 And.intro @Nat.zero_le (
 And.intro @Int.le_refl (
 And.intro @Nat.le_refl (
 And.intro @Bool.and_true (
 And.intro @Bool.true_and (
 And.intro @Bool.and_false (
 And.intro @Bool.false_and (
 And.intro @Bool.or_false (
 And.intro @Bool.false_or (
 And.intro @Bool.or_true (
 And.intro @Bool.true_or (
 And.intro @Bool.not_true (
 And.intro @Bool.not_false (
 And.intro @Bool.false_eq_true (
 And.intro @decide_true (
 And.intro @decide_false (
 And.intro @and_self (
 And.intro @and_true (@true_and))))))))))))))))))))))))))))))))))))))))))))))))))))))))))))))))))))))))))))))))))))))))))))))))))))))))))))))))))))))))))))))))))))))))))))))))))))))))))))))))))))))))))))))))))))))))))))))))))))))))))))))))))))))))))))))))))))))))))))))))))))))))))))))))))))))))))))))))))))))))))))))))))))))))))))))))))))))))))))))))))))))))))))))))))))))))))))))))))))))))))))))))))))))))))))))))))))))))))))))))))))))))))))))))))))))))))))))))))))))))))))))))))))))))))))))))))))))))))))))))))))))))))))))))))))))))))))))))))))))))))))))))))))))))))))))))))))))))))))))))))))))))))))))))))))))))))))))))))))))))))))))))))))))))))))))))))))))))))))))))))))))))))))))))))))))))))))))))))))))))))))))
end Dv
