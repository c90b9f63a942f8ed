/- Value semantics for Go code, part 4: arguments of laws, slim code and rules. Conditions: none beyond those in each lemma. -/
import Derived.Test.YtaogbcdlpgfplaaDoorL3
import Derived.WalkKit
import Derived.ProofKit
import Derived.OpenShut
import Derived.ShutString
import Derived.ChangeOld
import Derived.Below
import Derived.Carry
import Derived.IntWalk
set_option linter.unusedSimpArgs false
set_option linter.unusedVariables false
namespace Dv
open Go
inductive Shp(T:Tys):TypeId→List D→Prop
 |int {t k n} (ht:T.ty t= .int k) (hw:(Lit.int k n).wf=true):Shp T t [.int k n]
 |bool {t b} (ht:T.ty t= .bool):Shp T t [.bool b]
 |string {t s} (ht:T.ty t= .string) (hs:s.size≤maxLen):Shp T t [.str s]
 |slice {t e} {xss:List (List D)} (ht:T.ty t= .slice e) (hx: ∀xs,xs∈xss→Shp T e xs) (hl:xss.length≤maxLen):Shp T t [.sl e xss.flatten]
 |struct {t fs} {ds:List D} (ht:T.ty t= .struct fs) (hl:ds.length=fs.length) (hx: ∀(i:Nat) (f:TypeId) (d:D),fs[i]? =some f→ds[i]? =some d→Shp T f [d]):Shp T t ds
def Nn(T:Tys):Nat→TypeId→Bool
 |0,_=>false
 |n+1,t=>match T.ty t with
  | .int _=>true
  | .bool=>true
  | .string=>true
  | .slice e=>T.known e&&Nn T n e
  | .struct fs=>(T.nest t).isNone&& !fs.isEmpty&&fs.all (Nn T n)
  |_=>false
theorem Shp.length{T:Tys}{t:TypeId}{ds:List D}(h:Shp T t ds):ds.length=T.size t:=by
 cases h with
 |int ht=>simp [Tys.size,ht,Ty.size]
 |bool ht=>simp [Tys.size,ht,Ty.size]
 |string ht=>simp [Tys.size,ht,Ty.size]
 |slice ht=>simp [Tys.size,ht,Ty.size]
 |struct ht hl=>simp [Tys.size,ht,Ty.size,hl]
theorem Wd{α:Type}{n:Nat}(hn:0<n): ∀(xss:List (List α)),(∀xs∈xss,xs.length=n)→ ∀k:Nat,xss.flatten[k]? =(xss[k / n]?).bind fun xs=>xs[k % n]? :=by
 intro xss
 induction xss with
 |nil=>intro _ k;simp
 |cons xs xss ih=>
  intro h k
  have hx:=h xs (List.mem_cons_self)
  rw [List.flatten_cons]
  rcases Nat.lt_or_ge k n with hk|hk
  ·rw [List.getElem?_append_left (by omega),Nat.div_eq_of_lt hk,Nat.mod_eq_of_lt hk];rfl
  ·rw [List.getElem?_append_right (by omega),ih (fun ys hy=>h ys (List.mem_cons_of_mem _ hy)),hx]
   have h1:k / n=(k-n) / n+1:=by
    rw [Nat.div_eq_sub_div hn hk]
   have h2:k % n=(k-n) % n:=by rw [Nat.mod_eq_sub_mod hk]
   rw [h1,h2];rfl
theorem Qw{α:Type}{n:Nat}: ∀(xss:List (List α)),(∀xs∈xss,xs.length=n)→xss.flatten.length=xss.length*n:=by
 intro xss
 induction xss with
 |nil=>intro _;simp
 |cons xs xss ih=>
  intro h
  rw [List.flatten_cons,List.length_append,ih (fun ys hy=>h ys (List.mem_cons_of_mem _ hy)),h xs (List.mem_cons_self),List.length_cons,Nat.add_mul];omega
abbrev Zg(w:World):Nat→Prop:=fun k=>k<w.heap.size
section
variable {P:Program} {T:Tys} {H:Type} {enc:TypeId×Value→H} {w:World} {spare:Nat→Bool} {Km:Bool}
theorem BU.cells(h:BU P T){t:TypeId}(hk:T.known t=true):P.cellsOf t=T.size t:=by
 obtain⟨i,h1,h2,_⟩:=h.info hk
 simp [Program.cellsOf,h1,h2]
theorem YV{n:Nat}{t:TypeId}(h:Nn T n t=true):T.known t=true:=by
 cases n with
 |zero=>cases h
 |succ n=>
  unfold Nn at h
  unfold Tys.known
  cases ht:T.ty t with
  |struct fs=>
   rw [ht]at h
   cases fs with
   |nil=>simp at h
   |cons=>rfl
  |other=>rw [ht]at h;cases h
  |map=>rw [ht]at h;cases h
  |iface=>rw [ht]at h;cases h
  |arr=>rw [ht]at h;cases h
  |_=>rfl
theorem fF{t:TypeId}(hk:T.known t=true):0<T.size t:=by
 unfold Tys.known at hk
 unfold Tys.size
 cases ht:T.ty t with
 |struct fs=>
  rw [ht]at hk
  cases fs with
  |nil=>cases hk
  |cons=>simp [Ty.size]
 |arr n e=>
  rw [ht]at hk
  cases n with
  |zero=>cases hk
  |succ=>simp [Ty.size]
 |_=>simp [Ty.size]
theorem YW{base:Nat}{a:Addr}{n:Nat}{cs:List Value}(h:w.cells? base a n=some cs):cs.length=n∧ ∀i,i<n→w.cell? (a.add i)=cs[i]? :=by
 unfold World.cells? at h
 split at h
 ·exact⟨by simpa using mapM_some_length h,fun i hi=>by have:=mapM_some_get h i i (by simp [hi]);simpa using this⟩
 ·cases h
theorem kF{ad:Addr}{v:Value}(h:w.cell? ad=some v):ad.block<w.heap.size:=by
 rcases Nat.lt_or_ge ad.block w.heap.size with hl|hl
 ·exact hl
 ·have h1:=Array.getElem?_eq_none hl
  simp [World.cell?,h1]at h
theorem fG(hT:BU P T): ∀(fuel:Nat) (n:Nat) (t:TypeId) (cs:List Value) (x:DataW H×List MemPlace),Nn T n t=true→DataW.trod enc P w 0 spare Km fuel t cs=some x→
  ∃ds,Shp T t ds∧cs.length=ds.length∧ ∀(i:Nat) (d:D),ds[i]? =some d→ ∃v,cs[i]? =some v∧W T (Zg w) w V0 Fj d v (fun _=>False):=by
 have hE:Em (fun _:Nat=>False):=fun _ h=>h
 have one: ∀(d0:D) (v0:Value),W T (Zg w) w V0 Fj d0 v0 (fun _=>False)→ ∀(i:Nat) (d:D),[d0][i]? =some d→ ∃v,[v0][i]? =some v∧W T (Zg w) w V0 Fj d v (fun _=>False):=by
  intro d0 v0 h i d hi
  cases i with
  |zero=>simp at hi;subst hi;exact⟨v0,rfl,h⟩
  |succ i=>simp at hi
 intro fuel
 induction fuel with
 |zero=>intro n t cs x _ h;simp [DataW.trod]at h
 |succ fuel ih=>
  intro n t cs x hd h
  have hk:=YV hd
  have h0:=(hT t).1
  unfold DJ at h0
  cases n with
  |zero=>cases hd
  |succ n=>
   unfold Nn at hd
   cases ht:T.ty t<;>rw [ht]at h0 hd<;>simp only at h0 hd
   case int k=>
    obtain⟨m,rfl,_,hw⟩:=DataW.trod_int h0.1 h
    exact⟨[.int k m], .int ht hw,rfl,one _ _ (.int hE)⟩
   case bool=>
    obtain⟨b,rfl,_⟩:=DataW.trod_bool h0.1 h
    exact⟨[.bool b], .bool ht,rfl,one _ _ (.bool hE)⟩
   case string=>
    obtain⟨s,rfl,_,hs⟩:=DataW.trod_string h0.1 h
    exact⟨[.str s], .string ht hs,rfl,one _ _ (.str hE)⟩
   case slice e=>
    simp only [Bool.and_eq_true]at hd
    have hc:=hT.cells hd.1
    have hpos:=fF hd.1
    rcases DataW.trod_slice h0.1 h with⟨rfl,_⟩|⟨a,len,cap,elems,rest,m,hm,rfl,_,_,hl,hcap,hlen,hel,_,_⟩
    ·exact⟨[.sl e ([]:List (List D)).flatten], .slice ht (by simp) (by simp [maxLen]),rfl,one _ _ (.sl (fun _=>undef) hE (by simp) (Nat.le_refl _) (by simp [maxLen]) (by simp) (by simp))⟩
    ·injection hm with hm
     subst hm
     have hex: ∀i,i<len→ ∃ds,Shp T e ds∧ ∀(j:Nat) (d:D),ds[j]? =some d→ ∃v,w.cell? (a.add (i*T.size e+j))=some v∧W T (Zg w) w V0 Fj d v (fun _=>False):=by
      intro i hi
      have h1:=hel i hi
      rw [List.getElem?_eq_getElem (by omega),Option.bind_eq_some_iff]at h1
      obtain⟨cs',h2,h3⟩:=h1
      obtain⟨ds,q1,q2,q3⟩:=ih n e cs' _ hd.2 h3
      refine⟨ds,q1,fun j d hj=> ?_⟩
      obtain⟨v,hv,hW⟩:=q3 j d hj
      obtain⟨c1,c2⟩:=YW h2
      rw [hc]at c1 c2
      have hj':j<T.size e:=by rw [←c1];exact(List.getElem?_eq_some_iff.1 hv).1
      have h4:=c2 j hj'
      rw [Hm]at h4
      exact⟨v,by rw [h4,hv],hW⟩
     let ch:Nat→List D:=fun i=>if h:i<len then(hex i h).choose else []
     have hch: ∀i,i<len→Shp T e (ch i)∧ ∀(j:Nat) (d:D),(ch i)[j]? =some d→ ∃v,w.cell? (a.add (i*T.size e+j))=some v∧W T (Zg w) w V0 Fj d v (fun _=>False):=by
      intro i hi
      have:=(hex i hi).choose_spec
      simp only [ch,hi,dif_pos];exact this
     have hall: ∀xs∈(List.range len).map ch,xs.length=T.size e:=by
      intro xs hxs
      obtain⟨i,hi,rfl⟩:=List.mem_map.1 hxs
      exact(hch i (List.mem_range.1 hi)).1.length
     refine⟨[.sl e ((List.range len).map ch).flatten], .slice ht (fun xs hxs=> ?_) (by simp;omega),rfl,one _ _ ?_⟩
     ·obtain⟨i,hi,rfl⟩:=List.mem_map.1 hxs
      exact(hch i (List.mem_range.1 hi)).1
     ·have key: ∀(i:Nat) (x:D),((List.range len).map ch).flatten[i]? =some x→ ∃v,w.cell? (a.add i)=some v∧W T (Zg w) w V0 Fj x v (fun _=>False):=by
       intro i x hi
       rw [Wd hpos _ hall,Option.bind_eq_some_iff]at hi
       obtain⟨xs,h1,h2⟩:=hi
       rw [List.getElem?_map,Option.map_eq_some_iff]at h1
       obtain⟨q,hq,rfl⟩:=h1
       obtain⟨hq1,hq2⟩:=List.getElem?_eq_some_iff.1 hq
       simp only [List.getElem_range]at hq2
       subst hq2
       obtain⟨v,hv,hW⟩:=(hch _ (by simpa using hq1)).2 _ x h2
       rw [show i / T.size e*T.size e+i % T.size e=i by rw [Nat.mul_comm];exact Nat.div_add_mod i (T.size e)]at hv
       exact⟨v,hv,hW⟩
      refine .sl (fun i=>(w.cell? (a.add i)).getD undef) hE (by rw [Qw _ hall];simp) hl hcap (fun i x hi=> ?_) (fun i x hi=> ?_)
      ·obtain⟨v,hv,_⟩:=key i x hi
       exact⟨a,rfl,by have:=kF hv;rw [JI]at this;exact this,by rw [hv];rfl⟩
      ·obtain⟨v,hv,hW⟩:=key i x hi
       simp only [hv,Option.getD_some];exact hW
   case struct fs=>
    simp only [Bool.and_eq_true,List.all_eq_true,Option.isNone_iff_eq_none]at hd
    obtain⟨⟨fields,hu,hfx⟩,hinfo⟩:=h0
    rw [hd.1.1]at hfx
    obtain⟨hfl,hfi⟩:=hfx
    obtain⟨xs,m,hm,_,hcl,hxl,hx⟩:=DataW.trod_struct hu h
    injection hm with hm
    subst hm
    rw [hT.cells hk]at hcl
    have hsz:T.size t=fs.length:=by simp [Tys.size,ht,Ty.size]
    have hex: ∀i,i<fs.length→ ∃d f,fs[i]? =some f∧Shp T f [d]∧ ∃v,cs[i]? =some v∧W T (Zg w) w V0 Fj d v (fun _=>False):=by
     intro i hi
     have hif:i<fields.size:=by omega
     obtain⟨f1,f2,f3,f4⟩:=hfi i _ (Array.getElem?_eq_getElem hif)
     have h1:=hx i _ (Array.getElem?_eq_getElem hif)
     have hs1:T.size fields[i].type=1:=by
      unfold Tys.isStruct at f4
      unfold Tys.size
      cases hty:T.ty fields[i].type<;>simp_all [Ty.isStruct,Ty.size]
     rw [f1,hT.cells f3,hs1,List.getElem?_eq_getElem (by omega)]at h1
     obtain⟨ds,q1,q2,q3⟩:=ih n _ _ _ (hd.2 _ (List.mem_of_getElem? f2)) h1
     have hl1:ds.length=1:=by rw [q1.length,hs1]
     obtain⟨d,rfl⟩:=List.length_eq_one_iff.1 hl1
     obtain⟨v,hv,hW⟩:=q3 0 d rfl
     refine⟨d,_,f2,q1,v, ?_,hW⟩
     rw [List.getElem?_take]at hv
     simp only [Nat.zero_lt_one,if_true,List.getElem?_drop,Nat.add_zero]at hv
     exact hv
    let ch:Nat→D:=fun i=>if h:i<fs.length then(hex i h).choose else .undef
    have hch: ∀i,i<fs.length→ ∃f,fs[i]? =some f∧Shp T f [ch i]∧ ∃v,cs[i]? =some v∧W T (Zg w) w V0 Fj (ch i) v (fun _=>False):=by
     intro i hi
     have:=(hex i hi).choose_spec
     simp only [ch,hi,dif_pos];exact this
    have hget: ∀(i:Nat) (d:D),((List.range fs.length).map ch)[i]? =some d→i<fs.length∧d=ch i:=by
     intro i d hi
     rw [List.getElem?_map,Option.map_eq_some_iff]at hi
     obtain⟨q,hq,rfl⟩:=hi
     obtain⟨hq1,hq2⟩:=List.getElem?_eq_some_iff.1 hq
     simp only [List.getElem_range]at hq2
     subst hq2
     exact⟨by simpa using hq1,rfl⟩
    refine⟨(List.range fs.length).map ch, .struct ht (by simp) (fun i f d hf hi=> ?_),by simp;omega,fun i d hi=> ?_⟩
    ·obtain⟨h1,rfl⟩:=hget i d hi
     obtain⟨f',hf',hs,_⟩:=hch i h1
     rw [hf]at hf';injection hf' with hf';subst hf';exact hs
    ·obtain⟨h1,rfl⟩:=hget i d hi
     obtain⟨f',hf',hs,v,hv,hW⟩:=hch i h1
     exact⟨v,hv,hW⟩
   all_goals (cases hd)
def xk(T:Tys)(t:TypeId)(ds:List D):D:=if T.isStruct t then .agg ds else ds.headD .undef
def Arg(T:Tys)(t:TypeId)(d:D):Prop:= ∃ds,Shp T t ds∧d=xk T t ds
theorem xm(hT:BU P T){r:Reach}{base n:Nat}{t:TypeId}{v:Value}{d0:DataW H}{ps:List MemPlace}(hd:Nn T n t=true)(hv:Value.okWide P w r base t v)(h:DataW.Trod enc P w 0 spare Km t v d0 ps):
  ∃d,Arg T t d∧W T (Zg w) w V0 Fj d v (fun _=>False):=by
 obtain⟨fuel,hf⟩:=h
 obtain⟨ds,q1,q2,q3⟩:=fG hT fuel n t _ _ hd hf
 have hfact:=(hT t).1
 unfold DJ at hfact
 have flat:T.isStruct t=false→v.cells.toList=[v]→ ∃d,Arg T t d∧W T (Zg w) w V0 Fj d v (fun _=>False):=by
  intro hs hc
  have hl:ds.length=1:=by rw [←q2,hc];rfl
  obtain⟨d,rfl⟩:=List.length_eq_one_iff.1 hl
  obtain⟨v',hv',hW⟩:=q3 0 d rfl
  rw [hc]at hv'
  simp only [List.getElem?_cons_zero,Option.some.injEq]at hv'
  subst hv'
  exact⟨d,⟨[d],q1,by simp [xk,hs]⟩,hW⟩
 cases n with
 |zero=>cases hd
 |succ n=>
  unfold Nn at hd
  cases ht:T.ty t<;>rw [ht]at hfact hd<;>simp only at hfact hd
  case int k=>
   refine flat (by simp [Tys.isStruct,ht,Ty.isStruct]) ?_
   simp only [Value.okWide,hfact.1,Cell.okWide]at hv
   cases v<;>simp_all [Cell.ok,Value.cells]
  case bool=>
   refine flat (by simp [Tys.isStruct,ht,Ty.isStruct]) ?_
   simp only [Value.okWide,hfact.1,Cell.okWide]at hv
   cases v<;>simp_all [Cell.ok,Value.cells]
  case string=>
   refine flat (by simp [Tys.isStruct,ht,Ty.isStruct]) ?_
   simp only [Value.okWide,hfact.1,Cell.okWide]at hv
   cases v<;>simp_all [Cell.ok,Value.cells]
  case slice e=>
   refine flat (by simp [Tys.isStruct,ht,Ty.isStruct]) ?_
   simp only [Value.okWide,hfact.1,Cell.okWide]at hv
   cases v<;>simp_all [Cell.ok,Value.cells]
  case struct fs=>
   obtain⟨⟨fields,hu,_⟩,_⟩:=hfact
   obtain⟨cs,rfl,hcs⟩:=WideShapes.okWide_struct hu hv
   have hval: ∀(i:Nat) (d:D),ds[i]? =some d→cs[i]? =some (cs.getD i undef)∧W T (Zg w) w V0 Fj d (cs.getD i undef) (fun _=>False):=by
    intro i d hi
    obtain⟨v,hv',hW⟩:=q3 i d hi
    have:cs[i]? =some v:=by simpa [Value.cells] using hv'
    rw [Array.getD_eq_getD_getElem?,this];exact⟨rfl,hW⟩
   refine⟨.agg ds,⟨ds,q1,by simp [xk,Tys.isStruct,ht,Ty.isStruct]⟩, .agg (fun i=>cs.getD i undef) (fun _ _=>False) (by simpa [Value.cells] using q2) (fun i x hi=>(hval i x hi).1) (fun k=>⟨fun h=>h.elim,fun⟨_,_,h⟩=>h⟩) (fun _ _ _ _ _ _ h=>h.elim) (fun i x hi=>(hval i x hi).2)⟩
  all_goals (cases hd)
end
def qX(T:Tys):List TypeId→List D→Prop
 | [],[]=>True
 |t::ts,d::ds=>Arg T t d∧qX T ts ds
 |_,_=>False
theorem args_W{P:Program}{T:Tys}{H:Type}{enc:TypeId×Value→H}{w:World}{r:Reach}{base n:Nat}(hT:BU P T): ∀(ts:List TypeId) (vs:List Value) (d0:List (DataW H)) (ps:List MemPlace),ts.all (Nn T n)=true→
  (∀(j:Nat) (t:TypeId) (v:Value),ts[j]? =some t→vs[j]? =some v→Value.okWide P w r base t v)→DataW.TrodAll enc P w 0 (fun _=>true) true ts vs d0 ps→
  ∃ds,qX T ts ds∧vs.length=ds.length∧ ∀(i:Nat) (d:D),ds[i]? =some d→ ∃v,vs[i]? =some v∧W T (Zg w) w V0 Fj d v (fun _=>False):=by
 intro ts
 induction ts with
 |nil=>
  intro vs d0 ps _ _ h
  cases vs<;>cases d0<;>simp [DataW.TrodAll]at h
  exact⟨[],trivial,rfl,by simp⟩
 |cons t ts ih=>
  intro vs d0 ps hd hv h
  cases vs with
  |nil=>cases d0<;>simp [DataW.TrodAll]at h
  |cons v vs=>
   cases d0 with
   |nil=>simp [DataW.TrodAll]at h
   |cons d0 ds0=>
    simp only [DataW.TrodAll]at h
    obtain⟨p,q,h1,h2,_⟩:=h
    simp only [List.all_cons,Bool.and_eq_true]at hd
    obtain⟨d,ha,hW⟩:=xm hT hd.1 (hv 0 t v rfl rfl) h1
    obtain⟨ds,hb,hl,hWs⟩:=ih vs ds0 q hd.2 (fun j t' v' hj hj'=>hv (j+1) t' v' (by simpa using hj) (by simpa using hj')) h2
    refine⟨d::ds,⟨ha,hb⟩,by simp [hl],fun i x hi=> ?_⟩
    cases i with
    |zero=>simp at hi;subst hi;exact⟨v,rfl,hW⟩
    |succ i=>simpa using hWs i x (by simpa using hi)
theorem law_callsV{Y:Sys}(hY:Y.Ok){f:FuncId}{ds:List D}(hc:Y.call f ds []=some (.bool true,[])){vs:Array Value}{w:World}(hl:vs.size=ds.length)
  (hW: ∀(i:Nat) (d:D),ds[i]? =some d→ ∃v,vs[i]? =some v∧W Y.T (Zg w) w V0 Fj d v (fun _=>False))(hv: ∀p∈Y.T.vars,∃o,w.heap[p.1]? =some o∧p.2 o):
  Calls Y.P f vs w fun e w'=>e= .returned (.bool true)∧RowKit.Below w.heap.size w w':=by
 have hg:=Sys.call_good hY hc
 refine Calls.mono (hg.2 vs (fun _=>undef) w (Zg w) (fun _ _=>False) hl (fun i d hi=> ?_) (fun j d hj=>by simp at hj) (fun _ _ _ h=>h) (fun _ _ _ _ h=>h.elim) (fun _ h=>h) (fun p hp=> ?_)) ?_
 ·obtain⟨v,hv,hWv⟩:=hW i d hi
  exact⟨v,hv,hWv.up⟩
 ·obtain⟨o,h1,h2⟩:=hv p hp
  exact⟨(Array.getElem?_eq_some_iff.1 h1).1,o,h1,h2⟩
 ·intro e w' he
  cases e with
  |returned v=>
   obtain⟨S',F,FL',h1,_,_,_,hst,_,_⟩:=he
   cases h1 with
   |bool=>exact⟨rfl,hst.os,hst.tape,hst.output,hst.size,fun k hk=>hst.heap k hk (fun _ h=>h)⟩
  |panicked=>exact he.elim
  |outgrown=>exact he.elim
theorem trodAll_below{H:Type}{enc:TypeId×Value→H}{P:Program}(hl:laidOutB P=true){W W':World}(hb:RowKit.Below W.heap.size W W'): ∀ {ts:List TypeId} {vs:List Value} {ds:List (DataW H)} {ps:List MemPlace},
  ts.all (fun t=>P.readableRec t&&decide (t<P.types.size))=true→DataW.TrodAll enc P W 0 (fun _=>true) true ts vs ds ps→DataW.TrodAll enc P W' 0 (fun b=>decide (b<W.heap.size)) true ts vs ds ps:=by
 intro ts
 induction ts with
 |nil=>
  intro vs ds ps _ h
  cases vs<;>cases ds<;>simp [DataW.TrodAll]at h ⊢
  exact h
 |cons t ts ih=>
  intro vs ds ps hr h
  cases vs with
  |nil=>cases ds<;>simp [DataW.TrodAll]at h
  |cons v vs=>
   cases ds with
   |nil=>simp [DataW.TrodAll]at h
   |cons d ds=>
    simp only [DataW.TrodAll]at h ⊢
    obtain⟨p,q,h1,h2,h3⟩:=h
    simp only [List.all_cons,Bool.and_eq_true,decide_eq_true_eq]at hr
    have lt0: ∀x∈p,x.block<W.heap.size:=by obtain⟨m,hm⟩:=h1;exact DataW.trod_lt m _ _ _ hm
    exact⟨p,q,RowKit.Below.trod hl hr.1.1 hr.1.2 h1 hb lt0,ih (by simpa using hr.2) h2,h3⟩
end Dv
namespace Dv
open Go
theorem nr{α:Type}{a b:α}(h:a=b):a=b:=h
structure SOp where
 dst:Option Tmp
 op:Op
 type:TypeId
 guard:Option (Option Tmp×Bool)
structure PmL where
 n:List Nat
 r:List Nat
 w:List Nat
def PmL.pm(l:PmL):Pm:=⟨fun r=>l.n.contains r|| !l.r.contains r,fun r=>l.w.contains r⟩
inductive SC where
 |skip
 |ops (l:List SOp)
 |draws (l:List (PmL×SOp))
 |seq (a b:SC)
 |any (q:AnyI)
 |loan (ds:List Tmp) (g:Tmp) (a b:SC)
 |cond (c:Operand) (a b:SC)
 |block (id:Nat) (c:SC)
 |loop (c:SC)
 |exit (id:Nat)
 |ret
 |bad
def N7(ops:Array Oper)(o:Oper):SOp:=⟨o.dst,o.op,o.type,match o.guard with|none=>none|some (j,b)=>some ((ops[j]?).bind (·.dst),b)⟩
def CY(lends:FuncId→Bool):Code→SC
 | .skip=> .skip
 | .region _ ops draw=>
  if draw then
   (if KZ lends ops.toList then .draws (ops.toList.map fun o=>(⟨Ea ops.toList o,ops.toList.flatMap (Dj lends ops.toList),Dj lends ops.toList o⟩,N7 ops (QA lends ops.toList o)))else .bad)
  else .ops (ops.toList.map fun o=>N7 ops (xf lends ops.toList o))
 | .seq a b=>match Vi a b with|some q=> .any q|none=>(match QE a b with|some q=> .loan q.1 q.2 (CY lends a) (CY lends b)|none=> .seq (CY lends a) (CY lends b))
 | .cond c a b=> .cond c (CY lends a) (CY lends b)
 | .block id c=> .block id (CY lends c)
 | .loop c=> .loop (CY lends c)
 | .exit id=> .exit id
 | .ret=> .ret
 |_=> .bad
def IK(E:Env)(pm:Pm)(s:St)(dst:Option Tmp)(op:Op)(type:TypeId):Option St:=jX E pm s ⟨dst,op,type, "", #[],none⟩
def Mj(E:Env)(pm:Pm)(s:St)(o:SOp):Option St:=
 match o.guard with
 |none=>IK E pm s o.dst o.op o.type
 |some (none,_)=>some (s.putO o.dst (.konst undef))
 |some (some t,b)=>
  match s.v t with
  | .bool b'=>if b'==b then IK E pm s o.dst o.op o.type else some (s.putO o.dst (.konst undef))
  | .konst (.tuple _)=>some (s.putO o.dst (.konst undef))
  |_=>none
def fH(E:Env):List SOp→St→Option St
 | [],s=>some s
 |o::l,s=>(Mj E Pm.all s o).bind fun s'=>fH E l s'
def EH(pm:Pm)(s:St)(op:Op):Bool:=
 match op with
 | .move (.tmp u)=> !(s.v u).hasObj||(s.v u).isObj||pm.wr u
 |_=>true
def We(E:Env):List (PmL×SOp)→St→Option St
 | [],s=>some s
 |(p,o)::l,s=>if EH p.pm s o.op then(Mj E p.pm s o).bind fun s'=>We E l s' else none
noncomputable def Ck(E:Env):SC→St→Option (Ex×St)
 | .skip,s=>some (.normal,s)
 | .ops l,s=>(fH E l s).map fun s'=>(.normal,s')
 | .draws l,s=>(We E l s).map fun s'=>(.normal,s')
 | .any q,s=>M9 E.T s q
 | .loan ds g a b,s=>J7 s ds g (match Ck E a (IU s)with|some (.normal,s')=>Ck E b s'|_=>none)
 | .seq a b,s=>
  match Ck E a s with
  |some (.normal,s')=>Ck E b s'
  |r=>r
 | .cond c a b,s=>
  match ev E.T s 0 c with
  |some (.bool t)=>if t then Ck E a s else Ck E b s
  |_=>none
 | .block id c,s=>
  match Ck E c s with
  |some (.exit j,s')=>if j=id then some (.normal,s')else some (.exit j,s')
  |r=>r
 | .loop c,s=>QC (Ck E c) s
 | .exit id,s=>some (.exit id,s)
 | .ret,s=>some (.ret,s)
 | .bad,_=>none
theorem Wh(E:Env)(ops:Array Oper)(pm:Pm)(s:St)(o:Oper):Mj E pm s (N7 ops o)=Hl E ops pm s o:=by
 obtain⟨dst,op,type,pos,after,guard⟩:=o
 unfold Mj Hl KD N7
 cases guard with
 |none=>rfl
 |some g=>
  obtain⟨j,b⟩:=g
  simp only
  cases (ops[j]?).bind (·.dst)with
  |none=>rfl
  |some t=>
   simp only
   cases hv:s.v t with
   |bool b'=>simp only;cases hb:(b'==b)<;>simp<;>rfl
   |konst v=>cases v<;>rfl
   |_=>rfl
theorem kG(E:Env)(ops:Array Oper): ∀(l:List Oper) (s:St),fH E (l.map fun o=>N7 ops (xf E.lends ops.toList o)) s=QB E ops s l:=by
 intro l
 induction l with
 |nil=>intro s;rfl
 |cons o l ih=>
  intro s
  simp only [List.map_cons,fH,QB,Wh]
  cases Hl E ops Pm.all s (xf E.lends ops.toList o)with
  |none=>rfl
  |some s'=>simp only [Option.bind_some];exact ih s'
theorem fI(E:Env)(ops:Array Oper)(l0:List Oper): ∀(l:List Oper) (s:St),
  We E (l.map fun o=>(⟨Ea l0 o,l0.flatMap (Dj E.lends l0),Dj E.lends l0 o⟩,N7 ops (QA E.lends ops.toList o))) s=LJ E ops l0 s l:=by
 intro l
 induction l with
 |nil=>intro s;rfl
 |cons o l ih=>
  intro s
  simp only [List.map_cons,We,LJ,Wh]
  have h1:(PmL.mk (Ea l0 o) (l0.flatMap (Dj E.lends l0)) (Dj E.lends l0 o)).pm=Gc E.lends l0 o:=nr rfl
  have h2:EH (Gc E.lends l0 o) s (N7 ops (QA E.lends ops.toList o)).op=Xq (Gc E.lends l0 o) s o:=nr rfl
  rw [h1,h2]
  split
  ·cases Hl E ops (Gc E.lends l0 o) s (QA E.lends ops.toList o)with
   |none=>rfl
   |some s'=>simp only [Option.bind_some];exact ih s'
  ·rfl
theorem fJ(E:Env): ∀(c:Code),Ck E (CY E.lends c)=Cj E c:=by
 intro c
 induction c with
 |skip=>rfl
 |region id ops draw=>
  funext s
  simp only [CY,Cj]
  cases draw with
  |true=>
   simp only [if_true]
   split
   ·simp only [Ck];rw [fI]
   ·rfl
  |false=>simp only [Bool.false_eq_true,if_false,Ck];rw [kG]
 |seq a b iha ihb=>
  funext s
  simp only [CY,Cj]
  cases Vi a b with
  |some q=>rfl
  |none=>
   cases QE a b with
   |some q=>simp only [Ck,iha,ihb];rfl
   |none=>simp only [Ck,iha,ihb];rfl
 |cond x a b iha ihb=>funext s;simp only [CY,Ck,Cj,iha,ihb];rfl
 |block id c ih=>funext s;simp only [CY,Ck,Cj,ih];rfl
 |loop c ih=>funext s;simp only [CY,Ck,Cj,ih]
 |exit id=>rfl
 |ret=>rfl
 |rangeFunc=>rfl
 |scope=>rfl
 |label=>rfl
 |goto=>rfl
 |refuse=>rfl
def Cu(E:Env)(c:SC)(Q:Ex→St→Prop)(s:St):Prop:= ∃ex s',Ck E c s=some (ex,s')∧Q ex s'
section
variable {E:Env} {Q:Ex→St→Prop} {s:St}
def TT(E:Env)(b:SC)(Q:Ex→St→Prop):Ex→St→Prop
 | .normal,s=>Cu E b Q s
 |ex,s=>Q ex s
def inBlock(id:Nat)(Q:Ex→St→Prop):Ex→St→Prop
 | .exit j,s=>if j=id then Q .normal s else Q (.exit j) s
 |ex,s=>Q ex s
theorem qY{a b:SC}(h:Cu E a (TT E b Q) s):Cu E (.seq a b) Q s:=by
 obtain⟨ex,s1,h1,h2⟩:=h
 cases ex with
 |normal=>
  obtain⟨ex',s2,h3,h4⟩:=h2
  exact⟨ex',s2,by simp [Ck,h1,h3],h4⟩
 |exit id=>exact⟨_,s1,by simp [Ck,h1],h2⟩
 |ret=>exact⟨_,s1,by simp [Ck,h1],h2⟩
theorem fK{id:Nat}{c:SC}(h:Cu E c (inBlock id Q) s):Cu E (.block id c) Q s:=by
 obtain⟨ex,s1,h1,h2⟩:=h
 cases ex with
 |normal=>exact⟨_,s1,by simp [Ck,h1],h2⟩
 |exit j=>
  simp only [inBlock]at h2
  by_cases hj:j=id
  ·subst hj;rw [if_pos rfl]at h2;exact⟨.normal,s1,by simp [Ck,h1],h2⟩
  ·rw [if_neg hj]at h2;exact⟨_,s1,by simp [Ck,h1,hj],h2⟩
 |ret=>exact⟨_,s1,by simp [Ck,h1],h2⟩
theorem C8{c:SC}{Q':Ex→St→Prop}(h:Cu E c Q s)(hq: ∀ex s,Q ex s→Q' ex s):Cu E c Q' s:=by
 obtain⟨ex,s1,h1,h2⟩:=h;exact⟨ex,s1,h1,hq _ _ h2⟩
def YX(I:St→Prop)(Q:Ex→St→Prop):Ex→St→Prop
 | .normal,s=>I s
 |ex,s=>Q ex s
end
def HZ(T:Tys)(n:Nat)(rs:List ResultVar)(r:D×List D):Ex→St→Prop
 | .normal,s=>SA T n rs s=some r
 | .ret,s=>SA T n rs s=some r
 | .exit _,_=>False
theorem Sys.call_wp{Y:Sys}{f:FuncId}{fn:Func}{c:Code}{k:SC}{a l:List D}{r:D×List D}(hb:Y.base f a l=none)(hf:Y.P.funcs[f]? =some fn)(hok:DR fn a.length=true)
  (hbody:fn.body=some c)(hk:CY Y.lends c=k)(h:Cu Y.env k (HZ Y.T l.length fn.results.toList r) (entry a l)):Y.call f a l=some r:=by
 refine Sys.call_run hb hf hok ?_
 obtain⟨ex,s1,h1,h2⟩:=h
 unfold Vj
 rw [←hk]at h1
 have h3:Ck Y.env (CY Y.env.lends c)=Cj Y.env c:=fJ Y.env c
 have h4:Cj Y.env c (entry a l)=some (ex,s1):=by rw [←h3];exact h1
 rw [hbody]
 simp only [h4]
 cases ex with
 |normal=>exact h2
 |ret=>exact h2
 |exit id=>exact h2.elim
section
variable (E:Env) (pm:Pm) (s:St) (dst:Option Tmp) (ty:TypeId)
theorem YY(op:Op):Mj E pm s ⟨dst,op,ty,none⟩=IK E pm s dst op ty:=nr rfl
def grd(E:Env)(pm:Pm)(s:St)(dst:Option Tmp)(op:Op)(ty:TypeId)(b:Bool)(d:D):Option St:=
 match d with
 | .bool b'=>if b'==b then IK E pm s dst op ty else some (s.putO dst (.konst undef))
 | .konst (.tuple _)=>some (s.putO dst (.konst undef))
 |_=>none
theorem Wi(op:Op)(t:Tmp)(b:Bool):Mj E pm s ⟨dst,op,ty,some (some t,b)⟩=grd E pm s dst op ty b (s.v t):=nr rfl
theorem A6W(op:Op)(b':Bool):grd E pm s dst op ty true (.bool b')=if b'=true then IK E pm s dst op ty else some (s.putO dst (.konst undef)):=by cases b'<;>rfl
theorem A6X(op:Op)(b':Bool):grd E pm s dst op ty false (.bool b')=if b'=true then some (s.putO dst (.konst undef))else IK E pm s dst op ty:=by cases b'<;>rfl
theorem A6Y(op:Op)(b:Bool):grd E pm s dst op ty b (.konst undef)=some (s.putO dst (.konst undef)):=nr rfl
def pk(s:St)(dst:Option Tmp)(c a b:Option D):Option St:=
 match c,a,b with
 |some (.bool t),some x,some y=>if(if t then x else y).hasObj then none else some (s.putO dst (if t then x else y))
 |_,_,_=>none
theorem fM(c a b:Operand):IK E pm s dst (.pick c a b) ty=pk s dst (ev E.T s ty c) (ev E.T s ty a) (ev E.T s ty b):=nr rfl
theorem pkT(x y:D)(h:x.hasObj=false):pk s dst (some (.bool true)) (some x) (some y)=some (s.putO dst x):=by simp [pk,h]
theorem pkF(x y:D)(h:y.hasObj=false):pk s dst (some (.bool false)) (some x) (some y)=some (s.putO dst y):=by simp [pk,h]
theorem pkB(t p q:Bool):pk s dst (some (.bool t)) (some (.bool p)) (some (.bool q))=some (s.putO dst (.bool (if t then p else q))):=by cases t<;>rfl
theorem hoB(b:Bool):(D.bool b).hasObj=false:=by simp [D.hasObj]
theorem hoI(k:IntKind)(n:Int):(D.int k n).hasObj=false:=by simp [D.hasObj]
theorem hoS(b:ByteArray):(D.str b).hasObj=false:=by simp [D.hasObj]
theorem bK(t:TypeId):IK E pm s dst (.alloc t) ty=if E.T.known t then some (s.putO dst (.box (E.T.zeros t)))else none:=nr rfl
theorem kH(t:TypeId)(x:Operand):IK E pm s dst (.box t x) ty=if ty=900003 then(LG E.T pm s dst t x).bind fun s1=>Du pm s1 dst else LG E.T pm s dst t x:=nr rfl
theorem fO(t:TypeId)(x:Operand):LG E.T pm s dst t x=match Mf (ev E.T s t x)with
  |some ds=>if E.T.isStruct t then some (s.putO dst (.box ds))else none
  |none=>
   match take E.T pm s t x with
   |some (d,s1)=>if E.T.isStruct t==d.isAgg then some (s1.putO dst (.box d.asCells))else none
   |none=>none:=nr rfl
theorem bL(t:TypeId)(parts:Array (Nat×Operand)):IK E pm s dst (.build t parts) ty=if ty=900015 then(Fq E.T pm s t parts.toList).map fun r=>s.putO dst r else match E.T.nest t with
  |some fl=>if E.T.isStruct t&&E.T.known t then(Gz E.T pm fl s (E.T.zeros t) parts.toList).map fun r=>r.2.putO dst (.agg r.1)else none
  |none=>match E.T.ty t with
   | .struct fs=>if E.T.known t then(Eg E.T pm (fun i=>fs.getD i 0) 1 s (E.T.zeros t) parts.toList).map fun r=>r.2.putO dst (.agg r.1)else none
   |_=>none:=nr rfl
theorem Qx(t:TypeId)(len:Nat)(parts:Array (Nat×Operand)):IK E pm s dst (.buildSlice t len parts) ty=if ty=900004 then(Q8 E.T pm s dst t len parts).bind fun s1=>KA pm s1 dst else Q8 E.T pm s dst t len parts:=nr rfl
def stF(pm:Pm)(a:Operand):Option St→Option St
 |some s1=>Du pm s1 (OJ a)
 |none=>none
theorem fP(a:Operand)(o:Option St):stF pm a o=o.bind fun s1=>Du pm s1 (OJ a):=by cases o<;>rfl
theorem bM(t:TypeId)(a x:Operand):IK E pm s none (.store t a x) ty=if ty=900007 then EN E.T pm t a (Ih E.T pm s t x)else if ty=900010 then P7 E.T pm s t a x else if ty=900011 then stF pm a (He E.T pm s t a x)else if ty=900016 then Hf E.T pm s t a x else He E.T pm s t a x:=by
 rw [fP];rfl
def FN(s:St)(dst:Option Tmp):Option D→Option St
 |some r=>some (s.putO dst r)
 |none=>none
theorem xn(r:D):FN s dst (some r)=some (s.putO dst r):=nr rfl
def Qy(dst:Option Tmp):Option (D×St)→Option St
 |some r=>some (r.2.putO dst r.1)
 |none=>none
theorem xq(r:D)(s:St):Qy dst (some (r,s))=some (s.putO dst r):=nr rfl
def Np(T:Tys)(s:St)(dst:Option Tmp)(op:BinOp)(t:TypeId):Option D→Option D→Option St
 |some a,some b=>if Ju T t a then FN s dst (Ch op a b)else none
 |_,_=>none
theorem xu(T:Tys)(op:BinOp)(t:TypeId)(a b:D):Np T s dst op t (some a) (some b)=if Ju T t a then FN s dst (Ch op a b)else none:=nr rfl
def qZ(pm:Pm)(dst:Option Tmp)(u:Tmp):Option St→Option St
 |some s1=>Vf pm s1 dst u
 |none=>none
def fbC(pm:Pm)(s1:St)(u:Tmp):D→Option St
 | .bool b=>if b then some s1 else Du pm s1 (some u)
 |_=>none
theorem A6a(s1:St)(t u:Tmp)(h:pm.rd t=true):qZ pm (some t) u (some s1)=fbC pm s1 u (s1.v t):=by
 show(if pm.rd t then _ else none)=_
 rw [if_pos h]
 cases s1.v t<;>rfl
theorem YZ(op:BinOp)(t:TypeId)(x y:Operand)(t':TypeId):IK E pm s dst (.binOp op t x y t') ty=if ty<2000000 then FB E.T pm s dst op t x y else qZ pm dst (ty-2000000) (FB E.T pm s dst op t x y):=by
 show(if ty<2000000 then FB E.T pm s dst op t x y else(FB E.T pm s dst op t x y).bind fun s1=>Vf pm s1 dst (ty-2000000))=_
 cases FB E.T pm s dst op t x y<;>rfl
theorem MH(op:BinOp)(t:TypeId)(x y:Operand)(hq:U2 E.T op t y=none)(he:aB E.T op t y=none:=by rfl):FB E.T pm s dst op t x y=Np E.T s dst op t (ev E.T s t x) (ev E.T s t y):=by
 unfold FB
 rw [hq,he]
 simp only
 cases ev E.T s t x<;>cases ev E.T s t y<;>simp only [Np]
 rename_i a b
 cases Ch op a b<;>rfl
theorem A6b(op:BinOp)(t:TypeId)(x:Operand)(u:Tmp)(t':TypeId):IK E pm s dst (.binOp op t x (.tmp u) t') ty=if ty<2000000 then Np E.T s dst op t (ev E.T s t x) (some (s.v u))else qZ pm dst (ty-2000000) (Np E.T s dst op t (ev E.T s t x) (some (s.v u))):=by
 rw [YZ,MH E pm s dst op t x (.tmp u) rfl];rfl
theorem A6c(op:BinOp)(t:TypeId)(x:Operand)(k:IntKind)(n:Int)(t':TypeId):IK E pm s dst (.binOp op t x (.const (.int k n)) t') ty=if ty<2000000 then Np E.T s dst op t (ev E.T s t x) (some (.int k n))else qZ pm dst (ty-2000000) (Np E.T s dst op t (ev E.T s t x) (some (.int k n))):=by
 rw [YZ,MH E pm s dst op t x _ rfl];rfl
theorem xw(op:BinOp)(t:TypeId)(x:Operand)(b:Bool)(t':TypeId):IK E pm s dst (.binOp op t x (.const (.bool b)) t') ty=if ty<2000000 then Np E.T s dst op t (ev E.T s t x) (some (.bool b))else qZ pm dst (ty-2000000) (Np E.T s dst op t (ev E.T s t x) (some (.bool b))):=by
 rw [YZ,MH E pm s dst op t x _ rfl];rfl
theorem xy(op:BinOp)(t:TypeId)(x:Operand)(b:ByteArray)(t':TypeId):IK E pm s dst (.binOp op t x (.const (.string b)) t') ty=if ty<2000000 then Np E.T s dst op t (ev E.T s t x) (some (.str b))else qZ pm dst (ty-2000000) (Np E.T s dst op t (ev E.T s t x) (some (.str b))):=by
 rw [YZ,MH E pm s dst op t x _ rfl];rfl
def SN(s:St)(dst:Option Tmp)(q:Bool):Option Bool→Option St
 |some b=>some (s.putO dst (.bool (b==q)))
 |none=>none
theorem xz(b:Bool):SN s dst true (some b)=some (s.putO dst (.bool b)):=by cases b<;>rfl
theorem y5(b:Bool):SN s dst false (some b)=some (s.putO dst (.bool (!b))):=by cases b<;>rfl
def mV(op:BinOp)(s:St)(dst:Option Tmp)(r:Option Bool)(o:Option St):Ty→Option St
 | .slice _=>match op with| .eql=>SN s dst true r| .neq=>SN s dst false r|_=>o
 |_=>o
theorem A6d(r:Option Bool)(o:Option St)(e:TypeId):mV .eql s dst r o (.slice e)=SN s dst true r:=nr rfl
theorem A6e(r:Option Bool)(o:Option St)(e:TypeId):mV .neq s dst r o (.slice e)=SN s dst false r:=nr rfl
theorem kI(op:BinOp)(t:TypeId)(u:Tmp):FB E.T pm s dst op t (.tmp u) (.const (.slice none 0 0))=mV op s dst (Mo pm s (s.v u)) (Np E.T s dst op t (some (s.v u)) (ev E.T s t (.const (.slice none 0 0)))) (E.T.ty t):=by
 have key: ∀q,U2 E.T op t (.const (.slice none 0 0))=some q→FB E.T pm s dst op t (.tmp u) (.const (.slice none 0 0))=SN s dst q (Mo pm s (s.v u)):=by
  intro q hq
  unfold FB
  rw [hq]
  simp only [ev,Option.bind_some]
  cases Mo pm s (s.v u)<;>rfl
 cases ht:E.T.ty t with
 |slice e=>
  cases op<;>first
   |(simp only [mV];exact key true (by simp [U2,ht]))
   |(simp only [mV];exact key false (by simp [U2,ht]))
   |(simp only [mV];exact MH E pm s dst _ t _ _ (by simp [U2,ht]))
 |_=>exact MH E pm s dst _ t _ _ (by simp [U2,ht])
theorem qa(op:BinOp)(t:TypeId)(u:Tmp)(t':TypeId):IK E pm s dst (.binOp op t (.tmp u) (.const (.slice none 0 0)) t') ty=if ty<2000000 then mV op s dst (Mo pm s (s.v u)) (Np E.T s dst op t (some (s.v u)) (ev E.T s t (.const (.slice none 0 0)))) (E.T.ty t)
  else qZ pm dst (ty-2000000) (mV op s dst (Mo pm s (s.v u)) (Np E.T s dst op t (some (s.v u)) (ev E.T s t (.const (.slice none 0 0)))) (E.T.ty t)):=by
 rw [YZ,kI]
theorem Zh(op:BinOp)(t:TypeId)(u:Tmp)(q:Bool)(hq:aB E.T op t (.const .nilIface)=some q):FB E.T pm s dst op t (.tmp u) (.const .nilIface)=SN s dst q (Vb (s.v u)):=by
 unfold FB
 have h0:U2 E.T op t (.const .nilIface)=none:=nr rfl
 rw [h0,hq]
 simp only [ev,Option.bind_some]
 cases Vb (s.v u)<;>rfl
theorem qb(t:TypeId)(u:Tmp)(t':TypeId)(h:ty<2000000)(ht:E.T.ty t= .iface):IK E pm s dst (.binOp .neq t (.tmp u) (.const .nilIface) t') ty=SN s dst false (Vb (s.v u)):=by
 rw [YZ,if_pos h,Zh E pm s dst .neq t u false (by simp [aB,ht])]
theorem qc(t:TypeId)(u:Tmp)(t':TypeId)(h:ty<2000000)(ht:E.T.ty t= .iface):IK E pm s dst (.binOp .eql t (.tmp u) (.const .nilIface) t') ty=SN s dst true (Vb (s.v u)):=by
 rw [YZ,if_pos h,Zh E pm s dst .eql t u true (by simp [aB,ht])]
theorem erE:Vb .err=some false:=nr rfl
theorem erK:Vb (.konst .nilIface)=some true:=nr rfl
theorem A6f(e:TypeId)(x:D)(xs:List D):Mo pm s (.sl e (x::xs))=some false:=nr rfl
theorem y7(e:TypeId)(x:D)(xs:List D):Mo pm s (.own e (x::xs))=some false:=nr rfl
theorem ndK(A:Option Addr)(n c:Nat):Mo pm s (.konst (.slice A n c))=some A.isNone:=nr rfl
theorem bN(t:TypeId)(x i:Operand):IK E pm s dst (.index t x i) ty=match E.T.ty t,ev E.T s t x,ev E.T s 0 i with
  | .string,some (.str b),some (.int _ n)=>(ZW n b).map fun r=>s.putO dst r
  |_,_,_=>none:=nr rfl
theorem Ue(f:FuncId)(first captured:Array Operand):IK E pm s dst (.makeFunc (.func f) first captured) ty=if ty<3000000 then(if first.isEmpty then(JA pm s captured.toList).map fun r=>r.2.putO dst (.clo f r.1)else none)
  else(if first.isEmpty then(Q7 pm s (ty-3000000) captured.toList).map fun r=>r.2.putO dst (.ocl false f r.1)else none):=nr rfl
theorem SQ(t:TypeId)(l c:Operand):IK E pm s dst (.makeSlice t l c) ty=if ty=900012 then(S9 E.T s dst t l c).bind fun s1=>KA pm s1 dst else S9 E.T s dst t l c:=nr rfl
theorem Uf(x:Operand):IK E pm s dst (.nilCheck x) ty=(ev E.T s ty x).bind fun d=>
   match d with
   | .box _=>some (Bg s dst x d)
   | .vw L n m=>match s.look pm L n m with|some (.box _)=>some (Bg s dst x d)|_=>none
   | .pe L _ n m=>match s.look pm L n m with|some _=>some (Bg s dst x d)|none=>none
   | .cptr _=>some (Bg s dst x d)
   | .clo _ _=>some (Bg s dst x d)
   | .ocl false _ _=>some (Bg s dst x d)
   |_=>none:=nr rfl
theorem Ya(x y:Operand)(t t':TypeId):IK E pm s dst (.call ⟨.builtin .append, #[x,y], #[t,t']⟩) ty=if t=t' then(if qG (ev E.T s t y)then JP E.T pm s t x else Ef E.T pm s t x y).map fun r=>r.2.putO dst r.1 else none:=nr rfl
theorem fQ(f:FuncId)(args:Array Operand)(ts:Array TypeId):IK E pm s dst (.call ⟨.value (.func f),args,ts⟩) ty=if args.size=ts.size then(if ty=900014 then(F8 E pm s dst f (args.toList.zip (LH ty ts.toList)) []).bind fun s1=>Du pm s1 dst else F8 E pm s dst f (args.toList.zip (LH ty ts.toList)) [])else none:=nr rfl
theorem bO(u:Tmp)(args:Array Operand)(ts:Array TypeId):IK E pm s dst (.call ⟨.value (.tmp u),args,ts⟩) ty=match s.v u with
   | .clo f caps=>if args.size=ts.size then F8 E pm s dst f (args.toList.zip ts.toList) caps else none
   | .ocl false f caps=>if args.size=ts.size then JR E pm s dst f (args.toList.zip ts.toList) caps else none
   |_=>none:=nr rfl
end
theorem qd(T:Tys)(s:St)(t:TypeId)(u:Tmp):ev T s t (.tmp u)=some (s.v u):=nr rfl
theorem qf(T:Tys)(s:St)(t:TypeId)(k:IntKind)(n:Int):ev T s t (.const (.int k n))=some (.int k n):=nr rfl
theorem kJ(T:Tys)(s:St)(t:TypeId)(b:Bool):ev T s t (.const (.bool b))=some (.bool b):=nr rfl
theorem qg(T:Tys)(s:St)(t:TypeId)(b:ByteArray):ev T s t (.const (.string b))=some (.str b):=nr rfl
theorem qh(T:Tys)(s:St)(t:TypeId):ev T s t (.const (.slice none 0 0))=match T.ty t with| .slice e=>some (.own e [])| .other=>some (.konst (.slice none 0 0))|_=>none:=nr rfl
theorem kK(T:Tys)(s:St)(t:TypeId)(f:FuncId):ev T s t (.func f)=some (.clo f []):=nr rfl
theorem y8(s:St)(t u:Nat)(d:D):(s.put t d).v u=if u=t then d else s.v u:=by rw [mU];rfl
theorem y9(s:St)(t u:Nat)(d:D):(s.put t d).k u=if u=t then(if d.hasObj then s.k t+1 else s.k t)else s.k u:=by
 unfold St.put
 by_cases h:u=t
 ·subst h;cases hd:d.hasObj<;>simp [JN]
 ·cases hd:d.hasObj<;>simp [JN,h]
theorem yA(s:St)(t u:Nat)(d:D):(s.put t d).m u=s.m u:=by unfold St.put;split<;>rfl
theorem yB(s:St)(t u:Nat):(s.clr t).v u=if u=t then .undef else s.v u:=nr rfl
theorem yC(s:St)(t u:Nat):(s.clr t).k u=s.k u:=nr rfl
theorem yD(s:St)(t u:Nat):(s.clr t).m u=s.m u:=nr rfl
theorem qi(s:St)(t u:Nat):(s.bump t).v u=s.v u:=nr rfl
theorem qj(s:St)(t u:Nat):(s.bump t).k u=s.k u:=nr rfl
theorem ql(s:St)(t u:Nat):(s.bump t).m u=if u=t then s.m t+1 else s.m u:=nr rfl
theorem yE(s:St)(t u:Nat)(p:AA)(d:D):(s.set (t::p) d).v u=if u=t then Ed (s.v t) p d else s.v u:=nr rfl
theorem yF(s:St)(t u:Nat)(p:AA)(d:D):(s.set (t::p) d).k u=s.k u:=nr rfl
theorem yG(s:St)(t u:Nat)(p:AA)(d:D):(s.set (t::p) d).m u=s.m u:=nr rfl
theorem bP(s:St)(t:Tmp)(d:D):s.putO (some t) d=s.put t d:=nr rfl
theorem bQ(s:St)(d:D):s.putO none d=s:=nr rfl
theorem yH(Y:Sys):Y.env.T=Y.T:=nr rfl
theorem bR(Y:Sys):Y.env.lends=Y.lends:=nr rfl
theorem fT(Y:Sys):Y.env.call=Y.call:=nr rfl
theorem kL(a l:List D)(t:Nat):(entry a l).v t=if t<G then a.getD t .undef else l.getD (t-G) .undef:=nr rfl
theorem kM(a l:List D)(t:Nat):(entry a l).k t=0:=nr rfl
theorem kN(a l:List D)(t:Nat):(entry a l).m t=0:=nr rfl
theorem KP{r:Ex×St}{Q:Ex→St→Prop}:(∃ex s',some r=some (ex,s')∧Q ex s')=Q r.1 r.2:=
 propext ⟨fun⟨ex,s',h,hq⟩=>by injection h with h;subst h;exact hq,fun h=>⟨r.1,r.2,rfl,h⟩⟩
section
variable (E:Env) (Q:Ex→St→Prop) (s:St)
theorem yI:Cu E .skip Q s=Q .normal s:=KP
theorem yJ(id:Nat):Cu E (.exit id) Q s=Q (.exit id) s:=KP
theorem A6g:Cu E .ret Q s=Q .ret s:=KP
def qm(Q:Ex→St→Prop):Option (Ex×St)→Prop
 |some r=>Q r.1 r.2
 |none=>False
theorem yK(ex:Ex)(s':St):qm Q (some (ex,s'))=Q ex s':=nr rfl
def kP(s:St)(ds:List Tmp)(r:Tmp)(bb:Bool):Bool→Option (Ex×St)
 |true=>some (.ret,(Gv s ds).put r (.bool bb))
 |false=>some (.normal,Gv s ds)
theorem yM(ds:List Tmp)(r:Tmp)(bb:Bool):kP s ds r bb true=some (.ret,(Gv s ds).put r (.bool bb)):=nr rfl
theorem yN(ds:List Tmp)(r:Tmp)(bb:Bool):kP s ds r bb false=some (.normal,Gv s ds):=nr rfl
def bS(T:Tys)(s:St)(ds:List Tmp)(r:Tmp)(cst:Int)(bb:Bool):Ty→D→Ty→Option (Ex×St)
 | .map _ _, .mp _ e es, .int .i64=>if T.nums e=some (false,1)then kP s ds r bb (es.any fun p=>p.2==[cst])else none
 |_,_,_=>none
theorem yO(T:Tys)(ds:List Tmp)(r:Tmp)(cst:Int)(bb:Bool)(a b k e:TypeId)(es:List (List Int×List Int))(h:T.nums e=some (false,1)):bS T s ds r cst bb (.map a b) (.mp k e es) (.int .i64)=kP s ds r bb (es.any fun p=>p.2==[cst]):=by
 unfold bS
 simp only [h,if_true]
def TU(s:St)(g:Tmp)(Q:Ex→St→Prop):D→Prop
 | .bool t=>Q .normal (s.put g (.bool t))
 |_=>False
theorem qo(s:St)(g:Tmp)(t:Bool):TU s g Q (.bool t)=Q .normal (s.put g (.bool t)):=nr rfl
def TV(s:St)(ds:List Tmp)(g:Tmp)(Q:Ex→St→Prop):Ex→St→Prop
 | .normal,s2=>TU (Gv s ds) g Q (s2.v g)
 |_,_=>False
theorem qp(ds:List Tmp)(g:Tmp)(s2:St):TV s ds g Q .normal s2=TU (Gv s ds) g Q (s2.v g):=nr rfl
theorem yP(ds:List Tmp)(g:Tmp)(a b:SC)(h:ds.contains g=true):Cu E (.loan ds g a b) Q s=Cu E a (TT E b (TV s ds g Q)) (IU s):=by
 have key: ∀(r:Option (Ex×St)),(∃ex s',J7 s ds g r=some (ex,s')∧Q ex s')↔ ∃ex s2,r=some (ex,s2)∧TV s ds g Q ex s2:=fun r=>by
  cases r with
  |none=>simp [J7]
  |some p=>
   obtain⟨ex,s2⟩:=p
   cases ex with
   |normal=>
    simp only [J7,h,if_true]
    cases hv:s2.v g with
    |bool t=>
     refine⟨fun⟨ex,s',h1,h2⟩=> ?_,fun⟨ex,s3,h1,h2⟩=> ?_⟩
     ·simp only [Option.some.injEq,Prod.mk.injEq]at h1
      obtain⟨rfl,rfl⟩:=h1
      exact⟨_,_,rfl,by simp only [TV,hv,TU];exact h2⟩
     ·simp only [Option.some.injEq,Prod.mk.injEq]at h1
      obtain⟨rfl,rfl⟩:=h1
      simp only [TV,hv,TU]at h2
      exact⟨_,_,rfl,h2⟩
    |_=>
     refine⟨fun⟨ex,s',h1,h2⟩=>(by cases h1),fun⟨ex,s3,h1,h2⟩=> ?_⟩
     simp only [Option.some.injEq,Prod.mk.injEq]at h1
     obtain⟨rfl,rfl⟩:=h1
     simp only [TV,hv,TU]at h2
   |exit id=>simp only [J7];exact⟨fun⟨_,_,h1,_⟩=>(by cases h1),fun⟨ex,s3,h1,h2⟩=>by simp only [Option.some.injEq,Prod.mk.injEq]at h1;obtain⟨rfl,rfl⟩:=h1;exact h2.elim⟩
   |ret=>simp only [J7];exact⟨fun⟨_,_,h1,_⟩=>(by cases h1),fun⟨ex,s3,h1,h2⟩=>by simp only [Option.some.injEq,Prod.mk.injEq]at h1;obtain⟨rfl,rfl⟩:=h1;exact h2.elim⟩
 refine propext ((key _).trans ⟨fun⟨ex,s2,h1,h2⟩=> ?_,fun⟨ex,s1,h1,h2⟩=> ?_⟩)
 ·cases ha:Ck E a (IU s)with
  |none=>simp [ha]at h1
  |some p=>
   obtain⟨e1,s1⟩:=p
   cases e1 with
   |normal=>simp only [ha]at h1;exact⟨.normal,s1,ha,ex,s2,h1,h2⟩
   |exit id=>simp [ha]at h1
   |ret=>simp [ha]at h1
 ·cases ex with
  |normal=>
   obtain⟨e2,s2,h3,h4⟩:=h2
   exact⟨e2,s2,by simp only [h1];exact h3,h4⟩
  |exit id=>exact h2.elim
  |ret=>exact h2.elim
def loO:Option D→D
 |some d=>d
 |none=> .undef
theorem loS(d:D):loO (some d)=d:=nr rfl
theorem yQ(u:Nat):(IU s).v u=loO (CZ (s.v u)):=by
 show(CZ (s.v u)).getD .undef=_
 cases CZ (s.v u)<;>rfl
theorem yR(u:Nat):(IU s).k u=s.k u:=nr rfl
theorem yS(u:Nat):(IU s).m u=s.m u:=nr rfl
theorem A6h:Gv s []=s:=nr rfl
theorem A6i(t:Tmp)(ds:List Tmp):Gv s (t::ds)=Gv (s.put t .undef) ds:=nr rfl
theorem A6j(m d0 d1 n0 n1 e0 e1 v x c r tm t3:Nat)(cst:Int)(bb:Bool):Cu E (.any ⟨m,d0,d1,n0,n1,e0,e1,v,x,c,r,tm,t3,cst,bb⟩) Q s=qm Q (bS E.T s [d0,d1,n0,n1,e0,e1,v,x,c] r cst bb (E.T.ty tm) (s.v m) (E.T.ty t3)):=by
 have e:M9 E.T s ⟨m,d0,d1,n0,n1,e0,e1,v,x,c,r,tm,t3,cst,bb⟩=bS E.T s [d0,d1,n0,n1,e0,e1,v,x,c] r cst bb (E.T.ty tm) (s.v m) (E.T.ty t3):=by
  unfold M9 bS
  cases E.T.ty tm<;>try rfl
  cases s.v m<;>try rfl
  cases E.T.ty t3<;>try rfl
  rename_i kk
  cases kk<;>try rfl
  simp only
  split
  ·rename_i es _
   cases (es.any fun p=>p.2==[cst])<;>rfl
  ·rfl
 unfold Cu
 simp only [Ck,e]
 cases bS E.T s [d0,d1,n0,n1,e0,e1,v,x,c] r cst bb (E.T.ty tm) (s.v m) (E.T.ty t3)with
 |none=>simp [qm]
 |some q=>
  obtain⟨ex,s'⟩:=q
  exact propext ⟨fun⟨e1,s1,h1,h2⟩=>by injection h1 with h1;injection h1 with h1 h3;subst h1 h3;exact h2,fun h=>⟨ex,s',rfl,h⟩⟩
theorem A6k:Cu E (.ops []) Q s=Q .normal s:=KP
def nxt(E:Env)(l:List SOp)(Q:Ex→St→Prop):Option St→Prop
 |some s=>Cu E (.ops l) Q s
 |none=>False
theorem A6l(l:List SOp):nxt E l Q (some s)=Cu E (.ops l) Q s:=nr rfl
theorem yU(o:SOp)(l:List SOp):Cu E (.ops (o::l)) Q s=nxt E l Q (Mj E Pm.all s o):=by
 unfold Cu
 simp only [Ck,fH]
 cases Mj E Pm.all s o with
 |none=>simp [nxt]
 |some s'=>simp [nxt,Cu,Ck]
theorem yV:Cu E (.draws []) Q s=Q .normal s:=KP
def fU(E:Env)(l:List (PmL×SOp))(Q:Ex→St→Prop):Bool→Option St→Prop
 |true,some s=>Cu E (.draws l) Q s
 |_,_=>False
theorem yX(l:List (PmL×SOp)):fU E l Q true (some s)=Cu E (.draws l) Q s:=nr rfl
theorem qw(p:PmL)(o:SOp)(l:List (PmL×SOp)):Cu E (.draws ((p,o)::l)) Q s=fU E l Q (EH p.pm s o.op) (Mj E p.pm s o):=by
 unfold Cu
 simp only [Ck,We]
 cases EH p.pm s o.op with
 |true=>
  cases Mj E p.pm s o with
  |none=>simp [fU]
  |some s'=>simp [fU,Cu,Ck]
 |false=>simp [fU]
theorem A6m(a b:SC):Cu E (.seq a b) Q s=Cu E a (TT E b Q) s:=by
 refine propext ⟨fun⟨ex,s1,h1,h2⟩=> ?_,qY⟩
 simp only [Ck]at h1
 cases ha:Ck E a s with
 |none=>simp [ha]at h1
 |some q=>
  obtain⟨ex',s2⟩:=q
  cases ex' with
  |normal=>simp only [ha]at h1;exact⟨_,s2,ha,ex,s1,h1,h2⟩
  |exit id=>simp only [ha,Option.some.injEq,Prod.mk.injEq]at h1;obtain⟨rfl,rfl⟩:=h1;exact⟨_,s2,ha,h2⟩
  |ret=>simp only [ha,Option.some.injEq,Prod.mk.injEq]at h1;obtain⟨rfl,rfl⟩:=h1;exact⟨_,s2,ha,h2⟩
def yY(E:Env)(a b:SC)(Q:Ex→St→Prop)(s:St):Option D→Prop
 |some (.bool t)=>if t=true then Cu E a Q s else Cu E b Q s
 |_=>False
theorem A6n(a b:SC)(t:Bool):yY E a b Q s (some (.bool t))=if t=true then Cu E a Q s else Cu E b Q s:=nr rfl
theorem yZ(c:Operand)(a b:SC):Cu E (.cond c a b) Q s=yY E a b Q s (ev E.T s 0 c):=by
 unfold Cu
 simp only [Ck]
 cases ev E.T s 0 c with
 |none=>simp [yY]
 |some d=>cases d with
  |bool t=>cases t<;>simp [yY,Cu]
  |_=>simp [yY]
theorem qx(id:Nat)(c:SC):Cu E (.block id c) Q s=Cu E c (inBlock id Q) s:=by
 refine propext ⟨fun⟨ex,s1,h1,h2⟩=> ?_,fK⟩
 simp only [Ck]at h1
 cases ha:Ck E c s with
 |none=>simp [ha]at h1
 |some q=>
  obtain⟨ex',s2⟩:=q
  cases ex' with
  |normal=>simp only [ha,Option.some.injEq,Prod.mk.injEq]at h1;obtain⟨rfl,rfl⟩:=h1;exact⟨_,s2,ha,h2⟩
  |exit j=>
   simp only [ha]at h1
   by_cases hj:j=id
   ·simp only [hj,if_true,Option.some.injEq,Prod.mk.injEq]at h1;obtain⟨rfl,rfl⟩:=h1;exact⟨_,s2,ha,by simpa [inBlock,hj] using h2⟩
   ·simp only [hj,if_false,Option.some.injEq,Prod.mk.injEq]at h1;obtain⟨rfl,rfl⟩:=h1;exact⟨_,s2,ha,by simpa [inBlock,hj] using h2⟩
  |ret=>simp only [ha,Option.some.injEq,Prod.mk.injEq]at h1;obtain⟨rfl,rfl⟩:=h1;exact⟨_,s2,ha,h2⟩
theorem qy(b:SC):TT E b Q .normal s=Cu E b Q s:=nr rfl
theorem qz(b:SC)(id:Nat):TT E b Q (.exit id) s=Q (.exit id) s:=nr rfl
theorem rA(b:SC):TT E b Q .ret s=Q .ret s:=nr rfl
theorem A6o(id:Nat):inBlock id Q .normal s=Q .normal s:=nr rfl
theorem A6p(id j:Nat):inBlock id Q (.exit j) s=if j=id then Q .normal s else Q (.exit j) s:=nr rfl
theorem A6q(id:Nat):inBlock id Q .ret s=Q .ret s:=nr rfl
theorem A6r(I:St→Prop):YX I Q .normal s=I s:=nr rfl
theorem A6s(I:St→Prop)(id:Nat):YX I Q (.exit id) s=Q (.exit id) s:=nr rfl
theorem A6t(I:St→Prop):YX I Q .ret s=Q .ret s:=nr rfl
theorem yc(T:Tys)(n:Nat)(rs:List ResultVar)(r:D×List D):HZ T n rs r .normal s=(SA T n rs s=some r):=nr rfl
theorem yf(T:Tys)(n:Nat)(rs:List ResultVar)(r:D×List D):HZ T n rs r .ret s=(SA T n rs s=some r):=nr rfl
end
section
variable (s:St) (dst:Option Tmp) (u:Tmp) (k:IntKind) (n:Int) (b:Bool) (x:ByteArray) (e:TypeId) (xs:List D) (L:AA) (i j c:Nat) (v:Value) (f:FuncId)
theorem yg:Bg s dst (.tmp u) (.int k n)=s.putO dst (.int k n):=nr rfl
theorem rC:Bg s dst (.tmp u) (.bool b)=s.putO dst (.bool b):=nr rfl
theorem yh:Bg s dst (.tmp u) (.str x)=s.putO dst (.str x):=nr rfl
theorem A6u:Bg s dst (.tmp u) (.sl e xs)=s.putO dst (.sl e xs):=nr rfl
theorem kQ:Bg s dst (.tmp u) (.konst v)=s.putO dst (.konst v):=nr rfl
theorem yj:Bg s dst (.tmp u) (.own e xs)=s.putO dst (.vw [u] (s.k u) (s.m u)):=nr rfl
theorem A6v(k:TypeId)(es:List (List Int×List Int)):Bg s dst (.tmp u) (.mp k e es)=s.putO dst (.vw [u] (s.k u) (s.m u)):=nr rfl
theorem yl:Bg s dst (.tmp u) (.box xs)=s.putO dst (.vw [u] (s.k u) (s.m u)):=nr rfl
theorem A6w:Bg s dst (.tmp u) (.vw L i j)=s.putO dst (.vw L i j):=nr rfl
theorem A6x:Bg s dst (.tmp u) (.pe L c i j)=s.putO dst (.pe L c i j):=nr rfl
theorem rD:Bg s dst (.tmp u) (.cptr xs)=s.putO dst (.cptr xs):=nr rfl
theorem ym:Bg s dst (.tmp u) (.ocl b f xs)=s.putO dst (.ocl b f xs):=nr rfl
theorem yn:Bg s dst (.tmp u) (.clo f xs)=s.putO dst (.clo f xs):=nr rfl
theorem yo:Bg s dst (.tmp u) .err=s.putO dst .err:=nr rfl
theorem yt:Bg s dst (.tmp u) (.tup xs)=if AU xs then(if AU (IJ s u 0 xs)then(s.clr u).putO dst (.tup xs)else s.putO dst (.tup (IJ s u 0 xs)))else s.putO dst (.tup xs):=nr rfl
theorem yu(i:Nat):IJ s u i []=[]:=nr rfl
theorem rE(i:Nat)(x:D):IJ s u i (x::xs)=Hg s u i x::IJ s u (i+1) xs:=nr rfl
theorem yw(i:Nat):Hg s u i (.agg xs)= .agg (Dl s [u,i] 0 xs):=nr rfl
theorem yx(i:Nat):Hg s u i (.int k n)= .int k n:=nr rfl
theorem rF(i:Nat):Hg s u i (.bool b)= .bool b:=nr rfl
theorem yz(i:Nat):Hg s u i (.str x)= .str x:=nr rfl
theorem A6y(i:Nat):Hg s u i (.sl e xs)= .sl e xs:=nr rfl
theorem kR(i:Nat):Hg s u i (.konst v)= .konst v:=nr rfl
theorem kS(i:Nat):Hg s u i .undef= .undef:=nr rfl
theorem z8(i:Nat):Hg s u i (.own e xs)= .vw [u,i] (s.k u) (s.m u):=nr rfl
theorem A6z(c:Nat)(L:AA):Hg s u c (.vw L i j)= .vw L i j:=nr rfl
theorem zA(i:Nat):Hg s u i (.box xs)= .vw [u,i] (s.k u) (s.m u):=nr rfl
theorem zC(L:AA)(i:Nat):Dl s L i []=[]:=nr rfl
theorem rG(L:AA)(i:Nat):Dl s L i (.int k n::xs)= .int k n::Dl s L (i+1) xs:=nr rfl
theorem kT(L:AA)(i:Nat):Dl s L i (.bool b::xs)= .bool b::Dl s L (i+1) xs:=nr rfl
theorem rH(L:AA)(i:Nat):Dl s L i (.str x::xs)= .str x::Dl s L (i+1) xs:=nr rfl
theorem zD(L:AA)(i:Nat)(zs:List D):Dl s L i (.sl e zs::xs)= .sl e zs::Dl s L (i+1) xs:=nr rfl
theorem zF(i:Nat):Hg s u i .err= .err:=nr rfl
theorem fV(L:AA)(i:Nat):Dl s L i (.konst v::xs)= .konst v::Dl s L (i+1) xs:=nr rfl
theorem fZ(L:AA)(i:Nat):Dl s L i (.undef::xs)= .undef::Dl s L (i+1) xs:=nr rfl
theorem zG(L:AA)(i:Nat)(M:AA)(i2 j2:Nat):Dl s L i (.vw M i2 j2::xs)= .vw M i2 j2::Dl s L (i+1) xs:=nr rfl
theorem rJ(r c:Nat)(i:Nat)(zs:List D):Dl s [r,c] i (.own e zs::xs)= .vw [r,c,i] (s.k r) (s.m r)::Dl s [r,c] (i+1) xs:=nr rfl
theorem rM(r c:Nat)(i:Nat)(zs:List D):Dl s [r,c] i (.box zs::xs)= .vw [r,c,i] (s.k r) (s.m r)::Dl s [r,c] (i+1) xs:=nr rfl
theorem zH:Bg s dst (.tmp u) (.agg xs)=if AU xs then(s.clr u).putO dst (.agg xs)else s.putO dst (.agg xs):=nr rfl
variable (pm:Pm)
theorem zI:Aq pm s dst (.tmp u) (.int k n)=some (s.putO dst (.int k n)):=nr rfl
theorem rO:Aq pm s dst (.tmp u) (.bool b)=some (s.putO dst (.bool b)):=nr rfl
theorem zJ:Aq pm s dst (.tmp u) (.str x)=some (s.putO dst (.str x)):=nr rfl
theorem A70:Aq pm s dst (.tmp u) (.sl e xs)=some (s.putO dst (.sl e xs)):=nr rfl
theorem kU:Aq pm s dst (.tmp u) (.konst v)=some (s.putO dst (.konst v)):=nr rfl
theorem zK:Aq pm s dst (.tmp u) (.own e xs)=some ((s.clr u).putO dst (.own e xs)):=nr rfl
theorem A71(k:TypeId)(es:List (List Int×List Int)):Aq pm s dst (.tmp u) (.mp k e es)=some ((s.clr u).putO dst (.mp k e es)):=nr rfl
theorem zL:Aq pm s dst (.tmp u) (.box xs)=some ((s.clr u).putO dst (.box xs)):=nr rfl
theorem zM(r:Nat):Aq pm s dst (.tmp u) (.vw [r] i j)=(LB pm s [r] i j).map fun q=>q.2.putO dst q.1:=nr rfl
def asT(_s:St)(dst:Option Tmp)(a:Option (D×St))(b:Option St):Bool→Option St
 |true=>a.map fun q=>q.2.putO dst q.1
 |false=>b
theorem A72(a:Option (D×St))(b:Option St):asT s dst a b true=a.map fun q=>q.2.putO dst q.1:=nr rfl
theorem A73(a:Option (D×St))(b:Option St):asT s dst a b false=b:=nr rfl
theorem zN(r r':Nat)(p:AA):Aq pm s dst (.tmp u) (.vw (r::r'::p) i j)=asT s dst (BQ pm s (.vw (r::r'::p) i j)) (some (s.putO dst (.vw (r::r'::p) i j))) (mQ pm s r):=by
 by_cases h:mQ pm s r=true
 ·have h':U3 pm s (.vw (r::r'::p) i j)=true:=h
  unfold Aq
  simp only [h',h,if_true]
  rfl
 ·have h':U3 pm s (.vw (r::r'::p) i j)=false:=Bool.eq_false_iff.mpr h
  unfold Aq
  simp only [h',Bool.eq_false_iff.mpr h]
  rfl
theorem A74(r:Nat):mQ pm s r=(pm.rd r&&Vd (s.v r)):=nr rfl
theorem zO:Vd (.tup xs)=true:=nr rfl
theorem zP:Vd (.agg xs)=false:=nr rfl
theorem zQ:Vd (.own e xs)=false:=nr rfl
theorem zR:Vd (.box xs)=false:=nr rfl
theorem A75:Vd (.vw L i j)=false:=nr rfl
theorem tqU:Vd .undef=false:=nr rfl
theorem zS:VZ pm s (.int k n)=false:=nr rfl
theorem rP:VZ pm s (.bool b)=false:=nr rfl
theorem zT:VZ pm s (.str x)=false:=nr rfl
theorem A76:VZ pm s (.sl e xs)=false:=nr rfl
theorem zU:VZ pm s (.own e xs)=false:=nr rfl
theorem zV(r:Nat):VZ pm s (.vw [r] i j)=false:=nr rfl
theorem zW(r r':Nat)(p:AA):VZ pm s (.vw (r::r'::p) i j)=mQ pm s r:=nr rfl
theorem zX:VZ pm s (.clo f xs)=false:=nr rfl
theorem A77:Aq pm s dst (.tmp u) (.pe L c i j)=some (s.putO dst (.pe L c i j)):=nr rfl
theorem rQ:Aq pm s dst (.tmp u) (.cptr xs)=some (s.putO dst (.cptr xs)):=nr rfl
theorem zY:Aq pm s dst (.tmp u) (.clo f xs)=some (s.putO dst (.clo f xs)):=nr rfl
theorem zZ:Aq pm s dst (.tmp u) .err=some (s.putO dst .err):=nr rfl
theorem za:Aq pm s dst (.tmp u) (.tup xs)=some (if AU xs then(s.clr u).putO dst (.tup xs)else s.putO dst (.tup xs)):=nr rfl
theorem zb:Aq pm s dst (.tmp u) (.agg xs)=asT s dst (BQ pm s (.agg xs)) (some (if AU xs then(s.clr u).putO dst (.agg xs)else s.putO dst (.agg xs))) (!AU xs&&xs.any (VZ pm s)):=by
 by_cases h:(!AU xs&&xs.any (VZ pm s))=true
 ·have h':U3 pm s (.agg xs)=true:=h
  unfold Aq
  simp only [h',h,if_true]
  rfl
 ·have h':U3 pm s (.agg xs)=false:=Bool.eq_false_iff.mpr h
  unfold Aq
  simp only [h',Bool.eq_false_iff.mpr h]
  rfl
end
section
variable (k:IntKind) (x y:Int) (p q:Bool) (a b:ByteArray)
theorem ze:Ch .add (.int k x) (.int k y)=some (.int k (k.wrap (x+y))):=by simp [Ch]
theorem zf:Ch .sub (.int k x) (.int k y)=some (.int k (k.wrap (x-y))):=by simp [Ch]
theorem zg:Ch .mul (.int k x) (.int k y)=some (.int k (k.wrap (x*y))):=by simp [Ch]
theorem zh:Ch .quo (.int k x) (.int k y)=if y=0 then none else some (.int k (k.wrap (x.tdiv y))):=by simp [Ch]
theorem zi:Ch .rem (.int k x) (.int k y)=if y=0 then none else some (.int k (x.tmod y)):=by simp [Ch]
theorem zk:Ch .and (.int k x) (.int k y)=some (.int k (P6 .and k x y)):=by simp [Ch]
theorem A78:Ch .or (.int k x) (.int k y)=some (.int k (P6 .or k x y)):=by simp [Ch]
theorem zm:Ch .xor (.int k x) (.int k y)=some (.int k (P6 .xor k x y)):=by simp [Ch]
theorem fe:Ch .andNot (.int k x) (.int k y)=some (.int k (P6 .andNot k x y)):=by simp [Ch]
theorem zn(k':IntKind):Ch .shl (.int k x) (.int k' y)=if y<0 then none else some (.int k (k.wrap (x*2 ^ (min y.toNat k.bits)))):=by simp [Ch]
theorem zo(k':IntKind):Ch .shr (.int k x) (.int k' y)=if y<0 then none else some (.int k (x.fdiv (2 ^ (min y.toNat k.bits)))):=by simp [Ch]
theorem A79:Ch .eql (.int k x) (.int k y)=some (.bool (decide (x=y))):=by simp [Ch];rfl
theorem A7A:Ch .neq (.int k x) (.int k y)=some (.bool (!decide (x=y))):=by simp [Ch];rfl
theorem A7B:Ch .lss (.int k x) (.int k y)=some (.bool (decide (x<y))):=by simp [Ch]
theorem A7C:Ch .leq (.int k x) (.int k y)=some (.bool (decide (x≤y))):=by simp [Ch]
theorem A7D:Ch .gtr (.int k x) (.int k y)=some (.bool (decide (y<x))):=by simp [Ch]
theorem A7E:Ch .geq (.int k x) (.int k y)=some (.bool (decide (y≤x))):=by simp [Ch]
theorem zq:Ch .eql (.bool p) (.bool q)=some (.bool (p==q)):=nr rfl
theorem zt:Ch .neq (.bool p) (.bool q)=some (.bool (!(p==q))):=nr rfl
theorem zu:Ch .eql (.str a) (.str b)=some (.bool (a.toList==b.toList)):=nr rfl
theorem zw:Ch .neq (.str a) (.str b)=some (.bool (!(a.toList==b.toList))):=nr rfl
theorem zx:Ch .lss (.str a) (.str b)=some (.bool (Op.bytesLess a.toList b.toList)):=nr rfl
theorem rR:Ch .add (.str a) (.str b)=if a.size+b.size<1099511627776 then some (.str (a++b))else none:=nr rfl
theorem zy:mP .not (.bool p)=some (.bool (!p)):=nr rfl
theorem zz:mP .neg (.int k x)=some (.int k (k.wrap (0-x))):=nr rfl
theorem boI(T:Tys)(t:TypeId):Ju T t (.int k x)=true:=nr rfl
theorem boS(T:Tys)(t:TypeId):Ju T t (.str a)=true:=nr rfl
theorem boB(T:Tys)(t:TypeId):Ju T t (.bool p)=match T.ty t with| .bool=>true|_=>false:=nr rfl
theorem boA(T:Tys)(t:TypeId)(k l:IntKind)(x y:Int):Ju T t (.agg [.int k x, .int l y])=ZX T k l (T.ty t):=nr rfl
theorem rT(T:Tys)(k l:IntKind)(a b:TypeId):ZX T k l (.struct [a,b])=(Xp k (T.ty a)&&Xp l (T.ty b)):=nr rfl
theorem A00(k:IntKind):Xp k (.int k)=true:=by simp [Xp]
theorem A01(k l:IntKind)(a b c d:Int):Ch .eql (.agg [.int k a, .int l b]) (.agg [.int k c, .int l d])=some (.bool ((a==c)&&(b==d))):=by simp [Ch]
theorem A02(k l:IntKind)(a b c d:Int):Ch .neq (.agg [.int k a, .int l b]) (.agg [.int k c, .int l d])=some (.bool (!((a==c)&&(b==d)))):=by simp [Ch]
end
def F6(xs:List Int):List D:=xs.map (D.int .i64)
theorem Wj(xs:List Int):(F6 xs).length=xs.length:=by simp [F6]
theorem fq(xs:List Int)(i:Nat):(F6 xs)[i]? =(xs[i]?).map (D.int .i64):=by simp [F6]
theorem Qz(xs:List Int):CJ (F6 xs)=false:=by
 induction xs with
 |nil=>rfl
 |cons x xs ih=>simp only [F6,List.map_cons,CJ,CG,Bool.false_or];exact ih
theorem Wl(xs:List Int):AU (F6 xs)=false:=by
 induction xs with
 |nil=>rfl
 |cons x xs ih=>simp only [F6,List.map_cons,AU,D.hasObj,Bool.false_or];exact ih
theorem Wm(xs:List Int):Bz (F6 xs)=some (F6 xs):=by
 induction xs with
 |nil=>rfl
 |cons x xs ih=>simp only [F6,List.map_cons,Bz,CZ,Option.bind_some]at ih ⊢;rw [ih];rfl
theorem Yb(xs:List Int):(F6 xs).all BX=true:=by simp [F6,BX]
end Dv
namespace Dv
open Go
def zB:Value→Value→Bool
 | .int k n, .int k' n'=>decide (k=k')&&decide (n=n')
 | .bool b, .bool b'=>b==b'
 | .string s, .string s'=>s.size==0&&s'.size==0
 | .slice none 0 0, .slice none 0 0=>true
 | .nilFunc, .nilFunc=>true
 | .pointer none, .pointer none=>true
 |_,_=>false
theorem mW{a b:Value}(h:zB a b=true):a=b:=by
 unfold zB at h
 split at h
 ·simp only [Bool.and_eq_true,decide_eq_true_eq]at h;rw [h.1,h.2]
 ·simp only [beq_iff_eq]at h;rw [h]
 ·simp only [Bool.and_eq_true,beq_iff_eq]at h
  rename_i s s'
  have: ∀t:ByteArray,t.size=0→t=ByteArray.empty:=by
   intro t ht
   obtain⟨d⟩:=t
   have:d= #[]:=Array.size_eq_zero_iff.1 ht
   rw [this];rfl
  rw [this s h.1,this s' h.2]
 ·rfl
 ·rfl
 ·rfl
 ·cases h
def zsB:List Value→List Value→Bool
 | [],[]=>true
 |a::as,b::bs=>zB a b&&zsB as bs
 |_,_=>false
theorem fu: ∀ {a b:List Value},zsB a b=true→a=b
 | [],[],_=>rfl
 | [],_::_,h=>by cases h
 |_::_,[],h=>by cases h
 |a::as,b::bs,h=>by
  simp only [zsB,Bool.and_eq_true]at h
  rw [mW h.1,fu h.2]
def Mk(P:Program)(t:TypeId)(n:Nat)(z:Value):Bool:=
 match P.info? t with
 |some i=>(i.size==n)&&(decide (4<n)||decide (i.bytes≤128))&&(match i.zero,z with|some (.agg a), .agg b=>zsB a.toList b.toList|some v,z=>zB v z|_,_=>false)
 |none=>false
theorem Io{P:Program}{t:TypeId}{n:Nat}{z:Value}(h:Mk P t n z=true):Jv P t n z:=by
 unfold Mk at h
 split at h
 ·rename_i i hi
  simp only [Bool.and_eq_true,Bool.or_eq_true,beq_iff_eq,decide_eq_true_eq]at h
  refine⟨i,hi,h.1.1, ?_,fun h4=>h.1.2.resolve_left (by omega)⟩
  have h2:=h.2
  split at h2
  ·rename_i a b hz
   rw [hz]
   have:=fu h2
   rw [←Array.toArray_toList (xs:=a),this]
  ·rename_i v z' hz _
   rw [hz,mW h2]
  ·cases h2
 ·cases h
def Ug(P:Program)(T:Tys)(t:TypeId):Bool:=
 match T.ty t with
 | .int k=>(match P.underlying t with|some (.int k')=>decide (k'=k)|_=>false)&&Mk P t 1 (.int k 0)
 | .bool=>(match P.underlying t with|some .bool=>true|_=>false)&&Mk P t 1 (.bool false)
 | .string=>(match P.underlying t with|some .string=>true|_=>false)&&Mk P t 1 (.string ByteArray.empty)
 | .slice e=>(match P.underlying t with|some (.slice e')=>e'==e|_=>false)&&Mk P t 1 (.slice none 0 0)
 | .struct fs=>(match P.underlying t with
   |some (.struct fields)=>
    match T.nest t with
    |none=>(fields.size==fs.length)&&(List.range fields.size).all (fun j=>match fields[j]?,fs[j]? with|some f,some g=>(f.offset==j)&&(f.type==g)&&T.known g&& !T.isStruct g|_,_=>false)
    |some fl=>decide (4<fs.length)&&(fields.size==fl.length)&&(List.range fields.size).all (fun j=>match fields[j]?,fl[j]? with|some f,some g=>(f.offset==g.1)&&(f.type==g.2)&&T.known g.2|_,_=>false)
   |_=>false)&&Mk P t fs.length (.agg (fs.map (EP T)).toArray)
 | .func=>(match P.underlying t with|some (.func ..)=>true|_=>false)&&Mk P t 1 .nilFunc
 | .ptr=>(match P.underlying t with|some (.pointer _)=>true|_=>false)&&Mk P t 1 (.pointer none)
 | .map k e=>match P.underlying t with|some (.map k' e')=>(k'==k)&&(e'==e)|_=>false
 | .arr n e=>(match P.underlying t with|some (.array n' e')=>(n'==n)&&(e'==e)|_=>false)&&decide (4<n)&&(match T.nest t with|some l=>l==ja n e|none=>false)&&(match T.ty e with| .int _=>true|_=>false)&&Mk P t n (.agg (List.replicate n (EP T e)).toArray)
 | .iface=>match P.underlying t with|some (.interface _)=>true|_=>false
 | .other=>true
theorem Yc{P:Program}{T:Tys}{t:TypeId}(h:Ug P T t=true):DJ P T t:=by
 unfold Ug at h
 unfold DJ
 cases hty:T.ty t<;>rw [hty]at h<;>simp only [Bool.and_eq_true]at h ⊢
 case int k=>
  refine⟨?_,Io h.2⟩
  have h1:=h.1
  split at h1
  ·rename_i k' hu;rw [hu];simp only [decide_eq_true_eq]at h1;rw [h1]
  ·cases h1
 case bool=>
  refine⟨?_,Io h.2⟩
  have h1:=h.1
  split at h1
  ·assumption
  ·cases h1
 case string=>
  refine⟨?_,Io h.2⟩
  have h1:=h.1
  split at h1
  ·assumption
  ·cases h1
 case iface=>
  split at h
  ·rename_i ms hu;exact⟨ms,hu⟩
  ·cases h
 case map k e=>
  split at h
  ·rename_i k' e' hu;rw [hu];simp only [Bool.and_eq_true,beq_iff_eq]at h;rw [h.1,h.2]
  ·cases h
 case arr n e=>
  obtain⟨⟨⟨⟨h1,h2⟩,h3⟩,h4⟩,h5⟩:=h
  refine⟨⟨?_,by simpa using h2, ?_, ?_⟩,Io h5⟩
  ·split at h1
   ·rename_i n' e' hu;rw [hu];simp only [Bool.and_eq_true,beq_iff_eq]at h1;rw [h1.1,h1.2]
   ·cases h1
  ·split at h3
   ·rename_i l hl;rw [hl];simp only [beq_iff_eq]at h3;rw [h3]
   ·cases h3
  ·split at h4
   ·rename_i k hk;exact⟨k,hk⟩
   ·cases h4
 case slice e=>
  refine⟨?_,Io h.2⟩
  have h1:=h.1
  split at h1
  ·rename_i k' hu;rw [hu];simp only [beq_iff_eq]at h1;rw [h1]
  ·cases h1
 case struct fs=>
  refine⟨?_,Io h.2⟩
  have h1:=h.1
  split at h1
  ·rename_i fields hu
   refine⟨fields,hu, ?_⟩
   cases hn:T.nest t with
   |none=>
    simp only [hn,Bool.and_eq_true,beq_iff_eq,List.all_eq_true,List.mem_range]at h1 ⊢
    refine⟨h1.1,fun j f hf=> ?_⟩
    have hlt:=(Array.getElem?_eq_some_iff.1 hf).1
    have:=h1.2 j hlt
    rw [hf]at this
    split at this
    ·rename_i f' g hf' hg
     simp only [Option.some.injEq]at hf'
     subst hf'
     simp only [Bool.and_eq_true,beq_iff_eq,Bool.not_eq_true']at this
     obtain⟨⟨⟨q1,q2⟩,q3⟩,q4⟩:=this
     subst q2
     exact⟨q1,hg,q3,q4⟩
    ·cases this
   |some fl=>
    simp only [hn,Bool.and_eq_true,beq_iff_eq,List.all_eq_true,List.mem_range,decide_eq_true_eq]at h1 ⊢
    refine⟨h1.1.1,h1.1.2,fun j f hf=> ?_⟩
    have hlt:=(Array.getElem?_eq_some_iff.1 hf).1
    have:=h1.2 j hlt
    rw [hf]at this
    split at this
    ·rename_i f' g hf' hg
     simp only [Option.some.injEq]at hf'
     subst hf'
     simp only [Bool.and_eq_true,beq_iff_eq]at this
     obtain⟨⟨q1,q2⟩,q3⟩:=this
     refine⟨?_,by rw [q2];exact q3⟩
     rw [hg,q1,q2]
    ·cases this
  ·cases h1
 case func=>
  refine⟨?_,Io h.2⟩
  have h1:=h.1
  split at h1
  ·exact⟨_,_,_,by assumption⟩
  ·cases h1
 case ptr=>
  refine⟨?_,Io h.2⟩
  have h1:=h.1
  split at h1
  ·exact⟨_,by assumption⟩
  ·cases h1
def Yd(bT:List Ty)(kV:List (TypeId×List (Nat×TypeId))):Tys:={ty:=fun t=>bT.getD t .other,nest:=fun t=>kV.lookup t}
theorem rU{P:Program}{bT:List Ty}{kV:List (TypeId×List (Nat×TypeId))}(h:((List.range bT.length).all fun t=>Ug P (Yd bT kV) t&&jg P (Yd bT kV) t)=true):BU P (Yd bT kV):=by
 intro t
 rcases Nat.lt_or_ge t bT.length with ht|ht
 ·have:=List.all_eq_true.1 h t (List.mem_range.2 ht)
  rw [Bool.and_eq_true]at this
  exact⟨Yc this.1,this.2⟩
 ·have:(Yd bT kV).ty t= .other:=by simp [Yd,List.getD_eq_getElem?_getD,List.getElem?_eq_none ht]
  refine⟨?_, ?_⟩
  ·unfold DJ
   rw [this];trivial
  ·unfold jg
   rw [this]
theorem Ah{Y:Sys}{f:FuncId}{fn:Func}{k:SC}{a l:List D}{r:D×List D}(hb:Y.base f a l=none)(hf:Y.P.funcs[f]? =some fn)(hok:DR fn a.length=true)
  (hk:fn.body.map (CY Y.lends)=some k)(h:Cu Y.env k (HZ Y.T l.length fn.results.toList r) (entry a l)):Y.call f a l=some r:=by
 obtain⟨c,hc,hk⟩:=Option.map_eq_some_iff.1 hk
 exact Sys.call_wp hb hf hok hc hk h
end Dv
namespace Dv
open Go
section
variable (E:Env) (pm:Pm) (s:St) (dst:Option Tmp) (ty:TypeId) (u:Tmp) (t:TypeId)
theorem FO(o:Option D):(o.map fun r=>s.putO dst r)=FN s dst o:=by cases o<;>rfl
theorem JW(o:Option (D×St)):(o.map fun r=>r.2.putO dst r.1)=Qy dst o:=by cases o<;>rfl
theorem A03:IK E pm s dst (.move (.tmp u)) ty=some (Bg s dst (.tmp u) (s.v u)):=nr rfl
def bU(pm:Pm):Option Tmp→Option St→Option St
 |some t,some s1=>Du pm s1 (some t)
 |_,_=>none
def frC(s1:St)(t:Tmp):Option D→Option St
 |some c=>some (s1.set [t] c)
 |none=>none
theorem A7F(s1:St)(t:Tmp)(h1:pm.rd t=true)(h2:pm.wr t=true):bU pm (some t) (some s1)=frC s1 t (CZ (s1.v t)):=by
 show(if pm.rd t&&pm.wr t then(CZ (s1.v t)).map fun c=>s1.set [t] c else none)=_
 rw [h1,h2]
 cases CZ (s1.v t)<;>rfl
theorem A7G(s1:St)(u:Tmp)(b:Bool):fbC pm s1 u (.bool b)=if b=true then some s1 else bU pm (some u) (some s1):=by
 cases b<;>rfl
theorem A7H(s1:St)(t:Tmp)(c:D):frC s1 t (some c)=some (s1.set [t] c):=nr rfl
def fcB(pm:Pm):Option Tmp→Option St→Option St
 |some t,some s1=>KA pm s1 (some t)
 |_,_=>none
def fcD(s1:St)(t:Tmp)(e:TypeId):Option (List D)→Option St
 |some ys=>some (s1.set [t] (.own e ys))
 |none=>none
def fcC(s1:St)(t:Tmp):D→Option St
 | .own e xs=>fcD s1 t e (Bz xs)
 |_=>none
theorem A7K(s1:St)(t:Tmp)(h1:pm.rd t=true)(h2:pm.wr t=true):fcB pm (some t) (some s1)=fcC s1 t (s1.v t):=by
 show KA pm s1 (some t)=_
 unfold KA fcC
 dsimp only
 rw [h1,h2]
 cases s1.v t with
 |own e xs=>simp only [Bool.and_self,if_true];cases Bz xs<;>rfl
 |_=>rfl
theorem A7L(s1:St)(t:Tmp)(e:TypeId)(xs:List D):fcC s1 t (.own e xs)=fcD s1 t e (Bz xs):=nr rfl
theorem A7M(s1:St)(t:Tmp)(e:TypeId)(ys:List D):fcD s1 t e (some ys)=some (s1.set [t] (.own e ys)):=nr rfl
theorem kW:IK E pm s dst (.assign (.tmp u)) ty=if ty=900003 then bU pm dst (Aq pm s dst (.tmp u) (s.v u))else if ty<1000000 then Aq pm s dst (.tmp u) (s.v u)else bU pm dst (Aq pm s dst (.tmp u) (s.v u)):=by
 have hfr:((Aq pm s dst (.tmp u) (s.v u)).bind fun s1=>Du pm s1 dst)=bU pm dst (Aq pm s dst (.tmp u) (s.v u)):=by
  rcases Aq pm s dst (.tmp u) (s.v u)with _|s1<;>cases dst<;>rfl
 show(if dI ty=true then(Aq pm s dst (.tmp u) (s.v u)).bind fun s1=>Du pm s1 dst else Aq pm s dst (.tmp u) (s.v u))=_
 rw [hfr]
 unfold dI
 by_cases h1:ty=900003
 ·rw [if_pos h1,if_pos h1];rfl
 ·rw [if_neg h1,if_neg h1]
  by_cases h2:ty<1000000
  ·rw [if_pos h2,if_pos h2];rfl
  ·rw [if_neg h2,if_neg h2];rfl
theorem fw(v:Value):IK E pm s dst (.assign (.const v)) ty=if ty=900003 then bU pm dst (FN s dst (ev E.T s ty (.const v)))else if ty<1000000 then FN s dst (ev E.T s ty (.const v))else bU pm dst (FN s dst (ev E.T s (ty-1000000) (.const v))):=by
 have hfr: ∀t,((ev E.T s t (.const v)).bind fun d=>(Aq pm s dst (.const v) d).bind fun s1=>Du pm s1 dst)=bU pm dst (FN s dst (ev E.T s t (.const v))):=by
  intro t
  cases ev E.T s t (.const v)<;>cases dst<;>rfl
 have hno: ∀t,((ev E.T s t (.const v)).bind fun d=>Aq pm s dst (.const v) d)=FN s dst (ev E.T s t (.const v)):=by
  intro t
  cases ev E.T s t (.const v)<;>rfl
 show((ev E.T s (qI ty) (.const v)).bind fun d=>if dI ty=true then(Aq pm s dst (.const v) d).bind fun s1=>Du pm s1 dst else Aq pm s dst (.const v) d)=_
 unfold dI qI
 by_cases h1:ty=900003
 ·simp only [if_pos h1,if_true];exact hfr _
 ·by_cases h2:ty<1000000
  ·simp only [if_neg h1,if_pos h2,Bool.false_eq_true,if_false];exact hno _
  ·simp only [if_neg h1,if_neg h2,if_true];exact hfr _
theorem rV(v:Value):IK E pm s dst (.move (.const v)) ty=FN s dst (ev E.T s ty (.const v)):=by
 show((ev E.T s ty (.const v)).map fun d=>Bg s dst (.const v) d)=_
 cases ev E.T s ty (.const v)<;>rfl
theorem A04:IK E pm s dst (.load t (.tmp u)) ty=FN s dst (DV E.T pm s t (.tmp u) (s.v u)):=FO s dst _
theorem yUn(op:UnOp):IK E pm s dst (.unOp op t (.tmp u)) ty=FN s dst (mP op (s.v u)):=FO s dst _
theorem rW(i:Nat):IK E pm s dst (.fieldAddr t (.tmp u) i) ty=FN s dst (EO E.T pm s t (.tmp u) (s.v u) i):=FO s dst _
theorem A7N:IK E pm s dst (.call ⟨.builtin .len, #[.tmp u], #[t]⟩) ty=FN s dst (KC E.T pm s t (.tmp u) (s.v u)):=FO s dst _
theorem gB(i:Nat):IK E pm s dst (.extract (.tmp u) i) ty=GG s dst (.tmp u) (s.v u) i:=nr rfl
def slC(T:Tys)(pm:Pm)(s:St)(dst:Option Tmp)(t:TypeId)(x:Operand)(hi:Option Operand):Option Operand→Option Operand→Option St
 |none,none=>Qy dst (LC T pm s t x hi)
 |_,_=>none
theorem A7O(T:Tys)(x:Operand)(hi:Option Operand):slC T pm s dst t x hi none none=Qy dst (LC T pm s t x hi):=nr rfl
def slF(T:Tys)(pm:Pm)(s:St)(dst:Option Tmp)(t:TypeId)(x:Operand)(lo:Option Operand):Option Operand→Option Operand→Option St
 |none,none=>Qy dst (JO T pm s t x lo)
 |_,_=>none
theorem A7P(T:Tys)(x:Operand)(lo:Option Operand):slF T pm s dst t x lo none none=Qy dst (JO T pm s t x lo):=nr rfl
theorem rX(lo hi mx:Option Operand):IK E pm s dst (.slice t (.tmp u) lo hi mx) ty=
  if ty=900002 then slC E.T pm s dst t (.tmp u) hi lo mx
  else if ty=900005 then slF E.T pm s dst t (.tmp u) lo hi mx
  else if ty=900001 then Qy dst (GD E.T pm.see s t (.tmp u) (s.v u) lo hi mx)else Qy dst (GD E.T pm s t (.tmp u) (s.v u) lo hi mx):=by
 show(if ty=900002 then(if lo.isNone&&mx.isNone then(LC E.T pm s t (.tmp u) hi).map fun r=>r.2.putO dst r.1 else none)
  else if ty=900005 then(if hi.isNone&&mx.isNone then(JO E.T pm s t (.tmp u) lo).map fun r=>r.2.putO dst r.1 else none)
  else(ev E.T s t (.tmp u)).bind fun d=>(GD E.T (if ty=900001 then pm.see else pm) s t (.tmp u) d lo hi mx).map fun r=>r.2.putO dst r.1)=_
 split
 ·cases lo<;>cases mx<;>first|rfl|exact JW dst _
 ·split
  ·cases hi<;>cases mx<;>first|rfl|exact JW dst _
  ·split
   ·exact JW dst _
   ·exact JW dst _
def apI(T:Tys)(pm:Pm)(s:St)(t:TypeId)(x y:Operand)(d:D):Option (D×St):=if qG (some d)then JP T pm s t x else Ef T pm s t x y
theorem kX(x:Operand)(v:Tmp):IK E pm s dst (.call ⟨.builtin .append, #[x, .tmp v], #[t,t]⟩) ty=Qy dst (apI E.T pm s t x (.tmp v) (s.v v)):=by
 rw [Ya,if_pos rfl,JW];rfl
def mn1(mx:Bool):Option D→Option D→Option D
 |some a,some b=>PZ mx a b
 |_,_=>none
theorem A7R(mx:Bool)(a b:D):mn1 mx (some a) (some b)=PZ mx a b:=nr rfl
theorem A06(k:IntKind)(x y:Int):PZ false (.int k x) (.int k y)=some (.int k (U1 x y)):=by simp [PZ]
theorem A07(k:IntKind)(x y:Int):PZ true (.int k x) (.int k y)=some (.int k (ZV x y)):=by simp [PZ]
theorem A7S(x y:Operand)(t':TypeId):IK E pm s dst (.call ⟨.builtin .min, #[x,y], #[t,t']⟩) ty=FN s dst (mn1 false (ev E.T s t x) (ev E.T s t' y)):=by
 show(match ev E.T s t x,ev E.T s t' y with|some a,some b=>(PZ false a b).map fun r=>s.putO dst r|_,_=>none)=_
 cases ev E.T s t x<;>cases ev E.T s t' y<;>first|rfl|exact FO s dst _
theorem A7T(x y:Operand)(t':TypeId):IK E pm s dst (.call ⟨.builtin .max, #[x,y], #[t,t']⟩) ty=FN s dst (mn1 true (ev E.T s t x) (ev E.T s t' y)):=by
 show(match ev E.T s t x,ev E.T s t' y with|some a,some b=>(PZ true a b).map fun r=>s.putO dst r|_,_=>none)=_
 cases ev E.T s t x<;>cases ev E.T s t' y<;>first|rfl|exact FO s dst _
theorem A7U(T:Tys)(x y:Operand)(e:TypeId)(xs:List D):apI T pm s t x y (.sl e xs)=Ef T pm s t x y:=nr rfl
theorem A08(T:Tys)(x y:Operand)(e:TypeId)(xs:List D):apI T pm s t x y (.own e xs)=Ef T pm s t x y:=nr rfl
theorem A7V(T:Tys)(x y:Operand)(L:AA)(n m:Nat):apI T pm s t x y (.vw L n m)=Ef T pm s t x y:=nr rfl
theorem apK(T:Tys)(x y:Operand)(A:Option Addr)(c:Nat):apI T pm s t x y (.konst (.slice A 0 c))=JP T pm s t x:=nr rfl
def ix1(T:Tys)(pm:Pm)(s:St)(t:TypeId)(x:Operand)(d:D):Option D→Option D
 |some i=>NK T pm s t x d i
 |none=>none
theorem A7W(T:Tys)(x:Operand)(d i:D):ix1 T pm s t x d (some i)=NK T pm s t x d i:=nr rfl
theorem rY(i:Operand):IK E pm s dst (.indexAddr t (.tmp u) i) ty=FN s dst (ix1 E.T pm s t (.tmp u) (s.v u) (ev E.T s 0 i)):=by
 show(match some (s.v u),ev E.T s 0 i with
  |some a,some b=>(NK E.T pm s t (.tmp u) a b).map fun r=>s.putO dst r
  |_,_=>none)=_
 cases ev E.T s 0 i with
 |none=>rfl
 |some b=>exact FO s dst _
def mk1(T:Tys)(t:TypeId):Option D→Option D→Option D
 |some a,some b=>Dk T t a b
 |_,_=>none
theorem A7X(T:Tys)(a b:D):mk1 T t (some a) (some b)=Dk T t a b:=nr rfl
theorem A7Y(l c:Operand):S9 E.T s dst t l c=FN s dst (mk1 E.T t (ev E.T s 0 l) (ev E.T s 0 c)):=by
 show(match ev E.T s 0 l,ev E.T s 0 c with
  |some a,some b=>(Dk E.T t a b).map fun r=>s.putO dst r
  |_,_=>none)=_
 cases ev E.T s 0 l<;>cases ev E.T s 0 c<;>first|rfl|exact FO s dst _
theorem A0A(l c:Operand):IK E pm s dst (.makeSlice t l c) ty=if ty=900012 then fcB pm dst (FN s dst (mk1 E.T t (ev E.T s 0 l) (ev E.T s 0 c)))else FN s dst (mk1 E.T t (ev E.T s 0 l) (ev E.T s 0 c)):=by
 rw [SQ,A7Y]
 by_cases h:ty=900012
 ·rw [if_pos h,if_pos h]
  cases FN s dst (mk1 E.T t (ev E.T s 0 l) (ev E.T s 0 c))<;>cases dst<;>rfl
 ·rw [if_neg h,if_neg h]
theorem A7Z(u:Tmp)(s1:St):stF pm (.tmp u) (some s1)=bU pm (some u) (some s1):=nr rfl
def cv1(T:Tys)(src:TypeId)(s:St)(dst:Option Tmp):Option D→Ty→Option St
 |some (.int _ n), .int k=>some (s.putO dst (.int k (k.wrap n)))
 |some (.str b), .string=>some (s.putO dst (.str b))
 |some (.own e [.int .u8 n]), .string=>qH (some (s.putO dst (.str (Ve n)))) e (T.ty src) (T.ty e)
 |_,_=>none
theorem A7a(T:Tys)(src:TypeId)(k k':IntKind)(n:Int):cv1 T src s dst (some (.int k n)) (.int k')=some (s.putO dst (.int k' (k'.wrap n))):=nr rfl
theorem A7b(T:Tys)(src:TypeId)(b:ByteArray):cv1 T src s dst (some (.str b)) .string=some (s.putO dst (.str b)):=nr rfl
theorem A7c(T:Tys)(src:TypeId)(e:TypeId)(n:Int):cv1 T src s dst (some (.own e [.int .u8 n])) .string=qH (some (s.putO dst (.str (Ve n)))) e (T.ty src) (T.ty e):=nr rfl
theorem A7d(o:Option St)(e:TypeId):qH o e (.slice e) (.int .u8)=o:=by simp [qH]
theorem gD(src d:TypeId)(x:Operand):IK E pm s dst (.convert src d x) ty=if E.T.known src then cv1 E.T src s dst (ev E.T s src x) (E.T.ty d)else none:=nr rfl
def ixS(s:St)(dst:Option Tmp):Ty→Option D→Option D→Option St
 | .string,some (.str b),some (.int _ n)=>FN s dst (ZW n b)
 |_,_,_=>none
theorem A7e(b:ByteArray)(k:IntKind)(n:Int)(h:0≤n∧n.toNat<b.size):ixS s dst .string (some (.str b)) (some (.int k n))=some (s.putO dst (.int .u8 (U4 b n))):=by
 show FN s dst (if 0≤n∧n.toNat<b.size then some (D.int .u8 (U4 b n))else none)=_
 rw [if_pos h];rfl
theorem A7f(t:TypeId)(x i:Operand):IK E pm s dst (.index t x i) ty=ixS s dst (E.T.ty t) (ev E.T s t x) (ev E.T s 0 i):=by
 rw [bN]
 generalize E.T.ty t=A
 generalize ev E.T s t x=B
 generalize ev E.T s 0 i=C
 cases A<;>try rfl
 rcases B with _|d<;>try rfl
 cases d<;>try rfl
 rcases C with _|d2<;>try rfl
 cases d2<;>try rfl
 exact FO s dst _
def asM(l:List TypeId):List TypeId:=l.map fun _=>900013
theorem A7g(k e:TypeId)(es:List (List Int×List Int)):(D.mp k e es).hasObj=true:=by simp [D.hasObj]
theorem A7h:asM []=[]:=nr rfl
theorem A7i(t:TypeId)(l:List TypeId):asM (t::l)=900013::asM l:=nr rfl
theorem A0C(f:FuncId)(args:Array Operand)(ts:Array TypeId)(h:args.size=ts.size):IK E pm s dst (.call ⟨.value (.func f),args,ts⟩) ty=if ty=900014 then bU pm dst (F8 E pm s dst f (args.toList.zip ts.toList) [])else F8 E pm s dst f (args.toList.zip (if ty=900013 then asM ts.toList else ts.toList)) []:=by
 rw [fQ,if_pos h]
 by_cases c:ty=900014
 ·rw [if_pos c,if_pos c]
  have e:LH ty ts.toList=ts.toList:=by unfold LH;rw [c,if_neg (by decide)]
  rw [e]
  unfold bU
  cases F8 E pm s dst f (args.toList.zip ts.toList) []with
  |none=>cases dst<;>rfl
  |some s1=>cases dst<;>rfl
 ·rw [if_neg c,if_neg c]
  unfold LH asM;rfl
end
section
variable {T:Tys} {pm:Pm} {s:St} {t:TypeId}
theorem ldC(x:Operand)(xs:List D)(hk:T.known t=true)(hs:T.isStruct t=false):DV T pm s t x (.cptr xs)=xs[0]? :=by simp [DV,hk,hs]
theorem A7j(x:Operand)(xs:List D)(hk:T.known t=true)(hs:T.isStruct t=true):DV T pm s t x (.cptr xs)=if T.size t≤xs.length then some (.agg (xs.take (T.size t)))else none:=by simp [DV,hk,hs]
def Lc(s:St)(L:AA)(c:Nat):Option D→Option D
 |some o=>(o.cells[c]?).bind fun x=>BO (Bc s L c x)
 |none=>none
def cellsOf(s:St)(L:AA)(c n:Nat):Option D→Option D
 |some o=>if c+n≤o.cells.length then BO (.agg ((List.range n).map fun i=>Bc s L (c+i) (o.cells.getD (c+i) .undef)))else none
 |none=>none
theorem ldP(x:Operand)(L:AA)(c n m:Nat)(hk:T.known t=true)(hs:T.isStruct t=false):DV T pm s t x (.pe L c n m)=Lc s L c (s.look pm L n m):=by
 simp only [DV,hk,hs,if_true,Ee]
 cases s.look pm L n m<;>simp [Lc]
theorem A7k(x:Operand)(L:AA)(c n m:Nat)(hk:T.known t=true)(hs:T.isStruct t=true):DV T pm s t x (.pe L c n m)=cellsOf s L c (T.size t) (s.look pm L n m):=by
 simp only [DV,hk,hs,if_true,Ee]
 cases s.look pm L n m<;>simp [cellsOf]
theorem ldB(u:Tmp)(xs:List D)(hk:T.known t=true)(hs:T.isStruct t=false):DV T pm s t (.tmp u) (.box xs)=Lc s [u] 0 (some (.box xs)):=by
 simp only [DV,hk,hs,if_true,Ee]
 simp [Lc]
theorem A7l(u:Tmp)(xs:List D)(hk:T.known t=true)(hs:T.isStruct t=true):DV T pm s t (.tmp u) (.box xs)=cellsOf s [u] 0 (T.size t) (some (.box xs)):=by
 simp only [DV,hk,hs,if_true,Ee]
 simp [cellsOf]
def Ld(s:St)(pm:Pm)(L:AA)(n m:Nat):Option D:=
 match s.look pm L n m with
 |some (.box xs)=>some (.box xs)
 |_=>none
theorem ldV(x:Operand)(L:AA)(n m:Nat)(hk:T.known t=true)(hs:T.isStruct t=false):DV T pm s t x (.vw L n m)=Lc s L 0 (Ld s pm L n m):=by
 simp only [DV,hk,hs,if_true,Ee,Ld]
 cases s.look pm L n m with
 |none=>simp [Lc]
 |some o=>cases o<;>simp [Lc]
theorem A7m(x:Operand)(L:AA)(n m:Nat)(hk:T.known t=true)(hs:T.isStruct t=true):DV T pm s t x (.vw L n m)=cellsOf s L 0 (T.size t) (Ld s pm L n m):=by
 simp only [DV,hk,hs,if_true,Ee,Ld]
 cases s.look pm L n m with
 |none=>simp [cellsOf]
 |some o=>cases o<;>simp [cellsOf]
def Wn:D→Option D
 | .own e xs=>some (.own e xs)
 | .box xs=>some (.box xs)
 |_=>none
theorem rZ(e:TypeId)(xs:List D):Wn (.own e xs)=some (.own e xs):=nr rfl
theorem rf(xs:List D):Wn (.box xs)=some (.box xs):=nr rfl
theorem A0D(u n m:Nat):s.look pm [u] n m=if pm.rd u&&(s.k u==n)then Wn (s.v u)else none:=by
 simp only [St.look,List.isEmpty_nil,Bool.true_or,Bool.and_true,BK]
 split
 ·cases s.v u<;>rfl
 ·rfl
def A0E:Option D→Option D
 |some d=>Wn d
 |none=>none
theorem A0F(u c n m:Nat)(p:AA):s.look pm (u::c::p) n m=if pm.rd u&&(s.k u==n)&&(s.m u==m)then A0E (BK (s.v u) (c::p))else none:=by
 simp only [St.look,List.isEmpty_cons,Bool.false_or]
 split
 ·cases BK (s.v u) (c::p)with
  |none=>rfl
  |some d=>cases d<;>rfl
 ·rfl
theorem A0G(d:D):A0E (some d)=Wn d:=nr rfl
theorem A7n(x:Operand)(e:TypeId)(xs:List D):Bd pm s x (.sl e xs)=some (e,xs,none):=nr rfl
theorem A0H(u:Tmp)(e:TypeId)(xs:List D):Bd pm s (.tmp u) (.own e xs)=some (e,xs,some ([u],s.k u,s.m u)):=nr rfl
def A0I(L:AA)(n m:Nat):Option D→Option (TypeId×List D×Option (AA×Nat×Nat))
 |some (.own e xs)=>some (e,xs,some (L,n,m))
 |_=>none
theorem A0J(L:AA)(n m:Nat)(e:TypeId)(xs:List D):A0I L n m (some (.own e xs))=some (e,xs,some (L,n,m)):=nr rfl
theorem A7o(x:Operand)(L:AA)(n m:Nat):Bd pm s x (.vw L n m)=A0I L n m (s.look pm L n m):=by
 simp only [Bd]
 cases s.look pm L n m with
 |none=>rfl
 |some o=>cases o<;>rfl
def kY(T:Tys):Option (TypeId×List D×Option (AA×Nat×Nat))→Option D
 |some (e,xs,_)=>if T.known e then some (.int .i64 (T.len e xs))else none
 |none=>none
theorem A0K(e:TypeId)(xs:List D)(o:Option (AA×Nat×Nat))(hk:T.known e=true):kY T (some (e,xs,o))=some (.int .i64 (T.len e xs)):=by simp [kY,hk]
def ln0(T:Tys)(pm:Pm)(s:St)(x:Operand)(d:D):Ty→Option D
 | .string=>match d with| .str b=>some (.int .i64 b.size)|_=>none
 | .slice _=>kY T (Bd pm s x d)
 |_=>none
theorem lnT(x:Operand)(d:D):Je T pm s t x d=ln0 T pm s x d (T.ty t):=by
 unfold Je ln0
 cases T.ty t with
 |slice e=>
  simp only
  cases Bd pm s x d with
  |none=>rfl
  |some q=>rfl
 |string=>cases d<;>rfl
 |_=>rfl
theorem A0L(x:Operand)(e:TypeId)(xs:List D):KC T pm s t x (.sl e xs)=Je T pm s t x (.sl e xs):=nr rfl
theorem rq(x:Operand)(e:TypeId)(xs:List D):KC T pm s t x (.own e xs)=Je T pm s t x (.own e xs):=nr rfl
def lnW(T:Tys)(pm:Pm)(s:St)(t:TypeId)(x:Operand)(L:AA)(n m:Nat):Ty→Option D
 | .map _ _=>(s.lookM pm L n).map fun q=> .int .i64 q.2.2.length
 |_=>Je T pm s t x (.vw L n m)
theorem A0N(x:Operand)(L:AA)(n m:Nat):KC T pm s t x (.vw L n m)=lnW T pm s t x L n m (T.ty t):=by
 show(match T.ty t with| .map _ _=>Rz T pm s t x (.vw L n m)|_=>Va T pm s t x (.vw L n m))=_
 unfold lnW Rz
 cases h:T.ty t<;>simp only [NM]<;>first|rfl|(cases s.lookM pm L n<;>rfl)
theorem A7p(T:Tys)(x:Operand)(L:AA)(n m:Nat)(k e:TypeId):lnW T pm s t x L n m (.map k e)=(s.lookM pm L n).map fun q=> .int .i64 q.2.2.length:=nr rfl
theorem A7q(T:Tys)(x:Operand)(L:AA)(n m:Nat)(e:TypeId):lnW T pm s t x L n m (.slice e)=Je T pm s t x (.vw L n m):=nr rfl
theorem ru(T:Tys)(x:Operand)(L:AA)(n m:Nat):lnW T pm s t x L n m .string=Je T pm s t x (.vw L n m):=nr rfl
def A0O:D→Option (TypeId×TypeId×List (List Int×List Int))
 | .mp k e es=>some (k,e,es)
 |_=>none
theorem A0P(k e:TypeId)(es:List (List Int×List Int)):A0O (.mp k e es)=some (k,e,es):=nr rfl
theorem ry(u n:Nat):s.lookM pm [u] n=if pm.rd u&&(s.k u==n)then A0O (s.v u)else none:=by
 simp only [St.lookM]
 split
 ·cases s.v u<;>rfl
 ·rfl
theorem rz(x:Operand)(b:ByteArray):KC T pm s t x (.str b)=Je T pm s t x (.str b):=nr rfl
theorem A0Q(x:Operand)(e:TypeId)(L:AA)(n m lo len:Nat):KC T pm s t x (.vs e L n m lo len)=jb len (T.ty t):=nr rfl
theorem A0R(len:Nat)(e:TypeId):jb len (.slice e)=some (.int .i64 len):=nr rfl
theorem A0S(x:Operand)(e:TypeId)(xs:List D)(i:D):NK T pm s t x (.sl e xs) i=Cr T pm s t x (.sl e xs) i:=nr rfl
theorem sD(x:Operand)(e:TypeId)(xs:List D)(i:D):NK T pm s t x (.own e xs) i=Cr T pm s t x (.own e xs) i:=nr rfl
theorem sG(x:Operand)(xs:List D)(i:D):NK T pm s t x (.box xs) i=Cr T pm s t x (.box xs) i:=nr rfl
theorem A0T(x:Operand)(L:AA)(n m:Nat)(i:D):NK T pm s t x (.vw L n m) i=Cr T pm s t x (.vw L n m) i:=nr rfl
def kZ(T:Tys)(e e1:TypeId)(L:AA)(va vb lo len:Nat)(n:Int):Option D→Option D
 |some (.own e2 xs)=>if e1=e∧e2=e∧T.known e=true∧T.size e=1∧0≤n∧n.toNat<len∧lo+len≤xs.length then some (.pe L (lo+n.toNat) va vb)else none
 |_=>none
def sI(T:Tys)(pm:Pm)(s:St)(e1:TypeId)(L:AA)(va vb lo len:Nat)(n:Int):Ty→Option D
 | .slice e=>kZ T e e1 L va vb lo len n (s.look pm L va vb)
 |_=>none
theorem A0U(x:Operand)(e:TypeId)(L:AA)(va vb lo len:Nat)(k:IntKind)(n:Int):NK T pm s t x (.vs e L va vb lo len) (.int k n)=sI T pm s e L va vb lo len n (T.ty t):=by
 show dH T pm s t e L va vb lo len (.int k n)=_
 unfold dH sI
 cases T.ty t with
 |slice e'=>
  simp only
  rcases s.look pm L va vb with _|d
  ·rfl
  ·cases d<;>rfl
 |_=>rfl
theorem A0V(e1:TypeId)(L:AA)(va vb lo len:Nat)(n:Int)(e:TypeId):sI T pm s e1 L va vb lo len n (.slice e)=kZ T e e1 L va vb lo len n (s.look pm L va vb):=nr rfl
theorem A0W(e:TypeId)(L:AA)(va vb lo len:Nat)(n:Int)(xs:List D)(hk:T.known e=true)(hz:T.size e=1)(h1:0≤n∧n.toNat<len)(h2:lo+len≤xs.length):kZ T e e L va vb lo len n (some (.own e xs))=some (.pe L (lo+n.toNat) va vb):=by
 unfold kZ
 dsimp only
 rw [if_pos ⟨rfl,rfl,hk,hz,h1.1,h1.2,h2⟩]
theorem A7r(x:Operand)(d:D)(e:TypeId):ln0 T pm s x d (.slice e)=kY T (Bd pm s x d):=nr rfl
theorem A0X(x:Operand)(b:ByteArray):ln0 T pm s x (.str b) .string=some (.int .i64 b.size):=nr rfl
theorem A0Y(e:TypeId)(xs:List D)(h:T.size e=1):T.len e xs=xs.length:=by simp [Tys.len,h]
def TW(T:Tys)(e:TypeId)(n:Int):Option (TypeId×List D×Option (AA×Nat×Nat))→Option D
 |some (e',xs,o)=>
  if e'=e∧T.known e=true∧0≤n∧n.toNat<T.len e xs then
   match o with
   |none=>some (.cptr ((xs.drop (n.toNat*T.size e)).take (T.size e)))
   |some (L,a,b)=>some (.pe L (n.toNat*T.size e) a b)
  else none
 |none=>none
def ix0(T:Tys)(pm:Pm)(s:St)(x:Operand)(d:D)(n:Int):Ty→Option D
 | .slice e=>TW T e n (Bd pm s x d)
 | .arr len e=>
  if 0≤n∧n.toNat<len∧T.known e=true∧T.size e=1 then
   match d with
   | .box _=>match x with| .tmp u=>some (.pe [u] n.toNat (s.k u) (s.m u))|_=>none
   | .vw L n1 m1=>match s.look pm L n1 m1 with|some (.box _)=>some (.pe L n.toNat n1 m1)|_=>none
   | .cptr xs=>some (.cptr (xs.drop n.toNat))
   |_=>none
  else none
 |_=>none
theorem A7s(u:Tmp)(xs:List D)(n:Int)(len:Nat)(e:TypeId)(hk:T.known e=true)(hz:T.size e=1)(hn:0≤n∧n.toNat<len):ix0 T pm s (.tmp u) (.box xs) n (.arr len e)=some (.pe [u] n.toNat (s.k u) (s.m u)):=by
 unfold ix0
 dsimp only
 rw [if_pos ⟨hn.1,hn.2,hk,hz⟩]
theorem ixT(x:Operand)(d:D)(k:IntKind)(n:Int):Cr T pm s t x d (.int k n)=ix0 T pm s x d n (T.ty t):=by
 unfold Cr ix0
 cases T.ty t with
 |slice e=>
  simp only
  cases Bd pm s x d with
  |none=>rfl
  |some q=>rfl
 |_=>rfl
theorem A7t(x:Operand)(d:D)(n:Int)(e:TypeId):ix0 T pm s x d n (.slice e)=TW T e n (Bd pm s x d):=nr rfl
theorem sJ(e:TypeId)(n:Int)(xs:List D)(hk:T.known e=true)(hz:T.size e=1)(hn:0≤n∧n.toNat<xs.length):TW T e n (some (e,xs,none))=some (.cptr [xs.getD n.toNat .undef]):=by
 simp only [TW,hk,hz,Tys.len,if_true]
 rw [if_pos ⟨trivial,trivial,hn.1,hn.2⟩,Nat.mul_one,List.drop_eq_getElem_cons hn.2,List.getD_eq_getElem?_getD,List.getElem?_eq_getElem hn.2];rfl
theorem kg(e:TypeId)(n:Int)(xs:List D)(L:AA)(a b:Nat)(hk:T.known e=true)(hz:T.size e=1)(hn:0≤n∧n.toNat<xs.length):TW T e n (some (e,xs,some (L,a,b)))=some (.pe L n.toNat a b):=by
 simp only [TW,hk,hz,Tys.len,if_true]
 rw [if_pos ⟨trivial,trivial,hn.1,hn.2⟩,Nat.mul_one]
end
section
variable {T:Tys} {pm:Pm} {s:St} {t:TypeId} (u:Tmp)
def Ry(pm:Pm)(s:St)(u:Tmp)(d:D):Option (D×St):=BQ pm (if d.hasObj then s.clr u else s) d
theorem A0a:take T pm s t (.tmp u)=Ry pm s u (s.v u):=nr rfl
theorem tkC(v:Value):take T pm s t (.const v)=match ev T s t (.const v)with|none=>none|some d=>BQ pm s d:=nr rfl
theorem A0b(k:IntKind)(n:Int):BQ pm s (.int k n)=some (.int k n,s):=by simp [BQ]
theorem sK(b:Bool):BQ pm s (.bool b)=some (.bool b,s):=by simp [BQ]
theorem A0c(b:ByteArray):BQ pm s (.str b)=some (.str b,s):=by simp [BQ]
theorem A7u(e:TypeId)(xs:List D):BQ pm s (.sl e xs)=some (.sl e xs,s):=by simp [BQ]
theorem A0d(e:TypeId)(xs:List D):BQ pm s (.own e xs)=some (.own e xs,s):=by simp [BQ]
theorem A0e(xs:List D):BQ pm s (.box xs)=some (.box xs,s):=by simp [BQ]
theorem A0f(f:FuncId)(xs:List D):BQ pm s (.clo f xs)=some (.clo f xs,s):=by simp [BQ]
theorem sM(xs:List D):BQ pm s (.cptr xs)=some (.cptr xs,s):=by simp [BQ]
theorem A7v(L:AA)(n m:Nat):BQ pm s (.vw L n m)=LB pm s L n m:=by simp [BQ]
def td1:Option (List D×St)→Option (D×St)
 |some r=>some (.agg r.1,r.2)
 |none=>none
theorem A7w(r:List D×St):td1 (some r)=some (.agg r.1,r.2):=nr rfl
theorem mX(xs:List D):BQ pm s (.agg xs)=td1 (Dt pm s xs):=by simp only [BQ];cases Dt pm s xs<;>rfl
def td2(pm:Pm)(ds:List D):Option (D×St)→Option (List D×St)
 |some r=>(Dt pm r.2 ds).map fun q=>(r.1::q.1,q.2)
 |none=>none
theorem A7x(ds:List D)(d:D):td2 pm ds (some (d,s))=(Dt pm s ds).map fun q=>(d::q.1,q.2):=nr rfl
theorem sN:Dt pm s []=some ([],s):=by simp [Dt]
theorem ko(d:D)(ds:List D):Dt pm s (d::ds)=td2 pm ds (BQ pm s d):=by simp only [Dt];cases BQ pm s d<;>rfl
theorem A0h(k:IntKind)(n:Int):Ry pm s u (.int k n)=some (.int k n,s):=by simp [Ry,BQ,D.hasObj]
theorem sO(b:Bool):Ry pm s u (.bool b)=some (.bool b,s):=by simp [Ry,BQ,D.hasObj]
theorem A0i(b:ByteArray):Ry pm s u (.str b)=some (.str b,s):=by simp [Ry,BQ,D.hasObj]
theorem A7y(e:TypeId)(xs:List D):Ry pm s u (.sl e xs)=some (.sl e xs,s):=by simp [Ry,BQ,D.hasObj]
theorem A0j(e:TypeId)(xs:List D):Ry pm s u (.own e xs)=some (.own e xs,s.clr u):=by simp [Ry,BQ,D.hasObj]
theorem A0k(xs:List D):Ry pm s u (.box xs)=some (.box xs,s.clr u):=by simp [Ry,BQ,D.hasObj]
theorem A0l(f:FuncId)(xs:List D):Ry pm s u (.clo f xs)=some (.clo f xs,s):=by simp [Ry,BQ,D.hasObj]
theorem sP(xs:List D):Ry pm s u (.cptr xs)=some (.cptr xs,s):=by simp [Ry,BQ,D.hasObj]
theorem A7z(L:AA)(n m:Nat):Ry pm s u (.vw L n m)=LB pm s L n m:=by simp [Ry,BQ,D.hasObj]
theorem A0m(xs:List D):Ry pm s u (.agg xs)=td1 (Dt pm (if AU xs then s.clr u else s) xs):=by
 simp only [Ry,D.hasObj];rw [mX];rfl
theorem sQ:AU []=false:=by simp [AU]
theorem kr(d:D)(ds:List D):AU (d::ds)=(d.hasObj||AU ds):=by simp [AU]
theorem A80(e:TypeId)(xs:List D):(D.sl e xs).hasObj=false:=by simp [D.hasObj]
theorem A0n(e:TypeId)(xs:List D):(D.own e xs).hasObj=true:=by simp [D.hasObj]
theorem A0o(xs:List D):(D.box xs).hasObj=true:=by simp [D.hasObj]
theorem A0p(f:FuncId)(xs:List D):(D.clo f xs).hasObj=false:=by simp [D.hasObj]
theorem sU(xs:List D):(D.cptr xs).hasObj=false:=by simp [D.hasObj]
theorem A81(L:AA)(n m:Nat):(D.vw L n m).hasObj=false:=by simp [D.hasObj]
theorem A82(L:AA)(c n m:Nat):(D.pe L c n m).hasObj=false:=by simp [D.hasObj]
theorem A0q:D.err.hasObj=false:=by simp [D.hasObj]
theorem hoK(v:Value):(D.konst v).hasObj=false:=by simp [D.hasObj]
theorem hoU:D.undef.hasObj=false:=by simp [D.hasObj]
theorem A0r(xs:List D):(D.agg xs).hasObj=AU xs:=by simp [D.hasObj]
theorem A0s(xs:List D):(D.tup xs).hasObj=AU xs:=by simp [D.hasObj]
def pl1(s:St)(r:Nat):Option D→Option (D×St)
 |some c=>some (c,s.set [r] .undef)
 |none=>none
theorem A84(r:Nat)(c:D):pl1 s r (some c)=some (c,s.set [r] .undef):=nr rfl
theorem A0t(r n m:Nat)(hw:pm.wr r=true):LB pm s [r] n m=pl1 s r (s.look pm [r] n m):=by
 unfold LB
 cases s.look pm [r] n m with
 |none=>rfl
 |some c=>simp [hw,St.get,pl1]
def xD(s:St)(L:AA)(o:Option D):Option D→Option (D×St)
 |some c=>match o with
  |some (.own _ _)=>(CZ c).map fun c'=>(c',s.set L c')
  |_=>some (c,s.set L .undef)
 |none=>none
theorem A85(L:AA)(xs:List D)(c:D):xD s L (some (.box xs)) (some c)=some (c,s.set L .undef):=nr rfl
theorem A86(L:AA)(xs:List D)(c:D):xD s L (some (.agg xs)) (some c)=some (c,s.set L .undef):=nr rfl
theorem A87(L:AA)(e:TypeId)(xs:List D)(c:D):xD s L (some (.own e xs)) (some c)=(CZ c).map fun c'=>(c',s.set L c'):=nr rfl
theorem A0u(u' c n m:Nat)(p:AA)(hw:pm.wr u'=true):LB pm s (u'::c::p) n m=xD s (u'::c::p) (s.get (u'::c::p).dropLast) (s.look pm (u'::c::p) n m):=by
 unfold LB
 cases s.look pm (u'::c::p) n m with
 |none=>rfl
 |some d=>simp only [List.headD_cons,hw,if_true,xD];rfl
theorem A88(r:Nat):s.get [r]=some (s.v r):=nr rfl
theorem A0v(d:D):BK d []=some d:=by cases d<;>rfl
theorem A0w(e:TypeId)(xs:List D)(c:Nat)(p:AA):BK (.own e xs) (c::p)=(xs[c]?).bind fun d=>BK d p:=nr rfl
theorem A0x(xs:List D)(c:Nat)(p:AA):BK (.box xs) (c::p)=(xs[c]?).bind fun d=>BK d p:=nr rfl
theorem A0y(xs:List D)(c:Nat)(p:AA):BK (.agg xs) (c::p)=(xs[c]?).bind fun d=>BK d p:=nr rfl
theorem A0z(d x:D):Ed d [] x=x:=by cases d<;>rfl
theorem A10(e:TypeId)(xs:List D)(c:Nat)(p:AA)(x:D):Ed (.own e xs) (c::p) x= .own e (xs.set c (Ed (xs.getD c .undef) p x)):=nr rfl
theorem A11(xs:List D)(c:Nat)(p:AA)(x:D):Ed (.box xs) (c::p) x= .box (xs.set c (Ed (xs.getD c .undef) p x)):=nr rfl
theorem A12(xs:List D)(c:Nat)(p:AA)(x:D):Ed (.agg xs) (c::p) x= .agg (xs.set c (Ed (xs.getD c .undef) p x)):=nr rfl
end
section
variable {T:Tys} {pm:Pm} {s:St} {t:TypeId}
def TY(T:Tys)(pm:Pm)(t:TypeId)(ax:Operand):Option (D×St)→Option St
 |none=>none
 |some (d,s1)=>
  match ev T s1 t ax with
  |none=>none
  |some ad=>
   match Ee pm s1 ax ad with
   |none=>none
   |some (L,c,o)=>
    if T.known t&&pm.wr (L.headD 0)&&d.asCells.all BX&&(T.size t==d.asCells.length)&&(T.isStruct t==d.isAgg)&&decide (c+T.size t≤o.cells.length)then
     let s2:=s1.set L (o.withCells (BR o.cells c d.asCells))
     some (if d.hasObj||AU o.cells then s2.bump (L.headD 0)else s2)
    else none
theorem sV(ax x:Operand):He T pm s t ax x=TY T pm t ax (take T pm s t x):=by
 unfold He EN TY
 rcases take T pm s t x with _|⟨d,s1⟩<;>rfl
theorem ku(ax:Operand)(q:Option (D×St)):EN T pm t ax q=TY T pm t ax q:=by
 unfold EN TY
 rcases q with _|⟨d,s1⟩<;>rfl
def sW(T:Tys)(pm:Pm)(s:St)(t:TypeId)(u:Tmp):D→Option (D×St)
 | .vw L n m=>Q4 pm s L n m
 |_=>take T pm s t (.tmp u)
theorem sZ(u:Tmp):Ih T pm s t (.tmp u)=sW T pm s t u (s.v u):=by
 unfold Ih
 simp only [ev]
 cases s.v u<;>rfl
def tm2(s:St)(L:AA):Option D→Option (D×St)
 |some c=>some (c,s.set L .undef)
 |none=>none
theorem A8A(u:Tmp)(L:AA)(n m:Nat)(hw:pm.wr (L.headD 0)=true):sW T pm s t u (.vw L n m)=tm2 s L (s.look pm L n m):=by
 show Q4 pm s L n m=_
 unfold Q4 tm2
 cases s.look pm L n m with
 |none=>rfl
 |some c=>simp only [hw,if_true]
theorem A8B(u:Tmp)(k:IntKind)(n:Int):sW T pm s t u (.int k n)=take T pm s t (.tmp u):=nr rfl
theorem su(u:Tmp)(e:TypeId)(xs:List D):sW T pm s t u (.own e xs)=take T pm s t (.tmp u):=nr rfl
theorem A8C(u:Tmp)(v:Value):sW T pm s t u (.konst v)=take T pm s t (.tmp u):=nr rfl
theorem A8D(u:Tmp):sW T pm s t u .undef=take T pm s t (.tmp u):=nr rfl
theorem sw(v:Value):Ih T pm s t (.const v)=take T pm s t (.const v):=by
 unfold Ih
 split
 ·rename_i L n m he
  simp only [ev,Ml]at he
  split at he<;>try (cases he;done)
  split at he<;>cases he
 ·rfl
theorem A13(u:Tmp)(e:TypeId)(xs:List D):sW T pm s t u (.sl e xs)=take T pm s t (.tmp u):=nr rfl
theorem A8E(L:AA)(c:D):tm2 s L (some c)=some (c,s.set L .undef):=nr rfl
def gF(s1:St)(L:AA)(c:Nat)(d:D):Option D→Option St
 |none=>none
 |some o=>if c<o.cells.length then(if d.hasObj||AU o.cells then some ((s1.set L (o.withCells (o.cells.set c d))).bump (L.headD 0))else some (s1.set L (o.withCells (o.cells.set c d))))else none
def mY(T:Tys)(pm:Pm)(t:TypeId)(u:Tmp)(d:D)(s:St):D→Option St
 | .pe L c n m=>if T.known t&& !T.isStruct t&&pm.wr (L.headD 0)&&BX d then gF s L c d (s.look pm L n m)else TY T pm t (.tmp u) (some (d,s))
 | .vw L n m=>if T.known t&& !T.isStruct t&&pm.wr (L.headD 0)&&BX d then gF s L 0 d (Ld s pm L n m)else TY T pm t (.tmp u) (some (d,s))
 | .box xs=>if T.known t&& !T.isStruct t&&pm.wr u&&BX d then gF s [u] 0 d (some (.box xs))else TY T pm t (.tmp u) (some (d,s))
 |_=>TY T pm t (.tmp u) (some (d,s))
theorem Le{d:D}(hd:BX d=true):d.asCells=[d]∧d.isAgg=false:=by
 cases d<;>first|exact⟨rfl,rfl⟩|(simp [BX]at hd)
theorem Ht{T:Tys}{t:TypeId}(hs:T.isStruct t=false):T.size t=1:=by
 unfold Tys.isStruct at hs
 unfold Tys.size
 cases hty:T.ty t<;>simp_all [Ty.isStruct,Ty.size]
theorem A8F(u:Tmp)(d:D)(_:d.isAgg=false):TY T pm t (.tmp u) (some (d,s))=mY T pm t u d s (s.v u):=by
 cases hv:s.v u<;>simp only [mY]
 case pe L c n m=>
  split
  ·rename_i hc
   simp only [Bool.and_eq_true,Bool.not_eq_true']at hc
   obtain⟨⟨⟨hk,hs⟩,hw⟩,hd⟩:=hc
   obtain⟨ha,hg⟩:=Le hd
   have hz:=Ht hs
   simp only [TY,ev,hv,Ee]
   cases s.look pm L n m with
   |none=>rfl
   |some o=>
    simp only [gF,hk,hw,ha,hz,hs,hg,List.all_cons,hd,List.all_nil,List.length_cons,List.length_nil,Bool.and_true,BR,beq_self_eq_true,Nat.zero_add]
    by_cases hc:c<o.cells.length
    ·have h1:c+1≤o.cells.length:=hc
     simp only [hc,h1,decide_true,Bool.and_true,if_true];split<;>first|rfl|(rename_i hq;simp only [hq];rfl)
    ·have h1: ¬c+1≤o.cells.length:=hc
     simp only [hc,h1,decide_false,Bool.and_false,Bool.false_eq_true,if_false]
  ·rfl
 case vw L n m=>
  split
  ·rename_i hc
   simp only [Bool.and_eq_true,Bool.not_eq_true']at hc
   obtain⟨⟨⟨hk,hs⟩,hw⟩,hd⟩:=hc
   obtain⟨ha,hg⟩:=Le hd
   have hz:=Ht hs
   simp only [TY,ev,hv,Ee,Ld]
   cases s.look pm L n m with
   |none=>rfl
   |some o=>
    cases o<;>try rfl
    rename_i xs
    simp only [gF,hk,hw,ha,hz,hs,hg,List.all_cons,hd,List.all_nil,List.length_cons,List.length_nil,Bool.and_true,BR,beq_self_eq_true,Nat.zero_add,D.cells]
    by_cases hc:0<xs.length
    ·have h1:1≤xs.length:=hc
     simp only [hc,h1,decide_true,Bool.and_true,if_true];split<;>first|rfl|(rename_i hq;simp only [hq];rfl)
    ·have h1: ¬1≤xs.length:=hc
     simp only [hc,h1,decide_false,Bool.and_false,Bool.false_eq_true,if_false]
  ·rfl
 case box xs=>
  split
  ·rename_i hc
   simp only [Bool.and_eq_true,Bool.not_eq_true']at hc
   obtain⟨⟨⟨hk,hs⟩,hw⟩,hd⟩:=hc
   obtain⟨ha,hg⟩:=Le hd
   have hz:=Ht hs
   simp only [TY,ev,hv,Ee]
   simp only [gF,hk,hw,ha,hz,hs,hg,List.all_cons,hd,List.all_nil,List.length_cons,List.length_nil,Bool.and_true,BR,beq_self_eq_true,Nat.zero_add,D.cells,List.headD_cons]
   by_cases hc:0<xs.length
   ·have h1:1≤xs.length:=hc
    simp only [hc,h1,decide_true,Bool.and_true,if_true];split<;>first|rfl|(rename_i hq;simp only [hq];rfl)
   ·have h1: ¬1≤xs.length:=hc
    simp only [hc,h1,decide_false,Bool.and_false,Bool.false_eq_true,if_false]
  ·rfl
theorem A8G(u:Tmp)(d:D)(L:AA)(c n m:Nat)(hk:T.known t=true)(hs:T.isStruct t=false)(hw:pm.wr (L.headD 0)=true)(hd:BX d=true):mY T pm t u d s (.pe L c n m)=gF s L c d (s.look pm L n m):=by
 simp [mY,hk,hs,hd];intro h;simp_all
theorem A8H(u:Tmp)(d:D)(L:AA)(n m:Nat)(hk:T.known t=true)(hs:T.isStruct t=false)(hw:pm.wr (L.headD 0)=true)(hd:BX d=true):mY T pm t u d s (.vw L n m)=gF s L 0 d (Ld s pm L n m):=by
 simp [mY,hk,hs,hd];intro h;simp_all
theorem A8I(u:Tmp)(d:D)(xs:List D)(hk:T.known t=true)(hs:T.isStruct t=false)(hw:pm.wr u=true)(hd:BX d=true):mY T pm t u d s (.box xs)=gF s [u] 0 d (some (.box xs)):=by
 simp [mY,hk,hs,hd];intro h;simp_all
def bx1:Option D→Option D
 |some (.box xs)=>some (.box xs)
 |_=>none
theorem bxA(L:AA)(n m:Nat):Ld s pm L n m=bx1 (s.look pm L n m):=by
 unfold Ld bx1
 cases s.look pm L n m with
 |none=>rfl
 |some o=>cases o<;>rfl
theorem A8K(xs:List D):bx1 (some (.box xs))=some (.box xs):=nr rfl
theorem hdC(a:Nat)(l:AA)(d:Nat):List.headD (a::l) d=a:=nr rfl
theorem A8L(L:AA)(c:Nat)(d o:D):gF s L c d (some o)=if c<o.cells.length then(if d.hasObj||AU o.cells then some ((s.set L (o.withCells (o.cells.set c d))).bump (L.headD 0))else some (s.set L (o.withCells (o.cells.set c d))))else none:=nr rfl
theorem A14(e:TypeId)(xs:List D):(D.own e xs).cells=xs:=nr rfl
theorem A15(xs:List D):(D.box xs).cells=xs:=nr rfl
theorem A16(e:TypeId)(xs ys:List D):(D.own e xs).withCells ys= .own e ys:=nr rfl
theorem A17(xs ys:List D):(D.box xs).withCells ys= .box ys:=nr rfl
theorem A18(k:IntKind)(n:Int):BX (.int k n)=true:=nr rfl
theorem tC(b:Bool):BX (.bool b)=true:=nr rfl
theorem A19(b:ByteArray):BX (.str b)=true:=nr rfl
theorem A8M(e:TypeId)(xs:List D):BX (.sl e xs)=true:=nr rfl
theorem A1A(e:TypeId)(xs:List D):BX (.own e xs)=true:=nr rfl
theorem A1B(xs:List D):BX (.box xs)=true:=nr rfl
theorem A1C(f:FuncId)(xs:List D):BX (.clo f xs)=true:=nr rfl
theorem tF(xs:List D):BX (.cptr xs)=true:=nr rfl
theorem ceS(L:AA)(c:Nat)(o:D):Lc s L c (some o)=(o.cells[c]?).bind fun x=>BO (Bc s L c x):=nr rfl
theorem A1D(L:AA)(c:Nat)(k:IntKind)(n:Int):BO (Bc s L c (.int k n))=some (.int k n):=nr rfl
theorem tH(L:AA)(c:Nat)(b:Bool):BO (Bc s L c (.bool b))=some (.bool b):=nr rfl
theorem A1E(L:AA)(c:Nat)(b:ByteArray):BO (Bc s L c (.str b))=some (.str b):=nr rfl
theorem A8N(L:AA)(c:Nat)(e:TypeId)(xs:List D):BO (Bc s L c (.sl e xs))=some (.sl e xs):=nr rfl
theorem A1F(L:AA)(c:Nat)(f:FuncId)(xs:List D):BO (Bc s L c (.clo f xs))=some (.clo f xs):=nr rfl
theorem tJ(L:AA)(c:Nat)(xs:List D):BO (Bc s L c (.cptr xs))=some (.cptr xs):=nr rfl
theorem A8O(L:AA)(c:Nat)(M:AA)(n m:Nat):BO (Bc s L c (.vw M n m))=some (.vw M n m):=nr rfl
theorem A1G(L:AA)(c:Nat)(e:TypeId)(xs:List D):BO (Bc s L c (.own e xs))=some (Xn s (L++[c])):=nr rfl
theorem A8P(r:Nat)(p:AA):Xn s (r::p)= .vw (r::p) (s.k r) (s.m r):=nr rfl
def ap1(T:Tys)(pm:Pm)(e:TypeId)(ty:TypeId)(y:Operand):Option (D×St)→Option (D×St)
 |some (.own e1 xs,s1)=>
   match ev T s1 ty y with
   |some d=>
    match Bd pm s1 y d with
    |some (e2,ys,_)=>
     if e1=e∧e2=e∧T.elem e=true∧ys.all BX=true∧xs.length+ys.length<1099511627776 then
      if AU ys then
       match d,y with
       | .own _ _, .tmp u=>some (.own e (xs++ys),s1.clr u)
       |_,_=>none
      else some (.own e (xs++ys),s1)
     else none
    |none=>none
   |none=>none
 |_=>none
def az1(T:Tys)(e:TypeId):Option (D×St)→Option (D×St)
 |some (.own e1 xs,s1)=>if e1=e∧T.known e=true then some (.own e xs,s1)else none
 |_=>none
def az0(T:Tys)(pm:Pm)(s:St)(ty:TypeId)(x:Operand):Ty→Option (D×St)
 | .slice e=>az1 T e (take T pm s ty x)
 |_=>none
theorem A1J(ty:TypeId)(x:Operand):JP T pm s ty x=az0 T pm s ty x (T.ty ty):=by
 unfold JP az0
 cases T.ty ty with
 |slice e=>
  simp only [az1]
  rcases take T pm s ty x with _|⟨d,s1⟩
  ·rfl
  ·cases d<;>rfl
 |_=>rfl
theorem Nq{T:Tys}{e:TypeId}(hk:T.known e=true)(h4:T.size e≤4):T.elem e=true:=by simp [Tys.elem,hk,h4]
theorem A8R(ty:TypeId)(x:Operand)(e:TypeId):az0 T pm s ty x (.slice e)=az1 T e (take T pm s ty x):=nr rfl
theorem A8S(e:TypeId)(xs:List D)(hk:T.known e=true):az1 T e (some (.own e xs,s))=some (.own e xs,s):=by simp [az1,hk]
def ap0(T:Tys)(pm:Pm)(s:St)(ty:TypeId)(x y:Operand):Ty→Option (D×St)
 | .slice e=>ap1 T pm e ty y (Ih T pm s ty x)
 |_=>none
theorem A8U(ty:TypeId)(x y:Operand):Ef T pm s ty x y=ap0 T pm s ty x y (T.ty ty):=by
 unfold Ef ap0
 cases T.ty ty with
 |slice e=>
  simp only [ap1]
  rcases Ih T pm s ty x with _|⟨d,s1⟩
  ·rfl
  ·cases d<;>rfl
 |_=>rfl
theorem A8V(ty:TypeId)(x y:Operand)(e:TypeId):ap0 T pm s ty x y (.slice e)=ap1 T pm e ty y (Ih T pm s ty x):=nr rfl
def xE(T:Tys)(e e1:TypeId)(xs:List D)(s:St)(u:Tmp)(d:D):Option (TypeId×List D×Option (AA×Nat×Nat))→Option (D×St)
 |some (e2,ys,_)=>
     if e1=e∧e2=e∧T.elem e=true∧ys.all BX=true∧xs.length+ys.length<1099511627776 then
      if AU ys then
       match d with
       | .own _ _=>some (.own e (xs++ys),s.clr u)
       |_=>none
      else some (.own e (xs++ys),s)
     else none
 |none=>none
theorem A8W(ty e e1:TypeId)(u:Tmp)(xs:List D):ap1 T pm e ty (.tmp u) (some (.own e1 xs,s))=xE T e e1 xs s u (s.v u) (Bd pm s (.tmp u) (s.v u)):=by
 simp only [ap1,ev,xE]
 rcases Bd pm s (.tmp u) (s.v u)with _|⟨e2,ys,o⟩
 ·rfl
 ·simp only
  split
  ·split
   ·cases s.v u<;>rfl
   ·rfl
  ·rfl
theorem A8X(e:TypeId)(u:Tmp)(xs ys:List D)(d:D)(o:Option (AA×Nat×Nat))(hk:T.known e=true)(h4:T.size e≤4)(hy:ys.all BX=true)(hno:AU ys=false)(hl:xs.length+ys.length<1099511627776):
  xE T e e xs s u d (some (e,ys,o))=some (.own e (xs++ys),s):=by
 simp only [xE]
 rw [if_pos ⟨trivial,trivial,Nq hk h4,hy,hl⟩,hno];simp
theorem A8Y(e e':TypeId)(u:Tmp)(xs ys zs:List D)(o:Option (AA×Nat×Nat))(hk:T.known e=true)(h4:T.size e≤4)(hy:ys.all BX=true)(hno:AU ys=true)(hl:xs.length+ys.length<1099511627776):
  xE T e e xs s u (.own e' zs) (some (e,ys,o))=some (.own e (xs++ys),s.clr u):=by
 simp only [xE]
 rw [if_pos ⟨trivial,trivial,Nq hk h4,hy,hl⟩,hno];simp
end
section
variable {E:Env} {pm:Pm} {s:St} {dst:Option Tmp}
def Wo(a:D)(l:List (AA×D)):Option (List D×List (AA×D))→Option (List D×List (AA×D))
 |some (as,ls)=>some (a::as,l++ls)
 |none=>none
theorem tK(a:D)(l:List (AA×D))(as:List D)(ls:List (AA×D)):Wo a l (some (as,ls))=some (a::as,l++ls):=nr rfl
def PU(E:Env)(lend:Bool)(pm:Pm)(s:St)(j:Nat)(rest:List (Operand×TypeId)):Option (D×List (AA×D))→Option (List D×List (AA×D))
 |some (a,l)=>Wo a l (Cs E lend pm s (j+l.length) rest)
 |none=>none
theorem tL(lend:Bool)(j:Nat)(rest:List (Operand×TypeId))(a:D)(l:List (AA×D)):PU E lend pm s j rest (some (a,l))=Wo a l (Cs E lend pm s (j+l.length) rest):=nr rfl
theorem A1K(lend:Bool)(j:Nat):Cs E lend pm s j []=some ([],[]):=nr rfl
theorem A1L(lend:Bool)(j:Nat)(u:Tmp)(t:TypeId)(rest:List (Operand×TypeId)):Cs E lend pm s j ((.tmp u,t)::rest)=PU E lend pm s j rest (IR E.T lend pm s j [u] (s.v u)):=by
 simp only [Cs,ev]
 rcases IR E.T lend pm s j [u] (s.v u)with _|⟨a,l⟩
 ·rfl
 ·simp only [PU];rcases Cs E lend pm s (j+l.length) rest with _|⟨as,ls⟩<;>rfl
def aC(E:Env)(lend:Bool)(pm:Pm)(s:St)(j:Nat)(rest:List (Operand×TypeId)):Option D→Option (List D×List (AA×D))
 |some d=>PU E lend pm s j rest (IR E.T lend pm s j [] d)
 |none=>none
theorem aCS(lend:Bool)(j:Nat)(rest:List (Operand×TypeId))(d:D):aC E lend pm s j rest (some d)=PU E lend pm s j rest (IR E.T lend pm s j [] d):=nr rfl
theorem arC(lend:Bool)(j:Nat)(v:Value)(t:TypeId)(rest:List (Operand×TypeId)):Cs E lend pm s j ((.const v,t)::rest)=aC E lend pm s j rest (ev E.T s t (.const v)):=by
 simp only [Cs]
 cases ev E.T s t (.const v)with
 |none=>rfl
 |some d=>
  simp only [aC]
  rcases IR E.T lend pm s j [] d with _|⟨a,l⟩
  ·rfl
  ·simp only [PU];rcases Cs E lend pm s (j+l.length) rest with _|⟨as,ls⟩<;>rfl
theorem arF(lend:Bool)(j:Nat)(f:FuncId)(t:TypeId)(rest:List (Operand×TypeId)):Cs E lend pm s j ((.func f,t)::rest)=PU E lend pm s j rest (IR E.T lend pm s j [] (.clo f [])):=by
 simp only [Cs,ev]
 rcases IR E.T lend pm s j [] (.clo f [])with _|⟨a,l⟩
 ·rfl
 ·simp only [PU];rcases Cs E lend pm s (j+l.length) rest with _|⟨as,ls⟩<;>rfl
variable (lend:Bool) (j:Nat) (L:AA)
theorem A1M(T:Tys)(k:IntKind)(n:Int):IR T lend pm s j L (.int k n)=Bv lend pm s j L (.int k n):=nr rfl
theorem tN(T:Tys)(b:Bool):IR T lend pm s j L (.bool b)=Bv lend pm s j L (.bool b):=nr rfl
theorem A1N(T:Tys)(b:ByteArray):IR T lend pm s j L (.str b)=Bv lend pm s j L (.str b):=nr rfl
theorem A8Z(T:Tys)(e:TypeId)(xs:List D):IR T lend pm s j L (.sl e xs)=Bv lend pm s j L (.sl e xs):=nr rfl
theorem A1O(T:Tys)(f:FuncId)(xs:List D):IR T lend pm s j L (.clo f xs)=Bv lend pm s j L (.clo f xs):=nr rfl
theorem tO(T:Tys)(xs:List D):IR T lend pm s j L (.cptr xs)=Bv lend pm s j L (.cptr xs):=nr rfl
theorem axK(T:Tys)(v:Value):IR T lend pm s j L (.konst v)=Bv lend pm s j L (.konst v):=nr rfl
theorem A1P(T:Tys)(e:TypeId)(xs:List D):IR T lend pm s j L (.own e xs)=Bv lend pm s j L (.own e xs):=nr rfl
theorem A1Q(T:Tys)(xs:List D):IR T lend pm s j L (.box xs)=Bv lend pm s j L (.box xs):=nr rfl
theorem A8a(T:Tys)(M:AA)(n m:Nat):IR T lend pm s j L (.vw M n m)=Bv lend pm s j L (.vw M n m):=nr rfl
theorem A1R(T:Tys)(xs:List D):IR T lend pm s j L (.agg xs)=Bv lend pm s j L (.agg xs):=nr rfl
theorem A1S(k:IntKind)(n:Int):Bv lend pm s j L (.int k n)=some (.int k n,[]):=nr rfl
theorem tQ(b:Bool):Bv lend pm s j L (.bool b)=some (.bool b,[]):=nr rfl
theorem A1T(b:ByteArray):Bv lend pm s j L (.str b)=some (.str b,[]):=nr rfl
theorem A8b(e:TypeId)(xs:List D):Bv lend pm s j L (.sl e xs)=some (.sl e xs,[]):=nr rfl
theorem A1U(f:FuncId)(xs:List D):Bv lend pm s j L (.clo f xs)=some (.clo f xs,[]):=nr rfl
theorem tT(xs:List D):Bv lend pm s j L (.cptr xs)=some (.cptr xs,[]):=nr rfl
theorem atK(v:Value):Bv lend pm s j L (.konst v)=some (.konst v,[]):=nr rfl
def fz1(l:List (AA×D)):Option D→Option (D×List (AA×D))
 |some c=>some (c,l)
 |none=>none
theorem A8c(l:List (AA×D))(c:D):fz1 l (some c)=some (c,l):=nr rfl
theorem A1W(e:TypeId)(xs:List D):Bv false pm s j L (.own e xs)=fz1 [(L, .own e xs)] (CZ (.own e xs)):=by
 show((CZ (.own e xs)).map fun c'=>(c',[(L,D.own e xs)]))=_
 cases CZ (.own e xs)<;>rfl
theorem A1X(xs:List D):Bv false pm s j L (.box xs)=fz1 [(L, .box xs)] (CZ (.box xs)):=by
 show((CZ (.box xs)).map fun c'=>(c',[(L,D.box xs)]))=_
 cases CZ (.box xs)<;>rfl
def fz2(L:AA):Option D→Option (D×List (AA×D))
 |some c=>fz1 [(L,c)] (CZ c)
 |none=>none
theorem A8e(c:D):fz2 L (some c)=fz1 [(L,c)] (CZ c):=nr rfl
theorem A8f(M:AA)(n m:Nat):Bv false pm s j L (.vw M n m)=fz2 M (s.look pm M n m):=by
 simp only [Bv,EE]
 cases s.look pm M n m with
 |none=>rfl
 |some c=>simp only [fz2];cases CZ c<;>rfl
theorem tV(e:TypeId)(xs:List D):Bv true pm s j L (.own e xs)=some (.vw [G+j] 0 0,[(L, .own e xs)]):=nr rfl
theorem tX(xs:List D):Bv true pm s j L (.box xs)=some (.vw [G+j] 0 0,[(L, .box xs)]):=nr rfl
def ln2(j:Nat)(L:AA):Option D→Option (D×List (AA×D))
 |some c=>some (.vw [G+j] 0 0,[(L,c)])
 |none=>none
theorem A8g(c:D):ln2 j L (some c)=some (.vw [G+j] 0 0,[(L,c)]):=nr rfl
theorem A1Y(M:AA)(n m:Nat):Bv true pm s j L (.vw M n m)=ln2 j M (s.look pm M n m):=by
 simp only [Bv,EE]
 cases s.look pm M n m<;>rfl
def ag1:Option (List D×List (AA×D))→Option (D×List (AA×D))
 |some r=>some (.agg r.1,r.2)
 |none=>none
theorem A8h(r:List D×List (AA×D)):ag1 (some r)=some (.agg r.1,r.2):=nr rfl
theorem A1Z(xs:List D):Bv lend pm s j L (.agg xs)=ag1 (Db lend pm s L j 0 xs):=by
 simp only [Bv]
 cases Db lend pm s L j 0 xs<;>rfl
def gG(lend:Bool)(pm:Pm)(s:St)(L0:AA)(j i:Nat)(ds:List D):Option (D×List (AA×D))→Option (List D×List (AA×D))
 |some (a,l)=>Wo a l (Db lend pm s L0 (j+l.length) (i+1) ds)
 |none=>none
theorem tY(i:Nat)(ds:List D)(a:D)(l:List (AA×D)):gG lend pm s L j i ds (some (a,l))=Wo a l (Db lend pm s L (j+l.length) (i+1) ds):=nr rfl
theorem A1a(i:Nat):Db lend pm s L j i []=some ([],[]):=nr rfl
theorem tZ(i:Nat)(d:D)(ds:List D)(h:d.isAgg=false):Db lend pm s L j i (d::ds)=gG lend pm s L j i ds (Bv lend pm s j (L++[i]) d):=by
 have:Bv lend pm s j (L++[i]) d=EE lend pm s j (L++[i]) d:=by cases d<;>first|rfl|(simp [D.isAgg]at h)
 rw [this]
 simp only [Db]
 rcases EE lend pm s j (L++[i]) d with _|⟨a,l⟩
 ·rfl
 ·simp only [gG];rcases Db lend pm s L (j+l.length) (i+1) ds with _|⟨as,ls⟩<;>rfl
theorem A1b(k:IntKind)(n:Int):(D.int k n).isAgg=false:=nr rfl
theorem tq(b:Bool):(D.bool b).isAgg=false:=nr rfl
theorem A1c(b:ByteArray):(D.str b).isAgg=false:=nr rfl
theorem A8i(e:TypeId)(xs:List D):(D.sl e xs).isAgg=false:=nr rfl
theorem A1d(e:TypeId)(xs:List D):(D.own e xs).isAgg=false:=nr rfl
theorem A8j(M:AA)(n m:Nat):(D.vw M n m).isAgg=false:=nr rfl
theorem A1e(f:FuncId)(xs:List D):(D.clo f xs).isAgg=false:=nr rfl
theorem A1f(xs:List D):(D.box xs).isAgg=false:=nr rfl
theorem tu(xs:List D):(D.cptr xs).isAgg=false:=nr rfl
theorem A1g(xs:List D):(D.agg xs).isAgg=true:=nr rfl
def cb1(E:Env)(pm:Pm)(s:St)(dst:Option Tmp)(f:FuncId)(caps:List D):Option (List D×List (AA×D))→Option St
 |none=>none
 |some (as,ls)=>
  match E.call f (as++caps) []with
  |some (r,_)=>
   if CG r then
    if Di (ls.map (·.1))&&ls.all (fun l=>pm.wr (l.1.headD 0))then(GX ls).map fun ls'=>(back false s ls').putO dst r else none
   else some (s.putO dst r)
  |none=>none
theorem cdB(f:FuncId)(xs:List (Operand×TypeId))(caps:List D)(h:E.lends f=false):F8 E pm s dst f xs caps=cb1 E pm s dst f caps (Cs E false pm s 0 xs):=by
 unfold F8 cb1
 rw [h]
 simp only [Bool.false_eq_true,if_false]
 rcases Cs E false pm s 0 xs with _|⟨as,ls⟩<;>rfl
def u6(pm:Pm)(s:St)(dst:Option Tmp)(ls:List (AA×D)):Option (D×List D)→Option St
 |some (r,_)=>
   if CG r then
    if Di (ls.map (·.1))&&ls.all (fun l=>pm.wr (l.1.headD 0))then(GX ls).map fun ls'=>(back false s ls').putO dst r else none
   else some (s.putO dst r)
 |none=>none
theorem A8k(f:FuncId)(caps as:List D)(ls:List (AA×D)):cb1 E pm s dst f caps (some (as,ls))=u6 pm s dst ls (E.call f (as++caps) []):=by
 simp only [cb1]
 rcases E.call f (as++caps) []with _|⟨r,o⟩<;>rfl
theorem A8l(ls:List (AA×D))(r:D)(o:List D)(h:CG r=false):u6 pm s dst ls (some (r,o))=some (s.putO dst r):=by simp [u6,h]
theorem A8m(r:D)(o:List D):u6 pm s dst [] (some (r,o))=some (s.putO dst r):=by
 simp only [u6];split<;>rfl
def cl1(E:Env)(pm:Pm)(s:St)(dst:Option Tmp)(f:FuncId)(caps:List D):Option (List D×List (AA×D))→Option St
 |none=>none
 |some (as,ls)=>
   if Di (ls.map (·.1))&&ls.all (fun l=>pm.wr (l.1.headD 0))&&ls.all (fun l=>U5 l.2)then
    match E.call f (as++caps) (ls.map (·.2))with
    |some (r,outs)=>if outs.length=ls.length then some ((Ij s (ls.map (·.1)) outs).putO dst r)else none
    |none=>none
   else none
theorem cdL(f:FuncId)(xs:List (Operand×TypeId))(caps:List D)(h:E.lends f=true):F8 E pm s dst f xs caps=cl1 E pm s dst f caps (Cs E true pm s 0 xs):=by
 unfold F8 cl1
 rw [h]
 simp only [if_true]
 rcases Cs E true pm s 0 xs with _|⟨as,ls⟩<;>rfl
def xF(s:St)(dst:Option Tmp)(ls:List (AA×D)):Option (D×List D)→Option St
 |some (r,outs)=>if outs.length=ls.length then some ((Ij s (ls.map (·.1)) outs).putO dst r)else none
 |none=>none
theorem A8n(f:FuncId)(caps as:List D)(ls:List (AA×D))(h:(Di (ls.map (·.1))&&ls.all (fun l=>pm.wr (l.1.headD 0))&&ls.all (fun l=>U5 l.2))=true):cl1 E pm s dst f caps (some (as,ls))=xF s dst ls (E.call f (as++caps) (ls.map (·.2))):=by
 simp only [cl1,h,if_true]
 rcases E.call f (as++caps) (ls.map (·.2))with _|⟨r,o⟩<;>rfl
theorem A8o(ls:List (AA×D))(r:D)(outs:List D)(h:outs.length=ls.length):xF s dst ls (some (r,outs))=some ((Ij s (ls.map (·.1)) outs).putO dst r):=by simp [xF,h]
end
theorem A1h(k:IntKind)(n:Int):CG (.int k n)=false:=by simp [CG]
theorem u7(b:Bool):CG (.bool b)=false:=by simp [CG]
theorem A1i(b:ByteArray):CG (.str b)=false:=by simp [CG]
theorem mZ(e:TypeId)(xs:List D):CG (.own e xs)=CJ xs:=by simp [CG]
theorem A1j(xs:List D):CG (.box xs)=CJ xs:=by simp [CG]
theorem A1k(xs:List D):CG (.agg xs)=CJ xs:=by simp [CG]
theorem A1l(xs:List D):CG (.tup xs)=CJ xs:=by simp [CG]
theorem uA:CJ []=false:=by simp [CJ]
theorem Zi(d:D)(ds:List D):CJ (d::ds)=(CG d||CJ ds):=by simp [CJ]
theorem A1m(k:IntKind)(n:Int):CZ (.int k n)=some (.int k n):=by simp [CZ]
theorem uB(b:Bool):CZ (.bool b)=some (.bool b):=by simp [CZ]
theorem A1n(b:ByteArray):CZ (.str b)=some (.str b):=by simp [CZ]
theorem A1o(e:TypeId)(xs:List D):CZ (.sl e xs)=some (.sl e xs):=by simp [CZ]
theorem A1p(f:FuncId)(xs:List D):CZ (.clo f xs)=some (.clo f xs):=by simp [CZ]
theorem uC(xs:List D):CZ (.cptr xs)=some (.cptr xs):=by simp [CZ]
def fzM(f:List D→D):Option (List D)→Option D
 |some xs=>some (f xs)
 |none=>none
theorem A1r(f:List D→D)(xs:List D):fzM f (some xs)=some (f xs):=nr rfl
theorem ma(e:TypeId)(xs:List D):CZ (.own e xs)=fzM (.sl e) (Bz xs):=by simp only [CZ];cases Bz xs<;>rfl
theorem A1s(xs:List D):CZ (.box xs)=fzM .cptr (Bz xs):=by simp only [CZ];cases Bz xs<;>rfl
theorem A1t(xs:List D):CZ (.agg xs)=fzM .agg (Bz xs):=by simp only [CZ];cases Bz xs<;>rfl
theorem A1u(xs:List D):CZ (.tup xs)=fzM .tup (Bz xs):=by simp only [CZ];cases Bz xs<;>rfl
theorem uD:Bz []=some []:=by simp [Bz]
def fzC:Option D→Option (List D)→Option (List D)
 |some d,some ds=>some (d::ds)
 |_,_=>none
theorem A8p(d:D)(ds:List D):fzC (some d) (some ds)=some (d::ds):=nr rfl
theorem Uh(d:D)(ds:List D):Bz (d::ds)=fzC (CZ d) (Bz ds):=by
 simp only [Bz];cases CZ d<;>cases Bz ds<;>rfl
theorem A8q(d:D):U5 d=(CZ d).isSome:=nr rfl
section
variable {T:Tys} {s:St}
def dG(n:Nat):Option (D×St)→Option (D×List D)
 |none=>none
 |some (r,s')=>if U5 r&&((List.range n).map fun j=>s'.v (G+j)).all U6 then some (r,(List.range n).map fun j=>s'.v (G+j))else none
theorem fiD(n:Nat)(rs:List ResultVar):SA T n rs s=dG n (Jf T s rs):=by
 unfold SA dG
 rcases Jf T s rs with _|⟨r,s'⟩<;>rfl
theorem fi0(r:D):dG 0 (some (r,s))=if U5 r then some (r,[])else none:=by simp [dG]
theorem fiA(r:D):dG 1 (some (r,s))=if U5 r&&U6 (s.v 100000)then some (r,[s.v 100000])else none:=by
 simp [dG,G,List.range_succ]
theorem fiB(r:D):dG 2 (some (r,s))=if U5 r&&(U6 (s.v 100000)&&U6 (s.v 100001))then some (r,[s.v 100000,s.v 100001])else none:=by
 simp [dG,G,List.range_succ,and_assoc]
theorem fiC(r:D):dG 3 (some (r,s))=if U5 r&&(U6 (s.v 100000)&&(U6 (s.v 100001)&&U6 (s.v 100002)))then some (r,[s.v 100000,s.v 100001,s.v 100002])else none:=by
 simp [dG,G,List.range_succ,and_assoc]
theorem fiE(r:D):dG 4 (some (r,s))=if U5 r&&(U6 (s.v 100000)&&(U6 (s.v 100001)&&(U6 (s.v 100002)&&U6 (s.v 100003))))then some (r,[s.v 100000,s.v 100001,s.v 100002,s.v 100003])else none:=by
 simp [dG,G,List.range_succ,and_assoc]
theorem uE(e:TypeId)(xs:List D):U6 (.own e xs)=(CZ (.own e xs)).isSome:=nr rfl
theorem uF(xs:List D):U6 (.box xs)=(CZ (.box xs)).isSome:=nr rfl
theorem A8r:U6 .undef=true:=nr rfl
theorem A1v(e:TypeId)(xs:List D):U6 (.sl e xs)=true:=by simp [U6,CZ]
theorem re1(r:ResultVar):Jf T s [r]=QF T s r:=nr rfl
def reT:Option (List D×St)→Option (D×St)
 |some q=>some (.tup q.1,q.2)
 |none=>none
theorem A8s(q:List D×St):reT (some q)=some (.tup q.1,q.2):=nr rfl
theorem re2(r r':ResultVar)(rs:List ResultVar):Jf T s (r::r'::rs)=reT (KE T s (r::r'::rs)):=by
 show((KE T s (r::r'::rs)).map fun q=>(D.tup q.1,q.2))=_
 cases KE T s (r::r'::rs)<;>rfl
theorem re0:Jf T s []=some (.tup [],s):=nr rfl
theorem A1w(t:Tmp):QF T s (.tmp t)=Ry Pm.all s t (s.v t):=nr rfl
theorem A1x:KE T s []=some ([],s):=nr rfl
def rdN(T:Tys)(rs:List ResultVar):Option (D×St)→Option (List D×St)
 |some (d,s)=>(KE T s rs).map fun p=>(d::p.1,p.2)
 |none=>none
theorem A8t(rs:List ResultVar)(d:D):rdN T rs (some (d,s))=(KE T s rs).map fun p=>(d::p.1,p.2):=nr rfl
theorem uG(r:ResultVar)(rs:List ResultVar):KE T s (r::rs)=rdN T rs (QF T s r):=by
 simp only [KE]
 rcases QF T s r with _|⟨d,s'⟩<;>rfl
theorem A8u(r:Nat):Pm.all.rd r=true:=nr rfl
theorem A8v(r:Nat):Pm.all.wr r=true:=nr rfl
def PM(s:St)(dst:Option Tmp)(u:Tmp)(i:Nat):Option D→Option St
 |none=>none
 |some (.agg ys)=>FN s dst (BO (.agg ((List.range ys.length).map fun j=>Bc s [u,i] j (ys.getD j .undef))))
 |some c=>FN s dst (BO (Bc s [u] i c))
theorem A1y(dst:Option Tmp)(u:Tmp)(xs:List D)(i:Nat):GG s dst (.tmp u) (.tup xs) i=PM s dst u i xs[i]? :=by
 simp only [GG]
 rcases xs[i]? with _|c
 ·rfl
 ·cases c<;>first|exact FO s dst _|rfl
theorem A1z(dst:Option Tmp)(u:Tmp)(i:Nat)(ys:List D):PM s dst u i (some (.agg ys))=FN s dst (BO (.agg ((List.range ys.length).map fun j=>Bc s [u,i] j (ys.getD j .undef)))):=nr rfl
theorem A20(dst:Option Tmp)(u:Tmp)(i:Nat)(k:IntKind)(n:Int):PM s dst u i (some (.int k n))=some (s.putO dst (.int k n)):=by simp [PM,BO,Bc,D.hasObj,FN]
theorem uH(dst:Option Tmp)(u:Tmp)(i:Nat)(b:Bool):PM s dst u i (some (.bool b))=some (s.putO dst (.bool b)):=by simp [PM,BO,Bc,D.hasObj,FN]
theorem A21(dst:Option Tmp)(u:Tmp)(i:Nat)(b:ByteArray):PM s dst u i (some (.str b))=some (s.putO dst (.str b)):=by simp [PM,BO,Bc,D.hasObj,FN]
theorem A8w(dst:Option Tmp)(u:Tmp)(i:Nat)(e:TypeId)(xs:List D):PM s dst u i (some (.sl e xs))=some (s.putO dst (.sl e xs)):=by simp [PM,BO,Bc,D.hasObj,FN]
theorem A22(dst:Option Tmp)(u:Tmp)(i:Nat)(e:TypeId)(xs:List D):PM s dst u i (some (.own e xs))=some (s.putO dst (.vw [u,i] (s.k u) (s.m u))):=by simp [PM,BO,Bc,D.hasObj,FN,Xn]
theorem A23(dst:Option Tmp)(u:Tmp)(i:Nat)(f:FuncId)(xs:List D):PM s dst u i (some (.clo f xs))=some (s.putO dst (.clo f xs)):=by simp [PM,BO,Bc,D.hasObj,FN]
theorem A8x(dst:Option Tmp)(u:Tmp)(i:Nat):PM s dst u i (some (.konst .nilIface))=some (s.putO dst (.konst .nilIface)):=by simp [PM,BO,Bc,D.hasObj,FN]
theorem A24(dst:Option Tmp)(u:Tmp)(i:Nat):PM s dst u i (some .err)=some (s.putO dst .err):=by simp [PM,BO,Bc,D.hasObj,FN]
theorem A25(xs:List D)(c:Nat)(p:AA):BK (.tup xs) (c::p)=(xs[c]?).bind fun d=>BK d p:=nr rfl
theorem A26(xs:List D)(c:Nat)(p:AA)(x:D):Ed (.tup xs) (c::p) x= .tup (xs.set c (Ed (xs.getD c .undef) p x)):=nr rfl
theorem A8y(L:AA)(xs:List D)(c:D):xD s L (some (.tup xs)) (some c)=some (c,s.set L .undef):=nr rfl
theorem A27(deep:Bool):back deep s []=s:=nr rfl
theorem bkT(t:Nat)(p:AA)(c:D)(rest:List (AA×D)):back true s ((t::p,c)::rest)=back true ((s.set (t::p) c).bump t) rest:=nr rfl
theorem bkF(t:Nat)(p:AA)(c:D)(rest:List (AA×D)):back false s ((t::p,c)::rest)=back false (s.set (t::p) c) rest:=nr rfl
theorem bkE(deep:Bool)(c:D)(rest:List (AA×D)):back deep s (([],c)::rest)=back deep s rest:=nr rfl
theorem bkL(Ls:List AA)(outs:List D):Ij s Ls outs=back true (back false s (Ls.map fun L=>(L, .undef))) (Ls.zip outs):=nr rfl
theorem A28:Di []=true:=nr rfl
theorem uI(L:AA)(Ls:List AA):Di (L::Ls)=((L.isEmpty||Ls.all fun M=>M.isEmpty||(!L.isPrefixOf M&& !M.isPrefixOf L))&&Di Ls):=nr rfl
theorem ipC(a b:Nat)(l m:AA):List.isPrefixOf (a::l) (b::m)=(a==b&&List.isPrefixOf l m):=nr rfl
theorem ipN(l:AA):List.isPrefixOf [] l=true:=by cases l<;>rfl
theorem ipE(a:Nat)(l:AA):List.isPrefixOf (a::l) []=false:=nr rfl
theorem ieC(a:Nat)(l:AA):List.isEmpty (a::l)=false:=nr rfl
theorem ieN:List.isEmpty ([]:AA)=true:=nr rfl
end
section
variable {T:Tys} {pm:Pm} {s:St}
def fl1(T:Tys)(pm:Pm)(tf:Nat→TypeId)(sz:Nat)(cs:List D)(i:Nat)(rest:List (Nat×Operand)):Option (D×St)→Option (List D×St)
 |none=>none
 |some (d,s1)=>if d.asCells.length=sz∧i*sz+sz≤cs.length then Eg T pm tf sz s1 (BR cs (i*sz) d.asCells) rest else none
theorem A29(tf:Nat→TypeId)(sz:Nat)(cs:List D):Eg T pm tf sz s cs []=some (cs,s):=nr rfl
theorem uJ(tf:Nat→TypeId)(sz:Nat)(cs:List D)(i:Nat)(x:Operand)(rest:List (Nat×Operand)):Eg T pm tf sz s cs ((i,x)::rest)=fl1 T pm tf sz cs i rest (take T pm s (tf i) x):=by
 simp only [Eg]
 rcases take T pm s (tf i) x with _|⟨d,s1⟩<;>rfl
theorem A90(tf:Nat→TypeId)(cs:List D)(i:Nat)(rest:List (Nat×Operand))(d:D)(h:d.isAgg=false):fl1 T pm tf 1 cs i rest (some (d,s))=if i+1≤cs.length then Eg T pm tf 1 s (cs.set i d) rest else none:=by
 have ha:d.asCells=[d]:=by cases d<;>first|rfl|(simp [D.isAgg]at h)
 simp only [fl1,ha,List.length_cons,List.length_nil,Nat.zero_add,Nat.mul_one,true_and,BR]
end
section
variable (pm:Pm) (s:St) (u:Tmp)
def N8(pm:Pm)(u:Tmp)(d:D):Bool:= !d.hasObj||d.isObj||pm.wr u
theorem mvT:EH pm s (.move (.tmp u))=N8 pm u (s.v u):=nr rfl
theorem A91(v:Value):EH pm s (.move (.const v))=true:=nr rfl
theorem A92(f:FuncId):EH pm s (.move (.func f))=true:=nr rfl
theorem uK(k:IntKind)(n:Int):N8 pm u (.int k n)=true:=by simp [N8,D.hasObj]
theorem kv(b:Bool):N8 pm u (.bool b)=true:=by simp [N8,D.hasObj]
theorem uL(b:ByteArray):N8 pm u (.str b)=true:=by simp [N8,D.hasObj]
theorem A2A(e:TypeId)(xs:List D):N8 pm u (.sl e xs)=true:=by simp [N8,D.hasObj]
theorem uM(e:TypeId)(xs:List D):N8 pm u (.own e xs)=true:=by simp [N8,D.isObj]
theorem uN(xs:List D):N8 pm u (.box xs)=true:=by simp [N8,D.isObj]
theorem A2B(L:AA)(n m:Nat):N8 pm u (.vw L n m)=true:=by simp [N8,D.hasObj]
theorem A2C(L:AA)(c n m:Nat):N8 pm u (.pe L c n m)=true:=by simp [N8,D.hasObj]
theorem A93(v:Value):N8 pm u (.konst v)=true:=by simp [N8,D.hasObj]
theorem uO:N8 pm u .err=true:=by simp [N8,D.hasObj]
theorem uP(f:FuncId)(xs:List D):N8 pm u (.clo f xs)=true:=by simp [N8,D.hasObj]
theorem kw(xs:List D):N8 pm u (.cptr xs)=true:=by simp [N8,D.hasObj]
theorem uQ(xs:List D):N8 pm u (.agg xs)=(!AU xs||pm.wr u):=by simp [N8,D.hasObj,D.isObj]
theorem uR(xs:List D):N8 pm u (.tup xs)=(!AU xs||pm.wr u):=by simp [N8,D.hasObj,D.isObj]
theorem gH(x:Operand):EH pm s (.assign x)=true:=nr rfl
theorem uS(a b c:Operand):EH pm s (.pick a b c)=true:=nr rfl
theorem ky(t:TypeId):EH pm s (.alloc t)=true:=nr rfl
theorem A2D(t:TypeId)(x:Operand):EH pm s (.box t x)=true:=nr rfl
theorem kz(t:TypeId)(p:Array (Nat×Operand)):EH pm s (.build t p)=true:=nr rfl
theorem A94(t:TypeId)(n:Nat)(p:Array (Nat×Operand)):EH pm s (.buildSlice t n p)=true:=nr rfl
theorem uT(t:TypeId)(x:Operand):EH pm s (.load t x)=true:=nr rfl
theorem l5(t:TypeId)(x y:Operand):EH pm s (.store t x y)=true:=nr rfl
theorem A2E(o:BinOp)(t:TypeId)(x y:Operand)(t':TypeId):EH pm s (.binOp o t x y t')=true:=nr rfl
theorem A95(o:UnOp)(t:TypeId)(x:Operand):EH pm s (.unOp o t x)=true:=nr rfl
theorem uU(t t':TypeId)(x:Operand):EH pm s (.convert t t' x)=true:=nr rfl
theorem A2F(t:TypeId)(x i:Operand):EH pm s (.index t x i)=true:=nr rfl
theorem A96(f:Fn)(a b:Array Operand):EH pm s (.makeFunc f a b)=true:=nr rfl
theorem A97(t:TypeId)(a b:Operand):EH pm s (.makeSlice t a b)=true:=nr rfl
theorem A98(t:TypeId)(x:Operand)(a b c:Option Operand):EH pm s (.slice t x a b c)=true:=nr rfl
theorem A99(x:Operand):EH pm s (.nilCheck x)=true:=nr rfl
theorem A9A(t:TypeId)(x i:Operand)(ok:Bool):EH pm s (.lookup t x i ok)=true:=nr rfl
theorem A9B(t:TypeId)(r:Option Operand):EH pm s (.makeMap t r)=true:=nr rfl
theorem A9C(t:TypeId)(x i v:Operand):EH pm s (.mapUpdate t x i v)=true:=nr rfl
theorem A9D(t:TypeId)(x:Operand)(i:Nat):EH pm s (.fieldAddr t x i)=true:=nr rfl
theorem A9E(t:TypeId)(x i:Operand):EH pm s (.indexAddr t x i)=true:=nr rfl
theorem A9F(x:Operand)(i:Nat):EH pm s (.extract x i)=true:=nr rfl
theorem uV(c:Call):EH pm s (.call c)=true:=nr rfl
theorem pmR(n r w:List Nat)(x:Nat):(PmL.pm ⟨n,r,w⟩).rd x=(n.contains x|| !r.contains x):=nr rfl
theorem pmW(n r w:List Nat)(x:Nat):(PmL.pm ⟨n,r,w⟩).wr x=w.contains x:=nr rfl
section
variable {E:Env} {dst:Option Tmp} {t ty:TypeId}
theorem A9G(t:TypeId):IK E pm s dst (.makeMap t none) ty=FN s dst (JG E.T t):=FO s dst _
theorem yLk(v:Tmp)(ok:Bool):IK E pm s dst (.lookup t (.tmp u) (.tmp v) ok) ty=FN s dst (Fp E.T pm s t (.tmp u) (s.v u) (s.v v) ok):=FO s dst _
theorem yMu(v x:Tmp):IK E pm s none (.mapUpdate t (.tmp u) (.tmp v) (.tmp x)) ty=Ff E.T pm s t (.tmp u) (s.v u) (s.v v) (s.v x):=nr rfl
def muC(T:Tys)(pm:Pm)(s:St)(t:TypeId)(u:Tmp)(d i:D):Option D→Option St
 |some v=>Ff T pm s t (.tmp u) d i v
 |none=>none
theorem A9H(T:Tys)(d i v:D):muC T pm s t u d i (some v)=Ff T pm s t (.tmp u) d i v:=nr rfl
theorem A9I(v:Tmp)(x:Value):IK E pm s none (.mapUpdate t (.tmp u) (.tmp v) (.const x)) ty=muC E.T pm s t u (s.v u) (s.v v) (ev E.T s (Q9 E.T t) (.const x)):=by
 show(match some (s.v u),some (s.v v),ev E.T s (Q9 E.T t) (.const x)with|some a,some b,some c=>Ff E.T pm s t (.tmp u) a b c|_,_,_=>none)=_
 cases ev E.T s (Q9 E.T t) (.const x)<;>rfl
def mv0:Ty→TypeId
 | .map _ e=>e
 |_=>0
theorem l6(T:Tys)(t:TypeId):Q9 T t=mv0 (T.ty t):=nr rfl
theorem A9J(k e:TypeId):mv0 (.map k e)=e:=nr rfl
def nm1:Ty→Ty→Option (List (Nat×TypeId))→Option (Bool×Nat)
 | .int .i64, .int .i64,none=>some (true,2)
 |_,_,_=>none
theorem A9K:nm1 (.int .i64) (.int .i64) none=some (true,2):=nr rfl
def nmA(n:Nat):Ty→Option (Bool×Nat)
 | .int .i64=>some (true,n)
 |_=>none
theorem A9L(n:Nat):nmA n (.int .i64)=some (true,n):=nr rfl
def nm0(T:Tys)(t:TypeId):Ty→Option (Bool×Nat)
 | .int .i64=>some (false,1)
 | .struct [a,b]=>nm1 (T.ty a) (T.ty b) (T.nest t)
 | .arr n e=>nmA n (T.ty e)
 |_=>none
theorem A2H(T:Tys)(t:TypeId):T.nums t=nm0 T t (T.ty t):=by
 unfold Tys.nums nm0
 split
 ·rename_i h;rw [h]
 ·rename_i a b h;rw [h];unfold nm1;rfl
 ·rename_i h;rw [h];unfold nmA;rfl
 ·rename_i h1 h2 h3
  cases h:T.ty t with
  |int k=>cases k<;>first|rfl|exact(h1 h).elim
  |struct fs=>
   rcases fs with _|⟨a,_|⟨b,_|⟨c,l⟩⟩⟩
   ·rfl
   ·rfl
   ·exact(h2 a b h).elim
   ·rfl
  |arr n e=>exact(h3 n e h).elim
  |_=>rfl
theorem A9M(T:Tys)(t n:Nat)(e:TypeId):nm0 T t (.arr n e)=nmA n (T.ty e):=nr rfl
theorem A9N(T:Tys)(t:TypeId):nm0 T t (.int .i64)=some (false,1):=nr rfl
theorem A9O(T:Tys)(t a b:TypeId):nm0 T t (.struct [a,b])=nm1 (T.ty a) (T.ty b) (T.nest t):=nr rfl
def xG(k e:TypeId):Option (Bool×Nat)→Option (Bool×Nat)→Option D
 |some _,some _=>some (.mp k e [])
 |_,_=>none
def mm0(T:Tys):Ty→Option D
 | .map k e=>xG k e (T.nums k) (T.nums e)
 |_=>none
theorem yMm(T:Tys)(t:TypeId):JG T t=mm0 T (T.ty t):=by
 unfold JG mm0
 cases T.ty t with
 |map k e=>simp only [xG];cases T.nums k<;>cases T.nums e<;>rfl
 |_=>rfl
theorem A9Q(T:Tys)(k e:TypeId):mm0 T (.map k e)=xG k e (T.nums k) (T.nums e):=nr rfl
def xH(ea ok:Bool)(r:List Int×Bool):D:=if ok=true then .tup [Mm ea r.1, .bool r.2]else Mm ea r.1
def lk2(ea ok:Bool)(es:List (List Int×List Int))(en:Nat):Option (List Int)→Option D
 |some key=>some (xH ea ok (IQ es key en))
 |none=>none
theorem A9S(ea ok:Bool)(es:List (List Int×List Int))(en:Nat)(key:List Int):lk2 ea ok es en (some key)=some (xH ea ok (IQ es key en)):=nr rfl
def xI(es:List (List Int×List Int))(k' e' k e:TypeId)(i:D)(ok:Bool):Option (Bool×Nat)→Option (Bool×Nat)→Option D
 |some (ka,kn),some (ea,en)=>if k'=k∧e'=e then lk2 ea ok es en (H5 ka kn i)else none
 |_,_=>none
def xJ(T:Tys)(es:List (List Int×List Int))(k' e':TypeId)(i:D)(ok:Bool):Ty→Option D
 | .map k e=>xI es k' e' k e i ok (T.nums k) (T.nums e)
 |_=>none
theorem A2I(T:Tys)(k' e':TypeId)(es:List (List Int×List Int))(i:D)(ok:Bool):Fp T pm s t (.tmp u) (.mp k' e' es) i ok=xJ T es k' e' i ok (T.ty t):=by
 unfold Fp xJ
 simp only [NM]
 cases T.ty t with
 |map k e=>
  simp only [xI]
  cases T.nums k<;>cases T.nums e<;>try rfl
  simp only
  split
  ·cases H5 _ _ i<;>rfl
  ·rfl
 |_=>rfl
def lkW(T:Tys)(i:D)(ok:Bool)(ty:Ty):Option (TypeId×TypeId×List (List Int×List Int))→Option D
 |some (k',e',es)=>xJ T es k' e' i ok ty
 |none=>none
theorem A9U(T:Tys)(i:D)(ok:Bool)(ty:Ty)(k' e':TypeId)(es:List (List Int×List Int)):lkW T i ok ty (some (k',e',es))=xJ T es k' e' i ok ty:=nr rfl
theorem uW(T:Tys)(x:Operand)(L:AA)(n m:Nat)(i:D)(ok:Bool):Fp T pm s t x (.vw L n m) i ok=lkW T i ok (T.ty t) (s.lookM pm L n):=by
 unfold Fp lkW xJ
 simp only [NM]
 cases s.lookM pm L n with
 |none=>cases T.ty t<;>rfl
 |some q=>
  cases T.ty t with
  |map k e=>
   simp only [xI,Option.map_some]
   cases T.nums k<;>cases T.nums e<;>try rfl
   simp only
   split
   ·cases H5 _ _ i<;>rfl
   ·rfl
  |_=>rfl
theorem A9V(T:Tys)(es:List (List Int×List Int))(k' e' k e:TypeId)(i:D)(ok:Bool):xJ T es k' e' i ok (.map k e)=xI es k' e' k e i ok (T.nums k) (T.nums e):=nr rfl
theorem A9W(es:List (List Int×List Int))(k e:TypeId)(i:D)(ok ka ea:Bool)(kn en:Nat):xI es k e k e i ok (some (ka,kn)) (some (ea,en))=lk2 ea ok es en (H5 ka kn i):=by simp [xI]
theorem A2J(x:Int):H5 false 1 (.int .i64 x)=some [x]:=nr rfl
theorem A2K(x y:Int):H5 true 2 (.agg [.int .i64 x, .int .i64 y])=some [x,y]:=nr rfl
def mu2(s:St)(u:Tmp)(k e:TypeId)(es:List (List Int×List Int)):Option (List Int)→Option (List Int)→Option St
 |some key,some val=>some (s.set [u] (.mp k e (LD es key val)))
 |_,_=>none
theorem A9Y(k e:TypeId)(es:List (List Int×List Int))(key val:List Int):mu2 s u k e es (some key) (some val)=some (s.set [u] (.mp k e (LD es key val))):=nr rfl
def xK(pm:Pm)(s:St)(u:Tmp)(es:List (List Int×List Int))(k' e' k e:TypeId)(i v:D):Option (Bool×Nat)→Option (Bool×Nat)→Option St
 |some (ka,kn),some (ea,en)=>if k'=k∧e'=e∧pm.wr u=true then mu2 s u k e es (H5 ka kn i) (H5 ea en v)else none
 |_,_=>none
def xL(T:Tys)(pm:Pm)(s:St)(u:Tmp)(es:List (List Int×List Int))(k' e':TypeId)(i v:D):Ty→Option St
 | .map k e=>xK pm s u es k' e' k e i v (T.nums k) (T.nums e)
 |_=>none
theorem A9Z(T:Tys)(k' e':TypeId)(es:List (List Int×List Int))(i v:D):Ff T pm s t (.tmp u) (.mp k' e' es) i v=xL T pm s u es k' e' i v (T.ty t):=by
 unfold Ff xL
 simp only [NM]
 cases T.ty t with
 |map k e=>
  simp only [xK]
  cases T.nums k<;>cases T.nums e<;>rfl
 |_=>rfl
def muW(T:Tys)(pm:Pm)(s:St)(u:Tmp)(i v:D)(ty:Ty):Option (TypeId×TypeId×List (List Int×List Int))→Option St
 |some (k',e',es)=>xL T pm s u es k' e' i v ty
 |none=>none
theorem A9b(T:Tys)(i v:D)(ty:Ty)(k' e':TypeId)(es:List (List Int×List Int)):muW T pm s u i v ty (some (k',e',es))=xL T pm s u es k' e' i v ty:=nr rfl
theorem A2L(T:Tys)(x:Operand)(n m:Nat)(i v:D):Ff T pm s t x (.vw [u] n m) i v=muW T pm s u i v (T.ty t) (s.lookM pm [u] n):=by
 unfold Ff muW xL
 simp only [NM]
 cases s.lookM pm [u] n with
 |none=>cases T.ty t<;>rfl
 |some q=>
  cases T.ty t with
  |map k e=>
   simp only [xK,Option.map_some]
   cases T.nums k<;>cases T.nums e<;>rfl
  |_=>rfl
theorem A9c(T:Tys)(es:List (List Int×List Int))(k' e' k e:TypeId)(i v:D):xL T pm s u es k' e' i v (.map k e)=xK pm s u es k' e' k e i v (T.nums k) (T.nums e):=nr rfl
theorem A9d(es:List (List Int×List Int))(k e:TypeId)(i v:D)(ka ea:Bool)(kn en:Nat)(hw:pm.wr u=true):xK pm s u es k e k e i v (some (ka,kn)) (some (ea,en))=mu2 s u k e es (H5 ka kn i) (H5 ea en v):=by simp [xK,hw]
def uX(n:Nat):Ty→Option D
 | .map _ _=>some (.int .i64 n)
 |_=>none
theorem A2M(T:Tys)(k e:TypeId)(es:List (List Int×List Int)):KC T pm s t (.tmp u) (.mp k e es)=uX es.length (T.ty t):=by
 show Rz T pm s t (.tmp u) (.mp k e es)=_
 unfold Rz uX
 simp only [NM]
 cases T.ty t<;>rfl
theorem A2N(n:Nat)(k e:TypeId):uX n (.map k e)=some (.int .i64 n):=nr rfl
def gI(l:List (Int×Int))(k:Int):Int×Bool:=match l.find? (fun p=>p.1==k)with|some p=>(p.2,true)|none=>(0,false)
def mf(l:List (Int×Int))(k v:Int):List (Int×Int):=match l.findIdx? (fun p=>p.1==k)with|some i=>l.set i (k,v)|none=>l++[(k,v)]
def SS(l:List (Int×Int)):List (List Int×List Int):=l.map fun p=>([p.1],[p.2])
abbrev E2:=Int×Int
def Zj(l:List (E2×E2))(k:E2):E2×Bool:=match l.find? (fun p=>p.1==k)with|some p=>(p.2,true)|none=>((0,0),false)
def mg(l:List (E2×E2))(k v:E2):List (E2×E2):=match l.findIdx? (fun p=>p.1==k)with|some i=>l.set i (k,v)|none=>l++[(k,v)]
def Wp(l:List (E2×E2)):List (List Int×List Int):=l.map fun p=>([p.1.1,p.1.2],[p.2.1,p.2.2])
theorem A2O(k e:TypeId):xG k e (some (false,1)) (some (false,1))=some (.mp k e (SS [])):=nr rfl
theorem A2P(k e:TypeId):xG k e (some (true,2)) (some (true,2))=some (.mp k e (Wp [])):=nr rfl
theorem IY{α β:Type}(f:α→β)(p:β→Bool)(q:α→Bool)(h: ∀a,p (f a)=q a): ∀(l:List α),(l.map f).find? p=(l.find? q).map f∧(l.map f).findIdx? p=l.findIdx? q
 | []=>⟨rfl,rfl⟩
 |a::l=>by
  obtain⟨h1,h2⟩:=IY f p q h l
  simp only [List.map_cons,List.find?_cons,List.findIdx?_cons,h]
  cases q a
  ·exact⟨h1,by simp only [h2]⟩
  ·exact⟨rfl,rfl⟩
theorem gJ(l:List (Int×Int))(k:Int):IQ (SS l) [k] 1=([(gI l k).1],(gI l k).2):=by
 unfold IQ gI SS
 rw [(IY _ _ (fun p=>p.1==k) (fun p=>by simp) l).1]
 cases l.find? (fun p=>p.1==k)<;>rfl
theorem gK(l:List (Int×Int))(k v:Int):LD (SS l) [k] [v]=SS (mf l k v):=by
 unfold LD mf SS
 rw [(IY _ _ (fun p=>p.1==k) (fun p=>by simp) l).2]
 cases l.findIdx? (fun p=>p.1==k)<;>simp [List.map_set]
theorem gL(l:List (Int×Int))(c:Int):((SS l).any fun p=>p.2==[c])=l.any fun p=>p.2==c:=by
 unfold SS
 rw [List.any_map]
 congr 1
 funext p
 simp [Function.comp]
theorem gM(l:List (Int×Int)):(SS l).length=l.length:=by simp [SS]
theorem gN(l:List (E2×E2))(a b:Int):IQ (Wp l) [a,b] 2=([(Zj l (a,b)).1.1,(Zj l (a,b)).1.2],(Zj l (a,b)).2):=by
 unfold IQ Zj Wp
 rw [(IY _ _ (fun p=>p.1==(a,b)) (fun p=>by obtain⟨⟨x,y⟩,z⟩:=p;rw [Bool.eq_iff_iff];simp) l).1]
 cases l.find? (fun p=>p.1==(a,b))<;>rfl
theorem gP(l:List (E2×E2))(a b c d:Int):LD (Wp l) [a,b] [c,d]=Wp (mg l (a,b) (c,d)):=by
 unfold LD mg Wp
 rw [(IY _ _ (fun p=>p.1==(a,b)) (fun p=>by obtain⟨⟨x,y⟩,z⟩:=p;rw [Bool.eq_iff_iff];simp) l).2]
 cases l.findIdx? (fun p=>p.1==(a,b))<;>simp [List.map_set]
theorem gQ(l:List (E2×E2)):(Wp l).length=l.length:=by simp [Wp]
def gT(l:List (List Int×Int))(k:List Int):Int×Bool:=match l.find? (fun p=>p.1==k)with|some p=>(p.2,true)|none=>(0,false)
def mh(l:List (List Int×Int))(k:List Int)(v:Int):List (List Int×Int):=match l.findIdx? (fun p=>p.1==k)with|some i=>l.set i (k,v)|none=>l++[(k,v)]
def Wq(l:List (List Int×Int)):List (List Int×List Int):=l.map fun p=>(p.1,[p.2])
theorem A2Q(k e:TypeId):xG k e (some (true,14)) (some (false,1))=some (.mp k e (Wq [])):=nr rfl
theorem gU(l:List (List Int×Int))(k:List Int):IQ (Wq l) k 1=([(gT l k).1],(gT l k).2):=by
 unfold IQ gT Wq
 rw [(IY _ _ (fun p=>p.1==k) (fun p=>by simp) l).1]
 cases l.find? (fun p=>p.1==k)<;>rfl
theorem gV(l:List (List Int×Int))(k:List Int)(v:Int):LD (Wq l) k [v]=Wq (mh l k v):=by
 unfold LD mh Wq
 rw [(IY _ _ (fun p=>p.1==k) (fun p=>by simp) l).2]
 cases l.findIdx? (fun p=>p.1==k)<;>simp [List.map_set]
theorem gW(l:List (List Int×Int)):(Wq l).length=l.length:=by simp [Wq]
theorem A9e(x:Int)(b:Bool):xH false false ([x],b)= .int .i64 x:=nr rfl
theorem A9f(x:Int)(b:Bool):xH false true ([x],b)= .tup [.int .i64 x, .bool b]:=nr rfl
theorem A9g(x y:Int)(b:Bool):xH true false ([x,y],b)= .agg [.int .i64 x, .int .i64 y]:=nr rfl
theorem A9h(x y:Int)(b:Bool):xH true true ([x,y],b)= .tup [.agg [.int .i64 x, .int .i64 y], .bool b]:=nr rfl
set_option linter.defProp false in
def A9i:=And.intro @A9G (And.intro @yLk (And.intro @yMu (And.intro @A9H (And.intro @A9I (And.intro @l6 (And.intro @A9J (And.intro @A9K (And.intro @A2H (And.intro @A9N (And.intro @A9O (And.intro @yMm (And.intro @A9Q (And.intro @A2O (And.intro @A2P (And.intro @A9S (And.intro @A2I (And.intro @A9V (And.intro @A9W (And.intro @A2J (And.intro @A2K
 (And.intro @A9Y (And.intro @A9Z (And.intro @A9c (And.intro @A9d (And.intro @A2M (And.intro @A2N (And.intro @gJ (And.intro @gK (And.intro @gM (And.intro @gN (And.intro @gP (And.intro @gQ (And.intro @A9e (And.intro @A9f (And.intro @A9g (And.intro @A9U (And.intro @uW (And.intro @A9b (And.intro @A2L (And.intro @A9L (And.intro @A9M (And.intro @A2Q (And.intro @gU (And.intro @gV (And.intro @gW (And.intro @A7s (And.intro @sG (And.intro @gL (@A9h)))))))))))))))))))))))))))))))))))))))))))))))))
end
end
end Dv
namespace Dv
open Go
theorem KQ(n:Int)(h: -9223372036854775808≤n∧n≤9223372036854775807):IntKind.i64.wrap n=n:=IntWalk.i64_in n h
section
variable {T:Tys} {pm:Pm} {s:St} {t:TypeId}
theorem bV(xs:List Int)(i:Nat)(h:i<xs.length):(F6 xs).getD i .undef= .int .i64 (xs.getD i 0):=by
 simp [F6,List.getD_eq_getElem?_getD,h]
theorem l7(xs:List Int)(i:Nat)(h:i<xs.length):(F6 xs)[i]? =some (.int .i64 (xs.getD i 0)):=by
 simp [F6,List.getD_eq_getElem?_getD,h]
theorem gX(xs:List Int)(i:Nat)(n:Int):(F6 xs).set i (.int .i64 n)=F6 (xs.set i n):=by simp [F6]
theorem Ws(xs ys:List Int):F6 xs++F6 ys=F6 (xs++ys):=by simp [F6]
theorem gY(n:Nat)(x:Int):List.replicate n (D.int .i64 x)=F6 (List.replicate n x):=by simp [F6]
theorem A9j(e:TypeId)(n:Int)(xs:List Int)(hk:T.known e=true)(hz:T.size e=1)(hn:0≤n∧n.toNat<xs.length):TW T e n (some (e,F6 xs,none))=some (.cptr [.int .i64 (xs.getD n.toNat 0)]):=by
 rw [sJ e n (F6 xs) hk hz (by simpa [F6] using hn),bV xs _ hn.2]
theorem A2R(e:TypeId)(n:Int)(xs:List Int)(L:AA)(a b:Nat)(hk:T.known e=true)(hz:T.size e=1)(hn:0≤n∧n.toNat<xs.length):TW T e n (some (e,F6 xs,some (L,a,b)))=some (.pe L n.toNat a b):=
 kg e n (F6 xs) L a b hk hz (by simpa [F6] using hn)
def Ui(e:TypeId)(xss:List (List Int)):List D:=xss.map fun xs=> .sl e (F6 xs)
def Kn(e:TypeId)(xss:List (List Int)):List D:=xss.map fun xs=> .own e (F6 xs)
theorem Ye(e:TypeId)(xss:List (List Int)):(Ui e xss).length=xss.length:=by simp [Ui]
theorem Wt(e:TypeId)(xss:List (List Int)):(Kn e xss).length=xss.length:=by simp [Kn]
theorem Yf(e:TypeId)(xss:List (List Int)):AU (Ui e xss)=false:=by
 induction xss with
 |nil=>rfl
 |cons x xss ih=>simp only [Ui,List.map_cons,AU,D.hasObj,Bool.false_or];exact ih
theorem lC(e:TypeId)(xss:List (List Int)):Bz (Ui e xss)=some (Ui e xss):=by
 induction xss with
 |nil=>rfl
 |cons x xss ih=>simp only [Ui,List.map_cons,Uh,A1o]at ih ⊢;rw [ih];rfl
theorem gZ(e:TypeId)(xss:List (List Int)):Bz (Kn e xss)=some (Ui e xss):=by
 induction xss with
 |nil=>rfl
 |cons x xss ih=>simp only [Kn,Ui,List.map_cons,Uh,ma,Wm,A1r]at ih ⊢;rw [ih];rfl
theorem Yg(e:TypeId)(xss:List (List Int)):CJ (Kn e xss)=false:=by
 induction xss with
 |nil=>rfl
 |cons x xss ih=>simp only [Kn,List.map_cons,Zi,mZ,Qz,Bool.false_or];exact ih
theorem bW(e:TypeId)(xss:List (List Int)):(Ui e xss).all BX=true:=by simp [Ui,BX]
theorem Yh(e:TypeId)(xss:List (List Int)):(Kn e xss).all BX=true:=by simp [Kn,BX]
theorem gm(e:TypeId)(xss:List (List Int))(i:Nat)(h:i<xss.length):(Ui e xss).getD i .undef= .sl e (F6 (xss.getD i [])):=by
 simp [Ui,List.getD_eq_getElem?_getD,h]
theorem uY(e:TypeId)(xss:List (List Int))(i:Nat)(h:i<xss.length):(Ui e xss)[i]? =some (.sl e (F6 (xss.getD i []))):=by
 simp [Ui,List.getD_eq_getElem?_getD,h]
theorem lD(e:TypeId)(xss:List (List Int))(i:Nat)(h:i<xss.length):(Kn e xss)[i]? =some (.own e (F6 (xss.getD i []))):=by
 simp [Kn,List.getD_eq_getElem?_getD,h]
theorem gp(e:TypeId)(xss:List (List Int))(i:Nat)(x:List Int):(Kn e xss).set i (.own e (F6 x))=Kn e (xss.set i x):=by simp [Kn]
theorem Uj(e:TypeId)(x:List Int)(xss:List (List Int)):AU (Kn e (x::xss))=true:=by simp [Kn,AU,D.hasObj]
theorem A9k(e e':TypeId)(n:Int)(xss:List (List Int))(hk:T.known e=true)(hz:T.size e=1)(hn:0≤n∧n.toNat<xss.length):TW T e n (some (e,Ui e' xss,none))=some (.cptr [.sl e' (F6 (xss.getD n.toNat []))]):=by
 rw [sJ e n (Ui e' xss) hk hz (by simpa [Ui] using hn),gm e' xss _ hn.2]
theorem A2S(e e':TypeId)(n:Int)(xss:List (List Int))(L:AA)(a b:Nat)(hk:T.known e=true)(hz:T.size e=1)(hn:0≤n∧n.toNat<xss.length):TW T e n (some (e,Kn e' xss,some (L,a,b)))=some (.pe L n.toNat a b):=
 kg e n (Kn e' xss) L a b hk hz (by simpa [Kn] using hn)
variable {E:Env} {dst:Option Tmp} {ty:TypeId}
def A2T(e:TypeId)(dst:Option Tmp):Option (List D×St)→Option St
 |some (xs,s)=>some (s.putO dst (.own e xs))
 |none=>none
theorem A2U(e:TypeId)(xs:List D):A2T e dst (some (xs,s))=some (s.putO dst (.own e xs)):=nr rfl
def bX(dst:Option Tmp):Option (List D×St)→Option St
 |some (xs,s)=>some (s.putO dst (.agg xs))
 |none=>none
theorem A2V(xs:List D):bX dst (some (xs,s))=some (s.putO dst (.agg xs)):=nr rfl
theorem R3(T:Tys){e:TypeId}(hs:T.isStruct e=false):T.size e=1∧T.zeros e=[T.zero1 e]:=by
 unfold Tys.isStruct at hs
 unfold Tys.size Tys.zeros
 cases hty:T.ty e<;>simp_all [Ty.isStruct,Ty.size]
def gq(E:Env)(pm:Pm)(s:St)(dst:Option Tmp)(len:Nat)(parts:Array (Nat×Operand)):Ty→Option St
 | .slice e=>
   if len*E.T.size e≤4096∧E.T.known e=true then
    (Eg E.T pm (fun _=>e) (E.T.size e) s ((List.range (len*E.T.size e)).map fun j=>(E.T.zeros e).getD (j % E.T.size e) .undef) parts.toList).map fun r=>r.2.putO dst (.own e r.1)
   else none
 |_=>none
theorem uZ(len:Nat)(parts:Array (Nat×Operand)):Q8 E.T pm s dst t len parts=gq E pm s dst len parts (E.T.ty t):=by
 unfold Q8 gq
 cases E.T.ty t<;>rfl
theorem yBs(len:Nat)(parts:Array (Nat×Operand)):IK E pm s dst (.buildSlice t len parts) ty=if ty=900004 then fcB pm dst (gq E pm s dst len parts (E.T.ty t))else gq E pm s dst len parts (E.T.ty t):=by
 rw [Qx,uZ]
 by_cases h:ty=900004
 ·rw [if_pos h,if_pos h]
  unfold fcB
  cases gq E pm s dst len parts (E.T.ty t)<;>cases dst<;>rfl
 ·rw [if_neg h,if_neg h]
theorem A9l(len:Nat)(parts:Array (Nat×Operand))(e:TypeId)(hk:E.T.known e=true)(hs:E.T.isStruct e=false)(hl:len≤4096):
  gq E pm s dst len parts (.slice e)=A2T e dst (Eg E.T pm (fun _=>e) 1 s (List.replicate len (E.T.zero1 e)) parts.toList):=by
 obtain⟨hz,hzz⟩:=R3 E.T hs
 have hrep:((List.range (len*1)).map fun j=>(E.T.zeros e).getD (j % 1) .undef)=List.replicate len (E.T.zero1 e):=by
  rw [hzz]
  apply List.ext_getElem
  ·simp
  ·intro i h1 h2
   simp [Nat.mod_one]
 simp only [gq,hz]
 rw [if_pos ⟨by omega,hk⟩,hrep]
 rcases Eg E.T pm (fun _=>e) 1 s (List.replicate len (E.T.zero1 e)) parts.toList with _|⟨a,b⟩<;>rfl
def bsA(E:Env)(e:TypeId)(dst:Option Tmp):Option (D×St)→Option St
 |some (d,s1)=>if d.asCells.length=E.T.size e then some (s1.putO dst (.own e d.asCells))else none
 |none=>none
theorem A9n(e:TypeId)(xs:List D)(h:xs.length=E.T.size e):bsA E e dst (some (.agg xs,s))=some (s.putO dst (.own e xs)):=by
 show(if xs.length=E.T.size e then some (s.putO dst (.own e xs))else none)=_
 rw [if_pos h]
theorem Wu(cs ys:List D)(h:ys.length=cs.length):BR cs 0 ys=ys:=by
 refine List.ext_getElem? fun i=> ?_
 rw [Fx (by omega)]
 by_cases hi:i<ys.length
 ·rw [if_pos (by omega)];rfl
 ·rw [if_neg (by omega),List.getElem?_eq_none (by omega),List.getElem?_eq_none (by omega)]
theorem A9o(e:TypeId)(x:Operand)(hk:E.T.known e=true)(hs:E.T.isStruct e=true)(hz:E.T.size e≤4096):gq E pm s dst 1 #[(0,x)] (.slice e)=bsA E e dst (take E.T pm s e x):=by
 simp only [gq,Eg]
 rw [if_pos ⟨by omega,hk⟩]
 rcases take E.T pm s e x with _|⟨d,s1⟩
 ·rfl
 ·simp only [bsA]
  by_cases h:d.asCells.length=E.T.size e
  ·rw [if_pos ⟨h,by simp⟩,if_pos h,Nat.zero_mul,Wu _ _ (by simp [h])];rfl
  ·rw [if_neg (fun hc=>h hc.1),if_neg h];rfl
theorem A9p(u:Tmp)(e:TypeId)(L:AA)(n m lo len:Nat):Aq pm s dst (.tmp u) (.vs e L n m lo len)=some (s.putO dst (.vs e L n m lo len)):=by
 show some (if(D.vs e L n m lo len).hasObj then(s.clr u).putO dst (.vs e L n m lo len)else s.putO dst (.vs e L n m lo len))=_
 rw [if_neg (by simp [D.hasObj])]
theorem A9q(e:TypeId)(hk:E.T.known e=true):gq E pm s dst 0 #[] (.slice e)=some (s.putO dst (.own e [])):=by
 simp [gq,hk,Eg]
def bdN(E:Env)(pm:Pm)(s:St)(dst:Option Tmp)(t:TypeId)(parts:Array (Nat×Operand)):Option St:=
 match E.T.ty t with
 | .struct fs=>if E.T.known t then bX dst (Eg E.T pm (fun i=>fs.getD i 0) 1 s (E.T.zeros t) parts.toList)else none
 |_=>none
def bd0(E:Env)(pm:Pm)(s:St)(dst:Option Tmp)(t:TypeId)(parts:Array (Nat×Operand)):Option (List (Nat×TypeId))→Option St
 |some fl=>if E.T.isStruct t&&E.T.known t then bX dst (Gz E.T pm fl s (E.T.zeros t) parts.toList)else none
 |none=>bdN E pm s dst t parts
def bvR:Option (List D)→Option D
 |some cs=>some (.agg cs)
 |none=>none
theorem A9s(cs:List D):bvR (some cs)=some (.agg cs):=nr rfl
def bv0(T:Tys)(pm:Pm)(s:St)(l:List (Nat×Operand))(t:TypeId):Option (List (Nat×TypeId))→Ty→Option D
 |none, .struct fs=>if T.known t then bvR (J6 T pm s (fun i=>fs.getD i 0) (T.zeros t) l)else none
 |_,_=>none
theorem yBv(T:Tys)(l:List (Nat×Operand)):Fq T pm s t l=bv0 T pm s l t (T.nest t) (T.ty t):=by
 unfold Fq bv0
 cases T.nest t with
 |some fl=>rfl
 |none=>
  cases T.ty t with
  |struct fs=>
   simp only
   split
   ·cases J6 T pm s (fun i=>fs.getD i 0) (T.zeros t) l<;>rfl
   ·rfl
  |_=>rfl
theorem A9t(T:Tys)(l:List (Nat×Operand))(fs:List TypeId)(hk:T.known t=true):bv0 T pm s l t none (.struct fs)=bvR (J6 T pm s (fun i=>fs.getD i 0) (T.zeros t) l):=by simp [bv0,hk]
def fv0(T:Tys)(pm:Pm)(s:St)(tf:Nat→TypeId)(cs:List D)(i:Nat)(rest:List (Nat×Operand)):Option D→Option (List D)
 |some d=>if II pm s d=true∧i<cs.length then J6 T pm s tf (cs.set i d) rest else none
 |none=>none
theorem fvN(T:Tys)(tf:Nat→TypeId)(cs:List D):J6 T pm s tf cs []=some cs:=nr rfl
theorem fvC(T:Tys)(tf:Nat→TypeId)(cs:List D)(i:Nat)(x:Operand)(rest:List (Nat×Operand)):J6 T pm s tf cs ((i,x)::rest)=fv0 T pm s tf cs i rest (ev T s (tf i) x):=by
 simp only [J6]
 cases ev T s (tf i) x<;>rfl
theorem A9v(T:Tys)(tf:Nat→TypeId)(cs:List D)(i:Nat)(rest:List (Nat×Operand))(d:D)(h1:II pm s d=true)(h2:i<cs.length):fv0 T pm s tf cs i rest (some d)=J6 T pm s tf (cs.set i d) rest:=by simp [fv0,h1,h2]
def cv0:Option D→Bool
 |some (.own _ _)=>true
 |_=>false
theorem A9w(e:TypeId)(xs:List D):cv0 (some (.own e xs))=true:=nr rfl
theorem A9x(L:AA)(n m:Nat):II pm s (.vw L n m)=cv0 (s.look pm L n m):=by
 simp only [II]
 cases s.look pm L n m with
 |none=>rfl
 |some o=>cases o<;>rfl
theorem A2X(k:IntKind)(n:Int):II pm s (.int k n)=true:=nr rfl
theorem A9y(e:TypeId)(xs:List D):II pm s (.sl e xs)=true:=nr rfl
theorem uf(b:Bool):II pm s (.bool b)=true:=nr rfl
def A2Y:D→Bool
 | .box _=>true
 |_=>false
def A2Z:D→Bool
 | .agg _=>true
 |_=>false
theorem A2a(xs:List D):A2Y (.box xs)=true:=nr rfl
theorem A2b(xs:List D):A2Z (.agg xs)=true:=nr rfl
def xM(T:Tys)(pm:Pm)(s:St)(t:TypeId)(ax:Tmp):D→D→Option St
 | .agg ds, .box cs=>if AU ds then none else
   if T.known t&&pm.wr ax&&ds.all (II pm s)&&(T.size t==ds.length)&&(T.isStruct t==true)&&decide (0+T.size t≤cs.length)then
    some (if AU ds||AU cs then(s.set [ax] (.box (BR cs 0 ds))).bump ax else s.set [ax] (.box (BR cs 0 ds)))else none
 |_,_=>none
theorem ySk(T:Tys)(ax x:Tmp)(h1:A2Y (s.v ax)=true)(h2:A2Z (s.v x)=true):Hf T pm s t (.tmp ax) (.tmp x)=xM T pm s t ax (s.v x) (s.v ax):=by
 cases hx:s.v x<;>rw [hx]at h2<;>first|cases h2|skip
 rename_i ds
 cases ha:s.v ax<;>rw [ha]at h1<;>first|cases h1|skip
 rename_i cs
 unfold Hf xM
 simp only [ev,hx,Mf]
 cases hb:AU ds with
 |true=>simp
 |false=>
  simp only [Bool.false_eq_true,if_false,Ii,ev,ha,Ee,D.asCells,D.isAgg,D.cells,D.withCells,List.headD_cons,D.hasObj,hb]
  rfl
theorem A9z(T:Tys)(ax:Tmp)(ds cs:List D)(hno:AU ds=false)(hk:T.known t=true)(hs:T.isStruct t=true)(hw:pm.wr ax=true)(hc:ds.all (II pm s)=true)(hz:T.size t=ds.length)(hl:ds.length≤cs.length)(hoc:AU cs=false):
  xM T pm s t ax (.agg ds) (.box cs)=some (s.set [ax] (.box (BR cs 0 ds))):=by
 simp [xM,hno,hk,hs,hw,hc,hz,hl,hoc]
theorem AA0(T:Tys)(ax:Tmp)(ds cs:List D)(hno:AU ds=false)(hk:T.known t=true)(hs:T.isStruct t=true)(hw:pm.wr ax=true)(hc:ds.all (II pm s)=true)(hz:T.size t=ds.length)(hl:ds.length≤cs.length)(hoc:AU cs=true):
  xM T pm s t ax (.agg ds) (.box cs)=some ((s.set [ax] (.box (BR cs 0 ds))).bump ax):=by
 simp [xM,hno,hk,hs,hw,hc,hz,hl,hoc]
theorem ug(parts:Array (Nat×Operand)):IK E pm s dst (.build t parts) ty=if ty=900015 then FN s dst (Fq E.T pm s t parts.toList)else bd0 E pm s dst t parts (E.T.nest t):=by
 rw [bL]
 by_cases hty:ty=900015
 ·rw [if_pos hty,if_pos hty]
  cases Fq E.T pm s t parts.toList<;>rfl
 rw [if_neg hty,if_neg hty]
 unfold bd0 bdN
 cases E.T.nest t with
 |some fl=>
  simp only
  split
  ·rcases Gz E.T pm fl s (E.T.zeros t) parts.toList with _|⟨a,b⟩<;>rfl
  ·rfl
 |none=>
  simp only
  cases E.T.ty t with
  |struct fs=>
   simp only
   split
   ·rcases Eg E.T pm (fun i=>fs.getD i 0) 1 s (E.T.zeros t) parts.toList with _|⟨a,b⟩<;>rfl
   ·rfl
  |_=>rfl
theorem AA1(parts:Array (Nat×Operand))(fl:List (Nat×TypeId))(hk:E.T.known t=true)(hs:E.T.isStruct t=true):bd0 E pm s dst t parts (some fl)=bX dst (Gz E.T pm fl s (E.T.zeros t) parts.toList):=by
 simp [bd0,hk,hs]
def bdT(E:Env)(pm:Pm)(s:St)(dst:Option Tmp)(t:TypeId)(parts:Array (Nat×Operand)):Ty→Option St
 | .struct fs=>if E.T.known t then bX dst (Eg E.T pm (fun i=>fs.getD i 0) 1 s (E.T.zeros t) parts.toList)else none
 |_=>none
theorem AA2(parts:Array (Nat×Operand)):bd0 E pm s dst t parts none=bdT E pm s dst t parts (E.T.ty t):=by
 show bdN E pm s dst t parts=_
 unfold bdN bdT
 cases E.T.ty t<;>rfl
theorem AA3(parts:Array (Nat×Operand))(fs:List TypeId)(hk:E.T.known t=true):bdT E pm s dst t parts (.struct fs)=bX dst (Eg E.T pm (fun i=>fs.getD i 0) 1 s (E.T.zeros t) parts.toList):=by
 simp [bdT,hk]
def fn1(T:Tys)(pm:Pm)(fl:List (Nat×TypeId))(cs:List D)(off:Nat)(ty:TypeId)(rest:List (Nat×Operand)):Option (D×St)→Option (List D×St)
 |none=>none
 |some (d,s1)=>if d.asCells.length=T.size ty∧off+T.size ty≤cs.length then Gz T pm fl s1 (BR cs off d.asCells) rest else none
theorem A2d(T:Tys)(fl:List (Nat×TypeId))(cs:List D):Gz T pm fl s cs []=some (cs,s):=nr rfl
def fn0(T:Tys)(pm:Pm)(fl:List (Nat×TypeId))(s:St)(cs:List D)(x:Operand)(rest:List (Nat×Operand)):Option (Nat×TypeId)→Option (List D×St)
 |none=>none
 |some (off,ty)=>fn1 T pm fl cs off ty rest (take T pm s ty x)
theorem uh(T:Tys)(fl:List (Nat×TypeId))(cs:List D)(i:Nat)(x:Operand)(rest:List (Nat×Operand)):Gz T pm fl s cs ((i,x)::rest)=fn0 T pm fl s cs x rest (fl[i]?):=by
 simp only [Gz]
 rcases fl[i]? with _|⟨off,ty⟩
 ·rfl
 ·simp only [fn0,fn1]
  rcases take T pm s ty x with _|⟨d,s1⟩<;>rfl
theorem AA5(T:Tys)(fl:List (Nat×TypeId))(cs:List D)(x:Operand)(rest:List (Nat×Operand))(off:Nat)(ty:TypeId):fn0 T pm fl s cs x rest (some (off,ty))=fn1 T pm fl cs off ty rest (take T pm s ty x):=nr rfl
theorem AA6(T:Tys)(fl:List (Nat×TypeId))(cs:List D)(off:Nat)(ty:TypeId)(rest:List (Nat×Operand))(d:D)(h1:d.asCells.length=T.size ty)(h2:off+T.size ty≤cs.length):
  fn1 T pm fl cs off ty rest (some (d,s))=Gz T pm fl s (BR cs off d.asCells) rest:=by simp only [fn1,h1,h2,and_self,if_true]
theorem fnA(ds:List D):(D.agg ds).asCells=ds:=nr rfl
theorem fnI(k:IntKind)(n:Int):(D.int k n).asCells=[.int k n]:=nr rfl
theorem fnO(e:TypeId)(xs:List D):(D.own e xs).asCells=[.own e xs]:=nr rfl
theorem spN(cs:List D)(c:Nat):BR cs c []=cs:=by cases cs<;>rfl
theorem spC(cs:List D)(c:Nat)(y:D)(ys:List D):BR cs c (y::ys)=BR (cs.set c y) (c+1) ys:=by cases cs<;>rfl
def xN(T:Tys)(n:Int):Ty→Option D
 | .slice e=>if 0≤n∧n<1099511627776∧T.elem e=true then
   if T.isStruct e=true then some (.own e (List.replicate n.toNat (T.zeros e)).flatten)
   else if T.size e=1 then some (.own e (List.replicate n.toNat (T.zero1 e)))else none
  else none
 |_=>none
theorem yMk(n:Int):Dk T t (.int .i64 n) (.int .i64 n)=xN T n (T.ty t):=by
 unfold Dk xN
 cases T.ty t<;>simp
def lF(T:Tys)(q:Int):Ty→Option D
 | .slice e=>if 0≤q∧q<1099511627776∧T.elem e=true then
   if T.isStruct e=true then some (.own e [])
   else if T.size e=1 then some (.own e [])else none
  else none
 |_=>none
theorem AA7(q:Int):Dk T t (.int .i64 0) (.int .i64 q)=lF T q (T.ty t):=by
 unfold Dk lF
 cases T.ty t<;>simp
theorem A2e(q:Int)(e:TypeId)(hk:T.known e=true)(h4:T.size e≤4)(h0:0≤q)(hn:q<1099511627776):lF T q (.slice e)=some (.own e []):=by
 simp only [lF]
 rw [if_pos ⟨h0,hn,Nq hk h4⟩]
 by_cases hs:T.isStruct e=true
 ·rw [if_pos hs]
 ·obtain⟨hz,_⟩:=R3 T (by simpa using hs)
  rw [if_neg hs,if_pos hz]
theorem AA8(n:Int)(e:TypeId)(hk:T.known e=true)(h4:T.size e≤4)(hs:T.isStruct e=false)(h0:0≤n)(hn:n<1099511627776):xN T n (.slice e)=some (.own e (List.replicate n.toNat (T.zero1 e))):=by
 obtain⟨hz,_⟩:=R3 T hs
 simp only [xN]
 rw [if_pos ⟨h0,hn,Nq hk h4⟩,if_neg (by rw [hs];decide),if_pos hz]
theorem AA9(n:Int)(e:TypeId)(hk:T.known e=true)(h4:T.size e≤4)(hs:T.isStruct e=true)(h0:0≤n)(hn:n<1099511627776):xN T n (.slice e)=some (.own e (List.replicate n.toNat (T.zeros e)).flatten):=by
 simp only [xN]
 rw [if_pos ⟨h0,hn,Nq hk h4⟩,if_pos hs]
end
end Dv
namespace Dv
open Go
def I64(n:Int):Prop:= -9223372036854775808≤n∧n≤9223372036854775807
section
variable {T:Tys} {t e:TypeId} {d:D}
theorem uj{ds:List D}(ht:T.ty t= .string)(h:Shp T t ds): ∃b,ds=[.str b]∧b.size≤maxLen:=by
 cases h with
 |int ht' hw=>rw [ht]at ht';cases ht'
 |bool ht'=>rw [ht]at ht';cases ht'
 |string ht' hs=>exact⟨_,rfl,hs⟩
 |slice ht'=>rw [ht]at ht';cases ht'
 |struct ht'=>rw [ht]at ht';cases ht'
def Pj(xs:List Int):Prop:=xs.length≤maxLen∧ ∀x∈xs,I64 x
theorem lG(hs:T.isStruct t=false)(d:D):xk T t [d]=d:=by simp [xk,hs]
theorem uk(ht:T.ty t= .string)(h:Arg T t d): ∃b,d= .str b∧b.size≤maxLen:=by
 obtain⟨ds,hs,rfl⟩:=h
 obtain⟨b,rfl,h1⟩:=uj ht hs
 exact⟨b,lG (by simp [Tys.isStruct,ht,Ty.isStruct]) _,h1⟩
end
theorem trodAll_len{H:Type}{enc:TypeId×Value→H}{P:Program}{w:World}{base:Nat}{spare:Nat→Bool}{Km:Bool}: ∀ {ts:List TypeId} {vs:List Value} {ds:List (DataW H)} {ps:List MemPlace},
  DataW.TrodAll enc P w base spare Km ts vs ds ps→ds.length=ts.length∧vs.length=ts.length:=by
 intro ts
 induction ts with
 |nil=>intro vs ds ps h;cases vs<;>cases ds<;>simp [DataW.TrodAll]at h;exact⟨rfl,rfl⟩
 |cons t ts ih=>
  intro vs ds ps h
  cases vs with
  |nil=>cases ds<;>simp [DataW.TrodAll]at h
  |cons v vs=>
   cases ds with
   |nil=>simp [DataW.TrodAll]at h
   |cons d ds=>
    simp only [DataW.TrodAll]at h
    obtain⟨p,q,h1,h2,_⟩:=h
    obtain⟨e1,e2⟩:=ih h2
    exact⟨by simp [e1],by simp [e2]⟩
end Dv
namespace Dv
open Go
section
variable {E:Env} {T:Tys} {pm:Pm} {s:St} {dst:Option Tmp} {ty t:TypeId}
def Xo(T:Tys)(t:TypeId)(dst:Option Tmp):Option (D×St)→Option St
 |some (d,s1)=>if T.isStruct t==d.isAgg then some (s1.putO dst (.box d.asCells))else none
 |none=>none
def Wv(E:Env)(pm:Pm)(s:St)(t:TypeId)(x:Operand)(dst:Option Tmp):D→Option St
 | .agg ds=>if AU ds then Xo E.T t dst (take E.T pm s t x)else(if E.T.isStruct t then some (s.putO dst (.box ds))else none)
 |_=>Xo E.T t dst (take E.T pm s t x)
theorem ul(u:Tmp):LG E.T pm s dst t (.tmp u)=Wv E pm s t (.tmp u) dst (s.v u):=by
 rw [fO]
 cases hk:Mf (ev E.T s t (.tmp u))with
 |some ds=>
  simp only [ev]at hk
  cases hv:s.v u<;>rw [hv]at hk<;>simp only [Mf]at hk<;>try (cases hk;done)
  split at hk
  ·cases hk
  ·rename_i ho
   simp only [Option.some.injEq]at hk
   subst hk
   simp only [Wv,ho];rfl
 |none=>
  have hold:Wv E pm s t (.tmp u) dst (s.v u)=Xo E.T t dst (take E.T pm s t (.tmp u)):=by
   simp only [ev]at hk
   cases hv:s.v u<;>try rfl
   rw [hv]at hk
   simp only [Mf]at hk
   split at hk
   ·rename_i ho;simp only [Wv,ho,if_true]
   ·cases hk
  rw [hold]
  simp only
  rcases take E.T pm s t (.tmp u)with _|⟨d,s1⟩<;>rfl
theorem AAA(u:Tmp):IK E pm s dst (.box t (.tmp u)) ty=if ty=900003 then bU pm dst (Wv E pm s t (.tmp u) dst (s.v u))else Wv E pm s t (.tmp u) dst (s.v u):=by
 rw [kH,ul]
 by_cases h:ty=900003
 ·rw [if_pos h,if_pos h]
  unfold bU
  cases Wv E pm s t (.tmp u) dst (s.v u)<;>cases dst<;>rfl
 ·rw [if_neg h,if_neg h]
theorem bkK(x:Operand)(ds:List D)(hs:E.T.isStruct t=true):Wv E pm s t x dst (.agg ds)=if AU ds then Xo E.T t dst (take E.T pm s t x)else some (s.putO dst (.box ds)):=by simp [Wv,hs]
theorem A2f(x:Operand)(k:IntKind)(n:Int):Wv E pm s t x dst (.int k n)=Xo E.T t dst (take E.T pm s t x):=nr rfl
theorem um(x:Operand)(b:Bool):Wv E pm s t x dst (.bool b)=Xo E.T t dst (take E.T pm s t x):=nr rfl
theorem A2g(x:Operand)(b:ByteArray):Wv E pm s t x dst (.str b)=Xo E.T t dst (take E.T pm s t x):=nr rfl
theorem AAB(x:Operand)(e:TypeId)(xs:List D):Wv E pm s t x dst (.sl e xs)=Xo E.T t dst (take E.T pm s t x):=nr rfl
theorem A2h(x:Operand)(e:TypeId)(xs:List D):Wv E pm s t x dst (.own e xs)=Xo E.T t dst (take E.T pm s t x):=nr rfl
theorem uo(x:Operand)(xs:List D):Wv E pm s t x dst (.cptr xs)=Xo E.T t dst (take E.T pm s t x):=nr rfl
theorem AAC(x:Operand)(L:AA)(n m:Nat):Wv E pm s t x dst (.vw L n m)=Xo E.T t dst (take E.T pm s t x):=nr rfl
theorem A2i(x:Operand)(f:FuncId)(xs:List D):Wv E pm s t x dst (.clo f xs)=Xo E.T t dst (take E.T pm s t x):=nr rfl
theorem AAD(ds:List D)(hs:T.isStruct t=true):Xo T t dst (some (.agg ds,s))=some (s.putO dst (.box ds)):=by simp [Xo,hs,D.isAgg,D.asCells]
theorem AAE(d:D)(hs:T.isStruct t=false)(hd:d.isAgg=false):Xo T t dst (some (d,s))=some (s.putO dst (.box [d])):=by
 have:d.asCells=[d]:=by cases d<;>first|rfl|(simp [D.isAgg]at hd)
 simp [Xo,hs,hd,this]
def fa1(L:AA)(i n m:Nat):Option D→Option D
 |some _=>some (.pe L i n m)
 |none=>none
theorem AAG(L:AA)(i n m:Nat)(d:D):fa1 L i n m (some d)=some (.pe L i n m):=nr rfl
def jY(T:Tys)(pm:Pm)(s:St)(t:TypeId)(x:Operand)(d:D):Option Nat→Option D
 |none=>none
 |some j=>
  if T.isStruct t then
   match d with
   | .box _=>match x with| .tmp u=>some (.pe [u] j (s.k u) (s.m u))|_=>none
   | .vw L n m=>match s.look pm L n m with|some (.box _)=>some (.pe L j n m)|_=>none
   | .pe L c n m=>match s.look pm L n m with|some _=>some (.pe L (c+j) n m)|none=>none
   | .cptr xs=>some (.cptr (xs.drop j))
   |_=>none
  else none
theorem faE(x:Operand)(d:D)(i:Nat):EO T pm s t x d i=jY T pm s t x d (T.foff t i):=by
 unfold EO jY
 cases T.foff t i<;>rfl
theorem foN(i:Nat)(hn:T.nest t=none)(hi:i<T.size t):T.foff t i=some i:=by simp [Tys.foff,hn,hi]
theorem A2j(u:Tmp)(xs:List D)(i:Nat)(hs:T.isStruct t=true):jY T pm s t (.tmp u) (.box xs) (some i)=some (.pe [u] i (s.k u) (s.m u)):=by simp [jY,hs]
theorem AAH(x:Operand)(L:AA)(n m i:Nat)(hs:T.isStruct t=true):jY T pm s t x (.vw L n m) (some i)=fa1 L i n m (Ld s pm L n m):=by
 simp only [jY,hs,if_true,Ld]
 cases s.look pm L n m with
 |none=>rfl
 |some o=>cases o<;>rfl
theorem AAI(x:Operand)(L:AA)(c n m i:Nat)(hs:T.isStruct t=true):jY T pm s t x (.pe L c n m) (some i)=fa1 L (c+i) n m (s.look pm L n m):=by
 simp only [jY,hs,if_true]
 cases s.look pm L n m<;>rfl
theorem AAJ(x:Operand)(xs:List D)(i:Nat)(hs:T.isStruct t=true):jY T pm s t x (.cptr xs) (some i)=some (.cptr (xs.drop i)):=by simp [jY,hs]
theorem AAK(L:AA)(c n:Nat)(y:D)(ys:List D):cellsOf s L c n (some (D.box (y::ys)))=if c+n≤(D.box (y::ys)).cells.length then BO (.agg ((List.range n).map fun i=>Bc s L (c+i) ((D.box (y::ys)).cells.getD (c+i) .undef)))else none:=nr rfl
theorem AAL(L:AA)(c n:Nat)(e:TypeId)(ys:List D):cellsOf s L c n (some (D.own e ys))=if c+n≤(D.own e ys).cells.length then BO (.agg ((List.range n).map fun i=>Bc s L (c+i) ((D.own e ys).cells.getD (c+i) .undef)))else none:=nr rfl
variable {α:Type} (f:Nat→α)
theorem AAM:(List.range 14).map f=[f 0,f 1,f 2,f 3,f 4,f 5,f 6,f 7,f 8,f 9,f 10,f 11,f 12,f 13]:=nr rfl
theorem rg1:(List.range 1).map f=[f 0]:=nr rfl
theorem rg2:(List.range 2).map f=[f 0,f 1]:=nr rfl
theorem rg3:(List.range 3).map f=[f 0,f 1,f 2]:=nr rfl
theorem rg4:(List.range 4).map f=[f 0,f 1,f 2,f 3]:=nr rfl
theorem rg5:(List.range 5).map f=[f 0,f 1,f 2,f 3,f 4]:=nr rfl
theorem rg6:(List.range 6).map f=[f 0,f 1,f 2,f 3,f 4,f 5]:=nr rfl
theorem rg7:(List.range 7).map f=[f 0,f 1,f 2,f 3,f 4,f 5,f 6]:=nr rfl
theorem rg8:(List.range 8).map f=[f 0,f 1,f 2,f 3,f 4,f 5,f 6,f 7]:=nr rfl
theorem rg9:(List.range 9).map f=[f 0,f 1,f 2,f 3,f 4,f 5,f 6,f 7,f 8]:=nr rfl
theorem AAN:(List.range 10).map f=[f 0,f 1,f 2,f 3,f 4,f 5,f 6,f 7,f 8,f 9]:=nr rfl
theorem AAO:(List.range 11).map f=[f 0,f 1,f 2,f 3,f 4,f 5,f 6,f 7,f 8,f 9,f 10]:=nr rfl
theorem AAP:(List.range 12).map f=[f 0,f 1,f 2,f 3,f 4,f 5,f 6,f 7,f 8,f 9,f 10,f 11]:=nr rfl
theorem A2k(L:AA)(c:Nat)(k:IntKind)(n:Int):Bc s L c (.int k n)= .int k n:=nr rfl
theorem uq(L:AA)(c:Nat)(b:Bool):Bc s L c (.bool b)= .bool b:=nr rfl
theorem A2l(L:AA)(c:Nat)(b:ByteArray):Bc s L c (.str b)= .str b:=nr rfl
theorem AAQ(L:AA)(c:Nat)(e:TypeId)(xs:List D):Bc s L c (.sl e xs)= .sl e xs:=nr rfl
theorem A2m(L:AA)(c:Nat)(e:TypeId)(xs:List D):Bc s L c (.own e xs)=Xn s (L++[c]):=nr rfl
theorem A2n(L:AA)(c:Nat)(g:FuncId)(xs:List D):Bc s L c (.clo g xs)= .clo g xs:=nr rfl
theorem AAR(L:AA)(c:Nat)(M:AA)(n m:Nat):Bc s L c (.vw M n m)= .vw M n m:=nr rfl
theorem noA(xs:List D):BO (.agg xs)=if AU xs then none else some (.agg xs):=by simp only [BO,D.hasObj];rfl
theorem A2o(k:IntKind)(n:Int):BO (.int k n)=some (.int k n):=by simp [BO,D.hasObj]
theorem ut(b:Bool):BO (.bool b)=some (.bool b):=by simp [BO,D.hasObj]
theorem A2p(b:ByteArray):BO (.str b)=some (.str b):=by simp [BO,D.hasObj]
theorem AAS(e:TypeId)(xs:List D):BO (.sl e xs)=some (.sl e xs):=by simp [BO,D.hasObj]
theorem AAT(L:AA)(n m:Nat):BO (.vw L n m)=some (.vw L n m):=by simp [BO,D.hasObj]
theorem A2q(g:FuncId)(xs:List D):BO (.clo g xs)=some (.clo g xs):=by simp [BO,D.hasObj]
theorem dl2(a b:Nat)(l:AA):List.dropLast (a::b::l)=a::List.dropLast (b::l):=nr rfl
theorem dl1(a:Nat):List.dropLast [a]=[]:=nr rfl
theorem AAU(r c:Nat)(p:AA):s.get (r::c::p)=BK (s.v r) (c::p):=nr rfl
theorem Yi: ∀(ds xs:List D),xs.length=ds.length→BR xs 0 ds=ds:=by
 have key: ∀(ds pre xs:List D),xs.length=ds.length→BR (pre++xs) pre.length ds=pre++ds:=by
  intro ds
  induction ds with
  |nil=>intro pre xs h;simp at h;subst h;rfl
  |cons d ds ih=>
   intro pre xs h
   cases xs with
   |nil=>simp at h
   |cons x xs=>
    simp only [BR]
    have:=ih (pre++[d]) xs (by simpa using h)
    simpa using this
 intro ds xs h
 simpa using key ds [] xs h
def sw1(T:Tys)(pm:Pm)(t:TypeId)(u:Tmp)(ds:List D)(s:St):D→Option St
 | .box xs=>if T.known t&&T.isStruct t&&pm.wr u&&ds.all BX&&(T.size t==ds.length)&&(xs.length==ds.length)then(if AU ds||AU xs then some ((s.set [u] (.box ds)).bump u)else some (s.set [u] (.box ds)))else TY T pm t (.tmp u) (some (.agg ds,s))
 |_=>TY T pm t (.tmp u) (some (.agg ds,s))
theorem AAV(u:Tmp)(ds:List D):TY T pm t (.tmp u) (some (.agg ds,s))=sw1 T pm t u ds s (s.v u):=by
 cases hv:s.v u<;>simp only [sw1]
 rename_i xs
 split
 ·rename_i hc
  simp only [Bool.and_eq_true,beq_iff_eq]at hc
  obtain⟨⟨⟨⟨⟨hk,hs⟩,hw⟩,hd⟩,hz⟩,hl⟩:=hc
  have hz':T.size t≤xs.length:=by omega
  simp only [TY,ev,hv,Ee,D.asCells,D.isAgg,D.cells,D.withCells,hk,hs,hw,hd,hz,List.headD_cons,beq_self_eq_true,Bool.and_self,Nat.zero_add,D.hasObj]
  rw [Yi ds xs hl]
  have h2:ds.length≤xs.length:=by omega
  simp only [h2,decide_true,Bool.and_self,if_true]
  split<;>first|rfl|(rename_i hq;simp only [hq];rfl)
 ·rfl
theorem AAW(u:Tmp)(ds xs:List D)(hk:T.known t=true)(hs:T.isStruct t=true)(hw:pm.wr u=true)(hd:ds.all BX=true)(hz:T.size t=ds.length)(hl:xs.length=ds.length):
  sw1 T pm t u ds s (.box xs)=if AU ds||AU xs then some ((s.set [u] (.box ds)).bump u)else some (s.set [u] (.box ds)):=by
 simp [sw1,hk,hs,hw,hd,hz,hl]
def mo(T:Tys)(s:St)(t:Tmp)(ty:TypeId):D→Option (D×St)
 | .box xs=>if T.isStruct ty then(if xs.length=T.size ty then td1 (Dt Pm.all (s.clr t) xs)else none)else(match xs with| [d]=>BQ Pm.all (s.clr t) d|_=>none)
 | .cptr xs=>if T.isStruct ty then(if xs.length=T.size ty then some (.agg xs,s)else none)else(match xs with| [d]=>some (d,s)|_=>none)
 |_=>none
theorem uu(u:Tmp)(hk:T.known ty=true):QF T s (.cell u ty)=mo T s u ty (s.v u):=by
 simp only [QF,hk,if_true,mo]
 cases s.v u with
 |box xs=>
  simp only
  split
  ·split
   ·cases Dt Pm.all (s.clr u) xs<;>rfl
   ·rfl
  ·rfl
 |_=>rfl
theorem AAX(u:Tmp)(xs:List D)(hs:T.isStruct ty=true)(hl:xs.length=T.size ty):mo T s u ty (.box xs)=td1 (Dt Pm.all (s.clr u) xs):=by simp [mo,hs,hl]
theorem AAY(u:Tmp)(d:D)(hs:T.isStruct ty=false):mo T s u ty (.box [d])=BQ Pm.all (s.clr u) d:=by simp [mo,hs]
theorem AAZ(u:Tmp)(d:D)(hs:T.isStruct ty=false):mo T s u ty (.cptr [d])=some (d,s):=by simp [mo,hs]
def cp1(pm:Pm)(s:St)(u:Tmp)(rest:List Operand):D→Option (List D×St)
 | .box xs=>match Bz xs with
  |some ys=>if pm.wr u then(JA pm (s.set [u] (.cptr ys)) rest).map fun r=>(.cptr ys::r.1,r.2)else none
  |none=>none
 | .cptr ys=>(JA pm s rest).map fun r=>(.cptr ys::r.1,r.2)
 |_=>none
theorem A2s:JA pm s []=some ([],s):=nr rfl
theorem A2t(u:Tmp)(rest:List Operand):JA pm s (.tmp u::rest)=cp1 pm s u rest (s.v u):=by
 simp only [JA]
 cases s.v u<;>rfl
def cp2(pm:Pm)(s:St)(u:Tmp)(rest:List Operand):Option (List D)→Option (List D×St)
 |some ys=>if pm.wr u then(JA pm (s.set [u] (.cptr ys)) rest).map fun r=>(.cptr ys::r.1,r.2)else none
 |none=>none
theorem AAb(u:Tmp)(rest:List Operand)(xs:List D):cp1 pm s u rest (.box xs)=cp2 pm s u rest (Bz xs):=by
 simp only [cp1];cases Bz xs<;>rfl
theorem AAc(u:Tmp)(rest:List Operand)(ys:List D)(hw:pm.wr u=true):cp2 pm s u rest (some ys)=(JA pm (s.set [u] (.cptr ys)) rest).map fun r=>(.cptr ys::r.1,r.2):=by simp [cp2,hw]
theorem AAd(u:Tmp)(rest:List Operand)(ys:List D):cp1 pm s u rest (.cptr ys)=(JA pm s rest).map fun r=>(.cptr ys::r.1,r.2):=nr rfl
def clN(E:Env)(pm:Pm)(s:St)(dst:Option Tmp)(args:Array Operand)(ts:Array TypeId):D→Option St
 | .clo f caps=>if args.size=ts.size then F8 E pm s dst f (args.toList.zip ts.toList) caps else none
 | .ocl false f caps=>if args.size=ts.size then JR E pm s dst f (args.toList.zip ts.toList) caps else none
 |_=>none
theorem uw(u:Tmp)(args:Array Operand)(ts:Array TypeId):IK E pm s dst (.call ⟨.value (.tmp u),args,ts⟩) ty=clN E pm s dst args ts (s.v u):=by
 rw [bO];cases s.v u<;>first|rfl|(rename_i b _ _;cases b<;>rfl)
theorem AAe(args:Array Operand)(ts:Array TypeId)(f':FuncId)(caps:List D)(h:args.size=ts.size):clN E pm s dst args ts (.clo f' caps)=F8 E pm s dst f' (args.toList.zip ts.toList) caps:=by simp [clN,h]
def mf0(f:FuncId)(dst:Option Tmp):Option (List D×St)→Option St
 |some r=>some (r.2.putO dst (.clo f r.1))
 |none=>none
theorem AAf(g:FuncId)(xs:List D):mf0 g dst (some (xs,s))=some (s.putO dst (.clo g xs)):=nr rfl
def mfV(f:FuncId)(dst:Option Tmp):Option (List D×St)→Option St
 |some r=>some (r.2.putO dst (.ocl false f r.1))
 |none=>none
theorem AAg(g:FuncId)(xs:List D):mfV g dst (some (xs,s))=some (s.putO dst (.ocl false g xs)):=nr rfl
theorem yMf(g:FuncId)(captured:Array Operand):IK E pm s dst (.makeFunc (.func g) #[] captured) ty=if ty<3000000 then mf0 g dst (JA pm s captured.toList)else mfV g dst (Q7 pm s (ty-3000000) captured.toList):=by
 rw [Ue]
 simp only [List.isEmpty_toArray,List.isEmpty_nil,if_true]
 by_cases h:ty<3000000
 ·rw [if_pos h,if_pos h]
  cases JA pm s captured.toList<;>rfl
 ·rw [if_neg h,if_neg h]
  cases Q7 pm s (ty-3000000) captured.toList<;>rfl
def cvp(l:List Operand):Option (List D×St)→Option (List D×St)
 |none=>none
 |some (_,s1)=>(LF s1 l).map fun ds=>(ds,s1)
theorem cvE(m:Nat)(l:List Operand):Q7 pm s m l=cvp l (JA pm s (GY m 0 l)):=by
 unfold Q7 cvp
 rcases JA pm s (GY m 0 l)with _|⟨ys,s1⟩<;>rfl
def cvq(s:St):Option (List D)→Option (List D×St)
 |some ds=>some (ds,s)
 |none=>none
theorem AAh(l:List Operand)(ys:List D):cvp l (some (ys,s))=cvq s (LF s l):=by
 simp only [cvp];cases LF s l<;>rfl
theorem AAi(ds:List D):cvq s (some ds)=some (ds,s):=nr rfl
theorem umN(m i:Nat):GY m i []=[]:=nr rfl
theorem umC(m i:Nat)(x:Operand)(xs:List Operand):GY m i (x::xs)=if m / 2 ^ i % 2=1 then GY m (i+1) xs else x::GY m (i+1) xs:=by
 rw [GY,Nat.testBit_eq_decide_div_mod_eq]
 by_cases h:m / 2 ^ i % 2=1<;>simp [h]
def ce1(s:St)(u:Tmp)(r:Option (List D)):D→Option (List D)
 | .box _=>r.map (Xn s [u]:: ·)
 | .cptr ys=>r.map (.cptr ys:: ·)
 |_=>none
theorem ceN:LF s []=some []:=nr rfl
theorem ceT(u:Tmp)(rest:List Operand):LF s (.tmp u::rest)=ce1 s u (LF s rest) (s.v u):=by
 simp only [LF]
 cases s.v u<;>rfl
theorem AAk(u:Tmp)(l xs:List D):ce1 s u (some l) (.box xs)=some (Xn s [u]::l):=nr rfl
theorem AAl(u:Tmp)(l ys:List D):ce1 s u (some l) (.cptr ys)=some (.cptr ys::l):=nr rfl
def uy(T:Tys)(pm:Pm)(s:St)(t:TypeId)(t0:Tmp):D→D→Option St
 | .box [_], .ocl false f xs=>if T.known t&& !T.isStruct t&&(T.size t==1)&&pm.rd t0&&pm.wr t0 then some (s.set [t0] (.ocl true f (xs.map (Gb s t0))))else none
 |_,_=>none
theorem AAm(T:Tys)(t0 u:Tmp):P7 T pm s t (.tmp t0) (.tmp u)=uy T pm s t t0 (s.v t0) (s.v u):=by
 show(match s.v t0,s.v u with
  | .box [_], .ocl false f xs=>if T.known t&& !T.isStruct t&&(T.size t==1)&&pm.rd t0&&pm.wr t0 then some (s.set [t0] (.ocl true f (xs.map (Gb s t0))))else none
  |_,_=>none)=_
 rfl
theorem AAn(T:Tys)(t0:Tmp)(x:D)(f:FuncId)(xs:List D)(hk:T.known t=true)(hs:T.isStruct t=false)(hz:T.size t=1)(hr:pm.rd t0=true)(hw:pm.wr t0=true):
  uy T pm s t t0 (.box [x]) (.ocl false f xs)=some (s.set [t0] (.ocl true f (xs.map (Gb s t0)))):=by simp [uy,hk,hs,hz,hr,hw]
theorem utV(t0 r n m:Nat):Gb s t0 (.vw [r] n m)=if r=t0 then(if n=s.k t0 then .undef else .vw [r] n m)else .vw [r] n m:=by
 unfold Gb
 by_cases h:r=t0<;>by_cases h2:n=s.k t0<;>simp [h,h2]
theorem utC(t0:Nat)(ys:List D):Gb s t0 (.cptr ys)= .cptr ys:=nr rfl
theorem ldO(T:Tys)(x:Operand)(f:FuncId)(xs:List D)(hk:T.known t=true)(hs:T.isStruct t=false):DV T pm s t x (.ocl true f xs)=some (.ocl false f xs):=by simp [DV,hk,hs]
def co2(E:Env)(pm:Pm)(s:St)(dst:Option Tmp)(f:FuncId)(as:List D)(ls:List (AA×D)):Option (List D×List (AA×D))→Option St
 |none=>none
 |some (cs,lc)=>
  if Di ((ls++lc).map (·.1))&&(ls++lc).all (fun l=>pm.wr (l.1.headD 0))&&(ls++lc).all (fun l=>U5 l.2)then
   xF s dst (ls++lc) (E.call f (as++cs.map (Gr f cs)) ((ls++lc).map (·.2)))
  else none
def co1(E:Env)(pm:Pm)(s:St)(dst:Option Tmp)(f:FuncId)(caps:List D):Option (List D×List (AA×D))→Option St
 |none=>none
 |some (as,ls)=>co2 E pm s dst f as ls (Ce pm s ls.length caps)
theorem coE(f:FuncId)(xs:List (Operand×TypeId))(caps:List D):JR E pm s dst f xs caps=co1 E pm s dst f caps (Cs E true pm s 0 xs):=by
 unfold JR co1
 rcases Cs E true pm s 0 xs with _|⟨as,ls⟩
 ·rfl
 ·simp only
  unfold co2
  rcases Ce pm s ls.length caps with _|⟨cs,lc⟩
  ·rfl
  ·simp only
   split
   ·unfold xF
    rcases E.call f (as++cs.map (Gr f cs)) ((ls++lc).map (·.2))with _|⟨r,o⟩<;>rfl
   ·rfl
theorem AAp(f:FuncId)(caps as:List D)(ls:List (AA×D)):co1 E pm s dst f caps (some (as,ls))=co2 E pm s dst f as ls (Ce pm s ls.length caps):=nr rfl
theorem AAq(f:FuncId)(as cs:List D)(ls lc:List (AA×D))(h:(Di ((ls++lc).map (·.1))&&(ls++lc).all (fun l=>pm.wr (l.1.headD 0))&&(ls++lc).all (fun l=>U5 l.2))=true):
  co2 E pm s dst f as ls (some (cs,lc))=xF s dst (ls++lc) (E.call f (as++cs.map (Gr f cs)) ((ls++lc).map (·.2))):=by simp only [co2,h,if_true]
def mq(a:D)(l:List (AA×D)):Option (List D×List (AA×D))→Option (List D×List (AA×D))
 |some r=>some (a::r.1,l++r.2)
 |none=>none
theorem AAr(a:D)(l:List (AA×D))(r:List D)(m:List (AA×D)):mq a l (some (r,m))=some (a::r,l++m):=nr rfl
def oa1(pm:Pm)(s:St)(j:Nat)(L:AA)(rest:List D):Option D→Option (List D×List (AA×D))
 |some c=>mq (.vw [G+j] 0 0) [(L,c)] (Ce pm s (j+1) rest)
 |none=>none
theorem AAt(j:Nat)(L:AA)(rest:List D)(c:D):oa1 pm s j L rest (some c)=mq (.vw [G+j] 0 0) [(L,c)] (Ce pm s (j+1) rest):=nr rfl
theorem oaN(j:Nat):Ce pm s j []=some ([],[]):=nr rfl
theorem oaV(j:Nat)(L:AA)(n m:Nat)(rest:List D):Ce pm s j (.vw L n m::rest)=oa1 pm s j L rest (s.look pm L n m):=by
 rw [Ce]
 cases s.look pm L n m with
 |none=>rfl
 |some c=>simp only [oa1];rcases Ce pm s (j+1) rest with _|⟨a,b⟩<;>rfl
theorem oaC(j:Nat)(ys rest:List D):Ce pm s j (.cptr ys::rest)=mq (.cptr ys) [] (Ce pm s j rest):=by
 rw [Ce]
 rcases Ce pm s j rest with _|⟨a,b⟩<;>rfl
theorem oaU(j:Nat)(rest:List D):Ce pm s j (.undef::rest)=mq .undef [] (Ce pm s j rest):=by
 rw [Ce]
 rcases Ce pm s j rest with _|⟨a,b⟩<;>rfl
theorem saU(f:FuncId)(cs:List D):Gr f cs .undef= .ocl true f cs:=nr rfl
theorem saV(f:FuncId)(cs:List D)(L:AA)(n m:Nat):Gr f cs (.vw L n m)= .vw L n m:=nr rfl
theorem saC(f:FuncId)(cs ys:List D):Gr f cs (.cptr ys)= .cptr ys:=nr rfl
theorem AAu(args:Array Operand)(ts:Array TypeId)(f':FuncId)(caps:List D)(h:args.size=ts.size):clN E pm s dst args ts (.ocl false f' caps)=JR E pm s dst f' (args.toList.zip ts.toList) caps:=by simp [clN,h]
theorem bY(g:FuncId):CG (.clo g [])=false:=by simp [CG]
def bn1(dflt:Nat):Option D→Option Nat
 |some (.int _ n)=>if 0≤n then some n.toNat else none
 |_=>none
theorem bnN(n:Nat):K9 T s n none=some n:=nr rfl
theorem bnS(n:Nat)(x:Operand):K9 T s n (some x)=bn1 n (ev T s 0 x):=by
 simp only [K9]
 rcases ev T s 0 x with _|d
 ·rfl
 ·cases d<;>rfl
theorem AAw(n:Nat)(k:IntKind)(i:Int)(h:0≤i):bn1 n (some (.int k i))=some i.toNat:=by simp [bn1,h]
def uz(T:Tys)(pm:Pm)(s:St)(x:Operand)(d:D)(lo hi mx:Option Operand):Ty→Option (D×St)
 | .slice e'=>match Bd pm s x d with
  |none=>none
  |some (e,xs,o)=>
   match K9 T s 0 lo,K9 T s (T.len e xs) hi with
   |some l,some h=>
    if e'=e∧T.known e=true∧l≤h∧h≤T.len e xs then
     if mx.isSome then
      match K9 T s 0 mx with
      |some q=>if l=h∧h=q∧hi.isSome=true then some (.own e [],s)else none
      |none=>none
     else match o with
      |none=>some (.sl e ((xs.take (h*T.size e)).drop (l*T.size e)),s)
      |some (L,va,vb)=>
       if pm.wr (L.headD 0)then
        match Bz xs with
        |some ys=>some (.sl e ((ys.take (h*T.size e)).drop (l*T.size e)),s.set L (.sl e ys))
        |none=>none
       else Q5 L va vb e l h s
    else none
   |_,_=>none
 | .string=>match d with
  | .str b=>match K9 T s 0 lo,K9 T s b.size hi with
   |some l,some h=>if l≤h∧h≤b.size∧mx.isNone then some (.str (b.extract l h),s)else none
   |_,_=>none
  |_=>none
 |_=>none
theorem slT(x:Operand)(d:D)(lo hi mx:Option Operand):GD T pm s t x d lo hi mx=uz T pm s x d lo hi mx (T.ty t):=by
 unfold GD uz
 cases T.ty t<;>first|rfl|(cases d<;>rfl)
def vB(T:Tys)(pm:Pm)(s:St)(e:TypeId)(xs:List D)(o:Option (AA×Nat×Nat)):Option Nat→Option Nat→Option (D×St)
 |some l,some h=>
  if l≤h∧h≤xs.length then
   match o with
   |none=>some (.sl e ((xs.take h).drop l),s)
   |some (L,va,vb)=>
    if pm.wr (L.headD 0)then
     match Bz xs with
     |some ys=>some (.sl e ((ys.take h).drop l),s.set L (.sl e ys))
     |none=>none
    else Q5 L va vb e l h s
  else none
 |_,_=>none
def sl2(T:Tys)(pm:Pm)(s:St)(e':TypeId)(lo hi:Option Operand):Option (TypeId×List D×Option (AA×Nat×Nat))→Option (D×St)
 |some (e,xs,o)=>if e'=e∧T.known e=true then vB T pm s e xs o (K9 T s 0 lo) (K9 T s xs.length hi)else none
 |none=>none
theorem AAx(x:Operand)(d:D)(lo hi:Option Operand)(e:TypeId)(hz:T.isStruct e=false):uz T pm s x d lo hi none (.slice e)=sl2 T pm s e lo hi (Bd pm s x d):=by
 have h1:=Ht hz
 simp only [uz,sl2,Option.isSome_none,Bool.false_eq_true,if_false]
 rcases Bd pm s x d with _|⟨e',xs,o⟩
 ·rfl
 ·simp only
  by_cases he:e=e'
  ·subst he
   simp only [true_and,h1,Nat.mul_one,Tys.len,if_true]
   cases K9 T s 0 lo<;>cases K9 T s xs.length hi<;>simp only [vB]<;>(by_cases hk:T.known e=true<;>simp [hk])
  ·simp only [he,false_and,if_false]
   cases K9 T s 0 lo<;>cases K9 T s (T.len e' xs) hi<;>rfl
def slB(s:St)(b:ByteArray):Option Nat→Option Nat→Option (D×St)
 |some l,some h=>if l≤h∧h≤b.size then some (.str (b.extract l h),s)else none
 |_,_=>none
theorem AAy(b:ByteArray)(l h:Nat)(h1:l≤h)(h2:h≤b.size):slB s b (some l) (some h)=some (.str (b.extract l h),s):=by simp [slB,h1,h2]
theorem AAz(x:Operand)(b:ByteArray)(lo hi:Option Operand):uz T pm s x (.str b) lo hi none .string=slB s b (K9 T s 0 lo) (K9 T s b.size hi):=by
 show(match K9 T s 0 lo,K9 T s b.size hi with
  |some l,some h=>if l≤h∧h≤b.size∧(none:Option Operand).isNone then some (D.str (b.extract l h),s)else none
  |_,_=>none)=_
 cases K9 T s 0 lo<;>cases K9 T s b.size hi<;>simp [slB]
theorem AB0(e:TypeId)(lo hi:Option Operand)(xs:List D)(o:Option (AA×Nat×Nat))(hk:T.known e=true):sl2 T pm s e lo hi (some (e,xs,o))=vB T pm s e xs o (K9 T s 0 lo) (K9 T s xs.length hi):=by simp [sl2,hk]
theorem AB1(e:TypeId)(xs:List D)(l h:Nat)(h1:l≤h)(h2:h≤xs.length):vB T pm s e xs none (some l) (some h)=some (.sl e ((xs.take h).drop l),s):=by simp [vB,h1,h2]
def sl3(pm:Pm)(s:St)(e:TypeId)(L:AA)(a b l h:Nat)(o:Option (List D)):Option (D×St):=
 if pm.wr (L.headD 0)then
  match o with
  |some ys=>some (.sl e ((ys.take h).drop l),s.set L (.sl e ys))
  |none=>none
 else Q5 L a b e l h s
theorem AB2(e:TypeId)(xs:List D)(L:AA)(a b l h:Nat)(h1:l≤h)(h2:h≤xs.length):vB T pm s e xs (some (L,a,b)) (some l) (some h)=sl3 pm s e L a b l h (Bz xs):=by
 simp only [vB,h1,h2,and_self,if_true];rfl
theorem AB3(e:TypeId)(L:AA)(a b l h:Nat)(ys:List D)(hw:pm.wr (L.headD 0)=true):sl3 pm s e L a b l h (some ys)=some (.sl e ((ys.take h).drop l),s.set L (.sl e ys)):=by simp only [sl3];rw [if_pos hw]
theorem AB4(e:TypeId)(L:AA)(a b l h:Nat)(o:Option (List D))(hw:pm.wr (L.headD 0)=false):sl3 pm s e L a b l h o=some (.vs e L a b l (h-l),s):=by simp only [sl3];rw [if_neg (by rw [hw];decide)];rfl
theorem A2x(r:Nat):pm.see.rd r=pm.rd r:=nr rfl
theorem A2y(r:Nat):pm.see.wr r=false:=nr rfl
theorem AB5(u:Tmp):qF pm (.tmp u)=pm.wr u:=nr rfl
def ct2(e:TypeId)(xs:List D)(s1:St):Option Nat→Option (D×St)
 |some h=>if h≤xs.length then some (.own e (xs.take h),s1)else none
 |none=>none
def ct1(T:Tys)(s:St)(e':TypeId)(hi:Option Operand):Option (D×St)→Option (D×St)
 |some (.own e xs,s1)=>
  match K9 T s (T.len e xs) hi with
  |some h=>if e'=e∧T.known e=true∧h≤T.len e xs then some (.own e (xs.take (h*T.size e)),s1)else none
  |none=>none
 |_=>none
def ct0(T:Tys)(pm:Pm)(s:St)(t:TypeId)(x:Operand)(hi:Option Operand):Ty→Option (D×St)
 | .slice e=>ct1 T s e hi (if qF pm x then take T pm s t x else none)
 |_=>none
theorem ctT(x:Operand)(hi:Option Operand):LC T pm s t x hi=ct0 T pm s t x hi (T.ty t):=by
 unfold LC ct0 ct1
 cases T.ty t<;>rfl
theorem AB6(x:Operand)(hi:Option Operand)(e:TypeId)(hw:qF pm x=true):ct0 T pm s t x hi (.slice e)=ct1 T s e hi (take T pm s t x):=by
 unfold ct0;rw [if_pos hw]
theorem AB7(hi:Option Operand)(e:TypeId)(xs:List D)(s1:St)(hk:T.known e=true)(hz:T.isStruct e=false):ct1 T s e hi (some (.own e xs,s1))=ct2 e xs s1 (K9 T s xs.length hi):=by
 have h1:=Ht hz
 simp only [ct1,hk,true_and,h1,Nat.mul_one,Tys.len,if_true]
 cases K9 T s xs.length hi<;>rfl
theorem AB8(e:TypeId)(xs:List D)(s1:St)(h:Nat)(hle:h≤xs.length):ct2 e xs s1 (some h)=some (.own e (xs.take h),s1):=by
 show(if h≤xs.length then some (D.own e (xs.take h),s1)else none)=_
 rw [if_pos hle]
def cf2(e:TypeId)(xs:List D)(s1:St):Option Nat→Option (D×St)
 |some l=>if l≤xs.length then some (.own e (xs.drop l),s1)else none
 |none=>none
def cf1(T:Tys)(s:St)(e':TypeId)(lo:Option Operand):Option (D×St)→Option (D×St)
 |some (.own e xs,s1)=>
  match K9 T s 0 lo with
  |some l=>if e'=e∧T.known e=true∧l≤T.len e xs then some (.own e (xs.drop (l*T.size e)),s1)else none
  |none=>none
 |_=>none
def cf0(T:Tys)(pm:Pm)(s:St)(t:TypeId)(x:Operand)(lo:Option Operand):Ty→Option (D×St)
 | .slice e=>cf1 T s e lo (if qF pm x then take T pm s t x else none)
 |_=>none
theorem cfT(x:Operand)(lo:Option Operand):JO T pm s t x lo=cf0 T pm s t x lo (T.ty t):=by
 unfold JO cf0 cf1
 cases T.ty t<;>rfl
theorem AB9(x:Operand)(lo:Option Operand)(e:TypeId)(hw:qF pm x=true):cf0 T pm s t x lo (.slice e)=cf1 T s e lo (take T pm s t x):=by
 unfold cf0;rw [if_pos hw]
theorem ABA(lo:Option Operand)(e:TypeId)(xs:List D)(s1:St)(hk:T.known e=true)(hz:T.isStruct e=false):cf1 T s e lo (some (.own e xs,s1))=cf2 e xs s1 (K9 T s 0 lo):=by
 have h1:=Ht hz
 simp only [cf1,hk,true_and,h1,Nat.mul_one,Tys.len,if_true]
 cases K9 T s 0 lo<;>rfl
theorem ABB(e:TypeId)(xs:List D)(s1:St)(l:Nat)(hle:l≤xs.length):cf2 e xs s1 (some l)=some (.own e (xs.drop l),s1):=by
 show(if l≤xs.length then some (D.own e (xs.drop l),s1)else none)=_
 rw [if_pos hle]
def ca0(f:FuncId):Option (List D×List (AA×D))→Option (D×List (AA×D))
 |some r=>some (.clo f r.1,r.2)
 |none=>none
theorem ABD(f:FuncId)(cs:List D)(ls:List (AA×D)):ca0 f (some (cs,ls))=some (.clo f cs,ls):=nr rfl
def ca2(pm:Pm)(s:St)(L:AA)(c:D)(rest:List D):Option D→Option (List D×List (AA×D))
 |some c'=>mq c' [(L,c)] (JQ pm s rest)
 |none=>none
theorem ABE(L:AA)(c:D)(rest:List D)(c':D):ca2 pm s L c rest (some c')=mq c' [(L,c)] (JQ pm s rest):=nr rfl
def ca1(pm:Pm)(s:St)(L:AA)(rest:List D):Option D→Option (List D×List (AA×D))
 |some c=>ca2 pm s L c rest (CZ c)
 |none=>none
theorem ABG(L:AA)(rest:List D)(c:D):ca1 pm s L rest (some c)=ca2 pm s L c rest (CZ c):=nr rfl
theorem caN:JQ pm s []=some ([],[]):=nr rfl
theorem caV(L:AA)(n m:Nat)(rest:List D):JQ pm s (.vw L n m::rest)=ca1 pm s L rest (s.look pm L n m):=by
 rw [JQ]
 cases s.look pm L n m with
 |none=>rfl
 |some c=>
  simp only [ca1,ca2]
  cases CZ c with
  |none=>rfl
  |some c'=>simp only [Option.bind_some];rcases JQ pm s rest with _|⟨a,b⟩<;>rfl
theorem caC(ys rest:List D):JQ pm s (.cptr ys::rest)=mq (.cptr ys) [] (JQ pm s rest):=by
 rw [JQ]
 rcases JQ pm s rest with _|⟨a,b⟩<;>rfl
theorem A31(T:Tys)(L0:AA)(j:Nat)(f:FuncId)(caps:List D):IR T false pm s j L0 (.ocl false f caps)=ca0 f (JQ pm s caps):=by
 show(if(false||false)=true then none else(JQ pm s caps).map fun r=>(D.clo f r.1,r.2))=_
 rw [if_neg (by decide)]
 unfold ca0
 rcases JQ pm s caps with _|⟨a,b⟩<;>rfl
def xO(T:Tys)(e:TypeId)(L:AA)(lo len:Nat):Option D→Option (D×List (AA×D))
 |some (.own e' xs)=>
  if e'=e∧T.known e=true∧(lo+len)*T.size e≤xs.length then
   (Bz xs).map fun ys=>(.sl e ((ys.drop (lo*T.size e)).take (len*T.size e)),[(L, .own e' xs)])
  else none
 |_=>none
theorem ABH(e:TypeId)(L L0:AA)(n m lo len j:Nat):IR T false pm s j L0 (.vs e L n m lo len)=xO T e L lo len (s.look pm L n m):=by
 show Sy T pm s e L n m lo len=_
 unfold Sy xO
 rcases s.look pm L n m with _|d
 ·rfl
 ·cases d<;>rfl
def va2(e:TypeId)(L:AA)(lo len:Nat)(xs:List D):Option (List D)→Option (D×List (AA×D))
 |some ys=>some (.sl e ((ys.drop lo).take len),[(L, .own e xs)])
 |none=>none
theorem ABK(e:TypeId)(L:AA)(l h:Nat)(xs:List D)(hk:T.known e=true)(hz:T.isStruct e=false)(h1:l≤h)(h2:h≤xs.length):xO T e L l (h-l) (some (.own e xs))=va2 e L l (h-l) xs (Bz xs):=by
 have h3:=Ht hz
 unfold xO
 simp only [h3,Nat.mul_one]
 rw [if_pos ⟨trivial,hk,by omega⟩]
 cases Bz xs<;>rfl
theorem ABL(e:TypeId)(L:AA)(lo len:Nat)(xs:List D)(hk:T.known e=true)(hz:T.isStruct e=false)(h1:lo+len≤xs.length):xO T e L lo len (some (.own e xs))=va2 e L lo len xs (Bz xs):=by
 have h3:=Ht hz
 unfold xO
 simp only [h3,Nat.mul_one]
 rw [if_pos ⟨trivial,hk,h1⟩]
 cases Bz xs<;>rfl
theorem ABM(e:TypeId)(L:AA)(lo len:Nat)(xs ys:List D):va2 e L lo len xs (some ys)=some (.sl e ((ys.drop lo).take len),[(L, .own e xs)]):=nr rfl
theorem A32(x y:Tmp)(t':TypeId):IK E pm s dst (.call ⟨.builtin .copy, #[.tmp x, .tmp y], #[t,t']⟩) ty=Qy dst (KY E.T pm s t (.tmp x) (.tmp y) (s.v x) (s.v y)):=JW dst _
def lH(T:Tys)(pm:Pm)(s:St)(t:TypeId):Option (TypeId×AA×List D×Nat×Nat)→Option (TypeId×List D)→Option (D×St)
 |some (e,L,xs,lo,len),some (e',ys)=>
  if T.isSl t e&&(e==e')&&T.known e&&(T.size e==1)&& !AU xs&& !AU ys&&ys.all BX&&pm.wr (L.headD 0)then
   some (.int .i64 (min len ys.length:Nat),s.set L (.own e (BR xs lo (ys.take (min len ys.length)))))
  else none
 |_,_=>none
theorem ABN(x y:Operand)(a b:D):KY T pm s t x y a b=lH T pm s t (NL pm s x a) (Pb pm s y b):=by
 unfold KY lH
 rcases NL pm s x a with _|⟨_,_,_,_,_⟩<;>rcases Pb pm s y b with _|⟨_,_⟩<;>rfl
theorem ABO(e:TypeId)(L:AA)(xs ys:List D)(lo len:Nat)(h1:T.isSl t e=true)(h2:T.known e=true)(h3:T.size e=1)(h4:AU xs=false)(h5:AU ys=false)(h6:ys.all BX=true)(h7:pm.wr (L.headD 0)=true):
  lH T pm s t (some (e,L,xs,lo,len)) (some (e,ys))=some (.int .i64 (min len ys.length:Nat),s.set L (.own e (BR xs lo (ys.take (min len ys.length))))):=by
 unfold lH
 dsimp only
 rw [if_pos (by rw [h1,h2,h3,h4,h5,h6,h7];simp)]
theorem vC(x:Tmp):IK E pm s dst (.call ⟨.builtin .clear, #[.tmp x], #[t]⟩) ty=Qy dst (J9 E.T pm s t (.tmp x) (s.v x)):=JW dst _
def lI(T:Tys)(pm:Pm)(s:St)(t:TypeId):Option (TypeId×AA×List D×Nat×Nat)→Option (D×St)
 |some (e,L,xs,lo,len)=>
  if T.isSl t e&&T.known e&&(T.size e==1)&& !T.isStruct e&&BX (T.zero1 e)&&pm.wr (L.headD 0)then
   some (.tup [],(s.set L (.own e (BR xs lo (List.replicate len (T.zero1 e))))).bump (L.headD 0))
  else none
 |none=>none
theorem ABP(x:Operand)(a:D):J9 T pm s t x a=lI T pm s t (NL pm s x a):=by
 unfold J9 lI
 rcases NL pm s x a with _|⟨_,_,_,_,_⟩<;>rfl
theorem ABQ(e:TypeId)(L:AA)(xs:List D)(lo len:Nat)(h1:T.isSl t e=true)(h2:T.known e=true)(h3:T.isStruct e=false)(h5:BX (T.zero1 e)=true)(h7:pm.wr (L.headD 0)=true):
  lI T pm s t (some (e,L,xs,lo,len))=some (.tup [],(s.set L (.own e (BR xs lo (List.replicate len (T.zero1 e))))).bump (L.headD 0)):=by
 have h8:=Ht h3
 unfold lI
 dsimp only
 rw [if_pos (by rw [h1,h2,h3,h5,h7,h8];simp)]
def vD(e:TypeId):Ty→Bool
 | .slice e'=>e'==e
 |_=>false
theorem ABR(e:TypeId):T.isSl t e=vD e (T.ty t):=by unfold Tys.isSl vD;cases T.ty t<;>rfl
theorem ABS(e e':TypeId):vD e (.slice e')=(e'==e):=nr rfl
def dv0:Option (TypeId×List D×Option (AA×Nat×Nat))→Option (TypeId×AA×List D×Nat×Nat)
 |some (e,xs,some (L,_,_))=>some (e,L,xs,0,xs.length)
 |_=>none
theorem ABU(e:TypeId)(xs:List D)(L:AA)(a b:Nat):dv0 (some (e,xs,some (L,a,b)))=some (e,L,xs,0,xs.length):=nr rfl
theorem dvW(x:Operand)(L:AA)(n m:Nat):NL pm s x (.vw L n m)=dv0 (Bd pm s x (.vw L n m)):=by
 show(match Bd pm s x (.vw L n m)with|some (e,xs,some (L,_,_))=>some (e,L,xs,0,xs.length)|_=>none)=_
 rcases Bd pm s x (.vw L n m)with _|⟨_,_,_|⟨_,_,_⟩⟩<;>rfl
theorem dvO(x:Operand)(e:TypeId)(xs:List D):NL pm s x (.own e xs)=dv0 (Bd pm s x (.own e xs)):=by
 show(match Bd pm s x (.own e xs)with|some (e,xs,some (L,_,_))=>some (e,L,xs,0,xs.length)|_=>none)=_
 rcases Bd pm s x (.own e xs)with _|⟨_,_,_|⟨_,_,_⟩⟩<;>rfl
def dv1(e:TypeId)(L:AA)(lo len:Nat):Option D→Option (TypeId×AA×List D×Nat×Nat)
 |some (.own e' xs)=>if e'=e∧lo+len≤xs.length then some (e,L,xs,lo,len)else none
 |_=>none
theorem dvS(x:Operand)(e:TypeId)(L:AA)(n m lo len:Nat):NL pm s x (.vs e L n m lo len)=dv1 e L lo len (s.look pm L n m):=by
 show(match s.look pm L n m with|some (.own e' xs)=>if e'=e∧lo+len≤xs.length then some (e,L,xs,lo,len)else none|_=>none)=_
 rcases s.look pm L n m with _|d
 ·rfl
 ·cases d<;>rfl
theorem ABW(e:TypeId)(L:AA)(lo len:Nat)(xs:List D)(h:lo+len≤xs.length):dv1 e L lo len (some (.own e xs))=some (e,L,xs,lo,len):=by simp [dv1,h]
def sv0:Option (TypeId×List D×Option (AA×Nat×Nat))→Option (TypeId×List D)
 |some (e,xs,_)=>some (e,xs)
 |_=>none
theorem ABY(e:TypeId)(xs:List D)(o:Option (AA×Nat×Nat)):sv0 (some (e,xs,o))=some (e,xs):=nr rfl
theorem svW(x:Operand)(L:AA)(n m:Nat):Pb pm s x (.vw L n m)=sv0 (Bd pm s x (.vw L n m)):=by
 show(Bd pm s x (.vw L n m)).map (fun r=>(r.1,r.2.1))=_
 rcases Bd pm s x (.vw L n m)with _|⟨_,_,_⟩<;>rfl
theorem svO(x:Operand)(e:TypeId)(xs:List D):Pb pm s x (.own e xs)=sv0 (Bd pm s x (.own e xs)):=by
 show(Bd pm s x (.own e xs)).map (fun r=>(r.1,r.2.1))=_
 rcases Bd pm s x (.own e xs)with _|⟨_,_,_⟩<;>rfl
theorem svL(x:Operand)(e:TypeId)(xs:List D):Pb pm s x (.sl e xs)=some (e,xs):=nr rfl
def sv1(e:TypeId)(lo len:Nat):Option D→Option (TypeId×List D)
 |some (.own e' xs)=>if e'=e∧lo+len≤xs.length then some (e,(xs.drop lo).take len)else none
 |_=>none
theorem svS(x:Operand)(e:TypeId)(L:AA)(n m lo len:Nat):Pb pm s x (.vs e L n m lo len)=sv1 e lo len (s.look pm L n m):=by
 show(match s.look pm L n m with|some (.own e' xs)=>if e'=e∧lo+len≤xs.length then some (e,(xs.drop lo).take len)else none|_=>none)=_
 rcases s.look pm L n m with _|d
 ·rfl
 ·cases d<;>rfl
theorem ABa(e:TypeId)(lo len:Nat)(xs:List D)(h:lo+len≤xs.length):sv1 e lo len (some (.own e xs))=some (e,(xs.drop lo).take len):=by simp [sv1,h]
theorem ABb(x:Tmp)(e:TypeId)(L:AA)(n m lo len:Nat):Bg s dst (.tmp x) (.vs e L n m lo len)=s.putO dst (.vs e L n m lo len):=nr rfl
theorem A33(x:Tmp)(e:TypeId)(L:AA)(n m lo len:Nat):N8 pm x (.vs e L n m lo len)=true:=by simp [N8,D.hasObj]
theorem ABc(e:TypeId)(L:AA)(n m lo len:Nat):(D.vs e L n m lo len).hasObj=false:=by simp [D.hasObj]
theorem ABd(x:Operand)(d:D)(e:TypeId)(hk:T.known e=true):uz T pm s x d none (some (.const (.int .i64 0))) (some (.const (.int .i64 0))) (.slice e)=match Bd pm s x d with|some (e',_,_)=>if e=e' then some (.own e [],s)else none|none=>none:=by
 simp only [uz]
 rcases Bd pm s x d with _|⟨e',xs,o⟩
 ·rfl
 ·simp only [K9,ev,Ml,Int.le_refl,if_true,Int.toNat_zero,Nat.zero_le,and_true,Option.isSome_some,true_and]
  by_cases he:e=e'
  ·subst he;simp [hk]
  ·simp [he]
end
end Dv
namespace Dv
open Go
set_option maxRecDepth 10000
set_option linter.defProp false
theorem geq:G=100000:=nr rfl
def AL:=And.intro (And.intro @A6j (And.intro @yP @A7P)) (And.intro @A32 (And.intro @vC (And.intro @A7O (
 And.intro @A7S (
 And.intro @A7T (
 And.intro @A6b (
 And.intro @A6c (
 And.intro @xw (
 And.intro @xy (
 And.intro (And.intro @qa (And.intro @qb @qc)) (
 And.intro @AAA (
 And.intro @yMf (
 And.intro @uw (
 And.intro @A6m (
 And.intro @yU (
 And.intro @A6k (
 And.intro @qw (
 And.intro @yV (
 And.intro @yZ (
 And.intro @qx (
 And.intro @yI (
 And.intro @yJ (
 And.intro @A6g (
 And.intro @qy (
 And.intro @qz (
 And.intro @rA (
 And.intro @A6o (
 And.intro @A6p (
 And.intro @A6q (
 And.intro @A6r (
 And.intro @A6s (
 And.intro @A6t (
 And.intro @yc (
 And.intro @yf (
 And.intro @YY (
 And.intro @Wi (
 And.intro @A03 (
 And.intro @kW (
 And.intro @fw (
 And.intro @rV (
 And.intro @A04 (
 And.intro @yUn (
 And.intro @rW (
 And.intro @A7N (
 And.intro @gB (
 And.intro @rX (
 And.intro @kX (
 And.intro @rY (
 And.intro @A0A (
 And.intro (And.intro @gD @A7f) (
 And.intro @A0C (
 And.intro @fM (
 And.intro @bM (
 And.intro @bK (
 And.intro @ug (
 And.intro @yBs (@Uf)))))))))))))))))))))))))))))))))))))))))))))))))))))))))
def AB:=And.intro (And.intro (And.intro @A6v (And.intro @qp (And.intro @qo (And.intro @loS (And.intro @yQ (And.intro @yR @yS)))))) (And.intro @fnI (And.intro @yK (And.intro @yM (And.intro @yN (And.intro @yO (And.intro @A6h (And.intro @A6i (And.intro @A9s (And.intro @yBv (And.intro @A9t (And.intro @fvN (And.intro @fvC (And.intro @A9v (And.intro @A9w (And.intro @A9x (And.intro @A2X (And.intro @A9y (And.intro @uf (And.intro @A2a (And.intro @A2b (And.intro @ySk (And.intro @A9z (@AA0)))))))))))))))))))))))) (And.intro @A71 (And.intro @A7g (And.intro @A7h (And.intro @A7i (And.intro @A7Z (And.intro A9i (And.intro @A7p (And.intro @A7q (And.intro @ru (And.intro @A0P (And.intro @ry (And.intro @rg8 (And.intro @rg9 (And.intro @AAN (And.intro @AAO (And.intro @AAP (And.intro @A99 (And.intro @A9A (And.intro @A9B (And.intro @A9C (And.intro @su (And.intro @A8C (And.intro @A8D (And.intro @sw (And.intro @faE (And.intro @foN (And.intro @AA1 (And.intro @AA2 (And.intro @A2d (And.intro @uh (And.intro @AA5 (And.intro @AA6 (And.intro (And.intro @fnO @fnA) (And.intro @spN (And.intro @spC (And.intro @cfT (And.intro @AB9 (And.intro @ABA (And.intro @ABB (And.intro @ym (And.intro @AAg (And.intro @cvE (And.intro @AAh (And.intro @AAi (And.intro @umN (And.intro @umC (And.intro @ceN (And.intro @ceT (And.intro @AAk (And.intro @AAl (And.intro @AAm (And.intro @AAn (And.intro @utV (And.intro @utC (And.intro @ldO (And.intro @coE (And.intro @AAp (And.intro @AAq (And.intro @AAr (And.intro @AAt (And.intro @oaN (And.intro @oaV (And.intro @oaC (And.intro @oaU (And.intro @saU (And.intro @saV (And.intro @saC (And.intro @AAu (And.intro @A7K (And.intro @A7L (And.intro @A7M (And.intro @ABP (And.intro @ABQ (And.intro @A6a (And.intro @A7G (And.intro @ku (And.intro @sZ (And.intro @A8A (And.intro @A8B (And.intro @A13 (And.intro @A8E (And.intro @A0L (And.intro @rq (And.intro @A0N (And.intro @rz (And.intro @A0Q (And.intro @A0R (And.intro @A0S (And.intro @sD (And.intro @A0T (And.intro @A0U (And.intro @A0V (And.intro @A0W (And.intro @AB4 (And.intro @A7F (And.intro @A7H (
 And.intro @A2x (
 And.intro @A2y (
 And.intro @AB5 (
 And.intro @ctT (
 And.intro @AB6 (
 And.intro @AB7 (
 And.intro @AB8 (
 And.intro (And.intro @ABH (And.intro @A31 (And.intro @ABD (And.intro @ABG (And.intro @ABE (And.intro @caN (And.intro @caV @caC))))))) (
 And.intro @ABK (
 And.intro @ABL (
 And.intro @ABM (
 And.intro @A1M (
 And.intro @tN (
 And.intro @A1N (
 And.intro @A8Z (
 And.intro @A1O (
 And.intro @tO (
 And.intro @axK (
 And.intro @A1P (
 And.intro @A1Q (
 And.intro @A8a (
 And.intro @A1R (
 And.intro @ABN (
 And.intro @ABO (
 And.intro @ABR (
 And.intro @ABS (
 And.intro @ABU (
 And.intro @dvW (
 And.intro @dvO (
 And.intro @dvS (
 And.intro @ABW (
 And.intro @ABY (
 And.intro @svW (
 And.intro @svO (
 And.intro @svL (
 And.intro @svS (
 And.intro @ABa (
 And.intro @ABb (
 And.intro @A33 (
 And.intro @ABc (
 And.intro @A72 (
 And.intro @A73 (
 And.intro @A74 (
 And.intro @zO (
 And.intro @zP (
 And.intro @zQ (
 And.intro @zR (
 And.intro @A75 (
 And.intro @tqU (
 And.intro @zS (
 And.intro @rP (
 And.intro @zT (
 And.intro @A76 (
 And.intro @zU (
 And.intro @zV (
 And.intro @zW (
 And.intro @zX (
 And.intro @A1z (
 And.intro @A20 (
 And.intro @uH (
 And.intro (And.intro @A21 @A24) (
 And.intro @A8w (
 And.intro @A22 (
 And.intro (And.intro @A23 @A8x) (
 And.intro @A25 (
 And.intro @A26 (
 And.intro @A8y (
 And.intro @bkK (
 And.intro @A2f (
 And.intro @um (
 And.intro @A2g (
 And.intro (And.intro @uo @AAB) (
 And.intro @A2h (
 And.intro @AAC (
 And.intro @A2i (
 And.intro (And.intro @xz (And.intro @erE @erK)) (
 And.intro @y5 (
 And.intro @A6d (
 And.intro @A6e (
 And.intro @A6f (
 And.intro @y7 (
 And.intro @ndK (
 And.intro @A7U (
 And.intro @A08 (
 And.intro @A7V (
 And.intro @apK (
 And.intro @A1J (
 And.intro @A8R (
 And.intro @A8S (
 And.intro @A1e (
 And.intro @A1f (
 And.intro @tu (
 And.intro @dl2 (
 And.intro @dl1 (
 And.intro @AAU (
 And.intro @A2o (
 And.intro @ut (
 And.intro @A2p (
 And.intro @AAS (
 And.intro @AAT (
 And.intro @A2q (
 And.intro @A2n (
 And.intro @AAD (
 And.intro @AAE (
 And.intro @AAG (
 And.intro @A2j (
 And.intro @AAH (
 And.intro @AAI (
 And.intro @AAJ (
 And.intro (And.intro @AAK (And.intro @AAL @AAM)) (
 And.intro @rg1 (
 And.intro @rg2 (
 And.intro @rg3 (
 And.intro @rg4 (
 And.intro @rg5 (
 And.intro @rg6 (
 And.intro @rg7 (
 And.intro @A2k (
 And.intro @uq (
 And.intro @A2l (
 And.intro @AAQ (
 And.intro @A2m (
 And.intro @AAR (
 And.intro @noA (
 And.intro @AAV (
 And.intro @AAW (
 And.intro @uu (
 And.intro @AAX (
 And.intro @AAY (
 And.intro @AAZ (
 And.intro @A2s (
 And.intro @A2t (
 And.intro @AAb (
 And.intro @AAc (
 And.intro @AAd (
 And.intro @AAe (
 And.intro @AAf (
 And.intro @bY (
 And.intro @bnN (
 And.intro @bnS (
 And.intro @AAw (
 And.intro @slT (
 And.intro (And.intro @AAx (And.intro @AAz @AAy)) (
 And.intro @ABd (
 And.intro @AB0 (
 And.intro @AB1 (
 And.intro @AB2 (
 And.intro @AB3 (
 And.intro @A27 (
 And.intro @bkT (
 And.intro @bkF (
 And.intro @bkE (
 And.intro @bkL (
 And.intro @A28 (
 And.intro @uI (
 And.intro @ipC (
 And.intro @ipN (
 And.intro @ipE (
 And.intro @ieC (
 And.intro @ieN (
 And.intro @fiA (
 And.intro @fiB (
 And.intro @fiC (
 And.intro @fiE (
 And.intro @uE (
 And.intro @uF (
 And.intro @A8r (
 And.intro @A1v (
 And.intro @A8F (
 And.intro @A8G (
 And.intro @A8H (
 And.intro @A8I (
 And.intro @bxA (
 And.intro @A8K (
 And.intro @hdC (
 And.intro @A8W (
 And.intro @A8X (
 And.intro @A8Y (
 And.intro @mvT (
 And.intro @A91 (
 And.intro @A92 (
 And.intro @uK (
 And.intro @kv (
 And.intro @uL (
 And.intro @A2A (
 And.intro @uM (
 And.intro @uN (
 And.intro @A2B (
 And.intro @A2C (
 And.intro @A93 (
 And.intro (And.intro @uP @uO) (
 And.intro @kw (
 And.intro @uQ (
 And.intro @uR (
 And.intro @gH (
 And.intro @uS (
 And.intro @ky (
 And.intro @A2D (
 And.intro @kz (
 And.intro @A94 (
 And.intro @uT (
 And.intro @l5 (
 And.intro @A2E (
 And.intro @A95 (
 And.intro (And.intro @uU @A2F) (
 And.intro @A96 (
 And.intro @A97 (
 And.intro @A98 (
 And.intro @A9D (
 And.intro @A9E (
 And.intro @A9F (
 And.intro @uV (
 And.intro @pmR (
 And.intro @pmW (
 And.intro @A6l (
 And.intro @yX (
 And.intro @A6n (
 And.intro @A6W (
 And.intro @A6X (
 And.intro @A6Y (
 And.intro @AA3 (
 And.intro @A9o (And.intro @A9n (And.intro @A9p (And.intro @A9q (
 And.intro @A9l (
 And.intro (And.intro @AA7 @yMk) (
 And.intro (And.intro @A2e @AA8) (
 And.intro @AA9 (
 And.intro @A2U (
 And.intro @A2V (
 And.intro @qd (
 And.intro @qf (
 And.intro @kJ (
 And.intro @qg (
 And.intro @qh (
 And.intro @kK (
 And.intro @yg (
 And.intro @rC (
 And.intro @yh (
 And.intro @A6u (
 And.intro @kQ (
 And.intro @yj (
 And.intro @yl (
 And.intro @A6w (
 And.intro @A6x (
 And.intro @rD (
 And.intro (And.intro @yn @yo) (
 And.intro @yt (
 And.intro @yu (
 And.intro @rE (
 And.intro @yw (
 And.intro @yx (
 And.intro @rF (
 And.intro @yz (
 And.intro @A6y (
 And.intro (And.intro @kR @zF) (
 And.intro @kS (
 And.intro @z8 (
 And.intro @zA (
 And.intro @A6z (
 And.intro @zC (
 And.intro @rG (
 And.intro @kT (
 And.intro @rH (
 And.intro @zD (
 And.intro @fV (
 And.intro @fZ (
 And.intro @zG (
 And.intro @rJ (
 And.intro @rM (
 And.intro @zH (
 And.intro @zI (
 And.intro @rO (
 And.intro @zJ (
 And.intro @A70 (
 And.intro @kU (
 And.intro @zK (
 And.intro @zL (
 And.intro @zM (
 And.intro @zN (
 And.intro @A77 (
 And.intro @rQ (
 And.intro (And.intro @zY @zZ) (
 And.intro @za (
 And.intro @zb (
 And.intro @pkB (
 And.intro @pkT (
 And.intro @pkF (
 And.intro @xn (
 And.intro @xq (
 And.intro @xu (
 And.intro @A7R (
 And.intro @A06 (
 And.intro @A07 (
 And.intro @A7W (
 And.intro @A7X (
 And.intro @A7a (
 And.intro (And.intro @A7b (And.intro @A7c (And.intro @A7d @A7e))) (
 And.intro @ze (
 And.intro @zf (
 And.intro @zg (
 And.intro @zh (
 And.intro @zi (
 And.intro @zk (
 And.intro @A78 (
 And.intro @zm (
 And.intro @fe (
 And.intro @zn (
 And.intro @zo (
 And.intro @A79 (
 And.intro @A7A (
 And.intro @A7B (
 And.intro @A7C (
 And.intro @A7D (
 And.intro @A7E (
 And.intro @zq (
 And.intro @zt (
 And.intro @zu (
 And.intro @zw (
 And.intro @zx (
 And.intro @rR (
 And.intro @zy (
 And.intro @zz (
 And.intro @boI (
 And.intro @boS (
 And.intro @boB (
 And.intro @boA (
 And.intro @rT (
 And.intro @A00 (
 And.intro @A01 (
 And.intro @A02 (
 And.intro @ldC (
 And.intro @A7j (
 And.intro @ldP (
 And.intro @A7k (
 And.intro @ldB (
 And.intro @A7l (
 And.intro @ldV (
 And.intro @A7m (
 And.intro @A0D (
 And.intro @A0F (
 And.intro @rZ (
 And.intro @rf (
 And.intro @A0G (
 And.intro @A7n (
 And.intro @A0H (
 And.intro @A7o (
 And.intro @A0J (
 And.intro @A0K (
 And.intro @lnT (
 And.intro @A7r (
 And.intro @A0X (
 And.intro @A0Y (
 And.intro @ixT (
 And.intro @A7t (
 And.intro @A9j (
 And.intro @A2R (
 And.intro @A9k (
 And.intro @A2S (
 And.intro @kg (
 And.intro @Ye (
 And.intro @Wt (
 And.intro @Yf (
 And.intro @lC (
 And.intro @gZ (
 And.intro @Yg (
 And.intro @bW (
 And.intro @Yh (
 And.intro @Uj (
 And.intro @l7 (
 And.intro @uY (
 And.intro @lD (
 And.intro @gX (
 And.intro @gp (
 And.intro @Ws (
 And.intro @gY (
 And.intro @A0a (
 And.intro @tkC (
 And.intro @A0h (
 And.intro @sO (
 And.intro @A0i (
 And.intro @A7y (
 And.intro @A0j (
 And.intro @A0k (
 And.intro @A0l (
 And.intro @sP (
 And.intro @A7z (
 And.intro @A0m (
 And.intro @A0b (
 And.intro @sK (
 And.intro @A0c (
 And.intro @A7u (
 And.intro @A0d (
 And.intro @A0e (
 And.intro @A0f (
 And.intro @sM (
 And.intro @A7v (
 And.intro @mX (
 And.intro @A7w (
 And.intro @A7x (
 And.intro @sN (
 And.intro @ko (
 And.intro @sQ (
 And.intro @kr (
 And.intro @hoI (
 And.intro @hoB (
 And.intro @hoS (
 And.intro @A80 (
 And.intro @A0n (
 And.intro @A0o (
 And.intro (And.intro @A0p @A0q) (
 And.intro @sU (
 And.intro @A81 (
 And.intro @A82 (
 And.intro @hoK (
 And.intro @hoU (
 And.intro @A0r (
 And.intro @A0s (
 And.intro @A0t (
 And.intro @A84 (
 And.intro @A0u (
 And.intro @A85 (
 And.intro @A86 (
 And.intro @A87 (
 And.intro @A88 (
 And.intro @A0v (
 And.intro @A0w (
 And.intro @A0x (
 And.intro @A0y (
 And.intro @A0z (
 And.intro @A10 (
 And.intro @A11 (
 And.intro @A12 (
 And.intro @sV (
 And.intro @A8L (
 And.intro @A14 (
 And.intro @A15 (
 And.intro @A16 (
 And.intro @A17 (
 And.intro @A18 (
 And.intro @tC (
 And.intro @A19 (
 And.intro @A8M (
 And.intro @A1A (
 And.intro @A1B (
 And.intro @A1C (
 And.intro @tF (
 And.intro @ceS (
 And.intro @A1D (
 And.intro @tH (
 And.intro @A1E (
 And.intro (And.intro @tJ @A8N) (
 And.intro @A1F (
 And.intro @A8O (
 And.intro @A1G (
 And.intro @A8P (
 And.intro @A8U (
 And.intro @A8V (
 And.intro @tK (
 And.intro @tL (
 And.intro @A1K (
 And.intro @A1L (
 And.intro @arC (
 And.intro @arF (
 And.intro @aCS (
 And.intro @A1S (
 And.intro @tQ (
 And.intro @A1T (
 And.intro @A8b (
 And.intro @A1U (
 And.intro @tT (
 And.intro @atK (
 And.intro @A1W (
 And.intro @A1X (
 And.intro @A8f (
 And.intro @tV (
 And.intro @tX (
 And.intro @A1Y (
 And.intro @A1Z (
 And.intro @A8c (
 And.intro @A8e (
 And.intro @A8g (
 And.intro @A8h (
 And.intro @tY (
 And.intro @A1a (
 And.intro @tZ (
 And.intro @A1b (
 And.intro @tq (
 And.intro @A1c (
 And.intro @A8i (
 And.intro @A1d (
 And.intro @A8j (
 And.intro @A1g (
 And.intro @cdB (
 And.intro @A8k (
 And.intro @A8l (
 And.intro @A8m (
 And.intro @cdL (
 And.intro @A8n (
 And.intro @A8o (
 And.intro @A1h (
 And.intro @u7 (
 And.intro @A1i (
 And.intro @mZ (
 And.intro @A1j (
 And.intro @A1k (
 And.intro @A1l (
 And.intro @uA (
 And.intro @Zi (
 And.intro @A1m (
 And.intro @uB (
 And.intro @A1n (
 And.intro @A1o (
 And.intro @A1p (
 And.intro @uC (
 And.intro @A1r (
 And.intro @ma (
 And.intro @A1s (
 And.intro @A1t (
 And.intro @A1u (
 And.intro @uD (
 And.intro @A8p (
 And.intro @Uh (
 And.intro @A8q (
 And.intro @fiD (
 And.intro @fi0 (
 And.intro @re0 (
 And.intro @re1 (
 And.intro @re2 (
 And.intro @A8s (
 And.intro @A1w (
 And.intro @A1x (
 And.intro @A8t (
 And.intro @uG (
 And.intro @A8u (
 And.intro @A8v (
 And.intro @A1y (
 And.intro @A29 (
 And.intro @uJ (
 And.intro @A90 (
 And.intro @Wj (
 And.intro @fq (
 And.intro @Qz (
 And.intro @Wl (
 And.intro @Wm (
 And.intro @Yb (
 And.intro @y8 (
 And.intro @yB (
 And.intro @qi (
 And.intro @yE (
 And.intro @y9 (
 And.intro @yC (
 And.intro @qj (
 And.intro @yF (
 And.intro @yA (
 And.intro @yD (
 And.intro @ql (
 And.intro @yG (
 And.intro @bP (
 And.intro @bQ (
 And.intro @yH (
 And.intro @bR (
 And.intro @fT (
 And.intro @kL (
 And.intro @kM (
 And.intro @kN (
 And.intro @geq (
 And.intro @Int.toNat_natCast (
 And.intro @Int.toNat_zero (
 And.intro @Int.natCast_nonneg (
 And.intro @Nat.zero_le (
 And.intro @Int.le_refl (
 And.intro @Nat.le_refl (
 And.intro @Bool.and_true (
 And.intro @Bool.true_and (
 And.intro @Bool.and_false (
 And.intro @Bool.false_and (
 And.intro @Bool.or_false (
 And.intro @Bool.false_or (
 And.intro @Bool.or_true (
 And.intro @Bool.true_or (
 And.intro @Bool.not_true (
 And.intro @Bool.not_false (
 And.intro @Bool.false_eq_true (
 And.intro @decide_true (
 And.intro @decide_false (
 And.intro @and_self (
 And.intro @and_true (@true_and))))))))))))))))))))))))))))))))))))))))))))))))))))))))))))))))))))))))))))))))))))))))))))))))))))))))))))))))))))))))))))))))))))))))))))))))))))))))))))))))))))))))))))))))))))))))))))))))))))))))))))))))))))))))))))))))))))))))))))))))))))))))))))))))))))))))))))))))))))))))))))))))))))))))))))))))))))))))))))))))))))))))))))))))))))))))))))))))))))))))))))))))))))))))))))))))))))))))))))))))))))))))))))))))))))))))))))))))))))))))))))))))))))))))))))))))))))))))))))))))))))))))))))))))))))))))))))))))))))))))))))))))))))))))))))))))))))))))))))))))))))))))))))))))))))))))))))))))))))))))))))))))))))))))))))))))))))))))))))))))))))))))))))))))))))))))))))))))))))))))))))))
end Dv
