/- Value semantics for Go code, part 4: arguments of laws, slim code and rules. Conditions: none beyond those in each lemma. -/
import Derived.Test.YtjhjkfoabhplfaaGreatL3
import Derived.WalkKit
import Derived.ProofKit
import Derived.OpenShut
import Derived.ShutString
import Derived.ChangeOld
import Derived.Below
import Derived.Carry
import Derived.IntWalk
set_option linter.unusedSimpArgs false
set_option linter.unusedVariables false
namespace Dv
open Go
inductive Shp(T:Tys):TypeId→List D→Prop
 |int {t k n} (ht:T.ty t= .int k) (hw:(Lit.int k n).wf=true):Shp T t [.int k n]
 |bool {t b} (ht:T.ty t= .bool):Shp T t [.bool b]
 |string {t s} (ht:T.ty t= .string) (hs:s.size≤maxLen):Shp T t [.str s]
 |slice {t e} {xss:List (List D)} (ht:T.ty t= .slice e) (hx: ∀xs,xs∈xss→Shp T e xs) (hl:xss.length≤maxLen):Shp T t [.sl e xss.flatten]
 |struct {t fs} {ds:List D} (ht:T.ty t= .struct fs) (hl:ds.length=fs.length) (hx: ∀(i:Nat) (f:TypeId) (d:D),fs[i]? =some f→ds[i]? =some d→Shp T f [d]):Shp T t ds
def Ur(T:Tys):Nat→TypeId→Bool
 |0,_=>false
 |n+1,t=>match T.ty t with
  | .int _=>true
  | .bool=>true
  | .string=>true
  | .slice e=>T.known e&&Ur T n e
  | .struct fs=>(T.nest t).isNone&& !fs.isEmpty&&fs.all (Ur T n)
  |_=>false
theorem Shp.length{T:Tys}{t:TypeId}{ds:List D}(h:Shp T t ds):ds.length=T.size t:=by
 cases h with
 |int ht=>simp [Tys.size,ht,Ty.size]
 |bool ht=>simp [Tys.size,ht,Ty.size]
 |string ht=>simp [Tys.size,ht,Ty.size]
 |slice ht=>simp [Tys.size,ht,Ty.size]
 |struct ht hl=>simp [Tys.size,ht,Ty.size,hl]
theorem kW{α:Type}{n:Nat}(hn:0<n): ∀(xss:List (List α)),(∀xs∈xss,xs.length=n)→ ∀k:Nat,xss.flatten[k]? =(xss[k / n]?).bind fun xs=>xs[k % n]? :=by
 intro xss
 induction xss with
 |nil=>intro _ k;simp
 |cons xs xss ih=>
  intro h k;have hx:=h xs (Jq);rw [nC];rcases Nat.lt_or_ge k n with hk|hk
  ·rw [Q8 (by omega),Nat.div_eq_of_lt hk,Nat.mod_eq_of_lt hk];rfl
  ·rw [RO (by omega),ih (fun ys hy=>h ys (Kn _ hy)),hx]
   have h1:k / n=(k-n) / n+1:=by
    rw [Nat.div_eq_sub_div hn hk]
   have h2:k % n=(k-n) % n:=by rw [Nat.mod_eq_sub_mod hk]
   rw [h1,h2];rfl
theorem Yb{α:Type}{n:Nat}: ∀(xss:List (List α)),(∀xs∈xss,xs.length=n)→xss.flatten.length=xss.length*n:=by
 intro xss
 induction xss with
 |nil=>intro _;simp
 |cons xs xss ih=>
  intro h;rw [nC,Ko,ih (fun ys hy=>h ys (Kn _ hy)),h xs (Jq),Ji,Nat.add_mul];omega
abbrev qo(w:World):Nat→Prop:=fun k=>k<w.heap.size
section
variable {P:Program} {T:Tys} {H:Type} {enc:TypeId×Value→H} {w:World} {spare:Nat→Bool} {Py:Bool}
theorem CZ.cells(h:CZ P T){t:TypeId}(hk:T.known t=true):P.cellsOf t=T.size t:=by
 obtain⟨i,h1,h2,_⟩:=h.info hk;simp [Program.cellsOf,h1,h2]
theorem oV{n:Nat}{t:TypeId}(h:Ur T n t=true):T.known t=true:=by
 cases n with
 |zero=>cases h
 |succ n=>
  unfold Ur at h;unfold Tys.known
  cases ht:T.ty t with
  |struct fs=>
   rw [ht]at h
   cases fs with
   |nil=>simp at h
   |cons=>rfl
  |other=>rw [ht]at h;cases h
  |map=>rw [ht]at h;cases h
  |_=>rfl
theorem kX{t:TypeId}(hk:T.known t=true):0<T.size t:=by
 unfold Tys.known at hk;unfold Tys.size
 cases ht:T.ty t with
 |struct fs=>
  rw [ht]at hk
  cases fs with
  |nil=>cases hk
  |cons=>simp [Ty.size]
 |_=>simp [Ty.size]
theorem oW{base:Nat}{a:Addr}{n:Nat}{cs:List Value}(h:w.cells? base a n=some cs):cs.length=n∧ ∀i,i<n→w.cell? (a.add i)=cs[i]? :=by
 unfold World.cells? at h
 split at h
 ·exact⟨by simpa using mapM_some_length h,fun i hi=>by have:=mapM_some_get h i i (by simp [hi]);simpa using this⟩
 ·cases h
theorem A0a{ad:Addr}{v:Value}(h:w.cell? ad=some v):ad.block<w.heap.size:=by
 rcases Nat.lt_or_ge ad.block w.heap.size with hl|hl
 ·exact hl
 ·have h1:=Rc hl;simp [World.cell?,h1]at h
theorem xJ(hT:CZ P T): ∀(fuel:Nat) (n:Nat) (t:TypeId) (cs:List Value) (x:DataW H×List MemPlace),Ur T n t=true→DataW.trod enc P w 0 spare Py fuel t cs=some x→
  ∃ds,Shp T t ds∧cs.length=ds.length∧ ∀(i:Nat) (d:D),ds[i]? =some d→ ∃v,cs[i]? =some v∧W T (qo w) w V0 Js d v (fun _=>False):=by
 have hE:Em (fun _:Nat=>False):=fun _ h=>h
 have one: ∀(d0:D) (v0:Value),W T (qo w) w V0 Js d0 v0 (fun _=>False)→ ∀(i:Nat) (d:D),[d0][i]? =some d→ ∃v,[v0][i]? =some v∧W T (qo w) w V0 Js d v (fun _=>False):=by
  intro d0 v0 h i d hi
  cases i with
  |zero=>simp at hi;subst hi;exact⟨v0,rfl,h⟩
  |succ i=>simp at hi
 intro fuel
 induction fuel with
 |zero=>intro n t cs x _ h;simp [DataW.trod]at h
 |succ fuel ih=>
  intro n t cs x hd h;have hk:=oV hd;have h0:=(hT t).1;unfold I5 at h0
  cases n with
  |zero=>cases hd
  |succ n=>
   unfold Ur at hd
   cases ht:T.ty t<;>rw [ht]at h0 hd<;>simp only at h0 hd
   case int k=>
    obtain⟨m,rfl,_,hw⟩:=DataW.trod_int h0.1 h
    exact⟨[.int k m],.int ht hw,rfl,one _ _ (.int hE)⟩
   case bool=>
    obtain⟨b,rfl,_⟩:=DataW.trod_bool h0.1 h
    exact⟨[.bool b],.bool ht,rfl,one _ _ (.bool hE)⟩
   case string=>
    obtain⟨s,rfl,_,hs⟩:=DataW.trod_string h0.1 h
    exact⟨[.str s],.string ht hs,rfl,one _ _ (.str hE)⟩
   case slice e=>
    simp only [KG]at hd;have hc:=hT.cells hd.1;have hpos:=kX hd.1;rcases DataW.trod_slice h0.1 h with⟨rfl,_⟩|⟨a,len,cap,elems,rest,m,hm,rfl,_,_,hl,hcap,hlen,hel,_,_⟩
    ·exact⟨[.sl e ([]:List (List D)).flatten],.slice ht (by simp) (by simp [maxLen]),rfl,one _ _ (.sl (fun _=>undef) hE (by simp) (JE _) (by simp [maxLen]) (by simp) (by simp))⟩
    ·injection hm with hm
     subst hm
     have hex: ∀i,i<len→ ∃ds,Shp T e ds∧ ∀(j:Nat) (d:D),ds[j]? =some d→ ∃v,w.cell? (a.add (i*T.size e+j))=some v∧W T (qo w) w V0 Js d v (fun _=>False):=by
      intro i hi;have h1:=hel i hi;rw [Ga (by omega),JO]at h1
      obtain⟨cs',h2,h3⟩:=h1;obtain⟨ds,q1,q2,q3⟩:=ih n e cs' _ hd.2 h3
      refine⟨ds,q1,fun j d hj=> ?_⟩
      obtain⟨v,hv,hW⟩:=q3 j d hj;obtain⟨c1,c2⟩:=oW h2;rw [hc]at c1 c2;have hj':j<T.size e:=by rw [←c1];exact(FR.1 hv).1
      have h4:=c2 j hj';rw [NK]at h4
      exact⟨v,by rw [h4,hv],hW⟩
     let ch:Nat→List D:=fun i=>if h:i<len then(hex i h).choose else []
     have hch: ∀i,i<len→Shp T e (ch i)∧ ∀(j:Nat) (d:D),(ch i)[j]? =some d→ ∃v,w.cell? (a.add (i*T.size e+j))=some v∧W T (qo w) w V0 Js d v (fun _=>False):=by
      intro i hi;have:=(hex i hi).choose_spec
      simp only [ch,hi,dif_pos];exact this
     have hall: ∀xs∈(List.range len).map ch,xs.length=T.size e:=by
      intro xs hxs;obtain⟨i,hi,rfl⟩:=I1.1 hxs
      exact(hch i (O7.1 hi)).1.length
     refine⟨[.sl e ((List.range len).map ch).flatten],.slice ht (fun xs hxs=> ?_) (by simp;omega),rfl,one _ _ ?_⟩
     ·obtain⟨i,hi,rfl⟩:=I1.1 hxs
      exact(hch i (O7.1 hi)).1
     ·have key: ∀(i:Nat) (x:D),((List.range len).map ch).flatten[i]? =some x→ ∃v,w.cell? (a.add i)=some v∧W T (qo w) w V0 Js x v (fun _=>False):=by
       intro i x hi;rw [kW hpos _ hall,JO]at hi;obtain⟨xs,h1,h2⟩:=hi;rw [OH,Dc]at h1;obtain⟨q,hq,rfl⟩:=h1;obtain⟨hq1,hq2⟩:=FR.1 hq;simp only [nA]at hq2;subst hq2;obtain⟨v,hv,hW⟩:=(hch _ (by simpa using hq1)).2 _ x h2
       rw [show i / T.size e*T.size e+i % T.size e=i by rw [Nat.mul_comm];exact Nat.div_add_mod i (T.size e)]at hv
       exact⟨v,hv,hW⟩
      refine .sl (fun i=>(w.cell? (a.add i)).getD undef) hE (by rw [Yb _ hall];simp) hl hcap (fun i x hi=> ?_) (fun i x hi=> ?_)
      ·obtain⟨v,hv,_⟩:=key i x hi
       exact⟨a,rfl,by have:=A0a hv;rw [QF]at this;exact this,by rw [hv];rfl⟩
      ·obtain⟨v,hv,hW⟩:=key i x hi;simp only [hv,Xn];exact hW
   case struct fs=>
    simp only [KG,Jr,vo]at hd;obtain⟨⟨fields,hu,hfx⟩,hinfo⟩:=h0;rw [hd.1.1]at hfx;obtain⟨hfl,hfi⟩:=hfx;obtain⟨xs,m,hm,_,hcl,hxl,hx⟩:=DataW.trod_struct hu h
    injection hm with hm
    subst hm;rw [hT.cells hk]at hcl;have hsz:T.size t=fs.length:=by simp [Tys.size,ht,Ty.size]
    have hex: ∀i,i<fs.length→ ∃d f,fs[i]? =some f∧Shp T f [d]∧ ∃v,cs[i]? =some v∧W T (qo w) w V0 Js d v (fun _=>False):=by
     intro i hi;have hif:i<fields.size:=by omega
     obtain⟨f1,f2,f3,f4⟩:=hfi i _ (M5 hif);have h1:=hx i _ (M5 hif)
     have hs1:T.size fields[i].type=1:=by
      unfold Tys.isStruct at f4;unfold Tys.size
      cases hty:T.ty fields[i].type<;>simp_all [Ty.isStruct,Ty.size]
     rw [f1,hT.cells f3,hs1,Ga (by omega)]at h1
     obtain⟨ds,q1,q2,q3⟩:=ih n _ _ _ (hd.2 _ (Zn f2)) h1;have hl1:ds.length=1:=by rw [q1.length,hs1]
     obtain⟨d,rfl⟩:=List.length_eq_one_iff.1 hl1;obtain⟨v,hv,hW⟩:=q3 0 d rfl
     refine⟨d,_,f2,q1,v, ?_,hW⟩
     rw [List.getElem?_take]at hv;simp only [Nat.zero_lt_one,if_true,TI,Nat.add_zero]at hv;exact hv
    let ch:Nat→D:=fun i=>if h:i<fs.length then(hex i h).choose else .undef
    have hch: ∀i,i<fs.length→ ∃f,fs[i]? =some f∧Shp T f [ch i]∧ ∃v,cs[i]? =some v∧W T (qo w) w V0 Js (ch i) v (fun _=>False):=by
     intro i hi;have:=(hex i hi).choose_spec
     simp only [ch,hi,dif_pos];exact this
    have hget: ∀(i:Nat) (d:D),((List.range fs.length).map ch)[i]? =some d→i<fs.length∧d=ch i:=by
     intro i d hi;rw [OH,Dc]at hi;obtain⟨q,hq,rfl⟩:=hi;obtain⟨hq1,hq2⟩:=FR.1 hq;simp only [nA]at hq2;subst hq2
     exact⟨by simpa using hq1,rfl⟩
    refine⟨(List.range fs.length).map ch,.struct ht (by simp) (fun i f d hf hi=> ?_),by simp;omega,fun i d hi=> ?_⟩
    ·obtain⟨h1,rfl⟩:=hget i d hi;obtain⟨f',hf',hs,_⟩:=hch i h1;rw [hf]at hf';injection hf' with hf';subst hf';exact hs
    ·obtain⟨h1,rfl⟩:=hget i d hi;obtain⟨f',hf',hs,v,hv,hW⟩:=hch i h1
     exact⟨v,hv,hW⟩
   all_goals (cases hd)
def top(T:Tys)(t:TypeId)(ds:List D):D:=if T.isStruct t then .agg ds else ds.headD .undef
def Arg(T:Tys)(t:TypeId)(d:D):Prop:= ∃ds,Shp T t ds∧d=top T t ds
theorem A7N(hT:CZ P T){r:Reach}{base n:Nat}{t:TypeId}{v:Value}{d0:DataW H}{ps:List MemPlace}(hd:Ur T n t=true)(hv:Value.okWide P w r base t v)(h:DataW.Trod enc P w 0 spare Py t v d0 ps):
  ∃d,Arg T t d∧W T (qo w) w V0 Js d v (fun _=>False):=by
 obtain⟨fuel,hf⟩:=h;obtain⟨ds,q1,q2,q3⟩:=xJ hT fuel n t _ _ hd hf;have hfact:=(hT t).1;unfold I5 at hfact
 have flat:T.isStruct t=false→v.cells.toList=[v]→ ∃d,Arg T t d∧W T (qo w) w V0 Js d v (fun _=>False):=by
  intro hs hc;have hl:ds.length=1:=by rw [←q2,hc];rfl
  obtain⟨d,rfl⟩:=List.length_eq_one_iff.1 hl;obtain⟨v',hv',hW⟩:=q3 0 d rfl;rw [hc]at hv';simp only [Q9,Option.some.injEq]at hv';subst hv'
  exact⟨d,⟨[d],q1,by simp [top,hs]⟩,hW⟩
 cases n with
 |zero=>cases hd
 |succ n=>
  unfold Ur at hd
  cases ht:T.ty t<;>rw [ht]at hfact hd<;>simp only at hfact hd
  case int k=>
   refine flat (by simp [Tys.isStruct,ht,Ty.isStruct]) ?_
   simp only [Value.okWide,hfact.1,Cell.okWide]at hv
   cases v<;>simp_all [Cell.ok,Value.cells]
  case bool=>
   refine flat (by simp [Tys.isStruct,ht,Ty.isStruct]) ?_
   simp only [Value.okWide,hfact.1,Cell.okWide]at hv
   cases v<;>simp_all [Cell.ok,Value.cells]
  case string=>
   refine flat (by simp [Tys.isStruct,ht,Ty.isStruct]) ?_
   simp only [Value.okWide,hfact.1,Cell.okWide]at hv
   cases v<;>simp_all [Cell.ok,Value.cells]
  case slice e=>
   refine flat (by simp [Tys.isStruct,ht,Ty.isStruct]) ?_
   simp only [Value.okWide,hfact.1,Cell.okWide]at hv
   cases v<;>simp_all [Cell.ok,Value.cells]
  case struct fs=>
   obtain⟨⟨fields,hu,_⟩,_⟩:=hfact;obtain⟨cs,rfl,hcs⟩:=WideShapes.okWide_struct hu hv
   have hval: ∀(i:Nat) (d:D),ds[i]? =some d→cs[i]? =some (cs.getD i undef)∧W T (qo w) w V0 Js d (cs.getD i undef) (fun _=>False):=by
    intro i d hi;obtain⟨v,hv',hW⟩:=q3 i d hi;have:cs[i]? =some v:=by simpa [Value.cells] using hv'
    rw [Qi,this];exact⟨rfl,hW⟩
   refine⟨.agg ds,⟨ds,q1,by simp [top,Tys.isStruct,ht,Ty.isStruct]⟩,.agg (fun i=>cs.getD i undef) (fun _ _=>False) (by simpa [Value.cells] using q2) (fun i x hi=>(hval i x hi).1) (fun k=>⟨fun h=>h.elim,fun⟨_,_,h⟩=>h⟩) (fun _ _ _ _ _ _ h=>h.elim) (fun i x hi=>(hval i x hi).2)⟩
  all_goals (cases hd)
end
def A3r(T:Tys):List TypeId→List D→Prop
 | [],[]=>True
 |t::ts,d::ds=>Arg T t d∧A3r T ts ds
 |_,_=>False
theorem args_W{P:Program}{T:Tys}{H:Type}{enc:TypeId×Value→H}{w:World}{r:Reach}{base n:Nat}(hT:CZ P T): ∀(ts:List TypeId) (vs:List Value) (d0:List (DataW H)) (ps:List MemPlace),ts.all (Ur T n)=true→
  (∀(j:Nat) (t:TypeId) (v:Value),ts[j]? =some t→vs[j]? =some v→Value.okWide P w r base t v)→DataW.TrodAll enc P w 0 (fun _=>true) true ts vs d0 ps→
  ∃ds,A3r T ts ds∧vs.length=ds.length∧ ∀(i:Nat) (d:D),ds[i]? =some d→ ∃v,vs[i]? =some v∧W T (qo w) w V0 Js d v (fun _=>False):=by
 intro ts
 induction ts with
 |nil=>
  intro vs d0 ps _ _ h
  cases vs<;>cases d0<;>simp [DataW.TrodAll]at h
  exact⟨[],trivial,rfl,by simp⟩
 |cons t ts ih=>
  intro vs d0 ps hd hv h
  cases vs with
  |nil=>cases d0<;>simp [DataW.TrodAll]at h
  |cons v vs=>
   cases d0 with
   |nil=>simp [DataW.TrodAll]at h
   |cons d0 ds0=>
    simp only [DataW.TrodAll]at h;obtain⟨p,q,h1,h2,_⟩:=h;simp only [Xo,KG]at hd;obtain⟨d,ha,hW⟩:=A7N hT hd.1 (hv 0 t v rfl rfl) h1;obtain⟨ds,hb,hl,hWs⟩:=ih vs ds0 q hd.2 (fun j t' v' hj hj'=>hv (j+1) t' v' (by simpa using hj) (by simpa using hj')) h2
    refine⟨d::ds,⟨ha,hb⟩,by simp [hl],fun i x hi=> ?_⟩
    cases i with
    |zero=>simp at hi;subst hi;exact⟨v,rfl,hW⟩
    |succ i=>simpa using hWs i x (by simpa using hi)
theorem law_calls{Y:Sys}(hY:Y.Ok){f:FuncId}{ds:List D}(hc:Y.call f ds []=some (.bool true,[])){vs:Array Value}{w:World}(hl:vs.size=ds.length)
  (hW: ∀(i:Nat) (d:D),ds[i]? =some d→ ∃v,vs[i]? =some v∧W Y.T (qo w) w V0 Js d v (fun _=>False)):
  Calls Y.P f vs w fun e w'=>e= .returned (.bool true)∧RowKit.Below w.heap.size w w':=by
 have hg:=Sys.call_good hY hc;refine Calls.mono (hg.2 vs (fun _=>undef) w (qo w) (fun _ _=>False) hl (fun i d hi=> ?_) (fun j d hj=>by simp at hj) (fun _ _ _ h=>h) (fun _ _ _ _ h=>h.elim) (fun _ h=>h)) ?_
 ·obtain⟨v,hv,hWv⟩:=hW i d hi
  exact⟨v,hv,hWv.up⟩
 ·intro e w' he
  cases e with
  |returned v=>
   obtain⟨S',F,FL',h1,_,_,_,hst,_,_⟩:=he
   cases h1 with
   |bool=>exact⟨rfl,hst.os,hst.tape,hst.output,hst.size,fun k hk=>hst.heap k hk (fun _ h=>h)⟩
  |panicked=>exact he.elim
  |outgrown=>exact he.elim
theorem trodAll_below{H:Type}{enc:TypeId×Value→H}{P:Program}(hl:laidOutB P=true){W W':World}(hb:RowKit.Below W.heap.size W W'): ∀ {ts:List TypeId} {vs:List Value} {ds:List (DataW H)} {ps:List MemPlace},
  ts.all (fun t=>P.readableRec t&&decide (t<P.types.size))=true→DataW.TrodAll enc P W 0 (fun _=>true) true ts vs ds ps→DataW.TrodAll enc P W' 0 (fun b=>decide (b<W.heap.size)) true ts vs ds ps:=by
 intro ts
 induction ts with
 |nil=>
  intro vs ds ps _ h
  cases vs<;>cases ds<;>simp [DataW.TrodAll]at h ⊢
  exact h
 |cons t ts ih=>
  intro vs ds ps hr h
  cases vs with
  |nil=>cases ds<;>simp [DataW.TrodAll]at h
  |cons v vs=>
   cases ds with
   |nil=>simp [DataW.TrodAll]at h
   |cons d ds=>
    simp only [DataW.TrodAll]at h ⊢;obtain⟨p,q,h1,h2,h3⟩:=h;simp only [Xo,KG,decide_eq_true_eq]at hr;have lt0: ∀x∈p,x.block<W.heap.size:=by obtain⟨m,hm⟩:=h1;exact DataW.trod_lt m _ _ _ hm
    exact⟨p,q,RowKit.Below.trod hl hr.1.1 hr.1.2 h1 hb lt0,ih (by simpa using hr.2) h2,h3⟩
end Dv
namespace Dv
open Go
theorem nr{α:Type}{a b:α}(h:a=b):a=b:=h
structure SOp where
 dst:Option Tmp
 op:Op
 type:TypeId
 guard:Option (Option Tmp×Bool)
structure PmL where
 n:List Nat
 r:List Nat
 w:List Nat
def PmL.pm(l:PmL):Pm:=⟨fun r=>l.n.contains r|| !l.r.contains r,fun r=>l.w.contains r⟩
inductive SC where
 |skip
 |ops (l:List SOp)
 |draws (l:List (PmL×SOp))
 |seq (a b:SC)
 |cond (c:Operand) (a b:SC)
 |block (id:Nat) (c:SC)
 |loop (c:SC)
 |exit (id:Nat)
 |ret
 |bad
abbrev tK(u:Nat):Operand:= .tmp u
abbrev iK(n:Int):Operand:= .const (.int .i64 n)
abbrev oX(d:Nat)(p:Op)(y:TypeId):SOp:=⟨some d,p,y,none⟩
abbrev oM(d u:Nat)(y:TypeId):SOp:=⟨some d,.move (.tmp u),y,none⟩
abbrev oA(d u:Nat)(y:TypeId):SOp:=⟨some d,.assign (.tmp u),y,none⟩
abbrev oL(d:Nat)(t:TypeId)(u:Nat)(y:TypeId):SOp:=⟨some d,.load t (.tmp u),y,none⟩
abbrev oI(d:Nat)(t:TypeId)(u v:Nat):SOp:=⟨some d,.indexAddr t (.tmp u) (.tmp v),0,none⟩
abbrev oN(d u:Nat)(t:TypeId):SOp:=⟨some d,.call ⟨.builtin .len, #[.tmp u], #[t]⟩,3,none⟩
abbrev oC(d f:Nat)(a:List Operand)(t:List TypeId)(y:TypeId):SOp:=⟨some d,.call ⟨.value (.func f),a.toArray,t.toArray⟩,y,none⟩
abbrev oS(t:TypeId)(a u:Nat):SOp:=⟨none,.store t (.tmp a) (.tmp u),0,none⟩
abbrev oF(d:Nat)(t:TypeId)(u i:Nat):SOp:=⟨some d,.fieldAddr t (.tmp u) i,0,none⟩
abbrev oE(d u i:Nat)(y:TypeId):SOp:=⟨some d,.extract (.tmp u) i,y,none⟩
abbrev oB(d:Nat)(o:BinOp)(t:TypeId)(a b:Operand)(r y:TypeId):SOp:=⟨some d,.binOp o t a b r,y,none⟩
def U1(ops:Array Oper)(o:Oper):SOp:=⟨o.dst,o.op,o.type,match o.guard with|none=>none|some (j,b)=>some ((ops[j]?).bind (·.dst),b)⟩
def Bw(lends:FuncId→Bool):Code→SC
 | .skip=> .skip
 | .region _ ops draw=>
  if draw then
   (if Rp lends ops.toList then .draws (ops.toList.map fun o=>(⟨Il ops.toList o,ops.toList.flatMap (FZ lends ops.toList),FZ lends ops.toList o⟩,U1 ops (Xz lends ops.toList o)))else .bad)
  else .ops (ops.toList.map fun o=>U1 ops (tag lends ops.toList o))
 | .seq a b=> .seq (Bw lends a) (Bw lends b)
 | .cond c a b=> .cond c (Bw lends a) (Bw lends b)
 | .block id c=> .block id (Bw lends c)
 | .loop c=> .loop (Bw lends c)
 | .exit id=> .exit id
 | .ret=> .ret
 |_=> .bad
def PV(E:Env)(pm:Pm)(s:St)(dst:Option Tmp)(op:Op)(type:TypeId):Option St:=opD E pm s ⟨dst,op,type, "", #[],none⟩
def Td(E:Env)(pm:Pm)(s:St)(o:SOp):Option St:=
 match o.guard with
 |none=>PV E pm s o.dst o.op o.type
 |some (none,_)=>some (s.putO o.dst (.konst undef))
 |some (some t,b)=>
  match s.v t with
  | .bool b'=>if b'==b then PV E pm s o.dst o.op o.type else some (s.putO o.dst (.konst undef))
  | .konst (.tuple _)=>some (s.putO o.dst (.konst undef))
  |_=>none
def xK(E:Env):List SOp→St→Option St
 | [],s=>some s
 |o::l,s=>(Td E Pm.all s o).bind fun s'=>xK E l s'
def K3(pm:Pm)(s:St)(op:Op):Bool:=
 match op with
 | .move (.tmp u)=> !(s.v u).hasObj||(s.v u).isObj||pm.wr u
 |_=>true
def kY(E:Env):List (PmL×SOp)→St→Option St
 | [],s=>some s
 |(p,o)::l,s=>if K3 p.pm s o.op then(Td E p.pm s o).bind fun s'=>kY E l s' else none
noncomputable def FJ(E:Env):SC→St→Option (Ex×St)
 | .skip,s=>some (.normal,s)
 | .ops l,s=>(xK E l s).map fun s'=>(.normal,s')
 | .draws l,s=>(kY E l s).map fun s'=>(.normal,s')
 | .seq a b,s=>
  match FJ E a s with
  |some (.normal,s')=>FJ E b s'
  |r=>r
 | .cond c a b,s=>
  match ev E.T s 0 c with
  |some (.bool t)=>if t then FJ E a s else FJ E b s
  |_=>none
 | .block id c,s=>
  match FJ E c s with
  |some (.exit j,s')=>if j=id then some (.normal,s')else some (.exit j,s')
  |r=>r
 | .loop c,s=>Y1 (FJ E c) s
 | .exit id,s=>some (.exit id,s)
 | .ret,s=>some (.ret,s)
 | .bad,_=>none
theorem kZ(E:Env)(ops:Array Oper)(pm:Pm)(s:St)(o:Oper):Td E pm s (U1 ops o)=ME E ops pm s o:=by
 obtain⟨dst,op,type,pos,after,guard⟩:=o;unfold Td ME QC U1
 cases guard with
 |none=>rfl
 |some g=>
  obtain⟨j,b⟩:=g;simp only
  cases (ops[j]?).bind (·.dst)with
  |none=>rfl
  |some t=>
   simp only
   cases hv:s.v t with
   |bool b'=>simp only;cases hb:(b'==b)<;>simp<;>rfl
   |konst v=>cases v<;>rfl
   |_=>rfl
theorem A0b(E:Env)(ops:Array Oper): ∀(l:List Oper) (s:St),xK E (l.map fun o=>U1 ops (tag E.lends ops.toList o)) s=Zt E ops s l:=by
 intro l
 induction l with
 |nil=>intro s;rfl
 |cons o l ih=>
  intro s;simp only [RQ,xK,Zt,kZ]
  cases ME E ops Pm.all s (tag E.lends ops.toList o)with
  |none=>rfl
  |some s'=>simp only [Cs];exact ih s'
theorem xL(E:Env)(ops:Array Oper)(l0:List Oper): ∀(l:List Oper) (s:St),
  kY E (l.map fun o=>(⟨Il l0 o,l0.flatMap (FZ E.lends l0),FZ E.lends l0 o⟩,U1 ops (Xz E.lends ops.toList o))) s=TZ E ops l0 s l:=by
 intro l
 induction l with
 |nil=>intro s;rfl
 |cons o l ih=>
  intro s;simp only [RQ,kY,TZ,kZ];have h1:(PmL.mk (Il l0 o) (l0.flatMap (FZ E.lends l0)) (FZ E.lends l0 o)).pm=L8 E.lends l0 o:=nr rfl;have h2:K3 (L8 E.lends l0 o) s (U1 ops (Xz E.lends ops.toList o)).op=nI (L8 E.lends l0 o) s o:=nr rfl;rw [h1,h2];split
  ·cases ME E ops (L8 E.lends l0 o) s (Xz E.lends ops.toList o)with
   |none=>rfl
   |some s'=>simp only [Cs];exact ih s'
  ·rfl
theorem xM(E:Env): ∀(c:Code),FJ E (Bw E.lends c)=FH E c:=by
 intro c
 induction c with
 |skip=>rfl
 |region id ops draw=>
  funext s
  simp only [Bw,FH]
  cases draw with
  |true=>
   simp only [if_true];split
   ·simp only [FJ];rw [xL]
   ·rfl
  |false=>simp only [O6,if_false,FJ];rw [A0b]
 |seq a b iha ihb=>funext s;simp only [Bw,FJ,FH,iha,ihb];rfl
 |cond x a b iha ihb=>funext s;simp only [Bw,FJ,FH,iha,ihb];rfl
 |block id c ih=>funext s;simp only [Bw,FJ,FH,ih];rfl
 |loop c ih=>funext s;simp only [Bw,FJ,FH,ih]
 |exit id=>rfl
 |ret=>rfl
 |rangeFunc=>rfl
 |scope=>rfl
 |label=>rfl
 |goto=>rfl
 |refuse=>rfl
def CG(E:Env)(c:SC)(Q:Ex→St→Prop)(s:St):Prop:= ∃ex s',FJ E c s=some (ex,s')∧Q ex s'
section
variable {E:Env} {Q:Ex→St→Prop} {s:St}
def kg(E:Env)(b:SC)(Q:Ex→St→Prop):Ex→St→Prop
 | .normal,s=>CG E b Q s
 |ex,s=>Q ex s
def inBlock(id:Nat)(Q:Ex→St→Prop):Ex→St→Prop
 | .exit j,s=>if j=id then Q .normal s else Q (.exit j) s
 |ex,s=>Q ex s
theorem A3s{a b:SC}(h:CG E a (kg E b Q) s):CG E (.seq a b) Q s:=by
 obtain⟨ex,s1,h1,h2⟩:=h
 cases ex with
 |normal=>
  obtain⟨ex',s2,h3,h4⟩:=h2
  exact⟨ex',s2,by simp [FJ,h1,h3],h4⟩
 |exit id=>exact⟨_,s1,by simp [FJ,h1],h2⟩
 |ret=>exact⟨_,s1,by simp [FJ,h1],h2⟩
theorem xN{id:Nat}{c:SC}(h:CG E c (inBlock id Q) s):CG E (.block id c) Q s:=by
 obtain⟨ex,s1,h1,h2⟩:=h
 cases ex with
 |normal=>exact⟨_,s1,by simp [FJ,h1],h2⟩
 |exit j=>
  simp only [inBlock]at h2;by_cases hj:j=id
  ·subst hj;rw [if_pos rfl]at h2;exact⟨.normal,s1,by simp [FJ,h1],h2⟩
  ·rw [if_neg hj]at h2;exact⟨_,s1,by simp [FJ,h1,hj],h2⟩
 |ret=>exact⟨_,s1,by simp [FJ,h1],h2⟩
theorem Ai{c:SC}{Q':Ex→St→Prop}(h:CG E c Q s)(hq: ∀ex s,Q ex s→Q' ex s):CG E c Q' s:=by
 obtain⟨ex,s1,h1,h2⟩:=h;exact⟨ex,s1,h1,hq _ _ h2⟩
end
def FX(T:Tys)(n:Nat)(rs:List ResultVar)(r:D×List D):Ex→St→Prop
 | .normal,s=>Zu T n rs s=some r
 | .ret,s=>Zu T n rs s=some r
 | .exit _,_=>False
theorem Sys.call_wp{Y:Sys}{f:FuncId}{fn:Func}{c:Code}{k:SC}{a l:List D}{r:D×List D}(hb:Y.base f a l=none)(hf:Y.P.funcs[f]? =some fn)(hok:CP fn a.length=true)
  (hbody:fn.body=some c)(hk:Bw Y.lends c=k)(h:CG Y.env k (FX Y.T l.length fn.results.toList r) (entry a l)):Y.call f a l=some r:=by
 refine Sys.call_run hb hf hok ?_;obtain⟨ex,s1,h1,h2⟩:=h;unfold jY;rw [←hk]at h1;have h3:FJ Y.env (Bw Y.env.lends c)=FH Y.env c:=xM Y.env c;have h4:FH Y.env c (entry a l)=some (ex,s1):=by rw [←h3];exact h1
 rw [hbody];simp only [h4]
 cases ex with
 |normal=>exact h2
 |ret=>exact h2
 |exit id=>exact h2.elim
section
variable (E:Env) (pm:Pm) (s:St) (dst:Option Tmp) (ty:TypeId)
theorem oZ(op:Op):Td E pm s ⟨dst,op,ty,none⟩=PV E pm s dst op ty:=nr rfl
def grd(E:Env)(pm:Pm)(s:St)(dst:Option Tmp)(op:Op)(ty:TypeId)(b:Bool)(d:D):Option St:=
 match d with
 | .bool b'=>if b'==b then PV E pm s dst op ty else some (s.putO dst (.konst undef))
 | .konst (.tuple _)=>some (s.putO dst (.konst undef))
 |_=>none
theorem ko(op:Op)(t:Tmp)(b:Bool):Td E pm s ⟨dst,op,ty,some (some t,b)⟩=grd E pm s dst op ty b (s.v t):=nr rfl
theorem ADn(op:Op)(b':Bool):grd E pm s dst op ty true (.bool b')=if b'=true then PV E pm s dst op ty else some (s.putO dst (.konst undef)):=by cases b'<;>rfl
theorem ADo(op:Op)(b':Bool):grd E pm s dst op ty false (.bool b')=if b'=true then some (s.putO dst (.konst undef))else PV E pm s dst op ty:=by cases b'<;>rfl
theorem ADp(op:Op)(b:Bool):grd E pm s dst op ty b (.konst undef)=some (s.putO dst (.konst undef)):=nr rfl
def pk(s:St)(dst:Option Tmp)(c a b:Option D):Option St:=
 match c,a,b with
 |some (.bool t),some x,some y=>if(if t then x else y).hasObj then none else some (s.putO dst (if t then x else y))
 |_,_,_=>none
theorem xO(c a b:Operand):PV E pm s dst (.pick c a b) ty=pk s dst (ev E.T s ty c) (ev E.T s ty a) (ev E.T s ty b):=nr rfl
theorem pkT(x y:D)(h:x.hasObj=false):pk s dst (some (.bool true)) (some x) (some y)=some (s.putO dst x):=by simp [pk,h]
theorem pkF(x y:D)(h:y.hasObj=false):pk s dst (some (.bool false)) (some x) (some y)=some (s.putO dst y):=by simp [pk,h]
theorem pkB(t p q:Bool):pk s dst (some (.bool t)) (some (.bool p)) (some (.bool q))=some (s.putO dst (.bool (if t then p else q))):=by cases t<;>rfl
theorem hoB(b:Bool):(D.bool b).hasObj=false:=by simp [D.hasObj]
theorem hoI(k:IntKind)(n:Int):(D.int k n).hasObj=false:=by simp [D.hasObj]
theorem hoS(b:ByteArray):(D.str b).hasObj=false:=by simp [D.hasObj]
theorem uF(t:TypeId):PV E pm s dst (.alloc t) ty=if E.T.known t then some (s.putO dst (.box (E.T.zeros t)))else none:=nr rfl
theorem A0c(t:TypeId)(x:Operand):PV E pm s dst (.box t x) ty=if ty=900003 then(Rm E.T pm s dst t x).bind fun s1=>GZ pm s1 dst else Rm E.T pm s dst t x:=nr rfl
theorem xP(t:TypeId)(x:Operand):Rm E.T pm s dst t x=match Xv (ev E.T s t x)with
  |some ds=>if E.T.isStruct t then some (s.putO dst (.box ds))else none
  |none=>
   match take E.T pm s t x with
   |some (d,s1)=>if E.T.isStruct t==d.isAgg then some (s1.putO dst (.box d.asCells))else none
   |none=>none:=nr rfl
theorem uG(t:TypeId)(parts:Array (Nat×Operand)):PV E pm s dst (.build t parts) ty=match E.T.nest t with
  |some fl=>if E.T.isStruct t&&E.T.known t then(MC E.T pm fl s (E.T.zeros t) parts.toList).map fun r=>r.2.putO dst (.agg r.1)else none
  |none=>match E.T.ty t with
   | .struct fs=>if E.T.known t then(JG E.T pm (fun i=>fs.getD i 0) 1 s (E.T.zeros t) parts.toList).map fun r=>r.2.putO dst (.agg r.1)else none
   |_=>none:=nr rfl
theorem Yc(t:TypeId)(len:Nat)(parts:Array (Nat×Operand)):PV E pm s dst (.buildSlice t len parts) ty=if ty=900004 then(Xx E.T pm s dst t len parts).bind fun s1=>QB pm s1 dst else Xx E.T pm s dst t len parts:=nr rfl
def stF(pm:Pm)(a:Operand):Option St→Option St
 |some s1=>GZ pm s1 (Xy a)
 |none=>none
theorem xQ(a:Operand)(o:Option St):stF pm a o=o.bind fun s1=>GZ pm s1 (Xy a):=by cases o<;>rfl
theorem uH(t:TypeId)(a x:Operand):PV E pm s none (.store t a x) ty=if ty=900007 then Gu E.T pm t a (Ob E.T pm s t x)else if ty=900010 then WZ E.T pm s t a x else if ty=900011 then stF pm a (MB E.T pm s t a x)else MB E.T pm s t a x:=by
 rw [xQ];rfl
def N7(s:St)(dst:Option Tmp):Option D→Option St
 |some r=>some (s.putO dst r)
 |none=>none
theorem A7O(r:D):N7 s dst (some r)=some (s.putO dst r):=nr rfl
def eX(dst:Option Tmp):Option (D×St)→Option St
 |some r=>some (r.2.putO dst r.1)
 |none=>none
theorem A7P(r:D)(s:St):eX dst (some (r,s))=some (s.putO dst r):=nr rfl
def aF(T:Tys)(s:St)(dst:Option Tmp)(op:BinOp)(t:TypeId):Option D→Option D→Option St
 |some a,some b=>if Rl T t a then N7 s dst (GH op a b)else none
 |_,_=>none
theorem A7Q(T:Tys)(op:BinOp)(t:TypeId)(a b:D):aF T s dst op t (some a) (some b)=if Rl T t a then N7 s dst (GH op a b)else none:=nr rfl
def fzB(pm:Pm)(dst:Option Tmp)(u:Tmp):Option St→Option St
 |some s1=>jV pm s1 dst u
 |none=>none
theorem A3t(op:BinOp)(t:TypeId)(x y:Operand)(t':TypeId):PV E pm s dst (.binOp op t x y t') ty=if ty<2000000 then Jv E.T pm s dst op t x y else fzB pm dst (ty-2000000) (Jv E.T pm s dst op t x y):=by
 show(if ty<2000000 then Jv E.T pm s dst op t x y else(Jv E.T pm s dst op t x y).bind fun s1=>jV pm s1 dst (ty-2000000))=_
 cases Jv E.T pm s dst op t x y<;>rfl
theorem Xe(op:BinOp)(t:TypeId)(x y:Operand)(hq:jT E.T op t y=none):Jv E.T pm s dst op t x y=aF E.T s dst op t (ev E.T s t x) (ev E.T s t y):=by
 unfold Jv;rw [hq];simp only
 cases ev E.T s t x<;>cases ev E.T s t y<;>simp only [aF]
 rename_i a b
 cases GH op a b<;>rfl
theorem ADr(op:BinOp)(t:TypeId)(x:Operand)(u:Tmp)(t':TypeId):PV E pm s dst (.binOp op t x (.tmp u) t') ty=if ty<2000000 then aF E.T s dst op t (ev E.T s t x) (some (s.v u))else fzB pm dst (ty-2000000) (aF E.T s dst op t (ev E.T s t x) (some (s.v u))):=by
 rw [A3t,Xe E pm s dst op t x (.tmp u) rfl];rfl
theorem ADs(op:BinOp)(t:TypeId)(x:Operand)(k:IntKind)(n:Int)(t':TypeId):PV E pm s dst (.binOp op t x (.const (.int k n)) t') ty=if ty<2000000 then aF E.T s dst op t (ev E.T s t x) (some (.int k n))else fzB pm dst (ty-2000000) (aF E.T s dst op t (ev E.T s t x) (some (.int k n))):=by
 rw [A3t,Xe E pm s dst op t x _ rfl];rfl
def xR(s:St)(dst:Option Tmp)(q:Bool):Option Bool→Option St
 |some b=>some (s.putO dst (.bool (b==q)))
 |none=>none
theorem A7R(b:Bool):xR s dst true (some b)=some (s.putO dst (.bool b)):=by cases b<;>rfl
def nt0(op:BinOp)(s:St)(dst:Option Tmp)(r:Option Bool)(o:Option St):Ty→Option St
 | .slice _=>match op with| .eql=>xR s dst true r| .neq=>xR s dst false r|_=>o
 |_=>o
theorem ADt(r:Option Bool)(o:Option St)(e:TypeId):nt0 .eql s dst r o (.slice e)=xR s dst true r:=nr rfl
theorem A0d(op:BinOp)(t:TypeId)(u:Tmp):Jv E.T pm s dst op t (.tmp u) (.const (.slice none 0 0))=nt0 op s dst (Vf pm s (s.v u)) (aF E.T s dst op t (some (s.v u)) (ev E.T s t (.const (.slice none 0 0)))) (E.T.ty t):=by
 have key: ∀q,jT E.T op t (.const (.slice none 0 0))=some q→Jv E.T pm s dst op t (.tmp u) (.const (.slice none 0 0))=xR s dst q (Vf pm s (s.v u)):=by
  intro q hq;unfold Jv;rw [hq];simp only [ev,Cs]
  cases Vf pm s (s.v u)<;>rfl
 cases ht:E.T.ty t with
 |slice e=>
  cases op<;>first
   |(simp only [nt0];exact key true (by simp [jT,ht]))
   |(simp only [nt0];exact key false (by simp [jT,ht]))
   |(simp only [nt0];exact Xe E pm s dst _ t _ _ (by simp [jT,ht]))
 |_=>exact Xe E pm s dst _ t _ _ (by simp [jT,ht])
theorem A3v(op:BinOp)(t:TypeId)(u:Tmp)(t':TypeId):PV E pm s dst (.binOp op t (.tmp u) (.const (.slice none 0 0)) t') ty=if ty<2000000 then nt0 op s dst (Vf pm s (s.v u)) (aF E.T s dst op t (some (s.v u)) (ev E.T s t (.const (.slice none 0 0)))) (E.T.ty t)
  else fzB pm dst (ty-2000000) (nt0 op s dst (Vf pm s (s.v u)) (aF E.T s dst op t (some (s.v u)) (ev E.T s t (.const (.slice none 0 0)))) (E.T.ty t)):=by
 rw [A3t,A0d]
theorem ADu(e:TypeId)(x:D)(xs:List D):Vf pm s (.sl e (x::xs))=some false:=nr rfl
theorem ndK(A:Option Addr)(n c:Nat):Vf pm s (.konst (.slice A n c))=some A.isNone:=nr rfl
theorem kr(src d:TypeId)(x:Operand):PV E pm s dst (.convert src d x) ty=if E.T.known src then
   match ev E.T s src x,E.T.ty d with
   |some (.int _ n),.int k=>some (s.putO dst (.int k (k.wrap n)))
   |some (.str b),.string=>some (s.putO dst (.str b))
   |_,_=>none
  else none:=nr rfl
theorem eY(f:FuncId)(first captured:Array Operand):PV E pm s dst (.makeFunc (.func f) first captured) ty=if ty<3000000 then(if first.isEmpty then(Oe pm s captured.toList).map fun r=>r.2.putO dst (.clo f r.1)else none)
  else(if first.isEmpty then(Xw pm s (ty-3000000) captured.toList).map fun r=>r.2.putO dst (.ocl false f r.1)else none):=nr rfl
theorem aG(t:TypeId)(l c:Operand):PV E pm s dst (.makeSlice t l c) ty=if ty=900012 then(Zr E.T s dst t l c).bind fun s1=>QB pm s1 dst else Zr E.T s dst t l c:=nr rfl
theorem eZ(x:Operand):PV E pm s dst (.nilCheck x) ty=(ev E.T s ty x).bind fun d=>
   match d with
   | .box _=>some (DF s dst x d)
   | .vw L n m=>match s.look pm L n m with|some (.box _)=>some (DF s dst x d)|_=>none
   | .pe L _ n m=>match s.look pm L n m with|some _=>some (DF s dst x d)|none=>none
   | .cptr _=>some (DF s dst x d)
   | .clo _ _=>some (DF s dst x d)
   | .ocl false _ _=>some (DF s dst x d)
   |_=>none:=nr rfl
theorem og(x y:Operand)(t t':TypeId):PV E pm s dst (.call ⟨.builtin .append, #[x,y], #[t,t']⟩) ty=if t=t' then(if isZ (ev E.T s t y)then Oc E.T pm s t x else JF E.T pm s t x y).map fun r=>r.2.putO dst r.1 else none:=nr rfl
theorem xS(f:FuncId)(args:Array Operand)(ts:Array TypeId):PV E pm s dst (.call ⟨.value (.func f),args,ts⟩) ty=if args.size=ts.size then(if ty=900014 then(Ik E pm s dst f (args.toList.zip (Ro ty ts.toList)) []).bind fun s1=>GZ pm s1 dst else Ik E pm s dst f (args.toList.zip (Ro ty ts.toList)) [])else none:=nr rfl
theorem uI(u:Tmp)(args:Array Operand)(ts:Array TypeId):PV E pm s dst (.call ⟨.value (.tmp u),args,ts⟩) ty=match s.v u with
   | .clo f caps=>if args.size=ts.size then Ik E pm s dst f (args.toList.zip ts.toList) caps else none
   | .ocl false f caps=>if args.size=ts.size then Og E pm s dst f (args.toList.zip ts.toList) caps else none
   |_=>none:=nr rfl
end
theorem A3w(T:Tys)(s:St)(t:TypeId)(u:Tmp):ev T s t (.tmp u)=some (s.v u):=nr rfl
theorem A3x(T:Tys)(s:St)(t:TypeId)(k:IntKind)(n:Int):ev T s t (.const (.int k n))=some (.int k n):=nr rfl
theorem A0e(T:Tys)(s:St)(t:TypeId)(b:Bool):ev T s t (.const (.bool b))=some (.bool b):=nr rfl
theorem A3y(T:Tys)(s:St)(t:TypeId):ev T s t (.const (.slice none 0 0))=match T.ty t with| .slice e=>some (.own e [])| .other=>some (.konst (.slice none 0 0))|_=>none:=nr rfl
theorem A7S(s:St)(t u:Nat)(d:D):(s.put t d).v u=if u=t then d else s.v u:=by rw [A1j];rfl
theorem A7T(s:St)(t u:Nat)(d:D):(s.put t d).k u=if u=t then(if d.hasObj then s.k t+1 else s.k t)else s.k u:=by
 unfold St.put;by_cases h:u=t
 ·subst h;cases hd:d.hasObj<;>simp [PO]
 ·cases hd:d.hasObj<;>simp [PO,h]
theorem A7U(s:St)(t u:Nat)(d:D):(s.put t d).m u=s.m u:=by unfold St.put;split<;>rfl
theorem A7V(s:St)(t u:Nat):(s.clr t).v u=if u=t then .undef else s.v u:=nr rfl
theorem A7W(s:St)(t u:Nat):(s.clr t).k u=s.k u:=nr rfl
theorem A7X(s:St)(t u:Nat):(s.clr t).m u=s.m u:=nr rfl
theorem A3z(s:St)(t u:Nat):(s.bump t).v u=s.v u:=nr rfl
theorem A40(s:St)(t u:Nat):(s.bump t).k u=s.k u:=nr rfl
theorem A41(s:St)(t u:Nat):(s.bump t).m u=if u=t then s.m t+1 else s.m u:=nr rfl
theorem A7Y(s:St)(t u:Nat)(p:AJ)(d:D):(s.set (t::p) d).v u=if u=t then I4 (s.v t) p d else s.v u:=nr rfl
theorem A7Z(s:St)(t u:Nat)(p:AJ)(d:D):(s.set (t::p) d).k u=s.k u:=nr rfl
theorem A7a(s:St)(t u:Nat)(p:AJ)(d:D):(s.set (t::p) d).m u=s.m u:=nr rfl
theorem uJ(s:St)(t:Tmp)(d:D):s.putO (some t) d=s.put t d:=nr rfl
theorem uK(s:St)(d:D):s.putO none d=s:=nr rfl
theorem A7b(Y:Sys):Y.env.T=Y.T:=nr rfl
theorem uL(Y:Sys):Y.env.lends=Y.lends:=nr rfl
theorem xU(Y:Sys):Y.env.call=Y.call:=nr rfl
theorem A0f(a l:List D)(t:Nat):(entry a l).v t=if t<G then a.getD t .undef else l.getD (t-G) .undef:=nr rfl
theorem A0g(a l:List D)(t:Nat):(entry a l).k t=0:=nr rfl
theorem A0h(a l:List D)(t:Nat):(entry a l).m t=0:=nr rfl
theorem QN{r:Ex×St}{Q:Ex→St→Prop}:(∃ex s',some r=some (ex,s')∧Q ex s')=Q r.1 r.2:=
 propext ⟨fun⟨ex,s',h,hq⟩=>by injection h with h;subst h;exact hq,fun h=>⟨r.1,r.2,rfl,h⟩⟩
section
variable (E:Env) (Q:Ex→St→Prop) (s:St)
theorem A7c:CG E .skip Q s=Q .normal s:=QN
theorem A7d(id:Nat):CG E (.exit id) Q s=Q (.exit id) s:=QN
theorem ADv:CG E .ret Q s=Q .ret s:=QN
theorem ADw:CG E (.ops []) Q s=Q .normal s:=QN
def nxt(E:Env)(l:List SOp)(Q:Ex→St→Prop):Option St→Prop
 |some s=>CG E (.ops l) Q s
 |none=>False
theorem ADx(l:List SOp):nxt E l Q (some s)=CG E (.ops l) Q s:=nr rfl
theorem A7e(o:SOp)(l:List SOp):CG E (.ops (o::l)) Q s=nxt E l Q (Td E Pm.all s o):=by
 unfold CG;simp only [FJ,xK]
 cases Td E Pm.all s o with
 |none=>simp [nxt]
 |some s'=>simp [nxt,CG,FJ]
theorem A7f:CG E (.draws []) Q s=Q .normal s:=QN
def xV(E:Env)(l:List (PmL×SOp))(Q:Ex→St→Prop):Bool→Option St→Prop
 |true,some s=>CG E (.draws l) Q s
 |_,_=>False
theorem A7g(l:List (PmL×SOp)):xV E l Q true (some s)=CG E (.draws l) Q s:=nr rfl
theorem A42(p:PmL)(o:SOp)(l:List (PmL×SOp)):CG E (.draws ((p,o)::l)) Q s=xV E l Q (K3 p.pm s o.op) (Td E p.pm s o):=by
 unfold CG;simp only [FJ,kY]
 cases K3 p.pm s o.op with
 |true=>
  cases Td E p.pm s o with
  |none=>simp [xV]
  |some s'=>simp [xV,CG,FJ]
 |false=>simp [xV]
theorem ADy(a b:SC):CG E (.seq a b) Q s=CG E a (kg E b Q) s:=by
 refine propext ⟨fun⟨ex,s1,h1,h2⟩=> ?_,A3s⟩;simp only [FJ]at h1
 cases ha:FJ E a s with
 |none=>simp [ha]at h1
 |some q=>
  obtain⟨ex',s2⟩:=q
  cases ex' with
  |normal=>simp only [ha]at h1;exact⟨_,s2,ha,ex,s1,h1,h2⟩
  |exit id=>simp only [ha,Option.some.injEq,Prod.mk.injEq]at h1;obtain⟨rfl,rfl⟩:=h1;exact⟨_,s2,ha,h2⟩
  |ret=>simp only [ha,Option.some.injEq,Prod.mk.injEq]at h1;obtain⟨rfl,rfl⟩:=h1;exact⟨_,s2,ha,h2⟩
def cnd(E:Env)(a b:SC)(Q:Ex→St→Prop)(s:St):Option D→Prop
 |some (.bool t)=>if t=true then CG E a Q s else CG E b Q s
 |_=>False
theorem ADz(a b:SC)(t:Bool):cnd E a b Q s (some (.bool t))=if t=true then CG E a Q s else CG E b Q s:=nr rfl
theorem A7i(c:Operand)(a b:SC):CG E (.cond c a b) Q s=cnd E a b Q s (ev E.T s 0 c):=by
 unfold CG;simp only [FJ]
 cases ev E.T s 0 c with
 |none=>simp [cnd]
 |some d=>cases d with
  |bool t=>cases t<;>simp [cnd,CG]
  |_=>simp [cnd]
theorem A43(id:Nat)(c:SC):CG E (.block id c) Q s=CG E c (inBlock id Q) s:=by
 refine propext ⟨fun⟨ex,s1,h1,h2⟩=> ?_,xN⟩;simp only [FJ]at h1
 cases ha:FJ E c s with
 |none=>simp [ha]at h1
 |some q=>
  obtain⟨ex',s2⟩:=q
  cases ex' with
  |normal=>simp only [ha,Option.some.injEq,Prod.mk.injEq]at h1;obtain⟨rfl,rfl⟩:=h1;exact⟨_,s2,ha,h2⟩
  |exit j=>
   simp only [ha]at h1;by_cases hj:j=id
   ·simp only [hj,if_true,Option.some.injEq,Prod.mk.injEq]at h1;obtain⟨rfl,rfl⟩:=h1;exact⟨_,s2,ha,by simpa [inBlock,hj] using h2⟩
   ·simp only [hj,if_false,Option.some.injEq,Prod.mk.injEq]at h1;obtain⟨rfl,rfl⟩:=h1;exact⟨_,s2,ha,by simpa [inBlock,hj] using h2⟩
  |ret=>simp only [ha,Option.some.injEq,Prod.mk.injEq]at h1;obtain⟨rfl,rfl⟩:=h1;exact⟨_,s2,ha,h2⟩
theorem A44(b:SC):kg E b Q .normal s=CG E b Q s:=nr rfl
theorem A45(b:SC)(id:Nat):kg E b Q (.exit id) s=Q (.exit id) s:=nr rfl
theorem A46(b:SC):kg E b Q .ret s=Q .ret s:=nr rfl
theorem AE0(id:Nat):inBlock id Q .normal s=Q .normal s:=nr rfl
theorem AE1(id j:Nat):inBlock id Q (.exit j) s=if j=id then Q .normal s else Q (.exit j) s:=nr rfl
theorem AE2(id:Nat):inBlock id Q .ret s=Q .ret s:=nr rfl
theorem A7j(T:Tys)(n:Nat)(rs:List ResultVar)(r:D×List D):FX T n rs r .normal s=(Zu T n rs s=some r):=nr rfl
theorem A7k(T:Tys)(n:Nat)(rs:List ResultVar)(r:D×List D):FX T n rs r .ret s=(Zu T n rs s=some r):=nr rfl
end
section
variable (s:St) (dst:Option Tmp) (u:Tmp) (k:IntKind) (n:Int) (b:Bool) (x:ByteArray) (e:TypeId) (xs:List D) (L:AJ) (i j c:Nat) (v:Value) (f:FuncId)
theorem A7l:DF s dst (.tmp u) (.int k n)=s.putO dst (.int k n):=nr rfl
theorem A47:DF s dst (.tmp u) (.bool b)=s.putO dst (.bool b):=nr rfl
theorem AE3:DF s dst (.tmp u) (.sl e xs)=s.putO dst (.sl e xs):=nr rfl
theorem A0i:DF s dst (.tmp u) (.konst v)=s.putO dst (.konst v):=nr rfl
theorem A7m:DF s dst (.tmp u) (.own e xs)=s.putO dst (.vw [u] (s.k u) (s.m u)):=nr rfl
theorem A7n:DF s dst (.tmp u) (.box xs)=s.putO dst (.vw [u] (s.k u) (s.m u)):=nr rfl
theorem AE4:DF s dst (.tmp u) (.vw L i j)=s.putO dst (.vw L i j):=nr rfl
theorem A48:DF s dst (.tmp u) (.cptr xs)=s.putO dst (.cptr xs):=nr rfl
theorem A7o:DF s dst (.tmp u) (.clo f xs)=s.putO dst (.clo f xs):=nr rfl
theorem A7p:DF s dst (.tmp u) (.tup xs)=if Am xs then(if Am (Mo s u 0 xs)then(s.clr u).putO dst (.tup xs)else s.putO dst (.tup (Mo s u 0 xs)))else s.putO dst (.tup xs):=nr rfl
theorem A7q(i:Nat):Mo s u i []=[]:=nr rfl
theorem A49(i:Nat)(x:D):Mo s u i (x::xs)=Rk s u i x::Mo s u (i+1) xs:=nr rfl
theorem A7r(i:Nat):Rk s u i (.agg xs)= .agg (Mm s [u,i] 0 xs):=nr rfl
theorem A4A(i:Nat):Rk s u i (.bool b)= .bool b:=nr rfl
theorem A7s(i:Nat):Rk s u i (.own e xs)= .vw [u,i] (s.k u) (s.m u):=nr rfl
theorem A7t(L:AJ)(i:Nat):Mm s L i []=[]:=nr rfl
theorem A4B(L:AJ)(i:Nat):Mm s L i (.int k n::xs)= .int k n::Mm s L (i+1) xs:=nr rfl
theorem A4C(r c:Nat)(i:Nat)(zs:List D):Mm s [r,c] i (.own e zs::xs)= .vw [r,c,i] (s.k r) (s.m r)::Mm s [r,c] (i+1) xs:=nr rfl
variable (pm:Pm)
theorem A7u:C9 pm s dst (.tmp u) (.int k n)=some (s.putO dst (.int k n)):=nr rfl
theorem A4D:C9 pm s dst (.tmp u) (.bool b)=some (s.putO dst (.bool b)):=nr rfl
theorem AE5:C9 pm s dst (.tmp u) (.sl e xs)=some (s.putO dst (.sl e xs)):=nr rfl
theorem A7v:C9 pm s dst (.tmp u) (.own e xs)=some ((s.clr u).putO dst (.own e xs)):=nr rfl
theorem A7w:C9 pm s dst (.tmp u) (.box xs)=some ((s.clr u).putO dst (.box xs)):=nr rfl
theorem A7x(r:Nat):C9 pm s dst (.tmp u) (.vw [r] i j)=(Rf pm s [r] i j).map fun q=>q.2.putO dst q.1:=nr rfl
def asT(_s:St)(dst:Option Tmp)(a:Option (D×St))(b:Option St):Bool→Option St
 |true=>a.map fun q=>q.2.putO dst q.1
 |false=>b
theorem AE7(a:Option (D×St))(b:Option St):asT s dst a b true=a.map fun q=>q.2.putO dst q.1:=nr rfl
theorem AE8(a:Option (D×St))(b:Option St):asT s dst a b false=b:=nr rfl
theorem A7y(r r':Nat)(p:AJ):C9 pm s dst (.tmp u) (.vw (r::r'::p) i j)=asT s dst (Ct pm s (.vw (r::r'::p) i j)) (some (s.putO dst (.vw (r::r'::p) i j))) (isT pm s r):=by
 by_cases h:isT pm s r=true
 ·have h':nH pm s (.vw (r::r'::p) i j)=true:=h;unfold C9;simp only [h',h,if_true];rfl
 ·have h':nH pm s (.vw (r::r'::p) i j)=false:=Ju.mpr h;unfold C9;simp only [h',Ju.mpr h];rfl
theorem AE9(r:Nat):isT pm s r=(pm.rd r&&wD (s.v r)):=nr rfl
theorem A7z:wD (.tup xs)=true:=nr rfl
theorem A80:wD (.own e xs)=false:=nr rfl
theorem A81:wD (.box xs)=false:=nr rfl
theorem A82:C9 pm s dst (.tmp u) (.clo f xs)=some (s.putO dst (.clo f xs)):=nr rfl
end
section
variable (k:IntKind) (x y:Int) (p q:Bool) (a b:ByteArray)
theorem A83:GH .add (.int k x) (.int k y)=some (.int k (k.wrap (x+y))):=by simp [GH]
theorem A84:GH .sub (.int k x) (.int k y)=some (.int k (k.wrap (x-y))):=by simp [GH]
theorem A85:GH .mul (.int k x) (.int k y)=some (.int k (k.wrap (x*y))):=by simp [GH]
theorem A86:GH .quo (.int k x) (.int k y)=if y=0 then none else some (.int k (k.wrap (x.tdiv y))):=by simp [GH]
theorem A87:GH .rem (.int k x) (.int k y)=if y=0 then none else some (.int k (x.tmod y)):=by simp [GH]
theorem A88:GH .and (.int k x) (.int k y)=some (.int k (Ml .and k x y)):=by simp [GH]
theorem AEA:GH .or (.int k x) (.int k y)=some (.int k (Ml .or k x y)):=by simp [GH]
theorem A89(k':IntKind):GH .shl (.int k x) (.int k' y)=if y<0 then none else some (.int k (k.wrap (x*2 ^ (min y.toNat k.bits)))):=by simp [GH]
theorem A8A(k':IntKind):GH .shr (.int k x) (.int k' y)=if y<0 then none else some (.int k (x.fdiv (2 ^ (min y.toNat k.bits)))):=by simp [GH]
theorem AEB:GH .eql (.int k x) (.int k y)=some (.bool (decide (x=y))):=by simp [GH];rfl
theorem AEC:GH .neq (.int k x) (.int k y)=some (.bool (!decide (x=y))):=by simp [GH];rfl
theorem AED:GH .lss (.int k x) (.int k y)=some (.bool (decide (x<y))):=by simp [GH]
theorem AEE:GH .leq (.int k x) (.int k y)=some (.bool (decide (x≤y))):=by simp [GH]
theorem AEF:GH .gtr (.int k x) (.int k y)=some (.bool (decide (y<x))):=by simp [GH]
theorem AEG:GH .geq (.int k x) (.int k y)=some (.bool (decide (y≤x))):=by simp [GH]
theorem A8B:GH .neq (.bool p) (.bool q)=some (.bool (!(p==q))):=nr rfl
theorem A8C:unD .not (.bool p)=some (.bool (!p)):=nr rfl
theorem boI(T:Tys)(t:TypeId):Rl T t (.int k x)=true:=nr rfl
theorem boB(T:Tys)(t:TypeId):Rl T t (.bool p)=match T.ty t with| .bool=>true|_=>false:=nr rfl
end
def Gx(xs:AL):List D:=xs.map (D.int .i64)
theorem DK(xs:AL):(Gx xs).length=xs.length:=by simp [Gx]
end Dv
namespace Dv
open Go
def zB:Value→Value→Bool
 | .int k n,.int k' n'=>decide (k=k')&&decide (n=n')
 | .bool b,.bool b'=>b==b'
 | .string s,.string s'=>s.size==0&&s'.size==0
 | .slice none 0 0,.slice none 0 0=>true
 | .nilFunc,.nilFunc=>true
 | .pointer none,.pointer none=>true
 |_,_=>false
theorem A1k{a b:Value}(h:zB a b=true):a=b:=by
 unfold zB at h
 split at h
 ·simp only [KG,decide_eq_true_eq]at h;rw [h.1,h.2]
 ·simp only [beq_iff_eq]at h;rw [h]
 ·simp only [KG,beq_iff_eq]at h
  rename_i s s'
  have: ∀t:ByteArray,t.size=0→t=ByteArray.empty:=by
   intro t ht;obtain⟨d⟩:=t;have:d= #[]:=Array.size_eq_zero_iff.1 ht
   rw [this];rfl
  rw [this s h.1,this s' h.2]
 ·rfl
 ·rfl
 ·rfl
 ·cases h
def zsB:List Value→List Value→Bool
 | [],[]=>true
 |a::as,b::bs=>zB a b&&zsB as bs
 |_,_=>false
theorem xW: ∀ {a b:List Value},zsB a b=true→a=b
 | [],[],_=>rfl
 | [],_::_,h=>by cases h
 |_::_,[],h=>by cases h
 |a::as,b::bs,h=>by
  simp only [zsB,KG]at h;rw [A1k h.1,xW h.2]
def Us(P:Program)(t:TypeId)(n:Nat)(z:Value):Bool:=
 match P.info? t with
 |some i=>(i.size==n)&&(decide (4<n)||decide (i.bytes≤128))&&(match i.zero,z with|some (.agg a),.agg b=>zsB a.toList b.toList|some v,z=>zB v z|_,_=>false)
 |none=>false
theorem Oo{P:Program}{t:TypeId}{n:Nat}{z:Value}(h:Us P t n z=true):Qo P t n z:=by
 unfold Us at h
 split at h
 ·rename_i i hi
  simp only [KG,UQ,beq_iff_eq,decide_eq_true_eq]at h
  refine⟨i,hi,h.1.1, ?_,fun h4=>h.1.2.resolve_left (by omega)⟩
  have h2:=h.2
  split at h2
  ·rename_i a b hz
   rw [hz];have:=xW h2
   rw [←UN (xs:=a),this]
  ·rename_i v z' hz _
   rw [hz,A1k h2]
  ·cases h2
 ·cases h
def eu(P:Program)(T:Tys)(t:TypeId):Bool:=
 match T.ty t with
 | .int k=>(match P.underlying t with|some (.int k')=>decide (k'=k)|_=>false)&&Us P t 1 (.int k 0)
 | .bool=>(match P.underlying t with|some .bool=>true|_=>false)&&Us P t 1 (.bool false)
 | .string=>(match P.underlying t with|some .string=>true|_=>false)&&Us P t 1 (.string ByteArray.empty)
 | .slice e=>(match P.underlying t with|some (.slice e')=>e'==e|_=>false)&&Us P t 1 (.slice none 0 0)
 | .struct fs=>(match P.underlying t with
   |some (.struct fields)=>
    match T.nest t with
    |none=>(fields.size==fs.length)&&(List.range fields.size).all (fun j=>match fields[j]?,fs[j]? with|some f,some g=>(f.offset==j)&&(f.type==g)&&T.known g&& !T.isStruct g|_,_=>false)
    |some fl=>decide (4<fs.length)&&(fields.size==fl.length)&&(List.range fields.size).all (fun j=>match fields[j]?,fl[j]? with|some f,some g=>(f.offset==g.1)&&(f.type==g.2)&&T.known g.2|_,_=>false)
   |_=>false)&&Us P t fs.length (.agg (fs.map (Jz T)).toArray)
 | .func=>(match P.underlying t with|some (.func ..)=>true|_=>false)&&Us P t 1 .nilFunc
 | .ptr=>(match P.underlying t with|some (.pointer _)=>true|_=>false)&&Us P t 1 (.pointer none)
 | .map k e=>match P.underlying t with|some (.map k' e')=>(k'==k)&&(e'==e)|_=>false
 | .other=>true
theorem ol{P:Program}{T:Tys}{t:TypeId}(h:eu P T t=true):I5 P T t:=by
 unfold eu at h;unfold I5
 cases hty:T.ty t<;>rw [hty]at h<;>simp only [KG]at h ⊢
 case int k=>
  refine⟨?_,Oo h.2⟩
  have h1:=h.1
  split at h1
  ·rename_i k' hu;rw [hu];simp only [decide_eq_true_eq]at h1;rw [h1]
  ·cases h1
 case bool=>
  refine⟨?_,Oo h.2⟩
  have h1:=h.1
  split at h1
  ·assumption
  ·cases h1
 case string=>
  refine⟨?_,Oo h.2⟩
  have h1:=h.1
  split at h1
  ·assumption
  ·cases h1
 case map k e=>
  split at h
  ·rename_i k' e' hu;rw [hu];simp only [KG,beq_iff_eq]at h;rw [h.1,h.2]
  ·cases h
 case slice e=>
  refine⟨?_,Oo h.2⟩
  have h1:=h.1
  split at h1
  ·rename_i k' hu;rw [hu];simp only [beq_iff_eq]at h1;rw [h1]
  ·cases h1
 case struct fs=>
  refine⟨?_,Oo h.2⟩
  have h1:=h.1
  split at h1
  ·rename_i fields hu
   refine⟨fields,hu, ?_⟩
   cases hn:T.nest t with
   |none=>
    simp only [hn,KG,beq_iff_eq,Jr,O7]at h1 ⊢
    refine⟨h1.1,fun j f hf=> ?_⟩
    have hlt:=(UM.1 hf).1;have:=h1.2 j hlt
    rw [hf]at this
    split at this
    ·rename_i f' g hf' hg
     simp only [Option.some.injEq]at hf';subst hf';simp only [KG,beq_iff_eq,Pt]at this;obtain⟨⟨⟨q1,q2⟩,q3⟩,q4⟩:=this;subst q2
     exact⟨q1,hg,q3,q4⟩
    ·cases this
   |some fl=>
    simp only [hn,KG,beq_iff_eq,Jr,O7,decide_eq_true_eq]at h1 ⊢
    refine⟨h1.1.1,h1.1.2,fun j f hf=> ?_⟩
    have hlt:=(UM.1 hf).1;have:=h1.2 j hlt
    rw [hf]at this
    split at this
    ·rename_i f' g hf' hg
     simp only [Option.some.injEq]at hf';subst hf';simp only [KG,beq_iff_eq]at this;obtain⟨⟨q1,q2⟩,q3⟩:=this
     refine⟨?_,by rw [q2];exact q3⟩
     rw [hg,q1,q2]
    ·cases this
  ·cases h1
 case func=>
  refine⟨?_,Oo h.2⟩
  have h1:=h.1
  split at h1
  ·exact⟨_,_,_,by assumption⟩
  ·cases h1
 case ptr=>
  refine⟨?_,Oo h.2⟩
  have h1:=h.1
  split at h1
  ·exact⟨_,by assumption⟩
  ·cases h1
def uM(tab:List Ty)(nst:List (TypeId×List (Nat×TypeId))):Tys:={ty:=fun t=>tab.getD t .other,nest:=fun t=>nst.lookup t}
theorem A4E{P:Program}{tab:List Ty}{nst:List (TypeId×List (Nat×TypeId))}(h:((List.range tab.length).all fun t=>eu P (uM tab nst) t&&A0M P (uM tab nst) t)=true):CZ P (uM tab nst):=by
 intro t;rcases Nat.lt_or_ge t tab.length with ht|ht
 ·have:=Jr.1 h t (O7.2 ht)
  rw [KG]at this
  exact⟨ol this.1,this.2⟩
 ·have:(uM tab nst).ty t= .other:=by simp [uM,M8,List.getElem?_eq_none ht]
  refine⟨?_, ?_⟩
  ·unfold I5;rw [this];trivial
  ·unfold A0M;rw [this]
theorem AZ{Y:Sys}{f:FuncId}{fn:Func}{k:SC}{a l:List D}{r:D×List D}(hb:Y.base f a l=none)(hf:Y.P.funcs[f]? =some fn)(hok:CP fn a.length=true)
  (hk:fn.body.map (Bw Y.lends)=some k)(h:CG Y.env k (FX Y.T l.length fn.results.toList r) (entry a l)):Y.call f a l=some r:=by
 obtain⟨c,hc,hk⟩:=Dc.1 hk;exact Sys.call_wp hb hf hok hc hk h
end Dv
namespace Dv
open Go
section
variable (E:Env) (pm:Pm) (s:St) (dst:Option Tmp) (ty:TypeId) (u:Tmp) (t:TypeId)
theorem Oq(o:Option D):(o.map fun r=>s.putO dst r)=N7 s dst o:=by cases o<;>rfl
theorem QO(o:Option (D×St)):(o.map fun r=>r.2.putO dst r.1)=eX dst o:=by cases o<;>rfl
theorem A8D:PV E pm s dst (.move (.tmp u)) ty=some (DF s dst (.tmp u) (s.v u)):=nr rfl
def vY(pm:Pm):Option Tmp→Option St→Option St
 |some t,some s1=>GZ pm s1 (some t)
 |_,_=>none
def frC(s1:St)(t:Tmp):Option D→Option St
 |some c=>some (s1.set [t] c)
 |none=>none
theorem AEH(s1:St)(t:Tmp)(h1:pm.rd t=true)(h2:pm.wr t=true):vY pm (some t) (some s1)=frC s1 t (ET (s1.v t)):=by
 show(if pm.rd t&&pm.wr t then(ET (s1.v t)).map fun c=>s1.set [t] c else none)=_
 rw [h1,h2]
 cases ET (s1.v t)<;>rfl
theorem AEI(s1:St)(t:Tmp)(c:D):frC s1 t (some c)=some (s1.set [t] c):=nr rfl
def fcB(pm:Pm):Option Tmp→Option St→Option St
 |some t,some s1=>QB pm s1 (some t)
 |_,_=>none
def fcD(s1:St)(t:Tmp)(e:TypeId):Option (List D)→Option St
 |some ys=>some (s1.set [t] (.own e ys))
 |none=>none
def fcC(s1:St)(t:Tmp):D→Option St
 | .own e xs=>fcD s1 t e (FE xs)
 |_=>none
theorem AEL(s1:St)(t:Tmp)(h1:pm.rd t=true)(h2:pm.wr t=true):fcB pm (some t) (some s1)=fcC s1 t (s1.v t):=by
 show QB pm s1 (some t)=_
 unfold QB fcC;dsimp only;rw [h1,h2]
 cases s1.v t with
 |own e xs=>simp only [Bool.and_self,if_true];cases FE xs<;>rfl
 |_=>rfl
theorem AEM(s1:St)(t:Tmp)(e:TypeId)(xs:List D):fcC s1 t (.own e xs)=fcD s1 t e (FE xs):=nr rfl
theorem AEN(s1:St)(t:Tmp)(e:TypeId)(ys:List D):fcD s1 t e (some ys)=some (s1.set [t] (.own e ys)):=nr rfl
theorem A0j:PV E pm s dst (.assign (.tmp u)) ty=if ty=900003 then vY pm dst (C9 pm s dst (.tmp u) (s.v u))else if ty<1000000 then C9 pm s dst (.tmp u) (s.v u)else vY pm dst (C9 pm s dst (.tmp u) (s.v u)):=by
 have hfr:((C9 pm s dst (.tmp u) (s.v u)).bind fun s1=>GZ pm s1 dst)=vY pm dst (C9 pm s dst (.tmp u) (s.v u)):=by
  rcases C9 pm s dst (.tmp u) (s.v u)with _|s1<;>cases dst<;>rfl
 show(if wE ty=true then(C9 pm s dst (.tmp u) (s.v u)).bind fun s1=>GZ pm s1 dst else C9 pm s dst (.tmp u) (s.v u))=_
 rw [hfr];unfold wE;by_cases h1:ty=900003
 ·rw [if_pos h1,if_pos h1];rfl
 ·rw [if_neg h1,if_neg h1];by_cases h2:ty<1000000
  ·rw [if_pos h2,if_pos h2];rfl
  ·rw [if_neg h2,if_neg h2];rfl
theorem xX(v:Value):PV E pm s dst (.assign (.const v)) ty=if ty=900003 then vY pm dst (N7 s dst (ev E.T s ty (.const v)))else if ty<1000000 then N7 s dst (ev E.T s ty (.const v))else vY pm dst (N7 s dst (ev E.T s (ty-1000000) (.const v))):=by
 have hfr: ∀t,((ev E.T s t (.const v)).bind fun d=>(C9 pm s dst (.const v) d).bind fun s1=>GZ pm s1 dst)=vY pm dst (N7 s dst (ev E.T s t (.const v))):=by
  intro t
  cases ev E.T s t (.const v)<;>cases dst<;>rfl
 have hno: ∀t,((ev E.T s t (.const v)).bind fun d=>C9 pm s dst (.const v) d)=N7 s dst (ev E.T s t (.const v)):=by
  intro t
  cases ev E.T s t (.const v)<;>rfl
 show((ev E.T s (A3h ty) (.const v)).bind fun d=>if wE ty=true then(C9 pm s dst (.const v) d).bind fun s1=>GZ pm s1 dst else C9 pm s dst (.const v) d)=_
 unfold wE A3h;by_cases h1:ty=900003
 ·simp only [if_pos h1,if_true];exact hfr _
 ·by_cases h2:ty<1000000
  ·simp only [if_neg h1,if_pos h2,O6,if_false];exact hno _
  ·simp only [if_neg h1,if_neg h2,if_true];exact hfr _
theorem A4F(v:Value):PV E pm s dst (.move (.const v)) ty=N7 s dst (ev E.T s ty (.const v)):=by
 show((ev E.T s ty (.const v)).map fun d=>DF s dst (.const v) d)=_
 cases ev E.T s ty (.const v)<;>rfl
theorem A8E:PV E pm s dst (.load t (.tmp u)) ty=N7 s dst (HY E.T pm s t (.tmp u) (s.v u)):=Oq s dst _
theorem yUn(op:UnOp):PV E pm s dst (.unOp op t (.tmp u)) ty=N7 s dst (unD op (s.v u)):=Oq s dst _
theorem A4G(i:Nat):PV E pm s dst (.fieldAddr t (.tmp u) i) ty=N7 s dst (Gv E.T pm s t (.tmp u) (s.v u) i):=Oq s dst _
theorem AEO:PV E pm s dst (.call ⟨.builtin .len, #[.tmp u], #[t]⟩) ty=N7 s dst (Rn E.T pm s t (.tmp u) (s.v u)):=Oq s dst _
theorem xY(i:Nat):PV E pm s dst (.extract (.tmp u) i) ty=KI s dst (.tmp u) (s.v u) i:=nr rfl
def slC(T:Tys)(pm:Pm)(s:St)(dst:Option Tmp)(t:TypeId)(x:Operand)(hi:Option Operand):Option Operand→Option Operand→Option St
 |none,none=>eX dst (Rh T pm s t x hi)
 |_,_=>none
theorem AEP(T:Tys)(x:Operand)(hi:Option Operand):slC T pm s dst t x hi none none=eX dst (Rh T pm s t x hi):=nr rfl
def slF(T:Tys)(pm:Pm)(s:St)(dst:Option Tmp)(t:TypeId)(x:Operand)(lo:Option Operand):Option Operand→Option Operand→Option St
 |none,none=>eX dst (Ri T pm s t x lo)
 |_,_=>none
theorem A4H(lo hi mx:Option Operand):PV E pm s dst (.slice t (.tmp u) lo hi mx) ty=
  if ty=900002 then slC E.T pm s dst t (.tmp u) hi lo mx
  else if ty=900005 then slF E.T pm s dst t (.tmp u) lo hi mx
  else if ty=900001 then eX dst (KH E.T pm.see s t (.tmp u) (s.v u) lo hi mx)else eX dst (KH E.T pm s t (.tmp u) (s.v u) lo hi mx):=by
 show(if ty=900002 then(if lo.isNone&&mx.isNone then(Rh E.T pm s t (.tmp u) hi).map fun r=>r.2.putO dst r.1 else none)
  else if ty=900005 then(if hi.isNone&&mx.isNone then(Ri E.T pm s t (.tmp u) lo).map fun r=>r.2.putO dst r.1 else none)
  else(ev E.T s t (.tmp u)).bind fun d=>(KH E.T (if ty=900001 then pm.see else pm) s t (.tmp u) d lo hi mx).map fun r=>r.2.putO dst r.1)=_
 split
 ·cases lo<;>cases mx<;>first|rfl|exact QO dst _
 ·split
  ·cases hi<;>cases mx<;>first|rfl|exact QO dst _
  ·split
   ·exact QO dst _
   ·exact QO dst _
def apI(T:Tys)(pm:Pm)(s:St)(t:TypeId)(x y:Operand)(d:D):Option (D×St):=if isZ (some d)then Oc T pm s t x else JF T pm s t x y
theorem A0k(x:Operand)(v:Tmp):PV E pm s dst (.call ⟨.builtin .append, #[x,.tmp v], #[t,t]⟩) ty=eX dst (apI E.T pm s t x (.tmp v) (s.v v)):=by
 rw [og,if_pos rfl,QO];rfl
theorem AEQ(T:Tys)(x y:Operand)(e:TypeId)(xs:List D):apI T pm s t x y (.sl e xs)=JF T pm s t x y:=nr rfl
theorem A8F(T:Tys)(x y:Operand)(e:TypeId)(xs:List D):apI T pm s t x y (.own e xs)=JF T pm s t x y:=nr rfl
theorem apK(T:Tys)(x y:Operand)(A:Option Addr)(c:Nat):apI T pm s t x y (.konst (.slice A 0 c))=Oc T pm s t x:=nr rfl
def ix1(T:Tys)(pm:Pm)(s:St)(t:TypeId)(x:Operand)(d:D):Option D→Option D
 |some i=>Vb T pm s t x d i
 |none=>none
theorem AER(T:Tys)(x:Operand)(d i:D):ix1 T pm s t x d (some i)=Vb T pm s t x d i:=nr rfl
theorem A4I(i:Operand):PV E pm s dst (.indexAddr t (.tmp u) i) ty=N7 s dst (ix1 E.T pm s t (.tmp u) (s.v u) (ev E.T s 0 i)):=by
 show(match some (s.v u),ev E.T s 0 i with
  |some a,some b=>(Vb E.T pm s t (.tmp u) a b).map fun r=>s.putO dst r
  |_,_=>none)=_
 cases ev E.T s 0 i with
 |none=>rfl
 |some b=>exact Oq s dst _
def mk1(T:Tys)(t:TypeId):Option D→Option D→Option D
 |some a,some b=>Fb T t a b
 |_,_=>none
theorem AES(T:Tys)(a b:D):mk1 T t (some a) (some b)=Fb T t a b:=nr rfl
theorem AET(l c:Operand):Zr E.T s dst t l c=N7 s dst (mk1 E.T t (ev E.T s 0 l) (ev E.T s 0 c)):=by
 show(match ev E.T s 0 l,ev E.T s 0 c with
  |some a,some b=>(Fb E.T t a b).map fun r=>s.putO dst r
  |_,_=>none)=_
 cases ev E.T s 0 l<;>cases ev E.T s 0 c<;>first|rfl|exact Oq s dst _
theorem A8H(l c:Operand):PV E pm s dst (.makeSlice t l c) ty=if ty=900012 then fcB pm dst (N7 s dst (mk1 E.T t (ev E.T s 0 l) (ev E.T s 0 c)))else N7 s dst (mk1 E.T t (ev E.T s 0 l) (ev E.T s 0 c)):=by
 rw [aG,AET];by_cases h:ty=900012
 ·rw [if_pos h,if_pos h]
  cases N7 s dst (mk1 E.T t (ev E.T s 0 l) (ev E.T s 0 c))<;>cases dst<;>rfl
 ·rw [if_neg h,if_neg h]
theorem AEU(u:Tmp)(s1:St):stF pm (.tmp u) (some s1)=vY pm (some u) (some s1):=nr rfl
def cv1(s:St)(dst:Option Tmp):Option D→Ty→Option St
 |some (.int _ n),.int k=>some (s.putO dst (.int k (k.wrap n)))
 |some (.str b),.string=>some (s.putO dst (.str b))
 |_,_=>none
theorem AEV(k k':IntKind)(n:Int):cv1 s dst (some (.int k n)) (.int k')=some (s.putO dst (.int k' (k'.wrap n))):=nr rfl
theorem xZ(src d:TypeId)(x:Operand):PV E pm s dst (.convert src d x) ty=if E.T.known src then cv1 s dst (ev E.T s src x) (E.T.ty d)else none:=by
 rw [kr];split
 ·rcases ev E.T s src x with _|d'<;>cases E.T.ty d<;>first|rfl|(cases d'<;>rfl)
 ·rfl
def asM(l:List TypeId):List TypeId:=l.map fun _=>900013
theorem AEW:asM []=[]:=nr rfl
theorem AEX(t:TypeId)(l:List TypeId):asM (t::l)=900013::asM l:=nr rfl
theorem A8J(f:FuncId)(args:Array Operand)(ts:Array TypeId)(h:args.size=ts.size):PV E pm s dst (.call ⟨.value (.func f),args,ts⟩) ty=if ty=900014 then vY pm dst (Ik E pm s dst f (args.toList.zip ts.toList) [])else Ik E pm s dst f (args.toList.zip (if ty=900013 then asM ts.toList else ts.toList)) []:=by
 rw [xS,if_pos h];by_cases c:ty=900014
 ·rw [if_pos c,if_pos c];have e:Ro ty ts.toList=ts.toList:=by unfold Ro;rw [c,if_neg (by decide)]
  rw [e];unfold vY
  cases Ik E pm s dst f (args.toList.zip ts.toList) []with
  |none=>cases dst<;>rfl
  |some s1=>cases dst<;>rfl
 ·rw [if_neg c,if_neg c]
  unfold Ro asM;rfl
end
section
variable {T:Tys} {pm:Pm} {s:St} {t:TypeId}
theorem ldC(x:Operand)(xs:List D)(hk:T.known t=true)(hs:T.isStruct t=false):HY T pm s t x (.cptr xs)=xs[0]? :=by simp [HY,hk,hs]
theorem AEY(x:Operand)(xs:List D)(hk:T.known t=true)(hs:T.isStruct t=true):HY T pm s t x (.cptr xs)=if T.size t≤xs.length then some (.agg (xs.take (T.size t)))else none:=by simp [HY,hk,hs]
def SB(s:St)(L:AJ)(c:Nat):Option D→Option D
 |some o=>(o.cells[c]?).bind fun x=>Dy (Ii s L c x)
 |none=>none
def cellsOf(s:St)(L:AJ)(c n:Nat):Option D→Option D
 |some o=>if c+n≤o.cells.length then Dy (.agg ((List.range n).map fun i=>Ii s L (c+i) (o.cells.getD (c+i) .undef)))else none
 |none=>none
theorem ldP(x:Operand)(L:AJ)(c n m:Nat)(hk:T.known t=true)(hs:T.isStruct t=false):HY T pm s t x (.pe L c n m)=SB s L c (s.look pm L n m):=by
 simp only [HY,hk,hs,if_true,Kl]
 cases s.look pm L n m<;>simp [SB]
theorem ldB(u:Tmp)(xs:List D)(hk:T.known t=true)(hs:T.isStruct t=false):HY T pm s t (.tmp u) (.box xs)=SB s [u] 0 (some (.box xs)):=by
 simp only [HY,hk,hs,if_true,Kl];simp [SB]
theorem AEZ(u:Tmp)(xs:List D)(hk:T.known t=true)(hs:T.isStruct t=true):HY T pm s t (.tmp u) (.box xs)=cellsOf s [u] 0 (T.size t) (some (.box xs)):=by
 simp only [HY,hk,hs,if_true,Kl];simp [cellsOf]
def Ut(s:St)(pm:Pm)(L:AJ)(n m:Nat):Option D:=
 match s.look pm L n m with
 |some (.box xs)=>some (.box xs)
 |_=>none
theorem ldV(x:Operand)(L:AJ)(n m:Nat)(hk:T.known t=true)(hs:T.isStruct t=false):HY T pm s t x (.vw L n m)=SB s L 0 (Ut s pm L n m):=by
 simp only [HY,hk,hs,if_true,Kl,Ut]
 cases s.look pm L n m with
 |none=>simp [SB]
 |some o=>cases o<;>simp [SB]
def ku:D→Option D
 | .own e xs=>some (.own e xs)
 | .box xs=>some (.box xs)
 |_=>none
theorem A4J(e:TypeId)(xs:List D):ku (.own e xs)=some (.own e xs):=nr rfl
theorem A4K(xs:List D):ku (.box xs)=some (.box xs):=nr rfl
theorem A8K(u n m:Nat):s.look pm [u] n m=if pm.rd u&&(s.k u==n)then ku (s.v u)else none:=by
 simp only [St.look,List.isEmpty_nil,Bool.true_or,Bool.and_true,Bj];split
 ·cases s.v u<;>rfl
 ·rfl
def A8L:Option D→Option D
 |some d=>ku d
 |none=>none
theorem A8M(u c n m:Nat)(p:AJ):s.look pm (u::c::p) n m=if pm.rd u&&(s.k u==n)&&(s.m u==m)then A8L (Bj (s.v u) (c::p))else none:=by
 simp only [St.look,List.isEmpty_cons,Bool.false_or];split
 ·cases Bj (s.v u) (c::p)with
  |none=>rfl
  |some d=>cases d<;>rfl
 ·rfl
theorem A8N(d:D):A8L (some d)=ku d:=nr rfl
theorem AEa(x:Operand)(e:TypeId)(xs:List D):EU pm s x (.sl e xs)=some (e,xs,none):=nr rfl
theorem A8O(u:Tmp)(e:TypeId)(xs:List D):EU pm s (.tmp u) (.own e xs)=some (e,xs,some ([u],s.k u,s.m u)):=nr rfl
def A8P(L:AJ)(n m:Nat):Option D→Option (TypeId×List D×Option (AJ×Nat×Nat))
 |some (.own e xs)=>some (e,xs,some (L,n,m))
 |_=>none
theorem A8Q(L:AJ)(n m:Nat)(e:TypeId)(xs:List D):A8P L n m (some (.own e xs))=some (e,xs,some (L,n,m)):=nr rfl
theorem AEb(x:Operand)(L:AJ)(n m:Nat):EU pm s x (.vw L n m)=A8P L n m (s.look pm L n m):=by
 simp only [EU]
 cases s.look pm L n m with
 |none=>rfl
 |some o=>cases o<;>rfl
def A0l(T:Tys):Option (TypeId×List D×Option (AJ×Nat×Nat))→Option D
 |some (e,xs,_)=>if T.known e then some (.int .i64 (T.len e xs))else none
 |none=>none
theorem A8R(e:TypeId)(xs:List D)(o:Option (AJ×Nat×Nat))(hk:T.known e=true):A0l T (some (e,xs,o))=some (.int .i64 (T.len e xs)):=by simp [A0l,hk]
def ln0(T:Tys)(pm:Pm)(s:St)(x:Operand)(d:D):Ty→Option D
 | .string=>match d with| .str b=>some (.int .i64 b.size)|_=>none
 | .slice _=>A0l T (EU pm s x d)
 |_=>none
theorem lnT(x:Operand)(d:D):RF T pm s t x d=ln0 T pm s x d (T.ty t):=by
 unfold RF ln0
 cases T.ty t with
 |slice e=>
  simp only
  cases EU pm s x d with
  |none=>rfl
  |some q=>rfl
 |string=>cases d<;>rfl
 |_=>rfl
theorem A8S(x:Operand)(e:TypeId)(xs:List D):Rn T pm s t x (.sl e xs)=RF T pm s t x (.sl e xs):=nr rfl
theorem A4L(x:Operand)(e:TypeId)(xs:List D):Rn T pm s t x (.own e xs)=RF T pm s t x (.own e xs):=nr rfl
def lnW(T:Tys)(pm:Pm)(s:St)(t:TypeId)(x:Operand)(L:AJ)(n m:Nat):Ty→Option D
 | .map _ _=>(s.lookM pm L n).map fun q=> .int .i64 q.2.2.length
 |_=>RF T pm s t x (.vw L n m)
theorem A8T(x:Operand)(L:AJ)(n m:Nat):Rn T pm s t x (.vw L n m)=lnW T pm s t x L n m (T.ty t):=by
 show(match T.ty t with| .map _ _=>jS T pm s t x (.vw L n m)|_=>jR T pm s t x (.vw L n m))=_
 unfold lnW jS
 cases h:T.ty t<;>simp only [dM]<;>first|rfl|(cases s.lookM pm L n<;>rfl)
theorem AEe(T:Tys)(x:Operand)(L:AJ)(n m:Nat)(e:TypeId):lnW T pm s t x L n m (.slice e)=RF T pm s t x (.vw L n m):=nr rfl
theorem A8U(x:Operand)(e:TypeId)(L:AJ)(n m lo len:Nat):Rn T pm s t x (.vs e L n m lo len)=A0I len (T.ty t):=nr rfl
theorem A8V(len:Nat)(e:TypeId):A0I len (.slice e)=some (.int .i64 len):=nr rfl
theorem A8W(x:Operand)(e:TypeId)(xs:List D)(i:D):Vb T pm s t x (.sl e xs) i=F3 T pm s t x (.sl e xs) i:=nr rfl
theorem A4M(x:Operand)(e:TypeId)(xs:List D)(i:D):Vb T pm s t x (.own e xs) i=F3 T pm s t x (.own e xs) i:=nr rfl
theorem A8X(x:Operand)(L:AJ)(n m:Nat)(i:D):Vb T pm s t x (.vw L n m) i=F3 T pm s t x (.vw L n m) i:=nr rfl
def A0m(T:Tys)(e e1:TypeId)(L:AJ)(va vb lo len:Nat)(n:Int):Option D→Option D
 |some (.own e2 xs)=>if e1=e∧e2=e∧T.known e=true∧T.size e=1∧0≤n∧n.toNat<len∧lo+len≤xs.length then some (.pe L (lo+n.toNat) va vb)else none
 |_=>none
def A4N(T:Tys)(pm:Pm)(s:St)(e1:TypeId)(L:AJ)(va vb lo len:Nat)(n:Int):Ty→Option D
 | .slice e=>A0m T e e1 L va vb lo len n (s.look pm L va vb)
 |_=>none
theorem A8Y(x:Operand)(e:TypeId)(L:AJ)(va vb lo len:Nat)(k:IntKind)(n:Int):Vb T pm s t x (.vs e L va vb lo len) (.int k n)=A4N T pm s e L va vb lo len n (T.ty t):=by
 show wC T pm s t e L va vb lo len (.int k n)=_
 unfold wC A4N
 cases T.ty t with
 |slice e'=>
  simp only;rcases s.look pm L va vb with _|d
  ·rfl
  ·cases d<;>rfl
 |_=>rfl
theorem A8Z(e1:TypeId)(L:AJ)(va vb lo len:Nat)(n:Int)(e:TypeId):A4N T pm s e1 L va vb lo len n (.slice e)=A0m T e e1 L va vb lo len n (s.look pm L va vb):=nr rfl
theorem A8a(e:TypeId)(L:AJ)(va vb lo len:Nat)(n:Int)(xs:List D)(hk:T.known e=true)(hz:T.size e=1)(h1:0≤n∧n.toNat<len)(h2:lo+len≤xs.length):A0m T e e L va vb lo len n (some (.own e xs))=some (.pe L (lo+n.toNat) va vb):=by
 unfold A0m;dsimp only;rw [if_pos ⟨rfl,rfl,hk,hz,h1.1,h1.2,h2⟩]
theorem AEf(x:Operand)(d:D)(e:TypeId):ln0 T pm s x d (.slice e)=A0l T (EU pm s x d):=nr rfl
theorem A8b(e:TypeId)(xs:List D)(h:T.size e=1):T.len e xs=xs.length:=by simp [Tys.len,h]
def at1(T:Tys)(e:TypeId)(n:Int):Option (TypeId×List D×Option (AJ×Nat×Nat))→Option D
 |some (e',xs,o)=>
  if e'=e∧T.known e=true∧0≤n∧n.toNat<T.len e xs then
   match o with
   |none=>some (.cptr ((xs.drop (n.toNat*T.size e)).take (T.size e)))
   |some (L,a,b)=>some (.pe L (n.toNat*T.size e) a b)
  else none
 |none=>none
def ix0(T:Tys)(pm:Pm)(s:St)(x:Operand)(d:D)(n:Int):Ty→Option D
 | .slice e=>at1 T e n (EU pm s x d)
 |_=>none
theorem ixT(x:Operand)(d:D)(k:IntKind)(n:Int):F3 T pm s t x d (.int k n)=ix0 T pm s x d n (T.ty t):=by
 unfold F3 ix0
 cases T.ty t with
 |slice e=>
  simp only
  cases EU pm s x d with
  |none=>rfl
  |some q=>rfl
 |_=>rfl
theorem AEh(x:Operand)(d:D)(n:Int)(e:TypeId):ix0 T pm s x d n (.slice e)=at1 T e n (EU pm s x d):=nr rfl
theorem AEi(e:TypeId)(n:Int)(xs:List D)(hk:T.known e=true)(hz:T.size e=1)(hn:0≤n∧n.toNat<xs.length):at1 T e n (some (e,xs,none))=some (.cptr [xs.getD n.toNat .undef]):=by
 simp only [at1,hk,hz,Tys.len,if_true];rw [if_pos ⟨trivial,trivial,hn.1,hn.2⟩,M9,dI hn.2,M8,Ga hn.2];rfl
theorem AEj(e:TypeId)(n:Int)(xs:List D)(L:AJ)(a b:Nat)(hk:T.known e=true)(hz:T.size e=1)(hn:0≤n∧n.toNat<xs.length):at1 T e n (some (e,xs,some (L,a,b)))=some (.pe L n.toNat a b):=by
 simp only [at1,hk,hz,Tys.len,if_true];rw [if_pos ⟨trivial,trivial,hn.1,hn.2⟩,M9]
end
section
variable {T:Tys} {pm:Pm} {s:St} {t:TypeId} (u:Tmp)
def bY(pm:Pm)(s:St)(u:Tmp)(d:D):Option (D×St):=Ct pm (if d.hasObj then s.clr u else s) d
theorem A8c:take T pm s t (.tmp u)=bY pm s u (s.v u):=nr rfl
theorem tkC(v:Value):take T pm s t (.const v)=match ev T s t (.const v)with|none=>none|some d=>Ct pm s d:=nr rfl
theorem A8d(k:IntKind)(n:Int):Ct pm s (.int k n)=some (.int k n,s):=by simp [Ct]
theorem AEk(e:TypeId)(xs:List D):Ct pm s (.sl e xs)=some (.sl e xs,s):=by simp [Ct]
theorem A8e(e:TypeId)(xs:List D):Ct pm s (.own e xs)=some (.own e xs,s):=by simp [Ct]
theorem AEl(L:AJ)(n m:Nat):Ct pm s (.vw L n m)=Rf pm s L n m:=by simp [Ct]
def td1:Option (List D×St)→Option (D×St)
 |some r=>some (.agg r.1,r.2)
 |none=>none
theorem AEm(r:List D×St):td1 (some r)=some (.agg r.1,r.2):=nr rfl
theorem A8g(xs:List D):Ct pm s (.agg xs)=td1 (GI pm s xs):=by simp only [Ct];cases GI pm s xs<;>rfl
def td2(pm:Pm)(ds:List D):Option (D×St)→Option (List D×St)
 |some r=>(GI pm r.2 ds).map fun q=>(r.1::q.1,q.2)
 |none=>none
theorem AEn(ds:List D)(d:D):td2 pm ds (some (d,s))=(GI pm s ds).map fun q=>(d::q.1,q.2):=nr rfl
theorem A4P:GI pm s []=some ([],s):=by simp [GI]
theorem A0n(d:D)(ds:List D):GI pm s (d::ds)=td2 pm ds (Ct pm s d):=by simp only [GI];cases Ct pm s d<;>rfl
theorem A8h(k:IntKind)(n:Int):bY pm s u (.int k n)=some (.int k n,s):=by simp [bY,Ct,D.hasObj]
theorem A4Q(b:Bool):bY pm s u (.bool b)=some (.bool b,s):=by simp [bY,Ct,D.hasObj]
theorem AEo(e:TypeId)(xs:List D):bY pm s u (.sl e xs)=some (.sl e xs,s):=by simp [bY,Ct,D.hasObj]
theorem A8i(e:TypeId)(xs:List D):bY pm s u (.own e xs)=some (.own e xs,s.clr u):=by simp [bY,Ct,D.hasObj]
theorem A8j(xs:List D):bY pm s u (.box xs)=some (.box xs,s.clr u):=by simp [bY,Ct,D.hasObj]
theorem A8k(f:FuncId)(xs:List D):bY pm s u (.clo f xs)=some (.clo f xs,s):=by simp [bY,Ct,D.hasObj]
theorem A4R(xs:List D):bY pm s u (.cptr xs)=some (.cptr xs,s):=by simp [bY,Ct,D.hasObj]
theorem AEp(L:AJ)(n m:Nat):bY pm s u (.vw L n m)=Rf pm s L n m:=by simp [bY,Ct,D.hasObj]
theorem A8l(xs:List D):bY pm s u (.agg xs)=td1 (GI pm (if Am xs then s.clr u else s) xs):=by
 simp only [bY,D.hasObj];rw [A8g];rfl
theorem A4S:Am []=false:=by simp [Am]
theorem qp(d:D)(ds:List D):Am (d::ds)=(d.hasObj||Am ds):=by simp [Am]
theorem A8m(e:TypeId)(xs:List D):(D.sl e xs).hasObj=false:=by simp [D.hasObj]
theorem A8n(e:TypeId)(xs:List D):(D.own e xs).hasObj=true:=by simp [D.hasObj]
theorem A8o(xs:List D):(D.box xs).hasObj=true:=by simp [D.hasObj]
theorem AEq(L:AJ)(n m:Nat):(D.vw L n m).hasObj=false:=by simp [D.hasObj]
theorem A8p(xs:List D):(D.agg xs).hasObj=Am xs:=by simp [D.hasObj]
theorem A8q(xs:List D):(D.tup xs).hasObj=Am xs:=by simp [D.hasObj]
def pl1(s:St)(r:Nat):Option D→Option (D×St)
 |some c=>some (c,s.set [r] .undef)
 |none=>none
theorem AEs(r:Nat)(c:D):pl1 s r (some c)=some (c,s.set [r] .undef):=nr rfl
theorem A8r(r n m:Nat)(hw:pm.wr r=true):Rf pm s [r] n m=pl1 s r (s.look pm [r] n m):=by
 unfold Rf
 cases s.look pm [r] n m with
 |none=>rfl
 |some c=>simp [hw,St.get,pl1]
def pl2(s:St)(L:AJ)(o:Option D):Option D→Option (D×St)
 |some c=>match o with
  |some (.own _ _)=>(ET c).map fun c'=>(c',s.set L c')
  |_=>some (c,s.set L .undef)
 |none=>none
theorem AEt(L:AJ)(xs:List D)(c:D):pl2 s L (some (.box xs)) (some c)=some (c,s.set L .undef):=nr rfl
theorem AEu(L:AJ)(xs:List D)(c:D):pl2 s L (some (.agg xs)) (some c)=some (c,s.set L .undef):=nr rfl
theorem AEv(L:AJ)(e:TypeId)(xs:List D)(c:D):pl2 s L (some (.own e xs)) (some c)=(ET c).map fun c'=>(c',s.set L c'):=nr rfl
theorem A8s(u' c n m:Nat)(p:AJ)(hw:pm.wr u'=true):Rf pm s (u'::c::p) n m=pl2 s (u'::c::p) (s.get (u'::c::p).dropLast) (s.look pm (u'::c::p) n m):=by
 unfold Rf
 cases s.look pm (u'::c::p) n m with
 |none=>rfl
 |some d=>simp only [Zo,hw,if_true,pl2];rfl
theorem AEw(r:Nat):s.get [r]=some (s.v r):=nr rfl
theorem A8t(d:D):Bj d []=some d:=by cases d<;>rfl
theorem A8u(e:TypeId)(xs:List D)(c:Nat)(p:AJ):Bj (.own e xs) (c::p)=(xs[c]?).bind fun d=>Bj d p:=nr rfl
theorem A8v(xs:List D)(c:Nat)(p:AJ):Bj (.box xs) (c::p)=(xs[c]?).bind fun d=>Bj d p:=nr rfl
theorem A8w(xs:List D)(c:Nat)(p:AJ):Bj (.agg xs) (c::p)=(xs[c]?).bind fun d=>Bj d p:=nr rfl
theorem A8x(d x:D):I4 d [] x=x:=by cases d<;>rfl
theorem A8y(e:TypeId)(xs:List D)(c:Nat)(p:AJ)(x:D):I4 (.own e xs) (c::p) x= .own e (xs.set c (I4 (xs.getD c .undef) p x)):=nr rfl
theorem A8z(xs:List D)(c:Nat)(p:AJ)(x:D):I4 (.box xs) (c::p) x= .box (xs.set c (I4 (xs.getD c .undef) p x)):=nr rfl
theorem A90(xs:List D)(c:Nat)(p:AJ)(x:D):I4 (.agg xs) (c::p) x= .agg (xs.set c (I4 (xs.getD c .undef) p x)):=nr rfl
end
section
variable {T:Tys} {pm:Pm} {s:St} {t:TypeId}
def jL(T:Tys)(pm:Pm)(t:TypeId)(ax:Operand):Option (D×St)→Option St
 |none=>none
 |some (d,s1)=>
  match ev T s1 t ax with
  |none=>none
  |some ad=>
   match Kl pm s1 ax ad with
   |none=>none
   |some (L,c,o)=>
    if T.known t&&pm.wr (L.headD 0)&&d.asCells.all Dn&&(T.size t==d.asCells.length)&&(T.isStruct t==d.isAgg)&&decide (c+T.size t≤o.cells.length)then
     let s2:=s1.set L (o.withCells (Cu o.cells c d.asCells))
     some (if d.hasObj||Am o.cells then s2.bump (L.headD 0)else s2)
    else none
theorem A4T(ax x:Operand):MB T pm s t ax x=jL T pm t ax (take T pm s t x):=by
 unfold MB Gu jL;rcases take T pm s t x with _|⟨d,s1⟩<;>rfl
theorem A0o(ax:Operand)(q:Option (D×St)):Gu T pm t ax q=jL T pm t ax q:=by
 unfold Gu jL;rcases q with _|⟨d,s1⟩<;>rfl
def tm1(T:Tys)(pm:Pm)(s:St)(t:TypeId)(u:Tmp):D→Option (D×St)
 | .vw L n m=>Xq pm s L n m
 |_=>take T pm s t (.tmp u)
theorem A4U(u:Tmp):Ob T pm s t (.tmp u)=tm1 T pm s t u (s.v u):=by
 unfold Ob;simp only [ev]
 cases s.v u<;>rfl
def tm2(s:St)(L:AJ):Option D→Option (D×St)
 |some c=>some (c,s.set L .undef)
 |none=>none
theorem AEz(u:Tmp)(L:AJ)(n m:Nat)(hw:pm.wr (L.headD 0)=true):tm1 T pm s t u (.vw L n m)=tm2 s L (s.look pm L n m):=by
 show Xq pm s L n m=_
 unfold Xq tm2
 cases s.look pm L n m with
 |none=>rfl
 |some c=>simp only [hw,if_true]
theorem A4V(u:Tmp)(e:TypeId)(xs:List D):tm1 T pm s t u (.own e xs)=take T pm s t (.tmp u):=nr rfl
theorem AF0(L:AJ)(c:D):tm2 s L (some c)=some (c,s.set L .undef):=nr rfl
def st2(s1:St)(L:AJ)(c:Nat)(d:D):Option D→Option St
 |none=>none
 |some o=>if c<o.cells.length then(if d.hasObj||Am o.cells then some ((s1.set L (o.withCells (o.cells.set c d))).bump (L.headD 0))else some (s1.set L (o.withCells (o.cells.set c d))))else none
def sd1(T:Tys)(pm:Pm)(t:TypeId)(u:Tmp)(d:D)(s:St):D→Option St
 | .pe L c n m=>if T.known t&& !T.isStruct t&&pm.wr (L.headD 0)&&Dn d then st2 s L c d (s.look pm L n m)else jL T pm t (.tmp u) (some (d,s))
 | .vw L n m=>if T.known t&& !T.isStruct t&&pm.wr (L.headD 0)&&Dn d then st2 s L 0 d (Ut s pm L n m)else jL T pm t (.tmp u) (some (d,s))
 | .box xs=>if T.known t&& !T.isStruct t&&pm.wr u&&Dn d then st2 s [u] 0 d (some (.box xs))else jL T pm t (.tmp u) (some (d,s))
 |_=>jL T pm t (.tmp u) (some (d,s))
theorem SE{d:D}(hd:Dn d=true):d.asCells=[d]∧d.isAgg=false:=by
 cases d<;>first|exact⟨rfl,rfl⟩|(simp [Dn]at hd)
theorem QP{T:Tys}{t:TypeId}(hs:T.isStruct t=false):T.size t=1:=by
 unfold Tys.isStruct at hs;unfold Tys.size
 cases hty:T.ty t<;>simp_all [Ty.isStruct,Ty.size]
theorem AF1(u:Tmp)(d:D)(_:d.isAgg=false):jL T pm t (.tmp u) (some (d,s))=sd1 T pm t u d s (s.v u):=by
 cases hv:s.v u<;>simp only [sd1]
 case pe L c n m=>
  split
  ·rename_i hc
   simp only [KG,Pt]at hc;obtain⟨⟨⟨hk,hs⟩,hw⟩,hd⟩:=hc;obtain⟨ha,hg⟩:=SE hd;have hz:=QP hs;simp only [jL,ev,hv,Kl]
   cases s.look pm L n m with
   |none=>rfl
   |some o=>
    simp only [st2,hk,hw,ha,hz,hs,hg,Xo,hd,List.all_nil,Ji,Re,Bool.and_true,Cu,beq_self_eq_true,Mt];by_cases hc:c<o.cells.length
    ·have h1:c+1≤o.cells.length:=hc;simp only [hc,h1,decide_true,Bool.and_true,if_true];split<;>first|rfl|(rename_i hq;simp only [hq];rfl)
    ·have h1: ¬c+1≤o.cells.length:=hc;simp only [hc,h1,decide_false,Bool.and_false,O6,if_false]
  ·rfl
 case vw L n m=>
  split
  ·rename_i hc
   simp only [KG,Pt]at hc;obtain⟨⟨⟨hk,hs⟩,hw⟩,hd⟩:=hc;obtain⟨ha,hg⟩:=SE hd;have hz:=QP hs;simp only [jL,ev,hv,Kl,Ut]
   cases s.look pm L n m with
   |none=>rfl
   |some o=>
    cases o<;>try rfl
    rename_i xs
    simp only [st2,hk,hw,ha,hz,hs,hg,Xo,hd,List.all_nil,Ji,Re,Bool.and_true,Cu,beq_self_eq_true,Mt,D.cells];by_cases hc:0<xs.length
    ·have h1:1≤xs.length:=hc;simp only [hc,h1,decide_true,Bool.and_true,if_true];split<;>first|rfl|(rename_i hq;simp only [hq];rfl)
    ·have h1: ¬1≤xs.length:=hc;simp only [hc,h1,decide_false,Bool.and_false,O6,if_false]
  ·rfl
 case box xs=>
  split
  ·rename_i hc
   simp only [KG,Pt]at hc;obtain⟨⟨⟨hk,hs⟩,hw⟩,hd⟩:=hc;obtain⟨ha,hg⟩:=SE hd;have hz:=QP hs;simp only [jL,ev,hv,Kl];simp only [st2,hk,hw,ha,hz,hs,hg,Xo,hd,List.all_nil,Ji,Re,Bool.and_true,Cu,beq_self_eq_true,Mt,D.cells,Zo];by_cases hc:0<xs.length
   ·have h1:1≤xs.length:=hc;simp only [hc,h1,decide_true,Bool.and_true,if_true];split<;>first|rfl|(rename_i hq;simp only [hq];rfl)
   ·have h1: ¬1≤xs.length:=hc;simp only [hc,h1,decide_false,Bool.and_false,O6,if_false]
  ·rfl
theorem AF2(u:Tmp)(d:D)(L:AJ)(c n m:Nat)(hk:T.known t=true)(hs:T.isStruct t=false)(hw:pm.wr (L.headD 0)=true)(hd:Dn d=true):sd1 T pm t u d s (.pe L c n m)=st2 s L c d (s.look pm L n m):=by
 simp [sd1,hk,hs,hd];intro h;simp_all
theorem AF3(u:Tmp)(d:D)(L:AJ)(n m:Nat)(hk:T.known t=true)(hs:T.isStruct t=false)(hw:pm.wr (L.headD 0)=true)(hd:Dn d=true):sd1 T pm t u d s (.vw L n m)=st2 s L 0 d (Ut s pm L n m):=by
 simp [sd1,hk,hs,hd];intro h;simp_all
theorem AF4(u:Tmp)(d:D)(xs:List D)(hk:T.known t=true)(hs:T.isStruct t=false)(hw:pm.wr u=true)(hd:Dn d=true):sd1 T pm t u d s (.box xs)=st2 s [u] 0 d (some (.box xs)):=by
 simp [sd1,hk,hs,hd];intro h;simp_all
def bx1:Option D→Option D
 |some (.box xs)=>some (.box xs)
 |_=>none
theorem bxA(L:AJ)(n m:Nat):Ut s pm L n m=bx1 (s.look pm L n m):=by
 unfold Ut bx1
 cases s.look pm L n m with
 |none=>rfl
 |some o=>cases o<;>rfl
theorem AF6(xs:List D):bx1 (some (.box xs))=some (.box xs):=nr rfl
theorem hdC(a:Nat)(l:AJ)(d:Nat):List.headD (a::l) d=a:=nr rfl
theorem AF7(L:AJ)(c:Nat)(d o:D):st2 s L c d (some o)=if c<o.cells.length then(if d.hasObj||Am o.cells then some ((s.set L (o.withCells (o.cells.set c d))).bump (L.headD 0))else some (s.set L (o.withCells (o.cells.set c d))))else none:=nr rfl
theorem A91(e:TypeId)(xs:List D):(D.own e xs).cells=xs:=nr rfl
theorem A92(xs:List D):(D.box xs).cells=xs:=nr rfl
theorem A93(e:TypeId)(xs ys:List D):(D.own e xs).withCells ys= .own e ys:=nr rfl
theorem A94(xs ys:List D):(D.box xs).withCells ys= .box ys:=nr rfl
theorem A95(k:IntKind)(n:Int):Dn (.int k n)=true:=nr rfl
theorem A4W(b:Bool):Dn (.bool b)=true:=nr rfl
theorem AF8(e:TypeId)(xs:List D):Dn (.sl e xs)=true:=nr rfl
theorem A96(e:TypeId)(xs:List D):Dn (.own e xs)=true:=nr rfl
theorem ceS(L:AJ)(c:Nat)(o:D):SB s L c (some o)=(o.cells[c]?).bind fun x=>Dy (Ii s L c x):=nr rfl
theorem AF9(L:AJ)(c:Nat)(e:TypeId)(xs:List D):Dy (Ii s L c (.sl e xs))=some (.sl e xs):=nr rfl
theorem A4X(L:AJ)(c:Nat)(xs:List D):Dy (Ii s L c (.cptr xs))=some (.cptr xs):=nr rfl
theorem AFA(r:Nat)(p:AJ):nD s (r::p)= .vw (r::p) (s.k r) (s.m r):=nr rfl
def ap1(T:Tys)(pm:Pm)(e:TypeId)(ty:TypeId)(y:Operand):Option (D×St)→Option (D×St)
 |some (.own e1 xs,s1)=>
   match ev T s1 ty y with
   |some d=>
    match EU pm s1 y d with
    |some (e2,ys,_)=>
     if e1=e∧e2=e∧T.elem e=true∧ys.all Dn=true∧xs.length+ys.length<1099511627776 then
      if Am ys then
       match d,y with
       | .own _ _,.tmp u=>some (.own e (xs++ys),s1.clr u)
       |_,_=>none
      else some (.own e (xs++ys),s1)
     else none
    |none=>none
   |none=>none
 |_=>none
def az1(T:Tys)(e:TypeId):Option (D×St)→Option (D×St)
 |some (.own e1 xs,s1)=>if e1=e∧T.known e=true then some (.own e xs,s1)else none
 |_=>none
def az0(T:Tys)(pm:Pm)(s:St)(ty:TypeId)(x:Operand):Ty→Option (D×St)
 | .slice e=>az1 T e (take T pm s ty x)
 |_=>none
theorem A99(ty:TypeId)(x:Operand):Oc T pm s ty x=az0 T pm s ty x (T.ty ty):=by
 unfold Oc az0
 cases T.ty ty with
 |slice e=>
  simp only [az1];rcases take T pm s ty x with _|⟨d,s1⟩
  ·rfl
  ·cases d<;>rfl
 |_=>rfl
theorem Xf{T:Tys}{e:TypeId}(hk:T.known e=true)(h4:T.size e≤4):T.elem e=true:=by simp [Tys.elem,hk,h4]
theorem AFC(ty:TypeId)(x:Operand)(e:TypeId):az0 T pm s ty x (.slice e)=az1 T e (take T pm s ty x):=nr rfl
theorem AFD(e:TypeId)(xs:List D)(hk:T.known e=true):az1 T e (some (.own e xs,s))=some (.own e xs,s):=by simp [az1,hk]
def ap0(T:Tys)(pm:Pm)(s:St)(ty:TypeId)(x y:Operand):Ty→Option (D×St)
 | .slice e=>ap1 T pm e ty y (Ob T pm s ty x)
 |_=>none
theorem AFF(ty:TypeId)(x y:Operand):JF T pm s ty x y=ap0 T pm s ty x y (T.ty ty):=by
 unfold JF ap0
 cases T.ty ty with
 |slice e=>
  simp only [ap1];rcases Ob T pm s ty x with _|⟨d,s1⟩
  ·rfl
  ·cases d<;>rfl
 |_=>rfl
theorem AFG(ty:TypeId)(x y:Operand)(e:TypeId):ap0 T pm s ty x y (.slice e)=ap1 T pm e ty y (Ob T pm s ty x):=nr rfl
def ap2(T:Tys)(e e1:TypeId)(xs:List D)(s:St)(u:Tmp)(d:D):Option (TypeId×List D×Option (AJ×Nat×Nat))→Option (D×St)
 |some (e2,ys,_)=>
     if e1=e∧e2=e∧T.elem e=true∧ys.all Dn=true∧xs.length+ys.length<1099511627776 then
      if Am ys then
       match d with
       | .own _ _=>some (.own e (xs++ys),s.clr u)
       |_=>none
      else some (.own e (xs++ys),s)
     else none
 |none=>none
theorem AFH(ty e e1:TypeId)(u:Tmp)(xs:List D):ap1 T pm e ty (.tmp u) (some (.own e1 xs,s))=ap2 T e e1 xs s u (s.v u) (EU pm s (.tmp u) (s.v u)):=by
 simp only [ap1,ev,ap2];rcases EU pm s (.tmp u) (s.v u)with _|⟨e2,ys,o⟩
 ·rfl
 ·simp only;split
  ·split
   ·cases s.v u<;>rfl
   ·rfl
  ·rfl
theorem AFI(e:TypeId)(u:Tmp)(xs ys:List D)(d:D)(o:Option (AJ×Nat×Nat))(hk:T.known e=true)(h4:T.size e≤4)(hy:ys.all Dn=true)(hno:Am ys=false)(hl:xs.length+ys.length<1099511627776):
  ap2 T e e xs s u d (some (e,ys,o))=some (.own e (xs++ys),s):=by
 simp only [ap2];rw [if_pos ⟨trivial,trivial,Xf hk h4,hy,hl⟩,hno];simp
theorem AFJ(e e':TypeId)(u:Tmp)(xs ys zs:List D)(o:Option (AJ×Nat×Nat))(hk:T.known e=true)(h4:T.size e≤4)(hy:ys.all Dn=true)(hno:Am ys=true)(hl:xs.length+ys.length<1099511627776):
  ap2 T e e xs s u (.own e' zs) (some (e,ys,o))=some (.own e (xs++ys),s.clr u):=by
 simp only [ap2];rw [if_pos ⟨trivial,trivial,Xf hk h4,hy,hl⟩,hno];simp
end
section
variable {E:Env} {pm:Pm} {s:St} {dst:Option Tmp}
def kv(a:D)(l:List (AJ×D)):Option (List D×List (AJ×D))→Option (List D×List (AJ×D))
 |some (as,ls)=>some (a::as,l++ls)
 |none=>none
theorem A4Y(a:D)(l:List (AJ×D))(as:List D)(ls:List (AJ×D)):kv a l (some (as,ls))=some (a::as,l++ls):=nr rfl
def Ww(E:Env)(lend:Bool)(pm:Pm)(s:St)(j:Nat)(rest:List (Operand×TypeId)):Option (D×List (AJ×D))→Option (List D×List (AJ×D))
 |some (a,l)=>kv a l (EP E lend pm s (j+l.length) rest)
 |none=>none
theorem A4Z(lend:Bool)(j:Nat)(rest:List (Operand×TypeId))(a:D)(l:List (AJ×D)):Ww E lend pm s j rest (some (a,l))=kv a l (EP E lend pm s (j+l.length) rest):=nr rfl
theorem A9A(lend:Bool)(j:Nat):EP E lend pm s j []=some ([],[]):=nr rfl
theorem A9B(lend:Bool)(j:Nat)(u:Tmp)(t:TypeId)(rest:List (Operand×TypeId)):EP E lend pm s j ((.tmp u,t)::rest)=Ww E lend pm s j rest (Ng E.T lend pm s j [u] (s.v u)):=by
 simp only [EP,ev];rcases Ng E.T lend pm s j [u] (s.v u)with _|⟨a,l⟩
 ·rfl
 ·simp only [Ww];rcases EP E lend pm s (j+l.length) rest with _|⟨as,ls⟩<;>rfl
def aC(E:Env)(lend:Bool)(pm:Pm)(s:St)(j:Nat)(rest:List (Operand×TypeId)):Option D→Option (List D×List (AJ×D))
 |some d=>Ww E lend pm s j rest (Ng E.T lend pm s j [] d)
 |none=>none
theorem aCS(lend:Bool)(j:Nat)(rest:List (Operand×TypeId))(d:D):aC E lend pm s j rest (some d)=Ww E lend pm s j rest (Ng E.T lend pm s j [] d):=nr rfl
theorem arC(lend:Bool)(j:Nat)(v:Value)(t:TypeId)(rest:List (Operand×TypeId)):EP E lend pm s j ((.const v,t)::rest)=aC E lend pm s j rest (ev E.T s t (.const v)):=by
 simp only [EP]
 cases ev E.T s t (.const v)with
 |none=>rfl
 |some d=>
  simp only [aC];rcases Ng E.T lend pm s j [] d with _|⟨a,l⟩
  ·rfl
  ·simp only [Ww];rcases EP E lend pm s (j+l.length) rest with _|⟨as,ls⟩<;>rfl
theorem arF(lend:Bool)(j:Nat)(f:FuncId)(t:TypeId)(rest:List (Operand×TypeId)):EP E lend pm s j ((.func f,t)::rest)=Ww E lend pm s j rest (Ng E.T lend pm s j [] (.clo f [])):=by
 simp only [EP,ev];rcases Ng E.T lend pm s j [] (.clo f [])with _|⟨a,l⟩
 ·rfl
 ·simp only [Ww];rcases EP E lend pm s (j+l.length) rest with _|⟨as,ls⟩<;>rfl
variable (lend:Bool) (j:Nat) (L:AJ)
theorem A9C(T:Tys)(k:IntKind)(n:Int):Ng T lend pm s j L (.int k n)=De lend pm s j L (.int k n):=nr rfl
theorem A4a(T:Tys)(b:Bool):Ng T lend pm s j L (.bool b)=De lend pm s j L (.bool b):=nr rfl
theorem AFK(T:Tys)(e:TypeId)(xs:List D):Ng T lend pm s j L (.sl e xs)=De lend pm s j L (.sl e xs):=nr rfl
theorem A9D(T:Tys)(f:FuncId)(xs:List D):Ng T lend pm s j L (.clo f xs)=De lend pm s j L (.clo f xs):=nr rfl
theorem A4b(T:Tys)(xs:List D):Ng T lend pm s j L (.cptr xs)=De lend pm s j L (.cptr xs):=nr rfl
theorem axK(T:Tys)(v:Value):Ng T lend pm s j L (.konst v)=De lend pm s j L (.konst v):=nr rfl
theorem A9E(T:Tys)(e:TypeId)(xs:List D):Ng T lend pm s j L (.own e xs)=De lend pm s j L (.own e xs):=nr rfl
theorem A9F(T:Tys)(xs:List D):Ng T lend pm s j L (.box xs)=De lend pm s j L (.box xs):=nr rfl
theorem AFL(T:Tys)(M:AJ)(n m:Nat):Ng T lend pm s j L (.vw M n m)=De lend pm s j L (.vw M n m):=nr rfl
theorem A9G(T:Tys)(xs:List D):Ng T lend pm s j L (.agg xs)=De lend pm s j L (.agg xs):=nr rfl
theorem A9H(k:IntKind)(n:Int):De lend pm s j L (.int k n)=some (.int k n,[]):=nr rfl
theorem A4c(b:Bool):De lend pm s j L (.bool b)=some (.bool b,[]):=nr rfl
theorem AFM(e:TypeId)(xs:List D):De lend pm s j L (.sl e xs)=some (.sl e xs,[]):=nr rfl
theorem A9I(f:FuncId)(xs:List D):De lend pm s j L (.clo f xs)=some (.clo f xs,[]):=nr rfl
theorem A4d(xs:List D):De lend pm s j L (.cptr xs)=some (.cptr xs,[]):=nr rfl
theorem atK(v:Value):De lend pm s j L (.konst v)=some (.konst v,[]):=nr rfl
def fz1(l:List (AJ×D)):Option D→Option (D×List (AJ×D))
 |some c=>some (c,l)
 |none=>none
theorem AFN(l:List (AJ×D))(c:D):fz1 l (some c)=some (c,l):=nr rfl
theorem A9K(e:TypeId)(xs:List D):De false pm s j L (.own e xs)=fz1 [(L,.own e xs)] (ET (.own e xs)):=by
 show((ET (.own e xs)).map fun c'=>(c',[(L,D.own e xs)]))=_
 cases ET (.own e xs)<;>rfl
theorem A9L(xs:List D):De false pm s j L (.box xs)=fz1 [(L,.box xs)] (ET (.box xs)):=by
 show((ET (.box xs)).map fun c'=>(c',[(L,D.box xs)]))=_
 cases ET (.box xs)<;>rfl
def fz2(L:AJ):Option D→Option (D×List (AJ×D))
 |some c=>fz1 [(L,c)] (ET c)
 |none=>none
theorem AFP(c:D):fz2 L (some c)=fz1 [(L,c)] (ET c):=nr rfl
theorem AFQ(M:AJ)(n m:Nat):De false pm s j L (.vw M n m)=fz2 M (s.look pm M n m):=by
 simp only [De,GU]
 cases s.look pm M n m with
 |none=>rfl
 |some c=>simp only [fz2];cases ET c<;>rfl
theorem A4e(e:TypeId)(xs:List D):De true pm s j L (.own e xs)=some (.vw [G+j] 0 0,[(L,.own e xs)]):=nr rfl
def ln2(j:Nat)(L:AJ):Option D→Option (D×List (AJ×D))
 |some c=>some (.vw [G+j] 0 0,[(L,c)])
 |none=>none
theorem AFR(c:D):ln2 j L (some c)=some (.vw [G+j] 0 0,[(L,c)]):=nr rfl
theorem A9M(M:AJ)(n m:Nat):De true pm s j L (.vw M n m)=ln2 j M (s.look pm M n m):=by
 simp only [De,GU]
 cases s.look pm M n m<;>rfl
def ag1:Option (List D×List (AJ×D))→Option (D×List (AJ×D))
 |some r=>some (.agg r.1,r.2)
 |none=>none
theorem AFS(r:List D×List (AJ×D)):ag1 (some r)=some (.agg r.1,r.2):=nr rfl
theorem A9N(xs:List D):De lend pm s j L (.agg xs)=ag1 (FT lend pm s L j 0 xs):=by
 simp only [De]
 cases FT lend pm s L j 0 xs<;>rfl
def xc(lend:Bool)(pm:Pm)(s:St)(L0:AJ)(j i:Nat)(ds:List D):Option (D×List (AJ×D))→Option (List D×List (AJ×D))
 |some (a,l)=>kv a l (FT lend pm s L0 (j+l.length) (i+1) ds)
 |none=>none
theorem A4f(i:Nat)(ds:List D)(a:D)(l:List (AJ×D)):xc lend pm s L j i ds (some (a,l))=kv a l (FT lend pm s L (j+l.length) (i+1) ds):=nr rfl
theorem A9O(i:Nat):FT lend pm s L j i []=some ([],[]):=nr rfl
theorem A4g(i:Nat)(d:D)(ds:List D)(h:d.isAgg=false):FT lend pm s L j i (d::ds)=xc lend pm s L j i ds (De lend pm s j (L++[i]) d):=by
 have:De lend pm s j (L++[i]) d=GU lend pm s j (L++[i]) d:=by cases d<;>first|rfl|(simp [D.isAgg]at h)
 rw [this];simp only [FT];rcases GU lend pm s j (L++[i]) d with _|⟨a,l⟩
 ·rfl
 ·simp only [xc];rcases FT lend pm s L (j+l.length) (i+1) ds with _|⟨as,ls⟩<;>rfl
theorem A9P(k:IntKind)(n:Int):(D.int k n).isAgg=false:=nr rfl
theorem A4h(b:Bool):(D.bool b).isAgg=false:=nr rfl
theorem AFT(e:TypeId)(xs:List D):(D.sl e xs).isAgg=false:=nr rfl
theorem A9Q(e:TypeId)(xs:List D):(D.own e xs).isAgg=false:=nr rfl
theorem AFU(M:AJ)(n m:Nat):(D.vw M n m).isAgg=false:=nr rfl
theorem A9R(f:FuncId)(xs:List D):(D.clo f xs).isAgg=false:=nr rfl
theorem A4i(xs:List D):(D.cptr xs).isAgg=false:=nr rfl
def cb1(E:Env)(pm:Pm)(s:St)(dst:Option Tmp)(f:FuncId)(caps:List D):Option (List D×List (AJ×D))→Option St
 |none=>none
 |some (as,ls)=>
  match E.call f (as++caps) []with
  |some (r,_)=>
   if Ez r then
    if FY (ls.map (·.1))&&ls.all (fun l=>pm.wr (l.1.headD 0))then(Kt ls).map fun ls'=>(back false s ls').putO dst r else none
   else some (s.putO dst r)
  |none=>none
theorem cdB(f:FuncId)(xs:List (Operand×TypeId))(caps:List D)(h:E.lends f=false):Ik E pm s dst f xs caps=cb1 E pm s dst f caps (EP E false pm s 0 xs):=by
 unfold Ik cb1;rw [h];simp only [O6,if_false];rcases EP E false pm s 0 xs with _|⟨as,ls⟩<;>rfl
def cb2(pm:Pm)(s:St)(dst:Option Tmp)(ls:List (AJ×D)):Option (D×List D)→Option St
 |some (r,_)=>
   if Ez r then
    if FY (ls.map (·.1))&&ls.all (fun l=>pm.wr (l.1.headD 0))then(Kt ls).map fun ls'=>(back false s ls').putO dst r else none
   else some (s.putO dst r)
 |none=>none
theorem AFV(f:FuncId)(caps as:List D)(ls:List (AJ×D)):cb1 E pm s dst f caps (some (as,ls))=cb2 pm s dst ls (E.call f (as++caps) []):=by
 simp only [cb1];rcases E.call f (as++caps) []with _|⟨r,o⟩<;>rfl
theorem AFW(ls:List (AJ×D))(r:D)(o:List D)(h:Ez r=false):cb2 pm s dst ls (some (r,o))=some (s.putO dst r):=by simp [cb2,h]
theorem AFX(r:D)(o:List D):cb2 pm s dst [] (some (r,o))=some (s.putO dst r):=by
 simp only [cb2];split<;>rfl
def cl1(E:Env)(pm:Pm)(s:St)(dst:Option Tmp)(f:FuncId)(caps:List D):Option (List D×List (AJ×D))→Option St
 |none=>none
 |some (as,ls)=>
   if FY (ls.map (·.1))&&ls.all (fun l=>pm.wr (l.1.headD 0))&&ls.all (fun l=>jU l.2)then
    match E.call f (as++caps) (ls.map (·.2))with
    |some (r,outs)=>if outs.length=ls.length then some ((Nh s (ls.map (·.1)) outs).putO dst r)else none
    |none=>none
   else none
theorem cdL(f:FuncId)(xs:List (Operand×TypeId))(caps:List D)(h:E.lends f=true):Ik E pm s dst f xs caps=cl1 E pm s dst f caps (EP E true pm s 0 xs):=by
 unfold Ik cl1;rw [h];simp only [if_true];rcases EP E true pm s 0 xs with _|⟨as,ls⟩<;>rfl
def cl2(s:St)(dst:Option Tmp)(ls:List (AJ×D)):Option (D×List D)→Option St
 |some (r,outs)=>if outs.length=ls.length then some ((Nh s (ls.map (·.1)) outs).putO dst r)else none
 |none=>none
theorem AFY(f:FuncId)(caps as:List D)(ls:List (AJ×D))(h:(FY (ls.map (·.1))&&ls.all (fun l=>pm.wr (l.1.headD 0))&&ls.all (fun l=>jU l.2))=true):cl1 E pm s dst f caps (some (as,ls))=cl2 s dst ls (E.call f (as++caps) (ls.map (·.2))):=by
 simp only [cl1,h,if_true];rcases E.call f (as++caps) (ls.map (·.2))with _|⟨r,o⟩<;>rfl
theorem AFZ(ls:List (AJ×D))(r:D)(outs:List D)(h:outs.length=ls.length):cl2 s dst ls (some (r,outs))=some ((Nh s (ls.map (·.1)) outs).putO dst r):=by simp [cl2,h]
end
theorem A9S(k:IntKind)(n:Int):Ez (.int k n)=false:=by simp [Ez]
theorem A4k(b:Bool):Ez (.bool b)=false:=by simp [Ez]
theorem A9T(e:TypeId)(xs:List D):Ez (.own e xs)=Iq xs:=by simp [Ez]
theorem A9U(xs:List D):Ez (.agg xs)=Iq xs:=by simp [Ez]
theorem A9V(xs:List D):Ez (.tup xs)=Iq xs:=by simp [Ez]
theorem A4l:Iq []=false:=by simp [Iq]
theorem A0p(d:D)(ds:List D):Iq (d::ds)=(Ez d||Iq ds):=by simp [Iq]
theorem A9W(k:IntKind)(n:Int):ET (.int k n)=some (.int k n):=by simp [ET]
theorem A4m(b:Bool):ET (.bool b)=some (.bool b):=by simp [ET]
theorem AFa(e:TypeId)(xs:List D):ET (.sl e xs)=some (.sl e xs):=by simp [ET]
theorem A9X(f:FuncId)(xs:List D):ET (.clo f xs)=some (.clo f xs):=by simp [ET]
theorem A4n(xs:List D):ET (.cptr xs)=some (.cptr xs):=by simp [ET]
def fzM(f:List D→D):Option (List D)→Option D
 |some xs=>some (f xs)
 |none=>none
theorem AFb(f:List D→D)(xs:List D):fzM f (some xs)=some (f xs):=nr rfl
theorem A1n(e:TypeId)(xs:List D):ET (.own e xs)=fzM (.sl e) (FE xs):=by simp only [ET];cases FE xs<;>rfl
theorem A9Z(xs:List D):ET (.box xs)=fzM .cptr (FE xs):=by simp only [ET];cases FE xs<;>rfl
theorem A9a(xs:List D):ET (.agg xs)=fzM .agg (FE xs):=by simp only [ET];cases FE xs<;>rfl
theorem A9b(xs:List D):ET (.tup xs)=fzM .tup (FE xs):=by simp only [ET];cases FE xs<;>rfl
theorem A4o:FE []=some []:=by simp [FE]
def fzC:Option D→Option (List D)→Option (List D)
 |some d,some ds=>some (d::ds)
 |_,_=>none
theorem AFc(d:D)(ds:List D):fzC (some d) (some ds)=some (d::ds):=nr rfl
theorem qw(d:D)(ds:List D):FE (d::ds)=fzC (ET d) (FE ds):=by
 simp only [FE];cases ET d<;>cases FE ds<;>rfl
theorem AFd(d:D):jU d=(ET d).isSome:=nr rfl
section
variable {T:Tys} {s:St}
def fi1(n:Nat):Option (D×St)→Option (D×List D)
 |none=>none
 |some (r,s')=>if jU r&&((List.range n).map fun j=>s'.v (G+j)).all okL then some (r,(List.range n).map fun j=>s'.v (G+j))else none
theorem fiD(n:Nat)(rs:List ResultVar):Zu T n rs s=fi1 n (PQ T s rs):=by
 unfold Zu fi1;rcases PQ T s rs with _|⟨r,s'⟩<;>rfl
theorem fi0(r:D):fi1 0 (some (r,s))=if jU r then some (r,[])else none:=by simp [fi1]
theorem fiA(r:D):fi1 1 (some (r,s))=if jU r&&okL (s.v 100000)then some (r,[s.v 100000])else none:=by
 simp [fi1,G,Zp]
theorem fiB(r:D):fi1 2 (some (r,s))=if jU r&&(okL (s.v 100000)&&okL (s.v 100001))then some (r,[s.v 100000,s.v 100001])else none:=by
 simp [fi1,G,Zp,and_assoc]
theorem A4p(e:TypeId)(xs:List D):okL (.own e xs)=(ET (.own e xs)).isSome:=nr rfl
theorem A4q(xs:List D):okL (.box xs)=(ET (.box xs)).isSome:=nr rfl
theorem AFe:okL .undef=true:=nr rfl
theorem re1(r:ResultVar):PQ T s [r]=Y2 T s r:=nr rfl
def reT:Option (List D×St)→Option (D×St)
 |some q=>some (.tup q.1,q.2)
 |none=>none
theorem AFf(q:List D×St):reT (some q)=some (.tup q.1,q.2):=nr rfl
theorem re2(r r':ResultVar)(rs:List ResultVar):PQ T s (r::r'::rs)=reT (QD T s (r::r'::rs)):=by
 show((QD T s (r::r'::rs)).map fun q=>(D.tup q.1,q.2))=_
 cases QD T s (r::r'::rs)<;>rfl
theorem re0:PQ T s []=some (.tup [],s):=nr rfl
theorem A9c(t:Tmp):Y2 T s (.tmp t)=bY Pm.all s t (s.v t):=nr rfl
theorem A9d:QD T s []=some ([],s):=nr rfl
def rdN(T:Tys)(rs:List ResultVar):Option (D×St)→Option (List D×St)
 |some (d,s)=>(QD T s rs).map fun p=>(d::p.1,p.2)
 |none=>none
theorem AFg(rs:List ResultVar)(d:D):rdN T rs (some (d,s))=(QD T s rs).map fun p=>(d::p.1,p.2):=nr rfl
theorem A4r(r:ResultVar)(rs:List ResultVar):QD T s (r::rs)=rdN T rs (Y2 T s r):=by
 simp only [QD];rcases Y2 T s r with _|⟨d,s'⟩<;>rfl
theorem AFh(r:Nat):Pm.all.rd r=true:=nr rfl
theorem AFi(r:Nat):Pm.all.wr r=true:=nr rfl
def jK(s:St)(dst:Option Tmp)(u:Tmp)(i:Nat):Option D→Option St
 |none=>none
 |some (.agg ys)=>N7 s dst (Dy (.agg ((List.range ys.length).map fun j=>Ii s [u,i] j (ys.getD j .undef))))
 |some c=>N7 s dst (Dy (Ii s [u] i c))
theorem A9e(dst:Option Tmp)(u:Tmp)(xs:List D)(i:Nat):KI s dst (.tmp u) (.tup xs) i=jK s dst u i xs[i]? :=by
 simp only [KI];rcases xs[i]? with _|c
 ·rfl
 ·cases c<;>first|exact Oq s dst _|rfl
theorem A9f(dst:Option Tmp)(u:Tmp)(i:Nat)(ys:List D):jK s dst u i (some (.agg ys))=N7 s dst (Dy (.agg ((List.range ys.length).map fun j=>Ii s [u,i] j (ys.getD j .undef)))):=nr rfl
theorem A9g(dst:Option Tmp)(u:Tmp)(i:Nat)(k:IntKind)(n:Int):jK s dst u i (some (.int k n))=some (s.putO dst (.int k n)):=by simp [jK,Dy,Ii,D.hasObj,N7]
theorem A4s(dst:Option Tmp)(u:Tmp)(i:Nat)(b:Bool):jK s dst u i (some (.bool b))=some (s.putO dst (.bool b)):=by simp [jK,Dy,Ii,D.hasObj,N7]
theorem AFj(dst:Option Tmp)(u:Tmp)(i:Nat)(e:TypeId)(xs:List D):jK s dst u i (some (.sl e xs))=some (s.putO dst (.sl e xs)):=by simp [jK,Dy,Ii,D.hasObj,N7]
theorem A9h(dst:Option Tmp)(u:Tmp)(i:Nat)(e:TypeId)(xs:List D):jK s dst u i (some (.own e xs))=some (s.putO dst (.vw [u,i] (s.k u) (s.m u))):=by simp [jK,Dy,Ii,D.hasObj,N7,nD]
theorem A9i(xs:List D)(c:Nat)(p:AJ):Bj (.tup xs) (c::p)=(xs[c]?).bind fun d=>Bj d p:=nr rfl
theorem A9j(xs:List D)(c:Nat)(p:AJ)(x:D):I4 (.tup xs) (c::p) x= .tup (xs.set c (I4 (xs.getD c .undef) p x)):=nr rfl
theorem AFk(L:AJ)(xs:List D)(c:D):pl2 s L (some (.tup xs)) (some c)=some (c,s.set L .undef):=nr rfl
theorem A9k(deep:Bool):back deep s []=s:=nr rfl
theorem bkT(t:Nat)(p:AJ)(c:D)(rest:List (AJ×D)):back true s ((t::p,c)::rest)=back true ((s.set (t::p) c).bump t) rest:=nr rfl
theorem bkF(t:Nat)(p:AJ)(c:D)(rest:List (AJ×D)):back false s ((t::p,c)::rest)=back false (s.set (t::p) c) rest:=nr rfl
theorem bkE(deep:Bool)(c:D)(rest:List (AJ×D)):back deep s (([],c)::rest)=back deep s rest:=nr rfl
theorem bkL(Ls:List AJ)(outs:List D):Nh s Ls outs=back true (back false s (Ls.map fun L=>(L,.undef))) (Ls.zip outs):=nr rfl
theorem A9l:FY []=true:=nr rfl
theorem A4t(L:AJ)(Ls:List AJ):FY (L::Ls)=((L.isEmpty||Ls.all fun M=>M.isEmpty||(!L.isPrefixOf M&& !M.isPrefixOf L))&&FY Ls):=nr rfl
theorem ipC(a b:Nat)(l m:AJ):List.isPrefixOf (a::l) (b::m)=(a==b&&List.isPrefixOf l m):=nr rfl
theorem ipN(l:AJ):List.isPrefixOf [] l=true:=by cases l<;>rfl
theorem ipE(a:Nat)(l:AJ):List.isPrefixOf (a::l) []=false:=nr rfl
theorem ieC(a:Nat)(l:AJ):List.isEmpty (a::l)=false:=nr rfl
theorem ieN:List.isEmpty ([]:AJ)=true:=nr rfl
end
section
variable {T:Tys} {pm:Pm} {s:St}
def fl1(T:Tys)(pm:Pm)(tf:Nat→TypeId)(sz:Nat)(cs:List D)(i:Nat)(rest:List (Nat×Operand)):Option (D×St)→Option (List D×St)
 |none=>none
 |some (d,s1)=>if d.asCells.length=sz∧i*sz+sz≤cs.length then JG T pm tf sz s1 (Cu cs (i*sz) d.asCells) rest else none
theorem A9m(tf:Nat→TypeId)(sz:Nat)(cs:List D):JG T pm tf sz s cs []=some (cs,s):=nr rfl
theorem A4u(tf:Nat→TypeId)(sz:Nat)(cs:List D)(i:Nat)(x:Operand)(rest:List (Nat×Operand)):JG T pm tf sz s cs ((i,x)::rest)=fl1 T pm tf sz cs i rest (take T pm s (tf i) x):=by
 simp only [JG];rcases take T pm s (tf i) x with _|⟨d,s1⟩<;>rfl
theorem AFm(tf:Nat→TypeId)(cs:List D)(i:Nat)(rest:List (Nat×Operand))(d:D)(h:d.isAgg=false):fl1 T pm tf 1 cs i rest (some (d,s))=if i+1≤cs.length then JG T pm tf 1 s (cs.set i d) rest else none:=by
 have ha:d.asCells=[d]:=by cases d<;>first|rfl|(simp [D.isAgg]at h)
 simp only [fl1,ha,Ji,Re,Mt,M9,true_and,Cu]
end
section
variable (pm:Pm) (s:St) (u:Tmp)
def fA(pm:Pm)(u:Tmp)(d:D):Bool:= !d.hasObj||d.isObj||pm.wr u
theorem mvT:K3 pm s (.move (.tmp u))=fA pm u (s.v u):=nr rfl
theorem AFn(v:Value):K3 pm s (.move (.const v))=true:=nr rfl
theorem A4v(k:IntKind)(n:Int):fA pm u (.int k n)=true:=by simp [fA,D.hasObj]
theorem A0q(b:Bool):fA pm u (.bool b)=true:=by simp [fA,D.hasObj]
theorem A9n(e:TypeId)(xs:List D):fA pm u (.sl e xs)=true:=by simp [fA,D.hasObj]
theorem A4w(e:TypeId)(xs:List D):fA pm u (.own e xs)=true:=by simp [fA,D.isObj]
theorem A4x(xs:List D):fA pm u (.box xs)=true:=by simp [fA,D.isObj]
theorem A9o(L:AJ)(n m:Nat):fA pm u (.vw L n m)=true:=by simp [fA,D.hasObj]
theorem A0r(xs:List D):fA pm u (.cptr xs)=true:=by simp [fA,D.hasObj]
theorem A4y(xs:List D):fA pm u (.tup xs)=(!Am xs||pm.wr u):=by simp [fA,D.hasObj,D.isObj]
theorem xe(x:Operand):K3 pm s (.assign x)=true:=nr rfl
theorem A4z(a b c:Operand):K3 pm s (.pick a b c)=true:=nr rfl
theorem A0s(t:TypeId):K3 pm s (.alloc t)=true:=nr rfl
theorem A9p(t:TypeId)(x:Operand):K3 pm s (.box t x)=true:=nr rfl
theorem A0t(t:TypeId)(p:Array (Nat×Operand)):K3 pm s (.build t p)=true:=nr rfl
theorem AFo(t:TypeId)(n:Nat)(p:Array (Nat×Operand)):K3 pm s (.buildSlice t n p)=true:=nr rfl
theorem A50(t:TypeId)(x:Operand):K3 pm s (.load t x)=true:=nr rfl
theorem A0u(t:TypeId)(x y:Operand):K3 pm s (.store t x y)=true:=nr rfl
theorem A9q(o:BinOp)(t:TypeId)(x y:Operand)(t':TypeId):K3 pm s (.binOp o t x y t')=true:=nr rfl
theorem AFp(o:UnOp)(t:TypeId)(x:Operand):K3 pm s (.unOp o t x)=true:=nr rfl
theorem AFq(t:TypeId)(a b:Operand):K3 pm s (.makeSlice t a b)=true:=nr rfl
theorem AFr(t:TypeId)(x:Operand)(a b c:Option Operand):K3 pm s (.slice t x a b c)=true:=nr rfl
theorem AFs(x:Operand):K3 pm s (.nilCheck x)=true:=nr rfl
theorem AFt(t:TypeId)(x:Operand)(i:Nat):K3 pm s (.fieldAddr t x i)=true:=nr rfl
theorem AFu(t:TypeId)(x i:Operand):K3 pm s (.indexAddr t x i)=true:=nr rfl
theorem AFv(x:Operand)(i:Nat):K3 pm s (.extract x i)=true:=nr rfl
theorem A51(c:Call):K3 pm s (.call c)=true:=nr rfl
theorem pmR(n r w:List Nat)(x:Nat):(PmL.pm ⟨n,r,w⟩).rd x=(n.contains x|| !r.contains x):=nr rfl
theorem pmW(n r w:List Nat)(x:Nat):(PmL.pm ⟨n,r,w⟩).wr x=w.contains x:=nr rfl
section
variable {E:Env} {dst:Option Tmp} {t ty:TypeId}
end
end
end Dv
namespace Dv
open Go
theorem Ec(n:Int)(h: -9223372036854775808≤n∧n≤9223372036854775807):IntKind.i64.wrap n=n:=IntWalk.i64_in n h
section
variable {T:Tys} {pm:Pm} {s:St} {t:TypeId}
theorem Su(xs:AL)(i:Nat)(h:i<xs.length):(Gx xs)[i]? =some (.int .i64 (xs.getD i 0)):=by
 simp [Gx,M8,h]
theorem bZ(x:Int)(xs:AL):Gx (x::xs)= .int .i64 x::Gx xs:=nr rfl
def sls(e:TypeId)(xss:AO):List D:=xss.map fun xs=> .sl e (Gx xs)
variable {E:Env} {dst:Option Tmp} {ty:TypeId}
def A9r(e:TypeId)(dst:Option Tmp):Option (List D×St)→Option St
 |some (xs,s)=>some (s.putO dst (.own e xs))
 |none=>none
theorem A9s(e:TypeId)(xs:List D):A9r e dst (some (xs,s))=some (s.putO dst (.own e xs)):=nr rfl
def uN(dst:Option Tmp):Option (List D×St)→Option St
 |some (xs,s)=>some (s.putO dst (.agg xs))
 |none=>none
theorem A9t(xs:List D):uN dst (some (xs,s))=some (s.putO dst (.agg xs)):=nr rfl
theorem Yd(T:Tys){e:TypeId}(hs:T.isStruct e=false):T.size e=1∧T.zeros e=[T.zero1 e]:=by
 unfold Tys.isStruct at hs;unfold Tys.size Tys.zeros
 cases hty:T.ty e<;>simp_all [Ty.isStruct,Ty.size]
def bs0(E:Env)(pm:Pm)(s:St)(dst:Option Tmp)(len:Nat)(parts:Array (Nat×Operand)):Ty→Option St
 | .slice e=>
   if len*E.T.size e≤4096∧E.T.known e=true then
    (JG E.T pm (fun _=>e) (E.T.size e) s ((List.range (len*E.T.size e)).map fun j=>(E.T.zeros e).getD (j % E.T.size e) .undef) parts.toList).map fun r=>r.2.putO dst (.own e r.1)
   else none
 |_=>none
theorem A53(len:Nat)(parts:Array (Nat×Operand)):Xx E.T pm s dst t len parts=bs0 E pm s dst len parts (E.T.ty t):=by
 unfold Xx bs0
 cases E.T.ty t<;>rfl
theorem yBs(len:Nat)(parts:Array (Nat×Operand)):PV E pm s dst (.buildSlice t len parts) ty=if ty=900004 then fcB pm dst (bs0 E pm s dst len parts (E.T.ty t))else bs0 E pm s dst len parts (E.T.ty t):=by
 rw [Yc,A53];by_cases h:ty=900004
 ·rw [if_pos h,if_pos h];unfold fcB
  cases bs0 E pm s dst len parts (E.T.ty t)<;>cases dst<;>rfl
 ·rw [if_neg h,if_neg h]
theorem AFw(len:Nat)(parts:Array (Nat×Operand))(e:TypeId)(hk:E.T.known e=true)(hs:E.T.isStruct e=false)(hl:len≤4096):
  bs0 E pm s dst len parts (.slice e)=A9r e dst (JG E.T pm (fun _=>e) 1 s (List.replicate len (E.T.zero1 e)) parts.toList):=by
 obtain⟨hz,hzz⟩:=Yd E.T hs
 have hrep:((List.range (len*1)).map fun j=>(E.T.zeros e).getD (j % 1) .undef)=List.replicate len (E.T.zero1 e):=by
  rw [hzz];apply List.ext_getElem
  ·simp
  ·intro i h1 h2;simp [Nat.mod_one]
 simp only [bs0,hz];rw [if_pos ⟨by omega,hk⟩,hrep]
 rcases JG E.T pm (fun _=>e) 1 s (List.replicate len (E.T.zero1 e)) parts.toList with _|⟨a,b⟩<;>rfl
theorem AFx(u:Tmp)(e:TypeId)(L:AJ)(n m lo len:Nat):C9 pm s dst (.tmp u) (.vs e L n m lo len)=some (s.putO dst (.vs e L n m lo len)):=by
 show some (if(D.vs e L n m lo len).hasObj then(s.clr u).putO dst (.vs e L n m lo len)else s.putO dst (.vs e L n m lo len))=_
 rw [if_neg (by simp [D.hasObj])]
def bdN(E:Env)(pm:Pm)(s:St)(dst:Option Tmp)(t:TypeId)(parts:Array (Nat×Operand)):Option St:=
 match E.T.ty t with
 | .struct fs=>if E.T.known t then uN dst (JG E.T pm (fun i=>fs.getD i 0) 1 s (E.T.zeros t) parts.toList)else none
 |_=>none
def bd0(E:Env)(pm:Pm)(s:St)(dst:Option Tmp)(t:TypeId)(parts:Array (Nat×Operand)):Option (List (Nat×TypeId))→Option St
 |some fl=>if E.T.isStruct t&&E.T.known t then uN dst (MC E.T pm fl s (E.T.zeros t) parts.toList)else none
 |none=>bdN E pm s dst t parts
theorem A54(parts:Array (Nat×Operand)):PV E pm s dst (.build t parts) ty=bd0 E pm s dst t parts (E.T.nest t):=by
 rw [uG];unfold bd0 bdN
 cases E.T.nest t with
 |some fl=>
  simp only;split
  ·rcases MC E.T pm fl s (E.T.zeros t) parts.toList with _|⟨a,b⟩<;>rfl
  ·rfl
 |none=>
  simp only
  cases E.T.ty t with
  |struct fs=>
   simp only;split
   ·rcases JG E.T pm (fun i=>fs.getD i 0) 1 s (E.T.zeros t) parts.toList with _|⟨a,b⟩<;>rfl
   ·rfl
  |_=>rfl
theorem AFy(parts:Array (Nat×Operand))(fl:List (Nat×TypeId))(hk:E.T.known t=true)(hs:E.T.isStruct t=true):bd0 E pm s dst t parts (some fl)=uN dst (MC E.T pm fl s (E.T.zeros t) parts.toList):=by
 simp [bd0,hk,hs]
def bdT(E:Env)(pm:Pm)(s:St)(dst:Option Tmp)(t:TypeId)(parts:Array (Nat×Operand)):Ty→Option St
 | .struct fs=>if E.T.known t then uN dst (JG E.T pm (fun i=>fs.getD i 0) 1 s (E.T.zeros t) parts.toList)else none
 |_=>none
theorem AFz(parts:Array (Nat×Operand)):bd0 E pm s dst t parts none=bdT E pm s dst t parts (E.T.ty t):=by
 show bdN E pm s dst t parts=_
 unfold bdN bdT
 cases E.T.ty t<;>rfl
theorem AG0(parts:Array (Nat×Operand))(fs:List TypeId)(hk:E.T.known t=true):bdT E pm s dst t parts (.struct fs)=uN dst (JG E.T pm (fun i=>fs.getD i 0) 1 s (E.T.zeros t) parts.toList):=by
 simp [bdT,hk]
def fn1(T:Tys)(pm:Pm)(fl:List (Nat×TypeId))(cs:List D)(off:Nat)(ty:TypeId)(rest:List (Nat×Operand)):Option (D×St)→Option (List D×St)
 |none=>none
 |some (d,s1)=>if d.asCells.length=T.size ty∧off+T.size ty≤cs.length then MC T pm fl s1 (Cu cs off d.asCells) rest else none
theorem A9w(T:Tys)(fl:List (Nat×TypeId))(cs:List D):MC T pm fl s cs []=some (cs,s):=nr rfl
def fn0(T:Tys)(pm:Pm)(fl:List (Nat×TypeId))(s:St)(cs:List D)(x:Operand)(rest:List (Nat×Operand)):Option (Nat×TypeId)→Option (List D×St)
 |none=>none
 |some (off,ty)=>fn1 T pm fl cs off ty rest (take T pm s ty x)
theorem A55(T:Tys)(fl:List (Nat×TypeId))(cs:List D)(i:Nat)(x:Operand)(rest:List (Nat×Operand)):MC T pm fl s cs ((i,x)::rest)=fn0 T pm fl s cs x rest (fl[i]?):=by
 simp only [MC];rcases fl[i]? with _|⟨off,ty⟩
 ·rfl
 ·simp only [fn0,fn1];rcases take T pm s ty x with _|⟨d,s1⟩<;>rfl
theorem AG2(T:Tys)(fl:List (Nat×TypeId))(cs:List D)(x:Operand)(rest:List (Nat×Operand))(off:Nat)(ty:TypeId):fn0 T pm fl s cs x rest (some (off,ty))=fn1 T pm fl cs off ty rest (take T pm s ty x):=nr rfl
theorem AG3(T:Tys)(fl:List (Nat×TypeId))(cs:List D)(off:Nat)(ty:TypeId)(rest:List (Nat×Operand))(d:D)(h1:d.asCells.length=T.size ty)(h2:off+T.size ty≤cs.length):
  fn1 T pm fl cs off ty rest (some (d,s))=MC T pm fl s (Cu cs off d.asCells) rest:=by simp only [fn1,h1,h2,and_self,if_true]
theorem fnA(ds:List D):(D.agg ds).asCells=ds:=nr rfl
theorem fnO(e:TypeId)(xs:List D):(D.own e xs).asCells=[.own e xs]:=nr rfl
theorem spN(cs:List D)(c:Nat):Cu cs c []=cs:=by cases cs<;>rfl
theorem spC(cs:List D)(c:Nat)(y:D)(ys:List D):Cu cs c (y::ys)=Cu (cs.set c y) (c+1) ys:=by cases cs<;>rfl
def mk0(T:Tys)(n:Int):Ty→Option D
 | .slice e=>if 0≤n∧n<1099511627776∧T.elem e=true then
   if T.isStruct e=true then some (.own e (List.replicate n.toNat (T.zeros e)).flatten)
   else if T.size e=1 then some (.own e (List.replicate n.toNat (T.zero1 e)))else none
  else none
 |_=>none
theorem yMk(n:Int):Fb T t (.int .i64 n) (.int .i64 n)=mk0 T n (T.ty t):=by
 unfold Fb mk0
 cases T.ty t<;>simp
def A0v(T:Tys)(q:Int):Ty→Option D
 | .slice e=>if 0≤q∧q<1099511627776∧T.elem e=true then
   if T.isStruct e=true then some (.own e [])
   else if T.size e=1 then some (.own e [])else none
  else none
 |_=>none
theorem AG4(q:Int):Fb T t (.int .i64 0) (.int .i64 q)=A0v T q (T.ty t):=by
 unfold Fb A0v
 cases T.ty t<;>simp
theorem A9x(q:Int)(e:TypeId)(hk:T.known e=true)(h4:T.size e≤4)(h0:0≤q)(hn:q<1099511627776):A0v T q (.slice e)=some (.own e []):=by
 simp only [A0v];rw [if_pos ⟨h0,hn,Xf hk h4⟩];by_cases hs:T.isStruct e=true
 ·rw [if_pos hs]
 ·obtain⟨hz,_⟩:=Yd T (by simpa using hs)
  rw [if_neg hs,if_pos hz]
theorem AG5(n:Int)(e:TypeId)(hk:T.known e=true)(h4:T.size e≤4)(hs:T.isStruct e=false)(h0:0≤n)(hn:n<1099511627776):mk0 T n (.slice e)=some (.own e (List.replicate n.toNat (T.zero1 e))):=by
 obtain⟨hz,_⟩:=Yd T hs;simp only [mk0];rw [if_pos ⟨h0,hn,Xf hk h4⟩,if_neg (by rw [hs];decide),if_pos hz]
end
end Dv
namespace Dv
open Go
def I64(n:Int):Prop:= -9223372036854775808≤n∧n≤9223372036854775807
theorem A56{n:Int}(h:(Lit.int .i64 n).wf=true):I64 n:=by
 have h1:IntKind.i64.min= -9223372036854775808:=by decide
 have h2:IntKind.i64.max=9223372036854775807:=by decide
 simp only [Lit.wf,h1,h2,KG,decide_eq_true_eq]at h;exact h
section
variable {T:Tys} {t e:TypeId} {d:D}
theorem oq{ds:List D}(ht:T.ty t= .int .i64)(h:Shp T t ds): ∃n,ds=[.int .i64 n]∧I64 n:=by
 cases h with
 |int ht' hw=>rw [ht]at ht';injection ht' with ht';subst ht';exact⟨_,rfl,A56 hw⟩
 |bool ht'=>rw [ht]at ht';cases ht'
 |string ht'=>rw [ht]at ht';cases ht'
 |slice ht'=>rw [ht]at ht';cases ht'
 |struct ht'=>rw [ht]at ht';cases ht'
theorem kw{ds:List D}(ht:T.ty t= .slice e)(h:Shp T t ds): ∃xss:List (List D),ds=[.sl e xss.flatten]∧(∀xs,xs∈xss→Shp T e xs)∧xss.length≤maxLen:=by
 cases h with
 |int ht' hw=>rw [ht]at ht';cases ht'
 |bool ht'=>rw [ht]at ht';cases ht'
 |string ht' hs=>rw [ht]at ht';cases ht'
 |slice ht' hx hl=>rw [ht]at ht';injection ht' with ht';subst ht';exact⟨_,rfl,hx,hl⟩
 |struct ht'=>rw [ht]at ht';cases ht'
theorem uO{fs:List TypeId}{ds:List D}(ht:T.ty t= .struct fs)(h:Shp T t ds):ds.length=fs.length∧ ∀(i:Nat) (f:TypeId) (d:D),fs[i]? =some f→ds[i]? =some d→Shp T f [d]:=by
 cases h with
 |int ht' hw=>rw [ht]at ht';cases ht'
 |bool ht'=>rw [ht]at ht';cases ht'
 |string ht' hs=>rw [ht]at ht';cases ht'
 |slice ht' hx hl=>rw [ht]at ht';cases ht'
 |struct ht' hl hx=>rw [ht]at ht';injection ht' with ht';subst ht';exact⟨hl,hx⟩
def A57(xs:AL):Prop:=xs.length≤maxLen∧ ∀x∈xs,I64 x
def qx(xss:AO):Prop:=xss.length≤maxLen∧ ∀xs∈xss,A57 xs
theorem A0w{ds:List D}(ht:T.ty t= .slice e)(he:T.ty e= .int .i64)(h:Shp T t ds): ∃xs,ds=[.sl e (Gx xs)]∧A57 xs:=by
 obtain⟨xss,rfl,hx,hl⟩:=kw ht h
 have: ∀xss:List (List D),(∀xs,xs∈xss→Shp T e xs)→ ∃ys,xss.flatten=Gx ys∧ys.length=xss.length∧ ∀y∈ys,I64 y:=by
  intro xss
  induction xss with
  |nil=>intro _;exact⟨[],rfl,rfl,by simp⟩
  |cons xs xss ih=>
   intro hx;obtain⟨n,rfl,hn⟩:=oq he (hx xs (Jq));obtain⟨ys,h1,h2,h3⟩:=ih (fun q hq=>hx q (Kn _ hq))
   refine⟨n::ys,by rw [nC,h1];rfl,by simp [h2],fun y hy=> ?_⟩
   rcases Ms.1 hy with rfl|hy
   ·exact hn
   ·exact h3 y hy
 obtain⟨ys,h1,h2,h3⟩:=this xss hx
 exact⟨ys,by rw [h1],by omega,h3⟩
theorem ky{e2:TypeId}{ds:List D}(ht:T.ty t= .slice e)(he:T.ty e= .slice e2)(he2:T.ty e2= .int .i64)(h:Shp T t ds): ∃xss,ds=[.sl e (sls e2 xss)]∧qx xss:=by
 obtain⟨xss,rfl,hx,hl⟩:=kw ht h
 have: ∀xss:List (List D),(∀xs,xs∈xss→Shp T e xs)→ ∃ys,xss.flatten=sls e2 ys∧ys.length=xss.length∧ ∀y∈ys,A57 y:=by
  intro xss
  induction xss with
  |nil=>intro _;exact⟨[],rfl,rfl,by simp⟩
  |cons xs xss ih=>
   intro hx;obtain⟨n,rfl,hn⟩:=A0w he he2 (hx xs (Jq));obtain⟨ys,h1,h2,h3⟩:=ih (fun q hq=>hx q (Kn _ hq))
   refine⟨n::ys,by rw [nC,h1];rfl,by simp [h2],fun y hy=> ?_⟩
   rcases Ms.1 hy with rfl|hy
   ·exact hn
   ·exact h3 y hy
 obtain⟨ys,h1,h2,h3⟩:=this xss hx
 exact⟨ys,by rw [h1],by omega,h3⟩
theorem uP{fs:List TypeId}(ht:T.ty t= .struct fs)(h:Arg T t d): ∃ds,d= .agg ds∧ds.length=fs.length∧ ∀(i:Nat) (f:TypeId) (d:D),fs[i]? =some f→ds[i]? =some d→Shp T f [d]:=by
 obtain⟨ds,hs,rfl⟩:=h;obtain⟨h1,h2⟩:=uO ht hs
 exact⟨ds,by simp [top,Tys.isStruct,ht,Ty.isStruct],h1,h2⟩
theorem ou{a b:TypeId}(ht:T.ty t= .struct [a,a,b,b])(ha:T.ty a= .int .i64)(hb:T.ty b= .slice e){e2:TypeId}(he:T.ty e= .slice e2)(he2:T.ty e2= .int .i64)(h:Arg T t d):
  ∃l k ns es,d= .agg [.int .i64 l,.int .i64 k,.sl e (sls e2 ns),.sl e (sls e2 es)]∧I64 l∧I64 k∧qx ns∧qx es:=by
 obtain⟨ds,rfl,hl,hx⟩:=uP ht h;rcases ds with _|⟨d0,_|⟨d1,_|⟨d2,_|⟨d3,_|⟨_,_⟩⟩⟩⟩⟩<;>simp at hl
 obtain⟨l,h0,hl0⟩:=oq ha (hx 0 a d0 rfl rfl);obtain⟨k,h1,hl1⟩:=oq ha (hx 1 a d1 rfl rfl);obtain⟨ns,h2,hl2⟩:=ky hb he he2 (hx 2 b d2 rfl rfl);obtain⟨es,h3,hl3⟩:=ky hb he he2 (hx 3 b d3 rfl rfl);simp only [List.cons.injEq,and_true]at h0 h1 h2 h3;subst h0 h1 h2 h3
 exact⟨l,k,ns,es,rfl,hl0,hl1,hl2,hl3⟩
end
theorem trodAll_len{H:Type}{enc:TypeId×Value→H}{P:Program}{w:World}{base:Nat}{spare:Nat→Bool}{Py:Bool}: ∀ {ts:List TypeId} {vs:List Value} {ds:List (DataW H)} {ps:List MemPlace},
  DataW.TrodAll enc P w base spare Py ts vs ds ps→ds.length=ts.length∧vs.length=ts.length:=by
 intro ts
 induction ts with
 |nil=>intro vs ds ps h;cases vs<;>cases ds<;>simp [DataW.TrodAll]at h;exact⟨rfl,rfl⟩
 |cons t ts ih=>
  intro vs ds ps h
  cases vs with
  |nil=>cases ds<;>simp [DataW.TrodAll]at h
  |cons v vs=>
   cases ds with
   |nil=>simp [DataW.TrodAll]at h
   |cons d ds=>
    simp only [DataW.TrodAll]at h;obtain⟨p,q,h1,h2,_⟩:=h;obtain⟨e1,e2⟩:=ih h2
    exact⟨by simp [e1],by simp [e2]⟩
end Dv
namespace Dv
open Go
section
variable {E:Env} {T:Tys} {pm:Pm} {s:St} {dst:Option Tmp} {ty t:TypeId}
def vZ(T:Tys)(t:TypeId)(dst:Option Tmp):Option (D×St)→Option St
 |some (d,s1)=>if T.isStruct t==d.isAgg then some (s1.putO dst (.box d.asCells))else none
 |none=>none
def uQ(E:Env)(pm:Pm)(s:St)(t:TypeId)(x:Operand)(dst:Option Tmp):D→Option St
 | .agg ds=>if Am ds then vZ E.T t dst (take E.T pm s t x)else(if E.T.isStruct t then some (s.putO dst (.box ds))else none)
 |_=>vZ E.T t dst (take E.T pm s t x)
theorem A58(u:Tmp):Rm E.T pm s dst t (.tmp u)=uQ E pm s t (.tmp u) dst (s.v u):=by
 rw [xP]
 cases hk:Xv (ev E.T s t (.tmp u))with
 |some ds=>
  simp only [ev]at hk
  cases hv:s.v u<;>rw [hv]at hk<;>simp only [Xv]at hk<;>try (cases hk;done)
  split at hk
  ·cases hk
  ·rename_i ho
   simp only [Option.some.injEq]at hk;subst hk;simp only [uQ,ho];rfl
 |none=>
  have hold:uQ E pm s t (.tmp u) dst (s.v u)=vZ E.T t dst (take E.T pm s t (.tmp u)):=by
   simp only [ev]at hk
   cases hv:s.v u<;>try rfl
   rw [hv]at hk;simp only [Xv]at hk
   split at hk
   ·rename_i ho;simp only [uQ,ho,if_true]
   ·cases hk
  rw [hold];simp only;rcases take E.T pm s t (.tmp u)with _|⟨d,s1⟩<;>rfl
theorem AG6(u:Tmp):PV E pm s dst (.box t (.tmp u)) ty=if ty=900003 then vY pm dst (uQ E pm s t (.tmp u) dst (s.v u))else uQ E pm s t (.tmp u) dst (s.v u):=by
 rw [A0c,A58];by_cases h:ty=900003
 ·rw [if_pos h,if_pos h];unfold vY
  cases uQ E pm s t (.tmp u) dst (s.v u)<;>cases dst<;>rfl
 ·rw [if_neg h,if_neg h]
theorem bkK(x:Operand)(ds:List D)(hs:E.T.isStruct t=true):uQ E pm s t x dst (.agg ds)=if Am ds then vZ E.T t dst (take E.T pm s t x)else some (s.putO dst (.box ds)):=by simp [uQ,hs]
theorem A9y(x:Operand)(k:IntKind)(n:Int):uQ E pm s t x dst (.int k n)=vZ E.T t dst (take E.T pm s t x):=nr rfl
theorem AG7(x:Operand)(e:TypeId)(xs:List D):uQ E pm s t x dst (.sl e xs)=vZ E.T t dst (take E.T pm s t x):=nr rfl
theorem A59(x:Operand)(xs:List D):uQ E pm s t x dst (.cptr xs)=vZ E.T t dst (take E.T pm s t x):=nr rfl
theorem A9z(x:Operand)(f:FuncId)(xs:List D):uQ E pm s t x dst (.clo f xs)=vZ E.T t dst (take E.T pm s t x):=nr rfl
theorem AG8(ds:List D)(hs:T.isStruct t=true):vZ T t dst (some (.agg ds,s))=some (s.putO dst (.box ds)):=by simp [vZ,hs,D.isAgg,D.asCells]
theorem AG9(d:D)(hs:T.isStruct t=false)(hd:d.isAgg=false):vZ T t dst (some (d,s))=some (s.putO dst (.box [d])):=by
 have:d.asCells=[d]:=by cases d<;>first|rfl|(simp [D.isAgg]at hd)
 simp [vZ,hs,hd,this]
def fa1(L:AJ)(i n m:Nat):Option D→Option D
 |some _=>some (.pe L i n m)
 |none=>none
theorem AGB(L:AJ)(i n m:Nat)(d:D):fa1 L i n m (some d)=some (.pe L i n m):=nr rfl
def fa0(T:Tys)(pm:Pm)(s:St)(t:TypeId)(x:Operand)(d:D):Option Nat→Option D
 |none=>none
 |some j=>
  if T.isStruct t then
   match d with
   | .box _=>match x with| .tmp u=>some (.pe [u] j (s.k u) (s.m u))|_=>none
   | .vw L n m=>match s.look pm L n m with|some (.box _)=>some (.pe L j n m)|_=>none
   | .pe L c n m=>match s.look pm L n m with|some _=>some (.pe L (c+j) n m)|none=>none
   | .cptr xs=>some (.cptr (xs.drop j))
   |_=>none
  else none
theorem faE(x:Operand)(d:D)(i:Nat):Gv T pm s t x d i=fa0 T pm s t x d (T.foff t i):=by
 unfold Gv fa0
 cases T.foff t i<;>rfl
theorem foN(i:Nat)(hn:T.nest t=none)(hi:i<T.size t):T.foff t i=some i:=by simp [Tys.foff,hn,hi]
theorem AA0(u:Tmp)(xs:List D)(i:Nat)(hs:T.isStruct t=true):fa0 T pm s t (.tmp u) (.box xs) (some i)=some (.pe [u] i (s.k u) (s.m u)):=by simp [fa0,hs]
theorem AGC(x:Operand)(L:AJ)(n m i:Nat)(hs:T.isStruct t=true):fa0 T pm s t x (.vw L n m) (some i)=fa1 L i n m (Ut s pm L n m):=by
 simp only [fa0,hs,if_true,Ut]
 cases s.look pm L n m with
 |none=>rfl
 |some o=>cases o<;>rfl
theorem AGD(x:Operand)(L:AJ)(c n m i:Nat)(hs:T.isStruct t=true):fa0 T pm s t x (.pe L c n m) (some i)=fa1 L (c+i) n m (s.look pm L n m):=by
 simp only [fa0,hs,if_true]
 cases s.look pm L n m<;>rfl
theorem AGE(x:Operand)(xs:List D)(i:Nat)(hs:T.isStruct t=true):fa0 T pm s t x (.cptr xs) (some i)=some (.cptr (xs.drop i)):=by simp [fa0,hs]
theorem csS(L:AJ)(c n:Nat)(o:D):cellsOf s L c n (some o)=if c+n≤o.cells.length then Dy (.agg ((List.range n).map fun i=>Ii s L (c+i) (o.cells.getD (c+i) .undef)))else none:=nr rfl
variable {α:Type} (f:Nat→α)
theorem rg2:(List.range 2).map f=[f 0,f 1]:=nr rfl
theorem rg4:(List.range 4).map f=[f 0,f 1,f 2,f 3]:=nr rfl
theorem rg5:(List.range 5).map f=[f 0,f 1,f 2,f 3,f 4]:=nr rfl
theorem AA1(L:AJ)(c:Nat)(k:IntKind)(n:Int):Ii s L c (.int k n)= .int k n:=nr rfl
theorem AGF(L:AJ)(c:Nat)(e:TypeId)(xs:List D):Ii s L c (.sl e xs)= .sl e xs:=nr rfl
theorem AA2(L:AJ)(c:Nat)(e:TypeId)(xs:List D):Ii s L c (.own e xs)=nD s (L++[c]):=nr rfl
theorem AGG(L:AJ)(c:Nat)(M:AJ)(n m:Nat):Ii s L c (.vw M n m)= .vw M n m:=nr rfl
theorem noA(xs:List D):Dy (.agg xs)=if Am xs then none else some (.agg xs):=by simp only [Dy,D.hasObj];rfl
theorem AA3(k:IntKind)(n:Int):Dy (.int k n)=some (.int k n):=by simp [Dy,D.hasObj]
theorem AGH(e:TypeId)(xs:List D):Dy (.sl e xs)=some (.sl e xs):=by simp [Dy,D.hasObj]
theorem AGI(L:AJ)(n m:Nat):Dy (.vw L n m)=some (.vw L n m):=by simp [Dy,D.hasObj]
theorem dl2(a b:Nat)(l:AJ):List.dropLast (a::b::l)=a::List.dropLast (b::l):=nr rfl
theorem dl1(a:Nat):List.dropLast [a]=[]:=nr rfl
theorem AGJ(r c:Nat)(p:AJ):s.get (r::c::p)=Bj (s.v r) (c::p):=nr rfl
theorem ow: ∀(ds xs:List D),xs.length=ds.length→Cu xs 0 ds=ds:=by
 have key: ∀(ds pre xs:List D),xs.length=ds.length→Cu (pre++xs) pre.length ds=pre++ds:=by
  intro ds
  induction ds with
  |nil=>intro pre xs h;simp at h;subst h;rfl
  |cons d ds ih=>
   intro pre xs h
   cases xs with
   |nil=>simp at h
   |cons x xs=>
    simp only [Cu];have:=ih (pre++[d]) xs (by simpa using h)
    simpa using this
 intro ds xs h;simpa using key ds [] xs h
def sw1(T:Tys)(pm:Pm)(t:TypeId)(u:Tmp)(ds:List D)(s:St):D→Option St
 | .box xs=>if T.known t&&T.isStruct t&&pm.wr u&&ds.all Dn&&(T.size t==ds.length)&&(xs.length==ds.length)then(if Am ds||Am xs then some ((s.set [u] (.box ds)).bump u)else some (s.set [u] (.box ds)))else jL T pm t (.tmp u) (some (.agg ds,s))
 |_=>jL T pm t (.tmp u) (some (.agg ds,s))
theorem AGK(u:Tmp)(ds:List D):jL T pm t (.tmp u) (some (.agg ds,s))=sw1 T pm t u ds s (s.v u):=by
 cases hv:s.v u<;>simp only [sw1]
 rename_i xs
 split
 ·rename_i hc
  simp only [KG,beq_iff_eq]at hc;obtain⟨⟨⟨⟨⟨hk,hs⟩,hw⟩,hd⟩,hz⟩,hl⟩:=hc;have hz':T.size t≤xs.length:=by omega
  simp only [jL,ev,hv,Kl,D.asCells,D.isAgg,D.cells,D.withCells,hk,hs,hw,hd,hz,Zo,beq_self_eq_true,Bool.and_self,Mt,D.hasObj];rw [ow ds xs hl];have h2:ds.length≤xs.length:=by omega
  simp only [h2,decide_true,Bool.and_self,if_true]
  split<;>first|rfl|(rename_i hq;simp only [hq];rfl)
 ·rfl
theorem AGL(u:Tmp)(ds xs:List D)(hk:T.known t=true)(hs:T.isStruct t=true)(hw:pm.wr u=true)(hd:ds.all Dn=true)(hz:T.size t=ds.length)(hl:xs.length=ds.length):
  sw1 T pm t u ds s (.box xs)=if Am ds||Am xs then some ((s.set [u] (.box ds)).bump u)else some (s.set [u] (.box ds)):=by
 simp [sw1,hk,hs,hw,hd,hz,hl]
def rc1(T:Tys)(s:St)(t:Tmp)(ty:TypeId):D→Option (D×St)
 | .box xs=>if T.isStruct ty then(if xs.length=T.size ty then td1 (GI Pm.all (s.clr t) xs)else none)else(match xs with| [d]=>Ct Pm.all (s.clr t) d|_=>none)
 | .cptr xs=>if T.isStruct ty then(if xs.length=T.size ty then some (.agg xs,s)else none)else(match xs with| [d]=>some (d,s)|_=>none)
 |_=>none
theorem A5A(u:Tmp)(hk:T.known ty=true):Y2 T s (.cell u ty)=rc1 T s u ty (s.v u):=by
 simp only [Y2,hk,if_true,rc1]
 cases s.v u with
 |box xs=>
  simp only;split
  ·split
   ·cases GI Pm.all (s.clr u) xs<;>rfl
   ·rfl
  ·rfl
 |_=>rfl
theorem AGM(u:Tmp)(xs:List D)(hs:T.isStruct ty=true)(hl:xs.length=T.size ty):rc1 T s u ty (.box xs)=td1 (GI Pm.all (s.clr u) xs):=by simp [rc1,hs,hl]
def cp1(pm:Pm)(s:St)(u:Tmp)(rest:List Operand):D→Option (List D×St)
 | .box xs=>match FE xs with
  |some ys=>if pm.wr u then(Oe pm (s.set [u] (.cptr ys)) rest).map fun r=>(.cptr ys::r.1,r.2)else none
  |none=>none
 | .cptr ys=>(Oe pm s rest).map fun r=>(.cptr ys::r.1,r.2)
 |_=>none
theorem AA4:Oe pm s []=some ([],s):=nr rfl
theorem AA5(u:Tmp)(rest:List Operand):Oe pm s (.tmp u::rest)=cp1 pm s u rest (s.v u):=by
 simp only [Oe]
 cases s.v u<;>rfl
def cp2(pm:Pm)(s:St)(u:Tmp)(rest:List Operand):Option (List D)→Option (List D×St)
 |some ys=>if pm.wr u then(Oe pm (s.set [u] (.cptr ys)) rest).map fun r=>(.cptr ys::r.1,r.2)else none
 |none=>none
theorem AGP(u:Tmp)(rest:List Operand)(xs:List D):cp1 pm s u rest (.box xs)=cp2 pm s u rest (FE xs):=by
 simp only [cp1];cases FE xs<;>rfl
theorem AGQ(u:Tmp)(rest:List Operand)(ys:List D)(hw:pm.wr u=true):cp2 pm s u rest (some ys)=(Oe pm (s.set [u] (.cptr ys)) rest).map fun r=>(.cptr ys::r.1,r.2):=by simp [cp2,hw]
def clN(E:Env)(pm:Pm)(s:St)(dst:Option Tmp)(args:Array Operand)(ts:Array TypeId):D→Option St
 | .clo f caps=>if args.size=ts.size then Ik E pm s dst f (args.toList.zip ts.toList) caps else none
 | .ocl false f caps=>if args.size=ts.size then Og E pm s dst f (args.toList.zip ts.toList) caps else none
 |_=>none
theorem A5B(u:Tmp)(args:Array Operand)(ts:Array TypeId):PV E pm s dst (.call ⟨.value (.tmp u),args,ts⟩) ty=clN E pm s dst args ts (s.v u):=by
 rw [uI];cases s.v u<;>first|rfl|(rename_i b _ _;cases b<;>rfl)
theorem AGR(args:Array Operand)(ts:Array TypeId)(f':FuncId)(caps:List D)(h:args.size=ts.size):clN E pm s dst args ts (.clo f' caps)=Ik E pm s dst f' (args.toList.zip ts.toList) caps:=by simp [clN,h]
def mf0(f:FuncId)(dst:Option Tmp):Option (List D×St)→Option St
 |some r=>some (r.2.putO dst (.clo f r.1))
 |none=>none
theorem AGS(g:FuncId)(xs:List D):mf0 g dst (some (xs,s))=some (s.putO dst (.clo g xs)):=nr rfl
def mfV(f:FuncId)(dst:Option Tmp):Option (List D×St)→Option St
 |some r=>some (r.2.putO dst (.ocl false f r.1))
 |none=>none
theorem AGT(g:FuncId)(xs:List D):mfV g dst (some (xs,s))=some (s.putO dst (.ocl false g xs)):=nr rfl
theorem yMf(g:FuncId)(captured:Array Operand):PV E pm s dst (.makeFunc (.func g) #[] captured) ty=if ty<3000000 then mf0 g dst (Oe pm s captured.toList)else mfV g dst (Xw pm s (ty-3000000) captured.toList):=by
 rw [eY];simp only [List.isEmpty_toArray,List.isEmpty_nil,if_true];by_cases h:ty<3000000
 ·rw [if_pos h,if_pos h]
  cases Oe pm s captured.toList<;>rfl
 ·rw [if_neg h,if_neg h]
  cases Xw pm s (ty-3000000) captured.toList<;>rfl
def cvp(l:List Operand):Option (List D×St)→Option (List D×St)
 |none=>none
 |some (_,s1)=>(Rj s1 l).map fun ds=>(ds,s1)
theorem cvE(m:Nat)(l:List Operand):Xw pm s m l=cvp l (Oe pm s (Ku m 0 l)):=by
 unfold Xw cvp;rcases Oe pm s (Ku m 0 l)with _|⟨ys,s1⟩<;>rfl
def cvq(s:St):Option (List D)→Option (List D×St)
 |some ds=>some (ds,s)
 |none=>none
theorem AGU(l:List Operand)(ys:List D):cvp l (some (ys,s))=cvq s (Rj s l):=by
 simp only [cvp];cases Rj s l<;>rfl
theorem AGV(ds:List D):cvq s (some ds)=some (ds,s):=nr rfl
theorem umN(m i:Nat):Ku m i []=[]:=nr rfl
theorem umC(m i:Nat)(x:Operand)(xs:List Operand):Ku m i (x::xs)=if m / 2 ^ i % 2=1 then Ku m (i+1) xs else x::Ku m (i+1) xs:=by
 rw [Ku,Nat.testBit_eq_decide_div_mod_eq];by_cases h:m / 2 ^ i % 2=1<;>simp [h]
def ce1(s:St)(u:Tmp)(r:Option (List D)):D→Option (List D)
 | .box _=>r.map (nD s [u]:: ·)
 | .cptr ys=>r.map (.cptr ys:: ·)
 |_=>none
theorem ceN:Rj s []=some []:=nr rfl
theorem ceT(u:Tmp)(rest:List Operand):Rj s (.tmp u::rest)=ce1 s u (Rj s rest) (s.v u):=by
 simp only [Rj]
 cases s.v u<;>rfl
theorem AGX(u:Tmp)(l xs:List D):ce1 s u (some l) (.box xs)=some (nD s [u]::l):=nr rfl
theorem AGY(u:Tmp)(l ys:List D):ce1 s u (some l) (.cptr ys)=some (.cptr ys::l):=nr rfl
def A5C(T:Tys)(pm:Pm)(s:St)(t:TypeId)(t0:Tmp):D→D→Option St
 | .box [_],.ocl false f xs=>if T.known t&& !T.isStruct t&&(T.size t==1)&&pm.rd t0&&pm.wr t0 then some (s.set [t0] (.ocl true f (xs.map (L6 s t0))))else none
 |_,_=>none
theorem AGZ(T:Tys)(t0 u:Tmp):WZ T pm s t (.tmp t0) (.tmp u)=A5C T pm s t t0 (s.v t0) (s.v u):=by
 show(match s.v t0,s.v u with
  | .box [_],.ocl false f xs=>if T.known t&& !T.isStruct t&&(T.size t==1)&&pm.rd t0&&pm.wr t0 then some (s.set [t0] (.ocl true f (xs.map (L6 s t0))))else none
  |_,_=>none)=_
 rfl
theorem AGa(T:Tys)(t0:Tmp)(x:D)(f:FuncId)(xs:List D)(hk:T.known t=true)(hs:T.isStruct t=false)(hz:T.size t=1)(hr:pm.rd t0=true)(hw:pm.wr t0=true):
  A5C T pm s t t0 (.box [x]) (.ocl false f xs)=some (s.set [t0] (.ocl true f (xs.map (L6 s t0)))):=by simp [A5C,hk,hs,hz,hr,hw]
theorem utV(t0 r n m:Nat):L6 s t0 (.vw [r] n m)=if r=t0 then(if n=s.k t0 then .undef else .vw [r] n m)else .vw [r] n m:=by
 unfold L6;by_cases h:r=t0<;>by_cases h2:n=s.k t0<;>simp [h,h2]
theorem utC(t0:Nat)(ys:List D):L6 s t0 (.cptr ys)= .cptr ys:=nr rfl
theorem ldO(T:Tys)(x:Operand)(f:FuncId)(xs:List D)(hk:T.known t=true)(hs:T.isStruct t=false):HY T pm s t x (.ocl true f xs)=some (.ocl false f xs):=by simp [HY,hk,hs]
def co2(E:Env)(pm:Pm)(s:St)(dst:Option Tmp)(f:FuncId)(as:List D)(ls:List (AJ×D)):Option (List D×List (AJ×D))→Option St
 |none=>none
 |some (cs,lc)=>
  if FY ((ls++lc).map (·.1))&&(ls++lc).all (fun l=>pm.wr (l.1.headD 0))&&(ls++lc).all (fun l=>jU l.2)then
   cl2 s dst (ls++lc) (E.call f (as++cs.map (LW f cs)) ((ls++lc).map (·.2)))
  else none
def co1(E:Env)(pm:Pm)(s:St)(dst:Option Tmp)(f:FuncId)(caps:List D):Option (List D×List (AJ×D))→Option St
 |none=>none
 |some (as,ls)=>co2 E pm s dst f as ls (EC pm s ls.length caps)
theorem coE(f:FuncId)(xs:List (Operand×TypeId))(caps:List D):Og E pm s dst f xs caps=co1 E pm s dst f caps (EP E true pm s 0 xs):=by
 unfold Og co1;rcases EP E true pm s 0 xs with _|⟨as,ls⟩
 ·rfl
 ·simp only;unfold co2;rcases EC pm s ls.length caps with _|⟨cs,lc⟩
  ·rfl
  ·simp only;split
   ·unfold cl2;rcases E.call f (as++cs.map (LW f cs)) ((ls++lc).map (·.2))with _|⟨r,o⟩<;>rfl
   ·rfl
theorem AGc(f:FuncId)(caps as:List D)(ls:List (AJ×D)):co1 E pm s dst f caps (some (as,ls))=co2 E pm s dst f as ls (EC pm s ls.length caps):=nr rfl
theorem AGd(f:FuncId)(as cs:List D)(ls lc:List (AJ×D))(h:(FY ((ls++lc).map (·.1))&&(ls++lc).all (fun l=>pm.wr (l.1.headD 0))&&(ls++lc).all (fun l=>jU l.2))=true):
  co2 E pm s dst f as ls (some (cs,lc))=cl2 s dst (ls++lc) (E.call f (as++cs.map (LW f cs)) ((ls++lc).map (·.2))):=by simp only [co2,h,if_true]
def oaJ(a:D)(l:List (AJ×D)):Option (List D×List (AJ×D))→Option (List D×List (AJ×D))
 |some r=>some (a::r.1,l++r.2)
 |none=>none
theorem AGe(a:D)(l:List (AJ×D))(r:List D)(m:List (AJ×D)):oaJ a l (some (r,m))=some (a::r,l++m):=nr rfl
def oa1(pm:Pm)(s:St)(j:Nat)(L:AJ)(rest:List D):Option D→Option (List D×List (AJ×D))
 |some c=>oaJ (.vw [G+j] 0 0) [(L,c)] (EC pm s (j+1) rest)
 |none=>none
theorem AGg(j:Nat)(L:AJ)(rest:List D)(c:D):oa1 pm s j L rest (some c)=oaJ (.vw [G+j] 0 0) [(L,c)] (EC pm s (j+1) rest):=nr rfl
theorem oaN(j:Nat):EC pm s j []=some ([],[]):=nr rfl
theorem oaV(j:Nat)(L:AJ)(n m:Nat)(rest:List D):EC pm s j (.vw L n m::rest)=oa1 pm s j L rest (s.look pm L n m):=by
 rw [EC]
 cases s.look pm L n m with
 |none=>rfl
 |some c=>simp only [oa1];rcases EC pm s (j+1) rest with _|⟨a,b⟩<;>rfl
theorem oaC(j:Nat)(ys rest:List D):EC pm s j (.cptr ys::rest)=oaJ (.cptr ys) [] (EC pm s j rest):=by
 rw [EC];rcases EC pm s j rest with _|⟨a,b⟩<;>rfl
theorem oaU(j:Nat)(rest:List D):EC pm s j (.undef::rest)=oaJ .undef [] (EC pm s j rest):=by
 rw [EC];rcases EC pm s j rest with _|⟨a,b⟩<;>rfl
theorem saU(f:FuncId)(cs:List D):LW f cs .undef= .ocl true f cs:=nr rfl
theorem saV(f:FuncId)(cs:List D)(L:AJ)(n m:Nat):LW f cs (.vw L n m)= .vw L n m:=nr rfl
theorem saC(f:FuncId)(cs ys:List D):LW f cs (.cptr ys)= .cptr ys:=nr rfl
theorem AGh(args:Array Operand)(ts:Array TypeId)(f':FuncId)(caps:List D)(h:args.size=ts.size):clN E pm s dst args ts (.ocl false f' caps)=Og E pm s dst f' (args.toList.zip ts.toList) caps:=by simp [clN,h]
def bn1(dflt:Nat):Option D→Option Nat
 |some (.int _ n)=>if 0≤n then some n.toNat else none
 |_=>none
theorem bnN(n:Nat):TY T s n none=some n:=nr rfl
theorem bnS(n:Nat)(x:Operand):TY T s n (some x)=bn1 n (ev T s 0 x):=by
 simp only [TY];rcases ev T s 0 x with _|d
 ·rfl
 ·cases d<;>rfl
theorem AGj(n:Nat)(k:IntKind)(i:Int)(h:0≤i):bn1 n (some (.int k i))=some i.toNat:=by simp [bn1,h]
def sl0(T:Tys)(pm:Pm)(s:St)(x:Operand)(d:D)(lo hi mx:Option Operand):Ty→Option (D×St)
 | .slice e'=>match EU pm s x d with
  |none=>none
  |some (e,xs,o)=>
   match TY T s 0 lo,TY T s (T.len e xs) hi with
   |some l,some h=>
    if e'=e∧T.known e=true∧l≤h∧h≤T.len e xs then
     if mx.isSome then
      match TY T s 0 mx with
      |some q=>if l=h∧h=q∧hi.isSome=true then some (.own e [],s)else none
      |none=>none
     else match o with
      |none=>some (.sl e ((xs.take (h*T.size e)).drop (l*T.size e)),s)
      |some (L,va,vb)=>
       if pm.wr (L.headD 0)then
        match FE xs with
        |some ys=>some (.sl e ((ys.take (h*T.size e)).drop (l*T.size e)),s.set L (.sl e ys))
        |none=>none
       else Xr L va vb e l h s
    else none
   |_,_=>none
 | .string=>match d with
  | .str b=>match TY T s 0 lo,TY T s b.size hi with
   |some l,some h=>if l≤h∧h≤b.size∧mx.isNone then some (.str (b.extract l h),s)else none
   |_,_=>none
  |_=>none
 |_=>none
theorem slT(x:Operand)(d:D)(lo hi mx:Option Operand):KH T pm s t x d lo hi mx=sl0 T pm s x d lo hi mx (T.ty t):=by
 unfold KH sl0
 cases T.ty t<;>first|rfl|(cases d<;>rfl)
def sl1(T:Tys)(pm:Pm)(s:St)(e:TypeId)(xs:List D)(o:Option (AJ×Nat×Nat)):Option Nat→Option Nat→Option (D×St)
 |some l,some h=>
  if l≤h∧h≤xs.length then
   match o with
   |none=>some (.sl e ((xs.take h).drop l),s)
   |some (L,va,vb)=>
    if pm.wr (L.headD 0)then
     match FE xs with
     |some ys=>some (.sl e ((ys.take h).drop l),s.set L (.sl e ys))
     |none=>none
    else Xr L va vb e l h s
  else none
 |_,_=>none
def sl2(T:Tys)(pm:Pm)(s:St)(e':TypeId)(lo hi:Option Operand):Option (TypeId×List D×Option (AJ×Nat×Nat))→Option (D×St)
 |some (e,xs,o)=>if e'=e∧T.known e=true then sl1 T pm s e xs o (TY T s 0 lo) (TY T s xs.length hi)else none
 |none=>none
theorem AGk(x:Operand)(d:D)(lo hi:Option Operand)(e:TypeId)(hz:T.isStruct e=false):sl0 T pm s x d lo hi none (.slice e)=sl2 T pm s e lo hi (EU pm s x d):=by
 have h1:=QP hz;simp only [sl0,sl2,Option.isSome_none,O6,if_false];rcases EU pm s x d with _|⟨e',xs,o⟩
 ·rfl
 ·simp only;by_cases he:e=e'
  ·subst he;simp only [true_and,h1,M9,Tys.len,if_true]
   cases TY T s 0 lo<;>cases TY T s xs.length hi<;>simp only [sl1]<;>(by_cases hk:T.known e=true<;>simp [hk])
  ·simp only [he,false_and,if_false]
   cases TY T s 0 lo<;>cases TY T s (T.len e' xs) hi<;>rfl
theorem AGl(e:TypeId)(lo hi:Option Operand)(xs:List D)(o:Option (AJ×Nat×Nat))(hk:T.known e=true):sl2 T pm s e lo hi (some (e,xs,o))=sl1 T pm s e xs o (TY T s 0 lo) (TY T s xs.length hi):=by simp [sl2,hk]
theorem AGm(e:TypeId)(xs:List D)(l h:Nat)(h1:l≤h)(h2:h≤xs.length):sl1 T pm s e xs none (some l) (some h)=some (.sl e ((xs.take h).drop l),s):=by simp [sl1,h1,h2]
def sl3(pm:Pm)(s:St)(e:TypeId)(L:AJ)(a b l h:Nat)(o:Option (List D)):Option (D×St):=
 if pm.wr (L.headD 0)then
  match o with
  |some ys=>some (.sl e ((ys.take h).drop l),s.set L (.sl e ys))
  |none=>none
 else Xr L a b e l h s
theorem AGo(e:TypeId)(xs:List D)(L:AJ)(a b l h:Nat)(h1:l≤h)(h2:h≤xs.length):sl1 T pm s e xs (some (L,a,b)) (some l) (some h)=sl3 pm s e L a b l h (FE xs):=by
 simp only [sl1,h1,h2,and_self,if_true];rfl
theorem AGp(e:TypeId)(L:AJ)(a b l h:Nat)(o:Option (List D))(hw:pm.wr (L.headD 0)=false):sl3 pm s e L a b l h o=some (.vs e L a b l (h-l),s):=by simp only [sl3];rw [if_neg (by rw [hw];decide)];rfl
theorem AA8(r:Nat):pm.see.rd r=pm.rd r:=nr rfl
theorem AA9(r:Nat):pm.see.wr r=false:=nr rfl
theorem AGq(u:Tmp):wrO pm (.tmp u)=pm.wr u:=nr rfl
def ct2(e:TypeId)(xs:List D)(s1:St):Option Nat→Option (D×St)
 |some h=>if h≤xs.length then some (.own e (xs.take h),s1)else none
 |none=>none
def ct1(T:Tys)(s:St)(e':TypeId)(hi:Option Operand):Option (D×St)→Option (D×St)
 |some (.own e xs,s1)=>
  match TY T s (T.len e xs) hi with
  |some h=>if e'=e∧T.known e=true∧h≤T.len e xs then some (.own e (xs.take (h*T.size e)),s1)else none
  |none=>none
 |_=>none
def ct0(T:Tys)(pm:Pm)(s:St)(t:TypeId)(x:Operand)(hi:Option Operand):Ty→Option (D×St)
 | .slice e=>ct1 T s e hi (if wrO pm x then take T pm s t x else none)
 |_=>none
theorem ctT(x:Operand)(hi:Option Operand):Rh T pm s t x hi=ct0 T pm s t x hi (T.ty t):=by
 unfold Rh ct0 ct1
 cases T.ty t<;>rfl
theorem AGr(x:Operand)(hi:Option Operand)(e:TypeId)(hw:wrO pm x=true):ct0 T pm s t x hi (.slice e)=ct1 T s e hi (take T pm s t x):=by
 unfold ct0;rw [if_pos hw]
theorem AGs(hi:Option Operand)(e:TypeId)(xs:List D)(s1:St)(hk:T.known e=true)(hz:T.isStruct e=false):ct1 T s e hi (some (.own e xs,s1))=ct2 e xs s1 (TY T s xs.length hi):=by
 have h1:=QP hz;simp only [ct1,hk,true_and,h1,M9,Tys.len,if_true]
 cases TY T s xs.length hi<;>rfl
theorem AGt(e:TypeId)(xs:List D)(s1:St)(h:Nat)(hle:h≤xs.length):ct2 e xs s1 (some h)=some (.own e (xs.take h),s1):=by
 show(if h≤xs.length then some (D.own e (xs.take h),s1)else none)=_
 rw [if_pos hle]
def ca0(f:FuncId):Option (List D×List (AJ×D))→Option (D×List (AJ×D))
 |some r=>some (.clo f r.1,r.2)
 |none=>none
theorem AGv(f:FuncId)(cs:List D)(ls:List (AJ×D)):ca0 f (some (cs,ls))=some (.clo f cs,ls):=nr rfl
def ca2(pm:Pm)(s:St)(L:AJ)(c:D)(rest:List D):Option D→Option (List D×List (AJ×D))
 |some c'=>oaJ c' [(L,c)] (Od pm s rest)
 |none=>none
theorem AGw(L:AJ)(c:D)(rest:List D)(c':D):ca2 pm s L c rest (some c')=oaJ c' [(L,c)] (Od pm s rest):=nr rfl
def ca1(pm:Pm)(s:St)(L:AJ)(rest:List D):Option D→Option (List D×List (AJ×D))
 |some c=>ca2 pm s L c rest (ET c)
 |none=>none
theorem AGy(L:AJ)(rest:List D)(c:D):ca1 pm s L rest (some c)=ca2 pm s L c rest (ET c):=nr rfl
theorem caN:Od pm s []=some ([],[]):=nr rfl
theorem caV(L:AJ)(n m:Nat)(rest:List D):Od pm s (.vw L n m::rest)=ca1 pm s L rest (s.look pm L n m):=by
 rw [Od]
 cases s.look pm L n m with
 |none=>rfl
 |some c=>
  simp only [ca1,ca2]
  cases ET c with
  |none=>rfl
  |some c'=>simp only [Cs];rcases Od pm s rest with _|⟨a,b⟩<;>rfl
theorem caC(ys rest:List D):Od pm s (.cptr ys::rest)=oaJ (.cptr ys) [] (Od pm s rest):=by
 rw [Od];rcases Od pm s rest with _|⟨a,b⟩<;>rfl
theorem AAB(T:Tys)(L0:AJ)(j:Nat)(f:FuncId)(caps:List D):Ng T false pm s j L0 (.ocl false f caps)=ca0 f (Od pm s caps):=by
 show(if(false||false)=true then none else(Od pm s caps).map fun r=>(D.clo f r.1,r.2))=_
 rw [if_neg (by decide)]
 unfold ca0;rcases Od pm s caps with _|⟨a,b⟩<;>rfl
def va1(T:Tys)(e:TypeId)(L:AJ)(lo len:Nat):Option D→Option (D×List (AJ×D))
 |some (.own e' xs)=>
  if e'=e∧T.known e=true∧(lo+len)*T.size e≤xs.length then
   (FE xs).map fun ys=>(.sl e ((ys.drop (lo*T.size e)).take (len*T.size e)),[(L,.own e' xs)])
  else none
 |_=>none
theorem AGz(e:TypeId)(L L0:AJ)(n m lo len j:Nat):Ng T false pm s j L0 (.vs e L n m lo len)=va1 T e L lo len (s.look pm L n m):=by
 show bD T pm s e L n m lo len=_
 unfold bD va1;rcases s.look pm L n m with _|d
 ·rfl
 ·cases d<;>rfl
theorem A5E(x:Tmp):PV E pm s dst (.call ⟨.builtin .clear, #[.tmp x], #[t]⟩) ty=eX dst (OI E.T pm s t (.tmp x) (s.v x)):=QO dst _
def A0x(T:Tys)(pm:Pm)(s:St)(t:TypeId):Option (TypeId×AJ×List D×Nat×Nat)→Option (D×St)
 |some (e,L,xs,lo,len)=>
  if T.isSl t e&&T.known e&&(T.size e==1)&& !T.isStruct e&&Dn (T.zero1 e)&&pm.wr (L.headD 0)then
   some (.tup [],(s.set L (.own e (Cu xs lo (List.replicate len (T.zero1 e))))).bump (L.headD 0))
  else none
 |none=>none
theorem AH0(x:Operand)(a:D):OI T pm s t x a=A0x T pm s t (Zq pm s x a):=by
 unfold OI A0x;rcases Zq pm s x a with _|⟨_,_,_,_,_⟩<;>rfl
theorem AH1(e:TypeId)(L:AJ)(xs:List D)(lo len:Nat)(h1:T.isSl t e=true)(h2:T.known e=true)(h3:T.isStruct e=false)(h5:Dn (T.zero1 e)=true)(h7:pm.wr (L.headD 0)=true):
  A0x T pm s t (some (e,L,xs,lo,len))=some (.tup [],(s.set L (.own e (Cu xs lo (List.replicate len (T.zero1 e))))).bump (L.headD 0)):=by
 have h8:=QP h3;unfold A0x;dsimp only;rw [if_pos (by rw [h1,h2,h3,h5,h7,h8];simp)]
def A5F(e:TypeId):Ty→Bool
 | .slice e'=>e'==e
 |_=>false
theorem AH2(e:TypeId):T.isSl t e=A5F e (T.ty t):=by unfold Tys.isSl A5F;cases T.ty t<;>rfl
theorem AH3(e e':TypeId):A5F e (.slice e')=(e'==e):=nr rfl
def dv1(e:TypeId)(L:AJ)(lo len:Nat):Option D→Option (TypeId×AJ×List D×Nat×Nat)
 |some (.own e' xs)=>if e'=e∧lo+len≤xs.length then some (e,L,xs,lo,len)else none
 |_=>none
theorem dvS(x:Operand)(e:TypeId)(L:AJ)(n m lo len:Nat):Zq pm s x (.vs e L n m lo len)=dv1 e L lo len (s.look pm L n m):=by
 show(match s.look pm L n m with|some (.own e' xs)=>if e'=e∧lo+len≤xs.length then some (e,L,xs,lo,len)else none|_=>none)=_
 rcases s.look pm L n m with _|d
 ·rfl
 ·cases d<;>rfl
theorem AH5(e:TypeId)(L:AJ)(lo len:Nat)(xs:List D)(h:lo+len≤xs.length):dv1 e L lo len (some (.own e xs))=some (e,L,xs,lo,len):=by simp [dv1,h]
theorem AH6(x:Tmp)(e:TypeId)(L:AJ)(n m lo len:Nat):DF s dst (.tmp x) (.vs e L n m lo len)=s.putO dst (.vs e L n m lo len):=nr rfl
theorem AAC(x:Tmp)(e:TypeId)(L:AJ)(n m lo len:Nat):fA pm x (.vs e L n m lo len)=true:=by simp [fA,D.hasObj]
end
theorem oz{P:Program}{T:Tys}{f:FuncId}{e:TypeId}{r:D}{outs:List D}(hk:T.known e=true)(h: ∀A c,Good P T f [.konst (.slice A 0 c)] [] r outs):Good P T f [.sl e []] [] r outs:=by
 refine⟨(h none 0).1,fun vs gh w S FL hsz hA hL hL0 hLd hlt=> ?_⟩
 obtain⟨v,hv,hW⟩:=hA 0 _ rfl
 obtain⟨A,c,rfl⟩: ∃A c,v= .slice A 0 c:=by
  cases hW with
  |sl us hE hn hc hm hx hw=>
   rename_i A n c
   have hp:=kX hk
   have:n=0:=by
    simp only [Re]at hn;rcases Nat.mul_eq_zero.1 hn.symm with h0|h0
    ·exact h0
    ·omega
   subst this
   exact⟨_,_,rfl⟩
 refine(h A c).2 vs gh w S FL hsz (fun i d hi=> ?_) hL hL0 hLd hlt
 cases i with
 |zero=>simp at hi;subst hi;exact⟨_,hv,.konst (fun _ h=>h)⟩
 |succ i=>simp at hi
end Dv
namespace Dv
open Go
set_option maxRecDepth 10000
set_option linter.defProp false
theorem geq:G=100000:=nr rfl
def AR:=A7 @A5E (A7 @AEP (A7 @ADr (A7 @ADs (A7 @A3v (A7 @AG6 (A7 @yMf (A7 @A5B (A7 @ADy (A7 @A7e (A7 @ADw (A7 @A42 (A7 @A7f (A7 @A7i (A7 @A43 (A7 @A7c (A7 @A7d (A7 @ADv (A7 @A44 (A7 @A45 (A7 @A46 (A7 @AE0 (A7 @AE1 (A7 @AE2 (A7 @A7j (A7 @A7k (A7 @oZ (A7 @ko (A7 @A8D (A7 @A0j (A7 @xX (A7 @A4F (A7 @A8E (A7 @yUn (A7 @A4G (A7 @AEO (A7 @xY (A7 @A4H (A7 @A0k (A7 @A4I (A7 @A8H (A7 @xZ (A7 @A8J (A7 @xO (A7 @uH (A7 @uF (A7 @A54 (A7 @yBs (@eZ))))))))))))))))))))))))))))))))))))))))))))))))
def Bd:=A7 @AEW (A7 @AEX (A7 @AEU (A7 @AEe (A7 @AFs (A7 @A4V (A7 @faE (A7 @foN (A7 @AFy (A7 @AFz (A7 @A9w (A7 @A55 (A7 @AG2 (A7 @AG3 (A7 (A7 @fnO @fnA) (A7 @spN (A7 @spC (A7 @AGT (A7 @cvE (A7 @AGU (A7 @AGV (A7 @umN (A7 @umC (A7 @ceN (A7 @ceT (A7 @AGX (A7 @AGY (A7 @AGZ (A7 @AGa (A7 @utV (A7 @utC (A7 @ldO (A7 @coE (A7 @AGc (A7 @AGd (A7 @AGe (A7 @AGg (A7 @oaN (A7 @oaV (A7 @oaC (A7 @oaU (A7 @saU (A7 @saV (A7 @saC (A7 @AGh (A7 @AEL (A7 @AEM (A7 @AEN (A7 @AH0 (A7 @AH1 (A7 @A0o (A7 @A4U (A7 @AEz (A7 @AF0 (A7 @A8S (A7 @A4L (A7 @A8T (A7 @A8U (A7 @A8V (A7 @A8W (A7 @A4M (A7 @A8X (A7 @A8Y (A7 @A8Z (A7 @A8a (A7 @AGp (A7 @AEH (A7 @AEI (A7 @AA8 (A7 @AA9 (A7 @AGq (A7 @ctT (A7 @AGr (A7 @AGs (A7 @AGt (A7 (A7 @AGz (A7 @AAB (A7 @AGv (A7 @AGy (A7 @AGw (A7 @caN (A7 @caV @caC))))))) (A7 @A9C (A7 @A4a (A7 @AFK (A7 @A9D (A7 @A4b (A7 @axK (A7 @A9E (A7 @A9F (A7 @AFL (A7 @A9G (A7 @AH2 (A7 @AH3 (A7 @dvS (A7 @AH5 (A7 @AH6 (A7 @AAC (A7 @AE7 (A7 @AE8 (A7 @AE9 (A7 @A7z (A7 @A80 (A7 @A81 (A7 @A9f (A7 @A9g (A7 @A4s (A7 @AFj (A7 @A9h (A7 @A9i (A7 @A9j (A7 @AFk (A7 @bkK (A7 @A9y (A7 (A7 @A59 @AG7) (A7 @A9z (A7 @A7R (A7 @ADt (A7 @ADu (A7 @ndK (A7 @AEQ (A7 @A8F (A7 @apK (A7 @A99 (A7 @AFC (A7 @AFD (A7 @A9R (A7 @A4i (A7 @dl2 (A7 @dl1 (A7 @AGJ (A7 @AA3 (A7 @AGH (A7 @AGI (A7 @AG8 (A7 @AG9 (A7 @AGB (A7 @AA0 (A7 @AGC (A7 @AGD (A7 @AGE (A7 @csS (A7 @rg4 (A7 @rg5 (A7 @AA1 (A7 @AGF (A7 @AA2 (A7 @AGG (A7 @noA (A7 @AGK (A7 @AGL (A7 @A5A (A7 @AGM (A7 @AA4 (A7 @AA5 (A7 @AGP (A7 @AGQ (A7 @AGR (A7 @AGS (A7 @bnN (A7 @bnS (A7 @AGj (A7 @slT (A7 @AGk (A7 @AGl (A7 @AGm (A7 @AGo (A7 @A9k (A7 @bkT (A7 @bkF (A7 @bkE (A7 @bkL (A7 @A9l (A7 @A4t (A7 @ipC (A7 @ipN (A7 @ipE (A7 @ieC (A7 @ieN (A7 @fiA (A7 @fiB (A7 @A4p (A7 @A4q (A7 @AFe (A7 @AF1 (A7 @AF2 (A7 @AF3 (A7 @AF4 (A7 @bxA (A7 @AF6 (A7 @hdC (A7 @AFH (A7 @AFI (A7 @AFJ (A7 @mvT (A7 @AFn (A7 @A4v (A7 @A0q (A7 @A9n (A7 @A4w (A7 @A4x (A7 @A9o (A7 @A0r (A7 @A4y (A7 @xe (A7 @A4z (A7 @A0s (A7 @A9p (A7 @A0t (A7 @AFo (A7 @A50 (A7 @A0u (A7 @A9q (A7 @AFp (A7 @AFq (A7 @AFr (A7 @AFt (A7 @AFu (A7 @AFv (A7 @A51 (A7 @pmR (A7 @pmW (A7 @ADx (A7 @A7g (A7 @ADz (A7 @ADn (A7 @ADo (A7 @ADp (A7 @AG0 (A7 @AFx (A7 @AFw (A7 (A7 @AG4 @yMk) (A7 (A7 @A9x @AG5) (A7 @A9s (A7 @A9t (A7 @A3w (A7 @A3x (A7 @A0e (A7 @A3y (A7 @A7l (A7 @A47 (A7 @AE3 (A7 @A0i (A7 @A7m (A7 @A7n (A7 @AE4 (A7 @A48 (A7 @A7o (A7 @A7p (A7 @A7q (A7 @A49 (A7 @A7r (A7 @A4A (A7 @A7s (A7 @A7t (A7 @A4B (A7 @A4C (A7 @A7u (A7 @A4D (A7 @AE5 (A7 @A7v (A7 @A7w (A7 @A7x (A7 @A7y (A7 @A82 (A7 @pkB (A7 @pkT (A7 @pkF (A7 @A7O (A7 @A7P (A7 @A7Q (A7 @AER (A7 @AES (A7 @AEV (A7 @A83 (A7 @A84 (A7 @A85 (A7 @A86 (A7 @A87 (A7 @A88 (A7 @AEA (A7 @A89 (A7 @A8A (A7 @AEB (A7 @AEC (A7 @AED (A7 @AEE (A7 @AEF (A7 @AEG (A7 @A8B (A7 @A8C (A7 @boI (A7 @boB (A7 @ldC (A7 @AEY (A7 @ldP (A7 @ldB (A7 @AEZ (A7 @ldV (A7 @A8K (A7 @A8M (A7 @A4J (A7 @A4K (A7 @A8N (A7 @AEa (A7 @A8O (A7 @AEb (A7 @A8Q (A7 @A8R (A7 @lnT (A7 @AEf (A7 @A8b (A7 @ixT (A7 @AEh (A7 @AEj (A7 @A8c (A7 @tkC (A7 @A8h (A7 @A4Q (A7 @AEo (A7 @A8i (A7 @A8j (A7 @A8k (A7 @A4R (A7 @AEp (A7 @A8l (A7 @A8d (A7 @AEk (A7 @A8e (A7 @AEl (A7 @AEm (A7 @AEn (A7 @A4P (A7 @A0n (A7 @A4S (A7 @qp (A7 @hoI (A7 @hoB (A7 @A8m (A7 @A8n (A7 @A8o (A7 @AEq (A7 @A8p (A7 @A8q (A7 @A8r (A7 @AEs (A7 @A8s (A7 @AEt (A7 @AEu (A7 @AEv (A7 @AEw (A7 @A8t (A7 @A8u (A7 @A8v (A7 @A8w (A7 @A8x (A7 @A8y (A7 @A8z (A7 @A90 (A7 @A4T (A7 @AF7 (A7 @A91 (A7 @A92 (A7 @A93 (A7 @A94 (A7 @A95 (A7 @A4W (A7 @AF8 (A7 @A96 (A7 @ceS (A7 (A7 @A4X @AF9) (A7 @AFA (A7 @AFF (A7 @AFG (A7 @A4Y (A7 @A4Z (A7 @A9A (A7 @A9B (A7 @arC (A7 @arF (A7 @aCS (A7 @A9H (A7 @A4c (A7 @AFM (A7 @A9I (A7 @A4d (A7 @atK (A7 @A9K (A7 @A9L (A7 @AFQ (A7 @A4e (A7 @A9M (A7 @A9N (A7 @AFN (A7 @AFP (A7 @AFR (A7 @AFS (A7 @A4f (A7 @A9O (A7 @A4g (A7 @A9P (A7 @A4h (A7 @AFT (A7 @A9Q (A7 @AFU (A7 @cdB (A7 @AFV (A7 @AFW (A7 @AFX (A7 @cdL (A7 @AFY (A7 @AFZ (A7 @A9S (A7 @A4k (A7 @A9T (A7 @A9U (A7 @A9V (A7 @A4l (A7 @A0p (A7 @A9W (A7 @A4m (A7 @AFa (A7 @A9X (A7 @A4n (A7 @AFb (A7 @A1n (A7 @A9Z (A7 @A9a (A7 @A9b (A7 @A4o (A7 @AFc (A7 @qw (A7 @AFd (A7 @fiD (A7 @fi0 (A7 @re0 (A7 @re1 (A7 @re2 (A7 @AFf (A7 @A9c (A7 @A9d (A7 @AFg (A7 @A4r (A7 @AFh (A7 @AFi (A7 @A9e (A7 @A9m (A7 @A4u (A7 @AFm (A7 @A7S (A7 @A7V (A7 @A3z (A7 @A7Y (A7 @A7T (A7 @A7W (A7 @A40 (A7 @A7Z (A7 @A7U (A7 @A7X (A7 @A41 (A7 @A7a (A7 @uJ (A7 @uK (A7 @A7b (A7 @uL (A7 @xU (A7 @A0f (A7 @A0g (A7 @A0h (A7 @geq (A7 @Int.toNat_natCast (A7 @Int.toNat_zero (A7 @Int.natCast_nonneg (A7 @Nat.zero_le (A7 @Int.le_refl (A7 @Nat.le_refl (A7 @Bool.and_true (A7 @Bool.true_and (A7 @Bool.and_false (A7 @Bool.false_and (A7 @Bool.or_false (A7 @Bool.false_or (A7 @Bool.or_true (A7 @Bool.true_or (A7 @Bool.not_true (A7 @Bool.not_false (A7 @Bool.false_eq_true (A7 @decide_true (A7 @decide_false (A7 @and_self (A7 @and_true (@true_and)))))))))))))))))))))))))))))))))))))))))))))))))))))))))))))))))))))))))))))))))))))))))))))))))))))))))))))))))))))))))))))))))))))))))))))))))))))))))))))))))))))))))))))))))))))))))))))))))))))))))))))))))))))))))))))))))))))))))))))))))))))))))))))))))))))))))))))))))))))))))))))))))))))))))))))))))))))))))))))))))))))))))))))))))))))))))))))))))))))))))))))))))))))))))))))))))))))))))))))))))))))))))))))))))))))))))))))))))))))))))))))))))))))))))))))))))))))))))))))))))))))
end Dv
