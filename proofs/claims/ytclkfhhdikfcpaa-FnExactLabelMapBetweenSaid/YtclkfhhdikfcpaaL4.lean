/- Value semantics for Go code, part 4: arguments of laws, slim code and rules. Conditions: none beyond those in each lemma. -/
import Derived.Test.YtclkfhhdikfcpaaL3
import Derived.WalkKit
import Derived.ProofKit
import Derived.OpenShut
import Derived.ShutString
import Derived.ChangeOld
import Derived.Below
import Derived.Carry
import Derived.IntWalk
set_option linter.unusedSimpArgs false
set_option linter.unusedVariables false
namespace Dv
open Go
inductive Shp(T:Tys):TypeId→List D→Prop
 |int {t k n} (ht:T.ty t= .int k) (hw:(Lit.int k n).wf=true):Shp T t [.int k n]
 |bool {t b} (ht:T.ty t= .bool):Shp T t [.bool b]
 |string {t s} (ht:T.ty t= .string) (hs:s.size≤maxLen):Shp T t [.str s]
 |slice {t e} {xss:List (List D)} (ht:T.ty t= .slice e) (hx: ∀xs,xs∈xss→Shp T e xs) (hl:xss.length≤maxLen):Shp T t [.sl e xss.flatten]
 |struct {t fs} {ds:List D} (ht:T.ty t= .struct fs) (hl:ds.length=fs.length) (hx: ∀(i:Nat) (f:TypeId) (d:D),fs[i]? =some f→ds[i]? =some d→Shp T f [d]):Shp T t ds
def Oz(T:Tys):Nat→TypeId→Bool
 |0,_=>false
 |n+1,t=>match T.ty t with
  | .int _=>true
  | .bool=>true
  | .string=>true
  | .slice e=>T.known e&&Oz T n e
  | .struct fs=>(T.nest t).isNone&& !fs.isEmpty&&fs.all (Oz T n)
  |_=>false
theorem Shp.length{T:Tys}{t:TypeId}{ds:List D}(h:Shp T t ds):ds.length=T.size t:=by
 cases h with
 |int ht=>simp [Tys.size,ht,Ty.size]
 |bool ht=>simp [Tys.size,ht,Ty.size]
 |string ht=>simp [Tys.size,ht,Ty.size]
 |slice ht=>simp [Tys.size,ht,Ty.size]
 |struct ht hl=>simp [Tys.size,ht,Ty.size,hl]
theorem Xn{α:Type}{n:Nat}(hn:0<n): ∀(xss:List (List α)),(∀xs∈xss,xs.length=n)→ ∀k:Nat,xss.flatten[k]? =(xss[k / n]?).bind fun xs=>xs[k % n]? :=by
 intro xss
 induction xss with
 |nil=>intro _ k;simp
 |cons xs xss ih=>
  intro h k;have hx:=h xs (Jm);rw [List.flatten_cons];rcases Nat.lt_or_ge k n with hk|hk
  ·rw [Ma (by omega),Nat.div_eq_of_lt hk,Nat.mod_eq_of_lt hk];rfl
  ·rw [O8 (by omega),ih (fun ys hy=>h ys (Il _ hy)),hx]
   have h1:k / n=(k-n) / n+1:=by
    rw [Nat.div_eq_sub_div hn hk]
   have h2:k % n=(k-n) % n:=by rw [Nat.mod_eq_sub_mod hk]
   rw [h1,h2];rfl
theorem Sg{α:Type}{n:Nat}: ∀(xss:List (List α)),(∀xs∈xss,xs.length=n)→xss.flatten.length=xss.length*n:=by
 intro xss
 induction xss with
 |nil=>intro _;simp
 |cons xs xss ih=>
  intro h;rw [List.flatten_cons,Jz,ih (fun ys hy=>h ys (Il _ hy)),h xs (Jm),Jn,Nat.add_mul];omega
abbrev aJ(w:World):Nat→Prop:=fun k=>k<w.heap.size
section
variable {P:Program} {T:Tys} {H:Type} {enc:TypeId×Value→H} {w:World} {spare:Nat→Bool} {Gz:Bool}
theorem CB.cells(h:CB P T){t:TypeId}(hk:T.known t=true):P.cellsOf t=T.size t:=by
 obtain⟨i,h1,h2,_⟩:=h.info hk;simp [Program.cellsOf,h1,h2]
theorem ZP{n:Nat}{t:TypeId}(h:Oz T n t=true):T.known t=true:=by
 cases n with
 |zero=>cases h
 |succ n=>
  unfold Oz at h;unfold Tys.known
  cases ht:T.ty t with
  |struct fs=>
   rw [ht]at h
   cases fs with
   |nil=>simp at h
   |cons=>rfl
  |other=>rw [ht]at h;cases h
  |map=>rw [ht]at h;cases h
  |_=>rfl
theorem Xo{t:TypeId}(hk:T.known t=true):0<T.size t:=by
 unfold Tys.known at hk;unfold Tys.size
 cases ht:T.ty t with
 |struct fs=>
  rw [ht]at hk
  cases fs with
  |nil=>cases hk
  |cons=>simp [Ty.size]
 |_=>simp [Ty.size]
theorem ZQ{base:Nat}{a:Addr}{n:Nat}{cs:List Value}(h:w.cells? base a n=some cs):cs.length=n∧ ∀i,i<n→w.cell? (a.add i)=cs[i]? :=by
 unfold World.cells? at h
 split at h
 ·exact⟨by simpa using mapM_some_length h,fun i hi=>by have:=mapM_some_get h i i (by simp [hi]);simpa using this⟩
 ·cases h
theorem kg{ad:Addr}{v:Value}(h:w.cell? ad=some v):ad.block<w.heap.size:=by
 rcases Nat.lt_or_ge ad.block w.heap.size with hl|hl
 ·exact hl
 ·have h1:=Tj hl;simp [World.cell?,h1]at h
theorem gH(hT:CB P T): ∀(fuel:Nat) (n:Nat) (t:TypeId) (cs:List Value) (x:DataW H×List MemPlace),Oz T n t=true→DataW.trod enc P w 0 spare Gz fuel t cs=some x→
  ∃ds,Shp T t ds∧cs.length=ds.length∧ ∀(i:Nat) (d:D),ds[i]? =some d→ ∃v,cs[i]? =some v∧W T (aJ w) w V0 Hr d v (fun _=>False):=by
 have hE:Em (fun _:Nat=>False):=fun _ h=>h
 have one: ∀(d0:D) (v0:Value),W T (aJ w) w V0 Hr d0 v0 (fun _=>False)→ ∀(i:Nat) (d:D),[d0][i]? =some d→ ∃v,[v0][i]? =some v∧W T (aJ w) w V0 Hr d v (fun _=>False):=by
  intro d0 v0 h i d hi
  cases i with
  |zero=>simp at hi;subst hi;exact⟨v0,rfl,h⟩
  |succ i=>simp at hi
 intro fuel
 induction fuel with
 |zero=>intro n t cs x _ h;simp [DataW.trod]at h
 |succ fuel ih=>
  intro n t cs x hd h;have hk:=ZP hd;have h0:=(hT t).1;unfold Ff at h0
  cases n with
  |zero=>cases hd
  |succ n=>
   unfold Oz at hd
   cases ht:T.ty t<;>rw [ht]at h0 hd<;>simp only at h0 hd
   case int k=>
    obtain⟨m,rfl,_,hw⟩:=DataW.trod_int h0.1 h
    exact⟨[.int k m],.int ht hw,rfl,one _ _ (.int hE)⟩
   case bool=>
    obtain⟨b,rfl,_⟩:=DataW.trod_bool h0.1 h
    exact⟨[.bool b],.bool ht,rfl,one _ _ (.bool hE)⟩
   case string=>
    obtain⟨s,rfl,_,hs⟩:=DataW.trod_string h0.1 h
    exact⟨[.str s],.string ht hs,rfl,one _ _ (.str hE)⟩
   case slice e=>
    simp only [Hm]at hd;have hc:=hT.cells hd.1;have hpos:=Xo hd.1;rcases DataW.trod_slice h0.1 h with⟨rfl,_⟩|⟨a,len,cap,elems,rest,m,hm,rfl,_,_,hl,hcap,hlen,hel,_,_⟩
    ·exact⟨[.sl e ([]:List (List D)).flatten],.slice ht (by simp) (by simp [maxLen]),rfl,one _ _ (.sl (fun _=>undef) hE (by simp) (I7 _) (by simp [maxLen]) (by simp) (by simp))⟩
    ·injection hm with hm
     subst hm
     have hex: ∀i,i<len→ ∃ds,Shp T e ds∧ ∀(j:Nat) (d:D),ds[j]? =some d→ ∃v,w.cell? (a.add (i*T.size e+j))=some v∧W T (aJ w) w V0 Hr d v (fun _=>False):=by
      intro i hi;have h1:=hel i hi;rw [IC (by omega),H5]at h1
      obtain⟨cs',h2,h3⟩:=h1;obtain⟨ds,q1,q2,q3⟩:=ih n e cs' _ hd.2 h3
      refine⟨ds,q1,fun j d hj=> ?_⟩
      obtain⟨v,hv,hW⟩:=q3 j d hj;obtain⟨c1,c2⟩:=ZQ h2;rw [hc]at c1 c2;have hj':j<T.size e:=by rw [←c1];exact(Ed.1 hv).1
      have h4:=c2 j hj';rw [JM]at h4
      exact⟨v,by rw [h4,hv],hW⟩
     let ch:Nat→List D:=fun i=>if h:i<len then(hex i h).choose else []
     have hch: ∀i,i<len→Shp T e (ch i)∧ ∀(j:Nat) (d:D),(ch i)[j]? =some d→ ∃v,w.cell? (a.add (i*T.size e+j))=some v∧W T (aJ w) w V0 Hr d v (fun _=>False):=by
      intro i hi;have:=(hex i hi).choose_spec
      simp only [ch,hi,dif_pos];exact this
     have hall: ∀xs∈(List.range len).map ch,xs.length=T.size e:=by
      intro xs hxs;obtain⟨i,hi,rfl⟩:=Kn.1 hxs
      exact(hch i (OA.1 hi)).1.length
     refine⟨[.sl e ((List.range len).map ch).flatten],.slice ht (fun xs hxs=> ?_) (by simp;omega),rfl,one _ _ ?_⟩
     ·obtain⟨i,hi,rfl⟩:=Kn.1 hxs
      exact(hch i (OA.1 hi)).1
     ·have key: ∀(i:Nat) (x:D),((List.range len).map ch).flatten[i]? =some x→ ∃v,w.cell? (a.add i)=some v∧W T (aJ w) w V0 Hr x v (fun _=>False):=by
       intro i x hi;rw [Xn hpos _ hall,H5]at hi;obtain⟨xs,h1,h2⟩:=hi;rw [Nr,Cu]at h1;obtain⟨q,hq,rfl⟩:=h1;obtain⟨hq1,hq2⟩:=Ed.1 hq;simp only [List.getElem_range]at hq2;subst hq2;obtain⟨v,hv,hW⟩:=(hch _ (by simpa using hq1)).2 _ x h2
       rw [show i / T.size e*T.size e+i % T.size e=i by rw [Nat.mul_comm];exact Nat.div_add_mod i (T.size e)]at hv
       exact⟨v,hv,hW⟩
      refine .sl (fun i=>(w.cell? (a.add i)).getD undef) hE (by rw [Sg _ hall];simp) hl hcap (fun i x hi=> ?_) (fun i x hi=> ?_)
      ·obtain⟨v,hv,_⟩:=key i x hi
       exact⟨a,rfl,by have:=kg hv;rw [LG]at this;exact this,by rw [hv];rfl⟩
      ·obtain⟨v,hv,hW⟩:=key i x hi;simp only [hv,Wz];exact hW
   case struct fs=>
    simp only [Hm,Ho,dw]at hd;obtain⟨⟨fields,hu,hfx⟩,hinfo⟩:=h0;rw [hd.1.1]at hfx;obtain⟨hfl,hfi⟩:=hfx;obtain⟨xs,m,hm,_,hcl,hxl,hx⟩:=DataW.trod_struct hu h
    injection hm with hm
    subst hm;rw [hT.cells hk]at hcl;have hsz:T.size t=fs.length:=by simp [Tys.size,ht,Ty.size]
    have hex: ∀i,i<fs.length→ ∃d f,fs[i]? =some f∧Shp T f [d]∧ ∃v,cs[i]? =some v∧W T (aJ w) w V0 Hr d v (fun _=>False):=by
     intro i hi;have hif:i<fields.size:=by omega
     obtain⟨f1,f2,f3,f4⟩:=hfi i _ (Jl hif);have h1:=hx i _ (Jl hif)
     have hs1:T.size fields[i].type=1:=by
      unfold Tys.isStruct at f4;unfold Tys.size
      cases hty:T.ty fields[i].type<;>simp_all [Ty.isStruct,Ty.size]
     rw [f1,hT.cells f3,hs1,IC (by omega)]at h1
     obtain⟨ds,q1,q2,q3⟩:=ih n _ _ _ (hd.2 _ (Tm f2)) h1;have hl1:ds.length=1:=by rw [q1.length,hs1]
     obtain⟨d,rfl⟩:=List.length_eq_one_iff.1 hl1;obtain⟨v,hv,hW⟩:=q3 0 d rfl
     refine⟨d,_,f2,q1,v, ?_,hW⟩
     rw [List.getElem?_take]at hv;simp only [Nat.zero_lt_one,if_true,Nq,Nat.add_zero]at hv;exact hv
    let ch:Nat→D:=fun i=>if h:i<fs.length then(hex i h).choose else .undef
    have hch: ∀i,i<fs.length→ ∃f,fs[i]? =some f∧Shp T f [ch i]∧ ∃v,cs[i]? =some v∧W T (aJ w) w V0 Hr (ch i) v (fun _=>False):=by
     intro i hi;have:=(hex i hi).choose_spec
     simp only [ch,hi,dif_pos];exact this
    have hget: ∀(i:Nat) (d:D),((List.range fs.length).map ch)[i]? =some d→i<fs.length∧d=ch i:=by
     intro i d hi;rw [Nr,Cu]at hi;obtain⟨q,hq,rfl⟩:=hi;obtain⟨hq1,hq2⟩:=Ed.1 hq;simp only [List.getElem_range]at hq2;subst hq2
     exact⟨by simpa using hq1,rfl⟩
    refine⟨(List.range fs.length).map ch,.struct ht (by simp) (fun i f d hf hi=> ?_),by simp;omega,fun i d hi=> ?_⟩
    ·obtain⟨h1,rfl⟩:=hget i d hi;obtain⟨f',hf',hs,_⟩:=hch i h1;rw [hf]at hf';injection hf' with hf';subst hf';exact hs
    ·obtain⟨h1,rfl⟩:=hget i d hi;obtain⟨f',hf',hs,v,hv,hW⟩:=hch i h1
     exact⟨v,hv,hW⟩
   all_goals (cases hd)
def top(T:Tys)(t:TypeId)(ds:List D):D:=if T.isStruct t then .agg ds else ds.headD .undef
def Arg(T:Tys)(t:TypeId)(d:D):Prop:= ∃ds,Shp T t ds∧d=top T t ds
theorem A0C(hT:CB P T){r:Reach}{base n:Nat}{t:TypeId}{v:Value}{d0:DataW H}{ps:List MemPlace}(hd:Oz T n t=true)(hv:Value.okWide P w r base t v)(h:DataW.Trod enc P w 0 spare Gz t v d0 ps):
  ∃d,Arg T t d∧W T (aJ w) w V0 Hr d v (fun _=>False):=by
 obtain⟨fuel,hf⟩:=h;obtain⟨ds,q1,q2,q3⟩:=gH hT fuel n t _ _ hd hf;have hfact:=(hT t).1;unfold Ff at hfact
 have flat:T.isStruct t=false→v.cells.toList=[v]→ ∃d,Arg T t d∧W T (aJ w) w V0 Hr d v (fun _=>False):=by
  intro hs hc;have hl:ds.length=1:=by rw [←q2,hc];rfl
  obtain⟨d,rfl⟩:=List.length_eq_one_iff.1 hl;obtain⟨v',hv',hW⟩:=q3 0 d rfl;rw [hc]at hv';simp only [Np,Option.some.injEq]at hv';subst hv'
  exact⟨d,⟨[d],q1,by simp [top,hs]⟩,hW⟩
 cases n with
 |zero=>cases hd
 |succ n=>
  unfold Oz at hd
  cases ht:T.ty t<;>rw [ht]at hfact hd<;>simp only at hfact hd
  case int k=>
   refine flat (by simp [Tys.isStruct,ht,Ty.isStruct]) ?_
   simp only [Value.okWide,hfact.1,Cell.okWide]at hv
   cases v<;>simp_all [Cell.ok,Value.cells]
  case bool=>
   refine flat (by simp [Tys.isStruct,ht,Ty.isStruct]) ?_
   simp only [Value.okWide,hfact.1,Cell.okWide]at hv
   cases v<;>simp_all [Cell.ok,Value.cells]
  case string=>
   refine flat (by simp [Tys.isStruct,ht,Ty.isStruct]) ?_
   simp only [Value.okWide,hfact.1,Cell.okWide]at hv
   cases v<;>simp_all [Cell.ok,Value.cells]
  case slice e=>
   refine flat (by simp [Tys.isStruct,ht,Ty.isStruct]) ?_
   simp only [Value.okWide,hfact.1,Cell.okWide]at hv
   cases v<;>simp_all [Cell.ok,Value.cells]
  case struct fs=>
   obtain⟨⟨fields,hu,_⟩,_⟩:=hfact;obtain⟨cs,rfl,hcs⟩:=WideShapes.okWide_struct hu hv
   have hval: ∀(i:Nat) (d:D),ds[i]? =some d→cs[i]? =some (cs.getD i undef)∧W T (aJ w) w V0 Hr d (cs.getD i undef) (fun _=>False):=by
    intro i d hi;obtain⟨v,hv',hW⟩:=q3 i d hi;have:cs[i]? =some v:=by simpa [Value.cells] using hv'
    rw [MQ,this];exact⟨rfl,hW⟩
   refine⟨.agg ds,⟨ds,q1,by simp [top,Tys.isStruct,ht,Ty.isStruct]⟩,.agg (fun i=>cs.getD i undef) (fun _ _=>False) (by simpa [Value.cells] using q2) (fun i x hi=>(hval i x hi).1) (fun k=>⟨fun h=>h.elim,fun⟨_,_,h⟩=>h⟩) (fun _ _ _ _ _ _ h=>h.elim) (fun i x hi=>(hval i x hi).2)⟩
  all_goals (cases hd)
end
def wL(T:Tys):List TypeId→List D→Prop
 | [],[]=>True
 |t::ts,d::ds=>Arg T t d∧wL T ts ds
 |_,_=>False
theorem args_W{P:Program}{T:Tys}{H:Type}{enc:TypeId×Value→H}{w:World}{r:Reach}{base n:Nat}(hT:CB P T): ∀(ts:List TypeId) (vs:List Value) (d0:List (DataW H)) (ps:List MemPlace),ts.all (Oz T n)=true→
  (∀(j:Nat) (t:TypeId) (v:Value),ts[j]? =some t→vs[j]? =some v→Value.okWide P w r base t v)→DataW.TrodAll enc P w 0 (fun _=>true) true ts vs d0 ps→
  ∃ds,wL T ts ds∧vs.length=ds.length∧ ∀(i:Nat) (d:D),ds[i]? =some d→ ∃v,vs[i]? =some v∧W T (aJ w) w V0 Hr d v (fun _=>False):=by
 intro ts
 induction ts with
 |nil=>
  intro vs d0 ps _ _ h
  cases vs<;>cases d0<;>simp [DataW.TrodAll]at h
  exact⟨[],trivial,rfl,by simp⟩
 |cons t ts ih=>
  intro vs d0 ps hd hv h
  cases vs with
  |nil=>cases d0<;>simp [DataW.TrodAll]at h
  |cons v vs=>
   cases d0 with
   |nil=>simp [DataW.TrodAll]at h
   |cons d0 ds0=>
    simp only [DataW.TrodAll]at h;obtain⟨p,q,h1,h2,_⟩:=h;simp only [Tq,Hm]at hd;obtain⟨d,ha,hW⟩:=A0C hT hd.1 (hv 0 t v rfl rfl) h1;obtain⟨ds,hb,hl,hWs⟩:=ih vs ds0 q hd.2 (fun j t' v' hj hj'=>hv (j+1) t' v' (by simpa using hj) (by simpa using hj')) h2
    refine⟨d::ds,⟨ha,hb⟩,by simp [hl],fun i x hi=> ?_⟩
    cases i with
    |zero=>simp at hi;subst hi;exact⟨v,rfl,hW⟩
    |succ i=>simpa using hWs i x (by simpa using hi)
theorem law_calls{Y:Sys}(hY:Y.Ok){f:FuncId}{ds:List D}(hc:Y.call f ds []=some (.bool true,[])){vs:Array Value}{w:World}(hl:vs.size=ds.length)
  (hW: ∀(i:Nat) (d:D),ds[i]? =some d→ ∃v,vs[i]? =some v∧W Y.T (aJ w) w V0 Hr d v (fun _=>False)):
  Calls Y.P f vs w fun e w'=>e= .returned (.bool true)∧RowKit.Below w.heap.size w w':=by
 have hg:=Sys.call_good hY hc;refine Calls.mono (hg.2 vs (fun _=>undef) w (aJ w) (fun _ _=>False) hl (fun i d hi=> ?_) (fun j d hj=>by simp at hj) (fun _ _ _ h=>h) (fun _ _ _ _ h=>h.elim) (fun _ h=>h)) ?_
 ·obtain⟨v,hv,hWv⟩:=hW i d hi
  exact⟨v,hv,hWv.up⟩
 ·intro e w' he
  cases e with
  |returned v=>
   obtain⟨S',F,FL',h1,_,_,_,hst,_,_⟩:=he
   cases h1 with
   |bool=>exact⟨rfl,hst.os,hst.tape,hst.output,hst.size,fun k hk=>hst.heap k hk (fun _ h=>h)⟩
  |panicked=>exact he.elim
  |outgrown=>exact he.elim
theorem trodAll_below{H:Type}{enc:TypeId×Value→H}{P:Program}(hl:laidOutB P=true){W W':World}(hb:RowKit.Below W.heap.size W W'): ∀ {ts:List TypeId} {vs:List Value} {ds:List (DataW H)} {ps:List MemPlace},
  ts.all (fun t=>P.readableRec t&&decide (t<P.types.size))=true→DataW.TrodAll enc P W 0 (fun _=>true) true ts vs ds ps→DataW.TrodAll enc P W' 0 (fun b=>decide (b<W.heap.size)) true ts vs ds ps:=by
 intro ts
 induction ts with
 |nil=>
  intro vs ds ps _ h
  cases vs<;>cases ds<;>simp [DataW.TrodAll]at h ⊢
  exact h
 |cons t ts ih=>
  intro vs ds ps hr h
  cases vs with
  |nil=>cases ds<;>simp [DataW.TrodAll]at h
  |cons v vs=>
   cases ds with
   |nil=>simp [DataW.TrodAll]at h
   |cons d ds=>
    simp only [DataW.TrodAll]at h ⊢;obtain⟨p,q,h1,h2,h3⟩:=h;simp only [Tq,Hm,decide_eq_true_eq]at hr;have lt0: ∀x∈p,x.block<W.heap.size:=by obtain⟨m,hm⟩:=h1;exact DataW.trod_lt m _ _ _ hm
    exact⟨p,q,RowKit.Below.trod hl hr.1.1 hr.1.2 h1 hb lt0,ih (by simpa using hr.2) h2,h3⟩
end Dv
namespace Dv
open Go
theorem nr{α:Type}{a b:α}(h:a=b):a=b:=h
structure SOp where
 dst:Option Tmp
 op:Op
 type:TypeId
 guard:Option (Option Tmp×Bool)
structure PmL where
 n:List Nat
 r:List Nat
 w:List Nat
def PmL.pm(l:PmL):Pm:=⟨fun r=>l.n.contains r|| !l.r.contains r,fun r=>l.w.contains r⟩
inductive SC where
 |skip
 |ops (l:List SOp)
 |draws (l:List (PmL×SOp))
 |seq (a b:SC)
 |cond (c:Operand) (a b:SC)
 |block (id:Nat) (c:SC)
 |loop (c:SC)
 |exit (id:Nat)
 |ret
 |bad
abbrev tK(u:Nat):Operand:= .tmp u
abbrev iK(n:Int):Operand:= .const (.int .i64 n)
abbrev oX(d:Nat)(p:Op)(y:TypeId):SOp:=⟨some d,p,y,none⟩
abbrev oM(d u:Nat)(y:TypeId):SOp:=⟨some d,.move (.tmp u),y,none⟩
abbrev oA(d u:Nat)(y:TypeId):SOp:=⟨some d,.assign (.tmp u),y,none⟩
abbrev oL(d:Nat)(t:TypeId)(u:Nat)(y:TypeId):SOp:=⟨some d,.load t (.tmp u),y,none⟩
abbrev oI(d:Nat)(t:TypeId)(u v:Nat):SOp:=⟨some d,.indexAddr t (.tmp u) (.tmp v),0,none⟩
abbrev oN(d u:Nat)(t:TypeId):SOp:=⟨some d,.call ⟨.builtin .len, #[.tmp u], #[t]⟩,3,none⟩
abbrev oC(d f:Nat)(a:List Operand)(t:List TypeId)(y:TypeId):SOp:=⟨some d,.call ⟨.value (.func f),a.toArray,t.toArray⟩,y,none⟩
abbrev oS(t:TypeId)(a u:Nat):SOp:=⟨none,.store t (.tmp a) (.tmp u),0,none⟩
abbrev oF(d:Nat)(t:TypeId)(u i:Nat):SOp:=⟨some d,.fieldAddr t (.tmp u) i,0,none⟩
abbrev oE(d u i:Nat)(y:TypeId):SOp:=⟨some d,.extract (.tmp u) i,y,none⟩
abbrev oB(d:Nat)(o:BinOp)(t:TypeId)(a b:Operand)(r y:TypeId):SOp:=⟨some d,.binOp o t a b r,y,none⟩
def OG(ops:Array Oper)(o:Oper):SOp:=⟨o.dst,o.op,o.type,match o.guard with|none=>none|some (j,b)=>some ((ops[j]?).bind (·.dst),b)⟩
def Ct(lends:FuncId→Bool):Code→SC
 | .skip=> .skip
 | .region _ ops draw=>
  if draw then
   (if Mk lends ops.toList then .draws (ops.toList.map fun o=>(⟨Fb ops.toList o,ops.toList.flatMap (EY lends ops.toList),EY lends ops.toList o⟩,OG ops (Ri lends ops.toList o)))else .bad)
  else .ops (ops.toList.map fun o=>OG ops (tag lends ops.toList o))
 | .seq a b=> .seq (Ct lends a) (Ct lends b)
 | .cond c a b=> .cond c (Ct lends a) (Ct lends b)
 | .block id c=> .block id (Ct lends c)
 | .loop c=> .loop (Ct lends c)
 | .exit id=> .exit id
 | .ret=> .ret
 |_=> .bad
def Kr(E:Env)(pm:Pm)(s:St)(dst:Option Tmp)(op:Op)(type:TypeId):Option St:=jv E pm s ⟨dst,op,type, "", #[],none⟩
def O7(E:Env)(pm:Pm)(s:St)(o:SOp):Option St:=
 match o.guard with
 |none=>Kr E pm s o.dst o.op o.type
 |some (none,_)=>some (s.putO o.dst (.konst undef))
 |some (some t,b)=>
  match s.v t with
  | .bool b'=>if b'==b then Kr E pm s o.dst o.op o.type else some (s.putO o.dst (.konst undef))
  | .konst (.tuple _)=>some (s.putO o.dst (.konst undef))
  |_=>none
def gI(E:Env):List SOp→St→Option St
 | [],s=>some s
 |o::l,s=>(O7 E Pm.all s o).bind fun s'=>gI E l s'
def IJ(pm:Pm)(s:St)(op:Op):Bool:=
 match op with
 | .move (.tmp u)=> !(s.v u).hasObj||(s.v u).isObj||pm.wr u
 |_=>true
def Xp(E:Env):List (PmL×SOp)→St→Option St
 | [],s=>some s
 |(p,o)::l,s=>if IJ p.pm s o.op then(O7 E p.pm s o).bind fun s'=>Xp E l s' else none
noncomputable def EJ(E:Env):SC→St→Option (Ex×St)
 | .skip,s=>some (.normal,s)
 | .ops l,s=>(gI E l s).map fun s'=>(.normal,s')
 | .draws l,s=>(Xp E l s).map fun s'=>(.normal,s')
 | .seq a b,s=>
  match EJ E a s with
  |some (.normal,s')=>EJ E b s'
  |r=>r
 | .cond c a b,s=>
  match ev E.T s 0 c with
  |some (.bool t)=>if t then EJ E a s else EJ E b s
  |_=>none
 | .block id c,s=>
  match EJ E c s with
  |some (.exit j,s')=>if j=id then some (.normal,s')else some (.exit j,s')
  |r=>r
 | .loop c,s=>Rj (EJ E c) s
 | .exit id,s=>some (.exit id,s)
 | .ret,s=>some (.ret,s)
 | .bad,_=>none
theorem Xq(E:Env)(ops:Array Oper)(pm:Pm)(s:St)(o:Oper):O7 E pm s (OG ops o)=Iq E ops pm s o:=by
 obtain⟨dst,op,type,pos,after,guard⟩:=o;unfold O7 Iq LC OG
 cases guard with
 |none=>rfl
 |some g=>
  obtain⟨j,b⟩:=g;simp only
  cases (ops[j]?).bind (·.dst)with
  |none=>rfl
  |some t=>
   simp only
   cases hv:s.v t with
   |bool b'=>simp only;cases hb:(b'==b)<;>simp<;>rfl
   |konst v=>cases v<;>rfl
   |_=>rfl
theorem ko(E:Env)(ops:Array Oper): ∀(l:List Oper) (s:St),gI E (l.map fun o=>OG ops (tag E.lends ops.toList o)) s=Tv E ops s l:=by
 intro l
 induction l with
 |nil=>intro s;rfl
 |cons o l ih=>
  intro s;simp only [Pf,gI,Tv,Xq]
  cases Iq E ops Pm.all s (tag E.lends ops.toList o)with
  |none=>rfl
  |some s'=>simp only [Ee];exact ih s'
theorem gJ(E:Env)(ops:Array Oper)(l0:List Oper): ∀(l:List Oper) (s:St),
  Xp E (l.map fun o=>(⟨Fb l0 o,l0.flatMap (EY E.lends l0),EY E.lends l0 o⟩,OG ops (Ri E.lends ops.toList o))) s=O4 E ops l0 s l:=by
 intro l
 induction l with
 |nil=>intro s;rfl
 |cons o l ih=>
  intro s;simp only [Pf,Xp,O4,Xq];have h1:(PmL.mk (Fb l0 o) (l0.flatMap (EY E.lends l0)) (EY E.lends l0 o)).pm=IG E.lends l0 o:=nr rfl;have h2:IJ (IG E.lends l0 o) s (OG ops (Ri E.lends ops.toList o)).op=Yi (IG E.lends l0 o) s o:=nr rfl;rw [h1,h2];split
  ·cases Iq E ops (IG E.lends l0 o) s (Ri E.lends ops.toList o)with
   |none=>rfl
   |some s'=>simp only [Ee];exact ih s'
  ·rfl
theorem gK(E:Env): ∀(c:Code),EJ E (Ct E.lends c)=EG E c:=by
 intro c
 induction c with
 |skip=>rfl
 |region id ops draw=>
  funext s
  simp only [Ct,EG]
  cases draw with
  |true=>
   simp only [if_true];split
   ·simp only [EJ];rw [gJ]
   ·rfl
  |false=>simp only [KQ,if_false,EJ];rw [ko]
 |seq a b iha ihb=>funext s;simp only [Ct,EJ,EG,iha,ihb];rfl
 |cond x a b iha ihb=>funext s;simp only [Ct,EJ,EG,iha,ihb];rfl
 |block id c ih=>funext s;simp only [Ct,EJ,EG,ih];rfl
 |loop c ih=>funext s;simp only [Ct,EJ,EG,ih]
 |exit id=>rfl
 |ret=>rfl
 |rangeFunc=>rfl
 |scope=>rfl
 |label=>rfl
 |goto=>rfl
 |refuse=>rfl
def D6(E:Env)(c:SC)(Q:Ex→St→Prop)(s:St):Prop:= ∃ex s',EJ E c s=some (ex,s')∧Q ex s'
section
variable {E:Env} {Q:Ex→St→Prop} {s:St}
def Xr(E:Env)(b:SC)(Q:Ex→St→Prop):Ex→St→Prop
 | .normal,s=>D6 E b Q s
 |ex,s=>Q ex s
def inBlock(id:Nat)(Q:Ex→St→Prop):Ex→St→Prop
 | .exit j,s=>if j=id then Q .normal s else Q (.exit j) s
 |ex,s=>Q ex s
theorem wM{a b:SC}(h:D6 E a (Xr E b Q) s):D6 E (.seq a b) Q s:=by
 obtain⟨ex,s1,h1,h2⟩:=h
 cases ex with
 |normal=>
  obtain⟨ex',s2,h3,h4⟩:=h2
  exact⟨ex',s2,by simp [EJ,h1,h3],h4⟩
 |exit id=>exact⟨_,s1,by simp [EJ,h1],h2⟩
 |ret=>exact⟨_,s1,by simp [EJ,h1],h2⟩
theorem gL{id:Nat}{c:SC}(h:D6 E c (inBlock id Q) s):D6 E (.block id c) Q s:=by
 obtain⟨ex,s1,h1,h2⟩:=h
 cases ex with
 |normal=>exact⟨_,s1,by simp [EJ,h1],h2⟩
 |exit j=>
  simp only [inBlock]at h2;by_cases hj:j=id
  ·subst hj;rw [if_pos rfl]at h2;exact⟨.normal,s1,by simp [EJ,h1],h2⟩
  ·rw [if_neg hj]at h2;exact⟨_,s1,by simp [EJ,h1,hj],h2⟩
 |ret=>exact⟨_,s1,by simp [EJ,h1],h2⟩
theorem Bh{c:SC}{Q':Ex→St→Prop}(h:D6 E c Q s)(hq: ∀ex s,Q ex s→Q' ex s):D6 E c Q' s:=by
 obtain⟨ex,s1,h1,h2⟩:=h;exact⟨ex,s1,h1,hq _ _ h2⟩
end
def I6(T:Tys)(n:Nat)(rs:List ResultVar)(r:D×List D):Ex→St→Prop
 | .normal,s=>Tw T n rs s=some r
 | .ret,s=>Tw T n rs s=some r
 | .exit _,_=>False
theorem Sys.call_wp{Y:Sys}{f:FuncId}{fn:Func}{c:Code}{k:SC}{a l:List D}{r:D×List D}(hb:Y.base f a l=none)(hf:Y.P.funcs[f]? =some fn)(hok:DL fn a.length=true)
  (hbody:fn.body=some c)(hk:Ct Y.lends c=k)(h:D6 Y.env k (I6 Y.T l.length fn.results.toList r) (entry a l)):Y.call f a l=some r:=by
 refine Sys.call_run hb hf hok ?_;obtain⟨ex,s1,h1,h2⟩:=h;unfold X8;rw [←hk]at h1;have h3:EJ Y.env (Ct Y.env.lends c)=EG Y.env c:=gK Y.env c;have h4:EG Y.env c (entry a l)=some (ex,s1):=by rw [←h3];exact h1
 rw [hbody];simp only [h4]
 cases ex with
 |normal=>exact h2
 |ret=>exact h2
 |exit id=>exact h2.elim
section
variable (E:Env) (pm:Pm) (s:St) (dst:Option Tmp) (ty:TypeId)
theorem ZR(op:Op):O7 E pm s ⟨dst,op,ty,none⟩=Kr E pm s dst op ty:=nr rfl
def grd(E:Env)(pm:Pm)(s:St)(dst:Option Tmp)(op:Op)(ty:TypeId)(b:Bool)(d:D):Option St:=
 match d with
 | .bool b'=>if b'==b then Kr E pm s dst op ty else some (s.putO dst (.konst undef))
 | .konst (.tuple _)=>some (s.putO dst (.konst undef))
 |_=>none
theorem Xt(op:Op)(t:Tmp)(b:Bool):O7 E pm s ⟨dst,op,ty,some (some t,b)⟩=grd E pm s dst op ty b (s.v t):=nr rfl
theorem A6M(op:Op)(b':Bool):grd E pm s dst op ty true (.bool b')=if b'=true then Kr E pm s dst op ty else some (s.putO dst (.konst undef)):=by cases b'<;>rfl
theorem A6N(op:Op)(b':Bool):grd E pm s dst op ty false (.bool b')=if b'=true then some (s.putO dst (.konst undef))else Kr E pm s dst op ty:=by cases b'<;>rfl
theorem A6O(op:Op)(b:Bool):grd E pm s dst op ty b (.konst undef)=some (s.putO dst (.konst undef)):=nr rfl
def pk(s:St)(dst:Option Tmp)(c a b:Option D):Option St:=
 match c,a,b with
 |some (.bool t),some x,some y=>if(if t then x else y).hasObj then none else some (s.putO dst (if t then x else y))
 |_,_,_=>none
theorem gM(c a b:Operand):Kr E pm s dst (.pick c a b) ty=pk s dst (ev E.T s ty c) (ev E.T s ty a) (ev E.T s ty b):=nr rfl
theorem pkT(x y:D)(h:x.hasObj=false):pk s dst (some (.bool true)) (some x) (some y)=some (s.putO dst x):=by simp [pk,h]
theorem pkF(x y:D)(h:y.hasObj=false):pk s dst (some (.bool false)) (some x) (some y)=some (s.putO dst y):=by simp [pk,h]
theorem pkB(t p q:Bool):pk s dst (some (.bool t)) (some (.bool p)) (some (.bool q))=some (s.putO dst (.bool (if t then p else q))):=by cases t<;>rfl
theorem hoB(b:Bool):(D.bool b).hasObj=false:=by simp [D.hasObj]
theorem hoI(k:IntKind)(n:Int):(D.int k n).hasObj=false:=by simp [D.hasObj]
theorem cB(t:TypeId):Kr E pm s dst (.alloc t) ty=if E.T.known t then some (s.putO dst (.box (E.T.zeros t)))else none:=nr rfl
theorem kr(t:TypeId)(x:Operand):Kr E pm s dst (.box t x) ty=if ty=900003 then(Mi E.T pm s dst t x).bind fun s1=>F3 pm s1 dst else Mi E.T pm s dst t x:=nr rfl
theorem gN(t:TypeId)(x:Operand):Mi E.T pm s dst t x=match Re (ev E.T s t x)with
  |some ds=>if E.T.isStruct t then some (s.putO dst (.box ds))else none
  |none=>
   match take E.T pm s t x with
   |some (d,s1)=>if E.T.isStruct t==d.isAgg then some (s1.putO dst (.box d.asCells))else none
   |none=>none:=nr rfl
theorem cK(t:TypeId)(parts:Array (Nat×Operand)):Kr E pm s dst (.build t parts) ty=match E.T.nest t with
  |some fl=>if E.T.isStruct t&&E.T.known t then(Ip E.T pm fl s (E.T.zeros t) parts.toList).map fun r=>r.2.putO dst (.agg r.1)else none
  |none=>match E.T.ty t with
   | .struct fs=>if E.T.known t then(H7 E.T pm (fun i=>fs.getD i 0) 1 s (E.T.zeros t) parts.toList).map fun r=>r.2.putO dst (.agg r.1)else none
   |_=>none:=nr rfl
theorem Si(t:TypeId)(len:Nat)(parts:Array (Nat×Operand)):Kr E pm s dst (.buildSlice t len parts) ty=if ty=900004 then(Rf E.T pm s dst t len parts).bind fun s1=>Mh pm s1 dst else Rf E.T pm s dst t len parts:=nr rfl
def stF(pm:Pm)(a:Operand):Option St→Option St
 |some s1=>F3 pm s1 (Rh a)
 |none=>none
theorem gP(a:Operand)(o:Option St):stF pm a o=o.bind fun s1=>F3 pm s1 (Rh a):=by cases o<;>rfl
theorem cO(t:TypeId)(a x:Operand):Kr E pm s none (.store t a x) ty=if ty=900007 then Gf E.T pm t a (K3 E.T pm s t x)else if ty=900010 then Ra E.T pm s t a x else if ty=900011 then stF pm a (Im E.T pm s t a x)else Im E.T pm s t a x:=by
 rw [gP];rfl
def JY(s:St)(dst:Option Tmp):Option D→Option St
 |some r=>some (s.putO dst r)
 |none=>none
theorem A0D(r:D):JY s dst (some r)=some (s.putO dst r):=nr rfl
def Xu(dst:Option Tmp):Option (D×St)→Option St
 |some r=>some (r.2.putO dst r.1)
 |none=>none
theorem A0E(r:D)(s:St):Xu dst (some (r,s))=some (s.putO dst r):=nr rfl
def U6(T:Tys)(s:St)(dst:Option Tmp)(op:BinOp)(t:TypeId):Option D→Option D→Option St
 |some a,some b=>if Mg T t a then JY s dst (Ef op a b)else none
 |_,_=>none
theorem A0F(T:Tys)(op:BinOp)(t:TypeId)(a b:D):U6 T s dst op t (some a) (some b)=if Mg T t a then JY s dst (Ef op a b)else none:=nr rfl
def fzB(pm:Pm)(dst:Option Tmp)(u:Tmp):Option St→Option St
 |some s1=>X5 pm s1 dst u
 |none=>none
theorem wN(op:BinOp)(t:TypeId)(x y:Operand)(t':TypeId):Kr E pm s dst (.binOp op t x y t') ty=if ty<2000000 then H8 E.T pm s dst op t x y else fzB pm dst (ty-2000000) (H8 E.T pm s dst op t x y):=by
 show(if ty<2000000 then H8 E.T pm s dst op t x y else(H8 E.T pm s dst op t x y).bind fun s1=>X5 pm s1 dst (ty-2000000))=_
 cases H8 E.T pm s dst op t x y<;>rfl
theorem RI(op:BinOp)(t:TypeId)(x y:Operand)(hq:X4 E.T op t y=none):H8 E.T pm s dst op t x y=U6 E.T s dst op t (ev E.T s t x) (ev E.T s t y):=by
 unfold H8;rw [hq];simp only
 cases ev E.T s t x<;>cases ev E.T s t y<;>simp only [U6]
 rename_i a b
 cases Ef op a b<;>rfl
theorem A6P(op:BinOp)(t:TypeId)(x:Operand)(u:Tmp)(t':TypeId):Kr E pm s dst (.binOp op t x (.tmp u) t') ty=if ty<2000000 then U6 E.T s dst op t (ev E.T s t x) (some (s.v u))else fzB pm dst (ty-2000000) (U6 E.T s dst op t (ev E.T s t x) (some (s.v u))):=by
 rw [wN,RI E pm s dst op t x (.tmp u) rfl];rfl
theorem A6Q(op:BinOp)(t:TypeId)(x:Operand)(k:IntKind)(n:Int)(t':TypeId):Kr E pm s dst (.binOp op t x (.const (.int k n)) t') ty=if ty<2000000 then U6 E.T s dst op t (ev E.T s t x) (some (.int k n))else fzB pm dst (ty-2000000) (U6 E.T s dst op t (ev E.T s t x) (some (.int k n))):=by
 rw [wN,RI E pm s dst op t x _ rfl];rfl
def gQ(s:St)(dst:Option Tmp)(q:Bool):Option Bool→Option St
 |some b=>some (s.putO dst (.bool (b==q)))
 |none=>none
theorem A0G(b:Bool):gQ s dst true (some b)=some (s.putO dst (.bool b)):=by cases b<;>rfl
def wO(op:BinOp)(s:St)(dst:Option Tmp)(r:Option Bool)(o:Option St):Ty→Option St
 | .slice _=>match op with| .eql=>gQ s dst true r| .neq=>gQ s dst false r|_=>o
 |_=>o
theorem A6R(r:Option Bool)(o:Option St)(e:TypeId):wO .eql s dst r o (.slice e)=gQ s dst true r:=nr rfl
theorem ku(op:BinOp)(t:TypeId)(u:Tmp):H8 E.T pm s dst op t (.tmp u) (.const (.slice none 0 0))=wO op s dst (Pj pm s (s.v u)) (U6 E.T s dst op t (some (s.v u)) (ev E.T s t (.const (.slice none 0 0)))) (E.T.ty t):=by
 have key: ∀q,X4 E.T op t (.const (.slice none 0 0))=some q→H8 E.T pm s dst op t (.tmp u) (.const (.slice none 0 0))=gQ s dst q (Pj pm s (s.v u)):=by
  intro q hq;unfold H8;rw [hq];simp only [ev,Ee]
  cases Pj pm s (s.v u)<;>rfl
 cases ht:E.T.ty t with
 |slice e=>
  cases op<;>first
   |(simp only [wO];exact key true (by simp [X4,ht]))
   |(simp only [wO];exact key false (by simp [X4,ht]))
   |(simp only [wO];exact RI E pm s dst _ t _ _ (by simp [X4,ht]))
 |_=>exact RI E pm s dst _ t _ _ (by simp [X4,ht])
theorem wP(op:BinOp)(t:TypeId)(u:Tmp)(t':TypeId):Kr E pm s dst (.binOp op t (.tmp u) (.const (.slice none 0 0)) t') ty=if ty<2000000 then wO op s dst (Pj pm s (s.v u)) (U6 E.T s dst op t (some (s.v u)) (ev E.T s t (.const (.slice none 0 0)))) (E.T.ty t)
  else fzB pm dst (ty-2000000) (wO op s dst (Pj pm s (s.v u)) (U6 E.T s dst op t (some (s.v u)) (ev E.T s t (.const (.slice none 0 0)))) (E.T.ty t)):=by
 rw [wN,ku]
theorem A6S(e:TypeId)(x:D)(xs:List D):Pj pm s (.sl e (x::xs))=some false:=nr rfl
theorem ndK(A:Option Addr)(n c:Nat):Pj pm s (.konst (.slice A n c))=some A.isNone:=nr rfl
theorem Xv(src d:TypeId)(x:Operand):Kr E pm s dst (.convert src d x) ty=if E.T.known src then
   match ev E.T s src x,E.T.ty d with
   |some (.int _ n),.int k=>some (s.putO dst (.int k (k.wrap n)))
   |some (.str b),.string=>some (s.putO dst (.str b))
   |_,_=>none
  else none:=nr rfl
theorem Vm(f:FuncId)(first captured:Array Operand):Kr E pm s dst (.makeFunc (.func f) first captured) ty=if ty<3000000 then(if first.isEmpty then(Ko pm s captured.toList).map fun r=>r.2.putO dst (.clo f r.1)else none)
  else(if first.isEmpty then(VI pm s (ty-3000000) captured.toList).map fun r=>r.2.putO dst (.ocl false f r.1)else none):=nr rfl
theorem U7(t:TypeId)(l c:Operand):Kr E pm s dst (.makeSlice t l c) ty=if ty=900012 then(Tu E.T s dst t l c).bind fun s1=>Mh pm s1 dst else Tu E.T s dst t l c:=nr rfl
theorem Vn(x:Operand):Kr E pm s dst (.nilCheck x) ty=(ev E.T s ty x).bind fun d=>
   match d with
   | .box _=>some (Cm s dst x d)
   | .vw L n m=>match s.look pm L n m with|some (.box _)=>some (Cm s dst x d)|_=>none
   | .pe L _ n m=>match s.look pm L n m with|some _=>some (Cm s dst x d)|none=>none
   | .cptr _=>some (Cm s dst x d)
   | .clo _ _=>some (Cm s dst x d)
   | .ocl false _ _=>some (Cm s dst x d)
   |_=>none:=nr rfl
theorem ZT(x y:Operand)(t t':TypeId):Kr E pm s dst (.call ⟨.builtin .append, #[x,y], #[t,t']⟩) ty=if t=t' then(if vk (ev E.T s t y)then K5 E.T pm s t x else Gg E.T pm s t x y).map fun r=>r.2.putO dst r.1 else none:=nr rfl
theorem gT(f:FuncId)(args:Array Operand)(ts:Array TypeId):Kr E pm s dst (.call ⟨.value (.func f),args,ts⟩) ty=if args.size=ts.size then(if ty=900014 then(GH E pm s dst f (args.toList.zip (Mj ty ts.toList)) []).bind fun s1=>F3 pm s1 dst else GH E pm s dst f (args.toList.zip (Mj ty ts.toList)) [])else none:=nr rfl
theorem cZ(u:Tmp)(args:Array Operand)(ts:Array TypeId):Kr E pm s dst (.call ⟨.value (.tmp u),args,ts⟩) ty=match s.v u with
   | .clo f caps=>if args.size=ts.size then GH E pm s dst f (args.toList.zip ts.toList) caps else none
   | .ocl false f caps=>if args.size=ts.size then MK E pm s dst f (args.toList.zip ts.toList) caps else none
   |_=>none:=nr rfl
end
theorem wQ(T:Tys)(s:St)(t:TypeId)(u:Tmp):ev T s t (.tmp u)=some (s.v u):=nr rfl
theorem wR(T:Tys)(s:St)(t:TypeId)(k:IntKind)(n:Int):ev T s t (.const (.int k n))=some (.int k n):=nr rfl
theorem kv(T:Tys)(s:St)(t:TypeId)(b:Bool):ev T s t (.const (.bool b))=some (.bool b):=nr rfl
theorem wS(T:Tys)(s:St)(t:TypeId):ev T s t (.const (.slice none 0 0))=match T.ty t with| .slice e=>some (.own e [])| .other=>some (.konst (.slice none 0 0))|_=>none:=nr rfl
theorem A0H(s:St)(t u:Nat)(d:D):(s.put t d).v u=if u=t then d else s.v u:=by rw [nH];rfl
theorem A0I(s:St)(t u:Nat)(d:D):(s.put t d).k u=if u=t then(if d.hasObj then s.k t+1 else s.k t)else s.k u:=by
 unfold St.put;by_cases h:u=t
 ·subst h;cases hd:d.hasObj<;>simp [KR]
 ·cases hd:d.hasObj<;>simp [KR,h]
theorem A0J(s:St)(t u:Nat)(d:D):(s.put t d).m u=s.m u:=by unfold St.put;split<;>rfl
theorem A0K(s:St)(t u:Nat):(s.clr t).v u=if u=t then .undef else s.v u:=nr rfl
theorem A0L(s:St)(t u:Nat):(s.clr t).k u=s.k u:=nr rfl
theorem A0M(s:St)(t u:Nat):(s.clr t).m u=s.m u:=nr rfl
theorem wT(s:St)(t u:Nat):(s.bump t).v u=s.v u:=nr rfl
theorem wU(s:St)(t u:Nat):(s.bump t).k u=s.k u:=nr rfl
theorem wV(s:St)(t u:Nat):(s.bump t).m u=if u=t then s.m t+1 else s.m u:=nr rfl
theorem A0N(s:St)(t u:Nat)(p:AA)(d:D):(s.set (t::p) d).v u=if u=t then Gv (s.v t) p d else s.v u:=nr rfl
theorem A0O(s:St)(t u:Nat)(p:AA)(d:D):(s.set (t::p) d).k u=s.k u:=nr rfl
theorem A0P(s:St)(t u:Nat)(p:AA)(d:D):(s.set (t::p) d).m u=s.m u:=nr rfl
theorem cu(s:St)(t:Tmp)(d:D):s.putO (some t) d=s.put t d:=nr rfl
theorem A0Q(Y:Sys):Y.env.T=Y.T:=nr rfl
theorem cz(Y:Sys):Y.env.lends=Y.lends:=nr rfl
theorem gU(Y:Sys):Y.env.call=Y.call:=nr rfl
theorem kw(a l:List D)(t:Nat):(entry a l).v t=if t<G then a.getD t .undef else l.getD (t-G) .undef:=nr rfl
theorem ky(a l:List D)(t:Nat):(entry a l).k t=0:=nr rfl
theorem kz(a l:List D)(t:Nat):(entry a l).m t=0:=nr rfl
theorem LU{r:Ex×St}{Q:Ex→St→Prop}:(∃ex s',some r=some (ex,s')∧Q ex s')=Q r.1 r.2:=
 propext ⟨fun⟨ex,s',h,hq⟩=>by injection h with h;subst h;exact hq,fun h=>⟨r.1,r.2,rfl,h⟩⟩
section
variable (E:Env) (Q:Ex→St→Prop) (s:St)
theorem A0R:D6 E .skip Q s=Q .normal s:=LU
theorem A0S(id:Nat):D6 E (.exit id) Q s=Q (.exit id) s:=LU
theorem A6T:D6 E .ret Q s=Q .ret s:=LU
theorem A6U:D6 E (.ops []) Q s=Q .normal s:=LU
def zq(E:Env)(l:List SOp)(Q:Ex→St→Prop):Option St→Prop
 |some s=>D6 E (.ops l) Q s
 |none=>False
theorem A6V(l:List SOp):zq E l Q (some s)=D6 E (.ops l) Q s:=nr rfl
theorem A0T(o:SOp)(l:List SOp):D6 E (.ops (o::l)) Q s=zq E l Q (O7 E Pm.all s o):=by
 unfold D6;simp only [EJ,gI]
 cases O7 E Pm.all s o with
 |none=>simp [zq]
 |some s'=>simp [zq,D6,EJ]
theorem A0U:D6 E (.draws []) Q s=Q .normal s:=LU
def gV(E:Env)(l:List (PmL×SOp))(Q:Ex→St→Prop):Bool→Option St→Prop
 |true,some s=>D6 E (.draws l) Q s
 |_,_=>False
theorem A0V(l:List (PmL×SOp)):gV E l Q true (some s)=D6 E (.draws l) Q s:=nr rfl
theorem wW(p:PmL)(o:SOp)(l:List (PmL×SOp)):D6 E (.draws ((p,o)::l)) Q s=gV E l Q (IJ p.pm s o.op) (O7 E p.pm s o):=by
 unfold D6;simp only [EJ,Xp]
 cases IJ p.pm s o.op with
 |true=>
  cases O7 E p.pm s o with
  |none=>simp [gV]
  |some s'=>simp [gV,D6,EJ]
 |false=>simp [gV]
theorem A6W(a b:SC):D6 E (.seq a b) Q s=D6 E a (Xr E b Q) s:=by
 refine propext ⟨fun⟨ex,s1,h1,h2⟩=> ?_,wM⟩;simp only [EJ]at h1
 cases ha:EJ E a s with
 |none=>simp [ha]at h1
 |some q=>
  obtain⟨ex',s2⟩:=q
  cases ex' with
  |normal=>simp only [ha]at h1;exact⟨_,s2,ha,ex,s1,h1,h2⟩
  |exit id=>simp only [ha,Option.some.injEq,Prod.mk.injEq]at h1;obtain⟨rfl,rfl⟩:=h1;exact⟨_,s2,ha,h2⟩
  |ret=>simp only [ha,Option.some.injEq,Prod.mk.injEq]at h1;obtain⟨rfl,rfl⟩:=h1;exact⟨_,s2,ha,h2⟩
def cnd(E:Env)(a b:SC)(Q:Ex→St→Prop)(s:St):Option D→Prop
 |some (.bool t)=>if t=true then D6 E a Q s else D6 E b Q s
 |_=>False
theorem A6X(a b:SC)(t:Bool):cnd E a b Q s (some (.bool t))=if t=true then D6 E a Q s else D6 E b Q s:=nr rfl
theorem A0X(c:Operand)(a b:SC):D6 E (.cond c a b) Q s=cnd E a b Q s (ev E.T s 0 c):=by
 unfold D6;simp only [EJ]
 cases ev E.T s 0 c with
 |none=>simp [cnd]
 |some d=>cases d with
  |bool t=>cases t<;>simp [cnd,D6]
  |_=>simp [cnd]
theorem wX(id:Nat)(c:SC):D6 E (.block id c) Q s=D6 E c (inBlock id Q) s:=by
 refine propext ⟨fun⟨ex,s1,h1,h2⟩=> ?_,gL⟩;simp only [EJ]at h1
 cases ha:EJ E c s with
 |none=>simp [ha]at h1
 |some q=>
  obtain⟨ex',s2⟩:=q
  cases ex' with
  |normal=>simp only [ha,Option.some.injEq,Prod.mk.injEq]at h1;obtain⟨rfl,rfl⟩:=h1;exact⟨_,s2,ha,h2⟩
  |exit j=>
   simp only [ha]at h1;by_cases hj:j=id
   ·simp only [hj,if_true,Option.some.injEq,Prod.mk.injEq]at h1;obtain⟨rfl,rfl⟩:=h1;exact⟨_,s2,ha,by simpa [inBlock,hj] using h2⟩
   ·simp only [hj,if_false,Option.some.injEq,Prod.mk.injEq]at h1;obtain⟨rfl,rfl⟩:=h1;exact⟨_,s2,ha,by simpa [inBlock,hj] using h2⟩
  |ret=>simp only [ha,Option.some.injEq,Prod.mk.injEq]at h1;obtain⟨rfl,rfl⟩:=h1;exact⟨_,s2,ha,h2⟩
theorem wY(b:SC):Xr E b Q .normal s=D6 E b Q s:=nr rfl
theorem wZ(b:SC)(id:Nat):Xr E b Q (.exit id) s=Q (.exit id) s:=nr rfl
theorem wh(b:SC):Xr E b Q .ret s=Q .ret s:=nr rfl
theorem A6Y(id:Nat):inBlock id Q .normal s=Q .normal s:=nr rfl
theorem A6Z(id j:Nat):inBlock id Q (.exit j) s=if j=id then Q .normal s else Q (.exit j) s:=nr rfl
theorem A6a(id:Nat):inBlock id Q .ret s=Q .ret s:=nr rfl
theorem A0Y(T:Tys)(n:Nat)(rs:List ResultVar)(r:D×List D):I6 T n rs r .normal s=(Tw T n rs s=some r):=nr rfl
theorem A0Z(T:Tys)(n:Nat)(rs:List ResultVar)(r:D×List D):I6 T n rs r .ret s=(Tw T n rs s=some r):=nr rfl
end
section
variable (s:St) (dst:Option Tmp) (u:Tmp) (k:IntKind) (n:Int) (b:Bool) (x:ByteArray) (e:TypeId) (xs:List D) (L:AA) (i j c:Nat) (v:Value) (f:FuncId)
theorem A0a:Cm s dst (.tmp u) (.int k n)=s.putO dst (.int k n):=nr rfl
theorem wm:Cm s dst (.tmp u) (.bool b)=s.putO dst (.bool b):=nr rfl
theorem A6b:Cm s dst (.tmp u) (.sl e xs)=s.putO dst (.sl e xs):=nr rfl
theorem l5:Cm s dst (.tmp u) (.konst v)=s.putO dst (.konst v):=nr rfl
theorem A0b:Cm s dst (.tmp u) (.own e xs)=s.putO dst (.vw [u] (s.k u) (s.m u)):=nr rfl
theorem A0c:Cm s dst (.tmp u) (.box xs)=s.putO dst (.vw [u] (s.k u) (s.m u)):=nr rfl
theorem A6c:Cm s dst (.tmp u) (.vw L i j)=s.putO dst (.vw L i j):=nr rfl
theorem wo:Cm s dst (.tmp u) (.cptr xs)=s.putO dst (.cptr xs):=nr rfl
theorem A0d:Cm s dst (.tmp u) (.clo f xs)=s.putO dst (.clo f xs):=nr rfl
theorem A0e:Cm s dst (.tmp u) (.tup xs)=if Al xs then(if Al (JC s u 0 xs)then(s.clr u).putO dst (.tup xs)else s.putO dst (.tup (JC s u 0 xs)))else s.putO dst (.tup xs):=nr rfl
theorem A0f(i:Nat):JC s u i []=[]:=nr rfl
theorem wu(i:Nat)(x:D):JC s u i (x::xs)=O1 s u i x::JC s u (i+1) xs:=nr rfl
theorem ww(i:Nat):O1 s u i (.bool b)= .bool b:=nr rfl
theorem A0g(i:Nat):O1 s u i (.own e xs)= .vw [u,i] (s.k u) (s.m u):=nr rfl
variable (pm:Pm)
theorem A0h:Bi pm s dst (.tmp u) (.int k n)=some (s.putO dst (.int k n)):=nr rfl
theorem wy:Bi pm s dst (.tmp u) (.bool b)=some (s.putO dst (.bool b)):=nr rfl
theorem A6d:Bi pm s dst (.tmp u) (.sl e xs)=some (s.putO dst (.sl e xs)):=nr rfl
theorem A0i:Bi pm s dst (.tmp u) (.own e xs)=some ((s.clr u).putO dst (.own e xs)):=nr rfl
theorem A0j:Bi pm s dst (.tmp u) (.box xs)=some ((s.clr u).putO dst (.box xs)):=nr rfl
theorem A0k(r:Nat):Bi pm s dst (.tmp u) (.vw [r] i j)=(Md pm s [r] i j).map fun q=>q.2.putO dst q.1:=nr rfl
def asT(_s:St)(dst:Option Tmp)(a:Option (D×St))(b:Option St):Bool→Option St
 |true=>a.map fun q=>q.2.putO dst q.1
 |false=>b
theorem A6f(a:Option (D×St))(b:Option St):asT s dst a b true=a.map fun q=>q.2.putO dst q.1:=nr rfl
theorem A6g(a:Option (D×St))(b:Option St):asT s dst a b false=b:=nr rfl
theorem A0l(r r':Nat)(p:AA):Bi pm s dst (.tmp u) (.vw (r::r'::p) i j)=asT s dst (Ca pm s (.vw (r::r'::p) i j)) (some (s.putO dst (.vw (r::r'::p) i j))) (vo pm s r):=by
 by_cases h:vo pm s r=true
 ·have h':Yh pm s (.vw (r::r'::p) i j)=true:=h;unfold Bi;simp only [h',h,if_true];rfl
 ·have h':Yh pm s (.vw (r::r'::p) i j)=false:=Gm.mpr h;unfold Bi;simp only [h',Gm.mpr h];rfl
theorem A6h(r:Nat):vo pm s r=(pm.rd r&&kH (s.v r)):=nr rfl
theorem A0m:kH (.tup xs)=true:=nr rfl
theorem A0n:kH (.box xs)=false:=nr rfl
theorem A0o:Bi pm s dst (.tmp u) (.clo f xs)=some (s.putO dst (.clo f xs)):=nr rfl
end
section
variable (k:IntKind) (x y:Int) (p q:Bool) (a b:ByteArray)
theorem A0p:Ef .add (.int k x) (.int k y)=some (.int k (k.wrap (x+y))):=by simp [Ef]
theorem A0q:Ef .sub (.int k x) (.int k y)=some (.int k (k.wrap (x-y))):=by simp [Ef]
theorem A0r:Ef .mul (.int k x) (.int k y)=some (.int k (k.wrap (x*y))):=by simp [Ef]
theorem A0s:Ef .quo (.int k x) (.int k y)=if y=0 then none else some (.int k (k.wrap (x.tdiv y))):=by simp [Ef]
theorem A0t:Ef .rem (.int k x) (.int k y)=if y=0 then none else some (.int k (x.tmod y)):=by simp [Ef]
theorem A0u:Ef .and (.int k x) (.int k y)=some (.int k (IE .and k x y)):=by simp [Ef]
theorem A6i:Ef .or (.int k x) (.int k y)=some (.int k (IE .or k x y)):=by simp [Ef]
theorem A0v(k':IntKind):Ef .shl (.int k x) (.int k' y)=if y<0 then none else some (.int k (k.wrap (x*2 ^ (min y.toNat k.bits)))):=by simp [Ef]
theorem A0w(k':IntKind):Ef .shr (.int k x) (.int k' y)=if y<0 then none else some (.int k (x.fdiv (2 ^ (min y.toNat k.bits)))):=by simp [Ef]
theorem A6j:Ef .eql (.int k x) (.int k y)=some (.bool (decide (x=y))):=by simp [Ef];rfl
theorem A6k:Ef .neq (.int k x) (.int k y)=some (.bool (!decide (x=y))):=by simp [Ef];rfl
theorem A6l:Ef .lss (.int k x) (.int k y)=some (.bool (decide (x<y))):=by simp [Ef]
theorem A6m:Ef .leq (.int k x) (.int k y)=some (.bool (decide (x≤y))):=by simp [Ef]
theorem A6n:Ef .gtr (.int k x) (.int k y)=some (.bool (decide (y<x))):=by simp [Ef]
theorem A6o:Ef .geq (.int k x) (.int k y)=some (.bool (decide (y≤x))):=by simp [Ef]
theorem A0x:Ef .neq (.bool p) (.bool q)=some (.bool (!(p==q))):=nr rfl
theorem A0y:vZ .not (.bool p)=some (.bool (!p)):=nr rfl
theorem boI(T:Tys)(t:TypeId):Mg T t (.int k x)=true:=nr rfl
theorem boB(T:Tys)(t:TypeId):Mg T t (.bool p)=match T.ty t with| .bool=>true|_=>false:=nr rfl
end
def I9(xs:List Int):List D:=xs.map (D.int .i64)
theorem Di(xs:List Int):(I9 xs).length=xs.length:=by simp [I9]
end Dv
namespace Dv
open Go
def zB:Value→Value→Bool
 | .int k n,.int k' n'=>decide (k=k')&&decide (n=n')
 | .bool b,.bool b'=>b==b'
 | .string s,.string s'=>s.size==0&&s'.size==0
 | .slice none 0 0,.slice none 0 0=>true
 | .nilFunc,.nilFunc=>true
 | .pointer none,.pointer none=>true
 |_,_=>false
theorem nI{a b:Value}(h:zB a b=true):a=b:=by
 unfold zB at h
 split at h
 ·simp only [Hm,decide_eq_true_eq]at h;rw [h.1,h.2]
 ·simp only [beq_iff_eq]at h;rw [h]
 ·simp only [Hm,beq_iff_eq]at h
  rename_i s s'
  have: ∀t:ByteArray,t.size=0→t=ByteArray.empty:=by
   intro t ht;obtain⟨d⟩:=t;have:d= #[]:=Array.size_eq_zero_iff.1 ht
   rw [this];rfl
  rw [this s h.1,this s' h.2]
 ·rfl
 ·rfl
 ·rfl
 ·cases h
def zsB:List Value→List Value→Bool
 | [],[]=>true
 |a::as,b::bs=>zB a b&&zsB as bs
 |_,_=>false
theorem gW: ∀ {a b:List Value},zsB a b=true→a=b
 | [],[],_=>rfl
 | [],_::_,h=>by cases h
 |_::_,[],h=>by cases h
 |a::as,b::bs,h=>by
  simp only [zsB,Hm]at h;rw [nI h.1,gW h.2]
def P5(P:Program)(t:TypeId)(n:Nat)(z:Value):Bool:=
 match P.info? t with
 |some i=>(i.size==n)&&(decide (4<n)||decide (i.bytes≤128))&&(match i.zero,z with|some (.agg a),.agg b=>zsB a.toList b.toList|some v,z=>zB v z|_,_=>false)
 |none=>false
theorem KD{P:Program}{t:TypeId}{n:Nat}{z:Value}(h:P5 P t n z=true):Lr P t n z:=by
 unfold P5 at h
 split at h
 ·rename_i i hi
  simp only [Hm,OT,beq_iff_eq,decide_eq_true_eq]at h
  refine⟨i,hi,h.1.1, ?_,fun h4=>h.1.2.resolve_left (by omega)⟩
  have h2:=h.2
  split at h2
  ·rename_i a b hz
   rw [hz];have:=gW h2
   rw [←OQ (xs:=a),this]
  ·rename_i v z' hz _
   rw [hz,nI h2]
  ·cases h2
 ·cases h
def Vo(P:Program)(T:Tys)(t:TypeId):Bool:=
 match T.ty t with
 | .int k=>(match P.underlying t with|some (.int k')=>decide (k'=k)|_=>false)&&P5 P t 1 (.int k 0)
 | .bool=>(match P.underlying t with|some .bool=>true|_=>false)&&P5 P t 1 (.bool false)
 | .string=>(match P.underlying t with|some .string=>true|_=>false)&&P5 P t 1 (.string ByteArray.empty)
 | .slice e=>(match P.underlying t with|some (.slice e')=>e'==e|_=>false)&&P5 P t 1 (.slice none 0 0)
 | .struct fs=>(match P.underlying t with
   |some (.struct fields)=>
    match T.nest t with
    |none=>(fields.size==fs.length)&&(List.range fields.size).all (fun j=>match fields[j]?,fs[j]? with|some f,some g=>(f.offset==j)&&(f.type==g)&&T.known g&& !T.isStruct g|_,_=>false)
    |some fl=>decide (4<fs.length)&&(fields.size==fl.length)&&(List.range fields.size).all (fun j=>match fields[j]?,fl[j]? with|some f,some g=>(f.offset==g.1)&&(f.type==g.2)&&T.known g.2|_,_=>false)
   |_=>false)&&P5 P t fs.length (.agg (fs.map (HY T)).toArray)
 | .func=>(match P.underlying t with|some (.func ..)=>true|_=>false)&&P5 P t 1 .nilFunc
 | .ptr=>(match P.underlying t with|some (.pointer _)=>true|_=>false)&&P5 P t 1 (.pointer none)
 | .map k e=>match P.underlying t with|some (.map k' e')=>(k'==k)&&(e'==e)|_=>false
 | .other=>true
theorem ZU{P:Program}{T:Tys}{t:TypeId}(h:Vo P T t=true):Ff P T t:=by
 unfold Vo at h;unfold Ff
 cases hty:T.ty t<;>rw [hty]at h<;>simp only [Hm]at h ⊢
 case int k=>
  refine⟨?_,KD h.2⟩
  have h1:=h.1
  split at h1
  ·rename_i k' hu;rw [hu];simp only [decide_eq_true_eq]at h1;rw [h1]
  ·cases h1
 case bool=>
  refine⟨?_,KD h.2⟩
  have h1:=h.1
  split at h1
  ·assumption
  ·cases h1
 case string=>
  refine⟨?_,KD h.2⟩
  have h1:=h.1
  split at h1
  ·assumption
  ·cases h1
 case map k e=>
  split at h
  ·rename_i k' e' hu;rw [hu];simp only [Hm,beq_iff_eq]at h;rw [h.1,h.2]
  ·cases h
 case slice e=>
  refine⟨?_,KD h.2⟩
  have h1:=h.1
  split at h1
  ·rename_i k' hu;rw [hu];simp only [beq_iff_eq]at h1;rw [h1]
  ·cases h1
 case struct fs=>
  refine⟨?_,KD h.2⟩
  have h1:=h.1
  split at h1
  ·rename_i fields hu
   refine⟨fields,hu, ?_⟩
   cases hn:T.nest t with
   |none=>
    simp only [hn,Hm,beq_iff_eq,Ho,OA]at h1 ⊢
    refine⟨h1.1,fun j f hf=> ?_⟩
    have hlt:=(Ti.1 hf).1;have:=h1.2 j hlt
    rw [hf]at this
    split at this
    ·rename_i f' g hf' hg
     simp only [Option.some.injEq]at hf';subst hf';simp only [Hm,beq_iff_eq,MR]at this;obtain⟨⟨⟨q1,q2⟩,q3⟩,q4⟩:=this;subst q2
     exact⟨q1,hg,q3,q4⟩
    ·cases this
   |some fl=>
    simp only [hn,Hm,beq_iff_eq,Ho,OA,decide_eq_true_eq]at h1 ⊢
    refine⟨h1.1.1,h1.1.2,fun j f hf=> ?_⟩
    have hlt:=(Ti.1 hf).1;have:=h1.2 j hlt
    rw [hf]at this
    split at this
    ·rename_i f' g hf' hg
     simp only [Option.some.injEq]at hf';subst hf';simp only [Hm,beq_iff_eq]at this;obtain⟨⟨q1,q2⟩,q3⟩:=this
     refine⟨?_,by rw [q2];exact q3⟩
     rw [hg,q1,q2]
    ·cases this
  ·cases h1
 case func=>
  refine⟨?_,KD h.2⟩
  have h1:=h.1
  split at h1
  ·exact⟨_,_,_,by assumption⟩
  ·cases h1
 case ptr=>
  refine⟨?_,KD h.2⟩
  have h1:=h.1
  split at h1
  ·exact⟨_,by assumption⟩
  ·cases h1
def d9(jw:List Ty)(nJ:List (TypeId×List (Nat×TypeId))):Tys:={ty:=fun t=>jw.getD t .other,nest:=fun t=>nJ.lookup t}
theorem wz{P:Program}{jw:List Ty}{nJ:List (TypeId×List (Nat×TypeId))}(h:((List.range jw.length).all fun t=>Vo P (d9 jw nJ) t&&kL P (d9 jw nJ) t)=true):CB P (d9 jw nJ):=by
 intro t;rcases Nat.lt_or_ge t jw.length with ht|ht
 ·have:=Ho.1 h t (OA.2 ht)
  rw [Hm]at this
  exact⟨ZU this.1,this.2⟩
 ·have:(d9 jw nJ).ty t= .other:=by simp [d9,JL,List.getElem?_eq_none ht]
  refine⟨?_, ?_⟩
  ·unfold Ff;rw [this];trivial
  ·unfold kL;rw [this]
theorem Ag{Y:Sys}{f:FuncId}{fn:Func}{k:SC}{a l:List D}{r:D×List D}(hb:Y.base f a l=none)(hf:Y.P.funcs[f]? =some fn)(hok:DL fn a.length=true)
  (hk:fn.body.map (Ct Y.lends)=some k)(h:D6 Y.env k (I6 Y.T l.length fn.results.toList r) (entry a l)):Y.call f a l=some r:=by
 obtain⟨c,hc,hk⟩:=Cu.1 hk;exact Sys.call_wp hb hf hok hc hk h
end Dv
namespace Dv
open Go
section
variable (E:Env) (pm:Pm) (s:St) (dst:Option Tmp) (ty:TypeId) (u:Tmp) (t:TypeId)
theorem KE(o:Option D):(o.map fun r=>s.putO dst r)=JY s dst o:=by cases o<;>rfl
theorem N8(o:Option (D×St)):(o.map fun r=>r.2.putO dst r.1)=Xu dst o:=by cases o<;>rfl
theorem A0z:Kr E pm s dst (.move (.tmp u)) ty=some (Cm s dst (.tmp u) (s.v u)):=nr rfl
def gX(pm:Pm):Option Tmp→Option St→Option St
 |some t,some s1=>F3 pm s1 (some t)
 |_,_=>none
def frC(s1:St)(t:Tmp):Option D→Option St
 |some c=>some (s1.set [t] c)
 |none=>none
theorem A6p(s1:St)(t:Tmp)(h1:pm.rd t=true)(h2:pm.wr t=true):gX pm (some t) (some s1)=frC s1 t (Dx (s1.v t)):=by
 show(if pm.rd t&&pm.wr t then(Dx (s1.v t)).map fun c=>s1.set [t] c else none)=_
 rw [h1,h2]
 cases Dx (s1.v t)<;>rfl
theorem A6q(s1:St)(t:Tmp)(c:D):frC s1 t (some c)=some (s1.set [t] c):=nr rfl
def fcB(pm:Pm):Option Tmp→Option St→Option St
 |some t,some s1=>Mh pm s1 (some t)
 |_,_=>none
theorem l6:Kr E pm s dst (.assign (.tmp u)) ty=if ty=900003 then gX pm dst (Bi pm s dst (.tmp u) (s.v u))else if ty<1000000 then Bi pm s dst (.tmp u) (s.v u)else gX pm dst (Bi pm s dst (.tmp u) (s.v u)):=by
 have hfr:((Bi pm s dst (.tmp u) (s.v u)).bind fun s1=>F3 pm s1 dst)=gX pm dst (Bi pm s dst (.tmp u) (s.v u)):=by
  rcases Bi pm s dst (.tmp u) (s.v u)with _|s1<;>cases dst<;>rfl
 show(if eD ty=true then(Bi pm s dst (.tmp u) (s.v u)).bind fun s1=>F3 pm s1 dst else Bi pm s dst (.tmp u) (s.v u))=_
 rw [hfr];unfold eD;by_cases h1:ty=900003
 ·rw [if_pos h1,if_pos h1];rfl
 ·rw [if_neg h1,if_neg h1];by_cases h2:ty<1000000
  ·rw [if_pos h2,if_pos h2];rfl
  ·rw [if_neg h2,if_neg h2];rfl
theorem gY(v:Value):Kr E pm s dst (.assign (.const v)) ty=if ty=900003 then gX pm dst (JY s dst (ev E.T s ty (.const v)))else if ty<1000000 then JY s dst (ev E.T s ty (.const v))else gX pm dst (JY s dst (ev E.T s (ty-1000000) (.const v))):=by
 have hfr: ∀t,((ev E.T s t (.const v)).bind fun d=>(Bi pm s dst (.const v) d).bind fun s1=>F3 pm s1 dst)=gX pm dst (JY s dst (ev E.T s t (.const v))):=by
  intro t
  cases ev E.T s t (.const v)<;>cases dst<;>rfl
 have hno: ∀t,((ev E.T s t (.const v)).bind fun d=>Bi pm s dst (.const v) d)=JY s dst (ev E.T s t (.const v)):=by
  intro t
  cases ev E.T s t (.const v)<;>rfl
 show((ev E.T s (w9 ty) (.const v)).bind fun d=>if eD ty=true then(Bi pm s dst (.const v) d).bind fun s1=>F3 pm s1 dst else Bi pm s dst (.const v) d)=_
 unfold eD w9;by_cases h1:ty=900003
 ·simp only [if_pos h1,if_true];exact hfr _
 ·by_cases h2:ty<1000000
  ·simp only [if_neg h1,if_pos h2,KQ,if_false];exact hno _
  ·simp only [if_neg h1,if_neg h2,if_true];exact hfr _
theorem xA(v:Value):Kr E pm s dst (.move (.const v)) ty=JY s dst (ev E.T s ty (.const v)):=by
 show((ev E.T s ty (.const v)).map fun d=>Cm s dst (.const v) d)=_
 cases ev E.T s ty (.const v)<;>rfl
theorem A10:Kr E pm s dst (.load t (.tmp u)) ty=JY s dst (JG E.T pm s t (.tmp u) (s.v u)):=KE s dst _
theorem yUn(op:UnOp):Kr E pm s dst (.unOp op t (.tmp u)) ty=JY s dst (vZ op (s.v u)):=KE s dst _
theorem xB(i:Nat):Kr E pm s dst (.fieldAddr t (.tmp u) i) ty=JY s dst (FH E.T pm s t (.tmp u) (s.v u) i):=KE s dst _
theorem A6s:Kr E pm s dst (.call ⟨.builtin .len, #[.tmp u], #[t]⟩) ty=JY s dst (O3 E.T pm s t (.tmp u) (s.v u)):=KE s dst _
theorem gZ(i:Nat):Kr E pm s dst (.extract (.tmp u) i) ty=Hq s dst (.tmp u) (s.v u) i:=nr rfl
def slC(T:Tys)(pm:Pm)(s:St)(dst:Option Tmp)(t:TypeId)(x:Operand)(hi:Option Operand):Option Operand→Option Operand→Option St
 |none,none=>Xu dst (Me T pm s t x hi)
 |_,_=>none
theorem A6t(T:Tys)(x:Operand)(hi:Option Operand):slC T pm s dst t x hi none none=Xu dst (Me T pm s t x hi):=nr rfl
def slF(T:Tys)(pm:Pm)(s:St)(dst:Option Tmp)(t:TypeId)(x:Operand)(lo:Option Operand):Option Operand→Option Operand→Option St
 |none,none=>Xu dst (Mf T pm s t x lo)
 |_,_=>none
theorem xC(lo hi mx:Option Operand):Kr E pm s dst (.slice t (.tmp u) lo hi mx) ty=
  if ty=900002 then slC E.T pm s dst t (.tmp u) hi lo mx
  else if ty=900005 then slF E.T pm s dst t (.tmp u) lo hi mx
  else if ty=900001 then Xu dst (Io E.T pm.see s t (.tmp u) (s.v u) lo hi mx)else Xu dst (Io E.T pm s t (.tmp u) (s.v u) lo hi mx):=by
 show(if ty=900002 then(if lo.isNone&&mx.isNone then(Me E.T pm s t (.tmp u) hi).map fun r=>r.2.putO dst r.1 else none)
  else if ty=900005 then(if hi.isNone&&mx.isNone then(Mf E.T pm s t (.tmp u) lo).map fun r=>r.2.putO dst r.1 else none)
  else(ev E.T s t (.tmp u)).bind fun d=>(Io E.T (if ty=900001 then pm.see else pm) s t (.tmp u) d lo hi mx).map fun r=>r.2.putO dst r.1)=_
 split
 ·cases lo<;>cases mx<;>first|rfl|exact N8 dst _
 ·split
  ·cases hi<;>cases mx<;>first|rfl|exact N8 dst _
  ·split
   ·exact N8 dst _
   ·exact N8 dst _
def apI(T:Tys)(pm:Pm)(s:St)(t:TypeId)(x y:Operand)(d:D):Option (D×St):=if vk (some d)then K5 T pm s t x else Gg T pm s t x y
theorem l7(x:Operand)(v:Tmp):Kr E pm s dst (.call ⟨.builtin .append, #[x,.tmp v], #[t,t]⟩) ty=Xu dst (apI E.T pm s t x (.tmp v) (s.v v)):=by
 rw [ZT,if_pos rfl,N8];rfl
theorem A6u(T:Tys)(x y:Operand)(e:TypeId)(xs:List D):apI T pm s t x y (.sl e xs)=Gg T pm s t x y:=nr rfl
theorem A11(T:Tys)(x y:Operand)(e:TypeId)(xs:List D):apI T pm s t x y (.own e xs)=Gg T pm s t x y:=nr rfl
theorem apK(T:Tys)(x y:Operand)(A:Option Addr)(c:Nat):apI T pm s t x y (.konst (.slice A 0 c))=K5 T pm s t x:=nr rfl
def ix1(T:Tys)(pm:Pm)(s:St)(t:TypeId)(x:Operand)(d:D):Option D→Option D
 |some i=>Qm T pm s t x d i
 |none=>none
theorem A6v(T:Tys)(x:Operand)(d i:D):ix1 T pm s t x d (some i)=Qm T pm s t x d i:=nr rfl
theorem xD(i:Operand):Kr E pm s dst (.indexAddr t (.tmp u) i) ty=JY s dst (ix1 E.T pm s t (.tmp u) (s.v u) (ev E.T s 0 i)):=by
 show(match some (s.v u),ev E.T s 0 i with
  |some a,some b=>(Qm E.T pm s t (.tmp u) a b).map fun r=>s.putO dst r
  |_,_=>none)=_
 cases ev E.T s 0 i with
 |none=>rfl
 |some b=>exact KE s dst _
def mk1(T:Tys)(t:TypeId):Option D→Option D→Option D
 |some a,some b=>EZ T t a b
 |_,_=>none
theorem A6w(T:Tys)(a b:D):mk1 T t (some a) (some b)=EZ T t a b:=nr rfl
theorem A6x(l c:Operand):Tu E.T s dst t l c=JY s dst (mk1 E.T t (ev E.T s 0 l) (ev E.T s 0 c)):=by
 show(match ev E.T s 0 l,ev E.T s 0 c with
  |some a,some b=>(EZ E.T t a b).map fun r=>s.putO dst r
  |_,_=>none)=_
 cases ev E.T s 0 l<;>cases ev E.T s 0 c<;>first|rfl|exact KE s dst _
theorem A13(l c:Operand):Kr E pm s dst (.makeSlice t l c) ty=if ty=900012 then fcB pm dst (JY s dst (mk1 E.T t (ev E.T s 0 l) (ev E.T s 0 c)))else JY s dst (mk1 E.T t (ev E.T s 0 l) (ev E.T s 0 c)):=by
 rw [U7,A6x];by_cases h:ty=900012
 ·rw [if_pos h,if_pos h]
  cases JY s dst (mk1 E.T t (ev E.T s 0 l) (ev E.T s 0 c))<;>cases dst<;>rfl
 ·rw [if_neg h,if_neg h]
def cv1(s:St)(dst:Option Tmp):Option D→Ty→Option St
 |some (.int _ n),.int k=>some (s.putO dst (.int k (k.wrap n)))
 |some (.str b),.string=>some (s.putO dst (.str b))
 |_,_=>none
theorem A6y(k k':IntKind)(n:Int):cv1 s dst (some (.int k n)) (.int k')=some (s.putO dst (.int k' (k'.wrap n))):=nr rfl
theorem gm(src d:TypeId)(x:Operand):Kr E pm s dst (.convert src d x) ty=if E.T.known src then cv1 s dst (ev E.T s src x) (E.T.ty d)else none:=by
 rw [Xv];split
 ·rcases ev E.T s src x with _|d'<;>cases E.T.ty d<;>first|rfl|(cases d'<;>rfl)
 ·rfl
def asM(l:List TypeId):List TypeId:=l.map fun _=>900013
theorem A14(f:FuncId)(args:Array Operand)(ts:Array TypeId)(h:args.size=ts.size):Kr E pm s dst (.call ⟨.value (.func f),args,ts⟩) ty=if ty=900014 then gX pm dst (GH E pm s dst f (args.toList.zip ts.toList) [])else GH E pm s dst f (args.toList.zip (if ty=900013 then asM ts.toList else ts.toList)) []:=by
 rw [gT,if_pos h];by_cases c:ty=900014
 ·rw [if_pos c,if_pos c];have e:Mj ty ts.toList=ts.toList:=by unfold Mj;rw [c,if_neg (by decide)]
  rw [e];unfold gX
  cases GH E pm s dst f (args.toList.zip ts.toList) []with
  |none=>cases dst<;>rfl
  |some s1=>cases dst<;>rfl
 ·rw [if_neg c,if_neg c]
  unfold Mj asM;rfl
end
section
variable {T:Tys} {pm:Pm} {s:St} {t:TypeId}
theorem ldC(x:Operand)(xs:List D)(hk:T.known t=true)(hs:T.isStruct t=false):JG T pm s t x (.cptr xs)=xs[0]? :=by simp [JG,hk,hs]
def ZV(s:St)(L:AA)(c:Nat):Option D→Option D
 |some o=>(o.cells[c]?).bind fun x=>DI (Gd s L c x)
 |none=>none
def cellsOf(s:St)(L:AA)(c n:Nat):Option D→Option D
 |some o=>if c+n≤o.cells.length then DI (.agg ((List.range n).map fun i=>Gd s L (c+i) (o.cells.getD (c+i) .undef)))else none
 |none=>none
theorem ldP(x:Operand)(L:AA)(c n m:Nat)(hk:T.known t=true)(hs:T.isStruct t=false):JG T pm s t x (.pe L c n m)=ZV s L c (s.look pm L n m):=by
 simp only [JG,hk,hs,if_true,Ie]
 cases s.look pm L n m<;>simp [ZV]
theorem A6z(u:Tmp)(xs:List D)(hk:T.known t=true)(hs:T.isStruct t=true):JG T pm s t (.tmp u) (.box xs)=cellsOf s [u] 0 (T.size t) (some (.box xs)):=by
 simp only [JG,hk,hs,if_true,Ie];simp [cellsOf]
def Ut(s:St)(pm:Pm)(L:AA)(n m:Nat):Option D:=
 match s.look pm L n m with
 |some (.box xs)=>some (.box xs)
 |_=>none
def Xw:D→Option D
 | .own e xs=>some (.own e xs)
 | .box xs=>some (.box xs)
 |_=>none
theorem xE(e:TypeId)(xs:List D):Xw (.own e xs)=some (.own e xs):=nr rfl
theorem xF(xs:List D):Xw (.box xs)=some (.box xs):=nr rfl
theorem A15(u n m:Nat):s.look pm [u] n m=if pm.rd u&&(s.k u==n)then Xw (s.v u)else none:=by
 simp only [St.look,List.isEmpty_nil,Bool.true_or,Bool.and_true,Bc];split
 ·cases s.v u<;>rfl
 ·rfl
def A16:Option D→Option D
 |some d=>Xw d
 |none=>none
theorem A17(u c n m:Nat)(p:AA):s.look pm (u::c::p) n m=if pm.rd u&&(s.k u==n)&&(s.m u==m)then A16 (Bc (s.v u) (c::p))else none:=by
 simp only [St.look,List.isEmpty_cons,Bool.false_or];split
 ·cases Bc (s.v u) (c::p)with
  |none=>rfl
  |some d=>cases d<;>rfl
 ·rfl
theorem A18(d:D):A16 (some d)=Xw d:=nr rfl
theorem A70(x:Operand)(e:TypeId)(xs:List D):EN pm s x (.sl e xs)=some (e,xs,none):=nr rfl
theorem A19(u:Tmp)(e:TypeId)(xs:List D):EN pm s (.tmp u) (.own e xs)=some (e,xs,some ([u],s.k u,s.m u)):=nr rfl
def A1A(L:AA)(n m:Nat):Option D→Option (TypeId×List D×Option (AA×Nat×Nat))
 |some (.own e xs)=>some (e,xs,some (L,n,m))
 |_=>none
theorem A1B(L:AA)(n m:Nat)(e:TypeId)(xs:List D):A1A L n m (some (.own e xs))=some (e,xs,some (L,n,m)):=nr rfl
theorem A71(x:Operand)(L:AA)(n m:Nat):EN pm s x (.vw L n m)=A1A L n m (s.look pm L n m):=by
 simp only [EN]
 cases s.look pm L n m with
 |none=>rfl
 |some o=>cases o<;>rfl
def l8(T:Tys):Option (TypeId×List D×Option (AA×Nat×Nat))→Option D
 |some (e,xs,_)=>if T.known e then some (.int .i64 (T.len e xs))else none
 |none=>none
theorem A1C(e:TypeId)(xs:List D)(o:Option (AA×Nat×Nat))(hk:T.known e=true):l8 T (some (e,xs,o))=some (.int .i64 (T.len e xs)):=by simp [l8,hk]
def ln0(T:Tys)(pm:Pm)(s:St)(x:Operand)(d:D):Ty→Option D
 | .string=>match d with| .str b=>some (.int .i64 b.size)|_=>none
 | .slice _=>l8 T (EN pm s x d)
 |_=>none
theorem lnT(x:Operand)(d:D):MJ T pm s t x d=ln0 T pm s x d (T.ty t):=by
 unfold MJ ln0
 cases T.ty t with
 |slice e=>
  simp only
  cases EN pm s x d with
  |none=>rfl
  |some q=>rfl
 |string=>cases d<;>rfl
 |_=>rfl
theorem A1D(x:Operand)(e:TypeId)(xs:List D):O3 T pm s t x (.sl e xs)=MJ T pm s t x (.sl e xs):=nr rfl
theorem xG(x:Operand)(e:TypeId)(xs:List D):O3 T pm s t x (.own e xs)=MJ T pm s t x (.own e xs):=nr rfl
def lnW(T:Tys)(pm:Pm)(s:St)(t:TypeId)(x:Operand)(L:AA)(n m:Nat):Ty→Option D
 | .map _ _=>(s.lookM pm L n).map fun q=> .int .i64 q.2.2.length
 |_=>MJ T pm s t x (.vw L n m)
theorem A1E(x:Operand)(L:AA)(n m:Nat):O3 T pm s t x (.vw L n m)=lnW T pm s t x L n m (T.ty t):=by
 show(match T.ty t with| .map _ _=>X3 T pm s t x (.vw L n m)|_=>X0 T pm s t x (.vw L n m))=_
 unfold lnW X3
 cases h:T.ty t<;>simp only [VF]<;>first|rfl|(cases s.lookM pm L n<;>rfl)
theorem A74(T:Tys)(x:Operand)(L:AA)(n m:Nat)(e:TypeId):lnW T pm s t x L n m (.slice e)=MJ T pm s t x (.vw L n m):=nr rfl
theorem A1F(x:Operand)(e:TypeId)(xs:List D)(i:D):Qm T pm s t x (.sl e xs) i=E9 T pm s t x (.sl e xs) i:=nr rfl
theorem xH(x:Operand)(e:TypeId)(xs:List D)(i:D):Qm T pm s t x (.own e xs) i=E9 T pm s t x (.own e xs) i:=nr rfl
theorem A1G(x:Operand)(L:AA)(n m:Nat)(i:D):Qm T pm s t x (.vw L n m) i=E9 T pm s t x (.vw L n m) i:=nr rfl
theorem A75(x:Operand)(d:D)(e:TypeId):ln0 T pm s x d (.slice e)=l8 T (EN pm s x d):=nr rfl
theorem A1H(e:TypeId)(xs:List D)(h:T.size e=1):T.len e xs=xs.length:=by simp [Tys.len,h]
def xI(T:Tys)(e:TypeId)(n:Int):Option (TypeId×List D×Option (AA×Nat×Nat))→Option D
 |some (e',xs,o)=>
  if e'=e∧T.known e=true∧0≤n∧n.toNat<T.len e xs then
   match o with
   |none=>some (.cptr ((xs.drop (n.toNat*T.size e)).take (T.size e)))
   |some (L,a,b)=>some (.pe L (n.toNat*T.size e) a b)
  else none
 |none=>none
def ix0(T:Tys)(pm:Pm)(s:St)(x:Operand)(d:D)(n:Int):Ty→Option D
 | .slice e=>xI T e n (EN pm s x d)
 |_=>none
theorem ixT(x:Operand)(d:D)(k:IntKind)(n:Int):E9 T pm s t x d (.int k n)=ix0 T pm s x d n (T.ty t):=by
 unfold E9 ix0
 cases T.ty t with
 |slice e=>
  simp only
  cases EN pm s x d with
  |none=>rfl
  |some q=>rfl
 |_=>rfl
theorem A77(x:Operand)(d:D)(n:Int)(e:TypeId):ix0 T pm s x d n (.slice e)=xI T e n (EN pm s x d):=nr rfl
theorem A78(e:TypeId)(n:Int)(xs:List D)(hk:T.known e=true)(hz:T.size e=1)(hn:0≤n∧n.toNat<xs.length):xI T e n (some (e,xs,none))=some (.cptr [xs.getD n.toNat .undef]):=by
 simp only [xI,hk,hz,Tys.len,if_true];rw [if_pos ⟨trivial,trivial,hn.1,hn.2⟩,Nw,ah hn.2,JL,IC hn.2];rfl
theorem A79(e:TypeId)(n:Int)(xs:List D)(L:AA)(a b:Nat)(hk:T.known e=true)(hz:T.size e=1)(hn:0≤n∧n.toNat<xs.length):xI T e n (some (e,xs,some (L,a,b)))=some (.pe L n.toNat a b):=by
 simp only [xI,hk,hz,Tys.len,if_true];rw [if_pos ⟨trivial,trivial,hn.1,hn.2⟩,Nw]
end
section
variable {T:Tys} {pm:Pm} {s:St} {t:TypeId} (u:Tmp)
def YZ(pm:Pm)(s:St)(u:Tmp)(d:D):Option (D×St):=Ca pm (if d.hasObj then s.clr u else s) d
theorem A1I:take T pm s t (.tmp u)=YZ pm s u (s.v u):=nr rfl
theorem A1J(k:IntKind)(n:Int):Ca pm s (.int k n)=some (.int k n,s):=by simp [Ca]
theorem A7A(e:TypeId)(xs:List D):Ca pm s (.sl e xs)=some (.sl e xs,s):=by simp [Ca]
theorem A1K(e:TypeId)(xs:List D):Ca pm s (.own e xs)=some (.own e xs,s):=by simp [Ca]
theorem A7B(L:AA)(n m:Nat):Ca pm s (.vw L n m)=Md pm s L n m:=by simp [Ca]
def td1:Option (List D×St)→Option (D×St)
 |some r=>some (.agg r.1,r.2)
 |none=>none
theorem A7C(r:List D×St):td1 (some r)=some (.agg r.1,r.2):=nr rfl
theorem A1M(xs:List D):Ca pm s (.agg xs)=td1 (Eg pm s xs):=by simp only [Ca];cases Eg pm s xs<;>rfl
def td2(pm:Pm)(ds:List D):Option (D×St)→Option (List D×St)
 |some r=>(Eg pm r.2 ds).map fun q=>(r.1::q.1,q.2)
 |none=>none
theorem A7D(ds:List D)(d:D):td2 pm ds (some (d,s))=(Eg pm s ds).map fun q=>(d::q.1,q.2):=nr rfl
theorem xJ:Eg pm s []=some ([],s):=by simp [Eg]
theorem l9(d:D)(ds:List D):Eg pm s (d::ds)=td2 pm ds (Ca pm s d):=by simp only [Eg];cases Ca pm s d<;>rfl
theorem A1N(k:IntKind)(n:Int):YZ pm s u (.int k n)=some (.int k n,s):=by simp [YZ,Ca,D.hasObj]
theorem xK(b:Bool):YZ pm s u (.bool b)=some (.bool b,s):=by simp [YZ,Ca,D.hasObj]
theorem A7E(e:TypeId)(xs:List D):YZ pm s u (.sl e xs)=some (.sl e xs,s):=by simp [YZ,Ca,D.hasObj]
theorem A1O(e:TypeId)(xs:List D):YZ pm s u (.own e xs)=some (.own e xs,s.clr u):=by simp [YZ,Ca,D.hasObj]
theorem A1P(f:FuncId)(xs:List D):YZ pm s u (.clo f xs)=some (.clo f xs,s):=by simp [YZ,Ca,D.hasObj]
theorem A7F(L:AA)(n m:Nat):YZ pm s u (.vw L n m)=Md pm s L n m:=by simp [YZ,Ca,D.hasObj]
theorem A1Q(xs:List D):YZ pm s u (.agg xs)=td1 (Eg pm (if Al xs then s.clr u else s) xs):=by
 simp only [YZ,D.hasObj];rw [A1M];rfl
theorem xL:Al []=false:=by simp [Al]
theorem aK(d:D)(ds:List D):Al (d::ds)=(d.hasObj||Al ds):=by simp [Al]
theorem A7G(e:TypeId)(xs:List D):(D.sl e xs).hasObj=false:=by simp [D.hasObj]
theorem A1R(e:TypeId)(xs:List D):(D.own e xs).hasObj=true:=by simp [D.hasObj]
theorem A1S(xs:List D):(D.box xs).hasObj=true:=by simp [D.hasObj]
theorem A7H(L:AA)(n m:Nat):(D.vw L n m).hasObj=false:=by simp [D.hasObj]
theorem hoU:D.undef.hasObj=false:=by simp [D.hasObj]
theorem A1T(xs:List D):(D.tup xs).hasObj=Al xs:=by simp [D.hasObj]
def pl1(s:St)(r:Nat):Option D→Option (D×St)
 |some c=>some (c,s.set [r] .undef)
 |none=>none
theorem A7J(r:Nat)(c:D):pl1 s r (some c)=some (c,s.set [r] .undef):=nr rfl
theorem A1U(r n m:Nat)(hw:pm.wr r=true):Md pm s [r] n m=pl1 s r (s.look pm [r] n m):=by
 unfold Md
 cases s.look pm [r] n m with
 |none=>rfl
 |some c=>simp [hw,St.get,pl1]
def pl2(s:St)(L:AA)(o:Option D):Option D→Option (D×St)
 |some c=>match o with
  |some (.own _ _)=>(Dx c).map fun c'=>(c',s.set L c')
  |_=>some (c,s.set L .undef)
 |none=>none
theorem A7K(L:AA)(xs:List D)(c:D):pl2 s L (some (.box xs)) (some c)=some (c,s.set L .undef):=nr rfl
theorem A1V(u' c n m:Nat)(p:AA)(hw:pm.wr u'=true):Md pm s (u'::c::p) n m=pl2 s (u'::c::p) (s.get (u'::c::p).dropLast) (s.look pm (u'::c::p) n m):=by
 unfold Md
 cases s.look pm (u'::c::p) n m with
 |none=>rfl
 |some d=>simp only [Tn,hw,if_true,pl2];rfl
theorem A7L(r:Nat):s.get [r]=some (s.v r):=nr rfl
theorem A1W(d:D):Bc d []=some d:=by cases d<;>rfl
theorem A1X(e:TypeId)(xs:List D)(c:Nat)(p:AA):Bc (.own e xs) (c::p)=(xs[c]?).bind fun d=>Bc d p:=nr rfl
theorem A1Y(xs:List D)(c:Nat)(p:AA):Bc (.box xs) (c::p)=(xs[c]?).bind fun d=>Bc d p:=nr rfl
theorem A1Z(d x:D):Gv d [] x=x:=by cases d<;>rfl
theorem A1a(e:TypeId)(xs:List D)(c:Nat)(p:AA)(x:D):Gv (.own e xs) (c::p) x= .own e (xs.set c (Gv (xs.getD c .undef) p x)):=nr rfl
theorem A1b(xs:List D)(c:Nat)(p:AA)(x:D):Gv (.box xs) (c::p) x= .box (xs.set c (Gv (xs.getD c .undef) p x)):=nr rfl
end
section
variable {T:Tys} {pm:Pm} {s:St} {t:TypeId}
def Ya(T:Tys)(pm:Pm)(t:TypeId)(ax:Operand):Option (D×St)→Option St
 |none=>none
 |some (d,s1)=>
  match ev T s1 t ax with
  |none=>none
  |some ad=>
   match Ie pm s1 ax ad with
   |none=>none
   |some (L,c,o)=>
    if T.known t&&pm.wr (L.headD 0)&&d.asCells.all Dh&&(T.size t==d.asCells.length)&&(T.isStruct t==d.isAgg)&&decide (c+T.size t≤o.cells.length)then
     let s2:=s1.set L (o.withCells (D5 o.cells c d.asCells))
     some (if d.hasObj||Al o.cells then s2.bump (L.headD 0)else s2)
    else none
theorem xM(ax x:Operand):Im T pm s t ax x=Ya T pm t ax (take T pm s t x):=by
 unfold Im Gf Ya;rcases take T pm s t x with _|⟨d,s1⟩<;>rfl
def tm1(T:Tys)(pm:Pm)(s:St)(t:TypeId)(u:Tmp):D→Option (D×St)
 | .vw L n m=>RZ pm s L n m
 |_=>take T pm s t (.tmp u)
theorem xN(u:Tmp):K3 T pm s t (.tmp u)=tm1 T pm s t u (s.v u):=by
 unfold K3;simp only [ev]
 cases s.v u<;>rfl
def tm2(s:St)(L:AA):Option D→Option (D×St)
 |some c=>some (c,s.set L .undef)
 |none=>none
theorem A7O(u:Tmp)(L:AA)(n m:Nat)(hw:pm.wr (L.headD 0)=true):tm1 T pm s t u (.vw L n m)=tm2 s L (s.look pm L n m):=by
 show RZ pm s L n m=_
 unfold RZ tm2
 cases s.look pm L n m with
 |none=>rfl
 |some c=>simp only [hw,if_true]
theorem xO(u:Tmp)(e:TypeId)(xs:List D):tm1 T pm s t u (.own e xs)=take T pm s t (.tmp u):=nr rfl
theorem A7P(L:AA)(c:D):tm2 s L (some c)=some (c,s.set L .undef):=nr rfl
def nK(s1:St)(L:AA)(c:Nat)(d:D):Option D→Option St
 |none=>none
 |some o=>if c<o.cells.length then(if d.hasObj||Al o.cells then some ((s1.set L (o.withCells (o.cells.set c d))).bump (L.headD 0))else some (s1.set L (o.withCells (o.cells.set c d))))else none
def sd1(T:Tys)(pm:Pm)(t:TypeId)(u:Tmp)(d:D)(s:St):D→Option St
 | .pe L c n m=>if T.known t&& !T.isStruct t&&pm.wr (L.headD 0)&&Dh d then nK s L c d (s.look pm L n m)else Ya T pm t (.tmp u) (some (d,s))
 | .vw L n m=>if T.known t&& !T.isStruct t&&pm.wr (L.headD 0)&&Dh d then nK s L 0 d (Ut s pm L n m)else Ya T pm t (.tmp u) (some (d,s))
 | .box xs=>if T.known t&& !T.isStruct t&&pm.wr u&&Dh d then nK s [u] 0 d (some (.box xs))else Ya T pm t (.tmp u) (some (d,s))
 |_=>Ya T pm t (.tmp u) (some (d,s))
theorem N9{d:D}(hd:Dh d=true):d.asCells=[d]∧d.isAgg=false:=by
 cases d<;>first|exact⟨rfl,rfl⟩|(simp [Dh]at hd)
theorem P6{T:Tys}{t:TypeId}(hs:T.isStruct t=false):T.size t=1:=by
 unfold Tys.isStruct at hs;unfold Tys.size
 cases hty:T.ty t<;>simp_all [Ty.isStruct,Ty.size]
theorem A7Q(u:Tmp)(d:D)(_:d.isAgg=false):Ya T pm t (.tmp u) (some (d,s))=sd1 T pm t u d s (s.v u):=by
 cases hv:s.v u<;>simp only [sd1]
 case pe L c n m=>
  split
  ·rename_i hc
   simp only [Hm,MR]at hc;obtain⟨⟨⟨hk,hs⟩,hw⟩,hd⟩:=hc;obtain⟨ha,hg⟩:=N9 hd;have hz:=P6 hs;simp only [Ya,ev,hv,Ie]
   cases s.look pm L n m with
   |none=>rfl
   |some o=>
    simp only [nK,hk,hw,ha,hz,hs,hg,Tq,hd,List.all_nil,Jn,OU,Bool.and_true,D5,beq_self_eq_true,JF];by_cases hc:c<o.cells.length
    ·have h1:c+1≤o.cells.length:=hc;simp only [hc,h1,decide_true,Bool.and_true,if_true];split<;>first|rfl|(rename_i hq;simp only [hq];rfl)
    ·have h1: ¬c+1≤o.cells.length:=hc;simp only [hc,h1,decide_false,Bool.and_false,KQ,if_false]
  ·rfl
 case vw L n m=>
  split
  ·rename_i hc
   simp only [Hm,MR]at hc;obtain⟨⟨⟨hk,hs⟩,hw⟩,hd⟩:=hc;obtain⟨ha,hg⟩:=N9 hd;have hz:=P6 hs;simp only [Ya,ev,hv,Ie,Ut]
   cases s.look pm L n m with
   |none=>rfl
   |some o=>
    cases o<;>try rfl
    rename_i xs
    simp only [nK,hk,hw,ha,hz,hs,hg,Tq,hd,List.all_nil,Jn,OU,Bool.and_true,D5,beq_self_eq_true,JF,D.cells];by_cases hc:0<xs.length
    ·have h1:1≤xs.length:=hc;simp only [hc,h1,decide_true,Bool.and_true,if_true];split<;>first|rfl|(rename_i hq;simp only [hq];rfl)
    ·have h1: ¬1≤xs.length:=hc;simp only [hc,h1,decide_false,Bool.and_false,KQ,if_false]
  ·rfl
 case box xs=>
  split
  ·rename_i hc
   simp only [Hm,MR]at hc;obtain⟨⟨⟨hk,hs⟩,hw⟩,hd⟩:=hc;obtain⟨ha,hg⟩:=N9 hd;have hz:=P6 hs;simp only [Ya,ev,hv,Ie];simp only [nK,hk,hw,ha,hz,hs,hg,Tq,hd,List.all_nil,Jn,OU,Bool.and_true,D5,beq_self_eq_true,JF,D.cells,Tn];by_cases hc:0<xs.length
   ·have h1:1≤xs.length:=hc;simp only [hc,h1,decide_true,Bool.and_true,if_true];split<;>first|rfl|(rename_i hq;simp only [hq];rfl)
   ·have h1: ¬1≤xs.length:=hc;simp only [hc,h1,decide_false,Bool.and_false,KQ,if_false]
  ·rfl
theorem A7R(u:Tmp)(d:D)(L:AA)(c n m:Nat)(hk:T.known t=true)(hs:T.isStruct t=false)(hw:pm.wr (L.headD 0)=true)(hd:Dh d=true):sd1 T pm t u d s (.pe L c n m)=nK s L c d (s.look pm L n m):=by
 simp [sd1,hk,hs,hd];intro h;simp_all
def bx1:Option D→Option D
 |some (.box xs)=>some (.box xs)
 |_=>none
theorem bxA(L:AA)(n m:Nat):Ut s pm L n m=bx1 (s.look pm L n m):=by
 unfold Ut bx1
 cases s.look pm L n m with
 |none=>rfl
 |some o=>cases o<;>rfl
theorem A7T(xs:List D):bx1 (some (.box xs))=some (.box xs):=nr rfl
theorem hdC(a:Nat)(l:AA)(d:Nat):List.headD (a::l) d=a:=nr rfl
theorem A7U(L:AA)(c:Nat)(d o:D):nK s L c d (some o)=if c<o.cells.length then(if d.hasObj||Al o.cells then some ((s.set L (o.withCells (o.cells.set c d))).bump (L.headD 0))else some (s.set L (o.withCells (o.cells.set c d))))else none:=nr rfl
theorem A1c(e:TypeId)(xs:List D):(D.own e xs).cells=xs:=nr rfl
theorem A1d(xs:List D):(D.box xs).cells=xs:=nr rfl
theorem A1e(e:TypeId)(xs ys:List D):(D.own e xs).withCells ys= .own e ys:=nr rfl
theorem A1f(xs ys:List D):(D.box xs).withCells ys= .box ys:=nr rfl
theorem A1g(k:IntKind)(n:Int):Dh (.int k n)=true:=nr rfl
theorem xP(b:Bool):Dh (.bool b)=true:=nr rfl
theorem A7V(e:TypeId)(xs:List D):Dh (.sl e xs)=true:=nr rfl
theorem A1h(e:TypeId)(xs:List D):Dh (.own e xs)=true:=nr rfl
theorem ceS(L:AA)(c:Nat)(o:D):ZV s L c (some o)=(o.cells[c]?).bind fun x=>DI (Gd s L c x):=nr rfl
theorem A7W(L:AA)(c:Nat)(e:TypeId)(xs:List D):DI (Gd s L c (.sl e xs))=some (.sl e xs):=nr rfl
theorem xQ(L:AA)(c:Nat)(xs:List D):DI (Gd s L c (.cptr xs))=some (.cptr xs):=nr rfl
theorem A7X(r:Nat)(p:AA):au s (r::p)= .vw (r::p) (s.k r) (s.m r):=nr rfl
def ap1(T:Tys)(pm:Pm)(e:TypeId)(ty:TypeId)(y:Operand):Option (D×St)→Option (D×St)
 |some (.own e1 xs,s1)=>
   match ev T s1 ty y with
   |some d=>
    match EN pm s1 y d with
    |some (e2,ys,_)=>
     if e1=e∧e2=e∧T.elem e=true∧ys.all Dh=true∧xs.length+ys.length<1099511627776 then
      if Al ys then
       match d,y with
       | .own _ _,.tmp u=>some (.own e (xs++ys),s1.clr u)
       |_,_=>none
      else some (.own e (xs++ys),s1)
     else none
    |none=>none
   |none=>none
 |_=>none
def az1(T:Tys)(e:TypeId):Option (D×St)→Option (D×St)
 |some (.own e1 xs,s1)=>if e1=e∧T.known e=true then some (.own e xs,s1)else none
 |_=>none
def az0(T:Tys)(pm:Pm)(s:St)(ty:TypeId)(x:Operand):Ty→Option (D×St)
 | .slice e=>az1 T e (take T pm s ty x)
 |_=>none
theorem A1k(ty:TypeId)(x:Operand):K5 T pm s ty x=az0 T pm s ty x (T.ty ty):=by
 unfold K5 az0
 cases T.ty ty with
 |slice e=>
  simp only [az1];rcases take T pm s ty x with _|⟨d,s1⟩
  ·rfl
  ·cases d<;>rfl
 |_=>rfl
theorem Vq{T:Tys}{e:TypeId}(hk:T.known e=true)(h4:T.size e≤4):T.elem e=true:=by simp [Tys.elem,hk,h4]
theorem A7Z(ty:TypeId)(x:Operand)(e:TypeId):az0 T pm s ty x (.slice e)=az1 T e (take T pm s ty x):=nr rfl
theorem A7a(e:TypeId)(xs:List D)(hk:T.known e=true):az1 T e (some (.own e xs,s))=some (.own e xs,s):=by simp [az1,hk]
def ap0(T:Tys)(pm:Pm)(s:St)(ty:TypeId)(x y:Operand):Ty→Option (D×St)
 | .slice e=>ap1 T pm e ty y (K3 T pm s ty x)
 |_=>none
theorem A7c(ty:TypeId)(x y:Operand):Gg T pm s ty x y=ap0 T pm s ty x y (T.ty ty):=by
 unfold Gg ap0
 cases T.ty ty with
 |slice e=>
  simp only [ap1];rcases K3 T pm s ty x with _|⟨d,s1⟩
  ·rfl
  ·cases d<;>rfl
 |_=>rfl
theorem A7d(ty:TypeId)(x y:Operand)(e:TypeId):ap0 T pm s ty x y (.slice e)=ap1 T pm e ty y (K3 T pm s ty x):=nr rfl
def ap2(T:Tys)(e e1:TypeId)(xs:List D)(s:St)(u:Tmp)(d:D):Option (TypeId×List D×Option (AA×Nat×Nat))→Option (D×St)
 |some (e2,ys,_)=>
     if e1=e∧e2=e∧T.elem e=true∧ys.all Dh=true∧xs.length+ys.length<1099511627776 then
      if Al ys then
       match d with
       | .own _ _=>some (.own e (xs++ys),s.clr u)
       |_=>none
      else some (.own e (xs++ys),s)
     else none
 |none=>none
theorem A7e(ty e e1:TypeId)(u:Tmp)(xs:List D):ap1 T pm e ty (.tmp u) (some (.own e1 xs,s))=ap2 T e e1 xs s u (s.v u) (EN pm s (.tmp u) (s.v u)):=by
 simp only [ap1,ev,ap2];rcases EN pm s (.tmp u) (s.v u)with _|⟨e2,ys,o⟩
 ·rfl
 ·simp only;split
  ·split
   ·cases s.v u<;>rfl
   ·rfl
  ·rfl
theorem A7f(e:TypeId)(u:Tmp)(xs ys:List D)(d:D)(o:Option (AA×Nat×Nat))(hk:T.known e=true)(h4:T.size e≤4)(hy:ys.all Dh=true)(hno:Al ys=false)(hl:xs.length+ys.length<1099511627776):
  ap2 T e e xs s u d (some (e,ys,o))=some (.own e (xs++ys),s):=by
 simp only [ap2];rw [if_pos ⟨trivial,trivial,Vq hk h4,hy,hl⟩,hno];simp
end
section
variable {E:Env} {pm:Pm} {s:St} {dst:Option Tmp}
def Xx(a:D)(l:List (AA×D)):Option (List D×List (AA×D))→Option (List D×List (AA×D))
 |some (as,ls)=>some (a::as,l++ls)
 |none=>none
theorem xR(a:D)(l:List (AA×D))(as:List D)(ls:List (AA×D)):Xx a l (some (as,ls))=some (a::as,l++ls):=nr rfl
def Qf(E:Env)(lend:Bool)(pm:Pm)(s:St)(j:Nat)(rest:List (Operand×TypeId)):Option (D×List (AA×D))→Option (List D×List (AA×D))
 |some (a,l)=>Xx a l (Dw E lend pm s (j+l.length) rest)
 |none=>none
theorem xS(lend:Bool)(j:Nat)(rest:List (Operand×TypeId))(a:D)(l:List (AA×D)):Qf E lend pm s j rest (some (a,l))=Xx a l (Dw E lend pm s (j+l.length) rest):=nr rfl
theorem A1l(lend:Bool)(j:Nat):Dw E lend pm s j []=some ([],[]):=nr rfl
theorem A1m(lend:Bool)(j:Nat)(u:Tmp)(t:TypeId)(rest:List (Operand×TypeId)):Dw E lend pm s j ((.tmp u,t)::rest)=Qf E lend pm s j rest (KS E.T lend pm s j [u] (s.v u)):=by
 simp only [Dw,ev];rcases KS E.T lend pm s j [u] (s.v u)with _|⟨a,l⟩
 ·rfl
 ·simp only [Qf];rcases Dw E lend pm s (j+l.length) rest with _|⟨as,ls⟩<;>rfl
def aC(E:Env)(lend:Bool)(pm:Pm)(s:St)(j:Nat)(rest:List (Operand×TypeId)):Option D→Option (List D×List (AA×D))
 |some d=>Qf E lend pm s j rest (KS E.T lend pm s j [] d)
 |none=>none
theorem aCS(lend:Bool)(j:Nat)(rest:List (Operand×TypeId))(d:D):aC E lend pm s j rest (some d)=Qf E lend pm s j rest (KS E.T lend pm s j [] d):=nr rfl
theorem arC(lend:Bool)(j:Nat)(v:Value)(t:TypeId)(rest:List (Operand×TypeId)):Dw E lend pm s j ((.const v,t)::rest)=aC E lend pm s j rest (ev E.T s t (.const v)):=by
 simp only [Dw]
 cases ev E.T s t (.const v)with
 |none=>rfl
 |some d=>
  simp only [aC];rcases KS E.T lend pm s j [] d with _|⟨a,l⟩
  ·rfl
  ·simp only [Qf];rcases Dw E lend pm s (j+l.length) rest with _|⟨as,ls⟩<;>rfl
theorem arF(lend:Bool)(j:Nat)(f:FuncId)(t:TypeId)(rest:List (Operand×TypeId)):Dw E lend pm s j ((.func f,t)::rest)=Qf E lend pm s j rest (KS E.T lend pm s j [] (.clo f [])):=by
 simp only [Dw,ev];rcases KS E.T lend pm s j [] (.clo f [])with _|⟨a,l⟩
 ·rfl
 ·simp only [Qf];rcases Dw E lend pm s (j+l.length) rest with _|⟨as,ls⟩<;>rfl
variable (lend:Bool) (j:Nat) (L:AA)
theorem A1n(T:Tys)(k:IntKind)(n:Int):KS T lend pm s j L (.int k n)=EO lend pm s j L (.int k n):=nr rfl
theorem A7g(T:Tys)(e:TypeId)(xs:List D):KS T lend pm s j L (.sl e xs)=EO lend pm s j L (.sl e xs):=nr rfl
theorem A1o(T:Tys)(f:FuncId)(xs:List D):KS T lend pm s j L (.clo f xs)=EO lend pm s j L (.clo f xs):=nr rfl
theorem A1p(T:Tys)(e:TypeId)(xs:List D):KS T lend pm s j L (.own e xs)=EO lend pm s j L (.own e xs):=nr rfl
theorem A7h(T:Tys)(M:AA)(n m:Nat):KS T lend pm s j L (.vw M n m)=EO lend pm s j L (.vw M n m):=nr rfl
theorem A1q(T:Tys)(xs:List D):KS T lend pm s j L (.agg xs)=EO lend pm s j L (.agg xs):=nr rfl
theorem A1r(k:IntKind)(n:Int):EO lend pm s j L (.int k n)=some (.int k n,[]):=nr rfl
theorem A7i(e:TypeId)(xs:List D):EO lend pm s j L (.sl e xs)=some (.sl e xs,[]):=nr rfl
theorem A1s(f:FuncId)(xs:List D):EO lend pm s j L (.clo f xs)=some (.clo f xs,[]):=nr rfl
def fz1(l:List (AA×D)):Option D→Option (D×List (AA×D))
 |some c=>some (c,l)
 |none=>none
theorem A7j(l:List (AA×D))(c:D):fz1 l (some c)=some (c,l):=nr rfl
theorem A1t(e:TypeId)(xs:List D):EO false pm s j L (.own e xs)=fz1 [(L,.own e xs)] (Dx (.own e xs)):=by
 show((Dx (.own e xs)).map fun c'=>(c',[(L,D.own e xs)]))=_
 cases Dx (.own e xs)<;>rfl
def fz2(L:AA):Option D→Option (D×List (AA×D))
 |some c=>fz1 [(L,c)] (Dx c)
 |none=>none
theorem A7l(c:D):fz2 L (some c)=fz1 [(L,c)] (Dx c):=nr rfl
theorem A7m(M:AA)(n m:Nat):EO false pm s j L (.vw M n m)=fz2 M (s.look pm M n m):=by
 simp only [EO,Et]
 cases s.look pm M n m with
 |none=>rfl
 |some c=>simp only [fz2];cases Dx c<;>rfl
theorem xU(e:TypeId)(xs:List D):EO true pm s j L (.own e xs)=some (.vw [G+j] 0 0,[(L,.own e xs)]):=nr rfl
def ln2(j:Nat)(L:AA):Option D→Option (D×List (AA×D))
 |some c=>some (.vw [G+j] 0 0,[(L,c)])
 |none=>none
theorem A7n(c:D):ln2 j L (some c)=some (.vw [G+j] 0 0,[(L,c)]):=nr rfl
theorem A1u(M:AA)(n m:Nat):EO true pm s j L (.vw M n m)=ln2 j M (s.look pm M n m):=by
 simp only [EO,Et]
 cases s.look pm M n m<;>rfl
def ag1:Option (List D×List (AA×D))→Option (D×List (AA×D))
 |some r=>some (.agg r.1,r.2)
 |none=>none
theorem A7o(r:List D×List (AA×D)):ag1 (some r)=some (.agg r.1,r.2):=nr rfl
theorem A1v(xs:List D):EO lend pm s j L (.agg xs)=ag1 (EU lend pm s L j 0 xs):=by
 simp only [EO]
 cases EU lend pm s L j 0 xs<;>rfl
def gp(lend:Bool)(pm:Pm)(s:St)(L0:AA)(j i:Nat)(ds:List D):Option (D×List (AA×D))→Option (List D×List (AA×D))
 |some (a,l)=>Xx a l (EU lend pm s L0 (j+l.length) (i+1) ds)
 |none=>none
theorem xV(i:Nat)(ds:List D)(a:D)(l:List (AA×D)):gp lend pm s L j i ds (some (a,l))=Xx a l (EU lend pm s L (j+l.length) (i+1) ds):=nr rfl
theorem A1w(i:Nat):EU lend pm s L j i []=some ([],[]):=nr rfl
theorem xW(i:Nat)(d:D)(ds:List D)(h:d.isAgg=false):EU lend pm s L j i (d::ds)=gp lend pm s L j i ds (EO lend pm s j (L++[i]) d):=by
 have:EO lend pm s j (L++[i]) d=Et lend pm s j (L++[i]) d:=by cases d<;>first|rfl|(simp [D.isAgg]at h)
 rw [this];simp only [EU];rcases Et lend pm s j (L++[i]) d with _|⟨a,l⟩
 ·rfl
 ·simp only [gp];rcases EU lend pm s L (j+l.length) (i+1) ds with _|⟨as,ls⟩<;>rfl
theorem A1x(k:IntKind)(n:Int):(D.int k n).isAgg=false:=nr rfl
theorem xX(b:Bool):(D.bool b).isAgg=false:=nr rfl
theorem A7p(e:TypeId)(xs:List D):(D.sl e xs).isAgg=false:=nr rfl
theorem A1y(e:TypeId)(xs:List D):(D.own e xs).isAgg=false:=nr rfl
theorem A7q(M:AA)(n m:Nat):(D.vw M n m).isAgg=false:=nr rfl
def cb1(E:Env)(pm:Pm)(s:St)(dst:Option Tmp)(f:FuncId)(caps:List D):Option (List D×List (AA×D))→Option St
 |none=>none
 |some (as,ls)=>
  match E.call f (as++caps) []with
  |some (r,_)=>
   if E8 r then
    if Ez (ls.map (·.1))&&ls.all (fun l=>pm.wr (l.1.headD 0))then(I8 ls).map fun ls'=>(back false s ls').putO dst r else none
   else some (s.putO dst r)
  |none=>none
theorem cdB(f:FuncId)(xs:List (Operand×TypeId))(caps:List D)(h:E.lends f=false):GH E pm s dst f xs caps=cb1 E pm s dst f caps (Dw E false pm s 0 xs):=by
 unfold GH cb1;rw [h];simp only [KQ,if_false];rcases Dw E false pm s 0 xs with _|⟨as,ls⟩<;>rfl
def xY(pm:Pm)(s:St)(dst:Option Tmp)(ls:List (AA×D)):Option (D×List D)→Option St
 |some (r,_)=>
   if E8 r then
    if Ez (ls.map (·.1))&&ls.all (fun l=>pm.wr (l.1.headD 0))then(I8 ls).map fun ls'=>(back false s ls').putO dst r else none
   else some (s.putO dst r)
 |none=>none
theorem A7r(f:FuncId)(caps as:List D)(ls:List (AA×D)):cb1 E pm s dst f caps (some (as,ls))=xY pm s dst ls (E.call f (as++caps) []):=by
 simp only [cb1];rcases E.call f (as++caps) []with _|⟨r,o⟩<;>rfl
theorem A7s(ls:List (AA×D))(r:D)(o:List D)(h:E8 r=false):xY pm s dst ls (some (r,o))=some (s.putO dst r):=by simp [xY,h]
theorem A7t(r:D)(o:List D):xY pm s dst [] (some (r,o))=some (s.putO dst r):=by
 simp only [xY];split<;>rfl
def cl1(E:Env)(pm:Pm)(s:St)(dst:Option Tmp)(f:FuncId)(caps:List D):Option (List D×List (AA×D))→Option St
 |none=>none
 |some (as,ls)=>
   if Ez (ls.map (·.1))&&ls.all (fun l=>pm.wr (l.1.headD 0))&&ls.all (fun l=>Tg l.2)then
    match E.call f (as++caps) (ls.map (·.2))with
    |some (r,outs)=>if outs.length=ls.length then some ((JV s (ls.map (·.1)) outs).putO dst r)else none
    |none=>none
   else none
theorem cdL(f:FuncId)(xs:List (Operand×TypeId))(caps:List D)(h:E.lends f=true):GH E pm s dst f xs caps=cl1 E pm s dst f caps (Dw E true pm s 0 xs):=by
 unfold GH cl1;rw [h];simp only [if_true];rcases Dw E true pm s 0 xs with _|⟨as,ls⟩<;>rfl
def cl2(s:St)(dst:Option Tmp)(ls:List (AA×D)):Option (D×List D)→Option St
 |some (r,outs)=>if outs.length=ls.length then some ((JV s (ls.map (·.1)) outs).putO dst r)else none
 |none=>none
theorem A7v(f:FuncId)(caps as:List D)(ls:List (AA×D))(h:(Ez (ls.map (·.1))&&ls.all (fun l=>pm.wr (l.1.headD 0))&&ls.all (fun l=>Tg l.2))=true):cl1 E pm s dst f caps (some (as,ls))=cl2 s dst ls (E.call f (as++caps) (ls.map (·.2))):=by
 simp only [cl1,h,if_true];rcases E.call f (as++caps) (ls.map (·.2))with _|⟨r,o⟩<;>rfl
theorem A7w(ls:List (AA×D))(r:D)(outs:List D)(h:outs.length=ls.length):cl2 s dst ls (some (r,outs))=some ((JV s (ls.map (·.1)) outs).putO dst r):=by simp [cl2,h]
end
theorem A1z(k:IntKind)(n:Int):E8 (.int k n)=false:=by simp [E8]
theorem xZ(b:Bool):E8 (.bool b)=false:=by simp [E8]
theorem A20(e:TypeId)(xs:List D):E8 (.own e xs)=H6 xs:=by simp [E8]
theorem A21(xs:List D):E8 (.agg xs)=H6 xs:=by simp [E8]
theorem A22(xs:List D):E8 (.tup xs)=H6 xs:=by simp [E8]
theorem xc:H6 []=false:=by simp [H6]
theorem lC(d:D)(ds:List D):H6 (d::ds)=(E8 d||H6 ds):=by simp [H6]
theorem A23(k:IntKind)(n:Int):Dx (.int k n)=some (.int k n):=by simp [Dx]
theorem xe(b:Bool):Dx (.bool b)=some (.bool b):=by simp [Dx]
theorem A7x(e:TypeId)(xs:List D):Dx (.sl e xs)=some (.sl e xs):=by simp [Dx]
theorem A24(f:FuncId)(xs:List D):Dx (.clo f xs)=some (.clo f xs):=by simp [Dx]
def fzM(f:List D→D):Option (List D)→Option D
 |some xs=>some (f xs)
 |none=>none
theorem A7y(f:List D→D)(xs:List D):fzM f (some xs)=some (f xs):=nr rfl
theorem nL(e:TypeId)(xs:List D):Dx (.own e xs)=fzM (.sl e) (Ey xs):=by simp only [Dx];cases Ey xs<;>rfl
theorem A26(xs:List D):Dx (.box xs)=fzM .cptr (Ey xs):=by simp only [Dx];cases Ey xs<;>rfl
theorem A27(xs:List D):Dx (.agg xs)=fzM .agg (Ey xs):=by simp only [Dx];cases Ey xs<;>rfl
theorem A28(xs:List D):Dx (.tup xs)=fzM .tup (Ey xs):=by simp only [Dx];cases Ey xs<;>rfl
theorem xf:Ey []=some []:=by simp [Ey]
def fzC:Option D→Option (List D)→Option (List D)
 |some d,some ds=>some (d::ds)
 |_,_=>none
theorem A7z(d:D)(ds:List D):fzC (some d) (some ds)=some (d::ds):=nr rfl
theorem aL(d:D)(ds:List D):Ey (d::ds)=fzC (Dx d) (Ey ds):=by
 simp only [Ey];cases Dx d<;>cases Ey ds<;>rfl
theorem A80(d:D):Tg d=(Dx d).isSome:=nr rfl
section
variable {T:Tys} {s:St}
def jy(n:Nat):Option (D×St)→Option (D×List D)
 |none=>none
 |some (r,s')=>if Tg r&&((List.range n).map fun j=>s'.v (G+j)).all dX then some (r,(List.range n).map fun j=>s'.v (G+j))else none
theorem fiD(n:Nat)(rs:List ResultVar):Tw T n rs s=jy n (KW T s rs):=by
 unfold Tw jy;rcases KW T s rs with _|⟨r,s'⟩<;>rfl
theorem fi0(r:D):jy 0 (some (r,s))=if Tg r then some (r,[])else none:=by simp [jy]
theorem fiA(r:D):jy 1 (some (r,s))=if Tg r&&dX (s.v 100000)then some (r,[s.v 100000])else none:=by
 simp [jy,G,List.range_succ]
theorem fiB(r:D):jy 2 (some (r,s))=if Tg r&&(dX (s.v 100000)&&dX (s.v 100001))then some (r,[s.v 100000,s.v 100001])else none:=by
 simp [jy,G,List.range_succ,and_assoc]
theorem fiC(r:D):jy 3 (some (r,s))=if Tg r&&(dX (s.v 100000)&&(dX (s.v 100001)&&dX (s.v 100002)))then some (r,[s.v 100000,s.v 100001,s.v 100002])else none:=by
 simp [jy,G,List.range_succ,and_assoc]
theorem xg(e:TypeId)(xs:List D):dX (.own e xs)=(Dx (.own e xs)).isSome:=nr rfl
theorem xh(xs:List D):dX (.box xs)=(Dx (.box xs)).isSome:=nr rfl
theorem re1(r:ResultVar):KW T s [r]=Rk T s r:=nr rfl
def reT:Option (List D×St)→Option (D×St)
 |some q=>some (.tup q.1,q.2)
 |none=>none
theorem A81(q:List D×St):reT (some q)=some (.tup q.1,q.2):=nr rfl
theorem re2(r r':ResultVar)(rs:List ResultVar):KW T s (r::r'::rs)=reT (LD T s (r::r'::rs)):=by
 show((LD T s (r::r'::rs)).map fun q=>(D.tup q.1,q.2))=_
 cases LD T s (r::r'::rs)<;>rfl
theorem re0:KW T s []=some (.tup [],s):=nr rfl
theorem A29(t:Tmp):Rk T s (.tmp t)=YZ Pm.all s t (s.v t):=nr rfl
theorem A2A:LD T s []=some ([],s):=nr rfl
def rdN(T:Tys)(rs:List ResultVar):Option (D×St)→Option (List D×St)
 |some (d,s)=>(LD T s rs).map fun p=>(d::p.1,p.2)
 |none=>none
theorem A82(rs:List ResultVar)(d:D):rdN T rs (some (d,s))=(LD T s rs).map fun p=>(d::p.1,p.2):=nr rfl
theorem xk(r:ResultVar)(rs:List ResultVar):LD T s (r::rs)=rdN T rs (Rk T s r):=by
 simp only [LD];rcases Rk T s r with _|⟨d,s'⟩<;>rfl
theorem A83(r:Nat):Pm.all.rd r=true:=nr rfl
theorem A84(r:Nat):Pm.all.wr r=true:=nr rfl
def XW(s:St)(dst:Option Tmp)(u:Tmp)(i:Nat):Option D→Option St
 |none=>none
 |some (.agg ys)=>JY s dst (DI (.agg ((List.range ys.length).map fun j=>Gd s [u,i] j (ys.getD j .undef))))
 |some c=>JY s dst (DI (Gd s [u] i c))
theorem A2B(dst:Option Tmp)(u:Tmp)(xs:List D)(i:Nat):Hq s dst (.tmp u) (.tup xs) i=XW s dst u i xs[i]? :=by
 simp only [Hq];rcases xs[i]? with _|c
 ·rfl
 ·cases c<;>first|exact KE s dst _|rfl
theorem A2C(dst:Option Tmp)(u:Tmp)(i:Nat)(k:IntKind)(n:Int):XW s dst u i (some (.int k n))=some (s.putO dst (.int k n)):=by simp [XW,DI,Gd,D.hasObj,JY]
theorem xm(dst:Option Tmp)(u:Tmp)(i:Nat)(b:Bool):XW s dst u i (some (.bool b))=some (s.putO dst (.bool b)):=by simp [XW,DI,Gd,D.hasObj,JY]
theorem A85(dst:Option Tmp)(u:Tmp)(i:Nat)(e:TypeId)(xs:List D):XW s dst u i (some (.sl e xs))=some (s.putO dst (.sl e xs)):=by simp [XW,DI,Gd,D.hasObj,JY]
theorem A2D(dst:Option Tmp)(u:Tmp)(i:Nat)(e:TypeId)(xs:List D):XW s dst u i (some (.own e xs))=some (s.putO dst (.vw [u,i] (s.k u) (s.m u))):=by simp [XW,DI,Gd,D.hasObj,JY,au]
theorem A2E(xs:List D)(c:Nat)(p:AA):Bc (.tup xs) (c::p)=(xs[c]?).bind fun d=>Bc d p:=nr rfl
theorem A86(L:AA)(xs:List D)(c:D):pl2 s L (some (.tup xs)) (some c)=some (c,s.set L .undef):=nr rfl
theorem A2F(deep:Bool):back deep s []=s:=nr rfl
theorem bkT(t:Nat)(p:AA)(c:D)(rest:List (AA×D)):back true s ((t::p,c)::rest)=back true ((s.set (t::p) c).bump t) rest:=nr rfl
theorem bkF(t:Nat)(p:AA)(c:D)(rest:List (AA×D)):back false s ((t::p,c)::rest)=back false (s.set (t::p) c) rest:=nr rfl
theorem bkE(deep:Bool)(c:D)(rest:List (AA×D)):back deep s (([],c)::rest)=back deep s rest:=nr rfl
theorem bkL(Ls:List AA)(outs:List D):JV s Ls outs=back true (back false s (Ls.map fun L=>(L,.undef))) (Ls.zip outs):=nr rfl
theorem A2G:Ez []=true:=nr rfl
theorem xn(L:AA)(Ls:List AA):Ez (L::Ls)=((L.isEmpty||Ls.all fun M=>M.isEmpty||(!L.isPrefixOf M&& !M.isPrefixOf L))&&Ez Ls):=nr rfl
theorem ipC(a b:Nat)(l m:AA):List.isPrefixOf (a::l) (b::m)=(a==b&&List.isPrefixOf l m):=nr rfl
theorem ipN(l:AA):List.isPrefixOf [] l=true:=by cases l<;>rfl
theorem ipE(a:Nat)(l:AA):List.isPrefixOf (a::l) []=false:=nr rfl
theorem ieC(a:Nat)(l:AA):List.isEmpty (a::l)=false:=nr rfl
theorem ieN:List.isEmpty ([]:AA)=true:=nr rfl
end
section
variable {T:Tys} {pm:Pm} {s:St}
def fl1(T:Tys)(pm:Pm)(tf:Nat→TypeId)(sz:Nat)(cs:List D)(i:Nat)(rest:List (Nat×Operand)):Option (D×St)→Option (List D×St)
 |none=>none
 |some (d,s1)=>if d.asCells.length=sz∧i*sz+sz≤cs.length then H7 T pm tf sz s1 (D5 cs (i*sz) d.asCells) rest else none
theorem A2H(tf:Nat→TypeId)(sz:Nat)(cs:List D):H7 T pm tf sz s cs []=some (cs,s):=nr rfl
theorem xq(tf:Nat→TypeId)(sz:Nat)(cs:List D)(i:Nat)(x:Operand)(rest:List (Nat×Operand)):H7 T pm tf sz s cs ((i,x)::rest)=fl1 T pm tf sz cs i rest (take T pm s (tf i) x):=by
 simp only [H7];rcases take T pm s (tf i) x with _|⟨d,s1⟩<;>rfl
theorem A88(tf:Nat→TypeId)(cs:List D)(i:Nat)(rest:List (Nat×Operand))(d:D)(h:d.isAgg=false):fl1 T pm tf 1 cs i rest (some (d,s))=if i+1≤cs.length then H7 T pm tf 1 s (cs.set i d) rest else none:=by
 have ha:d.asCells=[d]:=by cases d<;>first|rfl|(simp [D.isAgg]at h)
 simp only [fl1,ha,Jn,OU,JF,Nw,true_and,D5]
end
section
variable (pm:Pm) (s:St) (u:Tmp)
def ZW(pm:Pm)(u:Tmp)(d:D):Bool:= !d.hasObj||d.isObj||pm.wr u
theorem mvT:IJ pm s (.move (.tmp u))=ZW pm u (s.v u):=nr rfl
theorem A89(v:Value):IJ pm s (.move (.const v))=true:=nr rfl
theorem xu(k:IntKind)(n:Int):ZW pm u (.int k n)=true:=by simp [ZW,D.hasObj]
theorem lD(b:Bool):ZW pm u (.bool b)=true:=by simp [ZW,D.hasObj]
theorem A2I(e:TypeId)(xs:List D):ZW pm u (.sl e xs)=true:=by simp [ZW,D.hasObj]
theorem xw(e:TypeId)(xs:List D):ZW pm u (.own e xs)=true:=by simp [ZW,D.isObj]
theorem A2J(L:AA)(n m:Nat):ZW pm u (.vw L n m)=true:=by simp [ZW,D.hasObj]
theorem A8A(v:Value):ZW pm u (.konst v)=true:=by simp [ZW,D.hasObj]
theorem xx(xs:List D):ZW pm u (.tup xs)=(!Al xs||pm.wr u):=by simp [ZW,D.hasObj,D.isObj]
theorem gq(x:Operand):IJ pm s (.assign x)=true:=nr rfl
theorem xy(a b c:Operand):IJ pm s (.pick a b c)=true:=nr rfl
theorem lF(t:TypeId):IJ pm s (.alloc t)=true:=nr rfl
theorem lG(t:TypeId)(p:Array (Nat×Operand)):IJ pm s (.build t p)=true:=nr rfl
theorem A8B(t:TypeId)(n:Nat)(p:Array (Nat×Operand)):IJ pm s (.buildSlice t n p)=true:=nr rfl
theorem xz(t:TypeId)(x:Operand):IJ pm s (.load t x)=true:=nr rfl
theorem lH(t:TypeId)(x y:Operand):IJ pm s (.store t x y)=true:=nr rfl
theorem A2K(o:BinOp)(t:TypeId)(x y:Operand)(t':TypeId):IJ pm s (.binOp o t x y t')=true:=nr rfl
theorem A8C(o:UnOp)(t:TypeId)(x:Operand):IJ pm s (.unOp o t x)=true:=nr rfl
theorem A8D(t:TypeId)(x:Operand)(a b c:Option Operand):IJ pm s (.slice t x a b c)=true:=nr rfl
theorem A8E(x:Operand):IJ pm s (.nilCheck x)=true:=nr rfl
theorem A8F(t:TypeId)(x:Operand)(i:Nat):IJ pm s (.fieldAddr t x i)=true:=nr rfl
theorem A8G(t:TypeId)(x i:Operand):IJ pm s (.indexAddr t x i)=true:=nr rfl
theorem A8H(x:Operand)(i:Nat):IJ pm s (.extract x i)=true:=nr rfl
theorem y5(c:Call):IJ pm s (.call c)=true:=nr rfl
theorem pmR(n r w:List Nat)(x:Nat):(PmL.pm ⟨n,r,w⟩).rd x=(n.contains x|| !r.contains x):=nr rfl
theorem pmW(n r w:List Nat)(x:Nat):(PmL.pm ⟨n,r,w⟩).wr x=w.contains x:=nr rfl
section
variable {E:Env} {dst:Option Tmp} {t ty:TypeId}
end
end
end Dv
namespace Dv
open Go
theorem IK(n:Int)(h: -9223372036854775808≤n∧n≤9223372036854775807):IntKind.i64.wrap n=n:=IntWalk.i64_in n h
section
variable {T:Tys} {pm:Pm} {s:St} {t:TypeId}
theorem RJ(xs:List Int)(i:Nat)(h:i<xs.length):(I9 xs)[i]? =some (.int .i64 (xs.getD i 0)):=by
 simp [I9,JL,h]
theorem Uu(x:Int)(xs:List Int):I9 (x::xs)= .int .i64 x::I9 xs:=nr rfl
def sls(e:TypeId)(xss:List (List Int)):List D:=xss.map fun xs=> .sl e (I9 xs)
variable {E:Env} {dst:Option Tmp} {ty:TypeId}
def A2L(e:TypeId)(dst:Option Tmp):Option (List D×St)→Option St
 |some (xs,s)=>some (s.putO dst (.own e xs))
 |none=>none
theorem A2M(e:TypeId)(xs:List D):A2L e dst (some (xs,s))=some (s.putO dst (.own e xs)):=nr rfl
def lI(dst:Option Tmp):Option (List D×St)→Option St
 |some (xs,s)=>some (s.putO dst (.agg xs))
 |none=>none
theorem A2N(xs:List D):lI dst (some (xs,s))=some (s.putO dst (.agg xs)):=nr rfl
theorem Sj(T:Tys){e:TypeId}(hs:T.isStruct e=false):T.size e=1∧T.zeros e=[T.zero1 e]:=by
 unfold Tys.isStruct at hs;unfold Tys.size Tys.zeros
 cases hty:T.ty e<;>simp_all [Ty.isStruct,Ty.size]
def y7(E:Env)(pm:Pm)(s:St)(dst:Option Tmp)(len:Nat)(parts:Array (Nat×Operand)):Ty→Option St
 | .slice e=>
   if len*E.T.size e≤4096∧E.T.known e=true then
    (H7 E.T pm (fun _=>e) (E.T.size e) s ((List.range (len*E.T.size e)).map fun j=>(E.T.zeros e).getD (j % E.T.size e) .undef) parts.toList).map fun r=>r.2.putO dst (.own e r.1)
   else none
 |_=>none
theorem y8(len:Nat)(parts:Array (Nat×Operand)):Rf E.T pm s dst t len parts=y7 E pm s dst len parts (E.T.ty t):=by
 unfold Rf y7
 cases E.T.ty t<;>rfl
theorem yBs(len:Nat)(parts:Array (Nat×Operand)):Kr E pm s dst (.buildSlice t len parts) ty=if ty=900004 then fcB pm dst (y7 E pm s dst len parts (E.T.ty t))else y7 E pm s dst len parts (E.T.ty t):=by
 rw [Si,y8];by_cases h:ty=900004
 ·rw [if_pos h,if_pos h];unfold fcB
  cases y7 E pm s dst len parts (E.T.ty t)<;>cases dst<;>rfl
 ·rw [if_neg h,if_neg h]
theorem A8I(len:Nat)(parts:Array (Nat×Operand))(e:TypeId)(hk:E.T.known e=true)(hs:E.T.isStruct e=false)(hl:len≤4096):
  y7 E pm s dst len parts (.slice e)=A2L e dst (H7 E.T pm (fun _=>e) 1 s (List.replicate len (E.T.zero1 e)) parts.toList):=by
 obtain⟨hz,hzz⟩:=Sj E.T hs
 have hrep:((List.range (len*1)).map fun j=>(E.T.zeros e).getD (j % 1) .undef)=List.replicate len (E.T.zero1 e):=by
  rw [hzz];apply List.ext_getElem
  ·simp
  ·intro i h1 h2;simp [Nat.mod_one]
 simp only [y7,hz];rw [if_pos ⟨by omega,hk⟩,hrep]
 rcases H7 E.T pm (fun _=>e) 1 s (List.replicate len (E.T.zero1 e)) parts.toList with _|⟨a,b⟩<;>rfl
def bdN(E:Env)(pm:Pm)(s:St)(dst:Option Tmp)(t:TypeId)(parts:Array (Nat×Operand)):Option St:=
 match E.T.ty t with
 | .struct fs=>if E.T.known t then lI dst (H7 E.T pm (fun i=>fs.getD i 0) 1 s (E.T.zeros t) parts.toList)else none
 |_=>none
def bd0(E:Env)(pm:Pm)(s:St)(dst:Option Tmp)(t:TypeId)(parts:Array (Nat×Operand)):Option (List (Nat×TypeId))→Option St
 |some fl=>if E.T.isStruct t&&E.T.known t then lI dst (Ip E.T pm fl s (E.T.zeros t) parts.toList)else none
 |none=>bdN E pm s dst t parts
theorem y9(parts:Array (Nat×Operand)):Kr E pm s dst (.build t parts) ty=bd0 E pm s dst t parts (E.T.nest t):=by
 rw [cK];unfold bd0 bdN
 cases E.T.nest t with
 |some fl=>
  simp only;split
  ·rcases Ip E.T pm fl s (E.T.zeros t) parts.toList with _|⟨a,b⟩<;>rfl
  ·rfl
 |none=>
  simp only
  cases E.T.ty t with
  |struct fs=>
   simp only;split
   ·rcases H7 E.T pm (fun i=>fs.getD i 0) 1 s (E.T.zeros t) parts.toList with _|⟨a,b⟩<;>rfl
   ·rfl
  |_=>rfl
theorem A8J(parts:Array (Nat×Operand))(fl:List (Nat×TypeId))(hk:E.T.known t=true)(hs:E.T.isStruct t=true):bd0 E pm s dst t parts (some fl)=lI dst (Ip E.T pm fl s (E.T.zeros t) parts.toList):=by
 simp [bd0,hk,hs]
def fn1(T:Tys)(pm:Pm)(fl:List (Nat×TypeId))(cs:List D)(off:Nat)(ty:TypeId)(rest:List (Nat×Operand)):Option (D×St)→Option (List D×St)
 |none=>none
 |some (d,s1)=>if d.asCells.length=T.size ty∧off+T.size ty≤cs.length then Ip T pm fl s1 (D5 cs off d.asCells) rest else none
theorem A2P(T:Tys)(fl:List (Nat×TypeId))(cs:List D):Ip T pm fl s cs []=some (cs,s):=nr rfl
def fn0(T:Tys)(pm:Pm)(fl:List (Nat×TypeId))(s:St)(cs:List D)(x:Operand)(rest:List (Nat×Operand)):Option (Nat×TypeId)→Option (List D×St)
 |none=>none
 |some (off,ty)=>fn1 T pm fl cs off ty rest (take T pm s ty x)
theorem yA(T:Tys)(fl:List (Nat×TypeId))(cs:List D)(i:Nat)(x:Operand)(rest:List (Nat×Operand)):Ip T pm fl s cs ((i,x)::rest)=fn0 T pm fl s cs x rest (fl[i]?):=by
 simp only [Ip];rcases fl[i]? with _|⟨off,ty⟩
 ·rfl
 ·simp only [fn0,fn1];rcases take T pm s ty x with _|⟨d,s1⟩<;>rfl
theorem A8L(T:Tys)(fl:List (Nat×TypeId))(cs:List D)(x:Operand)(rest:List (Nat×Operand))(off:Nat)(ty:TypeId):fn0 T pm fl s cs x rest (some (off,ty))=fn1 T pm fl cs off ty rest (take T pm s ty x):=nr rfl
theorem A8M(T:Tys)(fl:List (Nat×TypeId))(cs:List D)(off:Nat)(ty:TypeId)(rest:List (Nat×Operand))(d:D)(h1:d.asCells.length=T.size ty)(h2:off+T.size ty≤cs.length):
  fn1 T pm fl cs off ty rest (some (d,s))=Ip T pm fl s (D5 cs off d.asCells) rest:=by simp only [fn1,h1,h2,and_self,if_true]
theorem fnA(ds:List D):(D.agg ds).asCells=ds:=nr rfl
theorem fnO(e:TypeId)(xs:List D):(D.own e xs).asCells=[.own e xs]:=nr rfl
theorem spN(cs:List D)(c:Nat):D5 cs c []=cs:=by cases cs<;>rfl
theorem spC(cs:List D)(c:Nat)(y:D)(ys:List D):D5 cs c (y::ys)=D5 (cs.set c y) (c+1) ys:=by cases cs<;>rfl
def mk0(T:Tys)(n:Int):Ty→Option D
 | .slice e=>if 0≤n∧n<1099511627776∧T.elem e=true then
   if T.isStruct e=true then some (.own e (List.replicate n.toNat (T.zeros e)).flatten)
   else if T.size e=1 then some (.own e (List.replicate n.toNat (T.zero1 e)))else none
  else none
 |_=>none
theorem yMk(n:Int):EZ T t (.int .i64 n) (.int .i64 n)=mk0 T n (T.ty t):=by
 unfold EZ mk0
 cases T.ty t<;>simp
def lJ(T:Tys)(q:Int):Ty→Option D
 | .slice e=>if 0≤q∧q<1099511627776∧T.elem e=true then
   if T.isStruct e=true then some (.own e [])
   else if T.size e=1 then some (.own e [])else none
  else none
 |_=>none
theorem A8N(q:Int):EZ T t (.int .i64 0) (.int .i64 q)=lJ T q (T.ty t):=by
 unfold EZ lJ
 cases T.ty t<;>simp
theorem A2Q(q:Int)(e:TypeId)(hk:T.known e=true)(h4:T.size e≤4)(h0:0≤q)(hn:q<1099511627776):lJ T q (.slice e)=some (.own e []):=by
 simp only [lJ];rw [if_pos ⟨h0,hn,Vq hk h4⟩];by_cases hs:T.isStruct e=true
 ·rw [if_pos hs]
 ·obtain⟨hz,_⟩:=Sj T (by simpa using hs)
  rw [if_neg hs,if_pos hz]
theorem A8O(n:Int)(e:TypeId)(hk:T.known e=true)(h4:T.size e≤4)(hs:T.isStruct e=false)(h0:0≤n)(hn:n<1099511627776):mk0 T n (.slice e)=some (.own e (List.replicate n.toNat (T.zero1 e))):=by
 obtain⟨hz,_⟩:=Sj T hs;simp only [mk0];rw [if_pos ⟨h0,hn,Vq hk h4⟩,if_neg (by rw [hs];decide),if_pos hz]
end
end Dv
namespace Dv
open Go
def zt(n:Int):Prop:= -9223372036854775808≤n∧n≤9223372036854775807
theorem yB{n:Int}(h:(Lit.int .i64 n).wf=true):zt n:=by
 have h1:IntKind.i64.min= -9223372036854775808:=by decide
 have h2:IntKind.i64.max=9223372036854775807:=by decide
 simp only [Lit.wf,h1,h2,Hm,decide_eq_true_eq]at h;exact h
section
variable {T:Tys} {t e:TypeId} {d:D}
theorem ZX{ds:List D}(ht:T.ty t= .int .i64)(h:Shp T t ds): ∃n,ds=[.int .i64 n]∧zt n:=by
 cases h with
 |int ht' hw=>rw [ht]at ht';injection ht' with ht';subst ht';exact⟨_,rfl,yB hw⟩
 |bool ht'=>rw [ht]at ht';cases ht'
 |string ht'=>rw [ht]at ht';cases ht'
 |slice ht'=>rw [ht]at ht';cases ht'
 |struct ht'=>rw [ht]at ht';cases ht'
theorem Xy{ds:List D}(ht:T.ty t= .slice e)(h:Shp T t ds): ∃xss:List (List D),ds=[.sl e xss.flatten]∧(∀xs,xs∈xss→Shp T e xs)∧xss.length≤maxLen:=by
 cases h with
 |int ht' hw=>rw [ht]at ht';cases ht'
 |bool ht'=>rw [ht]at ht';cases ht'
 |string ht' hs=>rw [ht]at ht';cases ht'
 |slice ht' hx hl=>rw [ht]at ht';injection ht' with ht';subst ht';exact⟨_,rfl,hx,hl⟩
 |struct ht'=>rw [ht]at ht';cases ht'
theorem dA{fs:List TypeId}{ds:List D}(ht:T.ty t= .struct fs)(h:Shp T t ds):ds.length=fs.length∧ ∀(i:Nat) (f:TypeId) (d:D),fs[i]? =some f→ds[i]? =some d→Shp T f [d]:=by
 cases h with
 |int ht' hw=>rw [ht]at ht';cases ht'
 |bool ht'=>rw [ht]at ht';cases ht'
 |string ht' hs=>rw [ht]at ht';cases ht'
 |slice ht' hx hl=>rw [ht]at ht';cases ht'
 |struct ht' hl hx=>rw [ht]at ht';injection ht' with ht';subst ht';exact⟨hl,hx⟩
def yC(xs:List Int):Prop:=xs.length≤maxLen∧ ∀x∈xs,zt x
def aM(xss:List (List Int)):Prop:=xss.length≤maxLen∧ ∀xs∈xss,yC xs
theorem lK{ds:List D}(ht:T.ty t= .slice e)(he:T.ty e= .int .i64)(h:Shp T t ds): ∃xs,ds=[.sl e (I9 xs)]∧yC xs:=by
 obtain⟨xss,rfl,hx,hl⟩:=Xy ht h
 have: ∀xss:List (List D),(∀xs,xs∈xss→Shp T e xs)→ ∃ys,xss.flatten=I9 ys∧ys.length=xss.length∧ ∀y∈ys,zt y:=by
  intro xss
  induction xss with
  |nil=>intro _;exact⟨[],rfl,rfl,by simp⟩
  |cons xs xss ih=>
   intro hx;obtain⟨n,rfl,hn⟩:=ZX he (hx xs (Jm));obtain⟨ys,h1,h2,h3⟩:=ih (fun q hq=>hx q (Il _ hq))
   refine⟨n::ys,by rw [List.flatten_cons,h1];rfl,by simp [h2],fun y hy=> ?_⟩
   rcases Pg.1 hy with rfl|hy
   ·exact hn
   ·exact h3 y hy
 obtain⟨ys,h1,h2,h3⟩:=this xss hx
 exact⟨ys,by rw [h1],by omega,h3⟩
theorem Xz{e2:TypeId}{ds:List D}(ht:T.ty t= .slice e)(he:T.ty e= .slice e2)(he2:T.ty e2= .int .i64)(h:Shp T t ds): ∃xss,ds=[.sl e (sls e2 xss)]∧aM xss:=by
 obtain⟨xss,rfl,hx,hl⟩:=Xy ht h
 have: ∀xss:List (List D),(∀xs,xs∈xss→Shp T e xs)→ ∃ys,xss.flatten=sls e2 ys∧ys.length=xss.length∧ ∀y∈ys,yC y:=by
  intro xss
  induction xss with
  |nil=>intro _;exact⟨[],rfl,rfl,by simp⟩
  |cons xs xss ih=>
   intro hx;obtain⟨n,rfl,hn⟩:=lK he he2 (hx xs (Jm));obtain⟨ys,h1,h2,h3⟩:=ih (fun q hq=>hx q (Il _ hq))
   refine⟨n::ys,by rw [List.flatten_cons,h1];rfl,by simp [h2],fun y hy=> ?_⟩
   rcases Pg.1 hy with rfl|hy
   ·exact hn
   ·exact h3 y hy
 obtain⟨ys,h1,h2,h3⟩:=this xss hx
 exact⟨ys,by rw [h1],by omega,h3⟩
theorem dB{fs:List TypeId}(ht:T.ty t= .struct fs)(h:Arg T t d): ∃ds,d= .agg ds∧ds.length=fs.length∧ ∀(i:Nat) (f:TypeId) (d:D),fs[i]? =some f→ds[i]? =some d→Shp T f [d]:=by
 obtain⟨ds,hs,rfl⟩:=h;obtain⟨h1,h2⟩:=dA ht hs
 exact⟨ds,by simp [top,Tys.isStruct,ht,Ty.isStruct],h1,h2⟩
theorem Sk{a b:TypeId}(ht:T.ty t= .struct [a,a,b,b])(ha:T.ty a= .int .i64)(hb:T.ty b= .slice e){e2:TypeId}(he:T.ty e= .slice e2)(he2:T.ty e2= .int .i64)(h:Arg T t d):
  ∃l k ns es,d= .agg [.int .i64 l,.int .i64 k,.sl e (sls e2 ns),.sl e (sls e2 es)]∧zt l∧zt k∧aM ns∧aM es:=by
 obtain⟨ds,rfl,hl,hx⟩:=dB ht h;rcases ds with _|⟨d0,_|⟨d1,_|⟨d2,_|⟨d3,_|⟨_,_⟩⟩⟩⟩⟩<;>simp at hl
 obtain⟨l,h0,hl0⟩:=ZX ha (hx 0 a d0 rfl rfl);obtain⟨k,h1,hl1⟩:=ZX ha (hx 1 a d1 rfl rfl);obtain⟨ns,h2,hl2⟩:=Xz hb he he2 (hx 2 b d2 rfl rfl);obtain⟨es,h3,hl3⟩:=Xz hb he he2 (hx 3 b d3 rfl rfl);simp only [List.cons.injEq,and_true]at h0 h1 h2 h3;subst h0 h1 h2 h3
 exact⟨l,k,ns,es,rfl,hl0,hl1,hl2,hl3⟩
end
theorem trodAll_len{H:Type}{enc:TypeId×Value→H}{P:Program}{w:World}{base:Nat}{spare:Nat→Bool}{Gz:Bool}: ∀ {ts:List TypeId} {vs:List Value} {ds:List (DataW H)} {ps:List MemPlace},
  DataW.TrodAll enc P w base spare Gz ts vs ds ps→ds.length=ts.length∧vs.length=ts.length:=by
 intro ts
 induction ts with
 |nil=>intro vs ds ps h;cases vs<;>cases ds<;>simp [DataW.TrodAll]at h;exact⟨rfl,rfl⟩
 |cons t ts ih=>
  intro vs ds ps h
  cases vs with
  |nil=>cases ds<;>simp [DataW.TrodAll]at h
  |cons v vs=>
   cases ds with
   |nil=>simp [DataW.TrodAll]at h
   |cons d ds=>
    simp only [DataW.TrodAll]at h;obtain⟨p,q,h1,h2,_⟩:=h;obtain⟨e1,e2⟩:=ih h2
    exact⟨by simp [e1],by simp [e2]⟩
end Dv
namespace Dv
open Go
section
variable {E:Env} {T:Tys} {pm:Pm} {s:St} {dst:Option Tmp} {ty t:TypeId}
def gu(T:Tys)(t:TypeId)(dst:Option Tmp):Option (D×St)→Option St
 |some (d,s1)=>if T.isStruct t==d.isAgg then some (s1.putO dst (.box d.asCells))else none
 |none=>none
def dZ(E:Env)(pm:Pm)(s:St)(t:TypeId)(x:Operand)(dst:Option Tmp):D→Option St
 | .agg ds=>if Al ds then gu E.T t dst (take E.T pm s t x)else(if E.T.isStruct t then some (s.putO dst (.box ds))else none)
 |_=>gu E.T t dst (take E.T pm s t x)
theorem yD(u:Tmp):Mi E.T pm s dst t (.tmp u)=dZ E pm s t (.tmp u) dst (s.v u):=by
 rw [gN]
 cases hk:Re (ev E.T s t (.tmp u))with
 |some ds=>
  simp only [ev]at hk
  cases hv:s.v u<;>rw [hv]at hk<;>simp only [Re]at hk<;>try (cases hk;done)
  split at hk
  ·cases hk
  ·rename_i ho
   simp only [Option.some.injEq]at hk;subst hk;simp only [dZ,ho];rfl
 |none=>
  have hold:dZ E pm s t (.tmp u) dst (s.v u)=gu E.T t dst (take E.T pm s t (.tmp u)):=by
   simp only [ev]at hk
   cases hv:s.v u<;>try rfl
   rw [hv]at hk;simp only [Re]at hk
   split at hk
   ·rename_i ho;simp only [dZ,ho,if_true]
   ·cases hk
  rw [hold];simp only;rcases take E.T pm s t (.tmp u)with _|⟨d,s1⟩<;>rfl
theorem A8P(u:Tmp):Kr E pm s dst (.box t (.tmp u)) ty=if ty=900003 then gX pm dst (dZ E pm s t (.tmp u) dst (s.v u))else dZ E pm s t (.tmp u) dst (s.v u):=by
 rw [kr,yD];by_cases h:ty=900003
 ·rw [if_pos h,if_pos h];unfold gX
  cases dZ E pm s t (.tmp u) dst (s.v u)<;>cases dst<;>rfl
 ·rw [if_neg h,if_neg h]
theorem bkK(x:Operand)(ds:List D)(hs:E.T.isStruct t=true):dZ E pm s t x dst (.agg ds)=if Al ds then gu E.T t dst (take E.T pm s t x)else some (s.putO dst (.box ds)):=by simp [dZ,hs]
theorem A2R(x:Operand)(k:IntKind)(n:Int):dZ E pm s t x dst (.int k n)=gu E.T t dst (take E.T pm s t x):=nr rfl
theorem A8Q(x:Operand)(e:TypeId)(xs:List D):dZ E pm s t x dst (.sl e xs)=gu E.T t dst (take E.T pm s t x):=nr rfl
theorem yE(x:Operand)(xs:List D):dZ E pm s t x dst (.cptr xs)=gu E.T t dst (take E.T pm s t x):=nr rfl
theorem A8R(ds:List D)(hs:T.isStruct t=true):gu T t dst (some (.agg ds,s))=some (s.putO dst (.box ds)):=by simp [gu,hs,D.isAgg,D.asCells]
theorem A8S(d:D)(hs:T.isStruct t=false)(hd:d.isAgg=false):gu T t dst (some (d,s))=some (s.putO dst (.box [d])):=by
 have:d.asCells=[d]:=by cases d<;>first|rfl|(simp [D.isAgg]at hd)
 simp [gu,hs,hd,this]
def fa1(L:AA)(i n m:Nat):Option D→Option D
 |some _=>some (.pe L i n m)
 |none=>none
theorem A8U(L:AA)(i n m:Nat)(d:D):fa1 L i n m (some d)=some (.pe L i n m):=nr rfl
def kC(T:Tys)(pm:Pm)(s:St)(t:TypeId)(x:Operand)(d:D):Option Nat→Option D
 |none=>none
 |some j=>
  if T.isStruct t then
   match d with
   | .box _=>match x with| .tmp u=>some (.pe [u] j (s.k u) (s.m u))|_=>none
   | .vw L n m=>match s.look pm L n m with|some (.box _)=>some (.pe L j n m)|_=>none
   | .pe L c n m=>match s.look pm L n m with|some _=>some (.pe L (c+j) n m)|none=>none
   | .cptr xs=>some (.cptr (xs.drop j))
   |_=>none
  else none
theorem faE(x:Operand)(d:D)(i:Nat):FH T pm s t x d i=kC T pm s t x d (T.foff t i):=by
 unfold FH kC
 cases T.foff t i<;>rfl
theorem foN(i:Nat)(hn:T.nest t=none)(hi:i<T.size t):T.foff t i=some i:=by simp [Tys.foff,hn,hi]
theorem A2S(u:Tmp)(xs:List D)(i:Nat)(hs:T.isStruct t=true):kC T pm s t (.tmp u) (.box xs) (some i)=some (.pe [u] i (s.k u) (s.m u)):=by simp [kC,hs]
theorem A8V(x:Operand)(L:AA)(n m i:Nat)(hs:T.isStruct t=true):kC T pm s t x (.vw L n m) (some i)=fa1 L i n m (Ut s pm L n m):=by
 simp only [kC,hs,if_true,Ut]
 cases s.look pm L n m with
 |none=>rfl
 |some o=>cases o<;>rfl
theorem A8W(x:Operand)(L:AA)(c n m i:Nat)(hs:T.isStruct t=true):kC T pm s t x (.pe L c n m) (some i)=fa1 L (c+i) n m (s.look pm L n m):=by
 simp only [kC,hs,if_true]
 cases s.look pm L n m<;>rfl
theorem A8X(x:Operand)(xs:List D)(i:Nat)(hs:T.isStruct t=true):kC T pm s t x (.cptr xs) (some i)=some (.cptr (xs.drop i)):=by simp [kC,hs]
theorem csS(L:AA)(c n:Nat)(o:D):cellsOf s L c n (some o)=if c+n≤o.cells.length then DI (.agg ((List.range n).map fun i=>Gd s L (c+i) (o.cells.getD (c+i) .undef)))else none:=nr rfl
variable {α:Type} (f:Nat→α)
theorem rg4:(List.range 4).map f=[f 0,f 1,f 2,f 3]:=nr rfl
theorem A8Y:(List.range 10).map f=[f 0,f 1,f 2,f 3,f 4,f 5,f 6,f 7,f 8,f 9]:=nr rfl
theorem A2T(L:AA)(c:Nat)(k:IntKind)(n:Int):Gd s L c (.int k n)= .int k n:=nr rfl
theorem A8Z(L:AA)(c:Nat)(e:TypeId)(xs:List D):Gd s L c (.sl e xs)= .sl e xs:=nr rfl
theorem A2U(L:AA)(c:Nat)(e:TypeId)(xs:List D):Gd s L c (.own e xs)=au s (L++[c]):=nr rfl
theorem A8a(L:AA)(c:Nat)(M:AA)(n m:Nat):Gd s L c (.vw M n m)= .vw M n m:=nr rfl
theorem noA(xs:List D):DI (.agg xs)=if Al xs then none else some (.agg xs):=by simp only [DI,D.hasObj];rfl
theorem A2V(k:IntKind)(n:Int):DI (.int k n)=some (.int k n):=by simp [DI,D.hasObj]
theorem A8b(e:TypeId)(xs:List D):DI (.sl e xs)=some (.sl e xs):=by simp [DI,D.hasObj]
theorem A8c(L:AA)(n m:Nat):DI (.vw L n m)=some (.vw L n m):=by simp [DI,D.hasObj]
theorem dl2(a b:Nat)(l:AA):List.dropLast (a::b::l)=a::List.dropLast (b::l):=nr rfl
theorem dl1(a:Nat):List.dropLast [a]=[]:=nr rfl
theorem ZY: ∀(ds xs:List D),xs.length=ds.length→D5 xs 0 ds=ds:=by
 have key: ∀(ds pre xs:List D),xs.length=ds.length→D5 (pre++xs) pre.length ds=pre++ds:=by
  intro ds
  induction ds with
  |nil=>intro pre xs h;simp at h;subst h;rfl
  |cons d ds ih=>
   intro pre xs h
   cases xs with
   |nil=>simp at h
   |cons x xs=>
    simp only [D5];have:=ih (pre++[d]) xs (by simpa using h)
    simpa using this
 intro ds xs h;simpa using key ds [] xs h
def sw1(T:Tys)(pm:Pm)(t:TypeId)(u:Tmp)(ds:List D)(s:St):D→Option St
 | .box xs=>if T.known t&&T.isStruct t&&pm.wr u&&ds.all Dh&&(T.size t==ds.length)&&(xs.length==ds.length)then(if Al ds||Al xs then some ((s.set [u] (.box ds)).bump u)else some (s.set [u] (.box ds)))else Ya T pm t (.tmp u) (some (.agg ds,s))
 |_=>Ya T pm t (.tmp u) (some (.agg ds,s))
theorem A8d(u:Tmp)(ds:List D):Ya T pm t (.tmp u) (some (.agg ds,s))=sw1 T pm t u ds s (s.v u):=by
 cases hv:s.v u<;>simp only [sw1]
 rename_i xs
 split
 ·rename_i hc
  simp only [Hm,beq_iff_eq]at hc;obtain⟨⟨⟨⟨⟨hk,hs⟩,hw⟩,hd⟩,hz⟩,hl⟩:=hc;have hz':T.size t≤xs.length:=by omega
  simp only [Ya,ev,hv,Ie,D.asCells,D.isAgg,D.cells,D.withCells,hk,hs,hw,hd,hz,Tn,beq_self_eq_true,Bool.and_self,JF,D.hasObj];rw [ZY ds xs hl];have h2:ds.length≤xs.length:=by omega
  simp only [h2,decide_true,Bool.and_self,if_true]
  split<;>first|rfl|(rename_i hq;simp only [hq];rfl)
 ·rfl
theorem A8e(u:Tmp)(ds xs:List D)(hk:T.known t=true)(hs:T.isStruct t=true)(hw:pm.wr u=true)(hd:ds.all Dh=true)(hz:T.size t=ds.length)(hl:xs.length=ds.length):
  sw1 T pm t u ds s (.box xs)=if Al ds||Al xs then some ((s.set [u] (.box ds)).bump u)else some (s.set [u] (.box ds)):=by
 simp [sw1,hk,hs,hw,hd,hz,hl]
def rc1(T:Tys)(s:St)(t:Tmp)(ty:TypeId):D→Option (D×St)
 | .box xs=>if T.isStruct ty then(if xs.length=T.size ty then td1 (Eg Pm.all (s.clr t) xs)else none)else(match xs with| [d]=>Ca Pm.all (s.clr t) d|_=>none)
 | .cptr xs=>if T.isStruct ty then(if xs.length=T.size ty then some (.agg xs,s)else none)else(match xs with| [d]=>some (d,s)|_=>none)
 |_=>none
theorem yF(u:Tmp)(hk:T.known ty=true):Rk T s (.cell u ty)=rc1 T s u ty (s.v u):=by
 simp only [Rk,hk,if_true,rc1]
 cases s.v u with
 |box xs=>
  simp only;split
  ·split
   ·cases Eg Pm.all (s.clr u) xs<;>rfl
   ·rfl
  ·rfl
 |_=>rfl
theorem A8f(u:Tmp)(xs:List D)(hs:T.isStruct ty=true)(hl:xs.length=T.size ty):rc1 T s u ty (.box xs)=td1 (Eg Pm.all (s.clr u) xs):=by simp [rc1,hs,hl]
def cp1(pm:Pm)(s:St)(u:Tmp)(rest:List Operand):D→Option (List D×St)
 | .box xs=>match Ey xs with
  |some ys=>if pm.wr u then(Ko pm (s.set [u] (.cptr ys)) rest).map fun r=>(.cptr ys::r.1,r.2)else none
  |none=>none
 | .cptr ys=>(Ko pm s rest).map fun r=>(.cptr ys::r.1,r.2)
 |_=>none
theorem A2W:Ko pm s []=some ([],s):=nr rfl
theorem A2X(u:Tmp)(rest:List Operand):Ko pm s (.tmp u::rest)=cp1 pm s u rest (s.v u):=by
 simp only [Ko]
 cases s.v u<;>rfl
def cp2(pm:Pm)(s:St)(u:Tmp)(rest:List Operand):Option (List D)→Option (List D×St)
 |some ys=>if pm.wr u then(Ko pm (s.set [u] (.cptr ys)) rest).map fun r=>(.cptr ys::r.1,r.2)else none
 |none=>none
theorem A8i(u:Tmp)(rest:List Operand)(xs:List D):cp1 pm s u rest (.box xs)=cp2 pm s u rest (Ey xs):=by
 simp only [cp1];cases Ey xs<;>rfl
theorem A8j(u:Tmp)(rest:List Operand)(ys:List D)(hw:pm.wr u=true):cp2 pm s u rest (some ys)=(Ko pm (s.set [u] (.cptr ys)) rest).map fun r=>(.cptr ys::r.1,r.2):=by simp [cp2,hw]
def clN(E:Env)(pm:Pm)(s:St)(dst:Option Tmp)(args:Array Operand)(ts:Array TypeId):D→Option St
 | .clo f caps=>if args.size=ts.size then GH E pm s dst f (args.toList.zip ts.toList) caps else none
 | .ocl false f caps=>if args.size=ts.size then MK E pm s dst f (args.toList.zip ts.toList) caps else none
 |_=>none
theorem yG(u:Tmp)(args:Array Operand)(ts:Array TypeId):Kr E pm s dst (.call ⟨.value (.tmp u),args,ts⟩) ty=clN E pm s dst args ts (s.v u):=by
 rw [cZ];cases s.v u<;>first|rfl|(rename_i b _ _;cases b<;>rfl)
theorem A8l(args:Array Operand)(ts:Array TypeId)(f':FuncId)(caps:List D)(h:args.size=ts.size):clN E pm s dst args ts (.clo f' caps)=GH E pm s dst f' (args.toList.zip ts.toList) caps:=by simp [clN,h]
def mf0(f:FuncId)(dst:Option Tmp):Option (List D×St)→Option St
 |some r=>some (r.2.putO dst (.clo f r.1))
 |none=>none
theorem A8m(g:FuncId)(xs:List D):mf0 g dst (some (xs,s))=some (s.putO dst (.clo g xs)):=nr rfl
def mfV(f:FuncId)(dst:Option Tmp):Option (List D×St)→Option St
 |some r=>some (r.2.putO dst (.ocl false f r.1))
 |none=>none
theorem yMf(g:FuncId)(captured:Array Operand):Kr E pm s dst (.makeFunc (.func g) #[] captured) ty=if ty<3000000 then mf0 g dst (Ko pm s captured.toList)else mfV g dst (VI pm s (ty-3000000) captured.toList):=by
 rw [Vm];simp only [List.isEmpty_toArray,List.isEmpty_nil,if_true];by_cases h:ty<3000000
 ·rw [if_pos h,if_pos h]
  cases Ko pm s captured.toList<;>rfl
 ·rw [if_neg h,if_neg h]
  cases VI pm s (ty-3000000) captured.toList<;>rfl
def oaJ(a:D)(l:List (AA×D)):Option (List D×List (AA×D))→Option (List D×List (AA×D))
 |some r=>some (a::r.1,l++r.2)
 |none=>none
def bn1(dflt:Nat):Option D→Option Nat
 |some (.int _ n)=>if 0≤n then some n.toNat else none
 |_=>none
theorem bnS(n:Nat)(x:Operand):Wx T s n (some x)=bn1 n (ev T s 0 x):=by
 simp only [Wx];rcases ev T s 0 x with _|d
 ·rfl
 ·cases d<;>rfl
theorem A8p(n:Nat)(k:IntKind)(i:Int)(h:0≤i):bn1 n (some (.int k i))=some i.toNat:=by simp [bn1,h]
theorem A8q(u:Tmp):wrO pm (.tmp u)=pm.wr u:=nr rfl
def ct2(e:TypeId)(xs:List D)(s1:St):Option Nat→Option (D×St)
 |some h=>if h≤xs.length then some (.own e (xs.take h),s1)else none
 |none=>none
def ct1(T:Tys)(s:St)(e':TypeId)(hi:Option Operand):Option (D×St)→Option (D×St)
 |some (.own e xs,s1)=>
  match Wx T s (T.len e xs) hi with
  |some h=>if e'=e∧T.known e=true∧h≤T.len e xs then some (.own e (xs.take (h*T.size e)),s1)else none
  |none=>none
 |_=>none
def ct0(T:Tys)(pm:Pm)(s:St)(t:TypeId)(x:Operand)(hi:Option Operand):Ty→Option (D×St)
 | .slice e=>ct1 T s e hi (if wrO pm x then take T pm s t x else none)
 |_=>none
theorem ctT(x:Operand)(hi:Option Operand):Me T pm s t x hi=ct0 T pm s t x hi (T.ty t):=by
 unfold Me ct0 ct1
 cases T.ty t<;>rfl
theorem A8r(x:Operand)(hi:Option Operand)(e:TypeId)(hw:wrO pm x=true):ct0 T pm s t x hi (.slice e)=ct1 T s e hi (take T pm s t x):=by
 unfold ct0;rw [if_pos hw]
theorem A8s(hi:Option Operand)(e:TypeId)(xs:List D)(s1:St)(hk:T.known e=true)(hz:T.isStruct e=false):ct1 T s e hi (some (.own e xs,s1))=ct2 e xs s1 (Wx T s xs.length hi):=by
 have h1:=P6 hz;simp only [ct1,hk,true_and,h1,Nw,Tys.len,if_true]
 cases Wx T s xs.length hi<;>rfl
theorem A8t(e:TypeId)(xs:List D)(s1:St)(h:Nat)(hle:h≤xs.length):ct2 e xs s1 (some h)=some (.own e (xs.take h),s1):=by
 show(if h≤xs.length then some (D.own e (xs.take h),s1)else none)=_
 rw [if_pos hle]
def ca0(f:FuncId):Option (List D×List (AA×D))→Option (D×List (AA×D))
 |some r=>some (.clo f r.1,r.2)
 |none=>none
theorem A8v(f:FuncId)(cs:List D)(ls:List (AA×D)):ca0 f (some (cs,ls))=some (.clo f cs,ls):=nr rfl
def ca2(pm:Pm)(s:St)(L:AA)(c:D)(rest:List D):Option D→Option (List D×List (AA×D))
 |some c'=>oaJ c' [(L,c)] (K6 pm s rest)
 |none=>none
theorem A8w(L:AA)(c:D)(rest:List D)(c':D):ca2 pm s L c rest (some c')=oaJ c' [(L,c)] (K6 pm s rest):=nr rfl
def ca1(pm:Pm)(s:St)(L:AA)(rest:List D):Option D→Option (List D×List (AA×D))
 |some c=>ca2 pm s L c rest (Dx c)
 |none=>none
theorem A8y(L:AA)(rest:List D)(c:D):ca1 pm s L rest (some c)=ca2 pm s L c rest (Dx c):=nr rfl
theorem caN:K6 pm s []=some ([],[]):=nr rfl
theorem caV(L:AA)(n m:Nat)(rest:List D):K6 pm s (.vw L n m::rest)=ca1 pm s L rest (s.look pm L n m):=by
 rw [K6]
 cases s.look pm L n m with
 |none=>rfl
 |some c=>
  simp only [ca1,ca2]
  cases Dx c with
  |none=>rfl
  |some c'=>simp only [Ee];rcases K6 pm s rest with _|⟨a,b⟩<;>rfl
theorem caC(ys rest:List D):K6 pm s (.cptr ys::rest)=oaJ (.cptr ys) [] (K6 pm s rest):=by
 rw [K6];rcases K6 pm s rest with _|⟨a,b⟩<;>rfl
theorem A2Z(T:Tys)(L0:AA)(j:Nat)(f:FuncId)(caps:List D):KS T false pm s j L0 (.ocl false f caps)=ca0 f (K6 pm s caps):=by
 show(if(false||false)=true then none else(K6 pm s caps).map fun r=>(D.clo f r.1,r.2))=_
 rw [if_neg (by decide)]
 unfold ca0;rcases K6 pm s caps with _|⟨a,b⟩<;>rfl
def va1(T:Tys)(e:TypeId)(L:AA)(lo len:Nat):Option D→Option (D×List (AA×D))
 |some (.own e' xs)=>
  if e'=e∧T.known e=true∧(lo+len)*T.size e≤xs.length then
   (Ey xs).map fun ys=>(.sl e ((ys.drop (lo*T.size e)).take (len*T.size e)),[(L,.own e' xs)])
  else none
 |_=>none
theorem A8z(e:TypeId)(L L0:AA)(n m lo len j:Nat):KS T false pm s j L0 (.vs e L n m lo len)=va1 T e L lo len (s.look pm L n m):=by
 show UY T pm s e L n m lo len=_
 unfold UY va1;rcases s.look pm L n m with _|d
 ·rfl
 ·cases d<;>rfl
end
theorem ZZ{P:Program}{T:Tys}{f:FuncId}{e:TypeId}{r:D}{outs:List D}(hk:T.known e=true)(h: ∀A c,Good P T f [.konst (.slice A 0 c)] [] r outs):Good P T f [.sl e []] [] r outs:=by
 refine⟨(h none 0).1,fun vs gh w S FL hsz hA hL hL0 hLd hlt=> ?_⟩
 obtain⟨v,hv,hW⟩:=hA 0 _ rfl
 obtain⟨A,c,rfl⟩: ∃A c,v= .slice A 0 c:=by
  cases hW with
  |sl us hE hn hc hm hx hw=>
   rename_i A n c
   have hp:=Xo hk
   have:n=0:=by
    simp only [OU]at hn;rcases Nat.mul_eq_zero.1 hn.symm with h0|h0
    ·exact h0
    ·omega
   subst this
   exact⟨_,_,rfl⟩
 refine(h A c).2 vs gh w S FL hsz (fun i d hi=> ?_) hL hL0 hLd hlt
 cases i with
 |zero=>simp at hi;subst hi;exact⟨_,hv,.konst (fun _ h=>h)⟩
 |succ i=>simp at hi
end Dv
namespace Dv
open Go
set_option maxRecDepth 10000
set_option linter.defProp false
theorem geq:G=100000:=nr rfl
def AB:=A7 @A6t (A7 @A6P (A7 @A6Q (A7 @wP (A7 @A8P (A7 @yMf (A7 @yG (A7 @A6W (A7 @A0T (A7 @A6U (A7 @wW (A7 @A0U (A7 @A0X (A7 @wX (A7 @A0R (A7 @A0S (A7 @A6T (A7 @wY (A7 @wZ (A7 @wh (A7 @A6Y (A7 @A6Z (A7 @A6a (A7 @A0Y (A7 @A0Z (A7 @ZR (A7 @Xt (A7 @A0z (A7 @l6 (A7 @gY (A7 @xA (A7 @A10 (A7 @yUn (A7 @xB (A7 @A6s (A7 @gZ (A7 @xC (A7 @l7 (A7 @xD (A7 @A13 (A7 @gm (A7 @A14 (A7 @gM (A7 @cO (A7 @cB (A7 @y9 (A7 @yBs (@Vn)))))))))))))))))))))))))))))))))))))))))))))))
def gy:=A7 @A74 (A7 @A8Y (A7 @A8E (A7 @xO (A7 @faE (A7 @foN (A7 @A8J (A7 @A2P (A7 @yA (A7 @A8L (A7 @A8M (A7 (A7 @fnO @fnA) (A7 @spN (A7 @spC (A7 @xN (A7 @A7O (A7 @A7P (A7 @A1D (A7 @xG (A7 @A1E (A7 @A1F (A7 @xH (A7 @A1G (A7 @A6p (A7 @A6q (A7 @A8q (A7 @ctT (A7 @A8r (A7 @A8s (A7 @A8t (A7 (A7 @A8z (A7 @A2Z (A7 @A8v (A7 @A8y (A7 @A8w (A7 @caN (A7 @caV @caC))))))) (A7 @A1n (A7 @A7g (A7 @A1o (A7 @A1p (A7 @A7h (A7 @A1q (A7 @A6f (A7 @A6g (A7 @A6h (A7 @A0m (A7 @A0n (A7 @A2C (A7 @xm (A7 @A85 (A7 @A2D (A7 @A2E (A7 @A86 (A7 @bkK (A7 @A2R (A7 (A7 @yE @A8Q) (A7 @A0G (A7 @A6R (A7 @A6S (A7 @ndK (A7 @A6u (A7 @A11 (A7 @apK (A7 @A1k (A7 @A7Z (A7 @A7a (A7 @dl2 (A7 @dl1 (A7 @A2V (A7 @A8b (A7 @A8c (A7 @A8R (A7 @A8S (A7 @A8U (A7 @A2S (A7 @A8V (A7 @A8W (A7 @A8X (A7 @csS (A7 @rg4 (A7 @A2T (A7 @A8Z (A7 @A2U (A7 @A8a (A7 @noA (A7 @A8d (A7 @A8e (A7 @yF (A7 @A8f (A7 @A2W (A7 @A2X (A7 @A8i (A7 @A8j (A7 @A8l (A7 @A8m (A7 @bnS (A7 @A8p (A7 @A2F (A7 @bkT (A7 @bkF (A7 @bkE (A7 @bkL (A7 @A2G (A7 @xn (A7 @ipC (A7 @ipN (A7 @ipE (A7 @ieC (A7 @ieN (A7 @fiA (A7 @fiB (A7 @fiC (A7 @xg (A7 @xh (A7 @A7Q (A7 @A7R (A7 @bxA (A7 @A7T (A7 @hdC (A7 @A7e (A7 @A7f (A7 @mvT (A7 @A89 (A7 @xu (A7 @lD (A7 @A2I (A7 @xw (A7 @A2J (A7 @A8A (A7 @xx (A7 @gq (A7 @xy (A7 @lF (A7 @lG (A7 @A8B (A7 @xz (A7 @lH (A7 @A2K (A7 @A8C (A7 @A8D (A7 @A8F (A7 @A8G (A7 @A8H (A7 @y5 (A7 @pmR (A7 @pmW (A7 @A6V (A7 @A0V (A7 @A6X (A7 @A6M (A7 @A6N (A7 @A6O (A7 @A8I (A7 (A7 @A8N @yMk) (A7 (A7 @A2Q @A8O) (A7 @A2M (A7 @A2N (A7 @wQ (A7 @wR (A7 @kv (A7 @wS (A7 @A0a (A7 @wm (A7 @A6b (A7 @l5 (A7 @A0b (A7 @A0c (A7 @A6c (A7 @wo (A7 @A0d (A7 @A0e (A7 @A0f (A7 @wu (A7 @ww (A7 @A0g (A7 @A0h (A7 @wy (A7 @A6d (A7 @A0i (A7 @A0j (A7 @A0k (A7 @A0l (A7 @A0o (A7 @pkB (A7 @pkT (A7 @pkF (A7 @A0D (A7 @A0E (A7 @A0F (A7 @A6v (A7 @A6w (A7 @A6y (A7 @A0p (A7 @A0q (A7 @A0r (A7 @A0s (A7 @A0t (A7 @A0u (A7 @A6i (A7 @A0v (A7 @A0w (A7 @A6j (A7 @A6k (A7 @A6l (A7 @A6m (A7 @A6n (A7 @A6o (A7 @A0x (A7 @A0y (A7 @boI (A7 @boB (A7 @ldC (A7 @ldP (A7 @A6z (A7 @A15 (A7 @A17 (A7 @xE (A7 @xF (A7 @A18 (A7 @A70 (A7 @A19 (A7 @A71 (A7 @A1B (A7 @A1C (A7 @lnT (A7 @A75 (A7 @A1H (A7 @ixT (A7 @A77 (A7 @A79 (A7 @A1I (A7 @A1N (A7 @xK (A7 @A7E (A7 @A1O (A7 @A1P (A7 @A7F (A7 @A1Q (A7 @A1J (A7 @A7A (A7 @A1K (A7 @A7B (A7 @A7C (A7 @A7D (A7 @xJ (A7 @l9 (A7 @xL (A7 @aK (A7 @hoI (A7 @hoB (A7 @A7G (A7 @A1R (A7 @A1S (A7 @A7H (A7 @hoU (A7 @A1T (A7 @A1U (A7 @A7J (A7 @A1V (A7 @A7K (A7 @A7L (A7 @A1W (A7 @A1X (A7 @A1Y (A7 @A1Z (A7 @A1a (A7 @A1b (A7 @xM (A7 @A7U (A7 @A1c (A7 @A1d (A7 @A1e (A7 @A1f (A7 @A1g (A7 @xP (A7 @A7V (A7 @A1h (A7 @ceS (A7 (A7 @xQ @A7W) (A7 @A7X (A7 @A7c (A7 @A7d (A7 @xR (A7 @xS (A7 @A1l (A7 @A1m (A7 @arC (A7 @arF (A7 @aCS (A7 @A1r (A7 @A7i (A7 @A1s (A7 @A1t (A7 @A7m (A7 @xU (A7 @A1u (A7 @A1v (A7 @A7j (A7 @A7l (A7 @A7n (A7 @A7o (A7 @xV (A7 @A1w (A7 @xW (A7 @A1x (A7 @xX (A7 @A7p (A7 @A1y (A7 @A7q (A7 @cdB (A7 @A7r (A7 @A7s (A7 @A7t (A7 @cdL (A7 @A7v (A7 @A7w (A7 @A1z (A7 @xZ (A7 @A20 (A7 @A21 (A7 @A22 (A7 @xc (A7 @lC (A7 @A23 (A7 @xe (A7 @A7x (A7 @A24 (A7 @A7y (A7 @nL (A7 @A26 (A7 @A27 (A7 @A28 (A7 @xf (A7 @A7z (A7 @aL (A7 @A80 (A7 @fiD (A7 @fi0 (A7 @re0 (A7 @re1 (A7 @re2 (A7 @A81 (A7 @A29 (A7 @A2A (A7 @A82 (A7 @xk (A7 @A83 (A7 @A84 (A7 @A2B (A7 @A2H (A7 @xq (A7 @A88 (A7 @A0H (A7 @A0K (A7 @wT (A7 @A0N (A7 @A0I (A7 @A0L (A7 @wU (A7 @A0O (A7 @A0J (A7 @A0M (A7 @wV (A7 @A0P (A7 @cu (A7 @A0Q (A7 @cz (A7 @gU (A7 @kw (A7 @ky (A7 @kz (A7 @geq (A7 @Int.toNat_natCast (A7 @Int.toNat_zero (A7 @Int.natCast_nonneg (A7 @Nat.zero_le (A7 @Int.le_refl (A7 @Nat.le_refl (A7 @Bool.and_true (A7 @Bool.true_and (A7 @Bool.and_false (A7 @Bool.false_and (A7 @Bool.or_false (A7 @Bool.false_or (A7 @Bool.or_true (A7 @Bool.true_or (A7 @Bool.not_true (A7 @Bool.not_false (A7 @Bool.false_eq_true (A7 @decide_true (A7 @decide_false (A7 @and_self (A7 @and_true (@true_and))))))))))))))))))))))))))))))))))))))))))))))))))))))))))))))))))))))))))))))))))))))))))))))))))))))))))))))))))))))))))))))))))))))))))))))))))))))))))))))))))))))))))))))))))))))))))))))))))))))))))))))))))))))))))))))))))))))))))))))))))))))))))))))))))))))))))))))))))))))))))))))))))))))))))))))))))))))))))))))))))))))))))))))))))))))))))))))))))))))))))))))))))))))))))))))))))))
end Dv
