/- Value semantics for Go code, part 4: arguments of laws, slim code and rules. Conditions: none beyond those in each lemma. -/
import Derived.Test.YtiehjihckndgkaaGreatL3
import Derived.WalkKit
import Derived.ProofKit
import Derived.OpenShut
import Derived.ShutString
import Derived.ChangeOld
import Derived.Below
import Derived.Carry
import Derived.IntWalk
set_option linter.unusedSimpArgs false
set_option linter.unusedVariables false
namespace Dv
open Go
inductive Shp(T:Tys):TypeId→List D→Prop
 |int {t k n} (ht:T.ty t= .int k) (hw:(Lit.int k n).wf=true):Shp T t [.int k n]
 |bool {t b} (ht:T.ty t= .bool):Shp T t [.bool b]
 |string {t s} (ht:T.ty t= .string) (hs:s.size≤maxLen):Shp T t [.str s]
 |slice {t e} {xss:List (List D)} (ht:T.ty t= .slice e) (hx: ∀xs,xs∈xss→Shp T e xs) (hl:xss.length≤maxLen):Shp T t [.sl e xss.flatten]
 |struct {t fs} {ds:List D} (ht:T.ty t= .struct fs) (hl:ds.length=fs.length) (hx: ∀(i:Nat) (f:TypeId) (d:D),fs[i]? =some f→ds[i]? =some d→Shp T f [d]):Shp T t ds
def Sj(T:Tys):Nat→TypeId→Bool
 |0,_=>false
 |n+1,t=>match T.ty t with
  | .int _=>true
  | .bool=>true
  | .string=>true
  | .slice e=>T.known e&&Sj T n e
  | .struct fs=>(T.nest t).isNone&& !fs.isEmpty&&fs.all (Sj T n)
  |_=>false
theorem Shp.length{T:Tys}{t:TypeId}{ds:List D}(h:Shp T t ds):ds.length=T.size t:=by
 cases h with
 |int ht=>simp [Tys.size,ht,Ty.size]
 |bool ht=>simp [Tys.size,ht,Ty.size]
 |string ht=>simp [Tys.size,ht,Ty.size]
 |slice ht=>simp [Tys.size,ht,Ty.size]
 |struct ht hl=>simp [Tys.size,ht,Ty.size,hl]
theorem iU{α:Type}{n:Nat}(hn:0<n): ∀(xss:List (List α)),(∀xs∈xss,xs.length=n)→ ∀k:Nat,xss.flatten[k]? =(xss[k / n]?).bind fun xs=>xs[k % n]? :=by
 intro xss
 induction xss with
 |nil=>intro _ k;simp
 |cons xs xss ih=>
  intro h k;have hx:=h xs (KV);rw [fe];rcases Nat.lt_or_ge k n with hk|hk
  ·rw [RO (by omega),Nat.div_eq_of_lt hk,Nat.mod_eq_of_lt hk];rfl
  ·rw [Qv (by omega),ih (fun ys hy=>h ys (JY _ hy)),hx]
   have h1:k / n=(k-n) / n+1:=by
    rw [Nat.div_eq_sub_div hn hk]
   have h2:k % n=(k-n) % n:=by rw [Nat.mod_eq_sub_mod hk]
   rw [h1,h2];rfl
theorem XI{α:Type}{n:Nat}: ∀(xss:List (List α)),(∀xs∈xss,xs.length=n)→xss.flatten.length=xss.length*n:=by
 intro xss
 induction xss with
 |nil=>intro _;simp
 |cons xs xss ih=>
  intro h;rw [fe,Rp,ih (fun ys hy=>h ys (JY _ hy)),h xs (KV),Lt,Nat.add_mul];omega
abbrev nZ(w:World):Nat→Prop:=fun k=>k<w.heap.size
section
variable {P:Program} {T:Tys} {H:Type} {enc:TypeId×Value→H} {w:World} {spare:Nat→Bool} {Pd:Bool}
theorem Ca.cells(h:Ca P T){t:TypeId}(hk:T.known t=true):P.cellsOf t=T.size t:=by
 obtain⟨i,h1,h2,_⟩:=h.info hk;simp [Program.cellsOf,h1,h2]
theorem lQ{n:Nat}{t:TypeId}(h:Sj T n t=true):T.known t=true:=by
 cases n with
 |zero=>cases h
 |succ n=>
  unfold Sj at h;unfold Tys.known
  cases ht:T.ty t with
  |struct fs=>
   rw [ht]at h
   cases fs with
   |nil=>simp at h
   |cons=>rfl
  |other=>rw [ht]at h;cases h
  |map=>rw [ht]at h;cases h
  |_=>rfl
theorem iV{t:TypeId}(hk:T.known t=true):0<T.size t:=by
 unfold Tys.known at hk;unfold Tys.size
 cases ht:T.ty t with
 |struct fs=>
  rw [ht]at hk
  cases fs with
  |nil=>cases hk
  |cons=>simp [Ty.size]
 |_=>simp [Ty.size]
theorem lS{base:Nat}{a:Addr}{n:Nat}{cs:List Value}(h:w.cells? base a n=some cs):cs.length=n∧ ∀i,i<n→w.cell? (a.add i)=cs[i]? :=by
 unfold World.cells? at h
 split at h
 ·exact⟨by simpa using mapM_some_length h,fun i hi=>by have:=mapM_some_get h i i (by simp [hi]);simpa using this⟩
 ·cases h
theorem yD{ad:Addr}{v:Value}(h:w.cell? ad=some v):ad.block<w.heap.size:=by
 rcases Nat.lt_or_ge ad.block w.heap.size with hl|hl
 ·exact hl
 ·have h1:=fZ hl;simp [World.cell?,h1]at h
theorem uA(hT:Ca P T): ∀(fuel:Nat) (n:Nat) (t:TypeId) (cs:List Value) (x:DataW H×List MemPlace),Sj T n t=true→DataW.trod enc P w 0 spare Pd fuel t cs=some x→
  ∃ds,Shp T t ds∧cs.length=ds.length∧ ∀(i:Nat) (d:D),ds[i]? =some d→ ∃v,cs[i]? =some v∧W T (nZ w) w V0 Jc d v (fun _=>False):=by
 have hE:Em (fun _:Nat=>False):=fun _ h=>h
 have one: ∀(d0:D) (v0:Value),W T (nZ w) w V0 Jc d0 v0 (fun _=>False)→ ∀(i:Nat) (d:D),[d0][i]? =some d→ ∃v,[v0][i]? =some v∧W T (nZ w) w V0 Jc d v (fun _=>False):=by
  intro d0 v0 h i d hi
  cases i with
  |zero=>simp at hi;subst hi;exact⟨v0,rfl,h⟩
  |succ i=>simp at hi
 intro fuel
 induction fuel with
 |zero=>intro n t cs x _ h;simp [DataW.trod]at h
 |succ fuel ih=>
  intro n t cs x hd h;have hk:=lQ hd;have h0:=(hT t).1;unfold Gf at h0
  cases n with
  |zero=>cases hd
  |succ n=>
   unfold Sj at hd
   cases ht:T.ty t<;>rw [ht]at h0 hd<;>simp only at h0 hd
   case int k=>
    obtain⟨m,rfl,_,hw⟩:=DataW.trod_int h0.1 h
    exact⟨[.int k m],.int ht hw,rfl,one _ _ (.int hE)⟩
   case bool=>
    obtain⟨b,rfl,_⟩:=DataW.trod_bool h0.1 h
    exact⟨[.bool b],.bool ht,rfl,one _ _ (.bool hE)⟩
   case string=>
    obtain⟨s,rfl,_,hs⟩:=DataW.trod_string h0.1 h
    exact⟨[.str s],.string ht hs,rfl,one _ _ (.str hE)⟩
   case slice e=>
    simp only [Fa]at hd;have hc:=hT.cells hd.1;have hpos:=iV hd.1;rcases DataW.trod_slice h0.1 h with⟨rfl,_⟩|⟨a,len,cap,elems,rest,m,hm,rfl,_,_,hl,hcap,hlen,hel,_,_⟩
    ·exact⟨[.sl e ([]:List (List D)).flatten],.slice ht (by simp) (by simp [maxLen]),rfl,one _ _ (.sl (fun _=>undef) hE (by simp) (KS _) (by simp [maxLen]) (by simp) (by simp))⟩
    ·injection hm with hm
     subst hm
     have hex: ∀i,i<len→ ∃ds,Shp T e ds∧ ∀(j:Nat) (d:D),ds[j]? =some d→ ∃v,w.cell? (a.add (i*T.size e+j))=some v∧W T (nZ w) w V0 Jc d v (fun _=>False):=by
      intro i hi;have h1:=hel i hi;rw [K4 (by omega),JE]at h1
      obtain⟨cs',h2,h3⟩:=h1;obtain⟨ds,q1,q2,q3⟩:=ih n e cs' _ hd.2 h3
      refine⟨ds,q1,fun j d hj=> ?_⟩
      obtain⟨v,hv,hW⟩:=q3 j d hj;obtain⟨c1,c2⟩:=lS h2;rw [hc]at c1 c2;have hj':j<T.size e:=by rw [←c1];exact(FF.1 hv).1
      have h4:=c2 j hj';rw [La]at h4
      exact⟨v,by rw [h4,hv],hW⟩
     let ch:Nat→List D:=fun i=>if h:i<len then(hex i h).choose else []
     have hch: ∀i,i<len→Shp T e (ch i)∧ ∀(j:Nat) (d:D),(ch i)[j]? =some d→ ∃v,w.cell? (a.add (i*T.size e+j))=some v∧W T (nZ w) w V0 Jc d v (fun _=>False):=by
      intro i hi;have:=(hex i hi).choose_spec
      simp only [ch,hi,dif_pos];exact this
     have hall: ∀xs∈(List.range len).map ch,xs.length=T.size e:=by
      intro xs hxs;obtain⟨i,hi,rfl⟩:=Mx.1 hxs
      exact(hch i (Mw.1 hi)).1.length
     refine⟨[.sl e ((List.range len).map ch).flatten],.slice ht (fun xs hxs=> ?_) (by simp;omega),rfl,one _ _ ?_⟩
     ·obtain⟨i,hi,rfl⟩:=Mx.1 hxs
      exact(hch i (Mw.1 hi)).1
     ·have key: ∀(i:Nat) (x:D),((List.range len).map ch).flatten[i]? =some x→ ∃v,w.cell? (a.add i)=some v∧W T (nZ w) w V0 Jc x v (fun _=>False):=by
       intro i x hi;rw [iU hpos _ hall,JE]at hi;obtain⟨xs,h1,h2⟩:=hi;rw [Qx,D6]at h1;obtain⟨q,hq,rfl⟩:=h1;obtain⟨hq1,hq2⟩:=FF.1 hq;simp only [Te]at hq2;subst hq2;obtain⟨v,hv,hW⟩:=(hch _ (by simpa using hq1)).2 _ x h2
       rw [show i / T.size e*T.size e+i % T.size e=i by rw [Nat.mul_comm];exact Nat.div_add_mod i (T.size e)]at hv
       exact⟨v,hv,hW⟩
      refine .sl (fun i=>(w.cell? (a.add i)).getD undef) hE (by rw [XI _ hall];simp) hl hcap (fun i x hi=> ?_) (fun i x hi=> ?_)
      ·obtain⟨v,hv,_⟩:=key i x hi
       exact⟨a,rfl,by have:=yD hv;rw [OP]at this;exact this,by rw [hv];rfl⟩
      ·obtain⟨v,hv,hW⟩:=key i x hi;simp only [hv,fq];exact hW
   case struct fs=>
    simp only [Fa,JG,rT]at hd;obtain⟨⟨fields,hu,hfx⟩,hinfo⟩:=h0;rw [hd.1.1]at hfx;obtain⟨hfl,hfi⟩:=hfx;obtain⟨xs,m,hm,_,hcl,hxl,hx⟩:=DataW.trod_struct hu h
    injection hm with hm
    subst hm;rw [hT.cells hk]at hcl;have hsz:T.size t=fs.length:=by simp [Tys.size,ht,Ty.size]
    have hex: ∀i,i<fs.length→ ∃d f,fs[i]? =some f∧Shp T f [d]∧ ∃v,cs[i]? =some v∧W T (nZ w) w V0 Jc d v (fun _=>False):=by
     intro i hi;have hif:i<fields.size:=by omega
     obtain⟨f1,f2,f3,f4⟩:=hfi i _ (Mc hif);have h1:=hx i _ (Mc hif)
     have hs1:T.size fields[i].type=1:=by
      unfold Tys.isStruct at f4;unfold Tys.size
      cases hty:T.ty fields[i].type<;>simp_all [Ty.isStruct,Ty.size]
     rw [f1,hT.cells f3,hs1,K4 (by omega)]at h1
     obtain⟨ds,q1,q2,q3⟩:=ih n _ _ _ (hd.2 _ (Yi f2)) h1;have hl1:ds.length=1:=by rw [q1.length,hs1]
     obtain⟨d,rfl⟩:=List.length_eq_one_iff.1 hl1;obtain⟨v,hv,hW⟩:=q3 0 d rfl
     refine⟨d,_,f2,q1,v, ?_,hW⟩
     rw [List.getElem?_take]at hv;simp only [Nat.zero_lt_one,if_true,Pk,Nat.add_zero]at hv;exact hv
    let ch:Nat→D:=fun i=>if h:i<fs.length then(hex i h).choose else .undef
    have hch: ∀i,i<fs.length→ ∃f,fs[i]? =some f∧Shp T f [ch i]∧ ∃v,cs[i]? =some v∧W T (nZ w) w V0 Jc (ch i) v (fun _=>False):=by
     intro i hi;have:=(hex i hi).choose_spec
     simp only [ch,hi,dif_pos];exact this
    have hget: ∀(i:Nat) (d:D),((List.range fs.length).map ch)[i]? =some d→i<fs.length∧d=ch i:=by
     intro i d hi;rw [Qx,D6]at hi;obtain⟨q,hq,rfl⟩:=hi;obtain⟨hq1,hq2⟩:=FF.1 hq;simp only [Te]at hq2;subst hq2
     exact⟨by simpa using hq1,rfl⟩
    refine⟨(List.range fs.length).map ch,.struct ht (by simp) (fun i f d hf hi=> ?_),by simp;omega,fun i d hi=> ?_⟩
    ·obtain⟨h1,rfl⟩:=hget i d hi;obtain⟨f',hf',hs,_⟩:=hch i h1;rw [hf]at hf';injection hf' with hf';subst hf';exact hs
    ·obtain⟨h1,rfl⟩:=hget i d hi;obtain⟨f',hf',hs,v,hv,hW⟩:=hch i h1
     exact⟨v,hv,hW⟩
   all_goals (cases hd)
def top(T:Tys)(t:TypeId)(ds:List D):D:=if T.isStruct t then .agg ds else ds.headD .undef
def Arg(T:Tys)(t:TypeId)(d:D):Prop:= ∃ds,Shp T t ds∧d=top T t ds
theorem A6R(hT:Ca P T){r:Reach}{base n:Nat}{t:TypeId}{v:Value}{d0:DataW H}{ps:List MemPlace}(hd:Sj T n t=true)(hv:Value.okWide P w r base t v)(h:DataW.Trod enc P w 0 spare Pd t v d0 ps):
  ∃d,Arg T t d∧W T (nZ w) w V0 Jc d v (fun _=>False):=by
 obtain⟨fuel,hf⟩:=h;obtain⟨ds,q1,q2,q3⟩:=uA hT fuel n t _ _ hd hf;have hfact:=(hT t).1;unfold Gf at hfact
 have flat:T.isStruct t=false→v.cells.toList=[v]→ ∃d,Arg T t d∧W T (nZ w) w V0 Jc d v (fun _=>False):=by
  intro hs hc;have hl:ds.length=1:=by rw [←q2,hc];rfl
  obtain⟨d,rfl⟩:=List.length_eq_one_iff.1 hl;obtain⟨v',hv',hW⟩:=q3 0 d rfl;rw [hc]at hv';simp only [Qw,Option.some.injEq]at hv';subst hv'
  exact⟨d,⟨[d],q1,by simp [top,hs]⟩,hW⟩
 cases n with
 |zero=>cases hd
 |succ n=>
  unfold Sj at hd
  cases ht:T.ty t<;>rw [ht]at hfact hd<;>simp only at hfact hd
  case int k=>
   refine flat (by simp [Tys.isStruct,ht,Ty.isStruct]) ?_
   simp only [Value.okWide,hfact.1,Cell.okWide]at hv
   cases v<;>simp_all [Cell.ok,Value.cells]
  case bool=>
   refine flat (by simp [Tys.isStruct,ht,Ty.isStruct]) ?_
   simp only [Value.okWide,hfact.1,Cell.okWide]at hv
   cases v<;>simp_all [Cell.ok,Value.cells]
  case string=>
   refine flat (by simp [Tys.isStruct,ht,Ty.isStruct]) ?_
   simp only [Value.okWide,hfact.1,Cell.okWide]at hv
   cases v<;>simp_all [Cell.ok,Value.cells]
  case slice e=>
   refine flat (by simp [Tys.isStruct,ht,Ty.isStruct]) ?_
   simp only [Value.okWide,hfact.1,Cell.okWide]at hv
   cases v<;>simp_all [Cell.ok,Value.cells]
  case struct fs=>
   obtain⟨⟨fields,hu,_⟩,_⟩:=hfact;obtain⟨cs,rfl,hcs⟩:=WideShapes.okWide_struct hu hv
   have hval: ∀(i:Nat) (d:D),ds[i]? =some d→cs[i]? =some (cs.getD i undef)∧W T (nZ w) w V0 Jc d (cs.getD i undef) (fun _=>False):=by
    intro i d hi;obtain⟨v,hv',hW⟩:=q3 i d hi;have:cs[i]? =some v:=by simpa [Value.cells] using hv'
    rw [Pb,this];exact⟨rfl,hW⟩
   refine⟨.agg ds,⟨ds,q1,by simp [top,Tys.isStruct,ht,Ty.isStruct]⟩,.agg (fun i=>cs.getD i undef) (fun _ _=>False) (by simpa [Value.cells] using q2) (fun i x hi=>(hval i x hi).1) (fun k=>⟨fun h=>h.elim,fun⟨_,_,h⟩=>h⟩) (fun _ _ _ _ _ _ h=>h.elim) (fun i x hi=>(hval i x hi).2)⟩
  all_goals (cases hd)
end
def A37(T:Tys):List TypeId→List D→Prop
 | [],[]=>True
 |t::ts,d::ds=>Arg T t d∧A37 T ts ds
 |_,_=>False
theorem args_W{P:Program}{T:Tys}{H:Type}{enc:TypeId×Value→H}{w:World}{r:Reach}{base n:Nat}(hT:Ca P T): ∀(ts:List TypeId) (vs:List Value) (d0:List (DataW H)) (ps:List MemPlace),ts.all (Sj T n)=true→
  (∀(j:Nat) (t:TypeId) (v:Value),ts[j]? =some t→vs[j]? =some v→Value.okWide P w r base t v)→DataW.TrodAll enc P w 0 (fun _=>true) true ts vs d0 ps→
  ∃ds,A37 T ts ds∧vs.length=ds.length∧ ∀(i:Nat) (d:D),ds[i]? =some d→ ∃v,vs[i]? =some v∧W T (nZ w) w V0 Jc d v (fun _=>False):=by
 intro ts
 induction ts with
 |nil=>
  intro vs d0 ps _ _ h
  cases vs<;>cases d0<;>simp [DataW.TrodAll]at h
  exact⟨[],trivial,rfl,by simp⟩
 |cons t ts ih=>
  intro vs d0 ps hd hv h
  cases vs with
  |nil=>cases d0<;>simp [DataW.TrodAll]at h
  |cons v vs=>
   cases d0 with
   |nil=>simp [DataW.TrodAll]at h
   |cons d0 ds0=>
    simp only [DataW.TrodAll]at h;obtain⟨p,q,h1,h2,_⟩:=h;simp only [VF,Fa]at hd;obtain⟨d,ha,hW⟩:=A6R hT hd.1 (hv 0 t v rfl rfl) h1;obtain⟨ds,hb,hl,hWs⟩:=ih vs ds0 q hd.2 (fun j t' v' hj hj'=>hv (j+1) t' v' (by simpa using hj) (by simpa using hj')) h2
    refine⟨d::ds,⟨ha,hb⟩,by simp [hl],fun i x hi=> ?_⟩
    cases i with
    |zero=>simp at hi;subst hi;exact⟨v,rfl,hW⟩
    |succ i=>simpa using hWs i x (by simpa using hi)
theorem law_calls{Y:Sys}(hY:Y.Ok){f:FuncId}{ds:List D}(hc:Y.call f ds []=some (.bool true,[])){vs:Array Value}{w:World}(hl:vs.size=ds.length)
  (hW: ∀(i:Nat) (d:D),ds[i]? =some d→ ∃v,vs[i]? =some v∧W Y.T (nZ w) w V0 Jc d v (fun _=>False)):
  Calls Y.P f vs w fun e w'=>e= .returned (.bool true)∧RowKit.Below w.heap.size w w':=by
 have hg:=Sys.call_good hY hc;refine Calls.mono (hg.2 vs (fun _=>undef) w (nZ w) (fun _ _=>False) hl (fun i d hi=> ?_) (fun j d hj=>by simp at hj) (fun _ _ _ h=>h) (fun _ _ _ _ h=>h.elim) (fun _ h=>h)) ?_
 ·obtain⟨v,hv,hWv⟩:=hW i d hi
  exact⟨v,hv,hWv.up⟩
 ·intro e w' he
  cases e with
  |returned v=>
   obtain⟨S',F,FL',h1,_,_,_,hst,_,_⟩:=he
   cases h1 with
   |bool=>exact⟨rfl,hst.os,hst.tape,hst.output,hst.size,fun k hk=>hst.heap k hk (fun _ h=>h)⟩
  |panicked=>exact he.elim
  |outgrown=>exact he.elim
theorem trodAll_below{H:Type}{enc:TypeId×Value→H}{P:Program}(hl:laidOutB P=true){W W':World}(hb:RowKit.Below W.heap.size W W'): ∀ {ts:List TypeId} {vs:List Value} {ds:List (DataW H)} {ps:List MemPlace},
  ts.all (fun t=>P.readableRec t&&decide (t<P.types.size))=true→DataW.TrodAll enc P W 0 (fun _=>true) true ts vs ds ps→DataW.TrodAll enc P W' 0 (fun b=>decide (b<W.heap.size)) true ts vs ds ps:=by
 intro ts
 induction ts with
 |nil=>
  intro vs ds ps _ h
  cases vs<;>cases ds<;>simp [DataW.TrodAll]at h ⊢
  exact h
 |cons t ts ih=>
  intro vs ds ps hr h
  cases vs with
  |nil=>cases ds<;>simp [DataW.TrodAll]at h
  |cons v vs=>
   cases ds with
   |nil=>simp [DataW.TrodAll]at h
   |cons d ds=>
    simp only [DataW.TrodAll]at h ⊢;obtain⟨p,q,h1,h2,h3⟩:=h;simp only [VF,Fa,decide_eq_true_eq]at hr;have lt0: ∀x∈p,x.block<W.heap.size:=by obtain⟨m,hm⟩:=h1;exact DataW.trod_lt m _ _ _ hm
    exact⟨p,q,RowKit.Below.trod hl hr.1.1 hr.1.2 h1 hb lt0,ih (by simpa using hr.2) h2,h3⟩
end Dv
namespace Dv
open Go
theorem nr{α:Type}{a b:α}(h:a=b):a=b:=h
structure SOp where
 dst:Option Tmp
 op:Op
 type:TypeId
 guard:Option (Option Tmp×Bool)
structure PmL where
 n:List Nat
 r:List Nat
 w:List Nat
def PmL.pm(l:PmL):Pm:=⟨fun r=>l.n.contains r|| !l.r.contains r,fun r=>l.w.contains r⟩
inductive SC where
 |skip
 |ops (l:List SOp)
 |draws (l:List (PmL×SOp))
 |seq (a b:SC)
 |cond (c:Operand) (a b:SC)
 |block (id:Nat) (c:SC)
 |loop (c:SC)
 |exit (id:Nat)
 |ret
 |bad
abbrev tK(u:Nat):Operand:= .tmp u
abbrev iK(n:Int):Operand:= .const (.int .i64 n)
abbrev oX(d:Nat)(p:Op)(y:TypeId):SOp:=⟨some d,p,y,none⟩
abbrev oM(d u:Nat)(y:TypeId):SOp:=⟨some d,.move (.tmp u),y,none⟩
abbrev oA(d u:Nat)(y:TypeId):SOp:=⟨some d,.assign (.tmp u),y,none⟩
abbrev oL(d:Nat)(t:TypeId)(u:Nat)(y:TypeId):SOp:=⟨some d,.load t (.tmp u),y,none⟩
abbrev oI(d:Nat)(t:TypeId)(u v:Nat):SOp:=⟨some d,.indexAddr t (.tmp u) (.tmp v),0,none⟩
abbrev oN(d u:Nat)(t:TypeId):SOp:=⟨some d,.call ⟨.builtin .len, #[.tmp u], #[t]⟩,3,none⟩
abbrev oC(d f:Nat)(a:List Operand)(t:List TypeId)(y:TypeId):SOp:=⟨some d,.call ⟨.value (.func f),a.toArray,t.toArray⟩,y,none⟩
abbrev oS(t:TypeId)(a u:Nat):SOp:=⟨none,.store t (.tmp a) (.tmp u),0,none⟩
abbrev oF(d:Nat)(t:TypeId)(u i:Nat):SOp:=⟨some d,.fieldAddr t (.tmp u) i,0,none⟩
abbrev oE(d u i:Nat)(y:TypeId):SOp:=⟨some d,.extract (.tmp u) i,y,none⟩
abbrev oB(d:Nat)(o:BinOp)(t:TypeId)(a b:Operand)(r y:TypeId):SOp:=⟨some d,.binOp o t a b r,y,none⟩
def RX(ops:Array Oper)(o:Oper):SOp:=⟨o.dst,o.op,o.type,match o.guard with|none=>none|some (j,b)=>some ((ops[j]?).bind (·.dst),b)⟩
def Bf(lends:FuncId→Bool):Code→SC
 | .skip=> .skip
 | .region _ ops draw=>
  if draw then
   (if Pw lends ops.toList then .draws (ops.toList.map fun o=>(⟨I7 ops.toList o,ops.toList.flatMap (Eh lends ops.toList),Eh lends ops.toList o⟩,RX ops (WY lends ops.toList o)))else .bad)
  else .ops (ops.toList.map fun o=>RX ops (tag lends ops.toList o))
 | .seq a b=> .seq (Bf lends a) (Bf lends b)
 | .cond c a b=> .cond c (Bf lends a) (Bf lends b)
 | .block id c=> .block id (Bf lends c)
 | .loop c=> .loop (Bf lends c)
 | .exit id=> .exit id
 | .ret=> .ret
 |_=> .bad
def Nh(E:Env)(pm:Pm)(s:St)(dst:Option Tmp)(op:Op)(type:TypeId):Option St:=xY E pm s ⟨dst,op,type, "", #[],none⟩
def RG(E:Env)(pm:Pm)(s:St)(o:SOp):Option St:=
 match o.guard with
 |none=>Nh E pm s o.dst o.op o.type
 |some (none,_)=>some (s.putO o.dst (.konst undef))
 |some (some t,b)=>
  match s.v t with
  | .bool b'=>if b'==b then Nh E pm s o.dst o.op o.type else some (s.putO o.dst (.konst undef))
  | .konst (.tuple _)=>some (s.putO o.dst (.konst undef))
  |_=>none
def uB(E:Env):List SOp→St→Option St
 | [],s=>some s
 |o::l,s=>(RG E Pm.all s o).bind fun s'=>uB E l s'
def KA(pm:Pm)(s:St)(op:Op):Bool:=
 match op with
 | .move (.tmp u)=> !(s.v u).hasObj||(s.v u).isObj||pm.wr u
 |_=>true
def iW(E:Env):List (PmL×SOp)→St→Option St
 | [],s=>some s
 |(p,o)::l,s=>if KA p.pm s o.op then(RG E p.pm s o).bind fun s'=>iW E l s' else none
noncomputable def EW(E:Env):SC→St→Option (Ex×St)
 | .skip,s=>some (.normal,s)
 | .ops l,s=>(uB E l s).map fun s'=>(.normal,s')
 | .draws l,s=>(iW E l s).map fun s'=>(.normal,s')
 | .seq a b,s=>
  match EW E a s with
  |some (.normal,s')=>EW E b s'
  |r=>r
 | .cond c a b,s=>
  match ev E.T s 0 c with
  |some (.bool t)=>if t then EW E a s else EW E b s
  |_=>none
 | .block id c,s=>
  match EW E c s with
  |some (.exit j,s')=>if j=id then some (.normal,s')else some (.exit j,s')
  |r=>r
 | .loop c,s=>WZ (EW E c) s
 | .exit id,s=>some (.exit id,s)
 | .ret,s=>some (.ret,s)
 | .bad,_=>none
theorem iX(E:Env)(ops:Array Oper)(pm:Pm)(s:St)(o:Oper):RG E pm s (RX ops o)=Kb E ops pm s o:=by
 obtain⟨dst,op,type,pos,after,guard⟩:=o;unfold RG Kb OL RX
 cases guard with
 |none=>rfl
 |some g=>
  obtain⟨j,b⟩:=g;simp only
  cases (ops[j]?).bind (·.dst)with
  |none=>rfl
  |some t=>
   simp only
   cases hv:s.v t with
   |bool b'=>simp only;cases hb:(b'==b)<;>simp<;>rfl
   |konst v=>cases v<;>rfl
   |_=>rfl
theorem yE(E:Env)(ops:Array Oper): ∀(l:List Oper) (s:St),uB E (l.map fun o=>RX ops (tag E.lends ops.toList o)) s=Yn E ops s l:=by
 intro l
 induction l with
 |nil=>intro s;rfl
 |cons o l ih=>
  intro s;simp only [Tg,uB,Yn,iX]
  cases Kb E ops Pm.all s (tag E.lends ops.toList o)with
  |none=>rfl
  |some s'=>simp only [DJ];exact ih s'
theorem uC(E:Env)(ops:Array Oper)(l0:List Oper): ∀(l:List Oper) (s:St),
  iW E (l.map fun o=>(⟨I7 l0 o,l0.flatMap (Eh E.lends l0),Eh E.lends l0 o⟩,RX ops (WY E.lends ops.toList o))) s=RB E ops l0 s l:=by
 intro l
 induction l with
 |nil=>intro s;rfl
 |cons o l ih=>
  intro s;simp only [Tg,iW,RB,iX];have h1:(PmL.mk (I7 l0 o) (l0.flatMap (Eh E.lends l0)) (Eh E.lends l0 o)).pm=K8 E.lends l0 o:=nr rfl;have h2:KA (K8 E.lends l0 o) s (RX ops (WY E.lends ops.toList o)).op=kJ (K8 E.lends l0 o) s o:=nr rfl;rw [h1,h2];split
  ·cases Kb E ops (K8 E.lends l0 o) s (WY E.lends ops.toList o)with
   |none=>rfl
   |some s'=>simp only [DJ];exact ih s'
  ·rfl
theorem uD(E:Env): ∀(c:Code),EW E (Bf E.lends c)=ET E c:=by
 intro c
 induction c with
 |skip=>rfl
 |region id ops draw=>
  funext s
  simp only [Bf,ET]
  cases draw with
  |true=>
   simp only [if_true];split
   ·simp only [EW];rw [uC]
   ·rfl
  |false=>simp only [Md,if_false,EW];rw [yE]
 |seq a b iha ihb=>funext s;simp only [Bf,EW,ET,iha,ihb];rfl
 |cond x a b iha ihb=>funext s;simp only [Bf,EW,ET,iha,ihb];rfl
 |block id c ih=>funext s;simp only [Bf,EW,ET,ih];rfl
 |loop c ih=>funext s;simp only [Bf,EW,ET,ih]
 |exit id=>rfl
 |ret=>rfl
 |rangeFunc=>rfl
 |scope=>rfl
 |label=>rfl
 |goto=>rfl
 |refuse=>rfl
def CF(E:Env)(c:SC)(Q:Ex→St→Prop)(s:St):Prop:= ∃ex s',EW E c s=some (ex,s')∧Q ex s'
section
variable {E:Env} {Q:Ex→St→Prop} {s:St}
def iY(E:Env)(b:SC)(Q:Ex→St→Prop):Ex→St→Prop
 | .normal,s=>CF E b Q s
 |ex,s=>Q ex s
def inBlock(id:Nat)(Q:Ex→St→Prop):Ex→St→Prop
 | .exit j,s=>if j=id then Q .normal s else Q (.exit j) s
 |ex,s=>Q ex s
theorem A38{a b:SC}(h:CF E a (iY E b Q) s):CF E (.seq a b) Q s:=by
 obtain⟨ex,s1,h1,h2⟩:=h
 cases ex with
 |normal=>
  obtain⟨ex',s2,h3,h4⟩:=h2
  exact⟨ex',s2,by simp [EW,h1,h3],h4⟩
 |exit id=>exact⟨_,s1,by simp [EW,h1],h2⟩
 |ret=>exact⟨_,s1,by simp [EW,h1],h2⟩
theorem uE{id:Nat}{c:SC}(h:CF E c (inBlock id Q) s):CF E (.block id c) Q s:=by
 obtain⟨ex,s1,h1,h2⟩:=h
 cases ex with
 |normal=>exact⟨_,s1,by simp [EW,h1],h2⟩
 |exit j=>
  simp only [inBlock]at h2;by_cases hj:j=id
  ·subst hj;rw [if_pos rfl]at h2;exact⟨.normal,s1,by simp [EW,h1],h2⟩
  ·rw [if_neg hj]at h2;exact⟨_,s1,by simp [EW,h1,hj],h2⟩
 |ret=>exact⟨_,s1,by simp [EW,h1],h2⟩
theorem Av{c:SC}{Q':Ex→St→Prop}(h:CF E c Q s)(hq: ∀ex s,Q ex s→Q' ex s):CF E c Q' s:=by
 obtain⟨ex,s1,h1,h2⟩:=h;exact⟨ex,s1,h1,hq _ _ h2⟩
end
def ES(T:Tys)(n:Nat)(rs:List ResultVar)(r:D×List D):Ex→St→Prop
 | .normal,s=>aZ T n rs s=some r
 | .ret,s=>aZ T n rs s=some r
 | .exit _,_=>False
theorem Sys.call_wp{Y:Sys}{f:FuncId}{fn:Func}{c:Code}{k:SC}{a l:List D}{r:D×List D}(hb:Y.base f a l=none)(hf:Y.P.funcs[f]? =some fn)(hok:Bz fn a.length=true)
  (hbody:fn.body=some c)(hk:Bf Y.lends c=k)(h:CF Y.env k (ES Y.T l.length fn.results.toList r) (entry a l)):Y.call f a l=some r:=by
 refine Sys.call_run hb hf hok ?_;obtain⟨ex,s1,h1,h2⟩:=h;unfold gH;rw [←hk]at h1;have h3:EW Y.env (Bf Y.env.lends c)=ET Y.env c:=uD Y.env c;have h4:ET Y.env c (entry a l)=some (ex,s1):=by rw [←h3];exact h1
 rw [hbody];simp only [h4]
 cases ex with
 |normal=>exact h2
 |ret=>exact h2
 |exit id=>exact h2.elim
section
variable (E:Env) (pm:Pm) (s:St) (dst:Option Tmp) (ty:TypeId)
theorem lT(op:Op):RG E pm s ⟨dst,op,ty,none⟩=Nh E pm s dst op ty:=nr rfl
def grd(E:Env)(pm:Pm)(s:St)(dst:Option Tmp)(op:Op)(ty:TypeId)(b:Bool)(d:D):Option St:=
 match d with
 | .bool b'=>if b'==b then Nh E pm s dst op ty else some (s.putO dst (.konst undef))
 | .konst (.tuple _)=>some (s.putO dst (.konst undef))
 |_=>none
theorem iZ(op:Op)(t:Tmp)(b:Bool):RG E pm s ⟨dst,op,ty,some (some t,b)⟩=grd E pm s dst op ty b (s.v t):=nr rfl
theorem AD6(op:Op)(b':Bool):grd E pm s dst op ty true (.bool b')=if b'=true then Nh E pm s dst op ty else some (s.putO dst (.konst undef)):=by cases b'<;>rfl
theorem AD7(op:Op)(b':Bool):grd E pm s dst op ty false (.bool b')=if b'=true then some (s.putO dst (.konst undef))else Nh E pm s dst op ty:=by cases b'<;>rfl
theorem AD8(op:Op)(b:Bool):grd E pm s dst op ty b (.konst undef)=some (s.putO dst (.konst undef)):=nr rfl
def pk(s:St)(dst:Option Tmp)(c a b:Option D):Option St:=
 match c,a,b with
 |some (.bool t),some x,some y=>if(if t then x else y).hasObj then none else some (s.putO dst (if t then x else y))
 |_,_,_=>none
theorem uF(c a b:Operand):Nh E pm s dst (.pick c a b) ty=pk s dst (ev E.T s ty c) (ev E.T s ty a) (ev E.T s ty b):=nr rfl
theorem pkT(x y:D)(h:x.hasObj=false):pk s dst (some (.bool true)) (some x) (some y)=some (s.putO dst x):=by simp [pk,h]
theorem pkF(x y:D)(h:y.hasObj=false):pk s dst (some (.bool false)) (some x) (some y)=some (s.putO dst y):=by simp [pk,h]
theorem pkB(t p q:Bool):pk s dst (some (.bool t)) (some (.bool p)) (some (.bool q))=some (s.putO dst (.bool (if t then p else q))):=by cases t<;>rfl
theorem hoB(b:Bool):(D.bool b).hasObj=false:=by simp [D.hasObj]
theorem hoI(k:IntKind)(n:Int):(D.int k n).hasObj=false:=by simp [D.hasObj]
theorem hoS(b:ByteArray):(D.str b).hasObj=false:=by simp [D.hasObj]
theorem qP(t:TypeId):Nh E pm s dst (.alloc t) ty=if E.T.known t then some (s.putO dst (.box (E.T.zeros t)))else none:=nr rfl
theorem yF(t:TypeId)(x:Operand):Nh E pm s dst (.box t x) ty=if ty=900003 then(Pt E.T pm s dst t x).bind fun s1=>FY pm s1 dst else Pt E.T pm s dst t x:=nr rfl
theorem uG(t:TypeId)(x:Operand):Pt E.T pm s dst t x=match WU (ev E.T s t x)with
  |some ds=>if E.T.isStruct t then some (s.putO dst (.box ds))else none
  |none=>
   match take E.T pm s t x with
   |some (d,s1)=>if E.T.isStruct t==d.isAgg then some (s1.putO dst (.box d.asCells))else none
   |none=>none:=nr rfl
theorem qQ(t:TypeId)(parts:Array (Nat×Operand)):Nh E pm s dst (.build t parts) ty=match E.T.nest t with
  |some fl=>if E.T.isStruct t&&E.T.known t then(Ka E.T pm fl s (E.T.zeros t) parts.toList).map fun r=>r.2.putO dst (.agg r.1)else none
  |none=>match E.T.ty t with
   | .struct fs=>if E.T.known t then(IY E.T pm (fun i=>fs.getD i 0) 1 s (E.T.zeros t) parts.toList).map fun r=>r.2.putO dst (.agg r.1)else none
   |_=>none:=nr rfl
theorem XJ(t:TypeId)(len:Nat)(parts:Array (Nat×Operand)):Nh E pm s dst (.buildSlice t len parts) ty=if ty=900004 then(WW E.T pm s dst t len parts).bind fun s1=>OJ pm s1 dst else WW E.T pm s dst t len parts:=nr rfl
def stF(pm:Pm)(a:Operand):Option St→Option St
 |some s1=>FY pm s1 (WX a)
 |none=>none
theorem uH(a:Operand)(o:Option St):stF pm a o=o.bind fun s1=>FY pm s1 (WX a):=by cases o<;>rfl
theorem qR(t:TypeId)(a x:Operand):Nh E pm s none (.store t a x) ty=if ty=900007 then IW E.T pm t a (N7 E.T pm s t x)else if ty=900010 then Uh E.T pm s t a x else if ty=900011 then stF pm a (KZ E.T pm s t a x)else KZ E.T pm s t a x:=by
 rw [uH];rfl
def MS(s:St)(dst:Option Tmp):Option D→Option St
 |some r=>some (s.putO dst r)
 |none=>none
theorem A6S(r:D):MS s dst (some r)=some (s.putO dst r):=nr rfl
def ib(dst:Option Tmp):Option (D×St)→Option St
 |some r=>some (r.2.putO dst r.1)
 |none=>none
theorem A6T(r:D)(s:St):ib dst (some (r,s))=some (s.putO dst r):=nr rfl
def Yx(T:Tys)(s:St)(dst:Option Tmp)(op:BinOp)(t:TypeId):Option D→Option D→Option St
 |some a,some b=>if Ow T t a then MS s dst (Ea op a b)else none
 |_,_=>none
theorem A6U(T:Tys)(op:BinOp)(t:TypeId)(a b:D):Yx T s dst op t (some a) (some b)=if Ow T t a then MS s dst (Ea op a b)else none:=nr rfl
def fzB(pm:Pm)(dst:Option Tmp)(u:Tmp):Option St→Option St
 |some s1=>gD pm s1 dst u
 |none=>none
theorem A39(op:BinOp)(t:TypeId)(x y:Operand)(t':TypeId):Nh E pm s dst (.binOp op t x y t') ty=if ty<2000000 then JI E.T pm s dst op t x y else fzB pm dst (ty-2000000) (JI E.T pm s dst op t x y):=by
 show(if ty<2000000 then JI E.T pm s dst op t x y else(JI E.T pm s dst op t x y).bind fun s1=>gD pm s1 dst (ty-2000000))=_
 cases JI E.T pm s dst op t x y<;>rfl
theorem Vu(op:BinOp)(t:TypeId)(x y:Operand)(hq:gB E.T op t y=none):JI E.T pm s dst op t x y=Yx E.T s dst op t (ev E.T s t x) (ev E.T s t y):=by
 unfold JI;rw [hq];simp only
 cases ev E.T s t x<;>cases ev E.T s t y<;>simp only [Yx]
 rename_i a b
 cases Ea op a b<;>rfl
theorem AD9(op:BinOp)(t:TypeId)(x:Operand)(u:Tmp)(t':TypeId):Nh E pm s dst (.binOp op t x (.tmp u) t') ty=if ty<2000000 then Yx E.T s dst op t (ev E.T s t x) (some (s.v u))else fzB pm dst (ty-2000000) (Yx E.T s dst op t (ev E.T s t x) (some (s.v u))):=by
 rw [A39,Vu E pm s dst op t x (.tmp u) rfl];rfl
theorem ADA(op:BinOp)(t:TypeId)(x:Operand)(k:IntKind)(n:Int)(t':TypeId):Nh E pm s dst (.binOp op t x (.const (.int k n)) t') ty=if ty<2000000 then Yx E.T s dst op t (ev E.T s t x) (some (.int k n))else fzB pm dst (ty-2000000) (Yx E.T s dst op t (ev E.T s t x) (some (.int k n))):=by
 rw [A39,Vu E pm s dst op t x _ rfl];rfl
def uI(s:St)(dst:Option Tmp)(q:Bool):Option Bool→Option St
 |some b=>some (s.putO dst (.bool (b==q)))
 |none=>none
theorem A6V(b:Bool):uI s dst true (some b)=some (s.putO dst (.bool b)):=by cases b<;>rfl
def nt0(op:BinOp)(s:St)(dst:Option Tmp)(r:Option Bool)(o:Option St):Ty→Option St
 | .slice _=>match op with| .eql=>uI s dst true r| .neq=>uI s dst false r|_=>o
 |_=>o
theorem ADB(r:Option Bool)(o:Option St)(e:TypeId):nt0 .eql s dst r o (.slice e)=uI s dst true r:=nr rfl
theorem yG(op:BinOp)(t:TypeId)(u:Tmp):JI E.T pm s dst op t (.tmp u) (.const (.slice none 0 0))=nt0 op s dst (Tj pm s (s.v u)) (Yx E.T s dst op t (some (s.v u)) (ev E.T s t (.const (.slice none 0 0)))) (E.T.ty t):=by
 have key: ∀q,gB E.T op t (.const (.slice none 0 0))=some q→JI E.T pm s dst op t (.tmp u) (.const (.slice none 0 0))=uI s dst q (Tj pm s (s.v u)):=by
  intro q hq;unfold JI;rw [hq];simp only [ev,DJ]
  cases Tj pm s (s.v u)<;>rfl
 cases ht:E.T.ty t with
 |slice e=>
  cases op<;>first
   |(simp only [nt0];exact key true (by simp [gB,ht]))
   |(simp only [nt0];exact key false (by simp [gB,ht]))
   |(simp only [nt0];exact Vu E pm s dst _ t _ _ (by simp [gB,ht]))
 |_=>exact Vu E pm s dst _ t _ _ (by simp [gB,ht])
theorem A3B(op:BinOp)(t:TypeId)(u:Tmp)(t':TypeId):Nh E pm s dst (.binOp op t (.tmp u) (.const (.slice none 0 0)) t') ty=if ty<2000000 then nt0 op s dst (Tj pm s (s.v u)) (Yx E.T s dst op t (some (s.v u)) (ev E.T s t (.const (.slice none 0 0)))) (E.T.ty t)
  else fzB pm dst (ty-2000000) (nt0 op s dst (Tj pm s (s.v u)) (Yx E.T s dst op t (some (s.v u)) (ev E.T s t (.const (.slice none 0 0)))) (E.T.ty t)):=by
 rw [A39,yG]
theorem ADC(e:TypeId)(x:D)(xs:List D):Tj pm s (.sl e (x::xs))=some false:=nr rfl
theorem ndK(A:Option Addr)(n c:Nat):Tj pm s (.konst (.slice A n c))=some A.isNone:=nr rfl
theorem ic(src d:TypeId)(x:Operand):Nh E pm s dst (.convert src d x) ty=if E.T.known src then
   match ev E.T s src x,E.T.ty d with
   |some (.int _ n),.int k=>some (s.putO dst (.int k (k.wrap n)))
   |some (.str b),.string=>some (s.putO dst (.str b))
   |_,_=>none
  else none:=nr rfl
theorem bN(f:FuncId)(first captured:Array Operand):Nh E pm s dst (.makeFunc (.func f) first captured) ty=if ty<3000000 then(if first.isEmpty then(NB pm s captured.toList).map fun r=>r.2.putO dst (.clo f r.1)else none)
  else(if first.isEmpty then(WV pm s (ty-3000000) captured.toList).map fun r=>r.2.putO dst (.ocl false f r.1)else none):=nr rfl
theorem Yy(t:TypeId)(l c:Operand):Nh E pm s dst (.makeSlice t l c) ty=if ty=900012 then(Ym E.T s dst t l c).bind fun s1=>OJ pm s1 dst else Ym E.T s dst t l c:=nr rfl
theorem bP(x:Operand):Nh E pm s dst (.nilCheck x) ty=(ev E.T s ty x).bind fun d=>
   match d with
   | .box _=>some (Cy s dst x d)
   | .vw L n m=>match s.look pm L n m with|some (.box _)=>some (Cy s dst x d)|_=>none
   | .pe L _ n m=>match s.look pm L n m with|some _=>some (Cy s dst x d)|none=>none
   | .cptr _=>some (Cy s dst x d)
   | .clo _ _=>some (Cy s dst x d)
   | .ocl false _ _=>some (Cy s dst x d)
   |_=>none:=nr rfl
theorem lU(x y:Operand)(t t':TypeId):Nh E pm s dst (.call ⟨.builtin .append, #[x,y], #[t,t']⟩) ty=if t=t' then(if isZ (ev E.T s t y)then N8 E.T pm s t x else IX E.T pm s t x y).map fun r=>r.2.putO dst r.1 else none:=nr rfl
theorem uJ(f:FuncId)(args:Array Operand)(ts:Array TypeId):Nh E pm s dst (.call ⟨.value (.func f),args,ts⟩) ty=if args.size=ts.size then(if ty=900014 then(I6 E pm s dst f (args.toList.zip (Pv ty ts.toList)) []).bind fun s1=>FY pm s1 dst else I6 E pm s dst f (args.toList.zip (Pv ty ts.toList)) [])else none:=nr rfl
theorem qU(u:Tmp)(args:Array Operand)(ts:Array TypeId):Nh E pm s dst (.call ⟨.value (.tmp u),args,ts⟩) ty=match s.v u with
   | .clo f caps=>if args.size=ts.size then I6 E pm s dst f (args.toList.zip ts.toList) caps else none
   | .ocl false f caps=>if args.size=ts.size then NC E pm s dst f (args.toList.zip ts.toList) caps else none
   |_=>none:=nr rfl
end
theorem A3C(T:Tys)(s:St)(t:TypeId)(u:Tmp):ev T s t (.tmp u)=some (s.v u):=nr rfl
theorem A3D(T:Tys)(s:St)(t:TypeId)(k:IntKind)(n:Int):ev T s t (.const (.int k n))=some (.int k n):=nr rfl
theorem yH(T:Tys)(s:St)(t:TypeId)(b:Bool):ev T s t (.const (.bool b))=some (.bool b):=nr rfl
theorem A3E(T:Tys)(s:St)(t:TypeId):ev T s t (.const (.slice none 0 0))=match T.ty t with| .slice e=>some (.own e [])| .other=>some (.konst (.slice none 0 0))|_=>none:=nr rfl
theorem A6W(s:St)(t u:Nat)(d:D):(s.put t d).v u=if u=t then d else s.v u:=by rw [A02];rfl
theorem A6X(s:St)(t u:Nat)(d:D):(s.put t d).k u=if u=t then(if d.hasObj then s.k t+1 else s.k t)else s.k u:=by
 unfold St.put;by_cases h:u=t
 ·subst h;cases hd:d.hasObj<;>simp [NW]
 ·cases hd:d.hasObj<;>simp [NW,h]
theorem A6Y(s:St)(t u:Nat)(d:D):(s.put t d).m u=s.m u:=by unfold St.put;split<;>rfl
theorem A6Z(s:St)(t u:Nat):(s.clr t).v u=if u=t then .undef else s.v u:=nr rfl
theorem A6a(s:St)(t u:Nat):(s.clr t).k u=s.k u:=nr rfl
theorem A6b(s:St)(t u:Nat):(s.clr t).m u=s.m u:=nr rfl
theorem A3F(s:St)(t u:Nat):(s.bump t).v u=s.v u:=nr rfl
theorem A3G(s:St)(t u:Nat):(s.bump t).k u=s.k u:=nr rfl
theorem A3H(s:St)(t u:Nat):(s.bump t).m u=if u=t then s.m t+1 else s.m u:=nr rfl
theorem A6c(s:St)(t u:Nat)(p:AA)(d:D):(s.set (t::p) d).v u=if u=t then J7 (s.v t) p d else s.v u:=nr rfl
theorem A6d(s:St)(t u:Nat)(p:AA)(d:D):(s.set (t::p) d).k u=s.k u:=nr rfl
theorem A6e(s:St)(t u:Nat)(p:AA)(d:D):(s.set (t::p) d).m u=s.m u:=nr rfl
theorem qV(s:St)(t:Tmp)(d:D):s.putO (some t) d=s.put t d:=nr rfl
theorem A6f(Y:Sys):Y.env.T=Y.T:=nr rfl
theorem qW(Y:Sys):Y.env.lends=Y.lends:=nr rfl
theorem uK(Y:Sys):Y.env.call=Y.call:=nr rfl
theorem yI(a l:List D)(t:Nat):(entry a l).v t=if t<G then a.getD t .undef else l.getD (t-G) .undef:=nr rfl
theorem yJ(a l:List D)(t:Nat):(entry a l).k t=0:=nr rfl
theorem yK(a l:List D)(t:Nat):(entry a l).m t=0:=nr rfl
theorem OY{r:Ex×St}{Q:Ex→St→Prop}:(∃ex s',some r=some (ex,s')∧Q ex s')=Q r.1 r.2:=
 propext ⟨fun⟨ex,s',h,hq⟩=>by injection h with h;subst h;exact hq,fun h=>⟨r.1,r.2,rfl,h⟩⟩
section
variable (E:Env) (Q:Ex→St→Prop) (s:St)
theorem A6g:CF E .skip Q s=Q .normal s:=OY
theorem A6h(id:Nat):CF E (.exit id) Q s=Q (.exit id) s:=OY
theorem ADE:CF E .ret Q s=Q .ret s:=OY
theorem ADF:CF E (.ops []) Q s=Q .normal s:=OY
def nxt(E:Env)(l:List SOp)(Q:Ex→St→Prop):Option St→Prop
 |some s=>CF E (.ops l) Q s
 |none=>False
theorem ADG(l:List SOp):nxt E l Q (some s)=CF E (.ops l) Q s:=nr rfl
theorem A6i(o:SOp)(l:List SOp):CF E (.ops (o::l)) Q s=nxt E l Q (RG E Pm.all s o):=by
 unfold CF;simp only [EW,uB]
 cases RG E Pm.all s o with
 |none=>simp [nxt]
 |some s'=>simp [nxt,CF,EW]
theorem A6j:CF E (.draws []) Q s=Q .normal s:=OY
def uL(E:Env)(l:List (PmL×SOp))(Q:Ex→St→Prop):Bool→Option St→Prop
 |true,some s=>CF E (.draws l) Q s
 |_,_=>False
theorem A6k(l:List (PmL×SOp)):uL E l Q true (some s)=CF E (.draws l) Q s:=nr rfl
theorem A3I(p:PmL)(o:SOp)(l:List (PmL×SOp)):CF E (.draws ((p,o)::l)) Q s=uL E l Q (KA p.pm s o.op) (RG E p.pm s o):=by
 unfold CF;simp only [EW,iW]
 cases KA p.pm s o.op with
 |true=>
  cases RG E p.pm s o with
  |none=>simp [uL]
  |some s'=>simp [uL,CF,EW]
 |false=>simp [uL]
theorem ADH(a b:SC):CF E (.seq a b) Q s=CF E a (iY E b Q) s:=by
 refine propext ⟨fun⟨ex,s1,h1,h2⟩=> ?_,A38⟩;simp only [EW]at h1
 cases ha:EW E a s with
 |none=>simp [ha]at h1
 |some q=>
  obtain⟨ex',s2⟩:=q
  cases ex' with
  |normal=>simp only [ha]at h1;exact⟨_,s2,ha,ex,s1,h1,h2⟩
  |exit id=>simp only [ha,Option.some.injEq,Prod.mk.injEq]at h1;obtain⟨rfl,rfl⟩:=h1;exact⟨_,s2,ha,h2⟩
  |ret=>simp only [ha,Option.some.injEq,Prod.mk.injEq]at h1;obtain⟨rfl,rfl⟩:=h1;exact⟨_,s2,ha,h2⟩
def cnd(E:Env)(a b:SC)(Q:Ex→St→Prop)(s:St):Option D→Prop
 |some (.bool t)=>if t=true then CF E a Q s else CF E b Q s
 |_=>False
theorem ADI(a b:SC)(t:Bool):cnd E a b Q s (some (.bool t))=if t=true then CF E a Q s else CF E b Q s:=nr rfl
theorem A6m(c:Operand)(a b:SC):CF E (.cond c a b) Q s=cnd E a b Q s (ev E.T s 0 c):=by
 unfold CF;simp only [EW]
 cases ev E.T s 0 c with
 |none=>simp [cnd]
 |some d=>cases d with
  |bool t=>cases t<;>simp [cnd,CF]
  |_=>simp [cnd]
theorem A3J(id:Nat)(c:SC):CF E (.block id c) Q s=CF E c (inBlock id Q) s:=by
 refine propext ⟨fun⟨ex,s1,h1,h2⟩=> ?_,uE⟩;simp only [EW]at h1
 cases ha:EW E c s with
 |none=>simp [ha]at h1
 |some q=>
  obtain⟨ex',s2⟩:=q
  cases ex' with
  |normal=>simp only [ha,Option.some.injEq,Prod.mk.injEq]at h1;obtain⟨rfl,rfl⟩:=h1;exact⟨_,s2,ha,h2⟩
  |exit j=>
   simp only [ha]at h1;by_cases hj:j=id
   ·simp only [hj,if_true,Option.some.injEq,Prod.mk.injEq]at h1;obtain⟨rfl,rfl⟩:=h1;exact⟨_,s2,ha,by simpa [inBlock,hj] using h2⟩
   ·simp only [hj,if_false,Option.some.injEq,Prod.mk.injEq]at h1;obtain⟨rfl,rfl⟩:=h1;exact⟨_,s2,ha,by simpa [inBlock,hj] using h2⟩
  |ret=>simp only [ha,Option.some.injEq,Prod.mk.injEq]at h1;obtain⟨rfl,rfl⟩:=h1;exact⟨_,s2,ha,h2⟩
theorem A3K(b:SC):iY E b Q .normal s=CF E b Q s:=nr rfl
theorem A3L(b:SC)(id:Nat):iY E b Q (.exit id) s=Q (.exit id) s:=nr rfl
theorem A3M(b:SC):iY E b Q .ret s=Q .ret s:=nr rfl
theorem ADJ(id:Nat):inBlock id Q .normal s=Q .normal s:=nr rfl
theorem ADK(id j:Nat):inBlock id Q (.exit j) s=if j=id then Q .normal s else Q (.exit j) s:=nr rfl
theorem ADL(id:Nat):inBlock id Q .ret s=Q .ret s:=nr rfl
theorem A6n(T:Tys)(n:Nat)(rs:List ResultVar)(r:D×List D):ES T n rs r .ret s=(aZ T n rs s=some r):=nr rfl
end
section
variable (s:St) (dst:Option Tmp) (u:Tmp) (k:IntKind) (n:Int) (b:Bool) (x:ByteArray) (e:TypeId) (xs:List D) (L:AA) (i j c:Nat) (v:Value) (f:FuncId)
theorem A6o:Cy s dst (.tmp u) (.int k n)=s.putO dst (.int k n):=nr rfl
theorem A3N:Cy s dst (.tmp u) (.bool b)=s.putO dst (.bool b):=nr rfl
theorem ADM:Cy s dst (.tmp u) (.sl e xs)=s.putO dst (.sl e xs):=nr rfl
theorem yM:Cy s dst (.tmp u) (.konst v)=s.putO dst (.konst v):=nr rfl
theorem A6p:Cy s dst (.tmp u) (.own e xs)=s.putO dst (.vw [u] (s.k u) (s.m u)):=nr rfl
theorem A6q:Cy s dst (.tmp u) (.box xs)=s.putO dst (.vw [u] (s.k u) (s.m u)):=nr rfl
theorem ADN:Cy s dst (.tmp u) (.vw L i j)=s.putO dst (.vw L i j):=nr rfl
theorem A3O:Cy s dst (.tmp u) (.cptr xs)=s.putO dst (.cptr xs):=nr rfl
theorem A6r:Cy s dst (.tmp u) (.clo f xs)=s.putO dst (.clo f xs):=nr rfl
theorem A6s:Cy s dst (.tmp u) (.tup xs)=if Aj xs then(if Aj (LH s u 0 xs)then(s.clr u).putO dst (.tup xs)else s.putO dst (.tup (LH s u 0 xs)))else s.putO dst (.tup xs):=nr rfl
theorem A6t(i:Nat):LH s u i []=[]:=nr rfl
theorem A3P(i:Nat)(x:D):LH s u i (x::xs)=RA s u i x::LH s u (i+1) xs:=nr rfl
theorem A3Q(i:Nat):RA s u i (.bool b)= .bool b:=nr rfl
theorem A6u(i:Nat):RA s u i (.own e xs)= .vw [u,i] (s.k u) (s.m u):=nr rfl
variable (pm:Pm)
theorem A6v:CG pm s dst (.tmp u) (.int k n)=some (s.putO dst (.int k n)):=nr rfl
theorem A3R:CG pm s dst (.tmp u) (.bool b)=some (s.putO dst (.bool b)):=nr rfl
theorem ADO:CG pm s dst (.tmp u) (.sl e xs)=some (s.putO dst (.sl e xs)):=nr rfl
theorem A6w:CG pm s dst (.tmp u) (.own e xs)=some ((s.clr u).putO dst (.own e xs)):=nr rfl
theorem A6x:CG pm s dst (.tmp u) (.box xs)=some ((s.clr u).putO dst (.box xs)):=nr rfl
theorem A6y(r:Nat):CG pm s dst (.tmp u) (.vw [r] i j)=(Po pm s [r] i j).map fun q=>q.2.putO dst q.1:=nr rfl
def asT(_s:St)(dst:Option Tmp)(a:Option (D×St))(b:Option St):Bool→Option St
 |true=>a.map fun q=>q.2.putO dst q.1
 |false=>b
theorem ADQ(a:Option (D×St))(b:Option St):asT s dst a b true=a.map fun q=>q.2.putO dst q.1:=nr rfl
theorem ADR(a:Option (D×St))(b:Option St):asT s dst a b false=b:=nr rfl
theorem A6z(r r':Nat)(p:AA):CG pm s dst (.tmp u) (.vw (r::r'::p) i j)=asT s dst (Cm pm s (.vw (r::r'::p) i j)) (some (s.putO dst (.vw (r::r'::p) i j))) (isT pm s r):=by
 by_cases h:isT pm s r=true
 ·have h':kH pm s (.vw (r::r'::p) i j)=true:=h;unfold CG;simp only [h',h,if_true];rfl
 ·have h':kH pm s (.vw (r::r'::p) i j)=false:=Fx.mpr h;unfold CG;simp only [h',Fx.mpr h];rfl
theorem ADS(r:Nat):isT pm s r=(pm.rd r&&rW (s.v r)):=nr rfl
theorem A70:rW (.tup xs)=true:=nr rfl
theorem A71:rW (.own e xs)=false:=nr rfl
theorem A72:rW (.box xs)=false:=nr rfl
theorem A73:CG pm s dst (.tmp u) (.clo f xs)=some (s.putO dst (.clo f xs)):=nr rfl
end
section
variable (k:IntKind) (x y:Int) (p q:Bool) (a b:ByteArray)
theorem A74:Ea .add (.int k x) (.int k y)=some (.int k (k.wrap (x+y))):=by simp [Ea]
theorem A75:Ea .sub (.int k x) (.int k y)=some (.int k (k.wrap (x-y))):=by simp [Ea]
theorem A76:Ea .mul (.int k x) (.int k y)=some (.int k (k.wrap (x*y))):=by simp [Ea]
theorem A77:Ea .quo (.int k x) (.int k y)=if y=0 then none else some (.int k (k.wrap (x.tdiv y))):=by simp [Ea]
theorem A78:Ea .rem (.int k x) (.int k y)=if y=0 then none else some (.int k (x.tmod y)):=by simp [Ea]
theorem A79:Ea .and (.int k x) (.int k y)=some (.int k (GX .and k x y)):=by simp [Ea]
theorem uM:Ea .andNot (.int k x) (.int k y)=some (.int k (GX .andNot k x y)):=by simp [Ea]
theorem A7A(k':IntKind):Ea .shl (.int k x) (.int k' y)=if y<0 then none else some (.int k (k.wrap (x*2 ^ (min y.toNat k.bits)))):=by simp [Ea]
theorem A7B(k':IntKind):Ea .shr (.int k x) (.int k' y)=if y<0 then none else some (.int k (x.fdiv (2 ^ (min y.toNat k.bits)))):=by simp [Ea]
theorem ADT:Ea .eql (.int k x) (.int k y)=some (.bool (decide (x=y))):=by simp [Ea];rfl
theorem ADU:Ea .neq (.int k x) (.int k y)=some (.bool (!decide (x=y))):=by simp [Ea];rfl
theorem ADV:Ea .lss (.int k x) (.int k y)=some (.bool (decide (x<y))):=by simp [Ea]
theorem ADW:Ea .leq (.int k x) (.int k y)=some (.bool (decide (x≤y))):=by simp [Ea]
theorem ADX:Ea .gtr (.int k x) (.int k y)=some (.bool (decide (y<x))):=by simp [Ea]
theorem ADY:Ea .geq (.int k x) (.int k y)=some (.bool (decide (y≤x))):=by simp [Ea]
theorem A7C:Ea .neq (.bool p) (.bool q)=some (.bool (!(p==q))):=nr rfl
theorem A7D:unD .not (.bool p)=some (.bool (!p)):=nr rfl
theorem boI(T:Tys)(t:TypeId):Ow T t (.int k x)=true:=nr rfl
theorem boB(T:Tys)(t:TypeId):Ow T t (.bool p)=match T.ty t with| .bool=>true|_=>false:=nr rfl
theorem boA(T:Tys)(t:TypeId)(k l:IntKind)(x y:Int):Ow T t (.agg [.int k x,.int l y])=nP T k l (T.ty t):=nr rfl
theorem A3S(T:Tys)(k l:IntKind)(a b:TypeId):nP T k l (.struct [a,b])=(kI k (T.ty a)&&kI l (T.ty b)):=nr rfl
theorem A7E(k:IntKind):kI k (.int k)=true:=by simp [kI]
theorem A7F(k l:IntKind)(a b c d:Int):Ea .eql (.agg [.int k a,.int l b]) (.agg [.int k c,.int l d])=some (.bool ((a==c)&&(b==d))):=by simp [Ea]
theorem A7G(k l:IntKind)(a b c d:Int):Ea .neq (.agg [.int k a,.int l b]) (.agg [.int k c,.int l d])=some (.bool (!((a==c)&&(b==d)))):=by simp [Ea]
end
def JM(xs:List Int):List D:=xs.map (D.int .i64)
theorem Du(xs:List Int):(JM xs).length=xs.length:=by simp [JM]
end Dv
namespace Dv
open Go
def zB:Value→Value→Bool
 | .int k n,.int k' n'=>decide (k=k')&&decide (n=n')
 | .bool b,.bool b'=>b==b'
 | .string s,.string s'=>s.size==0&&s'.size==0
 | .slice none 0 0,.slice none 0 0=>true
 | .nilFunc,.nilFunc=>true
 | .pointer none,.pointer none=>true
 |_,_=>false
theorem A03{a b:Value}(h:zB a b=true):a=b:=by
 unfold zB at h
 split at h
 ·simp only [Fa,decide_eq_true_eq]at h;rw [h.1,h.2]
 ·simp only [beq_iff_eq]at h;rw [h]
 ·simp only [Fa,beq_iff_eq]at h
  rename_i s s'
  have: ∀t:ByteArray,t.size=0→t=ByteArray.empty:=by
   intro t ht;obtain⟨d⟩:=t;have:d= #[]:=Array.size_eq_zero_iff.1 ht
   rw [this];rfl
  rw [this s h.1,this s' h.2]
 ·rfl
 ·rfl
 ·rfl
 ·cases h
def zsB:List Value→List Value→Bool
 | [],[]=>true
 |a::as,b::bs=>zB a b&&zsB as bs
 |_,_=>false
theorem uN: ∀ {a b:List Value},zsB a b=true→a=b
 | [],[],_=>rfl
 | [],_::_,h=>by cases h
 |_::_,[],h=>by cases h
 |a::as,b::bs,h=>by
  simp only [zsB,Fa]at h;rw [A03 h.1,uN h.2]
def Sk(P:Program)(t:TypeId)(n:Nat)(z:Value):Bool:=
 match P.info? t with
 |some i=>(i.size==n)&&(decide (4<n)||decide (i.bytes≤128))&&(match i.zero,z with|some (.agg a),.agg b=>zsB a.toList b.toList|some v,z=>zB v z|_,_=>false)
 |none=>false
theorem NI{P:Program}{t:TypeId}{n:Nat}{z:Value}(h:Sk P t n z=true):P7 P t n z:=by
 unfold Sk at h
 split at h
 ·rename_i i hi
  simp only [Fa,Rs,beq_iff_eq,decide_eq_true_eq]at h
  refine⟨i,hi,h.1.1, ?_,fun h4=>h.1.2.resolve_left (by omega)⟩
  have h2:=h.2
  split at h2
  ·rename_i a b hz
   rw [hz];have:=uN h2
   rw [←Ro (xs:=a),this]
  ·rename_i v z' hz _
   rw [hz,A03 h2]
  ·cases h2
 ·cases h
def bQ(P:Program)(T:Tys)(t:TypeId):Bool:=
 match T.ty t with
 | .int k=>(match P.underlying t with|some (.int k')=>decide (k'=k)|_=>false)&&Sk P t 1 (.int k 0)
 | .bool=>(match P.underlying t with|some .bool=>true|_=>false)&&Sk P t 1 (.bool false)
 | .string=>(match P.underlying t with|some .string=>true|_=>false)&&Sk P t 1 (.string ByteArray.empty)
 | .slice e=>(match P.underlying t with|some (.slice e')=>e'==e|_=>false)&&Sk P t 1 (.slice none 0 0)
 | .struct fs=>(match P.underlying t with
   |some (.struct fields)=>
    match T.nest t with
    |none=>(fields.size==fs.length)&&(List.range fields.size).all (fun j=>match fields[j]?,fs[j]? with|some f,some g=>(f.offset==j)&&(f.type==g)&&T.known g&& !T.isStruct g|_,_=>false)
    |some fl=>decide (4<fs.length)&&(fields.size==fl.length)&&(List.range fields.size).all (fun j=>match fields[j]?,fl[j]? with|some f,some g=>(f.offset==g.1)&&(f.type==g.2)&&T.known g.2|_,_=>false)
   |_=>false)&&Sk P t fs.length (.agg (fs.map (JL T)).toArray)
 | .func=>(match P.underlying t with|some (.func ..)=>true|_=>false)&&Sk P t 1 .nilFunc
 | .ptr=>(match P.underlying t with|some (.pointer _)=>true|_=>false)&&Sk P t 1 (.pointer none)
 | .map k e=>match P.underlying t with|some (.map k' e')=>(k'==k)&&(e'==e)|_=>false
 | .other=>true
theorem lV{P:Program}{T:Tys}{t:TypeId}(h:bQ P T t=true):Gf P T t:=by
 unfold bQ at h;unfold Gf
 cases hty:T.ty t<;>rw [hty]at h<;>simp only [Fa]at h ⊢
 case int k=>
  refine⟨?_,NI h.2⟩
  have h1:=h.1
  split at h1
  ·rename_i k' hu;rw [hu];simp only [decide_eq_true_eq]at h1;rw [h1]
  ·cases h1
 case bool=>
  refine⟨?_,NI h.2⟩
  have h1:=h.1
  split at h1
  ·assumption
  ·cases h1
 case string=>
  refine⟨?_,NI h.2⟩
  have h1:=h.1
  split at h1
  ·assumption
  ·cases h1
 case map k e=>
  split at h
  ·rename_i k' e' hu;rw [hu];simp only [Fa,beq_iff_eq]at h;rw [h.1,h.2]
  ·cases h
 case slice e=>
  refine⟨?_,NI h.2⟩
  have h1:=h.1
  split at h1
  ·rename_i k' hu;rw [hu];simp only [beq_iff_eq]at h1;rw [h1]
  ·cases h1
 case struct fs=>
  refine⟨?_,NI h.2⟩
  have h1:=h.1
  split at h1
  ·rename_i fields hu
   refine⟨fields,hu, ?_⟩
   cases hn:T.nest t with
   |none=>
    simp only [hn,Fa,beq_iff_eq,JG,Mw]at h1 ⊢
    refine⟨h1.1,fun j f hf=> ?_⟩
    have hlt:=(Yh.1 hf).1;have:=h1.2 j hlt
    rw [hf]at this
    split at this
    ·rename_i f' g hf' hg
     simp only [Option.some.injEq]at hf';subst hf';simp only [Fa,beq_iff_eq,O9]at this;obtain⟨⟨⟨q1,q2⟩,q3⟩,q4⟩:=this;subst q2
     exact⟨q1,hg,q3,q4⟩
    ·cases this
   |some fl=>
    simp only [hn,Fa,beq_iff_eq,JG,Mw,decide_eq_true_eq]at h1 ⊢
    refine⟨h1.1.1,h1.1.2,fun j f hf=> ?_⟩
    have hlt:=(Yh.1 hf).1;have:=h1.2 j hlt
    rw [hf]at this
    split at this
    ·rename_i f' g hf' hg
     simp only [Option.some.injEq]at hf';subst hf';simp only [Fa,beq_iff_eq]at this;obtain⟨⟨q1,q2⟩,q3⟩:=this
     refine⟨?_,by rw [q2];exact q3⟩
     rw [hg,q1,q2]
    ·cases this
  ·cases h1
 case func=>
  refine⟨?_,NI h.2⟩
  have h1:=h.1
  split at h1
  ·exact⟨_,_,_,by assumption⟩
  ·cases h1
 case ptr=>
  refine⟨?_,NI h.2⟩
  have h1:=h.1
  split at h1
  ·exact⟨_,by assumption⟩
  ·cases h1
def qX(xZ:List Ty)(nst:List (TypeId×List (Nat×TypeId))):Tys:={ty:=fun t=>xZ.getD t .other,nest:=fun t=>nst.lookup t}
theorem A3T{P:Program}{xZ:List Ty}{nst:List (TypeId×List (Nat×TypeId))}(h:((List.range xZ.length).all fun t=>bQ P (qX xZ nst) t&&xn P (qX xZ nst) t)=true):Ca P (qX xZ nst):=by
 intro t;rcases Nat.lt_or_ge t xZ.length with ht|ht
 ·have:=JG.1 h t (Mw.2 ht)
  rw [Fa]at this
  exact⟨lV this.1,this.2⟩
 ·have:(qX xZ nst).ty t= .other:=by simp [qX,MQ,List.getElem?_eq_none ht]
  refine⟨?_, ?_⟩
  ·unfold Gf;rw [this];trivial
  ·unfold xn;rw [this]
theorem Ab{Y:Sys}{f:FuncId}{fn:Func}{k:SC}{a l:List D}{r:D×List D}(hb:Y.base f a l=none)(hf:Y.P.funcs[f]? =some fn)(hok:Bz fn a.length=true)
  (hk:fn.body.map (Bf Y.lends)=some k)(h:CF Y.env k (ES Y.T l.length fn.results.toList r) (entry a l)):Y.call f a l=some r:=by
 obtain⟨c,hc,hk⟩:=D6.1 hk;exact Sys.call_wp hb hf hok hc hk h
end Dv
namespace Dv
open Go
section
variable (E:Env) (pm:Pm) (s:St) (dst:Option Tmp) (ty:TypeId) (u:Tmp) (t:TypeId)
theorem NJ(o:Option D):(o.map fun r=>s.putO dst r)=MS s dst o:=by cases o<;>rfl
theorem OZ(o:Option (D×St)):(o.map fun r=>r.2.putO dst r.1)=ib dst o:=by cases o<;>rfl
theorem A7H:Nh E pm s dst (.move (.tmp u)) ty=some (Cy s dst (.tmp u) (s.v u)):=nr rfl
def xc(pm:Pm):Option Tmp→Option St→Option St
 |some t,some s1=>FY pm s1 (some t)
 |_,_=>none
def fcB(pm:Pm):Option Tmp→Option St→Option St
 |some t,some s1=>OJ pm s1 (some t)
 |_,_=>none
def fcD(s1:St)(t:Tmp)(e:TypeId):Option (List D)→Option St
 |some ys=>some (s1.set [t] (.own e ys))
 |none=>none
def fcC(s1:St)(t:Tmp):D→Option St
 | .own e xs=>fcD s1 t e (Dc xs)
 |_=>none
theorem ADb(s1:St)(t:Tmp)(h1:pm.rd t=true)(h2:pm.wr t=true):fcB pm (some t) (some s1)=fcC s1 t (s1.v t):=by
 show OJ pm s1 (some t)=_
 unfold OJ fcC;dsimp only;rw [h1,h2]
 cases s1.v t with
 |own e xs=>simp only [Bool.and_self,if_true];cases Dc xs<;>rfl
 |_=>rfl
theorem ADc(s1:St)(t:Tmp)(e:TypeId)(xs:List D):fcC s1 t (.own e xs)=fcD s1 t e (Dc xs):=nr rfl
theorem ADd(s1:St)(t:Tmp)(e:TypeId)(ys:List D):fcD s1 t e (some ys)=some (s1.set [t] (.own e ys)):=nr rfl
theorem yN:Nh E pm s dst (.assign (.tmp u)) ty=if ty=900003 then xc pm dst (CG pm s dst (.tmp u) (s.v u))else if ty<1000000 then CG pm s dst (.tmp u) (s.v u)else xc pm dst (CG pm s dst (.tmp u) (s.v u)):=by
 have hfr:((CG pm s dst (.tmp u) (s.v u)).bind fun s1=>FY pm s1 dst)=xc pm dst (CG pm s dst (.tmp u) (s.v u)):=by
  rcases CG pm s dst (.tmp u) (s.v u)with _|s1<;>cases dst<;>rfl
 show(if rX ty=true then(CG pm s dst (.tmp u) (s.v u)).bind fun s1=>FY pm s1 dst else CG pm s dst (.tmp u) (s.v u))=_
 rw [hfr];unfold rX;by_cases h1:ty=900003
 ·rw [if_pos h1,if_pos h1];rfl
 ·rw [if_neg h1,if_neg h1];by_cases h2:ty<1000000
  ·rw [if_pos h2,if_pos h2];rfl
  ·rw [if_neg h2,if_neg h2];rfl
theorem uO(v:Value):Nh E pm s dst (.assign (.const v)) ty=if ty=900003 then xc pm dst (MS s dst (ev E.T s ty (.const v)))else if ty<1000000 then MS s dst (ev E.T s ty (.const v))else xc pm dst (MS s dst (ev E.T s (ty-1000000) (.const v))):=by
 have hfr: ∀t,((ev E.T s t (.const v)).bind fun d=>(CG pm s dst (.const v) d).bind fun s1=>FY pm s1 dst)=xc pm dst (MS s dst (ev E.T s t (.const v))):=by
  intro t
  cases ev E.T s t (.const v)<;>cases dst<;>rfl
 have hno: ∀t,((ev E.T s t (.const v)).bind fun d=>CG pm s dst (.const v) d)=MS s dst (ev E.T s t (.const v)):=by
  intro t
  cases ev E.T s t (.const v)<;>rfl
 show((ev E.T s (A2x ty) (.const v)).bind fun d=>if rX ty=true then(CG pm s dst (.const v) d).bind fun s1=>FY pm s1 dst else CG pm s dst (.const v) d)=_
 unfold rX A2x;by_cases h1:ty=900003
 ·simp only [if_pos h1,if_true];exact hfr _
 ·by_cases h2:ty<1000000
  ·simp only [if_neg h1,if_pos h2,Md,if_false];exact hno _
  ·simp only [if_neg h1,if_neg h2,if_true];exact hfr _
theorem A3U(v:Value):Nh E pm s dst (.move (.const v)) ty=MS s dst (ev E.T s ty (.const v)):=by
 show((ev E.T s ty (.const v)).map fun d=>Cy s dst (.const v) d)=_
 cases ev E.T s ty (.const v)<;>rfl
theorem A7I:Nh E pm s dst (.load t (.tmp u)) ty=MS s dst (GK E.T pm s t (.tmp u) (s.v u)):=NJ s dst _
theorem yUn(op:UnOp):Nh E pm s dst (.unOp op t (.tmp u)) ty=MS s dst (unD op (s.v u)):=NJ s dst _
theorem A3V(i:Nat):Nh E pm s dst (.fieldAddr t (.tmp u) i) ty=MS s dst (Fy E.T pm s t (.tmp u) (s.v u) i):=NJ s dst _
theorem ADe:Nh E pm s dst (.call ⟨.builtin .len, #[.tmp u], #[t]⟩) ty=MS s dst (Ry E.T pm s t (.tmp u) (s.v u)):=NJ s dst _
theorem uP(i:Nat):Nh E pm s dst (.extract (.tmp u) i) ty=Ja s dst (.tmp u) (s.v u) i:=nr rfl
def slC(T:Tys)(pm:Pm)(s:St)(dst:Option Tmp)(t:TypeId)(x:Operand)(hi:Option Operand):Option Operand→Option Operand→Option St
 |none,none=>ib dst (Ui T pm s t x hi)
 |_,_=>none
def slF(T:Tys)(pm:Pm)(s:St)(dst:Option Tmp)(t:TypeId)(x:Operand)(lo:Option Operand):Option Operand→Option Operand→Option St
 |none,none=>ib dst (Pq T pm s t x lo)
 |_,_=>none
theorem A3W(lo hi mx:Option Operand):Nh E pm s dst (.slice t (.tmp u) lo hi mx) ty=
  if ty=900002 then slC E.T pm s dst t (.tmp u) hi lo mx
  else if ty=900005 then slF E.T pm s dst t (.tmp u) lo hi mx
  else if ty=900001 then ib dst (JZ E.T pm.see s t (.tmp u) (s.v u) lo hi mx)else ib dst (JZ E.T pm s t (.tmp u) (s.v u) lo hi mx):=by
 show(if ty=900002 then(if lo.isNone&&mx.isNone then(Ui E.T pm s t (.tmp u) hi).map fun r=>r.2.putO dst r.1 else none)
  else if ty=900005 then(if hi.isNone&&mx.isNone then(Pq E.T pm s t (.tmp u) lo).map fun r=>r.2.putO dst r.1 else none)
  else(ev E.T s t (.tmp u)).bind fun d=>(JZ E.T (if ty=900001 then pm.see else pm) s t (.tmp u) d lo hi mx).map fun r=>r.2.putO dst r.1)=_
 split
 ·cases lo<;>cases mx<;>first|rfl|exact OZ dst _
 ·split
  ·cases hi<;>cases mx<;>first|rfl|exact OZ dst _
  ·split
   ·exact OZ dst _
   ·exact OZ dst _
def apI(T:Tys)(pm:Pm)(s:St)(t:TypeId)(x y:Operand)(d:D):Option (D×St):=if isZ (some d)then N8 T pm s t x else IX T pm s t x y
theorem yO(x:Operand)(v:Tmp):Nh E pm s dst (.call ⟨.builtin .append, #[x,.tmp v], #[t,t]⟩) ty=ib dst (apI E.T pm s t x (.tmp v) (s.v v)):=by
 rw [lU,if_pos rfl,OZ];rfl
theorem ADf(T:Tys)(x y:Operand)(e:TypeId)(xs:List D):apI T pm s t x y (.sl e xs)=IX T pm s t x y:=nr rfl
theorem A7J(T:Tys)(x y:Operand)(e:TypeId)(xs:List D):apI T pm s t x y (.own e xs)=IX T pm s t x y:=nr rfl
theorem apK(T:Tys)(x y:Operand)(A:Option Addr)(c:Nat):apI T pm s t x y (.konst (.slice A 0 c))=N8 T pm s t x:=nr rfl
def ix1(T:Tys)(pm:Pm)(s:St)(t:TypeId)(x:Operand)(d:D):Option D→Option D
 |some i=>WO T pm s t x d i
 |none=>none
theorem ADg(T:Tys)(x:Operand)(d i:D):ix1 T pm s t x d (some i)=WO T pm s t x d i:=nr rfl
theorem A3X(i:Operand):Nh E pm s dst (.indexAddr t (.tmp u) i) ty=MS s dst (ix1 E.T pm s t (.tmp u) (s.v u) (ev E.T s 0 i)):=by
 show(match some (s.v u),ev E.T s 0 i with
  |some a,some b=>(WO E.T pm s t (.tmp u) a b).map fun r=>s.putO dst r
  |_,_=>none)=_
 cases ev E.T s 0 i with
 |none=>rfl
 |some b=>exact NJ s dst _
def mk1(T:Tys)(t:TypeId):Option D→Option D→Option D
 |some a,some b=>Ep T t a b
 |_,_=>none
theorem ADh(T:Tys)(a b:D):mk1 T t (some a) (some b)=Ep T t a b:=nr rfl
theorem ADi(l c:Operand):Ym E.T s dst t l c=MS s dst (mk1 E.T t (ev E.T s 0 l) (ev E.T s 0 c)):=by
 show(match ev E.T s 0 l,ev E.T s 0 c with
  |some a,some b=>(Ep E.T t a b).map fun r=>s.putO dst r
  |_,_=>none)=_
 cases ev E.T s 0 l<;>cases ev E.T s 0 c<;>first|rfl|exact NJ s dst _
theorem A7L(l c:Operand):Nh E pm s dst (.makeSlice t l c) ty=if ty=900012 then fcB pm dst (MS s dst (mk1 E.T t (ev E.T s 0 l) (ev E.T s 0 c)))else MS s dst (mk1 E.T t (ev E.T s 0 l) (ev E.T s 0 c)):=by
 rw [Yy,ADi];by_cases h:ty=900012
 ·rw [if_pos h,if_pos h]
  cases MS s dst (mk1 E.T t (ev E.T s 0 l) (ev E.T s 0 c))<;>cases dst<;>rfl
 ·rw [if_neg h,if_neg h]
def cv1(s:St)(dst:Option Tmp):Option D→Ty→Option St
 |some (.int _ n),.int k=>some (s.putO dst (.int k (k.wrap n)))
 |some (.str b),.string=>some (s.putO dst (.str b))
 |_,_=>none
theorem ADj(k k':IntKind)(n:Int):cv1 s dst (some (.int k n)) (.int k')=some (s.putO dst (.int k' (k'.wrap n))):=nr rfl
theorem uQ(src d:TypeId)(x:Operand):Nh E pm s dst (.convert src d x) ty=if E.T.known src then cv1 s dst (ev E.T s src x) (E.T.ty d)else none:=by
 rw [ic];split
 ·rcases ev E.T s src x with _|d'<;>cases E.T.ty d<;>first|rfl|(cases d'<;>rfl)
 ·rfl
def asM(l:List TypeId):List TypeId:=l.map fun _=>900013
theorem A7M(f:FuncId)(args:Array Operand)(ts:Array TypeId)(h:args.size=ts.size):Nh E pm s dst (.call ⟨.value (.func f),args,ts⟩) ty=if ty=900014 then xc pm dst (I6 E pm s dst f (args.toList.zip ts.toList) [])else I6 E pm s dst f (args.toList.zip (if ty=900013 then asM ts.toList else ts.toList)) []:=by
 rw [uJ,if_pos h];by_cases c:ty=900014
 ·rw [if_pos c,if_pos c];have e:Pv ty ts.toList=ts.toList:=by unfold Pv;rw [c,if_neg (by decide)]
  rw [e];unfold xc
  cases I6 E pm s dst f (args.toList.zip ts.toList) []with
  |none=>cases dst<;>rfl
  |some s1=>cases dst<;>rfl
 ·rw [if_neg c,if_neg c]
  unfold Pv asM;rfl
end
section
variable {T:Tys} {pm:Pm} {s:St} {t:TypeId}
theorem ldC(x:Operand)(xs:List D)(hk:T.known t=true)(hs:T.isStruct t=false):GK T pm s t x (.cptr xs)=xs[0]? :=by simp [GK,hk,hs]
theorem ADk(x:Operand)(xs:List D)(hk:T.known t=true)(hs:T.isStruct t=true):GK T pm s t x (.cptr xs)=if T.size t≤xs.length then some (.agg (xs.take (T.size t)))else none:=by simp [GK,hk,hs]
def QB(s:St)(L:AA)(c:Nat):Option D→Option D
 |some o=>(o.cells[c]?).bind fun x=>Dx (J8 s L c x)
 |none=>none
def cellsOf(s:St)(L:AA)(c n:Nat):Option D→Option D
 |some o=>if c+n≤o.cells.length then Dx (.agg ((List.range n).map fun i=>J8 s L (c+i) (o.cells.getD (c+i) .undef)))else none
 |none=>none
theorem ldP(x:Operand)(L:AA)(c n m:Nat)(hk:T.known t=true)(hs:T.isStruct t=false):GK T pm s t x (.pe L c n m)=QB s L c (s.look pm L n m):=by
 simp only [GK,hk,hs,if_true,JH]
 cases s.look pm L n m<;>simp [QB]
theorem ldB(u:Tmp)(xs:List D)(hk:T.known t=true)(hs:T.isStruct t=false):GK T pm s t (.tmp u) (.box xs)=QB s [u] 0 (some (.box xs)):=by
 simp only [GK,hk,hs,if_true,JH];simp [QB]
theorem ADl(u:Tmp)(xs:List D)(hk:T.known t=true)(hs:T.isStruct t=true):GK T pm s t (.tmp u) (.box xs)=cellsOf s [u] 0 (T.size t) (some (.box xs)):=by
 simp only [GK,hk,hs,if_true,JH];simp [cellsOf]
def Uz(s:St)(pm:Pm)(L:AA)(n m:Nat):Option D:=
 match s.look pm L n m with
 |some (.box xs)=>some (.box xs)
 |_=>none
theorem ldV(x:Operand)(L:AA)(n m:Nat)(hk:T.known t=true)(hs:T.isStruct t=false):GK T pm s t x (.vw L n m)=QB s L 0 (Uz s pm L n m):=by
 simp only [GK,hk,hs,if_true,JH,Uz]
 cases s.look pm L n m with
 |none=>simp [QB]
 |some o=>cases o<;>simp [QB]
def ig:D→Option D
 | .own e xs=>some (.own e xs)
 | .box xs=>some (.box xs)
 |_=>none
theorem A3Y(e:TypeId)(xs:List D):ig (.own e xs)=some (.own e xs):=nr rfl
theorem A3Z(xs:List D):ig (.box xs)=some (.box xs):=nr rfl
theorem A7N(u n m:Nat):s.look pm [u] n m=if pm.rd u&&(s.k u==n)then ig (s.v u)else none:=by
 simp only [St.look,List.isEmpty_nil,Bool.true_or,aT,Bi];split
 ·cases s.v u<;>rfl
 ·rfl
def A7O:Option D→Option D
 |some d=>ig d
 |none=>none
theorem A7P(u c n m:Nat)(p:AA):s.look pm (u::c::p) n m=if pm.rd u&&(s.k u==n)&&(s.m u==m)then A7O (Bi (s.v u) (c::p))else none:=by
 simp only [St.look,List.isEmpty_cons,Bool.false_or];split
 ·cases Bi (s.v u) (c::p)with
  |none=>rfl
  |some d=>cases d<;>rfl
 ·rfl
theorem A7Q(d:D):A7O (some d)=ig d:=nr rfl
theorem ADm(x:Operand)(e:TypeId)(xs:List D):DL pm s x (.sl e xs)=some (e,xs,none):=nr rfl
theorem A7R(u:Tmp)(e:TypeId)(xs:List D):DL pm s (.tmp u) (.own e xs)=some (e,xs,some ([u],s.k u,s.m u)):=nr rfl
def A7S(L:AA)(n m:Nat):Option D→Option (TypeId×List D×Option (AA×Nat×Nat))
 |some (.own e xs)=>some (e,xs,some (L,n,m))
 |_=>none
theorem A7T(L:AA)(n m:Nat)(e:TypeId)(xs:List D):A7S L n m (some (.own e xs))=some (e,xs,some (L,n,m)):=nr rfl
theorem ADn(x:Operand)(L:AA)(n m:Nat):DL pm s x (.vw L n m)=A7S L n m (s.look pm L n m):=by
 simp only [DL]
 cases s.look pm L n m with
 |none=>rfl
 |some o=>cases o<;>rfl
def yP(T:Tys):Option (TypeId×List D×Option (AA×Nat×Nat))→Option D
 |some (e,xs,_)=>if T.known e then some (.int .i64 (T.len e xs))else none
 |none=>none
theorem A7U(e:TypeId)(xs:List D)(o:Option (AA×Nat×Nat))(hk:T.known e=true):yP T (some (e,xs,o))=some (.int .i64 (T.len e xs)):=by simp [yP,hk]
def ln0(T:Tys)(pm:Pm)(s:St)(x:Operand)(d:D):Ty→Option D
 | .string=>match d with| .str b=>some (.int .i64 b.size)|_=>none
 | .slice _=>yP T (DL pm s x d)
 |_=>none
theorem lnT(x:Operand)(d:D):Pp T pm s t x d=ln0 T pm s x d (T.ty t):=by
 unfold Pp ln0
 cases T.ty t with
 |slice e=>
  simp only
  cases DL pm s x d with
  |none=>rfl
  |some q=>rfl
 |string=>cases d<;>rfl
 |_=>rfl
theorem A7V(x:Operand)(e:TypeId)(xs:List D):Ry T pm s t x (.sl e xs)=Pp T pm s t x (.sl e xs):=nr rfl
def lnW(T:Tys)(pm:Pm)(s:St)(t:TypeId)(x:Operand)(L:AA)(n m:Nat):Ty→Option D
 | .map _ _=>(s.lookM pm L n).map fun q=> .int .i64 q.2.2.length
 |_=>Pp T pm s t x (.vw L n m)
theorem A7W(x:Operand)(L:AA)(n m:Nat):Ry T pm s t x (.vw L n m)=lnW T pm s t x L n m (T.ty t):=by
 show(match T.ty t with| .map _ _=>fw T pm s t x (.vw L n m)|_=>fu T pm s t x (.vw L n m))=_
 unfold lnW fw
 cases h:T.ty t<;>simp only [aU]<;>first|rfl|(cases s.lookM pm L n<;>rfl)
theorem ADq(T:Tys)(x:Operand)(L:AA)(n m:Nat)(e:TypeId):lnW T pm s t x L n m (.slice e)=Pp T pm s t x (.vw L n m):=nr rfl
theorem A7X(x:Operand)(e:TypeId)(xs:List D)(i:D):WO T pm s t x (.sl e xs) i=Eo T pm s t x (.sl e xs) i:=nr rfl
theorem A7Y(x:Operand)(L:AA)(n m:Nat)(i:D):WO T pm s t x (.vw L n m) i=Eo T pm s t x (.vw L n m) i:=nr rfl
theorem ADr(x:Operand)(d:D)(e:TypeId):ln0 T pm s x d (.slice e)=yP T (DL pm s x d):=nr rfl
theorem A7Z(e:TypeId)(xs:List D)(h:T.size e=1):T.len e xs=xs.length:=by simp [Tys.len,h]
def uR(T:Tys)(e:TypeId)(n:Int):Option (TypeId×List D×Option (AA×Nat×Nat))→Option D
 |some (e',xs,o)=>
  if e'=e∧T.known e=true∧0≤n∧n.toNat<T.len e xs then
   match o with
   |none=>some (.cptr ((xs.drop (n.toNat*T.size e)).take (T.size e)))
   |some (L,a,b)=>some (.pe L (n.toNat*T.size e) a b)
  else none
 |none=>none
def ix0(T:Tys)(pm:Pm)(s:St)(x:Operand)(d:D)(n:Int):Ty→Option D
 | .slice e=>uR T e n (DL pm s x d)
 |_=>none
theorem ixT(x:Operand)(d:D)(k:IntKind)(n:Int):Eo T pm s t x d (.int k n)=ix0 T pm s x d n (T.ty t):=by
 unfold Eo ix0
 cases T.ty t with
 |slice e=>
  simp only
  cases DL pm s x d with
  |none=>rfl
  |some q=>rfl
 |_=>rfl
theorem ADt(x:Operand)(d:D)(n:Int)(e:TypeId):ix0 T pm s x d n (.slice e)=uR T e n (DL pm s x d):=nr rfl
theorem ADu(e:TypeId)(n:Int)(xs:List D)(hk:T.known e=true)(hz:T.size e=1)(hn:0≤n∧n.toNat<xs.length):uR T e n (some (e,xs,none))=some (.cptr [xs.getD n.toNat .undef]):=by
 simp only [uR,hk,hz,Tys.len,if_true];rw [if_pos ⟨trivial,trivial,hn.1,hn.2⟩,R3,WH hn.2,MQ,K4 hn.2];rfl
theorem ADv(e:TypeId)(n:Int)(xs:List D)(L:AA)(a b:Nat)(hk:T.known e=true)(hz:T.size e=1)(hn:0≤n∧n.toNat<xs.length):uR T e n (some (e,xs,some (L,a,b)))=some (.pe L n.toNat a b):=by
 simp only [uR,hk,hz,Tys.len,if_true];rw [if_pos ⟨trivial,trivial,hn.1,hn.2⟩,R3]
end
section
variable {T:Tys} {pm:Pm} {s:St} {t:TypeId} (u:Tmp)
def fU(pm:Pm)(s:St)(u:Tmp)(d:D):Option (D×St):=Cm pm (if d.hasObj then s.clr u else s) d
theorem A7a:take T pm s t (.tmp u)=fU pm s u (s.v u):=nr rfl
theorem tkC(v:Value):take T pm s t (.const v)=match ev T s t (.const v)with|none=>none|some d=>Cm pm s d:=nr rfl
theorem A7b(k:IntKind)(n:Int):Cm pm s (.int k n)=some (.int k n,s):=by simp [Cm]
theorem ADw(e:TypeId)(xs:List D):Cm pm s (.sl e xs)=some (.sl e xs,s):=by simp [Cm]
theorem A7c(e:TypeId)(xs:List D):Cm pm s (.own e xs)=some (.own e xs,s):=by simp [Cm]
theorem ADx(L:AA)(n m:Nat):Cm pm s (.vw L n m)=Po pm s L n m:=by simp [Cm]
def td1:Option (List D×St)→Option (D×St)
 |some r=>some (.agg r.1,r.2)
 |none=>none
theorem ADy(r:List D×St):td1 (some r)=some (.agg r.1,r.2):=nr rfl
theorem A7e(xs:List D):Cm pm s (.agg xs)=td1 (FH pm s xs):=by simp only [Cm];cases FH pm s xs<;>rfl
def td2(pm:Pm)(ds:List D):Option (D×St)→Option (List D×St)
 |some r=>(FH pm r.2 ds).map fun q=>(r.1::q.1,q.2)
 |none=>none
theorem ADz(ds:List D)(d:D):td2 pm ds (some (d,s))=(FH pm s ds).map fun q=>(d::q.1,q.2):=nr rfl
theorem A3a:FH pm s []=some ([],s):=by simp [FH]
theorem yQ(d:D)(ds:List D):FH pm s (d::ds)=td2 pm ds (Cm pm s d):=by simp only [FH];cases Cm pm s d<;>rfl
theorem A7f(k:IntKind)(n:Int):fU pm s u (.int k n)=some (.int k n,s):=by simp [fU,Cm,D.hasObj]
theorem A3b(b:Bool):fU pm s u (.bool b)=some (.bool b,s):=by simp [fU,Cm,D.hasObj]
theorem AE0(e:TypeId)(xs:List D):fU pm s u (.sl e xs)=some (.sl e xs,s):=by simp [fU,Cm,D.hasObj]
theorem A7g(e:TypeId)(xs:List D):fU pm s u (.own e xs)=some (.own e xs,s.clr u):=by simp [fU,Cm,D.hasObj]
theorem A7h(f:FuncId)(xs:List D):fU pm s u (.clo f xs)=some (.clo f xs,s):=by simp [fU,Cm,D.hasObj]
theorem A3c(xs:List D):fU pm s u (.cptr xs)=some (.cptr xs,s):=by simp [fU,Cm,D.hasObj]
theorem AE1(L:AA)(n m:Nat):fU pm s u (.vw L n m)=Po pm s L n m:=by simp [fU,Cm,D.hasObj]
theorem A7i(xs:List D):fU pm s u (.agg xs)=td1 (FH pm (if Aj xs then s.clr u else s) xs):=by
 simp only [fU,D.hasObj];rw [A7e];rfl
theorem A3d:Aj []=false:=by simp [Aj]
theorem ng(d:D)(ds:List D):Aj (d::ds)=(d.hasObj||Aj ds):=by simp [Aj]
theorem A7j(e:TypeId)(xs:List D):(D.sl e xs).hasObj=false:=by simp [D.hasObj]
theorem A7k(e:TypeId)(xs:List D):(D.own e xs).hasObj=true:=by simp [D.hasObj]
theorem A7l(xs:List D):(D.box xs).hasObj=true:=by simp [D.hasObj]
theorem AE2(L:AA)(n m:Nat):(D.vw L n m).hasObj=false:=by simp [D.hasObj]
theorem A7m(xs:List D):(D.tup xs).hasObj=Aj xs:=by simp [D.hasObj]
def pl1(s:St)(r:Nat):Option D→Option (D×St)
 |some c=>some (c,s.set [r] .undef)
 |none=>none
theorem AE4(r:Nat)(c:D):pl1 s r (some c)=some (c,s.set [r] .undef):=nr rfl
theorem A7n(r n m:Nat)(hw:pm.wr r=true):Po pm s [r] n m=pl1 s r (s.look pm [r] n m):=by
 unfold Po
 cases s.look pm [r] n m with
 |none=>rfl
 |some c=>simp [hw,St.get,pl1]
def pl2(s:St)(L:AA)(o:Option D):Option D→Option (D×St)
 |some c=>match o with
  |some (.own _ _)=>(EL c).map fun c'=>(c',s.set L c')
  |_=>some (c,s.set L .undef)
 |none=>none
theorem AE5(L:AA)(xs:List D)(c:D):pl2 s L (some (.box xs)) (some c)=some (c,s.set L .undef):=nr rfl
theorem AE6(L:AA)(e:TypeId)(xs:List D)(c:D):pl2 s L (some (.own e xs)) (some c)=(EL c).map fun c'=>(c',s.set L c'):=nr rfl
theorem A7p(u' c n m:Nat)(p:AA)(hw:pm.wr u'=true):Po pm s (u'::c::p) n m=pl2 s (u'::c::p) (s.get (u'::c::p).dropLast) (s.look pm (u'::c::p) n m):=by
 unfold Po
 cases s.look pm (u'::c::p) n m with
 |none=>rfl
 |some d=>simp only [Yj,hw,if_true,pl2];rfl
theorem AE7(r:Nat):s.get [r]=some (s.v r):=nr rfl
theorem A7q(d:D):Bi d []=some d:=by cases d<;>rfl
theorem A7r(e:TypeId)(xs:List D)(c:Nat)(p:AA):Bi (.own e xs) (c::p)=(xs[c]?).bind fun d=>Bi d p:=nr rfl
theorem A7s(xs:List D)(c:Nat)(p:AA):Bi (.box xs) (c::p)=(xs[c]?).bind fun d=>Bi d p:=nr rfl
theorem A7t(d x:D):J7 d [] x=x:=by cases d<;>rfl
theorem A7u(e:TypeId)(xs:List D)(c:Nat)(p:AA)(x:D):J7 (.own e xs) (c::p) x= .own e (xs.set c (J7 (xs.getD c .undef) p x)):=nr rfl
theorem A7v(xs:List D)(c:Nat)(p:AA)(x:D):J7 (.box xs) (c::p) x= .box (xs.set c (J7 (xs.getD c .undef) p x)):=nr rfl
end
section
variable {T:Tys} {pm:Pm} {s:St} {t:TypeId}
def fV(T:Tys)(pm:Pm)(t:TypeId)(ax:Operand):Option (D×St)→Option St
 |none=>none
 |some (d,s1)=>
  match ev T s1 t ax with
  |none=>none
  |some ad=>
   match JH pm s1 ax ad with
   |none=>none
   |some (L,c,o)=>
    if T.known t&&pm.wr (L.headD 0)&&d.asCells.all Di&&(T.size t==d.asCells.length)&&(T.isStruct t==d.isAgg)&&decide (c+T.size t≤o.cells.length)then
     let s2:=s1.set L (o.withCells (Cg o.cells c d.asCells))
     some (if d.hasObj||Aj o.cells then s2.bump (L.headD 0)else s2)
    else none
theorem A3e(ax x:Operand):KZ T pm s t ax x=fV T pm t ax (take T pm s t x):=by
 unfold KZ IW fV;rcases take T pm s t x with _|⟨d,s1⟩<;>rfl
def tm1(T:Tys)(pm:Pm)(s:St)(t:TypeId)(u:Tmp):D→Option (D×St)
 | .vw L n m=>WN pm s L n m
 |_=>take T pm s t (.tmp u)
theorem A3f(u:Tmp):N7 T pm s t (.tmp u)=tm1 T pm s t u (s.v u):=by
 unfold N7;simp only [ev]
 cases s.v u<;>rfl
def tm2(s:St)(L:AA):Option D→Option (D×St)
 |some c=>some (c,s.set L .undef)
 |none=>none
theorem AEA(u:Tmp)(L:AA)(n m:Nat)(hw:pm.wr (L.headD 0)=true):tm1 T pm s t u (.vw L n m)=tm2 s L (s.look pm L n m):=by
 show WN pm s L n m=_
 unfold WN tm2
 cases s.look pm L n m with
 |none=>rfl
 |some c=>simp only [hw,if_true]
theorem A3g(u:Tmp)(e:TypeId)(xs:List D):tm1 T pm s t u (.own e xs)=take T pm s t (.tmp u):=nr rfl
theorem AEB(L:AA)(c:D):tm2 s L (some c)=some (c,s.set L .undef):=nr rfl
def yR(s1:St)(L:AA)(c:Nat)(d:D):Option D→Option St
 |none=>none
 |some o=>if c<o.cells.length then(if d.hasObj||Aj o.cells then some ((s1.set L (o.withCells (o.cells.set c d))).bump (L.headD 0))else some (s1.set L (o.withCells (o.cells.set c d))))else none
def sd1(T:Tys)(pm:Pm)(t:TypeId)(u:Tmp)(d:D)(s:St):D→Option St
 | .pe L c n m=>if T.known t&& !T.isStruct t&&pm.wr (L.headD 0)&&Di d then yR s L c d (s.look pm L n m)else fV T pm t (.tmp u) (some (d,s))
 | .vw L n m=>if T.known t&& !T.isStruct t&&pm.wr (L.headD 0)&&Di d then yR s L 0 d (Uz s pm L n m)else fV T pm t (.tmp u) (some (d,s))
 | .box xs=>if T.known t&& !T.isStruct t&&pm.wr u&&Di d then yR s [u] 0 d (some (.box xs))else fV T pm t (.tmp u) (some (d,s))
 |_=>fV T pm t (.tmp u) (some (d,s))
theorem QC{d:D}(hd:Di d=true):d.asCells=[d]∧d.isAgg=false:=by
 cases d<;>first|exact⟨rfl,rfl⟩|(simp [Di]at hd)
theorem Sl{T:Tys}{t:TypeId}(hs:T.isStruct t=false):T.size t=1:=by
 unfold Tys.isStruct at hs;unfold Tys.size
 cases hty:T.ty t<;>simp_all [Ty.isStruct,Ty.size]
theorem AEC(u:Tmp)(d:D)(_:d.isAgg=false):fV T pm t (.tmp u) (some (d,s))=sd1 T pm t u d s (s.v u):=by
 cases hv:s.v u<;>simp only [sd1]
 case pe L c n m=>
  split
  ·rename_i hc
   simp only [Fa,O9]at hc;obtain⟨⟨⟨hk,hs⟩,hw⟩,hd⟩:=hc;obtain⟨ha,hg⟩:=QC hd;have hz:=Sl hs;simp only [fV,ev,hv,JH]
   cases s.look pm L n m with
   |none=>rfl
   |some o=>
    simp only [yR,hk,hw,ha,hz,hs,hg,VF,hd,List.all_nil,Lt,Pn,aT,Cg,beq_self_eq_true,Lu];by_cases hc:c<o.cells.length
    ·have h1:c+1≤o.cells.length:=hc;simp only [hc,h1,decide_true,aT,if_true];split<;>first|rfl|(rename_i hq;simp only [hq];rfl)
    ·have h1: ¬c+1≤o.cells.length:=hc;simp only [hc,h1,decide_false,Bool.and_false,Md,if_false]
  ·rfl
 case vw L n m=>
  split
  ·rename_i hc
   simp only [Fa,O9]at hc;obtain⟨⟨⟨hk,hs⟩,hw⟩,hd⟩:=hc;obtain⟨ha,hg⟩:=QC hd;have hz:=Sl hs;simp only [fV,ev,hv,JH,Uz]
   cases s.look pm L n m with
   |none=>rfl
   |some o=>
    cases o<;>try rfl
    rename_i xs
    simp only [yR,hk,hw,ha,hz,hs,hg,VF,hd,List.all_nil,Lt,Pn,aT,Cg,beq_self_eq_true,Lu,D.cells];by_cases hc:0<xs.length
    ·have h1:1≤xs.length:=hc;simp only [hc,h1,decide_true,aT,if_true];split<;>first|rfl|(rename_i hq;simp only [hq];rfl)
    ·have h1: ¬1≤xs.length:=hc;simp only [hc,h1,decide_false,Bool.and_false,Md,if_false]
  ·rfl
 case box xs=>
  split
  ·rename_i hc
   simp only [Fa,O9]at hc;obtain⟨⟨⟨hk,hs⟩,hw⟩,hd⟩:=hc;obtain⟨ha,hg⟩:=QC hd;have hz:=Sl hs;simp only [fV,ev,hv,JH];simp only [yR,hk,hw,ha,hz,hs,hg,VF,hd,List.all_nil,Lt,Pn,aT,Cg,beq_self_eq_true,Lu,D.cells,Yj];by_cases hc:0<xs.length
   ·have h1:1≤xs.length:=hc;simp only [hc,h1,decide_true,aT,if_true];split<;>first|rfl|(rename_i hq;simp only [hq];rfl)
   ·have h1: ¬1≤xs.length:=hc;simp only [hc,h1,decide_false,Bool.and_false,Md,if_false]
  ·rfl
theorem AED(u:Tmp)(d:D)(L:AA)(c n m:Nat)(hk:T.known t=true)(hs:T.isStruct t=false)(hw:pm.wr (L.headD 0)=true)(hd:Di d=true):sd1 T pm t u d s (.pe L c n m)=yR s L c d (s.look pm L n m):=by
 simp [sd1,hk,hs,hd];intro h;simp_all
theorem AEE(u:Tmp)(d:D)(xs:List D)(hk:T.known t=true)(hs:T.isStruct t=false)(hw:pm.wr u=true)(hd:Di d=true):sd1 T pm t u d s (.box xs)=yR s [u] 0 d (some (.box xs)):=by
 simp [sd1,hk,hs,hd];intro h;simp_all
def bx1:Option D→Option D
 |some (.box xs)=>some (.box xs)
 |_=>none
theorem bxA(L:AA)(n m:Nat):Uz s pm L n m=bx1 (s.look pm L n m):=by
 unfold Uz bx1
 cases s.look pm L n m with
 |none=>rfl
 |some o=>cases o<;>rfl
theorem AEG(xs:List D):bx1 (some (.box xs))=some (.box xs):=nr rfl
theorem hdC(a:Nat)(l:AA)(d:Nat):List.headD (a::l) d=a:=nr rfl
theorem AEH(L:AA)(c:Nat)(d o:D):yR s L c d (some o)=if c<o.cells.length then(if d.hasObj||Aj o.cells then some ((s.set L (o.withCells (o.cells.set c d))).bump (L.headD 0))else some (s.set L (o.withCells (o.cells.set c d))))else none:=nr rfl
theorem A7w(e:TypeId)(xs:List D):(D.own e xs).cells=xs:=nr rfl
theorem A7x(xs:List D):(D.box xs).cells=xs:=nr rfl
theorem A7y(e:TypeId)(xs ys:List D):(D.own e xs).withCells ys= .own e ys:=nr rfl
theorem A7z(xs ys:List D):(D.box xs).withCells ys= .box ys:=nr rfl
theorem A80(k:IntKind)(n:Int):Di (.int k n)=true:=nr rfl
theorem A81(e:TypeId)(xs:List D):Di (.own e xs)=true:=nr rfl
theorem ceS(L:AA)(c:Nat)(o:D):QB s L c (some o)=(o.cells[c]?).bind fun x=>Dx (J8 s L c x):=nr rfl
theorem AEI(L:AA)(c:Nat)(e:TypeId)(xs:List D):Dx (J8 s L c (.sl e xs))=some (.sl e xs):=nr rfl
theorem A3h(L:AA)(c:Nat)(xs:List D):Dx (J8 s L c (.cptr xs))=some (.cptr xs):=nr rfl
theorem AEJ(r:Nat)(p:AA):kE s (r::p)= .vw (r::p) (s.k r) (s.m r):=nr rfl
def ap1(T:Tys)(pm:Pm)(e:TypeId)(ty:TypeId)(y:Operand):Option (D×St)→Option (D×St)
 |some (.own e1 xs,s1)=>
   match ev T s1 ty y with
   |some d=>
    match DL pm s1 y d with
    |some (e2,ys,_)=>
     if e1=e∧e2=e∧T.elem e=true∧ys.all Di=true∧xs.length+ys.length<1099511627776 then
      if Aj ys then
       match d,y with
       | .own _ _,.tmp u=>some (.own e (xs++ys),s1.clr u)
       |_,_=>none
      else some (.own e (xs++ys),s1)
     else none
    |none=>none
   |none=>none
 |_=>none
def az1(T:Tys)(e:TypeId):Option (D×St)→Option (D×St)
 |some (.own e1 xs,s1)=>if e1=e∧T.known e=true then some (.own e xs,s1)else none
 |_=>none
def az0(T:Tys)(pm:Pm)(s:St)(ty:TypeId)(x:Operand):Ty→Option (D×St)
 | .slice e=>az1 T e (take T pm s ty x)
 |_=>none
theorem A84(ty:TypeId)(x:Operand):N8 T pm s ty x=az0 T pm s ty x (T.ty ty):=by
 unfold N8 az0
 cases T.ty ty with
 |slice e=>
  simp only [az1];rcases take T pm s ty x with _|⟨d,s1⟩
  ·rfl
  ·cases d<;>rfl
 |_=>rfl
theorem Sm{T:Tys}{e:TypeId}(hk:T.known e=true)(h4:T.size e≤4):T.elem e=true:=by simp [Tys.elem,hk,h4]
theorem AEL(ty:TypeId)(x:Operand)(e:TypeId):az0 T pm s ty x (.slice e)=az1 T e (take T pm s ty x):=nr rfl
theorem AEM(e:TypeId)(xs:List D)(hk:T.known e=true):az1 T e (some (.own e xs,s))=some (.own e xs,s):=by simp [az1,hk]
def ap0(T:Tys)(pm:Pm)(s:St)(ty:TypeId)(x y:Operand):Ty→Option (D×St)
 | .slice e=>ap1 T pm e ty y (N7 T pm s ty x)
 |_=>none
theorem AEO(ty:TypeId)(x y:Operand):IX T pm s ty x y=ap0 T pm s ty x y (T.ty ty):=by
 unfold IX ap0
 cases T.ty ty with
 |slice e=>
  simp only [ap1];rcases N7 T pm s ty x with _|⟨d,s1⟩
  ·rfl
  ·cases d<;>rfl
 |_=>rfl
theorem AEP(ty:TypeId)(x y:Operand)(e:TypeId):ap0 T pm s ty x y (.slice e)=ap1 T pm e ty y (N7 T pm s ty x):=nr rfl
def ap2(T:Tys)(e e1:TypeId)(xs:List D)(s:St)(u:Tmp)(d:D):Option (TypeId×List D×Option (AA×Nat×Nat))→Option (D×St)
 |some (e2,ys,_)=>
     if e1=e∧e2=e∧T.elem e=true∧ys.all Di=true∧xs.length+ys.length<1099511627776 then
      if Aj ys then
       match d with
       | .own _ _=>some (.own e (xs++ys),s.clr u)
       |_=>none
      else some (.own e (xs++ys),s)
     else none
 |none=>none
theorem AEQ(ty e e1:TypeId)(u:Tmp)(xs:List D):ap1 T pm e ty (.tmp u) (some (.own e1 xs,s))=ap2 T e e1 xs s u (s.v u) (DL pm s (.tmp u) (s.v u)):=by
 simp only [ap1,ev,ap2];rcases DL pm s (.tmp u) (s.v u)with _|⟨e2,ys,o⟩
 ·rfl
 ·simp only;split
  ·split
   ·cases s.v u<;>rfl
   ·rfl
  ·rfl
theorem AER(e:TypeId)(u:Tmp)(xs ys:List D)(d:D)(o:Option (AA×Nat×Nat))(hk:T.known e=true)(h4:T.size e≤4)(hy:ys.all Di=true)(hno:Aj ys=false)(hl:xs.length+ys.length<1099511627776):
  ap2 T e e xs s u d (some (e,ys,o))=some (.own e (xs++ys),s):=by
 simp only [ap2];rw [if_pos ⟨trivial,trivial,Sm hk h4,hy,hl⟩,hno];simp
theorem AES(e e':TypeId)(u:Tmp)(xs ys zs:List D)(o:Option (AA×Nat×Nat))(hk:T.known e=true)(h4:T.size e≤4)(hy:ys.all Di=true)(hno:Aj ys=true)(hl:xs.length+ys.length<1099511627776):
  ap2 T e e xs s u (.own e' zs) (some (e,ys,o))=some (.own e (xs++ys),s.clr u):=by
 simp only [ap2];rw [if_pos ⟨trivial,trivial,Sm hk h4,hy,hl⟩,hno];simp
end
section
variable {E:Env} {pm:Pm} {s:St} {dst:Option Tmp}
def ik(a:D)(l:List (AA×D)):Option (List D×List (AA×D))→Option (List D×List (AA×D))
 |some (as,ls)=>some (a::as,l++ls)
 |none=>none
theorem A3i(a:D)(l:List (AA×D))(as:List D)(ls:List (AA×D)):ik a l (some (as,ls))=some (a::as,l++ls):=nr rfl
def V3(E:Env)(lend:Bool)(pm:Pm)(s:St)(j:Nat)(rest:List (Operand×TypeId)):Option (D×List (AA×D))→Option (List D×List (AA×D))
 |some (a,l)=>ik a l (Dt E lend pm s (j+l.length) rest)
 |none=>none
theorem A3j(lend:Bool)(j:Nat)(rest:List (Operand×TypeId))(a:D)(l:List (AA×D)):V3 E lend pm s j rest (some (a,l))=ik a l (Dt E lend pm s (j+l.length) rest):=nr rfl
theorem A85(lend:Bool)(j:Nat):Dt E lend pm s j []=some ([],[]):=nr rfl
theorem A86(lend:Bool)(j:Nat)(u:Tmp)(t:TypeId)(rest:List (Operand×TypeId)):Dt E lend pm s j ((.tmp u,t)::rest)=V3 E lend pm s j rest (NY E.T lend pm s j [u] (s.v u)):=by
 simp only [Dt,ev];rcases NY E.T lend pm s j [u] (s.v u)with _|⟨a,l⟩
 ·rfl
 ·simp only [V3];rcases Dt E lend pm s (j+l.length) rest with _|⟨as,ls⟩<;>rfl
def aC(E:Env)(lend:Bool)(pm:Pm)(s:St)(j:Nat)(rest:List (Operand×TypeId)):Option D→Option (List D×List (AA×D))
 |some d=>V3 E lend pm s j rest (NY E.T lend pm s j [] d)
 |none=>none
theorem aCS(lend:Bool)(j:Nat)(rest:List (Operand×TypeId))(d:D):aC E lend pm s j rest (some d)=V3 E lend pm s j rest (NY E.T lend pm s j [] d):=nr rfl
theorem arC(lend:Bool)(j:Nat)(v:Value)(t:TypeId)(rest:List (Operand×TypeId)):Dt E lend pm s j ((.const v,t)::rest)=aC E lend pm s j rest (ev E.T s t (.const v)):=by
 simp only [Dt]
 cases ev E.T s t (.const v)with
 |none=>rfl
 |some d=>
  simp only [aC];rcases NY E.T lend pm s j [] d with _|⟨a,l⟩
  ·rfl
  ·simp only [V3];rcases Dt E lend pm s (j+l.length) rest with _|⟨as,ls⟩<;>rfl
theorem arF(lend:Bool)(j:Nat)(f:FuncId)(t:TypeId)(rest:List (Operand×TypeId)):Dt E lend pm s j ((.func f,t)::rest)=V3 E lend pm s j rest (NY E.T lend pm s j [] (.clo f [])):=by
 simp only [Dt,ev];rcases NY E.T lend pm s j [] (.clo f [])with _|⟨a,l⟩
 ·rfl
 ·simp only [V3];rcases Dt E lend pm s (j+l.length) rest with _|⟨as,ls⟩<;>rfl
variable (lend:Bool) (j:Nat) (L:AA)
theorem A87(T:Tys)(k:IntKind)(n:Int):NY T lend pm s j L (.int k n)=Eg lend pm s j L (.int k n):=nr rfl
theorem AET(T:Tys)(e:TypeId)(xs:List D):NY T lend pm s j L (.sl e xs)=Eg lend pm s j L (.sl e xs):=nr rfl
theorem A88(T:Tys)(f:FuncId)(xs:List D):NY T lend pm s j L (.clo f xs)=Eg lend pm s j L (.clo f xs):=nr rfl
theorem A89(T:Tys)(e:TypeId)(xs:List D):NY T lend pm s j L (.own e xs)=Eg lend pm s j L (.own e xs):=nr rfl
theorem AEU(T:Tys)(M:AA)(n m:Nat):NY T lend pm s j L (.vw M n m)=Eg lend pm s j L (.vw M n m):=nr rfl
theorem A8A(T:Tys)(xs:List D):NY T lend pm s j L (.agg xs)=Eg lend pm s j L (.agg xs):=nr rfl
theorem A8B(k:IntKind)(n:Int):Eg lend pm s j L (.int k n)=some (.int k n,[]):=nr rfl
theorem AEV(e:TypeId)(xs:List D):Eg lend pm s j L (.sl e xs)=some (.sl e xs,[]):=nr rfl
theorem A8C(f:FuncId)(xs:List D):Eg lend pm s j L (.clo f xs)=some (.clo f xs,[]):=nr rfl
def fz1(l:List (AA×D)):Option D→Option (D×List (AA×D))
 |some c=>some (c,l)
 |none=>none
theorem AEW(l:List (AA×D))(c:D):fz1 l (some c)=some (c,l):=nr rfl
theorem A8D(e:TypeId)(xs:List D):Eg false pm s j L (.own e xs)=fz1 [(L,.own e xs)] (EL (.own e xs)):=by
 show((EL (.own e xs)).map fun c'=>(c',[(L,D.own e xs)]))=_
 cases EL (.own e xs)<;>rfl
def fz2(L:AA):Option D→Option (D×List (AA×D))
 |some c=>fz1 [(L,c)] (EL c)
 |none=>none
theorem AEY(c:D):fz2 L (some c)=fz1 [(L,c)] (EL c):=nr rfl
theorem AEZ(M:AA)(n m:Nat):Eg false pm s j L (.vw M n m)=fz2 M (s.look pm M n m):=by
 simp only [Eg,FV]
 cases s.look pm M n m with
 |none=>rfl
 |some c=>simp only [fz2];cases EL c<;>rfl
def ln2(j:Nat)(L:AA):Option D→Option (D×List (AA×D))
 |some c=>some (.vw [G+j] 0 0,[(L,c)])
 |none=>none
theorem AEa(c:D):ln2 j L (some c)=some (.vw [G+j] 0 0,[(L,c)]):=nr rfl
theorem A8E(M:AA)(n m:Nat):Eg true pm s j L (.vw M n m)=ln2 j M (s.look pm M n m):=by
 simp only [Eg,FV]
 cases s.look pm M n m<;>rfl
def ag1:Option (List D×List (AA×D))→Option (D×List (AA×D))
 |some r=>some (.agg r.1,r.2)
 |none=>none
theorem AEb(r:List D×List (AA×D)):ag1 (some r)=some (.agg r.1,r.2):=nr rfl
theorem A8F(xs:List D):Eg lend pm s j L (.agg xs)=ag1 (Ee lend pm s L j 0 xs):=by
 simp only [Eg]
 cases Ee lend pm s L j 0 xs<;>rfl
def uS(lend:Bool)(pm:Pm)(s:St)(L0:AA)(j i:Nat)(ds:List D):Option (D×List (AA×D))→Option (List D×List (AA×D))
 |some (a,l)=>ik a l (Ee lend pm s L0 (j+l.length) (i+1) ds)
 |none=>none
theorem A3k(i:Nat)(ds:List D)(a:D)(l:List (AA×D)):uS lend pm s L j i ds (some (a,l))=ik a l (Ee lend pm s L (j+l.length) (i+1) ds):=nr rfl
theorem A8G(i:Nat):Ee lend pm s L j i []=some ([],[]):=nr rfl
theorem A3l(i:Nat)(d:D)(ds:List D)(h:d.isAgg=false):Ee lend pm s L j i (d::ds)=uS lend pm s L j i ds (Eg lend pm s j (L++[i]) d):=by
 have:Eg lend pm s j (L++[i]) d=FV lend pm s j (L++[i]) d:=by cases d<;>first|rfl|(simp [D.isAgg]at h)
 rw [this];simp only [Ee];rcases FV lend pm s j (L++[i]) d with _|⟨a,l⟩
 ·rfl
 ·simp only [uS];rcases Ee lend pm s L (j+l.length) (i+1) ds with _|⟨as,ls⟩<;>rfl
theorem A8H(k:IntKind)(n:Int):(D.int k n).isAgg=false:=nr rfl
theorem AEc(e:TypeId)(xs:List D):(D.sl e xs).isAgg=false:=nr rfl
theorem A8I(e:TypeId)(xs:List D):(D.own e xs).isAgg=false:=nr rfl
theorem AEd(M:AA)(n m:Nat):(D.vw M n m).isAgg=false:=nr rfl
theorem A3m(xs:List D):(D.cptr xs).isAgg=false:=nr rfl
def cb1(E:Env)(pm:Pm)(s:St)(dst:Option Tmp)(f:FuncId)(caps:List D):Option (List D×List (AA×D))→Option St
 |none=>none
 |some (as,ls)=>
  match E.call f (as++caps) []with
  |some (r,_)=>
   if En r then
    if FI (ls.map (·.1))&&ls.all (fun l=>pm.wr (l.1.headD 0))then(NA ls).map fun ls'=>(back false s ls').putO dst r else none
   else some (s.putO dst r)
  |none=>none
theorem cdB(f:FuncId)(xs:List (Operand×TypeId))(caps:List D)(h:E.lends f=false):I6 E pm s dst f xs caps=cb1 E pm s dst f caps (Dt E false pm s 0 xs):=by
 unfold I6 cb1;rw [h];simp only [Md,if_false];rcases Dt E false pm s 0 xs with _|⟨as,ls⟩<;>rfl
def cb2(pm:Pm)(s:St)(dst:Option Tmp)(ls:List (AA×D)):Option (D×List D)→Option St
 |some (r,_)=>
   if En r then
    if FI (ls.map (·.1))&&ls.all (fun l=>pm.wr (l.1.headD 0))then(NA ls).map fun ls'=>(back false s ls').putO dst r else none
   else some (s.putO dst r)
 |none=>none
theorem AEe(f:FuncId)(caps as:List D)(ls:List (AA×D)):cb1 E pm s dst f caps (some (as,ls))=cb2 pm s dst ls (E.call f (as++caps) []):=by
 simp only [cb1];rcases E.call f (as++caps) []with _|⟨r,o⟩<;>rfl
theorem AEf(ls:List (AA×D))(r:D)(o:List D)(h:En r=false):cb2 pm s dst ls (some (r,o))=some (s.putO dst r):=by simp [cb2,h]
theorem AEg(r:D)(o:List D):cb2 pm s dst [] (some (r,o))=some (s.putO dst r):=by
 simp only [cb2];split<;>rfl
def cl1(E:Env)(pm:Pm)(s:St)(dst:Option Tmp)(f:FuncId)(caps:List D):Option (List D×List (AA×D))→Option St
 |none=>none
 |some (as,ls)=>
   if FI (ls.map (·.1))&&ls.all (fun l=>pm.wr (l.1.headD 0))&&ls.all (fun l=>fT l.2)then
    match E.call f (as++caps) (ls.map (·.2))with
    |some (r,outs)=>if outs.length=ls.length then some ((Lv s (ls.map (·.1)) outs).putO dst r)else none
    |none=>none
   else none
theorem cdL(f:FuncId)(xs:List (Operand×TypeId))(caps:List D)(h:E.lends f=true):I6 E pm s dst f xs caps=cl1 E pm s dst f caps (Dt E true pm s 0 xs):=by
 unfold I6 cl1;rw [h];simp only [if_true];rcases Dt E true pm s 0 xs with _|⟨as,ls⟩<;>rfl
def cl2(s:St)(dst:Option Tmp)(ls:List (AA×D)):Option (D×List D)→Option St
 |some (r,outs)=>if outs.length=ls.length then some ((Lv s (ls.map (·.1)) outs).putO dst r)else none
 |none=>none
theorem AEh(f:FuncId)(caps as:List D)(ls:List (AA×D))(h:(FI (ls.map (·.1))&&ls.all (fun l=>pm.wr (l.1.headD 0))&&ls.all (fun l=>fT l.2))=true):cl1 E pm s dst f caps (some (as,ls))=cl2 s dst ls (E.call f (as++caps) (ls.map (·.2))):=by
 simp only [cl1,h,if_true];rcases E.call f (as++caps) (ls.map (·.2))with _|⟨r,o⟩<;>rfl
theorem AEi(ls:List (AA×D))(r:D)(outs:List D)(h:outs.length=ls.length):cl2 s dst ls (some (r,outs))=some ((Lv s (ls.map (·.1)) outs).putO dst r):=by simp [cl2,h]
end
theorem A8K(k:IntKind)(n:Int):En (.int k n)=false:=by simp [En]
theorem A3n(b:Bool):En (.bool b)=false:=by simp [En]
theorem A8L(e:TypeId)(xs:List D):En (.own e xs)=EZ xs:=by simp [En]
theorem A8M(xs:List D):En (.agg xs)=EZ xs:=by simp [En]
theorem A8N(xs:List D):En (.tup xs)=EZ xs:=by simp [En]
theorem A3o:EZ []=false:=by simp [EZ]
theorem yS(d:D)(ds:List D):EZ (d::ds)=(En d||EZ ds):=by simp [EZ]
theorem A8O(k:IntKind)(n:Int):EL (.int k n)=some (.int k n):=by simp [EL]
theorem A3p(b:Bool):EL (.bool b)=some (.bool b):=by simp [EL]
theorem AEj(e:TypeId)(xs:List D):EL (.sl e xs)=some (.sl e xs):=by simp [EL]
theorem A8P(f:FuncId)(xs:List D):EL (.clo f xs)=some (.clo f xs):=by simp [EL]
theorem A3q(xs:List D):EL (.cptr xs)=some (.cptr xs):=by simp [EL]
def fzM(f:List D→D):Option (List D)→Option D
 |some xs=>some (f xs)
 |none=>none
theorem AEk(f:List D→D)(xs:List D):fzM f (some xs)=some (f xs):=nr rfl
theorem A05(e:TypeId)(xs:List D):EL (.own e xs)=fzM (.sl e) (Dc xs):=by simp only [EL];cases Dc xs<;>rfl
theorem A8R(xs:List D):EL (.box xs)=fzM .cptr (Dc xs):=by simp only [EL];cases Dc xs<;>rfl
theorem A8S(xs:List D):EL (.agg xs)=fzM .agg (Dc xs):=by simp only [EL];cases Dc xs<;>rfl
theorem A8T(xs:List D):EL (.tup xs)=fzM .tup (Dc xs):=by simp only [EL];cases Dc xs<;>rfl
theorem A3r:Dc []=some []:=by simp [Dc]
def fzC:Option D→Option (List D)→Option (List D)
 |some d,some ds=>some (d::ds)
 |_,_=>none
theorem AEl(d:D)(ds:List D):fzC (some d) (some ds)=some (d::ds):=nr rfl
theorem ni(d:D)(ds:List D):Dc (d::ds)=fzC (EL d) (Dc ds):=by
 simp only [Dc];cases EL d<;>cases Dc ds<;>rfl
theorem AEm(d:D):fT d=(EL d).isSome:=nr rfl
section
variable {T:Tys} {s:St}
def xe(n:Nat):Option (D×St)→Option (D×List D)
 |none=>none
 |some (r,s')=>if fT r&&((List.range n).map fun j=>s'.v (G+j)).all rM then some (r,(List.range n).map fun j=>s'.v (G+j))else none
theorem fiD(n:Nat)(rs:List ResultVar):aZ T n rs s=xe n (Ox T s rs):=by
 unfold aZ xe;rcases Ox T s rs with _|⟨r,s'⟩<;>rfl
theorem fi0(r:D):xe 0 (some (r,s))=if fT r then some (r,[])else none:=by simp [xe]
theorem fiA(r:D):xe 1 (some (r,s))=if fT r&&rM (s.v 100000)then some (r,[s.v 100000])else none:=by
 simp [xe,G,List.range_succ]
theorem fiB(r:D):xe 2 (some (r,s))=if fT r&&(rM (s.v 100000)&&rM (s.v 100001))then some (r,[s.v 100000,s.v 100001])else none:=by
 simp [xe,G,List.range_succ,and_assoc]
theorem fiC(r:D):xe 3 (some (r,s))=if fT r&&(rM (s.v 100000)&&(rM (s.v 100001)&&rM (s.v 100002)))then some (r,[s.v 100000,s.v 100001,s.v 100002])else none:=by
 simp [xe,G,List.range_succ,and_assoc]
theorem A3s(e:TypeId)(xs:List D):rM (.own e xs)=(EL (.own e xs)).isSome:=nr rfl
theorem A3t(xs:List D):rM (.box xs)=(EL (.box xs)).isSome:=nr rfl
theorem re1(r:ResultVar):Ox T s [r]=Wd T s r:=nr rfl
def reT:Option (List D×St)→Option (D×St)
 |some q=>some (.tup q.1,q.2)
 |none=>none
theorem AEn(q:List D×St):reT (some q)=some (.tup q.1,q.2):=nr rfl
theorem re2(r r':ResultVar)(rs:List ResultVar):Ox T s (r::r'::rs)=reT (OM T s (r::r'::rs)):=by
 show((OM T s (r::r'::rs)).map fun q=>(D.tup q.1,q.2))=_
 cases OM T s (r::r'::rs)<;>rfl
theorem A8U(t:Tmp):Wd T s (.tmp t)=fU Pm.all s t (s.v t):=nr rfl
theorem A8V:OM T s []=some ([],s):=nr rfl
def rdN(T:Tys)(rs:List ResultVar):Option (D×St)→Option (List D×St)
 |some (d,s)=>(OM T s rs).map fun p=>(d::p.1,p.2)
 |none=>none
theorem AEo(rs:List ResultVar)(d:D):rdN T rs (some (d,s))=(OM T s rs).map fun p=>(d::p.1,p.2):=nr rfl
theorem A3u(r:ResultVar)(rs:List ResultVar):OM T s (r::rs)=rdN T rs (Wd T s r):=by
 simp only [OM];rcases Wd T s r with _|⟨d,s'⟩<;>rfl
theorem AEp(r:Nat):Pm.all.rd r=true:=nr rfl
theorem AEq(r:Nat):Pm.all.wr r=true:=nr rfl
def kv(s:St)(dst:Option Tmp)(u:Tmp)(i:Nat):Option D→Option St
 |none=>none
 |some (.agg ys)=>MS s dst (Dx (.agg ((List.range ys.length).map fun j=>J8 s [u,i] j (ys.getD j .undef))))
 |some c=>MS s dst (Dx (J8 s [u] i c))
theorem A8W(dst:Option Tmp)(u:Tmp)(xs:List D)(i:Nat):Ja s dst (.tmp u) (.tup xs) i=kv s dst u i xs[i]? :=by
 simp only [Ja];rcases xs[i]? with _|c
 ·rfl
 ·cases c<;>first|exact NJ s dst _|rfl
theorem A8X(dst:Option Tmp)(u:Tmp)(i:Nat)(k:IntKind)(n:Int):kv s dst u i (some (.int k n))=some (s.putO dst (.int k n)):=by simp [kv,Dx,J8,D.hasObj,MS]
theorem A3v(dst:Option Tmp)(u:Tmp)(i:Nat)(b:Bool):kv s dst u i (some (.bool b))=some (s.putO dst (.bool b)):=by simp [kv,Dx,J8,D.hasObj,MS]
theorem A8Y(dst:Option Tmp)(u:Tmp)(i:Nat)(e:TypeId)(xs:List D):kv s dst u i (some (.own e xs))=some (s.putO dst (.vw [u,i] (s.k u) (s.m u))):=by simp [kv,Dx,J8,D.hasObj,MS,kE]
theorem A8Z(xs:List D)(c:Nat)(p:AA):Bi (.tup xs) (c::p)=(xs[c]?).bind fun d=>Bi d p:=nr rfl
theorem AEr(L:AA)(xs:List D)(c:D):pl2 s L (some (.tup xs)) (some c)=some (c,s.set L .undef):=nr rfl
theorem A8a(deep:Bool):back deep s []=s:=nr rfl
theorem bkT(t:Nat)(p:AA)(c:D)(rest:List (AA×D)):back true s ((t::p,c)::rest)=back true ((s.set (t::p) c).bump t) rest:=nr rfl
theorem bkF(t:Nat)(p:AA)(c:D)(rest:List (AA×D)):back false s ((t::p,c)::rest)=back false (s.set (t::p) c) rest:=nr rfl
theorem bkL(Ls:List AA)(outs:List D):Lv s Ls outs=back true (back false s (Ls.map fun L=>(L,.undef))) (Ls.zip outs):=nr rfl
theorem A8b:FI []=true:=nr rfl
theorem A3w(L:AA)(Ls:List AA):FI (L::Ls)=((L.isEmpty||Ls.all fun M=>M.isEmpty||(!L.isPrefixOf M&& !M.isPrefixOf L))&&FI Ls):=nr rfl
theorem ipC(a b:Nat)(l m:AA):List.isPrefixOf (a::l) (b::m)=(a==b&&List.isPrefixOf l m):=nr rfl
theorem ipN(l:AA):List.isPrefixOf [] l=true:=by cases l<;>rfl
theorem ieC(a:Nat)(l:AA):List.isEmpty (a::l)=false:=nr rfl
end
section
variable {T:Tys} {pm:Pm} {s:St}
def fl1(T:Tys)(pm:Pm)(tf:Nat→TypeId)(sz:Nat)(cs:List D)(i:Nat)(rest:List (Nat×Operand)):Option (D×St)→Option (List D×St)
 |none=>none
 |some (d,s1)=>if d.asCells.length=sz∧i*sz+sz≤cs.length then IY T pm tf sz s1 (Cg cs (i*sz) d.asCells) rest else none
theorem A8c(tf:Nat→TypeId)(sz:Nat)(cs:List D):IY T pm tf sz s cs []=some (cs,s):=nr rfl
theorem A3x(tf:Nat→TypeId)(sz:Nat)(cs:List D)(i:Nat)(x:Operand)(rest:List (Nat×Operand)):IY T pm tf sz s cs ((i,x)::rest)=fl1 T pm tf sz cs i rest (take T pm s (tf i) x):=by
 simp only [IY];rcases take T pm s (tf i) x with _|⟨d,s1⟩<;>rfl
theorem AEt(tf:Nat→TypeId)(cs:List D)(i:Nat)(rest:List (Nat×Operand))(d:D)(h:d.isAgg=false):fl1 T pm tf 1 cs i rest (some (d,s))=if i+1≤cs.length then IY T pm tf 1 s (cs.set i d) rest else none:=by
 have ha:d.asCells=[d]:=by cases d<;>first|rfl|(simp [D.isAgg]at h)
 simp only [fl1,ha,Lt,Pn,Lu,R3,true_and,Cg]
end
section
variable (pm:Pm) (s:St) (u:Tmp)
def bR(pm:Pm)(u:Tmp)(d:D):Bool:= !d.hasObj||d.isObj||pm.wr u
theorem mvT:KA pm s (.move (.tmp u))=bR pm u (s.v u):=nr rfl
theorem A3y(k:IntKind)(n:Int):bR pm u (.int k n)=true:=by simp [bR,D.hasObj]
theorem yU(b:Bool):bR pm u (.bool b)=true:=by simp [bR,D.hasObj]
theorem A8d(e:TypeId)(xs:List D):bR pm u (.sl e xs)=true:=by simp [bR,D.hasObj]
theorem A3z(e:TypeId)(xs:List D):bR pm u (.own e xs)=true:=by simp [bR,D.isObj]
theorem A40(xs:List D):bR pm u (.box xs)=true:=by simp [bR,D.isObj]
theorem A8e(L:AA)(n m:Nat):bR pm u (.vw L n m)=true:=by simp [bR,D.hasObj]
theorem AEu(v:Value):bR pm u (.konst v)=true:=by simp [bR,D.hasObj]
theorem yV(xs:List D):bR pm u (.cptr xs)=true:=by simp [bR,D.hasObj]
theorem A41(xs:List D):bR pm u (.tup xs)=(!Aj xs||pm.wr u):=by simp [bR,D.hasObj,D.isObj]
theorem uT(x:Operand):KA pm s (.assign x)=true:=nr rfl
theorem A42(a b c:Operand):KA pm s (.pick a b c)=true:=nr rfl
theorem A8f(t:TypeId)(x:Operand):KA pm s (.box t x)=true:=nr rfl
theorem yX(t:TypeId)(p:Array (Nat×Operand)):KA pm s (.build t p)=true:=nr rfl
theorem AEv(t:TypeId)(n:Nat)(p:Array (Nat×Operand)):KA pm s (.buildSlice t n p)=true:=nr rfl
theorem A43(t:TypeId)(x:Operand):KA pm s (.load t x)=true:=nr rfl
theorem yY(t:TypeId)(x y:Operand):KA pm s (.store t x y)=true:=nr rfl
theorem A8g(o:BinOp)(t:TypeId)(x y:Operand)(t':TypeId):KA pm s (.binOp o t x y t')=true:=nr rfl
theorem AEw(o:UnOp)(t:TypeId)(x:Operand):KA pm s (.unOp o t x)=true:=nr rfl
theorem A44(t t':TypeId)(x:Operand):KA pm s (.convert t t' x)=true:=nr rfl
theorem AEx(t:TypeId)(x:Operand)(a b c:Option Operand):KA pm s (.slice t x a b c)=true:=nr rfl
theorem AEy(x:Operand):KA pm s (.nilCheck x)=true:=nr rfl
theorem AEz(t:TypeId)(x:Operand)(i:Nat):KA pm s (.fieldAddr t x i)=true:=nr rfl
theorem AF0(t:TypeId)(x i:Operand):KA pm s (.indexAddr t x i)=true:=nr rfl
theorem AF1(x:Operand)(i:Nat):KA pm s (.extract x i)=true:=nr rfl
theorem A45(c:Call):KA pm s (.call c)=true:=nr rfl
theorem pmR(n r w:List Nat)(x:Nat):(PmL.pm ⟨n,r,w⟩).rd x=(n.contains x|| !r.contains x):=nr rfl
theorem pmW(n r w:List Nat)(x:Nat):(PmL.pm ⟨n,r,w⟩).wr x=w.contains x:=nr rfl
section
variable {E:Env} {dst:Option Tmp} {t ty:TypeId}
end
end
end Dv
namespace Dv
open Go
theorem J9(n:Int)(h: -9223372036854775808≤n∧n≤9223372036854775807):IntKind.i64.wrap n=n:=IntWalk.i64_in n h
section
variable {T:Tys} {pm:Pm} {s:St} {t:TypeId}
theorem Vv(xs:List Int)(i:Nat)(h:i<xs.length):(JM xs)[i]? =some (.int .i64 (xs.getD i 0)):=by
 simp [JM,MQ,h]
theorem Zy(x:Int)(xs:List Int):JM (x::xs)= .int .i64 x::JM xs:=nr rfl
def sls(e:TypeId)(xss:List (List Int)):List D:=xss.map fun xs=> .sl e (JM xs)
variable {E:Env} {dst:Option Tmp} {ty:TypeId}
def A8i(e:TypeId)(dst:Option Tmp):Option (List D×St)→Option St
 |some (xs,s)=>some (s.putO dst (.own e xs))
 |none=>none
theorem A8j(e:TypeId)(xs:List D):A8i e dst (some (xs,s))=some (s.putO dst (.own e xs)):=nr rfl
def qY(dst:Option Tmp):Option (List D×St)→Option St
 |some (xs,s)=>some (s.putO dst (.agg xs))
 |none=>none
theorem A8k(xs:List D):qY dst (some (xs,s))=some (s.putO dst (.agg xs)):=nr rfl
theorem XK(T:Tys){e:TypeId}(hs:T.isStruct e=false):T.size e=1∧T.zeros e=[T.zero1 e]:=by
 unfold Tys.isStruct at hs;unfold Tys.size Tys.zeros
 cases hty:T.ty e<;>simp_all [Ty.isStruct,Ty.size]
def bs0(E:Env)(pm:Pm)(s:St)(dst:Option Tmp)(len:Nat)(parts:Array (Nat×Operand)):Ty→Option St
 | .slice e=>
   if len*E.T.size e≤4096∧E.T.known e=true then
    (IY E.T pm (fun _=>e) (E.T.size e) s ((List.range (len*E.T.size e)).map fun j=>(E.T.zeros e).getD (j % E.T.size e) .undef) parts.toList).map fun r=>r.2.putO dst (.own e r.1)
   else none
 |_=>none
theorem A47(len:Nat)(parts:Array (Nat×Operand)):WW E.T pm s dst t len parts=bs0 E pm s dst len parts (E.T.ty t):=by
 unfold WW bs0
 cases E.T.ty t<;>rfl
theorem yBs(len:Nat)(parts:Array (Nat×Operand)):Nh E pm s dst (.buildSlice t len parts) ty=if ty=900004 then fcB pm dst (bs0 E pm s dst len parts (E.T.ty t))else bs0 E pm s dst len parts (E.T.ty t):=by
 rw [XJ,A47];by_cases h:ty=900004
 ·rw [if_pos h,if_pos h];unfold fcB
  cases bs0 E pm s dst len parts (E.T.ty t)<;>cases dst<;>rfl
 ·rw [if_neg h,if_neg h]
theorem AF2(len:Nat)(parts:Array (Nat×Operand))(e:TypeId)(hk:E.T.known e=true)(hs:E.T.isStruct e=false)(hl:len≤4096):
  bs0 E pm s dst len parts (.slice e)=A8i e dst (IY E.T pm (fun _=>e) 1 s (List.replicate len (E.T.zero1 e)) parts.toList):=by
 obtain⟨hz,hzz⟩:=XK E.T hs
 have hrep:((List.range (len*1)).map fun j=>(E.T.zeros e).getD (j % 1) .undef)=List.replicate len (E.T.zero1 e):=by
  rw [hzz];apply List.ext_getElem
  ·simp
  ·intro i h1 h2;simp [Nat.mod_one]
 simp only [bs0,hz];rw [if_pos ⟨by omega,hk⟩,hrep]
 rcases IY E.T pm (fun _=>e) 1 s (List.replicate len (E.T.zero1 e)) parts.toList with _|⟨a,b⟩<;>rfl
def bdN(E:Env)(pm:Pm)(s:St)(dst:Option Tmp)(t:TypeId)(parts:Array (Nat×Operand)):Option St:=
 match E.T.ty t with
 | .struct fs=>if E.T.known t then qY dst (IY E.T pm (fun i=>fs.getD i 0) 1 s (E.T.zeros t) parts.toList)else none
 |_=>none
def bd0(E:Env)(pm:Pm)(s:St)(dst:Option Tmp)(t:TypeId)(parts:Array (Nat×Operand)):Option (List (Nat×TypeId))→Option St
 |some fl=>if E.T.isStruct t&&E.T.known t then qY dst (Ka E.T pm fl s (E.T.zeros t) parts.toList)else none
 |none=>bdN E pm s dst t parts
theorem A48(parts:Array (Nat×Operand)):Nh E pm s dst (.build t parts) ty=bd0 E pm s dst t parts (E.T.nest t):=by
 rw [qQ];unfold bd0 bdN
 cases E.T.nest t with
 |some fl=>
  simp only;split
  ·rcases Ka E.T pm fl s (E.T.zeros t) parts.toList with _|⟨a,b⟩<;>rfl
  ·rfl
 |none=>
  simp only
  cases E.T.ty t with
  |struct fs=>
   simp only;split
   ·rcases IY E.T pm (fun i=>fs.getD i 0) 1 s (E.T.zeros t) parts.toList with _|⟨a,b⟩<;>rfl
   ·rfl
  |_=>rfl
theorem AF3(parts:Array (Nat×Operand))(fl:List (Nat×TypeId))(hk:E.T.known t=true)(hs:E.T.isStruct t=true):bd0 E pm s dst t parts (some fl)=qY dst (Ka E.T pm fl s (E.T.zeros t) parts.toList):=by
 simp [bd0,hk,hs]
def bdT(E:Env)(pm:Pm)(s:St)(dst:Option Tmp)(t:TypeId)(parts:Array (Nat×Operand)):Ty→Option St
 | .struct fs=>if E.T.known t then qY dst (IY E.T pm (fun i=>fs.getD i 0) 1 s (E.T.zeros t) parts.toList)else none
 |_=>none
theorem AF4(parts:Array (Nat×Operand)):bd0 E pm s dst t parts none=bdT E pm s dst t parts (E.T.ty t):=by
 show bdN E pm s dst t parts=_
 unfold bdN bdT
 cases E.T.ty t<;>rfl
theorem AF5(parts:Array (Nat×Operand))(fs:List TypeId)(hk:E.T.known t=true):bdT E pm s dst t parts (.struct fs)=qY dst (IY E.T pm (fun i=>fs.getD i 0) 1 s (E.T.zeros t) parts.toList):=by
 simp [bdT,hk]
def fn1(T:Tys)(pm:Pm)(fl:List (Nat×TypeId))(cs:List D)(off:Nat)(ty:TypeId)(rest:List (Nat×Operand)):Option (D×St)→Option (List D×St)
 |none=>none
 |some (d,s1)=>if d.asCells.length=T.size ty∧off+T.size ty≤cs.length then Ka T pm fl s1 (Cg cs off d.asCells) rest else none
theorem A8n(T:Tys)(fl:List (Nat×TypeId))(cs:List D):Ka T pm fl s cs []=some (cs,s):=nr rfl
def fn0(T:Tys)(pm:Pm)(fl:List (Nat×TypeId))(s:St)(cs:List D)(x:Operand)(rest:List (Nat×Operand)):Option (Nat×TypeId)→Option (List D×St)
 |none=>none
 |some (off,ty)=>fn1 T pm fl cs off ty rest (take T pm s ty x)
theorem A49(T:Tys)(fl:List (Nat×TypeId))(cs:List D)(i:Nat)(x:Operand)(rest:List (Nat×Operand)):Ka T pm fl s cs ((i,x)::rest)=fn0 T pm fl s cs x rest (fl[i]?):=by
 simp only [Ka];rcases fl[i]? with _|⟨off,ty⟩
 ·rfl
 ·simp only [fn0,fn1];rcases take T pm s ty x with _|⟨d,s1⟩<;>rfl
theorem AF7(T:Tys)(fl:List (Nat×TypeId))(cs:List D)(x:Operand)(rest:List (Nat×Operand))(off:Nat)(ty:TypeId):fn0 T pm fl s cs x rest (some (off,ty))=fn1 T pm fl cs off ty rest (take T pm s ty x):=nr rfl
theorem AF8(T:Tys)(fl:List (Nat×TypeId))(cs:List D)(off:Nat)(ty:TypeId)(rest:List (Nat×Operand))(d:D)(h1:d.asCells.length=T.size ty)(h2:off+T.size ty≤cs.length):
  fn1 T pm fl cs off ty rest (some (d,s))=Ka T pm fl s (Cg cs off d.asCells) rest:=by simp only [fn1,h1,h2,and_self,if_true]
theorem fnA(ds:List D):(D.agg ds).asCells=ds:=nr rfl
theorem fnO(e:TypeId)(xs:List D):(D.own e xs).asCells=[.own e xs]:=nr rfl
theorem spN(cs:List D)(c:Nat):Cg cs c []=cs:=by cases cs<;>rfl
theorem spC(cs:List D)(c:Nat)(y:D)(ys:List D):Cg cs c (y::ys)=Cg (cs.set c y) (c+1) ys:=by cases cs<;>rfl
def mk0(T:Tys)(n:Int):Ty→Option D
 | .slice e=>if 0≤n∧n<1099511627776∧T.elem e=true then
   if T.isStruct e=true then some (.own e (List.replicate n.toNat (T.zeros e)).flatten)
   else if T.size e=1 then some (.own e (List.replicate n.toNat (T.zero1 e)))else none
  else none
 |_=>none
theorem yMk(n:Int):Ep T t (.int .i64 n) (.int .i64 n)=mk0 T n (T.ty t):=by
 unfold Ep mk0
 cases T.ty t<;>simp
def yZ(T:Tys)(q:Int):Ty→Option D
 | .slice e=>if 0≤q∧q<1099511627776∧T.elem e=true then
   if T.isStruct e=true then some (.own e [])
   else if T.size e=1 then some (.own e [])else none
  else none
 |_=>none
theorem AF9(q:Int):Ep T t (.int .i64 0) (.int .i64 q)=yZ T q (T.ty t):=by
 unfold Ep yZ
 cases T.ty t<;>simp
theorem A8o(q:Int)(e:TypeId)(hk:T.known e=true)(h4:T.size e≤4)(h0:0≤q)(hn:q<1099511627776):yZ T q (.slice e)=some (.own e []):=by
 simp only [yZ];rw [if_pos ⟨h0,hn,Sm hk h4⟩];by_cases hs:T.isStruct e=true
 ·rw [if_pos hs]
 ·obtain⟨hz,_⟩:=XK T (by simpa using hs)
  rw [if_neg hs,if_pos hz]
theorem AFA(n:Int)(e:TypeId)(hk:T.known e=true)(h4:T.size e≤4)(hs:T.isStruct e=false)(h0:0≤n)(hn:n<1099511627776):mk0 T n (.slice e)=some (.own e (List.replicate n.toNat (T.zero1 e))):=by
 obtain⟨hz,_⟩:=XK T hs;simp only [mk0];rw [if_pos ⟨h0,hn,Sm hk h4⟩,if_neg (by rw [hs];decide),if_pos hz]
theorem AFB(n:Int)(e:TypeId)(hk:T.known e=true)(h4:T.size e≤4)(hs:T.isStruct e=true)(h0:0≤n)(hn:n<1099511627776):mk0 T n (.slice e)=some (.own e (List.replicate n.toNat (T.zeros e)).flatten):=by
 simp only [mk0];rw [if_pos ⟨h0,hn,Sm hk h4⟩,if_pos hs]
end
end Dv
namespace Dv
open Go
def rO(n:Int):Prop:= -9223372036854775808≤n∧n≤9223372036854775807
theorem A4A{n:Int}(h:(Lit.int .i64 n).wf=true):rO n:=by
 have h1:IntKind.i64.min= -9223372036854775808:=by decide
 have h2:IntKind.i64.max=9223372036854775807:=by decide
 simp only [Lit.wf,h1,h2,Fa,decide_eq_true_eq]at h;exact h
section
variable {T:Tys} {t e:TypeId} {d:D}
theorem XL{ds:List D}(ht:T.ty t= .int .i64)(h:Shp T t ds): ∃n,ds=[.int .i64 n]∧rO n:=by
 cases h with
 |int ht' hw=>rw [ht]at ht';injection ht' with ht';subst ht';exact⟨_,rfl,A4A hw⟩
 |bool ht'=>rw [ht]at ht';cases ht'
 |string ht'=>rw [ht]at ht';cases ht'
 |slice ht'=>rw [ht]at ht';cases ht'
 |struct ht'=>rw [ht]at ht';cases ht'
theorem Sn{ds:List D}(ht:T.ty t= .slice e)(h:Shp T t ds): ∃xss:List (List D),ds=[.sl e xss.flatten]∧(∀xs,xs∈xss→Shp T e xs)∧xss.length≤maxLen:=by
 cases h with
 |int ht' hw=>rw [ht]at ht';cases ht'
 |bool ht'=>rw [ht]at ht';cases ht'
 |string ht' hs=>rw [ht]at ht';cases ht'
 |slice ht' hx hl=>rw [ht]at ht';injection ht' with ht';subst ht';exact⟨_,rfl,hx,hl⟩
 |struct ht'=>rw [ht]at ht';cases ht'
theorem Zz{fs:List TypeId}{ds:List D}(ht:T.ty t= .struct fs)(h:Shp T t ds):ds.length=fs.length∧ ∀(i:Nat) (f:TypeId) (d:D),fs[i]? =some f→ds[i]? =some d→Shp T f [d]:=by
 cases h with
 |int ht' hw=>rw [ht]at ht';cases ht'
 |bool ht'=>rw [ht]at ht';cases ht'
 |string ht' hs=>rw [ht]at ht';cases ht'
 |slice ht' hx hl=>rw [ht]at ht';cases ht'
 |struct ht' hl hx=>rw [ht]at ht';injection ht' with ht';subst ht';exact⟨hl,hx⟩
def uU(xs:List Int):Prop:=xs.length≤maxLen∧ ∀x∈xs,rO x
def il(xss:List (List Int)):Prop:=xss.length≤maxLen∧ ∀xs∈xss,uU xs
theorem bS{ds:List D}(ht:T.ty t= .slice e)(he:T.ty e= .int .i64)(h:Shp T t ds): ∃xs,ds=[.sl e (JM xs)]∧uU xs:=by
 obtain⟨xss,rfl,hx,hl⟩:=Sn ht h
 have: ∀xss:List (List D),(∀xs,xs∈xss→Shp T e xs)→ ∃ys,xss.flatten=JM ys∧ys.length=xss.length∧ ∀y∈ys,rO y:=by
  intro xss
  induction xss with
  |nil=>intro _;exact⟨[],rfl,rfl,by simp⟩
  |cons xs xss ih=>
   intro hx;obtain⟨n,rfl,hn⟩:=XL he (hx xs (KV));obtain⟨ys,h1,h2,h3⟩:=ih (fun q hq=>hx q (JY _ hq))
   refine⟨n::ys,by rw [fe,h1];rfl,by simp [h2],fun y hy=> ?_⟩
   rcases Rv.1 hy with rfl|hy
   ·exact hn
   ·exact h3 y hy
 obtain⟨ys,h1,h2,h3⟩:=this xss hx
 exact⟨ys,by rw [h1],by omega,h3⟩
theorem XM{e2:TypeId}{ds:List D}(ht:T.ty t= .slice e)(he:T.ty e= .slice e2)(he2:T.ty e2= .int .i64)(h:Shp T t ds): ∃xss,ds=[.sl e (sls e2 xss)]∧il xss:=by
 obtain⟨xss,rfl,hx,hl⟩:=Sn ht h
 have: ∀xss:List (List D),(∀xs,xs∈xss→Shp T e xs)→ ∃ys,xss.flatten=sls e2 ys∧ys.length=xss.length∧ ∀y∈ys,uU y:=by
  intro xss
  induction xss with
  |nil=>intro _;exact⟨[],rfl,rfl,by simp⟩
  |cons xs xss ih=>
   intro hx;obtain⟨n,rfl,hn⟩:=bS he he2 (hx xs (KV));obtain⟨ys,h1,h2,h3⟩:=ih (fun q hq=>hx q (JY _ hq))
   refine⟨n::ys,by rw [fe,h1];rfl,by simp [h2],fun y hy=> ?_⟩
   rcases Rv.1 hy with rfl|hy
   ·exact hn
   ·exact h3 y hy
 obtain⟨ys,h1,h2,h3⟩:=this xss hx
 exact⟨ys,by rw [h1],by omega,h3⟩
theorem yc(hs:T.isStruct t=false)(d:D):top T t [d]=d:=by simp [top,hs]
theorem uV{e2:TypeId}(ht:T.ty t= .slice e)(he:T.ty e= .slice e2)(he2:T.ty e2= .int .i64)(h:Arg T t d): ∃xss,d= .sl e (sls e2 xss)∧il xss:=by
 obtain⟨ds,hs,rfl⟩:=h;obtain⟨xs,rfl,h1⟩:=XM ht he he2 hs
 exact⟨xs,yc (by simp [Tys.isStruct,ht,Ty.isStruct]) _,h1⟩
theorem aB{fs:List TypeId}(ht:T.ty t= .struct fs)(h:Arg T t d): ∃ds,d= .agg ds∧ds.length=fs.length∧ ∀(i:Nat) (f:TypeId) (d:D),fs[i]? =some f→ds[i]? =some d→Shp T f [d]:=by
 obtain⟨ds,hs,rfl⟩:=h;obtain⟨h1,h2⟩:=Zz ht hs
 exact⟨ds,by simp [top,Tys.isStruct,ht,Ty.isStruct],h1,h2⟩
theorem lW{a b:TypeId}(ht:T.ty t= .struct [a,a,b,b])(ha:T.ty a= .int .i64)(hb:T.ty b= .slice e){e2:TypeId}(he:T.ty e= .slice e2)(he2:T.ty e2= .int .i64)(h:Arg T t d):
  ∃l k ns es,d= .agg [.int .i64 l,.int .i64 k,.sl e (sls e2 ns),.sl e (sls e2 es)]∧rO l∧rO k∧il ns∧il es:=by
 obtain⟨ds,rfl,hl,hx⟩:=aB ht h;rcases ds with _|⟨d0,_|⟨d1,_|⟨d2,_|⟨d3,_|⟨_,_⟩⟩⟩⟩⟩<;>simp at hl
 obtain⟨l,h0,hl0⟩:=XL ha (hx 0 a d0 rfl rfl);obtain⟨k,h1,hl1⟩:=XL ha (hx 1 a d1 rfl rfl);obtain⟨ns,h2,hl2⟩:=XM hb he he2 (hx 2 b d2 rfl rfl);obtain⟨es,h3,hl3⟩:=XM hb he he2 (hx 3 b d3 rfl rfl);simp only [List.cons.injEq,and_true]at h0 h1 h2 h3;subst h0 h1 h2 h3
 exact⟨l,k,ns,es,rfl,hl0,hl1,hl2,hl3⟩
end
theorem trodAll_len{H:Type}{enc:TypeId×Value→H}{P:Program}{w:World}{base:Nat}{spare:Nat→Bool}{Pd:Bool}: ∀ {ts:List TypeId} {vs:List Value} {ds:List (DataW H)} {ps:List MemPlace},
  DataW.TrodAll enc P w base spare Pd ts vs ds ps→ds.length=ts.length∧vs.length=ts.length:=by
 intro ts
 induction ts with
 |nil=>intro vs ds ps h;cases vs<;>cases ds<;>simp [DataW.TrodAll]at h;exact⟨rfl,rfl⟩
 |cons t ts ih=>
  intro vs ds ps h
  cases vs with
  |nil=>cases ds<;>simp [DataW.TrodAll]at h
  |cons v vs=>
   cases ds with
   |nil=>simp [DataW.TrodAll]at h
   |cons d ds=>
    simp only [DataW.TrodAll]at h;obtain⟨p,q,h1,h2,_⟩:=h;obtain⟨e1,e2⟩:=ih h2
    exact⟨by simp [e1],by simp [e2]⟩
end Dv
namespace Dv
open Go
section
variable {E:Env} {T:Tys} {pm:Pm} {s:St} {dst:Option Tmp} {ty t:TypeId}
def uW(T:Tys)(t:TypeId)(dst:Option Tmp):Option (D×St)→Option St
 |some (d,s1)=>if T.isStruct t==d.isAgg then some (s1.putO dst (.box d.asCells))else none
 |none=>none
def rP(E:Env)(pm:Pm)(s:St)(t:TypeId)(x:Operand)(dst:Option Tmp):D→Option St
 | .agg ds=>if Aj ds then uW E.T t dst (take E.T pm s t x)else(if E.T.isStruct t then some (s.putO dst (.box ds))else none)
 |_=>uW E.T t dst (take E.T pm s t x)
theorem A4B(u:Tmp):Pt E.T pm s dst t (.tmp u)=rP E pm s t (.tmp u) dst (s.v u):=by
 rw [uG]
 cases hk:WU (ev E.T s t (.tmp u))with
 |some ds=>
  simp only [ev]at hk
  cases hv:s.v u<;>rw [hv]at hk<;>simp only [WU]at hk<;>try (cases hk;done)
  split at hk
  ·cases hk
  ·rename_i ho
   simp only [Option.some.injEq]at hk;subst hk;simp only [rP,ho];rfl
 |none=>
  have hold:rP E pm s t (.tmp u) dst (s.v u)=uW E.T t dst (take E.T pm s t (.tmp u)):=by
   simp only [ev]at hk
   cases hv:s.v u<;>try rfl
   rw [hv]at hk;simp only [WU]at hk
   split at hk
   ·rename_i ho;simp only [rP,ho,if_true]
   ·cases hk
  rw [hold];simp only;rcases take E.T pm s t (.tmp u)with _|⟨d,s1⟩<;>rfl
theorem AFC(u:Tmp):Nh E pm s dst (.box t (.tmp u)) ty=if ty=900003 then xc pm dst (rP E pm s t (.tmp u) dst (s.v u))else rP E pm s t (.tmp u) dst (s.v u):=by
 rw [yF,A4B];by_cases h:ty=900003
 ·rw [if_pos h,if_pos h];unfold xc
  cases rP E pm s t (.tmp u) dst (s.v u)<;>cases dst<;>rfl
 ·rw [if_neg h,if_neg h]
theorem bkK(x:Operand)(ds:List D)(hs:E.T.isStruct t=true):rP E pm s t x dst (.agg ds)=if Aj ds then uW E.T t dst (take E.T pm s t x)else some (s.putO dst (.box ds)):=by simp [rP,hs]
theorem A8p(x:Operand)(k:IntKind)(n:Int):rP E pm s t x dst (.int k n)=uW E.T t dst (take E.T pm s t x):=nr rfl
theorem AFD(x:Operand)(e:TypeId)(xs:List D):rP E pm s t x dst (.sl e xs)=uW E.T t dst (take E.T pm s t x):=nr rfl
theorem A4C(x:Operand)(xs:List D):rP E pm s t x dst (.cptr xs)=uW E.T t dst (take E.T pm s t x):=nr rfl
theorem AFE(ds:List D)(hs:T.isStruct t=true):uW T t dst (some (.agg ds,s))=some (s.putO dst (.box ds)):=by simp [uW,hs,D.isAgg,D.asCells]
theorem AFF(d:D)(hs:T.isStruct t=false)(hd:d.isAgg=false):uW T t dst (some (d,s))=some (s.putO dst (.box [d])):=by
 have:d.asCells=[d]:=by cases d<;>first|rfl|(simp [D.isAgg]at hd)
 simp [uW,hs,hd,this]
def fa1(L:AA)(i n m:Nat):Option D→Option D
 |some _=>some (.pe L i n m)
 |none=>none
theorem AFH(L:AA)(i n m:Nat)(d:D):fa1 L i n m (some d)=some (.pe L i n m):=nr rfl
def xf(T:Tys)(pm:Pm)(s:St)(t:TypeId)(x:Operand)(d:D):Option Nat→Option D
 |none=>none
 |some j=>
  if T.isStruct t then
   match d with
   | .box _=>match x with| .tmp u=>some (.pe [u] j (s.k u) (s.m u))|_=>none
   | .vw L n m=>match s.look pm L n m with|some (.box _)=>some (.pe L j n m)|_=>none
   | .pe L c n m=>match s.look pm L n m with|some _=>some (.pe L (c+j) n m)|none=>none
   | .cptr xs=>some (.cptr (xs.drop j))
   |_=>none
  else none
theorem faE(x:Operand)(d:D)(i:Nat):Fy T pm s t x d i=xf T pm s t x d (T.foff t i):=by
 unfold Fy xf
 cases T.foff t i<;>rfl
theorem foN(i:Nat)(hn:T.nest t=none)(hi:i<T.size t):T.foff t i=some i:=by simp [Tys.foff,hn,hi]
theorem A8q(u:Tmp)(xs:List D)(i:Nat)(hs:T.isStruct t=true):xf T pm s t (.tmp u) (.box xs) (some i)=some (.pe [u] i (s.k u) (s.m u)):=by simp [xf,hs]
theorem AFI(x:Operand)(L:AA)(n m i:Nat)(hs:T.isStruct t=true):xf T pm s t x (.vw L n m) (some i)=fa1 L i n m (Uz s pm L n m):=by
 simp only [xf,hs,if_true,Uz]
 cases s.look pm L n m with
 |none=>rfl
 |some o=>cases o<;>rfl
theorem AFJ(x:Operand)(L:AA)(c n m i:Nat)(hs:T.isStruct t=true):xf T pm s t x (.pe L c n m) (some i)=fa1 L (c+i) n m (s.look pm L n m):=by
 simp only [xf,hs,if_true]
 cases s.look pm L n m<;>rfl
theorem AFK(x:Operand)(xs:List D)(i:Nat)(hs:T.isStruct t=true):xf T pm s t x (.cptr xs) (some i)=some (.cptr (xs.drop i)):=by simp [xf,hs]
theorem csS(L:AA)(c n:Nat)(o:D):cellsOf s L c n (some o)=if c+n≤o.cells.length then Dx (.agg ((List.range n).map fun i=>J8 s L (c+i) (o.cells.getD (c+i) .undef)))else none:=nr rfl
variable {α:Type} (f:Nat→α)
theorem rg2:(List.range 2).map f=[f 0,f 1]:=nr rfl
theorem rg3:(List.range 3).map f=[f 0,f 1,f 2]:=nr rfl
theorem rg4:(List.range 4).map f=[f 0,f 1,f 2,f 3]:=nr rfl
theorem A8r(L:AA)(c:Nat)(k:IntKind)(n:Int):J8 s L c (.int k n)= .int k n:=nr rfl
theorem AFL(L:AA)(c:Nat)(e:TypeId)(xs:List D):J8 s L c (.sl e xs)= .sl e xs:=nr rfl
theorem A8s(L:AA)(c:Nat)(e:TypeId)(xs:List D):J8 s L c (.own e xs)=kE s (L++[c]):=nr rfl
theorem AFM(L:AA)(c:Nat)(M:AA)(n m:Nat):J8 s L c (.vw M n m)= .vw M n m:=nr rfl
theorem noA(xs:List D):Dx (.agg xs)=if Aj xs then none else some (.agg xs):=by simp only [Dx,D.hasObj];rfl
theorem A8t(k:IntKind)(n:Int):Dx (.int k n)=some (.int k n):=by simp [Dx,D.hasObj]
theorem AFN(e:TypeId)(xs:List D):Dx (.sl e xs)=some (.sl e xs):=by simp [Dx,D.hasObj]
theorem AFO(L:AA)(n m:Nat):Dx (.vw L n m)=some (.vw L n m):=by simp [Dx,D.hasObj]
theorem dl2(a b:Nat)(l:AA):List.dropLast (a::b::l)=a::List.dropLast (b::l):=nr rfl
theorem dl1(a:Nat):List.dropLast [a]=[]:=nr rfl
theorem AFP(r c:Nat)(p:AA):s.get (r::c::p)=Bi (s.v r) (c::p):=nr rfl
theorem lX: ∀(ds xs:List D),xs.length=ds.length→Cg xs 0 ds=ds:=by
 have key: ∀(ds pre xs:List D),xs.length=ds.length→Cg (pre++xs) pre.length ds=pre++ds:=by
  intro ds
  induction ds with
  |nil=>intro pre xs h;simp at h;subst h;rfl
  |cons d ds ih=>
   intro pre xs h
   cases xs with
   |nil=>simp at h
   |cons x xs=>
    simp only [Cg];have:=ih (pre++[d]) xs (by simpa using h)
    simpa using this
 intro ds xs h;simpa using key ds [] xs h
def sw1(T:Tys)(pm:Pm)(t:TypeId)(u:Tmp)(ds:List D)(s:St):D→Option St
 | .box xs=>if T.known t&&T.isStruct t&&pm.wr u&&ds.all Di&&(T.size t==ds.length)&&(xs.length==ds.length)then(if Aj ds||Aj xs then some ((s.set [u] (.box ds)).bump u)else some (s.set [u] (.box ds)))else fV T pm t (.tmp u) (some (.agg ds,s))
 |_=>fV T pm t (.tmp u) (some (.agg ds,s))
theorem AFQ(u:Tmp)(ds:List D):fV T pm t (.tmp u) (some (.agg ds,s))=sw1 T pm t u ds s (s.v u):=by
 cases hv:s.v u<;>simp only [sw1]
 rename_i xs
 split
 ·rename_i hc
  simp only [Fa,beq_iff_eq]at hc;obtain⟨⟨⟨⟨⟨hk,hs⟩,hw⟩,hd⟩,hz⟩,hl⟩:=hc;have hz':T.size t≤xs.length:=by omega
  simp only [fV,ev,hv,JH,D.asCells,D.isAgg,D.cells,D.withCells,hk,hs,hw,hd,hz,Yj,beq_self_eq_true,Bool.and_self,Lu,D.hasObj];rw [lX ds xs hl];have h2:ds.length≤xs.length:=by omega
  simp only [h2,decide_true,Bool.and_self,if_true]
  split<;>first|rfl|(rename_i hq;simp only [hq];rfl)
 ·rfl
theorem AFR(u:Tmp)(ds xs:List D)(hk:T.known t=true)(hs:T.isStruct t=true)(hw:pm.wr u=true)(hd:ds.all Di=true)(hz:T.size t=ds.length)(hl:xs.length=ds.length):
  sw1 T pm t u ds s (.box xs)=if Aj ds||Aj xs then some ((s.set [u] (.box ds)).bump u)else some (s.set [u] (.box ds)):=by
 simp [sw1,hk,hs,hw,hd,hz,hl]
def rc1(T:Tys)(s:St)(t:Tmp)(ty:TypeId):D→Option (D×St)
 | .box xs=>if T.isStruct ty then(if xs.length=T.size ty then td1 (FH Pm.all (s.clr t) xs)else none)else(match xs with| [d]=>Cm Pm.all (s.clr t) d|_=>none)
 | .cptr xs=>if T.isStruct ty then(if xs.length=T.size ty then some (.agg xs,s)else none)else(match xs with| [d]=>some (d,s)|_=>none)
 |_=>none
theorem A4D(u:Tmp)(hk:T.known ty=true):Wd T s (.cell u ty)=rc1 T s u ty (s.v u):=by
 simp only [Wd,hk,if_true,rc1]
 cases s.v u with
 |box xs=>
  simp only;split
  ·split
   ·cases FH Pm.all (s.clr u) xs<;>rfl
   ·rfl
  ·rfl
 |_=>rfl
theorem AFS(u:Tmp)(xs:List D)(hs:T.isStruct ty=true)(hl:xs.length=T.size ty):rc1 T s u ty (.box xs)=td1 (FH Pm.all (s.clr u) xs):=by simp [rc1,hs,hl]
def cp1(pm:Pm)(s:St)(u:Tmp)(rest:List Operand):D→Option (List D×St)
 | .box xs=>match Dc xs with
  |some ys=>if pm.wr u then(NB pm (s.set [u] (.cptr ys)) rest).map fun r=>(.cptr ys::r.1,r.2)else none
  |none=>none
 | .cptr ys=>(NB pm s rest).map fun r=>(.cptr ys::r.1,r.2)
 |_=>none
theorem A8v:NB pm s []=some ([],s):=nr rfl
theorem A8w(u:Tmp)(rest:List Operand):NB pm s (.tmp u::rest)=cp1 pm s u rest (s.v u):=by
 simp only [NB]
 cases s.v u<;>rfl
def cp2(pm:Pm)(s:St)(u:Tmp)(rest:List Operand):Option (List D)→Option (List D×St)
 |some ys=>if pm.wr u then(NB pm (s.set [u] (.cptr ys)) rest).map fun r=>(.cptr ys::r.1,r.2)else none
 |none=>none
theorem AFV(u:Tmp)(rest:List Operand)(xs:List D):cp1 pm s u rest (.box xs)=cp2 pm s u rest (Dc xs):=by
 simp only [cp1];cases Dc xs<;>rfl
theorem AFW(u:Tmp)(rest:List Operand)(ys:List D)(hw:pm.wr u=true):cp2 pm s u rest (some ys)=(NB pm (s.set [u] (.cptr ys)) rest).map fun r=>(.cptr ys::r.1,r.2):=by simp [cp2,hw]
def clN(E:Env)(pm:Pm)(s:St)(dst:Option Tmp)(args:Array Operand)(ts:Array TypeId):D→Option St
 | .clo f caps=>if args.size=ts.size then I6 E pm s dst f (args.toList.zip ts.toList) caps else none
 | .ocl false f caps=>if args.size=ts.size then NC E pm s dst f (args.toList.zip ts.toList) caps else none
 |_=>none
theorem A4E(u:Tmp)(args:Array Operand)(ts:Array TypeId):Nh E pm s dst (.call ⟨.value (.tmp u),args,ts⟩) ty=clN E pm s dst args ts (s.v u):=by
 rw [qU];cases s.v u<;>first|rfl|(rename_i b _ _;cases b<;>rfl)
theorem AFX(args:Array Operand)(ts:Array TypeId)(f':FuncId)(caps:List D)(h:args.size=ts.size):clN E pm s dst args ts (.clo f' caps)=I6 E pm s dst f' (args.toList.zip ts.toList) caps:=by simp [clN,h]
def mf0(f:FuncId)(dst:Option Tmp):Option (List D×St)→Option St
 |some r=>some (r.2.putO dst (.clo f r.1))
 |none=>none
theorem AFY(g:FuncId)(xs:List D):mf0 g dst (some (xs,s))=some (s.putO dst (.clo g xs)):=nr rfl
def mfV(f:FuncId)(dst:Option Tmp):Option (List D×St)→Option St
 |some r=>some (r.2.putO dst (.ocl false f r.1))
 |none=>none
theorem AFZ(g:FuncId)(xs:List D):mfV g dst (some (xs,s))=some (s.putO dst (.ocl false g xs)):=nr rfl
theorem yMf(g:FuncId)(captured:Array Operand):Nh E pm s dst (.makeFunc (.func g) #[] captured) ty=if ty<3000000 then mf0 g dst (NB pm s captured.toList)else mfV g dst (WV pm s (ty-3000000) captured.toList):=by
 rw [bN];simp only [List.isEmpty_toArray,List.isEmpty_nil,if_true];by_cases h:ty<3000000
 ·rw [if_pos h,if_pos h]
  cases NB pm s captured.toList<;>rfl
 ·rw [if_neg h,if_neg h]
  cases WV pm s (ty-3000000) captured.toList<;>rfl
def cvp(l:List Operand):Option (List D×St)→Option (List D×St)
 |none=>none
 |some (_,s1)=>(Ps s1 l).map fun ds=>(ds,s1)
theorem cvE(m:Nat)(l:List Operand):WV pm s m l=cvp l (NB pm s (K5 m 0 l)):=by
 unfold WV cvp;rcases NB pm s (K5 m 0 l)with _|⟨ys,s1⟩<;>rfl
def cvq(s:St):Option (List D)→Option (List D×St)
 |some ds=>some (ds,s)
 |none=>none
theorem AFa(l:List Operand)(ys:List D):cvp l (some (ys,s))=cvq s (Ps s l):=by
 simp only [cvp];cases Ps s l<;>rfl
theorem AFb(ds:List D):cvq s (some ds)=some (ds,s):=nr rfl
theorem umN(m i:Nat):K5 m i []=[]:=nr rfl
theorem umC(m i:Nat)(x:Operand)(xs:List Operand):K5 m i (x::xs)=if m / 2 ^ i % 2=1 then K5 m (i+1) xs else x::K5 m (i+1) xs:=by
 rw [K5,Nat.testBit_eq_decide_div_mod_eq];by_cases h:m / 2 ^ i % 2=1<;>simp [h]
def ce1(s:St)(u:Tmp)(r:Option (List D)):D→Option (List D)
 | .box _=>r.map (kE s [u]:: ·)
 | .cptr ys=>r.map (.cptr ys:: ·)
 |_=>none
theorem ceN:Ps s []=some []:=nr rfl
theorem ceT(u:Tmp)(rest:List Operand):Ps s (.tmp u::rest)=ce1 s u (Ps s rest) (s.v u):=by
 simp only [Ps]
 cases s.v u<;>rfl
theorem AFd(u:Tmp)(l xs:List D):ce1 s u (some l) (.box xs)=some (kE s [u]::l):=nr rfl
theorem AFe(u:Tmp)(l ys:List D):ce1 s u (some l) (.cptr ys)=some (.cptr ys::l):=nr rfl
def A4F(T:Tys)(pm:Pm)(s:St)(t:TypeId)(t0:Tmp):D→D→Option St
 | .box [_],.ocl false f xs=>if T.known t&& !T.isStruct t&&(T.size t==1)&&pm.rd t0&&pm.wr t0 then some (s.set [t0] (.ocl true f (xs.map (K7 s t0))))else none
 |_,_=>none
theorem AFf(T:Tys)(t0 u:Tmp):Uh T pm s t (.tmp t0) (.tmp u)=A4F T pm s t t0 (s.v t0) (s.v u):=by
 show(match s.v t0,s.v u with
  | .box [_],.ocl false f xs=>if T.known t&& !T.isStruct t&&(T.size t==1)&&pm.rd t0&&pm.wr t0 then some (s.set [t0] (.ocl true f (xs.map (K7 s t0))))else none
  |_,_=>none)=_
 rfl
theorem AFg(T:Tys)(t0:Tmp)(x:D)(f:FuncId)(xs:List D)(hk:T.known t=true)(hs:T.isStruct t=false)(hz:T.size t=1)(hr:pm.rd t0=true)(hw:pm.wr t0=true):
  A4F T pm s t t0 (.box [x]) (.ocl false f xs)=some (s.set [t0] (.ocl true f (xs.map (K7 s t0)))):=by simp [A4F,hk,hs,hz,hr,hw]
theorem utV(t0 r n m:Nat):K7 s t0 (.vw [r] n m)=if r=t0 then(if n=s.k t0 then .undef else .vw [r] n m)else .vw [r] n m:=by
 unfold K7;by_cases h:r=t0<;>by_cases h2:n=s.k t0<;>simp [h,h2]
theorem utC(t0:Nat)(ys:List D):K7 s t0 (.cptr ys)= .cptr ys:=nr rfl
theorem ldO(T:Tys)(x:Operand)(f:FuncId)(xs:List D)(hk:T.known t=true)(hs:T.isStruct t=false):GK T pm s t x (.ocl true f xs)=some (.ocl false f xs):=by simp [GK,hk,hs]
def co2(E:Env)(pm:Pm)(s:St)(dst:Option Tmp)(f:FuncId)(as:List D)(ls:List (AA×D)):Option (List D×List (AA×D))→Option St
 |none=>none
 |some (cs,lc)=>
  if FI ((ls++lc).map (·.1))&&(ls++lc).all (fun l=>pm.wr (l.1.headD 0))&&(ls++lc).all (fun l=>fT l.2)then
   cl2 s dst (ls++lc) (E.call f (as++cs.map (KH f cs)) ((ls++lc).map (·.2)))
  else none
def co1(E:Env)(pm:Pm)(s:St)(dst:Option Tmp)(f:FuncId)(caps:List D):Option (List D×List (AA×D))→Option St
 |none=>none
 |some (as,ls)=>co2 E pm s dst f as ls (De pm s ls.length caps)
theorem coE(f:FuncId)(xs:List (Operand×TypeId))(caps:List D):NC E pm s dst f xs caps=co1 E pm s dst f caps (Dt E true pm s 0 xs):=by
 unfold NC co1;rcases Dt E true pm s 0 xs with _|⟨as,ls⟩
 ·rfl
 ·simp only;unfold co2;rcases De pm s ls.length caps with _|⟨cs,lc⟩
  ·rfl
  ·simp only;split
   ·unfold cl2;rcases E.call f (as++cs.map (KH f cs)) ((ls++lc).map (·.2))with _|⟨r,o⟩<;>rfl
   ·rfl
theorem AFi(f:FuncId)(caps as:List D)(ls:List (AA×D)):co1 E pm s dst f caps (some (as,ls))=co2 E pm s dst f as ls (De pm s ls.length caps):=nr rfl
theorem AFj(f:FuncId)(as cs:List D)(ls lc:List (AA×D))(h:(FI ((ls++lc).map (·.1))&&(ls++lc).all (fun l=>pm.wr (l.1.headD 0))&&(ls++lc).all (fun l=>fT l.2))=true):
  co2 E pm s dst f as ls (some (cs,lc))=cl2 s dst (ls++lc) (E.call f (as++cs.map (KH f cs)) ((ls++lc).map (·.2))):=by simp only [co2,h,if_true]
def oaJ(a:D)(l:List (AA×D)):Option (List D×List (AA×D))→Option (List D×List (AA×D))
 |some r=>some (a::r.1,l++r.2)
 |none=>none
theorem AFk(a:D)(l:List (AA×D))(r:List D)(m:List (AA×D)):oaJ a l (some (r,m))=some (a::r,l++m):=nr rfl
def oa1(pm:Pm)(s:St)(j:Nat)(L:AA)(rest:List D):Option D→Option (List D×List (AA×D))
 |some c=>oaJ (.vw [G+j] 0 0) [(L,c)] (De pm s (j+1) rest)
 |none=>none
theorem AFm(j:Nat)(L:AA)(rest:List D)(c:D):oa1 pm s j L rest (some c)=oaJ (.vw [G+j] 0 0) [(L,c)] (De pm s (j+1) rest):=nr rfl
theorem oaN(j:Nat):De pm s j []=some ([],[]):=nr rfl
theorem oaV(j:Nat)(L:AA)(n m:Nat)(rest:List D):De pm s j (.vw L n m::rest)=oa1 pm s j L rest (s.look pm L n m):=by
 rw [De]
 cases s.look pm L n m with
 |none=>rfl
 |some c=>simp only [oa1];rcases De pm s (j+1) rest with _|⟨a,b⟩<;>rfl
theorem oaC(j:Nat)(ys rest:List D):De pm s j (.cptr ys::rest)=oaJ (.cptr ys) [] (De pm s j rest):=by
 rw [De];rcases De pm s j rest with _|⟨a,b⟩<;>rfl
theorem oaU(j:Nat)(rest:List D):De pm s j (.undef::rest)=oaJ .undef [] (De pm s j rest):=by
 rw [De];rcases De pm s j rest with _|⟨a,b⟩<;>rfl
theorem saU(f:FuncId)(cs:List D):KH f cs .undef= .ocl true f cs:=nr rfl
theorem saV(f:FuncId)(cs:List D)(L:AA)(n m:Nat):KH f cs (.vw L n m)= .vw L n m:=nr rfl
theorem saC(f:FuncId)(cs ys:List D):KH f cs (.cptr ys)= .cptr ys:=nr rfl
theorem AFn(args:Array Operand)(ts:Array TypeId)(f':FuncId)(caps:List D)(h:args.size=ts.size):clN E pm s dst args ts (.ocl false f' caps)=NC E pm s dst f' (args.toList.zip ts.toList) caps:=by simp [clN,h]
def bn1(dflt:Nat):Option D→Option Nat
 |some (.int _ n)=>if 0≤n then some n.toNat else none
 |_=>none
theorem bnN(n:Nat):Rw T s n none=some n:=nr rfl
theorem bnS(n:Nat)(x:Operand):Rw T s n (some x)=bn1 n (ev T s 0 x):=by
 simp only [Rw];rcases ev T s 0 x with _|d
 ·rfl
 ·cases d<;>rfl
theorem AFp(n:Nat)(k:IntKind)(i:Int)(h:0≤i):bn1 n (some (.int k i))=some i.toNat:=by simp [bn1,h]
def sl0(T:Tys)(pm:Pm)(s:St)(x:Operand)(d:D)(lo hi mx:Option Operand):Ty→Option (D×St)
 | .slice e'=>match DL pm s x d with
  |none=>none
  |some (e,xs,o)=>
   match Rw T s 0 lo,Rw T s (T.len e xs) hi with
   |some l,some h=>
    if e'=e∧T.known e=true∧l≤h∧h≤T.len e xs then
     if mx.isSome then
      match Rw T s 0 mx with
      |some q=>if l=h∧h=q∧hi.isSome=true then some (.own e [],s)else none
      |none=>none
     else match o with
      |none=>some (.sl e ((xs.take (h*T.size e)).drop (l*T.size e)),s)
      |some (L,va,vb)=>
       if pm.wr (L.headD 0)then
        match Dc xs with
        |some ys=>some (.sl e ((ys.take (h*T.size e)).drop (l*T.size e)),s.set L (.sl e ys))
        |none=>none
       else WP L va vb e l h s
    else none
   |_,_=>none
 | .string=>match d with
  | .str b=>match Rw T s 0 lo,Rw T s b.size hi with
   |some l,some h=>if l≤h∧h≤b.size∧mx.isNone then some (.str (b.extract l h),s)else none
   |_,_=>none
  |_=>none
 |_=>none
theorem slT(x:Operand)(d:D)(lo hi mx:Option Operand):JZ T pm s t x d lo hi mx=sl0 T pm s x d lo hi mx (T.ty t):=by
 unfold JZ sl0
 cases T.ty t<;>first|rfl|(cases d<;>rfl)
def sl1(T:Tys)(pm:Pm)(s:St)(e:TypeId)(xs:List D)(o:Option (AA×Nat×Nat)):Option Nat→Option Nat→Option (D×St)
 |some l,some h=>
  if l≤h∧h≤xs.length then
   match o with
   |none=>some (.sl e ((xs.take h).drop l),s)
   |some (L,va,vb)=>
    if pm.wr (L.headD 0)then
     match Dc xs with
     |some ys=>some (.sl e ((ys.take h).drop l),s.set L (.sl e ys))
     |none=>none
    else WP L va vb e l h s
  else none
 |_,_=>none
def sl2(T:Tys)(pm:Pm)(s:St)(e':TypeId)(lo hi:Option Operand):Option (TypeId×List D×Option (AA×Nat×Nat))→Option (D×St)
 |some (e,xs,o)=>if e'=e∧T.known e=true then sl1 T pm s e xs o (Rw T s 0 lo) (Rw T s xs.length hi)else none
 |none=>none
theorem AFq(x:Operand)(d:D)(lo hi:Option Operand)(e:TypeId)(hz:T.isStruct e=false):sl0 T pm s x d lo hi none (.slice e)=sl2 T pm s e lo hi (DL pm s x d):=by
 have h1:=Sl hz;simp only [sl0,sl2,Option.isSome_none,Md,if_false];rcases DL pm s x d with _|⟨e',xs,o⟩
 ·rfl
 ·simp only;by_cases he:e=e'
  ·subst he;simp only [true_and,h1,R3,Tys.len,if_true]
   cases Rw T s 0 lo<;>cases Rw T s xs.length hi<;>simp only [sl1]<;>(by_cases hk:T.known e=true<;>simp [hk])
  ·simp only [he,false_and,if_false]
   cases Rw T s 0 lo<;>cases Rw T s (T.len e' xs) hi<;>rfl
theorem AFr(e:TypeId)(lo hi:Option Operand)(xs:List D)(o:Option (AA×Nat×Nat))(hk:T.known e=true):sl2 T pm s e lo hi (some (e,xs,o))=sl1 T pm s e xs o (Rw T s 0 lo) (Rw T s xs.length hi):=by simp [sl2,hk]
theorem AFs(e:TypeId)(xs:List D)(l h:Nat)(h1:l≤h)(h2:h≤xs.length):sl1 T pm s e xs none (some l) (some h)=some (.sl e ((xs.take h).drop l),s):=by simp [sl1,h1,h2]
def sl3(pm:Pm)(s:St)(e:TypeId)(L:AA)(a b l h:Nat)(o:Option (List D)):Option (D×St):=
 if pm.wr (L.headD 0)then
  match o with
  |some ys=>some (.sl e ((ys.take h).drop l),s.set L (.sl e ys))
  |none=>none
 else WP L a b e l h s
theorem AFu(e:TypeId)(xs:List D)(L:AA)(a b l h:Nat)(h1:l≤h)(h2:h≤xs.length):sl1 T pm s e xs (some (L,a,b)) (some l) (some h)=sl3 pm s e L a b l h (Dc xs):=by
 simp only [sl1,h1,h2,and_self,if_true];rfl
theorem AFv(e:TypeId)(L:AA)(a b l h:Nat)(o:Option (List D))(hw:pm.wr (L.headD 0)=false):sl3 pm s e L a b l h o=some (.vs e L a b l (h-l),s):=by simp only [sl3];rw [if_neg (by rw [hw];decide)];rfl
def ca0(f:FuncId):Option (List D×List (AA×D))→Option (D×List (AA×D))
 |some r=>some (.clo f r.1,r.2)
 |none=>none
theorem AFx(f:FuncId)(cs:List D)(ls:List (AA×D)):ca0 f (some (cs,ls))=some (.clo f cs,ls):=nr rfl
def ca2(pm:Pm)(s:St)(L:AA)(c:D)(rest:List D):Option D→Option (List D×List (AA×D))
 |some c'=>oaJ c' [(L,c)] (N9 pm s rest)
 |none=>none
theorem AFy(L:AA)(c:D)(rest:List D)(c':D):ca2 pm s L c rest (some c')=oaJ c' [(L,c)] (N9 pm s rest):=nr rfl
def ca1(pm:Pm)(s:St)(L:AA)(rest:List D):Option D→Option (List D×List (AA×D))
 |some c=>ca2 pm s L c rest (EL c)
 |none=>none
theorem AG0(L:AA)(rest:List D)(c:D):ca1 pm s L rest (some c)=ca2 pm s L c rest (EL c):=nr rfl
theorem caN:N9 pm s []=some ([],[]):=nr rfl
theorem caV(L:AA)(n m:Nat)(rest:List D):N9 pm s (.vw L n m::rest)=ca1 pm s L rest (s.look pm L n m):=by
 rw [N9]
 cases s.look pm L n m with
 |none=>rfl
 |some c=>
  simp only [ca1,ca2]
  cases EL c with
  |none=>rfl
  |some c'=>simp only [DJ];rcases N9 pm s rest with _|⟨a,b⟩<;>rfl
theorem caC(ys rest:List D):N9 pm s (.cptr ys::rest)=oaJ (.cptr ys) [] (N9 pm s rest):=by
 rw [N9];rcases N9 pm s rest with _|⟨a,b⟩<;>rfl
theorem A8z(T:Tys)(L0:AA)(j:Nat)(f:FuncId)(caps:List D):NY T false pm s j L0 (.ocl false f caps)=ca0 f (N9 pm s caps):=by
 show(if(false||false)=true then none else(N9 pm s caps).map fun r=>(D.clo f r.1,r.2))=_
 rw [if_neg (by decide)]
 unfold ca0;rcases N9 pm s caps with _|⟨a,b⟩<;>rfl
def va1(T:Tys)(e:TypeId)(L:AA)(lo len:Nat):Option D→Option (D×List (AA×D))
 |some (.own e' xs)=>
  if e'=e∧T.known e=true∧(lo+len)*T.size e≤xs.length then
   (Dc xs).map fun ys=>(.sl e ((ys.drop (lo*T.size e)).take (len*T.size e)),[(L,.own e' xs)])
  else none
 |_=>none
theorem AG1(e:TypeId)(L L0:AA)(n m lo len j:Nat):NY T false pm s j L0 (.vs e L n m lo len)=va1 T e L lo len (s.look pm L n m):=by
 show Zd T pm s e L n m lo len=_
 unfold Zd va1;rcases s.look pm L n m with _|d
 ·rfl
 ·cases d<;>rfl
theorem A90(x y:Tmp)(t':TypeId):Nh E pm s dst (.call ⟨.builtin .copy, #[.tmp x,.tmp y], #[t,t']⟩) ty=ib dst (Ov E.T pm s t (.tmp x) (.tmp y) (s.v x) (s.v y)):=OZ dst _
def yf(T:Tys)(pm:Pm)(s:St)(t:TypeId):Option (TypeId×AA×List D×Nat×Nat)→Option (TypeId×List D)→Option (D×St)
 |some (e,L,xs,lo,len),some (e',ys)=>
  if T.isSl t e&&(e==e')&&T.known e&&(T.size e==1)&& !Aj xs&& !Aj ys&&ys.all Di&&pm.wr (L.headD 0)then
   some (.int .i64 (min len ys.length:Nat),s.set L (.own e (Cg xs lo (ys.take (min len ys.length)))))
  else none
 |_,_=>none
theorem AG2(x y:Operand)(a b:D):Ov T pm s t x y a b=yf T pm s t (WQ pm s x a) (Yl pm s y b):=by
 unfold Ov yf;rcases WQ pm s x a with _|⟨_,_,_,_,_⟩<;>rcases Yl pm s y b with _|⟨_,_⟩<;>rfl
theorem AG3(e:TypeId)(L:AA)(xs ys:List D)(lo len:Nat)(h1:T.isSl t e=true)(h2:T.known e=true)(h3:T.size e=1)(h4:Aj xs=false)(h5:Aj ys=false)(h6:ys.all Di=true)(h7:pm.wr (L.headD 0)=true):
  yf T pm s t (some (e,L,xs,lo,len)) (some (e,ys))=some (.int .i64 (min len ys.length:Nat),s.set L (.own e (Cg xs lo (ys.take (min len ys.length))))):=by
 unfold yf;dsimp only;rw [if_pos (by rw [h1,h2,h3,h4,h5,h6,h7];simp)]
def A4H(e:TypeId):Ty→Bool
 | .slice e'=>e'==e
 |_=>false
theorem AG4(e:TypeId):T.isSl t e=A4H e (T.ty t):=by unfold Tys.isSl A4H;cases T.ty t<;>rfl
theorem AG5(e e':TypeId):A4H e (.slice e')=(e'==e):=nr rfl
def dv0:Option (TypeId×List D×Option (AA×Nat×Nat))→Option (TypeId×AA×List D×Nat×Nat)
 |some (e,xs,some (L,_,_))=>some (e,L,xs,0,xs.length)
 |_=>none
theorem AG6(e:TypeId)(xs:List D)(L:AA)(a b:Nat):dv0 (some (e,xs,some (L,a,b)))=some (e,L,xs,0,xs.length):=nr rfl
theorem dvW(x:Operand)(L:AA)(n m:Nat):WQ pm s x (.vw L n m)=dv0 (DL pm s x (.vw L n m)):=by
 show(match DL pm s x (.vw L n m)with|some (e,xs,some (L,_,_))=>some (e,L,xs,0,xs.length)|_=>none)=_
 rcases DL pm s x (.vw L n m)with _|⟨_,_,_|⟨_,_,_⟩⟩<;>rfl
def dv1(e:TypeId)(L:AA)(lo len:Nat):Option D→Option (TypeId×AA×List D×Nat×Nat)
 |some (.own e' xs)=>if e'=e∧lo+len≤xs.length then some (e,L,xs,lo,len)else none
 |_=>none
theorem dvS(x:Operand)(e:TypeId)(L:AA)(n m lo len:Nat):WQ pm s x (.vs e L n m lo len)=dv1 e L lo len (s.look pm L n m):=by
 show(match s.look pm L n m with|some (.own e' xs)=>if e'=e∧lo+len≤xs.length then some (e,L,xs,lo,len)else none|_=>none)=_
 rcases s.look pm L n m with _|d
 ·rfl
 ·cases d<;>rfl
theorem AG8(e:TypeId)(L:AA)(lo len:Nat)(xs:List D)(h:lo+len≤xs.length):dv1 e L lo len (some (.own e xs))=some (e,L,xs,lo,len):=by simp [dv1,h]
theorem svL(x:Operand)(e:TypeId)(xs:List D):Yl pm s x (.sl e xs)=some (e,xs):=nr rfl
def sv1(e:TypeId)(lo len:Nat):Option D→Option (TypeId×List D)
 |some (.own e' xs)=>if e'=e∧lo+len≤xs.length then some (e,(xs.drop lo).take len)else none
 |_=>none
theorem svS(x:Operand)(e:TypeId)(L:AA)(n m lo len:Nat):Yl pm s x (.vs e L n m lo len)=sv1 e lo len (s.look pm L n m):=by
 show(match s.look pm L n m with|some (.own e' xs)=>if e'=e∧lo+len≤xs.length then some (e,(xs.drop lo).take len)else none|_=>none)=_
 rcases s.look pm L n m with _|d
 ·rfl
 ·cases d<;>rfl
theorem AGA(e:TypeId)(lo len:Nat)(xs:List D)(h:lo+len≤xs.length):sv1 e lo len (some (.own e xs))=some (e,(xs.drop lo).take len):=by simp [sv1,h]
end
theorem lY{P:Program}{T:Tys}{f:FuncId}{e:TypeId}{r:D}{outs:List D}(hk:T.known e=true)(h: ∀A c,Good P T f [.konst (.slice A 0 c)] [] r outs):Good P T f [.sl e []] [] r outs:=by
 refine⟨(h none 0).1,fun vs gh w S FL hsz hA hL hL0 hLd hlt=> ?_⟩
 obtain⟨v,hv,hW⟩:=hA 0 _ rfl
 obtain⟨A,c,rfl⟩: ∃A c,v= .slice A 0 c:=by
  cases hW with
  |sl us hE hn hc hm hx hw=>
   rename_i A n c
   have hp:=iV hk
   have:n=0:=by
    simp only [Pn]at hn;rcases Nat.mul_eq_zero.1 hn.symm with h0|h0
    ·exact h0
    ·omega
   subst this
   exact⟨_,_,rfl⟩
 refine(h A c).2 vs gh w S FL hsz (fun i d hi=> ?_) hL hL0 hLd hlt
 cases i with
 |zero=>simp at hi;subst hi;exact⟨_,hv,.konst (fun _ h=>h)⟩
 |succ i=>simp at hi
end Dv
namespace Dv
open Go
set_option maxRecDepth 10000
set_option linter.defProp false
theorem geq:G=100000:=nr rfl
def AP:=A7 @A90 (A7 @AD9 (A7 @ADA (A7 @A3B (A7 @AFC (A7 @yMf (A7 @A4E (A7 @ADH (A7 @A6i (A7 @ADF (A7 @A3I (A7 @A6j (A7 @A6m (A7 @A3J (A7 @A6g (A7 @A6h (A7 @ADE (A7 @A3K (A7 @A3L (A7 @A3M (A7 @ADJ (A7 @ADK (A7 @ADL (A7 @A6n (A7 @lT (A7 @iZ (A7 @A7H (A7 @yN (A7 @uO (A7 @A3U (A7 @A7I (A7 @yUn (A7 @A3V (A7 @ADe (A7 @uP (A7 @A3W (A7 @yO (A7 @A3X (A7 @A7L (A7 @uQ (A7 @A7M (A7 @uF (A7 @qR (A7 @qP (A7 @A48 (A7 @yBs (@bP))))))))))))))))))))))))))))))))))))))))))))))
def C9:=A7 @ADq (A7 @AEy (A7 @A3g (A7 @faE (A7 @foN (A7 @AF3 (A7 @AF4 (A7 @A8n (A7 @A49 (A7 @AF7 (A7 @AF8 (A7 (A7 @fnO @fnA) (A7 @spN (A7 @spC (A7 @AFZ (A7 @cvE (A7 @AFa (A7 @AFb (A7 @umN (A7 @umC (A7 @ceN (A7 @ceT (A7 @AFd (A7 @AFe (A7 @AFf (A7 @AFg (A7 @utV (A7 @utC (A7 @ldO (A7 @coE (A7 @AFi (A7 @AFj (A7 @AFk (A7 @AFm (A7 @oaN (A7 @oaV (A7 @oaC (A7 @oaU (A7 @saU (A7 @saV (A7 @saC (A7 @AFn (A7 @ADb (A7 @ADc (A7 @ADd (A7 @A3f (A7 @AEA (A7 @AEB (A7 @A7V (A7 @A7W (A7 @A7X (A7 @A7Y (A7 @AFv (A7 (A7 @AG1 (A7 @A8z (A7 @AFx (A7 @AG0 (A7 @AFy (A7 @caN (A7 @caV @caC))))))) (A7 @A87 (A7 @AET (A7 @A88 (A7 @A89 (A7 @AEU (A7 @A8A (A7 @AG2 (A7 @AG3 (A7 @AG4 (A7 @AG5 (A7 @AG6 (A7 @dvW (A7 @dvS (A7 @AG8 (A7 @svL (A7 @svS (A7 @AGA (A7 @ADQ (A7 @ADR (A7 @ADS (A7 @A70 (A7 @A71 (A7 @A72 (A7 @A8X (A7 @A3v (A7 @A8Y (A7 @A8Z (A7 @AEr (A7 @bkK (A7 @A8p (A7 (A7 @A4C @AFD) (A7 @A6V (A7 @ADB (A7 @ADC (A7 @ndK (A7 @ADf (A7 @A7J (A7 @apK (A7 @A84 (A7 @AEL (A7 @AEM (A7 @A3m (A7 @dl2 (A7 @dl1 (A7 @AFP (A7 @A8t (A7 @AFN (A7 @AFO (A7 @AFE (A7 @AFF (A7 @AFH (A7 @A8q (A7 @AFI (A7 @AFJ (A7 @AFK (A7 @csS (A7 @rg2 (A7 @rg3 (A7 @rg4 (A7 @A8r (A7 @AFL (A7 @A8s (A7 @AFM (A7 @noA (A7 @AFQ (A7 @AFR (A7 @A4D (A7 @AFS (A7 @A8v (A7 @A8w (A7 @AFV (A7 @AFW (A7 @AFX (A7 @AFY (A7 @bnN (A7 @bnS (A7 @AFp (A7 @slT (A7 @AFq (A7 @AFr (A7 @AFs (A7 @AFu (A7 @A8a (A7 @bkT (A7 @bkF (A7 @bkL (A7 @A8b (A7 @A3w (A7 @ipC (A7 @ipN (A7 @ieC (A7 @fiA (A7 @fiB (A7 @fiC (A7 @A3s (A7 @A3t (A7 @AEC (A7 @AED (A7 @AEE (A7 @bxA (A7 @AEG (A7 @hdC (A7 @AEQ (A7 @AER (A7 @AES (A7 @mvT (A7 @A3y (A7 @yU (A7 @A8d (A7 @A3z (A7 @A40 (A7 @A8e (A7 @AEu (A7 @yV (A7 @A41 (A7 @uT (A7 @A42 (A7 @A8f (A7 @yX (A7 @AEv (A7 @A43 (A7 @yY (A7 @A8g (A7 @AEw (A7 @A44 (A7 @AEx (A7 @AEz (A7 @AF0 (A7 @AF1 (A7 @A45 (A7 @pmR (A7 @pmW (A7 @ADG (A7 @A6k (A7 @ADI (A7 @AD6 (A7 @AD7 (A7 @AD8 (A7 @AF5 (A7 @AF2 (A7 (A7 @AF9 @yMk) (A7 (A7 @A8o @AFA) (A7 @AFB (A7 @A8j (A7 @A8k (A7 @A3C (A7 @A3D (A7 @yH (A7 @A3E (A7 @A6o (A7 @A3N (A7 @ADM (A7 @yM (A7 @A6p (A7 @A6q (A7 @ADN (A7 @A3O (A7 @A6r (A7 @A6s (A7 @A6t (A7 @A3P (A7 @A3Q (A7 @A6u (A7 @A6v (A7 @A3R (A7 @ADO (A7 @A6w (A7 @A6x (A7 @A6y (A7 @A6z (A7 @A73 (A7 @pkB (A7 @pkT (A7 @pkF (A7 @A6S (A7 @A6T (A7 @A6U (A7 @ADg (A7 @ADh (A7 @ADj (A7 @A74 (A7 @A75 (A7 @A76 (A7 @A77 (A7 @A78 (A7 @A79 (A7 @uM (A7 @A7A (A7 @A7B (A7 @ADT (A7 @ADU (A7 @ADV (A7 @ADW (A7 @ADX (A7 @ADY (A7 @A7C (A7 @A7D (A7 @boI (A7 @boB (A7 @boA (A7 @A3S (A7 @A7E (A7 @A7F (A7 @A7G (A7 @ldC (A7 @ADk (A7 @ldP (A7 @ldB (A7 @ADl (A7 @ldV (A7 @A7N (A7 @A7P (A7 @A3Y (A7 @A3Z (A7 @A7Q (A7 @ADm (A7 @A7R (A7 @ADn (A7 @A7T (A7 @A7U (A7 @lnT (A7 @ADr (A7 @A7Z (A7 @ixT (A7 @ADt (A7 @ADv (A7 @A7a (A7 @tkC (A7 @A7f (A7 @A3b (A7 @AE0 (A7 @A7g (A7 @A7h (A7 @A3c (A7 @AE1 (A7 @A7i (A7 @A7b (A7 @ADw (A7 @A7c (A7 @ADx (A7 @ADy (A7 @ADz (A7 @A3a (A7 @yQ (A7 @A3d (A7 @ng (A7 @hoI (A7 @hoB (A7 @A7j (A7 @A7k (A7 @A7l (A7 @AE2 (A7 @A7m (A7 @A7n (A7 @AE4 (A7 @A7p (A7 @AE5 (A7 @AE6 (A7 @AE7 (A7 @A7q (A7 @A7r (A7 @A7s (A7 @A7t (A7 @A7u (A7 @A7v (A7 @A3e (A7 @AEH (A7 @A7w (A7 @A7x (A7 @A7y (A7 @A7z (A7 @A80 (A7 @A81 (A7 @ceS (A7 (A7 @A3h @AEI) (A7 @AEJ (A7 @AEO (A7 @AEP (A7 @A3i (A7 @A3j (A7 @A85 (A7 @A86 (A7 @arC (A7 @arF (A7 @aCS (A7 @A8B (A7 @AEV (A7 @A8C (A7 @A8D (A7 @AEZ (A7 @A8E (A7 @A8F (A7 @AEW (A7 @AEY (A7 @AEa (A7 @AEb (A7 @A3k (A7 @A8G (A7 @A3l (A7 @A8H (A7 @AEc (A7 @A8I (A7 @AEd (A7 @cdB (A7 @AEe (A7 @AEf (A7 @AEg (A7 @cdL (A7 @AEh (A7 @AEi (A7 @A8K (A7 @A3n (A7 @A8L (A7 @A8M (A7 @A8N (A7 @A3o (A7 @yS (A7 @A8O (A7 @A3p (A7 @AEj (A7 @A8P (A7 @A3q (A7 @AEk (A7 @A05 (A7 @A8R (A7 @A8S (A7 @A8T (A7 @A3r (A7 @AEl (A7 @ni (A7 @AEm (A7 @fiD (A7 @fi0 (A7 @re1 (A7 @re2 (A7 @AEn (A7 @A8U (A7 @A8V (A7 @AEo (A7 @A3u (A7 @AEp (A7 @AEq (A7 @A8W (A7 @A8c (A7 @A3x (A7 @AEt (A7 @A6W (A7 @A6Z (A7 @A3F (A7 @A6c (A7 @A6X (A7 @A6a (A7 @A3G (A7 @A6d (A7 @A6Y (A7 @A6b (A7 @A3H (A7 @A6e (A7 @qV (A7 @A6f (A7 @qW (A7 @uK (A7 @yI (A7 @yJ (A7 @yK (A7 @geq (A7 @Int.toNat_natCast (A7 @Int.toNat_zero (A7 @Int.natCast_nonneg (A7 @Nat.zero_le (A7 @Int.le_refl (A7 @Nat.le_refl (A7 @Bool.and_true (A7 @Bool.true_and (A7 @Bool.and_false (A7 @Bool.false_and (A7 @Bool.or_false (A7 @Bool.false_or (A7 @Bool.or_true (A7 @Bool.true_or (A7 @Bool.not_true (A7 @Bool.not_false (A7 @Bool.false_eq_true (A7 @decide_true (A7 @decide_false (A7 @and_self (A7 @and_true (@true_and)))))))))))))))))))))))))))))))))))))))))))))))))))))))))))))))))))))))))))))))))))))))))))))))))))))))))))))))))))))))))))))))))))))))))))))))))))))))))))))))))))))))))))))))))))))))))))))))))))))))))))))))))))))))))))))))))))))))))))))))))))))))))))))))))))))))))))))))))))))))))))))))))))))))))))))))))))))))))))))))))))))))))))))))))))))))))))))))))))))))))))))))))))))))))))))))))))))))))))))))))))))))))))))))))))))))))))))))))))))))))
end Dv
