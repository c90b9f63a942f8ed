/- Value semantics for Go code, part 4: arguments of laws, slim code and rules. Conditions: none beyond those in each lemma. -/
import Derived.Test.YtclkfhhdikfcpaaL3
import Derived.WalkKit
import Derived.ProofKit
import Derived.OpenShut
import Derived.ShutString
import Derived.ChangeOld
import Derived.Below
import Derived.Carry
import Derived.IntWalk
open Go renaming TypeId → ab,Operand → ac,FuncId → am
open List renaming range → an,replicate → ao,flatten_cons → be
open Option.some renaming injEq → al
set_option linter.unusedSimpArgs false
set_option linter.unusedVariables false
namespace Dv
open Go
inductive Shp(T:Tys):ab→List D→Prop
 |int {t k n} (ht:T.ty t= .int k) (hw:(Lit.int k n).wf=true):Shp T t [.int k n]
 |bool {t b} (ht:T.ty t= .bool):Shp T t [.bool b]
 |string {t s} (ht:T.ty t= .string) (hs:s.size≤maxLen):Shp T t [.str s]
 |slice {t e} {xss:List (List D)} (ht:T.ty t= .slice e) (hx: ∀xs,xs∈xss→Shp T e xs) (hl:xss.length≤maxLen):Shp T t [.sl e xss.flatten]
 |struct {t fs} {ds:List D} (ht:T.ty t= .struct fs) (hl:ds.length=fs.length) (hx: ∀(i:Nat) (f:ab) (d:D),fs[i]? =some f→ds[i]? =some d→Shp T f [d]):Shp T t ds
def Q6(T:Tys):Nat→ab→Bool
 |0,_=>false
 |n+1,t=>match T.ty t with
  | .int _=>true
  | .bool=>true
  | .string=>true
  | .slice e=>T.known e&&Q6 T n e
  | .struct fs=>(T.nest t).isNone&& !fs.isEmpty&&fs.all (Q6 T n)
  |_=>false
theorem Shp.length{T:Tys}{t:ab}{ds:List D}(h:Shp T t ds):ds.length=T.size t:=by
 cases h with
 |int ht=>simp [Tys.size,ht,Ty.size]
 |bool ht=>simp [Tys.size,ht,Ty.size]
 |string ht=>simp [Tys.size,ht,Ty.size]
 |slice ht=>simp [Tys.size,ht,Ty.size]
 |struct ht hl=>simp [Tys.size,ht,Ty.size,hl]
theorem Zg{α:Type}{n:Nat}(hn:0<n): ∀(xss:List (List α)),(∀xs∈xss,xs.length=n)→ ∀k:Nat,xss.flatten[k]? =(xss[k / n]?).bind fun xs=>xs[k % n]? :=by
 intro xss
 induction xss with
 |nil=>intro _ k;simp
 |cons xs xss ih=>
  intro h k;have hx:=h xs (KY);rw [be];rcases Nat.lt_or_ge k n with hk|hk
  ·rw [Ov (by omega),Nat.div_eq_of_lt hk,Nat.mod_eq_of_lt hk];rfl
  ·rw [Ou (by omega),ih (fun ys hy=>h ys (Jd _ hy)),hx]
   have h1:k / n=(k-n) / n+1:=by
    rw [Nat.div_eq_sub_div hn hk]
   have h2:k % n=(k-n) % n:=by rw [Nat.mod_eq_sub_mod hk]
   rw [h1,h2];rfl
theorem UI{α:Type}{n:Nat}: ∀(xss:List (List α)),(∀xs∈xss,xs.length=n)→xss.flatten.length=xss.length*n:=by
 intro xss
 induction xss with
 |nil=>intro _;simp
 |cons xs xss ih=>
  intro h;rw [be,Ow,ih (fun ys hy=>h ys (Jd _ hy)),h xs (KY),KZ,Nat.add_mul];omega
abbrev fE(w:World):Nat→Prop:=fun k=>k<w.heap.size
section
variable {P:Program} {T:Tys} {H:Type} {enc:ab×Value→H} {w:World} {spare:Nat→Bool} {FE:Bool}
theorem Bn.cells(h:Bn P T){t:ab}(hk:T.known t=true):P.cellsOf t=T.size t:=by
 obtain⟨i,h1,h2,_⟩:=h.info hk;simp [Program.cellsOf,h1,h2]
theorem dG{n:Nat}{t:ab}(h:Q6 T n t=true):T.known t=true:=by
 cases n with
 |zero=>cases h
 |succ n=>
  unfold Q6 at h;unfold Tys.known
  cases ht:T.ty t with
  |struct fs=>
   rw [ht]at h
   cases fs with
   |nil=>simp at h
   |cons=>rfl
  |other=>rw [ht]at h;cases h
  |map=>rw [ht]at h;cases h
  |arr=>rw [ht]at h;cases h
  |_=>rfl
theorem Zh{t:ab}(hk:T.known t=true):0<T.size t:=by
 unfold Tys.known at hk;unfold Tys.size
 cases ht:T.ty t with
 |struct fs=>
  rw [ht]at hk
  cases fs with
  |nil=>cases hk
  |cons=>simp [Ty.size]
 |arr n e=>
  rw [ht]at hk
  cases n with
  |zero=>cases hk
  |succ=>simp [Ty.size]
 |_=>simp [Ty.size]
theorem dH{base:Nat}{a:Addr}{n:Nat}{cs:List Value}(h:w.cells? base a n=some cs):cs.length=n∧ ∀i,i<n→w.cell? (a.add i)=cs[i]? :=by
 unfold World.cells? at h
 split at h
 ·exact⟨by simpa using mapM_some_length h,fun i hi=>by have:=mapM_some_get h i i (by simp [hi]);simpa using this⟩
 ·cases h
theorem pO{ad:Addr}{v:Value}(h:w.cell? ad=some v):ad.block<w.heap.size:=by
 rcases Nat.lt_or_ge ad.block w.heap.size with hl|hl
 ·exact hl
 ·have h1:=VW hl;simp [World.cell?,h1]at h
theorem lH(hT:Bn P T): ∀(fuel:Nat) (n:Nat) (t:ab) (cs:List Value) (x:DataW H×List MemPlace),Q6 T n t=true→DataW.trod enc P w 0 spare FE fuel t cs=some x→
  ∃ds,Shp T t ds∧cs.length=ds.length∧ ∀(i:Nat) (d:D),ds[i]? =some d→ ∃v,cs[i]? =some v∧W T (fE w) w V0 Ho d v (fun _=>False):=by
 have hE:Em (fun _:Nat=>False):=fun _ h=>h
 have one: ∀(d0:D) (v0:Value),W T (fE w) w V0 Ho d0 v0 (fun _=>False)→ ∀(i:Nat) (d:D),[d0][i]? =some d→ ∃v,[v0][i]? =some v∧W T (fE w) w V0 Ho d v (fun _=>False):=by
  intro d0 v0 h i d hi
  cases i with
  |zero=>simp at hi;subst hi;exact⟨v0,rfl,h⟩
  |succ i=>simp at hi
 intro fuel
 induction fuel with
 |zero=>intro n t cs x _ h;simp [DataW.trod]at h
 |succ fuel ih=>
  intro n t cs x hd h;have hk:=dG hd;have h0:=(hT t).1;unfold FK at h0
  cases n with
  |zero=>cases hd
  |succ n=>
   unfold Q6 at hd
   cases ht:T.ty t<;>rw [ht]at h0 hd<;>simp only at h0 hd
   case int k=>
    obtain⟨m,rfl,_,hw⟩:=DataW.trod_int h0.1 h
    exact⟨[.int k m],.int ht hw,rfl,one _ _ (.int hE)⟩
   case bool=>
    obtain⟨b,rfl,_⟩:=DataW.trod_bool h0.1 h
    exact⟨[.bool b],.bool ht,rfl,one _ _ (.bool hE)⟩
   case string=>
    obtain⟨s,rfl,_,hs⟩:=DataW.trod_string h0.1 h
    exact⟨[.str s],.string ht hs,rfl,one _ _ (.str hE)⟩
   case slice e=>
    simp only [Gl]at hd;have hc:=hT.cells hd.1;have hpos:=Zh hd.1;rcases DataW.trod_slice h0.1 h with⟨rfl,_⟩|⟨a,len,cap,elems,rest,m,hm,rfl,_,_,hl,hcap,hlen,hel,_,_⟩
    ·exact⟨[.sl e ([]:List (List D)).flatten],.slice ht (by simp) (by simp [maxLen]),rfl,one _ _ (.sl (fun _=>undef) hE (by simp) (Hq _) (by simp [maxLen]) (by simp) (by simp))⟩
    ·injection hm with hm
     subst hm
     have hex: ∀i,i<len→ ∃ds,Shp T e ds∧ ∀(j:Nat) (d:D),ds[j]? =some d→ ∃v,w.cell? (a.add (i*T.size e+j))=some v∧W T (fE w) w V0 Ho d v (fun _=>False):=by
      intro i hi;have h1:=hel i hi;rw [IC (by omega),HV]at h1
      obtain⟨cs',h2,h3⟩:=h1;obtain⟨ds,q1,q2,q3⟩:=ih n e cs' _ hd.2 h3
      refine⟨ds,q1,fun j d hj=> ?_⟩
      obtain⟨v,hv,hW⟩:=q3 j d hj;obtain⟨c1,c2⟩:=dH h2;rw [hc]at c1 c2;have hj':j<T.size e:=by rw [←c1];exact(EQ.1 hv).1
      have h4:=c2 j hj';rw [J6]at h4
      exact⟨v,by rw [h4,hv],hW⟩
     let ch:Nat→List D:=fun i=>if h:i<len then(hex i h).choose else []
     have hch: ∀i,i<len→Shp T e (ch i)∧ ∀(j:Nat) (d:D),(ch i)[j]? =some d→ ∃v,w.cell? (a.add (i*T.size e+j))=some v∧W T (fE w) w V0 Ho d v (fun _=>False):=by
      intro i hi;have:=(hex i hi).choose_spec
      simp only [ch,hi,dif_pos];exact this
     have hall: ∀xs∈(an len).map ch,xs.length=T.size e:=by
      intro xs hxs;obtain⟨i,hi,rfl⟩:=Ig.1 hxs
      exact(hch i (Ka.1 hi)).1.length
     refine⟨[.sl e ((an len).map ch).flatten],.slice ht (fun xs hxs=> ?_) (by simp;omega),rfl,one _ _ ?_⟩
     ·obtain⟨i,hi,rfl⟩:=Ig.1 hxs
      exact(hch i (Ka.1 hi)).1
     ·have key: ∀(i:Nat) (x:D),((an len).map ch).flatten[i]? =some x→ ∃v,w.cell? (a.add i)=some v∧W T (fE w) w V0 Ho x v (fun _=>False):=by
       intro i x hi;rw [Zg hpos _ hall,HV]at hi;obtain⟨xs,h1,h2⟩:=hi;rw [N7,Ck]at h1;obtain⟨q,hq,rfl⟩:=h1;obtain⟨hq1,hq2⟩:=EQ.1 hq;simp only [List.getElem_range]at hq2;subst hq2;obtain⟨v,hv,hW⟩:=(hch _ (by simpa using hq1)).2 _ x h2
       rw [show i / T.size e*T.size e+i % T.size e=i by rw [Nat.mul_comm];exact Nat.div_add_mod i (T.size e)]at hv
       exact⟨v,hv,hW⟩
      refine .sl (fun i=>(w.cell? (a.add i)).getD undef) hE (by rw [UI _ hall];simp) hl hcap (fun i x hi=> ?_) (fun i x hi=> ?_)
      ·obtain⟨v,hv,_⟩:=key i x hi
       exact⟨a,rfl,by have:=pO hv;rw [KV]at this;exact this,by rw [hv];rfl⟩
      ·obtain⟨v,hv,hW⟩:=key i x hi;simp only [hv,Yl];exact hW
   case struct fs=>
    simp only [Gl,Hr,gN]at hd;obtain⟨⟨fields,hu,hfx⟩,hinfo⟩:=h0;rw [hd.1.1]at hfx;obtain⟨hfl,hfi⟩:=hfx;obtain⟨xs,m,hm,_,hcl,hxl,hx⟩:=DataW.trod_struct hu h
    injection hm with hm
    subst hm;rw [hT.cells hk]at hcl;have hsz:T.size t=fs.length:=by simp [Tys.size,ht,Ty.size]
    have hex: ∀i,i<fs.length→ ∃d f,fs[i]? =some f∧Shp T f [d]∧ ∃v,cs[i]? =some v∧W T (fE w) w V0 Ho d v (fun _=>False):=by
     intro i hi;have hif:i<fields.size:=by omega
     obtain⟨f1,f2,f3,f4⟩:=hfi i _ (Jt hif);have h1:=hx i _ (Jt hif)
     have hs1:T.size fields[i].type=1:=by
      unfold Tys.isStruct at f4;unfold Tys.size
      cases hty:T.ty fields[i].type<;>simp_all [Ty.isStruct,Ty.size]
     rw [f1,hT.cells f3,hs1,IC (by omega)]at h1
     obtain⟨ds,q1,q2,q3⟩:=ih n _ _ _ (hd.2 _ (VY f2)) h1;have hl1:ds.length=1:=by rw [q1.length,hs1]
     obtain⟨d,rfl⟩:=List.length_eq_one_iff.1 hl1;obtain⟨v,hv,hW⟩:=q3 0 d rfl
     refine⟨d,_,f2,q1,v, ?_,hW⟩
     rw [List.getElem?_take]at hv;simp only [Nat.zero_lt_one,if_true,Mw,Nat.add_zero]at hv;exact hv
    let ch:Nat→D:=fun i=>if h:i<fs.length then(hex i h).choose else .undef
    have hch: ∀i,i<fs.length→ ∃f,fs[i]? =some f∧Shp T f [ch i]∧ ∃v,cs[i]? =some v∧W T (fE w) w V0 Ho (ch i) v (fun _=>False):=by
     intro i hi;have:=(hex i hi).choose_spec
     simp only [ch,hi,dif_pos];exact this
    have hget: ∀(i:Nat) (d:D),((an fs.length).map ch)[i]? =some d→i<fs.length∧d=ch i:=by
     intro i d hi;rw [N7,Ck]at hi;obtain⟨q,hq,rfl⟩:=hi;obtain⟨hq1,hq2⟩:=EQ.1 hq;simp only [List.getElem_range]at hq2;subst hq2
     exact⟨by simpa using hq1,rfl⟩
    refine⟨(an fs.length).map ch,.struct ht (by simp) (fun i f d hf hi=> ?_),by simp;omega,fun i d hi=> ?_⟩
    ·obtain⟨h1,rfl⟩:=hget i d hi;obtain⟨f',hf',hs,_⟩:=hch i h1;rw [hf]at hf';injection hf' with hf';subst hf';exact hs
    ·obtain⟨h1,rfl⟩:=hget i d hi;obtain⟨f',hf',hs,v,hv,hW⟩:=hch i h1
     exact⟨v,hv,hW⟩
   all_goals (cases hd)
def top(T:Tys)(t:ab)(ds:List D):D:=if T.isStruct t then .agg ds else ds.headD .undef
def Arg(T:Tys)(t:ab)(d:D):Prop:= ∃ds,Shp T t ds∧d=top T t ds
theorem A2f(hT:Bn P T){r:Reach}{base n:Nat}{t:ab}{v:Value}{d0:DataW H}{ps:List MemPlace}(hd:Q6 T n t=true)(hv:Value.okWide P w r base t v)(h:DataW.Trod enc P w 0 spare FE t v d0 ps):
  ∃d,Arg T t d∧W T (fE w) w V0 Ho d v (fun _=>False):=by
 obtain⟨fuel,hf⟩:=h;obtain⟨ds,q1,q2,q3⟩:=lH hT fuel n t _ _ hd hf;have hfact:=(hT t).1;unfold FK at hfact
 have flat:T.isStruct t=false→v.cells.toList=[v]→ ∃d,Arg T t d∧W T (fE w) w V0 Ho d v (fun _=>False):=by
  intro hs hc;have hl:ds.length=1:=by rw [←q2,hc];rfl
  obtain⟨d,rfl⟩:=List.length_eq_one_iff.1 hl;obtain⟨v',hv',hW⟩:=q3 0 d rfl;rw [hc]at hv';simp only [OW,al]at hv';subst hv'
  exact⟨d,⟨[d],q1,by simp [top,hs]⟩,hW⟩
 cases n with
 |zero=>cases hd
 |succ n=>
  unfold Q6 at hd
  cases ht:T.ty t<;>rw [ht]at hfact hd<;>simp only at hfact hd
  case int k=>
   refine flat (by simp [Tys.isStruct,ht,Ty.isStruct]) ?_
   simp only [Value.okWide,hfact.1,Cell.okWide]at hv
   cases v<;>simp_all [Cell.ok,Value.cells]
  case bool=>
   refine flat (by simp [Tys.isStruct,ht,Ty.isStruct]) ?_
   simp only [Value.okWide,hfact.1,Cell.okWide]at hv
   cases v<;>simp_all [Cell.ok,Value.cells]
  case string=>
   refine flat (by simp [Tys.isStruct,ht,Ty.isStruct]) ?_
   simp only [Value.okWide,hfact.1,Cell.okWide]at hv
   cases v<;>simp_all [Cell.ok,Value.cells]
  case slice e=>
   refine flat (by simp [Tys.isStruct,ht,Ty.isStruct]) ?_
   simp only [Value.okWide,hfact.1,Cell.okWide]at hv
   cases v<;>simp_all [Cell.ok,Value.cells]
  case struct fs=>
   obtain⟨⟨fields,hu,_⟩,_⟩:=hfact;obtain⟨cs,rfl,hcs⟩:=WideShapes.okWide_struct hu hv
   have hval: ∀(i:Nat) (d:D),ds[i]? =some d→cs[i]? =some (cs.getD i undef)∧W T (fE w) w V0 Ho d (cs.getD i undef) (fun _=>False):=by
    intro i d hi;obtain⟨v,hv',hW⟩:=q3 i d hi;have:cs[i]? =some v:=by simpa [Value.cells] using hv'
    rw [L8,this];exact⟨rfl,hW⟩
   refine⟨.agg ds,⟨ds,q1,by simp [top,Tys.isStruct,ht,Ty.isStruct]⟩,.agg (fun i=>cs.getD i undef) (fun _ _=>False) (by simpa [Value.cells] using q2) (fun i x hi=>(hval i x hi).1) (fun k=>⟨fun h=>h.elim,fun⟨_,_,h⟩=>h⟩) (fun _ _ _ _ _ _ h=>h.elim) (fun i x hi=>(hval i x hi).2)⟩
  all_goals (cases hd)
end
def zw(T:Tys):List ab→List D→Prop
 | [],[]=>True
 |t::ts,d::ds=>Arg T t d∧zw T ts ds
 |_,_=>False
theorem args_W{P:Program}{T:Tys}{H:Type}{enc:ab×Value→H}{w:World}{r:Reach}{base n:Nat}(hT:Bn P T): ∀(ts:List ab) (vs:List Value) (d0:List (DataW H)) (ps:List MemPlace),ts.all (Q6 T n)=true→
  (∀(j:Nat) (t:ab) (v:Value),ts[j]? =some t→vs[j]? =some v→Value.okWide P w r base t v)→DataW.TrodAll enc P w 0 (fun _=>true) true ts vs d0 ps→
  ∃ds,zw T ts ds∧vs.length=ds.length∧ ∀(i:Nat) (d:D),ds[i]? =some d→ ∃v,vs[i]? =some v∧W T (fE w) w V0 Ho d v (fun _=>False):=by
 intro ts
 induction ts with
 |nil=>
  intro vs d0 ps _ _ h
  cases vs<;>cases d0<;>simp [DataW.TrodAll]at h
  exact⟨[],trivial,rfl,by simp⟩
 |cons t ts ih=>
  intro vs d0 ps hd hv h
  cases vs with
  |nil=>cases d0<;>simp [DataW.TrodAll]at h
  |cons v vs=>
   cases d0 with
   |nil=>simp [DataW.TrodAll]at h
   |cons d0 ds0=>
    simp only [DataW.TrodAll]at h;obtain⟨p,q,h1,h2,_⟩:=h;simp only [PU,Gl]at hd;obtain⟨d,ha,hW⟩:=A2f hT hd.1 (hv 0 t v rfl rfl) h1;obtain⟨ds,hb,hl,hWs⟩:=ih vs ds0 q hd.2 (fun j t' v' hj hj'=>hv (j+1) t' v' (by simpa using hj) (by simpa using hj')) h2
    refine⟨d::ds,⟨ha,hb⟩,by simp [hl],fun i x hi=> ?_⟩
    cases i with
    |zero=>simp at hi;subst hi;exact⟨v,rfl,hW⟩
    |succ i=>simpa using hWs i x (by simpa using hi)
theorem law_calls{Y:Sys}(hY:Y.Ok){f:am}{ds:List D}(hc:Y.call f ds []=some (.bool true,[])){vs:Array Value}{w:World}(hl:vs.size=ds.length)
  (hW: ∀(i:Nat) (d:D),ds[i]? =some d→ ∃v,vs[i]? =some v∧W Y.T (fE w) w V0 Ho d v (fun _=>False)):
  Calls Y.P f vs w fun e w'=>e= .returned (.bool true)∧RowKit.Below w.heap.size w w':=by
 have hg:=Sys.call_good hY hc;refine Calls.mono (hg.2 vs (fun _=>undef) w (fE w) (fun _ _=>False) hl (fun i d hi=> ?_) (fun j d hj=>by simp at hj) (fun _ _ _ h=>h) (fun _ _ _ _ h=>h.elim) (fun _ h=>h)) ?_
 ·obtain⟨v,hv,hWv⟩:=hW i d hi
  exact⟨v,hv,hWv.up⟩
 ·intro e w' he
  cases e with
  |returned v=>
   obtain⟨S',F,FL',h1,_,_,_,hst,_,_⟩:=he
   cases h1 with
   |bool=>exact⟨rfl,hst.os,hst.tape,hst.output,hst.size,fun k hk=>hst.heap k hk (fun _ h=>h)⟩
  |panicked=>exact he.elim
  |outgrown=>exact he.elim
theorem trodAll_below{H:Type}{enc:ab×Value→H}{P:Program}(hl:laidOutB P=true){W W':World}(hb:RowKit.Below W.heap.size W W'): ∀ {ts:List ab} {vs:List Value} {ds:List (DataW H)} {ps:List MemPlace},
  ts.all (fun t=>P.readableRec t&&decide (t<P.types.size))=true→DataW.TrodAll enc P W 0 (fun _=>true) true ts vs ds ps→DataW.TrodAll enc P W' 0 (fun b=>decide (b<W.heap.size)) true ts vs ds ps:=by
 intro ts
 induction ts with
 |nil=>
  intro vs ds ps _ h
  cases vs<;>cases ds<;>simp [DataW.TrodAll]at h ⊢
  exact h
 |cons t ts ih=>
  intro vs ds ps hr h
  cases vs with
  |nil=>cases ds<;>simp [DataW.TrodAll]at h
  |cons v vs=>
   cases ds with
   |nil=>simp [DataW.TrodAll]at h
   |cons d ds=>
    simp only [DataW.TrodAll]at h ⊢;obtain⟨p,q,h1,h2,h3⟩:=h;simp only [PU,Gl,decide_eq_true_eq]at hr;have lt0: ∀x∈p,x.block<W.heap.size:=by obtain⟨m,hm⟩:=h1;exact DataW.trod_lt m _ _ _ hm
    exact⟨p,q,RowKit.Below.trod hl hr.1.1 hr.1.2 h1 hb lt0,ih (by simpa using hr.2) h2,h3⟩
end Dv
namespace Dv
open Go
theorem nr{α:Type}{a b:α}(h:a=b):a=b:=h
structure SOp where
 dst:Option Tmp
 op:Op
 type:ab
 guard:Option (Option Tmp×Bool)
structure PmL where
 n:List Nat
 r:List Nat
 w:List Nat
def PmL.pm(l:PmL):Pm:=⟨fun r=>l.n.contains r|| !l.r.contains r,fun r=>l.w.contains r⟩
inductive SC where
 |skip
 |ops (l:List SOp)
 |draws (l:List (PmL×SOp))
 |seq (a b:SC)
 |any (q:AnyI)
 |loan (ds:List Tmp) (g:Tmp) (a b:SC)
 |cond (c:ac) (a b:SC)
 |block (id:Nat) (c:SC)
 |loop (c:SC)
 |exit (id:Nat)
 |ret
 |bad
abbrev tK(u:Nat):ac:= .tmp u
abbrev iK(n:Int):ac:= .const (.int .i64 n)
abbrev oX(d:Nat)(p:Op)(y:ab):SOp:=⟨some d,p,y,none⟩
abbrev oM(d u:Nat)(y:ab):SOp:=⟨some d,.move (.tmp u),y,none⟩
abbrev oA(d u:Nat)(y:ab):SOp:=⟨some d,.assign (.tmp u),y,none⟩
abbrev oL(d:Nat)(t:ab)(u:Nat)(y:ab):SOp:=⟨some d,.load t (.tmp u),y,none⟩
abbrev oI(d:Nat)(t:ab)(u v:Nat):SOp:=⟨some d,.indexAddr t (.tmp u) (.tmp v),0,none⟩
abbrev oN(d u:Nat)(t:ab):SOp:=⟨some d,.call ⟨.builtin .len, #[.tmp u], #[t]⟩,3,none⟩
abbrev oC(d f:Nat)(a:List ac)(t:List ab)(y:ab):SOp:=⟨some d,.call ⟨.value (.func f),a.toArray,t.toArray⟩,y,none⟩
abbrev oS(t:ab)(a u:Nat):SOp:=⟨none,.store t (.tmp a) (.tmp u),0,none⟩
abbrev oF(d:Nat)(t:ab)(u i:Nat):SOp:=⟨some d,.fieldAddr t (.tmp u) i,0,none⟩
abbrev oE(d u i:Nat)(y:ab):SOp:=⟨some d,.extract (.tmp u) i,y,none⟩
abbrev oB(d:Nat)(o:BinOp)(t:ab)(a b:ac)(r y:ab):SOp:=⟨some d,.binOp o t a b r,y,none⟩
def PE(ops:Array Oper)(o:Oper):SOp:=⟨o.dst,o.op,o.type,match o.guard with|none=>none|some (j,b)=>some ((ops[j]?).bind (·.dst),b)⟩
def Bt(lends:am→Bool):Code→SC
 | .skip=> .skip
 | .region _ ops draw=>
  if draw then
   (if MO lends ops.toList then .draws (ops.toList.map fun o=>(⟨FV ops.toList o,ops.toList.flatMap (EO lends ops.toList),EO lends ops.toList o⟩,PE ops (TP lends ops.toList o)))else .bad)
  else .ops (ops.toList.map fun o=>PE ops (tag lends ops.toList o))
 | .seq a b=>match Yv a b with|some q=> .any q|none=>(match TT a b with|some q=> .loan q.1 q.2 (Bt lends a) (Bt lends b)|none=> .seq (Bt lends a) (Bt lends b))
 | .cond c a b=> .cond c (Bt lends a) (Bt lends b)
 | .block id c=> .block id (Bt lends c)
 | .loop c=> .loop (Bt lends c)
 | .exit id=> .exit id
 | .ret=> .ret
 |_=> .bad
def Lh(E:Env)(pm:Pm)(s:St)(dst:Option Tmp)(op:Op)(type:ab):Option St:=nu E pm s ⟨dst,op,type, "", #[],none⟩
def Oo(E:Env)(pm:Pm)(s:St)(o:SOp):Option St:=
 match o.guard with
 |none=>Lh E pm s o.dst o.op o.type
 |some (none,_)=>some (s.putO o.dst (.konst undef))
 |some (some t,b)=>
  match s.v t with
  | .bool b'=>if b'==b then Lh E pm s o.dst o.op o.type else some (s.putO o.dst (.konst undef))
  | .konst (.tuple _)=>some (s.putO o.dst (.konst undef))
  |_=>none
def lI(E:Env):List SOp→St→Option St
 | [],s=>some s
 |o::l,s=>(Oo E Pm.all s o).bind fun s'=>lI E l s'
def Kn(pm:Pm)(s:St)(op:Op):Bool:=
 match op with
 | .move (.tmp u)=> !(s.v u).hasObj||(s.v u).isObj||pm.wr u
 |_=>true
def Zi(E:Env):List (PmL×SOp)→St→Option St
 | [],s=>some s
 |(p,o)::l,s=>if Kn p.pm s o.op then(Oo E p.pm s o).bind fun s'=>Zi E l s' else none
noncomputable def DR(E:Env):SC→St→Option (Ex×St)
 | .skip,s=>some (.normal,s)
 | .ops l,s=>(lI E l s).map fun s'=>(.normal,s')
 | .draws l,s=>(Zi E l s).map fun s'=>(.normal,s')
 | .any q,s=>OC E.T s q
 | .loan ds g a b,s=>KL s ds g (match DR E a (Jf s)with|some (.normal,s')=>DR E b s'|_=>none)
 | .seq a b,s=>
  match DR E a s with
  |some (.normal,s')=>DR E b s'
  |r=>r
 | .cond c a b,s=>
  match ev E.T s 0 c with
  |some (.bool t)=>if t then DR E a s else DR E b s
  |_=>none
 | .block id c,s=>
  match DR E c s with
  |some (.exit j,s')=>if j=id then some (.normal,s')else some (.exit j,s')
  |r=>r
 | .loop c,s=>TR (DR E c) s
 | .exit id,s=>some (.exit id,s)
 | .ret,s=>some (.ret,s)
 | .bad,_=>none
theorem Zj(E:Env)(ops:Array Oper)(pm:Pm)(s:St)(o:Oper):Oo E pm s (PE ops o)=J5 E ops pm s o:=by
 obtain⟨dst,op,type,pos,after,guard⟩:=o;unfold Oo J5 Lm PE
 cases guard with
 |none=>rfl
 |some g=>
  obtain⟨j,b⟩:=g;simp only
  cases (ops[j]?).bind (·.dst)with
  |none=>rfl
  |some t=>
   simp only
   cases hv:s.v t with
   |bool b'=>simp only;cases hb:(b'==b)<;>simp<;>rfl
   |konst v=>cases v<;>rfl
   |_=>rfl
theorem pQ(E:Env)(ops:Array Oper): ∀(l:List Oper) (s:St),lI E (l.map fun o=>PE ops (tag E.lends ops.toList o)) s=TQ E ops s l:=by
 intro l
 induction l with
 |nil=>intro s;rfl
 |cons o l ih=>
  intro s;simp only [OY,lI,TQ,Zj]
  cases J5 E ops Pm.all s (tag E.lends ops.toList o)with
  |none=>rfl
  |some s'=>simp only [Dh];exact ih s'
theorem lJ(E:Env)(ops:Array Oper)(l0:List Oper): ∀(l:List Oper) (s:St),
  Zi E (l.map fun o=>(⟨FV l0 o,l0.flatMap (EO E.lends l0),EO E.lends l0 o⟩,PE ops (TP E.lends ops.toList o))) s=NM E ops l0 s l:=by
 intro l
 induction l with
 |nil=>intro s;rfl
 |cons o l ih=>
  intro s;simp only [OY,Zi,NM,Zj];have h1:(PmL.mk (FV l0 o) (l0.flatMap (EO E.lends l0)) (EO E.lends l0 o)).pm=IK E.lends l0 o:=nr rfl;have h2:Kn (IK E.lends l0 o) s (PE ops (TP E.lends ops.toList o)).op=bH (IK E.lends l0 o) s o:=nr rfl;rw [h1,h2];split
  ·cases J5 E ops (IK E.lends l0 o) s (TP E.lends ops.toList o)with
   |none=>rfl
   |some s'=>simp only [Dh];exact ih s'
  ·rfl
theorem lK(E:Env): ∀(c:Code),DR E (Bt E.lends c)=DN E c:=by
 intro c
 induction c with
 |skip=>rfl
 |region id ops draw=>
  funext s
  simp only [Bt,DN]
  cases draw with
  |true=>
   simp only [if_true];split
   ·simp only [DR];rw [lJ]
   ·rfl
  |false=>simp only [JR,if_false,DR];rw [pQ]
 |seq a b iha ihb=>
  funext s
  simp only [Bt,DN]
  cases Yv a b with
  |some q=>rfl
  |none=>
   cases TT a b with
   |some q=>simp only [DR,iha,ihb];rfl
   |none=>simp only [DR,iha,ihb];rfl
 |cond x a b iha ihb=>funext s;simp only [Bt,DR,DN,iha,ihb];rfl
 |block id c ih=>funext s;simp only [Bt,DR,DN,ih];rfl
 |loop c ih=>funext s;simp only [Bt,DR,DN,ih]
 |exit id=>rfl
 |ret=>rfl
 |rangeFunc=>rfl
 |scope=>rfl
 |label=>rfl
 |goto=>rfl
 |refuse=>rfl
def CU(E:Env)(c:SC)(Q:Ex→St→Prop)(s:St):Prop:= ∃ex s',DR E c s=some (ex,s')∧Q ex s'
section
variable {E:Env} {Q:Ex→St→Prop} {s:St}
def Wy(E:Env)(b:SC)(Q:Ex→St→Prop):Ex→St→Prop
 | .normal,s=>CU E b Q s
 |ex,s=>Q ex s
def inBlock(id:Nat)(Q:Ex→St→Prop):Ex→St→Prop
 | .exit j,s=>if j=id then Q .normal s else Q (.exit j) s
 |ex,s=>Q ex s
theorem zx{a b:SC}(h:CU E a (Wy E b Q) s):CU E (.seq a b) Q s:=by
 obtain⟨ex,s1,h1,h2⟩:=h
 cases ex with
 |normal=>
  obtain⟨ex',s2,h3,h4⟩:=h2
  exact⟨ex',s2,by simp [DR,h1,h3],h4⟩
 |exit id=>exact⟨_,s1,by simp [DR,h1],h2⟩
 |ret=>exact⟨_,s1,by simp [DR,h1],h2⟩
theorem lL{id:Nat}{c:SC}(h:CU E c (inBlock id Q) s):CU E (.block id c) Q s:=by
 obtain⟨ex,s1,h1,h2⟩:=h
 cases ex with
 |normal=>exact⟨_,s1,by simp [DR,h1],h2⟩
 |exit j=>
  simp only [inBlock]at h2;by_cases hj:j=id
  ·subst hj;rw [if_pos rfl]at h2;exact⟨.normal,s1,by simp [DR,h1],h2⟩
  ·rw [if_neg hj]at h2;exact⟨_,s1,by simp [DR,h1,hj],h2⟩
 |ret=>exact⟨_,s1,by simp [DR,h1],h2⟩
theorem Bc{c:SC}{Q':Ex→St→Prop}(h:CU E c Q s)(hq: ∀ex s,Q ex s→Q' ex s):CU E c Q' s:=by
 obtain⟨ex,s1,h1,h2⟩:=h;exact⟨ex,s1,h1,hq _ _ h2⟩
end
def Gq(T:Tys)(n:Nat)(rs:List ResultVar)(r:D×List D):Ex→St→Prop
 | .normal,s=>XO T n rs s=some r
 | .ret,s=>XO T n rs s=some r
 | .exit _,_=>False
theorem Sys.call_wp{Y:Sys}{f:am}{fn:Func}{c:Code}{k:SC}{a l:List D}{r:D×List D}(hb:Y.base f a l=none)(hf:Y.P.funcs[f]? =some fn)(hok:CW fn a.length=true)
  (hbody:fn.body=some c)(hk:Bt Y.lends c=k)(h:CU Y.env k (Gq Y.T l.length fn.results.toList r) (entry a l)):Y.call f a l=some r:=by
 refine Sys.call_run hb hf hok ?_;obtain⟨ex,s1,h1,h2⟩:=h;unfold Yw;rw [←hk]at h1;have h3:DR Y.env (Bt Y.env.lends c)=DN Y.env c:=lK Y.env c;have h4:DN Y.env c (entry a l)=some (ex,s1):=by rw [←h3];exact h1
 rw [hbody];simp only [h4]
 cases ex with
 |normal=>exact h2
 |ret=>exact h2
 |exit id=>exact h2.elim
section
variable (E:Env) (pm:Pm) (s:St) (dst:Option Tmp) (ty:ab)
theorem dI(op:Op):Oo E pm s ⟨dst,op,ty,none⟩=Lh E pm s dst op ty:=nr rfl
def grd(E:Env)(pm:Pm)(s:St)(dst:Option Tmp)(op:Op)(ty:ab)(b:Bool)(d:D):Option St:=
 match d with
 | .bool b'=>if b'==b then Lh E pm s dst op ty else some (s.putO dst (.konst undef))
 | .konst (.tuple _)=>some (s.putO dst (.konst undef))
 |_=>none
theorem Zk(op:Op)(t:Tmp)(b:Bool):Oo E pm s ⟨dst,op,ty,some (some t,b)⟩=grd E pm s dst op ty b (s.v t):=nr rfl
theorem A9T(op:Op)(b':Bool):grd E pm s dst op ty true (.bool b')=if b'=true then Lh E pm s dst op ty else some (s.putO dst (.konst undef)):=by cases b'<;>rfl
theorem A9U(op:Op)(b':Bool):grd E pm s dst op ty false (.bool b')=if b'=true then some (s.putO dst (.konst undef))else Lh E pm s dst op ty:=by cases b'<;>rfl
theorem A9V(op:Op)(b:Bool):grd E pm s dst op ty b (.konst undef)=some (s.putO dst (.konst undef)):=nr rfl
def pk(s:St)(dst:Option Tmp)(c a b:Option D):Option St:=
 match c,a,b with
 |some (.bool t),some x,some y=>if(if t then x else y).hasObj then none else some (s.putO dst (if t then x else y))
 |_,_,_=>none
theorem lM(c a b:ac):Lh E pm s dst (.pick c a b) ty=pk s dst (ev E.T s ty c) (ev E.T s ty a) (ev E.T s ty b):=nr rfl
theorem pkT(x y:D)(h:x.hasObj=false):pk s dst (some (.bool true)) (some x) (some y)=some (s.putO dst x):=by simp [pk,h]
theorem pkF(x y:D)(h:y.hasObj=false):pk s dst (some (.bool false)) (some x) (some y)=some (s.putO dst y):=by simp [pk,h]
theorem pkB(t p q:Bool):pk s dst (some (.bool t)) (some (.bool p)) (some (.bool q))=some (s.putO dst (.bool (if t then p else q))):=by cases t<;>rfl
theorem hoB(b:Bool):(D.bool b).hasObj=false:=by simp [D.hasObj]
theorem hoI(k:IntKind)(n:Int):(D.int k n).hasObj=false:=by simp [D.hasObj]
theorem j4(t:ab):Lh E pm s dst (.alloc t) ty=if E.T.known t then some (s.putO dst (.box (E.T.zeros t)))else none:=nr rfl
theorem pR(t:ab)(x:ac):Lh E pm s dst (.box t x) ty=if ty=900003 then(NK E.T pm s dst t x).bind fun s1=>Eu pm s1 dst else NK E.T pm s dst t x:=nr rfl
theorem lN(t:ab)(x:ac):NK E.T pm s dst t x=match Oh (ev E.T s t x)with
  |some ds=>if E.T.isStruct t then some (s.putO dst (.box ds))else none
  |none=>
   match take E.T pm s t x with
   |some (d,s1)=>if E.T.isStruct t==d.isAgg then some (s1.putO dst (.box d.asCells))else none
   |none=>none:=nr rfl
theorem UJ(t:ab)(len:Nat)(parts:Array (Nat×ac)):Lh E pm s dst (.buildSlice t len parts) ty=if ty=900004 then(TN E.T pm s dst t len parts).bind fun s1=>Ll pm s1 dst else TN E.T pm s dst t len parts:=nr rfl
def stF(pm:Pm)(a:ac):Option St→Option St
 |some s1=>Eu pm s1 (Qc a)
 |none=>none
theorem lQ(a:ac)(o:Option St):stF pm a o=o.bind fun s1=>Eu pm s1 (Qc a):=by cases o<;>rfl
theorem j5(t:ab)(a x:ac):Lh E pm s none (.store t a x) ty=if ty=900007 then Ga E.T pm t a (Kc E.T pm s t x)else if ty=900010 then RS E.T pm s t a x else if ty=900011 then stF pm a (J3 E.T pm s t a x)else if ty=900016 then J4 E.T pm s t a x else J3 E.T pm s t a x:=by
 rw [lQ];rfl
def KD(s:St)(dst:Option Tmp):Option D→Option St
 |some r=>some (s.putO dst r)
 |none=>none
theorem A2g(r:D):KD s dst (some r)=some (s.putO dst r):=nr rfl
def Xu(dst:Option Tmp):Option (D×St)→Option St
 |some r=>some (r.2.putO dst r.1)
 |none=>none
theorem A2h(r:D)(s:St):Xu dst (some (r,s))=some (s.putO dst r):=nr rfl
def Vl(T:Tys)(s:St)(dst:Option Tmp)(op:BinOp)(t:ab):Option D→Option D→Option St
 |some a,some b=>if NJ T t a then KD s dst (EX op a b)else none
 |_,_=>none
theorem A2i(T:Tys)(op:BinOp)(t:ab)(a b:D):Vl T s dst op t (some a) (some b)=if NJ T t a then KD s dst (EX op a b)else none:=nr rfl
def fzB(pm:Pm)(dst:Option Tmp)(u:Tmp):Option St→Option St
 |some s1=>Yr pm s1 dst u
 |none=>none
theorem zy(op:BinOp)(t:ab)(x y:ac)(t':ab):Lh E pm s dst (.binOp op t x y t') ty=if ty<2000000 then HY E.T pm s dst op t x y else fzB pm dst (ty-2000000) (HY E.T pm s dst op t x y):=by
 show(if ty<2000000 then HY E.T pm s dst op t x y else(HY E.T pm s dst op t x y).bind fun s1=>Yr pm s1 dst (ty-2000000))=_
 cases HY E.T pm s dst op t x y<;>rfl
theorem Su(op:BinOp)(t:ab)(x y:ac)(hq:Yp E.T op t y=none):HY E.T pm s dst op t x y=Vl E.T s dst op t (ev E.T s t x) (ev E.T s t y):=by
 unfold HY;rw [hq];simp only
 cases ev E.T s t x<;>cases ev E.T s t y<;>simp only [Vl]
 rename_i a b
 cases EX op a b<;>rfl
theorem A9W(op:BinOp)(t:ab)(x:ac)(u:Tmp)(t':ab):Lh E pm s dst (.binOp op t x (.tmp u) t') ty=if ty<2000000 then Vl E.T s dst op t (ev E.T s t x) (some (s.v u))else fzB pm dst (ty-2000000) (Vl E.T s dst op t (ev E.T s t x) (some (s.v u))):=by
 rw [zy,Su E pm s dst op t x (.tmp u) rfl];rfl
theorem A9X(op:BinOp)(t:ab)(x:ac)(k:IntKind)(n:Int)(t':ab):Lh E pm s dst (.binOp op t x (.const (.int k n)) t') ty=if ty<2000000 then Vl E.T s dst op t (ev E.T s t x) (some (.int k n))else fzB pm dst (ty-2000000) (Vl E.T s dst op t (ev E.T s t x) (some (.int k n))):=by
 rw [zy,Su E pm s dst op t x _ rfl];rfl
def lS(s:St)(dst:Option Tmp)(q:Bool):Option Bool→Option St
 |some b=>some (s.putO dst (.bool (b==q)))
 |none=>none
theorem A2j(b:Bool):lS s dst true (some b)=some (s.putO dst (.bool b)):=by cases b<;>rfl
def zz(op:BinOp)(s:St)(dst:Option Tmp)(r:Option Bool)(o:Option St):Ty→Option St
 | .slice _=>match op with| .eql=>lS s dst true r| .neq=>lS s dst false r|_=>o
 |_=>o
theorem A9Y(r:Option Bool)(o:Option St)(e:ab):zz .eql s dst r o (.slice e)=lS s dst true r:=nr rfl
theorem pU(op:BinOp)(t:ab)(u:Tmp):HY E.T pm s dst op t (.tmp u) (.const (.slice none 0 0))=zz op s dst (PZ pm s (s.v u)) (Vl E.T s dst op t (some (s.v u)) (ev E.T s t (.const (.slice none 0 0)))) (E.T.ty t):=by
 have key: ∀q,Yp E.T op t (.const (.slice none 0 0))=some q→HY E.T pm s dst op t (.tmp u) (.const (.slice none 0 0))=lS s dst q (PZ pm s (s.v u)):=by
  intro q hq;unfold HY;rw [hq];simp only [ev,Dh]
  cases PZ pm s (s.v u)<;>rfl
 cases ht:E.T.ty t with
 |slice e=>
  cases op<;>first
   |(simp only [zz];exact key true (by simp [Yp,ht]))
   |(simp only [zz];exact key false (by simp [Yp,ht]))
   |(simp only [zz];exact Su E pm s dst _ t _ _ (by simp [Yp,ht]))
 |_=>exact Su E pm s dst _ t _ _ (by simp [Yp,ht])
theorem A00(op:BinOp)(t:ab)(u:Tmp)(t':ab):Lh E pm s dst (.binOp op t (.tmp u) (.const (.slice none 0 0)) t') ty=if ty<2000000 then zz op s dst (PZ pm s (s.v u)) (Vl E.T s dst op t (some (s.v u)) (ev E.T s t (.const (.slice none 0 0)))) (E.T.ty t)
  else fzB pm dst (ty-2000000) (zz op s dst (PZ pm s (s.v u)) (Vl E.T s dst op t (some (s.v u)) (ev E.T s t (.const (.slice none 0 0)))) (E.T.ty t)):=by
 rw [zy,pU]
theorem A9Z(e:ab)(x:D)(xs:List D):PZ pm s (.sl e (x::xs))=some false:=nr rfl
theorem ndK(A:Option Addr)(n c:Nat):PZ pm s (.konst (.slice A n c))=some A.isNone:=nr rfl
theorem Zl(src d:ab)(x:ac):Lh E pm s dst (.convert src d x) ty=if E.T.known src then
   match ev E.T s src x,E.T.ty d with
   |some (.int _ n),.int k=>some (s.putO dst (.int k (k.wrap n)))
   |some (.str b),.string=>some (s.putO dst (.str b))
   |_,_=>none
  else none:=nr rfl
theorem Xv(f:am)(first captured:Array ac):Lh E pm s dst (.makeFunc (.func f) first captured) ty=if ty<3000000 then(if first.isEmpty then(Ki pm s captured.toList).map fun r=>r.2.putO dst (.clo f r.1)else none)
  else(if first.isEmpty then(TM pm s (ty-3000000) captured.toList).map fun r=>r.2.putO dst (.ocl false f r.1)else none):=nr rfl
theorem Vm(t:ab)(l c:ac):Lh E pm s dst (.makeSlice t l c) ty=if ty=900012 then(Vb E.T s dst t l c).bind fun s1=>Ll pm s1 dst else Vb E.T s dst t l c:=nr rfl
theorem Xw(x:ac):Lh E pm s dst (.nilCheck x) ty=(ev E.T s ty x).bind fun d=>
   match d with
   | .box _=>some (Cr s dst x d)
   | .vw L n m=>match s.look pm L n m with|some (.box _)=>some (Cr s dst x d)|_=>none
   | .pe L _ n m=>match s.look pm L n m with|some _=>some (Cr s dst x d)|none=>none
   | .cptr _=>some (Cr s dst x d)
   | .clo _ _=>some (Cr s dst x d)
   | .ocl false _ _=>some (Cr s dst x d)
   |_=>none:=nr rfl
theorem dJ(x y:ac)(t t':ab):Lh E pm s dst (.call ⟨.builtin .append, #[x,y], #[t,t']⟩) ty=if t=t' then(if zX (ev E.T s t y)then Ke E.T pm s t x else Gb E.T pm s t x y).map fun r=>r.2.putO dst r.1 else none:=nr rfl
theorem lT(f:am)(args:Array ac)(ts:Array ab):Lh E pm s dst (.call ⟨.value (.func f),args,ts⟩) ty=if args.size=ts.size then(if ty=900014 then(GA E pm s dst f (args.toList.zip (NL ty ts.toList)) []).bind fun s1=>Eu pm s1 dst else GA E pm s dst f (args.toList.zip (NL ty ts.toList)) [])else none:=nr rfl
theorem j6(u:Tmp)(args:Array ac)(ts:Array ab):Lh E pm s dst (.call ⟨.value (.tmp u),args,ts⟩) ty=match s.v u with
   | .clo f caps=>if args.size=ts.size then GA E pm s dst f (args.toList.zip ts.toList) caps else none
   | .ocl false f caps=>if args.size=ts.size then Kj E pm s dst f (args.toList.zip ts.toList) caps else none
   |_=>none:=nr rfl
end
theorem A01(T:Tys)(s:St)(t:ab)(u:Tmp):ev T s t (.tmp u)=some (s.v u):=nr rfl
theorem A02(T:Tys)(s:St)(t:ab)(k:IntKind)(n:Int):ev T s t (.const (.int k n))=some (.int k n):=nr rfl
theorem pV(T:Tys)(s:St)(t:ab)(b:Bool):ev T s t (.const (.bool b))=some (.bool b):=nr rfl
theorem A03(T:Tys)(s:St)(t:ab):ev T s t (.const (.slice none 0 0))=match T.ty t with| .slice e=>some (.own e [])| .other=>some (.konst (.slice none 0 0))|_=>none:=nr rfl
theorem A2k(s:St)(t u:Nat)(d:D):(s.put t d).v u=if u=t then d else s.v u:=by rw [rz];rfl
theorem A2l(s:St)(t u:Nat)(d:D):(s.put t d).k u=if u=t then(if d.hasObj then s.k t+1 else s.k t)else s.k u:=by
 unfold St.put;by_cases h:u=t
 ·subst h;cases hd:d.hasObj<;>simp [Kb]
 ·cases hd:d.hasObj<;>simp [Kb,h]
theorem A2m(s:St)(t u:Nat)(d:D):(s.put t d).m u=s.m u:=by unfold St.put;split<;>rfl
theorem A2n(s:St)(t u:Nat):(s.clr t).v u=if u=t then .undef else s.v u:=nr rfl
theorem A2o(s:St)(t u:Nat):(s.clr t).k u=s.k u:=nr rfl
theorem A2p(s:St)(t u:Nat):(s.clr t).m u=s.m u:=nr rfl
theorem A04(s:St)(t u:Nat):(s.bump t).v u=s.v u:=nr rfl
theorem A05(s:St)(t u:Nat):(s.bump t).k u=s.k u:=nr rfl
theorem A06(s:St)(t u:Nat):(s.bump t).m u=if u=t then s.m t+1 else s.m u:=nr rfl
theorem A2q(s:St)(t u:Nat)(p:AO)(d:D):(s.set (t::p) d).v u=if u=t then GD (s.v t) p d else s.v u:=nr rfl
theorem A2r(s:St)(t u:Nat)(p:AO)(d:D):(s.set (t::p) d).k u=s.k u:=nr rfl
theorem A2s(s:St)(t u:Nat)(p:AO)(d:D):(s.set (t::p) d).m u=s.m u:=nr rfl
theorem jA(s:St)(t:Tmp)(d:D):s.putO (some t) d=s.put t d:=nr rfl
theorem A2t(Y:Sys):Y.env.T=Y.T:=nr rfl
theorem jB(Y:Sys):Y.env.lends=Y.lends:=nr rfl
theorem lU(Y:Sys):Y.env.call=Y.call:=nr rfl
theorem pW(a l:List D)(t:Nat):(entry a l).v t=if t<G then a.getD t .undef else l.getD (t-G) .undef:=nr rfl
theorem pX(a l:List D)(t:Nat):(entry a l).k t=0:=nr rfl
theorem pY(a l:List D)(t:Nat):(entry a l).m t=0:=nr rfl
theorem M6{r:Ex×St}{Q:Ex→St→Prop}:(∃ex s',some r=some (ex,s')∧Q ex s')=Q r.1 r.2:=
 propext ⟨fun⟨ex,s',h,hq⟩=>by injection h with h;subst h;exact hq,fun h=>⟨r.1,r.2,rfl,h⟩⟩
section
variable (E:Env) (Q:Ex→St→Prop) (s:St)
theorem A2u:CU E .skip Q s=Q .normal s:=M6
theorem A2v(id:Nat):CU E (.exit id) Q s=Q (.exit id) s:=M6
theorem A9a:CU E .ret Q s=Q .ret s:=M6
def A07(Q:Ex→St→Prop):Option (Ex×St)→Prop
 |some r=>Q r.1 r.2
 |none=>False
theorem A2w(ex:Ex)(s':St):A07 Q (some (ex,s'))=Q ex s':=nr rfl
def pg(s:St)(ds:List Tmp)(r:Tmp)(bb:Bool):Bool→Option (Ex×St)
 |true=>some (.ret,(Ih s ds).put r (.bool bb))
 |false=>some (.normal,Ih s ds)
theorem A2x(ds:List Tmp)(r:Tmp)(bb:Bool):pg s ds r bb true=some (.ret,(Ih s ds).put r (.bool bb)):=nr rfl
theorem A2y(ds:List Tmp)(r:Tmp)(bb:Bool):pg s ds r bb false=some (.normal,Ih s ds):=nr rfl
def jC(T:Tys)(s:St)(ds:List Tmp)(r:Tmp)(cst:Int)(bb:Bool):Ty→D→Ty→Option (Ex×St)
 | .map _ _,.mp _ e es,.int .i64=>if T.nums e=some (false,1)then pg s ds r bb (es.any fun p=>p.2==[cst])else none
 |_,_,_=>none
theorem A2z(T:Tys)(ds:List Tmp)(r:Tmp)(cst:Int)(bb:Bool)(a b k e:ab)(es:List (AU×AU))(h:T.nums e=some (false,1)):jC T s ds r cst bb (.map a b) (.mp k e es) (.int .i64)=pg s ds r bb (es.any fun p=>p.2==[cst]):=by
 unfold jC;simp only [h,if_true]
def Wz(s:St)(g:Tmp)(Q:Ex→St→Prop):D→Prop
 | .bool t=>Q .normal (s.put g (.bool t))
 |_=>False
theorem A08(s:St)(g:Tmp)(t:Bool):Wz s g Q (.bool t)=Q .normal (s.put g (.bool t)):=nr rfl
def X0(s:St)(ds:List Tmp)(g:Tmp)(Q:Ex→St→Prop):Ex→St→Prop
 | .normal,s2=>Wz (Ih s ds) g Q (s2.v g)
 |_,_=>False
theorem A09(ds:List Tmp)(g:Tmp)(s2:St):X0 s ds g Q .normal s2=Wz (Ih s ds) g Q (s2.v g):=nr rfl
theorem A30(ds:List Tmp)(g:Tmp)(a b:SC)(h:ds.contains g=true):CU E (.loan ds g a b) Q s=CU E a (Wy E b (X0 s ds g Q)) (Jf s):=by
 have key: ∀(r:Option (Ex×St)),(∃ex s',KL s ds g r=some (ex,s')∧Q ex s')↔ ∃ex s2,r=some (ex,s2)∧X0 s ds g Q ex s2:=fun r=>by
  cases r with
  |none=>simp [KL]
  |some p=>
   obtain⟨ex,s2⟩:=p
   cases ex with
   |normal=>
    simp only [KL,h,if_true]
    cases hv:s2.v g with
    |bool t=>
     refine⟨fun⟨ex,s',h1,h2⟩=> ?_,fun⟨ex,s3,h1,h2⟩=> ?_⟩
     ·simp only [al,Prod.mk.injEq]at h1;obtain⟨rfl,rfl⟩:=h1
      exact⟨_,_,rfl,by simp only [X0,hv,Wz];exact h2⟩
     ·simp only [al,Prod.mk.injEq]at h1;obtain⟨rfl,rfl⟩:=h1;simp only [X0,hv,Wz]at h2
      exact⟨_,_,rfl,h2⟩
    |_=>
     refine⟨fun⟨ex,s',h1,h2⟩=>(by cases h1),fun⟨ex,s3,h1,h2⟩=> ?_⟩
     simp only [al,Prod.mk.injEq]at h1;obtain⟨rfl,rfl⟩:=h1;simp only [X0,hv,Wz]at h2
   |exit id=>simp only [KL];exact⟨fun⟨_,_,h1,_⟩=>(by cases h1),fun⟨ex,s3,h1,h2⟩=>by simp only [al,Prod.mk.injEq]at h1;obtain⟨rfl,rfl⟩:=h1;exact h2.elim⟩
   |ret=>simp only [KL];exact⟨fun⟨_,_,h1,_⟩=>(by cases h1),fun⟨ex,s3,h1,h2⟩=>by simp only [al,Prod.mk.injEq]at h1;obtain⟨rfl,rfl⟩:=h1;exact h2.elim⟩
 refine propext ((key _).trans ⟨fun⟨ex,s2,h1,h2⟩=> ?_,fun⟨ex,s1,h1,h2⟩=> ?_⟩)
 ·cases ha:DR E a (Jf s)with
  |none=>simp [ha]at h1
  |some p=>
   obtain⟨e1,s1⟩:=p
   cases e1 with
   |normal=>simp only [ha]at h1;exact⟨.normal,s1,ha,ex,s2,h1,h2⟩
   |exit id=>simp [ha]at h1
   |ret=>simp [ha]at h1
 ·cases ex with
  |normal=>
   obtain⟨e2,s2,h3,h4⟩:=h2
   exact⟨e2,s2,by simp only [h1];exact h3,h4⟩
  |exit id=>exact h2.elim
  |ret=>exact h2.elim
def loO:Option D→D
 |some d=>d
 |none=> .undef
theorem loS(d:D):loO (some d)=d:=nr rfl
theorem A31(u:Nat):(Jf s).v u=loO (Dj (s.v u)):=by
 show(Dj (s.v u)).getD .undef=_
 cases Dj (s.v u)<;>rfl
theorem A32(u:Nat):(Jf s).k u=s.k u:=nr rfl
theorem A33(u:Nat):(Jf s).m u=s.m u:=nr rfl
theorem A9b:Ih s []=s:=nr rfl
theorem A9c(t:Tmp)(ds:List Tmp):Ih s (t::ds)=Ih (s.put t .undef) ds:=nr rfl
theorem A9d(m d0 d1 n0 n1 e0 e1 v x c r tm t3:Nat)(cst:Int)(bb:Bool):CU E (.any ⟨m,d0,d1,n0,n1,e0,e1,v,x,c,r,tm,t3,cst,bb⟩) Q s=A07 Q (jC E.T s [d0,d1,n0,n1,e0,e1,v,x,c] r cst bb (E.T.ty tm) (s.v m) (E.T.ty t3)):=by
 have e:OC E.T s ⟨m,d0,d1,n0,n1,e0,e1,v,x,c,r,tm,t3,cst,bb⟩=jC E.T s [d0,d1,n0,n1,e0,e1,v,x,c] r cst bb (E.T.ty tm) (s.v m) (E.T.ty t3):=by
  unfold OC jC
  cases E.T.ty tm<;>try rfl
  cases s.v m<;>try rfl
  cases E.T.ty t3<;>try rfl
  rename_i kk
  cases kk<;>try rfl
  simp only;split
  ·rename_i es _
   cases (es.any fun p=>p.2==[cst])<;>rfl
  ·rfl
 unfold CU;simp only [DR,e]
 cases jC E.T s [d0,d1,n0,n1,e0,e1,v,x,c] r cst bb (E.T.ty tm) (s.v m) (E.T.ty t3)with
 |none=>simp [A07]
 |some q=>
  obtain⟨ex,s'⟩:=q;exact propext ⟨fun⟨e1,s1,h1,h2⟩=>by injection h1 with h1;injection h1 with h1 h3;subst h1 h3;exact h2,fun h=>⟨ex,s',rfl,h⟩⟩
theorem A9e:CU E (.ops []) Q s=Q .normal s:=M6
def nxt(E:Env)(l:List SOp)(Q:Ex→St→Prop):Option St→Prop
 |some s=>CU E (.ops l) Q s
 |none=>False
theorem A9f(l:List SOp):nxt E l Q (some s)=CU E (.ops l) Q s:=nr rfl
theorem A34(o:SOp)(l:List SOp):CU E (.ops (o::l)) Q s=nxt E l Q (Oo E Pm.all s o):=by
 unfold CU;simp only [DR,lI]
 cases Oo E Pm.all s o with
 |none=>simp [nxt]
 |some s'=>simp [nxt,CU,DR]
theorem A35:CU E (.draws []) Q s=Q .normal s:=M6
def lV(E:Env)(l:List (PmL×SOp))(Q:Ex→St→Prop):Bool→Option St→Prop
 |true,some s=>CU E (.draws l) Q s
 |_,_=>False
theorem A36(l:List (PmL×SOp)):lV E l Q true (some s)=CU E (.draws l) Q s:=nr rfl
theorem A0A(p:PmL)(o:SOp)(l:List (PmL×SOp)):CU E (.draws ((p,o)::l)) Q s=lV E l Q (Kn p.pm s o.op) (Oo E p.pm s o):=by
 unfold CU;simp only [DR,Zi]
 cases Kn p.pm s o.op with
 |true=>
  cases Oo E p.pm s o with
  |none=>simp [lV]
  |some s'=>simp [lV,CU,DR]
 |false=>simp [lV]
theorem A9g(a b:SC):CU E (.seq a b) Q s=CU E a (Wy E b Q) s:=by
 refine propext ⟨fun⟨ex,s1,h1,h2⟩=> ?_,zx⟩;simp only [DR]at h1
 cases ha:DR E a s with
 |none=>simp [ha]at h1
 |some q=>
  obtain⟨ex',s2⟩:=q
  cases ex' with
  |normal=>simp only [ha]at h1;exact⟨_,s2,ha,ex,s1,h1,h2⟩
  |exit id=>simp only [ha,al,Prod.mk.injEq]at h1;obtain⟨rfl,rfl⟩:=h1;exact⟨_,s2,ha,h2⟩
  |ret=>simp only [ha,al,Prod.mk.injEq]at h1;obtain⟨rfl,rfl⟩:=h1;exact⟨_,s2,ha,h2⟩
def cnd(E:Env)(a b:SC)(Q:Ex→St→Prop)(s:St):Option D→Prop
 |some (.bool t)=>if t=true then CU E a Q s else CU E b Q s
 |_=>False
theorem A9h(a b:SC)(t:Bool):cnd E a b Q s (some (.bool t))=if t=true then CU E a Q s else CU E b Q s:=nr rfl
theorem A38(c:ac)(a b:SC):CU E (.cond c a b) Q s=cnd E a b Q s (ev E.T s 0 c):=by
 unfold CU;simp only [DR]
 cases ev E.T s 0 c with
 |none=>simp [cnd]
 |some d=>cases d with
  |bool t=>cases t<;>simp [cnd,CU]
  |_=>simp [cnd]
theorem A0B(id:Nat)(c:SC):CU E (.block id c) Q s=CU E c (inBlock id Q) s:=by
 refine propext ⟨fun⟨ex,s1,h1,h2⟩=> ?_,lL⟩;simp only [DR]at h1
 cases ha:DR E c s with
 |none=>simp [ha]at h1
 |some q=>
  obtain⟨ex',s2⟩:=q
  cases ex' with
  |normal=>simp only [ha,al,Prod.mk.injEq]at h1;obtain⟨rfl,rfl⟩:=h1;exact⟨_,s2,ha,h2⟩
  |exit j=>
   simp only [ha]at h1;by_cases hj:j=id
   ·simp only [hj,if_true,al,Prod.mk.injEq]at h1;obtain⟨rfl,rfl⟩:=h1;exact⟨_,s2,ha,by simpa [inBlock,hj] using h2⟩
   ·simp only [hj,if_false,al,Prod.mk.injEq]at h1;obtain⟨rfl,rfl⟩:=h1;exact⟨_,s2,ha,by simpa [inBlock,hj] using h2⟩
  |ret=>simp only [ha,al,Prod.mk.injEq]at h1;obtain⟨rfl,rfl⟩:=h1;exact⟨_,s2,ha,h2⟩
theorem A0C(b:SC):Wy E b Q .normal s=CU E b Q s:=nr rfl
theorem A0D(b:SC)(id:Nat):Wy E b Q (.exit id) s=Q (.exit id) s:=nr rfl
theorem A0E(b:SC):Wy E b Q .ret s=Q .ret s:=nr rfl
theorem A9i(id:Nat):inBlock id Q .normal s=Q .normal s:=nr rfl
theorem A9j(id j:Nat):inBlock id Q (.exit j) s=if j=id then Q .normal s else Q (.exit j) s:=nr rfl
theorem A9k(id:Nat):inBlock id Q .ret s=Q .ret s:=nr rfl
theorem A39(T:Tys)(n:Nat)(rs:List ResultVar)(r:D×List D):Gq T n rs r .ret s=(XO T n rs s=some r):=nr rfl
end
section
variable (s:St) (dst:Option Tmp) (u:Tmp) (k:IntKind) (n:Int) (b:Bool) (x:ByteArray) (e:ab) (xs:List D) (L:AO) (i j c:Nat) (v:Value) (f:am)
theorem A3A:Cr s dst (.tmp u) (.int k n)=s.putO dst (.int k n):=nr rfl
theorem A0F:Cr s dst (.tmp u) (.bool b)=s.putO dst (.bool b):=nr rfl
theorem A9l:Cr s dst (.tmp u) (.sl e xs)=s.putO dst (.sl e xs):=nr rfl
theorem pq:Cr s dst (.tmp u) (.konst v)=s.putO dst (.konst v):=nr rfl
theorem A3B:Cr s dst (.tmp u) (.own e xs)=s.putO dst (.vw [u] (s.k u) (s.m u)):=nr rfl
theorem A9m(k:ab)(es:List (AU×AU)):Cr s dst (.tmp u) (.mp k e es)=s.putO dst (.vw [u] (s.k u) (s.m u)):=nr rfl
theorem A9n:Cr s dst (.tmp u) (.vw L i j)=s.putO dst (.vw L i j):=nr rfl
theorem A3C:Cr s dst (.tmp u) (.clo f xs)=s.putO dst (.clo f xs):=nr rfl
theorem A3D:Cr s dst (.tmp u) (.tup xs)=if Ae xs then(if Ae (JY s u 0 xs)then(s.clr u).putO dst (.tup xs)else s.putO dst (.tup (JY s u 0 xs)))else s.putO dst (.tup xs):=nr rfl
theorem A3E(i:Nat):JY s u i []=[]:=nr rfl
theorem A0G(i:Nat)(x:D):JY s u i (x::xs)=Oi s u i x::JY s u (i+1) xs:=nr rfl
theorem A0H(i:Nat):Oi s u i (.bool b)= .bool b:=nr rfl
theorem A3F(i:Nat):Oi s u i (.own e xs)= .vw [u,i] (s.k u) (s.m u):=nr rfl
variable (pm:Pm)
theorem A3G:Bl pm s dst (.tmp u) (.int k n)=some (s.putO dst (.int k n)):=nr rfl
theorem A0I:Bl pm s dst (.tmp u) (.bool b)=some (s.putO dst (.bool b)):=nr rfl
theorem A9o:Bl pm s dst (.tmp u) (.sl e xs)=some (s.putO dst (.sl e xs)):=nr rfl
theorem A3H:Bl pm s dst (.tmp u) (.own e xs)=some ((s.clr u).putO dst (.own e xs)):=nr rfl
theorem A3I(r:Nat):Bl pm s dst (.tmp u) (.vw [r] i j)=(NF pm s [r] i j).map fun q=>q.2.putO dst q.1:=nr rfl
def asT(_s:St)(dst:Option Tmp)(a:Option (D×St))(b:Option St):Bool→Option St
 |true=>a.map fun q=>q.2.putO dst q.1
 |false=>b
theorem A9q(a:Option (D×St))(b:Option St):asT s dst a b true=a.map fun q=>q.2.putO dst q.1:=nr rfl
theorem A9r(a:Option (D×St))(b:Option St):asT s dst a b false=b:=nr rfl
theorem A3J(r r':Nat)(p:AO):Bl pm s dst (.tmp u) (.vw (r::r'::p) i j)=asT s dst (Cm pm s (.vw (r::r'::p) i j)) (some (s.putO dst (.vw (r::r'::p) i j))) (zY pm s r):=by
 by_cases h:zY pm s r=true
 ·have h':bG pm s (.vw (r::r'::p) i j)=true:=h;unfold Bl;simp only [h',h,if_true];rfl
 ·have h':bG pm s (.vw (r::r'::p) i j)=false:=Iw.mpr h;unfold Bl;simp only [h',Iw.mpr h];rfl
theorem A9s(r:Nat):zY pm s r=(pm.rd r&&oU (s.v r)):=nr rfl
theorem A3K:oU (.tup xs)=true:=nr rfl
theorem A3L:oU (.box xs)=false:=nr rfl
theorem A3M:Bl pm s dst (.tmp u) (.clo f xs)=some (s.putO dst (.clo f xs)):=nr rfl
end
section
variable (k:IntKind) (x y:Int) (p q:Bool) (a b:ByteArray)
theorem A3N:EX .add (.int k x) (.int k y)=some (.int k (k.wrap (x+y))):=by simp [EX]
theorem A3O:EX .sub (.int k x) (.int k y)=some (.int k (k.wrap (x-y))):=by simp [EX]
theorem A3P:EX .mul (.int k x) (.int k y)=some (.int k (k.wrap (x*y))):=by simp [EX]
theorem A3Q:EX .quo (.int k x) (.int k y)=if y=0 then none else some (.int k (k.wrap (x.tdiv y))):=by simp [EX]
theorem A3R:EX .rem (.int k x) (.int k y)=if y=0 then none else some (.int k (x.tmod y)):=by simp [EX]
theorem A3S:EX .and (.int k x) (.int k y)=some (.int k (H7 .and k x y)):=by simp [EX]
theorem A9t:EX .or (.int k x) (.int k y)=some (.int k (H7 .or k x y)):=by simp [EX]
theorem A3T(k':IntKind):EX .shl (.int k x) (.int k' y)=if y<0 then none else some (.int k (k.wrap (x*2 ^ (min y.toNat k.bits)))):=by simp [EX]
theorem A3U(k':IntKind):EX .shr (.int k x) (.int k' y)=if y<0 then none else some (.int k (x.fdiv (2 ^ (min y.toNat k.bits)))):=by simp [EX]
theorem A9u:EX .eql (.int k x) (.int k y)=some (.bool (decide (x=y))):=by simp [EX];rfl
theorem A9v:EX .neq (.int k x) (.int k y)=some (.bool (!decide (x=y))):=by simp [EX];rfl
theorem A9w:EX .lss (.int k x) (.int k y)=some (.bool (decide (x<y))):=by simp [EX]
theorem A9x:EX .leq (.int k x) (.int k y)=some (.bool (decide (x≤y))):=by simp [EX]
theorem A9y:EX .gtr (.int k x) (.int k y)=some (.bool (decide (y<x))):=by simp [EX]
theorem A9z:EX .geq (.int k x) (.int k y)=some (.bool (decide (y≤x))):=by simp [EX]
theorem A3V:EX .neq (.bool p) (.bool q)=some (.bool (!(p==q))):=nr rfl
theorem A3W:zV .not (.bool p)=some (.bool (!p)):=nr rfl
theorem boI(T:Tys)(t:ab):NJ T t (.int k x)=true:=nr rfl
theorem boB(T:Tys)(t:ab):NJ T t (.bool p)=match T.ty t with| .bool=>true|_=>false:=nr rfl
end
def II(xs:AU):List D:=xs.map (D.int .i64)
theorem Dc(xs:AU):(II xs).length=xs.length:=by simp [II]
end Dv
namespace Dv
open Go
def zB:Value→Value→Bool
 | .int k n,.int k' n'=>decide (k=k')&&decide (n=n')
 | .bool b,.bool b'=>b==b'
 | .string s,.string s'=>s.size==0&&s'.size==0
 | .slice none 0 0,.slice none 0 0=>true
 | .nilFunc,.nilFunc=>true
 | .pointer none,.pointer none=>true
 |_,_=>false
theorem sD{a b:Value}(h:zB a b=true):a=b:=by
 unfold zB at h
 split at h
 ·simp only [Gl,decide_eq_true_eq]at h;rw [h.1,h.2]
 ·simp only [beq_iff_eq]at h;rw [h]
 ·simp only [Gl,beq_iff_eq]at h
  rename_i s s'
  have: ∀t:ByteArray,t.size=0→t=ByteArray.empty:=by
   intro t ht;obtain⟨d⟩:=t;have:d= #[]:=Array.size_eq_zero_iff.1 ht
   rw [this];rfl
  rw [this s h.1,this s' h.2]
 ·rfl
 ·rfl
 ·rfl
 ·cases h
def zsB:List Value→List Value→Bool
 | [],[]=>true
 |a::as,b::bs=>zB a b&&zsB as bs
 |_,_=>false
theorem lW: ∀ {a b:List Value},zsB a b=true→a=b
 | [],[],_=>rfl
 | [],_::_,h=>by cases h
 |_::_,[],h=>by cases h
 |a::as,b::bs,h=>by
  simp only [zsB,Gl]at h;rw [sD h.1,lW h.2]
def Oq(P:Program)(t:ab)(n:Nat)(z:Value):Bool:=
 match P.info? t with
 |some i=>(i.size==n)&&(decide (4<n)||decide (i.bytes≤128))&&(match i.zero,z with|some (.agg a),.agg b=>zsB a.toList b.toList|some v,z=>zB v z|_,_=>false)
 |none=>false
theorem K4{P:Program}{t:ab}{n:Nat}{z:Value}(h:Oq P t n z=true):Lb P t n z:=by
 unfold Oq at h
 split at h
 ·rename_i i hi
  simp only [Gl,Qa,beq_iff_eq,decide_eq_true_eq]at h
  refine⟨i,hi,h.1.1, ?_,fun h4=>h.1.2.resolve_left (by omega)⟩
  have h2:=h.2
  split at h2
  ·rename_i a b hz
   rw [hz];have:=lW h2
   rw [←PT (xs:=a),this]
  ·rename_i v z' hz _
   rw [hz,sD h2]
  ·cases h2
 ·cases h
def Xx(P:Program)(T:Tys)(t:ab):Bool:=
 match T.ty t with
 | .int k=>(match P.underlying t with|some (.int k')=>decide (k'=k)|_=>false)&&Oq P t 1 (.int k 0)
 | .bool=>(match P.underlying t with|some .bool=>true|_=>false)&&Oq P t 1 (.bool false)
 | .string=>(match P.underlying t with|some .string=>true|_=>false)&&Oq P t 1 (.string ByteArray.empty)
 | .slice e=>(match P.underlying t with|some (.slice e')=>e'==e|_=>false)&&Oq P t 1 (.slice none 0 0)
 | .struct fs=>(match P.underlying t with
   |some (.struct fields)=>
    match T.nest t with
    |none=>(fields.size==fs.length)&&(an fields.size).all (fun j=>match fields[j]?,fs[j]? with|some f,some g=>(f.offset==j)&&(f.type==g)&&T.known g&& !T.isStruct g|_,_=>false)
    |some fl=>decide (4<fs.length)&&(fields.size==fl.length)&&(an fields.size).all (fun j=>match fields[j]?,fl[j]? with|some f,some g=>(f.offset==g.1)&&(f.type==g.2)&&T.known g.2|_,_=>false)
   |_=>false)&&Oq P t fs.length (.agg (fs.map (FD T)).toArray)
 | .func=>(match P.underlying t with|some (.func ..)=>true|_=>false)&&Oq P t 1 .nilFunc
 | .ptr=>(match P.underlying t with|some (.pointer _)=>true|_=>false)&&Oq P t 1 (.pointer none)
 | .map k e=>match P.underlying t with|some (.map k' e')=>(k'==k)&&(e'==e)|_=>false
 | .arr n e=>(match P.underlying t with|some (.array n' e')=>(n'==n)&&(e'==e)|_=>false)&&decide (4<n)&&(match T.nest t with|some l=>l==oP n e|none=>false)&&(match T.ty e with| .int _=>true|_=>false)&&Oq P t n (.agg (ao n (FD T e)).toArray)
 | .other=>true
theorem dK{P:Program}{T:Tys}{t:ab}(h:Xx P T t=true):FK P T t:=by
 unfold Xx at h;unfold FK
 cases hty:T.ty t<;>rw [hty]at h<;>simp only [Gl]at h ⊢
 case int k=>
  refine⟨?_,K4 h.2⟩
  have h1:=h.1
  split at h1
  ·rename_i k' hu;rw [hu];simp only [decide_eq_true_eq]at h1;rw [h1]
  ·cases h1
 case bool=>
  refine⟨?_,K4 h.2⟩
  have h1:=h.1
  split at h1
  ·assumption
  ·cases h1
 case string=>
  refine⟨?_,K4 h.2⟩
  have h1:=h.1
  split at h1
  ·assumption
  ·cases h1
 case map k e=>
  split at h
  ·rename_i k' e' hu;rw [hu];simp only [Gl,beq_iff_eq]at h;rw [h.1,h.2]
  ·cases h
 case arr n e=>
  obtain⟨⟨⟨⟨h1,h2⟩,h3⟩,h4⟩,h5⟩:=h
  refine⟨⟨?_,by simpa using h2, ?_, ?_⟩,K4 h5⟩
  ·split at h1
   ·rename_i n' e' hu;rw [hu];simp only [Gl,beq_iff_eq]at h1;rw [h1.1,h1.2]
   ·cases h1
  ·split at h3
   ·rename_i l hl;rw [hl];simp only [beq_iff_eq]at h3;rw [h3]
   ·cases h3
  ·split at h4
   ·rename_i k hk;exact⟨k,hk⟩
   ·cases h4
 case slice e=>
  refine⟨?_,K4 h.2⟩
  have h1:=h.1
  split at h1
  ·rename_i k' hu;rw [hu];simp only [beq_iff_eq]at h1;rw [h1]
  ·cases h1
 case struct fs=>
  refine⟨?_,K4 h.2⟩
  have h1:=h.1
  split at h1
  ·rename_i fields hu
   refine⟨fields,hu, ?_⟩
   cases hn:T.nest t with
   |none=>
    simp only [hn,Gl,beq_iff_eq,Hr,Ka]at h1 ⊢
    refine⟨h1.1,fun j f hf=> ?_⟩
    have hlt:=(VV.1 hf).1;have:=h1.2 j hlt
    rw [hf]at this
    split at this
    ·rename_i f' g hf' hg
     simp only [al]at hf';subst hf';simp only [Gl,beq_iff_eq,Mx]at this;obtain⟨⟨⟨q1,q2⟩,q3⟩,q4⟩:=this;subst q2
     exact⟨q1,hg,q3,q4⟩
    ·cases this
   |some fl=>
    simp only [hn,Gl,beq_iff_eq,Hr,Ka,decide_eq_true_eq]at h1 ⊢
    refine⟨h1.1.1,h1.1.2,fun j f hf=> ?_⟩
    have hlt:=(VV.1 hf).1;have:=h1.2 j hlt
    rw [hf]at this
    split at this
    ·rename_i f' g hf' hg
     simp only [al]at hf';subst hf';simp only [Gl,beq_iff_eq]at this;obtain⟨⟨q1,q2⟩,q3⟩:=this
     refine⟨?_,by rw [q2];exact q3⟩
     rw [hg,q1,q2]
    ·cases this
  ·cases h1
 case func=>
  refine⟨?_,K4 h.2⟩
  have h1:=h.1
  split at h1
  ·exact⟨_,_,_,by assumption⟩
  ·cases h1
 case ptr=>
  refine⟨?_,K4 h.2⟩
  have h1:=h.1
  split at h1
  ·exact⟨_,by assumption⟩
  ·cases h1
def jD(ny:List Ty)(sG:List (ab×List (Nat×ab))):Tys:={ty:=fun t=>ny.getD t .other,nest:=fun t=>sG.lookup t}
theorem A0J{P:Program}{ny:List Ty}{sG:List (ab×List (Nat×ab))}(h:((an ny.length).all fun t=>Xx P (jD ny sG) t&&ol P (jD ny sG) t)=true):Bn P (jD ny sG):=by
 intro t;rcases Nat.lt_or_ge t ny.length with ht|ht
 ·have:=Hr.1 h t (Ka.2 ht)
  rw [Gl]at this
  exact⟨dK this.1,this.2⟩
 ·have:(jD ny sG).ty t= .other:=by simp [jD,MJ,List.getElem?_eq_none ht]
  refine⟨?_, ?_⟩
  ·unfold FK;rw [this];trivial
  ·unfold ol;rw [this]
theorem AY{Y:Sys}{f:am}{fn:Func}{k:SC}{a l:List D}{r:D×List D}(hb:Y.base f a l=none)(hf:Y.P.funcs[f]? =some fn)(hok:CW fn a.length=true)
  (hk:fn.body.map (Bt Y.lends)=some k)(h:CU Y.env k (Gq Y.T l.length fn.results.toList r) (entry a l)):Y.call f a l=some r:=by
 obtain⟨c,hc,hk⟩:=Ck.1 hk;exact Sys.call_wp hb hf hok hc hk h
end Dv
namespace Dv
open Go
section
variable (E:Env) (pm:Pm) (s:St) (dst:Option Tmp) (ty:ab) (u:Tmp) (t:ab)
theorem Ko(o:Option D):(o.map fun r=>s.putO dst r)=KD s dst o:=by cases o<;>rfl
theorem M7(o:Option (D×St)):(o.map fun r=>r.2.putO dst r.1)=Xu dst o:=by cases o<;>rfl
theorem A3X:Lh E pm s dst (.move (.tmp u)) ty=some (Cr s dst (.tmp u) (s.v u)):=nr rfl
def nz(pm:Pm):Option Tmp→Option St→Option St
 |some t,some s1=>Eu pm s1 (some t)
 |_,_=>none
def fcB(pm:Pm):Option Tmp→Option St→Option St
 |some t,some s1=>Ll pm s1 (some t)
 |_,_=>none
def fcD(s1:St)(t:Tmp)(e:ab):Option (List D)→Option St
 |some ys=>some (s1.set [t] (.own e ys))
 |none=>none
def fcC(s1:St)(t:Tmp):D→Option St
 | .own e xs=>fcD s1 t e (Dz xs)
 |_=>none
theorem AA2(s1:St)(t:Tmp)(h1:pm.rd t=true)(h2:pm.wr t=true):fcB pm (some t) (some s1)=fcC s1 t (s1.v t):=by
 show Ll pm s1 (some t)=_
 unfold Ll fcC;dsimp only;rw [h1,h2]
 cases s1.v t with
 |own e xs=>simp only [Bool.and_self,if_true];cases Dz xs<;>rfl
 |_=>rfl
theorem AA3(s1:St)(t:Tmp)(e:ab)(xs:List D):fcC s1 t (.own e xs)=fcD s1 t e (Dz xs):=nr rfl
theorem AA4(s1:St)(t:Tmp)(e:ab)(ys:List D):fcD s1 t e (some ys)=some (s1.set [t] (.own e ys)):=nr rfl
theorem pu:Lh E pm s dst (.assign (.tmp u)) ty=if ty=900003 then nz pm dst (Bl pm s dst (.tmp u) (s.v u))else if ty<1000000 then Bl pm s dst (.tmp u) (s.v u)else nz pm dst (Bl pm s dst (.tmp u) (s.v u)):=by
 have hfr:((Bl pm s dst (.tmp u) (s.v u)).bind fun s1=>Eu pm s1 dst)=nz pm dst (Bl pm s dst (.tmp u) (s.v u)):=by
  rcases Bl pm s dst (.tmp u) (s.v u)with _|s1<;>cases dst<;>rfl
 show(if jr ty=true then(Bl pm s dst (.tmp u) (s.v u)).bind fun s1=>Eu pm s1 dst else Bl pm s dst (.tmp u) (s.v u))=_
 rw [hfr];unfold jr;by_cases h1:ty=900003
 ·rw [if_pos h1,if_pos h1];rfl
 ·rw [if_neg h1,if_neg h1];by_cases h2:ty<1000000
  ·rw [if_pos h2,if_pos h2];rfl
  ·rw [if_neg h2,if_neg h2];rfl
theorem lX(v:Value):Lh E pm s dst (.assign (.const v)) ty=if ty=900003 then nz pm dst (KD s dst (ev E.T s ty (.const v)))else if ty<1000000 then KD s dst (ev E.T s ty (.const v))else nz pm dst (KD s dst (ev E.T s (ty-1000000) (.const v))):=by
 have hfr: ∀t,((ev E.T s t (.const v)).bind fun d=>(Bl pm s dst (.const v) d).bind fun s1=>Eu pm s1 dst)=nz pm dst (KD s dst (ev E.T s t (.const v))):=by
  intro t
  cases ev E.T s t (.const v)<;>cases dst<;>rfl
 have hno: ∀t,((ev E.T s t (.const v)).bind fun d=>Bl pm s dst (.const v) d)=KD s dst (ev E.T s t (.const v)):=by
  intro t
  cases ev E.T s t (.const v)<;>rfl
 show((ev E.T s (za ty) (.const v)).bind fun d=>if jr ty=true then(Bl pm s dst (.const v) d).bind fun s1=>Eu pm s1 dst else Bl pm s dst (.const v) d)=_
 unfold jr za;by_cases h1:ty=900003
 ·simp only [if_pos h1,if_true];exact hfr _
 ·by_cases h2:ty<1000000
  ·simp only [if_neg h1,if_pos h2,JR,if_false];exact hno _
  ·simp only [if_neg h1,if_neg h2,if_true];exact hfr _
theorem A0K(v:Value):Lh E pm s dst (.move (.const v)) ty=KD s dst (ev E.T s ty (.const v)):=by
 show((ev E.T s ty (.const v)).map fun d=>Cr s dst (.const v) d)=_
 cases ev E.T s ty (.const v)<;>rfl
theorem A3Y:Lh E pm s dst (.load t (.tmp u)) ty=KD s dst (FJ E.T pm s t (.tmp u) (s.v u)):=Ko s dst _
theorem yUn(op:UnOp):Lh E pm s dst (.unOp op t (.tmp u)) ty=KD s dst (zV op (s.v u)):=Ko s dst _
theorem A0L(i:Nat):Lh E pm s dst (.fieldAddr t (.tmp u) i) ty=KD s dst (FC E.T pm s t (.tmp u) (s.v u) i):=Ko s dst _
theorem AA5:Lh E pm s dst (.call ⟨.builtin .len, #[.tmp u], #[t]⟩) ty=KD s dst (Pb E.T pm s t (.tmp u) (s.v u)):=Ko s dst _
theorem lY(i:Nat):Lh E pm s dst (.extract (.tmp u) i) ty=Hu s dst (.tmp u) (s.v u) i:=nr rfl
def slC(T:Tys)(pm:Pm)(s:St)(dst:Option Tmp)(t:ab)(x:ac)(hi:Option ac):Option ac→Option ac→Option St
 |none,none=>Xu dst (RU T pm s t x hi)
 |_,_=>none
def slF(T:Tys)(pm:Pm)(s:St)(dst:Option Tmp)(t:ab)(x:ac)(lo:Option ac):Option ac→Option ac→Option St
 |none,none=>Xu dst (MM T pm s t x lo)
 |_,_=>none
theorem AA6(T:Tys)(x:ac)(lo:Option ac):slF T pm s dst t x lo none none=Xu dst (MM T pm s t x lo):=nr rfl
theorem A0M(lo hi mx:Option ac):Lh E pm s dst (.slice t (.tmp u) lo hi mx) ty=
  if ty=900002 then slC E.T pm s dst t (.tmp u) hi lo mx
  else if ty=900005 then slF E.T pm s dst t (.tmp u) lo hi mx
  else if ty=900001 then Xu dst (Ht E.T pm.see s t (.tmp u) (s.v u) lo hi mx)else Xu dst (Ht E.T pm s t (.tmp u) (s.v u) lo hi mx):=by
 show(if ty=900002 then(if lo.isNone&&mx.isNone then(RU E.T pm s t (.tmp u) hi).map fun r=>r.2.putO dst r.1 else none)
  else if ty=900005 then(if hi.isNone&&mx.isNone then(MM E.T pm s t (.tmp u) lo).map fun r=>r.2.putO dst r.1 else none)
  else(ev E.T s t (.tmp u)).bind fun d=>(Ht E.T (if ty=900001 then pm.see else pm) s t (.tmp u) d lo hi mx).map fun r=>r.2.putO dst r.1)=_
 split
 ·cases lo<;>cases mx<;>first|rfl|exact M7 dst _
 ·split
  ·cases hi<;>cases mx<;>first|rfl|exact M7 dst _
  ·split
   ·exact M7 dst _
   ·exact M7 dst _
def apI(T:Tys)(pm:Pm)(s:St)(t:ab)(x y:ac)(d:D):Option (D×St):=if zX (some d)then Ke T pm s t x else Gb T pm s t x y
theorem pz(x:ac)(v:Tmp):Lh E pm s dst (.call ⟨.builtin .append, #[x,.tmp v], #[t,t]⟩) ty=Xu dst (apI E.T pm s t x (.tmp v) (s.v v)):=by
 rw [dJ,if_pos rfl,M7];rfl
theorem AA7(T:Tys)(x y:ac)(e:ab)(xs:List D):apI T pm s t x y (.sl e xs)=Gb T pm s t x y:=nr rfl
theorem A3Z(T:Tys)(x y:ac)(e:ab)(xs:List D):apI T pm s t x y (.own e xs)=Gb T pm s t x y:=nr rfl
theorem apK(T:Tys)(x y:ac)(A:Option Addr)(c:Nat):apI T pm s t x y (.konst (.slice A 0 c))=Ke T pm s t x:=nr rfl
def ix1(T:Tys)(pm:Pm)(s:St)(t:ab)(x:ac)(d:D):Option D→Option D
 |some i=>TH T pm s t x d i
 |none=>none
theorem AA8(T:Tys)(x:ac)(d i:D):ix1 T pm s t x d (some i)=TH T pm s t x d i:=nr rfl
theorem A0N(i:ac):Lh E pm s dst (.indexAddr t (.tmp u) i) ty=KD s dst (ix1 E.T pm s t (.tmp u) (s.v u) (ev E.T s 0 i)):=by
 show(match some (s.v u),ev E.T s 0 i with
  |some a,some b=>(TH E.T pm s t (.tmp u) a b).map fun r=>s.putO dst r
  |_,_=>none)=_
 cases ev E.T s 0 i with
 |none=>rfl
 |some b=>exact Ko s dst _
def mk1(T:Tys)(t:ab):Option D→Option D→Option D
 |some a,some b=>ES T t a b
 |_,_=>none
theorem AA9(T:Tys)(a b:D):mk1 T t (some a) (some b)=ES T t a b:=nr rfl
theorem AAA(l c:ac):Vb E.T s dst t l c=KD s dst (mk1 E.T t (ev E.T s 0 l) (ev E.T s 0 c)):=by
 show(match ev E.T s 0 l,ev E.T s 0 c with
  |some a,some b=>(ES E.T t a b).map fun r=>s.putO dst r
  |_,_=>none)=_
 cases ev E.T s 0 l<;>cases ev E.T s 0 c<;>first|rfl|exact Ko s dst _
theorem A3b(l c:ac):Lh E pm s dst (.makeSlice t l c) ty=if ty=900012 then fcB pm dst (KD s dst (mk1 E.T t (ev E.T s 0 l) (ev E.T s 0 c)))else KD s dst (mk1 E.T t (ev E.T s 0 l) (ev E.T s 0 c)):=by
 rw [Vm,AAA];by_cases h:ty=900012
 ·rw [if_pos h,if_pos h]
  cases KD s dst (mk1 E.T t (ev E.T s 0 l) (ev E.T s 0 c))<;>cases dst<;>rfl
 ·rw [if_neg h,if_neg h]
def cv1(s:St)(dst:Option Tmp):Option D→Ty→Option St
 |some (.int _ n),.int k=>some (s.putO dst (.int k (k.wrap n)))
 |some (.str b),.string=>some (s.putO dst (.str b))
 |_,_=>none
theorem AAB(k k':IntKind)(n:Int):cv1 s dst (some (.int k n)) (.int k')=some (s.putO dst (.int k' (k'.wrap n))):=nr rfl
theorem lZ(src d:ab)(x:ac):Lh E pm s dst (.convert src d x) ty=if E.T.known src then cv1 s dst (ev E.T s src x) (E.T.ty d)else none:=by
 rw [Zl];split
 ·rcases ev E.T s src x with _|d'<;>cases E.T.ty d<;>first|rfl|(cases d'<;>rfl)
 ·rfl
def asM(l:List ab):List ab:=l.map fun _=>900013
theorem AAC:asM []=[]:=nr rfl
theorem AAD(t:ab)(l:List ab):asM (t::l)=900013::asM l:=nr rfl
theorem A3d(f:am)(args:Array ac)(ts:Array ab)(h:args.size=ts.size):Lh E pm s dst (.call ⟨.value (.func f),args,ts⟩) ty=if ty=900014 then nz pm dst (GA E pm s dst f (args.toList.zip ts.toList) [])else GA E pm s dst f (args.toList.zip (if ty=900013 then asM ts.toList else ts.toList)) []:=by
 rw [lT,if_pos h];by_cases c:ty=900014
 ·rw [if_pos c,if_pos c];have e:NL ty ts.toList=ts.toList:=by unfold NL;rw [c,if_neg (by decide)]
  rw [e];unfold nz
  cases GA E pm s dst f (args.toList.zip ts.toList) []with
  |none=>cases dst<;>rfl
  |some s1=>cases dst<;>rfl
 ·rw [if_neg c,if_neg c]
  unfold NL asM;rfl
end
section
variable {T:Tys} {pm:Pm} {s:St} {t:ab}
theorem ldC(x:ac)(xs:List D)(hk:T.known t=true)(hs:T.isStruct t=false):FJ T pm s t x (.cptr xs)=xs[0]? :=by simp [FJ,hk,hs]
theorem AAE(x:ac)(xs:List D)(hk:T.known t=true)(hs:T.isStruct t=true):FJ T pm s t x (.cptr xs)=if T.size t≤xs.length then some (.agg (xs.take (T.size t)))else none:=by simp [FJ,hk,hs]
def Nb(s:St)(L:AO)(c:Nat):Option D→Option D
 |some o=>(o.cells[c]?).bind fun x=>D9 (Cn s L c x)
 |none=>none
def cellsOf(s:St)(L:AO)(c n:Nat):Option D→Option D
 |some o=>if c+n≤o.cells.length then D9 (.agg ((an n).map fun i=>Cn s L (c+i) (o.cells.getD (c+i) .undef)))else none
 |none=>none
theorem ldP(x:ac)(L:AO)(c n m:Nat)(hk:T.known t=true)(hs:T.isStruct t=false):FJ T pm s t x (.pe L c n m)=Nb s L c (s.look pm L n m):=by
 simp only [FJ,hk,hs,if_true,H8]
 cases s.look pm L n m<;>simp [Nb]
theorem ldB(u:Tmp)(xs:List D)(hk:T.known t=true)(hs:T.isStruct t=false):FJ T pm s t (.tmp u) (.box xs)=Nb s [u] 0 (some (.box xs)):=by
 simp only [FJ,hk,hs,if_true,H8];simp [Nb]
theorem AAF(u:Tmp)(xs:List D)(hk:T.known t=true)(hs:T.isStruct t=true):FJ T pm s t (.tmp u) (.box xs)=cellsOf s [u] 0 (T.size t) (some (.box xs)):=by
 simp only [FJ,hk,hs,if_true,H8];simp [cellsOf]
def X3(s:St)(pm:Pm)(L:AO)(n m:Nat):Option D:=
 match s.look pm L n m with
 |some (.box xs)=>some (.box xs)
 |_=>none
theorem ldV(x:ac)(L:AO)(n m:Nat)(hk:T.known t=true)(hs:T.isStruct t=false):FJ T pm s t x (.vw L n m)=Nb s L 0 (X3 s pm L n m):=by
 simp only [FJ,hk,hs,if_true,H8,X3]
 cases s.look pm L n m with
 |none=>simp [Nb]
 |some o=>cases o<;>simp [Nb]
def Zm:D→Option D
 | .own e xs=>some (.own e xs)
 | .box xs=>some (.box xs)
 |_=>none
theorem A0O(e:ab)(xs:List D):Zm (.own e xs)=some (.own e xs):=nr rfl
theorem A0P(xs:List D):Zm (.box xs)=some (.box xs):=nr rfl
theorem A3e(u n m:Nat):s.look pm [u] n m=if pm.rd u&&(s.k u==n)then Zm (s.v u)else none:=by
 simp only [St.look,List.isEmpty_nil,Bool.true_or,XI,Bb];split
 ·cases s.v u<;>rfl
 ·rfl
def A3f:Option D→Option D
 |some d=>Zm d
 |none=>none
theorem A3g(u c n m:Nat)(p:AO):s.look pm (u::c::p) n m=if pm.rd u&&(s.k u==n)&&(s.m u==m)then A3f (Bb (s.v u) (c::p))else none:=by
 simp only [St.look,List.isEmpty_cons,Bool.false_or];split
 ·cases Bb (s.v u) (c::p)with
  |none=>rfl
  |some d=>cases d<;>rfl
 ·rfl
theorem A3h(d:D):A3f (some d)=Zm d:=nr rfl
theorem AAG(x:ac)(e:ab)(xs:List D):D8 pm s x (.sl e xs)=some (e,xs,none):=nr rfl
theorem A3i(u:Tmp)(e:ab)(xs:List D):D8 pm s (.tmp u) (.own e xs)=some (e,xs,some ([u],s.k u,s.m u)):=nr rfl
def A3j(L:AO)(n m:Nat):Option D→Option (ab×List D×Option (AO×Nat×Nat))
 |some (.own e xs)=>some (e,xs,some (L,n,m))
 |_=>none
theorem A3k(L:AO)(n m:Nat)(e:ab)(xs:List D):A3j L n m (some (.own e xs))=some (e,xs,some (L,n,m)):=nr rfl
theorem AAH(x:ac)(L:AO)(n m:Nat):D8 pm s x (.vw L n m)=A3j L n m (s.look pm L n m):=by
 simp only [D8]
 cases s.look pm L n m with
 |none=>rfl
 |some o=>cases o<;>rfl
def qA(T:Tys):Option (ab×List D×Option (AO×Nat×Nat))→Option D
 |some (e,xs,_)=>if T.known e then some (.int .i64 (T.len e xs))else none
 |none=>none
theorem A3l(e:ab)(xs:List D)(o:Option (AO×Nat×Nat))(hk:T.known e=true):qA T (some (e,xs,o))=some (.int .i64 (T.len e xs)):=by simp [qA,hk]
def ln0(T:Tys)(pm:Pm)(s:St)(x:ac)(d:D):Ty→Option D
 | .string=>match d with| .str b=>some (.int .i64 b.size)|_=>none
 | .slice _=>qA T (D8 pm s x d)
 |_=>none
theorem lnT(x:ac)(d:D):NG T pm s t x d=ln0 T pm s x d (T.ty t):=by
 unfold NG ln0
 cases T.ty t with
 |slice e=>
  simp only
  cases D8 pm s x d with
  |none=>rfl
  |some q=>rfl
 |string=>cases d<;>rfl
 |_=>rfl
theorem A3m(x:ac)(e:ab)(xs:List D):Pb T pm s t x (.sl e xs)=NG T pm s t x (.sl e xs):=nr rfl
def lnW(T:Tys)(pm:Pm)(s:St)(t:ab)(x:ac)(L:AO)(n m:Nat):Ty→Option D
 | .map _ _=>(s.lookM pm L n).map fun q=> .int .i64 q.2.2.length
 |_=>NG T pm s t x (.vw L n m)
theorem A3n(x:ac)(L:AO)(n m:Nat):Pb T pm s t x (.vw L n m)=lnW T pm s t x L n m (T.ty t):=by
 show(match T.ty t with| .map _ _=>Yo T pm s t x (.vw L n m)|_=>Yn T pm s t x (.vw L n m))=_
 unfold lnW Yo
 cases h:T.ty t<;>simp only [XK]<;>first|rfl|(cases s.lookM pm L n<;>rfl)
theorem AAK(T:Tys)(x:ac)(L:AO)(n m:Nat)(e:ab):lnW T pm s t x L n m (.slice e)=NG T pm s t x (.vw L n m):=nr rfl
theorem A3o(x:ac)(e:ab)(xs:List D)(i:D):TH T pm s t x (.sl e xs) i=ER T pm s t x (.sl e xs) i:=nr rfl
theorem A3p(x:ac)(L:AO)(n m:Nat)(i:D):TH T pm s t x (.vw L n m) i=ER T pm s t x (.vw L n m) i:=nr rfl
theorem AAL(x:ac)(d:D)(e:ab):ln0 T pm s x d (.slice e)=qA T (D8 pm s x d):=nr rfl
theorem A3q(e:ab)(xs:List D)(h:T.size e=1):T.len e xs=xs.length:=by simp [Tys.len,h]
def at1(T:Tys)(e:ab)(n:Int):Option (ab×List D×Option (AO×Nat×Nat))→Option D
 |some (e',xs,o)=>
  if e'=e∧T.known e=true∧0≤n∧n.toNat<T.len e xs then
   match o with
   |none=>some (.cptr ((xs.drop (n.toNat*T.size e)).take (T.size e)))
   |some (L,a,b)=>some (.pe L (n.toNat*T.size e) a b)
  else none
 |none=>none
def ix0(T:Tys)(pm:Pm)(s:St)(x:ac)(d:D)(n:Int):Ty→Option D
 | .slice e=>at1 T e n (D8 pm s x d)
 | .arr len e=>
  if 0≤n∧n.toNat<len∧T.known e=true∧T.size e=1 then
   match d with
   | .box _=>match x with| .tmp u=>some (.pe [u] n.toNat (s.k u) (s.m u))|_=>none
   | .vw L n1 m1=>match s.look pm L n1 m1 with|some (.box _)=>some (.pe L n.toNat n1 m1)|_=>none
   | .cptr xs=>some (.cptr (xs.drop n.toNat))
   |_=>none
  else none
 |_=>none
theorem ixT(x:ac)(d:D)(k:IntKind)(n:Int):ER T pm s t x d (.int k n)=ix0 T pm s x d n (T.ty t):=by
 unfold ER ix0
 cases T.ty t with
 |slice e=>
  simp only
  cases D8 pm s x d with
  |none=>rfl
  |some q=>rfl
 |_=>rfl
theorem AAN(x:ac)(d:D)(n:Int)(e:ab):ix0 T pm s x d n (.slice e)=at1 T e n (D8 pm s x d):=nr rfl
theorem AAO(e:ab)(n:Int)(xs:List D)(hk:T.known e=true)(hz:T.size e=1)(hn:0≤n∧n.toNat<xs.length):at1 T e n (some (e,xs,none))=some (.cptr [xs.getD n.toNat .undef]):=by
 simp only [at1,hk,hz,Tys.len,if_true];rw [if_pos ⟨trivial,trivial,hn.1,hn.2⟩,NE,gP hn.2,MJ,IC hn.2];rfl
theorem AAP(e:ab)(n:Int)(xs:List D)(L:AO)(a b:Nat)(hk:T.known e=true)(hz:T.size e=1)(hn:0≤n∧n.toNat<xs.length):at1 T e n (some (e,xs,some (L,a,b)))=some (.pe L n.toNat a b):=by
 simp only [at1,hk,hz,Tys.len,if_true];rw [if_pos ⟨trivial,trivial,hn.1,hn.2⟩,NE]
end
section
variable {T:Tys} {pm:Pm} {s:St} {t:ab} (u:Tmp)
def ak(pm:Pm)(s:St)(u:Tmp)(d:D):Option (D×St):=Cm pm (if d.hasObj then s.clr u else s) d
theorem A3r:take T pm s t (.tmp u)=ak pm s u (s.v u):=nr rfl
theorem A3s(k:IntKind)(n:Int):Cm pm s (.int k n)=some (.int k n,s):=by simp [Cm]
theorem A3t(e:ab)(xs:List D):Cm pm s (.own e xs)=some (.own e xs,s):=by simp [Cm]
theorem AAQ(L:AO)(n m:Nat):Cm pm s (.vw L n m)=NF pm s L n m:=by simp [Cm]
def td1:Option (List D×St)→Option (D×St)
 |some r=>some (.agg r.1,r.2)
 |none=>none
theorem AAR(r:List D×St):td1 (some r)=some (.agg r.1,r.2):=nr rfl
theorem A3v(xs:List D):Cm pm s (.agg xs)=td1 (EY pm s xs):=by simp only [Cm];cases EY pm s xs<;>rfl
def td2(pm:Pm)(ds:List D):Option (D×St)→Option (List D×St)
 |some r=>(EY pm r.2 ds).map fun q=>(r.1::q.1,q.2)
 |none=>none
theorem AAS(ds:List D)(d:D):td2 pm ds (some (d,s))=(EY pm s ds).map fun q=>(d::q.1,q.2):=nr rfl
theorem A0R:EY pm s []=some ([],s):=by simp [EY]
theorem qB(d:D)(ds:List D):EY pm s (d::ds)=td2 pm ds (Cm pm s d):=by simp only [EY];cases Cm pm s d<;>rfl
theorem A3w(k:IntKind)(n:Int):ak pm s u (.int k n)=some (.int k n,s):=by simp [ak,Cm,D.hasObj]
theorem A0S(b:Bool):ak pm s u (.bool b)=some (.bool b,s):=by simp [ak,Cm,D.hasObj]
theorem AAT(e:ab)(xs:List D):ak pm s u (.sl e xs)=some (.sl e xs,s):=by simp [ak,Cm,D.hasObj]
theorem A3x(e:ab)(xs:List D):ak pm s u (.own e xs)=some (.own e xs,s.clr u):=by simp [ak,Cm,D.hasObj]
theorem A3y(f:am)(xs:List D):ak pm s u (.clo f xs)=some (.clo f xs,s):=by simp [ak,Cm,D.hasObj]
theorem AAU(L:AO)(n m:Nat):ak pm s u (.vw L n m)=NF pm s L n m:=by simp [ak,Cm,D.hasObj]
theorem A3z(xs:List D):ak pm s u (.agg xs)=td1 (EY pm (if Ae xs then s.clr u else s) xs):=by
 simp only [ak,D.hasObj];rw [A3v];rfl
theorem A0T:Ae []=false:=by simp [Ae]
theorem fF(d:D)(ds:List D):Ae (d::ds)=(d.hasObj||Ae ds):=by simp [Ae]
theorem AAV(e:ab)(xs:List D):(D.sl e xs).hasObj=false:=by simp [D.hasObj]
theorem A40(e:ab)(xs:List D):(D.own e xs).hasObj=true:=by simp [D.hasObj]
theorem A41(xs:List D):(D.box xs).hasObj=true:=by simp [D.hasObj]
theorem AAW(L:AO)(n m:Nat):(D.vw L n m).hasObj=false:=by simp [D.hasObj]
theorem A42(xs:List D):(D.tup xs).hasObj=Ae xs:=by simp [D.hasObj]
def pl1(s:St)(r:Nat):Option D→Option (D×St)
 |some c=>some (c,s.set [r] .undef)
 |none=>none
theorem AAY(r:Nat)(c:D):pl1 s r (some c)=some (c,s.set [r] .undef):=nr rfl
theorem A43(r n m:Nat)(hw:pm.wr r=true):NF pm s [r] n m=pl1 s r (s.look pm [r] n m):=by
 unfold NF
 cases s.look pm [r] n m with
 |none=>rfl
 |some c=>simp [hw,St.get,pl1]
def pl2(s:St)(L:AO)(o:Option D):Option D→Option (D×St)
 |some c=>match o with
  |some (.own _ _)=>(Dj c).map fun c'=>(c',s.set L c')
  |_=>some (c,s.set L .undef)
 |none=>none
theorem AAZ(L:AO)(xs:List D)(c:D):pl2 s L (some (.box xs)) (some c)=some (c,s.set L .undef):=nr rfl
theorem A44(u' c n m:Nat)(p:AO)(hw:pm.wr u'=true):NF pm s (u'::c::p) n m=pl2 s (u'::c::p) (s.get (u'::c::p).dropLast) (s.look pm (u'::c::p) n m):=by
 unfold NF
 cases s.look pm (u'::c::p) n m with
 |none=>rfl
 |some d=>simp only [TE,hw,if_true,pl2];rfl
theorem AAa(r:Nat):s.get [r]=some (s.v r):=nr rfl
theorem A45(d:D):Bb d []=some d:=by cases d<;>rfl
theorem A46(e:ab)(xs:List D)(c:Nat)(p:AO):Bb (.own e xs) (c::p)=(xs[c]?).bind fun d=>Bb d p:=nr rfl
theorem A47(xs:List D)(c:Nat)(p:AO):Bb (.box xs) (c::p)=(xs[c]?).bind fun d=>Bb d p:=nr rfl
theorem A48(d x:D):GD d [] x=x:=by cases d<;>rfl
theorem A49(e:ab)(xs:List D)(c:Nat)(p:AO)(x:D):GD (.own e xs) (c::p) x= .own e (xs.set c (GD (xs.getD c .undef) p x)):=nr rfl
theorem A4A(xs:List D)(c:Nat)(p:AO)(x:D):GD (.box xs) (c::p) x= .box (xs.set c (GD (xs.getD c .undef) p x)):=nr rfl
end
section
variable {T:Tys} {pm:Pm} {s:St} {t:ab}
def au(T:Tys)(pm:Pm)(t:ab)(ax:ac):Option (D×St)→Option St
 |none=>none
 |some (d,s1)=>
  match ev T s1 t ax with
  |none=>none
  |some ad=>
   match H8 pm s1 ax ad with
   |none=>none
   |some (L,c,o)=>
    if T.known t&&pm.wr (L.headD 0)&&d.asCells.all DC&&(T.size t==d.asCells.length)&&(T.isStruct t==d.isAgg)&&decide (c+T.size t≤o.cells.length)then
     let s2:=s1.set L (o.withCells (CV o.cells c d.asCells))
     some (if d.hasObj||Ae o.cells then s2.bump (L.headD 0)else s2)
    else none
theorem A0U(ax x:ac):J3 T pm s t ax x=au T pm t ax (take T pm s t x):=by
 unfold J3 Ga au;rcases take T pm s t x with _|⟨d,s1⟩<;>rfl
def tm1(T:Tys)(pm:Pm)(s:St)(t:ab)(u:Tmp):D→Option (D×St)
 | .vw L n m=>TG pm s L n m
 |_=>take T pm s t (.tmp u)
theorem A0V(u:Tmp):Kc T pm s t (.tmp u)=tm1 T pm s t u (s.v u):=by
 unfold Kc;simp only [ev]
 cases s.v u<;>rfl
def tm2(s:St)(L:AO):Option D→Option (D×St)
 |some c=>some (c,s.set L .undef)
 |none=>none
theorem AAd(u:Tmp)(L:AO)(n m:Nat)(hw:pm.wr (L.headD 0)=true):tm1 T pm s t u (.vw L n m)=tm2 s L (s.look pm L n m):=by
 show TG pm s L n m=_
 unfold TG tm2
 cases s.look pm L n m with
 |none=>rfl
 |some c=>simp only [hw,if_true]
theorem A0W(u:Tmp)(e:ab)(xs:List D):tm1 T pm s t u (.own e xs)=take T pm s t (.tmp u):=nr rfl
theorem AAe(L:AO)(c:D):tm2 s L (some c)=some (c,s.set L .undef):=nr rfl
def qC(s1:St)(L:AO)(c:Nat)(d:D):Option D→Option St
 |none=>none
 |some o=>if c<o.cells.length then(if d.hasObj||Ae o.cells then some ((s1.set L (o.withCells (o.cells.set c d))).bump (L.headD 0))else some (s1.set L (o.withCells (o.cells.set c d))))else none
def sd1(T:Tys)(pm:Pm)(t:ab)(u:Tmp)(d:D)(s:St):D→Option St
 | .pe L c n m=>if T.known t&& !T.isStruct t&&pm.wr (L.headD 0)&&DC d then qC s L c d (s.look pm L n m)else au T pm t (.tmp u) (some (d,s))
 | .vw L n m=>if T.known t&& !T.isStruct t&&pm.wr (L.headD 0)&&DC d then qC s L 0 d (X3 s pm L n m)else au T pm t (.tmp u) (some (d,s))
 | .box xs=>if T.known t&& !T.isStruct t&&pm.wr u&&DC d then qC s [u] 0 d (some (.box xs))else au T pm t (.tmp u) (some (d,s))
 |_=>au T pm t (.tmp u) (some (d,s))
theorem Nc{d:D}(hd:DC d=true):d.asCells=[d]∧d.isAgg=false:=by
 cases d<;>first|exact⟨rfl,rfl⟩|(simp [DC]at hd)
theorem Q7{T:Tys}{t:ab}(hs:T.isStruct t=false):T.size t=1:=by
 unfold Tys.isStruct at hs;unfold Tys.size
 cases hty:T.ty t<;>simp_all [Ty.isStruct,Ty.size]
theorem AAf(u:Tmp)(d:D)(_:d.isAgg=false):au T pm t (.tmp u) (some (d,s))=sd1 T pm t u d s (s.v u):=by
 cases hv:s.v u<;>simp only [sd1]
 case pe L c n m=>
  split
  ·rename_i hc
   simp only [Gl,Mx]at hc;obtain⟨⟨⟨hk,hs⟩,hw⟩,hd⟩:=hc;obtain⟨ha,hg⟩:=Nc hd;have hz:=Q7 hs;simp only [au,ev,hv,H8]
   cases s.look pm L n m with
   |none=>rfl
   |some o=>
    simp only [qC,hk,hw,ha,hz,hs,hg,PU,hd,List.all_nil,KZ,Oy,XI,CV,beq_self_eq_true,JS];by_cases hc:c<o.cells.length
    ·have h1:c+1≤o.cells.length:=hc;simp only [hc,h1,decide_true,XI,if_true];split<;>first|rfl|(rename_i hq;simp only [hq];rfl)
    ·have h1: ¬c+1≤o.cells.length:=hc;simp only [hc,h1,decide_false,Bool.and_false,JR,if_false]
  ·rfl
 case vw L n m=>
  split
  ·rename_i hc
   simp only [Gl,Mx]at hc;obtain⟨⟨⟨hk,hs⟩,hw⟩,hd⟩:=hc;obtain⟨ha,hg⟩:=Nc hd;have hz:=Q7 hs;simp only [au,ev,hv,H8,X3]
   cases s.look pm L n m with
   |none=>rfl
   |some o=>
    cases o<;>try rfl
    rename_i xs
    simp only [qC,hk,hw,ha,hz,hs,hg,PU,hd,List.all_nil,KZ,Oy,XI,CV,beq_self_eq_true,JS,D.cells];by_cases hc:0<xs.length
    ·have h1:1≤xs.length:=hc;simp only [hc,h1,decide_true,XI,if_true];split<;>first|rfl|(rename_i hq;simp only [hq];rfl)
    ·have h1: ¬1≤xs.length:=hc;simp only [hc,h1,decide_false,Bool.and_false,JR,if_false]
  ·rfl
 case box xs=>
  split
  ·rename_i hc
   simp only [Gl,Mx]at hc;obtain⟨⟨⟨hk,hs⟩,hw⟩,hd⟩:=hc;obtain⟨ha,hg⟩:=Nc hd;have hz:=Q7 hs;simp only [au,ev,hv,H8];simp only [qC,hk,hw,ha,hz,hs,hg,PU,hd,List.all_nil,KZ,Oy,XI,CV,beq_self_eq_true,JS,D.cells,TE];by_cases hc:0<xs.length
   ·have h1:1≤xs.length:=hc;simp only [hc,h1,decide_true,XI,if_true];split<;>first|rfl|(rename_i hq;simp only [hq];rfl)
   ·have h1: ¬1≤xs.length:=hc;simp only [hc,h1,decide_false,Bool.and_false,JR,if_false]
  ·rfl
theorem AAg(u:Tmp)(d:D)(L:AO)(c n m:Nat)(hk:T.known t=true)(hs:T.isStruct t=false)(hw:pm.wr (L.headD 0)=true)(hd:DC d=true):sd1 T pm t u d s (.pe L c n m)=qC s L c d (s.look pm L n m):=by
 simp [sd1,hk,hs,hd];intro h;simp_all
theorem AAh(u:Tmp)(d:D)(xs:List D)(hk:T.known t=true)(hs:T.isStruct t=false)(hw:pm.wr u=true)(hd:DC d=true):sd1 T pm t u d s (.box xs)=qC s [u] 0 d (some (.box xs)):=by
 simp [sd1,hk,hs,hd];intro h;simp_all
def bx1:Option D→Option D
 |some (.box xs)=>some (.box xs)
 |_=>none
theorem bxA(L:AO)(n m:Nat):X3 s pm L n m=bx1 (s.look pm L n m):=by
 unfold X3 bx1
 cases s.look pm L n m with
 |none=>rfl
 |some o=>cases o<;>rfl
theorem AAj(xs:List D):bx1 (some (.box xs))=some (.box xs):=nr rfl
theorem hdC(a:Nat)(l:AO)(d:Nat):List.headD (a::l) d=a:=nr rfl
theorem AAk(L:AO)(c:Nat)(d o:D):qC s L c d (some o)=if c<o.cells.length then(if d.hasObj||Ae o.cells then some ((s.set L (o.withCells (o.cells.set c d))).bump (L.headD 0))else some (s.set L (o.withCells (o.cells.set c d))))else none:=nr rfl
theorem A4B(e:ab)(xs:List D):(D.own e xs).cells=xs:=nr rfl
theorem A4C(xs:List D):(D.box xs).cells=xs:=nr rfl
theorem A4D(e:ab)(xs ys:List D):(D.own e xs).withCells ys= .own e ys:=nr rfl
theorem A4E(xs ys:List D):(D.box xs).withCells ys= .box ys:=nr rfl
theorem A4F(k:IntKind)(n:Int):DC (.int k n)=true:=nr rfl
theorem AAl(e:ab)(xs:List D):DC (.sl e xs)=true:=nr rfl
theorem A4G(e:ab)(xs:List D):DC (.own e xs)=true:=nr rfl
theorem ceS(L:AO)(c:Nat)(o:D):Nb s L c (some o)=(o.cells[c]?).bind fun x=>D9 (Cn s L c x):=nr rfl
theorem AAm(L:AO)(c:Nat)(e:ab)(xs:List D):D9 (Cn s L c (.sl e xs))=some (.sl e xs):=nr rfl
theorem A0X(L:AO)(c:Nat)(xs:List D):D9 (Cn s L c (.cptr xs))=some (.cptr xs):=nr rfl
theorem AAn(r:Nat)(p:AO):bE s (r::p)= .vw (r::p) (s.k r) (s.m r):=nr rfl
def ap1(T:Tys)(pm:Pm)(e:ab)(ty:ab)(y:ac):Option (D×St)→Option (D×St)
 |some (.own e1 xs,s1)=>
   match ev T s1 ty y with
   |some d=>
    match D8 pm s1 y d with
    |some (e2,ys,_)=>
     if e1=e∧e2=e∧T.elem e=true∧ys.all DC=true∧xs.length+ys.length<1099511627776 then
      if Ae ys then
       match d,y with
       | .own _ _,.tmp u=>some (.own e (xs++ys),s1.clr u)
       |_,_=>none
      else some (.own e (xs++ys),s1)
     else none
    |none=>none
   |none=>none
 |_=>none
def az1(T:Tys)(e:ab):Option (D×St)→Option (D×St)
 |some (.own e1 xs,s1)=>if e1=e∧T.known e=true then some (.own e xs,s1)else none
 |_=>none
def az0(T:Tys)(pm:Pm)(s:St)(ty:ab)(x:ac):Ty→Option (D×St)
 | .slice e=>az1 T e (take T pm s ty x)
 |_=>none
theorem A4J(ty:ab)(x:ac):Ke T pm s ty x=az0 T pm s ty x (T.ty ty):=by
 unfold Ke az0
 cases T.ty ty with
 |slice e=>
  simp only [az1];rcases take T pm s ty x with _|⟨d,s1⟩
  ·rfl
  ·cases d<;>rfl
 |_=>rfl
theorem Xy{T:Tys}{e:ab}(hk:T.known e=true)(h4:T.size e≤4):T.elem e=true:=by simp [Tys.elem,hk,h4]
theorem AAp(ty:ab)(x:ac)(e:ab):az0 T pm s ty x (.slice e)=az1 T e (take T pm s ty x):=nr rfl
theorem AAq(e:ab)(xs:List D)(hk:T.known e=true):az1 T e (some (.own e xs,s))=some (.own e xs,s):=by simp [az1,hk]
def ap0(T:Tys)(pm:Pm)(s:St)(ty:ab)(x y:ac):Ty→Option (D×St)
 | .slice e=>ap1 T pm e ty y (Kc T pm s ty x)
 |_=>none
theorem AAs(ty:ab)(x y:ac):Gb T pm s ty x y=ap0 T pm s ty x y (T.ty ty):=by
 unfold Gb ap0
 cases T.ty ty with
 |slice e=>
  simp only [ap1];rcases Kc T pm s ty x with _|⟨d,s1⟩
  ·rfl
  ·cases d<;>rfl
 |_=>rfl
theorem AAt(ty:ab)(x y:ac)(e:ab):ap0 T pm s ty x y (.slice e)=ap1 T pm e ty y (Kc T pm s ty x):=nr rfl
def ap2(T:Tys)(e e1:ab)(xs:List D)(s:St)(u:Tmp)(d:D):Option (ab×List D×Option (AO×Nat×Nat))→Option (D×St)
 |some (e2,ys,_)=>
     if e1=e∧e2=e∧T.elem e=true∧ys.all DC=true∧xs.length+ys.length<1099511627776 then
      if Ae ys then
       match d with
       | .own _ _=>some (.own e (xs++ys),s.clr u)
       |_=>none
      else some (.own e (xs++ys),s)
     else none
 |none=>none
theorem AAu(ty e e1:ab)(u:Tmp)(xs:List D):ap1 T pm e ty (.tmp u) (some (.own e1 xs,s))=ap2 T e e1 xs s u (s.v u) (D8 pm s (.tmp u) (s.v u)):=by
 simp only [ap1,ev,ap2];rcases D8 pm s (.tmp u) (s.v u)with _|⟨e2,ys,o⟩
 ·rfl
 ·simp only;split
  ·split
   ·cases s.v u<;>rfl
   ·rfl
  ·rfl
theorem AAv(e:ab)(u:Tmp)(xs ys:List D)(d:D)(o:Option (AO×Nat×Nat))(hk:T.known e=true)(h4:T.size e≤4)(hy:ys.all DC=true)(hno:Ae ys=false)(hl:xs.length+ys.length<1099511627776):
  ap2 T e e xs s u d (some (e,ys,o))=some (.own e (xs++ys),s):=by
 simp only [ap2];rw [if_pos ⟨trivial,trivial,Xy hk h4,hy,hl⟩,hno];simp
end
section
variable {E:Env} {pm:Pm} {s:St} {dst:Option Tmp}
def Zn(a:D)(l:List (AO×D)):Option (List D×List (AO×D))→Option (List D×List (AO×D))
 |some (as,ls)=>some (a::as,l++ls)
 |none=>none
theorem A0Y(a:D)(l:List (AO×D))(as:List D)(ls:List (AO×D)):Zn a l (some (as,ls))=some (a::as,l++ls):=nr rfl
def Ro(E:Env)(lend:Bool)(pm:Pm)(s:St)(j:Nat)(rest:List (ac×ab)):Option (D×List (AO×D))→Option (List D×List (AO×D))
 |some (a,l)=>Zn a l (Db E lend pm s (j+l.length) rest)
 |none=>none
theorem A0Z(lend:Bool)(j:Nat)(rest:List (ac×ab))(a:D)(l:List (AO×D)):Ro E lend pm s j rest (some (a,l))=Zn a l (Db E lend pm s (j+l.length) rest):=nr rfl
theorem A4K(lend:Bool)(j:Nat):Db E lend pm s j []=some ([],[]):=nr rfl
theorem A4L(lend:Bool)(j:Nat)(u:Tmp)(t:ab)(rest:List (ac×ab)):Db E lend pm s j ((.tmp u,t)::rest)=Ro E lend pm s j rest (Kh E.T lend pm s j [u] (s.v u)):=by
 simp only [Db,ev];rcases Kh E.T lend pm s j [u] (s.v u)with _|⟨a,l⟩
 ·rfl
 ·simp only [Ro];rcases Db E lend pm s (j+l.length) rest with _|⟨as,ls⟩<;>rfl
def aC(E:Env)(lend:Bool)(pm:Pm)(s:St)(j:Nat)(rest:List (ac×ab)):Option D→Option (List D×List (AO×D))
 |some d=>Ro E lend pm s j rest (Kh E.T lend pm s j [] d)
 |none=>none
theorem aCS(lend:Bool)(j:Nat)(rest:List (ac×ab))(d:D):aC E lend pm s j rest (some d)=Ro E lend pm s j rest (Kh E.T lend pm s j [] d):=nr rfl
theorem arC(lend:Bool)(j:Nat)(v:Value)(t:ab)(rest:List (ac×ab)):Db E lend pm s j ((.const v,t)::rest)=aC E lend pm s j rest (ev E.T s t (.const v)):=by
 simp only [Db]
 cases ev E.T s t (.const v)with
 |none=>rfl
 |some d=>
  simp only [aC];rcases Kh E.T lend pm s j [] d with _|⟨a,l⟩
  ·rfl
  ·simp only [Ro];rcases Db E lend pm s (j+l.length) rest with _|⟨as,ls⟩<;>rfl
theorem arF(lend:Bool)(j:Nat)(f:am)(t:ab)(rest:List (ac×ab)):Db E lend pm s j ((.func f,t)::rest)=Ro E lend pm s j rest (Kh E.T lend pm s j [] (.clo f [])):=by
 simp only [Db,ev];rcases Kh E.T lend pm s j [] (.clo f [])with _|⟨a,l⟩
 ·rfl
 ·simp only [Ro];rcases Db E lend pm s (j+l.length) rest with _|⟨as,ls⟩<;>rfl
variable (lend:Bool) (j:Nat) (L:AO)
theorem A4M(T:Tys)(k:IntKind)(n:Int):Kh T lend pm s j L (.int k n)=Dq lend pm s j L (.int k n):=nr rfl
theorem AAw(T:Tys)(e:ab)(xs:List D):Kh T lend pm s j L (.sl e xs)=Dq lend pm s j L (.sl e xs):=nr rfl
theorem A4N(T:Tys)(f:am)(xs:List D):Kh T lend pm s j L (.clo f xs)=Dq lend pm s j L (.clo f xs):=nr rfl
theorem axK(T:Tys)(v:Value):Kh T lend pm s j L (.konst v)=Dq lend pm s j L (.konst v):=nr rfl
theorem A4O(T:Tys)(e:ab)(xs:List D):Kh T lend pm s j L (.own e xs)=Dq lend pm s j L (.own e xs):=nr rfl
theorem AAx(T:Tys)(M:AO)(n m:Nat):Kh T lend pm s j L (.vw M n m)=Dq lend pm s j L (.vw M n m):=nr rfl
theorem A4P(T:Tys)(xs:List D):Kh T lend pm s j L (.agg xs)=Dq lend pm s j L (.agg xs):=nr rfl
theorem A4Q(k:IntKind)(n:Int):Dq lend pm s j L (.int k n)=some (.int k n,[]):=nr rfl
theorem AAy(e:ab)(xs:List D):Dq lend pm s j L (.sl e xs)=some (.sl e xs,[]):=nr rfl
theorem A4R(f:am)(xs:List D):Dq lend pm s j L (.clo f xs)=some (.clo f xs,[]):=nr rfl
theorem atK(v:Value):Dq lend pm s j L (.konst v)=some (.konst v,[]):=nr rfl
def fz1(l:List (AO×D)):Option D→Option (D×List (AO×D))
 |some c=>some (c,l)
 |none=>none
theorem AAz(l:List (AO×D))(c:D):fz1 l (some c)=some (c,l):=nr rfl
theorem A4S(e:ab)(xs:List D):Dq false pm s j L (.own e xs)=fz1 [(L,.own e xs)] (Dj (.own e xs)):=by
 show((Dj (.own e xs)).map fun c'=>(c',[(L,D.own e xs)]))=_
 cases Dj (.own e xs)<;>rfl
def fz2(L:AO):Option D→Option (D×List (AO×D))
 |some c=>fz1 [(L,c)] (Dj c)
 |none=>none
theorem AB1(c:D):fz2 L (some c)=fz1 [(L,c)] (Dj c):=nr rfl
theorem AB2(M:AO)(n m:Nat):Dq false pm s j L (.vw M n m)=fz2 M (s.look pm M n m):=by
 simp only [Dq,Eo]
 cases s.look pm M n m with
 |none=>rfl
 |some c=>simp only [fz2];cases Dj c<;>rfl
def ln2(j:Nat)(L:AO):Option D→Option (D×List (AO×D))
 |some c=>some (.vw [G+j] 0 0,[(L,c)])
 |none=>none
theorem AB3(c:D):ln2 j L (some c)=some (.vw [G+j] 0 0,[(L,c)]):=nr rfl
theorem A4T(M:AO)(n m:Nat):Dq true pm s j L (.vw M n m)=ln2 j M (s.look pm M n m):=by
 simp only [Dq,Eo]
 cases s.look pm M n m<;>rfl
def ag1:Option (List D×List (AO×D))→Option (D×List (AO×D))
 |some r=>some (.agg r.1,r.2)
 |none=>none
theorem AB4(r:List D×List (AO×D)):ag1 (some r)=some (.agg r.1,r.2):=nr rfl
theorem A4U(xs:List D):Dq lend pm s j L (.agg xs)=ag1 (EL lend pm s L j 0 xs):=by
 simp only [Dq]
 cases EL lend pm s L j 0 xs<;>rfl
def lg(lend:Bool)(pm:Pm)(s:St)(L0:AO)(j i:Nat)(ds:List D):Option (D×List (AO×D))→Option (List D×List (AO×D))
 |some (a,l)=>Zn a l (EL lend pm s L0 (j+l.length) (i+1) ds)
 |none=>none
theorem A0a(i:Nat)(ds:List D)(a:D)(l:List (AO×D)):lg lend pm s L j i ds (some (a,l))=Zn a l (EL lend pm s L (j+l.length) (i+1) ds):=nr rfl
theorem A4V(i:Nat):EL lend pm s L j i []=some ([],[]):=nr rfl
theorem A0b(i:Nat)(d:D)(ds:List D)(h:d.isAgg=false):EL lend pm s L j i (d::ds)=lg lend pm s L j i ds (Dq lend pm s j (L++[i]) d):=by
 have:Dq lend pm s j (L++[i]) d=Eo lend pm s j (L++[i]) d:=by cases d<;>first|rfl|(simp [D.isAgg]at h)
 rw [this];simp only [EL];rcases Eo lend pm s j (L++[i]) d with _|⟨a,l⟩
 ·rfl
 ·simp only [lg];rcases EL lend pm s L (j+l.length) (i+1) ds with _|⟨as,ls⟩<;>rfl
theorem A4W(k:IntKind)(n:Int):(D.int k n).isAgg=false:=nr rfl
theorem AB5(e:ab)(xs:List D):(D.sl e xs).isAgg=false:=nr rfl
theorem A4X(e:ab)(xs:List D):(D.own e xs).isAgg=false:=nr rfl
theorem AB6(M:AO)(n m:Nat):(D.vw M n m).isAgg=false:=nr rfl
theorem A4Y(f:am)(xs:List D):(D.clo f xs).isAgg=false:=nr rfl
def cb1(E:Env)(pm:Pm)(s:St)(dst:Option Tmp)(f:am)(caps:List D):Option (List D×List (AO×D))→Option St
 |none=>none
 |some (as,ls)=>
  match E.call f (as++caps) []with
  |some (r,_)=>
   if Dp r then
    if EN (ls.map (·.1))&&ls.all (fun l=>pm.wr (l.1.headD 0))then(IE ls).map fun ls'=>(back false s ls').putO dst r else none
   else some (s.putO dst r)
  |none=>none
theorem cdB(f:am)(xs:List (ac×ab))(caps:List D)(h:E.lends f=false):GA E pm s dst f xs caps=cb1 E pm s dst f caps (Db E false pm s 0 xs):=by
 unfold GA cb1;rw [h];simp only [JR,if_false];rcases Db E false pm s 0 xs with _|⟨as,ls⟩<;>rfl
def cb2(pm:Pm)(s:St)(dst:Option Tmp)(ls:List (AO×D)):Option (D×List D)→Option St
 |some (r,_)=>
   if Dp r then
    if EN (ls.map (·.1))&&ls.all (fun l=>pm.wr (l.1.headD 0))then(IE ls).map fun ls'=>(back false s ls').putO dst r else none
   else some (s.putO dst r)
 |none=>none
theorem AB7(f:am)(caps as:List D)(ls:List (AO×D)):cb1 E pm s dst f caps (some (as,ls))=cb2 pm s dst ls (E.call f (as++caps) []):=by
 simp only [cb1];rcases E.call f (as++caps) []with _|⟨r,o⟩<;>rfl
theorem AB8(ls:List (AO×D))(r:D)(o:List D)(h:Dp r=false):cb2 pm s dst ls (some (r,o))=some (s.putO dst r):=by simp [cb2,h]
theorem AB9(r:D)(o:List D):cb2 pm s dst [] (some (r,o))=some (s.putO dst r):=by
 simp only [cb2];split<;>rfl
def cl1(E:Env)(pm:Pm)(s:St)(dst:Option Tmp)(f:am)(caps:List D):Option (List D×List (AO×D))→Option St
 |none=>none
 |some (as,ls)=>
   if EN (ls.map (·.1))&&ls.all (fun l=>pm.wr (l.1.headD 0))&&ls.all (fun l=>Yq l.2)then
    match E.call f (as++caps) (ls.map (·.2))with
    |some (r,outs)=>if outs.length=ls.length then some ((Jw s (ls.map (·.1)) outs).putO dst r)else none
    |none=>none
   else none
theorem cdL(f:am)(xs:List (ac×ab))(caps:List D)(h:E.lends f=true):GA E pm s dst f xs caps=cl1 E pm s dst f caps (Db E true pm s 0 xs):=by
 unfold GA cl1;rw [h];simp only [if_true];rcases Db E true pm s 0 xs with _|⟨as,ls⟩<;>rfl
def cl2(s:St)(dst:Option Tmp)(ls:List (AO×D)):Option (D×List D)→Option St
 |some (r,outs)=>if outs.length=ls.length then some ((Jw s (ls.map (·.1)) outs).putO dst r)else none
 |none=>none
theorem ABA(f:am)(caps as:List D)(ls:List (AO×D))(h:(EN (ls.map (·.1))&&ls.all (fun l=>pm.wr (l.1.headD 0))&&ls.all (fun l=>Yq l.2))=true):cl1 E pm s dst f caps (some (as,ls))=cl2 s dst ls (E.call f (as++caps) (ls.map (·.2))):=by
 simp only [cl1,h,if_true];rcases E.call f (as++caps) (ls.map (·.2))with _|⟨r,o⟩<;>rfl
theorem ABB(ls:List (AO×D))(r:D)(outs:List D)(h:outs.length=ls.length):cl2 s dst ls (some (r,outs))=some ((Jw s (ls.map (·.1)) outs).putO dst r):=by simp [cl2,h]
end
theorem A4Z(k:IntKind)(n:Int):Dp (.int k n)=false:=by simp [Dp]
theorem A0d(b:Bool):Dp (.bool b)=false:=by simp [Dp]
theorem A4a(e:ab)(xs:List D):Dp (.own e xs)=GG xs:=by simp [Dp]
theorem A4b(xs:List D):Dp (.agg xs)=GG xs:=by simp [Dp]
theorem A4c(xs:List D):Dp (.tup xs)=GG xs:=by simp [Dp]
theorem A0e:GG []=false:=by simp [GG]
theorem qD(d:D)(ds:List D):GG (d::ds)=(Dp d||GG ds):=by simp [GG]
theorem A4d(k:IntKind)(n:Int):Dj (.int k n)=some (.int k n):=by simp [Dj]
theorem A0f(b:Bool):Dj (.bool b)=some (.bool b):=by simp [Dj]
theorem ABC(e:ab)(xs:List D):Dj (.sl e xs)=some (.sl e xs):=by simp [Dj]
theorem A4e(f:am)(xs:List D):Dj (.clo f xs)=some (.clo f xs):=by simp [Dj]
def fzM(f:List D→D):Option (List D)→Option D
 |some xs=>some (f xs)
 |none=>none
theorem ABD(f:List D→D)(xs:List D):fzM f (some xs)=some (f xs):=nr rfl
theorem sI(e:ab)(xs:List D):Dj (.own e xs)=fzM (.sl e) (Dz xs):=by simp only [Dj];cases Dz xs<;>rfl
theorem A4g(xs:List D):Dj (.box xs)=fzM .cptr (Dz xs):=by simp only [Dj];cases Dz xs<;>rfl
theorem A4h(xs:List D):Dj (.agg xs)=fzM .agg (Dz xs):=by simp only [Dj];cases Dz xs<;>rfl
theorem A4i(xs:List D):Dj (.tup xs)=fzM .tup (Dz xs):=by simp only [Dj];cases Dz xs<;>rfl
theorem A0g:Dz []=some []:=by simp [Dz]
def fzC:Option D→Option (List D)→Option (List D)
 |some d,some ds=>some (d::ds)
 |_,_=>none
theorem ABE(d:D)(ds:List D):fzC (some d) (some ds)=some (d::ds):=nr rfl
theorem fG(d:D)(ds:List D):Dz (d::ds)=fzC (Dj d) (Dz ds):=by
 simp only [Dz];cases Dj d<;>cases Dz ds<;>rfl
theorem ABF(d:D):Yq d=(Dj d).isSome:=nr rfl
section
variable {T:Tys} {s:St}
def sJ(n:Nat):Option (D×St)→Option (D×List D)
 |none=>none
 |some (r,s')=>if Yq r&&((an n).map fun j=>s'.v (G+j)).all oV then some (r,(an n).map fun j=>s'.v (G+j))else none
theorem fiD(n:Nat)(rs:List ResultVar):XO T n rs s=sJ n (MP T s rs):=by
 unfold XO sJ;rcases MP T s rs with _|⟨r,s'⟩<;>rfl
theorem fi0(r:D):sJ 0 (some (r,s))=if Yq r then some (r,[])else none:=by simp [sJ]
theorem fiA(r:D):sJ 1 (some (r,s))=if Yq r&&oV (s.v 100000)then some (r,[s.v 100000])else none:=by
 simp [sJ,G,Ym]
theorem fiB(r:D):sJ 2 (some (r,s))=if Yq r&&(oV (s.v 100000)&&oV (s.v 100001))then some (r,[s.v 100000,s.v 100001])else none:=by
 simp [sJ,G,Ym,and_assoc]
theorem A0h(e:ab)(xs:List D):oV (.own e xs)=(Dj (.own e xs)).isSome:=nr rfl
theorem A0i(xs:List D):oV (.box xs)=(Dj (.box xs)).isSome:=nr rfl
theorem re1(r:ResultVar):MP T s [r]=TU T s r:=nr rfl
def reT:Option (List D×St)→Option (D×St)
 |some q=>some (.tup q.1,q.2)
 |none=>none
theorem ABG(q:List D×St):reT (some q)=some (.tup q.1,q.2):=nr rfl
theorem re2(r r':ResultVar)(rs:List ResultVar):MP T s (r::r'::rs)=reT (Lp T s (r::r'::rs)):=by
 show((Lp T s (r::r'::rs)).map fun q=>(D.tup q.1,q.2))=_
 cases Lp T s (r::r'::rs)<;>rfl
theorem A4j(t:Tmp):TU T s (.tmp t)=ak Pm.all s t (s.v t):=nr rfl
theorem A4k:Lp T s []=some ([],s):=nr rfl
def rdN(T:Tys)(rs:List ResultVar):Option (D×St)→Option (List D×St)
 |some (d,s)=>(Lp T s rs).map fun p=>(d::p.1,p.2)
 |none=>none
theorem ABH(rs:List ResultVar)(d:D):rdN T rs (some (d,s))=(Lp T s rs).map fun p=>(d::p.1,p.2):=nr rfl
theorem A0j(r:ResultVar)(rs:List ResultVar):Lp T s (r::rs)=rdN T rs (TU T s r):=by
 simp only [Lp];rcases TU T s r with _|⟨d,s'⟩<;>rfl
theorem ABJ(r:Nat):Pm.all.rd r=true:=nr rfl
theorem ABK(r:Nat):Pm.all.wr r=true:=nr rfl
def bi(s:St)(dst:Option Tmp)(u:Tmp)(i:Nat):Option D→Option St
 |none=>none
 |some (.agg ys)=>KD s dst (D9 (.agg ((an ys.length).map fun j=>Cn s [u,i] j (ys.getD j .undef))))
 |some c=>KD s dst (D9 (Cn s [u] i c))
theorem A4l(dst:Option Tmp)(u:Tmp)(xs:List D)(i:Nat):Hu s dst (.tmp u) (.tup xs) i=bi s dst u i xs[i]? :=by
 simp only [Hu];rcases xs[i]? with _|c
 ·rfl
 ·cases c<;>first|exact Ko s dst _|rfl
theorem A4m(dst:Option Tmp)(u:Tmp)(i:Nat)(k:IntKind)(n:Int):bi s dst u i (some (.int k n))=some (s.putO dst (.int k n)):=by simp [bi,D9,Cn,D.hasObj,KD]
theorem A0k(dst:Option Tmp)(u:Tmp)(i:Nat)(b:Bool):bi s dst u i (some (.bool b))=some (s.putO dst (.bool b)):=by simp [bi,D9,Cn,D.hasObj,KD]
theorem A4n(dst:Option Tmp)(u:Tmp)(i:Nat)(e:ab)(xs:List D):bi s dst u i (some (.own e xs))=some (s.putO dst (.vw [u,i] (s.k u) (s.m u))):=by simp [bi,D9,Cn,D.hasObj,KD,bE]
theorem A4o(xs:List D)(c:Nat)(p:AO):Bb (.tup xs) (c::p)=(xs[c]?).bind fun d=>Bb d p:=nr rfl
theorem A4p(xs:List D)(c:Nat)(p:AO)(x:D):GD (.tup xs) (c::p) x= .tup (xs.set c (GD (xs.getD c .undef) p x)):=nr rfl
theorem ABL(L:AO)(xs:List D)(c:D):pl2 s L (some (.tup xs)) (some c)=some (c,s.set L .undef):=nr rfl
theorem A4q(deep:Bool):back deep s []=s:=nr rfl
theorem bkT(t:Nat)(p:AO)(c:D)(rest:List (AO×D)):back true s ((t::p,c)::rest)=back true ((s.set (t::p) c).bump t) rest:=nr rfl
theorem bkF(t:Nat)(p:AO)(c:D)(rest:List (AO×D)):back false s ((t::p,c)::rest)=back false (s.set (t::p) c) rest:=nr rfl
theorem bkL(Ls:List AO)(outs:List D):Jw s Ls outs=back true (back false s (Ls.map fun L=>(L,.undef))) (Ls.zip outs):=nr rfl
theorem A4r:EN []=true:=nr rfl
theorem A0l(L:AO)(Ls:List AO):EN (L::Ls)=((L.isEmpty||Ls.all fun M=>M.isEmpty||(!L.isPrefixOf M&& !M.isPrefixOf L))&&EN Ls):=nr rfl
theorem ipC(a b:Nat)(l m:AO):List.isPrefixOf (a::l) (b::m)=(a==b&&List.isPrefixOf l m):=nr rfl
theorem ipN(l:AO):List.isPrefixOf [] l=true:=by cases l<;>rfl
theorem ieC(a:Nat)(l:AO):List.isEmpty (a::l)=false:=nr rfl
end
section
variable {T:Tys} {pm:Pm} {s:St}
def fl1(T:Tys)(pm:Pm)(tf:Nat→ab)(sz:Nat)(cs:List D)(i:Nat)(rest:List (Nat×ac)):Option (D×St)→Option (List D×St)
 |none=>none
 |some (d,s1)=>if d.asCells.length=sz∧i*sz+sz≤cs.length then Iq T pm tf sz s1 (CV cs (i*sz) d.asCells) rest else none
theorem A4s(tf:Nat→ab)(sz:Nat)(cs:List D):Iq T pm tf sz s cs []=some (cs,s):=nr rfl
theorem A0m(tf:Nat→ab)(sz:Nat)(cs:List D)(i:Nat)(x:ac)(rest:List (Nat×ac)):Iq T pm tf sz s cs ((i,x)::rest)=fl1 T pm tf sz cs i rest (take T pm s (tf i) x):=by
 simp only [Iq];rcases take T pm s (tf i) x with _|⟨d,s1⟩<;>rfl
theorem ABN(tf:Nat→ab)(cs:List D)(i:Nat)(rest:List (Nat×ac))(d:D)(h:d.isAgg=false):fl1 T pm tf 1 cs i rest (some (d,s))=if i+1≤cs.length then Iq T pm tf 1 s (cs.set i d) rest else none:=by
 have ha:d.asCells=[d]:=by cases d<;>first|rfl|(simp [D.isAgg]at h)
 simp only [fl1,ha,KZ,Oy,JS,NE,true_and,CV]
end
section
variable (pm:Pm) (s:St) (u:Tmp)
def qE(pm:Pm)(u:Tmp)(d:D):Bool:= !d.hasObj||d.isObj||pm.wr u
theorem mvT:Kn pm s (.move (.tmp u))=qE pm u (s.v u):=nr rfl
theorem A0n(k:IntKind)(n:Int):qE pm u (.int k n)=true:=by simp [qE,D.hasObj]
theorem qF(b:Bool):qE pm u (.bool b)=true:=by simp [qE,D.hasObj]
theorem A4t(e:ab)(xs:List D):qE pm u (.sl e xs)=true:=by simp [qE,D.hasObj]
theorem A0o(e:ab)(xs:List D):qE pm u (.own e xs)=true:=by simp [qE,D.isObj]
theorem lh(x:ac):Kn pm s (.assign x)=true:=nr rfl
theorem A0p(a b c:ac):Kn pm s (.pick a b c)=true:=nr rfl
theorem ABO(t:ab)(n:Nat)(p:Array (Nat×ac)):Kn pm s (.buildSlice t n p)=true:=nr rfl
theorem A0q(t:ab)(x:ac):Kn pm s (.load t x)=true:=nr rfl
theorem A4u(o:BinOp)(t:ab)(x y:ac)(t':ab):Kn pm s (.binOp o t x y t')=true:=nr rfl
theorem ABP(o:UnOp)(t:ab)(x:ac):Kn pm s (.unOp o t x)=true:=nr rfl
theorem ABQ(t:ab)(x:ac)(a b c:Option ac):Kn pm s (.slice t x a b c)=true:=nr rfl
theorem ABR(t:ab)(x:ac)(i:Nat):Kn pm s (.fieldAddr t x i)=true:=nr rfl
theorem ABS(t:ab)(x i:ac):Kn pm s (.indexAddr t x i)=true:=nr rfl
theorem A0r(c:Call):Kn pm s (.call c)=true:=nr rfl
theorem pmR(n r w:List Nat)(x:Nat):(PmL.pm ⟨n,r,w⟩).rd x=(n.contains x|| !r.contains x):=nr rfl
theorem pmW(n r w:List Nat)(x:Nat):(PmL.pm ⟨n,r,w⟩).wr x=w.contains x:=nr rfl
section
variable {E:Env} {dst:Option Tmp} {t ty:ab}
end
end
end Dv
namespace Dv
open Go
theorem JA(n:Int)(h: -9223372036854775808≤n∧n≤9223372036854775807):IntKind.i64.wrap n=n:=IntWalk.i64_in n h
section
variable {T:Tys} {pm:Pm} {s:St} {t:ab}
theorem Sv(xs:AU)(i:Nat)(h:i<xs.length):(II xs)[i]? =some (.int .i64 (xs.getD i 0)):=by
 simp [II,MJ,h]
theorem X4(x:Int)(xs:AU):II (x::xs)= .int .i64 x::II xs:=nr rfl
def sls(e:ab)(xss:AX):List D:=xss.map fun xs=> .sl e (II xs)
variable {E:Env} {dst:Option Tmp} {ty:ab}
def A4v(e:ab)(dst:Option Tmp):Option (List D×St)→Option St
 |some (xs,s)=>some (s.putO dst (.own e xs))
 |none=>none
theorem A4w(e:ab)(xs:List D):A4v e dst (some (xs,s))=some (s.putO dst (.own e xs)):=nr rfl
theorem UK(T:Tys){e:ab}(hs:T.isStruct e=false):T.size e=1∧T.zeros e=[T.zero1 e]:=by
 unfold Tys.isStruct at hs;unfold Tys.size Tys.zeros
 cases hty:T.ty e<;>simp_all [Ty.isStruct,Ty.size]
def bs0(E:Env)(pm:Pm)(s:St)(dst:Option Tmp)(len:Nat)(parts:Array (Nat×ac)):Ty→Option St
 | .slice e=>
   if len*E.T.size e≤4096∧E.T.known e=true then
    (Iq E.T pm (fun _=>e) (E.T.size e) s ((an (len*E.T.size e)).map fun j=>(E.T.zeros e).getD (j % E.T.size e) .undef) parts.toList).map fun r=>r.2.putO dst (.own e r.1)
   else none
 |_=>none
theorem A0t(len:Nat)(parts:Array (Nat×ac)):TN E.T pm s dst t len parts=bs0 E pm s dst len parts (E.T.ty t):=by
 unfold TN bs0
 cases E.T.ty t<;>rfl
theorem yBs(len:Nat)(parts:Array (Nat×ac)):Lh E pm s dst (.buildSlice t len parts) ty=if ty=900004 then fcB pm dst (bs0 E pm s dst len parts (E.T.ty t))else bs0 E pm s dst len parts (E.T.ty t):=by
 rw [UJ,A0t];by_cases h:ty=900004
 ·rw [if_pos h,if_pos h];unfold fcB
  cases bs0 E pm s dst len parts (E.T.ty t)<;>cases dst<;>rfl
 ·rw [if_neg h,if_neg h]
theorem ABT(len:Nat)(parts:Array (Nat×ac))(e:ab)(hk:E.T.known e=true)(hs:E.T.isStruct e=false)(hl:len≤4096):
  bs0 E pm s dst len parts (.slice e)=A4v e dst (Iq E.T pm (fun _=>e) 1 s (ao len (E.T.zero1 e)) parts.toList):=by
 obtain⟨hz,hzz⟩:=UK E.T hs
 have hrep:((an (len*1)).map fun j=>(E.T.zeros e).getD (j % 1) .undef)=ao len (E.T.zero1 e):=by
  rw [hzz];apply List.ext_getElem
  ·simp
  ·intro i h1 h2;simp [Nat.mod_one]
 simp only [bs0,hz];rw [if_pos ⟨by omega,hk⟩,hrep]
 rcases Iq E.T pm (fun _=>e) 1 s (ao len (E.T.zero1 e)) parts.toList with _|⟨a,b⟩<;>rfl
def bvR:Option (List D)→Option D
 |some cs=>some (.agg cs)
 |none=>none
theorem ABV(cs:List D):bvR (some cs)=some (.agg cs):=nr rfl
def bv0(T:Tys)(pm:Pm)(s:St)(l:List (Nat×ac))(t:ab):Option (List (Nat×ab))→Ty→Option D
 |none,.struct fs=>if T.known t then bvR (KJ T pm s (fun i=>fs.getD i 0) (T.zeros t) l)else none
 |_,_=>none
theorem yBv(T:Tys)(l:List (Nat×ac)):Ju T pm s t l=bv0 T pm s l t (T.nest t) (T.ty t):=by
 unfold Ju bv0
 cases T.nest t with
 |some fl=>rfl
 |none=>
  cases T.ty t with
  |struct fs=>
   simp only;split
   ·cases KJ T pm s (fun i=>fs.getD i 0) (T.zeros t) l<;>rfl
   ·rfl
  |_=>rfl
theorem ABW(T:Tys)(l:List (Nat×ac))(fs:List ab)(hk:T.known t=true):bv0 T pm s l t none (.struct fs)=bvR (KJ T pm s (fun i=>fs.getD i 0) (T.zeros t) l):=by simp [bv0,hk]
def fv0(T:Tys)(pm:Pm)(s:St)(tf:Nat→ab)(cs:List D)(i:Nat)(rest:List (Nat×ac)):Option D→Option (List D)
 |some d=>if JX pm s d=true∧i<cs.length then KJ T pm s tf (cs.set i d) rest else none
 |none=>none
theorem fvN(T:Tys)(tf:Nat→ab)(cs:List D):KJ T pm s tf cs []=some cs:=nr rfl
theorem fvC(T:Tys)(tf:Nat→ab)(cs:List D)(i:Nat)(x:ac)(rest:List (Nat×ac)):KJ T pm s tf cs ((i,x)::rest)=fv0 T pm s tf cs i rest (ev T s (tf i) x):=by
 simp only [KJ]
 cases ev T s (tf i) x<;>rfl
theorem ABY(T:Tys)(tf:Nat→ab)(cs:List D)(i:Nat)(rest:List (Nat×ac))(d:D)(h1:JX pm s d=true)(h2:i<cs.length):fv0 T pm s tf cs i rest (some d)=KJ T pm s tf (cs.set i d) rest:=by simp [fv0,h1,h2]
def cv0:Option D→Bool
 |some (.own _ _)=>true
 |_=>false
theorem ABZ(e:ab)(xs:List D):cv0 (some (.own e xs))=true:=nr rfl
theorem ABa(L:AO)(n m:Nat):JX pm s (.vw L n m)=cv0 (s.look pm L n m):=by
 simp only [JX]
 cases s.look pm L n m with
 |none=>rfl
 |some o=>cases o<;>rfl
theorem A4x(k:IntKind)(n:Int):JX pm s (.int k n)=true:=nr rfl
theorem ABb(e:ab)(xs:List D):JX pm s (.sl e xs)=true:=nr rfl
theorem A0u(b:Bool):JX pm s (.bool b)=true:=nr rfl
def A4y:D→Bool
 | .box _=>true
 |_=>false
def A4z:D→Bool
 | .agg _=>true
 |_=>false
theorem A50(xs:List D):A4y (.box xs)=true:=nr rfl
theorem A51(xs:List D):A4z (.agg xs)=true:=nr rfl
def sk0(T:Tys)(pm:Pm)(s:St)(t:ab)(ax:Tmp):D→D→Option St
 | .agg ds,.box cs=>if Ae ds then none else
   if T.known t&&pm.wr ax&&ds.all (JX pm s)&&(T.size t==ds.length)&&(T.isStruct t==true)&&decide (0+T.size t≤cs.length)then
    some (if Ae ds||Ae cs then(s.set [ax] (.box (CV cs 0 ds))).bump ax else s.set [ax] (.box (CV cs 0 ds)))else none
 |_,_=>none
theorem ySk(T:Tys)(ax x:Tmp)(h1:A4y (s.v ax)=true)(h2:A4z (s.v x)=true):J4 T pm s t (.tmp ax) (.tmp x)=sk0 T pm s t ax (s.v x) (s.v ax):=by
 cases hx:s.v x<;>rw [hx]at h2<;>first|cases h2|skip
 rename_i ds
 cases ha:s.v ax<;>rw [ha]at h1<;>first|cases h1|skip
 rename_i cs
 unfold J4 sk0;simp only [ev,hx,Oh]
 cases hb:Ae ds with
 |true=>simp
 |false=>
  simp only [JR,if_false,Jv,ev,ha,H8,D.asCells,D.isAgg,D.cells,D.withCells,TE,D.hasObj,hb];rfl
theorem ABc(T:Tys)(ax:Tmp)(ds cs:List D)(hno:Ae ds=false)(hk:T.known t=true)(hs:T.isStruct t=true)(hw:pm.wr ax=true)(hc:ds.all (JX pm s)=true)(hz:T.size t=ds.length)(hl:ds.length≤cs.length)(hoc:Ae cs=false):
  sk0 T pm s t ax (.agg ds) (.box cs)=some (s.set [ax] (.box (CV cs 0 ds))):=by
 simp [sk0,hno,hk,hs,hw,hc,hz,hl,hoc]
theorem ABd(T:Tys)(ax:Tmp)(ds cs:List D)(hno:Ae ds=false)(hk:T.known t=true)(hs:T.isStruct t=true)(hw:pm.wr ax=true)(hc:ds.all (JX pm s)=true)(hz:T.size t=ds.length)(hl:ds.length≤cs.length)(hoc:Ae cs=true):
  sk0 T pm s t ax (.agg ds) (.box cs)=some ((s.set [ax] (.box (CV cs 0 ds))).bump ax):=by
 simp [sk0,hno,hk,hs,hw,hc,hz,hl,hoc]
theorem fnA(ds:List D):(D.agg ds).asCells=ds:=nr rfl
theorem fnI(k:IntKind)(n:Int):(D.int k n).asCells=[.int k n]:=nr rfl
theorem fnO(e:ab)(xs:List D):(D.own e xs).asCells=[.own e xs]:=nr rfl
def mk0(T:Tys)(n:Int):Ty→Option D
 | .slice e=>if 0≤n∧n<1099511627776∧T.elem e=true then
   if T.isStruct e=true then some (.own e (ao n.toNat (T.zeros e)).flatten)
   else if T.size e=1 then some (.own e (ao n.toNat (T.zero1 e)))else none
  else none
 |_=>none
theorem yMk(n:Int):ES T t (.int .i64 n) (.int .i64 n)=mk0 T n (T.ty t):=by
 unfold ES mk0
 cases T.ty t<;>simp
def qG(T:Tys)(q:Int):Ty→Option D
 | .slice e=>if 0≤q∧q<1099511627776∧T.elem e=true then
   if T.isStruct e=true then some (.own e [])
   else if T.size e=1 then some (.own e [])else none
  else none
 |_=>none
theorem ABe(q:Int):ES T t (.int .i64 0) (.int .i64 q)=qG T q (T.ty t):=by
 unfold ES qG
 cases T.ty t<;>simp
theorem A52(q:Int)(e:ab)(hk:T.known e=true)(h4:T.size e≤4)(h0:0≤q)(hn:q<1099511627776):qG T q (.slice e)=some (.own e []):=by
 simp only [qG];rw [if_pos ⟨h0,hn,Xy hk h4⟩];by_cases hs:T.isStruct e=true
 ·rw [if_pos hs]
 ·obtain⟨hz,_⟩:=UK T (by simpa using hs)
  rw [if_neg hs,if_pos hz]
theorem ABf(n:Int)(e:ab)(hk:T.known e=true)(h4:T.size e≤4)(hs:T.isStruct e=false)(h0:0≤n)(hn:n<1099511627776):mk0 T n (.slice e)=some (.own e (ao n.toNat (T.zero1 e))):=by
 obtain⟨hz,_⟩:=UK T hs;simp only [mk0];rw [if_pos ⟨h0,hn,Xy hk h4⟩,if_neg (by rw [hs];decide),if_pos hz]
end
end Dv
namespace Dv
open Go
def I64(n:Int):Prop:= -9223372036854775808≤n∧n≤9223372036854775807
theorem A0v{n:Int}(h:(Lit.int .i64 n).wf=true):I64 n:=by
 have h1:IntKind.i64.min= -9223372036854775808:=by decide
 have h2:IntKind.i64.max=9223372036854775807:=by decide
 simp only [Lit.wf,h1,h2,Gl,decide_eq_true_eq]at h;exact h
section
variable {T:Tys} {t e:ab} {d:D}
theorem dL{ds:List D}(ht:T.ty t= .int .i64)(h:Shp T t ds): ∃n,ds=[.int .i64 n]∧I64 n:=by
 cases h with
 |int ht' hw=>rw [ht]at ht';injection ht' with ht';subst ht';exact⟨_,rfl,A0v hw⟩
 |bool ht'=>rw [ht]at ht';cases ht'
 |string ht'=>rw [ht]at ht';cases ht'
 |slice ht'=>rw [ht]at ht';cases ht'
 |struct ht'=>rw [ht]at ht';cases ht'
theorem Zo{ds:List D}(ht:T.ty t= .slice e)(h:Shp T t ds): ∃xss:List (List D),ds=[.sl e xss.flatten]∧(∀xs,xs∈xss→Shp T e xs)∧xss.length≤maxLen:=by
 cases h with
 |int ht' hw=>rw [ht]at ht';cases ht'
 |bool ht'=>rw [ht]at ht';cases ht'
 |string ht' hs=>rw [ht]at ht';cases ht'
 |slice ht' hx hl=>rw [ht]at ht';injection ht' with ht';subst ht';exact⟨_,rfl,hx,hl⟩
 |struct ht'=>rw [ht]at ht';cases ht'
theorem jE{fs:List ab}{ds:List D}(ht:T.ty t= .struct fs)(h:Shp T t ds):ds.length=fs.length∧ ∀(i:Nat) (f:ab) (d:D),fs[i]? =some f→ds[i]? =some d→Shp T f [d]:=by
 cases h with
 |int ht' hw=>rw [ht]at ht';cases ht'
 |bool ht'=>rw [ht]at ht';cases ht'
 |string ht' hs=>rw [ht]at ht';cases ht'
 |slice ht' hx hl=>rw [ht]at ht';cases ht'
 |struct ht' hl hx=>rw [ht]at ht';injection ht' with ht';subst ht';exact⟨hl,hx⟩
def A0w(xs:AU):Prop:=xs.length≤maxLen∧ ∀x∈xs,I64 x
def fH(xss:AX):Prop:=xss.length≤maxLen∧ ∀xs∈xss,A0w xs
theorem qH{ds:List D}(ht:T.ty t= .slice e)(he:T.ty e= .int .i64)(h:Shp T t ds): ∃xs,ds=[.sl e (II xs)]∧A0w xs:=by
 obtain⟨xss,rfl,hx,hl⟩:=Zo ht h
 have: ∀xss:List (List D),(∀xs,xs∈xss→Shp T e xs)→ ∃ys,xss.flatten=II ys∧ys.length=xss.length∧ ∀y∈ys,I64 y:=by
  intro xss
  induction xss with
  |nil=>intro _;exact⟨[],rfl,rfl,by simp⟩
  |cons xs xss ih=>
   intro hx;obtain⟨n,rfl,hn⟩:=dL he (hx xs (KY));obtain⟨ys,h1,h2,h3⟩:=ih (fun q hq=>hx q (Jd _ hq))
   refine⟨n::ys,by rw [be,h1];rfl,by simp [h2],fun y hy=> ?_⟩
   rcases PV.1 hy with rfl|hy
   ·exact hn
   ·exact h3 y hy
 obtain⟨ys,h1,h2,h3⟩:=this xss hx
 exact⟨ys,by rw [h1],by omega,h3⟩
theorem Zp{e2:ab}{ds:List D}(ht:T.ty t= .slice e)(he:T.ty e= .slice e2)(he2:T.ty e2= .int .i64)(h:Shp T t ds): ∃xss,ds=[.sl e (sls e2 xss)]∧fH xss:=by
 obtain⟨xss,rfl,hx,hl⟩:=Zo ht h
 have: ∀xss:List (List D),(∀xs,xs∈xss→Shp T e xs)→ ∃ys,xss.flatten=sls e2 ys∧ys.length=xss.length∧ ∀y∈ys,A0w y:=by
  intro xss
  induction xss with
  |nil=>intro _;exact⟨[],rfl,rfl,by simp⟩
  |cons xs xss ih=>
   intro hx;obtain⟨n,rfl,hn⟩:=qH he he2 (hx xs (KY));obtain⟨ys,h1,h2,h3⟩:=ih (fun q hq=>hx q (Jd _ hq))
   refine⟨n::ys,by rw [be,h1];rfl,by simp [h2],fun y hy=> ?_⟩
   rcases PV.1 hy with rfl|hy
   ·exact hn
   ·exact h3 y hy
 obtain⟨ys,h1,h2,h3⟩:=this xss hx
 exact⟨ys,by rw [h1],by omega,h3⟩
theorem jF{fs:List ab}(ht:T.ty t= .struct fs)(h:Arg T t d): ∃ds,d= .agg ds∧ds.length=fs.length∧ ∀(i:Nat) (f:ab) (d:D),fs[i]? =some f→ds[i]? =some d→Shp T f [d]:=by
 obtain⟨ds,hs,rfl⟩:=h;obtain⟨h1,h2⟩:=jE ht hs
 exact⟨ds,by simp [top,Tys.isStruct,ht,Ty.isStruct],h1,h2⟩
theorem dM{a b:ab}(ht:T.ty t= .struct [a,a,b,b])(ha:T.ty a= .int .i64)(hb:T.ty b= .slice e){e2:ab}(he:T.ty e= .slice e2)(he2:T.ty e2= .int .i64)(h:Arg T t d):
  ∃l k ns es,d= .agg [.int .i64 l,.int .i64 k,.sl e (sls e2 ns),.sl e (sls e2 es)]∧I64 l∧I64 k∧fH ns∧fH es:=by
 obtain⟨ds,rfl,hl,hx⟩:=jF ht h;rcases ds with _|⟨d0,_|⟨d1,_|⟨d2,_|⟨d3,_|⟨_,_⟩⟩⟩⟩⟩<;>simp at hl
 obtain⟨l,h0,hl0⟩:=dL ha (hx 0 a d0 rfl rfl);obtain⟨k,h1,hl1⟩:=dL ha (hx 1 a d1 rfl rfl);obtain⟨ns,h2,hl2⟩:=Zp hb he he2 (hx 2 b d2 rfl rfl);obtain⟨es,h3,hl3⟩:=Zp hb he he2 (hx 3 b d3 rfl rfl);simp only [List.cons.injEq,and_true]at h0 h1 h2 h3;subst h0 h1 h2 h3
 exact⟨l,k,ns,es,rfl,hl0,hl1,hl2,hl3⟩
end
theorem trodAll_len{H:Type}{enc:ab×Value→H}{P:Program}{w:World}{base:Nat}{spare:Nat→Bool}{FE:Bool}: ∀ {ts:List ab} {vs:List Value} {ds:List (DataW H)} {ps:List MemPlace},
  DataW.TrodAll enc P w base spare FE ts vs ds ps→ds.length=ts.length∧vs.length=ts.length:=by
 intro ts
 induction ts with
 |nil=>intro vs ds ps h;cases vs<;>cases ds<;>simp [DataW.TrodAll]at h;exact⟨rfl,rfl⟩
 |cons t ts ih=>
  intro vs ds ps h
  cases vs with
  |nil=>cases ds<;>simp [DataW.TrodAll]at h
  |cons v vs=>
   cases ds with
   |nil=>simp [DataW.TrodAll]at h
   |cons d ds=>
    simp only [DataW.TrodAll]at h;obtain⟨p,q,h1,h2,_⟩:=h;obtain⟨e1,e2⟩:=ih h2
    exact⟨by simp [e1],by simp [e2]⟩
end Dv
namespace Dv
open Go
section
variable {E:Env} {T:Tys} {pm:Pm} {s:St} {dst:Option Tmp} {ty t:ab}
def oD(T:Tys)(t:ab)(dst:Option Tmp):Option (D×St)→Option St
 |some (d,s1)=>if T.isStruct t==d.isAgg then some (s1.putO dst (.box d.asCells))else none
 |none=>none
def jG(E:Env)(pm:Pm)(s:St)(t:ab)(x:ac)(dst:Option Tmp):D→Option St
 | .agg ds=>if Ae ds then oD E.T t dst (take E.T pm s t x)else(if E.T.isStruct t then some (s.putO dst (.box ds))else none)
 |_=>oD E.T t dst (take E.T pm s t x)
theorem A0x(u:Tmp):NK E.T pm s dst t (.tmp u)=jG E pm s t (.tmp u) dst (s.v u):=by
 rw [lN]
 cases hk:Oh (ev E.T s t (.tmp u))with
 |some ds=>
  simp only [ev]at hk
  cases hv:s.v u<;>rw [hv]at hk<;>simp only [Oh]at hk<;>try (cases hk;done)
  split at hk
  ·cases hk
  ·rename_i ho
   simp only [al]at hk;subst hk;simp only [jG,ho];rfl
 |none=>
  have hold:jG E pm s t (.tmp u) dst (s.v u)=oD E.T t dst (take E.T pm s t (.tmp u)):=by
   simp only [ev]at hk
   cases hv:s.v u<;>try rfl
   rw [hv]at hk;simp only [Oh]at hk
   split at hk
   ·rename_i ho;simp only [jG,ho,if_true]
   ·cases hk
  rw [hold];simp only;rcases take E.T pm s t (.tmp u)with _|⟨d,s1⟩<;>rfl
theorem ABg(u:Tmp):Lh E pm s dst (.box t (.tmp u)) ty=if ty=900003 then nz pm dst (jG E pm s t (.tmp u) dst (s.v u))else jG E pm s t (.tmp u) dst (s.v u):=by
 rw [pR,A0x];by_cases h:ty=900003
 ·rw [if_pos h,if_pos h];unfold nz
  cases jG E pm s t (.tmp u) dst (s.v u)<;>cases dst<;>rfl
 ·rw [if_neg h,if_neg h]
theorem bkK(x:ac)(ds:List D)(hs:E.T.isStruct t=true):jG E pm s t x dst (.agg ds)=if Ae ds then oD E.T t dst (take E.T pm s t x)else some (s.putO dst (.box ds)):=by simp [jG,hs]
theorem A53(x:ac)(k:IntKind)(n:Int):jG E pm s t x dst (.int k n)=oD E.T t dst (take E.T pm s t x):=nr rfl
theorem ABh(x:ac)(e:ab)(xs:List D):jG E pm s t x dst (.sl e xs)=oD E.T t dst (take E.T pm s t x):=nr rfl
theorem A0y(x:ac)(xs:List D):jG E pm s t x dst (.cptr xs)=oD E.T t dst (take E.T pm s t x):=nr rfl
theorem A54(x:ac)(f:am)(xs:List D):jG E pm s t x dst (.clo f xs)=oD E.T t dst (take E.T pm s t x):=nr rfl
theorem ABi(d:D)(hs:T.isStruct t=false)(hd:d.isAgg=false):oD T t dst (some (d,s))=some (s.putO dst (.box [d])):=by
 have:d.asCells=[d]:=by cases d<;>first|rfl|(simp [D.isAgg]at hd)
 simp [oD,hs,hd,this]
def fa0(T:Tys)(pm:Pm)(s:St)(t:ab)(x:ac)(d:D):Option Nat→Option D
 |none=>none
 |some j=>
  if T.isStruct t then
   match d with
   | .box _=>match x with| .tmp u=>some (.pe [u] j (s.k u) (s.m u))|_=>none
   | .vw L n m=>match s.look pm L n m with|some (.box _)=>some (.pe L j n m)|_=>none
   | .pe L c n m=>match s.look pm L n m with|some _=>some (.pe L (c+j) n m)|none=>none
   | .cptr xs=>some (.cptr (xs.drop j))
   |_=>none
  else none
theorem faE(x:ac)(d:D)(i:Nat):FC T pm s t x d i=fa0 T pm s t x d (T.foff t i):=by
 unfold FC fa0
 cases T.foff t i<;>rfl
theorem foN(i:Nat)(hn:T.nest t=none)(hi:i<T.size t):T.foff t i=some i:=by simp [Tys.foff,hn,hi]
theorem A55(u:Tmp)(xs:List D)(i:Nat)(hs:T.isStruct t=true):fa0 T pm s t (.tmp u) (.box xs) (some i)=some (.pe [u] i (s.k u) (s.m u)):=by simp [fa0,hs]
theorem ABj(x:ac)(xs:List D)(i:Nat)(hs:T.isStruct t=true):fa0 T pm s t x (.cptr xs) (some i)=some (.cptr (xs.drop i)):=by simp [fa0,hs]
theorem ABk(L:AO)(c n:Nat)(y:D)(ys:List D):cellsOf s L c n (some (D.box (y::ys)))=if c+n≤(D.box (y::ys)).cells.length then D9 (.agg ((an n).map fun i=>Cn s L (c+i) ((D.box (y::ys)).cells.getD (c+i) .undef)))else none:=nr rfl
theorem ABl(L:AO)(c n:Nat)(e:ab)(ys:List D):cellsOf s L c n (some (D.own e ys))=if c+n≤(D.own e ys).cells.length then D9 (.agg ((an n).map fun i=>Cn s L (c+i) ((D.own e ys).cells.getD (c+i) .undef)))else none:=nr rfl
variable {α:Type} (f:Nat→α)
theorem ABm:(an 14).map f=[f 0,f 1,f 2,f 3,f 4,f 5,f 6,f 7,f 8,f 9,f 10,f 11,f 12,f 13]:=nr rfl
theorem rg4:(an 4).map f=[f 0,f 1,f 2,f 3]:=nr rfl
theorem A56(L:AO)(c:Nat)(k:IntKind)(n:Int):Cn s L c (.int k n)= .int k n:=nr rfl
theorem ABn(L:AO)(c:Nat)(e:ab)(xs:List D):Cn s L c (.sl e xs)= .sl e xs:=nr rfl
theorem A57(L:AO)(c:Nat)(e:ab)(xs:List D):Cn s L c (.own e xs)=bE s (L++[c]):=nr rfl
theorem ABo(L:AO)(c:Nat)(M:AO)(n m:Nat):Cn s L c (.vw M n m)= .vw M n m:=nr rfl
theorem noA(xs:List D):D9 (.agg xs)=if Ae xs then none else some (.agg xs):=by simp only [D9,D.hasObj];rfl
theorem A58(k:IntKind)(n:Int):D9 (.int k n)=some (.int k n):=by simp [D9,D.hasObj]
theorem ABp(e:ab)(xs:List D):D9 (.sl e xs)=some (.sl e xs):=by simp [D9,D.hasObj]
theorem ABq(L:AO)(n m:Nat):D9 (.vw L n m)=some (.vw L n m):=by simp [D9,D.hasObj]
theorem dl2(a b:Nat)(l:AO):List.dropLast (a::b::l)=a::List.dropLast (b::l):=nr rfl
theorem dl1(a:Nat):List.dropLast [a]=[]:=nr rfl
theorem dN: ∀(ds xs:List D),xs.length=ds.length→CV xs 0 ds=ds:=by
 have key: ∀(ds pre xs:List D),xs.length=ds.length→CV (pre++xs) pre.length ds=pre++ds:=by
  intro ds
  induction ds with
  |nil=>intro pre xs h;simp at h;subst h;rfl
  |cons d ds ih=>
   intro pre xs h
   cases xs with
   |nil=>simp at h
   |cons x xs=>
    simp only [CV];have:=ih (pre++[d]) xs (by simpa using h)
    simpa using this
 intro ds xs h;simpa using key ds [] xs h
def sw1(T:Tys)(pm:Pm)(t:ab)(u:Tmp)(ds:List D)(s:St):D→Option St
 | .box xs=>if T.known t&&T.isStruct t&&pm.wr u&&ds.all DC&&(T.size t==ds.length)&&(xs.length==ds.length)then(if Ae ds||Ae xs then some ((s.set [u] (.box ds)).bump u)else some (s.set [u] (.box ds)))else au T pm t (.tmp u) (some (.agg ds,s))
 |_=>au T pm t (.tmp u) (some (.agg ds,s))
theorem ABr(u:Tmp)(ds:List D):au T pm t (.tmp u) (some (.agg ds,s))=sw1 T pm t u ds s (s.v u):=by
 cases hv:s.v u<;>simp only [sw1]
 rename_i xs
 split
 ·rename_i hc
  simp only [Gl,beq_iff_eq]at hc;obtain⟨⟨⟨⟨⟨hk,hs⟩,hw⟩,hd⟩,hz⟩,hl⟩:=hc;have hz':T.size t≤xs.length:=by omega
  simp only [au,ev,hv,H8,D.asCells,D.isAgg,D.cells,D.withCells,hk,hs,hw,hd,hz,TE,beq_self_eq_true,Bool.and_self,JS,D.hasObj];rw [dN ds xs hl];have h2:ds.length≤xs.length:=by omega
  simp only [h2,decide_true,Bool.and_self,if_true]
  split<;>first|rfl|(rename_i hq;simp only [hq];rfl)
 ·rfl
theorem ABs(u:Tmp)(ds xs:List D)(hk:T.known t=true)(hs:T.isStruct t=true)(hw:pm.wr u=true)(hd:ds.all DC=true)(hz:T.size t=ds.length)(hl:xs.length=ds.length):
  sw1 T pm t u ds s (.box xs)=if Ae ds||Ae xs then some ((s.set [u] (.box ds)).bump u)else some (s.set [u] (.box ds)):=by
 simp [sw1,hk,hs,hw,hd,hz,hl]
def rc1(T:Tys)(s:St)(t:Tmp)(ty:ab):D→Option (D×St)
 | .box xs=>if T.isStruct ty then(if xs.length=T.size ty then td1 (EY Pm.all (s.clr t) xs)else none)else(match xs with| [d]=>Cm Pm.all (s.clr t) d|_=>none)
 | .cptr xs=>if T.isStruct ty then(if xs.length=T.size ty then some (.agg xs,s)else none)else(match xs with| [d]=>some (d,s)|_=>none)
 |_=>none
theorem A0z(u:Tmp)(hk:T.known ty=true):TU T s (.cell u ty)=rc1 T s u ty (s.v u):=by
 simp only [TU,hk,if_true,rc1]
 cases s.v u with
 |box xs=>
  simp only;split
  ·split
   ·cases EY Pm.all (s.clr u) xs<;>rfl
   ·rfl
  ·rfl
 |_=>rfl
theorem ABt(u:Tmp)(xs:List D)(hs:T.isStruct ty=true)(hl:xs.length=T.size ty):rc1 T s u ty (.box xs)=td1 (EY Pm.all (s.clr u) xs):=by simp [rc1,hs,hl]
def cp1(pm:Pm)(s:St)(u:Tmp)(rest:List ac):D→Option (List D×St)
 | .box xs=>match Dz xs with
  |some ys=>if pm.wr u then(Ki pm (s.set [u] (.cptr ys)) rest).map fun r=>(.cptr ys::r.1,r.2)else none
  |none=>none
 | .cptr ys=>(Ki pm s rest).map fun r=>(.cptr ys::r.1,r.2)
 |_=>none
theorem A59:Ki pm s []=some ([],s):=nr rfl
theorem A5A(u:Tmp)(rest:List ac):Ki pm s (.tmp u::rest)=cp1 pm s u rest (s.v u):=by
 simp only [Ki]
 cases s.v u<;>rfl
def cp2(pm:Pm)(s:St)(u:Tmp)(rest:List ac):Option (List D)→Option (List D×St)
 |some ys=>if pm.wr u then(Ki pm (s.set [u] (.cptr ys)) rest).map fun r=>(.cptr ys::r.1,r.2)else none
 |none=>none
theorem ABw(u:Tmp)(rest:List ac)(xs:List D):cp1 pm s u rest (.box xs)=cp2 pm s u rest (Dz xs):=by
 simp only [cp1];cases Dz xs<;>rfl
theorem ABx(u:Tmp)(rest:List ac)(ys:List D)(hw:pm.wr u=true):cp2 pm s u rest (some ys)=(Ki pm (s.set [u] (.cptr ys)) rest).map fun r=>(.cptr ys::r.1,r.2):=by simp [cp2,hw]
def clN(E:Env)(pm:Pm)(s:St)(dst:Option Tmp)(args:Array ac)(ts:Array ab):D→Option St
 | .clo f caps=>if args.size=ts.size then GA E pm s dst f (args.toList.zip ts.toList) caps else none
 | .ocl false f caps=>if args.size=ts.size then Kj E pm s dst f (args.toList.zip ts.toList) caps else none
 |_=>none
theorem A10(u:Tmp)(args:Array ac)(ts:Array ab):Lh E pm s dst (.call ⟨.value (.tmp u),args,ts⟩) ty=clN E pm s dst args ts (s.v u):=by
 rw [j6];cases s.v u<;>first|rfl|(rename_i b _ _;cases b<;>rfl)
theorem ABy(args:Array ac)(ts:Array ab)(f':am)(caps:List D)(h:args.size=ts.size):clN E pm s dst args ts (.clo f' caps)=GA E pm s dst f' (args.toList.zip ts.toList) caps:=by simp [clN,h]
def mf0(f:am)(dst:Option Tmp):Option (List D×St)→Option St
 |some r=>some (r.2.putO dst (.clo f r.1))
 |none=>none
theorem ABz(g:am)(xs:List D):mf0 g dst (some (xs,s))=some (s.putO dst (.clo g xs)):=nr rfl
def mfV(f:am)(dst:Option Tmp):Option (List D×St)→Option St
 |some r=>some (r.2.putO dst (.ocl false f r.1))
 |none=>none
theorem AC0(g:am)(xs:List D):mfV g dst (some (xs,s))=some (s.putO dst (.ocl false g xs)):=nr rfl
theorem yMf(g:am)(captured:Array ac):Lh E pm s dst (.makeFunc (.func g) #[] captured) ty=if ty<3000000 then mf0 g dst (Ki pm s captured.toList)else mfV g dst (TM pm s (ty-3000000) captured.toList):=by
 rw [Xv];simp only [List.isEmpty_toArray,List.isEmpty_nil,if_true];by_cases h:ty<3000000
 ·rw [if_pos h,if_pos h]
  cases Ki pm s captured.toList<;>rfl
 ·rw [if_neg h,if_neg h]
  cases TM pm s (ty-3000000) captured.toList<;>rfl
def cvp(l:List ac):Option (List D×St)→Option (List D×St)
 |none=>none
 |some (_,s1)=>(NI s1 l).map fun ds=>(ds,s1)
theorem cvE(m:Nat)(l:List ac):TM pm s m l=cvp l (Ki pm s (IG m 0 l)):=by
 unfold TM cvp;rcases Ki pm s (IG m 0 l)with _|⟨ys,s1⟩<;>rfl
def cvq(s:St):Option (List D)→Option (List D×St)
 |some ds=>some (ds,s)
 |none=>none
theorem AC1(l:List ac)(ys:List D):cvp l (some (ys,s))=cvq s (NI s l):=by
 simp only [cvp];cases NI s l<;>rfl
theorem AC2(ds:List D):cvq s (some ds)=some (ds,s):=nr rfl
theorem umN(m i:Nat):IG m i []=[]:=nr rfl
theorem umC(m i:Nat)(x:ac)(xs:List ac):IG m i (x::xs)=if m / 2 ^ i % 2=1 then IG m (i+1) xs else x::IG m (i+1) xs:=by
 rw [IG,Nat.testBit_eq_decide_div_mod_eq];by_cases h:m / 2 ^ i % 2=1<;>simp [h]
def ce1(s:St)(u:Tmp)(r:Option (List D)):D→Option (List D)
 | .box _=>r.map (bE s [u]:: ·)
 | .cptr ys=>r.map (.cptr ys:: ·)
 |_=>none
theorem ceN:NI s []=some []:=nr rfl
theorem ceT(u:Tmp)(rest:List ac):NI s (.tmp u::rest)=ce1 s u (NI s rest) (s.v u):=by
 simp only [NI]
 cases s.v u<;>rfl
theorem AC4(u:Tmp)(l xs:List D):ce1 s u (some l) (.box xs)=some (bE s [u]::l):=nr rfl
theorem AC5(u:Tmp)(l ys:List D):ce1 s u (some l) (.cptr ys)=some (.cptr ys::l):=nr rfl
def A11(T:Tys)(pm:Pm)(s:St)(t:ab)(t0:Tmp):D→D→Option St
 | .box [_],.ocl false f xs=>if T.known t&& !T.isStruct t&&(T.size t==1)&&pm.rd t0&&pm.wr t0 then some (s.set [t0] (.ocl true f (xs.map (IJ s t0))))else none
 |_,_=>none
theorem AC6(T:Tys)(t0 u:Tmp):RS T pm s t (.tmp t0) (.tmp u)=A11 T pm s t t0 (s.v t0) (s.v u):=by
 show(match s.v t0,s.v u with
  | .box [_],.ocl false f xs=>if T.known t&& !T.isStruct t&&(T.size t==1)&&pm.rd t0&&pm.wr t0 then some (s.set [t0] (.ocl true f (xs.map (IJ s t0))))else none
  |_,_=>none)=_
 rfl
theorem AC7(T:Tys)(t0:Tmp)(x:D)(f:am)(xs:List D)(hk:T.known t=true)(hs:T.isStruct t=false)(hz:T.size t=1)(hr:pm.rd t0=true)(hw:pm.wr t0=true):
  A11 T pm s t t0 (.box [x]) (.ocl false f xs)=some (s.set [t0] (.ocl true f (xs.map (IJ s t0)))):=by simp [A11,hk,hs,hz,hr,hw]
theorem utV(t0 r n m:Nat):IJ s t0 (.vw [r] n m)=if r=t0 then(if n=s.k t0 then .undef else .vw [r] n m)else .vw [r] n m:=by
 unfold IJ;by_cases h:r=t0<;>by_cases h2:n=s.k t0<;>simp [h,h2]
theorem utC(t0:Nat)(ys:List D):IJ s t0 (.cptr ys)= .cptr ys:=nr rfl
theorem ldO(T:Tys)(x:ac)(f:am)(xs:List D)(hk:T.known t=true)(hs:T.isStruct t=false):FJ T pm s t x (.ocl true f xs)=some (.ocl false f xs):=by simp [FJ,hk,hs]
def co2(E:Env)(pm:Pm)(s:St)(dst:Option Tmp)(f:am)(as:List D)(ls:List (AO×D)):Option (List D×List (AO×D))→Option St
 |none=>none
 |some (cs,lc)=>
  if EN ((ls++lc).map (·.1))&&(ls++lc).all (fun l=>pm.wr (l.1.headD 0))&&(ls++lc).all (fun l=>Yq l.2)then
   cl2 s dst (ls++lc) (E.call f (as++cs.map (IY f cs)) ((ls++lc).map (·.2)))
  else none
def co1(E:Env)(pm:Pm)(s:St)(dst:Option Tmp)(f:am)(caps:List D):Option (List D×List (AO×D))→Option St
 |none=>none
 |some (as,ls)=>co2 E pm s dst f as ls (DJ pm s ls.length caps)
theorem coE(f:am)(xs:List (ac×ab))(caps:List D):Kj E pm s dst f xs caps=co1 E pm s dst f caps (Db E true pm s 0 xs):=by
 unfold Kj co1;rcases Db E true pm s 0 xs with _|⟨as,ls⟩
 ·rfl
 ·simp only;unfold co2;rcases DJ pm s ls.length caps with _|⟨cs,lc⟩
  ·rfl
  ·simp only;split
   ·unfold cl2;rcases E.call f (as++cs.map (IY f cs)) ((ls++lc).map (·.2))with _|⟨r,o⟩<;>rfl
   ·rfl
theorem AC9(f:am)(caps as:List D)(ls:List (AO×D)):co1 E pm s dst f caps (some (as,ls))=co2 E pm s dst f as ls (DJ pm s ls.length caps):=nr rfl
theorem ACA(f:am)(as cs:List D)(ls lc:List (AO×D))(h:(EN ((ls++lc).map (·.1))&&(ls++lc).all (fun l=>pm.wr (l.1.headD 0))&&(ls++lc).all (fun l=>Yq l.2))=true):
  co2 E pm s dst f as ls (some (cs,lc))=cl2 s dst (ls++lc) (E.call f (as++cs.map (IY f cs)) ((ls++lc).map (·.2))):=by simp only [co2,h,if_true]
def sK(a:D)(l:List (AO×D)):Option (List D×List (AO×D))→Option (List D×List (AO×D))
 |some r=>some (a::r.1,l++r.2)
 |none=>none
theorem ACB(a:D)(l:List (AO×D))(r:List D)(m:List (AO×D)):sK a l (some (r,m))=some (a::r,l++m):=nr rfl
def oa1(pm:Pm)(s:St)(j:Nat)(L:AO)(rest:List D):Option D→Option (List D×List (AO×D))
 |some c=>sK (.vw [G+j] 0 0) [(L,c)] (DJ pm s (j+1) rest)
 |none=>none
theorem ACD(j:Nat)(L:AO)(rest:List D)(c:D):oa1 pm s j L rest (some c)=sK (.vw [G+j] 0 0) [(L,c)] (DJ pm s (j+1) rest):=nr rfl
theorem oaN(j:Nat):DJ pm s j []=some ([],[]):=nr rfl
theorem oaV(j:Nat)(L:AO)(n m:Nat)(rest:List D):DJ pm s j (.vw L n m::rest)=oa1 pm s j L rest (s.look pm L n m):=by
 rw [DJ]
 cases s.look pm L n m with
 |none=>rfl
 |some c=>simp only [oa1];rcases DJ pm s (j+1) rest with _|⟨a,b⟩<;>rfl
theorem oaC(j:Nat)(ys rest:List D):DJ pm s j (.cptr ys::rest)=sK (.cptr ys) [] (DJ pm s j rest):=by
 rw [DJ];rcases DJ pm s j rest with _|⟨a,b⟩<;>rfl
theorem oaU(j:Nat)(rest:List D):DJ pm s j (.undef::rest)=sK .undef [] (DJ pm s j rest):=by
 rw [DJ];rcases DJ pm s j rest with _|⟨a,b⟩<;>rfl
theorem saU(f:am)(cs:List D):IY f cs .undef= .ocl true f cs:=nr rfl
theorem saV(f:am)(cs:List D)(L:AO)(n m:Nat):IY f cs (.vw L n m)= .vw L n m:=nr rfl
theorem saC(f:am)(cs ys:List D):IY f cs (.cptr ys)= .cptr ys:=nr rfl
theorem ACE(args:Array ac)(ts:Array ab)(f':am)(caps:List D)(h:args.size=ts.size):clN E pm s dst args ts (.ocl false f' caps)=Kj E pm s dst f' (args.toList.zip ts.toList) caps:=by simp [clN,h]
def bn1(dflt:Nat):Option D→Option Nat
 |some (.int _ n)=>if 0≤n then some n.toNat else none
 |_=>none
theorem bnN(n:Nat):PX T s n none=some n:=nr rfl
theorem bnS(n:Nat)(x:ac):PX T s n (some x)=bn1 n (ev T s 0 x):=by
 simp only [PX];rcases ev T s 0 x with _|d
 ·rfl
 ·cases d<;>rfl
theorem ACG(n:Nat)(k:IntKind)(i:Int)(h:0≤i):bn1 n (some (.int k i))=some i.toNat:=by simp [bn1,h]
def sl0(T:Tys)(pm:Pm)(s:St)(x:ac)(d:D)(lo hi mx:Option ac):Ty→Option (D×St)
 | .slice e'=>match D8 pm s x d with
  |none=>none
  |some (e,xs,o)=>
   match PX T s 0 lo,PX T s (T.len e xs) hi with
   |some l,some h=>
    if e'=e∧T.known e=true∧l≤h∧h≤T.len e xs then
     if mx.isSome then
      match PX T s 0 mx with
      |some q=>if l=h∧h=q∧hi.isSome=true then some (.own e [],s)else none
      |none=>none
     else match o with
      |none=>some (.sl e ((xs.take (h*T.size e)).drop (l*T.size e)),s)
      |some (L,va,vb)=>
       if pm.wr (L.headD 0)then
        match Dz xs with
        |some ys=>some (.sl e ((ys.take (h*T.size e)).drop (l*T.size e)),s.set L (.sl e ys))
        |none=>none
       else TI L va vb e l h s
    else none
   |_,_=>none
 | .string=>match d with
  | .str b=>match PX T s 0 lo,PX T s b.size hi with
   |some l,some h=>if l≤h∧h≤b.size∧mx.isNone then some (.str (b.extract l h),s)else none
   |_,_=>none
  |_=>none
 |_=>none
theorem slT(x:ac)(d:D)(lo hi mx:Option ac):Ht T pm s t x d lo hi mx=sl0 T pm s x d lo hi mx (T.ty t):=by
 unfold Ht sl0
 cases T.ty t<;>first|rfl|(cases d<;>rfl)
def sl1(T:Tys)(pm:Pm)(s:St)(e:ab)(xs:List D)(o:Option (AO×Nat×Nat)):Option Nat→Option Nat→Option (D×St)
 |some l,some h=>
  if l≤h∧h≤xs.length then
   match o with
   |none=>some (.sl e ((xs.take h).drop l),s)
   |some (L,va,vb)=>
    if pm.wr (L.headD 0)then
     match Dz xs with
     |some ys=>some (.sl e ((ys.take h).drop l),s.set L (.sl e ys))
     |none=>none
    else TI L va vb e l h s
  else none
 |_,_=>none
def sl2(T:Tys)(pm:Pm)(s:St)(e':ab)(lo hi:Option ac):Option (ab×List D×Option (AO×Nat×Nat))→Option (D×St)
 |some (e,xs,o)=>if e'=e∧T.known e=true then sl1 T pm s e xs o (PX T s 0 lo) (PX T s xs.length hi)else none
 |none=>none
theorem ACH(x:ac)(d:D)(lo hi:Option ac)(e:ab)(hz:T.isStruct e=false):sl0 T pm s x d lo hi none (.slice e)=sl2 T pm s e lo hi (D8 pm s x d):=by
 have h1:=Q7 hz;simp only [sl0,sl2,Option.isSome_none,JR,if_false];rcases D8 pm s x d with _|⟨e',xs,o⟩
 ·rfl
 ·simp only;by_cases he:e=e'
  ·subst he;simp only [true_and,h1,NE,Tys.len,if_true]
   cases PX T s 0 lo<;>cases PX T s xs.length hi<;>simp only [sl1]<;>(by_cases hk:T.known e=true<;>simp [hk])
  ·simp only [he,false_and,if_false]
   cases PX T s 0 lo<;>cases PX T s (T.len e' xs) hi<;>rfl
theorem ACI(e:ab)(lo hi:Option ac)(xs:List D)(o:Option (AO×Nat×Nat))(hk:T.known e=true):sl2 T pm s e lo hi (some (e,xs,o))=sl1 T pm s e xs o (PX T s 0 lo) (PX T s xs.length hi):=by simp [sl2,hk]
theorem ACJ(e:ab)(xs:List D)(l h:Nat)(h1:l≤h)(h2:h≤xs.length):sl1 T pm s e xs none (some l) (some h)=some (.sl e ((xs.take h).drop l),s):=by simp [sl1,h1,h2]
def sl3(pm:Pm)(s:St)(e:ab)(L:AO)(a b l h:Nat)(o:Option (List D)):Option (D×St):=
 if pm.wr (L.headD 0)then
  match o with
  |some ys=>some (.sl e ((ys.take h).drop l),s.set L (.sl e ys))
  |none=>none
 else TI L a b e l h s
theorem ACM(e:ab)(xs:List D)(L:AO)(a b l h:Nat)(h1:l≤h)(h2:h≤xs.length):sl1 T pm s e xs (some (L,a,b)) (some l) (some h)=sl3 pm s e L a b l h (Dz xs):=by
 simp only [sl1,h1,h2,and_self,if_true];rfl
theorem ACN(e:ab)(L:AO)(a b l h:Nat)(o:Option (List D))(hw:pm.wr (L.headD 0)=false):sl3 pm s e L a b l h o=some (.vs e L a b l (h-l),s):=by simp only [sl3];rw [if_neg (by rw [hw];decide)];rfl
def ca0(f:am):Option (List D×List (AO×D))→Option (D×List (AO×D))
 |some r=>some (.clo f r.1,r.2)
 |none=>none
theorem ACP(f:am)(cs:List D)(ls:List (AO×D)):ca0 f (some (cs,ls))=some (.clo f cs,ls):=nr rfl
def ca2(pm:Pm)(s:St)(L:AO)(c:D)(rest:List D):Option D→Option (List D×List (AO×D))
 |some c'=>sK c' [(L,c)] (Kg pm s rest)
 |none=>none
theorem ACQ(L:AO)(c:D)(rest:List D)(c':D):ca2 pm s L c rest (some c')=sK c' [(L,c)] (Kg pm s rest):=nr rfl
def ca1(pm:Pm)(s:St)(L:AO)(rest:List D):Option D→Option (List D×List (AO×D))
 |some c=>ca2 pm s L c rest (Dj c)
 |none=>none
theorem ACS(L:AO)(rest:List D)(c:D):ca1 pm s L rest (some c)=ca2 pm s L c rest (Dj c):=nr rfl
theorem caN:Kg pm s []=some ([],[]):=nr rfl
theorem caV(L:AO)(n m:Nat)(rest:List D):Kg pm s (.vw L n m::rest)=ca1 pm s L rest (s.look pm L n m):=by
 rw [Kg]
 cases s.look pm L n m with
 |none=>rfl
 |some c=>
  simp only [ca1,ca2]
  cases Dj c with
  |none=>rfl
  |some c'=>simp only [Dh];rcases Kg pm s rest with _|⟨a,b⟩<;>rfl
theorem caC(ys rest:List D):Kg pm s (.cptr ys::rest)=sK (.cptr ys) [] (Kg pm s rest):=by
 rw [Kg];rcases Kg pm s rest with _|⟨a,b⟩<;>rfl
theorem A5D(T:Tys)(L0:AO)(j:Nat)(f:am)(caps:List D):Kh T false pm s j L0 (.ocl false f caps)=ca0 f (Kg pm s caps):=by
 show(if(false||false)=true then none else(Kg pm s caps).map fun r=>(D.clo f r.1,r.2))=_
 rw [if_neg (by decide)]
 unfold ca0;rcases Kg pm s caps with _|⟨a,b⟩<;>rfl
def va1(T:Tys)(e:ab)(L:AO)(lo len:Nat):Option D→Option (D×List (AO×D))
 |some (.own e' xs)=>
  if e'=e∧T.known e=true∧(lo+len)*T.size e≤xs.length then
   (Dz xs).map fun ys=>(.sl e ((ys.drop (lo*T.size e)).take (len*T.size e)),[(L,.own e' xs)])
  else none
 |_=>none
theorem ACT(e:ab)(L L0:AO)(n m lo len j:Nat):Kh T false pm s j L0 (.vs e L n m lo len)=va1 T e L lo len (s.look pm L n m):=by
 show WW T pm s e L n m lo len=_
 unfold WW va1;rcases s.look pm L n m with _|d
 ·rfl
 ·cases d<;>rfl
theorem A5E(x y:Tmp)(t':ab):Lh E pm s dst (.call ⟨.builtin .copy, #[.tmp x,.tmp y], #[t,t']⟩) ty=Xu dst (MN E.T pm s t (.tmp x) (.tmp y) (s.v x) (s.v y)):=M7 dst _
def qI(T:Tys)(pm:Pm)(s:St)(t:ab):Option (ab×AO×List D×Nat×Nat)→Option (ab×List D)→Option (D×St)
 |some (e,L,xs,lo,len),some (e',ys)=>
  if T.isSl t e&&(e==e')&&T.known e&&(T.size e==1)&& !Ae xs&& !Ae ys&&ys.all DC&&pm.wr (L.headD 0)then
   some (.int .i64 (min len ys.length:Nat),s.set L (.own e (CV xs lo (ys.take (min len ys.length)))))
  else none
 |_,_=>none
theorem ACU(x y:ac)(a b:D):MN T pm s t x y a b=qI T pm s t (TJ pm s x a) (Va pm s y b):=by
 unfold MN qI;rcases TJ pm s x a with _|⟨_,_,_,_,_⟩<;>rcases Va pm s y b with _|⟨_,_⟩<;>rfl
theorem ACV(e:ab)(L:AO)(xs ys:List D)(lo len:Nat)(h1:T.isSl t e=true)(h2:T.known e=true)(h3:T.size e=1)(h4:Ae xs=false)(h5:Ae ys=false)(h6:ys.all DC=true)(h7:pm.wr (L.headD 0)=true):
  qI T pm s t (some (e,L,xs,lo,len)) (some (e,ys))=some (.int .i64 (min len ys.length:Nat),s.set L (.own e (CV xs lo (ys.take (min len ys.length))))):=by
 unfold qI;dsimp only;rw [if_pos (by rw [h1,h2,h3,h4,h5,h6,h7];simp)]
def A13(e:ab):Ty→Bool
 | .slice e'=>e'==e
 |_=>false
theorem ACW(e:ab):T.isSl t e=A13 e (T.ty t):=by unfold Tys.isSl A13;cases T.ty t<;>rfl
theorem ACX(e e':ab):A13 e (.slice e')=(e'==e):=nr rfl
def dv0:Option (ab×List D×Option (AO×Nat×Nat))→Option (ab×AO×List D×Nat×Nat)
 |some (e,xs,some (L,_,_))=>some (e,L,xs,0,xs.length)
 |_=>none
theorem ACY(e:ab)(xs:List D)(L:AO)(a b:Nat):dv0 (some (e,xs,some (L,a,b)))=some (e,L,xs,0,xs.length):=nr rfl
theorem dvW(x:ac)(L:AO)(n m:Nat):TJ pm s x (.vw L n m)=dv0 (D8 pm s x (.vw L n m)):=by
 show(match D8 pm s x (.vw L n m)with|some (e,xs,some (L,_,_))=>some (e,L,xs,0,xs.length)|_=>none)=_
 rcases D8 pm s x (.vw L n m)with _|⟨_,_,_|⟨_,_,_⟩⟩<;>rfl
def dv1(e:ab)(L:AO)(lo len:Nat):Option D→Option (ab×AO×List D×Nat×Nat)
 |some (.own e' xs)=>if e'=e∧lo+len≤xs.length then some (e,L,xs,lo,len)else none
 |_=>none
theorem dvS(x:ac)(e:ab)(L:AO)(n m lo len:Nat):TJ pm s x (.vs e L n m lo len)=dv1 e L lo len (s.look pm L n m):=by
 show(match s.look pm L n m with|some (.own e' xs)=>if e'=e∧lo+len≤xs.length then some (e,L,xs,lo,len)else none|_=>none)=_
 rcases s.look pm L n m with _|d
 ·rfl
 ·cases d<;>rfl
theorem ACa(e:ab)(L:AO)(lo len:Nat)(xs:List D)(h:lo+len≤xs.length):dv1 e L lo len (some (.own e xs))=some (e,L,xs,lo,len):=by simp [dv1,h]
theorem svL(x:ac)(e:ab)(xs:List D):Va pm s x (.sl e xs)=some (e,xs):=nr rfl
def sv1(e:ab)(lo len:Nat):Option D→Option (ab×List D)
 |some (.own e' xs)=>if e'=e∧lo+len≤xs.length then some (e,(xs.drop lo).take len)else none
 |_=>none
theorem svS(x:ac)(e:ab)(L:AO)(n m lo len:Nat):Va pm s x (.vs e L n m lo len)=sv1 e lo len (s.look pm L n m):=by
 show(match s.look pm L n m with|some (.own e' xs)=>if e'=e∧lo+len≤xs.length then some (e,(xs.drop lo).take len)else none|_=>none)=_
 rcases s.look pm L n m with _|d
 ·rfl
 ·cases d<;>rfl
theorem ACc(e:ab)(lo len:Nat)(xs:List D)(h:lo+len≤xs.length):sv1 e lo len (some (.own e xs))=some (e,(xs.drop lo).take len):=by simp [sv1,h]
end
theorem dO{P:Program}{T:Tys}{f:am}{e:ab}{r:D}{outs:List D}(hk:T.known e=true)(h: ∀A c,Good P T f [.konst (.slice A 0 c)] [] r outs):Good P T f [.sl e []] [] r outs:=by
 refine⟨(h none 0).1,fun vs gh w S FL hsz hA hL hL0 hLd hlt=> ?_⟩
 obtain⟨v,hv,hW⟩:=hA 0 _ rfl
 obtain⟨A,c,rfl⟩: ∃A c,v= .slice A 0 c:=by
  cases hW with
  |sl us hE hn hc hm hx hw=>
   rename_i A n c
   have hp:=Zh hk
   have:n=0:=by
    simp only [Oy]at hn;rcases Nat.mul_eq_zero.1 hn.symm with h0|h0
    ·exact h0
    ·omega
   subst this
   exact⟨_,_,rfl⟩
 refine(h A c).2 vs gh w S FL hsz (fun i d hi=> ?_) hL hL0 hLd hlt
 cases i with
 |zero=>simp at hi;subst hi;exact⟨_,hv,.konst (fun _ h=>h)⟩
 |succ i=>simp at hi
end Dv
namespace Dv
open Go
set_option maxRecDepth 10000
set_option linter.defProp false
theorem geq:G=100000:=nr rfl
def AQ:=A7 (A7 @A9d (A7 @A30 @AA6)) (A7 @A5E (A7 @A9W (A7 @A9X (A7 @A00 (A7 @ABg (A7 @yMf (A7 @A10 (A7 @A9g (A7 @A34 (A7 @A9e (A7 @A0A (A7 @A35 (A7 @A38 (A7 @A0B (A7 @A2u (A7 @A2v (A7 @A9a (A7 @A0C (A7 @A0D (A7 @A0E (A7 @A9i (A7 @A9j (A7 @A9k (A7 @A39 (A7 @dI (A7 @Zk (A7 @A3X (A7 @pu (A7 @lX (A7 @A0K (A7 @A3Y (A7 @yUn (A7 @A0L (A7 @AA5 (A7 @lY (A7 @A0M (A7 @pz (A7 @A0N (A7 @A3b (A7 @lZ (A7 @A3d (A7 @lM (A7 @j5 (A7 @j4 (A7 @yBs (@Xw))))))))))))))))))))))))))))))))))))))))))))))
def ll:=A7 (A7 (A7 @A9m (A7 @A09 (A7 @A08 (A7 @loS (A7 @A31 (A7 @A32 @A33)))))) (A7 @fnI (A7 @A2w (A7 @A2x (A7 @A2y (A7 @A2z (A7 @A9b (A7 @A9c (A7 @ABV (A7 @yBv (A7 @ABW (A7 @fvN (A7 @fvC (A7 @ABY (A7 @ABZ (A7 @ABa (A7 @A4x (A7 @ABb (A7 @A0u (A7 @A50 (A7 @A51 (A7 @ySk (A7 @ABc (@ABd)))))))))))))))))))))))) (A7 @AAC (A7 @AAD (A7 @AAK (A7 @A0W (A7 @faE (A7 @foN (A7 (A7 @fnO @fnA) (A7 @AC0 (A7 @cvE (A7 @AC1 (A7 @AC2 (A7 @umN (A7 @umC (A7 @ceN (A7 @ceT (A7 @AC4 (A7 @AC5 (A7 @AC6 (A7 @AC7 (A7 @utV (A7 @utC (A7 @ldO (A7 @coE (A7 @AC9 (A7 @ACA (A7 @ACB (A7 @ACD (A7 @oaN (A7 @oaV (A7 @oaC (A7 @oaU (A7 @saU (A7 @saV (A7 @saC (A7 @ACE (A7 @AA2 (A7 @AA3 (A7 @AA4 (A7 @A0V (A7 @AAd (A7 @AAe (A7 @A3m (A7 @A3n (A7 @A3o (A7 @A3p (A7 @ACN (A7 (A7 @ACT (A7 @A5D (A7 @ACP (A7 @ACS (A7 @ACQ (A7 @caN (A7 @caV @caC))))))) (A7 @A4M (A7 @AAw (A7 @A4N (A7 @axK (A7 @A4O (A7 @AAx (A7 @A4P (A7 @ACU (A7 @ACV (A7 @ACW (A7 @ACX (A7 @ACY (A7 @dvW (A7 @dvS (A7 @ACa (A7 @svL (A7 @svS (A7 @ACc (A7 @A9q (A7 @A9r (A7 @A9s (A7 @A3K (A7 @A3L (A7 @A4m (A7 @A0k (A7 @A4n (A7 @A4o (A7 @A4p (A7 @ABL (A7 @bkK (A7 @A53 (A7 (A7 @A0y @ABh) (A7 @A54 (A7 @A2j (A7 @A9Y (A7 @A9Z (A7 @ndK (A7 @AA7 (A7 @A3Z (A7 @apK (A7 @A4J (A7 @AAp (A7 @AAq (A7 @A4Y (A7 @dl2 (A7 @dl1 (A7 @A58 (A7 @ABp (A7 @ABq (A7 @ABi (A7 @A55 (A7 @ABj (A7 (A7 @ABk (A7 @ABl @ABm)) (A7 @rg4 (A7 @A56 (A7 @ABn (A7 @A57 (A7 @ABo (A7 @noA (A7 @ABr (A7 @ABs (A7 @A0z (A7 @ABt (A7 @A59 (A7 @A5A (A7 @ABw (A7 @ABx (A7 @ABy (A7 @ABz (A7 @bnN (A7 @bnS (A7 @ACG (A7 @slT (A7 @ACH (A7 @ACI (A7 @ACJ (A7 @ACM (A7 @A4q (A7 @bkT (A7 @bkF (A7 @bkL (A7 @A4r (A7 @A0l (A7 @ipC (A7 @ipN (A7 @ieC (A7 @fiA (A7 @fiB (A7 @A0h (A7 @A0i (A7 @AAf (A7 @AAg (A7 @AAh (A7 @bxA (A7 @AAj (A7 @hdC (A7 @AAu (A7 @AAv (A7 @mvT (A7 @A0n (A7 @qF (A7 @A4t (A7 @A0o (A7 @lh (A7 @A0p (A7 @ABO (A7 @A0q (A7 @A4u (A7 @ABP (A7 @ABQ (A7 @ABR (A7 @ABS (A7 @A0r (A7 @pmR (A7 @pmW (A7 @A9f (A7 @A36 (A7 @A9h (A7 @A9T (A7 @A9U (A7 @A9V (A7 @ABT (A7 (A7 @ABe @yMk) (A7 (A7 @A52 @ABf) (A7 @A4w (A7 @A01 (A7 @A02 (A7 @pV (A7 @A03 (A7 @A3A (A7 @A0F (A7 @A9l (A7 @pq (A7 @A3B (A7 @A9n (A7 @A3C (A7 @A3D (A7 @A3E (A7 @A0G (A7 @A0H (A7 @A3F (A7 @A3G (A7 @A0I (A7 @A9o (A7 @A3H (A7 @A3I (A7 @A3J (A7 @A3M (A7 @pkB (A7 @pkT (A7 @pkF (A7 @A2g (A7 @A2h (A7 @A2i (A7 @AA8 (A7 @AA9 (A7 @AAB (A7 @A3N (A7 @A3O (A7 @A3P (A7 @A3Q (A7 @A3R (A7 @A3S (A7 @A9t (A7 @A3T (A7 @A3U (A7 @A9u (A7 @A9v (A7 @A9w (A7 @A9x (A7 @A9y (A7 @A9z (A7 @A3V (A7 @A3W (A7 @boI (A7 @boB (A7 @ldC (A7 @AAE (A7 @ldP (A7 @ldB (A7 @AAF (A7 @ldV (A7 @A3e (A7 @A3g (A7 @A0O (A7 @A0P (A7 @A3h (A7 @AAG (A7 @A3i (A7 @AAH (A7 @A3k (A7 @A3l (A7 @lnT (A7 @AAL (A7 @A3q (A7 @ixT (A7 @AAN (A7 @AAP (A7 @A3r (A7 @A3w (A7 @A0S (A7 @AAT (A7 @A3x (A7 @A3y (A7 @AAU (A7 @A3z (A7 @A3s (A7 @A3t (A7 @AAQ (A7 @AAR (A7 @AAS (A7 @A0R (A7 @qB (A7 @A0T (A7 @fF (A7 @hoI (A7 @hoB (A7 @AAV (A7 @A40 (A7 @A41 (A7 @AAW (A7 @A42 (A7 @A43 (A7 @AAY (A7 @A44 (A7 @AAZ (A7 @AAa (A7 @A45 (A7 @A46 (A7 @A47 (A7 @A48 (A7 @A49 (A7 @A4A (A7 @A0U (A7 @AAk (A7 @A4B (A7 @A4C (A7 @A4D (A7 @A4E (A7 @A4F (A7 @AAl (A7 @A4G (A7 @ceS (A7 (A7 @A0X @AAm) (A7 @AAn (A7 @AAs (A7 @AAt (A7 @A0Y (A7 @A0Z (A7 @A4K (A7 @A4L (A7 @arC (A7 @arF (A7 @aCS (A7 @A4Q (A7 @AAy (A7 @A4R (A7 @atK (A7 @A4S (A7 @AB2 (A7 @A4T (A7 @A4U (A7 @AAz (A7 @AB1 (A7 @AB3 (A7 @AB4 (A7 @A0a (A7 @A4V (A7 @A0b (A7 @A4W (A7 @AB5 (A7 @A4X (A7 @AB6 (A7 @cdB (A7 @AB7 (A7 @AB8 (A7 @AB9 (A7 @cdL (A7 @ABA (A7 @ABB (A7 @A4Z (A7 @A0d (A7 @A4a (A7 @A4b (A7 @A4c (A7 @A0e (A7 @qD (A7 @A4d (A7 @A0f (A7 @ABC (A7 @A4e (A7 @ABD (A7 @sI (A7 @A4g (A7 @A4h (A7 @A4i (A7 @A0g (A7 @ABE (A7 @fG (A7 @ABF (A7 @fiD (A7 @fi0 (A7 @re1 (A7 @re2 (A7 @ABG (A7 @A4j (A7 @A4k (A7 @ABH (A7 @A0j (A7 @ABJ (A7 @ABK (A7 @A4l (A7 @A4s (A7 @A0m (A7 @ABN (A7 @A2k (A7 @A2n (A7 @A04 (A7 @A2q (A7 @A2l (A7 @A2o (A7 @A05 (A7 @A2r (A7 @A2m (A7 @A2p (A7 @A06 (A7 @A2s (A7 @jA (A7 @A2t (A7 @jB (A7 @lU (A7 @pW (A7 @pX (A7 @pY (A7 @geq (A7 @Int.toNat_natCast (A7 @Int.toNat_zero (A7 @Int.natCast_nonneg (A7 @Nat.zero_le (A7 @Int.le_refl (A7 @Nat.le_refl (A7 @Bool.and_true (A7 @Bool.true_and (A7 @Bool.and_false (A7 @Bool.false_and (A7 @Bool.or_false (A7 @Bool.false_or (A7 @Bool.or_true (A7 @Bool.true_or (A7 @Bool.not_true (A7 @Bool.not_false (A7 @Bool.false_eq_true (A7 @decide_true (A7 @decide_false (A7 @and_self (A7 @and_true (@true_and))))))))))))))))))))))))))))))))))))))))))))))))))))))))))))))))))))))))))))))))))))))))))))))))))))))))))))))))))))))))))))))))))))))))))))))))))))))))))))))))))))))))))))))))))))))))))))))))))))))))))))))))))))))))))))))))))))))))))))))))))))))))))))))))))))))))))))))))))))))))))))))))))))))))))))))))))))))))))))))))))))))))))))))))))))))))))))))))))))))))))))))))))))))))))))))))))))))))))))))))))))
end Dv
