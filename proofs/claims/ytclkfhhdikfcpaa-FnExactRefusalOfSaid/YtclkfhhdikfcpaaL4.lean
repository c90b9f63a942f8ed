/- Value semantics for Go code, part 4: arguments of laws, slim code and rules. Conditions: none beyond those in each lemma. -/
import Derived.Test.YtclkfhhdikfcpaaL3
import Derived.WalkKit
import Derived.ProofKit
import Derived.OpenShut
import Derived.ShutString
import Derived.ChangeOld
import Derived.Below
import Derived.Carry
import Derived.IntWalk
open Go renaming TypeId → ab,Operand → ac,FuncId → am
open List renaming range → an,replicate → ao,getElem?_eq_none → be
open Option.some renaming injEq → al
set_option linter.unusedSimpArgs false
set_option linter.unusedVariables false
namespace Dv
open Go
inductive Shp(T:Tys):ab→List D→Prop
 |int {t k n} (ht:T.ty t= .int k) (hw:(Lit.int k n).wf=true):Shp T t [.int k n]
 |bool {t b} (ht:T.ty t= .bool):Shp T t [.bool b]
 |string {t s} (ht:T.ty t= .string) (hs:s.size≤maxLen):Shp T t [.str s]
 |slice {t e} {xss:List (List D)} (ht:T.ty t= .slice e) (hx: ∀xs,xs∈xss→Shp T e xs) (hl:xss.length≤maxLen):Shp T t [.sl e xss.flatten]
 |struct {t fs} {ds:List D} (ht:T.ty t= .struct fs) (hl:ds.length=fs.length) (hx: ∀(i:Nat) (f:ab) (d:D),fs[i]? =some f→ds[i]? =some d→Shp T f [d]):Shp T t ds
def Pv(T:Tys):Nat→ab→Bool
 |0,_=>false
 |n+1,t=>match T.ty t with
  | .int _=>true
  | .bool=>true
  | .string=>true
  | .slice e=>T.known e&&Pv T n e
  | .struct fs=>(T.nest t).isNone&& !fs.isEmpty&&fs.all (Pv T n)
  |_=>false
theorem Shp.length{T:Tys}{t:ab}{ds:List D}(h:Shp T t ds):ds.length=T.size t:=by
 cases h with
 |int ht=>simp [Tys.size,ht,Ty.size]
 |bool ht=>simp [Tys.size,ht,Ty.size]
 |string ht=>simp [Tys.size,ht,Ty.size]
 |slice ht=>simp [Tys.size,ht,Ty.size]
 |struct ht hl=>simp [Tys.size,ht,Ty.size,hl]
theorem Zf{α:Type}{n:Nat}(hn:0<n): ∀(xss:List (List α)),(∀xs∈xss,xs.length=n)→ ∀k:Nat,xss.flatten[k]? =(xss[k / n]?).bind fun xs=>xs[k % n]? :=by
 intro xss
 induction xss with
 |nil=>intro _ k;simp
 |cons xs xss ih=>
  intro h k;have hx:=h xs (Kq);rw [bC];rcases Nat.lt_or_ge k n with hk|hk
  ·rw [OI (by omega),Nat.div_eq_of_lt hk,Nat.mod_eq_of_lt hk];rfl
  ·rw [NJ (by omega),ih (fun ys hy=>h ys (JJ _ hy)),hx]
   have h1:k / n=(k-n) / n+1:=by
    rw [Nat.div_eq_sub_div hn hk]
   have h2:k % n=(k-n) % n:=by rw [Nat.mod_eq_sub_mod hk]
   rw [h1,h2];rfl
theorem UB{α:Type}{n:Nat}: ∀(xss:List (List α)),(∀xs∈xss,xs.length=n)→xss.flatten.length=xss.length*n:=by
 intro xss
 induction xss with
 |nil=>intro _;simp
 |cons xs xss ih=>
  intro h;rw [bC,OL,ih (fun ys hy=>h ys (JJ _ hy)),h xs (Kq),ND,Nat.add_mul];omega
abbrev fw(w:World):Nat→Prop:=fun k=>k<w.heap.size
section
variable {P:Program} {T:Tys} {H:Type} {enc:ab×Value→H} {w:World} {spare:Nat→Bool} {Mc:Bool}
theorem BR.cells(h:BR P T){t:ab}(hk:T.known t=true):P.cellsOf t=T.size t:=by
 obtain⟨i,h1,h2,_⟩:=h.info hk;simp [Program.cellsOf,h1,h2]
theorem dE{n:Nat}{t:ab}(h:Pv T n t=true):T.known t=true:=by
 cases n with
 |zero=>cases h
 |succ n=>
  unfold Pv at h;unfold Tys.known
  cases ht:T.ty t with
  |struct fs=>
   rw [ht]at h
   cases fs with
   |nil=>simp at h
   |cons=>rfl
  |other=>rw [ht]at h;cases h
  |map=>rw [ht]at h;cases h
  |arr=>rw [ht]at h;cases h
  |_=>rfl
theorem Zg{t:ab}(hk:T.known t=true):0<T.size t:=by
 unfold Tys.known at hk;unfold Tys.size
 cases ht:T.ty t with
 |struct fs=>
  rw [ht]at hk
  cases fs with
  |nil=>cases hk
  |cons=>simp [Ty.size]
 |arr n e=>
  rw [ht]at hk
  cases n with
  |zero=>cases hk
  |succ=>simp [Ty.size]
 |_=>simp [Ty.size]
theorem dF{base:Nat}{a:Addr}{n:Nat}{cs:List Value}(h:w.cells? base a n=some cs):cs.length=n∧ ∀i,i<n→w.cell? (a.add i)=cs[i]? :=by
 unfold World.cells? at h
 split at h
 ·exact⟨by simpa using mapM_some_length h,fun i hi=>by have:=mapM_some_get h i i (by simp [hi]);simpa using this⟩
 ·cases h
theorem rT{ad:Addr}{v:Value}(h:w.cell? ad=some v):ad.block<w.heap.size:=by
 rcases Nat.lt_or_ge ad.block w.heap.size with hl|hl
 ·exact hl
 ·have h1:=VW hl;simp [World.cell?,h1]at h
theorem mY(hT:BR P T): ∀(fuel:Nat) (n:Nat) (t:ab) (cs:List Value) (x:DataW H×List MemPlace),Pv T n t=true→DataW.trod enc P w 0 spare Mc fuel t cs=some x→
  ∃ds,Shp T t ds∧cs.length=ds.length∧ ∀(i:Nat) (d:D),ds[i]? =some d→ ∃v,cs[i]? =some v∧W T (fw w) w V0 Hl d v (fun _=>False):=by
 have hE:Em (fun _:Nat=>False):=fun _ h=>h
 have one: ∀(d0:D) (v0:Value),W T (fw w) w V0 Hl d0 v0 (fun _=>False)→ ∀(i:Nat) (d:D),[d0][i]? =some d→ ∃v,[v0][i]? =some v∧W T (fw w) w V0 Hl d v (fun _=>False):=by
  intro d0 v0 h i d hi
  cases i with
  |zero=>simp at hi;subst hi;exact⟨v0,rfl,h⟩
  |succ i=>simp at hi
 intro fuel
 induction fuel with
 |zero=>intro n t cs x _ h;simp [DataW.trod]at h
 |succ fuel ih=>
  intro n t cs x hd h;have hk:=dE hd;have h0:=(hT t).1;unfold Eo at h0
  cases n with
  |zero=>cases hd
  |succ n=>
   unfold Pv at hd
   cases ht:T.ty t<;>rw [ht]at h0 hd<;>simp only at h0 hd
   case int k=>
    obtain⟨m,rfl,_,hw⟩:=DataW.trod_int h0.1 h
    exact⟨[.int k m],.int ht hw,rfl,one _ _ (.int hE)⟩
   case bool=>
    obtain⟨b,rfl,_⟩:=DataW.trod_bool h0.1 h
    exact⟨[.bool b],.bool ht,rfl,one _ _ (.bool hE)⟩
   case string=>
    obtain⟨s,rfl,_,hs⟩:=DataW.trod_string h0.1 h
    exact⟨[.str s],.string ht hs,rfl,one _ _ (.str hE)⟩
   case slice e=>
    simp only [FU]at hd;have hc:=hT.cells hd.1;have hpos:=Zg hd.1;rcases DataW.trod_slice h0.1 h with⟨rfl,_⟩|⟨a,len,cap,elems,rest,m,hm,rfl,_,_,hl,hcap,hlen,hel,_,_⟩
    ·exact⟨[.sl e ([]:List (List D)).flatten],.slice ht (by simp) (by simp [maxLen]),rfl,one _ _ (.sl (fun _=>undef) hE (by simp) (Hm _) (by simp [maxLen]) (by simp) (by simp))⟩
    ·injection hm with hm
     subst hm
     have hex: ∀i,i<len→ ∃ds,Shp T e ds∧ ∀(j:Nat) (d:D),ds[j]? =some d→ ∃v,w.cell? (a.add (i*T.size e+j))=some v∧W T (fw w) w V0 Hl d v (fun _=>False):=by
      intro i hi;have h1:=hel i hi;rw [Gl (by omega),Gg]at h1
      obtain⟨cs',h2,h3⟩:=h1;obtain⟨ds,q1,q2,q3⟩:=ih n e cs' _ hd.2 h3
      refine⟨ds,q1,fun j d hj=> ?_⟩
      obtain⟨v,hv,hW⟩:=q3 j d hj;obtain⟨c1,c2⟩:=dF h2;rw [hc]at c1 c2;have hj':j<T.size e:=by rw [←c1];exact(Du.1 hv).1
      have h4:=c2 j hj';rw [Iy]at h4
      exact⟨v,by rw [h4,hv],hW⟩
     let ch:Nat→List D:=fun i=>if h:i<len then(hex i h).choose else []
     have hch: ∀i,i<len→Shp T e (ch i)∧ ∀(j:Nat) (d:D),(ch i)[j]? =some d→ ∃v,w.cell? (a.add (i*T.size e+j))=some v∧W T (fw w) w V0 Hl d v (fun _=>False):=by
      intro i hi;have:=(hex i hi).choose_spec
      simp only [ch,hi,dif_pos];exact this
     have hall: ∀xs∈(an len).map ch,xs.length=T.size e:=by
      intro xs hxs;obtain⟨i,hi,rfl⟩:=Gp.1 hxs
      exact(hch i (Oj.1 hi)).1.length
     refine⟨[.sl e ((an len).map ch).flatten],.slice ht (fun xs hxs=> ?_) (by simp;omega),rfl,one _ _ ?_⟩
     ·obtain⟨i,hi,rfl⟩:=Gp.1 hxs
      exact(hch i (Oj.1 hi)).1
     ·have key: ∀(i:Nat) (x:D),((an len).map ch).flatten[i]? =some x→ ∃v,w.cell? (a.add i)=some v∧W T (fw w) w V0 Hl x v (fun _=>False):=by
       intro i x hi;rw [Zf hpos _ hall,Gg]at hi;obtain⟨xs,h1,h2⟩:=hi;rw [NC,CE]at h1;obtain⟨q,hq,rfl⟩:=h1;obtain⟨hq1,hq2⟩:=Du.1 hq;simp only [Yj]at hq2;subst hq2;obtain⟨v,hv,hW⟩:=(hch _ (by simpa using hq1)).2 _ x h2
       rw [show i / T.size e*T.size e+i % T.size e=i by rw [Nat.mul_comm];exact Nat.div_add_mod i (T.size e)]at hv
       exact⟨v,hv,hW⟩
      refine .sl (fun i=>(w.cell? (a.add i)).getD undef) hE (by rw [UB _ hall];simp) hl hcap (fun i x hi=> ?_) (fun i x hi=> ?_)
      ·obtain⟨v,hv,_⟩:=key i x hi
       exact⟨a,rfl,by have:=rT hv;rw [KJ]at this;exact this,by rw [hv];rfl⟩
      ·obtain⟨v,hv,hW⟩:=key i x hi;simp only [hv,Yl];exact hW
   case struct fs=>
    simp only [FU,Jt,iT]at hd;obtain⟨⟨fields,hu,hfx⟩,hinfo⟩:=h0;rw [hd.1.1]at hfx;obtain⟨hfl,hfi⟩:=hfx;obtain⟨xs,m,hm,_,hcl,hxl,hx⟩:=DataW.trod_struct hu h
    injection hm with hm
    subst hm;rw [hT.cells hk]at hcl;have hsz:T.size t=fs.length:=by simp [Tys.size,ht,Ty.size]
    have hex: ∀i,i<fs.length→ ∃d f,fs[i]? =some f∧Shp T f [d]∧ ∃v,cs[i]? =some v∧W T (fw w) w V0 Hl d v (fun _=>False):=by
     intro i hi;have hif:i<fields.size:=by omega
     obtain⟨f1,f2,f3,f4⟩:=hfi i _ (JX hif);have h1:=hx i _ (JX hif)
     have hs1:T.size fields[i].type=1:=by
      unfold Tys.isStruct at f4;unfold Tys.size
      cases hty:T.ty fields[i].type<;>simp_all [Ty.isStruct,Ty.size]
     rw [f1,hT.cells f3,hs1,Gl (by omega)]at h1
     obtain⟨ds,q1,q2,q3⟩:=ih n _ _ _ (hd.2 _ (VX f2)) h1;have hl1:ds.length=1:=by rw [q1.length,hs1]
     obtain⟨d,rfl⟩:=List.length_eq_one_iff.1 hl1;obtain⟨v,hv,hW⟩:=q3 0 d rfl
     refine⟨d,_,f2,q1,v, ?_,hW⟩
     rw [List.getElem?_take]at hv;simp only [Nat.zero_lt_one,if_true,NB,Nat.add_zero]at hv;exact hv
    let ch:Nat→D:=fun i=>if h:i<fs.length then(hex i h).choose else .undef
    have hch: ∀i,i<fs.length→ ∃f,fs[i]? =some f∧Shp T f [ch i]∧ ∃v,cs[i]? =some v∧W T (fw w) w V0 Hl (ch i) v (fun _=>False):=by
     intro i hi;have:=(hex i hi).choose_spec
     simp only [ch,hi,dif_pos];exact this
    have hget: ∀(i:Nat) (d:D),((an fs.length).map ch)[i]? =some d→i<fs.length∧d=ch i:=by
     intro i d hi;rw [NC,CE]at hi;obtain⟨q,hq,rfl⟩:=hi;obtain⟨hq1,hq2⟩:=Du.1 hq;simp only [Yj]at hq2;subst hq2
     exact⟨by simpa using hq1,rfl⟩
    refine⟨(an fs.length).map ch,.struct ht (by simp) (fun i f d hf hi=> ?_),by simp;omega,fun i d hi=> ?_⟩
    ·obtain⟨h1,rfl⟩:=hget i d hi;obtain⟨f',hf',hs,_⟩:=hch i h1;rw [hf]at hf';injection hf' with hf';subst hf';exact hs
    ·obtain⟨h1,rfl⟩:=hget i d hi;obtain⟨f',hf',hs,v,hv,hW⟩:=hch i h1
     exact⟨v,hv,hW⟩
   all_goals (cases hd)
def top(T:Tys)(t:ab)(ds:List D):D:=if T.isStruct t then .agg ds else ds.headD .undef
def Arg(T:Tys)(t:ab)(d:D):Prop:= ∃ds,Shp T t ds∧d=top T t ds
theorem A44(hT:BR P T){r:Reach}{base n:Nat}{t:ab}{v:Value}{d0:DataW H}{ps:List MemPlace}(hd:Pv T n t=true)(hv:Value.okWide P w r base t v)(h:DataW.Trod enc P w 0 spare Mc t v d0 ps):
  ∃d,Arg T t d∧W T (fw w) w V0 Hl d v (fun _=>False):=by
 obtain⟨fuel,hf⟩:=h;obtain⟨ds,q1,q2,q3⟩:=mY hT fuel n t _ _ hd hf;have hfact:=(hT t).1;unfold Eo at hfact
 have flat:T.isStruct t=false→v.cells.toList=[v]→ ∃d,Arg T t d∧W T (fw w) w V0 Hl d v (fun _=>False):=by
  intro hs hc;have hl:ds.length=1:=by rw [←q2,hc];rfl
  obtain⟨d,rfl⟩:=List.length_eq_one_iff.1 hl;obtain⟨v',hv',hW⟩:=q3 0 d rfl;rw [hc]at hv';simp only [OJ,al]at hv';subst hv'
  exact⟨d,⟨[d],q1,by simp [top,hs]⟩,hW⟩
 cases n with
 |zero=>cases hd
 |succ n=>
  unfold Pv at hd
  cases ht:T.ty t<;>rw [ht]at hfact hd<;>simp only at hfact hd
  case int k=>
   refine flat (by simp [Tys.isStruct,ht,Ty.isStruct]) ?_
   simp only [Value.okWide,hfact.1,Cell.okWide]at hv
   cases v<;>simp_all [Cell.ok,Value.cells]
  case bool=>
   refine flat (by simp [Tys.isStruct,ht,Ty.isStruct]) ?_
   simp only [Value.okWide,hfact.1,Cell.okWide]at hv
   cases v<;>simp_all [Cell.ok,Value.cells]
  case string=>
   refine flat (by simp [Tys.isStruct,ht,Ty.isStruct]) ?_
   simp only [Value.okWide,hfact.1,Cell.okWide]at hv
   cases v<;>simp_all [Cell.ok,Value.cells]
  case slice e=>
   refine flat (by simp [Tys.isStruct,ht,Ty.isStruct]) ?_
   simp only [Value.okWide,hfact.1,Cell.okWide]at hv
   cases v<;>simp_all [Cell.ok,Value.cells]
  case struct fs=>
   obtain⟨⟨fields,hu,_⟩,_⟩:=hfact;obtain⟨cs,rfl,hcs⟩:=WideShapes.okWide_struct hu hv
   have hval: ∀(i:Nat) (d:D),ds[i]? =some d→cs[i]? =some (cs.getD i undef)∧W T (fw w) w V0 Hl d (cs.getD i undef) (fun _=>False):=by
    intro i d hi;obtain⟨v,hv',hW⟩:=q3 i d hi;have:cs[i]? =some v:=by simpa [Value.cells] using hv'
    rw [Ld,this];exact⟨rfl,hW⟩
   refine⟨.agg ds,⟨ds,q1,by simp [top,Tys.isStruct,ht,Ty.isStruct]⟩,.agg (fun i=>cs.getD i undef) (fun _ _=>False) (by simpa [Value.cells] using q2) (fun i x hi=>(hval i x hi).1) (fun k=>⟨fun h=>h.elim,fun⟨_,_,h⟩=>h⟩) (fun _ _ _ _ _ _ h=>h.elim) (fun i x hi=>(hval i x hi).2)⟩
  all_goals (cases hd)
end
def A19(T:Tys):List ab→List D→Prop
 | [],[]=>True
 |t::ts,d::ds=>Arg T t d∧A19 T ts ds
 |_,_=>False
theorem args_W{P:Program}{T:Tys}{H:Type}{enc:ab×Value→H}{w:World}{r:Reach}{base n:Nat}(hT:BR P T): ∀(ts:List ab) (vs:List Value) (d0:List (DataW H)) (ps:List MemPlace),ts.all (Pv T n)=true→
  (∀(j:Nat) (t:ab) (v:Value),ts[j]? =some t→vs[j]? =some v→Value.okWide P w r base t v)→DataW.TrodAll enc P w 0 (fun _=>true) true ts vs d0 ps→
  ∃ds,A19 T ts ds∧vs.length=ds.length∧ ∀(i:Nat) (d:D),ds[i]? =some d→ ∃v,vs[i]? =some v∧W T (fw w) w V0 Hl d v (fun _=>False):=by
 intro ts
 induction ts with
 |nil=>
  intro vs d0 ps _ _ h
  cases vs<;>cases d0<;>simp [DataW.TrodAll]at h
  exact⟨[],trivial,rfl,by simp⟩
 |cons t ts ih=>
  intro vs d0 ps hd hv h
  cases vs with
  |nil=>cases d0<;>simp [DataW.TrodAll]at h
  |cons v vs=>
   cases d0 with
   |nil=>simp [DataW.TrodAll]at h
   |cons d0 ds0=>
    simp only [DataW.TrodAll]at h;obtain⟨p,q,h1,h2,_⟩:=h;simp only [PQ,FU]at hd;obtain⟨d,ha,hW⟩:=A44 hT hd.1 (hv 0 t v rfl rfl) h1;obtain⟨ds,hb,hl,hWs⟩:=ih vs ds0 q hd.2 (fun j t' v' hj hj'=>hv (j+1) t' v' (by simpa using hj) (by simpa using hj')) h2
    refine⟨d::ds,⟨ha,hb⟩,by simp [hl],fun i x hi=> ?_⟩
    cases i with
    |zero=>simp at hi;subst hi;exact⟨v,rfl,hW⟩
    |succ i=>simpa using hWs i x (by simpa using hi)
theorem law_calls{Y:Sys}(hY:Y.Ok){f:am}{ds:List D}(hc:Y.call f ds []=some (.bool true,[])){vs:Array Value}{w:World}(hl:vs.size=ds.length)
  (hW: ∀(i:Nat) (d:D),ds[i]? =some d→ ∃v,vs[i]? =some v∧W Y.T (fw w) w V0 Hl d v (fun _=>False)):
  Calls Y.P f vs w fun e w'=>e= .returned (.bool true)∧RowKit.Below w.heap.size w w':=by
 have hg:=Sys.call_good hY hc;refine Calls.mono (hg.2 vs (fun _=>undef) w (fw w) (fun _ _=>False) hl (fun i d hi=> ?_) (fun j d hj=>by simp at hj) (fun _ _ _ h=>h) (fun _ _ _ _ h=>h.elim) (fun _ h=>h)) ?_
 ·obtain⟨v,hv,hWv⟩:=hW i d hi
  exact⟨v,hv,hWv.up⟩
 ·intro e w' he
  cases e with
  |returned v=>
   obtain⟨S',F,FL',h1,_,_,_,hst,_,_⟩:=he
   cases h1 with
   |bool=>exact⟨rfl,hst.os,hst.tape,hst.output,hst.size,fun k hk=>hst.heap k hk (fun _ h=>h)⟩
  |panicked=>exact he.elim
  |outgrown=>exact he.elim
theorem trodAll_below{H:Type}{enc:ab×Value→H}{P:Program}(hl:laidOutB P=true){W W':World}(hb:RowKit.Below W.heap.size W W'): ∀ {ts:List ab} {vs:List Value} {ds:List (DataW H)} {ps:List MemPlace},
  ts.all (fun t=>P.readableRec t&&decide (t<P.types.size))=true→DataW.TrodAll enc P W 0 (fun _=>true) true ts vs ds ps→DataW.TrodAll enc P W' 0 (fun b=>decide (b<W.heap.size)) true ts vs ds ps:=by
 intro ts
 induction ts with
 |nil=>
  intro vs ds ps _ h
  cases vs<;>cases ds<;>simp [DataW.TrodAll]at h ⊢
  exact h
 |cons t ts ih=>
  intro vs ds ps hr h
  cases vs with
  |nil=>cases ds<;>simp [DataW.TrodAll]at h
  |cons v vs=>
   cases ds with
   |nil=>simp [DataW.TrodAll]at h
   |cons d ds=>
    simp only [DataW.TrodAll]at h ⊢;obtain⟨p,q,h1,h2,h3⟩:=h;simp only [PQ,FU,decide_eq_true_eq]at hr;have lt0: ∀x∈p,x.block<W.heap.size:=by obtain⟨m,hm⟩:=h1;exact DataW.trod_lt m _ _ _ hm
    exact⟨p,q,RowKit.Below.trod hl hr.1.1 hr.1.2 h1 hb lt0,ih (by simpa using hr.2) h2,h3⟩
end Dv
namespace Dv
open Go
theorem nr{α:Type}{a b:α}(h:a=b):a=b:=h
structure SOp where
 dst:Option Tmp
 op:Op
 type:ab
 guard:Option (Option Tmp×Bool)
structure PmL where
 n:List Nat
 r:List Nat
 w:List Nat
def PmL.pm(l:PmL):Pm:=⟨fun r=>l.n.contains r|| !l.r.contains r,fun r=>l.w.contains r⟩
inductive SC where
 |skip
 |ops (l:List SOp)
 |draws (l:List (PmL×SOp))
 |seq (a b:SC)
 |any (q:AnyI)
 |cond (c:ac) (a b:SC)
 |block (id:Nat) (c:SC)
 |loop (c:SC)
 |exit (id:Nat)
 |ret
 |bad
abbrev tK(u:Nat):ac:= .tmp u
abbrev iK(n:Int):ac:= .const (.int .i64 n)
abbrev oX(d:Nat)(p:Op)(y:ab):SOp:=⟨some d,p,y,none⟩
abbrev oM(d u:Nat)(y:ab):SOp:=⟨some d,.move (.tmp u),y,none⟩
abbrev oA(d u:Nat)(y:ab):SOp:=⟨some d,.assign (.tmp u),y,none⟩
abbrev oL(d:Nat)(t:ab)(u:Nat)(y:ab):SOp:=⟨some d,.load t (.tmp u),y,none⟩
abbrev oI(d:Nat)(t:ab)(u v:Nat):SOp:=⟨some d,.indexAddr t (.tmp u) (.tmp v),0,none⟩
abbrev oN(d u:Nat)(t:ab):SOp:=⟨some d,.call ⟨.builtin .len, #[.tmp u], #[t]⟩,3,none⟩
abbrev oC(d f:Nat)(a:List ac)(t:List ab)(y:ab):SOp:=⟨some d,.call ⟨.value (.func f),a.toArray,t.toArray⟩,y,none⟩
abbrev oS(t:ab)(a u:Nat):SOp:=⟨none,.store t (.tmp a) (.tmp u),0,none⟩
abbrev oF(d:Nat)(t:ab)(u i:Nat):SOp:=⟨some d,.fieldAddr t (.tmp u) i,0,none⟩
abbrev oE(d u i:Nat)(y:ab):SOp:=⟨some d,.extract (.tmp u) i,y,none⟩
abbrev oB(d:Nat)(o:BinOp)(t:ab)(a b:ac)(r y:ab):SOp:=⟨some d,.binOp o t a b r,y,none⟩
def Ow(ops:Array Oper)(o:Oper):SOp:=⟨o.dst,o.op,o.type,match o.guard with|none=>none|some (j,b)=>some ((ops[j]?).bind (·.dst),b)⟩
def BV(lends:am→Bool):Code→SC
 | .skip=> .skip
 | .region _ ops draw=>
  if draw then
   (if NR lends ops.toList then .draws (ops.toList.map fun o=>(⟨F8 ops.toList o,ops.toList.flatMap (Dt lends ops.toList),Dt lends ops.toList o⟩,Ow ops (TL lends ops.toList o)))else .bad)
  else .ops (ops.toList.map fun o=>Ow ops (tag lends ops.toList o))
 | .seq a b=>match Yt a b with|some q=> .any q|none=> .seq (BV lends a) (BV lends b)
 | .cond c a b=> .cond c (BV lends a) (BV lends b)
 | .block id c=> .block id (BV lends c)
 | .loop c=> .loop (BV lends c)
 | .exit id=> .exit id
 | .ret=> .ret
 |_=> .bad
def KN(E:Env)(pm:Pm)(s:St)(dst:Option Tmp)(op:Op)(type:ab):Option St:=qd E pm s ⟨dst,op,type, "", #[],none⟩
def Ob(E:Env)(pm:Pm)(s:St)(o:SOp):Option St:=
 match o.guard with
 |none=>KN E pm s o.dst o.op o.type
 |some (none,_)=>some (s.putO o.dst (.konst undef))
 |some (some t,b)=>
  match s.v t with
  | .bool b'=>if b'==b then KN E pm s o.dst o.op o.type else some (s.putO o.dst (.konst undef))
  | .konst (.tuple _)=>some (s.putO o.dst (.konst undef))
  |_=>none
def mZ(E:Env):List SOp→St→Option St
 | [],s=>some s
 |o::l,s=>(Ob E Pm.all s o).bind fun s'=>mZ E l s'
def KZ(pm:Pm)(s:St)(op:Op):Bool:=
 match op with
 | .move (.tmp u)=> !(s.v u).hasObj||(s.v u).isObj||pm.wr u
 |_=>true
def Zh(E:Env):List (PmL×SOp)→St→Option St
 | [],s=>some s
 |(p,o)::l,s=>if KZ p.pm s o.op then(Ob E p.pm s o).bind fun s'=>Zh E l s' else none
noncomputable def Dh(E:Env):SC→St→Option (Ex×St)
 | .skip,s=>some (.normal,s)
 | .ops l,s=>(mZ E l s).map fun s'=>(.normal,s')
 | .draws l,s=>(Zh E l s).map fun s'=>(.normal,s')
 | .any q,s=>O3 E.T s q
 | .seq a b,s=>
  match Dh E a s with
  |some (.normal,s')=>Dh E b s'
  |r=>r
 | .cond c a b,s=>
  match ev E.T s 0 c with
  |some (.bool t)=>if t then Dh E a s else Dh E b s
  |_=>none
 | .block id c,s=>
  match Dh E c s with
  |some (.exit j,s')=>if j=id then some (.normal,s')else some (.exit j,s')
  |r=>r
 | .loop c,s=>TM (Dh E c) s
 | .exit id,s=>some (.exit id,s)
 | .ret,s=>some (.ret,s)
 | .bad,_=>none
theorem Zi(E:Env)(ops:Array Oper)(pm:Pm)(s:St)(o:Oper):Ob E pm s (Ow ops o)=Iw E ops pm s o:=by
 obtain⟨dst,op,type,pos,after,guard⟩:=o;unfold Ob Iw Lf Ow
 cases guard with
 |none=>rfl
 |some g=>
  obtain⟨j,b⟩:=g;simp only
  cases (ops[j]?).bind (·.dst)with
  |none=>rfl
  |some t=>
   simp only
   cases hv:s.v t with
   |bool b'=>simp only;cases hb:(b'==b)<;>simp<;>rfl
   |konst v=>cases v<;>rfl
   |_=>rfl
theorem rU(E:Env)(ops:Array Oper): ∀(l:List Oper) (s:St),mZ E (l.map fun o=>Ow ops (tag E.lends ops.toList o)) s=Ve E ops s l:=by
 intro l
 induction l with
 |nil=>intro s;rfl
 |cons o l ih=>
  intro s;simp only [NF,mZ,Ve,Zi]
  cases Iw E ops Pm.all s (tag E.lends ops.toList o)with
  |none=>rfl
  |some s'=>simp only [Cn];exact ih s'
theorem ma(E:Env)(ops:Array Oper)(l0:List Oper): ∀(l:List Oper) (s:St),
  Zh E (l.map fun o=>(⟨F8 l0 o,l0.flatMap (Dt E.lends l0),Dt E.lends l0 o⟩,Ow ops (TL E.lends ops.toList o))) s=OX E ops l0 s l:=by
 intro l
 induction l with
 |nil=>intro s;rfl
 |cons o l ih=>
  intro s;simp only [NF,Zh,OX,Zi];have h1:(PmL.mk (F8 l0 o) (l0.flatMap (Dt E.lends l0)) (Dt E.lends l0 o)).pm=IA E.lends l0 o:=nr rfl;have h2:KZ (IA E.lends l0 o) s (Ow ops (TL E.lends ops.toList o)).op=bG (IA E.lends l0 o) s o:=nr rfl;rw [h1,h2];split
  ·cases Iw E ops (IA E.lends l0 o) s (TL E.lends ops.toList o)with
   |none=>rfl
   |some s'=>simp only [Cn];exact ih s'
  ·rfl
theorem mf(E:Env): ∀(c:Code),Dh E (BV E.lends c)=Dk E c:=by
 intro c
 induction c with
 |skip=>rfl
 |region id ops draw=>
  funext s
  simp only [BV,Dk]
  cases draw with
  |true=>
   simp only [if_true];split
   ·simp only [Dh];rw [ma]
   ·rfl
  |false=>simp only [Ip,if_false,Dh];rw [rU]
 |seq a b iha ihb=>
  funext s
  simp only [BV,Dk]
  cases Yt a b with
  |some q=>rfl
  |none=>simp only [Dh,iha,ihb];rfl
 |cond x a b iha ihb=>funext s;simp only [BV,Dh,Dk,iha,ihb];rfl
 |block id c ih=>funext s;simp only [BV,Dh,Dk,ih];rfl
 |loop c ih=>funext s;simp only [BV,Dh,Dk,ih]
 |exit id=>rfl
 |ret=>rfl
 |rangeFunc=>rfl
 |scope=>rfl
 |label=>rfl
 |goto=>rfl
 |refuse=>rfl
def Br(E:Env)(c:SC)(Q:Ex→St→Prop)(s:St):Prop:= ∃ex s',Dh E c s=some (ex,s')∧Q ex s'
section
variable {E:Env} {Q:Ex→St→Prop} {s:St}
def Zj(E:Env)(b:SC)(Q:Ex→St→Prop):Ex→St→Prop
 | .normal,s=>Br E b Q s
 |ex,s=>Q ex s
def inBlock(id:Nat)(Q:Ex→St→Prop):Ex→St→Prop
 | .exit j,s=>if j=id then Q .normal s else Q (.exit j) s
 |ex,s=>Q ex s
theorem A1A{a b:SC}(h:Br E a (Zj E b Q) s):Br E (.seq a b) Q s:=by
 obtain⟨ex,s1,h1,h2⟩:=h
 cases ex with
 |normal=>
  obtain⟨ex',s2,h3,h4⟩:=h2
  exact⟨ex',s2,by simp [Dh,h1,h3],h4⟩
 |exit id=>exact⟨_,s1,by simp [Dh,h1],h2⟩
 |ret=>exact⟨_,s1,by simp [Dh,h1],h2⟩
theorem mg{id:Nat}{c:SC}(h:Br E c (inBlock id Q) s):Br E (.block id c) Q s:=by
 obtain⟨ex,s1,h1,h2⟩:=h
 cases ex with
 |normal=>exact⟨_,s1,by simp [Dh,h1],h2⟩
 |exit j=>
  simp only [inBlock]at h2;by_cases hj:j=id
  ·subst hj;rw [if_pos rfl]at h2;exact⟨.normal,s1,by simp [Dh,h1],h2⟩
  ·rw [if_neg hj]at h2;exact⟨_,s1,by simp [Dh,h1,hj],h2⟩
 |ret=>exact⟨_,s1,by simp [Dh,h1],h2⟩
theorem BL{c:SC}{Q':Ex→St→Prop}(h:Br E c Q s)(hq: ∀ex s,Q ex s→Q' ex s):Br E c Q' s:=by
 obtain⟨ex,s1,h1,h2⟩:=h;exact⟨ex,s1,h1,hq _ _ h2⟩
end
def Fa(T:Tys)(n:Nat)(rs:List ResultVar)(r:D×List D):Ex→St→Prop
 | .normal,s=>XI T n rs s=some r
 | .ret,s=>XI T n rs s=some r
 | .exit _,_=>False
theorem Sys.call_wp{Y:Sys}{f:am}{fn:Func}{c:Code}{k:SC}{a l:List D}{r:D×List D}(hb:Y.base f a l=none)(hf:Y.P.funcs[f]? =some fn)(hok:Bl fn a.length=true)
  (hbody:fn.body=some c)(hk:BV Y.lends c=k)(h:Br Y.env k (Fa Y.T l.length fn.results.toList r) (entry a l)):Y.call f a l=some r:=by
 refine Sys.call_run hb hf hok ?_;obtain⟨ex,s1,h1,h2⟩:=h;unfold Yu;rw [←hk]at h1;have h3:Dh Y.env (BV Y.env.lends c)=Dk Y.env c:=mf Y.env c;have h4:Dk Y.env c (entry a l)=some (ex,s1):=by rw [←h3];exact h1
 rw [hbody];simp only [h4]
 cases ex with
 |normal=>exact h2
 |ret=>exact h2
 |exit id=>exact h2.elim
section
variable (E:Env) (pm:Pm) (s:St) (dst:Option Tmp) (ty:ab)
theorem dG(op:Op):Ob E pm s ⟨dst,op,ty,none⟩=KN E pm s dst op ty:=nr rfl
def grd(E:Env)(pm:Pm)(s:St)(dst:Option Tmp)(op:Op)(ty:ab)(b:Bool)(d:D):Option St:=
 match d with
 | .bool b'=>if b'==b then KN E pm s dst op ty else some (s.putO dst (.konst undef))
 | .konst (.tuple _)=>some (s.putO dst (.konst undef))
 |_=>none
theorem Zk(op:Op)(t:Tmp)(b:Bool):Ob E pm s ⟨dst,op,ty,some (some t,b)⟩=grd E pm s dst op ty b (s.v t):=nr rfl
theorem ABO(op:Op)(b':Bool):grd E pm s dst op ty true (.bool b')=if b'=true then KN E pm s dst op ty else some (s.putO dst (.konst undef)):=by cases b'<;>rfl
theorem ABP(op:Op)(b':Bool):grd E pm s dst op ty false (.bool b')=if b'=true then some (s.putO dst (.konst undef))else KN E pm s dst op ty:=by cases b'<;>rfl
theorem ABQ(op:Op)(b:Bool):grd E pm s dst op ty b (.konst undef)=some (s.putO dst (.konst undef)):=nr rfl
def pk(s:St)(dst:Option Tmp)(c a b:Option D):Option St:=
 match c,a,b with
 |some (.bool t),some x,some y=>if(if t then x else y).hasObj then none else some (s.putO dst (if t then x else y))
 |_,_,_=>none
theorem mh(c a b:ac):KN E pm s dst (.pick c a b) ty=pk s dst (ev E.T s ty c) (ev E.T s ty a) (ev E.T s ty b):=nr rfl
theorem pkT(x y:D)(h:x.hasObj=false):pk s dst (some (.bool true)) (some x) (some y)=some (s.putO dst x):=by simp [pk,h]
theorem pkF(x y:D)(h:y.hasObj=false):pk s dst (some (.bool false)) (some x) (some y)=some (s.putO dst y):=by simp [pk,h]
theorem pkB(t p q:Bool):pk s dst (some (.bool t)) (some (.bool p)) (some (.bool q))=some (s.putO dst (.bool (if t then p else q))):=by cases t<;>rfl
theorem hoB(b:Bool):(D.bool b).hasObj=false:=by simp [D.hasObj]
theorem hoI(k:IntKind)(n:Int):(D.int k n).hasObj=false:=by simp [D.hasObj]
theorem hoS(b:ByteArray):(D.str b).hasObj=false:=by simp [D.hasObj]
theorem jg(t:ab):KN E pm s dst (.alloc t) ty=if E.T.known t then some (s.putO dst (.box (E.T.zeros t)))else none:=nr rfl
theorem rV(t:ab)(x:ac):KN E pm s dst (.box t x) ty=if ty=900003 then(NN E.T pm s dst t x).bind fun s1=>EW pm s1 dst else NN E.T pm s dst t x:=nr rfl
theorem mo(t:ab)(x:ac):NN E.T pm s dst t x=match OW (ev E.T s t x)with
  |some ds=>if E.T.isStruct t then some (s.putO dst (.box ds))else none
  |none=>
   match take E.T pm s t x with
   |some (d,s1)=>if E.T.isStruct t==d.isAgg then some (s1.putO dst (.box d.asCells))else none
   |none=>none:=nr rfl
theorem jh(t:ab)(parts:Array (Nat×ac)):KN E pm s dst (.build t parts) ty=if ty=900015 then(Gr E.T pm s t parts.toList).map fun r=>s.putO dst r else match E.T.nest t with
  |some fl=>if E.T.isStruct t&&E.T.known t then(Ii E.T pm fl s (E.T.zeros t) parts.toList).map fun r=>r.2.putO dst (.agg r.1)else none
  |none=>match E.T.ty t with
   | .struct fs=>if E.T.known t then(FY E.T pm (fun i=>fs.getD i 0) 1 s (E.T.zeros t) parts.toList).map fun r=>r.2.putO dst (.agg r.1)else none
   |_=>none:=nr rfl
theorem UC(t:ab)(len:Nat)(parts:Array (Nat×ac)):KN E pm s dst (.buildSlice t len parts) ty=if ty=900004 then(TK E.T pm s dst t len parts).bind fun s1=>NM pm s1 dst else TK E.T pm s dst t len parts:=nr rfl
def stF(pm:Pm)(a:ac):Option St→Option St
 |some s1=>EW pm s1 (QX a)
 |none=>none
theorem mq(a:ac)(o:Option St):stF pm a o=o.bind fun s1=>EW pm s1 (QX a):=by cases o<;>rfl
theorem ji(t:ab)(a x:ac):KN E pm s none (.store t a x) ty=if ty=900007 then Fx E.T pm t a (KS E.T pm s t x)else if ty=900010 then TG E.T pm s t a x else if ty=900011 then stF pm a (Iq E.T pm s t a x)else if ty=900016 then Iu E.T pm s t a x else Iq E.T pm s t a x:=by
 rw [mq];rfl
def J3(s:St)(dst:Option Tmp):Option D→Option St
 |some r=>some (s.putO dst r)
 |none=>none
theorem A45(r:D):J3 s dst (some r)=some (s.putO dst r):=nr rfl
def Vn(dst:Option Tmp):Option (D×St)→Option St
 |some r=>some (r.2.putO dst r.1)
 |none=>none
theorem A46(r:D)(s:St):Vn dst (some (r,s))=some (s.putO dst r):=nr rfl
def Vo(T:Tys)(s:St)(dst:Option Tmp)(op:BinOp)(t:ab):Option D→Option D→Option St
 |some a,some b=>if MN T t a then J3 s dst (Fb op a b)else none
 |_,_=>none
theorem A47(T:Tys)(op:BinOp)(t:ab)(a b:D):Vo T s dst op t (some a) (some b)=if MN T t a then J3 s dst (Fb op a b)else none:=nr rfl
def fzB(pm:Pm)(dst:Option Tmp)(u:Tmp):Option St→Option St
 |some s1=>Yp pm s1 dst u
 |none=>none
theorem A1B(op:BinOp)(t:ab)(x y:ac)(t':ab):KN E pm s dst (.binOp op t x y t') ty=if ty<2000000 then Gs E.T pm s dst op t x y else fzB pm dst (ty-2000000) (Gs E.T pm s dst op t x y):=by
 show(if ty<2000000 then Gs E.T pm s dst op t x y else(Gs E.T pm s dst op t x y).bind fun s1=>Yp pm s1 dst (ty-2000000))=_
 cases Gs E.T pm s dst op t x y<;>rfl
theorem Sd(op:BinOp)(t:ab)(x y:ac)(hq:Yo E.T op t y=none):Gs E.T pm s dst op t x y=Vo E.T s dst op t (ev E.T s t x) (ev E.T s t y):=by
 unfold Gs;rw [hq];simp only
 cases ev E.T s t x<;>cases ev E.T s t y<;>simp only [Vo]
 rename_i a b
 cases Fb op a b<;>rfl
theorem ABR(op:BinOp)(t:ab)(x:ac)(u:Tmp)(t':ab):KN E pm s dst (.binOp op t x (.tmp u) t') ty=if ty<2000000 then Vo E.T s dst op t (ev E.T s t x) (some (s.v u))else fzB pm dst (ty-2000000) (Vo E.T s dst op t (ev E.T s t x) (some (s.v u))):=by
 rw [A1B,Sd E pm s dst op t x (.tmp u) rfl];rfl
theorem ABS(op:BinOp)(t:ab)(x:ac)(k:IntKind)(n:Int)(t':ab):KN E pm s dst (.binOp op t x (.const (.int k n)) t') ty=if ty<2000000 then Vo E.T s dst op t (ev E.T s t x) (some (.int k n))else fzB pm dst (ty-2000000) (Vo E.T s dst op t (ev E.T s t x) (some (.int k n))):=by
 rw [A1B,Sd E pm s dst op t x _ rfl];rfl
def dH(s:St)(dst:Option Tmp)(q:Bool):Option Bool→Option St
 |some b=>some (s.putO dst (.bool (b==q)))
 |none=>none
theorem A48(b:Bool):dH s dst true (some b)=some (s.putO dst (.bool b)):=by cases b<;>rfl
theorem A49(b:Bool):dH s dst false (some b)=some (s.putO dst (.bool (!b))):=by cases b<;>rfl
def vD(op:BinOp)(s:St)(dst:Option Tmp)(r:Option Bool)(o:Option St):Ty→Option St
 | .slice _=>match op with| .eql=>dH s dst true r| .neq=>dH s dst false r|_=>o
 |_=>o
theorem ABT(r:Option Bool)(o:Option St)(e:ab):vD .eql s dst r o (.slice e)=dH s dst true r:=nr rfl
theorem ABU(r:Option Bool)(o:Option St)(e:ab):vD .neq s dst r o (.slice e)=dH s dst false r:=nr rfl
theorem rW(op:BinOp)(t:ab)(u:Tmp):Gs E.T pm s dst op t (.tmp u) (.const (.slice none 0 0))=vD op s dst (PR pm s (s.v u)) (Vo E.T s dst op t (some (s.v u)) (ev E.T s t (.const (.slice none 0 0)))) (E.T.ty t):=by
 have key: ∀q,Yo E.T op t (.const (.slice none 0 0))=some q→Gs E.T pm s dst op t (.tmp u) (.const (.slice none 0 0))=dH s dst q (PR pm s (s.v u)):=by
  intro q hq;unfold Gs;rw [hq];simp only [ev,Cn]
  cases PR pm s (s.v u)<;>rfl
 cases ht:E.T.ty t with
 |slice e=>
  cases op<;>first
   |(simp only [vD];exact key true (by simp [Yo,ht]))
   |(simp only [vD];exact key false (by simp [Yo,ht]))
   |(simp only [vD];exact Sd E pm s dst _ t _ _ (by simp [Yo,ht]))
 |_=>exact Sd E pm s dst _ t _ _ (by simp [Yo,ht])
theorem A1C(op:BinOp)(t:ab)(u:Tmp)(t':ab):KN E pm s dst (.binOp op t (.tmp u) (.const (.slice none 0 0)) t') ty=if ty<2000000 then vD op s dst (PR pm s (s.v u)) (Vo E.T s dst op t (some (s.v u)) (ev E.T s t (.const (.slice none 0 0)))) (E.T.ty t)
  else fzB pm dst (ty-2000000) (vD op s dst (PR pm s (s.v u)) (Vo E.T s dst op t (some (s.v u)) (ev E.T s t (.const (.slice none 0 0)))) (E.T.ty t)):=by
 rw [A1B,rW]
theorem ABV(e:ab)(x:D)(xs:List D):PR pm s (.sl e (x::xs))=some false:=nr rfl
theorem ndK(A:Option Addr)(n c:Nat):PR pm s (.konst (.slice A n c))=some A.isNone:=nr rfl
theorem Zl(src d:ab)(x:ac):KN E pm s dst (.convert src d x) ty=if E.T.known src then
   match ev E.T s src x,E.T.ty d with
   |some (.int _ n),.int k=>some (s.putO dst (.int k (k.wrap n)))
   |some (.str b),.string=>some (s.putO dst (.str b))
   |_,_=>none
  else none:=nr rfl
theorem Xl(f:am)(first captured:Array ac):KN E pm s dst (.makeFunc (.func f) first captured) ty=if ty<3000000 then(if first.isEmpty then(LV pm s captured.toList).map fun r=>r.2.putO dst (.clo f r.1)else none)
  else(if first.isEmpty then(XF pm s (ty-3000000) captured.toList).map fun r=>r.2.putO dst (.ocl false f r.1)else none):=nr rfl
theorem Vq(t:ab)(l c:ac):KN E pm s dst (.makeSlice t l c) ty=if ty=900012 then(Vd E.T s dst t l c).bind fun s1=>NM pm s1 dst else Vd E.T s dst t l c:=nr rfl
theorem Xm(x:ac):KN E pm s dst (.nilCheck x) ty=(ev E.T s ty x).bind fun d=>
   match d with
   | .box _=>some (CG s dst x d)
   | .vw L n m=>match s.look pm L n m with|some (.box _)=>some (CG s dst x d)|_=>none
   | .pe L _ n m=>match s.look pm L n m with|some _=>some (CG s dst x d)|none=>none
   | .cptr _=>some (CG s dst x d)
   | .clo _ _=>some (CG s dst x d)
   | .ocl false _ _=>some (CG s dst x d)
   |_=>none:=nr rfl
theorem dI(x y:ac)(t t':ab):KN E pm s dst (.call ⟨.builtin .append, #[x,y], #[t,t']⟩) ty=if t=t' then(if isZ (ev E.T s t y)then KU E.T pm s t x else Fy E.T pm s t x y).map fun r=>r.2.putO dst r.1 else none:=nr rfl
theorem mr(f:am)(args:Array ac)(ts:Array ab):KN E pm s dst (.call ⟨.value (.func f),args,ts⟩) ty=if args.size=ts.size then(if ty=900014 then(FZ E pm s dst f (args.toList.zip (NQ ty ts.toList)) []).bind fun s1=>EW pm s1 dst else FZ E pm s dst f (args.toList.zip (NQ ty ts.toList)) [])else none:=nr rfl
theorem jk(u:Tmp)(args:Array ac)(ts:Array ab):KN E pm s dst (.call ⟨.value (.tmp u),args,ts⟩) ty=match s.v u with
   | .clo f caps=>if args.size=ts.size then FZ E pm s dst f (args.toList.zip ts.toList) caps else none
   | .ocl false f caps=>if args.size=ts.size then Mw E pm s dst f (args.toList.zip ts.toList) caps else none
   |_=>none:=nr rfl
end
theorem A1D(T:Tys)(s:St)(t:ab)(u:Tmp):ev T s t (.tmp u)=some (s.v u):=nr rfl
theorem A1E(T:Tys)(s:St)(t:ab)(k:IntKind)(n:Int):ev T s t (.const (.int k n))=some (.int k n):=nr rfl
theorem rX(T:Tys)(s:St)(t:ab)(b:Bool):ev T s t (.const (.bool b))=some (.bool b):=nr rfl
theorem A1F(T:Tys)(s:St)(t:ab):ev T s t (.const (.slice none 0 0))=match T.ty t with| .slice e=>some (.own e [])| .other=>some (.konst (.slice none 0 0))|_=>none:=nr rfl
theorem A4A(s:St)(t u:Nat)(d:D):(s.put t d).v u=if u=t then d else s.v u:=by rw [vC];rfl
theorem A4B(s:St)(t u:Nat)(d:D):(s.put t d).k u=if u=t then(if d.hasObj then s.k t+1 else s.k t)else s.k u:=by
 unfold St.put;by_cases h:u=t
 ·subst h;cases hd:d.hasObj<;>simp [Kr]
 ·cases hd:d.hasObj<;>simp [Kr,h]
theorem A4C(s:St)(t u:Nat)(d:D):(s.put t d).m u=s.m u:=by unfold St.put;split<;>rfl
theorem A4D(s:St)(t u:Nat):(s.clr t).v u=if u=t then .undef else s.v u:=nr rfl
theorem A4E(s:St)(t u:Nat):(s.clr t).k u=s.k u:=nr rfl
theorem A4F(s:St)(t u:Nat):(s.clr t).m u=s.m u:=nr rfl
theorem A1G(s:St)(t u:Nat):(s.bump t).v u=s.v u:=nr rfl
theorem A1H(s:St)(t u:Nat):(s.bump t).k u=s.k u:=nr rfl
theorem A1I(s:St)(t u:Nat):(s.bump t).m u=if u=t then s.m t+1 else s.m u:=nr rfl
theorem A4G(s:St)(t u:Nat)(p:AL)(d:D):(s.set (t::p) d).v u=if u=t then Gc (s.v t) p d else s.v u:=nr rfl
theorem A4H(s:St)(t u:Nat)(p:AL)(d:D):(s.set (t::p) d).k u=s.k u:=nr rfl
theorem A4I(s:St)(t u:Nat)(p:AL)(d:D):(s.set (t::p) d).m u=s.m u:=nr rfl
theorem jl(s:St)(t:Tmp)(d:D):s.putO (some t) d=s.put t d:=nr rfl
theorem jm(s:St)(d:D):s.putO none d=s:=nr rfl
theorem A4J(Y:Sys):Y.env.T=Y.T:=nr rfl
theorem jo(Y:Sys):Y.env.lends=Y.lends:=nr rfl
theorem nA(Y:Sys):Y.env.call=Y.call:=nr rfl
theorem rY(a l:List D)(t:Nat):(entry a l).v t=if t<G then a.getD t .undef else l.getD (t-G) .undef:=nr rfl
theorem rZ(a l:List D)(t:Nat):(entry a l).k t=0:=nr rfl
theorem rf(a l:List D)(t:Nat):(entry a l).m t=0:=nr rfl
theorem Lv{r:Ex×St}{Q:Ex→St→Prop}:(∃ex s',some r=some (ex,s')∧Q ex s')=Q r.1 r.2:=
 propext ⟨fun⟨ex,s',h,hq⟩=>by injection h with h;subst h;exact hq,fun h=>⟨r.1,r.2,rfl,h⟩⟩
section
variable (E:Env) (Q:Ex→St→Prop) (s:St)
theorem A4K:Br E .skip Q s=Q .normal s:=Lv
theorem A4L(id:Nat):Br E (.exit id) Q s=Q (.exit id) s:=Lv
theorem ABW:Br E .ret Q s=Q .ret s:=Lv
def A1J(Q:Ex→St→Prop):Option (Ex×St)→Prop
 |some r=>Q r.1 r.2
 |none=>False
theorem A4M(ex:Ex)(s':St):A1J Q (some (ex,s'))=Q ex s':=nr rfl
def rq(s:St)(ds:List Tmp)(r:Tmp)(bb:Bool):Bool→Option (Ex×St)
 |true=>some (.ret,(Jw s ds).put r (.bool bb))
 |false=>some (.normal,Jw s ds)
theorem A4N(ds:List Tmp)(r:Tmp)(bb:Bool):rq s ds r bb true=some (.ret,(Jw s ds).put r (.bool bb)):=nr rfl
theorem A4O(ds:List Tmp)(r:Tmp)(bb:Bool):rq s ds r bb false=some (.normal,Jw s ds):=nr rfl
def jq(T:Tys)(s:St)(ds:List Tmp)(r:Tmp)(cst:Int)(bb:Bool):Ty→D→Ty→Option (Ex×St)
 | .map _ _,.mp _ e es,.int .i64=>if T.nums e=some (false,1)then rq s ds r bb (es.any fun p=>p.2==[cst])else none
 |_,_,_=>none
theorem A4P(T:Tys)(ds:List Tmp)(r:Tmp)(cst:Int)(bb:Bool)(a b k e:ab)(es:List (AP×AP))(h:T.nums e=some (false,1)):jq T s ds r cst bb (.map a b) (.mp k e es) (.int .i64)=rq s ds r bb (es.any fun p=>p.2==[cst]):=by
 unfold jq;simp only [h,if_true]
theorem ABX:Jw s []=s:=nr rfl
theorem ABY(t:Tmp)(ds:List Tmp):Jw s (t::ds)=Jw (s.put t .undef) ds:=nr rfl
theorem ABZ(m d0 d1 n0 n1 e0 e1 v x c r tm t3:Nat)(cst:Int)(bb:Bool):Br E (.any ⟨m,d0,d1,n0,n1,e0,e1,v,x,c,r,tm,t3,cst,bb⟩) Q s=A1J Q (jq E.T s [d0,d1,n0,n1,e0,e1,v,x,c] r cst bb (E.T.ty tm) (s.v m) (E.T.ty t3)):=by
 have e:O3 E.T s ⟨m,d0,d1,n0,n1,e0,e1,v,x,c,r,tm,t3,cst,bb⟩=jq E.T s [d0,d1,n0,n1,e0,e1,v,x,c] r cst bb (E.T.ty tm) (s.v m) (E.T.ty t3):=by
  unfold O3 jq
  cases E.T.ty tm<;>try rfl
  cases s.v m<;>try rfl
  cases E.T.ty t3<;>try rfl
  rename_i kk
  cases kk<;>try rfl
  simp only;split
  ·rename_i es _
   cases (es.any fun p=>p.2==[cst])<;>rfl
  ·rfl
 unfold Br;simp only [Dh,e]
 cases jq E.T s [d0,d1,n0,n1,e0,e1,v,x,c] r cst bb (E.T.ty tm) (s.v m) (E.T.ty t3)with
 |none=>simp [A1J]
 |some q=>
  obtain⟨ex,s'⟩:=q;exact propext ⟨fun⟨e1,s1,h1,h2⟩=>by injection h1 with h1;injection h1 with h1 h3;subst h1 h3;exact h2,fun h=>⟨ex,s',rfl,h⟩⟩
theorem ABa:Br E (.ops []) Q s=Q .normal s:=Lv
def nxt(E:Env)(l:List SOp)(Q:Ex→St→Prop):Option St→Prop
 |some s=>Br E (.ops l) Q s
 |none=>False
theorem ABb(l:List SOp):nxt E l Q (some s)=Br E (.ops l) Q s:=nr rfl
theorem A4Q(o:SOp)(l:List SOp):Br E (.ops (o::l)) Q s=nxt E l Q (Ob E Pm.all s o):=by
 unfold Br;simp only [Dh,mZ]
 cases Ob E Pm.all s o with
 |none=>simp [nxt]
 |some s'=>simp [nxt,Br,Dh]
theorem A4R:Br E (.draws []) Q s=Q .normal s:=Lv
def nC(E:Env)(l:List (PmL×SOp))(Q:Ex→St→Prop):Bool→Option St→Prop
 |true,some s=>Br E (.draws l) Q s
 |_,_=>False
theorem A4S(l:List (PmL×SOp)):nC E l Q true (some s)=Br E (.draws l) Q s:=nr rfl
theorem A1K(p:PmL)(o:SOp)(l:List (PmL×SOp)):Br E (.draws ((p,o)::l)) Q s=nC E l Q (KZ p.pm s o.op) (Ob E p.pm s o):=by
 unfold Br;simp only [Dh,Zh]
 cases KZ p.pm s o.op with
 |true=>
  cases Ob E p.pm s o with
  |none=>simp [nC]
  |some s'=>simp [nC,Br,Dh]
 |false=>simp [nC]
theorem ABc(a b:SC):Br E (.seq a b) Q s=Br E a (Zj E b Q) s:=by
 refine propext ⟨fun⟨ex,s1,h1,h2⟩=> ?_,A1A⟩;simp only [Dh]at h1
 cases ha:Dh E a s with
 |none=>simp [ha]at h1
 |some q=>
  obtain⟨ex',s2⟩:=q
  cases ex' with
  |normal=>simp only [ha]at h1;exact⟨_,s2,ha,ex,s1,h1,h2⟩
  |exit id=>simp only [ha,al,Prod.mk.injEq]at h1;obtain⟨rfl,rfl⟩:=h1;exact⟨_,s2,ha,h2⟩
  |ret=>simp only [ha,al,Prod.mk.injEq]at h1;obtain⟨rfl,rfl⟩:=h1;exact⟨_,s2,ha,h2⟩
def cnd(E:Env)(a b:SC)(Q:Ex→St→Prop)(s:St):Option D→Prop
 |some (.bool t)=>if t=true then Br E a Q s else Br E b Q s
 |_=>False
theorem ABd(a b:SC)(t:Bool):cnd E a b Q s (some (.bool t))=if t=true then Br E a Q s else Br E b Q s:=nr rfl
theorem A4U(c:ac)(a b:SC):Br E (.cond c a b) Q s=cnd E a b Q s (ev E.T s 0 c):=by
 unfold Br;simp only [Dh]
 cases ev E.T s 0 c with
 |none=>simp [cnd]
 |some d=>cases d with
  |bool t=>cases t<;>simp [cnd,Br]
  |_=>simp [cnd]
theorem A1L(id:Nat)(c:SC):Br E (.block id c) Q s=Br E c (inBlock id Q) s:=by
 refine propext ⟨fun⟨ex,s1,h1,h2⟩=> ?_,mg⟩;simp only [Dh]at h1
 cases ha:Dh E c s with
 |none=>simp [ha]at h1
 |some q=>
  obtain⟨ex',s2⟩:=q
  cases ex' with
  |normal=>simp only [ha,al,Prod.mk.injEq]at h1;obtain⟨rfl,rfl⟩:=h1;exact⟨_,s2,ha,h2⟩
  |exit j=>
   simp only [ha]at h1;by_cases hj:j=id
   ·simp only [hj,if_true,al,Prod.mk.injEq]at h1;obtain⟨rfl,rfl⟩:=h1;exact⟨_,s2,ha,by simpa [inBlock,hj] using h2⟩
   ·simp only [hj,if_false,al,Prod.mk.injEq]at h1;obtain⟨rfl,rfl⟩:=h1;exact⟨_,s2,ha,by simpa [inBlock,hj] using h2⟩
  |ret=>simp only [ha,al,Prod.mk.injEq]at h1;obtain⟨rfl,rfl⟩:=h1;exact⟨_,s2,ha,h2⟩
theorem A1M(b:SC):Zj E b Q .normal s=Br E b Q s:=nr rfl
theorem A1N(b:SC)(id:Nat):Zj E b Q (.exit id) s=Q (.exit id) s:=nr rfl
theorem A1O(b:SC):Zj E b Q .ret s=Q .ret s:=nr rfl
theorem ABe(id:Nat):inBlock id Q .normal s=Q .normal s:=nr rfl
theorem ABf(id j:Nat):inBlock id Q (.exit j) s=if j=id then Q .normal s else Q (.exit j) s:=nr rfl
theorem ABg(id:Nat):inBlock id Q .ret s=Q .ret s:=nr rfl
theorem A4V(T:Tys)(n:Nat)(rs:List ResultVar)(r:D×List D):Fa T n rs r .ret s=(XI T n rs s=some r):=nr rfl
end
section
variable (s:St) (dst:Option Tmp) (u:Tmp) (k:IntKind) (n:Int) (b:Bool) (x:ByteArray) (e:ab) (xs:List D) (L:AL) (i j c:Nat) (v:Value) (f:am)
theorem A4W:CG s dst (.tmp u) (.int k n)=s.putO dst (.int k n):=nr rfl
theorem A1P:CG s dst (.tmp u) (.bool b)=s.putO dst (.bool b):=nr rfl
theorem ABh:CG s dst (.tmp u) (.sl e xs)=s.putO dst (.sl e xs):=nr rfl
theorem ru:CG s dst (.tmp u) (.konst v)=s.putO dst (.konst v):=nr rfl
theorem A4X:CG s dst (.tmp u) (.own e xs)=s.putO dst (.vw [u] (s.k u) (s.m u)):=nr rfl
theorem ABi(k:ab)(es:List (AP×AP)):CG s dst (.tmp u) (.mp k e es)=s.putO dst (.vw [u] (s.k u) (s.m u)):=nr rfl
theorem ABj:CG s dst (.tmp u) (.vw L i j)=s.putO dst (.vw L i j):=nr rfl
theorem A4Y:CG s dst (.tmp u) (.clo f xs)=s.putO dst (.clo f xs):=nr rfl
theorem A4Z:CG s dst (.tmp u) (.tup xs)=if Al xs then(if Al (JH s u 0 xs)then(s.clr u).putO dst (.tup xs)else s.putO dst (.tup (JH s u 0 xs)))else s.putO dst (.tup xs):=nr rfl
theorem A4a(i:Nat):JH s u i []=[]:=nr rfl
theorem A1Q(i:Nat)(x:D):JH s u i (x::xs)=Mx s u i x::JH s u (i+1) xs:=nr rfl
theorem A4b(i:Nat):Mx s u i (.agg xs)= .agg (JG s [u,i] 0 xs):=nr rfl
theorem A4c(i:Nat):Mx s u i (.int k n)= .int k n:=nr rfl
theorem A1R(i:Nat):Mx s u i (.bool b)= .bool b:=nr rfl
theorem A4d(i:Nat):Mx s u i (.own e xs)= .vw [u,i] (s.k u) (s.m u):=nr rfl
theorem A4e(L:AL)(i:Nat):JG s L i []=[]:=nr rfl
theorem A1S(L:AL)(i:Nat):JG s L i (.int k n::xs)= .int k n::JG s L (i+1) xs:=nr rfl
theorem A1T(r c:Nat)(i:Nat)(zs:List D):JG s [r,c] i (.own e zs::xs)= .vw [r,c,i] (s.k r) (s.m r)::JG s [r,c] (i+1) xs:=nr rfl
variable (pm:Pm)
theorem A4f:BP pm s dst (.tmp u) (.int k n)=some (s.putO dst (.int k n)):=nr rfl
theorem A1U:BP pm s dst (.tmp u) (.bool b)=some (s.putO dst (.bool b)):=nr rfl
theorem ABk:BP pm s dst (.tmp u) (.sl e xs)=some (s.putO dst (.sl e xs)):=nr rfl
theorem A4g:BP pm s dst (.tmp u) (.own e xs)=some ((s.clr u).putO dst (.own e xs)):=nr rfl
theorem ABl(k:ab)(es:List (AP×AP)):BP pm s dst (.tmp u) (.mp k e es)=some ((s.clr u).putO dst (.mp k e es)):=nr rfl
theorem A4h(r:Nat):BP pm s dst (.tmp u) (.vw [r] i j)=(NK pm s [r] i j).map fun q=>q.2.putO dst q.1:=nr rfl
def asT(_s:St)(dst:Option Tmp)(a:Option (D×St))(b:Option St):Bool→Option St
 |true=>a.map fun q=>q.2.putO dst q.1
 |false=>b
theorem ABm(a:Option (D×St))(b:Option St):asT s dst a b true=a.map fun q=>q.2.putO dst q.1:=nr rfl
theorem A4i(r r':Nat)(p:AL):BP pm s dst (.tmp u) (.vw (r::r'::p) i j)=asT s dst (Bz pm s (.vw (r::r'::p) i j)) (some (s.putO dst (.vw (r::r'::p) i j))) (isT pm s r):=by
 by_cases h:isT pm s r=true
 ·have h':bE pm s (.vw (r::r'::p) i j)=true:=h;unfold BP;simp only [h',h,if_true];rfl
 ·have h':bE pm s (.vw (r::r'::p) i j)=false:=K7.mpr h;unfold BP;simp only [h',K7.mpr h];rfl
theorem ABn(r:Nat):isT pm s r=(pm.rd r&&A0v (s.v r)):=nr rfl
theorem A4j:A0v (.tup xs)=true:=nr rfl
theorem A4k:BP pm s dst (.tmp u) (.clo f xs)=some (s.putO dst (.clo f xs)):=nr rfl
end
section
variable (k:IntKind) (x y:Int) (p q:Bool) (a b:ByteArray)
theorem A4l:Fb .add (.int k x) (.int k y)=some (.int k (k.wrap (x+y))):=by simp [Fb]
theorem A4m:Fb .sub (.int k x) (.int k y)=some (.int k (k.wrap (x-y))):=by simp [Fb]
theorem A4n:Fb .mul (.int k x) (.int k y)=some (.int k (k.wrap (x*y))):=by simp [Fb]
theorem A4o(k':IntKind):Fb .shr (.int k x) (.int k' y)=if y<0 then none else some (.int k (x.fdiv (2 ^ (min y.toNat k.bits)))):=by simp [Fb]
theorem ABo:Fb .eql (.int k x) (.int k y)=some (.bool (decide (x=y))):=by simp [Fb];rfl
theorem ABp:Fb .neq (.int k x) (.int k y)=some (.bool (!decide (x=y))):=by simp [Fb];rfl
theorem ABq:Fb .lss (.int k x) (.int k y)=some (.bool (decide (x<y))):=by simp [Fb]
theorem ABr:Fb .leq (.int k x) (.int k y)=some (.bool (decide (x≤y))):=by simp [Fb]
theorem ABs:Fb .gtr (.int k x) (.int k y)=some (.bool (decide (y<x))):=by simp [Fb]
theorem ABt:Fb .geq (.int k x) (.int k y)=some (.bool (decide (y≤x))):=by simp [Fb]
theorem A4p:Fb .neq (.bool p) (.bool q)=some (.bool (!(p==q))):=nr rfl
theorem A4q:unD .not (.bool p)=some (.bool (!p)):=nr rfl
theorem boI(T:Tys)(t:ab):MN T t (.int k x)=true:=nr rfl
theorem boB(T:Tys)(t:ab):MN T t (.bool p)=match T.ty t with| .bool=>true|_=>false:=nr rfl
theorem boA(T:Tys)(t:ab)(k l:IntKind)(x y:Int):MN T t (.agg [.int k x,.int l y])=fJ T k l (T.ty t):=nr rfl
theorem A1V(T:Tys)(k l:IntKind)(a b:ab):fJ T k l (.struct [a,b])=(bF k (T.ty a)&&bF l (T.ty b)):=nr rfl
theorem A4r(k:IntKind):bF k (.int k)=true:=by simp [bF]
theorem A4s(k l:IntKind)(a b c d:Int):Fb .neq (.agg [.int k a,.int l b]) (.agg [.int k c,.int l d])=some (.bool (!((a==c)&&(b==d)))):=by simp [Fb]
end
def Hw(xs:AP):List D:=xs.map (D.int .i64)
theorem Cv(xs:AP):(Hw xs).length=xs.length:=by simp [Hw]
end Dv
namespace Dv
open Go
def zB:Value→Value→Bool
 | .int k n,.int k' n'=>decide (k=k')&&decide (n=n')
 | .bool b,.bool b'=>b==b'
 | .string s,.string s'=>s.size==0&&s'.size==0
 | .slice none 0 0,.slice none 0 0=>true
 | .nilFunc,.nilFunc=>true
 | .pointer none,.pointer none=>true
 |_,_=>false
theorem vE{a b:Value}(h:zB a b=true):a=b:=by
 unfold zB at h
 split at h
 ·simp only [FU,decide_eq_true_eq]at h;rw [h.1,h.2]
 ·simp only [beq_iff_eq]at h;rw [h]
 ·simp only [FU,beq_iff_eq]at h
  rename_i s s'
  have: ∀t:ByteArray,t.size=0→t=ByteArray.empty:=by
   intro t ht;obtain⟨d⟩:=t;have:d= #[]:=Array.size_eq_zero_iff.1 ht
   rw [this];rfl
  rw [this s h.1,this s' h.2]
 ·rfl
 ·rfl
 ·rfl
 ·cases h
def zsB:List Value→List Value→Bool
 | [],[]=>true
 |a::as,b::bs=>zB a b&&zsB as bs
 |_,_=>false
theorem nD: ∀ {a b:List Value},zsB a b=true→a=b
 | [],[],_=>rfl
 | [],_::_,h=>by cases h
 |_::_,[],h=>by cases h
 |a::as,b::bs,h=>by
  simp only [zsB,FU]at h;rw [vE h.1,nD h.2]
def Oc(P:Program)(t:ab)(n:Nat)(z:Value):Bool:=
 match P.info? t with
 |some i=>(i.size==n)&&(decide (4<n)||decide (i.bytes≤128))&&(match i.zero,z with|some (.agg a),.agg b=>zsB a.toList b.toList|some v,z=>zB v z|_,_=>false)
 |none=>false
theorem Jc{P:Program}{t:ab}{n:Nat}{z:Value}(h:Oc P t n z=true):LW P t n z:=by
 unfold Oc at h
 split at h
 ·rename_i i hi
  simp only [FU,OO,beq_iff_eq,decide_eq_true_eq]at h
  refine⟨i,hi,h.1.1, ?_,fun h4=>h.1.2.resolve_left (by omega)⟩
  have h2:=h.2
  split at h2
  ·rename_i a b hz
   rw [hz];have:=nD h2
   rw [←PM (xs:=a),this]
  ·rename_i v z' hz _
   rw [hz,vE h2]
  ·cases h2
 ·cases h
def Xn(P:Program)(T:Tys)(t:ab):Bool:=
 match T.ty t with
 | .int k=>(match P.underlying t with|some (.int k')=>decide (k'=k)|_=>false)&&Oc P t 1 (.int k 0)
 | .bool=>(match P.underlying t with|some .bool=>true|_=>false)&&Oc P t 1 (.bool false)
 | .string=>(match P.underlying t with|some .string=>true|_=>false)&&Oc P t 1 (.string ByteArray.empty)
 | .slice e=>(match P.underlying t with|some (.slice e')=>e'==e|_=>false)&&Oc P t 1 (.slice none 0 0)
 | .struct fs=>(match P.underlying t with
   |some (.struct fields)=>
    match T.nest t with
    |none=>(fields.size==fs.length)&&(an fields.size).all (fun j=>match fields[j]?,fs[j]? with|some f,some g=>(f.offset==j)&&(f.type==g)&&T.known g&& !T.isStruct g|_,_=>false)
    |some fl=>decide (4<fs.length)&&(fields.size==fl.length)&&(an fields.size).all (fun j=>match fields[j]?,fl[j]? with|some f,some g=>(f.offset==g.1)&&(f.type==g.2)&&T.known g.2|_,_=>false)
   |_=>false)&&Oc P t fs.length (.agg (fs.map (Eh T)).toArray)
 | .func=>(match P.underlying t with|some (.func ..)=>true|_=>false)&&Oc P t 1 .nilFunc
 | .ptr=>(match P.underlying t with|some (.pointer _)=>true|_=>false)&&Oc P t 1 (.pointer none)
 | .map k e=>match P.underlying t with|some (.map k' e')=>(k'==k)&&(e'==e)|_=>false
 | .arr n e=>(match P.underlying t with|some (.array n' e')=>(n'==n)&&(e'==e)|_=>false)&&decide (4<n)&&(match T.nest t with|some l=>l==qm n e|none=>false)&&(match T.ty e with| .int _=>true|_=>false)&&Oc P t n (.agg (ao n (Eh T e)).toArray)
 | .other=>true
theorem dJ{P:Program}{T:Tys}{t:ab}(h:Xn P T t=true):Eo P T t:=by
 unfold Xn at h;unfold Eo
 cases hty:T.ty t<;>rw [hty]at h<;>simp only [FU]at h ⊢
 case int k=>
  refine⟨?_,Jc h.2⟩
  have h1:=h.1
  split at h1
  ·rename_i k' hu;rw [hu];simp only [decide_eq_true_eq]at h1;rw [h1]
  ·cases h1
 case bool=>
  refine⟨?_,Jc h.2⟩
  have h1:=h.1
  split at h1
  ·assumption
  ·cases h1
 case string=>
  refine⟨?_,Jc h.2⟩
  have h1:=h.1
  split at h1
  ·assumption
  ·cases h1
 case map k e=>
  split at h
  ·rename_i k' e' hu;rw [hu];simp only [FU,beq_iff_eq]at h;rw [h.1,h.2]
  ·cases h
 case arr n e=>
  obtain⟨⟨⟨⟨h1,h2⟩,h3⟩,h4⟩,h5⟩:=h
  refine⟨⟨?_,by simpa using h2, ?_, ?_⟩,Jc h5⟩
  ·split at h1
   ·rename_i n' e' hu;rw [hu];simp only [FU,beq_iff_eq]at h1;rw [h1.1,h1.2]
   ·cases h1
  ·split at h3
   ·rename_i l hl;rw [hl];simp only [beq_iff_eq]at h3;rw [h3]
   ·cases h3
  ·split at h4
   ·rename_i k hk;exact⟨k,hk⟩
   ·cases h4
 case slice e=>
  refine⟨?_,Jc h.2⟩
  have h1:=h.1
  split at h1
  ·rename_i k' hu;rw [hu];simp only [beq_iff_eq]at h1;rw [h1]
  ·cases h1
 case struct fs=>
  refine⟨?_,Jc h.2⟩
  have h1:=h.1
  split at h1
  ·rename_i fields hu
   refine⟨fields,hu, ?_⟩
   cases hn:T.nest t with
   |none=>
    simp only [hn,FU,beq_iff_eq,Jt,Oj]at h1 ⊢
    refine⟨h1.1,fun j f hf=> ?_⟩
    have hlt:=(VV.1 hf).1;have:=h1.2 j hlt
    rw [hf]at this
    split at this
    ·rename_i f' g hf' hg
     simp only [al]at hf';subst hf';simp only [FU,beq_iff_eq,LM]at this;obtain⟨⟨⟨q1,q2⟩,q3⟩,q4⟩:=this;subst q2
     exact⟨q1,hg,q3,q4⟩
    ·cases this
   |some fl=>
    simp only [hn,FU,beq_iff_eq,Jt,Oj,decide_eq_true_eq]at h1 ⊢
    refine⟨h1.1.1,h1.1.2,fun j f hf=> ?_⟩
    have hlt:=(VV.1 hf).1;have:=h1.2 j hlt
    rw [hf]at this
    split at this
    ·rename_i f' g hf' hg
     simp only [al]at hf';subst hf';simp only [FU,beq_iff_eq]at this;obtain⟨⟨q1,q2⟩,q3⟩:=this
     refine⟨?_,by rw [q2];exact q3⟩
     rw [hg,q1,q2]
    ·cases this
  ·cases h1
 case func=>
  refine⟨?_,Jc h.2⟩
  have h1:=h.1
  split at h1
  ·exact⟨_,_,_,by assumption⟩
  ·cases h1
 case ptr=>
  refine⟨?_,Jc h.2⟩
  have h1:=h.1
  split at h1
  ·exact⟨_,by assumption⟩
  ·cases h1
def jr(qf:List Ty)(vF:List (ab×List (Nat×ab))):Tys:={ty:=fun t=>qf.getD t .other,nest:=fun t=>vF.lookup t}
theorem A1W{P:Program}{qf:List Ty}{vF:List (ab×List (Nat×ab))}(h:((an qf.length).all fun t=>Xn P (jr qf vF) t&&qy P (jr qf vF) t)=true):BR P (jr qf vF):=by
 intro t;rcases Nat.lt_or_ge t qf.length with ht|ht
 ·have:=Jt.1 h t (Oj.2 ht)
  rw [FU]at this
  exact⟨dJ this.1,this.2⟩
 ·have:(jr qf vF).ty t= .other:=by simp [jr,KR,be ht]
  refine⟨?_, ?_⟩
  ·unfold Eo;rw [this];trivial
  ·unfold qy;rw [this]
theorem Af{Y:Sys}{f:am}{fn:Func}{k:SC}{a l:List D}{r:D×List D}(hb:Y.base f a l=none)(hf:Y.P.funcs[f]? =some fn)(hok:Bl fn a.length=true)
  (hk:fn.body.map (BV Y.lends)=some k)(h:Br Y.env k (Fa Y.T l.length fn.results.toList r) (entry a l)):Y.call f a l=some r:=by
 obtain⟨c,hc,hk⟩:=CE.1 hk;exact Sys.call_wp hb hf hok hc hk h
end Dv
namespace Dv
open Go
section
variable (E:Env) (pm:Pm) (s:St) (dst:Option Tmp) (ty:ab) (u:Tmp) (t:ab)
theorem IC(o:Option D):(o.map fun r=>s.putO dst r)=J3 s dst o:=by cases o<;>rfl
theorem Lx(o:Option (D×St)):(o.map fun r=>r.2.putO dst r.1)=Vn dst o:=by cases o<;>rfl
theorem A4t:KN E pm s dst (.move (.tmp u)) ty=some (CG s dst (.tmp u) (s.v u)):=nr rfl
def qg(pm:Pm):Option Tmp→Option St→Option St
 |some t,some s1=>EW pm s1 (some t)
 |_,_=>none
def fcB(pm:Pm):Option Tmp→Option St→Option St
 |some t,some s1=>NM pm s1 (some t)
 |_,_=>none
theorem ry:KN E pm s dst (.assign (.tmp u)) ty=if ty=900003 then qg pm dst (BP pm s dst (.tmp u) (s.v u))else if ty<1000000 then BP pm s dst (.tmp u) (s.v u)else qg pm dst (BP pm s dst (.tmp u) (s.v u)):=by
 have hfr:((BP pm s dst (.tmp u) (s.v u)).bind fun s1=>EW pm s1 dst)=qg pm dst (BP pm s dst (.tmp u) (s.v u)):=by
  rcases BP pm s dst (.tmp u) (s.v u)with _|s1<;>cases dst<;>rfl
 show(if lI ty=true then(BP pm s dst (.tmp u) (s.v u)).bind fun s1=>EW pm s1 dst else BP pm s dst (.tmp u) (s.v u))=_
 rw [hfr];unfold lI;by_cases h1:ty=900003
 ·rw [if_pos h1,if_pos h1];rfl
 ·rw [if_neg h1,if_neg h1];by_cases h2:ty<1000000
  ·rw [if_pos h2,if_pos h2];rfl
  ·rw [if_neg h2,if_neg h2];rfl
theorem nE(v:Value):KN E pm s dst (.assign (.const v)) ty=if ty=900003 then qg pm dst (J3 s dst (ev E.T s ty (.const v)))else if ty<1000000 then J3 s dst (ev E.T s ty (.const v))else qg pm dst (J3 s dst (ev E.T s (ty-1000000) (.const v))):=by
 have hfr: ∀t,((ev E.T s t (.const v)).bind fun d=>(BP pm s dst (.const v) d).bind fun s1=>EW pm s1 dst)=qg pm dst (J3 s dst (ev E.T s t (.const v))):=by
  intro t
  cases ev E.T s t (.const v)<;>cases dst<;>rfl
 have hno: ∀t,((ev E.T s t (.const v)).bind fun d=>BP pm s dst (.const v) d)=J3 s dst (ev E.T s t (.const v)):=by
  intro t
  cases ev E.T s t (.const v)<;>rfl
 show((ev E.T s (A0x ty) (.const v)).bind fun d=>if lI ty=true then(BP pm s dst (.const v) d).bind fun s1=>EW pm s1 dst else BP pm s dst (.const v) d)=_
 unfold lI A0x;by_cases h1:ty=900003
 ·simp only [if_pos h1,if_true];exact hfr _
 ·by_cases h2:ty<1000000
  ·simp only [if_neg h1,if_pos h2,Ip,if_false];exact hno _
  ·simp only [if_neg h1,if_neg h2,if_true];exact hfr _
theorem A1X(v:Value):KN E pm s dst (.move (.const v)) ty=J3 s dst (ev E.T s ty (.const v)):=by
 show((ev E.T s ty (.const v)).map fun d=>CG s dst (.const v) d)=_
 cases ev E.T s ty (.const v)<;>rfl
theorem A4u:KN E pm s dst (.load t (.tmp u)) ty=J3 s dst (Gq E.T pm s t (.tmp u) (s.v u)):=IC s dst _
theorem yUn(op:UnOp):KN E pm s dst (.unOp op t (.tmp u)) ty=J3 s dst (unD op (s.v u)):=IC s dst _
theorem A1Y(i:Nat):KN E pm s dst (.fieldAddr t (.tmp u) i) ty=J3 s dst (Eg E.T pm s t (.tmp u) (s.v u) i):=IC s dst _
theorem ABv:KN E pm s dst (.call ⟨.builtin .len, #[.tmp u], #[t]⟩) ty=J3 s dst (NP E.T pm s t (.tmp u) (s.v u)):=IC s dst _
theorem nG(i:Nat):KN E pm s dst (.extract (.tmp u) i) ty=Hq s dst (.tmp u) (s.v u) i:=nr rfl
def slC(T:Tys)(pm:Pm)(s:St)(dst:Option Tmp)(t:ab)(x:ac)(hi:Option ac):Option ac→Option ac→Option St
 |none,none=>Vn dst (NL T pm s t x hi)
 |_,_=>none
theorem ABw(T:Tys)(x:ac)(hi:Option ac):slC T pm s dst t x hi none none=Vn dst (NL T pm s t x hi):=nr rfl
def slF(T:Tys)(pm:Pm)(s:St)(dst:Option Tmp)(t:ab)(x:ac)(lo:Option ac):Option ac→Option ac→Option St
 |none,none=>Vn dst (ML T pm s t x lo)
 |_,_=>none
theorem ABx(T:Tys)(x:ac)(lo:Option ac):slF T pm s dst t x lo none none=Vn dst (ML T pm s t x lo):=nr rfl
theorem A1Z(lo hi mx:Option ac):KN E pm s dst (.slice t (.tmp u) lo hi mx) ty=
  if ty=900002 then slC E.T pm s dst t (.tmp u) hi lo mx
  else if ty=900005 then slF E.T pm s dst t (.tmp u) lo hi mx
  else if ty=900001 then Vn dst (Ho E.T pm.see s t (.tmp u) (s.v u) lo hi mx)else Vn dst (Ho E.T pm s t (.tmp u) (s.v u) lo hi mx):=by
 show(if ty=900002 then(if lo.isNone&&mx.isNone then(NL E.T pm s t (.tmp u) hi).map fun r=>r.2.putO dst r.1 else none)
  else if ty=900005 then(if hi.isNone&&mx.isNone then(ML E.T pm s t (.tmp u) lo).map fun r=>r.2.putO dst r.1 else none)
  else(ev E.T s t (.tmp u)).bind fun d=>(Ho E.T (if ty=900001 then pm.see else pm) s t (.tmp u) d lo hi mx).map fun r=>r.2.putO dst r.1)=_
 split
 ·cases lo<;>cases mx<;>first|rfl|exact Lx dst _
 ·split
  ·cases hi<;>cases mx<;>first|rfl|exact Lx dst _
  ·split
   ·exact Lx dst _
   ·exact Lx dst _
def apI(T:Tys)(pm:Pm)(s:St)(t:ab)(x y:ac)(d:D):Option (D×St):=if isZ (some d)then KU T pm s t x else Fy T pm s t x y
theorem rz(x:ac)(v:Tmp):KN E pm s dst (.call ⟨.builtin .append, #[x,.tmp v], #[t,t]⟩) ty=Vn dst (apI E.T pm s t x (.tmp v) (s.v v)):=by
 rw [dI,if_pos rfl,Lx];rfl
def mn1(mx:Bool):Option D→Option D→Option D
 |some a,some b=>XD mx a b
 |_,_=>none
theorem ABy(mx:Bool)(a b:D):mn1 mx (some a) (some b)=XD mx a b:=nr rfl
theorem A4v(k:IntKind)(x y:Int):XD true (.int k x) (.int k y)=some (.int k (TD x y)):=by simp [XD]
theorem ABz(x y:ac)(t':ab):KN E pm s dst (.call ⟨.builtin .max, #[x,y], #[t,t']⟩) ty=J3 s dst (mn1 true (ev E.T s t x) (ev E.T s t' y)):=by
 show(match ev E.T s t x,ev E.T s t' y with|some a,some b=>(XD true a b).map fun r=>s.putO dst r|_,_=>none)=_
 cases ev E.T s t x<;>cases ev E.T s t' y<;>first|rfl|exact IC s dst _
theorem AC0(T:Tys)(x y:ac)(e:ab)(xs:List D):apI T pm s t x y (.sl e xs)=Fy T pm s t x y:=nr rfl
theorem A4w(T:Tys)(x y:ac)(e:ab)(xs:List D):apI T pm s t x y (.own e xs)=Fy T pm s t x y:=nr rfl
theorem apK(T:Tys)(x y:ac)(A:Option Addr)(c:Nat):apI T pm s t x y (.konst (.slice A 0 c))=KU T pm s t x:=nr rfl
def ix1(T:Tys)(pm:Pm)(s:St)(t:ab)(x:ac)(d:D):Option D→Option D
 |some i=>QV T pm s t x d i
 |none=>none
theorem AC1(T:Tys)(x:ac)(d i:D):ix1 T pm s t x d (some i)=QV T pm s t x d i:=nr rfl
theorem A1a(i:ac):KN E pm s dst (.indexAddr t (.tmp u) i) ty=J3 s dst (ix1 E.T pm s t (.tmp u) (s.v u) (ev E.T s 0 i)):=by
 show(match some (s.v u),ev E.T s 0 i with
  |some a,some b=>(QV E.T pm s t (.tmp u) a b).map fun r=>s.putO dst r
  |_,_=>none)=_
 cases ev E.T s 0 i with
 |none=>rfl
 |some b=>exact IC s dst _
def mk1(T:Tys)(t:ab):Option D→Option D→Option D
 |some a,some b=>Dw T t a b
 |_,_=>none
theorem AC2(T:Tys)(a b:D):mk1 T t (some a) (some b)=Dw T t a b:=nr rfl
theorem AC3(l c:ac):Vd E.T s dst t l c=J3 s dst (mk1 E.T t (ev E.T s 0 l) (ev E.T s 0 c)):=by
 show(match ev E.T s 0 l,ev E.T s 0 c with
  |some a,some b=>(Dw E.T t a b).map fun r=>s.putO dst r
  |_,_=>none)=_
 cases ev E.T s 0 l<;>cases ev E.T s 0 c<;>first|rfl|exact IC s dst _
theorem A4y(l c:ac):KN E pm s dst (.makeSlice t l c) ty=if ty=900012 then fcB pm dst (J3 s dst (mk1 E.T t (ev E.T s 0 l) (ev E.T s 0 c)))else J3 s dst (mk1 E.T t (ev E.T s 0 l) (ev E.T s 0 c)):=by
 rw [Vq,AC3];by_cases h:ty=900012
 ·rw [if_pos h,if_pos h]
  cases J3 s dst (mk1 E.T t (ev E.T s 0 l) (ev E.T s 0 c))<;>cases dst<;>rfl
 ·rw [if_neg h,if_neg h]
def cv1(s:St)(dst:Option Tmp):Option D→Ty→Option St
 |some (.int _ n),.int k=>some (s.putO dst (.int k (k.wrap n)))
 |some (.str b),.string=>some (s.putO dst (.str b))
 |_,_=>none
theorem AC4(k k':IntKind)(n:Int):cv1 s dst (some (.int k n)) (.int k')=some (s.putO dst (.int k' (k'.wrap n))):=nr rfl
theorem nH(src d:ab)(x:ac):KN E pm s dst (.convert src d x) ty=if E.T.known src then cv1 s dst (ev E.T s src x) (E.T.ty d)else none:=by
 rw [Zl];split
 ·rcases ev E.T s src x with _|d'<;>cases E.T.ty d<;>first|rfl|(cases d'<;>rfl)
 ·rfl
def asM(l:List ab):List ab:=l.map fun _=>900013
theorem AC5:asM []=[]:=nr rfl
theorem AC6(t:ab)(l:List ab):asM (t::l)=900013::asM l:=nr rfl
theorem A50(f:am)(args:Array ac)(ts:Array ab)(h:args.size=ts.size):KN E pm s dst (.call ⟨.value (.func f),args,ts⟩) ty=if ty=900014 then qg pm dst (FZ E pm s dst f (args.toList.zip ts.toList) [])else FZ E pm s dst f (args.toList.zip (if ty=900013 then asM ts.toList else ts.toList)) []:=by
 rw [mr,if_pos h];by_cases c:ty=900014
 ·rw [if_pos c,if_pos c];have e:NQ ty ts.toList=ts.toList:=by unfold NQ;rw [c,if_neg (by decide)]
  rw [e];unfold qg
  cases FZ E pm s dst f (args.toList.zip ts.toList) []with
  |none=>cases dst<;>rfl
  |some s1=>cases dst<;>rfl
 ·rw [if_neg c,if_neg c]
  unfold NQ asM;rfl
end
section
variable {T:Tys} {pm:Pm} {s:St} {t:ab}
theorem ldC(x:ac)(xs:List D)(hk:T.known t=true)(hs:T.isStruct t=false):Gq T pm s t x (.cptr xs)=xs[0]? :=by simp [Gq,hk,hs]
theorem AC7(x:ac)(xs:List D)(hk:T.known t=true)(hs:T.isStruct t=true):Gq T pm s t x (.cptr xs)=if T.size t≤xs.length then some (.agg (xs.take (T.size t)))else none:=by simp [Gq,hk,hs]
def UD(s:St)(L:AL)(c:Nat):Option D→Option D
 |some o=>(o.cells[c]?).bind fun x=>Ce (CF s L c x)
 |none=>none
def cellsOf(s:St)(L:AL)(c n:Nat):Option D→Option D
 |some o=>if c+n≤o.cells.length then Ce (.agg ((an n).map fun i=>CF s L (c+i) (o.cells.getD (c+i) .undef)))else none
 |none=>none
theorem ldP(x:ac)(L:AL)(c n m:Nat)(hk:T.known t=true)(hs:T.isStruct t=false):Gq T pm s t x (.pe L c n m)=UD s L c (s.look pm L n m):=by
 simp only [Gq,hk,hs,if_true,Gd]
 cases s.look pm L n m<;>simp [UD]
theorem ldB(u:Tmp)(xs:List D)(hk:T.known t=true)(hs:T.isStruct t=false):Gq T pm s t (.tmp u) (.box xs)=UD s [u] 0 (some (.box xs)):=by
 simp only [Gq,hk,hs,if_true,Gd];simp [UD]
theorem AC8(u:Tmp)(xs:List D)(hk:T.known t=true)(hs:T.isStruct t=true):Gq T pm s t (.tmp u) (.box xs)=cellsOf s [u] 0 (T.size t) (some (.box xs)):=by
 simp only [Gq,hk,hs,if_true,Gd];simp [cellsOf]
def vG(s:St)(pm:Pm)(L:AL)(n m:Nat):Option D:=
 match s.look pm L n m with
 |some (.box xs)=>some (.box xs)
 |_=>none
def Zm:D→Option D
 | .own e xs=>some (.own e xs)
 | .box xs=>some (.box xs)
 |_=>none
theorem A1b(e:ab)(xs:List D):Zm (.own e xs)=some (.own e xs):=nr rfl
theorem A1c(xs:List D):Zm (.box xs)=some (.box xs):=nr rfl
theorem A51(u n m:Nat):s.look pm [u] n m=if pm.rd u&&(s.k u==n)then Zm (s.v u)else none:=by
 simp only [St.look,List.isEmpty_nil,Bool.true_or,TC,BK];split
 ·cases s.v u<;>rfl
 ·rfl
def A52:Option D→Option D
 |some d=>Zm d
 |none=>none
theorem A53(u c n m:Nat)(p:AL):s.look pm (u::c::p) n m=if pm.rd u&&(s.k u==n)&&(s.m u==m)then A52 (BK (s.v u) (c::p))else none:=by
 simp only [St.look,List.isEmpty_cons,VZ];split
 ·cases BK (s.v u) (c::p)with
  |none=>rfl
  |some d=>cases d<;>rfl
 ·rfl
theorem A54(d:D):A52 (some d)=Zm d:=nr rfl
theorem AC9(x:ac)(e:ab)(xs:List D):Cx pm s x (.sl e xs)=some (e,xs,none):=nr rfl
theorem A55(u:Tmp)(e:ab)(xs:List D):Cx pm s (.tmp u) (.own e xs)=some (e,xs,some ([u],s.k u,s.m u)):=nr rfl
def A56(L:AL)(n m:Nat):Option D→Option (ab×List D×Option (AL×Nat×Nat))
 |some (.own e xs)=>some (e,xs,some (L,n,m))
 |_=>none
theorem A57(L:AL)(n m:Nat)(e:ab)(xs:List D):A56 L n m (some (.own e xs))=some (e,xs,some (L,n,m)):=nr rfl
theorem ACA(x:ac)(L:AL)(n m:Nat):Cx pm s x (.vw L n m)=A56 L n m (s.look pm L n m):=by
 simp only [Cx]
 cases s.look pm L n m with
 |none=>rfl
 |some o=>cases o<;>rfl
def sD(T:Tys):Option (ab×List D×Option (AL×Nat×Nat))→Option D
 |some (e,xs,_)=>if T.known e then some (.int .i64 (T.len e xs))else none
 |none=>none
theorem A58(e:ab)(xs:List D)(o:Option (AL×Nat×Nat))(hk:T.known e=true):sD T (some (e,xs,o))=some (.int .i64 (T.len e xs)):=by simp [sD,hk]
def ln0(T:Tys)(pm:Pm)(s:St)(x:ac)(d:D):Ty→Option D
 | .string=>match d with| .str b=>some (.int .i64 b.size)|_=>none
 | .slice _=>sD T (Cx pm s x d)
 |_=>none
theorem lnT(x:ac)(d:D):Mv T pm s t x d=ln0 T pm s x d (T.ty t):=by
 unfold Mv ln0
 cases T.ty t with
 |slice e=>
  simp only
  cases Cx pm s x d with
  |none=>rfl
  |some q=>rfl
 |string=>cases d<;>rfl
 |_=>rfl
theorem A59(x:ac)(e:ab)(xs:List D):NP T pm s t x (.sl e xs)=Mv T pm s t x (.sl e xs):=nr rfl
theorem A1d(x:ac)(e:ab)(xs:List D):NP T pm s t x (.own e xs)=Mv T pm s t x (.own e xs):=nr rfl
def lnW(T:Tys)(pm:Pm)(s:St)(t:ab)(x:ac)(L:AL)(n m:Nat):Ty→Option D
 | .map _ _=>(s.lookM pm L n).map fun q=> .int .i64 q.2.2.length
 |_=>Mv T pm s t x (.vw L n m)
theorem A5A(x:ac)(L:AL)(n m:Nat):NP T pm s t x (.vw L n m)=lnW T pm s t x L n m (T.ty t):=by
 show(match T.ty t with| .map _ _=>Yn T pm s t x (.vw L n m)|_=>Ym T pm s t x (.vw L n m))=_
 unfold lnW Yn
 cases h:T.ty t<;>simp only [TI]<;>first|rfl|(cases s.lookM pm L n<;>rfl)
theorem ACC(T:Tys)(x:ac)(L:AL)(n m:Nat)(k e:ab):lnW T pm s t x L n m (.map k e)=(s.lookM pm L n).map fun q=> .int .i64 q.2.2.length:=nr rfl
theorem ACD(T:Tys)(x:ac)(L:AL)(n m:Nat)(e:ab):lnW T pm s t x L n m (.slice e)=Mv T pm s t x (.vw L n m):=nr rfl
def A5B:D→Option (ab×ab×List (AP×AP))
 | .mp k e es=>some (k,e,es)
 |_=>none
theorem A5C(k e:ab)(es:List (AP×AP)):A5B (.mp k e es)=some (k,e,es):=nr rfl
theorem A1e(u n:Nat):s.lookM pm [u] n=if pm.rd u&&(s.k u==n)then A5B (s.v u)else none:=by
 simp only [St.lookM];split
 ·cases s.v u<;>rfl
 ·rfl
theorem A5D(x:ac)(e:ab)(L:AL)(n m lo len:Nat):NP T pm s t x (.vs e L n m lo len)=qo len (T.ty t):=nr rfl
theorem A5E(len:Nat)(e:ab):qo len (.slice e)=some (.int .i64 len):=nr rfl
theorem A5F(x:ac)(e:ab)(xs:List D)(i:D):QV T pm s t x (.sl e xs) i=Dc T pm s t x (.sl e xs) i:=nr rfl
theorem A1f(x:ac)(xs:List D)(i:D):QV T pm s t x (.box xs) i=Dc T pm s t x (.box xs) i:=nr rfl
theorem A5G(x:ac)(L:AL)(n m:Nat)(i:D):QV T pm s t x (.vw L n m) i=Dc T pm s t x (.vw L n m) i:=nr rfl
def sG(T:Tys)(e e1:ab)(L:AL)(va vb lo len:Nat)(n:Int):Option D→Option D
 |some (.own e2 xs)=>if e1=e∧e2=e∧T.known e=true∧T.size e=1∧0≤n∧n.toNat<len∧lo+len≤xs.length then some (.pe L (lo+n.toNat) va vb)else none
 |_=>none
def A1g(T:Tys)(pm:Pm)(s:St)(e1:ab)(L:AL)(va vb lo len:Nat)(n:Int):Ty→Option D
 | .slice e=>sG T e e1 L va vb lo len n (s.look pm L va vb)
 |_=>none
theorem A5H(x:ac)(e:ab)(L:AL)(va vb lo len:Nat)(k:IntKind)(n:Int):QV T pm s t x (.vs e L va vb lo len) (.int k n)=A1g T pm s e L va vb lo len n (T.ty t):=by
 show lH T pm s t e L va vb lo len (.int k n)=_
 unfold lH A1g
 cases T.ty t with
 |slice e'=>
  simp only;rcases s.look pm L va vb with _|d
  ·rfl
  ·cases d<;>rfl
 |_=>rfl
theorem A5I(e1:ab)(L:AL)(va vb lo len:Nat)(n:Int)(e:ab):A1g T pm s e1 L va vb lo len n (.slice e)=sG T e e1 L va vb lo len n (s.look pm L va vb):=nr rfl
theorem A5J(e:ab)(L:AL)(va vb lo len:Nat)(n:Int)(xs:List D)(hk:T.known e=true)(hz:T.size e=1)(h1:0≤n∧n.toNat<len)(h2:lo+len≤xs.length):sG T e e L va vb lo len n (some (.own e xs))=some (.pe L (lo+n.toNat) va vb):=by
 unfold sG;dsimp only;rw [if_pos ⟨rfl,rfl,hk,hz,h1.1,h1.2,h2⟩]
theorem ACE(x:ac)(d:D)(e:ab):ln0 T pm s x d (.slice e)=sD T (Cx pm s x d):=nr rfl
theorem A5K(e:ab)(xs:List D)(h:T.size e=1):T.len e xs=xs.length:=by simp [Tys.len,h]
def jv(T:Tys)(e:ab)(n:Int):Option (ab×List D×Option (AL×Nat×Nat))→Option D
 |some (e',xs,o)=>
  if e'=e∧T.known e=true∧0≤n∧n.toNat<T.len e xs then
   match o with
   |none=>some (.cptr ((xs.drop (n.toNat*T.size e)).take (T.size e)))
   |some (L,a,b)=>some (.pe L (n.toNat*T.size e) a b)
  else none
 |none=>none
def ix0(T:Tys)(pm:Pm)(s:St)(x:ac)(d:D)(n:Int):Ty→Option D
 | .slice e=>jv T e n (Cx pm s x d)
 | .arr len e=>
  if 0≤n∧n.toNat<len∧T.known e=true∧T.size e=1 then
   match d with
   | .box _=>match x with| .tmp u=>some (.pe [u] n.toNat (s.k u) (s.m u))|_=>none
   | .vw L n1 m1=>match s.look pm L n1 m1 with|some (.box _)=>some (.pe L n.toNat n1 m1)|_=>none
   | .cptr xs=>some (.cptr (xs.drop n.toNat))
   |_=>none
  else none
 |_=>none
theorem ACF(u:Tmp)(xs:List D)(n:Int)(len:Nat)(e:ab)(hk:T.known e=true)(hz:T.size e=1)(hn:0≤n∧n.toNat<len):ix0 T pm s (.tmp u) (.box xs) n (.arr len e)=some (.pe [u] n.toNat (s.k u) (s.m u)):=by
 unfold ix0;dsimp only;rw [if_pos ⟨hn.1,hn.2,hk,hz⟩]
theorem ixT(x:ac)(d:D)(k:IntKind)(n:Int):Dc T pm s t x d (.int k n)=ix0 T pm s x d n (T.ty t):=by
 unfold Dc ix0
 cases T.ty t with
 |slice e=>
  simp only
  cases Cx pm s x d with
  |none=>rfl
  |some q=>rfl
 |_=>rfl
theorem ACG(x:ac)(d:D)(n:Int)(e:ab):ix0 T pm s x d n (.slice e)=jv T e n (Cx pm s x d):=nr rfl
theorem ACH(e:ab)(n:Int)(xs:List D)(hk:T.known e=true)(hz:T.size e=1)(hn:0≤n∧n.toNat<xs.length):jv T e n (some (e,xs,none))=some (.cptr [xs.getD n.toNat .undef]):=by
 simp only [jv,hk,hz,Tys.len,if_true];rw [if_pos ⟨trivial,trivial,hn.1,hn.2⟩,NG,iU hn.2,KR,Gl hn.2];rfl
theorem ACI(e:ab)(n:Int)(xs:List D)(L:AL)(a b:Nat)(hk:T.known e=true)(hz:T.size e=1)(hn:0≤n∧n.toNat<xs.length):jv T e n (some (e,xs,some (L,a,b)))=some (.pe L n.toNat a b):=by
 simp only [jv,hk,hz,Tys.len,if_true];rw [if_pos ⟨trivial,trivial,hn.1,hn.2⟩,NG]
end
section
variable {T:Tys} {pm:Pm} {s:St} {t:ab} (u:Tmp)
def aj(pm:Pm)(s:St)(u:Tmp)(d:D):Option (D×St):=Bz pm (if d.hasObj then s.clr u else s) d
theorem A5M:take T pm s t (.tmp u)=aj pm s u (s.v u):=nr rfl
theorem tkC(v:Value):take T pm s t (.const v)=match ev T s t (.const v)with|none=>none|some d=>Bz pm s d:=nr rfl
theorem A5N(k:IntKind)(n:Int):Bz pm s (.int k n)=some (.int k n,s):=by simp [Bz]
theorem A5O(e:ab)(xs:List D):Bz pm s (.own e xs)=some (.own e xs,s):=by simp [Bz]
theorem ACJ(L:AL)(n m:Nat):Bz pm s (.vw L n m)=NK pm s L n m:=by simp [Bz]
def td1:Option (List D×St)→Option (D×St)
 |some r=>some (.agg r.1,r.2)
 |none=>none
theorem ACK(r:List D×St):td1 (some r)=some (.agg r.1,r.2):=nr rfl
theorem A5Q(xs:List D):Bz pm s (.agg xs)=td1 (EJ pm s xs):=by simp only [Bz];cases EJ pm s xs<;>rfl
def td2(pm:Pm)(ds:List D):Option (D×St)→Option (List D×St)
 |some r=>(EJ pm r.2 ds).map fun q=>(r.1::q.1,q.2)
 |none=>none
theorem ACM(ds:List D)(d:D):td2 pm ds (some (d,s))=(EJ pm s ds).map fun q=>(d::q.1,q.2):=nr rfl
theorem A1h:EJ pm s []=some ([],s):=by simp [EJ]
theorem sI(d:D)(ds:List D):EJ pm s (d::ds)=td2 pm ds (Bz pm s d):=by simp only [EJ];cases Bz pm s d<;>rfl
theorem A5R(k:IntKind)(n:Int):aj pm s u (.int k n)=some (.int k n,s):=by simp [aj,Bz,D.hasObj]
theorem A1i(b:Bool):aj pm s u (.bool b)=some (.bool b,s):=by simp [aj,Bz,D.hasObj]
theorem ACN(e:ab)(xs:List D):aj pm s u (.sl e xs)=some (.sl e xs,s):=by simp [aj,Bz,D.hasObj]
theorem A5S(e:ab)(xs:List D):aj pm s u (.own e xs)=some (.own e xs,s.clr u):=by simp [aj,Bz,D.hasObj]
theorem A5T(f:am)(xs:List D):aj pm s u (.clo f xs)=some (.clo f xs,s):=by simp [aj,Bz,D.hasObj]
theorem ACO(L:AL)(n m:Nat):aj pm s u (.vw L n m)=NK pm s L n m:=by simp [aj,Bz,D.hasObj]
theorem A5U(xs:List D):aj pm s u (.agg xs)=td1 (EJ pm (if Al xs then s.clr u else s) xs):=by
 simp only [aj,D.hasObj];rw [A5Q];rfl
theorem A1j:Al []=false:=by simp [Al]
theorem gB(d:D)(ds:List D):Al (d::ds)=(d.hasObj||Al ds):=by simp [Al]
theorem A5V(e:ab)(xs:List D):(D.sl e xs).hasObj=false:=by simp [D.hasObj]
theorem A5W(e:ab)(xs:List D):(D.own e xs).hasObj=true:=by simp [D.hasObj]
theorem A5X(xs:List D):(D.box xs).hasObj=true:=by simp [D.hasObj]
theorem ACP(L:AL)(n m:Nat):(D.vw L n m).hasObj=false:=by simp [D.hasObj]
theorem A5Y(xs:List D):(D.agg xs).hasObj=Al xs:=by simp [D.hasObj]
theorem A5Z(xs:List D):(D.tup xs).hasObj=Al xs:=by simp [D.hasObj]
def pl1(s:St)(r:Nat):Option D→Option (D×St)
 |some c=>some (c,s.set [r] .undef)
 |none=>none
theorem ACR(r:Nat)(c:D):pl1 s r (some c)=some (c,s.set [r] .undef):=nr rfl
theorem A5a(r n m:Nat)(hw:pm.wr r=true):NK pm s [r] n m=pl1 s r (s.look pm [r] n m):=by
 unfold NK
 cases s.look pm [r] n m with
 |none=>rfl
 |some c=>simp [hw,St.get,pl1]
def pl2(s:St)(L:AL)(o:Option D):Option D→Option (D×St)
 |some c=>match o with
  |some (.own _ _)=>(Dn c).map fun c'=>(c',s.set L c')
  |_=>some (c,s.set L .undef)
 |none=>none
theorem ACS(L:AL)(xs:List D)(c:D):pl2 s L (some (.box xs)) (some c)=some (c,s.set L .undef):=nr rfl
theorem ACT(L:AL)(xs:List D)(c:D):pl2 s L (some (.agg xs)) (some c)=some (c,s.set L .undef):=nr rfl
theorem A5c(u' c n m:Nat)(p:AL)(hw:pm.wr u'=true):NK pm s (u'::c::p) n m=pl2 s (u'::c::p) (s.get (u'::c::p).dropLast) (s.look pm (u'::c::p) n m):=by
 unfold NK
 cases s.look pm (u'::c::p) n m with
 |none=>rfl
 |some d=>simp only [TB,hw,if_true,pl2];rfl
theorem ACU(r:Nat):s.get [r]=some (s.v r):=nr rfl
theorem A5d(d:D):BK d []=some d:=by cases d<;>rfl
theorem A5e(e:ab)(xs:List D)(c:Nat)(p:AL):BK (.own e xs) (c::p)=(xs[c]?).bind fun d=>BK d p:=nr rfl
theorem A5f(xs:List D)(c:Nat)(p:AL):BK (.box xs) (c::p)=(xs[c]?).bind fun d=>BK d p:=nr rfl
theorem A5g(xs:List D)(c:Nat)(p:AL):BK (.agg xs) (c::p)=(xs[c]?).bind fun d=>BK d p:=nr rfl
theorem A5h(d x:D):Gc d [] x=x:=by cases d<;>rfl
theorem A5i(e:ab)(xs:List D)(c:Nat)(p:AL)(x:D):Gc (.own e xs) (c::p) x= .own e (xs.set c (Gc (xs.getD c .undef) p x)):=nr rfl
theorem A5j(xs:List D)(c:Nat)(p:AL)(x:D):Gc (.box xs) (c::p) x= .box (xs.set c (Gc (xs.getD c .undef) p x)):=nr rfl
end
section
variable {T:Tys} {pm:Pm} {s:St} {t:ab}
def Yi(T:Tys)(pm:Pm)(t:ab)(ax:ac):Option (D×St)→Option St
 |none=>none
 |some (d,s1)=>
  match ev T s1 t ax with
  |none=>none
  |some ad=>
   match Gd pm s1 ax ad with
   |none=>none
   |some (L,c,o)=>
    if T.known t&&pm.wr (L.headD 0)&&d.asCells.all Cq&&(T.size t==d.asCells.length)&&(T.isStruct t==d.isAgg)&&decide (c+T.size t≤o.cells.length)then
     let s2:=s1.set L (o.withCells (BU o.cells c d.asCells))
     some (if d.hasObj||Al o.cells then s2.bump (L.headD 0)else s2)
    else none
theorem A1k(ax x:ac):Iq T pm s t ax x=Yi T pm t ax (take T pm s t x):=by
 unfold Iq Fx Yi;rcases take T pm s t x with _|⟨d,s1⟩<;>rfl
def tm1(T:Tys)(pm:Pm)(s:St)(t:ab)(u:Tmp):D→Option (D×St)
 | .vw L n m=>TF pm s L n m
 |_=>take T pm s t (.tmp u)
theorem A1l(u:Tmp):KS T pm s t (.tmp u)=tm1 T pm s t u (s.v u):=by
 unfold KS;simp only [ev]
 cases s.v u<;>rfl
def tm2(s:St)(L:AL):Option D→Option (D×St)
 |some c=>some (c,s.set L .undef)
 |none=>none
theorem ACX(u:Tmp)(L:AL)(n m:Nat)(hw:pm.wr (L.headD 0)=true):tm1 T pm s t u (.vw L n m)=tm2 s L (s.look pm L n m):=by
 show TF pm s L n m=_
 unfold TF tm2
 cases s.look pm L n m with
 |none=>rfl
 |some c=>simp only [hw,if_true]
theorem A1m(u:Tmp)(e:ab)(xs:List D):tm1 T pm s t u (.own e xs)=take T pm s t (.tmp u):=nr rfl
theorem ACY(L:AL)(c:D):tm2 s L (some c)=some (c,s.set L .undef):=nr rfl
def vH(s1:St)(L:AL)(c:Nat)(d:D):Option D→Option St
 |none=>none
 |some o=>if c<o.cells.length then(if d.hasObj||Al o.cells then some ((s1.set L (o.withCells (o.cells.set c d))).bump (L.headD 0))else some (s1.set L (o.withCells (o.cells.set c d))))else none
def sd1(T:Tys)(pm:Pm)(t:ab)(u:Tmp)(d:D)(s:St):D→Option St
 | .pe L c n m=>if T.known t&& !T.isStruct t&&pm.wr (L.headD 0)&&Cq d then vH s L c d (s.look pm L n m)else Yi T pm t (.tmp u) (some (d,s))
 | .vw L n m=>if T.known t&& !T.isStruct t&&pm.wr (L.headD 0)&&Cq d then vH s L 0 d (vG s pm L n m)else Yi T pm t (.tmp u) (some (d,s))
 | .box xs=>if T.known t&& !T.isStruct t&&pm.wr u&&Cq d then vH s [u] 0 d (some (.box xs))else Yi T pm t (.tmp u) (some (d,s))
 |_=>Yi T pm t (.tmp u) (some (d,s))
theorem Nh{d:D}(hd:Cq d=true):d.asCells=[d]∧d.isAgg=false:=by
 cases d<;>first|exact⟨rfl,rfl⟩|(simp [Cq]at hd)
theorem M0{T:Tys}{t:ab}(hs:T.isStruct t=false):T.size t=1:=by
 unfold Tys.isStruct at hs;unfold Tys.size
 cases hty:T.ty t<;>simp_all [Ty.isStruct,Ty.size]
theorem ACZ(u:Tmp)(d:D)(_:d.isAgg=false):Yi T pm t (.tmp u) (some (d,s))=sd1 T pm t u d s (s.v u):=by
 cases hv:s.v u<;>simp only [sd1]
 case pe L c n m=>
  split
  ·rename_i hc
   simp only [FU,LM]at hc;obtain⟨⟨⟨hk,hs⟩,hw⟩,hd⟩:=hc;obtain⟨ha,hg⟩:=Nh hd;have hz:=M0 hs;simp only [Yi,ev,hv,Gd]
   cases s.look pm L n m with
   |none=>rfl
   |some o=>
    simp only [vH,hk,hw,ha,hz,hs,hg,PQ,hd,List.all_nil,ND,QS,TC,BU,beq_self_eq_true,JC];by_cases hc:c<o.cells.length
    ·have h1:c+1≤o.cells.length:=hc;simp only [hc,h1,decide_true,TC,if_true];split<;>first|rfl|(rename_i hq;simp only [hq];rfl)
    ·have h1: ¬c+1≤o.cells.length:=hc;simp only [hc,h1,decide_false,Bool.and_false,Ip,if_false]
  ·rfl
 case vw L n m=>
  split
  ·rename_i hc
   simp only [FU,LM]at hc;obtain⟨⟨⟨hk,hs⟩,hw⟩,hd⟩:=hc;obtain⟨ha,hg⟩:=Nh hd;have hz:=M0 hs;simp only [Yi,ev,hv,Gd,vG]
   cases s.look pm L n m with
   |none=>rfl
   |some o=>
    cases o<;>try rfl
    rename_i xs
    simp only [vH,hk,hw,ha,hz,hs,hg,PQ,hd,List.all_nil,ND,QS,TC,BU,beq_self_eq_true,JC,D.cells];by_cases hc:0<xs.length
    ·have h1:1≤xs.length:=hc;simp only [hc,h1,decide_true,TC,if_true];split<;>first|rfl|(rename_i hq;simp only [hq];rfl)
    ·have h1: ¬1≤xs.length:=hc;simp only [hc,h1,decide_false,Bool.and_false,Ip,if_false]
  ·rfl
 case box xs=>
  split
  ·rename_i hc
   simp only [FU,LM]at hc;obtain⟨⟨⟨hk,hs⟩,hw⟩,hd⟩:=hc;obtain⟨ha,hg⟩:=Nh hd;have hz:=M0 hs;simp only [Yi,ev,hv,Gd];simp only [vH,hk,hw,ha,hz,hs,hg,PQ,hd,List.all_nil,ND,QS,TC,BU,beq_self_eq_true,JC,D.cells,TB];by_cases hc:0<xs.length
   ·have h1:1≤xs.length:=hc;simp only [hc,h1,decide_true,TC,if_true];split<;>first|rfl|(rename_i hq;simp only [hq];rfl)
   ·have h1: ¬1≤xs.length:=hc;simp only [hc,h1,decide_false,Bool.and_false,Ip,if_false]
  ·rfl
theorem ACa(u:Tmp)(d:D)(L:AL)(c n m:Nat)(hk:T.known t=true)(hs:T.isStruct t=false)(hw:pm.wr (L.headD 0)=true)(hd:Cq d=true):sd1 T pm t u d s (.pe L c n m)=vH s L c d (s.look pm L n m):=by
 simp [sd1,hk,hs,hd];intro h;simp_all
theorem hdC(a:Nat)(l:AL)(d:Nat):List.headD (a::l) d=a:=nr rfl
theorem ACb(L:AL)(c:Nat)(d o:D):vH s L c d (some o)=if c<o.cells.length then(if d.hasObj||Al o.cells then some ((s.set L (o.withCells (o.cells.set c d))).bump (L.headD 0))else some (s.set L (o.withCells (o.cells.set c d))))else none:=nr rfl
theorem A5k(e:ab)(xs:List D):(D.own e xs).cells=xs:=nr rfl
theorem A5l(xs:List D):(D.box xs).cells=xs:=nr rfl
theorem A5m(e:ab)(xs ys:List D):(D.own e xs).withCells ys= .own e ys:=nr rfl
theorem A5n(xs ys:List D):(D.box xs).withCells ys= .box ys:=nr rfl
theorem A5o(k:IntKind)(n:Int):Cq (.int k n)=true:=nr rfl
theorem A5p(e:ab)(xs:List D):Cq (.own e xs)=true:=nr rfl
theorem ceS(L:AL)(c:Nat)(o:D):UD s L c (some o)=(o.cells[c]?).bind fun x=>Ce (CF s L c x):=nr rfl
theorem ACc(L:AL)(c:Nat)(e:ab)(xs:List D):Ce (CF s L c (.sl e xs))=some (.sl e xs):=nr rfl
theorem A1n(L:AL)(c:Nat)(xs:List D):Ce (CF s L c (.cptr xs))=some (.cptr xs):=nr rfl
theorem ACd(r:Nat)(p:AL):l5 s (r::p)= .vw (r::p) (s.k r) (s.m r):=nr rfl
def ap1(T:Tys)(pm:Pm)(e:ab)(ty:ab)(y:ac):Option (D×St)→Option (D×St)
 |some (.own e1 xs,s1)=>
   match ev T s1 ty y with
   |some d=>
    match Cx pm s1 y d with
    |some (e2,ys,_)=>
     if e1=e∧e2=e∧T.elem e=true∧ys.all Cq=true∧xs.length+ys.length<1099511627776 then
      if Al ys then
       match d,y with
       | .own _ _,.tmp u=>some (.own e (xs++ys),s1.clr u)
       |_,_=>none
      else some (.own e (xs++ys),s1)
     else none
    |none=>none
   |none=>none
 |_=>none
def az1(T:Tys)(e:ab):Option (D×St)→Option (D×St)
 |some (.own e1 xs,s1)=>if e1=e∧T.known e=true then some (.own e xs,s1)else none
 |_=>none
def az0(T:Tys)(pm:Pm)(s:St)(ty:ab)(x:ac):Ty→Option (D×St)
 | .slice e=>az1 T e (take T pm s ty x)
 |_=>none
theorem A5s(ty:ab)(x:ac):KU T pm s ty x=az0 T pm s ty x (T.ty ty):=by
 unfold KU az0
 cases T.ty ty with
 |slice e=>
  simp only [az1];rcases take T pm s ty x with _|⟨d,s1⟩
  ·rfl
  ·cases d<;>rfl
 |_=>rfl
theorem Sg{T:Tys}{e:ab}(hk:T.known e=true)(h4:T.size e≤4):T.elem e=true:=by simp [Tys.elem,hk,h4]
theorem ACf(ty:ab)(x:ac)(e:ab):az0 T pm s ty x (.slice e)=az1 T e (take T pm s ty x):=nr rfl
theorem ACg(e:ab)(xs:List D)(hk:T.known e=true):az1 T e (some (.own e xs,s))=some (.own e xs,s):=by simp [az1,hk]
def ap0(T:Tys)(pm:Pm)(s:St)(ty:ab)(x y:ac):Ty→Option (D×St)
 | .slice e=>ap1 T pm e ty y (KS T pm s ty x)
 |_=>none
theorem ACi(ty:ab)(x y:ac):Fy T pm s ty x y=ap0 T pm s ty x y (T.ty ty):=by
 unfold Fy ap0
 cases T.ty ty with
 |slice e=>
  simp only [ap1];rcases KS T pm s ty x with _|⟨d,s1⟩
  ·rfl
  ·cases d<;>rfl
 |_=>rfl
theorem ACj(ty:ab)(x y:ac)(e:ab):ap0 T pm s ty x y (.slice e)=ap1 T pm e ty y (KS T pm s ty x):=nr rfl
def ap2(T:Tys)(e e1:ab)(xs:List D)(s:St)(u:Tmp)(d:D):Option (ab×List D×Option (AL×Nat×Nat))→Option (D×St)
 |some (e2,ys,_)=>
     if e1=e∧e2=e∧T.elem e=true∧ys.all Cq=true∧xs.length+ys.length<1099511627776 then
      if Al ys then
       match d with
       | .own _ _=>some (.own e (xs++ys),s.clr u)
       |_=>none
      else some (.own e (xs++ys),s)
     else none
 |none=>none
theorem ACk(ty e e1:ab)(u:Tmp)(xs:List D):ap1 T pm e ty (.tmp u) (some (.own e1 xs,s))=ap2 T e e1 xs s u (s.v u) (Cx pm s (.tmp u) (s.v u)):=by
 simp only [ap1,ev,ap2];rcases Cx pm s (.tmp u) (s.v u)with _|⟨e2,ys,o⟩
 ·rfl
 ·simp only;split
  ·split
   ·cases s.v u<;>rfl
   ·rfl
  ·rfl
theorem ACl(e:ab)(u:Tmp)(xs ys:List D)(d:D)(o:Option (AL×Nat×Nat))(hk:T.known e=true)(h4:T.size e≤4)(hy:ys.all Cq=true)(hno:Al ys=false)(hl:xs.length+ys.length<1099511627776):
  ap2 T e e xs s u d (some (e,ys,o))=some (.own e (xs++ys),s):=by
 simp only [ap2];rw [if_pos ⟨trivial,trivial,Sg hk h4,hy,hl⟩,hno];simp
end
section
variable {E:Env} {pm:Pm} {s:St} {dst:Option Tmp}
def Zn(a:D)(l:List (AL×D)):Option (List D×List (AL×D))→Option (List D×List (AL×D))
 |some (as,ls)=>some (a::as,l++ls)
 |none=>none
theorem A1o(a:D)(l:List (AL×D))(as:List D)(ls:List (AL×D)):Zn a l (some (as,ls))=some (a::as,l++ls):=nr rfl
def Rb(E:Env)(lend:Bool)(pm:Pm)(s:St)(j:Nat)(rest:List (ac×ab)):Option (D×List (AL×D))→Option (List D×List (AL×D))
 |some (a,l)=>Zn a l (DL E lend pm s (j+l.length) rest)
 |none=>none
theorem A1p(lend:Bool)(j:Nat)(rest:List (ac×ab))(a:D)(l:List (AL×D)):Rb E lend pm s j rest (some (a,l))=Zn a l (DL E lend pm s (j+l.length) rest):=nr rfl
theorem A5t(lend:Bool)(j:Nat):DL E lend pm s j []=some ([],[]):=nr rfl
theorem A5u(lend:Bool)(j:Nat)(u:Tmp)(t:ab)(rest:List (ac×ab)):DL E lend pm s j ((.tmp u,t)::rest)=Rb E lend pm s j rest (KA E.T lend pm s j [u] (s.v u)):=by
 simp only [DL,ev];rcases KA E.T lend pm s j [u] (s.v u)with _|⟨a,l⟩
 ·rfl
 ·simp only [Rb];rcases DL E lend pm s (j+l.length) rest with _|⟨as,ls⟩<;>rfl
def aC(E:Env)(lend:Bool)(pm:Pm)(s:St)(j:Nat)(rest:List (ac×ab)):Option D→Option (List D×List (AL×D))
 |some d=>Rb E lend pm s j rest (KA E.T lend pm s j [] d)
 |none=>none
theorem aCS(lend:Bool)(j:Nat)(rest:List (ac×ab))(d:D):aC E lend pm s j rest (some d)=Rb E lend pm s j rest (KA E.T lend pm s j [] d):=nr rfl
theorem arC(lend:Bool)(j:Nat)(v:Value)(t:ab)(rest:List (ac×ab)):DL E lend pm s j ((.const v,t)::rest)=aC E lend pm s j rest (ev E.T s t (.const v)):=by
 simp only [DL]
 cases ev E.T s t (.const v)with
 |none=>rfl
 |some d=>
  simp only [aC];rcases KA E.T lend pm s j [] d with _|⟨a,l⟩
  ·rfl
  ·simp only [Rb];rcases DL E lend pm s (j+l.length) rest with _|⟨as,ls⟩<;>rfl
theorem arF(lend:Bool)(j:Nat)(f:am)(t:ab)(rest:List (ac×ab)):DL E lend pm s j ((.func f,t)::rest)=Rb E lend pm s j rest (KA E.T lend pm s j [] (.clo f [])):=by
 simp only [DL,ev];rcases KA E.T lend pm s j [] (.clo f [])with _|⟨a,l⟩
 ·rfl
 ·simp only [Rb];rcases DL E lend pm s (j+l.length) rest with _|⟨as,ls⟩<;>rfl
variable (lend:Bool) (j:Nat) (L:AL)
theorem A5v(T:Tys)(k:IntKind)(n:Int):KA T lend pm s j L (.int k n)=Cy lend pm s j L (.int k n):=nr rfl
theorem A1q(T:Tys)(b:Bool):KA T lend pm s j L (.bool b)=Cy lend pm s j L (.bool b):=nr rfl
theorem ACm(T:Tys)(e:ab)(xs:List D):KA T lend pm s j L (.sl e xs)=Cy lend pm s j L (.sl e xs):=nr rfl
theorem A5w(T:Tys)(f:am)(xs:List D):KA T lend pm s j L (.clo f xs)=Cy lend pm s j L (.clo f xs):=nr rfl
theorem axK(T:Tys)(v:Value):KA T lend pm s j L (.konst v)=Cy lend pm s j L (.konst v):=nr rfl
theorem A5x(T:Tys)(e:ab)(xs:List D):KA T lend pm s j L (.own e xs)=Cy lend pm s j L (.own e xs):=nr rfl
theorem ACn(T:Tys)(M:AL)(n m:Nat):KA T lend pm s j L (.vw M n m)=Cy lend pm s j L (.vw M n m):=nr rfl
theorem A5y(T:Tys)(xs:List D):KA T lend pm s j L (.agg xs)=Cy lend pm s j L (.agg xs):=nr rfl
theorem A5z(k:IntKind)(n:Int):Cy lend pm s j L (.int k n)=some (.int k n,[]):=nr rfl
theorem A1r(b:Bool):Cy lend pm s j L (.bool b)=some (.bool b,[]):=nr rfl
theorem ACo(e:ab)(xs:List D):Cy lend pm s j L (.sl e xs)=some (.sl e xs,[]):=nr rfl
theorem A60(f:am)(xs:List D):Cy lend pm s j L (.clo f xs)=some (.clo f xs,[]):=nr rfl
theorem atK(v:Value):Cy lend pm s j L (.konst v)=some (.konst v,[]):=nr rfl
def fz1(l:List (AL×D)):Option D→Option (D×List (AL×D))
 |some c=>some (c,l)
 |none=>none
theorem ACp(l:List (AL×D))(c:D):fz1 l (some c)=some (c,l):=nr rfl
theorem A61(e:ab)(xs:List D):Cy false pm s j L (.own e xs)=fz1 [(L,.own e xs)] (Dn (.own e xs)):=by
 show((Dn (.own e xs)).map fun c'=>(c',[(L,D.own e xs)]))=_
 cases Dn (.own e xs)<;>rfl
def fz2(L:AL):Option D→Option (D×List (AL×D))
 |some c=>fz1 [(L,c)] (Dn c)
 |none=>none
theorem ACr(c:D):fz2 L (some c)=fz1 [(L,c)] (Dn c):=nr rfl
theorem ACs(M:AL)(n m:Nat):Cy false pm s j L (.vw M n m)=fz2 M (s.look pm M n m):=by
 simp only [Cy,EQ]
 cases s.look pm M n m with
 |none=>rfl
 |some c=>simp only [fz2];cases Dn c<;>rfl
def ln2(j:Nat)(L:AL):Option D→Option (D×List (AL×D))
 |some c=>some (.vw [G+j] 0 0,[(L,c)])
 |none=>none
theorem ACt(c:D):ln2 j L (some c)=some (.vw [G+j] 0 0,[(L,c)]):=nr rfl
theorem A62(M:AL)(n m:Nat):Cy true pm s j L (.vw M n m)=ln2 j M (s.look pm M n m):=by
 simp only [Cy,EQ]
 cases s.look pm M n m<;>rfl
def ag1:Option (List D×List (AL×D))→Option (D×List (AL×D))
 |some r=>some (.agg r.1,r.2)
 |none=>none
theorem ACu(r:List D×List (AL×D)):ag1 (some r)=some (.agg r.1,r.2):=nr rfl
theorem A63(xs:List D):Cy lend pm s j L (.agg xs)=ag1 (Dr lend pm s L j 0 xs):=by
 simp only [Cy]
 cases Dr lend pm s L j 0 xs<;>rfl
def nI(lend:Bool)(pm:Pm)(s:St)(L0:AL)(j i:Nat)(ds:List D):Option (D×List (AL×D))→Option (List D×List (AL×D))
 |some (a,l)=>Zn a l (Dr lend pm s L0 (j+l.length) (i+1) ds)
 |none=>none
theorem A1s(i:Nat)(ds:List D)(a:D)(l:List (AL×D)):nI lend pm s L j i ds (some (a,l))=Zn a l (Dr lend pm s L (j+l.length) (i+1) ds):=nr rfl
theorem A64(i:Nat):Dr lend pm s L j i []=some ([],[]):=nr rfl
theorem A1t(i:Nat)(d:D)(ds:List D)(h:d.isAgg=false):Dr lend pm s L j i (d::ds)=nI lend pm s L j i ds (Cy lend pm s j (L++[i]) d):=by
 have:Cy lend pm s j (L++[i]) d=EQ lend pm s j (L++[i]) d:=by cases d<;>first|rfl|(simp [D.isAgg]at h)
 rw [this];simp only [Dr];rcases EQ lend pm s j (L++[i]) d with _|⟨a,l⟩
 ·rfl
 ·simp only [nI];rcases Dr lend pm s L (j+l.length) (i+1) ds with _|⟨as,ls⟩<;>rfl
theorem A65(k:IntKind)(n:Int):(D.int k n).isAgg=false:=nr rfl
theorem ACv(e:ab)(xs:List D):(D.sl e xs).isAgg=false:=nr rfl
theorem A66(e:ab)(xs:List D):(D.own e xs).isAgg=false:=nr rfl
theorem ACw(M:AL)(n m:Nat):(D.vw M n m).isAgg=false:=nr rfl
def cb1(E:Env)(pm:Pm)(s:St)(dst:Option Tmp)(f:am)(caps:List D):Option (List D×List (AL×D))→Option St
 |none=>none
 |some (as,ls)=>
  match E.call f (as++caps) []with
  |some (r,_)=>
   if Da r then
    if EU (ls.map (·.1))&&ls.all (fun l=>pm.wr (l.1.headD 0))then(I7 ls).map fun ls'=>(back false s ls').putO dst r else none
   else some (s.putO dst r)
  |none=>none
theorem cdB(f:am)(xs:List (ac×ab))(caps:List D)(h:E.lends f=false):FZ E pm s dst f xs caps=cb1 E pm s dst f caps (DL E false pm s 0 xs):=by
 unfold FZ cb1;rw [h];simp only [Ip,if_false];rcases DL E false pm s 0 xs with _|⟨as,ls⟩<;>rfl
def cb2(pm:Pm)(s:St)(dst:Option Tmp)(ls:List (AL×D)):Option (D×List D)→Option St
 |some (r,_)=>
   if Da r then
    if EU (ls.map (·.1))&&ls.all (fun l=>pm.wr (l.1.headD 0))then(I7 ls).map fun ls'=>(back false s ls').putO dst r else none
   else some (s.putO dst r)
 |none=>none
theorem ACx(f:am)(caps as:List D)(ls:List (AL×D)):cb1 E pm s dst f caps (some (as,ls))=cb2 pm s dst ls (E.call f (as++caps) []):=by
 simp only [cb1];rcases E.call f (as++caps) []with _|⟨r,o⟩<;>rfl
theorem ACy(ls:List (AL×D))(r:D)(o:List D)(h:Da r=false):cb2 pm s dst ls (some (r,o))=some (s.putO dst r):=by simp [cb2,h]
theorem ACz(r:D)(o:List D):cb2 pm s dst [] (some (r,o))=some (s.putO dst r):=by
 simp only [cb2];split<;>rfl
def cl1(E:Env)(pm:Pm)(s:St)(dst:Option Tmp)(f:am)(caps:List D):Option (List D×List (AL×D))→Option St
 |none=>none
 |some (as,ls)=>
   if EU (ls.map (·.1))&&ls.all (fun l=>pm.wr (l.1.headD 0))&&ls.all (fun l=>ai l.2)then
    match E.call f (as++caps) (ls.map (·.2))with
    |some (r,outs)=>if outs.length=ls.length then some ((JZ s (ls.map (·.1)) outs).putO dst r)else none
    |none=>none
   else none
theorem cdL(f:am)(xs:List (ac×ab))(caps:List D)(h:E.lends f=true):FZ E pm s dst f xs caps=cl1 E pm s dst f caps (DL E true pm s 0 xs):=by
 unfold FZ cl1;rw [h];simp only [if_true];rcases DL E true pm s 0 xs with _|⟨as,ls⟩<;>rfl
def cl2(s:St)(dst:Option Tmp)(ls:List (AL×D)):Option (D×List D)→Option St
 |some (r,outs)=>if outs.length=ls.length then some ((JZ s (ls.map (·.1)) outs).putO dst r)else none
 |none=>none
theorem AD1(f:am)(caps as:List D)(ls:List (AL×D))(h:(EU (ls.map (·.1))&&ls.all (fun l=>pm.wr (l.1.headD 0))&&ls.all (fun l=>ai l.2))=true):cl1 E pm s dst f caps (some (as,ls))=cl2 s dst ls (E.call f (as++caps) (ls.map (·.2))):=by
 simp only [cl1,h,if_true];rcases E.call f (as++caps) (ls.map (·.2))with _|⟨r,o⟩<;>rfl
theorem AD2(ls:List (AL×D))(r:D)(outs:List D)(h:outs.length=ls.length):cl2 s dst ls (some (r,outs))=some ((JZ s (ls.map (·.1)) outs).putO dst r):=by simp [cl2,h]
end
theorem A67(k:IntKind)(n:Int):Da (.int k n)=false:=by simp [Da]
theorem A1v(b:Bool):Da (.bool b)=false:=by simp [Da]
theorem A68(e:ab)(xs:List D):Da (.own e xs)=Db xs:=by simp [Da]
theorem A69(xs:List D):Da (.agg xs)=Db xs:=by simp [Da]
theorem A6A(xs:List D):Da (.tup xs)=Db xs:=by simp [Da]
theorem A1w:Db []=false:=by simp [Db]
theorem sJ(d:D)(ds:List D):Db (d::ds)=(Da d||Db ds):=by simp [Db]
theorem A6B(k:IntKind)(n:Int):Dn (.int k n)=some (.int k n):=by simp [Dn]
theorem A1x(b:Bool):Dn (.bool b)=some (.bool b):=by simp [Dn]
theorem AD3(e:ab)(xs:List D):Dn (.sl e xs)=some (.sl e xs):=by simp [Dn]
theorem A6C(f:am)(xs:List D):Dn (.clo f xs)=some (.clo f xs):=by simp [Dn]
def fzM(f:List D→D):Option (List D)→Option D
 |some xs=>some (f xs)
 |none=>none
theorem AD4(f:List D→D)(xs:List D):fzM f (some xs)=some (f xs):=nr rfl
theorem vI(e:ab)(xs:List D):Dn (.own e xs)=fzM (.sl e) (Cw xs):=by simp only [Dn];cases Cw xs<;>rfl
theorem A6D(xs:List D):Dn (.agg xs)=fzM .agg (Cw xs):=by simp only [Dn];cases Cw xs<;>rfl
theorem A6E(xs:List D):Dn (.tup xs)=fzM .tup (Cw xs):=by simp only [Dn];cases Cw xs<;>rfl
theorem A1y:Cw []=some []:=by simp [Cw]
def fzC:Option D→Option (List D)→Option (List D)
 |some d,some ds=>some (d::ds)
 |_,_=>none
theorem AD5(d:D)(ds:List D):fzC (some d) (some ds)=some (d::ds):=nr rfl
theorem gD(d:D)(ds:List D):Cw (d::ds)=fzC (Dn d) (Cw ds):=by
 simp only [Cw];cases Dn d<;>cases Cw ds<;>rfl
theorem AD6(d:D):ai d=(Dn d).isSome:=nr rfl
section
variable {T:Tys} {s:St}
def qh(n:Nat):Option (D×St)→Option (D×List D)
 |none=>none
 |some (r,s')=>if ai r&&((an n).map fun j=>s'.v (G+j)).all l6 then some (r,(an n).map fun j=>s'.v (G+j))else none
theorem fiD(n:Nat)(rs:List ResultVar):XI T n rs s=qh n (MO T s rs):=by
 unfold XI qh;rcases MO T s rs with _|⟨r,s'⟩<;>rfl
theorem fi0(r:D):qh 0 (some (r,s))=if ai r then some (r,[])else none:=by simp [qh]
theorem fiA(r:D):qh 1 (some (r,s))=if ai r&&l6 (s.v 100000)then some (r,[s.v 100000])else none:=by
 simp [qh,G,List.range_succ]
theorem fiB(r:D):qh 2 (some (r,s))=if ai r&&(l6 (s.v 100000)&&l6 (s.v 100001))then some (r,[s.v 100000,s.v 100001])else none:=by
 simp [qh,G,List.range_succ,and_assoc]
theorem fiC(r:D):qh 3 (some (r,s))=if ai r&&(l6 (s.v 100000)&&(l6 (s.v 100001)&&l6 (s.v 100002)))then some (r,[s.v 100000,s.v 100001,s.v 100002])else none:=by
 simp [qh,G,List.range_succ,and_assoc]
theorem A1z(e:ab)(xs:List D):l6 (.own e xs)=(Dn (.own e xs)).isSome:=nr rfl
theorem AD7:l6 .undef=true:=nr rfl
theorem re1(r:ResultVar):MO T s [r]=TP T s r:=nr rfl
def reT:Option (List D×St)→Option (D×St)
 |some q=>some (.tup q.1,q.2)
 |none=>none
theorem AD8(q:List D×St):reT (some q)=some (.tup q.1,q.2):=nr rfl
theorem re2(r r':ResultVar)(rs:List ResultVar):MO T s (r::r'::rs)=reT (Lg T s (r::r'::rs)):=by
 show((Lg T s (r::r'::rs)).map fun q=>(D.tup q.1,q.2))=_
 cases Lg T s (r::r'::rs)<;>rfl
theorem A6F(t:Tmp):TP T s (.tmp t)=aj Pm.all s t (s.v t):=nr rfl
theorem A6G:Lg T s []=some ([],s):=nr rfl
def rdN(T:Tys)(rs:List ResultVar):Option (D×St)→Option (List D×St)
 |some (d,s)=>(Lg T s rs).map fun p=>(d::p.1,p.2)
 |none=>none
theorem AD9(rs:List ResultVar)(d:D):rdN T rs (some (d,s))=(Lg T s rs).map fun p=>(d::p.1,p.2):=nr rfl
theorem A20(r:ResultVar)(rs:List ResultVar):Lg T s (r::rs)=rdN T rs (TP T s r):=by
 simp only [Lg];rcases TP T s r with _|⟨d,s'⟩<;>rfl
theorem ADA(r:Nat):Pm.all.rd r=true:=nr rfl
theorem ADB(r:Nat):Pm.all.wr r=true:=nr rfl
def fU(s:St)(dst:Option Tmp)(u:Tmp)(i:Nat):Option D→Option St
 |none=>none
 |some (.agg ys)=>J3 s dst (Ce (.agg ((an ys.length).map fun j=>CF s [u,i] j (ys.getD j .undef))))
 |some c=>J3 s dst (Ce (CF s [u] i c))
theorem A6H(dst:Option Tmp)(u:Tmp)(xs:List D)(i:Nat):Hq s dst (.tmp u) (.tup xs) i=fU s dst u i xs[i]? :=by
 simp only [Hq];rcases xs[i]? with _|c
 ·rfl
 ·cases c<;>first|exact IC s dst _|rfl
theorem A6I(dst:Option Tmp)(u:Tmp)(i:Nat)(ys:List D):fU s dst u i (some (.agg ys))=J3 s dst (Ce (.agg ((an ys.length).map fun j=>CF s [u,i] j (ys.getD j .undef)))):=nr rfl
theorem A6J(dst:Option Tmp)(u:Tmp)(i:Nat)(k:IntKind)(n:Int):fU s dst u i (some (.int k n))=some (s.putO dst (.int k n)):=by simp [fU,Ce,CF,D.hasObj,J3]
theorem A21(dst:Option Tmp)(u:Tmp)(i:Nat)(b:Bool):fU s dst u i (some (.bool b))=some (s.putO dst (.bool b)):=by simp [fU,Ce,CF,D.hasObj,J3]
theorem A6K(xs:List D)(c:Nat)(p:AL):BK (.tup xs) (c::p)=(xs[c]?).bind fun d=>BK d p:=nr rfl
theorem ADC(L:AL)(xs:List D)(c:D):pl2 s L (some (.tup xs)) (some c)=some (c,s.set L .undef):=nr rfl
theorem A6L(deep:Bool):back deep s []=s:=nr rfl
theorem bkT(t:Nat)(p:AL)(c:D)(rest:List (AL×D)):back true s ((t::p,c)::rest)=back true ((s.set (t::p) c).bump t) rest:=nr rfl
theorem bkF(t:Nat)(p:AL)(c:D)(rest:List (AL×D)):back false s ((t::p,c)::rest)=back false (s.set (t::p) c) rest:=nr rfl
theorem bkL(Ls:List AL)(outs:List D):JZ s Ls outs=back true (back false s (Ls.map fun L=>(L,.undef))) (Ls.zip outs):=nr rfl
theorem A6M:EU []=true:=nr rfl
theorem A22(L:AL)(Ls:List AL):EU (L::Ls)=((L.isEmpty||Ls.all fun M=>M.isEmpty||(!L.isPrefixOf M&& !M.isPrefixOf L))&&EU Ls):=nr rfl
theorem ipC(a b:Nat)(l m:AL):List.isPrefixOf (a::l) (b::m)=(a==b&&List.isPrefixOf l m):=nr rfl
theorem ipN(l:AL):List.isPrefixOf [] l=true:=by cases l<;>rfl
theorem ieC(a:Nat)(l:AL):List.isEmpty (a::l)=false:=nr rfl
end
section
variable {T:Tys} {pm:Pm} {s:St}
def fl1(T:Tys)(pm:Pm)(tf:Nat→ab)(sz:Nat)(cs:List D)(i:Nat)(rest:List (Nat×ac)):Option (D×St)→Option (List D×St)
 |none=>none
 |some (d,s1)=>if d.asCells.length=sz∧i*sz+sz≤cs.length then FY T pm tf sz s1 (BU cs (i*sz) d.asCells) rest else none
theorem A6N(tf:Nat→ab)(sz:Nat)(cs:List D):FY T pm tf sz s cs []=some (cs,s):=nr rfl
theorem A23(tf:Nat→ab)(sz:Nat)(cs:List D)(i:Nat)(x:ac)(rest:List (Nat×ac)):FY T pm tf sz s cs ((i,x)::rest)=fl1 T pm tf sz cs i rest (take T pm s (tf i) x):=by
 simp only [FY];rcases take T pm s (tf i) x with _|⟨d,s1⟩<;>rfl
theorem ADF(tf:Nat→ab)(cs:List D)(i:Nat)(rest:List (Nat×ac))(d:D)(h:d.isAgg=false):fl1 T pm tf 1 cs i rest (some (d,s))=if i+1≤cs.length then FY T pm tf 1 s (cs.set i d) rest else none:=by
 have ha:d.asCells=[d]:=by cases d<;>first|rfl|(simp [D.isAgg]at h)
 simp only [fl1,ha,ND,QS,JC,NG,true_and,BU]
end
section
variable (pm:Pm) (s:St) (u:Tmp)
def dK(pm:Pm)(u:Tmp)(d:D):Bool:= !d.hasObj||d.isObj||pm.wr u
theorem mvT:KZ pm s (.move (.tmp u))=dK pm u (s.v u):=nr rfl
theorem A24(k:IntKind)(n:Int):dK pm u (.int k n)=true:=by simp [dK,D.hasObj]
theorem sK(b:Bool):dK pm u (.bool b)=true:=by simp [dK,D.hasObj]
theorem A6O(e:ab)(xs:List D):dK pm u (.sl e xs)=true:=by simp [dK,D.hasObj]
theorem A25(e:ab)(xs:List D):dK pm u (.own e xs)=true:=by simp [dK,D.isObj]
theorem A6P(L:AL)(n m:Nat):dK pm u (.vw L n m)=true:=by simp [dK,D.hasObj]
theorem ADG(v:Value):dK pm u (.konst v)=true:=by simp [dK,D.hasObj]
theorem nJ(x:ac):KZ pm s (.assign x)=true:=nr rfl
theorem A26(a b c:ac):KZ pm s (.pick a b c)=true:=nr rfl
theorem sM(t:ab)(p:Array (Nat×ac)):KZ pm s (.build t p)=true:=nr rfl
theorem A27(t:ab)(x:ac):KZ pm s (.load t x)=true:=nr rfl
theorem sN(t:ab)(x y:ac):KZ pm s (.store t x y)=true:=nr rfl
theorem A6Q(o:BinOp)(t:ab)(x y:ac)(t':ab):KZ pm s (.binOp o t x y t')=true:=nr rfl
theorem ADH(o:UnOp)(t:ab)(x:ac):KZ pm s (.unOp o t x)=true:=nr rfl
theorem ADI(t:ab)(x:ac)(i:Nat):KZ pm s (.fieldAddr t x i)=true:=nr rfl
theorem ADJ(t:ab)(x i:ac):KZ pm s (.indexAddr t x i)=true:=nr rfl
theorem A28(c:Call):KZ pm s (.call c)=true:=nr rfl
theorem pmR(n r w:List Nat)(x:Nat):(PmL.pm ⟨n,r,w⟩).rd x=(n.contains x|| !r.contains x):=nr rfl
theorem pmW(n r w:List Nat)(x:Nat):(PmL.pm ⟨n,r,w⟩).wr x=w.contains x:=nr rfl
section
variable {E:Env} {dst:Option Tmp} {t ty:ab}
theorem ADK(t:ab):KN E pm s dst (.makeMap t none) ty=J3 s dst (KH E.T t):=IC s dst _
theorem yLk(v:Tmp)(ok:Bool):KN E pm s dst (.lookup t (.tmp u) (.tmp v) ok) ty=J3 s dst (Ir E.T pm s t (.tmp u) (s.v u) (s.v v) ok):=IC s dst _
theorem yMu(v x:Tmp):KN E pm s none (.mapUpdate t (.tmp u) (.tmp v) (.tmp x)) ty=K9 E.T pm s t (.tmp u) (s.v u) (s.v v) (s.v x):=nr rfl
def nm1:Ty→Ty→Option (List (Nat×ab))→Option (Bool×Nat)
 | .int .i64,.int .i64,none=>some (true,2)
 |_,_,_=>none
def nmA(n:Nat):Ty→Option (Bool×Nat)
 | .int .i64=>some (true,n)
 |_=>none
theorem ADL(n:Nat):nmA n (.int .i64)=some (true,n):=nr rfl
def nm0(T:Tys)(t:ab):Ty→Option (Bool×Nat)
 | .int .i64=>some (false,1)
 | .struct [a,b]=>nm1 (T.ty a) (T.ty b) (T.nest t)
 | .arr n e=>nmA n (T.ty e)
 |_=>none
theorem A6R(T:Tys)(t:ab):T.nums t=nm0 T t (T.ty t):=by
 unfold Tys.nums nm0;split
 ·rename_i h;rw [h]
 ·rename_i a b h;rw [h];unfold nm1;rfl
 ·rename_i h;rw [h];unfold nmA;rfl
 ·rename_i h1 h2 h3
  cases h:T.ty t with
  |int k=>cases k<;>first|rfl|exact(h1 h).elim
  |struct fs=>
   rcases fs with _|⟨a,_|⟨b,_|⟨c,l⟩⟩⟩
   ·rfl
   ·rfl
   ·exact(h2 a b h).elim
   ·rfl
  |arr n e=>exact(h3 n e h).elim
  |_=>rfl
theorem ADM(T:Tys)(t n:Nat)(e:ab):nm0 T t (.arr n e)=nmA n (T.ty e):=nr rfl
theorem ADN(T:Tys)(t:ab):nm0 T t (.int .i64)=some (false,1):=nr rfl
def mm1(k e:ab):Option (Bool×Nat)→Option (Bool×Nat)→Option D
 |some _,some _=>some (.mp k e [])
 |_,_=>none
def mm0(T:Tys):Ty→Option D
 | .map k e=>mm1 k e (T.nums k) (T.nums e)
 |_=>none
theorem yMm(T:Tys)(t:ab):KH T t=mm0 T (T.ty t):=by
 unfold KH mm0
 cases T.ty t with
 |map k e=>simp only [mm1];cases T.nums k<;>cases T.nums e<;>rfl
 |_=>rfl
theorem ADP(T:Tys)(k e:ab):mm0 T (.map k e)=mm1 k e (T.nums k) (T.nums e):=nr rfl
def lkR(ea ok:Bool)(r:AP×Bool):D:=if ok=true then .tup [Ol ea r.1,.bool r.2]else Ol ea r.1
def lk2(ea ok:Bool)(es:List (AP×AP))(en:Nat):Option AP→Option D
 |some key=>some (lkR ea ok (Le es key en))
 |none=>none
theorem ADR(ea ok:Bool)(es:List (AP×AP))(en:Nat)(key:AP):lk2 ea ok es en (some key)=some (lkR ea ok (Le es key en)):=nr rfl
def lk1(es:List (AP×AP))(k' e' k e:ab)(i:D)(ok:Bool):Option (Bool×Nat)→Option (Bool×Nat)→Option D
 |some (ka,kn),some (ea,en)=>if k'=k∧e'=e then lk2 ea ok es en (JE ka kn i)else none
 |_,_=>none
def lk0(T:Tys)(es:List (AP×AP))(k' e':ab)(i:D)(ok:Bool):Ty→Option D
 | .map k e=>lk1 es k' e' k e i ok (T.nums k) (T.nums e)
 |_=>none
def lkW(T:Tys)(i:D)(ok:Bool)(ty:Ty):Option (ab×ab×List (AP×AP))→Option D
 |some (k',e',es)=>lk0 T es k' e' i ok ty
 |none=>none
theorem ADT(T:Tys)(i:D)(ok:Bool)(ty:Ty)(k' e':ab)(es:List (AP×AP)):lkW T i ok ty (some (k',e',es))=lk0 T es k' e' i ok ty:=nr rfl
theorem A29(T:Tys)(x:ac)(L:AL)(n m:Nat)(i:D)(ok:Bool):Ir T pm s t x (.vw L n m) i ok=lkW T i ok (T.ty t) (s.lookM pm L n):=by
 unfold Ir lkW lk0;simp only [TI]
 cases s.lookM pm L n with
 |none=>cases T.ty t<;>rfl
 |some q=>
  cases T.ty t with
  |map k e=>
   simp only [lk1,LU]
   cases T.nums k<;>cases T.nums e<;>try rfl
   simp only;split
   ·cases JE _ _ i<;>rfl
   ·rfl
  |_=>rfl
theorem ADU(T:Tys)(es:List (AP×AP))(k' e' k e:ab)(i:D)(ok:Bool):lk0 T es k' e' i ok (.map k e)=lk1 es k' e' k e i ok (T.nums k) (T.nums e):=nr rfl
theorem ADV(es:List (AP×AP))(k e:ab)(i:D)(ok ka ea:Bool)(kn en:Nat):lk1 es k e k e i ok (some (ka,kn)) (some (ea,en))=lk2 ea ok es en (JE ka kn i):=by simp [lk1]
theorem A6V(x:Int):JE false 1 (.int .i64 x)=some [x]:=nr rfl
def mu2(s:St)(u:Tmp)(k e:ab)(es:List (AP×AP)):Option AP→Option AP→Option St
 |some key,some val=>some (s.set [u] (.mp k e (Om es key val)))
 |_,_=>none
theorem ADX(k e:ab)(es:List (AP×AP))(key val:AP):mu2 s u k e es (some key) (some val)=some (s.set [u] (.mp k e (Om es key val))):=nr rfl
def mu1(pm:Pm)(s:St)(u:Tmp)(es:List (AP×AP))(k' e' k e:ab)(i v:D):Option (Bool×Nat)→Option (Bool×Nat)→Option St
 |some (ka,kn),some (ea,en)=>if k'=k∧e'=e∧pm.wr u=true then mu2 s u k e es (JE ka kn i) (JE ea en v)else none
 |_,_=>none
def mu0(T:Tys)(pm:Pm)(s:St)(u:Tmp)(es:List (AP×AP))(k' e':ab)(i v:D):Ty→Option St
 | .map k e=>mu1 pm s u es k' e' k e i v (T.nums k) (T.nums e)
 |_=>none
def muW(T:Tys)(pm:Pm)(s:St)(u:Tmp)(i v:D)(ty:Ty):Option (ab×ab×List (AP×AP))→Option St
 |some (k',e',es)=>mu0 T pm s u es k' e' i v ty
 |none=>none
theorem ADZ(T:Tys)(i v:D)(ty:Ty)(k' e':ab)(es:List (AP×AP)):muW T pm s u i v ty (some (k',e',es))=mu0 T pm s u es k' e' i v ty:=nr rfl
theorem A6X(T:Tys)(x:ac)(n m:Nat)(i v:D):K9 T pm s t x (.vw [u] n m) i v=muW T pm s u i v (T.ty t) (s.lookM pm [u] n):=by
 unfold K9 muW mu0;simp only [TI]
 cases s.lookM pm [u] n with
 |none=>cases T.ty t<;>rfl
 |some q=>
  cases T.ty t with
  |map k e=>
   simp only [mu1,LU]
   cases T.nums k<;>cases T.nums e<;>rfl
  |_=>rfl
theorem ADa(T:Tys)(es:List (AP×AP))(k' e' k e:ab)(i v:D):mu0 T pm s u es k' e' i v (.map k e)=mu1 pm s u es k' e' k e i v (T.nums k) (T.nums e):=nr rfl
theorem ADb(es:List (AP×AP))(k e:ab)(i v:D)(ka ea:Bool)(kn en:Nat)(hw:pm.wr u=true):mu1 pm s u es k e k e i v (some (ka,kn)) (some (ea,en))=mu2 s u k e es (JE ka kn i) (JE ea en v):=by simp [mu1,hw]
def M3(l:DK)(k:Int):Int×Bool:=match l.find? (fun p=>p.1==k)with|some p=>(p.2,true)|none=>(0,false)
def UE(l:DK)(k v:Int):DK:=match l.findIdx? (fun p=>p.1==k)with|some i=>l.set i (k,v)|none=>l++[(k,v)]
def Vr(l:DK):List (AP×AP):=l.map fun p=>([p.1],[p.2])
theorem A6Y(k e:ab):mm1 k e (some (false,1)) (some (false,1))=some (.mp k e (Vr [])):=nr rfl
theorem M4{α β:Type}(f:α→β)(p:β→Bool)(q:α→Bool)(h: ∀a,p (f a)=q a): ∀(l:List α),(l.map f).find? p=(l.find? q).map f∧(l.map f).findIdx? p=l.findIdx? q
 | []=>⟨rfl,rfl⟩
 |a::l=>by
  obtain⟨h1,h2⟩:=M4 f p q h l;simp only [NF,Ro,List.findIdx?_cons,h]
  cases q a
  ·exact⟨h1,by simp only [h2]⟩
  ·exact⟨rfl,rfl⟩
theorem nK(l:DK)(k:Int):Le (Vr l) [k] 1=([(M3 l k).1],(M3 l k).2):=by
 unfold Le M3 Vr;rw [(M4 _ _ (fun p=>p.1==k) (fun p=>by simp) l).1]
 cases l.find? (fun p=>p.1==k)<;>rfl
theorem nL(l:DK)(k v:Int):Om (Vr l) [k] [v]=Vr (UE l k v):=by
 unfold Om UE Vr;rw [(M4 _ _ (fun p=>p.1==k) (fun p=>by simp) l).2]
 cases l.findIdx? (fun p=>p.1==k)<;>simp [List.map_set]
theorem nM(l:DK)(c:Int):((Vr l).any fun p=>p.2==[c])=l.any fun p=>p.2==c:=by
 unfold Vr;rw [List.any_map]
 congr 1
 funext p
 simp [Function.comp]
def J4(l:List (AP×Int))(k:AP):Int×Bool:=match l.find? (fun p=>p.1==k)with|some p=>(p.2,true)|none=>(0,false)
def UF(l:List (AP×Int))(k:AP)(v:Int):List (AP×Int):=match l.findIdx? (fun p=>p.1==k)with|some i=>l.set i (k,v)|none=>l++[(k,v)]
def Pw(l:List (AP×Int)):List (AP×AP):=l.map fun p=>(p.1,[p.2])
theorem A6Z(k e:ab):mm1 k e (some (true,14)) (some (false,1))=some (.mp k e (Pw [])):=nr rfl
theorem nN(l:List (AP×Int))(k:AP):Le (Pw l) k 1=([(J4 l k).1],(J4 l k).2):=by
 unfold Le J4 Pw;rw [(M4 _ _ (fun p=>p.1==k) (fun p=>by simp) l).1]
 cases l.find? (fun p=>p.1==k)<;>rfl
theorem nO(l:List (AP×Int))(k:AP)(v:Int):Om (Pw l) k [v]=Pw (UF l k v):=by
 unfold Om UF Pw;rw [(M4 _ _ (fun p=>p.1==k) (fun p=>by simp) l).2]
 cases l.findIdx? (fun p=>p.1==k)<;>simp [List.map_set]
theorem nP(l:List (AP×Int)):(Pw l).length=l.length:=by simp [Pw]
theorem ADc(x:Int)(b:Bool):lkR false false ([x],b)= .int .i64 x:=nr rfl
theorem ADd(x:Int)(b:Bool):lkR false true ([x],b)= .tup [.int .i64 x,.bool b]:=nr rfl
theorem ADe(x y:Int)(b:Bool):lkR true true ([x,y],b)= .tup [.agg [.int .i64 x,.int .i64 y],.bool b]:=nr rfl
set_option linter.defProp false in
def ADf:=A7 @ADK (A7 @yLk (A7 @yMu (A7 @A6R (A7 @ADN (A7 @yMm (A7 @ADP (A7 @A6Y (A7 @ADR (A7 @ADU (A7 @ADV (A7 @A6V (A7 @ADX (A7 @ADa (A7 @ADb (A7 @nK (A7 @nL (A7 @ADc (A7 @ADd (A7 @ADT (A7 @A29 (A7 @ADZ (A7 @A6X (A7 @ADL (A7 @ADM (A7 @A6Z (A7 @nN (A7 @nO (A7 @nP (A7 @ACF (A7 @A1f (A7 @nM (@ADe))))))))))))))))))))))))))))))))
end
end
end Dv
namespace Dv
open Go
theorem LZ(n:Int)(h: -9223372036854775808≤n∧n≤9223372036854775807):IntKind.i64.wrap n=n:=IntWalk.i64_in n h
section
variable {T:Tys} {pm:Pm} {s:St} {t:ab}
theorem Si(xs:AP)(i:Nat)(h:i<xs.length):(Hw xs)[i]? =some (.int .i64 (xs.getD i 0)):=by
 simp [Hw,KR,h]
theorem Ww(x:Int)(xs:AP):Hw (x::xs)= .int .i64 x::Hw xs:=nr rfl
variable {E:Env} {dst:Option Tmp} {ty:ab}
def A6a(e:ab)(dst:Option Tmp):Option (List D×St)→Option St
 |some (xs,s)=>some (s.putO dst (.own e xs))
 |none=>none
theorem A6b(e:ab)(xs:List D):A6a e dst (some (xs,s))=some (s.putO dst (.own e xs)):=nr rfl
def jw(dst:Option Tmp):Option (List D×St)→Option St
 |some (xs,s)=>some (s.putO dst (.agg xs))
 |none=>none
theorem A6c(xs:List D):jw dst (some (xs,s))=some (s.putO dst (.agg xs)):=nr rfl
theorem UG(T:Tys){e:ab}(hs:T.isStruct e=false):T.size e=1∧T.zeros e=[T.zero1 e]:=by
 unfold Tys.isStruct at hs;unfold Tys.size Tys.zeros
 cases hty:T.ty e<;>simp_all [Ty.isStruct,Ty.size]
def sO(E:Env)(pm:Pm)(s:St)(dst:Option Tmp)(len:Nat)(parts:Array (Nat×ac)):Ty→Option St
 | .slice e=>
   if len*E.T.size e≤4096∧E.T.known e=true then
    (FY E.T pm (fun _=>e) (E.T.size e) s ((an (len*E.T.size e)).map fun j=>(E.T.zeros e).getD (j % E.T.size e) .undef) parts.toList).map fun r=>r.2.putO dst (.own e r.1)
   else none
 |_=>none
theorem A2A(len:Nat)(parts:Array (Nat×ac)):TK E.T pm s dst t len parts=sO E pm s dst len parts (E.T.ty t):=by
 unfold TK sO
 cases E.T.ty t<;>rfl
theorem yBs(len:Nat)(parts:Array (Nat×ac)):KN E pm s dst (.buildSlice t len parts) ty=if ty=900004 then fcB pm dst (sO E pm s dst len parts (E.T.ty t))else sO E pm s dst len parts (E.T.ty t):=by
 rw [UC,A2A];by_cases h:ty=900004
 ·rw [if_pos h,if_pos h];unfold fcB
  cases sO E pm s dst len parts (E.T.ty t)<;>cases dst<;>rfl
 ·rw [if_neg h,if_neg h]
theorem ADg(len:Nat)(parts:Array (Nat×ac))(e:ab)(hk:E.T.known e=true)(hs:E.T.isStruct e=false)(hl:len≤4096):
  sO E pm s dst len parts (.slice e)=A6a e dst (FY E.T pm (fun _=>e) 1 s (ao len (E.T.zero1 e)) parts.toList):=by
 obtain⟨hz,hzz⟩:=UG E.T hs
 have hrep:((an (len*1)).map fun j=>(E.T.zeros e).getD (j % 1) .undef)=ao len (E.T.zero1 e):=by
  rw [hzz];apply List.ext_getElem
  ·simp
  ·intro i h1 h2;simp [Nat.mod_one]
 simp only [sO,hz];rw [if_pos ⟨by omega,hk⟩,hrep]
 rcases FY E.T pm (fun _=>e) 1 s (ao len (E.T.zero1 e)) parts.toList with _|⟨a,b⟩<;>rfl
def bsA(E:Env)(e:ab)(dst:Option Tmp):Option (D×St)→Option St
 |some (d,s1)=>if d.asCells.length=E.T.size e then some (s1.putO dst (.own e d.asCells))else none
 |none=>none
theorem ADi(e:ab)(xs:List D)(h:xs.length=E.T.size e):bsA E e dst (some (.agg xs,s))=some (s.putO dst (.own e xs)):=by
 show(if xs.length=E.T.size e then some (s.putO dst (.own e xs))else none)=_
 rw [if_pos h]
theorem Zo(cs ys:List D)(h:ys.length=cs.length):BU cs 0 ys=ys:=by
 refine List.ext_getElem? fun i=> ?_;rw [Gv (by omega)]
 by_cases hi:i<ys.length
 ·rw [if_pos (by omega)];rfl
 ·rw [if_neg (by omega),be (by omega),be (by omega)]
theorem ADj(e:ab)(x:ac)(hk:E.T.known e=true)(hs:E.T.isStruct e=true)(hz:E.T.size e≤4096):sO E pm s dst 1 #[(0,x)] (.slice e)=bsA E e dst (take E.T pm s e x):=by
 simp only [sO,FY];rw [if_pos ⟨by omega,hk⟩]
 rcases take E.T pm s e x with _|⟨d,s1⟩
 ·rfl
 ·simp only [bsA];by_cases h:d.asCells.length=E.T.size e
  ·rw [if_pos ⟨h,by simp⟩,if_pos h,Nat.zero_mul,Zo _ _ (by simp [h])];rfl
  ·rw [if_neg (fun hc=>h hc.1),if_neg h];rfl
theorem ADk(u:Tmp)(e:ab)(L:AL)(n m lo len:Nat):BP pm s dst (.tmp u) (.vs e L n m lo len)=some (s.putO dst (.vs e L n m lo len)):=by
 show some (if(D.vs e L n m lo len).hasObj then(s.clr u).putO dst (.vs e L n m lo len)else s.putO dst (.vs e L n m lo len))=_
 rw [if_neg (by simp [D.hasObj])]
def bdN(E:Env)(pm:Pm)(s:St)(dst:Option Tmp)(t:ab)(parts:Array (Nat×ac)):Option St:=
 match E.T.ty t with
 | .struct fs=>if E.T.known t then jw dst (FY E.T pm (fun i=>fs.getD i 0) 1 s (E.T.zeros t) parts.toList)else none
 |_=>none
def bd0(E:Env)(pm:Pm)(s:St)(dst:Option Tmp)(t:ab)(parts:Array (Nat×ac)):Option (List (Nat×ab))→Option St
 |some fl=>if E.T.isStruct t&&E.T.known t then jw dst (Ii E.T pm fl s (E.T.zeros t) parts.toList)else none
 |none=>bdN E pm s dst t parts
def bvR:Option (List D)→Option D
 |some cs=>some (.agg cs)
 |none=>none
theorem ADm(cs:List D):bvR (some cs)=some (.agg cs):=nr rfl
def bv0(T:Tys)(pm:Pm)(s:St)(l:List (Nat×ac))(t:ab):Option (List (Nat×ab))→Ty→Option D
 |none,.struct fs=>if T.known t then bvR (K4 T pm s (fun i=>fs.getD i 0) (T.zeros t) l)else none
 |_,_=>none
theorem yBv(T:Tys)(l:List (Nat×ac)):Gr T pm s t l=bv0 T pm s l t (T.nest t) (T.ty t):=by
 unfold Gr bv0
 cases T.nest t with
 |some fl=>rfl
 |none=>
  cases T.ty t with
  |struct fs=>
   simp only;split
   ·cases K4 T pm s (fun i=>fs.getD i 0) (T.zeros t) l<;>rfl
   ·rfl
  |_=>rfl
theorem ADn(T:Tys)(l:List (Nat×ac))(fs:List ab)(hk:T.known t=true):bv0 T pm s l t none (.struct fs)=bvR (K4 T pm s (fun i=>fs.getD i 0) (T.zeros t) l):=by simp [bv0,hk]
def fv0(T:Tys)(pm:Pm)(s:St)(tf:Nat→ab)(cs:List D)(i:Nat)(rest:List (Nat×ac)):Option D→Option (List D)
 |some d=>if JF pm s d=true∧i<cs.length then K4 T pm s tf (cs.set i d) rest else none
 |none=>none
theorem fvN(T:Tys)(tf:Nat→ab)(cs:List D):K4 T pm s tf cs []=some cs:=nr rfl
theorem fvC(T:Tys)(tf:Nat→ab)(cs:List D)(i:Nat)(x:ac)(rest:List (Nat×ac)):K4 T pm s tf cs ((i,x)::rest)=fv0 T pm s tf cs i rest (ev T s (tf i) x):=by
 simp only [K4]
 cases ev T s (tf i) x<;>rfl
theorem ADp(T:Tys)(tf:Nat→ab)(cs:List D)(i:Nat)(rest:List (Nat×ac))(d:D)(h1:JF pm s d=true)(h2:i<cs.length):fv0 T pm s tf cs i rest (some d)=K4 T pm s tf (cs.set i d) rest:=by simp [fv0,h1,h2]
def cv0:Option D→Bool
 |some (.own _ _)=>true
 |_=>false
theorem ADq(e:ab)(xs:List D):cv0 (some (.own e xs))=true:=nr rfl
theorem ADr(L:AL)(n m:Nat):JF pm s (.vw L n m)=cv0 (s.look pm L n m):=by
 simp only [JF]
 cases s.look pm L n m with
 |none=>rfl
 |some o=>cases o<;>rfl
theorem A6e(k:IntKind)(n:Int):JF pm s (.int k n)=true:=nr rfl
theorem ADs(e:ab)(xs:List D):JF pm s (.sl e xs)=true:=nr rfl
theorem A2B(b:Bool):JF pm s (.bool b)=true:=nr rfl
def A6f:D→Bool
 | .box _=>true
 |_=>false
def A6g:D→Bool
 | .agg _=>true
 |_=>false
theorem A6h(xs:List D):A6f (.box xs)=true:=nr rfl
theorem A6i(xs:List D):A6g (.agg xs)=true:=nr rfl
def sk0(T:Tys)(pm:Pm)(s:St)(t:ab)(ax:Tmp):D→D→Option St
 | .agg ds,.box cs=>if Al ds then none else
   if T.known t&&pm.wr ax&&ds.all (JF pm s)&&(T.size t==ds.length)&&(T.isStruct t==true)&&decide (0+T.size t≤cs.length)then
    some (if Al ds||Al cs then(s.set [ax] (.box (BU cs 0 ds))).bump ax else s.set [ax] (.box (BU cs 0 ds)))else none
 |_,_=>none
theorem ySk(T:Tys)(ax x:Tmp)(h1:A6f (s.v ax)=true)(h2:A6g (s.v x)=true):Iu T pm s t (.tmp ax) (.tmp x)=sk0 T pm s t ax (s.v x) (s.v ax):=by
 cases hx:s.v x<;>rw [hx]at h2<;>first|cases h2|skip
 rename_i ds
 cases ha:s.v ax<;>rw [ha]at h1<;>first|cases h1|skip
 rename_i cs
 unfold Iu sk0;simp only [ev,hx,OW]
 cases hb:Al ds with
 |true=>simp
 |false=>
  simp only [Ip,if_false,JY,ev,ha,Gd,D.asCells,D.isAgg,D.cells,D.withCells,TB,D.hasObj,hb];rfl
theorem ADt(T:Tys)(ax:Tmp)(ds cs:List D)(hno:Al ds=false)(hk:T.known t=true)(hs:T.isStruct t=true)(hw:pm.wr ax=true)(hc:ds.all (JF pm s)=true)(hz:T.size t=ds.length)(hl:ds.length≤cs.length)(hoc:Al cs=false):
  sk0 T pm s t ax (.agg ds) (.box cs)=some (s.set [ax] (.box (BU cs 0 ds))):=by
 simp [sk0,hno,hk,hs,hw,hc,hz,hl,hoc]
theorem ADu(T:Tys)(ax:Tmp)(ds cs:List D)(hno:Al ds=false)(hk:T.known t=true)(hs:T.isStruct t=true)(hw:pm.wr ax=true)(hc:ds.all (JF pm s)=true)(hz:T.size t=ds.length)(hl:ds.length≤cs.length)(hoc:Al cs=true):
  sk0 T pm s t ax (.agg ds) (.box cs)=some ((s.set [ax] (.box (BU cs 0 ds))).bump ax):=by
 simp [sk0,hno,hk,hs,hw,hc,hz,hl,hoc]
theorem A2C(parts:Array (Nat×ac)):KN E pm s dst (.build t parts) ty=if ty=900015 then J3 s dst (Gr E.T pm s t parts.toList)else bd0 E pm s dst t parts (E.T.nest t):=by
 rw [jh];by_cases hty:ty=900015
 ·rw [if_pos hty,if_pos hty]
  cases Gr E.T pm s t parts.toList<;>rfl
 rw [if_neg hty,if_neg hty];unfold bd0 bdN
 cases E.T.nest t with
 |some fl=>
  simp only;split
  ·rcases Ii E.T pm fl s (E.T.zeros t) parts.toList with _|⟨a,b⟩<;>rfl
  ·rfl
 |none=>
  simp only
  cases E.T.ty t with
  |struct fs=>
   simp only;split
   ·rcases FY E.T pm (fun i=>fs.getD i 0) 1 s (E.T.zeros t) parts.toList with _|⟨a,b⟩<;>rfl
   ·rfl
  |_=>rfl
theorem ADv(parts:Array (Nat×ac))(fl:List (Nat×ab))(hk:E.T.known t=true)(hs:E.T.isStruct t=true):bd0 E pm s dst t parts (some fl)=jw dst (Ii E.T pm fl s (E.T.zeros t) parts.toList):=by
 simp [bd0,hk,hs]
def bdT(E:Env)(pm:Pm)(s:St)(dst:Option Tmp)(t:ab)(parts:Array (Nat×ac)):Ty→Option St
 | .struct fs=>if E.T.known t then jw dst (FY E.T pm (fun i=>fs.getD i 0) 1 s (E.T.zeros t) parts.toList)else none
 |_=>none
theorem ADw(parts:Array (Nat×ac)):bd0 E pm s dst t parts none=bdT E pm s dst t parts (E.T.ty t):=by
 show bdN E pm s dst t parts=_
 unfold bdN bdT
 cases E.T.ty t<;>rfl
theorem ADx(parts:Array (Nat×ac))(fs:List ab)(hk:E.T.known t=true):bdT E pm s dst t parts (.struct fs)=jw dst (FY E.T pm (fun i=>fs.getD i 0) 1 s (E.T.zeros t) parts.toList):=by
 simp [bdT,hk]
def fn1(T:Tys)(pm:Pm)(fl:List (Nat×ab))(cs:List D)(off:Nat)(ty:ab)(rest:List (Nat×ac)):Option (D×St)→Option (List D×St)
 |none=>none
 |some (d,s1)=>if d.asCells.length=T.size ty∧off+T.size ty≤cs.length then Ii T pm fl s1 (BU cs off d.asCells) rest else none
theorem A6k(T:Tys)(fl:List (Nat×ab))(cs:List D):Ii T pm fl s cs []=some (cs,s):=nr rfl
def fn0(T:Tys)(pm:Pm)(fl:List (Nat×ab))(s:St)(cs:List D)(x:ac)(rest:List (Nat×ac)):Option (Nat×ab)→Option (List D×St)
 |none=>none
 |some (off,ty)=>fn1 T pm fl cs off ty rest (take T pm s ty x)
theorem A2D(T:Tys)(fl:List (Nat×ab))(cs:List D)(i:Nat)(x:ac)(rest:List (Nat×ac)):Ii T pm fl s cs ((i,x)::rest)=fn0 T pm fl s cs x rest (fl[i]?):=by
 simp only [Ii];rcases fl[i]? with _|⟨off,ty⟩
 ·rfl
 ·simp only [fn0,fn1];rcases take T pm s ty x with _|⟨d,s1⟩<;>rfl
theorem ADz(T:Tys)(fl:List (Nat×ab))(cs:List D)(x:ac)(rest:List (Nat×ac))(off:Nat)(ty:ab):fn0 T pm fl s cs x rest (some (off,ty))=fn1 T pm fl cs off ty rest (take T pm s ty x):=nr rfl
theorem AE0(T:Tys)(fl:List (Nat×ab))(cs:List D)(off:Nat)(ty:ab)(rest:List (Nat×ac))(d:D)(h1:d.asCells.length=T.size ty)(h2:off+T.size ty≤cs.length):
  fn1 T pm fl cs off ty rest (some (d,s))=Ii T pm fl s (BU cs off d.asCells) rest:=by simp only [fn1,h1,h2,and_self,if_true]
theorem fnA(ds:List D):(D.agg ds).asCells=ds:=nr rfl
theorem fnI(k:IntKind)(n:Int):(D.int k n).asCells=[.int k n]:=nr rfl
theorem fnO(e:ab)(xs:List D):(D.own e xs).asCells=[.own e xs]:=nr rfl
theorem spN(cs:List D)(c:Nat):BU cs c []=cs:=by cases cs<;>rfl
theorem spC(cs:List D)(c:Nat)(y:D)(ys:List D):BU cs c (y::ys)=BU (cs.set c y) (c+1) ys:=by cases cs<;>rfl
def mk0(T:Tys)(n:Int):Ty→Option D
 | .slice e=>if 0≤n∧n<1099511627776∧T.elem e=true then
   if T.isStruct e=true then some (.own e (ao n.toNat (T.zeros e)).flatten)
   else if T.size e=1 then some (.own e (ao n.toNat (T.zero1 e)))else none
  else none
 |_=>none
theorem yMk(n:Int):Dw T t (.int .i64 n) (.int .i64 n)=mk0 T n (T.ty t):=by
 unfold Dw mk0
 cases T.ty t<;>simp
def sP(T:Tys)(q:Int):Ty→Option D
 | .slice e=>if 0≤q∧q<1099511627776∧T.elem e=true then
   if T.isStruct e=true then some (.own e [])
   else if T.size e=1 then some (.own e [])else none
  else none
 |_=>none
theorem AE1(q:Int):Dw T t (.int .i64 0) (.int .i64 q)=sP T q (T.ty t):=by
 unfold Dw sP
 cases T.ty t<;>simp
theorem A6l(q:Int)(e:ab)(hk:T.known e=true)(h4:T.size e≤4)(h0:0≤q)(hn:q<1099511627776):sP T q (.slice e)=some (.own e []):=by
 simp only [sP];rw [if_pos ⟨h0,hn,Sg hk h4⟩];by_cases hs:T.isStruct e=true
 ·rw [if_pos hs]
 ·obtain⟨hz,_⟩:=UG T (by simpa using hs)
  rw [if_neg hs,if_pos hz]
theorem AE2(n:Int)(e:ab)(hk:T.known e=true)(h4:T.size e≤4)(hs:T.isStruct e=false)(h0:0≤n)(hn:n<1099511627776):mk0 T n (.slice e)=some (.own e (ao n.toNat (T.zero1 e))):=by
 obtain⟨hz,_⟩:=UG T hs;simp only [mk0];rw [if_pos ⟨h0,hn,Sg hk h4⟩,if_neg (by rw [hs];decide),if_pos hz]
theorem AE3(n:Int)(e:ab)(hk:T.known e=true)(h4:T.size e≤4)(hs:T.isStruct e=true)(h0:0≤n)(hn:n<1099511627776):mk0 T n (.slice e)=some (.own e (ao n.toNat (T.zeros e)).flatten):=by
 simp only [mk0];rw [if_pos ⟨h0,hn,Sg hk h4⟩,if_pos hs]
end
end Dv
namespace Dv
open Go
def nQ(n:Int):Prop:= -9223372036854775808≤n∧n≤9223372036854775807
theorem nR{n:Int}(h:(Lit.int .i64 n).wf=true):nQ n:=by
 have h1:IntKind.i64.min= -9223372036854775808:=by decide
 have h2:IntKind.i64.max=9223372036854775807:=by decide
 simp only [Lit.wf,h1,h2,FU,decide_eq_true_eq]at h;exact h
section
variable {T:Tys} {t e:ab} {d:D}
theorem A2E(ht:T.ty t= .int .i64)(h:Arg T t d): ∃n,d= .int .i64 n∧nQ n:=by
 obtain⟨ds,hs,rfl⟩:=h
 cases hs with
 |int ht' hw=>rw [ht]at ht';injection ht' with ht';subst ht';exact⟨_,by simp [top,Tys.isStruct,ht,Ty.isStruct],nR hw⟩
 |bool ht'=>rw [ht]at ht';cases ht'
 |string ht'=>rw [ht]at ht';cases ht'
 |slice ht'=>rw [ht]at ht';cases ht'
 |struct ht'=>rw [ht]at ht';cases ht'
theorem dL{ds:List D}(ht:T.ty t= .int .i64)(h:Shp T t ds): ∃n,ds=[.int .i64 n]∧nQ n:=by
 cases h with
 |int ht' hw=>rw [ht]at ht';injection ht' with ht';subst ht';exact⟨_,rfl,nR hw⟩
 |bool ht'=>rw [ht]at ht';cases ht'
 |string ht'=>rw [ht]at ht';cases ht'
 |slice ht'=>rw [ht]at ht';cases ht'
 |struct ht'=>rw [ht]at ht';cases ht'
theorem UH{ds:List D}(ht:T.ty t= .slice e)(h:Shp T t ds): ∃xss:List (List D),ds=[.sl e xss.flatten]∧(∀xs,xs∈xss→Shp T e xs)∧xss.length≤maxLen:=by
 cases h with
 |int ht' hw=>rw [ht]at ht';cases ht'
 |bool ht'=>rw [ht]at ht';cases ht'
 |string ht' hs=>rw [ht]at ht';cases ht'
 |slice ht' hx hl=>rw [ht]at ht';injection ht' with ht';subst ht';exact⟨_,rfl,hx,hl⟩
 |struct ht'=>rw [ht]at ht';cases ht'
theorem Wx{fs:List ab}{ds:List D}(ht:T.ty t= .struct fs)(h:Shp T t ds):ds.length=fs.length∧ ∀(i:Nat) (f:ab) (d:D),fs[i]? =some f→ds[i]? =some d→Shp T f [d]:=by
 cases h with
 |int ht' hw=>rw [ht]at ht';cases ht'
 |bool ht'=>rw [ht]at ht';cases ht'
 |string ht' hs=>rw [ht]at ht';cases ht'
 |slice ht' hx hl=>rw [ht]at ht';cases ht'
 |struct ht' hl hx=>rw [ht]at ht';injection ht' with ht';subst ht';exact⟨hl,hx⟩
def A2F(xs:AP):Prop:=xs.length≤maxLen∧ ∀x∈xs,nQ x
theorem gF{ds:List D}(ht:T.ty t= .slice e)(he:T.ty e= .int .i64)(h:Shp T t ds): ∃xs,ds=[.sl e (Hw xs)]∧A2F xs:=by
 obtain⟨xss,rfl,hx,hl⟩:=UH ht h
 have: ∀xss:List (List D),(∀xs,xs∈xss→Shp T e xs)→ ∃ys,xss.flatten=Hw ys∧ys.length=xss.length∧ ∀y∈ys,nQ y:=by
  intro xss
  induction xss with
  |nil=>intro _;exact⟨[],rfl,rfl,by simp⟩
  |cons xs xss ih=>
   intro hx;obtain⟨n,rfl,hn⟩:=dL he (hx xs (Kq));obtain⟨ys,h1,h2,h3⟩:=ih (fun q hq=>hx q (JJ _ hq))
   refine⟨n::ys,by rw [bC,h1];rfl,by simp [h2],fun y hy=> ?_⟩
   rcases OP.1 hy with rfl|hy
   ·exact hn
   ·exact h3 y hy
 obtain⟨ys,h1,h2,h3⟩:=this xss hx
 exact⟨ys,by rw [h1],by omega,h3⟩
theorem jy{fs:List ab}(ht:T.ty t= .struct fs)(h:Arg T t d): ∃ds,d= .agg ds∧ds.length=fs.length∧ ∀(i:Nat) (f:ab) (d:D),fs[i]? =some f→ds[i]? =some d→Shp T f [d]:=by
 obtain⟨ds,hs,rfl⟩:=h;obtain⟨h1,h2⟩:=Wx ht hs
 exact⟨ds,by simp [top,Tys.isStruct,ht,Ty.isStruct],h1,h2⟩
end
theorem trodAll_len{H:Type}{enc:ab×Value→H}{P:Program}{w:World}{base:Nat}{spare:Nat→Bool}{Mc:Bool}: ∀ {ts:List ab} {vs:List Value} {ds:List (DataW H)} {ps:List MemPlace},
  DataW.TrodAll enc P w base spare Mc ts vs ds ps→ds.length=ts.length∧vs.length=ts.length:=by
 intro ts
 induction ts with
 |nil=>intro vs ds ps h;cases vs<;>cases ds<;>simp [DataW.TrodAll]at h;exact⟨rfl,rfl⟩
 |cons t ts ih=>
  intro vs ds ps h
  cases vs with
  |nil=>cases ds<;>simp [DataW.TrodAll]at h
  |cons v vs=>
   cases ds with
   |nil=>simp [DataW.TrodAll]at h
   |cons d ds=>
    simp only [DataW.TrodAll]at h;obtain⟨p,q,h1,h2,_⟩:=h;obtain⟨e1,e2⟩:=ih h2
    exact⟨by simp [e1],by simp [e2]⟩
end Dv
namespace Dv
open Go
section
variable {E:Env} {T:Tys} {pm:Pm} {s:St} {dst:Option Tmp} {ty t:ab}
def sQ(T:Tys)(t:ab)(dst:Option Tmp):Option (D×St)→Option St
 |some (d,s1)=>if T.isStruct t==d.isAgg then some (s1.putO dst (.box d.asCells))else none
 |none=>none
def l7(E:Env)(pm:Pm)(s:St)(t:ab)(x:ac)(dst:Option Tmp):D→Option St
 | .agg ds=>if Al ds then sQ E.T t dst (take E.T pm s t x)else(if E.T.isStruct t then some (s.putO dst (.box ds))else none)
 |_=>sQ E.T t dst (take E.T pm s t x)
theorem A2G(u:Tmp):NN E.T pm s dst t (.tmp u)=l7 E pm s t (.tmp u) dst (s.v u):=by
 rw [mo]
 cases hk:OW (ev E.T s t (.tmp u))with
 |some ds=>
  simp only [ev]at hk
  cases hv:s.v u<;>rw [hv]at hk<;>simp only [OW]at hk<;>try (cases hk;done)
  split at hk
  ·cases hk
  ·rename_i ho
   simp only [al]at hk;subst hk;simp only [l7,ho];rfl
 |none=>
  have hold:l7 E pm s t (.tmp u) dst (s.v u)=sQ E.T t dst (take E.T pm s t (.tmp u)):=by
   simp only [ev]at hk
   cases hv:s.v u<;>try rfl
   rw [hv]at hk;simp only [OW]at hk
   split at hk
   ·rename_i ho;simp only [l7,ho,if_true]
   ·cases hk
  rw [hold];simp only;rcases take E.T pm s t (.tmp u)with _|⟨d,s1⟩<;>rfl
theorem AE4(u:Tmp):KN E pm s dst (.box t (.tmp u)) ty=if ty=900003 then qg pm dst (l7 E pm s t (.tmp u) dst (s.v u))else l7 E pm s t (.tmp u) dst (s.v u):=by
 rw [rV,A2G];by_cases h:ty=900003
 ·rw [if_pos h,if_pos h];unfold qg
  cases l7 E pm s t (.tmp u) dst (s.v u)<;>cases dst<;>rfl
 ·rw [if_neg h,if_neg h]
theorem bkK(x:ac)(ds:List D)(hs:E.T.isStruct t=true):l7 E pm s t x dst (.agg ds)=if Al ds then sQ E.T t dst (take E.T pm s t x)else some (s.putO dst (.box ds)):=by simp [l7,hs]
theorem A6m(x:ac)(k:IntKind)(n:Int):l7 E pm s t x dst (.int k n)=sQ E.T t dst (take E.T pm s t x):=nr rfl
theorem AE5(x:ac)(e:ab)(xs:List D):l7 E pm s t x dst (.sl e xs)=sQ E.T t dst (take E.T pm s t x):=nr rfl
theorem A2H(x:ac)(xs:List D):l7 E pm s t x dst (.cptr xs)=sQ E.T t dst (take E.T pm s t x):=nr rfl
theorem AE6(d:D)(hs:T.isStruct t=false)(hd:d.isAgg=false):sQ T t dst (some (d,s))=some (s.putO dst (.box [d])):=by
 have:d.asCells=[d]:=by cases d<;>first|rfl|(simp [D.isAgg]at hd)
 simp [sQ,hs,hd,this]
def fa1(L:AL)(i n m:Nat):Option D→Option D
 |some _=>some (.pe L i n m)
 |none=>none
theorem AE7(L:AL)(i n m:Nat)(d:D):fa1 L i n m (some d)=some (.pe L i n m):=nr rfl
def fa0(T:Tys)(pm:Pm)(s:St)(t:ab)(x:ac)(d:D):Option Nat→Option D
 |none=>none
 |some j=>
  if T.isStruct t then
   match d with
   | .box _=>match x with| .tmp u=>some (.pe [u] j (s.k u) (s.m u))|_=>none
   | .vw L n m=>match s.look pm L n m with|some (.box _)=>some (.pe L j n m)|_=>none
   | .pe L c n m=>match s.look pm L n m with|some _=>some (.pe L (c+j) n m)|none=>none
   | .cptr xs=>some (.cptr (xs.drop j))
   |_=>none
  else none
theorem faE(x:ac)(d:D)(i:Nat):Eg T pm s t x d i=fa0 T pm s t x d (T.foff t i):=by
 unfold Eg fa0
 cases T.foff t i<;>rfl
theorem foN(i:Nat)(hn:T.nest t=none)(hi:i<T.size t):T.foff t i=some i:=by simp [Tys.foff,hn,hi]
theorem A6n(u:Tmp)(xs:List D)(i:Nat)(hs:T.isStruct t=true):fa0 T pm s t (.tmp u) (.box xs) (some i)=some (.pe [u] i (s.k u) (s.m u)):=by simp [fa0,hs]
theorem AE8(x:ac)(L:AL)(c n m i:Nat)(hs:T.isStruct t=true):fa0 T pm s t x (.pe L c n m) (some i)=fa1 L (c+i) n m (s.look pm L n m):=by
 simp only [fa0,hs,if_true]
 cases s.look pm L n m<;>rfl
theorem AE9(L:AL)(c n:Nat)(y:D)(ys:List D):cellsOf s L c n (some (D.box (y::ys)))=if c+n≤(D.box (y::ys)).cells.length then Ce (.agg ((an n).map fun i=>CF s L (c+i) ((D.box (y::ys)).cells.getD (c+i) .undef)))else none:=nr rfl
theorem AEA(L:AL)(c n:Nat)(e:ab)(ys:List D):cellsOf s L c n (some (D.own e ys))=if c+n≤(D.own e ys).cells.length then Ce (.agg ((an n).map fun i=>CF s L (c+i) ((D.own e ys).cells.getD (c+i) .undef)))else none:=nr rfl
variable {α:Type} (f:Nat→α)
theorem AEB:(an 14).map f=[f 0,f 1,f 2,f 3,f 4,f 5,f 6,f 7,f 8,f 9,f 10,f 11,f 12,f 13]:=nr rfl
theorem rg2:(an 2).map f=[f 0,f 1]:=nr rfl
theorem rg3:(an 3).map f=[f 0,f 1,f 2]:=nr rfl
theorem rg4:(an 4).map f=[f 0,f 1,f 2,f 3]:=nr rfl
theorem A6o(L:AL)(c:Nat)(k:IntKind)(n:Int):CF s L c (.int k n)= .int k n:=nr rfl
theorem AEC(L:AL)(c:Nat)(e:ab)(xs:List D):CF s L c (.sl e xs)= .sl e xs:=nr rfl
theorem A6p(L:AL)(c:Nat)(e:ab)(xs:List D):CF s L c (.own e xs)=l5 s (L++[c]):=nr rfl
theorem AED(L:AL)(c:Nat)(M:AL)(n m:Nat):CF s L c (.vw M n m)= .vw M n m:=nr rfl
theorem noA(xs:List D):Ce (.agg xs)=if Al xs then none else some (.agg xs):=by simp only [Ce,D.hasObj];rfl
theorem A6q(k:IntKind)(n:Int):Ce (.int k n)=some (.int k n):=by simp [Ce,D.hasObj]
theorem AEE(e:ab)(xs:List D):Ce (.sl e xs)=some (.sl e xs):=by simp [Ce,D.hasObj]
theorem AEF(L:AL)(n m:Nat):Ce (.vw L n m)=some (.vw L n m):=by simp [Ce,D.hasObj]
theorem dl2(a b:Nat)(l:AL):List.dropLast (a::b::l)=a::List.dropLast (b::l):=nr rfl
theorem dl1(a:Nat):List.dropLast [a]=[]:=nr rfl
theorem AEG(r c:Nat)(p:AL):s.get (r::c::p)=BK (s.v r) (c::p):=nr rfl
theorem dM: ∀(ds xs:List D),xs.length=ds.length→BU xs 0 ds=ds:=by
 have key: ∀(ds pre xs:List D),xs.length=ds.length→BU (pre++xs) pre.length ds=pre++ds:=by
  intro ds
  induction ds with
  |nil=>intro pre xs h;simp at h;subst h;rfl
  |cons d ds ih=>
   intro pre xs h
   cases xs with
   |nil=>simp at h
   |cons x xs=>
    simp only [BU];have:=ih (pre++[d]) xs (by simpa using h)
    simpa using this
 intro ds xs h;simpa using key ds [] xs h
def sw1(T:Tys)(pm:Pm)(t:ab)(u:Tmp)(ds:List D)(s:St):D→Option St
 | .box xs=>if T.known t&&T.isStruct t&&pm.wr u&&ds.all Cq&&(T.size t==ds.length)&&(xs.length==ds.length)then(if Al ds||Al xs then some ((s.set [u] (.box ds)).bump u)else some (s.set [u] (.box ds)))else Yi T pm t (.tmp u) (some (.agg ds,s))
 |_=>Yi T pm t (.tmp u) (some (.agg ds,s))
theorem AEH(u:Tmp)(ds:List D):Yi T pm t (.tmp u) (some (.agg ds,s))=sw1 T pm t u ds s (s.v u):=by
 cases hv:s.v u<;>simp only [sw1]
 rename_i xs
 split
 ·rename_i hc
  simp only [FU,beq_iff_eq]at hc;obtain⟨⟨⟨⟨⟨hk,hs⟩,hw⟩,hd⟩,hz⟩,hl⟩:=hc;have hz':T.size t≤xs.length:=by omega
  simp only [Yi,ev,hv,Gd,D.asCells,D.isAgg,D.cells,D.withCells,hk,hs,hw,hd,hz,TB,beq_self_eq_true,Bool.and_self,JC,D.hasObj];rw [dM ds xs hl];have h2:ds.length≤xs.length:=by omega
  simp only [h2,decide_true,Bool.and_self,if_true]
  split<;>first|rfl|(rename_i hq;simp only [hq];rfl)
 ·rfl
theorem AEI(u:Tmp)(ds xs:List D)(hk:T.known t=true)(hs:T.isStruct t=true)(hw:pm.wr u=true)(hd:ds.all Cq=true)(hz:T.size t=ds.length)(hl:xs.length=ds.length):
  sw1 T pm t u ds s (.box xs)=if Al ds||Al xs then some ((s.set [u] (.box ds)).bump u)else some (s.set [u] (.box ds)):=by
 simp [sw1,hk,hs,hw,hd,hz,hl]
def rc1(T:Tys)(s:St)(t:Tmp)(ty:ab):D→Option (D×St)
 | .box xs=>if T.isStruct ty then(if xs.length=T.size ty then td1 (EJ Pm.all (s.clr t) xs)else none)else(match xs with| [d]=>Bz Pm.all (s.clr t) d|_=>none)
 | .cptr xs=>if T.isStruct ty then(if xs.length=T.size ty then some (.agg xs,s)else none)else(match xs with| [d]=>some (d,s)|_=>none)
 |_=>none
theorem A2I(u:Tmp)(hk:T.known ty=true):TP T s (.cell u ty)=rc1 T s u ty (s.v u):=by
 simp only [TP,hk,if_true,rc1]
 cases s.v u with
 |box xs=>
  simp only;split
  ·split
   ·cases EJ Pm.all (s.clr u) xs<;>rfl
   ·rfl
  ·rfl
 |_=>rfl
theorem AEJ(u:Tmp)(xs:List D)(hs:T.isStruct ty=true)(hl:xs.length=T.size ty):rc1 T s u ty (.box xs)=td1 (EJ Pm.all (s.clr u) xs):=by simp [rc1,hs,hl]
def cp1(pm:Pm)(s:St)(u:Tmp)(rest:List ac):D→Option (List D×St)
 | .box xs=>match Cw xs with
  |some ys=>if pm.wr u then(LV pm (s.set [u] (.cptr ys)) rest).map fun r=>(.cptr ys::r.1,r.2)else none
  |none=>none
 | .cptr ys=>(LV pm s rest).map fun r=>(.cptr ys::r.1,r.2)
 |_=>none
theorem A6s:LV pm s []=some ([],s):=nr rfl
theorem A6t(u:Tmp)(rest:List ac):LV pm s (.tmp u::rest)=cp1 pm s u rest (s.v u):=by
 simp only [LV]
 cases s.v u<;>rfl
def cp2(pm:Pm)(s:St)(u:Tmp)(rest:List ac):Option (List D)→Option (List D×St)
 |some ys=>if pm.wr u then(LV pm (s.set [u] (.cptr ys)) rest).map fun r=>(.cptr ys::r.1,r.2)else none
 |none=>none
theorem AEM(u:Tmp)(rest:List ac)(xs:List D):cp1 pm s u rest (.box xs)=cp2 pm s u rest (Cw xs):=by
 simp only [cp1];cases Cw xs<;>rfl
theorem AEN(u:Tmp)(rest:List ac)(ys:List D)(hw:pm.wr u=true):cp2 pm s u rest (some ys)=(LV pm (s.set [u] (.cptr ys)) rest).map fun r=>(.cptr ys::r.1,r.2):=by simp [cp2,hw]
def clN(E:Env)(pm:Pm)(s:St)(dst:Option Tmp)(args:Array ac)(ts:Array ab):D→Option St
 | .clo f caps=>if args.size=ts.size then FZ E pm s dst f (args.toList.zip ts.toList) caps else none
 | .ocl false f caps=>if args.size=ts.size then Mw E pm s dst f (args.toList.zip ts.toList) caps else none
 |_=>none
theorem A2J(u:Tmp)(args:Array ac)(ts:Array ab):KN E pm s dst (.call ⟨.value (.tmp u),args,ts⟩) ty=clN E pm s dst args ts (s.v u):=by
 rw [jk];cases s.v u<;>first|rfl|(rename_i b _ _;cases b<;>rfl)
theorem AEP(args:Array ac)(ts:Array ab)(f':am)(caps:List D)(h:args.size=ts.size):clN E pm s dst args ts (.clo f' caps)=FZ E pm s dst f' (args.toList.zip ts.toList) caps:=by simp [clN,h]
def mf0(f:am)(dst:Option Tmp):Option (List D×St)→Option St
 |some r=>some (r.2.putO dst (.clo f r.1))
 |none=>none
theorem AEQ(g:am)(xs:List D):mf0 g dst (some (xs,s))=some (s.putO dst (.clo g xs)):=nr rfl
def mfV(f:am)(dst:Option Tmp):Option (List D×St)→Option St
 |some r=>some (r.2.putO dst (.ocl false f r.1))
 |none=>none
theorem yMf(g:am)(captured:Array ac):KN E pm s dst (.makeFunc (.func g) #[] captured) ty=if ty<3000000 then mf0 g dst (LV pm s captured.toList)else mfV g dst (XF pm s (ty-3000000) captured.toList):=by
 rw [Xl];simp only [List.isEmpty_toArray,List.isEmpty_nil,if_true];by_cases h:ty<3000000
 ·rw [if_pos h,if_pos h]
  cases LV pm s captured.toList<;>rfl
 ·rw [if_neg h,if_neg h]
  cases XF pm s (ty-3000000) captured.toList<;>rfl
def oaJ(a:D)(l:List (AL×D)):Option (List D×List (AL×D))→Option (List D×List (AL×D))
 |some r=>some (a::r.1,l++r.2)
 |none=>none
def bn1(dflt:Nat):Option D→Option Nat
 |some (.int _ n)=>if 0≤n then some n.toNat else none
 |_=>none
theorem bnN(n:Nat):OV T s n none=some n:=nr rfl
theorem bnS(n:Nat)(x:ac):OV T s n (some x)=bn1 n (ev T s 0 x):=by
 simp only [OV];rcases ev T s 0 x with _|d
 ·rfl
 ·cases d<;>rfl
theorem AET(n:Nat)(k:IntKind)(i:Int)(h:0≤i):bn1 n (some (.int k i))=some i.toNat:=by simp [bn1,h]
def sl0(T:Tys)(pm:Pm)(s:St)(x:ac)(d:D)(lo hi mx:Option ac):Ty→Option (D×St)
 | .slice e'=>match Cx pm s x d with
  |none=>none
  |some (e,xs,o)=>
   match OV T s 0 lo,OV T s (T.len e xs) hi with
   |some l,some h=>
    if e'=e∧T.known e=true∧l≤h∧h≤T.len e xs then
     if mx.isSome then
      match OV T s 0 mx with
      |some q=>if l=h∧h=q∧hi.isSome=true then some (.own e [],s)else none
      |none=>none
     else match o with
      |none=>some (.sl e ((xs.take (h*T.size e)).drop (l*T.size e)),s)
      |some (L,va,vb)=>
       if pm.wr (L.headD 0)then
        match Cw xs with
        |some ys=>some (.sl e ((ys.take (h*T.size e)).drop (l*T.size e)),s.set L (.sl e ys))
        |none=>none
       else TH L va vb e l h s
    else none
   |_,_=>none
 | .string=>match d with
  | .str b=>match OV T s 0 lo,OV T s b.size hi with
   |some l,some h=>if l≤h∧h≤b.size∧mx.isNone then some (.str (b.extract l h),s)else none
   |_,_=>none
  |_=>none
 |_=>none
theorem slT(x:ac)(d:D)(lo hi mx:Option ac):Ho T pm s t x d lo hi mx=sl0 T pm s x d lo hi mx (T.ty t):=by
 unfold Ho sl0
 cases T.ty t<;>first|rfl|(cases d<;>rfl)
def sl1(T:Tys)(pm:Pm)(s:St)(e:ab)(xs:List D)(o:Option (AL×Nat×Nat)):Option Nat→Option Nat→Option (D×St)
 |some l,some h=>
  if l≤h∧h≤xs.length then
   match o with
   |none=>some (.sl e ((xs.take h).drop l),s)
   |some (L,va,vb)=>
    if pm.wr (L.headD 0)then
     match Cw xs with
     |some ys=>some (.sl e ((ys.take h).drop l),s.set L (.sl e ys))
     |none=>none
    else TH L va vb e l h s
  else none
 |_,_=>none
def sl2(T:Tys)(pm:Pm)(s:St)(e':ab)(lo hi:Option ac):Option (ab×List D×Option (AL×Nat×Nat))→Option (D×St)
 |some (e,xs,o)=>if e'=e∧T.known e=true then sl1 T pm s e xs o (OV T s 0 lo) (OV T s xs.length hi)else none
 |none=>none
theorem AEU(x:ac)(d:D)(lo hi:Option ac)(e:ab)(hz:T.isStruct e=false):sl0 T pm s x d lo hi none (.slice e)=sl2 T pm s e lo hi (Cx pm s x d):=by
 have h1:=M0 hz;simp only [sl0,sl2,Option.isSome_none,Ip,if_false];rcases Cx pm s x d with _|⟨e',xs,o⟩
 ·rfl
 ·simp only;by_cases he:e=e'
  ·subst he;simp only [true_and,h1,NG,Tys.len,if_true]
   cases OV T s 0 lo<;>cases OV T s xs.length hi<;>simp only [sl1]<;>(by_cases hk:T.known e=true<;>simp [hk])
  ·simp only [he,false_and,if_false]
   cases OV T s 0 lo<;>cases OV T s (T.len e' xs) hi<;>rfl
theorem AEV(e:ab)(lo hi:Option ac)(xs:List D)(o:Option (AL×Nat×Nat))(hk:T.known e=true):sl2 T pm s e lo hi (some (e,xs,o))=sl1 T pm s e xs o (OV T s 0 lo) (OV T s xs.length hi):=by simp [sl2,hk]
theorem AEW(e:ab)(xs:List D)(l h:Nat)(h1:l≤h)(h2:h≤xs.length):sl1 T pm s e xs none (some l) (some h)=some (.sl e ((xs.take h).drop l),s):=by simp [sl1,h1,h2]
def sl3(pm:Pm)(s:St)(e:ab)(L:AL)(a b l h:Nat)(o:Option (List D)):Option (D×St):=
 if pm.wr (L.headD 0)then
  match o with
  |some ys=>some (.sl e ((ys.take h).drop l),s.set L (.sl e ys))
  |none=>none
 else TH L a b e l h s
theorem AEY(e:ab)(xs:List D)(L:AL)(a b l h:Nat)(h1:l≤h)(h2:h≤xs.length):sl1 T pm s e xs (some (L,a,b)) (some l) (some h)=sl3 pm s e L a b l h (Cw xs):=by
 simp only [sl1,h1,h2,and_self,if_true];rfl
theorem AEZ(e:ab)(L:AL)(a b l h:Nat)(o:Option (List D))(hw:pm.wr (L.headD 0)=false):sl3 pm s e L a b l h o=some (.vs e L a b l (h-l),s):=by simp only [sl3];rw [if_neg (by rw [hw];decide)];rfl
theorem A6u(r:Nat):pm.see.rd r=pm.rd r:=nr rfl
theorem A6v(r:Nat):pm.see.wr r=false:=nr rfl
theorem AEa(u:Tmp):wrO pm (.tmp u)=pm.wr u:=nr rfl
def ct2(e:ab)(xs:List D)(s1:St):Option Nat→Option (D×St)
 |some h=>if h≤xs.length then some (.own e (xs.take h),s1)else none
 |none=>none
def ct1(T:Tys)(s:St)(e':ab)(hi:Option ac):Option (D×St)→Option (D×St)
 |some (.own e xs,s1)=>
  match OV T s (T.len e xs) hi with
  |some h=>if e'=e∧T.known e=true∧h≤T.len e xs then some (.own e (xs.take (h*T.size e)),s1)else none
  |none=>none
 |_=>none
def ct0(T:Tys)(pm:Pm)(s:St)(t:ab)(x:ac)(hi:Option ac):Ty→Option (D×St)
 | .slice e=>ct1 T s e hi (if wrO pm x then take T pm s t x else none)
 |_=>none
theorem ctT(x:ac)(hi:Option ac):NL T pm s t x hi=ct0 T pm s t x hi (T.ty t):=by
 unfold NL ct0 ct1
 cases T.ty t<;>rfl
theorem AEb(x:ac)(hi:Option ac)(e:ab)(hw:wrO pm x=true):ct0 T pm s t x hi (.slice e)=ct1 T s e hi (take T pm s t x):=by
 unfold ct0;rw [if_pos hw]
theorem AEc(hi:Option ac)(e:ab)(xs:List D)(s1:St)(hk:T.known e=true)(hz:T.isStruct e=false):ct1 T s e hi (some (.own e xs,s1))=ct2 e xs s1 (OV T s xs.length hi):=by
 have h1:=M0 hz;simp only [ct1,hk,true_and,h1,NG,Tys.len,if_true]
 cases OV T s xs.length hi<;>rfl
theorem AEd(e:ab)(xs:List D)(s1:St)(h:Nat)(hle:h≤xs.length):ct2 e xs s1 (some h)=some (.own e (xs.take h),s1):=by
 show(if h≤xs.length then some (D.own e (xs.take h),s1)else none)=_
 rw [if_pos hle]
def ca0(f:am):Option (List D×List (AL×D))→Option (D×List (AL×D))
 |some r=>some (.clo f r.1,r.2)
 |none=>none
theorem AEf(f:am)(cs:List D)(ls:List (AL×D)):ca0 f (some (cs,ls))=some (.clo f cs,ls):=nr rfl
def ca2(pm:Pm)(s:St)(L:AL)(c:D)(rest:List D):Option D→Option (List D×List (AL×D))
 |some c'=>oaJ c' [(L,c)] (KV pm s rest)
 |none=>none
theorem AEg(L:AL)(c:D)(rest:List D)(c':D):ca2 pm s L c rest (some c')=oaJ c' [(L,c)] (KV pm s rest):=nr rfl
def ca1(pm:Pm)(s:St)(L:AL)(rest:List D):Option D→Option (List D×List (AL×D))
 |some c=>ca2 pm s L c rest (Dn c)
 |none=>none
theorem AEi(L:AL)(rest:List D)(c:D):ca1 pm s L rest (some c)=ca2 pm s L c rest (Dn c):=nr rfl
theorem caN:KV pm s []=some ([],[]):=nr rfl
theorem caV(L:AL)(n m:Nat)(rest:List D):KV pm s (.vw L n m::rest)=ca1 pm s L rest (s.look pm L n m):=by
 rw [KV]
 cases s.look pm L n m with
 |none=>rfl
 |some c=>
  simp only [ca1,ca2]
  cases Dn c with
  |none=>rfl
  |some c'=>simp only [Cn];rcases KV pm s rest with _|⟨a,b⟩<;>rfl
theorem caC(ys rest:List D):KV pm s (.cptr ys::rest)=oaJ (.cptr ys) [] (KV pm s rest):=by
 rw [KV];rcases KV pm s rest with _|⟨a,b⟩<;>rfl
theorem A6x(T:Tys)(L0:AL)(j:Nat)(f:am)(caps:List D):KA T false pm s j L0 (.ocl false f caps)=ca0 f (KV pm s caps):=by
 show(if(false||false)=true then none else(KV pm s caps).map fun r=>(D.clo f r.1,r.2))=_
 rw [if_neg (by decide)]
 unfold ca0;rcases KV pm s caps with _|⟨a,b⟩<;>rfl
def va1(T:Tys)(e:ab)(L:AL)(lo len:Nat):Option D→Option (D×List (AL×D))
 |some (.own e' xs)=>
  if e'=e∧T.known e=true∧(lo+len)*T.size e≤xs.length then
   (Cw xs).map fun ys=>(.sl e ((ys.drop (lo*T.size e)).take (len*T.size e)),[(L,.own e' xs)])
  else none
 |_=>none
theorem AEj(e:ab)(L L0:AL)(n m lo len j:Nat):KA T false pm s j L0 (.vs e L n m lo len)=va1 T e L lo len (s.look pm L n m):=by
 show WU T pm s e L n m lo len=_
 unfold WU va1;rcases s.look pm L n m with _|d
 ·rfl
 ·cases d<;>rfl
theorem A2L(x:Tmp):KN E pm s dst (.call ⟨.builtin .clear, #[.tmp x], #[t]⟩) ty=Vn dst (K8 E.T pm s t (.tmp x) (s.v x)):=Lx dst _
def sU(T:Tys)(pm:Pm)(s:St)(t:ab):Option (ab×AL×List D×Nat×Nat)→Option (D×St)
 |some (e,L,xs,lo,len)=>
  if T.isSl t e&&T.known e&&(T.size e==1)&& !T.isStruct e&&Cq (T.zero1 e)&&pm.wr (L.headD 0)then
   some (.tup [],(s.set L (.own e (BU xs lo (ao len (T.zero1 e))))).bump (L.headD 0))
  else none
 |none=>none
theorem AEk(x:ac)(a:D):K8 T pm s t x a=sU T pm s t (Va pm s x a):=by
 unfold K8 sU;rcases Va pm s x a with _|⟨_,_,_,_,_⟩<;>rfl
theorem AEl(e:ab)(L:AL)(xs:List D)(lo len:Nat)(h1:T.isSl t e=true)(h2:T.known e=true)(h3:T.isStruct e=false)(h5:Cq (T.zero1 e)=true)(h7:pm.wr (L.headD 0)=true):
  sU T pm s t (some (e,L,xs,lo,len))=some (.tup [],(s.set L (.own e (BU xs lo (ao len (T.zero1 e))))).bump (L.headD 0)):=by
 have h8:=M0 h3;unfold sU;dsimp only;rw [if_pos (by rw [h1,h2,h3,h5,h7,h8];simp)]
def A2M(e:ab):Ty→Bool
 | .slice e'=>e'==e
 |_=>false
theorem AEm(e:ab):T.isSl t e=A2M e (T.ty t):=by unfold Tys.isSl A2M;cases T.ty t<;>rfl
theorem AEn(e e':ab):A2M e (.slice e')=(e'==e):=nr rfl
def dv1(e:ab)(L:AL)(lo len:Nat):Option D→Option (ab×AL×List D×Nat×Nat)
 |some (.own e' xs)=>if e'=e∧lo+len≤xs.length then some (e,L,xs,lo,len)else none
 |_=>none
theorem dvS(x:ac)(e:ab)(L:AL)(n m lo len:Nat):Va pm s x (.vs e L n m lo len)=dv1 e L lo len (s.look pm L n m):=by
 show(match s.look pm L n m with|some (.own e' xs)=>if e'=e∧lo+len≤xs.length then some (e,L,xs,lo,len)else none|_=>none)=_
 rcases s.look pm L n m with _|d
 ·rfl
 ·cases d<;>rfl
theorem AEp(e:ab)(L:AL)(lo len:Nat)(xs:List D)(h:lo+len≤xs.length):dv1 e L lo len (some (.own e xs))=some (e,L,xs,lo,len):=by simp [dv1,h]
theorem AEq(x:Tmp)(e:ab)(L:AL)(n m lo len:Nat):CG s dst (.tmp x) (.vs e L n m lo len)=s.putO dst (.vs e L n m lo len):=nr rfl
theorem A6y(x:Tmp)(e:ab)(L:AL)(n m lo len:Nat):dK pm x (.vs e L n m lo len)=true:=by simp [dK,D.hasObj]
end
theorem dN{P:Program}{T:Tys}{f:am}{e:ab}{r:D}{outs:List D}(hk:T.known e=true)(h: ∀A c,Good P T f [.konst (.slice A 0 c)] [] r outs):Good P T f [.sl e []] [] r outs:=by
 refine⟨(h none 0).1,fun vs gh w S FL hsz hA hL hL0 hLd hlt=> ?_⟩
 obtain⟨v,hv,hW⟩:=hA 0 _ rfl
 obtain⟨A,c,rfl⟩: ∃A c,v= .slice A 0 c:=by
  cases hW with
  |sl us hE hn hc hm hx hw=>
   rename_i A n c
   have hp:=Zg hk
   have:n=0:=by
    simp only [QS]at hn;rcases Nat.mul_eq_zero.1 hn.symm with h0|h0
    ·exact h0
    ·omega
   subst this
   exact⟨_,_,rfl⟩
 refine(h A c).2 vs gh w S FL hsz (fun i d hi=> ?_) hL hL0 hLd hlt
 cases i with
 |zero=>simp at hi;subst hi;exact⟨_,hv,.konst (fun _ h=>h)⟩
 |succ i=>simp at hi
end Dv
namespace Dv
open Go
set_option maxRecDepth 10000
set_option linter.defProp false
theorem geq:G=100000:=nr rfl
def AU:=A7 (A7 @ABZ @ABx) (A7 @A2L (A7 @ABw (A7 @ABz (A7 @ABR (A7 @ABS (A7 @A1C (A7 @AE4 (A7 @yMf (A7 @A2J (A7 @ABc (A7 @A4Q (A7 @ABa (A7 @A1K (A7 @A4R (A7 @A4U (A7 @A1L (A7 @A4K (A7 @A4L (A7 @ABW (A7 @A1M (A7 @A1N (A7 @A1O (A7 @ABe (A7 @ABf (A7 @ABg (A7 @A4V (A7 @dG (A7 @Zk (A7 @A4t (A7 @ry (A7 @nE (A7 @A1X (A7 @A4u (A7 @yUn (A7 @A1Y (A7 @ABv (A7 @nG (A7 @A1Z (A7 @rz (A7 @A1a (A7 @A4y (A7 @nH (A7 @A50 (A7 @mh (A7 @ji (A7 @jg (A7 @A2C (A7 @yBs (@Xm)))))))))))))))))))))))))))))))))))))))))))))))))
def nS:=A7 (A7 @ABi (A7 @fnI (A7 @A4M (A7 @A4N (A7 @A4O (A7 @A4P (A7 @ABX (A7 @ABY (A7 @ADm (A7 @yBv (A7 @ADn (A7 @fvN (A7 @fvC (A7 @ADp (A7 @ADq (A7 @ADr (A7 @A6e (A7 @ADs (A7 @A2B (A7 @A6h (A7 @A6i (A7 @ySk (A7 @ADt (@ADu)))))))))))))))))))))))) (A7 @ABl (A7 @AC5 (A7 @AC6 (A7 ADf (A7 @ACC (A7 @ACD (A7 @A5C (A7 @A1e (A7 @A1m (A7 @faE (A7 @foN (A7 @ADv (A7 @ADw (A7 @A6k (A7 @A2D (A7 @ADz (A7 @AE0 (A7 (A7 @fnO @fnA) (A7 @spN (A7 @spC (A7 @AEk (A7 @AEl (A7 @A1l (A7 @ACX (A7 @ACY (A7 @A59 (A7 @A1d (A7 @A5A (A7 @A5D (A7 @A5E (A7 @A5F (A7 @A5G (A7 @A5H (A7 @A5I (A7 @A5J (A7 @AEZ (A7 @A6u (A7 @A6v (A7 @AEa (A7 @ctT (A7 @AEb (A7 @AEc (A7 @AEd (A7 (A7 @AEj (A7 @A6x (A7 @AEf (A7 @AEi (A7 @AEg (A7 @caN (A7 @caV @caC))))))) (A7 @A5v (A7 @A1q (A7 @ACm (A7 @A5w (A7 @axK (A7 @A5x (A7 @ACn (A7 @A5y (A7 @AEm (A7 @AEn (A7 @dvS (A7 @AEp (A7 @AEq (A7 @A6y (A7 @ABm (A7 @ABn (A7 @A4j (A7 @A6I (A7 @A6J (A7 @A21 (A7 @A6K (A7 @ADC (A7 @bkK (A7 @A6m (A7 (A7 @A2H @AE5) (A7 @A48 (A7 @A49 (A7 @ABT (A7 @ABU (A7 @ABV (A7 @ndK (A7 @AC0 (A7 @A4w (A7 @apK (A7 @A5s (A7 @ACf (A7 @ACg (A7 @dl2 (A7 @dl1 (A7 @AEG (A7 @A6q (A7 @AEE (A7 @AEF (A7 @AE6 (A7 @AE7 (A7 @A6n (A7 @AE8 (A7 (A7 @AE9 (A7 @AEA @AEB)) (A7 @rg2 (A7 @rg3 (A7 @rg4 (A7 @A6o (A7 @AEC (A7 @A6p (A7 @AED (A7 @noA (A7 @AEH (A7 @AEI (A7 @A2I (A7 @AEJ (A7 @A6s (A7 @A6t (A7 @AEM (A7 @AEN (A7 @AEP (A7 @AEQ (A7 @bnN (A7 @bnS (A7 @AET (A7 @slT (A7 @AEU (A7 @AEV (A7 @AEW (A7 @AEY (A7 @A6L (A7 @bkT (A7 @bkF (A7 @bkL (A7 @A6M (A7 @A22 (A7 @ipC (A7 @ipN (A7 @ieC (A7 @fiA (A7 @fiB (A7 @fiC (A7 @A1z (A7 @AD7 (A7 @ACZ (A7 @ACa (A7 @hdC (A7 @ACk (A7 @ACl (A7 @mvT (A7 @A24 (A7 @sK (A7 @A6O (A7 @A25 (A7 @A6P (A7 @ADG (A7 @nJ (A7 @A26 (A7 @sM (A7 @A27 (A7 @sN (A7 @A6Q (A7 @ADH (A7 @ADI (A7 @ADJ (A7 @A28 (A7 @pmR (A7 @pmW (A7 @ABb (A7 @A4S (A7 @ABd (A7 @ABO (A7 @ABP (A7 @ABQ (A7 @ADx (A7 @ADj (A7 @ADi (A7 @ADk (A7 @ADg (A7 (A7 @AE1 @yMk) (A7 (A7 @A6l @AE2) (A7 @AE3 (A7 @A6b (A7 @A6c (A7 @A1D (A7 @A1E (A7 @rX (A7 @A1F (A7 @A4W (A7 @A1P (A7 @ABh (A7 @ru (A7 @A4X (A7 @ABj (A7 @A4Y (A7 @A4Z (A7 @A4a (A7 @A1Q (A7 @A4b (A7 @A4c (A7 @A1R (A7 @A4d (A7 @A4e (A7 @A1S (A7 @A1T (A7 @A4f (A7 @A1U (A7 @ABk (A7 @A4g (A7 @A4h (A7 @A4i (A7 @A4k (A7 @pkB (A7 @pkT (A7 @pkF (A7 @A45 (A7 @A46 (A7 @A47 (A7 @ABy (A7 @A4v (A7 @AC1 (A7 @AC2 (A7 @AC4 (A7 @A4l (A7 @A4m (A7 @A4n (A7 @A4o (A7 @ABo (A7 @ABp (A7 @ABq (A7 @ABr (A7 @ABs (A7 @ABt (A7 @A4p (A7 @A4q (A7 @boI (A7 @boB (A7 @boA (A7 @A1V (A7 @A4r (A7 @A4s (A7 @ldC (A7 @AC7 (A7 @ldP (A7 @ldB (A7 @AC8 (A7 @A51 (A7 @A53 (A7 @A1b (A7 @A1c (A7 @A54 (A7 @AC9 (A7 @A55 (A7 @ACA (A7 @A57 (A7 @A58 (A7 @lnT (A7 @ACE (A7 @A5K (A7 @ixT (A7 @ACG (A7 @ACI (A7 @A5M (A7 @tkC (A7 @A5R (A7 @A1i (A7 @ACN (A7 @A5S (A7 @A5T (A7 @ACO (A7 @A5U (A7 @A5N (A7 @A5O (A7 @ACJ (A7 @ACK (A7 @ACM (A7 @A1h (A7 @sI (A7 @A1j (A7 @gB (A7 @hoI (A7 @hoB (A7 @A5V (A7 @A5W (A7 @A5X (A7 @ACP (A7 @A5Y (A7 @A5Z (A7 @A5a (A7 @ACR (A7 @A5c (A7 @ACS (A7 @ACT (A7 @ACU (A7 @A5d (A7 @A5e (A7 @A5f (A7 @A5g (A7 @A5h (A7 @A5i (A7 @A5j (A7 @A1k (A7 @ACb (A7 @A5k (A7 @A5l (A7 @A5m (A7 @A5n (A7 @A5o (A7 @A5p (A7 @ceS (A7 (A7 @A1n @ACc) (A7 @ACd (A7 @ACi (A7 @ACj (A7 @A1o (A7 @A1p (A7 @A5t (A7 @A5u (A7 @arC (A7 @arF (A7 @aCS (A7 @A5z (A7 @A1r (A7 @ACo (A7 @A60 (A7 @atK (A7 @A61 (A7 @ACs (A7 @A62 (A7 @A63 (A7 @ACp (A7 @ACr (A7 @ACt (A7 @ACu (A7 @A1s (A7 @A64 (A7 @A1t (A7 @A65 (A7 @ACv (A7 @A66 (A7 @ACw (A7 @cdB (A7 @ACx (A7 @ACy (A7 @ACz (A7 @cdL (A7 @AD1 (A7 @AD2 (A7 @A67 (A7 @A1v (A7 @A68 (A7 @A69 (A7 @A6A (A7 @A1w (A7 @sJ (A7 @A6B (A7 @A1x (A7 @AD3 (A7 @A6C (A7 @AD4 (A7 @vI (A7 @A6D (A7 @A6E (A7 @A1y (A7 @AD5 (A7 @gD (A7 @AD6 (A7 @fiD (A7 @fi0 (A7 @re1 (A7 @re2 (A7 @AD8 (A7 @A6F (A7 @A6G (A7 @AD9 (A7 @A20 (A7 @ADA (A7 @ADB (A7 @A6H (A7 @A6N (A7 @A23 (A7 @ADF (A7 @A4A (A7 @A4D (A7 @A1G (A7 @A4G (A7 @A4B (A7 @A4E (A7 @A1H (A7 @A4H (A7 @A4C (A7 @A4F (A7 @A1I (A7 @A4I (A7 @jl (A7 @jm (A7 @A4J (A7 @jo (A7 @nA (A7 @rY (A7 @rZ (A7 @rf (A7 @geq (A7 @Int.toNat_natCast (A7 @Int.toNat_zero (A7 @Int.natCast_nonneg (A7 @Nat.zero_le (A7 @Int.le_refl (A7 @Nat.le_refl (A7 @Bool.and_true (A7 @Bool.true_and (A7 @Bool.and_false (A7 @Bool.false_and (A7 @Bool.or_false (A7 @Bool.false_or (A7 @Bool.or_true (A7 @Bool.true_or (A7 @Bool.not_true (A7 @Bool.not_false (A7 @Bool.false_eq_true (A7 @decide_true (A7 @decide_false (A7 @and_self (A7 @and_true (@true_and)))))))))))))))))))))))))))))))))))))))))))))))))))))))))))))))))))))))))))))))))))))))))))))))))))))))))))))))))))))))))))))))))))))))))))))))))))))))))))))))))))))))))))))))))))))))))))))))))))))))))))))))))))))))))))))))))))))))))))))))))))))))))))))))))))))))))))))))))))))))))))))))))))))))))))))))))))))))))))))))))))))))))))))))))))))))))))))))))))))))))))))))))))))))))))))))))))))))))))))))))))))))))))))
end Dv
