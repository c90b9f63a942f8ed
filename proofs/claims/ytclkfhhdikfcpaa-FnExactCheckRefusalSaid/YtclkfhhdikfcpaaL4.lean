/- Value semantics for Go code, part 4: arguments of laws, slim code and rules. Conditions: none beyond those in each lemma. -/
import Derived.Test.YtclkfhhdikfcpaaL3
import Derived.WalkKit
import Derived.ProofKit
import Derived.OpenShut
import Derived.ShutString
import Derived.ChangeOld
import Derived.Below
import Derived.Carry
import Derived.IntWalk
open Go renaming TypeId → ab,Operand → ac,FuncId → am
open List renaming range → an,replicate → ao,getElem?_eq_none → bj
open Option.some renaming injEq → al
set_option linter.unusedSimpArgs false
set_option linter.unusedVariables false
namespace Dv
open Go
inductive Shp(T:Tys):ab→List D→Prop
 |int {t k n} (ht:T.ty t= .int k) (hw:(Lit.int k n).wf=true):Shp T t [.int k n]
 |bool {t b} (ht:T.ty t= .bool):Shp T t [.bool b]
 |string {t s} (ht:T.ty t= .string) (hs:s.size≤maxLen):Shp T t [.str s]
 |slice {t e} {xss:List (List D)} (ht:T.ty t= .slice e) (hx: ∀xs,xs∈xss→Shp T e xs) (hl:xss.length≤maxLen):Shp T t [.sl e xss.flatten]
 |struct {t fs} {ds:List D} (ht:T.ty t= .struct fs) (hl:ds.length=fs.length) (hx: ∀(i:Nat) (f:ab) (d:D),fs[i]? =some f→ds[i]? =some d→Shp T f [d]):Shp T t ds
def Mw(T:Tys):Nat→ab→Bool
 |0,_=>false
 |n+1,t=>match T.ty t with
  | .int _=>true
  | .bool=>true
  | .string=>true
  | .slice e=>T.known e&&Mw T n e
  | .struct fs=>(T.nest t).isNone&& !fs.isEmpty&&fs.all (Mw T n)
  |_=>false
theorem Shp.length{T:Tys}{t:ab}{ds:List D}(h:Shp T t ds):ds.length=T.size t:=by
 cases h with
 |int ht=>simp [Tys.size,ht,Ty.size]
 |bool ht=>simp [Tys.size,ht,Ty.size]
 |string ht=>simp [Tys.size,ht,Ty.size]
 |slice ht=>simp [Tys.size,ht,Ty.size]
 |struct ht hl=>simp [Tys.size,ht,Ty.size,hl]
theorem Vh{α:Type}{n:Nat}(hn:0<n): ∀(xss:List (List α)),(∀xs∈xss,xs.length=n)→ ∀k:Nat,xss.flatten[k]? =(xss[k / n]?).bind fun xs=>xs[k % n]? :=by
 intro xss
 induction xss with
 |nil=>intro _ k;simp
 |cons xs xss ih=>
  intro h k;have hx:=h xs (JJ);rw [Wl];rcases Nat.lt_or_ge k n with hk|hk
  ·rw [M0 (by omega),Nat.div_eq_of_lt hk,Nat.mod_eq_of_lt hk];rfl
  ·rw [MO (by omega),ih (fun ys hy=>h ys (Hw _ hy)),hx]
   have h1:k / n=(k-n) / n+1:=by
    rw [Nat.div_eq_sub_div hn hk]
   have h2:k % n=(k-n) % n:=by rw [Nat.mod_eq_sub_mod hk]
   rw [h1,h2];rfl
theorem QR{α:Type}{n:Nat}: ∀(xss:List (List α)),(∀xs∈xss,xs.length=n)→xss.flatten.length=xss.length*n:=by
 intro xss
 induction xss with
 |nil=>intro _;simp
 |cons xs xss ih=>
  intro h;rw [Wl,PQ,ih (fun ys hy=>h ys (Hw _ hy)),h xs (JJ),MQ,Nat.add_mul];omega
abbrev YP(w:World):Nat→Prop:=fun k=>k<w.heap.size
section
variable {P:Program} {T:Tys} {H:Type} {enc:ab×Value→H} {w:World} {spare:Nat→Bool} {Zb:Bool}
theorem BR.cells(h:BR P T){t:ab}(hk:T.known t=true):P.cellsOf t=T.size t:=by
 obtain⟨i,h1,h2,_⟩:=h.info hk;simp [Program.cellsOf,h1,h2]
theorem XU{n:Nat}{t:ab}(h:Mw T n t=true):T.known t=true:=by
 cases n with
 |zero=>cases h
 |succ n=>
  unfold Mw at h;unfold Tys.known
  cases ht:T.ty t with
  |struct fs=>
   rw [ht]at h
   cases fs with
   |nil=>simp at h
   |cons=>rfl
  |other=>rw [ht]at h;cases h
  |map=>rw [ht]at h;cases h
  |arr=>rw [ht]at h;cases h
  |_=>rfl
theorem Vi{t:ab}(hk:T.known t=true):0<T.size t:=by
 unfold Tys.known at hk;unfold Tys.size
 cases ht:T.ty t with
 |struct fs=>
  rw [ht]at hk
  cases fs with
  |nil=>cases hk
  |cons=>simp [Ty.size]
 |arr n e=>
  rw [ht]at hk
  cases n with
  |zero=>cases hk
  |succ=>simp [Ty.size]
 |_=>simp [Ty.size]
theorem XV{base:Nat}{a:Addr}{n:Nat}{cs:List Value}(h:w.cells? base a n=some cs):cs.length=n∧ ∀i,i<n→w.cell? (a.add i)=cs[i]? :=by
 unfold World.cells? at h
 split at h
 ·exact⟨by simpa using mapM_some_length h,fun i hi=>by have:=mapM_some_get h i i (by simp [hi]);simpa using this⟩
 ·cases h
theorem gZ{ad:Addr}{v:Value}(h:w.cell? ad=some v):ad.block<w.heap.size:=by
 rcases Nat.lt_or_ge ad.block w.heap.size with hl|hl
 ·exact hl
 ·have h1:=RQ hl;simp [World.cell?,h1]at h
theorem bZ(hT:BR P T): ∀(fuel:Nat) (n:Nat) (t:ab) (cs:List Value) (x:DataW H×List MemPlace),Mw T n t=true→DataW.trod enc P w 0 spare Zb fuel t cs=some x→
  ∃ds,Shp T t ds∧cs.length=ds.length∧ ∀(i:Nat) (d:D),ds[i]? =some d→ ∃v,cs[i]? =some v∧W T (YP w) w V0 Fh d v (fun _=>False):=by
 have hE:Em (fun _:Nat=>False):=fun _ h=>h
 have one: ∀(d0:D) (v0:Value),W T (YP w) w V0 Fh d0 v0 (fun _=>False)→ ∀(i:Nat) (d:D),[d0][i]? =some d→ ∃v,[v0][i]? =some v∧W T (YP w) w V0 Fh d v (fun _=>False):=by
  intro d0 v0 h i d hi
  cases i with
  |zero=>simp at hi;subst hi;exact⟨v0,rfl,h⟩
  |succ i=>simp at hi
 intro fuel
 induction fuel with
 |zero=>intro n t cs x _ h;simp [DataW.trod]at h
 |succ fuel ih=>
  intro n t cs x hd h;have hk:=XU hd;have h0:=(hT t).1;unfold EF at h0
  cases n with
  |zero=>cases hd
  |succ n=>
   unfold Mw at hd
   cases ht:T.ty t<;>rw [ht]at h0 hd<;>simp only at h0 hd
   case int k=>
    obtain⟨m,rfl,_,hw⟩:=DataW.trod_int h0.1 h
    exact⟨[.int k m],.int ht hw,rfl,one _ _ (.int hE)⟩
   case bool=>
    obtain⟨b,rfl,_⟩:=DataW.trod_bool h0.1 h
    exact⟨[.bool b],.bool ht,rfl,one _ _ (.bool hE)⟩
   case string=>
    obtain⟨s,rfl,_,hs⟩:=DataW.trod_string h0.1 h
    exact⟨[.str s],.string ht hs,rfl,one _ _ (.str hE)⟩
   case slice e=>
    simp only [ED]at hd;have hc:=hT.cells hd.1;have hpos:=Vi hd.1;rcases DataW.trod_slice h0.1 h with⟨rfl,_⟩|⟨a,len,cap,elems,rest,m,hm,rfl,_,_,hl,hcap,hlen,hel,_,_⟩
    ·exact⟨[.sl e ([]:List (List D)).flatten],.slice ht (by simp) (by simp [maxLen]),rfl,one _ _ (.sl (fun _=>undef) hE (by simp) (GR _) (by simp [maxLen]) (by simp) (by simp))⟩
    ·injection hm with hm
     subst hm
     have hex: ∀i,i<len→ ∃ds,Shp T e ds∧ ∀(j:Nat) (d:D),ds[j]? =some d→ ∃v,w.cell? (a.add (i*T.size e+j))=some v∧W T (YP w) w V0 Fh d v (fun _=>False):=by
      intro i hi;have h1:=hel i hi;rw [Fg (by omega),FN]at h1
      obtain⟨cs',h2,h3⟩:=h1;obtain⟨ds,q1,q2,q3⟩:=ih n e cs' _ hd.2 h3
      refine⟨ds,q1,fun j d hj=> ?_⟩
      obtain⟨v,hv,hW⟩:=q3 j d hj;obtain⟨c1,c2⟩:=XV h2;rw [hc]at c1 c2;have hj':j<T.size e:=by rw [←c1];exact(Df.1 hv).1
      have h4:=c2 j hj';rw [Gm]at h4
      exact⟨v,by rw [h4,hv],hW⟩
     let ch:Nat→List D:=fun i=>if h:i<len then(hex i h).choose else []
     have hch: ∀i,i<len→Shp T e (ch i)∧ ∀(j:Nat) (d:D),(ch i)[j]? =some d→ ∃v,w.cell? (a.add (i*T.size e+j))=some v∧W T (YP w) w V0 Fh d v (fun _=>False):=by
      intro i hi;have:=(hex i hi).choose_spec
      simp only [ch,hi,dif_pos];exact this
     have hall: ∀xs∈(an len).map ch,xs.length=T.size e:=by
      intro xs hxs;obtain⟨i,hi,rfl⟩:=Fp.1 hxs
      exact(hch i (MR.1 hi)).1.length
     refine⟨[.sl e ((an len).map ch).flatten],.slice ht (fun xs hxs=> ?_) (by simp;omega),rfl,one _ _ ?_⟩
     ·obtain⟨i,hi,rfl⟩:=Fp.1 hxs
      exact(hch i (MR.1 hi)).1
     ·have key: ∀(i:Nat) (x:D),((an len).map ch).flatten[i]? =some x→ ∃v,w.cell? (a.add i)=some v∧W T (YP w) w V0 Fh x v (fun _=>False):=by
       intro i x hi;rw [Vh hpos _ hall,FN]at hi;obtain⟨xs,h1,h2⟩:=hi;rw [Jh,CF]at h1;obtain⟨q,hq,rfl⟩:=h1;obtain⟨hq1,hq2⟩:=Df.1 hq;simp only [List.getElem_range]at hq2;subst hq2;obtain⟨v,hv,hW⟩:=(hch _ (by simpa using hq1)).2 _ x h2
       rw [show i / T.size e*T.size e+i % T.size e=i by rw [Nat.mul_comm];exact Nat.div_add_mod i (T.size e)]at hv
       exact⟨v,hv,hW⟩
      refine .sl (fun i=>(w.cell? (a.add i)).getD undef) hE (by rw [QR _ hall];simp) hl hcap (fun i x hi=> ?_) (fun i x hi=> ?_)
      ·obtain⟨v,hv,_⟩:=key i x hi
       exact⟨a,rfl,by have:=gZ hv;rw [IK]at this;exact this,by rw [hv];rfl⟩
      ·obtain⟨v,hv,hW⟩:=key i x hi;simp only [hv,Um];exact hW
   case struct fs=>
    simp only [ED,I6,Yp]at hd;obtain⟨⟨fields,hu,hfx⟩,hinfo⟩:=h0;rw [hd.1.1]at hfx;obtain⟨hfl,hfi⟩:=hfx;obtain⟨xs,m,hm,_,hcl,hxl,hx⟩:=DataW.trod_struct hu h
    injection hm with hm
    subst hm;rw [hT.cells hk]at hcl;have hsz:T.size t=fs.length:=by simp [Tys.size,ht,Ty.size]
    have hex: ∀i,i<fs.length→ ∃d f,fs[i]? =some f∧Shp T f [d]∧ ∃v,cs[i]? =some v∧W T (YP w) w V0 Fh d v (fun _=>False):=by
     intro i hi;have hif:i<fields.size:=by omega
     obtain⟨f1,f2,f3,f4⟩:=hfi i _ (P5 hif);have h1:=hx i _ (P5 hif)
     have hs1:T.size fields[i].type=1:=by
      unfold Tys.isStruct at f4;unfold Tys.size
      cases hty:T.ty fields[i].type<;>simp_all [Ty.isStruct,Ty.size]
     rw [f1,hT.cells f3,hs1,Fg (by omega)]at h1
     obtain⟨ds,q1,q2,q3⟩:=ih n _ _ _ (hd.2 _ (RS f2)) h1;have hl1:ds.length=1:=by rw [q1.length,hs1]
     obtain⟨d,rfl⟩:=List.length_eq_one_iff.1 hl1;obtain⟨v,hv,hW⟩:=q3 0 d rfl
     refine⟨d,_,f2,q1,v, ?_,hW⟩
     rw [List.getElem?_take]at hv;simp only [Nat.zero_lt_one,if_true,KH,Nat.add_zero]at hv;exact hv
    let ch:Nat→D:=fun i=>if h:i<fs.length then(hex i h).choose else .undef
    have hch: ∀i,i<fs.length→ ∃f,fs[i]? =some f∧Shp T f [ch i]∧ ∃v,cs[i]? =some v∧W T (YP w) w V0 Fh (ch i) v (fun _=>False):=by
     intro i hi;have:=(hex i hi).choose_spec
     simp only [ch,hi,dif_pos];exact this
    have hget: ∀(i:Nat) (d:D),((an fs.length).map ch)[i]? =some d→i<fs.length∧d=ch i:=by
     intro i d hi;rw [Jh,CF]at hi;obtain⟨q,hq,rfl⟩:=hi;obtain⟨hq1,hq2⟩:=Df.1 hq;simp only [List.getElem_range]at hq2;subst hq2
     exact⟨by simpa using hq1,rfl⟩
    refine⟨(an fs.length).map ch,.struct ht (by simp) (fun i f d hf hi=> ?_),by simp;omega,fun i d hi=> ?_⟩
    ·obtain⟨h1,rfl⟩:=hget i d hi;obtain⟨f',hf',hs,_⟩:=hch i h1;rw [hf]at hf';injection hf' with hf';subst hf';exact hs
    ·obtain⟨h1,rfl⟩:=hget i d hi;obtain⟨f',hf',hs,v,hv,hW⟩:=hch i h1
     exact⟨v,hv,hW⟩
   all_goals (cases hd)
def top(T:Tys)(t:ab)(ds:List D):D:=if T.isStruct t then .agg ds else ds.headD .undef
def xk(T:Tys)(t:ab)(d:D):Prop:= ∃ds,Shp T t ds∧d=top T t ds
theorem xm(hT:BR P T){r:Reach}{base n:Nat}{t:ab}{v:Value}{d0:DataW H}{ps:List MemPlace}(hd:Mw T n t=true)(hv:Value.okWide P w r base t v)(h:DataW.Trod enc P w 0 spare Zb t v d0 ps):
  ∃d,xk T t d∧W T (YP w) w V0 Fh d v (fun _=>False):=by
 obtain⟨fuel,hf⟩:=h;obtain⟨ds,q1,q2,q3⟩:=bZ hT fuel n t _ _ hd hf;have hfact:=(hT t).1;unfold EF at hfact
 have flat:T.isStruct t=false→v.cells.toList=[v]→ ∃d,xk T t d∧W T (YP w) w V0 Fh d v (fun _=>False):=by
  intro hs hc;have hl:ds.length=1:=by rw [←q2,hc];rfl
  obtain⟨d,rfl⟩:=List.length_eq_one_iff.1 hl;obtain⟨v',hv',hW⟩:=q3 0 d rfl;rw [hc]at hv';simp only [Lb,al]at hv';subst hv'
  exact⟨d,⟨[d],q1,by simp [top,hs]⟩,hW⟩
 cases n with
 |zero=>cases hd
 |succ n=>
  unfold Mw at hd
  cases ht:T.ty t<;>rw [ht]at hfact hd<;>simp only at hfact hd
  case int k=>
   refine flat (by simp [Tys.isStruct,ht,Ty.isStruct]) ?_
   simp only [Value.okWide,hfact.1,Cell.okWide]at hv
   cases v<;>simp_all [Cell.ok,Value.cells]
  case bool=>
   refine flat (by simp [Tys.isStruct,ht,Ty.isStruct]) ?_
   simp only [Value.okWide,hfact.1,Cell.okWide]at hv
   cases v<;>simp_all [Cell.ok,Value.cells]
  case string=>
   refine flat (by simp [Tys.isStruct,ht,Ty.isStruct]) ?_
   simp only [Value.okWide,hfact.1,Cell.okWide]at hv
   cases v<;>simp_all [Cell.ok,Value.cells]
  case slice e=>
   refine flat (by simp [Tys.isStruct,ht,Ty.isStruct]) ?_
   simp only [Value.okWide,hfact.1,Cell.okWide]at hv
   cases v<;>simp_all [Cell.ok,Value.cells]
  case struct fs=>
   obtain⟨⟨fields,hu,_⟩,_⟩:=hfact;obtain⟨cs,rfl,hcs⟩:=WideShapes.okWide_struct hu hv
   have hval: ∀(i:Nat) (d:D),ds[i]? =some d→cs[i]? =some (cs.getD i undef)∧W T (YP w) w V0 Fh d (cs.getD i undef) (fun _=>False):=by
    intro i d hi;obtain⟨v,hv',hW⟩:=q3 i d hi;have:cs[i]? =some v:=by simpa [Value.cells] using hv'
    rw [Jg,this];exact⟨rfl,hW⟩
   refine⟨.agg ds,⟨ds,q1,by simp [top,Tys.isStruct,ht,Ty.isStruct]⟩,.agg (fun i=>cs.getD i undef) (fun _ _=>False) (by simpa [Value.cells] using q2) (fun i x hi=>(hval i x hi).1) (fun k=>⟨fun h=>h.elim,fun⟨_,_,h⟩=>h⟩) (fun _ _ _ _ _ _ h=>h.elim) (fun i x hi=>(hval i x hi).2)⟩
  all_goals (cases hd)
end
def tC(T:Tys):List ab→List D→Prop
 | [],[]=>True
 |t::ts,d::ds=>xk T t d∧tC T ts ds
 |_,_=>False
theorem args_W{P:Program}{T:Tys}{H:Type}{enc:ab×Value→H}{w:World}{r:Reach}{base n:Nat}(hT:BR P T): ∀(ts:List ab) (vs:List Value) (d0:List (DataW H)) (ps:List MemPlace),ts.all (Mw T n)=true→
  (∀(j:Nat) (t:ab) (v:Value),ts[j]? =some t→vs[j]? =some v→Value.okWide P w r base t v)→DataW.TrodAll enc P w 0 (fun _=>true) true ts vs d0 ps→
  ∃ds,tC T ts ds∧vs.length=ds.length∧ ∀(i:Nat) (d:D),ds[i]? =some d→ ∃v,vs[i]? =some v∧W T (YP w) w V0 Fh d v (fun _=>False):=by
 intro ts
 induction ts with
 |nil=>
  intro vs d0 ps _ _ h
  cases vs<;>cases d0<;>simp [DataW.TrodAll]at h
  exact⟨[],trivial,rfl,by simp⟩
 |cons t ts ih=>
  intro vs d0 ps hd hv h
  cases vs with
  |nil=>cases d0<;>simp [DataW.TrodAll]at h
  |cons v vs=>
   cases d0 with
   |nil=>simp [DataW.TrodAll]at h
   |cons d0 ds0=>
    simp only [DataW.TrodAll]at h;obtain⟨p,q,h1,h2,_⟩:=h;simp only [MS,ED]at hd;obtain⟨d,ha,hW⟩:=xm hT hd.1 (hv 0 t v rfl rfl) h1;obtain⟨ds,hb,hl,hWs⟩:=ih vs ds0 q hd.2 (fun j t' v' hj hj'=>hv (j+1) t' v' (by simpa using hj) (by simpa using hj')) h2
    refine⟨d::ds,⟨ha,hb⟩,by simp [hl],fun i x hi=> ?_⟩
    cases i with
    |zero=>simp at hi;subst hi;exact⟨v,rfl,hW⟩
    |succ i=>simpa using hWs i x (by simpa using hi)
theorem law_calls{Y:Sys}(hY:Y.Ok){f:am}{ds:List D}(hc:Y.call f ds []=some (.bool true,[])){vs:Array Value}{w:World}(hl:vs.size=ds.length)
  (hW: ∀(i:Nat) (d:D),ds[i]? =some d→ ∃v,vs[i]? =some v∧W Y.T (YP w) w V0 Fh d v (fun _=>False)):
  Calls Y.P f vs w fun e w'=>e= .returned (.bool true)∧RowKit.Below w.heap.size w w':=by
 have hg:=Sys.call_good hY hc;refine Calls.mono (hg.2 vs (fun _=>undef) w (YP w) (fun _ _=>False) hl (fun i d hi=> ?_) (fun j d hj=>by simp at hj) (fun _ _ _ h=>h) (fun _ _ _ _ h=>h.elim) (fun _ h=>h)) ?_
 ·obtain⟨v,hv,hWv⟩:=hW i d hi
  exact⟨v,hv,hWv.up⟩
 ·intro e w' he
  cases e with
  |returned v=>
   obtain⟨S',F,FL',h1,_,_,_,hst,_,_⟩:=he
   cases h1 with
   |bool=>exact⟨rfl,hst.os,hst.tape,hst.output,hst.size,fun k hk=>hst.heap k hk (fun _ h=>h)⟩
  |panicked=>exact he.elim
  |outgrown=>exact he.elim
theorem trodAll_below{H:Type}{enc:ab×Value→H}{P:Program}(hl:laidOutB P=true){W W':World}(hb:RowKit.Below W.heap.size W W'): ∀ {ts:List ab} {vs:List Value} {ds:List (DataW H)} {ps:List MemPlace},
  ts.all (fun t=>P.readableRec t&&decide (t<P.types.size))=true→DataW.TrodAll enc P W 0 (fun _=>true) true ts vs ds ps→DataW.TrodAll enc P W' 0 (fun b=>decide (b<W.heap.size)) true ts vs ds ps:=by
 intro ts
 induction ts with
 |nil=>
  intro vs ds ps _ h
  cases vs<;>cases ds<;>simp [DataW.TrodAll]at h ⊢
  exact h
 |cons t ts ih=>
  intro vs ds ps hr h
  cases vs with
  |nil=>cases ds<;>simp [DataW.TrodAll]at h
  |cons v vs=>
   cases ds with
   |nil=>simp [DataW.TrodAll]at h
   |cons d ds=>
    simp only [DataW.TrodAll]at h ⊢;obtain⟨p,q,h1,h2,h3⟩:=h;simp only [MS,ED,decide_eq_true_eq]at hr;have lt0: ∀x∈p,x.block<W.heap.size:=by obtain⟨m,hm⟩:=h1;exact DataW.trod_lt m _ _ _ hm
    exact⟨p,q,RowKit.Below.trod hl hr.1.1 hr.1.2 h1 hb lt0,ih (by simpa using hr.2) h2,h3⟩
end Dv
namespace Dv
open Go
theorem nr{α:Type}{a b:α}(h:a=b):a=b:=h
structure SOp where
 dst:Option Tmp
 op:Op
 type:ab
 guard:Option (Option Tmp×Bool)
structure PmL where
 n:List Nat
 r:List Nat
 w:List Nat
def PmL.pm(l:PmL):Pm:=⟨fun r=>l.n.contains r|| !l.r.contains r,fun r=>l.w.contains r⟩
inductive SC where
 |skip
 |ops (l:List SOp)
 |draws (l:List (PmL×SOp))
 |seq (a b:SC)
 |any (q:AnyI)
 |cond (c:ac) (a b:SC)
 |block (id:Nat) (c:SC)
 |loop (c:SC)
 |exit (id:Nat)
 |ret
 |bad
abbrev tK(u:Nat):ac:= .tmp u
abbrev iK(n:Int):ac:= .const (.int .i64 n)
abbrev oX(d:Nat)(p:Op)(y:ab):SOp:=⟨some d,p,y,none⟩
abbrev oM(d u:Nat)(y:ab):SOp:=⟨some d,.move (.tmp u),y,none⟩
abbrev oA(d u:Nat)(y:ab):SOp:=⟨some d,.assign (.tmp u),y,none⟩
abbrev oL(d:Nat)(t:ab)(u:Nat)(y:ab):SOp:=⟨some d,.load t (.tmp u),y,none⟩
abbrev oI(d:Nat)(t:ab)(u v:Nat):SOp:=⟨some d,.indexAddr t (.tmp u) (.tmp v),0,none⟩
abbrev oN(d u:Nat)(t:ab):SOp:=⟨some d,.call ⟨.builtin .len, #[.tmp u], #[t]⟩,3,none⟩
abbrev oC(d f:Nat)(a:List ac)(t:List ab)(y:ab):SOp:=⟨some d,.call ⟨.value (.func f),a.toArray,t.toArray⟩,y,none⟩
abbrev oS(t:ab)(a u:Nat):SOp:=⟨none,.store t (.tmp a) (.tmp u),0,none⟩
abbrev oF(d:Nat)(t:ab)(u i:Nat):SOp:=⟨some d,.fieldAddr t (.tmp u) i,0,none⟩
abbrev oE(d u i:Nat)(y:ab):SOp:=⟨some d,.extract (.tmp u) i,y,none⟩
abbrev oB(d:Nat)(o:BinOp)(t:ab)(a b:ac)(r y:ab):SOp:=⟨some d,.binOp o t a b r,y,none⟩
def MC(ops:Array Oper)(o:Oper):SOp:=⟨o.dst,o.op,o.type,match o.guard with|none=>none|some (j,b)=>some ((ops[j]?).bind (·.dst),b)⟩
def Bw(lends:am→Bool):Code→SC
 | .skip=> .skip
 | .region _ ops draw=>
  if draw then
   (if KX lends ops.toList then .draws (ops.toList.map fun o=>(⟨EL ops.toList o,ops.toList.flatMap (DV lends ops.toList),DV lends ops.toList o⟩,MC ops (Pf lends ops.toList o)))else .bad)
  else .ops (ops.toList.map fun o=>MC ops (xf lends ops.toList o))
 | .seq a b=>match Uu a b with|some q=> .any q|none=> .seq (Bw lends a) (Bw lends b)
 | .cond c a b=> .cond c (Bw lends a) (Bw lends b)
 | .block id c=> .block id (Bw lends c)
 | .loop c=> .loop (Bw lends c)
 | .exit id=> .exit id
 | .ret=> .ret
 |_=> .bad
def Ib(E:Env)(pm:Pm)(s:St)(dst:Option Tmp)(op:Op)(type:ab):Option St:=fU E pm s ⟨dst,op,type, "", #[],none⟩
def Lr(E:Env)(pm:Pm)(s:St)(o:SOp):Option St:=
 match o.guard with
 |none=>Ib E pm s o.dst o.op o.type
 |some (none,_)=>some (s.putO o.dst (.konst undef))
 |some (some t,b)=>
  match s.v t with
  | .bool b'=>if b'==b then Ib E pm s o.dst o.op o.type else some (s.putO o.dst (.konst undef))
  | .konst (.tuple _)=>some (s.putO o.dst (.konst undef))
  |_=>none
def bf(E:Env):List SOp→St→Option St
 | [],s=>some s
 |o::l,s=>(Lr E Pm.all s o).bind fun s'=>bf E l s'
def Ic(pm:Pm)(s:St)(op:Op):Bool:=
 match op with
 | .move (.tmp u)=> !(s.v u).hasObj||(s.v u).isObj||pm.wr u
 |_=>true
def Vj(E:Env):List (PmL×SOp)→St→Option St
 | [],s=>some s
 |(p,o)::l,s=>if Ic p.pm s o.op then(Lr E p.pm s o).bind fun s'=>Vj E l s' else none
noncomputable def D7(E:Env):SC→St→Option (Ex×St)
 | .skip,s=>some (.normal,s)
 | .ops l,s=>(bf E l s).map fun s'=>(.normal,s')
 | .draws l,s=>(Vj E l s).map fun s'=>(.normal,s')
 | .any q,s=>LJ E.T s q
 | .seq a b,s=>
  match D7 E a s with
  |some (.normal,s')=>D7 E b s'
  |r=>r
 | .cond c a b,s=>
  match ev E.T s 0 c with
  |some (.bool t)=>if t then D7 E a s else D7 E b s
  |_=>none
 | .block id c,s=>
  match D7 E c s with
  |some (.exit j,s')=>if j=id then some (.normal,s')else some (.exit j,s')
  |r=>r
 | .loop c,s=>Pg (D7 E c) s
 | .exit id,s=>some (.exit id,s)
 | .ret,s=>some (.ret,s)
 | .bad,_=>none
theorem Vk(E:Env)(ops:Array Oper)(pm:Pm)(s:St)(o:Oper):Lr E pm s (MC ops o)=Gl E ops pm s o:=by
 obtain⟨dst,op,type,pos,after,guard⟩:=o;unfold Lr Gl JL MC
 cases guard with
 |none=>rfl
 |some g=>
  obtain⟨j,b⟩:=g;simp only
  cases (ops[j]?).bind (·.dst)with
  |none=>rfl
  |some t=>
   simp only
   cases hv:s.v t with
   |bool b'=>simp only;cases hb:(b'==b)<;>simp<;>rfl
   |konst v=>cases v<;>rfl
   |_=>rfl
theorem gm(E:Env)(ops:Array Oper): ∀(l:List Oper) (s:St),bf E (l.map fun o=>MC ops (xf E.lends ops.toList o)) s=Rb E ops s l:=by
 intro l
 induction l with
 |nil=>intro s;rfl
 |cons o l ih=>
  intro s;simp only [Ld,bf,Rb,Vk]
  cases Gl E ops Pm.all s (xf E.lends ops.toList o)with
  |none=>rfl
  |some s'=>simp only [EM];exact ih s'
theorem bg(E:Env)(ops:Array Oper)(l0:List Oper): ∀(l:List Oper) (s:St),
  Vj E (l.map fun o=>(⟨EL l0 o,l0.flatMap (DV E.lends l0),DV E.lends l0 o⟩,MC ops (Pf E.lends ops.toList o))) s=Lj E ops l0 s l:=by
 intro l
 induction l with
 |nil=>intro s;rfl
 |cons o l ih=>
  intro s;simp only [Ld,Vj,Lj,Vk];have h1:(PmL.mk (EL l0 o) (l0.flatMap (DV E.lends l0)) (DV E.lends l0 o)).pm=GD E.lends l0 o:=nr rfl;have h2:Ic (GD E.lends l0 o) s (MC ops (Pf E.lends ops.toList o)).op=Wo (GD E.lends l0 o) s o:=nr rfl;rw [h1,h2];split
  ·cases Gl E ops (GD E.lends l0 o) s (Pf E.lends ops.toList o)with
   |none=>rfl
   |some s'=>simp only [EM];exact ih s'
  ·rfl
theorem bi(E:Env): ∀(c:Code),D7 E (Bw E.lends c)=DD E c:=by
 intro c
 induction c with
 |skip=>rfl
 |region id ops draw=>
  funext s
  simp only [Bw,DD]
  cases draw with
  |true=>
   simp only [if_true];split
   ·simp only [D7];rw [bg]
   ·rfl
  |false=>simp only [H5,if_false,D7];rw [gm]
 |seq a b iha ihb=>
  funext s
  simp only [Bw,DD]
  cases Uu a b with
  |some q=>rfl
  |none=>simp only [D7,iha,ihb];rfl
 |cond x a b iha ihb=>funext s;simp only [Bw,D7,DD,iha,ihb];rfl
 |block id c ih=>funext s;simp only [Bw,D7,DD,ih];rfl
 |loop c ih=>funext s;simp only [Bw,D7,DD,ih]
 |exit id=>rfl
 |ret=>rfl
 |rangeFunc=>rfl
 |scope=>rfl
 |label=>rfl
 |goto=>rfl
 |refuse=>rfl
def Cb(E:Env)(c:SC)(Q:Ex→St→Prop)(s:St):Prop:= ∃ex s',D7 E c s=some (ex,s')∧Q ex s'
section
variable {E:Env} {Q:Ex→St→Prop} {s:St}
def Vl(E:Env)(b:SC)(Q:Ex→St→Prop):Ex→St→Prop
 | .normal,s=>Cb E b Q s
 |ex,s=>Q ex s
def inBlock(id:Nat)(Q:Ex→St→Prop):Ex→St→Prop
 | .exit j,s=>if j=id then Q .normal s else Q (.exit j) s
 |ex,s=>Q ex s
theorem tF{a b:SC}(h:Cb E a (Vl E b Q) s):Cb E (.seq a b) Q s:=by
 obtain⟨ex,s1,h1,h2⟩:=h
 cases ex with
 |normal=>
  obtain⟨ex',s2,h3,h4⟩:=h2
  exact⟨ex',s2,by simp [D7,h1,h3],h4⟩
 |exit id=>exact⟨_,s1,by simp [D7,h1],h2⟩
 |ret=>exact⟨_,s1,by simp [D7,h1],h2⟩
theorem bn{id:Nat}{c:SC}(h:Cb E c (inBlock id Q) s):Cb E (.block id c) Q s:=by
 obtain⟨ex,s1,h1,h2⟩:=h
 cases ex with
 |normal=>exact⟨_,s1,by simp [D7,h1],h2⟩
 |exit j=>
  simp only [inBlock]at h2;by_cases hj:j=id
  ·subst hj;rw [if_pos rfl]at h2;exact⟨.normal,s1,by simp [D7,h1],h2⟩
  ·rw [if_neg hj]at h2;exact⟨_,s1,by simp [D7,h1,hj],h2⟩
 |ret=>exact⟨_,s1,by simp [D7,h1],h2⟩
theorem CQ{c:SC}{Q':Ex→St→Prop}(h:Cb E c Q s)(hq: ∀ex s,Q ex s→Q' ex s):Cb E c Q' s:=by
 obtain⟨ex,s1,h1,h2⟩:=h;exact⟨ex,s1,h1,hq _ _ h2⟩
end
def GX(T:Tys)(n:Nat)(rs:List ResultVar)(r:D×List D):Ex→St→Prop
 | .normal,s=>TU T n rs s=some r
 | .ret,s=>TU T n rs s=some r
 | .exit _,_=>False
theorem Sys.call_wp{Y:Sys}{f:am}{fn:Func}{c:Code}{k:SC}{a l:List D}{r:D×List D}(hb:Y.base f a l=none)(hf:Y.P.funcs[f]? =some fn)(hok:CV fn a.length=true)
  (hbody:fn.body=some c)(hk:Bw Y.lends c=k)(h:Cb Y.env k (GX Y.T l.length fn.results.toList r) (entry a l)):Y.call f a l=some r:=by
 refine Sys.call_run hb hf hok ?_;obtain⟨ex,s1,h1,h2⟩:=h;unfold Uv;rw [←hk]at h1;have h3:D7 Y.env (Bw Y.env.lends c)=DD Y.env c:=bi Y.env c;have h4:DD Y.env c (entry a l)=some (ex,s1):=by rw [←h3];exact h1
 rw [hbody];simp only [h4]
 cases ex with
 |normal=>exact h2
 |ret=>exact h2
 |exit id=>exact h2.elim
section
variable (E:Env) (pm:Pm) (s:St) (dst:Option Tmp) (ty:ab)
theorem XW(op:Op):Lr E pm s ⟨dst,op,ty,none⟩=Ib E pm s dst op ty:=nr rfl
def grd(E:Env)(pm:Pm)(s:St)(dst:Option Tmp)(op:Op)(ty:ab)(b:Bool)(d:D):Option St:=
 match d with
 | .bool b'=>if b'==b then Ib E pm s dst op ty else some (s.putO dst (.konst undef))
 | .konst (.tuple _)=>some (s.putO dst (.konst undef))
 |_=>none
theorem Vm(op:Op)(t:Tmp)(b:Bool):Lr E pm s ⟨dst,op,ty,some (some t,b)⟩=grd E pm s dst op ty b (s.v t):=nr rfl
theorem A57(op:Op)(b':Bool):grd E pm s dst op ty true (.bool b')=if b'=true then Ib E pm s dst op ty else some (s.putO dst (.konst undef)):=by cases b'<;>rfl
theorem A58(op:Op)(b':Bool):grd E pm s dst op ty false (.bool b')=if b'=true then some (s.putO dst (.konst undef))else Ib E pm s dst op ty:=by cases b'<;>rfl
theorem A59(op:Op)(b:Bool):grd E pm s dst op ty b (.konst undef)=some (s.putO dst (.konst undef)):=nr rfl
def pk(s:St)(dst:Option Tmp)(c a b:Option D):Option St:=
 match c,a,b with
 |some (.bool t),some x,some y=>if(if t then x else y).hasObj then none else some (s.putO dst (if t then x else y))
 |_,_,_=>none
theorem bq(c a b:ac):Ib E pm s dst (.pick c a b) ty=pk s dst (ev E.T s ty c) (ev E.T s ty a) (ev E.T s ty b):=nr rfl
theorem pkT(x y:D)(h:x.hasObj=false):pk s dst (some (.bool true)) (some x) (some y)=some (s.putO dst x):=by simp [pk,h]
theorem pkF(x y:D)(h:y.hasObj=false):pk s dst (some (.bool false)) (some x) (some y)=some (s.putO dst y):=by simp [pk,h]
theorem pkB(t p q:Bool):pk s dst (some (.bool t)) (some (.bool p)) (some (.bool q))=some (s.putO dst (.bool (if t then p else q))):=by cases t<;>rfl
theorem hoB(b:Bool):(D.bool b).hasObj=false:=by simp [D.hasObj]
theorem hoI(k:IntKind)(n:Int):(D.int k n).hasObj=false:=by simp [D.hasObj]
theorem hoS(b:ByteArray):(D.str b).hasObj=false:=by simp [D.hasObj]
theorem Zc(t:ab):Ib E pm s dst (.alloc t) ty=if E.T.known t then some (s.putO dst (.box (E.T.zeros t)))else none:=nr rfl
theorem gp(t:ab)(x:ac):Ib E pm s dst (.box t x) ty=if ty=900003 then(KU E.T pm s dst t x).bind fun s1=>Dt pm s1 dst else KU E.T pm s dst t x:=nr rfl
theorem bu(t:ab)(x:ac):KU E.T pm s dst t x=match PZ (ev E.T s t x)with
  |some ds=>if E.T.isStruct t then some (s.putO dst (.box ds))else none
  |none=>
   match take E.T pm s t x with
   |some (d,s1)=>if E.T.isStruct t==d.isAgg then some (s1.putO dst (.box d.asCells))else none
   |none=>none:=nr rfl
theorem Zd(t:ab)(parts:Array (Nat×ac)):Ib E pm s dst (.build t parts) ty=match E.T.nest t with
  |some fl=>if E.T.isStruct t&&E.T.known t then(Ir E.T pm fl s (E.T.zeros t) parts.toList).map fun r=>r.2.putO dst (.agg r.1)else none
  |none=>match E.T.ty t with
   | .struct fs=>if E.T.known t then(Ec E.T pm (fun i=>fs.getD i 0) 1 s (E.T.zeros t) parts.toList).map fun r=>r.2.putO dst (.agg r.1)else none
   |_=>none:=nr rfl
theorem QS(t:ab)(len:Nat)(parts:Array (Nat×ac)):Ib E pm s dst (.buildSlice t len parts) ty=if ty=900004 then(Pd E.T pm s dst t len parts).bind fun s1=>KT pm s1 dst else Pd E.T pm s dst t len parts:=nr rfl
def stF(pm:Pm)(a:ac):Option St→Option St
 |some s1=>Dt pm s1 (Pe a)
 |none=>none
theorem bv(a:ac)(o:Option St):stF pm a o=o.bind fun s1=>Dt pm s1 (Pe a):=by cases o<;>rfl
theorem Ze(t:ab)(a x:ac):Ib E pm s none (.store t a x) ty=if ty=900007 then Ep E.T pm t a (IQ E.T pm s t x)else if ty=900010 then PW E.T pm s t a x else if ty=900011 then stF pm a (Gh E.T pm s t a x)else Gh E.T pm s t a x:=by
 rw [bv];rfl
def I4(s:St)(dst:Option Tmp):Option D→Option St
 |some r=>some (s.putO dst r)
 |none=>none
theorem xn(r:D):I4 s dst (some r)=some (s.putO dst r):=nr rfl
def Rm(dst:Option Tmp):Option (D×St)→Option St
 |some r=>some (r.2.putO dst r.1)
 |none=>none
theorem xq(r:D)(s:St):Rm dst (some (r,s))=some (s.putO dst r):=nr rfl
def Rn(T:Tys)(s:St)(dst:Option Tmp)(op:BinOp)(t:ab):Option D→Option D→Option St
 |some a,some b=>if Jk T t a then I4 s dst (FH op a b)else none
 |_,_=>none
theorem xu(T:Tys)(op:BinOp)(t:ab)(a b:D):Rn T s dst op t (some a) (some b)=if Jk T t a then I4 s dst (FH op a b)else none:=nr rfl
def fzB(pm:Pm)(dst:Option Tmp)(u:Tmp):Option St→Option St
 |some s1=>Ur pm s1 dst u
 |none=>none
theorem tH(op:BinOp)(t:ab)(x y:ac)(t':ab):Ib E pm s dst (.binOp op t x y t') ty=if ty<2000000 then FP E.T pm s dst op t x y else fzB pm dst (ty-2000000) (FP E.T pm s dst op t x y):=by
 show(if ty<2000000 then FP E.T pm s dst op t x y else(FP E.T pm s dst op t x y).bind fun s1=>Ur pm s1 dst (ty-2000000))=_
 cases FP E.T pm s dst op t x y<;>rfl
theorem PD(op:BinOp)(t:ab)(x y:ac)(hq:Uq E.T op t y=none):FP E.T pm s dst op t x y=Rn E.T s dst op t (ev E.T s t x) (ev E.T s t y):=by
 unfold FP;rw [hq];simp only
 cases ev E.T s t x<;>cases ev E.T s t y<;>simp only [Rn]
 rename_i a b
 cases FH op a b<;>rfl
theorem A5A(op:BinOp)(t:ab)(x:ac)(u:Tmp)(t':ab):Ib E pm s dst (.binOp op t x (.tmp u) t') ty=if ty<2000000 then Rn E.T s dst op t (ev E.T s t x) (some (s.v u))else fzB pm dst (ty-2000000) (Rn E.T s dst op t (ev E.T s t x) (some (s.v u))):=by
 rw [tH,PD E pm s dst op t x (.tmp u) rfl];rfl
theorem A5B(op:BinOp)(t:ab)(x:ac)(k:IntKind)(n:Int)(t':ab):Ib E pm s dst (.binOp op t x (.const (.int k n)) t') ty=if ty<2000000 then Rn E.T s dst op t (ev E.T s t x) (some (.int k n))else fzB pm dst (ty-2000000) (Rn E.T s dst op t (ev E.T s t x) (some (.int k n))):=by
 rw [tH,PD E pm s dst op t x _ rfl];rfl
def bz(s:St)(dst:Option Tmp)(q:Bool):Option Bool→Option St
 |some b=>some (s.putO dst (.bool (b==q)))
 |none=>none
theorem xw(b:Bool):bz s dst true (some b)=some (s.putO dst (.bool b)):=by cases b<;>rfl
def tJ(op:BinOp)(s:St)(dst:Option Tmp)(r:Option Bool)(o:Option St):Ty→Option St
 | .slice _=>match op with| .eql=>bz s dst true r| .neq=>bz s dst false r|_=>o
 |_=>o
theorem A5C(r:Option Bool)(o:Option St)(e:ab):tJ .eql s dst r o (.slice e)=bz s dst true r:=nr rfl
theorem gq(op:BinOp)(t:ab)(u:Tmp):FP E.T pm s dst op t (.tmp u) (.const (.slice none 0 0))=tJ op s dst (MU pm s (s.v u)) (Rn E.T s dst op t (some (s.v u)) (ev E.T s t (.const (.slice none 0 0)))) (E.T.ty t):=by
 have key: ∀q,Uq E.T op t (.const (.slice none 0 0))=some q→FP E.T pm s dst op t (.tmp u) (.const (.slice none 0 0))=bz s dst q (MU pm s (s.v u)):=by
  intro q hq;unfold FP;rw [hq];simp only [ev,EM]
  cases MU pm s (s.v u)<;>rfl
 cases ht:E.T.ty t with
 |slice e=>
  cases op<;>first
   |(simp only [tJ];exact key true (by simp [Uq,ht]))
   |(simp only [tJ];exact key false (by simp [Uq,ht]))
   |(simp only [tJ];exact PD E pm s dst _ t _ _ (by simp [Uq,ht]))
 |_=>exact PD E pm s dst _ t _ _ (by simp [Uq,ht])
theorem tL(op:BinOp)(t:ab)(u:Tmp)(t':ab):Ib E pm s dst (.binOp op t (.tmp u) (.const (.slice none 0 0)) t') ty=if ty<2000000 then tJ op s dst (MU pm s (s.v u)) (Rn E.T s dst op t (some (s.v u)) (ev E.T s t (.const (.slice none 0 0)))) (E.T.ty t)
  else fzB pm dst (ty-2000000) (tJ op s dst (MU pm s (s.v u)) (Rn E.T s dst op t (some (s.v u)) (ev E.T s t (.const (.slice none 0 0)))) (E.T.ty t)):=by
 rw [tH,gq]
theorem A5D(e:ab)(x:D)(xs:List D):MU pm s (.sl e (x::xs))=some false:=nr rfl
theorem ndK(A:Option Addr)(n c:Nat):MU pm s (.konst (.slice A n c))=some A.isNone:=nr rfl
theorem Vn(src d:ab)(x:ac):Ib E pm s dst (.convert src d x) ty=if E.T.known src then
   match ev E.T s src x,E.T.ty d with
   |some (.int _ n),.int k=>some (s.putO dst (.int k (k.wrap n)))
   |some (.str b),.string=>some (s.putO dst (.str b))
   |_,_=>none
  else none:=nr rfl
theorem U1(f:am)(first captured:Array ac):Ib E pm s dst (.makeFunc (.func f) first captured) ty=if ty<3000000 then(if first.isEmpty then(JF pm s captured.toList).map fun r=>r.2.putO dst (.clo f r.1)else none)
  else(if first.isEmpty then(TR pm s (ty-3000000) captured.toList).map fun r=>r.2.putO dst (.ocl false f r.1)else none):=nr rfl
theorem Ro(t:ab)(l c:ac):Ib E pm s dst (.makeSlice t l c) ty=if ty=900012 then(Ra E.T s dst t l c).bind fun s1=>KT pm s1 dst else Ra E.T s dst t l c:=nr rfl
theorem U2(x:ac):Ib E pm s dst (.nilCheck x) ty=(ev E.T s ty x).bind fun d=>
   match d with
   | .box _=>some (C9 s dst x d)
   | .vw L n m=>match s.look pm L n m with|some (.box _)=>some (C9 s dst x d)|_=>none
   | .pe L _ n m=>match s.look pm L n m with|some _=>some (C9 s dst x d)|none=>none
   | .cptr _=>some (C9 s dst x d)
   | .clo _ _=>some (C9 s dst x d)
   | .ocl false _ _=>some (C9 s dst x d)
   |_=>none:=nr rfl
theorem XX(x y:ac)(t t':ab):Ib E pm s dst (.call ⟨.builtin .append, #[x,y], #[t,t']⟩) ty=if t=t' then(if sJ (ev E.T s t y)then IU E.T pm s t x else Er E.T pm s t x y).map fun r=>r.2.putO dst r.1 else none:=nr rfl
theorem cB(f:am)(args:Array ac)(ts:Array ab):Ib E pm s dst (.call ⟨.value (.func f),args,ts⟩) ty=if args.size=ts.size then(if ty=900014 then(Ed E pm s dst f (args.toList.zip (KW ty ts.toList)) []).bind fun s1=>Dt pm s1 dst else Ed E pm s dst f (args.toList.zip (KW ty ts.toList)) [])else none:=nr rfl
theorem Zf(u:Tmp)(args:Array ac)(ts:Array ab):Ib E pm s dst (.call ⟨.value (.tmp u),args,ts⟩) ty=match s.v u with
   | .clo f caps=>if args.size=ts.size then Ed E pm s dst f (args.toList.zip ts.toList) caps else none
   | .ocl false f caps=>if args.size=ts.size then K8 E pm s dst f (args.toList.zip ts.toList) caps else none
   |_=>none:=nr rfl
end
theorem tN(T:Tys)(s:St)(t:ab)(u:Tmp):ev T s t (.tmp u)=some (s.v u):=nr rfl
theorem tO(T:Tys)(s:St)(t:ab)(k:IntKind)(n:Int):ev T s t (.const (.int k n))=some (.int k n):=nr rfl
theorem gu(T:Tys)(s:St)(t:ab)(b:Bool):ev T s t (.const (.bool b))=some (.bool b):=nr rfl
theorem tQ(T:Tys)(s:St)(t:ab):ev T s t (.const (.slice none 0 0))=match T.ty t with| .slice e=>some (.own e [])| .other=>some (.konst (.slice none 0 0))|_=>none:=nr rfl
theorem xx(s:St)(t u:Nat)(d:D):(s.put t d).v u=if u=t then d else s.v u:=by rw [jh];rfl
theorem xy(s:St)(t u:Nat)(d:D):(s.put t d).k u=if u=t then(if d.hasObj then s.k t+1 else s.k t)else s.k u:=by
 unfold St.put;by_cases h:u=t
 ·subst h;cases hd:d.hasObj<;>simp [Il]
 ·cases hd:d.hasObj<;>simp [Il,h]
theorem xz(s:St)(t u:Nat)(d:D):(s.put t d).m u=s.m u:=by unfold St.put;split<;>rfl
theorem y5(s:St)(t u:Nat):(s.clr t).v u=if u=t then .undef else s.v u:=nr rfl
theorem y7(s:St)(t u:Nat):(s.clr t).k u=s.k u:=nr rfl
theorem y8(s:St)(t u:Nat):(s.clr t).m u=s.m u:=nr rfl
theorem tT(s:St)(t u:Nat):(s.bump t).v u=s.v u:=nr rfl
theorem tV(s:St)(t u:Nat):(s.bump t).k u=s.k u:=nr rfl
theorem tX(s:St)(t u:Nat):(s.bump t).m u=if u=t then s.m t+1 else s.m u:=nr rfl
theorem y9(s:St)(t u:Nat)(p:AJ)(d:D):(s.set (t::p) d).v u=if u=t then FF (s.v t) p d else s.v u:=nr rfl
theorem yA(s:St)(t u:Nat)(p:AJ)(d:D):(s.set (t::p) d).k u=s.k u:=nr rfl
theorem yB(s:St)(t u:Nat)(p:AJ)(d:D):(s.set (t::p) d).m u=s.m u:=nr rfl
theorem Zg(s:St)(t:Tmp)(d:D):s.putO (some t) d=s.put t d:=nr rfl
theorem Zh(s:St)(d:D):s.putO none d=s:=nr rfl
theorem yC(Y:Sys):Y.env.T=Y.T:=nr rfl
theorem Zi(Y:Sys):Y.env.lends=Y.lends:=nr rfl
theorem cK(Y:Sys):Y.env.call=Y.call:=nr rfl
theorem gy(a l:List D)(t:Nat):(entry a l).v t=if t<G then a.getD t .undef else l.getD (t-G) .undef:=nr rfl
theorem gz(a l:List D)(t:Nat):(entry a l).k t=0:=nr rfl
theorem iA(a l:List D)(t:Nat):(entry a l).m t=0:=nr rfl
theorem JX{r:Ex×St}{Q:Ex→St→Prop}:(∃ex s',some r=some (ex,s')∧Q ex s')=Q r.1 r.2:=
 propext ⟨fun⟨ex,s',h,hq⟩=>by injection h with h;subst h;exact hq,fun h=>⟨r.1,r.2,rfl,h⟩⟩
section
variable (E:Env) (Q:Ex→St→Prop) (s:St)
theorem yD:Cb E .skip Q s=Q .normal s:=JX
theorem yE(id:Nat):Cb E (.exit id) Q s=Q (.exit id) s:=JX
theorem A5E:Cb E .ret Q s=Q .ret s:=JX
def tY(Q:Ex→St→Prop):Option (Ex×St)→Prop
 |some r=>Q r.1 r.2
 |none=>False
theorem yF(ex:Ex)(s':St):tY Q (some (ex,s'))=Q ex s':=nr rfl
def iB(s:St)(ds:List Tmp)(r:Tmp)(bb:Bool):Bool→Option (Ex×St)
 |true=>some (.ret,(Hz s ds).put r (.bool bb))
 |false=>some (.normal,Hz s ds)
theorem yG(ds:List Tmp)(r:Tmp)(bb:Bool):iB s ds r bb true=some (.ret,(Hz s ds).put r (.bool bb)):=nr rfl
theorem yH(ds:List Tmp)(r:Tmp)(bb:Bool):iB s ds r bb false=some (.normal,Hz s ds):=nr rfl
def Zj(T:Tys)(s:St)(ds:List Tmp)(r:Tmp)(cst:Int)(bb:Bool):Ty→D→Ty→Option (Ex×St)
 | .map _ _,.mp _ e es,.int .i64=>if T.nums e=some (false,1)then iB s ds r bb (es.any fun p=>p.2==[cst])else none
 |_,_,_=>none
theorem yI(T:Tys)(ds:List Tmp)(r:Tmp)(cst:Int)(bb:Bool)(a b k e:ab)(es:List (AX×AX))(h:T.nums e=some (false,1)):Zj T s ds r cst bb (.map a b) (.mp k e es) (.int .i64)=iB s ds r bb (es.any fun p=>p.2==[cst]):=by
 unfold Zj;simp only [h,if_true]
theorem A5F:Hz s []=s:=nr rfl
theorem A5G(t:Tmp)(ds:List Tmp):Hz s (t::ds)=Hz (s.put t .undef) ds:=nr rfl
theorem A5H(m d0 d1 n0 n1 e0 e1 v x c r tm t3:Nat)(cst:Int)(bb:Bool):Cb E (.any ⟨m,d0,d1,n0,n1,e0,e1,v,x,c,r,tm,t3,cst,bb⟩) Q s=tY Q (Zj E.T s [d0,d1,n0,n1,e0,e1,v,x,c] r cst bb (E.T.ty tm) (s.v m) (E.T.ty t3)):=by
 have e:LJ E.T s ⟨m,d0,d1,n0,n1,e0,e1,v,x,c,r,tm,t3,cst,bb⟩=Zj E.T s [d0,d1,n0,n1,e0,e1,v,x,c] r cst bb (E.T.ty tm) (s.v m) (E.T.ty t3):=by
  unfold LJ Zj
  cases E.T.ty tm<;>try rfl
  cases s.v m<;>try rfl
  cases E.T.ty t3<;>try rfl
  rename_i kk
  cases kk<;>try rfl
  simp only;split
  ·rename_i es _
   cases (es.any fun p=>p.2==[cst])<;>rfl
  ·rfl
 unfold Cb;simp only [D7,e]
 cases Zj E.T s [d0,d1,n0,n1,e0,e1,v,x,c] r cst bb (E.T.ty tm) (s.v m) (E.T.ty t3)with
 |none=>simp [tY]
 |some q=>
  obtain⟨ex,s'⟩:=q;exact propext ⟨fun⟨e1,s1,h1,h2⟩=>by injection h1 with h1;injection h1 with h1 h3;subst h1 h3;exact h2,fun h=>⟨ex,s',rfl,h⟩⟩
theorem A5I:Cb E (.ops []) Q s=Q .normal s:=JX
def nxt(E:Env)(l:List SOp)(Q:Ex→St→Prop):Option St→Prop
 |some s=>Cb E (.ops l) Q s
 |none=>False
theorem A5J(l:List SOp):nxt E l Q (some s)=Cb E (.ops l) Q s:=nr rfl
theorem yJ(o:SOp)(l:List SOp):Cb E (.ops (o::l)) Q s=nxt E l Q (Lr E Pm.all s o):=by
 unfold Cb;simp only [D7,bf]
 cases Lr E Pm.all s o with
 |none=>simp [nxt]
 |some s'=>simp [nxt,Cb,D7]
theorem yK:Cb E (.draws []) Q s=Q .normal s:=JX
def cO(E:Env)(l:List (PmL×SOp))(Q:Ex→St→Prop):Bool→Option St→Prop
 |true,some s=>Cb E (.draws l) Q s
 |_,_=>False
theorem yM(l:List (PmL×SOp)):cO E l Q true (some s)=Cb E (.draws l) Q s:=nr rfl
theorem tZ(p:PmL)(o:SOp)(l:List (PmL×SOp)):Cb E (.draws ((p,o)::l)) Q s=cO E l Q (Ic p.pm s o.op) (Lr E p.pm s o):=by
 unfold Cb;simp only [D7,Vj]
 cases Ic p.pm s o.op with
 |true=>
  cases Lr E p.pm s o with
  |none=>simp [cO]
  |some s'=>simp [cO,Cb,D7]
 |false=>simp [cO]
theorem A5K(a b:SC):Cb E (.seq a b) Q s=Cb E a (Vl E b Q) s:=by
 refine propext ⟨fun⟨ex,s1,h1,h2⟩=> ?_,tF⟩;simp only [D7]at h1
 cases ha:D7 E a s with
 |none=>simp [ha]at h1
 |some q=>
  obtain⟨ex',s2⟩:=q
  cases ex' with
  |normal=>simp only [ha]at h1;exact⟨_,s2,ha,ex,s1,h1,h2⟩
  |exit id=>simp only [ha,al,Prod.mk.injEq]at h1;obtain⟨rfl,rfl⟩:=h1;exact⟨_,s2,ha,h2⟩
  |ret=>simp only [ha,al,Prod.mk.injEq]at h1;obtain⟨rfl,rfl⟩:=h1;exact⟨_,s2,ha,h2⟩
def yN(E:Env)(a b:SC)(Q:Ex→St→Prop)(s:St):Option D→Prop
 |some (.bool t)=>if t=true then Cb E a Q s else Cb E b Q s
 |_=>False
theorem A5L(a b:SC)(t:Bool):yN E a b Q s (some (.bool t))=if t=true then Cb E a Q s else Cb E b Q s:=nr rfl
theorem yO(c:ac)(a b:SC):Cb E (.cond c a b) Q s=yN E a b Q s (ev E.T s 0 c):=by
 unfold Cb;simp only [D7]
 cases ev E.T s 0 c with
 |none=>simp [yN]
 |some d=>cases d with
  |bool t=>cases t<;>simp [yN,Cb]
  |_=>simp [yN]
theorem tq(id:Nat)(c:SC):Cb E (.block id c) Q s=Cb E c (inBlock id Q) s:=by
 refine propext ⟨fun⟨ex,s1,h1,h2⟩=> ?_,bn⟩;simp only [D7]at h1
 cases ha:D7 E c s with
 |none=>simp [ha]at h1
 |some q=>
  obtain⟨ex',s2⟩:=q
  cases ex' with
  |normal=>simp only [ha,al,Prod.mk.injEq]at h1;obtain⟨rfl,rfl⟩:=h1;exact⟨_,s2,ha,h2⟩
  |exit j=>
   simp only [ha]at h1;by_cases hj:j=id
   ·simp only [hj,if_true,al,Prod.mk.injEq]at h1;obtain⟨rfl,rfl⟩:=h1;exact⟨_,s2,ha,by simpa [inBlock,hj] using h2⟩
   ·simp only [hj,if_false,al,Prod.mk.injEq]at h1;obtain⟨rfl,rfl⟩:=h1;exact⟨_,s2,ha,by simpa [inBlock,hj] using h2⟩
  |ret=>simp only [ha,al,Prod.mk.injEq]at h1;obtain⟨rfl,rfl⟩:=h1;exact⟨_,s2,ha,h2⟩
theorem tu(b:SC):Vl E b Q .normal s=Cb E b Q s:=nr rfl
theorem u6(b:SC)(id:Nat):Vl E b Q (.exit id) s=Q (.exit id) s:=nr rfl
theorem u7(b:SC):Vl E b Q .ret s=Q .ret s:=nr rfl
theorem A5M(id:Nat):inBlock id Q .normal s=Q .normal s:=nr rfl
theorem A5N(id j:Nat):inBlock id Q (.exit j) s=if j=id then Q .normal s else Q (.exit j) s:=nr rfl
theorem A5O(id:Nat):inBlock id Q .ret s=Q .ret s:=nr rfl
theorem yP(T:Tys)(n:Nat)(rs:List ResultVar)(r:D×List D):GX T n rs r .ret s=(TU T n rs s=some r):=nr rfl
end
section
variable (s:St) (dst:Option Tmp) (u:Tmp) (k:IntKind) (n:Int) (b:Bool) (x:ByteArray) (e:ab) (xs:List D) (L:AJ) (i j c:Nat) (v:Value) (f:am)
theorem yQ:C9 s dst (.tmp u) (.int k n)=s.putO dst (.int k n):=nr rfl
theorem uA:C9 s dst (.tmp u) (.bool b)=s.putO dst (.bool b):=nr rfl
theorem A5P:C9 s dst (.tmp u) (.sl e xs)=s.putO dst (.sl e xs):=nr rfl
theorem iC:C9 s dst (.tmp u) (.konst v)=s.putO dst (.konst v):=nr rfl
theorem yR:C9 s dst (.tmp u) (.own e xs)=s.putO dst (.vw [u] (s.k u) (s.m u)):=nr rfl
theorem A5Q(k:ab)(es:List (AX×AX)):C9 s dst (.tmp u) (.mp k e es)=s.putO dst (.vw [u] (s.k u) (s.m u)):=nr rfl
theorem A5R:C9 s dst (.tmp u) (.vw L i j)=s.putO dst (.vw L i j):=nr rfl
theorem yS:C9 s dst (.tmp u) (.clo f xs)=s.putO dst (.clo f xs):=nr rfl
theorem yU:C9 s dst (.tmp u) (.tup xs)=if Am xs then(if Am (IX s u 0 xs)then(s.clr u).putO dst (.tup xs)else s.putO dst (.tup (IX s u 0 xs)))else s.putO dst (.tup xs):=nr rfl
variable (pm:Pm)
theorem yV:BQ pm s dst (.tmp u) (.int k n)=some (s.putO dst (.int k n)):=nr rfl
theorem uB:BQ pm s dst (.tmp u) (.bool b)=some (s.putO dst (.bool b)):=nr rfl
theorem A5S:BQ pm s dst (.tmp u) (.sl e xs)=some (s.putO dst (.sl e xs)):=nr rfl
theorem yX:BQ pm s dst (.tmp u) (.own e xs)=some ((s.clr u).putO dst (.own e xs)):=nr rfl
theorem A5T(k:ab)(es:List (AX×AX)):BQ pm s dst (.tmp u) (.mp k e es)=some ((s.clr u).putO dst (.mp k e es)):=nr rfl
theorem yY(r:Nat):BQ pm s dst (.tmp u) (.vw [r] i j)=(KR pm s [r] i j).map fun q=>q.2.putO dst q.1:=nr rfl
theorem yZ:BQ pm s dst (.tmp u) (.clo f xs)=some (s.putO dst (.clo f xs)):=nr rfl
end
section
variable (k:IntKind) (x y:Int) (p q:Bool) (a b:ByteArray)
theorem yc:FH .add (.int k x) (.int k y)=some (.int k (k.wrap (x+y))):=by simp [FH]
theorem yf:FH .sub (.int k x) (.int k y)=some (.int k (k.wrap (x-y))):=by simp [FH]
theorem yg(k':IntKind):FH .shr (.int k x) (.int k' y)=if y<0 then none else some (.int k (x.fdiv (2 ^ (min y.toNat k.bits)))):=by simp [FH]
theorem A5U:FH .eql (.int k x) (.int k y)=some (.bool (decide (x=y))):=by simp [FH];rfl
theorem A5V:FH .neq (.int k x) (.int k y)=some (.bool (!decide (x=y))):=by simp [FH];rfl
theorem A5W:FH .lss (.int k x) (.int k y)=some (.bool (decide (x<y))):=by simp [FH]
theorem A5X:FH .leq (.int k x) (.int k y)=some (.bool (decide (x≤y))):=by simp [FH]
theorem A5Y:FH .gtr (.int k x) (.int k y)=some (.bool (decide (y<x))):=by simp [FH]
theorem A5Z:FH .geq (.int k x) (.int k y)=some (.bool (decide (y≤x))):=by simp [FH]
theorem yh:FH .neq (.bool p) (.bool q)=some (.bool (!(p==q))):=nr rfl
theorem yj:sI .not (.bool p)=some (.bool (!p)):=nr rfl
theorem boI(T:Tys)(t:ab):Jk T t (.int k x)=true:=nr rfl
theorem boB(T:Tys)(t:ab):Jk T t (.bool p)=match T.ty t with| .bool=>true|_=>false:=nr rfl
theorem boA(T:Tys)(t:ab)(k l:IntKind)(x y:Int):Jk T t (.agg [.int k x,.int l y])=YD T k l (T.ty t):=nr rfl
theorem uC(T:Tys)(k l:IntKind)(a b:ab):YD T k l (.struct [a,b])=(Wn k (T.ty a)&&Wn l (T.ty b)):=nr rfl
theorem yl(k:IntKind):Wn k (.int k)=true:=by simp [Wn]
theorem ym(k l:IntKind)(a b c d:Int):FH .neq (.agg [.int k a,.int l b]) (.agg [.int k c,.int l d])=some (.bool (!((a==c)&&(b==d)))):=by simp [FH]
end
def Fz(xs:AX):List D:=xs.map (D.int .i64)
theorem Co(xs:AX):(Fz xs).length=xs.length:=by simp [Fz]
end Dv
namespace Dv
open Go
def zB:Value→Value→Bool
 | .int k n,.int k' n'=>decide (k=k')&&decide (n=n')
 | .bool b,.bool b'=>b==b'
 | .string s,.string s'=>s.size==0&&s'.size==0
 | .slice none 0 0,.slice none 0 0=>true
 | .nilFunc,.nilFunc=>true
 | .pointer none,.pointer none=>true
 |_,_=>false
theorem ji{a b:Value}(h:zB a b=true):a=b:=by
 unfold zB at h
 split at h
 ·simp only [ED,decide_eq_true_eq]at h;rw [h.1,h.2]
 ·simp only [beq_iff_eq]at h;rw [h]
 ·simp only [ED,beq_iff_eq]at h
  rename_i s s'
  have: ∀t:ByteArray,t.size=0→t=ByteArray.empty:=by
   intro t ht;obtain⟨d⟩:=t;have:d= #[]:=Array.size_eq_zero_iff.1 ht
   rw [this];rfl
  rw [this s h.1,this s' h.2]
 ·rfl
 ·rfl
 ·rfl
 ·cases h
def zsB:List Value→List Value→Bool
 | [],[]=>true
 |a::as,b::bs=>zB a b&&zsB as bs
 |_,_=>false
theorem cZ: ∀ {a b:List Value},zsB a b=true→a=b
 | [],[],_=>rfl
 | [],_::_,h=>by cases h
 |_::_,[],h=>by cases h
 |a::as,b::bs,h=>by
  simp only [zsB,ED]at h;rw [ji h.1,cZ h.2]
def Lt(P:Program)(t:ab)(n:Nat)(z:Value):Bool:=
 match P.info? t with
 |some i=>(i.size==n)&&(decide (4<n)||decide (i.bytes≤128))&&(match i.zero,z with|some (.agg a),.agg b=>zsB a.toList b.toList|some v,z=>zB v z|_,_=>false)
 |none=>false
theorem Hl{P:Program}{t:ab}{n:Nat}{z:Value}(h:Lt P t n z=true):JG P t n z:=by
 unfold Lt at h
 split at h
 ·rename_i i hi
  simp only [ED,M3,beq_iff_eq,decide_eq_true_eq]at h
  refine⟨i,hi,h.1.1, ?_,fun h4=>h.1.2.resolve_left (by omega)⟩
  have h2:=h.2
  split at h2
  ·rename_i a b hz
   rw [hz];have:=cZ h2
   rw [←MP (xs:=a),this]
  ·rename_i v z' hz _
   rw [hz,ji h2]
  ·cases h2
 ·cases h
def U3(P:Program)(T:Tys)(t:ab):Bool:=
 match T.ty t with
 | .int k=>(match P.underlying t with|some (.int k')=>decide (k'=k)|_=>false)&&Lt P t 1 (.int k 0)
 | .bool=>(match P.underlying t with|some .bool=>true|_=>false)&&Lt P t 1 (.bool false)
 | .string=>(match P.underlying t with|some .string=>true|_=>false)&&Lt P t 1 (.string ByteArray.empty)
 | .slice e=>(match P.underlying t with|some (.slice e')=>e'==e|_=>false)&&Lt P t 1 (.slice none 0 0)
 | .struct fs=>(match P.underlying t with
   |some (.struct fields)=>
    match T.nest t with
    |none=>(fields.size==fs.length)&&(an fields.size).all (fun j=>match fields[j]?,fs[j]? with|some f,some g=>(f.offset==j)&&(f.type==g)&&T.known g&& !T.isStruct g|_,_=>false)
    |some fl=>decide (4<fs.length)&&(fields.size==fl.length)&&(an fields.size).all (fun j=>match fields[j]?,fl[j]? with|some f,some g=>(f.offset==g.1)&&(f.type==g.2)&&T.known g.2|_,_=>false)
   |_=>false)&&Lt P t fs.length (.agg (fs.map (Dx T)).toArray)
 | .func=>(match P.underlying t with|some (.func ..)=>true|_=>false)&&Lt P t 1 .nilFunc
 | .ptr=>(match P.underlying t with|some (.pointer _)=>true|_=>false)&&Lt P t 1 (.pointer none)
 | .map k e=>match P.underlying t with|some (.map k' e')=>(k'==k)&&(e'==e)|_=>false
 | .arr n e=>(match P.underlying t with|some (.array n' e')=>(n'==n)&&(e'==e)|_=>false)&&decide (4<n)&&(match T.nest t with|some l=>l==fu n e|none=>false)&&(match T.ty e with| .int _=>true|_=>false)&&Lt P t n (.agg (ao n (Dx T e)).toArray)
 | .other=>true
theorem XY{P:Program}{T:Tys}{t:ab}(h:U3 P T t=true):EF P T t:=by
 unfold U3 at h;unfold EF
 cases hty:T.ty t<;>rw [hty]at h<;>simp only [ED]at h ⊢
 case int k=>
  refine⟨?_,Hl h.2⟩
  have h1:=h.1
  split at h1
  ·rename_i k' hu;rw [hu];simp only [decide_eq_true_eq]at h1;rw [h1]
  ·cases h1
 case bool=>
  refine⟨?_,Hl h.2⟩
  have h1:=h.1
  split at h1
  ·assumption
  ·cases h1
 case string=>
  refine⟨?_,Hl h.2⟩
  have h1:=h.1
  split at h1
  ·assumption
  ·cases h1
 case map k e=>
  split at h
  ·rename_i k' e' hu;rw [hu];simp only [ED,beq_iff_eq]at h;rw [h.1,h.2]
  ·cases h
 case arr n e=>
  obtain⟨⟨⟨⟨h1,h2⟩,h3⟩,h4⟩,h5⟩:=h
  refine⟨⟨?_,by simpa using h2, ?_, ?_⟩,Hl h5⟩
  ·split at h1
   ·rename_i n' e' hu;rw [hu];simp only [ED,beq_iff_eq]at h1;rw [h1.1,h1.2]
   ·cases h1
  ·split at h3
   ·rename_i l hl;rw [hl];simp only [beq_iff_eq]at h3;rw [h3]
   ·cases h3
  ·split at h4
   ·rename_i k hk;exact⟨k,hk⟩
   ·cases h4
 case slice e=>
  refine⟨?_,Hl h.2⟩
  have h1:=h.1
  split at h1
  ·rename_i k' hu;rw [hu];simp only [beq_iff_eq]at h1;rw [h1]
  ·cases h1
 case struct fs=>
  refine⟨?_,Hl h.2⟩
  have h1:=h.1
  split at h1
  ·rename_i fields hu
   refine⟨fields,hu, ?_⟩
   cases hn:T.nest t with
   |none=>
    simp only [hn,ED,beq_iff_eq,I6,MR]at h1 ⊢
    refine⟨h1.1,fun j f hf=> ?_⟩
    have hlt:=(RP.1 hf).1;have:=h1.2 j hlt
    rw [hf]at this
    split at this
    ·rename_i f' g hf' hg
     simp only [al]at hf';subst hf';simp only [ED,beq_iff_eq,Ik]at this;obtain⟨⟨⟨q1,q2⟩,q3⟩,q4⟩:=this;subst q2
     exact⟨q1,hg,q3,q4⟩
    ·cases this
   |some fl=>
    simp only [hn,ED,beq_iff_eq,I6,MR,decide_eq_true_eq]at h1 ⊢
    refine⟨h1.1.1,h1.1.2,fun j f hf=> ?_⟩
    have hlt:=(RP.1 hf).1;have:=h1.2 j hlt
    rw [hf]at this
    split at this
    ·rename_i f' g hf' hg
     simp only [al]at hf';subst hf';simp only [ED,beq_iff_eq]at this;obtain⟨⟨q1,q2⟩,q3⟩:=this
     refine⟨?_,by rw [q2];exact q3⟩
     rw [hg,q1,q2]
    ·cases this
  ·cases h1
 case func=>
  refine⟨?_,Hl h.2⟩
  have h1:=h.1
  split at h1
  ·exact⟨_,_,_,by assumption⟩
  ·cases h1
 case ptr=>
  refine⟨?_,Hl h.2⟩
  have h1:=h.1
  split at h1
  ·exact⟨_,by assumption⟩
  ·cases h1
def Zk(fV:List Ty)(jk:List (ab×List (Nat×ab))):Tys:={ty:=fun t=>fV.getD t .other,nest:=fun t=>jk.lookup t}
theorem uD{P:Program}{fV:List Ty}{jk:List (ab×List (Nat×ab))}(h:((an fV.length).all fun t=>U3 P (Zk fV jk) t&&gH P (Zk fV jk) t)=true):BR P (Zk fV jk):=by
 intro t;rcases Nat.lt_or_ge t fV.length with ht|ht
 ·have:=I6.1 h t (MR.2 ht)
  rw [ED]at this
  exact⟨XY this.1,this.2⟩
 ·have:(Zk fV jk).ty t= .other:=by simp [Zk,Je,bj ht]
  refine⟨?_, ?_⟩
  ·unfold EF;rw [this];trivial
  ·unfold gH;rw [this]
theorem Ag{Y:Sys}{f:am}{fn:Func}{k:SC}{a l:List D}{r:D×List D}(hb:Y.base f a l=none)(hf:Y.P.funcs[f]? =some fn)(hok:CV fn a.length=true)
  (hk:fn.body.map (Bw Y.lends)=some k)(h:Cb Y.env k (GX Y.T l.length fn.results.toList r) (entry a l)):Y.call f a l=some r:=by
 obtain⟨c,hc,hk⟩:=CF.1 hk;exact Sys.call_wp hb hf hok hc hk h
end Dv
namespace Dv
open Go
section
variable (E:Env) (pm:Pm) (s:St) (dst:Option Tmp) (ty:ab) (u:Tmp) (t:ab)
theorem Gq(o:Option D):(o.map fun r=>s.putO dst r)=I4 s dst o:=by cases o<;>rfl
theorem JY(o:Option (D×St)):(o.map fun r=>r.2.putO dst r.1)=Rm dst o:=by cases o<;>rfl
theorem yn:Ib E pm s dst (.move (.tmp u)) ty=some (C9 s dst (.tmp u) (s.v u)):=nr rfl
def fZ(pm:Pm):Option Tmp→Option St→Option St
 |some t,some s1=>Dt pm s1 (some t)
 |_,_=>none
def fcB(pm:Pm):Option Tmp→Option St→Option St
 |some t,some s1=>KT pm s1 (some t)
 |_,_=>none
theorem iD:Ib E pm s dst (.assign (.tmp u)) ty=if ty=900003 then fZ pm dst (BQ pm s dst (.tmp u) (s.v u))else if ty<1000000 then BQ pm s dst (.tmp u) (s.v u)else fZ pm dst (BQ pm s dst (.tmp u) (s.v u)):=by
 have hfr:((BQ pm s dst (.tmp u) (s.v u)).bind fun s1=>Dt pm s1 dst)=fZ pm dst (BQ pm s dst (.tmp u) (s.v u)):=by
  rcases BQ pm s dst (.tmp u) (s.v u)with _|s1<;>cases dst<;>rfl
 show(if aU ty=true then(BQ pm s dst (.tmp u) (s.v u)).bind fun s1=>Dt pm s1 dst else BQ pm s dst (.tmp u) (s.v u))=_
 rw [hfr];unfold aU;by_cases h1:ty=900003
 ·rw [if_pos h1,if_pos h1];rfl
 ·rw [if_neg h1,if_neg h1];by_cases h2:ty<1000000
  ·rw [if_pos h2,if_pos h2];rfl
  ·rw [if_neg h2,if_neg h2];rfl
theorem cu(v:Value):Ib E pm s dst (.assign (.const v)) ty=if ty=900003 then fZ pm dst (I4 s dst (ev E.T s ty (.const v)))else if ty<1000000 then I4 s dst (ev E.T s ty (.const v))else fZ pm dst (I4 s dst (ev E.T s (ty-1000000) (.const v))):=by
 have hfr: ∀t,((ev E.T s t (.const v)).bind fun d=>(BQ pm s dst (.const v) d).bind fun s1=>Dt pm s1 dst)=fZ pm dst (I4 s dst (ev E.T s t (.const v))):=by
  intro t
  cases ev E.T s t (.const v)<;>cases dst<;>rfl
 have hno: ∀t,((ev E.T s t (.const v)).bind fun d=>BQ pm s dst (.const v) d)=I4 s dst (ev E.T s t (.const v)):=by
  intro t
  cases ev E.T s t (.const v)<;>rfl
 show((ev E.T s (sK ty) (.const v)).bind fun d=>if aU ty=true then(BQ pm s dst (.const v) d).bind fun s1=>Dt pm s1 dst else BQ pm s dst (.const v) d)=_
 unfold aU sK;by_cases h1:ty=900003
 ·simp only [if_pos h1,if_true];exact hfr _
 ·by_cases h2:ty<1000000
  ·simp only [if_neg h1,if_pos h2,H5,if_false];exact hno _
  ·simp only [if_neg h1,if_neg h2,if_true];exact hfr _
theorem uE(v:Value):Ib E pm s dst (.move (.const v)) ty=I4 s dst (ev E.T s ty (.const v)):=by
 show((ev E.T s ty (.const v)).map fun d=>C9 s dst (.const v) d)=_
 cases ev E.T s ty (.const v)<;>rfl
theorem yo:Ib E pm s dst (.load t (.tmp u)) ty=I4 s dst (FO E.T pm s t (.tmp u) (s.v u)):=Gq s dst _
theorem yUn(op:UnOp):Ib E pm s dst (.unOp op t (.tmp u)) ty=I4 s dst (sI op (s.v u)):=Gq s dst _
theorem uF(i:Nat):Ib E pm s dst (.fieldAddr t (.tmp u) i) ty=I4 s dst (Du E.T pm s t (.tmp u) (s.v u) i):=Gq s dst _
theorem A5b:Ib E pm s dst (.call ⟨.builtin .len, #[.tmp u], #[t]⟩) ty=I4 s dst (KV E.T pm s t (.tmp u) (s.v u)):=Gq s dst _
theorem cz(i:Nat):Ib E pm s dst (.extract (.tmp u) i) ty=Fv s dst (.tmp u) (s.v u) i:=nr rfl
def slC(T:Tys)(pm:Pm)(s:St)(dst:Option Tmp)(t:ab)(x:ac)(hi:Option ac):Option ac→Option ac→Option St
 |none,none=>Rm dst (KS T pm s t x hi)
 |_,_=>none
theorem A5c(T:Tys)(x:ac)(hi:Option ac):slC T pm s dst t x hi none none=Rm dst (KS T pm s t x hi):=nr rfl
def slF(T:Tys)(pm:Pm)(s:St)(dst:Option Tmp)(t:ab)(x:ac)(lo:Option ac):Option ac→Option ac→Option St
 |none,none=>Rm dst (Ji T pm s t x lo)
 |_,_=>none
theorem A5d(T:Tys)(x:ac)(lo:Option ac):slF T pm s dst t x lo none none=Rm dst (Ji T pm s t x lo):=nr rfl
theorem uG(lo hi mx:Option ac):Ib E pm s dst (.slice t (.tmp u) lo hi mx) ty=
  if ty=900002 then slC E.T pm s dst t (.tmp u) hi lo mx
  else if ty=900005 then slF E.T pm s dst t (.tmp u) lo hi mx
  else if ty=900001 then Rm dst (Fq E.T pm.see s t (.tmp u) (s.v u) lo hi mx)else Rm dst (Fq E.T pm s t (.tmp u) (s.v u) lo hi mx):=by
 show(if ty=900002 then(if lo.isNone&&mx.isNone then(KS E.T pm s t (.tmp u) hi).map fun r=>r.2.putO dst r.1 else none)
  else if ty=900005 then(if hi.isNone&&mx.isNone then(Ji E.T pm s t (.tmp u) lo).map fun r=>r.2.putO dst r.1 else none)
  else(ev E.T s t (.tmp u)).bind fun d=>(Fq E.T (if ty=900001 then pm.see else pm) s t (.tmp u) d lo hi mx).map fun r=>r.2.putO dst r.1)=_
 split
 ·cases lo<;>cases mx<;>first|rfl|exact JY dst _
 ·split
  ·cases hi<;>cases mx<;>first|rfl|exact JY dst _
  ·split
   ·exact JY dst _
   ·exact JY dst _
def apI(T:Tys)(pm:Pm)(s:St)(t:ab)(x y:ac)(d:D):Option (D×St):=if sJ (some d)then IU T pm s t x else Er T pm s t x y
theorem iE(x:ac)(v:Tmp):Ib E pm s dst (.call ⟨.builtin .append, #[x,.tmp v], #[t,t]⟩) ty=Rm dst (apI E.T pm s t x (.tmp v) (s.v v)):=by
 rw [XX,if_pos rfl,JY];rfl
theorem A5e(T:Tys)(x y:ac)(e:ab)(xs:List D):apI T pm s t x y (.sl e xs)=Er T pm s t x y:=nr rfl
theorem yt(T:Tys)(x y:ac)(e:ab)(xs:List D):apI T pm s t x y (.own e xs)=Er T pm s t x y:=nr rfl
theorem apK(T:Tys)(x y:ac)(A:Option Addr)(c:Nat):apI T pm s t x y (.konst (.slice A 0 c))=IU T pm s t x:=nr rfl
def ix1(T:Tys)(pm:Pm)(s:St)(t:ab)(x:ac)(d:D):Option D→Option D
 |some i=>Ob T pm s t x d i
 |none=>none
theorem A5f(T:Tys)(x:ac)(d i:D):ix1 T pm s t x d (some i)=Ob T pm s t x d i:=nr rfl
theorem uH(i:ac):Ib E pm s dst (.indexAddr t (.tmp u) i) ty=I4 s dst (ix1 E.T pm s t (.tmp u) (s.v u) (ev E.T s 0 i)):=by
 show(match some (s.v u),ev E.T s 0 i with
  |some a,some b=>(Ob E.T pm s t (.tmp u) a b).map fun r=>s.putO dst r
  |_,_=>none)=_
 cases ev E.T s 0 i with
 |none=>rfl
 |some b=>exact Gq s dst _
def yu(T:Tys)(t:ab):Option D→Option D→Option D
 |some a,some b=>DZ T t a b
 |_,_=>none
theorem A5g(T:Tys)(a b:D):yu T t (some a) (some b)=DZ T t a b:=nr rfl
theorem A5h(l c:ac):Ra E.T s dst t l c=I4 s dst (yu E.T t (ev E.T s 0 l) (ev E.T s 0 c)):=by
 show(match ev E.T s 0 l,ev E.T s 0 c with
  |some a,some b=>(DZ E.T t a b).map fun r=>s.putO dst r
  |_,_=>none)=_
 cases ev E.T s 0 l<;>cases ev E.T s 0 c<;>first|rfl|exact Gq s dst _
theorem yw(l c:ac):Ib E pm s dst (.makeSlice t l c) ty=if ty=900012 then fcB pm dst (I4 s dst (yu E.T t (ev E.T s 0 l) (ev E.T s 0 c)))else I4 s dst (yu E.T t (ev E.T s 0 l) (ev E.T s 0 c)):=by
 rw [Ro,A5h];by_cases h:ty=900012
 ·rw [if_pos h,if_pos h]
  cases I4 s dst (yu E.T t (ev E.T s 0 l) (ev E.T s 0 c))<;>cases dst<;>rfl
 ·rw [if_neg h,if_neg h]
def cv1(s:St)(dst:Option Tmp):Option D→Ty→Option St
 |some (.int _ n),.int k=>some (s.putO dst (.int k (k.wrap n)))
 |some (.str b),.string=>some (s.putO dst (.str b))
 |_,_=>none
theorem A5i(k k':IntKind)(n:Int):cv1 s dst (some (.int k n)) (.int k')=some (s.putO dst (.int k' (k'.wrap n))):=nr rfl
theorem d9(src d:ab)(x:ac):Ib E pm s dst (.convert src d x) ty=if E.T.known src then cv1 s dst (ev E.T s src x) (E.T.ty d)else none:=by
 rw [Vn];split
 ·rcases ev E.T s src x with _|d'<;>cases E.T.ty d<;>first|rfl|(cases d'<;>rfl)
 ·rfl
def asM(l:List ab):List ab:=l.map fun _=>900013
theorem yx(f:am)(args:Array ac)(ts:Array ab)(h:args.size=ts.size):Ib E pm s dst (.call ⟨.value (.func f),args,ts⟩) ty=if ty=900014 then fZ pm dst (Ed E pm s dst f (args.toList.zip ts.toList) [])else Ed E pm s dst f (args.toList.zip (if ty=900013 then asM ts.toList else ts.toList)) []:=by
 rw [cB,if_pos h];by_cases c:ty=900014
 ·rw [if_pos c,if_pos c];have e:KW ty ts.toList=ts.toList:=by unfold KW;rw [c,if_neg (by decide)]
  rw [e];unfold fZ
  cases Ed E pm s dst f (args.toList.zip ts.toList) []with
  |none=>cases dst<;>rfl
  |some s1=>cases dst<;>rfl
 ·rw [if_neg c,if_neg c]
  unfold KW asM;rfl
end
section
variable {T:Tys} {pm:Pm} {s:St} {t:ab}
theorem ldC(x:ac)(xs:List D)(hk:T.known t=true)(hs:T.isStruct t=false):FO T pm s t x (.cptr xs)=xs[0]? :=by simp [FO,hk,hs]
theorem A5j(x:ac)(xs:List D)(hk:T.known t=true)(hs:T.isStruct t=true):FO T pm s t x (.cptr xs)=if T.size t≤xs.length then some (.agg (xs.take (T.size t)))else none:=by simp [FO,hk,hs]
def QT(s:St)(L:AJ)(c:Nat):Option D→Option D
 |some o=>(o.cells[c]?).bind fun x=>Ce (CJ s L c x)
 |none=>none
def cellsOf(s:St)(L:AJ)(c n:Nat):Option D→Option D
 |some o=>if c+n≤o.cells.length then Ce (.agg ((an n).map fun i=>CJ s L (c+i) (o.cells.getD (c+i) .undef)))else none
 |none=>none
theorem ldP(x:ac)(L:AJ)(c n m:Nat)(hk:T.known t=true)(hs:T.isStruct t=false):FO T pm s t x (.pe L c n m)=QT s L c (s.look pm L n m):=by
 simp only [FO,hk,hs,if_true,GA]
 cases s.look pm L n m<;>simp [QT]
theorem ldB(u:Tmp)(xs:List D)(hk:T.known t=true)(hs:T.isStruct t=false):FO T pm s t (.tmp u) (.box xs)=QT s [u] 0 (some (.box xs)):=by
 simp only [FO,hk,hs,if_true,GA];simp [QT]
theorem A5k(u:Tmp)(xs:List D)(hk:T.known t=true)(hs:T.isStruct t=true):FO T pm s t (.tmp u) (.box xs)=cellsOf s [u] 0 (T.size t) (some (.box xs)):=by
 simp only [FO,hk,hs,if_true,GA];simp [cellsOf]
def jl(s:St)(pm:Pm)(L:AJ)(n m:Nat):Option D:=
 match s.look pm L n m with
 |some (.box xs)=>some (.box xs)
 |_=>none
def Vo:D→Option D
 | .own e xs=>some (.own e xs)
 | .box xs=>some (.box xs)
 |_=>none
theorem uI(e:ab)(xs:List D):Vo (.own e xs)=some (.own e xs):=nr rfl
theorem uJ(xs:List D):Vo (.box xs)=some (.box xs):=nr rfl
theorem yz(u n m:Nat):s.look pm [u] n m=if pm.rd u&&(s.k u==n)then Vo (s.v u)else none:=by
 simp only [St.look,List.isEmpty_nil,Bool.true_or,PT,BI];split
 ·cases s.v u<;>rfl
 ·rfl
def z8:Option D→Option D
 |some d=>Vo d
 |none=>none
theorem zA(u c n m:Nat)(p:AJ):s.look pm (u::c::p) n m=if pm.rd u&&(s.k u==n)&&(s.m u==m)then z8 (BI (s.v u) (c::p))else none:=by
 simp only [St.look,List.isEmpty_cons,Bool.false_or];split
 ·cases BI (s.v u) (c::p)with
  |none=>rfl
  |some d=>cases d<;>rfl
 ·rfl
theorem zC(d:D):z8 (some d)=Vo d:=nr rfl
theorem A5l(x:ac)(e:ab)(xs:List D):Cs pm s x (.sl e xs)=some (e,xs,none):=nr rfl
theorem zD(u:Tmp)(e:ab)(xs:List D):Cs pm s (.tmp u) (.own e xs)=some (e,xs,some ([u],s.k u,s.m u)):=nr rfl
def zF(L:AJ)(n m:Nat):Option D→Option (ab×List D×Option (AJ×Nat×Nat))
 |some (.own e xs)=>some (e,xs,some (L,n,m))
 |_=>none
theorem zG(L:AJ)(n m:Nat)(e:ab)(xs:List D):zF L n m (some (.own e xs))=some (e,xs,some (L,n,m)):=nr rfl
theorem A5m(x:ac)(L:AJ)(n m:Nat):Cs pm s x (.vw L n m)=zF L n m (s.look pm L n m):=by
 simp only [Cs]
 cases s.look pm L n m with
 |none=>rfl
 |some o=>cases o<;>rfl
def iF(T:Tys):Option (ab×List D×Option (AJ×Nat×Nat))→Option D
 |some (e,xs,_)=>if T.known e then some (.int .i64 (T.len e xs))else none
 |none=>none
theorem zH(e:ab)(xs:List D)(o:Option (AJ×Nat×Nat))(hk:T.known e=true):iF T (some (e,xs,o))=some (.int .i64 (T.len e xs)):=by simp [iF,hk]
def ln0(T:Tys)(pm:Pm)(s:St)(x:ac)(d:D):Ty→Option D
 | .string=>match d with| .str b=>some (.int .i64 b.size)|_=>none
 | .slice _=>iF T (Cs pm s x d)
 |_=>none
theorem lnT(x:ac)(d:D):K7 T pm s t x d=ln0 T pm s x d (T.ty t):=by
 unfold K7 ln0
 cases T.ty t with
 |slice e=>
  simp only
  cases Cs pm s x d with
  |none=>rfl
  |some q=>rfl
 |string=>cases d<;>rfl
 |_=>rfl
theorem zI(x:ac)(e:ab)(xs:List D):KV T pm s t x (.sl e xs)=K7 T pm s t x (.sl e xs):=nr rfl
theorem uK(x:ac)(e:ab)(xs:List D):KV T pm s t x (.own e xs)=K7 T pm s t x (.own e xs):=nr rfl
def lnW(T:Tys)(pm:Pm)(s:St)(t:ab)(x:ac)(L:AJ)(n m:Nat):Ty→Option D
 | .map _ _=>(s.lookM pm L n).map fun q=> .int .i64 q.2.2.length
 |_=>K7 T pm s t x (.vw L n m)
theorem zJ(x:ac)(L:AJ)(n m:Nat):KV T pm s t x (.vw L n m)=lnW T pm s t x L n m (T.ty t):=by
 show(match T.ty t with| .map _ _=>Uo T pm s t x (.vw L n m)|_=>Un T pm s t x (.vw L n m))=_
 unfold lnW Uo
 cases h:T.ty t<;>simp only [PY]<;>first|rfl|(cases s.lookM pm L n<;>rfl)
theorem A5p(T:Tys)(x:ac)(L:AJ)(n m:Nat)(e:ab):lnW T pm s t x L n m (.slice e)=K7 T pm s t x (.vw L n m):=nr rfl
def zK:D→Option (ab×ab×List (AX×AX))
 | .mp k e es=>some (k,e,es)
 |_=>none
theorem zL(k e:ab)(es:List (AX×AX)):zK (.mp k e es)=some (k,e,es):=nr rfl
theorem uL(u n:Nat):s.lookM pm [u] n=if pm.rd u&&(s.k u==n)then zK (s.v u)else none:=by
 simp only [St.lookM];split
 ·cases s.v u<;>rfl
 ·rfl
theorem zM(x:ac)(e:ab)(L:AJ)(n m lo len:Nat):KV T pm s t x (.vs e L n m lo len)=gB len (T.ty t):=nr rfl
theorem zN(len:Nat)(e:ab):gB len (.slice e)=some (.int .i64 len):=nr rfl
theorem zO(x:ac)(e:ab)(xs:List D)(i:D):Ob T pm s t x (.sl e xs) i=DY T pm s t x (.sl e xs) i:=nr rfl
theorem zP(x:ac)(L:AJ)(n m:Nat)(i:D):Ob T pm s t x (.vw L n m) i=DY T pm s t x (.vw L n m) i:=nr rfl
def iG(T:Tys)(e e1:ab)(L:AJ)(va vb lo len:Nat)(n:Int):Option D→Option D
 |some (.own e2 xs)=>if e1=e∧e2=e∧T.known e=true∧T.size e=1∧0≤n∧n.toNat<len∧lo+len≤xs.length then some (.pe L (lo+n.toNat) va vb)else none
 |_=>none
def uM(T:Tys)(pm:Pm)(s:St)(e1:ab)(L:AJ)(va vb lo len:Nat)(n:Int):Ty→Option D
 | .slice e=>iG T e e1 L va vb lo len n (s.look pm L va vb)
 |_=>none
theorem zQ(x:ac)(e:ab)(L:AJ)(va vb lo len:Nat)(k:IntKind)(n:Int):Ob T pm s t x (.vs e L va vb lo len) (.int k n)=uM T pm s e L va vb lo len n (T.ty t):=by
 show aS T pm s t e L va vb lo len (.int k n)=_
 unfold aS uM
 cases T.ty t with
 |slice e'=>
  simp only;rcases s.look pm L va vb with _|d
  ·rfl
  ·cases d<;>rfl
 |_=>rfl
theorem zR(e1:ab)(L:AJ)(va vb lo len:Nat)(n:Int)(e:ab):uM T pm s e1 L va vb lo len n (.slice e)=iG T e e1 L va vb lo len n (s.look pm L va vb):=nr rfl
theorem zS(e:ab)(L:AJ)(va vb lo len:Nat)(n:Int)(xs:List D)(hk:T.known e=true)(hz:T.size e=1)(h1:0≤n∧n.toNat<len)(h2:lo+len≤xs.length):iG T e e L va vb lo len n (some (.own e xs))=some (.pe L (lo+n.toNat) va vb):=by
 unfold iG;dsimp only;rw [if_pos ⟨rfl,rfl,hk,hz,h1.1,h1.2,h2⟩]
theorem A5q(x:ac)(d:D)(e:ab):ln0 T pm s x d (.slice e)=iF T (Cs pm s x d):=nr rfl
theorem zT(e:ab)(xs:List D)(h:T.size e=1):T.len e xs=xs.length:=by simp [Tys.len,h]
def Zl(T:Tys)(e:ab)(n:Int):Option (ab×List D×Option (AJ×Nat×Nat))→Option D
 |some (e',xs,o)=>
  if e'=e∧T.known e=true∧0≤n∧n.toNat<T.len e xs then
   match o with
   |none=>some (.cptr ((xs.drop (n.toNat*T.size e)).take (T.size e)))
   |some (L,a,b)=>some (.pe L (n.toNat*T.size e) a b)
  else none
 |none=>none
def ix0(T:Tys)(pm:Pm)(s:St)(x:ac)(d:D)(n:Int):Ty→Option D
 | .slice e=>Zl T e n (Cs pm s x d)
 | .arr len e=>
  if 0≤n∧n.toNat<len∧T.known e=true∧T.size e=1 then
   match d with
   | .box _=>match x with| .tmp u=>some (.pe [u] n.toNat (s.k u) (s.m u))|_=>none
   | .vw L n1 m1=>match s.look pm L n1 m1 with|some (.box _)=>some (.pe L n.toNat n1 m1)|_=>none
   | .cptr xs=>some (.cptr (xs.drop n.toNat))
   |_=>none
  else none
 |_=>none
theorem ixT(x:ac)(d:D)(k:IntKind)(n:Int):DY T pm s t x d (.int k n)=ix0 T pm s x d n (T.ty t):=by
 unfold DY ix0
 cases T.ty t with
 |slice e=>
  simp only
  cases Cs pm s x d with
  |none=>rfl
  |some q=>rfl
 |_=>rfl
theorem A5s(x:ac)(d:D)(n:Int)(e:ab):ix0 T pm s x d n (.slice e)=Zl T e n (Cs pm s x d):=nr rfl
theorem A5t(e:ab)(n:Int)(xs:List D)(hk:T.known e=true)(hz:T.size e=1)(hn:0≤n∧n.toNat<xs.length):Zl T e n (some (e,xs,none))=some (.cptr [xs.getD n.toNat .undef]):=by
 simp only [Zl,hk,hz,Tys.len,if_true];rw [if_pos ⟨trivial,trivial,hn.1,hn.2⟩,KI,List.drop_eq_getElem_cons hn.2,Je,Fg hn.2];rfl
theorem A5u(e:ab)(n:Int)(xs:List D)(L:AJ)(a b:Nat)(hk:T.known e=true)(hz:T.size e=1)(hn:0≤n∧n.toNat<xs.length):Zl T e n (some (e,xs,some (L,a,b)))=some (.pe L n.toNat a b):=by
 simp only [Zl,hk,hz,Tys.len,if_true];rw [if_pos ⟨trivial,trivial,hn.1,hn.2⟩,KI]
end
section
variable {T:Tys} {pm:Pm} {s:St} {t:ab} (u:Tmp)
def Wd(pm:Pm)(s:St)(u:Tmp)(d:D):Option (D×St):=CG pm (if d.hasObj then s.clr u else s) d
theorem zU:take T pm s t (.tmp u)=Wd pm s u (s.v u):=nr rfl
theorem zV(k:IntKind)(n:Int):CG pm s (.int k n)=some (.int k n,s):=by simp [CG]
theorem zW(e:ab)(xs:List D):CG pm s (.own e xs)=some (.own e xs,s):=by simp [CG]
theorem A5v(L:AJ)(n m:Nat):CG pm s (.vw L n m)=KR pm s L n m:=by simp [CG]
def zX:Option (List D×St)→Option (D×St)
 |some r=>some (.agg r.1,r.2)
 |none=>none
theorem A5w(r:List D×St):zX (some r)=some (.agg r.1,r.2):=nr rfl
theorem zY(xs:List D):CG pm s (.agg xs)=zX (Dj pm s xs):=by simp only [CG];cases Dj pm s xs<;>rfl
def td2(pm:Pm)(ds:List D):Option (D×St)→Option (List D×St)
 |some r=>(Dj pm r.2 ds).map fun q=>(r.1::q.1,q.2)
 |none=>none
theorem A5x(ds:List D)(d:D):td2 pm ds (some (d,s))=(Dj pm s ds).map fun q=>(d::q.1,q.2):=nr rfl
theorem uN:Dj pm s []=some ([],s):=by simp [Dj]
theorem iH(d:D)(ds:List D):Dj pm s (d::ds)=td2 pm ds (CG pm s d):=by simp only [Dj];cases CG pm s d<;>rfl
theorem zZ(k:IntKind)(n:Int):Wd pm s u (.int k n)=some (.int k n,s):=by simp [Wd,CG,D.hasObj]
theorem uO(b:Bool):Wd pm s u (.bool b)=some (.bool b,s):=by simp [Wd,CG,D.hasObj]
theorem A5y(e:ab)(xs:List D):Wd pm s u (.sl e xs)=some (.sl e xs,s):=by simp [Wd,CG,D.hasObj]
theorem za(e:ab)(xs:List D):Wd pm s u (.own e xs)=some (.own e xs,s.clr u):=by simp [Wd,CG,D.hasObj]
theorem zb(f:am)(xs:List D):Wd pm s u (.clo f xs)=some (.clo f xs,s):=by simp [Wd,CG,D.hasObj]
theorem A5z(L:AJ)(n m:Nat):Wd pm s u (.vw L n m)=KR pm s L n m:=by simp [Wd,CG,D.hasObj]
theorem ze(xs:List D):Wd pm s u (.agg xs)=zX (Dj pm (if Am xs then s.clr u else s) xs):=by
 simp only [Wd,D.hasObj];rw [zY];rfl
theorem uP:Am []=false:=by simp [Am]
theorem YQ(d:D)(ds:List D):Am (d::ds)=(d.hasObj||Am ds):=by simp [Am]
theorem zf(e:ab)(xs:List D):(D.sl e xs).hasObj=false:=by simp [D.hasObj]
theorem zg(e:ab)(xs:List D):(D.own e xs).hasObj=true:=by simp [D.hasObj]
theorem zh(xs:List D):(D.box xs).hasObj=true:=by simp [D.hasObj]
theorem A60(L:AJ)(n m:Nat):(D.vw L n m).hasObj=false:=by simp [D.hasObj]
def pl1(s:St)(r:Nat):Option D→Option (D×St)
 |some c=>some (c,s.set [r] .undef)
 |none=>none
theorem A62(r:Nat)(c:D):pl1 s r (some c)=some (c,s.set [r] .undef):=nr rfl
theorem zi(r n m:Nat)(hw:pm.wr r=true):KR pm s [r] n m=pl1 s r (s.look pm [r] n m):=by
 unfold KR
 cases s.look pm [r] n m with
 |none=>rfl
 |some c=>simp [hw,St.get,pl1]
def pl2(s:St)(L:AJ)(o:Option D):Option D→Option (D×St)
 |some c=>match o with
  |some (.own _ _)=>(DL c).map fun c'=>(c',s.set L c')
  |_=>some (c,s.set L .undef)
 |none=>none
theorem A64(L:AJ)(xs:List D)(c:D):pl2 s L (some (.box xs)) (some c)=some (c,s.set L .undef):=nr rfl
theorem zk(u' c n m:Nat)(p:AJ)(hw:pm.wr u'=true):KR pm s (u'::c::p) n m=pl2 s (u'::c::p) (s.get (u'::c::p).dropLast) (s.look pm (u'::c::p) n m):=by
 unfold KR
 cases s.look pm (u'::c::p) n m with
 |none=>rfl
 |some d=>simp only [RX,hw,if_true,pl2];rfl
theorem A65(r:Nat):s.get [r]=some (s.v r):=nr rfl
theorem zm(d:D):BI d []=some d:=by cases d<;>rfl
theorem zn(e:ab)(xs:List D)(c:Nat)(p:AJ):BI (.own e xs) (c::p)=(xs[c]?).bind fun d=>BI d p:=nr rfl
theorem zo(xs:List D)(c:Nat)(p:AJ):BI (.box xs) (c::p)=(xs[c]?).bind fun d=>BI d p:=nr rfl
theorem zq(d x:D):FF d [] x=x:=by cases d<;>rfl
theorem zt(e:ab)(xs:List D)(c:Nat)(p:AJ)(x:D):FF (.own e xs) (c::p) x= .own e (xs.set c (FF (xs.getD c .undef) p x)):=nr rfl
theorem zu(xs:List D)(c:Nat)(p:AJ)(x:D):FF (.box xs) (c::p) x= .box (xs.set c (FF (xs.getD c .undef) p x)):=nr rfl
end
section
variable {T:Tys} {pm:Pm} {s:St} {t:ab}
def Uj(T:Tys)(pm:Pm)(t:ab)(ax:ac):Option (D×St)→Option St
 |none=>none
 |some (d,s1)=>
  match ev T s1 t ax with
  |none=>none
  |some ad=>
   match GA pm s1 ax ad with
   |none=>none
   |some (L,c,o)=>
    if T.known t&&pm.wr (L.headD 0)&&d.asCells.all Cn&&(T.size t==d.asCells.length)&&(T.isStruct t==d.isAgg)&&decide (c+T.size t≤o.cells.length)then
     let s2:=s1.set L (o.withCells (C8 o.cells c d.asCells))
     some (if d.hasObj||Am o.cells then s2.bump (L.headD 0)else s2)
    else none
theorem uQ(ax x:ac):Gh T pm s t ax x=Uj T pm t ax (take T pm s t x):=by
 unfold Gh Ep Uj;rcases take T pm s t x with _|⟨d,s1⟩<;>rfl
def tm1(T:Tys)(pm:Pm)(s:St)(t:ab)(u:Tmp):D→Option (D×St)
 | .vw L n m=>PV pm s L n m
 |_=>take T pm s t (.tmp u)
theorem uR(u:Tmp):IQ T pm s t (.tmp u)=tm1 T pm s t u (s.v u):=by
 unfold IQ;simp only [ev]
 cases s.v u<;>rfl
def tm2(s:St)(L:AJ):Option D→Option (D×St)
 |some c=>some (c,s.set L .undef)
 |none=>none
theorem A68(u:Tmp)(L:AJ)(n m:Nat)(hw:pm.wr (L.headD 0)=true):tm1 T pm s t u (.vw L n m)=tm2 s L (s.look pm L n m):=by
 show PV pm s L n m=_
 unfold PV tm2
 cases s.look pm L n m with
 |none=>rfl
 |some c=>simp only [hw,if_true]
theorem uS(u:Tmp)(e:ab)(xs:List D):tm1 T pm s t u (.own e xs)=take T pm s t (.tmp u):=nr rfl
theorem A69(L:AJ)(c:D):tm2 s L (some c)=some (c,s.set L .undef):=nr rfl
def jm(s1:St)(L:AJ)(c:Nat)(d:D):Option D→Option St
 |none=>none
 |some o=>if c<o.cells.length then(if d.hasObj||Am o.cells then some ((s1.set L (o.withCells (o.cells.set c d))).bump (L.headD 0))else some (s1.set L (o.withCells (o.cells.set c d))))else none
def sd1(T:Tys)(pm:Pm)(t:ab)(u:Tmp)(d:D)(s:St):D→Option St
 | .pe L c n m=>if T.known t&& !T.isStruct t&&pm.wr (L.headD 0)&&Cn d then jm s L c d (s.look pm L n m)else Uj T pm t (.tmp u) (some (d,s))
 | .vw L n m=>if T.known t&& !T.isStruct t&&pm.wr (L.headD 0)&&Cn d then jm s L 0 d (jl s pm L n m)else Uj T pm t (.tmp u) (some (d,s))
 | .box xs=>if T.known t&& !T.isStruct t&&pm.wr u&&Cn d then jm s [u] 0 d (some (.box xs))else Uj T pm t (.tmp u) (some (d,s))
 |_=>Uj T pm t (.tmp u) (some (d,s))
theorem Km{d:D}(hd:Cn d=true):d.asCells=[d]∧d.isAgg=false:=by
 cases d<;>first|exact⟨rfl,rfl⟩|(simp [Cn]at hd)
theorem JZ{T:Tys}{t:ab}(hs:T.isStruct t=false):T.size t=1:=by
 unfold Tys.isStruct at hs;unfold Tys.size
 cases hty:T.ty t<;>simp_all [Ty.isStruct,Ty.size]
theorem A6A(u:Tmp)(d:D)(_:d.isAgg=false):Uj T pm t (.tmp u) (some (d,s))=sd1 T pm t u d s (s.v u):=by
 cases hv:s.v u<;>simp only [sd1]
 case pe L c n m=>
  split
  ·rename_i hc
   simp only [ED,Ik]at hc;obtain⟨⟨⟨hk,hs⟩,hw⟩,hd⟩:=hc;obtain⟨ha,hg⟩:=Km hd;have hz:=JZ hs;simp only [Uj,ev,hv,GA]
   cases s.look pm L n m with
   |none=>rfl
   |some o=>
    simp only [jm,hk,hw,ha,hz,hs,hg,MS,hd,List.all_nil,MQ,PS,PT,C8,beq_self_eq_true,Gx];by_cases hc:c<o.cells.length
    ·have h1:c+1≤o.cells.length:=hc;simp only [hc,h1,decide_true,PT,if_true];split<;>first|rfl|(rename_i hq;simp only [hq];rfl)
    ·have h1: ¬c+1≤o.cells.length:=hc;simp only [hc,h1,decide_false,Bool.and_false,H5,if_false]
  ·rfl
 case vw L n m=>
  split
  ·rename_i hc
   simp only [ED,Ik]at hc;obtain⟨⟨⟨hk,hs⟩,hw⟩,hd⟩:=hc;obtain⟨ha,hg⟩:=Km hd;have hz:=JZ hs;simp only [Uj,ev,hv,GA,jl]
   cases s.look pm L n m with
   |none=>rfl
   |some o=>
    cases o<;>try rfl
    rename_i xs
    simp only [jm,hk,hw,ha,hz,hs,hg,MS,hd,List.all_nil,MQ,PS,PT,C8,beq_self_eq_true,Gx,D.cells];by_cases hc:0<xs.length
    ·have h1:1≤xs.length:=hc;simp only [hc,h1,decide_true,PT,if_true];split<;>first|rfl|(rename_i hq;simp only [hq];rfl)
    ·have h1: ¬1≤xs.length:=hc;simp only [hc,h1,decide_false,Bool.and_false,H5,if_false]
  ·rfl
 case box xs=>
  split
  ·rename_i hc
   simp only [ED,Ik]at hc;obtain⟨⟨⟨hk,hs⟩,hw⟩,hd⟩:=hc;obtain⟨ha,hg⟩:=Km hd;have hz:=JZ hs;simp only [Uj,ev,hv,GA];simp only [jm,hk,hw,ha,hz,hs,hg,MS,hd,List.all_nil,MQ,PS,PT,C8,beq_self_eq_true,Gx,D.cells,RX];by_cases hc:0<xs.length
   ·have h1:1≤xs.length:=hc;simp only [hc,h1,decide_true,PT,if_true];split<;>first|rfl|(rename_i hq;simp only [hq];rfl)
   ·have h1: ¬1≤xs.length:=hc;simp only [hc,h1,decide_false,Bool.and_false,H5,if_false]
  ·rfl
theorem A6B(u:Tmp)(d:D)(L:AJ)(c n m:Nat)(hk:T.known t=true)(hs:T.isStruct t=false)(hw:pm.wr (L.headD 0)=true)(hd:Cn d=true):sd1 T pm t u d s (.pe L c n m)=jm s L c d (s.look pm L n m):=by
 simp [sd1,hk,hs,hd];intro h;simp_all
theorem hdC(a:Nat)(l:AJ)(d:Nat):List.headD (a::l) d=a:=nr rfl
theorem A6C(L:AJ)(c:Nat)(d o:D):jm s L c d (some o)=if c<o.cells.length then(if d.hasObj||Am o.cells then some ((s.set L (o.withCells (o.cells.set c d))).bump (L.headD 0))else some (s.set L (o.withCells (o.cells.set c d))))else none:=nr rfl
theorem zw(e:ab)(xs:List D):(D.own e xs).cells=xs:=nr rfl
theorem zx(xs:List D):(D.box xs).cells=xs:=nr rfl
theorem zy(e:ab)(xs ys:List D):(D.own e xs).withCells ys= .own e ys:=nr rfl
theorem zz(xs ys:List D):(D.box xs).withCells ys= .box ys:=nr rfl
theorem A00(k:IntKind)(n:Int):Cn (.int k n)=true:=nr rfl
theorem A01(e:ab)(xs:List D):Cn (.own e xs)=true:=nr rfl
theorem ceS(L:AJ)(c:Nat)(o:D):QT s L c (some o)=(o.cells[c]?).bind fun x=>Ce (CJ s L c x):=nr rfl
theorem A6D(L:AJ)(c:Nat)(e:ab)(xs:List D):Ce (CJ s L c (.sl e xs))=some (.sl e xs):=nr rfl
theorem uT(L:AJ)(c:Nat)(xs:List D):Ce (CJ s L c (.cptr xs))=some (.cptr xs):=nr rfl
theorem A6E(r:Nat)(p:AJ):aL s (r::p)= .vw (r::p) (s.k r) (s.m r):=nr rfl
def ap1(T:Tys)(pm:Pm)(e:ab)(ty:ab)(y:ac):Option (D×St)→Option (D×St)
 |some (.own e1 xs,s1)=>
   match ev T s1 ty y with
   |some d=>
    match Cs pm s1 y d with
    |some (e2,ys,_)=>
     if e1=e∧e2=e∧T.elem e=true∧ys.all Cn=true∧xs.length+ys.length<1099511627776 then
      if Am ys then
       match d,y with
       | .own _ _,.tmp u=>some (.own e (xs++ys),s1.clr u)
       |_,_=>none
      else some (.own e (xs++ys),s1)
     else none
    |none=>none
   |none=>none
 |_=>none
def az1(T:Tys)(e:ab):Option (D×St)→Option (D×St)
 |some (.own e1 xs,s1)=>if e1=e∧T.known e=true then some (.own e xs,s1)else none
 |_=>none
def az0(T:Tys)(pm:Pm)(s:St)(ty:ab)(x:ac):Ty→Option (D×St)
 | .slice e=>az1 T e (take T pm s ty x)
 |_=>none
theorem A04(ty:ab)(x:ac):IU T pm s ty x=az0 T pm s ty x (T.ty ty):=by
 unfold IU az0
 cases T.ty ty with
 |slice e=>
  simp only [az1];rcases take T pm s ty x with _|⟨d,s1⟩
  ·rfl
  ·cases d<;>rfl
 |_=>rfl
theorem PE{T:Tys}{e:ab}(hk:T.known e=true)(h4:T.size e≤4):T.elem e=true:=by simp [Tys.elem,hk,h4]
theorem A6G(ty:ab)(x:ac)(e:ab):az0 T pm s ty x (.slice e)=az1 T e (take T pm s ty x):=nr rfl
theorem A6H(e:ab)(xs:List D)(hk:T.known e=true):az1 T e (some (.own e xs,s))=some (.own e xs,s):=by simp [az1,hk]
def ap0(T:Tys)(pm:Pm)(s:St)(ty:ab)(x y:ac):Ty→Option (D×St)
 | .slice e=>ap1 T pm e ty y (IQ T pm s ty x)
 |_=>none
theorem A6J(ty:ab)(x y:ac):Er T pm s ty x y=ap0 T pm s ty x y (T.ty ty):=by
 unfold Er ap0
 cases T.ty ty with
 |slice e=>
  simp only [ap1];rcases IQ T pm s ty x with _|⟨d,s1⟩
  ·rfl
  ·cases d<;>rfl
 |_=>rfl
theorem A6K(ty:ab)(x y:ac)(e:ab):ap0 T pm s ty x y (.slice e)=ap1 T pm e ty y (IQ T pm s ty x):=nr rfl
def ap2(T:Tys)(e e1:ab)(xs:List D)(s:St)(u:Tmp)(d:D):Option (ab×List D×Option (AJ×Nat×Nat))→Option (D×St)
 |some (e2,ys,_)=>
     if e1=e∧e2=e∧T.elem e=true∧ys.all Cn=true∧xs.length+ys.length<1099511627776 then
      if Am ys then
       match d with
       | .own _ _=>some (.own e (xs++ys),s.clr u)
       |_=>none
      else some (.own e (xs++ys),s)
     else none
 |none=>none
theorem A6L(ty e e1:ab)(u:Tmp)(xs:List D):ap1 T pm e ty (.tmp u) (some (.own e1 xs,s))=ap2 T e e1 xs s u (s.v u) (Cs pm s (.tmp u) (s.v u)):=by
 simp only [ap1,ev,ap2];rcases Cs pm s (.tmp u) (s.v u)with _|⟨e2,ys,o⟩
 ·rfl
 ·simp only;split
  ·split
   ·cases s.v u<;>rfl
   ·rfl
  ·rfl
theorem A6M(e:ab)(u:Tmp)(xs ys:List D)(d:D)(o:Option (AJ×Nat×Nat))(hk:T.known e=true)(h4:T.size e≤4)(hy:ys.all Cn=true)(hno:Am ys=false)(hl:xs.length+ys.length<1099511627776):
  ap2 T e e xs s u d (some (e,ys,o))=some (.own e (xs++ys),s):=by
 simp only [ap2];rw [if_pos ⟨trivial,trivial,PE hk h4,hy,hl⟩,hno];simp
end
section
variable {E:Env} {pm:Pm} {s:St} {dst:Option Tmp}
def Vq(a:D)(l:List (AJ×D)):Option (List D×List (AJ×D))→Option (List D×List (AJ×D))
 |some (as,ls)=>some (a::as,l++ls)
 |none=>none
theorem uU(a:D)(l:List (AJ×D))(as:List D)(ls:List (AJ×D)):Vq a l (some (as,ls))=some (a::as,l++ls):=nr rfl
def OO(E:Env)(lend:Bool)(pm:Pm)(s:St)(j:Nat)(rest:List (ac×ab)):Option (D×List (AJ×D))→Option (List D×List (AJ×D))
 |some (a,l)=>Vq a l (Cv E lend pm s (j+l.length) rest)
 |none=>none
theorem uV(lend:Bool)(j:Nat)(rest:List (ac×ab))(a:D)(l:List (AJ×D)):OO E lend pm s j rest (some (a,l))=Vq a l (Cv E lend pm s (j+l.length) rest):=nr rfl
theorem A05(lend:Bool)(j:Nat):Cv E lend pm s j []=some ([],[]):=nr rfl
theorem A06(lend:Bool)(j:Nat)(u:Tmp)(t:ab)(rest:List (ac×ab)):Cv E lend pm s j ((.tmp u,t)::rest)=OO E lend pm s j rest (Im E.T lend pm s j [u] (s.v u)):=by
 simp only [Cv,ev];rcases Im E.T lend pm s j [u] (s.v u)with _|⟨a,l⟩
 ·rfl
 ·simp only [OO];rcases Cv E lend pm s (j+l.length) rest with _|⟨as,ls⟩<;>rfl
def aC(E:Env)(lend:Bool)(pm:Pm)(s:St)(j:Nat)(rest:List (ac×ab)):Option D→Option (List D×List (AJ×D))
 |some d=>OO E lend pm s j rest (Im E.T lend pm s j [] d)
 |none=>none
theorem aCS(lend:Bool)(j:Nat)(rest:List (ac×ab))(d:D):aC E lend pm s j rest (some d)=OO E lend pm s j rest (Im E.T lend pm s j [] d):=nr rfl
theorem arC(lend:Bool)(j:Nat)(v:Value)(t:ab)(rest:List (ac×ab)):Cv E lend pm s j ((.const v,t)::rest)=aC E lend pm s j rest (ev E.T s t (.const v)):=by
 simp only [Cv]
 cases ev E.T s t (.const v)with
 |none=>rfl
 |some d=>
  simp only [aC];rcases Im E.T lend pm s j [] d with _|⟨a,l⟩
  ·rfl
  ·simp only [OO];rcases Cv E lend pm s (j+l.length) rest with _|⟨as,ls⟩<;>rfl
theorem arF(lend:Bool)(j:Nat)(f:am)(t:ab)(rest:List (ac×ab)):Cv E lend pm s j ((.func f,t)::rest)=OO E lend pm s j rest (Im E.T lend pm s j [] (.clo f [])):=by
 simp only [Cv,ev];rcases Im E.T lend pm s j [] (.clo f [])with _|⟨a,l⟩
 ·rfl
 ·simp only [OO];rcases Cv E lend pm s (j+l.length) rest with _|⟨as,ls⟩<;>rfl
variable (lend:Bool) (j:Nat) (L:AJ)
theorem A07(T:Tys)(k:IntKind)(n:Int):Im T lend pm s j L (.int k n)=DU lend pm s j L (.int k n):=nr rfl
theorem A6N(T:Tys)(e:ab)(xs:List D):Im T lend pm s j L (.sl e xs)=DU lend pm s j L (.sl e xs):=nr rfl
theorem A08(T:Tys)(f:am)(xs:List D):Im T lend pm s j L (.clo f xs)=DU lend pm s j L (.clo f xs):=nr rfl
theorem A09(T:Tys)(e:ab)(xs:List D):Im T lend pm s j L (.own e xs)=DU lend pm s j L (.own e xs):=nr rfl
theorem A6O(T:Tys)(M:AJ)(n m:Nat):Im T lend pm s j L (.vw M n m)=DU lend pm s j L (.vw M n m):=nr rfl
theorem A0A(T:Tys)(xs:List D):Im T lend pm s j L (.agg xs)=DU lend pm s j L (.agg xs):=nr rfl
theorem A0B(k:IntKind)(n:Int):DU lend pm s j L (.int k n)=some (.int k n,[]):=nr rfl
theorem A6P(e:ab)(xs:List D):DU lend pm s j L (.sl e xs)=some (.sl e xs,[]):=nr rfl
theorem A0C(f:am)(xs:List D):DU lend pm s j L (.clo f xs)=some (.clo f xs,[]):=nr rfl
def fz1(l:List (AJ×D)):Option D→Option (D×List (AJ×D))
 |some c=>some (c,l)
 |none=>none
theorem A6Q(l:List (AJ×D))(c:D):fz1 l (some c)=some (c,l):=nr rfl
theorem A0D(e:ab)(xs:List D):DU false pm s j L (.own e xs)=fz1 [(L,.own e xs)] (DL (.own e xs)):=by
 show((DL (.own e xs)).map fun c'=>(c',[(L,D.own e xs)]))=_
 cases DL (.own e xs)<;>rfl
def fz2(L:AJ):Option D→Option (D×List (AJ×D))
 |some c=>fz1 [(L,c)] (DL c)
 |none=>none
theorem A6S(c:D):fz2 L (some c)=fz1 [(L,c)] (DL c):=nr rfl
theorem A6T(M:AJ)(n m:Nat):DU false pm s j L (.vw M n m)=fz2 M (s.look pm M n m):=by
 simp only [DU,Dq]
 cases s.look pm M n m with
 |none=>rfl
 |some c=>simp only [fz2];cases DL c<;>rfl
def ln2(j:Nat)(L:AJ):Option D→Option (D×List (AJ×D))
 |some c=>some (.vw [G+j] 0 0,[(L,c)])
 |none=>none
theorem A6U(c:D):ln2 j L (some c)=some (.vw [G+j] 0 0,[(L,c)]):=nr rfl
theorem A0E(M:AJ)(n m:Nat):DU true pm s j L (.vw M n m)=ln2 j M (s.look pm M n m):=by
 simp only [DU,Dq]
 cases s.look pm M n m<;>rfl
def ag1:Option (List D×List (AJ×D))→Option (D×List (AJ×D))
 |some r=>some (.agg r.1,r.2)
 |none=>none
theorem A6V(r:List D×List (AJ×D)):ag1 (some r)=some (.agg r.1,r.2):=nr rfl
theorem A0F(xs:List D):DU lend pm s j L (.agg xs)=ag1 (DN lend pm s L j 0 xs):=by
 simp only [DU]
 cases DN lend pm s L j 0 xs<;>rfl
def dA(lend:Bool)(pm:Pm)(s:St)(L0:AJ)(j i:Nat)(ds:List D):Option (D×List (AJ×D))→Option (List D×List (AJ×D))
 |some (a,l)=>Vq a l (DN lend pm s L0 (j+l.length) (i+1) ds)
 |none=>none
theorem uW(i:Nat)(ds:List D)(a:D)(l:List (AJ×D)):dA lend pm s L j i ds (some (a,l))=Vq a l (DN lend pm s L (j+l.length) (i+1) ds):=nr rfl
theorem A0G(i:Nat):DN lend pm s L j i []=some ([],[]):=nr rfl
theorem uX(i:Nat)(d:D)(ds:List D)(h:d.isAgg=false):DN lend pm s L j i (d::ds)=dA lend pm s L j i ds (DU lend pm s j (L++[i]) d):=by
 have:DU lend pm s j (L++[i]) d=Dq lend pm s j (L++[i]) d:=by cases d<;>first|rfl|(simp [D.isAgg]at h)
 rw [this];simp only [DN];rcases Dq lend pm s j (L++[i]) d with _|⟨a,l⟩
 ·rfl
 ·simp only [dA];rcases DN lend pm s L (j+l.length) (i+1) ds with _|⟨as,ls⟩<;>rfl
theorem A0H(k:IntKind)(n:Int):(D.int k n).isAgg=false:=nr rfl
theorem A6W(e:ab)(xs:List D):(D.sl e xs).isAgg=false:=nr rfl
theorem A0I(e:ab)(xs:List D):(D.own e xs).isAgg=false:=nr rfl
theorem A6X(M:AJ)(n m:Nat):(D.vw M n m).isAgg=false:=nr rfl
def cb1(E:Env)(pm:Pm)(s:St)(dst:Option Tmp)(f:am)(caps:List D):Option (List D×List (AJ×D))→Option St
 |none=>none
 |some (as,ls)=>
  match E.call f (as++caps) []with
  |some (r,_)=>
   if DX r then
    if EE (ls.map (·.1))&&ls.all (fun l=>pm.wr (l.1.headD 0))then(IW ls).map fun ls'=>(back false s ls').putO dst r else none
   else some (s.putO dst r)
  |none=>none
theorem cdB(f:am)(xs:List (ac×ab))(caps:List D)(h:E.lends f=false):Ed E pm s dst f xs caps=cb1 E pm s dst f caps (Cv E false pm s 0 xs):=by
 unfold Ed cb1;rw [h];simp only [H5,if_false];rcases Cv E false pm s 0 xs with _|⟨as,ls⟩<;>rfl
def cb2(pm:Pm)(s:St)(dst:Option Tmp)(ls:List (AJ×D)):Option (D×List D)→Option St
 |some (r,_)=>
   if DX r then
    if EE (ls.map (·.1))&&ls.all (fun l=>pm.wr (l.1.headD 0))then(IW ls).map fun ls'=>(back false s ls').putO dst r else none
   else some (s.putO dst r)
 |none=>none
theorem A6Y(f:am)(caps as:List D)(ls:List (AJ×D)):cb1 E pm s dst f caps (some (as,ls))=cb2 pm s dst ls (E.call f (as++caps) []):=by
 simp only [cb1];rcases E.call f (as++caps) []with _|⟨r,o⟩<;>rfl
theorem A6Z(ls:List (AJ×D))(r:D)(o:List D)(h:DX r=false):cb2 pm s dst ls (some (r,o))=some (s.putO dst r):=by simp [cb2,h]
theorem A6a(r:D)(o:List D):cb2 pm s dst [] (some (r,o))=some (s.putO dst r):=by
 simp only [cb2];split<;>rfl
def cl1(E:Env)(pm:Pm)(s:St)(dst:Option Tmp)(f:am)(caps:List D):Option (List D×List (AJ×D))→Option St
 |none=>none
 |some (as,ls)=>
   if EE (ls.map (·.1))&&ls.all (fun l=>pm.wr (l.1.headD 0))&&ls.all (fun l=>WZ l.2)then
    match E.call f (as++caps) (ls.map (·.2))with
    |some (r,outs)=>if outs.length=ls.length then some ((He s (ls.map (·.1)) outs).putO dst r)else none
    |none=>none
   else none
theorem cdL(f:am)(xs:List (ac×ab))(caps:List D)(h:E.lends f=true):Ed E pm s dst f xs caps=cl1 E pm s dst f caps (Cv E true pm s 0 xs):=by
 unfold Ed cl1;rw [h];simp only [if_true];rcases Cv E true pm s 0 xs with _|⟨as,ls⟩<;>rfl
def cl2(s:St)(dst:Option Tmp)(ls:List (AJ×D)):Option (D×List D)→Option St
 |some (r,outs)=>if outs.length=ls.length then some ((He s (ls.map (·.1)) outs).putO dst r)else none
 |none=>none
theorem A6c(f:am)(caps as:List D)(ls:List (AJ×D))(h:(EE (ls.map (·.1))&&ls.all (fun l=>pm.wr (l.1.headD 0))&&ls.all (fun l=>WZ l.2))=true):cl1 E pm s dst f caps (some (as,ls))=cl2 s dst ls (E.call f (as++caps) (ls.map (·.2))):=by
 simp only [cl1,h,if_true];rcases E.call f (as++caps) (ls.map (·.2))with _|⟨r,o⟩<;>rfl
theorem A6d(ls:List (AJ×D))(r:D)(outs:List D)(h:outs.length=ls.length):cl2 s dst ls (some (r,outs))=some ((He s (ls.map (·.1)) outs).putO dst r):=by simp [cl2,h]
end
theorem A0K(k:IntKind)(n:Int):DX (.int k n)=false:=by simp [DX]
theorem uY(b:Bool):DX (.bool b)=false:=by simp [DX]
theorem A0L(e:ab)(xs:List D):DX (.own e xs)=D5 xs:=by simp [DX]
theorem A0M(xs:List D):DX (.agg xs)=D5 xs:=by simp [DX]
theorem A0N(xs:List D):DX (.tup xs)=D5 xs:=by simp [DX]
theorem uZ:D5 []=false:=by simp [D5]
theorem iI(d:D)(ds:List D):D5 (d::ds)=(DX d||D5 ds):=by simp [D5]
theorem A0O(k:IntKind)(n:Int):DL (.int k n)=some (.int k n):=by simp [DL]
theorem uf(b:Bool):DL (.bool b)=some (.bool b):=by simp [DL]
theorem A6e(e:ab)(xs:List D):DL (.sl e xs)=some (.sl e xs):=by simp [DL]
theorem A0P(f:am)(xs:List D):DL (.clo f xs)=some (.clo f xs):=by simp [DL]
def fzM(f:List D→D):Option (List D)→Option D
 |some xs=>some (f xs)
 |none=>none
theorem A6f(f:List D→D)(xs:List D):fzM f (some xs)=some (f xs):=nr rfl
theorem jo(e:ab)(xs:List D):DL (.own e xs)=fzM (.sl e) (Cr xs):=by simp only [DL];cases Cr xs<;>rfl
theorem A0Q(xs:List D):DL (.agg xs)=fzM .agg (Cr xs):=by simp only [DL];cases Cr xs<;>rfl
theorem A0R(xs:List D):DL (.tup xs)=fzM .tup (Cr xs):=by simp only [DL];cases Cr xs<;>rfl
theorem ug:Cr []=some []:=by simp [Cr]
def fzC:Option D→Option (List D)→Option (List D)
 |some d,some ds=>some (d::ds)
 |_,_=>none
theorem A6g(d:D)(ds:List D):fzC (some d) (some ds)=some (d::ds):=nr rfl
theorem YR(d:D)(ds:List D):Cr (d::ds)=fzC (DL d) (Cr ds):=by
 simp only [Cr];cases DL d<;>cases Cr ds<;>rfl
theorem A6h(d:D):WZ d=(DL d).isSome:=nr rfl
section
variable {T:Tys} {s:St}
def fe(n:Nat):Option (D×St)→Option (D×List D)
 |none=>none
 |some (r,s')=>if WZ r&&((an n).map fun j=>s'.v (G+j)).all aM then some (r,(an n).map fun j=>s'.v (G+j))else none
theorem fiD(n:Nat)(rs:List ResultVar):TU T n rs s=fe n (Jl T s rs):=by
 unfold TU fe;rcases Jl T s rs with _|⟨r,s'⟩<;>rfl
theorem fi0(r:D):fe 0 (some (r,s))=if WZ r then some (r,[])else none:=by simp [fe]
theorem fiA(r:D):fe 1 (some (r,s))=if WZ r&&aM (s.v 100000)then some (r,[s.v 100000])else none:=by
 simp [fe,G,List.range_succ]
theorem fiB(r:D):fe 2 (some (r,s))=if WZ r&&(aM (s.v 100000)&&aM (s.v 100001))then some (r,[s.v 100000,s.v 100001])else none:=by
 simp [fe,G,List.range_succ,and_assoc]
theorem fiC(r:D):fe 3 (some (r,s))=if WZ r&&(aM (s.v 100000)&&(aM (s.v 100001)&&aM (s.v 100002)))then some (r,[s.v 100000,s.v 100001,s.v 100002])else none:=by
 simp [fe,G,List.range_succ,and_assoc]
theorem uh(e:ab)(xs:List D):aM (.own e xs)=(DL (.own e xs)).isSome:=nr rfl
theorem A6i:aM .undef=true:=nr rfl
theorem re1(r:ResultVar):Jl T s [r]=Pi T s r:=nr rfl
def reT:Option (List D×St)→Option (D×St)
 |some q=>some (.tup q.1,q.2)
 |none=>none
theorem A6j(q:List D×St):reT (some q)=some (.tup q.1,q.2):=nr rfl
theorem re2(r r':ResultVar)(rs:List ResultVar):Jl T s (r::r'::rs)=reT (JM T s (r::r'::rs)):=by
 show((JM T s (r::r'::rs)).map fun q=>(D.tup q.1,q.2))=_
 cases JM T s (r::r'::rs)<;>rfl
theorem A0S(t:Tmp):Pi T s (.tmp t)=Wd Pm.all s t (s.v t):=nr rfl
theorem A0T:JM T s []=some ([],s):=nr rfl
def rdN(T:Tys)(rs:List ResultVar):Option (D×St)→Option (List D×St)
 |some (d,s)=>(JM T s rs).map fun p=>(d::p.1,p.2)
 |none=>none
theorem A6k(rs:List ResultVar)(d:D):rdN T rs (some (d,s))=(JM T s rs).map fun p=>(d::p.1,p.2):=nr rfl
theorem uj(r:ResultVar)(rs:List ResultVar):JM T s (r::rs)=rdN T rs (Pi T s r):=by
 simp only [JM];rcases Pi T s r with _|⟨d,s'⟩<;>rfl
theorem A6l(r:Nat):Pm.all.rd r=true:=nr rfl
theorem A6m(r:Nat):Pm.all.wr r=true:=nr rfl
def bD(s:St)(dst:Option Tmp)(u:Tmp)(i:Nat):Option D→Option St
 |none=>none
 |some (.agg ys)=>I4 s dst (Ce (.agg ((an ys.length).map fun j=>CJ s [u,i] j (ys.getD j .undef))))
 |some c=>I4 s dst (Ce (CJ s [u] i c))
theorem A0U(dst:Option Tmp)(u:Tmp)(xs:List D)(i:Nat):Fv s dst (.tmp u) (.tup xs) i=bD s dst u i xs[i]? :=by
 simp only [Fv];rcases xs[i]? with _|c
 ·rfl
 ·cases c<;>first|exact Gq s dst _|rfl
theorem A0V(dst:Option Tmp)(u:Tmp)(i:Nat)(k:IntKind)(n:Int):bD s dst u i (some (.int k n))=some (s.putO dst (.int k n)):=by simp [bD,Ce,CJ,D.hasObj,I4]
theorem uk(dst:Option Tmp)(u:Tmp)(i:Nat)(b:Bool):bD s dst u i (some (.bool b))=some (s.putO dst (.bool b)):=by simp [bD,Ce,CJ,D.hasObj,I4]
theorem A0W(deep:Bool):back deep s []=s:=nr rfl
theorem bkT(t:Nat)(p:AJ)(c:D)(rest:List (AJ×D)):back true s ((t::p,c)::rest)=back true ((s.set (t::p) c).bump t) rest:=nr rfl
theorem bkF(t:Nat)(p:AJ)(c:D)(rest:List (AJ×D)):back false s ((t::p,c)::rest)=back false (s.set (t::p) c) rest:=nr rfl
theorem bkL(Ls:List AJ)(outs:List D):He s Ls outs=back true (back false s (Ls.map fun L=>(L,.undef))) (Ls.zip outs):=nr rfl
theorem A0X:EE []=true:=nr rfl
theorem ul(L:AJ)(Ls:List AJ):EE (L::Ls)=((L.isEmpty||Ls.all fun M=>M.isEmpty||(!L.isPrefixOf M&& !M.isPrefixOf L))&&EE Ls):=nr rfl
theorem ieC(a:Nat)(l:AJ):List.isEmpty (a::l)=false:=nr rfl
end
section
variable {T:Tys} {pm:Pm} {s:St}
def fl1(T:Tys)(pm:Pm)(tf:Nat→ab)(sz:Nat)(cs:List D)(i:Nat)(rest:List (Nat×ac)):Option (D×St)→Option (List D×St)
 |none=>none
 |some (d,s1)=>if d.asCells.length=sz∧i*sz+sz≤cs.length then Ec T pm tf sz s1 (C8 cs (i*sz) d.asCells) rest else none
theorem A0Y(tf:Nat→ab)(sz:Nat)(cs:List D):Ec T pm tf sz s cs []=some (cs,s):=nr rfl
theorem um(tf:Nat→ab)(sz:Nat)(cs:List D)(i:Nat)(x:ac)(rest:List (Nat×ac)):Ec T pm tf sz s cs ((i,x)::rest)=fl1 T pm tf sz cs i rest (take T pm s (tf i) x):=by
 simp only [Ec];rcases take T pm s (tf i) x with _|⟨d,s1⟩<;>rfl
theorem A6o(tf:Nat→ab)(cs:List D)(i:Nat)(rest:List (Nat×ac))(d:D)(h:d.isAgg=false):fl1 T pm tf 1 cs i rest (some (d,s))=if i+1≤cs.length then Ec T pm tf 1 s (cs.set i d) rest else none:=by
 have ha:d.asCells=[d]:=by cases d<;>first|rfl|(simp [D.isAgg]at h)
 simp only [fl1,ha,MQ,PS,Gx,KI,true_and,C8]
end
section
variable (pm:Pm) (s:St) (u:Tmp)
def XZ(pm:Pm)(u:Tmp)(d:D):Bool:= !d.hasObj||d.isObj||pm.wr u
theorem mvT:Ic pm s (.move (.tmp u))=XZ pm u (s.v u):=nr rfl
theorem uo(k:IntKind)(n:Int):XZ pm u (.int k n)=true:=by simp [XZ,D.hasObj]
theorem iJ(b:Bool):XZ pm u (.bool b)=true:=by simp [XZ,D.hasObj]
theorem A0Z(e:ab)(xs:List D):XZ pm u (.sl e xs)=true:=by simp [XZ,D.hasObj]
theorem uq(e:ab)(xs:List D):XZ pm u (.own e xs)=true:=by simp [XZ,D.isObj]
theorem A0a(L:AJ)(n m:Nat):XZ pm u (.vw L n m)=true:=by simp [XZ,D.hasObj]
theorem ut(xs:List D):XZ pm u (.tup xs)=(!Am xs||pm.wr u):=by simp [XZ,D.hasObj,D.isObj]
theorem dB(x:ac):Ic pm s (.assign x)=true:=nr rfl
theorem uu(a b c:ac):Ic pm s (.pick a b c)=true:=nr rfl
theorem iL(t:ab)(p:Array (Nat×ac)):Ic pm s (.build t p)=true:=nr rfl
theorem uw(t:ab)(x:ac):Ic pm s (.load t x)=true:=nr rfl
theorem A0b(o:BinOp)(t:ab)(x y:ac)(t':ab):Ic pm s (.binOp o t x y t')=true:=nr rfl
theorem A6p(o:UnOp)(t:ab)(x:ac):Ic pm s (.unOp o t x)=true:=nr rfl
theorem A6q(t:ab)(x:ac)(i:Nat):Ic pm s (.fieldAddr t x i)=true:=nr rfl
theorem A6r(t:ab)(x i:ac):Ic pm s (.indexAddr t x i)=true:=nr rfl
theorem A6s(x:ac)(i:Nat):Ic pm s (.extract x i)=true:=nr rfl
theorem uy(c:Call):Ic pm s (.call c)=true:=nr rfl
theorem pmR(n r w:List Nat)(x:Nat):(PmL.pm ⟨n,r,w⟩).rd x=(n.contains x|| !r.contains x):=nr rfl
theorem pmW(n r w:List Nat)(x:Nat):(PmL.pm ⟨n,r,w⟩).wr x=w.contains x:=nr rfl
section
variable {E:Env} {dst:Option Tmp} {t ty:ab}
theorem A6t(t:ab):Ib E pm s dst (.makeMap t none) ty=I4 s dst (II E.T t):=Gq s dst _
theorem yLk(v:Tmp)(ok:Bool):Ib E pm s dst (.lookup t (.tmp u) (.tmp v) ok) ty=I4 s dst (Gj E.T pm s t (.tmp u) (s.v u) (s.v v) ok):=Gq s dst _
theorem yMu(v x:Tmp):Ib E pm s none (.mapUpdate t (.tmp u) (.tmp v) (.tmp x)) ty=I8 E.T pm s t (.tmp u) (s.v u) (s.v v) (s.v x):=nr rfl
def nm1:Ty→Ty→Option (List (Nat×ab))→Option (Bool×Nat)
 | .int .i64,.int .i64,none=>some (true,2)
 |_,_,_=>none
def nmA(n:Nat):Ty→Option (Bool×Nat)
 | .int .i64=>some (true,n)
 |_=>none
def nm0(T:Tys)(t:ab):Ty→Option (Bool×Nat)
 | .int .i64=>some (false,1)
 | .struct [a,b]=>nm1 (T.ty a) (T.ty b) (T.nest t)
 | .arr n e=>nmA n (T.ty e)
 |_=>none
theorem A0c(T:Tys)(t:ab):T.nums t=nm0 T t (T.ty t):=by
 unfold Tys.nums nm0;split
 ·rename_i h;rw [h]
 ·rename_i a b h;rw [h];unfold nm1;rfl
 ·rename_i h;rw [h];unfold nmA;rfl
 ·rename_i h1 h2 h3
  cases h:T.ty t with
  |int k=>cases k<;>first|rfl|exact(h1 h).elim
  |struct fs=>
   rcases fs with _|⟨a,_|⟨b,_|⟨c,l⟩⟩⟩
   ·rfl
   ·rfl
   ·exact(h2 a b h).elim
   ·rfl
  |arr n e=>exact(h3 n e h).elim
  |_=>rfl
theorem A6v(T:Tys)(t:ab):nm0 T t (.int .i64)=some (false,1):=nr rfl
def mm1(k e:ab):Option (Bool×Nat)→Option (Bool×Nat)→Option D
 |some _,some _=>some (.mp k e [])
 |_,_=>none
def mm0(T:Tys):Ty→Option D
 | .map k e=>mm1 k e (T.nums k) (T.nums e)
 |_=>none
theorem yMm(T:Tys)(t:ab):II T t=mm0 T (T.ty t):=by
 unfold II mm0
 cases T.ty t with
 |map k e=>simp only [mm1];cases T.nums k<;>cases T.nums e<;>rfl
 |_=>rfl
theorem A6x(T:Tys)(k e:ab):mm0 T (.map k e)=mm1 k e (T.nums k) (T.nums e):=nr rfl
def lkR(ea ok:Bool)(r:AX×Bool):D:=if ok=true then .tup [M5 ea r.1,.bool r.2]else M5 ea r.1
def lk2(ea ok:Bool)(es:List (AX×AX))(en:Nat):Option AX→Option D
 |some key=>some (lkR ea ok (KJ es key en))
 |none=>none
theorem A6z(ea ok:Bool)(es:List (AX×AX))(en:Nat)(key:AX):lk2 ea ok es en (some key)=some (lkR ea ok (KJ es key en)):=nr rfl
def lk1(es:List (AX×AX))(k' e' k e:ab)(i:D)(ok:Bool):Option (Bool×Nat)→Option (Bool×Nat)→Option D
 |some (ka,kn),some (ea,en)=>if k'=k∧e'=e then lk2 ea ok es en (Gz ka kn i)else none
 |_,_=>none
def lk0(T:Tys)(es:List (AX×AX))(k' e':ab)(i:D)(ok:Bool):Ty→Option D
 | .map k e=>lk1 es k' e' k e i ok (T.nums k) (T.nums e)
 |_=>none
def lkW(T:Tys)(i:D)(ok:Bool)(ty:Ty):Option (ab×ab×List (AX×AX))→Option D
 |some (k',e',es)=>lk0 T es k' e' i ok ty
 |none=>none
theorem A71(T:Tys)(i:D)(ok:Bool)(ty:Ty)(k' e':ab)(es:List (AX×AX)):lkW T i ok ty (some (k',e',es))=lk0 T es k' e' i ok ty:=nr rfl
theorem uz(T:Tys)(x:ac)(L:AJ)(n m:Nat)(i:D)(ok:Bool):Gj T pm s t x (.vw L n m) i ok=lkW T i ok (T.ty t) (s.lookM pm L n):=by
 unfold Gj lkW lk0;simp only [PY]
 cases s.lookM pm L n with
 |none=>cases T.ty t<;>rfl
 |some q=>
  cases T.ty t with
  |map k e=>
   simp only [lk1,JK]
   cases T.nums k<;>cases T.nums e<;>try rfl
   simp only;split
   ·cases Gz _ _ i<;>rfl
   ·rfl
  |_=>rfl
theorem A72(T:Tys)(es:List (AX×AX))(k' e' k e:ab)(i:D)(ok:Bool):lk0 T es k' e' i ok (.map k e)=lk1 es k' e' k e i ok (T.nums k) (T.nums e):=nr rfl
theorem A73(es:List (AX×AX))(k e:ab)(i:D)(ok ka ea:Bool)(kn en:Nat):lk1 es k e k e i ok (some (ka,kn)) (some (ea,en))=lk2 ea ok es en (Gz ka kn i):=by simp [lk1]
theorem A0f(x:Int):Gz false 1 (.int .i64 x)=some [x]:=nr rfl
def mu2(s:St)(u:Tmp)(k e:ab)(es:List (AX×AX)):Option AX→Option AX→Option St
 |some key,some val=>some (s.set [u] (.mp k e (NV es key val)))
 |_,_=>none
theorem A75(k e:ab)(es:List (AX×AX))(key val:AX):mu2 s u k e es (some key) (some val)=some (s.set [u] (.mp k e (NV es key val))):=nr rfl
def mu1(pm:Pm)(s:St)(u:Tmp)(es:List (AX×AX))(k' e' k e:ab)(i v:D):Option (Bool×Nat)→Option (Bool×Nat)→Option St
 |some (ka,kn),some (ea,en)=>if k'=k∧e'=e∧pm.wr u=true then mu2 s u k e es (Gz ka kn i) (Gz ea en v)else none
 |_,_=>none
def mu0(T:Tys)(pm:Pm)(s:St)(u:Tmp)(es:List (AX×AX))(k' e':ab)(i v:D):Ty→Option St
 | .map k e=>mu1 pm s u es k' e' k e i v (T.nums k) (T.nums e)
 |_=>none
def muW(T:Tys)(pm:Pm)(s:St)(u:Tmp)(i v:D)(ty:Ty):Option (ab×ab×List (AX×AX))→Option St
 |some (k',e',es)=>mu0 T pm s u es k' e' i v ty
 |none=>none
theorem A77(T:Tys)(i v:D)(ty:Ty)(k' e':ab)(es:List (AX×AX)):muW T pm s u i v ty (some (k',e',es))=mu0 T pm s u es k' e' i v ty:=nr rfl
theorem A0h(T:Tys)(x:ac)(n m:Nat)(i v:D):I8 T pm s t x (.vw [u] n m) i v=muW T pm s u i v (T.ty t) (s.lookM pm [u] n):=by
 unfold I8 muW mu0;simp only [PY]
 cases s.lookM pm [u] n with
 |none=>cases T.ty t<;>rfl
 |some q=>
  cases T.ty t with
  |map k e=>
   simp only [mu1,JK]
   cases T.nums k<;>cases T.nums e<;>rfl
  |_=>rfl
theorem A78(T:Tys)(es:List (AX×AX))(k' e' k e:ab)(i v:D):mu0 T pm s u es k' e' i v (.map k e)=mu1 pm s u es k' e' k e i v (T.nums k) (T.nums e):=nr rfl
theorem A79(es:List (AX×AX))(k e:ab)(i v:D)(ka ea:Bool)(kn en:Nat)(hw:pm.wr u=true):mu1 pm s u es k e k e i v (some (ka,kn)) (some (ea,en))=mu2 s u k e es (Gz ka kn i) (Gz ea en v):=by simp [mu1,hw]
def CP(l:Cz)(k:Int):Int×Bool:=match l.find? (fun p=>p.1==k)with|some p=>(p.2,true)|none=>(0,false)
def Kn(l:Cz)(k v:Int):Cz:=match l.findIdx? (fun p=>p.1==k)with|some i=>l.set i (k,v)|none=>l++[(k,v)]
def Nn(l:Cz):List (AX×AX):=l.map fun p=>([p.1],[p.2])
theorem A0i(k e:ab):mm1 k e (some (false,1)) (some (false,1))=some (.mp k e (Nn [])):=nr rfl
theorem Np{α β:Type}(f:α→β)(p:β→Bool)(q:α→Bool)(h: ∀a,p (f a)=q a): ∀(l:List α),(l.map f).find? p=(l.find? q).map f∧(l.map f).findIdx? p=l.findIdx? q
 | []=>⟨rfl,rfl⟩
 |a::l=>by
  obtain⟨h1,h2⟩:=Np f p q h l;simp only [Ld,OZ,List.findIdx?_cons,h]
  cases q a
  ·exact⟨h1,by simp only [h2]⟩
  ·exact⟨rfl,rfl⟩
theorem dC(l:Cz)(k:Int):KJ (Nn l) [k] 1=([(CP l k).1],(CP l k).2):=by
 unfold KJ CP Nn;rw [(Np _ _ (fun p=>p.1==k) (fun p=>by simp) l).1]
 cases l.find? (fun p=>p.1==k)<;>rfl
theorem dD(l:Cz)(k v:Int):NV (Nn l) [k] [v]=Nn (Kn l k v):=by
 unfold NV Kn Nn;rw [(Np _ _ (fun p=>p.1==k) (fun p=>by simp) l).2]
 cases l.findIdx? (fun p=>p.1==k)<;>simp [List.map_set]
theorem dE(l:Cz)(c:Int):((Nn l).any fun p=>p.2==[c])=l.any fun p=>p.2==c:=by
 unfold Nn;rw [List.any_map]
 congr 1
 funext p
 simp [Function.comp]
theorem A7A(x:Int)(b:Bool):lkR false false ([x],b)= .int .i64 x:=nr rfl
theorem A7B(x:Int)(b:Bool):lkR false true ([x],b)= .tup [.int .i64 x,.bool b]:=nr rfl
theorem A7C(x y:Int)(b:Bool):lkR true true ([x,y],b)= .tup [.agg [.int .i64 x,.int .i64 y],.bool b]:=nr rfl
set_option linter.defProp false in
def A7D:=A7 @A6t (A7 @yLk (A7 @yMu (A7 @A0c (A7 @A6v (A7 @yMm (A7 @A6x (A7 @A0i (A7 @A6z (A7 @A72 (A7 @A73 (A7 @A0f (A7 @A75 (A7 @A78 (A7 @A79 (A7 @dC (A7 @dD (A7 @A7A (A7 @A7B (A7 @A71 (A7 @uz (A7 @A77 (A7 @A0h (A7 @dE (@A7C))))))))))))))))))))))))
end
end
end Dv
namespace Dv
open Go
theorem Oj(n:Int)(h: -9223372036854775808≤n∧n≤9223372036854775807):IntKind.i64.wrap n=n:=IntWalk.i64_in n h
section
variable {T:Tys} {pm:Pm} {s:St} {t:ab}
theorem PG(xs:AX)(i:Nat)(h:i<xs.length):(Fz xs)[i]? =some (.int .i64 (xs.getD i 0)):=by
 simp [Fz,Je,h]
theorem Sz(x:Int)(xs:AX):Fz (x::xs)= .int .i64 x::Fz xs:=nr rfl
variable {E:Env} {dst:Option Tmp} {ty:ab}
def A0j(e:ab)(dst:Option Tmp):Option (List D×St)→Option St
 |some (xs,s)=>some (s.putO dst (.own e xs))
 |none=>none
theorem A0k(e:ab)(xs:List D):A0j e dst (some (xs,s))=some (s.putO dst (.own e xs)):=nr rfl
def dF(dst:Option Tmp):Option (List D×St)→Option St
 |some (xs,s)=>some (s.putO dst (.agg xs))
 |none=>none
theorem A0l(xs:List D):dF dst (some (xs,s))=some (s.putO dst (.agg xs)):=nr rfl
theorem QU(T:Tys){e:ab}(hs:T.isStruct e=false):T.size e=1∧T.zeros e=[T.zero1 e]:=by
 unfold Tys.isStruct at hs;unfold Tys.size Tys.zeros
 cases hty:T.ty e<;>simp_all [Ty.isStruct,Ty.size]
def iM(E:Env)(pm:Pm)(s:St)(dst:Option Tmp)(len:Nat)(parts:Array (Nat×ac)):Ty→Option St
 | .slice e=>
   if len*E.T.size e≤4096∧E.T.known e=true then
    (Ec E.T pm (fun _=>e) (E.T.size e) s ((an (len*E.T.size e)).map fun j=>(E.T.zeros e).getD (j % E.T.size e) .undef) parts.toList).map fun r=>r.2.putO dst (.own e r.1)
   else none
 |_=>none
theorem vB(len:Nat)(parts:Array (Nat×ac)):Pd E.T pm s dst t len parts=iM E pm s dst len parts (E.T.ty t):=by
 unfold Pd iM
 cases E.T.ty t<;>rfl
theorem yBs(len:Nat)(parts:Array (Nat×ac)):Ib E pm s dst (.buildSlice t len parts) ty=if ty=900004 then fcB pm dst (iM E pm s dst len parts (E.T.ty t))else iM E pm s dst len parts (E.T.ty t):=by
 rw [QS,vB];by_cases h:ty=900004
 ·rw [if_pos h,if_pos h];unfold fcB
  cases iM E pm s dst len parts (E.T.ty t)<;>cases dst<;>rfl
 ·rw [if_neg h,if_neg h]
theorem A7E(len:Nat)(parts:Array (Nat×ac))(e:ab)(hk:E.T.known e=true)(hs:E.T.isStruct e=false)(hl:len≤4096):
  iM E pm s dst len parts (.slice e)=A0j e dst (Ec E.T pm (fun _=>e) 1 s (ao len (E.T.zero1 e)) parts.toList):=by
 obtain⟨hz,hzz⟩:=QU E.T hs
 have hrep:((an (len*1)).map fun j=>(E.T.zeros e).getD (j % 1) .undef)=ao len (E.T.zero1 e):=by
  rw [hzz];apply List.ext_getElem
  ·simp
  ·intro i h1 h2;simp [Nat.mod_one]
 simp only [iM,hz];rw [if_pos ⟨by omega,hk⟩,hrep]
 rcases Ec E.T pm (fun _=>e) 1 s (ao len (E.T.zero1 e)) parts.toList with _|⟨a,b⟩<;>rfl
def bsA(E:Env)(e:ab)(dst:Option Tmp):Option (D×St)→Option St
 |some (d,s1)=>if d.asCells.length=E.T.size e then some (s1.putO dst (.own e d.asCells))else none
 |none=>none
theorem A7G(e:ab)(xs:List D)(h:xs.length=E.T.size e):bsA E e dst (some (.agg xs,s))=some (s.putO dst (.own e xs)):=by
 show(if xs.length=E.T.size e then some (s.putO dst (.own e xs))else none)=_
 rw [if_pos h]
theorem Vr(cs ys:List D)(h:ys.length=cs.length):C8 cs 0 ys=ys:=by
 refine List.ext_getElem? fun i=> ?_;rw [FT (by omega)]
 by_cases hi:i<ys.length
 ·rw [if_pos (by omega)];rfl
 ·rw [if_neg (by omega),bj (by omega),bj (by omega)]
theorem A7H(e:ab)(x:ac)(hk:E.T.known e=true)(hs:E.T.isStruct e=true)(hz:E.T.size e≤4096):iM E pm s dst 1 #[(0,x)] (.slice e)=bsA E e dst (take E.T pm s e x):=by
 simp only [iM,Ec];rw [if_pos ⟨by omega,hk⟩]
 rcases take E.T pm s e x with _|⟨d,s1⟩
 ·rfl
 ·simp only [bsA];by_cases h:d.asCells.length=E.T.size e
  ·rw [if_pos ⟨h,by simp⟩,if_pos h,Nat.zero_mul,Vr _ _ (by simp [h])];rfl
  ·rw [if_neg (fun hc=>h hc.1),if_neg h];rfl
theorem A7I(u:Tmp)(e:ab)(L:AJ)(n m lo len:Nat):BQ pm s dst (.tmp u) (.vs e L n m lo len)=some (s.putO dst (.vs e L n m lo len)):=by
 show some (if(D.vs e L n m lo len).hasObj then(s.clr u).putO dst (.vs e L n m lo len)else s.putO dst (.vs e L n m lo len))=_
 rw [if_neg (by simp [D.hasObj])]
def bdN(E:Env)(pm:Pm)(s:St)(dst:Option Tmp)(t:ab)(parts:Array (Nat×ac)):Option St:=
 match E.T.ty t with
 | .struct fs=>if E.T.known t then dF dst (Ec E.T pm (fun i=>fs.getD i 0) 1 s (E.T.zeros t) parts.toList)else none
 |_=>none
def bd0(E:Env)(pm:Pm)(s:St)(dst:Option Tmp)(t:ab)(parts:Array (Nat×ac)):Option (List (Nat×ab))→Option St
 |some fl=>if E.T.isStruct t&&E.T.known t then dF dst (Ir E.T pm fl s (E.T.zeros t) parts.toList)else none
 |none=>bdN E pm s dst t parts
theorem vC(parts:Array (Nat×ac)):Ib E pm s dst (.build t parts) ty=bd0 E pm s dst t parts (E.T.nest t):=by
 rw [Zd];unfold bd0 bdN
 cases E.T.nest t with
 |some fl=>
  simp only;split
  ·rcases Ir E.T pm fl s (E.T.zeros t) parts.toList with _|⟨a,b⟩<;>rfl
  ·rfl
 |none=>
  simp only
  cases E.T.ty t with
  |struct fs=>
   simp only;split
   ·rcases Ec E.T pm (fun i=>fs.getD i 0) 1 s (E.T.zeros t) parts.toList with _|⟨a,b⟩<;>rfl
   ·rfl
  |_=>rfl
def bdT(E:Env)(pm:Pm)(s:St)(dst:Option Tmp)(t:ab)(parts:Array (Nat×ac)):Ty→Option St
 | .struct fs=>if E.T.known t then dF dst (Ec E.T pm (fun i=>fs.getD i 0) 1 s (E.T.zeros t) parts.toList)else none
 |_=>none
theorem A7K(parts:Array (Nat×ac)):bd0 E pm s dst t parts none=bdT E pm s dst t parts (E.T.ty t):=by
 show bdN E pm s dst t parts=_
 unfold bdN bdT
 cases E.T.ty t<;>rfl
theorem A7L(parts:Array (Nat×ac))(fs:List ab)(hk:E.T.known t=true):bdT E pm s dst t parts (.struct fs)=dF dst (Ec E.T pm (fun i=>fs.getD i 0) 1 s (E.T.zeros t) parts.toList):=by
 simp [bdT,hk]
theorem fnA(ds:List D):(D.agg ds).asCells=ds:=nr rfl
theorem fnI(k:IntKind)(n:Int):(D.int k n).asCells=[.int k n]:=nr rfl
theorem fnO(e:ab)(xs:List D):(D.own e xs).asCells=[.own e xs]:=nr rfl
def xR(T:Tys)(n:Int):Ty→Option D
 | .slice e=>if 0≤n∧n<1099511627776∧T.elem e=true then
   if T.isStruct e=true then some (.own e (ao n.toNat (T.zeros e)).flatten)
   else if T.size e=1 then some (.own e (ao n.toNat (T.zero1 e)))else none
  else none
 |_=>none
theorem yMk(n:Int):DZ T t (.int .i64 n) (.int .i64 n)=xR T n (T.ty t):=by
 unfold DZ xR
 cases T.ty t<;>simp
def iO(T:Tys)(q:Int):Ty→Option D
 | .slice e=>if 0≤q∧q<1099511627776∧T.elem e=true then
   if T.isStruct e=true then some (.own e [])
   else if T.size e=1 then some (.own e [])else none
  else none
 |_=>none
theorem A7M(q:Int):DZ T t (.int .i64 0) (.int .i64 q)=iO T q (T.ty t):=by
 unfold DZ iO
 cases T.ty t<;>simp
theorem A0m(q:Int)(e:ab)(hk:T.known e=true)(h4:T.size e≤4)(h0:0≤q)(hn:q<1099511627776):iO T q (.slice e)=some (.own e []):=by
 simp only [iO];rw [if_pos ⟨h0,hn,PE hk h4⟩];by_cases hs:T.isStruct e=true
 ·rw [if_pos hs]
 ·obtain⟨hz,_⟩:=QU T (by simpa using hs)
  rw [if_neg hs,if_pos hz]
theorem A7N(n:Int)(e:ab)(hk:T.known e=true)(h4:T.size e≤4)(hs:T.isStruct e=false)(h0:0≤n)(hn:n<1099511627776):xR T n (.slice e)=some (.own e (ao n.toNat (T.zero1 e))):=by
 obtain⟨hz,_⟩:=QU T hs;simp only [xR];rw [if_pos ⟨h0,hn,PE hk h4⟩,if_neg (by rw [hs];decide),if_pos hz]
theorem A7O(n:Int)(e:ab)(hk:T.known e=true)(h4:T.size e≤4)(hs:T.isStruct e=true)(h0:0≤n)(hn:n<1099511627776):xR T n (.slice e)=some (.own e (ao n.toNat (T.zeros e)).flatten):=by
 simp only [xR];rw [if_pos ⟨h0,hn,PE hk h4⟩,if_pos hs]
end
end Dv
namespace Dv
open Go
def fq(n:Int):Prop:= -9223372036854775808≤n∧n≤9223372036854775807
theorem vD{n:Int}(h:(Lit.int .i64 n).wf=true):fq n:=by
 have h1:IntKind.i64.min= -9223372036854775808:=by decide
 have h2:IntKind.i64.max=9223372036854775807:=by decide
 simp only [Lit.wf,h1,h2,ED,decide_eq_true_eq]at h;exact h
section
variable {T:Tys} {t e:ab} {d:D}
theorem Nq{ds:List D}(ht:T.ty t= .int .i64)(h:Shp T t ds): ∃n,ds=[.int .i64 n]∧fq n:=by
 cases h with
 |int ht' hw=>rw [ht]at ht';injection ht' with ht';subst ht';exact⟨_,rfl,vD hw⟩
 |bool ht'=>rw [ht]at ht';cases ht'
 |string ht'=>rw [ht]at ht';cases ht'
 |slice ht'=>rw [ht]at ht';cases ht'
 |struct ht'=>rw [ht]at ht';cases ht'
theorem QV{ds:List D}(ht:T.ty t= .slice e)(h:Shp T t ds): ∃xss:List (List D),ds=[.sl e xss.flatten]∧(∀xs,xs∈xss→Shp T e xs)∧xss.length≤maxLen:=by
 cases h with
 |int ht' hw=>rw [ht]at ht';cases ht'
 |bool ht'=>rw [ht]at ht';cases ht'
 |string ht' hs=>rw [ht]at ht';cases ht'
 |slice ht' hx hl=>rw [ht]at ht';injection ht' with ht';subst ht';exact⟨_,rfl,hx,hl⟩
 |struct ht'=>rw [ht]at ht';cases ht'
theorem T9{fs:List ab}{ds:List D}(ht:T.ty t= .struct fs)(h:Shp T t ds):ds.length=fs.length∧ ∀(i:Nat) (f:ab) (d:D),fs[i]? =some f→ds[i]? =some d→Shp T f [d]:=by
 cases h with
 |int ht' hw=>rw [ht]at ht';cases ht'
 |bool ht'=>rw [ht]at ht';cases ht'
 |string ht' hs=>rw [ht]at ht';cases ht'
 |slice ht' hx hl=>rw [ht]at ht';cases ht'
 |struct ht' hl hx=>rw [ht]at ht';injection ht' with ht';subst ht';exact⟨hl,hx⟩
def vE(xs:AX):Prop:=xs.length≤maxLen∧ ∀x∈xs,fq x
theorem U4{ds:List D}(ht:T.ty t= .slice e)(he:T.ty e= .int .i64)(h:Shp T t ds): ∃xs,ds=[.sl e (Fz xs)]∧vE xs:=by
 obtain⟨xss,rfl,hx,hl⟩:=QV ht h
 have: ∀xss:List (List D),(∀xs,xs∈xss→Shp T e xs)→ ∃ys,xss.flatten=Fz ys∧ys.length=xss.length∧ ∀y∈ys,fq y:=by
  intro xss
  induction xss with
  |nil=>intro _;exact⟨[],rfl,rfl,by simp⟩
  |cons xs xss ih=>
   intro hx;obtain⟨n,rfl,hn⟩:=Nq he (hx xs (JJ));obtain⟨ys,h1,h2,h3⟩:=ih (fun q hq=>hx q (Hw _ hq))
   refine⟨n::ys,by rw [Wl,h1];rfl,by simp [h2],fun y hy=> ?_⟩
   rcases M4.1 hy with rfl|hy
   ·exact hn
   ·exact h3 y hy
 obtain⟨ys,h1,h2,h3⟩:=this xss hx
 exact⟨ys,by rw [h1],by omega,h3⟩
theorem TA{fs:List ab}(ht:T.ty t= .struct fs)(h:xk T t d): ∃ds,d= .agg ds∧ds.length=fs.length∧ ∀(i:Nat) (f:ab) (d:D),fs[i]? =some f→ds[i]? =some d→Shp T f [d]:=by
 obtain⟨ds,hs,rfl⟩:=h;obtain⟨h1,h2⟩:=T9 ht hs
 exact⟨ds,by simp [top,Tys.isStruct,ht,Ty.isStruct],h1,h2⟩
end
theorem trodAll_len{H:Type}{enc:ab×Value→H}{P:Program}{w:World}{base:Nat}{spare:Nat→Bool}{Zb:Bool}: ∀ {ts:List ab} {vs:List Value} {ds:List (DataW H)} {ps:List MemPlace},
  DataW.TrodAll enc P w base spare Zb ts vs ds ps→ds.length=ts.length∧vs.length=ts.length:=by
 intro ts
 induction ts with
 |nil=>intro vs ds ps h;cases vs<;>cases ds<;>simp [DataW.TrodAll]at h;exact⟨rfl,rfl⟩
 |cons t ts ih=>
  intro vs ds ps h
  cases vs with
  |nil=>cases ds<;>simp [DataW.TrodAll]at h
  |cons v vs=>
   cases ds with
   |nil=>simp [DataW.TrodAll]at h
   |cons d ds=>
    simp only [DataW.TrodAll]at h;obtain⟨p,q,h1,h2,_⟩:=h;obtain⟨e1,e2⟩:=ih h2
    exact⟨by simp [e1],by simp [e2]⟩
end Dv
namespace Dv
open Go
section
variable {E:Env} {T:Tys} {pm:Pm} {s:St} {dst:Option Tmp} {ty t:ab}
def iP(T:Tys)(t:ab)(dst:Option Tmp):Option (D×St)→Option St
 |some (d,s1)=>if T.isStruct t==d.isAgg then some (s1.putO dst (.box d.asCells))else none
 |none=>none
def aN(E:Env)(pm:Pm)(s:St)(t:ab)(x:ac)(dst:Option Tmp):D→Option St
 | .agg ds=>if Am ds then iP E.T t dst (take E.T pm s t x)else(if E.T.isStruct t then some (s.putO dst (.box ds))else none)
 |_=>iP E.T t dst (take E.T pm s t x)
theorem vF(u:Tmp):KU E.T pm s dst t (.tmp u)=aN E pm s t (.tmp u) dst (s.v u):=by
 rw [bu]
 cases hk:PZ (ev E.T s t (.tmp u))with
 |some ds=>
  simp only [ev]at hk
  cases hv:s.v u<;>rw [hv]at hk<;>simp only [PZ]at hk<;>try (cases hk;done)
  split at hk
  ·cases hk
  ·rename_i ho
   simp only [al]at hk;subst hk;simp only [aN,ho];rfl
 |none=>
  have hold:aN E pm s t (.tmp u) dst (s.v u)=iP E.T t dst (take E.T pm s t (.tmp u)):=by
   simp only [ev]at hk
   cases hv:s.v u<;>try rfl
   rw [hv]at hk;simp only [PZ]at hk
   split at hk
   ·rename_i ho;simp only [aN,ho,if_true]
   ·cases hk
  rw [hold];simp only;rcases take E.T pm s t (.tmp u)with _|⟨d,s1⟩<;>rfl
theorem A7P(u:Tmp):Ib E pm s dst (.box t (.tmp u)) ty=if ty=900003 then fZ pm dst (aN E pm s t (.tmp u) dst (s.v u))else aN E pm s t (.tmp u) dst (s.v u):=by
 rw [gp,vF];by_cases h:ty=900003
 ·rw [if_pos h,if_pos h];unfold fZ
  cases aN E pm s t (.tmp u) dst (s.v u)<;>cases dst<;>rfl
 ·rw [if_neg h,if_neg h]
theorem bkK(x:ac)(ds:List D)(hs:E.T.isStruct t=true):aN E pm s t x dst (.agg ds)=if Am ds then iP E.T t dst (take E.T pm s t x)else some (s.putO dst (.box ds)):=by simp [aN,hs]
theorem A0n(x:ac)(k:IntKind)(n:Int):aN E pm s t x dst (.int k n)=iP E.T t dst (take E.T pm s t x):=nr rfl
theorem A7Q(x:ac)(e:ab)(xs:List D):aN E pm s t x dst (.sl e xs)=iP E.T t dst (take E.T pm s t x):=nr rfl
theorem vG(x:ac)(xs:List D):aN E pm s t x dst (.cptr xs)=iP E.T t dst (take E.T pm s t x):=nr rfl
theorem A7R(d:D)(hs:T.isStruct t=false)(hd:d.isAgg=false):iP T t dst (some (d,s))=some (s.putO dst (.box [d])):=by
 have:d.asCells=[d]:=by cases d<;>first|rfl|(simp [D.isAgg]at hd)
 simp [iP,hs,hd,this]
def fa1(L:AJ)(i n m:Nat):Option D→Option D
 |some _=>some (.pe L i n m)
 |none=>none
theorem A7S(L:AJ)(i n m:Nat)(d:D):fa1 L i n m (some d)=some (.pe L i n m):=nr rfl
def xS(T:Tys)(pm:Pm)(s:St)(t:ab)(x:ac)(d:D):Option Nat→Option D
 |none=>none
 |some j=>
  if T.isStruct t then
   match d with
   | .box _=>match x with| .tmp u=>some (.pe [u] j (s.k u) (s.m u))|_=>none
   | .vw L n m=>match s.look pm L n m with|some (.box _)=>some (.pe L j n m)|_=>none
   | .pe L c n m=>match s.look pm L n m with|some _=>some (.pe L (c+j) n m)|none=>none
   | .cptr xs=>some (.cptr (xs.drop j))
   |_=>none
  else none
theorem faE(x:ac)(d:D)(i:Nat):Du T pm s t x d i=xS T pm s t x d (T.foff t i):=by
 unfold Du xS
 cases T.foff t i<;>rfl
theorem foN(i:Nat)(hn:T.nest t=none)(hi:i<T.size t):T.foff t i=some i:=by simp [Tys.foff,hn,hi]
theorem A0o(u:Tmp)(xs:List D)(i:Nat)(hs:T.isStruct t=true):xS T pm s t (.tmp u) (.box xs) (some i)=some (.pe [u] i (s.k u) (s.m u)):=by simp [xS,hs]
theorem A7T(x:ac)(L:AJ)(c n m i:Nat)(hs:T.isStruct t=true):xS T pm s t x (.pe L c n m) (some i)=fa1 L (c+i) n m (s.look pm L n m):=by
 simp only [xS,hs,if_true]
 cases s.look pm L n m<;>rfl
theorem A7U(L:AJ)(c n:Nat)(y:D)(ys:List D):cellsOf s L c n (some (D.box (y::ys)))=if c+n≤(D.box (y::ys)).cells.length then Ce (.agg ((an n).map fun i=>CJ s L (c+i) ((D.box (y::ys)).cells.getD (c+i) .undef)))else none:=nr rfl
theorem A7V(L:AJ)(c n:Nat)(e:ab)(ys:List D):cellsOf s L c n (some (D.own e ys))=if c+n≤(D.own e ys).cells.length then Ce (.agg ((an n).map fun i=>CJ s L (c+i) ((D.own e ys).cells.getD (c+i) .undef)))else none:=nr rfl
variable {α:Type} (f:Nat→α)
theorem A7W:(an 14).map f=[f 0,f 1,f 2,f 3,f 4,f 5,f 6,f 7,f 8,f 9,f 10,f 11,f 12,f 13]:=nr rfl
theorem rg2:(an 2).map f=[f 0,f 1]:=nr rfl
theorem rg3:(an 3).map f=[f 0,f 1,f 2]:=nr rfl
theorem rg4:(an 4).map f=[f 0,f 1,f 2,f 3]:=nr rfl
theorem A0p(L:AJ)(c:Nat)(k:IntKind)(n:Int):CJ s L c (.int k n)= .int k n:=nr rfl
theorem A7X(L:AJ)(c:Nat)(e:ab)(xs:List D):CJ s L c (.sl e xs)= .sl e xs:=nr rfl
theorem A0q(L:AJ)(c:Nat)(e:ab)(xs:List D):CJ s L c (.own e xs)=aL s (L++[c]):=nr rfl
theorem A7Y(L:AJ)(c:Nat)(M:AJ)(n m:Nat):CJ s L c (.vw M n m)= .vw M n m:=nr rfl
theorem noA(xs:List D):Ce (.agg xs)=if Am xs then none else some (.agg xs):=by simp only [Ce,D.hasObj];rfl
theorem A0r(k:IntKind)(n:Int):Ce (.int k n)=some (.int k n):=by simp [Ce,D.hasObj]
theorem A7Z(e:ab)(xs:List D):Ce (.sl e xs)=some (.sl e xs):=by simp [Ce,D.hasObj]
theorem A7a(L:AJ)(n m:Nat):Ce (.vw L n m)=some (.vw L n m):=by simp [Ce,D.hasObj]
theorem dl2(a b:Nat)(l:AJ):List.dropLast (a::b::l)=a::List.dropLast (b::l):=nr rfl
theorem dl1(a:Nat):List.dropLast [a]=[]:=nr rfl
theorem Xa: ∀(ds xs:List D),xs.length=ds.length→C8 xs 0 ds=ds:=by
 have key: ∀(ds pre xs:List D),xs.length=ds.length→C8 (pre++xs) pre.length ds=pre++ds:=by
  intro ds
  induction ds with
  |nil=>intro pre xs h;simp at h;subst h;rfl
  |cons d ds ih=>
   intro pre xs h
   cases xs with
   |nil=>simp at h
   |cons x xs=>
    simp only [C8];have:=ih (pre++[d]) xs (by simpa using h)
    simpa using this
 intro ds xs h;simpa using key ds [] xs h
def sw1(T:Tys)(pm:Pm)(t:ab)(u:Tmp)(ds:List D)(s:St):D→Option St
 | .box xs=>if T.known t&&T.isStruct t&&pm.wr u&&ds.all Cn&&(T.size t==ds.length)&&(xs.length==ds.length)then(if Am ds||Am xs then some ((s.set [u] (.box ds)).bump u)else some (s.set [u] (.box ds)))else Uj T pm t (.tmp u) (some (.agg ds,s))
 |_=>Uj T pm t (.tmp u) (some (.agg ds,s))
theorem A7b(u:Tmp)(ds:List D):Uj T pm t (.tmp u) (some (.agg ds,s))=sw1 T pm t u ds s (s.v u):=by
 cases hv:s.v u<;>simp only [sw1]
 rename_i xs
 split
 ·rename_i hc
  simp only [ED,beq_iff_eq]at hc;obtain⟨⟨⟨⟨⟨hk,hs⟩,hw⟩,hd⟩,hz⟩,hl⟩:=hc;have hz':T.size t≤xs.length:=by omega
  simp only [Uj,ev,hv,GA,D.asCells,D.isAgg,D.cells,D.withCells,hk,hs,hw,hd,hz,RX,beq_self_eq_true,Bool.and_self,Gx,D.hasObj];rw [Xa ds xs hl];have h2:ds.length≤xs.length:=by omega
  simp only [h2,decide_true,Bool.and_self,if_true]
  split<;>first|rfl|(rename_i hq;simp only [hq];rfl)
 ·rfl
theorem A7c(u:Tmp)(ds xs:List D)(hk:T.known t=true)(hs:T.isStruct t=true)(hw:pm.wr u=true)(hd:ds.all Cn=true)(hz:T.size t=ds.length)(hl:xs.length=ds.length):
  sw1 T pm t u ds s (.box xs)=if Am ds||Am xs then some ((s.set [u] (.box ds)).bump u)else some (s.set [u] (.box ds)):=by
 simp [sw1,hk,hs,hw,hd,hz,hl]
def rc1(T:Tys)(s:St)(t:Tmp)(ty:ab):D→Option (D×St)
 | .box xs=>if T.isStruct ty then(if xs.length=T.size ty then zX (Dj Pm.all (s.clr t) xs)else none)else(match xs with| [d]=>CG Pm.all (s.clr t) d|_=>none)
 | .cptr xs=>if T.isStruct ty then(if xs.length=T.size ty then some (.agg xs,s)else none)else(match xs with| [d]=>some (d,s)|_=>none)
 |_=>none
theorem vH(u:Tmp)(hk:T.known ty=true):Pi T s (.cell u ty)=rc1 T s u ty (s.v u):=by
 simp only [Pi,hk,if_true,rc1]
 cases s.v u with
 |box xs=>
  simp only;split
  ·split
   ·cases Dj Pm.all (s.clr u) xs<;>rfl
   ·rfl
  ·rfl
 |_=>rfl
theorem A7d(u:Tmp)(xs:List D)(hs:T.isStruct ty=true)(hl:xs.length=T.size ty):rc1 T s u ty (.box xs)=zX (Dj Pm.all (s.clr u) xs):=by simp [rc1,hs,hl]
def cp1(pm:Pm)(s:St)(u:Tmp)(rest:List ac):D→Option (List D×St)
 | .box xs=>match Cr xs with
  |some ys=>if pm.wr u then(JF pm (s.set [u] (.cptr ys)) rest).map fun r=>(.cptr ys::r.1,r.2)else none
  |none=>none
 | .cptr ys=>(JF pm s rest).map fun r=>(.cptr ys::r.1,r.2)
 |_=>none
theorem A0t:JF pm s []=some ([],s):=nr rfl
theorem A0u(u:Tmp)(rest:List ac):JF pm s (.tmp u::rest)=cp1 pm s u rest (s.v u):=by
 simp only [JF]
 cases s.v u<;>rfl
def cp2(pm:Pm)(s:St)(u:Tmp)(rest:List ac):Option (List D)→Option (List D×St)
 |some ys=>if pm.wr u then(JF pm (s.set [u] (.cptr ys)) rest).map fun r=>(.cptr ys::r.1,r.2)else none
 |none=>none
theorem A7g(u:Tmp)(rest:List ac)(xs:List D):cp1 pm s u rest (.box xs)=cp2 pm s u rest (Cr xs):=by
 simp only [cp1];cases Cr xs<;>rfl
theorem A7h(u:Tmp)(rest:List ac)(ys:List D)(hw:pm.wr u=true):cp2 pm s u rest (some ys)=(JF pm (s.set [u] (.cptr ys)) rest).map fun r=>(.cptr ys::r.1,r.2):=by simp [cp2,hw]
def clN(E:Env)(pm:Pm)(s:St)(dst:Option Tmp)(args:Array ac)(ts:Array ab):D→Option St
 | .clo f caps=>if args.size=ts.size then Ed E pm s dst f (args.toList.zip ts.toList) caps else none
 | .ocl false f caps=>if args.size=ts.size then K8 E pm s dst f (args.toList.zip ts.toList) caps else none
 |_=>none
theorem vI(u:Tmp)(args:Array ac)(ts:Array ab):Ib E pm s dst (.call ⟨.value (.tmp u),args,ts⟩) ty=clN E pm s dst args ts (s.v u):=by
 rw [Zf];cases s.v u<;>first|rfl|(rename_i b _ _;cases b<;>rfl)
theorem A7j(args:Array ac)(ts:Array ab)(f':am)(caps:List D)(h:args.size=ts.size):clN E pm s dst args ts (.clo f' caps)=Ed E pm s dst f' (args.toList.zip ts.toList) caps:=by simp [clN,h]
def mf0(f:am)(dst:Option Tmp):Option (List D×St)→Option St
 |some r=>some (r.2.putO dst (.clo f r.1))
 |none=>none
theorem A7k(g:am)(xs:List D):mf0 g dst (some (xs,s))=some (s.putO dst (.clo g xs)):=nr rfl
def mfV(f:am)(dst:Option Tmp):Option (List D×St)→Option St
 |some r=>some (r.2.putO dst (.ocl false f r.1))
 |none=>none
theorem yMf(g:am)(captured:Array ac):Ib E pm s dst (.makeFunc (.func g) #[] captured) ty=if ty<3000000 then mf0 g dst (JF pm s captured.toList)else mfV g dst (TR pm s (ty-3000000) captured.toList):=by
 rw [U1];simp only [List.isEmpty_toArray,List.isEmpty_nil,if_true];by_cases h:ty<3000000
 ·rw [if_pos h,if_pos h]
  cases JF pm s captured.toList<;>rfl
 ·rw [if_neg h,if_neg h]
  cases TR pm s (ty-3000000) captured.toList<;>rfl
def oaJ(a:D)(l:List (AJ×D)):Option (List D×List (AJ×D))→Option (List D×List (AJ×D))
 |some r=>some (a::r.1,l++r.2)
 |none=>none
def bn1(dflt:Nat):Option D→Option Nat
 |some (.int _ n)=>if 0≤n then some n.toNat else none
 |_=>none
theorem bnN(n:Nat):Li T s n none=some n:=nr rfl
theorem bnS(n:Nat)(x:ac):Li T s n (some x)=bn1 n (ev T s 0 x):=by
 simp only [Li];rcases ev T s 0 x with _|d
 ·rfl
 ·cases d<;>rfl
theorem A7n(n:Nat)(k:IntKind)(i:Int)(h:0≤i):bn1 n (some (.int k i))=some i.toNat:=by simp [bn1,h]
def sl0(T:Tys)(pm:Pm)(s:St)(x:ac)(d:D)(lo hi mx:Option ac):Ty→Option (D×St)
 | .slice e'=>match Cs pm s x d with
  |none=>none
  |some (e,xs,o)=>
   match Li T s 0 lo,Li T s (T.len e xs) hi with
   |some l,some h=>
    if e'=e∧T.known e=true∧l≤h∧h≤T.len e xs then
     if mx.isSome then
      match Li T s 0 mx with
      |some q=>if l=h∧h=q∧hi.isSome=true then some (.own e [],s)else none
      |none=>none
     else match o with
      |none=>some (.sl e ((xs.take (h*T.size e)).drop (l*T.size e)),s)
      |some (L,va,vb)=>
       if pm.wr (L.headD 0)then
        match Cr xs with
        |some ys=>some (.sl e ((ys.take (h*T.size e)).drop (l*T.size e)),s.set L (.sl e ys))
        |none=>none
       else PX L va vb e l h s
    else none
   |_,_=>none
 | .string=>match d with
  | .str b=>match Li T s 0 lo,Li T s b.size hi with
   |some l,some h=>if l≤h∧h≤b.size∧mx.isNone then some (.str (b.extract l h),s)else none
   |_,_=>none
  |_=>none
 |_=>none
theorem slT(x:ac)(d:D)(lo hi mx:Option ac):Fq T pm s t x d lo hi mx=sl0 T pm s x d lo hi mx (T.ty t):=by
 unfold Fq sl0
 cases T.ty t<;>first|rfl|(cases d<;>rfl)
def vJ(T:Tys)(pm:Pm)(s:St)(e:ab)(xs:List D)(o:Option (AJ×Nat×Nat)):Option Nat→Option Nat→Option (D×St)
 |some l,some h=>
  if l≤h∧h≤xs.length then
   match o with
   |none=>some (.sl e ((xs.take h).drop l),s)
   |some (L,va,vb)=>
    if pm.wr (L.headD 0)then
     match Cr xs with
     |some ys=>some (.sl e ((ys.take h).drop l),s.set L (.sl e ys))
     |none=>none
    else PX L va vb e l h s
  else none
 |_,_=>none
def sl2(T:Tys)(pm:Pm)(s:St)(e':ab)(lo hi:Option ac):Option (ab×List D×Option (AJ×Nat×Nat))→Option (D×St)
 |some (e,xs,o)=>if e'=e∧T.known e=true then vJ T pm s e xs o (Li T s 0 lo) (Li T s xs.length hi)else none
 |none=>none
theorem A7o(x:ac)(d:D)(lo hi:Option ac)(e:ab)(hz:T.isStruct e=false):sl0 T pm s x d lo hi none (.slice e)=sl2 T pm s e lo hi (Cs pm s x d):=by
 have h1:=JZ hz;simp only [sl0,sl2,Option.isSome_none,H5,if_false];rcases Cs pm s x d with _|⟨e',xs,o⟩
 ·rfl
 ·simp only;by_cases he:e=e'
  ·subst he;simp only [true_and,h1,KI,Tys.len,if_true]
   cases Li T s 0 lo<;>cases Li T s xs.length hi<;>simp only [vJ]<;>(by_cases hk:T.known e=true<;>simp [hk])
  ·simp only [he,false_and,if_false]
   cases Li T s 0 lo<;>cases Li T s (T.len e' xs) hi<;>rfl
theorem A7p(e:ab)(lo hi:Option ac)(xs:List D)(o:Option (AJ×Nat×Nat))(hk:T.known e=true):sl2 T pm s e lo hi (some (e,xs,o))=vJ T pm s e xs o (Li T s 0 lo) (Li T s xs.length hi):=by simp [sl2,hk]
theorem A7q(e:ab)(xs:List D)(l h:Nat)(h1:l≤h)(h2:h≤xs.length):vJ T pm s e xs none (some l) (some h)=some (.sl e ((xs.take h).drop l),s):=by simp [vJ,h1,h2]
def sl3(pm:Pm)(s:St)(e:ab)(L:AJ)(a b l h:Nat)(o:Option (List D)):Option (D×St):=
 if pm.wr (L.headD 0)then
  match o with
  |some ys=>some (.sl e ((ys.take h).drop l),s.set L (.sl e ys))
  |none=>none
 else PX L a b e l h s
theorem A7s(e:ab)(xs:List D)(L:AJ)(a b l h:Nat)(h1:l≤h)(h2:h≤xs.length):vJ T pm s e xs (some (L,a,b)) (some l) (some h)=sl3 pm s e L a b l h (Cr xs):=by
 simp only [vJ,h1,h2,and_self,if_true];rfl
theorem A7t(e:ab)(L:AJ)(a b l h:Nat)(o:Option (List D))(hw:pm.wr (L.headD 0)=false):sl3 pm s e L a b l h o=some (.vs e L a b l (h-l),s):=by simp only [sl3];rw [if_neg (by rw [hw];decide)];rfl
theorem A0v(r:Nat):pm.see.rd r=pm.rd r:=nr rfl
theorem A0w(r:Nat):pm.see.wr r=false:=nr rfl
theorem A7u(u:Tmp):xU pm (.tmp u)=pm.wr u:=nr rfl
def ct2(e:ab)(xs:List D)(s1:St):Option Nat→Option (D×St)
 |some h=>if h≤xs.length then some (.own e (xs.take h),s1)else none
 |none=>none
def ct1(T:Tys)(s:St)(e':ab)(hi:Option ac):Option (D×St)→Option (D×St)
 |some (.own e xs,s1)=>
  match Li T s (T.len e xs) hi with
  |some h=>if e'=e∧T.known e=true∧h≤T.len e xs then some (.own e (xs.take (h*T.size e)),s1)else none
  |none=>none
 |_=>none
def ct0(T:Tys)(pm:Pm)(s:St)(t:ab)(x:ac)(hi:Option ac):Ty→Option (D×St)
 | .slice e=>ct1 T s e hi (if xU pm x then take T pm s t x else none)
 |_=>none
theorem ctT(x:ac)(hi:Option ac):KS T pm s t x hi=ct0 T pm s t x hi (T.ty t):=by
 unfold KS ct0 ct1
 cases T.ty t<;>rfl
theorem A7v(x:ac)(hi:Option ac)(e:ab)(hw:xU pm x=true):ct0 T pm s t x hi (.slice e)=ct1 T s e hi (take T pm s t x):=by
 unfold ct0;rw [if_pos hw]
theorem A7w(hi:Option ac)(e:ab)(xs:List D)(s1:St)(hk:T.known e=true)(hz:T.isStruct e=false):ct1 T s e hi (some (.own e xs,s1))=ct2 e xs s1 (Li T s xs.length hi):=by
 have h1:=JZ hz;simp only [ct1,hk,true_and,h1,KI,Tys.len,if_true]
 cases Li T s xs.length hi<;>rfl
theorem A7x(e:ab)(xs:List D)(s1:St)(h:Nat)(hle:h≤xs.length):ct2 e xs s1 (some h)=some (.own e (xs.take h),s1):=by
 show(if h≤xs.length then some (D.own e (xs.take h),s1)else none)=_
 rw [if_pos hle]
def ca0(f:am):Option (List D×List (AJ×D))→Option (D×List (AJ×D))
 |some r=>some (.clo f r.1,r.2)
 |none=>none
theorem A7z(f:am)(cs:List D)(ls:List (AJ×D)):ca0 f (some (cs,ls))=some (.clo f cs,ls):=nr rfl
def ca2(pm:Pm)(s:St)(L:AJ)(c:D)(rest:List D):Option D→Option (List D×List (AJ×D))
 |some c'=>oaJ c' [(L,c)] (IV pm s rest)
 |none=>none
theorem A80(L:AJ)(c:D)(rest:List D)(c':D):ca2 pm s L c rest (some c')=oaJ c' [(L,c)] (IV pm s rest):=nr rfl
def ca1(pm:Pm)(s:St)(L:AJ)(rest:List D):Option D→Option (List D×List (AJ×D))
 |some c=>ca2 pm s L c rest (DL c)
 |none=>none
theorem A82(L:AJ)(rest:List D)(c:D):ca1 pm s L rest (some c)=ca2 pm s L c rest (DL c):=nr rfl
theorem caN:IV pm s []=some ([],[]):=nr rfl
theorem caV(L:AJ)(n m:Nat)(rest:List D):IV pm s (.vw L n m::rest)=ca1 pm s L rest (s.look pm L n m):=by
 rw [IV]
 cases s.look pm L n m with
 |none=>rfl
 |some c=>
  simp only [ca1,ca2]
  cases DL c with
  |none=>rfl
  |some c'=>simp only [EM];rcases IV pm s rest with _|⟨a,b⟩<;>rfl
theorem caC(ys rest:List D):IV pm s (.cptr ys::rest)=oaJ (.cptr ys) [] (IV pm s rest):=by
 rw [IV];rcases IV pm s rest with _|⟨a,b⟩<;>rfl
theorem A0y(T:Tys)(L0:AJ)(j:Nat)(f:am)(caps:List D):Im T false pm s j L0 (.ocl false f caps)=ca0 f (IV pm s caps):=by
 show(if(false||false)=true then none else(IV pm s caps).map fun r=>(D.clo f r.1,r.2))=_
 rw [if_neg (by decide)]
 unfold ca0;rcases IV pm s caps with _|⟨a,b⟩<;>rfl
def va1(T:Tys)(e:ab)(L:AJ)(lo len:Nat):Option D→Option (D×List (AJ×D))
 |some (.own e' xs)=>
  if e'=e∧T.known e=true∧(lo+len)*T.size e≤xs.length then
   (Cr xs).map fun ys=>(.sl e ((ys.drop (lo*T.size e)).take (len*T.size e)),[(L,.own e' xs)])
  else none
 |_=>none
theorem A83(e:ab)(L L0:AJ)(n m lo len j:Nat):Im T false pm s j L0 (.vs e L n m lo len)=va1 T e L lo len (s.look pm L n m):=by
 show SV T pm s e L n m lo len=_
 unfold SV va1;rcases s.look pm L n m with _|d
 ·rfl
 ·cases d<;>rfl
theorem vK(x:Tmp):Ib E pm s dst (.call ⟨.builtin .clear, #[.tmp x], #[t]⟩) ty=Rm dst (I7 E.T pm s t (.tmp x) (s.v x)):=JY dst _
def iQ(T:Tys)(pm:Pm)(s:St)(t:ab):Option (ab×AJ×List D×Nat×Nat)→Option (D×St)
 |some (e,L,xs,lo,len)=>
  if T.isSl t e&&T.known e&&(T.size e==1)&& !T.isStruct e&&Cn (T.zero1 e)&&pm.wr (L.headD 0)then
   some (.tup [],(s.set L (.own e (C8 xs lo (ao len (T.zero1 e))))).bump (L.headD 0))
  else none
 |none=>none
theorem A84(x:ac)(a:D):I7 T pm s t x a=iQ T pm s t (RY pm s x a):=by
 unfold I7 iQ;rcases RY pm s x a with _|⟨_,_,_,_,_⟩<;>rfl
theorem A85(e:ab)(L:AJ)(xs:List D)(lo len:Nat)(h1:T.isSl t e=true)(h2:T.known e=true)(h3:T.isStruct e=false)(h5:Cn (T.zero1 e)=true)(h7:pm.wr (L.headD 0)=true):
  iQ T pm s t (some (e,L,xs,lo,len))=some (.tup [],(s.set L (.own e (C8 xs lo (ao len (T.zero1 e))))).bump (L.headD 0)):=by
 have h8:=JZ h3;unfold iQ;dsimp only;rw [if_pos (by rw [h1,h2,h3,h5,h7,h8];simp)]
def vL(e:ab):Ty→Bool
 | .slice e'=>e'==e
 |_=>false
theorem A86(e:ab):T.isSl t e=vL e (T.ty t):=by unfold Tys.isSl vL;cases T.ty t<;>rfl
theorem A87(e e':ab):vL e (.slice e')=(e'==e):=nr rfl
def dv1(e:ab)(L:AJ)(lo len:Nat):Option D→Option (ab×AJ×List D×Nat×Nat)
 |some (.own e' xs)=>if e'=e∧lo+len≤xs.length then some (e,L,xs,lo,len)else none
 |_=>none
theorem dvS(x:ac)(e:ab)(L:AJ)(n m lo len:Nat):RY pm s x (.vs e L n m lo len)=dv1 e L lo len (s.look pm L n m):=by
 show(match s.look pm L n m with|some (.own e' xs)=>if e'=e∧lo+len≤xs.length then some (e,L,xs,lo,len)else none|_=>none)=_
 rcases s.look pm L n m with _|d
 ·rfl
 ·cases d<;>rfl
theorem A89(e:ab)(L:AJ)(lo len:Nat)(xs:List D)(h:lo+len≤xs.length):dv1 e L lo len (some (.own e xs))=some (e,L,xs,lo,len):=by simp [dv1,h]
theorem A8A(x:Tmp)(e:ab)(L:AJ)(n m lo len:Nat):C9 s dst (.tmp x) (.vs e L n m lo len)=s.putO dst (.vs e L n m lo len):=nr rfl
theorem A0z(x:Tmp)(e:ab)(L:AJ)(n m lo len:Nat):XZ pm x (.vs e L n m lo len)=true:=by simp [XZ,D.hasObj]
end
theorem Xb{P:Program}{T:Tys}{f:am}{e:ab}{r:D}{outs:List D}(hk:T.known e=true)(h: ∀A c,Good P T f [.konst (.slice A 0 c)] [] r outs):Good P T f [.sl e []] [] r outs:=by
 refine⟨(h none 0).1,fun vs gh w S FL hsz hA hL hL0 hLd hlt=> ?_⟩
 obtain⟨v,hv,hW⟩:=hA 0 _ rfl
 obtain⟨A,c,rfl⟩: ∃A c,v= .slice A 0 c:=by
  cases hW with
  |sl us hE hn hc hm hx hw=>
   rename_i A n c
   have hp:=Vi hk
   have:n=0:=by
    simp only [PS]at hn;rcases Nat.mul_eq_zero.1 hn.symm with h0|h0
    ·exact h0
    ·omega
   subst this
   exact⟨_,_,rfl⟩
 refine(h A c).2 vs gh w S FL hsz (fun i d hi=> ?_) hL hL0 hLd hlt
 cases i with
 |zero=>simp at hi;subst hi;exact⟨_,hv,.konst (fun _ h=>h)⟩
 |succ i=>simp at hi
end Dv
namespace Dv
open Go
set_option maxRecDepth 10000
set_option linter.defProp false
theorem geq:G=100000:=nr rfl
def AQ:=A7 (A7 @A5H @A5d) (A7 @vK (A7 @A5c (A7 @A5A (A7 @A5B (A7 @tL (A7 @A7P (A7 @yMf (A7 @vI (A7 @A5K (A7 @yJ (A7 @A5I (A7 @tZ (A7 @yK (A7 @yO (A7 @tq (A7 @yD (A7 @yE (A7 @A5E (A7 @tu (A7 @u6 (A7 @u7 (A7 @A5M (A7 @A5N (A7 @A5O (A7 @yP (A7 @XW (A7 @Vm (A7 @yn (A7 @iD (A7 @cu (A7 @uE (A7 @yo (A7 @yUn (A7 @uF (A7 @A5b (A7 @cz (A7 @uG (A7 @iE (A7 @uH (A7 @yw (A7 @d9 (A7 @yx (A7 @bq (A7 @Ze (A7 @Zc (A7 @vC (A7 @yBs (@U2))))))))))))))))))))))))))))))))))))))))))))))))
def dG:=A7 (A7 @A5Q (A7 @fnI (A7 @yF (A7 @yG (A7 @yH (A7 @yI (A7 @A5F @A5G))))))) (A7 @A5T (A7 A7D (A7 @A5p (A7 @zL (A7 @uL (A7 @uS (A7 @faE (A7 @foN (A7 @A7K (A7 (A7 @fnO @fnA) (A7 @A84 (A7 @A85 (A7 @uR (A7 @A68 (A7 @A69 (A7 @zI (A7 @uK (A7 @zJ (A7 @zM (A7 @zN (A7 @zO (A7 @zP (A7 @zQ (A7 @zR (A7 @zS (A7 @A7t (A7 @A0v (A7 @A0w (A7 @A7u (A7 @ctT (A7 @A7v (A7 @A7w (A7 @A7x (A7 (A7 @A83 (A7 @A0y (A7 @A7z (A7 @A82 (A7 @A80 (A7 @caN (A7 @caV @caC))))))) (A7 @A07 (A7 @A6N (A7 @A08 (A7 @A09 (A7 @A6O (A7 @A0A (A7 @A86 (A7 @A87 (A7 @dvS (A7 @A89 (A7 @A8A (A7 @A0z (A7 @A0V (A7 @uk (A7 @bkK (A7 @A0n (A7 (A7 @vG @A7Q) (A7 @xw (A7 @A5C (A7 @A5D (A7 @ndK (A7 @A5e (A7 @yt (A7 @apK (A7 @A04 (A7 @A6G (A7 @A6H (A7 @dl2 (A7 @dl1 (A7 @A0r (A7 @A7Z (A7 @A7a (A7 @A7R (A7 @A7S (A7 @A0o (A7 @A7T (A7 (A7 @A7U (A7 @A7V @A7W)) (A7 @rg2 (A7 @rg3 (A7 @rg4 (A7 @A0p (A7 @A7X (A7 @A0q (A7 @A7Y (A7 @noA (A7 @A7b (A7 @A7c (A7 @vH (A7 @A7d (A7 @A0t (A7 @A0u (A7 @A7g (A7 @A7h (A7 @A7j (A7 @A7k (A7 @bnN (A7 @bnS (A7 @A7n (A7 @slT (A7 @A7o (A7 @A7p (A7 @A7q (A7 @A7s (A7 @A0W (A7 @bkT (A7 @bkF (A7 @bkL (A7 @A0X (A7 @ul (A7 @ieC (A7 @fiA (A7 @fiB (A7 @fiC (A7 @uh (A7 @A6i (A7 @A6A (A7 @A6B (A7 @hdC (A7 @A6L (A7 @A6M (A7 @mvT (A7 @uo (A7 @iJ (A7 @A0Z (A7 @uq (A7 @A0a (A7 @ut (A7 @dB (A7 @uu (A7 @iL (A7 @uw (A7 @A0b (A7 @A6p (A7 @A6q (A7 @A6r (A7 @A6s (A7 @uy (A7 @pmR (A7 @pmW (A7 @A5J (A7 @yM (A7 @A5L (A7 @A57 (A7 @A58 (A7 @A59 (A7 @A7L (A7 @A7H (A7 @A7G (A7 @A7I (A7 @A7E (A7 (A7 @A7M @yMk) (A7 (A7 @A0m @A7N) (A7 @A7O (A7 @A0k (A7 @A0l (A7 @tN (A7 @tO (A7 @gu (A7 @tQ (A7 @yQ (A7 @uA (A7 @A5P (A7 @iC (A7 @yR (A7 @A5R (A7 @yS (A7 @yU (A7 @yV (A7 @uB (A7 @A5S (A7 @yX (A7 @yY (A7 @yZ (A7 @pkB (A7 @pkT (A7 @pkF (A7 @xn (A7 @xq (A7 @xu (A7 @A5f (A7 @A5g (A7 @A5i (A7 @yc (A7 @yf (A7 @yg (A7 @A5U (A7 @A5V (A7 @A5W (A7 @A5X (A7 @A5Y (A7 @A5Z (A7 @yh (A7 @yj (A7 @boI (A7 @boB (A7 @boA (A7 @uC (A7 @yl (A7 @ym (A7 @ldC (A7 @A5j (A7 @ldP (A7 @ldB (A7 @A5k (A7 @yz (A7 @zA (A7 @uI (A7 @uJ (A7 @zC (A7 @A5l (A7 @zD (A7 @A5m (A7 @zG (A7 @zH (A7 @lnT (A7 @A5q (A7 @zT (A7 @ixT (A7 @A5s (A7 @A5u (A7 @zU (A7 @zZ (A7 @uO (A7 @A5y (A7 @za (A7 @zb (A7 @A5z (A7 @ze (A7 @zV (A7 @zW (A7 @A5v (A7 @A5w (A7 @A5x (A7 @uN (A7 @iH (A7 @uP (A7 @YQ (A7 @hoI (A7 @hoB (A7 @zf (A7 @zg (A7 @zh (A7 @A60 (A7 @zi (A7 @A62 (A7 @zk (A7 @A64 (A7 @A65 (A7 @zm (A7 @zn (A7 @zo (A7 @zq (A7 @zt (A7 @zu (A7 @uQ (A7 @A6C (A7 @zw (A7 @zx (A7 @zy (A7 @zz (A7 @A00 (A7 @A01 (A7 @ceS (A7 (A7 @uT @A6D) (A7 @A6E (A7 @A6J (A7 @A6K (A7 @uU (A7 @uV (A7 @A05 (A7 @A06 (A7 @arC (A7 @arF (A7 @aCS (A7 @A0B (A7 @A6P (A7 @A0C (A7 @A0D (A7 @A6T (A7 @A0E (A7 @A0F (A7 @A6Q (A7 @A6S (A7 @A6U (A7 @A6V (A7 @uW (A7 @A0G (A7 @uX (A7 @A0H (A7 @A6W (A7 @A0I (A7 @A6X (A7 @cdB (A7 @A6Y (A7 @A6Z (A7 @A6a (A7 @cdL (A7 @A6c (A7 @A6d (A7 @A0K (A7 @uY (A7 @A0L (A7 @A0M (A7 @A0N (A7 @uZ (A7 @iI (A7 @A0O (A7 @uf (A7 @A6e (A7 @A0P (A7 @A6f (A7 @jo (A7 @A0Q (A7 @A0R (A7 @ug (A7 @A6g (A7 @YR (A7 @A6h (A7 @fiD (A7 @fi0 (A7 @re1 (A7 @re2 (A7 @A6j (A7 @A0S (A7 @A0T (A7 @A6k (A7 @uj (A7 @A6l (A7 @A6m (A7 @A0U (A7 @A0Y (A7 @um (A7 @A6o (A7 @xx (A7 @y5 (A7 @tT (A7 @y9 (A7 @xy (A7 @y7 (A7 @tV (A7 @yA (A7 @xz (A7 @y8 (A7 @tX (A7 @yB (A7 @Zg (A7 @Zh (A7 @yC (A7 @Zi (A7 @cK (A7 @gy (A7 @gz (A7 @iA (A7 @geq (A7 @Int.toNat_natCast (A7 @Int.toNat_zero (A7 @Int.natCast_nonneg (A7 @Nat.zero_le (A7 @Int.le_refl (A7 @Nat.le_refl (A7 @Bool.and_true (A7 @Bool.true_and (A7 @Bool.and_false (A7 @Bool.false_and (A7 @Bool.or_false (A7 @Bool.false_or (A7 @Bool.or_true (A7 @Bool.true_or (A7 @Bool.not_true (A7 @Bool.not_false (A7 @Bool.false_eq_true (A7 @decide_true (A7 @decide_false (A7 @and_self (A7 @and_true (@true_and))))))))))))))))))))))))))))))))))))))))))))))))))))))))))))))))))))))))))))))))))))))))))))))))))))))))))))))))))))))))))))))))))))))))))))))))))))))))))))))))))))))))))))))))))))))))))))))))))))))))))))))))))))))))))))))))))))))))))))))))))))))))))))))))))))))))))))))))))))))))))))))))))))))))))))))))))))))))))))))))))))))))))))))))))))))))))))))))))))))))))))))))))
end Dv
