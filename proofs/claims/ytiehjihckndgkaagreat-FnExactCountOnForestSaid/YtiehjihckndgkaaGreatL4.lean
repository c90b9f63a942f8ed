/- Value semantics for Go code, part 4: arguments of laws, slim code and rules. Conditions: none beyond those in each lemma. -/
import Derived.Test.YtiehjihckndgkaaGreatL3
import Derived.WalkKit
import Derived.ProofKit
import Derived.OpenShut
import Derived.ShutString
import Derived.ChangeOld
import Derived.Below
import Derived.Carry
import Derived.IntWalk
set_option linter.unusedSimpArgs false
set_option linter.unusedVariables false
namespace Dv
open Go
inductive Shp(T:Tys):TypeId→List D→Prop
 |int {t k n} (ht:T.ty t= .int k) (hw:(Lit.int k n).wf=true):Shp T t [.int k n]
 |bool {t b} (ht:T.ty t= .bool):Shp T t [.bool b]
 |string {t s} (ht:T.ty t= .string) (hs:s.size≤maxLen):Shp T t [.str s]
 |slice {t e} {xss:List (List D)} (ht:T.ty t= .slice e) (hx: ∀xs,xs∈xss→Shp T e xs) (hl:xss.length≤maxLen):Shp T t [.sl e xss.flatten]
 |struct {t fs} {ds:List D} (ht:T.ty t= .struct fs) (hl:ds.length=fs.length) (hx: ∀(i:Nat) (f:TypeId) (d:D),fs[i]? =some f→ds[i]? =some d→Shp T f [d]):Shp T t ds
def Vi(T:Tys):Nat→TypeId→Bool
 |0,_=>false
 |n+1,t=>match T.ty t with
  | .int _=>true
  | .bool=>true
  | .string=>true
  | .slice e=>T.known e&&Vi T n e
  | .struct fs=>(T.nest t).isNone&& !fs.isEmpty&&fs.all (Vi T n)
  |_=>false
theorem Shp.length{T:Tys}{t:TypeId}{ds:List D}(h:Shp T t ds):ds.length=T.size t:=by
 cases h with
 |int ht=>simp [Tys.size,ht,Ty.size]
 |bool ht=>simp [Tys.size,ht,Ty.size]
 |string ht=>simp [Tys.size,ht,Ty.size]
 |slice ht=>simp [Tys.size,ht,Ty.size]
 |struct ht hl=>simp [Tys.size,ht,Ty.size,hl]
theorem qO{α:Type}{n:Nat}(hn:0<n): ∀(xss:List (List α)),(∀xs∈xss,xs.length=n)→ ∀k:Nat,xss.flatten[k]? =(xss[k / n]?).bind fun xs=>xs[k % n]? :=by
 intro xss
 induction xss with
 |nil=>intro _ k;simp
 |cons xs xss ih=>
  intro h k;have hx:=h xs (KM);rw [oP];rcases Nat.lt_or_ge k n with hk|hk
  ·rw [UF (by omega),Nat.div_eq_of_lt hk,Nat.mod_eq_of_lt hk];rfl
  ·rw [RN (by omega),ih (fun ys hy=>h ys (RL _ hy)),hx]
   have h1:k / n=(k-n) / n+1:=by
    rw [Nat.div_eq_sub_div hn hk]
   have h2:k % n=(k-n) % n:=by rw [Nat.mod_eq_sub_mod hk]
   rw [h1,h2];rfl
theorem aD{α:Type}{n:Nat}: ∀(xss:List (List α)),(∀xs∈xss,xs.length=n)→xss.flatten.length=xss.length*n:=by
 intro xss
 induction xss with
 |nil=>intro _;simp
 |cons xs xss ih=>
  intro h;rw [oP,Nf,ih (fun ys hy=>h ys (RL _ hy)),h xs (KM),Lb,Nat.add_mul];omega
abbrev xB(w:World):Nat→Prop:=fun k=>k<w.heap.size
section
variable {P:Program} {T:Tys} {H:Type} {enc:TypeId×Value→H} {w:World} {spare:Nat→Bool} {zJ:Bool}
theorem Cx.cells(h:Cx P T){t:TypeId}(hk:T.known t=true):P.cellsOf t=T.size t:=by
 obtain⟨i,h1,h2,_⟩:=h.info hk;simp [Program.cellsOf,h1,h2]
theorem uX{n:Nat}{t:TypeId}(h:Vi T n t=true):T.known t=true:=by
 cases n with
 |zero=>cases h
 |succ n=>
  unfold Vi at h;unfold Tys.known
  cases ht:T.ty t with
  |struct fs=>
   rw [ht]at h
   cases fs with
   |nil=>simp at h
   |cons=>rfl
  |other=>rw [ht]at h;cases h
  |map=>rw [ht]at h;cases h
  |_=>rfl
theorem qP{t:TypeId}(hk:T.known t=true):0<T.size t:=by
 unfold Tys.known at hk;unfold Tys.size
 cases ht:T.ty t with
 |struct fs=>
  rw [ht]at hk
  cases fs with
  |nil=>cases hk
  |cons=>simp [Ty.size]
 |_=>simp [Ty.size]
theorem uY{base:Nat}{a:Addr}{n:Nat}{cs:List Value}(h:w.cells? base a n=some cs):cs.length=n∧ ∀i,i<n→w.cell? (a.add i)=cs[i]? :=by
 unfold World.cells? at h
 split at h
 ·exact⟨by simpa using mapM_some_length h,fun i hi=>by have:=mapM_some_get h i i (by simp [hi]);simpa using this⟩
 ·cases h
theorem A3f{ad:Addr}{v:Value}(h:w.cell? ad=some v):ad.block<w.heap.size:=by
 rcases Nat.lt_or_ge ad.block w.heap.size with hl|hl
 ·exact hl
 ·have h1:=oJ hl;simp [World.cell?,h1]at h
theorem A14(hT:Cx P T): ∀(fuel:Nat) (n:Nat) (t:TypeId) (cs:List Value) (x:DataW H×List MemPlace),Vi T n t=true→DataW.trod enc P w 0 spare zJ fuel t cs=some x→
  ∃ds,Shp T t ds∧cs.length=ds.length∧ ∀(i:Nat) (d:D),ds[i]? =some d→ ∃v,cs[i]? =some v∧W T (xB w) w V0 Kl d v (fun _=>False):=by
 have hE:Em (fun _:Nat=>False):=fun _ h=>h
 have one: ∀(d0:D) (v0:Value),W T (xB w) w V0 Kl d0 v0 (fun _=>False)→ ∀(i:Nat) (d:D),[d0][i]? =some d→ ∃v,[v0][i]? =some v∧W T (xB w) w V0 Kl d v (fun _=>False):=by
  intro d0 v0 h i d hi
  cases i with
  |zero=>simp at hi;subst hi;exact⟨v0,rfl,h⟩
  |succ i=>simp at hi
 intro fuel
 induction fuel with
 |zero=>intro n t cs x _ h;simp [DataW.trod]at h
 |succ fuel ih=>
  intro n t cs x hd h;have hk:=uX hd;have h0:=(hT t).1;unfold I5 at h0
  cases n with
  |zero=>cases hd
  |succ n=>
   unfold Vi at hd
   cases ht:T.ty t<;>rw [ht]at h0 hd<;>simp only at h0 hd
   case int k=>
    obtain⟨m,rfl,_,hw⟩:=DataW.trod_int h0.1 h
    exact⟨[.int k m],.int ht hw,rfl,one _ _ (.int hE)⟩
   case bool=>
    obtain⟨b,rfl,_⟩:=DataW.trod_bool h0.1 h
    exact⟨[.bool b],.bool ht,rfl,one _ _ (.bool hE)⟩
   case string=>
    obtain⟨s,rfl,_,hs⟩:=DataW.trod_string h0.1 h
    exact⟨[.str s],.string ht hs,rfl,one _ _ (.str hE)⟩
   case slice e=>
    simp only [Gb]at hd;have hc:=hT.cells hd.1;have hpos:=qP hd.1;rcases DataW.trod_slice h0.1 h with⟨rfl,_⟩|⟨a,len,cap,elems,rest,m,hm,rfl,_,_,hl,hcap,hlen,hel,_,_⟩
    ·exact⟨[.sl e ([]:List (List D)).flatten],.slice ht (by simp) (by simp [maxLen]),rfl,one _ _ (.sl (fun _=>undef) hE (by simp) (Dh _) (by simp [maxLen]) (by simp) (by simp))⟩
    ·injection hm with hm
     subst hm
     have hex: ∀i,i<len→ ∃ds,Shp T e ds∧ ∀(j:Nat) (d:D),ds[j]? =some d→ ∃v,w.cell? (a.add (i*T.size e+j))=some v∧W T (xB w) w V0 Kl d v (fun _=>False):=by
      intro i hi;have h1:=hel i hi;rw [Kh (by omega),KI]at h1
      obtain⟨cs',h2,h3⟩:=h1;obtain⟨ds,q1,q2,q3⟩:=ih n e cs' _ hd.2 h3
      refine⟨ds,q1,fun j d hj=> ?_⟩
      obtain⟨v,hv,hW⟩:=q3 j d hj;obtain⟨c1,c2⟩:=uY h2;rw [hc]at c1 c2;have hj':j<T.size e:=by rw [←c1];exact(G5.1 hv).1
      have h4:=c2 j hj';rw [NM]at h4
      exact⟨v,by rw [h4,hv],hW⟩
     let ch:Nat→List D:=fun i=>if h:i<len then(hex i h).choose else []
     have hch: ∀i,i<len→Shp T e (ch i)∧ ∀(j:Nat) (d:D),(ch i)[j]? =some d→ ∃v,w.cell? (a.add (i*T.size e+j))=some v∧W T (xB w) w V0 Kl d v (fun _=>False):=by
      intro i hi;have:=(hex i hi).choose_spec
      simp only [ch,hi,dif_pos];exact this
     have hall: ∀xs∈(List.range len).map ch,xs.length=T.size e:=by
      intro xs hxs;obtain⟨i,hi,rfl⟩:=NA.1 hxs
      exact(hch i (MJ.1 hi)).1.length
     refine⟨[.sl e ((List.range len).map ch).flatten],.slice ht (fun xs hxs=> ?_) (by simp;omega),rfl,one _ _ ?_⟩
     ·obtain⟨i,hi,rfl⟩:=NA.1 hxs
      exact(hch i (MJ.1 hi)).1
     ·have key: ∀(i:Nat) (x:D),((List.range len).map ch).flatten[i]? =some x→ ∃v,w.cell? (a.add i)=some v∧W T (xB w) w V0 Kl x v (fun _=>False):=by
       intro i x hi;rw [qO hpos _ hall,KI]at hi;obtain⟨xs,h1,h2⟩:=hi;rw [UH,Dp]at h1;obtain⟨q,hq,rfl⟩:=h1;obtain⟨hq1,hq2⟩:=G5.1 hq;simp only [Ng]at hq2;subst hq2;obtain⟨v,hv,hW⟩:=(hch _ (by simpa using hq1)).2 _ x h2
       rw [show i / T.size e*T.size e+i % T.size e=i by rw [Nat.mul_comm];exact Nat.div_add_mod i (T.size e)]at hv
       exact⟨v,hv,hW⟩
      refine .sl (fun i=>(w.cell? (a.add i)).getD undef) hE (by rw [aD _ hall];simp) hl hcap (fun i x hi=> ?_) (fun i x hi=> ?_)
      ·obtain⟨v,hv,_⟩:=key i x hi
       exact⟨a,rfl,by have:=A3f hv;rw [Ql]at this;exact this,by rw [hv];rfl⟩
      ·obtain⟨v,hv,hW⟩:=key i x hi;simp only [hv,jo];exact hW
   case struct fs=>
    simp only [Gb,KN,A0M]at hd;obtain⟨⟨fields,hu,hfx⟩,hinfo⟩:=h0;rw [hd.1.1]at hfx;obtain⟨hfl,hfi⟩:=hfx;obtain⟨xs,m,hm,_,hcl,hxl,hx⟩:=DataW.trod_struct hu h
    injection hm with hm
    subst hm;rw [hT.cells hk]at hcl;have hsz:T.size t=fs.length:=by simp [Tys.size,ht,Ty.size]
    have hex: ∀i,i<fs.length→ ∃d f,fs[i]? =some f∧Shp T f [d]∧ ∃v,cs[i]? =some v∧W T (xB w) w V0 Kl d v (fun _=>False):=by
     intro i hi;have hif:i<fields.size:=by omega
     obtain⟨f1,f2,f3,f4⟩:=hfi i _ (OQ hif);have h1:=hx i _ (OQ hif)
     have hs1:T.size fields[i].type=1:=by
      unfold Tys.isStruct at f4;unfold Tys.size
      cases hty:T.ty fields[i].type<;>simp_all [Ty.isStruct,Ty.size]
     rw [f1,hT.cells f3,hs1,Kh (by omega)]at h1
     obtain⟨ds,q1,q2,q3⟩:=ih n _ _ _ (hd.2 _ (fA f2)) h1;have hl1:ds.length=1:=by rw [q1.length,hs1]
     obtain⟨d,rfl⟩:=List.length_eq_one_iff.1 hl1;obtain⟨v,hv,hW⟩:=q3 0 d rfl
     refine⟨d,_,f2,q1,v, ?_,hW⟩
     rw [List.getElem?_take]at hv;simp only [Nat.zero_lt_one,if_true,Sc,YE]at hv;exact hv
    let ch:Nat→D:=fun i=>if h:i<fs.length then(hex i h).choose else .undef
    have hch: ∀i,i<fs.length→ ∃f,fs[i]? =some f∧Shp T f [ch i]∧ ∃v,cs[i]? =some v∧W T (xB w) w V0 Kl (ch i) v (fun _=>False):=by
     intro i hi;have:=(hex i hi).choose_spec
     simp only [ch,hi,dif_pos];exact this
    have hget: ∀(i:Nat) (d:D),((List.range fs.length).map ch)[i]? =some d→i<fs.length∧d=ch i:=by
     intro i d hi;rw [UH,Dp]at hi;obtain⟨q,hq,rfl⟩:=hi;obtain⟨hq1,hq2⟩:=G5.1 hq;simp only [Ng]at hq2;subst hq2
     exact⟨by simpa using hq1,rfl⟩
    refine⟨(List.range fs.length).map ch,.struct ht (by simp) (fun i f d hf hi=> ?_),by simp;omega,fun i d hi=> ?_⟩
    ·obtain⟨h1,rfl⟩:=hget i d hi;obtain⟨f',hf',hs,_⟩:=hch i h1;rw [hf]at hf';injection hf' with hf';subst hf';exact hs
    ·obtain⟨h1,rfl⟩:=hget i d hi;obtain⟨f',hf',hs,v,hv,hW⟩:=hch i h1
     exact⟨v,hv,hW⟩
   all_goals (cases hd)
def top(T:Tys)(t:TypeId)(ds:List D):D:=if T.isStruct t then .agg ds else ds.headD .undef
def Arg(T:Tys)(t:TypeId)(d:D):Prop:= ∃ds,Shp T t ds∧d=top T t ds
theorem ABu(hT:Cx P T){r:Reach}{base n:Nat}{t:TypeId}{v:Value}{d0:DataW H}{ps:List MemPlace}(hd:Vi T n t=true)(hv:Value.okWide P w r base t v)(h:DataW.Trod enc P w 0 spare zJ t v d0 ps):
  ∃d,Arg T t d∧W T (xB w) w V0 Kl d v (fun _=>False):=by
 obtain⟨fuel,hf⟩:=h;obtain⟨ds,q1,q2,q3⟩:=A14 hT fuel n t _ _ hd hf;have hfact:=(hT t).1;unfold I5 at hfact
 have flat:T.isStruct t=false→v.cells.toList=[v]→ ∃d,Arg T t d∧W T (xB w) w V0 Kl d v (fun _=>False):=by
  intro hs hc;have hl:ds.length=1:=by rw [←q2,hc];rfl
  obtain⟨d,rfl⟩:=List.length_eq_one_iff.1 hl;obtain⟨v',hv',hW⟩:=q3 0 d rfl;rw [hc]at hv';simp only [UG,Option.some.injEq]at hv';subst hv'
  exact⟨d,⟨[d],q1,by simp [top,hs]⟩,hW⟩
 cases n with
 |zero=>cases hd
 |succ n=>
  unfold Vi at hd
  cases ht:T.ty t<;>rw [ht]at hfact hd<;>simp only at hfact hd
  case int k=>
   refine flat (by simp [Tys.isStruct,ht,Ty.isStruct]) ?_
   simp only [Value.okWide,hfact.1,Cell.okWide]at hv
   cases v<;>simp_all [Cell.ok,Value.cells]
  case bool=>
   refine flat (by simp [Tys.isStruct,ht,Ty.isStruct]) ?_
   simp only [Value.okWide,hfact.1,Cell.okWide]at hv
   cases v<;>simp_all [Cell.ok,Value.cells]
  case string=>
   refine flat (by simp [Tys.isStruct,ht,Ty.isStruct]) ?_
   simp only [Value.okWide,hfact.1,Cell.okWide]at hv
   cases v<;>simp_all [Cell.ok,Value.cells]
  case slice e=>
   refine flat (by simp [Tys.isStruct,ht,Ty.isStruct]) ?_
   simp only [Value.okWide,hfact.1,Cell.okWide]at hv
   cases v<;>simp_all [Cell.ok,Value.cells]
  case struct fs=>
   obtain⟨⟨fields,hu,_⟩,_⟩:=hfact;obtain⟨cs,rfl,hcs⟩:=WideShapes.okWide_struct hu hv
   have hval: ∀(i:Nat) (d:D),ds[i]? =some d→cs[i]? =some (cs.getD i undef)∧W T (xB w) w V0 Kl d (cs.getD i undef) (fun _=>False):=by
    intro i d hi;obtain⟨v,hv',hW⟩:=q3 i d hi;have:cs[i]? =some v:=by simpa [Value.cells] using hv'
    rw [SH,this];exact⟨rfl,hW⟩
   refine⟨.agg ds,⟨ds,q1,by simp [top,Tys.isStruct,ht,Ty.isStruct]⟩,.agg (fun i=>cs.getD i undef) (fun _ _=>False) (by simpa [Value.cells] using q2) (fun i x hi=>(hval i x hi).1) (fun k=>⟨fun h=>h.elim,fun⟨_,_,h⟩=>h⟩) (fun _ _ _ _ _ _ h=>h.elim) (fun i x hi=>(hval i x hi).2)⟩
  all_goals (cases hd)
end
def A8J(T:Tys):List TypeId→List D→Prop
 | [],[]=>True
 |t::ts,d::ds=>Arg T t d∧A8J T ts ds
 |_,_=>False
theorem args_W{P:Program}{T:Tys}{H:Type}{enc:TypeId×Value→H}{w:World}{r:Reach}{base n:Nat}(hT:Cx P T): ∀(ts:List TypeId) (vs:List Value) (d0:List (DataW H)) (ps:List MemPlace),ts.all (Vi T n)=true→
  (∀(j:Nat) (t:TypeId) (v:Value),ts[j]? =some t→vs[j]? =some v→Value.okWide P w r base t v)→DataW.TrodAll enc P w 0 (fun _=>true) true ts vs d0 ps→
  ∃ds,A8J T ts ds∧vs.length=ds.length∧ ∀(i:Nat) (d:D),ds[i]? =some d→ ∃v,vs[i]? =some v∧W T (xB w) w V0 Kl d v (fun _=>False):=by
 intro ts
 induction ts with
 |nil=>
  intro vs d0 ps _ _ h
  cases vs<;>cases d0<;>simp [DataW.TrodAll]at h
  exact⟨[],trivial,rfl,by simp⟩
 |cons t ts ih=>
  intro vs d0 ps hd hv h
  cases vs with
  |nil=>cases d0<;>simp [DataW.TrodAll]at h
  |cons v vs=>
   cases d0 with
   |nil=>simp [DataW.TrodAll]at h
   |cons d0 ds0=>
    simp only [DataW.TrodAll]at h;obtain⟨p,q,h1,h2,_⟩:=h;simp only [YD,Gb]at hd;obtain⟨d,ha,hW⟩:=ABu hT hd.1 (hv 0 t v rfl rfl) h1;obtain⟨ds,hb,hl,hWs⟩:=ih vs ds0 q hd.2 (fun j t' v' hj hj'=>hv (j+1) t' v' (by simpa using hj) (by simpa using hj')) h2
    refine⟨d::ds,⟨ha,hb⟩,by simp [hl],fun i x hi=> ?_⟩
    cases i with
    |zero=>simp at hi;subst hi;exact⟨v,rfl,hW⟩
    |succ i=>simpa using hWs i x (by simpa using hi)
theorem law_calls{Y:Sys}(hY:Y.Ok){f:FuncId}{ds:List D}(hc:Y.call f ds []=some (.bool true,[])){vs:Array Value}{w:World}(hl:vs.size=ds.length)
  (hW: ∀(i:Nat) (d:D),ds[i]? =some d→ ∃v,vs[i]? =some v∧W Y.T (xB w) w V0 Kl d v (fun _=>False)):
  Calls Y.P f vs w fun e w'=>e= .returned (.bool true)∧RowKit.Below w.heap.size w w':=by
 have hg:=Sys.call_good hY hc;refine Calls.mono (hg.2 vs (fun _=>undef) w (xB w) (fun _ _=>False) hl (fun i d hi=> ?_) (fun j d hj=>by simp at hj) (fun _ _ _ h=>h) (fun _ _ _ _ h=>h.elim) (fun _ h=>h)) ?_
 ·obtain⟨v,hv,hWv⟩:=hW i d hi
  exact⟨v,hv,hWv.up⟩
 ·intro e w' he
  cases e with
  |returned v=>
   obtain⟨S',F,FL',h1,_,_,_,hst,_,_⟩:=he
   cases h1 with
   |bool=>exact⟨rfl,hst.os,hst.tape,hst.output,hst.size,fun k hk=>hst.heap k hk (fun _ h=>h)⟩
  |panicked=>exact he.elim
  |outgrown=>exact he.elim
theorem trodAll_below{H:Type}{enc:TypeId×Value→H}{P:Program}(hl:laidOutB P=true){W W':World}(hb:RowKit.Below W.heap.size W W'): ∀ {ts:List TypeId} {vs:List Value} {ds:List (DataW H)} {ps:List MemPlace},
  ts.all (fun t=>P.readableRec t&&decide (t<P.types.size))=true→DataW.TrodAll enc P W 0 (fun _=>true) true ts vs ds ps→DataW.TrodAll enc P W' 0 (fun b=>decide (b<W.heap.size)) true ts vs ds ps:=by
 intro ts
 induction ts with
 |nil=>
  intro vs ds ps _ h
  cases vs<;>cases ds<;>simp [DataW.TrodAll]at h ⊢
  exact h
 |cons t ts ih=>
  intro vs ds ps hr h
  cases vs with
  |nil=>cases ds<;>simp [DataW.TrodAll]at h
  |cons v vs=>
   cases ds with
   |nil=>simp [DataW.TrodAll]at h
   |cons d ds=>
    simp only [DataW.TrodAll]at h ⊢;obtain⟨p,q,h1,h2,h3⟩:=h;simp only [YD,Gb,decide_eq_true_eq]at hr;have lt0: ∀x∈p,x.block<W.heap.size:=by obtain⟨m,hm⟩:=h1;exact DataW.trod_lt m _ _ _ hm
    exact⟨p,q,RowKit.Below.trod hl hr.1.1 hr.1.2 h1 hb lt0,ih (by simpa using hr.2) h2,h3⟩
end Dv
namespace Dv
open Go
theorem nr{α:Type}{a b:α}(h:a=b):a=b:=h
structure SOp where
 dst:Option Tmp
 op:Op
 type:TypeId
 guard:Option (Option Tmp×Bool)
structure PmL where
 n:List Nat
 r:List Nat
 w:List Nat
def PmL.pm(l:PmL):Pm:=⟨fun r=>l.n.contains r|| !l.r.contains r,fun r=>l.w.contains r⟩
inductive SC where
 |skip
 |ops (l:List SOp)
 |draws (l:List (PmL×SOp))
 |seq (a b:SC)
 |cond (c:Operand) (a b:SC)
 |block (id:Nat) (c:SC)
 |loop (c:SC)
 |exit (id:Nat)
 |ret
 |bad
abbrev tK(u:Nat):Operand:= .tmp u
abbrev iK(n:Int):Operand:= .const (.int .i64 n)
abbrev oX(d:Nat)(p:Op)(y:TypeId):SOp:=⟨some d,p,y,none⟩
abbrev oM(d u:Nat)(y:TypeId):SOp:=⟨some d,.move (.tmp u),y,none⟩
abbrev oA(d u:Nat)(y:TypeId):SOp:=⟨some d,.assign (.tmp u),y,none⟩
abbrev oL(d:Nat)(t:TypeId)(u:Nat)(y:TypeId):SOp:=⟨some d,.load t (.tmp u),y,none⟩
abbrev oI(d:Nat)(t:TypeId)(u v:Nat):SOp:=⟨some d,.indexAddr t (.tmp u) (.tmp v),0,none⟩
abbrev oN(d u:Nat)(t:TypeId):SOp:=⟨some d,.call ⟨.builtin .len, #[.tmp u], #[t]⟩,3,none⟩
abbrev oC(d f:Nat)(a:List Operand)(t:List TypeId)(y:TypeId):SOp:=⟨some d,.call ⟨.value (.func f),a.toArray,t.toArray⟩,y,none⟩
abbrev oS(t:TypeId)(a u:Nat):SOp:=⟨none,.store t (.tmp a) (.tmp u),0,none⟩
abbrev oF(d:Nat)(t:TypeId)(u i:Nat):SOp:=⟨some d,.fieldAddr t (.tmp u) i,0,none⟩
abbrev oE(d u i:Nat)(y:TypeId):SOp:=⟨some d,.extract (.tmp u) i,y,none⟩
abbrev oB(d:Nat)(o:BinOp)(t:TypeId)(a b:Operand)(r y:TypeId):SOp:=⟨some d,.binOp o t a b r,y,none⟩
def Uj(ops:Array Oper)(o:Oper):SOp:=⟨o.dst,o.op,o.type,match o.guard with|none=>none|some (j,b)=>some ((ops[j]?).bind (·.dst),b)⟩
def BX(lends:FuncId→Bool):Code→SC
 | .skip=> .skip
 | .region _ ops draw=>
  if draw then
   (if Sl lends ops.toList then .draws (ops.toList.map fun o=>(⟨Hz ops.toList o,ops.toList.flatMap (Fa lends ops.toList),Fa lends ops.toList o⟩,Uj ops (ZO lends ops.toList o)))else .bad)
  else .ops (ops.toList.map fun o=>Uj ops (tag lends ops.toList o))
 | .seq a b=> .seq (BX lends a) (BX lends b)
 | .cond c a b=> .cond c (BX lends a) (BX lends b)
 | .block id c=> .block id (BX lends c)
 | .loop c=> .loop (BX lends c)
 | .exit id=> .exit id
 | .ret=> .ret
 |_=> .bad
def Pz(E:Env)(pm:Pm)(s:St)(dst:Option Tmp)(op:Op)(type:TypeId):Option St:=opD E pm s ⟨dst,op,type, "", #[],none⟩
def UX(E:Env)(pm:Pm)(s:St)(o:SOp):Option St:=
 match o.guard with
 |none=>Pz E pm s o.dst o.op o.type
 |some (none,_)=>some (s.putO o.dst (.konst undef))
 |some (some t,b)=>
  match s.v t with
  | .bool b'=>if b'==b then Pz E pm s o.dst o.op o.type else some (s.putO o.dst (.konst undef))
  | .konst (.tuple _)=>some (s.putO o.dst (.konst undef))
  |_=>none
def A15(E:Env):List SOp→St→Option St
 | [],s=>some s
 |o::l,s=>(UX E Pm.all s o).bind fun s'=>A15 E l s'
def KU(pm:Pm)(s:St)(op:Op):Bool:=
 match op with
 | .move (.tmp u)=> !(s.v u).hasObj||(s.v u).isObj||pm.wr u
 |_=>true
def qQ(E:Env):List (PmL×SOp)→St→Option St
 | [],s=>some s
 |(p,o)::l,s=>if KU p.pm s o.op then(UX E p.pm s o).bind fun s'=>qQ E l s' else none
noncomputable def FK(E:Env):SC→St→Option (Ex×St)
 | .skip,s=>some (.normal,s)
 | .ops l,s=>(A15 E l s).map fun s'=>(.normal,s')
 | .draws l,s=>(qQ E l s).map fun s'=>(.normal,s')
 | .seq a b,s=>
  match FK E a s with
  |some (.normal,s')=>FK E b s'
  |r=>r
 | .cond c a b,s=>
  match ev E.T s 0 c with
  |some (.bool t)=>if t then FK E a s else FK E b s
  |_=>none
 | .block id c,s=>
  match FK E c s with
  |some (.exit j,s')=>if j=id then some (.normal,s')else some (.exit j,s')
  |r=>r
 | .loop c,s=>ZP (FK E c) s
 | .exit id,s=>some (.exit id,s)
 | .ret,s=>some (.ret,s)
 | .bad,_=>none
theorem qR(E:Env)(ops:Array Oper)(pm:Pm)(s:St)(o:Oper):UX E pm s (Uj ops o)=MP E ops pm s o:=by
 obtain⟨dst,op,type,pos,after,guard⟩:=o;unfold UX MP Qi Uj
 cases guard with
 |none=>rfl
 |some g=>
  obtain⟨j,b⟩:=g;simp only
  cases (ops[j]?).bind (·.dst)with
  |none=>rfl
  |some t=>
   simp only
   cases hv:s.v t with
   |bool b'=>simp only;cases hb:(b'==b)<;>simp<;>rfl
   |konst v=>cases v<;>rfl
   |_=>rfl
theorem A3g(E:Env)(ops:Array Oper): ∀(l:List Oper) (s:St),A15 E (l.map fun o=>Uj ops (tag E.lends ops.toList o)) s=fJ E ops s l:=by
 intro l
 induction l with
 |nil=>intro s;rfl
 |cons o l ih=>
  intro s;simp only [VF,A15,fJ,qR]
  cases MP E ops Pm.all s (tag E.lends ops.toList o)with
  |none=>rfl
  |some s'=>simp only [Cz];exact ih s'
theorem A16(E:Env)(ops:Array Oper)(l0:List Oper): ∀(l:List Oper) (s:St),
  qQ E (l.map fun o=>(⟨Hz l0 o,l0.flatMap (Fa E.lends l0),Fa E.lends l0 o⟩,Uj ops (ZO E.lends ops.toList o))) s=UU E ops l0 s l:=by
 intro l
 induction l with
 |nil=>intro s;rfl
 |cons o l ih=>
  intro s;simp only [VF,qQ,UU,qR];have h1:(PmL.mk (Hz l0 o) (l0.flatMap (Fa E.lends l0)) (Fa E.lends l0 o)).pm=Lg E.lends l0 o:=nr rfl;have h2:KU (Lg E.lends l0 o) s (Uj ops (ZO E.lends ops.toList o)).op=tH (Lg E.lends l0 o) s o:=nr rfl;rw [h1,h2];split
  ·cases MP E ops (Lg E.lends l0 o) s (ZO E.lends ops.toList o)with
   |none=>rfl
   |some s'=>simp only [Cz];exact ih s'
  ·rfl
theorem A17(E:Env): ∀(c:Code),FK E (BX E.lends c)=FF E c:=by
 intro c
 induction c with
 |skip=>rfl
 |region id ops draw=>
  funext s
  simp only [BX,FF]
  cases draw with
  |true=>
   simp only [if_true];split
   ·simp only [FK];rw [A16]
   ·rfl
  |false=>simp only [OB,if_false,FK];rw [A3g]
 |seq a b iha ihb=>funext s;simp only [BX,FK,FF,iha,ihb];rfl
 |cond x a b iha ihb=>funext s;simp only [BX,FK,FF,iha,ihb];rfl
 |block id c ih=>funext s;simp only [BX,FK,FF,ih];rfl
 |loop c ih=>funext s;simp only [BX,FK,FF,ih]
 |exit id=>rfl
 |ret=>rfl
 |rangeFunc=>rfl
 |scope=>rfl
 |label=>rfl
 |goto=>rfl
 |refuse=>rfl
def Br(E:Env)(c:SC)(Q:Ex→St→Prop)(s:St):Prop:= ∃ex s',FK E c s=some (ex,s')∧Q ex s'
section
variable {E:Env} {Q:Ex→St→Prop} {s:St}
def qU(E:Env)(b:SC)(Q:Ex→St→Prop):Ex→St→Prop
 | .normal,s=>Br E b Q s
 |ex,s=>Q ex s
def inBlock(id:Nat)(Q:Ex→St→Prop):Ex→St→Prop
 | .exit j,s=>if j=id then Q .normal s else Q (.exit j) s
 |ex,s=>Q ex s
theorem A8K{a b:SC}(h:Br E a (qU E b Q) s):Br E (.seq a b) Q s:=by
 obtain⟨ex,s1,h1,h2⟩:=h
 cases ex with
 |normal=>
  obtain⟨ex',s2,h3,h4⟩:=h2
  exact⟨ex',s2,by simp [FK,h1,h3],h4⟩
 |exit id=>exact⟨_,s1,by simp [FK,h1],h2⟩
 |ret=>exact⟨_,s1,by simp [FK,h1],h2⟩
theorem A18{id:Nat}{c:SC}(h:Br E c (inBlock id Q) s):Br E (.block id c) Q s:=by
 obtain⟨ex,s1,h1,h2⟩:=h
 cases ex with
 |normal=>exact⟨_,s1,by simp [FK,h1],h2⟩
 |exit j=>
  simp only [inBlock]at h2;by_cases hj:j=id
  ·subst hj;rw [if_pos rfl]at h2;exact⟨.normal,s1,by simp [FK,h1],h2⟩
  ·rw [if_neg hj]at h2;exact⟨_,s1,by simp [FK,h1,hj],h2⟩
 |ret=>exact⟨_,s1,by simp [FK,h1],h2⟩
theorem Aw{c:SC}{Q':Ex→St→Prop}(h:Br E c Q s)(hq: ∀ex s,Q ex s→Q' ex s):Br E c Q' s:=by
 obtain⟨ex,s1,h1,h2⟩:=h;exact⟨ex,s1,h1,hq _ _ h2⟩
end
def fin(T:Tys)(n:Nat)(rs:List ResultVar)(r:D×List D):Ex→St→Prop
 | .normal,s=>fK T n rs s=some r
 | .ret,s=>fK T n rs s=some r
 | .exit _,_=>False
theorem Sys.call_wp{Y:Sys}{f:FuncId}{fn:Func}{c:Code}{k:SC}{a l:List D}{r:D×List D}(hb:Y.base f a l=none)(hf:Y.P.funcs[f]? =some fn)(hok:Bj fn a.length=true)
  (hbody:fn.body=some c)(hk:BX Y.lends c=k)(h:Br Y.env k (fin Y.T l.length fn.results.toList r) (entry a l)):Y.call f a l=some r:=by
 refine Sys.call_run hb hf hok ?_;obtain⟨ex,s1,h1,h2⟩:=h;unfold oo;rw [←hk]at h1;have h3:FK Y.env (BX Y.env.lends c)=FF Y.env c:=A17 Y.env c;have h4:FF Y.env c (entry a l)=some (ex,s1):=by rw [←h3];exact h1
 rw [hbody];simp only [h4]
 cases ex with
 |normal=>exact h2
 |ret=>exact h2
 |exit id=>exact h2.elim
section
variable (E:Env) (pm:Pm) (s:St) (dst:Option Tmp) (ty:TypeId)
theorem uZ(op:Op):UX E pm s ⟨dst,op,ty,none⟩=Pz E pm s dst op ty:=nr rfl
def grd(E:Env)(pm:Pm)(s:St)(dst:Option Tmp)(op:Op)(ty:TypeId)(b:Bool)(d:D):Option St:=
 match d with
 | .bool b'=>if b'==b then Pz E pm s dst op ty else some (s.putO dst (.konst undef))
 | .konst (.tuple _)=>some (s.putO dst (.konst undef))
 |_=>none
theorem qV(op:Op)(t:Tmp)(b:Bool):UX E pm s ⟨dst,op,ty,some (some t,b)⟩=grd E pm s dst op ty b (s.v t):=nr rfl
theorem AIx(op:Op)(b':Bool):grd E pm s dst op ty true (.bool b')=if b'=true then Pz E pm s dst op ty else some (s.putO dst (.konst undef)):=by cases b'<;>rfl
theorem AIy(op:Op)(b':Bool):grd E pm s dst op ty false (.bool b')=if b'=true then some (s.putO dst (.konst undef))else Pz E pm s dst op ty:=by cases b'<;>rfl
theorem AIz(op:Op)(b:Bool):grd E pm s dst op ty b (.konst undef)=some (s.putO dst (.konst undef)):=nr rfl
def pk(s:St)(dst:Option Tmp)(c a b:Option D):Option St:=
 match c,a,b with
 |some (.bool t),some x,some y=>if(if t then x else y).hasObj then none else some (s.putO dst (if t then x else y))
 |_,_,_=>none
theorem A19(c a b:Operand):Pz E pm s dst (.pick c a b) ty=pk s dst (ev E.T s ty c) (ev E.T s ty a) (ev E.T s ty b):=nr rfl
theorem pkT(x y:D)(h:x.hasObj=false):pk s dst (some (.bool true)) (some x) (some y)=some (s.putO dst x):=by simp [pk,h]
theorem pkF(x y:D)(h:y.hasObj=false):pk s dst (some (.bool false)) (some x) (some y)=some (s.putO dst y):=by simp [pk,h]
theorem pkB(t p q:Bool):pk s dst (some (.bool t)) (some (.bool p)) (some (.bool q))=some (s.putO dst (.bool (if t then p else q))):=by cases t<;>rfl
theorem hoB(b:Bool):(D.bool b).hasObj=false:=by simp [D.hasObj]
theorem hoI(k:IntKind)(n:Int):(D.int k n).hasObj=false:=by simp [D.hasObj]
theorem hoS(b:ByteArray):(D.str b).hasObj=false:=by simp [D.hasObj]
theorem zK(t:TypeId):Pz E pm s dst (.alloc t) ty=if E.T.known t then some (s.putO dst (.box (E.T.zeros t)))else none:=nr rfl
theorem A3h(t:TypeId)(x:Operand):Pz E pm s dst (.box t x) ty=if ty=900003 then(Sj E.T pm s dst t x).bind fun s1=>Gc pm s1 dst else Sj E.T pm s dst t x:=nr rfl
theorem A1A(t:TypeId)(x:Operand):Sj E.T pm s dst t x=match ZJ (ev E.T s t x)with
  |some ds=>if E.T.isStruct t then some (s.putO dst (.box ds))else none
  |none=>
   match take E.T pm s t x with
   |some (d,s1)=>if E.T.isStruct t==d.isAgg then some (s1.putO dst (.box d.asCells))else none
   |none=>none:=nr rfl
theorem zL(t:TypeId)(parts:Array (Nat×Operand)):Pz E pm s dst (.build t parts) ty=match E.T.nest t with
  |some fl=>if E.T.isStruct t&&E.T.known t then(MO E.T pm fl s (E.T.zeros t) parts.toList).map fun r=>r.2.putO dst (.agg r.1)else none
  |none=>match E.T.ty t with
   | .struct fs=>if E.T.known t then(Ik E.T pm (fun i=>fs.getD i 0) 1 s (E.T.zeros t) parts.toList).map fun r=>r.2.putO dst (.agg r.1)else none
   |_=>none:=nr rfl
theorem aF(t:TypeId)(len:Nat)(parts:Array (Nat×Operand)):Pz E pm s dst (.buildSlice t len parts) ty=if ty=900004 then(ZM E.T pm s dst t len parts).bind fun s1=>Qh pm s1 dst else ZM E.T pm s dst t len parts:=nr rfl
def stF(pm:Pm)(a:Operand):Option St→Option St
 |some s1=>Gc pm s1 (ZN a)
 |none=>none
theorem A1B(a:Operand)(o:Option St):stF pm a o=o.bind fun s1=>Gc pm s1 (ZN a):=by cases o<;>rfl
theorem zM(t:TypeId)(a x:Operand):Pz E pm s none (.store t a x) ty=if ty=900007 then JD E.T pm t a (PL E.T pm s t x)else if ty=900010 then Xa E.T pm s t a x else if ty=900011 then stF pm a (MN E.T pm s t a x)else MN E.T pm s t a x:=by
 rw [A1B];rfl
def OD(s:St)(dst:Option Tmp):Option D→Option St
 |some r=>some (s.putO dst r)
 |none=>none
theorem ABv(r:D):OD s dst (some r)=some (s.putO dst r):=nr rfl
def ku(dst:Option Tmp):Option (D×St)→Option St
 |some r=>some (r.2.putO dst r.1)
 |none=>none
theorem ABw(r:D)(s:St):ku dst (some (r,s))=some (s.putO dst r):=nr rfl
def fe(T:Tys)(s:St)(dst:Option Tmp)(op:BinOp)(t:TypeId):Option D→Option D→Option St
 |some a,some b=>if RP T t a then OD s dst (FQ op a b)else none
 |_,_=>none
theorem ABx(T:Tys)(op:BinOp)(t:TypeId)(a b:D):fe T s dst op t (some a) (some b)=if RP T t a then OD s dst (FQ op a b)else none:=nr rfl
def fzB(pm:Pm)(dst:Option Tmp)(u:Tmp):Option St→Option St
 |some s1=>oZ pm s1 dst u
 |none=>none
theorem A8L(op:BinOp)(t:TypeId)(x y:Operand)(t':TypeId):Pz E pm s dst (.binOp op t x y t') ty=if ty<2000000 then KP E.T pm s dst op t x y else fzB pm dst (ty-2000000) (KP E.T pm s dst op t x y):=by
 show(if ty<2000000 then KP E.T pm s dst op t x y else(KP E.T pm s dst op t x y).bind fun s1=>oZ pm s1 dst (ty-2000000))=_
 cases KP E.T pm s dst op t x y<;>rfl
theorem Yv(op:BinOp)(t:TypeId)(x y:Operand)(hq:oW E.T op t y=none):KP E.T pm s dst op t x y=fe E.T s dst op t (ev E.T s t x) (ev E.T s t y):=by
 unfold KP;rw [hq];simp only
 cases ev E.T s t x<;>cases ev E.T s t y<;>simp only [fe]
 rename_i a b
 cases FQ op a b<;>rfl
theorem AJ0(op:BinOp)(t:TypeId)(x:Operand)(u:Tmp)(t':TypeId):Pz E pm s dst (.binOp op t x (.tmp u) t') ty=if ty<2000000 then fe E.T s dst op t (ev E.T s t x) (some (s.v u))else fzB pm dst (ty-2000000) (fe E.T s dst op t (ev E.T s t x) (some (s.v u))):=by
 rw [A8L,Yv E pm s dst op t x (.tmp u) rfl];rfl
theorem AJ1(op:BinOp)(t:TypeId)(x:Operand)(k:IntKind)(n:Int)(t':TypeId):Pz E pm s dst (.binOp op t x (.const (.int k n)) t') ty=if ty<2000000 then fe E.T s dst op t (ev E.T s t x) (some (.int k n))else fzB pm dst (ty-2000000) (fe E.T s dst op t (ev E.T s t x) (some (.int k n))):=by
 rw [A8L,Yv E pm s dst op t x _ rfl];rfl
def A1C(s:St)(dst:Option Tmp)(q:Bool):Option Bool→Option St
 |some b=>some (s.putO dst (.bool (b==q)))
 |none=>none
theorem ABy(b:Bool):A1C s dst true (some b)=some (s.putO dst (.bool b)):=by cases b<;>rfl
def nt0(op:BinOp)(s:St)(dst:Option Tmp)(r:Option Bool)(o:Option St):Ty→Option St
 | .slice _=>match op with| .eql=>A1C s dst true r| .neq=>A1C s dst false r|_=>o
 |_=>o
theorem AJ2(r:Option Bool)(o:Option St)(e:TypeId):nt0 .eql s dst r o (.slice e)=A1C s dst true r:=nr rfl
theorem A3i(op:BinOp)(t:TypeId)(u:Tmp):KP E.T pm s dst op t (.tmp u) (.const (.slice none 0 0))=nt0 op s dst (Wo pm s (s.v u)) (fe E.T s dst op t (some (s.v u)) (ev E.T s t (.const (.slice none 0 0)))) (E.T.ty t):=by
 have key: ∀q,oW E.T op t (.const (.slice none 0 0))=some q→KP E.T pm s dst op t (.tmp u) (.const (.slice none 0 0))=A1C s dst q (Wo pm s (s.v u)):=by
  intro q hq;unfold KP;rw [hq];simp only [ev,Cz]
  cases Wo pm s (s.v u)<;>rfl
 cases ht:E.T.ty t with
 |slice e=>
  cases op<;>first
   |(simp only [nt0];exact key true (by simp [oW,ht]))
   |(simp only [nt0];exact key false (by simp [oW,ht]))
   |(simp only [nt0];exact Yv E pm s dst _ t _ _ (by simp [oW,ht]))
 |_=>exact Yv E pm s dst _ t _ _ (by simp [oW,ht])
theorem A8N(op:BinOp)(t:TypeId)(u:Tmp)(t':TypeId):Pz E pm s dst (.binOp op t (.tmp u) (.const (.slice none 0 0)) t') ty=if ty<2000000 then nt0 op s dst (Wo pm s (s.v u)) (fe E.T s dst op t (some (s.v u)) (ev E.T s t (.const (.slice none 0 0)))) (E.T.ty t)
  else fzB pm dst (ty-2000000) (nt0 op s dst (Wo pm s (s.v u)) (fe E.T s dst op t (some (s.v u)) (ev E.T s t (.const (.slice none 0 0)))) (E.T.ty t)):=by
 rw [A8L,A3i]
theorem AJ3(e:TypeId)(x:D)(xs:List D):Wo pm s (.sl e (x::xs))=some false:=nr rfl
theorem ndK(A:Option Addr)(n c:Nat):Wo pm s (.konst (.slice A n c))=some A.isNone:=nr rfl
theorem qW(src d:TypeId)(x:Operand):Pz E pm s dst (.convert src d x) ty=if E.T.known src then
   match ev E.T s src x,E.T.ty d with
   |some (.int _ n),.int k=>some (s.putO dst (.int k (k.wrap n)))
   |some (.str b),.string=>some (s.putO dst (.str b))
   |_,_=>none
  else none:=nr rfl
theorem kv(f:FuncId)(first captured:Array Operand):Pz E pm s dst (.makeFunc (.func f) first captured) ty=if ty<3000000 then(if first.isEmpty then(PQ pm s captured.toList).map fun r=>r.2.putO dst (.clo f r.1)else none)
  else(if first.isEmpty then(ZK pm s (ty-3000000) captured.toList).map fun r=>r.2.putO dst (.ocl false f r.1)else none):=nr rfl
theorem fq(t:TypeId)(l c:Operand):Pz E pm s dst (.makeSlice t l c) ty=if ty=900012 then(fI E.T s dst t l c).bind fun s1=>Qh pm s1 dst else fI E.T s dst t l c:=nr rfl
theorem kw(x:Operand):Pz E pm s dst (.nilCheck x) ty=(ev E.T s ty x).bind fun d=>
   match d with
   | .box _=>some (Di s dst x d)
   | .vw L n m=>match s.look pm L n m with|some (.box _)=>some (Di s dst x d)|_=>none
   | .pe L _ n m=>match s.look pm L n m with|some _=>some (Di s dst x d)|none=>none
   | .cptr _=>some (Di s dst x d)
   | .clo _ _=>some (Di s dst x d)
   | .ocl false _ _=>some (Di s dst x d)
   |_=>none:=nr rfl
theorem uf(x y:Operand)(t t':TypeId):Pz E pm s dst (.call ⟨.builtin .append, #[x,y], #[t,t']⟩) ty=if t=t' then(if isZ (ev E.T s t y)then PN E.T pm s t x else JE E.T pm s t x y).map fun r=>r.2.putO dst r.1 else none:=nr rfl
theorem A1D(f:FuncId)(args:Array Operand)(ts:Array TypeId):Pz E pm s dst (.call ⟨.value (.func f),args,ts⟩) ty=if args.size=ts.size then(if ty=900014 then(Il E pm s dst f (args.toList.zip (Sk ty ts.toList)) []).bind fun s1=>Gc pm s1 dst else Il E pm s dst f (args.toList.zip (Sk ty ts.toList)) [])else none:=nr rfl
theorem zN(u:Tmp)(args:Array Operand)(ts:Array TypeId):Pz E pm s dst (.call ⟨.value (.tmp u),args,ts⟩) ty=match s.v u with
   | .clo f caps=>if args.size=ts.size then Il E pm s dst f (args.toList.zip ts.toList) caps else none
   | .ocl false f caps=>if args.size=ts.size then PR E pm s dst f (args.toList.zip ts.toList) caps else none
   |_=>none:=nr rfl
end
theorem A8O(T:Tys)(s:St)(t:TypeId)(u:Tmp):ev T s t (.tmp u)=some (s.v u):=nr rfl
theorem A8P(T:Tys)(s:St)(t:TypeId)(k:IntKind)(n:Int):ev T s t (.const (.int k n))=some (.int k n):=nr rfl
theorem A3j(T:Tys)(s:St)(t:TypeId)(b:Bool):ev T s t (.const (.bool b))=some (.bool b):=nr rfl
theorem A8Q(T:Tys)(s:St)(t:TypeId):ev T s t (.const (.slice none 0 0))=match T.ty t with| .slice e=>some (.own e [])| .other=>some (.konst (.slice none 0 0))|_=>none:=nr rfl
theorem ABz(s:St)(t u:Nat)(d:D):(s.put t d).v u=if u=t then d else s.v u:=by rw [A59];rfl
theorem AC0(s:St)(t u:Nat)(d:D):(s.put t d).k u=if u=t then(if d.hasObj then s.k t+1 else s.k t)else s.k u:=by
 unfold St.put;by_cases h:u=t
 ·subst h;cases hd:d.hasObj<;>simp [Px]
 ·cases hd:d.hasObj<;>simp [Px,h]
theorem AC1(s:St)(t u:Nat)(d:D):(s.put t d).m u=s.m u:=by unfold St.put;split<;>rfl
theorem AC2(s:St)(t u:Nat):(s.clr t).v u=if u=t then .undef else s.v u:=nr rfl
theorem AC3(s:St)(t u:Nat):(s.clr t).k u=s.k u:=nr rfl
theorem AC4(s:St)(t u:Nat):(s.clr t).m u=s.m u:=nr rfl
theorem A8R(s:St)(t u:Nat):(s.bump t).v u=s.v u:=nr rfl
theorem A8S(s:St)(t u:Nat):(s.bump t).k u=s.k u:=nr rfl
theorem A8T(s:St)(t u:Nat):(s.bump t).m u=if u=t then s.m t+1 else s.m u:=nr rfl
theorem AC5(s:St)(t u:Nat)(p:AJ)(d:D):(s.set (t::p) d).v u=if u=t then Jy (s.v t) p d else s.v u:=nr rfl
theorem AC6(s:St)(t u:Nat)(p:AJ)(d:D):(s.set (t::p) d).k u=s.k u:=nr rfl
theorem AC7(s:St)(t u:Nat)(p:AJ)(d:D):(s.set (t::p) d).m u=s.m u:=nr rfl
theorem zO(s:St)(t:Tmp)(d:D):s.putO (some t) d=s.put t d:=nr rfl
theorem AC8(Y:Sys):Y.env.T=Y.T:=nr rfl
theorem zP(Y:Sys):Y.env.lends=Y.lends:=nr rfl
theorem A1E(Y:Sys):Y.env.call=Y.call:=nr rfl
theorem A3k(a l:List D)(t:Nat):(entry a l).v t=if t<G then a.getD t .undef else l.getD (t-G) .undef:=nr rfl
theorem A3l(a l:List D)(t:Nat):(entry a l).k t=0:=nr rfl
theorem A3m(a l:List D)(t:Nat):(entry a l).m t=0:=nr rfl
theorem Qs{r:Ex×St}{Q:Ex→St→Prop}:(∃ex s',some r=some (ex,s')∧Q ex s')=Q r.1 r.2:=
 propext ⟨fun⟨ex,s',h,hq⟩=>by injection h with h;subst h;exact hq,fun h=>⟨r.1,r.2,rfl,h⟩⟩
section
variable (E:Env) (Q:Ex→St→Prop) (s:St)
theorem AC9:Br E .skip Q s=Q .normal s:=Qs
theorem ACA(id:Nat):Br E (.exit id) Q s=Q (.exit id) s:=Qs
theorem AJ4:Br E .ret Q s=Q .ret s:=Qs
theorem AJ5:Br E (.ops []) Q s=Q .normal s:=Qs
def nxt(E:Env)(l:List SOp)(Q:Ex→St→Prop):Option St→Prop
 |some s=>Br E (.ops l) Q s
 |none=>False
theorem AJ6(l:List SOp):nxt E l Q (some s)=Br E (.ops l) Q s:=nr rfl
theorem ACB(o:SOp)(l:List SOp):Br E (.ops (o::l)) Q s=nxt E l Q (UX E Pm.all s o):=by
 unfold Br;simp only [FK,A15]
 cases UX E Pm.all s o with
 |none=>simp [nxt]
 |some s'=>simp [nxt,Br,FK]
theorem ACC:Br E (.draws []) Q s=Q .normal s:=Qs
def A1F(E:Env)(l:List (PmL×SOp))(Q:Ex→St→Prop):Bool→Option St→Prop
 |true,some s=>Br E (.draws l) Q s
 |_,_=>False
theorem ACD(l:List (PmL×SOp)):A1F E l Q true (some s)=Br E (.draws l) Q s:=nr rfl
theorem A8U(p:PmL)(o:SOp)(l:List (PmL×SOp)):Br E (.draws ((p,o)::l)) Q s=A1F E l Q (KU p.pm s o.op) (UX E p.pm s o):=by
 unfold Br;simp only [FK,qQ]
 cases KU p.pm s o.op with
 |true=>
  cases UX E p.pm s o with
  |none=>simp [A1F]
  |some s'=>simp [A1F,Br,FK]
 |false=>simp [A1F]
theorem AJ7(a b:SC):Br E (.seq a b) Q s=Br E a (qU E b Q) s:=by
 refine propext ⟨fun⟨ex,s1,h1,h2⟩=> ?_,A8K⟩;simp only [FK]at h1
 cases ha:FK E a s with
 |none=>simp [ha]at h1
 |some q=>
  obtain⟨ex',s2⟩:=q
  cases ex' with
  |normal=>simp only [ha]at h1;exact⟨_,s2,ha,ex,s1,h1,h2⟩
  |exit id=>simp only [ha,Option.some.injEq,Prod.mk.injEq]at h1;obtain⟨rfl,rfl⟩:=h1;exact⟨_,s2,ha,h2⟩
  |ret=>simp only [ha,Option.some.injEq,Prod.mk.injEq]at h1;obtain⟨rfl,rfl⟩:=h1;exact⟨_,s2,ha,h2⟩
def cnd(E:Env)(a b:SC)(Q:Ex→St→Prop)(s:St):Option D→Prop
 |some (.bool t)=>if t=true then Br E a Q s else Br E b Q s
 |_=>False
theorem AJ8(a b:SC)(t:Bool):cnd E a b Q s (some (.bool t))=if t=true then Br E a Q s else Br E b Q s:=nr rfl
theorem ACF(c:Operand)(a b:SC):Br E (.cond c a b) Q s=cnd E a b Q s (ev E.T s 0 c):=by
 unfold Br;simp only [FK]
 cases ev E.T s 0 c with
 |none=>simp [cnd]
 |some d=>cases d with
  |bool t=>cases t<;>simp [cnd,Br]
  |_=>simp [cnd]
theorem A8V(id:Nat)(c:SC):Br E (.block id c) Q s=Br E c (inBlock id Q) s:=by
 refine propext ⟨fun⟨ex,s1,h1,h2⟩=> ?_,A18⟩;simp only [FK]at h1
 cases ha:FK E c s with
 |none=>simp [ha]at h1
 |some q=>
  obtain⟨ex',s2⟩:=q
  cases ex' with
  |normal=>simp only [ha,Option.some.injEq,Prod.mk.injEq]at h1;obtain⟨rfl,rfl⟩:=h1;exact⟨_,s2,ha,h2⟩
  |exit j=>
   simp only [ha]at h1;by_cases hj:j=id
   ·simp only [hj,if_true,Option.some.injEq,Prod.mk.injEq]at h1;obtain⟨rfl,rfl⟩:=h1;exact⟨_,s2,ha,by simpa [inBlock,hj] using h2⟩
   ·simp only [hj,if_false,Option.some.injEq,Prod.mk.injEq]at h1;obtain⟨rfl,rfl⟩:=h1;exact⟨_,s2,ha,by simpa [inBlock,hj] using h2⟩
  |ret=>simp only [ha,Option.some.injEq,Prod.mk.injEq]at h1;obtain⟨rfl,rfl⟩:=h1;exact⟨_,s2,ha,h2⟩
theorem A8W(b:SC):qU E b Q .normal s=Br E b Q s:=nr rfl
theorem A8X(b:SC)(id:Nat):qU E b Q (.exit id) s=Q (.exit id) s:=nr rfl
theorem A8Y(b:SC):qU E b Q .ret s=Q .ret s:=nr rfl
theorem AJ9(id:Nat):inBlock id Q .normal s=Q .normal s:=nr rfl
theorem AJA(id j:Nat):inBlock id Q (.exit j) s=if j=id then Q .normal s else Q (.exit j) s:=nr rfl
theorem AJB(id:Nat):inBlock id Q .ret s=Q .ret s:=nr rfl
theorem ACG(T:Tys)(n:Nat)(rs:List ResultVar)(r:D×List D):fin T n rs r .normal s=(fK T n rs s=some r):=nr rfl
theorem ACH(T:Tys)(n:Nat)(rs:List ResultVar)(r:D×List D):fin T n rs r .ret s=(fK T n rs s=some r):=nr rfl
end
section
variable (s:St) (dst:Option Tmp) (u:Tmp) (k:IntKind) (n:Int) (b:Bool) (x:ByteArray) (e:TypeId) (xs:List D) (L:AJ) (i j c:Nat) (v:Value) (f:FuncId)
theorem ACI:Di s dst (.tmp u) (.int k n)=s.putO dst (.int k n):=nr rfl
theorem A8Z:Di s dst (.tmp u) (.bool b)=s.putO dst (.bool b):=nr rfl
theorem AJC:Di s dst (.tmp u) (.sl e xs)=s.putO dst (.sl e xs):=nr rfl
theorem A3n:Di s dst (.tmp u) (.konst v)=s.putO dst (.konst v):=nr rfl
theorem ACJ:Di s dst (.tmp u) (.own e xs)=s.putO dst (.vw [u] (s.k u) (s.m u)):=nr rfl
theorem ACK:Di s dst (.tmp u) (.box xs)=s.putO dst (.vw [u] (s.k u) (s.m u)):=nr rfl
theorem AJD:Di s dst (.tmp u) (.vw L i j)=s.putO dst (.vw L i j):=nr rfl
theorem A8a:Di s dst (.tmp u) (.cptr xs)=s.putO dst (.cptr xs):=nr rfl
theorem ACM:Di s dst (.tmp u) (.clo f xs)=s.putO dst (.clo f xs):=nr rfl
theorem ACN:Di s dst (.tmp u) (.tup xs)=if BB xs then(if BB (PS s u 0 xs)then(s.clr u).putO dst (.tup xs)else s.putO dst (.tup (PS s u 0 xs)))else s.putO dst (.tup xs):=nr rfl
variable (pm:Pm)
theorem ACO:CQ pm s dst (.tmp u) (.int k n)=some (s.putO dst (.int k n)):=nr rfl
theorem A8b:CQ pm s dst (.tmp u) (.bool b)=some (s.putO dst (.bool b)):=nr rfl
theorem AJE:CQ pm s dst (.tmp u) (.sl e xs)=some (s.putO dst (.sl e xs)):=nr rfl
theorem ACP:CQ pm s dst (.tmp u) (.own e xs)=some ((s.clr u).putO dst (.own e xs)):=nr rfl
theorem ACQ:CQ pm s dst (.tmp u) (.box xs)=some ((s.clr u).putO dst (.box xs)):=nr rfl
theorem ACR(r:Nat):CQ pm s dst (.tmp u) (.vw [r] i j)=(Sg pm s [r] i j).map fun q=>q.2.putO dst q.1:=nr rfl
def asT(_s:St)(dst:Option Tmp)(a:Option (D×St))(b:Option St):Bool→Option St
 |true=>a.map fun q=>q.2.putO dst q.1
 |false=>b
theorem AJG(a:Option (D×St))(b:Option St):asT s dst a b true=a.map fun q=>q.2.putO dst q.1:=nr rfl
theorem AJH(a:Option (D×St))(b:Option St):asT s dst a b false=b:=nr rfl
theorem ACS(r r':Nat)(p:AJ):CQ pm s dst (.tmp u) (.vw (r::r'::p) i j)=asT s dst (DC pm s (.vw (r::r'::p) i j)) (some (s.putO dst (.vw (r::r'::p) i j))) (isT pm s r):=by
 by_cases h:isT pm s r=true
 ·have h':tC pm s (.vw (r::r'::p) i j)=true:=h;unfold CQ;simp only [h',h,if_true];rfl
 ·have h':tC pm s (.vw (r::r'::p) i j)=false:=Jw.mpr h;unfold CQ;simp only [h',Jw.mpr h];rfl
theorem AJI(r:Nat):isT pm s r=(pm.rd r&&A0P (s.v r)):=nr rfl
theorem ACT:A0P (.tup xs)=true:=nr rfl
theorem ACU:A0P (.own e xs)=false:=nr rfl
theorem ACV:A0P (.box xs)=false:=nr rfl
theorem ACW:CQ pm s dst (.tmp u) (.clo f xs)=some (s.putO dst (.clo f xs)):=nr rfl
end
section
variable (k:IntKind) (x y:Int) (p q:Bool) (a b:ByteArray)
theorem ACX:FQ .add (.int k x) (.int k y)=some (.int k (k.wrap (x+y))):=by simp [FQ]
theorem ACY:FQ .sub (.int k x) (.int k y)=some (.int k (k.wrap (x-y))):=by simp [FQ]
theorem ACZ:FQ .mul (.int k x) (.int k y)=some (.int k (k.wrap (x*y))):=by simp [FQ]
theorem ACa:FQ .quo (.int k x) (.int k y)=if y=0 then none else some (.int k (k.wrap (x.tdiv y))):=by simp [FQ]
theorem ACb:FQ .rem (.int k x) (.int k y)=if y=0 then none else some (.int k (x.tmod y)):=by simp [FQ]
theorem ACc:FQ .and (.int k x) (.int k y)=some (.int k (Nj .and k x y)):=by simp [FQ]
theorem A1G:FQ .andNot (.int k x) (.int k y)=some (.int k (Nj .andNot k x y)):=by simp [FQ]
theorem ACd(k':IntKind):FQ .shl (.int k x) (.int k' y)=if y<0 then none else some (.int k (k.wrap (x*2 ^ (min y.toNat k.bits)))):=by simp [FQ]
theorem ACe(k':IntKind):FQ .shr (.int k x) (.int k' y)=if y<0 then none else some (.int k (x.fdiv (2 ^ (min y.toNat k.bits)))):=by simp [FQ]
theorem AJJ:FQ .eql (.int k x) (.int k y)=some (.bool (decide (x=y))):=by simp [FQ];rfl
theorem AJK:FQ .neq (.int k x) (.int k y)=some (.bool (!decide (x=y))):=by simp [FQ];rfl
theorem AJL:FQ .lss (.int k x) (.int k y)=some (.bool (decide (x<y))):=by simp [FQ]
theorem AJM:FQ .leq (.int k x) (.int k y)=some (.bool (decide (x≤y))):=by simp [FQ]
theorem AJN:FQ .gtr (.int k x) (.int k y)=some (.bool (decide (y<x))):=by simp [FQ]
theorem AJO:FQ .geq (.int k x) (.int k y)=some (.bool (decide (y≤x))):=by simp [FQ]
theorem ACf:FQ .neq (.bool p) (.bool q)=some (.bool (!(p==q))):=nr rfl
theorem ACg:unD .not (.bool p)=some (.bool (!p)):=nr rfl
theorem boI(T:Tys)(t:TypeId):RP T t (.int k x)=true:=nr rfl
theorem boB(T:Tys)(t:TypeId):RP T t (.bool p)=match T.ty t with| .bool=>true|_=>false:=nr rfl
theorem boA(T:Tys)(t:TypeId)(k l:IntKind)(x y:Int):RP T t (.agg [.int k x,.int l y])=wh T k l (T.ty t):=nr rfl
theorem A8c(T:Tys)(k l:IntKind)(a b:TypeId):wh T k l (.struct [a,b])=(tF k (T.ty a)&&tF l (T.ty b)):=nr rfl
theorem ACh(k:IntKind):tF k (.int k)=true:=by simp [tF]
theorem ACi(k l:IntKind)(a b c d:Int):FQ .eql (.agg [.int k a,.int l b]) (.agg [.int k c,.int l d])=some (.bool ((a==c)&&(b==d))):=by simp [FQ]
theorem ACj(k l:IntKind)(a b c d:Int):FQ .neq (.agg [.int k a,.int l b]) (.agg [.int k c,.int l d])=some (.bool (!((a==c)&&(b==d)))):=by simp [FQ]
end
def KV(xs:AB):List D:=xs.map (D.int .i64)
theorem Eh(xs:AB):(KV xs).length=xs.length:=by simp [KV]
end Dv
namespace Dv
open Go
def zB:Value→Value→Bool
 | .int k n,.int k' n'=>decide (k=k')&&decide (n=n')
 | .bool b,.bool b'=>b==b'
 | .string s,.string s'=>s.size==0&&s'.size==0
 | .slice none 0 0,.slice none 0 0=>true
 | .nilFunc,.nilFunc=>true
 | .pointer none,.pointer none=>true
 |_,_=>false
theorem A5A{a b:Value}(h:zB a b=true):a=b:=by
 unfold zB at h
 split at h
 ·simp only [Gb,decide_eq_true_eq]at h;rw [h.1,h.2]
 ·simp only [beq_iff_eq]at h;rw [h]
 ·simp only [Gb,beq_iff_eq]at h
  rename_i s s'
  have: ∀t:ByteArray,t.size=0→t=ByteArray.empty:=by
   intro t ht;obtain⟨d⟩:=t;have:d= #[]:=Array.size_eq_zero_iff.1 ht
   rw [this];rfl
  rw [this s h.1,this s' h.2]
 ·rfl
 ·rfl
 ·rfl
 ·cases h
def zsB:List Value→List Value→Bool
 | [],[]=>true
 |a::as,b::bs=>zB a b&&zsB as bs
 |_,_=>false
theorem A1H: ∀ {a b:List Value},zsB a b=true→a=b
 | [],[],_=>rfl
 | [],_::_,h=>by cases h
 |_::_,[],h=>by cases h
 |a::as,b::bs,h=>by
  simp only [zsB,Gb]at h;rw [A5A h.1,A1H h.2]
def Vj(P:Program)(t:TypeId)(n:Nat)(z:Value):Bool:=
 match P.info? t with
 |some i=>(i.size==n)&&(decide (4<n)||decide (i.bytes≤128))&&(match i.zero,z with|some (.agg a),.agg b=>zsB a.toList b.toList|some v,z=>zB v z|_,_=>false)
 |none=>false
theorem PY{P:Program}{t:TypeId}{n:Nat}{z:Value}(h:Vj P t n z=true):RX P t n z:=by
 unfold Vj at h
 split at h
 ·rename_i i hi
  simp only [Gb,UI,beq_iff_eq,decide_eq_true_eq]at h
  refine⟨i,hi,h.1.1, ?_,fun h4=>h.1.2.resolve_left (by omega)⟩
  have h2:=h.2
  split at h2
  ·rename_i a b hz
   rw [hz];have:=A1H h2
   rw [←VB (xs:=a),this]
  ·rename_i v z' hz _
   rw [hz,A5A h2]
  ·cases h2
 ·cases h
def ky(P:Program)(T:Tys)(t:TypeId):Bool:=
 match T.ty t with
 | .int k=>(match P.underlying t with|some (.int k')=>decide (k'=k)|_=>false)&&Vj P t 1 (.int k 0)
 | .bool=>(match P.underlying t with|some .bool=>true|_=>false)&&Vj P t 1 (.bool false)
 | .string=>(match P.underlying t with|some .string=>true|_=>false)&&Vj P t 1 (.string ByteArray.empty)
 | .slice e=>(match P.underlying t with|some (.slice e')=>e'==e|_=>false)&&Vj P t 1 (.slice none 0 0)
 | .struct fs=>(match P.underlying t with
   |some (.struct fields)=>
    match T.nest t with
    |none=>(fields.size==fs.length)&&(List.range fields.size).all (fun j=>match fields[j]?,fs[j]? with|some f,some g=>(f.offset==j)&&(f.type==g)&&T.known g&& !T.isStruct g|_,_=>false)
    |some fl=>decide (4<fs.length)&&(fields.size==fl.length)&&(List.range fields.size).all (fun j=>match fields[j]?,fl[j]? with|some f,some g=>(f.offset==g.1)&&(f.type==g.2)&&T.known g.2|_,_=>false)
   |_=>false)&&Vj P t fs.length (.agg (fs.map (KS T)).toArray)
 | .func=>(match P.underlying t with|some (.func ..)=>true|_=>false)&&Vj P t 1 .nilFunc
 | .ptr=>(match P.underlying t with|some (.pointer _)=>true|_=>false)&&Vj P t 1 (.pointer none)
 | .map k e=>match P.underlying t with|some (.map k' e')=>(k'==k)&&(e'==e)|_=>false
 | .other=>true
theorem ug{P:Program}{T:Tys}{t:TypeId}(h:ky P T t=true):I5 P T t:=by
 unfold ky at h;unfold I5
 cases hty:T.ty t<;>rw [hty]at h<;>simp only [Gb]at h ⊢
 case int k=>
  refine⟨?_,PY h.2⟩
  have h1:=h.1
  split at h1
  ·rename_i k' hu;rw [hu];simp only [decide_eq_true_eq]at h1;rw [h1]
  ·cases h1
 case bool=>
  refine⟨?_,PY h.2⟩
  have h1:=h.1
  split at h1
  ·assumption
  ·cases h1
 case string=>
  refine⟨?_,PY h.2⟩
  have h1:=h.1
  split at h1
  ·assumption
  ·cases h1
 case map k e=>
  split at h
  ·rename_i k' e' hu;rw [hu];simp only [Gb,beq_iff_eq]at h;rw [h.1,h.2]
  ·cases h
 case slice e=>
  refine⟨?_,PY h.2⟩
  have h1:=h.1
  split at h1
  ·rename_i k' hu;rw [hu];simp only [beq_iff_eq]at h1;rw [h1]
  ·cases h1
 case struct fs=>
  refine⟨?_,PY h.2⟩
  have h1:=h.1
  split at h1
  ·rename_i fields hu
   refine⟨fields,hu, ?_⟩
   cases hn:T.nest t with
   |none=>
    simp only [hn,Gb,beq_iff_eq,KN,MJ]at h1 ⊢
    refine⟨h1.1,fun j f hf=> ?_⟩
    have hlt:=(eZ.1 hf).1;have:=h1.2 j hlt
    rw [hf]at this
    split at this
    ·rename_i f' g hf' hg
     simp only [Option.some.injEq]at hf';subst hf';simp only [Gb,beq_iff_eq,OT]at this;obtain⟨⟨⟨q1,q2⟩,q3⟩,q4⟩:=this;subst q2
     exact⟨q1,hg,q3,q4⟩
    ·cases this
   |some fl=>
    simp only [hn,Gb,beq_iff_eq,KN,MJ,decide_eq_true_eq]at h1 ⊢
    refine⟨h1.1.1,h1.1.2,fun j f hf=> ?_⟩
    have hlt:=(eZ.1 hf).1;have:=h1.2 j hlt
    rw [hf]at this
    split at this
    ·rename_i f' g hf' hg
     simp only [Option.some.injEq]at hf';subst hf';simp only [Gb,beq_iff_eq]at this;obtain⟨⟨q1,q2⟩,q3⟩:=this
     refine⟨?_,by rw [q2];exact q3⟩
     rw [hg,q1,q2]
    ·cases this
  ·cases h1
 case func=>
  refine⟨?_,PY h.2⟩
  have h1:=h.1
  split at h1
  ·exact⟨_,_,_,by assumption⟩
  ·cases h1
 case ptr=>
  refine⟨?_,PY h.2⟩
  have h1:=h.1
  split at h1
  ·exact⟨_,by assumption⟩
  ·cases h1
def zQ(tab:List Ty)(nst:List (TypeId×List (Nat×TypeId))):Tys:={ty:=fun t=>tab.getD t .other,nest:=fun t=>nst.lookup t}
theorem A8d{P:Program}{tab:List Ty}{nst:List (TypeId×List (Nat×TypeId))}(h:((List.range tab.length).all fun t=>ky P (zQ tab nst) t&&A3R P (zQ tab nst) t)=true):Cx P (zQ tab nst):=by
 intro t;rcases Nat.lt_or_ge t tab.length with ht|ht
 ·have:=KN.1 h t (MJ.2 ht)
  rw [Gb]at this
  exact⟨ug this.1,this.2⟩
 ·have:(zQ tab nst).ty t= .other:=by simp [zQ,Le,eu ht]
  refine⟨?_, ?_⟩
  ·unfold I5;rw [this];trivial
  ·unfold A3R;rw [this]
theorem AZ{Y:Sys}{f:FuncId}{fn:Func}{k:SC}{a l:List D}{r:D×List D}(hb:Y.base f a l=none)(hf:Y.P.funcs[f]? =some fn)(hok:Bj fn a.length=true)
  (hk:fn.body.map (BX Y.lends)=some k)(h:Br Y.env k (fin Y.T l.length fn.results.toList r) (entry a l)):Y.call f a l=some r:=by
 obtain⟨c,hc,hk⟩:=Dp.1 hk;exact Sys.call_wp hb hf hok hc hk h
end Dv
namespace Dv
open Go
section
variable (E:Env) (pm:Pm) (s:St) (dst:Option Tmp) (ty:TypeId) (u:Tmp) (t:TypeId)
theorem Np(o:Option D):(o.map fun r=>s.putO dst r)=OD s dst o:=by cases o<;>rfl
theorem Qt(o:Option (D×St)):(o.map fun r=>r.2.putO dst r.1)=ku dst o:=by cases o<;>rfl
theorem ACk:Pz E pm s dst (.move (.tmp u)) ty=some (Di s dst (.tmp u) (s.v u)):=nr rfl
def frB(pm:Pm):Option Tmp→Option St→Option St
 |some t,some s1=>Gc pm s1 (some t)
 |_,_=>none
def fcB(pm:Pm):Option Tmp→Option St→Option St
 |some t,some s1=>Qh pm s1 (some t)
 |_,_=>none
def fcD(s1:St)(t:Tmp)(e:TypeId):Option (List D)→Option St
 |some ys=>some (s1.set [t] (.own e ys))
 |none=>none
def fcC(s1:St)(t:Tmp):D→Option St
 | .own e xs=>fcD s1 t e (ED xs)
 |_=>none
theorem AJR(s1:St)(t:Tmp)(h1:pm.rd t=true)(h2:pm.wr t=true):fcB pm (some t) (some s1)=fcC s1 t (s1.v t):=by
 show Qh pm s1 (some t)=_
 unfold Qh fcC;dsimp only;rw [h1,h2]
 cases s1.v t with
 |own e xs=>simp only [Bool.and_self,if_true];cases ED xs<;>rfl
 |_=>rfl
theorem AJS(s1:St)(t:Tmp)(e:TypeId)(xs:List D):fcC s1 t (.own e xs)=fcD s1 t e (ED xs):=nr rfl
theorem AJT(s1:St)(t:Tmp)(e:TypeId)(ys:List D):fcD s1 t e (some ys)=some (s1.set [t] (.own e ys)):=nr rfl
theorem A3o:Pz E pm s dst (.assign (.tmp u)) ty=if ty=900003 then frB pm dst (CQ pm s dst (.tmp u) (s.v u))else if ty<1000000 then CQ pm s dst (.tmp u) (s.v u)else frB pm dst (CQ pm s dst (.tmp u) (s.v u)):=by
 have hfr:((CQ pm s dst (.tmp u) (s.v u)).bind fun s1=>Gc pm s1 dst)=frB pm dst (CQ pm s dst (.tmp u) (s.v u)):=by
  rcases CQ pm s dst (.tmp u) (s.v u)with _|s1<;>cases dst<;>rfl
 show(if A0Q ty=true then(CQ pm s dst (.tmp u) (s.v u)).bind fun s1=>Gc pm s1 dst else CQ pm s dst (.tmp u) (s.v u))=_
 rw [hfr];unfold A0Q;by_cases h1:ty=900003
 ·rw [if_pos h1,if_pos h1];rfl
 ·rw [if_neg h1,if_neg h1];by_cases h2:ty<1000000
  ·rw [if_pos h2,if_pos h2];rfl
  ·rw [if_neg h2,if_neg h2];rfl
theorem A1I(v:Value):Pz E pm s dst (.assign (.const v)) ty=if ty=900003 then frB pm dst (OD s dst (ev E.T s ty (.const v)))else if ty<1000000 then OD s dst (ev E.T s ty (.const v))else frB pm dst (OD s dst (ev E.T s (ty-1000000) (.const v))):=by
 have hfr: ∀t,((ev E.T s t (.const v)).bind fun d=>(CQ pm s dst (.const v) d).bind fun s1=>Gc pm s1 dst)=frB pm dst (OD s dst (ev E.T s t (.const v))):=by
  intro t
  cases ev E.T s t (.const v)<;>cases dst<;>rfl
 have hno: ∀t,((ev E.T s t (.const v)).bind fun d=>CQ pm s dst (.const v) d)=OD s dst (ev E.T s t (.const v)):=by
  intro t
  cases ev E.T s t (.const v)<;>rfl
 show((ev E.T s (A88 ty) (.const v)).bind fun d=>if A0Q ty=true then(CQ pm s dst (.const v) d).bind fun s1=>Gc pm s1 dst else CQ pm s dst (.const v) d)=_
 unfold A0Q A88;by_cases h1:ty=900003
 ·simp only [if_pos h1,if_true];exact hfr _
 ·by_cases h2:ty<1000000
  ·simp only [if_neg h1,if_pos h2,OB,if_false];exact hno _
  ·simp only [if_neg h1,if_neg h2,if_true];exact hfr _
theorem A8e(v:Value):Pz E pm s dst (.move (.const v)) ty=OD s dst (ev E.T s ty (.const v)):=by
 show((ev E.T s ty (.const v)).map fun d=>Di s dst (.const v) d)=_
 cases ev E.T s ty (.const v)<;>rfl
theorem ACl:Pz E pm s dst (.load t (.tmp u)) ty=OD s dst (G7 E.T pm s t (.tmp u) (s.v u)):=Np s dst _
theorem yUn(op:UnOp):Pz E pm s dst (.unOp op t (.tmp u)) ty=OD s dst (unD op (s.v u)):=Np s dst _
theorem A8f(i:Nat):Pz E pm s dst (.fieldAddr t (.tmp u) i) ty=OD s dst (Gp E.T pm s t (.tmp u) (s.v u) i):=Np s dst _
theorem AJU:Pz E pm s dst (.call ⟨.builtin .len, #[.tmp u], #[t]⟩) ty=OD s dst (UT E.T pm s t (.tmp u) (s.v u)):=Np s dst _
theorem A1J(i:Nat):Pz E pm s dst (.extract (.tmp u) i) ty=Kk s dst (.tmp u) (s.v u) i:=nr rfl
def slC(T:Tys)(pm:Pm)(s:St)(dst:Option Tmp)(t:TypeId)(x:Operand)(hi:Option Operand):Option Operand→Option Operand→Option St
 |none,none=>ku dst (Xb T pm s t x hi)
 |_,_=>none
def slF(T:Tys)(pm:Pm)(s:St)(dst:Option Tmp)(t:TypeId)(x:Operand)(lo:Option Operand):Option Operand→Option Operand→Option St
 |none,none=>ku dst (PM T pm s t x lo)
 |_,_=>none
theorem AJV(T:Tys)(x:Operand)(lo:Option Operand):slF T pm s dst t x lo none none=ku dst (PM T pm s t x lo):=nr rfl
theorem A8g(lo hi mx:Option Operand):Pz E pm s dst (.slice t (.tmp u) lo hi mx) ty=
  if ty=900002 then slC E.T pm s dst t (.tmp u) hi lo mx
  else if ty=900005 then slF E.T pm s dst t (.tmp u) lo hi mx
  else if ty=900001 then ku dst (Kj E.T pm.see s t (.tmp u) (s.v u) lo hi mx)else ku dst (Kj E.T pm s t (.tmp u) (s.v u) lo hi mx):=by
 show(if ty=900002 then(if lo.isNone&&mx.isNone then(Xb E.T pm s t (.tmp u) hi).map fun r=>r.2.putO dst r.1 else none)
  else if ty=900005 then(if hi.isNone&&mx.isNone then(PM E.T pm s t (.tmp u) lo).map fun r=>r.2.putO dst r.1 else none)
  else(ev E.T s t (.tmp u)).bind fun d=>(Kj E.T (if ty=900001 then pm.see else pm) s t (.tmp u) d lo hi mx).map fun r=>r.2.putO dst r.1)=_
 split
 ·cases lo<;>cases mx<;>first|rfl|exact Qt dst _
 ·split
  ·cases hi<;>cases mx<;>first|rfl|exact Qt dst _
  ·split
   ·exact Qt dst _
   ·exact Qt dst _
def apI(T:Tys)(pm:Pm)(s:St)(t:TypeId)(x y:Operand)(d:D):Option (D×St):=if isZ (some d)then PN T pm s t x else JE T pm s t x y
theorem A3p(x:Operand)(v:Tmp):Pz E pm s dst (.call ⟨.builtin .append, #[x,.tmp v], #[t,t]⟩) ty=ku dst (apI E.T pm s t x (.tmp v) (s.v v)):=by
 rw [uf,if_pos rfl,Qt];rfl
def mn1(mx:Bool):Option D→Option D→Option D
 |some a,some b=>jr mx a b
 |_,_=>none
theorem AJW(mx:Bool)(a b:D):mn1 mx (some a) (some b)=jr mx a b:=nr rfl
theorem ACm(k:IntKind)(x y:Int):jr false (.int k x) (.int k y)=some (.int k (KO x y)):=by simp [jr]
theorem AJX(x y:Operand)(t':TypeId):Pz E pm s dst (.call ⟨.builtin .min, #[x,y], #[t,t']⟩) ty=OD s dst (mn1 false (ev E.T s t x) (ev E.T s t' y)):=by
 show(match ev E.T s t x,ev E.T s t' y with|some a,some b=>(jr false a b).map fun r=>s.putO dst r|_,_=>none)=_
 cases ev E.T s t x<;>cases ev E.T s t' y<;>first|rfl|exact Np s dst _
theorem AJY(T:Tys)(x y:Operand)(e:TypeId)(xs:List D):apI T pm s t x y (.sl e xs)=JE T pm s t x y:=nr rfl
theorem ACn(T:Tys)(x y:Operand)(e:TypeId)(xs:List D):apI T pm s t x y (.own e xs)=JE T pm s t x y:=nr rfl
theorem apK(T:Tys)(x y:Operand)(A:Option Addr)(c:Nat):apI T pm s t x y (.konst (.slice A 0 c))=PN T pm s t x:=nr rfl
def ix1(T:Tys)(pm:Pm)(s:St)(t:TypeId)(x:Operand)(d:D):Option D→Option D
 |some i=>YF T pm s t x d i
 |none=>none
theorem AJZ(T:Tys)(x:Operand)(d i:D):ix1 T pm s t x d (some i)=YF T pm s t x d i:=nr rfl
theorem A8h(i:Operand):Pz E pm s dst (.indexAddr t (.tmp u) i) ty=OD s dst (ix1 E.T pm s t (.tmp u) (s.v u) (ev E.T s 0 i)):=by
 show(match some (s.v u),ev E.T s 0 i with
  |some a,some b=>(YF E.T pm s t (.tmp u) a b).map fun r=>s.putO dst r
  |_,_=>none)=_
 cases ev E.T s 0 i with
 |none=>rfl
 |some b=>exact Np s dst _
def mk1(T:Tys)(t:TypeId):Option D→Option D→Option D
 |some a,some b=>Fp T t a b
 |_,_=>none
theorem AJa(T:Tys)(a b:D):mk1 T t (some a) (some b)=Fp T t a b:=nr rfl
theorem AJb(l c:Operand):fI E.T s dst t l c=OD s dst (mk1 E.T t (ev E.T s 0 l) (ev E.T s 0 c)):=by
 show(match ev E.T s 0 l,ev E.T s 0 c with
  |some a,some b=>(Fp E.T t a b).map fun r=>s.putO dst r
  |_,_=>none)=_
 cases ev E.T s 0 l<;>cases ev E.T s 0 c<;>first|rfl|exact Np s dst _
theorem ACp(l c:Operand):Pz E pm s dst (.makeSlice t l c) ty=if ty=900012 then fcB pm dst (OD s dst (mk1 E.T t (ev E.T s 0 l) (ev E.T s 0 c)))else OD s dst (mk1 E.T t (ev E.T s 0 l) (ev E.T s 0 c)):=by
 rw [fq,AJb];by_cases h:ty=900012
 ·rw [if_pos h,if_pos h]
  cases OD s dst (mk1 E.T t (ev E.T s 0 l) (ev E.T s 0 c))<;>cases dst<;>rfl
 ·rw [if_neg h,if_neg h]
def cv1(s:St)(dst:Option Tmp):Option D→Ty→Option St
 |some (.int _ n),.int k=>some (s.putO dst (.int k (k.wrap n)))
 |some (.str b),.string=>some (s.putO dst (.str b))
 |_,_=>none
theorem AJc(k k':IntKind)(n:Int):cv1 s dst (some (.int k n)) (.int k')=some (s.putO dst (.int k' (k'.wrap n))):=nr rfl
theorem A1K(src d:TypeId)(x:Operand):Pz E pm s dst (.convert src d x) ty=if E.T.known src then cv1 s dst (ev E.T s src x) (E.T.ty d)else none:=by
 rw [qW];split
 ·rcases ev E.T s src x with _|d'<;>cases E.T.ty d<;>first|rfl|(cases d'<;>rfl)
 ·rfl
def asM(l:List TypeId):List TypeId:=l.map fun _=>900013
theorem ACq(f:FuncId)(args:Array Operand)(ts:Array TypeId)(h:args.size=ts.size):Pz E pm s dst (.call ⟨.value (.func f),args,ts⟩) ty=if ty=900014 then frB pm dst (Il E pm s dst f (args.toList.zip ts.toList) [])else Il E pm s dst f (args.toList.zip (if ty=900013 then asM ts.toList else ts.toList)) []:=by
 rw [A1D,if_pos h];by_cases c:ty=900014
 ·rw [if_pos c,if_pos c];have e:Sk ty ts.toList=ts.toList:=by unfold Sk;rw [c,if_neg (by decide)]
  rw [e];unfold frB
  cases Il E pm s dst f (args.toList.zip ts.toList) []with
  |none=>cases dst<;>rfl
  |some s1=>cases dst<;>rfl
 ·rw [if_neg c,if_neg c]
  unfold Sk asM;rfl
end
section
variable {T:Tys} {pm:Pm} {s:St} {t:TypeId}
theorem ldC(x:Operand)(xs:List D)(hk:T.known t=true)(hs:T.isStruct t=false):G7 T pm s t x (.cptr xs)=xs[0]? :=by simp [G7,hk,hs]
theorem AJd(x:Operand)(xs:List D)(hk:T.known t=true)(hs:T.isStruct t=true):G7 T pm s t x (.cptr xs)=if T.size t≤xs.length then some (.agg (xs.take (T.size t)))else none:=by simp [G7,hk,hs]
def TB(s:St)(L:AJ)(c:Nat):Option D→Option D
 |some o=>(o.cells[c]?).bind fun x=>Eo (KJ s L c x)
 |none=>none
def cellsOf(s:St)(L:AJ)(c n:Nat):Option D→Option D
 |some o=>if c+n≤o.cells.length then Eo (.agg ((List.range n).map fun i=>KJ s L (c+i) (o.cells.getD (c+i) .undef)))else none
 |none=>none
theorem ldP(x:Operand)(L:AJ)(c n m:Nat)(hk:T.known t=true)(hs:T.isStruct t=false):G7 T pm s t x (.pe L c n m)=TB s L c (s.look pm L n m):=by
 simp only [G7,hk,hs,if_true,K9]
 cases s.look pm L n m<;>simp [TB]
theorem AJe(x:Operand)(L:AJ)(c n m:Nat)(hk:T.known t=true)(hs:T.isStruct t=true):G7 T pm s t x (.pe L c n m)=cellsOf s L c (T.size t) (s.look pm L n m):=by
 simp only [G7,hk,hs,if_true,K9]
 cases s.look pm L n m<;>simp [cellsOf]
theorem ldB(u:Tmp)(xs:List D)(hk:T.known t=true)(hs:T.isStruct t=false):G7 T pm s t (.tmp u) (.box xs)=TB s [u] 0 (some (.box xs)):=by
 simp only [G7,hk,hs,if_true,K9];simp [TB]
theorem AJf(u:Tmp)(xs:List D)(hk:T.known t=true)(hs:T.isStruct t=true):G7 T pm s t (.tmp u) (.box xs)=cellsOf s [u] 0 (T.size t) (some (.box xs)):=by
 simp only [G7,hk,hs,if_true,K9];simp [cellsOf]
def Xr(s:St)(pm:Pm)(L:AJ)(n m:Nat):Option D:=
 match s.look pm L n m with
 |some (.box xs)=>some (.box xs)
 |_=>none
theorem ldV(x:Operand)(L:AJ)(n m:Nat)(hk:T.known t=true)(hs:T.isStruct t=false):G7 T pm s t x (.vw L n m)=TB s L 0 (Xr s pm L n m):=by
 simp only [G7,hk,hs,if_true,K9,Xr]
 cases s.look pm L n m with
 |none=>simp [TB]
 |some o=>cases o<;>simp [TB]
def qX:D→Option D
 | .own e xs=>some (.own e xs)
 | .box xs=>some (.box xs)
 |_=>none
theorem A8i(e:TypeId)(xs:List D):qX (.own e xs)=some (.own e xs):=nr rfl
theorem A8j(xs:List D):qX (.box xs)=some (.box xs):=nr rfl
theorem ACr(u n m:Nat):s.look pm [u] n m=if pm.rd u&&(s.k u==n)then qX (s.v u)else none:=by
 simp only [St.look,List.isEmpty_nil,Bool.true_or,fG,Bz];split
 ·cases s.v u<;>rfl
 ·rfl
def ACs:Option D→Option D
 |some d=>qX d
 |none=>none
theorem ACt(u c n m:Nat)(p:AJ):s.look pm (u::c::p) n m=if pm.rd u&&(s.k u==n)&&(s.m u==m)then ACs (Bz (s.v u) (c::p))else none:=by
 simp only [St.look,List.isEmpty_cons,Bool.false_or];split
 ·cases Bz (s.v u) (c::p)with
  |none=>rfl
  |some d=>cases d<;>rfl
 ·rfl
theorem ACu(d:D):ACs (some d)=qX d:=nr rfl
theorem AJg(x:Operand)(e:TypeId)(xs:List D):EB pm s x (.sl e xs)=some (e,xs,none):=nr rfl
theorem ACv(u:Tmp)(e:TypeId)(xs:List D):EB pm s (.tmp u) (.own e xs)=some (e,xs,some ([u],s.k u,s.m u)):=nr rfl
def ACw(L:AJ)(n m:Nat):Option D→Option (TypeId×List D×Option (AJ×Nat×Nat))
 |some (.own e xs)=>some (e,xs,some (L,n,m))
 |_=>none
theorem ACx(L:AJ)(n m:Nat)(e:TypeId)(xs:List D):ACw L n m (some (.own e xs))=some (e,xs,some (L,n,m)):=nr rfl
theorem AJh(x:Operand)(L:AJ)(n m:Nat):EB pm s x (.vw L n m)=ACw L n m (s.look pm L n m):=by
 simp only [EB]
 cases s.look pm L n m with
 |none=>rfl
 |some o=>cases o<;>rfl
def A3q(T:Tys):Option (TypeId×List D×Option (AJ×Nat×Nat))→Option D
 |some (e,xs,_)=>if T.known e then some (.int .i64 (T.len e xs))else none
 |none=>none
theorem ACy(e:TypeId)(xs:List D)(o:Option (AJ×Nat×Nat))(hk:T.known e=true):A3q T (some (e,xs,o))=some (.int .i64 (T.len e xs)):=by simp [A3q,hk]
def ln0(T:Tys)(pm:Pm)(s:St)(x:Operand)(d:D):Ty→Option D
 | .string=>match d with| .str b=>some (.int .i64 b.size)|_=>none
 | .slice _=>A3q T (EB pm s x d)
 |_=>none
theorem lnT(x:Operand)(d:D):S9 T pm s t x d=ln0 T pm s x d (T.ty t):=by
 unfold S9 ln0
 cases T.ty t with
 |slice e=>
  simp only
  cases EB pm s x d with
  |none=>rfl
  |some q=>rfl
 |string=>cases d<;>rfl
 |_=>rfl
theorem ACz(x:Operand)(e:TypeId)(xs:List D):UT T pm s t x (.sl e xs)=S9 T pm s t x (.sl e xs):=nr rfl
theorem A8k(x:Operand)(e:TypeId)(xs:List D):UT T pm s t x (.own e xs)=S9 T pm s t x (.own e xs):=nr rfl
def lnW(T:Tys)(pm:Pm)(s:St)(t:TypeId)(x:Operand)(L:AJ)(n m:Nat):Ty→Option D
 | .map _ _=>(s.lookM pm L n).map fun q=> .int .i64 q.2.2.length
 |_=>S9 T pm s t x (.vw L n m)
theorem AD0(x:Operand)(L:AJ)(n m:Nat):UT T pm s t x (.vw L n m)=lnW T pm s t x L n m (T.ty t):=by
 show(match T.ty t with| .map _ _=>oV T pm s t x (.vw L n m)|_=>oU T pm s t x (.vw L n m))=_
 unfold lnW oV
 cases h:T.ty t<;>simp only [jv]<;>first|rfl|(cases s.lookM pm L n<;>rfl)
theorem AJk(T:Tys)(x:Operand)(L:AJ)(n m:Nat)(e:TypeId):lnW T pm s t x L n m (.slice e)=S9 T pm s t x (.vw L n m):=nr rfl
theorem AD1(x:Operand)(e:TypeId)(xs:List D)(i:D):YF T pm s t x (.sl e xs) i=F5 T pm s t x (.sl e xs) i:=nr rfl
theorem A8l(x:Operand)(e:TypeId)(xs:List D)(i:D):YF T pm s t x (.own e xs) i=F5 T pm s t x (.own e xs) i:=nr rfl
theorem AD2(x:Operand)(L:AJ)(n m:Nat)(i:D):YF T pm s t x (.vw L n m) i=F5 T pm s t x (.vw L n m) i:=nr rfl
theorem AJl(x:Operand)(d:D)(e:TypeId):ln0 T pm s x d (.slice e)=A3q T (EB pm s x d):=nr rfl
theorem AD3(e:TypeId)(xs:List D)(h:T.size e=1):T.len e xs=xs.length:=by simp [Tys.len,h]
def zR(T:Tys)(e:TypeId)(n:Int):Option (TypeId×List D×Option (AJ×Nat×Nat))→Option D
 |some (e',xs,o)=>
  if e'=e∧T.known e=true∧0≤n∧n.toNat<T.len e xs then
   match o with
   |none=>some (.cptr ((xs.drop (n.toNat*T.size e)).take (T.size e)))
   |some (L,a,b)=>some (.pe L (n.toNat*T.size e) a b)
  else none
 |none=>none
def ix0(T:Tys)(pm:Pm)(s:St)(x:Operand)(d:D)(n:Int):Ty→Option D
 | .slice e=>zR T e n (EB pm s x d)
 |_=>none
theorem ixT(x:Operand)(d:D)(k:IntKind)(n:Int):F5 T pm s t x d (.int k n)=ix0 T pm s x d n (T.ty t):=by
 unfold F5 ix0
 cases T.ty t with
 |slice e=>
  simp only
  cases EB pm s x d with
  |none=>rfl
  |some q=>rfl
 |_=>rfl
theorem AJn(x:Operand)(d:D)(n:Int)(e:TypeId):ix0 T pm s x d n (.slice e)=zR T e n (EB pm s x d):=nr rfl
theorem AJo(e:TypeId)(n:Int)(xs:List D)(hk:T.known e=true)(hz:T.size e=1)(hn:0≤n∧n.toNat<xs.length):zR T e n (some (e,xs,none))=some (.cptr [xs.getD n.toNat .undef]):=by
 simp only [zR,hk,hz,Tys.len,if_true];rw [if_pos ⟨trivial,trivial,hn.1,hn.2⟩,Pw,ed hn.2,Le,Kh hn.2];rfl
theorem AJp(e:TypeId)(n:Int)(xs:List D)(L:AJ)(a b:Nat)(hk:T.known e=true)(hz:T.size e=1)(hn:0≤n∧n.toNat<xs.length):zR T e n (some (e,xs,some (L,a,b)))=some (.pe L n.toNat a b):=by
 simp only [zR,hk,hz,Tys.len,if_true];rw [if_pos ⟨trivial,trivial,hn.1,hn.2⟩,Pw]
end
section
variable {T:Tys} {pm:Pm} {s:St} {t:TypeId} (u:Tmp)
def o9(pm:Pm)(s:St)(u:Tmp)(d:D):Option (D×St):=DC pm (if d.hasObj then s.clr u else s) d
theorem AD4:take T pm s t (.tmp u)=o9 pm s u (s.v u):=nr rfl
theorem tkC(v:Value):take T pm s t (.const v)=match ev T s t (.const v)with|none=>none|some d=>DC pm s d:=nr rfl
theorem AD5(k:IntKind)(n:Int):DC pm s (.int k n)=some (.int k n,s):=by simp [DC]
theorem A8m(b:Bool):DC pm s (.bool b)=some (.bool b,s):=by simp [DC]
theorem AJq(e:TypeId)(xs:List D):DC pm s (.sl e xs)=some (.sl e xs,s):=by simp [DC]
theorem AD6(e:TypeId)(xs:List D):DC pm s (.own e xs)=some (.own e xs,s):=by simp [DC]
theorem AJr(L:AJ)(n m:Nat):DC pm s (.vw L n m)=Sg pm s L n m:=by simp [DC]
def td1:Option (List D×St)→Option (D×St)
 |some r=>some (.agg r.1,r.2)
 |none=>none
theorem AJs(r:List D×St):td1 (some r)=some (.agg r.1,r.2):=nr rfl
theorem AD8(xs:List D):DC pm s (.agg xs)=td1 (G6 pm s xs):=by simp only [DC];cases G6 pm s xs<;>rfl
def td2(pm:Pm)(ds:List D):Option (D×St)→Option (List D×St)
 |some r=>(G6 pm r.2 ds).map fun q=>(r.1::q.1,q.2)
 |none=>none
theorem AJt(ds:List D)(d:D):td2 pm ds (some (d,s))=(G6 pm s ds).map fun q=>(d::q.1,q.2):=nr rfl
theorem A8n:G6 pm s []=some ([],s):=by simp [G6]
theorem A3r(d:D)(ds:List D):G6 pm s (d::ds)=td2 pm ds (DC pm s d):=by simp only [G6];cases DC pm s d<;>rfl
theorem AD9(k:IntKind)(n:Int):o9 pm s u (.int k n)=some (.int k n,s):=by simp [o9,DC,D.hasObj]
theorem A8o(b:Bool):o9 pm s u (.bool b)=some (.bool b,s):=by simp [o9,DC,D.hasObj]
theorem AJu(e:TypeId)(xs:List D):o9 pm s u (.sl e xs)=some (.sl e xs,s):=by simp [o9,DC,D.hasObj]
theorem ADA(e:TypeId)(xs:List D):o9 pm s u (.own e xs)=some (.own e xs,s.clr u):=by simp [o9,DC,D.hasObj]
theorem ADB(f:FuncId)(xs:List D):o9 pm s u (.clo f xs)=some (.clo f xs,s):=by simp [o9,DC,D.hasObj]
theorem A8p(xs:List D):o9 pm s u (.cptr xs)=some (.cptr xs,s):=by simp [o9,DC,D.hasObj]
theorem AJv(L:AJ)(n m:Nat):o9 pm s u (.vw L n m)=Sg pm s L n m:=by simp [o9,DC,D.hasObj]
theorem ADC(xs:List D):o9 pm s u (.agg xs)=td1 (G6 pm (if BB xs then s.clr u else s) xs):=by
 simp only [o9,D.hasObj];rw [AD8];rfl
theorem A8q:BB []=false:=by simp [BB]
theorem xC(d:D)(ds:List D):BB (d::ds)=(d.hasObj||BB ds):=by simp [BB]
theorem ADE(e:TypeId)(xs:List D):(D.sl e xs).hasObj=false:=by simp [D.hasObj]
theorem ADF(e:TypeId)(xs:List D):(D.own e xs).hasObj=true:=by simp [D.hasObj]
theorem ADG(xs:List D):(D.box xs).hasObj=true:=by simp [D.hasObj]
theorem AJw(L:AJ)(n m:Nat):(D.vw L n m).hasObj=false:=by simp [D.hasObj]
theorem hoU:D.undef.hasObj=false:=by simp [D.hasObj]
theorem ADH(xs:List D):(D.tup xs).hasObj=BB xs:=by simp [D.hasObj]
def pl1(s:St)(r:Nat):Option D→Option (D×St)
 |some c=>some (c,s.set [r] .undef)
 |none=>none
theorem AJy(r:Nat)(c:D):pl1 s r (some c)=some (c,s.set [r] .undef):=nr rfl
theorem ADI(r n m:Nat)(hw:pm.wr r=true):Sg pm s [r] n m=pl1 s r (s.look pm [r] n m):=by
 unfold Sg
 cases s.look pm [r] n m with
 |none=>rfl
 |some c=>simp [hw,St.get,pl1]
def pl2(s:St)(L:AJ)(o:Option D):Option D→Option (D×St)
 |some c=>match o with
  |some (.own _ _)=>(F3 c).map fun c'=>(c',s.set L c')
  |_=>some (c,s.set L .undef)
 |none=>none
theorem AJz(L:AJ)(xs:List D)(c:D):pl2 s L (some (.box xs)) (some c)=some (c,s.set L .undef):=nr rfl
theorem AK0(L:AJ)(e:TypeId)(xs:List D)(c:D):pl2 s L (some (.own e xs)) (some c)=(F3 c).map fun c'=>(c',s.set L c'):=nr rfl
theorem ADK(u' c n m:Nat)(p:AJ)(hw:pm.wr u'=true):Sg pm s (u'::c::p) n m=pl2 s (u'::c::p) (s.get (u'::c::p).dropLast) (s.look pm (u'::c::p) n m):=by
 unfold Sg
 cases s.look pm (u'::c::p) n m with
 |none=>rfl
 |some d=>simp only [fC,hw,if_true,pl2];rfl
theorem AK1(r:Nat):s.get [r]=some (s.v r):=nr rfl
theorem ADL(d:D):Bz d []=some d:=by cases d<;>rfl
theorem ADM(e:TypeId)(xs:List D)(c:Nat)(p:AJ):Bz (.own e xs) (c::p)=(xs[c]?).bind fun d=>Bz d p:=nr rfl
theorem ADN(xs:List D)(c:Nat)(p:AJ):Bz (.box xs) (c::p)=(xs[c]?).bind fun d=>Bz d p:=nr rfl
theorem ADO(d x:D):Jy d [] x=x:=by cases d<;>rfl
theorem ADP(e:TypeId)(xs:List D)(c:Nat)(p:AJ)(x:D):Jy (.own e xs) (c::p) x= .own e (xs.set c (Jy (xs.getD c .undef) p x)):=nr rfl
theorem ADQ(xs:List D)(c:Nat)(p:AJ)(x:D):Jy (.box xs) (c::p) x= .box (xs.set c (Jy (xs.getD c .undef) p x)):=nr rfl
end
section
variable {T:Tys} {pm:Pm} {s:St} {t:TypeId}
def oD(T:Tys)(pm:Pm)(t:TypeId)(ax:Operand):Option (D×St)→Option St
 |none=>none
 |some (d,s1)=>
  match ev T s1 t ax with
  |none=>none
  |some ad=>
   match K9 pm s1 ax ad with
   |none=>none
   |some (L,c,o)=>
    if T.known t&&pm.wr (L.headD 0)&&d.asCells.all EE&&(T.size t==d.asCells.length)&&(T.isStruct t==d.isAgg)&&decide (c+T.size t≤o.cells.length)then
     let s2:=s1.set L (o.withCells (D8 o.cells c d.asCells))
     some (if d.hasObj||BB o.cells then s2.bump (L.headD 0)else s2)
    else none
theorem A8r(ax x:Operand):MN T pm s t ax x=oD T pm t ax (take T pm s t x):=by
 unfold MN JD oD;rcases take T pm s t x with _|⟨d,s1⟩<;>rfl
def tm1(T:Tys)(pm:Pm)(s:St)(t:TypeId)(u:Tmp):D→Option (D×St)
 | .vw L n m=>ZE pm s L n m
 |_=>take T pm s t (.tmp u)
theorem A8s(u:Tmp):PL T pm s t (.tmp u)=tm1 T pm s t u (s.v u):=by
 unfold PL;simp only [ev]
 cases s.v u<;>rfl
def tm2(s:St)(L:AJ):Option D→Option (D×St)
 |some c=>some (c,s.set L .undef)
 |none=>none
theorem AK4(u:Tmp)(L:AJ)(n m:Nat)(hw:pm.wr (L.headD 0)=true):tm1 T pm s t u (.vw L n m)=tm2 s L (s.look pm L n m):=by
 show ZE pm s L n m=_
 unfold ZE tm2
 cases s.look pm L n m with
 |none=>rfl
 |some c=>simp only [hw,if_true]
theorem A8t(u:Tmp)(e:TypeId)(xs:List D):tm1 T pm s t u (.own e xs)=take T pm s t (.tmp u):=nr rfl
theorem AK5(L:AJ)(c:D):tm2 s L (some c)=some (c,s.set L .undef):=nr rfl
def st2(s1:St)(L:AJ)(c:Nat)(d:D):Option D→Option St
 |none=>none
 |some o=>if c<o.cells.length then(if d.hasObj||BB o.cells then some ((s1.set L (o.withCells (o.cells.set c d))).bump (L.headD 0))else some (s1.set L (o.withCells (o.cells.set c d))))else none
def sd1(T:Tys)(pm:Pm)(t:TypeId)(u:Tmp)(d:D)(s:St):D→Option St
 | .pe L c n m=>if T.known t&& !T.isStruct t&&pm.wr (L.headD 0)&&EE d then st2 s L c d (s.look pm L n m)else oD T pm t (.tmp u) (some (d,s))
 | .vw L n m=>if T.known t&& !T.isStruct t&&pm.wr (L.headD 0)&&EE d then st2 s L 0 d (Xr s pm L n m)else oD T pm t (.tmp u) (some (d,s))
 | .box xs=>if T.known t&& !T.isStruct t&&pm.wr u&&EE d then st2 s [u] 0 d (some (.box xs))else oD T pm t (.tmp u) (some (d,s))
 |_=>oD T pm t (.tmp u) (some (d,s))
theorem TC{d:D}(hd:EE d=true):d.asCells=[d]∧d.isAgg=false:=by
 cases d<;>first|exact⟨rfl,rfl⟩|(simp [EE]at hd)
theorem TD{T:Tys}{t:TypeId}(hs:T.isStruct t=false):T.size t=1:=by
 unfold Tys.isStruct at hs;unfold Tys.size
 cases hty:T.ty t<;>simp_all [Ty.isStruct,Ty.size]
theorem AK6(u:Tmp)(d:D)(_:d.isAgg=false):oD T pm t (.tmp u) (some (d,s))=sd1 T pm t u d s (s.v u):=by
 cases hv:s.v u<;>simp only [sd1]
 case pe L c n m=>
  split
  ·rename_i hc
   simp only [Gb,OT]at hc;obtain⟨⟨⟨hk,hs⟩,hw⟩,hd⟩:=hc;obtain⟨ha,hg⟩:=TC hd;have hz:=TD hs;simp only [oD,ev,hv,K9]
   cases s.look pm L n m with
   |none=>rfl
   |some o=>
    simp only [st2,hk,hw,ha,hz,hs,hg,YD,hd,List.all_nil,Lb,Sd,fG,D8,beq_self_eq_true,MK];by_cases hc:c<o.cells.length
    ·have h1:c+1≤o.cells.length:=hc;simp only [hc,h1,decide_true,fG,if_true];split<;>first|rfl|(rename_i hq;simp only [hq];rfl)
    ·have h1: ¬c+1≤o.cells.length:=hc;simp only [hc,h1,decide_false,Bool.and_false,OB,if_false]
  ·rfl
 case vw L n m=>
  split
  ·rename_i hc
   simp only [Gb,OT]at hc;obtain⟨⟨⟨hk,hs⟩,hw⟩,hd⟩:=hc;obtain⟨ha,hg⟩:=TC hd;have hz:=TD hs;simp only [oD,ev,hv,K9,Xr]
   cases s.look pm L n m with
   |none=>rfl
   |some o=>
    cases o<;>try rfl
    rename_i xs
    simp only [st2,hk,hw,ha,hz,hs,hg,YD,hd,List.all_nil,Lb,Sd,fG,D8,beq_self_eq_true,MK,D.cells];by_cases hc:0<xs.length
    ·have h1:1≤xs.length:=hc;simp only [hc,h1,decide_true,fG,if_true];split<;>first|rfl|(rename_i hq;simp only [hq];rfl)
    ·have h1: ¬1≤xs.length:=hc;simp only [hc,h1,decide_false,Bool.and_false,OB,if_false]
  ·rfl
 case box xs=>
  split
  ·rename_i hc
   simp only [Gb,OT]at hc;obtain⟨⟨⟨hk,hs⟩,hw⟩,hd⟩:=hc;obtain⟨ha,hg⟩:=TC hd;have hz:=TD hs;simp only [oD,ev,hv,K9];simp only [st2,hk,hw,ha,hz,hs,hg,YD,hd,List.all_nil,Lb,Sd,fG,D8,beq_self_eq_true,MK,D.cells,fC];by_cases hc:0<xs.length
   ·have h1:1≤xs.length:=hc;simp only [hc,h1,decide_true,fG,if_true];split<;>first|rfl|(rename_i hq;simp only [hq];rfl)
   ·have h1: ¬1≤xs.length:=hc;simp only [hc,h1,decide_false,Bool.and_false,OB,if_false]
  ·rfl
theorem AK7(u:Tmp)(d:D)(L:AJ)(c n m:Nat)(hk:T.known t=true)(hs:T.isStruct t=false)(hw:pm.wr (L.headD 0)=true)(hd:EE d=true):sd1 T pm t u d s (.pe L c n m)=st2 s L c d (s.look pm L n m):=by
 simp [sd1,hk,hs,hd];intro h;simp_all
theorem AK8(u:Tmp)(d:D)(xs:List D)(hk:T.known t=true)(hs:T.isStruct t=false)(hw:pm.wr u=true)(hd:EE d=true):sd1 T pm t u d s (.box xs)=st2 s [u] 0 d (some (.box xs)):=by
 simp [sd1,hk,hs,hd];intro h;simp_all
def bx1:Option D→Option D
 |some (.box xs)=>some (.box xs)
 |_=>none
theorem bxA(L:AJ)(n m:Nat):Xr s pm L n m=bx1 (s.look pm L n m):=by
 unfold Xr bx1
 cases s.look pm L n m with
 |none=>rfl
 |some o=>cases o<;>rfl
theorem AKA(xs:List D):bx1 (some (.box xs))=some (.box xs):=nr rfl
theorem hdC(a:Nat)(l:AJ)(d:Nat):List.headD (a::l) d=a:=nr rfl
theorem AKB(L:AJ)(c:Nat)(d o:D):st2 s L c d (some o)=if c<o.cells.length then(if d.hasObj||BB o.cells then some ((s.set L (o.withCells (o.cells.set c d))).bump (L.headD 0))else some (s.set L (o.withCells (o.cells.set c d))))else none:=nr rfl
theorem ADR(e:TypeId)(xs:List D):(D.own e xs).cells=xs:=nr rfl
theorem ADS(xs:List D):(D.box xs).cells=xs:=nr rfl
theorem ADT(e:TypeId)(xs ys:List D):(D.own e xs).withCells ys= .own e ys:=nr rfl
theorem ADU(xs ys:List D):(D.box xs).withCells ys= .box ys:=nr rfl
theorem ADV(k:IntKind)(n:Int):EE (.int k n)=true:=nr rfl
theorem A8u(b:Bool):EE (.bool b)=true:=nr rfl
theorem ADW(e:TypeId)(xs:List D):EE (.own e xs)=true:=nr rfl
theorem ceS(L:AJ)(c:Nat)(o:D):TB s L c (some o)=(o.cells[c]?).bind fun x=>Eo (KJ s L c x):=nr rfl
theorem AKC(L:AJ)(c:Nat)(e:TypeId)(xs:List D):Eo (KJ s L c (.sl e xs))=some (.sl e xs):=nr rfl
theorem A8v(L:AJ)(c:Nat)(xs:List D):Eo (KJ s L c (.cptr xs))=some (.cptr xs):=nr rfl
theorem AKD(r:Nat)(p:AJ):su s (r::p)= .vw (r::p) (s.k r) (s.m r):=nr rfl
def ap1(T:Tys)(pm:Pm)(e:TypeId)(ty:TypeId)(y:Operand):Option (D×St)→Option (D×St)
 |some (.own e1 xs,s1)=>
   match ev T s1 ty y with
   |some d=>
    match EB pm s1 y d with
    |some (e2,ys,_)=>
     if e1=e∧e2=e∧T.elem e=true∧ys.all EE=true∧xs.length+ys.length<1099511627776 then
      if BB ys then
       match d,y with
       | .own _ _,.tmp u=>some (.own e (xs++ys),s1.clr u)
       |_,_=>none
      else some (.own e (xs++ys),s1)
     else none
    |none=>none
   |none=>none
 |_=>none
def az1(T:Tys)(e:TypeId):Option (D×St)→Option (D×St)
 |some (.own e1 xs,s1)=>if e1=e∧T.known e=true then some (.own e xs,s1)else none
 |_=>none
def az0(T:Tys)(pm:Pm)(s:St)(ty:TypeId)(x:Operand):Ty→Option (D×St)
 | .slice e=>az1 T e (take T pm s ty x)
 |_=>none
theorem ADZ(ty:TypeId)(x:Operand):PN T pm s ty x=az0 T pm s ty x (T.ty ty):=by
 unfold PN az0
 cases T.ty ty with
 |slice e=>
  simp only [az1];rcases take T pm s ty x with _|⟨d,s1⟩
  ·rfl
  ·cases d<;>rfl
 |_=>rfl
theorem Vk{T:Tys}{e:TypeId}(hk:T.known e=true)(h4:T.size e≤4):T.elem e=true:=by simp [Tys.elem,hk,h4]
theorem AKF(ty:TypeId)(x:Operand)(e:TypeId):az0 T pm s ty x (.slice e)=az1 T e (take T pm s ty x):=nr rfl
theorem AKG(e:TypeId)(xs:List D)(hk:T.known e=true):az1 T e (some (.own e xs,s))=some (.own e xs,s):=by simp [az1,hk]
def ap0(T:Tys)(pm:Pm)(s:St)(ty:TypeId)(x y:Operand):Ty→Option (D×St)
 | .slice e=>ap1 T pm e ty y (PL T pm s ty x)
 |_=>none
theorem AKI(ty:TypeId)(x y:Operand):JE T pm s ty x y=ap0 T pm s ty x y (T.ty ty):=by
 unfold JE ap0
 cases T.ty ty with
 |slice e=>
  simp only [ap1];rcases PL T pm s ty x with _|⟨d,s1⟩
  ·rfl
  ·cases d<;>rfl
 |_=>rfl
theorem AKJ(ty:TypeId)(x y:Operand)(e:TypeId):ap0 T pm s ty x y (.slice e)=ap1 T pm e ty y (PL T pm s ty x):=nr rfl
def ap2(T:Tys)(e e1:TypeId)(xs:List D)(s:St)(u:Tmp)(d:D):Option (TypeId×List D×Option (AJ×Nat×Nat))→Option (D×St)
 |some (e2,ys,_)=>
     if e1=e∧e2=e∧T.elem e=true∧ys.all EE=true∧xs.length+ys.length<1099511627776 then
      if BB ys then
       match d with
       | .own _ _=>some (.own e (xs++ys),s.clr u)
       |_=>none
      else some (.own e (xs++ys),s)
     else none
 |none=>none
theorem AKK(ty e e1:TypeId)(u:Tmp)(xs:List D):ap1 T pm e ty (.tmp u) (some (.own e1 xs,s))=ap2 T e e1 xs s u (s.v u) (EB pm s (.tmp u) (s.v u)):=by
 simp only [ap1,ev,ap2];rcases EB pm s (.tmp u) (s.v u)with _|⟨e2,ys,o⟩
 ·rfl
 ·simp only;split
  ·split
   ·cases s.v u<;>rfl
   ·rfl
  ·rfl
theorem AKL(e:TypeId)(u:Tmp)(xs ys:List D)(d:D)(o:Option (AJ×Nat×Nat))(hk:T.known e=true)(h4:T.size e≤4)(hy:ys.all EE=true)(hno:BB ys=false)(hl:xs.length+ys.length<1099511627776):
  ap2 T e e xs s u d (some (e,ys,o))=some (.own e (xs++ys),s):=by
 simp only [ap2];rw [if_pos ⟨trivial,trivial,Vk hk h4,hy,hl⟩,hno];simp
theorem AKM(e e':TypeId)(u:Tmp)(xs ys zs:List D)(o:Option (AJ×Nat×Nat))(hk:T.known e=true)(h4:T.size e≤4)(hy:ys.all EE=true)(hno:BB ys=true)(hl:xs.length+ys.length<1099511627776):
  ap2 T e e xs s u (.own e' zs) (some (e,ys,o))=some (.own e (xs++ys),s.clr u):=by
 simp only [ap2];rw [if_pos ⟨trivial,trivial,Vk hk h4,hy,hl⟩,hno];simp
end
section
variable {E:Env} {pm:Pm} {s:St} {dst:Option Tmp}
def qY(a:D)(l:List (AJ×D)):Option (List D×List (AJ×D))→Option (List D×List (AJ×D))
 |some (as,ls)=>some (a::as,l++ls)
 |none=>none
theorem A8w(a:D)(l:List (AJ×D))(as:List D)(ls:List (AJ×D)):qY a l (some (as,ls))=some (a::as,l++ls):=nr rfl
def Xt(E:Env)(lend:Bool)(pm:Pm)(s:St)(j:Nat)(rest:List (Operand×TypeId)):Option (D×List (AJ×D))→Option (List D×List (AJ×D))
 |some (a,l)=>qY a l (Eg E lend pm s (j+l.length) rest)
 |none=>none
theorem A8x(lend:Bool)(j:Nat)(rest:List (Operand×TypeId))(a:D)(l:List (AJ×D)):Xt E lend pm s j rest (some (a,l))=qY a l (Eg E lend pm s (j+l.length) rest):=nr rfl
theorem ADa(lend:Bool)(j:Nat):Eg E lend pm s j []=some ([],[]):=nr rfl
theorem ADb(lend:Bool)(j:Nat)(u:Tmp)(t:TypeId)(rest:List (Operand×TypeId)):Eg E lend pm s j ((.tmp u,t)::rest)=Xt E lend pm s j rest (Py E.T lend pm s j [u] (s.v u)):=by
 simp only [Eg,ev];rcases Py E.T lend pm s j [u] (s.v u)with _|⟨a,l⟩
 ·rfl
 ·simp only [Xt];rcases Eg E lend pm s (j+l.length) rest with _|⟨as,ls⟩<;>rfl
def aC(E:Env)(lend:Bool)(pm:Pm)(s:St)(j:Nat)(rest:List (Operand×TypeId)):Option D→Option (List D×List (AJ×D))
 |some d=>Xt E lend pm s j rest (Py E.T lend pm s j [] d)
 |none=>none
theorem aCS(lend:Bool)(j:Nat)(rest:List (Operand×TypeId))(d:D):aC E lend pm s j rest (some d)=Xt E lend pm s j rest (Py E.T lend pm s j [] d):=nr rfl
theorem arC(lend:Bool)(j:Nat)(v:Value)(t:TypeId)(rest:List (Operand×TypeId)):Eg E lend pm s j ((.const v,t)::rest)=aC E lend pm s j rest (ev E.T s t (.const v)):=by
 simp only [Eg]
 cases ev E.T s t (.const v)with
 |none=>rfl
 |some d=>
  simp only [aC];rcases Py E.T lend pm s j [] d with _|⟨a,l⟩
  ·rfl
  ·simp only [Xt];rcases Eg E lend pm s (j+l.length) rest with _|⟨as,ls⟩<;>rfl
theorem arF(lend:Bool)(j:Nat)(f:FuncId)(t:TypeId)(rest:List (Operand×TypeId)):Eg E lend pm s j ((.func f,t)::rest)=Xt E lend pm s j rest (Py E.T lend pm s j [] (.clo f [])):=by
 simp only [Eg,ev];rcases Py E.T lend pm s j [] (.clo f [])with _|⟨a,l⟩
 ·rfl
 ·simp only [Xt];rcases Eg E lend pm s (j+l.length) rest with _|⟨as,ls⟩<;>rfl
variable (lend:Bool) (j:Nat) (L:AJ)
theorem ADc(T:Tys)(k:IntKind)(n:Int):Py T lend pm s j L (.int k n)=FZ lend pm s j L (.int k n):=nr rfl
theorem AKN(T:Tys)(e:TypeId)(xs:List D):Py T lend pm s j L (.sl e xs)=FZ lend pm s j L (.sl e xs):=nr rfl
theorem ADd(T:Tys)(f:FuncId)(xs:List D):Py T lend pm s j L (.clo f xs)=FZ lend pm s j L (.clo f xs):=nr rfl
theorem ADe(T:Tys)(e:TypeId)(xs:List D):Py T lend pm s j L (.own e xs)=FZ lend pm s j L (.own e xs):=nr rfl
theorem AKO(T:Tys)(M:AJ)(n m:Nat):Py T lend pm s j L (.vw M n m)=FZ lend pm s j L (.vw M n m):=nr rfl
theorem ADf(T:Tys)(xs:List D):Py T lend pm s j L (.agg xs)=FZ lend pm s j L (.agg xs):=nr rfl
theorem ADg(k:IntKind)(n:Int):FZ lend pm s j L (.int k n)=some (.int k n,[]):=nr rfl
theorem AKP(e:TypeId)(xs:List D):FZ lend pm s j L (.sl e xs)=some (.sl e xs,[]):=nr rfl
theorem ADh(f:FuncId)(xs:List D):FZ lend pm s j L (.clo f xs)=some (.clo f xs,[]):=nr rfl
def fz1(l:List (AJ×D)):Option D→Option (D×List (AJ×D))
 |some c=>some (c,l)
 |none=>none
theorem AKQ(l:List (AJ×D))(c:D):fz1 l (some c)=some (c,l):=nr rfl
theorem ADi(e:TypeId)(xs:List D):FZ false pm s j L (.own e xs)=fz1 [(L,.own e xs)] (F3 (.own e xs)):=by
 show((F3 (.own e xs)).map fun c'=>(c',[(L,D.own e xs)]))=_
 cases F3 (.own e xs)<;>rfl
def fz2(L:AJ):Option D→Option (D×List (AJ×D))
 |some c=>fz1 [(L,c)] (F3 c)
 |none=>none
theorem AKS(c:D):fz2 L (some c)=fz1 [(L,c)] (F3 c):=nr rfl
theorem AKT(M:AJ)(n m:Nat):FZ false pm s j L (.vw M n m)=fz2 M (s.look pm M n m):=by
 simp only [FZ,GU]
 cases s.look pm M n m with
 |none=>rfl
 |some c=>simp only [fz2];cases F3 c<;>rfl
def ln2(j:Nat)(L:AJ):Option D→Option (D×List (AJ×D))
 |some c=>some (.vw [G+j] 0 0,[(L,c)])
 |none=>none
theorem AKU(c:D):ln2 j L (some c)=some (.vw [G+j] 0 0,[(L,c)]):=nr rfl
theorem ADj(M:AJ)(n m:Nat):FZ true pm s j L (.vw M n m)=ln2 j M (s.look pm M n m):=by
 simp only [FZ,GU]
 cases s.look pm M n m<;>rfl
def ag1:Option (List D×List (AJ×D))→Option (D×List (AJ×D))
 |some r=>some (.agg r.1,r.2)
 |none=>none
theorem AKV(r:List D×List (AJ×D)):ag1 (some r)=some (.agg r.1,r.2):=nr rfl
theorem ADk(xs:List D):FZ lend pm s j L (.agg xs)=ag1 (FV lend pm s L j 0 xs):=by
 simp only [FZ]
 cases FV lend pm s L j 0 xs<;>rfl
def A1L(lend:Bool)(pm:Pm)(s:St)(L0:AJ)(j i:Nat)(ds:List D):Option (D×List (AJ×D))→Option (List D×List (AJ×D))
 |some (a,l)=>qY a l (FV lend pm s L0 (j+l.length) (i+1) ds)
 |none=>none
theorem A8y(i:Nat)(ds:List D)(a:D)(l:List (AJ×D)):A1L lend pm s L j i ds (some (a,l))=qY a l (FV lend pm s L (j+l.length) (i+1) ds):=nr rfl
theorem ADl(i:Nat):FV lend pm s L j i []=some ([],[]):=nr rfl
theorem A8z(i:Nat)(d:D)(ds:List D)(h:d.isAgg=false):FV lend pm s L j i (d::ds)=A1L lend pm s L j i ds (FZ lend pm s j (L++[i]) d):=by
 have:FZ lend pm s j (L++[i]) d=GU lend pm s j (L++[i]) d:=by cases d<;>first|rfl|(simp [D.isAgg]at h)
 rw [this];simp only [FV];rcases GU lend pm s j (L++[i]) d with _|⟨a,l⟩
 ·rfl
 ·simp only [A1L];rcases FV lend pm s L (j+l.length) (i+1) ds with _|⟨as,ls⟩<;>rfl
theorem ADm(k:IntKind)(n:Int):(D.int k n).isAgg=false:=nr rfl
theorem A90(b:Bool):(D.bool b).isAgg=false:=nr rfl
theorem AKW(e:TypeId)(xs:List D):(D.sl e xs).isAgg=false:=nr rfl
theorem ADn(e:TypeId)(xs:List D):(D.own e xs).isAgg=false:=nr rfl
theorem AKX(M:AJ)(n m:Nat):(D.vw M n m).isAgg=false:=nr rfl
theorem A91(xs:List D):(D.cptr xs).isAgg=false:=nr rfl
def cb1(E:Env)(pm:Pm)(s:St)(dst:Option Tmp)(f:FuncId)(caps:List D):Option (List D×List (AJ×D))→Option St
 |none=>none
 |some (as,ls)=>
  match E.call f (as++caps) []with
  |some (r,_)=>
   if Fj r then
    if G8 (ls.map (·.1))&&ls.all (fun l=>pm.wr (l.1.headD 0))then(PP ls).map fun ls'=>(back false s ls').putO dst r else none
   else some (s.putO dst r)
  |none=>none
theorem cdB(f:FuncId)(xs:List (Operand×TypeId))(caps:List D)(h:E.lends f=false):Il E pm s dst f xs caps=cb1 E pm s dst f caps (Eg E false pm s 0 xs):=by
 unfold Il cb1;rw [h];simp only [OB,if_false];rcases Eg E false pm s 0 xs with _|⟨as,ls⟩<;>rfl
def cb2(pm:Pm)(s:St)(dst:Option Tmp)(ls:List (AJ×D)):Option (D×List D)→Option St
 |some (r,_)=>
   if Fj r then
    if G8 (ls.map (·.1))&&ls.all (fun l=>pm.wr (l.1.headD 0))then(PP ls).map fun ls'=>(back false s ls').putO dst r else none
   else some (s.putO dst r)
 |none=>none
theorem AKY(f:FuncId)(caps as:List D)(ls:List (AJ×D)):cb1 E pm s dst f caps (some (as,ls))=cb2 pm s dst ls (E.call f (as++caps) []):=by
 simp only [cb1];rcases E.call f (as++caps) []with _|⟨r,o⟩<;>rfl
theorem AKZ(ls:List (AJ×D))(r:D)(o:List D)(h:Fj r=false):cb2 pm s dst ls (some (r,o))=some (s.putO dst r):=by simp [cb2,h]
theorem AKa(r:D)(o:List D):cb2 pm s dst [] (some (r,o))=some (s.putO dst r):=by
 simp only [cb2];split<;>rfl
def cl1(E:Env)(pm:Pm)(s:St)(dst:Option Tmp)(f:FuncId)(caps:List D):Option (List D×List (AJ×D))→Option St
 |none=>none
 |some (as,ls)=>
   if G8 (ls.map (·.1))&&ls.all (fun l=>pm.wr (l.1.headD 0))&&ls.all (fun l=>o8 l.2)then
    match E.call f (as++caps) (ls.map (·.2))with
    |some (r,outs)=>if outs.length=ls.length then some ((Nk s (ls.map (·.1)) outs).putO dst r)else none
    |none=>none
   else none
theorem cdL(f:FuncId)(xs:List (Operand×TypeId))(caps:List D)(h:E.lends f=true):Il E pm s dst f xs caps=cl1 E pm s dst f caps (Eg E true pm s 0 xs):=by
 unfold Il cl1;rw [h];simp only [if_true];rcases Eg E true pm s 0 xs with _|⟨as,ls⟩<;>rfl
def cl2(s:St)(dst:Option Tmp)(ls:List (AJ×D)):Option (D×List D)→Option St
 |some (r,outs)=>if outs.length=ls.length then some ((Nk s (ls.map (·.1)) outs).putO dst r)else none
 |none=>none
theorem AKb(f:FuncId)(caps as:List D)(ls:List (AJ×D))(h:(G8 (ls.map (·.1))&&ls.all (fun l=>pm.wr (l.1.headD 0))&&ls.all (fun l=>o8 l.2))=true):cl1 E pm s dst f caps (some (as,ls))=cl2 s dst ls (E.call f (as++caps) (ls.map (·.2))):=by
 simp only [cl1,h,if_true];rcases E.call f (as++caps) (ls.map (·.2))with _|⟨r,o⟩<;>rfl
theorem AKc(ls:List (AJ×D))(r:D)(outs:List D)(h:outs.length=ls.length):cl2 s dst ls (some (r,outs))=some ((Nk s (ls.map (·.1)) outs).putO dst r):=by simp [cl2,h]
end
theorem ADp(k:IntKind)(n:Int):Fj (.int k n)=false:=by simp [Fj]
theorem A92(b:Bool):Fj (.bool b)=false:=by simp [Fj]
theorem ADq(e:TypeId)(xs:List D):Fj (.own e xs)=F4 xs:=by simp [Fj]
theorem ADr(xs:List D):Fj (.agg xs)=F4 xs:=by simp [Fj]
theorem ADs(xs:List D):Fj (.tup xs)=F4 xs:=by simp [Fj]
theorem A93:F4 []=false:=by simp [F4]
theorem A3t(d:D)(ds:List D):F4 (d::ds)=(Fj d||F4 ds):=by simp [F4]
theorem ADt(k:IntKind)(n:Int):F3 (.int k n)=some (.int k n):=by simp [F3]
theorem A94(b:Bool):F3 (.bool b)=some (.bool b):=by simp [F3]
theorem AKd(e:TypeId)(xs:List D):F3 (.sl e xs)=some (.sl e xs):=by simp [F3]
theorem ADu(f:FuncId)(xs:List D):F3 (.clo f xs)=some (.clo f xs):=by simp [F3]
theorem A95(xs:List D):F3 (.cptr xs)=some (.cptr xs):=by simp [F3]
def fzM(f:List D→D):Option (List D)→Option D
 |some xs=>some (f xs)
 |none=>none
theorem AKe(f:List D→D)(xs:List D):fzM f (some xs)=some (f xs):=nr rfl
theorem A5C(e:TypeId)(xs:List D):F3 (.own e xs)=fzM (.sl e) (ED xs):=by simp only [F3];cases ED xs<;>rfl
theorem ADw(xs:List D):F3 (.box xs)=fzM .cptr (ED xs):=by simp only [F3];cases ED xs<;>rfl
theorem ADx(xs:List D):F3 (.agg xs)=fzM .agg (ED xs):=by simp only [F3];cases ED xs<;>rfl
theorem ADy(xs:List D):F3 (.tup xs)=fzM .tup (ED xs):=by simp only [F3];cases ED xs<;>rfl
theorem A96:ED []=some []:=by simp [ED]
def fzC:Option D→Option (List D)→Option (List D)
 |some d,some ds=>some (d::ds)
 |_,_=>none
theorem AKf(d:D)(ds:List D):fzC (some d) (some ds)=some (d::ds):=nr rfl
theorem xD(d:D)(ds:List D):ED (d::ds)=fzC (F3 d) (ED ds):=by
 simp only [ED];cases F3 d<;>cases ED ds<;>rfl
theorem AKg(d:D):o8 d=(F3 d).isSome:=nr rfl
section
variable {T:Tys} {s:St}
def fi1(n:Nat):Option (D×St)→Option (D×List D)
 |none=>none
 |some (r,s')=>if o8 r&&((List.range n).map fun j=>s'.v (G+j)).all okL then some (r,(List.range n).map fun j=>s'.v (G+j))else none
theorem fiD(n:Nat)(rs:List ResultVar):fK T n rs s=fi1 n (Q6 T s rs):=by
 unfold fK fi1;rcases Q6 T s rs with _|⟨r,s'⟩<;>rfl
theorem fi0(r:D):fi1 0 (some (r,s))=if o8 r then some (r,[])else none:=by simp [fi1]
theorem fiA(r:D):fi1 1 (some (r,s))=if o8 r&&okL (s.v 100000)then some (r,[s.v 100000])else none:=by
 simp [fi1,G,fD]
theorem fiB(r:D):fi1 2 (some (r,s))=if o8 r&&(okL (s.v 100000)&&okL (s.v 100001))then some (r,[s.v 100000,s.v 100001])else none:=by
 simp [fi1,G,fD,and_assoc]
theorem fiC(r:D):fi1 3 (some (r,s))=if o8 r&&(okL (s.v 100000)&&(okL (s.v 100001)&&okL (s.v 100002)))then some (r,[s.v 100000,s.v 100001,s.v 100002])else none:=by
 simp [fi1,G,fD,and_assoc]
theorem A97(e:TypeId)(xs:List D):okL (.own e xs)=(F3 (.own e xs)).isSome:=nr rfl
theorem A98(xs:List D):okL (.box xs)=(F3 (.box xs)).isSome:=nr rfl
theorem re1(r:ResultVar):Q6 T s [r]=ZQ T s r:=nr rfl
def reT:Option (List D×St)→Option (D×St)
 |some q=>some (.tup q.1,q.2)
 |none=>none
theorem AKh(q:List D×St):reT (some q)=some (.tup q.1,q.2):=nr rfl
theorem re2(r r':ResultVar)(rs:List ResultVar):Q6 T s (r::r'::rs)=reT (Qj T s (r::r'::rs)):=by
 show((Qj T s (r::r'::rs)).map fun q=>(D.tup q.1,q.2))=_
 cases Qj T s (r::r'::rs)<;>rfl
theorem re0:Q6 T s []=some (.tup [],s):=nr rfl
theorem ADz(t:Tmp):ZQ T s (.tmp t)=o9 Pm.all s t (s.v t):=nr rfl
theorem AE0:Qj T s []=some ([],s):=nr rfl
def rdN(T:Tys)(rs:List ResultVar):Option (D×St)→Option (List D×St)
 |some (d,s)=>(Qj T s rs).map fun p=>(d::p.1,p.2)
 |none=>none
theorem AKi(rs:List ResultVar)(d:D):rdN T rs (some (d,s))=(Qj T s rs).map fun p=>(d::p.1,p.2):=nr rfl
theorem A99(r:ResultVar)(rs:List ResultVar):Qj T s (r::rs)=rdN T rs (ZQ T s r):=by
 simp only [Qj];rcases ZQ T s r with _|⟨d,s'⟩<;>rfl
theorem AKj(r:Nat):Pm.all.rd r=true:=nr rfl
theorem AKk(r:Nat):Pm.all.wr r=true:=nr rfl
def yZ(s:St)(dst:Option Tmp)(u:Tmp)(i:Nat):Option D→Option St
 |none=>none
 |some (.agg ys)=>OD s dst (Eo (.agg ((List.range ys.length).map fun j=>KJ s [u,i] j (ys.getD j .undef))))
 |some c=>OD s dst (Eo (KJ s [u] i c))
theorem AE1(dst:Option Tmp)(u:Tmp)(xs:List D)(i:Nat):Kk s dst (.tmp u) (.tup xs) i=yZ s dst u i xs[i]? :=by
 simp only [Kk];rcases xs[i]? with _|c
 ·rfl
 ·cases c<;>first|exact Np s dst _|rfl
theorem AE2(dst:Option Tmp)(u:Tmp)(i:Nat)(k:IntKind)(n:Int):yZ s dst u i (some (.int k n))=some (s.putO dst (.int k n)):=by simp [yZ,Eo,KJ,D.hasObj,OD]
theorem A9A(dst:Option Tmp)(u:Tmp)(i:Nat)(b:Bool):yZ s dst u i (some (.bool b))=some (s.putO dst (.bool b)):=by simp [yZ,Eo,KJ,D.hasObj,OD]
theorem AE3(dst:Option Tmp)(u:Tmp)(i:Nat)(e:TypeId)(xs:List D):yZ s dst u i (some (.own e xs))=some (s.putO dst (.vw [u,i] (s.k u) (s.m u))):=by simp [yZ,Eo,KJ,D.hasObj,OD,su]
theorem AE4(xs:List D)(c:Nat)(p:AJ):Bz (.tup xs) (c::p)=(xs[c]?).bind fun d=>Bz d p:=nr rfl
theorem AKl(L:AJ)(xs:List D)(c:D):pl2 s L (some (.tup xs)) (some c)=some (c,s.set L .undef):=nr rfl
theorem AE5(deep:Bool):back deep s []=s:=nr rfl
theorem bkT(t:Nat)(p:AJ)(c:D)(rest:List (AJ×D)):back true s ((t::p,c)::rest)=back true ((s.set (t::p) c).bump t) rest:=nr rfl
theorem bkF(t:Nat)(p:AJ)(c:D)(rest:List (AJ×D)):back false s ((t::p,c)::rest)=back false (s.set (t::p) c) rest:=nr rfl
theorem bkL(Ls:List AJ)(outs:List D):Nk s Ls outs=back true (back false s (Ls.map fun L=>(L,.undef))) (Ls.zip outs):=nr rfl
theorem AE6:G8 []=true:=nr rfl
theorem A9B(L:AJ)(Ls:List AJ):G8 (L::Ls)=((L.isEmpty||Ls.all fun M=>M.isEmpty||(!L.isPrefixOf M&& !M.isPrefixOf L))&&G8 Ls):=nr rfl
theorem ipC(a b:Nat)(l m:AJ):List.isPrefixOf (a::l) (b::m)=(a==b&&List.isPrefixOf l m):=nr rfl
theorem ipN(l:AJ):List.isPrefixOf [] l=true:=by cases l<;>rfl
theorem ieC(a:Nat)(l:AJ):List.isEmpty (a::l)=false:=nr rfl
end
section
variable {T:Tys} {pm:Pm} {s:St}
def fl1(T:Tys)(pm:Pm)(tf:Nat→TypeId)(sz:Nat)(cs:List D)(i:Nat)(rest:List (Nat×Operand)):Option (D×St)→Option (List D×St)
 |none=>none
 |some (d,s1)=>if d.asCells.length=sz∧i*sz+sz≤cs.length then Ik T pm tf sz s1 (D8 cs (i*sz) d.asCells) rest else none
theorem AE7(tf:Nat→TypeId)(sz:Nat)(cs:List D):Ik T pm tf sz s cs []=some (cs,s):=nr rfl
theorem A9C(tf:Nat→TypeId)(sz:Nat)(cs:List D)(i:Nat)(x:Operand)(rest:List (Nat×Operand)):Ik T pm tf sz s cs ((i,x)::rest)=fl1 T pm tf sz cs i rest (take T pm s (tf i) x):=by
 simp only [Ik];rcases take T pm s (tf i) x with _|⟨d,s1⟩<;>rfl
theorem AKn(tf:Nat→TypeId)(cs:List D)(i:Nat)(rest:List (Nat×Operand))(d:D)(h:d.isAgg=false):fl1 T pm tf 1 cs i rest (some (d,s))=if i+1≤cs.length then Ik T pm tf 1 s (cs.set i d) rest else none:=by
 have ha:d.asCells=[d]:=by cases d<;>first|rfl|(simp [D.isAgg]at h)
 simp only [fl1,ha,Lb,Sd,MK,Pw,true_and,D8]
end
section
variable (pm:Pm) (s:St) (u:Tmp)
def kz(pm:Pm)(u:Tmp)(d:D):Bool:= !d.hasObj||d.isObj||pm.wr u
theorem mvT:KU pm s (.move (.tmp u))=kz pm u (s.v u):=nr rfl
theorem AKo(v:Value):KU pm s (.move (.const v))=true:=nr rfl
theorem A9D(k:IntKind)(n:Int):kz pm u (.int k n)=true:=by simp [kz,D.hasObj]
theorem A3u(b:Bool):kz pm u (.bool b)=true:=by simp [kz,D.hasObj]
theorem AE8(e:TypeId)(xs:List D):kz pm u (.sl e xs)=true:=by simp [kz,D.hasObj]
theorem A9E(e:TypeId)(xs:List D):kz pm u (.own e xs)=true:=by simp [kz,D.isObj]
theorem A9F(xs:List D):kz pm u (.box xs)=true:=by simp [kz,D.isObj]
theorem AE9(L:AJ)(n m:Nat):kz pm u (.vw L n m)=true:=by simp [kz,D.hasObj]
theorem AKp(v:Value):kz pm u (.konst v)=true:=by simp [kz,D.hasObj]
theorem A3v(xs:List D):kz pm u (.cptr xs)=true:=by simp [kz,D.hasObj]
theorem A9G(xs:List D):kz pm u (.tup xs)=(!BB xs||pm.wr u):=by simp [kz,D.hasObj,D.isObj]
theorem A1M(x:Operand):KU pm s (.assign x)=true:=nr rfl
theorem A9H(a b c:Operand):KU pm s (.pick a b c)=true:=nr rfl
theorem A3w(t:TypeId):KU pm s (.alloc t)=true:=nr rfl
theorem AEA(t:TypeId)(x:Operand):KU pm s (.box t x)=true:=nr rfl
theorem A3x(t:TypeId)(p:Array (Nat×Operand)):KU pm s (.build t p)=true:=nr rfl
theorem AKq(t:TypeId)(n:Nat)(p:Array (Nat×Operand)):KU pm s (.buildSlice t n p)=true:=nr rfl
theorem A9I(t:TypeId)(x:Operand):KU pm s (.load t x)=true:=nr rfl
theorem A3y(t:TypeId)(x y:Operand):KU pm s (.store t x y)=true:=nr rfl
theorem AEB(o:BinOp)(t:TypeId)(x y:Operand)(t':TypeId):KU pm s (.binOp o t x y t')=true:=nr rfl
theorem AKr(o:UnOp)(t:TypeId)(x:Operand):KU pm s (.unOp o t x)=true:=nr rfl
theorem A9J(t t':TypeId)(x:Operand):KU pm s (.convert t t' x)=true:=nr rfl
theorem AKs(t:TypeId)(x:Operand)(a b c:Option Operand):KU pm s (.slice t x a b c)=true:=nr rfl
theorem AKt(x:Operand):KU pm s (.nilCheck x)=true:=nr rfl
theorem AKu(t:TypeId)(x:Operand)(i:Nat):KU pm s (.fieldAddr t x i)=true:=nr rfl
theorem AKv(t:TypeId)(x i:Operand):KU pm s (.indexAddr t x i)=true:=nr rfl
theorem AKw(x:Operand)(i:Nat):KU pm s (.extract x i)=true:=nr rfl
theorem A9K(c:Call):KU pm s (.call c)=true:=nr rfl
theorem pmR(n r w:List Nat)(x:Nat):(PmL.pm ⟨n,r,w⟩).rd x=(n.contains x|| !r.contains x):=nr rfl
theorem pmW(n r w:List Nat)(x:Nat):(PmL.pm ⟨n,r,w⟩).wr x=w.contains x:=nr rfl
section
variable {E:Env} {dst:Option Tmp} {t ty:TypeId}
end
end
end Dv
namespace Dv
open Go
theorem I7(n:Int)(h: -9223372036854775808≤n∧n≤9223372036854775807):IntKind.i64.wrap n=n:=IntWalk.i64_in n h
section
variable {T:Tys} {pm:Pm} {s:St} {t:TypeId}
theorem Yw(xs:AB)(i:Nat)(h:i<xs.length):(KV xs)[i]? =some (.int .i64 (xs.getD i 0)):=by
 simp [KV,Le,h]
theorem jD(x:Int)(xs:AB):KV (x::xs)= .int .i64 x::KV xs:=nr rfl
def sls(e:TypeId)(xss:AY):List D:=xss.map fun xs=> .sl e (KV xs)
variable {E:Env} {dst:Option Tmp} {ty:TypeId}
def AEC(e:TypeId)(dst:Option Tmp):Option (List D×St)→Option St
 |some (xs,s)=>some (s.putO dst (.own e xs))
 |none=>none
theorem AED(e:TypeId)(xs:List D):AEC e dst (some (xs,s))=some (s.putO dst (.own e xs)):=nr rfl
def zS(dst:Option Tmp):Option (List D×St)→Option St
 |some (xs,s)=>some (s.putO dst (.agg xs))
 |none=>none
theorem AEE(xs:List D):zS dst (some (xs,s))=some (s.putO dst (.agg xs)):=nr rfl
theorem aG(T:Tys){e:TypeId}(hs:T.isStruct e=false):T.size e=1∧T.zeros e=[T.zero1 e]:=by
 unfold Tys.isStruct at hs;unfold Tys.size Tys.zeros
 cases hty:T.ty e<;>simp_all [Ty.isStruct,Ty.size]
def bs0(E:Env)(pm:Pm)(s:St)(dst:Option Tmp)(len:Nat)(parts:Array (Nat×Operand)):Ty→Option St
 | .slice e=>
   if len*E.T.size e≤4096∧E.T.known e=true then
    (Ik E.T pm (fun _=>e) (E.T.size e) s ((List.range (len*E.T.size e)).map fun j=>(E.T.zeros e).getD (j % E.T.size e) .undef) parts.toList).map fun r=>r.2.putO dst (.own e r.1)
   else none
 |_=>none
theorem A9L(len:Nat)(parts:Array (Nat×Operand)):ZM E.T pm s dst t len parts=bs0 E pm s dst len parts (E.T.ty t):=by
 unfold ZM bs0
 cases E.T.ty t<;>rfl
theorem yBs(len:Nat)(parts:Array (Nat×Operand)):Pz E pm s dst (.buildSlice t len parts) ty=if ty=900004 then fcB pm dst (bs0 E pm s dst len parts (E.T.ty t))else bs0 E pm s dst len parts (E.T.ty t):=by
 rw [aF,A9L];by_cases h:ty=900004
 ·rw [if_pos h,if_pos h];unfold fcB
  cases bs0 E pm s dst len parts (E.T.ty t)<;>cases dst<;>rfl
 ·rw [if_neg h,if_neg h]
theorem AKx(len:Nat)(parts:Array (Nat×Operand))(e:TypeId)(hk:E.T.known e=true)(hs:E.T.isStruct e=false)(hl:len≤4096):
  bs0 E pm s dst len parts (.slice e)=AEC e dst (Ik E.T pm (fun _=>e) 1 s (List.replicate len (E.T.zero1 e)) parts.toList):=by
 obtain⟨hz,hzz⟩:=aG E.T hs
 have hrep:((List.range (len*1)).map fun j=>(E.T.zeros e).getD (j % 1) .undef)=List.replicate len (E.T.zero1 e):=by
  rw [hzz];apply VC
  ·simp
  ·intro i h1 h2;simp [Nat.mod_one]
 simp only [bs0,hz];rw [if_pos ⟨by omega,hk⟩,hrep]
 rcases Ik E.T pm (fun _=>e) 1 s (List.replicate len (E.T.zero1 e)) parts.toList with _|⟨a,b⟩<;>rfl
def bsA(E:Env)(e:TypeId)(dst:Option Tmp):Option (D×St)→Option St
 |some (d,s1)=>if d.asCells.length=E.T.size e then some (s1.putO dst (.own e d.asCells))else none
 |none=>none
theorem AKz(e:TypeId)(xs:List D)(h:xs.length=E.T.size e):bsA E e dst (some (.agg xs,s))=some (s.putO dst (.own e xs)):=by
 show(if xs.length=E.T.size e then some (s.putO dst (.own e xs))else none)=_
 rw [if_pos h]
theorem qZ(cs ys:List D)(h:ys.length=cs.length):D8 cs 0 ys=ys:=by
 refine List.ext_getElem? fun i=> ?_;rw [KT (by omega)]
 by_cases hi:i<ys.length
 ·rw [if_pos (by omega)];rfl
 ·rw [if_neg (by omega),eu (by omega),eu (by omega)]
theorem AL0(e:TypeId)(x:Operand)(hk:E.T.known e=true)(hs:E.T.isStruct e=true)(hz:E.T.size e≤4096):bs0 E pm s dst 1 #[(0,x)] (.slice e)=bsA E e dst (take E.T pm s e x):=by
 simp only [bs0,Ik];rw [if_pos ⟨by omega,hk⟩]
 rcases take E.T pm s e x with _|⟨d,s1⟩
 ·rfl
 ·simp only [bsA];by_cases h:d.asCells.length=E.T.size e
  ·rw [if_pos ⟨h,by simp⟩,if_pos h,Nat.zero_mul,qZ _ _ (by simp [h])];rfl
  ·rw [if_neg (fun hc=>h hc.1),if_neg h];rfl
def bdN(E:Env)(pm:Pm)(s:St)(dst:Option Tmp)(t:TypeId)(parts:Array (Nat×Operand)):Option St:=
 match E.T.ty t with
 | .struct fs=>if E.T.known t then zS dst (Ik E.T pm (fun i=>fs.getD i 0) 1 s (E.T.zeros t) parts.toList)else none
 |_=>none
def bd0(E:Env)(pm:Pm)(s:St)(dst:Option Tmp)(t:TypeId)(parts:Array (Nat×Operand)):Option (List (Nat×TypeId))→Option St
 |some fl=>if E.T.isStruct t&&E.T.known t then zS dst (MO E.T pm fl s (E.T.zeros t) parts.toList)else none
 |none=>bdN E pm s dst t parts
theorem A9M(parts:Array (Nat×Operand)):Pz E pm s dst (.build t parts) ty=bd0 E pm s dst t parts (E.T.nest t):=by
 rw [zL];unfold bd0 bdN
 cases E.T.nest t with
 |some fl=>
  simp only;split
  ·rcases MO E.T pm fl s (E.T.zeros t) parts.toList with _|⟨a,b⟩<;>rfl
  ·rfl
 |none=>
  simp only
  cases E.T.ty t with
  |struct fs=>
   simp only;split
   ·rcases Ik E.T pm (fun i=>fs.getD i 0) 1 s (E.T.zeros t) parts.toList with _|⟨a,b⟩<;>rfl
   ·rfl
  |_=>rfl
theorem AL1(parts:Array (Nat×Operand))(fl:List (Nat×TypeId))(hk:E.T.known t=true)(hs:E.T.isStruct t=true):bd0 E pm s dst t parts (some fl)=zS dst (MO E.T pm fl s (E.T.zeros t) parts.toList):=by
 simp [bd0,hk,hs]
def bdT(E:Env)(pm:Pm)(s:St)(dst:Option Tmp)(t:TypeId)(parts:Array (Nat×Operand)):Ty→Option St
 | .struct fs=>if E.T.known t then zS dst (Ik E.T pm (fun i=>fs.getD i 0) 1 s (E.T.zeros t) parts.toList)else none
 |_=>none
theorem AL2(parts:Array (Nat×Operand)):bd0 E pm s dst t parts none=bdT E pm s dst t parts (E.T.ty t):=by
 show bdN E pm s dst t parts=_
 unfold bdN bdT
 cases E.T.ty t<;>rfl
theorem AL3(parts:Array (Nat×Operand))(fs:List TypeId)(hk:E.T.known t=true):bdT E pm s dst t parts (.struct fs)=zS dst (Ik E.T pm (fun i=>fs.getD i 0) 1 s (E.T.zeros t) parts.toList):=by
 simp [bdT,hk]
def Jz(T:Tys)(pm:Pm)(fl:List (Nat×TypeId))(cs:List D)(off:Nat)(ty:TypeId)(rest:List (Nat×Operand)):Option (D×St)→Option (List D×St)
 |none=>none
 |some (d,s1)=>if d.asCells.length=T.size ty∧off+T.size ty≤cs.length then MO T pm fl s1 (D8 cs off d.asCells) rest else none
theorem AEG(T:Tys)(fl:List (Nat×TypeId))(cs:List D):MO T pm fl s cs []=some (cs,s):=nr rfl
def fn0(T:Tys)(pm:Pm)(fl:List (Nat×TypeId))(s:St)(cs:List D)(x:Operand)(rest:List (Nat×Operand)):Option (Nat×TypeId)→Option (List D×St)
 |none=>none
 |some (off,ty)=>Jz T pm fl cs off ty rest (take T pm s ty x)
theorem A9N(T:Tys)(fl:List (Nat×TypeId))(cs:List D)(i:Nat)(x:Operand)(rest:List (Nat×Operand)):MO T pm fl s cs ((i,x)::rest)=fn0 T pm fl s cs x rest (fl[i]?):=by
 simp only [MO];rcases fl[i]? with _|⟨off,ty⟩
 ·rfl
 ·simp only [fn0,Jz];rcases take T pm s ty x with _|⟨d,s1⟩<;>rfl
theorem AL5(T:Tys)(fl:List (Nat×TypeId))(cs:List D)(x:Operand)(rest:List (Nat×Operand))(off:Nat)(ty:TypeId):fn0 T pm fl s cs x rest (some (off,ty))=Jz T pm fl cs off ty rest (take T pm s ty x):=nr rfl
theorem AL6(T:Tys)(fl:List (Nat×TypeId))(cs:List D)(off:Nat)(ty:TypeId)(rest:List (Nat×Operand))(d:D)(h1:d.asCells.length=T.size ty)(h2:off+T.size ty≤cs.length):
  Jz T pm fl cs off ty rest (some (d,s))=MO T pm fl s (D8 cs off d.asCells) rest:=by simp only [Jz,h1,h2,and_self,if_true]
theorem fnA(ds:List D):(D.agg ds).asCells=ds:=nr rfl
theorem fnO(e:TypeId)(xs:List D):(D.own e xs).asCells=[.own e xs]:=nr rfl
theorem spN(cs:List D)(c:Nat):D8 cs c []=cs:=by cases cs<;>rfl
theorem spC(cs:List D)(c:Nat)(y:D)(ys:List D):D8 cs c (y::ys)=D8 (cs.set c y) (c+1) ys:=by cases cs<;>rfl
def mk0(T:Tys)(n:Int):Ty→Option D
 | .slice e=>if 0≤n∧n<1099511627776∧T.elem e=true then
   if T.isStruct e=true then some (.own e (List.replicate n.toNat (T.zeros e)).flatten)
   else if T.size e=1 then some (.own e (List.replicate n.toNat (T.zero1 e)))else none
  else none
 |_=>none
theorem yMk(n:Int):Fp T t (.int .i64 n) (.int .i64 n)=mk0 T n (T.ty t):=by
 unfold Fp mk0
 cases T.ty t<;>simp
def A40(T:Tys)(q:Int):Ty→Option D
 | .slice e=>if 0≤q∧q<1099511627776∧T.elem e=true then
   if T.isStruct e=true then some (.own e [])
   else if T.size e=1 then some (.own e [])else none
  else none
 |_=>none
theorem AL7(q:Int):Fp T t (.int .i64 0) (.int .i64 q)=A40 T q (T.ty t):=by
 unfold Fp A40
 cases T.ty t<;>simp
theorem AEH(q:Int)(e:TypeId)(hk:T.known e=true)(h4:T.size e≤4)(h0:0≤q)(hn:q<1099511627776):A40 T q (.slice e)=some (.own e []):=by
 simp only [A40];rw [if_pos ⟨h0,hn,Vk hk h4⟩];by_cases hs:T.isStruct e=true
 ·rw [if_pos hs]
 ·obtain⟨hz,_⟩:=aG T (by simpa using hs)
  rw [if_neg hs,if_pos hz]
theorem AL8(n:Int)(e:TypeId)(hk:T.known e=true)(h4:T.size e≤4)(hs:T.isStruct e=false)(h0:0≤n)(hn:n<1099511627776):mk0 T n (.slice e)=some (.own e (List.replicate n.toNat (T.zero1 e))):=by
 obtain⟨hz,_⟩:=aG T hs;simp only [mk0];rw [if_pos ⟨h0,hn,Vk hk h4⟩,if_neg (by rw [hs];decide),if_pos hz]
theorem AL9(n:Int)(e:TypeId)(hk:T.known e=true)(h4:T.size e≤4)(hs:T.isStruct e=true)(h0:0≤n)(hn:n<1099511627776):mk0 T n (.slice e)=some (.own e (List.replicate n.toNat (T.zeros e)).flatten):=by
 simp only [mk0];rw [if_pos ⟨h0,hn,Vk hk h4⟩,if_pos hs]
end
end Dv
namespace Dv
open Go
def I64(n:Int):Prop:= -9223372036854775808≤n∧n≤9223372036854775807
theorem A9O{n:Int}(h:(Lit.int .i64 n).wf=true):I64 n:=by
 have h1:IntKind.i64.min= -9223372036854775808:=by decide
 have h2:IntKind.i64.max=9223372036854775807:=by decide
 simp only [Lit.wf,h1,h2,Gb,decide_eq_true_eq]at h;exact h
section
variable {T:Tys} {t e:TypeId} {d:D}
theorem aH{ds:List D}(ht:T.ty t= .int .i64)(h:Shp T t ds): ∃n,ds=[.int .i64 n]∧I64 n:=by
 cases h with
 |int ht' hw=>rw [ht]at ht';injection ht' with ht';subst ht';exact⟨_,rfl,A9O hw⟩
 |bool ht'=>rw [ht]at ht';cases ht'
 |string ht'=>rw [ht]at ht';cases ht'
 |slice ht'=>rw [ht]at ht';cases ht'
 |struct ht'=>rw [ht]at ht';cases ht'
theorem Vl{ds:List D}(ht:T.ty t= .slice e)(h:Shp T t ds): ∃xss:List (List D),ds=[.sl e xss.flatten]∧(∀xs,xs∈xss→Shp T e xs)∧xss.length≤maxLen:=by
 cases h with
 |int ht' hw=>rw [ht]at ht';cases ht'
 |bool ht'=>rw [ht]at ht';cases ht'
 |string ht' hs=>rw [ht]at ht';cases ht'
 |slice ht' hx hl=>rw [ht]at ht';injection ht' with ht';subst ht';exact⟨_,rfl,hx,hl⟩
 |struct ht'=>rw [ht]at ht';cases ht'
theorem jE{fs:List TypeId}{ds:List D}(ht:T.ty t= .struct fs)(h:Shp T t ds):ds.length=fs.length∧ ∀(i:Nat) (f:TypeId) (d:D),fs[i]? =some f→ds[i]? =some d→Shp T f [d]:=by
 cases h with
 |int ht' hw=>rw [ht]at ht';cases ht'
 |bool ht'=>rw [ht]at ht';cases ht'
 |string ht' hs=>rw [ht]at ht';cases ht'
 |slice ht' hx hl=>rw [ht]at ht';cases ht'
 |struct ht' hl hx=>rw [ht]at ht';injection ht' with ht';subst ht';exact⟨hl,hx⟩
def A1N(xs:AB):Prop:=xs.length≤maxLen∧ ∀x∈xs,I64 x
def xE(xss:AY):Prop:=xss.length≤maxLen∧ ∀xs∈xss,A1N xs
theorem l5{ds:List D}(ht:T.ty t= .slice e)(he:T.ty e= .int .i64)(h:Shp T t ds): ∃xs,ds=[.sl e (KV xs)]∧A1N xs:=by
 obtain⟨xss,rfl,hx,hl⟩:=Vl ht h
 have: ∀xss:List (List D),(∀xs,xs∈xss→Shp T e xs)→ ∃ys,xss.flatten=KV ys∧ys.length=xss.length∧ ∀y∈ys,I64 y:=by
  intro xss
  induction xss with
  |nil=>intro _;exact⟨[],rfl,rfl,by simp⟩
  |cons xs xss ih=>
   intro hx;obtain⟨n,rfl,hn⟩:=aH he (hx xs (KM));obtain⟨ys,h1,h2,h3⟩:=ih (fun q hq=>hx q (RL _ hq))
   refine⟨n::ys,by rw [oP,h1];rfl,by simp [h2],fun y hy=> ?_⟩
   rcases SK.1 hy with rfl|hy
   ·exact hn
   ·exact h3 y hy
 obtain⟨ys,h1,h2,h3⟩:=this xss hx
 exact⟨ys,by rw [h1],by omega,h3⟩
theorem qa{e2:TypeId}{ds:List D}(ht:T.ty t= .slice e)(he:T.ty e= .slice e2)(he2:T.ty e2= .int .i64)(h:Shp T t ds): ∃xss,ds=[.sl e (sls e2 xss)]∧xE xss:=by
 obtain⟨xss,rfl,hx,hl⟩:=Vl ht h
 have: ∀xss:List (List D),(∀xs,xs∈xss→Shp T e xs)→ ∃ys,xss.flatten=sls e2 ys∧ys.length=xss.length∧ ∀y∈ys,A1N y:=by
  intro xss
  induction xss with
  |nil=>intro _;exact⟨[],rfl,rfl,by simp⟩
  |cons xs xss ih=>
   intro hx;obtain⟨n,rfl,hn⟩:=l5 he he2 (hx xs (KM));obtain⟨ys,h1,h2,h3⟩:=ih (fun q hq=>hx q (RL _ hq))
   refine⟨n::ys,by rw [oP,h1];rfl,by simp [h2],fun y hy=> ?_⟩
   rcases SK.1 hy with rfl|hy
   ·exact hn
   ·exact h3 y hy
 obtain⟨ys,h1,h2,h3⟩:=this xss hx
 exact⟨ys,by rw [h1],by omega,h3⟩
theorem jF{fs:List TypeId}(ht:T.ty t= .struct fs)(h:Arg T t d): ∃ds,d= .agg ds∧ds.length=fs.length∧ ∀(i:Nat) (f:TypeId) (d:D),fs[i]? =some f→ds[i]? =some d→Shp T f [d]:=by
 obtain⟨ds,hs,rfl⟩:=h;obtain⟨h1,h2⟩:=jE ht hs
 exact⟨ds,by simp [top,Tys.isStruct,ht,Ty.isStruct],h1,h2⟩
theorem uh{a b:TypeId}(ht:T.ty t= .struct [a,a,b,b])(ha:T.ty a= .int .i64)(hb:T.ty b= .slice e){e2:TypeId}(he:T.ty e= .slice e2)(he2:T.ty e2= .int .i64)(h:Arg T t d):
  ∃l k ns es,d= .agg [.int .i64 l,.int .i64 k,.sl e (sls e2 ns),.sl e (sls e2 es)]∧I64 l∧I64 k∧xE ns∧xE es:=by
 obtain⟨ds,rfl,hl,hx⟩:=jF ht h;rcases ds with _|⟨d0,_|⟨d1,_|⟨d2,_|⟨d3,_|⟨_,_⟩⟩⟩⟩⟩<;>simp at hl
 obtain⟨l,h0,hl0⟩:=aH ha (hx 0 a d0 rfl rfl);obtain⟨k,h1,hl1⟩:=aH ha (hx 1 a d1 rfl rfl);obtain⟨ns,h2,hl2⟩:=qa hb he he2 (hx 2 b d2 rfl rfl);obtain⟨es,h3,hl3⟩:=qa hb he he2 (hx 3 b d3 rfl rfl);simp only [List.cons.injEq,and_true]at h0 h1 h2 h3;subst h0 h1 h2 h3
 exact⟨l,k,ns,es,rfl,hl0,hl1,hl2,hl3⟩
end
theorem trodAll_len{H:Type}{enc:TypeId×Value→H}{P:Program}{w:World}{base:Nat}{spare:Nat→Bool}{zJ:Bool}: ∀ {ts:List TypeId} {vs:List Value} {ds:List (DataW H)} {ps:List MemPlace},
  DataW.TrodAll enc P w base spare zJ ts vs ds ps→ds.length=ts.length∧vs.length=ts.length:=by
 intro ts
 induction ts with
 |nil=>intro vs ds ps h;cases vs<;>cases ds<;>simp [DataW.TrodAll]at h;exact⟨rfl,rfl⟩
 |cons t ts ih=>
  intro vs ds ps h
  cases vs with
  |nil=>cases ds<;>simp [DataW.TrodAll]at h
  |cons v vs=>
   cases ds with
   |nil=>simp [DataW.TrodAll]at h
   |cons d ds=>
    simp only [DataW.TrodAll]at h;obtain⟨p,q,h1,h2,_⟩:=h;obtain⟨e1,e2⟩:=ih h2
    exact⟨by simp [e1],by simp [e2]⟩
end Dv
namespace Dv
open Go
section
variable {E:Env} {T:Tys} {pm:Pm} {s:St} {dst:Option Tmp} {ty t:TypeId}
def bo0(T:Tys)(t:TypeId)(dst:Option Tmp):Option (D×St)→Option St
 |some (d,s1)=>if T.isStruct t==d.isAgg then some (s1.putO dst (.box d.asCells))else none
 |none=>none
def bk0(E:Env)(pm:Pm)(s:St)(t:TypeId)(x:Operand)(dst:Option Tmp):D→Option St
 | .agg ds=>if BB ds then bo0 E.T t dst (take E.T pm s t x)else(if E.T.isStruct t then some (s.putO dst (.box ds))else none)
 |_=>bo0 E.T t dst (take E.T pm s t x)
theorem A9P(u:Tmp):Sj E.T pm s dst t (.tmp u)=bk0 E pm s t (.tmp u) dst (s.v u):=by
 rw [A1A]
 cases hk:ZJ (ev E.T s t (.tmp u))with
 |some ds=>
  simp only [ev]at hk
  cases hv:s.v u<;>rw [hv]at hk<;>simp only [ZJ]at hk<;>try (cases hk;done)
  split at hk
  ·cases hk
  ·rename_i ho
   simp only [Option.some.injEq]at hk;subst hk;simp only [bk0,ho];rfl
 |none=>
  have hold:bk0 E pm s t (.tmp u) dst (s.v u)=bo0 E.T t dst (take E.T pm s t (.tmp u)):=by
   simp only [ev]at hk
   cases hv:s.v u<;>try rfl
   rw [hv]at hk;simp only [ZJ]at hk
   split at hk
   ·rename_i ho;simp only [bk0,ho,if_true]
   ·cases hk
  rw [hold];simp only;rcases take E.T pm s t (.tmp u)with _|⟨d,s1⟩<;>rfl
theorem ALA(u:Tmp):Pz E pm s dst (.box t (.tmp u)) ty=if ty=900003 then frB pm dst (bk0 E pm s t (.tmp u) dst (s.v u))else bk0 E pm s t (.tmp u) dst (s.v u):=by
 rw [A3h,A9P];by_cases h:ty=900003
 ·rw [if_pos h,if_pos h];unfold frB
  cases bk0 E pm s t (.tmp u) dst (s.v u)<;>cases dst<;>rfl
 ·rw [if_neg h,if_neg h]
theorem bkK(x:Operand)(ds:List D)(hs:E.T.isStruct t=true):bk0 E pm s t x dst (.agg ds)=if BB ds then bo0 E.T t dst (take E.T pm s t x)else some (s.putO dst (.box ds)):=by simp [bk0,hs]
theorem AEI(x:Operand)(k:IntKind)(n:Int):bk0 E pm s t x dst (.int k n)=bo0 E.T t dst (take E.T pm s t x):=nr rfl
theorem ALB(x:Operand)(e:TypeId)(xs:List D):bk0 E pm s t x dst (.sl e xs)=bo0 E.T t dst (take E.T pm s t x):=nr rfl
theorem A9Q(x:Operand)(xs:List D):bk0 E pm s t x dst (.cptr xs)=bo0 E.T t dst (take E.T pm s t x):=nr rfl
theorem ALC(ds:List D)(hs:T.isStruct t=true):bo0 T t dst (some (.agg ds,s))=some (s.putO dst (.box ds)):=by simp [bo0,hs,D.isAgg,D.asCells]
theorem ALD(d:D)(hs:T.isStruct t=false)(hd:d.isAgg=false):bo0 T t dst (some (d,s))=some (s.putO dst (.box [d])):=by
 have:d.asCells=[d]:=by cases d<;>first|rfl|(simp [D.isAgg]at hd)
 simp [bo0,hs,hd,this]
def fa1(L:AJ)(i n m:Nat):Option D→Option D
 |some _=>some (.pe L i n m)
 |none=>none
theorem ALF(L:AJ)(i n m:Nat)(d:D):fa1 L i n m (some d)=some (.pe L i n m):=nr rfl
def fa0(T:Tys)(pm:Pm)(s:St)(t:TypeId)(x:Operand)(d:D):Option Nat→Option D
 |none=>none
 |some j=>
  if T.isStruct t then
   match d with
   | .box _=>match x with| .tmp u=>some (.pe [u] j (s.k u) (s.m u))|_=>none
   | .vw L n m=>match s.look pm L n m with|some (.box _)=>some (.pe L j n m)|_=>none
   | .pe L c n m=>match s.look pm L n m with|some _=>some (.pe L (c+j) n m)|none=>none
   | .cptr xs=>some (.cptr (xs.drop j))
   |_=>none
  else none
theorem faE(x:Operand)(d:D)(i:Nat):Gp T pm s t x d i=fa0 T pm s t x d (T.foff t i):=by
 unfold Gp fa0
 cases T.foff t i<;>rfl
theorem foN(i:Nat)(hn:T.nest t=none)(hi:i<T.size t):T.foff t i=some i:=by simp [Tys.foff,hn,hi]
theorem AEJ(u:Tmp)(xs:List D)(i:Nat)(hs:T.isStruct t=true):fa0 T pm s t (.tmp u) (.box xs) (some i)=some (.pe [u] i (s.k u) (s.m u)):=by simp [fa0,hs]
theorem ALG(x:Operand)(L:AJ)(n m i:Nat)(hs:T.isStruct t=true):fa0 T pm s t x (.vw L n m) (some i)=fa1 L i n m (Xr s pm L n m):=by
 simp only [fa0,hs,if_true,Xr]
 cases s.look pm L n m with
 |none=>rfl
 |some o=>cases o<;>rfl
theorem ALH(x:Operand)(L:AJ)(c n m i:Nat)(hs:T.isStruct t=true):fa0 T pm s t x (.pe L c n m) (some i)=fa1 L (c+i) n m (s.look pm L n m):=by
 simp only [fa0,hs,if_true]
 cases s.look pm L n m<;>rfl
theorem ALI(x:Operand)(xs:List D)(i:Nat)(hs:T.isStruct t=true):fa0 T pm s t x (.cptr xs) (some i)=some (.cptr (xs.drop i)):=by simp [fa0,hs]
theorem csS(L:AJ)(c n:Nat)(o:D):cellsOf s L c n (some o)=if c+n≤o.cells.length then Eo (.agg ((List.range n).map fun i=>KJ s L (c+i) (o.cells.getD (c+i) .undef)))else none:=nr rfl
variable {α:Type} (f:Nat→α)
theorem rg2:(List.range 2).map f=[f 0,f 1]:=nr rfl
theorem rg3:(List.range 3).map f=[f 0,f 1,f 2]:=nr rfl
theorem rg4:(List.range 4).map f=[f 0,f 1,f 2,f 3]:=nr rfl
theorem rg7:(List.range 7).map f=[f 0,f 1,f 2,f 3,f 4,f 5,f 6]:=nr rfl
theorem AEK(L:AJ)(c:Nat)(k:IntKind)(n:Int):KJ s L c (.int k n)= .int k n:=nr rfl
theorem ALJ(L:AJ)(c:Nat)(e:TypeId)(xs:List D):KJ s L c (.sl e xs)= .sl e xs:=nr rfl
theorem AEL(L:AJ)(c:Nat)(e:TypeId)(xs:List D):KJ s L c (.own e xs)=su s (L++[c]):=nr rfl
theorem ALK(L:AJ)(c:Nat)(M:AJ)(n m:Nat):KJ s L c (.vw M n m)= .vw M n m:=nr rfl
theorem noA(xs:List D):Eo (.agg xs)=if BB xs then none else some (.agg xs):=by simp only [Eo,D.hasObj];rfl
theorem AEM(k:IntKind)(n:Int):Eo (.int k n)=some (.int k n):=by simp [Eo,D.hasObj]
theorem ALM(e:TypeId)(xs:List D):Eo (.sl e xs)=some (.sl e xs):=by simp [Eo,D.hasObj]
theorem ALN(L:AJ)(n m:Nat):Eo (.vw L n m)=some (.vw L n m):=by simp [Eo,D.hasObj]
theorem dl2(a b:Nat)(l:AJ):List.dropLast (a::b::l)=a::List.dropLast (b::l):=nr rfl
theorem dl1(a:Nat):List.dropLast [a]=[]:=nr rfl
theorem ALO(r c:Nat)(p:AJ):s.get (r::c::p)=Bz (s.v r) (c::p):=nr rfl
theorem uj: ∀(ds xs:List D),xs.length=ds.length→D8 xs 0 ds=ds:=by
 have key: ∀(ds pre xs:List D),xs.length=ds.length→D8 (pre++xs) pre.length ds=pre++ds:=by
  intro ds
  induction ds with
  |nil=>intro pre xs h;simp at h;subst h;rfl
  |cons d ds ih=>
   intro pre xs h
   cases xs with
   |nil=>simp at h
   |cons x xs=>
    simp only [D8];have:=ih (pre++[d]) xs (by simpa using h)
    simpa using this
 intro ds xs h;simpa using key ds [] xs h
def sw1(T:Tys)(pm:Pm)(t:TypeId)(u:Tmp)(ds:List D)(s:St):D→Option St
 | .box xs=>if T.known t&&T.isStruct t&&pm.wr u&&ds.all EE&&(T.size t==ds.length)&&(xs.length==ds.length)then(if BB ds||BB xs then some ((s.set [u] (.box ds)).bump u)else some (s.set [u] (.box ds)))else oD T pm t (.tmp u) (some (.agg ds,s))
 |_=>oD T pm t (.tmp u) (some (.agg ds,s))
theorem ALP(u:Tmp)(ds:List D):oD T pm t (.tmp u) (some (.agg ds,s))=sw1 T pm t u ds s (s.v u):=by
 cases hv:s.v u<;>simp only [sw1]
 rename_i xs
 split
 ·rename_i hc
  simp only [Gb,beq_iff_eq]at hc;obtain⟨⟨⟨⟨⟨hk,hs⟩,hw⟩,hd⟩,hz⟩,hl⟩:=hc;have hz':T.size t≤xs.length:=by omega
  simp only [oD,ev,hv,K9,D.asCells,D.isAgg,D.cells,D.withCells,hk,hs,hw,hd,hz,fC,beq_self_eq_true,Bool.and_self,MK,D.hasObj];rw [uj ds xs hl];have h2:ds.length≤xs.length:=by omega
  simp only [h2,decide_true,Bool.and_self,if_true]
  split<;>first|rfl|(rename_i hq;simp only [hq];rfl)
 ·rfl
theorem ALQ(u:Tmp)(ds xs:List D)(hk:T.known t=true)(hs:T.isStruct t=true)(hw:pm.wr u=true)(hd:ds.all EE=true)(hz:T.size t=ds.length)(hl:xs.length=ds.length):
  sw1 T pm t u ds s (.box xs)=if BB ds||BB xs then some ((s.set [u] (.box ds)).bump u)else some (s.set [u] (.box ds)):=by
 simp [sw1,hk,hs,hw,hd,hz,hl]
def rc1(T:Tys)(s:St)(t:Tmp)(ty:TypeId):D→Option (D×St)
 | .box xs=>if T.isStruct ty then(if xs.length=T.size ty then td1 (G6 Pm.all (s.clr t) xs)else none)else(match xs with| [d]=>DC Pm.all (s.clr t) d|_=>none)
 | .cptr xs=>if T.isStruct ty then(if xs.length=T.size ty then some (.agg xs,s)else none)else(match xs with| [d]=>some (d,s)|_=>none)
 |_=>none
theorem A9R(u:Tmp)(hk:T.known ty=true):ZQ T s (.cell u ty)=rc1 T s u ty (s.v u):=by
 simp only [ZQ,hk,if_true,rc1]
 cases s.v u with
 |box xs=>
  simp only;split
  ·split
   ·cases G6 Pm.all (s.clr u) xs<;>rfl
   ·rfl
  ·rfl
 |_=>rfl
theorem ALR(u:Tmp)(xs:List D)(hs:T.isStruct ty=true)(hl:xs.length=T.size ty):rc1 T s u ty (.box xs)=td1 (G6 Pm.all (s.clr u) xs):=by simp [rc1,hs,hl]
def cp1(pm:Pm)(s:St)(u:Tmp)(rest:List Operand):D→Option (List D×St)
 | .box xs=>match ED xs with
  |some ys=>if pm.wr u then(PQ pm (s.set [u] (.cptr ys)) rest).map fun r=>(.cptr ys::r.1,r.2)else none
  |none=>none
 | .cptr ys=>(PQ pm s rest).map fun r=>(.cptr ys::r.1,r.2)
 |_=>none
theorem AEO:PQ pm s []=some ([],s):=nr rfl
theorem AEP(u:Tmp)(rest:List Operand):PQ pm s (.tmp u::rest)=cp1 pm s u rest (s.v u):=by
 simp only [PQ]
 cases s.v u<;>rfl
def cp2(pm:Pm)(s:St)(u:Tmp)(rest:List Operand):Option (List D)→Option (List D×St)
 |some ys=>if pm.wr u then(PQ pm (s.set [u] (.cptr ys)) rest).map fun r=>(.cptr ys::r.1,r.2)else none
 |none=>none
theorem ALU(u:Tmp)(rest:List Operand)(xs:List D):cp1 pm s u rest (.box xs)=cp2 pm s u rest (ED xs):=by
 simp only [cp1];cases ED xs<;>rfl
theorem ALV(u:Tmp)(rest:List Operand)(ys:List D)(hw:pm.wr u=true):cp2 pm s u rest (some ys)=(PQ pm (s.set [u] (.cptr ys)) rest).map fun r=>(.cptr ys::r.1,r.2):=by simp [cp2,hw]
def clN(E:Env)(pm:Pm)(s:St)(dst:Option Tmp)(args:Array Operand)(ts:Array TypeId):D→Option St
 | .clo f caps=>if args.size=ts.size then Il E pm s dst f (args.toList.zip ts.toList) caps else none
 | .ocl false f caps=>if args.size=ts.size then PR E pm s dst f (args.toList.zip ts.toList) caps else none
 |_=>none
theorem A9S(u:Tmp)(args:Array Operand)(ts:Array TypeId):Pz E pm s dst (.call ⟨.value (.tmp u),args,ts⟩) ty=clN E pm s dst args ts (s.v u):=by
 rw [zN];cases s.v u<;>first|rfl|(rename_i b _ _;cases b<;>rfl)
theorem ALW(args:Array Operand)(ts:Array TypeId)(f':FuncId)(caps:List D)(h:args.size=ts.size):clN E pm s dst args ts (.clo f' caps)=Il E pm s dst f' (args.toList.zip ts.toList) caps:=by simp [clN,h]
def mf0(f:FuncId)(dst:Option Tmp):Option (List D×St)→Option St
 |some r=>some (r.2.putO dst (.clo f r.1))
 |none=>none
theorem ALX(g:FuncId)(xs:List D):mf0 g dst (some (xs,s))=some (s.putO dst (.clo g xs)):=nr rfl
def mfV(f:FuncId)(dst:Option Tmp):Option (List D×St)→Option St
 |some r=>some (r.2.putO dst (.ocl false f r.1))
 |none=>none
theorem ALY(g:FuncId)(xs:List D):mfV g dst (some (xs,s))=some (s.putO dst (.ocl false g xs)):=nr rfl
theorem yMf(g:FuncId)(captured:Array Operand):Pz E pm s dst (.makeFunc (.func g) #[] captured) ty=if ty<3000000 then mf0 g dst (PQ pm s captured.toList)else mfV g dst (ZK pm s (ty-3000000) captured.toList):=by
 rw [kv];simp only [List.isEmpty_toArray,List.isEmpty_nil,if_true];by_cases h:ty<3000000
 ·rw [if_pos h,if_pos h]
  cases PQ pm s captured.toList<;>rfl
 ·rw [if_neg h,if_neg h]
  cases ZK pm s (ty-3000000) captured.toList<;>rfl
def cvp(l:List Operand):Option (List D×St)→Option (List D×St)
 |none=>none
 |some (_,s1)=>(Si s1 l).map fun ds=>(ds,s1)
theorem cvE(m:Nat)(l:List Operand):ZK pm s m l=cvp l (PQ pm s (Lc m 0 l)):=by
 unfold ZK cvp;rcases PQ pm s (Lc m 0 l)with _|⟨ys,s1⟩<;>rfl
def cvq(s:St):Option (List D)→Option (List D×St)
 |some ds=>some (ds,s)
 |none=>none
theorem ALZ(l:List Operand)(ys:List D):cvp l (some (ys,s))=cvq s (Si s l):=by
 simp only [cvp];cases Si s l<;>rfl
theorem ALa(ds:List D):cvq s (some ds)=some (ds,s):=nr rfl
theorem umN(m i:Nat):Lc m i []=[]:=nr rfl
theorem umC(m i:Nat)(x:Operand)(xs:List Operand):Lc m i (x::xs)=if m / 2 ^ i % 2=1 then Lc m (i+1) xs else x::Lc m (i+1) xs:=by
 rw [Lc,Nat.testBit_eq_decide_div_mod_eq];by_cases h:m / 2 ^ i % 2=1<;>simp [h]
def ce1(s:St)(u:Tmp)(r:Option (List D)):D→Option (List D)
 | .box _=>r.map (su s [u]:: ·)
 | .cptr ys=>r.map (.cptr ys:: ·)
 |_=>none
theorem ceN:Si s []=some []:=nr rfl
theorem ceT(u:Tmp)(rest:List Operand):Si s (.tmp u::rest)=ce1 s u (Si s rest) (s.v u):=by
 simp only [Si]
 cases s.v u<;>rfl
theorem ALc(u:Tmp)(l xs:List D):ce1 s u (some l) (.box xs)=some (su s [u]::l):=nr rfl
theorem ALd(u:Tmp)(l ys:List D):ce1 s u (some l) (.cptr ys)=some (.cptr ys::l):=nr rfl
def A9T(T:Tys)(pm:Pm)(s:St)(t:TypeId)(t0:Tmp):D→D→Option St
 | .box [_],.ocl false f xs=>if T.known t&& !T.isStruct t&&(T.size t==1)&&pm.rd t0&&pm.wr t0 then some (s.set [t0] (.ocl true f (xs.map (Lf s t0))))else none
 |_,_=>none
theorem ALe(T:Tys)(t0 u:Tmp):Xa T pm s t (.tmp t0) (.tmp u)=A9T T pm s t t0 (s.v t0) (s.v u):=by
 show(match s.v t0,s.v u with
  | .box [_],.ocl false f xs=>if T.known t&& !T.isStruct t&&(T.size t==1)&&pm.rd t0&&pm.wr t0 then some (s.set [t0] (.ocl true f (xs.map (Lf s t0))))else none
  |_,_=>none)=_
 rfl
theorem ALf(T:Tys)(t0:Tmp)(x:D)(f:FuncId)(xs:List D)(hk:T.known t=true)(hs:T.isStruct t=false)(hz:T.size t=1)(hr:pm.rd t0=true)(hw:pm.wr t0=true):
  A9T T pm s t t0 (.box [x]) (.ocl false f xs)=some (s.set [t0] (.ocl true f (xs.map (Lf s t0)))):=by simp [A9T,hk,hs,hz,hr,hw]
theorem utV(t0 r n m:Nat):Lf s t0 (.vw [r] n m)=if r=t0 then(if n=s.k t0 then .undef else .vw [r] n m)else .vw [r] n m:=by
 unfold Lf;by_cases h:r=t0<;>by_cases h2:n=s.k t0<;>simp [h,h2]
theorem utC(t0:Nat)(ys:List D):Lf s t0 (.cptr ys)= .cptr ys:=nr rfl
theorem ldO(T:Tys)(x:Operand)(f:FuncId)(xs:List D)(hk:T.known t=true)(hs:T.isStruct t=false):G7 T pm s t x (.ocl true f xs)=some (.ocl false f xs):=by simp [G7,hk,hs]
def co2(E:Env)(pm:Pm)(s:St)(dst:Option Tmp)(f:FuncId)(as:List D)(ls:List (AJ×D)):Option (List D×List (AJ×D))→Option St
 |none=>none
 |some (cs,lc)=>
  if G8 ((ls++lc).map (·.1))&&(ls++lc).all (fun l=>pm.wr (l.1.headD 0))&&(ls++lc).all (fun l=>o8 l.2)then
   cl2 s dst (ls++lc) (E.call f (as++cs.map (Lu f cs)) ((ls++lc).map (·.2)))
  else none
def co1(E:Env)(pm:Pm)(s:St)(dst:Option Tmp)(f:FuncId)(caps:List D):Option (List D×List (AJ×D))→Option St
 |none=>none
 |some (as,ls)=>co2 E pm s dst f as ls (ER pm s ls.length caps)
theorem coE(f:FuncId)(xs:List (Operand×TypeId))(caps:List D):PR E pm s dst f xs caps=co1 E pm s dst f caps (Eg E true pm s 0 xs):=by
 unfold PR co1;rcases Eg E true pm s 0 xs with _|⟨as,ls⟩
 ·rfl
 ·simp only;unfold co2;rcases ER pm s ls.length caps with _|⟨cs,lc⟩
  ·rfl
  ·simp only;split
   ·unfold cl2;rcases E.call f (as++cs.map (Lu f cs)) ((ls++lc).map (·.2))with _|⟨r,o⟩<;>rfl
   ·rfl
theorem ALh(f:FuncId)(caps as:List D)(ls:List (AJ×D)):co1 E pm s dst f caps (some (as,ls))=co2 E pm s dst f as ls (ER pm s ls.length caps):=nr rfl
theorem ALi(f:FuncId)(as cs:List D)(ls lc:List (AJ×D))(h:(G8 ((ls++lc).map (·.1))&&(ls++lc).all (fun l=>pm.wr (l.1.headD 0))&&(ls++lc).all (fun l=>o8 l.2))=true):
  co2 E pm s dst f as ls (some (cs,lc))=cl2 s dst (ls++lc) (E.call f (as++cs.map (Lu f cs)) ((ls++lc).map (·.2))):=by simp only [co2,h,if_true]
def oaJ(a:D)(l:List (AJ×D)):Option (List D×List (AJ×D))→Option (List D×List (AJ×D))
 |some r=>some (a::r.1,l++r.2)
 |none=>none
theorem ALj(a:D)(l:List (AJ×D))(r:List D)(m:List (AJ×D)):oaJ a l (some (r,m))=some (a::r,l++m):=nr rfl
def oa1(pm:Pm)(s:St)(j:Nat)(L:AJ)(rest:List D):Option D→Option (List D×List (AJ×D))
 |some c=>oaJ (.vw [G+j] 0 0) [(L,c)] (ER pm s (j+1) rest)
 |none=>none
theorem ALl(j:Nat)(L:AJ)(rest:List D)(c:D):oa1 pm s j L rest (some c)=oaJ (.vw [G+j] 0 0) [(L,c)] (ER pm s (j+1) rest):=nr rfl
theorem oaN(j:Nat):ER pm s j []=some ([],[]):=nr rfl
theorem oaV(j:Nat)(L:AJ)(n m:Nat)(rest:List D):ER pm s j (.vw L n m::rest)=oa1 pm s j L rest (s.look pm L n m):=by
 rw [ER]
 cases s.look pm L n m with
 |none=>rfl
 |some c=>simp only [oa1];rcases ER pm s (j+1) rest with _|⟨a,b⟩<;>rfl
theorem oaC(j:Nat)(ys rest:List D):ER pm s j (.cptr ys::rest)=oaJ (.cptr ys) [] (ER pm s j rest):=by
 rw [ER];rcases ER pm s j rest with _|⟨a,b⟩<;>rfl
theorem oaU(j:Nat)(rest:List D):ER pm s j (.undef::rest)=oaJ .undef [] (ER pm s j rest):=by
 rw [ER];rcases ER pm s j rest with _|⟨a,b⟩<;>rfl
theorem saU(f:FuncId)(cs:List D):Lu f cs .undef= .ocl true f cs:=nr rfl
theorem saV(f:FuncId)(cs:List D)(L:AJ)(n m:Nat):Lu f cs (.vw L n m)= .vw L n m:=nr rfl
theorem saC(f:FuncId)(cs ys:List D):Lu f cs (.cptr ys)= .cptr ys:=nr rfl
theorem ALm(args:Array Operand)(ts:Array TypeId)(f':FuncId)(caps:List D)(h:args.size=ts.size):clN E pm s dst args ts (.ocl false f' caps)=PR E pm s dst f' (args.toList.zip ts.toList) caps:=by simp [clN,h]
def bn1(dflt:Nat):Option D→Option Nat
 |some (.int _ n)=>if 0≤n then some n.toNat else none
 |_=>none
theorem bnN(n:Nat):UR T s n none=some n:=nr rfl
theorem bnS(n:Nat)(x:Operand):UR T s n (some x)=bn1 n (ev T s 0 x):=by
 simp only [UR];rcases ev T s 0 x with _|d
 ·rfl
 ·cases d<;>rfl
theorem ALo(n:Nat)(k:IntKind)(i:Int)(h:0≤i):bn1 n (some (.int k i))=some i.toNat:=by simp [bn1,h]
def sl0(T:Tys)(pm:Pm)(s:St)(x:Operand)(d:D)(lo hi mx:Option Operand):Ty→Option (D×St)
 | .slice e'=>match EB pm s x d with
  |none=>none
  |some (e,xs,o)=>
   match UR T s 0 lo,UR T s (T.len e xs) hi with
   |some l,some h=>
    if e'=e∧T.known e=true∧l≤h∧h≤T.len e xs then
     if mx.isSome then
      match UR T s 0 mx with
      |some q=>if l=h∧h=q∧hi.isSome=true then some (.own e [],s)else none
      |none=>none
     else match o with
      |none=>some (.sl e ((xs.take (h*T.size e)).drop (l*T.size e)),s)
      |some (L,va,vb)=>
       if pm.wr (L.headD 0)then
        match ED xs with
        |some ys=>some (.sl e ((ys.take (h*T.size e)).drop (l*T.size e)),s.set L (.sl e ys))
        |none=>none
       else ZF L va vb e l h s
    else none
   |_,_=>none
 | .string=>match d with
  | .str b=>match UR T s 0 lo,UR T s b.size hi with
   |some l,some h=>if l≤h∧h≤b.size∧mx.isNone then some (.str (b.extract l h),s)else none
   |_,_=>none
  |_=>none
 |_=>none
theorem slT(x:Operand)(d:D)(lo hi mx:Option Operand):Kj T pm s t x d lo hi mx=sl0 T pm s x d lo hi mx (T.ty t):=by
 unfold Kj sl0
 cases T.ty t<;>first|rfl|(cases d<;>rfl)
def sl1(T:Tys)(pm:Pm)(s:St)(e:TypeId)(xs:List D)(o:Option (AJ×Nat×Nat)):Option Nat→Option Nat→Option (D×St)
 |some l,some h=>
  if l≤h∧h≤xs.length then
   match o with
   |none=>some (.sl e ((xs.take h).drop l),s)
   |some (L,va,vb)=>
    if pm.wr (L.headD 0)then
     match ED xs with
     |some ys=>some (.sl e ((ys.take h).drop l),s.set L (.sl e ys))
     |none=>none
    else ZF L va vb e l h s
  else none
 |_,_=>none
def sl2(T:Tys)(pm:Pm)(s:St)(e':TypeId)(lo hi:Option Operand):Option (TypeId×List D×Option (AJ×Nat×Nat))→Option (D×St)
 |some (e,xs,o)=>if e'=e∧T.known e=true then sl1 T pm s e xs o (UR T s 0 lo) (UR T s xs.length hi)else none
 |none=>none
theorem ALp(x:Operand)(d:D)(lo hi:Option Operand)(e:TypeId)(hz:T.isStruct e=false):sl0 T pm s x d lo hi none (.slice e)=sl2 T pm s e lo hi (EB pm s x d):=by
 have h1:=TD hz;simp only [sl0,sl2,Option.isSome_none,OB,if_false];rcases EB pm s x d with _|⟨e',xs,o⟩
 ·rfl
 ·simp only;by_cases he:e=e'
  ·subst he;simp only [true_and,h1,Pw,Tys.len,if_true]
   cases UR T s 0 lo<;>cases UR T s xs.length hi<;>simp only [sl1]<;>(by_cases hk:T.known e=true<;>simp [hk])
  ·simp only [he,false_and,if_false]
   cases UR T s 0 lo<;>cases UR T s (T.len e' xs) hi<;>rfl
theorem ALq(e:TypeId)(lo hi:Option Operand)(xs:List D)(o:Option (AJ×Nat×Nat))(hk:T.known e=true):sl2 T pm s e lo hi (some (e,xs,o))=sl1 T pm s e xs o (UR T s 0 lo) (UR T s xs.length hi):=by simp [sl2,hk]
theorem ALr(e:TypeId)(xs:List D)(l h:Nat)(h1:l≤h)(h2:h≤xs.length):sl1 T pm s e xs none (some l) (some h)=some (.sl e ((xs.take h).drop l),s):=by simp [sl1,h1,h2]
def sl3(pm:Pm)(s:St)(e:TypeId)(L:AJ)(a b l h:Nat)(o:Option (List D)):Option (D×St):=
 if pm.wr (L.headD 0)then
  match o with
  |some ys=>some (.sl e ((ys.take h).drop l),s.set L (.sl e ys))
  |none=>none
 else ZF L a b e l h s
theorem ALt(e:TypeId)(xs:List D)(L:AJ)(a b l h:Nat)(h1:l≤h)(h2:h≤xs.length):sl1 T pm s e xs (some (L,a,b)) (some l) (some h)=sl3 pm s e L a b l h (ED xs):=by
 simp only [sl1,h1,h2,and_self,if_true];rfl
theorem ALu(e:TypeId)(L:AJ)(a b l h:Nat)(o:Option (List D))(hw:pm.wr (L.headD 0)=false):sl3 pm s e L a b l h o=some (.vs e L a b l (h-l),s):=by simp only [sl3];rw [if_neg (by rw [hw];decide)];rfl
theorem ALv(u:Tmp):wrO pm (.tmp u)=pm.wr u:=nr rfl
def cf2(e:TypeId)(xs:List D)(s1:St):Option Nat→Option (D×St)
 |some l=>if l≤xs.length then some (.own e (xs.drop l),s1)else none
 |none=>none
def cf1(T:Tys)(s:St)(e':TypeId)(lo:Option Operand):Option (D×St)→Option (D×St)
 |some (.own e xs,s1)=>
  match UR T s 0 lo with
  |some l=>if e'=e∧T.known e=true∧l≤T.len e xs then some (.own e (xs.drop (l*T.size e)),s1)else none
  |none=>none
 |_=>none
def cf0(T:Tys)(pm:Pm)(s:St)(t:TypeId)(x:Operand)(lo:Option Operand):Ty→Option (D×St)
 | .slice e=>cf1 T s e lo (if wrO pm x then take T pm s t x else none)
 |_=>none
theorem cfT(x:Operand)(lo:Option Operand):PM T pm s t x lo=cf0 T pm s t x lo (T.ty t):=by
 unfold PM cf0 cf1
 cases T.ty t<;>rfl
theorem ALw(x:Operand)(lo:Option Operand)(e:TypeId)(hw:wrO pm x=true):cf0 T pm s t x lo (.slice e)=cf1 T s e lo (take T pm s t x):=by
 unfold cf0;rw [if_pos hw]
theorem ALx(lo:Option Operand)(e:TypeId)(xs:List D)(s1:St)(hk:T.known e=true)(hz:T.isStruct e=false):cf1 T s e lo (some (.own e xs,s1))=cf2 e xs s1 (UR T s 0 lo):=by
 have h1:=TD hz;simp only [cf1,hk,true_and,h1,Pw,Tys.len,if_true]
 cases UR T s 0 lo<;>rfl
theorem ALy(e:TypeId)(xs:List D)(s1:St)(l:Nat)(hle:l≤xs.length):cf2 e xs s1 (some l)=some (.own e (xs.drop l),s1):=by
 show(if l≤xs.length then some (D.own e (xs.drop l),s1)else none)=_
 rw [if_pos hle]
def ca0(f:FuncId):Option (List D×List (AJ×D))→Option (D×List (AJ×D))
 |some r=>some (.clo f r.1,r.2)
 |none=>none
theorem AM0(f:FuncId)(cs:List D)(ls:List (AJ×D)):ca0 f (some (cs,ls))=some (.clo f cs,ls):=nr rfl
def ca2(pm:Pm)(s:St)(L:AJ)(c:D)(rest:List D):Option D→Option (List D×List (AJ×D))
 |some c'=>oaJ c' [(L,c)] (PO pm s rest)
 |none=>none
theorem AM1(L:AJ)(c:D)(rest:List D)(c':D):ca2 pm s L c rest (some c')=oaJ c' [(L,c)] (PO pm s rest):=nr rfl
def ca1(pm:Pm)(s:St)(L:AJ)(rest:List D):Option D→Option (List D×List (AJ×D))
 |some c=>ca2 pm s L c rest (F3 c)
 |none=>none
theorem AM3(L:AJ)(rest:List D)(c:D):ca1 pm s L rest (some c)=ca2 pm s L c rest (F3 c):=nr rfl
theorem caN:PO pm s []=some ([],[]):=nr rfl
theorem caV(L:AJ)(n m:Nat)(rest:List D):PO pm s (.vw L n m::rest)=ca1 pm s L rest (s.look pm L n m):=by
 rw [PO]
 cases s.look pm L n m with
 |none=>rfl
 |some c=>
  simp only [ca1,ca2]
  cases F3 c with
  |none=>rfl
  |some c'=>simp only [Cz];rcases PO pm s rest with _|⟨a,b⟩<;>rfl
theorem caC(ys rest:List D):PO pm s (.cptr ys::rest)=oaJ (.cptr ys) [] (PO pm s rest):=by
 rw [PO];rcases PO pm s rest with _|⟨a,b⟩<;>rfl
theorem AET(T:Tys)(L0:AJ)(j:Nat)(f:FuncId)(caps:List D):Py T false pm s j L0 (.ocl false f caps)=ca0 f (PO pm s caps):=by
 show(if(false||false)=true then none else(PO pm s caps).map fun r=>(D.clo f r.1,r.2))=_
 rw [if_neg (by decide)]
 unfold ca0;rcases PO pm s caps with _|⟨a,b⟩<;>rfl
def va1(T:Tys)(e:TypeId)(L:AJ)(lo len:Nat):Option D→Option (D×List (AJ×D))
 |some (.own e' xs)=>
  if e'=e∧T.known e=true∧(lo+len)*T.size e≤xs.length then
   (ED xs).map fun ys=>(.sl e ((ys.drop (lo*T.size e)).take (len*T.size e)),[(L,.own e' xs)])
  else none
 |_=>none
theorem AM4(e:TypeId)(L L0:AJ)(n m lo len j:Nat):Py T false pm s j L0 (.vs e L n m lo len)=va1 T e L lo len (s.look pm L n m):=by
 show iV T pm s e L n m lo len=_
 unfold iV va1;rcases s.look pm L n m with _|d
 ·rfl
 ·cases d<;>rfl
theorem AEU(x y:Tmp)(t':TypeId):Pz E pm s dst (.call ⟨.builtin .copy, #[.tmp x,.tmp y], #[t,t']⟩) ty=ku dst (RO E.T pm s t (.tmp x) (.tmp y) (s.v x) (s.v y)):=Qt dst _
def A41(T:Tys)(pm:Pm)(s:St)(t:TypeId):Option (TypeId×AJ×List D×Nat×Nat)→Option (TypeId×List D)→Option (D×St)
 |some (e,L,xs,lo,len),some (e',ys)=>
  if T.isSl t e&&(e==e')&&T.known e&&(T.size e==1)&& !BB xs&& !BB ys&&ys.all EE&&pm.wr (L.headD 0)then
   some (.int .i64 (min len ys.length:Nat),s.set L (.own e (D8 xs lo (ys.take (min len ys.length)))))
  else none
 |_,_=>none
theorem AM5(x y:Operand)(a b:D):RO T pm s t x y a b=A41 T pm s t (ZG pm s x a) (fH pm s y b):=by
 unfold RO A41;rcases ZG pm s x a with _|⟨_,_,_,_,_⟩<;>rcases fH pm s y b with _|⟨_,_⟩<;>rfl
theorem AM6(e:TypeId)(L:AJ)(xs ys:List D)(lo len:Nat)(h1:T.isSl t e=true)(h2:T.known e=true)(h3:T.size e=1)(h4:BB xs=false)(h5:BB ys=false)(h6:ys.all EE=true)(h7:pm.wr (L.headD 0)=true):
  A41 T pm s t (some (e,L,xs,lo,len)) (some (e,ys))=some (.int .i64 (min len ys.length:Nat),s.set L (.own e (D8 xs lo (ys.take (min len ys.length))))):=by
 unfold A41;dsimp only;rw [if_pos (by rw [h1,h2,h3,h4,h5,h6,h7];simp)]
def A9V(e:TypeId):Ty→Bool
 | .slice e'=>e'==e
 |_=>false
theorem AM7(e:TypeId):T.isSl t e=A9V e (T.ty t):=by unfold Tys.isSl A9V;cases T.ty t<;>rfl
theorem AM8(e e':TypeId):A9V e (.slice e')=(e'==e):=nr rfl
def dv0:Option (TypeId×List D×Option (AJ×Nat×Nat))→Option (TypeId×AJ×List D×Nat×Nat)
 |some (e,xs,some (L,_,_))=>some (e,L,xs,0,xs.length)
 |_=>none
theorem AM9(e:TypeId)(xs:List D)(L:AJ)(a b:Nat):dv0 (some (e,xs,some (L,a,b)))=some (e,L,xs,0,xs.length):=nr rfl
theorem dvW(x:Operand)(L:AJ)(n m:Nat):ZG pm s x (.vw L n m)=dv0 (EB pm s x (.vw L n m)):=by
 show(match EB pm s x (.vw L n m)with|some (e,xs,some (L,_,_))=>some (e,L,xs,0,xs.length)|_=>none)=_
 rcases EB pm s x (.vw L n m)with _|⟨_,_,_|⟨_,_,_⟩⟩<;>rfl
def dv1(e:TypeId)(L:AJ)(lo len:Nat):Option D→Option (TypeId×AJ×List D×Nat×Nat)
 |some (.own e' xs)=>if e'=e∧lo+len≤xs.length then some (e,L,xs,lo,len)else none
 |_=>none
theorem dvS(x:Operand)(e:TypeId)(L:AJ)(n m lo len:Nat):ZG pm s x (.vs e L n m lo len)=dv1 e L lo len (s.look pm L n m):=by
 show(match s.look pm L n m with|some (.own e' xs)=>if e'=e∧lo+len≤xs.length then some (e,L,xs,lo,len)else none|_=>none)=_
 rcases s.look pm L n m with _|d
 ·rfl
 ·cases d<;>rfl
theorem AMB(e:TypeId)(L:AJ)(lo len:Nat)(xs:List D)(h:lo+len≤xs.length):dv1 e L lo len (some (.own e xs))=some (e,L,xs,lo,len):=by simp [dv1,h]
theorem svL(x:Operand)(e:TypeId)(xs:List D):fH pm s x (.sl e xs)=some (e,xs):=nr rfl
def sv1(e:TypeId)(lo len:Nat):Option D→Option (TypeId×List D)
 |some (.own e' xs)=>if e'=e∧lo+len≤xs.length then some (e,(xs.drop lo).take len)else none
 |_=>none
theorem svS(x:Operand)(e:TypeId)(L:AJ)(n m lo len:Nat):fH pm s x (.vs e L n m lo len)=sv1 e lo len (s.look pm L n m):=by
 show(match s.look pm L n m with|some (.own e' xs)=>if e'=e∧lo+len≤xs.length then some (e,(xs.drop lo).take len)else none|_=>none)=_
 rcases s.look pm L n m with _|d
 ·rfl
 ·cases d<;>rfl
theorem AMD(e:TypeId)(lo len:Nat)(xs:List D)(h:lo+len≤xs.length):sv1 e lo len (some (.own e xs))=some (e,(xs.drop lo).take len):=by simp [sv1,h]
end
theorem uk{P:Program}{T:Tys}{f:FuncId}{e:TypeId}{r:D}{outs:List D}(hk:T.known e=true)(h: ∀A c,Good P T f [.konst (.slice A 0 c)] [] r outs):Good P T f [.sl e []] [] r outs:=by
 refine⟨(h none 0).1,fun vs gh w S FL hsz hA hL hL0 hLd hlt=> ?_⟩
 obtain⟨v,hv,hW⟩:=hA 0 _ rfl
 obtain⟨A,c,rfl⟩: ∃A c,v= .slice A 0 c:=by
  cases hW with
  |sl us hE hn hc hm hx hw=>
   rename_i A n c
   have hp:=qP hk
   have:n=0:=by
    simp only [Sd]at hn;rcases Nat.mul_eq_zero.1 hn.symm with h0|h0
    ·exact h0
    ·omega
   subst this
   exact⟨_,_,rfl⟩
 refine(h A c).2 vs gh w S FL hsz (fun i d hi=> ?_) hL hL0 hLd hlt
 cases i with
 |zero=>simp at hi;subst hi;exact⟨_,hv,.konst (fun _ h=>h)⟩
 |succ i=>simp at hi
end Dv
namespace Dv
open Go
set_option maxRecDepth 10000
set_option linter.defProp false
theorem geq:G=100000:=nr rfl
def AL:=A7 @AJV (A7 @AEU (A7 @AJX (A7 @AJ0 (A7 @AJ1 (A7 @A8N (A7 @ALA (A7 @yMf (A7 @A9S (A7 @AJ7 (A7 @ACB (A7 @AJ5 (A7 @A8U (A7 @ACC (A7 @ACF (A7 @A8V (A7 @AC9 (A7 @ACA (A7 @AJ4 (A7 @A8W (A7 @A8X (A7 @A8Y (A7 @AJ9 (A7 @AJA (A7 @AJB (A7 @ACG (A7 @ACH (A7 @uZ (A7 @qV (A7 @ACk (A7 @A3o (A7 @A1I (A7 @A8e (A7 @ACl (A7 @yUn (A7 @A8f (A7 @AJU (A7 @A1J (A7 @A8g (A7 @A3p (A7 @A8h (A7 @ACp (A7 @A1K (A7 @ACq (A7 @A19 (A7 @zM (A7 @zK (A7 @A9M (A7 @yBs (@kw)))))))))))))))))))))))))))))))))))))))))))))))))
def BZ:=A7 @AJk (A7 @AKt (A7 @A8t (A7 @faE (A7 @foN (A7 @AL1 (A7 @AL2 (A7 @AEG (A7 @A9N (A7 @AL5 (A7 @AL6 (A7 (A7 @fnO @fnA) (A7 @spN (A7 @spC (A7 @cfT (A7 @ALw (A7 @ALx (A7 @ALy (A7 @ALY (A7 @cvE (A7 @ALZ (A7 @ALa (A7 @umN (A7 @umC (A7 @ceN (A7 @ceT (A7 @ALc (A7 @ALd (A7 @ALe (A7 @ALf (A7 @utV (A7 @utC (A7 @ldO (A7 @coE (A7 @ALh (A7 @ALi (A7 @ALj (A7 @ALl (A7 @oaN (A7 @oaV (A7 @oaC (A7 @oaU (A7 @saU (A7 @saV (A7 @saC (A7 @ALm (A7 @AJR (A7 @AJS (A7 @AJT (A7 @A8s (A7 @AK4 (A7 @AK5 (A7 @ACz (A7 @A8k (A7 @AD0 (A7 @AD1 (A7 @A8l (A7 @AD2 (A7 @ALu (A7 @ALv (A7 (A7 @AM4 (A7 @AET (A7 @AM0 (A7 @AM3 (A7 @AM1 (A7 @caN (A7 @caV @caC))))))) (A7 @ADc (A7 @AKN (A7 @ADd (A7 @ADe (A7 @AKO (A7 @ADf (A7 @AM5 (A7 @AM6 (A7 @AM7 (A7 @AM8 (A7 @AM9 (A7 @dvW (A7 @dvS (A7 @AMB (A7 @svL (A7 @svS (A7 @AMD (A7 @AJG (A7 @AJH (A7 @AJI (A7 @ACT (A7 @ACU (A7 @ACV (A7 @AE2 (A7 @A9A (A7 @AE3 (A7 @AE4 (A7 @AKl (A7 @bkK (A7 @AEI (A7 (A7 @A9Q @ALB) (A7 @ABy (A7 @AJ2 (A7 @AJ3 (A7 @ndK (A7 @AJY (A7 @ACn (A7 @apK (A7 @ADZ (A7 @AKF (A7 @AKG (A7 @A91 (A7 @dl2 (A7 @dl1 (A7 @ALO (A7 @AEM (A7 @ALM (A7 @ALN (A7 @ALC (A7 @ALD (A7 @ALF (A7 @AEJ (A7 @ALG (A7 @ALH (A7 @ALI (A7 @csS (A7 @rg2 (A7 @rg3 (A7 @rg4 (A7 @rg7 (A7 @AEK (A7 @ALJ (A7 @AEL (A7 @ALK (A7 @noA (A7 @ALP (A7 @ALQ (A7 @A9R (A7 @ALR (A7 @AEO (A7 @AEP (A7 @ALU (A7 @ALV (A7 @ALW (A7 @ALX (A7 @bnN (A7 @bnS (A7 @ALo (A7 @slT (A7 @ALp (A7 @ALq (A7 @ALr (A7 @ALt (A7 @AE5 (A7 @bkT (A7 @bkF (A7 @bkL (A7 @AE6 (A7 @A9B (A7 @ipC (A7 @ipN (A7 @ieC (A7 @fiA (A7 @fiB (A7 @fiC (A7 @A97 (A7 @A98 (A7 @AK6 (A7 @AK7 (A7 @AK8 (A7 @bxA (A7 @AKA (A7 @hdC (A7 @AKK (A7 @AKL (A7 @AKM (A7 @mvT (A7 @AKo (A7 @A9D (A7 @A3u (A7 @AE8 (A7 @A9E (A7 @A9F (A7 @AE9 (A7 @AKp (A7 @A3v (A7 @A9G (A7 @A1M (A7 @A9H (A7 @A3w (A7 @AEA (A7 @A3x (A7 @AKq (A7 @A9I (A7 @A3y (A7 @AEB (A7 @AKr (A7 @A9J (A7 @AKs (A7 @AKu (A7 @AKv (A7 @AKw (A7 @A9K (A7 @pmR (A7 @pmW (A7 @AJ6 (A7 @ACD (A7 @AJ8 (A7 @AIx (A7 @AIy (A7 @AIz (A7 @AL3 (A7 @AL0 (A7 @AKz (A7 @AKx (A7 (A7 @AL7 @yMk) (A7 (A7 @AEH @AL8) (A7 @AL9 (A7 @AED (A7 @AEE (A7 @A8O (A7 @A8P (A7 @A3j (A7 @A8Q (A7 @ACI (A7 @A8Z (A7 @AJC (A7 @A3n (A7 @ACJ (A7 @ACK (A7 @AJD (A7 @A8a (A7 @ACM (A7 @ACN (A7 @ACO (A7 @A8b (A7 @AJE (A7 @ACP (A7 @ACQ (A7 @ACR (A7 @ACS (A7 @ACW (A7 @pkB (A7 @pkT (A7 @pkF (A7 @ABv (A7 @ABw (A7 @ABx (A7 @AJW (A7 @ACm (A7 @AJZ (A7 @AJa (A7 @AJc (A7 @ACX (A7 @ACY (A7 @ACZ (A7 @ACa (A7 @ACb (A7 @ACc (A7 @A1G (A7 @ACd (A7 @ACe (A7 @AJJ (A7 @AJK (A7 @AJL (A7 @AJM (A7 @AJN (A7 @AJO (A7 @ACf (A7 @ACg (A7 @boI (A7 @boB (A7 @boA (A7 @A8c (A7 @ACh (A7 @ACi (A7 @ACj (A7 @ldC (A7 @AJd (A7 @ldP (A7 @AJe (A7 @ldB (A7 @AJf (A7 @ldV (A7 @ACr (A7 @ACt (A7 @A8i (A7 @A8j (A7 @ACu (A7 @AJg (A7 @ACv (A7 @AJh (A7 @ACx (A7 @ACy (A7 @lnT (A7 @AJl (A7 @AD3 (A7 @ixT (A7 @AJn (A7 @AJp (A7 @AD4 (A7 @tkC (A7 @AD9 (A7 @A8o (A7 @AJu (A7 @ADA (A7 @ADB (A7 @A8p (A7 @AJv (A7 @ADC (A7 @AD5 (A7 @A8m (A7 @AJq (A7 @AD6 (A7 @AJr (A7 @AJs (A7 @AJt (A7 @A8n (A7 @A3r (A7 @A8q (A7 @xC (A7 @hoI (A7 @hoB (A7 @ADE (A7 @ADF (A7 @ADG (A7 @AJw (A7 @hoU (A7 @ADH (A7 @ADI (A7 @AJy (A7 @ADK (A7 @AJz (A7 @AK0 (A7 @AK1 (A7 @ADL (A7 @ADM (A7 @ADN (A7 @ADO (A7 @ADP (A7 @ADQ (A7 @A8r (A7 @AKB (A7 @ADR (A7 @ADS (A7 @ADT (A7 @ADU (A7 @ADV (A7 @A8u (A7 @ADW (A7 @ceS (A7 (A7 @A8v @AKC) (A7 @AKD (A7 @AKI (A7 @AKJ (A7 @A8w (A7 @A8x (A7 @ADa (A7 @ADb (A7 @arC (A7 @arF (A7 @aCS (A7 @ADg (A7 @AKP (A7 @ADh (A7 @ADi (A7 @AKT (A7 @ADj (A7 @ADk (A7 @AKQ (A7 @AKS (A7 @AKU (A7 @AKV (A7 @A8y (A7 @ADl (A7 @A8z (A7 @ADm (A7 @A90 (A7 @AKW (A7 @ADn (A7 @AKX (A7 @cdB (A7 @AKY (A7 @AKZ (A7 @AKa (A7 @cdL (A7 @AKb (A7 @AKc (A7 @ADp (A7 @A92 (A7 @ADq (A7 @ADr (A7 @ADs (A7 @A93 (A7 @A3t (A7 @ADt (A7 @A94 (A7 @AKd (A7 @ADu (A7 @A95 (A7 @AKe (A7 @A5C (A7 @ADw (A7 @ADx (A7 @ADy (A7 @A96 (A7 @AKf (A7 @xD (A7 @AKg (A7 @fiD (A7 @fi0 (A7 @re0 (A7 @re1 (A7 @re2 (A7 @AKh (A7 @ADz (A7 @AE0 (A7 @AKi (A7 @A99 (A7 @AKj (A7 @AKk (A7 @AE1 (A7 @AE7 (A7 @A9C (A7 @AKn (A7 @ABz (A7 @AC2 (A7 @A8R (A7 @AC5 (A7 @AC0 (A7 @AC3 (A7 @A8S (A7 @AC6 (A7 @AC1 (A7 @AC4 (A7 @A8T (A7 @AC7 (A7 @zO (A7 @AC8 (A7 @zP (A7 @A1E (A7 @A3k (A7 @A3l (A7 @A3m (A7 @geq (A7 @Int.toNat_natCast (A7 @Int.toNat_zero (A7 @Int.natCast_nonneg (A7 @Nat.zero_le (A7 @Int.le_refl (A7 @Nat.le_refl (A7 @Bool.and_true (A7 @Bool.true_and (A7 @Bool.and_false (A7 @Bool.false_and (A7 @Bool.or_false (A7 @Bool.false_or (A7 @Bool.or_true (A7 @Bool.true_or (A7 @Bool.not_true (A7 @Bool.not_false (A7 @Bool.false_eq_true (A7 @decide_true (A7 @decide_false (A7 @and_self (A7 @and_true (@true_and)))))))))))))))))))))))))))))))))))))))))))))))))))))))))))))))))))))))))))))))))))))))))))))))))))))))))))))))))))))))))))))))))))))))))))))))))))))))))))))))))))))))))))))))))))))))))))))))))))))))))))))))))))))))))))))))))))))))))))))))))))))))))))))))))))))))))))))))))))))))))))))))))))))))))))))))))))))))))))))))))))))))))))))))))))))))))))))))))))))))))))))))))))))))))))))))))))))))))))))))))))))))))))))))))))))))))))))))))))))))))))))))))))))))))
end Dv
