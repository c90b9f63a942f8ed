/- Value semantics for Go code, part 4: arguments of laws, slim code and rules. Conditions: none beyond those in each lemma. -/
import Derived.Test.YtiehjihckndgkaaGreatL3
import Derived.WalkKit
import Derived.ProofKit
import Derived.OpenShut
import Derived.ShutString
import Derived.ChangeOld
import Derived.Below
import Derived.Carry
import Derived.IntWalk
open Go renaming TypeId → ab,Operand → al,FuncId → an
open List renaming range → ao,replicate → ap
open Option.some renaming injEq → am
set_option linter.unusedSimpArgs false
set_option linter.unusedVariables false
namespace Dv
open Go
inductive Shp(T:Tys):ab→List D→Prop
 |int {t k n} (ht:T.ty t= .int k) (hw:(Lit.int k n).wf=true):Shp T t [.int k n]
 |bool {t b} (ht:T.ty t= .bool):Shp T t [.bool b]
 |string {t s} (ht:T.ty t= .string) (hs:s.size≤maxLen):Shp T t [.str s]
 |slice {t e} {xss:List (List D)} (ht:T.ty t= .slice e) (hx: ∀xs,xs∈xss→Shp T e xs) (hl:xss.length≤maxLen):Shp T t [.sl e xss.flatten]
 |struct {t fs} {ds:List D} (ht:T.ty t= .struct fs) (hl:ds.length=fs.length) (hx: ∀(i:Nat) (f:ab) (d:D),fs[i]? =some f→ds[i]? =some d→Shp T f [d]):Shp T t ds
def Wj(T:Tys):Nat→ab→Bool
 |0,_=>false
 |n+1,t=>match T.ty t with
  | .int _=>true
  | .bool=>true
  | .string=>true
  | .slice e=>T.known e&&Wj T n e
  | .struct fs=>(T.nest t).isNone&& !fs.isEmpty&&fs.all (Wj T n)
  |_=>false
theorem Shp.length{T:Tys}{t:ab}{ds:List D}(h:Shp T t ds):ds.length=T.size t:=by
 cases h with
 |int ht=>simp [Tys.size,ht,Ty.size]
 |bool ht=>simp [Tys.size,ht,Ty.size]
 |string ht=>simp [Tys.size,ht,Ty.size]
 |slice ht=>simp [Tys.size,ht,Ty.size]
 |struct ht hl=>simp [Tys.size,ht,Ty.size,hl]
theorem vT{α:Type}{n:Nat}(hn:0<n): ∀(xss:List (List α)),(∀xs∈xss,xs.length=n)→ ∀k:Nat,xss.flatten[k]? =(xss[k / n]?).bind fun xs=>xs[k % n]? :=by
 intro xss
 induction xss with
 |nil=>intro _ k;simp
 |cons xs xss ih=>
  intro h k;have hx:=h xs (Gu);rw [uL];rcases Nat.lt_or_ge k n with hk|hk
  ·rw [VP (by omega),Nat.div_eq_of_lt hk,Nat.mod_eq_of_lt hk];rfl
  ·rw [Ru (by omega),ih (fun ys hy=>h ys (PL _ hy)),hx]
   have h1:k / n=(k-n) / n+1:=by
    rw [Nat.div_eq_sub_div hn hk]
   have h2:k % n=(k-n) % n:=by rw [Nat.mod_eq_sub_mod hk]
   rw [h1,h2];rfl
theorem dS{α:Type}{n:Nat}: ∀(xss:List (List α)),(∀xs∈xss,xs.length=n)→xss.flatten.length=xss.length*n:=by
 intro xss
 induction xss with
 |nil=>intro _;simp
 |cons xs xss ih=>
  intro h;rw [uL,Np,ih (fun ys hy=>h ys (PL _ hy)),h xs (Gu),Jw,Nat.add_mul];omega
abbrev Old(w:World):Nat→Prop:=fun k=>k<w.heap.size
section
variable {P:Program} {T:Tys} {H:Type} {enc:ab×Value→H} {w:World} {spare:Nat→Bool} {RA:Bool}
theorem CJ.cells(h:CJ P T){t:ab}(hk:T.known t=true):P.cellsOf t=T.size t:=by
 obtain⟨i,h1,h2,_⟩:=h.info hk;simp [Program.cellsOf,h1,h2]
theorem yg{n:Nat}{t:ab}(h:Wj T n t=true):T.known t=true:=by
 cases n with
 |zero=>cases h
 |succ n=>
  unfold Wj at h;unfold Tys.known
  cases ht:T.ty t with
  |struct fs=>
   rw [ht]at h
   cases fs with
   |nil=>simp at h
   |cons=>rfl
  |other=>rw [ht]at h;cases h
  |map=>rw [ht]at h;cases h
  |_=>rfl
theorem vU{t:ab}(hk:T.known t=true):0<T.size t:=by
 unfold Tys.known at hk;unfold Tys.size
 cases ht:T.ty t with
 |struct fs=>
  rw [ht]at hk
  cases fs with
  |nil=>cases hk
  |cons=>simp [Ty.size]
 |_=>simp [Ty.size]
theorem yh{base:Nat}{a:Addr}{n:Nat}{cs:List Value}(h:w.cells? base a n=some cs):cs.length=n∧ ∀i,i<n→w.cell? (a.add i)=cs[i]? :=by
 unfold World.cells? at h
 split at h
 ·exact⟨by simpa using mapM_some_length h,fun i hi=>by have:=mapM_some_get h i i (by simp [hi]);simpa using this⟩
 ·cases h
theorem A6x{ad:Addr}{v:Value}(h:w.cell? ad=some v):ad.block<w.heap.size:=by
 rcases Nat.lt_or_ge ad.block w.heap.size with hl|hl
 ·exact hl
 ·have h1:=uH hl;simp [World.cell?,h1]at h
theorem A3m(hT:CJ P T): ∀(fuel:Nat) (n:Nat) (t:ab) (cs:List Value) (x:DataW H×List MemPlace),Wj T n t=true→DataW.trod enc P w 0 spare RA fuel t cs=some x→
  ∃ds,Shp T t ds∧cs.length=ds.length∧ ∀(i:Nat) (d:D),ds[i]? =some d→ ∃v,cs[i]? =some v∧W T (Old w) w V0 KS d v (fun _=>False):=by
 have hE:Em (fun _:Nat=>False):=fun _ h=>h
 have one: ∀(d0:D) (v0:Value),W T (Old w) w V0 KS d0 v0 (fun _=>False)→ ∀(i:Nat) (d:D),[d0][i]? =some d→ ∃v,[v0][i]? =some v∧W T (Old w) w V0 KS d v (fun _=>False):=by
  intro d0 v0 h i d hi
  cases i with
  |zero=>simp at hi;subst hi;exact⟨v0,rfl,h⟩
  |succ i=>simp at hi
 intro fuel
 induction fuel with
 |zero=>intro n t cs x _ h;simp [DataW.trod]at h
 |succ fuel ih=>
  intro n t cs x hd h;have hk:=yg hd;have h0:=(hT t).1;unfold H6 at h0
  cases n with
  |zero=>cases hd
  |succ n=>
   unfold Wj at hd
   cases ht:T.ty t<;>rw [ht]at h0 hd<;>simp only at h0 hd
   case int k=>
    obtain⟨m,rfl,_,hw⟩:=DataW.trod_int h0.1 h
    exact⟨[.int k m],.int ht hw,rfl,one _ _ (.int hE)⟩
   case bool=>
    obtain⟨b,rfl,_⟩:=DataW.trod_bool h0.1 h
    exact⟨[.bool b],.bool ht,rfl,one _ _ (.bool hE)⟩
   case string=>
    obtain⟨s,rfl,_,hs⟩:=DataW.trod_string h0.1 h
    exact⟨[.str s],.string ht hs,rfl,one _ _ (.str hE)⟩
   case slice e=>
    simp only [El]at hd;have hc:=hT.cells hd.1;have hpos:=vU hd.1;rcases DataW.trod_slice h0.1 h with⟨rfl,_⟩|⟨a,len,cap,elems,rest,m,hm,rfl,_,_,hl,hcap,hlen,hel,_,_⟩
    ·exact⟨[.sl e ([]:List (List D)).flatten],.slice ht (by simp) (by simp [maxLen]),rfl,one _ _ (.sl (fun _=>undef) hE (by simp) (Cc _) (by simp [maxLen]) (by simp) (by simp))⟩
    ·injection hm with hm
     subst hm
     have hex: ∀i,i<len→ ∃ds,Shp T e ds∧ ∀(j:Nat) (d:D),ds[j]? =some d→ ∃v,w.cell? (a.add (i*T.size e+j))=some v∧W T (Old w) w V0 KS d v (fun _=>False):=by
      intro i hi;have h1:=hel i hi;rw [KP (by omega),Ju]at h1
      obtain⟨cs',h2,h3⟩:=h1;obtain⟨ds,q1,q2,q3⟩:=ih n e cs' _ hd.2 h3
      refine⟨ds,q1,fun j d hj=> ?_⟩
      obtain⟨v,hv,hW⟩:=q3 j d hj;obtain⟨c1,c2⟩:=yh h2;rw [hc]at c1 c2;have hj':j<T.size e:=by rw [←c1];exact(FE.1 hv).1
      have h4:=c2 j hj';rw [NP]at h4
      exact⟨v,by rw [h4,hv],hW⟩
     let ch:Nat→List D:=fun i=>if h:i<len then(hex i h).choose else []
     have hch: ∀i,i<len→Shp T e (ch i)∧ ∀(j:Nat) (d:D),(ch i)[j]? =some d→ ∃v,w.cell? (a.add (i*T.size e+j))=some v∧W T (Old w) w V0 KS d v (fun _=>False):=by
      intro i hi;have:=(hex i hi).choose_spec
      simp only [ch,hi,dif_pos];exact this
     have hall: ∀xs∈(ao len).map ch,xs.length=T.size e:=by
      intro xs hxs;obtain⟨i,hi,rfl⟩:=MI.1 hxs
      exact(hch i (Fa.1 hi)).1.length
     refine⟨[.sl e ((ao len).map ch).flatten],.slice ht (fun xs hxs=> ?_) (by simp;omega),rfl,one _ _ ?_⟩
     ·obtain⟨i,hi,rfl⟩:=MI.1 hxs
      exact(hch i (Fa.1 hi)).1
     ·have key: ∀(i:Nat) (x:D),((ao len).map ch).flatten[i]? =some x→ ∃v,w.cell? (a.add i)=some v∧W T (Old w) w V0 KS x v (fun _=>False):=by
       intro i x hi;rw [vT hpos _ hall,Ju]at hi;obtain⟨xs,h1,h2⟩:=hi;rw [V5,Ct]at h1;obtain⟨q,hq,rfl⟩:=h1;obtain⟨hq1,hq2⟩:=FE.1 hq;simp only [OU]at hq2;subst hq2;obtain⟨v,hv,hW⟩:=(hch _ (by simpa using hq1)).2 _ x h2
       rw [show i / T.size e*T.size e+i % T.size e=i by rw [Nat.mul_comm];exact Nat.div_add_mod i (T.size e)]at hv
       exact⟨v,hv,hW⟩
      refine .sl (fun i=>(w.cell? (a.add i)).getD undef) hE (by rw [dS _ hall];simp) hl hcap (fun i x hi=> ?_) (fun i x hi=> ?_)
      ·obtain⟨v,hv,_⟩:=key i x hi
       exact⟨a,rfl,by have:=A6x hv;rw [R3]at this;exact this,by rw [hv];rfl⟩
      ·obtain⟨v,hv,hW⟩:=key i x hi;simp only [hv,nL];exact hW
   case struct fs=>
    simp only [El,Jv,A34]at hd;obtain⟨⟨fields,hu,hfx⟩,hinfo⟩:=h0;rw [hd.1.1]at hfx;obtain⟨hfl,hfi⟩:=hfx;obtain⟨xs,m,hm,_,hcl,hxl,hx⟩:=DataW.trod_struct hu h
    injection hm with hm
    subst hm;rw [hT.cells hk]at hcl;have hsz:T.size t=fs.length:=by simp [Tys.size,ht,Ty.size]
    have hex: ∀i,i<fs.length→ ∃d f,fs[i]? =some f∧Shp T f [d]∧ ∃v,cs[i]? =some v∧W T (Old w) w V0 KS d v (fun _=>False):=by
     intro i hi;have hif:i<fields.size:=by omega
     obtain⟨f1,f2,f3,f4⟩:=hfi i _ (OZ hif);have h1:=hx i _ (OZ hif)
     have hs1:T.size fields[i].type=1:=by
      unfold Tys.isStruct at f4;unfold Tys.size
      cases hty:T.ty fields[i].type<;>simp_all [Ty.isStruct,Ty.size]
     rw [f1,hT.cells f3,hs1,KP (by omega)]at h1
     obtain⟨ds,q1,q2,q3⟩:=ih n _ _ _ (hd.2 _ (jP f2)) h1;have hl1:ds.length=1:=by rw [q1.length,hs1]
     obtain⟨d,rfl⟩:=List.length_eq_one_iff.1 hl1;obtain⟨v,hv,hW⟩:=q3 0 d rfl
     refine⟨d,_,f2,q1,v, ?_,hW⟩
     rw [List.getElem?_take]at hv;simp only [Nat.zero_lt_one,if_true,TV,Nat.add_zero]at hv;exact hv
    let ch:Nat→D:=fun i=>if h:i<fs.length then(hex i h).choose else .undef
    have hch: ∀i,i<fs.length→ ∃f,fs[i]? =some f∧Shp T f [ch i]∧ ∃v,cs[i]? =some v∧W T (Old w) w V0 KS (ch i) v (fun _=>False):=by
     intro i hi;have:=(hex i hi).choose_spec
     simp only [ch,hi,dif_pos];exact this
    have hget: ∀(i:Nat) (d:D),((ao fs.length).map ch)[i]? =some d→i<fs.length∧d=ch i:=by
     intro i d hi;rw [V5,Ct]at hi;obtain⟨q,hq,rfl⟩:=hi;obtain⟨hq1,hq2⟩:=FE.1 hq;simp only [OU]at hq2;subst hq2
     exact⟨by simpa using hq1,rfl⟩
    refine⟨(ao fs.length).map ch,.struct ht (by simp) (fun i f d hf hi=> ?_),by simp;omega,fun i d hi=> ?_⟩
    ·obtain⟨h1,rfl⟩:=hget i d hi;obtain⟨f',hf',hs,_⟩:=hch i h1;rw [hf]at hf';injection hf' with hf';subst hf';exact hs
    ·obtain⟨h1,rfl⟩:=hget i d hi;obtain⟨f',hf',hs,v,hv,hW⟩:=hch i h1
     exact⟨v,hv,hW⟩
   all_goals (cases hd)
def top(T:Tys)(t:ab)(ds:List D):D:=if T.isStruct t then .agg ds else ds.headD .undef
def Arg(T:Tys)(t:ab)(d:D):Prop:= ∃ds,Shp T t ds∧d=top T t ds
theorem AFr(hT:CJ P T){r:Reach}{base n:Nat}{t:ab}{v:Value}{d0:DataW H}{ps:List MemPlace}(hd:Wj T n t=true)(hv:Value.okWide P w r base t v)(h:DataW.Trod enc P w 0 spare RA t v d0 ps):
  ∃d,Arg T t d∧W T (Old w) w V0 KS d v (fun _=>False):=by
 obtain⟨fuel,hf⟩:=h;obtain⟨ds,q1,q2,q3⟩:=A3m hT fuel n t _ _ hd hf;have hfact:=(hT t).1;unfold H6 at hfact
 have flat:T.isStruct t=false→v.cells.toList=[v]→ ∃d,Arg T t d∧W T (Old w) w V0 KS d v (fun _=>False):=by
  intro hs hc;have hl:ds.length=1:=by rw [←q2,hc];rfl
  obtain⟨d,rfl⟩:=List.length_eq_one_iff.1 hl;obtain⟨v',hv',hW⟩:=q3 0 d rfl;rw [hc]at hv';simp only [V3,am]at hv';subst hv'
  exact⟨d,⟨[d],q1,by simp [top,hs]⟩,hW⟩
 cases n with
 |zero=>cases hd
 |succ n=>
  unfold Wj at hd
  cases ht:T.ty t<;>rw [ht]at hfact hd<;>simp only at hfact hd
  case int k=>
   refine flat (by simp [Tys.isStruct,ht,Ty.isStruct]) ?_
   simp only [Value.okWide,hfact.1,Cell.okWide]at hv
   cases v<;>simp_all [Cell.ok,Value.cells]
  case bool=>
   refine flat (by simp [Tys.isStruct,ht,Ty.isStruct]) ?_
   simp only [Value.okWide,hfact.1,Cell.okWide]at hv
   cases v<;>simp_all [Cell.ok,Value.cells]
  case string=>
   refine flat (by simp [Tys.isStruct,ht,Ty.isStruct]) ?_
   simp only [Value.okWide,hfact.1,Cell.okWide]at hv
   cases v<;>simp_all [Cell.ok,Value.cells]
  case slice e=>
   refine flat (by simp [Tys.isStruct,ht,Ty.isStruct]) ?_
   simp only [Value.okWide,hfact.1,Cell.okWide]at hv
   cases v<;>simp_all [Cell.ok,Value.cells]
  case struct fs=>
   obtain⟨⟨fields,hu,_⟩,_⟩:=hfact;obtain⟨cs,rfl,hcs⟩:=WideShapes.okWide_struct hu hv
   have hval: ∀(i:Nat) (d:D),ds[i]? =some d→cs[i]? =some (cs.getD i undef)∧W T (Old w) w V0 KS d (cs.getD i undef) (fun _=>False):=by
    intro i d hi;obtain⟨v,hv',hW⟩:=q3 i d hi;have:cs[i]? =some v:=by simpa [Value.cells] using hv'
    rw [TH,this];exact⟨rfl,hW⟩
   refine⟨.agg ds,⟨ds,q1,by simp [top,Tys.isStruct,ht,Ty.isStruct]⟩,.agg (fun i=>cs.getD i undef) (fun _ _=>False) (by simpa [Value.cells] using q2) (fun i x hi=>(hval i x hi).1) (fun k=>⟨fun h=>h.elim,fun⟨_,_,h⟩=>h⟩) (fun _ _ _ _ _ _ h=>h.elim) (fun i x hi=>(hval i x hi).2)⟩
  all_goals (cases hd)
end
def ABs(T:Tys):List ab→List D→Prop
 | [],[]=>True
 |t::ts,d::ds=>Arg T t d∧ABs T ts ds
 |_,_=>False
theorem args_W{P:Program}{T:Tys}{H:Type}{enc:ab×Value→H}{w:World}{r:Reach}{base n:Nat}(hT:CJ P T): ∀(ts:List ab) (vs:List Value) (d0:List (DataW H)) (ps:List MemPlace),ts.all (Wj T n)=true→
  (∀(j:Nat) (t:ab) (v:Value),ts[j]? =some t→vs[j]? =some v→Value.okWide P w r base t v)→DataW.TrodAll enc P w 0 (fun _=>true) true ts vs d0 ps→
  ∃ds,ABs T ts ds∧vs.length=ds.length∧ ∀(i:Nat) (d:D),ds[i]? =some d→ ∃v,vs[i]? =some v∧W T (Old w) w V0 KS d v (fun _=>False):=by
 intro ts
 induction ts with
 |nil=>
  intro vs d0 ps _ _ h
  cases vs<;>cases d0<;>simp [DataW.TrodAll]at h
  exact⟨[],trivial,rfl,by simp⟩
 |cons t ts ih=>
  intro vs d0 ps hd hv h
  cases vs with
  |nil=>cases d0<;>simp [DataW.TrodAll]at h
  |cons v vs=>
   cases d0 with
   |nil=>simp [DataW.TrodAll]at h
   |cons d0 ds0=>
    simp only [DataW.TrodAll]at h;obtain⟨p,q,h1,h2,_⟩:=h;simp only [Xw,El]at hd;obtain⟨d,ha,hW⟩:=AFr hT hd.1 (hv 0 t v rfl rfl) h1;obtain⟨ds,hb,hl,hWs⟩:=ih vs ds0 q hd.2 (fun j t' v' hj hj'=>hv (j+1) t' v' (by simpa using hj) (by simpa using hj')) h2
    refine⟨d::ds,⟨ha,hb⟩,by simp [hl],fun i x hi=> ?_⟩
    cases i with
    |zero=>simp at hi;subst hi;exact⟨v,rfl,hW⟩
    |succ i=>simpa using hWs i x (by simpa using hi)
theorem law_calls{Y:Sys}(hY:Y.Ok){f:an}{ds:List D}(hc:Y.call f ds []=some (.bool true,[])){vs:Array Value}{w:World}(hl:vs.size=ds.length)
  (hW: ∀(i:Nat) (d:D),ds[i]? =some d→ ∃v,vs[i]? =some v∧W Y.T (Old w) w V0 KS d v (fun _=>False)):
  Calls Y.P f vs w fun e w'=>e= .returned (.bool true)∧RowKit.Below w.heap.size w w':=by
 have hg:=Sys.call_good hY hc;refine Calls.mono (hg.2 vs (fun _=>undef) w (Old w) (fun _ _=>False) hl (fun i d hi=> ?_) (fun j d hj=>by simp at hj) (fun _ _ _ h=>h) (fun _ _ _ _ h=>h.elim) (fun _ h=>h)) ?_
 ·obtain⟨v,hv,hWv⟩:=hW i d hi
  exact⟨v,hv,hWv.up⟩
 ·intro e w' he
  cases e with
  |returned v=>
   obtain⟨S',F,FL',h1,_,_,_,hst,_,_⟩:=he
   cases h1 with
   |bool=>exact⟨rfl,hst.os,hst.tape,hst.output,hst.size,fun k hk=>hst.heap k hk (fun _ h=>h)⟩
  |panicked=>exact he.elim
  |outgrown=>exact he.elim
theorem trodAll_below{H:Type}{enc:ab×Value→H}{P:Program}(hl:laidOutB P=true){W W':World}(hb:RowKit.Below W.heap.size W W'): ∀ {ts:List ab} {vs:List Value} {ds:List (DataW H)} {ps:List MemPlace},
  ts.all (fun t=>P.readableRec t&&decide (t<P.types.size))=true→DataW.TrodAll enc P W 0 (fun _=>true) true ts vs ds ps→DataW.TrodAll enc P W' 0 (fun b=>decide (b<W.heap.size)) true ts vs ds ps:=by
 intro ts
 induction ts with
 |nil=>
  intro vs ds ps _ h
  cases vs<;>cases ds<;>simp [DataW.TrodAll]at h ⊢
  exact h
 |cons t ts ih=>
  intro vs ds ps hr h
  cases vs with
  |nil=>cases ds<;>simp [DataW.TrodAll]at h
  |cons v vs=>
   cases ds with
   |nil=>simp [DataW.TrodAll]at h
   |cons d ds=>
    simp only [DataW.TrodAll]at h ⊢;obtain⟨p,q,h1,h2,h3⟩:=h;simp only [Xw,El,decide_eq_true_eq]at hr;have lt0: ∀x∈p,x.block<W.heap.size:=by obtain⟨m,hm⟩:=h1;exact DataW.trod_lt m _ _ _ hm
    exact⟨p,q,RowKit.Below.trod hl hr.1.1 hr.1.2 h1 hb lt0,ih (by simpa using hr.2) h2,h3⟩
end Dv
namespace Dv
open Go
theorem nr{α:Type}{a b:α}(h:a=b):a=b:=h
structure SOp where
 dst:Option Tmp
 op:Op
 type:ab
 guard:Option (Option Tmp×Bool)
structure PmL where
 n:List Nat
 r:List Nat
 w:List Nat
def PmL.pm(l:PmL):Pm:=⟨fun r=>l.n.contains r|| !l.r.contains r,fun r=>l.w.contains r⟩
inductive SC where
 |skip
 |ops (l:List SOp)
 |draws (l:List (PmL×SOp))
 |seq (a b:SC)
 |cond (c:al) (a b:SC)
 |block (id:Nat) (c:SC)
 |loop (c:SC)
 |exit (id:Nat)
 |ret
 |bad
abbrev tK(u:Nat):al:= .tmp u
abbrev iK(n:Int):al:= .const (.int .i64 n)
abbrev oX(d:Nat)(p:Op)(y:ab):SOp:=⟨some d,p,y,none⟩
abbrev oM(d u:Nat)(y:ab):SOp:=⟨some d,.move (.tmp u),y,none⟩
abbrev oA(d u:Nat)(y:ab):SOp:=⟨some d,.assign (.tmp u),y,none⟩
abbrev oL(d:Nat)(t:ab)(u:Nat)(y:ab):SOp:=⟨some d,.load t (.tmp u),y,none⟩
abbrev oI(d:Nat)(t:ab)(u v:Nat):SOp:=⟨some d,.indexAddr t (.tmp u) (.tmp v),0,none⟩
abbrev oN(d u:Nat)(t:ab):SOp:=⟨some d,.call ⟨.builtin .len, #[.tmp u], #[t]⟩,3,none⟩
abbrev oC(d f:Nat)(a:List al)(t:List ab)(y:ab):SOp:=⟨some d,.call ⟨.value (.func f),a.toArray,t.toArray⟩,y,none⟩
abbrev oS(t:ab)(a u:Nat):SOp:=⟨none,.store t (.tmp a) (.tmp u),0,none⟩
abbrev oF(d:Nat)(t:ab)(u i:Nat):SOp:=⟨some d,.fieldAddr t (.tmp u) i,0,none⟩
abbrev oE(d u i:Nat)(y:ab):SOp:=⟨some d,.extract (.tmp u) i,y,none⟩
abbrev oB(d:Nat)(o:BinOp)(t:ab)(a b:al)(r y:ab):SOp:=⟨some d,.binOp o t a b r,y,none⟩
def Vb(ops:Array Oper)(o:Oper):SOp:=⟨o.dst,o.op,o.type,match o.guard with|none=>none|some (j,b)=>some ((ops[j]?).bind (·.dst),b)⟩
def BP(lends:an→Bool):Code→SC
 | .skip=> .skip
 | .region _ ops draw=>
  if draw then
   (if Td lends ops.toList then .draws (ops.toList.map fun o=>(⟨Gy ops.toList o,ops.toList.flatMap (Eo lends ops.toList),Eo lends ops.toList o⟩,Vb ops (bV lends ops.toList o)))else .bad)
  else .ops (ops.toList.map fun o=>Vb ops (tag lends ops.toList o))
 | .seq a b=> .seq (BP lends a) (BP lends b)
 | .cond c a b=> .cond c (BP lends a) (BP lends b)
 | .block id c=> .block id (BP lends c)
 | .loop c=> .loop (BP lends c)
 | .exit id=> .exit id
 | .ret=> .ret
 |_=> .bad
def QG(E:Env)(pm:Pm)(s:St)(dst:Option Tmp)(op:Op)(type:ab):Option St:=opD E pm s ⟨dst,op,type, "", #[],none⟩
def VL(E:Env)(pm:Pm)(s:St)(o:SOp):Option St:=
 match o.guard with
 |none=>QG E pm s o.dst o.op o.type
 |some (none,_)=>some (s.putO o.dst (.konst undef))
 |some (some t,b)=>
  match s.v t with
  | .bool b'=>if b'==b then QG E pm s o.dst o.op o.type else some (s.putO o.dst (.konst undef))
  | .konst (.tuple _)=>some (s.putO o.dst (.konst undef))
  |_=>none
def A3n(E:Env):List SOp→St→Option St
 | [],s=>some s
 |o::l,s=>(VL E Pm.all s o).bind fun s'=>A3n E l s'
def K8(pm:Pm)(s:St)(op:Op):Bool:=
 match op with
 | .move (.tmp u)=> !(s.v u).hasObj||(s.v u).isObj||pm.wr u
 |_=>true
def vV(E:Env):List (PmL×SOp)→St→Option St
 | [],s=>some s
 |(p,o)::l,s=>if K8 p.pm s o.op then(VL E p.pm s o).bind fun s'=>vV E l s' else none
noncomputable def EP(E:Env):SC→St→Option (Ex×St)
 | .skip,s=>some (.normal,s)
 | .ops l,s=>(A3n E l s).map fun s'=>(.normal,s')
 | .draws l,s=>(vV E l s).map fun s'=>(.normal,s')
 | .seq a b,s=>
  match EP E a s with
  |some (.normal,s')=>EP E b s'
  |r=>r
 | .cond c a b,s=>
  match ev E.T s 0 c with
  |some (.bool t)=>if t then EP E a s else EP E b s
  |_=>none
 | .block id c,s=>
  match EP E c s with
  |some (.exit j,s')=>if j=id then some (.normal,s')else some (.exit j,s')
  |r=>r
 | .loop c,s=>bW (EP E c) s
 | .exit id,s=>some (.exit id,s)
 | .ret,s=>some (.ret,s)
 | .bad,_=>none
theorem vW(E:Env)(ops:Array Oper)(pm:Pm)(s:St)(o:Oper):VL E pm s (Vb ops o)=MP E ops pm s o:=by
 obtain⟨dst,op,type,pos,after,guard⟩:=o;unfold VL MP Qx Vb
 cases guard with
 |none=>rfl
 |some g=>
  obtain⟨j,b⟩:=g;simp only
  cases (ops[j]?).bind (·.dst)with
  |none=>rfl
  |some t=>
   simp only
   cases hv:s.v t with
   |bool b'=>simp only;cases hb:(b'==b)<;>simp<;>rfl
   |konst v=>cases v<;>rfl
   |_=>rfl
theorem A6y(E:Env)(ops:Array Oper): ∀(l:List Oper) (s:St),A3n E (l.map fun o=>Vb ops (tag E.lends ops.toList o)) s=jW E ops s l:=by
 intro l
 induction l with
 |nil=>intro s;rfl
 |cons o l ih=>
  intro s;simp only [VU,A3n,jW,vW]
  cases MP E ops Pm.all s (tag E.lends ops.toList o)with
  |none=>rfl
  |some s'=>simp only [CB];exact ih s'
theorem A3o(E:Env)(ops:Array Oper)(l0:List Oper): ∀(l:List Oper) (s:St),
  vV E (l.map fun o=>(⟨Gy l0 o,l0.flatMap (Eo E.lends l0),Eo E.lends l0 o⟩,Vb ops (bV E.lends ops.toList o))) s=VI E ops l0 s l:=by
 intro l
 induction l with
 |nil=>intro s;rfl
 |cons o l ih=>
  intro s;simp only [VU,vV,VI,vW];have h1:(PmL.mk (Gy l0 o) (l0.flatMap (Eo E.lends l0)) (Eo E.lends l0 o)).pm=LV E.lends l0 o:=nr rfl;have h2:K8 (LV E.lends l0 o) s (Vb ops (bV E.lends ops.toList o)).op=xh (LV E.lends l0 o) s o:=nr rfl;rw [h1,h2];split
  ·cases MP E ops (LV E.lends l0 o) s (bV E.lends ops.toList o)with
   |none=>rfl
   |some s'=>simp only [CB];exact ih s'
  ·rfl
theorem A3p(E:Env): ∀(c:Code),EP E (BP E.lends c)=EM E c:=by
 intro c
 induction c with
 |skip=>rfl
 |region id ops draw=>
  funext s
  simp only [BP,EM]
  cases draw with
  |true=>
   simp only [if_true];split
   ·simp only [EP];rw [A3o]
   ·rfl
  |false=>simp only [Nq,if_false,EP];rw [A6y]
 |seq a b iha ihb=>funext s;simp only [BP,EP,EM,iha,ihb];rfl
 |cond x a b iha ihb=>funext s;simp only [BP,EP,EM,iha,ihb];rfl
 |block id c ih=>funext s;simp only [BP,EP,EM,ih];rfl
 |loop c ih=>funext s;simp only [BP,EP,EM,ih]
 |exit id=>rfl
 |ret=>rfl
 |rangeFunc=>rfl
 |scope=>rfl
 |label=>rfl
 |goto=>rfl
 |refuse=>rfl
def BS(E:Env)(c:SC)(Q:Ex→St→Prop)(s:St):Prop:= ∃ex s',EP E c s=some (ex,s')∧Q ex s'
section
variable {E:Env} {Q:Ex→St→Prop} {s:St}
def vX(E:Env)(b:SC)(Q:Ex→St→Prop):Ex→St→Prop
 | .normal,s=>BS E b Q s
 |ex,s=>Q ex s
def inBlock(id:Nat)(Q:Ex→St→Prop):Ex→St→Prop
 | .exit j,s=>if j=id then Q .normal s else Q (.exit j) s
 |ex,s=>Q ex s
theorem ABt{a b:SC}(h:BS E a (vX E b Q) s):BS E (.seq a b) Q s:=by
 obtain⟨ex,s1,h1,h2⟩:=h
 cases ex with
 |normal=>
  obtain⟨ex',s2,h3,h4⟩:=h2
  exact⟨ex',s2,by simp [EP,h1,h3],h4⟩
 |exit id=>exact⟨_,s1,by simp [EP,h1],h2⟩
 |ret=>exact⟨_,s1,by simp [EP,h1],h2⟩
theorem A3q{id:Nat}{c:SC}(h:BS E c (inBlock id Q) s):BS E (.block id c) Q s:=by
 obtain⟨ex,s1,h1,h2⟩:=h
 cases ex with
 |normal=>exact⟨_,s1,by simp [EP,h1],h2⟩
 |exit j=>
  simp only [inBlock]at h2;by_cases hj:j=id
  ·subst hj;rw [if_pos rfl]at h2;exact⟨.normal,s1,by simp [EP,h1],h2⟩
  ·rw [if_neg hj]at h2;exact⟨_,s1,by simp [EP,h1,hj],h2⟩
 |ret=>exact⟨_,s1,by simp [EP,h1],h2⟩
theorem Al{c:SC}{Q':Ex→St→Prop}(h:BS E c Q s)(hq: ∀ex s,Q ex s→Q' ex s):BS E c Q' s:=by
 obtain⟨ex,s1,h1,h2⟩:=h;exact⟨ex,s1,h1,hq _ _ h2⟩
end
def fin(T:Tys)(n:Nat)(rs:List ResultVar)(r:D×List D):Ex→St→Prop
 | .normal,s=>jX T n rs s=some r
 | .ret,s=>jX T n rs s=some r
 | .exit _,_=>False
theorem Sys.call_wp{Y:Sys}{f:an}{fn:Func}{c:Code}{k:SC}{a l:List D}{r:D×List D}(hb:Y.base f a l=none)(hf:Y.P.funcs[f]? =some fn)(hok:BR fn a.length=true)
  (hbody:fn.body=some c)(hk:BP Y.lends c=k)(h:BS Y.env k (fin Y.T l.length fn.results.toList r) (entry a l)):Y.call f a l=some r:=by
 refine Sys.call_run hb hf hok ?_;obtain⟨ex,s1,h1,h2⟩:=h;unfold uT;rw [←hk]at h1;have h3:EP Y.env (BP Y.env.lends c)=EM Y.env c:=A3p Y.env c;have h4:EM Y.env c (entry a l)=some (ex,s1):=by rw [←h3];exact h1
 rw [hbody];simp only [h4]
 cases ex with
 |normal=>exact h2
 |ret=>exact h2
 |exit id=>exact h2.elim
section
variable (E:Env) (pm:Pm) (s:St) (dst:Option Tmp) (ty:ab)
theorem yj(op:Op):VL E pm s ⟨dst,op,ty,none⟩=QG E pm s dst op ty:=nr rfl
def grd(E:Env)(pm:Pm)(s:St)(dst:Option Tmp)(op:Op)(ty:ab)(b:Bool)(d:D):Option St:=
 match d with
 | .bool b'=>if b'==b then QG E pm s dst op ty else some (s.putO dst (.konst undef))
 | .konst (.tuple _)=>some (s.putO dst (.konst undef))
 |_=>none
theorem vY(op:Op)(t:Tmp)(b:Bool):VL E pm s ⟨dst,op,ty,some (some t,b)⟩=grd E pm s dst op ty b (s.v t):=nr rfl
theorem AN4(op:Op)(b':Bool):grd E pm s dst op ty true (.bool b')=if b'=true then QG E pm s dst op ty else some (s.putO dst (.konst undef)):=by cases b'<;>rfl
theorem AN5(op:Op)(b':Bool):grd E pm s dst op ty false (.bool b')=if b'=true then some (s.putO dst (.konst undef))else QG E pm s dst op ty:=by cases b'<;>rfl
theorem AN6(op:Op)(b:Bool):grd E pm s dst op ty b (.konst undef)=some (s.putO dst (.konst undef)):=nr rfl
def pk(s:St)(dst:Option Tmp)(c a b:Option D):Option St:=
 match c,a,b with
 |some (.bool t),some x,some y=>if(if t then x else y).hasObj then none else some (s.putO dst (if t then x else y))
 |_,_,_=>none
theorem A3r(c a b:al):QG E pm s dst (.pick c a b) ty=pk s dst (ev E.T s ty c) (ev E.T s ty a) (ev E.T s ty b):=nr rfl
theorem pkT(x y:D)(h:x.hasObj=false):pk s dst (some (.bool true)) (some x) (some y)=some (s.putO dst x):=by simp [pk,h]
theorem pkF(x y:D)(h:y.hasObj=false):pk s dst (some (.bool false)) (some x) (some y)=some (s.putO dst y):=by simp [pk,h]
theorem pkB(t p q:Bool):pk s dst (some (.bool t)) (some (.bool p)) (some (.bool q))=some (s.putO dst (.bool (if t then p else q))):=by cases t<;>rfl
theorem hoB(b:Bool):(D.bool b).hasObj=false:=by simp [D.hasObj]
theorem hoI(k:IntKind)(n:Int):(D.int k n).hasObj=false:=by simp [D.hasObj]
theorem hoS(b:ByteArray):(D.str b).hasObj=false:=by simp [D.hasObj]
theorem A1v(t:ab):QG E pm s dst (.alloc t) ty=if E.T.known t then some (s.putO dst (.box (E.T.zeros t)))else none:=nr rfl
theorem A6z(t:ab)(x:al):QG E pm s dst (.box t x) ty=if ty=900003 then(Ta E.T pm s dst t x).bind fun s1=>Fb pm s1 dst else Ta E.T pm s dst t x:=nr rfl
theorem A3s(t:ab)(x:al):Ta E.T pm s dst t x=match bR (ev E.T s t x)with
  |some ds=>if E.T.isStruct t then some (s.putO dst (.box ds))else none
  |none=>
   match take E.T pm s t x with
   |some (d,s1)=>if E.T.isStruct t==d.isAgg then some (s1.putO dst (.box d.asCells))else none
   |none=>none:=nr rfl
theorem A1w(t:ab)(parts:Array (Nat×al)):QG E pm s dst (.build t parts) ty=match E.T.nest t with
  |some fl=>if E.T.isStruct t&&E.T.known t then(MO E.T pm fl s (E.T.zeros t) parts.toList).map fun r=>r.2.putO dst (.agg r.1)else none
  |none=>match E.T.ty t with
   | .struct fs=>if E.T.known t then(IQ E.T pm (fun i=>fs.getD i 0) 1 s (E.T.zeros t) parts.toList).map fun r=>r.2.putO dst (.agg r.1)else none
   |_=>none:=nr rfl
theorem dU(t:ab)(len:Nat)(parts:Array (Nat×al)):QG E pm s dst (.buildSlice t len parts) ty=if ty=900004 then(bT E.T pm s dst t len parts).bind fun s1=>Qw pm s1 dst else bT E.T pm s dst t len parts:=nr rfl
def stF(pm:Pm)(a:al):Option St→Option St
 |some s1=>Fb pm s1 (bU a)
 |none=>none
theorem A3t(a:al)(o:Option St):stF pm a o=o.bind fun s1=>Fb pm s1 (bU a):=by cases o<;>rfl
theorem A1x(t:ab)(a x:al):QG E pm s none (.store t a x) ty=if ty=900007 then Ir E.T pm t a (PP E.T pm s t x)else if ty=900010 then Yx E.T pm s t a x else if ty=900011 then stF pm a (MN E.T pm s t a x)else MN E.T pm s t a x:=by
 rw [A3t];rfl
def Nw(s:St)(dst:Option Tmp):Option D→Option St
 |some r=>some (s.putO dst r)
 |none=>none
theorem AFs(r:D):Nw s dst (some r)=some (s.putO dst r):=nr rfl
def oQ(dst:Option Tmp):Option (D×St)→Option St
 |some r=>some (r.2.putO dst r.1)
 |none=>none
theorem AFt(r:D)(s:St):oQ dst (some (r,s))=some (s.putO dst r):=nr rfl
def jg(T:Tys)(s:St)(dst:Option Tmp)(op:BinOp)(t:ab):Option D→Option D→Option St
 |some a,some b=>if Rz T t a then Nw s dst (EX op a b)else none
 |_,_=>none
theorem AFu(T:Tys)(op:BinOp)(t:ab)(a b:D):jg T s dst op t (some a) (some b)=if Rz T t a then Nw s dst (EX op a b)else none:=nr rfl
def fzB(pm:Pm)(dst:Option Tmp)(u:Tmp):Option St→Option St
 |some s1=>uQ pm s1 dst u
 |none=>none
theorem ABu(op:BinOp)(t:ab)(x y:al)(t':ab):QG E pm s dst (.binOp op t x y t') ty=if ty<2000000 then K3 E.T pm s dst op t x y else fzB pm dst (ty-2000000) (K3 E.T pm s dst op t x y):=by
 show(if ty<2000000 then K3 E.T pm s dst op t x y else(K3 E.T pm s dst op t x y).bind fun s1=>uQ pm s1 dst (ty-2000000))=_
 cases K3 E.T pm s dst op t x y<;>rfl
theorem ai(op:BinOp)(t:ab)(x y:al)(hq:uP E.T op t y=none):K3 E.T pm s dst op t x y=jg E.T s dst op t (ev E.T s t x) (ev E.T s t y):=by
 unfold K3;rw [hq];simp only
 cases ev E.T s t x<;>cases ev E.T s t y<;>simp only [jg]
 rename_i a b
 cases EX op a b<;>rfl
theorem AN7(op:BinOp)(t:ab)(x:al)(u:Tmp)(t':ab):QG E pm s dst (.binOp op t x (.tmp u) t') ty=if ty<2000000 then jg E.T s dst op t (ev E.T s t x) (some (s.v u))else fzB pm dst (ty-2000000) (jg E.T s dst op t (ev E.T s t x) (some (s.v u))):=by
 rw [ABu,ai E pm s dst op t x (.tmp u) rfl];rfl
theorem AN8(op:BinOp)(t:ab)(x:al)(k:IntKind)(n:Int)(t':ab):QG E pm s dst (.binOp op t x (.const (.int k n)) t') ty=if ty<2000000 then jg E.T s dst op t (ev E.T s t x) (some (.int k n))else fzB pm dst (ty-2000000) (jg E.T s dst op t (ev E.T s t x) (some (.int k n))):=by
 rw [ABu,ai E pm s dst op t x _ rfl];rfl
def A3u(s:St)(dst:Option Tmp)(q:Bool):Option Bool→Option St
 |some b=>some (s.putO dst (.bool (b==q)))
 |none=>none
theorem AFv(b:Bool):A3u s dst true (some b)=some (s.putO dst (.bool b)):=by cases b<;>rfl
def nt0(op:BinOp)(s:St)(dst:Option Tmp)(r:Option Bool)(o:Option St):Ty→Option St
 | .slice _=>match op with| .eql=>A3u s dst true r| .neq=>A3u s dst false r|_=>o
 |_=>o
theorem AN9(r:Option Bool)(o:Option St)(e:ab):nt0 .eql s dst r o (.slice e)=A3u s dst true r:=nr rfl
theorem A70(op:BinOp)(t:ab)(u:Tmp):K3 E.T pm s dst op t (.tmp u) (.const (.slice none 0 0))=nt0 op s dst (Xy pm s (s.v u)) (jg E.T s dst op t (some (s.v u)) (ev E.T s t (.const (.slice none 0 0)))) (E.T.ty t):=by
 have key: ∀q,uP E.T op t (.const (.slice none 0 0))=some q→K3 E.T pm s dst op t (.tmp u) (.const (.slice none 0 0))=A3u s dst q (Xy pm s (s.v u)):=by
  intro q hq;unfold K3;rw [hq];simp only [ev,CB]
  cases Xy pm s (s.v u)<;>rfl
 cases ht:E.T.ty t with
 |slice e=>
  cases op<;>first
   |(simp only [nt0];exact key true (by simp [uP,ht]))
   |(simp only [nt0];exact key false (by simp [uP,ht]))
   |(simp only [nt0];exact ai E pm s dst _ t _ _ (by simp [uP,ht]))
 |_=>exact ai E pm s dst _ t _ _ (by simp [uP,ht])
theorem ABw(op:BinOp)(t:ab)(u:Tmp)(t':ab):QG E pm s dst (.binOp op t (.tmp u) (.const (.slice none 0 0)) t') ty=if ty<2000000 then nt0 op s dst (Xy pm s (s.v u)) (jg E.T s dst op t (some (s.v u)) (ev E.T s t (.const (.slice none 0 0)))) (E.T.ty t)
  else fzB pm dst (ty-2000000) (nt0 op s dst (Xy pm s (s.v u)) (jg E.T s dst op t (some (s.v u)) (ev E.T s t (.const (.slice none 0 0)))) (E.T.ty t)):=by
 rw [ABu,A70]
theorem ANA(e:ab)(x:D)(xs:List D):Xy pm s (.sl e (x::xs))=some false:=nr rfl
theorem ndK(A:Option Addr)(n c:Nat):Xy pm s (.konst (.slice A n c))=some A.isNone:=nr rfl
theorem vZ(src d:ab)(x:al):QG E pm s dst (.convert src d x) ty=if E.T.known src then
   match ev E.T s src x,E.T.ty d with
   |some (.int _ n),.int k=>some (s.putO dst (.int k (k.wrap n)))
   |some (.str b),.string=>some (s.putO dst (.str b))
   |_,_=>none
  else none:=nr rfl
theorem oU(f:an)(first captured:Array al):QG E pm s dst (.makeFunc (.func f) first captured) ty=if ty<3000000 then(if first.isEmpty then(PU pm s captured.toList).map fun r=>r.2.putO dst (.clo f r.1)else none)
  else(if first.isEmpty then(bS pm s (ty-3000000) captured.toList).map fun r=>r.2.putO dst (.ocl false f r.1)else none):=nr rfl
theorem jh(t:ab)(l c:al):QG E pm s dst (.makeSlice t l c) ty=if ty=900012 then(jV E.T s dst t l c).bind fun s1=>Qw pm s1 dst else jV E.T s dst t l c:=nr rfl
theorem oV(x:al):QG E pm s dst (.nilCheck x) ty=(ev E.T s ty x).bind fun d=>
   match d with
   | .box _=>some (Cr s dst x d)
   | .vw L n m=>match s.look pm L n m with|some (.box _)=>some (Cr s dst x d)|_=>none
   | .pe L _ n m=>match s.look pm L n m with|some _=>some (Cr s dst x d)|none=>none
   | .cptr _=>some (Cr s dst x d)
   | .clo _ _=>some (Cr s dst x d)
   | .ocl false _ _=>some (Cr s dst x d)
   |_=>none:=nr rfl
theorem yl(x y:al)(t t':ab):QG E pm s dst (.call ⟨.builtin .append, #[x,y], #[t,t']⟩) ty=if t=t' then(if isZ (ev E.T s t y)then PR E.T pm s t x else Iu E.T pm s t x y).map fun r=>r.2.putO dst r.1 else none:=nr rfl
theorem A3v(f:an)(args:Array al)(ts:Array ab):QG E pm s dst (.call ⟨.value (.func f),args,ts⟩) ty=if args.size=ts.size then(if ty=900014 then(IR E pm s dst f (args.toList.zip (Tc ty ts.toList)) []).bind fun s1=>Fb pm s1 dst else IR E pm s dst f (args.toList.zip (Tc ty ts.toList)) [])else none:=nr rfl
theorem A1y(u:Tmp)(args:Array al)(ts:Array ab):QG E pm s dst (.call ⟨.value (.tmp u),args,ts⟩) ty=match s.v u with
   | .clo f caps=>if args.size=ts.size then IR E pm s dst f (args.toList.zip ts.toList) caps else none
   | .ocl false f caps=>if args.size=ts.size then PV E pm s dst f (args.toList.zip ts.toList) caps else none
   |_=>none:=nr rfl
end
theorem ABx(T:Tys)(s:St)(t:ab)(u:Tmp):ev T s t (.tmp u)=some (s.v u):=nr rfl
theorem ABy(T:Tys)(s:St)(t:ab)(k:IntKind)(n:Int):ev T s t (.const (.int k n))=some (.int k n):=nr rfl
theorem A71(T:Tys)(s:St)(t:ab)(b:Bool):ev T s t (.const (.bool b))=some (.bool b):=nr rfl
theorem ABz(T:Tys)(s:St)(t:ab):ev T s t (.const (.slice none 0 0))=match T.ty t with| .slice e=>some (.own e [])| .other=>some (.konst (.slice none 0 0))|_=>none:=nr rfl
theorem AFw(s:St)(t u:Nat)(d:D):(s.put t d).v u=if u=t then d else s.v u:=by rw [A8d];rfl
theorem AFx(s:St)(t u:Nat)(d:D):(s.put t d).k u=if u=t then(if d.hasObj then s.k t+1 else s.k t)else s.k u:=by
 unfold St.put;by_cases h:u=t
 ·subst h;cases hd:d.hasObj<;>simp [QE]
 ·cases hd:d.hasObj<;>simp [QE,h]
theorem AFy(s:St)(t u:Nat)(d:D):(s.put t d).m u=s.m u:=by unfold St.put;split<;>rfl
theorem AFz(s:St)(t u:Nat):(s.clr t).v u=if u=t then .undef else s.v u:=nr rfl
theorem AG0(s:St)(t u:Nat):(s.clr t).k u=s.k u:=nr rfl
theorem AG1(s:St)(t u:Nat):(s.clr t).m u=s.m u:=nr rfl
theorem AC0(s:St)(t u:Nat):(s.bump t).v u=s.v u:=nr rfl
theorem AC1(s:St)(t u:Nat):(s.bump t).k u=s.k u:=nr rfl
theorem AC2(s:St)(t u:Nat):(s.bump t).m u=if u=t then s.m t+1 else s.m u:=nr rfl
theorem AG2(s:St)(t u:Nat)(p:AC)(d:D):(s.set (t::p) d).v u=if u=t then Jh (s.v t) p d else s.v u:=nr rfl
theorem AG3(s:St)(t u:Nat)(p:AC)(d:D):(s.set (t::p) d).k u=s.k u:=nr rfl
theorem AG4(s:St)(t u:Nat)(p:AC)(d:D):(s.set (t::p) d).m u=s.m u:=nr rfl
theorem A1z(s:St)(t:Tmp)(d:D):s.putO (some t) d=s.put t d:=nr rfl
theorem AG5(Y:Sys):Y.env.T=Y.T:=nr rfl
theorem A20(Y:Sys):Y.env.lends=Y.lends:=nr rfl
theorem A3w(Y:Sys):Y.env.call=Y.call:=nr rfl
theorem A72(a l:List D)(t:Nat):(entry a l).v t=if t<G then a.getD t .undef else l.getD (t-G) .undef:=nr rfl
theorem A73(a l:List D)(t:Nat):(entry a l).k t=0:=nr rfl
theorem A74(a l:List D)(t:Nat):(entry a l).m t=0:=nr rfl
theorem RB{r:Ex×St}{Q:Ex→St→Prop}:(∃ex s',some r=some (ex,s')∧Q ex s')=Q r.1 r.2:=
 propext ⟨fun⟨ex,s',h,hq⟩=>by injection h with h;subst h;exact hq,fun h=>⟨r.1,r.2,rfl,h⟩⟩
section
variable (E:Env) (Q:Ex→St→Prop) (s:St)
theorem AG6:BS E .skip Q s=Q .normal s:=RB
theorem AG7(id:Nat):BS E (.exit id) Q s=Q (.exit id) s:=RB
theorem ANB:BS E .ret Q s=Q .ret s:=RB
theorem ANC:BS E (.ops []) Q s=Q .normal s:=RB
def nxt(E:Env)(l:List SOp)(Q:Ex→St→Prop):Option St→Prop
 |some s=>BS E (.ops l) Q s
 |none=>False
theorem ANE(l:List SOp):nxt E l Q (some s)=BS E (.ops l) Q s:=nr rfl
theorem AG8(o:SOp)(l:List SOp):BS E (.ops (o::l)) Q s=nxt E l Q (VL E Pm.all s o):=by
 unfold BS;simp only [EP,A3n]
 cases VL E Pm.all s o with
 |none=>simp [nxt]
 |some s'=>simp [nxt,BS,EP]
theorem AG9:BS E (.draws []) Q s=Q .normal s:=RB
def A3x(E:Env)(l:List (PmL×SOp))(Q:Ex→St→Prop):Bool→Option St→Prop
 |true,some s=>BS E (.draws l) Q s
 |_,_=>False
theorem AGA(l:List (PmL×SOp)):A3x E l Q true (some s)=BS E (.draws l) Q s:=nr rfl
theorem AC3(p:PmL)(o:SOp)(l:List (PmL×SOp)):BS E (.draws ((p,o)::l)) Q s=A3x E l Q (K8 p.pm s o.op) (VL E p.pm s o):=by
 unfold BS;simp only [EP,vV]
 cases K8 p.pm s o.op with
 |true=>
  cases VL E p.pm s o with
  |none=>simp [A3x]
  |some s'=>simp [A3x,BS,EP]
 |false=>simp [A3x]
theorem ANF(a b:SC):BS E (.seq a b) Q s=BS E a (vX E b Q) s:=by
 refine propext ⟨fun⟨ex,s1,h1,h2⟩=> ?_,ABt⟩;simp only [EP]at h1
 cases ha:EP E a s with
 |none=>simp [ha]at h1
 |some q=>
  obtain⟨ex',s2⟩:=q
  cases ex' with
  |normal=>simp only [ha]at h1;exact⟨_,s2,ha,ex,s1,h1,h2⟩
  |exit id=>simp only [ha,am,Prod.mk.injEq]at h1;obtain⟨rfl,rfl⟩:=h1;exact⟨_,s2,ha,h2⟩
  |ret=>simp only [ha,am,Prod.mk.injEq]at h1;obtain⟨rfl,rfl⟩:=h1;exact⟨_,s2,ha,h2⟩
def cnd(E:Env)(a b:SC)(Q:Ex→St→Prop)(s:St):Option D→Prop
 |some (.bool t)=>if t=true then BS E a Q s else BS E b Q s
 |_=>False
theorem ANG(a b:SC)(t:Bool):cnd E a b Q s (some (.bool t))=if t=true then BS E a Q s else BS E b Q s:=nr rfl
theorem AGC(c:al)(a b:SC):BS E (.cond c a b) Q s=cnd E a b Q s (ev E.T s 0 c):=by
 unfold BS;simp only [EP]
 cases ev E.T s 0 c with
 |none=>simp [cnd]
 |some d=>cases d with
  |bool t=>cases t<;>simp [cnd,BS]
  |_=>simp [cnd]
theorem AC4(id:Nat)(c:SC):BS E (.block id c) Q s=BS E c (inBlock id Q) s:=by
 refine propext ⟨fun⟨ex,s1,h1,h2⟩=> ?_,A3q⟩;simp only [EP]at h1
 cases ha:EP E c s with
 |none=>simp [ha]at h1
 |some q=>
  obtain⟨ex',s2⟩:=q
  cases ex' with
  |normal=>simp only [ha,am,Prod.mk.injEq]at h1;obtain⟨rfl,rfl⟩:=h1;exact⟨_,s2,ha,h2⟩
  |exit j=>
   simp only [ha]at h1;by_cases hj:j=id
   ·simp only [hj,if_true,am,Prod.mk.injEq]at h1;obtain⟨rfl,rfl⟩:=h1;exact⟨_,s2,ha,by simpa [inBlock,hj] using h2⟩
   ·simp only [hj,if_false,am,Prod.mk.injEq]at h1;obtain⟨rfl,rfl⟩:=h1;exact⟨_,s2,ha,by simpa [inBlock,hj] using h2⟩
  |ret=>simp only [ha,am,Prod.mk.injEq]at h1;obtain⟨rfl,rfl⟩:=h1;exact⟨_,s2,ha,h2⟩
theorem AC5(b:SC):vX E b Q .normal s=BS E b Q s:=nr rfl
theorem AC6(b:SC)(id:Nat):vX E b Q (.exit id) s=Q (.exit id) s:=nr rfl
theorem AC7(b:SC):vX E b Q .ret s=Q .ret s:=nr rfl
theorem ANH(id:Nat):inBlock id Q .normal s=Q .normal s:=nr rfl
theorem ANI(id j:Nat):inBlock id Q (.exit j) s=if j=id then Q .normal s else Q (.exit j) s:=nr rfl
theorem ANJ(id:Nat):inBlock id Q .ret s=Q .ret s:=nr rfl
theorem AGD(T:Tys)(n:Nat)(rs:List ResultVar)(r:D×List D):fin T n rs r .normal s=(jX T n rs s=some r):=nr rfl
theorem AGE(T:Tys)(n:Nat)(rs:List ResultVar)(r:D×List D):fin T n rs r .ret s=(jX T n rs s=some r):=nr rfl
end
section
variable (s:St) (dst:Option Tmp) (u:Tmp) (k:IntKind) (n:Int) (b:Bool) (x:ByteArray) (e:ab) (xs:List D) (L:AC) (i j c:Nat) (v:Value) (f:an)
theorem AGF:Cr s dst (.tmp u) (.int k n)=s.putO dst (.int k n):=nr rfl
theorem AC8:Cr s dst (.tmp u) (.bool b)=s.putO dst (.bool b):=nr rfl
theorem ANK:Cr s dst (.tmp u) (.sl e xs)=s.putO dst (.sl e xs):=nr rfl
theorem A75:Cr s dst (.tmp u) (.konst v)=s.putO dst (.konst v):=nr rfl
theorem AGG:Cr s dst (.tmp u) (.own e xs)=s.putO dst (.vw [u] (s.k u) (s.m u)):=nr rfl
theorem AGH:Cr s dst (.tmp u) (.box xs)=s.putO dst (.vw [u] (s.k u) (s.m u)):=nr rfl
theorem ANL:Cr s dst (.tmp u) (.vw L i j)=s.putO dst (.vw L i j):=nr rfl
theorem AC9:Cr s dst (.tmp u) (.cptr xs)=s.putO dst (.cptr xs):=nr rfl
theorem AGI:Cr s dst (.tmp u) (.clo f xs)=s.putO dst (.clo f xs):=nr rfl
theorem AGJ:Cr s dst (.tmp u) (.tup xs)=if Av xs then(if Av (NF s u 0 xs)then(s.clr u).putO dst (.tup xs)else s.putO dst (.tup (NF s u 0 xs)))else s.putO dst (.tup xs):=nr rfl
theorem AGK(i:Nat):NF s u i []=[]:=nr rfl
theorem ACA(i:Nat)(x:D):NF s u i (x::xs)=VF s u i x::NF s u (i+1) xs:=nr rfl
theorem ACB(i:Nat):VF s u i (.bool b)= .bool b:=nr rfl
theorem AGL(i:Nat):VF s u i (.own e xs)= .vw [u,i] (s.k u) (s.m u):=nr rfl
variable (pm:Pm)
theorem AGM:Br pm s dst (.tmp u) (.int k n)=some (s.putO dst (.int k n)):=nr rfl
theorem ACC:Br pm s dst (.tmp u) (.bool b)=some (s.putO dst (.bool b)):=nr rfl
theorem ANM:Br pm s dst (.tmp u) (.sl e xs)=some (s.putO dst (.sl e xs)):=nr rfl
theorem AGN:Br pm s dst (.tmp u) (.own e xs)=some ((s.clr u).putO dst (.own e xs)):=nr rfl
theorem AGO:Br pm s dst (.tmp u) (.box xs)=some ((s.clr u).putO dst (.box xs)):=nr rfl
theorem AGP(r:Nat):Br pm s dst (.tmp u) (.vw [r] i j)=(TY pm s [r] i j).map fun q=>q.2.putO dst q.1:=nr rfl
def asT(_s:St)(dst:Option Tmp)(a:Option (D×St))(b:Option St):Bool→Option St
 |true=>a.map fun q=>q.2.putO dst q.1
 |false=>b
theorem ANO(a:Option (D×St))(b:Option St):asT s dst a b true=a.map fun q=>q.2.putO dst q.1:=nr rfl
theorem ANP(a:Option (D×St))(b:Option St):asT s dst a b false=b:=nr rfl
theorem AGQ(r r':Nat)(p:AC):Br pm s dst (.tmp u) (.vw (r::r'::p) i j)=asT s dst (CV pm s (.vw (r::r'::p) i j)) (some (s.putO dst (.vw (r::r'::p) i j))) (isT pm s r):=by
 by_cases h:isT pm s r=true
 ·have h':xf pm s (.vw (r::r'::p) i j)=true:=h;unfold Br;simp only [h',h,if_true];rfl
 ·have h':xf pm s (.vw (r::r'::p) i j)=false:=G8.mpr h;unfold Br;simp only [h',G8.mpr h];rfl
theorem ANQ(r:Nat):isT pm s r=(pm.rd r&&A37 (s.v r)):=nr rfl
theorem AGR:A37 (.tup xs)=true:=nr rfl
theorem AGS:A37 (.own e xs)=false:=nr rfl
theorem AGT:A37 (.box xs)=false:=nr rfl
theorem AGU:Br pm s dst (.tmp u) (.clo f xs)=some (s.putO dst (.clo f xs)):=nr rfl
end
section
variable (k:IntKind) (x y:Int) (p q:Bool) (a b:ByteArray)
theorem AGV:EX .add (.int k x) (.int k y)=some (.int k (k.wrap (x+y))):=by simp [EX]
theorem AGW:EX .sub (.int k x) (.int k y)=some (.int k (k.wrap (x-y))):=by simp [EX]
theorem AGX:EX .mul (.int k x) (.int k y)=some (.int k (k.wrap (x*y))):=by simp [EX]
theorem AGY:EX .quo (.int k x) (.int k y)=if y=0 then none else some (.int k (k.wrap (x.tdiv y))):=by simp [EX]
theorem AGZ:EX .rem (.int k x) (.int k y)=if y=0 then none else some (.int k (x.tmod y)):=by simp [EX]
theorem AGa:EX .and (.int k x) (.int k y)=some (.int k (G9 .and k x y)):=by simp [EX]
theorem A3y:EX .andNot (.int k x) (.int k y)=some (.int k (G9 .andNot k x y)):=by simp [EX]
theorem AGb(k':IntKind):EX .shl (.int k x) (.int k' y)=if y<0 then none else some (.int k (k.wrap (x*2 ^ (min y.toNat k.bits)))):=by simp [EX]
theorem AGc(k':IntKind):EX .shr (.int k x) (.int k' y)=if y<0 then none else some (.int k (x.fdiv (2 ^ (min y.toNat k.bits)))):=by simp [EX]
theorem ANR:EX .eql (.int k x) (.int k y)=some (.bool (decide (x=y))):=by simp [EX];rfl
theorem ANT:EX .neq (.int k x) (.int k y)=some (.bool (!decide (x=y))):=by simp [EX];rfl
theorem ANU:EX .lss (.int k x) (.int k y)=some (.bool (decide (x<y))):=by simp [EX]
theorem ANV:EX .leq (.int k x) (.int k y)=some (.bool (decide (x≤y))):=by simp [EX]
theorem ANW:EX .gtr (.int k x) (.int k y)=some (.bool (decide (y<x))):=by simp [EX]
theorem ANX:EX .geq (.int k x) (.int k y)=some (.bool (decide (y≤x))):=by simp [EX]
theorem AGd:EX .neq (.bool p) (.bool q)=some (.bool (!(p==q))):=nr rfl
theorem AGe:unD .not (.bool p)=some (.bool (!p)):=nr rfl
theorem boI(T:Tys)(t:ab):Rz T t (.int k x)=true:=nr rfl
theorem boB(T:Tys)(t:ab):Rz T t (.bool p)=match T.ty t with| .bool=>true|_=>false:=nr rfl
theorem boA(T:Tys)(t:ab)(k l:IntKind)(x y:Int):Rz T t (.agg [.int k x,.int l y])=A0F T k l (T.ty t):=nr rfl
theorem ACD(T:Tys)(k l:IntKind)(a b:ab):A0F T k l (.struct [a,b])=(xg k (T.ty a)&&xg l (T.ty b)):=nr rfl
theorem AGf(k:IntKind):xg k (.int k)=true:=by simp [xg]
theorem AGg(k l:IntKind)(a b c d:Int):EX .eql (.agg [.int k a,.int l b]) (.agg [.int k c,.int l d])=some (.bool ((a==c)&&(b==d))):=by simp [EX]
theorem AGh(k l:IntKind)(a b c d:Int):EX .neq (.agg [.int k a,.int l b]) (.agg [.int k c,.int l d])=some (.bool (!((a==c)&&(b==d)))):=by simp [EX]
end
def K9(xs:AO):List D:=xs.map (D.int .i64)
theorem Dk(xs:AO):(K9 xs).length=xs.length:=by simp [K9]
end Dv
namespace Dv
open Go
def zB:Value→Value→Bool
 | .int k n,.int k' n'=>decide (k=k')&&decide (n=n')
 | .bool b,.bool b'=>b==b'
 | .string s,.string s'=>s.size==0&&s'.size==0
 | .slice none 0 0,.slice none 0 0=>true
 | .nilFunc,.nilFunc=>true
 | .pointer none,.pointer none=>true
 |_,_=>false
theorem A8e{a b:Value}(h:zB a b=true):a=b:=by
 unfold zB at h
 split at h
 ·simp only [El,decide_eq_true_eq]at h;rw [h.1,h.2]
 ·simp only [beq_iff_eq]at h;rw [h]
 ·simp only [El,beq_iff_eq]at h
  rename_i s s'
  have: ∀t:ByteArray,t.size=0→t=ByteArray.empty:=by
   intro t ht;obtain⟨d⟩:=t;have:d= #[]:=Array.size_eq_zero_iff.1 ht
   rw [this];rfl
  rw [this s h.1,this s' h.2]
 ·rfl
 ·rfl
 ·rfl
 ·cases h
def zsB:List Value→List Value→Bool
 | [],[]=>true
 |a::as,b::bs=>zB a b&&zsB as bs
 |_,_=>false
theorem A3z: ∀ {a b:List Value},zsB a b=true→a=b
 | [],[],_=>rfl
 | [],_::_,h=>by cases h
 |_::_,[],h=>by cases h
 |a::as,b::bs,h=>by
  simp only [zsB,El]at h;rw [A8e h.1,A3z h.2]
def Wl(P:Program)(t:ab)(n:Nat)(z:Value):Bool:=
 match P.info? t with
 |some i=>(i.size==n)&&(decide (4<n)||decide (i.bytes≤128))&&(match i.zero,z with|some (.agg a),.agg b=>zsB a.toList b.toList|some v,z=>zB v z|_,_=>false)
 |none=>false
theorem Pd{P:Program}{t:ab}{n:Nat}{z:Value}(h:Wl P t n z=true):SF P t n z:=by
 unfold Wl at h
 split at h
 ·rename_i i hi
  simp only [El,TW,beq_iff_eq,decide_eq_true_eq]at h
  refine⟨i,hi,h.1.1, ?_,fun h4=>h.1.2.resolve_left (by omega)⟩
  have h2:=h.2
  split at h2
  ·rename_i a b hz
   rw [hz];have:=A3z h2
   rw [←WA (xs:=a),this]
  ·rename_i v z' hz _
   rw [hz,A8e h2]
  ·cases h2
 ·cases h
def oW(P:Program)(T:Tys)(t:ab):Bool:=
 match T.ty t with
 | .int k=>(match P.underlying t with|some (.int k')=>decide (k'=k)|_=>false)&&Wl P t 1 (.int k 0)
 | .bool=>(match P.underlying t with|some .bool=>true|_=>false)&&Wl P t 1 (.bool false)
 | .string=>(match P.underlying t with|some .string=>true|_=>false)&&Wl P t 1 (.string ByteArray.empty)
 | .slice e=>(match P.underlying t with|some (.slice e')=>e'==e|_=>false)&&Wl P t 1 (.slice none 0 0)
 | .struct fs=>(match P.underlying t with
   |some (.struct fields)=>
    match T.nest t with
    |none=>(fields.size==fs.length)&&(ao fields.size).all (fun j=>match fields[j]?,fs[j]? with|some f,some g=>(f.offset==j)&&(f.type==g)&&T.known g&& !T.isStruct g|_,_=>false)
    |some fl=>decide (4<fs.length)&&(fields.size==fl.length)&&(ao fields.size).all (fun j=>match fields[j]?,fl[j]? with|some f,some g=>(f.offset==g.1)&&(f.type==g.2)&&T.known g.2|_,_=>false)
   |_=>false)&&Wl P t fs.length (.agg (fs.map (K6 T)).toArray)
 | .func=>(match P.underlying t with|some (.func ..)=>true|_=>false)&&Wl P t 1 .nilFunc
 | .ptr=>(match P.underlying t with|some (.pointer _)=>true|_=>false)&&Wl P t 1 (.pointer none)
 | .map k e=>match P.underlying t with|some (.map k' e')=>(k'==k)&&(e'==e)|_=>false
 | .other=>true
theorem ym{P:Program}{T:Tys}{t:ab}(h:oW P T t=true):H6 P T t:=by
 unfold oW at h;unfold H6
 cases hty:T.ty t<;>rw [hty]at h<;>simp only [El]at h ⊢
 case int k=>
  refine⟨?_,Pd h.2⟩
  have h1:=h.1
  split at h1
  ·rename_i k' hu;rw [hu];simp only [decide_eq_true_eq]at h1;rw [h1]
  ·cases h1
 case bool=>
  refine⟨?_,Pd h.2⟩
  have h1:=h.1
  split at h1
  ·assumption
  ·cases h1
 case string=>
  refine⟨?_,Pd h.2⟩
  have h1:=h.1
  split at h1
  ·assumption
  ·cases h1
 case map k e=>
  split at h
  ·rename_i k' e' hu;rw [hu];simp only [El,beq_iff_eq]at h;rw [h.1,h.2]
  ·cases h
 case slice e=>
  refine⟨?_,Pd h.2⟩
  have h1:=h.1
  split at h1
  ·rename_i k' hu;rw [hu];simp only [beq_iff_eq]at h1;rw [h1]
  ·cases h1
 case struct fs=>
  refine⟨?_,Pd h.2⟩
  have h1:=h.1
  split at h1
  ·rename_i fields hu
   refine⟨fields,hu, ?_⟩
   cases hn:T.nest t with
   |none=>
    simp only [hn,El,beq_iff_eq,Jv,Fa]at h1 ⊢
    refine⟨h1.1,fun j f hf=> ?_⟩
    have hlt:=(jM.1 hf).1;have:=h1.2 j hlt
    rw [hf]at this
    split at this
    ·rename_i f' g hf' hg
     simp only [am]at hf';subst hf';simp only [El,beq_iff_eq,ML]at this;obtain⟨⟨⟨q1,q2⟩,q3⟩,q4⟩:=this;subst q2
     exact⟨q1,hg,q3,q4⟩
    ·cases this
   |some fl=>
    simp only [hn,El,beq_iff_eq,Jv,Fa,decide_eq_true_eq]at h1 ⊢
    refine⟨h1.1.1,h1.1.2,fun j f hf=> ?_⟩
    have hlt:=(jM.1 hf).1;have:=h1.2 j hlt
    rw [hf]at this
    split at this
    ·rename_i f' g hf' hg
     simp only [am]at hf';subst hf';simp only [El,beq_iff_eq]at this;obtain⟨⟨q1,q2⟩,q3⟩:=this
     refine⟨?_,by rw [q2];exact q3⟩
     rw [hg,q1,q2]
    ·cases this
  ·cases h1
 case func=>
  refine⟨?_,Pd h.2⟩
  have h1:=h.1
  split at h1
  ·exact⟨_,_,_,by assumption⟩
  ·cases h1
 case ptr=>
  refine⟨?_,Pd h.2⟩
  have h1:=h.1
  split at h1
  ·exact⟨_,by assumption⟩
  ·cases h1
def A21(tab:List Ty)(nst:List (ab×List (Nat×ab))):Tys:={ty:=fun t=>tab.getD t .other,nest:=fun t=>nst.lookup t}
theorem ACE{P:Program}{tab:List Ty}{nst:List (ab×List (Nat×ab))}(h:((ao tab.length).all fun t=>oW P (A21 tab nst) t&&A6j P (A21 tab nst) t)=true):CJ P (A21 tab nst):=by
 intro t;rcases Nat.lt_or_ge t tab.length with ht|ht
 ·have:=Jv.1 h t (Fa.2 ht)
  rw [El]at this
  exact⟨ym this.1,this.2⟩
 ·have:(A21 tab nst).ty t= .other:=by simp [A21,LQ,jO ht]
  refine⟨?_, ?_⟩
  ·unfold H6;rw [this];trivial
  ·unfold A6j;rw [this]
theorem AY{Y:Sys}{f:an}{fn:Func}{k:SC}{a l:List D}{r:D×List D}(hb:Y.base f a l=none)(hf:Y.P.funcs[f]? =some fn)(hok:BR fn a.length=true)
  (hk:fn.body.map (BP Y.lends)=some k)(h:BS Y.env k (fin Y.T l.length fn.results.toList r) (entry a l)):Y.call f a l=some r:=by
 obtain⟨c,hc,hk⟩:=Ct.1 hk;exact Sys.call_wp hb hf hok hc hk h
end Dv
namespace Dv
open Go
section
variable (E:Env) (pm:Pm) (s:St) (dst:Option Tmp) (ty:ab) (u:Tmp) (t:ab)
theorem Ny(o:Option D):(o.map fun r=>s.putO dst r)=Nw s dst o:=by cases o<;>rfl
theorem RD(o:Option (D×St)):(o.map fun r=>r.2.putO dst r.1)=oQ dst o:=by cases o<;>rfl
theorem AGi:QG E pm s dst (.move (.tmp u)) ty=some (Cr s dst (.tmp u) (s.v u)):=nr rfl
def frB(pm:Pm):Option Tmp→Option St→Option St
 |some t,some s1=>Fb pm s1 (some t)
 |_,_=>none
def fcB(pm:Pm):Option Tmp→Option St→Option St
 |some t,some s1=>Qw pm s1 (some t)
 |_,_=>none
def fcD(s1:St)(t:Tmp)(e:ab):Option (List D)→Option St
 |some ys=>some (s1.set [t] (.own e ys))
 |none=>none
def fcC(s1:St)(t:Tmp):D→Option St
 | .own e xs=>fcD s1 t e (D5 xs)
 |_=>none
theorem ANb(s1:St)(t:Tmp)(h1:pm.rd t=true)(h2:pm.wr t=true):fcB pm (some t) (some s1)=fcC s1 t (s1.v t):=by
 show Qw pm s1 (some t)=_
 unfold Qw fcC;dsimp only;rw [h1,h2]
 cases s1.v t with
 |own e xs=>simp only [Bool.and_self,if_true];cases D5 xs<;>rfl
 |_=>rfl
theorem ANc(s1:St)(t:Tmp)(e:ab)(xs:List D):fcC s1 t (.own e xs)=fcD s1 t e (D5 xs):=nr rfl
theorem ANd(s1:St)(t:Tmp)(e:ab)(ys:List D):fcD s1 t e (some ys)=some (s1.set [t] (.own e ys)):=nr rfl
theorem A76:QG E pm s dst (.assign (.tmp u)) ty=if ty=900003 then frB pm dst (Br pm s dst (.tmp u) (s.v u))else if ty<1000000 then Br pm s dst (.tmp u) (s.v u)else frB pm dst (Br pm s dst (.tmp u) (s.v u)):=by
 have hfr:((Br pm s dst (.tmp u) (s.v u)).bind fun s1=>Fb pm s1 dst)=frB pm dst (Br pm s dst (.tmp u) (s.v u)):=by
  rcases Br pm s dst (.tmp u) (s.v u)with _|s1<;>cases dst<;>rfl
 show(if A38 ty=true then(Br pm s dst (.tmp u) (s.v u)).bind fun s1=>Fb pm s1 dst else Br pm s dst (.tmp u) (s.v u))=_
 rw [hfr];unfold A38;by_cases h1:ty=900003
 ·rw [if_pos h1,if_pos h1];rfl
 ·rw [if_neg h1,if_neg h1];by_cases h2:ty<1000000
  ·rw [if_pos h2,if_pos h2];rfl
  ·rw [if_neg h2,if_neg h2];rfl
theorem A40(v:Value):QG E pm s dst (.assign (.const v)) ty=if ty=900003 then frB pm dst (Nw s dst (ev E.T s ty (.const v)))else if ty<1000000 then Nw s dst (ev E.T s ty (.const v))else frB pm dst (Nw s dst (ev E.T s (ty-1000000) (.const v))):=by
 have hfr: ∀t,((ev E.T s t (.const v)).bind fun d=>(Br pm s dst (.const v) d).bind fun s1=>Fb pm s1 dst)=frB pm dst (Nw s dst (ev E.T s t (.const v))):=by
  intro t
  cases ev E.T s t (.const v)<;>cases dst<;>rfl
 have hno: ∀t,((ev E.T s t (.const v)).bind fun d=>Br pm s dst (.const v) d)=Nw s dst (ev E.T s t (.const v)):=by
  intro t
  cases ev E.T s t (.const v)<;>rfl
 show((ev E.T s (ABh ty) (.const v)).bind fun d=>if A38 ty=true then(Br pm s dst (.const v) d).bind fun s1=>Fb pm s1 dst else Br pm s dst (.const v) d)=_
 unfold A38 ABh;by_cases h1:ty=900003
 ·simp only [if_pos h1,if_true];exact hfr _
 ·by_cases h2:ty<1000000
  ·simp only [if_neg h1,if_pos h2,Nq,if_false];exact hno _
  ·simp only [if_neg h1,if_neg h2,if_true];exact hfr _
theorem ACF(v:Value):QG E pm s dst (.move (.const v)) ty=Nw s dst (ev E.T s ty (.const v)):=by
 show((ev E.T s ty (.const v)).map fun d=>Cr s dst (.const v) d)=_
 cases ev E.T s ty (.const v)<;>rfl
theorem AGj:QG E pm s dst (.load t (.tmp u)) ty=Nw s dst (FH E.T pm s t (.tmp u) (s.v u)):=Ny s dst _
theorem yUn(op:UnOp):QG E pm s dst (.unOp op t (.tmp u)) ty=Nw s dst (unD op (s.v u)):=Ny s dst _
theorem ACG(i:Nat):QG E pm s dst (.fieldAddr t (.tmp u) i) ty=Nw s dst (GA E.T pm s t (.tmp u) (s.v u) i):=Ny s dst _
theorem ANe:QG E pm s dst (.call ⟨.builtin .len, #[.tmp u], #[t]⟩) ty=Nw s dst (VH E.T pm s t (.tmp u) (s.v u)):=Ny s dst _
theorem A41(i:Nat):QG E pm s dst (.extract (.tmp u) i) ty=KR s dst (.tmp u) (s.v u) i:=nr rfl
def slC(T:Tys)(pm:Pm)(s:St)(dst:Option Tmp)(t:ab)(x:al)(hi:Option al):Option al→Option al→Option St
 |none,none=>oQ dst (Yy T pm s t x hi)
 |_,_=>none
def slF(T:Tys)(pm:Pm)(s:St)(dst:Option Tmp)(t:ab)(x:al)(lo:Option al):Option al→Option al→Option St
 |none,none=>oQ dst (PQ T pm s t x lo)
 |_,_=>none
theorem ANf(T:Tys)(x:al)(lo:Option al):slF T pm s dst t x lo none none=oQ dst (PQ T pm s t x lo):=nr rfl
theorem ACH(lo hi mx:Option al):QG E pm s dst (.slice t (.tmp u) lo hi mx) ty=
  if ty=900002 then slC E.T pm s dst t (.tmp u) hi lo mx
  else if ty=900005 then slF E.T pm s dst t (.tmp u) lo hi mx
  else if ty=900001 then oQ dst (KQ E.T pm.see s t (.tmp u) (s.v u) lo hi mx)else oQ dst (KQ E.T pm s t (.tmp u) (s.v u) lo hi mx):=by
 show(if ty=900002 then(if lo.isNone&&mx.isNone then(Yy E.T pm s t (.tmp u) hi).map fun r=>r.2.putO dst r.1 else none)
  else if ty=900005 then(if hi.isNone&&mx.isNone then(PQ E.T pm s t (.tmp u) lo).map fun r=>r.2.putO dst r.1 else none)
  else(ev E.T s t (.tmp u)).bind fun d=>(KQ E.T (if ty=900001 then pm.see else pm) s t (.tmp u) d lo hi mx).map fun r=>r.2.putO dst r.1)=_
 split
 ·cases lo<;>cases mx<;>first|rfl|exact RD dst _
 ·split
  ·cases hi<;>cases mx<;>first|rfl|exact RD dst _
  ·split
   ·exact RD dst _
   ·exact RD dst _
def apI(T:Tys)(pm:Pm)(s:St)(t:ab)(x y:al)(d:D):Option (D×St):=if isZ (some d)then PR T pm s t x else Iu T pm s t x y
theorem A77(x:al)(v:Tmp):QG E pm s dst (.call ⟨.builtin .append, #[x,.tmp v], #[t,t]⟩) ty=oQ dst (apI E.T pm s t x (.tmp v) (s.v v)):=by
 rw [yl,if_pos rfl,RD];rfl
def mn1(mx:Bool):Option D→Option D→Option D
 |some a,some b=>nO mx a b
 |_,_=>none
theorem ANg(mx:Bool)(a b:D):mn1 mx (some a) (some b)=nO mx a b:=nr rfl
theorem AGk(k:IntKind)(x y:Int):nO false (.int k x) (.int k y)=some (.int k (Rx x y)):=by simp [nO]
theorem ANh(x y:al)(t':ab):QG E pm s dst (.call ⟨.builtin .min, #[x,y], #[t,t']⟩) ty=Nw s dst (mn1 false (ev E.T s t x) (ev E.T s t' y)):=by
 show(match ev E.T s t x,ev E.T s t' y with|some a,some b=>(nO false a b).map fun r=>s.putO dst r|_,_=>none)=_
 cases ev E.T s t x<;>cases ev E.T s t' y<;>first|rfl|exact Ny s dst _
theorem ANi(T:Tys)(x y:al)(e:ab)(xs:List D):apI T pm s t x y (.sl e xs)=Iu T pm s t x y:=nr rfl
theorem AGl(T:Tys)(x y:al)(e:ab)(xs:List D):apI T pm s t x y (.own e xs)=Iu T pm s t x y:=nr rfl
theorem apK(T:Tys)(x y:al)(A:Option Addr)(c:Nat):apI T pm s t x y (.konst (.slice A 0 c))=PR T pm s t x:=nr rfl
def ix1(T:Tys)(pm:Pm)(s:St)(t:ab)(x:al)(d:D):Option D→Option D
 |some i=>Zd T pm s t x d i
 |none=>none
theorem ANj(T:Tys)(x:al)(d i:D):ix1 T pm s t x d (some i)=Zd T pm s t x d i:=nr rfl
theorem ACI(i:al):QG E pm s dst (.indexAddr t (.tmp u) i) ty=Nw s dst (ix1 E.T pm s t (.tmp u) (s.v u) (ev E.T s 0 i)):=by
 show(match some (s.v u),ev E.T s 0 i with
  |some a,some b=>(Zd E.T pm s t (.tmp u) a b).map fun r=>s.putO dst r
  |_,_=>none)=_
 cases ev E.T s 0 i with
 |none=>rfl
 |some b=>exact Ny s dst _
def mk1(T:Tys)(t:ab):Option D→Option D→Option D
 |some a,some b=>Er T t a b
 |_,_=>none
theorem ANk(T:Tys)(a b:D):mk1 T t (some a) (some b)=Er T t a b:=nr rfl
theorem ANl(l c:al):jV E.T s dst t l c=Nw s dst (mk1 E.T t (ev E.T s 0 l) (ev E.T s 0 c)):=by
 show(match ev E.T s 0 l,ev E.T s 0 c with
  |some a,some b=>(Er E.T t a b).map fun r=>s.putO dst r
  |_,_=>none)=_
 cases ev E.T s 0 l<;>cases ev E.T s 0 c<;>first|rfl|exact Ny s dst _
theorem AGn(l c:al):QG E pm s dst (.makeSlice t l c) ty=if ty=900012 then fcB pm dst (Nw s dst (mk1 E.T t (ev E.T s 0 l) (ev E.T s 0 c)))else Nw s dst (mk1 E.T t (ev E.T s 0 l) (ev E.T s 0 c)):=by
 rw [jh,ANl];by_cases h:ty=900012
 ·rw [if_pos h,if_pos h]
  cases Nw s dst (mk1 E.T t (ev E.T s 0 l) (ev E.T s 0 c))<;>cases dst<;>rfl
 ·rw [if_neg h,if_neg h]
def cv1(s:St)(dst:Option Tmp):Option D→Ty→Option St
 |some (.int _ n),.int k=>some (s.putO dst (.int k (k.wrap n)))
 |some (.str b),.string=>some (s.putO dst (.str b))
 |_,_=>none
theorem ANm(k k':IntKind)(n:Int):cv1 s dst (some (.int k n)) (.int k')=some (s.putO dst (.int k' (k'.wrap n))):=nr rfl
theorem A42(src d:ab)(x:al):QG E pm s dst (.convert src d x) ty=if E.T.known src then cv1 s dst (ev E.T s src x) (E.T.ty d)else none:=by
 rw [vZ];split
 ·rcases ev E.T s src x with _|d'<;>cases E.T.ty d<;>first|rfl|(cases d'<;>rfl)
 ·rfl
def asM(l:List ab):List ab:=l.map fun _=>900013
theorem AGo(f:an)(args:Array al)(ts:Array ab)(h:args.size=ts.size):QG E pm s dst (.call ⟨.value (.func f),args,ts⟩) ty=if ty=900014 then frB pm dst (IR E pm s dst f (args.toList.zip ts.toList) [])else IR E pm s dst f (args.toList.zip (if ty=900013 then asM ts.toList else ts.toList)) []:=by
 rw [A3v,if_pos h];by_cases c:ty=900014
 ·rw [if_pos c,if_pos c];have e:Tc ty ts.toList=ts.toList:=by unfold Tc;rw [c,if_neg (by decide)]
  rw [e];unfold frB
  cases IR E pm s dst f (args.toList.zip ts.toList) []with
  |none=>cases dst<;>rfl
  |some s1=>cases dst<;>rfl
 ·rw [if_neg c,if_neg c]
  unfold Tc asM;rfl
end
section
variable {T:Tys} {pm:Pm} {s:St} {t:ab}
theorem ldC(x:al)(xs:List D)(hk:T.known t=true)(hs:T.isStruct t=false):FH T pm s t x (.cptr xs)=xs[0]? :=by simp [FH,hk,hs]
theorem ANn(x:al)(xs:List D)(hk:T.known t=true)(hs:T.isStruct t=true):FH T pm s t x (.cptr xs)=if T.size t≤xs.length then some (.agg (xs.take (T.size t)))else none:=by simp [FH,hk,hs]
def Tw(s:St)(L:AC)(c:Nat):Option D→Option D
 |some o=>(o.cells[c]?).bind fun x=>Dp (Ji s L c x)
 |none=>none
def cellsOf(s:St)(L:AC)(c n:Nat):Option D→Option D
 |some o=>if c+n≤o.cells.length then Dp (.agg ((ao n).map fun i=>Ji s L (c+i) (o.cells.getD (c+i) .undef)))else none
 |none=>none
theorem ldP(x:al)(L:AC)(c n m:Nat)(hk:T.known t=true)(hs:T.isStruct t=false):FH T pm s t x (.pe L c n m)=Tw s L c (s.look pm L n m):=by
 simp only [FH,hk,hs,if_true,Jm]
 cases s.look pm L n m<;>simp [Tw]
theorem ANo(x:al)(L:AC)(c n m:Nat)(hk:T.known t=true)(hs:T.isStruct t=true):FH T pm s t x (.pe L c n m)=cellsOf s L c (T.size t) (s.look pm L n m):=by
 simp only [FH,hk,hs,if_true,Jm]
 cases s.look pm L n m<;>simp [cellsOf]
theorem ldB(u:Tmp)(xs:List D)(hk:T.known t=true)(hs:T.isStruct t=false):FH T pm s t (.tmp u) (.box xs)=Tw s [u] 0 (some (.box xs)):=by
 simp only [FH,hk,hs,if_true,Jm];simp [Tw]
theorem ANp(u:Tmp)(xs:List D)(hk:T.known t=true)(hs:T.isStruct t=true):FH T pm s t (.tmp u) (.box xs)=cellsOf s [u] 0 (T.size t) (some (.box xs)):=by
 simp only [FH,hk,hs,if_true,Jm];simp [cellsOf]
def ZI(s:St)(pm:Pm)(L:AC)(n m:Nat):Option D:=
 match s.look pm L n m with
 |some (.box xs)=>some (.box xs)
 |_=>none
theorem ldV(x:al)(L:AC)(n m:Nat)(hk:T.known t=true)(hs:T.isStruct t=false):FH T pm s t x (.vw L n m)=Tw s L 0 (ZI s pm L n m):=by
 simp only [FH,hk,hs,if_true,Jm,ZI]
 cases s.look pm L n m with
 |none=>simp [Tw]
 |some o=>cases o<;>simp [Tw]
def vg:D→Option D
 | .own e xs=>some (.own e xs)
 | .box xs=>some (.box xs)
 |_=>none
theorem ACJ(e:ab)(xs:List D):vg (.own e xs)=some (.own e xs):=nr rfl
theorem ACK(xs:List D):vg (.box xs)=some (.box xs):=nr rfl
theorem AGp(u n m:Nat):s.look pm [u] n m=if pm.rd u&&(s.k u==n)then vg (s.v u)else none:=by
 simp only [St.look,List.isEmpty_nil,Bool.true_or,Zc,Be];split
 ·cases s.v u<;>rfl
 ·rfl
def AGq:Option D→Option D
 |some d=>vg d
 |none=>none
theorem AGr(u c n m:Nat)(p:AC):s.look pm (u::c::p) n m=if pm.rd u&&(s.k u==n)&&(s.m u==m)then AGq (Be (s.v u) (c::p))else none:=by
 simp only [St.look,List.isEmpty_cons,Bool.false_or];split
 ·cases Be (s.v u) (c::p)with
  |none=>rfl
  |some d=>cases d<;>rfl
 ·rfl
theorem AGs(d:D):AGq (some d)=vg d:=nr rfl
theorem ANq(x:al)(e:ab)(xs:List D):Cz pm s x (.sl e xs)=some (e,xs,none):=nr rfl
theorem AGt(u:Tmp)(e:ab)(xs:List D):Cz pm s (.tmp u) (.own e xs)=some (e,xs,some ([u],s.k u,s.m u)):=nr rfl
def AGu(L:AC)(n m:Nat):Option D→Option (ab×List D×Option (AC×Nat×Nat))
 |some (.own e xs)=>some (e,xs,some (L,n,m))
 |_=>none
theorem AGv(L:AC)(n m:Nat)(e:ab)(xs:List D):AGu L n m (some (.own e xs))=some (e,xs,some (L,n,m)):=nr rfl
theorem ANr(x:al)(L:AC)(n m:Nat):Cz pm s x (.vw L n m)=AGu L n m (s.look pm L n m):=by
 simp only [Cz]
 cases s.look pm L n m with
 |none=>rfl
 |some o=>cases o<;>rfl
def A78(T:Tys):Option (ab×List D×Option (AC×Nat×Nat))→Option D
 |some (e,xs,_)=>if T.known e then some (.int .i64 (T.len e xs))else none
 |none=>none
theorem AGw(e:ab)(xs:List D)(o:Option (AC×Nat×Nat))(hk:T.known e=true):A78 T (some (e,xs,o))=some (.int .i64 (T.len e xs)):=by simp [A78,hk]
def ln0(T:Tys)(pm:Pm)(s:St)(x:al)(d:D):Ty→Option D
 | .string=>match d with| .str b=>some (.int .i64 b.size)|_=>none
 | .slice _=>A78 T (Cz pm s x d)
 |_=>none
theorem lnT(x:al)(d:D):TC T pm s t x d=ln0 T pm s x d (T.ty t):=by
 unfold TC ln0
 cases T.ty t with
 |slice e=>
  simp only
  cases Cz pm s x d with
  |none=>rfl
  |some q=>rfl
 |string=>cases d<;>rfl
 |_=>rfl
theorem AGx(x:al)(e:ab)(xs:List D):VH T pm s t x (.sl e xs)=TC T pm s t x (.sl e xs):=nr rfl
theorem ACM(x:al)(e:ab)(xs:List D):VH T pm s t x (.own e xs)=TC T pm s t x (.own e xs):=nr rfl
def lnW(T:Tys)(pm:Pm)(s:St)(t:ab)(x:al)(L:AC)(n m:Nat):Ty→Option D
 | .map _ _=>(s.lookM pm L n).map fun q=> .int .i64 q.2.2.length
 |_=>TC T pm s t x (.vw L n m)
theorem AGy(x:al)(L:AC)(n m:Nat):VH T pm s t x (.vw L n m)=lnW T pm s t x L n m (T.ty t):=by
 show(match T.ty t with| .map _ _=>uO T pm s t x (.vw L n m)|_=>uN T pm s t x (.vw L n m))=_
 unfold lnW uO
 cases h:T.ty t<;>simp only [nP]<;>first|rfl|(cases s.lookM pm L n<;>rfl)
theorem ANu(T:Tys)(x:al)(L:AC)(n m:Nat)(e:ab):lnW T pm s t x L n m (.slice e)=TC T pm s t x (.vw L n m):=nr rfl
theorem AGz(x:al)(e:ab)(xs:List D)(i:D):Zd T pm s t x (.sl e xs) i=EJ T pm s t x (.sl e xs) i:=nr rfl
theorem ACN(x:al)(e:ab)(xs:List D)(i:D):Zd T pm s t x (.own e xs) i=EJ T pm s t x (.own e xs) i:=nr rfl
theorem AH0(x:al)(L:AC)(n m:Nat)(i:D):Zd T pm s t x (.vw L n m) i=EJ T pm s t x (.vw L n m) i:=nr rfl
theorem ANv(x:al)(d:D)(e:ab):ln0 T pm s x d (.slice e)=A78 T (Cz pm s x d):=nr rfl
theorem AH1(e:ab)(xs:List D)(h:T.size e=1):T.len e xs=xs.length:=by simp [Tys.len,h]
def at1(T:Tys)(e:ab)(n:Int):Option (ab×List D×Option (AC×Nat×Nat))→Option D
 |some (e',xs,o)=>
  if e'=e∧T.known e=true∧0≤n∧n.toNat<T.len e xs then
   match o with
   |none=>some (.cptr ((xs.drop (n.toNat*T.size e)).take (T.size e)))
   |some (L,a,b)=>some (.pe L (n.toNat*T.size e) a b)
  else none
 |none=>none
def ix0(T:Tys)(pm:Pm)(s:St)(x:al)(d:D)(n:Int):Ty→Option D
 | .slice e=>at1 T e n (Cz pm s x d)
 |_=>none
theorem ixT(x:al)(d:D)(k:IntKind)(n:Int):EJ T pm s t x d (.int k n)=ix0 T pm s x d n (T.ty t):=by
 unfold EJ ix0
 cases T.ty t with
 |slice e=>
  simp only
  cases Cz pm s x d with
  |none=>rfl
  |some q=>rfl
 |_=>rfl
theorem ANx(x:al)(d:D)(n:Int)(e:ab):ix0 T pm s x d n (.slice e)=at1 T e n (Cz pm s x d):=nr rfl
theorem ANy(e:ab)(n:Int)(xs:List D)(hk:T.known e=true)(hz:T.size e=1)(hn:0≤n∧n.toNat<xs.length):at1 T e n (some (e,xs,none))=some (.cptr [xs.getD n.toNat .undef]):=by
 simp only [at1,hk,hz,Tys.len,if_true];rw [if_pos ⟨trivial,trivial,hn.1,hn.2⟩,TJ,ZY hn.2,LQ,KP hn.2];rfl
theorem ANz(e:ab)(n:Int)(xs:List D)(L:AC)(a b:Nat)(hk:T.known e=true)(hz:T.size e=1)(hn:0≤n∧n.toNat<xs.length):at1 T e n (some (e,xs,some (L,a,b)))=some (.pe L n.toNat a b):=by
 simp only [at1,hk,hz,Tys.len,if_true];rw [if_pos ⟨trivial,trivial,hn.1,hn.2⟩,TJ]
end
section
variable {T:Tys} {pm:Pm} {s:St} {t:ab} (u:Tmp)
def uA(pm:Pm)(s:St)(u:Tmp)(d:D):Option (D×St):=CV pm (if d.hasObj then s.clr u else s) d
theorem AH2:take T pm s t (.tmp u)=uA pm s u (s.v u):=nr rfl
theorem tkC(v:Value):take T pm s t (.const v)=match ev T s t (.const v)with|none=>none|some d=>CV pm s d:=nr rfl
theorem AH3(k:IntKind)(n:Int):CV pm s (.int k n)=some (.int k n,s):=by simp [CV]
theorem ACO(b:Bool):CV pm s (.bool b)=some (.bool b,s):=by simp [CV]
theorem AO0(e:ab)(xs:List D):CV pm s (.sl e xs)=some (.sl e xs,s):=by simp [CV]
theorem AH4(e:ab)(xs:List D):CV pm s (.own e xs)=some (.own e xs,s):=by simp [CV]
theorem AO1(L:AC)(n m:Nat):CV pm s (.vw L n m)=TY pm s L n m:=by simp [CV]
def td1:Option (List D×St)→Option (D×St)
 |some r=>some (.agg r.1,r.2)
 |none=>none
theorem AO2(r:List D×St):td1 (some r)=some (.agg r.1,r.2):=nr rfl
theorem AH6(xs:List D):CV pm s (.agg xs)=td1 (FF pm s xs):=by simp only [CV];cases FF pm s xs<;>rfl
def td2(pm:Pm)(ds:List D):Option (D×St)→Option (List D×St)
 |some r=>(FF pm r.2 ds).map fun q=>(r.1::q.1,q.2)
 |none=>none
theorem AO3(ds:List D)(d:D):td2 pm ds (some (d,s))=(FF pm s ds).map fun q=>(d::q.1,q.2):=nr rfl
theorem ACP:FF pm s []=some ([],s):=by simp [FF]
theorem A79(d:D)(ds:List D):FF pm s (d::ds)=td2 pm ds (CV pm s d):=by simp only [FF];cases CV pm s d<;>rfl
theorem AH7(k:IntKind)(n:Int):uA pm s u (.int k n)=some (.int k n,s):=by simp [uA,CV,D.hasObj]
theorem ACQ(b:Bool):uA pm s u (.bool b)=some (.bool b,s):=by simp [uA,CV,D.hasObj]
theorem AO4(e:ab)(xs:List D):uA pm s u (.sl e xs)=some (.sl e xs,s):=by simp [uA,CV,D.hasObj]
theorem AH8(e:ab)(xs:List D):uA pm s u (.own e xs)=some (.own e xs,s.clr u):=by simp [uA,CV,D.hasObj]
theorem AH9(f:an)(xs:List D):uA pm s u (.clo f xs)=some (.clo f xs,s):=by simp [uA,CV,D.hasObj]
theorem ACR(xs:List D):uA pm s u (.cptr xs)=some (.cptr xs,s):=by simp [uA,CV,D.hasObj]
theorem AO5(L:AC)(n m:Nat):uA pm s u (.vw L n m)=TY pm s L n m:=by simp [uA,CV,D.hasObj]
theorem AHA(xs:List D):uA pm s u (.agg xs)=td1 (FF pm (if Av xs then s.clr u else s) xs):=by
 simp only [uA,D.hasObj];rw [AH6];rfl
theorem ACS:Av []=false:=by simp [Av]
theorem A0Q(d:D)(ds:List D):Av (d::ds)=(d.hasObj||Av ds):=by simp [Av]
theorem AHB(e:ab)(xs:List D):(D.sl e xs).hasObj=false:=by simp [D.hasObj]
theorem AHC(e:ab)(xs:List D):(D.own e xs).hasObj=true:=by simp [D.hasObj]
theorem AHD(xs:List D):(D.box xs).hasObj=true:=by simp [D.hasObj]
theorem AO6(L:AC)(n m:Nat):(D.vw L n m).hasObj=false:=by simp [D.hasObj]
theorem hoU:D.undef.hasObj=false:=by simp [D.hasObj]
theorem AHE(xs:List D):(D.tup xs).hasObj=Av xs:=by simp [D.hasObj]
def pl1(s:St)(r:Nat):Option D→Option (D×St)
 |some c=>some (c,s.set [r] .undef)
 |none=>none
theorem AO8(r:Nat)(c:D):pl1 s r (some c)=some (c,s.set [r] .undef):=nr rfl
theorem AHF(r n m:Nat)(hw:pm.wr r=true):TY pm s [r] n m=pl1 s r (s.look pm [r] n m):=by
 unfold TY
 cases s.look pm [r] n m with
 |none=>rfl
 |some c=>simp [hw,St.get,pl1]
def pl2(s:St)(L:AC)(o:Option D):Option D→Option (D×St)
 |some c=>match o with
  |some (.own _ _)=>(EH c).map fun c'=>(c',s.set L c')
  |_=>some (c,s.set L .undef)
 |none=>none
theorem AO9(L:AC)(xs:List D)(c:D):pl2 s L (some (.box xs)) (some c)=some (c,s.set L .undef):=nr rfl
theorem AOA(L:AC)(e:ab)(xs:List D)(c:D):pl2 s L (some (.own e xs)) (some c)=(EH c).map fun c'=>(c',s.set L c'):=nr rfl
theorem AHH(u' c n m:Nat)(p:AC)(hw:pm.wr u'=true):TY pm s (u'::c::p) n m=pl2 s (u'::c::p) (s.get (u'::c::p).dropLast) (s.look pm (u'::c::p) n m):=by
 unfold TY
 cases s.look pm (u'::c::p) n m with
 |none=>rfl
 |some d=>simp only [jR,hw,if_true,pl2];rfl
theorem AOB(r:Nat):s.get [r]=some (s.v r):=nr rfl
theorem AHI(d:D):Be d []=some d:=by cases d<;>rfl
theorem AHJ(e:ab)(xs:List D)(c:Nat)(p:AC):Be (.own e xs) (c::p)=(xs[c]?).bind fun d=>Be d p:=nr rfl
theorem AHK(xs:List D)(c:Nat)(p:AC):Be (.box xs) (c::p)=(xs[c]?).bind fun d=>Be d p:=nr rfl
theorem AHL(d x:D):Jh d [] x=x:=by cases d<;>rfl
theorem AHM(e:ab)(xs:List D)(c:Nat)(p:AC)(x:D):Jh (.own e xs) (c::p) x= .own e (xs.set c (Jh (xs.getD c .undef) p x)):=nr rfl
theorem AHN(xs:List D)(c:Nat)(p:AC)(x:D):Jh (.box xs) (c::p) x= .box (xs.set c (Jh (xs.getD c .undef) p x)):=nr rfl
end
section
variable {T:Tys} {pm:Pm} {s:St} {t:ab}
def uB(T:Tys)(pm:Pm)(t:ab)(ax:al):Option (D×St)→Option St
 |none=>none
 |some (d,s1)=>
  match ev T s1 t ax with
  |none=>none
  |some ad=>
   match Jm pm s1 ax ad with
   |none=>none
   |some (L,c,o)=>
    if T.known t&&pm.wr (L.headD 0)&&d.asCells.all D6&&(T.size t==d.asCells.length)&&(T.isStruct t==d.isAgg)&&decide (c+T.size t≤o.cells.length)then
     let s2:=s1.set L (o.withCells (CS o.cells c d.asCells))
     some (if d.hasObj||Av o.cells then s2.bump (L.headD 0)else s2)
    else none
theorem ACT(ax x:al):MN T pm s t ax x=uB T pm t ax (take T pm s t x):=by
 unfold MN Ir uB;rcases take T pm s t x with _|⟨d,s1⟩<;>rfl
def tm1(T:Tys)(pm:Pm)(s:St)(t:ab)(u:Tmp):D→Option (D×St)
 | .vw L n m=>bL pm s L n m
 |_=>take T pm s t (.tmp u)
theorem ACU(u:Tmp):PP T pm s t (.tmp u)=tm1 T pm s t u (s.v u):=by
 unfold PP;simp only [ev]
 cases s.v u<;>rfl
def tm2(s:St)(L:AC):Option D→Option (D×St)
 |some c=>some (c,s.set L .undef)
 |none=>none
theorem AOE(u:Tmp)(L:AC)(n m:Nat)(hw:pm.wr (L.headD 0)=true):tm1 T pm s t u (.vw L n m)=tm2 s L (s.look pm L n m):=by
 show bL pm s L n m=_
 unfold bL tm2
 cases s.look pm L n m with
 |none=>rfl
 |some c=>simp only [hw,if_true]
theorem ACV(u:Tmp)(e:ab)(xs:List D):tm1 T pm s t u (.own e xs)=take T pm s t (.tmp u):=nr rfl
theorem AOF(L:AC)(c:D):tm2 s L (some c)=some (c,s.set L .undef):=nr rfl
def st2(s1:St)(L:AC)(c:Nat)(d:D):Option D→Option St
 |none=>none
 |some o=>if c<o.cells.length then(if d.hasObj||Av o.cells then some ((s1.set L (o.withCells (o.cells.set c d))).bump (L.headD 0))else some (s1.set L (o.withCells (o.cells.set c d))))else none
def sd1(T:Tys)(pm:Pm)(t:ab)(u:Tmp)(d:D)(s:St):D→Option St
 | .pe L c n m=>if T.known t&& !T.isStruct t&&pm.wr (L.headD 0)&&D6 d then st2 s L c d (s.look pm L n m)else uB T pm t (.tmp u) (some (d,s))
 | .vw L n m=>if T.known t&& !T.isStruct t&&pm.wr (L.headD 0)&&D6 d then st2 s L 0 d (ZI s pm L n m)else uB T pm t (.tmp u) (some (d,s))
 | .box xs=>if T.known t&& !T.isStruct t&&pm.wr u&&D6 d then st2 s [u] 0 d (some (.box xs))else uB T pm t (.tmp u) (some (d,s))
 |_=>uB T pm t (.tmp u) (some (d,s))
theorem Tx{d:D}(hd:D6 d=true):d.asCells=[d]∧d.isAgg=false:=by
 cases d<;>first|exact⟨rfl,rfl⟩|(simp [D6]at hd)
theorem Tz{T:Tys}{t:ab}(hs:T.isStruct t=false):T.size t=1:=by
 unfold Tys.isStruct at hs;unfold Tys.size
 cases hty:T.ty t<;>simp_all [Ty.isStruct,Ty.size]
theorem AOG(u:Tmp)(d:D)(_:d.isAgg=false):uB T pm t (.tmp u) (some (d,s))=sd1 T pm t u d s (s.v u):=by
 cases hv:s.v u<;>simp only [sd1]
 case pe L c n m=>
  split
  ·rename_i hc
   simp only [El,ML]at hc;obtain⟨⟨⟨hk,hs⟩,hw⟩,hd⟩:=hc;obtain⟨ha,hg⟩:=Tx hd;have hz:=Tz hs;simp only [uB,ev,hv,Jm]
   cases s.look pm L n m with
   |none=>rfl
   |some o=>
    simp only [st2,hk,hw,ha,hz,hs,hg,Xw,hd,List.all_nil,Jw,Qu,Zc,CS,beq_self_eq_true,MM];by_cases hc:c<o.cells.length
    ·have h1:c+1≤o.cells.length:=hc;simp only [hc,h1,decide_true,Zc,if_true];split<;>first|rfl|(rename_i hq;simp only [hq];rfl)
    ·have h1: ¬c+1≤o.cells.length:=hc;simp only [hc,h1,decide_false,Bool.and_false,Nq,if_false]
  ·rfl
 case vw L n m=>
  split
  ·rename_i hc
   simp only [El,ML]at hc;obtain⟨⟨⟨hk,hs⟩,hw⟩,hd⟩:=hc;obtain⟨ha,hg⟩:=Tx hd;have hz:=Tz hs;simp only [uB,ev,hv,Jm,ZI]
   cases s.look pm L n m with
   |none=>rfl
   |some o=>
    cases o<;>try rfl
    rename_i xs
    simp only [st2,hk,hw,ha,hz,hs,hg,Xw,hd,List.all_nil,Jw,Qu,Zc,CS,beq_self_eq_true,MM,D.cells];by_cases hc:0<xs.length
    ·have h1:1≤xs.length:=hc;simp only [hc,h1,decide_true,Zc,if_true];split<;>first|rfl|(rename_i hq;simp only [hq];rfl)
    ·have h1: ¬1≤xs.length:=hc;simp only [hc,h1,decide_false,Bool.and_false,Nq,if_false]
  ·rfl
 case box xs=>
  split
  ·rename_i hc
   simp only [El,ML]at hc;obtain⟨⟨⟨hk,hs⟩,hw⟩,hd⟩:=hc;obtain⟨ha,hg⟩:=Tx hd;have hz:=Tz hs;simp only [uB,ev,hv,Jm];simp only [st2,hk,hw,ha,hz,hs,hg,Xw,hd,List.all_nil,Jw,Qu,Zc,CS,beq_self_eq_true,MM,D.cells,jR];by_cases hc:0<xs.length
   ·have h1:1≤xs.length:=hc;simp only [hc,h1,decide_true,Zc,if_true];split<;>first|rfl|(rename_i hq;simp only [hq];rfl)
   ·have h1: ¬1≤xs.length:=hc;simp only [hc,h1,decide_false,Bool.and_false,Nq,if_false]
  ·rfl
theorem AOH(u:Tmp)(d:D)(L:AC)(c n m:Nat)(hk:T.known t=true)(hs:T.isStruct t=false)(hw:pm.wr (L.headD 0)=true)(hd:D6 d=true):sd1 T pm t u d s (.pe L c n m)=st2 s L c d (s.look pm L n m):=by
 simp [sd1,hk,hs,hd];intro h;simp_all
theorem AOI(u:Tmp)(d:D)(xs:List D)(hk:T.known t=true)(hs:T.isStruct t=false)(hw:pm.wr u=true)(hd:D6 d=true):sd1 T pm t u d s (.box xs)=st2 s [u] 0 d (some (.box xs)):=by
 simp [sd1,hk,hs,hd];intro h;simp_all
def bx1:Option D→Option D
 |some (.box xs)=>some (.box xs)
 |_=>none
theorem bxA(L:AC)(n m:Nat):ZI s pm L n m=bx1 (s.look pm L n m):=by
 unfold ZI bx1
 cases s.look pm L n m with
 |none=>rfl
 |some o=>cases o<;>rfl
theorem AOK(xs:List D):bx1 (some (.box xs))=some (.box xs):=nr rfl
theorem hdC(a:Nat)(l:AC)(d:Nat):List.headD (a::l) d=a:=nr rfl
theorem AOL(L:AC)(c:Nat)(d o:D):st2 s L c d (some o)=if c<o.cells.length then(if d.hasObj||Av o.cells then some ((s.set L (o.withCells (o.cells.set c d))).bump (L.headD 0))else some (s.set L (o.withCells (o.cells.set c d))))else none:=nr rfl
theorem AHO(e:ab)(xs:List D):(D.own e xs).cells=xs:=nr rfl
theorem AHP(xs:List D):(D.box xs).cells=xs:=nr rfl
theorem AHQ(e:ab)(xs ys:List D):(D.own e xs).withCells ys= .own e ys:=nr rfl
theorem AHR(xs ys:List D):(D.box xs).withCells ys= .box ys:=nr rfl
theorem AHS(k:IntKind)(n:Int):D6 (.int k n)=true:=nr rfl
theorem ACW(b:Bool):D6 (.bool b)=true:=nr rfl
theorem AHT(e:ab)(xs:List D):D6 (.own e xs)=true:=nr rfl
theorem ceS(L:AC)(c:Nat)(o:D):Tw s L c (some o)=(o.cells[c]?).bind fun x=>Dp (Ji s L c x):=nr rfl
theorem AOM(L:AC)(c:Nat)(e:ab)(xs:List D):Dp (Ji s L c (.sl e xs))=some (.sl e xs):=nr rfl
theorem ACX(L:AC)(c:Nat)(xs:List D):Dp (Ji s L c (.cptr xs))=some (.cptr xs):=nr rfl
theorem AON(r:Nat)(p:AC):xc s (r::p)= .vw (r::p) (s.k r) (s.m r):=nr rfl
def ap1(T:Tys)(pm:Pm)(e:ab)(ty:ab)(y:al):Option (D×St)→Option (D×St)
 |some (.own e1 xs,s1)=>
   match ev T s1 ty y with
   |some d=>
    match Cz pm s1 y d with
    |some (e2,ys,_)=>
     if e1=e∧e2=e∧T.elem e=true∧ys.all D6=true∧xs.length+ys.length<1099511627776 then
      if Av ys then
       match d,y with
       | .own _ _,.tmp u=>some (.own e (xs++ys),s1.clr u)
       |_,_=>none
      else some (.own e (xs++ys),s1)
     else none
    |none=>none
   |none=>none
 |_=>none
def az1(T:Tys)(e:ab):Option (D×St)→Option (D×St)
 |some (.own e1 xs,s1)=>if e1=e∧T.known e=true then some (.own e xs,s1)else none
 |_=>none
def az0(T:Tys)(pm:Pm)(s:St)(ty:ab)(x:al):Ty→Option (D×St)
 | .slice e=>az1 T e (take T pm s ty x)
 |_=>none
theorem AHW(ty:ab)(x:al):PR T pm s ty x=az0 T pm s ty x (T.ty ty):=by
 unfold PR az0
 cases T.ty ty with
 |slice e=>
  simp only [az1];rcases take T pm s ty x with _|⟨d,s1⟩
  ·rfl
  ·cases d<;>rfl
 |_=>rfl
theorem Wm{T:Tys}{e:ab}(hk:T.known e=true)(h4:T.size e≤4):T.elem e=true:=by simp [Tys.elem,hk,h4]
theorem AOP(ty:ab)(x:al)(e:ab):az0 T pm s ty x (.slice e)=az1 T e (take T pm s ty x):=nr rfl
theorem AOQ(e:ab)(xs:List D)(hk:T.known e=true):az1 T e (some (.own e xs,s))=some (.own e xs,s):=by simp [az1,hk]
def ap0(T:Tys)(pm:Pm)(s:St)(ty:ab)(x y:al):Ty→Option (D×St)
 | .slice e=>ap1 T pm e ty y (PP T pm s ty x)
 |_=>none
theorem AOS(ty:ab)(x y:al):Iu T pm s ty x y=ap0 T pm s ty x y (T.ty ty):=by
 unfold Iu ap0
 cases T.ty ty with
 |slice e=>
  simp only [ap1];rcases PP T pm s ty x with _|⟨d,s1⟩
  ·rfl
  ·cases d<;>rfl
 |_=>rfl
theorem AOT(ty:ab)(x y:al)(e:ab):ap0 T pm s ty x y (.slice e)=ap1 T pm e ty y (PP T pm s ty x):=nr rfl
def ap2(T:Tys)(e e1:ab)(xs:List D)(s:St)(u:Tmp)(d:D):Option (ab×List D×Option (AC×Nat×Nat))→Option (D×St)
 |some (e2,ys,_)=>
     if e1=e∧e2=e∧T.elem e=true∧ys.all D6=true∧xs.length+ys.length<1099511627776 then
      if Av ys then
       match d with
       | .own _ _=>some (.own e (xs++ys),s.clr u)
       |_=>none
      else some (.own e (xs++ys),s)
     else none
 |none=>none
theorem AOU(ty e e1:ab)(u:Tmp)(xs:List D):ap1 T pm e ty (.tmp u) (some (.own e1 xs,s))=ap2 T e e1 xs s u (s.v u) (Cz pm s (.tmp u) (s.v u)):=by
 simp only [ap1,ev,ap2];rcases Cz pm s (.tmp u) (s.v u)with _|⟨e2,ys,o⟩
 ·rfl
 ·simp only;split
  ·split
   ·cases s.v u<;>rfl
   ·rfl
  ·rfl
theorem AOV(e:ab)(u:Tmp)(xs ys:List D)(d:D)(o:Option (AC×Nat×Nat))(hk:T.known e=true)(h4:T.size e≤4)(hy:ys.all D6=true)(hno:Av ys=false)(hl:xs.length+ys.length<1099511627776):
  ap2 T e e xs s u d (some (e,ys,o))=some (.own e (xs++ys),s):=by
 simp only [ap2];rw [if_pos ⟨trivial,trivial,Wm hk h4,hy,hl⟩,hno];simp
theorem AOW(e e':ab)(u:Tmp)(xs ys zs:List D)(o:Option (AC×Nat×Nat))(hk:T.known e=true)(h4:T.size e≤4)(hy:ys.all D6=true)(hno:Av ys=true)(hl:xs.length+ys.length<1099511627776):
  ap2 T e e xs s u (.own e' zs) (some (e,ys,o))=some (.own e (xs++ys),s.clr u):=by
 simp only [ap2];rw [if_pos ⟨trivial,trivial,Wm hk h4,hy,hl⟩,hno];simp
end
section
variable {E:Env} {pm:Pm} {s:St} {dst:Option Tmp}
def vk(a:D)(l:List (AC×D)):Option (List D×List (AC×D))→Option (List D×List (AC×D))
 |some (as,ls)=>some (a::as,l++ls)
 |none=>none
theorem ACY(a:D)(l:List (AC×D))(as:List D)(ls:List (AC×D)):vk a l (some (as,ls))=some (a::as,l++ls):=nr rfl
def ZJ(E:Env)(lend:Bool)(pm:Pm)(s:St)(j:Nat)(rest:List (al×ab)):Option (D×List (AC×D))→Option (List D×List (AC×D))
 |some (a,l)=>vk a l (Dj E lend pm s (j+l.length) rest)
 |none=>none
theorem ACZ(lend:Bool)(j:Nat)(rest:List (al×ab))(a:D)(l:List (AC×D)):ZJ E lend pm s j rest (some (a,l))=vk a l (Dj E lend pm s (j+l.length) rest):=nr rfl
theorem AHX(lend:Bool)(j:Nat):Dj E lend pm s j []=some ([],[]):=nr rfl
theorem AHY(lend:Bool)(j:Nat)(u:Tmp)(t:ab)(rest:List (al×ab)):Dj E lend pm s j ((.tmp u,t)::rest)=ZJ E lend pm s j rest (QF E.T lend pm s j [u] (s.v u)):=by
 simp only [Dj,ev];rcases QF E.T lend pm s j [u] (s.v u)with _|⟨a,l⟩
 ·rfl
 ·simp only [ZJ];rcases Dj E lend pm s (j+l.length) rest with _|⟨as,ls⟩<;>rfl
def aC(E:Env)(lend:Bool)(pm:Pm)(s:St)(j:Nat)(rest:List (al×ab)):Option D→Option (List D×List (AC×D))
 |some d=>ZJ E lend pm s j rest (QF E.T lend pm s j [] d)
 |none=>none
theorem aCS(lend:Bool)(j:Nat)(rest:List (al×ab))(d:D):aC E lend pm s j rest (some d)=ZJ E lend pm s j rest (QF E.T lend pm s j [] d):=nr rfl
theorem arC(lend:Bool)(j:Nat)(v:Value)(t:ab)(rest:List (al×ab)):Dj E lend pm s j ((.const v,t)::rest)=aC E lend pm s j rest (ev E.T s t (.const v)):=by
 simp only [Dj]
 cases ev E.T s t (.const v)with
 |none=>rfl
 |some d=>
  simp only [aC];rcases QF E.T lend pm s j [] d with _|⟨a,l⟩
  ·rfl
  ·simp only [ZJ];rcases Dj E lend pm s (j+l.length) rest with _|⟨as,ls⟩<;>rfl
theorem arF(lend:Bool)(j:Nat)(f:an)(t:ab)(rest:List (al×ab)):Dj E lend pm s j ((.func f,t)::rest)=ZJ E lend pm s j rest (QF E.T lend pm s j [] (.clo f [])):=by
 simp only [Dj,ev];rcases QF E.T lend pm s j [] (.clo f [])with _|⟨a,l⟩
 ·rfl
 ·simp only [ZJ];rcases Dj E lend pm s (j+l.length) rest with _|⟨as,ls⟩<;>rfl
variable (lend:Bool) (j:Nat) (L:AC)
theorem AHZ(T:Tys)(k:IntKind)(n:Int):QF T lend pm s j L (.int k n)=En lend pm s j L (.int k n):=nr rfl
theorem AOX(T:Tys)(e:ab)(xs:List D):QF T lend pm s j L (.sl e xs)=En lend pm s j L (.sl e xs):=nr rfl
theorem AHa(T:Tys)(f:an)(xs:List D):QF T lend pm s j L (.clo f xs)=En lend pm s j L (.clo f xs):=nr rfl
theorem AHb(T:Tys)(e:ab)(xs:List D):QF T lend pm s j L (.own e xs)=En lend pm s j L (.own e xs):=nr rfl
theorem AOY(T:Tys)(M:AC)(n m:Nat):QF T lend pm s j L (.vw M n m)=En lend pm s j L (.vw M n m):=nr rfl
theorem AHc(T:Tys)(xs:List D):QF T lend pm s j L (.agg xs)=En lend pm s j L (.agg xs):=nr rfl
theorem AHd(k:IntKind)(n:Int):En lend pm s j L (.int k n)=some (.int k n,[]):=nr rfl
theorem AOZ(e:ab)(xs:List D):En lend pm s j L (.sl e xs)=some (.sl e xs,[]):=nr rfl
theorem AHe(f:an)(xs:List D):En lend pm s j L (.clo f xs)=some (.clo f xs,[]):=nr rfl
def fz1(l:List (AC×D)):Option D→Option (D×List (AC×D))
 |some c=>some (c,l)
 |none=>none
theorem AOa(l:List (AC×D))(c:D):fz1 l (some c)=some (c,l):=nr rfl
theorem AHf(e:ab)(xs:List D):En false pm s j L (.own e xs)=fz1 [(L,.own e xs)] (EH (.own e xs)):=by
 show((EH (.own e xs)).map fun c'=>(c',[(L,D.own e xs)]))=_
 cases EH (.own e xs)<;>rfl
def fz2(L:AC):Option D→Option (D×List (AC×D))
 |some c=>fz1 [(L,c)] (EH c)
 |none=>none
theorem AOc(c:D):fz2 L (some c)=fz1 [(L,c)] (EH c):=nr rfl
theorem AOd(M:AC)(n m:Nat):En false pm s j L (.vw M n m)=fz2 M (s.look pm M n m):=by
 simp only [En,FX]
 cases s.look pm M n m with
 |none=>rfl
 |some c=>simp only [fz2];cases EH c<;>rfl
def ln2(j:Nat)(L:AC):Option D→Option (D×List (AC×D))
 |some c=>some (.vw [G+j] 0 0,[(L,c)])
 |none=>none
theorem AOe(c:D):ln2 j L (some c)=some (.vw [G+j] 0 0,[(L,c)]):=nr rfl
theorem AHg(M:AC)(n m:Nat):En true pm s j L (.vw M n m)=ln2 j M (s.look pm M n m):=by
 simp only [En,FX]
 cases s.look pm M n m<;>rfl
def ag1:Option (List D×List (AC×D))→Option (D×List (AC×D))
 |some r=>some (.agg r.1,r.2)
 |none=>none
theorem AOf(r:List D×List (AC×D)):ag1 (some r)=some (.agg r.1,r.2):=nr rfl
theorem AHh(xs:List D):En lend pm s j L (.agg xs)=ag1 (Eg lend pm s L j 0 xs):=by
 simp only [En]
 cases Eg lend pm s L j 0 xs<;>rfl
def A43(lend:Bool)(pm:Pm)(s:St)(L0:AC)(j i:Nat)(ds:List D):Option (D×List (AC×D))→Option (List D×List (AC×D))
 |some (a,l)=>vk a l (Eg lend pm s L0 (j+l.length) (i+1) ds)
 |none=>none
theorem ACa(i:Nat)(ds:List D)(a:D)(l:List (AC×D)):A43 lend pm s L j i ds (some (a,l))=vk a l (Eg lend pm s L (j+l.length) (i+1) ds):=nr rfl
theorem AHi(i:Nat):Eg lend pm s L j i []=some ([],[]):=nr rfl
theorem ACb(i:Nat)(d:D)(ds:List D)(h:d.isAgg=false):Eg lend pm s L j i (d::ds)=A43 lend pm s L j i ds (En lend pm s j (L++[i]) d):=by
 have:En lend pm s j (L++[i]) d=FX lend pm s j (L++[i]) d:=by cases d<;>first|rfl|(simp [D.isAgg]at h)
 rw [this];simp only [Eg];rcases FX lend pm s j (L++[i]) d with _|⟨a,l⟩
 ·rfl
 ·simp only [A43];rcases Eg lend pm s L (j+l.length) (i+1) ds with _|⟨as,ls⟩<;>rfl
theorem AHj(k:IntKind)(n:Int):(D.int k n).isAgg=false:=nr rfl
theorem ACc(b:Bool):(D.bool b).isAgg=false:=nr rfl
theorem AOg(e:ab)(xs:List D):(D.sl e xs).isAgg=false:=nr rfl
theorem AHk(e:ab)(xs:List D):(D.own e xs).isAgg=false:=nr rfl
theorem AOh(M:AC)(n m:Nat):(D.vw M n m).isAgg=false:=nr rfl
theorem ACd(xs:List D):(D.cptr xs).isAgg=false:=nr rfl
def cb1(E:Env)(pm:Pm)(s:St)(dst:Option Tmp)(f:an)(caps:List D):Option (List D×List (AC×D))→Option St
 |none=>none
 |some (as,ls)=>
  match E.call f (as++caps) []with
  |some (r,_)=>
   if Ep r then
    if FI (ls.map (·.1))&&ls.all (fun l=>pm.wr (l.1.headD 0))then(PT ls).map fun ls'=>(back false s ls').putO dst r else none
   else some (s.putO dst r)
  |none=>none
theorem cdB(f:an)(xs:List (al×ab))(caps:List D)(h:E.lends f=false):IR E pm s dst f xs caps=cb1 E pm s dst f caps (Dj E false pm s 0 xs):=by
 unfold IR cb1;rw [h];simp only [Nq,if_false];rcases Dj E false pm s 0 xs with _|⟨as,ls⟩<;>rfl
def cb2(pm:Pm)(s:St)(dst:Option Tmp)(ls:List (AC×D)):Option (D×List D)→Option St
 |some (r,_)=>
   if Ep r then
    if FI (ls.map (·.1))&&ls.all (fun l=>pm.wr (l.1.headD 0))then(PT ls).map fun ls'=>(back false s ls').putO dst r else none
   else some (s.putO dst r)
 |none=>none
theorem AOi(f:an)(caps as:List D)(ls:List (AC×D)):cb1 E pm s dst f caps (some (as,ls))=cb2 pm s dst ls (E.call f (as++caps) []):=by
 simp only [cb1];rcases E.call f (as++caps) []with _|⟨r,o⟩<;>rfl
theorem AOj(ls:List (AC×D))(r:D)(o:List D)(h:Ep r=false):cb2 pm s dst ls (some (r,o))=some (s.putO dst r):=by simp [cb2,h]
theorem AOk(r:D)(o:List D):cb2 pm s dst [] (some (r,o))=some (s.putO dst r):=by
 simp only [cb2];split<;>rfl
def cl1(E:Env)(pm:Pm)(s:St)(dst:Option Tmp)(f:an)(caps:List D):Option (List D×List (AC×D))→Option St
 |none=>none
 |some (as,ls)=>
   if FI (ls.map (·.1))&&ls.all (fun l=>pm.wr (l.1.headD 0))&&ls.all (fun l=>u7 l.2)then
    match E.call f (as++caps) (ls.map (·.2))with
    |some (r,outs)=>if outs.length=ls.length then some ((Nr s (ls.map (·.1)) outs).putO dst r)else none
    |none=>none
   else none
theorem cdL(f:an)(xs:List (al×ab))(caps:List D)(h:E.lends f=true):IR E pm s dst f xs caps=cl1 E pm s dst f caps (Dj E true pm s 0 xs):=by
 unfold IR cl1;rw [h];simp only [if_true];rcases Dj E true pm s 0 xs with _|⟨as,ls⟩<;>rfl
def cl2(s:St)(dst:Option Tmp)(ls:List (AC×D)):Option (D×List D)→Option St
 |some (r,outs)=>if outs.length=ls.length then some ((Nr s (ls.map (·.1)) outs).putO dst r)else none
 |none=>none
theorem AOl(f:an)(caps as:List D)(ls:List (AC×D))(h:(FI (ls.map (·.1))&&ls.all (fun l=>pm.wr (l.1.headD 0))&&ls.all (fun l=>u7 l.2))=true):cl1 E pm s dst f caps (some (as,ls))=cl2 s dst ls (E.call f (as++caps) (ls.map (·.2))):=by
 simp only [cl1,h,if_true];rcases E.call f (as++caps) (ls.map (·.2))with _|⟨r,o⟩<;>rfl
theorem AOm(ls:List (AC×D))(r:D)(outs:List D)(h:outs.length=ls.length):cl2 s dst ls (some (r,outs))=some ((Nr s (ls.map (·.1)) outs).putO dst r):=by simp [cl2,h]
end
theorem AHm(k:IntKind)(n:Int):Ep (.int k n)=false:=by simp [Ep]
theorem ACe(b:Bool):Ep (.bool b)=false:=by simp [Ep]
theorem AHn(e:ab)(xs:List D):Ep (.own e xs)=EI xs:=by simp [Ep]
theorem AHo(xs:List D):Ep (.agg xs)=EI xs:=by simp [Ep]
theorem AHp(xs:List D):Ep (.tup xs)=EI xs:=by simp [Ep]
theorem ACf:EI []=false:=by simp [EI]
theorem A7B(d:D)(ds:List D):EI (d::ds)=(Ep d||EI ds):=by simp [EI]
theorem AHq(k:IntKind)(n:Int):EH (.int k n)=some (.int k n):=by simp [EH]
theorem ACg(b:Bool):EH (.bool b)=some (.bool b):=by simp [EH]
theorem AOn(e:ab)(xs:List D):EH (.sl e xs)=some (.sl e xs):=by simp [EH]
theorem AHr(f:an)(xs:List D):EH (.clo f xs)=some (.clo f xs):=by simp [EH]
theorem ACh(xs:List D):EH (.cptr xs)=some (.cptr xs):=by simp [EH]
def fzM(f:List D→D):Option (List D)→Option D
 |some xs=>some (f xs)
 |none=>none
theorem AOo(f:List D→D)(xs:List D):fzM f (some xs)=some (f xs):=nr rfl
theorem A8g(e:ab)(xs:List D):EH (.own e xs)=fzM (.sl e) (D5 xs):=by simp only [EH];cases D5 xs<;>rfl
theorem AHt(xs:List D):EH (.box xs)=fzM .cptr (D5 xs):=by simp only [EH];cases D5 xs<;>rfl
theorem AHu(xs:List D):EH (.agg xs)=fzM .agg (D5 xs):=by simp only [EH];cases D5 xs<;>rfl
theorem AHv(xs:List D):EH (.tup xs)=fzM .tup (D5 xs):=by simp only [EH];cases D5 xs<;>rfl
theorem ACi:D5 []=some []:=by simp [D5]
def fzC:Option D→Option (List D)→Option (List D)
 |some d,some ds=>some (d::ds)
 |_,_=>none
theorem AOp(d:D)(ds:List D):fzC (some d) (some ds)=some (d::ds):=nr rfl
theorem A0R(d:D)(ds:List D):D5 (d::ds)=fzC (EH d) (D5 ds):=by
 simp only [D5];cases EH d<;>cases D5 ds<;>rfl
theorem AOq(d:D):u7 d=(EH d).isSome:=nr rfl
section
variable {T:Tys} {s:St}
def fi1(n:Nat):Option (D×St)→Option (D×List D)
 |none=>none
 |some (r,s')=>if u7 r&&((ao n).map fun j=>s'.v (G+j)).all okL then some (r,(ao n).map fun j=>s'.v (G+j))else none
theorem fiD(n:Nat)(rs:List ResultVar):jX T n rs s=fi1 n (QJ T s rs):=by
 unfold jX fi1;rcases QJ T s rs with _|⟨r,s'⟩<;>rfl
theorem fi0(r:D):fi1 0 (some (r,s))=if u7 r then some (r,[])else none:=by simp [fi1]
theorem fiA(r:D):fi1 1 (some (r,s))=if u7 r&&okL (s.v 100000)then some (r,[s.v 100000])else none:=by
 simp [fi1,G,VT]
theorem fiB(r:D):fi1 2 (some (r,s))=if u7 r&&(okL (s.v 100000)&&okL (s.v 100001))then some (r,[s.v 100000,s.v 100001])else none:=by
 simp [fi1,G,VT,and_assoc]
theorem fiC(r:D):fi1 3 (some (r,s))=if u7 r&&(okL (s.v 100000)&&(okL (s.v 100001)&&okL (s.v 100002)))then some (r,[s.v 100000,s.v 100001,s.v 100002])else none:=by
 simp [fi1,G,VT,and_assoc]
theorem ACj(e:ab)(xs:List D):okL (.own e xs)=(EH (.own e xs)).isSome:=nr rfl
theorem ACk(xs:List D):okL (.box xs)=(EH (.box xs)).isSome:=nr rfl
theorem re1(r:ResultVar):QJ T s [r]=bX T s r:=nr rfl
def reT:Option (List D×St)→Option (D×St)
 |some q=>some (.tup q.1,q.2)
 |none=>none
theorem AOr(q:List D×St):reT (some q)=some (.tup q.1,q.2):=nr rfl
theorem re2(r r':ResultVar)(rs:List ResultVar):QJ T s (r::r'::rs)=reT (Qy T s (r::r'::rs)):=by
 show((Qy T s (r::r'::rs)).map fun q=>(D.tup q.1,q.2))=_
 cases Qy T s (r::r'::rs)<;>rfl
theorem re0:QJ T s []=some (.tup [],s):=nr rfl
theorem AHw(t:Tmp):bX T s (.tmp t)=uA Pm.all s t (s.v t):=nr rfl
theorem AHx:Qy T s []=some ([],s):=nr rfl
def rdN(T:Tys)(rs:List ResultVar):Option (D×St)→Option (List D×St)
 |some (d,s)=>(Qy T s rs).map fun p=>(d::p.1,p.2)
 |none=>none
theorem AOs(rs:List ResultVar)(d:D):rdN T rs (some (d,s))=(Qy T s rs).map fun p=>(d::p.1,p.2):=nr rfl
theorem ACl(r:ResultVar)(rs:List ResultVar):Qy T s (r::rs)=rdN T rs (bX T s r):=by
 simp only [Qy];rcases bX T s r with _|⟨d,s'⟩<;>rfl
theorem AOt(r:Nat):Pm.all.rd r=true:=nr rfl
theorem AOu(r:Nat):Pm.all.wr r=true:=nr rfl
def yG(s:St)(dst:Option Tmp)(u:Tmp)(i:Nat):Option D→Option St
 |none=>none
 |some (.agg ys)=>Nw s dst (Dp (.agg ((ao ys.length).map fun j=>Ji s [u,i] j (ys.getD j .undef))))
 |some c=>Nw s dst (Dp (Ji s [u] i c))
theorem AHy(dst:Option Tmp)(u:Tmp)(xs:List D)(i:Nat):KR s dst (.tmp u) (.tup xs) i=yG s dst u i xs[i]? :=by
 simp only [KR];rcases xs[i]? with _|c
 ·rfl
 ·cases c<;>first|exact Ny s dst _|rfl
theorem AHz(dst:Option Tmp)(u:Tmp)(i:Nat)(k:IntKind)(n:Int):yG s dst u i (some (.int k n))=some (s.putO dst (.int k n)):=by simp [yG,Dp,Ji,D.hasObj,Nw]
theorem ACm(dst:Option Tmp)(u:Tmp)(i:Nat)(b:Bool):yG s dst u i (some (.bool b))=some (s.putO dst (.bool b)):=by simp [yG,Dp,Ji,D.hasObj,Nw]
theorem AI0(dst:Option Tmp)(u:Tmp)(i:Nat)(e:ab)(xs:List D):yG s dst u i (some (.own e xs))=some (s.putO dst (.vw [u,i] (s.k u) (s.m u))):=by simp [yG,Dp,Ji,D.hasObj,Nw,xc]
theorem AI1(xs:List D)(c:Nat)(p:AC):Be (.tup xs) (c::p)=(xs[c]?).bind fun d=>Be d p:=nr rfl
theorem AOv(L:AC)(xs:List D)(c:D):pl2 s L (some (.tup xs)) (some c)=some (c,s.set L .undef):=nr rfl
theorem AI2(deep:Bool):back deep s []=s:=nr rfl
theorem bkT(t:Nat)(p:AC)(c:D)(rest:List (AC×D)):back true s ((t::p,c)::rest)=back true ((s.set (t::p) c).bump t) rest:=nr rfl
theorem bkF(t:Nat)(p:AC)(c:D)(rest:List (AC×D)):back false s ((t::p,c)::rest)=back false (s.set (t::p) c) rest:=nr rfl
theorem bkL(Ls:List AC)(outs:List D):Nr s Ls outs=back true (back false s (Ls.map fun L=>(L,.undef))) (Ls.zip outs):=nr rfl
theorem AI3:FI []=true:=nr rfl
theorem ACn(L:AC)(Ls:List AC):FI (L::Ls)=((L.isEmpty||Ls.all fun M=>M.isEmpty||(!L.isPrefixOf M&& !M.isPrefixOf L))&&FI Ls):=nr rfl
theorem ipC(a b:Nat)(l m:AC):List.isPrefixOf (a::l) (b::m)=(a==b&&List.isPrefixOf l m):=nr rfl
theorem ipN(l:AC):List.isPrefixOf [] l=true:=by cases l<;>rfl
theorem ieC(a:Nat)(l:AC):List.isEmpty (a::l)=false:=nr rfl
end
section
variable {T:Tys} {pm:Pm} {s:St}
def fl1(T:Tys)(pm:Pm)(tf:Nat→ab)(sz:Nat)(cs:List D)(i:Nat)(rest:List (Nat×al)):Option (D×St)→Option (List D×St)
 |none=>none
 |some (d,s1)=>if d.asCells.length=sz∧i*sz+sz≤cs.length then IQ T pm tf sz s1 (CS cs (i*sz) d.asCells) rest else none
theorem AI4(tf:Nat→ab)(sz:Nat)(cs:List D):IQ T pm tf sz s cs []=some (cs,s):=nr rfl
theorem ACo(tf:Nat→ab)(sz:Nat)(cs:List D)(i:Nat)(x:al)(rest:List (Nat×al)):IQ T pm tf sz s cs ((i,x)::rest)=fl1 T pm tf sz cs i rest (take T pm s (tf i) x):=by
 simp only [IQ];rcases take T pm s (tf i) x with _|⟨d,s1⟩<;>rfl
theorem AOx(tf:Nat→ab)(cs:List D)(i:Nat)(rest:List (Nat×al))(d:D)(h:d.isAgg=false):fl1 T pm tf 1 cs i rest (some (d,s))=if i+1≤cs.length then IQ T pm tf 1 s (cs.set i d) rest else none:=by
 have ha:d.asCells=[d]:=by cases d<;>first|rfl|(simp [D.isAgg]at h)
 simp only [fl1,ha,Jw,Qu,MM,TJ,true_and,CS]
end
section
variable (pm:Pm) (s:St) (u:Tmp)
def oZ(pm:Pm)(u:Tmp)(d:D):Bool:= !d.hasObj||d.isObj||pm.wr u
theorem mvT:K8 pm s (.move (.tmp u))=oZ pm u (s.v u):=nr rfl
theorem AOy(v:Value):K8 pm s (.move (.const v))=true:=nr rfl
theorem ACp(k:IntKind)(n:Int):oZ pm u (.int k n)=true:=by simp [oZ,D.hasObj]
theorem A7C(b:Bool):oZ pm u (.bool b)=true:=by simp [oZ,D.hasObj]
theorem AI5(e:ab)(xs:List D):oZ pm u (.sl e xs)=true:=by simp [oZ,D.hasObj]
theorem ACq(e:ab)(xs:List D):oZ pm u (.own e xs)=true:=by simp [oZ,D.isObj]
theorem ACr(xs:List D):oZ pm u (.box xs)=true:=by simp [oZ,D.isObj]
theorem AI6(L:AC)(n m:Nat):oZ pm u (.vw L n m)=true:=by simp [oZ,D.hasObj]
theorem AOz(v:Value):oZ pm u (.konst v)=true:=by simp [oZ,D.hasObj]
theorem A7D(xs:List D):oZ pm u (.cptr xs)=true:=by simp [oZ,D.hasObj]
theorem ACs(xs:List D):oZ pm u (.tup xs)=(!Av xs||pm.wr u):=by simp [oZ,D.hasObj,D.isObj]
theorem A44(x:al):K8 pm s (.assign x)=true:=nr rfl
theorem ACt(a b c:al):K8 pm s (.pick a b c)=true:=nr rfl
theorem A7E(t:ab):K8 pm s (.alloc t)=true:=nr rfl
theorem AI7(t:ab)(x:al):K8 pm s (.box t x)=true:=nr rfl
theorem A7F(t:ab)(p:Array (Nat×al)):K8 pm s (.build t p)=true:=nr rfl
theorem AP0(t:ab)(n:Nat)(p:Array (Nat×al)):K8 pm s (.buildSlice t n p)=true:=nr rfl
theorem ACu(t:ab)(x:al):K8 pm s (.load t x)=true:=nr rfl
theorem A7G(t:ab)(x y:al):K8 pm s (.store t x y)=true:=nr rfl
theorem AI8(o:BinOp)(t:ab)(x y:al)(t':ab):K8 pm s (.binOp o t x y t')=true:=nr rfl
theorem AP1(o:UnOp)(t:ab)(x:al):K8 pm s (.unOp o t x)=true:=nr rfl
theorem ACv(t t':ab)(x:al):K8 pm s (.convert t t' x)=true:=nr rfl
theorem AP2(t:ab)(x:al)(a b c:Option al):K8 pm s (.slice t x a b c)=true:=nr rfl
theorem AP3(x:al):K8 pm s (.nilCheck x)=true:=nr rfl
theorem AP4(t:ab)(x:al)(i:Nat):K8 pm s (.fieldAddr t x i)=true:=nr rfl
theorem AP5(t:ab)(x i:al):K8 pm s (.indexAddr t x i)=true:=nr rfl
theorem AP6(x:al)(i:Nat):K8 pm s (.extract x i)=true:=nr rfl
theorem ACw(c:Call):K8 pm s (.call c)=true:=nr rfl
theorem pmR(n r w:List Nat)(x:Nat):(PmL.pm ⟨n,r,w⟩).rd x=(n.contains x|| !r.contains x):=nr rfl
theorem pmW(n r w:List Nat)(x:Nat):(PmL.pm ⟨n,r,w⟩).wr x=w.contains x:=nr rfl
section
variable {E:Env} {dst:Option Tmp} {t ty:ab}
end
end
end Dv
namespace Dv
open Go
theorem GG(n:Int)(h: -9223372036854775808≤n∧n≤9223372036854775807):IntKind.i64.wrap n=n:=IntWalk.i64_in n h
section
variable {T:Tys} {pm:Pm} {s:St} {t:ab}
theorem aj(xs:AO)(i:Nat)(h:i<xs.length):(K9 xs)[i]? =some (.int .i64 (xs.getD i 0)):=by
 simp [K9,LQ,h]
theorem mG(x:Int)(xs:AO):K9 (x::xs)= .int .i64 x::K9 xs:=nr rfl
def sls(e:ab)(xss:AX):List D:=xss.map fun xs=> .sl e (K9 xs)
variable {E:Env} {dst:Option Tmp} {ty:ab}
def AI9(e:ab)(dst:Option Tmp):Option (List D×St)→Option St
 |some (xs,s)=>some (s.putO dst (.own e xs))
 |none=>none
theorem AIA(e:ab)(xs:List D):AI9 e dst (some (xs,s))=some (s.putO dst (.own e xs)):=nr rfl
def A23(dst:Option Tmp):Option (List D×St)→Option St
 |some (xs,s)=>some (s.putO dst (.agg xs))
 |none=>none
theorem AIB(xs:List D):A23 dst (some (xs,s))=some (s.putO dst (.agg xs)):=nr rfl
theorem dV(T:Tys){e:ab}(hs:T.isStruct e=false):T.size e=1∧T.zeros e=[T.zero1 e]:=by
 unfold Tys.isStruct at hs;unfold Tys.size Tys.zeros
 cases hty:T.ty e<;>simp_all [Ty.isStruct,Ty.size]
def bs0(E:Env)(pm:Pm)(s:St)(dst:Option Tmp)(len:Nat)(parts:Array (Nat×al)):Ty→Option St
 | .slice e=>
   if len*E.T.size e≤4096∧E.T.known e=true then
    (IQ E.T pm (fun _=>e) (E.T.size e) s ((ao (len*E.T.size e)).map fun j=>(E.T.zeros e).getD (j % E.T.size e) .undef) parts.toList).map fun r=>r.2.putO dst (.own e r.1)
   else none
 |_=>none
theorem ACx(len:Nat)(parts:Array (Nat×al)):bT E.T pm s dst t len parts=bs0 E pm s dst len parts (E.T.ty t):=by
 unfold bT bs0
 cases E.T.ty t<;>rfl
theorem yBs(len:Nat)(parts:Array (Nat×al)):QG E pm s dst (.buildSlice t len parts) ty=if ty=900004 then fcB pm dst (bs0 E pm s dst len parts (E.T.ty t))else bs0 E pm s dst len parts (E.T.ty t):=by
 rw [dU,ACx];by_cases h:ty=900004
 ·rw [if_pos h,if_pos h];unfold fcB
  cases bs0 E pm s dst len parts (E.T.ty t)<;>cases dst<;>rfl
 ·rw [if_neg h,if_neg h]
theorem AP7(len:Nat)(parts:Array (Nat×al))(e:ab)(hk:E.T.known e=true)(hs:E.T.isStruct e=false)(hl:len≤4096):
  bs0 E pm s dst len parts (.slice e)=AI9 e dst (IQ E.T pm (fun _=>e) 1 s (ap len (E.T.zero1 e)) parts.toList):=by
 obtain⟨hz,hzz⟩:=dV E.T hs
 have hrep:((ao (len*1)).map fun j=>(E.T.zeros e).getD (j % 1) .undef)=ap len (E.T.zero1 e):=by
  rw [hzz];apply Za
  ·simp
  ·intro i h1 h2;simp [Nat.mod_one]
 simp only [bs0,hz];rw [if_pos ⟨by omega,hk⟩,hrep]
 rcases IQ E.T pm (fun _=>e) 1 s (ap len (E.T.zero1 e)) parts.toList with _|⟨a,b⟩<;>rfl
def bsA(E:Env)(e:ab)(dst:Option Tmp):Option (D×St)→Option St
 |some (d,s1)=>if d.asCells.length=E.T.size e then some (s1.putO dst (.own e d.asCells))else none
 |none=>none
theorem AP9(e:ab)(xs:List D)(h:xs.length=E.T.size e):bsA E e dst (some (.agg xs,s))=some (s.putO dst (.own e xs)):=by
 show(if xs.length=E.T.size e then some (s.putO dst (.own e xs))else none)=_
 rw [if_pos h]
theorem vo(cs ys:List D)(h:ys.length=cs.length):CS cs 0 ys=ys:=by
 refine List.ext_getElem? fun i=> ?_;rw [K7 (by omega)]
 by_cases hi:i<ys.length
 ·rw [if_pos (by omega)];rfl
 ·rw [if_neg (by omega),jO (by omega),jO (by omega)]
theorem APA(e:ab)(x:al)(hk:E.T.known e=true)(hs:E.T.isStruct e=true)(hz:E.T.size e≤4096):bs0 E pm s dst 1 #[(0,x)] (.slice e)=bsA E e dst (take E.T pm s e x):=by
 simp only [bs0,IQ];rw [if_pos ⟨by omega,hk⟩]
 rcases take E.T pm s e x with _|⟨d,s1⟩
 ·rfl
 ·simp only [bsA];by_cases h:d.asCells.length=E.T.size e
  ·rw [if_pos ⟨h,by simp⟩,if_pos h,Nat.zero_mul,vo _ _ (by simp [h])];rfl
  ·rw [if_neg (fun hc=>h hc.1),if_neg h];rfl
def bdN(E:Env)(pm:Pm)(s:St)(dst:Option Tmp)(t:ab)(parts:Array (Nat×al)):Option St:=
 match E.T.ty t with
 | .struct fs=>if E.T.known t then A23 dst (IQ E.T pm (fun i=>fs.getD i 0) 1 s (E.T.zeros t) parts.toList)else none
 |_=>none
def bd0(E:Env)(pm:Pm)(s:St)(dst:Option Tmp)(t:ab)(parts:Array (Nat×al)):Option (List (Nat×ab))→Option St
 |some fl=>if E.T.isStruct t&&E.T.known t then A23 dst (MO E.T pm fl s (E.T.zeros t) parts.toList)else none
 |none=>bdN E pm s dst t parts
theorem ACy(parts:Array (Nat×al)):QG E pm s dst (.build t parts) ty=bd0 E pm s dst t parts (E.T.nest t):=by
 rw [A1w];unfold bd0 bdN
 cases E.T.nest t with
 |some fl=>
  simp only;split
  ·rcases MO E.T pm fl s (E.T.zeros t) parts.toList with _|⟨a,b⟩<;>rfl
  ·rfl
 |none=>
  simp only
  cases E.T.ty t with
  |struct fs=>
   simp only;split
   ·rcases IQ E.T pm (fun i=>fs.getD i 0) 1 s (E.T.zeros t) parts.toList with _|⟨a,b⟩<;>rfl
   ·rfl
  |_=>rfl
theorem APB(parts:Array (Nat×al))(fl:List (Nat×ab))(hk:E.T.known t=true)(hs:E.T.isStruct t=true):bd0 E pm s dst t parts (some fl)=A23 dst (MO E.T pm fl s (E.T.zeros t) parts.toList):=by
 simp [bd0,hk,hs]
def bdT(E:Env)(pm:Pm)(s:St)(dst:Option Tmp)(t:ab)(parts:Array (Nat×al)):Ty→Option St
 | .struct fs=>if E.T.known t then A23 dst (IQ E.T pm (fun i=>fs.getD i 0) 1 s (E.T.zeros t) parts.toList)else none
 |_=>none
theorem APC(parts:Array (Nat×al)):bd0 E pm s dst t parts none=bdT E pm s dst t parts (E.T.ty t):=by
 show bdN E pm s dst t parts=_
 unfold bdN bdT
 cases E.T.ty t<;>rfl
theorem APD(parts:Array (Nat×al))(fs:List ab)(hk:E.T.known t=true):bdT E pm s dst t parts (.struct fs)=A23 dst (IQ E.T pm (fun i=>fs.getD i 0) 1 s (E.T.zeros t) parts.toList):=by
 simp [bdT,hk]
def JB(T:Tys)(pm:Pm)(fl:List (Nat×ab))(cs:List D)(off:Nat)(ty:ab)(rest:List (Nat×al)):Option (D×St)→Option (List D×St)
 |none=>none
 |some (d,s1)=>if d.asCells.length=T.size ty∧off+T.size ty≤cs.length then MO T pm fl s1 (CS cs off d.asCells) rest else none
theorem AID(T:Tys)(fl:List (Nat×ab))(cs:List D):MO T pm fl s cs []=some (cs,s):=nr rfl
def fn0(T:Tys)(pm:Pm)(fl:List (Nat×ab))(s:St)(cs:List D)(x:al)(rest:List (Nat×al)):Option (Nat×ab)→Option (List D×St)
 |none=>none
 |some (off,ty)=>JB T pm fl cs off ty rest (take T pm s ty x)
theorem ACz(T:Tys)(fl:List (Nat×ab))(cs:List D)(i:Nat)(x:al)(rest:List (Nat×al)):MO T pm fl s cs ((i,x)::rest)=fn0 T pm fl s cs x rest (fl[i]?):=by
 simp only [MO];rcases fl[i]? with _|⟨off,ty⟩
 ·rfl
 ·simp only [fn0,JB];rcases take T pm s ty x with _|⟨d,s1⟩<;>rfl
theorem APF(T:Tys)(fl:List (Nat×ab))(cs:List D)(x:al)(rest:List (Nat×al))(off:Nat)(ty:ab):fn0 T pm fl s cs x rest (some (off,ty))=JB T pm fl cs off ty rest (take T pm s ty x):=nr rfl
theorem APG(T:Tys)(fl:List (Nat×ab))(cs:List D)(off:Nat)(ty:ab)(rest:List (Nat×al))(d:D)(h1:d.asCells.length=T.size ty)(h2:off+T.size ty≤cs.length):
  JB T pm fl cs off ty rest (some (d,s))=MO T pm fl s (CS cs off d.asCells) rest:=by simp only [JB,h1,h2,and_self,if_true]
theorem fnA(ds:List D):(D.agg ds).asCells=ds:=nr rfl
theorem fnO(e:ab)(xs:List D):(D.own e xs).asCells=[.own e xs]:=nr rfl
theorem spN(cs:List D)(c:Nat):CS cs c []=cs:=by cases cs<;>rfl
theorem spC(cs:List D)(c:Nat)(y:D)(ys:List D):CS cs c (y::ys)=CS (cs.set c y) (c+1) ys:=by cases cs<;>rfl
def mk0(T:Tys)(n:Int):Ty→Option D
 | .slice e=>if 0≤n∧n<1099511627776∧T.elem e=true then
   if T.isStruct e=true then some (.own e (ap n.toNat (T.zeros e)).flatten)
   else if T.size e=1 then some (.own e (ap n.toNat (T.zero1 e)))else none
  else none
 |_=>none
theorem yMk(n:Int):Er T t (.int .i64 n) (.int .i64 n)=mk0 T n (T.ty t):=by
 unfold Er mk0
 cases T.ty t<;>simp
def A7I(T:Tys)(q:Int):Ty→Option D
 | .slice e=>if 0≤q∧q<1099511627776∧T.elem e=true then
   if T.isStruct e=true then some (.own e [])
   else if T.size e=1 then some (.own e [])else none
  else none
 |_=>none
theorem APH(q:Int):Er T t (.int .i64 0) (.int .i64 q)=A7I T q (T.ty t):=by
 unfold Er A7I
 cases T.ty t<;>simp
theorem AIE(q:Int)(e:ab)(hk:T.known e=true)(h4:T.size e≤4)(h0:0≤q)(hn:q<1099511627776):A7I T q (.slice e)=some (.own e []):=by
 simp only [A7I];rw [if_pos ⟨h0,hn,Wm hk h4⟩];by_cases hs:T.isStruct e=true
 ·rw [if_pos hs]
 ·obtain⟨hz,_⟩:=dV T (by simpa using hs)
  rw [if_neg hs,if_pos hz]
theorem API(n:Int)(e:ab)(hk:T.known e=true)(h4:T.size e≤4)(hs:T.isStruct e=false)(h0:0≤n)(hn:n<1099511627776):mk0 T n (.slice e)=some (.own e (ap n.toNat (T.zero1 e))):=by
 obtain⟨hz,_⟩:=dV T hs;simp only [mk0];rw [if_pos ⟨h0,hn,Wm hk h4⟩,if_neg (by rw [hs];decide),if_pos hz]
theorem APJ(n:Int)(e:ab)(hk:T.known e=true)(h4:T.size e≤4)(hs:T.isStruct e=true)(h0:0≤n)(hn:n<1099511627776):mk0 T n (.slice e)=some (.own e (ap n.toNat (T.zeros e)).flatten):=by
 simp only [mk0];rw [if_pos ⟨h0,hn,Wm hk h4⟩,if_pos hs]
end
end Dv
namespace Dv
open Go
def I64(n:Int):Prop:= -9223372036854775808≤n∧n≤9223372036854775807
theorem A45{n:Int}(h:(Lit.int .i64 n).wf=true):I64 n:=by
 have h1:IntKind.i64.min= -9223372036854775808:=by decide
 have h2:IntKind.i64.max=9223372036854775807:=by decide
 simp only [Lit.wf,h1,h2,El,decide_eq_true_eq]at h;exact h
section
variable {T:Tys} {t e:ab} {d:D}
theorem A46(ht:T.ty t= .int .i64)(h:Arg T t d): ∃n,d= .int .i64 n∧I64 n:=by
 obtain⟨ds,hs,rfl⟩:=h
 cases hs with
 |int ht' hw=>rw [ht]at ht';injection ht' with ht';subst ht';exact⟨_,by simp [top,Tys.isStruct,ht,Ty.isStruct],A45 hw⟩
 |bool ht'=>rw [ht]at ht';cases ht'
 |string ht'=>rw [ht]at ht';cases ht'
 |slice ht'=>rw [ht]at ht';cases ht'
 |struct ht'=>rw [ht]at ht';cases ht'
theorem dW{ds:List D}(ht:T.ty t= .int .i64)(h:Shp T t ds): ∃n,ds=[.int .i64 n]∧I64 n:=by
 cases h with
 |int ht' hw=>rw [ht]at ht';injection ht' with ht';subst ht';exact⟨_,rfl,A45 hw⟩
 |bool ht'=>rw [ht]at ht';cases ht'
 |string ht'=>rw [ht]at ht';cases ht'
 |slice ht'=>rw [ht]at ht';cases ht'
 |struct ht'=>rw [ht]at ht';cases ht'
theorem Wn{ds:List D}(ht:T.ty t= .slice e)(h:Shp T t ds): ∃xss:List (List D),ds=[.sl e xss.flatten]∧(∀xs,xs∈xss→Shp T e xs)∧xss.length≤maxLen:=by
 cases h with
 |int ht' hw=>rw [ht]at ht';cases ht'
 |bool ht'=>rw [ht]at ht';cases ht'
 |string ht' hs=>rw [ht]at ht';cases ht'
 |slice ht' hx hl=>rw [ht]at ht';injection ht' with ht';subst ht';exact⟨_,rfl,hx,hl⟩
 |struct ht'=>rw [ht]at ht';cases ht'
theorem mH{fs:List ab}{ds:List D}(ht:T.ty t= .struct fs)(h:Shp T t ds):ds.length=fs.length∧ ∀(i:Nat) (f:ab) (d:D),fs[i]? =some f→ds[i]? =some d→Shp T f [d]:=by
 cases h with
 |int ht' hw=>rw [ht]at ht';cases ht'
 |bool ht'=>rw [ht]at ht';cases ht'
 |string ht' hs=>rw [ht]at ht';cases ht'
 |slice ht' hx hl=>rw [ht]at ht';cases ht'
 |struct ht' hl hx=>rw [ht]at ht';injection ht' with ht';subst ht';exact⟨hl,hx⟩
def A47(xs:AO):Prop:=xs.length≤maxLen∧ ∀x∈xs,I64 x
def A0S(xss:AX):Prop:=xss.length≤maxLen∧ ∀xs∈xss,A47 xs
theorem og{ds:List D}(ht:T.ty t= .slice e)(he:T.ty e= .int .i64)(h:Shp T t ds): ∃xs,ds=[.sl e (K9 xs)]∧A47 xs:=by
 obtain⟨xss,rfl,hx,hl⟩:=Wn ht h
 have: ∀xss:List (List D),(∀xs,xs∈xss→Shp T e xs)→ ∃ys,xss.flatten=K9 ys∧ys.length=xss.length∧ ∀y∈ys,I64 y:=by
  intro xss
  induction xss with
  |nil=>intro _;exact⟨[],rfl,rfl,by simp⟩
  |cons xs xss ih=>
   intro hx;obtain⟨n,rfl,hn⟩:=dW he (hx xs (Gu));obtain⟨ys,h1,h2,h3⟩:=ih (fun q hq=>hx q (PL _ hq))
   refine⟨n::ys,by rw [uL,h1];rfl,by simp [h2],fun y hy=> ?_⟩
   rcases Rw.1 hy with rfl|hy
   ·exact hn
   ·exact h3 y hy
 obtain⟨ys,h1,h2,h3⟩:=this xss hx
 exact⟨ys,by rw [h1],by omega,h3⟩
theorem vz{e2:ab}{ds:List D}(ht:T.ty t= .slice e)(he:T.ty e= .slice e2)(he2:T.ty e2= .int .i64)(h:Shp T t ds): ∃xss,ds=[.sl e (sls e2 xss)]∧A0S xss:=by
 obtain⟨xss,rfl,hx,hl⟩:=Wn ht h
 have: ∀xss:List (List D),(∀xs,xs∈xss→Shp T e xs)→ ∃ys,xss.flatten=sls e2 ys∧ys.length=xss.length∧ ∀y∈ys,A47 y:=by
  intro xss
  induction xss with
  |nil=>intro _;exact⟨[],rfl,rfl,by simp⟩
  |cons xs xss ih=>
   intro hx;obtain⟨n,rfl,hn⟩:=og he he2 (hx xs (Gu));obtain⟨ys,h1,h2,h3⟩:=ih (fun q hq=>hx q (PL _ hq))
   refine⟨n::ys,by rw [uL,h1];rfl,by simp [h2],fun y hy=> ?_⟩
   rcases Rw.1 hy with rfl|hy
   ·exact hn
   ·exact h3 y hy
 obtain⟨ys,h1,h2,h3⟩:=this xss hx
 exact⟨ys,by rw [h1],by omega,h3⟩
theorem mI{fs:List ab}(ht:T.ty t= .struct fs)(h:Arg T t d): ∃ds,d= .agg ds∧ds.length=fs.length∧ ∀(i:Nat) (f:ab) (d:D),fs[i]? =some f→ds[i]? =some d→Shp T f [d]:=by
 obtain⟨ds,hs,rfl⟩:=h;obtain⟨h1,h2⟩:=mH ht hs
 exact⟨ds,by simp [top,Tys.isStruct,ht,Ty.isStruct],h1,h2⟩
theorem yn{a b:ab}(ht:T.ty t= .struct [a,a,b,b])(ha:T.ty a= .int .i64)(hb:T.ty b= .slice e){e2:ab}(he:T.ty e= .slice e2)(he2:T.ty e2= .int .i64)(h:Arg T t d):
  ∃l k ns es,d= .agg [.int .i64 l,.int .i64 k,.sl e (sls e2 ns),.sl e (sls e2 es)]∧I64 l∧I64 k∧A0S ns∧A0S es:=by
 obtain⟨ds,rfl,hl,hx⟩:=mI ht h;rcases ds with _|⟨d0,_|⟨d1,_|⟨d2,_|⟨d3,_|⟨_,_⟩⟩⟩⟩⟩<;>simp at hl
 obtain⟨l,h0,hl0⟩:=dW ha (hx 0 a d0 rfl rfl);obtain⟨k,h1,hl1⟩:=dW ha (hx 1 a d1 rfl rfl);obtain⟨ns,h2,hl2⟩:=vz hb he he2 (hx 2 b d2 rfl rfl);obtain⟨es,h3,hl3⟩:=vz hb he he2 (hx 3 b d3 rfl rfl);simp only [List.cons.injEq,and_true]at h0 h1 h2 h3;subst h0 h1 h2 h3
 exact⟨l,k,ns,es,rfl,hl0,hl1,hl2,hl3⟩
end
theorem trodAll_len{H:Type}{enc:ab×Value→H}{P:Program}{w:World}{base:Nat}{spare:Nat→Bool}{RA:Bool}: ∀ {ts:List ab} {vs:List Value} {ds:List (DataW H)} {ps:List MemPlace},
  DataW.TrodAll enc P w base spare RA ts vs ds ps→ds.length=ts.length∧vs.length=ts.length:=by
 intro ts
 induction ts with
 |nil=>intro vs ds ps h;cases vs<;>cases ds<;>simp [DataW.TrodAll]at h;exact⟨rfl,rfl⟩
 |cons t ts ih=>
  intro vs ds ps h
  cases vs with
  |nil=>cases ds<;>simp [DataW.TrodAll]at h
  |cons v vs=>
   cases ds with
   |nil=>simp [DataW.TrodAll]at h
   |cons d ds=>
    simp only [DataW.TrodAll]at h;obtain⟨p,q,h1,h2,_⟩:=h;obtain⟨e1,e2⟩:=ih h2
    exact⟨by simp [e1],by simp [e2]⟩
end Dv
namespace Dv
open Go
section
variable {E:Env} {T:Tys} {pm:Pm} {s:St} {dst:Option Tmp} {ty t:ab}
def bo0(T:Tys)(t:ab)(dst:Option Tmp):Option (D×St)→Option St
 |some (d,s1)=>if T.isStruct t==d.isAgg then some (s1.putO dst (.box d.asCells))else none
 |none=>none
def bk0(E:Env)(pm:Pm)(s:St)(t:ab)(x:al)(dst:Option Tmp):D→Option St
 | .agg ds=>if Av ds then bo0 E.T t dst (take E.T pm s t x)else(if E.T.isStruct t then some (s.putO dst (.box ds))else none)
 |_=>bo0 E.T t dst (take E.T pm s t x)
theorem AD0(u:Tmp):Ta E.T pm s dst t (.tmp u)=bk0 E pm s t (.tmp u) dst (s.v u):=by
 rw [A3s]
 cases hk:bR (ev E.T s t (.tmp u))with
 |some ds=>
  simp only [ev]at hk
  cases hv:s.v u<;>rw [hv]at hk<;>simp only [bR]at hk<;>try (cases hk;done)
  split at hk
  ·cases hk
  ·rename_i ho
   simp only [am]at hk;subst hk;simp only [bk0,ho];rfl
 |none=>
  have hold:bk0 E pm s t (.tmp u) dst (s.v u)=bo0 E.T t dst (take E.T pm s t (.tmp u)):=by
   simp only [ev]at hk
   cases hv:s.v u<;>try rfl
   rw [hv]at hk;simp only [bR]at hk
   split at hk
   ·rename_i ho;simp only [bk0,ho,if_true]
   ·cases hk
  rw [hold];simp only;rcases take E.T pm s t (.tmp u)with _|⟨d,s1⟩<;>rfl
theorem APK(u:Tmp):QG E pm s dst (.box t (.tmp u)) ty=if ty=900003 then frB pm dst (bk0 E pm s t (.tmp u) dst (s.v u))else bk0 E pm s t (.tmp u) dst (s.v u):=by
 rw [A6z,AD0];by_cases h:ty=900003
 ·rw [if_pos h,if_pos h];unfold frB
  cases bk0 E pm s t (.tmp u) dst (s.v u)<;>cases dst<;>rfl
 ·rw [if_neg h,if_neg h]
theorem bkK(x:al)(ds:List D)(hs:E.T.isStruct t=true):bk0 E pm s t x dst (.agg ds)=if Av ds then bo0 E.T t dst (take E.T pm s t x)else some (s.putO dst (.box ds)):=by simp [bk0,hs]
theorem AIF(x:al)(k:IntKind)(n:Int):bk0 E pm s t x dst (.int k n)=bo0 E.T t dst (take E.T pm s t x):=nr rfl
theorem APL(x:al)(e:ab)(xs:List D):bk0 E pm s t x dst (.sl e xs)=bo0 E.T t dst (take E.T pm s t x):=nr rfl
theorem AD1(x:al)(xs:List D):bk0 E pm s t x dst (.cptr xs)=bo0 E.T t dst (take E.T pm s t x):=nr rfl
theorem APM(ds:List D)(hs:T.isStruct t=true):bo0 T t dst (some (.agg ds,s))=some (s.putO dst (.box ds)):=by simp [bo0,hs,D.isAgg,D.asCells]
theorem APN(d:D)(hs:T.isStruct t=false)(hd:d.isAgg=false):bo0 T t dst (some (d,s))=some (s.putO dst (.box [d])):=by
 have:d.asCells=[d]:=by cases d<;>first|rfl|(simp [D.isAgg]at hd)
 simp [bo0,hs,hd,this]
def fa1(L:AC)(i n m:Nat):Option D→Option D
 |some _=>some (.pe L i n m)
 |none=>none
theorem APP(L:AC)(i n m:Nat)(d:D):fa1 L i n m (some d)=some (.pe L i n m):=nr rfl
def fa0(T:Tys)(pm:Pm)(s:St)(t:ab)(x:al)(d:D):Option Nat→Option D
 |none=>none
 |some j=>
  if T.isStruct t then
   match d with
   | .box _=>match x with| .tmp u=>some (.pe [u] j (s.k u) (s.m u))|_=>none
   | .vw L n m=>match s.look pm L n m with|some (.box _)=>some (.pe L j n m)|_=>none
   | .pe L c n m=>match s.look pm L n m with|some _=>some (.pe L (c+j) n m)|none=>none
   | .cptr xs=>some (.cptr (xs.drop j))
   |_=>none
  else none
theorem faE(x:al)(d:D)(i:Nat):GA T pm s t x d i=fa0 T pm s t x d (T.foff t i):=by
 unfold GA fa0
 cases T.foff t i<;>rfl
theorem foN(i:Nat)(hn:T.nest t=none)(hi:i<T.size t):T.foff t i=some i:=by simp [Tys.foff,hn,hi]
theorem AIG(u:Tmp)(xs:List D)(i:Nat)(hs:T.isStruct t=true):fa0 T pm s t (.tmp u) (.box xs) (some i)=some (.pe [u] i (s.k u) (s.m u)):=by simp [fa0,hs]
theorem APQ(x:al)(L:AC)(n m i:Nat)(hs:T.isStruct t=true):fa0 T pm s t x (.vw L n m) (some i)=fa1 L i n m (ZI s pm L n m):=by
 simp only [fa0,hs,if_true,ZI]
 cases s.look pm L n m with
 |none=>rfl
 |some o=>cases o<;>rfl
theorem APR(x:al)(L:AC)(c n m i:Nat)(hs:T.isStruct t=true):fa0 T pm s t x (.pe L c n m) (some i)=fa1 L (c+i) n m (s.look pm L n m):=by
 simp only [fa0,hs,if_true]
 cases s.look pm L n m<;>rfl
theorem APS(x:al)(xs:List D)(i:Nat)(hs:T.isStruct t=true):fa0 T pm s t x (.cptr xs) (some i)=some (.cptr (xs.drop i)):=by simp [fa0,hs]
theorem csS(L:AC)(c n:Nat)(o:D):cellsOf s L c n (some o)=if c+n≤o.cells.length then Dp (.agg ((ao n).map fun i=>Ji s L (c+i) (o.cells.getD (c+i) .undef)))else none:=nr rfl
variable {α:Type} (f:Nat→α)
theorem rg2:(ao 2).map f=[f 0,f 1]:=nr rfl
theorem rg3:(ao 3).map f=[f 0,f 1,f 2]:=nr rfl
theorem rg4:(ao 4).map f=[f 0,f 1,f 2,f 3]:=nr rfl
theorem rg7:(ao 7).map f=[f 0,f 1,f 2,f 3,f 4,f 5,f 6]:=nr rfl
theorem AIH(L:AC)(c:Nat)(k:IntKind)(n:Int):Ji s L c (.int k n)= .int k n:=nr rfl
theorem APT(L:AC)(c:Nat)(e:ab)(xs:List D):Ji s L c (.sl e xs)= .sl e xs:=nr rfl
theorem AII(L:AC)(c:Nat)(e:ab)(xs:List D):Ji s L c (.own e xs)=xc s (L++[c]):=nr rfl
theorem APU(L:AC)(c:Nat)(M:AC)(n m:Nat):Ji s L c (.vw M n m)= .vw M n m:=nr rfl
theorem noA(xs:List D):Dp (.agg xs)=if Av xs then none else some (.agg xs):=by simp only [Dp,D.hasObj];rfl
theorem AIJ(k:IntKind)(n:Int):Dp (.int k n)=some (.int k n):=by simp [Dp,D.hasObj]
theorem APV(e:ab)(xs:List D):Dp (.sl e xs)=some (.sl e xs):=by simp [Dp,D.hasObj]
theorem APW(L:AC)(n m:Nat):Dp (.vw L n m)=some (.vw L n m):=by simp [Dp,D.hasObj]
theorem dl2(a b:Nat)(l:AC):List.dropLast (a::b::l)=a::List.dropLast (b::l):=nr rfl
theorem dl1(a:Nat):List.dropLast [a]=[]:=nr rfl
theorem APX(r c:Nat)(p:AC):s.get (r::c::p)=Be (s.v r) (c::p):=nr rfl
theorem yo: ∀(ds xs:List D),xs.length=ds.length→CS xs 0 ds=ds:=by
 have key: ∀(ds pre xs:List D),xs.length=ds.length→CS (pre++xs) pre.length ds=pre++ds:=by
  intro ds
  induction ds with
  |nil=>intro pre xs h;simp at h;subst h;rfl
  |cons d ds ih=>
   intro pre xs h
   cases xs with
   |nil=>simp at h
   |cons x xs=>
    simp only [CS];have:=ih (pre++[d]) xs (by simpa using h)
    simpa using this
 intro ds xs h;simpa using key ds [] xs h
def sw1(T:Tys)(pm:Pm)(t:ab)(u:Tmp)(ds:List D)(s:St):D→Option St
 | .box xs=>if T.known t&&T.isStruct t&&pm.wr u&&ds.all D6&&(T.size t==ds.length)&&(xs.length==ds.length)then(if Av ds||Av xs then some ((s.set [u] (.box ds)).bump u)else some (s.set [u] (.box ds)))else uB T pm t (.tmp u) (some (.agg ds,s))
 |_=>uB T pm t (.tmp u) (some (.agg ds,s))
theorem APY(u:Tmp)(ds:List D):uB T pm t (.tmp u) (some (.agg ds,s))=sw1 T pm t u ds s (s.v u):=by
 cases hv:s.v u<;>simp only [sw1]
 rename_i xs
 split
 ·rename_i hc
  simp only [El,beq_iff_eq]at hc;obtain⟨⟨⟨⟨⟨hk,hs⟩,hw⟩,hd⟩,hz⟩,hl⟩:=hc;have hz':T.size t≤xs.length:=by omega
  simp only [uB,ev,hv,Jm,D.asCells,D.isAgg,D.cells,D.withCells,hk,hs,hw,hd,hz,jR,beq_self_eq_true,Bool.and_self,MM,D.hasObj];rw [yo ds xs hl];have h2:ds.length≤xs.length:=by omega
  simp only [h2,decide_true,Bool.and_self,if_true]
  split<;>first|rfl|(rename_i hq;simp only [hq];rfl)
 ·rfl
theorem APZ(u:Tmp)(ds xs:List D)(hk:T.known t=true)(hs:T.isStruct t=true)(hw:pm.wr u=true)(hd:ds.all D6=true)(hz:T.size t=ds.length)(hl:xs.length=ds.length):
  sw1 T pm t u ds s (.box xs)=if Av ds||Av xs then some ((s.set [u] (.box ds)).bump u)else some (s.set [u] (.box ds)):=by
 simp [sw1,hk,hs,hw,hd,hz,hl]
def rc1(T:Tys)(s:St)(t:Tmp)(ty:ab):D→Option (D×St)
 | .box xs=>if T.isStruct ty then(if xs.length=T.size ty then td1 (FF Pm.all (s.clr t) xs)else none)else(match xs with| [d]=>CV Pm.all (s.clr t) d|_=>none)
 | .cptr xs=>if T.isStruct ty then(if xs.length=T.size ty then some (.agg xs,s)else none)else(match xs with| [d]=>some (d,s)|_=>none)
 |_=>none
theorem AD2(u:Tmp)(hk:T.known ty=true):bX T s (.cell u ty)=rc1 T s u ty (s.v u):=by
 simp only [bX,hk,if_true,rc1]
 cases s.v u with
 |box xs=>
  simp only;split
  ·split
   ·cases FF Pm.all (s.clr u) xs<;>rfl
   ·rfl
  ·rfl
 |_=>rfl
theorem APa(u:Tmp)(xs:List D)(hs:T.isStruct ty=true)(hl:xs.length=T.size ty):rc1 T s u ty (.box xs)=td1 (FF Pm.all (s.clr u) xs):=by simp [rc1,hs,hl]
def cp1(pm:Pm)(s:St)(u:Tmp)(rest:List al):D→Option (List D×St)
 | .box xs=>match D5 xs with
  |some ys=>if pm.wr u then(PU pm (s.set [u] (.cptr ys)) rest).map fun r=>(.cptr ys::r.1,r.2)else none
  |none=>none
 | .cptr ys=>(PU pm s rest).map fun r=>(.cptr ys::r.1,r.2)
 |_=>none
theorem AIL:PU pm s []=some ([],s):=nr rfl
theorem AIM(u:Tmp)(rest:List al):PU pm s (.tmp u::rest)=cp1 pm s u rest (s.v u):=by
 simp only [PU]
 cases s.v u<;>rfl
def cp2(pm:Pm)(s:St)(u:Tmp)(rest:List al):Option (List D)→Option (List D×St)
 |some ys=>if pm.wr u then(PU pm (s.set [u] (.cptr ys)) rest).map fun r=>(.cptr ys::r.1,r.2)else none
 |none=>none
theorem APd(u:Tmp)(rest:List al)(xs:List D):cp1 pm s u rest (.box xs)=cp2 pm s u rest (D5 xs):=by
 simp only [cp1];cases D5 xs<;>rfl
theorem APe(u:Tmp)(rest:List al)(ys:List D)(hw:pm.wr u=true):cp2 pm s u rest (some ys)=(PU pm (s.set [u] (.cptr ys)) rest).map fun r=>(.cptr ys::r.1,r.2):=by simp [cp2,hw]
def clN(E:Env)(pm:Pm)(s:St)(dst:Option Tmp)(args:Array al)(ts:Array ab):D→Option St
 | .clo f caps=>if args.size=ts.size then IR E pm s dst f (args.toList.zip ts.toList) caps else none
 | .ocl false f caps=>if args.size=ts.size then PV E pm s dst f (args.toList.zip ts.toList) caps else none
 |_=>none
theorem AD3(u:Tmp)(args:Array al)(ts:Array ab):QG E pm s dst (.call ⟨.value (.tmp u),args,ts⟩) ty=clN E pm s dst args ts (s.v u):=by
 rw [A1y];cases s.v u<;>first|rfl|(rename_i b _ _;cases b<;>rfl)
theorem APf(args:Array al)(ts:Array ab)(f':an)(caps:List D)(h:args.size=ts.size):clN E pm s dst args ts (.clo f' caps)=IR E pm s dst f' (args.toList.zip ts.toList) caps:=by simp [clN,h]
def mf0(f:an)(dst:Option Tmp):Option (List D×St)→Option St
 |some r=>some (r.2.putO dst (.clo f r.1))
 |none=>none
theorem APg(g:an)(xs:List D):mf0 g dst (some (xs,s))=some (s.putO dst (.clo g xs)):=nr rfl
def mfV(f:an)(dst:Option Tmp):Option (List D×St)→Option St
 |some r=>some (r.2.putO dst (.ocl false f r.1))
 |none=>none
theorem APh(g:an)(xs:List D):mfV g dst (some (xs,s))=some (s.putO dst (.ocl false g xs)):=nr rfl
theorem yMf(g:an)(captured:Array al):QG E pm s dst (.makeFunc (.func g) #[] captured) ty=if ty<3000000 then mf0 g dst (PU pm s captured.toList)else mfV g dst (bS pm s (ty-3000000) captured.toList):=by
 rw [oU];simp only [List.isEmpty_toArray,List.isEmpty_nil,if_true];by_cases h:ty<3000000
 ·rw [if_pos h,if_pos h]
  cases PU pm s captured.toList<;>rfl
 ·rw [if_neg h,if_neg h]
  cases bS pm s (ty-3000000) captured.toList<;>rfl
def cvp(l:List al):Option (List D×St)→Option (List D×St)
 |none=>none
 |some (_,s1)=>(TZ s1 l).map fun ds=>(ds,s1)
theorem cvE(m:Nat)(l:List al):bS pm s m l=cvp l (PU pm s (LJ m 0 l)):=by
 unfold bS cvp;rcases PU pm s (LJ m 0 l)with _|⟨ys,s1⟩<;>rfl
def cvq(s:St):Option (List D)→Option (List D×St)
 |some ds=>some (ds,s)
 |none=>none
theorem APi(l:List al)(ys:List D):cvp l (some (ys,s))=cvq s (TZ s l):=by
 simp only [cvp];cases TZ s l<;>rfl
theorem APj(ds:List D):cvq s (some ds)=some (ds,s):=nr rfl
theorem umN(m i:Nat):LJ m i []=[]:=nr rfl
theorem umC(m i:Nat)(x:al)(xs:List al):LJ m i (x::xs)=if m / 2 ^ i % 2=1 then LJ m (i+1) xs else x::LJ m (i+1) xs:=by
 rw [LJ,Nat.testBit_eq_decide_div_mod_eq];by_cases h:m / 2 ^ i % 2=1<;>simp [h]
def ce1(s:St)(u:Tmp)(r:Option (List D)):D→Option (List D)
 | .box _=>r.map (xc s [u]:: ·)
 | .cptr ys=>r.map (.cptr ys:: ·)
 |_=>none
theorem ceN:TZ s []=some []:=nr rfl
theorem ceT(u:Tmp)(rest:List al):TZ s (.tmp u::rest)=ce1 s u (TZ s rest) (s.v u):=by
 simp only [TZ]
 cases s.v u<;>rfl
theorem APl(u:Tmp)(l xs:List D):ce1 s u (some l) (.box xs)=some (xc s [u]::l):=nr rfl
theorem APm(u:Tmp)(l ys:List D):ce1 s u (some l) (.cptr ys)=some (.cptr ys::l):=nr rfl
def AD4(T:Tys)(pm:Pm)(s:St)(t:ab)(t0:Tmp):D→D→Option St
 | .box [_],.ocl false f xs=>if T.known t&& !T.isStruct t&&(T.size t==1)&&pm.rd t0&&pm.wr t0 then some (s.set [t0] (.ocl true f (xs.map (LU s t0))))else none
 |_,_=>none
theorem APn(T:Tys)(t0 u:Tmp):Yx T pm s t (.tmp t0) (.tmp u)=AD4 T pm s t t0 (s.v t0) (s.v u):=by
 show(match s.v t0,s.v u with
  | .box [_],.ocl false f xs=>if T.known t&& !T.isStruct t&&(T.size t==1)&&pm.rd t0&&pm.wr t0 then some (s.set [t0] (.ocl true f (xs.map (LU s t0))))else none
  |_,_=>none)=_
 rfl
theorem APo(T:Tys)(t0:Tmp)(x:D)(f:an)(xs:List D)(hk:T.known t=true)(hs:T.isStruct t=false)(hz:T.size t=1)(hr:pm.rd t0=true)(hw:pm.wr t0=true):
  AD4 T pm s t t0 (.box [x]) (.ocl false f xs)=some (s.set [t0] (.ocl true f (xs.map (LU s t0)))):=by simp [AD4,hk,hs,hz,hr,hw]
theorem utV(t0 r n m:Nat):LU s t0 (.vw [r] n m)=if r=t0 then(if n=s.k t0 then .undef else .vw [r] n m)else .vw [r] n m:=by
 unfold LU;by_cases h:r=t0<;>by_cases h2:n=s.k t0<;>simp [h,h2]
theorem utC(t0:Nat)(ys:List D):LU s t0 (.cptr ys)= .cptr ys:=nr rfl
theorem ldO(T:Tys)(x:al)(f:an)(xs:List D)(hk:T.known t=true)(hs:T.isStruct t=false):FH T pm s t x (.ocl true f xs)=some (.ocl false f xs):=by simp [FH,hk,hs]
def co2(E:Env)(pm:Pm)(s:St)(dst:Option Tmp)(f:an)(as:List D)(ls:List (AC×D)):Option (List D×List (AC×D))→Option St
 |none=>none
 |some (cs,lc)=>
  if FI ((ls++lc).map (·.1))&&(ls++lc).all (fun l=>pm.wr (l.1.headD 0))&&(ls++lc).all (fun l=>u7 l.2)then
   cl2 s dst (ls++lc) (E.call f (as++cs.map (Lf f cs)) ((ls++lc).map (·.2)))
  else none
def co1(E:Env)(pm:Pm)(s:St)(dst:Option Tmp)(f:an)(caps:List D):Option (List D×List (AC×D))→Option St
 |none=>none
 |some (as,ls)=>co2 E pm s dst f as ls (DV pm s ls.length caps)
theorem coE(f:an)(xs:List (al×ab))(caps:List D):PV E pm s dst f xs caps=co1 E pm s dst f caps (Dj E true pm s 0 xs):=by
 unfold PV co1;rcases Dj E true pm s 0 xs with _|⟨as,ls⟩
 ·rfl
 ·simp only;unfold co2;rcases DV pm s ls.length caps with _|⟨cs,lc⟩
  ·rfl
  ·simp only;split
   ·unfold cl2;rcases E.call f (as++cs.map (Lf f cs)) ((ls++lc).map (·.2))with _|⟨r,o⟩<;>rfl
   ·rfl
theorem APq(f:an)(caps as:List D)(ls:List (AC×D)):co1 E pm s dst f caps (some (as,ls))=co2 E pm s dst f as ls (DV pm s ls.length caps):=nr rfl
theorem APr(f:an)(as cs:List D)(ls lc:List (AC×D))(h:(FI ((ls++lc).map (·.1))&&(ls++lc).all (fun l=>pm.wr (l.1.headD 0))&&(ls++lc).all (fun l=>u7 l.2))=true):
  co2 E pm s dst f as ls (some (cs,lc))=cl2 s dst (ls++lc) (E.call f (as++cs.map (Lf f cs)) ((ls++lc).map (·.2))):=by simp only [co2,h,if_true]
def oaJ(a:D)(l:List (AC×D)):Option (List D×List (AC×D))→Option (List D×List (AC×D))
 |some r=>some (a::r.1,l++r.2)
 |none=>none
theorem APs(a:D)(l:List (AC×D))(r:List D)(m:List (AC×D)):oaJ a l (some (r,m))=some (a::r,l++m):=nr rfl
def oa1(pm:Pm)(s:St)(j:Nat)(L:AC)(rest:List D):Option D→Option (List D×List (AC×D))
 |some c=>oaJ (.vw [G+j] 0 0) [(L,c)] (DV pm s (j+1) rest)
 |none=>none
theorem APu(j:Nat)(L:AC)(rest:List D)(c:D):oa1 pm s j L rest (some c)=oaJ (.vw [G+j] 0 0) [(L,c)] (DV pm s (j+1) rest):=nr rfl
theorem oaN(j:Nat):DV pm s j []=some ([],[]):=nr rfl
theorem oaV(j:Nat)(L:AC)(n m:Nat)(rest:List D):DV pm s j (.vw L n m::rest)=oa1 pm s j L rest (s.look pm L n m):=by
 rw [DV]
 cases s.look pm L n m with
 |none=>rfl
 |some c=>simp only [oa1];rcases DV pm s (j+1) rest with _|⟨a,b⟩<;>rfl
theorem oaC(j:Nat)(ys rest:List D):DV pm s j (.cptr ys::rest)=oaJ (.cptr ys) [] (DV pm s j rest):=by
 rw [DV];rcases DV pm s j rest with _|⟨a,b⟩<;>rfl
theorem oaU(j:Nat)(rest:List D):DV pm s j (.undef::rest)=oaJ .undef [] (DV pm s j rest):=by
 rw [DV];rcases DV pm s j rest with _|⟨a,b⟩<;>rfl
theorem saU(f:an)(cs:List D):Lf f cs .undef= .ocl true f cs:=nr rfl
theorem saV(f:an)(cs:List D)(L:AC)(n m:Nat):Lf f cs (.vw L n m)= .vw L n m:=nr rfl
theorem saC(f:an)(cs ys:List D):Lf f cs (.cptr ys)= .cptr ys:=nr rfl
theorem APv(args:Array al)(ts:Array ab)(f':an)(caps:List D)(h:args.size=ts.size):clN E pm s dst args ts (.ocl false f' caps)=PV E pm s dst f' (args.toList.zip ts.toList) caps:=by simp [clN,h]
def bn1(dflt:Nat):Option D→Option Nat
 |some (.int _ n)=>if 0≤n then some n.toNat else none
 |_=>none
theorem bnN(n:Nat):VE T s n none=some n:=nr rfl
theorem bnS(n:Nat)(x:al):VE T s n (some x)=bn1 n (ev T s 0 x):=by
 simp only [VE];rcases ev T s 0 x with _|d
 ·rfl
 ·cases d<;>rfl
theorem APx(n:Nat)(k:IntKind)(i:Int)(h:0≤i):bn1 n (some (.int k i))=some i.toNat:=by simp [bn1,h]
def sl0(T:Tys)(pm:Pm)(s:St)(x:al)(d:D)(lo hi mx:Option al):Ty→Option (D×St)
 | .slice e'=>match Cz pm s x d with
  |none=>none
  |some (e,xs,o)=>
   match VE T s 0 lo,VE T s (T.len e xs) hi with
   |some l,some h=>
    if e'=e∧T.known e=true∧l≤h∧h≤T.len e xs then
     if mx.isSome then
      match VE T s 0 mx with
      |some q=>if l=h∧h=q∧hi.isSome=true then some (.own e [],s)else none
      |none=>none
     else match o with
      |none=>some (.sl e ((xs.take (h*T.size e)).drop (l*T.size e)),s)
      |some (L,va,vb)=>
       if pm.wr (L.headD 0)then
        match D5 xs with
        |some ys=>some (.sl e ((ys.take (h*T.size e)).drop (l*T.size e)),s.set L (.sl e ys))
        |none=>none
       else bM L va vb e l h s
    else none
   |_,_=>none
 | .string=>match d with
  | .str b=>match VE T s 0 lo,VE T s b.size hi with
   |some l,some h=>if l≤h∧h≤b.size∧mx.isNone then some (.str (b.extract l h),s)else none
   |_,_=>none
  |_=>none
 |_=>none
theorem slT(x:al)(d:D)(lo hi mx:Option al):KQ T pm s t x d lo hi mx=sl0 T pm s x d lo hi mx (T.ty t):=by
 unfold KQ sl0
 cases T.ty t<;>first|rfl|(cases d<;>rfl)
def sl1(T:Tys)(pm:Pm)(s:St)(e:ab)(xs:List D)(o:Option (AC×Nat×Nat)):Option Nat→Option Nat→Option (D×St)
 |some l,some h=>
  if l≤h∧h≤xs.length then
   match o with
   |none=>some (.sl e ((xs.take h).drop l),s)
   |some (L,va,vb)=>
    if pm.wr (L.headD 0)then
     match D5 xs with
     |some ys=>some (.sl e ((ys.take h).drop l),s.set L (.sl e ys))
     |none=>none
    else bM L va vb e l h s
  else none
 |_,_=>none
def sl2(T:Tys)(pm:Pm)(s:St)(e':ab)(lo hi:Option al):Option (ab×List D×Option (AC×Nat×Nat))→Option (D×St)
 |some (e,xs,o)=>if e'=e∧T.known e=true then sl1 T pm s e xs o (VE T s 0 lo) (VE T s xs.length hi)else none
 |none=>none
theorem APy(x:al)(d:D)(lo hi:Option al)(e:ab)(hz:T.isStruct e=false):sl0 T pm s x d lo hi none (.slice e)=sl2 T pm s e lo hi (Cz pm s x d):=by
 have h1:=Tz hz;simp only [sl0,sl2,Option.isSome_none,Nq,if_false];rcases Cz pm s x d with _|⟨e',xs,o⟩
 ·rfl
 ·simp only;by_cases he:e=e'
  ·subst he;simp only [true_and,h1,TJ,Tys.len,if_true]
   cases VE T s 0 lo<;>cases VE T s xs.length hi<;>simp only [sl1]<;>(by_cases hk:T.known e=true<;>simp [hk])
  ·simp only [he,false_and,if_false]
   cases VE T s 0 lo<;>cases VE T s (T.len e' xs) hi<;>rfl
theorem APz(e:ab)(lo hi:Option al)(xs:List D)(o:Option (AC×Nat×Nat))(hk:T.known e=true):sl2 T pm s e lo hi (some (e,xs,o))=sl1 T pm s e xs o (VE T s 0 lo) (VE T s xs.length hi):=by simp [sl2,hk]
theorem AQ0(e:ab)(xs:List D)(l h:Nat)(h1:l≤h)(h2:h≤xs.length):sl1 T pm s e xs none (some l) (some h)=some (.sl e ((xs.take h).drop l),s):=by simp [sl1,h1,h2]
def sl3(pm:Pm)(s:St)(e:ab)(L:AC)(a b l h:Nat)(o:Option (List D)):Option (D×St):=
 if pm.wr (L.headD 0)then
  match o with
  |some ys=>some (.sl e ((ys.take h).drop l),s.set L (.sl e ys))
  |none=>none
 else bM L a b e l h s
theorem AQ2(e:ab)(xs:List D)(L:AC)(a b l h:Nat)(h1:l≤h)(h2:h≤xs.length):sl1 T pm s e xs (some (L,a,b)) (some l) (some h)=sl3 pm s e L a b l h (D5 xs):=by
 simp only [sl1,h1,h2,and_self,if_true];rfl
theorem AQ3(e:ab)(L:AC)(a b l h:Nat)(o:Option (List D))(hw:pm.wr (L.headD 0)=false):sl3 pm s e L a b l h o=some (.vs e L a b l (h-l),s):=by simp only [sl3];rw [if_neg (by rw [hw];decide)];rfl
theorem AQ4(u:Tmp):wrO pm (.tmp u)=pm.wr u:=nr rfl
def cf2(e:ab)(xs:List D)(s1:St):Option Nat→Option (D×St)
 |some l=>if l≤xs.length then some (.own e (xs.drop l),s1)else none
 |none=>none
def cf1(T:Tys)(s:St)(e':ab)(lo:Option al):Option (D×St)→Option (D×St)
 |some (.own e xs,s1)=>
  match VE T s 0 lo with
  |some l=>if e'=e∧T.known e=true∧l≤T.len e xs then some (.own e (xs.drop (l*T.size e)),s1)else none
  |none=>none
 |_=>none
def cf0(T:Tys)(pm:Pm)(s:St)(t:ab)(x:al)(lo:Option al):Ty→Option (D×St)
 | .slice e=>cf1 T s e lo (if wrO pm x then take T pm s t x else none)
 |_=>none
theorem cfT(x:al)(lo:Option al):PQ T pm s t x lo=cf0 T pm s t x lo (T.ty t):=by
 unfold PQ cf0 cf1
 cases T.ty t<;>rfl
theorem AQ5(x:al)(lo:Option al)(e:ab)(hw:wrO pm x=true):cf0 T pm s t x lo (.slice e)=cf1 T s e lo (take T pm s t x):=by
 unfold cf0;rw [if_pos hw]
theorem AQ6(lo:Option al)(e:ab)(xs:List D)(s1:St)(hk:T.known e=true)(hz:T.isStruct e=false):cf1 T s e lo (some (.own e xs,s1))=cf2 e xs s1 (VE T s 0 lo):=by
 have h1:=Tz hz;simp only [cf1,hk,true_and,h1,TJ,Tys.len,if_true]
 cases VE T s 0 lo<;>rfl
theorem AQ7(e:ab)(xs:List D)(s1:St)(l:Nat)(hle:l≤xs.length):cf2 e xs s1 (some l)=some (.own e (xs.drop l),s1):=by
 show(if l≤xs.length then some (D.own e (xs.drop l),s1)else none)=_
 rw [if_pos hle]
def ca0(f:an):Option (List D×List (AC×D))→Option (D×List (AC×D))
 |some r=>some (.clo f r.1,r.2)
 |none=>none
theorem AQ9(f:an)(cs:List D)(ls:List (AC×D)):ca0 f (some (cs,ls))=some (.clo f cs,ls):=nr rfl
def ca2(pm:Pm)(s:St)(L:AC)(c:D)(rest:List D):Option D→Option (List D×List (AC×D))
 |some c'=>oaJ c' [(L,c)] (PS pm s rest)
 |none=>none
theorem AQA(L:AC)(c:D)(rest:List D)(c':D):ca2 pm s L c rest (some c')=oaJ c' [(L,c)] (PS pm s rest):=nr rfl
def ca1(pm:Pm)(s:St)(L:AC)(rest:List D):Option D→Option (List D×List (AC×D))
 |some c=>ca2 pm s L c rest (EH c)
 |none=>none
theorem AQC(L:AC)(rest:List D)(c:D):ca1 pm s L rest (some c)=ca2 pm s L c rest (EH c):=nr rfl
theorem caN:PS pm s []=some ([],[]):=nr rfl
theorem caV(L:AC)(n m:Nat)(rest:List D):PS pm s (.vw L n m::rest)=ca1 pm s L rest (s.look pm L n m):=by
 rw [PS]
 cases s.look pm L n m with
 |none=>rfl
 |some c=>
  simp only [ca1,ca2]
  cases EH c with
  |none=>rfl
  |some c'=>simp only [CB];rcases PS pm s rest with _|⟨a,b⟩<;>rfl
theorem caC(ys rest:List D):PS pm s (.cptr ys::rest)=oaJ (.cptr ys) [] (PS pm s rest):=by
 rw [PS];rcases PS pm s rest with _|⟨a,b⟩<;>rfl
theorem AIQ(T:Tys)(L0:AC)(j:Nat)(f:an)(caps:List D):QF T false pm s j L0 (.ocl false f caps)=ca0 f (PS pm s caps):=by
 show(if(false||false)=true then none else(PS pm s caps).map fun r=>(D.clo f r.1,r.2))=_
 rw [if_neg (by decide)]
 unfold ca0;rcases PS pm s caps with _|⟨a,b⟩<;>rfl
def va1(T:Tys)(e:ab)(L:AC)(lo len:Nat):Option D→Option (D×List (AC×D))
 |some (.own e' xs)=>
  if e'=e∧T.known e=true∧(lo+len)*T.size e≤xs.length then
   (D5 xs).map fun ys=>(.sl e ((ys.drop (lo*T.size e)).take (len*T.size e)),[(L,.own e' xs)])
  else none
 |_=>none
theorem AQD(e:ab)(L L0:AC)(n m lo len j:Nat):QF T false pm s j L0 (.vs e L n m lo len)=va1 T e L lo len (s.look pm L n m):=by
 show lN T pm s e L n m lo len=_
 unfold lN va1;rcases s.look pm L n m with _|d
 ·rfl
 ·cases d<;>rfl
theorem AIR(x y:Tmp)(t':ab):QG E pm s dst (.call ⟨.builtin .copy, #[.tmp x,.tmp y], #[t,t']⟩) ty=oQ dst (Ry E.T pm s t (.tmp x) (.tmp y) (s.v x) (s.v y)):=RD dst _
def A7J(T:Tys)(pm:Pm)(s:St)(t:ab):Option (ab×AC×List D×Nat×Nat)→Option (ab×List D)→Option (D×St)
 |some (e,L,xs,lo,len),some (e',ys)=>
  if T.isSl t e&&(e==e')&&T.known e&&(T.size e==1)&& !Av xs&& !Av ys&&ys.all D6&&pm.wr (L.headD 0)then
   some (.int .i64 (min len ys.length:Nat),s.set L (.own e (CS xs lo (ys.take (min len ys.length)))))
  else none
 |_,_=>none
theorem AQE(x y:al)(a b:D):Ry T pm s t x y a b=A7J T pm s t (bN pm s x a) (jU pm s y b):=by
 unfold Ry A7J;rcases bN pm s x a with _|⟨_,_,_,_,_⟩<;>rcases jU pm s y b with _|⟨_,_⟩<;>rfl
theorem AQF(e:ab)(L:AC)(xs ys:List D)(lo len:Nat)(h1:T.isSl t e=true)(h2:T.known e=true)(h3:T.size e=1)(h4:Av xs=false)(h5:Av ys=false)(h6:ys.all D6=true)(h7:pm.wr (L.headD 0)=true):
  A7J T pm s t (some (e,L,xs,lo,len)) (some (e,ys))=some (.int .i64 (min len ys.length:Nat),s.set L (.own e (CS xs lo (ys.take (min len ys.length))))):=by
 unfold A7J;dsimp only;rw [if_pos (by rw [h1,h2,h3,h4,h5,h6,h7];simp)]
def AD6(e:ab):Ty→Bool
 | .slice e'=>e'==e
 |_=>false
theorem AQG(e:ab):T.isSl t e=AD6 e (T.ty t):=by unfold Tys.isSl AD6;cases T.ty t<;>rfl
theorem AQH(e e':ab):AD6 e (.slice e')=(e'==e):=nr rfl
def dv0:Option (ab×List D×Option (AC×Nat×Nat))→Option (ab×AC×List D×Nat×Nat)
 |some (e,xs,some (L,_,_))=>some (e,L,xs,0,xs.length)
 |_=>none
theorem AQI(e:ab)(xs:List D)(L:AC)(a b:Nat):dv0 (some (e,xs,some (L,a,b)))=some (e,L,xs,0,xs.length):=nr rfl
theorem dvW(x:al)(L:AC)(n m:Nat):bN pm s x (.vw L n m)=dv0 (Cz pm s x (.vw L n m)):=by
 show(match Cz pm s x (.vw L n m)with|some (e,xs,some (L,_,_))=>some (e,L,xs,0,xs.length)|_=>none)=_
 rcases Cz pm s x (.vw L n m)with _|⟨_,_,_|⟨_,_,_⟩⟩<;>rfl
def dv1(e:ab)(L:AC)(lo len:Nat):Option D→Option (ab×AC×List D×Nat×Nat)
 |some (.own e' xs)=>if e'=e∧lo+len≤xs.length then some (e,L,xs,lo,len)else none
 |_=>none
theorem dvS(x:al)(e:ab)(L:AC)(n m lo len:Nat):bN pm s x (.vs e L n m lo len)=dv1 e L lo len (s.look pm L n m):=by
 show(match s.look pm L n m with|some (.own e' xs)=>if e'=e∧lo+len≤xs.length then some (e,L,xs,lo,len)else none|_=>none)=_
 rcases s.look pm L n m with _|d
 ·rfl
 ·cases d<;>rfl
theorem AQK(e:ab)(L:AC)(lo len:Nat)(xs:List D)(h:lo+len≤xs.length):dv1 e L lo len (some (.own e xs))=some (e,L,xs,lo,len):=by simp [dv1,h]
theorem svL(x:al)(e:ab)(xs:List D):jU pm s x (.sl e xs)=some (e,xs):=nr rfl
def sv1(e:ab)(lo len:Nat):Option D→Option (ab×List D)
 |some (.own e' xs)=>if e'=e∧lo+len≤xs.length then some (e,(xs.drop lo).take len)else none
 |_=>none
theorem svS(x:al)(e:ab)(L:AC)(n m lo len:Nat):jU pm s x (.vs e L n m lo len)=sv1 e lo len (s.look pm L n m):=by
 show(match s.look pm L n m with|some (.own e' xs)=>if e'=e∧lo+len≤xs.length then some (e,(xs.drop lo).take len)else none|_=>none)=_
 rcases s.look pm L n m with _|d
 ·rfl
 ·cases d<;>rfl
theorem AQM(e:ab)(lo len:Nat)(xs:List D)(h:lo+len≤xs.length):sv1 e lo len (some (.own e xs))=some (e,(xs.drop lo).take len):=by simp [sv1,h]
end
theorem yt{P:Program}{T:Tys}{f:an}{e:ab}{r:D}{outs:List D}(hk:T.known e=true)(h: ∀A c,Good P T f [.konst (.slice A 0 c)] [] r outs):Good P T f [.sl e []] [] r outs:=by
 refine⟨(h none 0).1,fun vs gh w S FL hsz hA hL hL0 hLd hlt=> ?_⟩
 obtain⟨v,hv,hW⟩:=hA 0 _ rfl
 obtain⟨A,c,rfl⟩: ∃A c,v= .slice A 0 c:=by
  cases hW with
  |sl us hE hn hc hm hx hw=>
   rename_i A n c
   have hp:=vU hk
   have:n=0:=by
    simp only [Qu]at hn;rcases Nat.mul_eq_zero.1 hn.symm with h0|h0
    ·exact h0
    ·omega
   subst this
   exact⟨_,_,rfl⟩
 refine(h A c).2 vs gh w S FL hsz (fun i d hi=> ?_) hL hL0 hLd hlt
 cases i with
 |zero=>simp at hi;subst hi;exact⟨_,hv,.konst (fun _ h=>h)⟩
 |succ i=>simp at hi
end Dv
namespace Dv
open Go
set_option maxRecDepth 10000
set_option linter.defProp false
theorem geq:G=100000:=nr rfl
def AJ:=A7 @ANf (A7 @AIR (A7 @ANh (A7 @AN7 (A7 @AN8 (A7 @ABw (A7 @APK (A7 @yMf (A7 @AD3 (A7 @ANF (A7 @AG8 (A7 @ANC (A7 @AC3 (A7 @AG9 (A7 @AGC (A7 @AC4 (A7 @AG6 (A7 @AG7 (A7 @ANB (A7 @AC5 (A7 @AC6 (A7 @AC7 (A7 @ANH (A7 @ANI (A7 @ANJ (A7 @AGD (A7 @AGE (A7 @yj (A7 @vY (A7 @AGi (A7 @A76 (A7 @A40 (A7 @ACF (A7 @AGj (A7 @yUn (A7 @ACG (A7 @ANe (A7 @A41 (A7 @ACH (A7 @A77 (A7 @ACI (A7 @AGn (A7 @A42 (A7 @AGo (A7 @A3r (A7 @A1x (A7 @A1v (A7 @ACy (A7 @yBs (@oV)))))))))))))))))))))))))))))))))))))))))))))))))
def BK:=A7 @ANu (A7 @AP3 (A7 @ACV (A7 @faE (A7 @foN (A7 @APB (A7 @APC (A7 @AID (A7 @ACz (A7 @APF (A7 @APG (A7 (A7 @fnO @fnA) (A7 @spN (A7 @spC (A7 @cfT (A7 @AQ5 (A7 @AQ6 (A7 @AQ7 (A7 @APh (A7 @cvE (A7 @APi (A7 @APj (A7 @umN (A7 @umC (A7 @ceN (A7 @ceT (A7 @APl (A7 @APm (A7 @APn (A7 @APo (A7 @utV (A7 @utC (A7 @ldO (A7 @coE (A7 @APq (A7 @APr (A7 @APs (A7 @APu (A7 @oaN (A7 @oaV (A7 @oaC (A7 @oaU (A7 @saU (A7 @saV (A7 @saC (A7 @APv (A7 @ANb (A7 @ANc (A7 @ANd (A7 @ACU (A7 @AOE (A7 @AOF (A7 @AGx (A7 @ACM (A7 @AGy (A7 @AGz (A7 @ACN (A7 @AH0 (A7 @AQ3 (A7 @AQ4 (A7 (A7 @AQD (A7 @AIQ (A7 @AQ9 (A7 @AQC (A7 @AQA (A7 @caN (A7 @caV @caC))))))) (A7 @AHZ (A7 @AOX (A7 @AHa (A7 @AHb (A7 @AOY (A7 @AHc (A7 @AQE (A7 @AQF (A7 @AQG (A7 @AQH (A7 @AQI (A7 @dvW (A7 @dvS (A7 @AQK (A7 @svL (A7 @svS (A7 @AQM (A7 @ANO (A7 @ANP (A7 @ANQ (A7 @AGR (A7 @AGS (A7 @AGT (A7 @AHz (A7 @ACm (A7 @AI0 (A7 @AI1 (A7 @AOv (A7 @bkK (A7 @AIF (A7 (A7 @AD1 @APL) (A7 @AFv (A7 @AN9 (A7 @ANA (A7 @ndK (A7 @ANi (A7 @AGl (A7 @apK (A7 @AHW (A7 @AOP (A7 @AOQ (A7 @ACd (A7 @dl2 (A7 @dl1 (A7 @APX (A7 @AIJ (A7 @APV (A7 @APW (A7 @APM (A7 @APN (A7 @APP (A7 @AIG (A7 @APQ (A7 @APR (A7 @APS (A7 @csS (A7 @rg2 (A7 @rg3 (A7 @rg4 (A7 @rg7 (A7 @AIH (A7 @APT (A7 @AII (A7 @APU (A7 @noA (A7 @APY (A7 @APZ (A7 @AD2 (A7 @APa (A7 @AIL (A7 @AIM (A7 @APd (A7 @APe (A7 @APf (A7 @APg (A7 @bnN (A7 @bnS (A7 @APx (A7 @slT (A7 @APy (A7 @APz (A7 @AQ0 (A7 @AQ2 (A7 @AI2 (A7 @bkT (A7 @bkF (A7 @bkL (A7 @AI3 (A7 @ACn (A7 @ipC (A7 @ipN (A7 @ieC (A7 @fiA (A7 @fiB (A7 @fiC (A7 @ACj (A7 @ACk (A7 @AOG (A7 @AOH (A7 @AOI (A7 @bxA (A7 @AOK (A7 @hdC (A7 @AOU (A7 @AOV (A7 @AOW (A7 @mvT (A7 @AOy (A7 @ACp (A7 @A7C (A7 @AI5 (A7 @ACq (A7 @ACr (A7 @AI6 (A7 @AOz (A7 @A7D (A7 @ACs (A7 @A44 (A7 @ACt (A7 @A7E (A7 @AI7 (A7 @A7F (A7 @AP0 (A7 @ACu (A7 @A7G (A7 @AI8 (A7 @AP1 (A7 @ACv (A7 @AP2 (A7 @AP4 (A7 @AP5 (A7 @AP6 (A7 @ACw (A7 @pmR (A7 @pmW (A7 @ANE (A7 @AGA (A7 @ANG (A7 @AN4 (A7 @AN5 (A7 @AN6 (A7 @APD (A7 @APA (A7 @AP9 (A7 @AP7 (A7 (A7 @APH @yMk) (A7 (A7 @AIE @API) (A7 @APJ (A7 @AIA (A7 @AIB (A7 @ABx (A7 @ABy (A7 @A71 (A7 @ABz (A7 @AGF (A7 @AC8 (A7 @ANK (A7 @A75 (A7 @AGG (A7 @AGH (A7 @ANL (A7 @AC9 (A7 @AGI (A7 @AGJ (A7 @AGK (A7 @ACA (A7 @ACB (A7 @AGL (A7 @AGM (A7 @ACC (A7 @ANM (A7 @AGN (A7 @AGO (A7 @AGP (A7 @AGQ (A7 @AGU (A7 @pkB (A7 @pkT (A7 @pkF (A7 @AFs (A7 @AFt (A7 @AFu (A7 @ANg (A7 @AGk (A7 @ANj (A7 @ANk (A7 @ANm (A7 @AGV (A7 @AGW (A7 @AGX (A7 @AGY (A7 @AGZ (A7 @AGa (A7 @A3y (A7 @AGb (A7 @AGc (A7 @ANR (A7 @ANT (A7 @ANU (A7 @ANV (A7 @ANW (A7 @ANX (A7 @AGd (A7 @AGe (A7 @boI (A7 @boB (A7 @boA (A7 @ACD (A7 @AGf (A7 @AGg (A7 @AGh (A7 @ldC (A7 @ANn (A7 @ldP (A7 @ANo (A7 @ldB (A7 @ANp (A7 @ldV (A7 @AGp (A7 @AGr (A7 @ACJ (A7 @ACK (A7 @AGs (A7 @ANq (A7 @AGt (A7 @ANr (A7 @AGv (A7 @AGw (A7 @lnT (A7 @ANv (A7 @AH1 (A7 @ixT (A7 @ANx (A7 @ANz (A7 @AH2 (A7 @tkC (A7 @AH7 (A7 @ACQ (A7 @AO4 (A7 @AH8 (A7 @AH9 (A7 @ACR (A7 @AO5 (A7 @AHA (A7 @AH3 (A7 @ACO (A7 @AO0 (A7 @AH4 (A7 @AO1 (A7 @AO2 (A7 @AO3 (A7 @ACP (A7 @A79 (A7 @ACS (A7 @A0Q (A7 @hoI (A7 @hoB (A7 @AHB (A7 @AHC (A7 @AHD (A7 @AO6 (A7 @hoU (A7 @AHE (A7 @AHF (A7 @AO8 (A7 @AHH (A7 @AO9 (A7 @AOA (A7 @AOB (A7 @AHI (A7 @AHJ (A7 @AHK (A7 @AHL (A7 @AHM (A7 @AHN (A7 @ACT (A7 @AOL (A7 @AHO (A7 @AHP (A7 @AHQ (A7 @AHR (A7 @AHS (A7 @ACW (A7 @AHT (A7 @ceS (A7 (A7 @ACX @AOM) (A7 @AON (A7 @AOS (A7 @AOT (A7 @ACY (A7 @ACZ (A7 @AHX (A7 @AHY (A7 @arC (A7 @arF (A7 @aCS (A7 @AHd (A7 @AOZ (A7 @AHe (A7 @AHf (A7 @AOd (A7 @AHg (A7 @AHh (A7 @AOa (A7 @AOc (A7 @AOe (A7 @AOf (A7 @ACa (A7 @AHi (A7 @ACb (A7 @AHj (A7 @ACc (A7 @AOg (A7 @AHk (A7 @AOh (A7 @cdB (A7 @AOi (A7 @AOj (A7 @AOk (A7 @cdL (A7 @AOl (A7 @AOm (A7 @AHm (A7 @ACe (A7 @AHn (A7 @AHo (A7 @AHp (A7 @ACf (A7 @A7B (A7 @AHq (A7 @ACg (A7 @AOn (A7 @AHr (A7 @ACh (A7 @AOo (A7 @A8g (A7 @AHt (A7 @AHu (A7 @AHv (A7 @ACi (A7 @AOp (A7 @A0R (A7 @AOq (A7 @fiD (A7 @fi0 (A7 @re0 (A7 @re1 (A7 @re2 (A7 @AOr (A7 @AHw (A7 @AHx (A7 @AOs (A7 @ACl (A7 @AOt (A7 @AOu (A7 @AHy (A7 @AI4 (A7 @ACo (A7 @AOx (A7 @AFw (A7 @AFz (A7 @AC0 (A7 @AG2 (A7 @AFx (A7 @AG0 (A7 @AC1 (A7 @AG3 (A7 @AFy (A7 @AG1 (A7 @AC2 (A7 @AG4 (A7 @A1z (A7 @AG5 (A7 @A20 (A7 @A3w (A7 @A72 (A7 @A73 (A7 @A74 (A7 @geq (A7 @Int.toNat_natCast (A7 @Int.toNat_zero (A7 @Int.natCast_nonneg (A7 @Nat.zero_le (A7 @Int.le_refl (A7 @Nat.le_refl (A7 @Bool.and_true (A7 @Bool.true_and (A7 @Bool.and_false (A7 @Bool.false_and (A7 @Bool.or_false (A7 @Bool.false_or (A7 @Bool.or_true (A7 @Bool.true_or (A7 @Bool.not_true (A7 @Bool.not_false (A7 @Bool.false_eq_true (A7 @decide_true (A7 @decide_false (A7 @and_self (A7 @and_true (@true_and)))))))))))))))))))))))))))))))))))))))))))))))))))))))))))))))))))))))))))))))))))))))))))))))))))))))))))))))))))))))))))))))))))))))))))))))))))))))))))))))))))))))))))))))))))))))))))))))))))))))))))))))))))))))))))))))))))))))))))))))))))))))))))))))))))))))))))))))))))))))))))))))))))))))))))))))))))))))))))))))))))))))))))))))))))))))))))))))))))))))))))))))))))))))))))))))))))))))))))))))))))))))))))))))))))))))))))))))))))))))))))))))))))))))))))))
end Dv
