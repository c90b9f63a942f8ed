/- Value semantics for Go code, part 4: arguments of laws, slim code and rules. Conditions: none beyond those in each lemma. -/
import Derived.Test.YtclkfhhdikfcpaaL3
import Derived.WalkKit
import Derived.ProofKit
import Derived.OpenShut
import Derived.ShutString
import Derived.ChangeOld
import Derived.Below
import Derived.Carry
import Derived.IntWalk
open Go renaming TypeId → ab,Operand → ac,FuncId → am
open List renaming range → an,replicate → ao,getElem?_eq_none → bc
open Option.some renaming injEq → al
set_option linter.unusedSimpArgs false
set_option linter.unusedVariables false
namespace Dv
open Go
inductive Shp(T:Tys):ab→List D→Prop
 |int {t k n} (ht:T.ty t= .int k) (hw:(Lit.int k n).wf=true):Shp T t [.int k n]
 |bool {t b} (ht:T.ty t= .bool):Shp T t [.bool b]
 |string {t s} (ht:T.ty t= .string) (hs:s.size≤maxLen):Shp T t [.str s]
 |slice {t e} {xss:List (List D)} (ht:T.ty t= .slice e) (hx: ∀xs,xs∈xss→Shp T e xs) (hl:xss.length≤maxLen):Shp T t [.sl e xss.flatten]
 |struct {t fs} {ds:List D} (ht:T.ty t= .struct fs) (hl:ds.length=fs.length) (hx: ∀(i:Nat) (f:ab) (d:D),fs[i]? =some f→ds[i]? =some d→Shp T f [d]):Shp T t ds
def Pf(T:Tys):Nat→ab→Bool
 |0,_=>false
 |n+1,t=>match T.ty t with
  | .int _=>true
  | .bool=>true
  | .string=>true
  | .slice e=>T.known e&&Pf T n e
  | .struct fs=>(T.nest t).isNone&& !fs.isEmpty&&fs.all (Pf T n)
  |_=>false
theorem Shp.length{T:Tys}{t:ab}{ds:List D}(h:Shp T t ds):ds.length=T.size t:=by
 cases h with
 |int ht=>simp [Tys.size,ht,Ty.size]
 |bool ht=>simp [Tys.size,ht,Ty.size]
 |string ht=>simp [Tys.size,ht,Ty.size]
 |slice ht=>simp [Tys.size,ht,Ty.size]
 |struct ht hl=>simp [Tys.size,ht,Ty.size,hl]
theorem Z0{α:Type}{n:Nat}(hn:0<n): ∀(xss:List (List α)),(∀xs∈xss,xs.length=n)→ ∀k:Nat,xss.flatten[k]? =(xss[k / n]?).bind fun xs=>xs[k % n]? :=by
 intro xss
 induction xss with
 |nil=>intro _ k;simp
 |cons xs xss ih=>
  intro h k;have hx:=h xs (LX);rw [aF];rcases Nat.lt_or_ge k n with hk|hk
  ·rw [ND (by omega),Nat.div_eq_of_lt hk,Nat.mod_eq_of_lt hk];rfl
  ·rw [NC (by omega),ih (fun ys hy=>h ys (Je _ hy)),hx]
   have h1:k / n=(k-n) / n+1:=by
    rw [Nat.div_eq_sub_div hn hk]
   have h2:k % n=(k-n) % n:=by rw [Nat.mod_eq_sub_mod hk]
   rw [h1,h2];rfl
theorem TW{α:Type}{n:Nat}: ∀(xss:List (List α)),(∀xs∈xss,xs.length=n)→xss.flatten.length=xss.length*n:=by
 intro xss
 induction xss with
 |nil=>intro _;simp
 |cons xs xss ih=>
  intro h;rw [aF,Kt,ih (fun ys hy=>h ys (Je _ hy)),h xs (LX),OI,Nat.add_mul];omega
abbrev eF(w:World):Nat→Prop:=fun k=>k<w.heap.size
section
variable {P:Program} {T:Tys} {H:Type} {enc:ab×Value→H} {w:World} {spare:Nat→Bool} {ik:Bool}
theorem BZ.cells(h:BZ P T){t:ab}(hk:T.known t=true):P.cellsOf t=T.size t:=by
 obtain⟨i,h1,h2,_⟩:=h.info hk;simp [Program.cellsOf,h1,h2]
theorem bK{n:Nat}{t:ab}(h:Pf T n t=true):T.known t=true:=by
 cases n with
 |zero=>cases h
 |succ n=>
  unfold Pf at h;unfold Tys.known
  cases ht:T.ty t with
  |struct fs=>
   rw [ht]at h
   cases fs with
   |nil=>simp at h
   |cons=>rfl
  |other=>rw [ht]at h;cases h
  |map=>rw [ht]at h;cases h
  |arr=>rw [ht]at h;cases h
  |_=>rfl
theorem Z4{t:ab}(hk:T.known t=true):0<T.size t:=by
 unfold Tys.known at hk;unfold Tys.size
 cases ht:T.ty t with
 |struct fs=>
  rw [ht]at hk
  cases fs with
  |nil=>cases hk
  |cons=>simp [Ty.size]
 |arr n e=>
  rw [ht]at hk
  cases n with
  |zero=>cases hk
  |succ=>simp [Ty.size]
 |_=>simp [Ty.size]
theorem bL{base:Nat}{a:Addr}{n:Nat}{cs:List Value}(h:w.cells? base a n=some cs):cs.length=n∧ ∀i,i<n→w.cell? (a.add i)=cs[i]? :=by
 unfold World.cells? at h
 split at h
 ·exact⟨by simpa using mapM_some_length h,fun i hi=>by have:=mapM_some_get h i i (by simp [hi]);simpa using this⟩
 ·cases h
theorem pz{ad:Addr}{v:Value}(h:w.cell? ad=some v):ad.block<w.heap.size:=by
 rcases Nat.lt_or_ge ad.block w.heap.size with hl|hl
 ·exact hl
 ·have h1:=Ux hl;simp [World.cell?,h1]at h
theorem l6(hT:BZ P T): ∀(fuel:Nat) (n:Nat) (t:ab) (cs:List Value) (x:DataW H×List MemPlace),Pf T n t=true→DataW.trod enc P w 0 spare ik fuel t cs=some x→
  ∃ds,Shp T t ds∧cs.length=ds.length∧ ∀(i:Nat) (d:D),ds[i]? =some d→ ∃v,cs[i]? =some v∧W T (eF w) w V0 Hy d v (fun _=>False):=by
 have hE:Em (fun _:Nat=>False):=fun _ h=>h
 have one: ∀(d0:D) (v0:Value),W T (eF w) w V0 Hy d0 v0 (fun _=>False)→ ∀(i:Nat) (d:D),[d0][i]? =some d→ ∃v,[v0][i]? =some v∧W T (eF w) w V0 Hy d v (fun _=>False):=by
  intro d0 v0 h i d hi
  cases i with
  |zero=>simp at hi;subst hi;exact⟨v0,rfl,h⟩
  |succ i=>simp at hi
 intro fuel
 induction fuel with
 |zero=>intro n t cs x _ h;simp [DataW.trod]at h
 |succ fuel ih=>
  intro n t cs x hd h;have hk:=bK hd;have h0:=(hT t).1;unfold F4 at h0
  cases n with
  |zero=>cases hd
  |succ n=>
   unfold Pf at hd
   cases ht:T.ty t<;>rw [ht]at h0 hd<;>simp only at h0 hd
   case int k=>
    obtain⟨m,rfl,_,hw⟩:=DataW.trod_int h0.1 h
    exact⟨[.int k m],.int ht hw,rfl,one _ _ (.int hE)⟩
   case bool=>
    obtain⟨b,rfl,_⟩:=DataW.trod_bool h0.1 h
    exact⟨[.bool b],.bool ht,rfl,one _ _ (.bool hE)⟩
   case string=>
    obtain⟨s,rfl,_,hs⟩:=DataW.trod_string h0.1 h
    exact⟨[.str s],.string ht hs,rfl,one _ _ (.str hE)⟩
   case slice e=>
    simp only [FM]at hd;have hc:=hT.cells hd.1;have hpos:=Z4 hd.1;rcases DataW.trod_slice h0.1 h with⟨rfl,_⟩|⟨a,len,cap,elems,rest,m,hm,rfl,_,_,hl,hcap,hlen,hel,_,_⟩
    ·exact⟨[.sl e ([]:List (List D)).flatten],.slice ht (by simp) (by simp [maxLen]),rfl,one _ _ (.sl (fun _=>undef) hE (by simp) (IB _) (by simp [maxLen]) (by simp) (by simp))⟩
    ·injection hm with hm
     subst hm
     have hex: ∀i,i<len→ ∃ds,Shp T e ds∧ ∀(j:Nat) (d:D),ds[j]? =some d→ ∃v,w.cell? (a.add (i*T.size e+j))=some v∧W T (eF w) w V0 Hy d v (fun _=>False):=by
      intro i hi;have h1:=hel i hi;rw [Gy (by omega),H8]at h1
      obtain⟨cs',h2,h3⟩:=h1;obtain⟨ds,q1,q2,q3⟩:=ih n e cs' _ hd.2 h3
      refine⟨ds,q1,fun j d hj=> ?_⟩
      obtain⟨v,hv,hW⟩:=q3 j d hj;obtain⟨c1,c2⟩:=bL h2;rw [hc]at c1 c2;have hj':j<T.size e:=by rw [←c1];exact(ES.1 hv).1
      have h4:=c2 j hj';rw [Iz]at h4
      exact⟨v,by rw [h4,hv],hW⟩
     let ch:Nat→List D:=fun i=>if h:i<len then(hex i h).choose else []
     have hch: ∀i,i<len→Shp T e (ch i)∧ ∀(j:Nat) (d:D),(ch i)[j]? =some d→ ∃v,w.cell? (a.add (i*T.size e+j))=some v∧W T (eF w) w V0 Hy d v (fun _=>False):=by
      intro i hi;have:=(hex i hi).choose_spec
      simp only [ch,hi,dif_pos];exact this
     have hall: ∀xs∈(an len).map ch,xs.length=T.size e:=by
      intro xs hxs;obtain⟨i,hi,rfl⟩:=JH.1 hxs
      exact(hch i (MF.1 hi)).1.length
     refine⟨[.sl e ((an len).map ch).flatten],.slice ht (fun xs hxs=> ?_) (by simp;omega),rfl,one _ _ ?_⟩
     ·obtain⟨i,hi,rfl⟩:=JH.1 hxs
      exact(hch i (MF.1 hi)).1
     ·have key: ∀(i:Nat) (x:D),((an len).map ch).flatten[i]? =some x→ ∃v,w.cell? (a.add i)=some v∧W T (eF w) w V0 Hy x v (fun _=>False):=by
       intro i x hi;rw [Z0 hpos _ hall,H8]at hi;obtain⟨xs,h1,h2⟩:=hi;rw [MC,Cf]at h1;obtain⟨q,hq,rfl⟩:=h1;obtain⟨hq1,hq2⟩:=ES.1 hq;simp only [WW]at hq2;subst hq2;obtain⟨v,hv,hW⟩:=(hch _ (by simpa using hq1)).2 _ x h2
       rw [show i / T.size e*T.size e+i % T.size e=i by rw [Nat.mul_comm];exact Nat.div_add_mod i (T.size e)]at hv
       exact⟨v,hv,hW⟩
      refine .sl (fun i=>(w.cell? (a.add i)).getD undef) hE (by rw [TW _ hall];simp) hl hcap (fun i x hi=> ?_) (fun i x hi=> ?_)
      ·obtain⟨v,hv,_⟩:=key i x hi
       exact⟨a,rfl,by have:=pz hv;rw [KM]at this;exact this,by rw [hv];rfl⟩
      ·obtain⟨v,hv,hW⟩:=key i x hi;simp only [hv,YE];exact hW
   case struct fs=>
    simp only [FM,Ir,jf]at hd;obtain⟨⟨fields,hu,hfx⟩,hinfo⟩:=h0;rw [hd.1.1]at hfx;obtain⟨hfl,hfi⟩:=hfx;obtain⟨xs,m,hm,_,hcl,hxl,hx⟩:=DataW.trod_struct hu h
    injection hm with hm
    subst hm;rw [hT.cells hk]at hcl;have hsz:T.size t=fs.length:=by simp [Tys.size,ht,Ty.size]
    have hex: ∀i,i<fs.length→ ∃d f,fs[i]? =some f∧Shp T f [d]∧ ∃v,cs[i]? =some v∧W T (eF w) w V0 Hy d v (fun _=>False):=by
     intro i hi;have hif:i<fields.size:=by omega
     obtain⟨f1,f2,f3,f4⟩:=hfi i _ (K6 hif);have h1:=hx i _ (K6 hif)
     have hs1:T.size fields[i].type=1:=by
      unfold Tys.isStruct at f4;unfold Tys.size
      cases hty:T.ty fields[i].type<;>simp_all [Ty.isStruct,Ty.size]
     rw [f1,hT.cells f3,hs1,Gy (by omega)]at h1
     obtain⟨ds,q1,q2,q3⟩:=ih n _ _ _ (hd.2 _ (Uy f2)) h1;have hl1:ds.length=1:=by rw [q1.length,hs1]
     obtain⟨d,rfl⟩:=List.length_eq_one_iff.1 hl1;obtain⟨v,hv,hW⟩:=q3 0 d rfl
     refine⟨d,_,f2,q1,v, ?_,hW⟩
     rw [List.getElem?_take]at hv;simp only [Nat.zero_lt_one,if_true,Ms,Nat.add_zero]at hv;exact hv
    let ch:Nat→D:=fun i=>if h:i<fs.length then(hex i h).choose else .undef
    have hch: ∀i,i<fs.length→ ∃f,fs[i]? =some f∧Shp T f [ch i]∧ ∃v,cs[i]? =some v∧W T (eF w) w V0 Hy (ch i) v (fun _=>False):=by
     intro i hi;have:=(hex i hi).choose_spec
     simp only [ch,hi,dif_pos];exact this
    have hget: ∀(i:Nat) (d:D),((an fs.length).map ch)[i]? =some d→i<fs.length∧d=ch i:=by
     intro i d hi;rw [MC,Cf]at hi;obtain⟨q,hq,rfl⟩:=hi;obtain⟨hq1,hq2⟩:=ES.1 hq;simp only [WW]at hq2;subst hq2
     exact⟨by simpa using hq1,rfl⟩
    refine⟨(an fs.length).map ch,.struct ht (by simp) (fun i f d hf hi=> ?_),by simp;omega,fun i d hi=> ?_⟩
    ·obtain⟨h1,rfl⟩:=hget i d hi;obtain⟨f',hf',hs,_⟩:=hch i h1;rw [hf]at hf';injection hf' with hf';subst hf';exact hs
    ·obtain⟨h1,rfl⟩:=hget i d hi;obtain⟨f',hf',hs,v,hv,hW⟩:=hch i h1
     exact⟨v,hv,hW⟩
   all_goals (cases hd)
def top(T:Tys)(t:ab)(ds:List D):D:=if T.isStruct t then .agg ds else ds.headD .undef
def Arg(T:Tys)(t:ab)(d:D):Prop:= ∃ds,Shp T t ds∧d=top T t ds
theorem A30(hT:BZ P T){r:Reach}{base n:Nat}{t:ab}{v:Value}{d0:DataW H}{ps:List MemPlace}(hd:Pf T n t=true)(hv:Value.okWide P w r base t v)(h:DataW.Trod enc P w 0 spare ik t v d0 ps):
  ∃d,Arg T t d∧W T (eF w) w V0 Hy d v (fun _=>False):=by
 obtain⟨fuel,hf⟩:=h;obtain⟨ds,q1,q2,q3⟩:=l6 hT fuel n t _ _ hd hf;have hfact:=(hT t).1;unfold F4 at hfact
 have flat:T.isStruct t=false→v.cells.toList=[v]→ ∃d,Arg T t d∧W T (eF w) w V0 Hy d v (fun _=>False):=by
  intro hs hc;have hl:ds.length=1:=by rw [←q2,hc];rfl
  obtain⟨d,rfl⟩:=List.length_eq_one_iff.1 hl;obtain⟨v',hv',hW⟩:=q3 0 d rfl;rw [hc]at hv';simp only [OH,al]at hv';subst hv'
  exact⟨d,⟨[d],q1,by simp [top,hs]⟩,hW⟩
 cases n with
 |zero=>cases hd
 |succ n=>
  unfold Pf at hd
  cases ht:T.ty t<;>rw [ht]at hfact hd<;>simp only at hfact hd
  case int k=>
   refine flat (by simp [Tys.isStruct,ht,Ty.isStruct]) ?_
   simp only [Value.okWide,hfact.1,Cell.okWide]at hv
   cases v<;>simp_all [Cell.ok,Value.cells]
  case bool=>
   refine flat (by simp [Tys.isStruct,ht,Ty.isStruct]) ?_
   simp only [Value.okWide,hfact.1,Cell.okWide]at hv
   cases v<;>simp_all [Cell.ok,Value.cells]
  case string=>
   refine flat (by simp [Tys.isStruct,ht,Ty.isStruct]) ?_
   simp only [Value.okWide,hfact.1,Cell.okWide]at hv
   cases v<;>simp_all [Cell.ok,Value.cells]
  case slice e=>
   refine flat (by simp [Tys.isStruct,ht,Ty.isStruct]) ?_
   simp only [Value.okWide,hfact.1,Cell.okWide]at hv
   cases v<;>simp_all [Cell.ok,Value.cells]
  case struct fs=>
   obtain⟨⟨fields,hu,_⟩,_⟩:=hfact;obtain⟨cs,rfl,hcs⟩:=WideShapes.okWide_struct hu hv
   have hval: ∀(i:Nat) (d:D),ds[i]? =some d→cs[i]? =some (cs.getD i undef)∧W T (eF w) w V0 Hy d (cs.getD i undef) (fun _=>False):=by
    intro i d hi;obtain⟨v,hv',hW⟩:=q3 i d hi;have:cs[i]? =some v:=by simpa [Value.cells] using hv'
    rw [MB,this];exact⟨rfl,hW⟩
   refine⟨.agg ds,⟨ds,q1,by simp [top,Tys.isStruct,ht,Ty.isStruct]⟩,.agg (fun i=>cs.getD i undef) (fun _ _=>False) (by simpa [Value.cells] using q2) (fun i x hi=>(hval i x hi).1) (fun k=>⟨fun h=>h.elim,fun⟨_,_,h⟩=>h⟩) (fun _ _ _ _ _ _ h=>h.elim) (fun i x hi=>(hval i x hi).2)⟩
  all_goals (cases hd)
end
def A0F(T:Tys):List ab→List D→Prop
 | [],[]=>True
 |t::ts,d::ds=>Arg T t d∧A0F T ts ds
 |_,_=>False
theorem args_W{P:Program}{T:Tys}{H:Type}{enc:ab×Value→H}{w:World}{r:Reach}{base n:Nat}(hT:BZ P T): ∀(ts:List ab) (vs:List Value) (d0:List (DataW H)) (ps:List MemPlace),ts.all (Pf T n)=true→
  (∀(j:Nat) (t:ab) (v:Value),ts[j]? =some t→vs[j]? =some v→Value.okWide P w r base t v)→DataW.TrodAll enc P w 0 (fun _=>true) true ts vs d0 ps→
  ∃ds,A0F T ts ds∧vs.length=ds.length∧ ∀(i:Nat) (d:D),ds[i]? =some d→ ∃v,vs[i]? =some v∧W T (eF w) w V0 Hy d v (fun _=>False):=by
 intro ts
 induction ts with
 |nil=>
  intro vs d0 ps _ _ h
  cases vs<;>cases d0<;>simp [DataW.TrodAll]at h
  exact⟨[],trivial,rfl,by simp⟩
 |cons t ts ih=>
  intro vs d0 ps hd hv h
  cases vs with
  |nil=>cases d0<;>simp [DataW.TrodAll]at h
  |cons v vs=>
   cases d0 with
   |nil=>simp [DataW.TrodAll]at h
   |cons d0 ds0=>
    simp only [DataW.TrodAll]at h;obtain⟨p,q,h1,h2,_⟩:=h;simp only [QI,FM]at hd;obtain⟨d,ha,hW⟩:=A30 hT hd.1 (hv 0 t v rfl rfl) h1;obtain⟨ds,hb,hl,hWs⟩:=ih vs ds0 q hd.2 (fun j t' v' hj hj'=>hv (j+1) t' v' (by simpa using hj) (by simpa using hj')) h2
    refine⟨d::ds,⟨ha,hb⟩,by simp [hl],fun i x hi=> ?_⟩
    cases i with
    |zero=>simp at hi;subst hi;exact⟨v,rfl,hW⟩
    |succ i=>simpa using hWs i x (by simpa using hi)
theorem law_calls{Y:Sys}(hY:Y.Ok){f:am}{ds:List D}(hc:Y.call f ds []=some (.bool true,[])){vs:Array Value}{w:World}(hl:vs.size=ds.length)
  (hW: ∀(i:Nat) (d:D),ds[i]? =some d→ ∃v,vs[i]? =some v∧W Y.T (eF w) w V0 Hy d v (fun _=>False)):
  Calls Y.P f vs w fun e w'=>e= .returned (.bool true)∧RowKit.Below w.heap.size w w':=by
 have hg:=Sys.call_good hY hc;refine Calls.mono (hg.2 vs (fun _=>undef) w (eF w) (fun _ _=>False) hl (fun i d hi=> ?_) (fun j d hj=>by simp at hj) (fun _ _ _ h=>h) (fun _ _ _ _ h=>h.elim) (fun _ h=>h)) ?_
 ·obtain⟨v,hv,hWv⟩:=hW i d hi
  exact⟨v,hv,hWv.up⟩
 ·intro e w' he
  cases e with
  |returned v=>
   obtain⟨S',F,FL',h1,_,_,_,hst,_,_⟩:=he
   cases h1 with
   |bool=>exact⟨rfl,hst.os,hst.tape,hst.output,hst.size,fun k hk=>hst.heap k hk (fun _ h=>h)⟩
  |panicked=>exact he.elim
  |outgrown=>exact he.elim
theorem trodAll_below{H:Type}{enc:ab×Value→H}{P:Program}(hl:laidOutB P=true){W W':World}(hb:RowKit.Below W.heap.size W W'): ∀ {ts:List ab} {vs:List Value} {ds:List (DataW H)} {ps:List MemPlace},
  ts.all (fun t=>P.readableRec t&&decide (t<P.types.size))=true→DataW.TrodAll enc P W 0 (fun _=>true) true ts vs ds ps→DataW.TrodAll enc P W' 0 (fun b=>decide (b<W.heap.size)) true ts vs ds ps:=by
 intro ts
 induction ts with
 |nil=>
  intro vs ds ps _ h
  cases vs<;>cases ds<;>simp [DataW.TrodAll]at h ⊢
  exact h
 |cons t ts ih=>
  intro vs ds ps hr h
  cases vs with
  |nil=>cases ds<;>simp [DataW.TrodAll]at h
  |cons v vs=>
   cases ds with
   |nil=>simp [DataW.TrodAll]at h
   |cons d ds=>
    simp only [DataW.TrodAll]at h ⊢;obtain⟨p,q,h1,h2,h3⟩:=h;simp only [QI,FM,decide_eq_true_eq]at hr;have lt0: ∀x∈p,x.block<W.heap.size:=by obtain⟨m,hm⟩:=h1;exact DataW.trod_lt m _ _ _ hm
    exact⟨p,q,RowKit.Below.trod hl hr.1.1 hr.1.2 h1 hb lt0,ih (by simpa using hr.2) h2,h3⟩
end Dv
namespace Dv
open Go
theorem nr{α:Type}{a b:α}(h:a=b):a=b:=h
structure SOp where
 dst:Option Tmp
 op:Op
 type:ab
 guard:Option (Option Tmp×Bool)
structure PmL where
 n:List Nat
 r:List Nat
 w:List Nat
def PmL.pm(l:PmL):Pm:=⟨fun r=>l.n.contains r|| !l.r.contains r,fun r=>l.w.contains r⟩
inductive SC where
 |skip
 |ops (l:List SOp)
 |draws (l:List (PmL×SOp))
 |seq (a b:SC)
 |cond (c:ac) (a b:SC)
 |block (id:Nat) (c:SC)
 |loop (c:SC)
 |exit (id:Nat)
 |ret
 |bad
abbrev tK(u:Nat):ac:= .tmp u
abbrev iK(n:Int):ac:= .const (.int .i64 n)
abbrev oX(d:Nat)(p:Op)(y:ab):SOp:=⟨some d,p,y,none⟩
abbrev oM(d u:Nat)(y:ab):SOp:=⟨some d,.move (.tmp u),y,none⟩
abbrev oA(d u:Nat)(y:ab):SOp:=⟨some d,.assign (.tmp u),y,none⟩
abbrev oL(d:Nat)(t:ab)(u:Nat)(y:ab):SOp:=⟨some d,.load t (.tmp u),y,none⟩
abbrev oI(d:Nat)(t:ab)(u v:Nat):SOp:=⟨some d,.indexAddr t (.tmp u) (.tmp v),0,none⟩
abbrev oN(d u:Nat)(t:ab):SOp:=⟨some d,.call ⟨.builtin .len, #[.tmp u], #[t]⟩,3,none⟩
abbrev oC(d f:Nat)(a:List ac)(t:List ab)(y:ab):SOp:=⟨some d,.call ⟨.value (.func f),a.toArray,t.toArray⟩,y,none⟩
abbrev oS(t:ab)(a u:Nat):SOp:=⟨none,.store t (.tmp a) (.tmp u),0,none⟩
abbrev oF(d:Nat)(t:ab)(u i:Nat):SOp:=⟨some d,.fieldAddr t (.tmp u) i,0,none⟩
abbrev oE(d u i:Nat)(y:ab):SOp:=⟨some d,.extract (.tmp u) i,y,none⟩
abbrev oB(d:Nat)(o:BinOp)(t:ab)(a b:ac)(r y:ab):SOp:=⟨some d,.binOp o t a b r,y,none⟩
def Oj(ops:Array Oper)(o:Oper):SOp:=⟨o.dst,o.op,o.type,match o.guard with|none=>none|some (j,b)=>some ((ops[j]?).bind (·.dst),b)⟩
def Ba(lends:am→Bool):Code→SC
 | .skip=> .skip
 | .region _ ops draw=>
  if draw then
   (if NM lends ops.toList then .draws (ops.toList.map fun o=>(⟨FJ ops.toList o,ops.toList.flatMap (EK lends ops.toList),EK lends ops.toList o⟩,Oj ops (Sc lends ops.toList o)))else .bad)
  else .ops (ops.toList.map fun o=>Oj ops (tag lends ops.toList o))
 | .seq a b=> .seq (Ba lends a) (Ba lends b)
 | .cond c a b=> .cond c (Ba lends a) (Ba lends b)
 | .block id c=> .block id (Ba lends c)
 | .loop c=> .loop (Ba lends c)
 | .exit id=> .exit id
 | .ret=> .ret
 |_=> .bad
def KO(E:Env)(pm:Pm)(s:St)(dst:Option Tmp)(op:Op)(type:ab):Option St:=ol E pm s ⟨dst,op,type, "", #[],none⟩
def OY(E:Env)(pm:Pm)(s:St)(o:SOp):Option St:=
 match o.guard with
 |none=>KO E pm s o.dst o.op o.type
 |some (none,_)=>some (s.putO o.dst (.konst undef))
 |some (some t,b)=>
  match s.v t with
  | .bool b'=>if b'==b then KO E pm s o.dst o.op o.type else some (s.putO o.dst (.konst undef))
  | .konst (.tuple _)=>some (s.putO o.dst (.konst undef))
  |_=>none
def l7(E:Env):List SOp→St→Option St
 | [],s=>some s
 |o::l,s=>(OY E Pm.all s o).bind fun s'=>l7 E l s'
def Ka(pm:Pm)(s:St)(op:Op):Bool:=
 match op with
 | .move (.tmp u)=> !(s.v u).hasObj||(s.v u).isObj||pm.wr u
 |_=>true
def Z5(E:Env):List (PmL×SOp)→St→Option St
 | [],s=>some s
 |(p,o)::l,s=>if Ka p.pm s o.op then(OY E p.pm s o).bind fun s'=>Z5 E l s' else none
noncomputable def E8(E:Env):SC→St→Option (Ex×St)
 | .skip,s=>some (.normal,s)
 | .ops l,s=>(l7 E l s).map fun s'=>(.normal,s')
 | .draws l,s=>(Z5 E l s).map fun s'=>(.normal,s')
 | .seq a b,s=>
  match E8 E a s with
  |some (.normal,s')=>E8 E b s'
  |r=>r
 | .cond c a b,s=>
  match ev E.T s 0 c with
  |some (.bool t)=>if t then E8 E a s else E8 E b s
  |_=>none
 | .block id c,s=>
  match E8 E c s with
  |some (.exit j,s')=>if j=id then some (.normal,s')else some (.exit j,s')
  |r=>r
 | .loop c,s=>Sd (E8 E c) s
 | .exit id,s=>some (.exit id,s)
 | .ret,s=>some (.ret,s)
 | .bad,_=>none
theorem Z6(E:Env)(ops:Array Oper)(pm:Pm)(s:St)(o:Oper):OY E pm s (Oj ops o)=Iy E ops pm s o:=by
 obtain⟨dst,op,type,pos,after,guard⟩:=o;unfold OY Iy Le Oj
 cases guard with
 |none=>rfl
 |some g=>
  obtain⟨j,b⟩:=g;simp only
  cases (ops[j]?).bind (·.dst)with
  |none=>rfl
  |some t=>
   simp only
   cases hv:s.v t with
   |bool b'=>simp only;cases hb:(b'==b)<;>simp<;>rfl
   |konst v=>cases v<;>rfl
   |_=>rfl
theorem qA(E:Env)(ops:Array Oper): ∀(l:List Oper) (s:St),l7 E (l.map fun o=>Oj ops (tag E.lends ops.toList o)) s=V9 E ops s l:=by
 intro l
 induction l with
 |nil=>intro s;rfl
 |cons o l ih=>
  intro s;simp only [PD,l7,V9,Z6]
  cases Iy E ops Pm.all s (tag E.lends ops.toList o)with
  |none=>rfl
  |some s'=>simp only [Ce];exact ih s'
theorem l8(E:Env)(ops:Array Oper)(l0:List Oper): ∀(l:List Oper) (s:St),
  Z5 E (l.map fun o=>(⟨FJ l0 o,l0.flatMap (EK E.lends l0),EK E.lends l0 o⟩,Oj ops (Sc E.lends ops.toList o))) s=OU E ops l0 s l:=by
 intro l
 induction l with
 |nil=>intro s;rfl
 |cons o l ih=>
  intro s;simp only [PD,Z5,OU,Z6];have h1:(PmL.mk (FJ l0 o) (l0.flatMap (EK E.lends l0)) (EK E.lends l0 o)).pm=IE E.lends l0 o:=nr rfl;have h2:Ka (IE E.lends l0 o) s (Oj ops (Sc E.lends ops.toList o)).op=aJ (IE E.lends l0 o) s o:=nr rfl;rw [h1,h2];split
  ·cases Iy E ops (IE E.lends l0 o) s (Sc E.lends ops.toList o)with
   |none=>rfl
   |some s'=>simp only [Ce];exact ih s'
  ·rfl
theorem l9(E:Env): ∀(c:Code),E8 E (Ba E.lends c)=Dz E c:=by
 intro c
 induction c with
 |skip=>rfl
 |region id ops draw=>
  funext s
  simp only [Ba,Dz]
  cases draw with
  |true=>
   simp only [if_true];split
   ·simp only [E8];rw [l8]
   ·rfl
  |false=>simp only [JF,if_false,E8];rw [qA]
 |seq a b iha ihb=>funext s;simp only [Ba,E8,Dz,iha,ihb];rfl
 |cond x a b iha ihb=>funext s;simp only [Ba,E8,Dz,iha,ihb];rfl
 |block id c ih=>funext s;simp only [Ba,E8,Dz,ih];rfl
 |loop c ih=>funext s;simp only [Ba,E8,Dz,ih]
 |exit id=>rfl
 |ret=>rfl
 |rangeFunc=>rfl
 |scope=>rfl
 |label=>rfl
 |goto=>rfl
 |refuse=>rfl
def C8(E:Env)(c:SC)(Q:Ex→St→Prop)(s:St):Prop:= ∃ex s',E8 E c s=some (ex,s')∧Q ex s'
section
variable {E:Env} {Q:Ex→St→Prop} {s:St}
def Z7(E:Env)(b:SC)(Q:Ex→St→Prop):Ex→St→Prop
 | .normal,s=>C8 E b Q s
 |ex,s=>Q ex s
def inBlock(id:Nat)(Q:Ex→St→Prop):Ex→St→Prop
 | .exit j,s=>if j=id then Q .normal s else Q (.exit j) s
 |ex,s=>Q ex s
theorem A0G{a b:SC}(h:C8 E a (Z7 E b Q) s):C8 E (.seq a b) Q s:=by
 obtain⟨ex,s1,h1,h2⟩:=h
 cases ex with
 |normal=>
  obtain⟨ex',s2,h3,h4⟩:=h2
  exact⟨ex',s2,by simp [E8,h1,h3],h4⟩
 |exit id=>exact⟨_,s1,by simp [E8,h1],h2⟩
 |ret=>exact⟨_,s1,by simp [E8,h1],h2⟩
theorem lC{id:Nat}{c:SC}(h:C8 E c (inBlock id Q) s):C8 E (.block id c) Q s:=by
 obtain⟨ex,s1,h1,h2⟩:=h
 cases ex with
 |normal=>exact⟨_,s1,by simp [E8,h1],h2⟩
 |exit j=>
  simp only [inBlock]at h2;by_cases hj:j=id
  ·subst hj;rw [if_pos rfl]at h2;exact⟨.normal,s1,by simp [E8,h1],h2⟩
  ·rw [if_neg hj]at h2;exact⟨_,s1,by simp [E8,h1,hj],h2⟩
 |ret=>exact⟨_,s1,by simp [E8,h1],h2⟩
theorem BF{c:SC}{Q':Ex→St→Prop}(h:C8 E c Q s)(hq: ∀ex s,Q ex s→Q' ex s):C8 E c Q' s:=by
 obtain⟨ex,s1,h1,h2⟩:=h;exact⟨ex,s1,h1,hq _ _ h2⟩
end
def Fa(T:Tys)(n:Nat)(rs:List ResultVar)(r:D×List D):Ex→St→Prop
 | .normal,s=>Wj T n rs s=some r
 | .ret,s=>Wj T n rs s=some r
 | .exit _,_=>False
theorem Sys.call_wp{Y:Sys}{f:am}{fn:Func}{c:Code}{k:SC}{a l:List D}{r:D×List D}(hb:Y.base f a l=none)(hf:Y.P.funcs[f]? =some fn)(hok:Bz fn a.length=true)
  (hbody:fn.body=some c)(hk:Ba Y.lends c=k)(h:C8 Y.env k (Fa Y.T l.length fn.results.toList r) (entry a l)):Y.call f a l=some r:=by
 refine Sys.call_run hb hf hok ?_;obtain⟨ex,s1,h1,h2⟩:=h;unfold YM;rw [←hk]at h1;have h3:E8 Y.env (Ba Y.env.lends c)=Dz Y.env c:=l9 Y.env c;have h4:Dz Y.env c (entry a l)=some (ex,s1):=by rw [←h3];exact h1
 rw [hbody];simp only [h4]
 cases ex with
 |normal=>exact h2
 |ret=>exact h2
 |exit id=>exact h2.elim
section
variable (E:Env) (pm:Pm) (s:St) (dst:Option Tmp) (ty:ab)
theorem bM(op:Op):OY E pm s ⟨dst,op,ty,none⟩=KO E pm s dst op ty:=nr rfl
def grd(E:Env)(pm:Pm)(s:St)(dst:Option Tmp)(op:Op)(ty:ab)(b:Bool)(d:D):Option St:=
 match d with
 | .bool b'=>if b'==b then KO E pm s dst op ty else some (s.putO dst (.konst undef))
 | .konst (.tuple _)=>some (s.putO dst (.konst undef))
 |_=>none
theorem Z8(op:Op)(t:Tmp)(b:Bool):OY E pm s ⟨dst,op,ty,some (some t,b)⟩=grd E pm s dst op ty b (s.v t):=nr rfl
theorem AA3(op:Op)(b':Bool):grd E pm s dst op ty true (.bool b')=if b'=true then KO E pm s dst op ty else some (s.putO dst (.konst undef)):=by cases b'<;>rfl
theorem AA4(op:Op)(b':Bool):grd E pm s dst op ty false (.bool b')=if b'=true then some (s.putO dst (.konst undef))else KO E pm s dst op ty:=by cases b'<;>rfl
theorem AA5(op:Op)(b:Bool):grd E pm s dst op ty b (.konst undef)=some (s.putO dst (.konst undef)):=nr rfl
def pk(s:St)(dst:Option Tmp)(c a b:Option D):Option St:=
 match c,a,b with
 |some (.bool t),some x,some y=>if(if t then x else y).hasObj then none else some (s.putO dst (if t then x else y))
 |_,_,_=>none
theorem lD(c a b:ac):KO E pm s dst (.pick c a b) ty=pk s dst (ev E.T s ty c) (ev E.T s ty a) (ev E.T s ty b):=nr rfl
theorem pkT(x y:D)(h:x.hasObj=false):pk s dst (some (.bool true)) (some x) (some y)=some (s.putO dst x):=by simp [pk,h]
theorem pkF(x y:D)(h:y.hasObj=false):pk s dst (some (.bool false)) (some x) (some y)=some (s.putO dst y):=by simp [pk,h]
theorem pkB(t p q:Bool):pk s dst (some (.bool t)) (some (.bool p)) (some (.bool q))=some (s.putO dst (.bool (if t then p else q))):=by cases t<;>rfl
theorem hoB(b:Bool):(D.bool b).hasObj=false:=by simp [D.hasObj]
theorem hoI(k:IntKind)(n:Int):(D.int k n).hasObj=false:=by simp [D.hasObj]
theorem hoS(b:ByteArray):(D.str b).hasObj=false:=by simp [D.hasObj]
theorem il(t:ab):KO E pm s dst (.alloc t) ty=if E.T.known t then some (s.putO dst (.box (E.T.zeros t)))else none:=nr rfl
theorem qB(t:ab)(x:ac):KO E pm s dst (.box t x) ty=if ty=900003 then(NJ E.T pm s dst t x).bind fun s1=>Eo pm s1 dst else NJ E.T pm s dst t x:=nr rfl
theorem lF(t:ab)(x:ac):NJ E.T pm s dst t x=match SY (ev E.T s t x)with
  |some ds=>if E.T.isStruct t then some (s.putO dst (.box ds))else none
  |none=>
   match take E.T pm s t x with
   |some (d,s1)=>if E.T.isStruct t==d.isAgg then some (s1.putO dst (.box d.asCells))else none
   |none=>none:=nr rfl
theorem iq(t:ab)(parts:Array (Nat×ac)):KO E pm s dst (.build t parts) ty=match E.T.nest t with
  |some fl=>if E.T.isStruct t&&E.T.known t then(Ih E.T pm fl s (E.T.zeros t) parts.toList).map fun r=>r.2.putO dst (.agg r.1)else none
  |none=>match E.T.ty t with
   | .struct fs=>if E.T.known t then(Fg E.T pm (fun i=>fs.getD i 0) 1 s (E.T.zeros t) parts.toList).map fun r=>r.2.putO dst (.agg r.1)else none
   |_=>none:=nr rfl
theorem TY(t:ab)(len:Nat)(parts:Array (Nat×ac)):KO E pm s dst (.buildSlice t len parts) ty=if ty=900004 then(Sa E.T pm s dst t len parts).bind fun s1=>NI pm s1 dst else Sa E.T pm s dst t len parts:=nr rfl
def stF(pm:Pm)(a:ac):Option St→Option St
 |some s1=>Eo pm s1 (Sb a)
 |none=>none
theorem lG(a:ac)(o:Option St):stF pm a o=o.bind fun s1=>Eo pm s1 (Sb a):=by cases o<;>rfl
theorem iw(t:ab)(a x:ac):KO E pm s none (.store t a x) ty=if ty=900007 then G9 E.T pm t a (KS E.T pm s t x)else if ty=900010 then SS E.T pm s t a x else if ty=900011 then stF pm a (Iu E.T pm s t a x)else Iu E.T pm s t a x:=by
 rw [lG];rfl
def JV(s:St)(dst:Option Tmp):Option D→Option St
 |some r=>some (s.putO dst r)
 |none=>none
theorem A31(r:D):JV s dst (some r)=some (s.putO dst r):=nr rfl
def XD(dst:Option Tmp):Option (D×St)→Option St
 |some r=>some (r.2.putO dst r.1)
 |none=>none
theorem A32(r:D)(s:St):XD dst (some (r,s))=some (s.putO dst r):=nr rfl
def VJ(T:Tys)(s:St)(dst:Option Tmp)(op:BinOp)(t:ab):Option D→Option D→Option St
 |some a,some b=>if MH T t a then JV s dst (Fq op a b)else none
 |_,_=>none
theorem A33(T:Tys)(op:BinOp)(t:ab)(a b:D):VJ T s dst op t (some a) (some b)=if MH T t a then JV s dst (Fq op a b)else none:=nr rfl
def fzB(pm:Pm)(dst:Option Tmp)(u:Tmp):Option St→Option St
 |some s1=>YJ pm s1 dst u
 |none=>none
theorem A0H(op:BinOp)(t:ab)(x y:ac)(t':ab):KO E pm s dst (.binOp op t x y t') ty=if ty<2000000 then HZ E.T pm s dst op t x y else fzB pm dst (ty-2000000) (HZ E.T pm s dst op t x y):=by
 show(if ty<2000000 then HZ E.T pm s dst op t x y else(HZ E.T pm s dst op t x y).bind fun s1=>YJ pm s1 dst (ty-2000000))=_
 cases HZ E.T pm s dst op t x y<;>rfl
theorem Rp(op:BinOp)(t:ab)(x y:ac)(hq:YI E.T op t y=none):HZ E.T pm s dst op t x y=VJ E.T s dst op t (ev E.T s t x) (ev E.T s t y):=by
 unfold HZ;rw [hq];simp only
 cases ev E.T s t x<;>cases ev E.T s t y<;>simp only [VJ]
 rename_i a b
 cases Fq op a b<;>rfl
theorem AA6(op:BinOp)(t:ab)(x:ac)(u:Tmp)(t':ab):KO E pm s dst (.binOp op t x (.tmp u) t') ty=if ty<2000000 then VJ E.T s dst op t (ev E.T s t x) (some (s.v u))else fzB pm dst (ty-2000000) (VJ E.T s dst op t (ev E.T s t x) (some (s.v u))):=by
 rw [A0H,Rp E pm s dst op t x (.tmp u) rfl];rfl
theorem AA7(op:BinOp)(t:ab)(x:ac)(k:IntKind)(n:Int)(t':ab):KO E pm s dst (.binOp op t x (.const (.int k n)) t') ty=if ty<2000000 then VJ E.T s dst op t (ev E.T s t x) (some (.int k n))else fzB pm dst (ty-2000000) (VJ E.T s dst op t (ev E.T s t x) (some (.int k n))):=by
 rw [A0H,Rp E pm s dst op t x _ rfl];rfl
def bN(s:St)(dst:Option Tmp)(q:Bool):Option Bool→Option St
 |some b=>some (s.putO dst (.bool (b==q)))
 |none=>none
theorem A34(b:Bool):bN s dst true (some b)=some (s.putO dst (.bool b)):=by cases b<;>rfl
theorem A35(b:Bool):bN s dst false (some b)=some (s.putO dst (.bool (!b))):=by cases b<;>rfl
def tL(op:BinOp)(s:St)(dst:Option Tmp)(r:Option Bool)(o:Option St):Ty→Option St
 | .slice _=>match op with| .eql=>bN s dst true r| .neq=>bN s dst false r|_=>o
 |_=>o
theorem AA8(r:Option Bool)(o:Option St)(e:ab):tL .eql s dst r o (.slice e)=bN s dst true r:=nr rfl
theorem AA9(r:Option Bool)(o:Option St)(e:ab):tL .neq s dst r o (.slice e)=bN s dst false r:=nr rfl
theorem qC(op:BinOp)(t:ab)(u:Tmp):HZ E.T pm s dst op t (.tmp u) (.const (.slice none 0 0))=tL op s dst (PG pm s (s.v u)) (VJ E.T s dst op t (some (s.v u)) (ev E.T s t (.const (.slice none 0 0)))) (E.T.ty t):=by
 have key: ∀q,YI E.T op t (.const (.slice none 0 0))=some q→HZ E.T pm s dst op t (.tmp u) (.const (.slice none 0 0))=bN s dst q (PG pm s (s.v u)):=by
  intro q hq;unfold HZ;rw [hq];simp only [ev,Ce]
  cases PG pm s (s.v u)<;>rfl
 cases ht:E.T.ty t with
 |slice e=>
  cases op<;>first
   |(simp only [tL];exact key true (by simp [YI,ht]))
   |(simp only [tL];exact key false (by simp [YI,ht]))
   |(simp only [tL];exact Rp E pm s dst _ t _ _ (by simp [YI,ht]))
 |_=>exact Rp E pm s dst _ t _ _ (by simp [YI,ht])
theorem A0I(op:BinOp)(t:ab)(u:Tmp)(t':ab):KO E pm s dst (.binOp op t (.tmp u) (.const (.slice none 0 0)) t') ty=if ty<2000000 then tL op s dst (PG pm s (s.v u)) (VJ E.T s dst op t (some (s.v u)) (ev E.T s t (.const (.slice none 0 0)))) (E.T.ty t)
  else fzB pm dst (ty-2000000) (tL op s dst (PG pm s (s.v u)) (VJ E.T s dst op t (some (s.v u)) (ev E.T s t (.const (.slice none 0 0)))) (E.T.ty t)):=by
 rw [A0H,qC]
theorem AAA(e:ab)(x:D)(xs:List D):PG pm s (.sl e (x::xs))=some false:=nr rfl
theorem ndK(A:Option Addr)(n c:Nat):PG pm s (.konst (.slice A n c))=some A.isNone:=nr rfl
theorem Z9(src d:ab)(x:ac):KO E pm s dst (.convert src d x) ty=if E.T.known src then
   match ev E.T s src x,E.T.ty d with
   |some (.int _ n),.int k=>some (s.putO dst (.int k (k.wrap n)))
   |some (.str b),.string=>some (s.putO dst (.str b))
   |_,_=>none
  else none:=nr rfl
theorem XE(f:am)(first captured:Array ac):KO E pm s dst (.makeFunc (.func f) first captured) ty=if ty<3000000 then(if first.isEmpty then(LY pm s captured.toList).map fun r=>r.2.putO dst (.clo f r.1)else none)
  else(if first.isEmpty then(We pm s (ty-3000000) captured.toList).map fun r=>r.2.putO dst (.ocl false f r.1)else none):=nr rfl
theorem VK(t:ab)(l c:ac):KO E pm s dst (.makeSlice t l c) ty=if ty=900012 then(V8 E.T s dst t l c).bind fun s1=>NI pm s1 dst else V8 E.T s dst t l c:=nr rfl
theorem XF(x:ac):KO E pm s dst (.nilCheck x) ty=(ev E.T s ty x).bind fun d=>
   match d with
   | .box _=>some (CW s dst x d)
   | .vw L n m=>match s.look pm L n m with|some (.box _)=>some (CW s dst x d)|_=>none
   | .pe L _ n m=>match s.look pm L n m with|some _=>some (CW s dst x d)|none=>none
   | .cptr _=>some (CW s dst x d)
   | .clo _ _=>some (CW s dst x d)
   | .ocl false _ _=>some (CW s dst x d)
   |_=>none:=nr rfl
theorem bP(x y:ac)(t t':ab):KO E pm s dst (.call ⟨.builtin .append, #[x,y], #[t,t']⟩) ty=if t=t' then(if isZ (ev E.T s t y)then KU E.T pm s t x else GA E.T pm s t x y).map fun r=>r.2.putO dst r.1 else none:=nr rfl
theorem lH(f:am)(args:Array ac)(ts:Array ab):KO E pm s dst (.call ⟨.value (.func f),args,ts⟩) ty=if args.size=ts.size then(if ty=900014 then(Fh E pm s dst f (args.toList.zip (NL ty ts.toList)) []).bind fun s1=>Eo pm s1 dst else Fh E pm s dst f (args.toList.zip (NL ty ts.toList)) [])else none:=nr rfl
theorem iy(u:Tmp)(args:Array ac)(ts:Array ab):KO E pm s dst (.call ⟨.value (.tmp u),args,ts⟩) ty=match s.v u with
   | .clo f caps=>if args.size=ts.size then Fh E pm s dst f (args.toList.zip ts.toList) caps else none
   | .ocl false f caps=>if args.size=ts.size then Mk E pm s dst f (args.toList.zip ts.toList) caps else none
   |_=>none:=nr rfl
end
theorem A0J(T:Tys)(s:St)(t:ab)(u:Tmp):ev T s t (.tmp u)=some (s.v u):=nr rfl
theorem A0K(T:Tys)(s:St)(t:ab)(k:IntKind)(n:Int):ev T s t (.const (.int k n))=some (.int k n):=nr rfl
theorem qD(T:Tys)(s:St)(t:ab)(b:Bool):ev T s t (.const (.bool b))=some (.bool b):=nr rfl
theorem A0L(T:Tys)(s:St)(t:ab):ev T s t (.const (.slice none 0 0))=match T.ty t with| .slice e=>some (.own e [])| .other=>some (.konst (.slice none 0 0))|_=>none:=nr rfl
theorem A36(s:St)(t u:Nat)(d:D):(s.put t d).v u=if u=t then d else s.v u:=by rw [tJ];rfl
theorem A37(s:St)(t u:Nat)(d:D):(s.put t d).k u=if u=t then(if d.hasObj then s.k t+1 else s.k t)else s.k u:=by
 unfold St.put;by_cases h:u=t
 ·subst h;cases hd:d.hasObj<;>simp [Kv]
 ·cases hd:d.hasObj<;>simp [Kv,h]
theorem A38(s:St)(t u:Nat)(d:D):(s.put t d).m u=s.m u:=by unfold St.put;split<;>rfl
theorem A39(s:St)(t u:Nat):(s.clr t).v u=if u=t then .undef else s.v u:=nr rfl
theorem A3A(s:St)(t u:Nat):(s.clr t).k u=s.k u:=nr rfl
theorem A3B(s:St)(t u:Nat):(s.clr t).m u=s.m u:=nr rfl
theorem A0M(s:St)(t u:Nat):(s.bump t).v u=s.v u:=nr rfl
theorem A0N(s:St)(t u:Nat):(s.bump t).k u=s.k u:=nr rfl
theorem A0O(s:St)(t u:Nat):(s.bump t).m u=if u=t then s.m t+1 else s.m u:=nr rfl
theorem A3C(s:St)(t u:Nat)(p:AJ)(d:D):(s.set (t::p) d).v u=if u=t then Gz (s.v t) p d else s.v u:=nr rfl
theorem A3D(s:St)(t u:Nat)(p:AJ)(d:D):(s.set (t::p) d).k u=s.k u:=nr rfl
theorem A3E(s:St)(t u:Nat)(p:AJ)(d:D):(s.set (t::p) d).m u=s.m u:=nr rfl
theorem j3(s:St)(t:Tmp)(d:D):s.putO (some t) d=s.put t d:=nr rfl
theorem j4(s:St)(d:D):s.putO none d=s:=nr rfl
theorem A3F(Y:Sys):Y.env.T=Y.T:=nr rfl
theorem j5(Y:Sys):Y.env.lends=Y.lends:=nr rfl
theorem lI(Y:Sys):Y.env.call=Y.call:=nr rfl
theorem qE(a l:List D)(t:Nat):(entry a l).v t=if t<G then a.getD t .undef else l.getD (t-G) .undef:=nr rfl
theorem qF(a l:List D)(t:Nat):(entry a l).k t=0:=nr rfl
theorem qG(a l:List D)(t:Nat):(entry a l).m t=0:=nr rfl
theorem Lt{r:Ex×St}{Q:Ex→St→Prop}:(∃ex s',some r=some (ex,s')∧Q ex s')=Q r.1 r.2:=
 propext ⟨fun⟨ex,s',h,hq⟩=>by injection h with h;subst h;exact hq,fun h=>⟨r.1,r.2,rfl,h⟩⟩
section
variable (E:Env) (Q:Ex→St→Prop) (s:St)
theorem A3G:C8 E .skip Q s=Q .normal s:=Lt
theorem A3H(id:Nat):C8 E (.exit id) Q s=Q (.exit id) s:=Lt
theorem AAB:C8 E .ret Q s=Q .ret s:=Lt
theorem AAC:C8 E (.ops []) Q s=Q .normal s:=Lt
def nxt(E:Env)(l:List SOp)(Q:Ex→St→Prop):Option St→Prop
 |some s=>C8 E (.ops l) Q s
 |none=>False
theorem AAD(l:List SOp):nxt E l Q (some s)=C8 E (.ops l) Q s:=nr rfl
theorem A3I(o:SOp)(l:List SOp):C8 E (.ops (o::l)) Q s=nxt E l Q (OY E Pm.all s o):=by
 unfold C8;simp only [E8,l7]
 cases OY E Pm.all s o with
 |none=>simp [nxt]
 |some s'=>simp [nxt,C8,E8]
theorem A3J:C8 E (.draws []) Q s=Q .normal s:=Lt
def lJ(E:Env)(l:List (PmL×SOp))(Q:Ex→St→Prop):Bool→Option St→Prop
 |true,some s=>C8 E (.draws l) Q s
 |_,_=>False
theorem A3K(l:List (PmL×SOp)):lJ E l Q true (some s)=C8 E (.draws l) Q s:=nr rfl
theorem A0P(p:PmL)(o:SOp)(l:List (PmL×SOp)):C8 E (.draws ((p,o)::l)) Q s=lJ E l Q (Ka p.pm s o.op) (OY E p.pm s o):=by
 unfold C8;simp only [E8,Z5]
 cases Ka p.pm s o.op with
 |true=>
  cases OY E p.pm s o with
  |none=>simp [lJ]
  |some s'=>simp [lJ,C8,E8]
 |false=>simp [lJ]
theorem AAE(a b:SC):C8 E (.seq a b) Q s=C8 E a (Z7 E b Q) s:=by
 refine propext ⟨fun⟨ex,s1,h1,h2⟩=> ?_,A0G⟩;simp only [E8]at h1
 cases ha:E8 E a s with
 |none=>simp [ha]at h1
 |some q=>
  obtain⟨ex',s2⟩:=q
  cases ex' with
  |normal=>simp only [ha]at h1;exact⟨_,s2,ha,ex,s1,h1,h2⟩
  |exit id=>simp only [ha,al,Prod.mk.injEq]at h1;obtain⟨rfl,rfl⟩:=h1;exact⟨_,s2,ha,h2⟩
  |ret=>simp only [ha,al,Prod.mk.injEq]at h1;obtain⟨rfl,rfl⟩:=h1;exact⟨_,s2,ha,h2⟩
def cnd(E:Env)(a b:SC)(Q:Ex→St→Prop)(s:St):Option D→Prop
 |some (.bool t)=>if t=true then C8 E a Q s else C8 E b Q s
 |_=>False
theorem AAF(a b:SC)(t:Bool):cnd E a b Q s (some (.bool t))=if t=true then C8 E a Q s else C8 E b Q s:=nr rfl
theorem A3M(c:ac)(a b:SC):C8 E (.cond c a b) Q s=cnd E a b Q s (ev E.T s 0 c):=by
 unfold C8;simp only [E8]
 cases ev E.T s 0 c with
 |none=>simp [cnd]
 |some d=>cases d with
  |bool t=>cases t<;>simp [cnd,C8]
  |_=>simp [cnd]
theorem A0Q(id:Nat)(c:SC):C8 E (.block id c) Q s=C8 E c (inBlock id Q) s:=by
 refine propext ⟨fun⟨ex,s1,h1,h2⟩=> ?_,lC⟩;simp only [E8]at h1
 cases ha:E8 E c s with
 |none=>simp [ha]at h1
 |some q=>
  obtain⟨ex',s2⟩:=q
  cases ex' with
  |normal=>simp only [ha,al,Prod.mk.injEq]at h1;obtain⟨rfl,rfl⟩:=h1;exact⟨_,s2,ha,h2⟩
  |exit j=>
   simp only [ha]at h1;by_cases hj:j=id
   ·simp only [hj,if_true,al,Prod.mk.injEq]at h1;obtain⟨rfl,rfl⟩:=h1;exact⟨_,s2,ha,by simpa [inBlock,hj] using h2⟩
   ·simp only [hj,if_false,al,Prod.mk.injEq]at h1;obtain⟨rfl,rfl⟩:=h1;exact⟨_,s2,ha,by simpa [inBlock,hj] using h2⟩
  |ret=>simp only [ha,al,Prod.mk.injEq]at h1;obtain⟨rfl,rfl⟩:=h1;exact⟨_,s2,ha,h2⟩
theorem A0R(b:SC):Z7 E b Q .normal s=C8 E b Q s:=nr rfl
theorem A0S(b:SC)(id:Nat):Z7 E b Q (.exit id) s=Q (.exit id) s:=nr rfl
theorem A0T(b:SC):Z7 E b Q .ret s=Q .ret s:=nr rfl
theorem AAG(id:Nat):inBlock id Q .normal s=Q .normal s:=nr rfl
theorem AAH(id j:Nat):inBlock id Q (.exit j) s=if j=id then Q .normal s else Q (.exit j) s:=nr rfl
theorem AAI(id:Nat):inBlock id Q .ret s=Q .ret s:=nr rfl
theorem A3N(T:Tys)(n:Nat)(rs:List ResultVar)(r:D×List D):Fa T n rs r .ret s=(Wj T n rs s=some r):=nr rfl
end
section
variable (s:St) (dst:Option Tmp) (u:Tmp) (k:IntKind) (n:Int) (b:Bool) (x:ByteArray) (e:ab) (xs:List D) (L:AJ) (i j c:Nat) (v:Value) (f:am)
theorem A3O:CW s dst (.tmp u) (.int k n)=s.putO dst (.int k n):=nr rfl
theorem A0U:CW s dst (.tmp u) (.bool b)=s.putO dst (.bool b):=nr rfl
theorem AAJ:CW s dst (.tmp u) (.sl e xs)=s.putO dst (.sl e xs):=nr rfl
theorem qH:CW s dst (.tmp u) (.konst v)=s.putO dst (.konst v):=nr rfl
theorem A3P:CW s dst (.tmp u) (.own e xs)=s.putO dst (.vw [u] (s.k u) (s.m u)):=nr rfl
theorem AAK(k:ab)(es:List (AL×AL)):CW s dst (.tmp u) (.mp k e es)=s.putO dst (.vw [u] (s.k u) (s.m u)):=nr rfl
theorem AAL:CW s dst (.tmp u) (.vw L i j)=s.putO dst (.vw L i j):=nr rfl
theorem A3Q:CW s dst (.tmp u) (.clo f xs)=s.putO dst (.clo f xs):=nr rfl
theorem A3R:CW s dst (.tmp u) (.tup xs)=if Aj xs then(if Aj (JN s u 0 xs)then(s.clr u).putO dst (.tup xs)else s.putO dst (.tup (JN s u 0 xs)))else s.putO dst (.tup xs):=nr rfl
theorem A3S(i:Nat):JN s u i []=[]:=nr rfl
theorem A0V(i:Nat)(x:D):JN s u i (x::xs)=OT s u i x::JN s u (i+1) xs:=nr rfl
theorem A3T(i:Nat):OT s u i (.int k n)= .int k n:=nr rfl
theorem A3U(i:Nat):OT s u i (.own e xs)= .vw [u,i] (s.k u) (s.m u):=nr rfl
variable (pm:Pm)
theorem A3V:BP pm s dst (.tmp u) (.int k n)=some (s.putO dst (.int k n)):=nr rfl
theorem A0W:BP pm s dst (.tmp u) (.bool b)=some (s.putO dst (.bool b)):=nr rfl
theorem AAM:BP pm s dst (.tmp u) (.sl e xs)=some (s.putO dst (.sl e xs)):=nr rfl
theorem A3W:BP pm s dst (.tmp u) (.own e xs)=some ((s.clr u).putO dst (.own e xs)):=nr rfl
theorem AAN(k:ab)(es:List (AL×AL)):BP pm s dst (.tmp u) (.mp k e es)=some ((s.clr u).putO dst (.mp k e es)):=nr rfl
theorem A3X(r:Nat):BP pm s dst (.tmp u) (.vw [r] i j)=(NF pm s [r] i j).map fun q=>q.2.putO dst q.1:=nr rfl
def asT(_s:St)(dst:Option Tmp)(a:Option (D×St))(b:Option St):Bool→Option St
 |true=>a.map fun q=>q.2.putO dst q.1
 |false=>b
theorem AAO(a:Option (D×St))(b:Option St):asT s dst a b true=a.map fun q=>q.2.putO dst q.1:=nr rfl
theorem A3Y(r r':Nat)(p:AJ):BP pm s dst (.tmp u) (.vw (r::r'::p) i j)=asT s dst (CP pm s (.vw (r::r'::p) i j)) (some (s.putO dst (.vw (r::r'::p) i j))) (isT pm s r):=by
 by_cases h:isT pm s r=true
 ·have h':aH pm s (.vw (r::r'::p) i j)=true:=h;unfold BP;simp only [h',h,if_true];rfl
 ·have h':aH pm s (.vw (r::r'::p) i j)=false:=KR.mpr h;unfold BP;simp only [h',KR.mpr h];rfl
theorem AAP(r:Nat):isT pm s r=(pm.rd r&&A02 (s.v r)):=nr rfl
theorem A3Z:A02 (.tup xs)=true:=nr rfl
theorem A3a:BP pm s dst (.tmp u) (.clo f xs)=some (s.putO dst (.clo f xs)):=nr rfl
end
section
variable (k:IntKind) (x y:Int) (p q:Bool) (a b:ByteArray)
theorem A3b:Fq .add (.int k x) (.int k y)=some (.int k (k.wrap (x+y))):=by simp [Fq]
theorem A3c:Fq .sub (.int k x) (.int k y)=some (.int k (k.wrap (x-y))):=by simp [Fq]
theorem A3d:Fq .mul (.int k x) (.int k y)=some (.int k (k.wrap (x*y))):=by simp [Fq]
theorem A3e(k':IntKind):Fq .shr (.int k x) (.int k' y)=if y<0 then none else some (.int k (x.fdiv (2 ^ (min y.toNat k.bits)))):=by simp [Fq]
theorem AAQ:Fq .eql (.int k x) (.int k y)=some (.bool (decide (x=y))):=by simp [Fq];rfl
theorem AAR:Fq .neq (.int k x) (.int k y)=some (.bool (!decide (x=y))):=by simp [Fq];rfl
theorem AAS:Fq .lss (.int k x) (.int k y)=some (.bool (decide (x<y))):=by simp [Fq]
theorem AAT:Fq .leq (.int k x) (.int k y)=some (.bool (decide (x≤y))):=by simp [Fq]
theorem AAU:Fq .gtr (.int k x) (.int k y)=some (.bool (decide (y<x))):=by simp [Fq]
theorem AAV:Fq .geq (.int k x) (.int k y)=some (.bool (decide (y≤x))):=by simp [Fq]
theorem A3f:Fq .neq (.bool p) (.bool q)=some (.bool (!(p==q))):=nr rfl
theorem A3g:unD .not (.bool p)=some (.bool (!p)):=nr rfl
theorem boI(T:Tys)(t:ab):MH T t (.int k x)=true:=nr rfl
theorem boB(T:Tys)(t:ab):MH T t (.bool p)=match T.ty t with| .bool=>true|_=>false:=nr rfl
theorem boA(T:Tys)(t:ab)(k l:IntKind)(x y:Int):MH T t (.agg [.int k x,.int l y])=dY T k l (T.ty t):=nr rfl
theorem A0X(T:Tys)(k l:IntKind)(a b:ab):dY T k l (.struct [a,b])=(aI k (T.ty a)&&aI l (T.ty b)):=nr rfl
theorem A3h(k:IntKind):aI k (.int k)=true:=by simp [aI]
theorem A3i(k l:IntKind)(a b c d:Int):Fq .neq (.agg [.int k a,.int l b]) (.agg [.int k c,.int l d])=some (.bool (!((a==c)&&(b==d)))):=by simp [Fq]
end
def I5(xs:AL):List D:=xs.map (D.int .i64)
theorem DX(xs:AL):(I5 xs).length=xs.length:=by simp [I5]
end Dv
namespace Dv
open Go
def zB:Value→Value→Bool
 | .int k n,.int k' n'=>decide (k=k')&&decide (n=n')
 | .bool b,.bool b'=>b==b'
 | .string s,.string s'=>s.size==0&&s'.size==0
 | .slice none 0 0,.slice none 0 0=>true
 | .nilFunc,.nilFunc=>true
 | .pointer none,.pointer none=>true
 |_,_=>false
theorem tN{a b:Value}(h:zB a b=true):a=b:=by
 unfold zB at h
 split at h
 ·simp only [FM,decide_eq_true_eq]at h;rw [h.1,h.2]
 ·simp only [beq_iff_eq]at h;rw [h]
 ·simp only [FM,beq_iff_eq]at h
  rename_i s s'
  have: ∀t:ByteArray,t.size=0→t=ByteArray.empty:=by
   intro t ht;obtain⟨d⟩:=t;have:d= #[]:=Array.size_eq_zero_iff.1 ht
   rw [this];rfl
  rw [this s h.1,this s' h.2]
 ·rfl
 ·rfl
 ·rfl
 ·cases h
def zsB:List Value→List Value→Bool
 | [],[]=>true
 |a::as,b::bs=>zB a b&&zsB as bs
 |_,_=>false
theorem lK: ∀ {a b:List Value},zsB a b=true→a=b
 | [],[],_=>rfl
 | [],_::_,h=>by cases h
 |_::_,[],h=>by cases h
 |a::as,b::bs,h=>by
  simp only [zsB,FM]at h;rw [tN h.1,lK h.2]
def OZ(P:Program)(t:ab)(n:Nat)(z:Value):Bool:=
 match P.info? t with
 |some i=>(i.size==n)&&(decide (4<n)||decide (i.bytes≤128))&&(match i.zero,z with|some (.agg a),.agg b=>zsB a.toList b.toList|some v,z=>zB v z|_,_=>false)
 |none=>false
theorem Ji{P:Program}{t:ab}{n:Nat}{z:Value}(h:OZ P t n z=true):LZ P t n z:=by
 unfold OZ at h
 split at h
 ·rename_i i hi
  simp only [FM,NE,beq_iff_eq,decide_eq_true_eq]at h
  refine⟨i,hi,h.1.1, ?_,fun h4=>h.1.2.resolve_left (by omega)⟩
  have h2:=h.2
  split at h2
  ·rename_i a b hz
   rw [hz];have:=lK h2
   rw [←P7 (xs:=a),this]
  ·rename_i v z' hz _
   rw [hz,tN h2]
  ·cases h2
 ·cases h
def XG(P:Program)(T:Tys)(t:ab):Bool:=
 match T.ty t with
 | .int k=>(match P.underlying t with|some (.int k')=>decide (k'=k)|_=>false)&&OZ P t 1 (.int k 0)
 | .bool=>(match P.underlying t with|some .bool=>true|_=>false)&&OZ P t 1 (.bool false)
 | .string=>(match P.underlying t with|some .string=>true|_=>false)&&OZ P t 1 (.string ByteArray.empty)
 | .slice e=>(match P.underlying t with|some (.slice e')=>e'==e|_=>false)&&OZ P t 1 (.slice none 0 0)
 | .struct fs=>(match P.underlying t with
   |some (.struct fields)=>
    match T.nest t with
    |none=>(fields.size==fs.length)&&(an fields.size).all (fun j=>match fields[j]?,fs[j]? with|some f,some g=>(f.offset==j)&&(f.type==g)&&T.known g&& !T.isStruct g|_,_=>false)
    |some fl=>decide (4<fs.length)&&(fields.size==fl.length)&&(an fields.size).all (fun j=>match fields[j]?,fl[j]? with|some f,some g=>(f.offset==g.1)&&(f.type==g.2)&&T.known g.2|_,_=>false)
   |_=>false)&&OZ P t fs.length (.agg (fs.map (Eu T)).toArray)
 | .func=>(match P.underlying t with|some (.func ..)=>true|_=>false)&&OZ P t 1 .nilFunc
 | .ptr=>(match P.underlying t with|some (.pointer _)=>true|_=>false)&&OZ P t 1 (.pointer none)
 | .map k e=>match P.underlying t with|some (.map k' e')=>(k'==k)&&(e'==e)|_=>false
 | .arr n e=>(match P.underlying t with|some (.array n' e')=>(n'==n)&&(e'==e)|_=>false)&&decide (4<n)&&(match T.nest t with|some l=>l==p9 n e|none=>false)&&(match T.ty e with| .int _=>true|_=>false)&&OZ P t n (.agg (ao n (Eu T e)).toArray)
 | .other=>true
theorem bQ{P:Program}{T:Tys}{t:ab}(h:XG P T t=true):F4 P T t:=by
 unfold XG at h;unfold F4
 cases hty:T.ty t<;>rw [hty]at h<;>simp only [FM]at h ⊢
 case int k=>
  refine⟨?_,Ji h.2⟩
  have h1:=h.1
  split at h1
  ·rename_i k' hu;rw [hu];simp only [decide_eq_true_eq]at h1;rw [h1]
  ·cases h1
 case bool=>
  refine⟨?_,Ji h.2⟩
  have h1:=h.1
  split at h1
  ·assumption
  ·cases h1
 case string=>
  refine⟨?_,Ji h.2⟩
  have h1:=h.1
  split at h1
  ·assumption
  ·cases h1
 case map k e=>
  split at h
  ·rename_i k' e' hu;rw [hu];simp only [FM,beq_iff_eq]at h;rw [h.1,h.2]
  ·cases h
 case arr n e=>
  obtain⟨⟨⟨⟨h1,h2⟩,h3⟩,h4⟩,h5⟩:=h
  refine⟨⟨?_,by simpa using h2, ?_, ?_⟩,Ji h5⟩
  ·split at h1
   ·rename_i n' e' hu;rw [hu];simp only [FM,beq_iff_eq]at h1;rw [h1.1,h1.2]
   ·cases h1
  ·split at h3
   ·rename_i l hl;rw [hl];simp only [beq_iff_eq]at h3;rw [h3]
   ·cases h3
  ·split at h4
   ·rename_i k hk;exact⟨k,hk⟩
   ·cases h4
 case slice e=>
  refine⟨?_,Ji h.2⟩
  have h1:=h.1
  split at h1
  ·rename_i k' hu;rw [hu];simp only [beq_iff_eq]at h1;rw [h1]
  ·cases h1
 case struct fs=>
  refine⟨?_,Ji h.2⟩
  have h1:=h.1
  split at h1
  ·rename_i fields hu
   refine⟨fields,hu, ?_⟩
   cases hn:T.nest t with
   |none=>
    simp only [hn,FM,beq_iff_eq,Ir,MF]at h1 ⊢
    refine⟨h1.1,fun j f hf=> ?_⟩
    have hlt:=(Uw.1 hf).1;have:=h1.2 j hlt
    rw [hf]at this
    split at this
    ·rename_i f' g hf' hg
     simp only [al]at hf';subst hf';simp only [FM,beq_iff_eq,Ku]at this;obtain⟨⟨⟨q1,q2⟩,q3⟩,q4⟩:=this;subst q2
     exact⟨q1,hg,q3,q4⟩
    ·cases this
   |some fl=>
    simp only [hn,FM,beq_iff_eq,Ir,MF,decide_eq_true_eq]at h1 ⊢
    refine⟨h1.1.1,h1.1.2,fun j f hf=> ?_⟩
    have hlt:=(Uw.1 hf).1;have:=h1.2 j hlt
    rw [hf]at this
    split at this
    ·rename_i f' g hf' hg
     simp only [al]at hf';subst hf';simp only [FM,beq_iff_eq]at this;obtain⟨⟨q1,q2⟩,q3⟩:=this
     refine⟨?_,by rw [q2];exact q3⟩
     rw [hg,q1,q2]
    ·cases this
  ·cases h1
 case func=>
  refine⟨?_,Ji h.2⟩
  have h1:=h.1
  split at h1
  ·exact⟨_,_,_,by assumption⟩
  ·cases h1
 case ptr=>
  refine⟨?_,Ji h.2⟩
  have h1:=h.1
  split at h1
  ·exact⟨_,by assumption⟩
  ·cases h1
def j6(oo:List Ty)(tO:List (ab×List (Nat×ab))):Tys:={ty:=fun t=>oo.getD t .other,nest:=fun t=>tO.lookup t}
theorem A0Y{P:Program}{oo:List Ty}{tO:List (ab×List (Nat×ab))}(h:((an oo.length).all fun t=>XG P (j6 oo tO) t&&pJ P (j6 oo tO) t)=true):BZ P (j6 oo tO):=by
 intro t;rcases Nat.lt_or_ge t oo.length with ht|ht
 ·have:=Ir.1 h t (MF.2 ht)
  rw [FM]at this
  exact⟨bQ this.1,this.2⟩
 ·have:(j6 oo tO).ty t= .other:=by simp [j6,K5,bc ht]
  refine⟨?_, ?_⟩
  ·unfold F4;rw [this];trivial
  ·unfold pJ;rw [this]
theorem Aa{Y:Sys}{f:am}{fn:Func}{k:SC}{a l:List D}{r:D×List D}(hb:Y.base f a l=none)(hf:Y.P.funcs[f]? =some fn)(hok:Bz fn a.length=true)
  (hk:fn.body.map (Ba Y.lends)=some k)(h:C8 Y.env k (Fa Y.T l.length fn.results.toList r) (entry a l)):Y.call f a l=some r:=by
 obtain⟨c,hc,hk⟩:=Cf.1 hk;exact Sys.call_wp hb hf hok hc hk h
end Dv
namespace Dv
open Go
section
variable (E:Env) (pm:Pm) (s:St) (dst:Option Tmp) (ty:ab) (u:Tmp) (t:ab)
theorem II(o:Option D):(o.map fun r=>s.putO dst r)=JV s dst o:=by cases o<;>rfl
theorem Lu(o:Option (D×St)):(o.map fun r=>r.2.putO dst r.1)=XD dst o:=by cases o<;>rfl
theorem A3j:KO E pm s dst (.move (.tmp u)) ty=some (CW s dst (.tmp u) (s.v u)):=nr rfl
def oq(pm:Pm):Option Tmp→Option St→Option St
 |some t,some s1=>Eo pm s1 (some t)
 |_,_=>none
def fcB(pm:Pm):Option Tmp→Option St→Option St
 |some t,some s1=>NI pm s1 (some t)
 |_,_=>none
theorem qI:KO E pm s dst (.assign (.tmp u)) ty=if ty=900003 then oq pm dst (BP pm s dst (.tmp u) (s.v u))else if ty<1000000 then BP pm s dst (.tmp u) (s.v u)else oq pm dst (BP pm s dst (.tmp u) (s.v u)):=by
 have hfr:((BP pm s dst (.tmp u) (s.v u)).bind fun s1=>Eo pm s1 dst)=oq pm dst (BP pm s dst (.tmp u) (s.v u)):=by
  rcases BP pm s dst (.tmp u) (s.v u)with _|s1<;>cases dst<;>rfl
 show(if jk ty=true then(BP pm s dst (.tmp u) (s.v u)).bind fun s1=>Eo pm s1 dst else BP pm s dst (.tmp u) (s.v u))=_
 rw [hfr];unfold jk;by_cases h1:ty=900003
 ·rw [if_pos h1,if_pos h1];rfl
 ·rw [if_neg h1,if_neg h1];by_cases h2:ty<1000000
  ·rw [if_pos h2,if_pos h2];rfl
  ·rw [if_neg h2,if_neg h2];rfl
theorem lL(v:Value):KO E pm s dst (.assign (.const v)) ty=if ty=900003 then oq pm dst (JV s dst (ev E.T s ty (.const v)))else if ty<1000000 then JV s dst (ev E.T s ty (.const v))else oq pm dst (JV s dst (ev E.T s (ty-1000000) (.const v))):=by
 have hfr: ∀t,((ev E.T s t (.const v)).bind fun d=>(BP pm s dst (.const v) d).bind fun s1=>Eo pm s1 dst)=oq pm dst (JV s dst (ev E.T s t (.const v))):=by
  intro t
  cases ev E.T s t (.const v)<;>cases dst<;>rfl
 have hno: ∀t,((ev E.T s t (.const v)).bind fun d=>BP pm s dst (.const v) d)=JV s dst (ev E.T s t (.const v)):=by
  intro t
  cases ev E.T s t (.const v)<;>rfl
 show((ev E.T s (A04 ty) (.const v)).bind fun d=>if jk ty=true then(BP pm s dst (.const v) d).bind fun s1=>Eo pm s1 dst else BP pm s dst (.const v) d)=_
 unfold jk A04;by_cases h1:ty=900003
 ·simp only [if_pos h1,if_true];exact hfr _
 ·by_cases h2:ty<1000000
  ·simp only [if_neg h1,if_pos h2,JF,if_false];exact hno _
  ·simp only [if_neg h1,if_neg h2,if_true];exact hfr _
theorem A0Z(v:Value):KO E pm s dst (.move (.const v)) ty=JV s dst (ev E.T s ty (.const v)):=by
 show((ev E.T s ty (.const v)).map fun d=>CW s dst (.const v) d)=_
 cases ev E.T s ty (.const v)<;>rfl
theorem A3k:KO E pm s dst (.load t (.tmp u)) ty=JV s dst (HY E.T pm s t (.tmp u) (s.v u)):=II s dst _
theorem yUn(op:UnOp):KO E pm s dst (.unOp op t (.tmp u)) ty=JV s dst (unD op (s.v u)):=II s dst _
theorem A0a(i:Nat):KO E pm s dst (.fieldAddr t (.tmp u) i) ty=JV s dst (Es E.T pm s t (.tmp u) (s.v u) i):=II s dst _
theorem AAX:KO E pm s dst (.call ⟨.builtin .len, #[.tmp u], #[t]⟩) ty=JV s dst (NK E.T pm s t (.tmp u) (s.v u)):=II s dst _
theorem lM(i:Nat):KO E pm s dst (.extract (.tmp u) i) ty=Hw s dst (.tmp u) (s.v u) i:=nr rfl
def slC(T:Tys)(pm:Pm)(s:St)(dst:Option Tmp)(t:ab)(x:ac)(hi:Option ac):Option ac→Option ac→Option St
 |none,none=>XD dst (NG T pm s t x hi)
 |_,_=>none
theorem AAY(T:Tys)(x:ac)(hi:Option ac):slC T pm s dst t x hi none none=XD dst (NG T pm s t x hi):=nr rfl
def slF(T:Tys)(pm:Pm)(s:St)(dst:Option Tmp)(t:ab)(x:ac)(lo:Option ac):Option ac→Option ac→Option St
 |none,none=>XD dst (NH T pm s t x lo)
 |_,_=>none
theorem A0b(lo hi mx:Option ac):KO E pm s dst (.slice t (.tmp u) lo hi mx) ty=
  if ty=900002 then slC E.T pm s dst t (.tmp u) hi lo mx
  else if ty=900005 then slF E.T pm s dst t (.tmp u) lo hi mx
  else if ty=900001 then XD dst (Hu E.T pm.see s t (.tmp u) (s.v u) lo hi mx)else XD dst (Hu E.T pm s t (.tmp u) (s.v u) lo hi mx):=by
 show(if ty=900002 then(if lo.isNone&&mx.isNone then(NG E.T pm s t (.tmp u) hi).map fun r=>r.2.putO dst r.1 else none)
  else if ty=900005 then(if hi.isNone&&mx.isNone then(NH E.T pm s t (.tmp u) lo).map fun r=>r.2.putO dst r.1 else none)
  else(ev E.T s t (.tmp u)).bind fun d=>(Hu E.T (if ty=900001 then pm.see else pm) s t (.tmp u) d lo hi mx).map fun r=>r.2.putO dst r.1)=_
 split
 ·cases lo<;>cases mx<;>first|rfl|exact Lu dst _
 ·split
  ·cases hi<;>cases mx<;>first|rfl|exact Lu dst _
  ·split
   ·exact Lu dst _
   ·exact Lu dst _
def apI(T:Tys)(pm:Pm)(s:St)(t:ab)(x y:ac)(d:D):Option (D×St):=if isZ (some d)then KU T pm s t x else GA T pm s t x y
theorem qJ(x:ac)(v:Tmp):KO E pm s dst (.call ⟨.builtin .append, #[x,.tmp v], #[t,t]⟩) ty=XD dst (apI E.T pm s t x (.tmp v) (s.v v)):=by
 rw [bP,if_pos rfl,Lu];rfl
def mn1(mx:Bool):Option D→Option D→Option D
 |some a,some b=>WZ mx a b
 |_,_=>none
theorem AAZ(mx:Bool)(a b:D):mn1 mx (some a) (some b)=WZ mx a b:=nr rfl
theorem A3l(k:IntKind)(x y:Int):WZ true (.int k x) (.int k y)=some (.int k (SL x y)):=by simp [WZ]
theorem AAa(x y:ac)(t':ab):KO E pm s dst (.call ⟨.builtin .max, #[x,y], #[t,t']⟩) ty=JV s dst (mn1 true (ev E.T s t x) (ev E.T s t' y)):=by
 show(match ev E.T s t x,ev E.T s t' y with|some a,some b=>(WZ true a b).map fun r=>s.putO dst r|_,_=>none)=_
 cases ev E.T s t x<;>cases ev E.T s t' y<;>first|rfl|exact II s dst _
theorem AAb(T:Tys)(x y:ac)(e:ab)(xs:List D):apI T pm s t x y (.sl e xs)=GA T pm s t x y:=nr rfl
theorem A3m(T:Tys)(x y:ac)(e:ab)(xs:List D):apI T pm s t x y (.own e xs)=GA T pm s t x y:=nr rfl
theorem apK(T:Tys)(x y:ac)(A:Option Addr)(c:Nat):apI T pm s t x y (.konst (.slice A 0 c))=KU T pm s t x:=nr rfl
def ix1(T:Tys)(pm:Pm)(s:St)(t:ab)(x:ac)(d:D):Option D→Option D
 |some i=>QJ T pm s t x d i
 |none=>none
theorem AAc(T:Tys)(x:ac)(d i:D):ix1 T pm s t x d (some i)=QJ T pm s t x d i:=nr rfl
theorem A0c(i:ac):KO E pm s dst (.indexAddr t (.tmp u) i) ty=JV s dst (ix1 E.T pm s t (.tmp u) (s.v u) (ev E.T s 0 i)):=by
 show(match some (s.v u),ev E.T s 0 i with
  |some a,some b=>(QJ E.T pm s t (.tmp u) a b).map fun r=>s.putO dst r
  |_,_=>none)=_
 cases ev E.T s 0 i with
 |none=>rfl
 |some b=>exact II s dst _
def mk1(T:Tys)(t:ab):Option D→Option D→Option D
 |some a,some b=>EM T t a b
 |_,_=>none
theorem AAd(T:Tys)(a b:D):mk1 T t (some a) (some b)=EM T t a b:=nr rfl
theorem AAe(l c:ac):V8 E.T s dst t l c=JV s dst (mk1 E.T t (ev E.T s 0 l) (ev E.T s 0 c)):=by
 show(match ev E.T s 0 l,ev E.T s 0 c with
  |some a,some b=>(EM E.T t a b).map fun r=>s.putO dst r
  |_,_=>none)=_
 cases ev E.T s 0 l<;>cases ev E.T s 0 c<;>first|rfl|exact II s dst _
theorem A3o(l c:ac):KO E pm s dst (.makeSlice t l c) ty=if ty=900012 then fcB pm dst (JV s dst (mk1 E.T t (ev E.T s 0 l) (ev E.T s 0 c)))else JV s dst (mk1 E.T t (ev E.T s 0 l) (ev E.T s 0 c)):=by
 rw [VK,AAe];by_cases h:ty=900012
 ·rw [if_pos h,if_pos h]
  cases JV s dst (mk1 E.T t (ev E.T s 0 l) (ev E.T s 0 c))<;>cases dst<;>rfl
 ·rw [if_neg h,if_neg h]
def cv1(s:St)(dst:Option Tmp):Option D→Ty→Option St
 |some (.int _ n),.int k=>some (s.putO dst (.int k (k.wrap n)))
 |some (.str b),.string=>some (s.putO dst (.str b))
 |_,_=>none
theorem AAf(k k':IntKind)(n:Int):cv1 s dst (some (.int k n)) (.int k')=some (s.putO dst (.int k' (k'.wrap n))):=nr rfl
theorem lN(src d:ab)(x:ac):KO E pm s dst (.convert src d x) ty=if E.T.known src then cv1 s dst (ev E.T s src x) (E.T.ty d)else none:=by
 rw [Z9];split
 ·rcases ev E.T s src x with _|d'<;>cases E.T.ty d<;>first|rfl|(cases d'<;>rfl)
 ·rfl
def asM(l:List ab):List ab:=l.map fun _=>900013
theorem AAg:asM []=[]:=nr rfl
theorem AAh(t:ab)(l:List ab):asM (t::l)=900013::asM l:=nr rfl
theorem A3q(f:am)(args:Array ac)(ts:Array ab)(h:args.size=ts.size):KO E pm s dst (.call ⟨.value (.func f),args,ts⟩) ty=if ty=900014 then oq pm dst (Fh E pm s dst f (args.toList.zip ts.toList) [])else Fh E pm s dst f (args.toList.zip (if ty=900013 then asM ts.toList else ts.toList)) []:=by
 rw [lH,if_pos h];by_cases c:ty=900014
 ·rw [if_pos c,if_pos c];have e:NL ty ts.toList=ts.toList:=by unfold NL;rw [c,if_neg (by decide)]
  rw [e];unfold oq
  cases Fh E pm s dst f (args.toList.zip ts.toList) []with
  |none=>cases dst<;>rfl
  |some s1=>cases dst<;>rfl
 ·rw [if_neg c,if_neg c]
  unfold NL asM;rfl
end
section
variable {T:Tys} {pm:Pm} {s:St} {t:ab}
theorem ldC(x:ac)(xs:List D)(hk:T.known t=true)(hs:T.isStruct t=false):HY T pm s t x (.cptr xs)=xs[0]? :=by simp [HY,hk,hs]
theorem AAi(x:ac)(xs:List D)(hk:T.known t=true)(hs:T.isStruct t=true):HY T pm s t x (.cptr xs)=if T.size t≤xs.length then some (.agg (xs.take (T.size t)))else none:=by simp [HY,hk,hs]
def TZ(s:St)(L:AJ)(c:Nat):Option D→Option D
 |some o=>(o.cells[c]?).bind fun x=>DF (Fb s L c x)
 |none=>none
def cellsOf(s:St)(L:AJ)(c n:Nat):Option D→Option D
 |some o=>if c+n≤o.cells.length then DF (.agg ((an n).map fun i=>Fb s L (c+i) (o.cells.getD (c+i) .undef)))else none
 |none=>none
theorem ldP(x:ac)(L:AJ)(c n m:Nat)(hk:T.known t=true)(hs:T.isStruct t=false):HY T pm s t x (.pe L c n m)=TZ s L c (s.look pm L n m):=by
 simp only [HY,hk,hs,if_true,IA]
 cases s.look pm L n m<;>simp [TZ]
theorem ldB(u:Tmp)(xs:List D)(hk:T.known t=true)(hs:T.isStruct t=false):HY T pm s t (.tmp u) (.box xs)=TZ s [u] 0 (some (.box xs)):=by
 simp only [HY,hk,hs,if_true,IA];simp [TZ]
theorem AAj(u:Tmp)(xs:List D)(hk:T.known t=true)(hs:T.isStruct t=true):HY T pm s t (.tmp u) (.box xs)=cellsOf s [u] 0 (T.size t) (some (.box xs)):=by
 simp only [HY,hk,hs,if_true,IA];simp [cellsOf]
def tQ(s:St)(pm:Pm)(L:AJ)(n m:Nat):Option D:=
 match s.look pm L n m with
 |some (.box xs)=>some (.box xs)
 |_=>none
def ZA:D→Option D
 | .own e xs=>some (.own e xs)
 | .box xs=>some (.box xs)
 |_=>none
theorem A0d(e:ab)(xs:List D):ZA (.own e xs)=some (.own e xs):=nr rfl
theorem A0e(xs:List D):ZA (.box xs)=some (.box xs):=nr rfl
theorem A3r(u n m:Nat):s.look pm [u] n m=if pm.rd u&&(s.k u==n)then ZA (s.v u)else none:=by
 simp only [St.look,List.isEmpty_nil,Bool.true_or,V5,BL];split
 ·cases s.v u<;>rfl
 ·rfl
def A3s:Option D→Option D
 |some d=>ZA d
 |none=>none
theorem A3t(u c n m:Nat)(p:AJ):s.look pm (u::c::p) n m=if pm.rd u&&(s.k u==n)&&(s.m u==m)then A3s (BL (s.v u) (c::p))else none:=by
 simp only [St.look,List.isEmpty_cons,SK];split
 ·cases BL (s.v u) (c::p)with
  |none=>rfl
  |some d=>cases d<;>rfl
 ·rfl
theorem A3u(d:D):A3s (some d)=ZA d:=nr rfl
theorem AAk(x:ac)(e:ab)(xs:List D):DZ pm s x (.sl e xs)=some (e,xs,none):=nr rfl
theorem A3v(u:Tmp)(e:ab)(xs:List D):DZ pm s (.tmp u) (.own e xs)=some (e,xs,some ([u],s.k u,s.m u)):=nr rfl
def A3w(L:AJ)(n m:Nat):Option D→Option (ab×List D×Option (AJ×Nat×Nat))
 |some (.own e xs)=>some (e,xs,some (L,n,m))
 |_=>none
theorem A3x(L:AJ)(n m:Nat)(e:ab)(xs:List D):A3w L n m (some (.own e xs))=some (e,xs,some (L,n,m)):=nr rfl
theorem AAl(x:ac)(L:AJ)(n m:Nat):DZ pm s x (.vw L n m)=A3w L n m (s.look pm L n m):=by
 simp only [DZ]
 cases s.look pm L n m with
 |none=>rfl
 |some o=>cases o<;>rfl
def qK(T:Tys):Option (ab×List D×Option (AJ×Nat×Nat))→Option D
 |some (e,xs,_)=>if T.known e then some (.int .i64 (T.len e xs))else none
 |none=>none
theorem A3y(e:ab)(xs:List D)(o:Option (AJ×Nat×Nat))(hk:T.known e=true):qK T (some (e,xs,o))=some (.int .i64 (T.len e xs)):=by simp [qK,hk]
def ln0(T:Tys)(pm:Pm)(s:St)(x:ac)(d:D):Ty→Option D
 | .string=>match d with| .str b=>some (.int .i64 b.size)|_=>none
 | .slice _=>qK T (DZ pm s x d)
 |_=>none
theorem lnT(x:ac)(d:D):Mj T pm s t x d=ln0 T pm s x d (T.ty t):=by
 unfold Mj ln0
 cases T.ty t with
 |slice e=>
  simp only
  cases DZ pm s x d with
  |none=>rfl
  |some q=>rfl
 |string=>cases d<;>rfl
 |_=>rfl
theorem A3z(x:ac)(e:ab)(xs:List D):NK T pm s t x (.sl e xs)=Mj T pm s t x (.sl e xs):=nr rfl
theorem A0f(x:ac)(e:ab)(xs:List D):NK T pm s t x (.own e xs)=Mj T pm s t x (.own e xs):=nr rfl
def lnW(T:Tys)(pm:Pm)(s:St)(t:ab)(x:ac)(L:AJ)(n m:Nat):Ty→Option D
 | .map _ _=>(s.lookM pm L n).map fun q=> .int .i64 q.2.2.length
 |_=>Mj T pm s t x (.vw L n m)
theorem A40(x:ac)(L:AJ)(n m:Nat):NK T pm s t x (.vw L n m)=lnW T pm s t x L n m (T.ty t):=by
 show(match T.ty t with| .map _ _=>YH T pm s t x (.vw L n m)|_=>YG T pm s t x (.vw L n m))=_
 unfold lnW YH
 cases h:T.ty t<;>simp only [SX]<;>first|rfl|(cases s.lookM pm L n<;>rfl)
theorem AAn(T:Tys)(x:ac)(L:AJ)(n m:Nat)(k e:ab):lnW T pm s t x L n m (.map k e)=(s.lookM pm L n).map fun q=> .int .i64 q.2.2.length:=nr rfl
theorem AAo(T:Tys)(x:ac)(L:AJ)(n m:Nat)(e:ab):lnW T pm s t x L n m (.slice e)=Mj T pm s t x (.vw L n m):=nr rfl
def A41:D→Option (ab×ab×List (AL×AL))
 | .mp k e es=>some (k,e,es)
 |_=>none
theorem A42(k e:ab)(es:List (AL×AL)):A41 (.mp k e es)=some (k,e,es):=nr rfl
theorem A0g(u n:Nat):s.lookM pm [u] n=if pm.rd u&&(s.k u==n)then A41 (s.v u)else none:=by
 simp only [St.lookM];split
 ·cases s.v u<;>rfl
 ·rfl
theorem A43(x:ac)(e:ab)(L:AJ)(n m lo len:Nat):NK T pm s t x (.vs e L n m lo len)=pE len (T.ty t):=nr rfl
theorem A44(len:Nat)(e:ab):pE len (.slice e)=some (.int .i64 len):=nr rfl
theorem A45(x:ac)(e:ab)(xs:List D)(i:D):QJ T pm s t x (.sl e xs) i=Dq T pm s t x (.sl e xs) i:=nr rfl
theorem A0h(x:ac)(xs:List D)(i:D):QJ T pm s t x (.box xs) i=Dq T pm s t x (.box xs) i:=nr rfl
theorem A46(x:ac)(L:AJ)(n m:Nat)(i:D):QJ T pm s t x (.vw L n m) i=Dq T pm s t x (.vw L n m) i:=nr rfl
def qL(T:Tys)(e e1:ab)(L:AJ)(va vb lo len:Nat)(n:Int):Option D→Option D
 |some (.own e2 xs)=>if e1=e∧e2=e∧T.known e=true∧T.size e=1∧0≤n∧n.toNat<len∧lo+len≤xs.length then some (.pe L (lo+n.toNat) va vb)else none
 |_=>none
def A0i(T:Tys)(pm:Pm)(s:St)(e1:ab)(L:AJ)(va vb lo len:Nat)(n:Int):Ty→Option D
 | .slice e=>qL T e e1 L va vb lo len n (s.look pm L va vb)
 |_=>none
theorem A47(x:ac)(e:ab)(L:AJ)(va vb lo len:Nat)(k:IntKind)(n:Int):QJ T pm s t x (.vs e L va vb lo len) (.int k n)=A0i T pm s e L va vb lo len n (T.ty t):=by
 show ji T pm s t e L va vb lo len (.int k n)=_
 unfold ji A0i
 cases T.ty t with
 |slice e'=>
  simp only;rcases s.look pm L va vb with _|d
  ·rfl
  ·cases d<;>rfl
 |_=>rfl
theorem A48(e1:ab)(L:AJ)(va vb lo len:Nat)(n:Int)(e:ab):A0i T pm s e1 L va vb lo len n (.slice e)=qL T e e1 L va vb lo len n (s.look pm L va vb):=nr rfl
theorem A49(e:ab)(L:AJ)(va vb lo len:Nat)(n:Int)(xs:List D)(hk:T.known e=true)(hz:T.size e=1)(h1:0≤n∧n.toNat<len)(h2:lo+len≤xs.length):qL T e e L va vb lo len n (some (.own e xs))=some (.pe L (lo+n.toNat) va vb):=by
 unfold qL;dsimp only;rw [if_pos ⟨rfl,rfl,hk,hz,h1.1,h1.2,h2⟩]
theorem AAp(x:ac)(d:D)(e:ab):ln0 T pm s x d (.slice e)=qK T (DZ pm s x d):=nr rfl
theorem A4A(e:ab)(xs:List D)(h:T.size e=1):T.len e xs=xs.length:=by simp [Tys.len,h]
def jA(T:Tys)(e:ab)(n:Int):Option (ab×List D×Option (AJ×Nat×Nat))→Option D
 |some (e',xs,o)=>
  if e'=e∧T.known e=true∧0≤n∧n.toNat<T.len e xs then
   match o with
   |none=>some (.cptr ((xs.drop (n.toNat*T.size e)).take (T.size e)))
   |some (L,a,b)=>some (.pe L (n.toNat*T.size e) a b)
  else none
 |none=>none
def ix0(T:Tys)(pm:Pm)(s:St)(x:ac)(d:D)(n:Int):Ty→Option D
 | .slice e=>jA T e n (DZ pm s x d)
 | .arr len e=>
  if 0≤n∧n.toNat<len∧T.known e=true∧T.size e=1 then
   match d with
   | .box _=>match x with| .tmp u=>some (.pe [u] n.toNat (s.k u) (s.m u))|_=>none
   | .vw L n1 m1=>match s.look pm L n1 m1 with|some (.box _)=>some (.pe L n.toNat n1 m1)|_=>none
   | .cptr xs=>some (.cptr (xs.drop n.toNat))
   |_=>none
  else none
 |_=>none
theorem AAq(u:Tmp)(xs:List D)(n:Int)(len:Nat)(e:ab)(hk:T.known e=true)(hz:T.size e=1)(hn:0≤n∧n.toNat<len):ix0 T pm s (.tmp u) (.box xs) n (.arr len e)=some (.pe [u] n.toNat (s.k u) (s.m u)):=by
 unfold ix0;dsimp only;rw [if_pos ⟨hn.1,hn.2,hk,hz⟩]
theorem ixT(x:ac)(d:D)(k:IntKind)(n:Int):Dq T pm s t x d (.int k n)=ix0 T pm s x d n (T.ty t):=by
 unfold Dq ix0
 cases T.ty t with
 |slice e=>
  simp only
  cases DZ pm s x d with
  |none=>rfl
  |some q=>rfl
 |_=>rfl
theorem AAr(x:ac)(d:D)(n:Int)(e:ab):ix0 T pm s x d n (.slice e)=jA T e n (DZ pm s x d):=nr rfl
theorem AAs(e:ab)(n:Int)(xs:List D)(hk:T.known e=true)(hz:T.size e=1)(hn:0≤n∧n.toNat<xs.length):jA T e n (some (e,xs,none))=some (.cptr [xs.getD n.toNat .undef]):=by
 simp only [jA,hk,hz,Tys.len,if_true];rw [if_pos ⟨trivial,trivial,hn.1,hn.2⟩,Mw,List.drop_eq_getElem_cons hn.2,K5,Gy hn.2];rfl
theorem AAt(e:ab)(n:Int)(xs:List D)(L:AJ)(a b:Nat)(hk:T.known e=true)(hz:T.size e=1)(hn:0≤n∧n.toNat<xs.length):jA T e n (some (e,xs,some (L,a,b)))=some (.pe L n.toNat a b):=by
 simp only [jA,hk,hz,Tys.len,if_true];rw [if_pos ⟨trivial,trivial,hn.1,hn.2⟩,Mw]
end
section
variable {T:Tys} {pm:Pm} {s:St} {t:ab} (u:Tmp)
def Zr(pm:Pm)(s:St)(u:Tmp)(d:D):Option (D×St):=CP pm (if d.hasObj then s.clr u else s) d
theorem A4C:take T pm s t (.tmp u)=Zr pm s u (s.v u):=nr rfl
theorem tkC(v:Value):take T pm s t (.const v)=match ev T s t (.const v)with|none=>none|some d=>CP pm s d:=nr rfl
theorem A4D(k:IntKind)(n:Int):CP pm s (.int k n)=some (.int k n,s):=by simp [CP]
theorem A4E(e:ab)(xs:List D):CP pm s (.own e xs)=some (.own e xs,s):=by simp [CP]
theorem AAu(L:AJ)(n m:Nat):CP pm s (.vw L n m)=NF pm s L n m:=by simp [CP]
def td1:Option (List D×St)→Option (D×St)
 |some r=>some (.agg r.1,r.2)
 |none=>none
theorem AAv(r:List D×St):td1 (some r)=some (.agg r.1,r.2):=nr rfl
theorem A4G(xs:List D):CP pm s (.agg xs)=td1 (EZ pm s xs):=by simp only [CP];cases EZ pm s xs<;>rfl
def td2(pm:Pm)(ds:List D):Option (D×St)→Option (List D×St)
 |some r=>(EZ pm r.2 ds).map fun q=>(r.1::q.1,q.2)
 |none=>none
theorem AAw(ds:List D)(d:D):td2 pm ds (some (d,s))=(EZ pm s ds).map fun q=>(d::q.1,q.2):=nr rfl
theorem A0j:EZ pm s []=some ([],s):=by simp [EZ]
theorem qM(d:D)(ds:List D):EZ pm s (d::ds)=td2 pm ds (CP pm s d):=by simp only [EZ];cases CP pm s d<;>rfl
theorem A4H(k:IntKind)(n:Int):Zr pm s u (.int k n)=some (.int k n,s):=by simp [Zr,CP,D.hasObj]
theorem A0k(b:Bool):Zr pm s u (.bool b)=some (.bool b,s):=by simp [Zr,CP,D.hasObj]
theorem AAx(e:ab)(xs:List D):Zr pm s u (.sl e xs)=some (.sl e xs,s):=by simp [Zr,CP,D.hasObj]
theorem A4I(e:ab)(xs:List D):Zr pm s u (.own e xs)=some (.own e xs,s.clr u):=by simp [Zr,CP,D.hasObj]
theorem A4J(f:am)(xs:List D):Zr pm s u (.clo f xs)=some (.clo f xs,s):=by simp [Zr,CP,D.hasObj]
theorem AAy(L:AJ)(n m:Nat):Zr pm s u (.vw L n m)=NF pm s L n m:=by simp [Zr,CP,D.hasObj]
theorem A4K(xs:List D):Zr pm s u (.agg xs)=td1 (EZ pm (if Aj xs then s.clr u else s) xs):=by
 simp only [Zr,D.hasObj];rw [A4G];rfl
theorem A0l:Aj []=false:=by simp [Aj]
theorem eG(d:D)(ds:List D):Aj (d::ds)=(d.hasObj||Aj ds):=by simp [Aj]
theorem A4L(e:ab)(xs:List D):(D.sl e xs).hasObj=false:=by simp [D.hasObj]
theorem A4M(e:ab)(xs:List D):(D.own e xs).hasObj=true:=by simp [D.hasObj]
theorem A4N(xs:List D):(D.box xs).hasObj=true:=by simp [D.hasObj]
theorem AAz(L:AJ)(n m:Nat):(D.vw L n m).hasObj=false:=by simp [D.hasObj]
theorem A4O(xs:List D):(D.tup xs).hasObj=Aj xs:=by simp [D.hasObj]
def pl1(s:St)(r:Nat):Option D→Option (D×St)
 |some c=>some (c,s.set [r] .undef)
 |none=>none
theorem AB1(r:Nat)(c:D):pl1 s r (some c)=some (c,s.set [r] .undef):=nr rfl
theorem A4P(r n m:Nat)(hw:pm.wr r=true):NF pm s [r] n m=pl1 s r (s.look pm [r] n m):=by
 unfold NF
 cases s.look pm [r] n m with
 |none=>rfl
 |some c=>simp [hw,St.get,pl1]
def pl2(s:St)(L:AJ)(o:Option D):Option D→Option (D×St)
 |some c=>match o with
  |some (.own _ _)=>(EG c).map fun c'=>(c',s.set L c')
  |_=>some (c,s.set L .undef)
 |none=>none
theorem AB2(L:AJ)(xs:List D)(c:D):pl2 s L (some (.box xs)) (some c)=some (c,s.set L .undef):=nr rfl
theorem A4Q(u' c n m:Nat)(p:AJ)(hw:pm.wr u'=true):NF pm s (u'::c::p) n m=pl2 s (u'::c::p) (s.get (u'::c::p).dropLast) (s.look pm (u'::c::p) n m):=by
 unfold NF
 cases s.look pm (u'::c::p) n m with
 |none=>rfl
 |some d=>simp only [Uz,hw,if_true,pl2];rfl
theorem AB3(r:Nat):s.get [r]=some (s.v r):=nr rfl
theorem A4R(d:D):BL d []=some d:=by cases d<;>rfl
theorem A4S(e:ab)(xs:List D)(c:Nat)(p:AJ):BL (.own e xs) (c::p)=(xs[c]?).bind fun d=>BL d p:=nr rfl
theorem A4T(xs:List D)(c:Nat)(p:AJ):BL (.box xs) (c::p)=(xs[c]?).bind fun d=>BL d p:=nr rfl
theorem A4U(d x:D):Gz d [] x=x:=by cases d<;>rfl
theorem A4V(e:ab)(xs:List D)(c:Nat)(p:AJ)(x:D):Gz (.own e xs) (c::p) x= .own e (xs.set c (Gz (xs.getD c .undef) p x)):=nr rfl
theorem A4W(xs:List D)(c:Nat)(p:AJ)(x:D):Gz (.box xs) (c::p) x= .box (xs.set c (Gz (xs.getD c .undef) p x)):=nr rfl
end
section
variable {T:Tys} {pm:Pm} {s:St} {t:ab}
def YA(T:Tys)(pm:Pm)(t:ab)(ax:ac):Option (D×St)→Option St
 |none=>none
 |some (d,s1)=>
  match ev T s1 t ax with
  |none=>none
  |some ad=>
   match IA pm s1 ax ad with
   |none=>none
   |some (L,c,o)=>
    if T.known t&&pm.wr (L.headD 0)&&d.asCells.all DW&&(T.size t==d.asCells.length)&&(T.isStruct t==d.isAgg)&&decide (c+T.size t≤o.cells.length)then
     let s2:=s1.set L (o.withCells (Bt o.cells c d.asCells))
     some (if d.hasObj||Aj o.cells then s2.bump (L.headD 0)else s2)
    else none
theorem A0m(ax x:ac):Iu T pm s t ax x=YA T pm t ax (take T pm s t x):=by
 unfold Iu G9 YA;rcases take T pm s t x with _|⟨d,s1⟩<;>rfl
def tm1(T:Tys)(pm:Pm)(s:St)(t:ab)(u:Tmp):D→Option (D×St)
 | .vw L n m=>SQ pm s L n m
 |_=>take T pm s t (.tmp u)
theorem A0n(u:Tmp):KS T pm s t (.tmp u)=tm1 T pm s t u (s.v u):=by
 unfold KS;simp only [ev]
 cases s.v u<;>rfl
def tm2(s:St)(L:AJ):Option D→Option (D×St)
 |some c=>some (c,s.set L .undef)
 |none=>none
theorem AB6(u:Tmp)(L:AJ)(n m:Nat)(hw:pm.wr (L.headD 0)=true):tm1 T pm s t u (.vw L n m)=tm2 s L (s.look pm L n m):=by
 show SQ pm s L n m=_
 unfold SQ tm2
 cases s.look pm L n m with
 |none=>rfl
 |some c=>simp only [hw,if_true]
theorem A0o(u:Tmp)(e:ab)(xs:List D):tm1 T pm s t u (.own e xs)=take T pm s t (.tmp u):=nr rfl
theorem AB7(L:AJ)(c:D):tm2 s L (some c)=some (c,s.set L .undef):=nr rfl
def tT(s1:St)(L:AJ)(c:Nat)(d:D):Option D→Option St
 |none=>none
 |some o=>if c<o.cells.length then(if d.hasObj||Aj o.cells then some ((s1.set L (o.withCells (o.cells.set c d))).bump (L.headD 0))else some (s1.set L (o.withCells (o.cells.set c d))))else none
def sd1(T:Tys)(pm:Pm)(t:ab)(u:Tmp)(d:D)(s:St):D→Option St
 | .pe L c n m=>if T.known t&& !T.isStruct t&&pm.wr (L.headD 0)&&DW d then tT s L c d (s.look pm L n m)else YA T pm t (.tmp u) (some (d,s))
 | .vw L n m=>if T.known t&& !T.isStruct t&&pm.wr (L.headD 0)&&DW d then tT s L 0 d (tQ s pm L n m)else YA T pm t (.tmp u) (some (d,s))
 | .box xs=>if T.known t&& !T.isStruct t&&pm.wr u&&DW d then tT s [u] 0 d (some (.box xs))else YA T pm t (.tmp u) (some (d,s))
 |_=>YA T pm t (.tmp u) (some (d,s))
theorem Na{d:D}(hd:DW d=true):d.asCells=[d]∧d.isAgg=false:=by
 cases d<;>first|exact⟨rfl,rfl⟩|(simp [DW]at hd)
theorem Lv{T:Tys}{t:ab}(hs:T.isStruct t=false):T.size t=1:=by
 unfold Tys.isStruct at hs;unfold Tys.size
 cases hty:T.ty t<;>simp_all [Ty.isStruct,Ty.size]
theorem AB8(u:Tmp)(d:D)(_:d.isAgg=false):YA T pm t (.tmp u) (some (d,s))=sd1 T pm t u d s (s.v u):=by
 cases hv:s.v u<;>simp only [sd1]
 case pe L c n m=>
  split
  ·rename_i hc
   simp only [FM,Ku]at hc;obtain⟨⟨⟨hk,hs⟩,hw⟩,hd⟩:=hc;obtain⟨ha,hg⟩:=Na hd;have hz:=Lv hs;simp only [YA,ev,hv,IA]
   cases s.look pm L n m with
   |none=>rfl
   |some o=>
    simp only [tT,hk,hw,ha,hz,hs,hg,QI,hd,List.all_nil,OI,SI,V5,Bt,beq_self_eq_true,JG];by_cases hc:c<o.cells.length
    ·have h1:c+1≤o.cells.length:=hc;simp only [hc,h1,decide_true,V5,if_true];split<;>first|rfl|(rename_i hq;simp only [hq];rfl)
    ·have h1: ¬c+1≤o.cells.length:=hc;simp only [hc,h1,decide_false,Bool.and_false,JF,if_false]
  ·rfl
 case vw L n m=>
  split
  ·rename_i hc
   simp only [FM,Ku]at hc;obtain⟨⟨⟨hk,hs⟩,hw⟩,hd⟩:=hc;obtain⟨ha,hg⟩:=Na hd;have hz:=Lv hs;simp only [YA,ev,hv,IA,tQ]
   cases s.look pm L n m with
   |none=>rfl
   |some o=>
    cases o<;>try rfl
    rename_i xs
    simp only [tT,hk,hw,ha,hz,hs,hg,QI,hd,List.all_nil,OI,SI,V5,Bt,beq_self_eq_true,JG,D.cells];by_cases hc:0<xs.length
    ·have h1:1≤xs.length:=hc;simp only [hc,h1,decide_true,V5,if_true];split<;>first|rfl|(rename_i hq;simp only [hq];rfl)
    ·have h1: ¬1≤xs.length:=hc;simp only [hc,h1,decide_false,Bool.and_false,JF,if_false]
  ·rfl
 case box xs=>
  split
  ·rename_i hc
   simp only [FM,Ku]at hc;obtain⟨⟨⟨hk,hs⟩,hw⟩,hd⟩:=hc;obtain⟨ha,hg⟩:=Na hd;have hz:=Lv hs;simp only [YA,ev,hv,IA];simp only [tT,hk,hw,ha,hz,hs,hg,QI,hd,List.all_nil,OI,SI,V5,Bt,beq_self_eq_true,JG,D.cells,Uz];by_cases hc:0<xs.length
   ·have h1:1≤xs.length:=hc;simp only [hc,h1,decide_true,V5,if_true];split<;>first|rfl|(rename_i hq;simp only [hq];rfl)
   ·have h1: ¬1≤xs.length:=hc;simp only [hc,h1,decide_false,Bool.and_false,JF,if_false]
  ·rfl
theorem AB9(u:Tmp)(d:D)(L:AJ)(c n m:Nat)(hk:T.known t=true)(hs:T.isStruct t=false)(hw:pm.wr (L.headD 0)=true)(hd:DW d=true):sd1 T pm t u d s (.pe L c n m)=tT s L c d (s.look pm L n m):=by
 simp [sd1,hk,hs,hd];intro h;simp_all
theorem hdC(a:Nat)(l:AJ)(d:Nat):List.headD (a::l) d=a:=nr rfl
theorem ABA(L:AJ)(c:Nat)(d o:D):tT s L c d (some o)=if c<o.cells.length then(if d.hasObj||Aj o.cells then some ((s.set L (o.withCells (o.cells.set c d))).bump (L.headD 0))else some (s.set L (o.withCells (o.cells.set c d))))else none:=nr rfl
theorem A4X(e:ab)(xs:List D):(D.own e xs).cells=xs:=nr rfl
theorem A4Y(xs:List D):(D.box xs).cells=xs:=nr rfl
theorem A4Z(e:ab)(xs ys:List D):(D.own e xs).withCells ys= .own e ys:=nr rfl
theorem A4a(xs ys:List D):(D.box xs).withCells ys= .box ys:=nr rfl
theorem A4b(k:IntKind)(n:Int):DW (.int k n)=true:=nr rfl
theorem A4c(e:ab)(xs:List D):DW (.own e xs)=true:=nr rfl
theorem ceS(L:AJ)(c:Nat)(o:D):TZ s L c (some o)=(o.cells[c]?).bind fun x=>DF (Fb s L c x):=nr rfl
theorem ABB(L:AJ)(c:Nat)(e:ab)(xs:List D):DF (Fb s L c (.sl e xs))=some (.sl e xs):=nr rfl
theorem A0p(L:AJ)(c:Nat)(xs:List D):DF (Fb s L c (.cptr xs))=some (.cptr xs):=nr rfl
theorem ABC(r:Nat)(p:AJ):jb s (r::p)= .vw (r::p) (s.k r) (s.m r):=nr rfl
def ap1(T:Tys)(pm:Pm)(e:ab)(ty:ab)(y:ac):Option (D×St)→Option (D×St)
 |some (.own e1 xs,s1)=>
   match ev T s1 ty y with
   |some d=>
    match DZ pm s1 y d with
    |some (e2,ys,_)=>
     if e1=e∧e2=e∧T.elem e=true∧ys.all DW=true∧xs.length+ys.length<1099511627776 then
      if Aj ys then
       match d,y with
       | .own _ _,.tmp u=>some (.own e (xs++ys),s1.clr u)
       |_,_=>none
      else some (.own e (xs++ys),s1)
     else none
    |none=>none
   |none=>none
 |_=>none
def az1(T:Tys)(e:ab):Option (D×St)→Option (D×St)
 |some (.own e1 xs,s1)=>if e1=e∧T.known e=true then some (.own e xs,s1)else none
 |_=>none
def az0(T:Tys)(pm:Pm)(s:St)(ty:ab)(x:ac):Ty→Option (D×St)
 | .slice e=>az1 T e (take T pm s ty x)
 |_=>none
theorem A4f(ty:ab)(x:ac):KU T pm s ty x=az0 T pm s ty x (T.ty ty):=by
 unfold KU az0
 cases T.ty ty with
 |slice e=>
  simp only [az1];rcases take T pm s ty x with _|⟨d,s1⟩
  ·rfl
  ·cases d<;>rfl
 |_=>rfl
theorem Rq{T:Tys}{e:ab}(hk:T.known e=true)(h4:T.size e≤4):T.elem e=true:=by simp [Tys.elem,hk,h4]
theorem ABE(ty:ab)(x:ac)(e:ab):az0 T pm s ty x (.slice e)=az1 T e (take T pm s ty x):=nr rfl
theorem ABF(e:ab)(xs:List D)(hk:T.known e=true):az1 T e (some (.own e xs,s))=some (.own e xs,s):=by simp [az1,hk]
def ap0(T:Tys)(pm:Pm)(s:St)(ty:ab)(x y:ac):Ty→Option (D×St)
 | .slice e=>ap1 T pm e ty y (KS T pm s ty x)
 |_=>none
theorem ABH(ty:ab)(x y:ac):GA T pm s ty x y=ap0 T pm s ty x y (T.ty ty):=by
 unfold GA ap0
 cases T.ty ty with
 |slice e=>
  simp only [ap1];rcases KS T pm s ty x with _|⟨d,s1⟩
  ·rfl
  ·cases d<;>rfl
 |_=>rfl
theorem ABJ(ty:ab)(x y:ac)(e:ab):ap0 T pm s ty x y (.slice e)=ap1 T pm e ty y (KS T pm s ty x):=nr rfl
def ap2(T:Tys)(e e1:ab)(xs:List D)(s:St)(u:Tmp)(d:D):Option (ab×List D×Option (AJ×Nat×Nat))→Option (D×St)
 |some (e2,ys,_)=>
     if e1=e∧e2=e∧T.elem e=true∧ys.all DW=true∧xs.length+ys.length<1099511627776 then
      if Aj ys then
       match d with
       | .own _ _=>some (.own e (xs++ys),s.clr u)
       |_=>none
      else some (.own e (xs++ys),s)
     else none
 |none=>none
theorem ABK(ty e e1:ab)(u:Tmp)(xs:List D):ap1 T pm e ty (.tmp u) (some (.own e1 xs,s))=ap2 T e e1 xs s u (s.v u) (DZ pm s (.tmp u) (s.v u)):=by
 simp only [ap1,ev,ap2];rcases DZ pm s (.tmp u) (s.v u)with _|⟨e2,ys,o⟩
 ·rfl
 ·simp only;split
  ·split
   ·cases s.v u<;>rfl
   ·rfl
  ·rfl
theorem ABL(e:ab)(u:Tmp)(xs ys:List D)(d:D)(o:Option (AJ×Nat×Nat))(hk:T.known e=true)(h4:T.size e≤4)(hy:ys.all DW=true)(hno:Aj ys=false)(hl:xs.length+ys.length<1099511627776):
  ap2 T e e xs s u d (some (e,ys,o))=some (.own e (xs++ys),s):=by
 simp only [ap2];rw [if_pos ⟨trivial,trivial,Rq hk h4,hy,hl⟩,hno];simp
end
section
variable {E:Env} {pm:Pm} {s:St} {dst:Option Tmp}
def ZB(a:D)(l:List (AJ×D)):Option (List D×List (AJ×D))→Option (List D×List (AJ×D))
 |some (as,ls)=>some (a::as,l++ls)
 |none=>none
theorem A0q(a:D)(l:List (AJ×D))(as:List D)(ls:List (AJ×D)):ZB a l (some (as,ls))=some (a::as,l++ls):=nr rfl
def R6(E:Env)(lend:Bool)(pm:Pm)(s:St)(j:Nat)(rest:List (ac×ab)):Option (D×List (AJ×D))→Option (List D×List (AJ×D))
 |some (a,l)=>ZB a l (Dj E lend pm s (j+l.length) rest)
 |none=>none
theorem A0r(lend:Bool)(j:Nat)(rest:List (ac×ab))(a:D)(l:List (AJ×D)):R6 E lend pm s j rest (some (a,l))=ZB a l (Dj E lend pm s (j+l.length) rest):=nr rfl
theorem A4g(lend:Bool)(j:Nat):Dj E lend pm s j []=some ([],[]):=nr rfl
theorem A4h(lend:Bool)(j:Nat)(u:Tmp)(t:ab)(rest:List (ac×ab)):Dj E lend pm s j ((.tmp u,t)::rest)=R6 E lend pm s j rest (K9 E.T lend pm s j [u] (s.v u)):=by
 simp only [Dj,ev];rcases K9 E.T lend pm s j [u] (s.v u)with _|⟨a,l⟩
 ·rfl
 ·simp only [R6];rcases Dj E lend pm s (j+l.length) rest with _|⟨as,ls⟩<;>rfl
def aC(E:Env)(lend:Bool)(pm:Pm)(s:St)(j:Nat)(rest:List (ac×ab)):Option D→Option (List D×List (AJ×D))
 |some d=>R6 E lend pm s j rest (K9 E.T lend pm s j [] d)
 |none=>none
theorem aCS(lend:Bool)(j:Nat)(rest:List (ac×ab))(d:D):aC E lend pm s j rest (some d)=R6 E lend pm s j rest (K9 E.T lend pm s j [] d):=nr rfl
theorem arC(lend:Bool)(j:Nat)(v:Value)(t:ab)(rest:List (ac×ab)):Dj E lend pm s j ((.const v,t)::rest)=aC E lend pm s j rest (ev E.T s t (.const v)):=by
 simp only [Dj]
 cases ev E.T s t (.const v)with
 |none=>rfl
 |some d=>
  simp only [aC];rcases K9 E.T lend pm s j [] d with _|⟨a,l⟩
  ·rfl
  ·simp only [R6];rcases Dj E lend pm s (j+l.length) rest with _|⟨as,ls⟩<;>rfl
theorem arF(lend:Bool)(j:Nat)(f:am)(t:ab)(rest:List (ac×ab)):Dj E lend pm s j ((.func f,t)::rest)=R6 E lend pm s j rest (K9 E.T lend pm s j [] (.clo f [])):=by
 simp only [Dj,ev];rcases K9 E.T lend pm s j [] (.clo f [])with _|⟨a,l⟩
 ·rfl
 ·simp only [R6];rcases Dj E lend pm s (j+l.length) rest with _|⟨as,ls⟩<;>rfl
variable (lend:Bool) (j:Nat) (L:AJ)
theorem A4i(T:Tys)(k:IntKind)(n:Int):K9 T lend pm s j L (.int k n)=Da lend pm s j L (.int k n):=nr rfl
theorem A0s(T:Tys)(b:Bool):K9 T lend pm s j L (.bool b)=Da lend pm s j L (.bool b):=nr rfl
theorem ABM(T:Tys)(e:ab)(xs:List D):K9 T lend pm s j L (.sl e xs)=Da lend pm s j L (.sl e xs):=nr rfl
theorem A4j(T:Tys)(f:am)(xs:List D):K9 T lend pm s j L (.clo f xs)=Da lend pm s j L (.clo f xs):=nr rfl
theorem axK(T:Tys)(v:Value):K9 T lend pm s j L (.konst v)=Da lend pm s j L (.konst v):=nr rfl
theorem A4k(T:Tys)(e:ab)(xs:List D):K9 T lend pm s j L (.own e xs)=Da lend pm s j L (.own e xs):=nr rfl
theorem ABN(T:Tys)(M:AJ)(n m:Nat):K9 T lend pm s j L (.vw M n m)=Da lend pm s j L (.vw M n m):=nr rfl
theorem A4l(T:Tys)(xs:List D):K9 T lend pm s j L (.agg xs)=Da lend pm s j L (.agg xs):=nr rfl
theorem A4m(k:IntKind)(n:Int):Da lend pm s j L (.int k n)=some (.int k n,[]):=nr rfl
theorem A0t(b:Bool):Da lend pm s j L (.bool b)=some (.bool b,[]):=nr rfl
theorem ABO(e:ab)(xs:List D):Da lend pm s j L (.sl e xs)=some (.sl e xs,[]):=nr rfl
theorem A4n(f:am)(xs:List D):Da lend pm s j L (.clo f xs)=some (.clo f xs,[]):=nr rfl
theorem atK(v:Value):Da lend pm s j L (.konst v)=some (.konst v,[]):=nr rfl
def fz1(l:List (AJ×D)):Option D→Option (D×List (AJ×D))
 |some c=>some (c,l)
 |none=>none
theorem ABP(l:List (AJ×D))(c:D):fz1 l (some c)=some (c,l):=nr rfl
theorem A4o(e:ab)(xs:List D):Da false pm s j L (.own e xs)=fz1 [(L,.own e xs)] (EG (.own e xs)):=by
 show((EG (.own e xs)).map fun c'=>(c',[(L,D.own e xs)]))=_
 cases EG (.own e xs)<;>rfl
def fz2(L:AJ):Option D→Option (D×List (AJ×D))
 |some c=>fz1 [(L,c)] (EG c)
 |none=>none
theorem ABR(c:D):fz2 L (some c)=fz1 [(L,c)] (EG c):=nr rfl
theorem ABS(M:AJ)(n m:Nat):Da false pm s j L (.vw M n m)=fz2 M (s.look pm M n m):=by
 simp only [Da,Ej]
 cases s.look pm M n m with
 |none=>rfl
 |some c=>simp only [fz2];cases EG c<;>rfl
def ln2(j:Nat)(L:AJ):Option D→Option (D×List (AJ×D))
 |some c=>some (.vw [G+j] 0 0,[(L,c)])
 |none=>none
theorem ABT(c:D):ln2 j L (some c)=some (.vw [G+j] 0 0,[(L,c)]):=nr rfl
theorem A4p(M:AJ)(n m:Nat):Da true pm s j L (.vw M n m)=ln2 j M (s.look pm M n m):=by
 simp only [Da,Ej]
 cases s.look pm M n m<;>rfl
def ag1:Option (List D×List (AJ×D))→Option (D×List (AJ×D))
 |some r=>some (.agg r.1,r.2)
 |none=>none
theorem ABU(r:List D×List (AJ×D)):ag1 (some r)=some (.agg r.1,r.2):=nr rfl
theorem A4q(xs:List D):Da lend pm s j L (.agg xs)=ag1 (EH lend pm s L j 0 xs):=by
 simp only [Da]
 cases EH lend pm s L j 0 xs<;>rfl
def lQ(lend:Bool)(pm:Pm)(s:St)(L0:AJ)(j i:Nat)(ds:List D):Option (D×List (AJ×D))→Option (List D×List (AJ×D))
 |some (a,l)=>ZB a l (EH lend pm s L0 (j+l.length) (i+1) ds)
 |none=>none
theorem A0u(i:Nat)(ds:List D)(a:D)(l:List (AJ×D)):lQ lend pm s L j i ds (some (a,l))=ZB a l (EH lend pm s L (j+l.length) (i+1) ds):=nr rfl
theorem A4r(i:Nat):EH lend pm s L j i []=some ([],[]):=nr rfl
theorem A0v(i:Nat)(d:D)(ds:List D)(h:d.isAgg=false):EH lend pm s L j i (d::ds)=lQ lend pm s L j i ds (Da lend pm s j (L++[i]) d):=by
 have:Da lend pm s j (L++[i]) d=Ej lend pm s j (L++[i]) d:=by cases d<;>first|rfl|(simp [D.isAgg]at h)
 rw [this];simp only [EH];rcases Ej lend pm s j (L++[i]) d with _|⟨a,l⟩
 ·rfl
 ·simp only [lQ];rcases EH lend pm s L (j+l.length) (i+1) ds with _|⟨as,ls⟩<;>rfl
theorem A4s(k:IntKind)(n:Int):(D.int k n).isAgg=false:=nr rfl
theorem ABV(e:ab)(xs:List D):(D.sl e xs).isAgg=false:=nr rfl
theorem A4t(e:ab)(xs:List D):(D.own e xs).isAgg=false:=nr rfl
theorem ABW(M:AJ)(n m:Nat):(D.vw M n m).isAgg=false:=nr rfl
def cb1(E:Env)(pm:Pm)(s:St)(dst:Option Tmp)(f:am)(caps:List D):Option (List D×List (AJ×D))→Option St
 |none=>none
 |some (as,ls)=>
  match E.call f (as++caps) []with
  |some (r,_)=>
   if Dn r then
    if En (ls.map (·.1))&&ls.all (fun l=>pm.wr (l.1.headD 0))then(IC ls).map fun ls'=>(back false s ls').putO dst r else none
   else some (s.putO dst r)
  |none=>none
theorem cdB(f:am)(xs:List (ac×ab))(caps:List D)(h:E.lends f=false):Fh E pm s dst f xs caps=cb1 E pm s dst f caps (Dj E false pm s 0 xs):=by
 unfold Fh cb1;rw [h];simp only [JF,if_false];rcases Dj E false pm s 0 xs with _|⟨as,ls⟩<;>rfl
def cb2(pm:Pm)(s:St)(dst:Option Tmp)(ls:List (AJ×D)):Option (D×List D)→Option St
 |some (r,_)=>
   if Dn r then
    if En (ls.map (·.1))&&ls.all (fun l=>pm.wr (l.1.headD 0))then(IC ls).map fun ls'=>(back false s ls').putO dst r else none
   else some (s.putO dst r)
 |none=>none
theorem ABX(f:am)(caps as:List D)(ls:List (AJ×D)):cb1 E pm s dst f caps (some (as,ls))=cb2 pm s dst ls (E.call f (as++caps) []):=by
 simp only [cb1];rcases E.call f (as++caps) []with _|⟨r,o⟩<;>rfl
theorem ABY(ls:List (AJ×D))(r:D)(o:List D)(h:Dn r=false):cb2 pm s dst ls (some (r,o))=some (s.putO dst r):=by simp [cb2,h]
theorem ABZ(r:D)(o:List D):cb2 pm s dst [] (some (r,o))=some (s.putO dst r):=by
 simp only [cb2];split<;>rfl
def cl1(E:Env)(pm:Pm)(s:St)(dst:Option Tmp)(f:am)(caps:List D):Option (List D×List (AJ×D))→Option St
 |none=>none
 |some (as,ls)=>
   if En (ls.map (·.1))&&ls.all (fun l=>pm.wr (l.1.headD 0))&&ls.all (fun l=>Zq l.2)then
    match E.call f (as++caps) (ls.map (·.2))with
    |some (r,outs)=>if outs.length=ls.length then some ((Jf s (ls.map (·.1)) outs).putO dst r)else none
    |none=>none
   else none
theorem cdL(f:am)(xs:List (ac×ab))(caps:List D)(h:E.lends f=true):Fh E pm s dst f xs caps=cl1 E pm s dst f caps (Dj E true pm s 0 xs):=by
 unfold Fh cl1;rw [h];simp only [if_true];rcases Dj E true pm s 0 xs with _|⟨as,ls⟩<;>rfl
def cl2(s:St)(dst:Option Tmp)(ls:List (AJ×D)):Option (D×List D)→Option St
 |some (r,outs)=>if outs.length=ls.length then some ((Jf s (ls.map (·.1)) outs).putO dst r)else none
 |none=>none
theorem ABb(f:am)(caps as:List D)(ls:List (AJ×D))(h:(En (ls.map (·.1))&&ls.all (fun l=>pm.wr (l.1.headD 0))&&ls.all (fun l=>Zq l.2))=true):cl1 E pm s dst f caps (some (as,ls))=cl2 s dst ls (E.call f (as++caps) (ls.map (·.2))):=by
 simp only [cl1,h,if_true];rcases E.call f (as++caps) (ls.map (·.2))with _|⟨r,o⟩<;>rfl
theorem ABc(ls:List (AJ×D))(r:D)(outs:List D)(h:outs.length=ls.length):cl2 s dst ls (some (r,outs))=some ((Jf s (ls.map (·.1)) outs).putO dst r):=by simp [cl2,h]
end
theorem A4u(k:IntKind)(n:Int):Dn (.int k n)=false:=by simp [Dn]
theorem A0x(b:Bool):Dn (.bool b)=false:=by simp [Dn]
theorem A4v(e:ab)(xs:List D):Dn (.own e xs)=Dp xs:=by simp [Dn]
theorem A4w(xs:List D):Dn (.agg xs)=Dp xs:=by simp [Dn]
theorem A4x(xs:List D):Dn (.tup xs)=Dp xs:=by simp [Dn]
theorem A0y:Dp []=false:=by simp [Dp]
theorem qN(d:D)(ds:List D):Dp (d::ds)=(Dn d||Dp ds):=by simp [Dp]
theorem A4y(k:IntKind)(n:Int):EG (.int k n)=some (.int k n):=by simp [EG]
theorem A0z(b:Bool):EG (.bool b)=some (.bool b):=by simp [EG]
theorem ABd(e:ab)(xs:List D):EG (.sl e xs)=some (.sl e xs):=by simp [EG]
theorem A4z(f:am)(xs:List D):EG (.clo f xs)=some (.clo f xs):=by simp [EG]
def fzM(f:List D→D):Option (List D)→Option D
 |some xs=>some (f xs)
 |none=>none
theorem ABe(f:List D→D)(xs:List D):fzM f (some xs)=some (f xs):=nr rfl
theorem tV(e:ab)(xs:List D):EG (.own e xs)=fzM (.sl e) (DY xs):=by simp only [EG];cases DY xs<;>rfl
theorem A50(xs:List D):EG (.agg xs)=fzM .agg (DY xs):=by simp only [EG];cases DY xs<;>rfl
theorem A51(xs:List D):EG (.tup xs)=fzM .tup (DY xs):=by simp only [EG];cases DY xs<;>rfl
theorem A10:DY []=some []:=by simp [DY]
def fzC:Option D→Option (List D)→Option (List D)
 |some d,some ds=>some (d::ds)
 |_,_=>none
theorem ABf(d:D)(ds:List D):fzC (some d) (some ds)=some (d::ds):=nr rfl
theorem eH(d:D)(ds:List D):DY (d::ds)=fzC (EG d) (DY ds):=by
 simp only [DY];cases EG d<;>cases DY ds<;>rfl
theorem ABg(d:D):Zq d=(EG d).isSome:=nr rfl
section
variable {T:Tys} {s:St}
def ou(n:Nat):Option (D×St)→Option (D×List D)
 |none=>none
 |some (r,s')=>if Zq r&&((an n).map fun j=>s'.v (G+j)).all jc then some (r,(an n).map fun j=>s'.v (G+j))else none
theorem fiD(n:Nat)(rs:List ResultVar):Wj T n rs s=ou n (MI T s rs):=by
 unfold Wj ou;rcases MI T s rs with _|⟨r,s'⟩<;>rfl
theorem fi0(r:D):ou 0 (some (r,s))=if Zq r then some (r,[])else none:=by simp [ou]
theorem fiA(r:D):ou 1 (some (r,s))=if Zq r&&jc (s.v 100000)then some (r,[s.v 100000])else none:=by
 simp [ou,G,List.range_succ]
theorem fiB(r:D):ou 2 (some (r,s))=if Zq r&&(jc (s.v 100000)&&jc (s.v 100001))then some (r,[s.v 100000,s.v 100001])else none:=by
 simp [ou,G,List.range_succ,and_assoc]
theorem fiC(r:D):ou 3 (some (r,s))=if Zq r&&(jc (s.v 100000)&&(jc (s.v 100001)&&jc (s.v 100002)))then some (r,[s.v 100000,s.v 100001,s.v 100002])else none:=by
 simp [ou,G,List.range_succ,and_assoc]
theorem A11(e:ab)(xs:List D):jc (.own e xs)=(EG (.own e xs)).isSome:=nr rfl
theorem ABh:jc .undef=true:=nr rfl
theorem re1(r:ResultVar):MI T s [r]=Sg T s r:=nr rfl
def reT:Option (List D×St)→Option (D×St)
 |some q=>some (.tup q.1,q.2)
 |none=>none
theorem ABi(q:List D×St):reT (some q)=some (.tup q.1,q.2):=nr rfl
theorem re2(r r':ResultVar)(rs:List ResultVar):MI T s (r::r'::rs)=reT (Lf T s (r::r'::rs)):=by
 show((Lf T s (r::r'::rs)).map fun q=>(D.tup q.1,q.2))=_
 cases Lf T s (r::r'::rs)<;>rfl
theorem A52(t:Tmp):Sg T s (.tmp t)=Zr Pm.all s t (s.v t):=nr rfl
theorem A53:Lf T s []=some ([],s):=nr rfl
def rdN(T:Tys)(rs:List ResultVar):Option (D×St)→Option (List D×St)
 |some (d,s)=>(Lf T s rs).map fun p=>(d::p.1,p.2)
 |none=>none
theorem ABj(rs:List ResultVar)(d:D):rdN T rs (some (d,s))=(Lf T s rs).map fun p=>(d::p.1,p.2):=nr rfl
theorem A12(r:ResultVar)(rs:List ResultVar):Lf T s (r::rs)=rdN T rs (Sg T s r):=by
 simp only [Lf];rcases Sg T s r with _|⟨d,s'⟩<;>rfl
theorem ABk(r:Nat):Pm.all.rd r=true:=nr rfl
theorem ABl(r:Nat):Pm.all.wr r=true:=nr rfl
def iD(s:St)(dst:Option Tmp)(u:Tmp)(i:Nat):Option D→Option St
 |none=>none
 |some (.agg ys)=>JV s dst (DF (.agg ((an ys.length).map fun j=>Fb s [u,i] j (ys.getD j .undef))))
 |some c=>JV s dst (DF (Fb s [u] i c))
theorem A54(dst:Option Tmp)(u:Tmp)(xs:List D)(i:Nat):Hw s dst (.tmp u) (.tup xs) i=iD s dst u i xs[i]? :=by
 simp only [Hw];rcases xs[i]? with _|c
 ·rfl
 ·cases c<;>first|exact II s dst _|rfl
theorem A55(dst:Option Tmp)(u:Tmp)(i:Nat)(k:IntKind)(n:Int):iD s dst u i (some (.int k n))=some (s.putO dst (.int k n)):=by simp [iD,DF,Fb,D.hasObj,JV]
theorem A13(dst:Option Tmp)(u:Tmp)(i:Nat)(b:Bool):iD s dst u i (some (.bool b))=some (s.putO dst (.bool b)):=by simp [iD,DF,Fb,D.hasObj,JV]
theorem A56(xs:List D)(c:Nat)(p:AJ):BL (.tup xs) (c::p)=(xs[c]?).bind fun d=>BL d p:=nr rfl
theorem ABm(L:AJ)(xs:List D)(c:D):pl2 s L (some (.tup xs)) (some c)=some (c,s.set L .undef):=nr rfl
theorem A57(deep:Bool):back deep s []=s:=nr rfl
theorem bkT(t:Nat)(p:AJ)(c:D)(rest:List (AJ×D)):back true s ((t::p,c)::rest)=back true ((s.set (t::p) c).bump t) rest:=nr rfl
theorem bkF(t:Nat)(p:AJ)(c:D)(rest:List (AJ×D)):back false s ((t::p,c)::rest)=back false (s.set (t::p) c) rest:=nr rfl
theorem bkL(Ls:List AJ)(outs:List D):Jf s Ls outs=back true (back false s (Ls.map fun L=>(L,.undef))) (Ls.zip outs):=nr rfl
theorem A58:En []=true:=nr rfl
theorem A14(L:AJ)(Ls:List AJ):En (L::Ls)=((L.isEmpty||Ls.all fun M=>M.isEmpty||(!L.isPrefixOf M&& !M.isPrefixOf L))&&En Ls):=nr rfl
theorem ieC(a:Nat)(l:AJ):List.isEmpty (a::l)=false:=nr rfl
end
section
variable {T:Tys} {pm:Pm} {s:St}
def fl1(T:Tys)(pm:Pm)(tf:Nat→ab)(sz:Nat)(cs:List D)(i:Nat)(rest:List (Nat×ac)):Option (D×St)→Option (List D×St)
 |none=>none
 |some (d,s1)=>if d.asCells.length=sz∧i*sz+sz≤cs.length then Fg T pm tf sz s1 (Bt cs (i*sz) d.asCells) rest else none
theorem A59(tf:Nat→ab)(sz:Nat)(cs:List D):Fg T pm tf sz s cs []=some (cs,s):=nr rfl
theorem A15(tf:Nat→ab)(sz:Nat)(cs:List D)(i:Nat)(x:ac)(rest:List (Nat×ac)):Fg T pm tf sz s cs ((i,x)::rest)=fl1 T pm tf sz cs i rest (take T pm s (tf i) x):=by
 simp only [Fg];rcases take T pm s (tf i) x with _|⟨d,s1⟩<;>rfl
theorem ABo(tf:Nat→ab)(cs:List D)(i:Nat)(rest:List (Nat×ac))(d:D)(h:d.isAgg=false):fl1 T pm tf 1 cs i rest (some (d,s))=if i+1≤cs.length then Fg T pm tf 1 s (cs.set i d) rest else none:=by
 have ha:d.asCells=[d]:=by cases d<;>first|rfl|(simp [D.isAgg]at h)
 simp only [fl1,ha,OI,SI,JG,Mw,true_and,Bt]
end
section
variable (pm:Pm) (s:St) (u:Tmp)
def bR(pm:Pm)(u:Tmp)(d:D):Bool:= !d.hasObj||d.isObj||pm.wr u
theorem mvT:Ka pm s (.move (.tmp u))=bR pm u (s.v u):=nr rfl
theorem A16(k:IntKind)(n:Int):bR pm u (.int k n)=true:=by simp [bR,D.hasObj]
theorem qO(b:Bool):bR pm u (.bool b)=true:=by simp [bR,D.hasObj]
theorem A5A(e:ab)(xs:List D):bR pm u (.sl e xs)=true:=by simp [bR,D.hasObj]
theorem A17(e:ab)(xs:List D):bR pm u (.own e xs)=true:=by simp [bR,D.isObj]
theorem A5B(L:AJ)(n m:Nat):bR pm u (.vw L n m)=true:=by simp [bR,D.hasObj]
theorem ABp(v:Value):bR pm u (.konst v)=true:=by simp [bR,D.hasObj]
theorem lS(x:ac):Ka pm s (.assign x)=true:=nr rfl
theorem A18(a b c:ac):Ka pm s (.pick a b c)=true:=nr rfl
theorem qP(t:ab)(p:Array (Nat×ac)):Ka pm s (.build t p)=true:=nr rfl
theorem A19(t:ab)(x:ac):Ka pm s (.load t x)=true:=nr rfl
theorem qQ(t:ab)(x y:ac):Ka pm s (.store t x y)=true:=nr rfl
theorem A5C(o:BinOp)(t:ab)(x y:ac)(t':ab):Ka pm s (.binOp o t x y t')=true:=nr rfl
theorem ABq(o:UnOp)(t:ab)(x:ac):Ka pm s (.unOp o t x)=true:=nr rfl
theorem ABr(t:ab)(x:ac)(i:Nat):Ka pm s (.fieldAddr t x i)=true:=nr rfl
theorem ABs(t:ab)(x i:ac):Ka pm s (.indexAddr t x i)=true:=nr rfl
theorem A1A(c:Call):Ka pm s (.call c)=true:=nr rfl
theorem pmR(n r w:List Nat)(x:Nat):(PmL.pm ⟨n,r,w⟩).rd x=(n.contains x|| !r.contains x):=nr rfl
theorem pmW(n r w:List Nat)(x:Nat):(PmL.pm ⟨n,r,w⟩).wr x=w.contains x:=nr rfl
section
variable {E:Env} {dst:Option Tmp} {t ty:ab}
theorem ABt(t:ab):KO E pm s dst (.makeMap t none) ty=JV s dst (KJ E.T t):=II s dst _
theorem yLk(v:Tmp)(ok:Bool):KO E pm s dst (.lookup t (.tmp u) (.tmp v) ok) ty=JV s dst (Iw E.T pm s t (.tmp u) (s.v u) (s.v v) ok):=II s dst _
theorem yMu(v x:Tmp):KO E pm s none (.mapUpdate t (.tmp u) (.tmp v) (.tmp x)) ty=K8 E.T pm s t (.tmp u) (s.v u) (s.v v) (s.v x):=nr rfl
def nm1:Ty→Ty→Option (List (Nat×ab))→Option (Bool×Nat)
 | .int .i64,.int .i64,none=>some (true,2)
 |_,_,_=>none
def nmA(n:Nat):Ty→Option (Bool×Nat)
 | .int .i64=>some (true,n)
 |_=>none
theorem ABu(n:Nat):nmA n (.int .i64)=some (true,n):=nr rfl
def nm0(T:Tys)(t:ab):Ty→Option (Bool×Nat)
 | .int .i64=>some (false,1)
 | .struct [a,b]=>nm1 (T.ty a) (T.ty b) (T.nest t)
 | .arr n e=>nmA n (T.ty e)
 |_=>none
theorem A5D(T:Tys)(t:ab):T.nums t=nm0 T t (T.ty t):=by
 unfold Tys.nums nm0;split
 ·rename_i h;rw [h]
 ·rename_i a b h;rw [h];unfold nm1;rfl
 ·rename_i h;rw [h];unfold nmA;rfl
 ·rename_i h1 h2 h3
  cases h:T.ty t with
  |int k=>cases k<;>first|rfl|exact(h1 h).elim
  |struct fs=>
   rcases fs with _|⟨a,_|⟨b,_|⟨c,l⟩⟩⟩
   ·rfl
   ·rfl
   ·exact(h2 a b h).elim
   ·rfl
  |arr n e=>exact(h3 n e h).elim
  |_=>rfl
theorem ABv(T:Tys)(t n:Nat)(e:ab):nm0 T t (.arr n e)=nmA n (T.ty e):=nr rfl
theorem ABw(T:Tys)(t:ab):nm0 T t (.int .i64)=some (false,1):=nr rfl
def mm1(k e:ab):Option (Bool×Nat)→Option (Bool×Nat)→Option D
 |some _,some _=>some (.mp k e [])
 |_,_=>none
def mm0(T:Tys):Ty→Option D
 | .map k e=>mm1 k e (T.nums k) (T.nums e)
 |_=>none
theorem yMm(T:Tys)(t:ab):KJ T t=mm0 T (T.ty t):=by
 unfold KJ mm0
 cases T.ty t with
 |map k e=>simp only [mm1];cases T.nums k<;>cases T.nums e<;>rfl
 |_=>rfl
theorem ABy(T:Tys)(k e:ab):mm0 T (.map k e)=mm1 k e (T.nums k) (T.nums e):=nr rfl
def lkR(ea ok:Bool)(r:AL×Bool):D:=if ok=true then .tup [Od ea r.1,.bool r.2]else Od ea r.1
def lk2(ea ok:Bool)(es:List (AL×AL))(en:Nat):Option AL→Option D
 |some key=>some (lkR ea ok (Mx es key en))
 |none=>none
theorem AC0(ea ok:Bool)(es:List (AL×AL))(en:Nat)(key:AL):lk2 ea ok es en (some key)=some (lkR ea ok (Mx es key en)):=nr rfl
def lk1(es:List (AL×AL))(k' e' k e:ab)(i:D)(ok:Bool):Option (Bool×Nat)→Option (Bool×Nat)→Option D
 |some (ka,kn),some (ea,en)=>if k'=k∧e'=e then lk2 ea ok es en (JM ka kn i)else none
 |_,_=>none
def lk0(T:Tys)(es:List (AL×AL))(k' e':ab)(i:D)(ok:Bool):Ty→Option D
 | .map k e=>lk1 es k' e' k e i ok (T.nums k) (T.nums e)
 |_=>none
def lkW(T:Tys)(i:D)(ok:Bool)(ty:Ty):Option (ab×ab×List (AL×AL))→Option D
 |some (k',e',es)=>lk0 T es k' e' i ok ty
 |none=>none
theorem AC2(T:Tys)(i:D)(ok:Bool)(ty:Ty)(k' e':ab)(es:List (AL×AL)):lkW T i ok ty (some (k',e',es))=lk0 T es k' e' i ok ty:=nr rfl
theorem A1B(T:Tys)(x:ac)(L:AJ)(n m:Nat)(i:D)(ok:Bool):Iw T pm s t x (.vw L n m) i ok=lkW T i ok (T.ty t) (s.lookM pm L n):=by
 unfold Iw lkW lk0;simp only [SX]
 cases s.lookM pm L n with
 |none=>cases T.ty t<;>rfl
 |some q=>
  cases T.ty t with
  |map k e=>
   simp only [lk1,Mv]
   cases T.nums k<;>cases T.nums e<;>try rfl
   simp only;split
   ·cases JM _ _ i<;>rfl
   ·rfl
  |_=>rfl
theorem AC3(T:Tys)(es:List (AL×AL))(k' e' k e:ab)(i:D)(ok:Bool):lk0 T es k' e' i ok (.map k e)=lk1 es k' e' k e i ok (T.nums k) (T.nums e):=nr rfl
theorem AC4(es:List (AL×AL))(k e:ab)(i:D)(ok ka ea:Bool)(kn en:Nat):lk1 es k e k e i ok (some (ka,kn)) (some (ea,en))=lk2 ea ok es en (JM ka kn i):=by simp [lk1]
theorem A5F(x:Int):JM false 1 (.int .i64 x)=some [x]:=nr rfl
def mu2(s:St)(u:Tmp)(k e:ab)(es:List (AL×AL)):Option AL→Option AL→Option St
 |some key,some val=>some (s.set [u] (.mp k e (QL es key val)))
 |_,_=>none
theorem AC6(k e:ab)(es:List (AL×AL))(key val:AL):mu2 s u k e es (some key) (some val)=some (s.set [u] (.mp k e (QL es key val))):=nr rfl
def mu1(pm:Pm)(s:St)(u:Tmp)(es:List (AL×AL))(k' e' k e:ab)(i v:D):Option (Bool×Nat)→Option (Bool×Nat)→Option St
 |some (ka,kn),some (ea,en)=>if k'=k∧e'=e∧pm.wr u=true then mu2 s u k e es (JM ka kn i) (JM ea en v)else none
 |_,_=>none
def mu0(T:Tys)(pm:Pm)(s:St)(u:Tmp)(es:List (AL×AL))(k' e':ab)(i v:D):Ty→Option St
 | .map k e=>mu1 pm s u es k' e' k e i v (T.nums k) (T.nums e)
 |_=>none
def muW(T:Tys)(pm:Pm)(s:St)(u:Tmp)(i v:D)(ty:Ty):Option (ab×ab×List (AL×AL))→Option St
 |some (k',e',es)=>mu0 T pm s u es k' e' i v ty
 |none=>none
theorem AC8(T:Tys)(i v:D)(ty:Ty)(k' e':ab)(es:List (AL×AL)):muW T pm s u i v ty (some (k',e',es))=mu0 T pm s u es k' e' i v ty:=nr rfl
theorem A5H(T:Tys)(x:ac)(n m:Nat)(i v:D):K8 T pm s t x (.vw [u] n m) i v=muW T pm s u i v (T.ty t) (s.lookM pm [u] n):=by
 unfold K8 muW mu0;simp only [SX]
 cases s.lookM pm [u] n with
 |none=>cases T.ty t<;>rfl
 |some q=>
  cases T.ty t with
  |map k e=>
   simp only [mu1,Mv]
   cases T.nums k<;>cases T.nums e<;>rfl
  |_=>rfl
theorem AC9(T:Tys)(es:List (AL×AL))(k' e' k e:ab)(i v:D):mu0 T pm s u es k' e' i v (.map k e)=mu1 pm s u es k' e' k e i v (T.nums k) (T.nums e):=nr rfl
theorem ACA(es:List (AL×AL))(k e:ab)(i v:D)(ka ea:Bool)(kn en:Nat)(hw:pm.wr u=true):mu1 pm s u es k e k e i v (some (ka,kn)) (some (ea,en))=mu2 s u k e es (JM ka kn i) (JM ea en v):=by simp [mu1,hw]
theorem QY{α β:Type}(f:α→β)(p:β→Bool)(q:α→Bool)(h: ∀a,p (f a)=q a): ∀(l:List α),(l.map f).find? p=(l.find? q).map f∧(l.map f).findIdx? p=l.findIdx? q
 | []=>⟨rfl,rfl⟩
 |a::l=>by
  obtain⟨h1,h2⟩:=QY f p q h l;simp only [PD,List.find?_cons,List.findIdx?_cons,h]
  cases q a
  ·exact⟨h1,by simp only [h2]⟩
  ·exact⟨rfl,rfl⟩
def J4(l:List (AL×Int))(k:AL):Int×Bool:=match l.find? (fun p=>p.1==k)with|some p=>(p.2,true)|none=>(0,false)
def Ta(l:List (AL×Int))(k:AL)(v:Int):List (AL×Int):=match l.findIdx? (fun p=>p.1==k)with|some i=>l.set i (k,v)|none=>l++[(k,v)]
def Pg(l:List (AL×Int)):List (AL×AL):=l.map fun p=>(p.1,[p.2])
theorem A5I(k e:ab):mm1 k e (some (true,14)) (some (false,1))=some (.mp k e (Pg [])):=nr rfl
theorem lT(l:List (AL×Int))(k:AL):Mx (Pg l) k 1=([(J4 l k).1],(J4 l k).2):=by
 unfold Mx J4 Pg;rw [(QY _ _ (fun p=>p.1==k) (fun p=>by simp) l).1]
 cases l.find? (fun p=>p.1==k)<;>rfl
theorem lU(l:List (AL×Int))(k:AL)(v:Int):QL (Pg l) k [v]=Pg (Ta l k v):=by
 unfold QL Ta Pg;rw [(QY _ _ (fun p=>p.1==k) (fun p=>by simp) l).2]
 cases l.findIdx? (fun p=>p.1==k)<;>simp [List.map_set]
theorem lV(l:List (AL×Int)):(Pg l).length=l.length:=by simp [Pg]
theorem ACB(x:Int)(b:Bool):lkR false true ([x],b)= .tup [.int .i64 x,.bool b]:=nr rfl
theorem ACC(x y:Int)(b:Bool):lkR true true ([x,y],b)= .tup [.agg [.int .i64 x,.int .i64 y],.bool b]:=nr rfl
set_option linter.defProp false in
def ACD:=A7 @ABt (A7 @yLk (A7 @yMu (A7 @A5D (A7 @ABw (A7 @yMm (A7 @ABy (A7 @AC0 (A7 @AC3 (A7 @AC4 (A7 @A5F (A7 @AC6 (A7 @AC9 (A7 @ACA (A7 @ACB (A7 @AC2 (A7 @A1B (A7 @AC8 (A7 @A5H (A7 @ABu (A7 @ABv (A7 @A5I (A7 @lT (A7 @lU (A7 @lV (A7 @AAq (A7 @A0h (@ACC)))))))))))))))))))))))))))
end
end
end Dv
namespace Dv
open Go
theorem Lb(n:Int)(h: -9223372036854775808≤n∧n≤9223372036854775807):IntKind.i64.wrap n=n:=IntWalk.i64_in n h
section
variable {T:Tys} {pm:Pm} {s:St} {t:ab}
theorem Rs(xs:AL)(i:Nat)(h:i<xs.length):(I5 xs)[i]? =some (.int .i64 (xs.getD i 0)):=by
 simp [I5,K5,h]
theorem WI(x:Int)(xs:AL):I5 (x::xs)= .int .i64 x::I5 xs:=nr rfl
variable {E:Env} {dst:Option Tmp} {ty:ab}
def A5J(e:ab)(dst:Option Tmp):Option (List D×St)→Option St
 |some (xs,s)=>some (s.putO dst (.own e xs))
 |none=>none
theorem A5K(e:ab)(xs:List D):A5J e dst (some (xs,s))=some (s.putO dst (.own e xs)):=nr rfl
def jB(dst:Option Tmp):Option (List D×St)→Option St
 |some (xs,s)=>some (s.putO dst (.agg xs))
 |none=>none
theorem A5L(xs:List D):jB dst (some (xs,s))=some (s.putO dst (.agg xs)):=nr rfl
theorem Tc(T:Tys){e:ab}(hs:T.isStruct e=false):T.size e=1∧T.zeros e=[T.zero1 e]:=by
 unfold Tys.isStruct at hs;unfold Tys.size Tys.zeros
 cases hty:T.ty e<;>simp_all [Ty.isStruct,Ty.size]
def qR(E:Env)(pm:Pm)(s:St)(dst:Option Tmp)(len:Nat)(parts:Array (Nat×ac)):Ty→Option St
 | .slice e=>
   if len*E.T.size e≤4096∧E.T.known e=true then
    (Fg E.T pm (fun _=>e) (E.T.size e) s ((an (len*E.T.size e)).map fun j=>(E.T.zeros e).getD (j % E.T.size e) .undef) parts.toList).map fun r=>r.2.putO dst (.own e r.1)
   else none
 |_=>none
theorem A1C(len:Nat)(parts:Array (Nat×ac)):Sa E.T pm s dst t len parts=qR E pm s dst len parts (E.T.ty t):=by
 unfold Sa qR
 cases E.T.ty t<;>rfl
theorem yBs(len:Nat)(parts:Array (Nat×ac)):KO E pm s dst (.buildSlice t len parts) ty=if ty=900004 then fcB pm dst (qR E pm s dst len parts (E.T.ty t))else qR E pm s dst len parts (E.T.ty t):=by
 rw [TY,A1C];by_cases h:ty=900004
 ·rw [if_pos h,if_pos h];unfold fcB
  cases qR E pm s dst len parts (E.T.ty t)<;>cases dst<;>rfl
 ·rw [if_neg h,if_neg h]
theorem ACE(len:Nat)(parts:Array (Nat×ac))(e:ab)(hk:E.T.known e=true)(hs:E.T.isStruct e=false)(hl:len≤4096):
  qR E pm s dst len parts (.slice e)=A5J e dst (Fg E.T pm (fun _=>e) 1 s (ao len (E.T.zero1 e)) parts.toList):=by
 obtain⟨hz,hzz⟩:=Tc E.T hs
 have hrep:((an (len*1)).map fun j=>(E.T.zeros e).getD (j % 1) .undef)=ao len (E.T.zero1 e):=by
  rw [hzz];apply List.ext_getElem
  ·simp
  ·intro i h1 h2;simp [Nat.mod_one]
 simp only [qR,hz];rw [if_pos ⟨by omega,hk⟩,hrep]
 rcases Fg E.T pm (fun _=>e) 1 s (ao len (E.T.zero1 e)) parts.toList with _|⟨a,b⟩<;>rfl
def bsA(E:Env)(e:ab)(dst:Option Tmp):Option (D×St)→Option St
 |some (d,s1)=>if d.asCells.length=E.T.size e then some (s1.putO dst (.own e d.asCells))else none
 |none=>none
theorem ACG(e:ab)(xs:List D)(h:xs.length=E.T.size e):bsA E e dst (some (.agg xs,s))=some (s.putO dst (.own e xs)):=by
 show(if xs.length=E.T.size e then some (s.putO dst (.own e xs))else none)=_
 rw [if_pos h]
theorem ZC(cs ys:List D)(h:ys.length=cs.length):Bt cs 0 ys=ys:=by
 refine List.ext_getElem? fun i=> ?_;rw [He (by omega)]
 by_cases hi:i<ys.length
 ·rw [if_pos (by omega)];rfl
 ·rw [if_neg (by omega),bc (by omega),bc (by omega)]
theorem ACH(e:ab)(x:ac)(hk:E.T.known e=true)(hs:E.T.isStruct e=true)(hz:E.T.size e≤4096):qR E pm s dst 1 #[(0,x)] (.slice e)=bsA E e dst (take E.T pm s e x):=by
 simp only [qR,Fg];rw [if_pos ⟨by omega,hk⟩]
 rcases take E.T pm s e x with _|⟨d,s1⟩
 ·rfl
 ·simp only [bsA];by_cases h:d.asCells.length=E.T.size e
  ·rw [if_pos ⟨h,by simp⟩,if_pos h,Nat.zero_mul,ZC _ _ (by simp [h])];rfl
  ·rw [if_neg (fun hc=>h hc.1),if_neg h];rfl
theorem ACI(u:Tmp)(e:ab)(L:AJ)(n m lo len:Nat):BP pm s dst (.tmp u) (.vs e L n m lo len)=some (s.putO dst (.vs e L n m lo len)):=by
 show some (if(D.vs e L n m lo len).hasObj then(s.clr u).putO dst (.vs e L n m lo len)else s.putO dst (.vs e L n m lo len))=_
 rw [if_neg (by simp [D.hasObj])]
def bdN(E:Env)(pm:Pm)(s:St)(dst:Option Tmp)(t:ab)(parts:Array (Nat×ac)):Option St:=
 match E.T.ty t with
 | .struct fs=>if E.T.known t then jB dst (Fg E.T pm (fun i=>fs.getD i 0) 1 s (E.T.zeros t) parts.toList)else none
 |_=>none
def bd0(E:Env)(pm:Pm)(s:St)(dst:Option Tmp)(t:ab)(parts:Array (Nat×ac)):Option (List (Nat×ab))→Option St
 |some fl=>if E.T.isStruct t&&E.T.known t then jB dst (Ih E.T pm fl s (E.T.zeros t) parts.toList)else none
 |none=>bdN E pm s dst t parts
theorem A1D(parts:Array (Nat×ac)):KO E pm s dst (.build t parts) ty=bd0 E pm s dst t parts (E.T.nest t):=by
 rw [iq];unfold bd0 bdN
 cases E.T.nest t with
 |some fl=>
  simp only;split
  ·rcases Ih E.T pm fl s (E.T.zeros t) parts.toList with _|⟨a,b⟩<;>rfl
  ·rfl
 |none=>
  simp only
  cases E.T.ty t with
  |struct fs=>
   simp only;split
   ·rcases Fg E.T pm (fun i=>fs.getD i 0) 1 s (E.T.zeros t) parts.toList with _|⟨a,b⟩<;>rfl
   ·rfl
  |_=>rfl
theorem ACJ(parts:Array (Nat×ac))(fl:List (Nat×ab))(hk:E.T.known t=true)(hs:E.T.isStruct t=true):bd0 E pm s dst t parts (some fl)=jB dst (Ih E.T pm fl s (E.T.zeros t) parts.toList):=by
 simp [bd0,hk,hs]
def bdT(E:Env)(pm:Pm)(s:St)(dst:Option Tmp)(t:ab)(parts:Array (Nat×ac)):Ty→Option St
 | .struct fs=>if E.T.known t then jB dst (Fg E.T pm (fun i=>fs.getD i 0) 1 s (E.T.zeros t) parts.toList)else none
 |_=>none
theorem ACK(parts:Array (Nat×ac)):bd0 E pm s dst t parts none=bdT E pm s dst t parts (E.T.ty t):=by
 show bdN E pm s dst t parts=_
 unfold bdN bdT
 cases E.T.ty t<;>rfl
theorem ACM(parts:Array (Nat×ac))(fs:List ab)(hk:E.T.known t=true):bdT E pm s dst t parts (.struct fs)=jB dst (Fg E.T pm (fun i=>fs.getD i 0) 1 s (E.T.zeros t) parts.toList):=by
 simp [bdT,hk]
def fn1(T:Tys)(pm:Pm)(fl:List (Nat×ab))(cs:List D)(off:Nat)(ty:ab)(rest:List (Nat×ac)):Option (D×St)→Option (List D×St)
 |none=>none
 |some (d,s1)=>if d.asCells.length=T.size ty∧off+T.size ty≤cs.length then Ih T pm fl s1 (Bt cs off d.asCells) rest else none
theorem A5O(T:Tys)(fl:List (Nat×ab))(cs:List D):Ih T pm fl s cs []=some (cs,s):=nr rfl
def fn0(T:Tys)(pm:Pm)(fl:List (Nat×ab))(s:St)(cs:List D)(x:ac)(rest:List (Nat×ac)):Option (Nat×ab)→Option (List D×St)
 |none=>none
 |some (off,ty)=>fn1 T pm fl cs off ty rest (take T pm s ty x)
theorem A1E(T:Tys)(fl:List (Nat×ab))(cs:List D)(i:Nat)(x:ac)(rest:List (Nat×ac)):Ih T pm fl s cs ((i,x)::rest)=fn0 T pm fl s cs x rest (fl[i]?):=by
 simp only [Ih];rcases fl[i]? with _|⟨off,ty⟩
 ·rfl
 ·simp only [fn0,fn1];rcases take T pm s ty x with _|⟨d,s1⟩<;>rfl
theorem ACO(T:Tys)(fl:List (Nat×ab))(cs:List D)(x:ac)(rest:List (Nat×ac))(off:Nat)(ty:ab):fn0 T pm fl s cs x rest (some (off,ty))=fn1 T pm fl cs off ty rest (take T pm s ty x):=nr rfl
theorem ACP(T:Tys)(fl:List (Nat×ab))(cs:List D)(off:Nat)(ty:ab)(rest:List (Nat×ac))(d:D)(h1:d.asCells.length=T.size ty)(h2:off+T.size ty≤cs.length):
  fn1 T pm fl cs off ty rest (some (d,s))=Ih T pm fl s (Bt cs off d.asCells) rest:=by simp only [fn1,h1,h2,and_self,if_true]
theorem fnA(ds:List D):(D.agg ds).asCells=ds:=nr rfl
theorem fnI(k:IntKind)(n:Int):(D.int k n).asCells=[.int k n]:=nr rfl
theorem fnO(e:ab)(xs:List D):(D.own e xs).asCells=[.own e xs]:=nr rfl
theorem spN(cs:List D)(c:Nat):Bt cs c []=cs:=by cases cs<;>rfl
theorem spC(cs:List D)(c:Nat)(y:D)(ys:List D):Bt cs c (y::ys)=Bt (cs.set c y) (c+1) ys:=by cases cs<;>rfl
def mk0(T:Tys)(n:Int):Ty→Option D
 | .slice e=>if 0≤n∧n<1099511627776∧T.elem e=true then
   if T.isStruct e=true then some (.own e (ao n.toNat (T.zeros e)).flatten)
   else if T.size e=1 then some (.own e (ao n.toNat (T.zero1 e)))else none
  else none
 |_=>none
theorem yMk(n:Int):EM T t (.int .i64 n) (.int .i64 n)=mk0 T n (T.ty t):=by
 unfold EM mk0
 cases T.ty t<;>simp
def qU(T:Tys)(q:Int):Ty→Option D
 | .slice e=>if 0≤q∧q<1099511627776∧T.elem e=true then
   if T.isStruct e=true then some (.own e [])
   else if T.size e=1 then some (.own e [])else none
  else none
 |_=>none
theorem ACQ(q:Int):EM T t (.int .i64 0) (.int .i64 q)=qU T q (T.ty t):=by
 unfold EM qU
 cases T.ty t<;>simp
theorem A5P(q:Int)(e:ab)(hk:T.known e=true)(h4:T.size e≤4)(h0:0≤q)(hn:q<1099511627776):qU T q (.slice e)=some (.own e []):=by
 simp only [qU];rw [if_pos ⟨h0,hn,Rq hk h4⟩];by_cases hs:T.isStruct e=true
 ·rw [if_pos hs]
 ·obtain⟨hz,_⟩:=Tc T (by simpa using hs)
  rw [if_neg hs,if_pos hz]
theorem ACR(n:Int)(e:ab)(hk:T.known e=true)(h4:T.size e≤4)(hs:T.isStruct e=false)(h0:0≤n)(hn:n<1099511627776):mk0 T n (.slice e)=some (.own e (ao n.toNat (T.zero1 e))):=by
 obtain⟨hz,_⟩:=Tc T hs;simp only [mk0];rw [if_pos ⟨h0,hn,Rq hk h4⟩,if_neg (by rw [hs];decide),if_pos hz]
theorem ACS(n:Int)(e:ab)(hk:T.known e=true)(h4:T.size e≤4)(hs:T.isStruct e=true)(h0:0≤n)(hn:n<1099511627776):mk0 T n (.slice e)=some (.own e (ao n.toNat (T.zeros e)).flatten):=by
 simp only [mk0];rw [if_pos ⟨h0,hn,Rq hk h4⟩,if_pos hs]
end
end Dv
namespace Dv
open Go
def lW(n:Int):Prop:= -9223372036854775808≤n∧n≤9223372036854775807
theorem lX{n:Int}(h:(Lit.int .i64 n).wf=true):lW n:=by
 have h1:IntKind.i64.min= -9223372036854775808:=by decide
 have h2:IntKind.i64.max=9223372036854775807:=by decide
 simp only [Lit.wf,h1,h2,FM,decide_eq_true_eq]at h;exact h
section
variable {T:Tys} {t e:ab} {d:D}
theorem A1F(ht:T.ty t= .int .i64)(h:Arg T t d): ∃n,d= .int .i64 n∧lW n:=by
 obtain⟨ds,hs,rfl⟩:=h
 cases hs with
 |int ht' hw=>rw [ht]at ht';injection ht' with ht';subst ht';exact⟨_,by simp [top,Tys.isStruct,ht,Ty.isStruct],lX hw⟩
 |bool ht'=>rw [ht]at ht';cases ht'
 |string ht'=>rw [ht]at ht';cases ht'
 |slice ht'=>rw [ht]at ht';cases ht'
 |struct ht'=>rw [ht]at ht';cases ht'
theorem bS{ds:List D}(ht:T.ty t= .int .i64)(h:Shp T t ds): ∃n,ds=[.int .i64 n]∧lW n:=by
 cases h with
 |int ht' hw=>rw [ht]at ht';injection ht' with ht';subst ht';exact⟨_,rfl,lX hw⟩
 |bool ht'=>rw [ht]at ht';cases ht'
 |string ht'=>rw [ht]at ht';cases ht'
 |slice ht'=>rw [ht]at ht';cases ht'
 |struct ht'=>rw [ht]at ht';cases ht'
theorem Td{ds:List D}(ht:T.ty t= .slice e)(h:Shp T t ds): ∃xss:List (List D),ds=[.sl e xss.flatten]∧(∀xs,xs∈xss→Shp T e xs)∧xss.length≤maxLen:=by
 cases h with
 |int ht' hw=>rw [ht]at ht';cases ht'
 |bool ht'=>rw [ht]at ht';cases ht'
 |string ht' hs=>rw [ht]at ht';cases ht'
 |slice ht' hx hl=>rw [ht]at ht';injection ht' with ht';subst ht';exact⟨_,rfl,hx,hl⟩
 |struct ht'=>rw [ht]at ht';cases ht'
theorem WJ{fs:List ab}{ds:List D}(ht:T.ty t= .struct fs)(h:Shp T t ds):ds.length=fs.length∧ ∀(i:Nat) (f:ab) (d:D),fs[i]? =some f→ds[i]? =some d→Shp T f [d]:=by
 cases h with
 |int ht' hw=>rw [ht]at ht';cases ht'
 |bool ht'=>rw [ht]at ht';cases ht'
 |string ht' hs=>rw [ht]at ht';cases ht'
 |slice ht' hx hl=>rw [ht]at ht';cases ht'
 |struct ht' hl hx=>rw [ht]at ht';injection ht' with ht';subst ht';exact⟨hl,hx⟩
def A1G(xs:AL):Prop:=xs.length≤maxLen∧ ∀x∈xs,lW x
theorem eO{ds:List D}(ht:T.ty t= .slice e)(he:T.ty e= .int .i64)(h:Shp T t ds): ∃xs,ds=[.sl e (I5 xs)]∧A1G xs:=by
 obtain⟨xss,rfl,hx,hl⟩:=Td ht h
 have: ∀xss:List (List D),(∀xs,xs∈xss→Shp T e xs)→ ∃ys,xss.flatten=I5 ys∧ys.length=xss.length∧ ∀y∈ys,lW y:=by
  intro xss
  induction xss with
  |nil=>intro _;exact⟨[],rfl,rfl,by simp⟩
  |cons xs xss ih=>
   intro hx;obtain⟨n,rfl,hn⟩:=bS he (hx xs (LX));obtain⟨ys,h1,h2,h3⟩:=ih (fun q hq=>hx q (Je _ hq))
   refine⟨n::ys,by rw [aF,h1];rfl,by simp [h2],fun y hy=> ?_⟩
   rcases PE.1 hy with rfl|hy
   ·exact hn
   ·exact h3 y hy
 obtain⟨ys,h1,h2,h3⟩:=this xss hx
 exact⟨ys,by rw [h1],by omega,h3⟩
theorem jC{fs:List ab}(ht:T.ty t= .struct fs)(h:Arg T t d): ∃ds,d= .agg ds∧ds.length=fs.length∧ ∀(i:Nat) (f:ab) (d:D),fs[i]? =some f→ds[i]? =some d→Shp T f [d]:=by
 obtain⟨ds,hs,rfl⟩:=h;obtain⟨h1,h2⟩:=WJ ht hs
 exact⟨ds,by simp [top,Tys.isStruct,ht,Ty.isStruct],h1,h2⟩
end
theorem trodAll_len{H:Type}{enc:ab×Value→H}{P:Program}{w:World}{base:Nat}{spare:Nat→Bool}{ik:Bool}: ∀ {ts:List ab} {vs:List Value} {ds:List (DataW H)} {ps:List MemPlace},
  DataW.TrodAll enc P w base spare ik ts vs ds ps→ds.length=ts.length∧vs.length=ts.length:=by
 intro ts
 induction ts with
 |nil=>intro vs ds ps h;cases vs<;>cases ds<;>simp [DataW.TrodAll]at h;exact⟨rfl,rfl⟩
 |cons t ts ih=>
  intro vs ds ps h
  cases vs with
  |nil=>cases ds<;>simp [DataW.TrodAll]at h
  |cons v vs=>
   cases ds with
   |nil=>simp [DataW.TrodAll]at h
   |cons d ds=>
    simp only [DataW.TrodAll]at h;obtain⟨p,q,h1,h2,_⟩:=h;obtain⟨e1,e2⟩:=ih h2
    exact⟨by simp [e1],by simp [e2]⟩
end Dv
namespace Dv
open Go
section
variable {E:Env} {T:Tys} {pm:Pm} {s:St} {dst:Option Tmp} {ty t:ab}
def qV(T:Tys)(t:ab)(dst:Option Tmp):Option (D×St)→Option St
 |some (d,s1)=>if T.isStruct t==d.isAgg then some (s1.putO dst (.box d.asCells))else none
 |none=>none
def jd(E:Env)(pm:Pm)(s:St)(t:ab)(x:ac)(dst:Option Tmp):D→Option St
 | .agg ds=>if Aj ds then qV E.T t dst (take E.T pm s t x)else(if E.T.isStruct t then some (s.putO dst (.box ds))else none)
 |_=>qV E.T t dst (take E.T pm s t x)
theorem A1H(u:Tmp):NJ E.T pm s dst t (.tmp u)=jd E pm s t (.tmp u) dst (s.v u):=by
 rw [lF]
 cases hk:SY (ev E.T s t (.tmp u))with
 |some ds=>
  simp only [ev]at hk
  cases hv:s.v u<;>rw [hv]at hk<;>simp only [SY]at hk<;>try (cases hk;done)
  split at hk
  ·cases hk
  ·rename_i ho
   simp only [al]at hk;subst hk;simp only [jd,ho];rfl
 |none=>
  have hold:jd E pm s t (.tmp u) dst (s.v u)=qV E.T t dst (take E.T pm s t (.tmp u)):=by
   simp only [ev]at hk
   cases hv:s.v u<;>try rfl
   rw [hv]at hk;simp only [SY]at hk
   split at hk
   ·rename_i ho;simp only [jd,ho,if_true]
   ·cases hk
  rw [hold];simp only;rcases take E.T pm s t (.tmp u)with _|⟨d,s1⟩<;>rfl
theorem ACT(u:Tmp):KO E pm s dst (.box t (.tmp u)) ty=if ty=900003 then oq pm dst (jd E pm s t (.tmp u) dst (s.v u))else jd E pm s t (.tmp u) dst (s.v u):=by
 rw [qB,A1H];by_cases h:ty=900003
 ·rw [if_pos h,if_pos h];unfold oq
  cases jd E pm s t (.tmp u) dst (s.v u)<;>cases dst<;>rfl
 ·rw [if_neg h,if_neg h]
theorem bkK(x:ac)(ds:List D)(hs:E.T.isStruct t=true):jd E pm s t x dst (.agg ds)=if Aj ds then qV E.T t dst (take E.T pm s t x)else some (s.putO dst (.box ds)):=by simp [jd,hs]
theorem A5Q(x:ac)(k:IntKind)(n:Int):jd E pm s t x dst (.int k n)=qV E.T t dst (take E.T pm s t x):=nr rfl
theorem ACU(x:ac)(e:ab)(xs:List D):jd E pm s t x dst (.sl e xs)=qV E.T t dst (take E.T pm s t x):=nr rfl
theorem A1I(x:ac)(xs:List D):jd E pm s t x dst (.cptr xs)=qV E.T t dst (take E.T pm s t x):=nr rfl
theorem ACV(d:D)(hs:T.isStruct t=false)(hd:d.isAgg=false):qV T t dst (some (d,s))=some (s.putO dst (.box [d])):=by
 have:d.asCells=[d]:=by cases d<;>first|rfl|(simp [D.isAgg]at hd)
 simp [qV,hs,hd,this]
def fa1(L:AJ)(i n m:Nat):Option D→Option D
 |some _=>some (.pe L i n m)
 |none=>none
theorem ACW(L:AJ)(i n m:Nat)(d:D):fa1 L i n m (some d)=some (.pe L i n m):=nr rfl
def fa0(T:Tys)(pm:Pm)(s:St)(t:ab)(x:ac)(d:D):Option Nat→Option D
 |none=>none
 |some j=>
  if T.isStruct t then
   match d with
   | .box _=>match x with| .tmp u=>some (.pe [u] j (s.k u) (s.m u))|_=>none
   | .vw L n m=>match s.look pm L n m with|some (.box _)=>some (.pe L j n m)|_=>none
   | .pe L c n m=>match s.look pm L n m with|some _=>some (.pe L (c+j) n m)|none=>none
   | .cptr xs=>some (.cptr (xs.drop j))
   |_=>none
  else none
theorem faE(x:ac)(d:D)(i:Nat):Es T pm s t x d i=fa0 T pm s t x d (T.foff t i):=by
 unfold Es fa0
 cases T.foff t i<;>rfl
theorem foN(i:Nat)(hn:T.nest t=none)(hi:i<T.size t):T.foff t i=some i:=by simp [Tys.foff,hn,hi]
theorem A5R(u:Tmp)(xs:List D)(i:Nat)(hs:T.isStruct t=true):fa0 T pm s t (.tmp u) (.box xs) (some i)=some (.pe [u] i (s.k u) (s.m u)):=by simp [fa0,hs]
theorem ACX(x:ac)(L:AJ)(c n m i:Nat)(hs:T.isStruct t=true):fa0 T pm s t x (.pe L c n m) (some i)=fa1 L (c+i) n m (s.look pm L n m):=by
 simp only [fa0,hs,if_true]
 cases s.look pm L n m<;>rfl
theorem ACY(L:AJ)(c n:Nat)(y:D)(ys:List D):cellsOf s L c n (some (D.box (y::ys)))=if c+n≤(D.box (y::ys)).cells.length then DF (.agg ((an n).map fun i=>Fb s L (c+i) ((D.box (y::ys)).cells.getD (c+i) .undef)))else none:=nr rfl
theorem ACZ(L:AJ)(c n:Nat)(e:ab)(ys:List D):cellsOf s L c n (some (D.own e ys))=if c+n≤(D.own e ys).cells.length then DF (.agg ((an n).map fun i=>Fb s L (c+i) ((D.own e ys).cells.getD (c+i) .undef)))else none:=nr rfl
variable {α:Type} (f:Nat→α)
theorem ACa:(an 14).map f=[f 0,f 1,f 2,f 3,f 4,f 5,f 6,f 7,f 8,f 9,f 10,f 11,f 12,f 13]:=nr rfl
theorem rg2:(an 2).map f=[f 0,f 1]:=nr rfl
theorem rg3:(an 3).map f=[f 0,f 1,f 2]:=nr rfl
theorem rg4:(an 4).map f=[f 0,f 1,f 2,f 3]:=nr rfl
theorem A5S(L:AJ)(c:Nat)(k:IntKind)(n:Int):Fb s L c (.int k n)= .int k n:=nr rfl
theorem ACb(L:AJ)(c:Nat)(e:ab)(xs:List D):Fb s L c (.sl e xs)= .sl e xs:=nr rfl
theorem A5T(L:AJ)(c:Nat)(e:ab)(xs:List D):Fb s L c (.own e xs)=jb s (L++[c]):=nr rfl
theorem ACc(L:AJ)(c:Nat)(M:AJ)(n m:Nat):Fb s L c (.vw M n m)= .vw M n m:=nr rfl
theorem noA(xs:List D):DF (.agg xs)=if Aj xs then none else some (.agg xs):=by simp only [DF,D.hasObj];rfl
theorem A5U(k:IntKind)(n:Int):DF (.int k n)=some (.int k n):=by simp [DF,D.hasObj]
theorem ACd(e:ab)(xs:List D):DF (.sl e xs)=some (.sl e xs):=by simp [DF,D.hasObj]
theorem ACe(L:AJ)(n m:Nat):DF (.vw L n m)=some (.vw L n m):=by simp [DF,D.hasObj]
theorem dl2(a b:Nat)(l:AJ):List.dropLast (a::b::l)=a::List.dropLast (b::l):=nr rfl
theorem dl1(a:Nat):List.dropLast [a]=[]:=nr rfl
theorem bT: ∀(ds xs:List D),xs.length=ds.length→Bt xs 0 ds=ds:=by
 have key: ∀(ds pre xs:List D),xs.length=ds.length→Bt (pre++xs) pre.length ds=pre++ds:=by
  intro ds
  induction ds with
  |nil=>intro pre xs h;simp at h;subst h;rfl
  |cons d ds ih=>
   intro pre xs h
   cases xs with
   |nil=>simp at h
   |cons x xs=>
    simp only [Bt];have:=ih (pre++[d]) xs (by simpa using h)
    simpa using this
 intro ds xs h;simpa using key ds [] xs h
def sw1(T:Tys)(pm:Pm)(t:ab)(u:Tmp)(ds:List D)(s:St):D→Option St
 | .box xs=>if T.known t&&T.isStruct t&&pm.wr u&&ds.all DW&&(T.size t==ds.length)&&(xs.length==ds.length)then(if Aj ds||Aj xs then some ((s.set [u] (.box ds)).bump u)else some (s.set [u] (.box ds)))else YA T pm t (.tmp u) (some (.agg ds,s))
 |_=>YA T pm t (.tmp u) (some (.agg ds,s))
theorem ACf(u:Tmp)(ds:List D):YA T pm t (.tmp u) (some (.agg ds,s))=sw1 T pm t u ds s (s.v u):=by
 cases hv:s.v u<;>simp only [sw1]
 rename_i xs
 split
 ·rename_i hc
  simp only [FM,beq_iff_eq]at hc;obtain⟨⟨⟨⟨⟨hk,hs⟩,hw⟩,hd⟩,hz⟩,hl⟩:=hc;have hz':T.size t≤xs.length:=by omega
  simp only [YA,ev,hv,IA,D.asCells,D.isAgg,D.cells,D.withCells,hk,hs,hw,hd,hz,Uz,beq_self_eq_true,Bool.and_self,JG,D.hasObj];rw [bT ds xs hl];have h2:ds.length≤xs.length:=by omega
  simp only [h2,decide_true,Bool.and_self,if_true]
  split<;>first|rfl|(rename_i hq;simp only [hq];rfl)
 ·rfl
theorem ACg(u:Tmp)(ds xs:List D)(hk:T.known t=true)(hs:T.isStruct t=true)(hw:pm.wr u=true)(hd:ds.all DW=true)(hz:T.size t=ds.length)(hl:xs.length=ds.length):
  sw1 T pm t u ds s (.box xs)=if Aj ds||Aj xs then some ((s.set [u] (.box ds)).bump u)else some (s.set [u] (.box ds)):=by
 simp [sw1,hk,hs,hw,hd,hz,hl]
def rc1(T:Tys)(s:St)(t:Tmp)(ty:ab):D→Option (D×St)
 | .box xs=>if T.isStruct ty then(if xs.length=T.size ty then td1 (EZ Pm.all (s.clr t) xs)else none)else(match xs with| [d]=>CP Pm.all (s.clr t) d|_=>none)
 | .cptr xs=>if T.isStruct ty then(if xs.length=T.size ty then some (.agg xs,s)else none)else(match xs with| [d]=>some (d,s)|_=>none)
 |_=>none
theorem A1J(u:Tmp)(hk:T.known ty=true):Sg T s (.cell u ty)=rc1 T s u ty (s.v u):=by
 simp only [Sg,hk,if_true,rc1]
 cases s.v u with
 |box xs=>
  simp only;split
  ·split
   ·cases EZ Pm.all (s.clr u) xs<;>rfl
   ·rfl
  ·rfl
 |_=>rfl
theorem ACh(u:Tmp)(xs:List D)(hs:T.isStruct ty=true)(hl:xs.length=T.size ty):rc1 T s u ty (.box xs)=td1 (EZ Pm.all (s.clr u) xs):=by simp [rc1,hs,hl]
def cp1(pm:Pm)(s:St)(u:Tmp)(rest:List ac):D→Option (List D×St)
 | .box xs=>match DY xs with
  |some ys=>if pm.wr u then(LY pm (s.set [u] (.cptr ys)) rest).map fun r=>(.cptr ys::r.1,r.2)else none
  |none=>none
 | .cptr ys=>(LY pm s rest).map fun r=>(.cptr ys::r.1,r.2)
 |_=>none
theorem A5W:LY pm s []=some ([],s):=nr rfl
theorem A5X(u:Tmp)(rest:List ac):LY pm s (.tmp u::rest)=cp1 pm s u rest (s.v u):=by
 simp only [LY]
 cases s.v u<;>rfl
def cp2(pm:Pm)(s:St)(u:Tmp)(rest:List ac):Option (List D)→Option (List D×St)
 |some ys=>if pm.wr u then(LY pm (s.set [u] (.cptr ys)) rest).map fun r=>(.cptr ys::r.1,r.2)else none
 |none=>none
theorem ACk(u:Tmp)(rest:List ac)(xs:List D):cp1 pm s u rest (.box xs)=cp2 pm s u rest (DY xs):=by
 simp only [cp1];cases DY xs<;>rfl
theorem ACl(u:Tmp)(rest:List ac)(ys:List D)(hw:pm.wr u=true):cp2 pm s u rest (some ys)=(LY pm (s.set [u] (.cptr ys)) rest).map fun r=>(.cptr ys::r.1,r.2):=by simp [cp2,hw]
def clN(E:Env)(pm:Pm)(s:St)(dst:Option Tmp)(args:Array ac)(ts:Array ab):D→Option St
 | .clo f caps=>if args.size=ts.size then Fh E pm s dst f (args.toList.zip ts.toList) caps else none
 | .ocl false f caps=>if args.size=ts.size then Mk E pm s dst f (args.toList.zip ts.toList) caps else none
 |_=>none
theorem A1K(u:Tmp)(args:Array ac)(ts:Array ab):KO E pm s dst (.call ⟨.value (.tmp u),args,ts⟩) ty=clN E pm s dst args ts (s.v u):=by
 rw [iy];cases s.v u<;>first|rfl|(rename_i b _ _;cases b<;>rfl)
theorem ACn(args:Array ac)(ts:Array ab)(f':am)(caps:List D)(h:args.size=ts.size):clN E pm s dst args ts (.clo f' caps)=Fh E pm s dst f' (args.toList.zip ts.toList) caps:=by simp [clN,h]
def mf0(f:am)(dst:Option Tmp):Option (List D×St)→Option St
 |some r=>some (r.2.putO dst (.clo f r.1))
 |none=>none
theorem ACo(g:am)(xs:List D):mf0 g dst (some (xs,s))=some (s.putO dst (.clo g xs)):=nr rfl
def mfV(f:am)(dst:Option Tmp):Option (List D×St)→Option St
 |some r=>some (r.2.putO dst (.ocl false f r.1))
 |none=>none
theorem yMf(g:am)(captured:Array ac):KO E pm s dst (.makeFunc (.func g) #[] captured) ty=if ty<3000000 then mf0 g dst (LY pm s captured.toList)else mfV g dst (We pm s (ty-3000000) captured.toList):=by
 rw [XE];simp only [List.isEmpty_toArray,List.isEmpty_nil,if_true];by_cases h:ty<3000000
 ·rw [if_pos h,if_pos h]
  cases LY pm s captured.toList<;>rfl
 ·rw [if_neg h,if_neg h]
  cases We pm s (ty-3000000) captured.toList<;>rfl
def oaJ(a:D)(l:List (AJ×D)):Option (List D×List (AJ×D))→Option (List D×List (AJ×D))
 |some r=>some (a::r.1,l++r.2)
 |none=>none
def bn1(dflt:Nat):Option D→Option Nat
 |some (.int _ n)=>if 0≤n then some n.toNat else none
 |_=>none
theorem bnN(n:Nat):OQ T s n none=some n:=nr rfl
theorem bnS(n:Nat)(x:ac):OQ T s n (some x)=bn1 n (ev T s 0 x):=by
 simp only [OQ];rcases ev T s 0 x with _|d
 ·rfl
 ·cases d<;>rfl
theorem ACr(n:Nat)(k:IntKind)(i:Int)(h:0≤i):bn1 n (some (.int k i))=some i.toNat:=by simp [bn1,h]
def sl0(T:Tys)(pm:Pm)(s:St)(x:ac)(d:D)(lo hi mx:Option ac):Ty→Option (D×St)
 | .slice e'=>match DZ pm s x d with
  |none=>none
  |some (e,xs,o)=>
   match OQ T s 0 lo,OQ T s (T.len e xs) hi with
   |some l,some h=>
    if e'=e∧T.known e=true∧l≤h∧h≤T.len e xs then
     if mx.isSome then
      match OQ T s 0 mx with
      |some q=>if l=h∧h=q∧hi.isSome=true then some (.own e [],s)else none
      |none=>none
     else match o with
      |none=>some (.sl e ((xs.take (h*T.size e)).drop (l*T.size e)),s)
      |some (L,va,vb)=>
       if pm.wr (L.headD 0)then
        match DY xs with
        |some ys=>some (.sl e ((ys.take (h*T.size e)).drop (l*T.size e)),s.set L (.sl e ys))
        |none=>none
       else SV L va vb e l h s
    else none
   |_,_=>none
 | .string=>match d with
  | .str b=>match OQ T s 0 lo,OQ T s b.size hi with
   |some l,some h=>if l≤h∧h≤b.size∧mx.isNone then some (.str (b.extract l h),s)else none
   |_,_=>none
  |_=>none
 |_=>none
theorem slT(x:ac)(d:D)(lo hi mx:Option ac):Hu T pm s t x d lo hi mx=sl0 T pm s x d lo hi mx (T.ty t):=by
 unfold Hu sl0
 cases T.ty t<;>first|rfl|(cases d<;>rfl)
def sl1(T:Tys)(pm:Pm)(s:St)(e:ab)(xs:List D)(o:Option (AJ×Nat×Nat)):Option Nat→Option Nat→Option (D×St)
 |some l,some h=>
  if l≤h∧h≤xs.length then
   match o with
   |none=>some (.sl e ((xs.take h).drop l),s)
   |some (L,va,vb)=>
    if pm.wr (L.headD 0)then
     match DY xs with
     |some ys=>some (.sl e ((ys.take h).drop l),s.set L (.sl e ys))
     |none=>none
    else SV L va vb e l h s
  else none
 |_,_=>none
def sl2(T:Tys)(pm:Pm)(s:St)(e':ab)(lo hi:Option ac):Option (ab×List D×Option (AJ×Nat×Nat))→Option (D×St)
 |some (e,xs,o)=>if e'=e∧T.known e=true then sl1 T pm s e xs o (OQ T s 0 lo) (OQ T s xs.length hi)else none
 |none=>none
theorem ACs(x:ac)(d:D)(lo hi:Option ac)(e:ab)(hz:T.isStruct e=false):sl0 T pm s x d lo hi none (.slice e)=sl2 T pm s e lo hi (DZ pm s x d):=by
 have h1:=Lv hz;simp only [sl0,sl2,Option.isSome_none,JF,if_false];rcases DZ pm s x d with _|⟨e',xs,o⟩
 ·rfl
 ·simp only;by_cases he:e=e'
  ·subst he;simp only [true_and,h1,Mw,Tys.len,if_true]
   cases OQ T s 0 lo<;>cases OQ T s xs.length hi<;>simp only [sl1]<;>(by_cases hk:T.known e=true<;>simp [hk])
  ·simp only [he,false_and,if_false]
   cases OQ T s 0 lo<;>cases OQ T s (T.len e' xs) hi<;>rfl
theorem ACt(e:ab)(lo hi:Option ac)(xs:List D)(o:Option (AJ×Nat×Nat))(hk:T.known e=true):sl2 T pm s e lo hi (some (e,xs,o))=sl1 T pm s e xs o (OQ T s 0 lo) (OQ T s xs.length hi):=by simp [sl2,hk]
theorem ACu(e:ab)(xs:List D)(l h:Nat)(h1:l≤h)(h2:h≤xs.length):sl1 T pm s e xs none (some l) (some h)=some (.sl e ((xs.take h).drop l),s):=by simp [sl1,h1,h2]
def sl3(pm:Pm)(s:St)(e:ab)(L:AJ)(a b l h:Nat)(o:Option (List D)):Option (D×St):=
 if pm.wr (L.headD 0)then
  match o with
  |some ys=>some (.sl e ((ys.take h).drop l),s.set L (.sl e ys))
  |none=>none
 else SV L a b e l h s
theorem ACw(e:ab)(xs:List D)(L:AJ)(a b l h:Nat)(h1:l≤h)(h2:h≤xs.length):sl1 T pm s e xs (some (L,a,b)) (some l) (some h)=sl3 pm s e L a b l h (DY xs):=by
 simp only [sl1,h1,h2,and_self,if_true];rfl
theorem ACx(e:ab)(L:AJ)(a b l h:Nat)(o:Option (List D))(hw:pm.wr (L.headD 0)=false):sl3 pm s e L a b l h o=some (.vs e L a b l (h-l),s):=by simp only [sl3];rw [if_neg (by rw [hw];decide)];rfl
theorem A5Y(r:Nat):pm.see.rd r=pm.rd r:=nr rfl
theorem A5Z(r:Nat):pm.see.wr r=false:=nr rfl
theorem ACy(u:Tmp):wrO pm (.tmp u)=pm.wr u:=nr rfl
def ct2(e:ab)(xs:List D)(s1:St):Option Nat→Option (D×St)
 |some h=>if h≤xs.length then some (.own e (xs.take h),s1)else none
 |none=>none
def ct1(T:Tys)(s:St)(e':ab)(hi:Option ac):Option (D×St)→Option (D×St)
 |some (.own e xs,s1)=>
  match OQ T s (T.len e xs) hi with
  |some h=>if e'=e∧T.known e=true∧h≤T.len e xs then some (.own e (xs.take (h*T.size e)),s1)else none
  |none=>none
 |_=>none
def ct0(T:Tys)(pm:Pm)(s:St)(t:ab)(x:ac)(hi:Option ac):Ty→Option (D×St)
 | .slice e=>ct1 T s e hi (if wrO pm x then take T pm s t x else none)
 |_=>none
theorem ctT(x:ac)(hi:Option ac):NG T pm s t x hi=ct0 T pm s t x hi (T.ty t):=by
 unfold NG ct0 ct1
 cases T.ty t<;>rfl
theorem ACz(x:ac)(hi:Option ac)(e:ab)(hw:wrO pm x=true):ct0 T pm s t x hi (.slice e)=ct1 T s e hi (take T pm s t x):=by
 unfold ct0;rw [if_pos hw]
theorem AD0(hi:Option ac)(e:ab)(xs:List D)(s1:St)(hk:T.known e=true)(hz:T.isStruct e=false):ct1 T s e hi (some (.own e xs,s1))=ct2 e xs s1 (OQ T s xs.length hi):=by
 have h1:=Lv hz;simp only [ct1,hk,true_and,h1,Mw,Tys.len,if_true]
 cases OQ T s xs.length hi<;>rfl
theorem AD1(e:ab)(xs:List D)(s1:St)(h:Nat)(hle:h≤xs.length):ct2 e xs s1 (some h)=some (.own e (xs.take h),s1):=by
 show(if h≤xs.length then some (D.own e (xs.take h),s1)else none)=_
 rw [if_pos hle]
def ca0(f:am):Option (List D×List (AJ×D))→Option (D×List (AJ×D))
 |some r=>some (.clo f r.1,r.2)
 |none=>none
theorem AD3(f:am)(cs:List D)(ls:List (AJ×D)):ca0 f (some (cs,ls))=some (.clo f cs,ls):=nr rfl
def ca2(pm:Pm)(s:St)(L:AJ)(c:D)(rest:List D):Option D→Option (List D×List (AJ×D))
 |some c'=>oaJ c' [(L,c)] (KV pm s rest)
 |none=>none
theorem AD4(L:AJ)(c:D)(rest:List D)(c':D):ca2 pm s L c rest (some c')=oaJ c' [(L,c)] (KV pm s rest):=nr rfl
def ca1(pm:Pm)(s:St)(L:AJ)(rest:List D):Option D→Option (List D×List (AJ×D))
 |some c=>ca2 pm s L c rest (EG c)
 |none=>none
theorem AD6(L:AJ)(rest:List D)(c:D):ca1 pm s L rest (some c)=ca2 pm s L c rest (EG c):=nr rfl
theorem caN:KV pm s []=some ([],[]):=nr rfl
theorem caV(L:AJ)(n m:Nat)(rest:List D):KV pm s (.vw L n m::rest)=ca1 pm s L rest (s.look pm L n m):=by
 rw [KV]
 cases s.look pm L n m with
 |none=>rfl
 |some c=>
  simp only [ca1,ca2]
  cases EG c with
  |none=>rfl
  |some c'=>simp only [Ce];rcases KV pm s rest with _|⟨a,b⟩<;>rfl
theorem caC(ys rest:List D):KV pm s (.cptr ys::rest)=oaJ (.cptr ys) [] (KV pm s rest):=by
 rw [KV];rcases KV pm s rest with _|⟨a,b⟩<;>rfl
theorem A5b(T:Tys)(L0:AJ)(j:Nat)(f:am)(caps:List D):K9 T false pm s j L0 (.ocl false f caps)=ca0 f (KV pm s caps):=by
 show(if(false||false)=true then none else(KV pm s caps).map fun r=>(D.clo f r.1,r.2))=_
 rw [if_neg (by decide)]
 unfold ca0;rcases KV pm s caps with _|⟨a,b⟩<;>rfl
def va1(T:Tys)(e:ab)(L:AJ)(lo len:Nat):Option D→Option (D×List (AJ×D))
 |some (.own e' xs)=>
  if e'=e∧T.known e=true∧(lo+len)*T.size e≤xs.length then
   (DY xs).map fun ys=>(.sl e ((ys.drop (lo*T.size e)).take (len*T.size e)),[(L,.own e' xs)])
  else none
 |_=>none
theorem AD7(e:ab)(L L0:AJ)(n m lo len j:Nat):K9 T false pm s j L0 (.vs e L n m lo len)=va1 T e L lo len (s.look pm L n m):=by
 show Vn T pm s e L n m lo len=_
 unfold Vn va1;rcases s.look pm L n m with _|d
 ·rfl
 ·cases d<;>rfl
theorem A1M(x:Tmp):KO E pm s dst (.call ⟨.builtin .clear, #[.tmp x], #[t]⟩) ty=XD dst (K7 E.T pm s t (.tmp x) (s.v x)):=Lu dst _
def qW(T:Tys)(pm:Pm)(s:St)(t:ab):Option (ab×AJ×List D×Nat×Nat)→Option (D×St)
 |some (e,L,xs,lo,len)=>
  if T.isSl t e&&T.known e&&(T.size e==1)&& !T.isStruct e&&DW (T.zero1 e)&&pm.wr (L.headD 0)then
   some (.tup [],(s.set L (.own e (Bt xs lo (ao len (T.zero1 e))))).bump (L.headD 0))
  else none
 |none=>none
theorem AD8(x:ac)(a:D):K7 T pm s t x a=qW T pm s t (V6 pm s x a):=by
 unfold K7 qW;rcases V6 pm s x a with _|⟨_,_,_,_,_⟩<;>rfl
theorem AD9(e:ab)(L:AJ)(xs:List D)(lo len:Nat)(h1:T.isSl t e=true)(h2:T.known e=true)(h3:T.isStruct e=false)(h5:DW (T.zero1 e)=true)(h7:pm.wr (L.headD 0)=true):
  qW T pm s t (some (e,L,xs,lo,len))=some (.tup [],(s.set L (.own e (Bt xs lo (ao len (T.zero1 e))))).bump (L.headD 0)):=by
 have h8:=Lv h3;unfold qW;dsimp only;rw [if_pos (by rw [h1,h2,h3,h5,h7,h8];simp)]
def A1N(e:ab):Ty→Bool
 | .slice e'=>e'==e
 |_=>false
theorem ADA(e:ab):T.isSl t e=A1N e (T.ty t):=by unfold Tys.isSl A1N;cases T.ty t<;>rfl
theorem ADB(e e':ab):A1N e (.slice e')=(e'==e):=nr rfl
def dv1(e:ab)(L:AJ)(lo len:Nat):Option D→Option (ab×AJ×List D×Nat×Nat)
 |some (.own e' xs)=>if e'=e∧lo+len≤xs.length then some (e,L,xs,lo,len)else none
 |_=>none
theorem dvS(x:ac)(e:ab)(L:AJ)(n m lo len:Nat):V6 pm s x (.vs e L n m lo len)=dv1 e L lo len (s.look pm L n m):=by
 show(match s.look pm L n m with|some (.own e' xs)=>if e'=e∧lo+len≤xs.length then some (e,L,xs,lo,len)else none|_=>none)=_
 rcases s.look pm L n m with _|d
 ·rfl
 ·cases d<;>rfl
theorem ADE(e:ab)(L:AJ)(lo len:Nat)(xs:List D)(h:lo+len≤xs.length):dv1 e L lo len (some (.own e xs))=some (e,L,xs,lo,len):=by simp [dv1,h]
theorem ADF(x:Tmp)(e:ab)(L:AJ)(n m lo len:Nat):CW s dst (.tmp x) (.vs e L n m lo len)=s.putO dst (.vs e L n m lo len):=nr rfl
theorem A5c(x:Tmp)(e:ab)(L:AJ)(n m lo len:Nat):bR pm x (.vs e L n m lo len)=true:=by simp [bR,D.hasObj]
end
theorem bU{P:Program}{T:Tys}{f:am}{e:ab}{r:D}{outs:List D}(hk:T.known e=true)(h: ∀A c,Good P T f [.konst (.slice A 0 c)] [] r outs):Good P T f [.sl e []] [] r outs:=by
 refine⟨(h none 0).1,fun vs gh w S FL hsz hA hL hL0 hLd hlt=> ?_⟩
 obtain⟨v,hv,hW⟩:=hA 0 _ rfl
 obtain⟨A,c,rfl⟩: ∃A c,v= .slice A 0 c:=by
  cases hW with
  |sl us hE hn hc hm hx hw=>
   rename_i A n c
   have hp:=Z4 hk
   have:n=0:=by
    simp only [SI]at hn;rcases Nat.mul_eq_zero.1 hn.symm with h0|h0
    ·exact h0
    ·omega
   subst this
   exact⟨_,_,rfl⟩
 refine(h A c).2 vs gh w S FL hsz (fun i d hi=> ?_) hL hL0 hLd hlt
 cases i with
 |zero=>simp at hi;subst hi;exact⟨_,hv,.konst (fun _ h=>h)⟩
 |succ i=>simp at hi
end Dv
namespace Dv
open Go
set_option maxRecDepth 10000
set_option linter.defProp false
theorem geq:G=100000:=nr rfl
def AQ:=A7 @A1M (A7 @AAY (A7 @AAa (A7 @AA6 (A7 @AA7 (A7 @A0I (A7 @ACT (A7 @yMf (A7 @A1K (A7 @AAE (A7 @A3I (A7 @AAC (A7 @A0P (A7 @A3J (A7 @A3M (A7 @A0Q (A7 @A3G (A7 @A3H (A7 @AAB (A7 @A0R (A7 @A0S (A7 @A0T (A7 @AAG (A7 @AAH (A7 @AAI (A7 @A3N (A7 @bM (A7 @Z8 (A7 @A3j (A7 @qI (A7 @lL (A7 @A0Z (A7 @A3k (A7 @yUn (A7 @A0a (A7 @AAX (A7 @lM (A7 @A0b (A7 @qJ (A7 @A0c (A7 @A3o (A7 @lN (A7 @A3q (A7 @lD (A7 @iw (A7 @il (A7 @A1D (A7 @yBs (@XF))))))))))))))))))))))))))))))))))))))))))))))))
def lY:=A7 (A7 @AAK @fnI) (A7 @AAN (A7 @AAg (A7 @AAh (A7 ACD (A7 @AAn (A7 @AAo (A7 @A42 (A7 @A0g (A7 @A0o (A7 @faE (A7 @foN (A7 @ACJ (A7 @ACK (A7 @A5O (A7 @A1E (A7 @ACO (A7 @ACP (A7 (A7 @fnO @fnA) (A7 @spN (A7 @spC (A7 @AD8 (A7 @AD9 (A7 @A0n (A7 @AB6 (A7 @AB7 (A7 @A3z (A7 @A0f (A7 @A40 (A7 @A43 (A7 @A44 (A7 @A45 (A7 @A46 (A7 @A47 (A7 @A48 (A7 @A49 (A7 @ACx (A7 @A5Y (A7 @A5Z (A7 @ACy (A7 @ctT (A7 @ACz (A7 @AD0 (A7 @AD1 (A7 (A7 @AD7 (A7 @A5b (A7 @AD3 (A7 @AD6 (A7 @AD4 (A7 @caN (A7 @caV @caC))))))) (A7 @A4i (A7 @A0s (A7 @ABM (A7 @A4j (A7 @axK (A7 @A4k (A7 @ABN (A7 @A4l (A7 @ADA (A7 @ADB (A7 @dvS (A7 @ADE (A7 @ADF (A7 @A5c (A7 @AAO (A7 @AAP (A7 @A3Z (A7 @A55 (A7 @A13 (A7 @A56 (A7 @ABm (A7 @bkK (A7 @A5Q (A7 (A7 @A1I @ACU) (A7 @A34 (A7 @A35 (A7 @AA8 (A7 @AA9 (A7 @AAA (A7 @ndK (A7 @AAb (A7 @A3m (A7 @apK (A7 @A4f (A7 @ABE (A7 @ABF (A7 @dl2 (A7 @dl1 (A7 @A5U (A7 @ACd (A7 @ACe (A7 @ACV (A7 @ACW (A7 @A5R (A7 @ACX (A7 (A7 @ACY (A7 @ACZ @ACa)) (A7 @rg2 (A7 @rg3 (A7 @rg4 (A7 @A5S (A7 @ACb (A7 @A5T (A7 @ACc (A7 @noA (A7 @ACf (A7 @ACg (A7 @A1J (A7 @ACh (A7 @A5W (A7 @A5X (A7 @ACk (A7 @ACl (A7 @ACn (A7 @ACo (A7 @bnN (A7 @bnS (A7 @ACr (A7 @slT (A7 @ACs (A7 @ACt (A7 @ACu (A7 @ACw (A7 @A57 (A7 @bkT (A7 @bkF (A7 @bkL (A7 @A58 (A7 @A14 (A7 @ieC (A7 @fiA (A7 @fiB (A7 @fiC (A7 @A11 (A7 @ABh (A7 @AB8 (A7 @AB9 (A7 @hdC (A7 @ABK (A7 @ABL (A7 @mvT (A7 @A16 (A7 @qO (A7 @A5A (A7 @A17 (A7 @A5B (A7 @ABp (A7 @lS (A7 @A18 (A7 @qP (A7 @A19 (A7 @qQ (A7 @A5C (A7 @ABq (A7 @ABr (A7 @ABs (A7 @A1A (A7 @pmR (A7 @pmW (A7 @AAD (A7 @A3K (A7 @AAF (A7 @AA3 (A7 @AA4 (A7 @AA5 (A7 @ACM (A7 @ACH (A7 @ACG (A7 @ACI (A7 @ACE (A7 (A7 @ACQ @yMk) (A7 (A7 @A5P @ACR) (A7 @ACS (A7 @A5K (A7 @A5L (A7 @A0J (A7 @A0K (A7 @qD (A7 @A0L (A7 @A3O (A7 @A0U (A7 @AAJ (A7 @qH (A7 @A3P (A7 @AAL (A7 @A3Q (A7 @A3R (A7 @A3S (A7 @A0V (A7 @A3T (A7 @A3U (A7 @A3V (A7 @A0W (A7 @AAM (A7 @A3W (A7 @A3X (A7 @A3Y (A7 @A3a (A7 @pkB (A7 @pkT (A7 @pkF (A7 @A31 (A7 @A32 (A7 @A33 (A7 @AAZ (A7 @A3l (A7 @AAc (A7 @AAd (A7 @AAf (A7 @A3b (A7 @A3c (A7 @A3d (A7 @A3e (A7 @AAQ (A7 @AAR (A7 @AAS (A7 @AAT (A7 @AAU (A7 @AAV (A7 @A3f (A7 @A3g (A7 @boI (A7 @boB (A7 @boA (A7 @A0X (A7 @A3h (A7 @A3i (A7 @ldC (A7 @AAi (A7 @ldP (A7 @ldB (A7 @AAj (A7 @A3r (A7 @A3t (A7 @A0d (A7 @A0e (A7 @A3u (A7 @AAk (A7 @A3v (A7 @AAl (A7 @A3x (A7 @A3y (A7 @lnT (A7 @AAp (A7 @A4A (A7 @ixT (A7 @AAr (A7 @AAt (A7 @A4C (A7 @tkC (A7 @A4H (A7 @A0k (A7 @AAx (A7 @A4I (A7 @A4J (A7 @AAy (A7 @A4K (A7 @A4D (A7 @A4E (A7 @AAu (A7 @AAv (A7 @AAw (A7 @A0j (A7 @qM (A7 @A0l (A7 @eG (A7 @hoI (A7 @hoB (A7 @A4L (A7 @A4M (A7 @A4N (A7 @AAz (A7 @A4O (A7 @A4P (A7 @AB1 (A7 @A4Q (A7 @AB2 (A7 @AB3 (A7 @A4R (A7 @A4S (A7 @A4T (A7 @A4U (A7 @A4V (A7 @A4W (A7 @A0m (A7 @ABA (A7 @A4X (A7 @A4Y (A7 @A4Z (A7 @A4a (A7 @A4b (A7 @A4c (A7 @ceS (A7 (A7 @A0p @ABB) (A7 @ABC (A7 @ABH (A7 @ABJ (A7 @A0q (A7 @A0r (A7 @A4g (A7 @A4h (A7 @arC (A7 @arF (A7 @aCS (A7 @A4m (A7 @A0t (A7 @ABO (A7 @A4n (A7 @atK (A7 @A4o (A7 @ABS (A7 @A4p (A7 @A4q (A7 @ABP (A7 @ABR (A7 @ABT (A7 @ABU (A7 @A0u (A7 @A4r (A7 @A0v (A7 @A4s (A7 @ABV (A7 @A4t (A7 @ABW (A7 @cdB (A7 @ABX (A7 @ABY (A7 @ABZ (A7 @cdL (A7 @ABb (A7 @ABc (A7 @A4u (A7 @A0x (A7 @A4v (A7 @A4w (A7 @A4x (A7 @A0y (A7 @qN (A7 @A4y (A7 @A0z (A7 @ABd (A7 @A4z (A7 @ABe (A7 @tV (A7 @A50 (A7 @A51 (A7 @A10 (A7 @ABf (A7 @eH (A7 @ABg (A7 @fiD (A7 @fi0 (A7 @re1 (A7 @re2 (A7 @ABi (A7 @A52 (A7 @A53 (A7 @ABj (A7 @A12 (A7 @ABk (A7 @ABl (A7 @A54 (A7 @A59 (A7 @A15 (A7 @ABo (A7 @A36 (A7 @A39 (A7 @A0M (A7 @A3C (A7 @A37 (A7 @A3A (A7 @A0N (A7 @A3D (A7 @A38 (A7 @A3B (A7 @A0O (A7 @A3E (A7 @j3 (A7 @j4 (A7 @A3F (A7 @j5 (A7 @lI (A7 @qE (A7 @qF (A7 @qG (A7 @geq (A7 @Int.toNat_natCast (A7 @Int.toNat_zero (A7 @Int.natCast_nonneg (A7 @Nat.zero_le (A7 @Int.le_refl (A7 @Nat.le_refl (A7 @Bool.and_true (A7 @Bool.true_and (A7 @Bool.and_false (A7 @Bool.false_and (A7 @Bool.or_false (A7 @Bool.false_or (A7 @Bool.or_true (A7 @Bool.true_or (A7 @Bool.not_true (A7 @Bool.not_false (A7 @Bool.false_eq_true (A7 @decide_true (A7 @decide_false (A7 @and_self (A7 @and_true (@true_and)))))))))))))))))))))))))))))))))))))))))))))))))))))))))))))))))))))))))))))))))))))))))))))))))))))))))))))))))))))))))))))))))))))))))))))))))))))))))))))))))))))))))))))))))))))))))))))))))))))))))))))))))))))))))))))))))))))))))))))))))))))))))))))))))))))))))))))))))))))))))))))))))))))))))))))))))))))))))))))))))))))))))))))))))))))))))))))))))))))))))))))))))))))))))))))))))))))))))))))))))
end Dv
