/- Value semantics for Go code, part 4: arguments of laws, slim code and rules. Conditions: none beyond those in each lemma. -/
import Derived.Test.YtclkfhhdikfcpaaL3
import Derived.WalkKit
import Derived.ProofKit
import Derived.OpenShut
import Derived.ShutString
import Derived.ChangeOld
import Derived.Below
import Derived.Carry
import Derived.IntWalk
open Go renaming TypeId → ab,Operand → ac,FuncId → am
open List renaming range → an,replicate → ao,getElem?_eq_none → bc
open Option.some renaming injEq → al
set_option linter.unusedSimpArgs false
set_option linter.unusedVariables false
namespace Dv
open Go
inductive Shp(T:Tys):ab→List D→Prop
 |int {t k n} (ht:T.ty t= .int k) (hw:(Lit.int k n).wf=true):Shp T t [.int k n]
 |bool {t b} (ht:T.ty t= .bool):Shp T t [.bool b]
 |string {t s} (ht:T.ty t= .string) (hs:s.size≤maxLen):Shp T t [.str s]
 |slice {t e} {xss:List (List D)} (ht:T.ty t= .slice e) (hx: ∀xs,xs∈xss→Shp T e xs) (hl:xss.length≤maxLen):Shp T t [.sl e xss.flatten]
 |struct {t fs} {ds:List D} (ht:T.ty t= .struct fs) (hl:ds.length=fs.length) (hx: ∀(i:Nat) (f:ab) (d:D),fs[i]? =some f→ds[i]? =some d→Shp T f [d]):Shp T t ds
def Oj(T:Tys):Nat→ab→Bool
 |0,_=>false
 |n+1,t=>match T.ty t with
  | .int _=>true
  | .bool=>true
  | .string=>true
  | .slice e=>T.known e&&Oj T n e
  | .struct fs=>(T.nest t).isNone&& !fs.isEmpty&&fs.all (Oj T n)
  |_=>false
theorem Shp.length{T:Tys}{t:ab}{ds:List D}(h:Shp T t ds):ds.length=T.size t:=by
 cases h with
 |int ht=>simp [Tys.size,ht,Ty.size]
 |bool ht=>simp [Tys.size,ht,Ty.size]
 |string ht=>simp [Tys.size,ht,Ty.size]
 |slice ht=>simp [Tys.size,ht,Ty.size]
 |struct ht hl=>simp [Tys.size,ht,Ty.size,hl]
theorem YF{α:Type}{n:Nat}(hn:0<n): ∀(xss:List (List α)),(∀xs∈xss,xs.length=n)→ ∀k:Nat,xss.flatten[k]? =(xss[k / n]?).bind fun xs=>xs[k % n]? :=by
 intro xss
 induction xss with
 |nil=>intro _ k;simp
 |cons xs xss ih=>
  intro h k;have hx:=h xs (Ke);rw [ZF];rcases Nat.lt_or_ge k n with hk|hk
  ·rw [MP (by omega),Nat.div_eq_of_lt hk,Nat.mod_eq_of_lt hk];rfl
  ·rw [MO (by omega),ih (fun ys hy=>h ys (JG _ hy)),hx]
   have h1:k / n=(k-n) / n+1:=by
    rw [Nat.div_eq_sub_div hn hk]
   have h2:k % n=(k-n) % n:=by rw [Nat.mod_eq_sub_mod hk]
   rw [h1,h2];rfl
theorem Sa{α:Type}{n:Nat}: ∀(xss:List (List α)),(∀xs∈xss,xs.length=n)→xss.flatten.length=xss.length*n:=by
 intro xss
 induction xss with
 |nil=>intro _;simp
 |cons xs xss ih=>
  intro h;rw [ZF,KG,ih (fun ys hy=>h ys (JG _ hy)),h xs (Ke),NU,Nat.add_mul];omega
abbrev bX(w:World):Nat→Prop:=fun k=>k<w.heap.size
section
variable {P:Program} {T:Tys} {H:Type} {enc:ab×Value→H} {w:World} {spare:Nat→Bool} {fV:Bool}
theorem Ba.cells(h:Ba P T){t:ab}(hk:T.known t=true):P.cellsOf t=T.size t:=by
 obtain⟨i,h1,h2,_⟩:=h.info hk;simp [Program.cellsOf,h1,h2]
theorem Zx{n:Nat}{t:ab}(h:Oj T n t=true):T.known t=true:=by
 cases n with
 |zero=>cases h
 |succ n=>
  unfold Oj at h;unfold Tys.known
  cases ht:T.ty t with
  |struct fs=>
   rw [ht]at h
   cases fs with
   |nil=>simp at h
   |cons=>rfl
  |other=>rw [ht]at h;cases h
  |map=>rw [ht]at h;cases h
  |arr=>rw [ht]at h;cases h
  |_=>rfl
theorem YG{t:ab}(hk:T.known t=true):0<T.size t:=by
 unfold Tys.known at hk;unfold Tys.size
 cases ht:T.ty t with
 |struct fs=>
  rw [ht]at hk
  cases fs with
  |nil=>cases hk
  |cons=>simp [Ty.size]
 |arr n e=>
  rw [ht]at hk
  cases n with
  |zero=>cases hk
  |succ=>simp [Ty.size]
 |_=>simp [Ty.size]
theorem Zy{base:Nat}{a:Addr}{n:Nat}{cs:List Value}(h:w.cells? base a n=some cs):cs.length=n∧ ∀i,i<n→w.cell? (a.add i)=cs[i]? :=by
 unfold World.cells? at h
 split at h
 ·exact⟨by simpa using mapM_some_length h,fun i hi=>by have:=mapM_some_get h i i (by simp [hi]);simpa using this⟩
 ·cases h
theorem nN{ad:Addr}{v:Value}(h:w.cell? ad=some v):ad.block<w.heap.size:=by
 rcases Nat.lt_or_ge ad.block w.heap.size with hl|hl
 ·exact hl
 ·have h1:=UA hl;simp [World.cell?,h1]at h
theorem jW(hT:Ba P T): ∀(fuel:Nat) (n:Nat) (t:ab) (cs:List Value) (x:DataW H×List MemPlace),Oj T n t=true→DataW.trod enc P w 0 spare fV fuel t cs=some x→
  ∃ds,Shp T t ds∧cs.length=ds.length∧ ∀(i:Nat) (d:D),ds[i]? =some d→ ∃v,cs[i]? =some v∧W T (bX w) w V0 HV d v (fun _=>False):=by
 have hE:Em (fun _:Nat=>False):=fun _ h=>h
 have one: ∀(d0:D) (v0:Value),W T (bX w) w V0 HV d0 v0 (fun _=>False)→ ∀(i:Nat) (d:D),[d0][i]? =some d→ ∃v,[v0][i]? =some v∧W T (bX w) w V0 HV d v (fun _=>False):=by
  intro d0 v0 h i d hi
  cases i with
  |zero=>simp at hi;subst hi;exact⟨v0,rfl,h⟩
  |succ i=>simp at hi
 intro fuel
 induction fuel with
 |zero=>intro n t cs x _ h;simp [DataW.trod]at h
 |succ fuel ih=>
  intro n t cs x hd h;have hk:=Zx hd;have h0:=(hT t).1;unfold Ep at h0
  cases n with
  |zero=>cases hd
  |succ n=>
   unfold Oj at hd
   cases ht:T.ty t<;>rw [ht]at h0 hd<;>simp only at h0 hd
   case int k=>
    obtain⟨m,rfl,_,hw⟩:=DataW.trod_int h0.1 h
    exact⟨[.int k m],.int ht hw,rfl,one _ _ (.int hE)⟩
   case bool=>
    obtain⟨b,rfl,_⟩:=DataW.trod_bool h0.1 h
    exact⟨[.bool b],.bool ht,rfl,one _ _ (.bool hE)⟩
   case string=>
    obtain⟨s,rfl,_,hs⟩:=DataW.trod_string h0.1 h
    exact⟨[.str s],.string ht hs,rfl,one _ _ (.str hE)⟩
   case slice e=>
    simp only [F9]at hd;have hc:=hT.cells hd.1;have hpos:=YG hd.1;rcases DataW.trod_slice h0.1 h with⟨rfl,_⟩|⟨a,len,cap,elems,rest,m,hm,rfl,_,_,hl,hcap,hlen,hel,_,_⟩
    ·exact⟨[.sl e ([]:List (List D)).flatten],.slice ht (by simp) (by simp [maxLen]),rfl,one _ _ (.sl (fun _=>undef) hE (by simp) (Hq _) (by simp [maxLen]) (by simp) (by simp))⟩
    ·injection hm with hm
     subst hm
     have hex: ∀i,i<len→ ∃ds,Shp T e ds∧ ∀(j:Nat) (d:D),ds[j]? =some d→ ∃v,w.cell? (a.add (i*T.size e+j))=some v∧W T (bX w) w V0 HV d v (fun _=>False):=by
      intro i hi;have h1:=hel i hi;rw [Gc (by omega),Gl]at h1
      obtain⟨cs',h2,h3⟩:=h1;obtain⟨ds,q1,q2,q3⟩:=ih n e cs' _ hd.2 h3
      refine⟨ds,q1,fun j d hj=> ?_⟩
      obtain⟨v,hv,hW⟩:=q3 j d hj;obtain⟨c1,c2⟩:=Zy h2;rw [hc]at c1 c2;have hj':j<T.size e:=by rw [←c1];exact(EI.1 hv).1
      have h4:=c2 j hj';rw [IW]at h4
      exact⟨v,by rw [h4,hv],hW⟩
     let ch:Nat→List D:=fun i=>if h:i<len then(hex i h).choose else []
     have hch: ∀i,i<len→Shp T e (ch i)∧ ∀(j:Nat) (d:D),(ch i)[j]? =some d→ ∃v,w.cell? (a.add (i*T.size e+j))=some v∧W T (bX w) w V0 HV d v (fun _=>False):=by
      intro i hi;have:=(hex i hi).choose_spec
      simp only [ch,hi,dif_pos];exact this
     have hall: ∀xs∈(an len).map ch,xs.length=T.size e:=by
      intro xs hxs;obtain⟨i,hi,rfl⟩:=Iy.1 hxs
      exact(hch i (Nn.1 hi)).1.length
     refine⟨[.sl e ((an len).map ch).flatten],.slice ht (fun xs hxs=> ?_) (by simp;omega),rfl,one _ _ ?_⟩
     ·obtain⟨i,hi,rfl⟩:=Iy.1 hxs
      exact(hch i (Nn.1 hi)).1
     ·have key: ∀(i:Nat) (x:D),((an len).map ch).flatten[i]? =some x→ ∃v,w.cell? (a.add i)=some v∧W T (bX w) w V0 HV x v (fun _=>False):=by
       intro i x hi;rw [YF hpos _ hall,Gl]at hi;obtain⟨xs,h1,h2⟩:=hi;rw [LU,Cb]at h1;obtain⟨q,hq,rfl⟩:=h1;obtain⟨hq1,hq2⟩:=EI.1 hq;simp only [Va]at hq2;subst hq2;obtain⟨v,hv,hW⟩:=(hch _ (by simpa using hq1)).2 _ x h2
       rw [show i / T.size e*T.size e+i % T.size e=i by rw [Nat.mul_comm];exact Nat.div_add_mod i (T.size e)]at hv
       exact⟨v,hv,hW⟩
      refine .sl (fun i=>(w.cell? (a.add i)).getD undef) hE (by rw [Sa _ hall];simp) hl hcap (fun i x hi=> ?_) (fun i x hi=> ?_)
      ·obtain⟨v,hv,_⟩:=key i x hi
       exact⟨a,rfl,by have:=nN hv;rw [Jt]at this;exact this,by rw [hv];rfl⟩
      ·obtain⟨v,hv,hW⟩:=key i x hi;simp only [hv,XT];exact hW
   case struct fs=>
    simp only [F9,IQ,iM]at hd;obtain⟨⟨fields,hu,hfx⟩,hinfo⟩:=h0;rw [hd.1.1]at hfx;obtain⟨hfl,hfi⟩:=hfx;obtain⟨xs,m,hm,_,hcl,hxl,hx⟩:=DataW.trod_struct hu h
    injection hm with hm
    subst hm;rw [hT.cells hk]at hcl;have hsz:T.size t=fs.length:=by simp [Tys.size,ht,Ty.size]
    have hex: ∀i,i<fs.length→ ∃d f,fs[i]? =some f∧Shp T f [d]∧ ∃v,cs[i]? =some v∧W T (bX w) w V0 HV d v (fun _=>False):=by
     intro i hi;have hif:i<fields.size:=by omega
     obtain⟨f1,f2,f3,f4⟩:=hfi i _ (Ji hif);have h1:=hx i _ (Ji hif)
     have hs1:T.size fields[i].type=1:=by
      unfold Tys.isStruct at f4;unfold Tys.size
      cases hty:T.ty fields[i].type<;>simp_all [Ty.isStruct,Ty.size]
     rw [f1,hT.cells f3,hs1,Gc (by omega)]at h1
     obtain⟨ds,q1,q2,q3⟩:=ih n _ _ _ (hd.2 _ (UB f2)) h1;have hl1:ds.length=1:=by rw [q1.length,hs1]
     obtain⟨d,rfl⟩:=List.length_eq_one_iff.1 hl1;obtain⟨v,hv,hW⟩:=q3 0 d rfl
     refine⟨d,_,f2,q1,v, ?_,hW⟩
     rw [List.getElem?_take]at hv;simp only [Nat.zero_lt_one,if_true,MG,Nat.add_zero]at hv;exact hv
    let ch:Nat→D:=fun i=>if h:i<fs.length then(hex i h).choose else .undef
    have hch: ∀i,i<fs.length→ ∃f,fs[i]? =some f∧Shp T f [ch i]∧ ∃v,cs[i]? =some v∧W T (bX w) w V0 HV (ch i) v (fun _=>False):=by
     intro i hi;have:=(hex i hi).choose_spec
     simp only [ch,hi,dif_pos];exact this
    have hget: ∀(i:Nat) (d:D),((an fs.length).map ch)[i]? =some d→i<fs.length∧d=ch i:=by
     intro i d hi;rw [LU,Cb]at hi;obtain⟨q,hq,rfl⟩:=hi;obtain⟨hq1,hq2⟩:=EI.1 hq;simp only [Va]at hq2;subst hq2
     exact⟨by simpa using hq1,rfl⟩
    refine⟨(an fs.length).map ch,.struct ht (by simp) (fun i f d hf hi=> ?_),by simp;omega,fun i d hi=> ?_⟩
    ·obtain⟨h1,rfl⟩:=hget i d hi;obtain⟨f',hf',hs,_⟩:=hch i h1;rw [hf]at hf';injection hf' with hf';subst hf';exact hs
    ·obtain⟨h1,rfl⟩:=hget i d hi;obtain⟨f',hf',hs,v,hv,hW⟩:=hch i h1
     exact⟨v,hv,hW⟩
   all_goals (cases hd)
def top(T:Tys)(t:ab)(ds:List D):D:=if T.isStruct t then .agg ds else ds.headD .undef
def Arg(T:Tys)(t:ab)(d:D):Prop:= ∃ds,Shp T t ds∧d=top T t ds
theorem A1q(hT:Ba P T){r:Reach}{base n:Nat}{t:ab}{v:Value}{d0:DataW H}{ps:List MemPlace}(hd:Oj T n t=true)(hv:Value.okWide P w r base t v)(h:DataW.Trod enc P w 0 spare fV t v d0 ps):
  ∃d,Arg T t d∧W T (bX w) w V0 HV d v (fun _=>False):=by
 obtain⟨fuel,hf⟩:=h;obtain⟨ds,q1,q2,q3⟩:=jW hT fuel n t _ _ hd hf;have hfact:=(hT t).1;unfold Ep at hfact
 have flat:T.isStruct t=false→v.cells.toList=[v]→ ∃d,Arg T t d∧W T (bX w) w V0 HV d v (fun _=>False):=by
  intro hs hc;have hl:ds.length=1:=by rw [←q2,hc];rfl
  obtain⟨d,rfl⟩:=List.length_eq_one_iff.1 hl;obtain⟨v',hv',hW⟩:=q3 0 d rfl;rw [hc]at hv';simp only [NT,al]at hv';subst hv'
  exact⟨d,⟨[d],q1,by simp [top,hs]⟩,hW⟩
 cases n with
 |zero=>cases hd
 |succ n=>
  unfold Oj at hd
  cases ht:T.ty t<;>rw [ht]at hfact hd<;>simp only at hfact hd
  case int k=>
   refine flat (by simp [Tys.isStruct,ht,Ty.isStruct]) ?_
   simp only [Value.okWide,hfact.1,Cell.okWide]at hv
   cases v<;>simp_all [Cell.ok,Value.cells]
  case bool=>
   refine flat (by simp [Tys.isStruct,ht,Ty.isStruct]) ?_
   simp only [Value.okWide,hfact.1,Cell.okWide]at hv
   cases v<;>simp_all [Cell.ok,Value.cells]
  case string=>
   refine flat (by simp [Tys.isStruct,ht,Ty.isStruct]) ?_
   simp only [Value.okWide,hfact.1,Cell.okWide]at hv
   cases v<;>simp_all [Cell.ok,Value.cells]
  case slice e=>
   refine flat (by simp [Tys.isStruct,ht,Ty.isStruct]) ?_
   simp only [Value.okWide,hfact.1,Cell.okWide]at hv
   cases v<;>simp_all [Cell.ok,Value.cells]
  case struct fs=>
   obtain⟨⟨fields,hu,_⟩,_⟩:=hfact;obtain⟨cs,rfl,hcs⟩:=WideShapes.okWide_struct hu hv
   have hval: ∀(i:Nat) (d:D),ds[i]? =some d→cs[i]? =some (cs.getD i undef)∧W T (bX w) w V0 HV d (cs.getD i undef) (fun _=>False):=by
    intro i d hi;obtain⟨v,hv',hW⟩:=q3 i d hi;have:cs[i]? =some v:=by simpa [Value.cells] using hv'
    rw [LQ,this];exact⟨rfl,hW⟩
   refine⟨.agg ds,⟨ds,q1,by simp [top,Tys.isStruct,ht,Ty.isStruct]⟩,.agg (fun i=>cs.getD i undef) (fun _ _=>False) (by simpa [Value.cells] using q2) (fun i x hi=>(hval i x hi).1) (fun k=>⟨fun h=>h.elim,fun⟨_,_,h⟩=>h⟩) (fun _ _ _ _ _ _ h=>h.elim) (fun i x hi=>(hval i x hi).2)⟩
  all_goals (cases hd)
end
def yh(T:Tys):List ab→List D→Prop
 | [],[]=>True
 |t::ts,d::ds=>Arg T t d∧yh T ts ds
 |_,_=>False
theorem args_W{P:Program}{T:Tys}{H:Type}{enc:ab×Value→H}{w:World}{r:Reach}{base n:Nat}(hT:Ba P T): ∀(ts:List ab) (vs:List Value) (d0:List (DataW H)) (ps:List MemPlace),ts.all (Oj T n)=true→
  (∀(j:Nat) (t:ab) (v:Value),ts[j]? =some t→vs[j]? =some v→Value.okWide P w r base t v)→DataW.TrodAll enc P w 0 (fun _=>true) true ts vs d0 ps→
  ∃ds,yh T ts ds∧vs.length=ds.length∧ ∀(i:Nat) (d:D),ds[i]? =some d→ ∃v,vs[i]? =some v∧W T (bX w) w V0 HV d v (fun _=>False):=by
 intro ts
 induction ts with
 |nil=>
  intro vs d0 ps _ _ h
  cases vs<;>cases d0<;>simp [DataW.TrodAll]at h
  exact⟨[],trivial,rfl,by simp⟩
 |cons t ts ih=>
  intro vs d0 ps hd hv h
  cases vs with
  |nil=>cases d0<;>simp [DataW.TrodAll]at h
  |cons v vs=>
   cases d0 with
   |nil=>simp [DataW.TrodAll]at h
   |cons d0 ds0=>
    simp only [DataW.TrodAll]at h;obtain⟨p,q,h1,h2,_⟩:=h;simp only [PT,F9]at hd;obtain⟨d,ha,hW⟩:=A1q hT hd.1 (hv 0 t v rfl rfl) h1;obtain⟨ds,hb,hl,hWs⟩:=ih vs ds0 q hd.2 (fun j t' v' hj hj'=>hv (j+1) t' v' (by simpa using hj) (by simpa using hj')) h2
    refine⟨d::ds,⟨ha,hb⟩,by simp [hl],fun i x hi=> ?_⟩
    cases i with
    |zero=>simp at hi;subst hi;exact⟨v,rfl,hW⟩
    |succ i=>simpa using hWs i x (by simpa using hi)
theorem law_calls{Y:Sys}(hY:Y.Ok){f:am}{ds:List D}(hc:Y.call f ds []=some (.bool true,[])){vs:Array Value}{w:World}(hl:vs.size=ds.length)
  (hW: ∀(i:Nat) (d:D),ds[i]? =some d→ ∃v,vs[i]? =some v∧W Y.T (bX w) w V0 HV d v (fun _=>False)):
  Calls Y.P f vs w fun e w'=>e= .returned (.bool true)∧RowKit.Below w.heap.size w w':=by
 have hg:=Sys.call_good hY hc;refine Calls.mono (hg.2 vs (fun _=>undef) w (bX w) (fun _ _=>False) hl (fun i d hi=> ?_) (fun j d hj=>by simp at hj) (fun _ _ _ h=>h) (fun _ _ _ _ h=>h.elim) (fun _ h=>h)) ?_
 ·obtain⟨v,hv,hWv⟩:=hW i d hi
  exact⟨v,hv,hWv.up⟩
 ·intro e w' he
  cases e with
  |returned v=>
   obtain⟨S',F,FL',h1,_,_,_,hst,_,_⟩:=he
   cases h1 with
   |bool=>exact⟨rfl,hst.os,hst.tape,hst.output,hst.size,fun k hk=>hst.heap k hk (fun _ h=>h)⟩
  |panicked=>exact he.elim
  |outgrown=>exact he.elim
theorem trodAll_below{H:Type}{enc:ab×Value→H}{P:Program}(hl:laidOutB P=true){W W':World}(hb:RowKit.Below W.heap.size W W'): ∀ {ts:List ab} {vs:List Value} {ds:List (DataW H)} {ps:List MemPlace},
  ts.all (fun t=>P.readableRec t&&decide (t<P.types.size))=true→DataW.TrodAll enc P W 0 (fun _=>true) true ts vs ds ps→DataW.TrodAll enc P W' 0 (fun b=>decide (b<W.heap.size)) true ts vs ds ps:=by
 intro ts
 induction ts with
 |nil=>
  intro vs ds ps _ h
  cases vs<;>cases ds<;>simp [DataW.TrodAll]at h ⊢
  exact h
 |cons t ts ih=>
  intro vs ds ps hr h
  cases vs with
  |nil=>cases ds<;>simp [DataW.TrodAll]at h
  |cons v vs=>
   cases ds with
   |nil=>simp [DataW.TrodAll]at h
   |cons d ds=>
    simp only [DataW.TrodAll]at h ⊢;obtain⟨p,q,h1,h2,h3⟩:=h;simp only [PT,F9,decide_eq_true_eq]at hr;have lt0: ∀x∈p,x.block<W.heap.size:=by obtain⟨m,hm⟩:=h1;exact DataW.trod_lt m _ _ _ hm
    exact⟨p,q,RowKit.Below.trod hl hr.1.1 hr.1.2 h1 hb lt0,ih (by simpa using hr.2) h2,h3⟩
end Dv
namespace Dv
open Go
theorem nr{α:Type}{a b:α}(h:a=b):a=b:=h
structure SOp where
 dst:Option Tmp
 op:Op
 type:ab
 guard:Option (Option Tmp×Bool)
structure PmL where
 n:List Nat
 r:List Nat
 w:List Nat
def PmL.pm(l:PmL):Pm:=⟨fun r=>l.n.contains r|| !l.r.contains r,fun r=>l.w.contains r⟩
inductive SC where
 |skip
 |ops (l:List SOp)
 |draws (l:List (PmL×SOp))
 |seq (a b:SC)
 |cond (c:ac) (a b:SC)
 |block (id:Nat) (c:SC)
 |loop (c:SC)
 |exit (id:Nat)
 |ret
 |bad
abbrev tK(u:Nat):ac:= .tmp u
abbrev iK(n:Int):ac:= .const (.int .i64 n)
abbrev oX(d:Nat)(p:Op)(y:ab):SOp:=⟨some d,p,y,none⟩
abbrev oM(d u:Nat)(y:ab):SOp:=⟨some d,.move (.tmp u),y,none⟩
abbrev oA(d u:Nat)(y:ab):SOp:=⟨some d,.assign (.tmp u),y,none⟩
abbrev oL(d:Nat)(t:ab)(u:Nat)(y:ab):SOp:=⟨some d,.load t (.tmp u),y,none⟩
abbrev oI(d:Nat)(t:ab)(u v:Nat):SOp:=⟨some d,.indexAddr t (.tmp u) (.tmp v),0,none⟩
abbrev oN(d u:Nat)(t:ab):SOp:=⟨some d,.call ⟨.builtin .len, #[.tmp u], #[t]⟩,3,none⟩
abbrev oC(d f:Nat)(a:List ac)(t:List ab)(y:ab):SOp:=⟨some d,.call ⟨.value (.func f),a.toArray,t.toArray⟩,y,none⟩
abbrev oS(t:ab)(a u:Nat):SOp:=⟨none,.store t (.tmp a) (.tmp u),0,none⟩
abbrev oF(d:Nat)(t:ab)(u i:Nat):SOp:=⟨some d,.fieldAddr t (.tmp u) i,0,none⟩
abbrev oE(d u i:Nat)(y:ab):SOp:=⟨some d,.extract (.tmp u) i,y,none⟩
abbrev oB(d:Nat)(o:BinOp)(t:ab)(a b:ac)(r y:ab):SOp:=⟨some d,.binOp o t a b r,y,none⟩
def Nw(ops:Array Oper)(o:Oper):SOp:=⟨o.dst,o.op,o.type,match o.guard with|none=>none|some (j,b)=>some ((ops[j]?).bind (·.dst),b)⟩
def Bi(lends:am→Bool):Code→SC
 | .skip=> .skip
 | .region _ ops draw=>
  if draw then
   (if Ma lends ops.toList then .draws (ops.toList.map fun o=>(⟨F7 ops.toList o,ops.toList.flatMap (EB lends ops.toList),EB lends ops.toList o⟩,Nw ops (Rb lends ops.toList o)))else .bad)
  else .ops (ops.toList.map fun o=>Nw ops (tag lends ops.toList o))
 | .seq a b=> .seq (Bi lends a) (Bi lends b)
 | .cond c a b=> .cond c (Bi lends a) (Bi lends b)
 | .block id c=> .block id (Bi lends c)
 | .loop c=> .loop (Bi lends c)
 | .exit id=> .exit id
 | .ret=> .ret
 |_=> .bad
def Jv(E:Env)(pm:Pm)(s:St)(dst:Option Tmp)(op:Op)(type:ab):Option St:=mR E pm s ⟨dst,op,type, "", #[],none⟩
def Nh(E:Env)(pm:Pm)(s:St)(o:SOp):Option St:=
 match o.guard with
 |none=>Jv E pm s o.dst o.op o.type
 |some (none,_)=>some (s.putO o.dst (.konst undef))
 |some (some t,b)=>
  match s.v t with
  | .bool b'=>if b'==b then Jv E pm s o.dst o.op o.type else some (s.putO o.dst (.konst undef))
  | .konst (.tuple _)=>some (s.putO o.dst (.konst undef))
  |_=>none
def jX(E:Env):List SOp→St→Option St
 | [],s=>some s
 |o::l,s=>(Nh E Pm.all s o).bind fun s'=>jX E l s'
def K9(pm:Pm)(s:St)(op:Op):Bool:=
 match op with
 | .move (.tmp u)=> !(s.v u).hasObj||(s.v u).isObj||pm.wr u
 |_=>true
def YH(E:Env):List (PmL×SOp)→St→Option St
 | [],s=>some s
 |(p,o)::l,s=>if K9 p.pm s o.op then(Nh E p.pm s o).bind fun s'=>YH E l s' else none
noncomputable def Dt(E:Env):SC→St→Option (Ex×St)
 | .skip,s=>some (.normal,s)
 | .ops l,s=>(jX E l s).map fun s'=>(.normal,s')
 | .draws l,s=>(YH E l s).map fun s'=>(.normal,s')
 | .seq a b,s=>
  match Dt E a s with
  |some (.normal,s')=>Dt E b s'
  |r=>r
 | .cond c a b,s=>
  match ev E.T s 0 c with
  |some (.bool t)=>if t then Dt E a s else Dt E b s
  |_=>none
 | .block id c,s=>
  match Dt E c s with
  |some (.exit j,s')=>if j=id then some (.normal,s')else some (.exit j,s')
  |r=>r
 | .loop c,s=>Rc (Dt E c) s
 | .exit id,s=>some (.exit id,s)
 | .ret,s=>some (.ret,s)
 | .bad,_=>none
theorem YI(E:Env)(ops:Array Oper)(pm:Pm)(s:St)(o:Oper):Nh E pm s (Nw ops o)=IV E ops pm s o:=by
 obtain⟨dst,op,type,pos,after,guard⟩:=o;unfold Nh IV Kl Nw
 cases guard with
 |none=>rfl
 |some g=>
  obtain⟨j,b⟩:=g;simp only
  cases (ops[j]?).bind (·.dst)with
  |none=>rfl
  |some t=>
   simp only
   cases hv:s.v t with
   |bool b'=>simp only;cases hb:(b'==b)<;>simp<;>rfl
   |konst v=>cases v<;>rfl
   |_=>rfl
theorem nO(E:Env)(ops:Array Oper): ∀(l:List Oper) (s:St),jX E (l.map fun o=>Nw ops (tag E.lends ops.toList o)) s=UJ E ops s l:=by
 intro l
 induction l with
 |nil=>intro s;rfl
 |cons o l ih=>
  intro s;simp only [OG,jX,UJ,YI]
  cases IV E ops Pm.all s (tag E.lends ops.toList o)with
  |none=>rfl
  |some s'=>simp only [DT];exact ih s'
theorem jY(E:Env)(ops:Array Oper)(l0:List Oper): ∀(l:List Oper) (s:St),
  YH E (l.map fun o=>(⟨F7 l0 o,l0.flatMap (EB E.lends l0),EB E.lends l0 o⟩,Nw ops (Rb E.lends ops.toList o))) s=Nb E ops l0 s l:=by
 intro l
 induction l with
 |nil=>intro s;rfl
 |cons o l ih=>
  intro s;simp only [OG,YH,Nb,YI];have h1:(PmL.mk (F7 l0 o) (l0.flatMap (EB E.lends l0)) (EB E.lends l0 o)).pm=Hr E.lends l0 o:=nr rfl;have h2:K9 (Hr E.lends l0 o) s (Nw ops (Rb E.lends ops.toList o)).op=ZJ (Hr E.lends l0 o) s o:=nr rfl;rw [h1,h2];split
  ·cases IV E ops (Hr E.lends l0 o) s (Rb E.lends ops.toList o)with
   |none=>rfl
   |some s'=>simp only [DT];exact ih s'
  ·rfl
theorem jZ(E:Env): ∀(c:Code),Dt E (Bi E.lends c)=Dq E c:=by
 intro c
 induction c with
 |skip=>rfl
 |region id ops draw=>
  funext s
  simp only [Bi,Dq]
  cases draw with
  |true=>
   simp only [if_true];split
   ·simp only [Dt];rw [jY]
   ·rfl
  |false=>simp only [Ik,if_false,Dt];rw [nO]
 |seq a b iha ihb=>funext s;simp only [Bi,Dt,Dq,iha,ihb];rfl
 |cond x a b iha ihb=>funext s;simp only [Bi,Dt,Dq,iha,ihb];rfl
 |block id c ih=>funext s;simp only [Bi,Dt,Dq,ih];rfl
 |loop c ih=>funext s;simp only [Bi,Dt,Dq,ih]
 |exit id=>rfl
 |ret=>rfl
 |rangeFunc=>rfl
 |scope=>rfl
 |label=>rfl
 |goto=>rfl
 |refuse=>rfl
def CK(E:Env)(c:SC)(Q:Ex→St→Prop)(s:St):Prop:= ∃ex s',Dt E c s=some (ex,s')∧Q ex s'
section
variable {E:Env} {Q:Ex→St→Prop} {s:St}
def YJ(E:Env)(b:SC)(Q:Ex→St→Prop):Ex→St→Prop
 | .normal,s=>CK E b Q s
 |ex,s=>Q ex s
def inBlock(id:Nat)(Q:Ex→St→Prop):Ex→St→Prop
 | .exit j,s=>if j=id then Q .normal s else Q (.exit j) s
 |ex,s=>Q ex s
theorem yj{a b:SC}(h:CK E a (YJ E b Q) s):CK E (.seq a b) Q s:=by
 obtain⟨ex,s1,h1,h2⟩:=h
 cases ex with
 |normal=>
  obtain⟨ex',s2,h3,h4⟩:=h2
  exact⟨ex',s2,by simp [Dt,h1,h3],h4⟩
 |exit id=>exact⟨_,s1,by simp [Dt,h1],h2⟩
 |ret=>exact⟨_,s1,by simp [Dt,h1],h2⟩
theorem ja{id:Nat}{c:SC}(h:CK E c (inBlock id Q) s):CK E (.block id c) Q s:=by
 obtain⟨ex,s1,h1,h2⟩:=h
 cases ex with
 |normal=>exact⟨_,s1,by simp [Dt,h1],h2⟩
 |exit j=>
  simp only [inBlock]at h2;by_cases hj:j=id
  ·subst hj;rw [if_pos rfl]at h2;exact⟨.normal,s1,by simp [Dt,h1],h2⟩
  ·rw [if_neg hj]at h2;exact⟨_,s1,by simp [Dt,h1,hj],h2⟩
 |ret=>exact⟨_,s1,by simp [Dt,h1],h2⟩
theorem BM{c:SC}{Q':Ex→St→Prop}(h:CK E c Q s)(hq: ∀ex s,Q ex s→Q' ex s):CK E c Q' s:=by
 obtain⟨ex,s1,h1,h2⟩:=h;exact⟨ex,s1,h1,hq _ _ h2⟩
end
def Fx(T:Tys)(n:Nat)(rs:List ResultVar)(r:D×List D):Ex→St→Prop
 | .normal,s=>Vj T n rs s=some r
 | .ret,s=>Vj T n rs s=some r
 | .exit _,_=>False
theorem Sys.call_wp{Y:Sys}{f:am}{fn:Func}{c:Code}{k:SC}{a l:List D}{r:D×List D}(hb:Y.base f a l=none)(hf:Y.P.funcs[f]? =some fn)(hok:CL fn a.length=true)
  (hbody:fn.body=some c)(hk:Bi Y.lends c=k)(h:CK Y.env k (Fx Y.T l.length fn.results.toList r) (entry a l)):Y.call f a l=some r:=by
 refine Sys.call_run hb hf hok ?_;obtain⟨ex,s1,h1,h2⟩:=h;unfold Xa;rw [←hk]at h1;have h3:Dt Y.env (Bi Y.env.lends c)=Dq Y.env c:=jZ Y.env c;have h4:Dq Y.env c (entry a l)=some (ex,s1):=by rw [←h3];exact h1
 rw [hbody];simp only [h4]
 cases ex with
 |normal=>exact h2
 |ret=>exact h2
 |exit id=>exact h2.elim
section
variable (E:Env) (pm:Pm) (s:St) (dst:Option Tmp) (ty:ab)
theorem Zz(op:Op):Nh E pm s ⟨dst,op,ty,none⟩=Jv E pm s dst op ty:=nr rfl
def grd(E:Env)(pm:Pm)(s:St)(dst:Option Tmp)(op:Op)(ty:ab)(b:Bool)(d:D):Option St:=
 match d with
 | .bool b'=>if b'==b then Jv E pm s dst op ty else some (s.putO dst (.konst undef))
 | .konst (.tuple _)=>some (s.putO dst (.konst undef))
 |_=>none
theorem YK(op:Op)(t:Tmp)(b:Bool):Nh E pm s ⟨dst,op,ty,some (some t,b)⟩=grd E pm s dst op ty b (s.v t):=nr rfl
theorem A8u(op:Op)(b':Bool):grd E pm s dst op ty true (.bool b')=if b'=true then Jv E pm s dst op ty else some (s.putO dst (.konst undef)):=by cases b'<;>rfl
theorem A8v(op:Op)(b':Bool):grd E pm s dst op ty false (.bool b')=if b'=true then some (s.putO dst (.konst undef))else Jv E pm s dst op ty:=by cases b'<;>rfl
theorem A8w(op:Op)(b:Bool):grd E pm s dst op ty b (.konst undef)=some (s.putO dst (.konst undef)):=nr rfl
def pk(s:St)(dst:Option Tmp)(c a b:Option D):Option St:=
 match c,a,b with
 |some (.bool t),some x,some y=>if(if t then x else y).hasObj then none else some (s.putO dst (if t then x else y))
 |_,_,_=>none
theorem jb(c a b:ac):Jv E pm s dst (.pick c a b) ty=pk s dst (ev E.T s ty c) (ev E.T s ty a) (ev E.T s ty b):=nr rfl
theorem pkT(x y:D)(h:x.hasObj=false):pk s dst (some (.bool true)) (some x) (some y)=some (s.putO dst x):=by simp [pk,h]
theorem pkF(x y:D)(h:y.hasObj=false):pk s dst (some (.bool false)) (some x) (some y)=some (s.putO dst y):=by simp [pk,h]
theorem pkB(t p q:Bool):pk s dst (some (.bool t)) (some (.bool p)) (some (.bool q))=some (s.putO dst (.bool (if t then p else q))):=by cases t<;>rfl
theorem hoB(b:Bool):(D.bool b).hasObj=false:=by simp [D.hasObj]
theorem hoI(k:IntKind)(n:Int):(D.int k n).hasObj=false:=by simp [D.hasObj]
theorem hoS(b:ByteArray):(D.str b).hasObj=false:=by simp [D.hasObj]
theorem fZ(t:ab):Jv E pm s dst (.alloc t) ty=if E.T.known t then some (s.putO dst (.box (E.T.zeros t)))else none:=nr rfl
theorem nP(t:ab)(x:ac):Jv E pm s dst (.box t x) ty=if ty=900003 then(MW E.T pm s dst t x).bind fun s1=>Ee pm s1 dst else MW E.T pm s dst t x:=nr rfl
theorem jc(t:ab)(x:ac):MW E.T pm s dst t x=match RY (ev E.T s t x)with
  |some ds=>if E.T.isStruct t then some (s.putO dst (.box ds))else none
  |none=>
   match take E.T pm s t x with
   |some (d,s1)=>if E.T.isStruct t==d.isAgg then some (s1.putO dst (.box d.asCells))else none
   |none=>none:=nr rfl
theorem fe(t:ab)(parts:Array (Nat×ac)):Jv E pm s dst (.build t parts) ty=match E.T.nest t with
  |some fl=>if E.T.isStruct t&&E.T.known t then(IJ E.T pm fl s (E.T.zeros t) parts.toList).map fun r=>r.2.putO dst (.agg r.1)else none
  |none=>match E.T.ty t with
   | .struct fs=>if E.T.known t then(FV E.T pm (fun i=>fs.getD i 0) 1 s (E.T.zeros t) parts.toList).map fun r=>r.2.putO dst (.agg r.1)else none
   |_=>none:=nr rfl
theorem Sb(t:ab)(len:Nat)(parts:Array (Nat×ac)):Jv E pm s dst (.buildSlice t len parts) ty=if ty=900004 then(RZ E.T pm s dst t len parts).bind fun s1=>MV pm s1 dst else RZ E.T pm s dst t len parts:=nr rfl
def stF(pm:Pm)(a:ac):Option St→Option St
 |some s1=>Ee pm s1 (Ra a)
 |none=>none
theorem jd(a:ac)(o:Option St):stF pm a o=o.bind fun s1=>Ee pm s1 (Ra a):=by cases o<;>rfl
theorem fq(t:ab)(a x:ac):Jv E pm s none (.store t a x) ty=if ty=900007 then Fv E.T pm t a (Jy E.T pm s t x)else if ty=900010 then RU E.T pm s t a x else if ty=900011 then stF pm a (IR E.T pm s t a x)else IR E.T pm s t a x:=by
 rw [jd];rfl
def J4(s:St)(dst:Option Tmp):Option D→Option St
 |some r=>some (s.putO dst r)
 |none=>none
theorem A1r(r:D):J4 s dst (some r)=some (s.putO dst r):=nr rfl
def WK(dst:Option Tmp):Option (D×St)→Option St
 |some r=>some (r.2.putO dst r.1)
 |none=>none
theorem A1s(r:D)(s:St):WK dst (some (r,s))=some (s.putO dst r):=nr rfl
def UU(T:Tys)(s:St)(dst:Option Tmp)(op:BinOp)(t:ab):Option D→Option D→Option St
 |some a,some b=>if LX T t a then J4 s dst (FZ op a b)else none
 |_,_=>none
theorem A1t(T:Tys)(op:BinOp)(t:ab)(a b:D):UU T s dst op t (some a) (some b)=if LX T t a then J4 s dst (FZ op a b)else none:=nr rfl
def fzB(pm:Pm)(dst:Option Tmp)(u:Tmp):Option St→Option St
 |some s1=>XX pm s1 dst u
 |none=>none
theorem yl(op:BinOp)(t:ab)(x y:ac)(t':ab):Jv E pm s dst (.binOp op t x y t') ty=if ty<2000000 then Gp E.T pm s dst op t x y else fzB pm dst (ty-2000000) (Gp E.T pm s dst op t x y):=by
 show(if ty<2000000 then Gp E.T pm s dst op t x y else(Gp E.T pm s dst op t x y).bind fun s1=>XX pm s1 dst (ty-2000000))=_
 cases Gp E.T pm s dst op t x y<;>rfl
theorem Qy(op:BinOp)(t:ab)(x y:ac)(hq:XW E.T op t y=none):Gp E.T pm s dst op t x y=UU E.T s dst op t (ev E.T s t x) (ev E.T s t y):=by
 unfold Gp;rw [hq];simp only
 cases ev E.T s t x<;>cases ev E.T s t y<;>simp only [UU]
 rename_i a b
 cases FZ op a b<;>rfl
theorem A8x(op:BinOp)(t:ab)(x:ac)(u:Tmp)(t':ab):Jv E pm s dst (.binOp op t x (.tmp u) t') ty=if ty<2000000 then UU E.T s dst op t (ev E.T s t x) (some (s.v u))else fzB pm dst (ty-2000000) (UU E.T s dst op t (ev E.T s t x) (some (s.v u))):=by
 rw [yl,Qy E pm s dst op t x (.tmp u) rfl];rfl
theorem A8y(op:BinOp)(t:ab)(x:ac)(k:IntKind)(n:Int)(t':ab):Jv E pm s dst (.binOp op t x (.const (.int k n)) t') ty=if ty<2000000 then UU E.T s dst op t (ev E.T s t x) (some (.int k n))else fzB pm dst (ty-2000000) (UU E.T s dst op t (ev E.T s t x) (some (.int k n))):=by
 rw [yl,Qy E pm s dst op t x _ rfl];rfl
def aA(s:St)(dst:Option Tmp)(q:Bool):Option Bool→Option St
 |some b=>some (s.putO dst (.bool (b==q)))
 |none=>none
theorem A1u(b:Bool):aA s dst true (some b)=some (s.putO dst (.bool b)):=by cases b<;>rfl
theorem A1v(b:Bool):aA s dst false (some b)=some (s.putO dst (.bool (!b))):=by cases b<;>rfl
def qR(op:BinOp)(s:St)(dst:Option Tmp)(r:Option Bool)(o:Option St):Ty→Option St
 | .slice _=>match op with| .eql=>aA s dst true r| .neq=>aA s dst false r|_=>o
 |_=>o
theorem A8z(r:Option Bool)(o:Option St)(e:ab):qR .eql s dst r o (.slice e)=aA s dst true r:=nr rfl
theorem A90(r:Option Bool)(o:Option St)(e:ab):qR .neq s dst r o (.slice e)=aA s dst false r:=nr rfl
theorem nQ(op:BinOp)(t:ab)(u:Tmp):Gp E.T pm s dst op t (.tmp u) (.const (.slice none 0 0))=qR op s dst (OI pm s (s.v u)) (UU E.T s dst op t (some (s.v u)) (ev E.T s t (.const (.slice none 0 0)))) (E.T.ty t):=by
 have key: ∀q,XW E.T op t (.const (.slice none 0 0))=some q→Gp E.T pm s dst op t (.tmp u) (.const (.slice none 0 0))=aA s dst q (OI pm s (s.v u)):=by
  intro q hq;unfold Gp;rw [hq];simp only [ev,DT]
  cases OI pm s (s.v u)<;>rfl
 cases ht:E.T.ty t with
 |slice e=>
  cases op<;>first
   |(simp only [qR];exact key true (by simp [XW,ht]))
   |(simp only [qR];exact key false (by simp [XW,ht]))
   |(simp only [qR];exact Qy E pm s dst _ t _ _ (by simp [XW,ht]))
 |_=>exact Qy E pm s dst _ t _ _ (by simp [XW,ht])
theorem ym(op:BinOp)(t:ab)(u:Tmp)(t':ab):Jv E pm s dst (.binOp op t (.tmp u) (.const (.slice none 0 0)) t') ty=if ty<2000000 then qR op s dst (OI pm s (s.v u)) (UU E.T s dst op t (some (s.v u)) (ev E.T s t (.const (.slice none 0 0)))) (E.T.ty t)
  else fzB pm dst (ty-2000000) (qR op s dst (OI pm s (s.v u)) (UU E.T s dst op t (some (s.v u)) (ev E.T s t (.const (.slice none 0 0)))) (E.T.ty t)):=by
 rw [yl,nQ]
theorem A91(e:ab)(x:D)(xs:List D):OI pm s (.sl e (x::xs))=some false:=nr rfl
theorem ndK(A:Option Addr)(n c:Nat):OI pm s (.konst (.slice A n c))=some A.isNone:=nr rfl
theorem YL(src d:ab)(x:ac):Jv E pm s dst (.convert src d x) ty=if E.T.known src then
   match ev E.T s src x,E.T.ty d with
   |some (.int _ n),.int k=>some (s.putO dst (.int k (k.wrap n)))
   |some (.str b),.string=>some (s.putO dst (.str b))
   |_,_=>none
  else none:=nr rfl
theorem WL(f:am)(first captured:Array ac):Jv E pm s dst (.makeFunc (.func f) first captured) ty=if ty<3000000 then(if first.isEmpty then(Kh pm s captured.toList).map fun r=>r.2.putO dst (.clo f r.1)else none)
  else(if first.isEmpty then(Vg pm s (ty-3000000) captured.toList).map fun r=>r.2.putO dst (.ocl false f r.1)else none):=nr rfl
theorem UV(t:ab)(l c:ac):Jv E pm s dst (.makeSlice t l c) ty=if ty=900012 then(UI E.T s dst t l c).bind fun s1=>MV pm s1 dst else UI E.T s dst t l c:=nr rfl
theorem WM(x:ac):Jv E pm s dst (.nilCheck x) ty=(ev E.T s ty x).bind fun d=>
   match d with
   | .box _=>some (CU s dst x d)
   | .vw L n m=>match s.look pm L n m with|some (.box _)=>some (CU s dst x d)|_=>none
   | .pe L _ n m=>match s.look pm L n m with|some _=>some (CU s dst x d)|none=>none
   | .cptr _=>some (CU s dst x d)
   | .clo _ _=>some (CU s dst x d)
   | .ocl false _ _=>some (CU s dst x d)
   |_=>none:=nr rfl
theorem aB(x y:ac)(t t':ab):Jv E pm s dst (.call ⟨.builtin .append, #[x,y], #[t,t']⟩) ty=if t=t' then(if yN (ev E.T s t y)then K3 E.T pm s t x else Fw E.T pm s t x y).map fun r=>r.2.putO dst r.1 else none:=nr rfl
theorem je(f:am)(args:Array ac)(ts:Array ab):Jv E pm s dst (.call ⟨.value (.func f),args,ts⟩) ty=if args.size=ts.size then(if ty=900014 then(FW E pm s dst f (args.toList.zip (MZ ty ts.toList)) []).bind fun s1=>Ee pm s1 dst else FW E pm s dst f (args.toList.zip (MZ ty ts.toList)) [])else none:=nr rfl
theorem fu(u:Tmp)(args:Array ac)(ts:Array ab):Jv E pm s dst (.call ⟨.value (.tmp u),args,ts⟩) ty=match s.v u with
   | .clo f caps=>if args.size=ts.size then FW E pm s dst f (args.toList.zip ts.toList) caps else none
   | .ocl false f caps=>if args.size=ts.size then M7 E pm s dst f (args.toList.zip ts.toList) caps else none
   |_=>none:=nr rfl
end
theorem yn(T:Tys)(s:St)(t:ab)(u:Tmp):ev T s t (.tmp u)=some (s.v u):=nr rfl
theorem yo(T:Tys)(s:St)(t:ab)(k:IntKind)(n:Int):ev T s t (.const (.int k n))=some (.int k n):=nr rfl
theorem nR(T:Tys)(s:St)(t:ab)(b:Bool):ev T s t (.const (.bool b))=some (.bool b):=nr rfl
theorem yt(T:Tys)(s:St)(t:ab):ev T s t (.const (.slice none 0 0))=match T.ty t with| .slice e=>some (.own e [])| .other=>some (.konst (.slice none 0 0))|_=>none:=nr rfl
theorem A1w(s:St)(t u:Nat)(d:D):(s.put t d).v u=if u=t then d else s.v u:=by rw [qQ];rfl
theorem A1x(s:St)(t u:Nat)(d:D):(s.put t d).k u=if u=t then(if d.hasObj then s.k t+1 else s.k t)else s.k u:=by
 unfold St.put;by_cases h:u=t
 ·subst h;cases hd:d.hasObj<;>simp [KH]
 ·cases hd:d.hasObj<;>simp [KH,h]
theorem A1y(s:St)(t u:Nat)(d:D):(s.put t d).m u=s.m u:=by unfold St.put;split<;>rfl
theorem A1z(s:St)(t u:Nat):(s.clr t).v u=if u=t then .undef else s.v u:=nr rfl
theorem A20(s:St)(t u:Nat):(s.clr t).k u=s.k u:=nr rfl
theorem A21(s:St)(t u:Nat):(s.clr t).m u=s.m u:=nr rfl
theorem yu(s:St)(t u:Nat):(s.bump t).v u=s.v u:=nr rfl
theorem yw(s:St)(t u:Nat):(s.bump t).k u=s.k u:=nr rfl
theorem yx(s:St)(t u:Nat):(s.bump t).m u=if u=t then s.m t+1 else s.m u:=nr rfl
theorem A22(s:St)(t u:Nat)(p:AB)(d:D):(s.set (t::p) d).v u=if u=t then Gd (s.v t) p d else s.v u:=nr rfl
theorem A23(s:St)(t u:Nat)(p:AB)(d:D):(s.set (t::p) d).k u=s.k u:=nr rfl
theorem A24(s:St)(t u:Nat)(p:AB)(d:D):(s.set (t::p) d).m u=s.m u:=nr rfl
theorem fw(s:St)(t:Tmp)(d:D):s.putO (some t) d=s.put t d:=nr rfl
theorem gB(s:St)(d:D):s.putO none d=s:=nr rfl
theorem A25(Y:Sys):Y.env.T=Y.T:=nr rfl
theorem gD(Y:Sys):Y.env.lends=Y.lends:=nr rfl
theorem jf(Y:Sys):Y.env.call=Y.call:=nr rfl
theorem nS(a l:List D)(t:Nat):(entry a l).v t=if t<G then a.getD t .undef else l.getD (t-G) .undef:=nr rfl
theorem nT(a l:List D)(t:Nat):(entry a l).k t=0:=nr rfl
theorem nU(a l:List D)(t:Nat):(entry a l).m t=0:=nr rfl
theorem Ky{r:Ex×St}{Q:Ex→St→Prop}:(∃ex s',some r=some (ex,s')∧Q ex s')=Q r.1 r.2:=
 propext ⟨fun⟨ex,s',h,hq⟩=>by injection h with h;subst h;exact hq,fun h=>⟨r.1,r.2,rfl,h⟩⟩
section
variable (E:Env) (Q:Ex→St→Prop) (s:St)
theorem A26:CK E .skip Q s=Q .normal s:=Ky
theorem A27(id:Nat):CK E (.exit id) Q s=Q (.exit id) s:=Ky
theorem A92:CK E .ret Q s=Q .ret s:=Ky
theorem A93:CK E (.ops []) Q s=Q .normal s:=Ky
def nxt(E:Env)(l:List SOp)(Q:Ex→St→Prop):Option St→Prop
 |some s=>CK E (.ops l) Q s
 |none=>False
theorem A94(l:List SOp):nxt E l Q (some s)=CK E (.ops l) Q s:=nr rfl
theorem A28(o:SOp)(l:List SOp):CK E (.ops (o::l)) Q s=nxt E l Q (Nh E Pm.all s o):=by
 unfold CK;simp only [Dt,jX]
 cases Nh E Pm.all s o with
 |none=>simp [nxt]
 |some s'=>simp [nxt,CK,Dt]
theorem A29:CK E (.draws []) Q s=Q .normal s:=Ky
def jg(E:Env)(l:List (PmL×SOp))(Q:Ex→St→Prop):Bool→Option St→Prop
 |true,some s=>CK E (.draws l) Q s
 |_,_=>False
theorem A2A(l:List (PmL×SOp)):jg E l Q true (some s)=CK E (.draws l) Q s:=nr rfl
theorem yz(p:PmL)(o:SOp)(l:List (PmL×SOp)):CK E (.draws ((p,o)::l)) Q s=jg E l Q (K9 p.pm s o.op) (Nh E p.pm s o):=by
 unfold CK;simp only [Dt,YH]
 cases K9 p.pm s o.op with
 |true=>
  cases Nh E p.pm s o with
  |none=>simp [jg]
  |some s'=>simp [jg,CK,Dt]
 |false=>simp [jg]
theorem A95(a b:SC):CK E (.seq a b) Q s=CK E a (YJ E b Q) s:=by
 refine propext ⟨fun⟨ex,s1,h1,h2⟩=> ?_,yj⟩;simp only [Dt]at h1
 cases ha:Dt E a s with
 |none=>simp [ha]at h1
 |some q=>
  obtain⟨ex',s2⟩:=q
  cases ex' with
  |normal=>simp only [ha]at h1;exact⟨_,s2,ha,ex,s1,h1,h2⟩
  |exit id=>simp only [ha,al,Prod.mk.injEq]at h1;obtain⟨rfl,rfl⟩:=h1;exact⟨_,s2,ha,h2⟩
  |ret=>simp only [ha,al,Prod.mk.injEq]at h1;obtain⟨rfl,rfl⟩:=h1;exact⟨_,s2,ha,h2⟩
def cnd(E:Env)(a b:SC)(Q:Ex→St→Prop)(s:St):Option D→Prop
 |some (.bool t)=>if t=true then CK E a Q s else CK E b Q s
 |_=>False
theorem A96(a b:SC)(t:Bool):cnd E a b Q s (some (.bool t))=if t=true then CK E a Q s else CK E b Q s:=nr rfl
theorem A2C(c:ac)(a b:SC):CK E (.cond c a b) Q s=cnd E a b Q s (ev E.T s 0 c):=by
 unfold CK;simp only [Dt]
 cases ev E.T s 0 c with
 |none=>simp [cnd]
 |some d=>cases d with
  |bool t=>cases t<;>simp [cnd,CK]
  |_=>simp [cnd]
theorem z8(id:Nat)(c:SC):CK E (.block id c) Q s=CK E c (inBlock id Q) s:=by
 refine propext ⟨fun⟨ex,s1,h1,h2⟩=> ?_,ja⟩;simp only [Dt]at h1
 cases ha:Dt E c s with
 |none=>simp [ha]at h1
 |some q=>
  obtain⟨ex',s2⟩:=q
  cases ex' with
  |normal=>simp only [ha,al,Prod.mk.injEq]at h1;obtain⟨rfl,rfl⟩:=h1;exact⟨_,s2,ha,h2⟩
  |exit j=>
   simp only [ha]at h1;by_cases hj:j=id
   ·simp only [hj,if_true,al,Prod.mk.injEq]at h1;obtain⟨rfl,rfl⟩:=h1;exact⟨_,s2,ha,by simpa [inBlock,hj] using h2⟩
   ·simp only [hj,if_false,al,Prod.mk.injEq]at h1;obtain⟨rfl,rfl⟩:=h1;exact⟨_,s2,ha,by simpa [inBlock,hj] using h2⟩
  |ret=>simp only [ha,al,Prod.mk.injEq]at h1;obtain⟨rfl,rfl⟩:=h1;exact⟨_,s2,ha,h2⟩
theorem zA(b:SC):YJ E b Q .normal s=CK E b Q s:=nr rfl
theorem zC(b:SC)(id:Nat):YJ E b Q (.exit id) s=Q (.exit id) s:=nr rfl
theorem zD(b:SC):YJ E b Q .ret s=Q .ret s:=nr rfl
theorem A97(id:Nat):inBlock id Q .normal s=Q .normal s:=nr rfl
theorem A98(id j:Nat):inBlock id Q (.exit j) s=if j=id then Q .normal s else Q (.exit j) s:=nr rfl
theorem A99(id:Nat):inBlock id Q .ret s=Q .ret s:=nr rfl
theorem A2D(T:Tys)(n:Nat)(rs:List ResultVar)(r:D×List D):Fx T n rs r .ret s=(Vj T n rs s=some r):=nr rfl
end
section
variable (s:St) (dst:Option Tmp) (u:Tmp) (k:IntKind) (n:Int) (b:Bool) (x:ByteArray) (e:ab) (xs:List D) (L:AB) (i j c:Nat) (v:Value) (f:am)
theorem A2E:CU s dst (.tmp u) (.int k n)=s.putO dst (.int k n):=nr rfl
theorem zF:CU s dst (.tmp u) (.bool b)=s.putO dst (.bool b):=nr rfl
theorem A9A:CU s dst (.tmp u) (.sl e xs)=s.putO dst (.sl e xs):=nr rfl
theorem nV:CU s dst (.tmp u) (.konst v)=s.putO dst (.konst v):=nr rfl
theorem A2F:CU s dst (.tmp u) (.own e xs)=s.putO dst (.vw [u] (s.k u) (s.m u)):=nr rfl
theorem A9B(k:ab)(es:List (AL×AL)):CU s dst (.tmp u) (.mp k e es)=s.putO dst (.vw [u] (s.k u) (s.m u)):=nr rfl
theorem A9C:CU s dst (.tmp u) (.vw L i j)=s.putO dst (.vw L i j):=nr rfl
theorem A2G:CU s dst (.tmp u) (.clo f xs)=s.putO dst (.clo f xs):=nr rfl
theorem A2H:CU s dst (.tmp u) (.tup xs)=if Ak xs then(if Ak (Iu s u 0 xs)then(s.clr u).putO dst (.tup xs)else s.putO dst (.tup (Iu s u 0 xs)))else s.putO dst (.tup xs):=nr rfl
theorem A2I(i:Nat):Iu s u i []=[]:=nr rfl
theorem zG(i:Nat)(x:D):Iu s u i (x::xs)=Na s u i x::Iu s u (i+1) xs:=nr rfl
theorem A2J(i:Nat):Na s u i (.int k n)= .int k n:=nr rfl
theorem A2K(i:Nat):Na s u i (.own e xs)= .vw [u,i] (s.k u) (s.m u):=nr rfl
variable (pm:Pm)
theorem A2L:BR pm s dst (.tmp u) (.int k n)=some (s.putO dst (.int k n)):=nr rfl
theorem zH:BR pm s dst (.tmp u) (.bool b)=some (s.putO dst (.bool b)):=nr rfl
theorem A9D:BR pm s dst (.tmp u) (.sl e xs)=some (s.putO dst (.sl e xs)):=nr rfl
theorem A2M:BR pm s dst (.tmp u) (.own e xs)=some ((s.clr u).putO dst (.own e xs)):=nr rfl
theorem A9E(k:ab)(es:List (AL×AL)):BR pm s dst (.tmp u) (.mp k e es)=some ((s.clr u).putO dst (.mp k e es)):=nr rfl
theorem A2N(r:Nat):BR pm s dst (.tmp u) (.vw [r] i j)=(MR pm s [r] i j).map fun q=>q.2.putO dst q.1:=nr rfl
def asT(_s:St)(dst:Option Tmp)(a:Option (D×St))(b:Option St):Bool→Option St
 |true=>a.map fun q=>q.2.putO dst q.1
 |false=>b
theorem A9F(a:Option (D×St))(b:Option St):asT s dst a b true=a.map fun q=>q.2.putO dst q.1:=nr rfl
theorem A2O(r r':Nat)(p:AB):BR pm s dst (.tmp u) (.vw (r::r'::p) i j)=asT s dst (CO pm s (.vw (r::r'::p) i j)) (some (s.putO dst (.vw (r::r'::p) i j))) (yP pm s r):=by
 by_cases h:yP pm s r=true
 ·have h':ZH pm s (.vw (r::r'::p) i j)=true:=h;unfold BR;simp only [h',h,if_true];rfl
 ·have h':ZH pm s (.vw (r::r'::p) i j)=false:=JF.mpr h;unfold BR;simp only [h',JF.mpr h];rfl
theorem A9G(r:Nat):yP pm s r=(pm.rd r&&yO (s.v r)):=nr rfl
theorem A2P:yO (.tup xs)=true:=nr rfl
theorem A2Q:BR pm s dst (.tmp u) (.clo f xs)=some (s.putO dst (.clo f xs)):=nr rfl
end
section
variable (k:IntKind) (x y:Int) (p q:Bool) (a b:ByteArray)
theorem A2R:FZ .add (.int k x) (.int k y)=some (.int k (k.wrap (x+y))):=by simp [FZ]
theorem A2S:FZ .sub (.int k x) (.int k y)=some (.int k (k.wrap (x-y))):=by simp [FZ]
theorem A2T:FZ .mul (.int k x) (.int k y)=some (.int k (k.wrap (x*y))):=by simp [FZ]
theorem A2U(k':IntKind):FZ .shr (.int k x) (.int k' y)=if y<0 then none else some (.int k (x.fdiv (2 ^ (min y.toNat k.bits)))):=by simp [FZ]
theorem A9H:FZ .eql (.int k x) (.int k y)=some (.bool (decide (x=y))):=by simp [FZ];rfl
theorem A9I:FZ .neq (.int k x) (.int k y)=some (.bool (!decide (x=y))):=by simp [FZ];rfl
theorem A9J:FZ .lss (.int k x) (.int k y)=some (.bool (decide (x<y))):=by simp [FZ]
theorem A9K:FZ .leq (.int k x) (.int k y)=some (.bool (decide (x≤y))):=by simp [FZ]
theorem A9L:FZ .gtr (.int k x) (.int k y)=some (.bool (decide (y<x))):=by simp [FZ]
theorem A9M:FZ .geq (.int k x) (.int k y)=some (.bool (decide (y≤x))):=by simp [FZ]
theorem A2V:FZ .neq (.bool p) (.bool q)=some (.bool (!(p==q))):=nr rfl
theorem A2W:yM .not (.bool p)=some (.bool (!p)):=nr rfl
theorem boI(T:Tys)(t:ab):LX T t (.int k x)=true:=nr rfl
theorem boB(T:Tys)(t:ab):LX T t (.bool p)=match T.ty t with| .bool=>true|_=>false:=nr rfl
theorem boA(T:Tys)(t:ab)(k l:IntKind)(x y:Int):LX T t (.agg [.int k x,.int l y])=bM T k l (T.ty t):=nr rfl
theorem zI(T:Tys)(k l:IntKind)(a b:ab):bM T k l (.struct [a,b])=(ZI k (T.ty a)&&ZI l (T.ty b)):=nr rfl
theorem A2X(k:IntKind):ZI k (.int k)=true:=by simp [ZI]
theorem A2Y(k l:IntKind)(a b c d:Int):FZ .neq (.agg [.int k a,.int l b]) (.agg [.int k c,.int l d])=some (.bool (!((a==c)&&(b==d)))):=by simp [FZ]
end
def Hd(xs:AL):List D:=xs.map (D.int .i64)
theorem DK(xs:AL):(Hd xs).length=xs.length:=by simp [Hd]
end Dv
namespace Dv
open Go
def zB:Value→Value→Bool
 | .int k n,.int k' n'=>decide (k=k')&&decide (n=n')
 | .bool b,.bool b'=>b==b'
 | .string s,.string s'=>s.size==0&&s'.size==0
 | .slice none 0 0,.slice none 0 0=>true
 | .nilFunc,.nilFunc=>true
 | .pointer none,.pointer none=>true
 |_,_=>false
theorem qU{a b:Value}(h:zB a b=true):a=b:=by
 unfold zB at h
 split at h
 ·simp only [F9,decide_eq_true_eq]at h;rw [h.1,h.2]
 ·simp only [beq_iff_eq]at h;rw [h]
 ·simp only [F9,beq_iff_eq]at h
  rename_i s s'
  have: ∀t:ByteArray,t.size=0→t=ByteArray.empty:=by
   intro t ht;obtain⟨d⟩:=t;have:d= #[]:=Array.size_eq_zero_iff.1 ht
   rw [this];rfl
  rw [this s h.1,this s' h.2]
 ·rfl
 ·rfl
 ·rfl
 ·cases h
def zsB:List Value→List Value→Bool
 | [],[]=>true
 |a::as,b::bs=>zB a b&&zsB as bs
 |_,_=>false
theorem jh: ∀ {a b:List Value},zsB a b=true→a=b
 | [],[],_=>rfl
 | [],_::_,h=>by cases h
 |_::_,[],h=>by cases h
 |a::as,b::bs,h=>by
  simp only [zsB,F9]at h;rw [qU h.1,jh h.2]
def Ni(P:Program)(t:ab)(n:Nat)(z:Value):Bool:=
 match P.info? t with
 |some i=>(i.size==n)&&(decide (4<n)||decide (i.bytes≤128))&&(match i.zero,z with|some (.agg a),.agg b=>zsB a.toList b.toList|some v,z=>zB v z|_,_=>false)
 |none=>false
theorem JL{P:Program}{t:ab}{n:Nat}{z:Value}(h:Ni P t n z=true):Ki P t n z:=by
 unfold Ni at h
 split at h
 ·rename_i i hi
  simp only [F9,MQ,beq_iff_eq,decide_eq_true_eq]at h
  refine⟨i,hi,h.1.1, ?_,fun h4=>h.1.2.resolve_left (by omega)⟩
  have h2:=h.2
  split at h2
  ·rename_i a b hz
   rw [hz];have:=jh h2
   rw [←OC (xs:=a),this]
  ·rename_i v z' hz _
   rw [hz,qU h2]
  ·cases h2
 ·cases h
def WN(P:Program)(T:Tys)(t:ab):Bool:=
 match T.ty t with
 | .int k=>(match P.underlying t with|some (.int k')=>decide (k'=k)|_=>false)&&Ni P t 1 (.int k 0)
 | .bool=>(match P.underlying t with|some .bool=>true|_=>false)&&Ni P t 1 (.bool false)
 | .string=>(match P.underlying t with|some .string=>true|_=>false)&&Ni P t 1 (.string ByteArray.empty)
 | .slice e=>(match P.underlying t with|some (.slice e')=>e'==e|_=>false)&&Ni P t 1 (.slice none 0 0)
 | .struct fs=>(match P.underlying t with
   |some (.struct fields)=>
    match T.nest t with
    |none=>(fields.size==fs.length)&&(an fields.size).all (fun j=>match fields[j]?,fs[j]? with|some f,some g=>(f.offset==j)&&(f.type==g)&&T.known g&& !T.isStruct g|_,_=>false)
    |some fl=>decide (4<fs.length)&&(fields.size==fl.length)&&(an fields.size).all (fun j=>match fields[j]?,fl[j]? with|some f,some g=>(f.offset==g.1)&&(f.type==g.2)&&T.known g.2|_,_=>false)
   |_=>false)&&Ni P t fs.length (.agg (fs.map (Eh T)).toArray)
 | .func=>(match P.underlying t with|some (.func ..)=>true|_=>false)&&Ni P t 1 .nilFunc
 | .ptr=>(match P.underlying t with|some (.pointer _)=>true|_=>false)&&Ni P t 1 (.pointer none)
 | .map k e=>match P.underlying t with|some (.map k' e')=>(k'==k)&&(e'==e)|_=>false
 | .arr n e=>(match P.underlying t with|some (.array n' e')=>(n'==n)&&(e'==e)|_=>false)&&decide (4<n)&&(match T.nest t with|some l=>l==mZ n e|none=>false)&&(match T.ty e with| .int _=>true|_=>false)&&Ni P t n (.agg (ao n (Eh T e)).toArray)
 | .other=>true
theorem aD{P:Program}{T:Tys}{t:ab}(h:WN P T t=true):Ep P T t:=by
 unfold WN at h;unfold Ep
 cases hty:T.ty t<;>rw [hty]at h<;>simp only [F9]at h ⊢
 case int k=>
  refine⟨?_,JL h.2⟩
  have h1:=h.1
  split at h1
  ·rename_i k' hu;rw [hu];simp only [decide_eq_true_eq]at h1;rw [h1]
  ·cases h1
 case bool=>
  refine⟨?_,JL h.2⟩
  have h1:=h.1
  split at h1
  ·assumption
  ·cases h1
 case string=>
  refine⟨?_,JL h.2⟩
  have h1:=h.1
  split at h1
  ·assumption
  ·cases h1
 case map k e=>
  split at h
  ·rename_i k' e' hu;rw [hu];simp only [F9,beq_iff_eq]at h;rw [h.1,h.2]
  ·cases h
 case arr n e=>
  obtain⟨⟨⟨⟨h1,h2⟩,h3⟩,h4⟩,h5⟩:=h
  refine⟨⟨?_,by simpa using h2, ?_, ?_⟩,JL h5⟩
  ·split at h1
   ·rename_i n' e' hu;rw [hu];simp only [F9,beq_iff_eq]at h1;rw [h1.1,h1.2]
   ·cases h1
  ·split at h3
   ·rename_i l hl;rw [hl];simp only [beq_iff_eq]at h3;rw [h3]
   ·cases h3
  ·split at h4
   ·rename_i k hk;exact⟨k,hk⟩
   ·cases h4
 case slice e=>
  refine⟨?_,JL h.2⟩
  have h1:=h.1
  split at h1
  ·rename_i k' hu;rw [hu];simp only [beq_iff_eq]at h1;rw [h1]
  ·cases h1
 case struct fs=>
  refine⟨?_,JL h.2⟩
  have h1:=h.1
  split at h1
  ·rename_i fields hu
   refine⟨fields,hu, ?_⟩
   cases hn:T.nest t with
   |none=>
    simp only [hn,F9,beq_iff_eq,IQ,Nn]at h1 ⊢
    refine⟨h1.1,fun j f hf=> ?_⟩
    have hlt:=(U9.1 hf).1;have:=h1.2 j hlt
    rw [hf]at this
    split at this
    ·rename_i f' g hf' hg
     simp only [al]at hf';subst hf';simp only [F9,beq_iff_eq,Kg]at this;obtain⟨⟨⟨q1,q2⟩,q3⟩,q4⟩:=this;subst q2
     exact⟨q1,hg,q3,q4⟩
    ·cases this
   |some fl=>
    simp only [hn,F9,beq_iff_eq,IQ,Nn,decide_eq_true_eq]at h1 ⊢
    refine⟨h1.1.1,h1.1.2,fun j f hf=> ?_⟩
    have hlt:=(U9.1 hf).1;have:=h1.2 j hlt
    rw [hf]at this
    split at this
    ·rename_i f' g hf' hg
     simp only [al]at hf';subst hf';simp only [F9,beq_iff_eq]at this;obtain⟨⟨q1,q2⟩,q3⟩:=this
     refine⟨?_,by rw [q2];exact q3⟩
     rw [hg,q1,q2]
    ·cases this
  ·cases h1
 case func=>
  refine⟨?_,JL h.2⟩
  have h1:=h.1
  split at h1
  ·exact⟨_,_,_,by assumption⟩
  ·cases h1
 case ptr=>
  refine⟨?_,JL h.2⟩
  have h1:=h.1
  split at h1
  ·exact⟨_,by assumption⟩
  ·cases h1
def gF(mU:List Ty)(qV:List (ab×List (Nat×ab))):Tys:={ty:=fun t=>mU.getD t .other,nest:=fun t=>qV.lookup t}
theorem zJ{P:Program}{mU:List Ty}{qV:List (ab×List (Nat×ab))}(h:((an mU.length).all fun t=>WN P (gF mU qV) t&&mo P (gF mU qV) t)=true):Ba P (gF mU qV):=by
 intro t;rcases Nat.lt_or_ge t mU.length with ht|ht
 ·have:=IQ.1 h t (Nn.2 ht)
  rw [F9]at this
  exact⟨aD this.1,this.2⟩
 ·have:(gF mU qV).ty t= .other:=by simp [gF,Jg,bc ht]
  refine⟨?_, ?_⟩
  ·unfold Ep;rw [this];trivial
  ·unfold mo;rw [this]
theorem Ab{Y:Sys}{f:am}{fn:Func}{k:SC}{a l:List D}{r:D×List D}(hb:Y.base f a l=none)(hf:Y.P.funcs[f]? =some fn)(hok:CL fn a.length=true)
  (hk:fn.body.map (Bi Y.lends)=some k)(h:CK Y.env k (Fx Y.T l.length fn.results.toList r) (entry a l)):Y.call f a l=some r:=by
 obtain⟨c,hc,hk⟩:=Cb.1 hk;exact Sys.call_wp hb hf hok hc hk h
end Dv
namespace Dv
open Go
section
variable (E:Env) (pm:Pm) (s:St) (dst:Option Tmp) (ty:ab) (u:Tmp) (t:ab)
theorem Hu(o:Option D):(o.map fun r=>s.putO dst r)=J4 s dst o:=by cases o<;>rfl
theorem Kz(o:Option (D×St)):(o.map fun r=>r.2.putO dst r.1)=WK dst o:=by cases o<;>rfl
theorem A2Z:Jv E pm s dst (.move (.tmp u)) ty=some (CU s dst (.tmp u) (s.v u)):=nr rfl
def mV(pm:Pm):Option Tmp→Option St→Option St
 |some t,some s1=>Ee pm s1 (some t)
 |_,_=>none
def fcB(pm:Pm):Option Tmp→Option St→Option St
 |some t,some s1=>MV pm s1 (some t)
 |_,_=>none
theorem nW:Jv E pm s dst (.assign (.tmp u)) ty=if ty=900003 then mV pm dst (BR pm s dst (.tmp u) (s.v u))else if ty<1000000 then BR pm s dst (.tmp u) (s.v u)else mV pm dst (BR pm s dst (.tmp u) (s.v u)):=by
 have hfr:((BR pm s dst (.tmp u) (s.v u)).bind fun s1=>Ee pm s1 dst)=mV pm dst (BR pm s dst (.tmp u) (s.v u)):=by
  rcases BR pm s dst (.tmp u) (s.v u)with _|s1<;>cases dst<;>rfl
 show(if iR ty=true then(BR pm s dst (.tmp u) (s.v u)).bind fun s1=>Ee pm s1 dst else BR pm s dst (.tmp u) (s.v u))=_
 rw [hfr];unfold iR;by_cases h1:ty=900003
 ·rw [if_pos h1,if_pos h1];rfl
 ·rw [if_neg h1,if_neg h1];by_cases h2:ty<1000000
  ·rw [if_pos h2,if_pos h2];rfl
  ·rw [if_neg h2,if_neg h2];rfl
theorem ji(v:Value):Jv E pm s dst (.assign (.const v)) ty=if ty=900003 then mV pm dst (J4 s dst (ev E.T s ty (.const v)))else if ty<1000000 then J4 s dst (ev E.T s ty (.const v))else mV pm dst (J4 s dst (ev E.T s (ty-1000000) (.const v))):=by
 have hfr: ∀t,((ev E.T s t (.const v)).bind fun d=>(BR pm s dst (.const v) d).bind fun s1=>Ee pm s1 dst)=mV pm dst (J4 s dst (ev E.T s t (.const v))):=by
  intro t
  cases ev E.T s t (.const v)<;>cases dst<;>rfl
 have hno: ∀t,((ev E.T s t (.const v)).bind fun d=>BR pm s dst (.const v) d)=J4 s dst (ev E.T s t (.const v)):=by
  intro t
  cases ev E.T s t (.const v)<;>rfl
 show((ev E.T s (yQ ty) (.const v)).bind fun d=>if iR ty=true then(BR pm s dst (.const v) d).bind fun s1=>Ee pm s1 dst else BR pm s dst (.const v) d)=_
 unfold iR yQ;by_cases h1:ty=900003
 ·simp only [if_pos h1,if_true];exact hfr _
 ·by_cases h2:ty<1000000
  ·simp only [if_neg h1,if_pos h2,Ik,if_false];exact hno _
  ·simp only [if_neg h1,if_neg h2,if_true];exact hfr _
theorem zK(v:Value):Jv E pm s dst (.move (.const v)) ty=J4 s dst (ev E.T s ty (.const v)):=by
 show((ev E.T s ty (.const v)).map fun d=>CU s dst (.const v) d)=_
 cases ev E.T s ty (.const v)<;>rfl
theorem A2a:Jv E pm s dst (.load t (.tmp u)) ty=J4 s dst (Gn E.T pm s t (.tmp u) (s.v u)):=Hu s dst _
theorem yUn(op:UnOp):Jv E pm s dst (.unOp op t (.tmp u)) ty=J4 s dst (yM op (s.v u)):=Hu s dst _
theorem zL(i:Nat):Jv E pm s dst (.fieldAddr t (.tmp u) i) ty=J4 s dst (Ef E.T pm s t (.tmp u) (s.v u) i):=Hu s dst _
theorem A9O:Jv E pm s dst (.call ⟨.builtin .len, #[.tmp u], #[t]⟩) ty=J4 s dst (MX E.T pm s t (.tmp u) (s.v u)):=Hu s dst _
theorem jk(i:Nat):Jv E pm s dst (.extract (.tmp u) i) ty=H9 s dst (.tmp u) (s.v u) i:=nr rfl
def slC(T:Tys)(pm:Pm)(s:St)(dst:Option Tmp)(t:ab)(x:ac)(hi:Option ac):Option ac→Option ac→Option St
 |none,none=>WK dst (MS T pm s t x hi)
 |_,_=>none
theorem A9P(T:Tys)(x:ac)(hi:Option ac):slC T pm s dst t x hi none none=WK dst (MS T pm s t x hi):=nr rfl
def slF(T:Tys)(pm:Pm)(s:St)(dst:Option Tmp)(t:ab)(x:ac)(lo:Option ac):Option ac→Option ac→Option St
 |none,none=>WK dst (MU T pm s t x lo)
 |_,_=>none
theorem zM(lo hi mx:Option ac):Jv E pm s dst (.slice t (.tmp u) lo hi mx) ty=
  if ty=900002 then slC E.T pm s dst t (.tmp u) hi lo mx
  else if ty=900005 then slF E.T pm s dst t (.tmp u) lo hi mx
  else if ty=900001 then WK dst (H8 E.T pm.see s t (.tmp u) (s.v u) lo hi mx)else WK dst (H8 E.T pm s t (.tmp u) (s.v u) lo hi mx):=by
 show(if ty=900002 then(if lo.isNone&&mx.isNone then(MS E.T pm s t (.tmp u) hi).map fun r=>r.2.putO dst r.1 else none)
  else if ty=900005 then(if hi.isNone&&mx.isNone then(MU E.T pm s t (.tmp u) lo).map fun r=>r.2.putO dst r.1 else none)
  else(ev E.T s t (.tmp u)).bind fun d=>(H8 E.T (if ty=900001 then pm.see else pm) s t (.tmp u) d lo hi mx).map fun r=>r.2.putO dst r.1)=_
 split
 ·cases lo<;>cases mx<;>first|rfl|exact Kz dst _
 ·split
  ·cases hi<;>cases mx<;>first|rfl|exact Kz dst _
  ·split
   ·exact Kz dst _
   ·exact Kz dst _
def apI(T:Tys)(pm:Pm)(s:St)(t:ab)(x y:ac)(d:D):Option (D×St):=if yN (some d)then K3 T pm s t x else Fw T pm s t x y
theorem nX(x:ac)(v:Tmp):Jv E pm s dst (.call ⟨.builtin .append, #[x,.tmp v], #[t,t]⟩) ty=WK dst (apI E.T pm s t x (.tmp v) (s.v v)):=by
 rw [aB,if_pos rfl,Kz];rfl
def mn1(mx:Bool):Option D→Option D→Option D
 |some a,some b=>Ve mx a b
 |_,_=>none
theorem A9Q(mx:Bool)(a b:D):mn1 mx (some a) (some b)=Ve mx a b:=nr rfl
theorem A2b(k:IntKind)(x y:Int):Ve true (.int k x) (.int k y)=some (.int k (RP x y)):=by simp [Ve]
theorem A9R(x y:ac)(t':ab):Jv E pm s dst (.call ⟨.builtin .max, #[x,y], #[t,t']⟩) ty=J4 s dst (mn1 true (ev E.T s t x) (ev E.T s t' y)):=by
 show(match ev E.T s t x,ev E.T s t' y with|some a,some b=>(Ve true a b).map fun r=>s.putO dst r|_,_=>none)=_
 cases ev E.T s t x<;>cases ev E.T s t' y<;>first|rfl|exact Hu s dst _
theorem A9S(T:Tys)(x y:ac)(e:ab)(xs:List D):apI T pm s t x y (.sl e xs)=Fw T pm s t x y:=nr rfl
theorem A2c(T:Tys)(x y:ac)(e:ab)(xs:List D):apI T pm s t x y (.own e xs)=Fw T pm s t x y:=nr rfl
theorem apK(T:Tys)(x y:ac)(A:Option Addr)(c:Nat):apI T pm s t x y (.konst (.slice A 0 c))=K3 T pm s t x:=nr rfl
def ix1(T:Tys)(pm:Pm)(s:St)(t:ab)(x:ac)(d:D):Option D→Option D
 |some i=>PU T pm s t x d i
 |none=>none
theorem A9T(T:Tys)(x:ac)(d i:D):ix1 T pm s t x d (some i)=PU T pm s t x d i:=nr rfl
theorem zN(i:ac):Jv E pm s dst (.indexAddr t (.tmp u) i) ty=J4 s dst (ix1 E.T pm s t (.tmp u) (s.v u) (ev E.T s 0 i)):=by
 show(match some (s.v u),ev E.T s 0 i with
  |some a,some b=>(PU E.T pm s t (.tmp u) a b).map fun r=>s.putO dst r
  |_,_=>none)=_
 cases ev E.T s 0 i with
 |none=>rfl
 |some b=>exact Hu s dst _
def mk1(T:Tys)(t:ab):Option D→Option D→Option D
 |some a,some b=>EC T t a b
 |_,_=>none
theorem A9U(T:Tys)(a b:D):mk1 T t (some a) (some b)=EC T t a b:=nr rfl
theorem A9V(l c:ac):UI E.T s dst t l c=J4 s dst (mk1 E.T t (ev E.T s 0 l) (ev E.T s 0 c)):=by
 show(match ev E.T s 0 l,ev E.T s 0 c with
  |some a,some b=>(EC E.T t a b).map fun r=>s.putO dst r
  |_,_=>none)=_
 cases ev E.T s 0 l<;>cases ev E.T s 0 c<;>first|rfl|exact Hu s dst _
theorem A2e(l c:ac):Jv E pm s dst (.makeSlice t l c) ty=if ty=900012 then fcB pm dst (J4 s dst (mk1 E.T t (ev E.T s 0 l) (ev E.T s 0 c)))else J4 s dst (mk1 E.T t (ev E.T s 0 l) (ev E.T s 0 c)):=by
 rw [UV,A9V];by_cases h:ty=900012
 ·rw [if_pos h,if_pos h]
  cases J4 s dst (mk1 E.T t (ev E.T s 0 l) (ev E.T s 0 c))<;>cases dst<;>rfl
 ·rw [if_neg h,if_neg h]
def cv1(s:St)(dst:Option Tmp):Option D→Ty→Option St
 |some (.int _ n),.int k=>some (s.putO dst (.int k (k.wrap n)))
 |some (.str b),.string=>some (s.putO dst (.str b))
 |_,_=>none
theorem A9W(k k':IntKind)(n:Int):cv1 s dst (some (.int k n)) (.int k')=some (s.putO dst (.int k' (k'.wrap n))):=nr rfl
theorem jl(src d:ab)(x:ac):Jv E pm s dst (.convert src d x) ty=if E.T.known src then cv1 s dst (ev E.T s src x) (E.T.ty d)else none:=by
 rw [YL];split
 ·rcases ev E.T s src x with _|d'<;>cases E.T.ty d<;>first|rfl|(cases d'<;>rfl)
 ·rfl
def asM(l:List ab):List ab:=l.map fun _=>900013
theorem A9X:asM []=[]:=nr rfl
theorem A9Y(t:ab)(l:List ab):asM (t::l)=900013::asM l:=nr rfl
theorem A2g(f:am)(args:Array ac)(ts:Array ab)(h:args.size=ts.size):Jv E pm s dst (.call ⟨.value (.func f),args,ts⟩) ty=if ty=900014 then mV pm dst (FW E pm s dst f (args.toList.zip ts.toList) [])else FW E pm s dst f (args.toList.zip (if ty=900013 then asM ts.toList else ts.toList)) []:=by
 rw [je,if_pos h];by_cases c:ty=900014
 ·rw [if_pos c,if_pos c];have e:MZ ty ts.toList=ts.toList:=by unfold MZ;rw [c,if_neg (by decide)]
  rw [e];unfold mV
  cases FW E pm s dst f (args.toList.zip ts.toList) []with
  |none=>cases dst<;>rfl
  |some s1=>cases dst<;>rfl
 ·rw [if_neg c,if_neg c]
  unfold MZ asM;rfl
end
section
variable {T:Tys} {pm:Pm} {s:St} {t:ab}
theorem ldC(x:ac)(xs:List D)(hk:T.known t=true)(hs:T.isStruct t=false):Gn T pm s t x (.cptr xs)=xs[0]? :=by simp [Gn,hk,hs]
theorem A9Z(x:ac)(xs:List D)(hk:T.known t=true)(hs:T.isStruct t=true):Gn T pm s t x (.cptr xs)=if T.size t≤xs.length then some (.agg (xs.take (T.size t)))else none:=by simp [Gn,hk,hs]
def Sc(s:St)(L:AB)(c:Nat):Option D→Option D
 |some o=>(o.cells[c]?).bind fun x=>D6 (FQ s L c x)
 |none=>none
def cellsOf(s:St)(L:AB)(c n:Nat):Option D→Option D
 |some o=>if c+n≤o.cells.length then D6 (.agg ((an n).map fun i=>FQ s L (c+i) (o.cells.getD (c+i) .undef)))else none
 |none=>none
theorem ldP(x:ac)(L:AB)(c n m:Nat)(hk:T.known t=true)(hs:T.isStruct t=false):Gn T pm s t x (.pe L c n m)=Sc s L c (s.look pm L n m):=by
 simp only [Gn,hk,hs,if_true,Hm]
 cases s.look pm L n m<;>simp [Sc]
theorem ldB(u:Tmp)(xs:List D)(hk:T.known t=true)(hs:T.isStruct t=false):Gn T pm s t (.tmp u) (.box xs)=Sc s [u] 0 (some (.box xs)):=by
 simp only [Gn,hk,hs,if_true,Hm];simp [Sc]
theorem A9a(u:Tmp)(xs:List D)(hk:T.known t=true)(hs:T.isStruct t=true):Gn T pm s t (.tmp u) (.box xs)=cellsOf s [u] 0 (T.size t) (some (.box xs)):=by
 simp only [Gn,hk,hs,if_true,Hm];simp [cellsOf]
def qW(s:St)(pm:Pm)(L:AB)(n m:Nat):Option D:=
 match s.look pm L n m with
 |some (.box xs)=>some (.box xs)
 |_=>none
def YM:D→Option D
 | .own e xs=>some (.own e xs)
 | .box xs=>some (.box xs)
 |_=>none
theorem zO(e:ab)(xs:List D):YM (.own e xs)=some (.own e xs):=nr rfl
theorem zP(xs:List D):YM (.box xs)=some (.box xs):=nr rfl
theorem A2h(u n m:Nat):s.look pm [u] n m=if pm.rd u&&(s.k u==n)then YM (s.v u)else none:=by
 simp only [St.look,List.isEmpty_nil,Bool.true_or,UF,BL];split
 ·cases s.v u<;>rfl
 ·rfl
def A2i:Option D→Option D
 |some d=>YM d
 |none=>none
theorem A2j(u c n m:Nat)(p:AB):s.look pm (u::c::p) n m=if pm.rd u&&(s.k u==n)&&(s.m u==m)then A2i (BL (s.v u) (c::p))else none:=by
 simp only [St.look,List.isEmpty_cons,RO];split
 ·cases BL (s.v u) (c::p)with
  |none=>rfl
  |some d=>cases d<;>rfl
 ·rfl
theorem A2k(d:D):A2i (some d)=YM d:=nr rfl
theorem A9b(x:ac)(e:ab)(xs:List D):DN pm s x (.sl e xs)=some (e,xs,none):=nr rfl
theorem A2l(u:Tmp)(e:ab)(xs:List D):DN pm s (.tmp u) (.own e xs)=some (e,xs,some ([u],s.k u,s.m u)):=nr rfl
def A2m(L:AB)(n m:Nat):Option D→Option (ab×List D×Option (AB×Nat×Nat))
 |some (.own e xs)=>some (e,xs,some (L,n,m))
 |_=>none
theorem A2n(L:AB)(n m:Nat)(e:ab)(xs:List D):A2m L n m (some (.own e xs))=some (e,xs,some (L,n,m)):=nr rfl
theorem A9c(x:ac)(L:AB)(n m:Nat):DN pm s x (.vw L n m)=A2m L n m (s.look pm L n m):=by
 simp only [DN]
 cases s.look pm L n m with
 |none=>rfl
 |some o=>cases o<;>rfl
def nY(T:Tys):Option (ab×List D×Option (AB×Nat×Nat))→Option D
 |some (e,xs,_)=>if T.known e then some (.int .i64 (T.len e xs))else none
 |none=>none
theorem A2o(e:ab)(xs:List D)(o:Option (AB×Nat×Nat))(hk:T.known e=true):nY T (some (e,xs,o))=some (.int .i64 (T.len e xs)):=by simp [nY,hk]
def ln0(T:Tys)(pm:Pm)(s:St)(x:ac)(d:D):Ty→Option D
 | .string=>match d with| .str b=>some (.int .i64 b.size)|_=>none
 | .slice _=>nY T (DN pm s x d)
 |_=>none
theorem lnT(x:ac)(d:D):M6 T pm s t x d=ln0 T pm s x d (T.ty t):=by
 unfold M6 ln0
 cases T.ty t with
 |slice e=>
  simp only
  cases DN pm s x d with
  |none=>rfl
  |some q=>rfl
 |string=>cases d<;>rfl
 |_=>rfl
theorem A2p(x:ac)(e:ab)(xs:List D):MX T pm s t x (.sl e xs)=M6 T pm s t x (.sl e xs):=nr rfl
theorem zQ(x:ac)(e:ab)(xs:List D):MX T pm s t x (.own e xs)=M6 T pm s t x (.own e xs):=nr rfl
def lnW(T:Tys)(pm:Pm)(s:St)(t:ab)(x:ac)(L:AB)(n m:Nat):Ty→Option D
 | .map _ _=>(s.lookM pm L n).map fun q=> .int .i64 q.2.2.length
 |_=>M6 T pm s t x (.vw L n m)
theorem A2q(x:ac)(L:AB)(n m:Nat):MX T pm s t x (.vw L n m)=lnW T pm s t x L n m (T.ty t):=by
 show(match T.ty t with| .map _ _=>XV T pm s t x (.vw L n m)|_=>XU T pm s t x (.vw L n m))=_
 unfold lnW XV
 cases h:T.ty t<;>simp only [RX]<;>first|rfl|(cases s.lookM pm L n<;>rfl)
theorem A9e(T:Tys)(x:ac)(L:AB)(n m:Nat)(k e:ab):lnW T pm s t x L n m (.map k e)=(s.lookM pm L n).map fun q=> .int .i64 q.2.2.length:=nr rfl
theorem A9f(T:Tys)(x:ac)(L:AB)(n m:Nat)(e:ab):lnW T pm s t x L n m (.slice e)=M6 T pm s t x (.vw L n m):=nr rfl
def A2r:D→Option (ab×ab×List (AL×AL))
 | .mp k e es=>some (k,e,es)
 |_=>none
theorem A2s(k e:ab)(es:List (AL×AL)):A2r (.mp k e es)=some (k,e,es):=nr rfl
theorem zR(u n:Nat):s.lookM pm [u] n=if pm.rd u&&(s.k u==n)then A2r (s.v u)else none:=by
 simp only [St.lookM];split
 ·cases s.v u<;>rfl
 ·rfl
theorem A2t(x:ac)(e:ab)(L:AB)(n m lo len:Nat):MX T pm s t x (.vs e L n m lo len)=ma len (T.ty t):=nr rfl
theorem A2u(len:Nat)(e:ab):ma len (.slice e)=some (.int .i64 len):=nr rfl
theorem A2v(x:ac)(e:ab)(xs:List D)(i:D):PU T pm s t x (.sl e xs) i=Di T pm s t x (.sl e xs) i:=nr rfl
theorem zS(x:ac)(xs:List D)(i:D):PU T pm s t x (.box xs) i=Di T pm s t x (.box xs) i:=nr rfl
theorem A2w(x:ac)(L:AB)(n m:Nat)(i:D):PU T pm s t x (.vw L n m) i=Di T pm s t x (.vw L n m) i:=nr rfl
def nZ(T:Tys)(e e1:ab)(L:AB)(va vb lo len:Nat)(n:Int):Option D→Option D
 |some (.own e2 xs)=>if e1=e∧e2=e∧T.known e=true∧T.size e=1∧0≤n∧n.toNat<len∧lo+len≤xs.length then some (.pe L (lo+n.toNat) va vb)else none
 |_=>none
def zT(T:Tys)(pm:Pm)(s:St)(e1:ab)(L:AB)(va vb lo len:Nat)(n:Int):Ty→Option D
 | .slice e=>nZ T e e1 L va vb lo len n (s.look pm L va vb)
 |_=>none
theorem A2x(x:ac)(e:ab)(L:AB)(va vb lo len:Nat)(k:IntKind)(n:Int):PU T pm s t x (.vs e L va vb lo len) (.int k n)=zT T pm s e L va vb lo len n (T.ty t):=by
 show iQ T pm s t e L va vb lo len (.int k n)=_
 unfold iQ zT
 cases T.ty t with
 |slice e'=>
  simp only;rcases s.look pm L va vb with _|d
  ·rfl
  ·cases d<;>rfl
 |_=>rfl
theorem A2y(e1:ab)(L:AB)(va vb lo len:Nat)(n:Int)(e:ab):zT T pm s e1 L va vb lo len n (.slice e)=nZ T e e1 L va vb lo len n (s.look pm L va vb):=nr rfl
theorem A2z(e:ab)(L:AB)(va vb lo len:Nat)(n:Int)(xs:List D)(hk:T.known e=true)(hz:T.size e=1)(h1:0≤n∧n.toNat<len)(h2:lo+len≤xs.length):nZ T e e L va vb lo len n (some (.own e xs))=some (.pe L (lo+n.toNat) va vb):=by
 unfold nZ;dsimp only;rw [if_pos ⟨rfl,rfl,hk,hz,h1.1,h1.2,h2⟩]
theorem A9g(x:ac)(d:D)(e:ab):ln0 T pm s x d (.slice e)=nY T (DN pm s x d):=nr rfl
theorem A30(e:ab)(xs:List D)(h:T.size e=1):T.len e xs=xs.length:=by simp [Tys.len,h]
def gG(T:Tys)(e:ab)(n:Int):Option (ab×List D×Option (AB×Nat×Nat))→Option D
 |some (e',xs,o)=>
  if e'=e∧T.known e=true∧0≤n∧n.toNat<T.len e xs then
   match o with
   |none=>some (.cptr ((xs.drop (n.toNat*T.size e)).take (T.size e)))
   |some (L,a,b)=>some (.pe L (n.toNat*T.size e) a b)
  else none
 |none=>none
def ix0(T:Tys)(pm:Pm)(s:St)(x:ac)(d:D)(n:Int):Ty→Option D
 | .slice e=>gG T e n (DN pm s x d)
 | .arr len e=>
  if 0≤n∧n.toNat<len∧T.known e=true∧T.size e=1 then
   match d with
   | .box _=>match x with| .tmp u=>some (.pe [u] n.toNat (s.k u) (s.m u))|_=>none
   | .vw L n1 m1=>match s.look pm L n1 m1 with|some (.box _)=>some (.pe L n.toNat n1 m1)|_=>none
   | .cptr xs=>some (.cptr (xs.drop n.toNat))
   |_=>none
  else none
 |_=>none
theorem A9h(u:Tmp)(xs:List D)(n:Int)(len:Nat)(e:ab)(hk:T.known e=true)(hz:T.size e=1)(hn:0≤n∧n.toNat<len):ix0 T pm s (.tmp u) (.box xs) n (.arr len e)=some (.pe [u] n.toNat (s.k u) (s.m u)):=by
 unfold ix0;dsimp only;rw [if_pos ⟨hn.1,hn.2,hk,hz⟩]
theorem ixT(x:ac)(d:D)(k:IntKind)(n:Int):Di T pm s t x d (.int k n)=ix0 T pm s x d n (T.ty t):=by
 unfold Di ix0
 cases T.ty t with
 |slice e=>
  simp only
  cases DN pm s x d with
  |none=>rfl
  |some q=>rfl
 |_=>rfl
theorem A9i(x:ac)(d:D)(n:Int)(e:ab):ix0 T pm s x d n (.slice e)=gG T e n (DN pm s x d):=nr rfl
theorem A9j(e:ab)(n:Int)(xs:List D)(hk:T.known e=true)(hz:T.size e=1)(hn:0≤n∧n.toNat<xs.length):gG T e n (some (e,xs,none))=some (.cptr [xs.getD n.toNat .undef]):=by
 simp only [gG,hk,hz,Tys.len,if_true];rw [if_pos ⟨trivial,trivial,hn.1,hn.2⟩,MJ,List.drop_eq_getElem_cons hn.2,Jg,Gc hn.2];rfl
theorem A9k(e:ab)(n:Int)(xs:List D)(L:AB)(a b:Nat)(hk:T.known e=true)(hz:T.size e=1)(hn:0≤n∧n.toNat<xs.length):gG T e n (some (e,xs,some (L,a,b)))=some (.pe L n.toNat a b):=by
 simp only [gG,hk,hz,Tys.len,if_true];rw [if_pos ⟨trivial,trivial,hn.1,hn.2⟩,MJ]
end
section
variable {T:Tys} {pm:Pm} {s:St} {t:ab} (u:Tmp)
def Z0(pm:Pm)(s:St)(u:Tmp)(d:D):Option (D×St):=CO pm (if d.hasObj then s.clr u else s) d
theorem A32:take T pm s t (.tmp u)=Z0 pm s u (s.v u):=nr rfl
theorem tkC(v:Value):take T pm s t (.const v)=match ev T s t (.const v)with|none=>none|some d=>CO pm s d:=nr rfl
theorem A33(k:IntKind)(n:Int):CO pm s (.int k n)=some (.int k n,s):=by simp [CO]
theorem A34(e:ab)(xs:List D):CO pm s (.own e xs)=some (.own e xs,s):=by simp [CO]
theorem A9l(L:AB)(n m:Nat):CO pm s (.vw L n m)=MR pm s L n m:=by simp [CO]
def td1:Option (List D×St)→Option (D×St)
 |some r=>some (.agg r.1,r.2)
 |none=>none
theorem A9m(r:List D×St):td1 (some r)=some (.agg r.1,r.2):=nr rfl
theorem A36(xs:List D):CO pm s (.agg xs)=td1 (EQ pm s xs):=by simp only [CO];cases EQ pm s xs<;>rfl
def td2(pm:Pm)(ds:List D):Option (D×St)→Option (List D×St)
 |some r=>(EQ pm r.2 ds).map fun q=>(r.1::q.1,q.2)
 |none=>none
theorem A9n(ds:List D)(d:D):td2 pm ds (some (d,s))=(EQ pm s ds).map fun q=>(d::q.1,q.2):=nr rfl
theorem zU:EQ pm s []=some ([],s):=by simp [EQ]
theorem ng(d:D)(ds:List D):EQ pm s (d::ds)=td2 pm ds (CO pm s d):=by simp only [EQ];cases CO pm s d<;>rfl
theorem A37(k:IntKind)(n:Int):Z0 pm s u (.int k n)=some (.int k n,s):=by simp [Z0,CO,D.hasObj]
theorem zV(b:Bool):Z0 pm s u (.bool b)=some (.bool b,s):=by simp [Z0,CO,D.hasObj]
theorem A9o(e:ab)(xs:List D):Z0 pm s u (.sl e xs)=some (.sl e xs,s):=by simp [Z0,CO,D.hasObj]
theorem A38(e:ab)(xs:List D):Z0 pm s u (.own e xs)=some (.own e xs,s.clr u):=by simp [Z0,CO,D.hasObj]
theorem A39(f:am)(xs:List D):Z0 pm s u (.clo f xs)=some (.clo f xs,s):=by simp [Z0,CO,D.hasObj]
theorem A9p(L:AB)(n m:Nat):Z0 pm s u (.vw L n m)=MR pm s L n m:=by simp [Z0,CO,D.hasObj]
theorem A3A(xs:List D):Z0 pm s u (.agg xs)=td1 (EQ pm (if Ak xs then s.clr u else s) xs):=by
 simp only [Z0,D.hasObj];rw [A36];rfl
theorem zW:Ak []=false:=by simp [Ak]
theorem bY(d:D)(ds:List D):Ak (d::ds)=(d.hasObj||Ak ds):=by simp [Ak]
theorem A3B(e:ab)(xs:List D):(D.sl e xs).hasObj=false:=by simp [D.hasObj]
theorem A3C(e:ab)(xs:List D):(D.own e xs).hasObj=true:=by simp [D.hasObj]
theorem A3D(xs:List D):(D.box xs).hasObj=true:=by simp [D.hasObj]
theorem A9q(L:AB)(n m:Nat):(D.vw L n m).hasObj=false:=by simp [D.hasObj]
theorem A3E(xs:List D):(D.tup xs).hasObj=Ak xs:=by simp [D.hasObj]
def pl1(s:St)(r:Nat):Option D→Option (D×St)
 |some c=>some (c,s.set [r] .undef)
 |none=>none
theorem A9s(r:Nat)(c:D):pl1 s r (some c)=some (c,s.set [r] .undef):=nr rfl
theorem A3F(r n m:Nat)(hw:pm.wr r=true):MR pm s [r] n m=pl1 s r (s.look pm [r] n m):=by
 unfold MR
 cases s.look pm [r] n m with
 |none=>rfl
 |some c=>simp [hw,St.get,pl1]
def pl2(s:St)(L:AB)(o:Option D):Option D→Option (D×St)
 |some c=>match o with
  |some (.own _ _)=>(E5 c).map fun c'=>(c',s.set L c')
  |_=>some (c,s.set L .undef)
 |none=>none
theorem A9t(L:AB)(xs:List D)(c:D):pl2 s L (some (.box xs)) (some c)=some (c,s.set L .undef):=nr rfl
theorem A3G(u' c n m:Nat)(p:AB)(hw:pm.wr u'=true):MR pm s (u'::c::p) n m=pl2 s (u'::c::p) (s.get (u'::c::p).dropLast) (s.look pm (u'::c::p) n m):=by
 unfold MR
 cases s.look pm (u'::c::p) n m with
 |none=>rfl
 |some d=>simp only [UC,hw,if_true,pl2];rfl
theorem A9u(r:Nat):s.get [r]=some (s.v r):=nr rfl
theorem A3H(d:D):BL d []=some d:=by cases d<;>rfl
theorem A3I(e:ab)(xs:List D)(c:Nat)(p:AB):BL (.own e xs) (c::p)=(xs[c]?).bind fun d=>BL d p:=nr rfl
theorem A3J(xs:List D)(c:Nat)(p:AB):BL (.box xs) (c::p)=(xs[c]?).bind fun d=>BL d p:=nr rfl
theorem A3K(d x:D):Gd d [] x=x:=by cases d<;>rfl
theorem A3L(e:ab)(xs:List D)(c:Nat)(p:AB)(x:D):Gd (.own e xs) (c::p) x= .own e (xs.set c (Gd (xs.getD c .undef) p x)):=nr rfl
theorem A3M(xs:List D)(c:Nat)(p:AB)(x:D):Gd (.box xs) (c::p) x= .box (xs.set c (Gd (xs.getD c .undef) p x)):=nr rfl
end
section
variable {T:Tys} {pm:Pm} {s:St} {t:ab}
def XO(T:Tys)(pm:Pm)(t:ab)(ax:ac):Option (D×St)→Option St
 |none=>none
 |some (d,s1)=>
  match ev T s1 t ax with
  |none=>none
  |some ad=>
   match Hm pm s1 ax ad with
   |none=>none
   |some (L,c,o)=>
    if T.known t&&pm.wr (L.headD 0)&&d.asCells.all DJ&&(T.size t==d.asCells.length)&&(T.isStruct t==d.isAgg)&&decide (c+T.size t≤o.cells.length)then
     let s2:=s1.set L (o.withCells (Br o.cells c d.asCells))
     some (if d.hasObj||Ak o.cells then s2.bump (L.headD 0)else s2)
    else none
theorem zX(ax x:ac):IR T pm s t ax x=XO T pm t ax (take T pm s t x):=by
 unfold IR Fv XO;rcases take T pm s t x with _|⟨d,s1⟩<;>rfl
def tm1(T:Tys)(pm:Pm)(s:St)(t:ab)(u:Tmp):D→Option (D×St)
 | .vw L n m=>RS pm s L n m
 |_=>take T pm s t (.tmp u)
theorem zY(u:Tmp):Jy T pm s t (.tmp u)=tm1 T pm s t u (s.v u):=by
 unfold Jy;simp only [ev]
 cases s.v u<;>rfl
def tm2(s:St)(L:AB):Option D→Option (D×St)
 |some c=>some (c,s.set L .undef)
 |none=>none
theorem A9x(u:Tmp)(L:AB)(n m:Nat)(hw:pm.wr (L.headD 0)=true):tm1 T pm s t u (.vw L n m)=tm2 s L (s.look pm L n m):=by
 show RS pm s L n m=_
 unfold RS tm2
 cases s.look pm L n m with
 |none=>rfl
 |some c=>simp only [hw,if_true]
theorem zZ(u:Tmp)(e:ab)(xs:List D):tm1 T pm s t u (.own e xs)=take T pm s t (.tmp u):=nr rfl
theorem A9y(L:AB)(c:D):tm2 s L (some c)=some (c,s.set L .undef):=nr rfl
def qX(s1:St)(L:AB)(c:Nat)(d:D):Option D→Option St
 |none=>none
 |some o=>if c<o.cells.length then(if d.hasObj||Ak o.cells then some ((s1.set L (o.withCells (o.cells.set c d))).bump (L.headD 0))else some (s1.set L (o.withCells (o.cells.set c d))))else none
def sd1(T:Tys)(pm:Pm)(t:ab)(u:Tmp)(d:D)(s:St):D→Option St
 | .pe L c n m=>if T.known t&& !T.isStruct t&&pm.wr (L.headD 0)&&DJ d then qX s L c d (s.look pm L n m)else XO T pm t (.tmp u) (some (d,s))
 | .vw L n m=>if T.known t&& !T.isStruct t&&pm.wr (L.headD 0)&&DJ d then qX s L 0 d (qW s pm L n m)else XO T pm t (.tmp u) (some (d,s))
 | .box xs=>if T.known t&& !T.isStruct t&&pm.wr u&&DJ d then qX s [u] 0 d (some (.box xs))else XO T pm t (.tmp u) (some (d,s))
 |_=>XO T pm t (.tmp u) (some (d,s))
theorem Mo{d:D}(hd:DJ d=true):d.asCells=[d]∧d.isAgg=false:=by
 cases d<;>first|exact⟨rfl,rfl⟩|(simp [DJ]at hd)
theorem L6{T:Tys}{t:ab}(hs:T.isStruct t=false):T.size t=1:=by
 unfold Tys.isStruct at hs;unfold Tys.size
 cases hty:T.ty t<;>simp_all [Ty.isStruct,Ty.size]
theorem A9z(u:Tmp)(d:D)(_:d.isAgg=false):XO T pm t (.tmp u) (some (d,s))=sd1 T pm t u d s (s.v u):=by
 cases hv:s.v u<;>simp only [sd1]
 case pe L c n m=>
  split
  ·rename_i hc
   simp only [F9,Kg]at hc;obtain⟨⟨⟨hk,hs⟩,hw⟩,hd⟩:=hc;obtain⟨ha,hg⟩:=Mo hd;have hz:=L6 hs;simp only [XO,ev,hv,Hm]
   cases s.look pm L n m with
   |none=>rfl
   |some o=>
    simp only [qX,hk,hw,ha,hz,hs,hg,PT,hd,List.all_nil,NU,RN,UF,Br,beq_self_eq_true,Il];by_cases hc:c<o.cells.length
    ·have h1:c+1≤o.cells.length:=hc;simp only [hc,h1,decide_true,UF,if_true];split<;>first|rfl|(rename_i hq;simp only [hq];rfl)
    ·have h1: ¬c+1≤o.cells.length:=hc;simp only [hc,h1,decide_false,Bool.and_false,Ik,if_false]
  ·rfl
 case vw L n m=>
  split
  ·rename_i hc
   simp only [F9,Kg]at hc;obtain⟨⟨⟨hk,hs⟩,hw⟩,hd⟩:=hc;obtain⟨ha,hg⟩:=Mo hd;have hz:=L6 hs;simp only [XO,ev,hv,Hm,qW]
   cases s.look pm L n m with
   |none=>rfl
   |some o=>
    cases o<;>try rfl
    rename_i xs
    simp only [qX,hk,hw,ha,hz,hs,hg,PT,hd,List.all_nil,NU,RN,UF,Br,beq_self_eq_true,Il,D.cells];by_cases hc:0<xs.length
    ·have h1:1≤xs.length:=hc;simp only [hc,h1,decide_true,UF,if_true];split<;>first|rfl|(rename_i hq;simp only [hq];rfl)
    ·have h1: ¬1≤xs.length:=hc;simp only [hc,h1,decide_false,Bool.and_false,Ik,if_false]
  ·rfl
 case box xs=>
  split
  ·rename_i hc
   simp only [F9,Kg]at hc;obtain⟨⟨⟨hk,hs⟩,hw⟩,hd⟩:=hc;obtain⟨ha,hg⟩:=Mo hd;have hz:=L6 hs;simp only [XO,ev,hv,Hm];simp only [qX,hk,hw,ha,hz,hs,hg,PT,hd,List.all_nil,NU,RN,UF,Br,beq_self_eq_true,Il,D.cells,UC];by_cases hc:0<xs.length
   ·have h1:1≤xs.length:=hc;simp only [hc,h1,decide_true,UF,if_true];split<;>first|rfl|(rename_i hq;simp only [hq];rfl)
   ·have h1: ¬1≤xs.length:=hc;simp only [hc,h1,decide_false,Bool.and_false,Ik,if_false]
  ·rfl
theorem AA0(u:Tmp)(d:D)(L:AB)(c n m:Nat)(hk:T.known t=true)(hs:T.isStruct t=false)(hw:pm.wr (L.headD 0)=true)(hd:DJ d=true):sd1 T pm t u d s (.pe L c n m)=qX s L c d (s.look pm L n m):=by
 simp [sd1,hk,hs,hd];intro h;simp_all
theorem hdC(a:Nat)(l:AB)(d:Nat):List.headD (a::l) d=a:=nr rfl
theorem AA1(L:AB)(c:Nat)(d o:D):qX s L c d (some o)=if c<o.cells.length then(if d.hasObj||Ak o.cells then some ((s.set L (o.withCells (o.cells.set c d))).bump (L.headD 0))else some (s.set L (o.withCells (o.cells.set c d))))else none:=nr rfl
theorem A3N(e:ab)(xs:List D):(D.own e xs).cells=xs:=nr rfl
theorem A3O(xs:List D):(D.box xs).cells=xs:=nr rfl
theorem A3P(e:ab)(xs ys:List D):(D.own e xs).withCells ys= .own e ys:=nr rfl
theorem A3Q(xs ys:List D):(D.box xs).withCells ys= .box ys:=nr rfl
theorem A3R(k:IntKind)(n:Int):DJ (.int k n)=true:=nr rfl
theorem A3S(e:ab)(xs:List D):DJ (.own e xs)=true:=nr rfl
theorem ceS(L:AB)(c:Nat)(o:D):Sc s L c (some o)=(o.cells[c]?).bind fun x=>D6 (FQ s L c x):=nr rfl
theorem AA2(L:AB)(c:Nat)(e:ab)(xs:List D):D6 (FQ s L c (.sl e xs))=some (.sl e xs):=nr rfl
theorem za(L:AB)(c:Nat)(xs:List D):D6 (FQ s L c (.cptr xs))=some (.cptr xs):=nr rfl
theorem AA3(r:Nat)(p:AB):iF s (r::p)= .vw (r::p) (s.k r) (s.m r):=nr rfl
def ap1(T:Tys)(pm:Pm)(e:ab)(ty:ab)(y:ac):Option (D×St)→Option (D×St)
 |some (.own e1 xs,s1)=>
   match ev T s1 ty y with
   |some d=>
    match DN pm s1 y d with
    |some (e2,ys,_)=>
     if e1=e∧e2=e∧T.elem e=true∧ys.all DJ=true∧xs.length+ys.length<1099511627776 then
      if Ak ys then
       match d,y with
       | .own _ _,.tmp u=>some (.own e (xs++ys),s1.clr u)
       |_,_=>none
      else some (.own e (xs++ys),s1)
     else none
    |none=>none
   |none=>none
 |_=>none
def az1(T:Tys)(e:ab):Option (D×St)→Option (D×St)
 |some (.own e1 xs,s1)=>if e1=e∧T.known e=true then some (.own e xs,s1)else none
 |_=>none
def az0(T:Tys)(pm:Pm)(s:St)(ty:ab)(x:ac):Ty→Option (D×St)
 | .slice e=>az1 T e (take T pm s ty x)
 |_=>none
theorem A3V(ty:ab)(x:ac):K3 T pm s ty x=az0 T pm s ty x (T.ty ty):=by
 unfold K3 az0
 cases T.ty ty with
 |slice e=>
  simp only [az1];rcases take T pm s ty x with _|⟨d,s1⟩
  ·rfl
  ·cases d<;>rfl
 |_=>rfl
theorem Qz{T:Tys}{e:ab}(hk:T.known e=true)(h4:T.size e≤4):T.elem e=true:=by simp [Tys.elem,hk,h4]
theorem AA5(ty:ab)(x:ac)(e:ab):az0 T pm s ty x (.slice e)=az1 T e (take T pm s ty x):=nr rfl
theorem AA6(e:ab)(xs:List D)(hk:T.known e=true):az1 T e (some (.own e xs,s))=some (.own e xs,s):=by simp [az1,hk]
def ap0(T:Tys)(pm:Pm)(s:St)(ty:ab)(x y:ac):Ty→Option (D×St)
 | .slice e=>ap1 T pm e ty y (Jy T pm s ty x)
 |_=>none
theorem AA8(ty:ab)(x y:ac):Fw T pm s ty x y=ap0 T pm s ty x y (T.ty ty):=by
 unfold Fw ap0
 cases T.ty ty with
 |slice e=>
  simp only [ap1];rcases Jy T pm s ty x with _|⟨d,s1⟩
  ·rfl
  ·cases d<;>rfl
 |_=>rfl
theorem AA9(ty:ab)(x y:ac)(e:ab):ap0 T pm s ty x y (.slice e)=ap1 T pm e ty y (Jy T pm s ty x):=nr rfl
def ap2(T:Tys)(e e1:ab)(xs:List D)(s:St)(u:Tmp)(d:D):Option (ab×List D×Option (AB×Nat×Nat))→Option (D×St)
 |some (e2,ys,_)=>
     if e1=e∧e2=e∧T.elem e=true∧ys.all DJ=true∧xs.length+ys.length<1099511627776 then
      if Ak ys then
       match d with
       | .own _ _=>some (.own e (xs++ys),s.clr u)
       |_=>none
      else some (.own e (xs++ys),s)
     else none
 |none=>none
theorem AAA(ty e e1:ab)(u:Tmp)(xs:List D):ap1 T pm e ty (.tmp u) (some (.own e1 xs,s))=ap2 T e e1 xs s u (s.v u) (DN pm s (.tmp u) (s.v u)):=by
 simp only [ap1,ev,ap2];rcases DN pm s (.tmp u) (s.v u)with _|⟨e2,ys,o⟩
 ·rfl
 ·simp only;split
  ·split
   ·cases s.v u<;>rfl
   ·rfl
  ·rfl
theorem AAB(e:ab)(u:Tmp)(xs ys:List D)(d:D)(o:Option (AB×Nat×Nat))(hk:T.known e=true)(h4:T.size e≤4)(hy:ys.all DJ=true)(hno:Ak ys=false)(hl:xs.length+ys.length<1099511627776):
  ap2 T e e xs s u d (some (e,ys,o))=some (.own e (xs++ys),s):=by
 simp only [ap2];rw [if_pos ⟨trivial,trivial,Qz hk h4,hy,hl⟩,hno];simp
end
section
variable {E:Env} {pm:Pm} {s:St} {dst:Option Tmp}
def YN(a:D)(l:List (AB×D)):Option (List D×List (AB×D))→Option (List D×List (AB×D))
 |some (as,ls)=>some (a::as,l++ls)
 |none=>none
theorem zb(a:D)(l:List (AB×D))(as:List D)(ls:List (AB×D)):YN a l (some (as,ls))=some (a::as,l++ls):=nr rfl
def QN(E:Env)(lend:Bool)(pm:Pm)(s:St)(j:Nat)(rest:List (ac×ab)):Option (D×List (AB×D))→Option (List D×List (AB×D))
 |some (a,l)=>YN a l (Da E lend pm s (j+l.length) rest)
 |none=>none
theorem ze(lend:Bool)(j:Nat)(rest:List (ac×ab))(a:D)(l:List (AB×D)):QN E lend pm s j rest (some (a,l))=YN a l (Da E lend pm s (j+l.length) rest):=nr rfl
theorem A3W(lend:Bool)(j:Nat):Da E lend pm s j []=some ([],[]):=nr rfl
theorem A3X(lend:Bool)(j:Nat)(u:Tmp)(t:ab)(rest:List (ac×ab)):Da E lend pm s j ((.tmp u,t)::rest)=QN E lend pm s j rest (Jl E.T lend pm s j [u] (s.v u)):=by
 simp only [Da,ev];rcases Jl E.T lend pm s j [u] (s.v u)with _|⟨a,l⟩
 ·rfl
 ·simp only [QN];rcases Da E lend pm s (j+l.length) rest with _|⟨as,ls⟩<;>rfl
def aC(E:Env)(lend:Bool)(pm:Pm)(s:St)(j:Nat)(rest:List (ac×ab)):Option D→Option (List D×List (AB×D))
 |some d=>QN E lend pm s j rest (Jl E.T lend pm s j [] d)
 |none=>none
theorem aCS(lend:Bool)(j:Nat)(rest:List (ac×ab))(d:D):aC E lend pm s j rest (some d)=QN E lend pm s j rest (Jl E.T lend pm s j [] d):=nr rfl
theorem arC(lend:Bool)(j:Nat)(v:Value)(t:ab)(rest:List (ac×ab)):Da E lend pm s j ((.const v,t)::rest)=aC E lend pm s j rest (ev E.T s t (.const v)):=by
 simp only [Da]
 cases ev E.T s t (.const v)with
 |none=>rfl
 |some d=>
  simp only [aC];rcases Jl E.T lend pm s j [] d with _|⟨a,l⟩
  ·rfl
  ·simp only [QN];rcases Da E lend pm s (j+l.length) rest with _|⟨as,ls⟩<;>rfl
theorem arF(lend:Bool)(j:Nat)(f:am)(t:ab)(rest:List (ac×ab)):Da E lend pm s j ((.func f,t)::rest)=QN E lend pm s j rest (Jl E.T lend pm s j [] (.clo f [])):=by
 simp only [Da,ev];rcases Jl E.T lend pm s j [] (.clo f [])with _|⟨a,l⟩
 ·rfl
 ·simp only [QN];rcases Da E lend pm s (j+l.length) rest with _|⟨as,ls⟩<;>rfl
variable (lend:Bool) (j:Nat) (L:AB)
theorem A3Y(T:Tys)(k:IntKind)(n:Int):Jl T lend pm s j L (.int k n)=DR lend pm s j L (.int k n):=nr rfl
theorem zf(T:Tys)(b:Bool):Jl T lend pm s j L (.bool b)=DR lend pm s j L (.bool b):=nr rfl
theorem AAC(T:Tys)(e:ab)(xs:List D):Jl T lend pm s j L (.sl e xs)=DR lend pm s j L (.sl e xs):=nr rfl
theorem A3Z(T:Tys)(f:am)(xs:List D):Jl T lend pm s j L (.clo f xs)=DR lend pm s j L (.clo f xs):=nr rfl
theorem axK(T:Tys)(v:Value):Jl T lend pm s j L (.konst v)=DR lend pm s j L (.konst v):=nr rfl
theorem A3a(T:Tys)(e:ab)(xs:List D):Jl T lend pm s j L (.own e xs)=DR lend pm s j L (.own e xs):=nr rfl
theorem AAD(T:Tys)(M:AB)(n m:Nat):Jl T lend pm s j L (.vw M n m)=DR lend pm s j L (.vw M n m):=nr rfl
theorem A3b(T:Tys)(xs:List D):Jl T lend pm s j L (.agg xs)=DR lend pm s j L (.agg xs):=nr rfl
theorem A3c(k:IntKind)(n:Int):DR lend pm s j L (.int k n)=some (.int k n,[]):=nr rfl
theorem zg(b:Bool):DR lend pm s j L (.bool b)=some (.bool b,[]):=nr rfl
theorem AAE(e:ab)(xs:List D):DR lend pm s j L (.sl e xs)=some (.sl e xs,[]):=nr rfl
theorem A3d(f:am)(xs:List D):DR lend pm s j L (.clo f xs)=some (.clo f xs,[]):=nr rfl
theorem atK(v:Value):DR lend pm s j L (.konst v)=some (.konst v,[]):=nr rfl
def fz1(l:List (AB×D)):Option D→Option (D×List (AB×D))
 |some c=>some (c,l)
 |none=>none
theorem AAF(l:List (AB×D))(c:D):fz1 l (some c)=some (c,l):=nr rfl
theorem A3e(e:ab)(xs:List D):DR false pm s j L (.own e xs)=fz1 [(L,.own e xs)] (E5 (.own e xs)):=by
 show((E5 (.own e xs)).map fun c'=>(c',[(L,D.own e xs)]))=_
 cases E5 (.own e xs)<;>rfl
def fz2(L:AB):Option D→Option (D×List (AB×D))
 |some c=>fz1 [(L,c)] (E5 c)
 |none=>none
theorem AAH(c:D):fz2 L (some c)=fz1 [(L,c)] (E5 c):=nr rfl
theorem AAI(M:AB)(n m:Nat):DR false pm s j L (.vw M n m)=fz2 M (s.look pm M n m):=by
 simp only [DR,Eb]
 cases s.look pm M n m with
 |none=>rfl
 |some c=>simp only [fz2];cases E5 c<;>rfl
def ln2(j:Nat)(L:AB):Option D→Option (D×List (AB×D))
 |some c=>some (.vw [G+j] 0 0,[(L,c)])
 |none=>none
theorem AAJ(c:D):ln2 j L (some c)=some (.vw [G+j] 0 0,[(L,c)]):=nr rfl
theorem A3f(M:AB)(n m:Nat):DR true pm s j L (.vw M n m)=ln2 j M (s.look pm M n m):=by
 simp only [DR,Eb]
 cases s.look pm M n m<;>rfl
def ag1:Option (List D×List (AB×D))→Option (D×List (AB×D))
 |some r=>some (.agg r.1,r.2)
 |none=>none
theorem AAK(r:List D×List (AB×D)):ag1 (some r)=some (.agg r.1,r.2):=nr rfl
theorem A3g(xs:List D):DR lend pm s j L (.agg xs)=ag1 (E8 lend pm s L j 0 xs):=by
 simp only [DR]
 cases E8 lend pm s L j 0 xs<;>rfl
def jm(lend:Bool)(pm:Pm)(s:St)(L0:AB)(j i:Nat)(ds:List D):Option (D×List (AB×D))→Option (List D×List (AB×D))
 |some (a,l)=>YN a l (E8 lend pm s L0 (j+l.length) (i+1) ds)
 |none=>none
theorem zh(i:Nat)(ds:List D)(a:D)(l:List (AB×D)):jm lend pm s L j i ds (some (a,l))=YN a l (E8 lend pm s L (j+l.length) (i+1) ds):=nr rfl
theorem A3h(i:Nat):E8 lend pm s L j i []=some ([],[]):=nr rfl
theorem zi(i:Nat)(d:D)(ds:List D)(h:d.isAgg=false):E8 lend pm s L j i (d::ds)=jm lend pm s L j i ds (DR lend pm s j (L++[i]) d):=by
 have:DR lend pm s j (L++[i]) d=Eb lend pm s j (L++[i]) d:=by cases d<;>first|rfl|(simp [D.isAgg]at h)
 rw [this];simp only [E8];rcases Eb lend pm s j (L++[i]) d with _|⟨a,l⟩
 ·rfl
 ·simp only [jm];rcases E8 lend pm s L (j+l.length) (i+1) ds with _|⟨as,ls⟩<;>rfl
theorem A3i(k:IntKind)(n:Int):(D.int k n).isAgg=false:=nr rfl
theorem AAL(e:ab)(xs:List D):(D.sl e xs).isAgg=false:=nr rfl
theorem A3j(e:ab)(xs:List D):(D.own e xs).isAgg=false:=nr rfl
theorem AAM(M:AB)(n m:Nat):(D.vw M n m).isAgg=false:=nr rfl
def cb1(E:Env)(pm:Pm)(s:St)(dst:Option Tmp)(f:am)(caps:List D):Option (List D×List (AB×D))→Option St
 |none=>none
 |some (as,ls)=>
  match E.call f (as++caps) []with
  |some (r,_)=>
   if Df r then
    if Ed (ls.map (·.1))&&ls.all (fun l=>pm.wr (l.1.headD 0))then(Ho ls).map fun ls'=>(back false s ls').putO dst r else none
   else some (s.putO dst r)
  |none=>none
theorem cdB(f:am)(xs:List (ac×ab))(caps:List D)(h:E.lends f=false):FW E pm s dst f xs caps=cb1 E pm s dst f caps (Da E false pm s 0 xs):=by
 unfold FW cb1;rw [h];simp only [Ik,if_false];rcases Da E false pm s 0 xs with _|⟨as,ls⟩<;>rfl
def zk(pm:Pm)(s:St)(dst:Option Tmp)(ls:List (AB×D)):Option (D×List D)→Option St
 |some (r,_)=>
   if Df r then
    if Ed (ls.map (·.1))&&ls.all (fun l=>pm.wr (l.1.headD 0))then(Ho ls).map fun ls'=>(back false s ls').putO dst r else none
   else some (s.putO dst r)
 |none=>none
theorem AAN(f:am)(caps as:List D)(ls:List (AB×D)):cb1 E pm s dst f caps (some (as,ls))=zk pm s dst ls (E.call f (as++caps) []):=by
 simp only [cb1];rcases E.call f (as++caps) []with _|⟨r,o⟩<;>rfl
theorem AAO(ls:List (AB×D))(r:D)(o:List D)(h:Df r=false):zk pm s dst ls (some (r,o))=some (s.putO dst r):=by simp [zk,h]
theorem AAP(r:D)(o:List D):zk pm s dst [] (some (r,o))=some (s.putO dst r):=by
 simp only [zk];split<;>rfl
def cl1(E:Env)(pm:Pm)(s:St)(dst:Option Tmp)(f:am)(caps:List D):Option (List D×List (AB×D))→Option St
 |none=>none
 |some (as,ls)=>
   if Ed (ls.map (·.1))&&ls.all (fun l=>pm.wr (l.1.headD 0))&&ls.all (fun l=>Yz l.2)then
    match E.call f (as++caps) (ls.map (·.2))with
    |some (r,outs)=>if outs.length=ls.length then some ((JI s (ls.map (·.1)) outs).putO dst r)else none
    |none=>none
   else none
theorem cdL(f:am)(xs:List (ac×ab))(caps:List D)(h:E.lends f=true):FW E pm s dst f xs caps=cl1 E pm s dst f caps (Da E true pm s 0 xs):=by
 unfold FW cl1;rw [h];simp only [if_true];rcases Da E true pm s 0 xs with _|⟨as,ls⟩<;>rfl
def cl2(s:St)(dst:Option Tmp)(ls:List (AB×D)):Option (D×List D)→Option St
 |some (r,outs)=>if outs.length=ls.length then some ((JI s (ls.map (·.1)) outs).putO dst r)else none
 |none=>none
theorem AAR(f:am)(caps as:List D)(ls:List (AB×D))(h:(Ed (ls.map (·.1))&&ls.all (fun l=>pm.wr (l.1.headD 0))&&ls.all (fun l=>Yz l.2))=true):cl1 E pm s dst f caps (some (as,ls))=cl2 s dst ls (E.call f (as++caps) (ls.map (·.2))):=by
 simp only [cl1,h,if_true];rcases E.call f (as++caps) (ls.map (·.2))with _|⟨r,o⟩<;>rfl
theorem AAS(ls:List (AB×D))(r:D)(outs:List D)(h:outs.length=ls.length):cl2 s dst ls (some (r,outs))=some ((JI s (ls.map (·.1)) outs).putO dst r):=by simp [cl2,h]
end
theorem A3k(k:IntKind)(n:Int):Df (.int k n)=false:=by simp [Df]
theorem zm(b:Bool):Df (.bool b)=false:=by simp [Df]
theorem A3l(e:ab)(xs:List D):Df (.own e xs)=Dh xs:=by simp [Df]
theorem A3m(xs:List D):Df (.agg xs)=Dh xs:=by simp [Df]
theorem A3n(xs:List D):Df (.tup xs)=Dh xs:=by simp [Df]
theorem zn:Dh []=false:=by simp [Dh]
theorem ni(d:D)(ds:List D):Dh (d::ds)=(Df d||Dh ds):=by simp [Dh]
theorem A3o(k:IntKind)(n:Int):E5 (.int k n)=some (.int k n):=by simp [E5]
theorem zo(b:Bool):E5 (.bool b)=some (.bool b):=by simp [E5]
theorem AAT(e:ab)(xs:List D):E5 (.sl e xs)=some (.sl e xs):=by simp [E5]
theorem A3p(f:am)(xs:List D):E5 (.clo f xs)=some (.clo f xs):=by simp [E5]
def fzM(f:List D→D):Option (List D)→Option D
 |some xs=>some (f xs)
 |none=>none
theorem AAU(f:List D→D)(xs:List D):fzM f (some xs)=some (f xs):=nr rfl
theorem qY(e:ab)(xs:List D):E5 (.own e xs)=fzM (.sl e) (DL xs):=by simp only [E5];cases DL xs<;>rfl
theorem A3q(xs:List D):E5 (.agg xs)=fzM .agg (DL xs):=by simp only [E5];cases DL xs<;>rfl
theorem A3r(xs:List D):E5 (.tup xs)=fzM .tup (DL xs):=by simp only [E5];cases DL xs<;>rfl
theorem zq:DL []=some []:=by simp [DL]
def fzC:Option D→Option (List D)→Option (List D)
 |some d,some ds=>some (d::ds)
 |_,_=>none
theorem AAV(d:D)(ds:List D):fzC (some d) (some ds)=some (d::ds):=nr rfl
theorem bZ(d:D)(ds:List D):DL (d::ds)=fzC (E5 d) (DL ds):=by
 simp only [DL];cases E5 d<;>cases DL ds<;>rfl
theorem AAW(d:D):Yz d=(E5 d).isSome:=nr rfl
section
variable {T:Tys} {s:St}
def mW(n:Nat):Option (D×St)→Option (D×List D)
 |none=>none
 |some (r,s')=>if Yz r&&((an n).map fun j=>s'.v (G+j)).all iG then some (r,(an n).map fun j=>s'.v (G+j))else none
theorem fiD(n:Nat)(rs:List ResultVar):Vj T n rs s=mW n (LY T s rs):=by
 unfold Vj mW;rcases LY T s rs with _|⟨r,s'⟩<;>rfl
theorem fi0(r:D):mW 0 (some (r,s))=if Yz r then some (r,[])else none:=by simp [mW]
theorem fiA(r:D):mW 1 (some (r,s))=if Yz r&&iG (s.v 100000)then some (r,[s.v 100000])else none:=by
 simp [mW,G,List.range_succ]
theorem fiB(r:D):mW 2 (some (r,s))=if Yz r&&(iG (s.v 100000)&&iG (s.v 100001))then some (r,[s.v 100000,s.v 100001])else none:=by
 simp [mW,G,List.range_succ,and_assoc]
theorem fiC(r:D):mW 3 (some (r,s))=if Yz r&&(iG (s.v 100000)&&(iG (s.v 100001)&&iG (s.v 100002)))then some (r,[s.v 100000,s.v 100001,s.v 100002])else none:=by
 simp [mW,G,List.range_succ,and_assoc]
theorem zt(e:ab)(xs:List D):iG (.own e xs)=(E5 (.own e xs)).isSome:=nr rfl
theorem AAX:iG .undef=true:=nr rfl
theorem re1(r:ResultVar):LY T s [r]=Re T s r:=nr rfl
def reT:Option (List D×St)→Option (D×St)
 |some q=>some (.tup q.1,q.2)
 |none=>none
theorem AAY(q:List D×St):reT (some q)=some (.tup q.1,q.2):=nr rfl
theorem re2(r r':ResultVar)(rs:List ResultVar):LY T s (r::r'::rs)=reT (Km T s (r::r'::rs)):=by
 show((Km T s (r::r'::rs)).map fun q=>(D.tup q.1,q.2))=_
 cases Km T s (r::r'::rs)<;>rfl
theorem A3s(t:Tmp):Re T s (.tmp t)=Z0 Pm.all s t (s.v t):=nr rfl
theorem A3t:Km T s []=some ([],s):=nr rfl
def rdN(T:Tys)(rs:List ResultVar):Option (D×St)→Option (List D×St)
 |some (d,s)=>(Km T s rs).map fun p=>(d::p.1,p.2)
 |none=>none
theorem AAZ(rs:List ResultVar)(d:D):rdN T rs (some (d,s))=(Km T s rs).map fun p=>(d::p.1,p.2):=nr rfl
theorem zu(r:ResultVar)(rs:List ResultVar):Km T s (r::rs)=rdN T rs (Re T s r):=by
 simp only [Km];rcases Re T s r with _|⟨d,s'⟩<;>rfl
theorem AAa(r:Nat):Pm.all.rd r=true:=nr rfl
theorem AAb(r:Nat):Pm.all.wr r=true:=nr rfl
def eT(s:St)(dst:Option Tmp)(u:Tmp)(i:Nat):Option D→Option St
 |none=>none
 |some (.agg ys)=>J4 s dst (D6 (.agg ((an ys.length).map fun j=>FQ s [u,i] j (ys.getD j .undef))))
 |some c=>J4 s dst (D6 (FQ s [u] i c))
theorem A3u(dst:Option Tmp)(u:Tmp)(xs:List D)(i:Nat):H9 s dst (.tmp u) (.tup xs) i=eT s dst u i xs[i]? :=by
 simp only [H9];rcases xs[i]? with _|c
 ·rfl
 ·cases c<;>first|exact Hu s dst _|rfl
theorem A3v(dst:Option Tmp)(u:Tmp)(i:Nat)(k:IntKind)(n:Int):eT s dst u i (some (.int k n))=some (s.putO dst (.int k n)):=by simp [eT,D6,FQ,D.hasObj,J4]
theorem zw(dst:Option Tmp)(u:Tmp)(i:Nat)(b:Bool):eT s dst u i (some (.bool b))=some (s.putO dst (.bool b)):=by simp [eT,D6,FQ,D.hasObj,J4]
theorem A3w(xs:List D)(c:Nat)(p:AB):BL (.tup xs) (c::p)=(xs[c]?).bind fun d=>BL d p:=nr rfl
theorem AAc(L:AB)(xs:List D)(c:D):pl2 s L (some (.tup xs)) (some c)=some (c,s.set L .undef):=nr rfl
theorem A3x(deep:Bool):back deep s []=s:=nr rfl
theorem bkT(t:Nat)(p:AB)(c:D)(rest:List (AB×D)):back true s ((t::p,c)::rest)=back true ((s.set (t::p) c).bump t) rest:=nr rfl
theorem bkF(t:Nat)(p:AB)(c:D)(rest:List (AB×D)):back false s ((t::p,c)::rest)=back false (s.set (t::p) c) rest:=nr rfl
theorem bkL(Ls:List AB)(outs:List D):JI s Ls outs=back true (back false s (Ls.map fun L=>(L,.undef))) (Ls.zip outs):=nr rfl
theorem A3y:Ed []=true:=nr rfl
theorem zx(L:AB)(Ls:List AB):Ed (L::Ls)=((L.isEmpty||Ls.all fun M=>M.isEmpty||(!L.isPrefixOf M&& !M.isPrefixOf L))&&Ed Ls):=nr rfl
theorem ieC(a:Nat)(l:AB):List.isEmpty (a::l)=false:=nr rfl
end
section
variable {T:Tys} {pm:Pm} {s:St}
def fl1(T:Tys)(pm:Pm)(tf:Nat→ab)(sz:Nat)(cs:List D)(i:Nat)(rest:List (Nat×ac)):Option (D×St)→Option (List D×St)
 |none=>none
 |some (d,s1)=>if d.asCells.length=sz∧i*sz+sz≤cs.length then FV T pm tf sz s1 (Br cs (i*sz) d.asCells) rest else none
theorem A3z(tf:Nat→ab)(sz:Nat)(cs:List D):FV T pm tf sz s cs []=some (cs,s):=nr rfl
theorem zy(tf:Nat→ab)(sz:Nat)(cs:List D)(i:Nat)(x:ac)(rest:List (Nat×ac)):FV T pm tf sz s cs ((i,x)::rest)=fl1 T pm tf sz cs i rest (take T pm s (tf i) x):=by
 simp only [FV];rcases take T pm s (tf i) x with _|⟨d,s1⟩<;>rfl
theorem AAe(tf:Nat→ab)(cs:List D)(i:Nat)(rest:List (Nat×ac))(d:D)(h:d.isAgg=false):fl1 T pm tf 1 cs i rest (some (d,s))=if i+1≤cs.length then FV T pm tf 1 s (cs.set i d) rest else none:=by
 have ha:d.asCells=[d]:=by cases d<;>first|rfl|(simp [D.isAgg]at h)
 simp only [fl1,ha,NU,RN,Il,MJ,true_and,Br]
end
section
variable (pm:Pm) (s:St) (u:Tmp)
def aF(pm:Pm)(u:Tmp)(d:D):Bool:= !d.hasObj||d.isObj||pm.wr u
theorem mvT:K9 pm s (.move (.tmp u))=aF pm u (s.v u):=nr rfl
theorem zz(k:IntKind)(n:Int):aF pm u (.int k n)=true:=by simp [aF,D.hasObj]
theorem nk(b:Bool):aF pm u (.bool b)=true:=by simp [aF,D.hasObj]
theorem A40(e:ab)(xs:List D):aF pm u (.sl e xs)=true:=by simp [aF,D.hasObj]
theorem A00(e:ab)(xs:List D):aF pm u (.own e xs)=true:=by simp [aF,D.isObj]
theorem A41(L:AB)(n m:Nat):aF pm u (.vw L n m)=true:=by simp [aF,D.hasObj]
theorem AAf(v:Value):aF pm u (.konst v)=true:=by simp [aF,D.hasObj]
theorem jo(x:ac):K9 pm s (.assign x)=true:=nr rfl
theorem A01(a b c:ac):K9 pm s (.pick a b c)=true:=nr rfl
theorem nu(t:ab)(p:Array (Nat×ac)):K9 pm s (.build t p)=true:=nr rfl
theorem A02(t:ab)(x:ac):K9 pm s (.load t x)=true:=nr rfl
theorem ny(t:ab)(x y:ac):K9 pm s (.store t x y)=true:=nr rfl
theorem A42(o:BinOp)(t:ab)(x y:ac)(t':ab):K9 pm s (.binOp o t x y t')=true:=nr rfl
theorem AAg(o:UnOp)(t:ab)(x:ac):K9 pm s (.unOp o t x)=true:=nr rfl
theorem AAh(t:ab)(x:ac)(i:Nat):K9 pm s (.fieldAddr t x i)=true:=nr rfl
theorem AAi(t:ab)(x i:ac):K9 pm s (.indexAddr t x i)=true:=nr rfl
theorem A03(c:Call):K9 pm s (.call c)=true:=nr rfl
theorem pmR(n r w:List Nat)(x:Nat):(PmL.pm ⟨n,r,w⟩).rd x=(n.contains x|| !r.contains x):=nr rfl
theorem pmW(n r w:List Nat)(x:Nat):(PmL.pm ⟨n,r,w⟩).wr x=w.contains x:=nr rfl
section
variable {E:Env} {dst:Option Tmp} {t ty:ab}
theorem AAj(t:ab):Jv E pm s dst (.makeMap t none) ty=J4 s dst (Jr E.T t):=Hu s dst _
theorem yLk(v:Tmp)(ok:Bool):Jv E pm s dst (.lookup t (.tmp u) (.tmp v) ok) ty=J4 s dst (IU E.T pm s t (.tmp u) (s.v u) (s.v v) ok):=Hu s dst _
theorem yMu(v x:Tmp):Jv E pm s none (.mapUpdate t (.tmp u) (.tmp v) (.tmp x)) ty=Jk E.T pm s t (.tmp u) (s.v u) (s.v v) (s.v x):=nr rfl
def nm1:Ty→Ty→Option (List (Nat×ab))→Option (Bool×Nat)
 | .int .i64,.int .i64,none=>some (true,2)
 |_,_,_=>none
def nmA(n:Nat):Ty→Option (Bool×Nat)
 | .int .i64=>some (true,n)
 |_=>none
theorem AAk(n:Nat):nmA n (.int .i64)=some (true,n):=nr rfl
def nm0(T:Tys)(t:ab):Ty→Option (Bool×Nat)
 | .int .i64=>some (false,1)
 | .struct [a,b]=>nm1 (T.ty a) (T.ty b) (T.nest t)
 | .arr n e=>nmA n (T.ty e)
 |_=>none
theorem A43(T:Tys)(t:ab):T.nums t=nm0 T t (T.ty t):=by
 unfold Tys.nums nm0;split
 ·rename_i h;rw [h]
 ·rename_i a b h;rw [h];unfold nm1;rfl
 ·rename_i h;rw [h];unfold nmA;rfl
 ·rename_i h1 h2 h3
  cases h:T.ty t with
  |int k=>cases k<;>first|rfl|exact(h1 h).elim
  |struct fs=>
   rcases fs with _|⟨a,_|⟨b,_|⟨c,l⟩⟩⟩
   ·rfl
   ·rfl
   ·exact(h2 a b h).elim
   ·rfl
  |arr n e=>exact(h3 n e h).elim
  |_=>rfl
theorem AAl(T:Tys)(t n:Nat)(e:ab):nm0 T t (.arr n e)=nmA n (T.ty e):=nr rfl
theorem AAm(T:Tys)(t:ab):nm0 T t (.int .i64)=some (false,1):=nr rfl
def mm1(k e:ab):Option (Bool×Nat)→Option (Bool×Nat)→Option D
 |some _,some _=>some (.mp k e [])
 |_,_=>none
def mm0(T:Tys):Ty→Option D
 | .map k e=>mm1 k e (T.nums k) (T.nums e)
 |_=>none
theorem yMm(T:Tys)(t:ab):Jr T t=mm0 T (T.ty t):=by
 unfold Jr mm0
 cases T.ty t with
 |map k e=>simp only [mm1];cases T.nums k<;>cases T.nums e<;>rfl
 |_=>rfl
theorem AAo(T:Tys)(k e:ab):mm0 T (.map k e)=mm1 k e (T.nums k) (T.nums e):=nr rfl
def lkR(ea ok:Bool)(r:AL×Bool):D:=if ok=true then .tup [Np ea r.1,.bool r.2]else Np ea r.1
def lk2(ea ok:Bool)(es:List (AL×AL))(en:Nat):Option AL→Option D
 |some key=>some (lkR ea ok (MK es key en))
 |none=>none
theorem AAq(ea ok:Bool)(es:List (AL×AL))(en:Nat)(key:AL):lk2 ea ok es en (some key)=some (lkR ea ok (MK es key en)):=nr rfl
def lk1(es:List (AL×AL))(k' e' k e:ab)(i:D)(ok:Bool):Option (Bool×Nat)→Option (Bool×Nat)→Option D
 |some (ka,kn),some (ea,en)=>if k'=k∧e'=e then lk2 ea ok es en (Ir ka kn i)else none
 |_,_=>none
def lk0(T:Tys)(es:List (AL×AL))(k' e':ab)(i:D)(ok:Bool):Ty→Option D
 | .map k e=>lk1 es k' e' k e i ok (T.nums k) (T.nums e)
 |_=>none
def lkW(T:Tys)(i:D)(ok:Bool)(ty:Ty):Option (ab×ab×List (AL×AL))→Option D
 |some (k',e',es)=>lk0 T es k' e' i ok ty
 |none=>none
theorem AAs(T:Tys)(i:D)(ok:Bool)(ty:Ty)(k' e':ab)(es:List (AL×AL)):lkW T i ok ty (some (k',e',es))=lk0 T es k' e' i ok ty:=nr rfl
theorem A04(T:Tys)(x:ac)(L:AB)(n m:Nat)(i:D)(ok:Bool):IU T pm s t x (.vw L n m) i ok=lkW T i ok (T.ty t) (s.lookM pm L n):=by
 unfold IU lkW lk0;simp only [RX]
 cases s.lookM pm L n with
 |none=>cases T.ty t<;>rfl
 |some q=>
  cases T.ty t with
  |map k e=>
   simp only [lk1,MI]
   cases T.nums k<;>cases T.nums e<;>try rfl
   simp only;split
   ·cases Ir _ _ i<;>rfl
   ·rfl
  |_=>rfl
theorem AAt(T:Tys)(es:List (AL×AL))(k' e' k e:ab)(i:D)(ok:Bool):lk0 T es k' e' i ok (.map k e)=lk1 es k' e' k e i ok (T.nums k) (T.nums e):=nr rfl
theorem AAu(es:List (AL×AL))(k e:ab)(i:D)(ok ka ea:Bool)(kn en:Nat):lk1 es k e k e i ok (some (ka,kn)) (some (ea,en))=lk2 ea ok es en (Ir ka kn i):=by simp [lk1]
theorem A45(x:Int):Ir false 1 (.int .i64 x)=some [x]:=nr rfl
def mu2(s:St)(u:Tmp)(k e:ab)(es:List (AL×AL)):Option AL→Option AL→Option St
 |some key,some val=>some (s.set [u] (.mp k e (PW es key val)))
 |_,_=>none
theorem AAw(k e:ab)(es:List (AL×AL))(key val:AL):mu2 s u k e es (some key) (some val)=some (s.set [u] (.mp k e (PW es key val))):=nr rfl
def mu1(pm:Pm)(s:St)(u:Tmp)(es:List (AL×AL))(k' e' k e:ab)(i v:D):Option (Bool×Nat)→Option (Bool×Nat)→Option St
 |some (ka,kn),some (ea,en)=>if k'=k∧e'=e∧pm.wr u=true then mu2 s u k e es (Ir ka kn i) (Ir ea en v)else none
 |_,_=>none
def mu0(T:Tys)(pm:Pm)(s:St)(u:Tmp)(es:List (AL×AL))(k' e':ab)(i v:D):Ty→Option St
 | .map k e=>mu1 pm s u es k' e' k e i v (T.nums k) (T.nums e)
 |_=>none
def muW(T:Tys)(pm:Pm)(s:St)(u:Tmp)(i v:D)(ty:Ty):Option (ab×ab×List (AL×AL))→Option St
 |some (k',e',es)=>mu0 T pm s u es k' e' i v ty
 |none=>none
theorem AAy(T:Tys)(i v:D)(ty:Ty)(k' e':ab)(es:List (AL×AL)):muW T pm s u i v ty (some (k',e',es))=mu0 T pm s u es k' e' i v ty:=nr rfl
theorem A47(T:Tys)(x:ac)(n m:Nat)(i v:D):Jk T pm s t x (.vw [u] n m) i v=muW T pm s u i v (T.ty t) (s.lookM pm [u] n):=by
 unfold Jk muW mu0;simp only [RX]
 cases s.lookM pm [u] n with
 |none=>cases T.ty t<;>rfl
 |some q=>
  cases T.ty t with
  |map k e=>
   simp only [mu1,MI]
   cases T.nums k<;>cases T.nums e<;>rfl
  |_=>rfl
theorem AAz(T:Tys)(es:List (AL×AL))(k' e' k e:ab)(i v:D):mu0 T pm s u es k' e' i v (.map k e)=mu1 pm s u es k' e' k e i v (T.nums k) (T.nums e):=nr rfl
theorem AB0(es:List (AL×AL))(k e:ab)(i v:D)(ka ea:Bool)(kn en:Nat)(hw:pm.wr u=true):mu1 pm s u es k e k e i v (some (ka,kn)) (some (ea,en))=mu2 s u k e es (Ir ka kn i) (Ir ea en v):=by simp [mu1,hw]
theorem Pn{α β:Type}(f:α→β)(p:β→Bool)(q:α→Bool)(h: ∀a,p (f a)=q a): ∀(l:List α),(l.map f).find? p=(l.find? q).map f∧(l.map f).findIdx? p=l.findIdx? q
 | []=>⟨rfl,rfl⟩
 |a::l=>by
  obtain⟨h1,h2⟩:=Pn f p q h l;simp only [OG,List.find?_cons,List.findIdx?_cons,h]
  cases q a
  ·exact⟨h1,by simp only [h2]⟩
  ·exact⟨rfl,rfl⟩
def IZ(l:List (AL×Int))(k:AL):Int×Bool:=match l.find? (fun p=>p.1==k)with|some p=>(p.2,true)|none=>(0,false)
def Sd(l:List (AL×Int))(k:AL)(v:Int):List (AL×Int):=match l.findIdx? (fun p=>p.1==k)with|some i=>l.set i (k,v)|none=>l++[(k,v)]
def Ol(l:List (AL×Int)):List (AL×AL):=l.map fun p=>(p.1,[p.2])
theorem A48(k e:ab):mm1 k e (some (true,14)) (some (false,1))=some (.mp k e (Ol [])):=nr rfl
theorem jq(l:List (AL×Int))(k:AL):MK (Ol l) k 1=([(IZ l k).1],(IZ l k).2):=by
 unfold MK IZ Ol;rw [(Pn _ _ (fun p=>p.1==k) (fun p=>by simp) l).1]
 cases l.find? (fun p=>p.1==k)<;>rfl
theorem jr(l:List (AL×Int))(k:AL)(v:Int):PW (Ol l) k [v]=Ol (Sd l k v):=by
 unfold PW Sd Ol;rw [(Pn _ _ (fun p=>p.1==k) (fun p=>by simp) l).2]
 cases l.findIdx? (fun p=>p.1==k)<;>simp [List.map_set]
theorem jv(l:List (AL×Int)):(Ol l).length=l.length:=by simp [Ol]
theorem AB1(x:Int)(b:Bool):lkR false true ([x],b)= .tup [.int .i64 x,.bool b]:=nr rfl
theorem AB2(x y:Int)(b:Bool):lkR true true ([x,y],b)= .tup [.agg [.int .i64 x,.int .i64 y],.bool b]:=nr rfl
set_option linter.defProp false in
def AB3:=A7 @AAj (A7 @yLk (A7 @yMu (A7 @A43 (A7 @AAm (A7 @yMm (A7 @AAo (A7 @AAq (A7 @AAt (A7 @AAu (A7 @A45 (A7 @AAw (A7 @AAz (A7 @AB0 (A7 @AB1 (A7 @AAs (A7 @A04 (A7 @AAy (A7 @A47 (A7 @AAk (A7 @AAl (A7 @A48 (A7 @jq (A7 @jr (A7 @jv (A7 @A9h (A7 @zS (@AB2)))))))))))))))))))))))))))
end
end
end Dv
namespace Dv
open Go
theorem L8(n:Int)(h: -9223372036854775808≤n∧n≤9223372036854775807):IntKind.i64.wrap n=n:=IntWalk.i64_in n h
section
variable {T:Tys} {pm:Pm} {s:St} {t:ab}
theorem R3(xs:AL)(i:Nat)(h:i<xs.length):(Hd xs)[i]? =some (.int .i64 (xs.getD i 0)):=by
 simp [Hd,Jg,h]
theorem VM(x:Int)(xs:AL):Hd (x::xs)= .int .i64 x::Hd xs:=nr rfl
variable {E:Env} {dst:Option Tmp} {ty:ab}
def A49(e:ab)(dst:Option Tmp):Option (List D×St)→Option St
 |some (xs,s)=>some (s.putO dst (.own e xs))
 |none=>none
theorem A4A(e:ab)(xs:List D):A49 e dst (some (xs,s))=some (s.putO dst (.own e xs)):=nr rfl
def gH(dst:Option Tmp):Option (List D×St)→Option St
 |some (xs,s)=>some (s.putO dst (.agg xs))
 |none=>none
theorem A4B(xs:List D):gH dst (some (xs,s))=some (s.putO dst (.agg xs)):=nr rfl
theorem Sg(T:Tys){e:ab}(hs:T.isStruct e=false):T.size e=1∧T.zeros e=[T.zero1 e]:=by
 unfold Tys.isStruct at hs;unfold Tys.size Tys.zeros
 cases hty:T.ty e<;>simp_all [Ty.isStruct,Ty.size]
def nz(E:Env)(pm:Pm)(s:St)(dst:Option Tmp)(len:Nat)(parts:Array (Nat×ac)):Ty→Option St
 | .slice e=>
   if len*E.T.size e≤4096∧E.T.known e=true then
    (FV E.T pm (fun _=>e) (E.T.size e) s ((an (len*E.T.size e)).map fun j=>(E.T.zeros e).getD (j % E.T.size e) .undef) parts.toList).map fun r=>r.2.putO dst (.own e r.1)
   else none
 |_=>none
theorem A05(len:Nat)(parts:Array (Nat×ac)):RZ E.T pm s dst t len parts=nz E pm s dst len parts (E.T.ty t):=by
 unfold RZ nz
 cases E.T.ty t<;>rfl
theorem yBs(len:Nat)(parts:Array (Nat×ac)):Jv E pm s dst (.buildSlice t len parts) ty=if ty=900004 then fcB pm dst (nz E pm s dst len parts (E.T.ty t))else nz E pm s dst len parts (E.T.ty t):=by
 rw [Sb,A05];by_cases h:ty=900004
 ·rw [if_pos h,if_pos h];unfold fcB
  cases nz E pm s dst len parts (E.T.ty t)<;>cases dst<;>rfl
 ·rw [if_neg h,if_neg h]
theorem AB4(len:Nat)(parts:Array (Nat×ac))(e:ab)(hk:E.T.known e=true)(hs:E.T.isStruct e=false)(hl:len≤4096):
  nz E pm s dst len parts (.slice e)=A49 e dst (FV E.T pm (fun _=>e) 1 s (ao len (E.T.zero1 e)) parts.toList):=by
 obtain⟨hz,hzz⟩:=Sg E.T hs
 have hrep:((an (len*1)).map fun j=>(E.T.zeros e).getD (j % 1) .undef)=ao len (E.T.zero1 e):=by
  rw [hzz];apply List.ext_getElem
  ·simp
  ·intro i h1 h2;simp [Nat.mod_one]
 simp only [nz,hz];rw [if_pos ⟨by omega,hk⟩,hrep]
 rcases FV E.T pm (fun _=>e) 1 s (ao len (E.T.zero1 e)) parts.toList with _|⟨a,b⟩<;>rfl
def bsA(E:Env)(e:ab)(dst:Option Tmp):Option (D×St)→Option St
 |some (d,s1)=>if d.asCells.length=E.T.size e then some (s1.putO dst (.own e d.asCells))else none
 |none=>none
theorem AB6(e:ab)(xs:List D)(h:xs.length=E.T.size e):bsA E e dst (some (.agg xs,s))=some (s.putO dst (.own e xs)):=by
 show(if xs.length=E.T.size e then some (s.putO dst (.own e xs))else none)=_
 rw [if_pos h]
theorem YO(cs ys:List D)(h:ys.length=cs.length):Br cs 0 ys=ys:=by
 refine List.ext_getElem? fun i=> ?_;rw [Gs (by omega)]
 by_cases hi:i<ys.length
 ·rw [if_pos (by omega)];rfl
 ·rw [if_neg (by omega),bc (by omega),bc (by omega)]
theorem AB7(e:ab)(x:ac)(hk:E.T.known e=true)(hs:E.T.isStruct e=true)(hz:E.T.size e≤4096):nz E pm s dst 1 #[(0,x)] (.slice e)=bsA E e dst (take E.T pm s e x):=by
 simp only [nz,FV];rw [if_pos ⟨by omega,hk⟩]
 rcases take E.T pm s e x with _|⟨d,s1⟩
 ·rfl
 ·simp only [bsA];by_cases h:d.asCells.length=E.T.size e
  ·rw [if_pos ⟨h,by simp⟩,if_pos h,Nat.zero_mul,YO _ _ (by simp [h])];rfl
  ·rw [if_neg (fun hc=>h hc.1),if_neg h];rfl
theorem AB8(u:Tmp)(e:ab)(L:AB)(n m lo len:Nat):BR pm s dst (.tmp u) (.vs e L n m lo len)=some (s.putO dst (.vs e L n m lo len)):=by
 show some (if(D.vs e L n m lo len).hasObj then(s.clr u).putO dst (.vs e L n m lo len)else s.putO dst (.vs e L n m lo len))=_
 rw [if_neg (by simp [D.hasObj])]
def bdN(E:Env)(pm:Pm)(s:St)(dst:Option Tmp)(t:ab)(parts:Array (Nat×ac)):Option St:=
 match E.T.ty t with
 | .struct fs=>if E.T.known t then gH dst (FV E.T pm (fun i=>fs.getD i 0) 1 s (E.T.zeros t) parts.toList)else none
 |_=>none
def bd0(E:Env)(pm:Pm)(s:St)(dst:Option Tmp)(t:ab)(parts:Array (Nat×ac)):Option (List (Nat×ab))→Option St
 |some fl=>if E.T.isStruct t&&E.T.known t then gH dst (IJ E.T pm fl s (E.T.zeros t) parts.toList)else none
 |none=>bdN E pm s dst t parts
theorem A06(parts:Array (Nat×ac)):Jv E pm s dst (.build t parts) ty=bd0 E pm s dst t parts (E.T.nest t):=by
 rw [fe];unfold bd0 bdN
 cases E.T.nest t with
 |some fl=>
  simp only;split
  ·rcases IJ E.T pm fl s (E.T.zeros t) parts.toList with _|⟨a,b⟩<;>rfl
  ·rfl
 |none=>
  simp only
  cases E.T.ty t with
  |struct fs=>
   simp only;split
   ·rcases FV E.T pm (fun i=>fs.getD i 0) 1 s (E.T.zeros t) parts.toList with _|⟨a,b⟩<;>rfl
   ·rfl
  |_=>rfl
theorem AB9(parts:Array (Nat×ac))(fl:List (Nat×ab))(hk:E.T.known t=true)(hs:E.T.isStruct t=true):bd0 E pm s dst t parts (some fl)=gH dst (IJ E.T pm fl s (E.T.zeros t) parts.toList):=by
 simp [bd0,hk,hs]
def bdT(E:Env)(pm:Pm)(s:St)(dst:Option Tmp)(t:ab)(parts:Array (Nat×ac)):Ty→Option St
 | .struct fs=>if E.T.known t then gH dst (FV E.T pm (fun i=>fs.getD i 0) 1 s (E.T.zeros t) parts.toList)else none
 |_=>none
theorem ABA(parts:Array (Nat×ac)):bd0 E pm s dst t parts none=bdT E pm s dst t parts (E.T.ty t):=by
 show bdN E pm s dst t parts=_
 unfold bdN bdT
 cases E.T.ty t<;>rfl
theorem ABB(parts:Array (Nat×ac))(fs:List ab)(hk:E.T.known t=true):bdT E pm s dst t parts (.struct fs)=gH dst (FV E.T pm (fun i=>fs.getD i 0) 1 s (E.T.zeros t) parts.toList):=by
 simp [bdT,hk]
def fn1(T:Tys)(pm:Pm)(fl:List (Nat×ab))(cs:List D)(off:Nat)(ty:ab)(rest:List (Nat×ac)):Option (D×St)→Option (List D×St)
 |none=>none
 |some (d,s1)=>if d.asCells.length=T.size ty∧off+T.size ty≤cs.length then IJ T pm fl s1 (Br cs off d.asCells) rest else none
theorem A4E(T:Tys)(fl:List (Nat×ab))(cs:List D):IJ T pm fl s cs []=some (cs,s):=nr rfl
def fn0(T:Tys)(pm:Pm)(fl:List (Nat×ab))(s:St)(cs:List D)(x:ac)(rest:List (Nat×ac)):Option (Nat×ab)→Option (List D×St)
 |none=>none
 |some (off,ty)=>fn1 T pm fl cs off ty rest (take T pm s ty x)
theorem A07(T:Tys)(fl:List (Nat×ab))(cs:List D)(i:Nat)(x:ac)(rest:List (Nat×ac)):IJ T pm fl s cs ((i,x)::rest)=fn0 T pm fl s cs x rest (fl[i]?):=by
 simp only [IJ];rcases fl[i]? with _|⟨off,ty⟩
 ·rfl
 ·simp only [fn0,fn1];rcases take T pm s ty x with _|⟨d,s1⟩<;>rfl
theorem ABD(T:Tys)(fl:List (Nat×ab))(cs:List D)(x:ac)(rest:List (Nat×ac))(off:Nat)(ty:ab):fn0 T pm fl s cs x rest (some (off,ty))=fn1 T pm fl cs off ty rest (take T pm s ty x):=nr rfl
theorem ABE(T:Tys)(fl:List (Nat×ab))(cs:List D)(off:Nat)(ty:ab)(rest:List (Nat×ac))(d:D)(h1:d.asCells.length=T.size ty)(h2:off+T.size ty≤cs.length):
  fn1 T pm fl cs off ty rest (some (d,s))=IJ T pm fl s (Br cs off d.asCells) rest:=by simp only [fn1,h1,h2,and_self,if_true]
theorem fnA(ds:List D):(D.agg ds).asCells=ds:=nr rfl
theorem fnI(k:IntKind)(n:Int):(D.int k n).asCells=[.int k n]:=nr rfl
theorem fnO(e:ab)(xs:List D):(D.own e xs).asCells=[.own e xs]:=nr rfl
theorem spN(cs:List D)(c:Nat):Br cs c []=cs:=by cases cs<;>rfl
theorem spC(cs:List D)(c:Nat)(y:D)(ys:List D):Br cs c (y::ys)=Br (cs.set c y) (c+1) ys:=by cases cs<;>rfl
def mk0(T:Tys)(n:Int):Ty→Option D
 | .slice e=>if 0≤n∧n<1099511627776∧T.elem e=true then
   if T.isStruct e=true then some (.own e (ao n.toNat (T.zeros e)).flatten)
   else if T.size e=1 then some (.own e (ao n.toNat (T.zero1 e)))else none
  else none
 |_=>none
theorem yMk(n:Int):EC T t (.int .i64 n) (.int .i64 n)=mk0 T n (T.ty t):=by
 unfold EC mk0
 cases T.ty t<;>simp
def o5(T:Tys)(q:Int):Ty→Option D
 | .slice e=>if 0≤q∧q<1099511627776∧T.elem e=true then
   if T.isStruct e=true then some (.own e [])
   else if T.size e=1 then some (.own e [])else none
  else none
 |_=>none
theorem ABF(q:Int):EC T t (.int .i64 0) (.int .i64 q)=o5 T q (T.ty t):=by
 unfold EC o5
 cases T.ty t<;>simp
theorem A4F(q:Int)(e:ab)(hk:T.known e=true)(h4:T.size e≤4)(h0:0≤q)(hn:q<1099511627776):o5 T q (.slice e)=some (.own e []):=by
 simp only [o5];rw [if_pos ⟨h0,hn,Qz hk h4⟩];by_cases hs:T.isStruct e=true
 ·rw [if_pos hs]
 ·obtain⟨hz,_⟩:=Sg T (by simpa using hs)
  rw [if_neg hs,if_pos hz]
theorem ABG(n:Int)(e:ab)(hk:T.known e=true)(h4:T.size e≤4)(hs:T.isStruct e=false)(h0:0≤n)(hn:n<1099511627776):mk0 T n (.slice e)=some (.own e (ao n.toNat (T.zero1 e))):=by
 obtain⟨hz,_⟩:=Sg T hs;simp only [mk0];rw [if_pos ⟨h0,hn,Qz hk h4⟩,if_neg (by rw [hs];decide),if_pos hz]
theorem ABH(n:Int)(e:ab)(hk:T.known e=true)(h4:T.size e≤4)(hs:T.isStruct e=true)(h0:0≤n)(hn:n<1099511627776):mk0 T n (.slice e)=some (.own e (ao n.toNat (T.zeros e)).flatten):=by
 simp only [mk0];rw [if_pos ⟨h0,hn,Qz hk h4⟩,if_pos hs]
end
end Dv
namespace Dv
open Go
def jw(n:Int):Prop:= -9223372036854775808≤n∧n≤9223372036854775807
theorem jy{n:Int}(h:(Lit.int .i64 n).wf=true):jw n:=by
 have h1:IntKind.i64.min= -9223372036854775808:=by decide
 have h2:IntKind.i64.max=9223372036854775807:=by decide
 simp only [Lit.wf,h1,h2,F9,decide_eq_true_eq]at h;exact h
section
variable {T:Tys} {t e:ab} {d:D}
theorem kC(ht:T.ty t= .int .i64)(h:Arg T t d): ∃n,d= .int .i64 n∧jw n:=by
 obtain⟨ds,hs,rfl⟩:=h
 cases hs with
 |int ht' hw=>rw [ht]at ht';injection ht' with ht';subst ht';exact⟨_,by simp [top,Tys.isStruct,ht,Ty.isStruct],jy hw⟩
 |bool ht'=>rw [ht]at ht';cases ht'
 |string ht'=>rw [ht]at ht';cases ht'
 |slice ht'=>rw [ht]at ht';cases ht'
 |struct ht'=>rw [ht]at ht';cases ht'
theorem aG{ds:List D}(ht:T.ty t= .int .i64)(h:Shp T t ds): ∃n,ds=[.int .i64 n]∧jw n:=by
 cases h with
 |int ht' hw=>rw [ht]at ht';injection ht' with ht';subst ht';exact⟨_,rfl,jy hw⟩
 |bool ht'=>rw [ht]at ht';cases ht'
 |string ht'=>rw [ht]at ht';cases ht'
 |slice ht'=>rw [ht]at ht';cases ht'
 |struct ht'=>rw [ht]at ht';cases ht'
theorem Si{ds:List D}(ht:T.ty t= .slice e)(h:Shp T t ds): ∃xss:List (List D),ds=[.sl e xss.flatten]∧(∀xs,xs∈xss→Shp T e xs)∧xss.length≤maxLen:=by
 cases h with
 |int ht' hw=>rw [ht]at ht';cases ht'
 |bool ht'=>rw [ht]at ht';cases ht'
 |string ht' hs=>rw [ht]at ht';cases ht'
 |slice ht' hx hl=>rw [ht]at ht';injection ht' with ht';subst ht';exact⟨_,rfl,hx,hl⟩
 |struct ht'=>rw [ht]at ht';cases ht'
theorem VN{fs:List ab}{ds:List D}(ht:T.ty t= .struct fs)(h:Shp T t ds):ds.length=fs.length∧ ∀(i:Nat) (f:ab) (d:D),fs[i]? =some f→ds[i]? =some d→Shp T f [d]:=by
 cases h with
 |int ht' hw=>rw [ht]at ht';cases ht'
 |bool ht'=>rw [ht]at ht';cases ht'
 |string ht' hs=>rw [ht]at ht';cases ht'
 |slice ht' hx hl=>rw [ht]at ht';cases ht'
 |struct ht' hl hx=>rw [ht]at ht';injection ht' with ht';subst ht';exact⟨hl,hx⟩
def A08(xs:AL):Prop:=xs.length≤maxLen∧ ∀x∈xs,jw x
theorem bf{ds:List D}(ht:T.ty t= .slice e)(he:T.ty e= .int .i64)(h:Shp T t ds): ∃xs,ds=[.sl e (Hd xs)]∧A08 xs:=by
 obtain⟨xss,rfl,hx,hl⟩:=Si ht h
 have: ∀xss:List (List D),(∀xs,xs∈xss→Shp T e xs)→ ∃ys,xss.flatten=Hd ys∧ys.length=xss.length∧ ∀y∈ys,jw y:=by
  intro xss
  induction xss with
  |nil=>intro _;exact⟨[],rfl,rfl,by simp⟩
  |cons xs xss ih=>
   intro hx;obtain⟨n,rfl,hn⟩:=aG he (hx xs (Ke));obtain⟨ys,h1,h2,h3⟩:=ih (fun q hq=>hx q (JG _ hq))
   refine⟨n::ys,by rw [ZF,h1];rfl,by simp [h2],fun y hy=> ?_⟩
   rcases OH.1 hy with rfl|hy
   ·exact hn
   ·exact h3 y hy
 obtain⟨ys,h1,h2,h3⟩:=this xss hx
 exact⟨ys,by rw [h1],by omega,h3⟩
theorem gI{fs:List ab}(ht:T.ty t= .struct fs)(h:Arg T t d): ∃ds,d= .agg ds∧ds.length=fs.length∧ ∀(i:Nat) (f:ab) (d:D),fs[i]? =some f→ds[i]? =some d→Shp T f [d]:=by
 obtain⟨ds,hs,rfl⟩:=h;obtain⟨h1,h2⟩:=VN ht hs
 exact⟨ds,by simp [top,Tys.isStruct,ht,Ty.isStruct],h1,h2⟩
end
theorem trodAll_len{H:Type}{enc:ab×Value→H}{P:Program}{w:World}{base:Nat}{spare:Nat→Bool}{fV:Bool}: ∀ {ts:List ab} {vs:List Value} {ds:List (DataW H)} {ps:List MemPlace},
  DataW.TrodAll enc P w base spare fV ts vs ds ps→ds.length=ts.length∧vs.length=ts.length:=by
 intro ts
 induction ts with
 |nil=>intro vs ds ps h;cases vs<;>cases ds<;>simp [DataW.TrodAll]at h;exact⟨rfl,rfl⟩
 |cons t ts ih=>
  intro vs ds ps h
  cases vs with
  |nil=>cases ds<;>simp [DataW.TrodAll]at h
  |cons v vs=>
   cases ds with
   |nil=>simp [DataW.TrodAll]at h
   |cons d ds=>
    simp only [DataW.TrodAll]at h;obtain⟨p,q,h1,h2,_⟩:=h;obtain⟨e1,e2⟩:=ih h2
    exact⟨by simp [e1],by simp [e2]⟩
end Dv
namespace Dv
open Go
section
variable {E:Env} {T:Tys} {pm:Pm} {s:St} {dst:Option Tmp} {ty t:ab}
def o6(T:Tys)(t:ab)(dst:Option Tmp):Option (D×St)→Option St
 |some (d,s1)=>if T.isStruct t==d.isAgg then some (s1.putO dst (.box d.asCells))else none
 |none=>none
def iH(E:Env)(pm:Pm)(s:St)(t:ab)(x:ac)(dst:Option Tmp):D→Option St
 | .agg ds=>if Ak ds then o6 E.T t dst (take E.T pm s t x)else(if E.T.isStruct t then some (s.putO dst (.box ds))else none)
 |_=>o6 E.T t dst (take E.T pm s t x)
theorem A09(u:Tmp):MW E.T pm s dst t (.tmp u)=iH E pm s t (.tmp u) dst (s.v u):=by
 rw [jc]
 cases hk:RY (ev E.T s t (.tmp u))with
 |some ds=>
  simp only [ev]at hk
  cases hv:s.v u<;>rw [hv]at hk<;>simp only [RY]at hk<;>try (cases hk;done)
  split at hk
  ·cases hk
  ·rename_i ho
   simp only [al]at hk;subst hk;simp only [iH,ho];rfl
 |none=>
  have hold:iH E pm s t (.tmp u) dst (s.v u)=o6 E.T t dst (take E.T pm s t (.tmp u)):=by
   simp only [ev]at hk
   cases hv:s.v u<;>try rfl
   rw [hv]at hk;simp only [RY]at hk
   split at hk
   ·rename_i ho;simp only [iH,ho,if_true]
   ·cases hk
  rw [hold];simp only;rcases take E.T pm s t (.tmp u)with _|⟨d,s1⟩<;>rfl
theorem ABJ(u:Tmp):Jv E pm s dst (.box t (.tmp u)) ty=if ty=900003 then mV pm dst (iH E pm s t (.tmp u) dst (s.v u))else iH E pm s t (.tmp u) dst (s.v u):=by
 rw [nP,A09];by_cases h:ty=900003
 ·rw [if_pos h,if_pos h];unfold mV
  cases iH E pm s t (.tmp u) dst (s.v u)<;>cases dst<;>rfl
 ·rw [if_neg h,if_neg h]
theorem bkK(x:ac)(ds:List D)(hs:E.T.isStruct t=true):iH E pm s t x dst (.agg ds)=if Ak ds then o6 E.T t dst (take E.T pm s t x)else some (s.putO dst (.box ds)):=by simp [iH,hs]
theorem A4G(x:ac)(k:IntKind)(n:Int):iH E pm s t x dst (.int k n)=o6 E.T t dst (take E.T pm s t x):=nr rfl
theorem ABK(x:ac)(e:ab)(xs:List D):iH E pm s t x dst (.sl e xs)=o6 E.T t dst (take E.T pm s t x):=nr rfl
theorem A0A(x:ac)(xs:List D):iH E pm s t x dst (.cptr xs)=o6 E.T t dst (take E.T pm s t x):=nr rfl
theorem ABL(d:D)(hs:T.isStruct t=false)(hd:d.isAgg=false):o6 T t dst (some (d,s))=some (s.putO dst (.box [d])):=by
 have:d.asCells=[d]:=by cases d<;>first|rfl|(simp [D.isAgg]at hd)
 simp [o6,hs,hd,this]
def fa1(L:AB)(i n m:Nat):Option D→Option D
 |some _=>some (.pe L i n m)
 |none=>none
theorem ABM(L:AB)(i n m:Nat)(d:D):fa1 L i n m (some d)=some (.pe L i n m):=nr rfl
def fa0(T:Tys)(pm:Pm)(s:St)(t:ab)(x:ac)(d:D):Option Nat→Option D
 |none=>none
 |some j=>
  if T.isStruct t then
   match d with
   | .box _=>match x with| .tmp u=>some (.pe [u] j (s.k u) (s.m u))|_=>none
   | .vw L n m=>match s.look pm L n m with|some (.box _)=>some (.pe L j n m)|_=>none
   | .pe L c n m=>match s.look pm L n m with|some _=>some (.pe L (c+j) n m)|none=>none
   | .cptr xs=>some (.cptr (xs.drop j))
   |_=>none
  else none
theorem faE(x:ac)(d:D)(i:Nat):Ef T pm s t x d i=fa0 T pm s t x d (T.foff t i):=by
 unfold Ef fa0
 cases T.foff t i<;>rfl
theorem foN(i:Nat)(hn:T.nest t=none)(hi:i<T.size t):T.foff t i=some i:=by simp [Tys.foff,hn,hi]
theorem A4H(u:Tmp)(xs:List D)(i:Nat)(hs:T.isStruct t=true):fa0 T pm s t (.tmp u) (.box xs) (some i)=some (.pe [u] i (s.k u) (s.m u)):=by simp [fa0,hs]
theorem ABN(x:ac)(L:AB)(c n m i:Nat)(hs:T.isStruct t=true):fa0 T pm s t x (.pe L c n m) (some i)=fa1 L (c+i) n m (s.look pm L n m):=by
 simp only [fa0,hs,if_true]
 cases s.look pm L n m<;>rfl
theorem ABO(L:AB)(c n:Nat)(y:D)(ys:List D):cellsOf s L c n (some (D.box (y::ys)))=if c+n≤(D.box (y::ys)).cells.length then D6 (.agg ((an n).map fun i=>FQ s L (c+i) ((D.box (y::ys)).cells.getD (c+i) .undef)))else none:=nr rfl
theorem ABP(L:AB)(c n:Nat)(e:ab)(ys:List D):cellsOf s L c n (some (D.own e ys))=if c+n≤(D.own e ys).cells.length then D6 (.agg ((an n).map fun i=>FQ s L (c+i) ((D.own e ys).cells.getD (c+i) .undef)))else none:=nr rfl
variable {α:Type} (f:Nat→α)
theorem ABQ:(an 14).map f=[f 0,f 1,f 2,f 3,f 4,f 5,f 6,f 7,f 8,f 9,f 10,f 11,f 12,f 13]:=nr rfl
theorem rg2:(an 2).map f=[f 0,f 1]:=nr rfl
theorem rg3:(an 3).map f=[f 0,f 1,f 2]:=nr rfl
theorem rg4:(an 4).map f=[f 0,f 1,f 2,f 3]:=nr rfl
theorem A4I(L:AB)(c:Nat)(k:IntKind)(n:Int):FQ s L c (.int k n)= .int k n:=nr rfl
theorem ABR(L:AB)(c:Nat)(e:ab)(xs:List D):FQ s L c (.sl e xs)= .sl e xs:=nr rfl
theorem A4J(L:AB)(c:Nat)(e:ab)(xs:List D):FQ s L c (.own e xs)=iF s (L++[c]):=nr rfl
theorem ABS(L:AB)(c:Nat)(M:AB)(n m:Nat):FQ s L c (.vw M n m)= .vw M n m:=nr rfl
theorem noA(xs:List D):D6 (.agg xs)=if Ak xs then none else some (.agg xs):=by simp only [D6,D.hasObj];rfl
theorem A4K(k:IntKind)(n:Int):D6 (.int k n)=some (.int k n):=by simp [D6,D.hasObj]
theorem ABT(e:ab)(xs:List D):D6 (.sl e xs)=some (.sl e xs):=by simp [D6,D.hasObj]
theorem ABU(L:AB)(n m:Nat):D6 (.vw L n m)=some (.vw L n m):=by simp [D6,D.hasObj]
theorem dl2(a b:Nat)(l:AB):List.dropLast (a::b::l)=a::List.dropLast (b::l):=nr rfl
theorem dl1(a:Nat):List.dropLast [a]=[]:=nr rfl
theorem aH: ∀(ds xs:List D),xs.length=ds.length→Br xs 0 ds=ds:=by
 have key: ∀(ds pre xs:List D),xs.length=ds.length→Br (pre++xs) pre.length ds=pre++ds:=by
  intro ds
  induction ds with
  |nil=>intro pre xs h;simp at h;subst h;rfl
  |cons d ds ih=>
   intro pre xs h
   cases xs with
   |nil=>simp at h
   |cons x xs=>
    simp only [Br];have:=ih (pre++[d]) xs (by simpa using h)
    simpa using this
 intro ds xs h;simpa using key ds [] xs h
def sw1(T:Tys)(pm:Pm)(t:ab)(u:Tmp)(ds:List D)(s:St):D→Option St
 | .box xs=>if T.known t&&T.isStruct t&&pm.wr u&&ds.all DJ&&(T.size t==ds.length)&&(xs.length==ds.length)then(if Ak ds||Ak xs then some ((s.set [u] (.box ds)).bump u)else some (s.set [u] (.box ds)))else XO T pm t (.tmp u) (some (.agg ds,s))
 |_=>XO T pm t (.tmp u) (some (.agg ds,s))
theorem ABV(u:Tmp)(ds:List D):XO T pm t (.tmp u) (some (.agg ds,s))=sw1 T pm t u ds s (s.v u):=by
 cases hv:s.v u<;>simp only [sw1]
 rename_i xs
 split
 ·rename_i hc
  simp only [F9,beq_iff_eq]at hc;obtain⟨⟨⟨⟨⟨hk,hs⟩,hw⟩,hd⟩,hz⟩,hl⟩:=hc;have hz':T.size t≤xs.length:=by omega
  simp only [XO,ev,hv,Hm,D.asCells,D.isAgg,D.cells,D.withCells,hk,hs,hw,hd,hz,UC,beq_self_eq_true,Bool.and_self,Il,D.hasObj];rw [aH ds xs hl];have h2:ds.length≤xs.length:=by omega
  simp only [h2,decide_true,Bool.and_self,if_true]
  split<;>first|rfl|(rename_i hq;simp only [hq];rfl)
 ·rfl
theorem ABW(u:Tmp)(ds xs:List D)(hk:T.known t=true)(hs:T.isStruct t=true)(hw:pm.wr u=true)(hd:ds.all DJ=true)(hz:T.size t=ds.length)(hl:xs.length=ds.length):
  sw1 T pm t u ds s (.box xs)=if Ak ds||Ak xs then some ((s.set [u] (.box ds)).bump u)else some (s.set [u] (.box ds)):=by
 simp [sw1,hk,hs,hw,hd,hz,hl]
def rc1(T:Tys)(s:St)(t:Tmp)(ty:ab):D→Option (D×St)
 | .box xs=>if T.isStruct ty then(if xs.length=T.size ty then td1 (EQ Pm.all (s.clr t) xs)else none)else(match xs with| [d]=>CO Pm.all (s.clr t) d|_=>none)
 | .cptr xs=>if T.isStruct ty then(if xs.length=T.size ty then some (.agg xs,s)else none)else(match xs with| [d]=>some (d,s)|_=>none)
 |_=>none
theorem A0B(u:Tmp)(hk:T.known ty=true):Re T s (.cell u ty)=rc1 T s u ty (s.v u):=by
 simp only [Re,hk,if_true,rc1]
 cases s.v u with
 |box xs=>
  simp only;split
  ·split
   ·cases EQ Pm.all (s.clr u) xs<;>rfl
   ·rfl
  ·rfl
 |_=>rfl
theorem ABX(u:Tmp)(xs:List D)(hs:T.isStruct ty=true)(hl:xs.length=T.size ty):rc1 T s u ty (.box xs)=td1 (EQ Pm.all (s.clr u) xs):=by simp [rc1,hs,hl]
def cp1(pm:Pm)(s:St)(u:Tmp)(rest:List ac):D→Option (List D×St)
 | .box xs=>match DL xs with
  |some ys=>if pm.wr u then(Kh pm (s.set [u] (.cptr ys)) rest).map fun r=>(.cptr ys::r.1,r.2)else none
  |none=>none
 | .cptr ys=>(Kh pm s rest).map fun r=>(.cptr ys::r.1,r.2)
 |_=>none
theorem A4M:Kh pm s []=some ([],s):=nr rfl
theorem A4N(u:Tmp)(rest:List ac):Kh pm s (.tmp u::rest)=cp1 pm s u rest (s.v u):=by
 simp only [Kh]
 cases s.v u<;>rfl
def cp2(pm:Pm)(s:St)(u:Tmp)(rest:List ac):Option (List D)→Option (List D×St)
 |some ys=>if pm.wr u then(Kh pm (s.set [u] (.cptr ys)) rest).map fun r=>(.cptr ys::r.1,r.2)else none
 |none=>none
theorem ABa(u:Tmp)(rest:List ac)(xs:List D):cp1 pm s u rest (.box xs)=cp2 pm s u rest (DL xs):=by
 simp only [cp1];cases DL xs<;>rfl
theorem ABb(u:Tmp)(rest:List ac)(ys:List D)(hw:pm.wr u=true):cp2 pm s u rest (some ys)=(Kh pm (s.set [u] (.cptr ys)) rest).map fun r=>(.cptr ys::r.1,r.2):=by simp [cp2,hw]
def clN(E:Env)(pm:Pm)(s:St)(dst:Option Tmp)(args:Array ac)(ts:Array ab):D→Option St
 | .clo f caps=>if args.size=ts.size then FW E pm s dst f (args.toList.zip ts.toList) caps else none
 | .ocl false f caps=>if args.size=ts.size then M7 E pm s dst f (args.toList.zip ts.toList) caps else none
 |_=>none
theorem A0C(u:Tmp)(args:Array ac)(ts:Array ab):Jv E pm s dst (.call ⟨.value (.tmp u),args,ts⟩) ty=clN E pm s dst args ts (s.v u):=by
 rw [fu];cases s.v u<;>first|rfl|(rename_i b _ _;cases b<;>rfl)
theorem ABd(args:Array ac)(ts:Array ab)(f':am)(caps:List D)(h:args.size=ts.size):clN E pm s dst args ts (.clo f' caps)=FW E pm s dst f' (args.toList.zip ts.toList) caps:=by simp [clN,h]
def mf0(f:am)(dst:Option Tmp):Option (List D×St)→Option St
 |some r=>some (r.2.putO dst (.clo f r.1))
 |none=>none
theorem ABe(g:am)(xs:List D):mf0 g dst (some (xs,s))=some (s.putO dst (.clo g xs)):=nr rfl
def mfV(f:am)(dst:Option Tmp):Option (List D×St)→Option St
 |some r=>some (r.2.putO dst (.ocl false f r.1))
 |none=>none
theorem yMf(g:am)(captured:Array ac):Jv E pm s dst (.makeFunc (.func g) #[] captured) ty=if ty<3000000 then mf0 g dst (Kh pm s captured.toList)else mfV g dst (Vg pm s (ty-3000000) captured.toList):=by
 rw [WL];simp only [List.isEmpty_toArray,List.isEmpty_nil,if_true];by_cases h:ty<3000000
 ·rw [if_pos h,if_pos h]
  cases Kh pm s captured.toList<;>rfl
 ·rw [if_neg h,if_neg h]
  cases Vg pm s (ty-3000000) captured.toList<;>rfl
def oaJ(a:D)(l:List (AB×D)):Option (List D×List (AB×D))→Option (List D×List (AB×D))
 |some r=>some (a::r.1,l++r.2)
 |none=>none
def bn1(dflt:Nat):Option D→Option Nat
 |some (.int _ n)=>if 0≤n then some n.toNat else none
 |_=>none
theorem bnN(n:Nat):NZ T s n none=some n:=nr rfl
theorem bnS(n:Nat)(x:ac):NZ T s n (some x)=bn1 n (ev T s 0 x):=by
 simp only [NZ];rcases ev T s 0 x with _|d
 ·rfl
 ·cases d<;>rfl
theorem ABh(n:Nat)(k:IntKind)(i:Int)(h:0≤i):bn1 n (some (.int k i))=some i.toNat:=by simp [bn1,h]
def sl0(T:Tys)(pm:Pm)(s:St)(x:ac)(d:D)(lo hi mx:Option ac):Ty→Option (D×St)
 | .slice e'=>match DN pm s x d with
  |none=>none
  |some (e,xs,o)=>
   match NZ T s 0 lo,NZ T s (T.len e xs) hi with
   |some l,some h=>
    if e'=e∧T.known e=true∧l≤h∧h≤T.len e xs then
     if mx.isSome then
      match NZ T s 0 mx with
      |some q=>if l=h∧h=q∧hi.isSome=true then some (.own e [],s)else none
      |none=>none
     else match o with
      |none=>some (.sl e ((xs.take (h*T.size e)).drop (l*T.size e)),s)
      |some (L,va,vb)=>
       if pm.wr (L.headD 0)then
        match DL xs with
        |some ys=>some (.sl e ((ys.take (h*T.size e)).drop (l*T.size e)),s.set L (.sl e ys))
        |none=>none
       else RV L va vb e l h s
    else none
   |_,_=>none
 | .string=>match d with
  | .str b=>match NZ T s 0 lo,NZ T s b.size hi with
   |some l,some h=>if l≤h∧h≤b.size∧mx.isNone then some (.str (b.extract l h),s)else none
   |_,_=>none
  |_=>none
 |_=>none
theorem slT(x:ac)(d:D)(lo hi mx:Option ac):H8 T pm s t x d lo hi mx=sl0 T pm s x d lo hi mx (T.ty t):=by
 unfold H8 sl0
 cases T.ty t<;>first|rfl|(cases d<;>rfl)
def sl1(T:Tys)(pm:Pm)(s:St)(e:ab)(xs:List D)(o:Option (AB×Nat×Nat)):Option Nat→Option Nat→Option (D×St)
 |some l,some h=>
  if l≤h∧h≤xs.length then
   match o with
   |none=>some (.sl e ((xs.take h).drop l),s)
   |some (L,va,vb)=>
    if pm.wr (L.headD 0)then
     match DL xs with
     |some ys=>some (.sl e ((ys.take h).drop l),s.set L (.sl e ys))
     |none=>none
    else RV L va vb e l h s
  else none
 |_,_=>none
def sl2(T:Tys)(pm:Pm)(s:St)(e':ab)(lo hi:Option ac):Option (ab×List D×Option (AB×Nat×Nat))→Option (D×St)
 |some (e,xs,o)=>if e'=e∧T.known e=true then sl1 T pm s e xs o (NZ T s 0 lo) (NZ T s xs.length hi)else none
 |none=>none
theorem ABi(x:ac)(d:D)(lo hi:Option ac)(e:ab)(hz:T.isStruct e=false):sl0 T pm s x d lo hi none (.slice e)=sl2 T pm s e lo hi (DN pm s x d):=by
 have h1:=L6 hz;simp only [sl0,sl2,Option.isSome_none,Ik,if_false];rcases DN pm s x d with _|⟨e',xs,o⟩
 ·rfl
 ·simp only;by_cases he:e=e'
  ·subst he;simp only [true_and,h1,MJ,Tys.len,if_true]
   cases NZ T s 0 lo<;>cases NZ T s xs.length hi<;>simp only [sl1]<;>(by_cases hk:T.known e=true<;>simp [hk])
  ·simp only [he,false_and,if_false]
   cases NZ T s 0 lo<;>cases NZ T s (T.len e' xs) hi<;>rfl
theorem ABj(e:ab)(lo hi:Option ac)(xs:List D)(o:Option (AB×Nat×Nat))(hk:T.known e=true):sl2 T pm s e lo hi (some (e,xs,o))=sl1 T pm s e xs o (NZ T s 0 lo) (NZ T s xs.length hi):=by simp [sl2,hk]
theorem ABk(e:ab)(xs:List D)(l h:Nat)(h1:l≤h)(h2:h≤xs.length):sl1 T pm s e xs none (some l) (some h)=some (.sl e ((xs.take h).drop l),s):=by simp [sl1,h1,h2]
def sl3(pm:Pm)(s:St)(e:ab)(L:AB)(a b l h:Nat)(o:Option (List D)):Option (D×St):=
 if pm.wr (L.headD 0)then
  match o with
  |some ys=>some (.sl e ((ys.take h).drop l),s.set L (.sl e ys))
  |none=>none
 else RV L a b e l h s
theorem ABm(e:ab)(xs:List D)(L:AB)(a b l h:Nat)(h1:l≤h)(h2:h≤xs.length):sl1 T pm s e xs (some (L,a,b)) (some l) (some h)=sl3 pm s e L a b l h (DL xs):=by
 simp only [sl1,h1,h2,and_self,if_true];rfl
theorem ABn(e:ab)(L:AB)(a b l h:Nat)(o:Option (List D))(hw:pm.wr (L.headD 0)=false):sl3 pm s e L a b l h o=some (.vs e L a b l (h-l),s):=by simp only [sl3];rw [if_neg (by rw [hw];decide)];rfl
theorem A4O(r:Nat):pm.see.rd r=pm.rd r:=nr rfl
theorem A4P(r:Nat):pm.see.wr r=false:=nr rfl
theorem ABo(u:Tmp):wrO pm (.tmp u)=pm.wr u:=nr rfl
def ct2(e:ab)(xs:List D)(s1:St):Option Nat→Option (D×St)
 |some h=>if h≤xs.length then some (.own e (xs.take h),s1)else none
 |none=>none
def ct1(T:Tys)(s:St)(e':ab)(hi:Option ac):Option (D×St)→Option (D×St)
 |some (.own e xs,s1)=>
  match NZ T s (T.len e xs) hi with
  |some h=>if e'=e∧T.known e=true∧h≤T.len e xs then some (.own e (xs.take (h*T.size e)),s1)else none
  |none=>none
 |_=>none
def ct0(T:Tys)(pm:Pm)(s:St)(t:ab)(x:ac)(hi:Option ac):Ty→Option (D×St)
 | .slice e=>ct1 T s e hi (if wrO pm x then take T pm s t x else none)
 |_=>none
theorem ctT(x:ac)(hi:Option ac):MS T pm s t x hi=ct0 T pm s t x hi (T.ty t):=by
 unfold MS ct0 ct1
 cases T.ty t<;>rfl
theorem ABp(x:ac)(hi:Option ac)(e:ab)(hw:wrO pm x=true):ct0 T pm s t x hi (.slice e)=ct1 T s e hi (take T pm s t x):=by
 unfold ct0;rw [if_pos hw]
theorem ABq(hi:Option ac)(e:ab)(xs:List D)(s1:St)(hk:T.known e=true)(hz:T.isStruct e=false):ct1 T s e hi (some (.own e xs,s1))=ct2 e xs s1 (NZ T s xs.length hi):=by
 have h1:=L6 hz;simp only [ct1,hk,true_and,h1,MJ,Tys.len,if_true]
 cases NZ T s xs.length hi<;>rfl
theorem ABr(e:ab)(xs:List D)(s1:St)(h:Nat)(hle:h≤xs.length):ct2 e xs s1 (some h)=some (.own e (xs.take h),s1):=by
 show(if h≤xs.length then some (D.own e (xs.take h),s1)else none)=_
 rw [if_pos hle]
def ca0(f:am):Option (List D×List (AB×D))→Option (D×List (AB×D))
 |some r=>some (.clo f r.1,r.2)
 |none=>none
theorem ABt(f:am)(cs:List D)(ls:List (AB×D)):ca0 f (some (cs,ls))=some (.clo f cs,ls):=nr rfl
def ca2(pm:Pm)(s:St)(L:AB)(c:D)(rest:List D):Option D→Option (List D×List (AB×D))
 |some c'=>oaJ c' [(L,c)] (K4 pm s rest)
 |none=>none
theorem ABu(L:AB)(c:D)(rest:List D)(c':D):ca2 pm s L c rest (some c')=oaJ c' [(L,c)] (K4 pm s rest):=nr rfl
def ca1(pm:Pm)(s:St)(L:AB)(rest:List D):Option D→Option (List D×List (AB×D))
 |some c=>ca2 pm s L c rest (E5 c)
 |none=>none
theorem ABw(L:AB)(rest:List D)(c:D):ca1 pm s L rest (some c)=ca2 pm s L c rest (E5 c):=nr rfl
theorem caN:K4 pm s []=some ([],[]):=nr rfl
theorem caV(L:AB)(n m:Nat)(rest:List D):K4 pm s (.vw L n m::rest)=ca1 pm s L rest (s.look pm L n m):=by
 rw [K4]
 cases s.look pm L n m with
 |none=>rfl
 |some c=>
  simp only [ca1,ca2]
  cases E5 c with
  |none=>rfl
  |some c'=>simp only [DT];rcases K4 pm s rest with _|⟨a,b⟩<;>rfl
theorem caC(ys rest:List D):K4 pm s (.cptr ys::rest)=oaJ (.cptr ys) [] (K4 pm s rest):=by
 rw [K4];rcases K4 pm s rest with _|⟨a,b⟩<;>rfl
theorem A4R(T:Tys)(L0:AB)(j:Nat)(f:am)(caps:List D):Jl T false pm s j L0 (.ocl false f caps)=ca0 f (K4 pm s caps):=by
 show(if(false||false)=true then none else(K4 pm s caps).map fun r=>(D.clo f r.1,r.2))=_
 rw [if_neg (by decide)]
 unfold ca0;rcases K4 pm s caps with _|⟨a,b⟩<;>rfl
def va1(T:Tys)(e:ab)(L:AB)(lo len:Nat):Option D→Option (D×List (AB×D))
 |some (.own e' xs)=>
  if e'=e∧T.known e=true∧(lo+len)*T.size e≤xs.length then
   (DL xs).map fun ys=>(.sl e ((ys.drop (lo*T.size e)).take (len*T.size e)),[(L,.own e' xs)])
  else none
 |_=>none
theorem ABx(e:ab)(L L0:AB)(n m lo len j:Nat):Jl T false pm s j L0 (.vs e L n m lo len)=va1 T e L lo len (s.look pm L n m):=by
 show Uy T pm s e L n m lo len=_
 unfold Uy va1;rcases s.look pm L n m with _|d
 ·rfl
 ·cases d<;>rfl
theorem A0E(x:Tmp):Jv E pm s dst (.call ⟨.builtin .clear, #[.tmp x], #[t]⟩) ty=WK dst (Jj E.T pm s t (.tmp x) (s.v x)):=Kz dst _
def o7(T:Tys)(pm:Pm)(s:St)(t:ab):Option (ab×AB×List D×Nat×Nat)→Option (D×St)
 |some (e,L,xs,lo,len)=>
  if T.isSl t e&&T.known e&&(T.size e==1)&& !T.isStruct e&&DJ (T.zero1 e)&&pm.wr (L.headD 0)then
   some (.tup [],(s.set L (.own e (Br xs lo (ao len (T.zero1 e))))).bump (L.headD 0))
  else none
 |none=>none
theorem ABy(x:ac)(a:D):Jj T pm s t x a=o7 T pm s t (UG pm s x a):=by
 unfold Jj o7;rcases UG pm s x a with _|⟨_,_,_,_,_⟩<;>rfl
theorem ABz(e:ab)(L:AB)(xs:List D)(lo len:Nat)(h1:T.isSl t e=true)(h2:T.known e=true)(h3:T.isStruct e=false)(h5:DJ (T.zero1 e)=true)(h7:pm.wr (L.headD 0)=true):
  o7 T pm s t (some (e,L,xs,lo,len))=some (.tup [],(s.set L (.own e (Br xs lo (ao len (T.zero1 e))))).bump (L.headD 0)):=by
 have h8:=L6 h3;unfold o7;dsimp only;rw [if_pos (by rw [h1,h2,h3,h5,h7,h8];simp)]
def A0F(e:ab):Ty→Bool
 | .slice e'=>e'==e
 |_=>false
theorem AC0(e:ab):T.isSl t e=A0F e (T.ty t):=by unfold Tys.isSl A0F;cases T.ty t<;>rfl
theorem AC1(e e':ab):A0F e (.slice e')=(e'==e):=nr rfl
def dv1(e:ab)(L:AB)(lo len:Nat):Option D→Option (ab×AB×List D×Nat×Nat)
 |some (.own e' xs)=>if e'=e∧lo+len≤xs.length then some (e,L,xs,lo,len)else none
 |_=>none
theorem dvS(x:ac)(e:ab)(L:AB)(n m lo len:Nat):UG pm s x (.vs e L n m lo len)=dv1 e L lo len (s.look pm L n m):=by
 show(match s.look pm L n m with|some (.own e' xs)=>if e'=e∧lo+len≤xs.length then some (e,L,xs,lo,len)else none|_=>none)=_
 rcases s.look pm L n m with _|d
 ·rfl
 ·cases d<;>rfl
theorem AC3(e:ab)(L:AB)(lo len:Nat)(xs:List D)(h:lo+len≤xs.length):dv1 e L lo len (some (.own e xs))=some (e,L,xs,lo,len):=by simp [dv1,h]
theorem AC4(x:Tmp)(e:ab)(L:AB)(n m lo len:Nat):CU s dst (.tmp x) (.vs e L n m lo len)=s.putO dst (.vs e L n m lo len):=nr rfl
theorem A4S(x:Tmp)(e:ab)(L:AB)(n m lo len:Nat):aF pm x (.vs e L n m lo len)=true:=by simp [aF,D.hasObj]
end
theorem aI{P:Program}{T:Tys}{f:am}{e:ab}{r:D}{outs:List D}(hk:T.known e=true)(h: ∀A c,Good P T f [.konst (.slice A 0 c)] [] r outs):Good P T f [.sl e []] [] r outs:=by
 refine⟨(h none 0).1,fun vs gh w S FL hsz hA hL hL0 hLd hlt=> ?_⟩
 obtain⟨v,hv,hW⟩:=hA 0 _ rfl
 obtain⟨A,c,rfl⟩: ∃A c,v= .slice A 0 c:=by
  cases hW with
  |sl us hE hn hc hm hx hw=>
   rename_i A n c
   have hp:=YG hk
   have:n=0:=by
    simp only [RN]at hn;rcases Nat.mul_eq_zero.1 hn.symm with h0|h0
    ·exact h0
    ·omega
   subst this
   exact⟨_,_,rfl⟩
 refine(h A c).2 vs gh w S FL hsz (fun i d hi=> ?_) hL hL0 hLd hlt
 cases i with
 |zero=>simp at hi;subst hi;exact⟨_,hv,.konst (fun _ h=>h)⟩
 |succ i=>simp at hi
end Dv
namespace Dv
open Go
set_option maxRecDepth 10000
set_option linter.defProp false
theorem geq:G=100000:=nr rfl
def AP:=A7 @A0E (A7 @A9P (A7 @A9R (A7 @A8x (A7 @A8y (A7 @ym (A7 @ABJ (A7 @yMf (A7 @A0C (A7 @A95 (A7 @A28 (A7 @A93 (A7 @yz (A7 @A29 (A7 @A2C (A7 @z8 (A7 @A26 (A7 @A27 (A7 @A92 (A7 @zA (A7 @zC (A7 @zD (A7 @A97 (A7 @A98 (A7 @A99 (A7 @A2D (A7 @Zz (A7 @YK (A7 @A2Z (A7 @nW (A7 @ji (A7 @zK (A7 @A2a (A7 @yUn (A7 @zL (A7 @A9O (A7 @jk (A7 @zM (A7 @nX (A7 @zN (A7 @A2e (A7 @jl (A7 @A2g (A7 @jb (A7 @fq (A7 @fZ (A7 @A06 (A7 @yBs (@WM))))))))))))))))))))))))))))))))))))))))))))))))
def kD:=A7 (A7 @A9B @fnI) (A7 @A9E (A7 @A9X (A7 @A9Y (A7 AB3 (A7 @A9e (A7 @A9f (A7 @A2s (A7 @zR (A7 @zZ (A7 @faE (A7 @foN (A7 @AB9 (A7 @ABA (A7 @A4E (A7 @A07 (A7 @ABD (A7 @ABE (A7 (A7 @fnO @fnA) (A7 @spN (A7 @spC (A7 @ABy (A7 @ABz (A7 @zY (A7 @A9x (A7 @A9y (A7 @A2p (A7 @zQ (A7 @A2q (A7 @A2t (A7 @A2u (A7 @A2v (A7 @A2w (A7 @A2x (A7 @A2y (A7 @A2z (A7 @ABn (A7 @A4O (A7 @A4P (A7 @ABo (A7 @ctT (A7 @ABp (A7 @ABq (A7 @ABr (A7 (A7 @ABx (A7 @A4R (A7 @ABt (A7 @ABw (A7 @ABu (A7 @caN (A7 @caV @caC))))))) (A7 @A3Y (A7 @zf (A7 @AAC (A7 @A3Z (A7 @axK (A7 @A3a (A7 @AAD (A7 @A3b (A7 @AC0 (A7 @AC1 (A7 @dvS (A7 @AC3 (A7 @AC4 (A7 @A4S (A7 @A9F (A7 @A9G (A7 @A2P (A7 @A3v (A7 @zw (A7 @A3w (A7 @AAc (A7 @bkK (A7 @A4G (A7 (A7 @A0A @ABK) (A7 @A1u (A7 @A1v (A7 @A8z (A7 @A90 (A7 @A91 (A7 @ndK (A7 @A9S (A7 @A2c (A7 @apK (A7 @A3V (A7 @AA5 (A7 @AA6 (A7 @dl2 (A7 @dl1 (A7 @A4K (A7 @ABT (A7 @ABU (A7 @ABL (A7 @ABM (A7 @A4H (A7 @ABN (A7 (A7 @ABO (A7 @ABP @ABQ)) (A7 @rg2 (A7 @rg3 (A7 @rg4 (A7 @A4I (A7 @ABR (A7 @A4J (A7 @ABS (A7 @noA (A7 @ABV (A7 @ABW (A7 @A0B (A7 @ABX (A7 @A4M (A7 @A4N (A7 @ABa (A7 @ABb (A7 @ABd (A7 @ABe (A7 @bnN (A7 @bnS (A7 @ABh (A7 @slT (A7 @ABi (A7 @ABj (A7 @ABk (A7 @ABm (A7 @A3x (A7 @bkT (A7 @bkF (A7 @bkL (A7 @A3y (A7 @zx (A7 @ieC (A7 @fiA (A7 @fiB (A7 @fiC (A7 @zt (A7 @AAX (A7 @A9z (A7 @AA0 (A7 @hdC (A7 @AAA (A7 @AAB (A7 @mvT (A7 @zz (A7 @nk (A7 @A40 (A7 @A00 (A7 @A41 (A7 @AAf (A7 @jo (A7 @A01 (A7 @nu (A7 @A02 (A7 @ny (A7 @A42 (A7 @AAg (A7 @AAh (A7 @AAi (A7 @A03 (A7 @pmR (A7 @pmW (A7 @A94 (A7 @A2A (A7 @A96 (A7 @A8u (A7 @A8v (A7 @A8w (A7 @ABB (A7 @AB7 (A7 @AB6 (A7 @AB8 (A7 @AB4 (A7 (A7 @ABF @yMk) (A7 (A7 @A4F @ABG) (A7 @ABH (A7 @A4A (A7 @A4B (A7 @yn (A7 @yo (A7 @nR (A7 @yt (A7 @A2E (A7 @zF (A7 @A9A (A7 @nV (A7 @A2F (A7 @A9C (A7 @A2G (A7 @A2H (A7 @A2I (A7 @zG (A7 @A2J (A7 @A2K (A7 @A2L (A7 @zH (A7 @A9D (A7 @A2M (A7 @A2N (A7 @A2O (A7 @A2Q (A7 @pkB (A7 @pkT (A7 @pkF (A7 @A1r (A7 @A1s (A7 @A1t (A7 @A9Q (A7 @A2b (A7 @A9T (A7 @A9U (A7 @A9W (A7 @A2R (A7 @A2S (A7 @A2T (A7 @A2U (A7 @A9H (A7 @A9I (A7 @A9J (A7 @A9K (A7 @A9L (A7 @A9M (A7 @A2V (A7 @A2W (A7 @boI (A7 @boB (A7 @boA (A7 @zI (A7 @A2X (A7 @A2Y (A7 @ldC (A7 @A9Z (A7 @ldP (A7 @ldB (A7 @A9a (A7 @A2h (A7 @A2j (A7 @zO (A7 @zP (A7 @A2k (A7 @A9b (A7 @A2l (A7 @A9c (A7 @A2n (A7 @A2o (A7 @lnT (A7 @A9g (A7 @A30 (A7 @ixT (A7 @A9i (A7 @A9k (A7 @A32 (A7 @tkC (A7 @A37 (A7 @zV (A7 @A9o (A7 @A38 (A7 @A39 (A7 @A9p (A7 @A3A (A7 @A33 (A7 @A34 (A7 @A9l (A7 @A9m (A7 @A9n (A7 @zU (A7 @ng (A7 @zW (A7 @bY (A7 @hoI (A7 @hoB (A7 @A3B (A7 @A3C (A7 @A3D (A7 @A9q (A7 @A3E (A7 @A3F (A7 @A9s (A7 @A3G (A7 @A9t (A7 @A9u (A7 @A3H (A7 @A3I (A7 @A3J (A7 @A3K (A7 @A3L (A7 @A3M (A7 @zX (A7 @AA1 (A7 @A3N (A7 @A3O (A7 @A3P (A7 @A3Q (A7 @A3R (A7 @A3S (A7 @ceS (A7 (A7 @za @AA2) (A7 @AA3 (A7 @AA8 (A7 @AA9 (A7 @zb (A7 @ze (A7 @A3W (A7 @A3X (A7 @arC (A7 @arF (A7 @aCS (A7 @A3c (A7 @zg (A7 @AAE (A7 @A3d (A7 @atK (A7 @A3e (A7 @AAI (A7 @A3f (A7 @A3g (A7 @AAF (A7 @AAH (A7 @AAJ (A7 @AAK (A7 @zh (A7 @A3h (A7 @zi (A7 @A3i (A7 @AAL (A7 @A3j (A7 @AAM (A7 @cdB (A7 @AAN (A7 @AAO (A7 @AAP (A7 @cdL (A7 @AAR (A7 @AAS (A7 @A3k (A7 @zm (A7 @A3l (A7 @A3m (A7 @A3n (A7 @zn (A7 @ni (A7 @A3o (A7 @zo (A7 @AAT (A7 @A3p (A7 @AAU (A7 @qY (A7 @A3q (A7 @A3r (A7 @zq (A7 @AAV (A7 @bZ (A7 @AAW (A7 @fiD (A7 @fi0 (A7 @re1 (A7 @re2 (A7 @AAY (A7 @A3s (A7 @A3t (A7 @AAZ (A7 @zu (A7 @AAa (A7 @AAb (A7 @A3u (A7 @A3z (A7 @zy (A7 @AAe (A7 @A1w (A7 @A1z (A7 @yu (A7 @A22 (A7 @A1x (A7 @A20 (A7 @yw (A7 @A23 (A7 @A1y (A7 @A21 (A7 @yx (A7 @A24 (A7 @fw (A7 @gB (A7 @A25 (A7 @gD (A7 @jf (A7 @nS (A7 @nT (A7 @nU (A7 @geq (A7 @Int.toNat_natCast (A7 @Int.toNat_zero (A7 @Int.natCast_nonneg (A7 @Nat.zero_le (A7 @Int.le_refl (A7 @Nat.le_refl (A7 @Bool.and_true (A7 @Bool.true_and (A7 @Bool.and_false (A7 @Bool.false_and (A7 @Bool.or_false (A7 @Bool.false_or (A7 @Bool.or_true (A7 @Bool.true_or (A7 @Bool.not_true (A7 @Bool.not_false (A7 @Bool.false_eq_true (A7 @decide_true (A7 @decide_false (A7 @and_self (A7 @and_true (@true_and)))))))))))))))))))))))))))))))))))))))))))))))))))))))))))))))))))))))))))))))))))))))))))))))))))))))))))))))))))))))))))))))))))))))))))))))))))))))))))))))))))))))))))))))))))))))))))))))))))))))))))))))))))))))))))))))))))))))))))))))))))))))))))))))))))))))))))))))))))))))))))))))))))))))))))))))))))))))))))))))))))))))))))))))))))))))))))))))))))))))))))))))))))))))))))))))))))))))))))))))))
end Dv
