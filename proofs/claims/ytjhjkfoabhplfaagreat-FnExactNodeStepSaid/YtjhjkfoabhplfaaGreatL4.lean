/- Value semantics for Go code, part 4: arguments of laws, slim code and rules. Conditions: none beyond those in each lemma. -/
import Derived.Test.YtjhjkfoabhplfaaGreatL3
import Derived.WalkKit
import Derived.ProofKit
import Derived.OpenShut
import Derived.ShutString
import Derived.ChangeOld
import Derived.Below
import Derived.Carry
import Derived.IntWalk
set_option linter.unusedSimpArgs false
set_option linter.unusedVariables false
namespace Dv
open Go
inductive Shp(T:Tys):TypeId→List D→Prop
 | int {t k n} (ht:T.ty t= .int k) (hw:(Lit.int k n).wf=true):Shp T t [.int k n]
 | bool {t b} (ht:T.ty t= .bool):Shp T t [.bool b]
 | string {t s} (ht:T.ty t= .string) (hs:s.size≤maxLen):Shp T t [.str s]
 | slice {t e} {xss:List (List D)} (ht:T.ty t= .slice e) (hx: ∀xs,xs∈xss→Shp T e xs) (hl:xss.length≤maxLen):Shp T t [.sl e xss.flatten]
 | struct {t fs} {ds:List D} (ht:T.ty t= .struct fs) (hl:ds.length=fs.length) (hx: ∀(i:Nat) (f:TypeId) (d:D),fs[i]? =some f→ds[i]? =some d→Shp T f [d]):Shp T t ds
def U0(T:Tys):Nat→TypeId→Bool
 | 0,_=>false
 | n+1,t=>match T.ty t with
  | .int _=>true
  | .bool=>true
  | .string=>true
  | .slice e=>T.known e&&U0 T n e
  | .struct fs=>(T.nest t).isNone&& !fs.isEmpty&&fs.all (U0 T n)
  | _=>false
theorem Shp.length{T:Tys}{t:TypeId}{ds:List D}(h:Shp T t ds):ds.length=T.size t:=by
 cases h with
 | int ht=>simp [Tys.size,ht,Ty.size]
 | bool ht=>simp [Tys.size,ht,Ty.size]
 | string ht=>simp [Tys.size,ht,Ty.size]
 | slice ht=>simp [Tys.size,ht,Ty.size]
 | struct ht hl=>simp [Tys.size,ht,Ty.size,hl]
theorem jB{α:Type}{n:Nat}(hn:0<n): ∀(xss:List (List α)),(∀xs∈xss,xs.length=n)→ ∀k:Nat,xss.flatten[k]? =(xss[k / n]?).bind fun xs=>xs[k % n]? :=by
 intro xss
 induction xss with
 | nil=>intro _ k;simp
 | cons xs xss ih=>
  intro h k;have hx:=h xs (Iu);rw [ku];rcases Nat.lt_or_ge k n with hk | hk
  ·rw [Oy (by omega),Nat.div_eq_of_lt hk,Nat.mod_eq_of_lt hk];rfl
  ·rw [QU (by omega),ih (fun ys hy=>h ys (Jp _ hy)),hx]
   have h1:k / n=(k-n) / n+1:=by
    rw [Nat.div_eq_sub_div hn hk]
   have h2:k % n=(k-n) % n:=by rw [Nat.mod_eq_sub_mod hk]
   rw [h1,h2];rfl
theorem Xg{α:Type}{n:Nat}: ∀(xss:List (List α)),(∀xs∈xss,xs.length=n)→xss.flatten.length=xss.length*n:=by
 intro xss
 induction xss with
 | nil=>intro _;simp
 | cons xs xss ih=>
  intro h;rw [ku,Jq,ih (fun ys hy=>h ys (Jp _ hy)),h xs (Iu),Ik,Nat.add_mul];omega
abbrev og(w:World):Nat→Prop:=fun k=>k<w.heap.size
section
variable {P:Program} {T:Tys} {H:Type} {Bo:TypeId×Value→H} {w:World} {spare:Nat→Bool} {MX:Bool}
theorem Br.cells(h:Br P T){t:TypeId}(hk:T.known t=true):P.cellsOf t=T.size t:=by
 obtain⟨i,h1,h2,_⟩:=h.info hk;simp [Program.cellsOf,h1,h2]
theorem mK{n:Nat}{t:TypeId}(h:U0 T n t=true):T.known t=true:=by
 cases n with
 | zero=>cases h
 | succ n=>
  unfold U0 at h;unfold Tys.known
  cases ht:T.ty t with
  | struct fs=>
   rw [ht]at h
   cases fs with
   | nil=>simp at h
   | cons=>rfl
  | other=>rw [ht]at h;cases h
  | map=>rw [ht]at h;cases h
  | _=>rfl
theorem jC{t:TypeId}(hk:T.known t=true):0<T.size t:=by
 unfold Tys.known at hk;unfold Tys.size
 cases ht:T.ty t with
 | struct fs=>
  rw [ht]at hk
  cases fs with
  | nil=>cases hk
  | cons=>simp [Ty.size]
 | _=>simp [Ty.size]
theorem mM{base:Nat}{a:Addr}{n:Nat}{cs:List Value}(h:w.cells? base a n=some cs):cs.length=n∧ ∀i,i<n→w.cell? (a.add i)=cs[i]? :=by
 unfold World.cells? at h
 split at h
 ·exact⟨by simpa using mapM_some_length h,fun i hi=>by have:=mapM_some_get h i i (by simp [hi]);simpa using this⟩
 ·cases h
theorem zi{ad:Addr}{v:Value}(h:w.cell? ad=some v):ad.block<w.heap.size:=by
 rcases Nat.lt_or_ge ad.block w.heap.size with hl | hl
 ·exact hl
 ·have h1:=Qd hl;simp [World.cell?,h1]at h
theorem vS(hT:Br P T): ∀(fuel:Nat) (n:Nat) (t:TypeId) (cs:List Value) (x:DataW H×List MemPlace),U0 T n t=true→DataW.trod Bo P w 0 spare MX fuel t cs=some x→
  ∃ds,Shp T t ds∧cs.length=ds.length∧ ∀(i:Nat) (d:D),ds[i]? =some d→ ∃v,cs[i]? =some v∧W T (og w) w V0 Iy d v (fun _=>False):=by
 have hE:Em (fun _:Nat=>False):=fun _ h=>h
 have one: ∀(d0:D) (v0:Value),W T (og w) w V0 Iy d0 v0 (fun _=>False)→ ∀(i:Nat) (d:D),[d0][i]? =some d→ ∃v,[v0][i]? =some v∧W T (og w) w V0 Iy d v (fun _=>False):=by
  intro d0 v0 h i d hi
  cases i with
  | zero=>simp at hi;subst hi;exact⟨v0,rfl,h⟩
  | succ i=>simp at hi
 intro fuel
 induction fuel with
 | zero=>intro n t cs x _ h;simp [DataW.trod]at h
 | succ fuel ih=>
  intro n t cs x hd h;have hk:=mK hd;have h0:=(hT t).1;unfold GY at h0
  cases n with
  | zero=>cases hd
  | succ n=>
   unfold U0 at hd
   cases ht:T.ty t<;>rw [ht]at h0 hd<;>simp only at h0 hd
   case int k=>
    obtain⟨m,rfl,_,hw⟩:=DataW.trod_int h0.1 h
    exact⟨[.int k m],.int ht hw,rfl,one _ _ (.int hE)⟩
   case bool=>
    obtain⟨b,rfl,_⟩:=DataW.trod_bool h0.1 h
    exact⟨[.bool b],.bool ht,rfl,one _ _ (.bool hE)⟩
   case string=>
    obtain⟨s,rfl,_,hs⟩:=DataW.trod_string h0.1 h
    exact⟨[.str s],.string ht hs,rfl,one _ _ (.str hE)⟩
   case slice e=>
    simp only [JM]at hd;have hc:=hT.cells hd.1;have hpos:=jC hd.1;rcases DataW.trod_slice h0.1 h with⟨rfl,_⟩ | ⟨a,len,cap,elems,rest,m,hm,rfl,_,_,hl,hcap,hlen,hel,_,_⟩
    ·exact⟨[.sl e ([]:List (List D)).flatten],.slice ht (by simp) (by simp [maxLen]),rfl,one _ _ (.sl (fun _=>undef) hE (by simp) (IB _) (by simp [maxLen]) (by simp) (by simp))⟩
    ·injection hm with hm
     subst hm
     have hex: ∀i,i<len→ ∃ds,Shp T e ds∧ ∀(j:Nat) (d:D),ds[j]? =some d→ ∃v,w.cell? (a.add (i*T.size e+j))=some v∧W T (og w) w V0 Iy d v (fun _=>False):=by
      intro i hi;have h1:=hel i hi;rw [FV (by omega),IL]at h1
      obtain⟨cs',h2,h3⟩:=h1;obtain⟨ds,q1,q2,q3⟩:=ih n e cs' _ hd.2 h3
      refine⟨ds,q1,fun j d hj=> ?_⟩
      obtain⟨v,hv,hW⟩:=q3 j d hj;obtain⟨c1,c2⟩:=mM h2;rw [hc]at c1 c2;have hj':j<T.size e:=by rw [←c1];exact(Ec.1 hv).1
      have h4:=c2 j hj';rw [M9]at h4
      exact⟨v,by rw [h4,hv],hW⟩
     let ch:Nat→List D:=fun i=>if h:i<len then(hex i h).choose else []
     have hch: ∀i,i<len→Shp T e (ch i)∧ ∀(j:Nat) (d:D),(ch i)[j]? =some d→ ∃v,w.cell? (a.add (i*T.size e+j))=some v∧W T (og w) w V0 Iy d v (fun _=>False):=by
      intro i hi;have:=(hex i hi).choose_spec
      simp only [ch,hi,dif_pos];exact this
     have hall: ∀xs∈(List.range len).map ch,xs.length=T.size e:=by
      intro xs hxs;obtain⟨i,hi,rfl⟩:=GV.1 hxs
      exact(hch i (Mx.1 hi)).1.length
     refine⟨[.sl e ((List.range len).map ch).flatten],.slice ht (fun xs hxs=> ?_) (by simp;omega),rfl,one _ _ ?_⟩
     ·obtain⟨i,hi,rfl⟩:=GV.1 hxs
      exact(hch i (Mx.1 hi)).1
     ·have key: ∀(i:Nat) (x:D),((List.range len).map ch).flatten[i]? =some x→ ∃v,w.cell? (a.add i)=some v∧W T (og w) w V0 Iy x v (fun _=>False):=by
       intro i x hi;rw [jB hpos _ hall,IL]at hi;obtain⟨xs,h1,h2⟩:=hi;rw [NE,Cr]at h1;obtain⟨q,hq,rfl⟩:=h1;obtain⟨hq1,hq2⟩:=Ec.1 hq;simp only [kr]at hq2;subst hq2;obtain⟨v,hv,hW⟩:=(hch _ (by simpa using hq1)).2 _ x h2
       rw [show i / T.size e*T.size e+i % T.size e=i by rw [Nat.mul_comm];exact Nat.div_add_mod i (T.size e)]at hv
       exact⟨v,hv,hW⟩
      refine .sl (fun i=>(w.cell? (a.add i)).getD undef) hE (by rw [Xg _ hall];simp) hl hcap (fun i x hi=> ?_) (fun i x hi=> ?_)
      ·obtain⟨v,hv,_⟩:=key i x hi
       exact⟨a,rfl,by have:=zi hv;rw [PD]at this;exact this,by rw [hv];rfl⟩
      ·obtain⟨v,hv,hW⟩:=key i x hi;simp only [hv,Wq];exact hW
   case struct fs=>
    simp only [JM,Iw,uK]at hd;obtain⟨⟨fields,hu,hfx⟩,hinfo⟩:=h0;rw [hd.1.1]at hfx;obtain⟨hfl,hfi⟩:=hfx;obtain⟨xs,m,hm,_,hcl,hxl,hx⟩:=DataW.trod_struct hu h
    injection hm with hm
    subst hm;rw [hT.cells hk]at hcl;have hsz:T.size t=fs.length:=by simp [Tys.size,ht,Ty.size]
    have hex: ∀i,i<fs.length→ ∃d f,fs[i]? =some f∧Shp T f [d]∧ ∃v,cs[i]? =some v∧W T (og w) w V0 Iy d v (fun _=>False):=by
     intro i hi;have hif:i<fields.size:=by omega
     obtain⟨f1,f2,f3,f4⟩:=hfi i _ (Kv hif);have h1:=hx i _ (Kv hif)
     have hs1:T.size fields[i].type=1:=by
      unfold Tys.isStruct at f4;unfold Tys.size
      cases hty:T.ty fields[i].type<;>simp_all [Ty.isStruct,Ty.size]
     rw [f1,hT.cells f3,hs1,FV (by omega)]at h1
     obtain⟨ds,q1,q2,q3⟩:=ih n _ _ _ (hd.2 _ (Ym f2)) h1;have hl1:ds.length=1:=by rw [q1.length,hs1]
     obtain⟨d,rfl⟩:=List.length_eq_one_iff.1 hl1;obtain⟨v,hv,hW⟩:=q3 0 d rfl
     refine⟨d,_,f2,q1,v, ?_,hW⟩
     rw [List.getElem?_take]at hv;simp only [Nat.zero_lt_one,if_true,Rx,Nat.add_zero]at hv;exact hv
    let ch:Nat→D:=fun i=>if h:i<fs.length then(hex i h).choose else .undef
    have hch: ∀i,i<fs.length→ ∃f,fs[i]? =some f∧Shp T f [ch i]∧ ∃v,cs[i]? =some v∧W T (og w) w V0 Iy (ch i) v (fun _=>False):=by
     intro i hi;have:=(hex i hi).choose_spec
     simp only [ch,hi,dif_pos];exact this
    have hget: ∀(i:Nat) (d:D),((List.range fs.length).map ch)[i]? =some d→i<fs.length∧d=ch i:=by
     intro i d hi;rw [NE,Cr]at hi;obtain⟨q,hq,rfl⟩:=hi;obtain⟨hq1,hq2⟩:=Ec.1 hq;simp only [kr]at hq2;subst hq2
     exact⟨by simpa using hq1,rfl⟩
    refine⟨(List.range fs.length).map ch,.struct ht (by simp) (fun i f d hf hi=> ?_),by simp;omega,fun i d hi=> ?_⟩
    ·obtain⟨h1,rfl⟩:=hget i d hi;obtain⟨f',hf',hs,_⟩:=hch i h1;rw [hf]at hf';injection hf' with hf';subst hf';exact hs
    ·obtain⟨h1,rfl⟩:=hget i d hi;obtain⟨f',hf',hs,v,hv,hW⟩:=hch i h1
     exact⟨v,hv,hW⟩
   all_goals (cases hd)
def top(T:Tys)(t:TypeId)(ds:List D):D:=if T.isStruct t then .agg ds else ds.headD .undef
def Arg(T:Tys)(t:TypeId)(d:D):Prop:= ∃ds,Shp T t ds∧d=top T t ds
theorem A6e(hT:Br P T){r:Reach}{base n:Nat}{t:TypeId}{v:Value}{d0:DataW H}{ps:List MemPlace}(hd:U0 T n t=true)(hv:Value.okWide P w r base t v)(h:DataW.Trod Bo P w 0 spare MX t v d0 ps):
  ∃d,Arg T t d∧W T (og w) w V0 Iy d v (fun _=>False):=by
 obtain⟨fuel,hf⟩:=h;obtain⟨ds,q1,q2,q3⟩:=vS hT fuel n t _ _ hd hf;have hfact:=(hT t).1;unfold GY at hfact
 have flat:T.isStruct t=false→v.cells.toList=[v]→ ∃d,Arg T t d∧W T (og w) w V0 Iy d v (fun _=>False):=by
  intro hs hc;have hl:ds.length=1:=by rw [←q2,hc];rfl
  obtain⟨d,rfl⟩:=List.length_eq_one_iff.1 hl;obtain⟨v',hv',hW⟩:=q3 0 d rfl;rw [hc]at hv';simp only [Oz,Option.some.injEq]at hv';subst hv'
  exact⟨d,⟨[d],q1,by simp [top,hs]⟩,hW⟩
 cases n with
 | zero=>cases hd
 | succ n=>
  unfold U0 at hd
  cases ht:T.ty t<;>rw [ht]at hfact hd<;>simp only at hfact hd
  case int k=>
   refine flat (by simp [Tys.isStruct,ht,Ty.isStruct]) ?_
   simp only [Value.okWide,hfact.1,Cell.okWide]at hv
   cases v<;>simp_all [Cell.ok,Value.cells]
  case bool=>
   refine flat (by simp [Tys.isStruct,ht,Ty.isStruct]) ?_
   simp only [Value.okWide,hfact.1,Cell.okWide]at hv
   cases v<;>simp_all [Cell.ok,Value.cells]
  case string=>
   refine flat (by simp [Tys.isStruct,ht,Ty.isStruct]) ?_
   simp only [Value.okWide,hfact.1,Cell.okWide]at hv
   cases v<;>simp_all [Cell.ok,Value.cells]
  case slice e=>
   refine flat (by simp [Tys.isStruct,ht,Ty.isStruct]) ?_
   simp only [Value.okWide,hfact.1,Cell.okWide]at hv
   cases v<;>simp_all [Cell.ok,Value.cells]
  case struct fs=>
   obtain⟨⟨fields,hu,_⟩,_⟩:=hfact;obtain⟨cs,rfl,hcs⟩:=WideShapes.okWide_struct hu hv
   have hval: ∀(i:Nat) (d:D),ds[i]? =some d→cs[i]? =some (cs.getD i undef)∧W T (og w) w V0 Iy d (cs.getD i undef) (fun _=>False):=by
    intro i d hi;obtain⟨v,hv',hW⟩:=q3 i d hi;have:cs[i]? =some v:=by simpa [Value.cells] using hv'
    rw [Pw,this];exact⟨rfl,hW⟩
   refine⟨.agg ds,⟨ds,q1,by simp [top,Tys.isStruct,ht,Ty.isStruct]⟩,.agg (fun i=>cs.getD i undef) (fun _ _=>False) (by simpa [Value.cells] using q2) (fun i x hi=>(hval i x hi).1) (fun k=>⟨fun h=>h.elim,fun⟨_,_,h⟩=>h⟩) (fun _ _ _ _ _ _ h=>h.elim) (fun i x hi=>(hval i x hi).2)⟩
  all_goals (cases hd)
end
def A35(T:Tys):List TypeId→List D→Prop
 | [],[]=>True
 | t::ts,d::ds=>Arg T t d∧A35 T ts ds
 | _,_=>False
theorem args_W{P:Program}{T:Tys}{H:Type}{Bo:TypeId×Value→H}{w:World}{r:Reach}{base n:Nat}(hT:Br P T): ∀(ts:List TypeId) (vs:List Value) (d0:List (DataW H)) (ps:List MemPlace),ts.all (U0 T n)=true→
  (∀(j:Nat) (t:TypeId) (v:Value),ts[j]? =some t→vs[j]? =some v→Value.okWide P w r base t v)→DataW.TrodAll Bo P w 0 (fun _=>true) true ts vs d0 ps→
  ∃ds,A35 T ts ds∧vs.length=ds.length∧ ∀(i:Nat) (d:D),ds[i]? =some d→ ∃v,vs[i]? =some v∧W T (og w) w V0 Iy d v (fun _=>False):=by
 intro ts
 induction ts with
 | nil=>
  intro vs d0 ps _ _ h
  cases vs<;>cases d0<;>simp [DataW.TrodAll]at h
  exact⟨[],trivial,rfl,by simp⟩
 | cons t ts ih=>
  intro vs d0 ps hd hv h
  cases vs with
  | nil=>cases d0<;>simp [DataW.TrodAll]at h
  | cons v vs=>
   cases d0 with
   | nil=>simp [DataW.TrodAll]at h
   | cons d0 ds0=>
    simp only [DataW.TrodAll]at h;obtain⟨p,q,h1,h2,_⟩:=h;simp only [Ws,JM]at hd;obtain⟨d,ha,hW⟩:=A6e hT hd.1 (hv 0 t v rfl rfl) h1;obtain⟨ds,hb,hl,hWs⟩:=ih vs ds0 q hd.2 (fun j t' v' hj hj'=>hv (j+1) t' v' (by simpa using hj) (by simpa using hj')) h2
    refine⟨d::ds,⟨ha,hb⟩,by simp [hl],fun i x hi=> ?_⟩
    cases i with
    | zero=>simp at hi;subst hi;exact⟨v,rfl,hW⟩
    | succ i=>simpa using hWs i x (by simpa using hi)
theorem law_calls{Y:Sys}(hY:Y.Ok){f:FuncId}{ds:List D}(hc:Y.call f ds []=some (.bool true,[])){vs:Array Value}{w:World}(hl:vs.size=ds.length)
  (hW: ∀(i:Nat) (d:D),ds[i]? =some d→ ∃v,vs[i]? =some v∧W Y.T (og w) w V0 Iy d v (fun _=>False)):
  Calls Y.P f vs w fun e w'=>e= .returned (.bool true)∧RowKit.Below w.heap.size w w':=by
 have hg:=Sys.call_good hY hc;refine Calls.mono (hg.2 vs (fun _=>undef) w (og w) (fun _ _=>False) hl (fun i d hi=> ?_) (fun j d hj=>by simp at hj) (fun _ _ _ h=>h) (fun _ _ _ _ h=>h.elim) (fun _ h=>h)) ?_
 ·obtain⟨v,hv,hWv⟩:=hW i d hi
  exact⟨v,hv,hWv.up⟩
 ·intro e w' he
  cases e with
  | returned v=>
   obtain⟨S',F,FL',h1,_,_,_,hst,_,_⟩:=he
   cases h1 with
   | bool=>exact⟨rfl,hst.os,hst.tape,hst.output,hst.size,fun k hk=>hst.heap k hk (fun _ h=>h)⟩
  | panicked=>exact he.elim
  | outgrown=>exact he.elim
theorem trodAll_below{H:Type}{Bo:TypeId×Value→H}{P:Program}(hl:laidOutB P=true){W W':World}(hb:RowKit.Below W.heap.size W W'): ∀ {ts:List TypeId} {vs:List Value} {ds:List (DataW H)} {ps:List MemPlace},
  ts.all (fun t=>P.readableRec t&&decide (t<P.types.size))=true→DataW.TrodAll Bo P W 0 (fun _=>true) true ts vs ds ps→DataW.TrodAll Bo P W' 0 (fun b=>decide (b<W.heap.size)) true ts vs ds ps:=by
 intro ts
 induction ts with
 | nil=>
  intro vs ds ps _ h
  cases vs<;>cases ds<;>simp [DataW.TrodAll]at h ⊢
  exact h
 | cons t ts ih=>
  intro vs ds ps hr h
  cases vs with
  | nil=>cases ds<;>simp [DataW.TrodAll]at h
  | cons v vs=>
   cases ds with
   | nil=>simp [DataW.TrodAll]at h
   | cons d ds=>
    simp only [DataW.TrodAll]at h ⊢;obtain⟨p,q,h1,h2,h3⟩:=h;simp only [Ws,JM,decide_eq_true_eq]at hr;have lt0: ∀x∈p,x.block<W.heap.size:=by obtain⟨m,hm⟩:=h1;exact DataW.trod_lt m _ _ _ hm
    exact⟨p,q,RowKit.Below.trod hl hr.1.1 hr.1.2 h1 hb lt0,ih (by simpa using hr.2) h2,h3⟩
end Dv
namespace Dv
open Go
theorem nr{α:Type}{a b:α}(h:a=b):a=b:=h
structure SOp where
 dst:Option Tmp
 op:Op
 type:TypeId
 guard:Option (Option Tmp×Bool)
structure PmL where
 n:List Nat
 r:List Nat
 w:List Nat
def PmL.pm(l:PmL):Pm:=⟨fun r=>l.n.contains r|| !l.r.contains r,fun r=>l.w.contains r⟩
inductive SC where
 | skip
 | ops (l:List SOp)
 | draws (l:List (PmL×SOp))
 | seq (a b:SC)
 | cond (c:Operand) (a b:SC)
 | block (id:Nat) (c:SC)
 | loop (c:SC)
 | exit (id:Nat)
 | ret
 | bad
abbrev tK(u:Nat):Operand:= .tmp u
abbrev iK(n:Int):Operand:= .const (.int .i64 n)
abbrev oX(d:Nat)(p:Op)(y:TypeId):SOp:=⟨some d,p,y,none⟩
abbrev oM(d u:Nat)(y:TypeId):SOp:=⟨some d,.move (.tmp u),y,none⟩
abbrev oA(d u:Nat)(y:TypeId):SOp:=⟨some d,.assign (.tmp u),y,none⟩
abbrev oL(d:Nat)(t:TypeId)(u:Nat)(y:TypeId):SOp:=⟨some d,.load t (.tmp u),y,none⟩
abbrev oI(d:Nat)(t:TypeId)(u v:Nat):SOp:=⟨some d,.indexAddr t (.tmp u) (.tmp v),0,none⟩
abbrev oN(d u:Nat)(t:TypeId):SOp:=⟨some d,.call ⟨.builtin .len, #[.tmp u], #[t]⟩,3,none⟩
abbrev oC(d f:Nat)(a:List Operand)(t:List TypeId)(y:TypeId):SOp:=⟨some d,.call ⟨.value (.func f),a.toArray,t.toArray⟩,y,none⟩
abbrev oS(t:TypeId)(a u:Nat):SOp:=⟨none,.store t (.tmp a) (.tmp u),0,none⟩
abbrev oF(d:Nat)(t:TypeId)(u i:Nat):SOp:=⟨some d,.fieldAddr t (.tmp u) i,0,none⟩
abbrev oE(d u i:Nat)(y:TypeId):SOp:=⟨some d,.extract (.tmp u) i,y,none⟩
abbrev oB(d:Nat)(o:BinOp)(t:TypeId)(a b:Operand)(r y:TypeId):SOp:=⟨some d,.binOp o t a b r,y,none⟩
def Su(ops:Array Oper)(o:Oper):SOp:=⟨o.dst,o.op,o.type,match o.guard with | none=>none | some (j,b)=>some ((ops[j]?).bind (·.dst),b)⟩
def BP(lends:FuncId→Bool):Code→SC
 | .skip=> .skip
 | .region _ ops draw=>
  if draw then
   (if Qo lends ops.toList then .draws (ops.toList.map fun o=>(⟨Hd ops.toList o,ops.toList.flatMap (Ej lends ops.toList),Ej lends ops.toList o⟩,Su ops (X4 lends ops.toList o)))else .bad)
  else .ops (ops.toList.map fun o=>Su ops (tag lends ops.toList o))
 | .seq a b=> .seq (BP lends a) (BP lends b)
 | .cond c a b=> .cond c (BP lends a) (BP lends b)
 | .block id c=> .block id (BP lends c)
 | .loop c=> .loop (BP lends c)
 | .exit id=> .exit id
 | .ret=> .ret
 | _=> .bad
def OL(E:Env)(pm:Pm)(s:St)(dst:Option Tmp)(op:Op)(type:TypeId):Option St:=zH E pm s ⟨dst,op,type, "", #[],none⟩
def SV(E:Env)(pm:Pm)(s:St)(o:SOp):Option St:=
 match o.guard with
 | none=>OL E pm s o.dst o.op o.type
 | some (none,_)=>some (s.putO o.dst (.konst undef))
 | some (some t,b)=>
  match s.v t with
  | .bool b'=>if b'==b then OL E pm s o.dst o.op o.type else some (s.putO o.dst (.konst undef))
  | .konst (.tuple _)=>some (s.putO o.dst (.konst undef))
  | _=>none
def vT(E:Env):List SOp→St→Option St
 | [],s=>some s
 | o::l,s=>(SV E Pm.all s o).bind fun s'=>vT E l s'
def J7(pm:Pm)(s:St)(op:Op):Bool:=
 match op with
 | .move (.tmp u)=> !(s.v u).hasObj||(s.v u).isObj||pm.wr u
 | _=>true
def jD(E:Env):List (PmL×SOp)→St→Option St
 | [],s=>some s
 | (p,o)::l,s=>if J7 p.pm s o.op then(SV E p.pm s o).bind fun s'=>jD E l s' else none
noncomputable def EW(E:Env):SC→St→Option (Ex×St)
 | .skip,s=>some (.normal,s)
 | .ops l,s=>(vT E l s).map fun s'=>(.normal,s')
 | .draws l,s=>(jD E l s).map fun s'=>(.normal,s')
 | .seq a b,s=>
  match EW E a s with
  | some (.normal,s')=>EW E b s'
  | r=>r
 | .cond c a b,s=>
  match ev E.T s 0 c with
  | some (.bool t)=>if t then EW E a s else EW E b s
  | _=>none
 | .block id c,s=>
  match EW E c s with
  | some (.exit j,s')=>if j=id then some (.normal,s')else some (.exit j,s')
  | r=>r
 | .loop c,s=>X5 (EW E c) s
 | .exit id,s=>some (.exit id,s)
 | .ret,s=>some (.ret,s)
 | .bad,_=>none
theorem jE(E:Env)(ops:Array Oper)(pm:Pm)(s:St)(o:Oper):SV E pm s (Su ops o)=L8 E ops pm s o:=by
 obtain⟨dst,op,type,pos,after,guard⟩:=o;unfold SV L8 P7 Su
 cases guard with
 | none=>rfl
 | some g=>
  obtain⟨j,b⟩:=g;simp only
  cases (ops[j]?).bind (·.dst)with
  | none=>rfl
  | some t=>
   simp only
   cases hv:s.v t with
   | bool b'=>simp only;cases hb:(b'==b)<;>simp<;>rfl
   | konst v=>cases v<;>rfl
   | _=>rfl
theorem zk(E:Env)(ops:Array Oper): ∀(l:List Oper) (s:St),vT E (l.map fun o=>Su ops (tag E.lends ops.toList o)) s=Yr E ops s l:=by
 intro l
 induction l with
 | nil=>intro s;rfl
 | cons o l ih=>
  intro s;simp only [QW,vT,Yr,jE]
  cases L8 E ops Pm.all s (tag E.lends ops.toList o)with
  | none=>rfl
  | some s'=>simp only [CO];exact ih s'
theorem vU(E:Env)(ops:Array Oper)(l0:List Oper): ∀(l:List Oper) (s:St),
  jD E (l.map fun o=>(⟨Hd l0 o,l0.flatMap (Ej E.lends l0),Ej E.lends l0 o⟩,Su ops (X4 E.lends ops.toList o))) s=SN E ops l0 s l:=by
 intro l
 induction l with
 | nil=>intro s;rfl
 | cons o l ih=>
  intro s;simp only [QW,jD,SN,jE];have h1:(PmL.mk (Hd l0 o) (l0.flatMap (Ej E.lends l0)) (Ej E.lends l0 o)).pm=K3 E.lends l0 o:=nr rfl;have h2:J7 (K3 E.lends l0 o) s (Su ops (X4 E.lends ops.toList o)).op=l6 (K3 E.lends l0 o) s o:=nr rfl;rw [h1,h2];split
  ·cases L8 E ops (K3 E.lends l0 o) s (X4 E.lends ops.toList o)with
   | none=>rfl
   | some s'=>simp only [CO];exact ih s'
  ·rfl
theorem vV(E:Env): ∀(c:Code),EW E (BP E.lends c)=ET E c:=by
 intro c
 induction c with
 | skip=>rfl
 | region id ops draw=>
  funext s
  simp only [BP,ET]
  cases draw with
  | true=>
   simp only [if_true];split
   ·simp only [EW];rw [vU]
   ·rfl
  | false=>simp only [Mw,if_false,EW];rw [zk]
 | seq a b iha ihb=>funext s;simp only [BP,EW,ET,iha,ihb];rfl
 | cond x a b iha ihb=>funext s;simp only [BP,EW,ET,iha,ihb];rfl
 | block id c ih=>funext s;simp only [BP,EW,ET,ih];rfl
 | loop c ih=>funext s;simp only [BP,EW,ET,ih]
 | exit id=>rfl
 | ret=>rfl
 | rangeFunc=>rfl
 | scope=>rfl
 | label=>rfl
 | goto=>rfl
 | refuse=>rfl
def BZ(E:Env)(c:SC)(Q:Ex→St→Prop)(s:St):Prop:= ∃ex s',EW E c s=some (ex,s')∧Q ex s'
section
variable {E:Env} {Q:Ex→St→Prop} {s:St}
def jF(E:Env)(b:SC)(Q:Ex→St→Prop):Ex→St→Prop
 | .normal,s=>BZ E b Q s
 | ex,s=>Q ex s
def inBlock(id:Nat)(Q:Ex→St→Prop):Ex→St→Prop
 | .exit j,s=>if j=id then Q .normal s else Q (.exit j) s
 | ex,s=>Q ex s
theorem A36{a b:SC}(h:BZ E a (jF E b Q) s):BZ E (.seq a b) Q s:=by
 obtain⟨ex,s1,h1,h2⟩:=h
 cases ex with
 | normal=>
  obtain⟨ex',s2,h3,h4⟩:=h2
  exact⟨ex',s2,by simp [EW,h1,h3],h4⟩
 | exit id=>exact⟨_,s1,by simp [EW,h1],h2⟩
 | ret=>exact⟨_,s1,by simp [EW,h1],h2⟩
theorem vW{id:Nat}{c:SC}(h:BZ E c (inBlock id Q) s):BZ E (.block id c) Q s:=by
 obtain⟨ex,s1,h1,h2⟩:=h
 cases ex with
 | normal=>exact⟨_,s1,by simp [EW,h1],h2⟩
 | exit j=>
  simp only [inBlock]at h2;by_cases hj:j=id
  ·subst hj;rw [if_pos rfl]at h2;exact⟨.normal,s1,by simp [EW,h1],h2⟩
  ·rw [if_neg hj]at h2;exact⟨_,s1,by simp [EW,h1,hj],h2⟩
 | ret=>exact⟨_,s1,by simp [EW,h1],h2⟩
theorem AY{c:SC}{Q':Ex→St→Prop}(h:BZ E c Q s)(hq: ∀ex s,Q ex s→Q' ex s):BZ E c Q' s:=by
 obtain⟨ex,s1,h1,h2⟩:=h;exact⟨ex,s1,h1,hq _ _ h2⟩
end
def Eh(T:Tys)(n:Nat)(rs:List ResultVar)(r:D×List D):Ex→St→Prop
 | .normal,s=>Yt T n rs s=some r
 | .ret,s=>Yt T n rs s=some r
 | .exit _,_=>False
theorem Sys.call_wp{Y:Sys}{f:FuncId}{fn:Func}{c:Code}{k:SC}{a l:List D}{r:D×List D}(hb:Y.base f a l=none)(hf:Y.P.funcs[f]? =some fn)(hok:Be fn a.length=true)
  (hbody:fn.body=some c)(hk:BP Y.lends c=k)(h:BZ Y.env k (Eh Y.T l.length fn.results.toList r) (entry a l)):Y.call f a l=some r:=by
 refine Sys.call_run hb hf hok ?_;obtain⟨ex,s1,h1,h2⟩:=h;unfold gq;rw [←hk]at h1;have h3:EW Y.env (BP Y.env.lends c)=ET Y.env c:=vV Y.env c;have h4:ET Y.env c (entry a l)=some (ex,s1):=by rw [←h3];exact h1
 rw [hbody];simp only [h4]
 cases ex with
 | normal=>exact h2
 | ret=>exact h2
 | exit id=>exact h2.elim
section
variable (E:Env) (pm:Pm) (s:St) (dst:Option Tmp) (ty:TypeId)
theorem mO(op:Op):SV E pm s ⟨dst,op,ty,none⟩=OL E pm s dst op ty:=nr rfl
def grd(E:Env)(pm:Pm)(s:St)(dst:Option Tmp)(op:Op)(ty:TypeId)(b:Bool)(d:D):Option St:=
 match d with
 | .bool b'=>if b'==b then OL E pm s dst op ty else some (s.putO dst (.konst undef))
 | .konst (.tuple _)=>some (s.putO dst (.konst undef))
 | _=>none
theorem jG(op:Op)(t:Tmp)(b:Bool):SV E pm s ⟨dst,op,ty,some (some t,b)⟩=grd E pm s dst op ty b (s.v t):=nr rfl
theorem AD7(op:Op)(b':Bool):grd E pm s dst op ty true (.bool b')=if b'=true then OL E pm s dst op ty else some (s.putO dst (.konst undef)):=by cases b'<;>rfl
theorem AD8(op:Op)(b':Bool):grd E pm s dst op ty false (.bool b')=if b'=true then some (s.putO dst (.konst undef))else OL E pm s dst op ty:=by cases b'<;>rfl
theorem AD9(op:Op)(b:Bool):grd E pm s dst op ty b (.konst undef)=some (s.putO dst (.konst undef)):=nr rfl
def pk(s:St)(dst:Option Tmp)(c a b:Option D):Option St:=
 match c,a,b with
 | some (.bool t),some x,some y=>if(if t then x else y).hasObj then none else some (s.putO dst (if t then x else y))
 | _,_,_=>none
theorem vX(c a b:Operand):OL E pm s dst (.pick c a b) ty=pk s dst (ev E.T s ty c) (ev E.T s ty a) (ev E.T s ty b):=nr rfl
theorem pkT(x y:D)(h:x.hasObj=false):pk s dst (some (.bool true)) (some x) (some y)=some (s.putO dst x):=by simp [pk,h]
theorem pkF(x y:D)(h:y.hasObj=false):pk s dst (some (.bool false)) (some x) (some y)=some (s.putO dst y):=by simp [pk,h]
theorem pkB(t p q:Bool):pk s dst (some (.bool t)) (some (.bool p)) (some (.bool q))=some (s.putO dst (.bool (if t then p else q))):=by cases t<;>rfl
theorem hoB(b:Bool):(D.bool b).hasObj=false:=by simp [D.hasObj]
theorem hoI(k:IntKind)(n:Int):(D.int k n).hasObj=false:=by simp [D.hasObj]
theorem hoS(b:ByteArray):(D.str b).hasObj=false:=by simp [D.hasObj]
theorem rC(t:TypeId):OL E pm s dst (.alloc t) ty=if E.T.known t then some (s.putO dst (.box (E.T.zeros t)))else none:=nr rfl
theorem zm(t:TypeId)(x:Operand):OL E pm s dst (.box t x) ty=if ty=900003 then(Ql E.T pm s dst t x).bind fun s1=>FT pm s1 dst else Ql E.T pm s dst t x:=nr rfl
theorem vY(t:TypeId)(x:Operand):Ql E.T pm s dst t x=match Wy (ev E.T s t x)with
  | some ds=>if E.T.isStruct t then some (s.putO dst (.box ds))else none
  | none=>
   match take E.T pm s t x with
   | some (d,s1)=>if E.T.isStruct t==d.isAgg then some (s1.putO dst (.box d.asCells))else none
   | none=>none:=nr rfl
theorem rD(t:TypeId)(parts:Array (Nat×Operand)):OL E pm s dst (.build t parts) ty=match E.T.nest t with
  | some fl=>if E.T.isStruct t&&E.T.known t then(L6 E.T pm fl s (E.T.zeros t) parts.toList).map fun r=>r.2.putO dst (.agg r.1)else none
  | none=>match E.T.ty t with
   | .struct fs=>if E.T.known t then(IE E.T pm (fun i=>fs.getD i 0) 1 s (E.T.zeros t) parts.toList).map fun r=>r.2.putO dst (.agg r.1)else none
   | _=>none:=nr rfl
theorem Xh(t:TypeId)(len:Nat)(parts:Array (Nat×Operand)):OL E pm s dst (.buildSlice t len parts) ty=if ty=900004 then(X0 E.T pm s dst t len parts).bind fun s1=>P6 pm s1 dst else X0 E.T pm s dst t len parts:=nr rfl
def stF(pm:Pm)(a:Operand):Option St→Option St
 | some s1=>FT pm s1 (X3 a)
 | none=>none
theorem vZ(a:Operand)(o:Option St):stF pm a o=o.bind fun s1=>FT pm s1 (X3 a):=by cases o<;>rfl
theorem rE(t:TypeId)(a x:Operand):OL E pm s none (.store t a x) ty=if ty=900007 then Fq E.T pm t a (NT E.T pm s t x)else if ty=900010 then VW E.T pm s t a x else if ty=900011 then stF pm a (Kz E.T pm s t a x)else Kz E.T pm s t a x:=by
 rw [vZ];rfl
def Lr(s:St)(dst:Option Tmp):Option D→Option St
 | some r=>some (s.putO dst r)
 | none=>none
theorem A6f(r:D):Lr s dst (some r)=some (s.putO dst r):=nr rfl
def bP(dst:Option Tmp):Option (D×St)→Option St
 | some r=>some (r.2.putO dst r.1)
 | none=>none
theorem A6g(r:D)(s:St):bP dst (some (r,s))=some (s.putO dst r):=nr rfl
def Z6(T:Tys)(s:St)(dst:Option Tmp)(op:BinOp)(t:TypeId):Option D→Option D→Option St
 | some a,some b=>if Qk T t a then Lr s dst (FH op a b)else none
 | _,_=>none
theorem A6h(T:Tys)(op:BinOp)(t:TypeId)(a b:D):Z6 T s dst op t (some a) (some b)=if Qk T t a then Lr s dst (FH op a b)else none:=nr rfl
def fzB(pm:Pm)(dst:Option Tmp)(u:Tmp):Option St→Option St
 | some s1=>gZ pm s1 dst u
 | none=>none
theorem A37(op:BinOp)(t:TypeId)(x y:Operand)(t':TypeId):OL E pm s dst (.binOp op t x y t') ty=if ty<2000000 then J3 E.T pm s dst op t x y else fzB pm dst (ty-2000000) (J3 E.T pm s dst op t x y):=by
 show(if ty<2000000 then J3 E.T pm s dst op t x y else(J3 E.T pm s dst op t x y).bind fun s1=>gZ pm s1 dst (ty-2000000))=_
 cases J3 E.T pm s dst op t x y<;>rfl
theorem We(op:BinOp)(t:TypeId)(x y:Operand)(hq:gX E.T op t y=none):J3 E.T pm s dst op t x y=Z6 E.T s dst op t (ev E.T s t x) (ev E.T s t y):=by
 unfold J3;rw [hq];simp only
 cases ev E.T s t x<;>cases ev E.T s t y<;>simp only [Z6]
 rename_i a b
 cases FH op a b<;>rfl
theorem ADB(op:BinOp)(t:TypeId)(x:Operand)(u:Tmp)(t':TypeId):OL E pm s dst (.binOp op t x (.tmp u) t') ty=if ty<2000000 then Z6 E.T s dst op t (ev E.T s t x) (some (s.v u))else fzB pm dst (ty-2000000) (Z6 E.T s dst op t (ev E.T s t x) (some (s.v u))):=by
 rw [A37,We E pm s dst op t x (.tmp u) rfl];rfl
theorem ADC(op:BinOp)(t:TypeId)(x:Operand)(k:IntKind)(n:Int)(t':TypeId):OL E pm s dst (.binOp op t x (.const (.int k n)) t') ty=if ty<2000000 then Z6 E.T s dst op t (ev E.T s t x) (some (.int k n))else fzB pm dst (ty-2000000) (Z6 E.T s dst op t (ev E.T s t x) (some (.int k n))):=by
 rw [A37,We E pm s dst op t x _ rfl];rfl
def vg(s:St)(dst:Option Tmp)(q:Bool):Option Bool→Option St
 | some b=>some (s.putO dst (.bool (b==q)))
 | none=>none
theorem A6i(b:Bool):vg s dst true (some b)=some (s.putO dst (.bool b)):=by cases b<;>rfl
def nt0(op:BinOp)(s:St)(dst:Option Tmp)(r:Option Bool)(o:Option St):Ty→Option St
 | .slice _=>match op with | .eql=>vg s dst true r | .neq=>vg s dst false r | _=>o
 | _=>o
theorem ADE(r:Option Bool)(o:Option St)(e:TypeId):nt0 .eql s dst r o (.slice e)=vg s dst true r:=nr rfl
theorem zn(op:BinOp)(t:TypeId)(u:Tmp):J3 E.T pm s dst op t (.tmp u) (.const (.slice none 0 0))=nt0 op s dst (Uk pm s (s.v u)) (Z6 E.T s dst op t (some (s.v u)) (ev E.T s t (.const (.slice none 0 0)))) (E.T.ty t):=by
 have key: ∀q,gX E.T op t (.const (.slice none 0 0))=some q→J3 E.T pm s dst op t (.tmp u) (.const (.slice none 0 0))=vg s dst q (Uk pm s (s.v u)):=by
  intro q hq;unfold J3;rw [hq];simp only [ev,CO]
  cases Uk pm s (s.v u)<;>rfl
 cases ht:E.T.ty t with
 | slice e=>
  cases op<;>first
   | (simp only [nt0];exact key true (by simp [gX,ht]))
   | (simp only [nt0];exact key false (by simp [gX,ht]))
   | (simp only [nt0];exact We E pm s dst _ t _ _ (by simp [gX,ht]))
 | _=>exact We E pm s dst _ t _ _ (by simp [gX,ht])
theorem A39(op:BinOp)(t:TypeId)(u:Tmp)(t':TypeId):OL E pm s dst (.binOp op t (.tmp u) (.const (.slice none 0 0)) t') ty=if ty<2000000 then nt0 op s dst (Uk pm s (s.v u)) (Z6 E.T s dst op t (some (s.v u)) (ev E.T s t (.const (.slice none 0 0)))) (E.T.ty t)
  else fzB pm dst (ty-2000000) (nt0 op s dst (Uk pm s (s.v u)) (Z6 E.T s dst op t (some (s.v u)) (ev E.T s t (.const (.slice none 0 0)))) (E.T.ty t)):=by
 rw [A37,zn]
theorem ADF(e:TypeId)(x:D)(xs:List D):Uk pm s (.sl e (x::xs))=some false:=nr rfl
theorem ndK(A:Option Addr)(n c:Nat):Uk pm s (.konst (.slice A n c))=some A.isNone:=nr rfl
theorem jH(src d:TypeId)(x:Operand):OL E pm s dst (.convert src d x) ty=if E.T.known src then
   match ev E.T s src x,E.T.ty d with
   | some (.int _ n),.int k=>some (s.putO dst (.int k (k.wrap n)))
   | some (.str b),.string=>some (s.putO dst (.str b))
   | _,_=>none
  else none:=nr rfl
theorem bQ(f:FuncId)(first captured:Array Operand):OL E pm s dst (.makeFunc (.func f) first captured) ty=if ty<3000000 then(if first.isEmpty then(NW pm s captured.toList).map fun r=>r.2.putO dst (.clo f r.1)else none)
  else(if first.isEmpty then(Wz pm s (ty-3000000) captured.toList).map fun r=>r.2.putO dst (.ocl false f r.1)else none):=nr rfl
theorem Z7(t:TypeId)(l c:Operand):OL E pm s dst (.makeSlice t l c) ty=if ty=900012 then(Yq E.T s dst t l c).bind fun s1=>P6 pm s1 dst else Yq E.T s dst t l c:=nr rfl
theorem bR(x:Operand):OL E pm s dst (.nilCheck x) ty=(ev E.T s ty x).bind fun d=>
   match d with
   | .box _=>some (CZ s dst x d)
   | .vw L n m=>match s.look pm L n m with | some (.box _)=>some (CZ s dst x d) | _=>none
   | .pe L _ n m=>match s.look pm L n m with | some _=>some (CZ s dst x d) | none=>none
   | .cptr _=>some (CZ s dst x d)
   | .clo _ _=>some (CZ s dst x d)
   | .ocl false _ _=>some (CZ s dst x d)
   | _=>none:=nr rfl
theorem mP(x y:Operand)(t t':TypeId):OL E pm s dst (.call ⟨.builtin .append, #[x,y], #[t,t']⟩) ty=if t=t' then(if isZ (ev E.T s t y)then NU E.T pm s t x else IC E.T pm s t x y).map fun r=>r.2.putO dst r.1 else none:=nr rfl
theorem vk(f:FuncId)(args:Array Operand)(ts:Array TypeId):OL E pm s dst (.call ⟨.value (.func f),args,ts⟩) ty=if args.size=ts.size then(if ty=900014 then(Ha E pm s dst f (args.toList.zip (Qn ty ts.toList)) []).bind fun s1=>FT pm s1 dst else Ha E pm s dst f (args.toList.zip (Qn ty ts.toList)) [])else none:=nr rfl
theorem rF(u:Tmp)(args:Array Operand)(ts:Array TypeId):OL E pm s dst (.call ⟨.value (.tmp u),args,ts⟩) ty=match s.v u with
   | .clo f caps=>if args.size=ts.size then Ha E pm s dst f (args.toList.zip ts.toList) caps else none
   | .ocl false f caps=>if args.size=ts.size then NY E pm s dst f (args.toList.zip ts.toList) caps else none
   | _=>none:=nr rfl
end
theorem A3A(T:Tys)(s:St)(t:TypeId)(u:Tmp):ev T s t (.tmp u)=some (s.v u):=nr rfl
theorem A3B(T:Tys)(s:St)(t:TypeId)(k:IntKind)(n:Int):ev T s t (.const (.int k n))=some (.int k n):=nr rfl
theorem zo(T:Tys)(s:St)(t:TypeId)(b:Bool):ev T s t (.const (.bool b))=some (.bool b):=nr rfl
theorem A3C(T:Tys)(s:St)(t:TypeId):ev T s t (.const (.slice none 0 0))=match T.ty t with | .slice e=>some (.own e []) | .other=>some (.konst (.slice none 0 0)) | _=>none:=nr rfl
theorem A6j(s:St)(t u:Nat)(d:D):(s.put t d).v u=if u=t then d else s.v u:=by rw [A0x];rfl
theorem A6k(s:St)(t u:Nat)(d:D):(s.put t d).k u=if u=t then(if d.hasObj then s.k t+1 else s.k t)else s.k u:=by
 unfold St.put;by_cases h:u=t
 ·subst h;cases hd:d.hasObj<;>simp [OC]
 ·cases hd:d.hasObj<;>simp [OC,h]
theorem A6l(s:St)(t u:Nat)(d:D):(s.put t d).m u=s.m u:=by unfold St.put;split<;>rfl
theorem A6m(s:St)(t u:Nat):(s.clr t).v u=if u=t then .undef else s.v u:=nr rfl
theorem A6n(s:St)(t u:Nat):(s.clr t).k u=s.k u:=nr rfl
theorem A6o(s:St)(t u:Nat):(s.clr t).m u=s.m u:=nr rfl
theorem A3D(s:St)(t u:Nat):(s.bump t).v u=s.v u:=nr rfl
theorem A3E(s:St)(t u:Nat):(s.bump t).k u=s.k u:=nr rfl
theorem A3F(s:St)(t u:Nat):(s.bump t).m u=if u=t then s.m t+1 else s.m u:=nr rfl
theorem A6p(s:St)(t u:Nat)(p:A9)(d:D):(s.set (t::p) d).v u=if u=t then GX (s.v t) p d else s.v u:=nr rfl
theorem A6q(s:St)(t u:Nat)(p:A9)(d:D):(s.set (t::p) d).k u=s.k u:=nr rfl
theorem A6r(s:St)(t u:Nat)(p:A9)(d:D):(s.set (t::p) d).m u=s.m u:=nr rfl
theorem rG(s:St)(t:Tmp)(d:D):s.putO (some t) d=s.put t d:=nr rfl
theorem rH(s:St)(d:D):s.putO none d=s:=nr rfl
theorem A6s(Y:Sys):Y.env.T=Y.T:=nr rfl
theorem rJ(Y:Sys):Y.env.lends=Y.lends:=nr rfl
theorem vo(Y:Sys):Y.env.call=Y.call:=nr rfl
theorem zq(a l:List D)(t:Nat):(entry a l).v t=if t<G then a.getD t .undef else l.getD (t-G) .undef:=nr rfl
theorem zt(a l:List D)(t:Nat):(entry a l).k t=0:=nr rfl
theorem zu(a l:List D)(t:Nat):(entry a l).m t=0:=nr rfl
theorem PN{r:Ex×St}{Q:Ex→St→Prop}:(∃ex s',some r=some (ex,s')∧Q ex s')=Q r.1 r.2:=
 propext ⟨fun⟨ex,s',h,hq⟩=>by injection h with h;subst h;exact hq,fun h=>⟨r.1,r.2,rfl,h⟩⟩
section
variable (E:Env) (Q:Ex→St→Prop) (s:St)
theorem A6t:BZ E .skip Q s=Q .normal s:=PN
theorem A6u(id:Nat):BZ E (.exit id) Q s=Q (.exit id) s:=PN
theorem ADG:BZ E .ret Q s=Q .ret s:=PN
theorem ADH:BZ E (.ops []) Q s=Q .normal s:=PN
def nxt(E:Env)(l:List SOp)(Q:Ex→St→Prop):Option St→Prop
 | some s=>BZ E (.ops l) Q s
 | none=>False
theorem ADI(l:List SOp):nxt E l Q (some s)=BZ E (.ops l) Q s:=nr rfl
theorem A6v(o:SOp)(l:List SOp):BZ E (.ops (o::l)) Q s=nxt E l Q (SV E Pm.all s o):=by
 unfold BZ;simp only [EW,vT]
 cases SV E Pm.all s o with
 | none=>simp [nxt]
 | some s'=>simp [nxt,BZ,EW]
theorem A6w:BZ E (.draws []) Q s=Q .normal s:=PN
def vz(E:Env)(l:List (PmL×SOp))(Q:Ex→St→Prop):Bool→Option St→Prop
 | true,some s=>BZ E (.draws l) Q s
 | _,_=>False
theorem A6x(l:List (PmL×SOp)):vz E l Q true (some s)=BZ E (.draws l) Q s:=nr rfl
theorem A3G(p:PmL)(o:SOp)(l:List (PmL×SOp)):BZ E (.draws ((p,o)::l)) Q s=vz E l Q (J7 p.pm s o.op) (SV E p.pm s o):=by
 unfold BZ;simp only [EW,jD]
 cases J7 p.pm s o.op with
 | true=>
  cases SV E p.pm s o with
  | none=>simp [vz]
  | some s'=>simp [vz,BZ,EW]
 | false=>simp [vz]
theorem ADJ(a b:SC):BZ E (.seq a b) Q s=BZ E a (jF E b Q) s:=by
 refine propext ⟨fun⟨ex,s1,h1,h2⟩=> ?_,A36⟩;simp only [EW]at h1
 cases ha:EW E a s with
 | none=>simp [ha]at h1
 | some q=>
  obtain⟨ex',s2⟩:=q
  cases ex' with
  | normal=>simp only [ha]at h1;exact⟨_,s2,ha,ex,s1,h1,h2⟩
  | exit id=>simp only [ha,Option.some.injEq,Prod.mk.injEq]at h1;obtain⟨rfl,rfl⟩:=h1;exact⟨_,s2,ha,h2⟩
  | ret=>simp only [ha,Option.some.injEq,Prod.mk.injEq]at h1;obtain⟨rfl,rfl⟩:=h1;exact⟨_,s2,ha,h2⟩
def cnd(E:Env)(a b:SC)(Q:Ex→St→Prop)(s:St):Option D→Prop
 | some (.bool t)=>if t=true then BZ E a Q s else BZ E b Q s
 | _=>False
theorem ADK(a b:SC)(t:Bool):cnd E a b Q s (some (.bool t))=if t=true then BZ E a Q s else BZ E b Q s:=nr rfl
theorem A6z(c:Operand)(a b:SC):BZ E (.cond c a b) Q s=cnd E a b Q s (ev E.T s 0 c):=by
 unfold BZ;simp only [EW]
 cases ev E.T s 0 c with
 | none=>simp [cnd]
 | some d=>cases d with
  | bool t=>cases t<;>simp [cnd,BZ]
  | _=>simp [cnd]
theorem A3H(id:Nat)(c:SC):BZ E (.block id c) Q s=BZ E c (inBlock id Q) s:=by
 refine propext ⟨fun⟨ex,s1,h1,h2⟩=> ?_,vW⟩;simp only [EW]at h1
 cases ha:EW E c s with
 | none=>simp [ha]at h1
 | some q=>
  obtain⟨ex',s2⟩:=q
  cases ex' with
  | normal=>simp only [ha,Option.some.injEq,Prod.mk.injEq]at h1;obtain⟨rfl,rfl⟩:=h1;exact⟨_,s2,ha,h2⟩
  | exit j=>
   simp only [ha]at h1;by_cases hj:j=id
   ·simp only [hj,if_true,Option.some.injEq,Prod.mk.injEq]at h1;obtain⟨rfl,rfl⟩:=h1;exact⟨_,s2,ha,by simpa [inBlock,hj] using h2⟩
   ·simp only [hj,if_false,Option.some.injEq,Prod.mk.injEq]at h1;obtain⟨rfl,rfl⟩:=h1;exact⟨_,s2,ha,by simpa [inBlock,hj] using h2⟩
  | ret=>simp only [ha,Option.some.injEq,Prod.mk.injEq]at h1;obtain⟨rfl,rfl⟩:=h1;exact⟨_,s2,ha,h2⟩
theorem A3I(b:SC):jF E b Q .normal s=BZ E b Q s:=nr rfl
theorem A3J(b:SC)(id:Nat):jF E b Q (.exit id) s=Q (.exit id) s:=nr rfl
theorem A3K(b:SC):jF E b Q .ret s=Q .ret s:=nr rfl
theorem ADL(id:Nat):inBlock id Q .normal s=Q .normal s:=nr rfl
theorem ADM(id j:Nat):inBlock id Q (.exit j) s=if j=id then Q .normal s else Q (.exit j) s:=nr rfl
theorem ADN(id:Nat):inBlock id Q .ret s=Q .ret s:=nr rfl
theorem A70(T:Tys)(n:Nat)(rs:List ResultVar)(r:D×List D):Eh T n rs r .normal s=(Yt T n rs s=some r):=nr rfl
theorem A71(T:Tys)(n:Nat)(rs:List ResultVar)(r:D×List D):Eh T n rs r .ret s=(Yt T n rs s=some r):=nr rfl
end
section
variable (s:St) (dst:Option Tmp) (u:Tmp) (k:IntKind) (n:Int) (b:Bool) (x:ByteArray) (e:TypeId) (xs:List D) (L:A9) (i j c:Nat) (v:Value) (f:FuncId)
theorem A72:CZ s dst (.tmp u) (.int k n)=s.putO dst (.int k n):=nr rfl
theorem A3L:CZ s dst (.tmp u) (.bool b)=s.putO dst (.bool b):=nr rfl
theorem ADO:CZ s dst (.tmp u) (.sl e xs)=s.putO dst (.sl e xs):=nr rfl
theorem zw:CZ s dst (.tmp u) (.konst v)=s.putO dst (.konst v):=nr rfl
theorem A73:CZ s dst (.tmp u) (.own e xs)=s.putO dst (.vw [u] (s.k u) (s.m u)):=nr rfl
theorem A74:CZ s dst (.tmp u) (.box xs)=s.putO dst (.vw [u] (s.k u) (s.m u)):=nr rfl
theorem ADP:CZ s dst (.tmp u) (.vw L i j)=s.putO dst (.vw L i j):=nr rfl
theorem A3M:CZ s dst (.tmp u) (.cptr xs)=s.putO dst (.cptr xs):=nr rfl
theorem A75:CZ s dst (.tmp u) (.clo f xs)=s.putO dst (.clo f xs):=nr rfl
theorem A76:CZ s dst (.tmp u) (.tup xs)=if Ac xs then(if Ac (Lg s u 0 xs)then(s.clr u).putO dst (.tup xs)else s.putO dst (.tup (Lg s u 0 xs)))else s.putO dst (.tup xs):=nr rfl
theorem A77(i:Nat):Lg s u i []=[]:=nr rfl
theorem A3N(i:Nat)(x:D):Lg s u i (x::xs)=Qj s u i x::Lg s u (i+1) xs:=nr rfl
theorem A78(i:Nat):Qj s u i (.agg xs)= .agg (Lf s [u,i] 0 xs):=nr rfl
theorem A3O(i:Nat):Qj s u i (.bool b)= .bool b:=nr rfl
theorem A79(i:Nat):Qj s u i (.own e xs)= .vw [u,i] (s.k u) (s.m u):=nr rfl
theorem A7A(L:A9)(i:Nat):Lf s L i []=[]:=nr rfl
theorem A3P(L:A9)(i:Nat):Lf s L i (.int k n::xs)= .int k n::Lf s L (i+1) xs:=nr rfl
theorem A3Q(r c:Nat)(i:Nat)(zs:List D):Lf s [r,c] i (.own e zs::xs)= .vw [r,c,i] (s.k r) (s.m r)::Lf s [r,c] (i+1) xs:=nr rfl
variable (pm:Pm)
theorem A7B:BR pm s dst (.tmp u) (.int k n)=some (s.putO dst (.int k n)):=nr rfl
theorem A3R:BR pm s dst (.tmp u) (.bool b)=some (s.putO dst (.bool b)):=nr rfl
theorem ADQ:BR pm s dst (.tmp u) (.sl e xs)=some (s.putO dst (.sl e xs)):=nr rfl
theorem A7C:BR pm s dst (.tmp u) (.own e xs)=some ((s.clr u).putO dst (.own e xs)):=nr rfl
theorem A7D:BR pm s dst (.tmp u) (.box xs)=some ((s.clr u).putO dst (.box xs)):=nr rfl
theorem A7E(r:Nat):BR pm s dst (.tmp u) (.vw [r] i j)=(Qf pm s [r] i j).map fun q=>q.2.putO dst q.1:=nr rfl
def asT(_s:St)(dst:Option Tmp)(a:Option (D×St))(b:Option St):Bool→Option St
 | true=>a.map fun q=>q.2.putO dst q.1
 | false=>b
theorem ADS(a:Option (D×St))(b:Option St):asT s dst a b true=a.map fun q=>q.2.putO dst q.1:=nr rfl
theorem ADT(a:Option (D×St))(b:Option St):asT s dst a b false=b:=nr rfl
theorem A7F(r r':Nat)(p:A9):BR pm s dst (.tmp u) (.vw (r::r'::p) i j)=asT s dst (CP pm s (.vw (r::r'::p) i j)) (some (s.putO dst (.vw (r::r'::p) i j))) (isT pm s r):=by
 by_cases h:isT pm s r=true
 ·have h':kz pm s (.vw (r::r'::p) i j)=true:=h;unfold BR;simp only [h',h,if_true];rfl
 ·have h':kz pm s (.vw (r::r'::p) i j)=false:=J2.mpr h;unfold BR;simp only [h',J2.mpr h];rfl
theorem ADU(r:Nat):isT pm s r=(pm.rd r&&uP (s.v r)):=nr rfl
theorem A7G:uP (.tup xs)=true:=nr rfl
theorem A7H:uP (.own e xs)=false:=nr rfl
theorem A7I:uP (.box xs)=false:=nr rfl
theorem A7J:BR pm s dst (.tmp u) (.clo f xs)=some (s.putO dst (.clo f xs)):=nr rfl
end
section
variable (k:IntKind) (x y:Int) (p q:Bool) (a b:ByteArray)
theorem A7K:FH .add (.int k x) (.int k y)=some (.int k (k.wrap (x+y))):=by simp [FH]
theorem A7L:FH .sub (.int k x) (.int k y)=some (.int k (k.wrap (x-y))):=by simp [FH]
theorem A7M:FH .mul (.int k x) (.int k y)=some (.int k (k.wrap (x*y))):=by simp [FH]
theorem A7N:FH .quo (.int k x) (.int k y)=if y=0 then none else some (.int k (k.wrap (x.tdiv y))):=by simp [FH]
theorem A7O:FH .rem (.int k x) (.int k y)=if y=0 then none else some (.int k (x.tmod y)):=by simp [FH]
theorem A7P:FH .and (.int k x) (.int k y)=some (.int k (Kj .and k x y)):=by simp [FH]
theorem ADV:FH .or (.int k x) (.int k y)=some (.int k (Kj .or k x y)):=by simp [FH]
theorem A7Q(k':IntKind):FH .shl (.int k x) (.int k' y)=if y<0 then none else some (.int k (k.wrap (x*2 ^ (min y.toNat k.bits)))):=by simp [FH]
theorem A7R(k':IntKind):FH .shr (.int k x) (.int k' y)=if y<0 then none else some (.int k (x.fdiv (2 ^ (min y.toNat k.bits)))):=by simp [FH]
theorem ADW:FH .eql (.int k x) (.int k y)=some (.bool (decide (x=y))):=by simp [FH];rfl
theorem ADX:FH .neq (.int k x) (.int k y)=some (.bool (!decide (x=y))):=by simp [FH];rfl
theorem ADY:FH .lss (.int k x) (.int k y)=some (.bool (decide (x<y))):=by simp [FH]
theorem ADZ:FH .leq (.int k x) (.int k y)=some (.bool (decide (x≤y))):=by simp [FH]
theorem ADa:FH .gtr (.int k x) (.int k y)=some (.bool (decide (y<x))):=by simp [FH]
theorem ADb:FH .geq (.int k x) (.int k y)=some (.bool (decide (y≤x))):=by simp [FH]
theorem A7S:FH .neq (.bool p) (.bool q)=some (.bool (!(p==q))):=nr rfl
theorem A7T:unD .not (.bool p)=some (.bool (!p)):=nr rfl
theorem boI(T:Tys)(t:TypeId):Qk T t (.int k x)=true:=nr rfl
theorem boB(T:Tys)(t:TypeId):Qk T t (.bool p)=match T.ty t with | .bool=>true | _=>false:=nr rfl
end
def Fx(xs:List Int):List D:=xs.map (D.int .i64)
theorem Cc(xs:List Int):(Fx xs).length=xs.length:=by simp [Fx]
end Dv
namespace Dv
open Go
def zB:Value→Value→Bool
 | .int k n,.int k' n'=>decide (k=k')&&decide (n=n')
 | .bool b,.bool b'=>b==b'
 | .string s,.string s'=>s.size==0&&s'.size==0
 | .slice none 0 0,.slice none 0 0=>true
 | .nilFunc,.nilFunc=>true
 | .pointer none,.pointer none=>true
 | _,_=>false
theorem A0y{a b:Value}(h:zB a b=true):a=b:=by
 unfold zB at h
 split at h
 ·simp only [JM,decide_eq_true_eq]at h;rw [h.1,h.2]
 ·simp only [beq_iff_eq]at h;rw [h]
 ·simp only [JM,beq_iff_eq]at h
  rename_i s s'
  have: ∀t:ByteArray,t.size=0→t=ByteArray.empty:=by
   intro t ht;obtain⟨d⟩:=t;have:d= #[]:=Array.size_eq_zero_iff.1 ht
   rw [this];rfl
  rw [this s h.1,this s' h.2]
 ·rfl
 ·rfl
 ·rfl
 ·cases h
def zsB:List Value→List Value→Bool
 | [],[]=>true
 | a::as,b::bs=>zB a b&&zsB as bs
 | _,_=>false
theorem w9: ∀ {a b:List Value},zsB a b=true→a=b
 | [],[],_=>rfl
 | [],_::_,h=>by cases h
 | _::_,[],h=>by cases h
 | a::as,b::bs,h=>by
  simp only [zsB,JM]at h;rw [A0y h.1,w9 h.2]
def U1(P:Program)(t:TypeId)(n:Nat)(z:Value):Bool:=
 match P.info? t with
 | some i=>(i.size==n)&&(decide (4<n)||decide (i.bytes≤128))&&(match i.zero,z with | some (.agg a),.agg b=>zsB a.toList b.toList | some v,z=>zB v z | _,_=>false)
 | none=>false
theorem Ng{P:Program}{t:TypeId}{n:Nat}{z:Value}(h:U1 P t n z=true):Q5 P t n z:=by
 unfold U1 at h
 split at h
 ·rename_i i hi
  simp only [JM,TS,beq_iff_eq,decide_eq_true_eq]at h
  refine⟨i,hi,h.1.1, ?_,fun h4=>h.1.2.resolve_left (by omega)⟩
  have h2:=h.2
  split at h2
  ·rename_i a b hz
   rw [hz];have:=w9 h2
   rw [←TQ (xs:=a),this]
  ·rename_i v z' hz _
   rw [hz,A0y h2]
  ·cases h2
 ·cases h
def bS(P:Program)(T:Tys)(t:TypeId):Bool:=
 match T.ty t with
 | .int k=>(match P.underlying t with | some (.int k')=>decide (k'=k) | _=>false)&&U1 P t 1 (.int k 0)
 | .bool=>(match P.underlying t with | some .bool=>true | _=>false)&&U1 P t 1 (.bool false)
 | .string=>(match P.underlying t with | some .string=>true | _=>false)&&U1 P t 1 (.string ByteArray.empty)
 | .slice e=>(match P.underlying t with | some (.slice e')=>e'==e | _=>false)&&U1 P t 1 (.slice none 0 0)
 | .struct fs=>(match P.underlying t with
   | some (.struct fields)=>
    match T.nest t with
    | none=>(fields.size==fs.length)&&(List.range fields.size).all (fun j=>match fields[j]?,fs[j]? with | some f,some g=>(f.offset==j)&&(f.type==g)&&T.known g&& !T.isStruct g | _,_=>false)
    | some fl=>decide (4<fs.length)&&(fields.size==fl.length)&&(List.range fields.size).all (fun j=>match fields[j]?,fl[j]? with | some f,some g=>(f.offset==g.1)&&(f.type==g.2)&&T.known g.2 | _,_=>false)
   | _=>false)&&U1 P t fs.length (.agg (fs.map (J6 T)).toArray)
 | .func=>(match P.underlying t with | some (.func ..)=>true | _=>false)&&U1 P t 1 .nilFunc
 | .ptr=>(match P.underlying t with | some (.pointer _)=>true | _=>false)&&U1 P t 1 (.pointer none)
 | .map k e=>match P.underlying t with | some (.map k' e')=>(k'==k)&&(e'==e) | _=>false
 | .other=>true
theorem mQ{P:Program}{T:Tys}{t:TypeId}(h:bS P T t=true):GY P T t:=by
 unfold bS at h;unfold GY
 cases hty:T.ty t<;>rw [hty]at h<;>simp only [JM]at h ⊢
 case int k=>
  refine⟨?_,Ng h.2⟩
  have h1:=h.1
  split at h1
  ·rename_i k' hu;rw [hu];simp only [decide_eq_true_eq]at h1;rw [h1]
  ·cases h1
 case bool=>
  refine⟨?_,Ng h.2⟩
  have h1:=h.1
  split at h1
  ·assumption
  ·cases h1
 case string=>
  refine⟨?_,Ng h.2⟩
  have h1:=h.1
  split at h1
  ·assumption
  ·cases h1
 case map k e=>
  split at h
  ·rename_i k' e' hu;rw [hu];simp only [JM,beq_iff_eq]at h;rw [h.1,h.2]
  ·cases h
 case slice e=>
  refine⟨?_,Ng h.2⟩
  have h1:=h.1
  split at h1
  ·rename_i k' hu;rw [hu];simp only [beq_iff_eq]at h1;rw [h1]
  ·cases h1
 case struct fs=>
  refine⟨?_,Ng h.2⟩
  have h1:=h.1
  split at h1
  ·rename_i fields hu
   refine⟨fields,hu, ?_⟩
   cases hn:T.nest t with
   | none=>
    simp only [hn,JM,beq_iff_eq,Iw,Mx]at h1 ⊢
    refine⟨h1.1,fun j f hf=> ?_⟩
    have hlt:=(TP.1 hf).1;have:=h1.2 j hlt
    rw [hf]at this
    split at this
    ·rename_i f' g hf' hg
     simp only [Option.some.injEq]at hf';subst hf';simp only [JM,beq_iff_eq,Oi]at this;obtain⟨⟨⟨q1,q2⟩,q3⟩,q4⟩:=this;subst q2
     exact⟨q1,hg,q3,q4⟩
    ·cases this
   | some fl=>
    simp only [hn,JM,beq_iff_eq,Iw,Mx,decide_eq_true_eq]at h1 ⊢
    refine⟨h1.1.1,h1.1.2,fun j f hf=> ?_⟩
    have hlt:=(TP.1 hf).1;have:=h1.2 j hlt
    rw [hf]at this
    split at this
    ·rename_i f' g hf' hg
     simp only [Option.some.injEq]at hf';subst hf';simp only [JM,beq_iff_eq]at this;obtain⟨⟨q1,q2⟩,q3⟩:=this
     refine⟨?_,by rw [q2];exact q3⟩
     rw [hg,q1,q2]
    ·cases this
  ·cases h1
 case func=>
  refine⟨?_,Ng h.2⟩
  have h1:=h.1
  split at h1
  ·exact⟨_,_,_,by assumption⟩
  ·cases h1
 case ptr=>
  refine⟨?_,Ng h.2⟩
  have h1:=h.1
  split at h1
  ·exact⟨_,by assumption⟩
  ·cases h1
def rM(zI:List Ty)(nst:List (TypeId×List (Nat×TypeId))):Tys:={ty:=fun t=>zI.getD t .other,nest:=fun t=>nst.lookup t}
theorem A3S{P:Program}{zI:List Ty}{nst:List (TypeId×List (Nat×TypeId))}(h:((List.range zI.length).all fun t=>bS P (rM zI nst) t&&zS P (rM zI nst) t)=true):Br P (rM zI nst):=by
 intro t;rcases Nat.lt_or_ge t zI.length with ht | ht
 ·have:=Iw.1 h t (Mx.2 ht)
  rw [JM]at this
  exact⟨mQ this.1,this.2⟩
 ·have:(rM zI nst).ty t= .other:=by simp [rM,Kw,List.getElem?_eq_none ht]
  refine⟨?_, ?_⟩
  ·unfold GY;rw [this];trivial
  ·unfold zS;rw [this]
theorem AJ{Y:Sys}{f:FuncId}{fn:Func}{k:SC}{a l:List D}{r:D×List D}(hb:Y.base f a l=none)(hf:Y.P.funcs[f]? =some fn)(hok:Be fn a.length=true)
  (hk:fn.body.map (BP Y.lends)=some k)(h:BZ Y.env k (Eh Y.T l.length fn.results.toList r) (entry a l)):Y.call f a l=some r:=by
 obtain⟨c,hc,hk⟩:=Cr.1 hk;exact Sys.call_wp hb hf hok hc hk h
end Dv
namespace Dv
open Go
section
variable (E:Env) (pm:Pm) (s:St) (dst:Option Tmp) (ty:TypeId) (u:Tmp) (t:TypeId)
theorem Nh(o:Option D):(o.map fun r=>s.putO dst r)=Lr s dst o:=by cases o<;>rfl
theorem PO(o:Option (D×St)):(o.map fun r=>r.2.putO dst r.1)=bP dst o:=by cases o<;>rfl
theorem A7U:OL E pm s dst (.move (.tmp u)) ty=some (CZ s dst (.tmp u) (s.v u)):=nr rfl
def uG(pm:Pm):Option Tmp→Option St→Option St
 | some t,some s1=>FT pm s1 (some t)
 | _,_=>none
def frC(s1:St)(t:Tmp):Option D→Option St
 | some c=>some (s1.set [t] c)
 | none=>none
theorem ADc(s1:St)(t:Tmp)(h1:pm.rd t=true)(h2:pm.wr t=true):uG pm (some t) (some s1)=frC s1 t (Dl (s1.v t)):=by
 show(if pm.rd t&&pm.wr t then(Dl (s1.v t)).map fun c=>s1.set [t] c else none)=_
 rw [h1,h2]
 cases Dl (s1.v t)<;>rfl
theorem ADd(s1:St)(t:Tmp)(c:D):frC s1 t (some c)=some (s1.set [t] c):=nr rfl
def fcB(pm:Pm):Option Tmp→Option St→Option St
 | some t,some s1=>P6 pm s1 (some t)
 | _,_=>none
def fcD(s1:St)(t:Tmp)(e:TypeId):Option (List D)→Option St
 | some ys=>some (s1.set [t] (.own e ys))
 | none=>none
def fcC(s1:St)(t:Tmp):D→Option St
 | .own e xs=>fcD s1 t e (ES xs)
 | _=>none
theorem ADg(s1:St)(t:Tmp)(h1:pm.rd t=true)(h2:pm.wr t=true):fcB pm (some t) (some s1)=fcC s1 t (s1.v t):=by
 show P6 pm s1 (some t)=_
 unfold P6 fcC;dsimp only;rw [h1,h2]
 cases s1.v t with
 | own e xs=>simp only [Bool.and_self,if_true];cases ES xs<;>rfl
 | _=>rfl
theorem ADh(s1:St)(t:Tmp)(e:TypeId)(xs:List D):fcC s1 t (.own e xs)=fcD s1 t e (ES xs):=nr rfl
theorem ADi(s1:St)(t:Tmp)(e:TypeId)(ys:List D):fcD s1 t e (some ys)=some (s1.set [t] (.own e ys)):=nr rfl
theorem zx:OL E pm s dst (.assign (.tmp u)) ty=if ty=900003 then uG pm dst (BR pm s dst (.tmp u) (s.v u))else if ty<1000000 then BR pm s dst (.tmp u) (s.v u)else uG pm dst (BR pm s dst (.tmp u) (s.v u)):=by
 have hfr:((BR pm s dst (.tmp u) (s.v u)).bind fun s1=>FT pm s1 dst)=uG pm dst (BR pm s dst (.tmp u) (s.v u)):=by
  rcases BR pm s dst (.tmp u) (s.v u)with _ | s1<;>cases dst<;>rfl
 show(if uQ ty=true then(BR pm s dst (.tmp u) (s.v u)).bind fun s1=>FT pm s1 dst else BR pm s dst (.tmp u) (s.v u))=_
 rw [hfr];unfold uQ;by_cases h1:ty=900003
 ·rw [if_pos h1,if_pos h1];rfl
 ·rw [if_neg h1,if_neg h1];by_cases h2:ty<1000000
  ·rw [if_pos h2,if_pos h2];rfl
  ·rw [if_neg h2,if_neg h2];rfl
theorem wB(v:Value):OL E pm s dst (.assign (.const v)) ty=if ty=900003 then uG pm dst (Lr s dst (ev E.T s ty (.const v)))else if ty<1000000 then Lr s dst (ev E.T s ty (.const v))else uG pm dst (Lr s dst (ev E.T s (ty-1000000) (.const v))):=by
 have hfr: ∀t,((ev E.T s t (.const v)).bind fun d=>(BR pm s dst (.const v) d).bind fun s1=>FT pm s1 dst)=uG pm dst (Lr s dst (ev E.T s t (.const v))):=by
  intro t
  cases ev E.T s t (.const v)<;>cases dst<;>rfl
 have hno: ∀t,((ev E.T s t (.const v)).bind fun d=>BR pm s dst (.const v) d)=Lr s dst (ev E.T s t (.const v)):=by
  intro t
  cases ev E.T s t (.const v)<;>rfl
 show((ev E.T s (A2v ty) (.const v)).bind fun d=>if uQ ty=true then(BR pm s dst (.const v) d).bind fun s1=>FT pm s1 dst else BR pm s dst (.const v) d)=_
 unfold uQ A2v;by_cases h1:ty=900003
 ·simp only [if_pos h1,if_true];exact hfr _
 ·by_cases h2:ty<1000000
  ·simp only [if_neg h1,if_pos h2,Mw,if_false];exact hno _
  ·simp only [if_neg h1,if_neg h2,if_true];exact hfr _
theorem A3T(v:Value):OL E pm s dst (.move (.const v)) ty=Lr s dst (ev E.T s ty (.const v)):=by
 show((ev E.T s ty (.const v)).map fun d=>CZ s dst (.const v) d)=_
 cases ev E.T s ty (.const v)<;>rfl
theorem A7V:OL E pm s dst (.load t (.tmp u)) ty=Lr s dst (GA E.T pm s t (.tmp u) (s.v u)):=Nh s dst _
theorem yUn(op:UnOp):OL E pm s dst (.unOp op t (.tmp u)) ty=Lr s dst (unD op (s.v u)):=Nh s dst _
theorem A3U(i:Nat):OL E pm s dst (.fieldAddr t (.tmp u) i) ty=Lr s dst (Fv E.T pm s t (.tmp u) (s.v u) i):=Nh s dst _
theorem ADj:OL E pm s dst (.call ⟨.builtin .len, #[.tmp u], #[t]⟩) ty=Lr s dst (Qm E.T pm s t (.tmp u) (s.v u)):=Nh s dst _
theorem wC(i:Nat):OL E pm s dst (.extract (.tmp u) i) ty=JO s dst (.tmp u) (s.v u) i:=nr rfl
def slC(T:Tys)(pm:Pm)(s:St)(dst:Option Tmp)(t:TypeId)(x:Operand)(hi:Option Operand):Option Operand→Option Operand→Option St
 | none,none=>bP dst (Qg T pm s t x hi)
 | _,_=>none
theorem ADk(T:Tys)(x:Operand)(hi:Option Operand):slC T pm s dst t x hi none none=bP dst (Qg T pm s t x hi):=nr rfl
def slF(T:Tys)(pm:Pm)(s:St)(dst:Option Tmp)(t:TypeId)(x:Operand)(lo:Option Operand):Option Operand→Option Operand→Option St
 | none,none=>bP dst (Qh T pm s t x lo)
 | _,_=>none
theorem A3V(lo hi mx:Option Operand):OL E pm s dst (.slice t (.tmp u) lo hi mx) ty=
  if ty=900002 then slC E.T pm s dst t (.tmp u) hi lo mx
  else if ty=900005 then slF E.T pm s dst t (.tmp u) lo hi mx
  else if ty=900001 then bP dst (JN E.T pm.see s t (.tmp u) (s.v u) lo hi mx)else bP dst (JN E.T pm s t (.tmp u) (s.v u) lo hi mx):=by
 show(if ty=900002 then(if lo.isNone&&mx.isNone then(Qg E.T pm s t (.tmp u) hi).map fun r=>r.2.putO dst r.1 else none)
  else if ty=900005 then(if hi.isNone&&mx.isNone then(Qh E.T pm s t (.tmp u) lo).map fun r=>r.2.putO dst r.1 else none)
  else(ev E.T s t (.tmp u)).bind fun d=>(JN E.T (if ty=900001 then pm.see else pm) s t (.tmp u) d lo hi mx).map fun r=>r.2.putO dst r.1)=_
 split
 ·cases lo<;>cases mx<;>first | rfl | exact PO dst _
 ·split
  ·cases hi<;>cases mx<;>first | rfl | exact PO dst _
  ·split
   ·exact PO dst _
   ·exact PO dst _
def apI(T:Tys)(pm:Pm)(s:St)(t:TypeId)(x y:Operand)(d:D):Option (D×St):=if isZ (some d)then NU T pm s t x else IC T pm s t x y
theorem zy(x:Operand)(v:Tmp):OL E pm s dst (.call ⟨.builtin .append, #[x,.tmp v], #[t,t]⟩) ty=bP dst (apI E.T pm s t x (.tmp v) (s.v v)):=by
 rw [mP,if_pos rfl,PO];rfl
theorem ADl(T:Tys)(x y:Operand)(e:TypeId)(xs:List D):apI T pm s t x y (.sl e xs)=IC T pm s t x y:=nr rfl
theorem A7W(T:Tys)(x y:Operand)(e:TypeId)(xs:List D):apI T pm s t x y (.own e xs)=IC T pm s t x y:=nr rfl
theorem apK(T:Tys)(x y:Operand)(A:Option Addr)(c:Nat):apI T pm s t x y (.konst (.slice A 0 c))=NU T pm s t x:=nr rfl
def ix1(T:Tys)(pm:Pm)(s:St)(t:TypeId)(x:Operand)(d:D):Option D→Option D
 | some i=>Uh T pm s t x d i
 | none=>none
theorem ADm(T:Tys)(x:Operand)(d i:D):ix1 T pm s t x d (some i)=Uh T pm s t x d i:=nr rfl
theorem A3W(i:Operand):OL E pm s dst (.indexAddr t (.tmp u) i) ty=Lr s dst (ix1 E.T pm s t (.tmp u) (s.v u) (ev E.T s 0 i)):=by
 show(match some (s.v u),ev E.T s 0 i with
  | some a,some b=>(Uh E.T pm s t (.tmp u) a b).map fun r=>s.putO dst r
  | _,_=>none)=_
 cases ev E.T s 0 i with
 | none=>rfl
 | some b=>exact Nh s dst _
def mk1(T:Tys)(t:TypeId):Option D→Option D→Option D
 | some a,some b=>En T t a b
 | _,_=>none
theorem ADn(T:Tys)(a b:D):mk1 T t (some a) (some b)=En T t a b:=nr rfl
theorem ADo(l c:Operand):Yq E.T s dst t l c=Lr s dst (mk1 E.T t (ev E.T s 0 l) (ev E.T s 0 c)):=by
 show(match ev E.T s 0 l,ev E.T s 0 c with
  | some a,some b=>(En E.T t a b).map fun r=>s.putO dst r
  | _,_=>none)=_
 cases ev E.T s 0 l<;>cases ev E.T s 0 c<;>first | rfl | exact Nh s dst _
theorem A7Y(l c:Operand):OL E pm s dst (.makeSlice t l c) ty=if ty=900012 then fcB pm dst (Lr s dst (mk1 E.T t (ev E.T s 0 l) (ev E.T s 0 c)))else Lr s dst (mk1 E.T t (ev E.T s 0 l) (ev E.T s 0 c)):=by
 rw [Z7,ADo];by_cases h:ty=900012
 ·rw [if_pos h,if_pos h]
  cases Lr s dst (mk1 E.T t (ev E.T s 0 l) (ev E.T s 0 c))<;>cases dst<;>rfl
 ·rw [if_neg h,if_neg h]
theorem ADp(u:Tmp)(s1:St):stF pm (.tmp u) (some s1)=uG pm (some u) (some s1):=nr rfl
def cv1(s:St)(dst:Option Tmp):Option D→Ty→Option St
 | some (.int _ n),.int k=>some (s.putO dst (.int k (k.wrap n)))
 | some (.str b),.string=>some (s.putO dst (.str b))
 | _,_=>none
theorem ADq(k k':IntKind)(n:Int):cv1 s dst (some (.int k n)) (.int k')=some (s.putO dst (.int k' (k'.wrap n))):=nr rfl
theorem wD(src d:TypeId)(x:Operand):OL E pm s dst (.convert src d x) ty=if E.T.known src then cv1 s dst (ev E.T s src x) (E.T.ty d)else none:=by
 rw [jH];split
 ·rcases ev E.T s src x with _ | d'<;>cases E.T.ty d<;>first | rfl | (cases d'<;>rfl)
 ·rfl
def asM(l:List TypeId):List TypeId:=l.map fun _=>900013
theorem ADr:asM []=[]:=nr rfl
theorem ADs(t:TypeId)(l:List TypeId):asM (t::l)=900013::asM l:=nr rfl
theorem A7a(f:FuncId)(args:Array Operand)(ts:Array TypeId)(h:args.size=ts.size):OL E pm s dst (.call ⟨.value (.func f),args,ts⟩) ty=if ty=900014 then uG pm dst (Ha E pm s dst f (args.toList.zip ts.toList) [])else Ha E pm s dst f (args.toList.zip (if ty=900013 then asM ts.toList else ts.toList)) []:=by
 rw [vk,if_pos h];by_cases c:ty=900014
 ·rw [if_pos c,if_pos c];have e:Qn ty ts.toList=ts.toList:=by unfold Qn;rw [c,if_neg (by decide)]
  rw [e];unfold uG
  cases Ha E pm s dst f (args.toList.zip ts.toList) []with
  | none=>cases dst<;>rfl
  | some s1=>cases dst<;>rfl
 ·rw [if_neg c,if_neg c]
  unfold Qn asM;rfl
end
section
variable {T:Tys} {pm:Pm} {s:St} {t:TypeId}
theorem ldC(x:Operand)(xs:List D)(hk:T.known t=true)(hs:T.isStruct t=false):GA T pm s t x (.cptr xs)=xs[0]? :=by simp [GA,hk,hs]
theorem ADt(x:Operand)(xs:List D)(hk:T.known t=true)(hs:T.isStruct t=true):GA T pm s t x (.cptr xs)=if T.size t≤xs.length then some (.agg (xs.take (T.size t)))else none:=by simp [GA,hk,hs]
def R3(s:St)(L:A9)(c:Nat):Option D→Option D
 | some o=>(o.cells[c]?).bind fun x=>DF (HV s L c x)
 | none=>none
def cellsOf(s:St)(L:A9)(c n:Nat):Option D→Option D
 | some o=>if c+n≤o.cells.length then DF (.agg ((List.range n).map fun i=>HV s L (c+i) (o.cells.getD (c+i) .undef)))else none
 | none=>none
theorem ldP(x:Operand)(L:A9)(c n m:Nat)(hk:T.known t=true)(hs:T.isStruct t=false):GA T pm s t x (.pe L c n m)=R3 s L c (s.look pm L n m):=by
 simp only [GA,hk,hs,if_true,Jn]
 cases s.look pm L n m<;>simp [R3]
theorem ldB(u:Tmp)(xs:List D)(hk:T.known t=true)(hs:T.isStruct t=false):GA T pm s t (.tmp u) (.box xs)=R3 s [u] 0 (some (.box xs)):=by
 simp only [GA,hk,hs,if_true,Jn];simp [R3]
theorem ADu(u:Tmp)(xs:List D)(hk:T.known t=true)(hs:T.isStruct t=true):GA T pm s t (.tmp u) (.box xs)=cellsOf s [u] 0 (T.size t) (some (.box xs)):=by
 simp only [GA,hk,hs,if_true,Jn];simp [cellsOf]
def U2(s:St)(pm:Pm)(L:A9)(n m:Nat):Option D:=
 match s.look pm L n m with
 | some (.box xs)=>some (.box xs)
 | _=>none
theorem ldV(x:Operand)(L:A9)(n m:Nat)(hk:T.known t=true)(hs:T.isStruct t=false):GA T pm s t x (.vw L n m)=R3 s L 0 (U2 s pm L n m):=by
 simp only [GA,hk,hs,if_true,Jn,U2]
 cases s.look pm L n m with
 | none=>simp [R3]
 | some o=>cases o<;>simp [R3]
def jI:D→Option D
 | .own e xs=>some (.own e xs)
 | .box xs=>some (.box xs)
 | _=>none
theorem A3X(e:TypeId)(xs:List D):jI (.own e xs)=some (.own e xs):=nr rfl
theorem A3Y(xs:List D):jI (.box xs)=some (.box xs):=nr rfl
theorem A7b(u n m:Nat):s.look pm [u] n m=if pm.rd u&&(s.k u==n)then jI (s.v u)else none:=by
 simp only [St.look,List.isEmpty_nil,Bool.true_or,Bool.and_true,BK];split
 ·cases s.v u<;>rfl
 ·rfl
def A7c:Option D→Option D
 | some d=>jI d
 | none=>none
theorem A7d(u c n m:Nat)(p:A9):s.look pm (u::c::p) n m=if pm.rd u&&(s.k u==n)&&(s.m u==m)then A7c (BK (s.v u) (c::p))else none:=by
 simp only [St.look,List.isEmpty_cons,Bool.false_or];split
 ·cases BK (s.v u) (c::p)with
  | none=>rfl
  | some d=>cases d<;>rfl
 ·rfl
theorem A7e(d:D):A7c (some d)=jI d:=nr rfl
theorem ADv(x:Operand)(e:TypeId)(xs:List D):Dm pm s x (.sl e xs)=some (e,xs,none):=nr rfl
theorem A7f(u:Tmp)(e:TypeId)(xs:List D):Dm pm s (.tmp u) (.own e xs)=some (e,xs,some ([u],s.k u,s.m u)):=nr rfl
def A7g(L:A9)(n m:Nat):Option D→Option (TypeId×List D×Option (A9×Nat×Nat))
 | some (.own e xs)=>some (e,xs,some (L,n,m))
 | _=>none
theorem A7h(L:A9)(n m:Nat)(e:TypeId)(xs:List D):A7g L n m (some (.own e xs))=some (e,xs,some (L,n,m)):=nr rfl
theorem ADw(x:Operand)(L:A9)(n m:Nat):Dm pm s x (.vw L n m)=A7g L n m (s.look pm L n m):=by
 simp only [Dm]
 cases s.look pm L n m with
 | none=>rfl
 | some o=>cases o<;>rfl
def zz(T:Tys):Option (TypeId×List D×Option (A9×Nat×Nat))→Option D
 | some (e,xs,_)=>if T.known e then some (.int .i64 (T.len e xs))else none
 | none=>none
theorem A7i(e:TypeId)(xs:List D)(o:Option (A9×Nat×Nat))(hk:T.known e=true):zz T (some (e,xs,o))=some (.int .i64 (T.len e xs)):=by simp [zz,hk]
def ln0(T:Tys)(pm:Pm)(s:St)(x:Operand)(d:D):Ty→Option D
 | .string=>match d with | .str b=>some (.int .i64 b.size) | _=>none
 | .slice _=>zz T (Dm pm s x d)
 | _=>none
theorem lnT(x:Operand)(d:D):QO T pm s t x d=ln0 T pm s x d (T.ty t):=by
 unfold QO ln0
 cases T.ty t with
 | slice e=>
  simp only
  cases Dm pm s x d with
  | none=>rfl
  | some q=>rfl
 | string=>cases d<;>rfl
 | _=>rfl
theorem A7j(x:Operand)(e:TypeId)(xs:List D):Qm T pm s t x (.sl e xs)=QO T pm s t x (.sl e xs):=nr rfl
theorem A3Z(x:Operand)(e:TypeId)(xs:List D):Qm T pm s t x (.own e xs)=QO T pm s t x (.own e xs):=nr rfl
def lnW(T:Tys)(pm:Pm)(s:St)(t:TypeId)(x:Operand)(L:A9)(n m:Nat):Ty→Option D
 | .map _ _=>(s.lookM pm L n).map fun q=> .int .i64 q.2.2.length
 | _=>QO T pm s t x (.vw L n m)
theorem A7k(x:Operand)(L:A9)(n m:Nat):Qm T pm s t x (.vw L n m)=lnW T pm s t x L n m (T.ty t):=by
 show(match T.ty t with | .map _ _=>gW T pm s t x (.vw L n m) | _=>gV T pm s t x (.vw L n m))=_
 unfold lnW gW
 cases h:T.ty t<;>simp only [aW]<;>first | rfl | (cases s.lookM pm L n<;>rfl)
theorem ADz(T:Tys)(x:Operand)(L:A9)(n m:Nat)(e:TypeId):lnW T pm s t x L n m (.slice e)=QO T pm s t x (.vw L n m):=nr rfl
theorem A7l(x:Operand)(e:TypeId)(L:A9)(n m lo len:Nat):Qm T pm s t x (.vs e L n m lo len)=zO len (T.ty t):=nr rfl
theorem A7m(len:Nat)(e:TypeId):zO len (.slice e)=some (.int .i64 len):=nr rfl
theorem A7n(x:Operand)(e:TypeId)(xs:List D)(i:D):Uh T pm s t x (.sl e xs) i=EL T pm s t x (.sl e xs) i:=nr rfl
theorem A3a(x:Operand)(e:TypeId)(xs:List D)(i:D):Uh T pm s t x (.own e xs) i=EL T pm s t x (.own e xs) i:=nr rfl
theorem A7o(x:Operand)(L:A9)(n m:Nat)(i:D):Uh T pm s t x (.vw L n m) i=EL T pm s t x (.vw L n m) i:=nr rfl
def A00(T:Tys)(e e1:TypeId)(L:A9)(va vb lo len:Nat)(n:Int):Option D→Option D
 | some (.own e2 xs)=>if e1=e∧e2=e∧T.known e=true∧T.size e=1∧0≤n∧n.toNat<len∧lo+len≤xs.length then some (.pe L (lo+n.toNat) va vb)else none
 | _=>none
def A3b(T:Tys)(pm:Pm)(s:St)(e1:TypeId)(L:A9)(va vb lo len:Nat)(n:Int):Ty→Option D
 | .slice e=>A00 T e e1 L va vb lo len n (s.look pm L va vb)
 | _=>none
theorem A7p(x:Operand)(e:TypeId)(L:A9)(va vb lo len:Nat)(k:IntKind)(n:Int):Uh T pm s t x (.vs e L va vb lo len) (.int k n)=A3b T pm s e L va vb lo len n (T.ty t):=by
 show uO T pm s t e L va vb lo len (.int k n)=_
 unfold uO A3b
 cases T.ty t with
 | slice e'=>
  simp only;rcases s.look pm L va vb with _ | d
  ·rfl
  ·cases d<;>rfl
 | _=>rfl
theorem A7q(e1:TypeId)(L:A9)(va vb lo len:Nat)(n:Int)(e:TypeId):A3b T pm s e1 L va vb lo len n (.slice e)=A00 T e e1 L va vb lo len n (s.look pm L va vb):=nr rfl
theorem A7r(e:TypeId)(L:A9)(va vb lo len:Nat)(n:Int)(xs:List D)(hk:T.known e=true)(hz:T.size e=1)(h1:0≤n∧n.toNat<len)(h2:lo+len≤xs.length):A00 T e e L va vb lo len n (some (.own e xs))=some (.pe L (lo+n.toNat) va vb):=by
 unfold A00;dsimp only;rw [if_pos ⟨rfl,rfl,hk,hz,h1.1,h1.2,h2⟩]
theorem AE0(x:Operand)(d:D)(e:TypeId):ln0 T pm s x d (.slice e)=zz T (Dm pm s x d):=nr rfl
theorem A7s(e:TypeId)(xs:List D)(h:T.size e=1):T.len e xs=xs.length:=by simp [Tys.len,h]
def at1(T:Tys)(e:TypeId)(n:Int):Option (TypeId×List D×Option (A9×Nat×Nat))→Option D
 | some (e',xs,o)=>
  if e'=e∧T.known e=true∧0≤n∧n.toNat<T.len e xs then
   match o with
   | none=>some (.cptr ((xs.drop (n.toNat*T.size e)).take (T.size e)))
   | some (L,a,b)=>some (.pe L (n.toNat*T.size e) a b)
  else none
 | none=>none
def ix0(T:Tys)(pm:Pm)(s:St)(x:Operand)(d:D)(n:Int):Ty→Option D
 | .slice e=>at1 T e n (Dm pm s x d)
 | _=>none
theorem ixT(x:Operand)(d:D)(k:IntKind)(n:Int):EL T pm s t x d (.int k n)=ix0 T pm s x d n (T.ty t):=by
 unfold EL ix0
 cases T.ty t with
 | slice e=>
  simp only
  cases Dm pm s x d with
  | none=>rfl
  | some q=>rfl
 | _=>rfl
theorem AE2(x:Operand)(d:D)(n:Int)(e:TypeId):ix0 T pm s x d n (.slice e)=at1 T e n (Dm pm s x d):=nr rfl
theorem AE3(e:TypeId)(n:Int)(xs:List D)(hk:T.known e=true)(hz:T.size e=1)(hn:0≤n∧n.toNat<xs.length):at1 T e n (some (e,xs,none))=some (.cptr [xs.getD n.toNat .undef]):=by
 simp only [at1,hk,hz,Tys.len,if_true];rw [if_pos ⟨trivial,trivial,hn.1,hn.2⟩,Ky,aS hn.2,Kw,FV hn.2];rfl
theorem AE4(e:TypeId)(n:Int)(xs:List D)(L:A9)(a b:Nat)(hk:T.known e=true)(hz:T.size e=1)(hn:0≤n∧n.toNat<xs.length):at1 T e n (some (e,xs,some (L,a,b)))=some (.pe L n.toNat a b):=by
 simp only [at1,hk,hz,Tys.len,if_true];rw [if_pos ⟨trivial,trivial,hn.1,hn.2⟩,Ky]
end
section
variable {T:Tys} {pm:Pm} {s:St} {t:TypeId} (u:Tmp)
def Zp(pm:Pm)(s:St)(u:Tmp)(d:D):Option (D×St):=CP pm (if d.hasObj then s.clr u else s) d
theorem A7t:take T pm s t (.tmp u)=Zp pm s u (s.v u):=nr rfl
theorem tkC(v:Value):take T pm s t (.const v)=match ev T s t (.const v)with | none=>none | some d=>CP pm s d:=nr rfl
theorem A7u(k:IntKind)(n:Int):CP pm s (.int k n)=some (.int k n,s):=by simp [CP]
theorem AE5(e:TypeId)(xs:List D):CP pm s (.sl e xs)=some (.sl e xs,s):=by simp [CP]
theorem A7v(e:TypeId)(xs:List D):CP pm s (.own e xs)=some (.own e xs,s):=by simp [CP]
theorem AE6(L:A9)(n m:Nat):CP pm s (.vw L n m)=Qf pm s L n m:=by simp [CP]
def td1:Option (List D×St)→Option (D×St)
 | some r=>some (.agg r.1,r.2)
 | none=>none
theorem AE7(r:List D×St):td1 (some r)=some (.agg r.1,r.2):=nr rfl
theorem A7x(xs:List D):CP pm s (.agg xs)=td1 (FI pm s xs):=by simp only [CP];cases FI pm s xs<;>rfl
def td2(pm:Pm)(ds:List D):Option (D×St)→Option (List D×St)
 | some r=>(FI pm r.2 ds).map fun q=>(r.1::q.1,q.2)
 | none=>none
theorem AE8(ds:List D)(d:D):td2 pm ds (some (d,s))=(FI pm s ds).map fun q=>(d::q.1,q.2):=nr rfl
theorem A3d:FI pm s []=some ([],s):=by simp [FI]
theorem A01(d:D)(ds:List D):FI pm s (d::ds)=td2 pm ds (CP pm s d):=by simp only [FI];cases CP pm s d<;>rfl
theorem A7y(k:IntKind)(n:Int):Zp pm s u (.int k n)=some (.int k n,s):=by simp [Zp,CP,D.hasObj]
theorem A3e(b:Bool):Zp pm s u (.bool b)=some (.bool b,s):=by simp [Zp,CP,D.hasObj]
theorem AE9(e:TypeId)(xs:List D):Zp pm s u (.sl e xs)=some (.sl e xs,s):=by simp [Zp,CP,D.hasObj]
theorem A7z(e:TypeId)(xs:List D):Zp pm s u (.own e xs)=some (.own e xs,s.clr u):=by simp [Zp,CP,D.hasObj]
theorem A80(xs:List D):Zp pm s u (.box xs)=some (.box xs,s.clr u):=by simp [Zp,CP,D.hasObj]
theorem A81(f:FuncId)(xs:List D):Zp pm s u (.clo f xs)=some (.clo f xs,s):=by simp [Zp,CP,D.hasObj]
theorem A3f(xs:List D):Zp pm s u (.cptr xs)=some (.cptr xs,s):=by simp [Zp,CP,D.hasObj]
theorem AEA(L:A9)(n m:Nat):Zp pm s u (.vw L n m)=Qf pm s L n m:=by simp [Zp,CP,D.hasObj]
theorem A82(xs:List D):Zp pm s u (.agg xs)=td1 (FI pm (if Ac xs then s.clr u else s) xs):=by
 simp only [Zp,D.hasObj];rw [A7x];rfl
theorem A3g:Ac []=false:=by simp [Ac]
theorem ol(d:D)(ds:List D):Ac (d::ds)=(d.hasObj||Ac ds):=by simp [Ac]
theorem A83(e:TypeId)(xs:List D):(D.sl e xs).hasObj=false:=by simp [D.hasObj]
theorem A84(e:TypeId)(xs:List D):(D.own e xs).hasObj=true:=by simp [D.hasObj]
theorem A85(xs:List D):(D.box xs).hasObj=true:=by simp [D.hasObj]
theorem AEB(L:A9)(n m:Nat):(D.vw L n m).hasObj=false:=by simp [D.hasObj]
theorem A86(xs:List D):(D.agg xs).hasObj=Ac xs:=by simp [D.hasObj]
theorem A87(xs:List D):(D.tup xs).hasObj=Ac xs:=by simp [D.hasObj]
def pl1(s:St)(r:Nat):Option D→Option (D×St)
 | some c=>some (c,s.set [r] .undef)
 | none=>none
theorem AED(r:Nat)(c:D):pl1 s r (some c)=some (c,s.set [r] .undef):=nr rfl
theorem A88(r n m:Nat)(hw:pm.wr r=true):Qf pm s [r] n m=pl1 s r (s.look pm [r] n m):=by
 unfold Qf
 cases s.look pm [r] n m with
 | none=>rfl
 | some c=>simp [hw,St.get,pl1]
def pl2(s:St)(L:A9)(o:Option D):Option D→Option (D×St)
 | some c=>match o with
  | some (.own _ _)=>(Dl c).map fun c'=>(c',s.set L c')
  | _=>some (c,s.set L .undef)
 | none=>none
theorem AEE(L:A9)(xs:List D)(c:D):pl2 s L (some (.box xs)) (some c)=some (c,s.set L .undef):=nr rfl
theorem AEF(L:A9)(xs:List D)(c:D):pl2 s L (some (.agg xs)) (some c)=some (c,s.set L .undef):=nr rfl
theorem AEG(L:A9)(e:TypeId)(xs:List D)(c:D):pl2 s L (some (.own e xs)) (some c)=(Dl c).map fun c'=>(c',s.set L c'):=nr rfl
theorem A89(u' c n m:Nat)(p:A9)(hw:pm.wr u'=true):Qf pm s (u'::c::p) n m=pl2 s (u'::c::p) (s.get (u'::c::p).dropLast) (s.look pm (u'::c::p) n m):=by
 unfold Qf
 cases s.look pm (u'::c::p) n m with
 | none=>rfl
 | some d=>simp only [Yn,hw,if_true,pl2];rfl
theorem AEH(r:Nat):s.get [r]=some (s.v r):=nr rfl
theorem A8A(d:D):BK d []=some d:=by cases d<;>rfl
theorem A8B(e:TypeId)(xs:List D)(c:Nat)(p:A9):BK (.own e xs) (c::p)=(xs[c]?).bind fun d=>BK d p:=nr rfl
theorem A8C(xs:List D)(c:Nat)(p:A9):BK (.box xs) (c::p)=(xs[c]?).bind fun d=>BK d p:=nr rfl
theorem A8D(xs:List D)(c:Nat)(p:A9):BK (.agg xs) (c::p)=(xs[c]?).bind fun d=>BK d p:=nr rfl
theorem A8E(d x:D):GX d [] x=x:=by cases d<;>rfl
theorem A8F(e:TypeId)(xs:List D)(c:Nat)(p:A9)(x:D):GX (.own e xs) (c::p) x= .own e (xs.set c (GX (xs.getD c .undef) p x)):=nr rfl
theorem A8G(xs:List D)(c:Nat)(p:A9)(x:D):GX (.box xs) (c::p) x= .box (xs.set c (GX (xs.getD c .undef) p x)):=nr rfl
theorem A8H(xs:List D)(c:Nat)(p:A9)(x:D):GX (.agg xs) (c::p) x= .agg (xs.set c (GX (xs.getD c .undef) p x)):=nr rfl
end
section
variable {T:Tys} {pm:Pm} {s:St} {t:TypeId}
def gN(T:Tys)(pm:Pm)(t:TypeId)(ax:Operand):Option (D×St)→Option St
 | none=>none
 | some (d,s1)=>
  match ev T s1 t ax with
  | none=>none
  | some ad=>
   match Jn pm s1 ax ad with
   | none=>none
   | some (L,c,o)=>
    if T.known t&&pm.wr (L.headD 0)&&d.asCells.all Cz&&(T.size t==d.asCells.length)&&(T.isStruct t==d.isAgg)&&decide (c+T.size t≤o.cells.length)then
     let s2:=s1.set L (o.withCells (CQ o.cells c d.asCells))
     some (if d.hasObj||Ac o.cells then s2.bump (L.headD 0)else s2)
    else none
theorem A3h(ax x:Operand):Kz T pm s t ax x=gN T pm t ax (take T pm s t x):=by
 unfold Kz Fq gN;rcases take T pm s t x with _ | ⟨d,s1⟩<;>rfl
theorem A02(ax:Operand)(q:Option (D×St)):Fq T pm t ax q=gN T pm t ax q:=by
 unfold Fq gN;rcases q with _ | ⟨d,s1⟩<;>rfl
def tm1(T:Tys)(pm:Pm)(s:St)(t:TypeId)(u:Tmp):D→Option (D×St)
 | .vw L n m=>Wu pm s L n m
 | _=>take T pm s t (.tmp u)
theorem A3i(u:Tmp):NT T pm s t (.tmp u)=tm1 T pm s t u (s.v u):=by
 unfold NT;simp only [ev]
 cases s.v u<;>rfl
def tm2(s:St)(L:A9):Option D→Option (D×St)
 | some c=>some (c,s.set L .undef)
 | none=>none
theorem AEK(u:Tmp)(L:A9)(n m:Nat)(hw:pm.wr (L.headD 0)=true):tm1 T pm s t u (.vw L n m)=tm2 s L (s.look pm L n m):=by
 show Wu pm s L n m=_
 unfold Wu tm2
 cases s.look pm L n m with
 | none=>rfl
 | some c=>simp only [hw,if_true]
theorem A3j(u:Tmp)(e:TypeId)(xs:List D):tm1 T pm s t u (.own e xs)=take T pm s t (.tmp u):=nr rfl
theorem AEL(L:A9)(c:D):tm2 s L (some c)=some (c,s.set L .undef):=nr rfl
def zJ(s1:St)(L:A9)(c:Nat)(d:D):Option D→Option St
 | none=>none
 | some o=>if c<o.cells.length then(if d.hasObj||Ac o.cells then some ((s1.set L (o.withCells (o.cells.set c d))).bump (L.headD 0))else some (s1.set L (o.withCells (o.cells.set c d))))else none
def sd1(T:Tys)(pm:Pm)(t:TypeId)(u:Tmp)(d:D)(s:St):D→Option St
 | .pe L c n m=>if T.known t&& !T.isStruct t&&pm.wr (L.headD 0)&&Cz d then zJ s L c d (s.look pm L n m)else gN T pm t (.tmp u) (some (d,s))
 | .vw L n m=>if T.known t&& !T.isStruct t&&pm.wr (L.headD 0)&&Cz d then zJ s L 0 d (U2 s pm L n m)else gN T pm t (.tmp u) (some (d,s))
 | .box xs=>if T.known t&& !T.isStruct t&&pm.wr u&&Cz d then zJ s [u] 0 d (some (.box xs))else gN T pm t (.tmp u) (some (d,s))
 | _=>gN T pm t (.tmp u) (some (d,s))
theorem R4{d:D}(hd:Cz d=true):d.asCells=[d]∧d.isAgg=false:=by
 cases d<;>first | exact⟨rfl,rfl⟩ | (simp [Cz]at hd)
theorem PP{T:Tys}{t:TypeId}(hs:T.isStruct t=false):T.size t=1:=by
 unfold Tys.isStruct at hs;unfold Tys.size
 cases hty:T.ty t<;>simp_all [Ty.isStruct,Ty.size]
theorem AEM(u:Tmp)(d:D)(_:d.isAgg=false):gN T pm t (.tmp u) (some (d,s))=sd1 T pm t u d s (s.v u):=by
 cases hv:s.v u<;>simp only [sd1]
 case pe L c n m=>
  split
  ·rename_i hc
   simp only [JM,Oi]at hc;obtain⟨⟨⟨hk,hs⟩,hw⟩,hd⟩:=hc;obtain⟨ha,hg⟩:=R4 hd;have hz:=PP hs;simp only [gN,ev,hv,Jn]
   cases s.look pm L n m with
   | none=>rfl
   | some o=>
    simp only [zJ,hk,hw,ha,hz,hs,hg,Ws,hd,List.all_nil,Ik,Qe,Bool.and_true,CQ,beq_self_eq_true,Lj];by_cases hc:c<o.cells.length
    ·have h1:c+1≤o.cells.length:=hc;simp only [hc,h1,decide_true,Bool.and_true,if_true];split<;>first | rfl | (rename_i hq;simp only [hq];rfl)
    ·have h1: ¬c+1≤o.cells.length:=hc;simp only [hc,h1,decide_false,Bool.and_false,Mw,if_false]
  ·rfl
 case vw L n m=>
  split
  ·rename_i hc
   simp only [JM,Oi]at hc;obtain⟨⟨⟨hk,hs⟩,hw⟩,hd⟩:=hc;obtain⟨ha,hg⟩:=R4 hd;have hz:=PP hs;simp only [gN,ev,hv,Jn,U2]
   cases s.look pm L n m with
   | none=>rfl
   | some o=>
    cases o<;>try rfl
    rename_i xs
    simp only [zJ,hk,hw,ha,hz,hs,hg,Ws,hd,List.all_nil,Ik,Qe,Bool.and_true,CQ,beq_self_eq_true,Lj,D.cells];by_cases hc:0<xs.length
    ·have h1:1≤xs.length:=hc;simp only [hc,h1,decide_true,Bool.and_true,if_true];split<;>first | rfl | (rename_i hq;simp only [hq];rfl)
    ·have h1: ¬1≤xs.length:=hc;simp only [hc,h1,decide_false,Bool.and_false,Mw,if_false]
  ·rfl
 case box xs=>
  split
  ·rename_i hc
   simp only [JM,Oi]at hc;obtain⟨⟨⟨hk,hs⟩,hw⟩,hd⟩:=hc;obtain⟨ha,hg⟩:=R4 hd;have hz:=PP hs;simp only [gN,ev,hv,Jn];simp only [zJ,hk,hw,ha,hz,hs,hg,Ws,hd,List.all_nil,Ik,Qe,Bool.and_true,CQ,beq_self_eq_true,Lj,D.cells,Yn];by_cases hc:0<xs.length
   ·have h1:1≤xs.length:=hc;simp only [hc,h1,decide_true,Bool.and_true,if_true];split<;>first | rfl | (rename_i hq;simp only [hq];rfl)
   ·have h1: ¬1≤xs.length:=hc;simp only [hc,h1,decide_false,Bool.and_false,Mw,if_false]
  ·rfl
theorem AEN(u:Tmp)(d:D)(L:A9)(c n m:Nat)(hk:T.known t=true)(hs:T.isStruct t=false)(hw:pm.wr (L.headD 0)=true)(hd:Cz d=true):sd1 T pm t u d s (.pe L c n m)=zJ s L c d (s.look pm L n m):=by
 simp [sd1,hk,hs,hd];intro h;simp_all
theorem AEO(u:Tmp)(d:D)(L:A9)(n m:Nat)(hk:T.known t=true)(hs:T.isStruct t=false)(hw:pm.wr (L.headD 0)=true)(hd:Cz d=true):sd1 T pm t u d s (.vw L n m)=zJ s L 0 d (U2 s pm L n m):=by
 simp [sd1,hk,hs,hd];intro h;simp_all
theorem AEP(u:Tmp)(d:D)(xs:List D)(hk:T.known t=true)(hs:T.isStruct t=false)(hw:pm.wr u=true)(hd:Cz d=true):sd1 T pm t u d s (.box xs)=zJ s [u] 0 d (some (.box xs)):=by
 simp [sd1,hk,hs,hd];intro h;simp_all
def bx1:Option D→Option D
 | some (.box xs)=>some (.box xs)
 | _=>none
theorem bxA(L:A9)(n m:Nat):U2 s pm L n m=bx1 (s.look pm L n m):=by
 unfold U2 bx1
 cases s.look pm L n m with
 | none=>rfl
 | some o=>cases o<;>rfl
theorem AER(xs:List D):bx1 (some (.box xs))=some (.box xs):=nr rfl
theorem hdC(a:Nat)(l:A9)(d:Nat):List.headD (a::l) d=a:=nr rfl
theorem AES(L:A9)(c:Nat)(d o:D):zJ s L c d (some o)=if c<o.cells.length then(if d.hasObj||Ac o.cells then some ((s.set L (o.withCells (o.cells.set c d))).bump (L.headD 0))else some (s.set L (o.withCells (o.cells.set c d))))else none:=nr rfl
theorem A8I(e:TypeId)(xs:List D):(D.own e xs).cells=xs:=nr rfl
theorem A8J(xs:List D):(D.box xs).cells=xs:=nr rfl
theorem A8K(e:TypeId)(xs ys:List D):(D.own e xs).withCells ys= .own e ys:=nr rfl
theorem A8L(xs ys:List D):(D.box xs).withCells ys= .box ys:=nr rfl
theorem A8M(k:IntKind)(n:Int):Cz (.int k n)=true:=nr rfl
theorem A3k(b:Bool):Cz (.bool b)=true:=nr rfl
theorem AET(e:TypeId)(xs:List D):Cz (.sl e xs)=true:=nr rfl
theorem A8N(e:TypeId)(xs:List D):Cz (.own e xs)=true:=nr rfl
theorem ceS(L:A9)(c:Nat)(o:D):R3 s L c (some o)=(o.cells[c]?).bind fun x=>DF (HV s L c x):=nr rfl
theorem AEU(L:A9)(c:Nat)(e:TypeId)(xs:List D):DF (HV s L c (.sl e xs))=some (.sl e xs):=nr rfl
theorem A3l(L:A9)(c:Nat)(xs:List D):DF (HV s L c (.cptr xs))=some (.cptr xs):=nr rfl
theorem AEV(r:Nat)(p:A9):kv s (r::p)= .vw (r::p) (s.k r) (s.m r):=nr rfl
def ap1(T:Tys)(pm:Pm)(e:TypeId)(ty:TypeId)(y:Operand):Option (D×St)→Option (D×St)
 | some (.own e1 xs,s1)=>
   match ev T s1 ty y with
   | some d=>
    match Dm pm s1 y d with
    | some (e2,ys,_)=>
     if e1=e∧e2=e∧T.elem e=true∧ys.all Cz=true∧xs.length+ys.length<1099511627776 then
      if Ac ys then
       match d,y with
       | .own _ _,.tmp u=>some (.own e (xs++ys),s1.clr u)
       | _,_=>none
      else some (.own e (xs++ys),s1)
     else none
    | none=>none
   | none=>none
 | _=>none
def az1(T:Tys)(e:TypeId):Option (D×St)→Option (D×St)
 | some (.own e1 xs,s1)=>if e1=e∧T.known e=true then some (.own e xs,s1)else none
 | _=>none
def az0(T:Tys)(pm:Pm)(s:St)(ty:TypeId)(x:Operand):Ty→Option (D×St)
 | .slice e=>az1 T e (take T pm s ty x)
 | _=>none
theorem A8Q(ty:TypeId)(x:Operand):NU T pm s ty x=az0 T pm s ty x (T.ty ty):=by
 unfold NU az0
 cases T.ty ty with
 | slice e=>
  simp only [az1];rcases take T pm s ty x with _ | ⟨d,s1⟩
  ·rfl
  ·cases d<;>rfl
 | _=>rfl
theorem Wh{T:Tys}{e:TypeId}(hk:T.known e=true)(h4:T.size e≤4):T.elem e=true:=by simp [Tys.elem,hk,h4]
theorem AEX(ty:TypeId)(x:Operand)(e:TypeId):az0 T pm s ty x (.slice e)=az1 T e (take T pm s ty x):=nr rfl
theorem AEY(e:TypeId)(xs:List D)(hk:T.known e=true):az1 T e (some (.own e xs,s))=some (.own e xs,s):=by simp [az1,hk]
def ap0(T:Tys)(pm:Pm)(s:St)(ty:TypeId)(x y:Operand):Ty→Option (D×St)
 | .slice e=>ap1 T pm e ty y (NT T pm s ty x)
 | _=>none
theorem AEa(ty:TypeId)(x y:Operand):IC T pm s ty x y=ap0 T pm s ty x y (T.ty ty):=by
 unfold IC ap0
 cases T.ty ty with
 | slice e=>
  simp only [ap1];rcases NT T pm s ty x with _ | ⟨d,s1⟩
  ·rfl
  ·cases d<;>rfl
 | _=>rfl
theorem AEb(ty:TypeId)(x y:Operand)(e:TypeId):ap0 T pm s ty x y (.slice e)=ap1 T pm e ty y (NT T pm s ty x):=nr rfl
def ap2(T:Tys)(e e1:TypeId)(xs:List D)(s:St)(u:Tmp)(d:D):Option (TypeId×List D×Option (A9×Nat×Nat))→Option (D×St)
 | some (e2,ys,_)=>
     if e1=e∧e2=e∧T.elem e=true∧ys.all Cz=true∧xs.length+ys.length<1099511627776 then
      if Ac ys then
       match d with
       | .own _ _=>some (.own e (xs++ys),s.clr u)
       | _=>none
      else some (.own e (xs++ys),s)
     else none
 | none=>none
theorem AEc(ty e e1:TypeId)(u:Tmp)(xs:List D):ap1 T pm e ty (.tmp u) (some (.own e1 xs,s))=ap2 T e e1 xs s u (s.v u) (Dm pm s (.tmp u) (s.v u)):=by
 simp only [ap1,ev,ap2];rcases Dm pm s (.tmp u) (s.v u)with _ | ⟨e2,ys,o⟩
 ·rfl
 ·simp only;split
  ·split
   ·cases s.v u<;>rfl
   ·rfl
  ·rfl
theorem AEd(e:TypeId)(u:Tmp)(xs ys:List D)(d:D)(o:Option (A9×Nat×Nat))(hk:T.known e=true)(h4:T.size e≤4)(hy:ys.all Cz=true)(hno:Ac ys=false)(hl:xs.length+ys.length<1099511627776):
  ap2 T e e xs s u d (some (e,ys,o))=some (.own e (xs++ys),s):=by
 simp only [ap2];rw [if_pos ⟨trivial,trivial,Wh hk h4,hy,hl⟩,hno];simp
theorem AEe(e e':TypeId)(u:Tmp)(xs ys zs:List D)(o:Option (A9×Nat×Nat))(hk:T.known e=true)(h4:T.size e≤4)(hy:ys.all Cz=true)(hno:Ac ys=true)(hl:xs.length+ys.length<1099511627776):
  ap2 T e e xs s u (.own e' zs) (some (e,ys,o))=some (.own e (xs++ys),s.clr u):=by
 simp only [ap2];rw [if_pos ⟨trivial,trivial,Wh hk h4,hy,hl⟩,hno];simp
end
section
variable {E:Env} {pm:Pm} {s:St} {dst:Option Tmp}
def jJ(a:D)(l:List (A9×D)):Option (List D×List (A9×D))→Option (List D×List (A9×D))
 | some (as,ls)=>some (a::as,l++ls)
 | none=>none
theorem A3m(a:D)(l:List (A9×D))(as:List D)(ls:List (A9×D)):jJ a l (some (as,ls))=some (a::as,l++ls):=nr rfl
def Vn(E:Env)(lend:Bool)(pm:Pm)(s:St)(j:Nat)(rest:List (Operand×TypeId)):Option (D×List (A9×D))→Option (List D×List (A9×D))
 | some (a,l)=>jJ a l (Di E lend pm s (j+l.length) rest)
 | none=>none
theorem A3n(lend:Bool)(j:Nat)(rest:List (Operand×TypeId))(a:D)(l:List (A9×D)):Vn E lend pm s j rest (some (a,l))=jJ a l (Di E lend pm s (j+l.length) rest):=nr rfl
theorem A8R(lend:Bool)(j:Nat):Di E lend pm s j []=some ([],[]):=nr rfl
theorem A8S(lend:Bool)(j:Nat)(u:Tmp)(t:TypeId)(rest:List (Operand×TypeId)):Di E lend pm s j ((.tmp u,t)::rest)=Vn E lend pm s j rest (MS E.T lend pm s j [u] (s.v u)):=by
 simp only [Di,ev];rcases MS E.T lend pm s j [u] (s.v u)with _ | ⟨a,l⟩
 ·rfl
 ·simp only [Vn];rcases Di E lend pm s (j+l.length) rest with _ | ⟨as,ls⟩<;>rfl
def aC(E:Env)(lend:Bool)(pm:Pm)(s:St)(j:Nat)(rest:List (Operand×TypeId)):Option D→Option (List D×List (A9×D))
 | some d=>Vn E lend pm s j rest (MS E.T lend pm s j [] d)
 | none=>none
theorem aCS(lend:Bool)(j:Nat)(rest:List (Operand×TypeId))(d:D):aC E lend pm s j rest (some d)=Vn E lend pm s j rest (MS E.T lend pm s j [] d):=nr rfl
theorem arC(lend:Bool)(j:Nat)(v:Value)(t:TypeId)(rest:List (Operand×TypeId)):Di E lend pm s j ((.const v,t)::rest)=aC E lend pm s j rest (ev E.T s t (.const v)):=by
 simp only [Di]
 cases ev E.T s t (.const v)with
 | none=>rfl
 | some d=>
  simp only [aC];rcases MS E.T lend pm s j [] d with _ | ⟨a,l⟩
  ·rfl
  ·simp only [Vn];rcases Di E lend pm s (j+l.length) rest with _ | ⟨as,ls⟩<;>rfl
theorem arF(lend:Bool)(j:Nat)(f:FuncId)(t:TypeId)(rest:List (Operand×TypeId)):Di E lend pm s j ((.func f,t)::rest)=Vn E lend pm s j rest (MS E.T lend pm s j [] (.clo f [])):=by
 simp only [Di,ev];rcases MS E.T lend pm s j [] (.clo f [])with _ | ⟨a,l⟩
 ·rfl
 ·simp only [Vn];rcases Di E lend pm s (j+l.length) rest with _ | ⟨as,ls⟩<;>rfl
variable (lend:Bool) (j:Nat) (L:A9)
theorem A8T(T:Tys)(k:IntKind)(n:Int):MS T lend pm s j L (.int k n)=Cs lend pm s j L (.int k n):=nr rfl
theorem A3o(T:Tys)(b:Bool):MS T lend pm s j L (.bool b)=Cs lend pm s j L (.bool b):=nr rfl
theorem AEf(T:Tys)(e:TypeId)(xs:List D):MS T lend pm s j L (.sl e xs)=Cs lend pm s j L (.sl e xs):=nr rfl
theorem A8U(T:Tys)(f:FuncId)(xs:List D):MS T lend pm s j L (.clo f xs)=Cs lend pm s j L (.clo f xs):=nr rfl
theorem A3p(T:Tys)(xs:List D):MS T lend pm s j L (.cptr xs)=Cs lend pm s j L (.cptr xs):=nr rfl
theorem axK(T:Tys)(v:Value):MS T lend pm s j L (.konst v)=Cs lend pm s j L (.konst v):=nr rfl
theorem A8V(T:Tys)(e:TypeId)(xs:List D):MS T lend pm s j L (.own e xs)=Cs lend pm s j L (.own e xs):=nr rfl
theorem A8W(T:Tys)(xs:List D):MS T lend pm s j L (.box xs)=Cs lend pm s j L (.box xs):=nr rfl
theorem AEg(T:Tys)(M:A9)(n m:Nat):MS T lend pm s j L (.vw M n m)=Cs lend pm s j L (.vw M n m):=nr rfl
theorem A8X(T:Tys)(xs:List D):MS T lend pm s j L (.agg xs)=Cs lend pm s j L (.agg xs):=nr rfl
theorem A8Y(k:IntKind)(n:Int):Cs lend pm s j L (.int k n)=some (.int k n,[]):=nr rfl
theorem A3q(b:Bool):Cs lend pm s j L (.bool b)=some (.bool b,[]):=nr rfl
theorem AEh(e:TypeId)(xs:List D):Cs lend pm s j L (.sl e xs)=some (.sl e xs,[]):=nr rfl
theorem A8Z(f:FuncId)(xs:List D):Cs lend pm s j L (.clo f xs)=some (.clo f xs,[]):=nr rfl
theorem A3r(xs:List D):Cs lend pm s j L (.cptr xs)=some (.cptr xs,[]):=nr rfl
theorem atK(v:Value):Cs lend pm s j L (.konst v)=some (.konst v,[]):=nr rfl
def fz1(l:List (A9×D)):Option D→Option (D×List (A9×D))
 | some c=>some (c,l)
 | none=>none
theorem AEi(l:List (A9×D))(c:D):fz1 l (some c)=some (c,l):=nr rfl
theorem A8b(e:TypeId)(xs:List D):Cs false pm s j L (.own e xs)=fz1 [(L,.own e xs)] (Dl (.own e xs)):=by
 show((Dl (.own e xs)).map fun c'=>(c',[(L,D.own e xs)]))=_
 cases Dl (.own e xs)<;>rfl
theorem A8c(xs:List D):Cs false pm s j L (.box xs)=fz1 [(L,.box xs)] (Dl (.box xs)):=by
 show((Dl (.box xs)).map fun c'=>(c',[(L,D.box xs)]))=_
 cases Dl (.box xs)<;>rfl
def fz2(L:A9):Option D→Option (D×List (A9×D))
 | some c=>fz1 [(L,c)] (Dl c)
 | none=>none
theorem AEk(c:D):fz2 L (some c)=fz1 [(L,c)] (Dl c):=nr rfl
theorem AEl(M:A9)(n m:Nat):Cs false pm s j L (.vw M n m)=fz2 M (s.look pm M n m):=by
 simp only [Cs,FQ]
 cases s.look pm M n m with
 | none=>rfl
 | some c=>simp only [fz2];cases Dl c<;>rfl
theorem A3s(e:TypeId)(xs:List D):Cs true pm s j L (.own e xs)=some (.vw [G+j] 0 0,[(L,.own e xs)]):=nr rfl
def ln2(j:Nat)(L:A9):Option D→Option (D×List (A9×D))
 | some c=>some (.vw [G+j] 0 0,[(L,c)])
 | none=>none
theorem AEm(c:D):ln2 j L (some c)=some (.vw [G+j] 0 0,[(L,c)]):=nr rfl
theorem A8d(M:A9)(n m:Nat):Cs true pm s j L (.vw M n m)=ln2 j M (s.look pm M n m):=by
 simp only [Cs,FQ]
 cases s.look pm M n m<;>rfl
def ag1:Option (List D×List (A9×D))→Option (D×List (A9×D))
 | some r=>some (.agg r.1,r.2)
 | none=>none
theorem AEn(r:List D×List (A9×D)):ag1 (some r)=some (.agg r.1,r.2):=nr rfl
theorem A8e(xs:List D):Cs lend pm s j L (.agg xs)=ag1 (Ed lend pm s L j 0 xs):=by
 simp only [Cs]
 cases Ed lend pm s L j 0 xs<;>rfl
def wE(lend:Bool)(pm:Pm)(s:St)(L0:A9)(j i:Nat)(ds:List D):Option (D×List (A9×D))→Option (List D×List (A9×D))
 | some (a,l)=>jJ a l (Ed lend pm s L0 (j+l.length) (i+1) ds)
 | none=>none
theorem A3t(i:Nat)(ds:List D)(a:D)(l:List (A9×D)):wE lend pm s L j i ds (some (a,l))=jJ a l (Ed lend pm s L (j+l.length) (i+1) ds):=nr rfl
theorem A8f(i:Nat):Ed lend pm s L j i []=some ([],[]):=nr rfl
theorem A3u(i:Nat)(d:D)(ds:List D)(h:d.isAgg=false):Ed lend pm s L j i (d::ds)=wE lend pm s L j i ds (Cs lend pm s j (L++[i]) d):=by
 have:Cs lend pm s j (L++[i]) d=FQ lend pm s j (L++[i]) d:=by cases d<;>first | rfl | (simp [D.isAgg]at h)
 rw [this];simp only [Ed];rcases FQ lend pm s j (L++[i]) d with _ | ⟨a,l⟩
 ·rfl
 ·simp only [wE];rcases Ed lend pm s L (j+l.length) (i+1) ds with _ | ⟨as,ls⟩<;>rfl
theorem A8g(k:IntKind)(n:Int):(D.int k n).isAgg=false:=nr rfl
theorem A3v(b:Bool):(D.bool b).isAgg=false:=nr rfl
theorem AEo(e:TypeId)(xs:List D):(D.sl e xs).isAgg=false:=nr rfl
theorem A8h(e:TypeId)(xs:List D):(D.own e xs).isAgg=false:=nr rfl
theorem AEp(M:A9)(n m:Nat):(D.vw M n m).isAgg=false:=nr rfl
theorem A8i(f:FuncId)(xs:List D):(D.clo f xs).isAgg=false:=nr rfl
theorem A3w(xs:List D):(D.cptr xs).isAgg=false:=nr rfl
def cb1(E:Env)(pm:Pm)(s:St)(dst:Option Tmp)(f:FuncId)(caps:List D):Option (List D×List (A9×D))→Option St
 | none=>none
 | some (as,ls)=>
  match E.call f (as++caps) []with
  | some (r,_)=>
   if EK r then
    if Ei (ls.map (·.1))&&ls.all (fun l=>pm.wr (l.1.headD 0))then(Jt ls).map fun ls'=>(back false s ls').putO dst r else none
   else some (s.putO dst r)
  | none=>none
theorem cdB(f:FuncId)(xs:List (Operand×TypeId))(caps:List D)(h:E.lends f=false):Ha E pm s dst f xs caps=cb1 E pm s dst f caps (Di E false pm s 0 xs):=by
 unfold Ha cb1;rw [h];simp only [Mw,if_false];rcases Di E false pm s 0 xs with _ | ⟨as,ls⟩<;>rfl
def cb2(pm:Pm)(s:St)(dst:Option Tmp)(ls:List (A9×D)):Option (D×List D)→Option St
 | some (r,_)=>
   if EK r then
    if Ei (ls.map (·.1))&&ls.all (fun l=>pm.wr (l.1.headD 0))then(Jt ls).map fun ls'=>(back false s ls').putO dst r else none
   else some (s.putO dst r)
 | none=>none
theorem AEq(f:FuncId)(caps as:List D)(ls:List (A9×D)):cb1 E pm s dst f caps (some (as,ls))=cb2 pm s dst ls (E.call f (as++caps) []):=by
 simp only [cb1];rcases E.call f (as++caps) []with _ | ⟨r,o⟩<;>rfl
theorem AEr(ls:List (A9×D))(r:D)(o:List D)(h:EK r=false):cb2 pm s dst ls (some (r,o))=some (s.putO dst r):=by simp [cb2,h]
theorem AEs(r:D)(o:List D):cb2 pm s dst [] (some (r,o))=some (s.putO dst r):=by
 simp only [cb2];split<;>rfl
def cl1(E:Env)(pm:Pm)(s:St)(dst:Option Tmp)(f:FuncId)(caps:List D):Option (List D×List (A9×D))→Option St
 | none=>none
 | some (as,ls)=>
   if Ei (ls.map (·.1))&&ls.all (fun l=>pm.wr (l.1.headD 0))&&ls.all (fun l=>gY l.2)then
    match E.call f (as++caps) (ls.map (·.2))with
    | some (r,outs)=>if outs.length=ls.length then some ((MU s (ls.map (·.1)) outs).putO dst r)else none
    | none=>none
   else none
theorem cdL(f:FuncId)(xs:List (Operand×TypeId))(caps:List D)(h:E.lends f=true):Ha E pm s dst f xs caps=cl1 E pm s dst f caps (Di E true pm s 0 xs):=by
 unfold Ha cl1;rw [h];simp only [if_true];rcases Di E true pm s 0 xs with _ | ⟨as,ls⟩<;>rfl
def cl2(s:St)(dst:Option Tmp)(ls:List (A9×D)):Option (D×List D)→Option St
 | some (r,outs)=>if outs.length=ls.length then some ((MU s (ls.map (·.1)) outs).putO dst r)else none
 | none=>none
theorem AEt(f:FuncId)(caps as:List D)(ls:List (A9×D))(h:(Ei (ls.map (·.1))&&ls.all (fun l=>pm.wr (l.1.headD 0))&&ls.all (fun l=>gY l.2))=true):cl1 E pm s dst f caps (some (as,ls))=cl2 s dst ls (E.call f (as++caps) (ls.map (·.2))):=by
 simp only [cl1,h,if_true];rcases E.call f (as++caps) (ls.map (·.2))with _ | ⟨r,o⟩<;>rfl
theorem AEu(ls:List (A9×D))(r:D)(outs:List D)(h:outs.length=ls.length):cl2 s dst ls (some (r,outs))=some ((MU s (ls.map (·.1)) outs).putO dst r):=by simp [cl2,h]
end
theorem A8j(k:IntKind)(n:Int):EK (.int k n)=false:=by simp [EK]
theorem A3y(b:Bool):EK (.bool b)=false:=by simp [EK]
theorem A8k(e:TypeId)(xs:List D):EK (.own e xs)=Hl xs:=by simp [EK]
theorem A8l(xs:List D):EK (.agg xs)=Hl xs:=by simp [EK]
theorem A8m(xs:List D):EK (.tup xs)=Hl xs:=by simp [EK]
theorem A3z:Hl []=false:=by simp [Hl]
theorem A03(d:D)(ds:List D):Hl (d::ds)=(EK d||Hl ds):=by simp [Hl]
theorem A8n(k:IntKind)(n:Int):Dl (.int k n)=some (.int k n):=by simp [Dl]
theorem A40(b:Bool):Dl (.bool b)=some (.bool b):=by simp [Dl]
theorem AEv(e:TypeId)(xs:List D):Dl (.sl e xs)=some (.sl e xs):=by simp [Dl]
theorem A8o(f:FuncId)(xs:List D):Dl (.clo f xs)=some (.clo f xs):=by simp [Dl]
theorem A41(xs:List D):Dl (.cptr xs)=some (.cptr xs):=by simp [Dl]
def fzM(f:List D→D):Option (List D)→Option D
 | some xs=>some (f xs)
 | none=>none
theorem AEw(f:List D→D)(xs:List D):fzM f (some xs)=some (f xs):=nr rfl
theorem A11(e:TypeId)(xs:List D):Dl (.own e xs)=fzM (.sl e) (ES xs):=by simp only [Dl];cases ES xs<;>rfl
theorem A8q(xs:List D):Dl (.box xs)=fzM .cptr (ES xs):=by simp only [Dl];cases ES xs<;>rfl
theorem A8r(xs:List D):Dl (.agg xs)=fzM .agg (ES xs):=by simp only [Dl];cases ES xs<;>rfl
theorem A8s(xs:List D):Dl (.tup xs)=fzM .tup (ES xs):=by simp only [Dl];cases ES xs<;>rfl
theorem A42:ES []=some []:=by simp [ES]
def fzC:Option D→Option (List D)→Option (List D)
 | some d,some ds=>some (d::ds)
 | _,_=>none
theorem AEx(d:D)(ds:List D):fzC (some d) (some ds)=some (d::ds):=nr rfl
theorem oq(d:D)(ds:List D):ES (d::ds)=fzC (Dl d) (ES ds):=by
 simp only [ES];cases Dl d<;>cases ES ds<;>rfl
theorem AEy(d:D):gY d=(Dl d).isSome:=nr rfl
section
variable {T:Tys} {s:St}
def fi1(n:Nat):Option (D×St)→Option (D×List D)
 | none=>none
 | some (r,s')=>if gY r&&((List.range n).map fun j=>s'.v (G+j)).all zG then some (r,(List.range n).map fun j=>s'.v (G+j))else none
theorem fiD(n:Nat)(rs:List ResultVar):Yt T n rs s=fi1 n (OE T s rs):=by
 unfold Yt fi1;rcases OE T s rs with _ | ⟨r,s'⟩<;>rfl
theorem fi0(r:D):fi1 0 (some (r,s))=if gY r then some (r,[])else none:=by simp [fi1]
theorem fiA(r:D):fi1 1 (some (r,s))=if gY r&&zG (s.v 100000)then some (r,[s.v 100000])else none:=by
 simp [fi1,G,Yo]
theorem fiB(r:D):fi1 2 (some (r,s))=if gY r&&(zG (s.v 100000)&&zG (s.v 100001))then some (r,[s.v 100000,s.v 100001])else none:=by
 simp [fi1,G,Yo,and_assoc]
theorem A43(e:TypeId)(xs:List D):zG (.own e xs)=(Dl (.own e xs)).isSome:=nr rfl
theorem A44(xs:List D):zG (.box xs)=(Dl (.box xs)).isSome:=nr rfl
theorem AEz:zG .undef=true:=nr rfl
theorem re1(r:ResultVar):OE T s [r]=X6 T s r:=nr rfl
def reT:Option (List D×St)→Option (D×St)
 | some q=>some (.tup q.1,q.2)
 | none=>none
theorem AF0(q:List D×St):reT (some q)=some (.tup q.1,q.2):=nr rfl
theorem re2(r r':ResultVar)(rs:List ResultVar):OE T s (r::r'::rs)=reT (P8 T s (r::r'::rs)):=by
 show((P8 T s (r::r'::rs)).map fun q=>(D.tup q.1,q.2))=_
 cases P8 T s (r::r'::rs)<;>rfl
theorem re0:OE T s []=some (.tup [],s):=nr rfl
theorem A8t(t:Tmp):X6 T s (.tmp t)=Zp Pm.all s t (s.v t):=nr rfl
theorem A8u:P8 T s []=some ([],s):=nr rfl
def rdN(T:Tys)(rs:List ResultVar):Option (D×St)→Option (List D×St)
 | some (d,s)=>(P8 T s rs).map fun p=>(d::p.1,p.2)
 | none=>none
theorem AF1(rs:List ResultVar)(d:D):rdN T rs (some (d,s))=(P8 T s rs).map fun p=>(d::p.1,p.2):=nr rfl
theorem A45(r:ResultVar)(rs:List ResultVar):P8 T s (r::rs)=rdN T rs (X6 T s r):=by
 simp only [P8];rcases X6 T s r with _ | ⟨d,s'⟩<;>rfl
theorem AF2(r:Nat):Pm.all.rd r=true:=nr rfl
theorem AF3(r:Nat):Pm.all.wr r=true:=nr rfl
def gM(s:St)(dst:Option Tmp)(u:Tmp)(i:Nat):Option D→Option St
 | none=>none
 | some (.agg ys)=>Lr s dst (DF (.agg ((List.range ys.length).map fun j=>HV s [u,i] j (ys.getD j .undef))))
 | some c=>Lr s dst (DF (HV s [u] i c))
theorem A8v(dst:Option Tmp)(u:Tmp)(xs:List D)(i:Nat):JO s dst (.tmp u) (.tup xs) i=gM s dst u i xs[i]? :=by
 simp only [JO];rcases xs[i]? with _ | c
 ·rfl
 ·cases c<;>first | exact Nh s dst _ | rfl
theorem A8w(dst:Option Tmp)(u:Tmp)(i:Nat)(ys:List D):gM s dst u i (some (.agg ys))=Lr s dst (DF (.agg ((List.range ys.length).map fun j=>HV s [u,i] j (ys.getD j .undef)))):=nr rfl
theorem A8x(dst:Option Tmp)(u:Tmp)(i:Nat)(k:IntKind)(n:Int):gM s dst u i (some (.int k n))=some (s.putO dst (.int k n)):=by simp [gM,DF,HV,D.hasObj,Lr]
theorem A46(dst:Option Tmp)(u:Tmp)(i:Nat)(b:Bool):gM s dst u i (some (.bool b))=some (s.putO dst (.bool b)):=by simp [gM,DF,HV,D.hasObj,Lr]
theorem AF4(dst:Option Tmp)(u:Tmp)(i:Nat)(e:TypeId)(xs:List D):gM s dst u i (some (.sl e xs))=some (s.putO dst (.sl e xs)):=by simp [gM,DF,HV,D.hasObj,Lr]
theorem A8y(dst:Option Tmp)(u:Tmp)(i:Nat)(e:TypeId)(xs:List D):gM s dst u i (some (.own e xs))=some (s.putO dst (.vw [u,i] (s.k u) (s.m u))):=by simp [gM,DF,HV,D.hasObj,Lr,kv]
theorem A8z(xs:List D)(c:Nat)(p:A9):BK (.tup xs) (c::p)=(xs[c]?).bind fun d=>BK d p:=nr rfl
theorem A90(xs:List D)(c:Nat)(p:A9)(x:D):GX (.tup xs) (c::p) x= .tup (xs.set c (GX (xs.getD c .undef) p x)):=nr rfl
theorem AF5(L:A9)(xs:List D)(c:D):pl2 s L (some (.tup xs)) (some c)=some (c,s.set L .undef):=nr rfl
theorem A91(deep:Bool):back deep s []=s:=nr rfl
theorem bkT(t:Nat)(p:A9)(c:D)(rest:List (A9×D)):back true s ((t::p,c)::rest)=back true ((s.set (t::p) c).bump t) rest:=nr rfl
theorem bkF(t:Nat)(p:A9)(c:D)(rest:List (A9×D)):back false s ((t::p,c)::rest)=back false (s.set (t::p) c) rest:=nr rfl
theorem bkE(deep:Bool)(c:D)(rest:List (A9×D)):back deep s (([],c)::rest)=back deep s rest:=nr rfl
theorem bkL(Ls:List A9)(outs:List D):MU s Ls outs=back true (back false s (Ls.map fun L=>(L,.undef))) (Ls.zip outs):=nr rfl
theorem A92:Ei []=true:=nr rfl
theorem A47(L:A9)(Ls:List A9):Ei (L::Ls)=((L.isEmpty||Ls.all fun M=>M.isEmpty||(!L.isPrefixOf M&& !M.isPrefixOf L))&&Ei Ls):=nr rfl
theorem ipC(a b:Nat)(l m:A9):List.isPrefixOf (a::l) (b::m)=(a==b&&List.isPrefixOf l m):=nr rfl
theorem ipN(l:A9):List.isPrefixOf [] l=true:=by cases l<;>rfl
theorem ipE(a:Nat)(l:A9):List.isPrefixOf (a::l) []=false:=nr rfl
theorem ieC(a:Nat)(l:A9):List.isEmpty (a::l)=false:=nr rfl
theorem ieN:List.isEmpty ([]:A9)=true:=nr rfl
end
section
variable {T:Tys} {pm:Pm} {s:St}
def fl1(T:Tys)(pm:Pm)(tf:Nat→TypeId)(sz:Nat)(cs:List D)(i:Nat)(rest:List (Nat×Operand)):Option (D×St)→Option (List D×St)
 | none=>none
 | some (d,s1)=>if d.asCells.length=sz∧i*sz+sz≤cs.length then IE T pm tf sz s1 (CQ cs (i*sz) d.asCells) rest else none
theorem A93(tf:Nat→TypeId)(sz:Nat)(cs:List D):IE T pm tf sz s cs []=some (cs,s):=nr rfl
theorem A48(tf:Nat→TypeId)(sz:Nat)(cs:List D)(i:Nat)(x:Operand)(rest:List (Nat×Operand)):IE T pm tf sz s cs ((i,x)::rest)=fl1 T pm tf sz cs i rest (take T pm s (tf i) x):=by
 simp only [IE];rcases take T pm s (tf i) x with _ | ⟨d,s1⟩<;>rfl
theorem AF7(tf:Nat→TypeId)(cs:List D)(i:Nat)(rest:List (Nat×Operand))(d:D)(h:d.isAgg=false):fl1 T pm tf 1 cs i rest (some (d,s))=if i+1≤cs.length then IE T pm tf 1 s (cs.set i d) rest else none:=by
 have ha:d.asCells=[d]:=by cases d<;>first | rfl | (simp [D.isAgg]at h)
 simp only [fl1,ha,Ik,Qe,Lj,Ky,true_and,CQ]
end
section
variable (pm:Pm) (s:St) (u:Tmp)
def bT(pm:Pm)(u:Tmp)(d:D):Bool:= !d.hasObj||d.isObj||pm.wr u
theorem mvT:J7 pm s (.move (.tmp u))=bT pm u (s.v u):=nr rfl
theorem AF8(v:Value):J7 pm s (.move (.const v))=true:=nr rfl
theorem A49(k:IntKind)(n:Int):bT pm u (.int k n)=true:=by simp [bT,D.hasObj]
theorem A04(b:Bool):bT pm u (.bool b)=true:=by simp [bT,D.hasObj]
theorem A94(e:TypeId)(xs:List D):bT pm u (.sl e xs)=true:=by simp [bT,D.hasObj]
theorem A4A(e:TypeId)(xs:List D):bT pm u (.own e xs)=true:=by simp [bT,D.isObj]
theorem A4B(xs:List D):bT pm u (.box xs)=true:=by simp [bT,D.isObj]
theorem A95(L:A9)(n m:Nat):bT pm u (.vw L n m)=true:=by simp [bT,D.hasObj]
theorem A05(xs:List D):bT pm u (.cptr xs)=true:=by simp [bT,D.hasObj]
theorem A4C(xs:List D):bT pm u (.tup xs)=(!Ac xs||pm.wr u):=by simp [bT,D.hasObj,D.isObj]
theorem wF(x:Operand):J7 pm s (.assign x)=true:=nr rfl
theorem A4D(a b c:Operand):J7 pm s (.pick a b c)=true:=nr rfl
theorem A06(t:TypeId):J7 pm s (.alloc t)=true:=nr rfl
theorem A96(t:TypeId)(x:Operand):J7 pm s (.box t x)=true:=nr rfl
theorem A07(t:TypeId)(p:Array (Nat×Operand)):J7 pm s (.build t p)=true:=nr rfl
theorem AF9(t:TypeId)(n:Nat)(p:Array (Nat×Operand)):J7 pm s (.buildSlice t n p)=true:=nr rfl
theorem A4E(t:TypeId)(x:Operand):J7 pm s (.load t x)=true:=nr rfl
theorem A08(t:TypeId)(x y:Operand):J7 pm s (.store t x y)=true:=nr rfl
theorem A97(o:BinOp)(t:TypeId)(x y:Operand)(t':TypeId):J7 pm s (.binOp o t x y t')=true:=nr rfl
theorem AFA(o:UnOp)(t:TypeId)(x:Operand):J7 pm s (.unOp o t x)=true:=nr rfl
theorem AFB(t:TypeId)(a b:Operand):J7 pm s (.makeSlice t a b)=true:=nr rfl
theorem AFC(t:TypeId)(x:Operand)(a b c:Option Operand):J7 pm s (.slice t x a b c)=true:=nr rfl
theorem AFD(x:Operand):J7 pm s (.nilCheck x)=true:=nr rfl
theorem AFE(t:TypeId)(x:Operand)(i:Nat):J7 pm s (.fieldAddr t x i)=true:=nr rfl
theorem AFF(t:TypeId)(x i:Operand):J7 pm s (.indexAddr t x i)=true:=nr rfl
theorem AFG(x:Operand)(i:Nat):J7 pm s (.extract x i)=true:=nr rfl
theorem A4F(c:Call):J7 pm s (.call c)=true:=nr rfl
theorem pmR(n r w:List Nat)(x:Nat):(PmL.pm ⟨n,r,w⟩).rd x=(n.contains x|| !r.contains x):=nr rfl
theorem pmW(n r w:List Nat)(x:Nat):(PmL.pm ⟨n,r,w⟩).wr x=w.contains x:=nr rfl
section
variable {E:Env} {dst:Option Tmp} {t ty:TypeId}
end
end
end Dv
namespace Dv
open Go
theorem Dw(n:Int)(h: -9223372036854775808≤n∧n≤9223372036854775807):IntKind.i64.wrap n=n:=IntWalk.i64_in n h
section
variable {T:Tys} {pm:Pm} {s:St} {t:TypeId}
theorem Rj(xs:List Int)(i:Nat)(h:i<xs.length):(Fx xs)[i]? =some (.int .i64 (xs.getD i 0)):=by
 simp [Fx,Kw,h]
theorem Zq(x:Int)(xs:List Int):Fx (x::xs)= .int .i64 x::Fx xs:=nr rfl
def sls(e:TypeId)(xss:List (List Int)):List D:=xss.map fun xs=> .sl e (Fx xs)
variable {E:Env} {dst:Option Tmp} {ty:TypeId}
def A98(e:TypeId)(dst:Option Tmp):Option (List D×St)→Option St
 | some (xs,s)=>some (s.putO dst (.own e xs))
 | none=>none
theorem A99(e:TypeId)(xs:List D):A98 e dst (some (xs,s))=some (s.putO dst (.own e xs)):=nr rfl
def rO(dst:Option Tmp):Option (List D×St)→Option St
 | some (xs,s)=>some (s.putO dst (.agg xs))
 | none=>none
theorem A9A(xs:List D):rO dst (some (xs,s))=some (s.putO dst (.agg xs)):=nr rfl
theorem Xi(T:Tys){e:TypeId}(hs:T.isStruct e=false):T.size e=1∧T.zeros e=[T.zero1 e]:=by
 unfold Tys.isStruct at hs;unfold Tys.size Tys.zeros
 cases hty:T.ty e<;>simp_all [Ty.isStruct,Ty.size]
def bs0(E:Env)(pm:Pm)(s:St)(dst:Option Tmp)(len:Nat)(parts:Array (Nat×Operand)):Ty→Option St
 | .slice e=>
   if len*E.T.size e≤4096∧E.T.known e=true then
    (IE E.T pm (fun _=>e) (E.T.size e) s ((List.range (len*E.T.size e)).map fun j=>(E.T.zeros e).getD (j % E.T.size e) .undef) parts.toList).map fun r=>r.2.putO dst (.own e r.1)
   else none
 | _=>none
theorem A4H(len:Nat)(parts:Array (Nat×Operand)):X0 E.T pm s dst t len parts=bs0 E pm s dst len parts (E.T.ty t):=by
 unfold X0 bs0
 cases E.T.ty t<;>rfl
theorem yBs(len:Nat)(parts:Array (Nat×Operand)):OL E pm s dst (.buildSlice t len parts) ty=if ty=900004 then fcB pm dst (bs0 E pm s dst len parts (E.T.ty t))else bs0 E pm s dst len parts (E.T.ty t):=by
 rw [Xh,A4H];by_cases h:ty=900004
 ·rw [if_pos h,if_pos h];unfold fcB
  cases bs0 E pm s dst len parts (E.T.ty t)<;>cases dst<;>rfl
 ·rw [if_neg h,if_neg h]
theorem AFH(len:Nat)(parts:Array (Nat×Operand))(e:TypeId)(hk:E.T.known e=true)(hs:E.T.isStruct e=false)(hl:len≤4096):
  bs0 E pm s dst len parts (.slice e)=A98 e dst (IE E.T pm (fun _=>e) 1 s (List.replicate len (E.T.zero1 e)) parts.toList):=by
 obtain⟨hz,hzz⟩:=Xi E.T hs
 have hrep:((List.range (len*1)).map fun j=>(E.T.zeros e).getD (j % 1) .undef)=List.replicate len (E.T.zero1 e):=by
  rw [hzz];apply List.ext_getElem
  ·simp
  ·intro i h1 h2;simp [Nat.mod_one]
 simp only [bs0,hz];rw [if_pos ⟨by omega,hk⟩,hrep]
 rcases IE E.T pm (fun _=>e) 1 s (List.replicate len (E.T.zero1 e)) parts.toList with _ | ⟨a,b⟩<;>rfl
theorem AFI(u:Tmp)(e:TypeId)(L:A9)(n m lo len:Nat):BR pm s dst (.tmp u) (.vs e L n m lo len)=some (s.putO dst (.vs e L n m lo len)):=by
 show some (if(D.vs e L n m lo len).hasObj then(s.clr u).putO dst (.vs e L n m lo len)else s.putO dst (.vs e L n m lo len))=_
 rw [if_neg (by simp [D.hasObj])]
def bdN(E:Env)(pm:Pm)(s:St)(dst:Option Tmp)(t:TypeId)(parts:Array (Nat×Operand)):Option St:=
 match E.T.ty t with
 | .struct fs=>if E.T.known t then rO dst (IE E.T pm (fun i=>fs.getD i 0) 1 s (E.T.zeros t) parts.toList)else none
 | _=>none
def bd0(E:Env)(pm:Pm)(s:St)(dst:Option Tmp)(t:TypeId)(parts:Array (Nat×Operand)):Option (List (Nat×TypeId))→Option St
 | some fl=>if E.T.isStruct t&&E.T.known t then rO dst (L6 E.T pm fl s (E.T.zeros t) parts.toList)else none
 | none=>bdN E pm s dst t parts
theorem A4I(parts:Array (Nat×Operand)):OL E pm s dst (.build t parts) ty=bd0 E pm s dst t parts (E.T.nest t):=by
 rw [rD];unfold bd0 bdN
 cases E.T.nest t with
 | some fl=>
  simp only;split
  ·rcases L6 E.T pm fl s (E.T.zeros t) parts.toList with _ | ⟨a,b⟩<;>rfl
  ·rfl
 | none=>
  simp only
  cases E.T.ty t with
  | struct fs=>
   simp only;split
   ·rcases IE E.T pm (fun i=>fs.getD i 0) 1 s (E.T.zeros t) parts.toList with _ | ⟨a,b⟩<;>rfl
   ·rfl
  | _=>rfl
theorem AFJ(parts:Array (Nat×Operand))(fl:List (Nat×TypeId))(hk:E.T.known t=true)(hs:E.T.isStruct t=true):bd0 E pm s dst t parts (some fl)=rO dst (L6 E.T pm fl s (E.T.zeros t) parts.toList):=by
 simp [bd0,hk,hs]
def bdT(E:Env)(pm:Pm)(s:St)(dst:Option Tmp)(t:TypeId)(parts:Array (Nat×Operand)):Ty→Option St
 | .struct fs=>if E.T.known t then rO dst (IE E.T pm (fun i=>fs.getD i 0) 1 s (E.T.zeros t) parts.toList)else none
 | _=>none
theorem AFK(parts:Array (Nat×Operand)):bd0 E pm s dst t parts none=bdT E pm s dst t parts (E.T.ty t):=by
 show bdN E pm s dst t parts=_
 unfold bdN bdT
 cases E.T.ty t<;>rfl
theorem AFL(parts:Array (Nat×Operand))(fs:List TypeId)(hk:E.T.known t=true):bdT E pm s dst t parts (.struct fs)=rO dst (IE E.T pm (fun i=>fs.getD i 0) 1 s (E.T.zeros t) parts.toList):=by
 simp [bdT,hk]
def fn1(T:Tys)(pm:Pm)(fl:List (Nat×TypeId))(cs:List D)(off:Nat)(ty:TypeId)(rest:List (Nat×Operand)):Option (D×St)→Option (List D×St)
 | none=>none
 | some (d,s1)=>if d.asCells.length=T.size ty∧off+T.size ty≤cs.length then L6 T pm fl s1 (CQ cs off d.asCells) rest else none
theorem A9D(T:Tys)(fl:List (Nat×TypeId))(cs:List D):L6 T pm fl s cs []=some (cs,s):=nr rfl
def fn0(T:Tys)(pm:Pm)(fl:List (Nat×TypeId))(s:St)(cs:List D)(x:Operand)(rest:List (Nat×Operand)):Option (Nat×TypeId)→Option (List D×St)
 | none=>none
 | some (off,ty)=>fn1 T pm fl cs off ty rest (take T pm s ty x)
theorem A4J(T:Tys)(fl:List (Nat×TypeId))(cs:List D)(i:Nat)(x:Operand)(rest:List (Nat×Operand)):L6 T pm fl s cs ((i,x)::rest)=fn0 T pm fl s cs x rest (fl[i]?):=by
 simp only [L6];rcases fl[i]? with _ | ⟨off,ty⟩
 ·rfl
 ·simp only [fn0,fn1];rcases take T pm s ty x with _ | ⟨d,s1⟩<;>rfl
theorem AFN(T:Tys)(fl:List (Nat×TypeId))(cs:List D)(x:Operand)(rest:List (Nat×Operand))(off:Nat)(ty:TypeId):fn0 T pm fl s cs x rest (some (off,ty))=fn1 T pm fl cs off ty rest (take T pm s ty x):=nr rfl
theorem AFO(T:Tys)(fl:List (Nat×TypeId))(cs:List D)(off:Nat)(ty:TypeId)(rest:List (Nat×Operand))(d:D)(h1:d.asCells.length=T.size ty)(h2:off+T.size ty≤cs.length):
  fn1 T pm fl cs off ty rest (some (d,s))=L6 T pm fl s (CQ cs off d.asCells) rest:=by simp only [fn1,h1,h2,and_self,if_true]
theorem fnA(ds:List D):(D.agg ds).asCells=ds:=nr rfl
theorem fnO(e:TypeId)(xs:List D):(D.own e xs).asCells=[.own e xs]:=nr rfl
theorem spN(cs:List D)(c:Nat):CQ cs c []=cs:=by cases cs<;>rfl
theorem spC(cs:List D)(c:Nat)(y:D)(ys:List D):CQ cs c (y::ys)=CQ (cs.set c y) (c+1) ys:=by cases cs<;>rfl
def mk0(T:Tys)(n:Int):Ty→Option D
 | .slice e=>if 0≤n∧n<1099511627776∧T.elem e=true then
   if T.isStruct e=true then some (.own e (List.replicate n.toNat (T.zeros e)).flatten)
   else if T.size e=1 then some (.own e (List.replicate n.toNat (T.zero1 e)))else none
  else none
 | _=>none
theorem yMk(n:Int):En T t (.int .i64 n) (.int .i64 n)=mk0 T n (T.ty t):=by
 unfold En mk0
 cases T.ty t<;>simp
def A09(T:Tys)(q:Int):Ty→Option D
 | .slice e=>if 0≤q∧q<1099511627776∧T.elem e=true then
   if T.isStruct e=true then some (.own e [])
   else if T.size e=1 then some (.own e [])else none
  else none
 | _=>none
theorem AFP(q:Int):En T t (.int .i64 0) (.int .i64 q)=A09 T q (T.ty t):=by
 unfold En A09
 cases T.ty t<;>simp
theorem A9E(q:Int)(e:TypeId)(hk:T.known e=true)(h4:T.size e≤4)(h0:0≤q)(hn:q<1099511627776):A09 T q (.slice e)=some (.own e []):=by
 simp only [A09];rw [if_pos ⟨h0,hn,Wh hk h4⟩];by_cases hs:T.isStruct e=true
 ·rw [if_pos hs]
 ·obtain⟨hz,_⟩:=Xi T (by simpa using hs)
  rw [if_neg hs,if_pos hz]
theorem AFQ(n:Int)(e:TypeId)(hk:T.known e=true)(h4:T.size e≤4)(hs:T.isStruct e=false)(h0:0≤n)(hn:n<1099511627776):mk0 T n (.slice e)=some (.own e (List.replicate n.toNat (T.zero1 e))):=by
 obtain⟨hz,_⟩:=Xi T hs;simp only [mk0];rw [if_pos ⟨h0,hn,Wh hk h4⟩,if_neg (by rw [hs];decide),if_pos hz]
end
end Dv
namespace Dv
open Go
def I64(n:Int):Prop:= -9223372036854775808≤n∧n≤9223372036854775807
theorem A4K{n:Int}(h:(Lit.int .i64 n).wf=true):I64 n:=by
 have h1:IntKind.i64.min= -9223372036854775808:=by decide
 have h2:IntKind.i64.max=9223372036854775807:=by decide
 simp only [Lit.wf,h1,h2,JM,decide_eq_true_eq]at h;exact h
section
variable {T:Tys} {t e:TypeId} {d:D}
theorem mR{ds:List D}(ht:T.ty t= .int .i64)(h:Shp T t ds): ∃n,ds=[.int .i64 n]∧I64 n:=by
 cases h with
 | int ht' hw=>rw [ht]at ht';injection ht' with ht';subst ht';exact⟨_,rfl,A4K hw⟩
 | bool ht'=>rw [ht]at ht';cases ht'
 | string ht'=>rw [ht]at ht';cases ht'
 | slice ht'=>rw [ht]at ht';cases ht'
 | struct ht'=>rw [ht]at ht';cases ht'
theorem jK{ds:List D}(ht:T.ty t= .slice e)(h:Shp T t ds): ∃xss:List (List D),ds=[.sl e xss.flatten]∧(∀xs,xs∈xss→Shp T e xs)∧xss.length≤maxLen:=by
 cases h with
 | int ht' hw=>rw [ht]at ht';cases ht'
 | bool ht'=>rw [ht]at ht';cases ht'
 | string ht' hs=>rw [ht]at ht';cases ht'
 | slice ht' hx hl=>rw [ht]at ht';injection ht' with ht';subst ht';exact⟨_,rfl,hx,hl⟩
 | struct ht'=>rw [ht]at ht';cases ht'
theorem rP{fs:List TypeId}{ds:List D}(ht:T.ty t= .struct fs)(h:Shp T t ds):ds.length=fs.length∧ ∀(i:Nat) (f:TypeId) (d:D),fs[i]? =some f→ds[i]? =some d→Shp T f [d]:=by
 cases h with
 | int ht' hw=>rw [ht]at ht';cases ht'
 | bool ht'=>rw [ht]at ht';cases ht'
 | string ht' hs=>rw [ht]at ht';cases ht'
 | slice ht' hx hl=>rw [ht]at ht';cases ht'
 | struct ht' hl hx=>rw [ht]at ht';injection ht' with ht';subst ht';exact⟨hl,hx⟩
def A4L(xs:List Int):Prop:=xs.length≤maxLen∧ ∀x∈xs,I64 x
def ou(xss:List (List Int)):Prop:=xss.length≤maxLen∧ ∀xs∈xss,A4L xs
theorem A0A{ds:List D}(ht:T.ty t= .slice e)(he:T.ty e= .int .i64)(h:Shp T t ds): ∃xs,ds=[.sl e (Fx xs)]∧A4L xs:=by
 obtain⟨xss,rfl,hx,hl⟩:=jK ht h
 have: ∀xss:List (List D),(∀xs,xs∈xss→Shp T e xs)→ ∃ys,xss.flatten=Fx ys∧ys.length=xss.length∧ ∀y∈ys,I64 y:=by
  intro xss
  induction xss with
  | nil=>intro _;exact⟨[],rfl,rfl,by simp⟩
  | cons xs xss ih=>
   intro hx;obtain⟨n,rfl,hn⟩:=mR he (hx xs (Iu));obtain⟨ys,h1,h2,h3⟩:=ih (fun q hq=>hx q (Jp _ hq))
   refine⟨n::ys,by rw [ku,h1];rfl,by simp [h2],fun y hy=> ?_⟩
   rcases Li.1 hy with rfl | hy
   ·exact hn
   ·exact h3 y hy
 obtain⟨ys,h1,h2,h3⟩:=this xss hx
 exact⟨ys,by rw [h1],by omega,h3⟩
theorem jL{e2:TypeId}{ds:List D}(ht:T.ty t= .slice e)(he:T.ty e= .slice e2)(he2:T.ty e2= .int .i64)(h:Shp T t ds): ∃xss,ds=[.sl e (sls e2 xss)]∧ou xss:=by
 obtain⟨xss,rfl,hx,hl⟩:=jK ht h
 have: ∀xss:List (List D),(∀xs,xs∈xss→Shp T e xs)→ ∃ys,xss.flatten=sls e2 ys∧ys.length=xss.length∧ ∀y∈ys,A4L y:=by
  intro xss
  induction xss with
  | nil=>intro _;exact⟨[],rfl,rfl,by simp⟩
  | cons xs xss ih=>
   intro hx;obtain⟨n,rfl,hn⟩:=A0A he he2 (hx xs (Iu));obtain⟨ys,h1,h2,h3⟩:=ih (fun q hq=>hx q (Jp _ hq))
   refine⟨n::ys,by rw [ku,h1];rfl,by simp [h2],fun y hy=> ?_⟩
   rcases Li.1 hy with rfl | hy
   ·exact hn
   ·exact h3 y hy
 obtain⟨ys,h1,h2,h3⟩:=this xss hx
 exact⟨ys,by rw [h1],by omega,h3⟩
theorem rQ{fs:List TypeId}(ht:T.ty t= .struct fs)(h:Arg T t d): ∃ds,d= .agg ds∧ds.length=fs.length∧ ∀(i:Nat) (f:TypeId) (d:D),fs[i]? =some f→ds[i]? =some d→Shp T f [d]:=by
 obtain⟨ds,hs,rfl⟩:=h;obtain⟨h1,h2⟩:=rP ht hs
 exact⟨ds,by simp [top,Tys.isStruct,ht,Ty.isStruct],h1,h2⟩
theorem mU{a b:TypeId}(ht:T.ty t= .struct [a,a,b,b])(ha:T.ty a= .int .i64)(hb:T.ty b= .slice e){e2:TypeId}(he:T.ty e= .slice e2)(he2:T.ty e2= .int .i64)(h:Arg T t d):
  ∃l k ns es,d= .agg [.int .i64 l,.int .i64 k,.sl e (sls e2 ns),.sl e (sls e2 es)]∧I64 l∧I64 k∧ou ns∧ou es:=by
 obtain⟨ds,rfl,hl,hx⟩:=rQ ht h;rcases ds with _ | ⟨d0,_ | ⟨d1,_ | ⟨d2,_ | ⟨d3,_ | ⟨_,_⟩⟩⟩⟩⟩<;>simp at hl
 obtain⟨l,h0,hl0⟩:=mR ha (hx 0 a d0 rfl rfl);obtain⟨k,h1,hl1⟩:=mR ha (hx 1 a d1 rfl rfl);obtain⟨ns,h2,hl2⟩:=jL hb he he2 (hx 2 b d2 rfl rfl);obtain⟨es,h3,hl3⟩:=jL hb he he2 (hx 3 b d3 rfl rfl);simp only [List.cons.injEq,and_true]at h0 h1 h2 h3;subst h0 h1 h2 h3
 exact⟨l,k,ns,es,rfl,hl0,hl1,hl2,hl3⟩
end
theorem trodAll_len{H:Type}{Bo:TypeId×Value→H}{P:Program}{w:World}{base:Nat}{spare:Nat→Bool}{MX:Bool}: ∀ {ts:List TypeId} {vs:List Value} {ds:List (DataW H)} {ps:List MemPlace},
  DataW.TrodAll Bo P w base spare MX ts vs ds ps→ds.length=ts.length∧vs.length=ts.length:=by
 intro ts
 induction ts with
 | nil=>intro vs ds ps h;cases vs<;>cases ds<;>simp [DataW.TrodAll]at h;exact⟨rfl,rfl⟩
 | cons t ts ih=>
  intro vs ds ps h
  cases vs with
  | nil=>cases ds<;>simp [DataW.TrodAll]at h
  | cons v vs=>
   cases ds with
   | nil=>simp [DataW.TrodAll]at h
   | cons d ds=>
    simp only [DataW.TrodAll]at h;obtain⟨p,q,h1,h2,_⟩:=h;obtain⟨e1,e2⟩:=ih h2
    exact⟨by simp [e1],by simp [e2]⟩
end Dv
namespace Dv
open Go
section
variable {E:Env} {T:Tys} {pm:Pm} {s:St} {dst:Option Tmp} {ty t:TypeId}
def uH(T:Tys)(t:TypeId)(dst:Option Tmp):Option (D×St)→Option St
 | some (d,s1)=>if T.isStruct t==d.isAgg then some (s1.putO dst (.box d.asCells))else none
 | none=>none
def rR(E:Env)(pm:Pm)(s:St)(t:TypeId)(x:Operand)(dst:Option Tmp):D→Option St
 | .agg ds=>if Ac ds then uH E.T t dst (take E.T pm s t x)else(if E.T.isStruct t then some (s.putO dst (.box ds))else none)
 | _=>uH E.T t dst (take E.T pm s t x)
theorem A4M(u:Tmp):Ql E.T pm s dst t (.tmp u)=rR E pm s t (.tmp u) dst (s.v u):=by
 rw [vY]
 cases hk:Wy (ev E.T s t (.tmp u))with
 | some ds=>
  simp only [ev]at hk
  cases hv:s.v u<;>rw [hv]at hk<;>simp only [Wy]at hk<;>try (cases hk;done)
  split at hk
  ·cases hk
  ·rename_i ho
   simp only [Option.some.injEq]at hk;subst hk;simp only [rR,ho];rfl
 | none=>
  have hold:rR E pm s t (.tmp u) dst (s.v u)=uH E.T t dst (take E.T pm s t (.tmp u)):=by
   simp only [ev]at hk
   cases hv:s.v u<;>try rfl
   rw [hv]at hk;simp only [Wy]at hk
   split at hk
   ·rename_i ho;simp only [rR,ho,if_true]
   ·cases hk
  rw [hold];simp only;rcases take E.T pm s t (.tmp u)with _ | ⟨d,s1⟩<;>rfl
theorem AFR(u:Tmp):OL E pm s dst (.box t (.tmp u)) ty=if ty=900003 then uG pm dst (rR E pm s t (.tmp u) dst (s.v u))else rR E pm s t (.tmp u) dst (s.v u):=by
 rw [zm,A4M];by_cases h:ty=900003
 ·rw [if_pos h,if_pos h];unfold uG
  cases rR E pm s t (.tmp u) dst (s.v u)<;>cases dst<;>rfl
 ·rw [if_neg h,if_neg h]
theorem bkK(x:Operand)(ds:List D)(hs:E.T.isStruct t=true):rR E pm s t x dst (.agg ds)=if Ac ds then uH E.T t dst (take E.T pm s t x)else some (s.putO dst (.box ds)):=by simp [rR,hs]
theorem A9F(x:Operand)(k:IntKind)(n:Int):rR E pm s t x dst (.int k n)=uH E.T t dst (take E.T pm s t x):=nr rfl
theorem AFS(x:Operand)(e:TypeId)(xs:List D):rR E pm s t x dst (.sl e xs)=uH E.T t dst (take E.T pm s t x):=nr rfl
theorem A4N(x:Operand)(xs:List D):rR E pm s t x dst (.cptr xs)=uH E.T t dst (take E.T pm s t x):=nr rfl
theorem A9G(x:Operand)(f:FuncId)(xs:List D):rR E pm s t x dst (.clo f xs)=uH E.T t dst (take E.T pm s t x):=nr rfl
theorem AFT(ds:List D)(hs:T.isStruct t=true):uH T t dst (some (.agg ds,s))=some (s.putO dst (.box ds)):=by simp [uH,hs,D.isAgg,D.asCells]
theorem AFU(d:D)(hs:T.isStruct t=false)(hd:d.isAgg=false):uH T t dst (some (d,s))=some (s.putO dst (.box [d])):=by
 have:d.asCells=[d]:=by cases d<;>first | rfl | (simp [D.isAgg]at hd)
 simp [uH,hs,hd,this]
def fa1(L:A9)(i n m:Nat):Option D→Option D
 | some _=>some (.pe L i n m)
 | none=>none
theorem AFW(L:A9)(i n m:Nat)(d:D):fa1 L i n m (some d)=some (.pe L i n m):=nr rfl
def zK(T:Tys)(pm:Pm)(s:St)(t:TypeId)(x:Operand)(d:D):Option Nat→Option D
 | none=>none
 | some j=>
  if T.isStruct t then
   match d with
   | .box _=>match x with | .tmp u=>some (.pe [u] j (s.k u) (s.m u)) | _=>none
   | .vw L n m=>match s.look pm L n m with | some (.box _)=>some (.pe L j n m) | _=>none
   | .pe L c n m=>match s.look pm L n m with | some _=>some (.pe L (c+j) n m) | none=>none
   | .cptr xs=>some (.cptr (xs.drop j))
   | _=>none
  else none
theorem faE(x:Operand)(d:D)(i:Nat):Fv T pm s t x d i=zK T pm s t x d (T.foff t i):=by
 unfold Fv zK
 cases T.foff t i<;>rfl
theorem foN(i:Nat)(hn:T.nest t=none)(hi:i<T.size t):T.foff t i=some i:=by simp [Tys.foff,hn,hi]
theorem A9H(u:Tmp)(xs:List D)(i:Nat)(hs:T.isStruct t=true):zK T pm s t (.tmp u) (.box xs) (some i)=some (.pe [u] i (s.k u) (s.m u)):=by simp [zK,hs]
theorem AFX(x:Operand)(L:A9)(n m i:Nat)(hs:T.isStruct t=true):zK T pm s t x (.vw L n m) (some i)=fa1 L i n m (U2 s pm L n m):=by
 simp only [zK,hs,if_true,U2]
 cases s.look pm L n m with
 | none=>rfl
 | some o=>cases o<;>rfl
theorem AFY(x:Operand)(L:A9)(c n m i:Nat)(hs:T.isStruct t=true):zK T pm s t x (.pe L c n m) (some i)=fa1 L (c+i) n m (s.look pm L n m):=by
 simp only [zK,hs,if_true]
 cases s.look pm L n m<;>rfl
theorem AFZ(x:Operand)(xs:List D)(i:Nat)(hs:T.isStruct t=true):zK T pm s t x (.cptr xs) (some i)=some (.cptr (xs.drop i)):=by simp [zK,hs]
theorem csS(L:A9)(c n:Nat)(o:D):cellsOf s L c n (some o)=if c+n≤o.cells.length then DF (.agg ((List.range n).map fun i=>HV s L (c+i) (o.cells.getD (c+i) .undef)))else none:=nr rfl
variable {α:Type} (f:Nat→α)
theorem rg2:(List.range 2).map f=[f 0,f 1]:=nr rfl
theorem rg4:(List.range 4).map f=[f 0,f 1,f 2,f 3]:=nr rfl
theorem rg5:(List.range 5).map f=[f 0,f 1,f 2,f 3,f 4]:=nr rfl
theorem A9I(L:A9)(c:Nat)(k:IntKind)(n:Int):HV s L c (.int k n)= .int k n:=nr rfl
theorem AFa(L:A9)(c:Nat)(e:TypeId)(xs:List D):HV s L c (.sl e xs)= .sl e xs:=nr rfl
theorem A9J(L:A9)(c:Nat)(e:TypeId)(xs:List D):HV s L c (.own e xs)=kv s (L++[c]):=nr rfl
theorem AFb(L:A9)(c:Nat)(M:A9)(n m:Nat):HV s L c (.vw M n m)= .vw M n m:=nr rfl
theorem noA(xs:List D):DF (.agg xs)=if Ac xs then none else some (.agg xs):=by simp only [DF,D.hasObj];rfl
theorem A9K(k:IntKind)(n:Int):DF (.int k n)=some (.int k n):=by simp [DF,D.hasObj]
theorem AFc(e:TypeId)(xs:List D):DF (.sl e xs)=some (.sl e xs):=by simp [DF,D.hasObj]
theorem AFd(L:A9)(n m:Nat):DF (.vw L n m)=some (.vw L n m):=by simp [DF,D.hasObj]
theorem dl2(a b:Nat)(l:A9):List.dropLast (a::b::l)=a::List.dropLast (b::l):=nr rfl
theorem dl1(a:Nat):List.dropLast [a]=[]:=nr rfl
theorem AFe(r c:Nat)(p:A9):s.get (r::c::p)=BK (s.v r) (c::p):=nr rfl
theorem mV: ∀(ds xs:List D),xs.length=ds.length→CQ xs 0 ds=ds:=by
 have key: ∀(ds pre xs:List D),xs.length=ds.length→CQ (pre++xs) pre.length ds=pre++ds:=by
  intro ds
  induction ds with
  | nil=>intro pre xs h;simp at h;subst h;rfl
  | cons d ds ih=>
   intro pre xs h
   cases xs with
   | nil=>simp at h
   | cons x xs=>
    simp only [CQ];have:=ih (pre++[d]) xs (by simpa using h)
    simpa using this
 intro ds xs h;simpa using key ds [] xs h
def sw1(T:Tys)(pm:Pm)(t:TypeId)(u:Tmp)(ds:List D)(s:St):D→Option St
 | .box xs=>if T.known t&&T.isStruct t&&pm.wr u&&ds.all Cz&&(T.size t==ds.length)&&(xs.length==ds.length)then(if Ac ds||Ac xs then some ((s.set [u] (.box ds)).bump u)else some (s.set [u] (.box ds)))else gN T pm t (.tmp u) (some (.agg ds,s))
 | _=>gN T pm t (.tmp u) (some (.agg ds,s))
theorem AFf(u:Tmp)(ds:List D):gN T pm t (.tmp u) (some (.agg ds,s))=sw1 T pm t u ds s (s.v u):=by
 cases hv:s.v u<;>simp only [sw1]
 rename_i xs
 split
 ·rename_i hc
  simp only [JM,beq_iff_eq]at hc;obtain⟨⟨⟨⟨⟨hk,hs⟩,hw⟩,hd⟩,hz⟩,hl⟩:=hc;have hz':T.size t≤xs.length:=by omega
  simp only [gN,ev,hv,Jn,D.asCells,D.isAgg,D.cells,D.withCells,hk,hs,hw,hd,hz,Yn,beq_self_eq_true,Bool.and_self,Lj,D.hasObj];rw [mV ds xs hl];have h2:ds.length≤xs.length:=by omega
  simp only [h2,decide_true,Bool.and_self,if_true]
  split<;>first | rfl | (rename_i hq;simp only [hq];rfl)
 ·rfl
theorem AFg(u:Tmp)(ds xs:List D)(hk:T.known t=true)(hs:T.isStruct t=true)(hw:pm.wr u=true)(hd:ds.all Cz=true)(hz:T.size t=ds.length)(hl:xs.length=ds.length):
  sw1 T pm t u ds s (.box xs)=if Ac ds||Ac xs then some ((s.set [u] (.box ds)).bump u)else some (s.set [u] (.box ds)):=by
 simp [sw1,hk,hs,hw,hd,hz,hl]
def rc1(T:Tys)(s:St)(t:Tmp)(ty:TypeId):D→Option (D×St)
 | .box xs=>if T.isStruct ty then(if xs.length=T.size ty then td1 (FI Pm.all (s.clr t) xs)else none)else(match xs with | [d]=>CP Pm.all (s.clr t) d | _=>none)
 | .cptr xs=>if T.isStruct ty then(if xs.length=T.size ty then some (.agg xs,s)else none)else(match xs with | [d]=>some (d,s) | _=>none)
 | _=>none
theorem A4O(u:Tmp)(hk:T.known ty=true):X6 T s (.cell u ty)=rc1 T s u ty (s.v u):=by
 simp only [X6,hk,if_true,rc1]
 cases s.v u with
 | box xs=>
  simp only;split
  ·split
   ·cases FI Pm.all (s.clr u) xs<;>rfl
   ·rfl
  ·rfl
 | _=>rfl
theorem AFh(u:Tmp)(xs:List D)(hs:T.isStruct ty=true)(hl:xs.length=T.size ty):rc1 T s u ty (.box xs)=td1 (FI Pm.all (s.clr u) xs):=by simp [rc1,hs,hl]
def cp1(pm:Pm)(s:St)(u:Tmp)(rest:List Operand):D→Option (List D×St)
 | .box xs=>match ES xs with
  | some ys=>if pm.wr u then(NW pm (s.set [u] (.cptr ys)) rest).map fun r=>(.cptr ys::r.1,r.2)else none
  | none=>none
 | .cptr ys=>(NW pm s rest).map fun r=>(.cptr ys::r.1,r.2)
 | _=>none
theorem A9L:NW pm s []=some ([],s):=nr rfl
theorem A9M(u:Tmp)(rest:List Operand):NW pm s (.tmp u::rest)=cp1 pm s u rest (s.v u):=by
 simp only [NW]
 cases s.v u<;>rfl
def cp2(pm:Pm)(s:St)(u:Tmp)(rest:List Operand):Option (List D)→Option (List D×St)
 | some ys=>if pm.wr u then(NW pm (s.set [u] (.cptr ys)) rest).map fun r=>(.cptr ys::r.1,r.2)else none
 | none=>none
theorem AFk(u:Tmp)(rest:List Operand)(xs:List D):cp1 pm s u rest (.box xs)=cp2 pm s u rest (ES xs):=by
 simp only [cp1];cases ES xs<;>rfl
theorem AFl(u:Tmp)(rest:List Operand)(ys:List D)(hw:pm.wr u=true):cp2 pm s u rest (some ys)=(NW pm (s.set [u] (.cptr ys)) rest).map fun r=>(.cptr ys::r.1,r.2):=by simp [cp2,hw]
def clN(E:Env)(pm:Pm)(s:St)(dst:Option Tmp)(args:Array Operand)(ts:Array TypeId):D→Option St
 | .clo f caps=>if args.size=ts.size then Ha E pm s dst f (args.toList.zip ts.toList) caps else none
 | .ocl false f caps=>if args.size=ts.size then NY E pm s dst f (args.toList.zip ts.toList) caps else none
 | _=>none
theorem A4P(u:Tmp)(args:Array Operand)(ts:Array TypeId):OL E pm s dst (.call ⟨.value (.tmp u),args,ts⟩) ty=clN E pm s dst args ts (s.v u):=by
 rw [rF];cases s.v u<;>first | rfl | (rename_i b _ _;cases b<;>rfl)
theorem AFm(args:Array Operand)(ts:Array TypeId)(f':FuncId)(caps:List D)(h:args.size=ts.size):clN E pm s dst args ts (.clo f' caps)=Ha E pm s dst f' (args.toList.zip ts.toList) caps:=by simp [clN,h]
def mf0(f:FuncId)(dst:Option Tmp):Option (List D×St)→Option St
 | some r=>some (r.2.putO dst (.clo f r.1))
 | none=>none
theorem AFn(g:FuncId)(xs:List D):mf0 g dst (some (xs,s))=some (s.putO dst (.clo g xs)):=nr rfl
def mfV(f:FuncId)(dst:Option Tmp):Option (List D×St)→Option St
 | some r=>some (r.2.putO dst (.ocl false f r.1))
 | none=>none
theorem AFo(g:FuncId)(xs:List D):mfV g dst (some (xs,s))=some (s.putO dst (.ocl false g xs)):=nr rfl
theorem yMf(g:FuncId)(captured:Array Operand):OL E pm s dst (.makeFunc (.func g) #[] captured) ty=if ty<3000000 then mf0 g dst (NW pm s captured.toList)else mfV g dst (Wz pm s (ty-3000000) captured.toList):=by
 rw [bQ];simp only [List.isEmpty_toArray,List.isEmpty_nil,if_true];by_cases h:ty<3000000
 ·rw [if_pos h,if_pos h]
  cases NW pm s captured.toList<;>rfl
 ·rw [if_neg h,if_neg h]
  cases Wz pm s (ty-3000000) captured.toList<;>rfl
def cvp(l:List Operand):Option (List D×St)→Option (List D×St)
 | none=>none
 | some (_,s1)=>(Qi s1 l).map fun ds=>(ds,s1)
theorem cvE(m:Nat)(l:List Operand):Wz pm s m l=cvp l (NW pm s (Ju m 0 l)):=by
 unfold Wz cvp;rcases NW pm s (Ju m 0 l)with _ | ⟨ys,s1⟩<;>rfl
def cvq(s:St):Option (List D)→Option (List D×St)
 | some ds=>some (ds,s)
 | none=>none
theorem AFp(l:List Operand)(ys:List D):cvp l (some (ys,s))=cvq s (Qi s l):=by
 simp only [cvp];cases Qi s l<;>rfl
theorem AFq(ds:List D):cvq s (some ds)=some (ds,s):=nr rfl
theorem umN(m i:Nat):Ju m i []=[]:=nr rfl
theorem umC(m i:Nat)(x:Operand)(xs:List Operand):Ju m i (x::xs)=if m / 2 ^ i % 2=1 then Ju m (i+1) xs else x::Ju m (i+1) xs:=by
 rw [Ju,Nat.testBit_eq_decide_div_mod_eq];by_cases h:m / 2 ^ i % 2=1<;>simp [h]
def ce1(s:St)(u:Tmp)(r:Option (List D)):D→Option (List D)
 | .box _=>r.map (kv s [u]:: ·)
 | .cptr ys=>r.map (.cptr ys:: ·)
 | _=>none
theorem ceN:Qi s []=some []:=nr rfl
theorem ceT(u:Tmp)(rest:List Operand):Qi s (.tmp u::rest)=ce1 s u (Qi s rest) (s.v u):=by
 simp only [Qi]
 cases s.v u<;>rfl
theorem AFs(u:Tmp)(l xs:List D):ce1 s u (some l) (.box xs)=some (kv s [u]::l):=nr rfl
theorem AFt(u:Tmp)(l ys:List D):ce1 s u (some l) (.cptr ys)=some (.cptr ys::l):=nr rfl
def A4Q(T:Tys)(pm:Pm)(s:St)(t:TypeId)(t0:Tmp):D→D→Option St
 | .box [_],.ocl false f xs=>if T.known t&& !T.isStruct t&&(T.size t==1)&&pm.rd t0&&pm.wr t0 then some (s.set [t0] (.ocl true f (xs.map (Jz s t0))))else none
 | _,_=>none
theorem AFu(T:Tys)(t0 u:Tmp):VW T pm s t (.tmp t0) (.tmp u)=A4Q T pm s t t0 (s.v t0) (s.v u):=by
 show(match s.v t0,s.v u with
  | .box [_],.ocl false f xs=>if T.known t&& !T.isStruct t&&(T.size t==1)&&pm.rd t0&&pm.wr t0 then some (s.set [t0] (.ocl true f (xs.map (Jz s t0))))else none
  | _,_=>none)=_
 rfl
theorem AFv(T:Tys)(t0:Tmp)(x:D)(f:FuncId)(xs:List D)(hk:T.known t=true)(hs:T.isStruct t=false)(hz:T.size t=1)(hr:pm.rd t0=true)(hw:pm.wr t0=true):
  A4Q T pm s t t0 (.box [x]) (.ocl false f xs)=some (s.set [t0] (.ocl true f (xs.map (Jz s t0)))):=by simp [A4Q,hk,hs,hz,hr,hw]
theorem utV(t0 r n m:Nat):Jz s t0 (.vw [r] n m)=if r=t0 then(if n=s.k t0 then .undef else .vw [r] n m)else .vw [r] n m:=by
 unfold Jz;by_cases h:r=t0<;>by_cases h2:n=s.k t0<;>simp [h,h2]
theorem utC(t0:Nat)(ys:List D):Jz s t0 (.cptr ys)= .cptr ys:=nr rfl
theorem ldO(T:Tys)(x:Operand)(f:FuncId)(xs:List D)(hk:T.known t=true)(hs:T.isStruct t=false):GA T pm s t x (.ocl true f xs)=some (.ocl false f xs):=by simp [GA,hk,hs]
def co2(E:Env)(pm:Pm)(s:St)(dst:Option Tmp)(f:FuncId)(as:List D)(ls:List (A9×D)):Option (List D×List (A9×D))→Option St
 | none=>none
 | some (cs,lc)=>
  if Ei ((ls++lc).map (·.1))&&(ls++lc).all (fun l=>pm.wr (l.1.headD 0))&&(ls++lc).all (fun l=>gY l.2)then
   cl2 s dst (ls++lc) (E.call f (as++cs.map (KP f cs)) ((ls++lc).map (·.2)))
  else none
def co1(E:Env)(pm:Pm)(s:St)(dst:Option Tmp)(f:FuncId)(caps:List D):Option (List D×List (A9×D))→Option St
 | none=>none
 | some (as,ls)=>co2 E pm s dst f as ls (DU pm s ls.length caps)
theorem coE(f:FuncId)(xs:List (Operand×TypeId))(caps:List D):NY E pm s dst f xs caps=co1 E pm s dst f caps (Di E true pm s 0 xs):=by
 unfold NY co1;rcases Di E true pm s 0 xs with _ | ⟨as,ls⟩
 ·rfl
 ·simp only;unfold co2;rcases DU pm s ls.length caps with _ | ⟨cs,lc⟩
  ·rfl
  ·simp only;split
   ·unfold cl2;rcases E.call f (as++cs.map (KP f cs)) ((ls++lc).map (·.2))with _ | ⟨r,o⟩<;>rfl
   ·rfl
theorem AFx(f:FuncId)(caps as:List D)(ls:List (A9×D)):co1 E pm s dst f caps (some (as,ls))=co2 E pm s dst f as ls (DU pm s ls.length caps):=nr rfl
theorem AFy(f:FuncId)(as cs:List D)(ls lc:List (A9×D))(h:(Ei ((ls++lc).map (·.1))&&(ls++lc).all (fun l=>pm.wr (l.1.headD 0))&&(ls++lc).all (fun l=>gY l.2))=true):
  co2 E pm s dst f as ls (some (cs,lc))=cl2 s dst (ls++lc) (E.call f (as++cs.map (KP f cs)) ((ls++lc).map (·.2))):=by simp only [co2,h,if_true]
def oaJ(a:D)(l:List (A9×D)):Option (List D×List (A9×D))→Option (List D×List (A9×D))
 | some r=>some (a::r.1,l++r.2)
 | none=>none
theorem AFz(a:D)(l:List (A9×D))(r:List D)(m:List (A9×D)):oaJ a l (some (r,m))=some (a::r,l++m):=nr rfl
def oa1(pm:Pm)(s:St)(j:Nat)(L:A9)(rest:List D):Option D→Option (List D×List (A9×D))
 | some c=>oaJ (.vw [G+j] 0 0) [(L,c)] (DU pm s (j+1) rest)
 | none=>none
theorem AG1(j:Nat)(L:A9)(rest:List D)(c:D):oa1 pm s j L rest (some c)=oaJ (.vw [G+j] 0 0) [(L,c)] (DU pm s (j+1) rest):=nr rfl
theorem oaN(j:Nat):DU pm s j []=some ([],[]):=nr rfl
theorem oaV(j:Nat)(L:A9)(n m:Nat)(rest:List D):DU pm s j (.vw L n m::rest)=oa1 pm s j L rest (s.look pm L n m):=by
 rw [DU]
 cases s.look pm L n m with
 | none=>rfl
 | some c=>simp only [oa1];rcases DU pm s (j+1) rest with _ | ⟨a,b⟩<;>rfl
theorem oaC(j:Nat)(ys rest:List D):DU pm s j (.cptr ys::rest)=oaJ (.cptr ys) [] (DU pm s j rest):=by
 rw [DU];rcases DU pm s j rest with _ | ⟨a,b⟩<;>rfl
theorem oaU(j:Nat)(rest:List D):DU pm s j (.undef::rest)=oaJ .undef [] (DU pm s j rest):=by
 rw [DU];rcases DU pm s j rest with _ | ⟨a,b⟩<;>rfl
theorem saU(f:FuncId)(cs:List D):KP f cs .undef= .ocl true f cs:=nr rfl
theorem saV(f:FuncId)(cs:List D)(L:A9)(n m:Nat):KP f cs (.vw L n m)= .vw L n m:=nr rfl
theorem saC(f:FuncId)(cs ys:List D):KP f cs (.cptr ys)= .cptr ys:=nr rfl
theorem AG2(args:Array Operand)(ts:Array TypeId)(f':FuncId)(caps:List D)(h:args.size=ts.size):clN E pm s dst args ts (.ocl false f' caps)=NY E pm s dst f' (args.toList.zip ts.toList) caps:=by simp [clN,h]
def bn1(dflt:Nat):Option D→Option Nat
 | some (.int _ n)=>if 0≤n then some n.toNat else none
 | _=>none
theorem bnN(n:Nat):SL T s n none=some n:=nr rfl
theorem bnS(n:Nat)(x:Operand):SL T s n (some x)=bn1 n (ev T s 0 x):=by
 simp only [SL];rcases ev T s 0 x with _ | d
 ·rfl
 ·cases d<;>rfl
theorem AG4(n:Nat)(k:IntKind)(i:Int)(h:0≤i):bn1 n (some (.int k i))=some i.toNat:=by simp [bn1,h]
def sl0(T:Tys)(pm:Pm)(s:St)(x:Operand)(d:D)(lo hi mx:Option Operand):Ty→Option (D×St)
 | .slice e'=>match Dm pm s x d with
  | none=>none
  | some (e,xs,o)=>
   match SL T s 0 lo,SL T s (T.len e xs) hi with
   | some l,some h=>
    if e'=e∧T.known e=true∧l≤h∧h≤T.len e xs then
     if mx.isSome then
      match SL T s 0 mx with
      | some q=>if l=h∧h=q∧hi.isSome=true then some (.own e [],s)else none
      | none=>none
     else match o with
      | none=>some (.sl e ((xs.take (h*T.size e)).drop (l*T.size e)),s)
      | some (L,va,vb)=>
       if pm.wr (L.headD 0)then
        match ES xs with
        | some ys=>some (.sl e ((ys.take (h*T.size e)).drop (l*T.size e)),s.set L (.sl e ys))
        | none=>none
       else Wv L va vb e l h s
    else none
   | _,_=>none
 | .string=>match d with
  | .str b=>match SL T s 0 lo,SL T s b.size hi with
   | some l,some h=>if l≤h∧h≤b.size∧mx.isNone then some (.str (b.extract l h),s)else none
   | _,_=>none
  | _=>none
 | _=>none
theorem slT(x:Operand)(d:D)(lo hi mx:Option Operand):JN T pm s t x d lo hi mx=sl0 T pm s x d lo hi mx (T.ty t):=by
 unfold JN sl0
 cases T.ty t<;>first | rfl | (cases d<;>rfl)
def sl1(T:Tys)(pm:Pm)(s:St)(e:TypeId)(xs:List D)(o:Option (A9×Nat×Nat)):Option Nat→Option Nat→Option (D×St)
 | some l,some h=>
  if l≤h∧h≤xs.length then
   match o with
   | none=>some (.sl e ((xs.take h).drop l),s)
   | some (L,va,vb)=>
    if pm.wr (L.headD 0)then
     match ES xs with
     | some ys=>some (.sl e ((ys.take h).drop l),s.set L (.sl e ys))
     | none=>none
    else Wv L va vb e l h s
  else none
 | _,_=>none
def sl2(T:Tys)(pm:Pm)(s:St)(e':TypeId)(lo hi:Option Operand):Option (TypeId×List D×Option (A9×Nat×Nat))→Option (D×St)
 | some (e,xs,o)=>if e'=e∧T.known e=true then sl1 T pm s e xs o (SL T s 0 lo) (SL T s xs.length hi)else none
 | none=>none
theorem AG5(x:Operand)(d:D)(lo hi:Option Operand)(e:TypeId)(hz:T.isStruct e=false):sl0 T pm s x d lo hi none (.slice e)=sl2 T pm s e lo hi (Dm pm s x d):=by
 have h1:=PP hz;simp only [sl0,sl2,Option.isSome_none,Mw,if_false];rcases Dm pm s x d with _ | ⟨e',xs,o⟩
 ·rfl
 ·simp only;by_cases he:e=e'
  ·subst he;simp only [true_and,h1,Ky,Tys.len,if_true]
   cases SL T s 0 lo<;>cases SL T s xs.length hi<;>simp only [sl1]<;>(by_cases hk:T.known e=true<;>simp [hk])
  ·simp only [he,false_and,if_false]
   cases SL T s 0 lo<;>cases SL T s (T.len e' xs) hi<;>rfl
theorem AG6(e:TypeId)(lo hi:Option Operand)(xs:List D)(o:Option (A9×Nat×Nat))(hk:T.known e=true):sl2 T pm s e lo hi (some (e,xs,o))=sl1 T pm s e xs o (SL T s 0 lo) (SL T s xs.length hi):=by simp [sl2,hk]
theorem AG7(e:TypeId)(xs:List D)(l h:Nat)(h1:l≤h)(h2:h≤xs.length):sl1 T pm s e xs none (some l) (some h)=some (.sl e ((xs.take h).drop l),s):=by simp [sl1,h1,h2]
def sl3(pm:Pm)(s:St)(e:TypeId)(L:A9)(a b l h:Nat)(o:Option (List D)):Option (D×St):=
 if pm.wr (L.headD 0)then
  match o with
  | some ys=>some (.sl e ((ys.take h).drop l),s.set L (.sl e ys))
  | none=>none
 else Wv L a b e l h s
theorem AG9(e:TypeId)(xs:List D)(L:A9)(a b l h:Nat)(h1:l≤h)(h2:h≤xs.length):sl1 T pm s e xs (some (L,a,b)) (some l) (some h)=sl3 pm s e L a b l h (ES xs):=by
 simp only [sl1,h1,h2,and_self,if_true];rfl
theorem AGA(e:TypeId)(L:A9)(a b l h:Nat)(o:Option (List D))(hw:pm.wr (L.headD 0)=false):sl3 pm s e L a b l h o=some (.vs e L a b l (h-l),s):=by simp only [sl3];rw [if_neg (by rw [hw];decide)];rfl
theorem A9P(r:Nat):pm.see.rd r=pm.rd r:=nr rfl
theorem A9Q(r:Nat):pm.see.wr r=false:=nr rfl
theorem AGB(u:Tmp):wrO pm (.tmp u)=pm.wr u:=nr rfl
def ct2(e:TypeId)(xs:List D)(s1:St):Option Nat→Option (D×St)
 | some h=>if h≤xs.length then some (.own e (xs.take h),s1)else none
 | none=>none
def ct1(T:Tys)(s:St)(e':TypeId)(hi:Option Operand):Option (D×St)→Option (D×St)
 | some (.own e xs,s1)=>
  match SL T s (T.len e xs) hi with
  | some h=>if e'=e∧T.known e=true∧h≤T.len e xs then some (.own e (xs.take (h*T.size e)),s1)else none
  | none=>none
 | _=>none
def ct0(T:Tys)(pm:Pm)(s:St)(t:TypeId)(x:Operand)(hi:Option Operand):Ty→Option (D×St)
 | .slice e=>ct1 T s e hi (if wrO pm x then take T pm s t x else none)
 | _=>none
theorem ctT(x:Operand)(hi:Option Operand):Qg T pm s t x hi=ct0 T pm s t x hi (T.ty t):=by
 unfold Qg ct0 ct1
 cases T.ty t<;>rfl
theorem AGC(x:Operand)(hi:Option Operand)(e:TypeId)(hw:wrO pm x=true):ct0 T pm s t x hi (.slice e)=ct1 T s e hi (take T pm s t x):=by
 unfold ct0;rw [if_pos hw]
theorem AGD(hi:Option Operand)(e:TypeId)(xs:List D)(s1:St)(hk:T.known e=true)(hz:T.isStruct e=false):ct1 T s e hi (some (.own e xs,s1))=ct2 e xs s1 (SL T s xs.length hi):=by
 have h1:=PP hz;simp only [ct1,hk,true_and,h1,Ky,Tys.len,if_true]
 cases SL T s xs.length hi<;>rfl
theorem AGE(e:TypeId)(xs:List D)(s1:St)(h:Nat)(hle:h≤xs.length):ct2 e xs s1 (some h)=some (.own e (xs.take h),s1):=by
 show(if h≤xs.length then some (D.own e (xs.take h),s1)else none)=_
 rw [if_pos hle]
def ca0(f:FuncId):Option (List D×List (A9×D))→Option (D×List (A9×D))
 | some r=>some (.clo f r.1,r.2)
 | none=>none
theorem AGG(f:FuncId)(cs:List D)(ls:List (A9×D)):ca0 f (some (cs,ls))=some (.clo f cs,ls):=nr rfl
def ca2(pm:Pm)(s:St)(L:A9)(c:D)(rest:List D):Option D→Option (List D×List (A9×D))
 | some c'=>oaJ c' [(L,c)] (NV pm s rest)
 | none=>none
theorem AGH(L:A9)(c:D)(rest:List D)(c':D):ca2 pm s L c rest (some c')=oaJ c' [(L,c)] (NV pm s rest):=nr rfl
def ca1(pm:Pm)(s:St)(L:A9)(rest:List D):Option D→Option (List D×List (A9×D))
 | some c=>ca2 pm s L c rest (Dl c)
 | none=>none
theorem AGJ(L:A9)(rest:List D)(c:D):ca1 pm s L rest (some c)=ca2 pm s L c rest (Dl c):=nr rfl
theorem caN:NV pm s []=some ([],[]):=nr rfl
theorem caV(L:A9)(n m:Nat)(rest:List D):NV pm s (.vw L n m::rest)=ca1 pm s L rest (s.look pm L n m):=by
 rw [NV]
 cases s.look pm L n m with
 | none=>rfl
 | some c=>
  simp only [ca1,ca2]
  cases Dl c with
  | none=>rfl
  | some c'=>simp only [CO];rcases NV pm s rest with _ | ⟨a,b⟩<;>rfl
theorem caC(ys rest:List D):NV pm s (.cptr ys::rest)=oaJ (.cptr ys) [] (NV pm s rest):=by
 rw [NV];rcases NV pm s rest with _ | ⟨a,b⟩<;>rfl
theorem A9S(T:Tys)(L0:A9)(j:Nat)(f:FuncId)(caps:List D):MS T false pm s j L0 (.ocl false f caps)=ca0 f (NV pm s caps):=by
 show(if(false||false)=true then none else(NV pm s caps).map fun r=>(D.clo f r.1,r.2))=_
 rw [if_neg (by decide)]
 unfold ca0;rcases NV pm s caps with _ | ⟨a,b⟩<;>rfl
def va1(T:Tys)(e:TypeId)(L:A9)(lo len:Nat):Option D→Option (D×List (A9×D))
 | some (.own e' xs)=>
  if e'=e∧T.known e=true∧(lo+len)*T.size e≤xs.length then
   (ES xs).map fun ys=>(.sl e ((ys.drop (lo*T.size e)).take (len*T.size e)),[(L,.own e' xs)])
  else none
 | _=>none
theorem AGK(e:TypeId)(L L0:A9)(n m lo len j:Nat):MS T false pm s j L0 (.vs e L n m lo len)=va1 T e L lo len (s.look pm L n m):=by
 show ZV T pm s e L n m lo len=_
 unfold ZV va1;rcases s.look pm L n m with _ | d
 ·rfl
 ·cases d<;>rfl
theorem A4S(x:Tmp):OL E pm s dst (.call ⟨.builtin .clear, #[.tmp x], #[t]⟩) ty=bP dst (NF E.T pm s t (.tmp x) (s.v x)):=PO dst _
def A0B(T:Tys)(pm:Pm)(s:St)(t:TypeId):Option (TypeId×A9×List D×Nat×Nat)→Option (D×St)
 | some (e,L,xs,lo,len)=>
  if T.isSl t e&&T.known e&&(T.size e==1)&& !T.isStruct e&&Cz (T.zero1 e)&&pm.wr (L.headD 0)then
   some (.tup [],(s.set L (.own e (CQ xs lo (List.replicate len (T.zero1 e))))).bump (L.headD 0))
  else none
 | none=>none
theorem AGL(x:Operand)(a:D):NF T pm s t x a=A0B T pm s t (Yp pm s x a):=by
 unfold NF A0B;rcases Yp pm s x a with _ | ⟨_,_,_,_,_⟩<;>rfl
theorem AGM(e:TypeId)(L:A9)(xs:List D)(lo len:Nat)(h1:T.isSl t e=true)(h2:T.known e=true)(h3:T.isStruct e=false)(h5:Cz (T.zero1 e)=true)(h7:pm.wr (L.headD 0)=true):
  A0B T pm s t (some (e,L,xs,lo,len))=some (.tup [],(s.set L (.own e (CQ xs lo (List.replicate len (T.zero1 e))))).bump (L.headD 0)):=by
 have h8:=PP h3;unfold A0B;dsimp only;rw [if_pos (by rw [h1,h2,h3,h5,h7,h8];simp)]
def A4T(e:TypeId):Ty→Bool
 | .slice e'=>e'==e
 | _=>false
theorem AGN(e:TypeId):T.isSl t e=A4T e (T.ty t):=by unfold Tys.isSl A4T;cases T.ty t<;>rfl
theorem AGO(e e':TypeId):A4T e (.slice e')=(e'==e):=nr rfl
def dv1(e:TypeId)(L:A9)(lo len:Nat):Option D→Option (TypeId×A9×List D×Nat×Nat)
 | some (.own e' xs)=>if e'=e∧lo+len≤xs.length then some (e,L,xs,lo,len)else none
 | _=>none
theorem dvS(x:Operand)(e:TypeId)(L:A9)(n m lo len:Nat):Yp pm s x (.vs e L n m lo len)=dv1 e L lo len (s.look pm L n m):=by
 show(match s.look pm L n m with | some (.own e' xs)=>if e'=e∧lo+len≤xs.length then some (e,L,xs,lo,len)else none | _=>none)=_
 rcases s.look pm L n m with _ | d
 ·rfl
 ·cases d<;>rfl
theorem AGQ(e:TypeId)(L:A9)(lo len:Nat)(xs:List D)(h:lo+len≤xs.length):dv1 e L lo len (some (.own e xs))=some (e,L,xs,lo,len):=by simp [dv1,h]
theorem AGR(x:Tmp)(e:TypeId)(L:A9)(n m lo len:Nat):CZ s dst (.tmp x) (.vs e L n m lo len)=s.putO dst (.vs e L n m lo len):=nr rfl
theorem A9T(x:Tmp)(e:TypeId)(L:A9)(n m lo len:Nat):bT pm x (.vs e L n m lo len)=true:=by simp [bT,D.hasObj]
end
theorem mW{P:Program}{T:Tys}{f:FuncId}{e:TypeId}{r:D}{outs:List D}(hk:T.known e=true)(h: ∀A c,Good P T f [.konst (.slice A 0 c)] [] r outs):Good P T f [.sl e []] [] r outs:=by
 refine⟨(h none 0).1,fun vs gh w S FL hsz hA hL hL0 hLd hlt=> ?_⟩
 obtain⟨v,hv,hW⟩:=hA 0 _ rfl
 obtain⟨A,c,rfl⟩: ∃A c,v= .slice A 0 c:=by
  cases hW with
  | sl us hE hn hc hm hx hw=>
   rename_i A n c
   have hp:=jC hk
   have:n=0:=by
    simp only [Qe]at hn;rcases Nat.mul_eq_zero.1 hn.symm with h0 | h0
    ·exact h0
    ·omega
   subst this
   exact⟨_,_,rfl⟩
 refine(h A c).2 vs gh w S FL hsz (fun i d hi=> ?_) hL hL0 hLd hlt
 cases i with
 | zero=>simp at hi;subst hi;exact⟨_,hv,.konst (fun _ h=>h)⟩
 | succ i=>simp at hi
end Dv
namespace Dv
open Go
set_option maxRecDepth 10000
set_option linter.defProp false
theorem geq:G=100000:=nr rfl
def AB:=A7 @A4S (A7 @ADk (A7 @ADB (A7 @ADC (A7 @A39 (A7 @AFR (A7 @yMf (A7 @A4P (A7 @ADJ (A7 @A6v (A7 @ADH (A7 @A3G (A7 @A6w (A7 @A6z (A7 @A3H (A7 @A6t (A7 @A6u (A7 @ADG (A7 @A3I (A7 @A3J (A7 @A3K (A7 @ADL (A7 @ADM (A7 @ADN (A7 @A70 (A7 @A71 (A7 @mO (A7 @jG (A7 @A7U (A7 @zx (A7 @wB (A7 @A3T (A7 @A7V (A7 @yUn (A7 @A3U (A7 @ADj (A7 @wC (A7 @A3V (A7 @zy (A7 @A3W (A7 @A7Y (A7 @wD (A7 @A7a (A7 @vX (A7 @rE (A7 @rC (A7 @A4I (A7 @yBs (@bR))))))))))))))))))))))))))))))))))))))))))))))))
def BG:=A7 @ADr (A7 @ADs (A7 @ADp (A7 @ADz (A7 @AFD (A7 @A3j (A7 @faE (A7 @foN (A7 @AFJ (A7 @AFK (A7 @A9D (A7 @A4J (A7 @AFN (A7 @AFO (A7 (A7 @fnO @fnA) (A7 @spN (A7 @spC (A7 @AFo (A7 @cvE (A7 @AFp (A7 @AFq (A7 @umN (A7 @umC (A7 @ceN (A7 @ceT (A7 @AFs (A7 @AFt (A7 @AFu (A7 @AFv (A7 @utV (A7 @utC (A7 @ldO (A7 @coE (A7 @AFx (A7 @AFy (A7 @AFz (A7 @AG1 (A7 @oaN (A7 @oaV (A7 @oaC (A7 @oaU (A7 @saU (A7 @saV (A7 @saC (A7 @AG2 (A7 @ADg (A7 @ADh (A7 @ADi (A7 @AGL (A7 @AGM (A7 @A02 (A7 @A3i (A7 @AEK (A7 @AEL (A7 @A7j (A7 @A3Z (A7 @A7k (A7 @A7l (A7 @A7m (A7 @A7n (A7 @A3a (A7 @A7o (A7 @A7p (A7 @A7q (A7 @A7r (A7 @AGA (A7 @ADc (A7 @ADd (A7 @A9P (A7 @A9Q (A7 @AGB (A7 @ctT (A7 @AGC (A7 @AGD (A7 @AGE (A7 (A7 @AGK (A7 @A9S (A7 @AGG (A7 @AGJ (A7 @AGH (A7 @caN (A7 @caV @caC))))))) (A7 @A8T (A7 @A3o (A7 @AEf (A7 @A8U (A7 @A3p (A7 @axK (A7 @A8V (A7 @A8W (A7 @AEg (A7 @A8X (A7 @AGN (A7 @AGO (A7 @dvS (A7 @AGQ (A7 @AGR (A7 @A9T (A7 @ADS (A7 @ADT (A7 @ADU (A7 @A7G (A7 @A7H (A7 @A7I (A7 @A8w (A7 @A8x (A7 @A46 (A7 @AF4 (A7 @A8y (A7 @A8z (A7 @A90 (A7 @AF5 (A7 @bkK (A7 @A9F (A7 (A7 @A4N @AFS) (A7 @A9G (A7 @A6i (A7 @ADE (A7 @ADF (A7 @ndK (A7 @ADl (A7 @A7W (A7 @apK (A7 @A8Q (A7 @AEX (A7 @AEY (A7 @A8i (A7 @A3w (A7 @dl2 (A7 @dl1 (A7 @AFe (A7 @A9K (A7 @AFc (A7 @AFd (A7 @AFT (A7 @AFU (A7 @AFW (A7 @A9H (A7 @AFX (A7 @AFY (A7 @AFZ (A7 @csS (A7 @rg4 (A7 @rg5 (A7 @A9I (A7 @AFa (A7 @A9J (A7 @AFb (A7 @noA (A7 @AFf (A7 @AFg (A7 @A4O (A7 @AFh (A7 @A9L (A7 @A9M (A7 @AFk (A7 @AFl (A7 @AFm (A7 @AFn (A7 @bnN (A7 @bnS (A7 @AG4 (A7 @slT (A7 @AG5 (A7 @AG6 (A7 @AG7 (A7 @AG9 (A7 @A91 (A7 @bkT (A7 @bkF (A7 @bkE (A7 @bkL (A7 @A92 (A7 @A47 (A7 @ipC (A7 @ipN (A7 @ipE (A7 @ieC (A7 @ieN (A7 @fiA (A7 @fiB (A7 @A43 (A7 @A44 (A7 @AEz (A7 @AEM (A7 @AEN (A7 @AEO (A7 @AEP (A7 @bxA (A7 @AER (A7 @hdC (A7 @AEc (A7 @AEd (A7 @AEe (A7 @mvT (A7 @AF8 (A7 @A49 (A7 @A04 (A7 @A94 (A7 @A4A (A7 @A4B (A7 @A95 (A7 @A05 (A7 @A4C (A7 @wF (A7 @A4D (A7 @A06 (A7 @A96 (A7 @A07 (A7 @AF9 (A7 @A4E (A7 @A08 (A7 @A97 (A7 @AFA (A7 @AFB (A7 @AFC (A7 @AFE (A7 @AFF (A7 @AFG (A7 @A4F (A7 @pmR (A7 @pmW (A7 @ADI (A7 @A6x (A7 @ADK (A7 @AD7 (A7 @AD8 (A7 @AD9 (A7 @AFL (A7 @AFI (A7 @AFH (A7 (A7 @AFP @yMk) (A7 (A7 @A9E @AFQ) (A7 @A99 (A7 @A9A (A7 @A3A (A7 @A3B (A7 @zo (A7 @A3C (A7 @A72 (A7 @A3L (A7 @ADO (A7 @zw (A7 @A73 (A7 @A74 (A7 @ADP (A7 @A3M (A7 @A75 (A7 @A76 (A7 @A77 (A7 @A3N (A7 @A78 (A7 @A3O (A7 @A79 (A7 @A7A (A7 @A3P (A7 @A3Q (A7 @A7B (A7 @A3R (A7 @ADQ (A7 @A7C (A7 @A7D (A7 @A7E (A7 @A7F (A7 @A7J (A7 @pkB (A7 @pkT (A7 @pkF (A7 @A6f (A7 @A6g (A7 @A6h (A7 @ADm (A7 @ADn (A7 @ADq (A7 @A7K (A7 @A7L (A7 @A7M (A7 @A7N (A7 @A7O (A7 @A7P (A7 @ADV (A7 @A7Q (A7 @A7R (A7 @ADW (A7 @ADX (A7 @ADY (A7 @ADZ (A7 @ADa (A7 @ADb (A7 @A7S (A7 @A7T (A7 @boI (A7 @boB (A7 @ldC (A7 @ADt (A7 @ldP (A7 @ldB (A7 @ADu (A7 @ldV (A7 @A7b (A7 @A7d (A7 @A3X (A7 @A3Y (A7 @A7e (A7 @ADv (A7 @A7f (A7 @ADw (A7 @A7h (A7 @A7i (A7 @lnT (A7 @AE0 (A7 @A7s (A7 @ixT (A7 @AE2 (A7 @AE4 (A7 @A7t (A7 @tkC (A7 @A7y (A7 @A3e (A7 @AE9 (A7 @A7z (A7 @A80 (A7 @A81 (A7 @A3f (A7 @AEA (A7 @A82 (A7 @A7u (A7 @AE5 (A7 @A7v (A7 @AE6 (A7 @AE7 (A7 @AE8 (A7 @A3d (A7 @A01 (A7 @A3g (A7 @ol (A7 @hoI (A7 @hoB (A7 @A83 (A7 @A84 (A7 @A85 (A7 @AEB (A7 @A86 (A7 @A87 (A7 @A88 (A7 @AED (A7 @A89 (A7 @AEE (A7 @AEF (A7 @AEG (A7 @AEH (A7 @A8A (A7 @A8B (A7 @A8C (A7 @A8D (A7 @A8E (A7 @A8F (A7 @A8G (A7 @A8H (A7 @A3h (A7 @AES (A7 @A8I (A7 @A8J (A7 @A8K (A7 @A8L (A7 @A8M (A7 @A3k (A7 @AET (A7 @A8N (A7 @ceS (A7 (A7 @A3l @AEU) (A7 @AEV (A7 @AEa (A7 @AEb (A7 @A3m (A7 @A3n (A7 @A8R (A7 @A8S (A7 @arC (A7 @arF (A7 @aCS (A7 @A8Y (A7 @A3q (A7 @AEh (A7 @A8Z (A7 @A3r (A7 @atK (A7 @A8b (A7 @A8c (A7 @AEl (A7 @A3s (A7 @A8d (A7 @A8e (A7 @AEi (A7 @AEk (A7 @AEm (A7 @AEn (A7 @A3t (A7 @A8f (A7 @A3u (A7 @A8g (A7 @A3v (A7 @AEo (A7 @A8h (A7 @AEp (A7 @cdB (A7 @AEq (A7 @AEr (A7 @AEs (A7 @cdL (A7 @AEt (A7 @AEu (A7 @A8j (A7 @A3y (A7 @A8k (A7 @A8l (A7 @A8m (A7 @A3z (A7 @A03 (A7 @A8n (A7 @A40 (A7 @AEv (A7 @A8o (A7 @A41 (A7 @AEw (A7 @A11 (A7 @A8q (A7 @A8r (A7 @A8s (A7 @A42 (A7 @AEx (A7 @oq (A7 @AEy (A7 @fiD (A7 @fi0 (A7 @re0 (A7 @re1 (A7 @re2 (A7 @AF0 (A7 @A8t (A7 @A8u (A7 @AF1 (A7 @A45 (A7 @AF2 (A7 @AF3 (A7 @A8v (A7 @A93 (A7 @A48 (A7 @AF7 (A7 @A6j (A7 @A6m (A7 @A3D (A7 @A6p (A7 @A6k (A7 @A6n (A7 @A3E (A7 @A6q (A7 @A6l (A7 @A6o (A7 @A3F (A7 @A6r (A7 @rG (A7 @rH (A7 @A6s (A7 @rJ (A7 @vo (A7 @zq (A7 @zt (A7 @zu (A7 @geq (A7 @Int.toNat_natCast (A7 @Int.toNat_zero (A7 @Int.natCast_nonneg (A7 @Nat.zero_le (A7 @Int.le_refl (A7 @Nat.le_refl (A7 @Bool.and_true (A7 @Bool.true_and (A7 @Bool.and_false (A7 @Bool.false_and (A7 @Bool.or_false (A7 @Bool.false_or (A7 @Bool.or_true (A7 @Bool.true_or (A7 @Bool.not_true (A7 @Bool.not_false (A7 @Bool.false_eq_true (A7 @decide_true (A7 @decide_false (A7 @and_self (A7 @and_true (@true_and)))))))))))))))))))))))))))))))))))))))))))))))))))))))))))))))))))))))))))))))))))))))))))))))))))))))))))))))))))))))))))))))))))))))))))))))))))))))))))))))))))))))))))))))))))))))))))))))))))))))))))))))))))))))))))))))))))))))))))))))))))))))))))))))))))))))))))))))))))))))))))))))))))))))))))))))))))))))))))))))))))))))))))))))))))))))))))))))))))))))))))))))))))))))))))))))))))))))))))))))))))))))))))))))))))))))))))))))))))))))))))))))))))))))))))))))))))))))))))))))))))))
end Dv
