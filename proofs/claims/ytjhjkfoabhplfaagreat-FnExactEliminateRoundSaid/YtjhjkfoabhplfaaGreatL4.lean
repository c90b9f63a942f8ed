/- Value semantics for Go code, part 4: arguments of laws, slim code and rules. Conditions: none beyond those in each lemma. -/
import Derived.Test.YtjhjkfoabhplfaaGreatL3
import Derived.WalkKit
import Derived.ProofKit
import Derived.OpenShut
import Derived.ShutString
import Derived.ChangeOld
import Derived.Below
import Derived.Carry
import Derived.IntWalk
set_option linter.unusedSimpArgs false
set_option linter.unusedVariables false
namespace Dv
open Go
inductive Shp(T:Tys):TypeId→List D→Prop
 |int {t k n} (ht:T.ty t= .int k) (hw:(Lit.int k n).wf=true):Shp T t [.int k n]
 |bool {t b} (ht:T.ty t= .bool):Shp T t [.bool b]
 |string {t s} (ht:T.ty t= .string) (hs:s.size≤maxLen):Shp T t [.str s]
 |slice {t e} {xss:List (List D)} (ht:T.ty t= .slice e) (hx: ∀xs,xs∈xss→Shp T e xs) (hl:xss.length≤maxLen):Shp T t [.sl e xss.flatten]
 |struct {t fs} {ds:List D} (ht:T.ty t= .struct fs) (hl:ds.length=fs.length) (hx: ∀(i:Nat) (f:TypeId) (d:D),fs[i]? =some f→ds[i]? =some d→Shp T f [d]):Shp T t ds
def VN(T:Tys):Nat→TypeId→Bool
 |0,_=>false
 |n+1,t=>match T.ty t with
  | .int _=>true
  | .bool=>true
  | .string=>true
  | .slice e=>T.known e&&VN T n e
  | .struct fs=>(T.nest t).isNone&& !fs.isEmpty&&fs.all (VN T n)
  |_=>false
theorem Shp.length{T:Tys}{t:TypeId}{ds:List D}(h:Shp T t ds):ds.length=T.size t:=by
 cases h with
 |int ht=>simp [Tys.size,ht,Ty.size]
 |bool ht=>simp [Tys.size,ht,Ty.size]
 |string ht=>simp [Tys.size,ht,Ty.size]
 |slice ht=>simp [Tys.size,ht,Ty.size]
 |struct ht hl=>simp [Tys.size,ht,Ty.size,hl]
theorem nH{α:Type}{n:Nat}(hn:0<n): ∀(xss:List (List α)),(∀xs∈xss,xs.length=n)→ ∀k:Nat,xss.flatten[k]? =(xss[k / n]?).bind fun xs=>xs[k % n]? :=by
 intro xss
 induction xss with
 |nil=>intro _ k;simp
 |cons xs xss ih=>
  intro h k;have hx:=h xs (Ja);rw [qM];rcases Nat.lt_or_ge k n with hk|hk
  ·rw [QJ (by omega),Nat.div_eq_of_lt hk,Nat.mod_eq_of_lt hk];rfl
  ·rw [Ro (by omega),ih (fun ys hy=>h ys (KT _ hy)),hx]
   have h1:k / n=(k-n) / n+1:=by
    rw [Nat.div_eq_sub_div hn hk]
   have h2:k % n=(k-n) % n:=by rw [Nat.mod_eq_sub_mod hk]
   rw [h1,h2];rfl
theorem ZL{α:Type}{n:Nat}: ∀(xss:List (List α)),(∀xs∈xss,xs.length=n)→xss.flatten.length=xss.length*n:=by
 intro xss
 induction xss with
 |nil=>intro _;simp
 |cons xs xss ih=>
  intro h;rw [qM,KU,ih (fun ys hy=>h ys (KT _ hy)),h xs (Ja),JS,Nat.add_mul];omega
abbrev uX(w:World):Nat→Prop:=fun k=>k<w.heap.size
section
variable {P:Program} {T:Tys} {H:Type} {enc:TypeId×Value→H} {w:World} {spare:Nat→Bool} {M6:Bool}
theorem Bu.cells(h:Bu P T){t:TypeId}(hk:T.known t=true):P.cellsOf t=T.size t:=by
 obtain⟨i,h1,h2,_⟩:=h.info hk;simp [Program.cellsOf,h1,h2]
theorem rU{n:Nat}{t:TypeId}(h:VN T n t=true):T.known t=true:=by
 cases n with
 |zero=>cases h
 |succ n=>
  unfold VN at h;unfold Tys.known
  cases ht:T.ty t with
  |struct fs=>
   rw [ht]at h
   cases fs with
   |nil=>simp at h
   |cons=>rfl
  |other=>rw [ht]at h;cases h
  |map=>rw [ht]at h;cases h
  |_=>rfl
theorem nI{t:TypeId}(hk:T.known t=true):0<T.size t:=by
 unfold Tys.known at hk;unfold Tys.size
 cases ht:T.ty t with
 |struct fs=>
  rw [ht]at hk
  cases fs with
  |nil=>cases hk
  |cons=>simp [Ty.size]
 |_=>simp [Ty.size]
theorem rV{base:Nat}{a:Addr}{n:Nat}{cs:List Value}(h:w.cells? base a n=some cs):cs.length=n∧ ∀i,i<n→w.cell? (a.add i)=cs[i]? :=by
 unfold World.cells? at h
 split at h
 ·exact⟨by simpa using mapM_some_length h,fun i hi=>by have:=mapM_some_get h i i (by simp [hi]);simpa using this⟩
 ·cases h
theorem A2N{ad:Addr}{v:Value}(h:w.cell? ad=some v):ad.block<w.heap.size:=by
 rcases Nat.lt_or_ge ad.block w.heap.size with hl|hl
 ·exact hl
 ·have h1:=SA hl;simp [World.cell?,h1]at h
theorem zY(hT:Bu P T): ∀(fuel:Nat) (n:Nat) (t:TypeId) (cs:List Value) (x:DataW H×List MemPlace),VN T n t=true→DataW.trod enc P w 0 spare M6 fuel t cs=some x→
  ∃ds,Shp T t ds∧cs.length=ds.length∧ ∀(i:Nat) (d:D),ds[i]? =some d→ ∃v,cs[i]? =some v∧W T (uX w) w V0 Jc d v (fun _=>False):=by
 have hE:Em (fun _:Nat=>False):=fun _ h=>h
 have one: ∀(d0:D) (v0:Value),W T (uX w) w V0 Jc d0 v0 (fun _=>False)→ ∀(i:Nat) (d:D),[d0][i]? =some d→ ∃v,[v0][i]? =some v∧W T (uX w) w V0 Jc d v (fun _=>False):=by
  intro d0 v0 h i d hi
  cases i with
  |zero=>simp at hi;subst hi;exact⟨v0,rfl,h⟩
  |succ i=>simp at hi
 intro fuel
 induction fuel with
 |zero=>intro n t cs x _ h;simp [DataW.trod]at h
 |succ fuel ih=>
  intro n t cs x hd h;have hk:=rU hd;have h0:=(hT t).1;unfold H7 at h0
  cases n with
  |zero=>cases hd
  |succ n=>
   unfold VN at hd
   cases ht:T.ty t<;>rw [ht]at h0 hd<;>simp only at h0 hd
   case int k=>
    obtain⟨m,rfl,_,hw⟩:=DataW.trod_int h0.1 h
    exact⟨[.int k m],.int ht hw,rfl,one _ _ (.int hE)⟩
   case bool=>
    obtain⟨b,rfl,_⟩:=DataW.trod_bool h0.1 h
    exact⟨[.bool b],.bool ht,rfl,one _ _ (.bool hE)⟩
   case string=>
    obtain⟨s,rfl,_,hs⟩:=DataW.trod_string h0.1 h
    exact⟨[.str s],.string ht hs,rfl,one _ _ (.str hE)⟩
   case slice e=>
    simp only [Ju]at hd;have hc:=hT.cells hd.1;have hpos:=nI hd.1;rcases DataW.trod_slice h0.1 h with⟨rfl,_⟩|⟨a,len,cap,elems,rest,m,hm,rfl,_,_,hl,hcap,hlen,hel,_,_⟩
    ·exact⟨[.sl e ([]:List (List D)).flatten],.slice ht (by simp) (by simp [maxLen]),rfl,one _ _ (.sl (fun _=>undef) hE (by simp) (Io _) (by simp [maxLen]) (by simp) (by simp))⟩
    ·injection hm with hm
     subst hm
     have hex: ∀i,i<len→ ∃ds,Shp T e ds∧ ∀(j:Nat) (d:D),ds[j]? =some d→ ∃v,w.cell? (a.add (i*T.size e+j))=some v∧W T (uX w) w V0 Jc d v (fun _=>False):=by
      intro i hi;have h1:=hel i hi;rw [Fz (by omega),J4]at h1
      obtain⟨cs',h2,h3⟩:=h1;obtain⟨ds,q1,q2,q3⟩:=ih n e cs' _ hd.2 h3
      refine⟨ds,q1,fun j d hj=> ?_⟩
      obtain⟨v,hv,hW⟩:=q3 j d hj;obtain⟨c1,c2⟩:=rV h2;rw [hc]at c1 c2;have hj':j<T.size e:=by rw [←c1];exact(Er.1 hv).1
      have h4:=c2 j hj';rw [NF]at h4
      exact⟨v,by rw [h4,hv],hW⟩
     let ch:Nat→List D:=fun i=>if h:i<len then(hex i h).choose else []
     have hch: ∀i,i<len→Shp T e (ch i)∧ ∀(j:Nat) (d:D),(ch i)[j]? =some d→ ∃v,w.cell? (a.add (i*T.size e+j))=some v∧W T (uX w) w V0 Jc d v (fun _=>False):=by
      intro i hi;have:=(hex i hi).choose_spec
      simp only [ch,hi,dif_pos];exact this
     have hall: ∀xs∈(List.range len).map ch,xs.length=T.size e:=by
      intro xs hxs;obtain⟨i,hi,rfl⟩:=Fq.1 hxs
      exact(hch i (Lt.1 hi)).1.length
     refine⟨[.sl e ((List.range len).map ch).flatten],.slice ht (fun xs hxs=> ?_) (by simp;omega),rfl,one _ _ ?_⟩
     ·obtain⟨i,hi,rfl⟩:=Fq.1 hxs
      exact(hch i (Lt.1 hi)).1
     ·have key: ∀(i:Nat) (x:D),((List.range len).map ch).flatten[i]? =some x→ ∃v,w.cell? (a.add i)=some v∧W T (uX w) w V0 Jc x v (fun _=>False):=by
       intro i x hi;rw [nH hpos _ hall,J4]at hi;obtain⟨xs,h1,h2⟩:=hi;rw [OJ,Cw]at h1;obtain⟨q,hq,rfl⟩:=h1;obtain⟨hq1,hq2⟩:=Er.1 hq;simp only [qL]at hq2;subst hq2;obtain⟨v,hv,hW⟩:=(hch _ (by simpa using hq1)).2 _ x h2
       rw [show i / T.size e*T.size e+i % T.size e=i by rw [Nat.mul_comm];exact Nat.div_add_mod i (T.size e)]at hv
       exact⟨v,hv,hW⟩
      refine .sl (fun i=>(w.cell? (a.add i)).getD undef) hE (by rw [ZL _ hall];simp) hl hcap (fun i x hi=> ?_) (fun i x hi=> ?_)
      ·obtain⟨v,hv,_⟩:=key i x hi
       exact⟨a,rfl,by have:=A2N hv;rw [QQ]at this;exact this,by rw [hv];rfl⟩
      ·obtain⟨v,hv,hW⟩:=key i x hi;simp only [hv,YT];exact hW
   case struct fs=>
    simp only [Ju,JR,yP]at hd;obtain⟨⟨fields,hu,hfx⟩,hinfo⟩:=h0;rw [hd.1.1]at hfx;obtain⟨hfl,hfi⟩:=hfx;obtain⟨xs,m,hm,_,hcl,hxl,hx⟩:=DataW.trod_struct hu h
    injection hm with hm
    subst hm;rw [hT.cells hk]at hcl;have hsz:T.size t=fs.length:=by simp [Tys.size,ht,Ty.size]
    have hex: ∀i,i<fs.length→ ∃d f,fs[i]? =some f∧Shp T f [d]∧ ∃v,cs[i]? =some v∧W T (uX w) w V0 Jc d v (fun _=>False):=by
     intro i hi;have hif:i<fields.size:=by omega
     obtain⟨f1,f2,f3,f4⟩:=hfi i _ (Lj hif);have h1:=hx i _ (Lj hif)
     have hs1:T.size fields[i].type=1:=by
      unfold Tys.isStruct at f4;unfold Tys.size
      cases hty:T.ty fields[i].type<;>simp_all [Ty.isStruct,Ty.size]
     rw [f1,hT.cells f3,hs1,Fz (by omega)]at h1
     obtain⟨ds,q1,q2,q3⟩:=ih n _ _ _ (hd.2 _ (bH f2)) h1;have hl1:ds.length=1:=by rw [q1.length,hs1]
     obtain⟨d,rfl⟩:=List.length_eq_one_iff.1 hl1;obtain⟨v,hv,hW⟩:=q3 0 d rfl
     refine⟨d,_,f2,q1,v, ?_,hW⟩
     rw [List.getElem?_take]at hv;simp only [Nat.zero_lt_one,if_true,Tu,Nat.add_zero]at hv;exact hv
    let ch:Nat→D:=fun i=>if h:i<fs.length then(hex i h).choose else .undef
    have hch: ∀i,i<fs.length→ ∃f,fs[i]? =some f∧Shp T f [ch i]∧ ∃v,cs[i]? =some v∧W T (uX w) w V0 Jc (ch i) v (fun _=>False):=by
     intro i hi;have:=(hex i hi).choose_spec
     simp only [ch,hi,dif_pos];exact this
    have hget: ∀(i:Nat) (d:D),((List.range fs.length).map ch)[i]? =some d→i<fs.length∧d=ch i:=by
     intro i d hi;rw [OJ,Cw]at hi;obtain⟨q,hq,rfl⟩:=hi;obtain⟨hq1,hq2⟩:=Er.1 hq;simp only [qL]at hq2;subst hq2
     exact⟨by simpa using hq1,rfl⟩
    refine⟨(List.range fs.length).map ch,.struct ht (by simp) (fun i f d hf hi=> ?_),by simp;omega,fun i d hi=> ?_⟩
    ·obtain⟨h1,rfl⟩:=hget i d hi;obtain⟨f',hf',hs,_⟩:=hch i h1;rw [hf]at hf';injection hf' with hf';subst hf';exact hs
    ·obtain⟨h1,rfl⟩:=hget i d hi;obtain⟨f',hf',hs,v,hv,hW⟩:=hch i h1
     exact⟨v,hv,hW⟩
   all_goals (cases hd)
def top(T:Tys)(t:TypeId)(ds:List D):D:=if T.isStruct t then .agg ds else ds.headD .undef
def Arg(T:Tys)(t:TypeId)(d:D):Prop:= ∃ds,Shp T t ds∧d=top T t ds
theorem A9Q(hT:Bu P T){r:Reach}{base n:Nat}{t:TypeId}{v:Value}{d0:DataW H}{ps:List MemPlace}(hd:VN T n t=true)(hv:Value.okWide P w r base t v)(h:DataW.Trod enc P w 0 spare M6 t v d0 ps):
  ∃d,Arg T t d∧W T (uX w) w V0 Jc d v (fun _=>False):=by
 obtain⟨fuel,hf⟩:=h;obtain⟨ds,q1,q2,q3⟩:=zY hT fuel n t _ _ hd hf;have hfact:=(hT t).1;unfold H7 at hfact
 have flat:T.isStruct t=false→v.cells.toList=[v]→ ∃d,Arg T t d∧W T (uX w) w V0 Jc d v (fun _=>False):=by
  intro hs hc;have hl:ds.length=1:=by rw [←q2,hc];rfl
  obtain⟨d,rfl⟩:=List.length_eq_one_iff.1 hl;obtain⟨v',hv',hW⟩:=q3 0 d rfl;rw [hc]at hv';simp only [QK,Option.some.injEq]at hv';subst hv'
  exact⟨d,⟨[d],q1,by simp [top,hs]⟩,hW⟩
 cases n with
 |zero=>cases hd
 |succ n=>
  unfold VN at hd
  cases ht:T.ty t<;>rw [ht]at hfact hd<;>simp only at hfact hd
  case int k=>
   refine flat (by simp [Tys.isStruct,ht,Ty.isStruct]) ?_
   simp only [Value.okWide,hfact.1,Cell.okWide]at hv
   cases v<;>simp_all [Cell.ok,Value.cells]
  case bool=>
   refine flat (by simp [Tys.isStruct,ht,Ty.isStruct]) ?_
   simp only [Value.okWide,hfact.1,Cell.okWide]at hv
   cases v<;>simp_all [Cell.ok,Value.cells]
  case string=>
   refine flat (by simp [Tys.isStruct,ht,Ty.isStruct]) ?_
   simp only [Value.okWide,hfact.1,Cell.okWide]at hv
   cases v<;>simp_all [Cell.ok,Value.cells]
  case slice e=>
   refine flat (by simp [Tys.isStruct,ht,Ty.isStruct]) ?_
   simp only [Value.okWide,hfact.1,Cell.okWide]at hv
   cases v<;>simp_all [Cell.ok,Value.cells]
  case struct fs=>
   obtain⟨⟨fields,hu,_⟩,_⟩:=hfact;obtain⟨cs,rfl,hcs⟩:=WideShapes.okWide_struct hu hv
   have hval: ∀(i:Nat) (d:D),ds[i]? =some d→cs[i]? =some (cs.getD i undef)∧W T (uX w) w V0 Jc d (cs.getD i undef) (fun _=>False):=by
    intro i d hi;obtain⟨v,hv',hW⟩:=q3 i d hi;have:cs[i]? =some v:=by simpa [Value.cells] using hv'
    rw [R3,this];exact⟨rfl,hW⟩
   refine⟨.agg ds,⟨ds,q1,by simp [top,Tys.isStruct,ht,Ty.isStruct]⟩,.agg (fun i=>cs.getD i undef) (fun _ _=>False) (by simpa [Value.cells] using q2) (fun i x hi=>(hval i x hi).1) (fun k=>⟨fun h=>h.elim,fun⟨_,_,h⟩=>h⟩) (fun _ _ _ _ _ _ h=>h.elim) (fun i x hi=>(hval i x hi).2)⟩
  all_goals (cases hd)
end
def A5c(T:Tys):List TypeId→List D→Prop
 | [],[]=>True
 |t::ts,d::ds=>Arg T t d∧A5c T ts ds
 |_,_=>False
theorem args_W{P:Program}{T:Tys}{H:Type}{enc:TypeId×Value→H}{w:World}{r:Reach}{base n:Nat}(hT:Bu P T): ∀(ts:List TypeId) (vs:List Value) (d0:List (DataW H)) (ps:List MemPlace),ts.all (VN T n)=true→
  (∀(j:Nat) (t:TypeId) (v:Value),ts[j]? =some t→vs[j]? =some v→Value.okWide P w r base t v)→DataW.TrodAll enc P w 0 (fun _=>true) true ts vs d0 ps→
  ∃ds,A5c T ts ds∧vs.length=ds.length∧ ∀(i:Nat) (d:D),ds[i]? =some d→ ∃v,vs[i]? =some v∧W T (uX w) w V0 Jc d v (fun _=>False):=by
 intro ts
 induction ts with
 |nil=>
  intro vs d0 ps _ _ h
  cases vs<;>cases d0<;>simp [DataW.TrodAll]at h
  exact⟨[],trivial,rfl,by simp⟩
 |cons t ts ih=>
  intro vs d0 ps hd hv h
  cases vs with
  |nil=>cases d0<;>simp [DataW.TrodAll]at h
  |cons v vs=>
   cases d0 with
   |nil=>simp [DataW.TrodAll]at h
   |cons d0 ds0=>
    simp only [DataW.TrodAll]at h;obtain⟨p,q,h1,h2,_⟩:=h;simp only [Xo,Ju]at hd;obtain⟨d,ha,hW⟩:=A9Q hT hd.1 (hv 0 t v rfl rfl) h1;obtain⟨ds,hb,hl,hWs⟩:=ih vs ds0 q hd.2 (fun j t' v' hj hj'=>hv (j+1) t' v' (by simpa using hj) (by simpa using hj')) h2
    refine⟨d::ds,⟨ha,hb⟩,by simp [hl],fun i x hi=> ?_⟩
    cases i with
    |zero=>simp at hi;subst hi;exact⟨v,rfl,hW⟩
    |succ i=>simpa using hWs i x (by simpa using hi)
theorem law_calls{Y:Sys}(hY:Y.Ok){f:FuncId}{ds:List D}(hc:Y.call f ds []=some (.bool true,[])){vs:Array Value}{w:World}(hl:vs.size=ds.length)
  (hW: ∀(i:Nat) (d:D),ds[i]? =some d→ ∃v,vs[i]? =some v∧W Y.T (uX w) w V0 Jc d v (fun _=>False)):
  Calls Y.P f vs w fun e w'=>e= .returned (.bool true)∧RowKit.Below w.heap.size w w':=by
 have hg:=Sys.call_good hY hc;refine Calls.mono (hg.2 vs (fun _=>undef) w (uX w) (fun _ _=>False) hl (fun i d hi=> ?_) (fun j d hj=>by simp at hj) (fun _ _ _ h=>h) (fun _ _ _ _ h=>h.elim) (fun _ h=>h)) ?_
 ·obtain⟨v,hv,hWv⟩:=hW i d hi
  exact⟨v,hv,hWv.up⟩
 ·intro e w' he
  cases e with
  |returned v=>
   obtain⟨S',F,FL',h1,_,_,_,hst,_,_⟩:=he
   cases h1 with
   |bool=>exact⟨rfl,hst.os,hst.tape,hst.output,hst.size,fun k hk=>hst.heap k hk (fun _ h=>h)⟩
  |panicked=>exact he.elim
  |outgrown=>exact he.elim
theorem trodAll_below{H:Type}{enc:TypeId×Value→H}{P:Program}(hl:laidOutB P=true){W W':World}(hb:RowKit.Below W.heap.size W W'): ∀ {ts:List TypeId} {vs:List Value} {ds:List (DataW H)} {ps:List MemPlace},
  ts.all (fun t=>P.readableRec t&&decide (t<P.types.size))=true→DataW.TrodAll enc P W 0 (fun _=>true) true ts vs ds ps→DataW.TrodAll enc P W' 0 (fun b=>decide (b<W.heap.size)) true ts vs ds ps:=by
 intro ts
 induction ts with
 |nil=>
  intro vs ds ps _ h
  cases vs<;>cases ds<;>simp [DataW.TrodAll]at h ⊢
  exact h
 |cons t ts ih=>
  intro vs ds ps hr h
  cases vs with
  |nil=>cases ds<;>simp [DataW.TrodAll]at h
  |cons v vs=>
   cases ds with
   |nil=>simp [DataW.TrodAll]at h
   |cons d ds=>
    simp only [DataW.TrodAll]at h ⊢;obtain⟨p,q,h1,h2,h3⟩:=h;simp only [Xo,Ju,decide_eq_true_eq]at hr;have lt0: ∀x∈p,x.block<W.heap.size:=by obtain⟨m,hm⟩:=h1;exact DataW.trod_lt m _ _ _ hm
    exact⟨p,q,RowKit.Below.trod hl hr.1.1 hr.1.2 h1 hb lt0,ih (by simpa using hr.2) h2,h3⟩
end Dv
namespace Dv
open Go
theorem nr{α:Type}{a b:α}(h:a=b):a=b:=h
structure SOp where
 dst:Option Tmp
 op:Op
 type:TypeId
 guard:Option (Option Tmp×Bool)
structure PmL where
 n:List Nat
 r:List Nat
 w:List Nat
def PmL.pm(l:PmL):Pm:=⟨fun r=>l.n.contains r|| !l.r.contains r,fun r=>l.w.contains r⟩
inductive SC where
 |skip
 |ops (l:List SOp)
 |draws (l:List (PmL×SOp))
 |seq (a b:SC)
 |cond (c:Operand) (a b:SC)
 |block (id:Nat) (c:SC)
 |loop (c:SC)
 |exit (id:Nat)
 |ret
 |bad
abbrev tK(u:Nat):Operand:= .tmp u
abbrev iK(n:Int):Operand:= .const (.int .i64 n)
abbrev oX(d:Nat)(p:Op)(y:TypeId):SOp:=⟨some d,p,y,none⟩
abbrev oM(d u:Nat)(y:TypeId):SOp:=⟨some d,.move (.tmp u),y,none⟩
abbrev oA(d u:Nat)(y:TypeId):SOp:=⟨some d,.assign (.tmp u),y,none⟩
abbrev oL(d:Nat)(t:TypeId)(u:Nat)(y:TypeId):SOp:=⟨some d,.load t (.tmp u),y,none⟩
abbrev oI(d:Nat)(t:TypeId)(u v:Nat):SOp:=⟨some d,.indexAddr t (.tmp u) (.tmp v),0,none⟩
abbrev oN(d u:Nat)(t:TypeId):SOp:=⟨some d,.call ⟨.builtin .len, #[.tmp u], #[t]⟩,3,none⟩
abbrev oC(d f:Nat)(a:List Operand)(t:List TypeId)(y:TypeId):SOp:=⟨some d,.call ⟨.value (.func f),a.toArray,t.toArray⟩,y,none⟩
abbrev oS(t:TypeId)(a u:Nat):SOp:=⟨none,.store t (.tmp a) (.tmp u),0,none⟩
abbrev oF(d:Nat)(t:TypeId)(u i:Nat):SOp:=⟨some d,.fieldAddr t (.tmp u) i,0,none⟩
abbrev oE(d u i:Nat)(y:TypeId):SOp:=⟨some d,.extract (.tmp u) i,y,none⟩
abbrev oB(d:Nat)(o:BinOp)(t:TypeId)(a b:Operand)(r y:TypeId):SOp:=⟨some d,.binOp o t a b r,y,none⟩
def UZ(ops:Array Oper)(o:Oper):SOp:=⟨o.dst,o.op,o.type,match o.guard with|none=>none|some (j,b)=>some ((ops[j]?).bind (·.dst),b)⟩
def BI(lends:FuncId→Bool):Code→SC
 | .skip=> .skip
 | .region _ ops draw=>
  if draw then
   (if SQ lends ops.toList then .draws (ops.toList.map fun o=>(⟨IP ops.toList o,ops.toList.flatMap (Ew lends ops.toList),Ew lends ops.toList o⟩,UZ ops (Ye lends ops.toList o)))else .bad)
  else .ops (ops.toList.map fun o=>UZ ops (tag lends ops.toList o))
 | .seq a b=> .seq (BI lends a) (BI lends b)
 | .cond c a b=> .cond c (BI lends a) (BI lends b)
 | .block id c=> .block id (BI lends c)
 | .loop c=> .loop (BI lends c)
 | .exit id=> .exit id
 | .ret=> .ret
 |_=> .bad
def Ph(E:Env)(pm:Pm)(s:St)(dst:Option Tmp)(op:Op)(type:TypeId):Option St:=opD E pm s ⟨dst,op,type, "", #[],none⟩
def UE(E:Env)(pm:Pm)(s:St)(o:SOp):Option St:=
 match o.guard with
 |none=>Ph E pm s o.dst o.op o.type
 |some (none,_)=>some (s.putO o.dst (.konst undef))
 |some (some t,b)=>
  match s.v t with
  | .bool b'=>if b'==b then Ph E pm s o.dst o.op o.type else some (s.putO o.dst (.konst undef))
  | .konst (.tuple _)=>some (s.putO o.dst (.konst undef))
  |_=>none
def zZ(E:Env):List SOp→St→Option St
 | [],s=>some s
 |o::l,s=>(UE E Pm.all s o).bind fun s'=>zZ E l s'
def Ji(pm:Pm)(s:St)(op:Op):Bool:=
 match op with
 | .move (.tmp u)=> !(s.v u).hasObj||(s.v u).isObj||pm.wr u
 |_=>true
def nJ(E:Env):List (PmL×SOp)→St→Option St
 | [],s=>some s
 |(p,o)::l,s=>if Ji p.pm s o.op then(UE E p.pm s o).bind fun s'=>nJ E l s' else none
noncomputable def Eg(E:Env):SC→St→Option (Ex×St)
 | .skip,s=>some (.normal,s)
 | .ops l,s=>(zZ E l s).map fun s'=>(.normal,s')
 | .draws l,s=>(nJ E l s).map fun s'=>(.normal,s')
 | .seq a b,s=>
  match Eg E a s with
  |some (.normal,s')=>Eg E b s'
  |r=>r
 | .cond c a b,s=>
  match ev E.T s 0 c with
  |some (.bool t)=>if t then Eg E a s else Eg E b s
  |_=>none
 | .block id c,s=>
  match Eg E c s with
  |some (.exit j,s')=>if j=id then some (.normal,s')else some (.exit j,s')
  |r=>r
 | .loop c,s=>Yf (Eg E c) s
 | .exit id,s=>some (.exit id,s)
 | .ret,s=>some (.ret,s)
 | .bad,_=>none
theorem nK(E:Env)(ops:Array Oper)(pm:Pm)(s:St)(o:Oper):UE E pm s (UZ ops o)=M3 E ops pm s o:=by
 obtain⟨dst,op,type,pos,after,guard⟩:=o;unfold UE M3 QN UZ
 cases guard with
 |none=>rfl
 |some g=>
  obtain⟨j,b⟩:=g;simp only
  cases (ops[j]?).bind (·.dst)with
  |none=>rfl
  |some t=>
   simp only
   cases hv:s.v t with
   |bool b'=>simp only;cases hb:(b'==b)<;>simp<;>rfl
   |konst v=>cases v<;>rfl
   |_=>rfl
theorem A2O(E:Env)(ops:Array Oper): ∀(l:List Oper) (s:St),zZ E (l.map fun o=>UZ ops (tag E.lends ops.toList o)) s=bL E ops s l:=by
 intro l
 induction l with
 |nil=>intro s;rfl
 |cons o l ih=>
  intro s;simp only [Rp,zZ,bL,nK]
  cases M3 E ops Pm.all s (tag E.lends ops.toList o)with
  |none=>rfl
  |some s'=>simp only [Bl];exact ih s'
theorem za(E:Env)(ops:Array Oper)(l0:List Oper): ∀(l:List Oper) (s:St),
  nJ E (l.map fun o=>(⟨IP l0 o,l0.flatMap (Ew E.lends l0),Ew E.lends l0 o⟩,UZ ops (Ye E.lends ops.toList o))) s=UB E ops l0 s l:=by
 intro l
 induction l with
 |nil=>intro s;rfl
 |cons o l ih=>
  intro s;simp only [Rp,nJ,UB,nK];have h1:(PmL.mk (IP l0 o) (l0.flatMap (Ew E.lends l0)) (Ew E.lends l0 o)).pm=Kg E.lends l0 o:=nr rfl;have h2:Ji (Kg E.lends l0 o) s (UZ ops (Ye E.lends ops.toList o)).op=qR (Kg E.lends l0 o) s o:=nr rfl;rw [h1,h2];split
  ·cases M3 E ops (Kg E.lends l0 o) s (Ye E.lends ops.toList o)with
   |none=>rfl
   |some s'=>simp only [Bl];exact ih s'
  ·rfl
theorem zb(E:Env): ∀(c:Code),Eg E (BI E.lends c)=Ee E c:=by
 intro c
 induction c with
 |skip=>rfl
 |region id ops draw=>
  funext s
  simp only [BI,Ee]
  cases draw with
  |true=>
   simp only [if_true];split
   ·simp only [Eg];rw [za]
   ·rfl
  |false=>simp only [O5,if_false,Eg];rw [A2O]
 |seq a b iha ihb=>funext s;simp only [BI,Eg,Ee,iha,ihb];rfl
 |cond x a b iha ihb=>funext s;simp only [BI,Eg,Ee,iha,ihb];rfl
 |block id c ih=>funext s;simp only [BI,Eg,Ee,ih];rfl
 |loop c ih=>funext s;simp only [BI,Eg,Ee,ih]
 |exit id=>rfl
 |ret=>rfl
 |rangeFunc=>rfl
 |scope=>rfl
 |label=>rfl
 |goto=>rfl
 |refuse=>rfl
def BU(E:Env)(c:SC)(Q:Ex→St→Prop)(s:St):Prop:= ∃ex s',Eg E c s=some (ex,s')∧Q ex s'
section
variable {E:Env} {Q:Ex→St→Prop} {s:St}
def nL(E:Env)(b:SC)(Q:Ex→St→Prop):Ex→St→Prop
 | .normal,s=>BU E b Q s
 |ex,s=>Q ex s
def inBlock(id:Nat)(Q:Ex→St→Prop):Ex→St→Prop
 | .exit j,s=>if j=id then Q .normal s else Q (.exit j) s
 |ex,s=>Q ex s
theorem A5d{a b:SC}(h:BU E a (nL E b Q) s):BU E (.seq a b) Q s:=by
 obtain⟨ex,s1,h1,h2⟩:=h
 cases ex with
 |normal=>
  obtain⟨ex',s2,h3,h4⟩:=h2
  exact⟨ex',s2,by simp [Eg,h1,h3],h4⟩
 |exit id=>exact⟨_,s1,by simp [Eg,h1],h2⟩
 |ret=>exact⟨_,s1,by simp [Eg,h1],h2⟩
theorem ze{id:Nat}{c:SC}(h:BU E c (inBlock id Q) s):BU E (.block id c) Q s:=by
 obtain⟨ex,s1,h1,h2⟩:=h
 cases ex with
 |normal=>exact⟨_,s1,by simp [Eg,h1],h2⟩
 |exit j=>
  simp only [inBlock]at h2;by_cases hj:j=id
  ·subst hj;rw [if_pos rfl]at h2;exact⟨.normal,s1,by simp [Eg,h1],h2⟩
  ·rw [if_neg hj]at h2;exact⟨_,s1,by simp [Eg,h1,hj],h2⟩
 |ret=>exact⟨_,s1,by simp [Eg,h1],h2⟩
theorem AZ{c:SC}{Q':Ex→St→Prop}(h:BU E c Q s)(hq: ∀ex s,Q ex s→Q' ex s):BU E c Q' s:=by
 obtain⟨ex,s1,h1,h2⟩:=h;exact⟨ex,s1,h1,hq _ _ h2⟩
end
def Du(T:Tys)(n:Nat)(rs:List ResultVar)(r:D×List D):Ex→St→Prop
 | .normal,s=>bM T n rs s=some r
 | .ret,s=>bM T n rs s=some r
 | .exit _,_=>False
theorem Sys.call_wp{Y:Sys}{f:FuncId}{fn:Func}{c:Code}{k:SC}{a l:List D}{r:D×List D}(hb:Y.base f a l=none)(hf:Y.P.funcs[f]? =some fn)(hok:BR fn a.length=true)
  (hbody:fn.body=some c)(hk:BI Y.lends c=k)(h:BU Y.env k (Du Y.T l.length fn.results.toList r) (entry a l)):Y.call f a l=some r:=by
 refine Sys.call_run hb hf hok ?_;obtain⟨ex,s1,h1,h2⟩:=h;unfold lZ;rw [←hk]at h1;have h3:Eg Y.env (BI Y.env.lends c)=Ee Y.env c:=zb Y.env c;have h4:Ee Y.env c (entry a l)=some (ex,s1):=by rw [←h3];exact h1
 rw [hbody];simp only [h4]
 cases ex with
 |normal=>exact h2
 |ret=>exact h2
 |exit id=>exact h2.elim
section
variable (E:Env) (pm:Pm) (s:St) (dst:Option Tmp) (ty:TypeId)
theorem rW(op:Op):UE E pm s ⟨dst,op,ty,none⟩=Ph E pm s dst op ty:=nr rfl
def grd(E:Env)(pm:Pm)(s:St)(dst:Option Tmp)(op:Op)(ty:TypeId)(b:Bool)(d:D):Option St:=
 match d with
 | .bool b'=>if b'==b then Ph E pm s dst op ty else some (s.putO dst (.konst undef))
 | .konst (.tuple _)=>some (s.putO dst (.konst undef))
 |_=>none
theorem nM(op:Op)(t:Tmp)(b:Bool):UE E pm s ⟨dst,op,ty,some (some t,b)⟩=grd E pm s dst op ty b (s.v t):=nr rfl
theorem AFx(op:Op)(b':Bool):grd E pm s dst op ty true (.bool b')=if b'=true then Ph E pm s dst op ty else some (s.putO dst (.konst undef)):=by cases b'<;>rfl
theorem AFy(op:Op)(b':Bool):grd E pm s dst op ty false (.bool b')=if b'=true then some (s.putO dst (.konst undef))else Ph E pm s dst op ty:=by cases b'<;>rfl
theorem AFz(op:Op)(b:Bool):grd E pm s dst op ty b (.konst undef)=some (s.putO dst (.konst undef)):=nr rfl
def pk(s:St)(dst:Option Tmp)(c a b:Option D):Option St:=
 match c,a,b with
 |some (.bool t),some x,some y=>if(if t then x else y).hasObj then none else some (s.putO dst (if t then x else y))
 |_,_,_=>none
theorem zf(c a b:Operand):Ph E pm s dst (.pick c a b) ty=pk s dst (ev E.T s ty c) (ev E.T s ty a) (ev E.T s ty b):=nr rfl
theorem pkT(x y:D)(h:x.hasObj=false):pk s dst (some (.bool true)) (some x) (some y)=some (s.putO dst x):=by simp [pk,h]
theorem pkF(x y:D)(h:y.hasObj=false):pk s dst (some (.bool false)) (some x) (some y)=some (s.putO dst y):=by simp [pk,h]
theorem pkB(t p q:Bool):pk s dst (some (.bool t)) (some (.bool p)) (some (.bool q))=some (s.putO dst (.bool (if t then p else q))):=by cases t<;>rfl
theorem hoB(b:Bool):(D.bool b).hasObj=false:=by simp [D.hasObj]
theorem hoI(k:IntKind)(n:Int):(D.int k n).hasObj=false:=by simp [D.hasObj]
theorem hoS(b:ByteArray):(D.str b).hasObj=false:=by simp [D.hasObj]
theorem wW(t:TypeId):Ph E pm s dst (.alloc t) ty=if E.T.known t then some (s.putO dst (.box (E.T.zeros t)))else none:=nr rfl
theorem A2P(t:TypeId)(x:Operand):Ph E pm s dst (.box t x) ty=if ty=900003 then(SK E.T pm s dst t x).bind fun s1=>Fx pm s1 dst else SK E.T pm s dst t x:=nr rfl
theorem zg(t:TypeId)(x:Operand):SK E.T pm s dst t x=match Ya (ev E.T s t x)with
  |some ds=>if E.T.isStruct t then some (s.putO dst (.box ds))else none
  |none=>
   match take E.T pm s t x with
   |some (d,s1)=>if E.T.isStruct t==d.isAgg then some (s1.putO dst (.box d.asCells))else none
   |none=>none:=nr rfl
theorem wX(t:TypeId)(parts:Array (Nat×Operand)):Ph E pm s dst (.build t parts) ty=match E.T.nest t with
  |some fl=>if E.T.isStruct t&&E.T.known t then(M0 E.T pm fl s (E.T.zeros t) parts.toList).map fun r=>r.2.putO dst (.agg r.1)else none
  |none=>match E.T.ty t with
   | .struct fs=>if E.T.known t then(Iq E.T pm (fun i=>fs.getD i 0) 1 s (E.T.zeros t) parts.toList).map fun r=>r.2.putO dst (.agg r.1)else none
   |_=>none:=nr rfl
theorem ZM(t:TypeId)(len:Nat)(parts:Array (Nat×Operand)):Ph E pm s dst (.buildSlice t len parts) ty=if ty=900004 then(Yc E.T pm s dst t len parts).bind fun s1=>QM pm s1 dst else Yc E.T pm s dst t len parts:=nr rfl
def stF(pm:Pm)(a:Operand):Option St→Option St
 |some s1=>Fx pm s1 (Yd a)
 |none=>none
theorem zh(a:Operand)(o:Option St):stF pm a o=o.bind fun s1=>Fx pm s1 (Yd a):=by cases o<;>rfl
theorem wY(t:TypeId)(a x:Operand):Ph E pm s none (.store t a x) ty=if ty=900007 then GM E.T pm t a (Og E.T pm s t x)else if ty=900010 then XM E.T pm s t a x else if ty=900011 then stF pm a (Lx E.T pm s t a x)else Lx E.T pm s t a x:=by
 rw [zh];rfl
def Mo(s:St)(dst:Option Tmp):Option D→Option St
 |some r=>some (s.putO dst r)
 |none=>none
theorem A9R(r:D):Mo s dst (some r)=some (s.putO dst r):=nr rfl
def iL(dst:Option Tmp):Option (D×St)→Option St
 |some r=>some (r.2.putO dst r.1)
 |none=>none
theorem A9S(r:D)(s:St):iL dst (some (r,s))=some (s.putO dst r):=nr rfl
def bW(T:Tys)(s:St)(dst:Option Tmp)(op:BinOp)(t:TypeId):Option D→Option D→Option St
 |some a,some b=>if SI T t a then Mo s dst (FU op a b)else none
 |_,_=>none
theorem A9T(T:Tys)(op:BinOp)(t:TypeId)(a b:D):bW T s dst op t (some a) (some b)=if SI T t a then Mo s dst (FU op a b)else none:=nr rfl
def fzB(pm:Pm)(dst:Option Tmp)(u:Tmp):Option St→Option St
 |some s1=>lW pm s1 dst u
 |none=>none
theorem A5e(op:BinOp)(t:TypeId)(x y:Operand)(t':TypeId):Ph E pm s dst (.binOp op t x y t') ty=if ty<2000000 then Je E.T pm s dst op t x y else fzB pm dst (ty-2000000) (Je E.T pm s dst op t x y):=by
 show(if ty<2000000 then Je E.T pm s dst op t x y else(Je E.T pm s dst op t x y).bind fun s1=>lW pm s1 dst (ty-2000000))=_
 cases Je E.T pm s dst op t x y<;>rfl
theorem YM(op:BinOp)(t:TypeId)(x y:Operand)(hq:lU E.T op t y=none):Je E.T pm s dst op t x y=bW E.T s dst op t (ev E.T s t x) (ev E.T s t y):=by
 unfold Je;rw [hq];simp only
 cases ev E.T s t x<;>cases ev E.T s t y<;>simp only [bW]
 rename_i a b
 cases FU op a b<;>rfl
theorem AG1(op:BinOp)(t:TypeId)(x:Operand)(u:Tmp)(t':TypeId):Ph E pm s dst (.binOp op t x (.tmp u) t') ty=if ty<2000000 then bW E.T s dst op t (ev E.T s t x) (some (s.v u))else fzB pm dst (ty-2000000) (bW E.T s dst op t (ev E.T s t x) (some (s.v u))):=by
 rw [A5e,YM E pm s dst op t x (.tmp u) rfl];rfl
theorem AG2(op:BinOp)(t:TypeId)(x:Operand)(k:IntKind)(n:Int)(t':TypeId):Ph E pm s dst (.binOp op t x (.const (.int k n)) t') ty=if ty<2000000 then bW E.T s dst op t (ev E.T s t x) (some (.int k n))else fzB pm dst (ty-2000000) (bW E.T s dst op t (ev E.T s t x) (some (.int k n))):=by
 rw [A5e,YM E pm s dst op t x _ rfl];rfl
def zi(s:St)(dst:Option Tmp)(q:Bool):Option Bool→Option St
 |some b=>some (s.putO dst (.bool (b==q)))
 |none=>none
theorem A9U(b:Bool):zi s dst true (some b)=some (s.putO dst (.bool b)):=by cases b<;>rfl
def nt0(op:BinOp)(s:St)(dst:Option Tmp)(r:Option Bool)(o:Option St):Ty→Option St
 | .slice _=>match op with| .eql=>zi s dst true r| .neq=>zi s dst false r|_=>o
 |_=>o
theorem AG3(r:Option Bool)(o:Option St)(e:TypeId):nt0 .eql s dst r o (.slice e)=zi s dst true r:=nr rfl
theorem A2Q(op:BinOp)(t:TypeId)(u:Tmp):Je E.T pm s dst op t (.tmp u) (.const (.slice none 0 0))=nt0 op s dst (WS pm s (s.v u)) (bW E.T s dst op t (some (s.v u)) (ev E.T s t (.const (.slice none 0 0)))) (E.T.ty t):=by
 have key: ∀q,lU E.T op t (.const (.slice none 0 0))=some q→Je E.T pm s dst op t (.tmp u) (.const (.slice none 0 0))=zi s dst q (WS pm s (s.v u)):=by
  intro q hq;unfold Je;rw [hq];simp only [ev,Bl]
  cases WS pm s (s.v u)<;>rfl
 cases ht:E.T.ty t with
 |slice e=>
  cases op<;>first
   |(simp only [nt0];exact key true (by simp [lU,ht]))
   |(simp only [nt0];exact key false (by simp [lU,ht]))
   |(simp only [nt0];exact YM E pm s dst _ t _ _ (by simp [lU,ht]))
 |_=>exact YM E pm s dst _ t _ _ (by simp [lU,ht])
theorem A5g(op:BinOp)(t:TypeId)(u:Tmp)(t':TypeId):Ph E pm s dst (.binOp op t (.tmp u) (.const (.slice none 0 0)) t') ty=if ty<2000000 then nt0 op s dst (WS pm s (s.v u)) (bW E.T s dst op t (some (s.v u)) (ev E.T s t (.const (.slice none 0 0)))) (E.T.ty t)
  else fzB pm dst (ty-2000000) (nt0 op s dst (WS pm s (s.v u)) (bW E.T s dst op t (some (s.v u)) (ev E.T s t (.const (.slice none 0 0)))) (E.T.ty t)):=by
 rw [A5e,A2Q]
theorem AG4(e:TypeId)(x:D)(xs:List D):WS pm s (.sl e (x::xs))=some false:=nr rfl
theorem ndK(A:Option Addr)(n c:Nat):WS pm s (.konst (.slice A n c))=some A.isNone:=nr rfl
theorem nN(src d:TypeId)(x:Operand):Ph E pm s dst (.convert src d x) ty=if E.T.known src then
   match ev E.T s src x,E.T.ty d with
   |some (.int _ n),.int k=>some (s.putO dst (.int k (k.wrap n)))
   |some (.str b),.string=>some (s.putO dst (.str b))
   |_,_=>none
  else none:=nr rfl
theorem iM(f:FuncId)(first captured:Array Operand):Ph E pm s dst (.makeFunc (.func f) first captured) ty=if ty<3000000 then(if first.isEmpty then(Oj pm s captured.toList).map fun r=>r.2.putO dst (.clo f r.1)else none)
  else(if first.isEmpty then(Yb pm s (ty-3000000) captured.toList).map fun r=>r.2.putO dst (.ocl false f r.1)else none):=nr rfl
theorem bX(t:TypeId)(l c:Operand):Ph E pm s dst (.makeSlice t l c) ty=if ty=900012 then(bK E.T s dst t l c).bind fun s1=>QM pm s1 dst else bK E.T s dst t l c:=nr rfl
theorem iO(x:Operand):Ph E pm s dst (.nilCheck x) ty=(ev E.T s ty x).bind fun d=>
   match d with
   | .box _=>some (Cf s dst x d)
   | .vw L n m=>match s.look pm L n m with|some (.box _)=>some (Cf s dst x d)|_=>none
   | .pe L _ n m=>match s.look pm L n m with|some _=>some (Cf s dst x d)|none=>none
   | .cptr _=>some (Cf s dst x d)
   | .clo _ _=>some (Cf s dst x d)
   | .ocl false _ _=>some (Cf s dst x d)
   |_=>none:=nr rfl
theorem rX(x y:Operand)(t t':TypeId):Ph E pm s dst (.call ⟨.builtin .append, #[x,y], #[t,t']⟩) ty=if t=t' then(if isZ (ev E.T s t y)then Oh E.T pm s t x else Ip E.T pm s t x y).map fun r=>r.2.putO dst r.1 else none:=nr rfl
theorem zk(f:FuncId)(args:Array Operand)(ts:Array TypeId):Ph E pm s dst (.call ⟨.value (.func f),args,ts⟩) ty=if args.size=ts.size then(if ty=900014 then(IM E pm s dst f (args.toList.zip (SN ty ts.toList)) []).bind fun s1=>Fx pm s1 dst else IM E pm s dst f (args.toList.zip (SN ty ts.toList)) [])else none:=nr rfl
theorem wZ(u:Tmp)(args:Array Operand)(ts:Array TypeId):Ph E pm s dst (.call ⟨.value (.tmp u),args,ts⟩) ty=match s.v u with
   | .clo f caps=>if args.size=ts.size then IM E pm s dst f (args.toList.zip ts.toList) caps else none
   | .ocl false f caps=>if args.size=ts.size then Ol E pm s dst f (args.toList.zip ts.toList) caps else none
   |_=>none:=nr rfl
end
theorem A5h(T:Tys)(s:St)(t:TypeId)(u:Tmp):ev T s t (.tmp u)=some (s.v u):=nr rfl
theorem A5i(T:Tys)(s:St)(t:TypeId)(k:IntKind)(n:Int):ev T s t (.const (.int k n))=some (.int k n):=nr rfl
theorem A2R(T:Tys)(s:St)(t:TypeId)(b:Bool):ev T s t (.const (.bool b))=some (.bool b):=nr rfl
theorem A5j(T:Tys)(s:St)(t:TypeId):ev T s t (.const (.slice none 0 0))=match T.ty t with| .slice e=>some (.own e [])| .other=>some (.konst (.slice none 0 0))|_=>none:=nr rfl
theorem A9V(s:St)(t u:Nat)(d:D):(s.put t d).v u=if u=t then d else s.v u:=by rw [A3U];rfl
theorem A9W(s:St)(t u:Nat)(d:D):(s.put t d).k u=if u=t then(if d.hasObj then s.k t+1 else s.k t)else s.k u:=by
 unfold St.put;by_cases h:u=t
 ·subst h;cases hd:d.hasObj<;>simp [PX]
 ·cases hd:d.hasObj<;>simp [PX,h]
theorem A9X(s:St)(t u:Nat)(d:D):(s.put t d).m u=s.m u:=by unfold St.put;split<;>rfl
theorem A9Y(s:St)(t u:Nat):(s.clr t).v u=if u=t then .undef else s.v u:=nr rfl
theorem A9Z(s:St)(t u:Nat):(s.clr t).k u=s.k u:=nr rfl
theorem A9a(s:St)(t u:Nat):(s.clr t).m u=s.m u:=nr rfl
theorem A5k(s:St)(t u:Nat):(s.bump t).v u=s.v u:=nr rfl
theorem A5l(s:St)(t u:Nat):(s.bump t).k u=s.k u:=nr rfl
theorem A5m(s:St)(t u:Nat):(s.bump t).m u=if u=t then s.m t+1 else s.m u:=nr rfl
theorem A9b(s:St)(t u:Nat)(p:A9)(d:D):(s.set (t::p) d).v u=if u=t then H6 (s.v t) p d else s.v u:=nr rfl
theorem A9c(s:St)(t u:Nat)(p:A9)(d:D):(s.set (t::p) d).k u=s.k u:=nr rfl
theorem A9d(s:St)(t u:Nat)(p:A9)(d:D):(s.set (t::p) d).m u=s.m u:=nr rfl
theorem wh(s:St)(t:Tmp)(d:D):s.putO (some t) d=s.put t d:=nr rfl
theorem wm(s:St)(d:D):s.putO none d=s:=nr rfl
theorem A9e(Y:Sys):Y.env.T=Y.T:=nr rfl
theorem wo(Y:Sys):Y.env.lends=Y.lends:=nr rfl
theorem zm(Y:Sys):Y.env.call=Y.call:=nr rfl
theorem A2S(a l:List D)(t:Nat):(entry a l).v t=if t<G then a.getD t .undef else l.getD (t-G) .undef:=nr rfl
theorem A2T(a l:List D)(t:Nat):(entry a l).k t=0:=nr rfl
theorem A2U(a l:List D)(t:Nat):(entry a l).m t=0:=nr rfl
theorem QY{r:Ex×St}{Q:Ex→St→Prop}:(∃ex s',some r=some (ex,s')∧Q ex s')=Q r.1 r.2:=
 propext ⟨fun⟨ex,s',h,hq⟩=>by injection h with h;subst h;exact hq,fun h=>⟨r.1,r.2,rfl,h⟩⟩
section
variable (E:Env) (Q:Ex→St→Prop) (s:St)
theorem A9f:BU E .skip Q s=Q .normal s:=QY
theorem A9g(id:Nat):BU E (.exit id) Q s=Q (.exit id) s:=QY
theorem AG5:BU E .ret Q s=Q .ret s:=QY
theorem AG6:BU E (.ops []) Q s=Q .normal s:=QY
def nxt(E:Env)(l:List SOp)(Q:Ex→St→Prop):Option St→Prop
 |some s=>BU E (.ops l) Q s
 |none=>False
theorem AG7(l:List SOp):nxt E l Q (some s)=BU E (.ops l) Q s:=nr rfl
theorem A9h(o:SOp)(l:List SOp):BU E (.ops (o::l)) Q s=nxt E l Q (UE E Pm.all s o):=by
 unfold BU;simp only [Eg,zZ]
 cases UE E Pm.all s o with
 |none=>simp [nxt]
 |some s'=>simp [nxt,BU,Eg]
theorem A9i:BU E (.draws []) Q s=Q .normal s:=QY
def zn(E:Env)(l:List (PmL×SOp))(Q:Ex→St→Prop):Bool→Option St→Prop
 |true,some s=>BU E (.draws l) Q s
 |_,_=>False
theorem A9j(l:List (PmL×SOp)):zn E l Q true (some s)=BU E (.draws l) Q s:=nr rfl
theorem A5n(p:PmL)(o:SOp)(l:List (PmL×SOp)):BU E (.draws ((p,o)::l)) Q s=zn E l Q (Ji p.pm s o.op) (UE E p.pm s o):=by
 unfold BU;simp only [Eg,nJ]
 cases Ji p.pm s o.op with
 |true=>
  cases UE E p.pm s o with
  |none=>simp [zn]
  |some s'=>simp [zn,BU,Eg]
 |false=>simp [zn]
theorem AG8(a b:SC):BU E (.seq a b) Q s=BU E a (nL E b Q) s:=by
 refine propext ⟨fun⟨ex,s1,h1,h2⟩=> ?_,A5d⟩;simp only [Eg]at h1
 cases ha:Eg E a s with
 |none=>simp [ha]at h1
 |some q=>
  obtain⟨ex',s2⟩:=q
  cases ex' with
  |normal=>simp only [ha]at h1;exact⟨_,s2,ha,ex,s1,h1,h2⟩
  |exit id=>simp only [ha,Option.some.injEq,Prod.mk.injEq]at h1;obtain⟨rfl,rfl⟩:=h1;exact⟨_,s2,ha,h2⟩
  |ret=>simp only [ha,Option.some.injEq,Prod.mk.injEq]at h1;obtain⟨rfl,rfl⟩:=h1;exact⟨_,s2,ha,h2⟩
def cnd(E:Env)(a b:SC)(Q:Ex→St→Prop)(s:St):Option D→Prop
 |some (.bool t)=>if t=true then BU E a Q s else BU E b Q s
 |_=>False
theorem AG9(a b:SC)(t:Bool):cnd E a b Q s (some (.bool t))=if t=true then BU E a Q s else BU E b Q s:=nr rfl
theorem A9l(c:Operand)(a b:SC):BU E (.cond c a b) Q s=cnd E a b Q s (ev E.T s 0 c):=by
 unfold BU;simp only [Eg]
 cases ev E.T s 0 c with
 |none=>simp [cnd]
 |some d=>cases d with
  |bool t=>cases t<;>simp [cnd,BU]
  |_=>simp [cnd]
theorem A5o(id:Nat)(c:SC):BU E (.block id c) Q s=BU E c (inBlock id Q) s:=by
 refine propext ⟨fun⟨ex,s1,h1,h2⟩=> ?_,ze⟩;simp only [Eg]at h1
 cases ha:Eg E c s with
 |none=>simp [ha]at h1
 |some q=>
  obtain⟨ex',s2⟩:=q
  cases ex' with
  |normal=>simp only [ha,Option.some.injEq,Prod.mk.injEq]at h1;obtain⟨rfl,rfl⟩:=h1;exact⟨_,s2,ha,h2⟩
  |exit j=>
   simp only [ha]at h1;by_cases hj:j=id
   ·simp only [hj,if_true,Option.some.injEq,Prod.mk.injEq]at h1;obtain⟨rfl,rfl⟩:=h1;exact⟨_,s2,ha,by simpa [inBlock,hj] using h2⟩
   ·simp only [hj,if_false,Option.some.injEq,Prod.mk.injEq]at h1;obtain⟨rfl,rfl⟩:=h1;exact⟨_,s2,ha,by simpa [inBlock,hj] using h2⟩
  |ret=>simp only [ha,Option.some.injEq,Prod.mk.injEq]at h1;obtain⟨rfl,rfl⟩:=h1;exact⟨_,s2,ha,h2⟩
theorem A5p(b:SC):nL E b Q .normal s=BU E b Q s:=nr rfl
theorem A5q(b:SC)(id:Nat):nL E b Q (.exit id) s=Q (.exit id) s:=nr rfl
theorem A5r(b:SC):nL E b Q .ret s=Q .ret s:=nr rfl
theorem AGA(id:Nat):inBlock id Q .normal s=Q .normal s:=nr rfl
theorem AGB(id j:Nat):inBlock id Q (.exit j) s=if j=id then Q .normal s else Q (.exit j) s:=nr rfl
theorem AGC(id:Nat):inBlock id Q .ret s=Q .ret s:=nr rfl
theorem A9m(T:Tys)(n:Nat)(rs:List ResultVar)(r:D×List D):Du T n rs r .normal s=(bM T n rs s=some r):=nr rfl
theorem A9n(T:Tys)(n:Nat)(rs:List ResultVar)(r:D×List D):Du T n rs r .ret s=(bM T n rs s=some r):=nr rfl
end
section
variable (s:St) (dst:Option Tmp) (u:Tmp) (k:IntKind) (n:Int) (b:Bool) (x:ByteArray) (e:TypeId) (xs:List D) (L:A9) (i j c:Nat) (v:Value) (f:FuncId)
theorem A9o:Cf s dst (.tmp u) (.int k n)=s.putO dst (.int k n):=nr rfl
theorem A5s:Cf s dst (.tmp u) (.bool b)=s.putO dst (.bool b):=nr rfl
theorem AGD:Cf s dst (.tmp u) (.sl e xs)=s.putO dst (.sl e xs):=nr rfl
theorem A2V:Cf s dst (.tmp u) (.konst v)=s.putO dst (.konst v):=nr rfl
theorem A9p:Cf s dst (.tmp u) (.own e xs)=s.putO dst (.vw [u] (s.k u) (s.m u)):=nr rfl
theorem A9q:Cf s dst (.tmp u) (.box xs)=s.putO dst (.vw [u] (s.k u) (s.m u)):=nr rfl
theorem AGE:Cf s dst (.tmp u) (.vw L i j)=s.putO dst (.vw L i j):=nr rfl
theorem A5t:Cf s dst (.tmp u) (.cptr xs)=s.putO dst (.cptr xs):=nr rfl
theorem A9r:Cf s dst (.tmp u) (.clo f xs)=s.putO dst (.clo f xs):=nr rfl
theorem A9s:Cf s dst (.tmp u) (.tup xs)=if Ag xs then(if Ag (Mg s u 0 xs)then(s.clr u).putO dst (.tup xs)else s.putO dst (.tup (Mg s u 0 xs)))else s.putO dst (.tup xs):=nr rfl
theorem A9t(i:Nat):Mg s u i []=[]:=nr rfl
theorem A5u(i:Nat)(x:D):Mg s u i (x::xs)=Ri s u i x::Mg s u (i+1) xs:=nr rfl
theorem A9u(i:Nat):Ri s u i (.agg xs)= .agg (La s [u,i] 0 xs):=nr rfl
theorem A5v(i:Nat):Ri s u i (.bool b)= .bool b:=nr rfl
theorem AGF(i:Nat):Ri s u i (.sl e xs)= .sl e xs:=nr rfl
theorem A9v(i:Nat):Ri s u i (.own e xs)= .vw [u,i] (s.k u) (s.m u):=nr rfl
theorem A9w(L:A9)(i:Nat):La s L i []=[]:=nr rfl
theorem A5w(L:A9)(i:Nat):La s L i (.int k n::xs)= .int k n::La s L (i+1) xs:=nr rfl
theorem A9x(L:A9)(i:Nat)(zs:List D):La s L i (.sl e zs::xs)= .sl e zs::La s L (i+1) xs:=nr rfl
theorem A5x(r c:Nat)(i:Nat)(zs:List D):La s [r,c] i (.own e zs::xs)= .vw [r,c,i] (s.k r) (s.m r)::La s [r,c] (i+1) xs:=nr rfl
variable (pm:Pm)
theorem A9y:Ba pm s dst (.tmp u) (.int k n)=some (s.putO dst (.int k n)):=nr rfl
theorem A5y:Ba pm s dst (.tmp u) (.bool b)=some (s.putO dst (.bool b)):=nr rfl
theorem AGG:Ba pm s dst (.tmp u) (.sl e xs)=some (s.putO dst (.sl e xs)):=nr rfl
theorem A9z:Ba pm s dst (.tmp u) (.own e xs)=some ((s.clr u).putO dst (.own e xs)):=nr rfl
theorem AA0:Ba pm s dst (.tmp u) (.box xs)=some ((s.clr u).putO dst (.box xs)):=nr rfl
theorem AA1(r:Nat):Ba pm s dst (.tmp u) (.vw [r] i j)=(SE pm s [r] i j).map fun q=>q.2.putO dst q.1:=nr rfl
def asT(_s:St)(dst:Option Tmp)(a:Option (D×St))(b:Option St):Bool→Option St
 |true=>a.map fun q=>q.2.putO dst q.1
 |false=>b
theorem AGI(a:Option (D×St))(b:Option St):asT s dst a b true=a.map fun q=>q.2.putO dst q.1:=nr rfl
theorem AGJ(a:Option (D×St))(b:Option St):asT s dst a b false=b:=nr rfl
theorem AA2(r r':Nat)(p:A9):Ba pm s dst (.tmp u) (.vw (r::r'::p) i j)=asT s dst (CR pm s (.vw (r::r'::p) i j)) (some (s.putO dst (.vw (r::r'::p) i j))) (isT pm s r):=by
 by_cases h:isT pm s r=true
 ·have h':qQ pm s (.vw (r::r'::p) i j)=true:=h;unfold Ba;simp only [h',h,if_true];rfl
 ·have h':qQ pm s (.vw (r::r'::p) i j)=false:=Gf.mpr h;unfold Ba;simp only [h',Gf.mpr h];rfl
theorem AGK(r:Nat):isT pm s r=(pm.rd r&&yV (s.v r)):=nr rfl
theorem AA3:yV (.tup xs)=true:=nr rfl
theorem AA4:yV (.own e xs)=false:=nr rfl
theorem AA5:yV (.box xs)=false:=nr rfl
theorem AA6:Ba pm s dst (.tmp u) (.clo f xs)=some (s.putO dst (.clo f xs)):=nr rfl
end
section
variable (k:IntKind) (x y:Int) (p q:Bool) (a b:ByteArray)
theorem AA7:FU .add (.int k x) (.int k y)=some (.int k (k.wrap (x+y))):=by simp [FU]
theorem AA8:FU .sub (.int k x) (.int k y)=some (.int k (k.wrap (x-y))):=by simp [FU]
theorem AA9:FU .mul (.int k x) (.int k y)=some (.int k (k.wrap (x*y))):=by simp [FU]
theorem AAA:FU .quo (.int k x) (.int k y)=if y=0 then none else some (.int k (k.wrap (x.tdiv y))):=by simp [FU]
theorem AAB:FU .rem (.int k x) (.int k y)=if y=0 then none else some (.int k (x.tmod y)):=by simp [FU]
theorem AAC:FU .and (.int k x) (.int k y)=some (.int k (Lv .and k x y)):=by simp [FU]
theorem AGL:FU .or (.int k x) (.int k y)=some (.int k (Lv .or k x y)):=by simp [FU]
theorem AAD(k':IntKind):FU .shl (.int k x) (.int k' y)=if y<0 then none else some (.int k (k.wrap (x*2 ^ (min y.toNat k.bits)))):=by simp [FU]
theorem AAE(k':IntKind):FU .shr (.int k x) (.int k' y)=if y<0 then none else some (.int k (x.fdiv (2 ^ (min y.toNat k.bits)))):=by simp [FU]
theorem AGM:FU .eql (.int k x) (.int k y)=some (.bool (decide (x=y))):=by simp [FU];rfl
theorem AGN:FU .neq (.int k x) (.int k y)=some (.bool (!decide (x=y))):=by simp [FU];rfl
theorem AGO:FU .lss (.int k x) (.int k y)=some (.bool (decide (x<y))):=by simp [FU]
theorem AGP:FU .leq (.int k x) (.int k y)=some (.bool (decide (x≤y))):=by simp [FU]
theorem AGQ:FU .gtr (.int k x) (.int k y)=some (.bool (decide (y<x))):=by simp [FU]
theorem AGR:FU .geq (.int k x) (.int k y)=some (.bool (decide (y≤x))):=by simp [FU]
theorem AAF:FU .neq (.bool p) (.bool q)=some (.bool (!(p==q))):=nr rfl
theorem AAG:unD .not (.bool p)=some (.bool (!p)):=nr rfl
theorem boI(T:Tys)(t:TypeId):SI T t (.int k x)=true:=nr rfl
theorem boB(T:Tys)(t:TypeId):SI T t (.bool p)=match T.ty t with| .bool=>true|_=>false:=nr rfl
end
def GR(xs:AA):List D:=xs.map (D.int .i64)
theorem Ci(xs:AA):(GR xs).length=xs.length:=by simp [GR]
end Dv
namespace Dv
open Go
def zB:Value→Value→Bool
 | .int k n,.int k' n'=>decide (k=k')&&decide (n=n')
 | .bool b,.bool b'=>b==b'
 | .string s,.string s'=>s.size==0&&s'.size==0
 | .slice none 0 0,.slice none 0 0=>true
 | .nilFunc,.nilFunc=>true
 | .pointer none,.pointer none=>true
 |_,_=>false
theorem A3V{a b:Value}(h:zB a b=true):a=b:=by
 unfold zB at h
 split at h
 ·simp only [Ju,decide_eq_true_eq]at h;rw [h.1,h.2]
 ·simp only [beq_iff_eq]at h;rw [h]
 ·simp only [Ju,beq_iff_eq]at h
  rename_i s s'
  have: ∀t:ByteArray,t.size=0→t=ByteArray.empty:=by
   intro t ht;obtain⟨d⟩:=t;have:d= #[]:=Array.size_eq_zero_iff.1 ht
   rw [this];rfl
  rw [this s h.1,this s' h.2]
 ·rfl
 ·rfl
 ·rfl
 ·cases h
def zsB:List Value→List Value→Bool
 | [],[]=>true
 |a::as,b::bs=>zB a b&&zsB as bs
 |_,_=>false
theorem zo: ∀ {a b:List Value},zsB a b=true→a=b
 | [],[],_=>rfl
 | [],_::_,h=>by cases h
 |_::_,[],h=>by cases h
 |a::as,b::bs,h=>by
  simp only [zsB,Ju]at h;rw [A3V h.1,zo h.2]
def VO(P:Program)(t:TypeId)(n:Nat)(z:Value):Bool:=
 match P.info? t with
 |some i=>(i.size==n)&&(decide (4<n)||decide (i.bytes≤128))&&(match i.zero,z with|some (.agg a),.agg b=>zsB a.toList b.toList|some v,z=>zB v z|_,_=>false)
 |none=>false
theorem Ov{P:Program}{t:TypeId}{n:Nat}{z:Value}(h:VO P t n z=true):RA P t n z:=by
 unfold VO at h
 split at h
 ·rename_i i hi
  simp only [Ju,Uv,beq_iff_eq,decide_eq_true_eq]at h
  refine⟨i,hi,h.1.1, ?_,fun h4=>h.1.2.resolve_left (by omega)⟩
  have h2:=h.2
  split at h2
  ·rename_i a b hz
   rw [hz];have:=zo h2
   rw [←Uu (xs:=a),this]
  ·rename_i v z' hz _
   rw [hz,A3V h2]
  ·cases h2
 ·cases h
def iP(P:Program)(T:Tys)(t:TypeId):Bool:=
 match T.ty t with
 | .int k=>(match P.underlying t with|some (.int k')=>decide (k'=k)|_=>false)&&VO P t 1 (.int k 0)
 | .bool=>(match P.underlying t with|some .bool=>true|_=>false)&&VO P t 1 (.bool false)
 | .string=>(match P.underlying t with|some .string=>true|_=>false)&&VO P t 1 (.string ByteArray.empty)
 | .slice e=>(match P.underlying t with|some (.slice e')=>e'==e|_=>false)&&VO P t 1 (.slice none 0 0)
 | .struct fs=>(match P.underlying t with
   |some (.struct fields)=>
    match T.nest t with
    |none=>(fields.size==fs.length)&&(List.range fields.size).all (fun j=>match fields[j]?,fs[j]? with|some f,some g=>(f.offset==j)&&(f.type==g)&&T.known g&& !T.isStruct g|_,_=>false)
    |some fl=>decide (4<fs.length)&&(fields.size==fl.length)&&(List.range fields.size).all (fun j=>match fields[j]?,fl[j]? with|some f,some g=>(f.offset==g.1)&&(f.type==g.2)&&T.known g.2|_,_=>false)
   |_=>false)&&VO P t fs.length (.agg (fs.map (Jh T)).toArray)
 | .func=>(match P.underlying t with|some (.func ..)=>true|_=>false)&&VO P t 1 .nilFunc
 | .ptr=>(match P.underlying t with|some (.pointer _)=>true|_=>false)&&VO P t 1 (.pointer none)
 | .map k e=>match P.underlying t with|some (.map k' e')=>(k'==k)&&(e'==e)|_=>false
 | .other=>true
theorem rY{P:Program}{T:Tys}{t:TypeId}(h:iP P T t=true):H7 P T t:=by
 unfold iP at h;unfold H7
 cases hty:T.ty t<;>rw [hty]at h<;>simp only [Ju]at h ⊢
 case int k=>
  refine⟨?_,Ov h.2⟩
  have h1:=h.1
  split at h1
  ·rename_i k' hu;rw [hu];simp only [decide_eq_true_eq]at h1;rw [h1]
  ·cases h1
 case bool=>
  refine⟨?_,Ov h.2⟩
  have h1:=h.1
  split at h1
  ·assumption
  ·cases h1
 case string=>
  refine⟨?_,Ov h.2⟩
  have h1:=h.1
  split at h1
  ·assumption
  ·cases h1
 case map k e=>
  split at h
  ·rename_i k' e' hu;rw [hu];simp only [Ju,beq_iff_eq]at h;rw [h.1,h.2]
  ·cases h
 case slice e=>
  refine⟨?_,Ov h.2⟩
  have h1:=h.1
  split at h1
  ·rename_i k' hu;rw [hu];simp only [beq_iff_eq]at h1;rw [h1]
  ·cases h1
 case struct fs=>
  refine⟨?_,Ov h.2⟩
  have h1:=h.1
  split at h1
  ·rename_i fields hu
   refine⟨fields,hu, ?_⟩
   cases hn:T.nest t with
   |none=>
    simp only [hn,Ju,beq_iff_eq,JR,Lt]at h1 ⊢
    refine⟨h1.1,fun j f hf=> ?_⟩
    have hlt:=(Ut.1 hf).1;have:=h1.2 j hlt
    rw [hf]at this
    split at this
    ·rename_i f' g hf' hg
     simp only [Option.some.injEq]at hf';subst hf';simp only [Ju,beq_iff_eq,QB]at this;obtain⟨⟨⟨q1,q2⟩,q3⟩,q4⟩:=this;subst q2
     exact⟨q1,hg,q3,q4⟩
    ·cases this
   |some fl=>
    simp only [hn,Ju,beq_iff_eq,JR,Lt,decide_eq_true_eq]at h1 ⊢
    refine⟨h1.1.1,h1.1.2,fun j f hf=> ?_⟩
    have hlt:=(Ut.1 hf).1;have:=h1.2 j hlt
    rw [hf]at this
    split at this
    ·rename_i f' g hf' hg
     simp only [Option.some.injEq]at hf';subst hf';simp only [Ju,beq_iff_eq]at this;obtain⟨⟨q1,q2⟩,q3⟩:=this
     refine⟨?_,by rw [q2];exact q3⟩
     rw [hg,q1,q2]
    ·cases this
  ·cases h1
 case func=>
  refine⟨?_,Ov h.2⟩
  have h1:=h.1
  split at h1
  ·exact⟨_,_,_,by assumption⟩
  ·cases h1
 case ptr=>
  refine⟨?_,Ov h.2⟩
  have h1:=h.1
  split at h1
  ·exact⟨_,by assumption⟩
  ·cases h1
def wu(tab:List Ty)(nst:List (TypeId×List (Nat×TypeId))):Tys:={ty:=fun t=>tab.getD t .other,nest:=fun t=>nst.lookup t}
theorem A5z{P:Program}{tab:List Ty}{nst:List (TypeId×List (Nat×TypeId))}(h:((List.range tab.length).all fun t=>iP P (wu tab nst) t&&A29 P (wu tab nst) t)=true):Bu P (wu tab nst):=by
 intro t;rcases Nat.lt_or_ge t tab.length with ht|ht
 ·have:=JR.1 h t (Lt.2 ht)
  rw [Ju]at this
  exact⟨rY this.1,this.2⟩
 ·have:(wu tab nst).ty t= .other:=by simp [wu,Lp,List.getElem?_eq_none ht]
  refine⟨?_, ?_⟩
  ·unfold H7;rw [this];trivial
  ·unfold A29;rw [this]
theorem AP{Y:Sys}{f:FuncId}{fn:Func}{k:SC}{a l:List D}{r:D×List D}(hb:Y.base f a l=none)(hf:Y.P.funcs[f]? =some fn)(hok:BR fn a.length=true)
  (hk:fn.body.map (BI Y.lends)=some k)(h:BU Y.env k (Du Y.T l.length fn.results.toList r) (entry a l)):Y.call f a l=some r:=by
 obtain⟨c,hc,hk⟩:=Cw.1 hk;exact Sys.call_wp hb hf hok hc hk h
end Dv
namespace Dv
open Go
section
variable (E:Env) (pm:Pm) (s:St) (dst:Option Tmp) (ty:TypeId) (u:Tmp) (t:TypeId)
theorem Ow(o:Option D):(o.map fun r=>s.putO dst r)=Mo s dst o:=by cases o<;>rfl
theorem QZ(o:Option (D×St)):(o.map fun r=>r.2.putO dst r.1)=iL dst o:=by cases o<;>rfl
theorem AAH:Ph E pm s dst (.move (.tmp u)) ty=some (Cf s dst (.tmp u) (s.v u)):=nr rfl
def yJ(pm:Pm):Option Tmp→Option St→Option St
 |some t,some s1=>Fx pm s1 (some t)
 |_,_=>none
def frC(s1:St)(t:Tmp):Option D→Option St
 |some c=>some (s1.set [t] c)
 |none=>none
theorem AGS(s1:St)(t:Tmp)(h1:pm.rd t=true)(h2:pm.wr t=true):yJ pm (some t) (some s1)=frC s1 t (Dr (s1.v t)):=by
 show(if pm.rd t&&pm.wr t then(Dr (s1.v t)).map fun c=>s1.set [t] c else none)=_
 rw [h1,h2]
 cases Dr (s1.v t)<;>rfl
theorem AGT(s1:St)(t:Tmp)(c:D):frC s1 t (some c)=some (s1.set [t] c):=nr rfl
def fcB(pm:Pm):Option Tmp→Option St→Option St
 |some t,some s1=>QM pm s1 (some t)
 |_,_=>none
def fcD(s1:St)(t:Tmp)(e:TypeId):Option (List D)→Option St
 |some ys=>some (s1.set [t] (.own e ys))
 |none=>none
def fcC(s1:St)(t:Tmp):D→Option St
 | .own e xs=>fcD s1 t e (Ed xs)
 |_=>none
theorem AGW(s1:St)(t:Tmp)(h1:pm.rd t=true)(h2:pm.wr t=true):fcB pm (some t) (some s1)=fcC s1 t (s1.v t):=by
 show QM pm s1 (some t)=_
 unfold QM fcC;dsimp only;rw [h1,h2]
 cases s1.v t with
 |own e xs=>simp only [Bool.and_self,if_true];cases Ed xs<;>rfl
 |_=>rfl
theorem AGX(s1:St)(t:Tmp)(e:TypeId)(xs:List D):fcC s1 t (.own e xs)=fcD s1 t e (Ed xs):=nr rfl
theorem AGY(s1:St)(t:Tmp)(e:TypeId)(ys:List D):fcD s1 t e (some ys)=some (s1.set [t] (.own e ys)):=nr rfl
theorem A2W:Ph E pm s dst (.assign (.tmp u)) ty=if ty=900003 then yJ pm dst (Ba pm s dst (.tmp u) (s.v u))else if ty<1000000 then Ba pm s dst (.tmp u) (s.v u)else yJ pm dst (Ba pm s dst (.tmp u) (s.v u)):=by
 have hfr:((Ba pm s dst (.tmp u) (s.v u)).bind fun s1=>Fx pm s1 dst)=yJ pm dst (Ba pm s dst (.tmp u) (s.v u)):=by
  rcases Ba pm s dst (.tmp u) (s.v u)with _|s1<;>cases dst<;>rfl
 show(if yX ty=true then(Ba pm s dst (.tmp u) (s.v u)).bind fun s1=>Fx pm s1 dst else Ba pm s dst (.tmp u) (s.v u))=_
 rw [hfr];unfold yX;by_cases h1:ty=900003
 ·rw [if_pos h1,if_pos h1];rfl
 ·rw [if_neg h1,if_neg h1];by_cases h2:ty<1000000
  ·rw [if_pos h2,if_pos h2];rfl
  ·rw [if_neg h2,if_neg h2];rfl
theorem zq(v:Value):Ph E pm s dst (.assign (.const v)) ty=if ty=900003 then yJ pm dst (Mo s dst (ev E.T s ty (.const v)))else if ty<1000000 then Mo s dst (ev E.T s ty (.const v))else yJ pm dst (Mo s dst (ev E.T s (ty-1000000) (.const v))):=by
 have hfr: ∀t,((ev E.T s t (.const v)).bind fun d=>(Ba pm s dst (.const v) d).bind fun s1=>Fx pm s1 dst)=yJ pm dst (Mo s dst (ev E.T s t (.const v))):=by
  intro t
  cases ev E.T s t (.const v)<;>cases dst<;>rfl
 have hno: ∀t,((ev E.T s t (.const v)).bind fun d=>Ba pm s dst (.const v) d)=Mo s dst (ev E.T s t (.const v)):=by
  intro t
  cases ev E.T s t (.const v)<;>rfl
 show((ev E.T s (A5S ty) (.const v)).bind fun d=>if yX ty=true then(Ba pm s dst (.const v) d).bind fun s1=>Fx pm s1 dst else Ba pm s dst (.const v) d)=_
 unfold yX A5S;by_cases h1:ty=900003
 ·simp only [if_pos h1,if_true];exact hfr _
 ·by_cases h2:ty<1000000
  ·simp only [if_neg h1,if_pos h2,O5,if_false];exact hno _
  ·simp only [if_neg h1,if_neg h2,if_true];exact hfr _
theorem A60(v:Value):Ph E pm s dst (.move (.const v)) ty=Mo s dst (ev E.T s ty (.const v)):=by
 show((ev E.T s ty (.const v)).map fun d=>Cf s dst (.const v) d)=_
 cases ev E.T s ty (.const v)<;>rfl
theorem AAI:Ph E pm s dst (.load t (.tmp u)) ty=Mo s dst (Gg E.T pm s t (.tmp u) (s.v u)):=Ow s dst _
theorem yUn(op:UnOp):Ph E pm s dst (.unOp op t (.tmp u)) ty=Mo s dst (unD op (s.v u)):=Ow s dst _
theorem A61(i:Nat):Ph E pm s dst (.fieldAddr t (.tmp u) i) ty=Mo s dst (GN E.T pm s t (.tmp u) (s.v u) i):=Ow s dst _
theorem AGZ:Ph E pm s dst (.call ⟨.builtin .len, #[.tmp u], #[t]⟩) ty=Mo s dst (SL E.T pm s t (.tmp u) (s.v u)):=Ow s dst _
theorem zt(i:Nat):Ph E pm s dst (.extract (.tmp u) i) ty=Jw s dst (.tmp u) (s.v u) i:=nr rfl
def slC(T:Tys)(pm:Pm)(s:St)(dst:Option Tmp)(t:TypeId)(x:Operand)(hi:Option Operand):Option Operand→Option Operand→Option St
 |none,none=>iL dst (SF T pm s t x hi)
 |_,_=>none
theorem AGa(T:Tys)(x:Operand)(hi:Option Operand):slC T pm s dst t x hi none none=iL dst (SF T pm s t x hi):=nr rfl
def slF(T:Tys)(pm:Pm)(s:St)(dst:Option Tmp)(t:TypeId)(x:Operand)(lo:Option Operand):Option Operand→Option Operand→Option St
 |none,none=>iL dst (SG T pm s t x lo)
 |_,_=>none
theorem A62(lo hi mx:Option Operand):Ph E pm s dst (.slice t (.tmp u) lo hi mx) ty=
  if ty=900002 then slC E.T pm s dst t (.tmp u) hi lo mx
  else if ty=900005 then slF E.T pm s dst t (.tmp u) lo hi mx
  else if ty=900001 then iL dst (Jv E.T pm.see s t (.tmp u) (s.v u) lo hi mx)else iL dst (Jv E.T pm s t (.tmp u) (s.v u) lo hi mx):=by
 show(if ty=900002 then(if lo.isNone&&mx.isNone then(SF E.T pm s t (.tmp u) hi).map fun r=>r.2.putO dst r.1 else none)
  else if ty=900005 then(if hi.isNone&&mx.isNone then(SG E.T pm s t (.tmp u) lo).map fun r=>r.2.putO dst r.1 else none)
  else(ev E.T s t (.tmp u)).bind fun d=>(Jv E.T (if ty=900001 then pm.see else pm) s t (.tmp u) d lo hi mx).map fun r=>r.2.putO dst r.1)=_
 split
 ·cases lo<;>cases mx<;>first|rfl|exact QZ dst _
 ·split
  ·cases hi<;>cases mx<;>first|rfl|exact QZ dst _
  ·split
   ·exact QZ dst _
   ·exact QZ dst _
def apI(T:Tys)(pm:Pm)(s:St)(t:TypeId)(x y:Operand)(d:D):Option (D×St):=if isZ (some d)then Oh T pm s t x else Ip T pm s t x y
theorem A2X(x:Operand)(v:Tmp):Ph E pm s dst (.call ⟨.builtin .append, #[x,.tmp v], #[t,t]⟩) ty=iL dst (apI E.T pm s t x (.tmp v) (s.v v)):=by
 rw [rX,if_pos rfl,QZ];rfl
theorem AGb(T:Tys)(x y:Operand)(e:TypeId)(xs:List D):apI T pm s t x y (.sl e xs)=Ip T pm s t x y:=nr rfl
theorem AAJ(T:Tys)(x y:Operand)(e:TypeId)(xs:List D):apI T pm s t x y (.own e xs)=Ip T pm s t x y:=nr rfl
theorem apK(T:Tys)(x y:Operand)(A:Option Addr)(c:Nat):apI T pm s t x y (.konst (.slice A 0 c))=Oh T pm s t x:=nr rfl
def ix1(T:Tys)(pm:Pm)(s:St)(t:TypeId)(x:Operand)(d:D):Option D→Option D
 |some i=>WO T pm s t x d i
 |none=>none
theorem AGc(T:Tys)(x:Operand)(d i:D):ix1 T pm s t x d (some i)=WO T pm s t x d i:=nr rfl
theorem A63(i:Operand):Ph E pm s dst (.indexAddr t (.tmp u) i) ty=Mo s dst (ix1 E.T pm s t (.tmp u) (s.v u) (ev E.T s 0 i)):=by
 show(match some (s.v u),ev E.T s 0 i with
  |some a,some b=>(WO E.T pm s t (.tmp u) a b).map fun r=>s.putO dst r
  |_,_=>none)=_
 cases ev E.T s 0 i with
 |none=>rfl
 |some b=>exact Ow s dst _
def mk1(T:Tys)(t:TypeId):Option D→Option D→Option D
 |some a,some b=>Ez T t a b
 |_,_=>none
theorem AGd(T:Tys)(a b:D):mk1 T t (some a) (some b)=Ez T t a b:=nr rfl
theorem AGe(l c:Operand):bK E.T s dst t l c=Mo s dst (mk1 E.T t (ev E.T s 0 l) (ev E.T s 0 c)):=by
 show(match ev E.T s 0 l,ev E.T s 0 c with
  |some a,some b=>(Ez E.T t a b).map fun r=>s.putO dst r
  |_,_=>none)=_
 cases ev E.T s 0 l<;>cases ev E.T s 0 c<;>first|rfl|exact Ow s dst _
theorem AAL(l c:Operand):Ph E pm s dst (.makeSlice t l c) ty=if ty=900012 then fcB pm dst (Mo s dst (mk1 E.T t (ev E.T s 0 l) (ev E.T s 0 c)))else Mo s dst (mk1 E.T t (ev E.T s 0 l) (ev E.T s 0 c)):=by
 rw [bX,AGe];by_cases h:ty=900012
 ·rw [if_pos h,if_pos h]
  cases Mo s dst (mk1 E.T t (ev E.T s 0 l) (ev E.T s 0 c))<;>cases dst<;>rfl
 ·rw [if_neg h,if_neg h]
theorem AGf(u:Tmp)(s1:St):stF pm (.tmp u) (some s1)=yJ pm (some u) (some s1):=nr rfl
def cv1(s:St)(dst:Option Tmp):Option D→Ty→Option St
 |some (.int _ n),.int k=>some (s.putO dst (.int k (k.wrap n)))
 |some (.str b),.string=>some (s.putO dst (.str b))
 |_,_=>none
theorem AGg(k k':IntKind)(n:Int):cv1 s dst (some (.int k n)) (.int k')=some (s.putO dst (.int k' (k'.wrap n))):=nr rfl
theorem zu(src d:TypeId)(x:Operand):Ph E pm s dst (.convert src d x) ty=if E.T.known src then cv1 s dst (ev E.T s src x) (E.T.ty d)else none:=by
 rw [nN];split
 ·rcases ev E.T s src x with _|d'<;>cases E.T.ty d<;>first|rfl|(cases d'<;>rfl)
 ·rfl
def asM(l:List TypeId):List TypeId:=l.map fun _=>900013
theorem AGh:asM []=[]:=nr rfl
theorem AGi(t:TypeId)(l:List TypeId):asM (t::l)=900013::asM l:=nr rfl
theorem AAN(f:FuncId)(args:Array Operand)(ts:Array TypeId)(h:args.size=ts.size):Ph E pm s dst (.call ⟨.value (.func f),args,ts⟩) ty=if ty=900014 then yJ pm dst (IM E pm s dst f (args.toList.zip ts.toList) [])else IM E pm s dst f (args.toList.zip (if ty=900013 then asM ts.toList else ts.toList)) []:=by
 rw [zk,if_pos h];by_cases c:ty=900014
 ·rw [if_pos c,if_pos c];have e:SN ty ts.toList=ts.toList:=by unfold SN;rw [c,if_neg (by decide)]
  rw [e];unfold yJ
  cases IM E pm s dst f (args.toList.zip ts.toList) []with
  |none=>cases dst<;>rfl
  |some s1=>cases dst<;>rfl
 ·rw [if_neg c,if_neg c]
  unfold SN asM;rfl
end
section
variable {T:Tys} {pm:Pm} {s:St} {t:TypeId}
theorem ldC(x:Operand)(xs:List D)(hk:T.known t=true)(hs:T.isStruct t=false):Gg T pm s t x (.cptr xs)=xs[0]? :=by simp [Gg,hk,hs]
theorem AGj(x:Operand)(xs:List D)(hk:T.known t=true)(hs:T.isStruct t=true):Gg T pm s t x (.cptr xs)=if T.size t≤xs.length then some (.agg (xs.take (T.size t)))else none:=by simp [Gg,hk,hs]
def Sk(s:St)(L:A9)(c:Nat):Option D→Option D
 |some o=>(o.cells[c]?).bind fun x=>DN (IK s L c x)
 |none=>none
def cellsOf(s:St)(L:A9)(c n:Nat):Option D→Option D
 |some o=>if c+n≤o.cells.length then DN (.agg ((List.range n).map fun i=>IK s L (c+i) (o.cells.getD (c+i) .undef)))else none
 |none=>none
theorem ldP(x:Operand)(L:A9)(c n m:Nat)(hk:T.known t=true)(hs:T.isStruct t=false):Gg T pm s t x (.pe L c n m)=Sk s L c (s.look pm L n m):=by
 simp only [Gg,hk,hs,if_true,KR]
 cases s.look pm L n m<;>simp [Sk]
theorem ldB(u:Tmp)(xs:List D)(hk:T.known t=true)(hs:T.isStruct t=false):Gg T pm s t (.tmp u) (.box xs)=Sk s [u] 0 (some (.box xs)):=by
 simp only [Gg,hk,hs,if_true,KR];simp [Sk]
theorem AGk(u:Tmp)(xs:List D)(hk:T.known t=true)(hs:T.isStruct t=true):Gg T pm s t (.tmp u) (.box xs)=cellsOf s [u] 0 (T.size t) (some (.box xs)):=by
 simp only [Gg,hk,hs,if_true,KR];simp [cellsOf]
def VP(s:St)(pm:Pm)(L:A9)(n m:Nat):Option D:=
 match s.look pm L n m with
 |some (.box xs)=>some (.box xs)
 |_=>none
theorem ldV(x:Operand)(L:A9)(n m:Nat)(hk:T.known t=true)(hs:T.isStruct t=false):Gg T pm s t x (.vw L n m)=Sk s L 0 (VP s pm L n m):=by
 simp only [Gg,hk,hs,if_true,KR,VP]
 cases s.look pm L n m with
 |none=>simp [Sk]
 |some o=>cases o<;>simp [Sk]
def nO:D→Option D
 | .own e xs=>some (.own e xs)
 | .box xs=>some (.box xs)
 |_=>none
theorem A64(e:TypeId)(xs:List D):nO (.own e xs)=some (.own e xs):=nr rfl
theorem A65(xs:List D):nO (.box xs)=some (.box xs):=nr rfl
theorem AAO(u n m:Nat):s.look pm [u] n m=if pm.rd u&&(s.k u==n)then nO (s.v u)else none:=by
 simp only [St.look,List.isEmpty_nil,Bool.true_or,gI,BP];split
 ·cases s.v u<;>rfl
 ·rfl
def AAP:Option D→Option D
 |some d=>nO d
 |none=>none
theorem AAQ(u c n m:Nat)(p:A9):s.look pm (u::c::p) n m=if pm.rd u&&(s.k u==n)&&(s.m u==m)then AAP (BP (s.v u) (c::p))else none:=by
 simp only [St.look,List.isEmpty_cons,Bool.false_or];split
 ·cases BP (s.v u) (c::p)with
  |none=>rfl
  |some d=>cases d<;>rfl
 ·rfl
theorem AAR(d:D):AAP (some d)=nO d:=nr rfl
theorem AGl(x:Operand)(e:TypeId)(xs:List D):Dt pm s x (.sl e xs)=some (e,xs,none):=nr rfl
theorem AAS(u:Tmp)(e:TypeId)(xs:List D):Dt pm s (.tmp u) (.own e xs)=some (e,xs,some ([u],s.k u,s.m u)):=nr rfl
def AAT(L:A9)(n m:Nat):Option D→Option (TypeId×List D×Option (A9×Nat×Nat))
 |some (.own e xs)=>some (e,xs,some (L,n,m))
 |_=>none
theorem AAU(L:A9)(n m:Nat)(e:TypeId)(xs:List D):AAT L n m (some (.own e xs))=some (e,xs,some (L,n,m)):=nr rfl
theorem AGm(x:Operand)(L:A9)(n m:Nat):Dt pm s x (.vw L n m)=AAT L n m (s.look pm L n m):=by
 simp only [Dt]
 cases s.look pm L n m with
 |none=>rfl
 |some o=>cases o<;>rfl
def A2Y(T:Tys):Option (TypeId×List D×Option (A9×Nat×Nat))→Option D
 |some (e,xs,_)=>if T.known e then some (.int .i64 (T.len e xs))else none
 |none=>none
theorem AAV(e:TypeId)(xs:List D)(o:Option (A9×Nat×Nat))(hk:T.known e=true):A2Y T (some (e,xs,o))=some (.int .i64 (T.len e xs)):=by simp [A2Y,hk]
def ln0(T:Tys)(pm:Pm)(s:St)(x:Operand)(d:D):Ty→Option D
 | .string=>match d with| .str b=>some (.int .i64 b.size)|_=>none
 | .slice _=>A2Y T (Dt pm s x d)
 |_=>none
theorem lnT(x:Operand)(d:D):Rh T pm s t x d=ln0 T pm s x d (T.ty t):=by
 unfold Rh ln0
 cases T.ty t with
 |slice e=>
  simp only
  cases Dt pm s x d with
  |none=>rfl
  |some q=>rfl
 |string=>cases d<;>rfl
 |_=>rfl
theorem AAW(x:Operand)(e:TypeId)(xs:List D):SL T pm s t x (.sl e xs)=Rh T pm s t x (.sl e xs):=nr rfl
theorem A66(x:Operand)(e:TypeId)(xs:List D):SL T pm s t x (.own e xs)=Rh T pm s t x (.own e xs):=nr rfl
def lnW(T:Tys)(pm:Pm)(s:St)(t:TypeId)(x:Operand)(L:A9)(n m:Nat):Ty→Option D
 | .map _ _=>(s.lookM pm L n).map fun q=> .int .i64 q.2.2.length
 |_=>Rh T pm s t x (.vw L n m)
theorem AAX(x:Operand)(L:A9)(n m:Nat):SL T pm s t x (.vw L n m)=lnW T pm s t x L n m (T.ty t):=by
 show(match T.ty t with| .map _ _=>lT T pm s t x (.vw L n m)|_=>lS T pm s t x (.vw L n m))=_
 unfold lnW lT
 cases h:T.ty t<;>simp only [gJ]<;>first|rfl|(cases s.lookM pm L n<;>rfl)
theorem AGp(T:Tys)(x:Operand)(L:A9)(n m:Nat)(e:TypeId):lnW T pm s t x L n m (.slice e)=Rh T pm s t x (.vw L n m):=nr rfl
theorem AAY(x:Operand)(e:TypeId)(L:A9)(n m lo len:Nat):SL T pm s t x (.vs e L n m lo len)=A25 len (T.ty t):=nr rfl
theorem AAZ(len:Nat)(e:TypeId):A25 len (.slice e)=some (.int .i64 len):=nr rfl
theorem AAa(x:Operand)(e:TypeId)(xs:List D)(i:D):WO T pm s t x (.sl e xs) i=ET T pm s t x (.sl e xs) i:=nr rfl
theorem A67(x:Operand)(e:TypeId)(xs:List D)(i:D):WO T pm s t x (.own e xs) i=ET T pm s t x (.own e xs) i:=nr rfl
theorem AAb(x:Operand)(L:A9)(n m:Nat)(i:D):WO T pm s t x (.vw L n m) i=ET T pm s t x (.vw L n m) i:=nr rfl
def A2Z(T:Tys)(e e1:TypeId)(L:A9)(va vb lo len:Nat)(n:Int):Option D→Option D
 |some (.own e2 xs)=>if e1=e∧e2=e∧T.known e=true∧T.size e=1∧0≤n∧n.toNat<len∧lo+len≤xs.length then some (.pe L (lo+n.toNat) va vb)else none
 |_=>none
def A68(T:Tys)(pm:Pm)(s:St)(e1:TypeId)(L:A9)(va vb lo len:Nat)(n:Int):Ty→Option D
 | .slice e=>A2Z T e e1 L va vb lo len n (s.look pm L va vb)
 |_=>none
theorem AAc(x:Operand)(e:TypeId)(L:A9)(va vb lo len:Nat)(k:IntKind)(n:Int):WO T pm s t x (.vs e L va vb lo len) (.int k n)=A68 T pm s e L va vb lo len n (T.ty t):=by
 show yU T pm s t e L va vb lo len (.int k n)=_
 unfold yU A68
 cases T.ty t with
 |slice e'=>
  simp only;rcases s.look pm L va vb with _|d
  ·rfl
  ·cases d<;>rfl
 |_=>rfl
theorem AAd(e1:TypeId)(L:A9)(va vb lo len:Nat)(n:Int)(e:TypeId):A68 T pm s e1 L va vb lo len n (.slice e)=A2Z T e e1 L va vb lo len n (s.look pm L va vb):=nr rfl
theorem AAe(e:TypeId)(L:A9)(va vb lo len:Nat)(n:Int)(xs:List D)(hk:T.known e=true)(hz:T.size e=1)(h1:0≤n∧n.toNat<len)(h2:lo+len≤xs.length):A2Z T e e L va vb lo len n (some (.own e xs))=some (.pe L (lo+n.toNat) va vb):=by
 unfold A2Z;dsimp only;rw [if_pos ⟨rfl,rfl,hk,hz,h1.1,h1.2,h2⟩]
theorem AGq(x:Operand)(d:D)(e:TypeId):ln0 T pm s x d (.slice e)=A2Y T (Dt pm s x d):=nr rfl
theorem AAf(e:TypeId)(xs:List D)(h:T.size e=1):T.len e xs=xs.length:=by simp [Tys.len,h]
def at1(T:Tys)(e:TypeId)(n:Int):Option (TypeId×List D×Option (A9×Nat×Nat))→Option D
 |some (e',xs,o)=>
  if e'=e∧T.known e=true∧0≤n∧n.toNat<T.len e xs then
   match o with
   |none=>some (.cptr ((xs.drop (n.toNat*T.size e)).take (T.size e)))
   |some (L,a,b)=>some (.pe L (n.toNat*T.size e) a b)
  else none
 |none=>none
def ix0(T:Tys)(pm:Pm)(s:St)(x:Operand)(d:D)(n:Int):Ty→Option D
 | .slice e=>at1 T e n (Dt pm s x d)
 |_=>none
theorem ixT(x:Operand)(d:D)(k:IntKind)(n:Int):ET T pm s t x d (.int k n)=ix0 T pm s x d n (T.ty t):=by
 unfold ET ix0
 cases T.ty t with
 |slice e=>
  simp only
  cases Dt pm s x d with
  |none=>rfl
  |some q=>rfl
 |_=>rfl
theorem AGs(x:Operand)(d:D)(n:Int)(e:TypeId):ix0 T pm s x d n (.slice e)=at1 T e n (Dt pm s x d):=nr rfl
theorem AGt(e:TypeId)(n:Int)(xs:List D)(hk:T.known e=true)(hz:T.size e=1)(hn:0≤n∧n.toNat<xs.length):at1 T e n (some (e,xs,none))=some (.cptr [xs.getD n.toNat .undef]):=by
 simp only [at1,hk,hz,Tys.len,if_true];rw [if_pos ⟨trivial,trivial,hn.1,hn.2⟩,Lu,fw hn.2,Lp,Fz hn.2];rfl
theorem AGu(e:TypeId)(n:Int)(xs:List D)(L:A9)(a b:Nat)(hk:T.known e=true)(hz:T.size e=1)(hn:0≤n∧n.toNat<xs.length):at1 T e n (some (e,xs,some (L,a,b)))=some (.pe L n.toNat a b):=by
 simp only [at1,hk,hz,Tys.len,if_true];rw [if_pos ⟨trivial,trivial,hn.1,hn.2⟩,Lu]
end
section
variable {T:Tys} {pm:Pm} {s:St} {t:TypeId} (u:Tmp)
def eQ(pm:Pm)(s:St)(u:Tmp)(d:D):Option (D×St):=CR pm (if d.hasObj then s.clr u else s) d
theorem AAg:take T pm s t (.tmp u)=eQ pm s u (s.v u):=nr rfl
theorem tkC(v:Value):take T pm s t (.const v)=match ev T s t (.const v)with|none=>none|some d=>CR pm s d:=nr rfl
theorem AAh(k:IntKind)(n:Int):CR pm s (.int k n)=some (.int k n,s):=by simp [CR]
theorem AGv(e:TypeId)(xs:List D):CR pm s (.sl e xs)=some (.sl e xs,s):=by simp [CR]
theorem AAi(e:TypeId)(xs:List D):CR pm s (.own e xs)=some (.own e xs,s):=by simp [CR]
theorem AGw(L:A9)(n m:Nat):CR pm s (.vw L n m)=SE pm s L n m:=by simp [CR]
def td1:Option (List D×St)→Option (D×St)
 |some r=>some (.agg r.1,r.2)
 |none=>none
theorem AGx(r:List D×St):td1 (some r)=some (.agg r.1,r.2):=nr rfl
theorem AAk(xs:List D):CR pm s (.agg xs)=td1 (FV pm s xs):=by simp only [CR];cases FV pm s xs<;>rfl
def td2(pm:Pm)(ds:List D):Option (D×St)→Option (List D×St)
 |some r=>(FV pm r.2 ds).map fun q=>(r.1::q.1,q.2)
 |none=>none
theorem AGy(ds:List D)(d:D):td2 pm ds (some (d,s))=(FV pm s ds).map fun q=>(d::q.1,q.2):=nr rfl
theorem A6A:FV pm s []=some ([],s):=by simp [FV]
theorem A2a(d:D)(ds:List D):FV pm s (d::ds)=td2 pm ds (CR pm s d):=by simp only [FV];cases CR pm s d<;>rfl
theorem AAl(k:IntKind)(n:Int):eQ pm s u (.int k n)=some (.int k n,s):=by simp [eQ,CR,D.hasObj]
theorem A6B(b:Bool):eQ pm s u (.bool b)=some (.bool b,s):=by simp [eQ,CR,D.hasObj]
theorem AGz(e:TypeId)(xs:List D):eQ pm s u (.sl e xs)=some (.sl e xs,s):=by simp [eQ,CR,D.hasObj]
theorem AAm(e:TypeId)(xs:List D):eQ pm s u (.own e xs)=some (.own e xs,s.clr u):=by simp [eQ,CR,D.hasObj]
theorem AAn(xs:List D):eQ pm s u (.box xs)=some (.box xs,s.clr u):=by simp [eQ,CR,D.hasObj]
theorem AAo(f:FuncId)(xs:List D):eQ pm s u (.clo f xs)=some (.clo f xs,s):=by simp [eQ,CR,D.hasObj]
theorem A6C(xs:List D):eQ pm s u (.cptr xs)=some (.cptr xs,s):=by simp [eQ,CR,D.hasObj]
theorem AH0(L:A9)(n m:Nat):eQ pm s u (.vw L n m)=SE pm s L n m:=by simp [eQ,CR,D.hasObj]
theorem AAp(xs:List D):eQ pm s u (.agg xs)=td1 (FV pm (if Ag xs then s.clr u else s) xs):=by
 simp only [eQ,D.hasObj];rw [AAk];rfl
theorem A6D:Ag []=false:=by simp [Ag]
theorem uY(d:D)(ds:List D):Ag (d::ds)=(d.hasObj||Ag ds):=by simp [Ag]
theorem AAq(e:TypeId)(xs:List D):(D.sl e xs).hasObj=false:=by simp [D.hasObj]
theorem AAr(e:TypeId)(xs:List D):(D.own e xs).hasObj=true:=by simp [D.hasObj]
theorem AAs(xs:List D):(D.box xs).hasObj=true:=by simp [D.hasObj]
theorem AH1(L:A9)(n m:Nat):(D.vw L n m).hasObj=false:=by simp [D.hasObj]
theorem AAt(xs:List D):(D.agg xs).hasObj=Ag xs:=by simp [D.hasObj]
theorem AAu(xs:List D):(D.tup xs).hasObj=Ag xs:=by simp [D.hasObj]
def pl1(s:St)(r:Nat):Option D→Option (D×St)
 |some c=>some (c,s.set [r] .undef)
 |none=>none
theorem AH3(r:Nat)(c:D):pl1 s r (some c)=some (c,s.set [r] .undef):=nr rfl
theorem AAv(r n m:Nat)(hw:pm.wr r=true):SE pm s [r] n m=pl1 s r (s.look pm [r] n m):=by
 unfold SE
 cases s.look pm [r] n m with
 |none=>rfl
 |some c=>simp [hw,St.get,pl1]
def pl2(s:St)(L:A9)(o:Option D):Option D→Option (D×St)
 |some c=>match o with
  |some (.own _ _)=>(Dr c).map fun c'=>(c',s.set L c')
  |_=>some (c,s.set L .undef)
 |none=>none
theorem AH4(L:A9)(xs:List D)(c:D):pl2 s L (some (.box xs)) (some c)=some (c,s.set L .undef):=nr rfl
theorem AH5(L:A9)(xs:List D)(c:D):pl2 s L (some (.agg xs)) (some c)=some (c,s.set L .undef):=nr rfl
theorem AH6(L:A9)(e:TypeId)(xs:List D)(c:D):pl2 s L (some (.own e xs)) (some c)=(Dr c).map fun c'=>(c',s.set L c'):=nr rfl
theorem AAw(u' c n m:Nat)(p:A9)(hw:pm.wr u'=true):SE pm s (u'::c::p) n m=pl2 s (u'::c::p) (s.get (u'::c::p).dropLast) (s.look pm (u'::c::p) n m):=by
 unfold SE
 cases s.look pm (u'::c::p) n m with
 |none=>rfl
 |some d=>simp only [bI,hw,if_true,pl2];rfl
theorem AH7(r:Nat):s.get [r]=some (s.v r):=nr rfl
theorem AAx(d:D):BP d []=some d:=by cases d<;>rfl
theorem AAy(e:TypeId)(xs:List D)(c:Nat)(p:A9):BP (.own e xs) (c::p)=(xs[c]?).bind fun d=>BP d p:=nr rfl
theorem AAz(xs:List D)(c:Nat)(p:A9):BP (.box xs) (c::p)=(xs[c]?).bind fun d=>BP d p:=nr rfl
theorem AB0(xs:List D)(c:Nat)(p:A9):BP (.agg xs) (c::p)=(xs[c]?).bind fun d=>BP d p:=nr rfl
theorem AB1(d x:D):H6 d [] x=x:=by cases d<;>rfl
theorem AB2(e:TypeId)(xs:List D)(c:Nat)(p:A9)(x:D):H6 (.own e xs) (c::p) x= .own e (xs.set c (H6 (xs.getD c .undef) p x)):=nr rfl
theorem AB3(xs:List D)(c:Nat)(p:A9)(x:D):H6 (.box xs) (c::p) x= .box (xs.set c (H6 (xs.getD c .undef) p x)):=nr rfl
theorem AB4(xs:List D)(c:Nat)(p:A9)(x:D):H6 (.agg xs) (c::p) x= .agg (xs.set c (H6 (xs.getD c .undef) p x)):=nr rfl
end
section
variable {T:Tys} {pm:Pm} {s:St} {t:TypeId}
def lK(T:Tys)(pm:Pm)(t:TypeId)(ax:Operand):Option (D×St)→Option St
 |none=>none
 |some (d,s1)=>
  match ev T s1 t ax with
  |none=>none
  |some ad=>
   match KR pm s1 ax ad with
   |none=>none
   |some (L,c,o)=>
    if T.known t&&pm.wr (L.headD 0)&&d.asCells.all D9&&(T.size t==d.asCells.length)&&(T.isStruct t==d.isAgg)&&decide (c+T.size t≤o.cells.length)then
     let s2:=s1.set L (o.withCells (CS o.cells c d.asCells))
     some (if d.hasObj||Ag o.cells then s2.bump (L.headD 0)else s2)
    else none
theorem A6E(ax x:Operand):Lx T pm s t ax x=lK T pm t ax (take T pm s t x):=by
 unfold Lx GM lK;rcases take T pm s t x with _|⟨d,s1⟩<;>rfl
theorem A2b(ax:Operand)(q:Option (D×St)):GM T pm t ax q=lK T pm t ax q:=by
 unfold GM lK;rcases q with _|⟨d,s1⟩<;>rfl
def tm1(T:Tys)(pm:Pm)(s:St)(t:TypeId)(u:Tmp):D→Option (D×St)
 | .vw L n m=>YW pm s L n m
 |_=>take T pm s t (.tmp u)
theorem A6F(u:Tmp):Og T pm s t (.tmp u)=tm1 T pm s t u (s.v u):=by
 unfold Og;simp only [ev]
 cases s.v u<;>rfl
def tm2(s:St)(L:A9):Option D→Option (D×St)
 |some c=>some (c,s.set L .undef)
 |none=>none
theorem AHA(u:Tmp)(L:A9)(n m:Nat)(hw:pm.wr (L.headD 0)=true):tm1 T pm s t u (.vw L n m)=tm2 s L (s.look pm L n m):=by
 show YW pm s L n m=_
 unfold YW tm2
 cases s.look pm L n m with
 |none=>rfl
 |some c=>simp only [hw,if_true]
theorem A6G(u:Tmp)(e:TypeId)(xs:List D):tm1 T pm s t u (.own e xs)=take T pm s t (.tmp u):=nr rfl
theorem AHB(L:A9)(c:D):tm2 s L (some c)=some (c,s.set L .undef):=nr rfl
def st2(s1:St)(L:A9)(c:Nat)(d:D):Option D→Option St
 |none=>none
 |some o=>if c<o.cells.length then(if d.hasObj||Ag o.cells then some ((s1.set L (o.withCells (o.cells.set c d))).bump (L.headD 0))else some (s1.set L (o.withCells (o.cells.set c d))))else none
def sd1(T:Tys)(pm:Pm)(t:TypeId)(u:Tmp)(d:D)(s:St):D→Option St
 | .pe L c n m=>if T.known t&& !T.isStruct t&&pm.wr (L.headD 0)&&D9 d then st2 s L c d (s.look pm L n m)else lK T pm t (.tmp u) (some (d,s))
 | .vw L n m=>if T.known t&& !T.isStruct t&&pm.wr (L.headD 0)&&D9 d then st2 s L 0 d (VP s pm L n m)else lK T pm t (.tmp u) (some (d,s))
 | .box xs=>if T.known t&& !T.isStruct t&&pm.wr u&&D9 d then st2 s [u] 0 d (some (.box xs))else lK T pm t (.tmp u) (some (d,s))
 |_=>lK T pm t (.tmp u) (some (d,s))
theorem Sl{d:D}(hd:D9 d=true):d.asCells=[d]∧d.isAgg=false:=by
 cases d<;>first|exact⟨rfl,rfl⟩|(simp [D9]at hd)
theorem Qa{T:Tys}{t:TypeId}(hs:T.isStruct t=false):T.size t=1:=by
 unfold Tys.isStruct at hs;unfold Tys.size
 cases hty:T.ty t<;>simp_all [Ty.isStruct,Ty.size]
theorem AHC(u:Tmp)(d:D)(_:d.isAgg=false):lK T pm t (.tmp u) (some (d,s))=sd1 T pm t u d s (s.v u):=by
 cases hv:s.v u<;>simp only [sd1]
 case pe L c n m=>
  split
  ·rename_i hc
   simp only [Ju,QB]at hc;obtain⟨⟨⟨hk,hs⟩,hw⟩,hd⟩:=hc;obtain⟨ha,hg⟩:=Sl hd;have hz:=Qa hs;simp only [lK,ev,hv,KR]
   cases s.look pm L n m with
   |none=>rfl
   |some o=>
    simp only [st2,hk,hw,ha,hz,hs,hg,Xo,hd,List.all_nil,JS,SB,gI,CS,beq_self_eq_true,Mj];by_cases hc:c<o.cells.length
    ·have h1:c+1≤o.cells.length:=hc;simp only [hc,h1,decide_true,gI,if_true];split<;>first|rfl|(rename_i hq;simp only [hq];rfl)
    ·have h1: ¬c+1≤o.cells.length:=hc;simp only [hc,h1,decide_false,Bool.and_false,O5,if_false]
  ·rfl
 case vw L n m=>
  split
  ·rename_i hc
   simp only [Ju,QB]at hc;obtain⟨⟨⟨hk,hs⟩,hw⟩,hd⟩:=hc;obtain⟨ha,hg⟩:=Sl hd;have hz:=Qa hs;simp only [lK,ev,hv,KR,VP]
   cases s.look pm L n m with
   |none=>rfl
   |some o=>
    cases o<;>try rfl
    rename_i xs
    simp only [st2,hk,hw,ha,hz,hs,hg,Xo,hd,List.all_nil,JS,SB,gI,CS,beq_self_eq_true,Mj,D.cells];by_cases hc:0<xs.length
    ·have h1:1≤xs.length:=hc;simp only [hc,h1,decide_true,gI,if_true];split<;>first|rfl|(rename_i hq;simp only [hq];rfl)
    ·have h1: ¬1≤xs.length:=hc;simp only [hc,h1,decide_false,Bool.and_false,O5,if_false]
  ·rfl
 case box xs=>
  split
  ·rename_i hc
   simp only [Ju,QB]at hc;obtain⟨⟨⟨hk,hs⟩,hw⟩,hd⟩:=hc;obtain⟨ha,hg⟩:=Sl hd;have hz:=Qa hs;simp only [lK,ev,hv,KR];simp only [st2,hk,hw,ha,hz,hs,hg,Xo,hd,List.all_nil,JS,SB,gI,CS,beq_self_eq_true,Mj,D.cells,bI];by_cases hc:0<xs.length
   ·have h1:1≤xs.length:=hc;simp only [hc,h1,decide_true,gI,if_true];split<;>first|rfl|(rename_i hq;simp only [hq];rfl)
   ·have h1: ¬1≤xs.length:=hc;simp only [hc,h1,decide_false,Bool.and_false,O5,if_false]
  ·rfl
theorem AHD(u:Tmp)(d:D)(L:A9)(c n m:Nat)(hk:T.known t=true)(hs:T.isStruct t=false)(hw:pm.wr (L.headD 0)=true)(hd:D9 d=true):sd1 T pm t u d s (.pe L c n m)=st2 s L c d (s.look pm L n m):=by
 simp [sd1,hk,hs,hd];intro h;simp_all
theorem AHE(u:Tmp)(d:D)(L:A9)(n m:Nat)(hk:T.known t=true)(hs:T.isStruct t=false)(hw:pm.wr (L.headD 0)=true)(hd:D9 d=true):sd1 T pm t u d s (.vw L n m)=st2 s L 0 d (VP s pm L n m):=by
 simp [sd1,hk,hs,hd];intro h;simp_all
theorem AHF(u:Tmp)(d:D)(xs:List D)(hk:T.known t=true)(hs:T.isStruct t=false)(hw:pm.wr u=true)(hd:D9 d=true):sd1 T pm t u d s (.box xs)=st2 s [u] 0 d (some (.box xs)):=by
 simp [sd1,hk,hs,hd];intro h;simp_all
def bx1:Option D→Option D
 |some (.box xs)=>some (.box xs)
 |_=>none
theorem bxA(L:A9)(n m:Nat):VP s pm L n m=bx1 (s.look pm L n m):=by
 unfold VP bx1
 cases s.look pm L n m with
 |none=>rfl
 |some o=>cases o<;>rfl
theorem AHH(xs:List D):bx1 (some (.box xs))=some (.box xs):=nr rfl
theorem hdC(a:Nat)(l:A9)(d:Nat):List.headD (a::l) d=a:=nr rfl
theorem AHI(L:A9)(c:Nat)(d o:D):st2 s L c d (some o)=if c<o.cells.length then(if d.hasObj||Ag o.cells then some ((s.set L (o.withCells (o.cells.set c d))).bump (L.headD 0))else some (s.set L (o.withCells (o.cells.set c d))))else none:=nr rfl
theorem AB5(e:TypeId)(xs:List D):(D.own e xs).cells=xs:=nr rfl
theorem AB6(xs:List D):(D.box xs).cells=xs:=nr rfl
theorem AB7(e:TypeId)(xs ys:List D):(D.own e xs).withCells ys= .own e ys:=nr rfl
theorem AB8(xs ys:List D):(D.box xs).withCells ys= .box ys:=nr rfl
theorem AB9(k:IntKind)(n:Int):D9 (.int k n)=true:=nr rfl
theorem A6H(b:Bool):D9 (.bool b)=true:=nr rfl
theorem AHJ(e:TypeId)(xs:List D):D9 (.sl e xs)=true:=nr rfl
theorem ABA(e:TypeId)(xs:List D):D9 (.own e xs)=true:=nr rfl
theorem ceS(L:A9)(c:Nat)(o:D):Sk s L c (some o)=(o.cells[c]?).bind fun x=>DN (IK s L c x):=nr rfl
theorem AHK(L:A9)(c:Nat)(e:TypeId)(xs:List D):DN (IK s L c (.sl e xs))=some (.sl e xs):=nr rfl
theorem A6I(L:A9)(c:Nat)(xs:List D):DN (IK s L c (.cptr xs))=some (.cptr xs):=nr rfl
theorem AHL(r:Nat)(p:A9):qN s (r::p)= .vw (r::p) (s.k r) (s.m r):=nr rfl
def ap1(T:Tys)(pm:Pm)(e:TypeId)(ty:TypeId)(y:Operand):Option (D×St)→Option (D×St)
 |some (.own e1 xs,s1)=>
   match ev T s1 ty y with
   |some d=>
    match Dt pm s1 y d with
    |some (e2,ys,_)=>
     if e1=e∧e2=e∧T.elem e=true∧ys.all D9=true∧xs.length+ys.length<1099511627776 then
      if Ag ys then
       match d,y with
       | .own _ _,.tmp u=>some (.own e (xs++ys),s1.clr u)
       |_,_=>none
      else some (.own e (xs++ys),s1)
     else none
    |none=>none
   |none=>none
 |_=>none
def az1(T:Tys)(e:TypeId):Option (D×St)→Option (D×St)
 |some (.own e1 xs,s1)=>if e1=e∧T.known e=true then some (.own e xs,s1)else none
 |_=>none
def az0(T:Tys)(pm:Pm)(s:St)(ty:TypeId)(x:Operand):Ty→Option (D×St)
 | .slice e=>az1 T e (take T pm s ty x)
 |_=>none
theorem ABD(ty:TypeId)(x:Operand):Oh T pm s ty x=az0 T pm s ty x (T.ty ty):=by
 unfold Oh az0
 cases T.ty ty with
 |slice e=>
  simp only [az1];rcases take T pm s ty x with _|⟨d,s1⟩
  ·rfl
  ·cases d<;>rfl
 |_=>rfl
theorem YN{T:Tys}{e:TypeId}(hk:T.known e=true)(h4:T.size e≤4):T.elem e=true:=by simp [Tys.elem,hk,h4]
theorem AHN(ty:TypeId)(x:Operand)(e:TypeId):az0 T pm s ty x (.slice e)=az1 T e (take T pm s ty x):=nr rfl
theorem AHO(e:TypeId)(xs:List D)(hk:T.known e=true):az1 T e (some (.own e xs,s))=some (.own e xs,s):=by simp [az1,hk]
def ap0(T:Tys)(pm:Pm)(s:St)(ty:TypeId)(x y:Operand):Ty→Option (D×St)
 | .slice e=>ap1 T pm e ty y (Og T pm s ty x)
 |_=>none
theorem AHQ(ty:TypeId)(x y:Operand):Ip T pm s ty x y=ap0 T pm s ty x y (T.ty ty):=by
 unfold Ip ap0
 cases T.ty ty with
 |slice e=>
  simp only [ap1];rcases Og T pm s ty x with _|⟨d,s1⟩
  ·rfl
  ·cases d<;>rfl
 |_=>rfl
theorem AHR(ty:TypeId)(x y:Operand)(e:TypeId):ap0 T pm s ty x y (.slice e)=ap1 T pm e ty y (Og T pm s ty x):=nr rfl
def ap2(T:Tys)(e e1:TypeId)(xs:List D)(s:St)(u:Tmp)(d:D):Option (TypeId×List D×Option (A9×Nat×Nat))→Option (D×St)
 |some (e2,ys,_)=>
     if e1=e∧e2=e∧T.elem e=true∧ys.all D9=true∧xs.length+ys.length<1099511627776 then
      if Ag ys then
       match d with
       | .own _ _=>some (.own e (xs++ys),s.clr u)
       |_=>none
      else some (.own e (xs++ys),s)
     else none
 |none=>none
theorem AHS(ty e e1:TypeId)(u:Tmp)(xs:List D):ap1 T pm e ty (.tmp u) (some (.own e1 xs,s))=ap2 T e e1 xs s u (s.v u) (Dt pm s (.tmp u) (s.v u)):=by
 simp only [ap1,ev,ap2];rcases Dt pm s (.tmp u) (s.v u)with _|⟨e2,ys,o⟩
 ·rfl
 ·simp only;split
  ·split
   ·cases s.v u<;>rfl
   ·rfl
  ·rfl
theorem AHT(e:TypeId)(u:Tmp)(xs ys:List D)(d:D)(o:Option (A9×Nat×Nat))(hk:T.known e=true)(h4:T.size e≤4)(hy:ys.all D9=true)(hno:Ag ys=false)(hl:xs.length+ys.length<1099511627776):
  ap2 T e e xs s u d (some (e,ys,o))=some (.own e (xs++ys),s):=by
 simp only [ap2];rw [if_pos ⟨trivial,trivial,YN hk h4,hy,hl⟩,hno];simp
theorem AHU(e e':TypeId)(u:Tmp)(xs ys zs:List D)(o:Option (A9×Nat×Nat))(hk:T.known e=true)(h4:T.size e≤4)(hy:ys.all D9=true)(hno:Ag ys=true)(hl:xs.length+ys.length<1099511627776):
  ap2 T e e xs s u (.own e' zs) (some (e,ys,o))=some (.own e (xs++ys),s.clr u):=by
 simp only [ap2];rw [if_pos ⟨trivial,trivial,YN hk h4,hy,hl⟩,hno];simp
end
section
variable {E:Env} {pm:Pm} {s:St} {dst:Option Tmp}
def nP(a:D)(l:List (A9×D)):Option (List D×List (A9×D))→Option (List D×List (A9×D))
 |some (as,ls)=>some (a::as,l++ls)
 |none=>none
theorem A6J(a:D)(l:List (A9×D))(as:List D)(ls:List (A9×D)):nP a l (some (as,ls))=some (a::as,l++ls):=nr rfl
def Xd(E:Env)(lend:Bool)(pm:Pm)(s:St)(j:Nat)(rest:List (Operand×TypeId)):Option (D×List (A9×D))→Option (List D×List (A9×D))
 |some (a,l)=>nP a l (Dm E lend pm s (j+l.length) rest)
 |none=>none
theorem A6K(lend:Bool)(j:Nat)(rest:List (Operand×TypeId))(a:D)(l:List (A9×D)):Xd E lend pm s j rest (some (a,l))=nP a l (Dm E lend pm s (j+l.length) rest):=nr rfl
theorem ABE(lend:Bool)(j:Nat):Dm E lend pm s j []=some ([],[]):=nr rfl
theorem ABF(lend:Bool)(j:Nat)(u:Tmp)(t:TypeId)(rest:List (Operand×TypeId)):Dm E lend pm s j ((.tmp u,t)::rest)=Xd E lend pm s j rest (Nb E.T lend pm s j [u] (s.v u)):=by
 simp only [Dm,ev];rcases Nb E.T lend pm s j [u] (s.v u)with _|⟨a,l⟩
 ·rfl
 ·simp only [Xd];rcases Dm E lend pm s (j+l.length) rest with _|⟨as,ls⟩<;>rfl
def aC(E:Env)(lend:Bool)(pm:Pm)(s:St)(j:Nat)(rest:List (Operand×TypeId)):Option D→Option (List D×List (A9×D))
 |some d=>Xd E lend pm s j rest (Nb E.T lend pm s j [] d)
 |none=>none
theorem aCS(lend:Bool)(j:Nat)(rest:List (Operand×TypeId))(d:D):aC E lend pm s j rest (some d)=Xd E lend pm s j rest (Nb E.T lend pm s j [] d):=nr rfl
theorem arC(lend:Bool)(j:Nat)(v:Value)(t:TypeId)(rest:List (Operand×TypeId)):Dm E lend pm s j ((.const v,t)::rest)=aC E lend pm s j rest (ev E.T s t (.const v)):=by
 simp only [Dm]
 cases ev E.T s t (.const v)with
 |none=>rfl
 |some d=>
  simp only [aC];rcases Nb E.T lend pm s j [] d with _|⟨a,l⟩
  ·rfl
  ·simp only [Xd];rcases Dm E lend pm s (j+l.length) rest with _|⟨as,ls⟩<;>rfl
theorem arF(lend:Bool)(j:Nat)(f:FuncId)(t:TypeId)(rest:List (Operand×TypeId)):Dm E lend pm s j ((.func f,t)::rest)=Xd E lend pm s j rest (Nb E.T lend pm s j [] (.clo f [])):=by
 simp only [Dm,ev];rcases Nb E.T lend pm s j [] (.clo f [])with _|⟨a,l⟩
 ·rfl
 ·simp only [Xd];rcases Dm E lend pm s (j+l.length) rest with _|⟨as,ls⟩<;>rfl
variable (lend:Bool) (j:Nat) (L:A9)
theorem ABG(T:Tys)(k:IntKind)(n:Int):Nb T lend pm s j L (.int k n)=Cx lend pm s j L (.int k n):=nr rfl
theorem A6L(T:Tys)(b:Bool):Nb T lend pm s j L (.bool b)=Cx lend pm s j L (.bool b):=nr rfl
theorem AHV(T:Tys)(e:TypeId)(xs:List D):Nb T lend pm s j L (.sl e xs)=Cx lend pm s j L (.sl e xs):=nr rfl
theorem ABH(T:Tys)(f:FuncId)(xs:List D):Nb T lend pm s j L (.clo f xs)=Cx lend pm s j L (.clo f xs):=nr rfl
theorem A6M(T:Tys)(xs:List D):Nb T lend pm s j L (.cptr xs)=Cx lend pm s j L (.cptr xs):=nr rfl
theorem axK(T:Tys)(v:Value):Nb T lend pm s j L (.konst v)=Cx lend pm s j L (.konst v):=nr rfl
theorem ABJ(T:Tys)(e:TypeId)(xs:List D):Nb T lend pm s j L (.own e xs)=Cx lend pm s j L (.own e xs):=nr rfl
theorem ABK(T:Tys)(xs:List D):Nb T lend pm s j L (.box xs)=Cx lend pm s j L (.box xs):=nr rfl
theorem AHW(T:Tys)(M:A9)(n m:Nat):Nb T lend pm s j L (.vw M n m)=Cx lend pm s j L (.vw M n m):=nr rfl
theorem ABL(T:Tys)(xs:List D):Nb T lend pm s j L (.agg xs)=Cx lend pm s j L (.agg xs):=nr rfl
theorem ABM(k:IntKind)(n:Int):Cx lend pm s j L (.int k n)=some (.int k n,[]):=nr rfl
theorem A6N(b:Bool):Cx lend pm s j L (.bool b)=some (.bool b,[]):=nr rfl
theorem AHX(e:TypeId)(xs:List D):Cx lend pm s j L (.sl e xs)=some (.sl e xs,[]):=nr rfl
theorem ABN(f:FuncId)(xs:List D):Cx lend pm s j L (.clo f xs)=some (.clo f xs,[]):=nr rfl
theorem A6O(xs:List D):Cx lend pm s j L (.cptr xs)=some (.cptr xs,[]):=nr rfl
theorem atK(v:Value):Cx lend pm s j L (.konst v)=some (.konst v,[]):=nr rfl
def fz1(l:List (A9×D)):Option D→Option (D×List (A9×D))
 |some c=>some (c,l)
 |none=>none
theorem AHY(l:List (A9×D))(c:D):fz1 l (some c)=some (c,l):=nr rfl
theorem ABP(e:TypeId)(xs:List D):Cx false pm s j L (.own e xs)=fz1 [(L,.own e xs)] (Dr (.own e xs)):=by
 show((Dr (.own e xs)).map fun c'=>(c',[(L,D.own e xs)]))=_
 cases Dr (.own e xs)<;>rfl
theorem ABQ(xs:List D):Cx false pm s j L (.box xs)=fz1 [(L,.box xs)] (Dr (.box xs)):=by
 show((Dr (.box xs)).map fun c'=>(c',[(L,D.box xs)]))=_
 cases Dr (.box xs)<;>rfl
def fz2(L:A9):Option D→Option (D×List (A9×D))
 |some c=>fz1 [(L,c)] (Dr c)
 |none=>none
theorem AHa(c:D):fz2 L (some c)=fz1 [(L,c)] (Dr c):=nr rfl
theorem AHb(M:A9)(n m:Nat):Cx false pm s j L (.vw M n m)=fz2 M (s.look pm M n m):=by
 simp only [Cx,Fj]
 cases s.look pm M n m with
 |none=>rfl
 |some c=>simp only [fz2];cases Dr c<;>rfl
theorem A6P(e:TypeId)(xs:List D):Cx true pm s j L (.own e xs)=some (.vw [G+j] 0 0,[(L,.own e xs)]):=nr rfl
def ln2(j:Nat)(L:A9):Option D→Option (D×List (A9×D))
 |some c=>some (.vw [G+j] 0 0,[(L,c)])
 |none=>none
theorem AHc(c:D):ln2 j L (some c)=some (.vw [G+j] 0 0,[(L,c)]):=nr rfl
theorem ABR(M:A9)(n m:Nat):Cx true pm s j L (.vw M n m)=ln2 j M (s.look pm M n m):=by
 simp only [Cx,Fj]
 cases s.look pm M n m<;>rfl
def ag1:Option (List D×List (A9×D))→Option (D×List (A9×D))
 |some r=>some (.agg r.1,r.2)
 |none=>none
theorem AHd(r:List D×List (A9×D)):ag1 (some r)=some (.agg r.1,r.2):=nr rfl
theorem ABS(xs:List D):Cx lend pm s j L (.agg xs)=ag1 (Es lend pm s L j 0 xs):=by
 simp only [Cx]
 cases Es lend pm s L j 0 xs<;>rfl
def zw(lend:Bool)(pm:Pm)(s:St)(L0:A9)(j i:Nat)(ds:List D):Option (D×List (A9×D))→Option (List D×List (A9×D))
 |some (a,l)=>nP a l (Es lend pm s L0 (j+l.length) (i+1) ds)
 |none=>none
theorem A6Q(i:Nat)(ds:List D)(a:D)(l:List (A9×D)):zw lend pm s L j i ds (some (a,l))=nP a l (Es lend pm s L (j+l.length) (i+1) ds):=nr rfl
theorem ABT(i:Nat):Es lend pm s L j i []=some ([],[]):=nr rfl
theorem A6R(i:Nat)(d:D)(ds:List D)(h:d.isAgg=false):Es lend pm s L j i (d::ds)=zw lend pm s L j i ds (Cx lend pm s j (L++[i]) d):=by
 have:Cx lend pm s j (L++[i]) d=Fj lend pm s j (L++[i]) d:=by cases d<;>first|rfl|(simp [D.isAgg]at h)
 rw [this];simp only [Es];rcases Fj lend pm s j (L++[i]) d with _|⟨a,l⟩
 ·rfl
 ·simp only [zw];rcases Es lend pm s L (j+l.length) (i+1) ds with _|⟨as,ls⟩<;>rfl
theorem ABU(k:IntKind)(n:Int):(D.int k n).isAgg=false:=nr rfl
theorem A6S(b:Bool):(D.bool b).isAgg=false:=nr rfl
theorem AHe(e:TypeId)(xs:List D):(D.sl e xs).isAgg=false:=nr rfl
theorem ABV(e:TypeId)(xs:List D):(D.own e xs).isAgg=false:=nr rfl
theorem AHf(M:A9)(n m:Nat):(D.vw M n m).isAgg=false:=nr rfl
theorem ABW(f:FuncId)(xs:List D):(D.clo f xs).isAgg=false:=nr rfl
theorem A6T(xs:List D):(D.cptr xs).isAgg=false:=nr rfl
def cb1(E:Env)(pm:Pm)(s:St)(dst:Option Tmp)(f:FuncId)(caps:List D):Option (List D×List (A9×D))→Option St
 |none=>none
 |some (as,ls)=>
  match E.call f (as++caps) []with
  |some (r,_)=>
   if ES r then
    if Ev (ls.map (·.1))&&ls.all (fun l=>pm.wr (l.1.headD 0))then(KW ls).map fun ls'=>(back false s ls').putO dst r else none
   else some (s.putO dst r)
  |none=>none
theorem cdB(f:FuncId)(xs:List (Operand×TypeId))(caps:List D)(h:E.lends f=false):IM E pm s dst f xs caps=cb1 E pm s dst f caps (Dm E false pm s 0 xs):=by
 unfold IM cb1;rw [h];simp only [O5,if_false];rcases Dm E false pm s 0 xs with _|⟨as,ls⟩<;>rfl
def cb2(pm:Pm)(s:St)(dst:Option Tmp)(ls:List (A9×D)):Option (D×List D)→Option St
 |some (r,_)=>
   if ES r then
    if Ev (ls.map (·.1))&&ls.all (fun l=>pm.wr (l.1.headD 0))then(KW ls).map fun ls'=>(back false s ls').putO dst r else none
   else some (s.putO dst r)
 |none=>none
theorem AHg(f:FuncId)(caps as:List D)(ls:List (A9×D)):cb1 E pm s dst f caps (some (as,ls))=cb2 pm s dst ls (E.call f (as++caps) []):=by
 simp only [cb1];rcases E.call f (as++caps) []with _|⟨r,o⟩<;>rfl
theorem AHh(ls:List (A9×D))(r:D)(o:List D)(h:ES r=false):cb2 pm s dst ls (some (r,o))=some (s.putO dst r):=by simp [cb2,h]
theorem AHi(r:D)(o:List D):cb2 pm s dst [] (some (r,o))=some (s.putO dst r):=by
 simp only [cb2];split<;>rfl
def cl1(E:Env)(pm:Pm)(s:St)(dst:Option Tmp)(f:FuncId)(caps:List D):Option (List D×List (A9×D))→Option St
 |none=>none
 |some (as,ls)=>
   if Ev (ls.map (·.1))&&ls.all (fun l=>pm.wr (l.1.headD 0))&&ls.all (fun l=>lV l.2)then
    match E.call f (as++caps) (ls.map (·.2))with
    |some (r,outs)=>if outs.length=ls.length then some ((Nc s (ls.map (·.1)) outs).putO dst r)else none
    |none=>none
   else none
theorem cdL(f:FuncId)(xs:List (Operand×TypeId))(caps:List D)(h:E.lends f=true):IM E pm s dst f xs caps=cl1 E pm s dst f caps (Dm E true pm s 0 xs):=by
 unfold IM cl1;rw [h];simp only [if_true];rcases Dm E true pm s 0 xs with _|⟨as,ls⟩<;>rfl
def cl2(s:St)(dst:Option Tmp)(ls:List (A9×D)):Option (D×List D)→Option St
 |some (r,outs)=>if outs.length=ls.length then some ((Nc s (ls.map (·.1)) outs).putO dst r)else none
 |none=>none
theorem AHj(f:FuncId)(caps as:List D)(ls:List (A9×D))(h:(Ev (ls.map (·.1))&&ls.all (fun l=>pm.wr (l.1.headD 0))&&ls.all (fun l=>lV l.2))=true):cl1 E pm s dst f caps (some (as,ls))=cl2 s dst ls (E.call f (as++caps) (ls.map (·.2))):=by
 simp only [cl1,h,if_true];rcases E.call f (as++caps) (ls.map (·.2))with _|⟨r,o⟩<;>rfl
theorem AHk(ls:List (A9×D))(r:D)(outs:List D)(h:outs.length=ls.length):cl2 s dst ls (some (r,outs))=some ((Nc s (ls.map (·.1)) outs).putO dst r):=by simp [cl2,h]
end
theorem ABX(k:IntKind)(n:Int):ES (.int k n)=false:=by simp [ES]
theorem A6V(b:Bool):ES (.bool b)=false:=by simp [ES]
theorem ABY(e:TypeId)(xs:List D):ES (.own e xs)=IV xs:=by simp [ES]
theorem ABZ(xs:List D):ES (.agg xs)=IV xs:=by simp [ES]
theorem ABa(xs:List D):ES (.tup xs)=IV xs:=by simp [ES]
theorem A6W:IV []=false:=by simp [IV]
theorem A2c(d:D)(ds:List D):IV (d::ds)=(ES d||IV ds):=by simp [IV]
theorem ABb(k:IntKind)(n:Int):Dr (.int k n)=some (.int k n):=by simp [Dr]
theorem A6X(b:Bool):Dr (.bool b)=some (.bool b):=by simp [Dr]
theorem AHl(e:TypeId)(xs:List D):Dr (.sl e xs)=some (.sl e xs):=by simp [Dr]
theorem ABc(f:FuncId)(xs:List D):Dr (.clo f xs)=some (.clo f xs):=by simp [Dr]
theorem A6Y(xs:List D):Dr (.cptr xs)=some (.cptr xs):=by simp [Dr]
def fzM(f:List D→D):Option (List D)→Option D
 |some xs=>some (f xs)
 |none=>none
theorem AHm(f:List D→D)(xs:List D):fzM f (some xs)=some (f xs):=nr rfl
theorem A3Y(e:TypeId)(xs:List D):Dr (.own e xs)=fzM (.sl e) (Ed xs):=by simp only [Dr];cases Ed xs<;>rfl
theorem ABe(xs:List D):Dr (.box xs)=fzM .cptr (Ed xs):=by simp only [Dr];cases Ed xs<;>rfl
theorem ABf(xs:List D):Dr (.agg xs)=fzM .agg (Ed xs):=by simp only [Dr];cases Ed xs<;>rfl
theorem ABg(xs:List D):Dr (.tup xs)=fzM .tup (Ed xs):=by simp only [Dr];cases Ed xs<;>rfl
theorem A6Z:Ed []=some []:=by simp [Ed]
def fzC:Option D→Option (List D)→Option (List D)
 |some d,some ds=>some (d::ds)
 |_,_=>none
theorem AHn(d:D)(ds:List D):fzC (some d) (some ds)=some (d::ds):=nr rfl
theorem uZ(d:D)(ds:List D):Ed (d::ds)=fzC (Dr d) (Ed ds):=by
 simp only [Ed];cases Dr d<;>cases Ed ds<;>rfl
theorem AHo(d:D):lV d=(Dr d).isSome:=nr rfl
section
variable {T:Tys} {s:St}
def fi1(n:Nat):Option (D×St)→Option (D×List D)
 |none=>none
 |some (r,s')=>if lV r&&((List.range n).map fun j=>s'.v (G+j)).all okL then some (r,(List.range n).map fun j=>s'.v (G+j))else none
theorem fiD(n:Nat)(rs:List ResultVar):bM T n rs s=fi1 n (Pb T s rs):=by
 unfold bM fi1;rcases Pb T s rs with _|⟨r,s'⟩<;>rfl
theorem fi0(r:D):fi1 0 (some (r,s))=if lV r then some (r,[])else none:=by simp [fi1]
theorem fiA(r:D):fi1 1 (some (r,s))=if lV r&&okL (s.v 100000)then some (r,[s.v 100000])else none:=by
 simp [fi1,G,YU]
theorem fiB(r:D):fi1 2 (some (r,s))=if lV r&&(okL (s.v 100000)&&okL (s.v 100001))then some (r,[s.v 100000,s.v 100001])else none:=by
 simp [fi1,G,YU,and_assoc]
theorem A6a(e:TypeId)(xs:List D):okL (.own e xs)=(Dr (.own e xs)).isSome:=nr rfl
theorem A6b(xs:List D):okL (.box xs)=(Dr (.box xs)).isSome:=nr rfl
theorem AHp:okL .undef=true:=nr rfl
theorem re1(r:ResultVar):Pb T s [r]=Yg T s r:=nr rfl
def reT:Option (List D×St)→Option (D×St)
 |some q=>some (.tup q.1,q.2)
 |none=>none
theorem AHq(q:List D×St):reT (some q)=some (.tup q.1,q.2):=nr rfl
theorem re2(r r':ResultVar)(rs:List ResultVar):Pb T s (r::r'::rs)=reT (QO T s (r::r'::rs)):=by
 show((QO T s (r::r'::rs)).map fun q=>(D.tup q.1,q.2))=_
 cases QO T s (r::r'::rs)<;>rfl
theorem re0:Pb T s []=some (.tup [],s):=nr rfl
theorem ABh(t:Tmp):Yg T s (.tmp t)=eQ Pm.all s t (s.v t):=nr rfl
theorem ABi:QO T s []=some ([],s):=nr rfl
def rdN(T:Tys)(rs:List ResultVar):Option (D×St)→Option (List D×St)
 |some (d,s)=>(QO T s rs).map fun p=>(d::p.1,p.2)
 |none=>none
theorem AHr(rs:List ResultVar)(d:D):rdN T rs (some (d,s))=(QO T s rs).map fun p=>(d::p.1,p.2):=nr rfl
theorem A6c(r:ResultVar)(rs:List ResultVar):QO T s (r::rs)=rdN T rs (Yg T s r):=by
 simp only [QO];rcases Yg T s r with _|⟨d,s'⟩<;>rfl
theorem AHs(r:Nat):Pm.all.rd r=true:=nr rfl
theorem AHt(r:Nat):Pm.all.wr r=true:=nr rfl
def lJ(s:St)(dst:Option Tmp)(u:Tmp)(i:Nat):Option D→Option St
 |none=>none
 |some (.agg ys)=>Mo s dst (DN (.agg ((List.range ys.length).map fun j=>IK s [u,i] j (ys.getD j .undef))))
 |some c=>Mo s dst (DN (IK s [u] i c))
theorem ABj(dst:Option Tmp)(u:Tmp)(xs:List D)(i:Nat):Jw s dst (.tmp u) (.tup xs) i=lJ s dst u i xs[i]? :=by
 simp only [Jw];rcases xs[i]? with _|c
 ·rfl
 ·cases c<;>first|exact Ow s dst _|rfl
theorem ABk(dst:Option Tmp)(u:Tmp)(i:Nat)(ys:List D):lJ s dst u i (some (.agg ys))=Mo s dst (DN (.agg ((List.range ys.length).map fun j=>IK s [u,i] j (ys.getD j .undef)))):=nr rfl
theorem ABl(dst:Option Tmp)(u:Tmp)(i:Nat)(k:IntKind)(n:Int):lJ s dst u i (some (.int k n))=some (s.putO dst (.int k n)):=by simp [lJ,DN,IK,D.hasObj,Mo]
theorem A6d(dst:Option Tmp)(u:Tmp)(i:Nat)(b:Bool):lJ s dst u i (some (.bool b))=some (s.putO dst (.bool b)):=by simp [lJ,DN,IK,D.hasObj,Mo]
theorem AHu(dst:Option Tmp)(u:Tmp)(i:Nat)(e:TypeId)(xs:List D):lJ s dst u i (some (.sl e xs))=some (s.putO dst (.sl e xs)):=by simp [lJ,DN,IK,D.hasObj,Mo]
theorem ABm(dst:Option Tmp)(u:Tmp)(i:Nat)(e:TypeId)(xs:List D):lJ s dst u i (some (.own e xs))=some (s.putO dst (.vw [u,i] (s.k u) (s.m u))):=by simp [lJ,DN,IK,D.hasObj,Mo,qN]
theorem ABn(xs:List D)(c:Nat)(p:A9):BP (.tup xs) (c::p)=(xs[c]?).bind fun d=>BP d p:=nr rfl
theorem ABo(xs:List D)(c:Nat)(p:A9)(x:D):H6 (.tup xs) (c::p) x= .tup (xs.set c (H6 (xs.getD c .undef) p x)):=nr rfl
theorem AHv(L:A9)(xs:List D)(c:D):pl2 s L (some (.tup xs)) (some c)=some (c,s.set L .undef):=nr rfl
theorem ABp(deep:Bool):back deep s []=s:=nr rfl
theorem bkT(t:Nat)(p:A9)(c:D)(rest:List (A9×D)):back true s ((t::p,c)::rest)=back true ((s.set (t::p) c).bump t) rest:=nr rfl
theorem bkF(t:Nat)(p:A9)(c:D)(rest:List (A9×D)):back false s ((t::p,c)::rest)=back false (s.set (t::p) c) rest:=nr rfl
theorem bkE(deep:Bool)(c:D)(rest:List (A9×D)):back deep s (([],c)::rest)=back deep s rest:=nr rfl
theorem bkL(Ls:List A9)(outs:List D):Nc s Ls outs=back true (back false s (Ls.map fun L=>(L,.undef))) (Ls.zip outs):=nr rfl
theorem ABq:Ev []=true:=nr rfl
theorem A6e(L:A9)(Ls:List A9):Ev (L::Ls)=((L.isEmpty||Ls.all fun M=>M.isEmpty||(!L.isPrefixOf M&& !M.isPrefixOf L))&&Ev Ls):=nr rfl
theorem ipC(a b:Nat)(l m:A9):List.isPrefixOf (a::l) (b::m)=(a==b&&List.isPrefixOf l m):=nr rfl
theorem ipN(l:A9):List.isPrefixOf [] l=true:=by cases l<;>rfl
theorem ipE(a:Nat)(l:A9):List.isPrefixOf (a::l) []=false:=nr rfl
theorem ieC(a:Nat)(l:A9):List.isEmpty (a::l)=false:=nr rfl
theorem ieN:List.isEmpty ([]:A9)=true:=nr rfl
end
section
variable {T:Tys} {pm:Pm} {s:St}
def fl1(T:Tys)(pm:Pm)(tf:Nat→TypeId)(sz:Nat)(cs:List D)(i:Nat)(rest:List (Nat×Operand)):Option (D×St)→Option (List D×St)
 |none=>none
 |some (d,s1)=>if d.asCells.length=sz∧i*sz+sz≤cs.length then Iq T pm tf sz s1 (CS cs (i*sz) d.asCells) rest else none
theorem ABr(tf:Nat→TypeId)(sz:Nat)(cs:List D):Iq T pm tf sz s cs []=some (cs,s):=nr rfl
theorem A6f(tf:Nat→TypeId)(sz:Nat)(cs:List D)(i:Nat)(x:Operand)(rest:List (Nat×Operand)):Iq T pm tf sz s cs ((i,x)::rest)=fl1 T pm tf sz cs i rest (take T pm s (tf i) x):=by
 simp only [Iq];rcases take T pm s (tf i) x with _|⟨d,s1⟩<;>rfl
theorem AHx(tf:Nat→TypeId)(cs:List D)(i:Nat)(rest:List (Nat×Operand))(d:D)(h:d.isAgg=false):fl1 T pm tf 1 cs i rest (some (d,s))=if i+1≤cs.length then Iq T pm tf 1 s (cs.set i d) rest else none:=by
 have ha:d.asCells=[d]:=by cases d<;>first|rfl|(simp [D.isAgg]at h)
 simp only [fl1,ha,JS,SB,Mj,Lu,true_and,CS]
end
section
variable (pm:Pm) (s:St) (u:Tmp)
def iQ(pm:Pm)(u:Tmp)(d:D):Bool:= !d.hasObj||d.isObj||pm.wr u
theorem mvT:Ji pm s (.move (.tmp u))=iQ pm u (s.v u):=nr rfl
theorem AHy(v:Value):Ji pm s (.move (.const v))=true:=nr rfl
theorem A6g(k:IntKind)(n:Int):iQ pm u (.int k n)=true:=by simp [iQ,D.hasObj]
theorem A2d(b:Bool):iQ pm u (.bool b)=true:=by simp [iQ,D.hasObj]
theorem ABs(e:TypeId)(xs:List D):iQ pm u (.sl e xs)=true:=by simp [iQ,D.hasObj]
theorem A6h(e:TypeId)(xs:List D):iQ pm u (.own e xs)=true:=by simp [iQ,D.isObj]
theorem A6i(xs:List D):iQ pm u (.box xs)=true:=by simp [iQ,D.isObj]
theorem ABt(L:A9)(n m:Nat):iQ pm u (.vw L n m)=true:=by simp [iQ,D.hasObj]
theorem A2e(xs:List D):iQ pm u (.cptr xs)=true:=by simp [iQ,D.hasObj]
theorem A6j(xs:List D):iQ pm u (.tup xs)=(!Ag xs||pm.wr u):=by simp [iQ,D.hasObj,D.isObj]
theorem zx(x:Operand):Ji pm s (.assign x)=true:=nr rfl
theorem A6k(a b c:Operand):Ji pm s (.pick a b c)=true:=nr rfl
theorem A2f(t:TypeId):Ji pm s (.alloc t)=true:=nr rfl
theorem ABu(t:TypeId)(x:Operand):Ji pm s (.box t x)=true:=nr rfl
theorem A2g(t:TypeId)(p:Array (Nat×Operand)):Ji pm s (.build t p)=true:=nr rfl
theorem AHz(t:TypeId)(n:Nat)(p:Array (Nat×Operand)):Ji pm s (.buildSlice t n p)=true:=nr rfl
theorem A6l(t:TypeId)(x:Operand):Ji pm s (.load t x)=true:=nr rfl
theorem A2h(t:TypeId)(x y:Operand):Ji pm s (.store t x y)=true:=nr rfl
theorem ABv(o:BinOp)(t:TypeId)(x y:Operand)(t':TypeId):Ji pm s (.binOp o t x y t')=true:=nr rfl
theorem AI0(o:UnOp)(t:TypeId)(x:Operand):Ji pm s (.unOp o t x)=true:=nr rfl
theorem AI1(t:TypeId)(a b:Operand):Ji pm s (.makeSlice t a b)=true:=nr rfl
theorem AI2(t:TypeId)(x:Operand)(a b c:Option Operand):Ji pm s (.slice t x a b c)=true:=nr rfl
theorem AI3(x:Operand):Ji pm s (.nilCheck x)=true:=nr rfl
theorem AI4(t:TypeId)(x:Operand)(i:Nat):Ji pm s (.fieldAddr t x i)=true:=nr rfl
theorem AI5(t:TypeId)(x i:Operand):Ji pm s (.indexAddr t x i)=true:=nr rfl
theorem AI6(x:Operand)(i:Nat):Ji pm s (.extract x i)=true:=nr rfl
theorem A6m(c:Call):Ji pm s (.call c)=true:=nr rfl
theorem pmR(n r w:List Nat)(x:Nat):(PmL.pm ⟨n,r,w⟩).rd x=(n.contains x|| !r.contains x):=nr rfl
theorem pmW(n r w:List Nat)(x:Nat):(PmL.pm ⟨n,r,w⟩).wr x=w.contains x:=nr rfl
section
variable {E:Env} {dst:Option Tmp} {t ty:TypeId}
end
end
end Dv
namespace Dv
open Go
theorem Db(n:Int)(h: -9223372036854775808≤n∧n≤9223372036854775807):IntKind.i64.wrap n=n:=IntWalk.i64_in n h
section
variable {T:Tys} {pm:Pm} {s:St} {t:TypeId}
theorem TY(xs:AA)(i:Nat)(h:i<xs.length):(GR xs)[i]? =some (.int .i64 (xs.getD i 0)):=by
 simp [GR,Lp,h]
theorem eT(x:Int)(xs:AA):GR (x::xs)= .int .i64 x::GR xs:=nr rfl
def sls(e:TypeId)(xss:AL):List D:=xss.map fun xs=> .sl e (GR xs)
variable {E:Env} {dst:Option Tmp} {ty:TypeId}
def ABw(e:TypeId)(dst:Option Tmp):Option (List D×St)→Option St
 |some (xs,s)=>some (s.putO dst (.own e xs))
 |none=>none
theorem ABx(e:TypeId)(xs:List D):ABw e dst (some (xs,s))=some (s.putO dst (.own e xs)):=nr rfl
def ww(dst:Option Tmp):Option (List D×St)→Option St
 |some (xs,s)=>some (s.putO dst (.agg xs))
 |none=>none
theorem ABy(xs:List D):ww dst (some (xs,s))=some (s.putO dst (.agg xs)):=nr rfl
theorem ZN(T:Tys){e:TypeId}(hs:T.isStruct e=false):T.size e=1∧T.zeros e=[T.zero1 e]:=by
 unfold Tys.isStruct at hs;unfold Tys.size Tys.zeros
 cases hty:T.ty e<;>simp_all [Ty.isStruct,Ty.size]
def bs0(E:Env)(pm:Pm)(s:St)(dst:Option Tmp)(len:Nat)(parts:Array (Nat×Operand)):Ty→Option St
 | .slice e=>
   if len*E.T.size e≤4096∧E.T.known e=true then
    (Iq E.T pm (fun _=>e) (E.T.size e) s ((List.range (len*E.T.size e)).map fun j=>(E.T.zeros e).getD (j % E.T.size e) .undef) parts.toList).map fun r=>r.2.putO dst (.own e r.1)
   else none
 |_=>none
theorem A6o(len:Nat)(parts:Array (Nat×Operand)):Yc E.T pm s dst t len parts=bs0 E pm s dst len parts (E.T.ty t):=by
 unfold Yc bs0
 cases E.T.ty t<;>rfl
theorem yBs(len:Nat)(parts:Array (Nat×Operand)):Ph E pm s dst (.buildSlice t len parts) ty=if ty=900004 then fcB pm dst (bs0 E pm s dst len parts (E.T.ty t))else bs0 E pm s dst len parts (E.T.ty t):=by
 rw [ZM,A6o];by_cases h:ty=900004
 ·rw [if_pos h,if_pos h];unfold fcB
  cases bs0 E pm s dst len parts (E.T.ty t)<;>cases dst<;>rfl
 ·rw [if_neg h,if_neg h]
theorem AI7(len:Nat)(parts:Array (Nat×Operand))(e:TypeId)(hk:E.T.known e=true)(hs:E.T.isStruct e=false)(hl:len≤4096):
  bs0 E pm s dst len parts (.slice e)=ABw e dst (Iq E.T pm (fun _=>e) 1 s (List.replicate len (E.T.zero1 e)) parts.toList):=by
 obtain⟨hz,hzz⟩:=ZN E.T hs
 have hrep:((List.range (len*1)).map fun j=>(E.T.zeros e).getD (j % 1) .undef)=List.replicate len (E.T.zero1 e):=by
  rw [hzz];apply List.ext_getElem
  ·simp
  ·intro i h1 h2;simp [Nat.mod_one]
 simp only [bs0,hz];rw [if_pos ⟨by omega,hk⟩,hrep]
 rcases Iq E.T pm (fun _=>e) 1 s (List.replicate len (E.T.zero1 e)) parts.toList with _|⟨a,b⟩<;>rfl
theorem AI8(u:Tmp)(e:TypeId)(L:A9)(n m lo len:Nat):Ba pm s dst (.tmp u) (.vs e L n m lo len)=some (s.putO dst (.vs e L n m lo len)):=by
 show some (if(D.vs e L n m lo len).hasObj then(s.clr u).putO dst (.vs e L n m lo len)else s.putO dst (.vs e L n m lo len))=_
 rw [if_neg (by simp [D.hasObj])]
def bdN(E:Env)(pm:Pm)(s:St)(dst:Option Tmp)(t:TypeId)(parts:Array (Nat×Operand)):Option St:=
 match E.T.ty t with
 | .struct fs=>if E.T.known t then ww dst (Iq E.T pm (fun i=>fs.getD i 0) 1 s (E.T.zeros t) parts.toList)else none
 |_=>none
def bd0(E:Env)(pm:Pm)(s:St)(dst:Option Tmp)(t:TypeId)(parts:Array (Nat×Operand)):Option (List (Nat×TypeId))→Option St
 |some fl=>if E.T.isStruct t&&E.T.known t then ww dst (M0 E.T pm fl s (E.T.zeros t) parts.toList)else none
 |none=>bdN E pm s dst t parts
theorem A6p(parts:Array (Nat×Operand)):Ph E pm s dst (.build t parts) ty=bd0 E pm s dst t parts (E.T.nest t):=by
 rw [wX];unfold bd0 bdN
 cases E.T.nest t with
 |some fl=>
  simp only;split
  ·rcases M0 E.T pm fl s (E.T.zeros t) parts.toList with _|⟨a,b⟩<;>rfl
  ·rfl
 |none=>
  simp only
  cases E.T.ty t with
  |struct fs=>
   simp only;split
   ·rcases Iq E.T pm (fun i=>fs.getD i 0) 1 s (E.T.zeros t) parts.toList with _|⟨a,b⟩<;>rfl
   ·rfl
  |_=>rfl
theorem AI9(parts:Array (Nat×Operand))(fl:List (Nat×TypeId))(hk:E.T.known t=true)(hs:E.T.isStruct t=true):bd0 E pm s dst t parts (some fl)=ww dst (M0 E.T pm fl s (E.T.zeros t) parts.toList):=by
 simp [bd0,hk,hs]
def bdT(E:Env)(pm:Pm)(s:St)(dst:Option Tmp)(t:TypeId)(parts:Array (Nat×Operand)):Ty→Option St
 | .struct fs=>if E.T.known t then ww dst (Iq E.T pm (fun i=>fs.getD i 0) 1 s (E.T.zeros t) parts.toList)else none
 |_=>none
theorem AIA(parts:Array (Nat×Operand)):bd0 E pm s dst t parts none=bdT E pm s dst t parts (E.T.ty t):=by
 show bdN E pm s dst t parts=_
 unfold bdN bdT
 cases E.T.ty t<;>rfl
theorem AIB(parts:Array (Nat×Operand))(fs:List TypeId)(hk:E.T.known t=true):bdT E pm s dst t parts (.struct fs)=ww dst (Iq E.T pm (fun i=>fs.getD i 0) 1 s (E.T.zeros t) parts.toList):=by
 simp [bdT,hk]
def fn1(T:Tys)(pm:Pm)(fl:List (Nat×TypeId))(cs:List D)(off:Nat)(ty:TypeId)(rest:List (Nat×Operand)):Option (D×St)→Option (List D×St)
 |none=>none
 |some (d,s1)=>if d.asCells.length=T.size ty∧off+T.size ty≤cs.length then M0 T pm fl s1 (CS cs off d.asCells) rest else none
theorem AC1(T:Tys)(fl:List (Nat×TypeId))(cs:List D):M0 T pm fl s cs []=some (cs,s):=nr rfl
def fn0(T:Tys)(pm:Pm)(fl:List (Nat×TypeId))(s:St)(cs:List D)(x:Operand)(rest:List (Nat×Operand)):Option (Nat×TypeId)→Option (List D×St)
 |none=>none
 |some (off,ty)=>fn1 T pm fl cs off ty rest (take T pm s ty x)
theorem A6q(T:Tys)(fl:List (Nat×TypeId))(cs:List D)(i:Nat)(x:Operand)(rest:List (Nat×Operand)):M0 T pm fl s cs ((i,x)::rest)=fn0 T pm fl s cs x rest (fl[i]?):=by
 simp only [M0];rcases fl[i]? with _|⟨off,ty⟩
 ·rfl
 ·simp only [fn0,fn1];rcases take T pm s ty x with _|⟨d,s1⟩<;>rfl
theorem AID(T:Tys)(fl:List (Nat×TypeId))(cs:List D)(x:Operand)(rest:List (Nat×Operand))(off:Nat)(ty:TypeId):fn0 T pm fl s cs x rest (some (off,ty))=fn1 T pm fl cs off ty rest (take T pm s ty x):=nr rfl
theorem AIE(T:Tys)(fl:List (Nat×TypeId))(cs:List D)(off:Nat)(ty:TypeId)(rest:List (Nat×Operand))(d:D)(h1:d.asCells.length=T.size ty)(h2:off+T.size ty≤cs.length):
  fn1 T pm fl cs off ty rest (some (d,s))=M0 T pm fl s (CS cs off d.asCells) rest:=by simp only [fn1,h1,h2,and_self,if_true]
theorem fnA(ds:List D):(D.agg ds).asCells=ds:=nr rfl
theorem fnO(e:TypeId)(xs:List D):(D.own e xs).asCells=[.own e xs]:=nr rfl
theorem spN(cs:List D)(c:Nat):CS cs c []=cs:=by cases cs<;>rfl
theorem spC(cs:List D)(c:Nat)(y:D)(ys:List D):CS cs c (y::ys)=CS (cs.set c y) (c+1) ys:=by cases cs<;>rfl
def mk0(T:Tys)(n:Int):Ty→Option D
 | .slice e=>if 0≤n∧n<1099511627776∧T.elem e=true then
   if T.isStruct e=true then some (.own e (List.replicate n.toNat (T.zeros e)).flatten)
   else if T.size e=1 then some (.own e (List.replicate n.toNat (T.zero1 e)))else none
  else none
 |_=>none
theorem yMk(n:Int):Ez T t (.int .i64 n) (.int .i64 n)=mk0 T n (T.ty t):=by
 unfold Ez mk0
 cases T.ty t<;>simp
def A2i(T:Tys)(q:Int):Ty→Option D
 | .slice e=>if 0≤q∧q<1099511627776∧T.elem e=true then
   if T.isStruct e=true then some (.own e [])
   else if T.size e=1 then some (.own e [])else none
  else none
 |_=>none
theorem AIF(q:Int):Ez T t (.int .i64 0) (.int .i64 q)=A2i T q (T.ty t):=by
 unfold Ez A2i
 cases T.ty t<;>simp
theorem AC2(q:Int)(e:TypeId)(hk:T.known e=true)(h4:T.size e≤4)(h0:0≤q)(hn:q<1099511627776):A2i T q (.slice e)=some (.own e []):=by
 simp only [A2i];rw [if_pos ⟨h0,hn,YN hk h4⟩];by_cases hs:T.isStruct e=true
 ·rw [if_pos hs]
 ·obtain⟨hz,_⟩:=ZN T (by simpa using hs)
  rw [if_neg hs,if_pos hz]
theorem AIG(n:Int)(e:TypeId)(hk:T.known e=true)(h4:T.size e≤4)(hs:T.isStruct e=false)(h0:0≤n)(hn:n<1099511627776):mk0 T n (.slice e)=some (.own e (List.replicate n.toNat (T.zero1 e))):=by
 obtain⟨hz,_⟩:=ZN T hs;simp only [mk0];rw [if_pos ⟨h0,hn,YN hk h4⟩,if_neg (by rw [hs];decide),if_pos hz]
end
end Dv
namespace Dv
open Go
def I64(n:Int):Prop:= -9223372036854775808≤n∧n≤9223372036854775807
theorem A6r{n:Int}(h:(Lit.int .i64 n).wf=true):I64 n:=by
 have h1:IntKind.i64.min= -9223372036854775808:=by decide
 have h2:IntKind.i64.max=9223372036854775807:=by decide
 simp only [Lit.wf,h1,h2,Ju,decide_eq_true_eq]at h;exact h
section
variable {T:Tys} {t e:TypeId} {d:D}
theorem rZ{ds:List D}(ht:T.ty t= .int .i64)(h:Shp T t ds): ∃n,ds=[.int .i64 n]∧I64 n:=by
 cases h with
 |int ht' hw=>rw [ht]at ht';injection ht' with ht';subst ht';exact⟨_,rfl,A6r hw⟩
 |bool ht'=>rw [ht]at ht';cases ht'
 |string ht'=>rw [ht]at ht';cases ht'
 |slice ht'=>rw [ht]at ht';cases ht'
 |struct ht'=>rw [ht]at ht';cases ht'
theorem nQ{ds:List D}(ht:T.ty t= .slice e)(h:Shp T t ds): ∃xss:List (List D),ds=[.sl e xss.flatten]∧(∀xs,xs∈xss→Shp T e xs)∧xss.length≤maxLen:=by
 cases h with
 |int ht' hw=>rw [ht]at ht';cases ht'
 |bool ht'=>rw [ht]at ht';cases ht'
 |string ht' hs=>rw [ht]at ht';cases ht'
 |slice ht' hx hl=>rw [ht]at ht';injection ht' with ht';subst ht';exact⟨_,rfl,hx,hl⟩
 |struct ht'=>rw [ht]at ht';cases ht'
theorem wy{fs:List TypeId}{ds:List D}(ht:T.ty t= .struct fs)(h:Shp T t ds):ds.length=fs.length∧ ∀(i:Nat) (f:TypeId) (d:D),fs[i]? =some f→ds[i]? =some d→Shp T f [d]:=by
 cases h with
 |int ht' hw=>rw [ht]at ht';cases ht'
 |bool ht'=>rw [ht]at ht';cases ht'
 |string ht' hs=>rw [ht]at ht';cases ht'
 |slice ht' hx hl=>rw [ht]at ht';cases ht'
 |struct ht' hl hx=>rw [ht]at ht';injection ht' with ht';subst ht';exact⟨hl,hx⟩
def A6s(xs:AA):Prop:=xs.length≤maxLen∧ ∀x∈xs,I64 x
def uf(xss:AL):Prop:=xss.length≤maxLen∧ ∀xs∈xss,A6s xs
theorem A2j{ds:List D}(ht:T.ty t= .slice e)(he:T.ty e= .int .i64)(h:Shp T t ds): ∃xs,ds=[.sl e (GR xs)]∧A6s xs:=by
 obtain⟨xss,rfl,hx,hl⟩:=nQ ht h
 have: ∀xss:List (List D),(∀xs,xs∈xss→Shp T e xs)→ ∃ys,xss.flatten=GR ys∧ys.length=xss.length∧ ∀y∈ys,I64 y:=by
  intro xss
  induction xss with
  |nil=>intro _;exact⟨[],rfl,rfl,by simp⟩
  |cons xs xss ih=>
   intro hx;obtain⟨n,rfl,hn⟩:=rZ he (hx xs (Ja));obtain⟨ys,h1,h2,h3⟩:=ih (fun q hq=>hx q (KT _ hq))
   refine⟨n::ys,by rw [qM,h1];rfl,by simp [h2],fun y hy=> ?_⟩
   rcases MW.1 hy with rfl|hy
   ·exact hn
   ·exact h3 y hy
 obtain⟨ys,h1,h2,h3⟩:=this xss hx
 exact⟨ys,by rw [h1],by omega,h3⟩
theorem nR{e2:TypeId}{ds:List D}(ht:T.ty t= .slice e)(he:T.ty e= .slice e2)(he2:T.ty e2= .int .i64)(h:Shp T t ds): ∃xss,ds=[.sl e (sls e2 xss)]∧uf xss:=by
 obtain⟨xss,rfl,hx,hl⟩:=nQ ht h
 have: ∀xss:List (List D),(∀xs,xs∈xss→Shp T e xs)→ ∃ys,xss.flatten=sls e2 ys∧ys.length=xss.length∧ ∀y∈ys,A6s y:=by
  intro xss
  induction xss with
  |nil=>intro _;exact⟨[],rfl,rfl,by simp⟩
  |cons xs xss ih=>
   intro hx;obtain⟨n,rfl,hn⟩:=A2j he he2 (hx xs (Ja));obtain⟨ys,h1,h2,h3⟩:=ih (fun q hq=>hx q (KT _ hq))
   refine⟨n::ys,by rw [qM,h1];rfl,by simp [h2],fun y hy=> ?_⟩
   rcases MW.1 hy with rfl|hy
   ·exact hn
   ·exact h3 y hy
 obtain⟨ys,h1,h2,h3⟩:=this xss hx
 exact⟨ys,by rw [h1],by omega,h3⟩
theorem wz{fs:List TypeId}(ht:T.ty t= .struct fs)(h:Arg T t d): ∃ds,d= .agg ds∧ds.length=fs.length∧ ∀(i:Nat) (f:TypeId) (d:D),fs[i]? =some f→ds[i]? =some d→Shp T f [d]:=by
 obtain⟨ds,hs,rfl⟩:=h;obtain⟨h1,h2⟩:=wy ht hs
 exact⟨ds,by simp [top,Tys.isStruct,ht,Ty.isStruct],h1,h2⟩
theorem rf{a b:TypeId}(ht:T.ty t= .struct [a,a,b,b])(ha:T.ty a= .int .i64)(hb:T.ty b= .slice e){e2:TypeId}(he:T.ty e= .slice e2)(he2:T.ty e2= .int .i64)(h:Arg T t d):
  ∃l k ns es,d= .agg [.int .i64 l,.int .i64 k,.sl e (sls e2 ns),.sl e (sls e2 es)]∧I64 l∧I64 k∧uf ns∧uf es:=by
 obtain⟨ds,rfl,hl,hx⟩:=wz ht h;rcases ds with _|⟨d0,_|⟨d1,_|⟨d2,_|⟨d3,_|⟨_,_⟩⟩⟩⟩⟩<;>simp at hl
 obtain⟨l,h0,hl0⟩:=rZ ha (hx 0 a d0 rfl rfl);obtain⟨k,h1,hl1⟩:=rZ ha (hx 1 a d1 rfl rfl);obtain⟨ns,h2,hl2⟩:=nR hb he he2 (hx 2 b d2 rfl rfl);obtain⟨es,h3,hl3⟩:=nR hb he he2 (hx 3 b d3 rfl rfl);simp only [List.cons.injEq,and_true]at h0 h1 h2 h3;subst h0 h1 h2 h3
 exact⟨l,k,ns,es,rfl,hl0,hl1,hl2,hl3⟩
end
theorem trodAll_len{H:Type}{enc:TypeId×Value→H}{P:Program}{w:World}{base:Nat}{spare:Nat→Bool}{M6:Bool}: ∀ {ts:List TypeId} {vs:List Value} {ds:List (DataW H)} {ps:List MemPlace},
  DataW.TrodAll enc P w base spare M6 ts vs ds ps→ds.length=ts.length∧vs.length=ts.length:=by
 intro ts
 induction ts with
 |nil=>intro vs ds ps h;cases vs<;>cases ds<;>simp [DataW.TrodAll]at h;exact⟨rfl,rfl⟩
 |cons t ts ih=>
  intro vs ds ps h
  cases vs with
  |nil=>cases ds<;>simp [DataW.TrodAll]at h
  |cons v vs=>
   cases ds with
   |nil=>simp [DataW.TrodAll]at h
   |cons d ds=>
    simp only [DataW.TrodAll]at h;obtain⟨p,q,h1,h2,_⟩:=h;obtain⟨e1,e2⟩:=ih h2
    exact⟨by simp [e1],by simp [e2]⟩
end Dv
namespace Dv
open Go
section
variable {E:Env} {T:Tys} {pm:Pm} {s:St} {dst:Option Tmp} {ty t:TypeId}
def yK(T:Tys)(t:TypeId)(dst:Option Tmp):Option (D×St)→Option St
 |some (d,s1)=>if T.isStruct t==d.isAgg then some (s1.putO dst (.box d.asCells))else none
 |none=>none
def x8(E:Env)(pm:Pm)(s:St)(t:TypeId)(x:Operand)(dst:Option Tmp):D→Option St
 | .agg ds=>if Ag ds then yK E.T t dst (take E.T pm s t x)else(if E.T.isStruct t then some (s.putO dst (.box ds))else none)
 |_=>yK E.T t dst (take E.T pm s t x)
theorem A6t(u:Tmp):SK E.T pm s dst t (.tmp u)=x8 E pm s t (.tmp u) dst (s.v u):=by
 rw [zg]
 cases hk:Ya (ev E.T s t (.tmp u))with
 |some ds=>
  simp only [ev]at hk
  cases hv:s.v u<;>rw [hv]at hk<;>simp only [Ya]at hk<;>try (cases hk;done)
  split at hk
  ·cases hk
  ·rename_i ho
   simp only [Option.some.injEq]at hk;subst hk;simp only [x8,ho];rfl
 |none=>
  have hold:x8 E pm s t (.tmp u) dst (s.v u)=yK E.T t dst (take E.T pm s t (.tmp u)):=by
   simp only [ev]at hk
   cases hv:s.v u<;>try rfl
   rw [hv]at hk;simp only [Ya]at hk
   split at hk
   ·rename_i ho;simp only [x8,ho,if_true]
   ·cases hk
  rw [hold];simp only;rcases take E.T pm s t (.tmp u)with _|⟨d,s1⟩<;>rfl
theorem AIH(u:Tmp):Ph E pm s dst (.box t (.tmp u)) ty=if ty=900003 then yJ pm dst (x8 E pm s t (.tmp u) dst (s.v u))else x8 E pm s t (.tmp u) dst (s.v u):=by
 rw [A2P,A6t];by_cases h:ty=900003
 ·rw [if_pos h,if_pos h];unfold yJ
  cases x8 E pm s t (.tmp u) dst (s.v u)<;>cases dst<;>rfl
 ·rw [if_neg h,if_neg h]
theorem bkK(x:Operand)(ds:List D)(hs:E.T.isStruct t=true):x8 E pm s t x dst (.agg ds)=if Ag ds then yK E.T t dst (take E.T pm s t x)else some (s.putO dst (.box ds)):=by simp [x8,hs]
theorem AC3(x:Operand)(k:IntKind)(n:Int):x8 E pm s t x dst (.int k n)=yK E.T t dst (take E.T pm s t x):=nr rfl
theorem AII(x:Operand)(e:TypeId)(xs:List D):x8 E pm s t x dst (.sl e xs)=yK E.T t dst (take E.T pm s t x):=nr rfl
theorem A6u(x:Operand)(xs:List D):x8 E pm s t x dst (.cptr xs)=yK E.T t dst (take E.T pm s t x):=nr rfl
theorem AC4(x:Operand)(f:FuncId)(xs:List D):x8 E pm s t x dst (.clo f xs)=yK E.T t dst (take E.T pm s t x):=nr rfl
theorem AIJ(ds:List D)(hs:T.isStruct t=true):yK T t dst (some (.agg ds,s))=some (s.putO dst (.box ds)):=by simp [yK,hs,D.isAgg,D.asCells]
theorem AIK(d:D)(hs:T.isStruct t=false)(hd:d.isAgg=false):yK T t dst (some (d,s))=some (s.putO dst (.box [d])):=by
 have:d.asCells=[d]:=by cases d<;>first|rfl|(simp [D.isAgg]at hd)
 simp [yK,hs,hd,this]
def fa1(L:A9)(i n m:Nat):Option D→Option D
 |some _=>some (.pe L i n m)
 |none=>none
theorem AIM(L:A9)(i n m:Nat)(d:D):fa1 L i n m (some d)=some (.pe L i n m):=nr rfl
def fa0(T:Tys)(pm:Pm)(s:St)(t:TypeId)(x:Operand)(d:D):Option Nat→Option D
 |none=>none
 |some j=>
  if T.isStruct t then
   match d with
   | .box _=>match x with| .tmp u=>some (.pe [u] j (s.k u) (s.m u))|_=>none
   | .vw L n m=>match s.look pm L n m with|some (.box _)=>some (.pe L j n m)|_=>none
   | .pe L c n m=>match s.look pm L n m with|some _=>some (.pe L (c+j) n m)|none=>none
   | .cptr xs=>some (.cptr (xs.drop j))
   |_=>none
  else none
theorem faE(x:Operand)(d:D)(i:Nat):GN T pm s t x d i=fa0 T pm s t x d (T.foff t i):=by
 unfold GN fa0
 cases T.foff t i<;>rfl
theorem foN(i:Nat)(hn:T.nest t=none)(hi:i<T.size t):T.foff t i=some i:=by simp [Tys.foff,hn,hi]
theorem AC5(u:Tmp)(xs:List D)(i:Nat)(hs:T.isStruct t=true):fa0 T pm s t (.tmp u) (.box xs) (some i)=some (.pe [u] i (s.k u) (s.m u)):=by simp [fa0,hs]
theorem AIN(x:Operand)(L:A9)(n m i:Nat)(hs:T.isStruct t=true):fa0 T pm s t x (.vw L n m) (some i)=fa1 L i n m (VP s pm L n m):=by
 simp only [fa0,hs,if_true,VP]
 cases s.look pm L n m with
 |none=>rfl
 |some o=>cases o<;>rfl
theorem AIO(x:Operand)(L:A9)(c n m i:Nat)(hs:T.isStruct t=true):fa0 T pm s t x (.pe L c n m) (some i)=fa1 L (c+i) n m (s.look pm L n m):=by
 simp only [fa0,hs,if_true]
 cases s.look pm L n m<;>rfl
theorem AIP(x:Operand)(xs:List D)(i:Nat)(hs:T.isStruct t=true):fa0 T pm s t x (.cptr xs) (some i)=some (.cptr (xs.drop i)):=by simp [fa0,hs]
theorem csS(L:A9)(c n:Nat)(o:D):cellsOf s L c n (some o)=if c+n≤o.cells.length then DN (.agg ((List.range n).map fun i=>IK s L (c+i) (o.cells.getD (c+i) .undef)))else none:=nr rfl
variable {α:Type} (f:Nat→α)
theorem rg2:(List.range 2).map f=[f 0,f 1]:=nr rfl
theorem rg4:(List.range 4).map f=[f 0,f 1,f 2,f 3]:=nr rfl
theorem rg5:(List.range 5).map f=[f 0,f 1,f 2,f 3,f 4]:=nr rfl
theorem AC6(L:A9)(c:Nat)(k:IntKind)(n:Int):IK s L c (.int k n)= .int k n:=nr rfl
theorem AIQ(L:A9)(c:Nat)(e:TypeId)(xs:List D):IK s L c (.sl e xs)= .sl e xs:=nr rfl
theorem AC7(L:A9)(c:Nat)(e:TypeId)(xs:List D):IK s L c (.own e xs)=qN s (L++[c]):=nr rfl
theorem AIR(L:A9)(c:Nat)(M:A9)(n m:Nat):IK s L c (.vw M n m)= .vw M n m:=nr rfl
theorem noA(xs:List D):DN (.agg xs)=if Ag xs then none else some (.agg xs):=by simp only [DN,D.hasObj];rfl
theorem AC8(k:IntKind)(n:Int):DN (.int k n)=some (.int k n):=by simp [DN,D.hasObj]
theorem AIS(e:TypeId)(xs:List D):DN (.sl e xs)=some (.sl e xs):=by simp [DN,D.hasObj]
theorem AIT(L:A9)(n m:Nat):DN (.vw L n m)=some (.vw L n m):=by simp [DN,D.hasObj]
theorem dl2(a b:Nat)(l:A9):List.dropLast (a::b::l)=a::List.dropLast (b::l):=nr rfl
theorem dl1(a:Nat):List.dropLast [a]=[]:=nr rfl
theorem AIU(r c:Nat)(p:A9):s.get (r::c::p)=BP (s.v r) (c::p):=nr rfl
theorem rq: ∀(ds xs:List D),xs.length=ds.length→CS xs 0 ds=ds:=by
 have key: ∀(ds pre xs:List D),xs.length=ds.length→CS (pre++xs) pre.length ds=pre++ds:=by
  intro ds
  induction ds with
  |nil=>intro pre xs h;simp at h;subst h;rfl
  |cons d ds ih=>
   intro pre xs h
   cases xs with
   |nil=>simp at h
   |cons x xs=>
    simp only [CS];have:=ih (pre++[d]) xs (by simpa using h)
    simpa using this
 intro ds xs h;simpa using key ds [] xs h
def sw1(T:Tys)(pm:Pm)(t:TypeId)(u:Tmp)(ds:List D)(s:St):D→Option St
 | .box xs=>if T.known t&&T.isStruct t&&pm.wr u&&ds.all D9&&(T.size t==ds.length)&&(xs.length==ds.length)then(if Ag ds||Ag xs then some ((s.set [u] (.box ds)).bump u)else some (s.set [u] (.box ds)))else lK T pm t (.tmp u) (some (.agg ds,s))
 |_=>lK T pm t (.tmp u) (some (.agg ds,s))
theorem AIV(u:Tmp)(ds:List D):lK T pm t (.tmp u) (some (.agg ds,s))=sw1 T pm t u ds s (s.v u):=by
 cases hv:s.v u<;>simp only [sw1]
 rename_i xs
 split
 ·rename_i hc
  simp only [Ju,beq_iff_eq]at hc;obtain⟨⟨⟨⟨⟨hk,hs⟩,hw⟩,hd⟩,hz⟩,hl⟩:=hc;have hz':T.size t≤xs.length:=by omega
  simp only [lK,ev,hv,KR,D.asCells,D.isAgg,D.cells,D.withCells,hk,hs,hw,hd,hz,bI,beq_self_eq_true,Bool.and_self,Mj,D.hasObj];rw [rq ds xs hl];have h2:ds.length≤xs.length:=by omega
  simp only [h2,decide_true,Bool.and_self,if_true]
  split<;>first|rfl|(rename_i hq;simp only [hq];rfl)
 ·rfl
theorem AIW(u:Tmp)(ds xs:List D)(hk:T.known t=true)(hs:T.isStruct t=true)(hw:pm.wr u=true)(hd:ds.all D9=true)(hz:T.size t=ds.length)(hl:xs.length=ds.length):
  sw1 T pm t u ds s (.box xs)=if Ag ds||Ag xs then some ((s.set [u] (.box ds)).bump u)else some (s.set [u] (.box ds)):=by
 simp [sw1,hk,hs,hw,hd,hz,hl]
def rc1(T:Tys)(s:St)(t:Tmp)(ty:TypeId):D→Option (D×St)
 | .box xs=>if T.isStruct ty then(if xs.length=T.size ty then td1 (FV Pm.all (s.clr t) xs)else none)else(match xs with| [d]=>CR Pm.all (s.clr t) d|_=>none)
 | .cptr xs=>if T.isStruct ty then(if xs.length=T.size ty then some (.agg xs,s)else none)else(match xs with| [d]=>some (d,s)|_=>none)
 |_=>none
theorem A6v(u:Tmp)(hk:T.known ty=true):Yg T s (.cell u ty)=rc1 T s u ty (s.v u):=by
 simp only [Yg,hk,if_true,rc1]
 cases s.v u with
 |box xs=>
  simp only;split
  ·split
   ·cases FV Pm.all (s.clr u) xs<;>rfl
   ·rfl
  ·rfl
 |_=>rfl
theorem AIX(u:Tmp)(xs:List D)(hs:T.isStruct ty=true)(hl:xs.length=T.size ty):rc1 T s u ty (.box xs)=td1 (FV Pm.all (s.clr u) xs):=by simp [rc1,hs,hl]
def cp1(pm:Pm)(s:St)(u:Tmp)(rest:List Operand):D→Option (List D×St)
 | .box xs=>match Ed xs with
  |some ys=>if pm.wr u then(Oj pm (s.set [u] (.cptr ys)) rest).map fun r=>(.cptr ys::r.1,r.2)else none
  |none=>none
 | .cptr ys=>(Oj pm s rest).map fun r=>(.cptr ys::r.1,r.2)
 |_=>none
theorem AC9:Oj pm s []=some ([],s):=nr rfl
theorem ACA(u:Tmp)(rest:List Operand):Oj pm s (.tmp u::rest)=cp1 pm s u rest (s.v u):=by
 simp only [Oj]
 cases s.v u<;>rfl
def cp2(pm:Pm)(s:St)(u:Tmp)(rest:List Operand):Option (List D)→Option (List D×St)
 |some ys=>if pm.wr u then(Oj pm (s.set [u] (.cptr ys)) rest).map fun r=>(.cptr ys::r.1,r.2)else none
 |none=>none
theorem AIa(u:Tmp)(rest:List Operand)(xs:List D):cp1 pm s u rest (.box xs)=cp2 pm s u rest (Ed xs):=by
 simp only [cp1];cases Ed xs<;>rfl
theorem AIb(u:Tmp)(rest:List Operand)(ys:List D)(hw:pm.wr u=true):cp2 pm s u rest (some ys)=(Oj pm (s.set [u] (.cptr ys)) rest).map fun r=>(.cptr ys::r.1,r.2):=by simp [cp2,hw]
def clN(E:Env)(pm:Pm)(s:St)(dst:Option Tmp)(args:Array Operand)(ts:Array TypeId):D→Option St
 | .clo f caps=>if args.size=ts.size then IM E pm s dst f (args.toList.zip ts.toList) caps else none
 | .ocl false f caps=>if args.size=ts.size then Ol E pm s dst f (args.toList.zip ts.toList) caps else none
 |_=>none
theorem A6w(u:Tmp)(args:Array Operand)(ts:Array TypeId):Ph E pm s dst (.call ⟨.value (.tmp u),args,ts⟩) ty=clN E pm s dst args ts (s.v u):=by
 rw [wZ];cases s.v u<;>first|rfl|(rename_i b _ _;cases b<;>rfl)
theorem AIc(args:Array Operand)(ts:Array TypeId)(f':FuncId)(caps:List D)(h:args.size=ts.size):clN E pm s dst args ts (.clo f' caps)=IM E pm s dst f' (args.toList.zip ts.toList) caps:=by simp [clN,h]
def mf0(f:FuncId)(dst:Option Tmp):Option (List D×St)→Option St
 |some r=>some (r.2.putO dst (.clo f r.1))
 |none=>none
theorem AId(g:FuncId)(xs:List D):mf0 g dst (some (xs,s))=some (s.putO dst (.clo g xs)):=nr rfl
def mfV(f:FuncId)(dst:Option Tmp):Option (List D×St)→Option St
 |some r=>some (r.2.putO dst (.ocl false f r.1))
 |none=>none
theorem AIe(g:FuncId)(xs:List D):mfV g dst (some (xs,s))=some (s.putO dst (.ocl false g xs)):=nr rfl
theorem yMf(g:FuncId)(captured:Array Operand):Ph E pm s dst (.makeFunc (.func g) #[] captured) ty=if ty<3000000 then mf0 g dst (Oj pm s captured.toList)else mfV g dst (Yb pm s (ty-3000000) captured.toList):=by
 rw [iM];simp only [List.isEmpty_toArray,List.isEmpty_nil,if_true];by_cases h:ty<3000000
 ·rw [if_pos h,if_pos h]
  cases Oj pm s captured.toList<;>rfl
 ·rw [if_neg h,if_neg h]
  cases Yb pm s (ty-3000000) captured.toList<;>rfl
def cvp(l:List Operand):Option (List D×St)→Option (List D×St)
 |none=>none
 |some (_,s1)=>(SH s1 l).map fun ds=>(ds,s1)
theorem cvE(m:Nat)(l:List Operand):Yb pm s m l=cvp l (Oj pm s (KX m 0 l)):=by
 unfold Yb cvp;rcases Oj pm s (KX m 0 l)with _|⟨ys,s1⟩<;>rfl
def cvq(s:St):Option (List D)→Option (List D×St)
 |some ds=>some (ds,s)
 |none=>none
theorem AIf(l:List Operand)(ys:List D):cvp l (some (ys,s))=cvq s (SH s l):=by
 simp only [cvp];cases SH s l<;>rfl
theorem AIg(ds:List D):cvq s (some ds)=some (ds,s):=nr rfl
theorem umN(m i:Nat):KX m i []=[]:=nr rfl
theorem umC(m i:Nat)(x:Operand)(xs:List Operand):KX m i (x::xs)=if m / 2 ^ i % 2=1 then KX m (i+1) xs else x::KX m (i+1) xs:=by
 rw [KX,Nat.testBit_eq_decide_div_mod_eq];by_cases h:m / 2 ^ i % 2=1<;>simp [h]
def ce1(s:St)(u:Tmp)(r:Option (List D)):D→Option (List D)
 | .box _=>r.map (qN s [u]:: ·)
 | .cptr ys=>r.map (.cptr ys:: ·)
 |_=>none
theorem ceN:SH s []=some []:=nr rfl
theorem ceT(u:Tmp)(rest:List Operand):SH s (.tmp u::rest)=ce1 s u (SH s rest) (s.v u):=by
 simp only [SH]
 cases s.v u<;>rfl
theorem AIi(u:Tmp)(l xs:List D):ce1 s u (some l) (.box xs)=some (qN s [u]::l):=nr rfl
theorem AIj(u:Tmp)(l ys:List D):ce1 s u (some l) (.cptr ys)=some (.cptr ys::l):=nr rfl
def A6x(T:Tys)(pm:Pm)(s:St)(t:TypeId)(t0:Tmp):D→D→Option St
 | .box [_],.ocl false f xs=>if T.known t&& !T.isStruct t&&(T.size t==1)&&pm.rd t0&&pm.wr t0 then some (s.set [t0] (.ocl true f (xs.map (Ke s t0))))else none
 |_,_=>none
theorem AIk(T:Tys)(t0 u:Tmp):XM T pm s t (.tmp t0) (.tmp u)=A6x T pm s t t0 (s.v t0) (s.v u):=by
 show(match s.v t0,s.v u with
  | .box [_],.ocl false f xs=>if T.known t&& !T.isStruct t&&(T.size t==1)&&pm.rd t0&&pm.wr t0 then some (s.set [t0] (.ocl true f (xs.map (Ke s t0))))else none
  |_,_=>none)=_
 rfl
theorem AIl(T:Tys)(t0:Tmp)(x:D)(f:FuncId)(xs:List D)(hk:T.known t=true)(hs:T.isStruct t=false)(hz:T.size t=1)(hr:pm.rd t0=true)(hw:pm.wr t0=true):
  A6x T pm s t t0 (.box [x]) (.ocl false f xs)=some (s.set [t0] (.ocl true f (xs.map (Ke s t0)))):=by simp [A6x,hk,hs,hz,hr,hw]
theorem utV(t0 r n m:Nat):Ke s t0 (.vw [r] n m)=if r=t0 then(if n=s.k t0 then .undef else .vw [r] n m)else .vw [r] n m:=by
 unfold Ke;by_cases h:r=t0<;>by_cases h2:n=s.k t0<;>simp [h,h2]
theorem utC(t0:Nat)(ys:List D):Ke s t0 (.cptr ys)= .cptr ys:=nr rfl
theorem ldO(T:Tys)(x:Operand)(f:FuncId)(xs:List D)(hk:T.known t=true)(hs:T.isStruct t=false):Gg T pm s t x (.ocl true f xs)=some (.ocl false f xs):=by simp [Gg,hk,hs]
def co2(E:Env)(pm:Pm)(s:St)(dst:Option Tmp)(f:FuncId)(as:List D)(ls:List (A9×D)):Option (List D×List (A9×D))→Option St
 |none=>none
 |some (cs,lc)=>
  if Ev ((ls++lc).map (·.1))&&(ls++lc).all (fun l=>pm.wr (l.1.headD 0))&&(ls++lc).all (fun l=>lV l.2)then
   cl2 s dst (ls++lc) (E.call f (as++cs.map (L8 f cs)) ((ls++lc).map (·.2)))
  else none
def co1(E:Env)(pm:Pm)(s:St)(dst:Option Tmp)(f:FuncId)(caps:List D):Option (List D×List (A9×D))→Option St
 |none=>none
 |some (as,ls)=>co2 E pm s dst f as ls (DY pm s ls.length caps)
theorem coE(f:FuncId)(xs:List (Operand×TypeId))(caps:List D):Ol E pm s dst f xs caps=co1 E pm s dst f caps (Dm E true pm s 0 xs):=by
 unfold Ol co1;rcases Dm E true pm s 0 xs with _|⟨as,ls⟩
 ·rfl
 ·simp only;unfold co2;rcases DY pm s ls.length caps with _|⟨cs,lc⟩
  ·rfl
  ·simp only;split
   ·unfold cl2;rcases E.call f (as++cs.map (L8 f cs)) ((ls++lc).map (·.2))with _|⟨r,o⟩<;>rfl
   ·rfl
theorem AIn(f:FuncId)(caps as:List D)(ls:List (A9×D)):co1 E pm s dst f caps (some (as,ls))=co2 E pm s dst f as ls (DY pm s ls.length caps):=nr rfl
theorem AIo(f:FuncId)(as cs:List D)(ls lc:List (A9×D))(h:(Ev ((ls++lc).map (·.1))&&(ls++lc).all (fun l=>pm.wr (l.1.headD 0))&&(ls++lc).all (fun l=>lV l.2))=true):
  co2 E pm s dst f as ls (some (cs,lc))=cl2 s dst (ls++lc) (E.call f (as++cs.map (L8 f cs)) ((ls++lc).map (·.2))):=by simp only [co2,h,if_true]
def oaJ(a:D)(l:List (A9×D)):Option (List D×List (A9×D))→Option (List D×List (A9×D))
 |some r=>some (a::r.1,l++r.2)
 |none=>none
theorem AIp(a:D)(l:List (A9×D))(r:List D)(m:List (A9×D)):oaJ a l (some (r,m))=some (a::r,l++m):=nr rfl
def oa1(pm:Pm)(s:St)(j:Nat)(L:A9)(rest:List D):Option D→Option (List D×List (A9×D))
 |some c=>oaJ (.vw [G+j] 0 0) [(L,c)] (DY pm s (j+1) rest)
 |none=>none
theorem AIr(j:Nat)(L:A9)(rest:List D)(c:D):oa1 pm s j L rest (some c)=oaJ (.vw [G+j] 0 0) [(L,c)] (DY pm s (j+1) rest):=nr rfl
theorem oaN(j:Nat):DY pm s j []=some ([],[]):=nr rfl
theorem oaV(j:Nat)(L:A9)(n m:Nat)(rest:List D):DY pm s j (.vw L n m::rest)=oa1 pm s j L rest (s.look pm L n m):=by
 rw [DY]
 cases s.look pm L n m with
 |none=>rfl
 |some c=>simp only [oa1];rcases DY pm s (j+1) rest with _|⟨a,b⟩<;>rfl
theorem oaC(j:Nat)(ys rest:List D):DY pm s j (.cptr ys::rest)=oaJ (.cptr ys) [] (DY pm s j rest):=by
 rw [DY];rcases DY pm s j rest with _|⟨a,b⟩<;>rfl
theorem oaU(j:Nat)(rest:List D):DY pm s j (.undef::rest)=oaJ .undef [] (DY pm s j rest):=by
 rw [DY];rcases DY pm s j rest with _|⟨a,b⟩<;>rfl
theorem saU(f:FuncId)(cs:List D):L8 f cs .undef= .ocl true f cs:=nr rfl
theorem saV(f:FuncId)(cs:List D)(L:A9)(n m:Nat):L8 f cs (.vw L n m)= .vw L n m:=nr rfl
theorem saC(f:FuncId)(cs ys:List D):L8 f cs (.cptr ys)= .cptr ys:=nr rfl
theorem AIs(args:Array Operand)(ts:Array TypeId)(f':FuncId)(caps:List D)(h:args.size=ts.size):clN E pm s dst args ts (.ocl false f' caps)=Ol E pm s dst f' (args.toList.zip ts.toList) caps:=by simp [clN,h]
def bn1(dflt:Nat):Option D→Option Nat
 |some (.int _ n)=>if 0≤n then some n.toNat else none
 |_=>none
theorem bnN(n:Nat):UA T s n none=some n:=nr rfl
theorem bnS(n:Nat)(x:Operand):UA T s n (some x)=bn1 n (ev T s 0 x):=by
 simp only [UA];rcases ev T s 0 x with _|d
 ·rfl
 ·cases d<;>rfl
theorem AIu(n:Nat)(k:IntKind)(i:Int)(h:0≤i):bn1 n (some (.int k i))=some i.toNat:=by simp [bn1,h]
def sl0(T:Tys)(pm:Pm)(s:St)(x:Operand)(d:D)(lo hi mx:Option Operand):Ty→Option (D×St)
 | .slice e'=>match Dt pm s x d with
  |none=>none
  |some (e,xs,o)=>
   match UA T s 0 lo,UA T s (T.len e xs) hi with
   |some l,some h=>
    if e'=e∧T.known e=true∧l≤h∧h≤T.len e xs then
     if mx.isSome then
      match UA T s 0 mx with
      |some q=>if l=h∧h=q∧hi.isSome=true then some (.own e [],s)else none
      |none=>none
     else match o with
      |none=>some (.sl e ((xs.take (h*T.size e)).drop (l*T.size e)),s)
      |some (L,va,vb)=>
       if pm.wr (L.headD 0)then
        match Ed xs with
        |some ys=>some (.sl e ((ys.take (h*T.size e)).drop (l*T.size e)),s.set L (.sl e ys))
        |none=>none
       else YX L va vb e l h s
    else none
   |_,_=>none
 | .string=>match d with
  | .str b=>match UA T s 0 lo,UA T s b.size hi with
   |some l,some h=>if l≤h∧h≤b.size∧mx.isNone then some (.str (b.extract l h),s)else none
   |_,_=>none
  |_=>none
 |_=>none
theorem slT(x:Operand)(d:D)(lo hi mx:Option Operand):Jv T pm s t x d lo hi mx=sl0 T pm s x d lo hi mx (T.ty t):=by
 unfold Jv sl0
 cases T.ty t<;>first|rfl|(cases d<;>rfl)
def sl1(T:Tys)(pm:Pm)(s:St)(e:TypeId)(xs:List D)(o:Option (A9×Nat×Nat)):Option Nat→Option Nat→Option (D×St)
 |some l,some h=>
  if l≤h∧h≤xs.length then
   match o with
   |none=>some (.sl e ((xs.take h).drop l),s)
   |some (L,va,vb)=>
    if pm.wr (L.headD 0)then
     match Ed xs with
     |some ys=>some (.sl e ((ys.take h).drop l),s.set L (.sl e ys))
     |none=>none
    else YX L va vb e l h s
  else none
 |_,_=>none
def sl2(T:Tys)(pm:Pm)(s:St)(e':TypeId)(lo hi:Option Operand):Option (TypeId×List D×Option (A9×Nat×Nat))→Option (D×St)
 |some (e,xs,o)=>if e'=e∧T.known e=true then sl1 T pm s e xs o (UA T s 0 lo) (UA T s xs.length hi)else none
 |none=>none
theorem AIv(x:Operand)(d:D)(lo hi:Option Operand)(e:TypeId)(hz:T.isStruct e=false):sl0 T pm s x d lo hi none (.slice e)=sl2 T pm s e lo hi (Dt pm s x d):=by
 have h1:=Qa hz;simp only [sl0,sl2,Option.isSome_none,O5,if_false];rcases Dt pm s x d with _|⟨e',xs,o⟩
 ·rfl
 ·simp only;by_cases he:e=e'
  ·subst he;simp only [true_and,h1,Lu,Tys.len,if_true]
   cases UA T s 0 lo<;>cases UA T s xs.length hi<;>simp only [sl1]<;>(by_cases hk:T.known e=true<;>simp [hk])
  ·simp only [he,false_and,if_false]
   cases UA T s 0 lo<;>cases UA T s (T.len e' xs) hi<;>rfl
theorem AIw(e:TypeId)(lo hi:Option Operand)(xs:List D)(o:Option (A9×Nat×Nat))(hk:T.known e=true):sl2 T pm s e lo hi (some (e,xs,o))=sl1 T pm s e xs o (UA T s 0 lo) (UA T s xs.length hi):=by simp [sl2,hk]
theorem AIx(e:TypeId)(xs:List D)(l h:Nat)(h1:l≤h)(h2:h≤xs.length):sl1 T pm s e xs none (some l) (some h)=some (.sl e ((xs.take h).drop l),s):=by simp [sl1,h1,h2]
def sl3(pm:Pm)(s:St)(e:TypeId)(L:A9)(a b l h:Nat)(o:Option (List D)):Option (D×St):=
 if pm.wr (L.headD 0)then
  match o with
  |some ys=>some (.sl e ((ys.take h).drop l),s.set L (.sl e ys))
  |none=>none
 else YX L a b e l h s
theorem AIz(e:TypeId)(xs:List D)(L:A9)(a b l h:Nat)(h1:l≤h)(h2:h≤xs.length):sl1 T pm s e xs (some (L,a,b)) (some l) (some h)=sl3 pm s e L a b l h (Ed xs):=by
 simp only [sl1,h1,h2,and_self,if_true];rfl
theorem AJ0(e:TypeId)(L:A9)(a b l h:Nat)(o:Option (List D))(hw:pm.wr (L.headD 0)=false):sl3 pm s e L a b l h o=some (.vs e L a b l (h-l),s):=by simp only [sl3];rw [if_neg (by rw [hw];decide)];rfl
theorem ACD(r:Nat):pm.see.rd r=pm.rd r:=nr rfl
theorem ACE(r:Nat):pm.see.wr r=false:=nr rfl
theorem AJ1(u:Tmp):wrO pm (.tmp u)=pm.wr u:=nr rfl
def ct2(e:TypeId)(xs:List D)(s1:St):Option Nat→Option (D×St)
 |some h=>if h≤xs.length then some (.own e (xs.take h),s1)else none
 |none=>none
def ct1(T:Tys)(s:St)(e':TypeId)(hi:Option Operand):Option (D×St)→Option (D×St)
 |some (.own e xs,s1)=>
  match UA T s (T.len e xs) hi with
  |some h=>if e'=e∧T.known e=true∧h≤T.len e xs then some (.own e (xs.take (h*T.size e)),s1)else none
  |none=>none
 |_=>none
def ct0(T:Tys)(pm:Pm)(s:St)(t:TypeId)(x:Operand)(hi:Option Operand):Ty→Option (D×St)
 | .slice e=>ct1 T s e hi (if wrO pm x then take T pm s t x else none)
 |_=>none
theorem ctT(x:Operand)(hi:Option Operand):SF T pm s t x hi=ct0 T pm s t x hi (T.ty t):=by
 unfold SF ct0 ct1
 cases T.ty t<;>rfl
theorem AJ2(x:Operand)(hi:Option Operand)(e:TypeId)(hw:wrO pm x=true):ct0 T pm s t x hi (.slice e)=ct1 T s e hi (take T pm s t x):=by
 unfold ct0;rw [if_pos hw]
theorem AJ3(hi:Option Operand)(e:TypeId)(xs:List D)(s1:St)(hk:T.known e=true)(hz:T.isStruct e=false):ct1 T s e hi (some (.own e xs,s1))=ct2 e xs s1 (UA T s xs.length hi):=by
 have h1:=Qa hz;simp only [ct1,hk,true_and,h1,Lu,Tys.len,if_true]
 cases UA T s xs.length hi<;>rfl
theorem AJ4(e:TypeId)(xs:List D)(s1:St)(h:Nat)(hle:h≤xs.length):ct2 e xs s1 (some h)=some (.own e (xs.take h),s1):=by
 show(if h≤xs.length then some (D.own e (xs.take h),s1)else none)=_
 rw [if_pos hle]
def ca0(f:FuncId):Option (List D×List (A9×D))→Option (D×List (A9×D))
 |some r=>some (.clo f r.1,r.2)
 |none=>none
theorem AJ6(f:FuncId)(cs:List D)(ls:List (A9×D)):ca0 f (some (cs,ls))=some (.clo f cs,ls):=nr rfl
def ca2(pm:Pm)(s:St)(L:A9)(c:D)(rest:List D):Option D→Option (List D×List (A9×D))
 |some c'=>oaJ c' [(L,c)] (Oi pm s rest)
 |none=>none
theorem AJ7(L:A9)(c:D)(rest:List D)(c':D):ca2 pm s L c rest (some c')=oaJ c' [(L,c)] (Oi pm s rest):=nr rfl
def ca1(pm:Pm)(s:St)(L:A9)(rest:List D):Option D→Option (List D×List (A9×D))
 |some c=>ca2 pm s L c rest (Dr c)
 |none=>none
theorem AJ9(L:A9)(rest:List D)(c:D):ca1 pm s L rest (some c)=ca2 pm s L c rest (Dr c):=nr rfl
theorem caN:Oi pm s []=some ([],[]):=nr rfl
theorem caV(L:A9)(n m:Nat)(rest:List D):Oi pm s (.vw L n m::rest)=ca1 pm s L rest (s.look pm L n m):=by
 rw [Oi]
 cases s.look pm L n m with
 |none=>rfl
 |some c=>
  simp only [ca1,ca2]
  cases Dr c with
  |none=>rfl
  |some c'=>simp only [Bl];rcases Oi pm s rest with _|⟨a,b⟩<;>rfl
theorem caC(ys rest:List D):Oi pm s (.cptr ys::rest)=oaJ (.cptr ys) [] (Oi pm s rest):=by
 rw [Oi];rcases Oi pm s rest with _|⟨a,b⟩<;>rfl
theorem ACG(T:Tys)(L0:A9)(j:Nat)(f:FuncId)(caps:List D):Nb T false pm s j L0 (.ocl false f caps)=ca0 f (Oi pm s caps):=by
 show(if(false||false)=true then none else(Oi pm s caps).map fun r=>(D.clo f r.1,r.2))=_
 rw [if_neg (by decide)]
 unfold ca0;rcases Oi pm s caps with _|⟨a,b⟩<;>rfl
def va1(T:Tys)(e:TypeId)(L:A9)(lo len:Nat):Option D→Option (D×List (A9×D))
 |some (.own e' xs)=>
  if e'=e∧T.known e=true∧(lo+len)*T.size e≤xs.length then
   (Ed xs).map fun ys=>(.sl e ((ys.drop (lo*T.size e)).take (len*T.size e)),[(L,.own e' xs)])
  else none
 |_=>none
theorem AJA(e:TypeId)(L L0:A9)(n m lo len j:Nat):Nb T false pm s j L0 (.vs e L n m lo len)=va1 T e L lo len (s.look pm L n m):=by
 show dS T pm s e L n m lo len=_
 unfold dS va1;rcases s.look pm L n m with _|d
 ·rfl
 ·cases d<;>rfl
theorem A6z(x:Tmp):Ph E pm s dst (.call ⟨.builtin .clear, #[.tmp x], #[t]⟩) ty=iL dst (OL E.T pm s t (.tmp x) (s.v x)):=QZ dst _
def A2k(T:Tys)(pm:Pm)(s:St)(t:TypeId):Option (TypeId×A9×List D×Nat×Nat)→Option (D×St)
 |some (e,L,xs,lo,len)=>
  if T.isSl t e&&T.known e&&(T.size e==1)&& !T.isStruct e&&D9 (T.zero1 e)&&pm.wr (L.headD 0)then
   some (.tup [],(s.set L (.own e (CS xs lo (List.replicate len (T.zero1 e))))).bump (L.headD 0))
  else none
 |none=>none
theorem AJB(x:Operand)(a:D):OL T pm s t x a=A2k T pm s t (bJ pm s x a):=by
 unfold OL A2k;rcases bJ pm s x a with _|⟨_,_,_,_,_⟩<;>rfl
theorem AJC(e:TypeId)(L:A9)(xs:List D)(lo len:Nat)(h1:T.isSl t e=true)(h2:T.known e=true)(h3:T.isStruct e=false)(h5:D9 (T.zero1 e)=true)(h7:pm.wr (L.headD 0)=true):
  A2k T pm s t (some (e,L,xs,lo,len))=some (.tup [],(s.set L (.own e (CS xs lo (List.replicate len (T.zero1 e))))).bump (L.headD 0)):=by
 have h8:=Qa h3;unfold A2k;dsimp only;rw [if_pos (by rw [h1,h2,h3,h5,h7,h8];simp)]
def A70(e:TypeId):Ty→Bool
 | .slice e'=>e'==e
 |_=>false
theorem AJD(e:TypeId):T.isSl t e=A70 e (T.ty t):=by unfold Tys.isSl A70;cases T.ty t<;>rfl
theorem AJE(e e':TypeId):A70 e (.slice e')=(e'==e):=nr rfl
def dv1(e:TypeId)(L:A9)(lo len:Nat):Option D→Option (TypeId×A9×List D×Nat×Nat)
 |some (.own e' xs)=>if e'=e∧lo+len≤xs.length then some (e,L,xs,lo,len)else none
 |_=>none
theorem dvS(x:Operand)(e:TypeId)(L:A9)(n m lo len:Nat):bJ pm s x (.vs e L n m lo len)=dv1 e L lo len (s.look pm L n m):=by
 show(match s.look pm L n m with|some (.own e' xs)=>if e'=e∧lo+len≤xs.length then some (e,L,xs,lo,len)else none|_=>none)=_
 rcases s.look pm L n m with _|d
 ·rfl
 ·cases d<;>rfl
theorem AJG(e:TypeId)(L:A9)(lo len:Nat)(xs:List D)(h:lo+len≤xs.length):dv1 e L lo len (some (.own e xs))=some (e,L,xs,lo,len):=by simp [dv1,h]
theorem AJH(x:Tmp)(e:TypeId)(L:A9)(n m lo len:Nat):Cf s dst (.tmp x) (.vs e L n m lo len)=s.putO dst (.vs e L n m lo len):=nr rfl
theorem ACH(x:Tmp)(e:TypeId)(L:A9)(n m lo len:Nat):iQ pm x (.vs e L n m lo len)=true:=by simp [iQ,D.hasObj]
end
theorem ru{P:Program}{T:Tys}{f:FuncId}{e:TypeId}{r:D}{outs:List D}(hk:T.known e=true)(h: ∀A c,Good P T f [.konst (.slice A 0 c)] [] r outs):Good P T f [.sl e []] [] r outs:=by
 refine⟨(h none 0).1,fun vs gh w S FL hsz hA hL hL0 hLd hlt=> ?_⟩
 obtain⟨v,hv,hW⟩:=hA 0 _ rfl
 obtain⟨A,c,rfl⟩: ∃A c,v= .slice A 0 c:=by
  cases hW with
  |sl us hE hn hc hm hx hw=>
   rename_i A n c
   have hp:=nI hk
   have:n=0:=by
    simp only [SB]at hn;rcases Nat.mul_eq_zero.1 hn.symm with h0|h0
    ·exact h0
    ·omega
   subst this
   exact⟨_,_,rfl⟩
 refine(h A c).2 vs gh w S FL hsz (fun i d hi=> ?_) hL hL0 hLd hlt
 cases i with
 |zero=>simp at hi;subst hi;exact⟨_,hv,.konst (fun _ h=>h)⟩
 |succ i=>simp at hi
end Dv
namespace Dv
open Go
set_option maxRecDepth 10000
set_option linter.defProp false
theorem geq:G=100000:=nr rfl
def AB:=A7 @A6z (A7 @AGa (A7 @AG1 (A7 @AG2 (A7 @A5g (A7 @AIH (A7 @yMf (A7 @A6w (A7 @AG8 (A7 @A9h (A7 @AG6 (A7 @A5n (A7 @A9i (A7 @A9l (A7 @A5o (A7 @A9f (A7 @A9g (A7 @AG5 (A7 @A5p (A7 @A5q (A7 @A5r (A7 @AGA (A7 @AGB (A7 @AGC (A7 @A9m (A7 @A9n (A7 @rW (A7 @nM (A7 @AAH (A7 @A2W (A7 @zq (A7 @A60 (A7 @AAI (A7 @yUn (A7 @A61 (A7 @AGZ (A7 @zt (A7 @A62 (A7 @A2X (A7 @A63 (A7 @AAL (A7 @zu (A7 @AAN (A7 @zf (A7 @wY (A7 @wW (A7 @A6p (A7 @yBs (@iO))))))))))))))))))))))))))))))))))))))))))))))))
def BC:=A7 @AGh (A7 @AGi (A7 @AGf (A7 @AGp (A7 @AI3 (A7 @A6G (A7 @faE (A7 @foN (A7 @AI9 (A7 @AIA (A7 @AC1 (A7 @A6q (A7 @AID (A7 @AIE (A7 (A7 @fnO @fnA) (A7 @spN (A7 @spC (A7 @AIe (A7 @cvE (A7 @AIf (A7 @AIg (A7 @umN (A7 @umC (A7 @ceN (A7 @ceT (A7 @AIi (A7 @AIj (A7 @AIk (A7 @AIl (A7 @utV (A7 @utC (A7 @ldO (A7 @coE (A7 @AIn (A7 @AIo (A7 @AIp (A7 @AIr (A7 @oaN (A7 @oaV (A7 @oaC (A7 @oaU (A7 @saU (A7 @saV (A7 @saC (A7 @AIs (A7 @AGW (A7 @AGX (A7 @AGY (A7 @AJB (A7 @AJC (A7 @A2b (A7 @A6F (A7 @AHA (A7 @AHB (A7 @AAW (A7 @A66 (A7 @AAX (A7 @AAY (A7 @AAZ (A7 @AAa (A7 @A67 (A7 @AAb (A7 @AAc (A7 @AAd (A7 @AAe (A7 @AJ0 (A7 @AGS (A7 @AGT (A7 @ACD (A7 @ACE (A7 @AJ1 (A7 @ctT (A7 @AJ2 (A7 @AJ3 (A7 @AJ4 (A7 (A7 @AJA (A7 @ACG (A7 @AJ6 (A7 @AJ9 (A7 @AJ7 (A7 @caN (A7 @caV @caC))))))) (A7 @ABG (A7 @A6L (A7 @AHV (A7 @ABH (A7 @A6M (A7 @axK (A7 @ABJ (A7 @ABK (A7 @AHW (A7 @ABL (A7 @AJD (A7 @AJE (A7 @dvS (A7 @AJG (A7 @AJH (A7 @ACH (A7 @AGI (A7 @AGJ (A7 @AGK (A7 @AA3 (A7 @AA4 (A7 @AA5 (A7 @ABk (A7 @ABl (A7 @A6d (A7 @AHu (A7 @ABm (A7 @ABn (A7 @ABo (A7 @AHv (A7 @bkK (A7 @AC3 (A7 (A7 @A6u @AII) (A7 @AC4 (A7 @A9U (A7 @AG3 (A7 @AG4 (A7 @ndK (A7 @AGb (A7 @AAJ (A7 @apK (A7 @ABD (A7 @AHN (A7 @AHO (A7 @ABW (A7 @A6T (A7 @dl2 (A7 @dl1 (A7 @AIU (A7 @AC8 (A7 @AIS (A7 @AIT (A7 @AIJ (A7 @AIK (A7 @AIM (A7 @AC5 (A7 @AIN (A7 @AIO (A7 @AIP (A7 @csS (A7 @rg4 (A7 @rg5 (A7 @AC6 (A7 @AIQ (A7 @AC7 (A7 @AIR (A7 @noA (A7 @AIV (A7 @AIW (A7 @A6v (A7 @AIX (A7 @AC9 (A7 @ACA (A7 @AIa (A7 @AIb (A7 @AIc (A7 @AId (A7 @bnN (A7 @bnS (A7 @AIu (A7 @slT (A7 @AIv (A7 @AIw (A7 @AIx (A7 @AIz (A7 @ABp (A7 @bkT (A7 @bkF (A7 @bkE (A7 @bkL (A7 @ABq (A7 @A6e (A7 @ipC (A7 @ipN (A7 @ipE (A7 @ieC (A7 @ieN (A7 @fiA (A7 @fiB (A7 @A6a (A7 @A6b (A7 @AHp (A7 @AHC (A7 @AHD (A7 @AHE (A7 @AHF (A7 @bxA (A7 @AHH (A7 @hdC (A7 @AHS (A7 @AHT (A7 @AHU (A7 @mvT (A7 @AHy (A7 @A6g (A7 @A2d (A7 @ABs (A7 @A6h (A7 @A6i (A7 @ABt (A7 @A2e (A7 @A6j (A7 @zx (A7 @A6k (A7 @A2f (A7 @ABu (A7 @A2g (A7 @AHz (A7 @A6l (A7 @A2h (A7 @ABv (A7 @AI0 (A7 @AI1 (A7 @AI2 (A7 @AI4 (A7 @AI5 (A7 @AI6 (A7 @A6m (A7 @pmR (A7 @pmW (A7 @AG7 (A7 @A9j (A7 @AG9 (A7 @AFx (A7 @AFy (A7 @AFz (A7 @AIB (A7 @AI8 (A7 @AI7 (A7 (A7 @AIF @yMk) (A7 (A7 @AC2 @AIG) (A7 @ABx (A7 @ABy (A7 @A5h (A7 @A5i (A7 @A2R (A7 @A5j (A7 @A9o (A7 @A5s (A7 @AGD (A7 @A2V (A7 @A9p (A7 @A9q (A7 @AGE (A7 @A5t (A7 @A9r (A7 @A9s (A7 @A9t (A7 @A5u (A7 @A9u (A7 @A5v (A7 @AGF (A7 @A9v (A7 @A9w (A7 @A5w (A7 @A9x (A7 @A5x (A7 @A9y (A7 @A5y (A7 @AGG (A7 @A9z (A7 @AA0 (A7 @AA1 (A7 @AA2 (A7 @AA6 (A7 @pkB (A7 @pkT (A7 @pkF (A7 @A9R (A7 @A9S (A7 @A9T (A7 @AGc (A7 @AGd (A7 @AGg (A7 @AA7 (A7 @AA8 (A7 @AA9 (A7 @AAA (A7 @AAB (A7 @AAC (A7 @AGL (A7 @AAD (A7 @AAE (A7 @AGM (A7 @AGN (A7 @AGO (A7 @AGP (A7 @AGQ (A7 @AGR (A7 @AAF (A7 @AAG (A7 @boI (A7 @boB (A7 @ldC (A7 @AGj (A7 @ldP (A7 @ldB (A7 @AGk (A7 @ldV (A7 @AAO (A7 @AAQ (A7 @A64 (A7 @A65 (A7 @AAR (A7 @AGl (A7 @AAS (A7 @AGm (A7 @AAU (A7 @AAV (A7 @lnT (A7 @AGq (A7 @AAf (A7 @ixT (A7 @AGs (A7 @AGu (A7 @AAg (A7 @tkC (A7 @AAl (A7 @A6B (A7 @AGz (A7 @AAm (A7 @AAn (A7 @AAo (A7 @A6C (A7 @AH0 (A7 @AAp (A7 @AAh (A7 @AGv (A7 @AAi (A7 @AGw (A7 @AGx (A7 @AGy (A7 @A6A (A7 @A2a (A7 @A6D (A7 @uY (A7 @hoI (A7 @hoB (A7 @AAq (A7 @AAr (A7 @AAs (A7 @AH1 (A7 @AAt (A7 @AAu (A7 @AAv (A7 @AH3 (A7 @AAw (A7 @AH4 (A7 @AH5 (A7 @AH6 (A7 @AH7 (A7 @AAx (A7 @AAy (A7 @AAz (A7 @AB0 (A7 @AB1 (A7 @AB2 (A7 @AB3 (A7 @AB4 (A7 @A6E (A7 @AHI (A7 @AB5 (A7 @AB6 (A7 @AB7 (A7 @AB8 (A7 @AB9 (A7 @A6H (A7 @AHJ (A7 @ABA (A7 @ceS (A7 (A7 @A6I @AHK) (A7 @AHL (A7 @AHQ (A7 @AHR (A7 @A6J (A7 @A6K (A7 @ABE (A7 @ABF (A7 @arC (A7 @arF (A7 @aCS (A7 @ABM (A7 @A6N (A7 @AHX (A7 @ABN (A7 @A6O (A7 @atK (A7 @ABP (A7 @ABQ (A7 @AHb (A7 @A6P (A7 @ABR (A7 @ABS (A7 @AHY (A7 @AHa (A7 @AHc (A7 @AHd (A7 @A6Q (A7 @ABT (A7 @A6R (A7 @ABU (A7 @A6S (A7 @AHe (A7 @ABV (A7 @AHf (A7 @cdB (A7 @AHg (A7 @AHh (A7 @AHi (A7 @cdL (A7 @AHj (A7 @AHk (A7 @ABX (A7 @A6V (A7 @ABY (A7 @ABZ (A7 @ABa (A7 @A6W (A7 @A2c (A7 @ABb (A7 @A6X (A7 @AHl (A7 @ABc (A7 @A6Y (A7 @AHm (A7 @A3Y (A7 @ABe (A7 @ABf (A7 @ABg (A7 @A6Z (A7 @AHn (A7 @uZ (A7 @AHo (A7 @fiD (A7 @fi0 (A7 @re0 (A7 @re1 (A7 @re2 (A7 @AHq (A7 @ABh (A7 @ABi (A7 @AHr (A7 @A6c (A7 @AHs (A7 @AHt (A7 @ABj (A7 @ABr (A7 @A6f (A7 @AHx (A7 @A9V (A7 @A9Y (A7 @A5k (A7 @A9b (A7 @A9W (A7 @A9Z (A7 @A5l (A7 @A9c (A7 @A9X (A7 @A9a (A7 @A5m (A7 @A9d (A7 @wh (A7 @wm (A7 @A9e (A7 @wo (A7 @zm (A7 @A2S (A7 @A2T (A7 @A2U (A7 @geq (A7 @Int.toNat_natCast (A7 @Int.toNat_zero (A7 @Int.natCast_nonneg (A7 @Nat.zero_le (A7 @Int.le_refl (A7 @Nat.le_refl (A7 @Bool.and_true (A7 @Bool.true_and (A7 @Bool.and_false (A7 @Bool.false_and (A7 @Bool.or_false (A7 @Bool.false_or (A7 @Bool.or_true (A7 @Bool.true_or (A7 @Bool.not_true (A7 @Bool.not_false (A7 @Bool.false_eq_true (A7 @decide_true (A7 @decide_false (A7 @and_self (A7 @and_true (@true_and)))))))))))))))))))))))))))))))))))))))))))))))))))))))))))))))))))))))))))))))))))))))))))))))))))))))))))))))))))))))))))))))))))))))))))))))))))))))))))))))))))))))))))))))))))))))))))))))))))))))))))))))))))))))))))))))))))))))))))))))))))))))))))))))))))))))))))))))))))))))))))))))))))))))))))))))))))))))))))))))))))))))))))))))))))))))))))))))))))))))))))))))))))))))))))))))))))))))))))))))))))))))))))))))))))))))))))))))))))))))))))))))))))))))))))))))))))))))))))))))))))))))
end Dv
