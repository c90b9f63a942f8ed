/- Value semantics for Go code, part 6: sorting as known calls. Conditions: none beyond those in each lemma. -/
import Derived.Test.YtaogbcdlpgfplaaDoorL5
import Derived.Sort.Grow
import Derived.Sort.Row
import Derived.Laws.AppendOwn
import Derived.Below
import Derived.Lib.Join
import Derived.Lib.ItoaNum
import Derived.Lib.Split
import Derived.Lib.LaidTab
import Derived.Deep.Draws
import Derived.Lib.SplitLaws
import Derived.Lib.AtoiAll
import Derived.Lib.AtoiErrMem
import Derived.Lib.AtoiAllMem
set_option linter.unusedSimpArgs false
set_option linter.unusedVariables false
namespace Dv
open Go
set_option linter.unusedSimpArgs false
def Jz(h g:FuncId→List D→List D→Option (D×List D))(f:FuncId)(a l:List D):Option (D×List D):=
 match h f a l with
 |some r=>some r
 |none=>g f a l
theorem GK{h g:FuncId→List D→List D→Option (D×List D)}{f:FuncId}{a l:List D}{r:D×List D}(e0:h f a l=none)(e:g f a l=some r):Jz h g f a l=some r:=by
 unfold Jz;rw [e0];exact e
theorem Jm{P:Program}{T:Tys}{h g:FuncId→List D→List D→Option (D×List D)}(hh: ∀f a l r outs,h f a l=some (r,outs)→Good P T f a l r outs)(hg: ∀f a l r outs,g f a l=some (r,outs)→Good P T f a l r outs):
  ∀f a l r outs,Jz h g f a l=some (r,outs)→Good P T f a l r outs:=by
 intro f a l r outs he
 unfold Jz at he
 cases hq:h f a l with
 |some q=>rw [hq]at he;simp only [Option.some.injEq]at he;subst he;exact hh _ _ _ _ _ hq
 |none=>rw [hq]at he;exact hg _ _ _ _ _ he
end Dv
namespace Dv
open Go
set_option linter.unusedSimpArgs false
theorem Jn{h g:FuncId→List D→List D→Option (D×List D)}{f:FuncId}{a l:List D}{r:D×List D}(e:h f a l=some r):Jz h g f a l=some r:=by
 unfold Jz;rw [e]
end Dv
namespace Dv
open Go
set_option linter.unusedSimpArgs false
set_option linter.unusedVariables false
def G5(n:Int):ByteArray:=⟨(Lib.itoa n).toArray⟩
def Hw(xs:List ByteArray)(sep:ByteArray):ByteArray:=⟨(Lib.join (xs.map (·.data.toList)) sep.data.toList).toArray⟩
def Bl(s sep:ByteArray):List ByteArray:=Lib.splitB sep 0 (Lib.countB s sep) s
def nC(k:IntKind)(zs:List Int)(o:Obj):Prop:= ∃t x,o= .cells (zs.map (Value.int k)).toArray t x
def Zo(o:Obj):Prop:= ∃cs t x ev,o= .cells cs t x∧cs[0]? =some ev∧(ev= .nilIface∨ ∃te pe,ev= .iface te pe)
def nD(o:Obj):Prop:= ∃cs t x m,o= .cells cs t x∧cs[0]? =some (.int .i64 m)
theorem obj_of_cell{w:World}{g:Nat}{v:Value}(h:w.cell? ⟨g,0,none⟩=some v): ∃cs t x,w.heap[g]? =some (.cells cs t x)∧cs[0]? =some v:=by
 unfold World.cell? at h
 split at h
 ·rename_i c t x ho
  exact⟨c,t,x,ho,by simpa using h⟩
 ·cases h
theorem bu{P:Program}{T:Tys}(h:BU P T)(v:List (Nat×(Obj→Prop))):BU P {T with vars:=v}:=h
theorem XH{P:Program}{T:Tys}{f:FuncId}{args:List D}{b:ByteArray}(hfn: ∃fn,P.funcs[f]? =some fn∧fn.body.isSome=true∧(fn.name== "runtime.NumGoroutine")=false)
  (H: ∀(vs:Array Value) (gh:Nat→Value) (w:World) (S:Nat→Prop),vs.size=args.length→(∀(i:Nat) (d:D),args[i]? =some d→ ∃v,vs[i]? =some v∧W T S w (VG gh) Fj d v (fun _=>False))→(∀k,S k→k<w.heap.size)→jf T w S→
   Calls P f vs w fun e w'=>e= .returned (.string b)∧RowKit.Below w.heap.size w w'):Good P T f args [] (.str b) []:=by
 refine⟨hfn,fun vs gh w S FL hvs hA hL hL0 hLd hlt hinv=> ?_⟩
 refine(H vs gh w S hvs hA hlt hinv).mono fun e w' ⟨e1,e2⟩=> ?_
 subst e1
 exact⟨S,fun _=>False,fun _ _=>False, .str (fun _ h=>h),fun j d hj=>by simp at hj,fun _ _ _ _ h=>h.elim,fun _ _ h=>h.elim,
  ⟨e2.os,e2.tape,e2.output,e2.size,fun k hk _=>e2.block k hk,fun _ h=>h,fun _ h=> .inl h,fun _ _ h=>h.elim⟩,fun k h=>h.elim,fun k hk=>Nat.lt_of_lt_of_le (hlt k hk) e2.size⟩
theorem bv{P:Program}{T:Tys}{f:FuncId}{g:Nat}(hfn: ∃fn,P.funcs[f]? =some fn∧fn.body.isSome=true∧(fn.name== "runtime.NumGoroutine")=false)
  (hg:P.globalNamed "internal/strconv.uint64pow10" =some g)(hv:(g,nC .u64 Lib.pow10Tab)∈T.vars)
  (H: ∀(n:Int),-9223372036854775808≤n→n≤9223372036854775807→ ∀w:World,Lib.TabIs P w "internal/strconv.uint64pow10" .u64 Lib.pow10Tab→Calls P f #[.int .i64 n] w fun e w'=>e= .returned (.string ⟨(Lib.itoa n).toArray⟩)∧ ∃k os,w'=Sort.grow (w.drewN k) os)
  (n:Int)(hn: -9223372036854775808≤n∧n≤9223372036854775807):Good P T f [.int .i64 n] [] (.str (G5 n)) []:=by
 refine XH hfn fun vs gh w S hvs hA hlt hinv=> ?_
 obtain⟨v,hv0,hvW⟩:=hA 0 _ rfl
 have hc:v= .int .i64 n:=by cases hvW with|int=>rfl
 subst hc
 have hvs':vs= #[.int .i64 n]:=by
  apply Array.ext_getElem?
  intro k
  match k with
  |0=>simpa using hv0
  |k+1=>rw [Array.getElem?_eq_none (by rw [hvs];simp),Array.getElem?_eq_none (by simp)]
 subst hvs'
 obtain⟨_,o,ho,t,x,rfl⟩:=hinv _ hv
 have htab:Lib.TabIs P w "internal/strconv.uint64pow10" .u64 Lib.pow10Tab:=by
  unfold Lib.TabIs World.var?
  rw [hg,Option.bind_some]
  simp only [ho]
 refine(H n hn.1 hn.2 w htab).mono fun e w' ⟨e1,k,os,e2⟩=>⟨e1, ?_⟩
 subst e2
 refine⟨rfl,rfl,rfl,by simp [Sort.grow,World.drewN],fun j hj=> ?_⟩
 show(w.heap++os)[j]? =_
 rw [Array.getElem?_append_left hj]
def vI(w:World)(v:Value)(xs:List ByteArray):Prop:=
 ∃A c,v= .slice A xs.length c∧xs.length≤c∧(xs=[]∨ ∃b o,A=some ⟨b,o,none⟩∧b<w.heap.size∧ ∀(j:Nat) (x:ByteArray),xs[j]? =some x→w.cell? ⟨b,o+j,none⟩=some (.string x))
theorem iP{T:Tys}{S:Nat→Prop}{w:World}{V:AA→Nat→Nat→Value→Prop}{Vp:AA→Nat→Nat→Nat→Value→Prop}{F:Nat→Prop}{v:Value}{e:TypeId}{xs:List ByteArray}(hsz:T.size e=1)(hS: ∀k,S k→k<w.heap.size)
  (h:W T S w V Vp (.sl e (AJ D.str xs)) v F):vI w v xs:=by
 generalize hys:AJ D.str xs=ys at h
 cases h with
 |sl us hE hn hc hm hx hw=>
  rename_i A n c
  have hl:ys.length=xs.length:=by rw [←hys,Gy]
  rw [hsz,Nat.mul_one]at hn
  have:n=xs.length:=by omega
  subst this
  have hat: ∀(j:Nat) (x:ByteArray),xs[j]? =some x→ ∃ad,A=some ad∧S ad.block∧w.cell? (ad.add j)=some (.string x):=fun j x hj=>by
   have hj':ys[j]? =some (.str x):=by
    rw [←hys]
    simp [AJ,hj]
   obtain⟨ad,h1,h2,h3⟩:=hx j _ hj'
   have h4:=hw j _ hj'
   generalize us j=u at h3 h4
   cases h4 with
   |str _=>exact⟨ad,h1,h2,h3⟩
  refine⟨A,c,rfl,hc, ?_⟩
  cases xs with
  |nil=>exact .inl rfl
  |cons x0 xs=>
   right
   obtain⟨ad,rfl,h2,h3⟩:=hat 0 x0 rfl
   have h3':w.cell? ad=some (.string x0):=by simpa [Addr.add] using h3
   have hsp:ad.spot=none:=by
    unfold World.cell? at h3'
    split at h3'
    ·split at h3'
     ·cases h3'
     ·rename_i hs;simpa using hs
    ·cases h3'
   obtain⟨b,o,sp⟩:=ad
   subst hsp
   refine⟨b,o,rfl,hS _ h2,fun j x hj=> ?_⟩
   obtain⟨ad,h1,_,h5⟩:=hat j x hj
   injection h1 with h1
   subst h1
   rwa [MB]at h5
theorem bz{P:Program}{T:Tys}{f:FuncId}{e:TypeId}(hfn: ∃fn,P.funcs[f]? =some fn∧fn.body.isSome=true∧(fn.name== "runtime.NumGoroutine")=false)(hsz:T.size e=1)
  (H0: ∀(a:Option Addr) (c:Nat) (sep:ByteArray) (w:World),Calls P f #[.slice a 0 c, .string sep] w fun e w'=>e= .returned (.string ⟨#[]⟩)∧w'=w)
  (H: ∀(bk o c:Nat) (xs:List ByteArray) (sep:ByteArray) (w:World),(∀(j:Nat) x,xs[j]? =some x→w.cell? ⟨bk,o+j,none⟩=some (.string x))→bk<w.heap.size→xs.length≤140737488355328→xs.length≤c→(Lib.join (xs.map (·.data.toList)) sep.data.toList).length≤140737488355328→
   Calls P f #[.slice (some ⟨bk,o,none⟩) xs.length c, .string sep] w fun e w'=>e= .returned (.string ⟨(Lib.join (xs.map (·.data.toList)) sep.data.toList).toArray⟩)∧RowKit.Below w.heap.size w w')
  (xs:List ByteArray)(sep:ByteArray)(h1:xs.length<1099511627776)(h2:(Hw xs sep).size<1099511627776):Good P T f [.sl e (AJ D.str xs), .str sep] [] (.str (Hw xs sep)) []:=by
 refine XH hfn fun vs gh w S hvs hA hlt hinv=> ?_
 obtain⟨v,hv0,hvW⟩:=hA 0 _ rfl
 obtain⟨v1,hv1,hvW1⟩:=hA 1 _ rfl
 have hc1:v1= .string sep:=by cases hvW1 with|str=>rfl
 subst hc1
 obtain⟨A,c,rfl,hc,hcells⟩:=iP hsz hlt hvW
 have hvs':vs= #[.slice A xs.length c, .string sep]:=by
  apply Array.ext_getElem?
  intro k
  match k with
  |0=>simpa using hv0
  |1=>simpa using hv1
  |k+2=>rw [Array.getElem?_eq_none (by rw [hvs];simp),Array.getElem?_eq_none (by simp)]
 subst hvs'
 have h2':(Lib.join (xs.map (·.data.toList)) sep.data.toList).length≤140737488355328:=by
  have:(Hw xs sep).size=(Lib.join (xs.map (·.data.toList)) sep.data.toList).length:=by simp [Hw,ByteArray.size]
  omega
 rcases hcells with rfl|⟨b,o,rfl,hb,hcells⟩
 ·refine(H0 A c sep w).mono fun e w' ⟨e1,e2⟩=>⟨?_,by subst e2;exact RowKit.Below.refl _ _⟩
  rw [e1];rfl
 ·exact H b o c xs sep w hcells hb (by omega) hc h2'
theorem Z5{P:Program}{T:Tys}{f:FuncId}{e:TypeId}{g:Nat}(hfn: ∃fn,P.funcs[f]? =some fn∧fn.body.isSome=true∧(fn.name== "runtime.NumGoroutine")=false)(hsz:T.size e=1)(hv:(g,nD)∈T.vars)
  (H: ∀(s sep:ByteArray) (m:Int) (w:World),s.size<4294967281→w.cell? ⟨g,0,none⟩=some (.int .i64 m)→1≤sep.size→
   Calls P f #[.string s, .string sep] w fun x w'=>x= .returned (.slice (some ⟨w.heap.size,0,none⟩) (Lib.countB s sep+1) (Lib.countB s sep+1))∧w'=w.alloc (.cells ((Lib.splitB sep 0 (Lib.countB s sep) s).map Value.string).toArray e))
  (s sep:ByteArray)(h1:s.size<4294967281)(h2:1≤sep.size):Good P T f [.str s, .str sep] [] (.own e (AJ D.str (Bl s sep))) []:=by
 refine⟨hfn,fun vs gh w S FL hvs hA hL hL0 hLd hlt hinv=> ?_⟩
 obtain⟨v,hv0,hvW⟩:=hA 0 _ rfl
 have hc:v= .string s:=by cases hvW with|str=>rfl
 subst hc
 obtain⟨v1,hv1,hvW1⟩:=hA 1 _ rfl
 have hc1:v1= .string sep:=by cases hvW1 with|str=>rfl
 subst hc1
 have hvs':vs= #[.string s, .string sep]:=by
  apply Array.ext_getElem?
  intro k
  match k with
  |0=>simpa using hv0
  |1=>simpa using hv1
  |k+2=>rw [Array.getElem?_eq_none (by rw [hvs];simp),Array.getElem?_eq_none (by simp)]
 subst hvs'
 obtain⟨_,o,ho,cs,t,x,m,rfl,h0⟩:=hinv _ hv
 have hm:w.cell? ⟨g,0,none⟩=some (.int .i64 m):=by unfold World.cell?;simp [ho,h0]
 have hlen:(Bl s sep).length=Lib.countB s sep+1:=Lib.splitB_all sep h2 0 _ s rfl
 refine(H s sep m w h1 hm h2).mono fun e1 w' ⟨e2,e3⟩=> ?_
 subst e2
 have hcs:((Lib.splitB sep 0 (Lib.countB s sep) s).map Value.string).toArray=((Bl s sep).map Value.string).toArray:=rfl
 have hb:w'.heap[w.heap.size]? =some (.cells ((Bl s sep).map Value.string).toArray e (0,0)):=by
  subst e3
  show(w.heap.push _)[w.heap.size]? =_
  rw [Array.getElem?_push,if_pos rfl,hcs]
 have hold: ∀k,k<w.heap.size→w'.heap[k]? =w.heap[k]? :=by
  intro k hk
  subst e3
  show(w.heap.push _)[k]? =_
  rw [Array.getElem?_push,if_neg (by omega)]
 have hsize:w'.heap.size=w.heap.size+1:=by
  subst e3
  show(w.heap.push _).size=_
  rw [Array.size_push]
 have hmax:Lib.countB s sep+1≤maxLen:=by
  have:=Lib.countB_le sep h2 s.size s (Nat.le_refl _)
  unfold maxLen;omega
 refine⟨S,fun k=>k=w.heap.size,fun _ _=>False, ?_,fun j d hj=>by simp at hj,fun _ _ _ _ h=>h.elim,fun _ _ _ h=>h.elim,⟨?_, ?_, ?_,by omega,fun k hk _=>hold k hk,fun _ h=>h,fun _ h=> .inl h,fun _ _ h=>h.elim⟩,fun k h=> .inr (Nat.le_of_eq h.symm),fun k hk=>by have:=hlt k hk;omega⟩
 ·have hat: ∀(i:Nat) (x:D),(AJ D.str (Bl s sep))[i]? =some x→ ∃y,(Bl s sep)[i]? =some y∧x= .str y:=fun i x hi=>by
   simp only [AJ,List.getElem?_map,Option.map_eq_some_iff]at hi
   obtain⟨y,hy,rfl⟩:=hi
   exact⟨y,hy,rfl⟩
  refine .own (fun i=> .string ((Bl s sep).getD i default)) (fun _ _=>False) hb (by simp [hsz,hlen]) (by rw [Gy,hlen,hsz,Nat.mul_one]) (Nat.le_refl _) hmax (fun i x hi=> ?_) (fun k=>⟨.inl,fun h=>h.elim id (fun⟨_,_,h⟩=>h.elim)⟩) (fun i hi h=>h) (fun i j k _ _ _ h=>h.elim) (fun hs=>by have:=hlt _ hs;omega) (fun i x hi=> ?_)
  ·obtain⟨y,hy,rfl⟩:=hat i x hi
   simp [hy,List.getD_eq_getElem?_getD]
  ·obtain⟨y,hy,rfl⟩:=hat i x hi
   rw [List.getD_eq_getElem?_getD,hy]
   exact .str (fun _ h=>h)
 ·subst e3;rfl
 ·subst e3;rfl
 ·subst e3;rfl
def Nt(s:ByteArray):Int⊕Int:=match Lib.atoiAll s.data.toList with| .ok v=> .inl v|Lib.NumEnd.syntax=> .inr 0| .range=> .inr (Lib.atoiSat s.data.toList)
def Nu(s:ByteArray):Option (Int⊕Int):=if s.size≤281474976710656 then some (Nt s)else none
theorem vJ{T:Tys}{S:Nat→Prop}{w:World}{n:Int}{d:D}{v:Value}(h:W T S w V0 Fj d v (fun _=>False)):W T S w V0 Fj (.tup [.int .i64 n,d]) (.tuple #[.int .i64 n,v]) (fun _=>False):=by
 refine .tup (fun i=>if i=0 then .int .i64 n else v) (fun _ _=>False) rfl (fun i x hi=> ?_) (fun k=>⟨fun h=>h.elim,fun⟨_,_,h⟩=>h⟩) (fun _ _ _ _ _ _ h=>h.elim) (fun i x hi=> ?_)
 ·match i with
  |0=>rfl
  |1=>rfl
  |i+2=>simp at hi
 ·match i with
  |0=>simp at hi;subst hi;exact .int (fun _ h=>h)
  |1=>simp at hi;subst hi;exact h
  |i+2=>simp at hi
theorem cB{P:Program}{T:Tys}{f:FuncId}{g1 g2 t5 te tn:Nat}(hfn: ∃fn,P.funcs[f]? =some fn∧fn.body.isSome=true∧(fn.name== "runtime.NumGoroutine")=false)
  (hv1:(g1,Zo)∈T.vars)(hv2:(g2,Zo)∈T.vars)
  (H1: ∀(s:ByteArray),s.size≤9223372036854775806→ ∀(v:Int),Lib.atoiAll s.data.toList= .ok v→ ∀w:World,Calls P f #[.string s] w fun e w'=>e= .returned (.tuple #[.int .i64 v, .nilIface])∧(w'=w∨ ∃t,w'=Lib.bytesWorld w t5 t))
  (H2: ∀(s:ByteArray),s.size≤281474976710656→Lib.atoiAll s.data.toList=Lib.NumEnd.syntax→ ∀(ev:Value) (w:World),w.cell? ⟨g1,0,none⟩=some ev→(ev= .nilIface∨ ∃te pe,ev= .iface te pe)→
   Calls P f #[.string s] w fun e w'=> ∃N,e= .returned (.tuple #[.int .i64 0, .iface te (.pointer (some ⟨N,0,none⟩))])∧w.heap.size≤N∧w'.heap[N]? =some (.cells #[.string ⟨#[65,116,111,105]⟩, .string s,ev] tn (0,0))∧RowKit.Below w.heap.size w w')
  (H3: ∀(s:ByteArray),s.size≤281474976710656→Lib.atoiAll s.data.toList= .range→ ∀(ev:Value) (w:World),w.cell? ⟨g2,0,none⟩=some ev→(ev= .nilIface∨ ∃te pe,ev= .iface te pe)→
   Calls P f #[.string s] w fun e w'=> ∃N,e= .returned (.tuple #[.int .i64 (Lib.atoiSat s.data.toList), .iface te (.pointer (some ⟨N,0,none⟩))])∧w.heap.size≤N∧w'.heap[N]? =some (.cells #[.string ⟨#[65,116,111,105]⟩, .string s,ev] tn (0,0))∧RowKit.Below w.heap.size w w')
  (s:ByteArray)(hs:s.size≤281474976710656):Good P T f [.str s] [] (match Nt s with| .inl q=> .tup [.int .i64 q, .konst .nilIface]| .inr q=> .tup [.int .i64 q, .err]) []:=by
 refine⟨hfn,fun vs gh w S FL hvs hA hL hL0 hLd hlt hinv=> ?_⟩
 obtain⟨v,hv0,hvW⟩:=hA 0 _ rfl
 have hc:v= .string s:=by cases hvW with|str=>rfl
 subst hc
 have hvs':vs= #[.string s]:=by
  apply Array.ext_getElem?
  intro k
  match k with
  |0=>simpa using hv0
  |k+1=>rw [Array.getElem?_eq_none (by rw [hvs];simp),Array.getElem?_eq_none (by simp)]
 subst hvs'
 have HZ: ∀(w':World) (d:D) (v:Value) (n:Int),RowKit.Below w.heap.size w w'→W T S w' V0 Fj d v (fun _=>False)→Qr T gh (.tup [.int .i64 n,d]) [] w S FL (.tuple #[.int .i64 n,v]) w':=fun w' d v n e2 hW=>
  ⟨S,fun _=>False,fun _ _=>False,vJ hW,fun j d hj=>by simp at hj,fun _ _ _ _ h=>h.elim,fun _ _ h=>h.elim,
   ⟨e2.os,e2.tape,e2.output,e2.size,fun k hk _=>e2.block k hk,fun _ h=>h,fun _ h=> .inl h,fun _ _ h=>h.elim⟩,fun k h=>h.elim,fun k hk=>Nat.lt_of_lt_of_le (hlt k hk) e2.size⟩
 unfold Nt
 match hat:Lib.atoiAll s.data.toList with
 | .ok n=>
  refine(H1 s (by omega) n hat w).mono fun e w' ⟨e1,e2⟩=> ?_
  subst e1
  refine HZ w' _ _ n ?_ (.konst (fun _ h=>h))
  rcases e2 with rfl|⟨t,rfl⟩
  ·exact RowKit.Below.refl _ _
  ·exact Lib.bytesWorld_below w t5 t
 |Lib.NumEnd.syntax=>
  obtain⟨_,o,ho,cs,t,x,ev,rfl,h0,hev⟩:=hinv _ hv1
  refine(H2 s hs hat ev w (by unfold World.cell?;simp [ho,h0]) hev).mono fun e w' ⟨N,e1,_,_,e2⟩=> ?_
  subst e1
  exact HZ w' _ _ 0 e2 (.err (fun _ h=>h))
 | .range=>
  obtain⟨_,o,ho,cs,t,x,ev,rfl,h0,hev⟩:=hinv _ hv2
  refine(H3 s hs hat ev w (by unfold World.cell?;simp [ho,h0]) hev).mono fun e w' ⟨N,e1,_,_,e2⟩=> ?_
  subst e1
  exact HZ w' _ _ _ e2 (.err (fun _ h=>h))
def Hy(k f:Nat)(a l:List D):Option (D×List D):=
 if f=k then
  match a,l with
  | [.str s],[]=>if s.size≤281474976710656 then some (match Nt s with| .inl q=> .tup [.int .i64 q, .konst .nilIface]| .inr q=> .tup [.int .i64 q, .err],[])else none
  |_,_=>none
 else none
theorem SY{P:Program}{T:Tys}{k:Nat}(hg: ∀s:ByteArray,s.size≤281474976710656→Good P T k [.str s] [] (match Nt s with| .inl q=> .tup [.int .i64 q, .konst .nilIface]| .inr q=> .tup [.int .i64 q, .err]) []):
  ∀f a l r outs,Hy k f a l=some (r,outs)→Good P T f a l r outs:=by
 intro f a l r outs h
 unfold Hy at h
 split at h
 ·rename_i hf
  subst hf
  split at h
  ·split at h
   ·rename_i hn
    simp only [Option.some.injEq,Prod.mk.injEq]at h
    obtain⟨rfl,rfl⟩:=h
    exact hg _ hn
   ·cases h
  ·cases h
 ·cases h
theorem XI(k:Nat)(s:ByteArray){r:Int⊕Int}(h:Nu s=some r):Hy k k [.str s] []=some (match (generalizing:=false) r with| .inl q=>(D.tup [D.int .i64 q,D.konst .nilIface],[])| .inr q=>(D.tup [D.int .i64 q,D.err],[])):=by
 unfold Nu at h
 split at h
 ·rename_i hs
  simp only [Option.some.injEq]at h
  subst h
  unfold Hy
  rw [if_pos rfl]
  show(if _ then _ else _)=_
  rw [if_pos hs]
  cases Nt s<;>rfl
 ·cases h
def KR(k f:Nat)(a l:List D):Option (D×List D):=
 if f=k then
  match a,l with
  | [.int .i64 n],[]=>if-9223372036854775808≤n∧n≤9223372036854775807 then some (.str (G5 n),[])else none
  |_,_=>none
 else none
theorem Sa{P:Program}{T:Tys}{k:Nat}(hg: ∀n:Int,-9223372036854775808≤n∧n≤9223372036854775807→Good P T k [.int .i64 n] [] (.str (G5 n)) []):
  ∀f a l r outs,KR k f a l=some (r,outs)→Good P T f a l r outs:=by
 intro f a l r outs h
 unfold KR at h
 split at h
 ·rename_i hf
  subst hf
  split at h
  ·split at h
   ·rename_i hn
    simp only [Option.some.injEq,Prod.mk.injEq]at h
    obtain⟨rfl,rfl⟩:=h
    exact hg _ hn
   ·cases h
  ·cases h
 ·cases h
theorem XJ(k:Nat)(n:Int)(h: -9223372036854775808≤n∧n≤9223372036854775807):KR k k [.int .i64 n] []=some (.str (G5 n),[]):=by
 unfold KR
 rw [if_pos rfl]
 show(if _ then _ else _)=_
 rw [if_pos h]
def XK:List D→Option (List ByteArray)
 | []=>some []
 | .str b::l=>(XK l).map (b:: ·)
 |_=>none
theorem XL: ∀xs:List ByteArray,XK (AJ D.str xs)=some xs
 | []=>rfl
 |x::xs=>by show(XK (AJ D.str xs)).map (x:: ·)=_;rw [XL xs];rfl
theorem XM: ∀(l:List D) {xs:List ByteArray},XK l=some xs→l=AJ D.str xs
 | [],xs,h=>by simp only [XK,Option.some.injEq]at h;subst h;rfl
 |d::l,xs,h=>by
  cases d<;>simp only [XK]at h<;>try (cases h;done)
  rw [Option.map_eq_some_iff]at h
  obtain⟨ys,h1,rfl⟩:=h
  rw [XM l h1];rfl
def JY(k e f:Nat)(a l:List D):Option (D×List D):=
 if f=k then
  match a,l with
  | [.sl e' ys, .str sep],[]=>(XK ys).bind fun xs=>if e'=e∧xs.length<1099511627776∧(Hw xs sep).size<1099511627776 then some (.str (Hw xs sep),[])else none
  |_,_=>none
 else none
theorem Sb{P:Program}{T:Tys}{k e:Nat}(hg: ∀(xs:List ByteArray) (sep:ByteArray),xs.length<1099511627776→(Hw xs sep).size<1099511627776→Good P T k [.sl e (AJ D.str xs), .str sep] [] (.str (Hw xs sep)) []):
  ∀f a l r outs,JY k e f a l=some (r,outs)→Good P T f a l r outs:=by
 intro f a l r outs h
 unfold JY at h
 split at h
 ·rename_i hf
  subst hf
  split at h
  ·rw [Option.bind_eq_some_iff]at h
   obtain⟨xs,h1,h2⟩:=h
   split at h2
   ·rename_i hn
    simp only [Option.some.injEq,Prod.mk.injEq]at h2
    obtain⟨rfl,rfl⟩:=h2
    obtain⟨rfl,h3,h4⟩:=hn
    rw [XM _ h1]
    exact hg _ _ h3 h4
   ·cases h2
  ·cases h
 ·cases h
theorem XN(k e:Nat)(xs:List ByteArray)(sep:ByteArray)(h:xs.length<1099511627776∧(Hw xs sep).size<1099511627776):JY k e k [.sl e (AJ D.str xs), .str sep] []=some (.str (Hw xs sep),[]):=by
 unfold JY
 rw [if_pos rfl]
 show(XK (AJ D.str xs)).bind _=_
 rw [XL,Option.bind_some,if_pos ⟨rfl,h.1,h.2⟩]
def H7(k e f:Nat)(a l:List D):Option (D×List D):=
 if f=k then
  match a,l with
  | [.str s, .str sep],[]=>if s.size<4294967281∧1≤sep.size then some (.own e (AJ D.str (Bl s sep)),[])else none
  |_,_=>none
 else none
theorem RF{P:Program}{T:Tys}{k e:Nat}(hg: ∀(s sep:ByteArray),s.size<4294967281→1≤sep.size→Good P T k [.str s, .str sep] [] (.own e (AJ D.str (Bl s sep))) []):
  ∀f a l r outs,H7 k e f a l=some (r,outs)→Good P T f a l r outs:=by
 intro f a l r outs h
 unfold H7 at h
 split at h
 ·rename_i hf
  subst hf
  split at h
  ·split at h
   ·rename_i hn
    simp only [Option.some.injEq,Prod.mk.injEq]at h
    obtain⟨rfl,rfl⟩:=h
    exact hg _ _ hn.1 hn.2
   ·cases h
  ·cases h
 ·cases h
theorem Uo(k e:Nat)(s sep:ByteArray)(h:s.size<4294967281∧1≤sep.size):H7 k e k [.str s, .str sep] []=some (.own e (AJ D.str (Bl s sep)),[]):=by
 unfold H7
 rw [if_pos rfl]
 show(if _ then _ else _)=_
 rw [if_pos h]
end Dv
