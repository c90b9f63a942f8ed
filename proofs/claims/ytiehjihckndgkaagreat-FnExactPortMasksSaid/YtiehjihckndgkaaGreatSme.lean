/- Sets of labels that shrink to the greatest ones: program and reference agree. Conditions: those in each lemma. -/
import Derived.Test.YtiehjihckndgkaaGreatL6
import Derived.Test.YtiehjihckndgkaaGreatSmd
namespace Go.Proofs.YtiehjihckndgkaaGreat
open Go Dv
set_option linter.unusedSimpArgs false
set_option linter.unusedVariables false
set_option maxRecDepth 100000
structure Ctx(en:List (List (Int×Int)))(ns es:List (List Int))(n D:Nat):Prop where
 hN:NetOk en
 hn:n≤8
 hD:D≤4
 hs:BB ns
 he:BB es
 hin:QQ ns=true
 hie:QQ es=true
 hp: ∀c∈ns,c.Pairwise fun a b=>a≤b
 hc: ∀c∈ns,c.length=D∧ ∀a∈c,0≤a∧a<8
theorem Ye(a:Nat)(ha:a≤8):IntKind.i64.wrap (1*2 ^ (min a IntKind.i64.bits))=2 ^ a:=by
 have:min a IntKind.i64.bits=a:=by show min a 64=a;omega
 have h1:=A60 ha;have h2:(0:Int)<2 ^ a:=Int.pow_pos (by decide)
 rw [this,Int.one_mul,J9 _ (by omega)]
theorem nE: ∀b:Fin 8,∀x:Fin 256,Dh (x.val:Int) b.val=true→GX .andNot .i64 (x.val:Int) (2 ^ b.val)=(x.val:Int)-2 ^ b.val:=by decide+kernel
theorem je(x:Int)(b:Nat)(hb:b<8)(h:0≤x∧x≤255)(hh:Dh x b=true):GX .andNot .i64 x (2 ^ b)=x-2 ^ b:=by
 have hx:((x.toNat:Nat):Int)=x:=by omega
 have:=nE ⟨b,hb⟩ ⟨x.toNat,by omega⟩
 simp only [hx]at this;exact this hh
theorem xR{m:Int}{a:Nat}(h0:0≤m)(h:Dh m a=true):2 ^ a≤m:=by
 apply Classical.byContradiction
 intro hc;rw [aN ⟨h0,by omega⟩ (KS a)]at h
 cases h
theorem fP: ∀(l:List Int) (i:Nat) (x:Int),i<l.length→(l.set i x).sum=l.sum-l.getD i default+x
 |y::l,0,x,_=>by simp;omega
 |y::l,i+1,x,h=>by
  have ih:=fP l i x (by simpa using h)
  simp only [aR,List.sum_cons,List.getD_cons_succ];omega
def wt(M:List (List Int)):Int:=(M.map List.sum).sum
theorem A62{M:List (List Int)}{v i:Nat}{x:Int}(hv:v<M.length)(hi:i<(M.getD v default).length):wt (M.set v ((M.getD v default).set i x))=wt M-Qu M v i+x:=by
 unfold wt;rw [List.map_set,fP _ _ _ (by rw [VD];exact hv),fP _ _ _ hi]
 have:(M.map List.sum).getD v default=(M.getD v default).sum:=by
  rw [Am _ _ (by rw [VD];exact hv),List.getElem_map,Am _ _ hv]
 rw [this];unfold Qu;omega
theorem zm{M:List (List Int)}{v i:Nat}{x:Int}(hv:v<M.length)(hi:i<(M.getD v default).length)(w j:Nat)(hj:j<(M.getD w default).length):Qu (M.set v ((M.getD v default).set i x)) w j=if v=w∧i=j then x else Qu M w j:=by
 unfold Qu;by_cases e:v=w
 ·subst e;rw [Am (M.set v _) v (by rw [MR];exact hv),oz,Am _ _ (by rw [MR];exact hj),List.getElem_set,Am _ j hj]
  by_cases e2:i=j
  ·rw [if_pos e2,if_pos ⟨rfl,e2⟩]
  ·rw [if_neg e2,if_neg (fun h=>e2 h.2)]
 ·rw [if_neg (fun h=>e h.1)]
  have:(M.set v ((M.getD v default).set i x)).getD w default=M.getD w default:=by
   rw [MQ,List.getElem?_set_ne e,←MQ]
  rw [this]
theorem zn{M:List (List Int)}{v i:Nat}{x:Int}(w:Nat):((M.set v ((M.getD v default).set i x)).getD w default).length=(M.getD w default).length:=by
 by_cases e:v=w
 ·subst e;by_cases hv:v<M.length
  ·rw [Am (M.set v _) v (by rw [MR];exact hv),oz,MR]
  ·rw [List.set_eq_of_length_le (by omega)]
 ·rw [MQ,List.getElem?_set_ne e,←MQ]
theorem OkM.set{en:List (List (Int×Int))}{n:Nat}{M:List (List Int)}(h:OkM en n M){v i:Nat}{x:Int}(hv:v<en.length)(hi:i<(en.getD v default).length)(hx:0≤x∧x<2 ^ n):OkM en n (M.set v ((M.getD v default).set i x)):=by
 refine⟨by rw [MR];exact h.len,fun w hw=>by rw [zn];exact h.row w hw,fun w j hw hj=> ?_⟩
 have:=h.len
 rw [zm (by omega) (by rw [h.row v hv];exact hi) w j (by rw [h.row w hw];exact hj)]
 split
 ·exact hx
 ·exact h.rng w j hw hj
theorem Rm: ∀(l:List Int),(∀x∈l,0≤x)→0≤l.sum
 | [],_=>by simp
 |y::l,h=>by
  have:=Rm l fun x hx=>h x (JY _ hx)
  have:=h y KV
  rw [List.sum_cons];omega
theorem OkM.nonneg{en:List (List (Int×Int))}{n:Nat}{M:List (List Int)}(h:OkM en n M):0≤wt M:=by
 refine Rm _ fun x hx=> ?_;obtain⟨row,hr,rfl⟩:=Mx.1 hx;refine Rm _ fun y hy=> ?_;obtain⟨v,hv,rfl⟩:=VB hr;obtain⟨i,hi,rfl⟩:=VB hy;have hl:=h.len;have hrow:=h.row v (by omega)
 rw [Am _ _ hv]at hrow;have:=(h.rng v i (by omega) (by omega)).1
 unfold Qu at this;rw [Am _ _ hv,Am _ _ hi]at this;exact this
def stA(sup:List (List Int)→Nat→Nat→Nat→Bool)(v i:Nat)(q:Bool×List (List Int))(a:Nat):Bool×List (List Int):=
 if(Dh (Qu q.2 v i) a&& !sup q.2 v i a)=true then(true,q.2.set v ((q.2.getD v default).set i (Qu q.2 v i-2 ^ a)))else q
def l9(sup:List (List Int)→Nat→Nat→Nat→Bool)(n v:Nat)(q:Bool×List (List Int))(i:Nat):Bool×List (List Int):=(List.range n).foldl (stA sup v i) q
def stV(sup:List (List Int)→Nat→Nat→Nat→Bool)(n:Nat)(en:List (List (Int×Int)))(q:Bool×List (List Int))(v:Nat):Bool×List (List Int):=(List.range (en.getD v default).length).foldl (l9 sup n v) q
def MO(sup:List (List Int)→Nat→Nat→Nat→Bool)(n:Nat)(en:List (List (Int×Int)))(q:Bool×List (List Int)):Bool×List (List Int):=(List.range en.length).foldl (stV sup n en) q
def jf(sup:List (List Int)→Nat→Nat→Nat→Bool)(n:Nat)(en:List (List (Int×Int))):Nat→List (List Int)→List (List Int)
 |0,M=>M
 |k+1,M=>if(MO sup n en (false,M)).1=true then jf sup n en k (MO sup n en (false,M)).2 else(MO sup n en (false,M)).2
def DnM(en:List (List (Int×Int)))(n:Nat)(q q':Bool×List (List Int)):Prop:=OkM en n q'.2∧(q'=q∨q'.1=true∧wt q'.2<wt q.2)
theorem WG{en:List (List (Int×Int))}{n:Nat}(g:Bool×List (List Int)→Nat→Bool×List (List Int)): ∀(l:List Nat),(∀q,OkM en n q.2→ ∀x∈l,DnM en n q (g q x))→ ∀q,OkM en n q.2→DnM en n q (l.foldl g q)
 | [],_,q,hq=>⟨hq,.inl rfl⟩
 |x::l,h,q,hq=>by
  obtain⟨h1,h2⟩:=h q hq x KV;obtain⟨h3,h4⟩:=WG g l (fun q hq y hy=>h q hq y (JY _ hy)) (g q x) h1;rw [VE]
  refine⟨h3, ?_⟩
  rcases h2 with e|⟨e1,e2⟩
  ·rw [e]at h4 ⊢;exact h4
  ·rcases h4 with e|⟨e3,e4⟩
   ·right;rw [e];exact⟨e1,e2⟩
   ·right;exact⟨e3,by omega⟩
theorem nG{en:List (List (Int×Int))}{n:Nat}(sup:List (List Int)→Nat→Nat→Nat→Bool){v i:Nat}(hv:v<en.length)(hi:i<(en.getD v default).length)(q:Bool×List (List Int))(hq:OkM en n q.2)(a:Nat):DnM en n q (stA sup v i q a):=by
 unfold stA;split
 ·rename_i h
  rw [Fa]at h;have hr:=hq.rng v i hv hi;have hg:=xR hr.1 h.1;have hp:(0:Int)<2 ^ a:=Int.pow_pos (by decide)
  have hl:=hq.len
  refine⟨hq.set hv hi (by omega),.inr ⟨rfl, ?_⟩⟩
  dsimp only;rw [A62 (by omega) (by rw [hq.row v hv];exact hi)]
  omega
 ·exact⟨hq,.inl rfl⟩
theorem nH{en:List (List (Int×Int))}{n:Nat}(sup:List (List Int)→Nat→Nat→Nat→Bool){v i:Nat}(hv:v<en.length)(hi:i<(en.getD v default).length)(q:Bool×List (List Int))(hq:OkM en n q.2):DnM en n q (l9 sup n v q i):=
 WG _ _ (fun q hq a _=>nG sup hv hi q hq a) q hq
theorem nI{en:List (List (Int×Int))}{n:Nat}(sup:List (List Int)→Nat→Nat→Nat→Bool){v:Nat}(hv:v<en.length)(q:Bool×List (List Int))(hq:OkM en n q.2):DnM en n q (stV sup n en q v):=
 WG _ _ (fun q hq i hi=>nH sup hv (Mw.1 hi) q hq) q hq
theorem og{en:List (List (Int×Int))}{n:Nat}(sup:List (List Int)→Nat→Nat→Nat→Bool)(q:Bool×List (List Int))(hq:OkM en n q.2):DnM en n q (MO sup n en q):=
 WG _ _ (fun q hq v hv=>nI sup (Mw.1 hv) q hq) q hq
section
variable {en:List (List (Int×Int))} {ns es:List (List Int)} {n D:Nat} (C:Ctx en ns es n D) (ids inp:List Int)
include C
theorem zo(T7 T100:List (List Int)){v i:Nat}(hv:v<en.length)(hi:i<(en.getD v default).length)(q:Bool×List (List Int))(hq:OkM en n q.2):
  IM (n:Int) (D:Int) ns es en ids inp T7 (v:Int) T100 (i:Int) (q.1,0,q.2)=some (l9 (JF en ns es n D) n v q i):=by
 have hn:=C.hn;have key:=Oc (fun w=>DV (n:Int) (D:Int) ns es en ids inp T7 (v:Int) T100 (i:Int) w.1 w.2.1 w.2.2) (fun k q=>(q.1,(k:Int),q.2)) (fun _ q=>OkM en n q.2) (List.range n) (stA (JF en ns es n D) v i) (fun q=>q) ?_ ?_ q hq
 ·exact key.1
 ·intro a q ha hq;rw [Tf]at ha
  refine⟨?_,(nG _ hv hi q hq _).1⟩
  rw [Te];have hl:=hq.len;have hrow:=hq.row v hv;have hm:=hq.le hn hv hi;have hm':0≤(q.2.getD v default).getD i default∧(q.2.getD v default).getD i default≤255:=hm;simp only [DV,IV];rw [if_pos (CJ ha),BJ (by omega),BJ (by omega),BJ (by omega),nC _ a hm' (by omega),Kh a (by omega)]
  unfold stA;by_cases hb:(q.2.getD v default).getD i default / 2 ^ a % 2=1
  ·have hh:Dh (Qu q.2 v i) a=true:=decide_eq_true hb;rw [if_neg (by omega),rE ids inp C.hN hq hn C.he C.hie hv hi,DJ,hh,OH]
   rw [Ye a (by omega),show GX .andNot .i64 ((q.2.getD v default).getD i default) (2 ^ a)=Qu q.2 v i-2 ^ a from je _ a (by omega) hm hh]
   unfold JF
   cases jd en es n q.2 v i a with
   |false=>rw [if_neg (by decide)];rfl
   |true=>
    rw [if_pos rfl,OH];by_cases hd:(en.getD v default).length=D
    ·rw [if_pos (by omega),rF ids inp hq hn C.hD C.hs C.hin C.hp hv hi hd,DJ,decide_eq_true hd]
     cases A61 ns n q.2 v i a<;>rfl
    ·rw [if_neg (by omega),decide_eq_false hd];rfl
  ·have hh:Dh (Qu q.2 v i) a=false:=decide_eq_false hb;rw [if_pos (by omega),hh];rfl
 ·intro q _;simp only [DV,Tf];rw [if_neg (Ar _)]
theorem zq(T7 T100:List (List Int)){v:Nat}(hv:v<en.length)(hT:(T100.getD v default).length=(en.getD v default).length)(q:Bool×List (List Int))(hq:OkM en n q.2):
  IP (n:Int) (D:Int) ns es en ids inp T7 (v:Int) T100 (q.1,0,q.2)=some (stV (JF en ns es n D) n en q v):=by
 have hg:=C.hN.deg v hv;have key:=Oc (fun w=>DW (n:Int) (D:Int) ns es en ids inp T7 (v:Int) T100 w.1 w.2.1 w.2.2) (fun k q=>(q.1,(k:Int),q.2)) (fun _ q=>OkM en n q.2) (List.range (en.getD v default).length) (l9 (JF en ns es n D) n v) (fun q=>q) ?_ ?_ q hq
 ·exact key.1
 ·intro i q hi hq;rw [Tf]at hi
  refine⟨?_, ?_⟩
  ·rw [Te];simp only [DW,IV];rw [if_pos (by omega),zo C ids inp T7 T100 hv hi q hq,DJ,Kh i (by omega)]
  ·rw [Te]
   exact(nH _ hv hi q hq).1
 ·intro q _;simp only [DW,Tf,IV];rw [if_neg (by omega)]
theorem zt(T7:List (List Int))(hT:T7.length=en.length)(q:Bool×List (List Int))(hq:OkM en n q.2):
  IQ (n:Int) (D:Int) ns es en ids inp T7 (q.1,0,q.2)=some (MO (JF en ns es n D) n en q):=by
 have hg:=C.hN.big;have key:=Oc (fun w=>DX (n:Int) (D:Int) ns es en ids inp T7 w.1 w.2.1 w.2.2) (fun k q=>(q.1,(k:Int),q.2)) (fun _ q=>OkM en n q.2) (List.range en.length) (stV (JF en ns es n D) n en) (fun q=>q) ?_ ?_ q hq
 ·exact key.1
 ·intro v q hv hq;rw [Tf]at hv
  refine⟨?_, ?_⟩
  ·rw [Te];have hl:=hq.len;simp only [DX,IV];rw [if_pos (by omega),BJ (by omega),zq C ids inp T7 q.2 hv (hq.row v hv) q hq,DJ,Kh v (by omega)]
  ·rw [Te]
   exact(nI _ hv q hq).1
 ·intro q _;simp only [DX,Tf];rw [if_neg (by omega)]
theorem Yf: ∀(k:Nat) (M:List (List Int)),OkM en n M→wt M<k→Hg ((n:Int),(D:Int),ns,es,en,ids,inp,M)=some ((n:Int),(D:Int),ns,es,en,ids,inp,jf (JF en ns es n D) n en k M)∧OkM en n (jf (JF en ns es n D) n en k M)
 |0,M,hM,hk=>by have:=hM.nonneg;omega
 |k+1,M,hM,hk=>by
  obtain⟨h1,h2⟩:=og (n:=n) (JF en ns es n D) (false,M) hM
  have hsh:Ic (n:Int) (D:Int) ns es en ids inp M=some ((MO (JF en ns es n D) n en (false,M)).1,(n:Int),(D:Int),ns,es,en,ids,inp,(MO (JF en ns es n D) n en (false,M)).2):=by
   unfold Ic;have:=zt C ids inp M hM.len (false,M) hM
   dsimp only at this;rw [this,DJ]
  unfold jf;by_cases hf:(MO (JF en ns es n D) n en (false,M)).1=true
  ·rw [if_pos hf]
   have hlt:wt (MO (JF en ns es n D) n en (false,M)).2<wt M:=by
    rcases h2 with e|e
    ·rw [e]at hf;cases hf
    ·exact e.2
   obtain⟨g1,g2⟩:=Yf k _ h1 (by omega)
   refine⟨?_,g2⟩
   rw [←g1];unfold Hg;refine Jg ?_;simp only [Hf,hsh,DJ];rw [if_pos hf]
  ·rw [if_neg hf]
   refine⟨?_,h1⟩
   unfold Hg;refine EH ?_;simp only [Hf,hsh,DJ];rw [if_neg hf]
theorem zu(T7 T71:List (List Int)){v i:Nat}(hv:v<en.length)(hi:i<(en.getD v default).length)(q:Bool×List (List Int))(hq:OkM en n q.2):
  Mq (n:Int) (D:Int) ns es en ids inp T7 T71 (v:Int) (i:Int) (q.2,q.1,0)=some ((l9 (JF en ns es n D) n v q i).2,(l9 (JF en ns es n D) n v q i).1):=by
 have hn:=C.hn;have key:=Oc (fun w=>Ho (n:Int) (D:Int) ns es en ids inp T7 T71 (v:Int) (i:Int) w.1 w.2.1 w.2.2) (fun k q=>(q.2,q.1,(k:Int))) (fun _ q=>OkM en n q.2) (List.range n) (stA (JF en ns es n D) v i) (fun q=>(q.2,q.1)) ?_ ?_ q hq
 ·exact key.1
 ·intro a q ha hq;rw [Tf]at ha
  refine⟨?_,(nG _ hv hi q hq _).1⟩
  rw [Te];have hl:=hq.len;have hrow:=hq.row v hv;have hm:=hq.le hn hv hi;have hsi:Kz ((q.2.getD v default).getD i default) (a:Int)=some (Dh (Qu q.2 v i) a):=Uf _ a hm (by omega)
  have hu:IntKind.u64.wrap (a:Int)=(a:Int):=TQ _ (by omega)
  simp only [Ho,IV,hu];rw [if_pos (CJ ha),BJ (by omega),BJ (by omega),hsi,DJ,Kh a (by omega)]
  unfold stA
  cases hh:Dh (Qu q.2 v i) a with
  |true=>
   rw [if_pos rfl,Yd ids inp C.hN hq hn C.hD C.hs C.he C.hc hv hi ha hh,DJ,OH]
   cases JF en ns es n D q.2 v i a with
   |true=>rw [if_pos rfl];rfl
   |false=>
    have hge:=xR hm.1 hh;have hp:(0:Int)<2 ^ a:=Int.pow_pos (by decide)
    rw [if_neg (by decide),BJ (by omega),Ye a (by omega),J9 _ (by unfold Qu at hm hge;omega)];rfl
  |false=>rfl
 ·intro q _;simp only [Ho,Tf];rw [if_neg (Ar _)]
theorem zw(T7 T71:List (List Int)){v:Nat}(hv:v<en.length)(hT:(T71.getD v default).length=(en.getD v default).length)(q:Bool×List (List Int))(hq:OkM en n q.2):
  Mr (n:Int) (D:Int) ns es en ids inp T7 T71 (v:Int) (q.2,q.1,0)=some ((stV (JF en ns es n D) n en q v).2,(stV (JF en ns es n D) n en q v).1):=by
 have hg:=C.hN.deg v hv;have key:=Oc (fun w=>Hq (n:Int) (D:Int) ns es en ids inp T7 T71 (v:Int) w.1 w.2.1 w.2.2) (fun k q=>(q.2,q.1,(k:Int))) (fun _ q=>OkM en n q.2) (List.range (en.getD v default).length) (l9 (JF en ns es n D) n v) (fun q=>(q.2,q.1)) ?_ ?_ q hq
 ·exact key.1
 ·intro i q hi hq;rw [Tf]at hi
  refine⟨?_, ?_⟩
  ·rw [Te];simp only [Hq,IV];rw [if_pos (by omega),zu C ids inp T7 T71 hv hi q hq,DJ,Kh i (by omega)]
  ·rw [Te]
   exact(nH _ hv hi q hq).1
 ·intro q _;simp only [Hq,Tf,IV];rw [if_neg (by omega)]
theorem zx(T7:List (List Int))(hT:T7.length=en.length)(q:Bool×List (List Int))(hq:OkM en n q.2):
  Ms (n:Int) (D:Int) ns es en ids inp T7 (q.2,q.1,0)=some ((MO (JF en ns es n D) n en q).2,(MO (JF en ns es n D) n en q).1):=by
 have hg:=C.hN.big;have key:=Oc (fun w=>Hr (n:Int) (D:Int) ns es en ids inp T7 w.1 w.2.1 w.2.2) (fun k q=>(q.2,q.1,(k:Int))) (fun _ q=>OkM en n q.2) (List.range en.length) (stV (JF en ns es n D) n en) (fun q=>(q.2,q.1)) ?_ ?_ q hq
 ·exact key.1
 ·intro v q hv hq;rw [Tf]at hv
  refine⟨?_, ?_⟩
  ·rw [Te];have hl:=hq.len;simp only [Hr,IV];rw [if_pos (by omega),BJ (by omega),zw C ids inp T7 q.2 hv (hq.row v hv) q hq,DJ,Kh v (by omega)]
  ·rw [Te]
   exact(nI _ hv q hq).1
 ·intro q _;simp only [Hr,Tf];rw [if_neg (by omega)]
theorem jg: ∀(k:Nat) (M:List (List Int)),OkM en n M→wt M<k→GJ (n:Int) (D:Int) ns es en ids inp (M,true)=some (jf (JF en ns es n D) n en k M)
 |0,M,hM,hk=>by have:=hM.nonneg;omega
 |k+1,M,hM,hk=>by
  obtain⟨h1,h2⟩:=og (n:=n) (JF en ns es n D) (false,M) hM
  have hst:Ht (n:Int) (D:Int) ns es en ids inp M true=some (.inl ((MO (JF en ns es n D) n en (false,M)).2,(MO (JF en ns es n D) n en (false,M)).1)):=by
   have:=zx C ids inp M hM.len (false,M) hM
   dsimp only at this;simp only [Ht,if_true,this,DJ]
  have h3:GJ (n:Int) (D:Int) ns es en ids inp (M,true)=GJ (n:Int) (D:Int) ns es en ids inp ((MO (JF en ns es n D) n en (false,M)).2,(MO (JF en ns es n D) n en (false,M)).1):=by
   unfold GJ;exact Jg hst
  rw [h3];unfold jf;by_cases hf:(MO (JF en ns es n D) n en (false,M)).1=true
  ·have hlt:wt (MO (JF en ns es n D) n en (false,M)).2<wt M:=by
    rcases h2 with e|e
    ·rw [e]at hf;cases hf
    ·exact e.2
   rw [if_pos hf,hf];exact jg k _ h1 (by omega)
  ·rw [if_neg hf,Fx.2 hf];unfold GJ;refine EH ?_;simp only [Ht];rw [if_neg (by decide)]
end
end Go.Proofs.YtiehjihckndgkaaGreat
