/- Sets of images that are narrowed. Conditions: those in each lemma. -/
import Derived.Test.YtclkfhhdikfcpaaL6
import Derived.Test.YtclkfhhdikfcpaaLms
namespace Go.Proofs.Ytclkfhhdikfcpaa
open Go Dv
set_option linter.unusedSimpArgs false
set_option linter.unusedVariables false
set_option maxRecDepth 100000
theorem YX: ∀(l:List Int) (i:Nat) (x:Int),i<l.length→(l.set i x).sum=l.sum-l.getD i default+x
 |y::l,0,x,_=>by simp;omega
 |y::l,i+1,x,h=>by
  have ih:=YX l i x (by simpa using h)
  simp only [VC,List.sum_cons,List.getD_cons_succ];omega
theorem Qk: ∀(l:List Int),(∀x∈l,0≤x)→0≤l.sum
 | [],_=>by simp
 |y::l,h=>by
  have:=Qk l fun x hx=>h x (Il _ hx)
  have:=h y Jm
  rw [List.sum_cons];omega
theorem OkV.nonneg{p:Nat}{S:List Int}(h:OkV p S):0≤S.sum:=by
 refine Qk _ fun x hx=> ?_;obtain⟨i,hi,rfl⟩:=RV hx;have:=h.len
 have:=(h.rng i (by omega)).1
 rwa [Av _ _ hi]at this
structure NarC(ns es ms fs:List (List Int))(p q D:Nat):Prop where
 two:TwoQ ns es ms fs p q
 p1:1≤p
 D4:1≤D∧D≤4
 nl: ∀c∈ns,c.length=D
 el: ∀c∈es,c.length=2
 sml:es.length+ns.length<1099511627776
structure GoodF(ns es ms fs:List (List Int))(p q:Nat)(f:List Int):Prop where
 map:Jk ns es ms fs f=true
 len:f.length=p
 rng: ∀x∈f,0≤x∧x<q
def aZ(p:Nat)(f S:List Int):Prop:= ∀a,a<p→Bv (S.getD a default) (f.getD a default).toNat=true
def mo(l:List (List Int))(S c:List Int)(q:Nat):Prop:= ∀i,i<c.length→ ∀x,x<8→Bv (S.getD (c.getD i default).toNat default) x=true→ ∃d,Le l S c d q∧ ∃j,j<c.length∧c.getD j default=c.getD i default∧d.getD j default=(x:Int)
structure NarR(ns es ms fs:List (List Int))(p q:Nat)(u v:Bool×List Int):Prop where
 ok:OkV p v.2
 snd: ∀f,GoodF ns es ms fs p q f→aZ p f u.2→aZ p f v.2
 sub: ∀a b,a<p→b<8→Bv (v.2.getD a default) b=true→Bv (u.2.getD a default) b=true
 dn:v=u∨(v.1=true∧v.2.sum<u.2.sum)
theorem NarR.refl{ns es ms fs:List (List Int)}{p q:Nat}{u:Bool×List Int}(h:OkV p u.2):NarR ns es ms fs p q u u:=⟨h,fun _ _ h=>h,fun _ _ _ _ h=>h,.inl rfl⟩
theorem NarR.trans{ns es ms fs:List (List Int)}{p q:Nat}{u v w:Bool×List Int}(h:NarR ns es ms fs p q u v)(g:NarR ns es ms fs p q v w):NarR ns es ms fs p q u w:=by
 refine⟨g.ok,fun f hf hs=>g.snd f hf (h.snd f hf hs),fun a b ha hb hw=>h.sub a b ha hb (g.sub a b ha hb hw), ?_⟩
 rcases h.dn with e|⟨e1,e2⟩
 ·rw [←e];exact g.dn
 ·rcases g.dn with e|⟨e3,e4⟩
  ·rw [e];exact .inr ⟨e1,e2⟩
  ·exact .inr ⟨e3,by omega⟩
theorem jg{ns es ms fs:List (List Int)}{p q:Nat}{f S c:List Int}{l:List (List Int)}(hf:GoodF ns es ms fs p q f)(hS:aZ p f S)(hc:CfgC c p)(hl:Dp (c.map (Je f))∈l):Le l S c (c.map (Je f)) q:=by
 have hg: ∀i,i<c.length→(c.map (Je f)).getD i default=f.getD (c.getD i default).toNat default:=fun i hi=>by
  rw [Av _ _ (by rw [Ql];exact hi),List.getElem_map,Av c i hi];rfl
 refine⟨by rw [Ql],⟨by rw [Ql];omega,fun i hi=> ?_⟩,RU.2 hl⟩
 rw [Ql]at hi;have hr:=hc.rng i hi;have hfl:=hf.len;rw [hg i hi]
 refine⟨?_,hS _ (by omega),fun h0 h1=> ?_⟩
 ·have:=hf.rng (f.getD (c.getD i default).toNat default) (by rw [Av _ _ (by omega)];exact Ij _)
  exact this
 ·rw [hg (i-1) (by omega),h1]
section
variable {ns es ms fs:List (List Int)} {p q D:Nat} (C:NarC ns es ms fs p q D)
include C
theorem Zx{t:Nat}(ht:t<(es++ns).length):CfgC ((es++ns).getD t default) p:=by
 have hm:(es++ns).getD t default∈es++ns:=by rw [Av _ _ ht];exact Ij ht
 have hD:=C.D4;rcases MS.1 hm with h|h
 ·refine⟨by have:=C.el _ h;omega,fun i hi=> ?_⟩
  rw [Av _ i hi];exact C.two.ge.rng _ h _ (Ij hi)
 ·refine⟨by have:=C.nl _ h;omega,fun i hi=> ?_⟩
  rw [Av _ i hi];exact C.two.gn.rng _ h _ (Ij hi)
omit C in
def V6(es ms fs:List (List Int))(t:Nat):List (List Int):=if t<es.length then fs else ms
omit C in
theorem zh{f:List Int}(hf:GoodF ns es ms fs p q f){t:Nat}(ht:t<(es++ns).length):Dp (((es++ns).getD t default).map (Je f))∈V6 es ms fs t:=by
 obtain⟨h1,h2⟩:=Nn.1 hf.map;unfold V6;split
 ·rename_i h
  refine h2 _ ?_;rw [Ea _ _ _ h,Av _ _ h];exact Ij h
 ·rename_i h
  refine h1 _ ?_;rw [Av _ _ ht,List.getElem_append_right (by omega)];exact Ij _
theorem zi(t:Nat)(ht:t<(es++ns).length){S1 M':List Int}{r:List Int×List Int×List Int}(hr:r.2.2=M')(u:Bool)(hS:OkV p S1)
  (hM:jd p (fun a b=> ∃d,Le (V6 es ms fs t) S1 ((es++ns).getD t default) d q∧d.take 0=[]∧ ∃i,i<((es++ns).getD t default).length∧((es++ns).getD t default).getD i default=(a:Int)∧d.getD i default=(b:Int)) (List.replicate p 0) M'):
  ∃v,Cj (p:Int) (D:Int) ns es (q:Int) (D:Int) ms fs (Bd ms q D) (Bd fs q 2) (t:Int) r (S1,u,0)=some (v.2,v.1)∧NarR ns es ms fs p q (u,S1) v∧(v.1=false→mo (V6 es ms fs t) S1 ((es++ns).getD t default) q):=by
 have hc:=Zx C ht;have h4:=hc.len
 have hmk: ∀a b,a<p→b<8→(Bv (M'.getD a default) b=true↔ ∃d,Le (V6 es ms fs t) S1 ((es++ns).getD t default) d q∧d.take 0=[]∧ ∃i,i<((es++ns).getD t default).length∧((es++ns).getD t default).getD i default=(a:Int)∧d.getD i default=(b:Int)):=fun a b ha hb=>by
  rw [hM.2 a b ha hb]
  have:Bv ((List.replicate p (0:Int)).getD a default) b=false:=by
   rw [Av _ _ (by rw [Yb];exact ha),List.getElem_replicate]
   unfold Bv
   simp
  rw [this];simp
 unfold Cj;have key:=Nc (fun w=>DY (p:Int) (D:Int) ns es (q:Int) (D:Int) ms fs (Bd ms q D) (Bd fs q 2) (t:Int) r w.1 w.2.1 w.2.2)
  (fun n s=> ∃k:Nat,n=((es++ns).getD t default).length-k∧k≤((es++ns).getD t default).length∧s.2.2=(k:Int)∧NarR ns es ms fs p q (u,S1) (s.2.1,s.1)∧(s.2.1=false→s.1=S1∧ ∀i,i<k→ ∀x,x<8→Bv (S1.getD (((es++ns).getD t default).getD i default).toNat default) x=true→Bv (M'.getD (((es++ns).getD t default).getD i default).toNat default) x=true))
  (fun o=>NarR ns es ms fs p q (u,S1) (o.2,o.1)∧(o.2=false→mo (V6 es ms fs t) S1 ((es++ns).getD t default) q)) ?_ ((es++ns).getD t default).length (S1,u,(0:Int)) ⟨0,rfl,by omega,rfl,NarR.refl hS,fun _=>⟨rfl,fun i hi=>by omega⟩⟩
 ·obtain⟨o,h1,h2,h3⟩:=key
  exact⟨(o.2,o.1),h1,h2,h3⟩
 ·rintro n ⟨S2,g,k'⟩ ⟨k,hn,hk,ek,hR,hA⟩
  dsimp only at ek hR hA;subst ek;simp only [DY,KP,hr];by_cases c1:k<((es++ns).getD t default).length
  ·have hrk:=hc.rng k c1;have hok:OkV p S2:=hR.ok;have hL1:=hok.len;have hL2:=hM.1.len;have hx:=hok.rng (((es++ns).getD t default).getD k default).toNat (by omega)
   have hy:=hM.1.rng (((es++ns).getD t default).getD k default).toNat (by omega)
   obtain⟨a1,a2,a3⟩:=mh _ _ hx hy;rw [if_pos (by omega),CU (by omega),CU (by omega),CU (by omega),Ny k (by omega)]
   left
   by_cases c2:IE .and .i64 (S2.getD (((es++ns).getD t default).getD k default).toNat default) (M'.getD (((es++ns).getD t default).getD k default).toNat default)=S2.getD (((es++ns).getD t default).getD k default).toNat default
   ·rw [if_pos c2]
    refine⟨_,((es++ns).getD t default).length-(k+1),rfl,by omega,k+1,rfl,by omega,rfl,hR,fun hg=> ?_⟩
    obtain⟨e1,e2⟩:=hA hg
    refine⟨e1,fun i hi x hx' hh=> ?_⟩
    by_cases e:i=k
    ·subst e;have:=a3 x
     rw [c2,e1,hh,Bool.true_and]at this;exact this.symm
    ·exact e2 i (by omega) x hx' hh
   ·rw [if_neg c2]
    refine⟨_,((es++ns).getD t default).length-(k+1),rfl,by omega,k+1,rfl,by omega,rfl,hR.trans ⟨hok.set _ ⟨a1,by omega⟩,fun f hf hs a ha=> ?_,fun a b ha hb hh=> ?_,.inr ⟨rfl, ?_⟩⟩,fun hg=>by cases hg⟩
    ·rw [Jy _ (by omega)]
     split
     ·rename_i e
      have q8:=C.two.q8;have hfl:=hf.len
      have hfr: ∀b,b<p→0≤f.getD b default∧f.getD b default<q:=fun b hb=>by
       rw [Av _ _ (by omega)];exact hf.rng _ (Ij _)
      have hs1:aZ p f S1:=fun b hb=>hR.sub b _ hb (by have:=hfr b hb;omega) (hs b hb)
      have hfd:=jg hf hs1 hc (zh hf ht);have hva:=hfr a ha;rw [a3,Hm,e]
      refine⟨hs a ha,(hmk a _ ha (by omega)).2 ⟨_,hfd,rfl,k,c1,by omega, ?_⟩⟩
      rw [Av _ _ (by rw [Ql];exact c1),List.getElem_map]
      unfold Je;rw [←Av _ k c1,e];omega
     ·exact hs a ha
    ·dsimp only at hh;rw [Jy _ (by omega)]at hh
     split at hh
     ·rename_i e
      rw [a3,Hm,e]at hh;exact hh.1
     ·exact hh
    ·dsimp only;rw [YX _ _ _ (by omega)]
     omega
  ·rw [if_neg (by omega)]
   right
   refine⟨_,rfl,hR,fun hg=> ?_⟩
   obtain⟨e1,e2⟩:=hA hg;intro i hi x hx hh;have:=e2 i (by omega) x hx hh
   have hri:=hc.rng i hi;obtain⟨d,g1,_,j,g2,g3,g4⟩:=(hmk _ x (by omega) hx).1 this
   exact⟨d,g1,j,g2,by omega,g4⟩
omit C in
theorem zk(p:Nat):OkV p (List.replicate p (0:Int)):=⟨by simp,fun a ha=>by rw [Av _ _ (by simpa using ha),List.getElem_replicate];omega⟩
theorem zm{S0:List Int}(hS:OkV p S0):
  ∃v,ED (p:Int) (D:Int) ns es (q:Int) (D:Int) ms fs (Bd ms q D) (Bd fs q 2) (S0,false,0)=some (v.2,v.1)∧NarR ns es ms fs p q (false,S0) v∧(v.1=false→v.2=S0∧ ∀t,t<(es++ns).length→mo (V6 es ms fs t) S0 ((es++ns).getD t default) q):=by
 have hsn:=C.two.sn.1;have hse:=C.two.se.1;have p8:=C.two.p8;have q8:=C.two.q8;have hD:=C.D4;unfold ED;have key:=Nc (fun w=>DZ (p:Int) (D:Int) ns es (q:Int) (D:Int) ms fs (Bd ms q D) (Bd fs q 2) w.1 w.2.1 w.2.2)
  (fun n s=> ∃t:Nat,n=(es++ns).length-t∧t≤(es++ns).length∧s.2.2=(t:Int)∧NarR ns es ms fs p q (false,S0) (s.2.1,s.1)∧(s.2.1=false→s.1=S0∧ ∀j,j<t→mo (V6 es ms fs j) S0 ((es++ns).getD j default) q))
  (fun o=>NarR ns es ms fs p q (false,S0) (o.2,o.1)∧(o.2=false→o.1=S0∧ ∀t,t<(es++ns).length→mo (V6 es ms fs t) S0 ((es++ns).getD t default) q)) ?_ (es++ns).length (S0,false,(0:Int)) ⟨0,rfl,by omega,rfl,NarR.refl hS,fun _=>⟨rfl,fun i hi=>by omega⟩⟩
 ·obtain⟨o,h1,h2,h3⟩:=key
  exact⟨(o.2,o.1),h1,h2,h3⟩
 ·rintro n ⟨S1,g,t'⟩ ⟨t,hn,ht,et,hR,hA⟩
  dsimp only at et hR hA;subst et;have hlen:(es++ns).length=es.length+ns.length:=Jz;simp only [DZ,KP];by_cases c1:t<(es++ns).length
  ·have hc:=Zx C c1;have h0:Tg S1 ((es++ns).getD t default) [] q:=⟨by simp,fun i hi=>by simp at hi⟩
   have I6: ∀(T:List Bool),T=Bd (V6 es ms fs t) q ((es++ns).getD t default).length→ ∃s' m,((Es (p:Int) (D:Int) ns es (q:Int) (D:Int) ms fs (Bd ms q D) (Bd fs q 2) T ((es++ns).getD t default) S1 [] (List.replicate p 0)).bind fun IB=>(Cj (p:Int) (D:Int) ns es (q:Int) (D:Int) ms fs (Bd ms q D) (Bd fs q 2) (t:Int) IB (IB.1,g,0)).bind fun AO=>(some (Sum.inl (AO.1,AO.2,((t+1:Nat):Int))):Option ((List Int×Bool×Int)⊕(List Int×Bool))))=some (.inl s')∧m<n∧ ∃t:Nat,m=(es++ns).length-t∧t≤(es++ns).length∧s'.2.2=(t:Int)∧NarR ns es ms fs p q (false,S0) (s'.2.1,s'.1)∧(s'.2.1=false→s'.1=S0∧ ∀j,j<t→mo (V6 es ms fs j) S0 ((es++ns).getD j default) q):=by
    intro T hT;obtain⟨M',e1,e2⟩:=PY (p:Int) (D:Int) (D:Int) ns es ms fs (Bd ms q D) (Bd fs q 2) (l:=V6 es ms fs t) hc p8 q8 hR.ok ((es++ns).getD t default).length 1000000 [] (List.replicate p 0) (by simp) (by have:=hc.len;omega) h0 (zk p)
    obtain⟨v,g1,g2,g3⟩:=zi C t c1 (r:=(S1,[],M')) rfl g hR.ok e2;unfold Es;rw [hT,e1,Ee];dsimp only;rw [g1,Ee]
    refine⟨_,(es++ns).length-(t+1),rfl,by omega,t+1,rfl,by omega,rfl,hR.trans g2,fun hv=> ?_⟩
    dsimp only at hv ⊢
    have hv1:v=(g,S1):=by
     rcases g2.dn with e|⟨e,_⟩
     ·exact e
     ·rw [hv]at e;cases e
    have hg:g=false:=by rw [hv1]at hv;exact hv
    obtain⟨a1,a2⟩:=hA hg
    refine⟨by rw [hv1];exact a1,fun j hj=> ?_⟩
    by_cases e:j=t
    ·subst e;have:=g3 hv
     rwa [a1]at this
    ·exact a2 j (by omega)
   left
   rw [if_pos (by omega),CU (by omega),Ny t (by omega)]
   by_cases c2:t<es.length
   ·rw [if_pos (by omega),CU (by omega)]
    refine I6 _ ?_;have:((es++ns).getD t default).length=2:=C.el _ (by rw [Ea _ _ _ c2,Av _ _ c2];exact Ij c2)
    unfold V6;rw [if_pos c2,this]
   ·rw [if_neg (by omega),CU (by omega)]
    refine I6 _ ?_;have:((es++ns).getD t default).length=D:=C.nl _ (by rw [Av _ _ c1,List.getElem_append_right (by omega)];exact Ij _)
    unfold V6;rw [if_neg c2,this]
  ·rw [if_neg (by omega)]
   right
   have:t=(es++ns).length:=by omega
   subst this
   exact⟨_,rfl,hR,hA⟩
theorem jh: ∀(k:Nat) (S:List Int),OkV p S→S.sum<k→ ∃out,CJ (p:Int) (D:Int) ns es (q:Int) (D:Int) ms fs (Bd ms q D) (Bd fs q 2) (S,true)=some out∧OkV p out∧(∀f,GoodF ns es ms fs p q f→aZ p f S→aZ p f out)∧(∀a b,a<p→b<8→Bv (out.getD a default) b=true→Bv (S.getD a default) b=true)∧ ∀t,t<(es++ns).length→mo (V6 es ms fs t) out ((es++ns).getD t default) q
 |0,S,hS,hk=>by have:=hS.nonneg;omega
 |k+1,S,hS,hk=>by
  have hsn:=C.two.sn.1;have hse:=C.two.se.1;have hsm:=C.sml;obtain⟨v,h1,h2,h3⟩:=zm C hS
  have hst:CJ (p:Int) (D:Int) ns es (q:Int) (D:Int) ms fs (Bd ms q D) (Bd fs q 2) (S,true)=CJ (p:Int) (D:Int) ns es (q:Int) (D:Int) ms fs (Bd ms q D) (Bd fs q 2) (v.2,v.1):=by
   unfold CJ;refine IX ?_;simp only [Da,if_true];rw [CU (by omega),CU (by omega),h1,Ee]
  rw [hst]
  cases hv:v.1 with
  |false=>
   obtain⟨e1,e2⟩:=h3 hv
   refine⟨v.2, ?_,h2.ok,h2.snd,h2.sub,by rw [e1];exact e2⟩
   unfold CJ;refine Dy ?_;simp only [Da];rw [if_neg (by decide)]
  |true=>
   have hlt:v.2.sum<S.sum:=by
    rcases h2.dn with e|e
    ·rw [e]at hv;cases hv
    ·exact e.2
   obtain⟨out,g1,g2,g3,g4,g5⟩:=jh k v.2 h2.ok (by omega)
   exact⟨out,g1,g2,fun f hf hs=>g3 f hf (h2.snd f hf hs),fun a b ha hb hh=>h2.sub a b ha hb (g4 a b ha hb hh),g5⟩
theorem V7{S:List Int}(hS:OkV p S): ∃out,EL (p:Int) (D:Int) ns es (q:Int) (D:Int) ms fs (Bd ms q D) (Bd fs q 2) S=some (out, !out.contains (0:Int))∧OkV p out∧(∀f,GoodF ns es ms fs p q f→aZ p f S→aZ p f out)∧(∀a b,a<p→b<8→Bv (out.getD a default) b=true→Bv (S.getD a default) b=true)∧ ∀t,t<(es++ns).length→mo (V6 es ms fs t) out ((es++ns).getD t default) q:=by
 have p8:=C.two.p8;obtain⟨out,g1,g2,g3,g4,g5⟩:=jh C (S.sum.toNat+1) S hS (by have:=hS.nonneg;omega)
 refine⟨out, ?_,g2,g3,g4,g5⟩
 have h1:=hS.len;have h2:=g2.len;unfold EL Gy;rw [CU (by omega),Ee,g1,Ee,CU (by omega)]
end
end Go.Proofs.Ytclkfhhdikfcpaa
