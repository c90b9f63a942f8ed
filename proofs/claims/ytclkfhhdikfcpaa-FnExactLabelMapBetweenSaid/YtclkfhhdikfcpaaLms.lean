/- Images that a configuration supports, as a relation. Conditions: those in each lemma. -/
import Derived.Test.YtclkfhhdikfcpaaL6
import Derived.Test.YtclkfhhdikfcpaaLmt
import Derived.Test.YtclkfhhdikfcpaaLmp
namespace Go.Proofs.Ytclkfhhdikfcpaa
open Go Dv
set_option linter.unusedSimpArgs false
set_option linter.unusedVariables false
set_option maxRecDepth 100000
def Tg(S c d:List Int)(q:Nat):Prop:=d.length≤c.length∧ ∀i,i<d.length→(0≤d.getD i default∧d.getD i default<q)∧Bv (S.getD (c.getD i default).toNat default) (d.getD i default).toNat=true∧(0<i→c.getD (i-1) default=c.getD i default→d.getD (i-1) default=d.getD i default)
def Le(l:List (List Int))(S c d:List Int)(q:Nat):Prop:=d.length=c.length∧Tg S c d q∧l.contains (Dp d)=true
structure OkV(p:Nat)(M:List Int):Prop where
 len:M.length=p
 rng: ∀a,a<p→0≤M.getD a default∧M.getD a default≤255
theorem OkV.set{p:Nat}{M:List Int}(h:OkV p M)(a:Nat){x:Int}(hx:0≤x∧x≤255):OkV p (M.set a x):=by
 refine⟨by rw [Pe];exact h.len,fun b hb=> ?_⟩
 have:=h.len
 rw [Av _ _ (by rw [Pe];omega),List.getElem_set]
 split
 ·exact hx
 ·have:=h.rng b hb
  rwa [Av _ _ (by omega)]at this
theorem Jy{M:List Int}{a:Nat}{x:Int}(b:Nat)(ha:a<M.length):(M.set a x).getD b default=if a=b then x else M.getD b default:=by
 by_cases e:a=b
 ·subst e;rw [if_pos rfl,Av _ _ (by rw [Pe];exact ha),List.getElem_set_self]
 ·rw [if_neg e,JL,List.getElem?_set_ne e,←JL]
def jd(p:Nat)(P:Nat→Nat→Prop)(M M':List Int):Prop:=OkV p M'∧ ∀a b,a<p→b<8→(Bv (M'.getD a default) b=true↔Bv (M.getD a default) b=true∨P a b)
structure CfgC(c:List Int)(p:Nat):Prop where
 len:1≤c.length∧c.length≤4
 rng: ∀i,i<c.length→0≤c.getD i default∧c.getD i default<p
theorem Ea{α:Type}[Inhabited α](a b:List α)(i:Nat)(h:i<a.length):(a++b).getD i default=a.getD i default:=by
 rw [JL,Ma h,←JL]
theorem Jf{α:Type}[Inhabited α](a:List α)(x:α):(a++[x]).getD a.length default=x:=by
 rw [DU _ _ _ rfl (by simp)];rfl
section
variable (x0 x1 x5:Int) (x2 x3 x6 x7:List (List Int)) (x8 x9:List Bool)
theorem dU{l:List (List Int)}{S c ch M:List Int}{p q:Nat}(hc:CfgC c p)(hq:q≤8)(hM:OkV p M)(hch:Tg S c ch q)(hl:ch.length=c.length):
  ∃M',Dt c S ch (0,M)=some M'∧jd p (fun a b=> ∃i,i<c.length∧c.getD i default=(a:Int)∧ch.getD i default=(b:Int)) M M':=by
 unfold Dt;have h4:=hc.len;have key:=Nc (fun v=>DC c S ch v.1 v.2) (fun n s=> ∃k:Nat,n=ch.length-k∧k≤ch.length∧s.1=(k:Int)∧jd p (fun a b=> ∃i,i<k∧c.getD i default=(a:Int)∧ch.getD i default=(b:Int)) M s.2)
  (fun M'=>jd p (fun a b=> ∃i,i<c.length∧c.getD i default=(a:Int)∧ch.getD i default=(b:Int)) M M') ?_ ch.length ((0:Int),M) ⟨0,rfl,by omega,rfl,hM,fun a b _ _=>⟨fun h=> .inl h,fun h=>by
   rcases h with h|⟨i,hi,_⟩
   ·exact h
   ·omega⟩⟩
 ·exact key
 ·rintro n ⟨k',M1⟩ ⟨k,hn,hk,ek,hR⟩
  dsimp only at ek hR;subst ek;simp only [DC,KP];by_cases c1:k<ch.length
  ·have hr:=hc.rng k (by omega)
   obtain⟨hd,_,_⟩:=hch.2 k c1;have hML:=hR.1.len;have hm:=hR.1.rng (c.getD k default).toNat (by omega)
   obtain⟨o1,o2,o3⟩:=zg (M1.getD (c.getD k default).toNat default) (ch.getD k default).toNat hm (by omega)
   have hsh:IntKind.i64.wrap (1*2 ^ (min (ch.getD k default).toNat IntKind.i64.bits))=2 ^ (ch.getD k default).toNat:=by
    have:min (ch.getD k default).toNat IntKind.i64.bits=(ch.getD k default).toNat:=by show min _ 64=_;omega
    have h1:(2:Int) ^ (ch.getD k default).toNat≤2 ^ 7:=Nl (by omega)
    have h2:(0:Int)<2 ^ (ch.getD k default).toNat:=Int.pow_pos (by decide)
    have e7:(2:Int) ^ 7=128:=by decide
    rw [this,Int.one_mul,IK _ (by omega)]
   rw [if_pos (by omega),CU (by omega),CU (by omega),CU (by omega),CU (by omega),hsh,Ny k (by omega)]
   left
   refine⟨_,ch.length-(k+1),rfl,by omega,k+1,rfl,by omega,rfl,hR.1.set _ ⟨o1,o2⟩,fun a b ha hb=> ?_⟩
   dsimp only;rw [Jy _ (by omega)]
   have hold:=hR.2 a b ha hb;by_cases e:(c.getD k default).toNat=a
   ·rw [if_pos e,o3,OT,decide_eq_true_eq,e,hold]
    constructor
    ·rintro((h|⟨i,hi,h1,h2⟩)|h)
     ·exact .inl h
     ·exact .inr ⟨i,by omega,h1,h2⟩
     ·exact .inr ⟨k,by omega,by omega,by omega⟩
    ·rintro(h|⟨i,hi,h1,h2⟩)
     ·exact .inl (.inl h)
     ·by_cases ei:i=k
      ·subst ei;exact .inr (by omega)
      ·exact .inl (.inr ⟨i,by omega,h1,h2⟩)
   ·rw [if_neg e,hold]
    constructor
    ·rintro(h|⟨i,hi,h1,h2⟩)
     ·exact .inl h
     ·exact .inr ⟨i,by omega,h1,h2⟩
    ·rintro(h|⟨i,hi,h1,h2⟩)
     ·exact .inl h
     ·by_cases ei:i=k
      ·subst ei;exact absurd (by omega) e
      ·exact .inr ⟨i,by omega,h1,h2⟩
  ·rw [if_neg (by omega)]
   right
   refine⟨_,rfl, ?_⟩
   have:k=c.length:=by omega
   subst this;exact hR
theorem je{l:List (List Int)}{S c ch M:List Int}{q:Nat}(T:List Bool)(hq:q≤8)(h4:ch.length≤4)(hx: ∀x∈ch,0≤x∧x<q):Dr x0 x1 x2 x3 (q:Int) x5 x6 x7 x8 x9 T c S ch M (0,0)=some (L8 q ch:Int):=by
 unfold Dr;have key:=Hy (fun v=>Cc x0 x1 x2 x3 (q:Int) x5 x6 x7 x8 x9 T c S ch M v.1 v.2) (fun k=>((L8 q (ch.take k):Int),(k:Int))) ch.length (L8 q ch:Int) ?_ ?_
 ·exact key
 ·intro k hk;have hx1:=hx _ (Ij hk)
  have hb: ∀j,j≤4→L8 q (ch.take j)≤4096:=fun j hj=>by
   have h1:=(PU q (ch.take j).length (ch.take j) rfl (fun x hx'=>hx x (List.mem_of_mem_take hx'))).1;have h2:=QP (b:=q) (s:=(ch.take j).length) hq (by rw [Pd];omega)
   omega
  have h1:=hb k (by omega)
  have h2:=hb (k+1) (by omega)
  have e:L8 q (ch.take (k+1))=L8 q (ch.take k)*q+(ch[k]).toNat:=by
   rw [dm hk,V3]
  have e2:((L8 q (ch.take k):Nat):Int)*(q:Int)=((L8 q (ch.take k)*q:Nat):Int):=by rw [Int.natCast_mul]
  simp only [Cc,KP];rw [if_pos (by omega),CU (by omega),Av _ _ hk,e2,IK ((L8 q (ch.take k)*q:Nat):Int) (by omega),IK _ (by omega),Ny k (by omega),e]
  congr 3
  omega
 ·simp only [Cc];rw [if_neg (CY _),VD]
theorem PY{l:List (List Int)}{S c:List Int}{p q:Nat}(hc:CfgC c p)(hp:p≤8)(hq:q≤8)(hS:OkV p S): ∀(m fuel:Nat) (ch M:List Int),ch.length+m=c.length→m<fuel→Tg S c ch q→OkV p M→
  ∃M',BP fuel x0 x1 x2 x3 (q:Int) x5 x6 x7 x8 x9 (Bd l q c.length) c S ch M=some (S,ch,M')∧jd p (fun a b=> ∃d,Le l S c d q∧d.take ch.length=ch∧ ∃i,i<c.length∧c.getD i default=(a:Int)∧d.getD i default=(b:Int)) M M'
 |0,0,_,_,_,hf,_,_=>by omega
 |0,fuel+1,ch,M,hm,_,hch,hM=>by
  have h4:=hc.len
  have hx: ∀x∈ch,0≤x∧x<q:=fun x hx=>by
   obtain⟨i,hi,rfl⟩:=RV hx;have:=(hch.2 i hi).1
   rwa [Av _ _ hi]at this
  have hn:=(PU q c.length ch (by omega) hx).1
  show ∃M',Ci (BP fuel) x0 x1 x2 x3 (q:Int) x5 x6 x7 x8 x9 (Bd l q c.length) c S ch M=_∧_
  unfold Ci;rw [if_neg (by omega),je x0 x1 x5 x2 x3 x6 x7 x8 x9 (l:=l) (Bd l q c.length) hq (by omega) hx,Ee,CU (by rw [Ta];omega),KP,dR l q c.length ch (by omega) hx]
  by_cases hg:l.contains (Dp ch)=true
  ·obtain⟨M',e1,e2⟩:=dU (l:=l) hc hq hM hch (by omega)
   rw [if_pos hg,e1,Ee]
   refine⟨M',rfl,e2.1,fun a b ha hb=> ?_⟩
   rw [e2.2 a b ha hb]
   constructor
   ·rintro(h|⟨i,hi,h1,h2⟩)
    ·exact .inl h
    ·exact .inr ⟨ch,⟨by omega,hch,hg⟩,VD,i,hi,h1,h2⟩
   ·rintro(h|⟨d,hd,ht,i,hi,h1,h2⟩)
    ·exact .inl h
    ·have:d=ch:=by rw [←ht,List.take_of_length_le (by have:=hd.1;omega)]
     subst this;exact .inr ⟨i,hi,h1,h2⟩
  ·rw [if_neg hg]
   refine⟨M,rfl,hM,fun a b ha hb=>⟨fun h=> .inl h, ?_⟩⟩
   rintro(h|⟨d,hd,ht,_⟩)
   ·exact h
   ·have:d=ch:=by rw [←ht,List.take_of_length_le (by have:=hd.1;omega)]
    subst this;exact absurd hd.2.2 hg
 |m+1,0,_,_,_,hf,_,_=>by omega
 |m+1,fuel+1,ch,M,hm,hf,hch,hM=>by
  have h4:=hc.len;have hk:ch.length<c.length:=by omega
  have hr:=hc.rng ch.length hk;have hSL:=hS.len;have hs:=hS.rng (c.getD ch.length default).toNat (by omega)
  show ∃M',Ci (BP fuel) x0 x1 x2 x3 (q:Int) x5 x6 x7 x8 x9 (Bd l q c.length) c S ch M=_∧_
  unfold Ci;rw [if_pos (by omega)]
  have key:=Nc (fun v=>D9 (BP fuel) x0 x1 x2 x3 (q:Int) x5 x6 x7 x8 x9 (Bd l q c.length) c ch v.1 v.2.1 v.2.2)
   (fun n s=> ∃b:Nat,n=q-b∧b≤q∧s.1=(b:Int)∧s.2.1=S∧jd p (fun a x=> ∃d,Le l S c d q∧d.take ch.length=ch∧d.getD ch.length default<(b:Int)∧ ∃i,i<c.length∧c.getD i default=(a:Int)∧d.getD i default=(x:Int)) M s.2.2)
   (fun r=>r.1=S∧jd p (fun a x=> ∃d,Le l S c d q∧d.take ch.length=ch∧ ∃i,i<c.length∧c.getD i default=(a:Int)∧d.getD i default=(x:Int)) M r.2) ?_ q ((0:Int),S,M) ⟨0,rfl,by omega,rfl,rfl,hM,fun a x _ _=>⟨fun h=> .inl h,fun h=>by
    rcases h with h|⟨d,hd,_,hlt,_⟩
    ·exact h
    ·have:=(hd.2.1.2 ch.length (by have:=hd.1;omega)).1;omega⟩⟩
  ·obtain⟨r,hr',e1,e2⟩:=key;have hr2:Ew (BP fuel) x0 x1 x2 x3 (q:Int) x5 x6 x7 x8 x9 (Bd l q c.length) c ch (0,S,M)=some r:=hr';rw [hr2,Ee]
   exact⟨r.2,by rw [e1],e2⟩
  ·rintro n ⟨b',S1,M1⟩ ⟨b,hn,hb,eb,eS,hR⟩
   dsimp only at eb eS hR;subst eb;subst eS
   have zq: ∀M2,jd p (fun a x=> ∃d,Le l S1 c d q∧d.take (ch++[(b:Int)]).length=ch++[(b:Int)]∧ ∃i,i<c.length∧c.getD i default=(a:Int)∧d.getD i default=(x:Int)) M1 M2→
     jd p (fun a x=> ∃d,Le l S1 c d q∧d.take ch.length=ch∧d.getD ch.length default<((b+1:Nat):Int)∧ ∃i,i<c.length∧c.getD i default=(a:Int)∧d.getD i default=(x:Int)) M M2:=by
    intro M2 h2
    refine⟨h2.1,fun a x ha hx=> ?_⟩
    rw [h2.2 a x ha hx,hR.2 a x ha hx]
    constructor
    ·rintro((h|⟨d,h1,h3,h5,h6⟩)|⟨d,h1,h3,h5⟩)
     ·exact .inl h
     ·exact .inr ⟨d,h1,h3,by omega,h6⟩
     ·have hlen:(ch++[(b:Int)]).length=ch.length+1:=by simp
      rw [hlen]at h3;have hdl:=h1.1
      have e1:d.take ch.length=ch:=by
       have:=congrArg (List.take ch.length) h3
       rwa [List.take_take,Nat.min_eq_left (by omega),af (I7 _),VD]at this
      have e2:d.getD ch.length default=(b:Int):=by
       have:=congrArg (fun z=>z.getD ch.length default) h3
       simp only [Jf]at this;rw [←this,JL,JL,Mc (by omega)]
      exact .inr ⟨d,h1,e1,by omega,h5⟩
    ·rintro(h|⟨d,h1,h3,h5,h6⟩)
     ·exact .inl (.inl h)
     ·by_cases e:d.getD ch.length default=(b:Int)
      ·refine .inr ⟨d,h1, ?_,h6⟩;have hdl:=h1.1;rw [Jz,ai,dm (by omega),h3]
       rw [Av _ _ (by omega)]at e
       rw [e]
      ·exact .inl (.inr ⟨d,h1,h3,by omega,h6⟩)
   have skip:(∀d,Le l S1 c d q→d.take ch.length=ch→d.getD ch.length default≠(b:Int))→
     jd p (fun a x=> ∃d,Le l S1 c d q∧d.take ch.length=ch∧d.getD ch.length default<((b+1:Nat):Int)∧ ∃i,i<c.length∧c.getD i default=(a:Int)∧d.getD i default=(x:Int)) M M1:=by
    intro hno
    refine⟨hR.1,fun a x ha hx=> ?_⟩
    rw [hR.2 a x ha hx]
    constructor
    ·rintro(h|⟨d,h1,h3,h5,h6⟩)
     ·exact .inl h
     ·exact .inr ⟨d,h1,h3,by omega,h6⟩
    ·rintro(h|⟨d,h1,h3,h5,h6⟩)
     ·exact .inl h
     ·have:=hno d h1 h3
      exact .inr ⟨d,h1,h3,by omega,h6⟩
   have hget: ∀(d:List Int),d.take ch.length=ch→ ∀j,j<ch.length→d.getD j default=ch.getD j default:=fun d hd j hj=>by
    rw [←hd,JL,JL,Mc hj]
   simp only [D9,KP];by_cases c1:b<q
   ·have hlast:IntKind.i64.wrap ((ch.length:Int)-1)=(ch.length:Int)-1:=IK _ (by omega)
    have go:(0<ch.length→c.getD (ch.length-1) default=c.getD ch.length default→ch.getD (ch.length-1) default=(b:Int))→Bv (S1.getD (c.getD ch.length default).toNat default) b=true→
      ∃M2,((Gy ch).bind fun PR=>ck (PR.length+1<1099511627776)<|(BP fuel x0 x1 x2 x3 (q:Int) x5 x6 x7 x8 x9 (Bd l q c.length) c S1 (PR++[(b:Int)]) M1).bind fun PS=>(some (Sum.inl (((b+1:Nat):Int),PS.1,PS.2.2)):Option ((Int×List Int×List Int)⊕(List Int×List Int))))=some (Sum.inl (((b+1:Nat):Int),S1,M2))∧
       jd p (fun a x=> ∃d,Le l S1 c d q∧d.take ch.length=ch∧d.getD ch.length default<((b+1:Nat):Int)∧ ∃i,i<c.length∧c.getD i default=(a:Int)∧d.getD i default=(x:Int)) M M2:=by
     intro hadj hhas
     have hok:Tg S1 c (ch++[(b:Int)]) q:=by
      refine⟨by simp;omega,fun i hi=> ?_⟩
      rw [Jz,ai]at hi;by_cases e:i=ch.length
      ·subst e;rw [Jf]
       refine⟨by omega,by rw [KP];exact hhas,fun h0 h1=> ?_⟩
       rw [Ea _ _ _ (by omega)]
       exact hadj h0 h1
      ·rw [Ea _ _ _ (by omega)]
       obtain⟨g1,g2,g3⟩:=hch.2 i (by omega)
       refine⟨g1,g2,fun h0 h1=> ?_⟩
       rw [Ea _ _ _ (by omega)]
       exact g3 h0 h1
     obtain⟨M2,e1,e2⟩:=PY (l:=l) hc hp hq hS m fuel (ch++[(b:Int)]) M1 (by simp;omega) (by omega) hok hR.1
     refine⟨M2, ?_,zq M2 e2⟩
     unfold Gy;rw [CU (by omega),Ee,CU (by omega),e1,Ee]
    have hno1:Bv (S1.getD (c.getD ch.length default).toNat default) b=false→ ∀d,Le l S1 c d q→d.take ch.length=ch→d.getD ch.length default≠(b:Int):=by
     intro hf' d hd _ e;have:=(hd.2.1.2 ch.length (by have:=hd.1;omega)).2.1
     rw [e,KP,hf']at this;cases this
    rw [if_pos (by omega),CU (by omega),CU (by omega),Tc _ b hs (by omega),Ee,Ny b (by omega)]
    cases hh:Bv (S1.getD (c.getD ch.length default).toNat default) b with
    |false=>
     rw [if_neg (by decide)]
     exact .inl ⟨_,q-(b+1),rfl,by omega,b+1,rfl,by omega,rfl,rfl,skip (hno1 hh)⟩
    |true=>
     rw [if_pos rfl];by_cases c2:ch.length=0
     ·obtain⟨M2,e1,e2⟩:=go (fun h0=>by omega) hh
      rw [if_pos (by omega),e1]
      exact .inl ⟨_,q-(b+1),rfl,by omega,b+1,rfl,by omega,rfl,rfl,e2⟩
     ·have et:((ch.length:Int)-1).toNat=ch.length-1:=by omega
      rw [if_neg (by omega),hlast,et,CU (by omega)]
      by_cases c3:c.getD (ch.length-1) default=c.getD ch.length default
      ·rw [if_pos c3,CU (by omega)]
       by_cases c4:ch.getD (ch.length-1) default=(b:Int)
       ·obtain⟨M2,e1,e2⟩:=go (fun _ _=>c4) hh;rw [if_pos c4,e1];exact .inl ⟨_,q-(b+1),rfl,by omega,b+1,rfl,by omega,rfl,rfl,e2⟩
       ·rw [if_neg c4];refine .inl ⟨_,q-(b+1),rfl,by omega,b+1,rfl,by omega,rfl,rfl,skip fun d hd ht e=> ?_⟩
        have:=(hd.2.1.2 ch.length (by have:=hd.1;omega)).2.2 (by omega) c3
        rw [hget d ht _ (by omega),e]at this
        exact c4 this
      ·obtain⟨M2,e1,e2⟩:=go (fun _ h=>absurd h c3) hh;rw [if_neg c3,e1];exact .inl ⟨_,q-(b+1),rfl,by omega,b+1,rfl,by omega,rfl,rfl,e2⟩
   ·rw [if_neg (by omega)]
    right
    refine⟨_,rfl,rfl,hR.1,fun a x ha hx=> ?_⟩
    dsimp only;rw [hR.2 a x ha hx]
    constructor
    ·rintro(h|⟨d,h1,h3,_,h6⟩)
     ·exact .inl h
     ·exact .inr ⟨d,h1,h3,h6⟩
    ·rintro(h|⟨d,h1,h3,h6⟩)
     ·exact .inl h
     ·have:=(h1.2.1.2 ch.length (by have:=h1.1;omega)).1
      exact .inr ⟨d,h1,h3,by omega,h6⟩
end
end Go.Proofs.Ytclkfhhdikfcpaa
