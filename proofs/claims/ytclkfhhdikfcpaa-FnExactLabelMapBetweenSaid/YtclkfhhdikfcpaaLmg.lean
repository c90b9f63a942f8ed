/- Label maps: the reference's search agrees with the program's. Conditions: those in each lemma. -/
import Derived.Test.YtclkfhhdikfcpaaL6
import Derived.Test.YtclkfhhdikfcpaaLmn
namespace Go.Proofs.Ytclkfhhdikfcpaa
open Go Dv
set_option linter.unusedSimpArgs false
set_option linter.unusedVariables false
set_option maxRecDepth 100000
theorem ji: ∀m:Fin 256,m.val≠0→ ∃b:Fin 8,Bv (m.val:Int) b.val=true:=by decide+kernel
theorem dV{m:Int}(h:0≤m∧m≤255)(h0:m≠0): ∃b,b<8∧Bv m b=true:=by
 obtain⟨b,hb⟩:=ji ⟨m.toNat,by omega⟩ (by simp only;omega)
 simp only [show((m.toNat:Nat):Int)=m by omega]at hb
 exact⟨b.val,b.isLt,hb⟩
theorem jk(b:Nat):Bv 0 b=false:=by unfold Bv;simp
theorem zn: ∀a b:Fin 8,Bv (2 ^ a.val) b.val=decide (b=a):=by decide+kernel
theorem Ww{a b:Nat}(ha:a<8)(hb:b<8):Bv (2 ^ a) b=true↔b=a:=by
 have:=zn ⟨a,ha⟩ ⟨b,hb⟩
 simp only at this;rw [this,decide_eq_true_eq,Fin.mk.injEq]
theorem zo{a:Nat}(ha:a<8):(0:Int)≤2 ^ a∧(2:Int) ^ a≤255:=by
 have h1:(2:Int) ^ a≤2 ^ 7:=Nl (by omega)
 have h2:(0:Int)<2 ^ a:=Int.pow_pos (by decide)
 have e7:(2:Int) ^ 7=128:=by decide
 omega
theorem V8(a:Nat)(ha:a≤8):IntKind.i64.wrap (1*2 ^ (min a IntKind.i64.bits))=2 ^ a:=by
 have:min a IntKind.i64.bits=a:=by show min a 64=a;omega
 have h1:(2:Int) ^ a≤2 ^ 8:=Nl ha;have h2:(0:Int)<2 ^ a:=Int.pow_pos (by decide)
 have e8:(2:Int) ^ 8=256:=by decide
 rw [this,Int.one_mul,IK _ (by omega)]
theorem mq(m:Int)(n:Nat):(Du m n).Pairwise (fun a b=>a<b):=by
 unfold Du;rw [List.pairwise_map];refine List.Pairwise.imp (fun h=> ?_) (List.Pairwise.filter _ List.pairwise_lt_range);omega
theorem Te(m:Int)(h:0≤m∧m≤255):KM m=some (Du m 8):=by
 unfold KM JU;have key:=Hy (fun v=>FE m v.1 v.2) (fun i=>(Du m i,(i:Int))) 8 (Du m 8) ?_ ?_
 ·have e0:Du m 0=[]:=rfl;rw [e0,Jo]at key;rw [key];rfl
 ·intro i hi;have hl:=TY m i;simp only [FE];rw [if_pos (by omega),Tc m i h (by omega),Ee,Ny i (by omega),YR]
  cases Bv m i
  ·simp
  ·rw [if_pos rfl,CU (by omega),if_pos rfl]
 ·simp only [FE];rw [if_neg (by decide)]
theorem mr{α:Type}(g:Nat→Option α){n b:Nat}{x:α}(hb:b<n)(h:g b=some x)(h0: ∀j,j<b→g j=none):(List.range n).findSome? g=some x:=by
 have e:List.range n=List.range b++b::(List.range (n-b-1)).map (fun i=>b+1+i):=by
  have h1:n=b+(1+(n-b-1)):=by omega
  rw [h1,List.range_add,show b+(1+(n-b-1))-b-1=n-b-1 by omega]
  congr 1
  rw [List.range_add];simp [Function.comp_def,Nat.add_assoc]
 rw [e,List.findSome?_append];have:(List.range b).findSome? g=none:=List.findSome?_eq_none_iff.2 fun j hj=>h0 j (OA.1 hj)
 rw [this,List.findSome?_cons,h];rfl
def AAc(o:Option (List Int))(r:(List Int×Bool)⊕(List Int×Bool)):Prop:=match o with
 |some x=>r= .inl (x,true)∨r= .inr (x,true)
 |none=>r= .inr ([],false)
structure GrowH(ns es ms fs:List (List Int))(p q:Nat)(f S:List Int):Prop where
 ok:OkV p S
 all: ∀g,GoodF ns es ms fs p q g→g.take f.length=f→aZ p g S
 one: ∀i,i<f.length→ ∀b,b<8→Bv (S.getD i default) b=true→(b:Int)=f.getD i default
 low: ∀a,a<p→ ∀b,b<8→Bv (S.getD a default) b=true→b<q
 non: ∀a,a<p→S.getD a default≠0
 acs: ∀t,t<(es++ns).length→mo (V6 es ms fs t) S ((es++ns).getD t default) q
 rng: ∀x∈f,0≤x∧x<q
section
variable {ns es ms fs:List (List Int)} {p q D:Nat} (C:NarC ns es ms fs p q D)
include C
theorem jl{f S:List Int}(h:GrowH ns es ms fs p q f S)(hf:f.length=p){t:Nat}(ht:t<(es++ns).length):Dp (((es++ns).getD t default).map (Je f))∈V6 es ms fs t:=by
 have hc:=Zx C ht;have hl:=hc.len;have q8:=C.two.q8;have hr0:=hc.rng 0 (by omega)
 obtain⟨b,hb,hh⟩:=dV (h.ok.rng (((es++ns).getD t default).getD 0 default).toNat (by omega)) (h.non _ (by omega))
 obtain⟨d,hd,_⟩:=h.acs t ht 0 (by omega) b hb hh
 have e:((es++ns).getD t default).map (Je f)=d:=by
  refine List.ext_getElem (by rw [Ql];exact hd.1.symm) fun j h1 h2=> ?_
  rw [Ql]at h1;have hrj:=hc.rng j h1;obtain⟨g1,g2,_⟩:=hd.2.1.2 j h2;have:=h.one (((es++ns).getD t default).getD j default).toNat (by omega) (d.getD j default).toNat (by omega) g2
  rw [List.getElem_map];unfold Je;rw [←Av _ j h1,←Av _ j h2,←this];omega
 rw [e];exact RU.1 hd.2.2
theorem nA{f S:List Int}(h:GrowH ns es ms fs p q f S)(hf:f.length=p):Jk ns es ms fs f=true:=by
 rw [Nn];have hlen:(es++ns).length=es.length+ns.length:=Jz
 constructor
 ·intro c hc;obtain⟨j,hj,rfl⟩:=RV hc;have:=jl C h hf (t:=es.length+j) (by omega)
  unfold V6 at this;rw [if_neg (by omega),Av _ _ (by omega),List.getElem_append_right (by omega)]at this
  simpa using this
 ·intro c hc;obtain⟨j,hj,rfl⟩:=RV hc;have:=jl C h hf (t:=j) (by omega)
  unfold V6 at this;rw [if_pos hj,Ea _ _ _ hj,Av _ _ hj]at this;exact this
omit C in
theorem aa{f S out:List Int}{m:Nat}(hm:f.length+m=p)(hr: ∀x∈f,0≤x∧x<q)(hS: ∀g,GoodF ns es ms fs p q g→g.take f.length=f→aZ p g S)(hso: ∀g,GoodF ns es ms fs p q g→aZ p g S→aZ p g out)(ho:OkV p out)(h0:out.contains (0:Int)=true):KO q (Jk ns es ms fs) m f=none:=by
 rw [Ld];intro d hd hdr;apply Classical.byContradiction
 intro hg;rw [Bool.not_eq_false]at hg
 have G:GoodF ns es ms fs p q (f++d):=⟨hg,by rw [Jz];omega,fun x hx=>by
  rcases MS.1 hx with h|h
  ·exact hr x h
  ·exact hdr x h⟩
 have hs:=hso _ G (hS _ G (by rw [af (I7 _),VD]))
 obtain⟨a,ha,e⟩:=RV (RU.1 h0);have hl:=ho.len;have:=hs a (by omega)
 rw [Av _ _ ha,e,jk]at this;cases this
theorem V9: ∀(m fuel:Nat) (f S:List Int),f.length+m=p→m<fuel→GrowH ns es ms fs p q f S→
  ∃r,Bu fuel (p:Int) (D:Int) ns es (q:Int) (D:Int) ms fs (Bd ms q D) (Bd fs q 2) f S=some r∧AAc (KO q (Jk ns es ms fs) m f) r
 |0,0,_,_,_,hf,_=>by omega
 |0,fuel+1,f,S,hm,_,h=>by
  show ∃r,Dc (Bu fuel) (p:Int) (D:Int) ns es (q:Int) (D:Int) ms fs (Bd ms q D) (Bd fs q 2) f S=some r∧_
  unfold Dc;rw [if_pos (by omega)]
  refine⟨_,rfl, ?_⟩
  unfold KO;rw [if_pos (nA C h (by omega))]
  exact .inl rfl
 |m+1,0,_,_,_,hf,_=>by omega
 |m+1,fuel+1,f,S,hm,hf,h=>by
  have p8:=C.two.p8;have q8:=C.two.q8;have hSL:=h.ok.len;have hs:=h.ok.rng f.length (by omega)
  have hLl:=TY (S.getD f.length default) 8;show ∃r,Dc (Bu fuel) (p:Int) (D:Int) ns es (q:Int) (D:Int) ms fs (Bd ms q D) (Bd fs q 2) f S=some r∧_
  unfold Dc;rw [if_neg (by omega),CU (by omega),Te _ hs,Ee]
  have out_: ∀b,b<q→Bv (S.getD f.length default) b=false→KO q (Jk ns es ms fs) m (f++[(b:Int)])=none:=by
   intro b hb hh;rw [Ld];intro d hd hdr;apply Classical.byContradiction
   intro hg;rw [Bool.not_eq_false]at hg
   have G:GoodF ns es ms fs p q (f++[(b:Int)]++d):=⟨hg,by simp;omega,fun x hx=>by
    rcases MS.1 hx with hx|hx
    ·rcases MS.1 hx with hx|hx
     ·exact h.rng x hx
     ·rw [List.mem_singleton]at hx;omega
    ·exact hdr x hx⟩
   have:=h.all _ G (by rw [Pb,af (I7 _),VD]) f.length (by omega)
   rw [Ea _ _ _ (by simp),Jf,KP,hh]at this
   cases this
  have key:=Nc (fun w=>EE (Bu fuel) (p:Int) (D:Int) ns es (q:Int) (D:Int) ms fs (Bd ms q D) (Bd fs q 2) f S (Du (S.getD f.length default) 8) w)
   (fun n s=> ∃t:Nat,n=(Du (S.getD f.length default) 8).length-t∧t≤(Du (S.getD f.length default) 8).length∧s=(t:Int)∧ ∀j,j<t→KO q (Jk ns es ms fs) m (f++[(Du (S.getD f.length default) 8).getD j default])=none)
   (fun o=>(∃x,(o= .inl x∨o= .inr (.inl x))∧KO q (Jk ns es ms fs) (m+1) f=some x)∨(o= .inr (.inr ())∧KO q (Jk ns es ms fs) (m+1) f=none)) ?_ (Du (S.getD f.length default) 8).length (0:Int) ⟨0,rfl,by omega,rfl,fun j hj=>by omega⟩
  ·obtain⟨o,h1,h2⟩:=key;have h1':Gc (Bu fuel) (p:Int) (D:Int) ns es (q:Int) (D:Int) ms fs (Bd ms q D) (Bd fs q 2) f S (Du (S.getD f.length default) 8) 0=some o:=h1;rw [h1',Ee];rcases h2 with⟨x,e|e,hx⟩|⟨e,hx⟩
   ·subst e;exact⟨_,rfl,by rw [hx];exact .inl rfl⟩
   ·subst e;exact⟨_,rfl,by rw [hx];exact .inr rfl⟩
   ·subst e;exact⟨_,rfl,by rw [hx];rfl⟩
  ·rintro n t' ⟨t,hn,ht,rfl,hA⟩
   simp only [EE,KP];by_cases c1:t<(Du (S.getD f.length default) 8).length
   ·have hmem:(Du (S.getD f.length default) 8).getD t default∈Du (S.getD f.length default) 8:=by rw [Av _ _ c1];exact Ij c1
    obtain⟨b,eb,hb8,hh⟩:=TZ.1 hmem;have hbq:=h.low f.length (by omega) b hb8 hh
    have below: ∀j,j<b→KO q (Jk ns es ms fs) m (f++[(j:Int)])=none:=by
     intro j hj
     cases hhj:Bv (S.getD f.length default) j with
     |false=>exact out_ j (by omega) hhj
     |true=>
      obtain⟨i,hi,ei⟩:=RV (TZ.2 ⟨j,rfl,by omega,hhj⟩:(j:Int)∈Du (S.getD f.length default) 8)
      have hit:i<t:=by
       apply Classical.byContradiction
       intro hc;have hpw:=List.pairwise_iff_getElem.1 (mq (S.getD f.length default) 8);rw [Av _ _ c1]at eb;by_cases e:i=t
       ·subst e;omega
       ·have:=hpw t i c1 hi (by omega);omega
      have:=hA i hit
      rwa [Av _ _ hi,ei]at this
    have hN:OkV p (S.set f.length (2 ^ b)):=h.ok.set _ (zo hb8);obtain⟨out,n1,n2,n3,n4,n5⟩:=V7 C hN
    have hall: ∀g,GoodF ns es ms fs p q g→g.take (f++[(b:Int)]).length=f++[(b:Int)]→aZ p g (S.set f.length (2 ^ b)):=by
     intro g hg ht' a ha;have hgl:=hg.len;have hlen:(f++[(b:Int)]).length=f.length+1:=by simp
     rw [hlen]at ht'
     have e1:g.take f.length=f:=by
      have:=congrArg (List.take f.length) ht'
      rwa [List.take_take,Nat.min_eq_left (by omega),af (I7 _),VD]at this
     have e2:g.getD f.length default=(b:Int):=by
      have:=congrArg (fun z=>z.getD f.length default) ht'
      simp only [Jf]at this;rw [←this,JL,JL,Mc (by omega)]
     rw [Jy _ (by omega)]
     split
     ·rename_i e
      rw [←e,e2,KP,Ww hb8 hb8]
     ·exact h.all g hg e1 a ha
    rw [if_pos (by omega),CU (by omega),eb]
    unfold Gy;rw [CU (by omega),Ee,CU (by omega),CU (by omega),KP,V8 b (by omega),n1,Ee]
    cases h0:out.contains (0:Int)with
    |true=>
     rw [if_neg (by simp),Ny t (by omega)]
     left
     refine⟨_,(Du (S.getD f.length default) 8).length-(t+1),rfl,by omega,t+1,rfl,by omega,rfl,fun j hj=> ?_⟩
     by_cases e:j=t
     ·rw [e,eb]
      exact aa (by simp;omega) (fun x hx=>by
       rcases MS.1 hx with hx|hx
       ·exact h.rng x hx
       ·rw [List.mem_singleton]at hx;omega) hall n3 n2 h0
     ·exact hA j (by omega)
    |false=>
     have hG:GrowH ns es ms fs p q (f++[(b:Int)]) out:=by
      refine⟨n2,fun g hg ht'=>n3 g hg (hall g hg ht'),fun i hi x hx hh'=> ?_,fun a ha x hx hh'=> ?_,fun a ha e=> ?_,n5,fun x hx=> ?_⟩
      ·rw [Jz,ai]at hi;have:=n4 i x (by omega) hx hh'
       rw [Jy _ (by omega)]at this
       by_cases e:f.length=i
       ·rw [if_pos e]at this;have:=(Ww hb8 hx).1 this
        rw [←e,Jf,this]
       ·rw [if_neg e]at this;rw [Ea _ _ _ (by omega)]
        exact h.one i (by omega) x hx this
      ·have:=n4 a x ha hx hh'
       rw [Jy _ (by omega)]at this
       split at this
       ·have:=(Ww hb8 hx).1 this
        omega
       ·exact h.low a ha x hx this
      ·have hol:=n2.len;rw [Av _ _ (by omega)]at e
       rw [Gm]at h0;exact h0 (RU.2 (e▸Ij _))
      ·rcases MS.1 hx with hx|hx
       ·exact h.rng x hx
       ·rw [List.mem_singleton]at hx;omega
     obtain⟨r,r1,r2⟩:=V9 m fuel (f++[(b:Int)]) out (by simp;omega) (by omega) hG
     rw [if_pos (by simp),CU (by omega),Ee,CU (by omega),r1,Ee,Ny t (by omega)]
     cases hd:KO q (Jk ns es ms fs) m (f++[(b:Int)])with
     |some x=>
      rw [hd]at r2;have hx:KO q (Jk ns es ms fs) (m+1) f=some x:=mr (fun b=>KO q (Jk ns es ms fs) m (f++[(b:Int)])) hbq hd below
      right
      rcases r2 with e|e
      ·subst e;exact⟨_,rfl,.inl ⟨x,.inl rfl,hx⟩⟩
      ·subst e;exact⟨_,rfl,.inl ⟨x,.inr rfl,hx⟩⟩
     |none=>
      rw [hd]at r2;have e:r= .inr ([],false):=r2;subst e
      left
      refine⟨_,(Du (S.getD f.length default) 8).length-(t+1),rfl,by omega,t+1,rfl,by omega,rfl,fun j hj=> ?_⟩
      by_cases e:j=t
      ·rw [e,eb];exact hd
      ·exact hA j (by omega)
   ·rw [if_neg (by omega)]
    right
    refine⟨_,rfl,.inr ⟨rfl, ?_⟩⟩
    unfold KO;rw [List.findSome?_eq_none_iff];intro b hb;have hb:=OA.1 hb
    cases hh:Bv (S.getD f.length default) b with
    |false=>exact out_ b hb hh
    |true=>
     obtain⟨i,hi,ei⟩:=RV (TZ.2 ⟨b,rfl,by omega,hh⟩:(b:Int)∈Du (S.getD f.length default) 8)
     have:=hA i (by omega)
     rwa [Av _ _ hi,ei]at this
end
end Go.Proofs.Ytclkfhhdikfcpaa
