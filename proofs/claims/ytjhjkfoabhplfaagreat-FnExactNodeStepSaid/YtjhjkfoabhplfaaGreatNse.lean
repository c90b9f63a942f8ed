/- The node step: program and reference agree. Conditions: those in each lemma. -/
import Derived.Test.YtjhjkfoabhplfaaGreatL6
import Derived.Test.YtjhjkfoabhplfaaGreatNsd
import Derived.Test.YtjhjkfoabhplfaaGreatEsd
namespace Go.Proofs.YtjhjkfoabhplfaaGreat
open Go Dv
set_option linter.unusedSimpArgs false
set_option linter.unusedVariables false
set_option maxRecDepth 100000
theorem Zf{a b:AL}(ha:Ndc a)(hb:Ndc b)(hp:a.Perm b):a=b:=
 List.Perm.eq_of_pairwise (le:=fun a b:Int=>a≤b) (fun a b _ _ h1 h2=>by omega) ha hb hp
theorem Zg(l:AL):(ER l).Perm l:=List.mergeSort_perm l _
theorem A73{x:AL}:Ndc (up x)↔Ndc x:=by
 unfold Ndc up;rw [List.pairwise_map]
 exact⟨fun h=>h.imp fun hab=>by omega,fun h=>h.imp fun hab=>by omega⟩
theorem mY{ns:AO}{n:Nat}{x:AL}(h0: ∀y∈x,0≤y):Ndc (Jt ns n x)↔Ndc x∧(0<x.length→(up x).getD (x.length-1) default≤KE ns n (up x)):=by
 have h1: ∀y∈up x,0≤y:=fun s hs=>by
  obtain⟨y,hy,rfl⟩:=I1.1 hs;have:=h0 y hy
  show 0≤y+1
  omega
 have hc:=(TF ns n (up x)).1;unfold Jt;rw [jG h1 hc,A73];unfold Cy;rw [WX];by_cases c:0<x.length
 ·rw [if_pos c]
  exact⟨fun h=>⟨h.1,fun _=>h.2⟩,fun h=>⟨h.1,h.2 c⟩⟩
 ·rw [if_neg c]
  exact⟨fun h=>⟨h.1,fun h'=>absurd h' c⟩,fun h=>⟨h.1,hc⟩⟩
theorem dH(ns:AO)(n d:Nat)(l:AL):l∈Sl ns n (Aj (2 ^ n-1) d)↔l∈Tn ns n (Aj (2 ^ n-1) d):=by
 unfold Sl Tn;rw [I1,I1]
 constructor
 ·rintro⟨x,hx,rfl⟩
  obtain⟨hx1,hx2⟩:=Qj.1 hx;obtain⟨e1,e2,e3⟩:=(Ip _ _ _).1 hx1;unfold vk at hx2;rw [KG,Pt,decide_eq_false_iff_not,dF]at hx2;obtain⟨hz,hF⟩:=hx2;have hc:=TF ns n (up x);have hp:=Zg (Jt ns n x);have hT:vO ns n (ER (Jt ns n x)):=hF.perm hp.symm;have hs:=jE (Jt ns n x);have hlen:(ER (Jt ns n x)).length=d+1:=by rw [mM,Zd,e1]
  have hall: ∀s∈ER (Jt ns n x),1≤s∧s≤2 ^ n-1:=fun s h=>by
   rcases PN.1 ((mK _ _).1 h)with h|h
   ·exact qY e3 s h
   ·rw [UO.1 h];omega
  generalize ER (Jt ns n x)=t at hT hs hlen hall;have hne:t≠[]:=fun e=>by rw [e]at hlen;cases hlen
  have ex:=(List.dropLast_concat_getLast hne).symm;generalize hy:t.dropLast=u at ex;generalize ha:t.getLast hne=m at ex;subst ex;have hul:u.length=d:=by simpa using hlen
  have hup:up (u.map fun s=>s-1)=u:=by
   unfold up;rw [List.map_map];have:((fun x:Int=>x+1)∘fun s=>s-1)=id:=by funext s;simp
   rw [this,List.map_id]
  have hm:KE ns n u=m:=by
   have:=hT d (by simp [hul])
   have e1:(u++[m]).eraseIdx d=u:=by
    rw [List.eraseIdx_append_of_length_le (by omega),show d-u.length=0 by omega]
    simp
   have e2:(u++[m])[d]? =some m:=by rw [←hul];simp
   rw [e1]at this;rw [this];rw [Ga (by simp [hul])]at e2
   exact Option.some.inj e2
  have hmr:=hall m (by simp)
  have hcand:Jt ns n (u.map fun s=>s-1)=u++[m]:=by unfold Jt;rw [hup,hm]
  have hv0: ∀y∈u.map fun s=>s-1,0≤y∧y<2 ^ n-1:=fun y hy=>by
   obtain⟨s,hs',rfl⟩:=I1.1 hy;have:=hall s (by simp [hs'])
   show 0≤s-1∧s-1<2 ^ n-1
   omega
  have hnd:=(mY (ns:=ns) (n:=n) (x:=u.map fun s=>s-1) fun y hy=>(hv0 y hy).1).1 (by rw [hcand];exact hs)
  refine⟨u.map fun s=>s-1,Qj.2 ⟨(Ip _ _ _).2 ⟨by simp [hul],hnd.1,hv0⟩, ?_⟩,hcand⟩
  unfold mV;rw [hcand,hup,hm,decide_eq_false (by omega: ¬m=0),(dF ns n _).2 hT]
  have h2:=hnd.2;rw [hup,hm]at h2;by_cases c:0<(u.map fun s=>s-1).length
  ·rw [decide_eq_false (show ¬m<u.getD ((u.map fun s=>s-1).length-1) default by have:=h2 c;omega)];simp
  ·rw [decide_eq_false c];rfl
 ·rintro⟨x,hx,rfl⟩
  obtain⟨hx1,hx2⟩:=Qj.1 hx;obtain⟨e1,e2,e3⟩:=(Ip _ _ _).1 hx1;unfold mV at hx2;simp only [KG,Pt,decide_eq_false_iff_not,Bool.and_eq_false_iff]at hx2;obtain⟨hz,hq,hF⟩:=hx2
  refine⟨x,Qj.2 ⟨hx1,by unfold vk;rw [decide_eq_false hz,hF];rfl⟩, ?_⟩
  refine Zf (jE _) ((mY fun y hy=>(e3 y hy).1).2 ⟨e2,fun h=> ?_⟩) (Zg _);rcases hq with hq|hq
  ·exact absurd h hq
  ·omega
theorem rq{F:AO}{n d:Nat}(hn:n≤8)(hd:d≤3)(hl:F.length≤1000000)(h: ∀l∈F,l∈Tn [] 0 []∨(l.length=d+1∧ ∀s∈l,1≤s∧s<2 ^ n)):FullOk F (d+1) where
 len:=hl
 wid:=by omega
 row:=fun x hx=>by
  have h2n:=RB n hn;rcases h x hx with h1|⟨h1,h2⟩
  ·cases h1
  ·exact⟨h1,fun a ha=>by have:=h2 a ha;omega⟩
theorem WY{ns:AO}{n d:Nat}{l:AL}(h:l∈Tn ns n (Aj (2 ^ n-1) d)):l.length=d+1∧ ∀s∈l,1≤s∧s<2 ^ n:=by
 obtain⟨x,hx,rfl⟩:=I1.1 h;obtain⟨hx1,hx2⟩:=Qj.1 hx;obtain⟨e1,e2,e3⟩:=(Ip _ _ _).1 hx1;unfold mV at hx2;simp only [KG,Pt,decide_eq_false_iff_not]at hx2;have hc:=TF ns n (up x)
 refine⟨by rw [Zd,e1],fun s hs=> ?_⟩
 rcases PN.1 hs with hs|hs
 ·have:=qY e3 s hs;omega
 ·rw [UO.1 hs];have:=hx2.1;omega
theorem Zh{A B:AO}(h: ∀l,l∈A↔l∈B):BG A=BG B:=ZU (KD A) (KD B) fun a=>by
 rw [Lm,Lm]
 exact⟨fun⟨x,hx,ha⟩=>⟨x,(h x).1 hx,ha⟩,fun⟨x,hx,ha⟩=>⟨x,(h x).2 hx,ha⟩⟩
theorem qb{A B:AO}(h: ∀l,l∈A↔l∈B):Ih A=Ih B:=by
 unfold Ih;refine rW (Za _) (Za _) fun l=> ?_;rw [Sj,Sj];unfold Ps;rw [I1,I1,Zh h]
 exact⟨fun⟨x,hx,ha⟩=>⟨x,(h x).1 hx,ha⟩,fun⟨x,hx,ha⟩=>⟨x,(h x).2 hx,ha⟩⟩
theorem A3c(n d:Nat)(hn:n≤8)(hd:d≤3)(h4:d=3→n≤6):ChOk (Aj (2 ^ n-1) d) n d:=by
 have h2n:=RB n hn;have hp:=Int.pow_nonneg (m:=n) (show(0:Int)≤2 by decide)
 refine⟨?_,fun x hx=>⟨((Ip _ _ _).1 hx).1,((Ip _ _ _).1 hx).2.2⟩⟩
 by_cases c:d=3
 ·have h6:(2:Int) ^ n≤2 ^ 6:=Lu (h4 c);have e6:(2:Int) ^ 6=64:=by decide
  have h:=(Hr (2 ^ n-1) 63 (by omega) d).2
  rw [c]at h ⊢;exact Tv h (by decide)
 ·have h:=(Hr (2 ^ n-1) 255 (by omega) d).2
  have:255 ^ d≤255 ^ 2:=sG (by omega) (by omega)
  omega
theorem vU(n D:Int)(ns es:AO)(sets x:AL)(hE:BB es)(iE:RV es=true)(hs: ∀s∈sets,0≤s∧s≤255)(hx:inN x sets.length)(hl:x.length=2):Fa x n D ns es sets=some (gd es sets x):=by
 unfold Fa HV;rw [qR sets x hs hx (by omega),Cs]
 obtain⟨r,hr⟩:=qP ((rY sets x).map fun s=>Ae s 8) (fun a0=>DZ a0 n D ns es) (fun c=>es.contains (CY c)) (by rw [TL,Xj];omega) (fun L hL=>by
  obtain⟨s,_,rfl⟩:=I1.1 hL
  have:=P5 s 8;omega) fun c hc=>by
   rw [TL,Xj,hl]at hc;unfold DZ;rw [BF (by omega),BF (by omega),BF hE,BF iE]
   match c,hc with
   | [a,b],_=>
    show some (uw es a b)=_
    unfold uw;rw [bz]
 rw [hr,Cs];rfl
theorem vV(n d:Nat)(ns es:AO)(hn:1≤n∧n≤8)(hd:d≤3)(h4:d=3→n≤6)(hN:BB ns)(iN:RV ns=true)(hE:BB es)(iE:RV es=true):
  ∃F1 F2:AO,(DR (n:Int) ((d+1:Nat):Int) ns es ((List.range (n ^ d)).map (PI ns n d))=some F1∧Io (2 ^ n-1) (d:Int)=some (Aj (2 ^ n-1) d)∧F2=Tn ns n (Aj (2 ^ n-1) d))∧
   FullOk F1 (d+1)∧FullOk F2 (d+1)∧BG F1=BG F2∧Ih F1=Ih F2:=by
 have h2n:=RB n hn.2;have hp:=Int.pow_nonneg (m:=n) (show(0:Int)≤2 by decide)
 have hC:=A3c n d hn.2 hd h4;have hCl:=hC.len;have hrow: ∀l∈Sl ns n (Aj (2 ^ n-1) d),l.length=d+1∧ ∀s∈l,1≤s∧s<2 ^ n:=fun l hl=>WY ((dH ns n d l).1 hl)
 have hIl:(Sl ns n (Aj (2 ^ n-1) d)).length≤1000000:=by
  have:=OX (vk ns n) (fun x=>ER (Jt ns n x)) (Aj (2 ^ n-1) d) (Aj (2 ^ n-1) d).length
  rw [Md]at this;exact Tv this hCl
 have hSl:(Tn ns n (Aj (2 ^ n-1) d)).length≤1000000:=by
  have:=OX (mV ns n) (Jt ns n) (Aj (2 ^ n-1) d) (Aj (2 ^ n-1) d).length
  rw [Md]at this;exact Tv this hCl
 have hm: ∀l,l∈Dv.dedL (F6 (Sl ns n (Aj (2 ^ n-1) d)))↔l∈Tn ns n (Aj (2 ^ n-1) d):=fun l=>by rw [Sj,dH]
 have hdl:(Dv.dedL (F6 (Sl ns n (Aj (2 ^ n-1) d)))).length≤1000000:=by
  unfold Dv.dedL;have h1:=Dv.keptL_le (Dv.kpL (F6 (Sl ns n (Aj (2 ^ n-1) d)))) (F6 (Sl ns n (Aj (2 ^ n-1) d))).length;rw [KP]at h1;rw [TL,KP];omega
 refine⟨Dv.dedL (F6 (Sl ns n (Aj (2 ^ n-1) d))),Tn ns n (Aj (2 ^ n-1) d),⟨?_, ?_,rfl⟩, ?_, ?_,Zh hm,qb hm⟩
 ·unfold DR;have e:(IntKind.i64.wrap (((d+1:Nat):Int)-1))=(d:Int):=by rw [Ec _ (by omega)];omega
  rw [BF (by omega),(Qh n hn.2).2,e,Sb _ _ (by omega) (by omega),Cs,JD,mX n d ns es hn hd _ hC,Cs,Sk _ (by omega) fun x hx=>by have:=(hrow x hx).1;omega]
  rfl
 ·rw [Sc _ _ (by omega) (by omega),JD]
 ·exact rq hn.2 hd hdl fun l hl=> .inr (WY ((hm l).1 hl))
 ·exact rq hn.2 hd hSl fun l hl=> .inr (WY hl)
end Go.Proofs.YtjhjkfoabhplfaaGreat
