/- The node step: program and reference agree. Conditions: those in each lemma. -/
import Derived.Test.YtjhjkfoabhplfaaGreatL6
import Derived.Test.YtjhjkfoabhplfaaGreatNsd
import Derived.Test.YtjhjkfoabhplfaaGreatEsd
namespace Go.Proofs.YtjhjkfoabhplfaaGreat
open Go Dv
set_option linter.unusedSimpArgs false
set_option linter.unusedVariables false
set_option maxRecDepth 100000
theorem bA{a b:AA}(ha:Ndc a)(hb:Ndc b)(hp:a.Perm b):a=b:=
 List.Perm.eq_of_pairwise (le:=fun a b:Int=>a≤b) (fun a b _ _ h1 h2=>by omega) ha hb hp
theorem bB(l:AA):(Dn l).Perm l:=List.mergeSort_perm l _
theorem A98{x:AA}:Ndc (up x)↔Ndc x:=by
 unfold Ndc up;rw [List.pairwise_map]
 exact⟨fun h=>h.imp fun hab=>by omega,fun h=>h.imp fun hab=>by omega⟩
theorem qA{ns:AL}{n:Nat}{x:AA}(h0: ∀y∈x,0≤y):Ndc (Jd ns n x)↔Ndc x∧(0<x.length→(up x).getD (x.length-1) default≤Jt ns n (up x)):=by
 have h1: ∀y∈up x,0≤y:=fun s hs=>by
  obtain⟨y,hy,rfl⟩:=Fq.1 hs;have:=h0 y hy
  show 0≤y+1
  omega
 have hc:=(Tq ns n (up x)).1;unfold Jd;rw [lG h1 hc,A98];unfold CW;rw [XJ];by_cases c:0<x.length
 ·rw [if_pos c]
  exact⟨fun h=>⟨h.1,fun _=>h.2⟩,fun h=>⟨h.1,h.2 c⟩⟩
 ·rw [if_neg c]
  exact⟨fun h=>⟨h.1,fun h'=>absurd h' c⟩,fun h=>⟨h.1,hc⟩⟩
theorem fu(ns:AL)(n d:Nat)(l:AA):l∈TS ns n (AY (2 ^ n-1) d)↔l∈UL ns n (AY (2 ^ n-1) d):=by
 unfold TS UL;rw [Fq,Fq]
 constructor
 ·rintro⟨x,hx,rfl⟩
  obtain⟨hx1,hx2⟩:=QD.1 hx;obtain⟨e1,e2,e3⟩:=(IU _ _ _).1 hx1;unfold yO at hx2;rw [Ju,QB,decide_eq_false_iff_not,fe]at hx2;obtain⟨hz,hF⟩:=hx2;have hc:=Tq ns n (up x);have hp:=bB (Jd ns n x);have hT:yB ns n (Dn (Jd ns n x)):=hF.perm hp.symm;have hs:=l9 (Jd ns n x);have hlen:(Dn (Jd ns n x)).length=d+1:=by rw [pO,ay,e1]
  have hall: ∀s∈Dn (Jd ns n x),1≤s∧s≤2 ^ n-1:=fun s h=>by
   rcases PW.1 ((pM _ _).1 h)with h|h
   ·exact uL e3 s h
   ·rw [UQ.1 h];omega
  generalize Dn (Jd ns n x)=t at hT hs hlen hall;have hne:t≠[]:=fun e=>by rw [e]at hlen;cases hlen
  have ex:=(List.dropLast_concat_getLast hne).symm;generalize hy:t.dropLast=u at ex;generalize ha:t.getLast hne=m at ex;subst ex;have hul:u.length=d:=by simpa using hlen
  have hup:up (u.map fun s=>s-1)=u:=by
   unfold up;rw [List.map_map];have:((fun x:Int=>x+1)∘fun s=>s-1)=id:=by funext s;simp
   rw [this,List.map_id]
  have hm:Jt ns n u=m:=by
   have:=hT d (by simp [hul])
   have e1:(u++[m]).eraseIdx d=u:=by
    rw [List.eraseIdx_append_of_length_le (by omega),show d-u.length=0 by omega]
    simp
   have e2:(u++[m])[d]? =some m:=by rw [←hul];simp
   rw [e1]at this;rw [this];rw [Fz (by simp [hul])]at e2
   exact Option.some.inj e2
  have hmr:=hall m (by simp)
  have hcand:Jd ns n (u.map fun s=>s-1)=u++[m]:=by unfold Jd;rw [hup,hm]
  have hv0: ∀y∈u.map fun s=>s-1,0≤y∧y<2 ^ n-1:=fun y hy=>by
   obtain⟨s,hs',rfl⟩:=Fq.1 hy;have:=hall s (by simp [hs'])
   show 0≤s-1∧s-1<2 ^ n-1
   omega
  have hnd:=(qA (ns:=ns) (n:=n) (x:=u.map fun s=>s-1) fun y hy=>(hv0 y hy).1).1 (by rw [hcand];exact hs)
  refine⟨u.map fun s=>s-1,QD.2 ⟨(IU _ _ _).2 ⟨by simp [hul],hnd.1,hv0⟩, ?_⟩,hcand⟩
  unfold pq;rw [hcand,hup,hm,decide_eq_false (by omega: ¬m=0),(fe ns n _).2 hT]
  have h2:=hnd.2;rw [hup,hm]at h2;by_cases c:0<(u.map fun s=>s-1).length
  ·rw [decide_eq_false (show ¬m<u.getD ((u.map fun s=>s-1).length-1) default by have:=h2 c;omega)];simp
  ·rw [decide_eq_false c];rfl
 ·rintro⟨x,hx,rfl⟩
  obtain⟨hx1,hx2⟩:=QD.1 hx;obtain⟨e1,e2,e3⟩:=(IU _ _ _).1 hx1;unfold pq at hx2;simp only [Ju,QB,decide_eq_false_iff_not,Bool.and_eq_false_iff]at hx2;obtain⟨hz,hq,hF⟩:=hx2
  refine⟨x,QD.2 ⟨hx1,by unfold yO;rw [decide_eq_false hz,hF];rfl⟩, ?_⟩
  refine bA (l9 _) ((qA fun y hy=>(e3 y hy).1).2 ⟨e2,fun h=> ?_⟩) (bB _);rcases hq with hq|hq
  ·exact absurd h hq
  ·omega
theorem vM{F:AL}{n d:Nat}(hn:n≤8)(hd:d≤3)(hl:F.length≤1000000)(h: ∀l∈F,l∈UL [] 0 []∨(l.length=d+1∧ ∀s∈l,1≤s∧s<2 ^ n)):FullOk F (d+1) where
 len:=hl
 wid:=by omega
 row:=fun x hx=>by
  have h2n:=Rf n hn;rcases h x hx with h1|⟨h1,h2⟩
  ·cases h1
  ·exact⟨h1,fun a ha=>by have:=h2 a ha;omega⟩
theorem XK{ns:AL}{n d:Nat}{l:AA}(h:l∈UL ns n (AY (2 ^ n-1) d)):l.length=d+1∧ ∀s∈l,1≤s∧s<2 ^ n:=by
 obtain⟨x,hx,rfl⟩:=Fq.1 h;obtain⟨hx1,hx2⟩:=QD.1 hx;obtain⟨e1,e2,e3⟩:=(IU _ _ _).1 hx1;unfold pq at hx2;simp only [Ju,QB,decide_eq_false_iff_not]at hx2;have hc:=Tq ns n (up x)
 refine⟨by rw [ay,e1],fun s hs=> ?_⟩
 rcases PW.1 hs with hs|hs
 ·have:=uL e3 s hs;omega
 ·rw [UQ.1 hs];have:=hx2.1;omega
theorem bC{A B:AL}(h: ∀l,l∈A↔l∈B):Al A=Al B:=aO (Js A) (Js B) fun a=>by
 rw [LZ,LZ]
 exact⟨fun⟨x,hx,ha⟩=>⟨x,(h x).1 hx,ha⟩,fun⟨x,hx,ha⟩=>⟨x,(h x).2 hx,ha⟩⟩
theorem uM{A B:AL}(h: ∀l,l∈A↔l∈B):Fg A=Fg B:=by
 unfold Fg;refine vG (WG _) (WG _) fun l=> ?_;rw [TM,TM];unfold QA;rw [Fq,Fq,bC h]
 exact⟨fun⟨x,hx,ha⟩=>⟨x,(h x).1 hx,ha⟩,fun⟨x,hx,ha⟩=>⟨x,(h x).2 hx,ha⟩⟩
theorem A5N(n d:Nat)(hn:n≤8)(hd:d≤3)(h4:d=3→n≤6):ChOk (AY (2 ^ n-1) d) n d:=by
 have h2n:=Rf n hn;have hp:=gH (m:=n) (show(0:Int)≤2 by decide)
 refine⟨?_,fun x hx=>⟨((IU _ _ _).1 hx).1,((IU _ _ _).1 hx).2.2⟩⟩
 by_cases c:d=3
 ·have h6:(2:Int) ^ n≤2 ^ 6:=I1 (h4 c);have e6:(2:Int) ^ 6=64:=by decide
  have h:=(Fh (2 ^ n-1) 63 (by omega) d).2
  rw [c]at h ⊢;exact UU h (by decide)
 ·have h:=(Fh (2 ^ n-1) 255 (by omega) d).2
  have:255 ^ d≤255 ^ 2:=qJ (by omega) (by omega)
  omega
theorem yG(n D:Int)(ns es:AL)(sets x:AA)(hE:Ah es)(iE:LP es=true)(hs: ∀s∈sets,0≤s∧s≤255)(hx:inN x sets.length)(hl:x.length=2):Ey x n D ns es sets=some (gd es sets x):=by
 unfold Ey Gd;rw [aZ sets x hs hx (by omega),Bl]
 obtain⟨r,hr⟩:=aY ((uD sets x).map fun s=>AR s 8) (fun a0=>Cu a0 n D ns es) (fun c=>es.contains (Bt c)) (by rw [R4,Tp];omega) (fun L hL=>by
  obtain⟨s,_,rfl⟩:=Fq.1 hL
  have:=Jk s 8;omega) fun c hc=>by
   rw [R4,Tp,hl]at hc;unfold Cu;rw [Ao (by omega),Ao (by omega),Ao hE,Ao iE]
   match c,hc with
   | [a,b],_=>
    show some (RQ es a b)=_
    unfold RQ;rw [fD]
 rw [hr,Bl];rfl
theorem yH(n d:Nat)(ns es:AL)(hn:1≤n∧n≤8)(hd:d≤3)(h4:d=3→n≤6)(hN:Ah ns)(iN:LP ns=true)(hE:Ah es)(iE:LP es=true):
  ∃F1 F2:AL,(Cm (n:Int) ((d+1:Nat):Int) ns es ((List.range (n ^ d)).map (PU ns n d))=some F1∧IR (2 ^ n-1) (d:Int)=some (AY (2 ^ n-1) d)∧F2=UL ns n (AY (2 ^ n-1) d))∧
   FullOk F1 (d+1)∧FullOk F2 (d+1)∧Al F1=Al F2∧Fg F1=Fg F2:=by
 have h2n:=Rf n hn.2;have hp:=gH (m:=n) (show(0:Int)≤2 by decide)
 have hC:=A5N n d hn.2 hd h4;have hCl:=hC.len;have hrow: ∀l∈TS ns n (AY (2 ^ n-1) d),l.length=d+1∧ ∀s∈l,1≤s∧s<2 ^ n:=fun l hl=>XK ((fu ns n d l).1 hl)
 have hIl:(TS ns n (AY (2 ^ n-1) d)).length≤1000000:=by
  have:=Oa (yO ns n) (fun x=>Dn (Jd ns n x)) (AY (2 ^ n-1) d) (AY (2 ^ n-1) d).length
  rw [Lr]at this;exact UU this hCl
 have hSl:(UL ns n (AY (2 ^ n-1) d)).length≤1000000:=by
  have:=Oa (pq ns n) (Jd ns n) (AY (2 ^ n-1) d) (AY (2 ^ n-1) d).length
  rw [Lr]at this;exact UU this hCl
 have hm: ∀l,l∈Dv.dedL (EX (TS ns n (AY (2 ^ n-1) d)))↔l∈UL ns n (AY (2 ^ n-1) d):=fun l=>by rw [TM,fu]
 have hdl:(Dv.dedL (EX (TS ns n (AY (2 ^ n-1) d)))).length≤1000000:=by
  unfold Dv.dedL;have h1:=Dv.keptL_le (Dv.kpL (EX (TS ns n (AY (2 ^ n-1) d)))) (EX (TS ns n (AY (2 ^ n-1) d))).length;rw [K6]at h1;rw [R4,K6];omega
 refine⟨Dv.dedL (EX (TS ns n (AY (2 ^ n-1) d))),UL ns n (AY (2 ^ n-1) d),⟨?_, ?_,rfl⟩, ?_, ?_,bC hm,uM hm⟩
 ·unfold Cm;have e:(IntKind.i64.wrap (((d+1:Nat):Int)-1))=(d:Int):=by rw [Db _ (by omega)];omega
  rw [Ao (by omega),(Qz n hn.2).2,e,TQ _ _ (by omega) (by omega),Bl,H5,pz n d ns es hn hd _ hC,Bl,TN _ (by omega) fun x hx=>by have:=(hrow x hx).1;omega]
  rfl
 ·rw [TR _ _ (by omega) (by omega),H5]
 ·exact vM hn.2 hd hdl fun l hl=> .inr (XK ((hm l).1 hl))
 ·exact vM hn.2 hd hSl fun l hl=> .inr (XK hl)
end Go.Proofs.YtjhjkfoabhplfaaGreat
