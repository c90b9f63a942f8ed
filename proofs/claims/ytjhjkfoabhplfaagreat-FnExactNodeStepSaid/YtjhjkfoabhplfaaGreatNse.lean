/- The node step: program and reference agree. Conditions: those in each lemma. -/
import Derived.Test.YtjhjkfoabhplfaaGreatL6
import Derived.Test.YtjhjkfoabhplfaaGreatNsd
import Derived.Test.YtjhjkfoabhplfaaGreatEsd
namespace Go.Proofs.YtjhjkfoabhplfaaGreat
open Go Dv
set_option linter.unusedSimpArgs false
set_option linter.unusedVariables false
set_option maxRecDepth 100000
theorem Yf{a b:List Int}(ha:zA a)(hb:zA b)(hp:a.Perm b):a=b:=
 List.Perm.eq_of_pairwise (le:=fun a b:Int=>a≤b) (fun a b _ _ h1 h2=>by omega) ha hb hp
theorem Yg(l:List Int):(Dj l).Perm l:=List.mergeSort_perm l _
theorem A6L{x:List Int}:zA (up x)↔zA x:=by
 unfold zA up;rw [List.pairwise_map]
 exact⟨fun h=>h.imp fun hab=>by omega,fun h=>h.imp fun hab=>by omega⟩
theorem kT{ns:List (List Int)}{n:Nat}{x:List Int}(h0: ∀y∈x,0≤y):zA (Iz ns n x)↔zA x∧(0<x.length→(up x).getD (x.length-1) default≤JJ ns n (up x)):=by
 have h1: ∀y∈up x,0≤y:=fun s hs=>by
  obtain⟨y,hy,rfl⟩:=GV.1 hs;have:=h0 y hy
  show 0≤y+1
  omega
 have hc:=(Ru ns n (up x)).1;unfold Iz;rw [gI h1 hc,A6L];unfold CU;rw [VU];by_cases c:0<x.length
 ·rw [if_pos c]
  exact⟨fun h=>⟨h.1,fun _=>h.2⟩,fun h=>⟨h.1,h.2 c⟩⟩
 ·rw [if_neg c]
  exact⟨fun h=>⟨h.1,fun h'=>absurd h' c⟩,fun h=>⟨h.1,hc⟩⟩
theorem aR(ns:List (List Int))(n d:Nat)(l:List Int):l∈Rb ns n (AZ (2 ^ n-1) d)↔l∈Sd ns n (AZ (2 ^ n-1) d):=by
 unfold Rb Sd;rw [GV,GV]
 constructor
 ·rintro⟨x,hx,rfl⟩
  obtain⟨hx1,hx2⟩:=Px.1 hx;obtain⟨e1,e2,e3⟩:=(Hg _ _ _).1 hx1;unfold uJ at hx2;rw [JM,Oi,decide_eq_false_iff_not,aP]at hx2;obtain⟨hz,hF⟩:=hx2;have hc:=Ru ns n (up x);have hp:=Yg (Iz ns n x);have hT:tq ns n (Dj (Iz ns n x)):=hF.perm hp.symm;have hs:=gG (Iz ns n x);have hlen:(Dj (Iz ns n x)).length=d+1:=by rw [kJ,Yd,e1]
  have hall: ∀s∈Dj (Iz ns n x),1≤s∧s≤2 ^ n-1:=fun s h=>by
   rcases OB.1 ((kI _ _).1 h)with h | h
   ·exact o9 e3 s h
   ·rw [TR.1 h];omega
  generalize Dj (Iz ns n x)=t at hT hs hlen hall;have hne:t≠[]:=fun e=>by rw [e]at hlen;cases hlen
  have ex:=(List.dropLast_concat_getLast hne).symm;generalize hy:t.dropLast=u at ex;generalize ha:t.getLast hne=m at ex;subst ex;have hul:u.length=d:=by simpa using hlen
  have hup:up (u.map fun s=>s-1)=u:=by
   unfold up;rw [List.map_map];have:((fun x:Int=>x+1)∘fun s=>s-1)=id:=by funext s;simp
   rw [this,List.map_id]
  have hm:JJ ns n u=m:=by
   have:=hT d (by simp [hul])
   have e1:(u++[m]).eraseIdx d=u:=by
    rw [List.eraseIdx_append_of_length_le (by omega),show d-u.length=0 by omega]
    simp
   have e2:(u++[m])[d]? =some m:=by rw [←hul];simp
   rw [e1]at this;rw [this];rw [FV (by simp [hul])]at e2
   exact Option.some.inj e2
  have hmr:=hall m (by simp)
  have hcand:Iz ns n (u.map fun s=>s-1)=u++[m]:=by unfold Iz;rw [hup,hm]
  have hv0: ∀y∈u.map fun s=>s-1,0≤y∧y<2 ^ n-1:=fun y hy=>by
   obtain⟨s,hs',rfl⟩:=GV.1 hy;have:=hall s (by simp [hs'])
   show 0≤s-1∧s-1<2 ^ n-1
   omega
  have hnd:=(kT (ns:=ns) (n:=n) (x:=u.map fun s=>s-1) fun y hy=>(hv0 y hy).1).1 (by rw [hcand];exact hs)
  refine⟨u.map fun s=>s-1,Px.2 ⟨(Hg _ _ _).2 ⟨by simp [hul],hnd.1,hv0⟩, ?_⟩,hcand⟩
  unfold kQ;rw [hcand,hup,hm,decide_eq_false (by omega: ¬m=0),(aP ns n _).2 hT]
  have h2:=hnd.2;rw [hup,hm]at h2;by_cases c:0<(u.map fun s=>s-1).length
  ·rw [decide_eq_false (show ¬m<u.getD ((u.map fun s=>s-1).length-1) default by have:=h2 c;omega)];simp
  ·rw [decide_eq_false c];rfl
 ·rintro⟨x,hx,rfl⟩
  obtain⟨hx1,hx2⟩:=Px.1 hx;obtain⟨e1,e2,e3⟩:=(Hg _ _ _).1 hx1;unfold kQ at hx2;simp only [JM,Oi,decide_eq_false_iff_not,Bool.and_eq_false_iff]at hx2;obtain⟨hz,hq,hF⟩:=hx2
  refine⟨x,Px.2 ⟨hx1,by unfold uJ;rw [decide_eq_false hz,hF];rfl⟩, ?_⟩
  refine Yf (gG _) ((kT fun y hy=>(e3 y hy).1).2 ⟨e2,fun h=> ?_⟩) (Yg _);rcases hq with hq | hq
  ·exact absurd h hq
  ·omega
theorem qA{F:List (List Int)}{n d:Nat}(hn:n≤8)(hd:d≤3)(hl:F.length≤1000000)(h: ∀l∈F,l∈Sd [] 0 []∨(l.length=d+1∧ ∀s∈l,1≤s∧s<2 ^ n)):FullOk F (d+1) where
 len:=hl
 wid:=by omega
 row:=fun x hx=>by
  have h2n:=QM n hn;rcases h x hx with h1 | ⟨h1,h2⟩
  ·cases h1
  ·exact⟨h1,fun a ha=>by have:=h2 a ha;omega⟩
theorem VV{ns:List (List Int)}{n d:Nat}{l:List Int}(h:l∈Sd ns n (AZ (2 ^ n-1) d)):l.length=d+1∧ ∀s∈l,1≤s∧s<2 ^ n:=by
 obtain⟨x,hx,rfl⟩:=GV.1 h;obtain⟨hx1,hx2⟩:=Px.1 hx;obtain⟨e1,e2,e3⟩:=(Hg _ _ _).1 hx1;unfold kQ at hx2;simp only [JM,Oi,decide_eq_false_iff_not]at hx2;have hc:=Ru ns n (up x)
 refine⟨by rw [Yd,e1],fun s hs=> ?_⟩
 rcases OB.1 hs with hs | hs
 ·have:=o9 e3 s hs;omega
 ·rw [TR.1 hs];have:=hx2.1;omega
theorem Yh{A B:List (List Int)}(h: ∀l,l∈A↔l∈B):Ap A=Ap B:=YU (JI A) (JI B) fun a=>by
 rw [Ki,Ki]
 exact⟨fun⟨x,hx,ha⟩=>⟨x,(h x).1 hx,ha⟩,fun⟨x,hx,ha⟩=>⟨x,(h x).2 hx,ha⟩⟩
theorem oH{A B:List (List Int)}(h: ∀l,l∈A↔l∈B):H9 A=H9 B:=by
 unfold H9;refine pY (Ya _) (Ya _) fun l=> ?_;rw [RZ,RZ];unfold Oh;rw [GV,GV,Yh h]
 exact⟨fun⟨x,hx,ha⟩=>⟨x,(h x).1 hx,ha⟩,fun⟨x,hx,ha⟩=>⟨x,(h x).2 hx,ha⟩⟩
theorem A2q(n d:Nat)(hn:n≤8)(hd:d≤3)(h4:d=3→n≤6):ChOk (AZ (2 ^ n-1) d) n d:=by
 have h2n:=QM n hn;have hp:=Int.pow_nonneg (m:=n) (show(0:Int)≤2 by decide)
 refine⟨?_,fun x hx=>⟨((Hg _ _ _).1 hx).1,((Hg _ _ _).1 hx).2.2⟩⟩
 by_cases c:d=3
 ·have h6:(2:Int) ^ n≤2 ^ 6:=Kn (h4 c);have e6:(2:Int) ^ 6=64:=by decide
  have h:=(GM (2 ^ n-1) 63 (by omega) d).2
  rw [c]at h ⊢;exact Sl h (by decide)
 ·have h:=(GM (2 ^ n-1) 255 (by omega) d).2
  have:255 ^ d≤255 ^ 2:=qF (by omega) (by omega)
  omega
theorem uC(n D:Int)(ns es:List (List Int))(sets x:List Int)(hE:Ak es)(iE:QY es=true)(hs: ∀s∈sets,0≤s∧s≤255)(hx:inN x sets.length)(hl:x.length=2):El x n D ns es sets=some (gd es sets x):=by
 unfold El G9;rw [nz sets x hs hx (by omega),CO]
 obtain⟨r,hr⟩:=nu ((pq sets x).map fun s=>AU s 8) (fun a0=>Cn a0 n D ns es) (fun c=>es.contains (Bn c)) (by rw [S9,Wm];omega) (fun L hL=>by
  obtain⟨s,_,rfl⟩:=GV.1 hL
  have:=Nz s 8;omega) fun c hc=>by
   rw [S9,Wm,hl]at hc;unfold Cn;rw [Am (by omega),Am (by omega),Am hE,Am iE]
   match c,hc with
   | [a,b],_=>
    show some (sw es a b)=_
    unfold sw;rw [aA]
 rw [hr,CO];rfl
theorem uD(n d:Nat)(ns es:List (List Int))(hn:1≤n∧n≤8)(hd:d≤3)(h4:d=3→n≤6)(hN:Ak ns)(iN:QY ns=true)(hE:Ak es)(iE:QY es=true):
  ∃F1 F2:List (List Int),(Cg (n:Int) ((d+1:Nat):Int) ns es ((List.range (n ^ d)).map (O9 ns n d))=some F1∧Hf (2 ^ n-1) (d:Int)=some (AZ (2 ^ n-1) d)∧F2=Sd ns n (AZ (2 ^ n-1) d))∧
   FullOk F1 (d+1)∧FullOk F2 (d+1)∧Ap F1=Ap F2∧H9 F1=H9 F2:=by
 have h2n:=QM n hn.2;have hp:=Int.pow_nonneg (m:=n) (show(0:Int)≤2 by decide)
 have hC:=A2q n d hn.2 hd h4;have hCl:=hC.len;have hrow: ∀l∈Rb ns n (AZ (2 ^ n-1) d),l.length=d+1∧ ∀s∈l,1≤s∧s<2 ^ n:=fun l hl=>VV ((aR ns n d l).1 hl)
 have hIl:(Rb ns n (AZ (2 ^ n-1) d)).length≤1000000:=by
  have:=NN (uJ ns n) (fun x=>Dj (Iz ns n x)) (AZ (2 ^ n-1) d) (AZ (2 ^ n-1) d).length
  rw [LZ]at this;exact Sl this hCl
 have hSl:(Sd ns n (AZ (2 ^ n-1) d)).length≤1000000:=by
  have:=NN (kQ ns n) (Iz ns n) (AZ (2 ^ n-1) d) (AZ (2 ^ n-1) d).length
  rw [LZ]at this;exact Sl this hCl
 have hm: ∀l,l∈Dv.dedL (EO (Rb ns n (AZ (2 ^ n-1) d)))↔l∈Sd ns n (AZ (2 ^ n-1) d):=fun l=>by rw [RZ,aR]
 have hdl:(Dv.dedL (EO (Rb ns n (AZ (2 ^ n-1) d)))).length≤1000000:=by
  unfold Dv.dedL;have h1:=Dv.keptL_le (Dv.kpL (EO (Rb ns n (AZ (2 ^ n-1) d)))) (EO (Rb ns n (AZ (2 ^ n-1) d))).length;rw [JV]at h1;rw [S9,JV];omega
 refine⟨Dv.dedL (EO (Rb ns n (AZ (2 ^ n-1) d))),Sd ns n (AZ (2 ^ n-1) d),⟨?_, ?_,rfl⟩, ?_, ?_,Yh hm,oH hm⟩
 ·unfold Cg;have e:(IntKind.i64.wrap (((d+1:Nat):Int)-1))=(d:Int):=by rw [Dw _ (by omega)];omega
  rw [Am (by omega),(Pt n hn.2).2,e,RS _ _ (by omega) (by omega),CO,IA,kS n d ns es hn hd _ hC,CO,Ra _ (by omega) fun x hx=>by have:=(hrow x hx).1;omega]
  rfl
 ·rw [RU _ _ (by omega) (by omega),IA]
 ·exact qA hn.2 hd hdl fun l hl=> .inr (VV ((hm l).1 hl))
 ·exact qA hn.2 hd hSl fun l hl=> .inr (VV hl)
end Go.Proofs.YtjhjkfoabhplfaaGreat
