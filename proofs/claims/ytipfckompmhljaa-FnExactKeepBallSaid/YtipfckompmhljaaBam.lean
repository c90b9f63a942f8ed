/- Networks of some nodes: the reference. Conditions: those in each lemma. -/
import Derived.Test.YtipfckompmhljaaL6
import Derived.Test.YtipfckompmhljaaBak
namespace Go.Proofs.Ytipfckompmhljaa
open Go Dv
set_option linter.unusedSimpArgs false
set_option linter.unusedVariables false
set_option maxRecDepth 100000
section
variable {E:List (List (Int×Int))} {ids ins K:List Int} (h:Eg E ids ins=true) (hK:NodesK E K)
include h hK
omit h hK in
theorem oM(v i:Nat):PW E K v (i+1)=PW E K v i+if kM E K v i=true then 1 else 0:=by
 unfold PW
 rw [List.range_succ,List.countP_append,List.countP_singleton]
omit h hK in
theorem A2m(v i:Nat):PW E K v i≤i:=by
 have:=List.countP_le_length (p:=kM E K v) (l:=List.range i)
 rwa [List.length_range]at this
def RD(E:List (List (Int×Int)))(K:List Int):List (List Bool):=(List.range E.length).map fun v=>(List.range (E.getD v default).length).map (kM E K v)
def Xp(E:List (List (Int×Int)))(K:List Int):List (List Int):=(List.range E.length).map fun v=>(List.range (E.getD v default).length).map fun i=>(PW E K v i:Int)
omit h hK in
theorem eT{v i:Nat}(hv:v<E.length)(hi:i<(E.getD v default).length):((RD E K).getD v default).getD i default=kM E K v i∧((RD E K).getD v default).length=(E.getD v default).length∧(RD E K).length=E.length:=by
 unfold RD
 rw [KA _ _ _ hv,KA _ _ _ hi]
 simp
omit h hK in
theorem rV{v i:Nat}(hv:v<E.length)(hi:i<(E.getD v default).length):((Xp E K).getD v default).getD i default=(PW E K v i:Int)∧((Xp E K).getD v default).length=(E.getD v default).length∧(Xp E K).length=E.length:=by
 unfold Xp
 rw [KA _ _ _ hv,KA _ _ _ hi]
 simp
omit hK in
theorem oN(v:Nat)(hv:v<E.length):
  Ke E ids ins (RD E K) (v:Int) ((List.range E.length).map fun w=>if w<v then(List.range (E.getD w default).length).map fun i=>(PW E K w i:Int)else [],0,0)=some ((List.range E.length).map fun w=>if w<v+1 then(List.range (E.getD w default).length).map fun i=>(PW E K w i:Int)else []):=by
 have h6:=(D9 h).2.2.1 v hv
 unfold Ke
 have key:=Bd (fun x=>HZ E ids ins (RD E K) (v:Int) x.1 x.2.1 x.2.2) (fun i=>((List.range E.length).map fun w=>if w<v then(List.range (E.getD w default).length).map fun i=>(PW E K w i:Int)else if w=v then(List.range i).map fun i=>(PW E K w i:Int)else [],(PW E K v i:Int),(i:Int))) (E.getD v default).length ((List.range E.length).map fun w=>if w<v+1 then(List.range (E.getD w default).length).map fun i=>(PW E K w i:Int)else []) ?_ ?_
 ·have e:((List.range E.length).map fun w=>if w<v then(List.range (E.getD w default).length).map fun i=>(PW E K w i:Int)else if w=v then(List.range 0).map fun i=>(PW E K w i:Int)else [])=(List.range E.length).map fun w=>if w<v then(List.range (E.getD w default).length).map fun i=>(PW E K w i:Int)else []:=CV fun w _=>by
   by_cases c:w<v
   ·rw [if_pos c,if_pos c]
   ·rw [if_neg c,if_neg c];split<;>rfl
  rw [e]at key
  exact key
 ·intro i hi
  obtain⟨k1,k2,k3⟩:=eT (K:=K) hv hi
  have hr:=A2m (E:=E) (K:=K) v i
  have eg:((List.range E.length).map fun w=>if w<v then(List.range (E.getD w default).length).map fun i=>(PW E K w i:Int)else if w=v then(List.range i).map fun i=>(PW E K w i:Int)else []).getD v default=(List.range i).map fun i=>(PW E K v i:Int):=by
   rw [KA _ _ _ hv,if_neg (Nat.lt_irrefl _),if_pos rfl]
  simp only [HZ,Int.toNat_natCast,k1,eg]
  rw [if_pos (BV hi),BL (by rw [GX];omega),BL (by rw [GX];omega),BL (by omega),BL (by omega),KH i (by omega),KH _ (by omega),PV,oM]
  have e:((List.range E.length).map fun w=>if w=v then((List.range i).map fun i=>(PW E K v i:Int))++[(PW E K v i:Int)]else if w<v then(List.range (E.getD w default).length).map fun i=>(PW E K w i:Int)else if w=v then(List.range i).map fun i=>(PW E K w i:Int)else [])=(List.range E.length).map fun w=>if w<v then(List.range (E.getD w default).length).map fun i=>(PW E K w i:Int)else if w=v then(List.range (i+1)).map fun i=>(PW E K w i:Int)else []:=CV fun w _=>by
   by_cases c:w=v
   ·subst c
    rw [if_pos rfl,if_neg (Nat.lt_irrefl _),if_pos rfl,List.range_succ,List.map_append];rfl
   ·rw [if_neg c,if_neg c,if_neg c]
  rw [e]
  by_cases c:kM E K v i=true
  ·rw [if_pos c,if_pos c]
  ·rw [if_neg c,if_neg c];rfl
 ·simp only [HZ,Int.toNat_natCast]
  rw [if_neg (Ag _)]
  congr 2
  refine CV fun w _=> ?_
  by_cases c:w<v
  ·rw [if_pos c,if_pos (by omega)]
  ·rw [if_neg c]
   by_cases c2:w=v
   ·subst c2;rw [if_pos rfl,if_pos (by omega)]
   ·rw [if_neg c2,if_neg (by omega)]
omit hK in
theorem oO:Kg E ids ins (RD E K) (List.replicate E.length ([]:List Int),0)=some (Xp E K):=by
 have hn:=(D9 h).1
 unfold Kg
 have key:=Bd (fun x=>Ha E ids ins (RD E K) x.1 x.2) (fun v=>((List.range E.length).map fun w=>if w<v then(List.range (E.getD w default).length).map fun i=>(PW E K w i:Int)else [],(v:Int))) E.length (Xp E K) ?_ ?_
 ·have e:((List.range E.length).map fun w=>if w<0 then(List.range (E.getD w default).length).map fun i=>(PW E K w i:Int)else [])=List.replicate E.length ([]:List Int):=by
   refine List.ext_getElem (by simp) fun i _ _=>by simp
  rw [e]at key
  exact key
 ·intro v hv
  simp only [Ha,Int.toNat_natCast]
  rw [if_pos (BV hv),BL (by omega),oN h v hv,Option.bind_some,KH v (by omega)]
 ·simp only [Ha]
  rw [if_neg (Ag _)]
  congr 2
  exact CV fun w hw=>by rw [if_pos hw]
def Tw(E:List (List (Int×Int)))(K:List Int)(v i:Nat):Int×Int:=(BB (E.getD v default) i,(PW E K (BB (E.getD v default) i).toNat (Bt (E.getD v default) i).toNat:Int))
def Lt(E:List (List (Int×Int)))(K:List Int)(v:Nat):List (Int×Int):=((List.range (E.getD v default).length).filter (kM E K v)).map (Tw E K v)
omit hK in
theorem oP(r4 r5:List Int)(r0:List (List (Int×Int)))(v:Nat)(hv:v<E.length):Kh E (RD E K) (Xp E K) r4 r5 r0 (v:Int) ([],0)=some (Lt E K v):=by
 have h6:=(D9 h).2.2.1 v hv
 unfold Kh
 have key:=Bd (fun x=>Hd E (RD E K) (Xp E K) r4 r5 r0 (v:Int) x.1 x.2) (fun i=>(((List.range i).filter (kM E K v)).map (Tw E K v),(i:Int))) (E.getD v default).length (Lt E K v) ?_ ?_
 ·exact key
 ·intro i hi
  obtain⟨k1,k2,k3⟩:=eT (K:=K) hv hi
  obtain⟨w,p,w1,w2,w3,w4,w5⟩:=Xn h hv hi
  obtain⟨q1,q2,q3⟩:=rV (K:=K) w3 w4
  have hl:=Zg (kM E K v) (Tw E K v) i
  simp only [Hd,Int.toNat_natCast,k1,w1,w2]
  rw [if_pos (BV hi),BL (by omega),BL (by omega),BL (by omega),KH i (by omega),iY]
  by_cases c:kM E K v i=true
  ·rw [if_pos c,if_pos c,BL (by omega),BL (by omega),BL (by omega),q1]
   have ec:Tw E K v i=((w:Int),(PW E K w p:Int)):=by unfold Tw;rw [w1,w2,Int.toNat_natCast,Int.toNat_natCast]
   rw [ec]
  ·rw [if_neg c,if_neg c]
 ·simp only [Hd,Int.toNat_natCast]
  rw [if_neg (Ag _)];rfl
omit hK in
theorem oQ(h1:ids.length<1000000)(h2:ins.length<1000000): ∃a b,Nh E ids ins (RD E K)=some ((List.range E.length).map (Lt E K),a,b):=by
 have hn:=(D9 h).1
 unfold Nh
 rw [BL (by omega),oO h,Option.bind_some]
 unfold MG
 rw [BL (by omega),Option.bind_some,BL (by omega),Option.bind_some]
 unfold MN
 have key:=fun r4 r5=>Bd (fun x=>He E (RD E K) (Xp E K) r4 r5 x.1 x.2) (fun i=>((List.range i).map (Lt E K),(i:Int))) E.length ((List.range E.length).map (Lt E K)) ?_ ?_
 ·have e:=key ids ins
  simp only [List.range_zero,List.map_nil,Int.natCast_zero]at e
  rw [e]
  exact⟨_,_,rfl⟩
 ·intro v hv
  simp only [He,Int.toNat_natCast]
  rw [if_pos (BV hv),BL (by omega),oP h _ _ _ v hv,Option.bind_some,BL (by rw [GX];omega),KH v (by omega),List.range_succ,List.map_append];rfl
 ·simp only [He]
  rw [if_neg (Ag _)]
def RF(K:List Int)(k w:Nat):Int:=if(w:Int)∈K.take k then(K.idxOf (w:Int):Int)else 0
omit h in
theorem il(r4:List (List (Int×Int))×List Int×List Int)(hl:K.length≤40):Jm E ids ins K r4 (List.replicate E.length 0,0)=some ((List.range E.length).map (RF K K.length)):=by
 unfold Jm
 have key:=Bd (fun x=>GH E ids ins K r4 x.1 x.2) (fun k=>((List.range E.length).map (RF K k),(k:Int))) K.length ((List.range E.length).map (RF K K.length)) ?_ ?_
 ·have e:(List.range E.length).map (RF K 0)=List.replicate E.length 0:=by
   refine List.ext_getElem (by simp) fun i _ _=>by simp [RF]
  rw [e]at key
  exact key
 ·intro k hk
  obtain⟨e1,e2,e3,e4⟩:=hK.kth hk
  have et:(K.getD k default).toNat=kn K k:=rfl
  simp only [GH,Int.toNat_natCast,et]
  rw [if_pos (BV hk),BL (by omega),BL (by rw [GX];omega),PV,KH k (by omega)]
  congr 3
  refine CV fun w _=> ?_
  have ek:K[k]=(kn K k:Int):=by rw [←e1,Av _ _ hk]
  unfold RF
  rw [List.take_succ_eq_append_getElem hk]
  by_cases c:w=kn K k
  ·subst c
   rw [if_pos rfl,if_pos (by rw [ek];simp),←ek,List.Nodup.idxOf_getElem hK.nodup k hk]
  ·rw [if_neg c]
   have:(w:Int)∈K.take k++[K[k]]↔(w:Int)∈K.take k:=by
    rw [List.mem_append,List.mem_singleton,ek]
    exact⟨fun x=>x.elim id (fun y=>absurd (by omega) c), .inl⟩
   by_cases c2:(w:Int)∈K.take k
   ·rw [if_pos c2,if_pos (this.2 c2)]
   ·rw [if_neg c2,if_neg (fun x=>c2 (this.1 x))]
 ·simp only [GH]
  rw [if_neg (Ag _)]
omit hK in
theorem oU{v:Nat}(hv:v<E.length)(hm:(v:Int)∈K):(Lt E K v).map (fun e=>(((List.range E.length).map (RF K K.length)).getD e.1.toNat default,e.2))=OH E K v (E.getD v default).length:=by
 unfold Lt OH
 rw [List.map_map]
 have hf: ∀u:Nat,(u:Int)∈K→kM E K u=Eh E K u:=fun u hu=>by
  funext i
  unfold kM
  rw [show K.contains (u:Int)=true by simpa using hu,Bool.true_and]
 rw [hf v hm]
 refine List.map_congr_left fun i hi=> ?_
 rw [List.mem_filter,List.mem_range]at hi
 obtain⟨w,p,w1,w2,w3,w4,w5⟩:=Xn h hv hi.1
 have hw:=Vf hi.2 w1
 simp only [Function.comp,Tw,Zb,w1,w2,Int.toNat_natCast]
 rw [KA _ _ _ w3]
 unfold RF PW Lr
 rw [List.take_length,if_pos hw,hf w hw]
theorem iq(a b:List Int)(r0:List (List (Int×Int)))(r1 r2:List Int)(k:Nat)(hk:k<K.length)(hl:K.length≤40):
  Jn E ids ins K ((List.range E.length).map (Lt E K),a,b) ((List.range E.length).map (RF K K.length)) r0 r1 r2 (k:Int) ([],0)=some (OH E K (kn K k) (E.getD (kn K k) default).length):=by
 obtain⟨e1,e2,e3,e4⟩:=hK.kth hk
 have h6:=(D9 h).2.2.1 _ e2
 have et:(K.getD k default).toNat=kn K k:=rfl
 have eg:((List.range E.length).map (Lt E K)).getD (kn K k) default=Lt E K (kn K k):=KA _ _ _ e2
 have hlen:=Zg (kM E K (kn K k)) (Tw E K (kn K k)) (E.getD (kn K k) default).length
 have hlr:(Lt E K (kn K k)).length≤6:=Nat.le_trans hlen h6
 rw [←oU h e2 e3]
 unfold Jn
 refine lg (fun x=>GI E ids ins K ((List.range E.length).map (Lt E K),a,b) ((List.range E.length).map (RF K K.length)) r0 r1 r2 (k:Int) x.1 x.2) (Lt E K (kn K k)) (fun e=>(((List.range E.length).map (RF K K.length)).getD e.1.toNat default,e.2)) ?_ ?_
 ·intro i hi out ho
  have hx:(Lt E K (kn K k))[i]∈Lt E K (kn K k):=List.getElem_mem hi
  obtain⟨j,hj,ej⟩:=List.mem_map.1 hx
  rw [List.mem_filter,List.mem_range]at hj
  obtain⟨w,p,w1,w2,w3,w4,w5⟩:=Xn h e2 hj.1
  have ef:BB (Lt E K (kn K k)) i=(w:Int):=by
   unfold BB
   rw [Av _ _ hi,←ej];exact w1
  have ef1:(Lt E K (kn K k))[i].1=(w:Int):=by rw [←ej];exact w1
  have es:Bt (Lt E K (kn K k)) i=(Lt E K (kn K k))[i].2:=by unfold Bt;rw [Av _ _ hi]
  simp only [GI,Int.toNat_natCast,et,eg,ef,es,ef1]
  rw [if_pos (BV hi),BL (by rw [GX];omega),BL (by omega),BL (by rw [GX];omega),BL (by omega),KH i (by omega)]
 ·intro out ho
  simp only [GI,Int.toNat_natCast,et,eg]
  rw [if_neg (Ag _)]
theorem iw(h1:ids.length<1000000)(h2:ins.length<1000000)(hl:K.length≤40):NQ E ids ins K=some (Gp E K K.length,Ei ids K K.length,Ij ins K K.length):=by
 have hn:=(D9 h).1
 have hi:=Tv h
 have hd:=Xm h
 obtain⟨a,b,hc⟩:=oQ (K:=K) h h1 h2
 unfold NQ
 have ek:=Xo h hl
 rw [oL h,Option.bind_some,ek,Option.bind_some]
 have hc':Nh E ids ins ((List.range E.length).map fun v=>(List.range (E.getD v default).length).map (kM E K v))=_:=hc
 rw [hc',Option.bind_some,BL (by omega),il hK _ hl,Option.bind_some]
 unfold LF
 have key:=Bd (fun x=>GJ E ids ins K ((List.range E.length).map (Lt E K),a,b) ((List.range E.length).map (RF K K.length)) x.1 x.2.1 x.2.2.1 x.2.2.2) (fun i=>(Gp E K i,Ei ids K i,Ij ins K i,(i:Int))) K.length (Gp E K K.length,Ei ids K K.length,Ij ins K K.length) ?_ ?_
 ·have e0:Ei ids K 0=[]:=by unfold Ei;split<;>rfl
  have e1:Gp E K 0=[]:=rfl
  have e2:Ij ins K 0=[]:=rfl
  rw [e0,e1,e2,Int.natCast_zero]at key
  rw [key];rfl
 ·intro k hk
  obtain⟨e1,e2,e3,e4⟩:=hK.kth hk
  have n1:(Gp E K k).length=k:=by simp [Gp]
  have n2:(Ij ins K k).length=k:=by simp [Ij]
  have n3:(Ei ids K k).length≤k:=by unfold Ei;split<;>simp
  have et:(K.getD k default).toNat=kn K k:=rfl
  have s1:Gp E K (k+1)=Gp E K k++[OH E K (kn K k) (E.getD (kn K k) default).length]:=by unfold Gp;rw [List.range_succ,List.map_append];rfl
  have s2:Ij ins K (k+1)=Ij ins K k++[ins.getD (kn K k) default]:=by unfold Ij;rw [List.range_succ,List.map_append];rfl
  simp only [GJ,Int.toNat_natCast,et]
  rw [if_pos (BV hk),BL (by omega),BL (by rw [GX];omega),iq h hK a b _ _ _ k hk hl,Option.bind_some,BL (by omega),BL (by omega),BL (by omega),KH k (by omega),s1,s2]
  by_cases c:0<ids.length
  ·have s3:Ei ids K (k+1)=Ei ids K k++[ids.getD (kn K k) default]:=by unfold Ei;rw [if_pos c,if_pos c,List.range_succ,List.map_append];rfl
   rw [if_pos (by omega),BL (by omega),BL (by omega),s3]
  ·have s3:Ei ids K (k+1)=Ei ids K k:=by unfold Ei;rw [if_neg c,if_neg c]
   rw [if_neg (by omega),s3]
 ·simp only [GJ]
  rw [if_neg (Ag _)]
end
end Go.Proofs.Ytipfckompmhljaa
