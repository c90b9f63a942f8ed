/- The edges of a network, listed; its parts. Conditions: those in each lemma. -/
import Derived.Test.YtiehjihckndgkaaGreatL6
import Derived.Test.YtiehjihckndgkaaGreatFrc
namespace Go.Proofs.YtiehjihckndgkaaGreat
open Go Dv
set_option linter.unusedSimpArgs false
set_option linter.unusedVariables false
set_option maxRecDepth 100000
def eH(E:List (List (Int×Int)))(v i:Nat):Bool:=decide ((v:Int)<BP (E.getD v default) i)||(decide ((v:Int)=BP (E.getD v default) i)&&decide ((i:Int)≤Ck (E.getD v default) i))
def oH(E:List (List (Int×Int)))(v:Nat):Nat→List (Int×Int×Int×Int)
 |0=>[]
 |i+1=>if eH E v i=true then oH E v i++[((v:Int),(i:Int),BP (E.getD v default) i,Ck (E.getD v default) i)]else oH E v i
def eO(E:List (List (Int×Int))):Nat→List (Int×Int×Int×Int)
 |0=>[]
 |v+1=>eO E v++oH E v (E.getD v default).length
theorem ni(E:List (List (Int×Int)))(v:Nat): ∀i,(oH E v i).length≤i
 |0=>Dh _
 |i+1=>by
  have:=ni E v i
  unfold oH;split
  ·rw [Nf,VA];omega
  ·omega
theorem nk(E:List (List (Int×Int)))(h: ∀v,v<E.length→(E.getD v default).length≤6): ∀v,v≤E.length→(eO E v).length≤6*v
 |0,_=>Dh _
 |v+1,hv=>by
  have h1:=nk E h v (by omega)
  have h2:=ni E v (E.getD v default).length;have h3:=h v (by omega)
  unfold eO;rw [Nf];omega
theorem ZA(E:List (List (Int×Int)))(v:Nat)(x:Int×Int×Int×Int): ∀n,x∈oH E v n↔ ∃i,i<n∧eH E v i=true∧x=((v:Int),(i:Int),BP (E.getD v default) i,Ck (E.getD v default) i)
 |0=>by simp [oH]
 |n+1=>by
  have ih:=ZA E v x n;unfold oH;split
  ·rename_i hc
   rw [OU,Wl,ih]
   constructor
   ·rintro(⟨i,h1,h2,h3⟩|h)
    ·exact⟨i,by omega,h2,h3⟩
    ·exact⟨n,by omega,hc,h⟩
   ·rintro⟨i,h1,h2,h3⟩
    by_cases e:i=n
    ·subst e;exact .inr h3
    ·exact .inl ⟨i,by omega,h2,h3⟩
  ·rename_i hc
   rw [ih]
   constructor
   ·rintro⟨i,h1,h2,h3⟩;exact⟨i,by omega,h2,h3⟩
   ·rintro⟨i,h1,h2,h3⟩
    by_cases e:i=n
    ·subst e;exact absurd h2 hc
    ·exact⟨i,by omega,h2,h3⟩
theorem nu(E:List (List (Int×Int)))(x:Int×Int×Int×Int): ∀n,x∈eO E n↔ ∃v i,v<n∧i<(E.getD v default).length∧eH E v i=true∧x=((v:Int),(i:Int),BP (E.getD v default) i,Ck (E.getD v default) i)
 |0=>by simp [eO]
 |n+1=>by
  unfold eO;rw [OU,nu E x n,ZA]
  constructor
  ·rintro(⟨v,i,h1,h2⟩|⟨i,h1,h2⟩)
   ·exact⟨v,i,by omega,h2⟩
   ·exact⟨n,i,by omega,h1,h2⟩
  ·rintro⟨v,i,h1,h2,h3⟩
   by_cases e:v=n
   ·subst e;exact .inr ⟨i,h2,h3⟩
   ·exact .inl ⟨v,i,by omega,h2,h3⟩
theorem A34(E:List (List (Int×Int)))(v:Nat)(out:List (Int×Int×Int×Int))(hd:(E.getD v default).length≤6)(ho:out.length≤1000):
  GL E (v:Int) (out,0)=some (out++oH E v (E.getD v default).length):=by
 unfold GL;have key:=Cf (fun w=>EL E (v:Int) w.1 w.2) (fun i=>(out++oH E v i,(i:Int))) (E.getD v default).length (out++oH E v (E.getD v default).length) ?_ ?_
 ·have e:((0:Nat):Int)=0:=rfl;simp only [e,oH,VD]at key;exact key
 ·intro i hi;have hl:=ni E v i;have hlen:(out++oH E v i).length*4+4<1099511627776:=by rw [Nf];omega
  simp only [EL,EC];rw [if_pos (CL hi),BL (by omega),K4 i (by omega)]
  have hc:eH E v i=(decide ((v:Int)<BP (E.getD v default) i)||(decide ((v:Int)=BP (E.getD v default) i)&&decide ((i:Int)≤Ck (E.getD v default) i))):=rfl;have hs:oH E v (i+1)=if eH E v i=true then oH E v i++[((v:Int),(i:Int),BP (E.getD v default) i,Ck (E.getD v default) i)]else oH E v i:=rfl
  rw [hs];by_cases c1:(v:Int)<BP (E.getD v default) i
  ·rw [if_pos c1,BL hlen,if_pos (by rw [hc,decide_eq_true c1];rfl),OC]
  ·rw [if_neg c1];by_cases c2:(v:Int)=BP (E.getD v default) i
   ·rw [if_pos c2];by_cases c3:(i:Int)≤Ck (E.getD v default) i
    ·rw [if_pos c3,BL hlen,if_pos (by rw [hc,decide_eq_true c2,decide_eq_true c3,fG,Bool.or_true]),OC]
    ·rw [if_neg c3,if_neg (by rw [hc,decide_eq_false c1,decide_eq_false c3,Bool.and_false];simp)]
   ·rw [if_neg c2,if_neg (by rw [hc,decide_eq_false c1,decide_eq_false c2];simp)]
 ·simp only [EL,EC];rw [if_neg (Az _)]
theorem A35(E:List (List (Int×Int)))(ids ins:AB)(hE:E.length≤40)(hd: ∀v,v<E.length→(E.getD v default).length≤6):JJ E ids ins=some (eO E E.length):=by
 unfold JJ J7;have key:=Cf (fun w=>EM E w.1 w.2) (fun v=>(eO E v,(v:Int))) E.length (eO E E.length) ?_ ?_
 ·have e:((0:Nat):Int)=0:=rfl;simp only [e]at key;rw [show(([],0):List (Int×Int×Int×Int)×Int)=(eO E 0,0)from rfl,key];rfl
 ·intro v hv;have hl:=nk E hd v (by omega)
  simp only [EM];rw [if_pos (CL hv),BL (by omega),A34 E v _ (hd v hv) (by omega),Cz,K4 v (by omega)]
  rfl
 ·simp only [EM];rw [if_neg (Az _)]
theorem ABb(L:List (Int×Int×Int×Int))(f:Int→Int→Int→Int→Option Bool)(p:Int×Int×Int×Int→Bool)(hL:L.length<1099511627776)(hf: ∀x∈L,f x.1 x.2.1 x.2.2.1 x.2.2.2=some (p x)):
  Am L f=some (L.any p):=by
 unfold Am Ay Av;have key:=A2J (fun v=>Ag L f v) (fun i=>(i:Int)) L.length (fun i=>p (L.getD i default)) (fun i=> .inl (i:Int)) (.inr ()) ?_ ?_
 ·rw [Gn]at key;rw [key]
  have hany:L.any p=(CJ L.length fun i=>p (L.getD i default)).isSome:=by
   rw [VE,IV,List.any_eq_true]
   constructor
   ·rintro⟨x,hx,hp⟩
    obtain⟨i,hi,rfl⟩:=jm hx
    exact⟨i,hi,by rw [Ao _ _ hi];exact hp⟩
   ·rintro⟨i,hi,hp⟩
    rw [Ao _ _ hi]at hp
    exact⟨_,Nh hi,hp⟩
  rw [hany]
  cases CJ L.length fun i=>p (L.getD i default)with
  |none=>rfl
  |some i=>simp
 ·intro i hi;have hx:=hf _ (Nh hi);simp only [Ag,EC,q4a,q4b,q4c,q4d];rw [if_pos (CL hi),BL (by omega),Ao _ _ hi,hx,Cz,K4 i (by omega)]
 ·simp only [Ag];rw [if_neg (Az _)]
theorem jc(E:List (List (Int×Int)))(v:Nat): ∀n,(oH E v n).Nodup
 |0=>List.nodup_nil
 |n+1=>by
  have ih:=jc E v n;unfold oH;split
  ·rw [List.nodup_append]
   refine⟨ih,by simp,fun a ha b hb e=> ?_⟩
   subst e;obtain⟨i,hi,_,rfl⟩:=(ZA E v a n).1 ha;simp only [Wl,Prod.mk.injEq]at hb;omega
  ·exact ih
theorem jd(E:List (List (Int×Int))): ∀n,(eO E n).Nodup
 |0=>List.nodup_nil
 |n+1=>by
  have ih:=jd E n;unfold eO;rw [List.nodup_append]
  refine⟨ih,jc E n _,fun a ha b hb e=> ?_⟩
  subst e;obtain⟨v,i,hv,_,_,rfl⟩:=(nu E a n).1 ha;obtain⟨j,_,_,he⟩:=(ZA E n _ _).1 hb;simp only [Prod.mk.injEq]at he;omega
theorem eP{E:List (List (Int×Int))}{ids ins:AB}(h:FX E ids ins=true):LC E ids ins=some (Rz E):=by
 obtain⟨hn,_,_,_⟩:=O8 h;have hq:=sG h
 have inner: ∀v:Nat,v<E.length→ ∀out:AB,out.length=E.length→ ∀r1:AB,JK E ids ins r1 (v:Int) (O9 E v) (out,0)=some ((List.range E.length).map fun x=>if Ld E v x=true then(v:Int)else out.getD x default):=by
  intro v hv out hout r1;have hF:=XX h v hv;unfold JK;have key:=Cf (fun w=>FN E ids ins r1 (v:Int) (O9 E v) w.1 w.2) (fun i=>((List.range E.length).map fun x=>if x<i∧Ld E v x=true then(v:Int)else out.getD x default,(i:Int))) E.length ((List.range E.length).map fun x=>if Ld E v x=true then(v:Int)else out.getD x default) ?_ ?_
  ·have e:((List.range E.length).map fun x=>if x<0∧Ld E v x=true then(v:Int)else out.getD x default)=out:=by
    refine VC (by simp [hout]) fun i h1 h2=> ?_
    simp only [Ni,Ng,Nat.not_lt_zero,false_and,if_false];exact Ao _ _ h2
   simp only [e,Gn]at key;exact key
  ·intro i hi;simp only [FN,EC,hF.len];rw [if_pos (CL hi),BL ⟨by omega,hi⟩,K4 i (by omega)]
   have hc:(0≤(O9 E v).getD i default)↔Ld E v i=true:=by unfold Ld at_;rw [decide_eq_true_eq]
   by_cases c:Ld E v i=true
   ·rw [if_pos (hc.2 c),BL ⟨by omega,by simpa using hi⟩]
    congr 3
    refine VC (by simp) fun j h1 h2=> ?_
    simp only [Ki,SI,Uc]at h1;simp only [List.getElem_set,Ni,Ng];by_cases e:i=j
    ·subst e;rw [if_pos rfl,if_pos ⟨by omega,c⟩]
    ·rw [if_neg e];by_cases e2:j<i
     ·by_cases c2:Ld E v j=true
      ·rw [if_pos ⟨e2,c2⟩,if_pos ⟨by omega,c2⟩]
      ·rw [if_neg (fun q=>c2 q.2),if_neg (fun q=>c2 q.2)]
     ·rw [if_neg (fun q=>e2 q.1),if_neg (fun q=>by omega)]
   ·rw [if_neg (fun q=>c (hc.1 q))]
    congr 3
    refine sV fun j _=> ?_;by_cases c2:j<i∧Ld E v j=true
    ·rw [if_pos c2,if_pos ⟨by omega,c2.2⟩]
    ·rw [if_neg c2,if_neg (fun q=>c2 ⟨by
      rcases Nat.lt_succ_iff_lt_or_eq.1 q.1 with h1|h1
      ·exact h1
      ·exact absurd (h1▸q.2) c,q.2⟩)]
  ·simp only [FN,hF.len];rw [if_neg (Az _)]
   congr 2
   refine sV fun j hj=> ?_;have hj:=MJ.1 hj;by_cases c2:Ld E v j=true
   ·rw [if_pos ⟨hj,c2⟩,if_pos c2]
   ·rw [if_neg (fun q=>c2 q.2),if_neg c2]
 have key:=Cf (fun w=>FO E ids ins (List.replicate E.length (-1)) w.1 w.2) (fun v=>(OM (Ld E) E.length v,(v:Int))) E.length (Rz E) ?_ ?_
 ·unfold LC M0;rw [bV (-1) (E.length:Int) (by omega),Cz,EC]
  simp only [A06,Gn]at key;rw [key];rfl
 ·intro v hv;have hl:=sD (Ld E) E.length v;simp only [FO,EC,M8];rw [if_pos (CL hv),BL ⟨by omega,by omega⟩,K4 v (by omega)]
  by_cases c:0≤(OM (Ld E) E.length v).getD v default
  ·rw [if_pos c,A07 hq hv c]
  ·rw [if_neg c,A04 h v hv,Cz,inner v hv _ hl,Cz,A2y hq hv c]
 ·simp only [FO,M8];rw [if_neg (Az _),A2z hq];rfl
theorem A52{E:List (List (Int×Int))}{ids ins:AB}(h:FX E ids ins=true)(v:Nat)(hv:v<E.length):Te E ids ins (v:Int) 40=some (((List.range E.length).filter (Ld E v)).map fun(x:Nat)=>(x:Int)):=by
 obtain⟨hn,_,_,_⟩:=O8 h;have hF:=XX h v hv;unfold Te QV;rw [A05 h v hv,Cz];have key:=Cf (fun w=>Ju 40 (O9 E v) w.1 w.2) (fun i=>(((List.range i).filter (Ld E v)).map fun(x:Nat)=>(x:Int),(i:Int))) E.length (((List.range E.length).filter (Ld E v)).map fun(x:Nat)=>(x:Int)) ?_ ?_
 ·have e:(((List.range 0).filter (Ld E v)).map fun(x:Nat)=>(x:Int))=[]:=rfl;simp only [e,Gn]at key;rw [key];rfl
 ·intro i hi
  have hl:(((List.range i).filter (Ld E v)).map fun(x:Nat)=>(x:Int)).length≤i:=by
   rw [SI];exact VH (List.length_filter_le _ _) (by simp)
  simp only [Ju,EC,hF.len];rw [if_pos (CL hi),BL ⟨by omega,hi⟩,K4 i (by omega),fD,List.filter_append,List.map_append]
  have h1:=hF.hi i hi
  have hc:La ((O9 E v).getD i default) 0 40=Ld E v i:=by
   unfold La Ld;have:at_ (O9 E v) i=(O9 E v).getD i default:=rfl
   rw [VE,decide_eq_true_eq,decide_eq_true_eq,this];rw [this]at h1;omega
  rw [hc]
  cases c:Ld E v i with
  |true=>rw [if_pos rfl,BL (by omega)];simp [c]
  |false=>rw [if_neg (by decide)];simp [c]
 ·simp only [Ju,hF.len];rw [if_neg (Az _)]
theorem wO(n:Nat)(P:Nat→Bool)(u:Nat)(h:CJ n P=some u): ∃l:List Nat,(List.range n).filter P=u::l:=by
 unfold CJ at h;have:((List.range n).filter P).head? =some u:=by rw [List.head?_filter];exact h
 cases e:(List.range n).filter P with
 |nil=>rw [e]at this;cases this
 |cons a l=>rw [e]at this;simp at this;subst this;exact⟨l,rfl⟩
theorem wP{E:List (List (Int×Int))}{ids ins:AB}(h:FX E ids ins=true):R7 E ids ins=some (Rz E):=by
 obtain⟨hn,_,_,_⟩:=O8 h;have hq:=sG h;unfold R7 Ot;have key:=PZ (fun v=>IY E ids ins v.1 v.2) (List.range E.length) (fun x=>(ng (Ld E) E.length x:Int)) ?_ ?_
 ·rw [key];rfl
 ·intro i hi out ho;rw [Uc]at hi;obtain⟨l,hl⟩:=wO _ _ _ (A30 hq hi);simp only [IY,Ng];rw [if_pos (CL hi),A52 h i hi,Cz,K4 i (by omega)]
  have e:(List.range E.length).filter (Ld E i)=ng (Ld E) E.length i::l:=hl;rw [e,BL (by simp),BL (by omega)]
  rfl
 ·intro out ho;simp only [IY,Uc];rw [if_neg (Az _)]
end Go.Proofs.YtiehjihckndgkaaGreat
