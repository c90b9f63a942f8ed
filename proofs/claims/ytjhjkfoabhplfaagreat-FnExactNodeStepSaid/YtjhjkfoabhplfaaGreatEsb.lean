/- New labels: program and reference agree. Conditions: those in each lemma. -/
import Derived.Test.YtjhjkfoabhplfaaGreatL6
import Derived.Test.YtjhjkfoabhplfaaGreatEsa
namespace Go.Proofs.YtjhjkfoabhplfaaGreat
open Go Dv
set_option linter.unusedSimpArgs false
set_option linter.unusedVariables false
set_option maxRecDepth 100000
def StL(o:AO):Prop:=o.Pairwise fun a b=>Dv.cmpL a b<0
theorem A1Y(x:AL): ¬Dv.cmpL x x<0:=by rw [Dv.cmpL_self];omega
theorem A1Z(x y:AL)(h:Dv.cmpL x y<0): ¬Dv.cmpL y x<0:=by rw [Dv.cmpL_swap x y];omega
theorem rW{a b:AO}(ha:StL a)(hb:StL b)(h: ∀x,x∈a↔x∈b):a=b:=zz A1Y A1Z ha hb h
theorem Za(xss:AO):StL (Dv.dedL (F6 xss)):=by
 unfold Dv.dedL StL;have hp:=SH xss;refine rT (le:=fun a b=>Dv.cmpL a b≤0) (fun i=>(F6 xss).getD i []) _ _ (fun j _=>by unfold Dv.kpL;simp) (fun i j hij hj=> ?_) fun x y z h1 h2 h3=> ?_
 ·rw [M8,M8,Ga (by omega:i<(F6 xss).length),Ga hj]
  by_cases e:i=j
  ·subst e;rw [Xn,Dv.cmpL_self];omega
  ·exact(X4.1 hp) i j (by omega) hj (by omega)
 ·have h4:=Dv.cmpL_le_trans x y z h1 h2;refine Classical.byContradiction fun hn=> ?_;have e0:Dv.cmpL x z=0:=by omega
  have:=Dv.cmpL_eq x z e0
  subst this;have e1:Dv.cmpL x y=0:=by rw [Dv.cmpL_swap x y]at h2;omega
  exact h3 (Dv.cmpL_eq x y e1).symm
theorem Sj(xss:AO)(x:AL):x∈Dv.dedL (F6 xss)↔x∈xss:=by
 unfold Dv.dedL;rw [mI (fun i=>(F6 xss).getD i []) _ _ (fun j _=>by unfold Dv.kpL;simp),←(U5 xss).mem_iff]
 constructor
 ·rintro⟨j,hj,rfl⟩
  rw [M8,Ga hj];exact GG _
 ·intro hx;obtain⟨j,hj,rfl⟩:=Tt hx
  exact⟨j,hj,by rw [M8,Ga hj];rfl⟩
theorem Sk(xss:AO)(hl:xss.length<1000000000)(hx: ∀x∈xss,x.length<1000000000):Ja xss=some (Dv.dedL (F6 xss)):=by
 have h1: ∀x∈F6 xss,x.length≤9223372036854775807:=fun x h=>by have:=hx x ((U5 xss).mem_iff.1 h);omega
 unfold Ja;rw [BF (by omega),BF (fun x h=>by have:=hx x h;omega),BF (by rw [KP];omega),BF h1]
theorem A70(o:AO)(y:AL)(s:Nat)(hpw:StL o)(hm: ∀x∈o,x.length=s∧J2 x=true)(hy:y.length=s)(sy:J2 y=true)(hl:o.length<1000000000)(hs:s<1000000000):
  ∃q,(NC o y=some (.inl q)∨NC o y=some (.inr q))∧StL q∧(∀x,x∈q↔x∈o∨x=y)∧q.length≤o.length+1:=by
 have hat: ∀i (hi:i<o.length),(o.getD i default).length=s∧J2 (o.getD i default)=true:=fun i hi=>by rw [Af _ _ hi];exact hm _ (GG hi)
 obtain⟨r,h1,k,rfl,hk,hlow,hhigh⟩:=Jk (fun v=>FO o y v)
  (fun m v=> ∃k:Nat,v=(k:Int)∧k≤o.length∧m=o.length-k∧ ∀j,j<k→cmpL (o.getD j default) y<0)
  (fun r=> ∃k:Nat,r=(k:Int)∧k≤o.length∧(∀j,j<k→cmpL (o.getD j default) y<0)∧(k<o.length→ ¬cmpL (o.getD k default) y<0)) (by
   rintro m v ⟨k,rfl,hk,rfl,hlow⟩
   by_cases hlt:k<o.length
   ·obtain⟨q1,q2⟩:=hat k hlt;by_cases hc:cmpL (o.getD k default) y<0
    ·left
     refine⟨((k+1:Nat):Int),o.length-(k+1), ?_,by omega,k+1,rfl,by omega,rfl,fun j hj=> ?_⟩
     ·simp only [FO,JD];rw [if_pos (CV hlt),BF (by omega),BF (by omega),BF (by omega),BF q2,BF sy,if_pos hc,JS k (by omega)]
     ·by_cases he:j=k
      ·subst he;exact hc
      ·exact hlow j (by omega)
    ·right
     refine⟨(k:Int), ?_,k,rfl,hk,hlow,fun _=>hc⟩
     simp only [FO,JD];rw [if_pos (CV hlt),BF (by omega),BF (by omega),BF (by omega),BF q2,BF sy,if_neg hc]
   ·right
    refine⟨(k:Int), ?_,k,rfl,hk,hlow,fun h=>absurd h hlt⟩
    simp only [FO]
    rw [if_neg (by omega)]) o.length (0:Int) ⟨0,rfl,TM _,rfl,fun j hj=>by omega⟩
 have hlk:((o.take k).drop 0).length=k:=by rw [Tu,Kq];omega
 have hld:((o.take o.length).drop k).length=o.length-k:=by rw [dK,Md]
 have hl2:(((o.take k).drop 0)++[y]).length=k+1:=by rw [Ko,hlk];rfl
 have put:(¬(k<o.length∧o.getD k default=y))→StL (((o.take k).drop 0++[y])++(o.take o.length).drop k)∧(∀x,x∈(((o.take k).drop 0++[y])++(o.take o.length).drop k)↔x∈o∨x=y)∧(((o.take k).drop 0++[y])++(o.take o.length).drop k).length≤o.length+1:=by
  intro hne
  refine⟨?_,fun x=> ?_,by rw [Ko,hl2,hld];omega⟩
  ·rw [Tu,Md];have htk:(o.take k).Pairwise fun a b=>Dv.cmpL a b<0:=hpw.sublist (List.take_sublist _ _);have hdr:(o.drop k).Pairwise fun a b=>Dv.cmpL a b<0:=hpw.sublist (List.drop_sublist _ _)
   have hty: ∀a∈o.take k,Dv.cmpL a y<0:=fun a ha=>by
    obtain⟨j,hj,rfl⟩:=Tt ha;rw [Kq]at hj;have:=hlow j (by omega)
    rw [Af _ _ (by omega)]at this
    rw [List.getElem_take,A6z];omega
   have hyd: ∀b∈o.drop k,Dv.cmpL y b<0:=fun b hb=>by
    obtain⟨j,hj,rfl⟩:=Tt hb;rw [dK]at hj;have hko:k<o.length:=by omega
    have h0:=hhigh hko;have h2: ¬o[k]=y:=fun h=>hne ⟨hko,by rw [Af _ _ hko];exact h⟩
    rw [Af _ _ hko,←A6z]at h0
    have h1:Dv.cmpL y o[k]<0:=by
     rw [Dv.cmpL_swap o[k] y];have: ¬Dv.cmpL o[k] y=0:=fun h=>h2 (Dv.cmpL_eq _ _ h)
     omega
    rw [List.getElem_drop];by_cases hj0:j=0
    ·subst hj0;exact h1
    ·exact Dv.cmpL_lt_trans _ _ _ h1 ((X4.1 hpw) k (k+j) hko (by omega) (by omega))
   have hall: ∀a∈o.take k,∀b∈o.drop k,Dv.cmpL a b<0:=fun a ha b hb=>Dv.cmpL_lt_trans _ _ _ (hty a ha) (hyd b hb);unfold StL;rw [List.pairwise_append,List.pairwise_append]
   refine⟨⟨htk,List.pairwise_singleton _ _,fun a ha b hb=> ?_⟩,hdr,fun a ha b hb=> ?_⟩
   ·rw [UO.1 hb];exact hty a ha
   ·rcases PN.1 ha with ha|ha
    ·exact hall a ha b hb
    ·rw [UO.1 ha];exact hyd b hb
  ·rw [Tu,Md];have e:x∈o↔x∈o.take k∨x∈o.drop k:=by rw [←PN,List.take_append_drop]
   rw [e];simp only [PN,UO]
   constructor
   ·rintro((h|h)|h)
    ·exact .inl (.inl h)
    ·exact .inr h
    ·exact .inl (.inr h)
   ·rintro((h|h)|h)
    ·exact .inl (.inl h)
    ·exact .inr h
    ·exact .inl (.inr h)
 unfold NC NV;rw [h1,Cs];by_cases hko:k<o.length
 ·obtain⟨q1,_⟩:=hat k hko;rw [if_pos (by omega)]
  simp only [JD];rw [BF (by omega),cK _ _ (by omega),Cs]
  by_cases he:o.getD k default=y
  ·rw [decide_eq_true he,if_pos rfl]
   refine⟨o,.inl rfl,hpw,fun x=>⟨.inl, ?_⟩,by omega⟩
   rintro(h|rfl)
   ·exact h
   ·rw [←he,Af _ _ hko];exact GG _
  ·obtain⟨p1,p2,p3⟩:=put fun c=>he c.2;rw [decide_eq_false he,if_neg (by decide),BF (by omega),BF (by omega),BF (by omega),BF (by omega),BF (by omega)]
   exact⟨_,.inr rfl,p1,p2,p3⟩
 ·obtain⟨p1,p2,p3⟩:=put fun c=>hko c.1;rw [if_neg (by omega)]
  simp only [JD];rw [BF (by omega),BF (by omega),BF (by omega),BF (by omega),BF (by omega)]
  exact⟨_,.inr rfl,p1,p2,p3⟩
structure FullOk(full:AO)(w:Nat):Prop where
 len:full.length≤1000000
 row: ∀x∈full,x.length=w∧ ∀a∈x,1≤a∧a≤255
 wid:w≤4
theorem rX(w:Nat): ∀(l:AO),(∀x∈l,x.length=w)→l.flatten.length=w*l.length
 | [],_=>by simp
 |x::l,h=>by
  rw [nC,Ko,rX w l fun y hy=>h y (Kn _ hy),h x Jq,Ji,Nat.mul_add];omega
theorem TE(l:AO)(i:Nat)(hi:i<l.length):(l.take (i+1)).flatten=(l.take i).flatten++l[i]:=by rw [TH hi,List.flatten_append];simp
theorem vI(l:AO)(i:Nat):((l.take i).flatten).length≤l.flatten.length:=by
 have:l.flatten=(l.take i).flatten++(l.drop i).flatten:=by rw [←List.flatten_append,List.take_append_drop]
 rw [this,Ko];omega
theorem vJ(l:AO)(hl:l.length<1000000000)(hf:l.flatten.length<1000000000):Dq l=some l.flatten:=by
 have hrow: ∀i (hi:i<l.length),((l.take i).flatten).length+l[i].length≤l.flatten.length:=fun i hi=>by
  have h1:=TE l i hi;have h2:=vI l (i+1);rw [h1,Ko]at h2;exact h2
 unfold Dq
 have k0:D8 l (0,0)=some (l.flatten.length:Int):=by
  unfold D8;have key:=Bv (fun v=>CJ l v.1 v.2) (fun i=>((((l.take i).flatten).length:Int),(i:Int))) l.length (l.flatten.length:Int) ?_ ?_
  ·exact key
  ·intro i hi;have:=hrow i hi
   simp only [CJ,JD];rw [if_pos (CV hi),BF (by omega),Af _ _ hi,Ec _ (by omega),if_neg (by omega),JS i (by omega),TE l i hi,Ko]
   norm_cast
  ·simp only [CJ];rw [if_neg (Au _),Md]
 have k1:D9 l ([],0)=some l.flatten:=by
  unfold D9;have key:=Bv (fun v=>CK l v.1 v.2) (fun i=>((l.take i).flatten,(i:Int))) l.length l.flatten ?_ ?_
  ·exact key
  ·intro i hi;have:=hrow i hi
   simp only [CK,JD];have hg:=Af l i hi;rw [if_pos (CV hi),BF (by omega),BF (by rw [hg];omega),JS i (by omega),TE l i hi,hg]
  ·simp only [CK];rw [if_neg (Au _),Md]
 rw [k0,Cs,BF (by omega),k1];rfl
def BG(full:AO):AL:=Ht [] full.flatten
theorem KD(full:AO):Q6 (BG full):=Sg _ _ List.Pairwise.nil
theorem Lm(full:AO)(a:Int):a∈BG full↔ ∃x∈full,a∈x:=by
 unfold BG;rw [ZX];simp [List.mem_flatten]
theorem UK{full:AO}{w:Nat}(h:FullOk full w):(BG full).length≤256:=ZY (KD full) fun x hx=>by
 obtain⟨y,hy,hxy⟩:=(Lm full x).1 hx;have:=(h.row y hy).2 x hxy;omega
theorem jE(l:AL):(ER l).Pairwise fun a b=>a≤b:=by
 have:=List.pairwise_mergeSort (le:=fun(x y:Int)=>decide (x≤y)) (fun a b c h1 h2=>by simp only [decide_eq_true_eq]at h1 h2 ⊢;omega) (fun a b=>by simp only [UQ,decide_eq_true_eq];omega) l
 exact this.imp (fun h=>by simpa using h)
theorem mK(l:AL)(x:Int):x∈ER l↔x∈l:=(List.mergeSort_perm l _).mem_iff
theorem mM(l:AL):(ER l).length=l.length:=List.length_mergeSort _
def Ps(full:AO):AO:=full.map fun x=>CY (nums (BG full) x)
def Ih(full:AO):AO:=Dv.dedL (F6 (Ps full))
theorem Zb{full:AO}{w:Nat}(h:FullOk full w): ∀y∈Ps full,y.length=w∧ ∀a∈y,0≤a∧a<(BG full).length:=by
 intro y hy;obtain⟨x,hx,rfl⟩:=I1.1 hy
 refine⟨by rw [TB,Si];exact(h.row x hx).1,fun a ha=> ?_⟩
 rw [(Oy _).mem_iff]at ha;obtain⟨b,hb,rfl⟩:=I1.1 ha;have:=(rV (KD full) ((Lm full b).2 ⟨x,hx,hb⟩)).1
 omega
theorem jF{full:AO}{w:Nat}(h:FullOk full w):K6 full=some (BG full,Ih full):=by
 have hw:=h.wid;have hl:=h.len;have hf:=rX w full fun x hx=>(h.row x hx).1;have hf2:full.flatten.length≤4000000:=by rw [hf];exact Tv (Nat.mul_le_mul hw hl) (by omega)
 have hss:=UK h
 have es:Mk (ER full.flatten)=BG full:=ZU (vF (jE _)) (KD full) fun x=>by
  rw [A00,mK,Lm];simp [List.mem_flatten]
 unfold K6;rw [vJ full (by omega) (by omega),Cs,BF (by omega),qM _ (by rw [mM];omega),Cs,es]
 have k1:K5 full (BG full) ([],0)=some (Ps full):=by
  unfold K5;have key:=Bv (fun v=>Fh full (BG full) v.1 v.2) (fun i=>((full.take i).map (fun x=>CY (nums (BG full) x)),(i:Int))) full.length (Ps full) ?_ ?_
  ·exact key
  ·intro i hi;have hx:=h.row _ (GG hi);simp only [Fh];rw [if_pos (CV hi),BF (by omega),vG full (BG full) _ i full[i] (Af _ _ hi) (KD full) (by omega) (by omega),Cs,BF (by rw [Si];omega),BF (by rw [TL,Kq];omega),JS i (by omega),ll,TH hi,UR]
   rfl
  ·simp only [Fh];rw [if_neg (Au _),Md];rfl
 have hr:(Ps full).length=full.length:=by simp [Ps]
 rw [k1,Cs,Sk _ (by omega) fun x hx=>by have:=(Zb h x hx).1;omega]
 rfl
theorem vK(a d:Int)(ns es full:AO)(e:Bool)(t:Nat)(x b:AL)(hx:full.getD t default=x)(hb:Q6 b)(hbl:b.length+x.length<1000000):
  Nz a d ns es full e (t:Int) (b,0)=some (Ht b x):=by
 unfold Nz;have key:=Bv (fun v=>Jc a d ns es full e (t:Int) v.1 v.2) (fun i=>(Ht b (x.take i),(i:Int))) x.length (Ht b x) ?_ ?_
 ·simpa [Ht] using key
 ·intro i hi;have h1:Q6 (Ht b (x.take i)):=Sg _ _ hb
  have hlen: ∀(xs:AL) (b:AL),(Ht b xs).length≤b.length+xs.length:=by
   intro xs
   induction xs with
   |nil=>intro b;simp [Ht]
   |cons y xs ih=>
    intro b;have:=ih (Sd b y)
    have h2:=mG b y
    show(Ht (Sd b y) xs).length≤_
    simp only [Ji];omega
  have h2:=hlen (x.take i) b;have h3:(x.take i).length≤x.length:=by rw [Kq];omega
  have e':Ht b (x.take (i+1))=Sd (Ht b (x.take i)) x[i]:=by
   unfold Ht;rw [TH hi,List.foldl_append];rfl
  simp only [Jc,JD,hx];rw [if_pos (CV hi),BF (by omega),Af _ _ hi,JS i (by omega),e']
  rcases zy (Ht b (x.take i)) x[i] h1 (by omega)with q|q<;>rw [q]<;>rfl
 ·simp only [Jc,JD,hx];rw [if_neg (Au _),Md]
theorem vL(a d:Int)(ns es:AO){full:AO}{w:Nat}(e:Bool)(h:FullOk full w):O0 a d ns es full e ([],0)=some (BG full):=by
 have hw:=h.wid;have hl:=h.len;unfold O0;have key:=Bv (fun v=>Jd a d ns es full e v.1 v.2) (fun i=>(Ht [] (full.take i).flatten,(i:Int))) full.length (BG full) ?_ ?_
 ·exact key
 ·intro i hi;have hx:=h.row _ (GG hi);have h1:Q6 (Ht [] (full.take i).flatten):=Sg _ _ List.Pairwise.nil
  have h2:(Ht [] (full.take i).flatten).length≤256:=ZY h1 fun x hx'=>by
   rcases(ZX _ _ _).1 hx' with h3|h3
   ·cases h3
   ·obtain⟨y,hy,hxy⟩:=List.mem_flatten.1 h3;have:=(h.row y (List.mem_of_mem_take hy)).2 x hxy;omega
  simp only [Jd];rw [if_pos (CV hi),BF (by omega),vK a d ns es full e i full[i] _ (Af _ _ hi) h1 (by omega),Cs,JS i (by omega),TE full i hi]
  unfold Ht;rw [List.foldl_append]
 ·simp only [Jd];rw [if_neg (Au _),Md];rfl
theorem vM(a d:Int)(ns es:AO){full:AO}{w:Nat}(e:Bool)(h:FullOk full w):O1 a d ns es full e (BG full) ([],0)=some (Ih full):=by
 have hw:=h.wid;have hl:=h.len;have hss:=UK h;have hok:=Zb h;unfold O1;have key:=Jk (fun v=>Hm a d ns es full e (BG full) v.1 v.2)
  (fun n (v:AO×Int)=> ∃i:Nat,v.2=(i:Int)∧n=full.length-i∧i≤full.length∧StL v.1∧v.1.length≤i∧ ∀x,x∈v.1↔x∈(full.take i).map fun x=>CY (nums (BG full) x))
  (fun r=>r=Ih full) ?_ full.length ([],0) ⟨0,rfl,rfl,TM _,List.Pairwise.nil,JE _,fun x=>by simp⟩
 ·obtain⟨r,h1,h2⟩:=key;rw [h1,h2]
 ·rintro n ⟨o,v⟩ ⟨i,e1,e2,e3,e4,e5,e6⟩
  simp only at e1 e4 e5 e6;subst e1;by_cases hi:i<full.length
  ·left
   have hx:=h.row _ (GG hi);have small: ∀y∈Ps full,y.length=w∧J2 y=true:=fun y hy=>⟨(hok y hy).1,Jr.2 fun b hb=>NR.2 (by have:=(hok y hy).2 b hb;omega)⟩
   have hin: ∀j (hj:j<full.length),CY (nums (BG full) full[j])∈Ps full:=fun j hj=>I1.2 ⟨_,GG hj,rfl⟩
   have ho: ∀x∈o,x.length=w∧J2 x=true:=fun x hx'=>by
    obtain⟨y,hy,rfl⟩:=I1.1 ((e6 x).1 hx');exact small _ (I1.2 ⟨y,List.mem_of_mem_take hy,rfl⟩)
   obtain⟨s1,s2⟩:=small _ (hin i hi);obtain⟨q,q1,q2,q3,q4⟩:=A70 o (CY (nums (BG full) full[i])) w e4 ho s1 s2 (by omega) (by omega)
   have step:Hm a d ns es full e (BG full) o (i:Int)=some (.inl (q,((i+1:Nat):Int))):=by
    simp only [Hm,JD];rw [if_pos (CV hi),BF (by omega),Af _ _ hi,vH (BG full) full[i] (KD full) (fun b hb=>(Lm full b).2 ⟨_,GG hi,hb⟩) (by omega) (by omega),Cs,JS i (by omega)]
    rcases q1 with q1|q1<;>rw [q1]<;>rfl
   refine⟨_,full.length-(i+1),step,by omega,i+1,rfl,rfl,by omega,q2,by simp only;omega,fun x=> ?_⟩
   simp only;rw [q3,e6,TH hi,UR,PN]
   simp
  ·right
   have hie:i=full.length:=by omega
   subst hie
   refine⟨o, ?_, ?_⟩
   ·simp only [Hm];rw [if_neg (Au _)]
   ·rw [Md]at e6;exact rW e4 (Za _) fun x=>by rw [e6];exact(Sj (Ps full) x).symm
end Go.Proofs.YtjhjkfoabhplfaaGreat
