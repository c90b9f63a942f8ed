/- New labels: program and reference agree. Conditions: those in each lemma. -/
import Derived.Test.YtjhjkfoabhplfaaGreatL6
import Derived.Test.YtjhjkfoabhplfaaGreatEsa
namespace Go.Proofs.YtjhjkfoabhplfaaGreat
open Go Dv
set_option linter.unusedSimpArgs false
set_option linter.unusedVariables false
set_option maxRecDepth 100000
def xm(o:List (List Int)):Prop:=o.Pairwise fun a b=>Dv.cmpL a b<0
theorem xn(x:List Int): ¬Dv.cmpL x x<0:=by rw [Dv.cmpL_self];omega
theorem xq(x y:List Int)(h:Dv.cmpL x y<0): ¬Dv.cmpL y x<0:=by rw [Dv.cmpL_swap x y];omega
theorem xu{a b:List (List Int)}(ha:xm a)(hb:xm b)(h: ∀x,x∈a↔x∈b):a=b:=vC xn xq ha hb h
theorem vF(xss:List (List Int)):xm (Dv.dedL (Er xss)):=by
 unfold Dv.dedL xm;have hp:=Ow xss;refine kU (le:=fun a b=>Dv.cmpL a b≤0) (fun i=>(Er xss).getD i []) _ _ (fun j _=>by unfold Dv.kpL;simp) (fun i j hij hj=> ?_) fun x y z h1 h2 h3=> ?_
 ·rw [List.getD_eq_getElem?_getD,List.getD_eq_getElem?_getD,List.getElem?_eq_getElem (by omega:i<(Er xss).length),List.getElem?_eq_getElem hj]
  by_cases e:i=j
  ·subst e;rw [Option.getD_some,Dv.cmpL_self];omega
  ·exact(List.pairwise_iff_getElem.1 hp) i j (by omega) hj (by omega)
 ·have h4:=Dv.cmpL_le_trans x y z h1 h2;refine Classical.byContradiction fun hn=> ?_;have e0:Dv.cmpL x z=0:=by omega
  have:=Dv.cmpL_eq x z e0
  subst this;have e1:Dv.cmpL x y=0:=by rw [Dv.cmpL_swap x y]at h2;omega
  exact h3 (Dv.cmpL_eq x y e1).symm
theorem fC(xss:List (List Int))(x:List Int):x∈Dv.dedL (Er xss)↔x∈xss:=by
 unfold Dv.dedL;rw [fA (fun i=>(Er xss).getD i []) _ _ (fun j _=>by unfold Dv.kpL;simp),←(Q5 xss).mem_iff]
 constructor
 ·rintro⟨j,hj,rfl⟩
  rw [List.getD_eq_getElem?_getD,List.getElem?_eq_getElem hj];exact List.getElem_mem _
 ·intro hx;obtain⟨j,hj,rfl⟩:=List.getElem_of_mem hx
  exact⟨j,hj,by rw [List.getD_eq_getElem?_getD,List.getElem?_eq_getElem hj];rfl⟩
theorem WJ(xss:List (List Int))(hl:xss.length<1000000000)(hx: ∀x∈xss,x.length<1000000000):Iy xss=some (Dv.dedL (Er xss)):=by
 have h1: ∀x∈Er xss,x.length≤9223372036854775807:=fun x h=>by have:=hx x ((Q5 xss).mem_iff.1 h);omega
 unfold Iy;rw [Az (by omega),Az (fun x h=>by have:=hx x h;omega),Az (by rw [LC];omega),Az h1]
theorem A4J(o:List (List Int))(y:List Int)(s:Nat)(hpw:xm o)(hm: ∀x∈o,x.length=s∧GU x=true)(hy:y.length=s)(sy:GU y=true)(hl:o.length<1000000000)(hs:s<1000000000):
  ∃q,(K7 o y=some (.inl q)∨K7 o y=some (.inr q))∧xm q∧(∀x,x∈q↔x∈o∨x=y)∧q.length≤o.length+1:=by
 have hat: ∀i (hi:i<o.length),(o.getD i default).length=s∧GU (o.getD i default)=true:=fun i hi=>by rw [Ae _ _ hi];exact hm _ (List.getElem_mem hi)
 obtain⟨r,h1,k,rfl,hk,hlow,hhigh⟩:=KD (fun v=>Dx o y v)
  (fun m v=> ∃k:Nat,v=(k:Int)∧k≤o.length∧m=o.length-k∧ ∀j,j<k→cmpL (o.getD j default) y<0)
  (fun r=> ∃k:Nat,r=(k:Int)∧k≤o.length∧(∀j,j<k→cmpL (o.getD j default) y<0)∧(k<o.length→ ¬cmpL (o.getD k default) y<0)) (by
   rintro m v ⟨k,rfl,hk,rfl,hlow⟩
   by_cases hlt:k<o.length
   ·obtain⟨q1,q2⟩:=hat k hlt;by_cases hc:cmpL (o.getD k default) y<0
    ·left
     refine⟨((k+1:Nat):Int),o.length-(k+1), ?_,by omega,k+1,rfl,by omega,rfl,fun j hj=> ?_⟩
     ·simp only [Dx,Int.toNat_natCast];rw [if_pos (CJ hlt),Az (by omega),Az (by omega),Az (by omega),Az q2,Az sy,if_pos hc,JM k (by omega)]
     ·by_cases he:j=k
      ·subst he;exact hc
      ·exact hlow j (by omega)
    ·right
     refine⟨(k:Int), ?_,k,rfl,hk,hlow,fun _=>hc⟩
     simp only [Dx,Int.toNat_natCast];rw [if_pos (CJ hlt),Az (by omega),Az (by omega),Az (by omega),Az q2,Az sy,if_neg hc]
   ·right
    refine⟨(k:Int), ?_,k,rfl,hk,hlow,fun h=>absurd h hlt⟩
    simp only [Dx]
    rw [if_neg (by omega)]) o.length (0:Int) ⟨0,rfl,Nat.zero_le _,rfl,fun j hj=>by omega⟩
 have hlk:((o.take k).drop 0).length=k:=by rw [List.drop_zero,List.length_take];omega
 have hld:((o.take o.length).drop k).length=o.length-k:=by rw [List.length_drop,List.take_length]
 have hl2:(((o.take k).drop 0)++[y]).length=k+1:=by rw [List.length_append,hlk];rfl
 have put:(¬(k<o.length∧o.getD k default=y))→xm (((o.take k).drop 0++[y])++(o.take o.length).drop k)∧(∀x,x∈(((o.take k).drop 0++[y])++(o.take o.length).drop k)↔x∈o∨x=y)∧(((o.take k).drop 0++[y])++(o.take o.length).drop k).length≤o.length+1:=by
  intro hne
  refine⟨?_,fun x=> ?_,by rw [List.length_append,hl2,hld];omega⟩
  ·rw [List.drop_zero,List.take_length];have htk:(o.take k).Pairwise fun a b=>Dv.cmpL a b<0:=hpw.sublist (List.take_sublist _ _);have hdr:(o.drop k).Pairwise fun a b=>Dv.cmpL a b<0:=hpw.sublist (List.drop_sublist _ _)
   have hty: ∀a∈o.take k,Dv.cmpL a y<0:=fun a ha=>by
    obtain⟨j,hj,rfl⟩:=List.getElem_of_mem ha;rw [List.length_take]at hj;have:=hlow j (by omega)
    rw [Ae _ _ (by omega)]at this
    rw [List.getElem_take,A4I];omega
   have hyd: ∀b∈o.drop k,Dv.cmpL y b<0:=fun b hb=>by
    obtain⟨j,hj,rfl⟩:=List.getElem_of_mem hb;rw [List.length_drop]at hj;have hko:k<o.length:=by omega
    have h0:=hhigh hko;have h2: ¬o[k]=y:=fun h=>hne ⟨hko,by rw [Ae _ _ hko];exact h⟩
    rw [Ae _ _ hko,←A4I]at h0
    have h1:Dv.cmpL y o[k]<0:=by
     rw [Dv.cmpL_swap o[k] y];have: ¬Dv.cmpL o[k] y=0:=fun h=>h2 (Dv.cmpL_eq _ _ h)
     omega
    rw [List.getElem_drop];by_cases hj0:j=0
    ·subst hj0;exact h1
    ·exact Dv.cmpL_lt_trans _ _ _ h1 ((List.pairwise_iff_getElem.1 hpw) k (k+j) hko (by omega) (by omega))
   have hall: ∀a∈o.take k,∀b∈o.drop k,Dv.cmpL a b<0:=fun a ha b hb=>Dv.cmpL_lt_trans _ _ _ (hty a ha) (hyd b hb);unfold xm;rw [List.pairwise_append,List.pairwise_append]
   refine⟨⟨htk,List.pairwise_singleton _ _,fun a ha b hb=> ?_⟩,hdr,fun a ha b hb=> ?_⟩
   ·rw [List.mem_singleton.1 hb];exact hty a ha
   ·rcases List.mem_append.1 ha with ha | ha
    ·exact hall a ha b hb
    ·rw [List.mem_singleton.1 ha];exact hyd b hb
  ·rw [List.drop_zero,List.take_length];have e:x∈o↔x∈o.take k∨x∈o.drop k:=by rw [←List.mem_append,List.take_append_drop]
   rw [e];simp only [List.mem_append,List.mem_singleton]
   constructor
   ·rintro((h | h) | h)
    ·exact .inl (.inl h)
    ·exact .inr h
    ·exact .inl (.inr h)
   ·rintro((h | h) | h)
    ·exact .inl (.inl h)
    ·exact .inr h
    ·exact .inl (.inr h)
 unfold K7 KJ;rw [h1,Option.bind_some];by_cases hko:k<o.length
 ·obtain⟨q1,_⟩:=hat k hko;rw [if_pos (by omega)]
  simp only [Int.toNat_natCast];rw [Az (by omega),Xv _ _ (by omega),Option.bind_some]
  by_cases he:o.getD k default=y
  ·rw [decide_eq_true he,if_pos rfl]
   refine⟨o,.inl rfl,hpw,fun x=>⟨.inl, ?_⟩,by omega⟩
   rintro(h | rfl)
   ·exact h
   ·rw [←he,Ae _ _ hko];exact List.getElem_mem _
  ·obtain⟨p1,p2,p3⟩:=put fun c=>he c.2;rw [decide_eq_false he,if_neg (by decide),Az (by omega),Az (by omega),Az (by omega),Az (by omega),Az (by omega)]
   exact⟨_,.inr rfl,p1,p2,p3⟩
 ·obtain⟨p1,p2,p3⟩:=put fun c=>hko c.1;rw [if_neg (by omega)]
  simp only [Int.toNat_natCast];rw [Az (by omega),Az (by omega),Az (by omega),Az (by omega),Az (by omega)]
  exact⟨_,.inr rfl,p1,p2,p3⟩
structure FullOk(full:List (List Int))(w:Nat):Prop where
 len:full.length≤1000000
 row: ∀x∈full,x.length=w∧ ∀a∈x,1≤a∧a≤255
 wid:w≤4
theorem kX(w:Nat): ∀(l:List (List Int)),(∀x∈l,x.length=w)→l.flatten.length=w*l.length
 | [],_=>by simp
 | x::l,h=>by
  rw [List.flatten_cons,List.length_append,kX w l fun y hy=>h y (List.mem_cons_of_mem _ hy),h x List.mem_cons_self,List.length_cons,Nat.mul_add];omega
theorem PZ(l:List (List Int))(i:Nat)(hi:i<l.length):(l.take (i+1)).flatten=(l.take i).flatten++l[i]:=by rw [List.take_succ_eq_append_getElem hi,List.flatten_append];simp
theorem nY(l:List (List Int))(i:Nat):((l.take i).flatten).length≤l.flatten.length:=by
 have:l.flatten=(l.take i).flatten++(l.drop i).flatten:=by rw [←List.flatten_append,List.take_append_drop]
 rw [this,List.length_append];omega
theorem nZ(l:List (List Int))(hl:l.length<1000000000)(hf:l.flatten.length<1000000000):Co l=some l.flatten:=by
 have hrow: ∀i (hi:i<l.length),((l.take i).flatten).length+l[i].length≤l.flatten.length:=fun i hi=>by
  have h1:=PZ l i hi;have h2:=nY l (i+1);rw [h1,List.length_append]at h2;exact h2
 unfold Co
 have k0:CS l (0,0)=some (l.flatten.length:Int):=by
  unfold CS;have key:=Be (fun v=>BX l v.1 v.2) (fun i=>((((l.take i).flatten).length:Int),(i:Int))) l.length (l.flatten.length:Int) ?_ ?_
  ·exact key
  ·intro i hi;have:=hrow i hi
   simp only [BX,Int.toNat_natCast];rw [if_pos (CJ hi),Az (by omega),Ae _ _ hi,Ie _ (by omega),if_neg (by omega),JM i (by omega),PZ l i hi,List.length_append]
   norm_cast
  ·simp only [BX];rw [if_neg (Ak _),List.take_length]
 have k1:CU l ([],0)=some l.flatten:=by
  unfold CU;have key:=Be (fun v=>BZ l v.1 v.2) (fun i=>((l.take i).flatten,(i:Int))) l.length l.flatten ?_ ?_
  ·exact key
  ·intro i hi;have:=hrow i hi
   simp only [BZ,Int.toNat_natCast];have hg:=Ae l i hi;rw [if_pos (CJ hi),Az (by omega),Az (by rw [hg];omega),JM i (by omega),PZ l i hi,hg]
  ·simp only [BZ];rw [if_neg (Ak _),List.take_length]
 rw [k0,Option.bind_some,Az (by omega),k1];rfl
def Ck(full:List (List Int)):List Int:=FU [] full.flatten
theorem Ky(full:List (List Int)):Mq (Ck full):=PH _ _ List.Pairwise.nil
theorem M8(full:List (List Int))(a:Int):a∈Ck full↔ ∃x∈full,a∈x:=by
 unfold Ck;rw [WG];simp [List.mem_flatten]
theorem QK{full:List (List Int)}{w:Nat}(h:FullOk full w):(Ck full).length≤256:=WH (Ky full) fun x hx=>by
 obtain⟨y,hy,hxy⟩:=(M8 full x).1 hx;have:=(h.row y hy).2 x hxy;omega
theorem xw(l:List Int):(GK l).Pairwise fun a b=>a≤b:=by
 have:=List.pairwise_mergeSort (le:=fun(x y:Int)=>decide (x≤y)) (fun a b c h1 h2=>by simp only [decide_eq_true_eq]at h1 h2 ⊢;omega) (fun a b=>by simp only [Bool.or_eq_true,decide_eq_true_eq];omega) l
 exact this.imp (fun h=>by simpa using h)
theorem vG(l:List Int)(x:Int):x∈GK l↔x∈l:=(List.mergeSort_perm l _).mem_iff
theorem vH(l:List Int):(GK l).length=l.length:=List.length_mergeSort _
def Ni(full:List (List Int)):List (List Int):=full.map fun x=>DI (nums (Ck full) x)
def PK(full:List (List Int)):List (List Int):=Dv.dedL (Er (Ni full))
theorem WK{full:List (List Int)}{w:Nat}(h:FullOk full w): ∀y∈Ni full,y.length=w∧ ∀a∈y,0≤a∧a<(Ck full).length:=by
 intro y hy;obtain⟨x,hx,rfl⟩:=List.mem_map.1 hy
 refine⟨by rw [Sc,PI];exact(h.row x hx).1,fun a ha=> ?_⟩
 rw [(QD _).mem_iff]at ha;obtain⟨b,hb,rfl⟩:=List.mem_map.1 ha;have:=(kW (Ky full) ((M8 full b).2 ⟨x,hx,hb⟩)).1
 omega
theorem aD{full:List (List Int)}{w:Nat}(h:FullOk full w):Kl full=some (Ck full,PK full):=by
 have hw:=h.wid;have hl:=h.len;have hf:=kX w full fun x hx=>(h.row x hx).1;have hf2:full.flatten.length≤4000000:=by rw [hf];exact Nat.le_trans (Nat.mul_le_mul hw hl) (by omega)
 have hss:=QK h
 have es:Jq (GK full.flatten)=Ck full:=eZ (nV (xw _)) (Ky full) fun x=>by
  rw [vD,vG,M8];simp [List.mem_flatten]
 unfold Kl;rw [nZ full (by omega) (by omega),Option.bind_some,Az (by omega),jW _ (by rw [vH];omega),Option.bind_some,es]
 have k1:Hu full (Ck full) ([],0)=some (Ni full):=by
  unfold Hu;have key:=Be (fun v=>EK full (Ck full) v.1 v.2) (fun i=>((full.take i).map (fun x=>DI (nums (Ck full) x)),(i:Int))) full.length (Ni full) ?_ ?_
  ·exact key
  ·intro i hi;have hx:=h.row _ (List.getElem_mem hi);simp only [EK];rw [if_pos (CJ hi),Az (by omega),nW full (Ck full) _ i full[i] (Ae _ _ hi) (Ky full) (by omega) (by omega),Option.bind_some,Az (by rw [PI];omega),Az (by rw [List.length_map,List.length_take];omega),JM i (by omega),eQ,List.take_succ_eq_append_getElem hi,List.map_append]
   rfl
  ·simp only [EK];rw [if_neg (Ak _),List.take_length];rfl
 have hr:(Ni full).length=full.length:=by simp [Ni]
 rw [k1,Option.bind_some,WJ _ (by omega) fun x hx=>by have:=(WK h x hx).1;omega]
 rfl
theorem ng(a d:Int)(ns es full:List (List Int))(e:Bool)(t:Nat)(x b:List Int)(hx:full.getD t default=x)(hb:Mq b)(hbl:b.length+x.length<1000000):
  Kr a d ns es full e (t:Int) (b,0)=some (FU b x):=by
 unfold Kr;have key:=Be (fun v=>Gw a d ns es full e (t:Int) v.1 v.2) (fun i=>(FU b (x.take i),(i:Int))) x.length (FU b x) ?_ ?_
 ·simpa [FU] using key
 ·intro i hi;have h1:Mq (FU b (x.take i)):=PH _ _ hb
  have hlen: ∀(xs:List Int) (b:List Int),(FU b xs).length≤b.length+xs.length:=by
   intro xs
   induction xs with
   | nil=>intro b;simp [FU]
   | cons y xs ih=>
    intro b;have:=ih (PG b y)
    have h2:=ed b y
    show(FU (PG b y) xs).length≤_
    simp only [List.length_cons];omega
  have h2:=hlen (x.take i) b;have h3:(x.take i).length≤x.length:=by rw [List.length_take];omega
  have e':FU b (x.take (i+1))=PG (FU b (x.take i)) x[i]:=by
   unfold FU;rw [List.take_succ_eq_append_getElem hi,List.foldl_append];rfl
  simp only [Gw,Int.toNat_natCast,hx];rw [if_pos (CJ hi),Az (by omega),Ae _ _ hi,JM i (by omega),e']
  rcases vB (FU b (x.take i)) x[i] h1 (by omega)with q | q<;>rw [q]<;>rfl
 ·simp only [Gw,Int.toNat_natCast,hx];rw [if_neg (Ak _),List.take_length]
theorem ni(a d:Int)(ns es:List (List Int)){full:List (List Int)}{w:Nat}(e:Bool)(h:FullOk full w):Kt a d ns es full e ([],0)=some (Ck full):=by
 have hw:=h.wid;have hl:=h.len;unfold Kt;have key:=Be (fun v=>Gx a d ns es full e v.1 v.2) (fun i=>(FU [] (full.take i).flatten,(i:Int))) full.length (Ck full) ?_ ?_
 ·exact key
 ·intro i hi;have hx:=h.row _ (List.getElem_mem hi);have h1:Mq (FU [] (full.take i).flatten):=PH _ _ List.Pairwise.nil
  have h2:(FU [] (full.take i).flatten).length≤256:=WH h1 fun x hx'=>by
   rcases(WG _ _ _).1 hx' with h3 | h3
   ·cases h3
   ·obtain⟨y,hy,hxy⟩:=List.mem_flatten.1 h3;have:=(h.row y (List.mem_of_mem_take hy)).2 x hxy;omega
  simp only [Gx];rw [if_pos (CJ hi),Az (by omega),ng a d ns es full e i full[i] _ (Ae _ _ hi) h1 (by omega),Option.bind_some,JM i (by omega),PZ full i hi]
  unfold FU;rw [List.foldl_append]
 ·simp only [Gx];rw [if_neg (Ak _),List.take_length];rfl
theorem nk(a d:Int)(ns es:List (List Int)){full:List (List Int)}{w:Nat}(e:Bool)(h:FullOk full w):Ku a d ns es full e (Ck full) ([],0)=some (PK full):=by
 have hw:=h.wid;have hl:=h.len;have hss:=QK h;have hok:=WK h;unfold Ku;have key:=KD (fun v=>FO a d ns es full e (Ck full) v.1 v.2)
  (fun n (v:List (List Int)×Int)=> ∃i:Nat,v.2=(i:Int)∧n=full.length-i∧i≤full.length∧xm v.1∧v.1.length≤i∧ ∀x,x∈v.1↔x∈(full.take i).map fun x=>DI (nums (Ck full) x))
  (fun r=>r=PK full) ?_ full.length ([],0) ⟨0,rfl,rfl,Nat.zero_le _,List.Pairwise.nil,Nat.le_refl _,fun x=>by simp⟩
 ·obtain⟨r,h1,h2⟩:=key;rw [h1,h2]
 ·rintro n ⟨o,v⟩ ⟨i,e1,e2,e3,e4,e5,e6⟩
  simp only at e1 e4 e5 e6;subst e1;by_cases hi:i<full.length
  ·left
   have hx:=h.row _ (List.getElem_mem hi);have small: ∀y∈Ni full,y.length=w∧GU y=true:=fun y hy=>⟨(hok y hy).1,List.all_eq_true.2 fun b hb=>MZ.2 (by have:=(hok y hy).2 b hb;omega)⟩
   have hin: ∀j (hj:j<full.length),DI (nums (Ck full) full[j])∈Ni full:=fun j hj=>List.mem_map.2 ⟨_,List.getElem_mem hj,rfl⟩
   have ho: ∀x∈o,x.length=w∧GU x=true:=fun x hx'=>by
    obtain⟨y,hy,rfl⟩:=List.mem_map.1 ((e6 x).1 hx');exact small _ (List.mem_map.2 ⟨y,List.mem_of_mem_take hy,rfl⟩)
   obtain⟨s1,s2⟩:=small _ (hin i hi);obtain⟨q,q1,q2,q3,q4⟩:=A4J o (DI (nums (Ck full) full[i])) w e4 ho s1 s2 (by omega) (by omega)
   have step:FO a d ns es full e (Ck full) o (i:Int)=some (.inl (q,((i+1:Nat):Int))):=by
    simp only [FO,Int.toNat_natCast];rw [if_pos (CJ hi),Az (by omega),Ae _ _ hi,nX (Ck full) full[i] (Ky full) (fun b hb=>(M8 full b).2 ⟨_,List.getElem_mem hi,hb⟩) (by omega) (by omega),Option.bind_some,JM i (by omega)]
    rcases q1 with q1 | q1<;>rw [q1]<;>rfl
   refine⟨_,full.length-(i+1),step,by omega,i+1,rfl,rfl,by omega,q2,by simp only;omega,fun x=> ?_⟩
   simp only;rw [q3,e6,List.take_succ_eq_append_getElem hi,List.map_append,List.mem_append]
   simp
  ·right
   have hie:i=full.length:=by omega
   subst hie
   refine⟨o, ?_, ?_⟩
   ·simp only [FO];rw [if_neg (Ak _)]
   ·rw [List.take_length]at e6;exact xu e4 (vF _) fun x=>by rw [e6];exact(fC (Ni full) x).symm
end Go.Proofs.YtjhjkfoabhplfaaGreat
