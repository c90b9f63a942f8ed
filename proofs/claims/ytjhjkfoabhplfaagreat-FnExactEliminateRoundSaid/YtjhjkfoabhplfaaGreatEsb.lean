/- New labels: program and reference agree. Conditions: those in each lemma. -/
import Derived.Test.YtjhjkfoabhplfaaGreatL6
import Derived.Test.YtjhjkfoabhplfaaGreatEsa
namespace Go.Proofs.YtjhjkfoabhplfaaGreat
open Go Dv
set_option linter.unusedSimpArgs false
set_option linter.unusedVariables false
set_option maxRecDepth 100000
def yN(o:AL):Prop:=o.Pairwise fun a b=>Dv.cmpL a b<0
theorem A3J(x:AA): ¬Dv.cmpL x x<0:=by rw [Dv.cmpL_self];omega
theorem A3K(x y:AA)(h:Dv.cmpL x y<0): ¬Dv.cmpL y x<0:=by rw [Dv.cmpL_swap x y];omega
theorem vG{a b:AL}(ha:yN a)(hb:yN b)(h: ∀x,x∈a↔x∈b):a=b:=A1i A3J A3K ha hb h
theorem WG(xss:AL):yN (Dv.dedL (EX xss)):=by
 unfold Dv.dedL yN;have hp:=Sq xss;refine vD (le:=fun a b=>Dv.cmpL a b≤0) (fun i=>(EX xss).getD i []) _ _ (fun j _=>by unfold Dv.kpL;simp) (fun i j hij hj=> ?_) fun x y z h1 h2 h3=> ?_
 ·rw [Lp,Lp,Fz (by omega:i<(EX xss).length),Fz hj]
  by_cases e:i=j
  ·subst e;rw [YT,Dv.cmpL_self];omega
  ·exact(WK.1 hp) i j (by omega) hj (by omega)
 ·have h4:=Dv.cmpL_le_trans x y z h1 h2;refine Classical.byContradiction fun hn=> ?_;have e0:Dv.cmpL x z=0:=by omega
  have:=Dv.cmpL_eq x z e0
  subst this;have e1:Dv.cmpL x y=0:=by rw [Dv.cmpL_swap x y]at h2;omega
  exact h3 (Dv.cmpL_eq x y e1).symm
theorem TM(xss:AL)(x:AA):x∈Dv.dedL (EX xss)↔x∈xss:=by
 unfold Dv.dedL;rw [pJ (fun i=>(EX xss).getD i []) _ _ (fun j _=>by unfold Dv.kpL;simp),←(Ub xss).mem_iff]
 constructor
 ·rintro⟨j,hj,rfl⟩
  rw [Lp,Fz hj];exact FT _
 ·intro hx;obtain⟨j,hj,rfl⟩:=UO hx
  exact⟨j,hj,by rw [Lp,Fz hj];rfl⟩
theorem TN(xss:AL)(hl:xss.length<1000000000)(hx: ∀x∈xss,x.length<1000000000):JF xss=some (Dv.dedL (EX xss)):=by
 have h1: ∀x∈EX xss,x.length≤9223372036854775807:=fun x h=>by have:=hx x ((Ub xss).mem_iff.1 h);omega
 unfold JF;rw [Ao (by omega),Ao (fun x h=>by have:=hx x h;omega),Ao (by rw [K6];omega),Ao h1]
theorem A94(o:AL)(y:AA)(s:Nat)(hpw:yN o)(hm: ∀x∈o,x.length=s∧Ib x=true)(hy:y.length=s)(sy:Ib y=true)(hl:o.length<1000000000)(hs:s<1000000000):
  ∃q,(N8 o y=some (.inl q)∨N8 o y=some (.inr q))∧yN q∧(∀x,x∈q↔x∈o∨x=y)∧q.length≤o.length+1:=by
 have hat: ∀i (hi:i<o.length),(o.getD i default).length=s∧Ib (o.getD i default)=true:=fun i hi=>by rw [AX _ _ hi];exact hm _ (FT hi)
 obtain⟨r,h1,k,rfl,hk,hlow,hhigh⟩:=JV (fun v=>En o y v)
  (fun m v=> ∃k:Nat,v=(k:Int)∧k≤o.length∧m=o.length-k∧ ∀j,j<k→cmpL (o.getD j default) y<0)
  (fun r=> ∃k:Nat,r=(k:Int)∧k≤o.length∧(∀j,j<k→cmpL (o.getD j default) y<0)∧(k<o.length→ ¬cmpL (o.getD k default) y<0)) (by
   rintro m v ⟨k,rfl,hk,rfl,hlow⟩
   by_cases hlt:k<o.length
   ·obtain⟨q1,q2⟩:=hat k hlt;by_cases hc:cmpL (o.getD k default) y<0
    ·left
     refine⟨((k+1:Nat):Int),o.length-(k+1), ?_,by omega,k+1,rfl,by omega,rfl,fun j hj=> ?_⟩
     ·simp only [En,H5];rw [if_pos (BZ hlt),Ao (by omega),Ao (by omega),Ao (by omega),Ao q2,Ao sy,if_pos hc,H9 k (by omega)]
     ·by_cases he:j=k
      ·subst he;exact hc
      ·exact hlow j (by omega)
    ·right
     refine⟨(k:Int), ?_,k,rfl,hk,hlow,fun _=>hc⟩
     simp only [En,H5];rw [if_pos (BZ hlt),Ao (by omega),Ao (by omega),Ao (by omega),Ao q2,Ao sy,if_neg hc]
   ·right
    refine⟨(k:Int), ?_,k,rfl,hk,hlow,fun h=>absurd h hlt⟩
    simp only [En]
    rw [if_neg (by omega)]) o.length (0:Int) ⟨0,rfl,Tx _,rfl,fun j hj=>by omega⟩
 have hlk:((o.take k).drop 0).length=k:=by rw [UT,KV];omega
 have hld:((o.take o.length).drop k).length=o.length-k:=by rw [gF,Lr]
 have hl2:(((o.take k).drop 0)++[y]).length=k+1:=by rw [KU,hlk];rfl
 have put:(¬(k<o.length∧o.getD k default=y))→yN (((o.take k).drop 0++[y])++(o.take o.length).drop k)∧(∀x,x∈(((o.take k).drop 0++[y])++(o.take o.length).drop k)↔x∈o∨x=y)∧(((o.take k).drop 0++[y])++(o.take o.length).drop k).length≤o.length+1:=by
  intro hne
  refine⟨?_,fun x=> ?_,by rw [KU,hl2,hld];omega⟩
  ·rw [UT,Lr];have htk:(o.take k).Pairwise fun a b=>Dv.cmpL a b<0:=hpw.sublist (List.take_sublist _ _);have hdr:(o.drop k).Pairwise fun a b=>Dv.cmpL a b<0:=hpw.sublist (List.drop_sublist _ _)
   have hty: ∀a∈o.take k,Dv.cmpL a y<0:=fun a ha=>by
    obtain⟨j,hj,rfl⟩:=UO ha;rw [KV]at hj;have:=hlow j (by omega)
    rw [AX _ _ (by omega)]at this
    rw [List.getElem_take,A3I];omega
   have hyd: ∀b∈o.drop k,Dv.cmpL y b<0:=fun b hb=>by
    obtain⟨j,hj,rfl⟩:=UO hb;rw [gF]at hj;have hko:k<o.length:=by omega
    have h0:=hhigh hko;have h2: ¬o[k]=y:=fun h=>hne ⟨hko,by rw [AX _ _ hko];exact h⟩
    rw [AX _ _ hko,←A3I]at h0
    have h1:Dv.cmpL y o[k]<0:=by
     rw [Dv.cmpL_swap o[k] y];have: ¬Dv.cmpL o[k] y=0:=fun h=>h2 (Dv.cmpL_eq _ _ h)
     omega
    rw [List.getElem_drop];by_cases hj0:j=0
    ·subst hj0;exact h1
    ·exact Dv.cmpL_lt_trans _ _ _ h1 ((WK.1 hpw) k (k+j) hko (by omega) (by omega))
   have hall: ∀a∈o.take k,∀b∈o.drop k,Dv.cmpL a b<0:=fun a ha b hb=>Dv.cmpL_lt_trans _ _ _ (hty a ha) (hyd b hb);unfold yN;rw [List.pairwise_append,List.pairwise_append]
   refine⟨⟨htk,List.pairwise_singleton _ _,fun a ha b hb=> ?_⟩,hdr,fun a ha b hb=> ?_⟩
   ·rw [UQ.1 hb];exact hty a ha
   ·rcases PW.1 ha with ha|ha
    ·exact hall a ha b hb
    ·rw [UQ.1 ha];exact hyd b hb
  ·rw [UT,Lr];have e:x∈o↔x∈o.take k∨x∈o.drop k:=by rw [←PW,List.take_append_drop]
   rw [e];simp only [PW,UQ]
   constructor
   ·rintro((h|h)|h)
    ·exact .inl (.inl h)
    ·exact .inr h
    ·exact .inl (.inr h)
   ·rintro((h|h)|h)
    ·exact .inl (.inl h)
    ·exact .inr h
    ·exact .inl (.inr h)
 unfold N8 NP;rw [h1,Bl];by_cases hko:k<o.length
 ·obtain⟨q1,_⟩:=hat k hko;rw [if_pos (by omega)]
  simp only [H5];rw [Ao (by omega),fE _ _ (by omega),Bl]
  by_cases he:o.getD k default=y
  ·rw [decide_eq_true he,if_pos rfl]
   refine⟨o,.inl rfl,hpw,fun x=>⟨.inl, ?_⟩,by omega⟩
   rintro(h|rfl)
   ·exact h
   ·rw [←he,AX _ _ hko];exact FT _
  ·obtain⟨p1,p2,p3⟩:=put fun c=>he c.2;rw [decide_eq_false he,if_neg (by decide),Ao (by omega),Ao (by omega),Ao (by omega),Ao (by omega),Ao (by omega)]
   exact⟨_,.inr rfl,p1,p2,p3⟩
 ·obtain⟨p1,p2,p3⟩:=put fun c=>hko c.1;rw [if_neg (by omega)]
  simp only [H5];rw [Ao (by omega),Ao (by omega),Ao (by omega),Ao (by omega),Ao (by omega)]
  exact⟨_,.inr rfl,p1,p2,p3⟩
structure FullOk(full:AL)(w:Nat):Prop where
 len:full.length≤1000000
 row: ∀x∈full,x.length=w∧ ∀a∈x,1≤a∧a≤255
 wid:w≤4
theorem vH(w:Nat): ∀(l:AL),(∀x∈l,x.length=w)→l.flatten.length=w*l.length
 | [],_=>by simp
 |x::l,h=>by
  rw [qM,KU,vH w l fun y hy=>h y (KT _ hy),h x Ja,JS,Nat.mul_add];omega
theorem Tn(l:AL)(i:Nat)(hi:i<l.length):(l.take (i+1)).flatten=(l.take i).flatten++l[i]:=by rw [S9 hi,List.flatten_append];simp
theorem xy(l:AL)(i:Nat):((l.take i).flatten).length≤l.flatten.length:=by
 have:l.flatten=(l.take i).flatten++(l.drop i).flatten:=by rw [←List.flatten_append,List.take_append_drop]
 rw [this,KU];omega
theorem xz(l:AL)(hl:l.length<1000000000)(hf:l.flatten.length<1000000000):DC l=some l.flatten:=by
 have hrow: ∀i (hi:i<l.length),((l.take i).flatten).length+l[i].length≤l.flatten.length:=fun i hi=>by
  have h1:=Tn l i hi;have h2:=xy l (i+1);rw [h1,KU]at h2;exact h2
 unfold DC
 have k0:Ca l (0,0)=some (l.flatten.length:Int):=by
  unfold Ca;have key:=BD (fun v=>Be l v.1 v.2) (fun i=>((((l.take i).flatten).length:Int),(i:Int))) l.length (l.flatten.length:Int) ?_ ?_
  ·exact key
  ·intro i hi;have:=hrow i hi
   simp only [Be,H5];rw [if_pos (BZ hi),Ao (by omega),AX _ _ hi,Db _ (by omega),if_neg (by omega),H9 i (by omega),Tn l i hi,KU]
   norm_cast
  ·simp only [Be];rw [if_neg (Ae _),Lr]
 have k1:Cb l ([],0)=some l.flatten:=by
  unfold Cb;have key:=BD (fun v=>Bf l v.1 v.2) (fun i=>((l.take i).flatten,(i:Int))) l.length l.flatten ?_ ?_
  ·exact key
  ·intro i hi;have:=hrow i hi
   simp only [Bf,H5];have hg:=AX l i hi;rw [if_pos (BZ hi),Ao (by omega),Ao (by rw [hg];omega),H9 i (by omega),Tn l i hi,hg]
  ·simp only [Bf];rw [if_neg (Ae _),Lr]
 rw [k0,Bl,Ao (by omega),k1];rfl
def Al(full:AL):AA:=Gv [] full.flatten
theorem Js(full:AL):QH (Al full):=TK _ _ List.Pairwise.nil
theorem LZ(full:AL)(a:Int):a∈Al full↔ ∃x∈full,a∈x:=by
 unfold Al;rw [aR];simp [List.mem_flatten]
theorem RZ{full:AL}{w:Nat}(h:FullOk full w):(Al full).length≤256:=aS (Js full) fun x hx=>by
 obtain⟨y,hy,hxy⟩:=(LZ full x).1 hx;have:=(h.row y hy).2 x hxy;omega
theorem l9(l:AA):(Dn l).Pairwise fun a b=>a≤b:=by
 have:=List.pairwise_mergeSort (le:=fun(x y:Int)=>decide (x≤y)) (fun a b c h1 h2=>by simp only [decide_eq_true_eq]at h1 h2 ⊢;omega) (fun a b=>by simp only [Uv,decide_eq_true_eq];omega) l
 exact this.imp (fun h=>by simpa using h)
theorem pM(l:AA)(x:Int):x∈Dn l↔x∈l:=(List.mergeSort_perm l _).mem_iff
theorem pO(l:AA):(Dn l).length=l.length:=List.length_mergeSort _
def QA(full:AL):AL:=full.map fun x=>Bt (nums (Al full) x)
def Fg(full:AL):AL:=Dv.dedL (EX (QA full))
theorem aU{full:AL}{w:Nat}(h:FullOk full w): ∀y∈QA full,y.length=w∧ ∀a∈y,0≤a∧a<(Al full).length:=by
 intro y hy;obtain⟨x,hx,rfl⟩:=Fq.1 hy
 refine⟨by rw [Tf,TL];exact(h.row x hx).1,fun a ha=> ?_⟩
 rw [(PI _).mem_iff]at ha;obtain⟨b,hb,rfl⟩:=Fq.1 ha;have:=(vF (Js full) ((LZ full b).2 ⟨x,hx,hb⟩)).1
 omega
theorem WH{full:AL}{w:Nat}(h:FullOk full w):IQ full=some (Al full,Fg full):=by
 have hw:=h.wid;have hl:=h.len;have hf:=vH w full fun x hx=>(h.row x hx).1;have hf2:full.flatten.length≤4000000:=by rw [hf];exact UU (Nat.mul_le_mul hw hl) (by omega)
 have hss:=RZ h
 have es:Mf (Dn full.flatten)=Al full:=aO (xu (l9 _)) (Js full) fun x=>by
  rw [A1j,pM,LZ];simp [List.mem_flatten]
 unfold IQ;rw [xz full (by omega) (by omega),Bl,Ao (by omega),uA _ (by rw [pO];omega),Bl,es]
 have k1:Jm full (Al full) ([],0)=some (QA full):=by
  unfold Jm;have key:=BD (fun v=>F7 full (Al full) v.1 v.2) (fun i=>((full.take i).map (fun x=>Bt (nums (Al full) x)),(i:Int))) full.length (QA full) ?_ ?_
  ·exact key
  ·intro i hi;have hx:=h.row _ (FT hi);simp only [F7];rw [if_pos (BZ hi),Ao (by omega),xw full (Al full) _ i full[i] (AX _ _ hi) (Js full) (by omega) (by omega),Bl,Ao (by rw [TL];omega),Ao (by rw [R4,KV];omega),H9 i (by omega),oV,S9 hi,UR]
   rfl
  ·simp only [F7];rw [if_neg (Ae _),Lr];rfl
 have hr:(QA full).length=full.length:=by simp [QA]
 rw [k1,Bl,TN _ (by omega) fun x hx=>by have:=(aU h x hx).1;omega]
 rfl
theorem y5(a d:Int)(ns es full:AL)(e:Bool)(t:Nat)(x b:AA)(hx:full.getD t default=x)(hb:QH b)(hbl:b.length+x.length<1000000):
  Nr a d ns es full e (t:Int) (b,0)=some (Gv b x):=by
 unfold Nr;have key:=BD (fun v=>JI a d ns es full e (t:Int) v.1 v.2) (fun i=>(Gv b (x.take i),(i:Int))) x.length (Gv b x) ?_ ?_
 ·simpa [Gv] using key
 ·intro i hi;have h1:QH (Gv b (x.take i)):=TK _ _ hb
  have hlen: ∀(xs:AA) (b:AA),(Gv b xs).length≤b.length+xs.length:=by
   intro xs
   induction xs with
   |nil=>intro b;simp [Gv]
   |cons y xs ih=>
    intro b;have:=ih (TJ b y)
    have h2:=pG b y
    show(Gv (TJ b y) xs).length≤_
    simp only [JS];omega
  have h2:=hlen (x.take i) b;have h3:(x.take i).length≤x.length:=by rw [KV];omega
  have e':Gv b (x.take (i+1))=TJ (Gv b (x.take i)) x[i]:=by
   unfold Gv;rw [S9 hi,List.foldl_append];rfl
  simp only [JI,H5,hx];rw [if_pos (BZ hi),Ao (by omega),AX _ _ hi,H9 i (by omega),e']
  rcases A1h (Gv b (x.take i)) x[i] h1 (by omega)with q|q<;>rw [q]<;>rfl
 ·simp only [JI,H5,hx];rw [if_neg (Ae _),Lr]
theorem fK(a d:Int)(ns es:AL){full:AL}{w:Nat}(e:Bool)(h:FullOk full w):Nt a d ns es full e ([],0)=some (Al full):=by
 have hw:=h.wid;have hl:=h.len;unfold Nt;have key:=BD (fun v=>JJ a d ns es full e v.1 v.2) (fun i=>(Gv [] (full.take i).flatten,(i:Int))) full.length (Al full) ?_ ?_
 ·exact key
 ·intro i hi;have hx:=h.row _ (FT hi);have h1:QH (Gv [] (full.take i).flatten):=TK _ _ List.Pairwise.nil
  have h2:(Gv [] (full.take i).flatten).length≤256:=aS h1 fun x hx'=>by
   rcases(aR _ _ _).1 hx' with h3|h3
   ·cases h3
   ·obtain⟨y,hy,hxy⟩:=List.mem_flatten.1 h3;have:=(h.row y (List.mem_of_mem_take hy)).2 x hxy;omega
  simp only [JJ];rw [if_pos (BZ hi),Ao (by omega),y5 a d ns es full e i full[i] _ (AX _ _ hi) h1 (by omega),Bl,H9 i (by omega),Tn full i hi]
  unfold Gv;rw [List.foldl_append]
 ·simp only [JJ];rw [if_neg (Ae _),Lr];rfl
theorem fM(a d:Int)(ns es:AL){full:AL}{w:Nat}(e:Bool)(h:FullOk full w):Nu a d ns es full e (Al full) ([],0)=some (Fg full):=by
 have hw:=h.wid;have hl:=h.len;have hss:=RZ h;have hok:=aU h;unfold Nu;have key:=JV (fun v=>Gq a d ns es full e (Al full) v.1 v.2)
  (fun n (v:AL×Int)=> ∃i:Nat,v.2=(i:Int)∧n=full.length-i∧i≤full.length∧yN v.1∧v.1.length≤i∧ ∀x,x∈v.1↔x∈(full.take i).map fun x=>Bt (nums (Al full) x))
  (fun r=>r=Fg full) ?_ full.length ([],0) ⟨0,rfl,rfl,Tx _,List.Pairwise.nil,Io _,fun x=>by simp⟩
 ·obtain⟨r,h1,h2⟩:=key;rw [h1,h2]
 ·rintro n ⟨o,v⟩ ⟨i,e1,e2,e3,e4,e5,e6⟩
  simp only at e1 e4 e5 e6;subst e1;by_cases hi:i<full.length
  ·left
   have hx:=h.row _ (FT hi);have small: ∀y∈QA full,y.length=w∧Ib y=true:=fun y hy=>⟨(hok y hy).1,JR.2 fun b hb=>MG.2 (by have:=(hok y hy).2 b hb;omega)⟩
   have hin: ∀j (hj:j<full.length),Bt (nums (Al full) full[j])∈QA full:=fun j hj=>Fq.2 ⟨_,FT hj,rfl⟩
   have ho: ∀x∈o,x.length=w∧Ib x=true:=fun x hx'=>by
    obtain⟨y,hy,rfl⟩:=Fq.1 ((e6 x).1 hx');exact small _ (Fq.2 ⟨y,List.mem_of_mem_take hy,rfl⟩)
   obtain⟨s1,s2⟩:=small _ (hin i hi);obtain⟨q,q1,q2,q3,q4⟩:=A94 o (Bt (nums (Al full) full[i])) w e4 ho s1 s2 (by omega) (by omega)
   have step:Gq a d ns es full e (Al full) o (i:Int)=some (.inl (q,((i+1:Nat):Int))):=by
    simp only [Gq,H5];rw [if_pos (BZ hi),Ao (by omega),AX _ _ hi,xx (Al full) full[i] (Js full) (fun b hb=>(LZ full b).2 ⟨_,FT hi,hb⟩) (by omega) (by omega),Bl,H9 i (by omega)]
    rcases q1 with q1|q1<;>rw [q1]<;>rfl
   refine⟨_,full.length-(i+1),step,by omega,i+1,rfl,rfl,by omega,q2,by simp only;omega,fun x=> ?_⟩
   simp only;rw [q3,e6,S9 hi,UR,PW]
   simp
  ·right
   have hie:i=full.length:=by omega
   subst hie
   refine⟨o, ?_, ?_⟩
   ·simp only [Gq];rw [if_neg (Ae _)]
   ·rw [Lr]at e6;exact vG e4 (WG _) fun x=>by rw [e6];exact(TM (QA full) x).symm
end Go.Proofs.YtjhjkfoabhplfaaGreat
