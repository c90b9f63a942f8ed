/- New labels: program and reference agree. Conditions: those in each lemma. -/
import Derived.Test.YtjhjkfoabhplfaaGreatL6
import Derived.Test.YtjhjkfoabhplfaaGreatEsa
namespace Go.Proofs.YtjhjkfoabhplfaaGreat
open Go Dv
set_option linter.unusedSimpArgs false
set_option linter.unusedVariables false
set_option maxRecDepth 100000
def StL(o:List (List Int)):Prop:=o.Pairwise fun a b=>Dv.cmpL a b<0
theorem A0m(x:List Int): ¬Dv.cmpL x x<0:=by rw [Dv.cmpL_self];omega
theorem A0n(x y:List Int)(h:Dv.cmpL x y<0): ¬Dv.cmpL y x<0:=by rw [Dv.cmpL_swap x y];omega
theorem pY{a b:List (List Int)}(ha:StL a)(hb:StL b)(h: ∀x,x∈a↔x∈b):a=b:=yu A0m A0n ha hb h
theorem Ya(xss:List (List Int)):StL (Dv.dedL (EO xss)):=by
 unfold Dv.dedL StL;have hp:=R7 xss;refine pV (le:=fun a b=>Dv.cmpL a b≤0) (fun i=>(EO xss).getD i []) _ _ (fun j _=>by unfold Dv.kpL;simp) (fun i j hij hj=> ?_) fun x y z h1 h2 h3=> ?_
 ·rw [Kw,Kw,FV (by omega:i<(EO xss).length),FV hj]
  by_cases e:i=j
  ·subst e;rw [Wq,Dv.cmpL_self];omega
  ·exact(Vu.1 hp) i j (by omega) hj (by omega)
 ·have h4:=Dv.cmpL_le_trans x y z h1 h2;refine Classical.byContradiction fun hn=> ?_;have e0:Dv.cmpL x z=0:=by omega
  have:=Dv.cmpL_eq x z e0
  subst this;have e1:Dv.cmpL x y=0:=by rw [Dv.cmpL_swap x y]at h2;omega
  exact h3 (Dv.cmpL_eq x y e1).symm
theorem RZ(xss:List (List Int))(x:List Int):x∈Dv.dedL (EO xss)↔x∈xss:=by
 unfold Dv.dedL;rw [kG (fun i=>(EO xss).getD i []) _ _ (fun j _=>by unfold Dv.kpL;simp),←(Sz xss).mem_iff]
 constructor
 ·rintro⟨j,hj,rfl⟩
  rw [Kw,FV hj];exact FE _
 ·intro hx;obtain⟨j,hj,rfl⟩:=Sj hx
  exact⟨j,hj,by rw [Kw,FV hj];rfl⟩
theorem Ra(xss:List (List Int))(hl:xss.length<1000000000)(hx: ∀x∈xss,x.length<1000000000):Ia xss=some (Dv.dedL (EO xss)):=by
 have h1: ∀x∈EO xss,x.length≤9223372036854775807:=fun x h=>by have:=hx x ((Sz xss).mem_iff.1 h);omega
 unfold Ia;rw [Am (by omega),Am (fun x h=>by have:=hx x h;omega),Am (by rw [JV];omega),Am h1]
theorem A6I(o:List (List Int))(y:List Int)(s:Nat)(hpw:StL o)(hm: ∀x∈o,x.length=s∧Hw x=true)(hy:y.length=s)(sy:Hw y=true)(hl:o.length<1000000000)(hs:s<1000000000):
  ∃q,(M0 o y=some (.inl q)∨M0 o y=some (.inr q))∧StL q∧(∀x,x∈q↔x∈o∨x=y)∧q.length≤o.length+1:=by
 have hat: ∀i (hi:i<o.length),(o.getD i default).length=s∧Hw (o.getD i default)=true:=fun i hi=>by rw [AV _ _ hi];exact hm _ (FE hi)
 obtain⟨r,h1,k,rfl,hk,hlow,hhigh⟩:=Im (fun v=>EZ o y v)
  (fun m v=> ∃k:Nat,v=(k:Int)∧k≤o.length∧m=o.length-k∧ ∀j,j<k→cmpL (o.getD j default) y<0)
  (fun r=> ∃k:Nat,r=(k:Int)∧k≤o.length∧(∀j,j<k→cmpL (o.getD j default) y<0)∧(k<o.length→ ¬cmpL (o.getD k default) y<0)) (by
   rintro m v ⟨k,rfl,hk,rfl,hlow⟩
   by_cases hlt:k<o.length
   ·obtain⟨q1,q2⟩:=hat k hlt;by_cases hc:cmpL (o.getD k default) y<0
    ·left
     refine⟨((k+1:Nat):Int),o.length-(k+1), ?_,by omega,k+1,rfl,by omega,rfl,fun j hj=> ?_⟩
     ·simp only [EZ,IA];rw [if_pos (Bi hlt),Am (by omega),Am (by omega),Am (by omega),Am q2,Am sy,if_pos hc,IR k (by omega)]
     ·by_cases he:j=k
      ·subst he;exact hc
      ·exact hlow j (by omega)
    ·right
     refine⟨(k:Int), ?_,k,rfl,hk,hlow,fun _=>hc⟩
     simp only [EZ,IA];rw [if_pos (Bi hlt),Am (by omega),Am (by omega),Am (by omega),Am q2,Am sy,if_neg hc]
   ·right
    refine⟨(k:Int), ?_,k,rfl,hk,hlow,fun h=>absurd h hlt⟩
    simp only [EZ]
    rw [if_neg (by omega)]) o.length (0:Int) ⟨0,rfl,SA _,rfl,fun j hj=>by omega⟩
 have hlk:((o.take k).drop 0).length=k:=by rw [Sk,Jr];omega
 have hld:((o.take o.length).drop k).length=o.length-k:=by rw [aU,LZ]
 have hl2:(((o.take k).drop 0)++[y]).length=k+1:=by rw [Jq,hlk];rfl
 have put:(¬(k<o.length∧o.getD k default=y))→StL (((o.take k).drop 0++[y])++(o.take o.length).drop k)∧(∀x,x∈(((o.take k).drop 0++[y])++(o.take o.length).drop k)↔x∈o∨x=y)∧(((o.take k).drop 0++[y])++(o.take o.length).drop k).length≤o.length+1:=by
  intro hne
  refine⟨?_,fun x=> ?_,by rw [Jq,hl2,hld];omega⟩
  ·rw [Sk,LZ];have htk:(o.take k).Pairwise fun a b=>Dv.cmpL a b<0:=hpw.sublist (List.take_sublist _ _);have hdr:(o.drop k).Pairwise fun a b=>Dv.cmpL a b<0:=hpw.sublist (List.drop_sublist _ _)
   have hty: ∀a∈o.take k,Dv.cmpL a y<0:=fun a ha=>by
    obtain⟨j,hj,rfl⟩:=Sj ha;rw [Jr]at hj;have:=hlow j (by omega)
    rw [AV _ _ (by omega)]at this
    rw [List.getElem_take,A6H];omega
   have hyd: ∀b∈o.drop k,Dv.cmpL y b<0:=fun b hb=>by
    obtain⟨j,hj,rfl⟩:=Sj hb;rw [aU]at hj;have hko:k<o.length:=by omega
    have h0:=hhigh hko;have h2: ¬o[k]=y:=fun h=>hne ⟨hko,by rw [AV _ _ hko];exact h⟩
    rw [AV _ _ hko,←A6H]at h0
    have h1:Dv.cmpL y o[k]<0:=by
     rw [Dv.cmpL_swap o[k] y];have: ¬Dv.cmpL o[k] y=0:=fun h=>h2 (Dv.cmpL_eq _ _ h)
     omega
    rw [List.getElem_drop];by_cases hj0:j=0
    ·subst hj0;exact h1
    ·exact Dv.cmpL_lt_trans _ _ _ h1 ((Vu.1 hpw) k (k+j) hko (by omega) (by omega))
   have hall: ∀a∈o.take k,∀b∈o.drop k,Dv.cmpL a b<0:=fun a ha b hb=>Dv.cmpL_lt_trans _ _ _ (hty a ha) (hyd b hb);unfold StL;rw [List.pairwise_append,List.pairwise_append]
   refine⟨⟨htk,List.pairwise_singleton _ _,fun a ha b hb=> ?_⟩,hdr,fun a ha b hb=> ?_⟩
   ·rw [TR.1 hb];exact hty a ha
   ·rcases OB.1 ha with ha | ha
    ·exact hall a ha b hb
    ·rw [TR.1 ha];exact hyd b hb
  ·rw [Sk,LZ];have e:x∈o↔x∈o.take k∨x∈o.drop k:=by rw [←OB,List.take_append_drop]
   rw [e];simp only [OB,TR]
   constructor
   ·rintro((h | h) | h)
    ·exact .inl (.inl h)
    ·exact .inr h
    ·exact .inl (.inr h)
   ·rintro((h | h) | h)
    ·exact .inl (.inl h)
    ·exact .inr h
    ·exact .inl (.inr h)
 unfold M0 MK;rw [h1,CO];by_cases hko:k<o.length
 ·obtain⟨q1,_⟩:=hat k hko;rw [if_pos (by omega)]
  simp only [IA];rw [Am (by omega),aD _ _ (by omega),CO]
  by_cases he:o.getD k default=y
  ·rw [decide_eq_true he,if_pos rfl]
   refine⟨o,.inl rfl,hpw,fun x=>⟨.inl, ?_⟩,by omega⟩
   rintro(h | rfl)
   ·exact h
   ·rw [←he,AV _ _ hko];exact FE _
  ·obtain⟨p1,p2,p3⟩:=put fun c=>he c.2;rw [decide_eq_false he,if_neg (by decide),Am (by omega),Am (by omega),Am (by omega),Am (by omega),Am (by omega)]
   exact⟨_,.inr rfl,p1,p2,p3⟩
 ·obtain⟨p1,p2,p3⟩:=put fun c=>hko c.1;rw [if_neg (by omega)]
  simp only [IA];rw [Am (by omega),Am (by omega),Am (by omega),Am (by omega),Am (by omega)]
  exact⟨_,.inr rfl,p1,p2,p3⟩
structure FullOk(full:List (List Int))(w:Nat):Prop where
 len:full.length≤1000000
 row: ∀x∈full,x.length=w∧ ∀a∈x,1≤a∧a≤255
 wid:w≤4
theorem pg(w:Nat): ∀(l:List (List Int)),(∀x∈l,x.length=w)→l.flatten.length=w*l.length
 | [],_=>by simp
 | x::l,h=>by
  rw [ku,Jq,pg w l fun y hy=>h y (Jp _ hy),h x Iu,Ik,Nat.mul_add];omega
theorem Rt(l:List (List Int))(i:Nat)(hi:i<l.length):(l.take (i+1)).flatten=(l.take i).flatten++l[i]:=by rw [Rw hi,List.flatten_append];simp
theorem tQ(l:List (List Int))(i:Nat):((l.take i).flatten).length≤l.flatten.length:=by
 have:l.flatten=(l.take i).flatten++(l.drop i).flatten:=by rw [←List.flatten_append,List.take_append_drop]
 rw [this,Jq];omega
theorem tT(l:List (List Int))(hl:l.length<1000000000)(hf:l.flatten.length<1000000000):D5 l=some l.flatten:=by
 have hrow: ∀i (hi:i<l.length),((l.take i).flatten).length+l[i].length≤l.flatten.length:=fun i hi=>by
  have h1:=Rt l i hi;have h2:=tQ l (i+1);rw [h1,Jq]at h2;exact h2
 unfold D5
 have k0:CX l (0,0)=some (l.flatten.length:Int):=by
  unfold CX;have key:=BO (fun v=>Ba l v.1 v.2) (fun i=>((((l.take i).flatten).length:Int),(i:Int))) l.length (l.flatten.length:Int) ?_ ?_
  ·exact key
  ·intro i hi;have:=hrow i hi
   simp only [Ba,IA];rw [if_pos (Bi hi),Am (by omega),AV _ _ hi,Dw _ (by omega),if_neg (by omega),IR i (by omega),Rt l i hi,Jq]
   norm_cast
  ·simp only [Ba];rw [if_neg (Af _),LZ]
 have k1:CY l ([],0)=some l.flatten:=by
  unfold CY;have key:=BO (fun v=>Bb l v.1 v.2) (fun i=>((l.take i).flatten,(i:Int))) l.length l.flatten ?_ ?_
  ·exact key
  ·intro i hi;have:=hrow i hi
   simp only [Bb,IA];have hg:=AV l i hi;rw [if_pos (Bi hi),Am (by omega),Am (by rw [hg];omega),IR i (by omega),Rt l i hi,hg]
  ·simp only [Bb];rw [if_neg (Af _),LZ]
 rw [k0,CO,Am (by omega),k1];rfl
def Ap(full:List (List Int)):List Int:=GN [] full.flatten
theorem JI(full:List (List Int)):Ow (Ap full):=RX _ _ List.Pairwise.nil
theorem Ki(full:List (List Int))(a:Int):a∈Ap full↔ ∃x∈full,a∈x:=by
 unfold Ap;rw [YX];simp [List.mem_flatten]
theorem TM{full:List (List Int)}{w:Nat}(h:FullOk full w):(Ap full).length≤256:=YY (JI full) fun x hx=>by
 obtain⟨y,hy,hxy⟩:=(Ki full x).1 hx;have:=(h.row y hy).2 x hxy;omega
theorem gG(l:List Int):(Dj l).Pairwise fun a b=>a≤b:=by
 have:=List.pairwise_mergeSort (le:=fun(x y:Int)=>decide (x≤y)) (fun a b c h1 h2=>by simp only [decide_eq_true_eq]at h1 h2 ⊢;omega) (fun a b=>by simp only [TS,decide_eq_true_eq];omega) l
 exact this.imp (fun h=>by simpa using h)
theorem kI(l:List Int)(x:Int):x∈Dj l↔x∈l:=(List.mergeSort_perm l _).mem_iff
theorem kJ(l:List Int):(Dj l).length=l.length:=List.length_mergeSort _
def Oh(full:List (List Int)):List (List Int):=full.map fun x=>Bn (nums (Ap full) x)
def H9(full:List (List Int)):List (List Int):=Dv.dedL (EO (Oh full))
theorem Yb{full:List (List Int)}{w:Nat}(h:FullOk full w): ∀y∈Oh full,y.length=w∧ ∀a∈y,0≤a∧a<(Ap full).length:=by
 intro y hy;obtain⟨x,hx,rfl⟩:=GV.1 hy
 refine⟨by rw [Rp,RY];exact(h.row x hx).1,fun a ha=> ?_⟩
 rw [(Nw _).mem_iff]at ha;obtain⟨b,hb,rfl⟩:=GV.1 ha;have:=(pX (JI full) ((Ki full b).2 ⟨x,hx,hb⟩)).1
 omega
theorem gH{full:List (List Int)}{w:Nat}(h:FullOk full w):JB full=some (Ap full,H9 full):=by
 have hw:=h.wid;have hl:=h.len;have hf:=pg w full fun x hx=>(h.row x hx).1;have hf2:full.flatten.length≤4000000:=by rw [hf];exact Sl (Nat.mul_le_mul hw hl) (by omega)
 have hss:=TM h
 have es:Le (Dj full.flatten)=Ap full:=YU (tH (gG _)) (JI full) fun x=>by
  rw [yw,kI,Ki];simp [List.mem_flatten]
 unfold JB;rw [tT full (by omega) (by omega),CO,Am (by omega),ng _ (by rw [kJ];omega),CO,es]
 have k1:JA full (Ap full) ([],0)=some (Oh full):=by
  unfold JA;have key:=BO (fun v=>Es full (Ap full) v.1 v.2) (fun i=>((full.take i).map (fun x=>Bn (nums (Ap full) x)),(i:Int))) full.length (Oh full) ?_ ?_
  ·exact key
  ·intro i hi;have hx:=h.row _ (FE hi);simp only [Es];rw [if_pos (Bi hi),Am (by omega),tJ full (Ap full) _ i full[i] (AV _ _ hi) (JI full) (by omega) (by omega),CO,Am (by rw [RY];omega),Am (by rw [S9,Jr];omega),IR i (by omega),jv,Rw hi,TT]
   rfl
  ·simp only [Es];rw [if_neg (Af _),LZ];rfl
 have hr:(Oh full).length=full.length:=by simp [Oh]
 rw [k1,CO,Ra _ (by omega) fun x hx=>by have:=(Yb h x hx).1;omega]
 rfl
theorem tV(a d:Int)(ns es full:List (List Int))(e:Bool)(t:Nat)(x b:List Int)(hx:full.getD t default=x)(hb:Ow b)(hbl:b.length+x.length<1000000):
  Mo a d ns es full e (t:Int) (b,0)=some (GN b x):=by
 unfold Mo;have key:=BO (fun v=>Ic a d ns es full e (t:Int) v.1 v.2) (fun i=>(GN b (x.take i),(i:Int))) x.length (GN b x) ?_ ?_
 ·simpa [GN] using key
 ·intro i hi;have h1:Ow (GN b (x.take i)):=RX _ _ hb
  have hlen: ∀(xs:List Int) (b:List Int),(GN b xs).length≤b.length+xs.length:=by
   intro xs
   induction xs with
   | nil=>intro b;simp [GN]
   | cons y xs ih=>
    intro b;have:=ih (RV b y)
    have h2:=kE b y
    show(GN (RV b y) xs).length≤_
    simp only [Ik];omega
  have h2:=hlen (x.take i) b;have h3:(x.take i).length≤x.length:=by rw [Jr];omega
  have e':GN b (x.take (i+1))=RV (GN b (x.take i)) x[i]:=by
   unfold GN;rw [Rw hi,List.foldl_append];rfl
  simp only [Ic,IA,hx];rw [if_pos (Bi hi),Am (by omega),AV _ _ hi,IR i (by omega),e']
  rcases yt (GN b (x.take i)) x[i] h1 (by omega)with q | q<;>rw [q]<;>rfl
 ·simp only [Ic,IA,hx];rw [if_neg (Af _),LZ]
theorem tX(a d:Int)(ns es:List (List Int)){full:List (List Int)}{w:Nat}(e:Bool)(h:FullOk full w):Mq a d ns es full e ([],0)=some (Ap full):=by
 have hw:=h.wid;have hl:=h.len;unfold Mq;have key:=BO (fun v=>Ie a d ns es full e v.1 v.2) (fun i=>(GN [] (full.take i).flatten,(i:Int))) full.length (Ap full) ?_ ?_
 ·exact key
 ·intro i hi;have hx:=h.row _ (FE hi);have h1:Ow (GN [] (full.take i).flatten):=RX _ _ List.Pairwise.nil
  have h2:(GN [] (full.take i).flatten).length≤256:=YY h1 fun x hx'=>by
   rcases(YX _ _ _).1 hx' with h3 | h3
   ·cases h3
   ·obtain⟨y,hy,hxy⟩:=List.mem_flatten.1 h3;have:=(h.row y (List.mem_of_mem_take hy)).2 x hxy;omega
  simp only [Ie];rw [if_pos (Bi hi),Am (by omega),tV a d ns es full e i full[i] _ (AV _ _ hi) h1 (by omega),CO,IR i (by omega),Rt full i hi]
  unfold GN;rw [List.foldl_append]
 ·simp only [Ie];rw [if_neg (Af _),LZ];rfl
theorem tY(a d:Int)(ns es:List (List Int)){full:List (List Int)}{w:Nat}(e:Bool)(h:FullOk full w):Mr a d ns es full e (Ap full) ([],0)=some (H9 full):=by
 have hw:=h.wid;have hl:=h.len;have hss:=TM h;have hok:=Yb h;unfold Mr;have key:=Im (fun v=>GJ a d ns es full e (Ap full) v.1 v.2)
  (fun n (v:List (List Int)×Int)=> ∃i:Nat,v.2=(i:Int)∧n=full.length-i∧i≤full.length∧StL v.1∧v.1.length≤i∧ ∀x,x∈v.1↔x∈(full.take i).map fun x=>Bn (nums (Ap full) x))
  (fun r=>r=H9 full) ?_ full.length ([],0) ⟨0,rfl,rfl,SA _,List.Pairwise.nil,IB _,fun x=>by simp⟩
 ·obtain⟨r,h1,h2⟩:=key;rw [h1,h2]
 ·rintro n ⟨o,v⟩ ⟨i,e1,e2,e3,e4,e5,e6⟩
  simp only at e1 e4 e5 e6;subst e1;by_cases hi:i<full.length
  ·left
   have hx:=h.row _ (FE hi);have small: ∀y∈Oh full,y.length=w∧Hw y=true:=fun y hy=>⟨(hok y hy).1,Iw.2 fun b hb=>MI.2 (by have:=(hok y hy).2 b hb;omega)⟩
   have hin: ∀j (hj:j<full.length),Bn (nums (Ap full) full[j])∈Oh full:=fun j hj=>GV.2 ⟨_,FE hj,rfl⟩
   have ho: ∀x∈o,x.length=w∧Hw x=true:=fun x hx'=>by
    obtain⟨y,hy,rfl⟩:=GV.1 ((e6 x).1 hx');exact small _ (GV.2 ⟨y,List.mem_of_mem_take hy,rfl⟩)
   obtain⟨s1,s2⟩:=small _ (hin i hi);obtain⟨q,q1,q2,q3,q4⟩:=A6I o (Bn (nums (Ap full) full[i])) w e4 ho s1 s2 (by omega) (by omega)
   have step:GJ a d ns es full e (Ap full) o (i:Int)=some (.inl (q,((i+1:Nat):Int))):=by
    simp only [GJ,IA];rw [if_pos (Bi hi),Am (by omega),AV _ _ hi,tO (Ap full) full[i] (JI full) (fun b hb=>(Ki full b).2 ⟨_,FE hi,hb⟩) (by omega) (by omega),CO,IR i (by omega)]
    rcases q1 with q1 | q1<;>rw [q1]<;>rfl
   refine⟨_,full.length-(i+1),step,by omega,i+1,rfl,rfl,by omega,q2,by simp only;omega,fun x=> ?_⟩
   simp only;rw [q3,e6,Rw hi,TT,OB]
   simp
  ·right
   have hie:i=full.length:=by omega
   subst hie
   refine⟨o, ?_, ?_⟩
   ·simp only [GJ];rw [if_neg (Af _)]
   ·rw [LZ]at e6;exact pY e4 (Ya _) fun x=>by rw [e6];exact(RZ (Oh full) x).symm
end Go.Proofs.YtjhjkfoabhplfaaGreat
