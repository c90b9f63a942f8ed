/- New labels: equal neighbours go, numbers of sets, lists in order. Conditions: those in each lemma. -/
import Derived.Test.YtjhjkfoabhplfaaGreatL6
import Derived.Test.YtjhjkfoabhplfaaGreatEsA
import Derived.Test.YtjhjkfoabhplfaaGreatSti
namespace Go.Proofs.YtjhjkfoabhplfaaGreat
open Go Dv
set_option linter.unusedSimpArgs false
set_option linter.unusedVariables false
set_option maxRecDepth 100000
theorem A6z: ∀(a b:AL),Dv.cmpL a b=cmpL a b
 | [],[]=>rfl
 | [],_::_=>rfl
 |_::_,[]=>rfl
 |x::a,y::b=>by
  have ih:=A6z a b;simp only [Dv.cmpL,cmpL,Dv.cmpI_eq];by_cases h:x=y
  ·rw [if_pos h,if_pos h,ih]
  ·rw [if_neg h,if_neg h];unfold Dv.cmpI;by_cases h1:x<y
   ·rw [if_pos h1,if_pos h1]
   ·rw [if_neg h1,if_neg h1,if_pos (by omega)]
theorem zy(l:AL)(x:Int)(hs:Q6 l)(hl:l.length<1000000):TD l x=some (.inl (Sd l x))∨TD l x=some (.inr (Sd l x)):=by
 have h0:=ZW l x
 have loop:P8 l x 0=some ((EB l x:Nat):Int):=by
  unfold P8;have key:=Bv (fun v=>Kc l x v) (fun i=>(i:Int)) (EB l x) ((EB l x:Nat):Int) ?_ ?_
  ·rw [Kr]at key;exact key
  ·intro i hi;simp only [Kc,JD];have hh:l.getD i default<x:=by rw [Af _ _ (show i<l.length by omega)];exact(Oa hs i (by omega)).2 hi
   rw [if_pos (by omega),BF (by omega),if_pos hh,JS i (by omega)]
  ·simp only [Kc,JD];by_cases e:EB l x<l.length
   ·have hh: ¬l.getD (EB l x) default<x:=by rw [Af _ _ e];exact fun c=>absurd ((Oa hs _ e).1 c) (Nat.lt_irrefl _)
    rw [if_pos (by omega),BF (by omega),if_neg hh]
   ·rw [if_neg (by omega)]
 unfold TD;rw [loop,Cs,mH x hs];simp only [JD,Tu,Md];have t1:(l.take (EB l x)).length≤l.length:=by rw [Kq];omega
 have t2:(l.drop (EB l x)).length≤l.length:=by rw [dK];omega
 by_cases e:EB l x<l.length
 ·rw [if_pos (by omega),BF (by omega)]
  by_cases e2:l.getD (EB l x) default=x
  ·rw [if_pos e2,if_pos ⟨e,e2⟩];exact .inl rfl
  ·rw [if_neg e2,if_neg (fun c=>e2 c.2),BF (by omega),BF h0,BF (by omega),BF (by omega),BF (by rw [Ko,mf];omega)]
   exact .inr rfl
 ·rw [if_neg (by omega),if_neg (fun c=>e c.1),BF (by omega),BF h0,BF (by omega),BF (by omega),BF (by rw [Ko,mf];omega)]
  exact .inr rfl
section
variable {α:Type}
theorem zz{lt:α→α→Prop}(irr: ∀x,¬lt x x)(asy: ∀x y,lt x y→ ¬lt y x): ∀ {a b:List α},a.Pairwise lt→b.Pairwise lt→(∀x,x∈a↔x∈b)→a=b
 | [],[],_,_,_=>rfl
 | [],y::b,_,_,h=>absurd ((h y).2 Jq) (by simp)
 |x::a,[],_,_,h=>absurd ((h x).1 Jq) (by simp)
 |x::a,y::b,ha,hb,h=>by
  have ha':=Va.1 ha;have hb':=Va.1 hb
  have e:x=y:=by
   rcases Ms.1 ((h x).1 Jq)with h1|h1
   ·exact h1
   ·rcases Ms.1 ((h y).2 Jq)with h2|h2
    ·exact h2.symm
    ·exact absurd (ha'.1 _ h2) (asy _ _ (hb'.1 _ h1))
  subst e;rw [zz irr asy ha'.2 hb'.2 fun z=> ?_];have hz:=h z;rw [Ms,Ms]at hz
  constructor
  ·intro hm;rcases hz.1 (.inr hm)with e|e
   ·subst e;exact absurd (ha'.1 _ hm) (irr _)
   ·exact e
  ·intro hm;rcases hz.2 (.inr hm)with e|e
   ·subst e;exact absurd (hb'.1 _ hm) (irr _)
   ·exact e
theorem mI(f:Nat→α)(kp:Nat→Bool)(n:Nat)(hk: ∀j,j<n→(kp j=true↔j=0∨f j≠f (j-1)))(x:α):x∈(Dv.keptL kp n).map f↔ ∃j,j<n∧x=f j:=by
 constructor
 ·intro h;obtain⟨j,hj,rfl⟩:=I1.1 h
  exact⟨j,O7.1 (Qj.1 hj).1,rfl⟩
 ·rintro⟨j,hj,rfl⟩
  induction j with
  |zero=>exact I1.2 ⟨0,Qj.2 ⟨O7.2 hj,(hk 0 hj).2 (.inl rfl)⟩,rfl⟩
  |succ j ih=>
   cases hc:kp (j+1)with
   |true=>exact I1.2 ⟨j+1,Qj.2 ⟨O7.2 hj,hc⟩,rfl⟩
   |false=>
    have:f (j+1)=f j:=by
     refine Classical.byContradiction fun hne=> ?_;rw [(hk _ hj).2 (.inr hne)]at hc;cases hc
    rw [this];exact ih (by omega)
theorem rT{le lt:α→α→Prop}(f:Nat→α)(kp:Nat→Bool)(n:Nat)(hk: ∀j,j<n→(kp j=true↔j=0∨f j≠f (j-1)))(hle: ∀i j,i≤j→j<n→le (f i) (f j))
  (step: ∀x y z,le x y→le y z→y≠z→lt x z):((Dv.keptL kp n).map f).Pairwise lt:=by
 rw [List.pairwise_map];have hp:(Dv.keptL kp n).Pairwise fun a b=>a<b:=List.pairwise_lt_range.filter _;refine hp.imp_of_mem fun {a b} ha hb hab=> ?_;obtain⟨hb1,hb2⟩:=Qj.1 hb;have hbn:=O7.1 hb1
 rcases(hk b hbn).1 hb2 with h0|hne
 ·omega
 ·exact step (f a) (f (b-1)) (f b) (hle _ _ (by omega) (by omega)) (hle _ _ (by omega) hbn) hne.symm
end
def ZZ(s:AL)(j:Nat):Bool:=decide (j=0)|| !decide (s.getD j default=s.getD (j-1) default)
def Mk(s:AL):AL:=(Dv.keptL (ZZ s) s.length).map fun i=>s.getD i default
theorem rU(s:AL)(j:Nat):ZZ s j=true↔j=0∨s.getD j default≠s.getD (j-1) default:=by unfold ZZ;simp
theorem vE{s:AL}(h:s.Pairwise fun a b=>a≤b)(i j:Nat)(hij:i≤j)(hj:j<s.length):s.getD i default≤s.getD j default:=by
 rw [Af _ _ (by omega:i<s.length),Af _ _ hj]
 by_cases e:i=j
 ·subst e;exact Int.le_refl _
 ·exact(X4.1 h) i j (by omega) hj (by omega)
theorem vF{s:AL}(h:s.Pairwise fun a b=>a≤b):Q6 (Mk s):=
 rT (le:=fun a b:Int=>a≤b) _ _ _ (fun j _=>rU s j) (fun i j hij hj=>vE h i j hij hj) fun x y z h1 h2 h3=>by omega
theorem A00(s:AL)(x:Int):x∈Mk s↔x∈s:=by
 unfold Mk;rw [mI _ _ _ (fun j _=>rU s j)]
 constructor
 ·rintro⟨j,hj,rfl⟩;rw [Af _ _ hj];exact GG _
 ·intro hx;obtain⟨j,hj,rfl⟩:=Tt hx
  exact⟨j,hj,by rw [Af _ _ hj]⟩
theorem mJ{s:AL}(h: ∀j,j<s.length→ZZ s j=true):Mk s=s:=by
 unfold Mk;rw [Dv.keptL_all h];apply List.ext_getElem (by simp)
 intro i h1 h2;simp only [List.getElem_map,nA];rw [Af _ _ h2]
theorem qL(s:AL)(k:Nat)(hk:1≤k∧k<s.length)(hs:s.length<1000000000)(h0: ∀j,j<k→ZZ s j=true)(h1:ZZ s k=false):
  ∃t:AL,Dt s (k:Int) ((k:Int),1,s)=some (((Mk s).length:Int),t)∧t.length=s.length∧t.take (Mk s).length=Mk s:=by
 have sc: ∀m,m<s.length→((Dv.keptL (ZZ s) (m+1)).map fun i=>s.getD i default)=((Dv.keptL (ZZ s) m).map fun i=>s.getD i default)++(if ZZ s m=true then [s.getD m default]else []):=fun m _=>by
  rw [Dv.keptL_succ,UR];congr 1;split<;>simp
 have key:=Jk (fun v=>CB s (k:Int) v.1 v.2.1 v.2.2)
  (fun n (v:Int×Int×AL)=> ∃a b:Nat,v.1=(a:Int)∧v.2.1=(b:Int)∧n=s.length-k-b∧1≤b∧b≤s.length-k∧a<k+b∧v.2.2.length=s.length∧(Dv.keptL (ZZ s) (k+b)).length=a∧v.2.2.take a=((Dv.keptL (ZZ s) (k+b)).map fun i=>s.getD i default)∧ ∀j,a≤j→v.2.2.getD j default=s.getD j default)
  (fun r:Int×AL=>r.1=((Mk s).length:Int)∧r.2.length=s.length∧r.2.take (Mk s).length=Mk s) ?_ (s.length-k-1) ((k:Int),1,s) ?_
 ·obtain⟨⟨a,t⟩,e1,e2,e3,e4⟩:=key;simp only at e2;subst e2
  exact⟨t,e1,e3,e4⟩
 ·rintro n ⟨k1,k2,t⟩ ⟨a,b,e1,e2,e3,e4,e5,e6,e7,e8,e9,e10⟩
  simp only at e1 e2 e7 e9 e10;subst e1 e2;by_cases hb:b<s.length-k
  ·left
   have hm:=sc (k+b) (by omega)
   have hl1:(Dv.keptL (ZZ s) (k+b+1)).length=a+if ZZ s (k+b)=true then 1 else 0:=by
    rw [Dv.keptL_succ,Ko,e8];split<;>rfl
   have x1:=e10 (k+b) (by omega)
   have x2:=e10 (k+(b-1)) (by omega)
   simp only [CB,JD];rw [if_pos (by omega),BF (by omega),BF (by omega),BF (by omega),Ec _ (by omega),BF (by omega),show((b:Int)-1).toNat=b-1 by omega,BF (by omega),JS b (by omega),x1,x2]
   by_cases hc:s.getD (k+b) default=s.getD (k+(b-1)) default
   ·rw [if_pos hc]
    have hkp:ZZ s (k+b)=false:=by
     unfold ZZ;rw [decide_eq_false (by omega: ¬k+b=0),show k+b-1=k+(b-1) by omega,decide_eq_true hc];rfl
    rw [hkp,if_neg (by decide)]at hl1 hm
    rw [Pv]at hm
    exact⟨_,s.length-k-(b+1),rfl,by omega,a,b+1,rfl,rfl,rfl,by omega,by omega,by omega,e7,by rw [←Nat.add_assoc,hl1,Nat.add_zero],by rw [←Nat.add_assoc,hm];exact e9,e10⟩
   ·rw [if_neg hc,BF (by omega),JS a (by omega)]
    have hkp:ZZ s (k+b)=true:=by
     unfold ZZ;rw [show k+b-1=k+(b-1) by omega,decide_eq_false hc];simp
    rw [hkp,if_pos rfl]at hl1 hm
    refine⟨_,s.length-k-(b+1),rfl,by omega,a+1,b+1,rfl,rfl,rfl,by omega,by omega,by omega,by simp only [TK];exact e7,by rw [←Nat.add_assoc,hl1], ?_,fun j hj=> ?_⟩
    ·rw [←Nat.add_assoc,hm,←e9];have ha:a<(t.set a (s.getD (k+b) default)).length:=by rw [TK];omega
     rw [TH ha,List.take_set_of_le (JE _)]
     simp
    ·simp only;rw [M8,rz (by omega),←M8]
     exact e10 j (by omega)
  ·right
   have hke:k+b=s.length:=by omega
   rw [hke]at e8 e9
   refine⟨((a:Int),t), ?_, ?_,e7, ?_⟩
   ·simp only [CB,JD];rw [if_neg (by omega)]
   ·simp only [Mk,TL];omega
   ·simp only [Mk,TL,e8];exact e9
 ·have hl1:(Dv.keptL (ZZ s) (k+1)).length=k:=by rw [Dv.keptL_succ,h1,Dv.keptL_all h0];simp
  refine⟨k,1,rfl,rfl,rfl,by omega,by omega,by omega,rfl,hl1, ?_,fun j _=>rfl⟩
  rw [sc k hk.2,h1,Dv.keptL_all h0];apply List.ext_getElem
  ·simp;omega
  ·intro i i1 i2;have hi:i<k:=by simp at i2;omega
   rw [List.getElem_take];simp only [O6,if_false,Pv,List.getElem_map,nA];rw [Af _ _ (by omega)]
theorem qM(s:AL)(hs:s.length<1000000000):Db s=some (Mk s):=by
 unfold Db;by_cases h2:(s.length:Int)<2
 ·rw [if_pos h2,mJ];intro j hj;have:j=0:=by omega
  subst this;rfl
 ·rw [if_neg h2];unfold Du
  have z0: ∀i,i<1→ZZ s i=true:=fun i h1=>by
   obtain rfl:i=0:=by omega
   rfl
  have key:=Jk (fun v=>CE s v) (fun n (v:Int)=> ∃k:Nat,v=(k:Int)∧n=s.length-k∧1≤k∧k≤s.length∧ ∀i,i<k→ZZ s i=true)
   (fun r:AL⊕Unit=>match r with| .inl q=>q=Mk s| .inr _=>s=Mk s) ?_ (s.length-1) (1:Int) ⟨1,rfl,rfl,by omega,by omega,z0⟩
  ·obtain⟨r,h1,h3⟩:=key;rw [h1,Cs]
   cases r with
   |inl q=>simp only at h3;subst h3;rfl
   |inr _=>simp only at h3 ⊢;rw [←h3]
  ·rintro n v ⟨k,rfl,hn,h1,hk,hall⟩
   by_cases hks:k<s.length
   ·simp only [CE,JD];rw [if_pos (CV hks),BF (by omega),Ec _ (by omega),BF (by omega),show((k:Int)-1).toNat=k-1 by omega]
    by_cases e:s.getD k default=s.getD (k-1) default
    ·right
     have hkp:ZZ s k=false:=by
      unfold ZZ;rw [decide_eq_false (by omega: ¬k=0),decide_eq_true e];rfl
     obtain⟨t,c1,c2,c3⟩:=qL s k ⟨h1,hks⟩ hs hall hkp;have hdl:(Mk s).length≤s.length:=by simp only [Mk,TL];exact Dv.keptL_le _ _
     have hsp:=xk (List.replicate (t.length-(Mk s).length) (0:Int)) t (Mk s).length (by rw [Zm];omega)
     rw [if_pos e,BF (by omega),BF (by omega),c1,Cs]
     simp only [JD];have hsl:(Mk s).length≤(pG t (Mk s).length (List.replicate (t.length-(Mk s).length) (0:Int))).length:=by rw [hsp];simp;omega
     rw [BF (by omega),BF (by omega),BF (by omega),BF hsl]
     refine⟨_,rfl, ?_⟩
     show List.take (Mk s).length (pG t (Mk s).length (List.replicate (t.length-(Mk s).length) (0:Int)))=Mk s
     rw [hsp,List.take_append_of_le_length (by simp;omega),List.take_take,Nat.min_self,c3]
    ·left
     rw [if_neg e,JS k (by omega)]
     refine⟨_,s.length-(k+1),rfl,by omega,k+1,rfl,rfl,by omega,by omega,fun i hi=> ?_⟩
     by_cases hik:i=k
     ·subst hik;unfold ZZ;rw [decide_eq_false e];simp
     ·exact hall i (by omega)
   ·right
    have hke:k=s.length:=by omega
    subst hke
    refine⟨.inr (), ?_,(mJ hall).symm⟩
    simp only [CE];rw [if_neg (Au _)]
theorem qN(l:AL)(x:Int)(hs:Q6 l)(hl:l.length<1000000000): ∃b,Cc l x=some (((EB l x:Nat):Int),b):=by
 have h0:=ZW l x
 have loop:CQ l x (0,(l.length:Int))=some ((EB l x:Nat):Int):=by
  unfold CQ;have key:=Jk (fun v=>Bb l x v.1 v.2) (fun n (v:Int×Int)=> ∃i j:Nat,v.1=(i:Int)∧v.2=(j:Int)∧n=j-i∧i≤EB l x∧EB l x≤j∧j≤l.length)
   (fun r=>r=((EB l x:Nat):Int)) ?_ l.length (0,(l.length:Int)) ⟨0,l.length,rfl,rfl,rfl,TM _,h0,JE _⟩
  ·obtain⟨r,h1,h2⟩:=key;rw [h1,h2]
  ·rintro n ⟨v1,v2⟩ ⟨i,j,e1,e2,e3,e4,e5,e6⟩
   simp only at e1 e2;subst e1 e2;by_cases hij:i<j
   ·left
    have hm:IntKind.i64.wrap ((IntKind.u64.wrap (IntKind.i64.wrap ((i:Int)+(j:Int)))).fdiv (2 ^ (min 1 (IntKind.u64.bits))))=(((i+j) / 2:Nat):Int):=by
     have e8:min 1 IntKind.u64.bits=1:=rfl;rw [Ec ((i:Int)+(j:Int)) (by omega),e8]
     have:IntKind.u64.wrap ((i:Int)+(j:Int))=(i:Int)+(j:Int):=by unfold IntKind.wrap;simp only [IntKind.bits,IntKind.signed];simp;omega
     rw [this,Int.fdiv_eq_ediv_of_nonneg _ (by decide),show(2:Int) ^ 1=2 by decide,Ec _ (by omega)]
     omega
    simp only [Bb,hm];have hml:(i+j) / 2<l.length:=by omega
    rw [if_pos (by omega),BF (by omega),JD,Af _ _ hml]
    have hle:=Oa (x:=x) hs ((i+j) / 2) hml
    have hcmp:F7 l[(i+j) / 2] x=some (decide (l[(i+j) / 2]<x)):=by
     unfold F7
     first|rfl|simp [DT]|(simp only [DT,Cs];simp)
    rw [hcmp,Cs];by_cases c:l[(i+j) / 2]<x
    ·rw [decide_eq_true c,if_pos rfl,JS _ (by omega)]
     have:=hle.1 c
     exact⟨_,j-((i+j) / 2+1),rfl,by omega,(i+j) / 2+1,j,rfl,rfl,rfl,by omega,e5,e6⟩
    ·rw [decide_eq_false c,if_neg (by decide)]
     have: ¬(i+j) / 2<EB l x:=fun h=>c (hle.2 h)
     exact⟨_,(i+j) / 2-i,rfl,by omega,i,(i+j) / 2,rfl,rfl,rfl,e4,by omega,by omega⟩
   ·right
    refine⟨(i:Int), ?_,by omega⟩
    simp only [Bb];rw [if_neg (by omega)]
 unfold Cc;rw [loop,Cs];unfold GR;by_cases h1:EB l x<l.length
 ·rw [if_pos (by omega),BF (by omega)]
  split
  ·exact⟨_,rfl⟩
  ·exact⟨_,rfl⟩
 ·rw [if_neg (by omega)]
  exact⟨_,rfl⟩
def nums(sets x:AL):AL:=x.map fun a=>((EB sets a:Nat):Int)
theorem Si(sets x:AL):(nums sets x).length=x.length:=by simp [nums]
theorem d9(sets x:AL)(i:Nat)(hi:i<x.length):nums sets (x.take (i+1))=nums sets (x.take i)++[((EB sets x[i]:Nat):Int)]:=by
 unfold nums;rw [TH hi,UR];rfl
theorem vG(full:AO)(sets:AL)(out:AO)(t:Nat)(x:AL)(hx:full.getD t default=x)(hs:Q6 sets)(hl:sets.length<1000000000)(hxl:x.length<1000000000):
  K4 full sets out (t:Int) ([],0)=some (nums sets x):=by
 unfold K4;have key:=Bv (fun v=>Fg full sets out (t:Int) v.1 v.2) (fun i=>(nums sets (x.take i),(i:Int))) x.length (nums sets x) ?_ ?_
 ·exact key
 ·intro i hi;have hn:(nums sets (x.take i)).length≤x.length:=by rw [Si,Kq];omega
  obtain⟨b,hb⟩:=qN sets x[i] hs hl;simp only [Fg,JD,hx];rw [if_pos (CV hi),BF (by omega),Af _ _ hi,hb,Cs,BF (by omega),JS i (by omega),d9 sets x i hi]
 ·simp only [Fg,JD,hx];rw [if_neg (Au _),Md]
theorem rV{l:AL}{x:Int}(hs:Q6 l)(hx:x∈l):EB l x<l.length∧l.getD (EB l x) default=x∧ ∀j,j<l.length→l.getD j default=x→j=EB l x:=by
 obtain⟨k,hk,rfl⟩:=Tt hx
 have h1: ∀j (hj:j<l.length),l[j]<l[k]↔j<k:=fun j hj=>by
  constructor
  ·intro h;refine Classical.byContradiction fun hn=> ?_;by_cases e:k=j
   ·subst e;omega
   ·have:=(X4.1 hs) k j hk hj (by omega);omega
  ·intro h;exact(X4.1 hs) j k hj hk h
 have h2:EB l l[k]=k:=by
  have hle:=ZW l l[k];have a1:=Oa (x:=l[k]) hs k hk;have a2: ¬k<EB l l[k]:=fun h=>by have:=a1.2 h;omega
  have a3: ¬EB l l[k]<k:=fun h=>by
   have b1:=Oa (x:=l[k]) hs (EB l l[k]) (by omega)
   have b2:=(h1 _ (by omega)).2 h
   exact absurd (b1.1 b2) (Nat.lt_irrefl _)
  omega
 rw [h2]
 refine⟨hk,Af _ _ hk,fun j hj he=> ?_⟩
 rw [Af _ _ hj]at he;refine Classical.byContradiction fun hn=> ?_;rcases Nat.lt_or_gt_of_ne hn with h|h
 ·have:=(X4.1 hs) j k hj hk h;omega
 ·have:=(X4.1 hs) k j hk hj h;omega
theorem A01(sets x:AL)(t:Nat)(a:Int)(ha:x.getD t default=a)(out:AL)(hs:Q6 sets)(hm:a∈sets)(hl:sets.length<1000000000)(ho:out.length<1000000000):
  K9 sets x (t:Int) (out,0)=some (out++[((EB sets a:Nat):Int)]):=by
 obtain⟨c1,c2,c3⟩:=rV hs hm;unfold K9;have key:=Bv (fun v=>Fy sets x (t:Int) v.1 v.2) (fun i=>(out++(if EB sets a<i then [((EB sets a:Nat):Int)]else []),(i:Int))) sets.length (out++[((EB sets a:Nat):Int)]) ?_ ?_
 ·rw [if_neg (by omega),Pv]at key;exact key
 ·intro i hi;simp only [Fy,JD,ha];rw [if_pos (CV hi),BF (by omega),JS i (by omega)]
  by_cases e:a=sets.getD i default
  ·have hi2:=c3 i hi e.symm;rw [if_pos e,if_neg (by omega),Pv,BF (by omega),if_pos (by omega),hi2]
  ·have hi2:i≠EB sets a:=fun h=>e (by rw [h];exact c2.symm)
   rw [if_neg e];by_cases h3:EB sets a<i
   ·rw [if_pos h3,if_pos (by omega)]
   ·rw [if_neg h3,if_neg (by omega)]
 ·simp only [Fy];rw [if_neg (Au _),if_pos c1]
theorem vH(sets x:AL)(hs:Q6 sets)(hm: ∀a∈x,a∈sets)(hl:sets.length<1000000000)(hx:x.length<1000000000):Nw sets x=some (CY (nums sets x)):=by
 unfold Nw MW;have key:=Bv (fun v=>Fz sets x v.1 v.2) (fun i=>(nums sets (x.take i),(i:Int))) x.length (nums sets x) ?_ ?_
 ·have e0:nums sets (x.take 0)=[]:=rfl;rw [e0,Kr]at key;rw [key,Cs,BF (by rw [Si];omega)]
 ·intro i hi;have hn:(nums sets (x.take i)).length≤x.length:=by rw [Si,Kq];omega
  simp only [Fz];rw [if_pos (CV hi),BF (by omega),A01 sets x i x[i] (Af _ _ hi) _ hs (hm _ (GG hi)) hl (by omega),Cs,JS i (by omega),d9 sets x i hi]
 ·simp only [Fz];rw [if_neg (Au _),Md]
end Go.Proofs.YtjhjkfoabhplfaaGreat
