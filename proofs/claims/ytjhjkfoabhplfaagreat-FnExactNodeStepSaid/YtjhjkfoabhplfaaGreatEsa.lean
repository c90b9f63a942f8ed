/- New labels: equal neighbours go, numbers of sets, lists in order. Conditions: those in each lemma. -/
import Derived.Test.YtjhjkfoabhplfaaGreatL6
import Derived.Test.YtjhjkfoabhplfaaGreatEsA
import Derived.Test.YtjhjkfoabhplfaaGreatSti
namespace Go.Proofs.YtjhjkfoabhplfaaGreat
open Go Dv
set_option linter.unusedSimpArgs false
set_option linter.unusedVariables false
set_option maxRecDepth 100000
theorem A6H: ∀(a b:List Int),Dv.cmpL a b=cmpL a b
 | [],[]=>rfl
 | [],_::_=>rfl
 | _::_,[]=>rfl
 | x::a,y::b=>by
  have ih:=A6H a b;simp only [Dv.cmpL,cmpL,Dv.cmpI_eq];by_cases h:x=y
  ·rw [if_pos h,if_pos h,ih]
  ·rw [if_neg h,if_neg h];unfold Dv.cmpI;by_cases h1:x<y
   ·rw [if_pos h1,if_pos h1]
   ·rw [if_neg h1,if_neg h1,if_pos (by omega)]
theorem yt(l:List Int)(x:Int)(hs:Ow l)(hl:l.length<1000000):Rs l x=some (.inl (RV l x))∨Rs l x=some (.inr (RV l x)):=by
 have h0:=YW l x
 have loop:O3 l x 0=some ((DT l x:Nat):Int):=by
  unfold O3;have key:=BO (fun v=>Jg l x v) (fun i=>(i:Int)) (DT l x) ((DT l x:Nat):Int) ?_ ?_
  ·rw [Js]at key;exact key
  ·intro i hi;simp only [Jg,IA];have hh:l.getD i default<x:=by rw [AV _ _ (show i<l.length by omega)];exact(NS hs i (by omega)).2 hi
   rw [if_pos (by omega),Am (by omega),if_pos hh,IR i (by omega)]
  ·simp only [Jg,IA];by_cases e:DT l x<l.length
   ·have hh: ¬l.getD (DT l x) default<x:=by rw [AV _ _ e];exact fun c=>absurd ((NS hs _ e).1 c) (Nat.lt_irrefl _)
    rw [if_pos (by omega),Am (by omega),if_neg hh]
   ·rw [if_neg (by omega)]
 unfold Rs;rw [loop,CO,kF x hs];simp only [IA,Sk,LZ];have t1:(l.take (DT l x)).length≤l.length:=by rw [Jr];omega
 have t2:(l.drop (DT l x)).length≤l.length:=by rw [aU];omega
 by_cases e:DT l x<l.length
 ·rw [if_pos (by omega),Am (by omega)]
  by_cases e2:l.getD (DT l x) default=x
  ·rw [if_pos e2,if_pos ⟨e,e2⟩];exact .inl rfl
  ·rw [if_neg e2,if_neg (fun c=>e2 c.2),Am (by omega),Am h0,Am (by omega),Am (by omega),Am (by rw [Jq,kW];omega)]
   exact .inr rfl
 ·rw [if_neg (by omega),if_neg (fun c=>e c.1),Am (by omega),Am h0,Am (by omega),Am (by omega),Am (by rw [Jq,kW];omega)]
  exact .inr rfl
section
variable {α:Type}
theorem yu{lt:α→α→Prop}(irr: ∀x,¬lt x x)(asy: ∀x y,lt x y→ ¬lt y x): ∀ {a b:List α},a.Pairwise lt→b.Pairwise lt→(∀x,x∈a↔x∈b)→a=b
 | [],[],_,_,_=>rfl
 | [],y::b,_,_,h=>absurd ((h y).2 Iu) (by simp)
 | x::a,[],_,_,h=>absurd ((h x).1 Iu) (by simp)
 | x::a,y::b,ha,hb,h=>by
  have ha':=Ug.1 ha;have hb':=Ug.1 hb
  have e:x=y:=by
   rcases Li.1 ((h x).1 Iu)with h1 | h1
   ·exact h1
   ·rcases Li.1 ((h y).2 Iu)with h2 | h2
    ·exact h2.symm
    ·exact absurd (ha'.1 _ h2) (asy _ _ (hb'.1 _ h1))
  subst e;rw [yu irr asy ha'.2 hb'.2 fun z=> ?_];have hz:=h z;rw [Li,Li]at hz
  constructor
  ·intro hm;rcases hz.1 (.inr hm)with e | e
   ·subst e;exact absurd (ha'.1 _ hm) (irr _)
   ·exact e
  ·intro hm;rcases hz.2 (.inr hm)with e | e
   ·subst e;exact absurd (hb'.1 _ hm) (irr _)
   ·exact e
theorem kG(f:Nat→α)(kp:Nat→Bool)(n:Nat)(hk: ∀j,j<n→(kp j=true↔j=0∨f j≠f (j-1)))(x:α):x∈(Dv.keptL kp n).map f↔ ∃j,j<n∧x=f j:=by
 constructor
 ·intro h;obtain⟨j,hj,rfl⟩:=GV.1 h
  exact⟨j,Mx.1 (Px.1 hj).1,rfl⟩
 ·rintro⟨j,hj,rfl⟩
  induction j with
  | zero=>exact GV.2 ⟨0,Px.2 ⟨Mx.2 hj,(hk 0 hj).2 (.inl rfl)⟩,rfl⟩
  | succ j ih=>
   cases hc:kp (j+1)with
   | true=>exact GV.2 ⟨j+1,Px.2 ⟨Mx.2 hj,hc⟩,rfl⟩
   | false=>
    have:f (j+1)=f j:=by
     refine Classical.byContradiction fun hne=> ?_;rw [(hk _ hj).2 (.inr hne)]at hc;cases hc
    rw [this];exact ih (by omega)
theorem pV{le lt:α→α→Prop}(f:Nat→α)(kp:Nat→Bool)(n:Nat)(hk: ∀j,j<n→(kp j=true↔j=0∨f j≠f (j-1)))(hle: ∀i j,i≤j→j<n→le (f i) (f j))
  (step: ∀x y z,le x y→le y z→y≠z→lt x z):((Dv.keptL kp n).map f).Pairwise lt:=by
 rw [List.pairwise_map];have hp:(Dv.keptL kp n).Pairwise fun a b=>a<b:=List.pairwise_lt_range.filter _;refine hp.imp_of_mem fun {a b} ha hb hab=> ?_;obtain⟨hb1,hb2⟩:=Px.1 hb;have hbn:=Mx.1 hb1
 rcases(hk b hbn).1 hb2 with h0 | hne
 ·omega
 ·exact step (f a) (f (b-1)) (f b) (hle _ _ (by omega) (by omega)) (hle _ _ (by omega) hbn) hne.symm
end
def YZ(s:List Int)(j:Nat):Bool:=decide (j=0)|| !decide (s.getD j default=s.getD (j-1) default)
def Le(s:List Int):List Int:=(Dv.keptL (YZ s) s.length).map fun i=>s.getD i default
theorem pW(s:List Int)(j:Nat):YZ s j=true↔j=0∨s.getD j default≠s.getD (j-1) default:=by unfold YZ;simp
theorem tF{s:List Int}(h:s.Pairwise fun a b=>a≤b)(i j:Nat)(hij:i≤j)(hj:j<s.length):s.getD i default≤s.getD j default:=by
 rw [AV _ _ (by omega:i<s.length),AV _ _ hj]
 by_cases e:i=j
 ·subst e;exact Int.le_refl _
 ·exact(Vu.1 h) i j (by omega) hj (by omega)
theorem tH{s:List Int}(h:s.Pairwise fun a b=>a≤b):Ow (Le s):=
 pV (le:=fun a b:Int=>a≤b) _ _ _ (fun j _=>pW s j) (fun i j hij hj=>tF h i j hij hj) fun x y z h1 h2 h3=>by omega
theorem yw(s:List Int)(x:Int):x∈Le s↔x∈s:=by
 unfold Le;rw [kG _ _ _ (fun j _=>pW s j)]
 constructor
 ·rintro⟨j,hj,rfl⟩;rw [AV _ _ hj];exact FE _
 ·intro hx;obtain⟨j,hj,rfl⟩:=Sj hx
  exact⟨j,hj,by rw [AV _ _ hj]⟩
theorem kH{s:List Int}(h: ∀j,j<s.length→YZ s j=true):Le s=s:=by
 unfold Le;rw [Dv.keptL_all h];apply List.ext_getElem (by simp)
 intro i h1 h2;simp only [List.getElem_map,kr];rw [AV _ _ h2]
theorem nZ(s:List Int)(k:Nat)(hk:1≤k∧k<s.length)(hs:s.length<1000000000)(h0: ∀j,j<k→YZ s j=true)(h1:YZ s k=false):
  ∃t:List Int,D7 s (k:Int) ((k:Int),1,s)=some (((Le s).length:Int),t)∧t.length=s.length∧t.take (Le s).length=Le s:=by
 have sc: ∀m,m<s.length→((Dv.keptL (YZ s) (m+1)).map fun i=>s.getD i default)=((Dv.keptL (YZ s) m).map fun i=>s.getD i default)++(if YZ s m=true then [s.getD m default]else []):=fun m _=>by
  rw [Dv.keptL_succ,TT];congr 1;split<;>simp
 have key:=Im (fun v=>BU s (k:Int) v.1 v.2.1 v.2.2)
  (fun n (v:Int×Int×List Int)=> ∃a b:Nat,v.1=(a:Int)∧v.2.1=(b:Int)∧n=s.length-k-b∧1≤b∧b≤s.length-k∧a<k+b∧v.2.2.length=s.length∧(Dv.keptL (YZ s) (k+b)).length=a∧v.2.2.take a=((Dv.keptL (YZ s) (k+b)).map fun i=>s.getD i default)∧ ∀j,a≤j→v.2.2.getD j default=s.getD j default)
  (fun r:Int×List Int=>r.1=((Le s).length:Int)∧r.2.length=s.length∧r.2.take (Le s).length=Le s) ?_ (s.length-k-1) ((k:Int),1,s) ?_
 ·obtain⟨⟨a,t⟩,e1,e2,e3,e4⟩:=key;simp only at e2;subst e2
  exact⟨t,e1,e3,e4⟩
 ·rintro n ⟨k1,k2,t⟩ ⟨a,b,e1,e2,e3,e4,e5,e6,e7,e8,e9,e10⟩
  simp only at e1 e2 e7 e9 e10;subst e1 e2;by_cases hb:b<s.length-k
  ·left
   have hm:=sc (k+b) (by omega)
   have hl1:(Dv.keptL (YZ s) (k+b+1)).length=a+if YZ s (k+b)=true then 1 else 0:=by
    rw [Dv.keptL_succ,Jq,e8];split<;>rfl
   have x1:=e10 (k+b) (by omega)
   have x2:=e10 (k+(b-1)) (by omega)
   simp only [BU,IA];rw [if_pos (by omega),Am (by omega),Am (by omega),Am (by omega),Dw _ (by omega),Am (by omega),show((b:Int)-1).toNat=b-1 by omega,Am (by omega),IR b (by omega),x1,x2]
   by_cases hc:s.getD (k+b) default=s.getD (k+(b-1)) default
   ·rw [if_pos hc]
    have hkp:YZ s (k+b)=false:=by
     unfold YZ;rw [decide_eq_false (by omega: ¬k+b=0),show k+b-1=k+(b-1) by omega,decide_eq_true hc];rfl
    rw [hkp,if_neg (by decide)]at hl1 hm
    rw [Oj]at hm
    exact⟨_,s.length-k-(b+1),rfl,by omega,a,b+1,rfl,rfl,rfl,by omega,by omega,by omega,e7,by rw [←Nat.add_assoc,hl1,Nat.add_zero],by rw [←Nat.add_assoc,hm];exact e9,e10⟩
   ·rw [if_neg hc,Am (by omega),IR a (by omega)]
    have hkp:YZ s (k+b)=true:=by
     unfold YZ;rw [show k+b-1=k+(b-1) by omega,decide_eq_false hc];simp
    rw [hkp,if_pos rfl]at hl1 hm
    refine⟨_,s.length-k-(b+1),rfl,by omega,a+1,b+1,rfl,rfl,rfl,by omega,by omega,by omega,by simp only [Rz];exact e7,by rw [←Nat.add_assoc,hl1], ?_,fun j hj=> ?_⟩
    ·rw [←Nat.add_assoc,hm,←e9];have ha:a<(t.set a (s.getD (k+b) default)).length:=by rw [Rz];omega
     rw [Rw ha,List.take_set_of_le (IB _)]
     simp
    ·simp only;rw [Kw,qD (by omega),←Kw]
     exact e10 j (by omega)
  ·right
   have hke:k+b=s.length:=by omega
   rw [hke]at e8 e9
   refine⟨((a:Int),t), ?_, ?_,e7, ?_⟩
   ·simp only [BU,IA];rw [if_neg (by omega)]
   ·simp only [Le,S9];omega
   ·simp only [Le,S9,e8];exact e9
 ·have hl1:(Dv.keptL (YZ s) (k+1)).length=k:=by rw [Dv.keptL_succ,h1,Dv.keptL_all h0];simp
  refine⟨k,1,rfl,rfl,rfl,by omega,by omega,by omega,rfl,hl1, ?_,fun j _=>rfl⟩
  rw [sc k hk.2,h1,Dv.keptL_all h0];apply List.ext_getElem
  ·simp;omega
  ·intro i i1 i2;have hi:i<k:=by simp at i2;omega
   rw [List.getElem_take];simp only [Mw,if_false,Oj,List.getElem_map,kr];rw [AV _ _ (by omega)]
theorem ng(s:List Int)(hs:s.length<1000000000):Cq s=some (Le s):=by
 unfold Cq;by_cases h2:(s.length:Int)<2
 ·rw [if_pos h2,kH];intro j hj;have:j=0:=by omega
  subst this;rfl
 ·rw [if_neg h2];unfold D8
  have z0: ∀i,i<1→YZ s i=true:=fun i h1=>by
   obtain rfl:i=0:=by omega
   rfl
  have key:=Im (fun v=>BV s v) (fun n (v:Int)=> ∃k:Nat,v=(k:Int)∧n=s.length-k∧1≤k∧k≤s.length∧ ∀i,i<k→YZ s i=true)
   (fun r:List Int⊕Unit=>match r with | .inl q=>q=Le s | .inr _=>s=Le s) ?_ (s.length-1) (1:Int) ⟨1,rfl,rfl,by omega,by omega,z0⟩
  ·obtain⟨r,h1,h3⟩:=key;rw [h1,CO]
   cases r with
   | inl q=>simp only at h3;subst h3;rfl
   | inr _=>simp only at h3 ⊢;rw [←h3]
  ·rintro n v ⟨k,rfl,hn,h1,hk,hall⟩
   by_cases hks:k<s.length
   ·simp only [BV,IA];rw [if_pos (Bi hks),Am (by omega),Dw _ (by omega),Am (by omega),show((k:Int)-1).toNat=k-1 by omega]
    by_cases e:s.getD k default=s.getD (k-1) default
    ·right
     have hkp:YZ s k=false:=by
      unfold YZ;rw [decide_eq_false (by omega: ¬k=0),decide_eq_true e];rfl
     obtain⟨t,c1,c2,c3⟩:=nZ s k ⟨h1,hks⟩ hs hall hkp;have hdl:(Le s).length≤s.length:=by simp only [Le,S9];exact Dv.keptL_le _ _
     have hsp:=wJ (List.replicate (t.length-(Le s).length) (0:Int)) t (Le s).length (by rw [Yl];omega)
     rw [if_pos e,Am (by omega),Am (by omega),c1,CO]
     simp only [IA];have hsl:(Le s).length≤(mf t (Le s).length (List.replicate (t.length-(Le s).length) (0:Int))).length:=by rw [hsp];simp;omega
     rw [Am (by omega),Am (by omega),Am (by omega),Am hsl]
     refine⟨_,rfl, ?_⟩
     show List.take (Le s).length (mf t (Le s).length (List.replicate (t.length-(Le s).length) (0:Int)))=Le s
     rw [hsp,List.take_append_of_le_length (by simp;omega),List.take_take,Nat.min_self,c3]
    ·left
     rw [if_neg e,IR k (by omega)]
     refine⟨_,s.length-(k+1),rfl,by omega,k+1,rfl,rfl,by omega,by omega,fun i hi=> ?_⟩
     by_cases hik:i=k
     ·subst hik;unfold YZ;rw [decide_eq_false e];simp
     ·exact hall i (by omega)
   ·right
    have hke:k=s.length:=by omega
    subst hke
    refine⟨.inr (), ?_,(kH hall).symm⟩
    simp only [BV];rw [if_neg (Af _)]
theorem ni(l:List Int)(x:Int)(hs:Ow l)(hl:l.length<1000000000): ∃b,Bu l x=some (((DT l x:Nat):Int),b):=by
 have h0:=YW l x
 have loop:Bf l x (0,(l.length:Int))=some ((DT l x:Nat):Int):=by
  unfold Bf;have key:=Im (fun v=>BD l x v.1 v.2) (fun n (v:Int×Int)=> ∃i j:Nat,v.1=(i:Int)∧v.2=(j:Int)∧n=j-i∧i≤DT l x∧DT l x≤j∧j≤l.length)
   (fun r=>r=((DT l x:Nat):Int)) ?_ l.length (0,(l.length:Int)) ⟨0,l.length,rfl,rfl,rfl,SA _,h0,IB _⟩
  ·obtain⟨r,h1,h2⟩:=key;rw [h1,h2]
  ·rintro n ⟨v1,v2⟩ ⟨i,j,e1,e2,e3,e4,e5,e6⟩
   simp only at e1 e2;subst e1 e2;by_cases hij:i<j
   ·left
    have hm:IntKind.i64.wrap ((IntKind.u64.wrap (IntKind.i64.wrap ((i:Int)+(j:Int)))).fdiv (2 ^ (min 1 (IntKind.u64.bits))))=(((i+j) / 2:Nat):Int):=by
     have e8:min 1 IntKind.u64.bits=1:=rfl;rw [Dw ((i:Int)+(j:Int)) (by omega),e8]
     have:IntKind.u64.wrap ((i:Int)+(j:Int))=(i:Int)+(j:Int):=by unfold IntKind.wrap;simp only [IntKind.bits,IntKind.signed];simp;omega
     rw [this,Int.fdiv_eq_ediv_of_nonneg _ (by decide),show(2:Int) ^ 1=2 by decide,Dw _ (by omega)]
     omega
    simp only [BD,hm];have hml:(i+j) / 2<l.length:=by omega
    rw [if_pos (by omega),Am (by omega),IA,AV _ _ hml]
    have hle:=NS (x:=x) hs ((i+j) / 2) hml
    have hcmp:EP l[(i+j) / 2] x=some (decide (l[(i+j) / 2]<x)):=by
     unfold EP
     first | rfl | simp [Ch] | (simp only [Ch,CO];simp)
    rw [hcmp,CO];by_cases c:l[(i+j) / 2]<x
    ·rw [decide_eq_true c,if_pos rfl,IR _ (by omega)]
     have:=hle.1 c
     exact⟨_,j-((i+j) / 2+1),rfl,by omega,(i+j) / 2+1,j,rfl,rfl,rfl,by omega,e5,e6⟩
    ·rw [decide_eq_false c,if_neg (by decide)]
     have: ¬(i+j) / 2<DT l x:=fun h=>c (hle.2 h)
     exact⟨_,(i+j) / 2-i,rfl,by omega,i,(i+j) / 2,rfl,rfl,rfl,e4,by omega,by omega⟩
   ·right
    refine⟨(i:Int), ?_,by omega⟩
    simp only [BD];rw [if_neg (by omega)]
 unfold Bu;rw [loop,CO];unfold FP;by_cases h1:DT l x<l.length
 ·rw [if_pos (by omega),Am (by omega)]
  split
  ·exact⟨_,rfl⟩
  ·exact⟨_,rfl⟩
 ·rw [if_neg (by omega)]
  exact⟨_,rfl⟩
def nums(sets x:List Int):List Int:=x.map fun a=>((DT sets a:Nat):Int)
theorem RY(sets x:List Int):(nums sets x).length=x.length:=by simp [nums]
theorem aJ(sets x:List Int)(i:Nat)(hi:i<x.length):nums sets (x.take (i+1))=nums sets (x.take i)++[((DT sets x[i]:Nat):Int)]:=by
 unfold nums;rw [Rw hi,TT];rfl
theorem tJ(full:List (List Int))(sets:List Int)(out:List (List Int))(t:Nat)(x:List Int)(hx:full.getD t default=x)(hs:Ow sets)(hl:sets.length<1000000000)(hxl:x.length<1000000000):
  J9 full sets out (t:Int) ([],0)=some (nums sets x):=by
 unfold J9;have key:=BO (fun v=>Er full sets out (t:Int) v.1 v.2) (fun i=>(nums sets (x.take i),(i:Int))) x.length (nums sets x) ?_ ?_
 ·exact key
 ·intro i hi;have hn:(nums sets (x.take i)).length≤x.length:=by rw [RY,Jr];omega
  obtain⟨b,hb⟩:=ni sets x[i] hs hl;simp only [Er,IA,hx];rw [if_pos (Bi hi),Am (by omega),AV _ _ hi,hb,CO,Am (by omega),IR i (by omega),aJ sets x i hi]
 ·simp only [Er,IA,hx];rw [if_neg (Af _),LZ]
theorem pX{l:List Int}{x:Int}(hs:Ow l)(hx:x∈l):DT l x<l.length∧l.getD (DT l x) default=x∧ ∀j,j<l.length→l.getD j default=x→j=DT l x:=by
 obtain⟨k,hk,rfl⟩:=Sj hx
 have h1: ∀j (hj:j<l.length),l[j]<l[k]↔j<k:=fun j hj=>by
  constructor
  ·intro h;refine Classical.byContradiction fun hn=> ?_;by_cases e:k=j
   ·subst e;omega
   ·have:=(Vu.1 hs) k j hk hj (by omega);omega
  ·intro h;exact(Vu.1 hs) j k hj hk h
 have h2:DT l l[k]=k:=by
  have hle:=YW l l[k];have a1:=NS (x:=l[k]) hs k hk;have a2: ¬k<DT l l[k]:=fun h=>by have:=a1.2 h;omega
  have a3: ¬DT l l[k]<k:=fun h=>by
   have b1:=NS (x:=l[k]) hs (DT l l[k]) (by omega)
   have b2:=(h1 _ (by omega)).2 h
   exact absurd (b1.1 b2) (Nat.lt_irrefl _)
  omega
 rw [h2]
 refine⟨hk,AV _ _ hk,fun j hj he=> ?_⟩
 rw [AV _ _ hj]at he;refine Classical.byContradiction fun hn=> ?_;rcases Nat.lt_or_gt_of_ne hn with h | h
 ·have:=(Vu.1 hs) j k hj hk h;omega
 ·have:=(Vu.1 hs) k j hk hj h;omega
theorem yx(sets x:List Int)(t:Nat)(a:Int)(ha:x.getD t default=a)(out:List Int)(hs:Ow sets)(hm:a∈sets)(hl:sets.length<1000000000)(ho:out.length<1000000000):
  JE sets x (t:Int) (out,0)=some (out++[((DT sets a:Nat):Int)]):=by
 obtain⟨c1,c2,c3⟩:=pX hs hm;unfold JE;have key:=BO (fun v=>F3 sets x (t:Int) v.1 v.2) (fun i=>(out++(if DT sets a<i then [((DT sets a:Nat):Int)]else []),(i:Int))) sets.length (out++[((DT sets a:Nat):Int)]) ?_ ?_
 ·rw [if_neg (by omega),Oj]at key;exact key
 ·intro i hi;simp only [F3,IA,ha];rw [if_pos (Bi hi),Am (by omega),IR i (by omega)]
  by_cases e:a=sets.getD i default
  ·have hi2:=c3 i hi e.symm;rw [if_pos e,if_neg (by omega),Oj,Am (by omega),if_pos (by omega),hi2]
  ·have hi2:i≠DT sets a:=fun h=>e (by rw [h];exact c2.symm)
   rw [if_neg e];by_cases h3:DT sets a<i
   ·rw [if_pos h3,if_pos (by omega)]
   ·rw [if_neg h3,if_neg (by omega)]
 ·simp only [F3];rw [if_neg (Af _),if_pos c1]
theorem tO(sets x:List Int)(hs:Ow sets)(hm: ∀a∈x,a∈sets)(hl:sets.length<1000000000)(hx:x.length<1000000000):Ml sets x=some (Bn (nums sets x)):=by
 unfold Ml LQ;have key:=BO (fun v=>F4 sets x v.1 v.2) (fun i=>(nums sets (x.take i),(i:Int))) x.length (nums sets x) ?_ ?_
 ·have e0:nums sets (x.take 0)=[]:=rfl;rw [e0,Js]at key;rw [key,CO,Am (by rw [RY];omega)]
 ·intro i hi;have hn:(nums sets (x.take i)).length≤x.length:=by rw [RY,Jr];omega
  simp only [F4];rw [if_pos (Bi hi),Am (by omega),yx sets x i x[i] (AV _ _ hi) _ hs (hm _ (FE hi)) hl (by omega),CO,IR i (by omega),aJ sets x i hi]
 ·simp only [F4];rw [if_neg (Af _),LZ]
end Go.Proofs.YtjhjkfoabhplfaaGreat
