/- New labels: equal neighbours go, numbers of sets, lists in order. Conditions: those in each lemma. -/
import Derived.Test.YtjhjkfoabhplfaaGreatL6
import Derived.Test.YtjhjkfoabhplfaaGreatEsA
import Derived.Test.YtjhjkfoabhplfaaGreatSti
namespace Go.Proofs.YtjhjkfoabhplfaaGreat
open Go Dv
set_option linter.unusedSimpArgs false
set_option linter.unusedVariables false
set_option maxRecDepth 100000
theorem A4I: ∀(a b:List Int),Dv.cmpL a b=cmpL a b
 | [],[]=>rfl
 | [],_::_=>rfl
 | _::_,[]=>rfl
 | x::a,y::b=>by
  have ih:=A4I a b;simp only [Dv.cmpL,cmpL,Dv.cmpI_eq];by_cases h:x=y
  ·rw [if_pos h,if_pos h,ih]
  ·rw [if_neg h,if_neg h];unfold Dv.cmpI;by_cases h1:x<y
   ·rw [if_pos h1,if_pos h1]
   ·rw [if_neg h1,if_neg h1,if_pos (by omega)]
theorem vB(l:List Int)(x:Int)(hs:Mq l)(hl:l.length<1000000):PY l x=some (.inl (PG l x))∨PY l x=some (.inr (PG l x)):=by
 have h0:=WF l x
 have loop:M7 l x 0=some ((Cy l x:Nat):Int):=by
  unfold M7;have key:=Be (fun v=>IQ l x v) (fun i=>(i:Int)) (Cy l x) ((Cy l x:Nat):Int) ?_ ?_
  ·rw [Int.natCast_zero]at key;exact key
  ·intro i hi;simp only [IQ,Int.toNat_natCast];have hh:l.getD i default<x:=by rw [Ae _ _ (show i<l.length by omega)];exact(LW hs i (by omega)).2 hi
   rw [if_pos (by omega),Az (by omega),if_pos hh,JM i (by omega)]
  ·simp only [IQ,Int.toNat_natCast];by_cases e:Cy l x<l.length
   ·have hh: ¬l.getD (Cy l x) default<x:=by rw [Ae _ _ e];exact fun c=>absurd ((LW hs _ e).1 c) (Nat.lt_irrefl _)
    rw [if_pos (by omega),Az (by omega),if_neg hh]
   ·rw [if_neg (by omega)]
 unfold PY;rw [loop,Option.bind_some,eu x hs];simp only [Int.toNat_natCast,List.drop_zero,List.take_length];have t1:(l.take (Cy l x)).length≤l.length:=by rw [List.length_take];omega
 have t2:(l.drop (Cy l x)).length≤l.length:=by rw [List.length_drop];omega
 by_cases e:Cy l x<l.length
 ·rw [if_pos (by omega),Az (by omega)]
  by_cases e2:l.getD (Cy l x) default=x
  ·rw [if_pos e2,if_pos ⟨e,e2⟩];exact .inl rfl
  ·rw [if_neg e2,if_neg (fun c=>e2 c.2),Az (by omega),Az h0,Az (by omega),Az (by omega),Az (by rw [List.length_append,List.length_singleton];omega)]
   exact .inr rfl
 ·rw [if_neg (by omega),if_neg (fun c=>e c.1),Az (by omega),Az h0,Az (by omega),Az (by omega),Az (by rw [List.length_append,List.length_singleton];omega)]
  exact .inr rfl
section
variable {α:Type}
theorem vC{lt:α→α→Prop}(irr: ∀x,¬lt x x)(asy: ∀x y,lt x y→ ¬lt y x): ∀ {a b:List α},a.Pairwise lt→b.Pairwise lt→(∀x,x∈a↔x∈b)→a=b
 | [],[],_,_,_=>rfl
 | [],y::b,_,_,h=>absurd ((h y).2 List.mem_cons_self) (by simp)
 | x::a,[],_,_,h=>absurd ((h x).1 List.mem_cons_self) (by simp)
 | x::a,y::b,ha,hb,h=>by
  have ha':=List.pairwise_cons.1 ha;have hb':=List.pairwise_cons.1 hb
  have e:x=y:=by
   rcases List.mem_cons.1 ((h x).1 List.mem_cons_self)with h1 | h1
   ·exact h1
   ·rcases List.mem_cons.1 ((h y).2 List.mem_cons_self)with h2 | h2
    ·exact h2.symm
    ·exact absurd (ha'.1 _ h2) (asy _ _ (hb'.1 _ h1))
  subst e;rw [vC irr asy ha'.2 hb'.2 fun z=> ?_];have hz:=h z;rw [List.mem_cons,List.mem_cons]at hz
  constructor
  ·intro hm;rcases hz.1 (.inr hm)with e | e
   ·subst e;exact absurd (ha'.1 _ hm) (irr _)
   ·exact e
  ·intro hm;rcases hz.2 (.inr hm)with e | e
   ·subst e;exact absurd (hb'.1 _ hm) (irr _)
   ·exact e
theorem fA(f:Nat→α)(kp:Nat→Bool)(n:Nat)(hk: ∀j,j<n→(kp j=true↔j=0∨f j≠f (j-1)))(x:α):x∈(Dv.keptL kp n).map f↔ ∃j,j<n∧x=f j:=by
 constructor
 ·intro h;obtain⟨j,hj,rfl⟩:=List.mem_map.1 h
  exact⟨j,List.mem_range.1 (List.mem_filter.1 hj).1,rfl⟩
 ·rintro⟨j,hj,rfl⟩
  induction j with
  | zero=>exact List.mem_map.2 ⟨0,List.mem_filter.2 ⟨List.mem_range.2 hj,(hk 0 hj).2 (.inl rfl)⟩,rfl⟩
  | succ j ih=>
   cases hc:kp (j+1)with
   | true=>exact List.mem_map.2 ⟨j+1,List.mem_filter.2 ⟨List.mem_range.2 hj,hc⟩,rfl⟩
   | false=>
    have:f (j+1)=f j:=by
     refine Classical.byContradiction fun hne=> ?_;rw [(hk _ hj).2 (.inr hne)]at hc;cases hc
    rw [this];exact ih (by omega)
theorem kU{le lt:α→α→Prop}(f:Nat→α)(kp:Nat→Bool)(n:Nat)(hk: ∀j,j<n→(kp j=true↔j=0∨f j≠f (j-1)))(hle: ∀i j,i≤j→j<n→le (f i) (f j))
  (step: ∀x y z,le x y→le y z→y≠z→lt x z):((Dv.keptL kp n).map f).Pairwise lt:=by
 rw [List.pairwise_map];have hp:(Dv.keptL kp n).Pairwise fun a b=>a<b:=List.pairwise_lt_range.filter _;refine hp.imp_of_mem fun {a b} ha hb hab=> ?_;obtain⟨hb1,hb2⟩:=List.mem_filter.1 hb;have hbn:=List.mem_range.1 hb1
 rcases(hk b hbn).1 hb2 with h0 | hne
 ·omega
 ·exact step (f a) (f (b-1)) (f b) (hle _ _ (by omega) (by omega)) (hle _ _ (by omega) hbn) hne.symm
end
def WI(s:List Int)(j:Nat):Bool:=decide (j=0)|| !decide (s.getD j default=s.getD (j-1) default)
def Jq(s:List Int):List Int:=(Dv.keptL (WI s) s.length).map fun i=>s.getD i default
theorem kV(s:List Int)(j:Nat):WI s j=true↔j=0∨s.getD j default≠s.getD (j-1) default:=by unfold WI;simp
theorem nU{s:List Int}(h:s.Pairwise fun a b=>a≤b)(i j:Nat)(hij:i≤j)(hj:j<s.length):s.getD i default≤s.getD j default:=by
 rw [Ae _ _ (by omega:i<s.length),Ae _ _ hj]
 by_cases e:i=j
 ·subst e;exact Int.le_refl _
 ·exact(List.pairwise_iff_getElem.1 h) i j (by omega) hj (by omega)
theorem nV{s:List Int}(h:s.Pairwise fun a b=>a≤b):Mq (Jq s):=
 kU (le:=fun a b:Int=>a≤b) _ _ _ (fun j _=>kV s j) (fun i j hij hj=>nU h i j hij hj) fun x y z h1 h2 h3=>by omega
theorem vD(s:List Int)(x:Int):x∈Jq s↔x∈s:=by
 unfold Jq;rw [fA _ _ _ (fun j _=>kV s j)]
 constructor
 ·rintro⟨j,hj,rfl⟩;rw [Ae _ _ hj];exact List.getElem_mem _
 ·intro hx;obtain⟨j,hj,rfl⟩:=List.getElem_of_mem hx
  exact⟨j,hj,by rw [Ae _ _ hj]⟩
theorem fB{s:List Int}(h: ∀j,j<s.length→WI s j=true):Jq s=s:=by
 unfold Jq;rw [Dv.keptL_all h];apply List.ext_getElem (by simp)
 intro i h1 h2;simp only [List.getElem_map,List.getElem_range];rw [Ae _ _ h2]
theorem jV(s:List Int)(k:Nat)(hk:1≤k∧k<s.length)(hs:s.length<1000000000)(h0: ∀j,j<k→WI s j=true)(h1:WI s k=false):
  ∃t:List Int,Cs s (k:Int) ((k:Int),1,s)=some (((Jq s).length:Int),t)∧t.length=s.length∧t.take (Jq s).length=Jq s:=by
 have sc: ∀m,m<s.length→((Dv.keptL (WI s) (m+1)).map fun i=>s.getD i default)=((Dv.keptL (WI s) m).map fun i=>s.getD i default)++(if WI s m=true then [s.getD m default]else []):=fun m _=>by
  rw [Dv.keptL_succ,List.map_append];congr 1;split<;>simp
 have key:=KD (fun v=>BQ s (k:Int) v.1 v.2.1 v.2.2)
  (fun n (v:Int×Int×List Int)=> ∃a b:Nat,v.1=(a:Int)∧v.2.1=(b:Int)∧n=s.length-k-b∧1≤b∧b≤s.length-k∧a<k+b∧v.2.2.length=s.length∧(Dv.keptL (WI s) (k+b)).length=a∧v.2.2.take a=((Dv.keptL (WI s) (k+b)).map fun i=>s.getD i default)∧ ∀j,a≤j→v.2.2.getD j default=s.getD j default)
  (fun r:Int×List Int=>r.1=((Jq s).length:Int)∧r.2.length=s.length∧r.2.take (Jq s).length=Jq s) ?_ (s.length-k-1) ((k:Int),1,s) ?_
 ·obtain⟨⟨a,t⟩,e1,e2,e3,e4⟩:=key;simp only at e2;subst e2
  exact⟨t,e1,e3,e4⟩
 ·rintro n ⟨k1,k2,t⟩ ⟨a,b,e1,e2,e3,e4,e5,e6,e7,e8,e9,e10⟩
  simp only at e1 e2 e7 e9 e10;subst e1 e2;by_cases hb:b<s.length-k
  ·left
   have hm:=sc (k+b) (by omega)
   have hl1:(Dv.keptL (WI s) (k+b+1)).length=a+if WI s (k+b)=true then 1 else 0:=by
    rw [Dv.keptL_succ,List.length_append,e8];split<;>rfl
   have x1:=e10 (k+b) (by omega)
   have x2:=e10 (k+(b-1)) (by omega)
   simp only [BQ,Int.toNat_natCast];rw [if_pos (by omega),Az (by omega),Az (by omega),Az (by omega),Ie _ (by omega),Az (by omega),show((b:Int)-1).toNat=b-1 by omega,Az (by omega),JM b (by omega),x1,x2]
   by_cases hc:s.getD (k+b) default=s.getD (k+(b-1)) default
   ·rw [if_pos hc]
    have hkp:WI s (k+b)=false:=by
     unfold WI;rw [decide_eq_false (by omega: ¬k+b=0),show k+b-1=k+(b-1) by omega,decide_eq_true hc];rfl
    rw [hkp,if_neg (by decide)]at hl1 hm
    rw [List.append_nil]at hm
    exact⟨_,s.length-k-(b+1),rfl,by omega,a,b+1,rfl,rfl,rfl,by omega,by omega,by omega,e7,by rw [←Nat.add_assoc,hl1,Nat.add_zero],by rw [←Nat.add_assoc,hm];exact e9,e10⟩
   ·rw [if_neg hc,Az (by omega),JM a (by omega)]
    have hkp:WI s (k+b)=true:=by
     unfold WI;rw [show k+b-1=k+(b-1) by omega,decide_eq_false hc];simp
    rw [hkp,if_pos rfl]at hl1 hm
    refine⟨_,s.length-k-(b+1),rfl,by omega,a+1,b+1,rfl,rfl,rfl,by omega,by omega,by omega,by simp only [List.length_set];exact e7,by rw [←Nat.add_assoc,hl1], ?_,fun j hj=> ?_⟩
    ·rw [←Nat.add_assoc,hm,←e9];have ha:a<(t.set a (s.getD (k+b) default)).length:=by rw [List.length_set];omega
     rw [List.take_succ_eq_append_getElem ha,List.take_set_of_le (Nat.le_refl _)]
     simp
    ·simp only;rw [List.getD_eq_getElem?_getD,List.getElem?_set_ne (by omega),←List.getD_eq_getElem?_getD]
     exact e10 j (by omega)
  ·right
   have hke:k+b=s.length:=by omega
   rw [hke]at e8 e9
   refine⟨((a:Int),t), ?_, ?_,e7, ?_⟩
   ·simp only [BQ,Int.toNat_natCast];rw [if_neg (by omega)]
   ·simp only [Jq,List.length_map];omega
   ·simp only [Jq,List.length_map,e8];exact e9
 ·have hl1:(Dv.keptL (WI s) (k+1)).length=k:=by rw [Dv.keptL_succ,h1,Dv.keptL_all h0];simp
  refine⟨k,1,rfl,rfl,rfl,by omega,by omega,by omega,rfl,hl1, ?_,fun j _=>rfl⟩
  rw [sc k hk.2,h1,Dv.keptL_all h0];apply List.ext_getElem
  ·simp;omega
  ·intro i i1 i2;have hi:i<k:=by simp at i2;omega
   rw [List.getElem_take];simp only [Bool.false_eq_true,if_false,List.append_nil,List.getElem_map,List.getElem_range];rw [Ae _ _ (by omega)]
theorem jW(s:List Int)(hs:s.length<1000000000):Cj s=some (Jq s):=by
 unfold Cj;by_cases h2:(s.length:Int)<2
 ·rw [if_pos h2,fB];intro j hj;have:j=0:=by omega
  subst this;rfl
 ·rw [if_neg h2];unfold Ct
  have z0: ∀i,i<1→WI s i=true:=fun i h1=>by
   obtain rfl:i=0:=by omega
   rfl
  have key:=KD (fun v=>BR s v) (fun n (v:Int)=> ∃k:Nat,v=(k:Int)∧n=s.length-k∧1≤k∧k≤s.length∧ ∀i,i<k→WI s i=true)
   (fun r:List Int⊕Unit=>match r with | .inl q=>q=Jq s | .inr _=>s=Jq s) ?_ (s.length-1) (1:Int) ⟨1,rfl,rfl,by omega,by omega,z0⟩
  ·obtain⟨r,h1,h3⟩:=key;rw [h1,Option.bind_some]
   cases r with
   | inl q=>simp only at h3;subst h3;rfl
   | inr _=>simp only at h3 ⊢;rw [←h3]
  ·rintro n v ⟨k,rfl,hn,h1,hk,hall⟩
   by_cases hks:k<s.length
   ·simp only [BR,Int.toNat_natCast];rw [if_pos (CJ hks),Az (by omega),Ie _ (by omega),Az (by omega),show((k:Int)-1).toNat=k-1 by omega]
    by_cases e:s.getD k default=s.getD (k-1) default
    ·right
     have hkp:WI s k=false:=by
      unfold WI;rw [decide_eq_false (by omega: ¬k=0),decide_eq_true e];rfl
     obtain⟨t,c1,c2,c3⟩:=jV s k ⟨h1,hks⟩ hs hall hkp;have hdl:(Jq s).length≤s.length:=by simp only [Jq,List.length_map];exact Dv.keptL_le _ _
     have hsp:=qz (List.replicate (t.length-(Jq s).length) (0:Int)) t (Jq s).length (by rw [List.length_replicate];omega)
     rw [if_pos e,Az (by omega),Az (by omega),c1,Option.bind_some]
     simp only [Int.toNat_natCast];have hsl:(Jq s).length≤(iV t (Jq s).length (List.replicate (t.length-(Jq s).length) (0:Int))).length:=by rw [hsp];simp;omega
     rw [Az (by omega),Az (by omega),Az (by omega),Az hsl]
     refine⟨_,rfl, ?_⟩
     show List.take (Jq s).length (iV t (Jq s).length (List.replicate (t.length-(Jq s).length) (0:Int)))=Jq s
     rw [hsp,List.take_append_of_le_length (by simp;omega),List.take_take,Nat.min_self,c3]
    ·left
     rw [if_neg e,JM k (by omega)]
     refine⟨_,s.length-(k+1),rfl,by omega,k+1,rfl,rfl,by omega,by omega,fun i hi=> ?_⟩
     by_cases hik:i=k
     ·subst hik;unfold WI;rw [decide_eq_false e];simp
     ·exact hall i (by omega)
   ·right
    have hke:k=s.length:=by omega
    subst hke
    refine⟨.inr (), ?_,(fB hall).symm⟩
    simp only [BR];rw [if_neg (Ak _)]
theorem jX(l:List Int)(x:Int)(hs:Mq l)(hl:l.length<1000000000): ∃b,Bu l x=some (((Cy l x:Nat):Int),b):=by
 have h0:=WF l x
 have loop:Bd l x (0,(l.length:Int))=some ((Cy l x:Nat):Int):=by
  unfold Bd;have key:=KD (fun v=>BC l x v.1 v.2) (fun n (v:Int×Int)=> ∃i j:Nat,v.1=(i:Int)∧v.2=(j:Int)∧n=j-i∧i≤Cy l x∧Cy l x≤j∧j≤l.length)
   (fun r=>r=((Cy l x:Nat):Int)) ?_ l.length (0,(l.length:Int)) ⟨0,l.length,rfl,rfl,rfl,Nat.zero_le _,h0,Nat.le_refl _⟩
  ·obtain⟨r,h1,h2⟩:=key;rw [h1,h2]
  ·rintro n ⟨v1,v2⟩ ⟨i,j,e1,e2,e3,e4,e5,e6⟩
   simp only at e1 e2;subst e1 e2;by_cases hij:i<j
   ·left
    have hm:IntKind.i64.wrap ((IntKind.u64.wrap (IntKind.i64.wrap ((i:Int)+(j:Int)))).fdiv (2 ^ (min 1 (IntKind.u64.bits))))=(((i+j) / 2:Nat):Int):=by
     have e8:min 1 IntKind.u64.bits=1:=rfl;rw [Ie ((i:Int)+(j:Int)) (by omega),e8]
     have:IntKind.u64.wrap ((i:Int)+(j:Int))=(i:Int)+(j:Int):=by unfold IntKind.wrap;simp only [IntKind.bits,IntKind.signed];simp;omega
     rw [this,Int.fdiv_eq_ediv_of_nonneg _ (by decide),show(2:Int) ^ 1=2 by decide,Ie _ (by omega)]
     omega
    simp only [BC,hm];have hml:(i+j) / 2<l.length:=by omega
    rw [if_pos (by omega),Az (by omega),Int.toNat_natCast,Ae _ _ hml]
    have hle:=LW (x:=x) hs ((i+j) / 2) hml
    have hcmp:Dl l[(i+j) / 2] x=some (decide (l[(i+j) / 2]<x)):=by
     unfold Dl
     first | rfl | simp [Cc] | (simp only [Cc,Option.bind_some];simp)
    rw [hcmp,Option.bind_some];by_cases c:l[(i+j) / 2]<x
    ·rw [decide_eq_true c,if_pos rfl,JM _ (by omega)]
     have:=hle.1 c
     exact⟨_,j-((i+j) / 2+1),rfl,by omega,(i+j) / 2+1,j,rfl,rfl,rfl,by omega,e5,e6⟩
    ·rw [decide_eq_false c,if_neg (by decide)]
     have: ¬(i+j) / 2<Cy l x:=fun h=>c (hle.2 h)
     exact⟨_,(i+j) / 2-i,rfl,by omega,i,(i+j) / 2,rfl,rfl,rfl,e4,by omega,by omega⟩
   ·right
    refine⟨(i:Int), ?_,by omega⟩
    simp only [BC];rw [if_neg (by omega)]
 unfold Bu;rw [loop,Option.bind_some];unfold El;by_cases h1:Cy l x<l.length
 ·rw [if_pos (by omega),Az (by omega)]
  split
  ·exact⟨_,rfl⟩
  ·exact⟨_,rfl⟩
 ·rw [if_neg (by omega)]
  exact⟨_,rfl⟩
def nums(sets x:List Int):List Int:=x.map fun a=>((Cy sets a:Nat):Int)
theorem PI(sets x:List Int):(nums sets x).length=x.length:=by simp [nums]
theorem Xz(sets x:List Int)(i:Nat)(hi:i<x.length):nums sets (x.take (i+1))=nums sets (x.take i)++[((Cy sets x[i]:Nat):Int)]:=by
 unfold nums;rw [List.take_succ_eq_append_getElem hi,List.map_append];rfl
theorem nW(full:List (List Int))(sets:List Int)(out:List (List Int))(t:Nat)(x:List Int)(hx:full.getD t default=x)(hs:Mq sets)(hl:sets.length<1000000000)(hxl:x.length<1000000000):
  Ht full sets out (t:Int) ([],0)=some (nums sets x):=by
 unfold Ht;have key:=Be (fun v=>EJ full sets out (t:Int) v.1 v.2) (fun i=>(nums sets (x.take i),(i:Int))) x.length (nums sets x) ?_ ?_
 ·exact key
 ·intro i hi;have hn:(nums sets (x.take i)).length≤x.length:=by rw [PI,List.length_take];omega
  obtain⟨b,hb⟩:=jX sets x[i] hs hl;simp only [EJ,Int.toNat_natCast,hx];rw [if_pos (CJ hi),Az (by omega),Ae _ _ hi,hb,Option.bind_some,Az (by omega),JM i (by omega),Xz sets x i hi]
 ·simp only [EJ,Int.toNat_natCast,hx];rw [if_neg (Ak _),List.take_length]
theorem kW{l:List Int}{x:Int}(hs:Mq l)(hx:x∈l):Cy l x<l.length∧l.getD (Cy l x) default=x∧ ∀j,j<l.length→l.getD j default=x→j=Cy l x:=by
 obtain⟨k,hk,rfl⟩:=List.getElem_of_mem hx
 have h1: ∀j (hj:j<l.length),l[j]<l[k]↔j<k:=fun j hj=>by
  constructor
  ·intro h;refine Classical.byContradiction fun hn=> ?_;by_cases e:k=j
   ·subst e;omega
   ·have:=(List.pairwise_iff_getElem.1 hs) k j hk hj (by omega);omega
  ·intro h;exact(List.pairwise_iff_getElem.1 hs) j k hj hk h
 have h2:Cy l l[k]=k:=by
  have hle:=WF l l[k];have a1:=LW (x:=l[k]) hs k hk;have a2: ¬k<Cy l l[k]:=fun h=>by have:=a1.2 h;omega
  have a3: ¬Cy l l[k]<k:=fun h=>by
   have b1:=LW (x:=l[k]) hs (Cy l l[k]) (by omega)
   have b2:=(h1 _ (by omega)).2 h
   exact absurd (b1.1 b2) (Nat.lt_irrefl _)
  omega
 rw [h2]
 refine⟨hk,Ae _ _ hk,fun j hj he=> ?_⟩
 rw [Ae _ _ hj]at he;refine Classical.byContradiction fun hn=> ?_;rcases Nat.lt_or_gt_of_ne hn with h | h
 ·have:=(List.pairwise_iff_getElem.1 hs) j k hj hk h;omega
 ·have:=(List.pairwise_iff_getElem.1 hs) k j hk hj h;omega
theorem vE(sets x:List Int)(t:Nat)(a:Int)(ha:x.getD t default=a)(out:List Int)(hs:Mq sets)(hm:a∈sets)(hl:sets.length<1000000000)(ho:out.length<1000000000):
  Hy sets x (t:Int) (out,0)=some (out++[((Cy sets a:Nat):Int)]):=by
 obtain⟨c1,c2,c3⟩:=kW hs hm;unfold Hy;have key:=Be (fun v=>ER sets x (t:Int) v.1 v.2) (fun i=>(out++(if Cy sets a<i then [((Cy sets a:Nat):Int)]else []),(i:Int))) sets.length (out++[((Cy sets a:Nat):Int)]) ?_ ?_
 ·rw [if_neg (by omega),List.append_nil]at key;exact key
 ·intro i hi;simp only [ER,Int.toNat_natCast,ha];rw [if_pos (CJ hi),Az (by omega),JM i (by omega)]
  by_cases e:a=sets.getD i default
  ·have hi2:=c3 i hi e.symm;rw [if_pos e,if_neg (by omega),List.append_nil,Az (by omega),if_pos (by omega),hi2]
  ·have hi2:i≠Cy sets a:=fun h=>e (by rw [h];exact c2.symm)
   rw [if_neg e];by_cases h3:Cy sets a<i
   ·rw [if_pos h3,if_pos (by omega)]
   ·rw [if_neg h3,if_neg (by omega)]
 ·simp only [ER];rw [if_neg (Ak _),if_pos c1]
theorem nX(sets x:List Int)(hs:Mq sets)(hm: ∀a∈x,a∈sets)(hl:sets.length<1000000000)(hx:x.length<1000000000):Kn sets x=some (DI (nums sets x)):=by
 unfold Kn Jj;have key:=Be (fun v=>ES sets x v.1 v.2) (fun i=>(nums sets (x.take i),(i:Int))) x.length (nums sets x) ?_ ?_
 ·have e0:nums sets (x.take 0)=[]:=rfl;rw [e0,Int.natCast_zero]at key;rw [key,Option.bind_some,Az (by rw [PI];omega)]
 ·intro i hi;have hn:(nums sets (x.take i)).length≤x.length:=by rw [PI,List.length_take];omega
  simp only [ES];rw [if_pos (CJ hi),Az (by omega),vE sets x i x[i] (Ae _ _ hi) _ hs (hm _ (List.getElem_mem hi)) hl (by omega),Option.bind_some,JM i (by omega),Xz sets x i hi]
 ·simp only [ES];rw [if_neg (Ak _),List.take_length]
end Go.Proofs.YtjhjkfoabhplfaaGreat
