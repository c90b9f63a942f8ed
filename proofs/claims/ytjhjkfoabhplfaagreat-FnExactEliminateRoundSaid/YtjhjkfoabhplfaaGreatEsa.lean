/- New labels: equal neighbours go, numbers of sets, lists in order. Conditions: those in each lemma. -/
import Derived.Test.YtjhjkfoabhplfaaGreatL6
import Derived.Test.YtjhjkfoabhplfaaGreatEsA
import Derived.Test.YtjhjkfoabhplfaaGreatSti
namespace Go.Proofs.YtjhjkfoabhplfaaGreat
open Go Dv
set_option linter.unusedSimpArgs false
set_option linter.unusedVariables false
set_option maxRecDepth 100000
theorem A3I: ∀(a b:AA),Dv.cmpL a b=cmpL a b
 | [],[]=>rfl
 | [],_::_=>rfl
 |_::_,[]=>rfl
 |x::a,y::b=>by
  have ih:=A3I a b;simp only [Dv.cmpL,cmpL,Dv.cmpI_eq];by_cases h:x=y
  ·rw [if_pos h,if_pos h,ih]
  ·rw [if_neg h,if_neg h];unfold Dv.cmpI;by_cases h1:x<y
   ·rw [if_pos h1,if_pos h1]
   ·rw [if_neg h1,if_neg h1,if_pos (by omega)]
theorem A1h(l:AA)(x:Int)(hs:QH l)(hl:l.length<1000000):Tm l x=some (.inl (TJ l x))∨Tm l x=some (.inr (TJ l x)):=by
 have h0:=aQ l x
 have loop:PO l x 0=some ((DX l x:Nat):Int):=by
  unfold PO;have key:=BD (fun v=>KI l x v) (fun i=>(i:Int)) (DX l x) ((DX l x:Nat):Int) ?_ ?_
  ·rw [Jb]at key;exact key
  ·intro i hi;simp only [KI,H5];have hh:l.getD i default<x:=by rw [AX _ _ (show i<l.length by omega)];exact(Oe hs i (by omega)).2 hi
   rw [if_pos (by omega),Ao (by omega),if_pos hh,H9 i (by omega)]
  ·simp only [KI,H5];by_cases e:DX l x<l.length
   ·have hh: ¬l.getD (DX l x) default<x:=by rw [AX _ _ e];exact fun c=>absurd ((Oe hs _ e).1 c) (Nat.lt_irrefl _)
    rw [if_pos (by omega),Ao (by omega),if_neg hh]
   ·rw [if_neg (by omega)]
 unfold Tm;rw [loop,Bl,pI x hs];simp only [H5,UT,Lr];have t1:(l.take (DX l x)).length≤l.length:=by rw [KV];omega
 have t2:(l.drop (DX l x)).length≤l.length:=by rw [gF];omega
 by_cases e:DX l x<l.length
 ·rw [if_pos (by omega),Ao (by omega)]
  by_cases e2:l.getD (DX l x) default=x
  ·rw [if_pos e2,if_pos ⟨e,e2⟩];exact .inl rfl
  ·rw [if_neg e2,if_neg (fun c=>e2 c.2),Ao (by omega),Ao h0,Ao (by omega),Ao (by omega),Ao (by rw [KU,qE];omega)]
   exact .inr rfl
 ·rw [if_neg (by omega),if_neg (fun c=>e c.1),Ao (by omega),Ao h0,Ao (by omega),Ao (by omega),Ao (by rw [KU,qE];omega)]
  exact .inr rfl
section
variable {α:Type}
theorem A1i{lt:α→α→Prop}(irr: ∀x,¬lt x x)(asy: ∀x y,lt x y→ ¬lt y x): ∀ {a b:List α},a.Pairwise lt→b.Pairwise lt→(∀x,x∈a↔x∈b)→a=b
 | [],[],_,_,_=>rfl
 | [],y::b,_,_,h=>absurd ((h y).2 Ja) (by simp)
 |x::a,[],_,_,h=>absurd ((h x).1 Ja) (by simp)
 |x::a,y::b,ha,hb,h=>by
  have ha':=WM.1 ha;have hb':=WM.1 hb
  have e:x=y:=by
   rcases MW.1 ((h x).1 Ja)with h1|h1
   ·exact h1
   ·rcases MW.1 ((h y).2 Ja)with h2|h2
    ·exact h2.symm
    ·exact absurd (ha'.1 _ h2) (asy _ _ (hb'.1 _ h1))
  subst e;rw [A1i irr asy ha'.2 hb'.2 fun z=> ?_];have hz:=h z;rw [MW,MW]at hz
  constructor
  ·intro hm;rcases hz.1 (.inr hm)with e|e
   ·subst e;exact absurd (ha'.1 _ hm) (irr _)
   ·exact e
  ·intro hm;rcases hz.2 (.inr hm)with e|e
   ·subst e;exact absurd (hb'.1 _ hm) (irr _)
   ·exact e
theorem pJ(f:Nat→α)(kp:Nat→Bool)(n:Nat)(hk: ∀j,j<n→(kp j=true↔j=0∨f j≠f (j-1)))(x:α):x∈(Dv.keptL kp n).map f↔ ∃j,j<n∧x=f j:=by
 constructor
 ·intro h;obtain⟨j,hj,rfl⟩:=Fq.1 h
  exact⟨j,Lt.1 (QD.1 hj).1,rfl⟩
 ·rintro⟨j,hj,rfl⟩
  induction j with
  |zero=>exact Fq.2 ⟨0,QD.2 ⟨Lt.2 hj,(hk 0 hj).2 (.inl rfl)⟩,rfl⟩
  |succ j ih=>
   cases hc:kp (j+1)with
   |true=>exact Fq.2 ⟨j+1,QD.2 ⟨Lt.2 hj,hc⟩,rfl⟩
   |false=>
    have:f (j+1)=f j:=by
     refine Classical.byContradiction fun hne=> ?_;rw [(hk _ hj).2 (.inr hne)]at hc;cases hc
    rw [this];exact ih (by omega)
theorem vD{le lt:α→α→Prop}(f:Nat→α)(kp:Nat→Bool)(n:Nat)(hk: ∀j,j<n→(kp j=true↔j=0∨f j≠f (j-1)))(hle: ∀i j,i≤j→j<n→le (f i) (f j))
  (step: ∀x y z,le x y→le y z→y≠z→lt x z):((Dv.keptL kp n).map f).Pairwise lt:=by
 rw [List.pairwise_map];have hp:(Dv.keptL kp n).Pairwise fun a b=>a<b:=List.pairwise_lt_range.filter _;refine hp.imp_of_mem fun {a b} ha hb hab=> ?_;obtain⟨hb1,hb2⟩:=QD.1 hb;have hbn:=Lt.1 hb1
 rcases(hk b hbn).1 hb2 with h0|hne
 ·omega
 ·exact step (f a) (f (b-1)) (f b) (hle _ _ (by omega) (by omega)) (hle _ _ (by omega) hbn) hne.symm
end
def aT(s:AA)(j:Nat):Bool:=decide (j=0)|| !decide (s.getD j default=s.getD (j-1) default)
def Mf(s:AA):AA:=(Dv.keptL (aT s) s.length).map fun i=>s.getD i default
theorem vE(s:AA)(j:Nat):aT s j=true↔j=0∨s.getD j default≠s.getD (j-1) default:=by unfold aT;simp
theorem xq{s:AA}(h:s.Pairwise fun a b=>a≤b)(i j:Nat)(hij:i≤j)(hj:j<s.length):s.getD i default≤s.getD j default:=by
 rw [AX _ _ (by omega:i<s.length),AX _ _ hj]
 by_cases e:i=j
 ·subst e;exact Int.le_refl _
 ·exact(WK.1 h) i j (by omega) hj (by omega)
theorem xu{s:AA}(h:s.Pairwise fun a b=>a≤b):QH (Mf s):=
 vD (le:=fun a b:Int=>a≤b) _ _ _ (fun j _=>vE s j) (fun i j hij hj=>xq h i j hij hj) fun x y z h1 h2 h3=>by omega
theorem A1j(s:AA)(x:Int):x∈Mf s↔x∈s:=by
 unfold Mf;rw [pJ _ _ _ (fun j _=>vE s j)]
 constructor
 ·rintro⟨j,hj,rfl⟩;rw [AX _ _ hj];exact FT _
 ·intro hx;obtain⟨j,hj,rfl⟩:=UO hx
  exact⟨j,hj,by rw [AX _ _ hj]⟩
theorem pK{s:AA}(h: ∀j,j<s.length→aT s j=true):Mf s=s:=by
 unfold Mf;rw [Dv.keptL_all h];apply List.ext_getElem (by simp)
 intro i h1 h2;simp only [List.getElem_map,qL];rw [AX _ _ h2]
theorem u7(s:AA)(k:Nat)(hk:1≤k∧k<s.length)(hs:s.length<1000000000)(h0: ∀j,j<k→aT s j=true)(h1:aT s k=false):
  ∃t:AA,DF s (k:Int) ((k:Int),1,s)=some (((Mf s).length:Int),t)∧t.length=s.length∧t.take (Mf s).length=Mf s:=by
 have sc: ∀m,m<s.length→((Dv.keptL (aT s) (m+1)).map fun i=>s.getD i default)=((Dv.keptL (aT s) m).map fun i=>s.getD i default)++(if aT s m=true then [s.getD m default]else []):=fun m _=>by
  rw [Dv.keptL_succ,UR];congr 1;split<;>simp
 have key:=JV (fun v=>Bb s (k:Int) v.1 v.2.1 v.2.2)
  (fun n (v:Int×Int×AA)=> ∃a b:Nat,v.1=(a:Int)∧v.2.1=(b:Int)∧n=s.length-k-b∧1≤b∧b≤s.length-k∧a<k+b∧v.2.2.length=s.length∧(Dv.keptL (aT s) (k+b)).length=a∧v.2.2.take a=((Dv.keptL (aT s) (k+b)).map fun i=>s.getD i default)∧ ∀j,a≤j→v.2.2.getD j default=s.getD j default)
  (fun r:Int×AA=>r.1=((Mf s).length:Int)∧r.2.length=s.length∧r.2.take (Mf s).length=Mf s) ?_ (s.length-k-1) ((k:Int),1,s) ?_
 ·obtain⟨⟨a,t⟩,e1,e2,e3,e4⟩:=key;simp only at e2;subst e2
  exact⟨t,e1,e3,e4⟩
 ·rintro n ⟨k1,k2,t⟩ ⟨a,b,e1,e2,e3,e4,e5,e6,e7,e8,e9,e10⟩
  simp only at e1 e2 e7 e9 e10;subst e1 e2;by_cases hb:b<s.length-k
  ·left
   have hm:=sc (k+b) (by omega)
   have hl1:(Dv.keptL (aT s) (k+b+1)).length=a+if aT s (k+b)=true then 1 else 0:=by
    rw [Dv.keptL_succ,KU,e8];split<;>rfl
   have x1:=e10 (k+b) (by omega)
   have x2:=e10 (k+(b-1)) (by omega)
   simp only [Bb,H5];rw [if_pos (by omega),Ao (by omega),Ao (by omega),Ao (by omega),Db _ (by omega),Ao (by omega),show((b:Int)-1).toNat=b-1 by omega,Ao (by omega),H9 b (by omega),x1,x2]
   by_cases hc:s.getD (k+b) default=s.getD (k+(b-1)) default
   ·rw [if_pos hc]
    have hkp:aT s (k+b)=false:=by
     unfold aT;rw [decide_eq_false (by omega: ¬k+b=0),show k+b-1=k+(b-1) by omega,decide_eq_true hc];rfl
    rw [hkp,if_neg (by decide)]at hl1 hm
    rw [O6]at hm
    exact⟨_,s.length-k-(b+1),rfl,by omega,a,b+1,rfl,rfl,rfl,by omega,by omega,by omega,e7,by rw [←Nat.add_assoc,hl1,Nat.add_zero],by rw [←Nat.add_assoc,hm];exact e9,e10⟩
   ·rw [if_neg hc,Ao (by omega),H9 a (by omega)]
    have hkp:aT s (k+b)=true:=by
     unfold aT;rw [show k+b-1=k+(b-1) by omega,decide_eq_false hc];simp
    rw [hkp,if_pos rfl]at hl1 hm
    refine⟨_,s.length-k-(b+1),rfl,by omega,a+1,b+1,rfl,rfl,rfl,by omega,by omega,by omega,by simp only [Tw];exact e7,by rw [←Nat.add_assoc,hl1], ?_,fun j hj=> ?_⟩
    ·rw [←Nat.add_assoc,hm,←e9];have ha:a<(t.set a (s.getD (k+b) default)).length:=by rw [Tw];omega
     rw [S9 ha,List.take_set_of_le (Io _)]
     simp
    ·simp only;rw [Lp,vO (by omega),←Lp]
     exact e10 j (by omega)
  ·right
   have hke:k+b=s.length:=by omega
   rw [hke]at e8 e9
   refine⟨((a:Int),t), ?_, ?_,e7, ?_⟩
   ·simp only [Bb,H5];rw [if_neg (by omega)]
   ·simp only [Mf,R4];omega
   ·simp only [Mf,R4,e8];exact e9
 ·have hl1:(Dv.keptL (aT s) (k+1)).length=k:=by rw [Dv.keptL_succ,h1,Dv.keptL_all h0];simp
  refine⟨k,1,rfl,rfl,rfl,by omega,by omega,by omega,rfl,hl1, ?_,fun j _=>rfl⟩
  rw [sc k hk.2,h1,Dv.keptL_all h0];apply List.ext_getElem
  ·simp;omega
  ·intro i i1 i2;have hi:i<k:=by simp at i2;omega
   rw [List.getElem_take];simp only [O5,if_false,O6,List.getElem_map,qL];rw [AX _ _ (by omega)]
theorem uA(s:AA)(hs:s.length<1000000000):Cv s=some (Mf s):=by
 unfold Cv;by_cases h2:(s.length:Int)<2
 ·rw [if_pos h2,pK];intro j hj;have:j=0:=by omega
  subst this;rfl
 ·rw [if_neg h2];unfold DI
  have z0: ∀i,i<1→aT s i=true:=fun i h1=>by
   obtain rfl:i=0:=by omega
   rfl
  have key:=JV (fun v=>Bc s v) (fun n (v:Int)=> ∃k:Nat,v=(k:Int)∧n=s.length-k∧1≤k∧k≤s.length∧ ∀i,i<k→aT s i=true)
   (fun r:AA⊕Unit=>match r with| .inl q=>q=Mf s| .inr _=>s=Mf s) ?_ (s.length-1) (1:Int) ⟨1,rfl,rfl,by omega,by omega,z0⟩
  ·obtain⟨r,h1,h3⟩:=key;rw [h1,Bl]
   cases r with
   |inl q=>simp only at h3;subst h3;rfl
   |inr _=>simp only at h3 ⊢;rw [←h3]
  ·rintro n v ⟨k,rfl,hn,h1,hk,hall⟩
   by_cases hks:k<s.length
   ·simp only [Bc,H5];rw [if_pos (BZ hks),Ao (by omega),Db _ (by omega),Ao (by omega),show((k:Int)-1).toNat=k-1 by omega]
    by_cases e:s.getD k default=s.getD (k-1) default
    ·right
     have hkp:aT s k=false:=by
      unfold aT;rw [decide_eq_false (by omega: ¬k=0),decide_eq_true e];rfl
     obtain⟨t,c1,c2,c3⟩:=u7 s k ⟨h1,hks⟩ hs hall hkp;have hdl:(Mf s).length≤s.length:=by simp only [Mf,R4];exact Dv.keptL_le _ _
     have hsp:=A01 (List.replicate (t.length-(Mf s).length) (0:Int)) t (Mf s).length (by rw [bG];omega)
     rw [if_pos e,Ao (by omega),Ao (by omega),c1,Bl]
     simp only [H5];have hsl:(Mf s).length≤(sI t (Mf s).length (List.replicate (t.length-(Mf s).length) (0:Int))).length:=by rw [hsp];simp;omega
     rw [Ao (by omega),Ao (by omega),Ao (by omega),Ao hsl]
     refine⟨_,rfl, ?_⟩
     show List.take (Mf s).length (sI t (Mf s).length (List.replicate (t.length-(Mf s).length) (0:Int)))=Mf s
     rw [hsp,List.take_append_of_le_length (by simp;omega),List.take_take,Nat.min_self,c3]
    ·left
     rw [if_neg e,H9 k (by omega)]
     refine⟨_,s.length-(k+1),rfl,by omega,k+1,rfl,rfl,by omega,by omega,fun i hi=> ?_⟩
     by_cases hik:i=k
     ·subst hik;unfold aT;rw [decide_eq_false e];simp
     ·exact hall i (by omega)
   ·right
    have hke:k=s.length:=by omega
    subst hke
    refine⟨.inr (), ?_,(pK hall).symm⟩
    simp only [Bc];rw [if_neg (Ae _)]
theorem uB(l:AA)(x:Int)(hs:QH l)(hl:l.length<1000000000): ∃b,Bz l x=some (((DX l x:Nat):Int),b):=by
 have h0:=aQ l x
 have loop:Bj l x (0,(l.length:Int))=some ((DX l x:Nat):Int):=by
  unfold Bj;have key:=JV (fun v=>BK l x v.1 v.2) (fun n (v:Int×Int)=> ∃i j:Nat,v.1=(i:Int)∧v.2=(j:Int)∧n=j-i∧i≤DX l x∧DX l x≤j∧j≤l.length)
   (fun r=>r=((DX l x:Nat):Int)) ?_ l.length (0,(l.length:Int)) ⟨0,l.length,rfl,rfl,rfl,Tx _,h0,Io _⟩
  ·obtain⟨r,h1,h2⟩:=key;rw [h1,h2]
  ·rintro n ⟨v1,v2⟩ ⟨i,j,e1,e2,e3,e4,e5,e6⟩
   simp only at e1 e2;subst e1 e2;by_cases hij:i<j
   ·left
    have hm:IntKind.i64.wrap ((IntKind.u64.wrap (IntKind.i64.wrap ((i:Int)+(j:Int)))).fdiv (2 ^ (min 1 (IntKind.u64.bits))))=(((i+j) / 2:Nat):Int):=by
     have e8:min 1 IntKind.u64.bits=1:=rfl;rw [Db ((i:Int)+(j:Int)) (by omega),e8]
     have:IntKind.u64.wrap ((i:Int)+(j:Int))=(i:Int)+(j:Int):=by unfold IntKind.wrap;simp only [IntKind.bits,IntKind.signed];simp;omega
     rw [this,Int.fdiv_eq_ediv_of_nonneg _ (by decide),show(2:Int) ^ 1=2 by decide,Db _ (by omega)]
     omega
    simp only [BK,hm];have hml:(i+j) / 2<l.length:=by omega
    rw [if_pos (by omega),Ao (by omega),H5,AX _ _ hml]
    have hle:=Oe (x:=x) hs ((i+j) / 2) hml
    have hcmp:EZ l[(i+j) / 2] x=some (decide (l[(i+j) / 2]<x)):=by
     unfold EZ
     first|rfl|simp [Cn]|(simp only [Cn,Bl];simp)
    rw [hcmp,Bl];by_cases c:l[(i+j) / 2]<x
    ·rw [decide_eq_true c,if_pos rfl,H9 _ (by omega)]
     have:=hle.1 c
     exact⟨_,j-((i+j) / 2+1),rfl,by omega,(i+j) / 2+1,j,rfl,rfl,rfl,by omega,e5,e6⟩
    ·rw [decide_eq_false c,if_neg (by decide)]
     have: ¬(i+j) / 2<DX l x:=fun h=>c (hle.2 h)
     exact⟨_,(i+j) / 2-i,rfl,by omega,i,(i+j) / 2,rfl,rfl,rfl,e4,by omega,by omega⟩
   ·right
    refine⟨(i:Int), ?_,by omega⟩
    simp only [BK];rw [if_neg (by omega)]
 unfold Bz;rw [loop,Bl];unfold Ff;by_cases h1:DX l x<l.length
 ·rw [if_pos (by omega),Ao (by omega)]
  split
  ·exact⟨_,rfl⟩
  ·exact⟨_,rfl⟩
 ·rw [if_neg (by omega)]
  exact⟨_,rfl⟩
def nums(sets x:AA):AA:=x.map fun a=>((DX sets a:Nat):Int)
theorem TL(sets x:AA):(nums sets x).length=x.length:=by simp [nums]
theorem fJ(sets x:AA)(i:Nat)(hi:i<x.length):nums sets (x.take (i+1))=nums sets (x.take i)++[((DX sets x[i]:Nat):Int)]:=by
 unfold nums;rw [S9 hi,UR];rfl
theorem xw(full:AL)(sets:AA)(out:AL)(t:Nat)(x:AA)(hx:full.getD t default=x)(hs:QH sets)(hl:sets.length<1000000000)(hxl:x.length<1000000000):
  Jl full sets out (t:Int) ([],0)=some (nums sets x):=by
 unfold Jl;have key:=BD (fun v=>F6 full sets out (t:Int) v.1 v.2) (fun i=>(nums sets (x.take i),(i:Int))) x.length (nums sets x) ?_ ?_
 ·exact key
 ·intro i hi;have hn:(nums sets (x.take i)).length≤x.length:=by rw [TL,KV];omega
  obtain⟨b,hb⟩:=uB sets x[i] hs hl;simp only [F6,H5,hx];rw [if_pos (BZ hi),Ao (by omega),AX _ _ hi,hb,Bl,Ao (by omega),H9 i (by omega),fJ sets x i hi]
 ·simp only [F6,H5,hx];rw [if_neg (Ae _),Lr]
theorem vF{l:AA}{x:Int}(hs:QH l)(hx:x∈l):DX l x<l.length∧l.getD (DX l x) default=x∧ ∀j,j<l.length→l.getD j default=x→j=DX l x:=by
 obtain⟨k,hk,rfl⟩:=UO hx
 have h1: ∀j (hj:j<l.length),l[j]<l[k]↔j<k:=fun j hj=>by
  constructor
  ·intro h;refine Classical.byContradiction fun hn=> ?_;by_cases e:k=j
   ·subst e;omega
   ·have:=(WK.1 hs) k j hk hj (by omega);omega
  ·intro h;exact(WK.1 hs) j k hj hk h
 have h2:DX l l[k]=k:=by
  have hle:=aQ l l[k];have a1:=Oe (x:=l[k]) hs k hk;have a2: ¬k<DX l l[k]:=fun h=>by have:=a1.2 h;omega
  have a3: ¬DX l l[k]<k:=fun h=>by
   have b1:=Oe (x:=l[k]) hs (DX l l[k]) (by omega)
   have b2:=(h1 _ (by omega)).2 h
   exact absurd (b1.1 b2) (Nat.lt_irrefl _)
  omega
 rw [h2]
 refine⟨hk,AX _ _ hk,fun j hj he=> ?_⟩
 rw [AX _ _ hj]at he;refine Classical.byContradiction fun hn=> ?_;rcases Nat.lt_or_gt_of_ne hn with h|h
 ·have:=(WK.1 hs) j k hj hk h;omega
 ·have:=(WK.1 hs) k j hk hj h;omega
theorem A1k(sets x:AA)(t:Nat)(a:Int)(ha:x.getD t default=a)(out:AA)(hs:QH sets)(hm:a∈sets)(hl:sets.length<1000000000)(ho:out.length<1000000000):
  Jp sets x (t:Int) (out,0)=some (out++[((DX sets a:Nat):Int)]):=by
 obtain⟨c1,c2,c3⟩:=vF hs hm;unfold Jp;have key:=BD (fun v=>FH sets x (t:Int) v.1 v.2) (fun i=>(out++(if DX sets a<i then [((DX sets a:Nat):Int)]else []),(i:Int))) sets.length (out++[((DX sets a:Nat):Int)]) ?_ ?_
 ·rw [if_neg (by omega),O6]at key;exact key
 ·intro i hi;simp only [FH,H5,ha];rw [if_pos (BZ hi),Ao (by omega),H9 i (by omega)]
  by_cases e:a=sets.getD i default
  ·have hi2:=c3 i hi e.symm;rw [if_pos e,if_neg (by omega),O6,Ao (by omega),if_pos (by omega),hi2]
  ·have hi2:i≠DX sets a:=fun h=>e (by rw [h];exact c2.symm)
   rw [if_neg e];by_cases h3:DX sets a<i
   ·rw [if_pos h3,if_pos (by omega)]
   ·rw [if_neg h3,if_neg (by omega)]
 ·simp only [FH];rw [if_neg (Ae _),if_pos c1]
theorem xx(sets x:AA)(hs:QH sets)(hm: ∀a∈x,a∈sets)(hl:sets.length<1000000000)(hx:x.length<1000000000):Np sets x=some (Bt (nums sets x)):=by
 unfold Np MR;have key:=BD (fun v=>FI sets x v.1 v.2) (fun i=>(nums sets (x.take i),(i:Int))) x.length (nums sets x) ?_ ?_
 ·have e0:nums sets (x.take 0)=[]:=rfl;rw [e0,Jb]at key;rw [key,Bl,Ao (by rw [TL];omega)]
 ·intro i hi;have hn:(nums sets (x.take i)).length≤x.length:=by rw [TL,KV];omega
  simp only [FI];rw [if_pos (BZ hi),Ao (by omega),A1k sets x i x[i] (AX _ _ hi) _ hs (hm _ (FT hi)) hl (by omega),Bl,H9 i (by omega),fJ sets x i hi]
 ·simp only [FI];rw [if_neg (Ae _),Lr]
end Go.Proofs.YtjhjkfoabhplfaaGreat
