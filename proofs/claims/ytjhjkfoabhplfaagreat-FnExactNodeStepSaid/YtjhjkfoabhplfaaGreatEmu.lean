/- Lists that do not decrease, and what is taken out of them. Conditions: those in each lemma. -/
import Derived.Test.YtjhjkfoabhplfaaGreatL6
import Derived.Test.YtjhjkfoabhplfaaGreatEsA
import Derived.Test.YtjhjkfoabhplfaaGreatCut
namespace Go.Proofs.YtjhjkfoabhplfaaGreat
open Go Dv
set_option linter.unusedSimpArgs false
set_option linter.unusedVariables false
set_option maxRecDepth 100000
theorem WW{α:Type}(l:List α)(i:Nat)(hi:i<l.length):l.take (i+1)=l.take i++[l[i]]:=by rw [List.take_add_one,Ga hi];rfl
def ext(x:AL)(fr n:Int):AO:=(List.range (n-fr).toNat).map fun j:Nat=>x++[fr+(j:Int)]
def Cy(x:AL):Int:=if 0<x.length then x.getD (x.length-1) default else 0
def Aj(n:Int):Nat→AO
 |0=>[[]]
 |k+1=>(Aj n k).flatMap fun x=>ext x (Cy x) n
theorem jD{x:AL}{fr n:Int}{c:Nat}(h0:0≤fr)(hn:n≤(c:Int)):(ext x fr n).length≤c:=by simp only [ext,TL,List.length_range];omega
theorem LV{x:AL}(h: ∀y∈x,0≤y):0≤Cy x:=by
 unfold Cy;split
 ·rw [Af _ _ (by omega)];exact h _ (GG _)
 ·omega
theorem VX{α β:Type}(f:α→List β)(c:Nat): ∀(l:List α),(∀x∈l,(f x).length≤c)→(l.flatMap f).length≤c*l.length
 | [],_=>by simp
 |x::l,h=>by
  rw [List.flatMap_cons,Ko,Ji,Nat.mul_add,M9];have h1:=h x (by simp)
  have h2:=VX f c l (fun y hy=>h y (by simp [hy]))
  omega
theorem Hr(n:Int)(c:Nat)(hn:n≤(c:Int)): ∀k,(∀x∈Aj n k,x.length=k∧ ∀y∈x,0≤y∧y<n)∧(Aj n k).length≤c ^ k:=by
 intro k
 induction k with
 |zero=>simp [Aj]
 |succ k ih=>
  obtain⟨h1,h2⟩:=ih;have h0: ∀x∈Aj n k,0≤Cy x:=fun x hx=>LV fun y hy=>((h1 x hx).2 y hy).1
  refine⟨fun z hz=> ?_, ?_⟩
  ·simp only [Aj,List.mem_flatMap,ext,I1,O7]at hz;obtain⟨x,hx,j,hj,rfl⟩:=hz;have:=h0 x hx
   refine⟨by simp [(h1 x hx).1],fun y hy=> ?_⟩
   rw [PN,UO]at hy;rcases hy with hy|rfl
   ·exact(h1 x hx).2 y hy
   ·omega
  ·have:=VX (fun x=>ext x (Cy x) n) c (Aj n k) (fun x hx=>jD (h0 x hx) hn)
   show((Aj n k).flatMap fun x=>ext x (Cy x) n).length≤_
   rw [Nat.pow_succ,Nat.mul_comm];exact Tv this (Nat.mul_le_mul (JE _) h2)
theorem UJ(labels size:Int)(out:AO)(k t:Int)(next:AO)(x:AL)(hx:out.getD t.toNat default=x)(ht:t.toNat<out.length)(fr:Int)(h0:0≤fr)(hl:labels≤255)(hxl:x.length<1000)(hn:next.length<5000000000):
  IU labels size out k t (next,fr)=some (next++ext x fr labels):=by
 unfold IU;have key:=Bv (fun v=>Fq labels size out k t v.1 v.2) (fun i=>(next++(List.range i).map (fun j:Nat=>x++[fr+(j:Int)]),fr+(i:Int))) (labels-fr).toNat (next++ext x fr labels) ?_ ?_
 ·simpa using key
 ·intro i hi;have h1:x.length<1099511627776:=by omega
  have h1':0+x.length<1099511627776:=by omega
  have h2:x.length+1<1099511627776:=by omega
  have h3:(next++(List.range i).map (fun j:Nat=>x++[fr+(j:Int)])).length+1<1099511627776:=by simp;omega
  simp only [Fq,hx];rw [if_pos (by omega)]
  simp only [BF h1,BF h2,BF h3,BF ht];rw [Ec _ (by omega),Zp,UR,←TJ,show fr+(i:Int)+1=fr+((i+1:Nat):Int) by omega]
  rfl
 ·simp only [Fq];rw [if_neg (by omega)]
  rfl
theorem PH(labels size:Int)(out:AO)(k t:Int)(next:AO)(x:AL)(hx:out.getD t.toNat default=x)(ht:t.toNat<out.length)(fr:Int)(h0:0≤fr)(hl:labels≤255)(hxl:x.length<1000)(hn:next.length<5000000000):
  IY labels size out k t (next,fr)=some (next++ext x fr labels):=by
 unfold IY;have key:=Bv (fun v=>G6 labels size out k t v.1 v.2) (fun i=>(next++(List.range i).map (fun j:Nat=>x++[fr+(j:Int)]),fr+(i:Int))) (labels-fr).toNat (next++ext x fr labels) ?_ ?_
 ·simpa using key
 ·intro i hi;have h1:x.length<1099511627776:=by omega
  have h1':0+x.length<1099511627776:=by omega
  have h2:x.length+1<1099511627776:=by omega
  have h3:(next++(List.range i).map (fun j:Nat=>x++[fr+(j:Int)])).length+1<1099511627776:=by simp;omega
  simp only [G6,NS,hx];rw [if_pos (by omega)]
  simp only [BF h1',BF h2,BF h3,Cs];rw [Ec _ (by omega),Zp,UR,←TJ,show fr+(i:Int)+1=fr+((i+1:Nat):Int) by omega]
  rfl
 ·simp only [G6];rw [if_neg (by omega)]
  rfl
theorem ADE(labels size:Int)(out:AO)(t:Int)(k:Nat)(hl:labels≤255)(hx: ∀x∈out,x.length=k∧ ∀y∈x,0≤y∧y<labels)(hk:k≤10)(ho:out.length≤17000000):
  K8 labels size out t ([],0)=some (out.flatMap fun x=>ext x (Cy x) labels):=by
 have hlast: ∀x∈out,0≤Cy x:=fun x h=>LV fun y hy=>((hx x h).2 y hy).1;unfold K8;refine Bv (fun v=>Fv labels size out t v.1 v.2) (fun i=>((out.take i).flatMap fun x=>ext x (Cy x) labels,(i:Int))) out.length _ ?_ ?_
 ·intro i hi;have hg:out.getD ((i:Nat):Int).toNat default=out[i]:=by rw [JD];exact Af _ _ hi
  have hm:=GG hi;have h1:=hx _ hm;have h2:=hlast _ hm
  have h3:((out.take i).flatMap fun x=>ext x (Cy x) labels).length<5000000000:=by
   have:=VX (fun x=>ext x (Cy x) labels) 255 (out.take i) (fun x h=>jD (hlast x (List.mem_of_mem_take h)) hl)
   have h4:(out.take i).length≤out.length:=by rw [Kq];omega
   omega
  have e:=UJ labels size out t (i:Int) ((out.take i).flatMap fun x=>ext x (Cy x) labels) out[i] hg (by omega) (Cy out[i]) h2 hl (by omega) h3
  have e2:(out.take (i+1)).flatMap (fun x=>ext x (Cy x) labels)=((out.take i).flatMap fun x=>ext x (Cy x) labels)++ext out[i] (Cy out[i]) labels:=by
   rw [WW _ _ hi,List.flatMap_append,List.flatMap_singleton]
  simp only [Fv,hg];rw [if_pos (CV hi),BF (by omega),e2]
  by_cases hp:0<out[i].length
  ·have e3:Cy out[i]=out[i].getD (out[i].length-1) default:=if_pos hp;rw [if_pos (by omega),Ec _ (by omega),BF (by omega),show((out[i].length:Int)-1).toNat=out[i].length-1 by omega,←e3,e,Cs,JS i (by omega)]
  ·have e3:Cy out[i]=0:=if_neg hp;rw [if_neg (by omega)]
   rw [e3]at e;rw [e,e3,Cs,JS i (by omega)]
 ·simp only [Fv];rw [if_neg (Au _),Md]
theorem ADF(labels size:Int)(out:AO)(k:Nat)(hl:labels≤255)(hx: ∀x∈out,x.length=k∧ ∀y∈x,0≤y∧y<labels)(hk:k≤10)(ho:out.length≤17000000):
  KA labels size out (k:Int) ([],0)=some (out.flatMap fun x=>ext x (Cy x) labels):=by
 have hlast: ∀x∈out,0≤Cy x:=fun x h=>LV fun y hy=>((hx x h).2 y hy).1;unfold KA;refine Bv (fun v=>G7 labels size out (k:Int) v.1 v.2) (fun i=>((out.take i).flatMap fun x=>ext x (Cy x) labels,(i:Int))) out.length _ ?_ ?_
 ·intro i hi;have hg:out.getD ((i:Nat):Int).toNat default=out[i]:=by rw [JD];exact Af _ _ hi
  have hm:=GG hi;have h1:=hx _ hm;have h2:=hlast _ hm
  have h3:((out.take i).flatMap fun x=>ext x (Cy x) labels).length<5000000000:=by
   have:=VX (fun x=>ext x (Cy x) labels) 255 (out.take i) (fun x h=>jD (hlast x (List.mem_of_mem_take h)) hl)
   have h4:(out.take i).length≤out.length:=by rw [Kq];omega
   omega
  have e2:(out.take (i+1)).flatMap (fun x=>ext x (Cy x) labels)=((out.take i).flatMap fun x=>ext x (Cy x) labels)++ext out[i] (Cy out[i]) labels:=by
   rw [WW _ _ hi,List.flatMap_append,List.flatMap_singleton]
  simp only [G7,hg];rw [if_pos (CV hi),BF (by omega),e2]
  by_cases hp:0<out[i].length
  ·have e:=PH labels size out (k:Int) (i:Int) ((out.take i).flatMap fun x=>ext x (Cy x) labels) out[i] hg (by omega) (Cy out[i]) h2 hl (by omega) h3
   have e3:Cy out[i]=out[i].getD (out[i].length-1) default:=if_pos hp;rw [if_pos (by omega),Ec _ (by omega),BF (by omega),show((k:Int)-1).toNat=out[i].length-1 by omega,←e3,e,Cs,JS i (by omega)]
  ·have e:=PH labels size out (k:Int) (i:Int) ((out.take i).flatMap fun x=>ext x (Cy x) labels) out[i] hg (by omega) (Cy out[i]) h2 hl (by omega) h3
   have e3:Cy out[i]=0:=if_neg hp;rw [if_neg (by omega)]
   rw [e3]at e;rw [e,e3,Cs,JS i (by omega)]
 ·simp only [G7];rw [if_neg (Au _),Md]
theorem ZR(n:Int)(hn:n≤255)(k:Nat)(hk:k≤3):(Aj n k).length≤17000000:=by
 have h:=(Hr n 255 hn k).2;have:255 ^ k≤255 ^ 3:=sG (by omega) hk
 omega
theorem Sa(n:Int)(hn:n≤8)(k:Nat)(hk:k≤4):(Aj n k).length≤10000:=by
 have h:=(Hr n 8 hn k).2;have:8 ^ k≤8 ^ 4:=sG (by omega) hk
 omega
theorem Sb(n size:Int)(hn:n≤255)(hs:0≤size∧size≤4):M0 n size=some (Aj n size.toNat):=by
 unfold M0 MS;have key:=Bv (fun v=>Fw n size v.1 v.2) (fun i=>(Aj n i,(i:Int))) size.toNat (Aj n size.toNat) ?_ ?_
 ·have e:((0:Nat):Int)=0:=rfl;simp only [e]at key;rw [show(([[]],0):AO×Int)=(Aj n 0,0)from rfl,key];rfl
 ·intro i hi;simp only [Fw];rw [if_pos (by omega),ADE n size _ _ i hn (Hr n 255 hn i).1 (by omega) (ZR n hn i (by omega)),Cs,JS i (by omega)]
  rfl
 ·simp only [Fw];rw [if_neg (by omega)]
theorem Sc(n size:Int)(hn:n≤255)(hs:0≤size∧size≤4):Io n size=some (Aj n size.toNat):=by
 unfold Io MX;have key:=Bv (fun v=>G8 n size v.1 v.2) (fun i=>(Aj n i,(i:Int))) size.toNat (Aj n size.toNat) ?_ ?_
 ·have e:((0:Nat):Int)=0:=rfl;simp only [e]at key;rw [show(([[]],0):AO×Int)=(Aj n 0,0)from rfl,key];rfl
 ·intro i hi;simp only [G8];rw [if_pos (by omega),ADF n size _ i hn (Hr n 255 hn i).1 (by omega) (ZR n hn i (by omega)),Cs,JS i (by omega)]
  rfl
 ·simp only [G8];rw [if_neg (by omega)]
theorem ADG(s:AO)(f:AL→Option Bool)(p:AL→Bool)(hs:s.length<1099511627776)(hf: ∀x∈s,f x=some (p x)):
  (Bo s f=some (-1)∧ ∀x∈s,p x=false)∨ ∃m:Nat,Bo s f=some (m:Int)∧m<s.length∧(∀(h:m<s.length),p s[m]=true)∧ ∀j (h:j<s.length),j<m→p s[j]=false:=by
 have step: ∀i (hi:i<s.length),Aq s f (i:Int)=if p s[i]=true then some (.inr (.inl (i:Int)))else some (.inl ((i+1:Nat):Int)):=by
  intro i hi;simp only [Aq,JD];rw [if_pos (CV hi),BF (by omega),Af _ _ hi,hf _ (GG hi),Cs,JS i (by omega)]
 have FX:Aq s f (s.length:Int)=some (.inr (.inr ())):=by
  simp only [Aq];rw [if_neg (Au _)]
 by_cases hp: ∀i,i<s.length→(!p (s.getD i default))=true
 ·left
  have hp': ∀i (hi:i<s.length),p s[i]=false:=fun i hi=>by have:=hp i hi;rw [Af _ _ hi]at this;simpa using this
  have:=Bv (fun v=>Aq s f v) (fun i=>(i:Int)) s.length (.inr ()) (fun i hi=>by rw [step i hi,hp' i hi];rfl) FX
  refine⟨?_,fun x hx=> ?_⟩
  ·unfold Bo CW;have e:((0:Nat):Int)=0:=rfl;simp only [e]at this;rw [this];rfl
  ·obtain⟨i,hi,rfl⟩:=Tt hx;exact hp' i hi
 ·right
  obtain⟨m,h1,h2,h3⟩:=U3 hp;have h2':p s[m]=true:=by rw [Af _ _ h1]at h2;simpa using h2
  have h3': ∀j (h:j<s.length),j<m→p s[j]=false:=fun j hj hjm=>by have:=h3 j hjm;rw [Af _ _ hj]at this;simpa using this
  have:=Bv (fun v=>Aq s f v) (fun i=>(i:Int)) m (.inl (m:Int)) (fun i hi=>by rw [step i (by omega),h3' i (by omega) hi];rfl) (by rw [step m h1,h2'];rfl)
  refine⟨m, ?_,h1,fun _=>h2',h3'⟩
  unfold Bo CW;have e:((0:Nat):Int)=0:=rfl;simp only [e]at this;rw [this];rfl
theorem cu{p:AL→Bool}(s:AO)(J:Nat)(h:J<s.length):(s.take (J+1)).filter p=if p s[J]=true then(s.take J).filter p++[s[J]]else(s.take J).filter p:=by
 rw [WW _ _ h,mr]
 cases hp:p s[J]<;>simp [hp]
theorem zx(s:AO)(f:AL→Option Bool)(p:AL→Bool)(hs:s.length<1099511627776)(hf: ∀x∈s,f x=some (p x))(m:Nat)(hm:m<s.length)(hpm:p s[m]=true)(hlt: ∀j (h:j<s.length),j<m→p s[j]=false):
  ∃t,Cz f ((m:Int),IntKind.i64.wrap ((m:Int)+1),s.map some)=some ((((s.filter fun x=> !p x).length:Nat):Int),t)∧t.length=s.length∧(s.filter fun x=> !p x).length≤s.length∧ ∀k,k<(s.filter fun x=> !p x).length→t[k]? =((s.filter fun x=> !p x)[k]?).map some:=by
 have h0: ∀J,J≤m→(s.take J).filter (fun x=> !p x)=s.take J:=by
  intro J hJ;rw [List.filter_eq_self];intro x hx;obtain⟨i,hi,rfl⟩:=Tt hx;rw [Kq]at hi;rw [List.getElem_take,hlt i (by omega) (by omega)];rfl
 have key:=Jk (fun v=>Bc f v.1 v.2.1 v.2.2)
  (fun n (v:Int×Int×List (Option AL))=> ∃J:Nat,n=s.length-J∧J≤s.length∧v.2.1=(J:Int)∧v.1=((((s.take J).filter fun x=> !p x).length:Nat):Int)∧((s.take J).filter fun x=> !p x).length<J∧v.2.2.length=s.length∧
   (∀k,k<((s.take J).filter fun x=> !p x).length→v.2.2[k]? =(((s.take J).filter fun x=> !p x)[k]?).map some)∧ ∀k,J≤k→v.2.2[k]? =(s[k]?).map some)
  (fun r:Int×List (Option AL)=>r.1=(((s.filter fun x=> !p x).length:Nat):Int)∧r.2.length=s.length∧ ∀k,k<(s.filter fun x=> !p x).length→r.2[k]? =((s.filter fun x=> !p x)[k]?).map some)
  ?_ (s.length-(m+1)) ((m:Int),IntKind.i64.wrap ((m:Int)+1),s.map some) ?_
 ·obtain⟨⟨a,t⟩,h1,h2,h3,h4⟩:=key;simp only at h2 h3 h4;subst h2
  exact⟨t,h1,h3,ry _ _,h4⟩
 ·rintro n ⟨i,j,t⟩ ⟨J,hn,hJ,hj,hi,hlt',hlen,hA,hB⟩
  simp only at hj hi hlen hA hB;subst hj hi;generalize hK:(s.take J).filter (fun x=> !p x)=K at*;by_cases hJs:J<s.length
  ·left
   have hgJ:t.getD J default=some s[J]:=by
    rw [M8,hB J (JE _),Ga hJs];rfl
   have hnext:=cu (p:=fun x=> !p x) s J hJs;rw [hK]at hnext;simp only [Bc,JD,hgJ];rw [if_pos (by omega),BF (by omega),BF (by rfl),Xn,hf _ (GG hJs),Cs]
   by_cases hpJ:p s[J]=true
   ·rw [if_pos hpJ,JS J (by omega)]
    rw [hpJ]at hnext
    refine⟨_,s.length-(J+1),rfl,by omega,J+1,rfl,by omega,rfl, ?_⟩
    rw [hnext]
    exact⟨rfl,by simp;omega,hlen,hA,fun k hk=>hB k (by omega)⟩
   ·rw [if_neg hpJ,BF (by omega),JS J (by omega),JS K.length (by omega)]
    have hpf:p s[J]=false:=by simpa using hpJ
    rw [hpf]at hnext;simp only [Bool.not_false,if_true]at hnext
    refine⟨_,s.length-(J+1),rfl,by omega,J+1,rfl,by omega,rfl, ?_⟩
    rw [hnext]
    refine⟨by simp,by simp;omega,by simp [hlen],fun k hk=> ?_,fun k hk=> ?_⟩
    ·simp only;rw [Ko,mf]at hk;by_cases hkK:k=K.length
     ·subst hkK;rw [List.getElem?_set_self (by simp;omega),RO (JE _),X6];rfl
     ·rw [rz (by omega),rz (by omega),hA k (by omega),Q8 (by omega)]
    ·simp only;rw [rz (by omega),rz (by omega)]
     exact hB k (by omega)
  ·right
   have hJe:J=s.length:=by omega
   subst hJe;rw [Md]at hK;subst hK
   refine⟨((((s.filter fun x=> !p x).length:Nat):Int),t), ?_,rfl,hlen,hA⟩
   simp only [Bc];rw [if_neg (by omega)]
 ·refine⟨m+1,rfl,by omega,JS m (by omega), ?_⟩
  have e:=cu (p:=fun x=> !p x) s m hm;rw [hpm,h0 m (JE _)]at e;simp only [Bool.not_true,O6,if_false]at e;rw [e];have el:(s.take m).length=m:=by rw [Kq];omega
  rw [el]
  refine⟨rfl,by omega,by simp,fun k hk=> ?_,fun k hk=> ?_⟩
  ·simp only;rw [OH,Tq hk]
  ·simp only;rw [OH]
theorem A6y(s:AO)(f:AL→Option Bool)(p:AL→Bool)(hs:s.length<1099511627776)(hf: ∀x∈s,f x=some (p x)):Ce s f=some (s.filter fun x=> !p x):=by
 unfold Ce;rcases ADG s f p hs hf with⟨h1,h2⟩|⟨m,h1,h2,h3,h4⟩
 ·rw [h1,Cs,if_pos rfl]
  congr 1
  symm
  rw [List.filter_eq_self];intro x hx;rw [h2 x hx];rfl
 ·rw [h1,Cs,if_neg (by omega)]
  obtain⟨t,e1,e2,e3,e4⟩:=zx s f p hs hf m h2 (h3 h2) h4;rw [e1,Cs];generalize hK:(s.filter fun x=> !p x)=K at*;simp only [JD];have hr:((List.replicate (t.length-K.length) ([]:AL)).map some).length=t.length-K.length:=by simp
  have hsp:=xk ((List.replicate (t.length-K.length) ([]:AL)).map some) t K.length (by omega)
  have htk:(pG t K.length ((List.replicate (t.length-K.length) ([]:AL)).map some)).take K.length=K.map some:=by
   rw [hsp,List.take_append_of_le_length (by rw [Kq];omega),List.take_take,Nat.min_self]
   refine List.ext_getElem? fun k=> ?_;rw [OH];by_cases hk:k<K.length
   ·rw [Tq hk,e4 k hk]
   ·rw [List.getElem?_eq_none (by rw [Kq];omega),List.getElem?_eq_none (by omega)];rfl
  have hln:K.length≤(pG t K.length ((List.replicate (t.length-K.length) ([]:AL)).map some)).length:=by
   rw [hsp,Ko,Kq];omega
  rw [BF (by omega),BF (by omega),BF (by omega),BF hln,BF (by rw [htk];simp),htk]
  simp [Function.comp_def]
theorem qI(n size:Int)(good:AL→Option Bool)(g:AL→Bool)(hn:n≤8)(hs:0≤size∧size≤4)(hg: ∀x∈Aj n size.toNat,good x=some (g x)):Im n size good=some ((Aj n size.toNat).filter g):=by
 unfold Im;rw [Sb n size (by omega) hs,Cs,A6y _ _ (fun x=> !g x) (by have:=Sa n hn size.toNat (by omega);omega) (fun x hx=>by unfold LJ;rw [hg x hx];rfl),Cs]
 simp only [Bool.not_not]
theorem qJ(c:Int): ∀(l:AO),(∀x∈l,(x.length:Int)≤c)→DC l≤c*l.length
 | [],_=>by simp [V3]
 |x::l,h=>by
  have h1:=h x (by simp)
  have h2:=qJ c l (fun y hy=>h y (by simp [hy]))
  rw [MJ,Ji,Int.natCast_add,Int.mul_add];omega
theorem qK(n:Int)(hn:n≤8)(k:Nat)(hk:k≤4)(g:AL→Bool):((Aj n k).filter g).length≤10000∧DC ((Aj n k).filter g)≤40000:=by
 have h1:=Sa n hn k hk;have h2:=ry g (Aj n k)
 have h3:=qJ 4 ((Aj n k).filter g) (fun x hx=>by
  have:=((Hr n 8 hn k).1 x (Qj.1 hx).1).1
  omega)
 omega
end Go.Proofs.YtjhjkfoabhplfaaGreat
