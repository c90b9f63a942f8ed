/- Lists that do not decrease, and what is taken out of them. Conditions: those in each lemma. -/
import Derived.Test.YtjhjkfoabhplfaaGreatL6
import Derived.Test.YtjhjkfoabhplfaaGreatEsA
import Derived.Test.YtjhjkfoabhplfaaGreatCut
namespace Go.Proofs.YtjhjkfoabhplfaaGreat
open Go Dv
set_option linter.unusedSimpArgs false
set_option linter.unusedVariables false
set_option maxRecDepth 100000
theorem VT{α:Type}(l:List α)(i:Nat)(hi:i<l.length):l.take (i+1)=l.take i++[l[i]]:=by rw [List.take_add_one,FV hi];rfl
def ext(x:List Int)(fr n:Int):List (List Int):=(List.range (n-fr).toNat).map fun j:Nat=>x++[fr+(j:Int)]
def CU(x:List Int):Int:=if 0<x.length then x.getD (x.length-1) default else 0
def AZ(n:Int):Nat→List (List Int)
 | 0=>[[]]
 | k+1=>(AZ n k).flatMap fun x=>ext x (CU x) n
theorem gF{x:List Int}{fr n:Int}{c:Nat}(h0:0≤fr)(hn:n≤(c:Int)):(ext x fr n).length≤c:=by simp only [ext,S9,List.length_range];omega
theorem KO{x:List Int}(h: ∀y∈x,0≤y):0≤CU x:=by
 unfold CU;split
 ·rw [AV _ _ (by omega)];exact h _ (FE _)
 ·omega
theorem Ud{α β:Type}(f:α→List β)(c:Nat): ∀(l:List α),(∀x∈l,(f x).length≤c)→(l.flatMap f).length≤c*l.length
 | [],_=>by simp
 | x::l,h=>by
  rw [List.flatMap_cons,Jq,Ik,Nat.mul_add,Ky];have h1:=h x (by simp)
  have h2:=Ud f c l (fun y hy=>h y (by simp [hy]))
  omega
theorem GM(n:Int)(c:Nat)(hn:n≤(c:Int)): ∀k,(∀x∈AZ n k,x.length=k∧ ∀y∈x,0≤y∧y<n)∧(AZ n k).length≤c ^ k:=by
 intro k
 induction k with
 | zero=>simp [AZ]
 | succ k ih=>
  obtain⟨h1,h2⟩:=ih;have h0: ∀x∈AZ n k,0≤CU x:=fun x hx=>KO fun y hy=>((h1 x hx).2 y hy).1
  refine⟨fun z hz=> ?_, ?_⟩
  ·simp only [AZ,List.mem_flatMap,ext,GV,Mx]at hz;obtain⟨x,hx,j,hj,rfl⟩:=hz;have:=h0 x hx
   refine⟨by simp [(h1 x hx).1],fun y hy=> ?_⟩
   rw [OB,TR]at hy;rcases hy with hy | rfl
   ·exact(h1 x hx).2 y hy
   ·omega
  ·have:=Ud (fun x=>ext x (CU x) n) c (AZ n k) (fun x hx=>gF (h0 x hx) hn)
   show((AZ n k).flatMap fun x=>ext x (CU x) n).length≤_
   rw [Nat.pow_succ,Nat.mul_comm];exact Sl this (Nat.mul_le_mul (IB _) h2)
theorem TL(labels size:Int)(out:List (List Int))(k t:Int)(next:List (List Int))(x:List Int)(hx:out.getD t.toNat default=x)(ht:t.toNat<out.length)(fr:Int)(h0:0≤fr)(hl:labels≤255)(hxl:x.length<1000)(hn:next.length<5000000000):
  Gt labels size out k t (next,fr)=some (next++ext x fr labels):=by
 unfold Gt;have key:=BO (fun v=>Ev labels size out k t v.1 v.2) (fun i=>(next++(List.range i).map (fun j:Nat=>x++[fr+(j:Int)]),fr+(i:Int))) (labels-fr).toNat (next++ext x fr labels) ?_ ?_
 ·simpa using key
 ·intro i hi;have h1:x.length<1099511627776:=by omega
  have h1':0+x.length<1099511627776:=by omega
  have h2:x.length+1<1099511627776:=by omega
  have h3:(next++(List.range i).map (fun j:Nat=>x++[fr+(j:Int)])).length+1<1099511627776:=by simp;omega
  simp only [Ev,LH,hx];rw [if_pos (by omega)]
  simp only [Am h1,Am h1',Am h2,Am h3,Am ht,CO];rw [Dw _ (by omega),Yo,TT,←Ry,show fr+(i:Int)+1=fr+((i+1:Nat):Int) by omega]
  rfl
 ·simp only [Ev];rw [if_neg (by omega)]
  rfl
theorem O8(labels size:Int)(out:List (List Int))(k t:Int)(next:List (List Int))(x:List Int)(hx:out.getD t.toNat default=x)(ht:t.toNat<out.length)(fr:Int)(h0:0≤fr)(hl:labels≤255)(hxl:x.length<1000)(hn:next.length<5000000000):
  Gx labels size out k t (next,fr)=some (next++ext x fr labels):=by
 unfold Gx;have key:=BO (fun v=>F6 labels size out k t v.1 v.2) (fun i=>(next++(List.range i).map (fun j:Nat=>x++[fr+(j:Int)]),fr+(i:Int))) (labels-fr).toNat (next++ext x fr labels) ?_ ?_
 ·simpa using key
 ·intro i hi;have h1:x.length<1099511627776:=by omega
  have h1':0+x.length<1099511627776:=by omega
  have h2:x.length+1<1099511627776:=by omega
  have h3:(next++(List.range i).map (fun j:Nat=>x++[fr+(j:Int)])).length+1<1099511627776:=by simp;omega
  simp only [F6,LH,hx];rw [if_pos (by omega)]
  simp only [Am h1,Am h1',Am h2,Am h3,Am ht,CO];rw [Dw _ (by omega),Yo,TT,←Ry,show fr+(i:Int)+1=fr+((i+1:Nat):Int) by omega]
  rfl
 ·simp only [F6];rw [if_neg (by omega)]
  rfl
theorem ACW(labels size:Int)(out:List (List Int))(t:Int)(k:Nat)(hl:labels≤255)(hx: ∀x∈out,x.length=k∧ ∀y∈x,0≤y∧y<labels)(hk:k≤10)(ho:out.length≤17000000):
  JD labels size out t ([],0)=some (out.flatMap fun x=>ext x (CU x) labels):=by
 have hlast: ∀x∈out,0≤CU x:=fun x h=>KO fun y hy=>((hx x h).2 y hy).1;unfold JD;refine BO (fun v=>Ew labels size out t v.1 v.2) (fun i=>((out.take i).flatMap fun x=>ext x (CU x) labels,(i:Int))) out.length _ ?_ ?_
 ·intro i hi;have hg:out.getD ((i:Nat):Int).toNat default=out[i]:=by rw [IA];exact AV _ _ hi
  have hm:=FE hi;have h1:=hx _ hm;have h2:=hlast _ hm
  have h3:((out.take i).flatMap fun x=>ext x (CU x) labels).length<5000000000:=by
   have:=Ud (fun x=>ext x (CU x) labels) 255 (out.take i) (fun x h=>gF (hlast x (List.mem_of_mem_take h)) hl)
   have h4:(out.take i).length≤out.length:=by rw [Jr];omega
   omega
  have e:=TL labels size out t (i:Int) ((out.take i).flatMap fun x=>ext x (CU x) labels) out[i] hg (by omega) (CU out[i]) h2 hl (by omega) h3
  have e2:(out.take (i+1)).flatMap (fun x=>ext x (CU x) labels)=((out.take i).flatMap fun x=>ext x (CU x) labels)++ext out[i] (CU out[i]) labels:=by
   rw [VT _ _ hi,List.flatMap_append,List.flatMap_singleton]
  simp only [Ew,hg];rw [if_pos (Bi hi),Am (by omega),e2]
  by_cases hp:0<out[i].length
  ·have e3:CU out[i]=out[i].getD (out[i].length-1) default:=if_pos hp;rw [if_pos (by omega),Dw _ (by omega),Am (by omega),show((out[i].length:Int)-1).toNat=out[i].length-1 by omega,←e3,e,CO,IR i (by omega)]
  ·have e3:CU out[i]=0:=if_neg hp;rw [if_neg (by omega)]
   rw [e3]at e;rw [e,e3,CO,IR i (by omega)]
 ·simp only [Ew];rw [if_neg (Af _),LZ]
theorem ACX(labels size:Int)(out:List (List Int))(k:Nat)(hl:labels≤255)(hx: ∀x∈out,x.length=k∧ ∀y∈x,0≤y∧y<labels)(hk:k≤10)(ho:out.length≤17000000):
  JF labels size out (k:Int) ([],0)=some (out.flatMap fun x=>ext x (CU x) labels):=by
 have hlast: ∀x∈out,0≤CU x:=fun x h=>KO fun y hy=>((hx x h).2 y hy).1;unfold JF;refine BO (fun v=>F7 labels size out (k:Int) v.1 v.2) (fun i=>((out.take i).flatMap fun x=>ext x (CU x) labels,(i:Int))) out.length _ ?_ ?_
 ·intro i hi;have hg:out.getD ((i:Nat):Int).toNat default=out[i]:=by rw [IA];exact AV _ _ hi
  have hm:=FE hi;have h1:=hx _ hm;have h2:=hlast _ hm
  have h3:((out.take i).flatMap fun x=>ext x (CU x) labels).length<5000000000:=by
   have:=Ud (fun x=>ext x (CU x) labels) 255 (out.take i) (fun x h=>gF (hlast x (List.mem_of_mem_take h)) hl)
   have h4:(out.take i).length≤out.length:=by rw [Jr];omega
   omega
  have e2:(out.take (i+1)).flatMap (fun x=>ext x (CU x) labels)=((out.take i).flatMap fun x=>ext x (CU x) labels)++ext out[i] (CU out[i]) labels:=by
   rw [VT _ _ hi,List.flatMap_append,List.flatMap_singleton]
  simp only [F7,hg];rw [if_pos (Bi hi),Am (by omega),e2]
  by_cases hp:0<out[i].length
  ·have e:=O8 labels size out (k:Int) (i:Int) ((out.take i).flatMap fun x=>ext x (CU x) labels) out[i] hg (by omega) (CU out[i]) h2 hl (by omega) h3
   have e3:CU out[i]=out[i].getD (out[i].length-1) default:=if_pos hp;rw [if_pos (by omega),Dw _ (by omega),Am (by omega),show((k:Int)-1).toNat=out[i].length-1 by omega,←e3,e,CO,IR i (by omega)]
  ·have e:=O8 labels size out (k:Int) (i:Int) ((out.take i).flatMap fun x=>ext x (CU x) labels) out[i] hg (by omega) (CU out[i]) h2 hl (by omega) h3
   have e3:CU out[i]=0:=if_neg hp;rw [if_neg (by omega)]
   rw [e3]at e;rw [e,e3,CO,IR i (by omega)]
 ·simp only [F7];rw [if_neg (Af _),LZ]
theorem YS(n:Int)(hn:n≤255)(k:Nat)(hk:k≤3):(AZ n k).length≤17000000:=by
 have h:=(GM n 255 hn k).2;have:255 ^ k≤255 ^ 3:=qF (by omega) hk
 omega
theorem RQ(n:Int)(hn:n≤8)(k:Nat)(hk:k≤4):(AZ n k).length≤10000:=by
 have h:=(GM n 8 hn k).2;have:8 ^ k≤8 ^ 4:=qF (by omega) hk
 omega
theorem RS(n size:Int)(hn:n≤255)(hs:0≤size∧size≤4):Kr n size=some (AZ n size.toNat):=by
 unfold Kr LK;have key:=BO (fun v=>Ey n size v.1 v.2) (fun i=>(AZ n i,(i:Int))) size.toNat (AZ n size.toNat) ?_ ?_
 ·have e:((0:Nat):Int)=0:=rfl;simp only [e]at key;rw [show(([[]],0):List (List Int)×Int)=(AZ n 0,0)from rfl,key];rfl
 ·intro i hi;simp only [Ey];rw [if_pos (by omega),ACW n size _ _ i hn (GM n 255 hn i).1 (by omega) (YS n hn i (by omega)),CO,IR i (by omega)]
  rfl
 ·simp only [Ey];rw [if_neg (by omega)]
theorem RU(n size:Int)(hn:n≤255)(hs:0≤size∧size≤4):Hf n size=some (AZ n size.toNat):=by
 unfold Hf LU;have key:=BO (fun v=>F8 n size v.1 v.2) (fun i=>(AZ n i,(i:Int))) size.toNat (AZ n size.toNat) ?_ ?_
 ·have e:((0:Nat):Int)=0:=rfl;simp only [e]at key;rw [show(([[]],0):List (List Int)×Int)=(AZ n 0,0)from rfl,key];rfl
 ·intro i hi;simp only [F8];rw [if_pos (by omega),ACX n size _ i hn (GM n 255 hn i).1 (by omega) (YS n hn i (by omega)),CO,IR i (by omega)]
  rfl
 ·simp only [F8];rw [if_neg (by omega)]
theorem ACY(s:List (List Int))(f:List Int→Option Bool)(p:List Int→Bool)(hs:s.length<1099511627776)(hf: ∀x∈s,f x=some (p x)):
  (BM s f=some (-1)∧ ∀x∈s,p x=false)∨ ∃m:Nat,BM s f=some (m:Int)∧m<s.length∧(∀(h:m<s.length),p s[m]=true)∧ ∀j (h:j<s.length),j<m→p s[j]=false:=by
 have step: ∀i (hi:i<s.length),Ad s f (i:Int)=if p s[i]=true then some (.inr (.inl (i:Int)))else some (.inl ((i+1:Nat):Int)):=by
  intro i hi;simp only [Ad,IA];rw [if_pos (Bi hi),Am (by omega),AV _ _ hi,hf _ (FE hi),CO,IR i (by omega)]
 have Eh:Ad s f (s.length:Int)=some (.inr (.inr ())):=by
  simp only [Ad];rw [if_neg (Af _)]
 by_cases hp: ∀i,i<s.length→(!p (s.getD i default))=true
 ·left
  have hp': ∀i (hi:i<s.length),p s[i]=false:=fun i hi=>by have:=hp i hi;rw [AV _ _ hi]at this;simpa using this
  have:=BO (fun v=>Ad s f v) (fun i=>(i:Int)) s.length (.inr ()) (fun i hi=>by rw [step i hi,hp' i hi];rfl) Eh
  refine⟨?_,fun x hx=> ?_⟩
  ·unfold BM Bj;have e:((0:Nat):Int)=0:=rfl;simp only [e]at this;rw [this];rfl
  ·obtain⟨i,hi,rfl⟩:=Sj hx;exact hp' i hi
 ·right
  obtain⟨m,h1,h2,h3⟩:=Sw hp;have h2':p s[m]=true:=by rw [AV _ _ h1]at h2;simpa using h2
  have h3': ∀j (h:j<s.length),j<m→p s[j]=false:=fun j hj hjm=>by have:=h3 j hjm;rw [AV _ _ hj]at this;simpa using this
  have:=BO (fun v=>Ad s f v) (fun i=>(i:Int)) m (.inl (m:Int)) (fun i hi=>by rw [step i (by omega),h3' i (by omega) hi];rfl) (by rw [step m h1,h2'];rfl)
  refine⟨m, ?_,h1,fun _=>h2',h3'⟩
  unfold BM Bj;have e:((0:Nat):Int)=0:=rfl;simp only [e]at this;rw [this];rfl
theorem aH{p:List Int→Bool}(s:List (List Int))(J:Nat)(h:J<s.length):(s.take (J+1)).filter p=if p s[J]=true then(s.take J).filter p++[s[J]]else(s.take J).filter p:=by
 rw [VT _ _ h,ko]
 cases hp:p s[J]<;>simp [hp]
theorem yo(s:List (List Int))(f:List Int→Option Bool)(p:List Int→Bool)(hs:s.length<1099511627776)(hf: ∀x∈s,f x=some (p x))(m:Nat)(hm:m<s.length)(hpm:p s[m]=true)(hlt: ∀j (h:j<s.length),j<m→p s[j]=false):
  ∃t,CV f ((m:Int),IntKind.i64.wrap ((m:Int)+1),s.map some)=some ((((s.filter fun x=> !p x).length:Nat):Int),t)∧t.length=s.length∧(s.filter fun x=> !p x).length≤s.length∧ ∀k,k<(s.filter fun x=> !p x).length→t[k]? =((s.filter fun x=> !p x)[k]?).map some:=by
 have h0: ∀J,J≤m→(s.take J).filter (fun x=> !p x)=s.take J:=by
  intro J hJ;rw [List.filter_eq_self];intro x hx;obtain⟨i,hi,rfl⟩:=Sj hx;rw [Jr]at hi;rw [List.getElem_take,hlt i (by omega) (by omega)];rfl
 have key:=Im (fun v=>BF f v.1 v.2.1 v.2.2)
  (fun n (v:Int×Int×List (Option (List Int)))=> ∃J:Nat,n=s.length-J∧J≤s.length∧v.2.1=(J:Int)∧v.1=((((s.take J).filter fun x=> !p x).length:Nat):Int)∧((s.take J).filter fun x=> !p x).length<J∧v.2.2.length=s.length∧
   (∀k,k<((s.take J).filter fun x=> !p x).length→v.2.2[k]? =(((s.take J).filter fun x=> !p x)[k]?).map some)∧ ∀k,J≤k→v.2.2[k]? =(s[k]?).map some)
  (fun r:Int×List (Option (List Int))=>r.1=(((s.filter fun x=> !p x).length:Nat):Int)∧r.2.length=s.length∧ ∀k,k<(s.filter fun x=> !p x).length→r.2[k]? =((s.filter fun x=> !p x)[k]?).map some)
  ?_ (s.length-(m+1)) ((m:Int),IntKind.i64.wrap ((m:Int)+1),s.map some) ?_
 ·obtain⟨⟨a,t⟩,h1,h2,h3,h4⟩:=key;simp only at h2 h3 h4;subst h2
  exact⟨t,h1,h3,qC _ _,h4⟩
 ·rintro n ⟨i,j,t⟩ ⟨J,hn,hJ,hj,hi,hlt',hlen,hA,hB⟩
  simp only at hj hi hlen hA hB;subst hj hi;generalize hK:(s.take J).filter (fun x=> !p x)=K at*;by_cases hJs:J<s.length
  ·left
   have hgJ:t.getD J default=some s[J]:=by
    rw [Kw,hB J (IB _),FV hJs];rfl
   have hnext:=aH (p:=fun x=> !p x) s J hJs;rw [hK]at hnext;simp only [BF,IA,hgJ];rw [if_pos (by omega),Am (by omega),Am (by rfl),Wq,hf _ (FE hJs),CO]
   by_cases hpJ:p s[J]=true
   ·rw [if_pos hpJ,IR J (by omega)]
    rw [hpJ]at hnext
    refine⟨_,s.length-(J+1),rfl,by omega,J+1,rfl,by omega,rfl, ?_⟩
    rw [hnext]
    exact⟨rfl,by simp;omega,hlen,hA,fun k hk=>hB k (by omega)⟩
   ·rw [if_neg hpJ,Am (by omega),IR J (by omega),IR K.length (by omega)]
    have hpf:p s[J]=false:=by simpa using hpJ
    rw [hpf]at hnext;simp only [Bool.not_false,if_true]at hnext
    refine⟨_,s.length-(J+1),rfl,by omega,J+1,rfl,by omega,rfl, ?_⟩
    rw [hnext]
    refine⟨by simp,by simp;omega,by simp [hlen],fun k hk=> ?_,fun k hk=> ?_⟩
    ·simp only;rw [Jq,kW]at hk;by_cases hkK:k=K.length
     ·subst hkK;rw [List.getElem?_set_self (by simp;omega),QU (IB _),Vw];rfl
     ·rw [qD (by omega),qD (by omega),hA k (by omega),Oy (by omega)]
    ·simp only;rw [qD (by omega),qD (by omega)]
     exact hB k (by omega)
  ·right
   have hJe:J=s.length:=by omega
   subst hJe;rw [LZ]at hK;subst hK
   refine⟨((((s.filter fun x=> !p x).length:Nat):Int),t), ?_,rfl,hlen,hA⟩
   simp only [BF];rw [if_neg (by omega)]
 ·refine⟨m+1,rfl,by omega,IR m (by omega), ?_⟩
  have e:=aH (p:=fun x=> !p x) s m hm;rw [hpm,h0 m (IB _)]at e;simp only [Bool.not_true,Mw,if_false]at e;rw [e];have el:(s.take m).length=m:=by rw [Jr];omega
  rw [el]
  refine⟨rfl,by omega,by simp,fun k hk=> ?_,fun k hk=> ?_⟩
  ·simp only;rw [NE,Si hk]
  ·simp only;rw [NE]
theorem A6G(s:List (List Int))(f:List Int→Option Bool)(p:List Int→Bool)(hs:s.length<1099511627776)(hf: ∀x∈s,f x=some (p x)):Bv s f=some (s.filter fun x=> !p x):=by
 unfold Bv;rcases ACY s f p hs hf with⟨h1,h2⟩ | ⟨m,h1,h2,h3,h4⟩
 ·rw [h1,CO,if_pos rfl]
  congr 1
  symm
  rw [List.filter_eq_self];intro x hx;rw [h2 x hx];rfl
 ·rw [h1,CO,if_neg (by omega)]
  obtain⟨t,e1,e2,e3,e4⟩:=yo s f p hs hf m h2 (h3 h2) h4;rw [e1,CO];generalize hK:(s.filter fun x=> !p x)=K at*;simp only [IA];have hr:((List.replicate (t.length-K.length) ([]:List Int)).map some).length=t.length-K.length:=by simp
  have hsp:=wJ ((List.replicate (t.length-K.length) ([]:List Int)).map some) t K.length (by omega)
  have htk:(mf t K.length ((List.replicate (t.length-K.length) ([]:List Int)).map some)).take K.length=K.map some:=by
   rw [hsp,List.take_append_of_le_length (by rw [Jr];omega),List.take_take,Nat.min_self]
   refine List.ext_getElem? fun k=> ?_;rw [NE];by_cases hk:k<K.length
   ·rw [Si hk,e4 k hk]
   ·rw [List.getElem?_eq_none (by rw [Jr];omega),List.getElem?_eq_none (by omega)];rfl
  have hln:K.length≤(mf t K.length ((List.replicate (t.length-K.length) ([]:List Int)).map some)).length:=by
   rw [hsp,Jq,Jr];omega
  rw [Am (by omega),Am (by omega),Am (by omega),Am hln,Am (by rw [htk];simp),htk]
  simp [Function.comp_def]
theorem nW(n size:Int)(good:List Int→Option Bool)(g:List Int→Bool)(hn:n≤8)(hs:0≤size∧size≤4)(hg: ∀x∈AZ n size.toNat,good x=some (g x)):He n size good=some ((AZ n size.toNat).filter g):=by
 unfold He;rw [RS n size (by omega) hs,CO,A6G _ _ (fun x=> !g x) (by have:=RQ n hn size.toNat (by omega);omega) (fun x hx=>by unfold KH;rw [hg x hx];rfl),CO]
 simp only [Bool.not_not]
theorem nX(c:Int): ∀(l:List (List Int)),(∀x∈l,(x.length:Int)≤c)→Bz l≤c*l.length
 | [],_=>by simp [U9]
 | x::l,h=>by
  have h1:=h x (by simp)
  have h2:=nX c l (fun y hy=>h y (by simp [hy]))
  rw [LD,Ik,Int.natCast_add,Int.mul_add];omega
theorem nY(n:Int)(hn:n≤8)(k:Nat)(hk:k≤4)(g:List Int→Bool):((AZ n k).filter g).length≤10000∧Bz ((AZ n k).filter g)≤40000:=by
 have h1:=RQ n hn k hk;have h2:=qC g (AZ n k)
 have h3:=nX 4 ((AZ n k).filter g) (fun x hx=>by
  have:=((GM n 8 hn k).1 x (Px.1 hx).1).1
  omega)
 omega
end Go.Proofs.YtjhjkfoabhplfaaGreat
