/- Lists that do not decrease, and what is taken out of them. Conditions: those in each lemma. -/
import Derived.Test.YtjhjkfoabhplfaaGreatL6
import Derived.Test.YtjhjkfoabhplfaaGreatEsA
import Derived.Test.YtjhjkfoabhplfaaGreatCut
namespace Go.Proofs.YtjhjkfoabhplfaaGreat
open Go Dv
set_option linter.unusedSimpArgs false
set_option linter.unusedVariables false
set_option maxRecDepth 100000
theorem XH{α:Type}(l:List α)(i:Nat)(hi:i<l.length):l.take (i+1)=l.take i++[l[i]]:=by rw [List.take_add_one,Fz hi];rfl
def ext(x:AA)(fr n:Int):AL:=(List.range (n-fr).toNat).map fun j:Nat=>x++[fr+(j:Int)]
def CW(x:AA):Int:=if 0<x.length then x.getD (x.length-1) default else 0
def AY(n:Int):Nat→AL
 |0=>[[]]
 |k+1=>(AY n k).flatMap fun x=>ext x (CW x) n
theorem lC{x:AA}{fr n:Int}{c:Nat}(h0:0≤fr)(hn:n≤(c:Int)):(ext x fr n).length≤c:=by simp only [ext,R4,List.length_range];omega
theorem L6{x:AA}(h: ∀y∈x,0≤y):0≤CW x:=by
 unfold CW;split
 ·rw [AX _ _ (by omega)];exact h _ (FT _)
 ·omega
theorem WI{α β:Type}(f:α→List β)(c:Nat): ∀(l:List α),(∀x∈l,(f x).length≤c)→(l.flatMap f).length≤c*l.length
 | [],_=>by simp
 |x::l,h=>by
  rw [List.flatMap_cons,KU,JS,Nat.mul_add,Lu];have h1:=h x (by simp)
  have h2:=WI f c l (fun y hy=>h y (by simp [hy]))
  omega
theorem Fh(n:Int)(c:Nat)(hn:n≤(c:Int)): ∀k,(∀x∈AY n k,x.length=k∧ ∀y∈x,0≤y∧y<n)∧(AY n k).length≤c ^ k:=by
 intro k
 induction k with
 |zero=>simp [AY]
 |succ k ih=>
  obtain⟨h1,h2⟩:=ih;have h0: ∀x∈AY n k,0≤CW x:=fun x hx=>L6 fun y hy=>((h1 x hx).2 y hy).1
  refine⟨fun z hz=> ?_, ?_⟩
  ·simp only [AY,List.mem_flatMap,ext,Fq,Lt]at hz;obtain⟨x,hx,j,hj,rfl⟩:=hz;have:=h0 x hx
   refine⟨by simp [(h1 x hx).1],fun y hy=> ?_⟩
   rw [PW,UQ]at hy;rcases hy with hy|rfl
   ·exact(h1 x hx).2 y hy
   ·omega
  ·have:=WI (fun x=>ext x (CW x) n) c (AY n k) (fun x hx=>lC (h0 x hx) hn)
   show((AY n k).flatMap fun x=>ext x (CW x) n).length≤_
   rw [Nat.pow_succ,Nat.mul_comm];exact UU this (Nat.mul_le_mul (Io _) h2)
theorem Ur(labels size:Int)(out:AL)(k t:Int)(next:AL)(x:AA)(hx:out.getD t.toNat default=x)(ht:t.toNat<out.length)(fr:Int)(h0:0≤fr)(hl:labels≤255)(hxl:x.length<1000)(hn:next.length<5000000000):
  I4 labels size out k t (next,fr)=some (next++ext x fr labels):=by
 unfold I4;have key:=BD (fun v=>FB labels size out k t v.1 v.2) (fun i=>(next++(List.range i).map (fun j:Nat=>x++[fr+(j:Int)]),fr+(i:Int))) (labels-fr).toNat (next++ext x fr labels) ?_ ?_
 ·simpa using key
 ·intro i hi;have h1:x.length<1099511627776:=by omega
  have h1':0+x.length<1099511627776:=by omega
  have h2:x.length+1<1099511627776:=by omega
  have h3:(next++(List.range i).map (fun j:Nat=>x++[fr+(j:Int)])).length+1<1099511627776:=by simp;omega
  simp only [FB,hx];rw [if_pos (by omega)]
  simp only [Ao h1,Ao h2,Ao h3,Ao ht];rw [Db _ (by omega),YU,UR,←Tv,show fr+(i:Int)+1=fr+((i+1:Nat):Int) by omega]
  rfl
 ·simp only [FB];rw [if_neg (by omega)]
  rfl
theorem PT(labels size:Int)(out:AL)(k t:Int)(next:AL)(x:AA)(hx:out.getD t.toNat default=x)(ht:t.toNat<out.length)(fr:Int)(h0:0≤fr)(hl:labels≤255)(hxl:x.length<1000)(hn:next.length<5000000000):
  I8 labels size out k t (next,fr)=some (next++ext x fr labels):=by
 unfold I8;have key:=BD (fun v=>FK labels size out k t v.1 v.2) (fun i=>(next++(List.range i).map (fun j:Nat=>x++[fr+(j:Int)]),fr+(i:Int))) (labels-fr).toNat (next++ext x fr labels) ?_ ?_
 ·simpa using key
 ·intro i hi;have h1:x.length<1099511627776:=by omega
  have h1':0+x.length<1099511627776:=by omega
  have h2:x.length+1<1099511627776:=by omega
  have h3:(next++(List.range i).map (fun j:Nat=>x++[fr+(j:Int)])).length+1<1099511627776:=by simp;omega
  simp only [FK,NL,hx];rw [if_pos (by omega)]
  simp only [Ao h1',Ao h2,Ao h3,Bl];rw [Db _ (by omega),YU,UR,←Tv,show fr+(i:Int)+1=fr+((i+1:Nat):Int) by omega]
  rfl
 ·simp only [FK];rw [if_neg (by omega)]
  rfl
theorem AFK(labels size:Int)(out:AL)(t:Int)(k:Nat)(hl:labels≤255)(hx: ∀x∈out,x.length=k∧ ∀y∈x,0≤y∧y<labels)(hk:k≤10)(ho:out.length≤17000000):
  Jo labels size out t ([],0)=some (out.flatMap fun x=>ext x (CW x) labels):=by
 have hlast: ∀x∈out,0≤CW x:=fun x h=>L6 fun y hy=>((hx x h).2 y hy).1;unfold Jo;refine BD (fun v=>FC labels size out t v.1 v.2) (fun i=>((out.take i).flatMap fun x=>ext x (CW x) labels,(i:Int))) out.length _ ?_ ?_
 ·intro i hi;have hg:out.getD ((i:Nat):Int).toNat default=out[i]:=by rw [H5];exact AX _ _ hi
  have hm:=FT hi;have h1:=hx _ hm;have h2:=hlast _ hm
  have h3:((out.take i).flatMap fun x=>ext x (CW x) labels).length<5000000000:=by
   have:=WI (fun x=>ext x (CW x) labels) 255 (out.take i) (fun x h=>lC (hlast x (List.mem_of_mem_take h)) hl)
   have h4:(out.take i).length≤out.length:=by rw [KV];omega
   omega
  have e:=Ur labels size out t (i:Int) ((out.take i).flatMap fun x=>ext x (CW x) labels) out[i] hg (by omega) (CW out[i]) h2 hl (by omega) h3
  have e2:(out.take (i+1)).flatMap (fun x=>ext x (CW x) labels)=((out.take i).flatMap fun x=>ext x (CW x) labels)++ext out[i] (CW out[i]) labels:=by
   rw [XH _ _ hi,List.flatMap_append,List.flatMap_singleton]
  simp only [FC,hg];rw [if_pos (BZ hi),Ao (by omega),e2]
  by_cases hp:0<out[i].length
  ·have e3:CW out[i]=out[i].getD (out[i].length-1) default:=if_pos hp;rw [if_pos (by omega),Db _ (by omega),Ao (by omega),show((out[i].length:Int)-1).toNat=out[i].length-1 by omega,←e3,e,Bl,H9 i (by omega)]
  ·have e3:CW out[i]=0:=if_neg hp;rw [if_neg (by omega)]
   rw [e3]at e;rw [e,e3,Bl,H9 i (by omega)]
 ·simp only [FC];rw [if_neg (Ae _),Lr]
theorem AFL(labels size:Int)(out:AL)(k:Nat)(hl:labels≤255)(hx: ∀x∈out,x.length=k∧ ∀y∈x,0≤y∧y<labels)(hk:k≤10)(ho:out.length≤17000000):
  Jq labels size out (k:Int) ([],0)=some (out.flatMap fun x=>ext x (CW x) labels):=by
 have hlast: ∀x∈out,0≤CW x:=fun x h=>L6 fun y hy=>((hx x h).2 y hy).1;unfold Jq;refine BD (fun v=>FM labels size out (k:Int) v.1 v.2) (fun i=>((out.take i).flatMap fun x=>ext x (CW x) labels,(i:Int))) out.length _ ?_ ?_
 ·intro i hi;have hg:out.getD ((i:Nat):Int).toNat default=out[i]:=by rw [H5];exact AX _ _ hi
  have hm:=FT hi;have h1:=hx _ hm;have h2:=hlast _ hm
  have h3:((out.take i).flatMap fun x=>ext x (CW x) labels).length<5000000000:=by
   have:=WI (fun x=>ext x (CW x) labels) 255 (out.take i) (fun x h=>lC (hlast x (List.mem_of_mem_take h)) hl)
   have h4:(out.take i).length≤out.length:=by rw [KV];omega
   omega
  have e2:(out.take (i+1)).flatMap (fun x=>ext x (CW x) labels)=((out.take i).flatMap fun x=>ext x (CW x) labels)++ext out[i] (CW out[i]) labels:=by
   rw [XH _ _ hi,List.flatMap_append,List.flatMap_singleton]
  simp only [FM,hg];rw [if_pos (BZ hi),Ao (by omega),e2]
  by_cases hp:0<out[i].length
  ·have e:=PT labels size out (k:Int) (i:Int) ((out.take i).flatMap fun x=>ext x (CW x) labels) out[i] hg (by omega) (CW out[i]) h2 hl (by omega) h3
   have e3:CW out[i]=out[i].getD (out[i].length-1) default:=if_pos hp;rw [if_pos (by omega),Db _ (by omega),Ao (by omega),show((k:Int)-1).toNat=out[i].length-1 by omega,←e3,e,Bl,H9 i (by omega)]
  ·have e:=PT labels size out (k:Int) (i:Int) ((out.take i).flatMap fun x=>ext x (CW x) labels) out[i] hg (by omega) (CW out[i]) h2 hl (by omega) h3
   have e3:CW out[i]=0:=if_neg hp;rw [if_neg (by omega)]
   rw [e3]at e;rw [e,e3,Bl,H9 i (by omega)]
 ·simp only [FM];rw [if_neg (Ae _),Lr]
theorem aV(n:Int)(hn:n≤255)(k:Nat)(hk:k≤3):(AY n k).length≤17000000:=by
 have h:=(Fh n 255 hn k).2;have:255 ^ k≤255 ^ 3:=qJ (by omega) hk
 omega
theorem TP(n:Int)(hn:n≤8)(k:Nat)(hk:k≤4):(AY n k).length≤10000:=by
 have h:=(Fh n 8 hn k).2;have:8 ^ k≤8 ^ 4:=qJ (by omega) hk
 omega
theorem TQ(n size:Int)(hn:n≤255)(hs:0≤size∧size≤4):Lg n size=some (AY n size.toNat):=by
 unfold Lg MO;have key:=BD (fun v=>FD n size v.1 v.2) (fun i=>(AY n i,(i:Int))) size.toNat (AY n size.toNat) ?_ ?_
 ·have e:((0:Nat):Int)=0:=rfl;simp only [e]at key;rw [show(([[]],0):AL×Int)=(AY n 0,0)from rfl,key];rfl
 ·intro i hi;simp only [FD];rw [if_pos (by omega),AFK n size _ _ i hn (Fh n 255 hn i).1 (by omega) (aV n hn i (by omega)),Bl,H9 i (by omega)]
  rfl
 ·simp only [FD];rw [if_neg (by omega)]
theorem TR(n size:Int)(hn:n≤255)(hs:0≤size∧size≤4):IR n size=some (AY n size.toNat):=by
 unfold IR MS;have key:=BD (fun v=>FN n size v.1 v.2) (fun i=>(AY n i,(i:Int))) size.toNat (AY n size.toNat) ?_ ?_
 ·have e:((0:Nat):Int)=0:=rfl;simp only [e]at key;rw [show(([[]],0):AL×Int)=(AY n 0,0)from rfl,key];rfl
 ·intro i hi;simp only [FN];rw [if_pos (by omega),AFL n size _ i hn (Fh n 255 hn i).1 (by omega) (aV n hn i (by omega)),Bl,H9 i (by omega)]
  rfl
 ·simp only [FN];rw [if_neg (by omega)]
theorem AFM(s:AL)(f:AA→Option Bool)(p:AA→Bool)(hs:s.length<1099511627776)(hf: ∀x∈s,f x=some (p x)):
  (BS s f=some (-1)∧ ∀x∈s,p x=false)∨ ∃m:Nat,BS s f=some (m:Int)∧m<s.length∧(∀(h:m<s.length),p s[m]=true)∧ ∀j (h:j<s.length),j<m→p s[j]=false:=by
 have step: ∀i (hi:i<s.length),Aj s f (i:Int)=if p s[i]=true then some (.inr (.inl (i:Int)))else some (.inl ((i+1:Nat):Int)):=by
  intro i hi;simp only [Aj,H5];rw [if_pos (BZ hi),Ao (by omega),AX _ _ hi,hf _ (FT hi),Bl,H9 i (by omega)]
 have Du:Aj s f (s.length:Int)=some (.inr (.inr ())):=by
  simp only [Aj];rw [if_neg (Ae _)]
 by_cases hp: ∀i,i<s.length→(!p (s.getD i default))=true
 ·left
  have hp': ∀i (hi:i<s.length),p s[i]=false:=fun i hi=>by have:=hp i hi;rw [AX _ _ hi]at this;simpa using this
  have:=BD (fun v=>Aj s f v) (fun i=>(i:Int)) s.length (.inr ()) (fun i hi=>by rw [step i hi,hp' i hi];rfl) Du
  refine⟨?_,fun x hx=> ?_⟩
  ·unfold BS Bq;have e:((0:Nat):Int)=0:=rfl;simp only [e]at this;rw [this];rfl
  ·obtain⟨i,hi,rfl⟩:=UO hx;exact hp' i hi
 ·right
  obtain⟨m,h1,h2,h3⟩:=RH hp;have h2':p s[m]=true:=by rw [AX _ _ h1]at h2;simpa using h2
  have h3': ∀j (h:j<s.length),j<m→p s[j]=false:=fun j hj hjm=>by have:=h3 j hjm;rw [AX _ _ hj]at this;simpa using this
  have:=BD (fun v=>Aj s f v) (fun i=>(i:Int)) m (.inl (m:Int)) (fun i hi=>by rw [step i (by omega),h3' i (by omega) hi];rfl) (by rw [step m h1,h2'];rfl)
  refine⟨m, ?_,h1,fun _=>h2',h3'⟩
  unfold BS Bq;have e:((0:Nat):Int)=0:=rfl;simp only [e]at this;rw [this];rfl
theorem fO{p:AA→Bool}(s:AL)(J:Nat)(h:J<s.length):(s.take (J+1)).filter p=if p s[J]=true then(s.take J).filter p++[s[J]]else(s.take J).filter p:=by
 rw [XH _ _ h,lM]
 cases hp:p s[J]<;>simp [hp]
theorem A1l(s:AL)(f:AA→Option Bool)(p:AA→Bool)(hs:s.length<1099511627776)(hf: ∀x∈s,f x=some (p x))(m:Nat)(hm:m<s.length)(hpm:p s[m]=true)(hlt: ∀j (h:j<s.length),j<m→p s[j]=false):
  ∃t,CX f ((m:Int),IntKind.i64.wrap ((m:Int)+1),s.map some)=some ((((s.filter fun x=> !p x).length:Nat):Int),t)∧t.length=s.length∧(s.filter fun x=> !p x).length≤s.length∧ ∀k,k<(s.filter fun x=> !p x).length→t[k]? =((s.filter fun x=> !p x)[k]?).map some:=by
 have h0: ∀J,J≤m→(s.take J).filter (fun x=> !p x)=s.take J:=by
  intro J hJ;rw [List.filter_eq_self];intro x hx;obtain⟨i,hi,rfl⟩:=UO hx;rw [KV]at hi;rw [List.getElem_take,hlt i (by omega) (by omega)];rfl
 have key:=JV (fun v=>BL f v.1 v.2.1 v.2.2)
  (fun n (v:Int×Int×List (Option AA))=> ∃J:Nat,n=s.length-J∧J≤s.length∧v.2.1=(J:Int)∧v.1=((((s.take J).filter fun x=> !p x).length:Nat):Int)∧((s.take J).filter fun x=> !p x).length<J∧v.2.2.length=s.length∧
   (∀k,k<((s.take J).filter fun x=> !p x).length→v.2.2[k]? =(((s.take J).filter fun x=> !p x)[k]?).map some)∧ ∀k,J≤k→v.2.2[k]? =(s[k]?).map some)
  (fun r:Int×List (Option AA)=>r.1=(((s.filter fun x=> !p x).length:Nat):Int)∧r.2.length=s.length∧ ∀k,k<(s.filter fun x=> !p x).length→r.2[k]? =((s.filter fun x=> !p x)[k]?).map some)
  ?_ (s.length-(m+1)) ((m:Int),IntKind.i64.wrap ((m:Int)+1),s.map some) ?_
 ·obtain⟨⟨a,t⟩,h1,h2,h3,h4⟩:=key;simp only at h2 h3 h4;subst h2
  exact⟨t,h1,h3,qF _ _,h4⟩
 ·rintro n ⟨i,j,t⟩ ⟨J,hn,hJ,hj,hi,hlt',hlen,hA,hB⟩
  simp only at hj hi hlen hA hB;subst hj hi;generalize hK:(s.take J).filter (fun x=> !p x)=K at*;by_cases hJs:J<s.length
  ·left
   have hgJ:t.getD J default=some s[J]:=by
    rw [Lp,hB J (Io _),Fz hJs];rfl
   have hnext:=fO (p:=fun x=> !p x) s J hJs;rw [hK]at hnext;simp only [BL,H5,hgJ];rw [if_pos (by omega),Ao (by omega),Ao (by rfl),YT,hf _ (FT hJs),Bl]
   by_cases hpJ:p s[J]=true
   ·rw [if_pos hpJ,H9 J (by omega)]
    rw [hpJ]at hnext
    refine⟨_,s.length-(J+1),rfl,by omega,J+1,rfl,by omega,rfl, ?_⟩
    rw [hnext]
    exact⟨rfl,by simp;omega,hlen,hA,fun k hk=>hB k (by omega)⟩
   ·rw [if_neg hpJ,Ao (by omega),H9 J (by omega),H9 K.length (by omega)]
    have hpf:p s[J]=false:=by simpa using hpJ
    rw [hpf]at hnext;simp only [Bool.not_false,if_true]at hnext
    refine⟨_,s.length-(J+1),rfl,by omega,J+1,rfl,by omega,rfl, ?_⟩
    rw [hnext]
    refine⟨by simp,by simp;omega,by simp [hlen],fun k hk=> ?_,fun k hk=> ?_⟩
    ·simp only;rw [KU,qE]at hk;by_cases hkK:k=K.length
     ·subst hkK;rw [List.getElem?_set_self (by simp;omega),Ro (Io _),Xp];rfl
     ·rw [vO (by omega),vO (by omega),hA k (by omega),QJ (by omega)]
    ·simp only;rw [vO (by omega),vO (by omega)]
     exact hB k (by omega)
  ·right
   have hJe:J=s.length:=by omega
   subst hJe;rw [Lr]at hK;subst hK
   refine⟨((((s.filter fun x=> !p x).length:Nat):Int),t), ?_,rfl,hlen,hA⟩
   simp only [BL];rw [if_neg (by omega)]
 ·refine⟨m+1,rfl,by omega,H9 m (by omega), ?_⟩
  have e:=fO (p:=fun x=> !p x) s m hm;rw [hpm,h0 m (Io _)]at e;simp only [Bool.not_true,O5,if_false]at e;rw [e];have el:(s.take m).length=m:=by rw [KV];omega
  rw [el]
  refine⟨rfl,by omega,by simp,fun k hk=> ?_,fun k hk=> ?_⟩
  ·simp only;rw [OJ,UN hk]
  ·simp only;rw [OJ]
theorem A95(s:AL)(f:AA→Option Bool)(p:AA→Bool)(hs:s.length<1099511627776)(hf: ∀x∈s,f x=some (p x)):C8 s f=some (s.filter fun x=> !p x):=by
 unfold C8;rcases AFM s f p hs hf with⟨h1,h2⟩|⟨m,h1,h2,h3,h4⟩
 ·rw [h1,Bl,if_pos rfl]
  congr 1
  symm
  rw [List.filter_eq_self];intro x hx;rw [h2 x hx];rfl
 ·rw [h1,Bl,if_neg (by omega)]
  obtain⟨t,e1,e2,e3,e4⟩:=A1l s f p hs hf m h2 (h3 h2) h4;rw [e1,Bl];generalize hK:(s.filter fun x=> !p x)=K at*;simp only [H5];have hr:((List.replicate (t.length-K.length) ([]:AA)).map some).length=t.length-K.length:=by simp
  have hsp:=A01 ((List.replicate (t.length-K.length) ([]:AA)).map some) t K.length (by omega)
  have htk:(sI t K.length ((List.replicate (t.length-K.length) ([]:AA)).map some)).take K.length=K.map some:=by
   rw [hsp,List.take_append_of_le_length (by rw [KV];omega),List.take_take,Nat.min_self]
   refine List.ext_getElem? fun k=> ?_;rw [OJ];by_cases hk:k<K.length
   ·rw [UN hk,e4 k hk]
   ·rw [List.getElem?_eq_none (by rw [KV];omega),List.getElem?_eq_none (by omega)];rfl
  have hln:K.length≤(sI t K.length ((List.replicate (t.length-K.length) ([]:AA)).map some)).length:=by
   rw [hsp,KU,KV];omega
  rw [Ao (by omega),Ao (by omega),Ao (by omega),Ao hln,Ao (by rw [htk];simp),htk]
  simp [Function.comp_def]
theorem uC(n size:Int)(good:AA→Option Bool)(g:AA→Bool)(hn:n≤8)(hs:0≤size∧size≤4)(hg: ∀x∈AY n size.toNat,good x=some (g x)):GZ n size good=some ((AY n size.toNat).filter g):=by
 unfold GZ;rw [TQ n size (by omega) hs,Bl,A95 _ _ (fun x=> !g x) (by have:=TP n hn size.toNat (by omega);omega) (fun x hx=>by unfold Kt;rw [hg x hx];rfl),Bl]
 simp only [Bool.not_not]
theorem lD(c:Int): ∀(l:AL),(∀x∈l,(x.length:Int)≤c)→Bi l≤c*l.length
 | [],_=>by simp [VY]
 |x::l,h=>by
  have h1:=h x (by simp)
  have h2:=lD c l (fun y hy=>h y (by simp [hy]))
  rw [M9,JS,Int.natCast_add,Int.mul_add];omega
theorem aW(n:Int)(hn:n≤8)(k:Nat)(hk:k≤4)(g:AA→Bool):((AY n k).filter g).length≤10000∧Bi ((AY n k).filter g)≤40000:=by
 have h1:=TP n hn k hk;have h2:=qF g (AY n k)
 have h3:=lD 4 ((AY n k).filter g) (fun x hx=>by
  have:=((Fh n 8 hn k).1 x (QD.1 hx).1).1
  omega)
 omega
end Go.Proofs.YtjhjkfoabhplfaaGreat
