/- Lists that do not decrease, and what is taken out of them. Conditions: those in each lemma. -/
import Derived.Test.YtjhjkfoabhplfaaGreatL6
import Derived.Test.YtjhjkfoabhplfaaGreatEsA
import Derived.Test.YtjhjkfoabhplfaaGreatCut
namespace Go.Proofs.YtjhjkfoabhplfaaGreat
open Go Dv
set_option linter.unusedSimpArgs false
set_option linter.unusedVariables false
set_option maxRecDepth 100000
theorem Sw{α:Type}(l:List α)(i:Nat)(hi:i<l.length):l.take (i+1)=l.take i++[l[i]]:=by rw [List.take_add_one,List.getElem?_eq_getElem hi];rfl
def ext(x:List Int)(fr n:Int):List (List Int):=(List.range (n-fr).toNat).map fun j:Nat=>x++[fr+(j:Int)]
def Cr(x:List Int):Int:=if 0<x.length then x.getD (x.length-1) default else 0
def BF(n:Int):Nat→List (List Int)
 | 0=>[[]]
 | k+1=>(BF n k).flatMap fun x=>ext x (Cr x) n
theorem aF{x:List Int}{fr n:Int}{c:Nat}(h0:0≤fr)(hn:n≤(c:Int)):(ext x fr n).length≤c:=by simp only [ext,List.length_map,List.length_range];omega
theorem Mr{x:List Int}(h: ∀y∈x,0≤y):0≤Cr x:=by
 unfold Cr;split
 ·rw [Ae _ _ (by omega)];exact h _ (List.getElem_mem _)
 ·omega
theorem Rl{α β:Type}(f:α→List β)(c:Nat): ∀(l:List α),(∀x∈l,(f x).length≤c)→(l.flatMap f).length≤c*l.length
 | [],_=>by simp
 | x::l,h=>by
  rw [List.flatMap_cons,List.length_append,List.length_cons,Nat.mul_add,Nat.mul_one];have h1:=h x (by simp)
  have h2:=Rl f c l (fun y hy=>h y (by simp [hy]))
  omega
theorem I4(n:Int)(c:Nat)(hn:n≤(c:Int)): ∀k,(∀x∈BF n k,x.length=k∧ ∀y∈x,0≤y∧y<n)∧(BF n k).length≤c ^ k:=by
 intro k
 induction k with
 | zero=>simp [BF]
 | succ k ih=>
  obtain⟨h1,h2⟩:=ih;have h0: ∀x∈BF n k,0≤Cr x:=fun x hx=>Mr fun y hy=>((h1 x hx).2 y hy).1
  refine⟨fun z hz=> ?_, ?_⟩
  ·simp only [BF,List.mem_flatMap,ext,List.mem_map,List.mem_range]at hz;obtain⟨x,hx,j,hj,rfl⟩:=hz;have:=h0 x hx
   refine⟨by simp [(h1 x hx).1],fun y hy=> ?_⟩
   rw [List.mem_append,List.mem_singleton]at hy;rcases hy with hy | rfl
   ·exact(h1 x hx).2 y hy
   ·omega
  ·have:=Rl (fun x=>ext x (Cr x) n) c (BF n k) (fun x hx=>aF (h0 x hx) hn)
   show((BF n k).flatMap fun x=>ext x (Cr x) n).length≤_
   rw [Nat.pow_succ,Nat.mul_comm];exact Nat.le_trans this (Nat.mul_le_mul (Nat.le_refl _) h2)
theorem QL(labels size:Int)(out:List (List Int))(k t:Int)(next:List (List Int))(x:List Int)(hx:out.getD t.toNat default=x)(ht:t.toNat<out.length)(fr:Int)(h0:0≤fr)(hl:labels≤255)(hxl:x.length<1000)(hn:next.length<5000000000):
  GA labels size out k t (next,fr)=some (next++ext x fr labels):=by
 unfold GA;have key:=Be (fun v=>EN labels size out k t v.1 v.2) (fun i=>(next++(List.range i).map (fun j:Nat=>x++[fr+(j:Int)]),fr+(i:Int))) (labels-fr).toNat (next++ext x fr labels) ?_ ?_
 ·simpa using key
 ·intro i hi;have h1:x.length<1099511627776:=by omega
  have h1':0+x.length<1099511627776:=by omega
  have h2:x.length+1<1099511627776:=by omega
  have h3:(next++(List.range i).map (fun j:Nat=>x++[fr+(j:Int)])).length+1<1099511627776:=by simp;omega
  simp only [EN,Jb,hx];rw [if_pos (by omega)]
  simp only [Az h1,Az h1',Az h2,Az h3,Az ht,Option.bind_some];rw [Ie _ (by omega),List.range_succ,List.map_append,←List.append_assoc,show fr+(i:Int)+1=fr+((i+1:Nat):Int) by omega]
  rfl
 ·simp only [EN];rw [if_neg (by omega)]
  rfl
theorem QM(labels size:Int)(out:List (List Int))(k t:Int)(next:List (List Int))(x:List Int)(hx:out.getD t.toNat default=x)(ht:t.toNat<out.length)(fr:Int)(h0:0≤fr)(hl:labels≤255)(hxl:x.length<1000)(hn:next.length<5000000000):
  Hz labels size out k t (next,fr)=some (next++ext x fr labels):=by
 unfold Hz;have key:=Be (fun v=>EU labels size out k t v.1 v.2) (fun i=>(next++(List.range i).map (fun j:Nat=>x++[fr+(j:Int)]),fr+(i:Int))) (labels-fr).toNat (next++ext x fr labels) ?_ ?_
 ·simpa using key
 ·intro i hi;have h1:x.length<1099511627776:=by omega
  have h1':0+x.length<1099511627776:=by omega
  have h2:x.length+1<1099511627776:=by omega
  have h3:(next++(List.range i).map (fun j:Nat=>x++[fr+(j:Int)])).length+1<1099511627776:=by simp;omega
  simp only [EU,Jb,hx];rw [if_pos (by omega)]
  simp only [Az h1,Az h1',Az h2,Az h3,Az ht,Option.bind_some];rw [Ie _ (by omega),List.range_succ,List.map_append,←List.append_assoc,show fr+(i:Int)+1=fr+((i+1:Nat):Int) by omega]
  rfl
 ·simp only [EU];rw [if_neg (by omega)]
  rfl
theorem OO(labels size:Int)(out:List (List Int))(k t:Int)(next:List (List Int))(x:List Int)(hx:out.getD t.toNat default=x)(ht:t.toNat<out.length)(fr:Int)(h0:0≤fr)(hl:labels≤255)(hxl:x.length<1000)(hn:next.length<5000000000):
  FB labels size out k t (next,fr)=some (next++ext x fr labels):=by
 unfold FB;have key:=Be (fun v=>DL labels size out k t v.1 v.2) (fun i=>(next++(List.range i).map (fun j:Nat=>x++[fr+(j:Int)]),fr+(i:Int))) (labels-fr).toNat (next++ext x fr labels) ?_ ?_
 ·simpa using key
 ·intro i hi;have h1:x.length<1099511627776:=by omega
  have h1':0+x.length<1099511627776:=by omega
  have h2:x.length+1<1099511627776:=by omega
  have h3:(next++(List.range i).map (fun j:Nat=>x++[fr+(j:Int)])).length+1<1099511627776:=by simp;omega
  simp only [DL,Jb,hx];rw [if_pos (by omega)]
  simp only [Az h1,Az h1',Az h2,Az h3,Az ht,Option.bind_some];rw [Ie _ (by omega),List.range_succ,List.map_append,←List.append_assoc,show fr+(i:Int)+1=fr+((i+1:Nat):Int) by omega]
  rfl
 ·simp only [DL];rw [if_neg (by omega)]
  rfl
theorem AC8(labels size:Int)(out:List (List Int))(t:Int)(k:Nat)(hl:labels≤255)(hx: ∀x∈out,x.length=k∧ ∀y∈x,0≤y∧y<labels)(hk:k≤10)(ho:out.length≤17000000):
  Hw labels size out t ([],0)=some (out.flatMap fun x=>ext x (Cr x) labels):=by
 have hlast: ∀x∈out,0≤Cr x:=fun x h=>Mr fun y hy=>((hx x h).2 y hy).1;unfold Hw;refine Be (fun v=>EO labels size out t v.1 v.2) (fun i=>((out.take i).flatMap fun x=>ext x (Cr x) labels,(i:Int))) out.length _ ?_ ?_
 ·intro i hi;have hg:out.getD ((i:Nat):Int).toNat default=out[i]:=by rw [Int.toNat_natCast];exact Ae _ _ hi
  have hm:=List.getElem_mem hi;have h1:=hx _ hm;have h2:=hlast _ hm
  have h3:((out.take i).flatMap fun x=>ext x (Cr x) labels).length<5000000000:=by
   have:=Rl (fun x=>ext x (Cr x) labels) 255 (out.take i) (fun x h=>aF (hlast x (List.mem_of_mem_take h)) hl)
   have h4:(out.take i).length≤out.length:=by rw [List.length_take];omega
   omega
  have e:=QL labels size out t (i:Int) ((out.take i).flatMap fun x=>ext x (Cr x) labels) out[i] hg (by omega) (Cr out[i]) h2 hl (by omega) h3
  have e2:(out.take (i+1)).flatMap (fun x=>ext x (Cr x) labels)=((out.take i).flatMap fun x=>ext x (Cr x) labels)++ext out[i] (Cr out[i]) labels:=by
   rw [Sw _ _ hi,List.flatMap_append,List.flatMap_singleton]
  simp only [EO,hg];rw [if_pos (CJ hi),Az (by omega),e2]
  by_cases hp:0<out[i].length
  ·have e3:Cr out[i]=out[i].getD (out[i].length-1) default:=if_pos hp;rw [if_pos (by omega),Ie _ (by omega),Az (by omega),show((out[i].length:Int)-1).toNat=out[i].length-1 by omega,←e3,e,Option.bind_some,JM i (by omega)]
  ·have e3:Cr out[i]=0:=if_neg hp;rw [if_neg (by omega)]
   rw [e3]at e;rw [e,e3,Option.bind_some,JM i (by omega)]
 ·simp only [EO];rw [if_neg (Ak _),List.take_length]
theorem AC9(labels size:Int)(out:List (List Int))(k:Nat)(hl:labels≤255)(hx: ∀x∈out,x.length=k∧ ∀y∈x,0≤y∧y<labels)(hk:k≤10)(ho:out.length≤17000000):
  I1 labels size out (k:Int) ([],0)=some (out.flatMap fun x=>ext x (Cr x) labels):=by
 have hlast: ∀x∈out,0≤Cr x:=fun x h=>Mr fun y hy=>((hx x h).2 y hy).1;unfold I1;refine Be (fun v=>EW labels size out (k:Int) v.1 v.2) (fun i=>((out.take i).flatMap fun x=>ext x (Cr x) labels,(i:Int))) out.length _ ?_ ?_
 ·intro i hi;have hg:out.getD ((i:Nat):Int).toNat default=out[i]:=by rw [Int.toNat_natCast];exact Ae _ _ hi
  have hm:=List.getElem_mem hi;have h1:=hx _ hm;have h2:=hlast _ hm
  have h3:((out.take i).flatMap fun x=>ext x (Cr x) labels).length<5000000000:=by
   have:=Rl (fun x=>ext x (Cr x) labels) 255 (out.take i) (fun x h=>aF (hlast x (List.mem_of_mem_take h)) hl)
   have h4:(out.take i).length≤out.length:=by rw [List.length_take];omega
   omega
  have e2:(out.take (i+1)).flatMap (fun x=>ext x (Cr x) labels)=((out.take i).flatMap fun x=>ext x (Cr x) labels)++ext out[i] (Cr out[i]) labels:=by
   rw [Sw _ _ hi,List.flatMap_append,List.flatMap_singleton]
  simp only [EW,hg];rw [if_pos (CJ hi),Az (by omega),e2]
  by_cases hp:0<out[i].length
  ·have e:=QM labels size out (k:Int) (i:Int) ((out.take i).flatMap fun x=>ext x (Cr x) labels) out[i] hg (by omega) (Cr out[i]) h2 hl (by omega) h3
   have e3:Cr out[i]=out[i].getD (out[i].length-1) default:=if_pos hp;rw [if_pos (by omega),Ie _ (by omega),Az (by omega),show((k:Int)-1).toNat=out[i].length-1 by omega,←e3,e,Option.bind_some,JM i (by omega)]
  ·have e:=OO labels size out (k:Int) (i:Int) ((out.take i).flatMap fun x=>ext x (Cr x) labels) out[i] hg (by omega) (Cr out[i]) h2 hl (by omega) h3
   have e3:Cr out[i]=0:=if_neg hp;rw [if_neg (by omega)]
   rw [e3]at e;rw [e,e3,Option.bind_some,JM i (by omega)]
 ·simp only [EW];rw [if_neg (Ak _),List.take_length]
theorem WL(n:Int)(hn:n≤255)(k:Nat)(hk:k≤3):(BF n k).length≤17000000:=by
 have h:=(I4 n 255 hn k).2;have:255 ^ k≤255 ^ 3:=Nat.pow_le_pow_right (by omega) hk
 omega
theorem PL(n:Int)(hn:n≤8)(k:Nat)(hk:k≤4):(BF n k).length≤10000:=by
 have h:=(I4 n 8 hn k).2;have:8 ^ k≤8 ^ 4:=Nat.pow_le_pow_right (by omega) hk
 omega
theorem WM(n size:Int)(hn:n≤255)(hs:0≤size∧size≤4):Km n size=some (BF n size.toNat):=by
 unfold Km Jg;have key:=Be (fun v=>EP n size v.1 v.2) (fun i=>(BF n i,(i:Int))) size.toNat (BF n size.toNat) ?_ ?_
 ·have e:((0:Nat):Int)=0:=rfl;simp only [e]at key;rw [show(([[]],0):List (List Int)×Int)=(BF n 0,0)from rfl,key];rfl
 ·intro i hi;simp only [EP];rw [if_pos (by omega),AC8 n size _ _ i hn (I4 n 255 hn i).1 (by omega) (WL n hn i (by omega)),Option.bind_some,JM i (by omega)]
  rfl
 ·simp only [EP];rw [if_neg (by omega)]
theorem WN(n size:Int)(hn:n≤255)(hs:0≤size∧size≤4):Ko n size=some (BF n size.toNat):=by
 unfold Ko Jk;have key:=Be (fun v=>EX n size v.1 v.2) (fun i=>(BF n i,(i:Int))) size.toNat (BF n size.toNat) ?_ ?_
 ·have e:((0:Nat):Int)=0:=rfl;simp only [e]at key;rw [show(([[]],0):List (List Int)×Int)=(BF n 0,0)from rfl,key];rfl
 ·intro i hi;simp only [EX];rw [if_pos (by omega),AC9 n size _ i hn (I4 n 255 hn i).1 (by omega) (WL n hn i (by omega)),Option.bind_some,JM i (by omega)]
  rfl
 ·simp only [EX];rw [if_neg (by omega)]
theorem ACA(s:List (List Int))(f:List Int→Option Bool)(p:List Int→Bool)(hs:s.length<1099511627776)(hf: ∀x∈s,f x=some (p x)):
  (BL s f=some (-1)∧ ∀x∈s,p x=false)∨ ∃m:Nat,BL s f=some (m:Int)∧m<s.length∧(∀(h:m<s.length),p s[m]=true)∧ ∀j (h:j<s.length),j<m→p s[j]=false:=by
 have step: ∀i (hi:i<s.length),Ac s f (i:Int)=if p s[i]=true then some (.inr (.inl (i:Int)))else some (.inl ((i+1:Nat):Int)):=by
  intro i hi;simp only [Ac,Int.toNat_natCast];rw [if_pos (CJ hi),Az (by omega),Ae _ _ hi,hf _ (List.getElem_mem hi),Option.bind_some,JM i (by omega)]
 have EG:Ac s f (s.length:Int)=some (.inr (.inr ())):=by
  simp only [Ac];rw [if_neg (Ak _)]
 by_cases hp: ∀i,i<s.length→(!p (s.getD i default))=true
 ·left
  have hp': ∀i (hi:i<s.length),p s[i]=false:=fun i hi=>by have:=hp i hi;rw [Ae _ _ hi]at this;simpa using this
  have:=Be (fun v=>Ac s f v) (fun i=>(i:Int)) s.length (.inr ()) (fun i hi=>by rw [step i hi,hp' i hi];rfl) EG
  refine⟨?_,fun x hx=> ?_⟩
  ·unfold BL Bj;have e:((0:Nat):Int)=0:=rfl;simp only [e]at this;rw [this];rfl
  ·obtain⟨i,hi,rfl⟩:=List.getElem_of_mem hx;exact hp' i hi
 ·right
  obtain⟨m,h1,h2,h3⟩:=O1 hp;have h2':p s[m]=true:=by rw [Ae _ _ h1]at h2;simpa using h2
  have h3': ∀j (h:j<s.length),j<m→p s[j]=false:=fun j hj hjm=>by have:=h3 j hjm;rw [Ae _ _ hj]at this;simpa using this
  have:=Be (fun v=>Ac s f v) (fun i=>(i:Int)) m (.inl (m:Int)) (fun i hi=>by rw [step i (by omega),h3' i (by omega) hi];rfl) (by rw [step m h1,h2'];rfl)
  refine⟨m, ?_,h1,fun _=>h2',h3'⟩
  unfold BL Bj;have e:((0:Nat):Int)=0:=rfl;simp only [e]at this;rw [this];rfl
theorem Y1{p:List Int→Bool}(s:List (List Int))(J:Nat)(h:J<s.length):(s.take (J+1)).filter p=if p s[J]=true then(s.take J).filter p++[s[J]]else(s.take J).filter p:=by
 rw [Sw _ _ h,List.filter_append]
 cases hp:p s[J]<;>simp [hp]
theorem vI(s:List (List Int))(f:List Int→Option Bool)(p:List Int→Bool)(hs:s.length<1099511627776)(hf: ∀x∈s,f x=some (p x))(m:Nat)(hm:m<s.length)(hpm:p s[m]=true)(hlt: ∀j (h:j<s.length),j<m→p s[j]=false):
  ∃t,CL f ((m:Int),IntKind.i64.wrap ((m:Int)+1),s.map some)=some ((((s.filter fun x=> !p x).length:Nat):Int),t)∧t.length=s.length∧(s.filter fun x=> !p x).length≤s.length∧ ∀k,k<(s.filter fun x=> !p x).length→t[k]? =((s.filter fun x=> !p x)[k]?).map some:=by
 have h0: ∀J,J≤m→(s.take J).filter (fun x=> !p x)=s.take J:=by
  intro J hJ;rw [List.filter_eq_self];intro x hx;obtain⟨i,hi,rfl⟩:=List.getElem_of_mem hx;rw [List.length_take]at hi;rw [List.getElem_take,hlt i (by omega) (by omega)];rfl
 have key:=KD (fun v=>BD f v.1 v.2.1 v.2.2)
  (fun n (v:Int×Int×List (Option (List Int)))=> ∃J:Nat,n=s.length-J∧J≤s.length∧v.2.1=(J:Int)∧v.1=((((s.take J).filter fun x=> !p x).length:Nat):Int)∧((s.take J).filter fun x=> !p x).length<J∧v.2.2.length=s.length∧
   (∀k,k<((s.take J).filter fun x=> !p x).length→v.2.2[k]? =(((s.take J).filter fun x=> !p x)[k]?).map some)∧ ∀k,J≤k→v.2.2[k]? =(s[k]?).map some)
  (fun r:Int×List (Option (List Int))=>r.1=(((s.filter fun x=> !p x).length:Nat):Int)∧r.2.length=s.length∧ ∀k,k<(s.filter fun x=> !p x).length→r.2[k]? =((s.filter fun x=> !p x)[k]?).map some)
  ?_ (s.length-(m+1)) ((m:Int),IntKind.i64.wrap ((m:Int)+1),s.map some) ?_
 ·obtain⟨⟨a,t⟩,h1,h2,h3,h4⟩:=key;simp only at h2 h3 h4;subst h2
  exact⟨t,h1,h3,List.length_filter_le _ _,h4⟩
 ·rintro n ⟨i,j,t⟩ ⟨J,hn,hJ,hj,hi,hlt',hlen,hA,hB⟩
  simp only at hj hi hlen hA hB;subst hj hi;generalize hK:(s.take J).filter (fun x=> !p x)=K at*;by_cases hJs:J<s.length
  ·left
   have hgJ:t.getD J default=some s[J]:=by
    rw [List.getD_eq_getElem?_getD,hB J (Nat.le_refl _),List.getElem?_eq_getElem hJs];rfl
   have hnext:=Y1 (p:=fun x=> !p x) s J hJs;rw [hK]at hnext;simp only [BD,Int.toNat_natCast,hgJ];rw [if_pos (by omega),Az (by omega),Az (by rfl),Option.getD_some,hf _ (List.getElem_mem hJs),Option.bind_some]
   by_cases hpJ:p s[J]=true
   ·rw [if_pos hpJ,JM J (by omega)]
    rw [hpJ]at hnext
    refine⟨_,s.length-(J+1),rfl,by omega,J+1,rfl,by omega,rfl, ?_⟩
    rw [hnext]
    exact⟨rfl,by simp;omega,hlen,hA,fun k hk=>hB k (by omega)⟩
   ·rw [if_neg hpJ,Az (by omega),JM J (by omega),JM K.length (by omega)]
    have hpf:p s[J]=false:=by simpa using hpJ
    rw [hpf]at hnext;simp only [Bool.not_false,if_true]at hnext
    refine⟨_,s.length-(J+1),rfl,by omega,J+1,rfl,by omega,rfl, ?_⟩
    rw [hnext]
    refine⟨by simp,by simp;omega,by simp [hlen],fun k hk=> ?_,fun k hk=> ?_⟩
    ·simp only;rw [List.length_append,List.length_singleton]at hk;by_cases hkK:k=K.length
     ·subst hkK;rw [List.getElem?_set_self (by simp;omega),List.getElem?_append_right (Nat.le_refl _),Nat.sub_self];rfl
     ·rw [List.getElem?_set_ne (by omega),List.getElem?_set_ne (by omega),hA k (by omega),List.getElem?_append_left (by omega)]
    ·simp only;rw [List.getElem?_set_ne (by omega),List.getElem?_set_ne (by omega)]
     exact hB k (by omega)
  ·right
   have hJe:J=s.length:=by omega
   subst hJe;rw [List.take_length]at hK;subst hK
   refine⟨((((s.filter fun x=> !p x).length:Nat):Int),t), ?_,rfl,hlen,hA⟩
   simp only [BD];rw [if_neg (by omega)]
 ·refine⟨m+1,rfl,by omega,JM m (by omega), ?_⟩
  have e:=Y1 (p:=fun x=> !p x) s m hm;rw [hpm,h0 m (Nat.le_refl _)]at e;simp only [Bool.not_true,Bool.false_eq_true,if_false]at e;rw [e];have el:(s.take m).length=m:=by rw [List.length_take];omega
  rw [el]
  refine⟨rfl,by omega,by simp,fun k hk=> ?_,fun k hk=> ?_⟩
  ·simp only;rw [List.getElem?_map,List.getElem?_take_of_lt hk]
  ·simp only;rw [List.getElem?_map]
theorem A4K(s:List (List Int))(f:List Int→Option Bool)(p:List Int→Bool)(hs:s.length<1099511627776)(hf: ∀x∈s,f x=some (p x)):Bv s f=some (s.filter fun x=> !p x):=by
 unfold Bv;rcases ACA s f p hs hf with⟨h1,h2⟩ | ⟨m,h1,h2,h3,h4⟩
 ·rw [h1,Option.bind_some,if_pos rfl]
  congr 1
  symm
  rw [List.filter_eq_self];intro x hx;rw [h2 x hx];rfl
 ·rw [h1,Option.bind_some,if_neg (by omega)]
  obtain⟨t,e1,e2,e3,e4⟩:=vI s f p hs hf m h2 (h3 h2) h4;rw [e1,Option.bind_some];generalize hK:(s.filter fun x=> !p x)=K at*;simp only [Int.toNat_natCast];have hr:((List.replicate (t.length-K.length) ([]:List Int)).map some).length=t.length-K.length:=by simp
  have hsp:=qz ((List.replicate (t.length-K.length) ([]:List Int)).map some) t K.length (by omega)
  have htk:(iV t K.length ((List.replicate (t.length-K.length) ([]:List Int)).map some)).take K.length=K.map some:=by
   rw [hsp,List.take_append_of_le_length (by rw [List.length_take];omega),List.take_take,Nat.min_self]
   refine List.ext_getElem? fun k=> ?_;rw [List.getElem?_map];by_cases hk:k<K.length
   ·rw [List.getElem?_take_of_lt hk,e4 k hk]
   ·rw [List.getElem?_eq_none (by rw [List.length_take];omega),List.getElem?_eq_none (by omega)];rfl
  have hln:K.length≤(iV t K.length ((List.replicate (t.length-K.length) ([]:List Int)).map some)).length:=by
   rw [hsp,List.length_append,List.length_take];omega
  rw [Az (by omega),Az (by omega),Az (by omega),Az hln,Az (by rw [htk];simp),htk]
  simp [Function.comp_def]
theorem jY(n size:Int)(good:List Int→Option Bool)(g:List Int→Bool)(hn:n≤8)(hs:0≤size∧size≤4)(hg: ∀x∈BF n size.toNat,good x=some (g x)):JL n size good=some ((BF n size.toNat).filter g):=by
 unfold JL;rw [WM n size (by omega) hs,Option.bind_some,A4K _ _ (fun x=> !g x) (by have:=PL n hn size.toNat (by omega);omega) (fun x hx=>by unfold J3;rw [hg x hx];rfl),Option.bind_some]
 simp only [Bool.not_not]
theorem jZ(c:Int): ∀(l:List (List Int)),(∀x∈l,(x.length:Int)≤c)→Ab l≤c*l.length
 | [],_=>by simp [Qz]
 | x::l,h=>by
  have h1:=h x (by simp)
  have h2:=jZ c l (fun y hy=>h y (by simp [hy]))
  rw [JY,List.length_cons,Int.natCast_add,Int.mul_add];omega
theorem ja(n:Int)(hn:n≤8)(k:Nat)(hk:k≤4)(g:List Int→Bool):((BF n k).filter g).length≤10000∧Ab ((BF n k).filter g)≤40000:=by
 have h1:=PL n hn k hk;have h2:=List.length_filter_le g (BF n k)
 have h3:=jZ 4 ((BF n k).filter g) (fun x hx=>by
  have:=((I4 n 8 hn k).1 x (List.mem_filter.1 hx).1).1
  omega)
 omega
end Go.Proofs.YtjhjkfoabhplfaaGreat
