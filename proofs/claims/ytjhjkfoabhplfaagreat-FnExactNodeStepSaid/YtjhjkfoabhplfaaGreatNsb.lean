/- Tables of node configurations, program and reference. Conditions: those in each lemma. -/
import Derived.Test.YtjhjkfoabhplfaaGreatL6
import Derived.Test.YtjhjkfoabhplfaaGreatNstA
import Derived.Test.YtjhjkfoabhplfaaGreatNsa
import Derived.Test.YtjhjkfoabhplfaaGreatEsc
namespace Go.Proofs.YtjhjkfoabhplfaaGreat
open Go Dv
set_option linter.unusedSimpArgs false
set_option linter.unusedVariables false
set_option maxRecDepth 100000
def jI(L:Int):Nat→Int→Int
 |0,k=>k
 |i+1,k=>(jI L i k).tdiv L
def TG(L:Int)(m:Nat)(k:Int):AL:=(List.range m).map fun i=>(jI L i k).tmod L
theorem R9(L:Int)(m:Nat)(k:Int):(TG L m k).length=m:=by simp [TG]
theorem mQ(L:Int)(m:Nat)(k:Int):TG L (m+1) k=TG L m k++[(jI L m k).tmod L]:=by simp [TG,Zp]
theorem mR(L:Int): ∀(i:Nat) (k:Int),jI L (i+1) k=jI L i (k.tdiv L)
 |0,_=>rfl
 |i+1,k=>by
  show(jI L (i+1) k).tdiv L=(jI L i (k.tdiv L)).tdiv L
  rw [mR L i k]
theorem A05(L:Int)(m:Nat)(k:Int):TG L (m+1) k=k.tmod L::TG L m (k.tdiv L):=by
 unfold TG;rw [List.range_succ_eq_map,RQ,List.map_map]
 congr 1
 refine List.map_congr_left fun i _=> ?_
 show(jI L (i+1) k).tmod L=_
 rw [mR]
theorem Xk{L:Int}(hL:1≤L): ∀(i:Nat) {k:Int},0≤k→0≤jI L i k∧jI L i k≤k
 |0,_,h=>⟨h,Int.le_refl _⟩
 |i+1,k,h=>by
  obtain⟨h1,h2⟩:=Xk hL i h;show 0≤(jI L i k).tdiv L∧_
  rw [show jI L (i+1) k=(jI L i k).tdiv L from rfl,Int.tdiv_eq_ediv_of_nonneg h1]
  exact⟨Int.ediv_nonneg h1 (by omega),Int.le_trans (Int.ediv_le_self _ h1) h2⟩
def enc(L:Int):AL→Int
 | []=>0
 |a::c=>a+L*enc L c
theorem RA{L:Int}(hL:1≤L): ∀ {c:AL},(∀x∈c,0≤x∧x<L)→0≤enc L c∧enc L c<L ^ c.length
 | [],_=>by simp [enc]
 |a::c,h=>by
  obtain⟨h1,h2⟩:=RA hL (c:=c) fun x hx=>h x (Kn _ hx);have ha:=h a Jq;have h3:0≤L*enc L c:=Int.mul_nonneg (by omega) h1
  have h4:L*enc L c≤L*(L ^ c.length-1):=Int.mul_le_mul_of_nonneg_left (by omega) (by omega)
  rw [Int.mul_sub,Int.mul_one]at h4;show 0≤a+L*enc L c∧a+L*enc L c<L ^ (c.length+1)
  rw [Int.pow_succ,Int.mul_comm (L ^ c.length) L];omega
theorem rZ(L:Int): ∀(c:AL) (a:Int),enc L (c++[a])=enc L c+a*L ^ c.length
 | [],a=>by simp [enc]
 |b::c,a=>by
  show b+L*enc L (c++[a])=b+L*enc L c+a*L ^ (c.length+1)
  rw [rZ L c a,Int.mul_add,Int.pow_succ,Int.add_assoc,Int.mul_left_comm,Int.mul_comm L (L ^ c.length)]
theorem jJ{L:Int}(hL:1≤L): ∀ {c:AL},(∀x∈c,0≤x∧x<L)→TG L c.length (enc L c)=c
 | [],_=>rfl
 |a::c,h=>by
  have h': ∀x∈c,0≤x∧x<L:=fun x hx=>h x (Kn _ hx);have ha:=h a Jq;have h1:=(RA hL h').1;have h3:0≤L*enc L c:=Int.mul_nonneg (by omega) h1
  show TG L (c.length+1) (a+L*enc L c)=a::c
  rw [A05,Int.tmod_eq_emod_of_nonneg (by omega),Int.tdiv_eq_ediv_of_nonneg (by omega),Int.add_mul_emod_self_left,Int.add_mul_ediv_left _ _ (by omega),Int.emod_eq_of_lt ha.1 ha.2,ma ha.1 ha.2,Int.zero_add,jJ hL h']
theorem OW(n:Nat)(hn:n≤8)(m:Nat)(hm:m≤4):n ^ m≤4096:=by
 have h1:n ^ m≤8 ^ m:=Nat.pow_le_pow_left hn m;have h2:8 ^ m≤8 ^ 4:=sG (by omega) hm
 omega
theorem Qg(n m:Nat):((n:Int)) ^ m=((n ^ m:Nat):Int):=by norm_cast
theorem A1b{α:Type}(A:List α)(m:Nat)(z x:α):(A++List.replicate (m+1) z).set A.length x=(A++[x])++List.replicate m z:=by
 rw [mg _ _ (JE _),X6,mq,List.set_cons_zero,TJ];rfl
def PI(ns:AO)(n d:Nat)(k:Nat):Int:=Bz (fun b=>ns.contains (CY (TG (n:Int) d (k:Int)++[(b:Int)]))) n
theorem qV(n d:Nat)(ns es:AO)(hn:n≤8)(hd:d≤3):Ia (n:Int) ((d+1:Nat):Int) ns es (1,0)=some ((n ^ d:Nat):Int):=by
 unfold Ia;have key:=Bv (fun v=>El (n:Int) ((d+1:Nat):Int) ns es v.1 v.2) (fun i=>(((n ^ i:Nat):Int),(i:Int))) d ((n ^ d:Nat):Int) ?_ ?_
 ·exact key
 ·intro i hi;have h1:=OW n hn (i+1) (by omega)
  have e:((n ^ i:Nat):Int)*(n:Int)=((n ^ (i+1):Nat):Int):=by rw [Nat.pow_succ];norm_cast
  simp only [El];rw [Ec _ (by omega),if_pos (by omega),e,Ec _ (by omega),JS i (by omega)]
 ·simp only [El];rw [Ec _ (by omega),if_neg (by omega)]
theorem vQ(n d:Nat)(ns es:AO)(hn:1≤n∧n≤8)(hd:d≤3)(r:Int)(aft:AL)(k:Nat)(hk:k<10000)(t0:AL)(ht:t0.length=d+1):
  ∃t,Kk (n:Int) ((d+1:Nat):Int) ns es r aft (k:Int) (t0,(k:Int),0)=some t∧t.length=d+1∧t.take d=TG (n:Int) d (k:Int):=by
 have key:=Jk (fun v=>En (n:Int) ((d+1:Nat):Int) ns es r aft (k:Int) v.1 v.2.1 v.2.2)
  (fun m (v:AL×Int×Int)=> ∃i:Nat,m=d-i∧i≤d∧v.2.2=(i:Int)∧v.2.1=jI (n:Int) i (k:Int)∧v.1.length=d+1∧v.1.take i=TG (n:Int) i (k:Int))
  (fun t=>t.length=d+1∧t.take d=TG (n:Int) d (k:Int)) ?_ d (t0,(k:Int),0) ⟨0,rfl,TM _,rfl,rfl,ht,rfl⟩
 ·obtain⟨t,h1,h2,h3⟩:=key
  exact⟨t,h1,h2,h3⟩
 ·rintro m ⟨t,q,v⟩ ⟨i,hm,hi,e1,e2,h3,h4⟩
  simp only at e1 e2 h3 h4;subst e1 e2;have hq:=Xk (L:=(n:Int)) (by omega) i (k:=(k:Int)) (by omega)
  by_cases c:i<d
  ·left
   have hq2:0≤(jI (n:Int) i (k:Int)).tdiv (n:Int)∧(jI (n:Int) i (k:Int)).tdiv (n:Int)≤k:=by
    have:=Xk (L:=(n:Int)) (by omega) (i+1) (k:=(k:Int)) (by omega)
    exact this
   simp only [En,JD];rw [Ec (((d+1:Nat):Int)-1) (by omega),if_pos (by omega),BF (by omega),BF (by omega),Ec _ (by omega),JS i (by omega)]
   refine⟨_,d-(i+1),rfl,by omega,i+1,rfl,by omega,rfl,rfl,by simp only [TK];exact h3, ?_⟩
   simp only;rw [TH (by rw [TK];omega),List.getElem_set_self,List.take_set_of_le (JE _),h4,mQ]
  ·right
   have he:i=d:=by omega
   subst he
   refine⟨t, ?_,h3,h4⟩
   simp only [En];rw [Ec _ (by omega),if_neg (by omega)]
theorem A06(n d:Nat)(ns es:AO)(hN:BB ns)(iN:RV ns=true)(hn:1≤n∧n≤8)(hd:d≤3)(r:Int)(A:AL)(m:Nat)(t0:AL)(ht:t0.length=d+1)(hg:t0.take d=TG (n:Int) d (A.length:Int))(hA:A.length<10000):
  Ib (n:Int) ((d+1:Nat):Int) ns es r (A.length:Int) (A++List.replicate (m+1) 0,t0,0)=some ((A++[PI ns n d A.length])++List.replicate m 0):=by
 have key:=Jk (fun v=>Eo (n:Int) ((d+1:Nat):Int) ns es r (A.length:Int) v.1 v.2.1 v.2.2)
  (fun q (v:AL×AL×Int)=> ∃b:Nat,q=n-b∧b≤n∧v.2.2=(b:Int)∧v.1=(A++[Bz (fun b=>ns.contains (CY (TG (n:Int) d (A.length:Int)++[(b:Int)]))) b])++List.replicate m 0∧v.2.1.length=d+1∧v.2.1.take d=TG (n:Int) d (A.length:Int))
  (fun r=>r=(A++[PI ns n d A.length])++List.replicate m 0) ?_ n (A++List.replicate (m+1) 0,t0,0) ⟨0,rfl,TM _,rfl,by simp only [Bz];rw [mq,TJ];rfl,ht,hg⟩
 ·obtain⟨x,h1,h2⟩:=key;unfold Ib;rw [h1,h2]
 ·rintro q ⟨a,t,v⟩ ⟨b,hq,hb,e1,e2,h3,h4⟩
  simp only at e1 e2 h3 h4;subst e1 e2
  have hget:((A++[Bz (fun b=>ns.contains (CY (TG (n:Int) d (A.length:Int)++[(b:Int)]))) b])++List.replicate m 0).getD A.length default=Bz (fun b=>ns.contains (CY (TG (n:Int) d (A.length:Int)++[(b:Int)]))) b:=by
   rw [Af _ _ (by simp),List.getElem_append_left (by simp),List.getElem_append_right (JE _)];simp
  have hset: ∀x,((A++[Bz (fun b=>ns.contains (CY (TG (n:Int) d (A.length:Int)++[(b:Int)]))) b])++List.replicate m 0).set A.length x=(A++[x])++List.replicate m 0:=fun x=>by
   rw [List.set_append_left _ _ (by simp),mg _ _ (JE _)];simp
  by_cases c:b<n
  ·left
   have hts:t.set d (b:Int)=TG (n:Int) d (A.length:Int)++[(b:Int)]:=by
    rw [List.set_eq_take_append_cons_drop,if_pos (by omega),h4,List.drop_of_length_le (by omega)]
   have hlen:(TG (n:Int) d (A.length:Int)++[(b:Int)]).length=d+1:=by rw [Ko,R9];rfl
   have hr:=IR (fun b=>ns.contains (CY (TG (n:Int) d (A.length:Int)++[(b:Int)]))) b;have h7:(2:Int) ^ b≤2 ^ 7:=Lu (by omega)
   have e7:(2:Int) ^ 7=128:=by decide
   have e8:min b IntKind.i64.bits=b:=by show min b 64=b;omega
   have hp:=Int.pow_nonneg (m:=b) (show(0:Int)≤2 by decide)
   have em: ∀p:Nat→Bool,Bz p (b+1)=Bz p b+if p b=true then 2 ^ b else 0:=fun _=>rfl
   simp only [Eo,JD,Ma];rw [if_pos (by omega),Ec (((d+1:Nat):Int)-1) (by omega),show(((d+1:Nat):Int)-1).toNat=d by omega,BF (by omega),hts,BF hN,BF (by omega),BF iN,Cs,JS b (by omega)]
   refine⟨((A++[Bz (fun b=>ns.contains (CY (TG (n:Int) d (A.length:Int)++[(b:Int)]))) (b+1)])++List.replicate m 0,TG (n:Int) d (A.length:Int)++[(b:Int)],((b+1:Nat):Int)),n-(b+1), ?_,by omega,b+1,rfl,by omega,rfl,rfl,hlen,by simp only;rw [List.take_append_of_le_length (by rw [R9];omega),List.take_of_length_le (by rw [R9];omega)]⟩
   rw [em]
   cases hc:ns.contains (CY (TG (n:Int) d (A.length:Int)++[(b:Int)]))with
   |true=>
    have hl9:A.length<((A++[Bz (fun b=>ns.contains (CY (TG (n:Int) d (A.length:Int)++[(b:Int)]))) b])++List.replicate m 0).length:=by simp only [Ko,mf];omega
    rw [if_pos rfl,if_pos rfl,BF ⟨Int.natCast_nonneg _,hl9⟩,BF (by omega),hget,hset,e8,Int.one_mul,Ec ((2:Int) ^ b) (by omega),A1P _ b (by omega) hr]
   |false=>
    rw [if_neg (by decide),if_neg (by decide),Int.add_zero]
  ·right
   have he:b=n:=by omega
   subst he
   refine⟨_, ?_,rfl⟩
   simp only [Eo];rw [if_neg (by omega)]
   rfl
theorem qW(n d:Nat)(ns es:AO)(hN:BB ns)(iN:RV ns=true)(hn:1≤n∧n≤8)(hd:d≤3):Hq (n:Int) ((d+1:Nat):Int) ns es=some ((n:Int),((d+1:Nat):Int),ns,es,(List.range (n ^ d)).map (PI ns n d)):=by
 have hc:=OW n hn.2 d (by omega)
 unfold Hq;rw [qV n d ns es hn.2 hd,Cs,BF (by omega)]
 have key:=Bv (fun v=>Ep (n:Int) ((d+1:Nat):Int) ns es ((n ^ d:Nat):Int) v.1 v.2) (fun k=>((List.range k).map (PI ns n d)++List.replicate (n ^ d-k) 0,(k:Int))) (n ^ d) ((List.range (n ^ d)).map (PI ns n d)) ?_ ?_
 ·have e:Ic (n:Int) ((d+1:Nat):Int) ns es ((n ^ d:Nat):Int) (List.replicate (((n ^ d:Nat):Int)).toNat 0,0)=some ((List.range (n ^ d)).map (PI ns n d)):=by
   unfold Ic;have:=key
   simp only [List.range_zero,List.map_nil,RP,Nat.sub_zero,Kr]at this;rw [JD];exact this
  rw [e];rfl
 ·intro k hk;have hAl:((List.range k).map (PI ns n d)).length=k:=by simp
  obtain⟨t,h1,h2,h3⟩:=vQ n d ns es hn hd ((n ^ d:Nat):Int) ((List.range k).map (PI ns n d)++List.replicate (n ^ d-k) 0) k (by omega) (List.replicate (d+1) 0) (by simp)
  have h4:=A06 n d ns es hN iN hn hd ((n ^ d:Nat):Int) ((List.range k).map (PI ns n d)) (n ^ d-(k+1)) t h2 (by rw [hAl];exact h3) (by omega)
  rw [hAl,show n ^ d-(k+1)+1=n ^ d-k by omega]at h4
  simp only [Ep,Zm,JD];rw [if_pos (CV hk),BF (by omega),h1,Cs,h4,Cs,JS k (by omega),Zp,UR]
  rfl
 ·simp only [Ep,Zm,JD];rw [if_neg (Au _),X6,List.replicate_zero,Pv]
def PK(ns:AO)(n D:Nat)(k:Nat):Bool:=ns.contains (CY (TG (n:Int) D (k:Int)))
theorem vR(n D:Nat)(ns es:AO)(hn:n≤8)(hd:D≤4):LM (n:Int) (D:Int) ns es (1,0)=some ((n ^ D:Nat):Int):=by
 unfold LM;have key:=Bv (fun v=>Gn (n:Int) (D:Int) ns es v.1 v.2) (fun i=>(((n ^ i:Nat):Int),(i:Int))) D ((n ^ D:Nat):Int) ?_ ?_
 ·exact key
 ·intro i hi;have h1:=OW n hn (i+1) (by omega)
  have e:((n ^ i:Nat):Int)*(n:Int)=((n ^ (i+1):Nat):Int):=by rw [Nat.pow_succ];norm_cast
  simp only [Gn];rw [if_pos (by omega),e,Ec _ (by omega),JS i (by omega)]
 ·simp only [Gn];rw [if_neg (by omega)]
theorem vS(n D:Nat)(ns es:AO)(hn:1≤n∧n≤8)(hd:D≤4)(r:Int)(x:List Bool)(k:Nat)(hk:k<10000):LP (n:Int) (D:Int) ns es r x (k:Int) ([],(k:Int))=some (TG (n:Int) D (k:Int)):=by
 unfold LP;have key:=Bv (fun v=>Gp (n:Int) (D:Int) ns es r x (k:Int) v.1 v.2) (fun i=>(TG (n:Int) i (k:Int),jI (n:Int) i (k:Int))) D (TG (n:Int) D (k:Int)) ?_ ?_
 ·exact key
 ·intro i hi;have hq2:=Xk (L:=(n:Int)) (by omega) (i+1) (k:=(k:Int)) (by omega)
  have e:jI (n:Int) (i+1) (k:Int)=(jI (n:Int) i (k:Int)).tdiv (n:Int):=rfl;rw [e]at hq2;simp only [Gp,R9];rw [if_pos (by omega),BF (by omega),BF (by omega),Ec _ (by omega),mQ]
  rfl
 ·simp only [Gp,R9];rw [if_neg (by omega)]
theorem qX(n D:Nat)(ns es:AO)(hN:BB ns)(hn:1≤n∧n≤8)(hd:D≤4):NJ (n:Int) (D:Int) ns es=some ((n:Int),(D:Int),ns,es,(List.range (n ^ D)).map (PK ns n D)):=by
 have hc:=OW n hn.2 D hd;unfold NJ;rw [vR n D ns es hn.2 hd,Cs,BF (by omega)]
 have key:=Bv (fun v=>Gq (n:Int) (D:Int) ns es ((n ^ D:Nat):Int) v.1 v.2) (fun k=>((List.range k).map (PK ns n D)++List.replicate (n ^ D-k) false,(k:Int))) (n ^ D) ((List.range (n ^ D)).map (PK ns n D)) ?_ ?_
 ·have e:LQ (n:Int) (D:Int) ns es ((n ^ D:Nat):Int) (List.replicate (((n ^ D:Nat):Int)).toNat false,0)=some ((List.range (n ^ D)).map (PK ns n D)):=by
   unfold LQ;have:=key
   simp only [List.range_zero,List.map_nil,RP,Nat.sub_zero,Kr]at this;rw [JD];exact this
  rw [e];rfl
 ·intro k hk;have hAl:((List.range k).map (PK ns n D)).length=k:=by simp
  have hset:=A1b ((List.range k).map (PK ns n D)) (n ^ D-(k+1)) false (PK ns n D k);rw [hAl,show n ^ D-(k+1)+1=n ^ D-k by omega]at hset
  have hlen:((List.range k).map (PK ns n D)++List.replicate (n ^ D-k) false).length=n ^ D:=by rw [Ko,hAl,Zm];omega
  simp only [Gq,Zm,JD,VV];rw [if_pos (CV hk),vS n D ns es hn hd _ _ k (by omega),Cs,BF (by rw [R9];omega),BF (by have:=hN.1;omega),BF (by rw [TB,R9];omega),Cs,BF (by omega),JS k (by omega)]
  have e:ns.contains (CY (TG (n:Int) D (k:Int)))=PK ns n D k:=rfl;rw [e,hset,Zp,UR];rfl
 ·simp only [Gq,Zm,JD];rw [if_neg (Au _),X6,List.replicate_zero,Pv]
end Go.Proofs.YtjhjkfoabhplfaaGreat
