/- Tables of node configurations, program and reference. Conditions: those in each lemma. -/
import Derived.Test.YtjhjkfoabhplfaaGreatL6
import Derived.Test.YtjhjkfoabhplfaaGreatNstA
import Derived.Test.YtjhjkfoabhplfaaGreatNsa
import Derived.Test.YtjhjkfoabhplfaaGreatEsc
namespace Go.Proofs.YtjhjkfoabhplfaaGreat
open Go Dv
set_option linter.unusedSimpArgs false
set_option linter.unusedVariables false
set_option maxRecDepth 100000
def gK(L:Int):Nat→Int→Int
 | 0,k=>k
 | i+1,k=>(gK L i k).tdiv L
def Rv(L:Int)(m:Nat)(k:Int):List Int:=(List.range m).map fun i=>(gK L i k).tmod L
theorem QK(L:Int)(m:Nat)(k:Int):(Rv L m k).length=m:=by simp [Rv]
theorem kM(L:Int)(m:Nat)(k:Int):Rv L (m+1) k=Rv L m k++[(gK L m k).tmod L]:=by simp [Rv,Yo]
theorem kN(L:Int): ∀(i:Nat) (k:Int),gK L (i+1) k=gK L i (k.tdiv L)
 | 0,_=>rfl
 | i+1,k=>by
  show(gK L (i+1) k).tdiv L=(gK L i (k.tdiv L)).tdiv L
  rw [kN L i k]
theorem zC(L:Int)(m:Nat)(k:Int):Rv L (m+1) k=k.tmod L::Rv L m (k.tdiv L):=by
 unfold Rv;rw [List.range_succ_eq_map,QW,List.map_map]
 congr 1
 refine List.map_congr_left fun i _=> ?_
 show(gK L (i+1) k).tmod L=_
 rw [kN]
theorem Wn{L:Int}(hL:1≤L): ∀(i:Nat) {k:Int},0≤k→0≤gK L i k∧gK L i k≤k
 | 0,_,h=>⟨h,Int.le_refl _⟩
 | i+1,k,h=>by
  obtain⟨h1,h2⟩:=Wn hL i h;show 0≤(gK L i k).tdiv L∧_
  rw [show gK L (i+1) k=(gK L i k).tdiv L from rfl,Int.tdiv_eq_ediv_of_nonneg h1]
  exact⟨Int.ediv_nonneg h1 (by omega),Int.le_trans (Int.ediv_le_self _ h1) h2⟩
def Bo(L:Int):List Int→Int
 | []=>0
 | a::c=>a+L*Bo L c
theorem QL{L:Int}(hL:1≤L): ∀ {c:List Int},(∀x∈c,0≤x∧x<L)→0≤Bo L c∧Bo L c<L ^ c.length
 | [],_=>by simp [Bo]
 | a::c,h=>by
  obtain⟨h1,h2⟩:=QL hL (c:=c) fun x hx=>h x (Jp _ hx);have ha:=h a Iu;have h3:0≤L*Bo L c:=Int.mul_nonneg (by omega) h1
  have h4:L*Bo L c≤L*(L ^ c.length-1):=Int.mul_le_mul_of_nonneg_left (by omega) (by omega)
  rw [Int.mul_sub,Int.mul_one]at h4;show 0≤a+L*Bo L c∧a+L*Bo L c<L ^ (c.length+1)
  rw [Int.pow_succ,Int.mul_comm (L ^ c.length) L];omega
theorem pu(L:Int): ∀(c:List Int) (a:Int),Bo L (c++[a])=Bo L c+a*L ^ c.length
 | [],a=>by simp [Bo]
 | b::c,a=>by
  show b+L*Bo L (c++[a])=b+L*Bo L c+a*L ^ (c.length+1)
  rw [pu L c a,Int.mul_add,Int.pow_succ,Int.add_assoc,Int.mul_left_comm,Int.mul_comm L (L ^ c.length)]
theorem gL{L:Int}(hL:1≤L): ∀ {c:List Int},(∀x∈c,0≤x∧x<L)→Rv L c.length (Bo L c)=c
 | [],_=>rfl
 | a::c,h=>by
  have h': ∀x∈c,0≤x∧x<L:=fun x hx=>h x (Jp _ hx);have ha:=h a Iu;have h1:=(QL hL h').1;have h3:0≤L*Bo L c:=Int.mul_nonneg (by omega) h1
  show Rv L (c.length+1) (a+L*Bo L c)=a::c
  rw [zC,Int.tmod_eq_emod_of_nonneg (by omega),Int.tdiv_eq_ediv_of_nonneg (by omega),Int.add_mul_emod_self_left,Int.add_mul_ediv_left _ _ (by omega),Int.emod_eq_of_lt ha.1 ha.2,kV ha.1 ha.2,Int.zero_add,gL hL h']
theorem NM(n:Nat)(hn:n≤8)(m:Nat)(hm:m≤4):n ^ m≤4096:=by
 have h1:n ^ m≤8 ^ m:=Nat.pow_le_pow_left hn m;have h2:8 ^ m≤8 ^ 4:=qF (by omega) hm
 omega
theorem Ps(n m:Nat):((n:Int)) ^ m=((n ^ m:Nat):Int):=by norm_cast
theorem A0p{α:Type}(A:List α)(m:Nat)(z x:α):(A++List.replicate (m+1) z).set A.length x=(A++[x])++List.replicate m z:=by
 rw [kX _ _ (IB _),Vw,kg,List.set_cons_zero,Ry];rfl
def O9(ns:List (List Int))(n d:Nat)(k:Nat):Int:=BQ (fun b=>ns.contains (Bn (Rv (n:Int) d (k:Int)++[(b:Int)]))) n
theorem o6(n d:Nat)(ns es:List (List Int))(hn:n≤8)(hd:d≤3):Gz (n:Int) ((d+1:Nat):Int) ns es (1,0)=some ((n ^ d:Nat):Int):=by
 unfold Gz;have key:=BO (fun v=>EA (n:Int) ((d+1:Nat):Int) ns es v.1 v.2) (fun i=>(((n ^ i:Nat):Int),(i:Int))) d ((n ^ d:Nat):Int) ?_ ?_
 ·exact key
 ·intro i hi;have h1:=NM n hn (i+1) (by omega)
  have e:((n ^ i:Nat):Int)*(n:Int)=((n ^ (i+1):Nat):Int):=by rw [Nat.pow_succ];norm_cast
  simp only [EA];rw [Dw _ (by omega),if_pos (by omega),e,Dw _ (by omega),IR i (by omega)]
 ·simp only [EA];rw [Dw _ (by omega),if_neg (by omega)]
theorem u6(n d:Nat)(ns es:List (List Int))(hn:1≤n∧n≤8)(hd:d≤3)(r:Int)(aft:List Int)(k:Nat)(hk:k<10000)(t0:List Int)(ht:t0.length=d+1):
  ∃t,Jm (n:Int) ((d+1:Nat):Int) ns es r aft (k:Int) (t0,(k:Int),0)=some t∧t.length=d+1∧t.take d=Rv (n:Int) d (k:Int):=by
 have key:=Im (fun v=>EB (n:Int) ((d+1:Nat):Int) ns es r aft (k:Int) v.1 v.2.1 v.2.2)
  (fun m (v:List Int×Int×Int)=> ∃i:Nat,m=d-i∧i≤d∧v.2.2=(i:Int)∧v.2.1=gK (n:Int) i (k:Int)∧v.1.length=d+1∧v.1.take i=Rv (n:Int) i (k:Int))
  (fun t=>t.length=d+1∧t.take d=Rv (n:Int) d (k:Int)) ?_ d (t0,(k:Int),0) ⟨0,rfl,SA _,rfl,rfl,ht,rfl⟩
 ·obtain⟨t,h1,h2,h3⟩:=key
  exact⟨t,h1,h2,h3⟩
 ·rintro m ⟨t,q,v⟩ ⟨i,hm,hi,e1,e2,h3,h4⟩
  simp only at e1 e2 h3 h4;subst e1 e2;have hq:=Wn (L:=(n:Int)) (by omega) i (k:=(k:Int)) (by omega)
  by_cases c:i<d
  ·left
   have hq2:0≤(gK (n:Int) i (k:Int)).tdiv (n:Int)∧(gK (n:Int) i (k:Int)).tdiv (n:Int)≤k:=by
    have:=Wn (L:=(n:Int)) (by omega) (i+1) (k:=(k:Int)) (by omega)
    exact this
   simp only [EB,IA];rw [Dw (((d+1:Nat):Int)-1) (by omega),if_pos (by omega),Am (by omega),Am (by omega),Dw _ (by omega),IR i (by omega)]
   refine⟨_,d-(i+1),rfl,by omega,i+1,rfl,by omega,rfl,rfl,by simp only [Rz];exact h3, ?_⟩
   simp only;rw [Rw (by rw [Rz];omega),List.getElem_set_self,List.take_set_of_le (IB _),h4,kM]
  ·right
   have he:i=d:=by omega
   subst he
   refine⟨t, ?_,h3,h4⟩
   simp only [EB];rw [Dw _ (by omega),if_neg (by omega)]
theorem zD(n d:Nat)(ns es:List (List Int))(hN:Ak ns)(iN:QY ns=true)(hn:1≤n∧n≤8)(hd:d≤3)(r:Int)(A:List Int)(m:Nat)(t0:List Int)(ht:t0.length=d+1)(hg:t0.take d=Rv (n:Int) d (A.length:Int))(hA:A.length<10000):
  H5 (n:Int) ((d+1:Nat):Int) ns es r (A.length:Int) (A++List.replicate (m+1) 0,t0,0)=some ((A++[O9 ns n d A.length])++List.replicate m 0):=by
 have key:=Im (fun v=>EC (n:Int) ((d+1:Nat):Int) ns es r (A.length:Int) v.1 v.2.1 v.2.2)
  (fun q (v:List Int×List Int×Int)=> ∃b:Nat,q=n-b∧b≤n∧v.2.2=(b:Int)∧v.1=(A++[BQ (fun b=>ns.contains (Bn (Rv (n:Int) d (A.length:Int)++[(b:Int)]))) b])++List.replicate m 0∧v.2.1.length=d+1∧v.2.1.take d=Rv (n:Int) d (A.length:Int))
  (fun r=>r=(A++[O9 ns n d A.length])++List.replicate m 0) ?_ n (A++List.replicate (m+1) 0,t0,0) ⟨0,rfl,SA _,rfl,by simp only [BQ];rw [kg,Ry];rfl,ht,hg⟩
 ·obtain⟨x,h1,h2⟩:=key;unfold H5;rw [h1,h2]
 ·rintro q ⟨a,t,v⟩ ⟨b,hq,hb,e1,e2,h3,h4⟩
  simp only at e1 e2 h3 h4;subst e1 e2
  have hget:((A++[BQ (fun b=>ns.contains (Bn (Rv (n:Int) d (A.length:Int)++[(b:Int)]))) b])++List.replicate m 0).getD A.length default=BQ (fun b=>ns.contains (Bn (Rv (n:Int) d (A.length:Int)++[(b:Int)]))) b:=by
   rw [AV _ _ (by simp),List.getElem_append_left (by simp),List.getElem_append_right (IB _)];simp
  have hset: ∀x,((A++[BQ (fun b=>ns.contains (Bn (Rv (n:Int) d (A.length:Int)++[(b:Int)]))) b])++List.replicate m 0).set A.length x=(A++[x])++List.replicate m 0:=fun x=>by
   rw [List.set_append_left _ _ (by simp),kX _ _ (IB _)];simp
  by_cases c:b<n
  ·left
   have hts:t.set d (b:Int)=Rv (n:Int) d (A.length:Int)++[(b:Int)]:=by
    rw [List.set_eq_take_append_cons_drop,if_pos (by omega),h4,List.drop_of_length_le (by omega)]
   have hlen:(Rv (n:Int) d (A.length:Int)++[(b:Int)]).length=d+1:=by rw [Jq,QK];rfl
   have hr:=Gr (fun b=>ns.contains (Bn (Rv (n:Int) d (A.length:Int)++[(b:Int)]))) b;have h7:(2:Int) ^ b≤2 ^ 7:=Kn (by omega)
   have e7:(2:Int) ^ 7=128:=by decide
   have e8:min b IntKind.i64.bits=b:=by show min b 64=b;omega
   have hp:=Int.pow_nonneg (m:=b) (show(0:Int)≤2 by decide)
   have em: ∀p:Nat→Bool,BQ p (b+1)=BQ p b+if p b=true then 2 ^ b else 0:=fun _=>rfl
   simp only [EC,IA,LW];rw [if_pos (by omega),Dw (((d+1:Nat):Int)-1) (by omega),show(((d+1:Nat):Int)-1).toNat=d by omega,Am (by omega),hts,Am hN,Am (by omega),Am iN,CO,IR b (by omega)]
   refine⟨((A++[BQ (fun b=>ns.contains (Bn (Rv (n:Int) d (A.length:Int)++[(b:Int)]))) (b+1)])++List.replicate m 0,Rv (n:Int) d (A.length:Int)++[(b:Int)],((b+1:Nat):Int)),n-(b+1), ?_,by omega,b+1,rfl,by omega,rfl,rfl,hlen,by simp only;rw [List.take_append_of_le_length (by rw [QK];omega),List.take_of_length_le (by rw [QK];omega)]⟩
   rw [em]
   cases hc:ns.contains (Bn (Rv (n:Int) d (A.length:Int)++[(b:Int)]))with
   | true=>
    have hl9:A.length<((A++[BQ (fun b=>ns.contains (Bn (Rv (n:Int) d (A.length:Int)++[(b:Int)]))) b])++List.replicate m 0).length:=by simp only [Jq,kW];omega
    rw [if_pos rfl,if_pos rfl,Am ⟨Int.natCast_nonneg _,hl9⟩,Am (by omega),hget,hset,e8,Int.one_mul,Dw ((2:Int) ^ b) (by omega),A0a _ b (by omega) hr]
   | false=>
    rw [if_neg (by decide),if_neg (by decide),Int.add_zero]
  ·right
   have he:b=n:=by omega
   subst he
   refine⟨_, ?_,rfl⟩
   simp only [EC];rw [if_neg (by omega)]
   rfl
theorem o7(n d:Nat)(ns es:List (List Int))(hN:Ak ns)(iN:QY ns=true)(hn:1≤n∧n≤8)(hd:d≤3):GL (n:Int) ((d+1:Nat):Int) ns es=some ((n:Int),((d+1:Nat):Int),ns,es,(List.range (n ^ d)).map (O9 ns n d)):=by
 have hc:=NM n hn.2 d (by omega)
 unfold GL;rw [o6 n d ns es hn.2 hd,CO,Am (by omega)]
 have key:=BO (fun v=>ED (n:Int) ((d+1:Nat):Int) ns es ((n ^ d:Nat):Int) v.1 v.2) (fun k=>((List.range k).map (O9 ns n d)++List.replicate (n ^ d-k) 0,(k:Int))) (n ^ d) ((List.range (n ^ d)).map (O9 ns n d)) ?_ ?_
 ·have e:H6 (n:Int) ((d+1:Nat):Int) ns es ((n ^ d:Nat):Int) (List.replicate (((n ^ d:Nat):Int)).toNat 0,0)=some ((List.range (n ^ d)).map (O9 ns n d)):=by
   unfold H6;have:=key
   simp only [List.range_zero,List.map_nil,QV,Nat.sub_zero,Js]at this;rw [IA];exact this
  rw [e];rfl
 ·intro k hk;have hAl:((List.range k).map (O9 ns n d)).length=k:=by simp
  obtain⟨t,h1,h2,h3⟩:=u6 n d ns es hn hd ((n ^ d:Nat):Int) ((List.range k).map (O9 ns n d)++List.replicate (n ^ d-k) 0) k (by omega) (List.replicate (d+1) 0) (by simp)
  have h4:=zD n d ns es hN iN hn hd ((n ^ d:Nat):Int) ((List.range k).map (O9 ns n d)) (n ^ d-(k+1)) t h2 (by rw [hAl];exact h3) (by omega)
  rw [hAl,show n ^ d-(k+1)+1=n ^ d-k by omega]at h4
  simp only [ED,Yl,IA];rw [if_pos (Bi hk),Am (by omega),h1,CO,h4,CO,IR k (by omega),Yo,TT]
  rfl
 ·simp only [ED,Yl,IA];rw [if_neg (Af _),Vw,List.replicate_zero,Oj]
def OA(ns:List (List Int))(n D:Nat)(k:Nat):Bool:=ns.contains (Bn (Rv (n:Int) D (k:Int)))
theorem u7(n D:Nat)(ns es:List (List Int))(hn:n≤8)(hd:D≤4):KJ (n:Int) (D:Int) ns es (1,0)=some ((n ^ D:Nat):Int):=by
 unfold KJ;have key:=BO (fun v=>Fe (n:Int) (D:Int) ns es v.1 v.2) (fun i=>(((n ^ i:Nat):Int),(i:Int))) D ((n ^ D:Nat):Int) ?_ ?_
 ·exact key
 ·intro i hi;have h1:=NM n hn (i+1) (by omega)
  have e:((n ^ i:Nat):Int)*(n:Int)=((n ^ (i+1):Nat):Int):=by rw [Nat.pow_succ];norm_cast
  simp only [Fe];rw [if_pos (by omega),e,Dw _ (by omega),IR i (by omega)]
 ·simp only [Fe];rw [if_neg (by omega)]
theorem uA(n D:Nat)(ns es:List (List Int))(hn:1≤n∧n≤8)(hd:D≤4)(r:Int)(x:List Bool)(k:Nat)(hk:k<10000):KL (n:Int) (D:Int) ns es r x (k:Int) ([],(k:Int))=some (Rv (n:Int) D (k:Int)):=by
 unfold KL;have key:=BO (fun v=>Ff (n:Int) (D:Int) ns es r x (k:Int) v.1 v.2) (fun i=>(Rv (n:Int) i (k:Int),gK (n:Int) i (k:Int))) D (Rv (n:Int) D (k:Int)) ?_ ?_
 ·exact key
 ·intro i hi;have hq2:=Wn (L:=(n:Int)) (by omega) (i+1) (k:=(k:Int)) (by omega)
  have e:gK (n:Int) (i+1) (k:Int)=(gK (n:Int) i (k:Int)).tdiv (n:Int):=rfl;rw [e]at hq2;simp only [Ff,QK];rw [if_pos (by omega),Am (by omega),Am (by omega),Dw _ (by omega),kM]
  rfl
 ·simp only [Ff,QK];rw [if_neg (by omega)]
theorem o8(n D:Nat)(ns es:List (List Int))(hN:Ak ns)(hn:1≤n∧n≤8)(hd:D≤4):M8 (n:Int) (D:Int) ns es=some ((n:Int),(D:Int),ns,es,(List.range (n ^ D)).map (OA ns n D)):=by
 have hc:=NM n hn.2 D hd;unfold M8;rw [u7 n D ns es hn.2 hd,CO,Am (by omega)]
 have key:=BO (fun v=>Fg (n:Int) (D:Int) ns es ((n ^ D:Nat):Int) v.1 v.2) (fun k=>((List.range k).map (OA ns n D)++List.replicate (n ^ D-k) false,(k:Int))) (n ^ D) ((List.range (n ^ D)).map (OA ns n D)) ?_ ?_
 ·have e:KM (n:Int) (D:Int) ns es ((n ^ D:Nat):Int) (List.replicate (((n ^ D:Nat):Int)).toNat false,0)=some ((List.range (n ^ D)).map (OA ns n D)):=by
   unfold KM;have:=key
   simp only [List.range_zero,List.map_nil,QV,Nat.sub_zero,Js]at this;rw [IA];exact this
  rw [e];rfl
 ·intro k hk;have hAl:((List.range k).map (OA ns n D)).length=k:=by simp
  have hset:=A0p ((List.range k).map (OA ns n D)) (n ^ D-(k+1)) false (OA ns n D k);rw [hAl,show n ^ D-(k+1)+1=n ^ D-k by omega]at hset
  have hlen:((List.range k).map (OA ns n D)++List.replicate (n ^ D-k) false).length=n ^ D:=by rw [Jq,hAl,Yl];omega
  simp only [Fg,Yl,IA,Uc];rw [if_pos (Bi hk),uA n D ns es hn hd _ _ k (by omega),CO,Am (by rw [QK];omega),Am (by have:=hN.1;omega),Am (by rw [Rp,QK];omega),CO,Am (by omega),IR k (by omega)]
  have e:ns.contains (Bn (Rv (n:Int) D (k:Int)))=OA ns n D k:=rfl;rw [e,hset,Yo,TT];rfl
 ·simp only [Fg,Yl,IA];rw [if_neg (Af _),Vw,List.replicate_zero,Oj]
end Go.Proofs.YtjhjkfoabhplfaaGreat
