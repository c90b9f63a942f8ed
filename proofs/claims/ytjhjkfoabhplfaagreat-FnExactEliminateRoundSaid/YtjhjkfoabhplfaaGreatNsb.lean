/- Tables of node configurations, program and reference. Conditions: those in each lemma. -/
import Derived.Test.YtjhjkfoabhplfaaGreatL6
import Derived.Test.YtjhjkfoabhplfaaGreatNstA
import Derived.Test.YtjhjkfoabhplfaaGreatNsa
import Derived.Test.YtjhjkfoabhplfaaGreatEsc
namespace Go.Proofs.YtjhjkfoabhplfaaGreat
open Go Dv
set_option linter.unusedSimpArgs false
set_option linter.unusedVariables false
set_option maxRecDepth 100000
def lH(L:Int):Nat→Int→Int
 |0,k=>k
 |i+1,k=>(lH L i k).tdiv L
def Tt(L:Int)(m:Nat)(k:Int):AA:=(List.range m).map fun i=>(lH L i k).tmod L
theorem Rc(L:Int)(m:Nat)(k:Int):(Tt L m k).length=m:=by simp [Tt]
theorem pX(L:Int)(m:Nat)(k:Int):Tt L (m+1) k=Tt L m k++[(lH L m k).tmod L]:=by simp [Tt,YU]
theorem pY(L:Int): ∀(i:Nat) (k:Int),lH L (i+1) k=lH L i (k.tdiv L)
 |0,_=>rfl
 |i+1,k=>by
  show(lH L (i+1) k).tdiv L=(lH L i (k.tdiv L)).tdiv L
  rw [pY L i k]
theorem A1t(L:Int)(m:Nat)(k:Int):Tt L (m+1) k=k.tmod L::Tt L m (k.tdiv L):=by
 unfold Tt;rw [List.range_succ_eq_map,Rp,List.map_map]
 congr 1
 refine List.map_congr_left fun i _=> ?_
 show(lH L (i+1) k).tmod L=_
 rw [pY]
theorem YR{L:Int}(hL:1≤L): ∀(i:Nat) {k:Int},0≤k→0≤lH L i k∧lH L i k≤k
 |0,_,h=>⟨h,Int.le_refl _⟩
 |i+1,k,h=>by
  obtain⟨h1,h2⟩:=YR hL i h;show 0≤(lH L i k).tdiv L∧_
  rw [show lH L (i+1) k=(lH L i k).tdiv L from rfl,Int.tdiv_eq_ediv_of_nonneg h1]
  exact⟨Int.ediv_nonneg h1 (by omega),Int.le_trans (Int.ediv_le_self _ h1) h2⟩
def enc(L:Int):AA→Int
 | []=>0
 |a::c=>a+L*enc L c
theorem Re{L:Int}(hL:1≤L): ∀ {c:AA},(∀x∈c,0≤x∧x<L)→0≤enc L c∧enc L c<L ^ c.length
 | [],_=>by simp [enc]
 |a::c,h=>by
  obtain⟨h1,h2⟩:=Re hL (c:=c) fun x hx=>h x (KT _ hx);have ha:=h a Ja;have h3:0≤L*enc L c:=Int.mul_nonneg (by omega) h1
  have h4:L*enc L c≤L*(L ^ c.length-1):=Int.mul_le_mul_of_nonneg_left (by omega) (by omega)
  rw [Int.mul_sub,Int.mul_one]at h4;show 0≤a+L*enc L c∧a+L*enc L c<L ^ (c.length+1)
  rw [Int.pow_succ,Int.mul_comm (L ^ c.length) L];omega
theorem vK(L:Int): ∀(c:AA) (a:Int),enc L (c++[a])=enc L c+a*L ^ c.length
 | [],a=>by simp [enc]
 |b::c,a=>by
  show b+L*enc L (c++[a])=b+L*enc L c+a*L ^ (c.length+1)
  rw [vK L c a,Int.mul_add,Int.pow_succ,Int.add_assoc,Int.mul_left_comm,Int.mul_comm L (L ^ c.length)]
theorem lI{L:Int}(hL:1≤L): ∀ {c:AA},(∀x∈c,0≤x∧x<L)→Tt L c.length (enc L c)=c
 | [],_=>rfl
 |a::c,h=>by
  have h': ∀x∈c,0≤x∧x<L:=fun x hx=>h x (KT _ hx);have ha:=h a Ja;have h1:=(Re hL h').1;have h3:0≤L*enc L c:=Int.mul_nonneg (by omega) h1
  show Tt L (c.length+1) (a+L*enc L c)=a::c
  rw [A1t,Int.tmod_eq_emod_of_nonneg (by omega),Int.tdiv_eq_ediv_of_nonneg (by omega),Int.add_mul_emod_self_left,Int.add_mul_ediv_left _ _ (by omega),Int.emod_eq_of_lt ha.1 ha.2,qD ha.1 ha.2,Int.zero_add,lI hL h']
theorem OZ(n:Nat)(hn:n≤8)(m:Nat)(hm:m≤4):n ^ m≤4096:=by
 have h1:n ^ m≤8 ^ m:=Nat.pow_le_pow_left hn m;have h2:8 ^ m≤8 ^ 4:=qJ (by omega) hm
 omega
theorem Qy(n m:Nat):((n:Int)) ^ m=((n ^ m:Nat):Int):=by norm_cast
theorem A3M{α:Type}(A:List α)(m:Nat)(z x:α):(A++List.replicate (m+1) z).set A.length x=(A++[x])++List.replicate m z:=by
 rw [qG _ _ (Io _),Xp,qK,List.set_cons_zero,Tv];rfl
def PU(ns:AL)(n d:Nat)(k:Nat):Int:=Az (fun b=>ns.contains (Bt (Tt (n:Int) d (k:Int)++[(b:Int)]))) n
theorem uI(n d:Nat)(ns es:AL)(hn:n≤8)(hd:d≤3):IB (n:Int) ((d+1:Nat):Int) ns es (1,0)=some ((n ^ d:Nat):Int):=by
 unfold IB;have key:=BD (fun v=>EH (n:Int) ((d+1:Nat):Int) ns es v.1 v.2) (fun i=>(((n ^ i:Nat):Int),(i:Int))) d ((n ^ d:Nat):Int) ?_ ?_
 ·exact key
 ·intro i hi;have h1:=OZ n hn (i+1) (by omega)
  have e:((n ^ i:Nat):Int)*(n:Int)=((n ^ (i+1):Nat):Int):=by rw [Nat.pow_succ];norm_cast
  simp only [EH];rw [Db _ (by omega),if_pos (by omega),e,Db _ (by omega),H9 i (by omega)]
 ·simp only [EH];rw [Db _ (by omega),if_neg (by omega)]
theorem yC(n d:Nat)(ns es:AL)(hn:1≤n∧n≤8)(hd:d≤3)(r:Int)(aft:AA)(k:Nat)(hk:k<10000)(t0:AA)(ht:t0.length=d+1):
  ∃t,KQ (n:Int) ((d+1:Nat):Int) ns es r aft (k:Int) (t0,(k:Int),0)=some t∧t.length=d+1∧t.take d=Tt (n:Int) d (k:Int):=by
 have key:=JV (fun v=>EI (n:Int) ((d+1:Nat):Int) ns es r aft (k:Int) v.1 v.2.1 v.2.2)
  (fun m (v:AA×Int×Int)=> ∃i:Nat,m=d-i∧i≤d∧v.2.2=(i:Int)∧v.2.1=lH (n:Int) i (k:Int)∧v.1.length=d+1∧v.1.take i=Tt (n:Int) i (k:Int))
  (fun t=>t.length=d+1∧t.take d=Tt (n:Int) d (k:Int)) ?_ d (t0,(k:Int),0) ⟨0,rfl,Tx _,rfl,rfl,ht,rfl⟩
 ·obtain⟨t,h1,h2,h3⟩:=key
  exact⟨t,h1,h2,h3⟩
 ·rintro m ⟨t,q,v⟩ ⟨i,hm,hi,e1,e2,h3,h4⟩
  simp only at e1 e2 h3 h4;subst e1 e2;have hq:=YR (L:=(n:Int)) (by omega) i (k:=(k:Int)) (by omega)
  by_cases c:i<d
  ·left
   have hq2:0≤(lH (n:Int) i (k:Int)).tdiv (n:Int)∧(lH (n:Int) i (k:Int)).tdiv (n:Int)≤k:=by
    have:=YR (L:=(n:Int)) (by omega) (i+1) (k:=(k:Int)) (by omega)
    exact this
   simp only [EI,H5];rw [Db (((d+1:Nat):Int)-1) (by omega),if_pos (by omega),Ao (by omega),Ao (by omega),Db _ (by omega),H9 i (by omega)]
   refine⟨_,d-(i+1),rfl,by omega,i+1,rfl,by omega,rfl,rfl,by simp only [Tw];exact h3, ?_⟩
   simp only;rw [S9 (by rw [Tw];omega),List.getElem_set_self,List.take_set_of_le (Io _),h4,pX]
  ·right
   have he:i=d:=by omega
   subst he
   refine⟨t, ?_,h3,h4⟩
   simp only [EI];rw [Db _ (by omega),if_neg (by omega)]
theorem A1u(n d:Nat)(ns es:AL)(hN:Ah ns)(iN:LP ns=true)(hn:1≤n∧n≤8)(hd:d≤3)(r:Int)(A:AA)(m:Nat)(t0:AA)(ht:t0.length=d+1)(hg:t0.take d=Tt (n:Int) d (A.length:Int))(hA:A.length<10000):
  IC (n:Int) ((d+1:Nat):Int) ns es r (A.length:Int) (A++List.replicate (m+1) 0,t0,0)=some ((A++[PU ns n d A.length])++List.replicate m 0):=by
 have key:=JV (fun v=>EJ (n:Int) ((d+1:Nat):Int) ns es r (A.length:Int) v.1 v.2.1 v.2.2)
  (fun q (v:AA×AA×Int)=> ∃b:Nat,q=n-b∧b≤n∧v.2.2=(b:Int)∧v.1=(A++[Az (fun b=>ns.contains (Bt (Tt (n:Int) d (A.length:Int)++[(b:Int)]))) b])++List.replicate m 0∧v.2.1.length=d+1∧v.2.1.take d=Tt (n:Int) d (A.length:Int))
  (fun r=>r=(A++[PU ns n d A.length])++List.replicate m 0) ?_ n (A++List.replicate (m+1) 0,t0,0) ⟨0,rfl,Tx _,rfl,by simp only [Az];rw [qK,Tv];rfl,ht,hg⟩
 ·obtain⟨x,h1,h2⟩:=key;unfold IC;rw [h1,h2]
 ·rintro q ⟨a,t,v⟩ ⟨b,hq,hb,e1,e2,h3,h4⟩
  simp only at e1 e2 h3 h4;subst e1 e2
  have hget:((A++[Az (fun b=>ns.contains (Bt (Tt (n:Int) d (A.length:Int)++[(b:Int)]))) b])++List.replicate m 0).getD A.length default=Az (fun b=>ns.contains (Bt (Tt (n:Int) d (A.length:Int)++[(b:Int)]))) b:=by
   rw [AX _ _ (by simp),List.getElem_append_left (by simp),List.getElem_append_right (Io _)];simp
  have hset: ∀x,((A++[Az (fun b=>ns.contains (Bt (Tt (n:Int) d (A.length:Int)++[(b:Int)]))) b])++List.replicate m 0).set A.length x=(A++[x])++List.replicate m 0:=fun x=>by
   rw [List.set_append_left _ _ (by simp),qG _ _ (Io _)];simp
  by_cases c:b<n
  ·left
   have hts:t.set d (b:Int)=Tt (n:Int) d (A.length:Int)++[(b:Int)]:=by
    rw [List.set_eq_take_append_cons_drop,if_pos (by omega),h4,List.drop_of_length_le (by omega)]
   have hlen:(Tt (n:Int) d (A.length:Int)++[(b:Int)]).length=d+1:=by rw [KU,Rc];rfl
   have hr:=Eh (fun b=>ns.contains (Bt (Tt (n:Int) d (A.length:Int)++[(b:Int)]))) b;have h7:(2:Int) ^ b≤2 ^ 7:=I1 (by omega)
   have e7:(2:Int) ^ 7=128:=by decide
   have e8:min b IntKind.i64.bits=b:=by show min b 64=b;omega
   have hp:=gH (m:=b) (show(0:Int)≤2 by decide)
   have em: ∀p:Nat→Bool,Az p (b+1)=Az p b+if p b=true then 2 ^ b else 0:=fun _=>rfl
   simp only [EJ,H5,IA];rw [if_pos (by omega),Db (((d+1:Nat):Int)-1) (by omega),show(((d+1:Nat):Int)-1).toNat=d by omega,Ao (by omega),hts,Ao hN,Ao (by omega),Ao iN,Bl,H9 b (by omega)]
   refine⟨((A++[Az (fun b=>ns.contains (Bt (Tt (n:Int) d (A.length:Int)++[(b:Int)]))) (b+1)])++List.replicate m 0,Tt (n:Int) d (A.length:Int)++[(b:Int)],((b+1:Nat):Int)),n-(b+1), ?_,by omega,b+1,rfl,by omega,rfl,rfl,hlen,by simp only;rw [List.take_append_of_le_length (by rw [Rc];omega),List.take_of_length_le (by rw [Rc];omega)]⟩
   rw [em]
   cases hc:ns.contains (Bt (Tt (n:Int) d (A.length:Int)++[(b:Int)]))with
   |true=>
    have hl9:A.length<((A++[Az (fun b=>ns.contains (Bt (Tt (n:Int) d (A.length:Int)++[(b:Int)]))) b])++List.replicate m 0).length:=by simp only [KU,qE];omega
    rw [if_pos rfl,if_pos rfl,Ao ⟨Int.natCast_nonneg _,hl9⟩,Ao (by omega),hget,hset,e8,Int.one_mul,Db ((2:Int) ^ b) (by omega),uy _ b (by omega) hr]
   |false=>
    rw [if_neg (by decide),if_neg (by decide),Int.add_zero]
  ·right
   have he:b=n:=by omega
   subst he
   refine⟨_, ?_,rfl⟩
   simp only [EJ];rw [if_neg (by omega)]
   rfl
theorem uJ(n d:Nat)(ns es:AL)(hN:Ah ns)(iN:LP ns=true)(hn:1≤n∧n≤8)(hd:d≤3):Gu (n:Int) ((d+1:Nat):Int) ns es=some ((n:Int),((d+1:Nat):Int),ns,es,(List.range (n ^ d)).map (PU ns n d)):=by
 have hc:=OZ n hn.2 d (by omega)
 unfold Gu;rw [uI n d ns es hn.2 hd,Bl,Ao (by omega)]
 have key:=BD (fun v=>EK (n:Int) ((d+1:Nat):Int) ns es ((n ^ d:Nat):Int) v.1 v.2) (fun k=>((List.range k).map (PU ns n d)++List.replicate (n ^ d-k) 0,(k:Int))) (n ^ d) ((List.range (n ^ d)).map (PU ns n d)) ?_ ?_
 ·have e:IE (n:Int) ((d+1:Nat):Int) ns es ((n ^ d:Nat):Int) (List.replicate (((n ^ d:Nat):Int)).toNat 0,0)=some ((List.range (n ^ d)).map (PU ns n d)):=by
   unfold IE;have:=key
   simp only [List.range_zero,List.map_nil,R5,Nat.sub_zero,Jb]at this;rw [H5];exact this
  rw [e];rfl
 ·intro k hk;have hAl:((List.range k).map (PU ns n d)).length=k:=by simp
  obtain⟨t,h1,h2,h3⟩:=yC n d ns es hn hd ((n ^ d:Nat):Int) ((List.range k).map (PU ns n d)++List.replicate (n ^ d-k) 0) k (by omega) (List.replicate (d+1) 0) (by simp)
  have h4:=A1u n d ns es hN iN hn hd ((n ^ d:Nat):Int) ((List.range k).map (PU ns n d)) (n ^ d-(k+1)) t h2 (by rw [hAl];exact h3) (by omega)
  rw [hAl,show n ^ d-(k+1)+1=n ^ d-k by omega]at h4
  simp only [EK,bG,H5];rw [if_pos (BZ hk),Ao (by omega),h1,Bl,h4,Bl,H9 k (by omega),YU,UR]
  rfl
 ·simp only [EK,bG,H5];rw [if_neg (Ae _),Xp,List.replicate_zero,O6]
def PV(ns:AL)(n D:Nat)(k:Nat):Bool:=ns.contains (Bt (Tt (n:Int) D (k:Int)))
theorem yD(n D:Nat)(ns es:AL)(hn:n≤8)(hd:D≤4):Kv (n:Int) (D:Int) ns es (1,0)=some ((n ^ D:Nat):Int):=by
 unfold Kv;have key:=BD (fun v=>GG (n:Int) (D:Int) ns es v.1 v.2) (fun i=>(((n ^ i:Nat):Int),(i:Int))) D ((n ^ D:Nat):Int) ?_ ?_
 ·exact key
 ·intro i hi;have h1:=OZ n hn (i+1) (by omega)
  have e:((n ^ i:Nat):Int)*(n:Int)=((n ^ (i+1):Nat):Int):=by rw [Nat.pow_succ];norm_cast
  simp only [GG];rw [if_pos (by omega),e,Db _ (by omega),H9 i (by omega)]
 ·simp only [GG];rw [if_neg (by omega)]
theorem yE(n D:Nat)(ns es:AL)(hn:1≤n∧n≤8)(hd:D≤4)(r:Int)(x:List Bool)(k:Nat)(hk:k<10000):Kw (n:Int) (D:Int) ns es r x (k:Int) ([],(k:Int))=some (Tt (n:Int) D (k:Int)):=by
 unfold Kw;have key:=BD (fun v=>GH (n:Int) (D:Int) ns es r x (k:Int) v.1 v.2) (fun i=>(Tt (n:Int) i (k:Int),lH (n:Int) i (k:Int))) D (Tt (n:Int) D (k:Int)) ?_ ?_
 ·exact key
 ·intro i hi;have hq2:=YR (L:=(n:Int)) (by omega) (i+1) (k:=(k:Int)) (by omega)
  have e:lH (n:Int) (i+1) (k:Int)=(lH (n:Int) i (k:Int)).tdiv (n:Int):=rfl;rw [e]at hq2;simp only [GH,Rc];rw [if_pos (by omega),Ao (by omega),Ao (by omega),Db _ (by omega),pX]
  rfl
 ·simp only [GH,Rc];rw [if_neg (by omega)]
theorem uK(n D:Nat)(ns es:AL)(hN:Ah ns)(hn:1≤n∧n≤8)(hd:D≤4):NE (n:Int) (D:Int) ns es=some ((n:Int),(D:Int),ns,es,(List.range (n ^ D)).map (PV ns n D)):=by
 have hc:=OZ n hn.2 D hd;unfold NE;rw [yD n D ns es hn.2 hd,Bl,Ao (by omega)]
 have key:=BD (fun v=>GI (n:Int) (D:Int) ns es ((n ^ D:Nat):Int) v.1 v.2) (fun k=>((List.range k).map (PV ns n D)++List.replicate (n ^ D-k) false,(k:Int))) (n ^ D) ((List.range (n ^ D)).map (PV ns n D)) ?_ ?_
 ·have e:Ky (n:Int) (D:Int) ns es ((n ^ D:Nat):Int) (List.replicate (((n ^ D:Nat):Int)).toNat false,0)=some ((List.range (n ^ D)).map (PV ns n D)):=by
   unfold Ky;have:=key
   simp only [List.range_zero,List.map_nil,R5,Nat.sub_zero,Jb]at this;rw [H5];exact this
  rw [e];rfl
 ·intro k hk;have hAl:((List.range k).map (PV ns n D)).length=k:=by simp
  have hset:=A3M ((List.range k).map (PV ns n D)) (n ^ D-(k+1)) false (PV ns n D k);rw [hAl,show n ^ D-(k+1)+1=n ^ D-k by omega]at hset
  have hlen:((List.range k).map (PV ns n D)++List.replicate (n ^ D-k) false).length=n ^ D:=by rw [KU,hAl,bG];omega
  simp only [GI,bG,H5,WE];rw [if_pos (BZ hk),yE n D ns es hn hd _ _ k (by omega),Bl,Ao (by rw [Rc];omega),Ao (by have:=hN.1;omega),Ao (by rw [Tf,Rc];omega),Bl,Ao (by omega),H9 k (by omega)]
  have e:ns.contains (Bt (Tt (n:Int) D (k:Int)))=PV ns n D k:=rfl;rw [e,hset,YU,UR];rfl
 ·simp only [GI,bG,H5];rw [if_neg (Ae _),Xp,List.replicate_zero,O6]
end Go.Proofs.YtjhjkfoabhplfaaGreat
