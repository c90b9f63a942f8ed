/- Supports of labels, and sets that shrink: program and reference agree. Conditions: those in each lemma. -/
import Derived.Test.YtiehjihckndgkaaGreatL6
import Derived.Test.YtiehjihckndgkaaGreatSmf
namespace Go.Proofs.YtiehjihckndgkaaGreat
open Go Dv
set_option linter.unusedSimpArgs false
set_option linter.unusedVariables false
set_option maxRecDepth 100000
def Qu(M:List (List Int))(v i:Nat):Int:=(M.getD v default).getD i default
def RN(en:List (List (Int×Int)))(v i:Nat):Nat:=(CV (en.getD v default) i).toNat
def Rn(en:List (List (Int×Int)))(v i:Nat):Nat:=(Cx (en.getD v default) i).toNat
def VA(en:List (List (Int×Int)))(v i:Nat):Bool:=(CV (en.getD v default) i==(v:Int))&&(Cx (en.getD v default) i==(i:Int))
structure OkM(en:List (List (Int×Int)))(n:Nat)(M:List (List Int)):Prop where
 len:M.length=en.length
 row: ∀v,v<en.length→(M.getD v default).length=(en.getD v default).length
 rng: ∀v i,v<en.length→i<(en.getD v default).length→0≤Qu M v i∧Qu M v i<2 ^ n
structure NetOk(en:List (List (Int×Int))):Prop where
 big:en.length≤40
 deg: ∀v,v<en.length→(en.getD v default).length≤6
 prt: ∀v i,v<en.length→i<(en.getD v default).length→RJ en v i=true
theorem xP{E:List (List (Int×Int))}{ids ins:List Int}(hw:O3 E ids ins=true):NetOk E:=by
 unfold O3 at hw;simp only [Fa]at hw
 refine⟨?_,fun v hv=> ?_,fun v i hv hi=> ?_⟩
 ·have:=Gb.1 hw.1;omega
 ·have:=CW.1 hw.2.2.2.2 v hv
  rw [Qq,Fa,decide_eq_true_eq]at this;exact this.1
 ·have:=CW.1 hw.2.2.2.2 v hv
  rw [Qq,Fa]at this;exact CW.1 this.2 i hi
theorem NetOk.at{en:List (List (Int×Int))}(h:NetOk en){v i:Nat}(hv:v<en.length)(hi:i<(en.getD v default).length):
  CV (en.getD v default) i=(RN en v i:Int)∧Cx (en.getD v default) i=(Rn en v i:Int)∧RN en v i<en.length∧Rn en v i<(en.getD (RN en v i) default).length∧RN en (RN en v i) (Rn en v i)=v∧Rn en (RN en v i) (Rn en v i)=i:=by
 have hp:=h.prt v i hv hi;rw [UM]at hp;simp only [Fa,beq_iff_eq]at hp;have p1:=Gb.1 hp.1;have p2:=Gb.1 hp.2.1;have e1:CV (en.getD v default) i=(RN en v i:Int):=by unfold RN;omega
 have e2:Cx (en.getD v default) i=(Rn en v i:Int):=by unfold Rn;omega
 refine⟨e1,e2,by omega, ?_, ?_, ?_⟩
 ·rw [e1,IV]at p2;omega
 ·have:=hp.2.2.1
  show(CV (en.getD (RN en v i) default) (Rn en v i)).toNat=v
  rw [show RN en v i=(CV (en.getD v default) i).toNat from rfl,show Rn en v i=(Cx (en.getD v default) i).toNat from rfl,this,IV]
 ·have:=hp.2.2.2
  show(Cx (en.getD (RN en v i) default) (Rn en v i)).toNat=i
  rw [show RN en v i=(CV (en.getD v default) i).toNat from rfl,show Rn en v i=(Cx (en.getD v default) i).toNat from rfl,this,IV]
theorem A60{n:Nat}(hn:n≤8):(2:Int) ^ n≤256:=by
 have:=Qt hn
 have e:(2:Int) ^ 8=256:=by decide
 omega
theorem OkM.le{en:List (List (Int×Int))}{n:Nat}{M:List (List Int)}(h:OkM en n M)(hn:n≤8){v i:Nat}(hv:v<en.length)(hi:i<(en.getD v default).length):0≤Qu M v i∧Qu M v i≤255:=by
 have:=h.rng v i hv hi
 have:=A60 hn
 omega
theorem aN{m:Int}{n a:Nat}(h:0≤m∧m<2 ^ n)(ha:n≤a):Dh m a=false:=by
 unfold Dh;have:m / 2 ^ a=0:=Int.ediv_eq_zero_of_lt h.1 (Int.lt_of_lt_of_le h.2 (Qt ha))
 rw [this];rfl
def jd(en:List (List (Int×Int)))(es:List (List Int))(n:Nat)(M:List (List Int))(v i a:Nat):Bool:=
 if VA en v i=true then Na es a a else(List.range n).any fun b=>Dh (Qu M (RN en v i) (Rn en v i)) b&&Na es a b
def A61(ns:List (List Int))(n:Nat)(M:List (List Int))(v i a:Nat):Bool:=ns.any (Yb (O8 (M.getD v default) n i a))
def JF(en:List (List (Int×Int)))(ns es:List (List Int))(n D:Nat)(M:List (List Int))(v i a:Nat):Bool:=jd en es n M v i a&&(!decide ((en.getD v default).length=D)||A61 ns n M v i a)
theorem rE{en:List (List (Int×Int))}(ids inp:List Int){ns es M:List (List Int)}{n D v i a:Nat}(hN:NetOk en)(hM:OkM en n M)(hn:n≤8)(he:BB es)(hie:QQ es=true)(hv:v<en.length)(hi:i<(en.getD v default).length):
  Dy (n:Int) (D:Int) ns es en ids inp M (v:Int) (i:Int) (a:Int)=some (jd en es n M v i a):=by
 obtain⟨f1,f2,f3,f4,_,_⟩:=hN.at hv hi;have hl:=hM.len;have hr:=hM.row _ f3;unfold Dy jd VA;simp only [IV];rw [BJ (by omega),BJ (by omega)]
 split
 ·rw [BJ he,BJ hie]
 ·unfold EK;have key:=Db (fun w=>CY (n:Int) (D:Int) ns es en ids inp M (v:Int) (i:Int) (a:Int) w) (fun b=>(b:Int)) n (fun b=> !(Dh (Qu M (RN en v i) (Rn en v i)) b&&Na es a b)) (.inl ()) (.inr ()) ?_ ?_
  ·rw [GY]at key;rw [key,DJ,Rl]
   cases (List.range n).any fun b=>Dh (Qu M (RN en v i) (Rn en v i)) b&&Na es a b<;>rfl
  ·intro b hb;have hm:0≤(M.getD (RN en v i) default).getD (Rn en v i) default∧(M.getD (RN en v i) default).getD (Rn en v i) default≤255:=hM.le hn f3 f4;simp only [CY,IV,f1,f2];rw [if_pos (CJ hb),BJ (by omega),BJ (by omega),BJ (by omega),nC _ b hm (by omega),Kh b (by omega)]
   by_cases h1:(M.getD (RN en v i) default).getD (Rn en v i) default / 2 ^ b % 2=1
   ·have:Dh (Qu M (RN en v i) (Rn en v i)) b=true:=decide_eq_true h1
    rw [if_pos h1,BJ he,BJ hie,this,OH]
    cases Na es a b<;>rfl
   ·have:Dh (Qu M (RN en v i) (Rn en v i)) b=false:=decide_eq_false h1
    rw [if_neg h1,this];rfl
  ·simp only [CY];rw [if_neg (Ar _)]
theorem rF{en:List (List (Int×Int))}(ids inp:List Int){ns es M:List (List Int)}{n D v i a:Nat}(hM:OkM en n M)(hn:n≤8)(hD:D≤4)(hs:BB ns)(hi2:QQ ns=true)(hp: ∀c∈ns,c.Pairwise fun a b=>a≤b)(hv:v<en.length)(hi:i<(en.getD v default).length)(hl:(en.getD v default).length=D):
  Dz (n:Int) (D:Int) ns es en ids inp M (v:Int) (i:Int) (a:Int)=some (A61 ns n M v i a):=by
 have hrow:=hM.row v hv;unfold Dz;rw [wT _ _ (by omega),DJ,IV,BJ (by rw [jq];omega),IV]
 obtain⟨o',h1,_⟩:=Ug (a:=(a:Int)) (es:=es) (en:=en) (ids:=ids) (inp:=inp) (v:=v) (M:=M) hn hD (by have:=hM.len;omega) rfl (by omega) (fun k hk=>hM.le hn hv (by omega)) hs hi2 (by omega:i<D) D 0 1000000 ((List.replicate D (-1)).set i (a:Int)) rfl (by simp) (by rw [Am _ _ (by simp;omega),oz]) (by omega)
 rw [GY,Ru,Yk]at h1;unfold He;rw [h1,DJ]
 congr 1
 exact zi _ hp
theorem nD: ∀a b:Fin 8,Dh (2 ^ a.val) b.val=decide (b=a):=by decide+kernel
theorem rG{en:List (List (Int×Int))}{M:List (List Int)}{n v i a:Nat}(hM:OkM en n M)(hn:n≤8)(hv:v<en.length)(ha:a<n)(hi:i<(en.getD v default).length):RelM (O8 (M.getD v default) n i a) ((M.getD v default).set i (2 ^ a)):=by
 have hrow:=hM.row v hv;have hpa:(0:Int)<2 ^ a:=Int.pow_pos (by decide)
 have hpb:(2:Int) ^ a≤2 ^ 7:=Qt (by omega)
 have e7:(2:Int) ^ 7=128:=by decide
 have hget: ∀k,k<(M.getD v default).length→((M.getD v default).set i (2 ^ a)).getD k default=if i=k then 2 ^ a else Qu M v k:=fun k hk=>by
  rw [Am _ _ (by rw [MR];exact hk),List.getElem_set]
  unfold Qu;rw [Am _ _ hk]
 refine⟨by rw [LZ,MR],fun k hk=> ?_,fun k b hk hb=> ?_⟩
 ·rw [MR]at hk;rw [hget k hk];split
  ·omega
  ·exact hM.le hn hv (by omega)
 ·rw [MR]at hk;rw [hget k hk,Am _ _ (by rw [LZ];exact hk),jc hk]
  by_cases e:i=k
  ·rw [if_pos e,if_pos e];have:=nD ⟨a,by omega⟩ ⟨b,hb⟩
   simp only at this;rw [this,Rt,decide_eq_true_eq,RP,List.mem_singleton,Fin.mk.injEq];omega
  ·rw [if_neg e,if_neg e,Rt,RP,YZ];have hm:=hM.rng v k hv (by omega)
   constructor
   ·intro h
    refine⟨b,rfl, ?_,h⟩
    apply Classical.byContradiction
    intro hc;rw [aN hm (by omega)]at h
    cases h
   ·rintro⟨c,h1,_,h2⟩
    have:b=c:=by omega
    rw [this];exact h2
theorem zk{n a:Nat}(ha:a<n)(p:Nat→Bool):((List.range n).any fun b=>decide (a=b)&&p b)=p a:=by
 rw [Rt,WJ]
 constructor
 ·rintro⟨b,_,h⟩
  rw [Fa,decide_eq_true_eq]at h;rw [h.1];exact h.2
 ·intro h
  exact⟨a,Mw.2 ha,by rw [decide_eq_true rfl,h];rfl⟩
theorem xQ(n:Nat)(p:Nat→Bool):(List.range (n+1)).any p=((List.range n).any p||p n):=by rw [List.range_succ,List.any_append];simp
theorem Yd{en:List (List (Int×Int))}(ids inp:List Int){ns es M:List (List Int)}{n D v i a:Nat}(hN:NetOk en)(hM:OkM en n M)(hn:n≤8)(hD:D≤4)(hs:BB ns)(he:BB es)(hc: ∀c∈ns,c.length=D∧ ∀a∈c,0≤a∧a<8)(hv:v<en.length)(hi:i<(en.getD v default).length)(ha:a<n)(hh:Dh (Qu M v i) a=true):
  KG (n:Int) (D:Int) ns es en ids inp M (v:Int) (i:Int) (a:Int)=some (JF en ns es n D M v i a):=by
 obtain⟨f1,f2,f3,f4,_,_⟩:=hN.at hv hi;have hl:=hM.len;have hr:=hM.row _ f3;have hrow:=hM.row v hv
 have hself:VA en v i=true→RN en v i=v∧Rn en v i=i:=by
  unfold VA;rw [Fa,beq_iff_eq,beq_iff_eq]
  intro h;omega
 have hm:=hM.le hn f3 f4
 have loop:Hm (n:Int) (D:Int) ns es en ids inp M (v:Int) (i:Int) (a:Int) (false,0)=some (jd en es n M v i a):=by
  unfold Hm;have key:=EX (fun w=>EF (n:Int) (D:Int) ns es en ids inp M (v:Int) (i:Int) (a:Int) w.1 w.2)
   (fun k=>((List.range k).any fun b=>(!VA en v i||decide (a=b))&&(Dh (Qu M (RN en v i) (Rn en v i)) b&&Na es a b),(k:Int))) n (jd en es n M v i a) ?_ ?_
  ·exact key
  ·intro b hb;have hsi:Kz ((M.getD (RN en v i) default).getD (Rn en v i) default) (b:Int)=some (Dh (Qu M (RN en v i) (Rn en v i)) b):=Uf _ b hm (by omega)
   have tail:(ck (0≤((RN en v i:Nat):Int)∧(((RN en v i:Nat):Int)).toNat<M.length)<|ck (0≤((Rn en v i:Nat):Int)∧(((Rn en v i:Nat):Int)).toNat<(M.getD (RN en v i) default).length)<|(Kz ((M.getD (RN en v i) default).getD (Rn en v i) default) (b:Int)).bind fun fB=>if fB=true then ck (BB es)<|(some (Sum.inl ((Na es a b),((b+1:Nat):Int))):Option ((Bool×Int)⊕Bool))else some (Sum.inl (false,((b+1:Nat):Int))))=some (Sum.inl (Dh (Qu M (RN en v i) (Rn en v i)) b&&Na es a b,((b+1:Nat):Int))):=by
    rw [BJ (by omega),BJ (by omega),hsi,DJ]
    cases Dh (Qu M (RN en v i) (Rn en v i)) b with
    |true=>rw [if_pos rfl,BJ he];rfl
    |false=>rfl
   dsimp only;rw [xQ];simp only [EF,IV];rw [if_pos (CJ hb),Kh b (by omega)]
   rw [show((CV (en.getD v default) i==(v:Int))&&(Cx (en.getD v default) i==(i:Int)))=VA en v i from rfl];simp only [f1,f2,IV]at tail ⊢
   cases hse:VA en v i with
   |true=>
    rw [if_pos rfl]
    cases hA:(List.range b).any fun b=>(!true||decide (a=b))&&(Dh (Qu M (RN en v i) (Rn en v i)) b&&Na es a b)with
    |true=>rw [if_pos rfl];rfl
    |false=>
     rw [if_neg (by decide)]
     by_cases hab:a=b
     ·rw [if_pos (by omega),tail,decide_eq_true hab];rfl
     ·rw [if_neg (by omega),decide_eq_false hab];rfl
   |false=>
    rw [if_neg (by decide)]
    cases hA:(List.range b).any fun b=>(!false||decide (a=b))&&(Dh (Qu M (RN en v i) (Rn en v i)) b&&Na es a b)with
    |true=>rw [if_pos rfl];rfl
    |false=>rw [if_neg (by decide),tail];rfl
  ·simp only [EF];rw [if_neg (Ar _)]
   congr 2
   unfold jd
   cases hse:VA en v i with
   |true=>
    obtain⟨q1,q2⟩:=hself hse;rw [if_pos rfl,q1,q2];have:=zk ha (fun b=>Dh (Qu M v i) b&&Na es a b)
    simp only [hh,OH]at this;simpa using this
   |false=>simp
 unfold KG JF;simp only [IV];rw [BJ (by omega),BJ (by omega),loop,DJ]
 cases jd en es n M v i a with
 |false=>rfl
 |true=>
  rw [if_pos rfl,OH];by_cases hd:(en.getD v default).length=D
  ·have hu:IntKind.u64.wrap (a:Int)=(a:Int):=TQ _ (by omega)
   have hsh:IntKind.i64.wrap (1*2 ^ (min a IntKind.i64.bits))=2 ^ a:=by
    have:min a IntKind.i64.bits=a:=by show min a 64=a;omega
    have h1:(2:Int) ^ a≤2 ^ 7:=Qt (by omega)
    have h2:(0:Int)<2 ^ a:=Int.pow_pos (by decide)
    have e7:(2:Int) ^ 7=128:=by decide
    rw [this,Int.one_mul,J9 _ (by omega)]
   simp only [IV,hu,hsh];unfold Lg;rw [if_pos (by omega),BJ (by omega),BJ (by have:=hN.deg v hv;omega),DJ,BJ (by omega),BJ (by omega)]
   rw [jb (rG hM hn hv ha hi) (by rw [LZ];omega) _ _ _ _ hs.1 (fun c hc'=>by rw [LZ];have:=hc c hc';exact⟨by omega,this.2⟩),DJ,decide_eq_true hd];rfl
  ·rw [if_neg (by omega),decide_eq_false hd];rfl
end Go.Proofs.YtiehjihckndgkaaGreat
