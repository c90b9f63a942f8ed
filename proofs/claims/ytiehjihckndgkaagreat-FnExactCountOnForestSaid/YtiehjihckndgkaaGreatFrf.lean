/- Forests: edges counted, or no cycle. Conditions: the network is one. -/
import Derived.Test.YtiehjihckndgkaaGreatL6
import Derived.Test.YtiehjihckndgkaaGreatFrd
namespace Go.Proofs.YtiehjihckndgkaaGreat
open Go Dv
set_option linter.unusedSimpArgs false
set_option linter.unusedVariables false
set_option maxRecDepth 100000
def XY(E:List (List (Int×Int))):Bool:=(List.range E.length).any fun v=>(List.range (E.getD v default).length).any (Q4 E v)
theorem V6{α:Type}(p:α→Bool): ∀l:List α,(l.all fun c=> !p c)= !(l.any p)
 | []=>rfl
 |a::l=>by rw [YD,List.any_cons,V6 p l];cases p a<;>rfl
theorem A0C{E:List (List (Int×Int))}(ids ins:AB)(H:PortN E):Td E ids ins=some (XY E):=by
 have hn:=H.big
 have inner: ∀v,v<E.length→O5 E ids ins (v:Int) 0=some (if(List.range (E.getD v default).length).any (Q4 E v)=true then .inl ()else .inr ()):=by
  intro v hv;have hd:=H.deg v hv;unfold O5;have key:=Fe (fun w=>Jq E ids ins (v:Int) w) (fun i=>(i:Int)) (E.getD v default).length (fun i=> !Q4 E v i) (.inl ()) (.inr ()) ?_ ?_
  ·rw [Gn]at key;rw [key,V6]
   cases (List.range (E.getD v default).length).any (Q4 E v)<;>rfl
  ·intro i hi;simp only [Jq,EC];rw [if_pos (CL hi),BL (by omega),K4 i (by omega)]
   by_cases hs:((BP (E.getD v default) i==(v:Int))&&(Ck (E.getD v default) i==(i:Int)))=true
   ·have hs':Q4 E v i=true:=hs;rw [if_pos hs,hs'];rfl
   ·have hs':Q4 E v i=false:=Jw.2 hs;rw [if_neg hs,hs'];rfl
  ·simp only [Jq,EC];rw [if_neg (Az _)]
 unfold Td QU;have key:=Fe (fun w=>Jr E ids ins w) (fun v=>(v:Int)) E.length (fun v=> !(List.range (E.getD v default).length).any (Q4 E v)) (.inl ()) (.inr ()) ?_ ?_
 ·rw [Gn]at key;rw [key,Cz,V6];unfold XY
  cases (List.range E.length).any fun v=>(List.range (E.getD v default).length).any (Q4 E v)<;>rfl
 ·intro v hv;simp only [Jr];rw [if_pos (CL hv),BL (by omega),inner v hv,Cz,K4 v (by omega)]
  cases (List.range (E.getD v default).length).any (Q4 E v)<;>rfl
 ·simp only [Jr];rw [if_neg (Az _)]
def A53(E:List (List (Int×Int))):Prop:= ∀v,v<E.length→ ∀i,i<(E.getD v default).length→Q4 E v i=false→ ¬Cn (Q5 E v i) v (Jz E v i)
noncomputable def nz(E:List (List (Int×Int))):Bool:= !XY E&&dcd (A53 E)
theorem sM{E:List (List (Int×Int))}{ids ins:AB}(H:PortN E)(h1:ids.length<1099511627776)(h2:ins.length<1099511627776):Pp E ids ins=some (nz E):=by
 unfold Pp nz;rw [A0C ids ins H,Cz]
 cases hs:XY E with
 |true=>rfl
 |false=>
  obtain⟨g,g1,g2,g3⟩:=wR H h1 h2;rw [if_neg (by decide),g1,Cz]
  congr 1
  rw [Bool.not_false,fF,VE,decide_eq_true_eq,JC,g3];rfl
def je(x:Int×Int×Int×Int):Nat×Nat:=(x.1.toNat,x.2.2.1.toNat)
def wS(E:List (List (Int×Int))):List (Nat×Nat):=(eO E E.length).map je
def Tu(E:List (List (Int×Int)))(v i:Nat):Int×Int×Int×Int:=((v:Int),(i:Int),(Jz E v i:Int),(SG E v i:Int))
theorem QY{E:List (List (Int×Int))}(H:PortN E){x:Int×Int×Int×Int}:x∈eO E E.length↔ ∃v i,v<E.length∧i<(E.getD v default).length∧(v<Jz E v i∨(v=Jz E v i∧i≤SG E v i))∧x=Tu E v i:=by
 rw [nu]
 constructor
 ·rintro⟨v,i,hv,hi,hc,rfl⟩
  obtain⟨p1,p2,_⟩:=H.prt v i hv hi
  refine⟨v,i,hv,hi, ?_,by unfold Tu;rw [p1,p2]⟩
  unfold eH at hc;rw [p1,p2]at hc;simp only [UI,Gb,decide_eq_true_eq]at hc;omega
 ·rintro⟨v,i,hv,hi,hc,rfl⟩
  obtain⟨p1,p2,_⟩:=H.prt v i hv hi
  refine⟨v,i,hv,hi, ?_,by unfold Tu;rw [p1,p2]⟩
  unfold eH;rw [p1,p2];simp only [UI,Gb,decide_eq_true_eq];omega
def RJ(E:List (List (Int×Int)))(v i:Nat):Int×Int×Int×Int:=if v<Jz E v i∨(v=Jz E v i∧i≤SG E v i)then Tu E v i else Tu E (Jz E v i) (SG E v i)
theorem eT{E:List (List (Int×Int))}(H:PortN E){v i:Nat}(hv:v<E.length)(hi:i<(E.getD v default).length):RJ E v i∈eO E E.length:=by
 obtain⟨p1,p2,p3,p4,p5,p6⟩:=H.prt v i hv hi;unfold RJ;split
 ·rename_i c
  exact(QY H).2 ⟨v,i,hv,hi,c,rfl⟩
 ·rename_i c
  exact(QY H).2 ⟨Jz E v i,SG E v i,p3,p4,by rw [p5,p6];omega,rfl⟩
theorem XZ{E:List (List (Int×Int))}(H:PortN E){v i:Nat}(hv:v<E.length)(hi:i<(E.getD v default).length):je (RJ E v i)=(v,Jz E v i)∨je (RJ E v i)=(Jz E v i,v):=by
 obtain⟨p1,p2,p3,p4,p5,p6⟩:=H.prt v i hv hi;unfold RJ;split
 ·left;simp [je,Tu]
 ·right;simp [je,Tu,p5]
theorem A38{E:List (List (Int×Int))}(H:PortN E)(x:Nat)(y:Int):y∈iU (wS E) x↔y∈FH E x:=by
 rw [N9,WZ]
 constructor
 ·rintro⟨e,he,hq⟩
  obtain⟨z,hz,rfl⟩:=NA.1 he;obtain⟨v,i,hv,hi,_,rfl⟩:=(QY H).1 hz;obtain⟨p1,p2,p3,p4,p5,p6⟩:=H.prt v i hv hi;rcases hq with⟨c,q⟩|⟨c,q⟩
  ·simp only [je,Tu,EC]at c q;subst c
   exact⟨i,hi,by rw [p1,q]⟩
  ·simp only [je,Tu,EC]at c q;subst c
   refine⟨SG E v i,p4, ?_⟩
   rw [(H.prt _ _ p3 p4).1,p5,q]
 ·rintro⟨i,hi,rfl⟩
  have hx:x<E.length:=by
   apply Classical.byContradiction
   intro hc;rw [Le,eu (by omega)]at hi
   exact absurd hi (by simp [default])
  obtain⟨p1,_⟩:=H.prt x i hx hi
  refine⟨je (RJ E x i),NA.2 ⟨_,eT H hx hi,rfl⟩, ?_⟩
  rw [p1];rcases XZ H hx hi with e|e
  ·rw [e];exact .inl ⟨rfl,rfl⟩
  ·rw [e];exact .inr ⟨rfl,rfl⟩
theorem AIS{E:List (List (Int×Int))}(H:PortN E){x y:Nat}:CP (wS E) x y↔Cn (FH E) x y:=
 ⟨fun h=>Cn.mono (fun x y hy=>(A38 H x y).1 hy) h,fun h=>Cn.mono (fun x y hy=>(A38 H x y).2 hy) h⟩
theorem A54{E:List (List (Int×Int))}(H:PortN E): ∀e∈wS E,e.1<E.length∧e.2<E.length:=by
 intro e he;obtain⟨z,hz,rfl⟩:=NA.1 he;obtain⟨v,i,hv,hi,_,rfl⟩:=(QY H).1 hz;obtain⟨p1,p2,p3,_⟩:=H.prt v i hv hi;simp only [je,Tu,EC]
 exact⟨hv,p3⟩
theorem o5{E:List (List (Int×Int))}(H:PortN E){v i x k:Nat}(hv:v<E.length)(hi:i<(E.getD v default).length)(hx:x<E.length)(hk:k<(E.getD x default).length):sK E v i x k=true↔RJ E x k≠RJ E v i:=by
 obtain⟨p1,p2,p3,p4,p5,p6⟩:=H.prt v i hv hi;obtain⟨q1,q2,q3,q4,q5,q6⟩:=H.prt x k hx hk
 have key:RJ E x k=RJ E v i↔(x=v∧k=i)∨(x=Jz E v i∧k=SG E v i):=by
  constructor
  ·intro e;unfold RJ at e
   split at e<;>split at e<;>simp only [Tu,Prod.mk.injEq,Int.natCast_inj]at e
   ·exact .inl ⟨e.1,e.2.1⟩
   ·exact .inr ⟨e.1,e.2.1⟩
   ·right;exact⟨by omega,by omega⟩
   ·left;exact⟨by omega,by omega⟩
  ·rintro(⟨rfl,rfl⟩|⟨rfl,rfl⟩)
   ·rfl
   ·unfold RJ;rw [p5,p6];by_cases c1:Jz E v i<v∨(Jz E v i=v∧SG E v i≤i)
    ·rw [if_pos c1];by_cases c2:v<Jz E v i∨(v=Jz E v i∧i≤SG E v i)
     ·rw [if_pos c2];have e1:Jz E v i=v:=by omega
      have e2:SG E v i=i:=by omega
      rw [e1,e2]
     ·rw [if_neg c2]
    ·rw [if_neg c1,if_pos (by omega)]
 unfold sK;rw [Gb,OT,OT,Bool.and_eq_false_iff,Bool.and_eq_false_iff,decide_eq_false_iff_not,decide_eq_false_iff_not,decide_eq_false_iff_not,decide_eq_false_iff_not,ne_eq,key]
 constructor
 ·rintro⟨h1,h2⟩ (⟨a,b⟩|⟨a,b⟩)
  ·rcases h1 with h|h
   ·exact h a
   ·exact h b
  ·rcases h2 with h|h
   ·exact h a
   ·exact h b
 ·intro h
  refine⟨?_, ?_⟩
  ·by_cases a:x=v
   ·exact .inr fun b=>h (.inl ⟨a,b⟩)
   ·exact .inl a
  ·by_cases a:x=Jz E v i
   ·exact .inr fun b=>h (.inr ⟨a,b⟩)
   ·exact .inl a
theorem jf{E:List (List (Int×Int))}(H:PortN E){v i:Nat}(hv:v<E.length)(hi:i<(E.getD v default).length)(hc:v<Jz E v i∨(v=Jz E v i∧i≤SG E v i)):RJ E v i=Tu E v i:=by unfold RJ;rw [if_pos hc]
theorem A55{E:List (List (Int×Int))}(H:PortN E)(hs:XY E=false):ABa (wS E)↔A53 E:=by
 have hns: ∀v,v<E.length→ ∀i,i<(E.getD v default).length→Q4 E v i=false:=by
  intro v hv i hi;unfold XY at hs;rw [List.any_eq_false]at hs;have:=hs v (MJ.2 hv)
  rw [fB,List.any_eq_false]at this;exact fB _▸this i (MJ.2 hi)
 have walk: ∀v i,v<E.length→i<(E.getD v default).length→ ∀A B,eO E E.length=A++RJ E v i::B→ ∀x y:Nat,Cn (Q5 E v i) x y↔CP (A.map je++B.map je) x y:=by
  intro v i hv hi A B hAB x y;have hnd:=jd E E.length;rw [hAB]at hnd
  have hmem: ∀z,z∈A++B↔z∈eO E E.length∧z≠RJ E v i:=by
   intro z;rw [hAB];have hd:=(List.nodup_append.1 hnd);have hb:=List.nodup_cons.1 hd.2.1
   constructor
   ·intro hz;rcases OU.1 hz with hz|hz
    ·exact⟨List.mem_append_left _ hz,hd.2.2 z hz _ KM⟩
    ·exact⟨List.mem_append_right _ (RL _ hz),fun e=>hb.1 (e▸hz)⟩
   ·rintro⟨hz,hne⟩
    rcases OU.1 hz with hz|hz
    ·exact List.mem_append_left _ hz
    ·rcases SK.1 hz with hz|hz
     ·exact absurd hz hne
     ·exact List.mem_append_right _ hz
  have hadj: ∀x y,y∈Q5 E v i x↔y∈iU (A.map je++B.map je) x:=by
   intro x y;rw [Tq,N9,←List.map_append]
   constructor
   ·rintro⟨k,hk,ho,rfl⟩
    have hx:x<E.length:=by
     apply Classical.byContradiction
     intro hc;rw [Le,eu (by omega)]at hk
     exact absurd hk (by simp [default])
    obtain⟨q1,_⟩:=H.prt x k hx hk
    refine⟨je (RJ E x k),NA.2 ⟨_,(hmem _).2 ⟨eT H hx hk,(o5 H hv hi hx hk).1 ho⟩,rfl⟩, ?_⟩
    rw [q1];rcases XZ H hx hk with e|e
    ·rw [e];exact .inl ⟨rfl,rfl⟩
    ·rw [e];exact .inr ⟨rfl,rfl⟩
   ·rintro⟨e,he,hq⟩
    obtain⟨z,hz,rfl⟩:=NA.1 he;obtain⟨hz1,hz2⟩:=(hmem z).1 hz;obtain⟨a,k,ha,hk,hc,rfl⟩:=(QY H).1 hz1;obtain⟨q1,q2,q3,q4,q5,q6⟩:=H.prt a k ha hk;have hself:=jf H ha hk hc;rcases hq with⟨c,q⟩|⟨c,q⟩
    ·simp only [je,Tu,EC]at c q;subst c
     exact⟨k,hk,(o5 H hv hi ha hk).2 (by rw [hself];exact hz2),by rw [q1,q]⟩
    ·simp only [je,Tu,EC]at c q;subst c
     refine⟨SG E a k,q4,(o5 H hv hi q3 q4).2 ?_,by rw [(H.prt _ _ q3 q4).1,q5,q]⟩
     have:RJ E (Jz E a k) (SG E a k)=Tu E a k:=by
      unfold RJ;rw [q5,q6];by_cases c1:Jz E a k<a∨(Jz E a k=a∧SG E a k≤k)
      ·rw [if_pos c1];have e1:Jz E a k=a:=by omega
       have e2:SG E a k=k:=by omega
       rw [e1,e2]
      ·rw [if_neg c1]
     rw [this];exact hz2
  exact⟨fun h=>Cn.mono (fun x y hy=>(hadj x y).1 hy) h,fun h=>Cn.mono (fun x y hy=>(hadj x y).2 hy) h⟩
 constructor
 ·intro hP v hv i hi hsl hc;obtain⟨A,B,hAB⟩:=List.append_of_mem (eT H hv hi);have h1:=(walk v i hv hi A B hAB v (Jz E v i)).1 hc;have h2:=hP (A.map je) (je (RJ E v i)) (B.map je) (by unfold wS;rw [hAB];simp)
  rcases XZ H hv hi with e|e
  ·rw [e]at h2;exact h2 h1
  ·rw [e]at h2;exact h2 h1.symm
 ·intro hE A' e B' hP hc;unfold wS at hP;obtain⟨A,R,hAB,hA,hR⟩:=List.map_eq_append_iff.1 hP;obtain⟨z,B,hz,hze,hB⟩:=List.map_eq_cons_iff.1 hR;subst hz;have hzm:z∈eO E E.length:=by rw [hAB];simp
  obtain⟨v,i,hv,hi,hcd,rfl⟩:=(QY H).1 hzm;have hself:=jf H hv hi hcd
  have h1:=(walk v i hv hi A B (by rw [hself];exact hAB) v (Jz E v i)).2 (by
   rw [hA,hB];rw [←hze]at hc
   simpa only [je,Tu,EC] using hc)
  exact hE v hv i hi (hns v hv i hi) h1
theorem wT{E:List (List (Int×Int))}{ids ins:AB}(h:FX E ids ins=true)(H:PortN E){v:Nat}(hv:v<E.length):(v:Int)=(Rz E).getD v default↔ ∀u,u<v→ ¬CP (wS E) u v:=by
 have hg:(Rz E).getD v default=(ng (Ld E) E.length v:Int):=by
  unfold Rz;rw [Ao _ _ (by simpa using hv)];simp
 have hself:Ld E v v=true:=(OA h hv hv).2 ⟨0,Rch.z⟩;have hiff: ∀u,u<E.length→(Ld E u v=true↔CP (wS E) u v):=fun u hu=>by rw [OA h hu hv,AIS H];rfl
 rw [hg];unfold ng
 cases hf:CJ E.length (fun u=>Ld E u v)with
 |none=>
  have:=(IV (P:=fun u=>Ld E u v)).2 ⟨v,hv,hself⟩
  rw [hf]at this;cases this
 |some m=>
  obtain⟨m1,m2⟩:=Rn hf;have m3:=rW hf;rw [jo]
  constructor
  ·intro e u hu hc;have:=m3 u (by omega)
   have hx:=(hiff u (by omega)).2 hc
   rw [this]at hx;cases hx
  ·intro hall;have a1: ¬m<v:=fun hl=>hall m hl ((hiff m m1).1 m2)
   have a2: ¬v<m:=fun hl=>by
    have:=m3 v hl
    rw [hself]at this;cases this
   omega
theorem o6{E:List (List (Int×Int))}{ids ins:AB}(h:FX E ids ins=true):Pj E ids ins=some (nz E):=by
 have H:=Tt h;have hn:=H.big;have hlen:=nk E H.deg E.length (Dh _)
 have hany:(eO E E.length).any (fun x=>decide (x.1=x.2.2.1)&&decide (x.2.1=x.2.2.2))=XY E:=by
  rw [VE,List.any_eq_true];unfold XY;rw [List.any_eq_true]
  constructor
  ·rintro⟨x,hx,hp⟩
   obtain⟨v,i,hv,hi,_,rfl⟩:=(QY H).1 hx;obtain⟨p1,p2,_⟩:=H.prt v i hv hi;have hp:(decide ((v:Int)=(Jz E v i:Int))&&decide ((i:Int)=(SG E v i:Int)))=true:=hp;rw [Gb,decide_eq_true_eq,decide_eq_true_eq]at hp
   refine⟨v,MJ.2 hv,List.any_eq_true.2 ⟨i,MJ.2 hi, ?_⟩⟩
   unfold Q4;rw [p1,p2,Gb,beq_iff_eq,beq_iff_eq];omega
  ·rintro⟨v,hv,hp⟩
   have hv:=MJ.1 hv;obtain⟨i,hi,hp⟩:=List.any_eq_true.1 hp;have hi:=MJ.1 hi;obtain⟨p1,p2,_⟩:=H.prt v i hv hi;unfold Q4 at hp;rw [p1,p2,Gb,beq_iff_eq,beq_iff_eq]at hp
   refine⟨Tu E v i,(QY H).2 ⟨v,i,hv,hi,by omega,rfl⟩, ?_⟩
   show(decide ((v:Int)=(Jz E v i:Int))&&decide ((i:Int)=(SG E v i:Int)))=true
   rw [Gb,decide_eq_true_eq,decide_eq_true_eq];omega
 have hcon:=ABb (eO E E.length) (fun a0_0 a0_1 a0_2 a0_3=>MI a0_0 a0_1 a0_2 a0_3) (fun x=>decide (x.1=x.2.2.1)&&decide (x.2.1=x.2.2.2)) (by omega) (fun x _=>by
  unfold MI;by_cases c:x.1=x.2.2.1
  ·rw [if_pos c,decide_eq_true c];rfl
  ·rw [if_neg c,decide_eq_false c];rfl)
 have hcount:Lm E ids ins (eO E E.length) (Rz E) (0,0)=some (GM E.length (CP (wS E)):Int):=by
  have hpl:(Rz E).length=E.length:=by simp [Rz]
  unfold Lm;have key:=Cf (fun w=>Gf E ids ins (eO E E.length) (Rz E) w.1 w.2) (fun k=>((((List.range k).countP fun v=>dcd (∀u,u<v→ ¬CP (wS E) u v):Nat):Int),(k:Int))) E.length (GM E.length (CP (wS E)):Int) ?_ ?_
  ·exact key
  ·intro k hk;have hc:(List.range k).countP (fun v=>dcd (∀u,u<v→ ¬CP (wS E) u v))≤k:=VH List.countP_le_length (by simp)
   have hr:=wT h H hk;simp only [Gf,EC];rw [if_pos (by omega),BL (by omega),K4 k (by omega),fD,List.countP_append,List.countP_singleton]
   by_cases c:(k:Int)=(Rz E).getD k default
   ·rw [if_pos c,if_pos (JC.2 (hr.1 c)),I7 _ (by omega)];rfl
   ·rw [if_neg c,if_neg (fun q=>c (hr.2 (JC.1 q)))];rfl
  ·simp only [Gf];rw [if_neg (by omega)];rfl
 unfold Pj nz;rw [A35 E ids ins hn.1 H.deg,Cz,hcon,Cz,hany]
 cases hs:XY E with
 |true=>rfl
 |false=>
  have hle:GM E.length (CP (wS E))≤E.length:=by
   unfold GM;exact VH List.countP_le_length (by simp)
  rw [if_neg (by decide),eP h,Cz,hcount,Cz,I7 _ (by omega)]
  congr 1
  have hc:=wM (A54 H);rw [A55 H hs]at hc;have hl:(wS E).length=(eO E E.length).length:=by simp [wS]
  rw [Bool.not_false,fF,VE,decide_eq_true_eq,JC,←hc,hl];omega
end Go.Proofs.YtiehjihckndgkaaGreat
