/- Networks without one edge: which nodes are still joined. Conditions: those in each lemma. -/
import Derived.Test.YtiehjihckndgkaaGreatL6
import Derived.Test.YtiehjihckndgkaaGreatFrA
import Derived.Test.YtiehjihckndgkaaGreatTcl
import Derived.Test.YtiehjihckndgkaaGreatFrg
namespace Go.Proofs.YtiehjihckndgkaaGreat
open Go Dv
set_option linter.unusedSimpArgs false
set_option linter.unusedVariables false
set_option maxRecDepth 100000
theorem wN{E:List (List (Int×Int))}(ids ins:AB)(hn:E.length≤40)(hd: ∀v,v<E.length→(E.getD v default).length≤6)(hA: ∀x,x<E.length→ ∀y∈FH E x,0≤y∧y.toNat<E.length)(v:Nat)(hv:v<E.length):
  O4 E ids ins (v:Int)=some (O9 E v)∧FinB (FH E) E.length v (O9 E v):=by
 obtain⟨i1,i2,i3⟩:=Ry (FH E) E.length v hv;have fill:=aP (fun x=>Ew E ids ins (v:Int) x.1 x.2) (List.replicate E.length (0:Int)) (fun _=>(-1:Int)) (0:Int) ?_ ?_
 ·have key:=WY (FH E) E.length v hv hA (fun s=>Ey E ids ins s.1 s.2.1 s.2.2) (fun don o q=>(o,don++q,(don.length:Int))) (fun o=>o) ?_ ?_
   E.length [] (MF E.length v) [(v:Int)] i1 (by simp only [VA];omega) i3 (by simp only [VA,Sd];omega)
  ·refine⟨?_,key.2⟩
   unfold O4;rw [M8,List.map_replicate]at fill;rw [BL (by omega)]
   have f2:O1 E ids ins (v:Int) (List.replicate E.length 0,0)=some (List.replicate E.length (-1)):=fill;rw [f2,Cz,EC,BL (by rw [M8];omega)]
   have:O3 E ids ins ((List.replicate E.length (-1)).set v 0,[(v:Int)],0)=some (O9 E v):=key.1
   rw [this];rfl
  ·intro don o w q hI hb;simp only [Lb]at hb;have hw:=hI.qn w KM;have hwn:((w.toNat:Nat):Int)=w:=by omega
   have:=We E ids ins E.length v w.toNat _ hn (hd _ hw.2.1) (hA _ hw.2.1) don (by omega) o q hI.pop
   rw [hwn]at this
   have e1:(don++w::q).getD don.length default=w:=by
    rw [Le,RN (Dh _),Nat.sub_self];rfl
   have e2:=jb E ids ins w.toNat hw.2.1 (hd _ hw.2.1);rw [hwn]at e2;simp only [Ey,EC,e1];rw [if_pos (by simp only [Nf,Lb];omega),BL (by simp only [Nf,Lb];omega),e2,Cz,this,Cz,K4 _ (by omega)]
   simp
  ·intro don o _ _;simp only [Ey];rw [if_neg (by simp)]
 ·intro i hi out ho;simp only [M8]at hi ho;simp only [Ew,EC,M8];rw [if_pos (CL hi),BL (by omega),K4 i (by omega)]
 ·intro out ho;simp only [Ew,M8];rw [if_neg (Az _)]
def RI(E:List (List (Int×Int))):List (List Bool):=(List.range E.length).map fun v=>List.replicate (E.getD v default).length true
theorem A0B{E:List (List (Int×Int))}(ids ins:AB)(hn:E.length≤40)(h6: ∀v,v<E.length→(E.getD v default).length≤6):WP E ids ins=some (RI E):=by
 unfold WP Rp;have key:=PZ (fun x=>LF E x.1 x.2) (List.range E.length) (fun v=>List.replicate (E.getD v default).length true) ?_ ?_
 ·rw [key];rfl
 ·intro v hv out ho;rw [Uc]at hv;have hl:=h6 v hv
  have inner:Pk E out (v:Int) (List.replicate (E.getD v default).length false,0)=some (List.replicate (E.getD v default).length true):=by
   unfold Pk;have k2:=aP (fun x=>LD E out (v:Int) x.1 x.2) (List.replicate (E.getD v default).length false) (fun _=>true) false ?_ ?_
   ·rw [M8,List.map_replicate]at k2;exact k2
   ·intro i hi o2 ho2;rw [M8]at hi ho2;simp only [LD,EC,M8];rw [if_pos (CL hi),BL (by omega),K4 i (by omega)]
   ·intro o2 ho2;simp only [LD,EC,M8];rw [if_neg (Az _)]
  simp only [LF,EC,Ng];rw [if_pos (CL hv),BL (by omega),BL (by omega),inner,Cz,BL (by omega),K4 v (by omega)]
 ·intro out ho;simp only [LF,Uc];rw [if_neg (Az _)]
def kpt(K:List (List Bool))(x y:Nat):Bool:=(K.getD x default).getD y default
structure ShK{α:Type}(E:List (List (Int×Int)))(K:List (List α)):Prop where
 len:K.length=E.length
 row: ∀v,v<E.length→(K.getD v default).length=(E.getD v default).length
theorem A51{E:List (List (Int×Int))}(ids ins:AB)(hn:E.length≤40)(h6: ∀v,v<E.length→(E.getD v default).length≤6){K:List (List Bool)}(hK:ShK E K): ∃T,Pn E ids ins K (List.replicate E.length [],0)=some T∧ShK E T:=by
 have hkl:=hK.len;unfold Pn;have key:=Rc (fun x=>Ml E ids ins K x.1 x.2) (fun n s=> ∃v:Nat,n=E.length-v∧v≤E.length∧s.2=(v:Int)∧s.1.length=E.length∧(∀x,x<v→(s.1.getD x default).length=(E.getD x default).length)∧ ∀x,v≤x→x<E.length→s.1.getD x default=[])
  (fun T=>ShK E T) ?_ E.length (List.replicate E.length ([]:AB),(0:Int)) ⟨0,rfl,by omega,rfl,by simp,fun x hx=>by omega,fun x _ hx=>by rw [Ao _ _ (by simpa using hx),List.getElem_replicate]⟩
 ·exact key
 ·rintro n ⟨T,v'⟩ ⟨v,hn',hv,ev,hl,h1,h2⟩
  dsimp only at ev hl h1 h2;subst ev;simp only [Ml];by_cases c:v<E.length
  ·have hd:=h6 v c;have hkr:=hK.row v c;rw [if_pos (by omega),BL (by omega)]
   have k2:=Rc (fun x=>Mk E ids ins K (v:Int) x.1 x.2.1 x.2.2) (fun n s=> ∃i k:Nat,n=(E.getD v default).length-i∧i≤(E.getD v default).length∧k≤i∧s.2.2=(i:Int)∧s.2.1=(k:Int)∧s.1.length=E.length∧(s.1.getD v default).length=i∧ ∀x,x≠v→s.1.getD x default=T.getD x default)
    (fun T'=>T'.length=E.length∧(T'.getD v default).length=(E.getD v default).length∧ ∀x,x≠v→T'.getD x default=T.getD x default) ?_ (E.getD v default).length (T,(0:Int),(0:Int)) ⟨0,0,rfl,by omega,by omega,rfl,rfl,hl,by rw [h2 v (by omega) c];rfl,fun _ _=>rfl⟩
   ·obtain⟨T',e1,e2,e3,e4⟩:=k2;have e1':Rq E ids ins K (v:Int) (T,0,0)=some T':=e1;rw [e1',Cz,K4 v (by omega)]
    left
    refine⟨_,E.length-(v+1),rfl,by omega,v+1,rfl,by omega,rfl,e2,fun x hx=> ?_,fun x hx hx2=> ?_⟩
    ·dsimp only;by_cases e:x=v
     ·rw [e];exact e3
     ·rw [e4 x e];exact h1 x (by omega)
    ·dsimp only;rw [e4 x (by omega)]
     exact h2 x (by omega) hx2
   ·rintro n2 ⟨T2,k',i'⟩ ⟨i,k,hn2,hi,hki,ei,ek,g1,g2,g3⟩
    dsimp only at ei ek g1 g2 g3;subst ei;subst ek;simp only [Mk,EC];by_cases c2:i<(E.getD v default).length
    ·have fin: ∀(z:Int),(T2.set v (T2.getD v default++[z])).length=E.length∧((T2.set v (T2.getD v default++[z])).getD v default).length=i+1∧ ∀x,x≠v→(T2.set v (T2.getD v default++[z])).getD x default=T.getD x default:=by
      intro z
      refine⟨by rw [Ki];exact g1, ?_,fun x hx=> ?_⟩
      ·rw [Ao _ _ (by rw [Ki];omega),oK,Nf,g2];rfl
      ·rw [Le,List.getElem?_set_ne (fun e=>hx e.symm),←Le];exact g3 x hx
     rw [if_pos (by omega),BL (by omega),BL (by omega),BL (by omega),BL (by omega),K4 i (by omega),K4 k (by omega)]
     left
     split
     ·exact⟨_,(E.getD v default).length-(i+1),rfl,by omega,i+1,k+1,rfl,by omega,by omega,rfl,rfl,fin _⟩
     ·exact⟨_,(E.getD v default).length-(i+1),rfl,by omega,i+1,k,rfl,by omega,by omega,rfl,rfl,fin _⟩
    ·rw [if_neg (by omega)]
     right
     exact⟨_,rfl,g1,by omega,g3⟩
  ·rw [if_neg (by omega)]
   right
   exact⟨_,rfl,hl,fun x hx=>h1 x (by omega)⟩
def Y9(E:List (List (Int×Int)))(K:List (List Bool))(x:Nat):List Nat:=(List.range (E.getD x default).length).filter (kpt K x)
theorem A33{E:List (List (Int×Int))}(ids ins:AB)(hn:E.length≤40)(h6: ∀v,v<E.length→(E.getD v default).length≤6)(hp: ∀v i,v<E.length→i<(E.getD v default).length→ ∃w p:Nat,BP (E.getD v default) i=(w:Int)∧Ck (E.getD v default) i=(p:Int)∧w<E.length∧p<(E.getD w default).length)(h1:ids.length<1099511627776)(h2:ins.length<1099511627776){K:List (List Bool)}(hK:ShK E K):
  ∃E',UC E ids ins K=some (E',ids,ins)∧E'.length=E.length∧ ∀x,x<E.length→(E'.getD x default).map (·.1)=(Y9 E K x).map (BP (E.getD x default)):=by
 obtain⟨T,t1,t2⟩:=A51 ids ins hn h6 hK;have hkl:=hK.len;have htl:=t2.len
 refine⟨(List.range E.length).map fun x=>(Y9 E K x).map fun y=>(BP (E.getD x default) y,(T.getD (BP (E.getD x default) y).toNat default).getD (Ck (E.getD x default) y).toNat default), ?_,by simp,fun x hx=> ?_⟩
 ·unfold UC Ku;rw [BL (by omega),t1,Cz,BL (by omega),Cz,BL (by omega),Cz]
  have key:=PZ (fun w=>LM E K T ids ins w.1 w.2) (List.range E.length) (fun x=>(Y9 E K x).map fun y=>(BP (E.getD x default) y,(T.getD (BP (E.getD x default) y).toNat default).getD (Ck (E.getD x default) y).toNat default)) ?_ ?_
  ·unfold Rs;rw [key];rfl
  ·intro x hx out ho;rw [Uc]at hx;have hd:=h6 x hx;have hkr:=hK.row x hx;simp only [LM,Ng]
   have inner:Po E K T ids ins out (x:Int) ([],0)=some ((Y9 E K x).map fun y=>(BP (E.getD x default) y,(T.getD (BP (E.getD x default) y).toNat default).getD (Ck (E.getD x default) y).toNat default)):=by
    unfold Po Y9;have k2:=Cf (fun w=>LJ E K T ids ins out (x:Int) w.1 w.2) (fun i=>(((List.range i).filter (kpt K x)).map fun y=>(BP (E.getD x default) y,(T.getD (BP (E.getD x default) y).toNat default).getD (Ck (E.getD x default) y).toNat default),(i:Int))) (E.getD x default).length (((List.range (E.getD x default).length).filter (kpt K x)).map fun y=>(BP (E.getD x default) y,(T.getD (BP (E.getD x default) y).toNat default).getD (Ck (E.getD x default) y).toNat default)) ?_ ?_
    ·exact k2
    ·intro i hi;obtain⟨w,p,q1,q2,q3,q4⟩:=hp x i hx hi;have htr:=t2.row w q3;have hfl:((List.range i).filter (kpt K x)).length≤i:=VH (List.length_filter_le _ _) (by simp)
     simp only [LJ,EC,q1,q2,SI];rw [if_pos (CL hi),BL (by omega),BL (by omega),BL (by omega),K4 i (by omega),fD,List.filter_append,List.map_append]
     by_cases c:(K.getD x default).getD i default=true
     ·have c':kpt K x i=true:=c;rw [if_pos c,BL (by omega),BL (by omega),BL (by omega)]
      simp only [c',List.filter_cons,List.filter_nil,if_true,VF,List.map_nil,q1,q2,EC]
     ·have c':kpt K x i=false:=Jw.2 c;rw [if_neg c];simp [c']
    ·simp only [LJ,EC];rw [if_neg (Az _)]
   rw [if_pos (CL hx),BL (by omega),inner,Cz,BL (by omega),K4 x (by omega)]
  ·intro out ho;simp only [LM,Uc];rw [if_neg (Az _)]
 ·rw [Ao _ _ (by simpa using hx)]
  simp only [Ni,Ng,List.map_map];rfl
end Go.Proofs.YtiehjihckndgkaaGreat
