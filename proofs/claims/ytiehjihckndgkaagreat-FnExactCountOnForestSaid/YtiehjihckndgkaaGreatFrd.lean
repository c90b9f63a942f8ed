/- Forests: program and reference agree. Conditions: the network is one. -/
import Derived.Test.YtiehjihckndgkaaGreatL6
import Derived.Test.YtiehjihckndgkaaGreatFre
namespace Go.Proofs.YtiehjihckndgkaaGreat
open Go Dv
set_option linter.unusedSimpArgs false
set_option linter.unusedVariables false
set_option maxRecDepth 100000
def Jz(E:List (List (Int×Int)))(v i:Nat):Nat:=(BP (E.getD v default) i).toNat
def SG(E:List (List (Int×Int)))(v i:Nat):Nat:=(Ck (E.getD v default) i).toNat
def Q4(E:List (List (Int×Int)))(v i:Nat):Bool:=(BP (E.getD v default) i==(v:Int))&&(Ck (E.getD v default) i==(i:Int))
def sK(E:List (List (Int×Int)))(v i x y:Nat):Bool:= !(decide (x=v)&&decide (y=i))&& !(decide (x=Jz E v i)&&decide (y=SG E v i))
def Q5(E:List (List (Int×Int)))(v i x:Nat):AB:=((List.range (E.getD x default).length).filter (sK E v i x)).map (BP (E.getD x default))
theorem Tq{E:List (List (Int×Int))}{v i x:Nat}{y:Int}:y∈Q5 E v i x↔ ∃k,k<(E.getD x default).length∧sK E v i x k=true∧y=BP (E.getD x default) k:=by
 unfold Q5;rw [NA]
 constructor
 ·rintro⟨k,hk,rfl⟩
  rw [List.mem_filter,MJ]at hk
  exact⟨k,hk.1,hk.2,rfl⟩
 ·rintro⟨k,h1,h2,rfl⟩
  exact⟨k,List.mem_filter.2 ⟨MJ.2 h1,h2⟩,rfl⟩
structure PortN(E:List (List (Int×Int))):Prop where
 big:E.length≤40∧1≤E.length
 deg: ∀v,v<E.length→(E.getD v default).length≤6
 prt: ∀v i,v<E.length→i<(E.getD v default).length→BP (E.getD v default) i=(Jz E v i:Int)∧Ck (E.getD v default) i=(SG E v i:Int)∧Jz E v i<E.length∧SG E v i<(E.getD (Jz E v i) default).length∧Jz E (Jz E v i) (SG E v i)=v∧SG E (Jz E v i) (SG E v i)=i
theorem Tt{E:List (List (Int×Int))}{ids ins:AB}(h:FX E ids ins=true):PortN E:=by
 obtain⟨h1,h2,h3,h4⟩:=O8 h
 refine⟨⟨h1,h2⟩,h3,fun v i hv hi=> ?_⟩
 obtain⟨w,p,q1,q2,q3,q4,q5,q6⟩:=h4 v i hv hi;unfold Jz SG;rw [q1,q2,EC,EC,q5,q6,EC,EC]
 exact⟨rfl,rfl,q3,q4,rfl,rfl⟩
def eQ(E:List (List (Int×Int)))(v i w j:Nat):List (List Bool):=
 ((RI E).set v (((RI E).getD v default).set i false)).set w ((((RI E).set v (((RI E).getD v default).set i false)).getD w default).set j false)
theorem LY{α:Type}[Inhabited α](l:List α)(a b:Nat)(x:α)(ha:a<l.length):(l.set a x).getD b default=if a=b then x else l.getD b default:=by
 by_cases e:a=b
 ·subst e;rw [if_pos rfl,Ao _ _ (by rw [Ki];exact ha),oK]
 ·rw [if_neg e,Le,List.getElem?_set_ne e,←Le]
theorem ny(E:List (List (Int×Int))):ShK E (RI E):=⟨by simp [RI],fun v hv=>by unfold RI;rw [Ao _ _ (by simpa using hv)];simp⟩
theorem yG{E:List (List (Int×Int))}{x y:Nat}(hx:x<E.length)(hy:y<(E.getD x default).length):((RI E).getD x default).getD y default=true:=by
 unfold RI;rw [Ao ((List.range E.length).map _) x (by simpa using hx)]
 simp only [Ni,Ng];rw [Ao _ _ (by simpa using hy),List.getElem_replicate]
theorem A36{E:List (List (Int×Int))}{v i w j:Nat}(hv:v<E.length)(hw:w<E.length):ShK E (eQ E v i w j):=by
 have ha:=ny E;have hl:=ha.len
 refine⟨by unfold eQ;rw [Ki,Ki,hl],fun x hx=> ?_⟩
 unfold eQ;rw [LY _ _ _ _ (by rw [Ki];omega)]
 split
 ·rename_i e
  subst e;rw [Ki,LY _ _ _ _ (by omega)]
  split
  ·rename_i e;subst e;rw [Ki];exact ha.row _ hx
  ·exact ha.row _ hx
 ·rw [LY _ _ _ _ (by omega)]
  split
  ·rename_i e;subst e;rw [Ki];exact ha.row _ hx
  ·exact ha.row _ hx
theorem A37{E:List (List (Int×Int))}{v i w j x y:Nat}(hv:v<E.length)(hi:i<(E.getD v default).length)(hw:w<E.length)(hj:j<(E.getD w default).length)(hx:x<E.length)(hy:y<(E.getD x default).length):
  kpt (eQ E v i w j) x y=(!(decide (x=v)&&decide (y=i))&& !(decide (x=w)&&decide (y=j))):=by
 have ha:=ny E;have hl:=ha.len;have hr:=ha.row x hx
 have inner: ∀z,z<E.length→z=x→(((RI E).set v (((RI E).getD v default).set i false)).getD z default).getD y default= !(decide (x=v)&&decide (y=i)):=by
  intro z hz e;subst e;rw [LY _ _ _ _ (by omega)]
  split
  ·rename_i e
   subst e;rw [LY _ _ _ _ (by rw [hr];exact hi)]
   split
   ·rename_i e;subst e;simp
   ·rename_i e
    rw [yG hx hy,decide_eq_false (p:=y=i) (fun q=>e q.symm)];simp
  ·rename_i e
   rw [yG hx hy,decide_eq_false (p:=z=v) (fun q=>e q.symm)];rfl
 unfold kpt eQ;rw [LY _ _ _ _ (by rw [Ki];omega)]
 split
 ·rename_i e
  subst e
  have hrow:(((RI E).set v (((RI E).getD v default).set i false)).getD w default).length=(E.getD w default).length:=by
   rw [LY _ _ _ _ (by omega)]
   split
   ·rename_i e;subst e;rw [Ki];exact hr
   ·exact hr
  rw [LY _ _ _ _ (by rw [hrow];exact hj)]
  split
  ·rename_i e;subst e;simp
  ·rename_i e
   rw [inner w hw rfl,decide_eq_false (p:=y=j) (fun q=>e q.symm)];simp
 ·rename_i e
  rw [inner x hx rfl,decide_eq_false (p:=x=w) (fun q=>e q.symm)];simp
theorem wQ{E:List (List (Int×Int))}{ids ins:AB}(H:PortN E)(h1:ids.length<1099511627776)(h2:ins.length<1099511627776){v i:Nat}(hv:v<E.length)(hi:i<(E.getD v default).length):
  ∃d,R5 E ids ins (v:Int) (i:Int)=some d∧ -1≤d∧d≤40∧(0≤d↔Cn (Q5 E v i) v (Jz E v i)):=by
 obtain⟨p1,p2,p3,p4,p5,p6⟩:=H.prt v i hv hi;have hn:=H.big;have hall:=ny E;have hal:=hall.len;have har:=hall.row v hv;have hK:=A36 (E:=E) (v:=v) (i:=i) (w:=Jz E v i) (j:=SG E v i) hv p3;obtain⟨E',c1,c2,c3⟩:=A33 ids ins hn.1 H.deg (fun x y hx hy=>by obtain⟨q1,q2,q3,q4,_⟩:=H.prt x y hx hy;exact⟨_,_,q1,q2,q3,q4⟩) h1 h2 hK
 have hrowF:(((RI E).set v (((RI E).getD v default).set i false)).getD (Jz E v i) default).length=(E.getD (Jz E v i) default).length:=by
  rw [LY _ _ _ _ (by omega)]
  split
  ·rename_i e;rw [Ki,←e];exact hall.row v hv
  ·exact hall.row _ p3
 have hkl: ∀x,(Y9 E (eQ E v i (Jz E v i) (SG E v i)) x).length≤(E.getD x default).length:=fun x=>VH (List.length_filter_le _ _) (by simp)
 have hd': ∀x,x<E'.length→(E'.getD x default).length≤6:=fun x hx=>by
  have:=congrArg List.length (c3 x (by omega))
  rw [SI,SI]at this;have:=hkl x
  have:=H.deg x (by omega)
  omega
 have hadj:FH E'=Q5 E v i:=by
  funext x
  unfold FH Q5;by_cases hx:x<E.length
  ·have hk:Y9 E (eQ E v i (Jz E v i) (SG E v i)) x=(List.range (E.getD x default).length).filter (sK E v i x):=by
    unfold Y9;refine List.filter_congr fun y hy=> ?_;rw [A37 hv hi p3 p4 hx (MJ.1 hy)];unfold sK;rfl
   rw [c3 x hx,hk]
  ·have e1:E'.getD x default=[]:=by rw [Le,eu (by omega)];rfl
   have e2:E.getD x default=[]:=by rw [Le,eu (by omega)];rfl
   rw [e1,e2];rfl
 have hA': ∀x,x<E'.length→ ∀y∈FH E' x,0≤y∧y.toNat<E'.length:=by
  intro x hx y hy;rw [hadj]at hy;obtain⟨k,k1,_,rfl⟩:=Tq.1 hy;obtain⟨q1,_,q3,_⟩:=H.prt x k (by omega) k1
  omega
 obtain⟨d1,d2⟩:=wN ids ins (by omega) hd' hA' v (by omega)
 refine⟨(O9 E' v).getD (Jz E v i) default, ?_, ?_, ?_, ?_⟩
 ·unfold R5;simp only [EC,p1,p2];rw [BL (by omega),BL (by omega),A0B ids ins hn.1 H.deg,Cz,BL (by omega),BL (by omega),BL (by omega),BL (by rw [hrowF];omega)]
  have e:UC E ids ins (((RI E).set v (((RI E).getD v default).set i false)).set (Jz E v i) ((((RI E).set v (((RI E).getD v default).set i false)).getD (Jz E v i) default).set (SG E v i) false))=some (E',ids,ins):=c1;rw [e,Cz,d1,Cz,BL (by rw [d2.len];omega)]
 ·exact d2.lo _ (by omega)
 ·have:=d2.hi (Jz E v i) (by omega)
  unfold at_ at this;omega
 ·have:=d2.conn (x:=Jz E v i) (by omega)
  rw [hadj]at this;exact this
theorem wR{E:List (List (Int×Int))}{ids ins:AB}(H:PortN E)(h1:ids.length<1099511627776)(h2:ins.length<1099511627776):
  ∃g,R6 E ids ins=some g∧0≤g∧(g=0↔ ∀v,v<E.length→ ∀i,i<(E.getD v default).length→Q4 E v i=false→ ¬Cn (Q5 E v i) v (Jz E v i)):=by
 have hn:=H.big;unfold R6 Oq;have key:=Rc (fun w=>Kg E ids ins w.1 w.2) (fun n s=> ∃v:Nat,n=E.length-v∧v≤E.length∧s.2=(v:Int)∧(0≤s.1∧s.1≤41)∧(s.1=0↔ ∀x,x<v→ ∀i,i<(E.getD x default).length→Q4 E x i=false→ ¬Cn (Q5 E x i) x (Jz E x i)))
  (fun g=>0≤g∧(g=0↔ ∀v,v<E.length→ ∀i,i<(E.getD v default).length→Q4 E v i=false→ ¬Cn (Q5 E v i) v (Jz E v i))) ?_ E.length ((0:Int),(0:Int)) ⟨0,rfl,by omega,rfl,⟨by omega,by omega⟩,⟨fun _ x hx=>by omega,fun _=>rfl⟩⟩
 ·obtain⟨g,e1,e2,e3⟩:=key;rw [e1]
  exact⟨g,rfl,e2,e3⟩
 ·rintro n ⟨o,v'⟩ ⟨v,hn',hv,ev,ho,hA⟩
  dsimp only at ev ho hA;subst ev;simp only [Kg];by_cases c:v<E.length
  ·have hd:=H.deg v c;rw [if_pos (by omega),BL (by omega)]
   have k2:=Rc (fun w=>Ke E ids ins (v:Int) w.1 w.2) (fun n s=> ∃i:Nat,n=(E.getD v default).length-i∧i≤(E.getD v default).length∧s.2=(i:Int)∧(0≤s.1∧s.1≤41)∧(s.1=0↔o=0∧ ∀k,k<i→Q4 E v k=false→ ¬Cn (Q5 E v k) v (Jz E v k)))
    (fun g=>(0≤g∧g≤41)∧(g=0↔o=0∧ ∀k,k<(E.getD v default).length→Q4 E v k=false→ ¬Cn (Q5 E v k) v (Jz E v k))) ?_ (E.getD v default).length (o,(0:Int)) ⟨0,rfl,by omega,rfl,ho,⟨fun e=>⟨e,fun k hk=>by omega⟩,fun e=>e.1⟩⟩
   ·obtain⟨g,e1,e2,e3⟩:=k2;have e1':Oo E ids ins (v:Int) (o,0)=some g:=e1;rw [e1',Cz,K4 v (by omega)]
    left
    refine⟨_,E.length-(v+1),rfl,by omega,v+1,rfl,by omega,rfl,e2, ?_⟩
    dsimp only;rw [e3,hA]
    constructor
    ·rintro⟨q1,q2⟩ x hx i hi hs
     by_cases e:x=v
     ·subst e;exact q2 i hi hs
     ·exact q1 x (by omega) i hi hs
    ·intro q
     exact⟨fun x hx=>q x (by omega),fun k hk=>q v (by omega) k hk⟩
   ·rintro n2 ⟨o2,i'⟩ ⟨i,hn2,hi,ei,ho2,hB⟩
    dsimp only at ei ho2 hB;subst ei;simp only [Ke,EC];by_cases c2:i<(E.getD v default).length
    ·rw [if_pos (by omega),BL (by omega),K4 i (by omega)]
     rw [show((BP (E.getD v default) i==(v:Int))&&(Ck (E.getD v default) i==(i:Int)))=Q4 E v i from rfl]
     left
     cases hs:Q4 E v i with
     |true=>
      rw [if_pos rfl]
      refine⟨_,(E.getD v default).length-(i+1),rfl,by omega,i+1,rfl,by omega,rfl,ho2, ?_⟩
      dsimp only;rw [hB]
      constructor
      ·rintro⟨q1,q2⟩
       refine⟨q1,fun k hk hks=> ?_⟩
       by_cases e:k=i
       ·subst e;rw [hs]at hks;cases hks
       ·exact q2 k (by omega) hks
      ·rintro⟨q1,q2⟩
       exact⟨q1,fun k hk=>q2 k (by omega)⟩
     |false=>
      obtain⟨d,d1,d2,d3,d4⟩:=wQ H h1 h2 c c2;rw [if_neg (by decide),d1,Cz]
      by_cases c3:0≤d
      ·have hbad: ∀z:Int,z≠0→(z=0↔o=0∧ ∀k,k<i+1→Q4 E v k=false→ ¬Cn (Q5 E v k) v (Jz E v k)):=fun z hz=>⟨fun e=>absurd e hz,fun q=>absurd (d4.1 c3) (q.2 i (by omega) hs)⟩
       rw [if_pos c3,I7 (d+1) (by omega)]
       by_cases c4:o2=0
       ·rw [if_pos c4]
        exact⟨_,(E.getD v default).length-(i+1),rfl,by omega,i+1,rfl,by omega,rfl,by dsimp only;omega,hbad _ (by dsimp only;omega)⟩
       ·rw [if_neg c4];by_cases c5:d+1<o2
        ·rw [if_pos c5]
         exact⟨_,(E.getD v default).length-(i+1),rfl,by omega,i+1,rfl,by omega,rfl,by dsimp only;omega,hbad _ (by dsimp only;omega)⟩
        ·rw [if_neg c5]
         exact⟨_,(E.getD v default).length-(i+1),rfl,by omega,i+1,rfl,by omega,rfl,ho2,hbad _ c4⟩
      ·rw [if_neg c3]
       refine⟨_,(E.getD v default).length-(i+1),rfl,by omega,i+1,rfl,by omega,rfl,ho2, ?_⟩
       dsimp only;rw [hB]
       constructor
       ·rintro⟨q1,q2⟩
        refine⟨q1,fun k hk hks=> ?_⟩
        by_cases e:k=i
        ·subst e;exact fun hc=>c3 (d4.2 hc)
        ·exact q2 k (by omega) hks
       ·rintro⟨q1,q2⟩
        exact⟨q1,fun k hk=>q2 k (by omega)⟩
    ·rw [if_neg (by omega)]
     right
     refine⟨_,rfl,ho2, ?_⟩
     have:i=(E.getD v default).length:=by omega
     subst this;exact hB
  ·rw [if_neg (by omega)]
   right
   have:v=E.length:=by omega
   subst this
   exact⟨_,rfl,ho.1,hA⟩
end Go.Proofs.YtiehjihckndgkaaGreat
