/- Functions of the program as plain functions, and what they compute. Conditions: those in each lemma. -/
import Derived.Test.YtclkfhhdikfcpaaL6
import Derived.Test.YtclkfhhdikfcpaaVcp
import Derived.Test.YtclkfhhdikfcpaaMtA
open Inhabited renaming default → be
open List renaming replicate → ao,range → an,sum_cons → cm,getElem_map → co,replicate_zero → cr,mem_singleton → ct,count_pos_iff → cw,count_eq_zero → cx
open Sum renaming inl → cc
open Bool renaming or_false → cq
namespace Go.Proofs.Ytclkfhhdikfcpaa
open Go Dv
set_option linter.unusedSimpArgs false
set_option linter.unusedVariables false
set_option maxRecDepth 100000
def SX(E:Aq)(v i:Nat):Int:=BH (E.getD v be) i
def Yn(E:Aq)(v i:Nat):Int:=CK (E.getD v be) i
def Fz(E:Aq)(v:Nat):Nat:=(E.getD v be).length
def gk(E:Aq)(ins c:AO)(v i j:Nat):Int:=
 if j=0 then(Fz E v:Int)else if j=1 then ins.getD v be else
 if(j-2) / 2<i then(if j % 2=0 then Yn E v ((j-2) / 2)else c.getD (SX E v ((j-2) / 2)).toNat be)else 0
def Yo(E:Aq)(ins c:AO)(v i:Nat):AO:=(an 14).map (gk E ins c v i)
def Kc(E:Aq)(ins c:AO)(v:Nat):AO:=Yo E ins c v (if c.isEmpty then 0 else Fz E v)
def KP(E:Aq)(ins:AO):Prop:=1≤E.length∧E.length≤40∧ins.length=E.length∧(∀v,v<E.length→Fz E v≤6)∧ ∀v i,v<E.length→i<Fz E v→0≤SX E v i∧(SX E v i).toNat<E.length
theorem qK(E:Aq)(ins c:AO)(v:Nat):Yo E ins c v 0=[(Fz E v:Int),ins.getD v be,0,0,0,0,0,0,0,0,0,0,0,0]:=rfl
theorem Yp(E:Aq)(ins c:AO)(v i:Nat):(Yo E ins c v i).length=14:=by simp [Yo]
theorem qL(E:Aq)(ins c:AO)(v i:Nat)(hi:i<6):((Yo E ins c v i).set (2+2*i) (Yn E v i)).set (3+2*i) (c.getD (SX E v i).toNat be)=Yo E ins c v (i+1):=by
 refine List.ext_getElem (by simp [Yo]) (fun j h1 h2=> ?_)
 have hj:j<14:=by simpa [Yo] using h2
 rw [List.getElem_set];split
 ·rename_i e
  subst e;simp only [Yo,co,XJ,gk];rw [if_neg (by omega),if_neg (by omega),if_pos (by omega),if_neg (by omega),show(3+2*i-2) / 2=i by omega]
 ·rename_i e
  rw [List.getElem_set];split
  ·rename_i e2
   subst e2;simp only [Yo,co,XJ,gk];rw [if_neg (by omega),if_neg (by omega),if_pos (by omega),if_pos (by omega),show(2+2*i-2) / 2=i by omega]
  ·rename_i e2
   simp only [Yo,co,XJ,gk];by_cases h0:j=0
   ·rw [if_pos h0,if_pos h0]
   ·rw [if_neg h0,if_neg h0];by_cases h3:j=1
    ·rw [if_pos h3,if_pos h3]
    ·rw [if_neg h3,if_neg h3];by_cases h4:(j-2) / 2<i
     ·rw [if_pos h4,if_pos (show(j-2) / 2<i+1 by omega)]
     ·rw [if_neg h4,if_neg (show ¬(j-2) / 2<i+1 by omega)]
def alk(E:Aq)(ins c:AO)(u v:Nat):Prop:=
 Fz E u=Fz E v∧ins.getD u be=ins.getD v be∧(c≠[]→ ∀i,i<Fz E u→Yn E u i=Yn E v i∧c.getD (SX E u i).toNat be=c.getD (SX E v i).toNat be)
theorem ul{E:Aq}{ins c:AO}{u v i k:Nat}:Yo E ins c u i=Yo E ins c v k↔ ∀j,j<14→gk E ins c u i j=gk E ins c v k j:=by
 unfold Yo
 constructor
 ·intro h j hj;have:=congrArg (fun l=>l[j]?) h
  simpa [jB hj] using this
 ·intro h;exact List.map_congr_left fun j hj=>h j (P7.1 hj)
theorem VY{E:Aq}{ins c:AO}{u v:Nat}(hu:Fz E u≤6)(hv:Fz E v≤6):Kc E ins c u=Kc E ins c v↔alk E ins c u v:=by
 unfold Kc;rw [ul]
 cases c with
 |nil=>
  simp only [List.isEmpty_nil,if_true]
  constructor
  ·intro h;have h0:=h 0 (by omega)
   have h1:=h 1 (by omega)
   simp only [gk]at h0 h1;have h0:(Fz E u:Int)=(Fz E v:Int):=by simpa using h0
   exact⟨by omega,by simpa using h1,fun hc=>(hc rfl).elim⟩
  ·rintro⟨h0,h1,_⟩ j hj
   simp only [gk,h0,h1,Nat.not_lt_zero,if_false]
 |cons x xs=>
  simp only [List.isEmpty_cons,JQ,if_false]
  constructor
  ·intro h;have h0:=h 0 (by omega)
   have h1:=h 1 (by omega)
   simp only [gk]at h0 h1;have hd:(Fz E u:Int)=(Fz E v:Int):=by simpa using h0
   have hd:Fz E u=Fz E v:=by omega
   refine⟨hd,by simpa using h1,fun _ i hi=>⟨?_, ?_⟩⟩
   ·have:=h (2+2*i) (by omega)
    simp only [gk]at this;rw [if_neg (by omega),if_neg (by omega),if_pos (by omega),if_pos (by omega),if_neg (by omega),if_neg (by omega),if_pos (by omega),if_pos (by omega),show(2+2*i-2) / 2=i by omega]at this
    exact this
   ·have:=h (3+2*i) (by omega)
    simp only [gk]at this;rw [if_neg (by omega),if_neg (by omega),if_pos (by omega),if_neg (by omega),if_neg (by omega),if_neg (by omega),if_pos (by omega),if_neg (by omega),show(3+2*i-2) / 2=i by omega]at this
    exact this
  ·rintro⟨hd,h1,h2⟩ j hj
   have h2:=h2 (by simp)
   simp only [gk];by_cases e0:j=0
   ·rw [if_pos e0,if_pos e0,hd]
   ·rw [if_neg e0,if_neg e0];by_cases e1:j=1
    ·rw [if_pos e1,if_pos e1,h1]
    ·rw [if_neg e1,if_neg e1];by_cases e2:(j-2) / 2<Fz E u
     ·obtain⟨q1,q2⟩:=h2 _ e2;rw [if_pos e2,if_pos (show(j-2) / 2<Fz E v by omega),q1,q2]
     ·rw [if_neg e2,if_neg (show ¬(j-2) / 2<Fz E v by omega)]
def KQ(E:Aq)(ins c:AO):AO:=(cl (Kc E ins c) E.length).1
theorem qM{E:Aq}{ins:AO}(hN:KP E ins)(ids c:AO)(hc:c.length=E.length)(t5:List (AO×Int))(t6:AO)(v:Nat)(hv:v<E.length):
  ER E ids ins c t5 t6 (v:Int) (Yo E ins c v 0,0)=some (Yo E ins c v (Fz E v)):=by
 obtain⟨h1,h40,hin,hd,hp⟩:=hN;have hd6:=hd v hv;have key:=CB (fun w=>DY E ids ins c t5 t6 (v:Int) w.1 w.2) (fun i=>(Yo E ins c v i,(i:Int))) (Fz E v) (Yo E ins c v (Fz E v)) (fun i hi=> ?_) ?_
 ·unfold ER;exact key
 ·obtain⟨q1,q2⟩:=hp v i hv hi;have hn:0≤BH (E.getD v be) i∧(BH (E.getD v be) i).toNat<c.length:=⟨q1,by rw [hc];exact q2⟩
  have e1:IntKind.i64.wrap (2*(i:Int))=((2*i:Nat):Int):=by rw [KI _ (by omega)];omega
  have e2:IntKind.i64.wrap (2+((2*i:Nat):Int))=((2+2*i:Nat):Int):=by rw [KI _ (by omega)];omega
  have e3:IntKind.i64.wrap (3+((2*i:Nat):Int))=((3+2*i:Nat):Int):=by rw [KI _ (by omega)];omega
  have hi':i<(E.getD v be).length:=hi;simp only [DY,JX,e1,e2,e3];rw [if_pos (Be hi'),Bb ⟨by omega,hi'⟩,Bb (by omega),Bb hn,Bb (by omega),Bb (by rw [Yp];omega),Bb (by omega),Bb (by rw [Yp];omega),KO i (by omega)]
  have:=qL E ins c v i (by omega)
  unfold Yn SX at this;rw [this]
 ·simp only [DY,JX];rw [if_neg (show ¬(Fz E v:Int)<((E.getD v be).length:Int)from Am _)]
theorem Ob(K:Nat→AO)(n i:Nat)(hi:i<n)(x:Int)(hx:x=cv K i):((cl K i).1++ao (n-i) 0).set i x=(cl K (i+1)).1++ao (n-(i+1)) 0:=by
 have hl:=NC K i;have:=qJ (cl K i).1 n x (by omega)
 rw [hl]at this;rw [this,Ym,hx]
theorem fM{E:Aq}{ins:AO}(hN:KP E ins)(ids c:AO)(hc:c.length=E.length):
  Fj E ids ins c ([],ao E.length 0,0)=some (KQ E ins c):=by
 have hN':=hN;obtain⟨h1,h40,hin,hd,hp⟩:=hN;have hne:c.isEmpty=false:=by cases c with|nil=>simp at hc;omega|cons=>rfl
 have hK: ∀v,Kc E ins c v=Yo E ins c v (Fz E v):=fun v=>by unfold Kc;rw [hne];rfl
 have key:=CB (fun w=>DZ E ids ins c w.1 w.2.1 w.2.2) (fun i=>(RG (Kc E ins c) i,(cl (Kc E ins c) i).1++ao (E.length-i) 0,(i:Int))) E.length (KQ E ins c) (fun i hi=> ?_) ?_
 ·unfold Fj;exact key
 ·have hlen:i<((cl (Kc E ins c) i).1++ao (E.length-i) 0).length:=by rw [KS,NC,bF];omega
  have hk0:=qM hN' ids c hc (RG (Kc E ins c) i) ((cl (Kc E ins c) i).1++ao (E.length-i) 0) i hi;rw [qK,←hK i]at hk0;have hk0:ER E ids ins c (RG (Kc E ins c) i) ((cl (Kc E ins c) i).1++ao (E.length-i) 0) (i:Int) ([((E.getD i be).length:Int),ins.getD i be,0,0,0,0,0,0,0,0,0,0,0,0],0)=some (Kc E ins c i):=hk0;have hl14:(Kc E ins c i).length=14:=by rw [hK];exact Yp _ _ _ _ _
  simp only [DZ,JX];rw [if_pos (Be hi),Bb ⟨by omega,hi⟩,Bb ⟨by omega,by omega⟩,hk0,Cq,Bb (show(Kc E ins c i).length≤14∧14≤(Kc E ins c i).length by omega),T9,KO i (by omega)]
  cases hf:Ag i (fun u=>Kc E ins c u==Kc E ins c i)with
  |some f=>
   simp only [if_true];rw [Bb ⟨by omega,hlen⟩,Ob _ _ _ hi _ (Oa hf).symm]
   rw [show RG (Kc E ins c) (i+1)=RG (Kc E ins c) i by rw [RG,hf]]
  |none=>
   simp only [JQ,if_false];rw [Bb ⟨by omega,hlen⟩,ic _ _ hf,Ob _ _ _ hi _ (by rw [ND hf,TA])]
 ·simp only [DZ];rw [if_neg (Am _),Qd,cr,TD];rfl
theorem qN{E:Aq}{ins:AO}(hN:KP E ins)(ids c:AO)(hc:c.length=E.length):Ip E ids ins c=some (KQ E ins c):=by
 have h40:=hN.2.1;unfold Ip;rw [Bb (by omega),fM hN ids c hc,Cq]
theorem ku{E:Aq}{ins:AO}(hN:KP E ins)(ids:AO)(t5:List (AO×Int))(t6:AO)(v:Nat)(hv:v<E.length):
  Dq E ids ins t5 t6 (v:Int) 0=some ():=by
 obtain⟨h1,h40,hin,hd,hp⟩:=hN;have hd6:=hd v hv;have key:=CB (fun w=>Cf E ids ins t5 t6 (v:Int) w) (fun i=>(i:Int)) (Fz E v) () (fun i hi=> ?_) ?_
 ·unfold Dq;exact key
 ·have hi':i<(E.getD v be).length:=hi;simp only [Cf,JX];rw [if_pos (Be hi'),Bb ⟨by omega,hi'⟩,KO i (by omega)]
 ·simp only [Cf,JX];rw [if_neg (show ¬(Fz E v:Int)<((E.getD v be).length:Int)from Am _)]
theorem ai{E:Aq}{ins:AO}(hN:KP E ins)(ids:AO):
  Dr E ids ins ([],ao E.length 0,0)=some (KQ E ins []):=by
 have hN':=hN;obtain⟨h1,h40,hin,hd,hp⟩:=hN;have hK: ∀v,Kc E ins [] v=[((E.getD v be).length:Int),ins.getD v be,0,0,0,0,0,0,0,0,0,0,0,0]:=fun v=>rfl;have key:=CB (fun w=>Cg E ids ins w.1 w.2.1 w.2.2) (fun i=>(RG (Kc E ins []) i,(cl (Kc E ins []) i).1++ao (E.length-i) 0,(i:Int))) E.length (KQ E ins []) (fun i hi=> ?_) ?_
 ·unfold Dr;exact key
 ·have hlen:i<((cl (Kc E ins []) i).1++ao (E.length-i) 0).length:=by rw [KS,NC,bF];omega
  have hk0:=ku hN' ids (RG (Kc E ins []) i) ((cl (Kc E ins []) i).1++ao (E.length-i) 0) i hi;simp only [Cg,JX];rw [if_pos (Be hi),Bb ⟨by omega,hi⟩,Bb ⟨by omega,by omega⟩,hk0,Cq,←hK i,T9,KO i (by omega)]
  cases hf:Ag i (fun u=>Kc E ins [] u==Kc E ins [] i)with
  |some f=>
   simp only [if_true];rw [Bb ⟨by omega,hlen⟩,Ob _ _ _ hi _ (Oa hf).symm]
   rw [show RG (Kc E ins []) (i+1)=RG (Kc E ins []) i by rw [RG,hf]]
  |none=>
   simp only [JQ,if_false];rw [Bb ⟨by omega,hlen⟩,ic _ _ hf,Ob _ _ _ hi _ (by rw [ND hf,TA])]
 ·simp only [Cg];rw [if_neg (Am _),Qd,cr,TD];rfl
theorem A3k{E:Aq}{ins:AO}(hN:KP E ins)(ids:AO):F4 E ids ins=some (KQ E ins []):=by
 have h40:=hN.2.1;unfold F4;rw [Bb (by omega),ai hN ids,Cq]
def fO(E:Aq)(c:AO)(u v i:Nat):Bool:=decide (Yn E u i=Yn E v i)&&decide (c.getD (SX E u i).toNat be=c.getD (SX E v i).toNat be)
def aj(E:Aq)(ins c:AO)(u v:Nat):Bool:=decide ((Fz E u:Int)=(Fz E v:Int))&&(decide (ins.getD u be=ins.getD v be)&&(an (Fz E u)).all (fun i=>c.isEmpty||fO E c u v i))
theorem qO{E:Aq}{ins c:AO}{u v:Nat}:aj E ins c u v=true↔alk E ins c u v:=by
 unfold aj alk;rw [FV,FV,decide_eq_true_eq,decide_eq_true_eq,Gf]
 constructor
 ·rintro⟨h1,h2,h3⟩
  refine⟨by omega,h2,fun hc i hi=> ?_⟩
  have:=h3 i hi
  rw [show c.isEmpty=false by cases c with|nil=>exact(hc rfl).elim|cons=>rfl,TE]at this
  unfold fO at this;simpa using this
 ·rintro⟨h1,h2,h3⟩
  refine⟨by omega,h2,fun i hi=> ?_⟩
  cases c with
  |nil=>rfl
  |cons x xs=>
   obtain⟨a,b⟩:=h3 (by simp) i hi
   rw [List.isEmpty_cons,TE];unfold fO;rw [a,b];simp
theorem AGL{E:Aq}{ins c:AO}{u v:Nat}(hu:Fz E u≤6)(hv:Fz E v≤6):(Kc E ins c u==Kc E ins c v)=aj E ins c u v:=by
 rw [Qb,qO,←VY hu hv];simp
theorem qP{E:Aq}{ins:AO}(hN:KP E ins)(ids c:AO)(hc:c=[]∨c.length=E.length)(u v:Nat)(hu:u<E.length)(hv:v<E.length):
  ML E ids ins c (u:Int) (v:Int)=some (aj E ins c u v):=by
 obtain⟨h1,h40,hin,hd,hp⟩:=hN;have hdu:=hd u hu;unfold ML aj;simp only [JX];rw [Bb ⟨by omega,hu⟩,Bb ⟨by omega,hv⟩]
 by_cases q1:(Fz E u:Int)=(Fz E v:Int)
 ·rw [if_pos (show((E.getD u be).length:Int)=((E.getD v be).length:Int)from q1),Bb ⟨by omega,by omega⟩,Bb ⟨by omega,by omega⟩,decide_eq_true q1,PZ]
  by_cases q2:ins.getD u be=ins.getD v be
  ·rw [if_pos q2,decide_eq_true q2,PZ];have key:=Iz (fun w=>Fp E ids ins c (u:Int) (v:Int) w) (fun i=>(i:Int)) (Fz E u) (fun i=>c.isEmpty||fO E c u v i) (.inl ()) (.inr ()) (fun i hi=> ?_) ?_
   ·rw [show JO E ids ins c (u:Int) (v:Int) 0=some (if(an (Fz E u)).all (fun i=>c.isEmpty||fO E c u v i)=true then .inr ()else .inl ())from by unfold JO;exact key,Cq]
    cases (an (Fz E u)).all (fun i=>c.isEmpty||fO E c u v i)<;>rfl
   ·have hi1:i<(E.getD u be).length:=hi
    have hi2:i<(E.getD v be).length:=by
     have:Fz E u=Fz E v:=by omega
     unfold Fz at this;omega
    simp only [Fp,JX];rw [if_pos (Be hi1),Bb ⟨by omega,hi1⟩,Bb ⟨by omega,hv⟩,Bb ⟨by omega,hi2⟩,KO i (by omega)]
    rcases hc with rfl|hc
    ·rw [if_neg (by simp)];rfl
    ·rw [if_pos (by omega)]
     have he:c.isEmpty=false:=by cases c with|nil=>simp at hc;omega|cons=>rfl
     have p1:=hp u i hu hi;have p2:=hp v i hv hi2;rw [he,TE];unfold fO;by_cases r1:Yn E u i=Yn E v i
     ·rw [if_pos (show CK (E.getD u be) i=CK (E.getD v be) i from r1),Bb (show 0≤BH (E.getD u be) i∧(BH (E.getD u be) i).toNat<c.length from⟨p1.1,by rw [hc];exact p1.2⟩),
       Bb (show 0≤BH (E.getD v be) i∧(BH (E.getD v be) i).toNat<c.length from⟨p2.1,by rw [hc];exact p2.2⟩),decide_eq_true r1,PZ]
      by_cases r2:c.getD (SX E u i).toNat be=c.getD (SX E v i).toNat be
      ·rw [if_pos (show c.getD (BH (E.getD u be) i).toNat be=c.getD (BH (E.getD v be) i).toNat be from r2),decide_eq_true r2,if_pos rfl]
      ·rw [if_neg (show ¬c.getD (BH (E.getD u be) i).toNat be=c.getD (BH (E.getD v be) i).toNat be from r2),decide_eq_false r2,if_neg (by decide)]
     ·rw [if_neg (show ¬CK (E.getD u be) i=CK (E.getD v be) i from r1),decide_eq_false r1,Bool.false_and,if_neg (by decide)]
   ·simp only [Fp,JX];rw [if_neg (show ¬(Fz E u:Int)<((E.getD u be).length:Int)from Am _)]
  ·rw [if_neg q2,decide_eq_false q2];rfl
 ·rw [if_neg (show ¬((E.getD u be).length:Int)=((E.getD v be).length:Int)from q1),decide_eq_false q1];rfl
theorem fP{E:Aq}{ins:AO}(hN:KP E ins)(ids c:AO)(hc:c=[]∨c.length=E.length)(out:AO)(many:Int)(i:Nat)(hi:i<E.length):
  J7 E ids ins c out many (i:Int) (-1,0)=some (match Ag i (fun u=>aj E ins c u i)with|some f=>(f:Int)|none=> -1):=by
 have h40:=hN.2.1
 have step: ∀j,j<i→Cn E ids ins c out many (i:Int) (-1) (j:Int)=if aj E ins c j i=true then some (.inl ((j:Int),((j+1:Nat):Int)))else some (.inl (-1,((j+1:Nat):Int))):=fun j hj=>by
  simp only [Cn];rw [if_pos (Be hj),if_pos (by decide),qP hN ids c hc j i (by omega) hi,Cq,KO j (by omega)]
 cases hf:Ag i (fun u=>aj E ins c u i)with
 |none=>
  have hno:=Jp hf;have key:=CB (fun w=>Cn E ids ins c out many (i:Int) w.1 w.2) (fun j=>((-1:Int),(j:Int))) i (-1) (fun j hj=> ?_) ?_
  ·unfold J7;exact key
  ·show Cn E ids ins c out many (i:Int) (-1) (j:Int)=_
   rw [step j hj,hno j hj,if_neg (by decide)]
  ·simp only [Cn];rw [if_neg (Am _)]
 |some f=>
  have hfi:=Dc hf;have hmin:=OH hf;have key:=CB (fun w=>Cn E ids ins c out many (i:Int) w.1 w.2) (fun j=>if j≤f then((-1:Int),(j:Int))else((f:Int),((f+1:Nat):Int))) (f+1) (f:Int) (fun j hj=> ?_) ?_
  ·unfold J7;exact key
  ·rw [if_pos (by omega)]
   show Cn E ids ins c out many (i:Int) (-1) (j:Int)=_
   rw [step j (by omega)]
   by_cases e:j=f
   ·subst e;rw [hfi.2,if_pos rfl,if_neg (by omega)]
   ·rw [hmin j (by omega),if_neg (by decide),if_pos (by omega)]
  ·rw [if_neg (by omega)]
   simp only [Cn];by_cases e:((f+1:Nat):Int)<(i:Int)
   ·rw [if_pos e,if_neg (by omega)]
   ·rw [if_neg e]
theorem ig{E:Aq}{ins:AO}(hN:KP E ins)(ids c:AO)(hc:c=[]∨c.length=E.length):L9 E ids ins c=some (KQ E ins c):=by
 have hN':=hN;obtain⟨h1,h40,hin,hd,hp⟩:=hN;have key:=CB (fun w=>Gx E ids ins c w.1 w.2.1 w.2.2) (fun i=>((cl (Kc E ins c) i).1++ao (E.length-i) 0,((cl (Kc E ins c) i).2:Int),(i:Int))) E.length (KQ E ins c) (fun i hi=> ?_) ?_
 ·unfold L9;rw [Bb (by omega),show K9 E ids ins c (ao E.length 0,0,0)=_ from by unfold K9;exact key,Cq]
 ·have hl:=NC (Kc E ins c) i;have hlen:i<((cl (Kc E ins c) i).1++ao (E.length-i) 0).length:=by rw [KS,hl,bF];omega
  have hm:=NE (Kc E ins c) i;have hle:=iY (Kc E ins c) i;simp only [Gx,JX]
  rw [if_pos (Be hi),fP hN' ids c hc _ _ i hi,Cq,KO i (by omega),
   ←HY (P:=fun u=>Kc E ins c u==Kc E ins c i) (fun u hu=>AGL (hd u (by omega)) (hd i hi))]
  cases hf:Ag i (fun u=>Kc E ins c u==Kc E ins c i)with
  |some f=>
   have hfi:=(Dc hf).1;rw [hf]at hm;simp only at hm;simp only [JX];rw [if_pos (by omega),Bb ⟨by omega,by omega⟩,Bb ⟨by omega,hlen⟩,RF (by omega),VX _ _ _ hfi,Ob _ _ _ hi _ (Oa hf).symm,hm]
  |none=>
   rw [hf]at hm;have hm:(cl (Kc E ins c) (i+1)).2=(cl (Kc E ins c) i).2+1:=hm;simp only;rw [if_neg (by decide),Bb ⟨by omega,hlen⟩,Ob _ _ _ hi _ (ND hf).symm,hm,KO _ (by omega)]
 ·simp only [Gx];rw [if_neg (Am _),Qd,cr,TD];rfl
def PW(E:Aq)(ins:AO):Nat→AO
 |0=>KQ E ins []
 |t+1=>KQ E ins (PW E ins t)
theorem Ju(E:Aq)(ins:AO)(t:Nat):(PW E ins t).length=E.length:=by cases t<;>exact NC _ _
theorem AAT{E:Aq}{ins:AO}(hN:KP E ins)(ids:AO)(t:Nat)(ht:t≤1000):IE E ids ins (t:Int)=some (PW E ins t):=by
 have key:=CB (fun w=>ES E ids ins w.1 w.2) (fun k=>((t:Int)-(k:Int),PW E ins k)) t (PW E ins t) (fun k hk=> ?_) ?_
 ·unfold IE;rw [ig hN ids [] (.inl rfl),Cq];have e:(t:Int)-((0:Nat):Int)=(t:Int):=by omega
  rw [e]at key;rw [show IC E ids ins ((t:Int),KQ E ins [])=_ from by unfold IC;exact key,Cq]
 ·simp only [ES];rw [if_pos (by omega),ig hN ids _ (.inr (Ju E ins k)),Cq,KI _ (by omega),show(t:Int)-(k:Int)-1=(t:Int)-((k+1:Nat):Int) by omega];rfl
 ·simp only [ES];rw [if_neg (by omega)]
def fQ(l:AO):Prop:= ∀x∈l,0≤x∧x≤99
theorem OI: ∀(l:AO),fQ l→0≤Hr l∧Hr l≤100:=by
 have key: ∀(l:AO) (a:Int),fQ l→0≤a→a≤100→0≤l.foldl (fun a x=>max a (x+1)) a∧l.foldl (fun a x=>max a (x+1)) a≤100:=by
  intro l
  induction l with
  |nil=>intro a _ h1 h2;exact⟨h1,h2⟩
  |cons x l ih=>
   intro a h h1 h2;have:=h x LF
   exact ih _ (fun y hy=>h y (Jb _ hy)) (show 0≤max a (x+1) by omega) (show max a (x+1)≤100 by omega)
 exact fun l h=>key l 0 h (by omega) (by omega)
theorem fQ.take{l:AO}(h:fQ l)(i:Nat):fQ (l.take i):=fun x hx=>h x (List.mem_of_mem_take hx)
theorem RH(l:AO)(i:Nat)(hi:i<l.length):Hr (l.take (i+1))=max (Hr (l.take i)) (l.getD i be+1):=by
 rw [XK,GM hi,KG,GM hi];exact XG _ _
theorem ik(l:AO)(h:fQ l)(h1:1≤l.length)(h2:l.length≤1000):F5 l=some (Hr l):=by
 have key:=CB (fun w=>Bj l w.1 w.2) (fun i=>(Hr (l.take (i+1))-1,((i+1:Nat):Int))) (l.length-1) (Hr l-1) (fun i hi=> ?_) ?_
 ·have h0:=RH l 0 (by omega)
  have hx:=h l[0] (Jc (by omega))
  have hg:l.getD 0 be=l[0]:=BA l 0 (by omega)
  have hr:=OI l h;simp only [List.take_zero]at h0;have e0:Hr []=0:=rfl;have e:Hr (l.take (0+1))-1=l.getD 0 be:=by rw [h0,e0,hg];omega
  rw [e]at key;unfold F5 Eg;rw [if_neg (by omega),Bb (by omega),show Co l (l.getD 0 be,1)=_ from by unfold Co;exact key,Cq,Cq,KI _ (by omega)]
  congr 1;omega
 ·have hi':i+1<l.length:=by omega
  have ht:=RH l (i+1) hi';have hr:=OI _ (h.take (i+1));have hx:=h l[i+1] (Jc hi');have hg:l.getD (i+1) be=l[i+1]:=BA l _ hi';simp only [Bj,JX];rw [if_pos (Be hi'),Bb ⟨by omega,hi'⟩,KO _ (by omega),ht,hg]
  have:TF (Hr (l.take (i+1))-1) l[i+1]=max (Hr (l.take (i+1))) (l[i+1]+1)-1:=by unfold TF;split<;>omega
  rw [this]
 ·have hl:l.length-1+1=l.length:=by omega
  simp only [Bj,hl];rw [if_neg (Am _),XL]
theorem um(l:AO)(h:fQ l)(h2:l.length≤1000):LC l=some (Hr l):=by
 have key:=CB (fun w=>H6 l w.1 w.2) (fun i=>(Hr (l.take i),(i:Int))) l.length (Hr l) (fun i hi=> ?_) ?_
 ·unfold LC;rw [show KC l (0,0)=_ from by unfold KC;exact key,Cq]
 ·have ht:=RH l i hi;have hr:=OI _ (h.take i);have hx:=h l[i] (Jc hi);have hg:l.getD i be=l[i]:=BA l i hi;simp only [H6,JX];rw [if_pos (Be hi),Bb ⟨by omega,hi⟩,hg,KI _ (by omega),KO i (by omega),ht,hg]
  unfold QQ;by_cases e:l[i]+1<Hr (l.take i)
  ·rw [if_pos e,Cq,show max (Hr (l.take i)) (l[i]+1)=Hr (l.take i) by omega]
  ·rw [if_neg e,Cq,show max (Hr (l.take i)) (l[i]+1)=l[i]+1 by omega]
 ·simp only [H6];rw [if_neg (Am _),XL]
def SY(E:Aq)(ins:AO):Nat→Nat→AO
 |0=>Kc E ins []
 |t+1=>Kc E ins (PW E ins t)
theorem Yq(E:Aq)(ins:AO)(t:Nat):PW E ins t=(cl (SY E ins t) E.length).1:=by cases t<;>rfl
theorem il{E:Aq}{ins:AO}{t u:Nat}(hu:u<E.length):(PW E ins t).getD u be=cv (SY E ins t) u:=by rw [Yq];exact VX _ _ _ hu
theorem ak{E:Aq}{ins:AO}{t u v:Nat}(hu:u<E.length)(hv:v<E.length):(PW E ins t).getD u be=(PW E ins t).getD v be↔SY E ins t u=SY E ins t v:=by
 rw [il hu,il hv];exact A3j _ _ _
theorem Yr{E:Aq}{ins:AO}(hN:KP E ins)(t:Nat):fQ (PW E ins t):=by
 intro x hx;have h40:=hN.2.1;rw [Yq,qH,Jd]at hx;obtain⟨u,hu,rfl⟩:=hx;have:=qI (SY E ins t) E.length u (P7.1 hu)
 have h2:=iY (SY E ins t) E.length;omega
theorem qQ{E:Aq}{ins:AO}(hN:KP E ins): ∀(t u v:Nat),u<E.length→v<E.length→SY E ins (t+1) u=SY E ins (t+1) v→SY E ins t u=SY E ins t v:=by
 obtain⟨h1,h40,hin,hd,hp⟩:=hN;have ne: ∀t,PW E ins t≠[]:=fun t hc=>by have:=Ju E ins t;rw [hc]at this;simp at this;omega
 intro t
 induction t with
 |zero=>
  intro u v hu hv h;obtain⟨a,b,_⟩:=(VY (hd u hu) (hd v hv)).1 h
  exact(VY (hd u hu) (hd v hv)).2 ⟨a,b,fun hc=>(hc rfl).elim⟩
 |succ t ih=>
  intro u v hu hv h;obtain⟨a,b,c⟩:=(VY (hd u hu) (hd v hv)).1 h
  refine(VY (hd u hu) (hd v hv)).2 ⟨a,b,fun _ i hi=> ?_⟩
  obtain⟨c1,c2⟩:=c (ne _) i hi;have q1:=(hp u i hu hi).2;have q2:=(hp v i hv (by omega)).2
  exact⟨c1,(ak q1 q2).2 (ih _ _ q1 q2 ((ak q1 q2).1 c2))⟩
def au(E:Aq)(ins:AO)(t:Nat):Nat:=(cl (SY E ins t) E.length).2
theorem iq(E:Aq)(ins:AO)(t:Nat):Hr (PW E ins t)=(au E ins t:Int):=by rw [Yq];exact iZ _ _
theorem qR{E:Aq}{ins:AO}(hN:KP E ins)(t:Nat):au E ins t≤au E ins (t+1):=ib _ fun u w hu hw=>qQ hN t u w hu hw
theorem uo{E:Aq}{ins:AO}(hN:KP E ins): ∃T,T≤40∧au E ins (T+1)=au E ins T∧ ∀t,t<T→au E ins (t+1)≠au E ins t:=by
 have h40:=hN.2.1
 cases hf:Ag 41 (fun t=>decide (au E ins (t+1)=au E ins t))with
 |some T=>
  obtain⟨a,b⟩:=Dc hf
  refine⟨T,by omega,by simpa using b,fun t ht=> ?_⟩
  have:=OH hf t ht
  simpa using this
 |none=>
  have hno:=Jp hf
  have: ∀t,t≤41→t≤au E ins t:=by
   intro t
   induction t with
   |zero=>intro _;exact Nat.zero_le _
   |succ t ih=>
    intro ht;have a:=hno t (by omega)
    have b:=qR hN t;have c:=ih (by omega)
    have a: ¬au E ins (t+1)=au E ins t:=by simpa using a
    omega
  have a:=this 41 (IG _);have b:=iY (SY E ins 41) E.length;unfold au at a;omega
theorem av{E:Aq}{ins:AO}(hN:KP E ins)(ids:AO): ∃T:Nat,T≤40∧OE E ids ins=some ((T:Int),PW E ins T)∧MN E ids ins=some (PW E ins T)∧au E ins (T+1)=au E ins T:=by
 obtain⟨T,hT,he,hne⟩:=uo hN;have h40:=hN.2.1;have h1:=hN.1;have ci: ∀t,F5 (PW E ins t)=some (au E ins t:Int):=fun t=>by rw [ik _ (Yr hN t) (by rw [Ju];exact h1) (by rw [Ju];omega),iq]
 have cs: ∀t,LC (PW E ins t)=some (au E ins t:Int):=fun t=>by rw [um _ (Yr hN t) (by rw [Ju];omega),iq]
 refine⟨T,hT, ?_, ?_,he⟩
 ·have key:=CB (fun w=>Gz E ids ins w.1 w.2) (fun t=>(PW E ins t,(t:Int))) T ((T:Int),PW E ins T) (fun t ht=> ?_) ?_
  ·unfold OE;rw [A3k hN ids,Cq,show KA E ids ins (KQ E ins [],0)=_ from by unfold KA;exact key,Cq]
  ·simp only [Gz];rw [qN hN ids _ (Ju E ins t),Cq,show KQ E ins (PW E ins t)=PW E ins (t+1)from rfl,ci,Cq,ci,Cq,if_neg (by have:=hne t ht;omega),KO t (by omega)]
  ·simp only [Gz];rw [qN hN ids _ (Ju E ins T),Cq,show KQ E ins (PW E ins T)=PW E ins (T+1)from rfl,ci,Cq,ci,Cq,if_pos (by omega)]
 ·have key:=CB (fun w=>Er E ids ins w.1 w.2) (fun t=>(PW E ins t,(t:Int))) T (T:Int) (fun t ht=> ?_) ?_
  ·have k0:LD E ids ins=some (T:Int):=by
    unfold LD;rw [show IE E ids ins (0:Int)=_ from AAT hN ids 0 (by omega),Cq,show Iu E ids ins (PW E ins 0,0)=_ from by unfold Iu;exact key,Cq]
   unfold MN;rw [k0,Cq,AAT hN ids T (by omega),Cq]
  ·simp only [Er];rw [ig hN ids _ (.inr (Ju E ins t)),Cq,show KQ E ins (PW E ins t)=PW E ins (t+1)from rfl,cs,Cq,cs,Cq,if_neg (by have:=hne t ht;omega),KO t (by omega)]
  ·simp only [Er];rw [ig hN ids _ (.inr (Ju E ins T)),Cq,show KQ E ins (PW E ins T)=PW E ins (T+1)from rfl,cs,Cq,cs,Cq,if_pos (by omega)]
def Oz(E:Aq)(v i:Nat):Bool:=decide ((v:Int)<BH (E.getD v be) i)||(decide ((v:Int)=BH (E.getD v be) i)&&decide ((i:Int)≤CK (E.getD v be) i))
def bC(E:Aq)(v:Nat):Nat→List (Int×Int×Int×Int)
 |0=>[]
 |i+1=>if Oz E v i=true then bC E v i++[((v:Int),(i:Int),BH (E.getD v be) i,CK (E.getD v be) i)]else bC E v i
def kv(E:Aq):Nat→List (Int×Int×Int×Int)
 |0=>[]
 |v+1=>kv E v++bC E v (E.getD v be).length
theorem Yt(E:Aq)(v:Nat): ∀i,(bC E v i).length≤i
 |0=>IG _
 |i+1=>by
  have:=Yt E v i
  unfold bC;split
  ·rw [KS,bG];omega
  ·omega
theorem Yu(E:Aq)(h: ∀v,v<E.length→(E.getD v be).length≤6): ∀v,v≤E.length→(kv E v).length≤6*v
 |0,_=>IG _
 |v+1,hv=>by
  have h1:=Yu E h v (by omega)
  have h2:=Yt E v (E.getD v be).length;have h3:=h v (by omega)
  unfold kv;rw [KS];omega
theorem iw(E:Aq)(v:Nat)(x:Int×Int×Int×Int): ∀n,x∈bC E v n↔ ∃i,i<n∧Oz E v i=true∧x=((v:Int),(i:Int),BH (E.getD v be) i,CK (E.getD v be) i)
 |0=>by simp [bC]
 |n+1=>by
  have ih:=iw E v x n;unfold bC;split
  ·rename_i hc
   rw [MU,ct,ih]
   constructor
   ·rintro(⟨i,h1,h2,h3⟩|h)
    ·exact⟨i,by omega,h2,h3⟩
    ·exact⟨n,by omega,hc,h⟩
   ·rintro⟨i,h1,h2,h3⟩
    by_cases e:i=n
    ·subst e;exact .inr h3
    ·exact .inl ⟨i,by omega,h2,h3⟩
  ·rename_i hc
   rw [ih]
   constructor
   ·rintro⟨i,h1,h2,h3⟩;exact⟨i,by omega,h2,h3⟩
   ·rintro⟨i,h1,h2,h3⟩
    by_cases e:i=n
    ·subst e;exact absurd h2 hc
    ·exact⟨i,by omega,h2,h3⟩
theorem TB(E:Aq)(x:Int×Int×Int×Int): ∀n,x∈kv E n↔ ∃v i,v<n∧i<(E.getD v be).length∧Oz E v i=true∧x=((v:Int),(i:Int),BH (E.getD v be) i,CK (E.getD v be) i)
 |0=>by simp [kv]
 |n+1=>by
  unfold kv;rw [MU,TB E x n,iw]
  constructor
  ·rintro(⟨v,i,h1,h2⟩|⟨i,h1,h2⟩)
   ·exact⟨v,i,by omega,h2⟩
   ·exact⟨n,i,by omega,h1,h2⟩
  ·rintro⟨v,i,h1,h2,h3⟩
   by_cases e:v=n
   ·subst e;exact .inr ⟨i,h2,h3⟩
   ·exact .inl ⟨v,i,by omega,h2,h3⟩
theorem qU(E:Aq)(v:Nat)(out:List (Int×Int×Int×Int))(hd:(E.getD v be).length≤6)(ho:out.length≤1000):
  Ed E (v:Int) (out,0)=some (out++bC E v (E.getD v be).length):=by
 unfold Ed;have key:=CB (fun w=>D7 E (v:Int) w.1 w.2) (fun i=>(out++bC E v i,(i:Int))) (E.getD v be).length (out++bC E v (E.getD v be).length) ?_ ?_
 ·have e:((0:Nat):Int)=0:=rfl;simp only [e,bC,TD]at key;exact key
 ·intro i hi;have hl:=Yt E v i;have hlen:(out++bC E v i).length*4+4<1099511627776:=by rw [KS];omega
  simp only [D7,JX];rw [if_pos (Be hi),Bb (by omega),KO i (by omega)]
  have hc:Oz E v i=(decide ((v:Int)<BH (E.getD v be) i)||(decide ((v:Int)=BH (E.getD v be) i)&&decide ((i:Int)≤CK (E.getD v be) i))):=rfl;have hs:bC E v (i+1)=if Oz E v i=true then bC E v i++[((v:Int),(i:Int),BH (E.getD v be) i,CK (E.getD v be) i)]else bC E v i:=rfl
  rw [hs];by_cases c1:(v:Int)<BH (E.getD v be) i
  ·rw [if_pos c1,Bb hlen,if_pos (by rw [hc,decide_eq_true c1];rfl),P5]
  ·rw [if_neg c1];by_cases c2:(v:Int)=BH (E.getD v be) i
   ·rw [if_pos c2];by_cases c3:(i:Int)≤CK (E.getD v be) i
    ·rw [if_pos c3,Bb hlen,if_pos (by rw [hc,decide_eq_true c2,decide_eq_true c3,Vg,Bool.or_true]),P5]
    ·rw [if_neg c3,if_neg (by rw [hc,decide_eq_false c1,decide_eq_false c3,Bool.and_false];simp)]
   ·rw [if_neg c2,if_neg (by rw [hc,decide_eq_false c1,decide_eq_false c2];simp)]
 ·simp only [D7,JX];rw [if_neg (Am _)]
theorem qV(E:Aq)(ids ins:AO)(hE:E.length≤40)(hd: ∀v,v<E.length→(E.getD v be).length≤6):GV E ids ins=some (kv E E.length):=by
 unfold GV GK;have key:=CB (fun w=>D8 E w.1 w.2) (fun v=>(kv E v,(v:Int))) E.length (kv E E.length) ?_ ?_
 ·have e:((0:Nat):Int)=0:=rfl;simp only [e]at key;rw [show(([],0):List (Int×Int×Int×Int)×Int)=(kv E 0,0)from rfl,key];rfl
 ·intro v hv;have hl:=Yu E hd v (by omega)
  simp only [D8];rw [if_pos (Be hv),Bb (by omega),qU E v _ (hd v hv) (by omega),Cq,KO v (by omega)]
  rfl
 ·simp only [D8];rw [if_neg (Am _)]
theorem A3l(L:List (Int×Int×Int×Int))(f:Int→Int→Int→Int→Option Bool)(p:Int×Int×Int×Int→Bool)(hL:L.length<1099511627776)(hf: ∀x∈L,f x.1 x.2.1 x.2.2.1 x.2.2.2=some (p x)):
  Ac L f=some (L.any p):=by
 unfold Ac Ah Af;have key:=MP (fun v=>AZ L f v) (fun i=>(i:Int)) L.length (fun i=>p (L.getD i be)) (fun i=> .inl (i:Int)) (.inr ()) ?_ ?_
 ·rw [Lu]at key;rw [key]
  have hany:L.any p=(Ag L.length fun i=>p (L.getD i be)).isSome:=by
   rw [Qb,Dt,List.any_eq_true]
   constructor
   ·rintro⟨x,hx,hp⟩
    obtain⟨i,hi,rfl⟩:=bJ hx
    exact⟨i,hi,by rw [BA _ _ hi];exact hp⟩
   ·rintro⟨i,hi,hp⟩
    rw [BA _ _ hi]at hp
    exact⟨_,Jc hi,hp⟩
  rw [hany]
  cases Ag L.length fun i=>p (L.getD i be)with
  |none=>rfl
  |some i=>simp
 ·intro i hi;have hx:=hf _ (Jc hi);simp only [AZ,JX,q4a,q4b,q4c,q4d];rw [if_pos (Be hi),Bb (by omega),BA _ _ hi,hx,Cq,KO i (by omega)]
 ·simp only [AZ];rw [if_neg (Am _)]
theorem uq(E:Aq)(ids ins:AO)(v:Nat)(hv:v<E.length)(hd:(E.getD v be).length≤6):OA E ids ins (v:Int)=some ((E.getD v be).map (·.1)):=by
 unfold OA Ld;rw [Bb (by omega)]
 have key:=CB (fun x=>Gr E (v:Int) x.1 x.2) (fun i=>(((E.getD v be).take i).map (·.1),(i:Int))) (E.getD v be).length ((E.getD v be).map (·.1)) ?_ ?_
 ·have e:((0:Nat):Int)=0:=rfl;simp only [e,List.take_zero,List.map_nil]at key;rw [key];rfl
 ·intro i hi;simp only [Gr,JX];rw [if_pos (Be hi),Bb (by omega),Bb (by rw [P6,Lt];omega),KO i (by omega),XK,GM hi,List.map_append]
  unfold BH;rw [BA (E.getD v be) _ hi];rfl
 ·simp only [Gr,JX];rw [if_neg (Am _),XL]
def Sa(E:Aq)(l:AO)(u i:Nat):Bool:=((E.getD u be).map (·.1)).contains (((u+i:Nat):Int))&&decide (l.getD u be=l.getD (u+i) be)
theorem iy(E:Aq)(ids ins l:AO)(hE:E.length≤40)(hd: ∀v,v<E.length→(E.getD v be).length≤6)(hl:l.length=E.length):
  ∃a b,OB E ids ins l=some (a,b,(Ag E.length fun u=>(Ag (E.length-u) (Sa E l u)).isSome).isSome):=by
 have inner: ∀u:Nat,u<E.length→K6 E ids ins l (u:Int) ((E.getD u be).map (·.1)) (u:Int)=some (match Ag (E.length-u) (Sa E l u)with|some i=> .inl (((u+i:Nat):Int))|none=> .inr ()):=by
  intro u hu;have hdu:=hd u hu;have key:=MP (fun v=>Gt E ids ins l (u:Int) ((E.getD u be).map (·.1)) v) (fun i=>((u+i:Nat):Int)) (E.length-u) (Sa E l u) (fun i=> .inl (((u+i:Nat):Int))) (.inr ()) ?_ ?_
  ·unfold K6;rw [Nat.add_zero]at key;exact key
  ·intro i hi;simp only [Gt,JX];rw [if_pos (Be (by omega)),Bb (by rw [P6];omega),KO (u+i) (by omega)]
   unfold Sa
   cases hc:((E.getD u be).map (·.1)).contains (((u+i:Nat):Int))with
   |false=>rfl
   |true=>
    rw [if_pos rfl,Bb (by omega),Bb (by omega),PZ]
    by_cases e:l.getD u be=l.getD (u+i) be
    ·rw [if_pos e,decide_eq_true e];rfl
    ·rw [if_neg e,decide_eq_false e];rfl
  ·simp only [Gt];rw [if_neg (by omega)]
 have key:=MP (fun v=>Gu E ids ins l v) (fun i=>(i:Int)) E.length (fun u=>(Ag (E.length-u) (Sa E l u)).isSome) (fun u=> .inl ((u:Int),match Ag (E.length-u) (Sa E l u)with|some i=>((u+i:Nat):Int)|none=>0)) (.inr ()) ?_ ?_
 ·unfold OB Le;rw [Lu]at key;rw [key]
  cases Ag E.length fun u=>(Ag (E.length-u) (Sa E l u)).isSome with
  |none=>exact⟨0,0,rfl⟩
  |some u=>exact⟨_,_,rfl⟩
 ·intro u hu;simp only [Gu];rw [if_pos (Be hu),uq E ids ins u hu (hd u hu),Cq,inner u hu,Cq,KO u (by omega)]
  cases Ag (E.length-u) (Sa E l u)<;>rfl
 ·simp only [Gu];rw [if_neg (Am _)]
theorem MQ{E:Aq}{ids ins:AO}(h:Il E ids ins=true):E.length≤40∧1≤E.length∧(∀v,v<E.length→(E.getD v be).length≤6)∧
  ∀v i,v<E.length→i<(E.getD v be).length→ ∃w p:Nat,BH (E.getD v be) i=(w:Int)∧CK (E.getD v be) i=(p:Int)∧w<E.length∧p<(E.getD w be).length∧BH (E.getD w be) p=(v:Int)∧CK (E.getD w be) p=(i:Int):=by
 unfold Il at h;simp only [FV]at h;obtain⟨h1,_,_,_,h5⟩:=h;have h1:=KW.1 h1;have hn: ∀v,v<E.length→QN E v=true:=Gf.1 h5
 refine⟨by omega,by omega,fun v hv=> ?_,fun v i hv hi=> ?_⟩
 ·have:=hn v hv
  rw [OX,FV,decide_eq_true_eq]at this;exact this.1
 ·have:=hn v hv
  rw [OX,FV]at this;have:=Gf.1 this.2 i hi
  rw [R6]at this;simp only [FV,beq_iff_eq]at this;obtain⟨k1,k2,k3,k4⟩:=this;have k1:=KW.1 k1;have k2:=KW.1 k2
  refine⟨(BH (E.getD v be) i).toNat,(CK (E.getD v be) i).toNat,by omega,by omega,by omega,by omega,k3,k4⟩
theorem qW(E:Aq)(ids ins l:AO)(h:Il E ids ins=true):
  (kv E E.length).any (fun x=>decide (l.getD x.1.toNat be=l.getD x.2.2.1.toNat be))=(Ag E.length fun u=>(Ag (E.length-u) (Sa E l u)).isSome).isSome:=by
 obtain⟨_,_,_,hp⟩:=MQ h;rw [Qb,List.any_eq_true,Dt]
 have mem_map: ∀(u:Nat) (x:Int),x∈(E.getD u be).map (·.1)↔ ∃i,i<(E.getD u be).length∧BH (E.getD u be) i=x:=by
  intro u x;rw [Jd]
  constructor
  ·rintro⟨y,hy,rfl⟩
   obtain⟨i,hi,rfl⟩:=bJ hy
   exact⟨i,hi,by unfold BH;rw [BA _ _ hi]⟩
  ·rintro⟨i,hi,rfl⟩
   exact⟨_,Jc hi,by unfold BH;rw [BA _ _ hi]⟩
 constructor
 ·rintro⟨x,hx,hs⟩
  obtain⟨v,i,hv,hi,hc,rfl⟩:=(TB E x E.length).1 hx;obtain⟨w,p,e1,e2,hw,hpl,_,_⟩:=hp v i hv hi;simp only [decide_eq_true_eq,JX,e1]at hs;unfold Oz at hc;rw [e1,e2]at hc;simp only [NW,FV,decide_eq_true_eq]at hc
  refine⟨v,hv,Dt.2 ⟨w-v,by omega, ?_⟩⟩
  unfold Sa;rw [show v+(w-v)=w by omega,FV,decide_eq_true_eq,XI,mem_map]
  exact⟨⟨i,hi,e1⟩,hs⟩
 ·rintro⟨u,hu,hs⟩
  obtain⟨j,hj,hs⟩:=Dt.1 hs;unfold Sa at hs;rw [FV,decide_eq_true_eq,XI,mem_map]at hs;obtain⟨⟨i,hi,e1⟩,hs⟩:=hs;obtain⟨w,p,e1',e2,hw,hpl,b1,b2⟩:=hp u i hu hi;have hwu:w=u+j:=by omega
  subst hwu
  have F9: ∀i',i'<(E.getD u be).length→Oz E u i'=true→BH (E.getD u be) i'=((u+j:Nat):Int)→ ∃x,x∈kv E E.length∧decide (l.getD x.1.toNat be=l.getD x.2.2.1.toNat be)=true:=by
   intro i' hi' hc hf
   refine⟨_,(TB E _ E.length).2 ⟨u,i',hu,hi',hc,rfl⟩, ?_⟩
   simp only [decide_eq_true_eq,JX,hf];exact hs
  by_cases h0:j=0
  ·subst h0;rw [Nat.add_zero]at*;by_cases hip:i≤p
   ·exact F9 i hi (by unfold Oz;rw [e1',e2];simp;omega) e1
   ·exact F9 p hpl (by unfold Oz;rw [b1,b2];simp;omega) b1
  ·exact F9 i hi (by unfold Oz;rw [e1'];simp;omega) e1
theorem j3(l:AO)(hl:l.length≤1000): ∃a b,OC l=some (a,b,decide (¬l.Nodup)):=by
 have inner: ∀u:Nat,u<l.length→K7 l (u:Int) (((u+1:Nat):Int))=some (match Ag (l.length-(u+1)) (fun i=>decide (l.getD u be=l.getD (u+1+i) be))with|some i=> .inl (((u+1+i:Nat):Int))|none=> .inr ()):=by
  intro u hu;have key:=MP (fun v=>Gv l (u:Int) v) (fun i=>((u+1+i:Nat):Int)) (l.length-(u+1)) (fun i=>decide (l.getD u be=l.getD (u+1+i) be)) (fun i=> .inl (((u+1+i:Nat):Int))) (.inr ()) ?_ ?_
  ·unfold K7;rw [Nat.add_zero]at key;exact key
  ·intro i hi;simp only [Gv,JX];rw [if_pos (Be (by omega)),Bb (by omega),Bb (by omega),KO (u+1+i) (by omega)]
   by_cases e:l.getD u be=l.getD (u+1+i) be
   ·rw [if_pos e,decide_eq_true e];rfl
   ·rw [if_neg e,decide_eq_false e];rfl
  ·simp only [Gv];rw [if_neg (by omega)]
 have key:=MP (fun v=>Gw l v) (fun i=>(i:Int)) l.length (fun u=>(Ag (l.length-(u+1)) (fun i=>decide (l.getD u be=l.getD (u+1+i) be))).isSome) (fun u=> .inl ((u:Int),match Ag (l.length-(u+1)) (fun i=>decide (l.getD u be=l.getD (u+1+i) be))with|some i=>((u+1+i:Nat):Int)|none=>0)) (.inr ()) ?_ ?_
 ·have hq:(Ag l.length fun u=>(Ag (l.length-(u+1)) (fun i=>decide (l.getD u be=l.getD (u+1+i) be))).isSome).isSome=decide (¬l.Nodup):=by
   rw [Qb,Dt,decide_eq_true_eq,List.nodup_iff_pairwise_ne,Yw]
   constructor
   ·rintro⟨u,hu,hs⟩ hn
    obtain⟨i,hi,hs⟩:=Dt.1 hs;rw [decide_eq_true_eq,BA _ _ hu,BA _ _ (by omega)]at hs
    exact hn u (u+1+i) hu (by omega) (by omega) hs
   ·intro hn;refine Classical.byContradiction fun hc=>hn fun i j hi hj hij he=>hc ⟨i,hi,Dt.2 ⟨j-(i+1),by omega, ?_⟩⟩
    rw [decide_eq_true_eq,show i+1+(j-(i+1))=j by omega,BA _ _ hi,BA _ _ hj]
    exact he
  rw [←hq];unfold OC Lf;rw [Lu]at key;rw [key]
  cases Ag l.length fun u=>(Ag (l.length-(u+1)) (fun i=>decide (l.getD u be=l.getD (u+1+i) be))).isSome with
  |none=>exact⟨0,0,rfl⟩
  |some u=>exact⟨_,_,rfl⟩
 ·intro u hu;simp only [Gw];rw [if_pos (Be hu),KO u (by omega),inner u hu,Cq]
  cases Ag (l.length-(u+1)) (fun i=>decide (l.getD u be=l.getD (u+1+i) be))<;>rfl
 ·simp only [Gw];rw [if_neg (Am _)]
theorem fT(s:AO)(k:Nat)(hk:1≤k∧k<s.length)(hs:s.length≤1000): ∃(a:Nat) (t:AO),CG s (k:Int) ((k:Int),1,s)=some ((a:Int),t)∧t.length=s.length∧a<s.length:=by
 unfold CG;have key:=gX (fun v=>BX s (k:Int) v.1 v.2.1 v.2.2)
  (fun n (v:Int×Int×AO)=> ∃a b:Nat,v.1=(a:Int)∧v.2.1=(b:Int)∧n=s.length-k-b∧1≤b∧b≤s.length-k∧a<k+b∧v.2.2.length=s.length)
  (fun r:Int×AO=> ∃a:Nat,r.1=(a:Int)∧a<s.length∧r.2.length=s.length) ?_ (s.length-k-1) ((k:Int),1,s) ⟨k,1,rfl,rfl,rfl,by omega,by omega,by omega,rfl⟩
 ·obtain⟨⟨a',t⟩,h1,a,h2,h3,h4⟩:=key;simp only at h2 h4;subst h2
  exact⟨a,t,h1,h4,h3⟩
 ·rintro n ⟨k1,k2,t⟩ ⟨a,b,h1,h2,h3,h4,h5,h6,h7⟩
  simp only at h1 h2 h7;subst h1 h2;by_cases hb:b<s.length-k
  ·left
   simp only [BX,JX];rw [if_pos (by omega),Bb (by omega),Bb (by omega),Bb (by omega),KI _ (by omega),Bb (by omega),Bb (by omega),KO b (by omega)]
   split
   ·exact⟨_,s.length-k-(b+1),rfl,by omega,a,b+1,rfl,rfl,rfl,by omega,by omega,by omega,h7⟩
   ·rw [Bb (by omega),KO a (by omega)]
    exact⟨_,s.length-k-(b+1),rfl,by omega,a+1,b+1,rfl,rfl,rfl,by omega,by omega,by omega,by simp only [Ro];exact h7⟩
  ·right
   refine⟨((a:Int),t), ?_,a,rfl,by omega,h7⟩
   simp only [BX,JX];rw [if_neg (by omega)]
theorem fU(s:AO)(hs:s.length≤1000): ∃r,Ck s=some r∧(r.length=s.length↔ ∀i,1≤i→i<s.length→s.getD i be≠s.getD (i-1) be):=by
 unfold Ck;by_cases h2:(s.length:Int)<2
 ·rw [if_pos h2]
  exact⟨s,rfl,fun _ i h1 hi=>by omega,fun _=>rfl⟩
 ·rw [if_neg h2];unfold Cs;have key:=gX (fun v=>BZ s v) (fun n (v:Int)=> ∃k:Nat,v=(k:Int)∧n=s.length-k∧1≤k∧k≤s.length∧ ∀i,1≤i→i<k→s.getD i be≠s.getD (i-1) be)
   (fun r:AO⊕Unit=>match r with| .inl q=>q.length<s.length∧ ∃i,1≤i∧i<s.length∧s.getD i be=s.getD (i-1) be| .inr _=> ∀i,1≤i→i<s.length→s.getD i be≠s.getD (i-1) be) ?_ (s.length-1) (1:Int) ⟨1,rfl,rfl,by omega,by omega,fun i h1 h3=>by omega⟩
  ·obtain⟨r,h1,h3⟩:=key;rw [h1,Cq]
   cases r with
   |inl q=>
    obtain⟨h4,i,h5,h6,h7⟩:=h3
    exact⟨q,rfl,fun h=>by omega,fun h=>absurd h7 (h i h5 h6)⟩
   |inr _=>exact⟨s,rfl,fun _=>h3,fun _=>rfl⟩
  ·rintro n v ⟨k,rfl,hn,h1,hk,hne⟩
   by_cases hks:k<s.length
   ·simp only [BZ,JX];rw [if_pos (Be hks),Bb (by omega),KI _ (by omega),Bb (by omega),show((k:Int)-1).toNat=k-1 by omega]
    by_cases e:s.getD k be=s.getD (k-1) be
    ·right
     obtain⟨a,t,c1,c2,c3⟩:=fT s k ⟨h1,hks⟩ hs
     have hsp:(vI t a (ao (t.length-a) 0)).length=t.length:=by
      rw [A2J _ _ _ (by rw [bF];omega)]
      simp;omega
     rw [if_pos e,Bb (by omega),Bb (by omega),c1,Cq]
     simp only [JX];rw [Bb (by omega),Bb (by omega),Bb (by omega),Bb (by omega)]
     exact⟨_,rfl,by simp only [Lt,hsp];omega,k,h1,hks,e⟩
    ·left
     rw [if_neg e,KO k (by omega)]
     refine⟨_,s.length-(k+1),rfl,by omega,k+1,rfl,rfl,by omega,by omega,fun i hi1 hi2=> ?_⟩
     by_cases hik:i=k
     ·subst hik;exact e
     ·exact hne i hi1 (by omega)
   ·right
    have hke:k=s.length:=by omega
    subst hke
    refine⟨.inr (), ?_,hne⟩
    simp only [BZ];rw [if_neg (Am _)]
theorem kw{l:AO}(h:l.Pairwise (fun a b=>a≤b)):(∀i,1≤i→i<l.length→l.getD i be≠l.getD (i-1) be)↔l.Nodup:=by
 rw [Yw]at h;rw [List.nodup_iff_pairwise_ne,Yw]
 constructor
 ·intro hn
  have lt: ∀(d i:Nat) (hj:i+d+1<l.length),l[i]'(by omega)<l[i+d+1]:=by
   intro d
   induction d with
   |zero=>
    intro i hj;have h1:=h i (i+1) (by omega) hj (by omega)
    have h2:=hn (i+1) (by omega) hj
    rw [BA _ _ hj,BA _ _ (by omega)]at h2
    simp only [Nat.add_sub_cancel]at h2;have h3:l[i+1]≠l[i]:=h2;have:l[i+0+1]=l[i+1]:=rfl
    omega
   |succ d ih=>
    intro i hj;have h1:=ih i (by omega)
    have h2:=h (i+d+1) (i+(d+1)+1) (by omega) hj (by omega)
    omega
  intro i j hi hj hij he;have:=lt (j-i-1) i (by omega)
  simp only [show i+(j-i-1)+1=j by omega]at this
  omega
 ·intro hn i h1 hi he;rw [BA _ _ hi,BA _ _ (by omega)]at he
  exact hn (i-1) i (by omega) hi (by omega) he.symm
theorem ay(l:AO)(hl:l.length≤1000)(hx: ∀x∈l,0≤x∧x≤99):JM l (0,0)=some l.sum:=by
 have hs: ∀i,i≤l.length→0≤(l.take i).sum∧(l.take i).sum≤99*(i:Int):=by
  intro i
  induction i with
  |zero=>intro _;simp
  |succ i ih=>
   intro hi;have h1:=ih (by omega)
   have h2:=hx _ (Jc (show i<l.length by omega))
   rw [XK,GM (by omega),List.sum_append]
   simp only [Option.toList_some,cm,List.sum_nil];omega
 unfold JM;have key:=CB (fun v=>Fg l v.1 v.2) (fun i=>((l.take i).sum,(i:Int))) l.length l.sum ?_ ?_
 ·have e:((0:Nat):Int)=0:=rfl;simp only [e,List.take_zero,List.sum_nil]at key;exact key
 ·intro i hi;have h1:=hs i (by omega)
  have h2:=hx _ (Jc hi);simp only [Fg,JX];rw [if_pos (Be hi),Bb (by omega),BA _ _ hi,KI _ (by omega),KO i (by omega),XK,GM hi,List.sum_append]
  simp
 ·simp only [Fg];rw [if_neg (Am _),XL]
theorem qX{l m:AO}(h:l.Perm m):l.sum=m.sum:=by
 induction h with
 |nil=>rfl
 |cons x _ ih=>simp only [cm,ih]
 |swap x y l=>simp only [cm];omega
 |trans _ _ h1 h2=>exact h1.trans h2
theorem qY{l:AO}(h: ∀x∈l,0≤x):0≤l.sum∧(l.sum=0↔ ∀x∈l,x=0):=by
 induction l with
 |nil=>simp
 |cons a l ih=>
  obtain⟨h1,h2⟩:=ih (fun x hx=>h x (by simp [hx]))
  have ha:=h a (by simp)
  rw [cm]
  refine⟨by omega,fun hs=> ?_,fun hs=> ?_⟩
  ·intro x hx;rcases Pb.1 hx with rfl|hx
   ·omega
   ·exact h2.1 (by omega) x hx
  ·have:=h2.2 (fun x hx=>hs x (by simp [hx]))
   have:=hs a (by simp)
   omega
theorem ky(l:AO)(hl:1≤l.length)(hx: ∀x∈l,0≤x∧x≤99)(s:AO)(hp:s.Perm l)(hs:s.Pairwise (fun a b=>a≤b)):
  (EF l 0 1&&decide (l.sum=1))=(decide (s.getD (s.length-1) be=1)&&(decide (s.length=1)||decide (s.getD (s.length-2) be=0))):=by
 have hlen:=hp.length_eq;have hxs: ∀x∈s,0≤x∧x≤99:=fun x h=>hx x (hp.mem_iff.1 h)
 have hall:EF l 0 1=EF s 0 1:=by
  unfold EF;rw [Qb,JC,JC]
  exact⟨fun h x hx=>h x (hp.mem_iff.1 hx),fun h x hx=>h x (hp.mem_iff.2 hx)⟩
 have hsum:l.sum=s.sum:=qX hp.symm;rw [hall,hsum];obtain⟨q,m,rfl⟩: ∃q m,s=q++[m]:=⟨s.dropLast,s.getLast (by intro h;rw [h]at hlen;simp at hlen;omega),(List.dropLast_concat_getLast _).symm⟩
 have hm:(q++[m]).getD ((q++[m]).length-1) be=m:=by
  rw [KS,bG,Nat.add_sub_cancel,KG,NM (IG _),Qd];rfl
 rw [hm,List.sum_append,cm,List.sum_nil,Int.add_zero];have hq: ∀x∈q,0≤x:=fun x h=>(hxs x (by simp [h])).1
 have hqm: ∀x∈q,x≤m:=fun x h=>(List.pairwise_append.1 hs).2.2 x h m (by simp)
 have h0m:=(hxs m (by simp)).1
 obtain⟨z1,z2⟩:=qY hq
 have hlast:q.length=0∨ ∃y,y∈q∧(q++[m]).getD ((q++[m]).length-2) be=y∧ ∀x∈q,x≤y:=by
  by_cases h0:q.length=0
  ·exact .inl h0
  ·right
   have hi:q.length-1<q.length:=by omega
   refine⟨q[q.length-1],Jc hi, ?_,fun x hx=> ?_⟩
   ·rw [KS,bG,show q.length+1-2=q.length-1 by omega,KG,NV hi,GM hi];rfl
   ·obtain⟨i,hil,rfl⟩:=bJ hx;have hpq:=(List.pairwise_append.1 hs).1;rw [Yw]at hpq;by_cases e:i=q.length-1
    ·subst e;exact Int.le_refl _
    ·exact hpq i (q.length-1) hil hi (by omega)
 rw [Qb];simp only [FV,NW,decide_eq_true_eq,KS,bG]
 constructor
 ·rintro⟨ha,hs1⟩
  have ham:m≤1:=by
   unfold EF at ha;rw [JC]at ha
   exact(KW.1 (ha m (by simp))).2
  have hm1:m=1:=by
   rcases Int.lt_or_le m 1 with h|h
   ·have hm0:m=0:=by omega
    have:=z2.2 (fun x hx=>by have:=hq x hx;have:=hqm x hx;omega)
    omega
   ·omega
  refine⟨hm1, ?_⟩
  have hz:=z2.1 (by omega)
  rcases hlast with h|⟨y,hy,he,_⟩
  ·left;omega
  ·right
   rw [KS,bG]at he;rw [he];exact hz y hy
 ·rintro⟨hm1,hr⟩
  have hz: ∀x∈q,x=0:=by
   intro x hx;rcases hr with h|h
   ·have:q.length=0:=by omega
    rw [bE this]at hx;cases hx
   ·rcases hlast with h'|⟨y,hy,he,hle⟩
    ·rw [bE h']at hx;cases hx
    ·rw [KS,bG]at he;have:=hle x hx
     have:=hq x hx
     omega
  refine⟨?_,by have:=z2.2 hz;omega⟩
  unfold EF;rw [JC];intro x hx;refine KW.2 ?_;rcases MU.1 hx with h|h
  ·have:=hz x h;omega
  ·rw [ct]at h;omega
theorem fV(E:Aq)(ids ins:AO)(t:Int)(l:AO)(h:Il E ids ins=true)(hl:l.length=E.length)(hx: ∀x∈l,0≤x∧x≤99): ∃b,Jl E ids ins t l=some b∧OY E ids ins t l=some b:=by
 obtain⟨hE,hE1,hd,_⟩:=MQ h;have hM:l.length<1099511627776:=by omega
 have hsl:=XE l;unfold Jl OY Cm;by_cases t1:t=1
 ·simp only [if_pos t1,Cq];rw [ay l (by omega) hx,Cq,Bb hM,Bb hM,UW]
  have hlead:=ky l (by omega) hx (J6 l) (Ji l) (Mo l)
  refine⟨EF l 0 1&&decide (l.sum=1), ?_, ?_⟩
  ·cases EF l 0 1<;>rfl
  ·rw [hlead,KI _ (by omega),Bb (by omega),show(((J6 l).length:Int)-1).toNat=(J6 l).length-1 by omega]
   by_cases c1:(J6 l).getD ((J6 l).length-1) be=1
   ·rw [if_pos c1,decide_eq_true c1,PZ]
    have hge:0≤(J6 l).getD 0 be:=by
     rw [BA _ _ (by omega)]
     exact(hx _ ((Ji l).mem_iff.1 (Jc _))).1
    by_cases c2:(J6 l).length=1
    ·rw [if_pos (by omega),Bb (by omega),decide_eq_true c2,decide_eq_true hge];rfl
    ·rw [if_neg (by omega),KI _ (by omega),Bb (by omega),decide_eq_false c2,TE,show((((J6 l).length:Int)-1)-1).toNat=(J6 l).length-2 by omega]
     by_cases c3:(J6 l).getD ((J6 l).length-2) be=0
     ·rw [if_pos c3,Bb (by omega),decide_eq_true c3,decide_eq_true hge]
     ·rw [if_neg c3,decide_eq_false c3]
   ·rw [if_neg c1,decide_eq_false c1];rfl
 ·simp only [if_neg t1];by_cases t2:t=2
  ·simp only [if_pos t2];obtain⟨a,b,e⟩:=iy E ids ins l hE hd hl;have hlen:=Yu E hd E.length (IG _);rw [e,qV E ids ins hE hd,Cq,Cq,A3l (kv E E.length) _ (fun x=>decide (l.getD x.1.toNat be=l.getD x.2.2.1.toNat be)) (by omega) ?_,Cq,qW E ids ins l h]
   ·exact⟨_,rfl,rfl⟩
   ·intro x hxm;obtain⟨v,i,hv,hi,_,rfl⟩:=(TB E x E.length).1 hxm;obtain⟨w,p,e1,e2,hw,hpl,_,_⟩:=(MQ h).2.2.2 v i hv hi;unfold MI;simp only [e1,JX];rw [Bb (by omega),Bb (by omega)]
  ·simp only [if_neg t2,Cq];obtain⟨a,b,e⟩:=j3 l (by omega)
   obtain⟨r,c1,c2⟩:=fU (J6 l) (by omega)
   rw [e,Bb hM,UW,c1,Cq,Cq]
   refine⟨_,rfl, ?_⟩
   rw [kw (Mo l),(Ji l).nodup_iff]at c2
   congr 1
   by_cases hn:l.Nodup
   ·have e1:decide (¬l.Nodup)=false:=decide_eq_false (fun hc=>hc hn);have e2:decide ((r.length:Int)=(l.length:Int))=true:=decide_eq_true (by have:=c2.2 hn;omega)
    rw [e1,e2];rfl
   ·have e1:decide (¬l.Nodup)=true:=decide_eq_true hn;have e2:decide ((r.length:Int)=(l.length:Int))=false:=decide_eq_false (fun hc=>hn (c2.1 (by omega)))
    rw [e1,e2];rfl
theorem fZ{m k:Nat}{P:Nat→Bool}(hk:k<m):Ag m (fun j=>P j||j==k)=some (match Ag m P with|some f=>min f k|none=>k):=by
 cases hf:Ag m P with
 |none=>
  have hno:=Jp hf;show Ag m (fun j=>P j||j==k)=some k
  exact NA hk (by simp) fun i hi=>by rw [hno i (by omega),TE];simpa using (by omega:i≠k)
 |some f=>
  obtain⟨h1,h2⟩:=Dc hf;have h3:=OH hf;simp only;by_cases e:f≤k
  ·rw [Nat.min_eq_left e];exact NA h1 (by rw [h2];rfl) fun i hi=>by rw [h3 i hi,TE];simpa using (by omega:i≠k)
  ·rw [Nat.min_eq_right (by omega)]
   exact NA hk (by simp) fun i hi=>by rw [h3 i (by omega),TE];simpa using (by omega:i≠k)
def lC:Option Nat→Int
 |some f=>(f:Int)
 |none=> -1
def VZ(l:AO):Option Nat:=Ag (Hr l).toNat (fun j=>l.count (j:Int)==1)
def J8(l:AO):Int:=lC (VZ l)
theorem j4: ∀(l:AO) (x:Int),x∈l→x+1≤Hr l:=by
 have mono: ∀(l:AO) (a:Int),a≤l.foldl (fun a x=>max a (x+1)) a:=by
  intro l
  induction l with
  |nil=>intro a;exact Int.le_refl _
  |cons x l ih=>
   intro a;have:=ih (max a (x+1))
   show a≤l.foldl (fun a x=>max a (x+1)) (max a (x+1))
   omega
 have key: ∀(l:AO) (a x:Int),x∈l→x+1≤l.foldl (fun a x=>max a (x+1)) a:=by
  intro l
  induction l with
  |nil=>intro a x h;cases h
  |cons y l ih=>
   intro a x h;show x+1≤l.foldl (fun a x=>max a (x+1)) (max a (y+1))
   rcases Pb.1 h with rfl|h
   ·have:=mono l (max a (x+1));omega
   ·exact ih _ x h
 exact fun l x h=>key l 0 x h
theorem az(l:AO)(i:Nat)(hi:i<l.length)(x:Int):l.count x=(l.take i).count x+((if l[i]=x then 1 else 0)+(l.drop (i+1)).count x):=by
 have e:l=l.take i++(l[i]::l.drop (i+1)):=by rw [List.getElem_cons_drop,List.take_append_drop]
 have e2:=congrArg (List.count x) e;rw [List.count_append,List.count_cons]at e2;rw [e2];have:(if(l[i]==x)=true then 1 else 0)=(if l[i]=x then 1 else 0):=by simp only [beq_iff_eq]
 omega
def Ja(l:AO)(i:Nat):Option Nat:=Ag (Hr l).toNat (fun j=>l.count (j:Int)==1&&(l.take i).contains (j:Int))
theorem kz(l:AO):Ja l l.length=VZ l:=by
 unfold Ja VZ;refine HY fun j _=> ?_;rw [XL]
 cases h:(l.count (j:Int)==1)with
 |false=>rfl
 |true=>
  have h:l.count (j:Int)=1:=by simpa using h
  have:(j:Int)∈l:=cw.1 (by omega)
  simpa using this
theorem j5(l:AO)(h:fQ l)(h2:l.length≤1000):MO l=some (J8 l):=by
 have key:=CB (fun w=>H8 l w.1 w.2) (fun i=>(lC (Ja l i),(i:Int))) l.length (J8 l) (fun i hi=> ?_) ?_
 ·have e0:lC (Ja l 0)= -1:=by
   unfold Ja;rw [N9 (fun j _=>by simp)];rfl
  rw [e0]at key;unfold MO;rw [show KE l (-1,0)=_ from by unfold KE;exact key,Cq]
 ·have hx:=h l[i] (Jc hi);have hg:l.getD i be=l[i]:=BA l i hi;have htop:=j4 l l[i] (Jc hi);have hrng:=OI l h;have hd:((l.take i).drop 0)=l.take i:=List.drop_zero;have htk:l.take l.length=l:=XL
  have tk: ∀j:Nat,(l.take (i+1)).contains (j:Int)=((l.take i).contains (j:Int)||((j:Int)==l[i])):=fun j=>by
   rw [XK,GM hi,Qb,NW,XI,XI,beq_iff_eq,MU,Option.toList_some,ct]
  simp only [H8,JX,hg];rw [if_pos (Be hi),Bb ⟨by omega,hi⟩,Bb (by omega),Bb (by omega),Bb (by rw [hd,Lt];omega),hd,KO i (by omega)]
  have cs:=az l i hi l[i];rw [if_pos rfl]at cs;by_cases c1:(l.take i).contains l[i]=true
  ·have m1:0<(l.take i).count l[i]:=cw.2 (by simpa using c1)
   rw [if_pos c1]
   have:Ja l (i+1)=Ja l i:=by
    unfold Ja;refine HY fun j _=> ?_;rw [tk];by_cases e:(j:Int)=l[i]
    ·rw [e];have:(l.count l[i]==1)=false:=by simpa using (by omega:l.count l[i]≠1)
     rw [this];rfl
    ·rw [show((j:Int)==l[i])=false by simpa using e,cq]
   rw [this]
  ·rw [if_neg c1];have m1:(l.take i).count l[i]=0:=cx.2 (by simpa using c1)
   simp only [JX,htk];rw [Bb (by omega),Bb (by omega),Bb (by rw [List.length_drop];omega)]
   by_cases c2:(l.drop (i+1)).contains l[i]=true
   ·have m2:0<(l.drop (i+1)).count l[i]:=cw.2 (by simpa using c2)
    rw [if_pos c2]
    have:Ja l (i+1)=Ja l i:=by
     unfold Ja;refine HY fun j _=> ?_;rw [tk];by_cases e:(j:Int)=l[i]
     ·rw [e];have:(l.count l[i]==1)=false:=by simpa using (by omega:l.count l[i]≠1)
      rw [this];rfl
     ·rw [show((j:Int)==l[i])=false by simpa using e,cq]
    rw [this]
   ·have m2:(l.drop (i+1)).count l[i]=0:=cx.2 (by simpa using c2)
    rw [if_neg c2];obtain⟨k,hk⟩: ∃k:Nat,l[i]=(k:Int):=⟨l[i].toNat,by omega⟩
    have hc1:l.count l[i]=1:=by omega
    have:Ja l (i+1)=some (match Ja l i with|some f=>min f k|none=>k):=by
     unfold Ja;rw [←fZ (by omega)]
     refine HY fun j _=> ?_;rw [tk];by_cases e:j=k
     ·subst e;rw [←hk,hc1]
      simp
     ·have e1:((j:Int)==l[i])=false:=by rw [hk];simpa using (by omega:(j:Int)≠(k:Int))
      have e2:(j==k)=false:=by simpa using e
      rw [e1,e2,cq,cq]
    have this:lC (Ja l (i+1))=match Ja l i with|some f=>((min f k:Nat):Int)|none=>(k:Int):=by
     rw [this]
     cases Ja l i<;>rfl
    rw [this]
    cases ho:Ja l i with
    |none=>
     show(if(-1:Int)<0 then _ else _)=some (cc ((k:Int),_))
     rw [if_pos (by decide),hk]
    |some f=>
     show(if(f:Int)<0 then _ else _)=some (cc (((min f k:Nat):Int),_))
     rw [if_neg (by omega)]
     by_cases e:l[i]<(f:Int)
     ·rw [show(if l[i]<lC (some f)then some (cc (l[i],((i+1:Nat):Int)))else some (cc (lC (some f),((i+1:Nat):Int))):Option ((Int×Int)⊕Int))=some (cc (l[i],((i+1:Nat):Int)))from if_pos e,hk,show min f k=k by omega]
     ·rw [show(if l[i]<lC (some f)then some (cc (l[i],((i+1:Nat):Int)))else some (cc (lC (some f),((i+1:Nat):Int))):Option ((Int×Int)⊕Int))=some (cc ((f:Int),((i+1:Nat):Int)))from if_neg e,show min f k=f by omega]
 ·simp only [H8];rw [if_neg (Am _),kz];rfl
def Sb(l:AO):AO:=l.map (fun x=>if x=J8 l then 1 else 0)
theorem fe(l:AO)(m i:Nat)(hi:i<l.length)(k:Nat)(hk:l[i]=(k:Int))(hm:k<m):
  ((an m).map fun(j:Nat)=>((l.take i).count (j:Int):Int)).set k (((l.take i).count (k:Int):Int)+1)=(an m).map fun(j:Nat)=>((l.take (i+1)).count (j:Int):Int):=by
 refine List.ext_getElem (by simp) (fun j h1 h2=> ?_)
 have hj:j<m:=by simpa using h2
 rw [List.getElem_set];simp only [co,XJ];rw [XK,GM hi,List.count_append,hk];by_cases e:k=j
 ·subst e;rw [if_pos rfl];simp
 ·rw [if_neg e];have: ¬((k:Int)=(j:Int)):=by omega
  simp [List.count_singleton,this]
theorem qZ(s:AO)(v:Int)(hs:s.length≤1000):DC s v=some (lC (Ag s.length fun i=>decide (v=s.getD i be))):=by
 have key:=MP (fun w=>Bd s v w) (fun i=>(i:Int)) s.length (fun i=>decide (v=s.getD i be)) (fun i=> .inl (i:Int)) (.inr ()) (fun i hi=> ?_) ?_
 ·unfold DC;rw [show CZ s v 0=_ from by unfold CZ;exact key,Cq]
  cases Ag s.length (fun i=>decide (v=s.getD i be))<;>rfl
 ·simp only [Bd,JX];rw [if_pos (Be hi),Bb ⟨by omega,hi⟩,KO i (by omega)]
  by_cases e:v=s.getD i be
  ·rw [if_pos e,decide_eq_true e];rfl
  ·rw [if_neg e,decide_eq_false e];rfl
 ·simp only [Bd];rw [if_neg (Am _)]
theorem ut(l:AO)(h:fQ l)(h1:1≤l.length)(h2:l.length≤1000):GL 1 l=some (Sb l):=by
 have hrng:=OI l h;have k0:=CB (fun w=>Dz l w.1 w.2) (fun i=>((an (Hr l).toNat).map (fun(j:Nat)=>((l.take i).count (j:Int):Int)),(i:Int))) l.length ((an (Hr l).toNat).map fun(j:Nat)=>(l.count (j:Int):Int)) (fun i hi=> ?_) ?_
 ·have k1:=CB (fun w=>E5 l (J8 l) w.1 w.2) (fun i=>((l.take i).map (fun x=>if x=J8 l then(1:Int)else 0),(i:Int))) l.length (Sb l) (fun i hi=> ?_) ?_
  ·have e0:((an (Hr l).toNat).map fun(j:Nat)=>((l.take 0).count (j:Int):Int))=ao (Hr l).toNat 0:=by
    refine List.ext_getElem (by simp) (fun j h1 h2=> ?_)
    simp
   rw [e0]at k0
   have ei:(Ag ((an (Hr l).toNat).map fun(j:Nat)=>(l.count (j:Int):Int)).length fun i=>decide ((1:Int)=((an (Hr l).toNat).map fun(j:Nat)=>(l.count (j:Int):Int)).getD i be))=VZ l:=by
    unfold VZ;rw [P6,List.length_range];refine HY fun j hj=> ?_;rw [KG,MS,jB hj];show decide ((1:Int)=(l.count (j:Int):Int))=(l.count (j:Int)==1)
    rw [Qb,decide_eq_true_eq,beq_iff_eq];omega
   unfold GL
   rw [if_pos rfl,ik l h h1 h2,Cq,Bb (by omega),show GY l (ao (Hr l).toNat 0,0)=_ from by unfold GY;exact k0,Cq,
    qZ _ _ (by rw [P6,List.length_range];omega),ei,Cq,show GZ l (lC (VZ l)) ([],0)=_ from by unfold GZ;exact k1,Cq]
  ·have hg:l.getD i be=l[i]:=BA l i hi;simp only [E5,JX,hg];rw [if_pos (Be hi),Bb ⟨by omega,hi⟩,KO i (by omega)]
   unfold Sv
   have et:(l.take (i+1)).map (fun x=>if x=J8 l then(1:Int)else 0)=(l.take i).map (fun x=>if x=J8 l then(1:Int)else 0)++[if l[i]=J8 l then 1 else 0]:=by
    rw [XK,GM hi,List.map_append];rfl
   rw [et];by_cases e:l[i]=J8 l
   ·rw [decide_eq_true e,if_pos rfl,if_pos e,Cq,Bb (by rw [P6,Lt];omega)]
   ·rw [decide_eq_false e,if_neg (by decide),if_neg e,Cq,Bb (by rw [P6,Lt];omega)]
  ·simp only [E5];rw [if_neg (Am _),XL];rfl
 ·have hx:=h l[i] (Jc hi);have htop:=j4 l l[i] (Jc hi);obtain⟨k,hk⟩: ∃k:Nat,l[i]=(k:Int):=⟨l[i].toNat,by omega⟩
  have hkm:k<(Hr l).toNat:=by omega
  have hgd:((an (Hr l).toNat).map fun(j:Nat)=>((l.take i).count (j:Int):Int)).getD k be=((l.take i).count (k:Int):Int):=by
   rw [KG,MS,jB hkm];rfl
  have hcl:(l.take i).count (k:Int)≤l.length:=Nat.le_trans List.count_le_length (by rw [Lt];omega)
  have hg:l.getD i be=(k:Int):=by rw [BA l i hi,hk]
  simp only [Dz,JX,hg];rw [if_pos (Be hi),Bb ⟨by omega,hi⟩,Bb ⟨by omega,by rw [P6,List.length_range];exact hkm⟩,hgd,KI _ (by omega),KO i (by omega),fe l _ i hi k hk hkm]
 ·simp only [Dz];rw [if_neg (Am _),XL]
theorem uu(l:AO)(h2:l.length≤1000):KF l (J8 l) ([],0)=some (Sb l):=by
 have k1:=CB (fun w=>H9 l (J8 l) w.1 w.2) (fun i=>((l.take i).map (fun x=>if x=J8 l then(1:Int)else 0),(i:Int))) l.length (Sb l) (fun i hi=> ?_) ?_
 ·unfold KF;exact k1
 ·have hg:l.getD i be=l[i]:=BA l i hi;simp only [H9,JX,hg];rw [if_pos (Be hi),Bb ⟨by omega,hi⟩,KO i (by omega)]
  have et:(l.take (i+1)).map (fun x=>if x=J8 l then(1:Int)else 0)=(l.take i).map (fun x=>if x=J8 l then(1:Int)else 0)++[if l[i]=J8 l then 1 else 0]:=by
   rw [XK,GM hi,List.map_append];rfl
  rw [et];by_cases e:l[i]=J8 l
  ·rw [if_pos e,if_pos e,Bb (by rw [P6,Lt];omega)]
  ·rw [if_neg e,if_neg e,Bb (by rw [P6,Lt];omega)]
 ·simp only [H9];rw [if_neg (Am _),XL];rfl
theorem uw(l:AO)(v:Int):(l.map (fun x=>if x=v then(1:Int)else 0)).sum=(l.count v:Int):=by
 induction l with
 |nil=>rfl
 |cons x l ih=>
  rw [P8,cm,ih,List.count_cons];by_cases e:x=v
  ·subst e;simp;omega
  ·have:(x==v)=false:=by simpa using e
   rw [if_neg e,this];simp
theorem fq(l:AO)(h:fQ l):decide ((l.count (J8 l):Int)=1)=decide (0≤J8 l):=by
 unfold J8 VZ
 cases hf:Ag (Hr l).toNat (fun j=>l.count (j:Int)==1)with
 |some f=>
  have:=(Dc hf).2
  have:l.count (f:Int)=1:=by simpa using this
  simp only [lC,this];have:0≤(f:Int):=by omega
  simp [this]
 |none=>
  have:l.count (-1)=0:=cx.2 fun hm=>by have:=h _ hm;omega
  simp only [lC,this]
  decide
def We(t:Int)(l:AO):AO:=if t=1 then Sb l else l
def qa(E:Aq)(t:Int)(l:AO):Bool:=
 if t=1 then decide (0≤J8 l)else if t=2 then !(Ag E.length fun u=>(Ag (E.length-u) (Sa E l u)).isSome).isSome else decide l.Nodup
theorem A0s(E:Aq)(ids ins:AO)(t:Int)(l:AO)(h:Il E ids ins=true)(hl:l.length=E.length)(hx:fQ l):OZ E ids ins t l=some (qa E t l):=by
 obtain⟨hE,hE1,hd,_⟩:=MQ h;unfold OZ qa;by_cases t1:t=1
 ·rw [if_pos t1,if_pos t1,j5 l hx (by omega),Cq]
 ·rw [if_neg t1,if_neg t1];unfold Jl;rw [if_neg t1];by_cases t2:t=2
  ·obtain⟨a,b,e⟩:=iy E ids ins l hE hd hl;rw [if_pos t2,if_pos t2,e,Cq,Cq]
  ·obtain⟨a,b,e⟩:=j3 l (by omega)
   rw [if_neg t2,if_neg t2,e,Cq,Cq]
   congr 1
   by_cases hn:l.Nodup<;>simp [hn]
theorem j6(t:Int)(l:AO)(hx:fQ l):(We t l).length=l.length∧fQ (We t l):=by
 unfold We;split
 ·refine⟨by simp [Sb],fun x hm=> ?_⟩
  unfold Sb at hm;rw [Jd]at hm;obtain⟨y,_,rfl⟩:=hm
  split<;>omega
 ·exact⟨rfl,hx⟩
theorem AAU(E:Aq)(ids ins:AO)(t:Int)(l:AO)(h:Il E ids ins=true)(hl:l.length=E.length)(hx:fQ l):GL t l=some (We t l)∧OY E ids ins t (We t l)=some (qa E t l):=by
 obtain⟨hE,hE1,hd,_⟩:=MQ h;obtain⟨o1,o2⟩:=j6 t l hx;obtain⟨b,e1,e2⟩:=fV E ids ins t (We t l) h (by omega) o2
 by_cases t1:t=1
 ·subst t1
  refine⟨?_, ?_⟩
  ·rw [ut l hx (by omega) (by omega)];rfl
  ·rw [e2,←e1];unfold Jl qa;rw [if_pos rfl,if_pos rfl];have ho:We 1 l=Sb l:=rfl;rw [ho]at o1 o2 ⊢;rw [ay (Sb l) (by omega) o2,Cq,Bb (by omega)]
   have ha:EF (Sb l) 0 1=true:=by
    unfold EF;rw [JC];intro x hm;unfold Sb at hm;rw [Jd]at hm;obtain⟨y,_,rfl⟩:=hm
    split<;>rfl
   rw [if_pos ha,←fq l hx];unfold Sb;rw [uw]
 ·have ho:We t l=l:=by unfold We;rw [if_neg t1]
  have hc:=A0s E ids ins t l h hl hx;unfold OZ at hc;rw [if_neg t1]at hc;rw [ho]at e1 e2 ⊢;rw [e1,Cq]at hc
  refine⟨?_,by rw [e2];exact hc⟩
  unfold GL;rw [if_neg t1,Bb (by omega)]
theorem AAV{E:Aq}{ids ins:AO}(h:Il E ids ins=true):KP E ins:=by
 obtain⟨hE,hE1,hd,hp⟩:=MQ h
 refine⟨hE1,hE, ?_,hd,fun v i hv hi=> ?_⟩
 ·unfold Il at h;simp only [FV,decide_eq_true_eq]at h;omega
 ·obtain⟨w,p,e1,_,hw,_⟩:=hp v i hv hi;unfold SX;rw [e1]
  exact⟨by omega,by simpa using hw⟩
theorem l5(E:Aq)(ids ins:AO)(t:Int)(hE:CX E)(h1:ids.length<1099511627776)(h2:ins.length<1099511627776): ∃l b,Jn E ids ins t=some (l,b)∧(Jo E ids ins t=some (.inl (l,b))∨Jo E ids ins t=some (.inr (l,b)))∧l.length≤40:=by
 unfold Jo Jn QT QR;rw [Bb hE,Bb h1,Bb h2,Bb hE,Bb h1,Bb h2];by_cases h:Il E ids ins=true
 ·by_cases q1:JB t 1 3=true
  ·have hN:=AAV h;have h40:=hN.2.1;obtain⟨T,hT,e1,e2,_⟩:=av hN ids;have hl:=Ju E ins T;have hs:=Yr hN T;obtain⟨c1,c2⟩:=AAU E ids ins t (PW E ins T) h hl hs;simp only [if_pos h,if_pos q1,Cq,e1,e2,c1,c2,A0s E ids ins t _ h hl hs];by_cases hc:qa E t (PW E ins T)=true
   ·rw [if_pos hc,if_pos hc]
    refine⟨_,_,rfl, ?_,by rw [(j6 t _ hs).1,hl];exact h40⟩
    unfold QU We;by_cases t1:t=1
    ·rw [if_pos t1,if_pos t1,j5 _ hs (by omega),Cq,uu _ (by omega),Cq]
     exact .inl rfl
    ·rw [if_neg t1,if_neg t1];exact .inr rfl
   ·rw [if_neg hc,if_neg hc];exact⟨_,_,rfl,.inl rfl,by simp⟩
  ·simp only [if_pos h,if_neg q1,Cq];exact⟨_,_,rfl,.inl rfl,by simp⟩
 ·simp only [if_neg h];exact⟨_,_,rfl,.inl rfl,by simp⟩
theorem qb(E:Aq)(ids ins:AO)(t:Int)(hE:Ow E)(hids:ids.length<9223372036854775808)(hins:ins.length<9223372036854775808):Hg E ids ins t=some true:=by
 unfold Hg;rw [Bb hE,Bb hids,Bb hins,Bb (by omega)]
 by_cases q1:qi 1048576 E ids ins<0
 ·rw [if_pos q1]
 ·obtain⟨g1,sE,g2⟩:=u6 (by omega) q1
  have tE:=I4 (fE E);have h1:ids.length<1099511627776:=by omega
  have h2:ins.length<1099511627776:=by omega
  obtain⟨l,b,hI,hS,hl⟩:=l5 E ids ins t sE h1 h2;have c1:l.length<1099511627776:=by omega
  have c2:(0:Int)≤1∧(1:Int)+2*El (fE E)+ids.length+ins.length<1099511627776:=by omega
  have c5: ¬(1:Int)+2*El (fE E)+ids.length+ins.length<0:=by omega
  have c6:(0:Int)≤1∧(1:Int)<1099511627776:=by omega
  have c7:(upto (1:Int) l.length).length<1099511627776:=by rw [MH];omega
  have c8:(0:Int)≤1∧(1:Int)+(upto (1:Int) l.length).length<1099511627776:=by rw [MH];omega
  have c9: ¬(1:Int)+(l.length:Int)<0:=by omega
  rw [if_neg q1,Bb sE,Bb h1,Bb h2];rcases hS with hS|hS
  ·simp only [hS,hI,Cq,Bb c1,decide_true,if_true,Ue,Bb c2,if_neg c5,Bb c6,Bb c7,Bb c8,XC,if_neg c9]
   cases b<;>rfl
  ·simp only [hS,hI,Cq,Bb c1,decide_true,if_true,Ue,Bb c2,if_neg c5,Bb c6,Bb c7,Bb c8,XC,if_neg c9]
   cases b<;>rfl
theorem qc(ds:List D)(h:A18 Ab [41,3] ds):Y.call 7 ds []=some (.bool true,[]):=by
 rcases ds with _|⟨x,_|⟨y,_|⟨_,_⟩⟩⟩
 ·cases h
 ·exact h.2.elim
 ·obtain⟨E,ids,ins,rfl,hE,hids,hins⟩:=eG A2O A2N oH oJ ty3 A2K h.1;obtain⟨t,rfl,_⟩:=A29 ty3 h.2.1;exact N8 E ids ins t (qb E ids ins t (pF hE) (Nat.lt_of_le_of_lt hids.1 (by decide)) (Nat.lt_of_le_of_lt hins.1 (by decide)))
 ·exact h.2.2.elim
end Go.Proofs.Ytclkfhhdikfcpaa
