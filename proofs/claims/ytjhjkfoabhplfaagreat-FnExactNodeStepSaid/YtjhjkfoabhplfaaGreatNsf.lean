/- The node step: program and reference agree, the whole. Conditions: those in each lemma. -/
import Derived.Test.YtjhjkfoabhplfaaGreatL6
import Derived.Test.YtjhjkfoabhplfaaGreatNse
namespace Go.Proofs.YtjhjkfoabhplfaaGreat
open Go Dv
set_option linter.unusedSimpArgs false
set_option linter.unusedVariables false
set_option maxRecDepth 100000
theorem oJ(n d:Nat)(ns es:List (List Int))(hn:1≤n∧n≤8)(hd:d≤3)(hN:Ak ns)(iN:QY ns=true)(hE:Ak es)(iE:QY es=true):
  ∃n' D' ns' es' sets ok,(Mv (n:Int) ((d+1:Nat):Int) ns es=some (.inr (.inr (n',D',ns',es',sets,ok)))∨(Mv (n:Int) ((d+1:Nat):Int) ns es=some (.inl (n',D',ns',es',sets,ok))∧(n',D',ns',es',sets,ok)=((0:Int),(0:Int),([]:List (List Int)),([]:List (List Int)),([]:List Int),false)))∧
   Kh (n:Int) ((d+1:Nat):Int) ns es=some (n',D',ns',es',sets,ok)∧okR ns' es' sets:=by
 have e0:okR [] [] []:=by unfold okR Ak;simp [Bz]
 by_cases h4:d=3∧6<n
 ·unfold Mv Kh;rw [if_pos (by omega),if_pos (by omega),if_pos (by omega),if_pos (by omega)]
  exact⟨_,_,_,_,_,_,.inr ⟨rfl,rfl⟩,rfl,e0⟩
 ·obtain⟨F1,F2,⟨hF1,hF2,hF3⟩,o1,o2,es1,er1⟩:=uD n d ns es hn hd (by omega) hN iN hE iE
  have hC:=A2q n d hn.2 hd (by omega)
  have hsl:=TM o2;have hrs:=zF o2;obtain⟨r1,r2⟩:=oG o2
  have hI: ∀k:List (List Int)→Option (Int×Int×List (List Int)×List (List Int)×List Int×Bool),(GL (n:Int) ((d+1:Nat):Int) ns es).bind (fun JL=>(Cg JL.1 JL.2.1 JL.2.2.1 JL.2.2.2.1 JL.2.2.2.2).bind k)=k F1:=fun k=>by
   rw [o7 n d ns es hN iN hn hd,CO];simp only;rw [hF1,CO]
  have ed:IntKind.i64.wrap (((d+1:Nat):Int)-1)=(d:Int):=by rw [Dw _ (by omega)];omega
  have l1:=Ye n d ns es hn hd _ hC;rw [←hF3]at l1;have hT:=o8 n (d+1) ns es hN hn (by omega)
  have hiN:JB F1=some (Ap F2,H9 F2):=by rw [gH o1,es1,er1]
  have hsm:Pp (n:Int) ((d+1:Nat):Int) ns es F2 false=if(MH ((Ap F2).length:Int) (1:Int) (8:Int))=true then some (.inr (.inl (((Ap F2).length:Int),((d+1:Nat):Int),H9 F2,(AZ ((Ap F2).length:Int) 2).filter (gd es (Ap F2)),Ap F2,true)))else some (.inr (.inr (0,0,[],[],[],false))):=by
   unfold Pp;rw [tX _ _ _ _ _ o2,CO];by_cases c:MH ((Ap F2).length:Int) 1 8=true
   ·have c8:=MI.1 c;simp only [if_pos c];rw [tY _ _ _ _ _ o2,CO,if_neg (by decide),tu es (Ap F2) 2 hrs (by omega) (by omega) (by have:=hE.1;omega)]
    rfl
   ·simp only [if_neg c]
  have hfin: ∀(A:Option (Int×Int×List (List Int)×List (List Int)×List Int×Bool)),A=(if(MH ((Ap F2).length:Int) (1:Int) (8:Int))=true then(He ((Ap F2).length:Int) (2:Int) (fun a0=>El a0 (n:Int) ((d+1:Nat):Int) ns es (Ap F2))).bind (fun r7_=>some (((Ap F2).length:Int),((d+1:Nat):Int),H9 F2,r7_,Ap F2,true))else some (0,0,[],[],[],false))→
    A=if(MH ((Ap F2).length:Int) (1:Int) (8:Int))=true then some (((Ap F2).length:Int),((d+1:Nat):Int),H9 F2,(AZ ((Ap F2).length:Int) 2).filter (gd es (Ap F2)),Ap F2,true)else some (0,0,[],[],[],false):=fun A hA=>by
   rw [hA];by_cases c:MH ((Ap F2).length:Int) 1 8=true
   ·have c8:=MI.1 c;rw [if_pos c,if_pos c,o5 es (Ap F2) 2 _ (by omega) (by omega) fun x hx hin=>uC _ _ ns es (Ap F2) x hE iE hrs hin hx]
    rfl
   ·rw [if_neg c,if_neg c]
  have hImp:Kh (n:Int) ((d+1:Nat):Int) ns es=if(MH ((Ap F2).length:Int) (1:Int) (8:Int))=true then some (((Ap F2).length:Int),((d+1:Nat):Int),H9 F2,(AZ ((Ap F2).length:Int) 2).filter (gd es (Ap F2)),Ap F2,true)else some (0,0,[],[],[],false):=by
   refine hfin _ ?_;unfold Kh;by_cases c4:((d+1:Nat):Int)=4
   ·rw [if_pos c4,if_neg (by omega),hI,hiN,CO]
   ·rw [if_neg c4,hI,hiN,CO]
  have hSp:Mv (n:Int) ((d+1:Nat):Int) ns es=if(MH ((Ap F2).length:Int) (1:Int) (8:Int))=true then some (.inr (.inr (((Ap F2).length:Int),((d+1:Nat):Int),H9 F2,(AZ ((Ap F2).length:Int) 2).filter (gd es (Ap F2)),Ap F2,true)))else some (.inl (0,0,[],[],[],false)):=by
   unfold Mv;by_cases c4:((d+1:Nat):Int)=4
   ·rw [if_pos c4,if_neg (by omega),hT,CO,Am (by omega),(Pt n hn.2).2,ed,hF2,CO,l1,CO,hsm]
    by_cases c:MH ((Ap F2).length:Int) 1 8=true
    ·rw [if_pos c,if_pos c];rfl
    ·rw [if_neg c,if_neg c];rfl
   ·rw [if_neg c4,hT,CO,Am (by omega),(Pt n hn.2).2,ed,hF2,CO,l1,CO,hsm]
    by_cases c:MH ((Ap F2).length:Int) 1 8=true
    ·rw [if_pos c,if_pos c];rfl
    ·rw [if_neg c,if_neg c];rfl
  rw [hImp,hSp];by_cases c:MH ((Ap F2).length:Int) 1 8=true
  ·have c8:=MI.1 c;rw [if_pos c,if_pos c];obtain⟨f1,f2⟩:=nY ((Ap F2).length:Int) (by omega) 2 (by omega) (gd es (Ap F2))
   have hck:=GM ((Ap F2).length:Int) 8 (by omega) 2
   refine⟨((Ap F2).length:Int),((d+1:Nat):Int),H9 F2,(AZ ((Ap F2).length:Int) 2).filter (gd es (Ap F2)),Ap F2,true,.inl rfl,rfl,⟨by omega,fun x hx=> ?_⟩,⟨by omega,fun x hx=> ?_⟩,by omega,by omega, ?_,by omega,by omega⟩
   ·have:=r2 x hx;omega
   ·have:=(hck.1 x (Px.1 hx).1).1;omega
   ·have:=nX ((d+1:Nat):Int) (H9 F2) fun x hx=>by have:=r2 x hx;omega
    have h5:((d+1:Nat):Int)*((H9 F2).length:Int)≤4*1000000:=Int.mul_le_mul (by omega) (by omega) (by omega) (by omega)
    omega
  ·rw [if_neg c,if_neg c]
   exact⟨_,_,_,_,_,_,.inr ⟨rfl,rfl⟩,rfl,e0⟩
theorem uE(n D:Int)(ns es:List (List Int))(hN:Ak ns)(hE:Ak es):
  ∃r,O7 n D ns es=some r∧M7 n D ns es=some r∧okR r.2.2.1 r.2.2.2.1 r.2.2.2.2.1:=by
 have e0:okR [] [] []:=by unfold okR Ak;simp [Bz]
 unfold O7 M7;rw [Am hN,Am hE,Am hN,Am hE];by_cases h:Kc n D ns es=true
 ·rw [if_pos h,if_pos h];obtain⟨⟨n1,n2⟩,⟨d1,d2⟩,cn,ce⟩:=oD h;obtain⟨m,rfl⟩: ∃m:Nat,n=(m:Int):=⟨n.toNat,by omega⟩
  obtain⟨d,rfl⟩: ∃d:Nat,D=((d+1:Nat):Int):=⟨(D-1).toNat,by omega⟩
  obtain⟨n',D',ns',es',sets,ok,hS,hI,ho⟩:=oJ m d ns es (by omega) (by omega) hN (aB cn) hE (aB ce)
  rw [hI,CO]
  refine⟨(n',D',ns',es',sets,ok), ?_,rfl,ho⟩
  rcases hS with hS | ⟨hS,e⟩<;>rw [hS]<;>rfl
 ·rw [if_neg h,if_neg h]
  exact⟨_,rfl,rfl,e0⟩
noncomputable def AL(n D:Int)(ns es:List (List Int)):Int×Int×List (List Int)×List (List Int)×List Int×Bool:=(M7 n D ns es).getD (0,0,[],[],[],false)
theorem Yi(n D:Int)(ns es:List (List Int))(hN:Ak ns)(hE:Ak es):O7 n D ns es=some (AL n D ns es)∧M7 n D ns es=some (AL n D ns es)∧okR (AL n D ns es).2.2.1 (AL n D ns es).2.2.2.1 (AL n D ns es).2.2.2.2.1:=by
 obtain⟨r,hS,hI,h⟩:=uE n D ns es hN hE;have e:AL n D ns es=r:=by unfold AL;rw [hI];rfl
 rw [e];exact⟨hS,hI,h⟩
end Go.Proofs.YtjhjkfoabhplfaaGreat
