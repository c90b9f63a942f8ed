/- The node step: program and reference agree, the whole. Conditions: those in each lemma. -/
import Derived.Test.YtjhjkfoabhplfaaGreatL6
import Derived.Test.YtjhjkfoabhplfaaGreatNse
namespace Go.Proofs.YtjhjkfoabhplfaaGreat
open Go Dv
set_option linter.unusedSimpArgs false
set_option linter.unusedVariables false
set_option maxRecDepth 100000
theorem qc(n d:Nat)(ns es:AO)(hn:1≤n∧n≤8)(hd:d≤3)(hN:BB ns)(iN:RV ns=true)(hE:BB es)(iE:RV es=true):
  ∃n' D' ns' es' sets ok,(O5 (n:Int) ((d+1:Nat):Int) ns es=some (.inr (.inr (n',D',ns',es',sets,ok)))∨(O5 (n:Int) ((d+1:Nat):Int) ns es=some (.inl (n',D',ns',es',sets,ok))∧(n',D',ns',es',sets,ok)=((0:Int),(0:Int),([]:AO),([]:AO),([]:AL),false)))∧
   Ll (n:Int) ((d+1:Nat):Int) ns es=some (n',D',ns',es',sets,ok)∧okR ns' es' sets:=by
 have e0:okR [] [] []:=by unfold okR BB;simp [DC]
 by_cases h4:d=3∧6<n
 ·unfold O5 Ll;rw [if_pos (by omega),if_pos (by omega),if_pos (by omega),if_pos (by omega)]
  exact⟨_,_,_,_,_,_,.inr ⟨rfl,rfl⟩,rfl,e0⟩
 ·obtain⟨F1,F2,⟨hF1,hF2,hF3⟩,o1,o2,es1,er1⟩:=vV n d ns es hn hd (by omega) hN iN hE iE
  have hC:=A3c n d hn.2 hd (by omega)
  have hsl:=UK o2;have hrs:=A07 o2;obtain⟨r1,r2⟩:=qa o2
  have hI: ∀k:AO→Option (Int×Int×AO×AO×AL×Bool),(Hq (n:Int) ((d+1:Nat):Int) ns es).bind (fun r2_=>(DR r2_.1 r2_.2.1 r2_.2.2.1 r2_.2.2.2.1 r2_.2.2.2.2).bind k)=k F1:=fun k=>by
   rw [qW n d ns es hN iN hn hd,Cs];simp only;rw [hF1,Cs]
  have ed:IntKind.i64.wrap (((d+1:Nat):Int)-1)=(d:Int):=by rw [Ec _ (by omega)];omega
  have l1:=Ze n d ns es hn hd _ hC;rw [←hF3]at l1;have hT:=qX n (d+1) ns es hN hn (by omega)
  have hiN:K6 F1=some (BG F2,Ih F2):=by rw [jF o1,es1,er1]
  have hsm:Qe (n:Int) ((d+1:Nat):Int) ns es F2 false=if(PL ((BG F2).length:Int) (1:Int) (8:Int))=true then some (.inr (.inl (((BG F2).length:Int),((d+1:Nat):Int),Ih F2,(Aj ((BG F2).length:Int) 2).filter (gd es (BG F2)),BG F2,true)))else some (.inr (.inr (0,0,[],[],[],false))):=by
   unfold Qe;rw [vL _ _ _ _ _ o2,Cs];by_cases c:PL ((BG F2).length:Int) 1 8=true
   ·have c8:=NR.1 c;simp only [if_pos c];rw [vM _ _ _ _ _ o2,Cs,if_neg (by decide),vP es (BG F2) 2 hrs (by omega) (by omega) (by have:=hE.1;omega)]
    rfl
   ·simp only [if_neg c]
  have hfin: ∀(A:Option (Int×Int×AO×AO×AL×Bool)),A=(if(PL ((BG F2).length:Int) (1:Int) (8:Int))=true then(Im ((BG F2).length:Int) (2:Int) (fun a0=>Fa a0 (n:Int) ((d+1:Nat):Int) ns es (BG F2))).bind (fun r7_=>some (((BG F2).length:Int),((d+1:Nat):Int),Ih F2,r7_,BG F2,true))else some (0,0,[],[],[],false))→
    A=if(PL ((BG F2).length:Int) (1:Int) (8:Int))=true then some (((BG F2).length:Int),((d+1:Nat):Int),Ih F2,(Aj ((BG F2).length:Int) 2).filter (gd es (BG F2)),BG F2,true)else some (0,0,[],[],[],false):=fun A hA=>by
   rw [hA];by_cases c:PL ((BG F2).length:Int) 1 8=true
   ·have c8:=NR.1 c;rw [if_pos c,if_pos c,qU es (BG F2) 2 _ (by omega) (by omega) fun x hx hin=>vU _ _ ns es (BG F2) x hE iE hrs hin hx]
    rfl
   ·rw [if_neg c,if_neg c]
  have hImp:Ll (n:Int) ((d+1:Nat):Int) ns es=if(PL ((BG F2).length:Int) (1:Int) (8:Int))=true then some (((BG F2).length:Int),((d+1:Nat):Int),Ih F2,(Aj ((BG F2).length:Int) 2).filter (gd es (BG F2)),BG F2,true)else some (0,0,[],[],[],false):=by
   refine hfin _ ?_;unfold Ll;by_cases c4:((d+1:Nat):Int)=4
   ·rw [if_pos c4,if_neg (by omega),hI,hiN,Cs]
   ·rw [if_neg c4,hI,hiN,Cs]
  have hSp:O5 (n:Int) ((d+1:Nat):Int) ns es=if(PL ((BG F2).length:Int) (1:Int) (8:Int))=true then some (.inr (.inr (((BG F2).length:Int),((d+1:Nat):Int),Ih F2,(Aj ((BG F2).length:Int) 2).filter (gd es (BG F2)),BG F2,true)))else some (.inl (0,0,[],[],[],false)):=by
   unfold O5;by_cases c4:((d+1:Nat):Int)=4
   ·rw [if_pos c4,if_neg (by omega),hT,Cs,BF (by omega),(Qh n hn.2).2,ed,hF2,Cs,l1,Cs,hsm]
    by_cases c:PL ((BG F2).length:Int) 1 8=true
    ·rw [if_pos c,if_pos c];rfl
    ·rw [if_neg c,if_neg c];rfl
   ·rw [if_neg c4,hT,Cs,BF (by omega),(Qh n hn.2).2,ed,hF2,Cs,l1,Cs,hsm]
    by_cases c:PL ((BG F2).length:Int) 1 8=true
    ·rw [if_pos c,if_pos c];rfl
    ·rw [if_neg c,if_neg c];rfl
  rw [hImp,hSp];by_cases c:PL ((BG F2).length:Int) 1 8=true
  ·have c8:=NR.1 c;rw [if_pos c,if_pos c];obtain⟨f1,f2⟩:=qK ((BG F2).length:Int) (by omega) 2 (by omega) (gd es (BG F2))
   have hck:=Hr ((BG F2).length:Int) 8 (by omega) 2
   refine⟨((BG F2).length:Int),((d+1:Nat):Int),Ih F2,(Aj ((BG F2).length:Int) 2).filter (gd es (BG F2)),BG F2,true,.inl rfl,rfl,⟨by omega,fun x hx=> ?_⟩,⟨by omega,fun x hx=> ?_⟩,by omega,by omega, ?_,by omega,by omega⟩
   ·have:=r2 x hx;omega
   ·have:=(hck.1 x (Qj.1 hx).1).1;omega
   ·have:=qJ ((d+1:Nat):Int) (Ih F2) fun x hx=>by have:=r2 x hx;omega
    have h5:((d+1:Nat):Int)*((Ih F2).length:Int)≤4*1000000:=Int.mul_le_mul (by omega) (by omega) (by omega) (by omega)
    omega
  ·rw [if_neg c,if_neg c]
   exact⟨_,_,_,_,_,_,.inr ⟨rfl,rfl⟩,rfl,e0⟩
theorem vW(n D:Int)(ns es:AO)(hN:BB ns)(hE:BB es):
  ∃r,PG n D ns es=some r∧NI n D ns es=some r∧okR r.2.2.1 r.2.2.2.1 r.2.2.2.2.1:=by
 have e0:okR [] [] []:=by unfold okR BB;simp [DC]
 unfold PG NI;rw [BF hN,BF hE,BF hN,BF hE];by_cases h:N8 n D ns es=true
 ·rw [if_pos h,if_pos h];obtain⟨⟨n1,n2⟩,⟨d1,d2⟩,cn,ce⟩:=qZ h;obtain⟨m,rfl⟩: ∃m:Nat,n=(m:Int):=⟨n.toNat,by omega⟩
  obtain⟨d,rfl⟩: ∃d:Nat,D=((d+1:Nat):Int):=⟨(D-1).toNat,by omega⟩
  obtain⟨n',D',ns',es',sets,ok,hS,hI,ho⟩:=qc m d ns es (by omega) (by omega) hN (cB cn) hE (cB ce)
  rw [hI,Cs]
  refine⟨(n',D',ns',es',sets,ok), ?_,rfl,ho⟩
  rcases hS with hS|⟨hS,e⟩<;>rw [hS]<;>rfl
 ·rw [if_neg h,if_neg h]
  exact⟨_,rfl,rfl,e0⟩
noncomputable def Ab(n D:Int)(ns es:AO):Int×Int×AO×AO×AL×Bool:=(NI n D ns es).getD (0,0,[],[],[],false)
theorem Zi(n D:Int)(ns es:AO)(hN:BB ns)(hE:BB es):PG n D ns es=some (Ab n D ns es)∧NI n D ns es=some (Ab n D ns es)∧okR (Ab n D ns es).2.2.1 (Ab n D ns es).2.2.2.1 (Ab n D ns es).2.2.2.2.1:=by
 obtain⟨r,hS,hI,h⟩:=vW n D ns es hN hE;have e:Ab n D ns es=r:=by unfold Ab;rw [hI];rfl
 rw [e];exact⟨hS,hI,h⟩
end Go.Proofs.YtjhjkfoabhplfaaGreat
