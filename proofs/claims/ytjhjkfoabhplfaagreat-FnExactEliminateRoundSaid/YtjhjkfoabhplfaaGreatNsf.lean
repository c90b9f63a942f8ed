/- The node step: program and reference agree, the whole. Conditions: those in each lemma. -/
import Derived.Test.YtjhjkfoabhplfaaGreatL6
import Derived.Test.YtjhjkfoabhplfaaGreatNse
namespace Go.Proofs.YtjhjkfoabhplfaaGreat
open Go Dv
set_option linter.unusedSimpArgs false
set_option linter.unusedVariables false
set_option maxRecDepth 100000
theorem uN(n d:Nat)(ns es:AL)(hn:1≤n∧n≤8)(hd:d≤3)(hN:Ah ns)(iN:LP ns=true)(hE:Ah es)(iE:LP es=true):
  ∃n' D' ns' es' sets ok,(O3 (n:Int) ((d+1:Nat):Int) ns es=some (.inr (.inr (n',D',ns',es',sets,ok)))∨(O3 (n:Int) ((d+1:Nat):Int) ns es=some (.inl (n',D',ns',es',sets,ok))∧(n',D',ns',es',sets,ok)=((0:Int),(0:Int),([]:AL),([]:AL),([]:AA),false)))∧
   LY (n:Int) ((d+1:Nat):Int) ns es=some (n',D',ns',es',sets,ok)∧y7 ns' es' sets:=by
 have e0:y7 [] [] []:=by unfold y7 Ah;simp [Bi]
 by_cases h4:d=3∧6<n
 ·unfold O3 LY;rw [if_pos (by omega),if_pos (by omega),if_pos (by omega),if_pos (by omega)]
  exact⟨_,_,_,_,_,_,.inr ⟨rfl,rfl⟩,rfl,e0⟩
 ·obtain⟨F1,F2,⟨hF1,hF2,hF3⟩,o1,o2,es1,er1⟩:=yH n d ns es hn hd (by omega) hN iN hE iE
  have hC:=A5N n d hn.2 hd (by omega)
  have hsl:=RZ o2;have hrs:=af o2;obtain⟨r1,r2⟩:=ah o2
  have hI: ∀k:AL→Option (Int×Int×AL×AL×AA×Bool),(Gu (n:Int) ((d+1:Nat):Int) ns es).bind (fun r2_=>(Cm r2_.1 r2_.2.1 r2_.2.2.1 r2_.2.2.2.1 r2_.2.2.2.2).bind k)=k F1:=fun k=>by
   rw [uJ n d ns es hN iN hn hd,Bl];simp only;rw [hF1,Bl]
  have ed:IntKind.i64.wrap (((d+1:Nat):Int)-1)=(d:Int):=by rw [Db _ (by omega)];omega
  have l1:=az n d ns es hn hd _ hC;rw [←hF3]at l1;have hT:=uK n (d+1) ns es hN hn (by omega)
  have hiN:IQ F1=some (Al F2,Fg F2):=by rw [WH o1,es1,er1]
  have hsm:Nw (n:Int) ((d+1:Nat):Int) ns es F2 false=if(OQ ((Al F2).length:Int) (1:Int) (8:Int))=true then some (.inr (.inl (((Al F2).length:Int),((d+1:Nat):Int),Fg F2,(AY ((Al F2).length:Int) 2).filter (gd es (Al F2)),Al F2,true)))else some (.inr (.inr (0,0,[],[],[],false))):=by
   unfold Nw;rw [fK _ _ _ _ _ o2,Bl];by_cases c:OQ ((Al F2).length:Int) 1 8=true
   ·have c8:=MG.1 c;simp only [if_pos c];rw [fM _ _ _ _ _ o2,Bl,if_neg (by decide),fP es (Al F2) 2 hrs (by omega) (by omega) (by have:=hE.1;omega)]
    rfl
   ·simp only [if_neg c]
  have hfin: ∀(A:Option (Int×Int×AL×AL×AA×Bool)),A=(if(OQ ((Al F2).length:Int) (1:Int) (8:Int))=true then(GZ ((Al F2).length:Int) (2:Int) (fun a0=>Ey a0 (n:Int) ((d+1:Nat):Int) ns es (Al F2))).bind (fun r7_=>some (((Al F2).length:Int),((d+1:Nat):Int),Fg F2,r7_,Al F2,true))else some (0,0,[],[],[],false))→
    A=if(OQ ((Al F2).length:Int) (1:Int) (8:Int))=true then some (((Al F2).length:Int),((d+1:Nat):Int),Fg F2,(AY ((Al F2).length:Int) 2).filter (gd es (Al F2)),Al F2,true)else some (0,0,[],[],[],false):=fun A hA=>by
   rw [hA];by_cases c:OQ ((Al F2).length:Int) 1 8=true
   ·have c8:=MG.1 c;rw [if_pos c,if_pos c,aa es (Al F2) 2 _ (by omega) (by omega) fun x hx hin=>yG _ _ ns es (Al F2) x hE iE hrs hin hx]
    rfl
   ·rw [if_neg c,if_neg c]
  have hImp:LY (n:Int) ((d+1:Nat):Int) ns es=if(OQ ((Al F2).length:Int) (1:Int) (8:Int))=true then some (((Al F2).length:Int),((d+1:Nat):Int),Fg F2,(AY ((Al F2).length:Int) 2).filter (gd es (Al F2)),Al F2,true)else some (0,0,[],[],[],false):=by
   refine hfin _ ?_;unfold LY;by_cases c4:((d+1:Nat):Int)=4
   ·rw [if_pos c4,if_neg (by omega),hI,hiN,Bl]
   ·rw [if_neg c4,hI,hiN,Bl]
  have hSp:O3 (n:Int) ((d+1:Nat):Int) ns es=if(OQ ((Al F2).length:Int) (1:Int) (8:Int))=true then some (.inr (.inr (((Al F2).length:Int),((d+1:Nat):Int),Fg F2,(AY ((Al F2).length:Int) 2).filter (gd es (Al F2)),Al F2,true)))else some (.inl (0,0,[],[],[],false)):=by
   unfold O3;by_cases c4:((d+1:Nat):Int)=4
   ·rw [if_pos c4,if_neg (by omega),hT,Bl,Ao (by omega),(Qz n hn.2).2,ed,hF2,Bl,l1,Bl,hsm]
    by_cases c:OQ ((Al F2).length:Int) 1 8=true
    ·rw [if_pos c,if_pos c];rfl
    ·rw [if_neg c,if_neg c];rfl
   ·rw [if_neg c4,hT,Bl,Ao (by omega),(Qz n hn.2).2,ed,hF2,Bl,l1,Bl,hsm]
    by_cases c:OQ ((Al F2).length:Int) 1 8=true
    ·rw [if_pos c,if_pos c];rfl
    ·rw [if_neg c,if_neg c];rfl
  rw [hImp,hSp];by_cases c:OQ ((Al F2).length:Int) 1 8=true
  ·have c8:=MG.1 c;rw [if_pos c,if_pos c];obtain⟨f1,f2⟩:=aW ((Al F2).length:Int) (by omega) 2 (by omega) (gd es (Al F2))
   have hck:=Fh ((Al F2).length:Int) 8 (by omega) 2
   refine⟨((Al F2).length:Int),((d+1:Nat):Int),Fg F2,(AY ((Al F2).length:Int) 2).filter (gd es (Al F2)),Al F2,true,.inl rfl,rfl,⟨by omega,fun x hx=> ?_⟩,⟨by omega,fun x hx=> ?_⟩,by omega,by omega, ?_,by omega,by omega⟩
   ·have:=r2 x hx;omega
   ·have:=(hck.1 x (QD.1 hx).1).1;omega
   ·have:=lD ((d+1:Nat):Int) (Fg F2) fun x hx=>by have:=r2 x hx;omega
    have h5:((d+1:Nat):Int)*((Fg F2).length:Int)≤4*1000000:=Int.mul_le_mul (by omega) (by omega) (by omega) (by omega)
    omega
  ·rw [if_neg c,if_neg c]
   exact⟨_,_,_,_,_,_,.inr ⟨rfl,rfl⟩,rfl,e0⟩
end Go.Proofs.YtjhjkfoabhplfaaGreat
