/- A round of an elimination: program and reference agree. Conditions: those in each lemma. -/
import Derived.Test.YtjhjkfoabhplfaaGreatL6
import Derived.Test.YtjhjkfoabhplfaaGreatElrA
import Derived.Test.YtjhjkfoabhplfaaGreatEsp
import Derived.Test.YtjhjkfoabhplfaaGreatNsf
namespace Go.Proofs.YtjhjkfoabhplfaaGreat
open Go Dv
set_option linter.unusedSimpArgs false
set_option linter.unusedVariables false
set_option maxRecDepth 100000
theorem uO(n D:Int)(ns es:AL)(hN:Ah ns)(hE:Ah es):
  ∃r,IJ n D ns es=some r∧FR n D ns es=some r∧y7 r.2.2.1 r.2.2.2.1 r.2.2.2.2.1∧r.2.2.2.2.2.1.length≤8:=by
 have e0:y7 [] [] []:=by unfold y7 Ah;simp [Bi]
 unfold IJ FR;obtain⟨r,hS,hI,hr⟩:=y9 n D ns es hN hE;rw [hS,Bl,Ao hN,Ao hE];unfold Uq at hI;rw [Ao hN,Ao hE]at hI;by_cases h:LM n D ns es=true
 ·rw [if_pos h]at hI ⊢;obtain⟨⟨n1,n2⟩,hD,cn,ce⟩:=ae h;obtain⟨m,rfl⟩: ∃m:Nat,n=(m:Int):=⟨n.toNat,by omega⟩
  obtain⟨n',D',ns',es',sets,ok,_,hI2,ho,hg⟩:=au m D ns es (by omega) hD hN (Tg cn) hE (Tg ce)
  rw [hI2,Bl]at hI;have hI:=Option.some.inj hI;subst hI;unfold Q9;rw [hI2,Bl]
  cases ok with
  |false=>exact⟨_,rfl,rfl,e0,by simp⟩
  |true=>
   obtain⟨⟨g1,g2⟩,g3,g4,g5⟩:=hg rfl;subst g3;obtain⟨k,rfl⟩: ∃k:Nat,n'=(k:Int):=⟨n'.toNat,by omega⟩
   obtain⟨d,rfl⟩: ∃d:Nat,D'=((d+1:Nat):Int):=⟨(D'-1).toNat,by omega⟩
   obtain⟨o1,o2,_,_,_,_,o7⟩:=ho;obtain⟨n2',D2',ns2,es2,sets2,ok2,hS2,hI3,ho2⟩:=uN k d ns' es' (by omega) (by omega) o1 g4 o2 g5
   simp only [if_true];rw [hI3,Bl];have ho2':=ho2;obtain⟨p1,p2,p3,p4,p5,p6,p7⟩:=ho2;rcases hS2 with hS2|⟨hS2,_⟩<;>rw [hS2,Bl]<;>cases ok2
   ·exact⟨_,rfl,rfl,e0,by simp⟩
   ·exact⟨_,rfl,rfl,⟨p1,p2,p3,p4,p5,p6,o7⟩,p7⟩
   ·exact⟨_,rfl,rfl,e0,by simp⟩
   ·exact⟨_,rfl,rfl,⟨p1,p2,p3,p4,p5,p6,o7⟩,p7⟩
 ·rw [if_neg h]at hI ⊢;have hI:=Option.some.inj hI;subst hI
  exact⟨_,rfl,rfl,e0,by simp⟩
noncomputable def AO(n D:Int)(ns es:AL):Int×Int×AL×AL×AA×AA×Bool:=(FR n D ns es).getD (0,0,[],[],[],[],false)
theorem XL(n D:Int)(ns es:AL)(hN:Ah ns)(hE:Ah es):IJ n D ns es=some (AO n D ns es)∧FR n D ns es=some (AO n D ns es)∧y7 (AO n D ns es).2.2.1 (AO n D ns es).2.2.2.1 (AO n D ns es).2.2.2.2.1∧(AO n D ns es).2.2.2.2.2.1.length≤8:=by
 obtain⟨r,hS,hI,h,h2⟩:=uO n D ns es hN hE;have e:AO n D ns es=r:=by unfold AO;rw [hI];rfl
 rw [e];exact⟨hS,hI,h,h2⟩
end Go.Proofs.YtjhjkfoabhplfaaGreat
