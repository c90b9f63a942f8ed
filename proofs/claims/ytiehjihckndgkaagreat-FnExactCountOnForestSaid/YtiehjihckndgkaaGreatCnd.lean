/- Branches of a forest end. Conditions: those in each lemma. -/
import Derived.Test.YtiehjihckndgkaaGreatL6
import Derived.Test.YtiehjihckndgkaaGreatCnt
import Derived.Test.YtiehjihckndgkaaGreatFrf
namespace Go.Proofs.YtiehjihckndgkaaGreat
open Go Dv
set_option linter.unusedSimpArgs false
set_option linter.unusedVariables false
set_option maxRecDepth 100000
theorem jg(p q:Nat→Bool)(h: ∀x,q x=true→p x=true)(r:Nat)(hp:p r=true)(hq:q r=false): ∀n,r<n→(List.range n).countP q<(List.range n).countP p
 |0,h=>by omega
 |n+1,hr=>by
  rw [fD,List.countP_append,List.countP_append,List.countP_singleton,List.countP_singleton];by_cases e:r=n
  ·subst e;have:(List.range r).countP q≤(List.range r).countP p:=List.countP_mono_left fun x _=>h x
   rw [if_pos hp,hq];simp only [OB,if_false];omega
  ·have ih:=jg p q h r hp hq n (by omega)
   by_cases c:q n=true
   ·rw [if_pos c,if_pos (h n c)];omega
   ·rw [if_neg c];omega
noncomputable def msr(E:List (List (Int×Int)))(v i:Nat):Nat:=(List.range E.length).countP fun x=>dcd (Cn (Q5 E v i) v x)
theorem A39{E:List (List (Int×Int))}(hs:XY E=false){v i:Nat}(hv:v<E.length)(hi:i<(E.getD v default).length):Q4 E v i=false:=by
 unfold XY at hs;rw [List.any_eq_false]at hs;have h1:=hs v (MJ.2 hv);rw [fB,List.any_eq_false]at h1;have h2:=h1 i (MJ.2 hi);simpa using h2
theorem wU{E:List (List (Int×Int))}(H:PortN E)(hs:XY E=false)(ha:A53 E){v i k:Nat}(hv:v<E.length)(hi:i<(E.getD v default).length)(hk:k<(E.getD v default).length)(hki:k≠i):
  (∀x,Cn (Q5 E (Jz E v k) (SG E v k)) (Jz E v k) x→Cn (Q5 E v i) v x)∧ ¬Cn (Q5 E (Jz E v k) (SG E v k)) (Jz E v k) v:=by
 obtain⟨p1,p2,p3,p4,p5,p6⟩:=H.prt v k hv hk;obtain⟨q1,q2,q3,q4,q5,q6⟩:=H.prt v i hv hi
 have hno: ¬Cn (Q5 E (Jz E v k) (SG E v k)) (Jz E v k) v:=by
  have:=ha (Jz E v k) p3 (SG E v k) p4 (A39 hs p3 p4)
  rwa [p5]at this
 have hself:Jz E v i≠v:=by
  intro e;have:=ha v hv i hi (A39 hs hv hi)
  rw [e]at this;exact this (Cn.refl v)
 refine⟨fun x hx=> ?_,hno⟩
 obtain⟨l,hl⟩:=hx
 induction hl with
 |z=>
  have hm:BP (E.getD v default) k∈Q5 E v i v:=by
   rw [Tq]
   refine⟨k,hk, ?_,rfl⟩
   unfold sK;rw [decide_eq_true (rfl:v=v),decide_eq_false hki,decide_eq_false (fun e:v=Jz E v i=>hself e.symm)];rfl
  have:=Cn.of hm
  rwa [p1,EC]at this
 | @s l x y hr hy ih=>
  have hx:x≠v:=fun e=>hno (Eq.subst (motive:=fun z=>Cn (Q5 E (Jz E v k) (SG E v k)) (Jz E v k) z) e ⟨_,hr⟩);have hyv:y.toNat≠v:=fun e=>hno (Eq.subst (motive:=fun z=>Cn (Q5 E (Jz E v k) (SG E v k)) (Jz E v k) z) e ⟨_,Rch.s hr hy⟩);obtain⟨p,hp,_,rfl⟩:=Tq.1 hy;refine ih.trans (Cn.of (Tq.2 ⟨p,hp, ?_,rfl⟩));unfold sK;rw [decide_eq_false hx,Bool.false_and];by_cases e1:x=Jz E v i
  ·by_cases e2:p=SG E v i
   ·exfalso;apply hyv
    rw [e1,e2];exact q5
   ·rw [decide_eq_false e2,Bool.and_false];rfl
  ·rw [decide_eq_false e1];rfl
theorem A3A{E:List (List (Int×Int))}(H:PortN E)(hs:XY E=false)(ha:A53 E): ∀(f v i:Nat),v<E.length→i<(E.getD v default).length→msr E v i≤f→A00 E f v (i:Int)
 |0,v,i,hv,hi,hm=>by
  have:0<msr E v i:=by
   unfold msr;rw [List.countP_pos_iff]
   exact⟨v,MJ.2 hv,JC.2 (Cn.refl v)⟩
  omega
 |f+1,v,i,hv,hi,hm=>by
  refine⟨hv,fun k hk hki=> ?_⟩
  have hki':k≠i:=by omega
  obtain⟨p1,p2,p3,p4,p5,p6⟩:=H.prt v k hv hk;obtain⟨b1,b2⟩:=wU H hs ha hv hi hk hki';refine A3A H hs ha f (Jz E v k) (SG E v k) p3 p4 ?_
  have:msr E (Jz E v k) (SG E v k)<msr E v i:=by
   unfold msr
   exact jg _ _ (fun x hx=>JC.2 (b1 x (JC.1 hx))) v (JC.2 (Cn.refl v)) (by
    rw [Jw];intro hc
    exact b2 (JC.1 hc)) E.length hv
  omega
theorem eU{E:List (List (Int×Int))}(H:PortN E)(hf:nz E=true){v:Nat}(hv:v<E.length):A00 E (E.length+1) v (-1):=by
 unfold nz at hf;rw [Gb,OT,JC]at hf
 refine⟨hv,fun k hk _=> ?_⟩
 obtain⟨p1,p2,p3,p4,p5,p6⟩:=H.prt v k hv hk;refine A3A H hf.1 hf.2 E.length (Jz E v k) (SG E v k) p3 p4 ?_;unfold msr;exact VH List.countP_le_length (by simp)
end Go.Proofs.YtiehjihckndgkaaGreat
