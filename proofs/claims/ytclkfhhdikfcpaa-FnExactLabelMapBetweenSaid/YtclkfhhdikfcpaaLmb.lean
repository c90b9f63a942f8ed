/- Label maps: program and reference agree on all arguments. Conditions: the lists are short. -/
import Derived.Test.YtclkfhhdikfcpaaL6
import Derived.Test.YtclkfhhdikfcpaaLmg
namespace Go.Proofs.Ytclkfhhdikfcpaa
open Go Dv
set_option linter.unusedSimpArgs false
set_option linter.unusedVariables false
set_option maxRecDepth 100000
theorem jm: ∀q:Fin 9,∀b:Fin 8,Bv (2 ^ q.val-1) b.val=decide (b.val<q.val):=by decide+kernel
theorem VA{q b:Nat}(hq:q≤8)(hb:b<8):Bv (2 ^ q-1) b=true↔b<q:=by
 have:=jm ⟨q,by omega⟩ ⟨b,hb⟩
 simp only at this;rw [this,decide_eq_true_eq]
theorem jo{q:Nat}(hq:q≤8):(0:Int)≤2 ^ q-1∧(2:Int) ^ q-1≤255:=by
 have h1:(2:Int) ^ q≤2 ^ 8:=Nl hq;have h2:(0:Int)<2 ^ q:=Int.pow_pos (by decide)
 have e8:(2:Int) ^ 8=256:=by decide
 omega
theorem YY{n:Nat}{good:List Int→Bool}: ∀(m:Nat) (π x:List Int),KO n good m π=some x→x.length=π.length+m
 |0,π,x,h=>by
  unfold KO at h
  split at h
  ·cases h;rfl
  ·cases h
 |m+1,π,x,h=>by
  unfold KO at h;obtain⟨b,_,h2⟩:=List.exists_of_findSome?_eq_some h;have:=YY m _ x h2
  rw [Jz,ai]at this;omega
theorem Tf{p a:Nat}(x:Int)(ha:a<p):(List.replicate p x).getD a default=x:=by
 rw [Av _ _ (by simpa using ha),List.getElem_replicate]
theorem dW(a d:Int)(ns es:List (List Int))(a' d':Int)(ms fs:List (List Int))(hn:BM ns)(he:BM es)(hm:BM ms)(hf:BM fs)(hsm:es.length+ns.length<1099511627776):
  ∃r ok,(EM a d ns es a' d' ms fs=some (.inl (r,ok))∨EM a d ns es a' d' ms fs=some (.inr (r,ok)))∧EK a d ns es a' d' ms fs=some (r,ok)∧r.length≤8:=by
 unfold EM EK RS JS;rw [CU hn,CU he];by_cases p1:F4 a d ns es=true
 ·rw [if_pos p1,CU hm,CU hf];by_cases p2:F4 a' d' ms fs=true
  ·rw [if_pos p2];by_cases e1:d=d'
   ·subst e1;obtain⟨q1,q2,q3,q4⟩:=TV p1;obtain⟨q1',q2',q3',q4'⟩:=TV p2;obtain⟨p,rfl⟩: ∃n:Nat,a=(n:Int):=⟨a.toNat,by omega⟩
    obtain⟨q,rfl⟩: ∃n:Nat,a'=(n:Int):=⟨a'.toNat,by omega⟩
    obtain⟨D,rfl⟩: ∃n:Nat,d=(n:Int):=⟨d.toNat,by omega⟩
    have T:TwoQ ns es ms fs p q:=⟨by omega,by omega,YU q2 q3,YU (by omega) q4,hn,he,hm,hf,Uz q3',Uz q4'⟩
    have C:NarC ns es ms fs p q D:=⟨T,by omega,by omega,fun c hc=>by have:=(NN q3 hc).1;omega,fun c hc=>by have:=(NN q4 hc).1;omega,hsm⟩
    have hfr:=jo (q:=q) (by omega)
    have hS0:OkV p (List.replicate p (2 ^ q-1)):=⟨by simp,fun b hb=>by rw [Tf _ hb];exact hfr⟩
    have hI:=V5 T (D:Int) (D:Int) p 1000000 [] (by simp) (by omega)
    have hI':Ji (p:Int) (D:Int) ns es (q:Int) (D:Int) ms fs []=_:=hI;rw [jc T p [] (by simp) (fun j j1 j2=>by simp at j2;omega)]at hI'
    have t1:=PV ms q D (by omega) (by omega) hm.1
    have t2:=PV fs q 2 (by omega) (by omega) hf.1
    have l0:EF (p:Int) (D:Int) ns es (q:Int) (D:Int) ms fs (Bd ms q D) (Bd fs q 2) ([],0)=some (List.replicate p (2 ^ q-1)):=by
     unfold EF;have key:=Hy (fun v=>Cr (p:Int) (D:Int) ns es (q:Int) (D:Int) ms fs (Bd ms q D) (Bd fs q 2) v.1 v.2) (fun i=>(List.replicate i ((2:Int) ^ q-1),(i:Int))) p (List.replicate p (2 ^ q-1)) ?_ ?_
     ·simpa using key
     ·intro i hi;simp only [Cr,KP,V8 q (by omega),IK ((2:Int) ^ q-1) (by omega),Yb]
      rw [if_pos (by omega),CU (by omega),CU (by omega),Ny i (by omega),List.replicate_succ']
     ·simp only [Cr];rw [if_neg (by omega)]
    have hall: ∀g,GoodF ns es ms fs p q g→g.take ([]:List Int).length=[]→aZ p g (List.replicate p (2 ^ q-1)):=by
     intro g hg _ b hb;have hgl:=hg.len;have:=hg.rng (g.getD b default) (by rw [Av _ _ (by omega)];exact Ij _)
     rw [Tf _ hb,VA (by omega) (by omega)]
     omega
    obtain⟨out,n1,n2,n3,n4,n5⟩:=V7 C hS0;have t2':JK fs (q:Int) (2:Int)=some (Bd fs q 2):=t2;simp only [decide_true,Ee,if_true,t1,t2',l0,n1,hI']
    cases h0:out.contains (0:Int)with
    |true=>
     rw [aa (by simp) (by simp) hall n3 n2 h0]
     exact⟨_,_,.inr rfl,rfl,by simp⟩
    |false=>
     have hG:GrowH ns es ms fs p q [] out:=by
      refine⟨n2,fun g hg ht'=>n3 g hg (hall g hg ht'),fun i hi=>by simp at hi,fun b hb x hx hh=> ?_,fun b hb e=> ?_,n5,by simp⟩
      ·have:=n4 b x hb hx hh
       rw [Tf _ hb]at this
       exact(VA (by omega) hx).1 this
      ·have hol:=n2.len;rw [Av _ _ (by omega)]at e
       rw [Gm]at h0;exact h0 (RU.2 (e▸Ij _))
     obtain⟨r,r1,r2⟩:=V9 C p 1000000 [] out (by simp) (by omega) hG
     have r1':Jj (p:Int) (D:Int) ns es (q:Int) (D:Int) ms fs (Bd ms q D) (Bd fs q 2) [] out=some r:=r1;simp only [Bool.not_false,if_true,r1',Ee]
     cases hd:KO q (Jk ns es ms fs) p []with
     |some x=>
      rw [hd]at r2;have hx:=YY p [] x hd;have hx8:x.length≤8:=by simp at hx;omega
      rcases r2 with e|e
      ·subst e;exact⟨_,_,.inl rfl,rfl,hx8⟩
      ·subst e;exact⟨_,_,.inr rfl,rfl,hx8⟩
     |none=>
      rw [hd]at r2;have e:r= .inr ([],false):=r2;subst e
      exact⟨_,_,.inr rfl,rfl,by simp⟩
   ·rw [decide_eq_false e1]
    exact⟨_,_,.inr rfl,rfl,by simp⟩
  ·rw [if_neg p2];exact⟨_,_,.inr rfl,rfl,by simp⟩
 ·rw [if_neg p1];exact⟨_,_,.inr rfl,rfl,by simp⟩
end Go.Proofs.Ytclkfhhdikfcpaa
