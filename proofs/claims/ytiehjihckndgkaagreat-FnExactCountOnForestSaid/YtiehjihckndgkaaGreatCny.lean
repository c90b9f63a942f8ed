/- Labelings of a branch counted: the program's recursion, to the end. Conditions: those in each lemma. -/
import Derived.Test.YtiehjihckndgkaaGreatL6
import Derived.Test.YtiehjihckndgkaaGreatCnx
namespace Go.Proofs.YtiehjihckndgkaaGreat
open Go Dv
set_option linter.unusedSimpArgs false
set_option linter.unusedVariables false
set_option maxRecDepth 100000
section
variable {E:List (List (Int×Int))} {ns es:AY} {n D:Nat} (C:Ctn E ns es n D) (ids inp:AB)
include C
def RG(_ _ _:Nat):Bool:=true
theorem A2w{v k:Nat}{i:Int}(hki:(k:Int)≠i)(T:Nat→Nat→Nat→Nat)(t7:AY)(x:Nat):
  Dz (n:Int) (D:Int) ns es E ids inp (v:Int) i t7 (k:Int) (Pt n (T (UO E v k) (Ub E v k))) (List.replicate n 0,0)=some (Pt n fun a=>V9 E es n RG T v i x k (a:Int)):=by
 have hn:=C.hn;unfold Dz;refine Z8 (fun w=>Cu (n:Int) (D:Int) ns es E ids inp (v:Int) i t7 (k:Int) (Pt n (T (UO E v k) (Ub E v k))) w.1 w.2) n (fun a=>D7 (V9 E es n RG T v i x k (a:Int))) ?_ ?_
 ·intro a w ha hw hwa
  have inner:Dy (n:Int) (D:Int) ns es E ids inp (v:Int) i t7 (k:Int) (Pt n (T (UO E v k) (Ub E v k))) (a:Int) (w,0)=some (w.set a (D7 (V9 E es n RG T v i x k (a:Int)))):=by
   have hW:V9 E es n RG T v i x k (a:Int)=Dm n fun c=>if Qc es (a:Int) (c:Int)=true then T (UO E v k) (Ub E v k) c else 0:=by
    unfold V9 RG;rw [if_neg hki,if_pos rfl]
   unfold Dy;have key:=Cf (fun z=>Ct (n:Int) (D:Int) ns es E ids inp (v:Int) i t7 (k:Int) (Pt n (T (UO E v k) (Ub E v k))) (a:Int) z.1 z.2) (fun j=>(w.set a (D7 (Dm j fun c=>if Qc es (a:Int) (c:Int)=true then T (UO E v k) (Ub E v k) c else 0)),(j:Int))) n (w.set a (D7 (V9 E es n RG T v i x k (a:Int)))) ?_ ?_
   ·have e0:w.set a (D7 (Dm 0 fun c=>if Qc es (a:Int) (c:Int)=true then T (UO E v k) (Ub E v k) c else 0))=w:=by
     rw [UD,(FE 0).2 rfl,←hwa];exact WX w a (by omega)
    rw [e0,Gn]at key;exact key
   ·intro j hj;simp only [Ct,EC,Nc];rw [if_pos (by omega),BL (by omega),BL C.he,BL C.hie,K4 j (by omega),Ef]
    cases hh:Qc es (a:Int) (j:Int)with
    |false=>rfl
    |true=>
     rw [if_pos rfl,if_pos rfl,BL (by rw [Ki];omega),dm _ _ _ (by omega),V5 _ hj,XV,List.set_set]
   ·simp only [Ct,EC,Nc];rw [if_neg (by omega),hW]
  simp only [Cu,EC,M8];rw [if_pos (by omega),inner,Cz,K4 a (by omega)]
 ·intro w hw;simp only [Cu,EC,M8];rw [if_neg (by omega)]
theorem dw(hn1:1≤n): ∀(f F v:Nat) (i:Int),f≤F→A00 E f v i→(i= -1∨(0≤i∧i.toNat<(E.getD v default).length))→
  ∃r,Bi F (n:Int) (D:Int) ns es E ids inp (v:Int) i=some r∧AIR n i r (P9 E ns es n D RG f v i)
 |0,F,v,i,_,hd,_=>hd.elim
 |f+1,0,v,i,hF,_,_=>by omega
 |f+1,F+1,v,i,hF,hd,hi=>by
  obtain⟨hv,hd⟩:=hd;have hn:=C.hn;have hdeg:=C.hN.deg v hv;have hbig:=C.hN.big;show ∃r,EP (Bi F) (n:Int) (D:Int) ns es E ids inp (v:Int) i=some r∧_
  unfold EP
  let T:Nat→Nat→Nat→Nat:=fun u j c=>if RG u j c=true then P9 E ns es n D RG f u (j:Int) c else 0
  have hhang:E5 (Bi F) (n:Int) (D:Int) ns es E ids inp (v:Int) i ([],0)=some ((List.range (E.getD v default).length).map fun(k:Nat)=>if(k:Int)=i then []else Pt n fun a=>V9 E es n RG T v i 0 k (a:Int)):=by
   unfold E5;have key:=PZ (fun w=>Cv (Bi F) (n:Int) (D:Int) ns es E ids inp (v:Int) i w.1 w.2) (List.range (E.getD v default).length) (fun(k:Nat)=>if(k:Int)=i then []else Pt n fun a=>V9 E es n RG T v i 0 k (a:Int)) ?_ ?_
   ·exact key
   ·intro k hk out ho;rw [Uc]at hk;simp only [Cv,EC,Ng];rw [if_pos (by omega),BL (by omega),K4 k (by omega)]
    by_cases ci:(k:Int)=i
    ·rw [if_pos ci,if_pos ci,BL (by omega)]
    ·obtain⟨f1,f2,f3,f4,_,_⟩:=C.hN.at hv hk;obtain⟨r,ih,h1,h2⟩:=dw hn1 f F (UO E v k) (Ub E v k:Nat) (by omega) (hd k hk ci) (.inr (by omega))
     rw [if_neg (by omega)]at h2
     have h3:r=Pt n (T (UO E v k) (Ub E v k)):=h2;rw [if_neg ci,if_neg ci,f1,f2,ih,Cz,BL (by omega),h3,A2w C ids inp ci T out 0,Cz,BL (by omega)]
   ·intro out ho;simp only [Cv,EC,Uc];rw [if_neg (by omega)]
  obtain⟨r,hr,hO⟩:=nX C ids inp (i:=i) (rl:=(E.getD v default).length) (wg:=fun a k=>V9 E es n RG T v i a k) hn1 hi hdeg
   (fun a k _ hki b=>by show V9 E es n RG T v i a k b=_;unfold V9;rw [if_pos hki])
   (fun a k _ hki=>by show V9 E es n RG T v i a k=V9 E es n RG T v i 0 k;unfold V9;rw [if_neg hki,if_neg hki])
  simp only [EC];rw [BL (by omega),hhang,Cz,hr,Cz]
  exact⟨r,rfl,hO⟩
end
theorem dz{E:List (List (Int×Int))}{ns es:AY}{n D:Nat}(hN:NetOk E){m m':Nat→Nat→Nat→Bool}(h: ∀v k a,v<E.length→k<(E.getD v default).length→a<n→m v k a=m' v k a):
  ∀(f v:Nat) (i:Int) (a:Nat),A00 E f v i→P9 E ns es n D m f v i a=P9 E ns es n D m' f v i a
 |0,_,_,_,_=>rfl
 |f+1,v,i,a,hd=>by
  obtain⟨hv,hd⟩:=hd;unfold P9;refine Y4 _ _ [] (by rw [WW,WW]) fun k h1 h2 b hb=> ?_
  rw [WW]at h1;rw [nW,nW];unfold V9;by_cases ci:(k:Int)=i
  ·rw [if_pos ci,if_pos ci]
  ·obtain⟨_,_,f3,f4,_,_⟩:=hN.at hv h1;rw [if_neg ci,if_neg ci,EC,h v k b hv h1 hb]
   have:(Dm n fun c=>if Qc es (b:Int) (c:Int)=true then(fun u j c=>if m u j c=true then P9 E ns es n D m f u (j:Int) c else 0) (UO E v k) (Ub E v k) c else 0)=Dm n fun c=>if Qc es (b:Int) (c:Int)=true then(fun u j c=>if m' u j c=true then P9 E ns es n D m' f u (j:Int) c else 0) (UO E v k) (Ub E v k) c else 0:=by
    refine JB fun c hc=> ?_;dsimp only;rw [h _ _ c f3 f4 hc,dz hN h f _ _ c (hd k h1 ci)]
   rw [this]
end Go.Proofs.YtiehjihckndgkaaGreat
