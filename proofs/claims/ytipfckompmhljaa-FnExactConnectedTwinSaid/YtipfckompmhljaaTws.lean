/- A lift of a network is a network. Conditions: those in each lemma. -/
import Derived.Test.YtipfckompmhljaaL6
import Derived.Test.YtipfckompmhljaaTwr
namespace Go.Proofs.Ytipfckompmhljaa
open Go Dv
set_option linter.unusedSimpArgs false
set_option linter.unusedVariables false
set_option maxRecDepth 100000
theorem Qm(E:List (List (Int×Int))):Shp E (Ml E (2*E.length)):=by
 refine⟨Qk E _,fun x hx=> ?_⟩
 rw [Av _ _ (by rw [Qk];exact hx)]
 simp [Ml]
theorem XM{E:List (List (Int×Int))}{ids ins:List Int}(h:Bj E ids ins=true): ∀x∈F9 E E.length,rZ E x:=by
 intro x hx;obtain⟨v,i,hv,hi,_,rfl⟩:=(Jb E _ _).1 hx;obtain⟨_,_,_,p4⟩:=Dj h;obtain⟨w,j,f1,f2,hw,hj,_,_⟩:=p4 v i hv hi
 exact⟨v,i,w,j,by rw [f1,f2],hv,hw,hi,hj⟩
theorem lJ{E B:List (List (Int×Int))}{ids ins:List Int}(h:Bj E ids ins=true)(hB:Shp E B)(P:List (List Int))(hP: ∀k,k<(F9 E E.length).length→bz (P.getD k default))(x p:Nat)(hx:x<2*E.length)(hp:p<(E.getD (x / 2) default).length):
  ∃y q:Nat,y<2*E.length∧q<(E.getD (y / 2) default).length∧WS (Mm (F9 E E.length) P B (F9 E E.length).length) x p=((y:Int),(q:Int))∧WS (Mm (F9 E E.length) P B (F9 E E.length).length) y q=((x:Int),(p:Int)):=by
 obtain⟨_,_,_,p4⟩:=Dj h;obtain⟨w,j,f1,f2,hw,hj,f3,f4⟩:=p4 (x / 2) p (by omega) hp
 have done:=XL h hB P hP (XM h) (F9 E E.length).length (Nat.le_refl _);have hx2:2*(x / 2)+x % 2=x:=by omega
 by_cases c:JE E (x / 2) p=true
 ·have hm:(((x / 2:Nat):Int),(p:Int),(w:Int),(j:Int))∈F9 E E.length:=(Jb E _ _).2 ⟨x / 2,p,by omega,hp,c,by rw [f1,f2]⟩
  obtain⟨m,hm,e⟩:=List.getElem_of_mem hm;have D:=done m hm (x / 2) p w j (by rw [Av _ m hm,e])
  obtain⟨d,hd,a,b⟩:=D.1 (x % 2) (by omega)
  rw [hx2]at a b
  exact⟨2*w+d,j,by omega,by rw [show(2*w+d) / 2=w by omega];exact hj,a,b⟩
 ·have c2:JE E w j=true:=by
   unfold JE at c ⊢;rw [f1,f2]at c;rw [f3,f4];simp only [Bool.or_eq_true,Bool.and_eq_true,decide_eq_true_eq]at c ⊢;omega
  have hm:((w:Int),(j:Int),((x / 2:Nat):Int),(p:Int))∈F9 E E.length:=(Jb E _ _).2 ⟨w,j,hw,hj,c2,by rw [f3,f4]⟩
  obtain⟨m,hm,e⟩:=List.getElem_of_mem hm;have D:=done m hm w j (x / 2) p (by rw [Av _ m hm,e])
  obtain⟨d,hd,a,b⟩:=D.2 (x % 2) (by omega)
  rw [hx2]at a b
  exact⟨2*w+d,j,by omega,by rw [show(2*w+d) / 2=w by omega];exact hj,a,b⟩
theorem ru{E:List (List (Int×Int))}{ids ins:List Int}(h:Bj E ids ins=true)(hn:E.length≤20)(P:List (List Int))(hP: ∀k,k<(F9 E E.length).length→bz (P.getD k default)):
  Bj (Mm (F9 E E.length) P (Ml E (2*E.length)) (F9 E E.length).length) [] (Le ins (2*E.length))=true:=by
 obtain⟨_,p2,p3,_⟩:=Dj h;have hS:=Mo (Qm E) (F9 E E.length) P (XM h) hP _ (Nat.le_refl _);have hport:=lJ h (Qm E) P hP;unfold Bj at h;simp only [Bool.and_eq_true,decide_eq_true_eq]at h;obtain⟨_,_,h3,h4,_⟩:=h;generalize Mm (F9 E E.length) P (Ml E (2*E.length)) (F9 E E.length).length=B at hS hport;unfold Bj;simp only [Bool.and_eq_true]
 refine⟨FK.2 (by rw [hS.len];omega),rfl,decide_eq_true (by rw [OZ,hS.len]), ?_, ?_⟩
 ·unfold II at h4 ⊢;rw [List.all_eq_true]at h4 ⊢;intro a ha;unfold Le at ha;obtain⟨x,hx,rfl⟩:=List.mem_map.1 ha;have:=List.mem_range.1 hx
  rw [Av _ _ (show x / 2<ins.length by omega)]
  exact h4 _ (List.getElem_mem _)
 ·rw [List.all_eq_true];intro x hx;have hx':x<2*E.length:=by rw [←hS.len];exact List.mem_range.1 hx
  have hr:=hS.row x hx';rw [Jm,Bool.and_eq_true,decide_eq_true_eq,List.all_eq_true]
  refine⟨by rw [hr];exact p3 _ (by omega),fun p hp=> ?_⟩
  have hp':=List.mem_range.1 hp;rw [hr]at hp';obtain⟨y,q,hy,hq,e1,e2⟩:=hport x p hx' hp';have hry:=hS.row y hy;have a1:BA (B.getD x default) p=(y:Int):=congrArg Prod.fst e1;have a2:Bc (B.getD x default) p=(q:Int):=congrArg Prod.snd e1;have a3:BA (B.getD y default) q=(x:Int):=congrArg Prod.fst e2;have a4:Bc (B.getD y default) q=(p:Int):=congrArg Prod.snd e2;rw [Md,a1,a2,Int.toNat_natCast,Int.toNat_natCast,a3,a4];simp only [Bool.and_eq_true,beq_self_eq_true,and_true]
  exact⟨FK.2 (by rw [hS.len];omega),FK.2 (by rw [hry];omega)⟩
end Go.Proofs.Ytipfckompmhljaa
