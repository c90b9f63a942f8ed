/- Full lists, program and reference. Conditions: those in each lemma. -/
import Derived.Test.YtjhjkfoabhplfaaGreatL6
import Derived.Test.YtjhjkfoabhplfaaGreatNsc
import Derived.Test.YtjhjkfoabhplfaaGreatEsb
import Derived.Test.YtjhjkfoabhplfaaGreatEsc
namespace Go.Proofs.YtjhjkfoabhplfaaGreat
open Go Dv
set_option linter.unusedSimpArgs false
set_option linter.unusedVariables false
set_option maxRecDepth 100000
def up(x:AA):AA:=x.map (· +1)
theorem XJ(x:AA):(up x).length=x.length:=by simp [up]
theorem uL{x:AA}{q:Int}(h: ∀y∈x,0≤y∧y<q): ∀s∈up x,1≤s∧s≤q:=fun s hs=>by
 obtain⟨y,hy,rfl⟩:=Fq.1 hs;have:=h y hy
 show 1≤y+1∧y+1≤q
 omega
def Jd(ns:AL)(n:Nat)(x:AA):AA:=up x++[Jt ns n (up x)]
theorem ay(ns:AL)(n:Nat)(x:AA):(Jd ns n x).length=x.length+1:=by simp [Jd,up]
def Li(ns:AL)(n:Nat)(l:AA):Bool:=(List.range l.length).all fun i=>decide (Jt ns n (l.eraseIdx i)=l.getD i default)
theorem fe(ns:AL)(n:Nat)(l:AA):Li ns n l=true↔yB ns n l:=by
 unfold Li yB;rw [JR]
 constructor
 ·intro h i hi;have:=h i (Lt.2 hi)
  rw [decide_eq_true_eq,AX _ _ hi]at this;exact this
 ·intro h i hi;have hi':=Lt.1 hi;rw [decide_eq_true_eq,AX _ _ hi'];exact h i hi'
theorem pg{l:AA}{i:Nat}{P:Int→Prop}(h: ∀s∈l,P s): ∀s∈l.eraseIdx i,P s:=fun s hs=>h s (List.mem_of_mem_eraseIdx hs)
theorem yF(n d:Nat)(ns es:AL)(hn:1≤n∧n≤8)(hd:d≤3)(l:AA)(hl:l.length=d+1)(hr: ∀s∈l,0≤s∧s<2 ^ n):
  Gc (n:Int) ((d+1:Nat):Int) ns es ((List.range (n ^ d)).map (PU ns n d)) l=some (Li ns n l):=by
 obtain⟨r,h1,h2⟩:=JV (fun v=>Dh (n:Int) ((d+1:Nat):Int) ns es ((List.range (n ^ d)).map (PU ns n d)) l v)
  (fun m (v:Int)=> ∃i:Nat,v=(i:Int)∧m=l.length-i∧i≤l.length∧ ∀j,j<i→Jt ns n (l.eraseIdx j)=l.getD j default)
  (fun r:Unit⊕Unit=>match r with| .inl _=>Li ns n l=false| .inr _=>Li ns n l=true) (by
   rintro m v ⟨i,rfl,hm,hi,hall⟩
   simp only [Dh,H5];by_cases c:i<l.length
   ·have ec:U0 l i (IntKind.i64.wrap ((i:Int)+1)).toNat=l.eraseIdx i:=by
     rw [H9 i (by omega),H5,List.eraseIdx_eq_take_drop_succ];rfl
    have hlen:(l.eraseIdx i).length=d:=by rw [List.length_eraseIdx_of_lt c];omega
    rw [if_pos (BZ c),Ao (by omega),Ao (by rw [H9 i (by omega)];omega),ec,Rn n d ns es hn hd _ hlen (pg hr),Bl,Ao (by omega),H9 i (by omega)]
    by_cases e:Jt ns n (l.eraseIdx i)=l.getD i default
    ·left
     rw [if_pos e]
     refine⟨_,l.length-(i+1),rfl,by omega,i+1,rfl,rfl,by omega,fun j hj=> ?_⟩
     by_cases hji:j=i
     ·rw [hji];exact e
     ·exact hall j (by omega)
    ·right
     rw [if_neg e]
     refine⟨_,rfl, ?_⟩
     unfold Li;rw [List.all_eq_false]
     exact⟨i,Lt.2 c,by simpa using e⟩
   ·right
    rw [if_neg (by omega)]
    refine⟨_,rfl, ?_⟩
    unfold Li;rw [JR]
    exact fun j hj=>decide_eq_true (hall j (by have:=Lt.1 hj;omega))) l.length (0:Int) ⟨0,rfl,rfl,Tx _,fun j hj=>by omega⟩
 unfold Gc Gb;rw [h1,Bl]
 cases r with
 |inl q=>simp only at h2;rw [h2]
 |inr q=>simp only at h2;rw [h2]
theorem fq(n d:Nat)(ns es:AL)(hn:1≤n∧n≤8)(hd:d≤3)(l:AA)(hl:l.length=d+1)(hr: ∀s∈l,0≤s∧s<2 ^ n):
  II (n:Int) ((d+1:Nat):Int) ns es ((List.range (n ^ (d+1))).map (PV ns n (d+1))) l=some (Li ns n l):=by
 obtain⟨r,h1,h2⟩:=JV (fun v=>Eu (n:Int) ((d+1:Nat):Int) ns es ((List.range (n ^ (d+1))).map (PV ns n (d+1))) l v)
  (fun m (v:Int)=> ∃i:Nat,v=(i:Int)∧m=l.length-i∧i≤l.length∧ ∀j,j<i→Jt ns n (l.eraseIdx j)=l.getD j default)
  (fun r:Unit⊕Unit=>match r with| .inl _=>Li ns n l=false| .inr _=>Li ns n l=true) (by
   rintro m v ⟨i,rfl,hm,hi,hall⟩
   simp only [Eu,NL,H5];by_cases c:i<l.length
   ·have ec:(l.take i).drop 0++(l.take l.length).drop (IntKind.i64.wrap ((i:Int)+1)).toNat=l.eraseIdx i:=by
     rw [H9 i (by omega),H5,UT,Lr,List.eraseIdx_eq_take_drop_succ]
    have hlen:(l.eraseIdx i).length=d:=by rw [List.length_eraseIdx_of_lt c];omega
    have k1:((l.take i).drop 0).length=i:=by rw [UT,KV];omega
    have k2:((l.take l.length).drop (IntKind.i64.wrap ((i:Int)+1)).toNat).length=l.length-(i+1):=by rw [H9 i (by omega),H5,Lr,gF]
    rw [if_pos (BZ c),Ao (by omega),Ao (by omega),Ao (by omega),Ao (by omega),Bl,Ao (by rw [H9 i (by omega)];omega),Ao (by rw [H9 i (by omega)];omega),Ao (by omega),ec,av n d ns es hn hd _ hlen (pg hr),Bl,H9 i (by omega)]
    by_cases e:Jt ns n (l.eraseIdx i)=l.getD i default
    ·left
     rw [if_pos e]
     refine⟨_,l.length-(i+1),rfl,by omega,i+1,rfl,rfl,by omega,fun j hj=> ?_⟩
     by_cases hji:j=i
     ·rw [hji];exact e
     ·exact hall j (by omega)
    ·right
     rw [if_neg e]
     refine⟨_,rfl, ?_⟩
     unfold Li;rw [List.all_eq_false]
     exact⟨i,Lt.2 c,by simpa using e⟩
   ·right
    rw [if_neg (by omega)]
    refine⟨_,rfl, ?_⟩
    unfold Li;rw [JR]
    exact fun j hj=>decide_eq_true (hall j (by have:=Lt.1 hj;omega))) l.length (0:Int) ⟨0,rfl,rfl,Tx _,fun j hj=>by omega⟩
 unfold II JZ;rw [h1,Bl]
 cases r with
 |inl q=>simp only at h2;rw [h2]
 |inr q=>simp only at h2;rw [h2]
def yO(ns:AL)(n:Nat)(x:AA):Bool:= !decide (Jt ns n (up x)=0)&&Li ns n (Jd ns n x)
def TS(ns:AL)(n:Nat)(C:AL):AL:=(C.filter (yO ns n)).map fun x=>Dn (Jd ns n x)
def pq(ns:AL)(n:Nat)(x:AA):Bool:= !decide (Jt ns n (up x)=0)&&(!(decide (0<x.length)&&decide (Jt ns n (up x)<(up x).getD (x.length-1) default))&&Li ns n (Jd ns n x))
def UL(ns:AL)(n:Nat)(C:AL):AL:=(C.filter (pq ns n)).map (Jd ns n)
theorem UM{α β:Type}(p:α→Bool)(f:α→β)(C:List α)(i:Nat)(hi:i<C.length):((C.take (i+1)).filter p).map f=((C.take i).filter p).map f++if p C[i]=true then [f C[i]]else []:=by
 rw [S9 hi,lM,UR,List.filter_cons,List.filter_nil]
 split<;>rfl
theorem Oa{α β:Type}(p:α→Bool)(f:α→β)(C:List α)(i:Nat):(((C.take i).filter p).map f).length≤C.length:=by
 rw [R4];refine UU (qF _ _) ?_;rw [KV];omega
structure ChOk(C:AL)(n d:Nat):Prop where
 len:C.length≤1000000
 row: ∀x∈C,x.length=d∧ ∀y∈x,0≤y∧y<2 ^ n-1
theorem pu{C:AL}{n d:Nat}(h:ChOk C n d)(ns:AL){x:AA}(hx:x∈C):(up x).length=d∧(∀s∈up x,0≤s∧s<2 ^ n)∧(Jd ns n x).length=d+1∧ ∀s∈Jd ns n x,0≤s∧s<2 ^ n:=by
 obtain⟨h1,h2⟩:=h.row x hx;have h3:=uL h2;have h4:=Tq ns n (up x)
 refine⟨by rw [XJ];exact h1,fun s hs=>by have:=h3 s hs;omega,by rw [ay];omega,fun s hs=> ?_⟩
 rcases PW.1 hs with hs|hs
 ·have:=h3 s hs;omega
 ·rw [UQ.1 hs];exact h4
theorem vL(x:AA)(i:Nat)(hi:i<x.length):up (x.take (i+1))=up (x.take i)++[x[i]+1]:=by
 unfold up;rw [S9 hi,UR];rfl
theorem pz(n d:Nat)(ns es:AL)(hn:1≤n∧n≤8)(hd:d≤3)(C:AL)(hC:ChOk C n d):
  DW (n:Int) ((d+1:Nat):Int) ns es ((List.range (n ^ d)).map (PU ns n d)) C ([],0)=some (TS ns n C):=by
 have h2n:=Rf n hn.2;have hCl:=hC.len;unfold DW;have key:=BD (fun v=>CK (n:Int) ((d+1:Nat):Int) ns es ((List.range (n ^ d)).map (PU ns n d)) C v.1 v.2) (fun i=>(((C.take i).filter (yO ns n)).map fun x=>Dn (Jd ns n x),(i:Int))) C.length (TS ns n C) ?_ ?_
 ·exact key
 ·intro i hi;have hx:=FT hi;obtain⟨x1,x2⟩:=hC.row _ hx;obtain⟨c1,c2,c3,c4⟩:=pu hC ns hx;have hlen:=Oa (yO ns n) (fun x=>Dn (Jd ns n x)) C i
  have hup:DV (n:Int) ((d+1:Nat):Int) ns es ((List.range (n ^ d)).map (PU ns n d)) C (((C.take i).filter (yO ns n)).map fun x=>Dn (Jd ns n x)) (i:Int) ([],0)=some (up C[i]):=by
   unfold DV;have k2:=BD (fun v=>CJ (n:Int) ((d+1:Nat):Int) ns es ((List.range (n ^ d)).map (PU ns n d)) C (((C.take i).filter (yO ns n)).map fun x=>Dn (Jd ns n x)) (i:Int) v.1 v.2) (fun j=>(up (C[i].take j),(j:Int))) C[i].length (up C[i]) ?_ ?_
   ·exact k2
   ·intro j hj;have hy:=x2 _ (FT hj);have hul:(up (C[i].take j)).length≤d:=by rw [XJ,KV];omega
    simp only [CJ,H5,AX _ _ hi];rw [if_pos (BZ hj),Ao hi,Ao (by omega),Ao (by omega),AX _ _ hj,Db _ (by omega),H9 j (by omega),vL _ j hj]
   ·simp only [CJ,H5,AX _ _ hi];rw [if_neg (Ae _),Lr]
  have ec:up C[i]++[Jt ns n (up C[i])]=Jd ns n C[i]:=rfl;simp only [CK];rw [if_pos (BZ hi),Ao (by omega),Ao (by omega),hup,Bl,Rn n d ns es hn hd _ c1 c2,Bl,H9 i (by omega),UM _ _ C i hi,ec]
  by_cases hz:Jt ns n (up C[i])=0
  ·have ho:yO ns n C[i]=false:=by unfold yO;rw [decide_eq_true hz];rfl
   rw [if_pos hz,ho,if_neg (by decide),O6]
  ·have ho:yO ns n C[i]=Li ns n (Jd ns n C[i]):=by unfold yO;rw [decide_eq_false hz];rfl
   rw [if_neg hz,Ao (by omega),yF n d ns es hn hd _ c3 c4,Bl,ho]
   cases Li ns n (Jd ns n C[i])with
   |true=>rw [if_pos rfl,if_pos rfl,Ao (by omega),Ao (by omega)]
   |false=>rw [if_neg (by decide),if_neg (by decide),O6]
 ·simp only [CK];rw [if_neg (Ae _),Lr];rfl
theorem az(n d:Nat)(ns es:AL)(hn:1≤n∧n≤8)(hd:d≤3)(C:AL)(hC:ChOk C n d):
  Lh (n:Int) ((d+1:Nat):Int) ns es ((n:Int),((d+1:Nat):Int),ns,es,(List.range (n ^ (d+1))).map (PV ns n (d+1))) C ([],0)=some (UL ns n C):=by
 have h2n:=Rf n hn.2;have hCl:=hC.len;unfold Lh;have key:=BD (fun v=>JP (n:Int) ((d+1:Nat):Int) ns es ((n:Int),((d+1:Nat):Int),ns,es,(List.range (n ^ (d+1))).map (PV ns n (d+1))) C v.1 v.2) (fun i=>(((C.take i).filter (pq ns n)).map (Jd ns n),(i:Int))) C.length (UL ns n C) ?_ ?_
 ·exact key
 ·intro i hi;have hx:=FT hi;obtain⟨x1,x2⟩:=hC.row _ hx;obtain⟨c1,c2,c3,c4⟩:=pu hC ns hx;have hlen:=Oa (pq ns n) (Jd ns n) C i
  have hup:O1 (n:Int) ((d+1:Nat):Int) ns es ((n:Int),((d+1:Nat):Int),ns,es,(List.range (n ^ (d+1))).map (PV ns n (d+1))) C (((C.take i).filter (pq ns n)).map (Jd ns n)) (i:Int) ([],0)=some (up C[i]):=by
   unfold O1;have k2:=BD (fun v=>JO (n:Int) ((d+1:Nat):Int) ns es ((n:Int),((d+1:Nat):Int),ns,es,(List.range (n ^ (d+1))).map (PV ns n (d+1))) C (((C.take i).filter (pq ns n)).map (Jd ns n)) (i:Int) v.1 v.2) (fun j=>(up (C[i].take j),(j:Int))) C[i].length (up C[i]) ?_ ?_
   ·exact k2
   ·intro j hj;have hy:=x2 _ (FT hj);have hul:(up (C[i].take j)).length≤d:=by rw [XJ,KV];omega
    simp only [JO,H5,AX _ _ hi];rw [if_pos (BZ hj),Ao (by omega),Ao (by omega),AX _ _ hj,Db _ (by omega),H9 j (by omega),vL _ j hj]
   ·simp only [JO,H5,AX _ _ hi];rw [if_neg (Ae _),Lr]
  have ec:up C[i]++[Jt ns n (up C[i])]=Jd ns n C[i]:=rfl;simp only [JP];rw [if_pos (BZ hi),Ao (by omega),hup,Bl,av n d ns es hn hd _ c1 c2,Bl,H9 i (by omega),UM _ _ C i hi,ec]
  by_cases hz:Jt ns n (up C[i])=0
  ·have ho:pq ns n C[i]=false:=by unfold pq;rw [decide_eq_true hz];rfl
   rw [if_pos hz,ho,if_neg (by decide),O6]
  ·rw [if_neg hz];by_cases hp:0<C[i].length
   ·rw [if_pos (by omega),Db _ (by omega),Ao (by omega),show(((up C[i]).length:Int)-1).toNat=C[i].length-1 by rw [XJ];omega]
    by_cases hq:Jt ns n (up C[i])<(up C[i]).getD (C[i].length-1) default
    ·have ho:pq ns n C[i]=false:=by unfold pq;rw [decide_eq_true hp,decide_eq_true hq];simp
     rw [if_pos hq,ho,if_neg (by decide),O6]
    ·have ho:pq ns n C[i]=Li ns n (Jd ns n C[i]):=by unfold pq;rw [decide_eq_false hz,decide_eq_false hq];simp
     rw [if_neg hq,Ao (by omega),fq n d ns es hn hd _ c3 c4,Bl,ho]
     cases Li ns n (Jd ns n C[i])with
     |true=>rw [if_pos rfl,if_pos rfl,Ao (by omega)]
     |false=>rw [if_neg (by decide),if_neg (by decide),O6]
   ·have ho:pq ns n C[i]=Li ns n (Jd ns n C[i]):=by unfold pq;rw [decide_eq_false hz,decide_eq_false hp];simp
    rw [if_neg (by rw [XJ];omega),Ao (by omega),fq n d ns es hn hd _ c3 c4,Bl,ho]
    cases Li ns n (Jd ns n C[i])with
    |true=>rw [if_pos rfl,if_pos rfl,Ao (by omega)]
    |false=>rw [if_neg (by decide),if_neg (by decide),O6]
 ·simp only [JP];rw [if_neg (Ae _),Lr];rfl
end Go.Proofs.YtjhjkfoabhplfaaGreat
