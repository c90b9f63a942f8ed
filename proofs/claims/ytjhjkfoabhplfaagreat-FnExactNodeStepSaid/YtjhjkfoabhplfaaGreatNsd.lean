/- Full lists, program and reference. Conditions: those in each lemma. -/
import Derived.Test.YtjhjkfoabhplfaaGreatL6
import Derived.Test.YtjhjkfoabhplfaaGreatNsc
import Derived.Test.YtjhjkfoabhplfaaGreatEsb
import Derived.Test.YtjhjkfoabhplfaaGreatEsc
namespace Go.Proofs.YtjhjkfoabhplfaaGreat
open Go Dv
set_option linter.unusedSimpArgs false
set_option linter.unusedVariables false
set_option maxRecDepth 100000
def up(x:AL):AL:=x.map (· +1)
theorem WX(x:AL):(up x).length=x.length:=by simp [up]
theorem qY{x:AL}{q:Int}(h: ∀y∈x,0≤y∧y<q): ∀s∈up x,1≤s∧s≤q:=fun s hs=>by
 obtain⟨y,hy,rfl⟩:=I1.1 hs;have:=h y hy
 show 1≤y+1∧y+1≤q
 omega
def Jt(ns:AO)(n:Nat)(x:AL):AL:=up x++[KE ns n (up x)]
theorem Zd(ns:AO)(n:Nat)(x:AL):(Jt ns n x).length=x.length+1:=by simp [Jt,up]
def M4(ns:AO)(n:Nat)(l:AL):Bool:=(List.range l.length).all fun i=>decide (KE ns n (l.eraseIdx i)=l.getD i default)
theorem dF(ns:AO)(n:Nat)(l:AL):M4 ns n l=true↔vO ns n l:=by
 unfold M4 vO;rw [Jr]
 constructor
 ·intro h i hi;have:=h i (O7.2 hi)
  rw [decide_eq_true_eq,Af _ _ hi]at this;exact this
 ·intro h i hi;have hi':=O7.1 hi;rw [decide_eq_true_eq,Af _ _ hi'];exact h i hi'
theorem mU{l:AL}{i:Nat}{P:Int→Prop}(h: ∀s∈l,P s): ∀s∈l.eraseIdx i,P s:=fun s hs=>h s (List.mem_of_mem_eraseIdx hs)
theorem vT(n d:Nat)(ns es:AO)(hn:1≤n∧n≤8)(hd:d≤3)(l:AL)(hl:l.length=d+1)(hr: ∀s∈l,0≤s∧s<2 ^ n):
  H9 (n:Int) ((d+1:Nat):Int) ns es ((List.range (n ^ d)).map (PI ns n d)) l=some (M4 ns n l):=by
 obtain⟨r,h1,h2⟩:=Jk (fun v=>EK (n:Int) ((d+1:Nat):Int) ns es ((List.range (n ^ d)).map (PI ns n d)) l v)
  (fun m (v:Int)=> ∃i:Nat,v=(i:Int)∧m=l.length-i∧i≤l.length∧ ∀j,j<i→KE ns n (l.eraseIdx j)=l.getD j default)
  (fun r:Unit⊕Unit=>match r with| .inl _=>M4 ns n l=false| .inr _=>M4 ns n l=true) (by
   rintro m v ⟨i,rfl,hm,hi,hall⟩
   simp only [EK,JD];by_cases c:i<l.length
   ·have ec:TN l i (IntKind.i64.wrap ((i:Int)+1)).toNat=l.eraseIdx i:=by
     rw [JS i (by omega),JD,List.eraseIdx_eq_take_drop_succ];rfl
    have hlen:(l.eraseIdx i).length=d:=by rw [List.length_eraseIdx_of_lt c];omega
    rw [if_pos (CV c),BF (by omega),BF (by rw [JS i (by omega)];omega),ec,RN n d ns es hn hd _ hlen (mU hr),Cs,BF (by omega),JS i (by omega)]
    by_cases e:KE ns n (l.eraseIdx i)=l.getD i default
    ·left
     rw [if_pos e]
     refine⟨_,l.length-(i+1),rfl,by omega,i+1,rfl,rfl,by omega,fun j hj=> ?_⟩
     by_cases hji:j=i
     ·rw [hji];exact e
     ·exact hall j (by omega)
    ·right
     rw [if_neg e]
     refine⟨_,rfl, ?_⟩
     unfold M4;rw [List.all_eq_false]
     exact⟨i,O7.2 c,by simpa using e⟩
   ·right
    rw [if_neg (by omega)]
    refine⟨_,rfl, ?_⟩
    unfold M4;rw [Jr]
    exact fun j hj=>decide_eq_true (hall j (by have:=O7.1 hj;omega))) l.length (0:Int) ⟨0,rfl,rfl,TM _,fun j hj=>by omega⟩
 unfold H9 H8;rw [h1,Cs]
 cases r with
 |inl q=>simp only at h2;rw [h2]
 |inr q=>simp only at h2;rw [h2]
theorem dG(n d:Nat)(ns es:AO)(hn:1≤n∧n≤8)(hd:d≤3)(l:AL)(hl:l.length=d+1)(hr: ∀s∈l,0≤s∧s<2 ^ n):
  Ig (n:Int) ((d+1:Nat):Int) ns es ((List.range (n ^ (d+1))).map (PK ns n (d+1))) l=some (M4 ns n l):=by
 obtain⟨r,h1,h2⟩:=Jk (fun v=>FW (n:Int) ((d+1:Nat):Int) ns es ((List.range (n ^ (d+1))).map (PK ns n (d+1))) l v)
  (fun m (v:Int)=> ∃i:Nat,v=(i:Int)∧m=l.length-i∧i≤l.length∧ ∀j,j<i→KE ns n (l.eraseIdx j)=l.getD j default)
  (fun r:Unit⊕Unit=>match r with| .inl _=>M4 ns n l=false| .inr _=>M4 ns n l=true) (by
   rintro m v ⟨i,rfl,hm,hi,hall⟩
   simp only [FW,NS,JD];by_cases c:i<l.length
   ·have ec:(l.take i).drop 0++(l.take l.length).drop (IntKind.i64.wrap ((i:Int)+1)).toNat=l.eraseIdx i:=by
     rw [JS i (by omega),JD,Tu,Md,List.eraseIdx_eq_take_drop_succ]
    have hlen:(l.eraseIdx i).length=d:=by rw [List.length_eraseIdx_of_lt c];omega
    have k1:((l.take i).drop 0).length=i:=by rw [Tu,Kq];omega
    have k2:((l.take l.length).drop (IntKind.i64.wrap ((i:Int)+1)).toNat).length=l.length-(i+1):=by rw [JS i (by omega),JD,Md,dK]
    rw [if_pos (CV c),BF (by omega),BF (by omega),BF (by omega),BF (by omega),Cs,BF (by rw [JS i (by omega)];omega),BF (by rw [JS i (by omega)];omega),BF (by omega),ec,Zc n d ns es hn hd _ hlen (mU hr),Cs,JS i (by omega)]
    by_cases e:KE ns n (l.eraseIdx i)=l.getD i default
    ·left
     rw [if_pos e]
     refine⟨_,l.length-(i+1),rfl,by omega,i+1,rfl,rfl,by omega,fun j hj=> ?_⟩
     by_cases hji:j=i
     ·rw [hji];exact e
     ·exact hall j (by omega)
    ·right
     rw [if_neg e]
     refine⟨_,rfl, ?_⟩
     unfold M4;rw [List.all_eq_false]
     exact⟨i,O7.2 c,by simpa using e⟩
   ·right
    rw [if_neg (by omega)]
    refine⟨_,rfl, ?_⟩
    unfold M4;rw [Jr]
    exact fun j hj=>decide_eq_true (hall j (by have:=O7.1 hj;omega))) l.length (0:Int) ⟨0,rfl,rfl,TM _,fun j hj=>by omega⟩
 unfold Ig Jo;rw [h1,Cs]
 cases r with
 |inl q=>simp only at h2;rw [h2]
 |inr q=>simp only at h2;rw [h2]
def vk(ns:AO)(n:Nat)(x:AL):Bool:= !decide (KE ns n (up x)=0)&&M4 ns n (Jt ns n x)
def Sl(ns:AO)(n:Nat)(C:AO):AO:=(C.filter (vk ns n)).map fun x=>ER (Jt ns n x)
def mV(ns:AO)(n:Nat)(x:AL):Bool:= !decide (KE ns n (up x)=0)&&(!(decide (0<x.length)&&decide (KE ns n (up x)<(up x).getD (x.length-1) default))&&M4 ns n (Jt ns n x))
def Tn(ns:AO)(n:Nat)(C:AO):AO:=(C.filter (mV ns n)).map (Jt ns n)
theorem Tp{α β:Type}(p:α→Bool)(f:α→β)(C:List α)(i:Nat)(hi:i<C.length):((C.take (i+1)).filter p).map f=((C.take i).filter p).map f++if p C[i]=true then [f C[i]]else []:=by
 rw [TH hi,mr,UR,List.filter_cons,List.filter_nil]
 split<;>rfl
theorem OX{α β:Type}(p:α→Bool)(f:α→β)(C:List α)(i:Nat):(((C.take i).filter p).map f).length≤C.length:=by
 rw [TL];refine Tv (ry _ _) ?_;rw [Kq];omega
structure ChOk(C:AO)(n d:Nat):Prop where
 len:C.length≤1000000
 row: ∀x∈C,x.length=d∧ ∀y∈x,0≤y∧y<2 ^ n-1
theorem mW{C:AO}{n d:Nat}(h:ChOk C n d)(ns:AO){x:AL}(hx:x∈C):(up x).length=d∧(∀s∈up x,0≤s∧s<2 ^ n)∧(Jt ns n x).length=d+1∧ ∀s∈Jt ns n x,0≤s∧s<2 ^ n:=by
 obtain⟨h1,h2⟩:=h.row x hx;have h3:=qY h2;have h4:=TF ns n (up x)
 refine⟨by rw [WX];exact h1,fun s hs=>by have:=h3 s hs;omega,by rw [Zd];omega,fun s hs=> ?_⟩
 rcases PN.1 hs with hs|hs
 ·have:=h3 s hs;omega
 ·rw [UO.1 hs];exact h4
theorem rf(x:AL)(i:Nat)(hi:i<x.length):up (x.take (i+1))=up (x.take i)++[x[i]+1]:=by
 unfold up;rw [TH hi,UR];rfl
theorem mX(n d:Nat)(ns es:AO)(hn:1≤n∧n≤8)(hd:d≤3)(C:AO)(hC:ChOk C n d):
  EA (n:Int) ((d+1:Nat):Int) ns es ((List.range (n ^ d)).map (PI ns n d)) C ([],0)=some (Sl ns n C):=by
 have h2n:=RB n hn.2;have hCl:=hC.len;unfold EA;have key:=Bv (fun v=>Ck (n:Int) ((d+1:Nat):Int) ns es ((List.range (n ^ d)).map (PI ns n d)) C v.1 v.2) (fun i=>(((C.take i).filter (vk ns n)).map fun x=>ER (Jt ns n x),(i:Int))) C.length (Sl ns n C) ?_ ?_
 ·exact key
 ·intro i hi;have hx:=GG hi;obtain⟨x1,x2⟩:=hC.row _ hx;obtain⟨c1,c2,c3,c4⟩:=mW hC ns hx;have hlen:=OX (vk ns n) (fun x=>ER (Jt ns n x)) C i
  have hup:E9 (n:Int) ((d+1:Nat):Int) ns es ((List.range (n ^ d)).map (PI ns n d)) C (((C.take i).filter (vk ns n)).map fun x=>ER (Jt ns n x)) (i:Int) ([],0)=some (up C[i]):=by
   unfold E9;have k2:=Bv (fun v=>Cj (n:Int) ((d+1:Nat):Int) ns es ((List.range (n ^ d)).map (PI ns n d)) C (((C.take i).filter (vk ns n)).map fun x=>ER (Jt ns n x)) (i:Int) v.1 v.2) (fun j=>(up (C[i].take j),(j:Int))) C[i].length (up C[i]) ?_ ?_
   ·exact k2
   ·intro j hj;have hy:=x2 _ (GG hj);have hul:(up (C[i].take j)).length≤d:=by rw [WX,Kq];omega
    simp only [Cj,JD,Af _ _ hi];rw [if_pos (CV hj),BF hi,BF (by omega),BF (by omega),Af _ _ hj,Ec _ (by omega),JS j (by omega),rf _ j hj]
   ·simp only [Cj,JD,Af _ _ hi];rw [if_neg (Au _),Md]
  have ec:up C[i]++[KE ns n (up C[i])]=Jt ns n C[i]:=rfl;simp only [Ck];rw [if_pos (CV hi),BF (by omega),BF (by omega),hup,Cs,RN n d ns es hn hd _ c1 c2,Cs,JS i (by omega),Tp _ _ C i hi,ec]
  by_cases hz:KE ns n (up C[i])=0
  ·have ho:vk ns n C[i]=false:=by unfold vk;rw [decide_eq_true hz];rfl
   rw [if_pos hz,ho,if_neg (by decide),Pv]
  ·have ho:vk ns n C[i]=M4 ns n (Jt ns n C[i]):=by unfold vk;rw [decide_eq_false hz];rfl
   rw [if_neg hz,BF (by omega),vT n d ns es hn hd _ c3 c4,Cs,ho]
   cases M4 ns n (Jt ns n C[i])with
   |true=>rw [if_pos rfl,if_pos rfl,BF (by omega),BF (by omega)]
   |false=>rw [if_neg (by decide),if_neg (by decide),Pv]
 ·simp only [Ck];rw [if_neg (Au _),Md];rfl
theorem Ze(n d:Nat)(ns es:AO)(hn:1≤n∧n≤8)(hd:d≤3)(C:AO)(hC:ChOk C n d):
  M3 (n:Int) ((d+1:Nat):Int) ns es ((n:Int),((d+1:Nat):Int),ns,es,(List.range (n ^ (d+1))).map (PK ns n (d+1))) C ([],0)=some (Tn ns n C):=by
 have h2n:=RB n hn.2;have hCl:=hC.len;unfold M3;have key:=Bv (fun v=>Jg (n:Int) ((d+1:Nat):Int) ns es ((n:Int),((d+1:Nat):Int),ns,es,(List.range (n ^ (d+1))).map (PK ns n (d+1))) C v.1 v.2) (fun i=>(((C.take i).filter (mV ns n)).map (Jt ns n),(i:Int))) C.length (Tn ns n C) ?_ ?_
 ·exact key
 ·intro i hi;have hx:=GG hi;obtain⟨x1,x2⟩:=hC.row _ hx;obtain⟨c1,c2,c3,c4⟩:=mW hC ns hx;have hlen:=OX (mV ns n) (Jt ns n) C i
  have hup:O4 (n:Int) ((d+1:Nat):Int) ns es ((n:Int),((d+1:Nat):Int),ns,es,(List.range (n ^ (d+1))).map (PK ns n (d+1))) C (((C.take i).filter (mV ns n)).map (Jt ns n)) (i:Int) ([],0)=some (up C[i]):=by
   unfold O4;have k2:=Bv (fun v=>Jf (n:Int) ((d+1:Nat):Int) ns es ((n:Int),((d+1:Nat):Int),ns,es,(List.range (n ^ (d+1))).map (PK ns n (d+1))) C (((C.take i).filter (mV ns n)).map (Jt ns n)) (i:Int) v.1 v.2) (fun j=>(up (C[i].take j),(j:Int))) C[i].length (up C[i]) ?_ ?_
   ·exact k2
   ·intro j hj;have hy:=x2 _ (GG hj);have hul:(up (C[i].take j)).length≤d:=by rw [WX,Kq];omega
    simp only [Jf,JD,Af _ _ hi];rw [if_pos (CV hj),BF (by omega),BF (by omega),Af _ _ hj,Ec _ (by omega),JS j (by omega),rf _ j hj]
   ·simp only [Jf,JD,Af _ _ hi];rw [if_neg (Au _),Md]
  have ec:up C[i]++[KE ns n (up C[i])]=Jt ns n C[i]:=rfl;simp only [Jg];rw [if_pos (CV hi),BF (by omega),hup,Cs,Zc n d ns es hn hd _ c1 c2,Cs,JS i (by omega),Tp _ _ C i hi,ec]
  by_cases hz:KE ns n (up C[i])=0
  ·have ho:mV ns n C[i]=false:=by unfold mV;rw [decide_eq_true hz];rfl
   rw [if_pos hz,ho,if_neg (by decide),Pv]
  ·rw [if_neg hz];by_cases hp:0<C[i].length
   ·rw [if_pos (by omega),Ec _ (by omega),BF (by omega),show(((up C[i]).length:Int)-1).toNat=C[i].length-1 by rw [WX];omega]
    by_cases hq:KE ns n (up C[i])<(up C[i]).getD (C[i].length-1) default
    ·have ho:mV ns n C[i]=false:=by unfold mV;rw [decide_eq_true hp,decide_eq_true hq];simp
     rw [if_pos hq,ho,if_neg (by decide),Pv]
    ·have ho:mV ns n C[i]=M4 ns n (Jt ns n C[i]):=by unfold mV;rw [decide_eq_false hz,decide_eq_false hq];simp
     rw [if_neg hq,BF (by omega),dG n d ns es hn hd _ c3 c4,Cs,ho]
     cases M4 ns n (Jt ns n C[i])with
     |true=>rw [if_pos rfl,if_pos rfl,BF (by omega)]
     |false=>rw [if_neg (by decide),if_neg (by decide),Pv]
   ·have ho:mV ns n C[i]=M4 ns n (Jt ns n C[i]):=by unfold mV;rw [decide_eq_false hz,decide_eq_false hp];simp
    rw [if_neg (by rw [WX];omega),BF (by omega),dG n d ns es hn hd _ c3 c4,Cs,ho]
    cases M4 ns n (Jt ns n C[i])with
    |true=>rw [if_pos rfl,if_pos rfl,BF (by omega)]
    |false=>rw [if_neg (by decide),if_neg (by decide),Pv]
 ·simp only [Jg];rw [if_neg (Au _),Md];rfl
end Go.Proofs.YtjhjkfoabhplfaaGreat
