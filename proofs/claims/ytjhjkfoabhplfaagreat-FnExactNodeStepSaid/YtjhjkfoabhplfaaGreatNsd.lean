/- Full lists, program and reference. Conditions: those in each lemma. -/
import Derived.Test.YtjhjkfoabhplfaaGreatL6
import Derived.Test.YtjhjkfoabhplfaaGreatNsc
import Derived.Test.YtjhjkfoabhplfaaGreatEsb
import Derived.Test.YtjhjkfoabhplfaaGreatEsc
namespace Go.Proofs.YtjhjkfoabhplfaaGreat
open Go Dv
set_option linter.unusedSimpArgs false
set_option linter.unusedVariables false
set_option maxRecDepth 100000
def up(x:List Int):List Int:=x.map (· +1)
theorem VU(x:List Int):(up x).length=x.length:=by simp [up]
theorem o9{x:List Int}{q:Int}(h: ∀y∈x,0≤y∧y<q): ∀s∈up x,1≤s∧s≤q:=fun s hs=>by
 obtain⟨y,hy,rfl⟩:=GV.1 hs;have:=h y hy
 show 1≤y+1∧y+1≤q
 omega
def Iz(ns:List (List Int))(n:Nat)(x:List Int):List Int:=up x++[JJ ns n (up x)]
theorem Yd(ns:List (List Int))(n:Nat)(x:List Int):(Iz ns n x).length=x.length+1:=by simp [Iz,up]
def Ku(ns:List (List Int))(n:Nat)(l:List Int):Bool:=(List.range l.length).all fun i=>decide (JJ ns n (l.eraseIdx i)=l.getD i default)
theorem aP(ns:List (List Int))(n:Nat)(l:List Int):Ku ns n l=true↔tq ns n l:=by
 unfold Ku tq;rw [Iw]
 constructor
 ·intro h i hi;have:=h i (Mx.2 hi)
  rw [decide_eq_true_eq,AV _ _ hi]at this;exact this
 ·intro h i hi;have hi':=Mx.1 hi;rw [decide_eq_true_eq,AV _ _ hi'];exact h i hi'
theorem kP{l:List Int}{i:Nat}{P:Int→Prop}(h: ∀s∈l,P s): ∀s∈l.eraseIdx i,P s:=fun s hs=>h s (List.mem_of_mem_eraseIdx hs)
theorem uB(n d:Nat)(ns es:List (List Int))(hn:1≤n∧n≤8)(hd:d≤3)(l:List Int)(hl:l.length=d+1)(hr: ∀s∈l,0≤s∧s<2 ^ n):
  G8 (n:Int) ((d+1:Nat):Int) ns es ((List.range (n ^ d)).map (O9 ns n d)) l=some (Ku ns n l):=by
 obtain⟨r,h1,h2⟩:=Im (fun v=>Db (n:Int) ((d+1:Nat):Int) ns es ((List.range (n ^ d)).map (O9 ns n d)) l v)
  (fun m (v:Int)=> ∃i:Nat,v=(i:Int)∧m=l.length-i∧i≤l.length∧ ∀j,j<i→JJ ns n (l.eraseIdx j)=l.getD j default)
  (fun r:Unit⊕Unit=>match r with | .inl _=>Ku ns n l=false | .inr _=>Ku ns n l=true) (by
   rintro m v ⟨i,rfl,hm,hi,hall⟩
   simp only [Db,IA];by_cases c:i<l.length
   ·have ec:SB l i (IntKind.i64.wrap ((i:Int)+1)).toNat=l.eraseIdx i:=by
     rw [IR i (by omega),IA,List.eraseIdx_eq_take_drop_succ];rfl
    have hlen:(l.eraseIdx i).length=d:=by rw [List.length_eraseIdx_of_lt c];omega
    rw [if_pos (Bi c),Am (by omega),Am (by rw [IR i (by omega)];omega),ec,QT n d ns es hn hd _ hlen (kP hr),CO,Am (by omega),IR i (by omega)]
    by_cases e:JJ ns n (l.eraseIdx i)=l.getD i default
    ·left
     rw [if_pos e]
     refine⟨_,l.length-(i+1),rfl,by omega,i+1,rfl,rfl,by omega,fun j hj=> ?_⟩
     by_cases hji:j=i
     ·rw [hji];exact e
     ·exact hall j (by omega)
    ·right
     rw [if_neg e]
     refine⟨_,rfl, ?_⟩
     unfold Ku;rw [List.all_eq_false]
     exact⟨i,Mx.2 c,by simpa using e⟩
   ·right
    rw [if_neg (by omega)]
    refine⟨_,rfl, ?_⟩
    unfold Ku;rw [Iw]
    exact fun j hj=>decide_eq_true (hall j (by have:=Mx.1 hj;omega))) l.length (0:Int) ⟨0,rfl,rfl,SA _,fun j hj=>by omega⟩
 unfold G8 G7;rw [h1,CO]
 cases r with
 | inl q=>simp only at h2;rw [h2]
 | inr q=>simp only at h2;rw [h2]
theorem aQ(n d:Nat)(ns es:List (List Int))(hn:1≤n∧n≤8)(hd:d≤3)(l:List Int)(hl:l.length=d+1)(hr: ∀s∈l,0≤s∧s<2 ^ n):
  H8 (n:Int) ((d+1:Nat):Int) ns es ((List.range (n ^ (d+1))).map (OA ns n (d+1))) l=some (Ku ns n l):=by
 obtain⟨r,h1,h2⟩:=Im (fun v=>Eg (n:Int) ((d+1:Nat):Int) ns es ((List.range (n ^ (d+1))).map (OA ns n (d+1))) l v)
  (fun m (v:Int)=> ∃i:Nat,v=(i:Int)∧m=l.length-i∧i≤l.length∧ ∀j,j<i→JJ ns n (l.eraseIdx j)=l.getD j default)
  (fun r:Unit⊕Unit=>match r with | .inl _=>Ku ns n l=false | .inr _=>Ku ns n l=true) (by
   rintro m v ⟨i,rfl,hm,hi,hall⟩
   simp only [Eg,LH,IA];by_cases c:i<l.length
   ·have ec:(l.take i).drop 0++(l.take l.length).drop (IntKind.i64.wrap ((i:Int)+1)).toNat=l.eraseIdx i:=by
     rw [IR i (by omega),IA,Sk,LZ,List.eraseIdx_eq_take_drop_succ]
    have hlen:(l.eraseIdx i).length=d:=by rw [List.length_eraseIdx_of_lt c];omega
    have k1:((l.take i).drop 0).length=i:=by rw [Sk,Jr];omega
    have k2:((l.take l.length).drop (IntKind.i64.wrap ((i:Int)+1)).toNat).length=l.length-(i+1):=by rw [IR i (by omega),IA,LZ,aU]
    rw [if_pos (Bi c),Am (by omega),Am (by omega),Am (by omega),Am (by omega),CO,Am (by rw [IR i (by omega)];omega),Am (by rw [IR i (by omega)];omega),Am (by omega),ec,Yc n d ns es hn hd _ hlen (kP hr),CO,IR i (by omega)]
    by_cases e:JJ ns n (l.eraseIdx i)=l.getD i default
    ·left
     rw [if_pos e]
     refine⟨_,l.length-(i+1),rfl,by omega,i+1,rfl,rfl,by omega,fun j hj=> ?_⟩
     by_cases hji:j=i
     ·rw [hji];exact e
     ·exact hall j (by omega)
    ·right
     rw [if_neg e]
     refine⟨_,rfl, ?_⟩
     unfold Ku;rw [List.all_eq_false]
     exact⟨i,Mx.2 c,by simpa using e⟩
   ·right
    rw [if_neg (by omega)]
    refine⟨_,rfl, ?_⟩
    unfold Ku;rw [Iw]
    exact fun j hj=>decide_eq_true (hall j (by have:=Mx.1 hj;omega))) l.length (0:Int) ⟨0,rfl,rfl,SA _,fun j hj=>by omega⟩
 unfold H8 Iq;rw [h1,CO]
 cases r with
 | inl q=>simp only at h2;rw [h2]
 | inr q=>simp only at h2;rw [h2]
def uJ(ns:List (List Int))(n:Nat)(x:List Int):Bool:= !decide (JJ ns n (up x)=0)&&Ku ns n (Iz ns n x)
def Rb(ns:List (List Int))(n:Nat)(C:List (List Int)):List (List Int):=(C.filter (uJ ns n)).map fun x=>Dj (Iz ns n x)
def kQ(ns:List (List Int))(n:Nat)(x:List Int):Bool:= !decide (JJ ns n (up x)=0)&&(!(decide (0<x.length)&&decide (JJ ns n (up x)<(up x).getD (x.length-1) default))&&Ku ns n (Iz ns n x))
def Sd(ns:List (List Int))(n:Nat)(C:List (List Int)):List (List Int):=(C.filter (kQ ns n)).map (Iz ns n)
theorem Sg{α β:Type}(p:α→Bool)(f:α→β)(C:List α)(i:Nat)(hi:i<C.length):((C.take (i+1)).filter p).map f=((C.take i).filter p).map f++if p C[i]=true then [f C[i]]else []:=by
 rw [Rw hi,ko,TT,List.filter_cons,List.filter_nil]
 split<;>rfl
theorem NN{α β:Type}(p:α→Bool)(f:α→β)(C:List α)(i:Nat):(((C.take i).filter p).map f).length≤C.length:=by
 rw [S9];refine Sl (qC _ _) ?_;rw [Jr];omega
structure ChOk(C:List (List Int))(n d:Nat):Prop where
 len:C.length≤1000000
 row: ∀x∈C,x.length=d∧ ∀y∈x,0≤y∧y<2 ^ n-1
theorem kR{C:List (List Int)}{n d:Nat}(h:ChOk C n d)(ns:List (List Int)){x:List Int}(hx:x∈C):(up x).length=d∧(∀s∈up x,0≤s∧s<2 ^ n)∧(Iz ns n x).length=d+1∧ ∀s∈Iz ns n x,0≤s∧s<2 ^ n:=by
 obtain⟨h1,h2⟩:=h.row x hx;have h3:=o9 h2;have h4:=Ru ns n (up x)
 refine⟨by rw [VU];exact h1,fun s hs=>by have:=h3 s hs;omega,by rw [Yd];omega,fun s hs=> ?_⟩
 rcases OB.1 hs with hs | hs
 ·have:=h3 s hs;omega
 ·rw [TR.1 hs];exact h4
theorem pz(x:List Int)(i:Nat)(hi:i<x.length):up (x.take (i+1))=up (x.take i)++[x[i]+1]:=by
 unfold up;rw [Rw hi,TT];rfl
theorem kS(n d:Nat)(ns es:List (List Int))(hn:1≤n∧n≤8)(hd:d≤3)(C:List (List Int))(hC:ChOk C n d):
  DR (n:Int) ((d+1:Nat):Int) ns es ((List.range (n ^ d)).map (O9 ns n d)) C ([],0)=some (Rb ns n C):=by
 have h2n:=QM n hn.2;have hCl:=hC.len;unfold DR;have key:=BO (fun v=>CF (n:Int) ((d+1:Nat):Int) ns es ((List.range (n ^ d)).map (O9 ns n d)) C v.1 v.2) (fun i=>(((C.take i).filter (uJ ns n)).map fun x=>Dj (Iz ns n x),(i:Int))) C.length (Rb ns n C) ?_ ?_
 ·exact key
 ·intro i hi;have hx:=FE hi;obtain⟨x1,x2⟩:=hC.row _ hx;obtain⟨c1,c2,c3,c4⟩:=kR hC ns hx;have hlen:=NN (uJ ns n) (fun x=>Dj (Iz ns n x)) C i
  have hup:DN (n:Int) ((d+1:Nat):Int) ns es ((List.range (n ^ d)).map (O9 ns n d)) C (((C.take i).filter (uJ ns n)).map fun x=>Dj (Iz ns n x)) (i:Int) ([],0)=some (up C[i]):=by
   unfold DN;have k2:=BO (fun v=>CE (n:Int) ((d+1:Nat):Int) ns es ((List.range (n ^ d)).map (O9 ns n d)) C (((C.take i).filter (uJ ns n)).map fun x=>Dj (Iz ns n x)) (i:Int) v.1 v.2) (fun j=>(up (C[i].take j),(j:Int))) C[i].length (up C[i]) ?_ ?_
   ·exact k2
   ·intro j hj;have hy:=x2 _ (FE hj);have hul:(up (C[i].take j)).length≤d:=by rw [VU,Jr];omega
    simp only [CE,IA,AV _ _ hi];rw [if_pos (Bi hj),Am hi,Am (by omega),Am (by omega),AV _ _ hj,Dw _ (by omega),IR j (by omega),pz _ j hj]
   ·simp only [CE,IA,AV _ _ hi];rw [if_neg (Af _),LZ]
  have ec:up C[i]++[JJ ns n (up C[i])]=Iz ns n C[i]:=rfl;simp only [CF];rw [if_pos (Bi hi),Am (by omega),Am (by omega),hup,CO,QT n d ns es hn hd _ c1 c2,CO,IR i (by omega),Sg _ _ C i hi,ec]
  by_cases hz:JJ ns n (up C[i])=0
  ·have ho:uJ ns n C[i]=false:=by unfold uJ;rw [decide_eq_true hz];rfl
   rw [if_pos hz,ho,if_neg (by decide),Oj]
  ·have ho:uJ ns n C[i]=Ku ns n (Iz ns n C[i]):=by unfold uJ;rw [decide_eq_false hz];rfl
   rw [if_neg hz,Am (by omega),uB n d ns es hn hd _ c3 c4,CO,ho]
   cases Ku ns n (Iz ns n C[i])with
   | true=>rw [if_pos rfl,if_pos rfl,Am (by omega),Am (by omega)]
   | false=>rw [if_neg (by decide),if_neg (by decide),Oj]
 ·simp only [CF];rw [if_neg (Af _),LZ];rfl
theorem Ye(n d:Nat)(ns es:List (List Int))(hn:1≤n∧n≤8)(hd:d≤3)(C:List (List Int))(hC:ChOk C n d):
  Kt (n:Int) ((d+1:Nat):Int) ns es ((n:Int),((d+1:Nat):Int),ns,es,(List.range (n ^ (d+1))).map (OA ns n (d+1))) C ([],0)=some (Sd ns n C):=by
 have h2n:=QM n hn.2;have hCl:=hC.len;unfold Kt;have key:=BO (fun v=>Ii (n:Int) ((d+1:Nat):Int) ns es ((n:Int),((d+1:Nat):Int),ns,es,(List.range (n ^ (d+1))).map (OA ns n (d+1))) C v.1 v.2) (fun i=>(((C.take i).filter (kQ ns n)).map (Iz ns n),(i:Int))) C.length (Sd ns n C) ?_ ?_
 ·exact key
 ·intro i hi;have hx:=FE hi;obtain⟨x1,x2⟩:=hC.row _ hx;obtain⟨c1,c2,c3,c4⟩:=kR hC ns hx;have hlen:=NN (kQ ns n) (Iz ns n) C i
  have hup:Mt (n:Int) ((d+1:Nat):Int) ns es ((n:Int),((d+1:Nat):Int),ns,es,(List.range (n ^ (d+1))).map (OA ns n (d+1))) C (((C.take i).filter (kQ ns n)).map (Iz ns n)) (i:Int) ([],0)=some (up C[i]):=by
   unfold Mt;have k2:=BO (fun v=>Ih (n:Int) ((d+1:Nat):Int) ns es ((n:Int),((d+1:Nat):Int),ns,es,(List.range (n ^ (d+1))).map (OA ns n (d+1))) C (((C.take i).filter (kQ ns n)).map (Iz ns n)) (i:Int) v.1 v.2) (fun j=>(up (C[i].take j),(j:Int))) C[i].length (up C[i]) ?_ ?_
   ·exact k2
   ·intro j hj;have hy:=x2 _ (FE hj);have hul:(up (C[i].take j)).length≤d:=by rw [VU,Jr];omega
    simp only [Ih,IA,AV _ _ hi];rw [if_pos (Bi hj),Am (by omega),Am (by omega),AV _ _ hj,Dw _ (by omega),IR j (by omega),pz _ j hj]
   ·simp only [Ih,IA,AV _ _ hi];rw [if_neg (Af _),LZ]
  have ec:up C[i]++[JJ ns n (up C[i])]=Iz ns n C[i]:=rfl;simp only [Ii];rw [if_pos (Bi hi),Am (by omega),hup,CO,Yc n d ns es hn hd _ c1 c2,CO,IR i (by omega),Sg _ _ C i hi,ec]
  by_cases hz:JJ ns n (up C[i])=0
  ·have ho:kQ ns n C[i]=false:=by unfold kQ;rw [decide_eq_true hz];rfl
   rw [if_pos hz,ho,if_neg (by decide),Oj]
  ·rw [if_neg hz];by_cases hp:0<C[i].length
   ·rw [if_pos (by omega),Dw _ (by omega),Am (by omega),show(((up C[i]).length:Int)-1).toNat=C[i].length-1 by rw [VU];omega]
    by_cases hq:JJ ns n (up C[i])<(up C[i]).getD (C[i].length-1) default
    ·have ho:kQ ns n C[i]=false:=by unfold kQ;rw [decide_eq_true hp,decide_eq_true hq];simp
     rw [if_pos hq,ho,if_neg (by decide),Oj]
    ·have ho:kQ ns n C[i]=Ku ns n (Iz ns n C[i]):=by unfold kQ;rw [decide_eq_false hz,decide_eq_false hq];simp
     rw [if_neg hq,Am (by omega),aQ n d ns es hn hd _ c3 c4,CO,ho]
     cases Ku ns n (Iz ns n C[i])with
     | true=>rw [if_pos rfl,if_pos rfl,Am (by omega)]
     | false=>rw [if_neg (by decide),if_neg (by decide),Oj]
   ·have ho:kQ ns n C[i]=Ku ns n (Iz ns n C[i]):=by unfold kQ;rw [decide_eq_false hz,decide_eq_false hp];simp
    rw [if_neg (by rw [VU];omega),Am (by omega),aQ n d ns es hn hd _ c3 c4,CO,ho]
    cases Ku ns n (Iz ns n C[i])with
    | true=>rw [if_pos rfl,if_pos rfl,Am (by omega)]
    | false=>rw [if_neg (by decide),if_neg (by decide),Oj]
 ·simp only [Ii];rw [if_neg (Af _),LZ];rfl
end Go.Proofs.YtjhjkfoabhplfaaGreat
