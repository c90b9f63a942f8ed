/- Value semantics for Go code, part 5: typed lists, loops as functions. Conditions: none beyond those in each lemma. -/
import Derived.Test.YtclkfhhdikfcpaaL4
open Dv.D renaming int → bd
open Go renaming TypeId → ab
open Inhabited renaming default → be
open List renaming range → an,replicate → ao
set_option linter.unusedSimpArgs false
set_option linter.unusedVariables false
namespace Dv
open Go
set_option maxRecDepth 10000
def ck{α:Type}(c:Prop)[Decidable c](o:Option α):Option α:=if c then o else none
section
variable {σ ρ:Type}
def bV(f:σ→Option (σ⊕ρ)):Nat→σ→Option ρ
 |0,_=>none
 |n+1,s=>
  match f s with
  |none=>none
  |some (.inl s')=>bV f n s'
  |some (.inr r)=>some r
open Classical in
noncomputable def Im(f:σ→Option (σ⊕ρ))(s:σ):Option ρ:=if h: ∃r n,bV f n s=some r then some h.choose else none
theorem ZE{f:σ→Option (σ⊕ρ)}: ∀ {n m:Nat} {s:σ} {r:ρ},n≤m→bV f n s=some r→bV f m s=some r:=by
 intro n
 induction n with
 |zero=>intro m s r _ h;simp [bV]at h
 |succ n ih=>
  intro m s r hm h
  cases m with
  |zero=>omega
  |succ m=>
   simp only [bV]at h ⊢
   cases hs:f s with
   |none=>simp [hs]at h
   |some q=>
    cases q with
    |inl s'=>simp only [hs]at h ⊢;exact ih (by omega) h
    |inr r'=>simp only [hs]at h ⊢;exact h
theorem XH{f:σ→Option (σ⊕ρ)}{n:Nat}{s:σ}{r:ρ}(h:bV f n s=some r):Im f s=some r:=by
 unfold Im;have hx: ∃r n,bV f n s=some r:=⟨r,n,h⟩;rw [dif_pos hx];obtain⟨n',h'⟩:=hx.choose_spec;have h1:=ZE (Nat.le_max_left n n') h;have h2:=ZE (Nat.le_max_right n n') h';rw [h1]at h2;exact h2.symm
theorem Te{f:σ→Option (σ⊕ρ)}{s:σ}{r:ρ}(h:Im f s=some r): ∃n,bV f n s=some r:=by
 unfold Im at h
 split at h
 ·rename_i hx
  simp only [Option.some.injEq]at h;subst h;exact hx.choose_spec
 ·cases h
theorem XI{f:σ→Option (σ⊕ρ)}{s s':σ}(h:f s=some (.inl s')):Im f s=Im f s':=by
 cases hi:Im f s' with
 |some r=>
  obtain⟨n,hn⟩:=Te hi;exact XH (n:=n+1) (by simp only [bV,h];exact hn)
 |none=>
  cases hj:Im f s with
  |none=>rfl
  |some r=>
   obtain⟨n,hn⟩:=Te hj
   cases n with
   |zero=>simp [bV]at hn
   |succ n=>
    simp only [bV,h]at hn;rw [XH hn]at hi;cases hi
theorem Rt{f:σ→Option (σ⊕ρ)}{s:σ}{r:ρ}(h:f s=some (.inr r)):Im f s=some r:=XH (n:=1) (by simp [bV,h])
end
def eP{σ ρ:Type}(M:σ→St→Prop)(X:ρ→Ex→St→Prop):σ⊕ρ→Ex→St→Prop
 | .inl v,.normal,s=>M v s
 | .inl _,_,_=>False
 | .inr _,.normal,_=>False
 | .inr r,ex,s=>X r ex s
theorem Ch{σ ρ:Type}(M:σ→St→Prop)(X:ρ→Ex→St→Prop)(v:σ)(s:St):eP M X (.inl v) .normal s=M v s:=nr rfl
theorem Ci{σ ρ:Type}(M:σ→St→Prop)(X:ρ→Ex→St→Prop)(r:ρ)(j:Nat)(s:St):eP M X (.inr r) (.exit j) s=X r (.exit j) s:=nr rfl
theorem Cj{σ ρ:Type}(M:σ→St→Prop)(X:ρ→Ex→St→Prop)(r:ρ)(s:St):eP M X (.inr r) .ret s=X r .ret s:=nr rfl
theorem BU{E:Env}{c:SC}{σ ρ:Type}(f:σ→Option (σ⊕ρ))(M:σ→St→Prop)(X:ρ→Ex→St→Prop)
  (hstep: ∀v s o,M v s→f v=some o→C8 E c (eP M X o) s){v:σ}{s:St}{r:ρ}(h:Im f v=some r)(hM:M v s):C8 E (.loop c) (X r) s:=by
 obtain⟨n,hn⟩:=Te h
 induction n generalizing v s with
 |zero=>simp [bV]at hn
 |succ n ih=>
  simp only [bV]at hn
  cases hf:f v with
  |none=>simp [hf]at hn
  |some o=>
   obtain⟨ex,s1,h1,h2⟩:=hstep v s o hM hf
   cases o with
   |inl v'=>
    simp only [hf]at hn
    cases ex with
    |normal=>
     obtain⟨ex',s2,h3,h4⟩:=ih (XH hn) h2 hn
     refine⟨ex',s2, ?_,h4⟩
     simp only [E8]at h3 ⊢;rw [XC,h1];exact h3
    |exit id=>exact h2.elim
    |ret=>exact h2.elim
   |inr r'=>
    simp only [hf,Option.some.injEq]at hn;subst hn
    cases ex with
    |normal=>exact h2.elim
    |exit id=>exact⟨_,s1,by simp only [E8];rw [XC,h1],h2⟩
    |ret=>exact⟨_,s1,by simp only [E8];rw [XC,h1],h2⟩
def AP{α:Type}(c:α→D)(xs:List α):List D:=xs.map c
def Uv{α:Type}(c:α→List D)(xs:List α):List D:=xs.flatMap c
section
variable {α:Type} (c:α→D)
theorem qX:AP c []=[]:=nr rfl
theorem Jj(x:α)(xs:List α):AP c (x::xs)=c x::AP c xs:=nr rfl
theorem JW(xs:List α):(AP c xs).length=xs.length:=by simp [AP]
theorem Tf[Inhabited α](xs:List α)(i:Nat)(h:i<xs.length):(AP c xs).getD i .undef=c (xs.getD i be):=by
 simp [AP,K5,h]
theorem A1O[Inhabited α](xs:List α)(i:Nat)(h:i<xs.length):(AP c xs)[i]? =some (c (xs.getD i be)):=by
 simp [AP,K5,h]
theorem eQ(xs:List α)(i:Nat)(y:α):(AP c xs).set i (c y)=AP c (xs.set i y):=by simp [AP]
theorem lZ(xs:List α)(n:Nat):(AP c xs).take n=AP c (xs.take n):=by simp [AP]
theorem lg(xs:List α)(n:Nat):(AP c xs).drop n=AP c (xs.drop n):=by simp [AP]
theorem Ol(xs:List α)(h: ∀x,(c x).hasObj=false):Aj (AP c xs)=false:=by
 induction xs with
 |nil=>rfl
 |cons x xs ih=>simp only [Jj,Aj,h,ih];rfl
theorem qY(xs:List α)(h: ∀x,EG (c x)=some (c x)):DY (AP c xs)=some (AP c xs):=by
 induction xs with
 |nil=>rfl
 |cons x xs ih=>simp only [Jj,DY,h,ih];rfl
theorem lh(c:α→List D)(c':α→List D)(e:ab)(xs:List α)(h: ∀x,DY (c x)=some (c' x)):DY (AP (fun x=>D.own e (c x)) xs)=some (AP (fun x=>D.sl e (c' x)) xs):=by
 induction xs with
 |nil=>rfl
 |cons x xs ih=>simp only [Jj,DY,EG,h,ih];rfl
theorem jD(xs:List α)(h: ∀x,Dn (c x)=false):Dp (AP c xs)=false:=by
 induction xs with
 |nil=>rfl
 |cons x xs ih=>simp only [Jj,Dp,h,ih];rfl
theorem WK(xs:List α)(h: ∀x,DW (c x)=true):(AP c xs).all DW=true:=by simp [AP,h]
end
section
variable {α:Type} (c:α→List D) (n:Nat)
theorem XJ:Uv c []=[]:=nr rfl
theorem Lx(x:α)(xs:List α):Uv c (x::xs)=c x++Uv c xs:=nr rfl
theorem bW(xs ys:List α):Uv c xs++Uv c ys=Uv c (xs++ys):=by simp [Uv]
theorem Tg(h: ∀x,(c x).length=n)(xs:List α):(Uv c xs).length=xs.length*n:=by
 induction xs with
 |nil=>simp [XJ]
 |cons x xs ih=>simp only [Lx,Kt,h,ih,OI,Nat.succ_mul];omega
theorem ZF(h: ∀x,(c x).length=n)(xs:List α): ∀(i:Nat),(Uv c xs).drop (i*n)=Uv c (xs.drop i):=by
 induction xs with
 |nil=>intro i;simp [XJ]
 |cons x xs ih=>
  intro i
  cases i with
  |zero=>simp
  |succ i=>
   rw [Lx,List.drop_append,List.drop_succ_cons,←ih i,h,Nat.succ_mul];have e1:(c x).drop (i*n+n)=[]:=List.drop_eq_nil_of_le (by rw [h];omega)
   rw [e1,Nat.add_sub_cancel];rfl
theorem bX(xs:List α)(h: ∀x,Aj (c x)=false):Aj (Uv c xs)=false:=by
 have app: ∀(as bs:List D),Aj (as++bs)=(Aj as||Aj bs):=by
  intro as bs
  induction as with
  |nil=>simp [Aj]
  |cons a as ih=>simp [Aj,ih,Bool.or_assoc]
 induction xs with
 |nil=>rfl
 |cons x xs ih=>rw [Lx,app,h,ih];rfl
theorem ZG: ∀(as bs as' bs':List D),DY as=some as'→DY bs=some bs'→DY (as++bs)=some (as'++bs'):=by
 intro as
 induction as with
 |nil=>intro bs as' bs' h1 h2;simp [DY]at h1;subst h1;simpa using h2
 |cons a as ih=>
  intro bs as' bs' h1 h2;simp only [DY,H8,Cf]at h1;obtain⟨a',ha,as1,has,rfl⟩:=h1;simp only [QG,DY,ha,ih _ _ _ has h2];rfl
theorem eT(xs:List α)(h: ∀x,DY (c x)=some (c x)):DY (Uv c xs)=some (Uv c xs):=by
 induction xs with
 |nil=>rfl
 |cons x xs ih=>rw [Lx];exact ZG _ _ _ _ (h x) ih
theorem VL(as bs:List D):Dp (as++bs)=(Dp as||Dp bs):=by
 induction as with
 |nil=>simp [Dp]
 |cons a as ih=>simp [Dp,ih,Bool.or_assoc]
theorem WL(xs:List α)(h: ∀x,Dp (c x)=false):Dp (Uv c xs)=false:=by
 induction xs with
 |nil=>rfl
 |cons x xs ih=>rw [Lx,VL,h,ih];rfl
end
def tX{α:Type}:List α→Nat→List α→List α
 |xs,_,[]=>xs
 |xs,c,y::ys=>tX (xs.set c y) (c+1) ys
theorem bY{α:Type}(c:α→D): ∀(ys xs:List α) (n:Nat),Bt (AP c xs) n (AP c ys)=AP c (tX xs n ys):=by
 intro ys
 induction ys with
 |nil=>intro xs n;cases xs<;>rfl
 |cons y ys ih=>
  intro xs n
  have h1:Bt (AP c xs) n (AP c (y::ys))=Bt ((AP c xs).set n (c y)) (n+1) (AP c ys):=by
   rw [Jj];cases AP c xs<;>rfl
  rw [h1,eQ,ih];rfl
theorem A1P{α:Type}: ∀(ys xs:List α) (n:Nat),n+ys.length≤xs.length→tX xs n ys=xs.take n++(ys++xs.drop (n+ys.length)):=by
 intro ys
 induction ys with
 |nil=>intro xs n _;simp [tX]
 |cons y ys ih=>
  intro xs n h;simp only [OI]at h;unfold tX;rw [ih (xs.set n y) (n+1) (by simp;omega)]
  have h1:(xs.set n y).take (n+1)=xs.take n++[y]:=by
   rw [List.take_succ_eq_append_getElem (by simp;omega),List.getElem_set_self,List.take_set_of_le (IB _)]
  rw [h1,List.drop_set_of_lt (by omega),OI,show n+1+ys.length=n+(ys.length+1) by omega,P8];rfl
theorem Ar{α β:Type}{o:Option α}{f:α→Option β}{r:β}(h:o.bind f=some r): ∃a,o=some a∧f a=some r:=by
 cases o with
 |none=>cases h
 |some a=>exact⟨a,rfl,h⟩
theorem Bw{α:Type}{c:Prop}[Decidable c]{o:Option α}{r:α}(h:ck c o=some r):c∧o=some r:=by
 unfold ck at h
 split at h
 ·rename_i hc;exact⟨hc,h⟩
 ·cases h
section
variable {α:Type} (c:α→D)
theorem jE(xs:List α)(y:α)(ds:List D):AP c xs++(c y::ds)=AP c (xs++[y])++ds:=by simp [AP]
theorem ll(c:α→List D)(e:ab)(xs:List α)(h: ∀x,DY (c x)=some (c x)):DY (AP (fun x=>D.own e (c x)) xs)=some (AP (fun x=>D.sl e (c x)) xs):=lh c c e xs h
def RU(c:α→D):Option α→D
 |some a=>c a
 |none=> .undef
theorem eU(xs:List α):AP (RU c) (xs.map some)=AP c xs:=by simp [AP,Function.comp_def,RU]
theorem Ti(xs:List (Option α))(n:Nat):(AP (RU c) xs).set n .undef=AP (RU c) (xs.set n none):=by simp [AP,List.map_set,RU]
theorem lm(xs:List (Option α))(n:Nat)(y:α):(AP (RU c) xs).set n (c y)=AP (RU c) (xs.set n (some y)):=by simp [AP,List.map_set,RU]
theorem lq(xs:List α):(xs.map some).length=xs.length:=by simp
theorem ZH(xs:List α)(n:Nat):(AP c xs).set n .undef=AP (RU c) ((xs.map some).set n none):=by rw [←Ti,eU]
theorem qZ(xs:List (Option α))(n:Nat):AP (RU (RU c)) ((xs.map some).set n none)=AP (RU c) (xs.set n none):=by rw [←ZH,Ti]
theorem lu(xs:List α)(n:Nat)(y:α):(xs.map some).set n (some y)=(xs.set n y).map some:=List.map_set.symm
theorem qa(n:Nat)(k:IntKind)(x:Int):ao n (bd k x)=AP (bd k) (ao n x):=by simp [AP]
theorem qb(n:Nat)(e:ab):ao n (D.own e [])=AP (fun x=>D.own e (AP (bd .i64) x)) (ao n []):=by simp [AP]
variable [Inhabited α] {T:Tys}
theorem ADG(e:ab)(n:Int)(xs:List α)(hk:T.known e=true)(hz:T.size e=1)(hn:0≤n∧n.toNat<xs.length):jA T e n (some (e,AP c xs,none))=some (.cptr [c (xs.getD n.toNat be)]):=by
 rw [AAs e n (AP c xs) hk hz (by simpa [AP] using hn),Tf c xs _ hn.2]
end
theorem ADH:(true==false)=false:=nr rfl
theorem ADI:(false==true)=false:=nr rfl
theorem ADJ{s:St}(dst:Option Tmp)(u:Tmp)(i:Nat)(L:AJ)(n m:Nat):iD s dst u i (some (.vw L n m))=some (s.putO dst (.vw L n m)):=by simp [iD,DF,Fb,D.hasObj,JV]
theorem ZI{α:Type}(c:α→D)(xs:List α):(AP c xs).isEmpty=xs.isEmpty:=by cases xs<;>rfl
theorem A5d{α:Type}(c:α→D)(e:ab)(xs:List α):Dn (.sl e (AP c xs))= !xs.isEmpty:=by simp only [Dn,ZI]
theorem ZJ{α:Type}(c:α→List D)(e:ab)(xs:List α):Aj (AP (fun x=>D.own e (c x)) xs)= !xs.isEmpty:=by
 cases xs with
 |nil=>rfl
 |cons x xs=>simp [Jj,Aj,D.hasObj]
section
variable {pm:Pm} {s:St} {dst:Option Tmp}
theorem ADK(ls:List (AJ×D))(r:D)(o:List D)(h:Dn r=true):cb2 pm s dst ls (some (r,o))=if(En (ls.map (·.1))&&ls.all (fun l=>pm.wr (l.1.headD 0)))=true then(IC ls).map fun ls'=>(back false s ls').putO dst r else none:=by
 simp [cb2,h]
theorem faN:IC []=some []:=nr rfl
def fac(L:AJ)(o:Option (List (AJ×D))):Option D→Option (List (AJ×D))
 |some c=>o.map ((L,c):: ·)
 |none=>none
theorem faC(L:AJ)(c:D)(rest:List (AJ×D)):IC ((L,c)::rest)=fac L (IC rest) (EG c):=by
 simp only [IC];cases EG c<;>rfl
theorem ADL(L:AJ)(ls:List (AJ×D))(c:D):fac L (some ls) (some c)=some ((L,c)::ls):=nr rfl
end
def BJ(xs:Il)(n:Nat):Int:=(xs.getD n be).1
def CO(xs:Il)(n:Nat):Int:=(xs.getD n be).2
def Au(k l:IntKind)(xs:Il):List D:=Uv (fun x=>[bd k x.1,bd l x.2]) xs
theorem A8(k l:IntKind):Au k l []=[]:=nr rfl
theorem M0(k l:IntKind)(x:Int×Int)(xs:Il):Au k l (x::xs)=bd k x.1::bd l x.2::Au k l xs:=nr rfl
theorem Nb(k l:IntKind)(xs:Il):(Au k l xs).length=xs.length*2:=Tg _ 2 (fun _=>rfl) xs
theorem WM(k l:IntKind)(v:Int): ∀(xs:Il) (n:Nat),n<xs.length→(Au k l xs).set (n*2) (bd k v)=Au k l (xs.set n (v,CO xs n)):=by
 intro xs
 induction xs with
 |nil=>intro n h;simp at h
 |cons x xs ih=>
  intro n h
  cases n with
  |zero=>rfl
  |succ n=>
   have:=ih n (by simpa using h)
   rw [M0,Nat.succ_mul,YC,YC,YC,this,M0];rfl
theorem WN(k l:IntKind)(v:Int): ∀(xs:Il) (n:Nat),n<xs.length→(Au k l xs).set (n*2+1) (bd l v)=Au k l (xs.set n (BJ xs n,v)):=by
 intro xs
 induction xs with
 |nil=>intro n h;simp at h
 |cons x xs ih=>
  intro n h
  cases n with
  |zero=>rfl
  |succ n=>
   have:=ih n (by simpa using h)
   rw [M0,Nat.succ_mul,show n*2+2+1=n*2+1+1+1 by omega,YC,YC,YC,this,M0];rfl
theorem jF(k l:IntKind)(xs:Il)(n:Nat):(Au k l xs).drop (n*2)=Au k l (xs.drop n):=ZF _ 2 (fun _=>rfl) xs n
theorem R7(k l:IntKind)(xs:Il):Aj (Au k l xs)=false:=bX _ xs (fun _=>by simp [Aj,D.hasObj])
theorem lw(k l:IntKind)(xs:Il):DY (Au k l xs)=some (Au k l xs):=eT _ xs (fun _=>rfl)
theorem bZ(k l:IntKind)(xs:Il):Dp (Au k l xs)=false:=WL _ xs (fun _=>rfl)
theorem mD(k l:IntKind)(n:Nat)(a b:Int):(ao n [bd k a,bd l b]).flatten=Au k l (ao n (a,b)):=by
 simp [Au,Uv,List.flatMap_def]
def q4a(xs:List (Int×Int×Int×Int))(n:Nat):Int:=(xs.getD n be).1
def q4b(xs:List (Int×Int×Int×Int))(n:Nat):Int:=(xs.getD n be).2.1
def q4c(xs:List (Int×Int×Int×Int))(n:Nat):Int:=(xs.getD n be).2.2.1
def q4d(xs:List (Int×Int×Int×Int))(n:Nat):Int:=(xs.getD n be).2.2.2
def Kw(xs:List (Int×Int×Int×Int)):List D:=Uv (fun x=>[bd .i64 x.1,bd .i64 x.2.1,bd .i64 x.2.2.1,bd .i64 x.2.2.2]) xs
theorem jG(x:Int×Int×Int×Int)(xs:List (Int×Int×Int×Int)):Kw (x::xs)=bd .i64 x.1::bd .i64 x.2.1::bd .i64 x.2.2.1::bd .i64 x.2.2.2::Kw xs:=nr rfl
theorem R8(xs:List (Int×Int×Int×Int)):(Kw xs).length=xs.length*4:=Tg _ 4 (fun _=>rfl) xs
theorem jH(xs:List (Int×Int×Int×Int))(a b c d:Int):Kw xs++[bd .i64 a,bd .i64 b,bd .i64 c,bd .i64 d]=Kw (xs++[(a,b,c,d)]):=bW _ xs [(a,b,c,d)]
theorem bf(xs:List (Int×Int×Int×Int))(a b c d:Int)(ds:List D):Kw xs++(bd .i64 a::bd .i64 b::bd .i64 c::bd .i64 d::ds)=Kw (xs++[(a,b,c,d)])++ds:=by
 rw [←jH,P8];rfl
theorem jI(xs:List (Int×Int×Int×Int))(n:Nat):(Kw xs).drop (n*4)=Kw (xs.drop n):=ZF _ 4 (fun _=>rfl) xs n
theorem mE(xs:List (Int×Int×Int×Int)):DY (Kw xs)=some (Kw xs):=eT _ xs (fun _=>rfl)
theorem bg(xs:List (Int×Int×Int×Int)):Dp (Kw xs)=false:=WL _ xs (fun _=>rfl)
theorem tY{T:Tys}(e:ab)(xs:List (Int×Int×Int×Int))(h:T.size e=4):T.len e (Kw xs)=xs.length:=by
 unfold Tys.len;rw [h,if_neg (by decide),R8,Nat.mul_div_cancel _ (by decide)]
theorem ADM{T:Tys}(e:ab)(n:Int)(xs:List (Int×Int×Int×Int))(hk:T.known e=true)(hz:T.size e=4)(hn:0≤n∧n.toNat<xs.length):jA T e n (some (e,Kw xs,none))=some (.cptr [bd .i64 (q4a xs n.toNat),bd .i64 (q4b xs n.toNat),bd .i64 (q4c xs n.toNat),bd .i64 (q4d xs n.toNat)]):=by
 simp only [jA,hk,tY e xs hz];rw [if_pos ⟨trivial,trivial,hn.1,hn.2⟩,hz,jI,List.drop_eq_getElem_cons hn.2,jG];unfold q4a q4b q4c q4d;rw [K5,Gy hn.2];rfl
section
variable {T:Tys} {pm:Pm} {s:St} {t:ab}
theorem mF(k l:IntKind)(e:ab)(xs:Il)(h:T.size e=2):T.len e (Au k l xs)=xs.length:=by
 unfold Tys.len;rw [h,if_neg (by decide),Nb,Nat.mul_div_cancel _ (by decide)]
theorem ADN(k l:IntKind)(e:ab)(n:Int)(xs:Il)(hk:T.known e=true)(hz:T.size e=2)(hn:0≤n∧n.toNat<xs.length):jA T e n (some (e,Au k l xs,none))=some (.cptr [bd k (BJ xs n.toNat),bd l (CO xs n.toNat)]):=by
 simp only [jA,hk,mF k l e xs hz];rw [if_pos ⟨trivial,trivial,hn.1,hn.2⟩,hz,jF,List.drop_eq_getElem_cons hn.2,M0];unfold BJ CO;rw [K5,Gy hn.2];rfl
theorem ADO(k l:IntKind)(e:ab)(n:Int)(xs:Il)(L:AJ)(a b:Nat)(hk:T.known e=true)(hz:T.size e=2)(hn:0≤n∧n.toNat<xs.length):jA T e n (some (e,Au k l xs,some (L,a,b)))=some (.pe L (n.toNat*2) a b):=by
 simp only [jA,hk,mF k l e xs hz];rw [if_pos ⟨trivial,trivial,hn.1,hn.2⟩,hz]
def sq1(T:Tys)(pm:Pm)(t:ab)(u:Tmp)(a b:D)(s:St):Option D→Nat→AJ→Option St
 |some (.own e xs),c,L=>if T.known t&&T.isStruct t&&pm.wr (L.headD 0)&&DW a&&DW b&&(T.size t==2)&&decide (c+2≤xs.length)&& !a.hasObj&& !b.hasObj&& !Aj xs then some (s.set L (.own e ((xs.set c a).set (c+1) b)))else YA T pm t (.tmp u) (some (.agg [a,b],s))
 |_,_,_=>YA T pm t (.tmp u) (some (.agg [a,b],s))
theorem ADP(u:Tmp)(a b:D)(L:AJ)(c n m:Nat)(h:s.v u= .pe L c n m):YA T pm t (.tmp u) (some (.agg [a,b],s))=sq1 T pm t u a b s (s.look pm L n m) c L:=by
 cases hl:s.look pm L n m with
 |none=>rfl
 |some o=>
  cases o<;>try rfl
  rename_i e xs
  simp only [sq1];split
  ·rename_i hc
   simp only [FM,beq_iff_eq,decide_eq_true_eq,Ku]at hc;obtain⟨⟨⟨⟨⟨⟨⟨⟨⟨hk,hs⟩,hw⟩,ha⟩,hb⟩,hz⟩,hl2⟩,ha2⟩,hb2⟩,hx2⟩:=hc;simp only [YA,ev,h,IA,hl,D.asCells,D.isAgg,D.cells,D.withCells,hk,hs,hw,hz,QI,ha,hb,List.all_nil,Bool.and_self,OI,SI,beq_self_eq_true,P9,D.hasObj,Aj,ha2,hb2,hx2,Bool.or_self,JF,if_false,Bt];rw [if_pos (by simpa using hl2)]
  ·rfl
theorem ADQ(u:Tmp)(a b:D)(L:AJ)(c n m:Nat)(h:s.v u= .pe L c n m):sw1 T pm t u [a,b] s (.pe L c n m)=sq1 T pm t u a b s (s.look pm L n m) c L:=by
 rw [←ADP u a b L c n m h];rfl
theorem bi(k l:IntKind)(xs:Il)(n:Nat)(a b:Int)(h:n<xs.length):((Au k l xs).set (n*2) (bd k a)).set (n*2+1) (bd l b)=Au k l (xs.set n (a,b)):=by
 rw [WM k l a xs n h,WN k l b _ n (by simpa using h),List.set_set]
 congr 2
 simp [BJ,K5,h]
theorem ADR(k l:IntKind)(u:Tmp)(a b:Int)(L:AJ)(e:ab)(n:Nat)(xs:Il)(hk:T.known t=true)(hs:T.isStruct t=true)(hw:pm.wr (L.headD 0)=true)(hz:T.size t=2)(h:n<xs.length):
  sq1 T pm t u (.int k a) (.int l b) s (some (.own e (Au k l xs))) (n*2) L=some (s.set L (.own e (Au k l (xs.set n (a,b))))):=by
 simp only [sq1];rw [if_pos,bi k l xs n a b h];simp only [hk,hs,hw,hz,DW,Nb,R7,D.hasObj,FM,decide_eq_true_eq,beq_self_eq_true,Bool.not_false,and_true,true_and];omega
theorem ZK: ∀(xs:AL),Wd (AP (bd .i64) xs)=some xs
 | []=>rfl
 |x::xs=>by rw [Jj,Wd,ZK xs];rfl
theorem A5f(xs:AL)(h':xs.length≤14∧14≤xs.length):JM true 14 (.agg (AP (bd .i64) xs))=some xs:=by
 have h:xs.length=14:=by omega
 simp only [JM,JW,h,and_self,if_true,ZK]
theorem A5g(a0 a1 a2 a3 a4 a5 a6 a7 a8 a9 a10 a11 a12 a13:Int):JM true 14 (.agg [.int .i64 a0,.int .i64 a1,.int .i64 a2,.int .i64 a3,.int .i64 a4,.int .i64 a5,.int .i64 a6,.int .i64 a7,.int .i64 a8,.int .i64 a9,.int .i64 a10,.int .i64 a11,.int .i64 a12,.int .i64 a13])=some [a0,a1,a2,a3,a4,a5,a6,a7,a8,a9,a10,a11,a12,a13]:=nr rfl
theorem csA(L:AJ)(xs:AL)(h':xs.length≤14∧14≤xs.length):cellsOf s L 0 14 (some (.box (AP (bd .i64) xs)))=some (.agg (AP (bd .i64) xs)):=by
 have h:xs.length=14:=by omega
 have e:((an 14).map fun i=>Fb s L (0+i) ((AP (bd .i64) xs).getD (0+i) .undef))=AP (bd .i64) xs:=by
  refine List.ext_getElem (by simp [JW,h]) (fun i h1 h2=> ?_)
  have hi:i<xs.length:=by rw [JW]at h2;exact h2
  simp only [List.getElem_map,WW,JG,Tf _ xs i hi,Fb];simp [AP,hi]
 show(if 0+14≤(AP (bd .i64) xs).length then DF (.agg ((an 14).map fun i=>Fb s L (0+i) ((AP (bd .i64) xs).getD (0+i) .undef)))else none)=_
 rw [if_pos (by rw [JW,h];omega),e]
 simp only [DF,D.hasObj,Ol (bd .i64) xs (fun _=>rfl)];rfl
theorem ndL{α:Type}(e:ab)(c:α→D)(xs:List α)(h:0<xs.length):PG pm s (.sl e (AP c xs))=some false:=by
 cases xs with
 |nil=>exact(Nat.lt_irrefl 0 h).elim
 |cons x xs=>rfl
end
set_option linter.defProp false
def ADS:=A7 @ADJ (A7 @bY (A7 @ZJ (A7 @A5d (A7 @ADK (A7 @faN (A7 @faC (A7 @ADL (A7 @ADG (A7 @JW (A7 @A1O (A7 @Tf (A7 @eQ (A7 @jE (A7 @lZ (A7 @lg (A7 @Ol (A7 @qY (A7 @ll (A7 @jD (A7 @WK (A7 @qb (A7 @eU (A7 @lq (A7 @ZH (A7 @lu (A7 (A7 @qZ @Ti) (A7 @lm (A7 @qa (A7 @ADH @ADI)))))))))))))))))))))))))))))
theorem tk2(a b:D)(l:List D):List.take 2 (a::b::l)=[a,b]:=nr rfl
theorem tk3(a b c:D)(l:List D):List.take 3 (a::b::c::l)=[a,b,c]:=nr rfl
theorem tk4(a b c d:D)(l:List D):List.take 4 (a::b::c::d::l)=[a,b,c,d]:=nr rfl
theorem A5h{n m:Nat}(h:n<m):n*2<m*2:=by omega
theorem A5i{n m:Nat}(h:n<m):n*2+1<m*2:=by omega
def xc2:=A7 (A7 @A5f (A7 @A5g (A7 @csA @ndL))) (A7 @Nat.add_zero (A7 @R8 (A7 @bf (A7 @mE (A7 @bg (A7 @tY (A7 @ADM (A7 @Nb (A7 @R7 (A7 @lw (A7 @bZ (A7 @mD (A7 @mF (A7 @ADN (A7 @ADO (A7 @ADQ (A7 @tk2 (A7 @tk3 (A7 @tk4 (A7 @A5h (A7 @A5i (A7 @WM (A7 @WN (A7 @List.length_set.{0} (@ADR)))))))))))))))))))))))))
def A5j:=A7 @implies_true.{1} (A7 @Option.bind_some.{0,0} (A7 @Option.map_some.{0,0} (A7 @Option.isSome_some.{0} (A7 @List.contains_cons.{0} (A7 @List.contains_nil.{0} (A7 @List.getD_cons_zero.{0} (A7 @List.getD_cons_succ.{0} (A7 @List.getD_nil.{0} (A7 @List.length_cons.{0} (A7 @List.length_nil.{0} (A7 @List.size_toArray.{0} (A7 @List.toList_toArray.{0} (A7 @List.zip_cons_cons.{0,0} (A7 @List.zip_nil_left.{0,0} (A7 @List.append_nil.{0} (A7 @List.nil_append.{0} (A7 @List.cons_append.{0} (A7 @List.map_cons.{0,0} (A7 @List.map_nil.{0,0} (A7 @List.replicate_succ.{0} (A7 @List.replicate_zero.{0} (A7 @List.set_cons_zero.{0} (A7 @List.set_cons_succ.{0} (A7 @List.set_set.{0} (A7 @List.all_cons.{0} (A7 @List.any_cons.{0} (A7 @List.any_nil.{0} (A7 @List.all_nil.{0} (A7 @List.getElem?_cons_zero.{0} (A7 @List.getElem?_cons_succ.{0} (A7 @List.getElem?_nil.{0} (@beq_self_eq_true.{0}))))))))))))))))))))))))))))))))
theorem Ah:an 0=[]:=nr rfl
end Dv
namespace Dv
open Go
section
variable {σ ρ α β:Type}
theorem CF(f:σ→Option (σ⊕ρ))(st:Nat→σ): ∀(n:Nat) (r:ρ),(∀i,i<n→f (st i)=some (.inl (st (i+1))))→f (st n)=some (.inr r)→Im f (st 0)=some r:=by
 intro n r h e
 have key: ∀k,k≤n→Im f (st (n-k))=some r:=by
  intro k
  induction k with
  |zero=>intro _;exact Rt e
  |succ k ih=>
   intro hk;have h1:=h (n-(k+1)) (by omega)
   rw [XI h1,show n-(k+1)+1=n-k by omega]
   exact ih (by omega)
 have:=key n (IB _)
 rwa [Nat.sub_self]at this
theorem eX(f:σ→Option (σ⊕ρ))(I:Nat→σ→Prop)(Q:ρ→Prop)(step: ∀n s,I n s→(∃s' m,f s=some (.inl s')∧m<n∧I m s')∨(∃r,f s=some (.inr r)∧Q r)):
  ∀(n:Nat) (s:σ),I n s→ ∃r,Im f s=some r∧Q r:=by
 intro n
 induction n using Nat.strongRecOn with
 |_ n ih=>
  intro s hI;rcases step n s hI with⟨s',m,h1,h2,h3⟩|⟨r,h1,h2⟩
  ·rw [XI h1];exact ih m h2 s' h3
  ·exact⟨r,Rt h1,h2⟩
end
theorem Om{n:Nat}{P:Nat→Bool}(h: ¬ ∀i,i<n→P i=true): ∃m,m<n∧P m=false∧ ∀i,i<m→P i=true:=by
 induction n with
 |zero=>exact absurd (fun i hi=>absurd hi (Nat.not_lt_zero _)) h
 |succ n ih=>
  by_cases hn: ∀i,i<n→P i=true
  ·refine⟨n,Nat.lt_succ_self _, ?_,hn⟩
   cases hp:P n with
   |false=>rfl
   |true=>exact absurd (fun i hi=>by rcases Nat.lt_succ_iff_lt_or_eq.1 hi with h1|rfl;exact hn i h1;exact hp) h
  ·obtain⟨m,h1,h2,h3⟩:=ih hn
   exact⟨m,by omega,h2,h3⟩
theorem GV{n:Nat}{P:Nat→Bool}:(an n).all P=true↔ ∀i,i<n→P i=true:=by
 simp [Ir]
theorem mG{σ ρ:Type}(f:σ→Option (σ⊕ρ))(st:Nat→σ)(n:Nat)(P:Nat→Bool)(bad good:ρ)
  (h: ∀i,i<n→(∀j,j<i→P j=true)→f (st i)=if P i=true then some (.inl (st (i+1)))else some (.inr bad))(e:(∀j,j<n→P j=true)→f (st n)=some (.inr good)):Im f (st 0)=some (if(an n).all P=true then good else bad):=by
 by_cases hp: ∀i,i<n→P i=true
 ·rw [if_pos (GV.2 hp)];refine CF f st n good (fun i hi=> ?_) (e hp);rw [h i hi (fun j hj=>hp j (by omega)),if_pos (hp i hi)]
 ·rw [if_neg (fun hc=>hp (GV.1 hc))];obtain⟨m,h1,h2,h3⟩:=Om hp;refine CF f st m bad (fun i hi=> ?_) ?_
  ·rw [h i (by omega) (fun j hj=>h3 j (by omega)),if_pos (h3 i hi)]
  ·rw [h m h1 h3,h2];rfl
theorem IZ{σ ρ:Type}(f:σ→Option (σ⊕ρ))(st:Nat→σ)(n:Nat)(P:Nat→Bool)(bad good:ρ)
  (h: ∀i,i<n→f (st i)=if P i=true then some (.inl (st (i+1)))else some (.inr bad))(e:f (st n)=some (.inr good)):Im f (st 0)=some (if(an n).all P=true then good else bad):=
 mG f st n P bad good (fun i hi _=>h i hi) (fun _=>e)
theorem ZL{α:Type}[Inhabited α](p:α→Bool)(xs:List α):(an xs.length).all (fun i=>p (xs.getD i be))=xs.all p:=by
 rw [QH,GV,Ir]
 constructor
 ·intro h x hx;obtain⟨i,hi,rfl⟩:=aB hx;have:=h i hi
  rwa [K5,Gy hi]at this
 ·intro h i hi;rw [K5,Gy hi];exact h _ (JQ hi)
theorem Tj{α:Type}[DecidableEq α][Inhabited α](a b:List α)(hl:a.length=b.length):(an a.length).all (fun i=>decide (a.getD i be=b.getD i be))=decide (a=b):=by
 by_cases he:a=b
 ·subst he;simp
 ·rw [decide_eq_false he,KR];intro hc;rw [GV]at hc;refine he (List.ext_getElem hl fun i h1 h2=> ?_);have:=hc i h1
  rw [K5,K5,Gy h1,Gy h2]at this;simpa using this
theorem Kb(i:Nat)(h:i<4611686018427387904):IntKind.i64.wrap ((i:Int)+1)=((i+1:Nat):Int):=by
 rw [Lb _ (by omega)];rfl
theorem Az{α:Type}[Inhabited α](xs:List α)(i:Nat)(h:i<xs.length):xs.getD i be=xs[i]:=by
 rw [K5,Gy h];rfl
theorem J5{α:Type}[Inhabited α](xs:List α)(i:Nat)(h:i<xs.length):xs.getD (i:Int).toNat be=xs[i]:=by
 rw [K4];exact Az xs i h
theorem Br{α:Type}{c:Prop}[Decidable c]{o:Option α}(h:c):ck c o=o:=if_pos h
theorem Bc{i n:Nat}(h:i<n):(i:Int)<(n:Int):=by omega
theorem Ap(n:Nat): ¬(n:Int)<(n:Int):=by omega
theorem J6{i n:Nat}(h:i<n):0≤(i:Int)∧(i:Int).toNat<n:=by omega
end Dv
namespace Dv
open Go
def WO(x:Int×Int):List D:=[bd .i64 x.1,bd .i64 x.2]
def mH(xs:Il):Prop:=xs.length≤maxLen∧ ∀x∈xs,lW x.1∧lW x.2
def bn(xss:Am):Prop:=xss.length≤maxLen∧ ∀xs∈xss,mH xs
section
variable {T:Tys} {t e a:ab} {d:D}
theorem qc{ds:List D}(he:T.ty e= .struct [a,a])(ha:T.ty a= .int .i64)(h:Shp T e ds): ∃x:Int×Int,ds=WO x∧lW x.1∧lW x.2:=by
 obtain⟨hl,hx⟩:=WJ he h;rcases ds with _|⟨d0,_|⟨d1,_|⟨_,_⟩⟩⟩<;>simp at hl
 obtain⟨p,h0,hl0⟩:=bS ha (hx 0 a d0 rfl rfl);obtain⟨q,h1,hl1⟩:=bS ha (hx 1 a d1 rfl rfl);simp only [List.cons.injEq,and_true]at h0 h1;subst h0 h1
 exact⟨(p,q),rfl,hl0,hl1⟩
theorem mI{ds:List D}(ht:T.ty t= .slice e)(he:T.ty e= .struct [a,a])(ha:T.ty a= .int .i64)(h:Shp T t ds): ∃xs,ds=[.sl e (Uv WO xs)]∧mH xs:=by
 obtain⟨xss,rfl,hx,hl⟩:=Td ht h
 have: ∀xss:List (List D),(∀xs,xs∈xss→Shp T e xs)→ ∃ys,xss.flatten=Uv WO ys∧ys.length=xss.length∧ ∀y∈ys,lW y.1∧lW y.2:=by
  intro xss
  induction xss with
  |nil=>intro _;exact⟨[],rfl,rfl,by simp⟩
  |cons xs xss ih=>
   intro hx;obtain⟨n,rfl,hn⟩:=qc he ha (hx xs (LX));obtain⟨ys,h1,h2,h3⟩:=ih (fun q hq=>hx q (Je _ hq))
   refine⟨n::ys,by rw [aF,h1];rfl,by simp [h2],fun y hy=> ?_⟩
   rcases PE.1 hy with rfl|hy
   ·exact hn
   ·exact h3 y hy
 obtain⟨ys,h1,h2,h3⟩:=this xss hx
 exact⟨ys,by rw [h1],by omega,h3⟩
theorem jJ{e2:ab}{ds:List D}(ht:T.ty t= .slice e)(he:T.ty e= .slice e2)(he2:T.ty e2= .struct [a,a])(ha:T.ty a= .int .i64)(h:Shp T t ds): ∃xss,ds=[.sl e (AP (fun x=> .sl e2 (Uv WO x)) xss)]∧bn xss:=by
 obtain⟨xss,rfl,hx,hl⟩:=Td ht h
 have: ∀xss:List (List D),(∀xs,xs∈xss→Shp T e xs)→ ∃ys,xss.flatten=AP (fun x=> .sl e2 (Uv WO x)) ys∧ys.length=xss.length∧ ∀y∈ys,mH y:=by
  intro xss
  induction xss with
  |nil=>intro _;exact⟨[],rfl,rfl,by simp⟩
  |cons xs xss ih=>
   intro hx;obtain⟨n,rfl,hn⟩:=mI he he2 ha (hx xs (LX));obtain⟨ys,h1,h2,h3⟩:=ih (fun q hq=>hx q (Je _ hq))
   refine⟨n::ys,by rw [aF,h1];rfl,by simp [h2],fun y hy=> ?_⟩
   rcases PE.1 hy with rfl|hy
   ·exact hn
   ·exact h3 y hy
 obtain⟨ys,h1,h2,h3⟩:=this xss hx
 exact⟨ys,by rw [h1],by omega,h3⟩
theorem bq{b c e2:ab}(ht:T.ty t= .struct [b,c,c])(hb:T.ty b= .slice e)(he:T.ty e= .slice e2)(he2:T.ty e2= .struct [a,a])(ha:T.ty a= .int .i64)(hc:T.ty c= .slice a)(h:Arg T t d):
  ∃es is js,d= .agg [.sl e (AP (fun x=> .sl e2 (Uv WO x)) es),.sl a (I5 is),.sl a (I5 js)]∧bn es∧A1G is∧A1G js:=by
 obtain⟨ds,rfl,hl,hx⟩:=jC ht h;rcases ds with _|⟨d0,_|⟨d1,_|⟨d2,_|⟨_,_⟩⟩⟩⟩<;>simp at hl
 obtain⟨es,h0,hl0⟩:=jJ hb he he2 ha (hx 0 b d0 rfl rfl);obtain⟨is,h1,hl1⟩:=eO hc ha (hx 1 c d1 rfl rfl);obtain⟨js,h2,hl2⟩:=eO hc ha (hx 2 c d2 rfl rfl);simp only [List.cons.injEq,and_true]at h0 h1 h2;subst h0 h1 h2
 exact⟨es,is,js,rfl,hl0,hl1,hl2⟩
end
end Dv
