/- Value semantics for Go code, part 5: typed lists, loops as functions. Conditions: none beyond those in each lemma. -/
import Derived.Test.YtclkfhhdikfcpaaL4
open Dv.D renaming int → bh
open Go renaming TypeId → ab
open Inhabited renaming default → bj
open List renaming range → an,replicate → ao
set_option linter.unusedSimpArgs false
set_option linter.unusedVariables false
namespace Dv
open Go
set_option maxRecDepth 10000
def ck{α:Type}(c:Prop)[Decidable c](o:Option α):Option α:=if c then o else none
section
variable {σ ρ:Type}
def dO(f:σ→Option (σ⊕ρ)):Nat→σ→Option ρ
 |0,_=>none
 |n+1,s=>
  match f s with
  |none=>none
  |some (.inl s')=>dO f n s'
  |some (.inr r)=>some r
open Classical in
noncomputable def JB(f:σ→Option (σ⊕ρ))(s:σ):Option ρ:=if h: ∃r n,dO f n s=some r then some h.choose else none
theorem Zp{f:σ→Option (σ⊕ρ)}: ∀ {n m:Nat} {s:σ} {r:ρ},n≤m→dO f n s=some r→dO f m s=some r:=by
 intro n
 induction n with
 |zero=>intro m s r _ h;simp [dO]at h
 |succ n ih=>
  intro m s r hm h
  cases m with
  |zero=>omega
  |succ m=>
   simp only [dO]at h ⊢
   cases hs:f s with
   |none=>simp [hs]at h
   |some q=>
    cases q with
    |inl s'=>simp only [hs]at h ⊢;exact ih (by omega) h
    |inr r'=>simp only [hs]at h ⊢;exact h
theorem Xo{f:σ→Option (σ⊕ρ)}{n:Nat}{s:σ}{r:ρ}(h:dO f n s=some r):JB f s=some r:=by
 unfold JB;have hx: ∃r n,dO f n s=some r:=⟨r,n,h⟩;rw [dif_pos hx];obtain⟨n',h'⟩:=hx.choose_spec;have h1:=Zp (Nat.le_max_left n n') h;have h2:=Zp (Nat.le_max_right n n') h';rw [h1]at h2;exact h2.symm
theorem UI{f:σ→Option (σ⊕ρ)}{s:σ}{r:ρ}(h:JB f s=some r): ∃n,dO f n s=some r:=by
 unfold JB at h
 split at h
 ·rename_i hx
  simp only [Option.some.injEq]at h;subst h;exact hx.choose_spec
 ·cases h
theorem Sj{f:σ→Option (σ⊕ρ)}{s s':σ}(h:f s=some (.inl s')):JB f s=JB f s':=by
 cases hi:JB f s' with
 |some r=>
  obtain⟨n,hn⟩:=UI hi;exact Xo (n:=n+1) (by simp only [dO,h];exact hn)
 |none=>
  cases hj:JB f s with
  |none=>rfl
  |some r=>
   obtain⟨n,hn⟩:=UI hj
   cases n with
   |zero=>simp [dO]at hn
   |succ n=>
    simp only [dO,h]at hn;rw [Xo hn]at hi;cases hi
theorem O9{f:σ→Option (σ⊕ρ)}{s:σ}{r:ρ}(h:f s=some (.inr r)):JB f s=some r:=Xo (n:=1) (by simp [dO,h])
end
def gG{σ ρ:Type}(M:σ→St→Prop)(X:ρ→Ex→St→Prop):σ⊕ρ→Ex→St→Prop
 | .inl v,.normal,s=>M v s
 | .inl _,_,_=>False
 | .inr _,.normal,_=>False
 | .inr r,ex,s=>X r ex s
theorem Ca{σ ρ:Type}(M:σ→St→Prop)(X:ρ→Ex→St→Prop)(v:σ)(s:St):gG M X (.inl v) .normal s=M v s:=nr rfl
theorem Cb{σ ρ:Type}(M:σ→St→Prop)(X:ρ→Ex→St→Prop)(r:ρ)(j:Nat)(s:St):gG M X (.inr r) (.exit j) s=X r (.exit j) s:=nr rfl
theorem Cc{σ ρ:Type}(M:σ→St→Prop)(X:ρ→Ex→St→Prop)(r:ρ)(s:St):gG M X (.inr r) .ret s=X r .ret s:=nr rfl
theorem BX{E:Env}{c:SC}{σ ρ:Type}(f:σ→Option (σ⊕ρ))(M:σ→St→Prop)(X:ρ→Ex→St→Prop)
  (hstep: ∀v s o,M v s→f v=some o→Br E c (gG M X o) s){v:σ}{s:St}{r:ρ}(h:JB f v=some r)(hM:M v s):Br E (.loop c) (X r) s:=by
 obtain⟨n,hn⟩:=UI h
 induction n generalizing v s with
 |zero=>simp [dO]at hn
 |succ n ih=>
  simp only [dO]at hn
  cases hf:f v with
  |none=>simp [hf]at hn
  |some o=>
   obtain⟨ex,s1,h1,h2⟩:=hstep v s o hM hf
   cases o with
   |inl v'=>
    simp only [hf]at hn
    cases ex with
    |normal=>
     obtain⟨ex',s2,h3,h4⟩:=ih (Xo hn) h2 hn
     refine⟨ex',s2, ?_,h4⟩
     simp only [Dh]at h3 ⊢;rw [Xk,h1];exact h3
    |exit id=>exact h2.elim
    |ret=>exact h2.elim
   |inr r'=>
    simp only [hf,Option.some.injEq]at hn;subst hn
    cases ex with
    |normal=>exact h2.elim
    |exit id=>exact⟨_,s1,by simp only [Dh];rw [Xk,h1],h2⟩
    |ret=>exact⟨_,s1,by simp only [Dh];rw [Xk,h1],h2⟩
def AR{α:Type}(c:α→D)(xs:List α):List D:=xs.map c
def VU{α:Type}(c:α→List D)(xs:List α):List D:=xs.flatMap c
section
variable {α:Type} (c:α→D)
theorem sV:AR c []=[]:=nr rfl
theorem Jd(x:α)(xs:List α):AR c (x::xs)=c x::AR c xs:=nr rfl
theorem JO(xs:List α):(AR c xs).length=xs.length:=by simp [AR]
theorem UJ[Inhabited α](xs:List α)(i:Nat)(h:i<xs.length):(AR c xs).getD i .undef=c (xs.getD i bj):=by
 simp [AR,KR,h]
theorem A2N[Inhabited α](xs:List α)(i:Nat)(h:i<xs.length):(AR c xs)[i]? =some (c (xs.getD i bj)):=by
 simp [AR,KR,h]
theorem gH(xs:List α)(i:Nat)(y:α):(AR c xs).set i (c y)=AR c (xs.set i y):=by simp [AR]
theorem nT(xs:List α)(n:Nat):(AR c xs).take n=AR c (xs.take n):=by simp [AR]
theorem nU(xs:List α)(n:Nat):(AR c xs).drop n=AR c (xs.drop n):=by simp [AR]
theorem Ox(xs:List α)(h: ∀x,(c x).hasObj=false):Al (AR c xs)=false:=by
 induction xs with
 |nil=>rfl
 |cons x xs ih=>simp only [Jd,Al,h,ih];rfl
theorem sW(xs:List α)(h: ∀x,Dn (c x)=some (c x)):Cw (AR c xs)=some (AR c xs):=by
 induction xs with
 |nil=>rfl
 |cons x xs ih=>simp only [Jd,Cw,h,ih];rfl
theorem nV(c:α→List D)(c':α→List D)(e:ab)(xs:List α)(h: ∀x,Cw (c x)=some (c' x)):Cw (AR (fun x=>D.own e (c x)) xs)=some (AR (fun x=>D.sl e (c' x)) xs):=by
 induction xs with
 |nil=>rfl
 |cons x xs ih=>simp only [Jd,Cw,Dn,h,ih];rfl
theorem kC(xs:List α)(h: ∀x,Da (c x)=false):Db (AR c xs)=false:=by
 induction xs with
 |nil=>rfl
 |cons x xs ih=>simp only [Jd,Db,h,ih];rfl
theorem Wy(xs:List α)(h: ∀x,Cq (c x)=true):(AR c xs).all Cq=true:=by simp [AR,h]
end
section
variable {α:Type} (c:α→List D) (n:Nat)
theorem Xp:VU c []=[]:=nr rfl
theorem M5(x:α)(xs:List α):VU c (x::xs)=c x++VU c xs:=nr rfl
theorem dP(xs ys:List α):VU c xs++VU c ys=VU c (xs++ys):=by simp [VU]
theorem UK(h: ∀x,(c x).length=n)(xs:List α):(VU c xs).length=xs.length*n:=by
 induction xs with
 |nil=>simp [Xp]
 |cons x xs ih=>simp only [M5,OL,h,ih,ND,Nat.succ_mul];omega
theorem Zq(h: ∀x,(c x).length=n)(xs:List α): ∀(i:Nat),(VU c xs).drop (i*n)=VU c (xs.drop i):=by
 induction xs with
 |nil=>intro i;simp [Xp]
 |cons x xs ih=>
  intro i
  cases i with
  |zero=>simp
  |succ i=>
   rw [M5,List.drop_append,List.drop_succ_cons,←ih i,h,Nat.succ_mul];have e1:(c x).drop (i*n+n)=[]:=List.drop_eq_nil_of_le (by rw [h];omega)
   rw [e1,Nat.add_sub_cancel];rfl
theorem dQ(xs:List α)(h: ∀x,Al (c x)=false):Al (VU c xs)=false:=by
 have app: ∀(as bs:List D),Al (as++bs)=(Al as||Al bs):=by
  intro as bs
  induction as with
  |nil=>simp [Al]
  |cons a as ih=>simp [Al,ih,Bool.or_assoc]
 induction xs with
 |nil=>rfl
 |cons x xs ih=>rw [M5,app,h,ih];rfl
theorem Zr: ∀(as bs as' bs':List D),Cw as=some as'→Cw bs=some bs'→Cw (as++bs)=some (as'++bs'):=by
 intro as
 induction as with
 |nil=>intro bs as' bs' h1 h2;simp [Cw]at h1;subst h1;simpa using h2
 |cons a as ih=>
  intro bs as' bs' h1 h2;simp only [Cw,Gg,CE]at h1;obtain⟨a',ha,as1,has,rfl⟩:=h1;simp only [PN,Cw,ha,ih _ _ _ has h2];rfl
theorem gI(xs:List α)(h: ∀x,Cw (c x)=some (c x)):Cw (VU c xs)=some (VU c xs):=by
 induction xs with
 |nil=>rfl
 |cons x xs ih=>rw [M5];exact Zr _ _ _ _ (h x) ih
theorem Vs(as bs:List D):Db (as++bs)=(Db as||Db bs):=by
 induction as with
 |nil=>simp [Db]
 |cons a as ih=>simp [Db,ih,Bool.or_assoc]
theorem Wz(xs:List α)(h: ∀x,Db (c x)=false):Db (VU c xs)=false:=by
 induction xs with
 |nil=>rfl
 |cons x xs ih=>rw [M5,Vs,h,ih];rfl
end
def spl{α:Type}:List α→Nat→List α→List α
 |xs,_,[]=>xs
 |xs,c,y::ys=>spl (xs.set c y) (c+1) ys
theorem dR{α:Type}(c:α→D): ∀(ys xs:List α) (n:Nat),BU (AR c xs) n (AR c ys)=AR c (spl xs n ys):=by
 intro ys
 induction ys with
 |nil=>intro xs n;cases xs<;>rfl
 |cons y ys ih=>
  intro xs n
  have h1:BU (AR c xs) n (AR c (y::ys))=BU ((AR c xs).set n (c y)) (n+1) (AR c ys):=by
   rw [Jd];cases AR c xs<;>rfl
  rw [h1,gH,ih];rfl
theorem BD{α β:Type}{o:Option α}{f:α→Option β}{r:β}(h:o.bind f=some r): ∃a,o=some a∧f a=some r:=by
 cases o with
 |none=>cases h
 |some a=>exact⟨a,rfl,h⟩
theorem Bw{α:Type}{c:Prop}[Decidable c]{o:Option α}{r:α}(h:ck c o=some r):c∧o=some r:=by
 unfold ck at h
 split at h
 ·rename_i hc;exact⟨hc,h⟩
 ·cases h
section
variable {α:Type} (c:α→D)
theorem kD(xs:List α)(y:α)(ds:List D):AR c xs++(c y::ds)=AR c (xs++[y])++ds:=by simp [AR]
theorem nW(c:α→List D)(e:ab)(xs:List α)(h: ∀x,Cw (c x)=some (c x)):Cw (AR (fun x=>D.own e (c x)) xs)=some (AR (fun x=>D.sl e (c x)) xs):=nV c c e xs h
def Rw(c:α→D):Option α→D
 |some a=>c a
 |none=> .undef
theorem gJ(xs:List α):AR (Rw c) (xs.map some)=AR c xs:=by simp [AR,Function.comp_def,Rw]
theorem UL(xs:List (Option α))(n:Nat):(AR (Rw c) xs).set n .undef=AR (Rw c) (xs.set n none):=by simp [AR,List.map_set,Rw]
theorem nX(xs:List (Option α))(n:Nat)(y:α):(AR (Rw c) xs).set n (c y)=AR (Rw c) (xs.set n (some y)):=by simp [AR,List.map_set,Rw]
theorem nY(xs:List α):(xs.map some).length=xs.length:=by simp
theorem Zt(xs:List α)(n:Nat):(AR c xs).set n .undef=AR (Rw c) ((xs.map some).set n none):=by rw [←UL,gJ]
theorem sZ(xs:List (Option α))(n:Nat):AR (Rw (Rw c)) ((xs.map some).set n none)=AR (Rw c) (xs.set n none):=by rw [←Zt,UL]
theorem nZ(xs:List α)(n:Nat)(y:α):(xs.map some).set n (some y)=(xs.set n y).map some:=List.map_set.symm
theorem su(n:Nat)(k:IntKind)(x:Int):ao n (bh k x)=AR (bh k) (ao n x):=by simp [AR]
theorem sw(n:Nat)(e:ab):ao n (D.own e [])=AR (fun x=>D.own e (AR (bh .i64) x)) (ao n []):=by simp [AR]
variable [Inhabited α] {T:Tys}
theorem AEr(e:ab)(n:Int)(xs:List α)(hk:T.known e=true)(hz:T.size e=1)(hn:0≤n∧n.toNat<xs.length):jv T e n (some (e,AR c xs,none))=some (.cptr [c (xs.getD n.toNat bj)]):=by
 rw [ACH e n (AR c xs) hk hz (by simpa [AR] using hn),UJ c xs _ hn.2]
end
theorem AEs:(true==false)=false:=nr rfl
theorem AEt:(false==true)=false:=nr rfl
theorem AEu{s:St}(dst:Option Tmp)(u:Tmp)(i:Nat)(L:AL)(n m:Nat):fU s dst u i (some (.vw L n m))=some (s.putO dst (.vw L n m)):=by simp [fU,Ce,CF,D.hasObj,J3]
theorem Zu{α:Type}(c:α→D)(xs:List α):(AR c xs).isEmpty=xs.isEmpty:=by cases xs<;>rfl
theorem A6z{α:Type}(c:α→D)(e:ab)(xs:List α):Da (.sl e (AR c xs))= !xs.isEmpty:=by simp only [Da,Zu]
theorem Zv{α:Type}(c:α→List D)(e:ab)(xs:List α):Al (AR (fun x=>D.own e (c x)) xs)= !xs.isEmpty:=by
 cases xs with
 |nil=>rfl
 |cons x xs=>simp [Jd,Al,D.hasObj]
section
variable {pm:Pm} {s:St} {dst:Option Tmp}
theorem AEv(ls:List (AL×D))(r:D)(o:List D)(h:Da r=true):cb2 pm s dst ls (some (r,o))=if(EU (ls.map (·.1))&&ls.all (fun l=>pm.wr (l.1.headD 0)))=true then(I7 ls).map fun ls'=>(back false s ls').putO dst r else none:=by
 simp [cb2,h]
theorem faN:I7 []=some []:=nr rfl
def fac(L:AL)(o:Option (List (AL×D))):Option D→Option (List (AL×D))
 |some c=>o.map ((L,c):: ·)
 |none=>none
theorem faC(L:AL)(c:D)(rest:List (AL×D)):I7 ((L,c)::rest)=fac L (I7 rest) (Dn c):=by
 simp only [I7];cases Dn c<;>rfl
theorem AEw(L:AL)(ls:List (AL×D))(c:D):fac L (some ls) (some c)=some ((L,c)::ls):=nr rfl
end
def BQ(xs:DK)(n:Nat):Int:=(xs.getD n bj).1
def CU(xs:DK)(n:Nat):Int:=(xs.getD n bj).2
def Az(k l:IntKind)(xs:DK):List D:=VU (fun x=>[bh k x.1,bh l x.2]) xs
theorem AB(k l:IntKind):Az k l []=[]:=nr rfl
theorem M6(k l:IntKind)(x:Int×Int)(xs:DK):Az k l (x::xs)=bh k x.1::bh l x.2::Az k l xs:=nr rfl
theorem Ni(k l:IntKind)(xs:DK):(Az k l xs).length=xs.length*2:=UK _ 2 (fun _=>rfl) xs
theorem X0(k l:IntKind)(v:Int): ∀(xs:DK) (n:Nat),n<xs.length→(Az k l xs).set (n*2) (bh k v)=Az k l (xs.set n (v,CU xs n)):=by
 intro xs
 induction xs with
 |nil=>intro n h;simp at h
 |cons x xs ih=>
  intro n h
  cases n with
  |zero=>rfl
  |succ n=>
   have:=ih n (by simpa using h)
   rw [M6,Nat.succ_mul,X9,X9,X9,this,M6];rfl
theorem X3(k l:IntKind)(v:Int): ∀(xs:DK) (n:Nat),n<xs.length→(Az k l xs).set (n*2+1) (bh l v)=Az k l (xs.set n (BQ xs n,v)):=by
 intro xs
 induction xs with
 |nil=>intro n h;simp at h
 |cons x xs ih=>
  intro n h
  cases n with
  |zero=>rfl
  |succ n=>
   have:=ih n (by simpa using h)
   rw [M6,Nat.succ_mul,show n*2+2+1=n*2+1+1+1 by omega,X9,X9,X9,this,M6];rfl
theorem kE(k l:IntKind)(xs:DK)(n:Nat):(Az k l xs).drop (n*2)=Az k l (xs.drop n):=Zq _ 2 (fun _=>rfl) xs n
theorem Rc(k l:IntKind)(xs:DK):Al (Az k l xs)=false:=dQ _ xs (fun _=>by simp [Al,D.hasObj])
theorem ng(k l:IntKind)(xs:DK):Cw (Az k l xs)=some (Az k l xs):=gI _ xs (fun _=>rfl)
theorem dS(k l:IntKind)(xs:DK):Db (Az k l xs)=false:=Wz _ xs (fun _=>rfl)
theorem ni(k l:IntKind)(n:Nat)(a b:Int):(ao n [bh k a,bh l b]).flatten=Az k l (ao n (a,b)):=by
 simp [Az,VU,List.flatMap_def]
def q4a(xs:List (Int×Int×Int×Int))(n:Nat):Int:=(xs.getD n bj).1
def q4b(xs:List (Int×Int×Int×Int))(n:Nat):Int:=(xs.getD n bj).2.1
def q4c(xs:List (Int×Int×Int×Int))(n:Nat):Int:=(xs.getD n bj).2.2.1
def q4d(xs:List (Int×Int×Int×Int))(n:Nat):Int:=(xs.getD n bj).2.2.2
def Px(xs:List (Int×Int×Int×Int)):List D:=VU (fun x=>[bh .i64 x.1,bh .i64 x.2.1,bh .i64 x.2.2.1,bh .i64 x.2.2.2]) xs
theorem kF(x:Int×Int×Int×Int)(xs:List (Int×Int×Int×Int)):Px (x::xs)=bh .i64 x.1::bh .i64 x.2.1::bh .i64 x.2.2.1::bh .i64 x.2.2.2::Px xs:=nr rfl
theorem Re(xs:List (Int×Int×Int×Int)):(Px xs).length=xs.length*4:=UK _ 4 (fun _=>rfl) xs
theorem kG(xs:List (Int×Int×Int×Int))(a b c d:Int):Px xs++[bh .i64 a,bh .i64 b,bh .i64 c,bh .i64 d]=Px (xs++[(a,b,c,d)]):=dP _ xs [(a,b,c,d)]
theorem dU(xs:List (Int×Int×Int×Int))(a b c d:Int)(ds:List D):Px xs++(bh .i64 a::bh .i64 b::bh .i64 c::bh .i64 d::ds)=Px (xs++[(a,b,c,d)])++ds:=by
 rw [←kG,Rn];rfl
theorem kH(xs:List (Int×Int×Int×Int))(n:Nat):(Px xs).drop (n*4)=Px (xs.drop n):=Zq _ 4 (fun _=>rfl) xs n
theorem nk(xs:List (Int×Int×Int×Int)):Cw (Px xs)=some (Px xs):=gI _ xs (fun _=>rfl)
theorem dV(xs:List (Int×Int×Int×Int)):Db (Px xs)=false:=Wz _ xs (fun _=>rfl)
theorem vJ{T:Tys}(e:ab)(xs:List (Int×Int×Int×Int))(h:T.size e=4):T.len e (Px xs)=xs.length:=by
 unfold Tys.len;rw [h,if_neg (by decide),Re,Nat.mul_div_cancel _ (by decide)]
theorem AEx{T:Tys}(e:ab)(n:Int)(xs:List (Int×Int×Int×Int))(hk:T.known e=true)(hz:T.size e=4)(hn:0≤n∧n.toNat<xs.length):jv T e n (some (e,Px xs,none))=some (.cptr [bh .i64 (q4a xs n.toNat),bh .i64 (q4b xs n.toNat),bh .i64 (q4c xs n.toNat),bh .i64 (q4d xs n.toNat)]):=by
 simp only [jv,hk,vJ e xs hz];rw [if_pos ⟨trivial,trivial,hn.1,hn.2⟩,hz,kH,iU hn.2,kF];unfold q4a q4b q4c q4d;rw [KR,Gl hn.2];rfl
section
variable {T:Tys} {pm:Pm} {s:St} {t:ab}
theorem nu(k l:IntKind)(e:ab)(xs:DK)(h:T.size e=2):T.len e (Az k l xs)=xs.length:=by
 unfold Tys.len;rw [h,if_neg (by decide),Ni,Nat.mul_div_cancel _ (by decide)]
theorem AEy(k l:IntKind)(e:ab)(n:Int)(xs:DK)(hk:T.known e=true)(hz:T.size e=2)(hn:0≤n∧n.toNat<xs.length):jv T e n (some (e,Az k l xs,none))=some (.cptr [bh k (BQ xs n.toNat),bh l (CU xs n.toNat)]):=by
 simp only [jv,hk,nu k l e xs hz];rw [if_pos ⟨trivial,trivial,hn.1,hn.2⟩,hz,kE,iU hn.2,M6];unfold BQ CU;rw [KR,Gl hn.2];rfl
theorem AEz(k l:IntKind)(e:ab)(n:Int)(xs:DK)(L:AL)(a b:Nat)(hk:T.known e=true)(hz:T.size e=2)(hn:0≤n∧n.toNat<xs.length):jv T e n (some (e,Az k l xs,some (L,a,b)))=some (.pe L (n.toNat*2) a b):=by
 simp only [jv,hk,nu k l e xs hz];rw [if_pos ⟨trivial,trivial,hn.1,hn.2⟩,hz]
def sq1(T:Tys)(pm:Pm)(t:ab)(u:Tmp)(a b:D)(s:St):Option D→Nat→AL→Option St
 |some (.own e xs),c,L=>if T.known t&&T.isStruct t&&pm.wr (L.headD 0)&&Cq a&&Cq b&&(T.size t==2)&&decide (c+2≤xs.length)&& !a.hasObj&& !b.hasObj&& !Al xs then some (s.set L (.own e ((xs.set c a).set (c+1) b)))else Yi T pm t (.tmp u) (some (.agg [a,b],s))
 |_,_,_=>Yi T pm t (.tmp u) (some (.agg [a,b],s))
theorem AF0(u:Tmp)(a b:D)(L:AL)(c n m:Nat)(h:s.v u= .pe L c n m):Yi T pm t (.tmp u) (some (.agg [a,b],s))=sq1 T pm t u a b s (s.look pm L n m) c L:=by
 cases hl:s.look pm L n m with
 |none=>rfl
 |some o=>
  cases o<;>try rfl
  rename_i e xs
  simp only [sq1];split
  ·rename_i hc
   simp only [FU,beq_iff_eq,decide_eq_true_eq,LM]at hc;obtain⟨⟨⟨⟨⟨⟨⟨⟨⟨hk,hs⟩,hw⟩,ha⟩,hb⟩,hz⟩,hl2⟩,ha2⟩,hb2⟩,hx2⟩:=hc;simp only [Yi,ev,h,Gd,hl,D.asCells,D.isAgg,D.cells,D.withCells,hk,hs,hw,hz,PQ,ha,hb,List.all_nil,Bool.and_self,ND,QS,beq_self_eq_true,Ju,D.hasObj,Al,ha2,hb2,hx2,Bool.or_self,Ip,if_false,BU];rw [if_pos (by simpa using hl2)]
  ·rfl
theorem AF1(u:Tmp)(a b:D)(L:AL)(c n m:Nat)(h:s.v u= .pe L c n m):sw1 T pm t u [a,b] s (.pe L c n m)=sq1 T pm t u a b s (s.look pm L n m) c L:=by
 rw [←AF0 u a b L c n m h];rfl
theorem dW(k l:IntKind)(xs:DK)(n:Nat)(a b:Int)(h:n<xs.length):((Az k l xs).set (n*2) (bh k a)).set (n*2+1) (bh l b)=Az k l (xs.set n (a,b)):=by
 rw [X0 k l a xs n h,X3 k l b _ n (by simpa using h),List.set_set]
 congr 2
 simp [BQ,KR,h]
theorem AF2(k l:IntKind)(u:Tmp)(a b:Int)(L:AL)(e:ab)(n:Nat)(xs:DK)(hk:T.known t=true)(hs:T.isStruct t=true)(hw:pm.wr (L.headD 0)=true)(hz:T.size t=2)(h:n<xs.length):
  sq1 T pm t u (.int k a) (.int l b) s (some (.own e (Az k l xs))) (n*2) L=some (s.set L (.own e (Az k l (xs.set n (a,b))))):=by
 simp only [sq1];rw [if_pos,dW k l xs n a b h];simp only [hk,hs,hw,hz,Cq,Ni,Rc,D.hasObj,FU,decide_eq_true_eq,beq_self_eq_true,Bool.not_false,and_true,true_and];omega
theorem Zw: ∀(xs:AP),XE (AR (bh .i64) xs)=some xs
 | []=>rfl
 |x::xs=>by rw [Jd,XE,Zw xs];rfl
theorem A71(xs:AP)(h':xs.length≤14∧14≤xs.length):JE true 14 (.agg (AR (bh .i64) xs))=some xs:=by
 have h:xs.length=14:=by omega
 simp only [JE,JO,h,and_self,if_true,Zw]
theorem A72(a0 a1 a2 a3 a4 a5 a6 a7 a8 a9 a10 a11 a12 a13:Int):JE true 14 (.agg [.int .i64 a0,.int .i64 a1,.int .i64 a2,.int .i64 a3,.int .i64 a4,.int .i64 a5,.int .i64 a6,.int .i64 a7,.int .i64 a8,.int .i64 a9,.int .i64 a10,.int .i64 a11,.int .i64 a12,.int .i64 a13])=some [a0,a1,a2,a3,a4,a5,a6,a7,a8,a9,a10,a11,a12,a13]:=nr rfl
theorem csA(L:AL)(xs:AP)(h':xs.length≤14∧14≤xs.length):cellsOf s L 0 14 (some (.box (AR (bh .i64) xs)))=some (.agg (AR (bh .i64) xs)):=by
 have h:xs.length=14:=by omega
 have e:((an 14).map fun i=>CF s L (0+i) ((AR (bh .i64) xs).getD (0+i) .undef))=AR (bh .i64) xs:=by
  refine List.ext_getElem (by simp [JO,h]) (fun i h1 h2=> ?_)
  have hi:i<xs.length:=by rw [JO]at h2;exact h2
  simp only [List.getElem_map,Yj,JC,UJ _ xs i hi,CF];simp [AR,hi]
 show(if 0+14≤(AR (bh .i64) xs).length then Ce (.agg ((an 14).map fun i=>CF s L (0+i) ((AR (bh .i64) xs).getD (0+i) .undef)))else none)=_
 rw [if_pos (by rw [JO,h];omega),e]
 simp only [Ce,D.hasObj,Ox (bh .i64) xs (fun _=>rfl)];rfl
theorem ndL{α:Type}(e:ab)(c:α→D)(xs:List α)(h:0<xs.length):PR pm s (.sl e (AR c xs))=some false:=by
 cases xs with
 |nil=>exact(Nat.lt_irrefl 0 h).elim
 |cons x xs=>rfl
end
set_option linter.defProp false
def AF3:=A7 @AEu (A7 @dR (A7 @Zv (A7 @A6z (A7 @AEv (A7 @faN (A7 @faC (A7 @AEw (A7 @AEr (A7 @JO (A7 @A2N (A7 @UJ (A7 @gH (A7 @kD (A7 @nT (A7 @nU (A7 @Ox (A7 @sW (A7 @nW (A7 @kC (A7 @Wy (A7 @sw (A7 @gJ (A7 @nY (A7 @Zt (A7 @nZ (A7 (A7 @sZ @UL) (A7 @nX (A7 @su (A7 @AEs @AEt)))))))))))))))))))))))))))))
theorem tk2(a b:D)(l:List D):List.take 2 (a::b::l)=[a,b]:=nr rfl
theorem tk3(a b c:D)(l:List D):List.take 3 (a::b::c::l)=[a,b,c]:=nr rfl
theorem tk4(a b c d:D)(l:List D):List.take 4 (a::b::c::d::l)=[a,b,c,d]:=nr rfl
theorem A73{n m:Nat}(h:n<m):n*2<m*2:=by omega
theorem A74{n m:Nat}(h:n<m):n*2+1<m*2:=by omega
def xc2:=A7 (A7 @A71 (A7 @A72 (A7 @csA @ndL))) (A7 @Nat.add_zero (A7 @Re (A7 @dU (A7 @nk (A7 @dV (A7 @vJ (A7 @AEx (A7 @Ni (A7 @Rc (A7 @ng (A7 @dS (A7 @ni (A7 @nu (A7 @AEy (A7 @AEz (A7 @AF1 (A7 @tk2 (A7 @tk3 (A7 @tk4 (A7 @A73 (A7 @A74 (A7 @X0 (A7 @X3 (A7 @List.length_set.{0} (@AF2)))))))))))))))))))))))))
def A75:=A7 @implies_true.{1} (A7 @Option.bind_some.{0,0} (A7 @Option.map_some.{0,0} (A7 @Option.isSome_some.{0} (A7 @List.contains_cons.{0} (A7 @List.contains_nil.{0} (A7 @List.getD_cons_zero.{0} (A7 @List.getD_cons_succ.{0} (A7 @List.getD_nil.{0} (A7 @List.length_cons.{0} (A7 @List.length_nil.{0} (A7 @List.size_toArray.{0} (A7 @List.toList_toArray.{0} (A7 @List.zip_cons_cons.{0,0} (A7 @List.zip_nil_left.{0,0} (A7 @List.append_nil.{0} (A7 @List.nil_append.{0} (A7 @List.cons_append.{0} (A7 @List.map_cons.{0,0} (A7 @List.map_nil.{0,0} (A7 @List.replicate_succ.{0} (A7 @List.replicate_zero.{0} (A7 @List.set_cons_zero.{0} (A7 @List.set_cons_succ.{0} (A7 @List.set_set.{0} (A7 @List.all_cons.{0} (A7 @List.any_cons.{0} (A7 @List.any_nil.{0} (A7 @List.all_nil.{0} (A7 @List.getElem?_cons_zero.{0} (A7 @List.getElem?_cons_succ.{0} (A7 @List.getElem?_nil.{0} (@beq_self_eq_true.{0}))))))))))))))))))))))))))))))))
theorem Ap:an 0=[]:=nr rfl
end Dv
namespace Dv
open Go
section
variable {σ ρ α β:Type}
theorem CJ(f:σ→Option (σ⊕ρ))(st:Nat→σ): ∀(n:Nat) (r:ρ),(∀i,i<n→f (st i)=some (.inl (st (i+1))))→f (st n)=some (.inr r)→JB f (st 0)=some r:=by
 intro n r h e
 have key: ∀k,k≤n→JB f (st (n-k))=some r:=by
  intro k
  induction k with
  |zero=>intro _;exact O9 e
  |succ k ih=>
   intro hk;have h1:=h (n-(k+1)) (by omega)
   rw [Sj h1,show n-(k+1)+1=n-k by omega]
   exact ih (by omega)
 have:=key n (Hm _)
 rwa [QU]at this
end
theorem Oy{n:Nat}{P:Nat→Bool}(h: ¬ ∀i,i<n→P i=true): ∃m,m<n∧P m=false∧ ∀i,i<m→P i=true:=by
 induction n with
 |zero=>exact absurd (fun i hi=>absurd hi (Nat.not_lt_zero _)) h
 |succ n ih=>
  by_cases hn: ∀i,i<n→P i=true
  ·refine⟨n,Nat.lt_succ_self _, ?_,hn⟩
   cases hp:P n with
   |false=>rfl
   |true=>exact absurd (fun i hi=>by rcases Nat.lt_succ_iff_lt_or_eq.1 hi with h1|rfl;exact hn i h1;exact hp) h
  ·obtain⟨m,h1,h2,h3⟩:=ih hn
   exact⟨m,by omega,h2,h3⟩
theorem GG{n:Nat}{P:Nat→Bool}:(an n).all P=true↔ ∀i,i<n→P i=true:=by
 simp [Jt]
theorem ny{σ ρ:Type}(f:σ→Option (σ⊕ρ))(st:Nat→σ)(n:Nat)(P:Nat→Bool)(bad good:ρ)
  (h: ∀i,i<n→(∀j,j<i→P j=true)→f (st i)=if P i=true then some (.inl (st (i+1)))else some (.inr bad))(e:(∀j,j<n→P j=true)→f (st n)=some (.inr good)):JB f (st 0)=some (if(an n).all P=true then good else bad):=by
 by_cases hp: ∀i,i<n→P i=true
 ·rw [if_pos (GG.2 hp)];refine CJ f st n good (fun i hi=> ?_) (e hp);rw [h i hi (fun j hj=>hp j (by omega)),if_pos (hp i hi)]
 ·rw [if_neg (fun hc=>hp (GG.1 hc))];obtain⟨m,h1,h2,h3⟩:=Oy hp;refine CJ f st m bad (fun i hi=> ?_) ?_
  ·rw [h i (by omega) (fun j hj=>h3 j (by omega)),if_pos (h3 i hi)]
  ·rw [h m h1 h3,h2];rfl
theorem IZ{σ ρ:Type}(f:σ→Option (σ⊕ρ))(st:Nat→σ)(n:Nat)(P:Nat→Bool)(bad good:ρ)
  (h: ∀i,i<n→f (st i)=if P i=true then some (.inl (st (i+1)))else some (.inr bad))(e:f (st n)=some (.inr good)):JB f (st 0)=some (if(an n).all P=true then good else bad):=
 ny f st n P bad good (fun i hi _=>h i hi) (fun _=>e)
theorem Zx{α:Type}[Inhabited α](p:α→Bool)(xs:List α):(an xs.length).all (fun i=>p (xs.getD i bj))=xs.all p:=by
 rw [QT,GG,Jt]
 constructor
 ·intro h x hx;obtain⟨i,hi,rfl⟩:=iY hx;have:=h i hi
  rwa [KR,Gl hi]at this
 ·intro h i hi;rw [KR,Gl hi];exact h _ (LP hi)
theorem UM{α:Type}[DecidableEq α][Inhabited α](a b:List α)(hl:a.length=b.length):(an a.length).all (fun i=>decide (a.getD i bj=b.getD i bj))=decide (a=b):=by
 by_cases he:a=b
 ·subst he;simp
 ·rw [decide_eq_false he,K7];intro hc;rw [GG]at hc;refine he (List.ext_getElem hl fun i h1 h2=> ?_);have:=hc i h1
  rw [KR,KR,Gl h1,Gl h2]at this;simpa using this
theorem KO(i:Nat)(h:i<4611686018427387904):IntKind.i64.wrap ((i:Int)+1)=((i+1:Nat):Int):=by
 rw [LZ _ (by omega)];rfl
theorem BN{α:Type}[Inhabited α](xs:List α)(i:Nat)(h:i<xs.length):xs.getD i bj=xs[i]:=by
 rw [KR,Gl h];rfl
theorem J5{α:Type}[Inhabited α](xs:List α)(i:Nat)(h:i<xs.length):xs.getD (i:Int).toNat bj=xs[i]:=by
 rw [K3];exact BN xs i h
theorem Bq{α:Type}{c:Prop}[Decidable c]{o:Option α}(h:c):ck c o=o:=if_pos h
theorem Bb{i n:Nat}(h:i<n):(i:Int)<(n:Int):=by omega
theorem BB(n:Nat): ¬(n:Int)<(n:Int):=by omega
theorem I8{i n:Nat}(h:i<n):0≤(i:Int)∧(i:Int).toNat<n:=by omega
theorem Nj{α:Type}[Inhabited α](a b:List α)(i:Nat)(h:i=a.length)(hb:0<b.length):(a++b).getD i bj=b[0]:=by
 subst h;rw [KR,NJ (Hm _),QU,Gl hb];rfl
end Dv
namespace Dv
open Go
def X4(x:Int×Int):List D:=[bh .i64 x.1,bh .i64 x.2]
def nz(xs:DK):Prop:=xs.length≤maxLen∧ ∀x∈xs,nQ x.1∧nQ x.2
def dX(xss:Ay):Prop:=xss.length≤maxLen∧ ∀xs∈xss,nz xs
section
variable {T:Tys} {t e a:ab} {d:D}
theorem tC{ds:List D}(he:T.ty e= .struct [a,a])(ha:T.ty a= .int .i64)(h:Shp T e ds): ∃x:Int×Int,ds=X4 x∧nQ x.1∧nQ x.2:=by
 obtain⟨hl,hx⟩:=Wx he h;rcases ds with _|⟨d0,_|⟨d1,_|⟨_,_⟩⟩⟩<;>simp at hl
 obtain⟨p,h0,hl0⟩:=dL ha (hx 0 a d0 rfl rfl);obtain⟨q,h1,hl1⟩:=dL ha (hx 1 a d1 rfl rfl);simp only [List.cons.injEq,and_true]at h0 h1;subst h0 h1
 exact⟨(p,q),rfl,hl0,hl1⟩
theorem oD{ds:List D}(ht:T.ty t= .slice e)(he:T.ty e= .struct [a,a])(ha:T.ty a= .int .i64)(h:Shp T t ds): ∃xs,ds=[.sl e (VU X4 xs)]∧nz xs:=by
 obtain⟨xss,rfl,hx,hl⟩:=UH ht h
 have: ∀xss:List (List D),(∀xs,xs∈xss→Shp T e xs)→ ∃ys,xss.flatten=VU X4 ys∧ys.length=xss.length∧ ∀y∈ys,nQ y.1∧nQ y.2:=by
  intro xss
  induction xss with
  |nil=>intro _;exact⟨[],rfl,rfl,by simp⟩
  |cons xs xss ih=>
   intro hx;obtain⟨n,rfl,hn⟩:=tC he ha (hx xs (Kq));obtain⟨ys,h1,h2,h3⟩:=ih (fun q hq=>hx q (JJ _ hq))
   refine⟨n::ys,by rw [bC,h1];rfl,by simp [h2],fun y hy=> ?_⟩
   rcases OP.1 hy with rfl|hy
   ·exact hn
   ·exact h3 y hy
 obtain⟨ys,h1,h2,h3⟩:=this xss hx
 exact⟨ys,by rw [h1],by omega,h3⟩
theorem kI{e2:ab}{ds:List D}(ht:T.ty t= .slice e)(he:T.ty e= .slice e2)(he2:T.ty e2= .struct [a,a])(ha:T.ty a= .int .i64)(h:Shp T t ds): ∃xss,ds=[.sl e (AR (fun x=> .sl e2 (VU X4 x)) xss)]∧dX xss:=by
 obtain⟨xss,rfl,hx,hl⟩:=UH ht h
 have: ∀xss:List (List D),(∀xs,xs∈xss→Shp T e xs)→ ∃ys,xss.flatten=AR (fun x=> .sl e2 (VU X4 x)) ys∧ys.length=xss.length∧ ∀y∈ys,nz y:=by
  intro xss
  induction xss with
  |nil=>intro _;exact⟨[],rfl,rfl,by simp⟩
  |cons xs xss ih=>
   intro hx;obtain⟨n,rfl,hn⟩:=oD he he2 ha (hx xs (Kq));obtain⟨ys,h1,h2,h3⟩:=ih (fun q hq=>hx q (JJ _ hq))
   refine⟨n::ys,by rw [bC,h1];rfl,by simp [h2],fun y hy=> ?_⟩
   rcases OP.1 hy with rfl|hy
   ·exact hn
   ·exact h3 y hy
 obtain⟨ys,h1,h2,h3⟩:=this xss hx
 exact⟨ys,by rw [h1],by omega,h3⟩
theorem dY{b c e2:ab}(ht:T.ty t= .struct [b,c,c])(hb:T.ty b= .slice e)(he:T.ty e= .slice e2)(he2:T.ty e2= .struct [a,a])(ha:T.ty a= .int .i64)(hc:T.ty c= .slice a)(h:Arg T t d):
  ∃es is js,d= .agg [.sl e (AR (fun x=> .sl e2 (VU X4 x)) es),.sl a (Hw is),.sl a (Hw js)]∧dX es∧A2F is∧A2F js:=by
 obtain⟨ds,rfl,hl,hx⟩:=jy ht h;rcases ds with _|⟨d0,_|⟨d1,_|⟨d2,_|⟨_,_⟩⟩⟩⟩<;>simp at hl
 obtain⟨es,h0,hl0⟩:=kI hb he he2 ha (hx 0 b d0 rfl rfl);obtain⟨is,h1,hl1⟩:=gF hc ha (hx 1 c d1 rfl rfl);obtain⟨js,h2,hl2⟩:=gF hc ha (hx 2 c d2 rfl rfl);simp only [List.cons.injEq,and_true]at h0 h1 h2;subst h0 h1 h2
 exact⟨es,is,js,rfl,hl0,hl1,hl2⟩
end
end Dv
