/- Value semantics for Go code, part 5: typed lists, loops as functions. Conditions: none beyond those in each lemma. -/
import Derived.Test.YtiehjihckndgkaaGreatL4
open Dv.D renaming int → bc
open Go renaming TypeId → ab
open Inhabited renaming default → be
open List renaming replicate → ap,range → ao
set_option linter.unusedSimpArgs false
set_option linter.unusedVariables false
namespace Dv
open Go
set_option maxRecDepth 10000
def ck{α:Type}(c:Prop)[Decidable c](o:Option α):Option α:=if c then o else none
section
variable {σ ρ:Type}
def yY(f:σ→Option (σ⊕ρ)):Nat→σ→Option ρ
 |0,_=>none
 |n+1,s=>
  match f s with
  |none=>none
  |some (.inl s')=>yY f n s'
  |some (.inr r)=>some r
open Classical in
noncomputable def E9(f:σ→Option (σ⊕ρ))(s:σ):Option ρ:=if h: ∃r n,yY f n s=some r then some h.choose else none
theorem vN{f:σ→Option (σ⊕ρ)}: ∀ {n m:Nat} {s:σ} {r:ρ},n≤m→yY f n s=some r→yY f m s=some r:=by
 intro n
 induction n with
 |zero=>intro m s r _ h;simp [yY]at h
 |succ n ih=>
  intro m s r hm h
  cases m with
  |zero=>omega
  |succ m=>
   simp only [yY]at h ⊢
   cases hs:f s with
   |none=>simp [hs]at h
   |some q=>
    cases q with
    |inl s'=>simp only [hs]at h ⊢;exact ih (by omega) h
    |inr r'=>simp only [hs]at h ⊢;exact h
theorem o7{f:σ→Option (σ⊕ρ)}{n:Nat}{s:σ}{r:ρ}(h:yY f n s=some r):E9 f s=some r:=by
 unfold E9;have hx: ∃r n,yY f n s=some r:=⟨r,n,h⟩;rw [dif_pos hx];obtain⟨n',h'⟩:=hx.choose_spec;have h1:=vN (Nat.le_max_left n n') h;have h2:=vN (Nat.le_max_right n n') h';rw [h1]at h2;exact h2.symm
theorem dP{f:σ→Option (σ⊕ρ)}{s:σ}{r:ρ}(h:E9 f s=some r): ∃n,yY f n s=some r:=by
 unfold E9 at h
 split at h
 ·rename_i hx
  simp only [Option.some.injEq]at h;subst h;exact hx.choose_spec
 ·cases h
theorem KC{f:σ→Option (σ⊕ρ)}{s s':σ}(h:f s=some (.inl s')):E9 f s=E9 f s':=by
 cases hi:E9 f s' with
 |some r=>
  obtain⟨n,hn⟩:=dP hi;exact o7 (n:=n+1) (by simp only [yY,h];exact hn)
 |none=>
  cases hj:E9 f s with
  |none=>rfl
  |some r=>
   obtain⟨n,hn⟩:=dP hj
   cases n with
   |zero=>simp [yY]at hn
   |succ n=>
    simp only [yY,h]at hn;rw [o7 hn]at hi;cases hi
theorem D5{f:σ→Option (σ⊕ρ)}{s:σ}{r:ρ}(h:f s=some (.inr r)):E9 f s=some r:=o7 (n:=1) (by simp [yY,h])
end
def A0F{σ ρ:Type}(M:σ→St→Prop)(X:ρ→Ex→St→Prop):σ⊕ρ→Ex→St→Prop
 | .inl v,.normal,s=>M v s
 | .inl _,_,_=>False
 | .inr _,.normal,_=>False
 | .inr r,ex,s=>X r ex s
theorem D6{σ ρ:Type}(M:σ→St→Prop)(X:ρ→Ex→St→Prop)(v:σ)(s:St):A0F M X (.inl v) .normal s=M v s:=nr rfl
theorem GH{σ ρ:Type}(M:σ→St→Prop)(X:ρ→Ex→St→Prop)(r:ρ)(j:Nat)(s:St):A0F M X (.inr r) (.exit j) s=X r (.exit j) s:=nr rfl
theorem OC{σ ρ:Type}(M:σ→St→Prop)(X:ρ→Ex→St→Prop)(r:ρ)(s:St):A0F M X (.inr r) .ret s=X r .ret s:=nr rfl
theorem Aw{E:Env}{c:SC}{σ ρ:Type}(f:σ→Option (σ⊕ρ))(M:σ→St→Prop)(X:ρ→Ex→St→Prop)
  (hstep: ∀v s o,M v s→f v=some o→BU E c (A0F M X o) s){v:σ}{s:St}{r:ρ}(h:E9 f v=some r)(hM:M v s):BU E (.loop c) (X r) s:=by
 obtain⟨n,hn⟩:=dP h
 induction n generalizing v s with
 |zero=>simp [yY]at hn
 |succ n ih=>
  simp only [yY]at hn
  cases hf:f v with
  |none=>simp [hf]at hn
  |some o=>
   obtain⟨ex,s1,h1,h2⟩:=hstep v s o hM hf
   cases o with
   |inl v'=>
    simp only [hf]at hn
    cases ex with
    |normal=>
     obtain⟨ex',s2,h3,h4⟩:=ih (o7 hn) h2 hn
     refine⟨ex',s2, ?_,h4⟩
     simp only [Ed]at h3 ⊢;rw [ni,h1];exact h3
    |exit id=>exact h2.elim
    |ret=>exact h2.elim
   |inr r'=>
    simp only [hf,Option.some.injEq]at hn;subst hn
    cases ex with
    |normal=>exact h2.elim
    |exit id=>exact⟨_,s1,by simp only [Ed];rw [ni,h1],h2⟩
    |ret=>exact⟨_,s1,by simp only [Ed];rw [ni,h1],h2⟩
def AR{α:Type}(c:α→D)(xs:List α):List D:=xs.map c
def jG{α:Type}(c:α→List D)(xs:List α):List D:=xs.flatMap c
section
variable {α:Type} (c:α→D)
theorem Um:AR c []=[]:=nr rfl
theorem JF(x:α)(xs:List α):AR c (x::xs)=c x::AR c xs:=nr rfl
theorem dQ(xs:List α):(AR c xs).length=xs.length:=by simp [AR]
theorem vO[Inhabited α](xs:List α)(i:Nat)(h:i<xs.length):(AR c xs).getD i .undef=c (xs.getD i be):=by
 simp [AR,Lh,h]
theorem ACh[Inhabited α](xs:List α)(i:Nat)(h:i<xs.length):(AR c xs)[i]? =some (c (xs.getD i be)):=by
 simp [AR,Lh,h]
theorem A0G(xs:List α)(i:Nat)(y:α):(AR c xs).set i (c y)=AR c (xs.set i y):=by simp [AR]
theorem yZ(xs ys:List α):AR c xs++AR c ys=AR c (xs++ys):=by simp [AR]
theorem A3m(xs:List α)(n:Nat):(AR c xs).take n=AR c (xs.take n):=by simp [AR]
theorem A3n(xs:List α)(n:Nat):(AR c xs).drop n=AR c (xs.drop n):=by simp [AR]
theorem dR(xs:List α)(h: ∀x,(c x).hasObj=false):Av (AR c xs)=false:=by
 induction xs with
 |nil=>rfl
 |cons x xs ih=>simp only [JF,Av,h,ih];rfl
theorem A70(xs:List α)(h: ∀x,ES (c x)=some (c x)):DC (AR c xs)=some (AR c xs):=by
 induction xs with
 |nil=>rfl
 |cons x xs ih=>simp only [JF,DC,h,ih];rfl
theorem A3o(c:α→List D)(c':α→List D)(e:ab)(xs:List α)(h: ∀x,DC (c x)=some (c' x)):DC (AR (fun x=>D.own e (c x)) xs)=some (AR (fun x=>D.sl e (c' x)) xs):=by
 induction xs with
 |nil=>rfl
 |cons x xs ih=>simp only [JF,DC,ES,h,ih];rfl
theorem A1j(xs:List α)(h: ∀x,Ez (c x)=false):ET (AR c xs)=false:=by
 induction xs with
 |nil=>rfl
 |cons x xs ih=>simp only [JF,ET,h,ih];rfl
theorem lY(xs:List α)(h: ∀x,DD (c x)=true):(AR c xs).all DD=true:=by simp [AR,h]
end
section
variable {α:Type} (c:α→List D) (n:Nat)
theorem A0H:jG c []=[]:=nr rfl
theorem Tz(x:α)(xs:List α):jG c (x::xs)=c x++jG c xs:=nr rfl
theorem dS(xs ys:List α):jG c xs++jG c ys=jG c (xs++ys):=by simp [jG]
theorem dU(h: ∀x,(c x).length=n)(xs:List α):(jG c xs).length=xs.length*n:=by
 induction xs with
 |nil=>simp [A0H]
 |cons x xs ih=>simp only [Tz,Ol,h,ih,KL,Nat.succ_mul];omega
theorem vP(h: ∀x,(c x).length=n)(xs:List α): ∀(i:Nat),(jG c xs).drop (i*n)=jG c (xs.drop i):=by
 induction xs with
 |nil=>intro i;simp [A0H]
 |cons x xs ih=>
  intro i
  cases i with
  |zero=>simp
  |succ i=>
   rw [Tz,List.drop_append,List.drop_succ_cons,←ih i,h,Nat.succ_mul];have e1:(c x).drop (i*n+n)=[]:=List.drop_eq_nil_of_le (by rw [h];omega)
   rw [e1,Nat.add_sub_cancel];rfl
theorem yc(xs:List α)(h: ∀x,Av (c x)=false):Av (jG c xs)=false:=by
 have app: ∀(as bs:List D),Av (as++bs)=(Av as||Av bs):=by
  intro as bs
  induction as with
  |nil=>simp [Av]
  |cons a as ih=>simp [Av,ih,Bool.or_assoc]
 induction xs with
 |nil=>rfl
 |cons x xs ih=>rw [Tz,app,h,ih];rfl
theorem vQ: ∀(as bs as' bs':List D),DC as=some as'→DC bs=some bs'→DC (as++bs)=some (as'++bs'):=by
 intro as
 induction as with
 |nil=>intro bs as' bs' h1 h2;simp [DC]at h1;subst h1;simpa using h2
 |cons a as ih=>
  intro bs as' bs' h1 h2;simp only [DC,KI,Cu]at h1;obtain⟨a',ha,as1,has,rfl⟩:=h1;simp only [Xp,DC,ha,ih _ _ _ has h2];rfl
theorem A0I(xs:List α)(h: ∀x,DC (c x)=some (c x)):DC (jG c xs)=some (jG c xs):=by
 induction xs with
 |nil=>rfl
 |cons x xs ih=>rw [Tz];exact vQ _ _ _ _ (h x) ih
theorem jb(as bs:List D):ET (as++bs)=(ET as||ET bs):=by
 induction as with
 |nil=>simp [ET]
 |cons a as ih=>simp [ET,ih,Bool.or_assoc]
theorem lZ(xs:List α)(h: ∀x,ET (c x)=false):ET (jG c xs)=false:=by
 induction xs with
 |nil=>rfl
 |cons x xs ih=>rw [Tz,jb,h,ih];rfl
end
def spl{α:Type}:List α→Nat→List α→List α
 |xs,_,[]=>xs
 |xs,c,y::ys=>spl (xs.set c y) (c+1) ys
theorem yf{α:Type}(c:α→D): ∀(ys xs:List α) (n:Nat),CS (AR c xs) n (AR c ys)=AR c (spl xs n ys):=by
 intro ys
 induction ys with
 |nil=>intro xs n;cases xs<;>rfl
 |cons y ys ih=>
  intro xs n
  have h1:CS (AR c xs) n (AR c (y::ys))=CS ((AR c xs).set n (c y)) (n+1) (AR c ys):=by
   rw [JF];cases AR c xs<;>rfl
  rw [h1,A0G,ih];rfl
theorem yg{α:Type}: ∀(ys xs:List α) (n:Nat),n+ys.length≤xs.length→spl xs n ys=xs.take n++(ys++xs.drop (n+ys.length)):=by
 intro ys
 induction ys with
 |nil=>intro xs n _;simp [spl]
 |cons y ys ih=>
  intro xs n h;simp only [KL]at h;unfold spl;rw [ih (xs.set n y) (n+1) (by simp;omega)]
  have h1:(xs.set n y).take (n+1)=xs.take n++[y]:=by
   rw [mV (by simp;omega),tV,List.take_set_of_le (Ch _)]
  rw [h1,List.drop_set_of_lt (by omega),KL,show n+1+ys.length=n+(ys.length+1) by omega,NV];rfl
theorem Ag{α β:Type}{o:Option α}{f:α→Option β}{r:β}(h:o.bind f=some r): ∃a,o=some a∧f a=some r:=by
 cases o with
 |none=>cases h
 |some a=>exact⟨a,rfl,h⟩
theorem De{α:Type}{c:Prop}[Decidable c]{o:Option α}{r:α}(h:ck c o=some r):c∧o=some r:=by
 unfold ck at h
 split at h
 ·rename_i hc;exact⟨hc,h⟩
 ·cases h
section
variable {α:Type} (c:α→D)
theorem iS{α:Type}{c:Prop}[Decidable c]{a b:Option α}{r:α}(h:(if c then a else b)=some r):(c∧a=some r)∨(¬c∧b=some r):=by
 by_cases hc:c
 ·rw [if_pos hc]at h;exact .inl ⟨hc,h⟩
 ·rw [if_neg hc]at h;exact .inr ⟨hc,h⟩
theorem EC{α:Type}{c d:Prop}[Decidable c][Decidable d]{o:Option α}{r:α}(h:ck c (ck d o)=some r):c∧d∧o=some r:=⟨(De h).1,De (De h).2⟩
theorem Om{α:Type}{c d e:Prop}[Decidable c][Decidable d][Decidable e]{o:Option α}{r:α}(h:ck c (ck d (ck e o))=some r):c∧d∧e∧o=some r:=⟨(De h).1,EC (De h).2⟩
theorem vR{α:Type}{c d e f:Prop}[Decidable c][Decidable d][Decidable e][Decidable f]{o:Option α}{r:α}(h:ck c (ck d (ck e (ck f o)))=some r):c∧d∧e∧f∧o=some r:=⟨(De h).1,Om (De h).2⟩
theorem A1k(xs:List α)(y:α)(ds:List D):AR c xs++(c y::ds)=AR c (xs++[y])++ds:=by simp [AR]
theorem A3p(c:α→List D)(e:ab)(xs:List α)(h: ∀x,DC (c x)=some (c x)):DC (AR (fun x=>D.own e (c x)) xs)=some (AR (fun x=>D.sl e (c x)) xs):=A3o c c e xs h
def Zb(c:α→D):Option α→D
 |some a=>c a
 |none=> .undef
theorem A0J(xs:List α):AR (Zb c) (xs.map some)=AR c xs:=by simp [AR,Function.comp_def,Zb]
theorem dV(xs:List (Option α))(n:Nat):(AR (Zb c) xs).set n .undef=AR (Zb c) (xs.set n none):=by simp [AR,List.map_set,Zb]
theorem A3q(xs:List (Option α))(n:Nat)(y:α):(AR (Zb c) xs).set n (c y)=AR (Zb c) (xs.set n (some y)):=by simp [AR,List.map_set,Zb]
theorem A3r(xs:List α):(xs.map some).length=xs.length:=by simp
theorem vS(xs:List α)(n:Nat):(AR c xs).set n .undef=AR (Zb c) ((xs.map some).set n none):=by rw [←dV,A0J]
theorem A72(xs:List (Option α))(n:Nat):AR (Zb (Zb c)) ((xs.map some).set n none)=AR (Zb c) (xs.set n none):=by rw [←vS,dV]
theorem A3s(xs:List α)(n:Nat)(y:α):(xs.map some).set n (some y)=(xs.set n y).map some:=List.map_set.symm
theorem A73(n:Nat)(k:IntKind)(x:Int):ap n (bc k x)=AR (bc k) (ap n x):=by simp [AR]
theorem A74(n:Nat)(e:ab):ap n (D.own e [])=AR (fun x=>D.own e (AR (bc .i64) x)) (ap n []):=by simp [AR]
theorem A3t(n:Nat)(x:Bool):ap n (D.bool x)=AR D.bool (ap n x):=by simp [AR]
variable [Inhabited α] {T:Tys}
theorem APk(e:ab)(n:Int)(xs:List α)(hk:T.known e=true)(hz:T.size e=1)(hn:0≤n∧n.toNat<xs.length):at1 T e n (some (e,AR c xs,none))=some (.cptr [c (xs.getD n.toNat be)]):=by
 rw [ANJ e n (AR c xs) hk hz (by simpa [AR] using hn),vO c xs _ hn.2]
end
theorem APl:(true==false)=false:=nr rfl
theorem APm:(false==true)=false:=nr rfl
theorem APn{s:St}(dst:Option Tmp)(u:Tmp)(i:Nat)(L:AQ)(n m:Nat):xy s dst u i (some (.vw L n m))=some (s.putO dst (.vw L n m)):=by simp [xy,Dy,K3,D.hasObj,OA]
theorem vT{α:Type}(c:α→List D)(e:ab)(xs:List α):Av (AR (fun x=>D.own e (c x)) xs)= !xs.isEmpty:=by
 cases xs with
 |nil=>rfl
 |cons x xs=>simp [JF,Av,D.hasObj]
section
variable {pm:Pm} {s:St} {dst:Option Tmp}
end
def BH(xs:Fv)(n:Nat):Int:=(xs.getD n be).1
def Bj(xs:Fv)(n:Nat):Int:=(xs.getD n be).2
def Aj(k l:IntKind)(xs:Fv):List D:=jG (fun x=>[bc k x.1,bc l x.2]) xs
theorem Ay(k l:IntKind):Aj k l []=[]:=nr rfl
theorem RS(k l:IntKind)(x:Int×Int)(xs:Fv):Aj k l (x::xs)=bc k x.1::bc l x.2::Aj k l xs:=nr rfl
theorem U0(k l:IntKind)(xs:Fv):(Aj k l xs).length=xs.length*2:=dU _ 2 (fun _=>rfl) xs
theorem lg(k l:IntKind)(v:Int): ∀(xs:Fv) (n:Nat),n<xs.length→(Aj k l xs).set (n*2) (bc k v)=Aj k l (xs.set n (v,Bj xs n)):=by
 intro xs
 induction xs with
 |nil=>intro n h;simp at h
 |cons x xs ih=>
  intro n h
  cases n with
  |zero=>rfl
  |succ n=>
   have:=ih n (by simpa using h)
   rw [RS,Nat.succ_mul,mY,mY,mY,this,RS];rfl
theorem lh(k l:IntKind)(v:Int): ∀(xs:Fv) (n:Nat),n<xs.length→(Aj k l xs).set (n*2+1) (bc l v)=Aj k l (xs.set n (BH xs n,v)):=by
 intro xs
 induction xs with
 |nil=>intro n h;simp at h
 |cons x xs ih=>
  intro n h
  cases n with
  |zero=>rfl
  |succ n=>
   have:=ih n (by simpa using h)
   rw [RS,Nat.succ_mul,show n*2+2+1=n*2+1+1+1 by omega,mY,mY,mY,this,RS];rfl
theorem A1l(k l:IntKind)(xs:Fv)(a b:Int):Aj k l xs++[bc k a,bc l b]=Aj k l (xs++[(a,b)]):=dS _ xs [(a,b)]
theorem yh(k l:IntKind)(xs:Fv)(a b:Int)(ds:List D):Aj k l xs++(bc k a::bc l b::ds)=Aj k l (xs++[(a,b)])++ds:=by
 rw [←A1l,NV];rfl
theorem A1m(k l:IntKind)(xs:Fv)(n:Nat):(Aj k l xs).drop (n*2)=Aj k l (xs.drop n):=vP _ 2 (fun _=>rfl) xs n
theorem ZB(k l:IntKind)(xs:Fv):Av (Aj k l xs)=false:=yc _ xs (fun _=>by simp [Av,D.hasObj])
theorem A3u(k l:IntKind)(xs:Fv):DC (Aj k l xs)=some (Aj k l xs):=A0I _ xs (fun _=>rfl)
theorem yj(k l:IntKind)(xs:Fv):ET (Aj k l xs)=false:=lZ _ xs (fun _=>rfl)
theorem A3v(k l:IntKind)(n:Nat)(a b:Int):(ap n [bc k a,bc l b]).flatten=Aj k l (ap n (a,b)):=by
 simp [Aj,jG,List.flatMap_def]
def q4a(xs:List (Int×Int×Int×Int))(n:Nat):Int:=(xs.getD n be).1
def q4b(xs:List (Int×Int×Int×Int))(n:Nat):Int:=(xs.getD n be).2.1
def q4c(xs:List (Int×Int×Int×Int))(n:Nat):Int:=(xs.getD n be).2.2.1
def q4d(xs:List (Int×Int×Int×Int))(n:Nat):Int:=(xs.getD n be).2.2.2
def Oo(xs:List (Int×Int×Int×Int)):List D:=jG (fun x=>[bc .i64 x.1,bc .i64 x.2.1,bc .i64 x.2.2.1,bc .i64 x.2.2.2]) xs
theorem A1n(x:Int×Int×Int×Int)(xs:List (Int×Int×Int×Int)):Oo (x::xs)=bc .i64 x.1::bc .i64 x.2.1::bc .i64 x.2.2.1::bc .i64 x.2.2.2::Oo xs:=nr rfl
theorem ZC(xs:List (Int×Int×Int×Int)):(Oo xs).length=xs.length*4:=dU _ 4 (fun _=>rfl) xs
theorem A1o(xs:List (Int×Int×Int×Int))(a b c d:Int):Oo xs++[bc .i64 a,bc .i64 b,bc .i64 c,bc .i64 d]=Oo (xs++[(a,b,c,d)]):=dS _ xs [(a,b,c,d)]
theorem yl(xs:List (Int×Int×Int×Int))(a b c d:Int)(ds:List D):Oo xs++(bc .i64 a::bc .i64 b::bc .i64 c::bc .i64 d::ds)=Oo (xs++[(a,b,c,d)])++ds:=by
 rw [←A1o,NV];rfl
theorem A1p(xs:List (Int×Int×Int×Int))(n:Nat):(Oo xs).drop (n*4)=Oo (xs.drop n):=vP _ 4 (fun _=>rfl) xs n
theorem A3w(xs:List (Int×Int×Int×Int)):DC (Oo xs)=some (Oo xs):=A0I _ xs (fun _=>rfl)
theorem ym(xs:List (Int×Int×Int×Int)):ET (Oo xs)=false:=lZ _ xs (fun _=>rfl)
theorem A8J{T:Tys}(e:ab)(xs:List (Int×Int×Int×Int))(h:T.size e=4):T.len e (Oo xs)=xs.length:=by
 unfold Tys.len;rw [h,if_neg (by decide),ZC,Nat.mul_div_cancel _ (by decide)]
theorem APo{T:Tys}(e:ab)(n:Int)(xs:List (Int×Int×Int×Int))(hk:T.known e=true)(hz:T.size e=4)(hn:0≤n∧n.toNat<xs.length):at1 T e n (some (e,Oo xs,none))=some (.cptr [bc .i64 (q4a xs n.toNat),bc .i64 (q4b xs n.toNat),bc .i64 (q4c xs n.toNat),bc .i64 (q4d xs n.toNat)]):=by
 simp only [at1,hk,A8J e xs hz];rw [if_pos ⟨trivial,trivial,hn.1,hn.2⟩,hz,A1p,ZN hn.2,A1n];unfold q4a q4b q4c q4d;rw [Lh,Kk hn.2];rfl
section
variable {T:Tys} {pm:Pm} {s:St} {t:ab}
theorem A3x(k l:IntKind)(e:ab)(xs:Fv)(h:T.size e=2):T.len e (Aj k l xs)=xs.length:=by
 unfold Tys.len;rw [h,if_neg (by decide),U0,Nat.mul_div_cancel _ (by decide)]
theorem APp(k l:IntKind)(e:ab)(n:Int)(xs:Fv)(hk:T.known e=true)(hz:T.size e=2)(hn:0≤n∧n.toNat<xs.length):at1 T e n (some (e,Aj k l xs,none))=some (.cptr [bc k (BH xs n.toNat),bc l (Bj xs n.toNat)]):=by
 simp only [at1,hk,A3x k l e xs hz];rw [if_pos ⟨trivial,trivial,hn.1,hn.2⟩,hz,A1m,ZN hn.2,RS];unfold BH Bj;rw [Lh,Kk hn.2];rfl
theorem APq(k l:IntKind)(e:ab)(n:Int)(xs:Fv)(L:AQ)(a b:Nat)(hk:T.known e=true)(hz:T.size e=2)(hn:0≤n∧n.toNat<xs.length):at1 T e n (some (e,Aj k l xs,some (L,a,b)))=some (.pe L (n.toNat*2) a b):=by
 simp only [at1,hk,A3x k l e xs hz];rw [if_pos ⟨trivial,trivial,hn.1,hn.2⟩,hz]
def sq1(T:Tys)(pm:Pm)(t:ab)(u:Tmp)(a b:D)(s:St):Option D→Nat→AQ→Option St
 |some (.own e xs),c,L=>if T.known t&&T.isStruct t&&pm.wr (L.headD 0)&&DD a&&DD b&&(T.size t==2)&&decide (c+2≤xs.length)&& !a.hasObj&& !b.hasObj&& !Av xs then some (s.set L (.own e ((xs.set c a).set (c+1) b)))else tJ T pm t (.tmp u) (some (.agg [a,b],s))
 |_,_,_=>tJ T pm t (.tmp u) (some (.agg [a,b],s))
theorem APr(u:Tmp)(a b:D)(L:AQ)(c n m:Nat)(h:s.v u= .pe L c n m):tJ T pm t (.tmp u) (some (.agg [a,b],s))=sq1 T pm t u a b s (s.look pm L n m) c L:=by
 cases hl:s.look pm L n m with
 |none=>rfl
 |some o=>
  cases o<;>try rfl
  rename_i e xs
  simp only [sq1];split
  ·rename_i hc
   simp only [En,beq_iff_eq,decide_eq_true_eq,NP]at hc;obtain⟨⟨⟨⟨⟨⟨⟨⟨⟨hk,hs⟩,hw⟩,ha⟩,hb⟩,hz⟩,hl2⟩,ha2⟩,hb2⟩,hx2⟩:=hc;simp only [tJ,ev,h,K8,hl,D.asCells,D.isAgg,D.cells,D.withCells,hk,hs,hw,hz,Xq,ha,hb,List.all_nil,Bool.and_self,KL,R8,beq_self_eq_true,SA,D.hasObj,Av,ha2,hb2,hx2,Bool.or_self,O5,if_false,CS];rw [if_pos (by simpa using hl2)]
  ·rfl
theorem APs(u:Tmp)(a b:D)(L:AQ)(c n m:Nat)(h:s.v u= .pe L c n m):sw1 T pm t u [a,b] s (.pe L c n m)=sq1 T pm t u a b s (s.look pm L n m) c L:=by
 rw [←APr u a b L c n m h];rfl
theorem yn(k l:IntKind)(xs:Fv)(n:Nat)(a b:Int)(h:n<xs.length):((Aj k l xs).set (n*2) (bc k a)).set (n*2+1) (bc l b)=Aj k l (xs.set n (a,b)):=by
 rw [lg k l a xs n h,lh k l b _ n (by simpa using h),List.set_set]
 congr 2
 simp [BH,Lh,h]
theorem APt(k l:IntKind)(u:Tmp)(a b:Int)(L:AQ)(e:ab)(n:Nat)(xs:Fv)(hk:T.known t=true)(hs:T.isStruct t=true)(hw:pm.wr (L.headD 0)=true)(hz:T.size t=2)(h:n<xs.length):
  sq1 T pm t u (.int k a) (.int l b) s (some (.own e (Aj k l xs))) (n*2) L=some (s.set L (.own e (Aj k l (xs.set n (a,b))))):=by
 simp only [sq1];rw [if_pos,yn k l xs n a b h];simp only [hk,hs,hw,hz,DD,U0,ZB,D.hasObj,En,decide_eq_true_eq,beq_self_eq_true,Bool.not_false,and_true,true_and];omega
end
set_option linter.defProp false
def ACi:=A7 @APn (A7 @yf (A7 @vT (A7 @APk (A7 @dQ (A7 @ACh (A7 @vO (A7 @A0G (A7 @yZ (A7 @A1k (A7 @A3m (A7 @A3n (A7 @dR (A7 @A70 (A7 @A3p (A7 @A1j (A7 @lY (A7 @A74 (A7 @A0J (A7 @A3r (A7 @vS (A7 @A3s (A7 (A7 @A72 @dV) (A7 @A3q (A7 @A73 (A7 @A3t (A7 @APl @APm))))))))))))))))))))))))))
theorem tk2(a b:D)(l:List D):List.take 2 (a::b::l)=[a,b]:=nr rfl
theorem tk4(a b c d:D)(l:List D):List.take 4 (a::b::c::d::l)=[a,b,c,d]:=nr rfl
theorem tk7(a b c d e f g:D)(l:List D):List.take 7 (a::b::c::d::e::f::g::l)=[a,b,c,d,e,f,g]:=nr rfl
theorem dr0(l:List D):List.drop 0 l=l:=nr rfl
theorem dr1(a:D)(l:List D):List.drop 1 (a::l)=l:=nr rfl
theorem dr4(a0 a1 a2 a3:D)(l:List D):List.drop 4 (a0::a1::a2::a3::l)=l:=nr rfl
theorem dr7(a0 a1 a2 a3 a4 a5 a6:D)(l:List D):List.drop 7 (a0::a1::a2::a3::a4::a5::a6::l)=l:=nr rfl
theorem AHw{n m:Nat}(h:n<m):n*2<m*2:=by omega
theorem AHx{n m:Nat}(h:n<m):n*2+1<m*2:=by omega
def xc2:=A7 @Nat.add_zero (A7 @ZC (A7 @yl (A7 @A3w (A7 @ym (A7 @A8J (A7 @APo (A7 @U0 (A7 @yh (A7 @ZB (A7 @A3u (A7 @yj (A7 @A3v (A7 @A3x (A7 @APp (A7 @APq (A7 @APs (A7 @tk2 (A7 @tk7 (A7 @tk4 (A7 @dr0 (A7 @dr1 (A7 @dr4 (A7 @dr7 (A7 @AHw (A7 @AHx (A7 @lg (A7 @lh (A7 @List.length_set.{0} (@APt)))))))))))))))))))))))))))))
def Cv:=A7 @implies_true.{1} (A7 @Option.bind_some.{0,0} (A7 @Option.map_some.{0,0} (A7 @Option.isSome_some.{0} (A7 @List.contains_cons.{0} (A7 @List.contains_nil.{0} (A7 @List.getD_cons_zero.{0} (A7 @List.getD_cons_succ.{0} (A7 @List.getD_nil.{0} (A7 @List.length_cons.{0} (A7 @List.length_nil.{0} (A7 @List.size_toArray.{0} (A7 @List.toList_toArray.{0} (A7 @List.zip_cons_cons.{0,0} (A7 @List.zip_nil_left.{0,0} (A7 @List.append_nil.{0} (A7 @List.nil_append.{0} (A7 @List.cons_append.{0} (A7 @List.map_cons.{0,0} (A7 @List.map_nil.{0,0} (A7 @List.replicate_succ.{0} (A7 @List.replicate_zero.{0} (A7 @List.set_cons_zero.{0} (A7 @List.set_cons_succ.{0} (A7 @List.set_set.{0} (A7 @List.all_cons.{0} (A7 @List.any_cons.{0} (A7 @List.any_nil.{0} (A7 @List.all_nil.{0} (A7 @List.getElem?_cons_zero.{0} (A7 @List.getElem?_cons_succ.{0} (A7 @List.getElem?_nil.{0} (@beq_self_eq_true.{0}))))))))))))))))))))))))))))))))
end Dv
namespace Dv
open Go
section
variable {σ ρ α β:Type}
theorem CO(f:σ→Option (σ⊕ρ))(st:Nat→σ): ∀(n:Nat) (r:ρ),(∀i,i<n→f (st i)=some (.inl (st (i+1))))→f (st n)=some (.inr r)→E9 f (st 0)=some r:=by
 intro n r h e
 have key: ∀k,k≤n→E9 f (st (n-k))=some r:=by
  intro k
  induction k with
  |zero=>intro _;exact D5 e
  |succ k ih=>
   intro hk;have h1:=h (n-(k+1)) (by omega)
   rw [KC h1,show n-(k+1)+1=n-k by omega]
   exact ih (by omega)
 have:=key n (Ch _)
 rwa [Xt]at this
theorem QY(f:σ→Option (σ⊕ρ))(I:Nat→σ→Prop)(Q:ρ→Prop)(step: ∀n s,I n s→(∃s' m,f s=some (.inl s')∧m<n∧I m s')∨(∃r,f s=some (.inr r)∧Q r)):
  ∀(n:Nat) (s:σ),I n s→ ∃r,E9 f s=some r∧Q r:=by
 intro n
 induction n using Nat.strongRecOn with
 |_ n ih=>
  intro s hI;rcases step n s hI with⟨s',m,h1,h2,h3⟩|⟨r,h1,h2⟩
  ·rw [KC h1];exact ih m h2 s' h3
  ·exact⟨r,D5 h1,h2⟩
theorem JG(f:σ→Option (σ⊕ρ))(mk:Nat→β→σ)(P:Nat→β→Prop)(xs:List α)(g:β→α→β)(fin:β→ρ)
  (h: ∀(i:Nat) (b:β) (hi:i<xs.length),P i b→f (mk i b)=some (.inl (mk (i+1) (g b xs[i])))∧P (i+1) (g b xs[i]))
  (e: ∀b,P xs.length b→f (mk xs.length b)=some (.inr (fin b)))(b0:β)(h0:P 0 b0):E9 f (mk 0 b0)=some (fin (xs.foldl g b0))∧P xs.length (xs.foldl g b0):=by
 have key: ∀(k:Nat) (b:β),k≤xs.length→P (xs.length-k) b→E9 f (mk (xs.length-k) b)=some (fin ((xs.drop (xs.length-k)).foldl g b))∧P xs.length ((xs.drop (xs.length-k)).foldl g b):=by
  intro k
  induction k with
  |zero=>intro b _ hp;simp only [Nat.sub_zero,List.drop_length,List.foldl_nil]at hp ⊢;exact⟨D5 (e b hp),hp⟩
  |succ k ih=>
   intro b hk hp;have hl:xs.length-(k+1)<xs.length:=by omega
   obtain⟨h1,h2⟩:=h (xs.length-(k+1)) b hl hp;rw [ZN hl,Ve,KC h1];have e1:xs.length-(k+1)+1=xs.length-k:=by omega
   rw [e1]at h2 ⊢;exact ih _ (by omega) h2
 have:=key xs.length b0 (Ch _) (by rwa [Xt])
 rwa [Xt,WK]at this
end
theorem SV{n:Nat}{P:Nat→Bool}(h: ¬ ∀i,i<n→P i=true): ∃m,m<n∧P m=false∧ ∀i,i<m→P i=true:=by
 induction n with
 |zero=>exact absurd (fun i hi=>absurd hi (Nat.not_lt_zero _)) h
 |succ n ih=>
  by_cases hn: ∀i,i<n→P i=true
  ·refine⟨n,Nat.lt_succ_self _, ?_,hn⟩
   cases hp:P n with
   |false=>rfl
   |true=>exact absurd (fun i hi=>by rcases Nat.lt_succ_iff_lt_or_eq.1 hi with h1|rfl;exact hn i h1;exact hp) h
  ·obtain⟨m,h1,h2,h3⟩:=ih hn
   exact⟨m,by omega,h2,h3⟩
theorem Cc{n:Nat}{P:Nat→Bool}:(ao n).all P=true↔ ∀i,i<n→P i=true:=by
 simp [KJ]
theorem vU{σ ρ:Type}(f:σ→Option (σ⊕ρ))(st:Nat→σ)(n:Nat)(P:Nat→Bool)(bad good:ρ)
  (h: ∀i,i<n→(∀j,j<i→P j=true)→f (st i)=if P i=true then some (.inl (st (i+1)))else some (.inr bad))(e:(∀j,j<n→P j=true)→f (st n)=some (.inr good)):E9 f (st 0)=some (if(ao n).all P=true then good else bad):=by
 by_cases hp: ∀i,i<n→P i=true
 ·rw [if_pos (Cc.2 hp)];refine CO f st n good (fun i hi=> ?_) (e hp);rw [h i hi (fun j hj=>hp j (by omega)),if_pos (hp i hi)]
 ·rw [if_neg (fun hc=>hp (Cc.1 hc))];obtain⟨m,h1,h2,h3⟩:=SV hp;refine CO f st m bad (fun i hi=> ?_) ?_
  ·rw [h i (by omega) (fun j hj=>h3 j (by omega)),if_pos (h3 i hi)]
  ·rw [h m h1 h3,h2];rfl
theorem Df{σ ρ:Type}(f:σ→Option (σ⊕ρ))(st:Nat→σ)(n:Nat)(P:Nat→Bool)(bad good:ρ)
  (h: ∀i,i<n→f (st i)=if P i=true then some (.inl (st (i+1)))else some (.inr bad))(e:f (st n)=some (.inr good)):E9 f (st 0)=some (if(ao n).all P=true then good else bad):=
 vU f st n P bad good (fun i hi _=>h i hi) (fun _=>e)
theorem RU{α:Type}[Inhabited α](p:α→Bool)(xs:List α):(ao xs.length).all (fun i=>p (xs.getD i be))=xs.all p:=by
 rw [S9,Cc,KJ]
 constructor
 ·intro h x hx;obtain⟨i,hi,rfl⟩:=V6 hx;have:=h i hi
  rwa [Lh,Kk hi]at this
 ·intro h i hi;rw [Lh,Kk hi];exact h _ (O6 hi)
theorem U1{α:Type}[DecidableEq α][Inhabited α](a b:List α)(hl:a.length=b.length):(ao a.length).all (fun i=>decide (a.getD i be=b.getD i be))=decide (a=b):=by
 by_cases he:a=b
 ·subst he;simp
 ·rw [decide_eq_false he,Es];intro hc;rw [Cc]at hc;refine he (Vb hl fun i h1 h2=> ?_);have:=hc i h1
  rw [Lh,Lh,Kk h1,Kk h2]at this;simpa using this
theorem vV{α γ:Type}(f:List γ×Int→Option ((List γ×Int)⊕List γ))(xs:List α)(g:α→γ)(z:γ)
  (h: ∀(i:Nat) (hi:i<xs.length) (out:List γ),out.length=xs.length→f (out,(i:Int))=some (.inl (out.set i (g xs[i]),((i+1:Nat):Int))))
  (e: ∀out:List γ,out.length=xs.length→f (out,(xs.length:Int))=some (.inr out)):E9 f (ap xs.length z,0)=some (xs.map g):=by
 have key:=CO f (fun i=>((xs.take i).map g++ap (xs.length-i) z,(i:Int))) xs.length (xs.map g) ?_ ?_
 ·simpa using key
 ·intro i hi;have:=h i hi ((xs.take i).map g++ap (xs.length-i) z) (by simp;omega)
  rw [this];have e1:xs.length-i=(xs.length-(i+1))+1:=by omega
  have e2:i-((xs.take i).map g).length=0:=by simp;omega
  rw [e1,tX,mX _ _ (by simp;omega),e2,tY,mV hi,List.map_append,NV];rfl
 ·simp only [List.take_length,Xt,List.replicate_zero,V8];exact e _ (by simp)
theorem Wx{α γ:Type}(f:List γ×Int→Option ((List γ×Int)⊕List γ))(xs:List α)(g:α→γ)
  (h: ∀(i:Nat) (hi:i<xs.length) (out:List γ),out.length=i→f (out,(i:Int))=some (.inl (out++[g xs[i]],((i+1:Nat):Int))))
  (e: ∀out:List γ,out.length=xs.length→f (out,(xs.length:Int))=some (.inr out)):E9 f ([],0)=some (xs.map g):=by
 have key:=CO f (fun i=>((xs.take i).map g,(i:Int))) xs.length (xs.map g) ?_ ?_
 ·simpa using key
 ·intro i hi;have:=h i hi ((xs.take i).map g) (by simp;omega)
  rw [this,mV hi,List.map_append];rfl
 ·simp only [List.take_length];exact e _ (by simp)
theorem Gf(i:Nat)(h:i<4611686018427387904):IntKind.i64.wrap ((i:Int)+1)=((i+1:Nat):Int):=by
 rw [Ib _ (by omega)];rfl
theorem Ad{α:Type}[Inhabited α](xs:List α)(i:Nat)(h:i<xs.length):xs.getD i be=xs[i]:=by
 rw [Lh,Kk h];rfl
theorem GI{α:Type}[Inhabited α](xs:List α)(i:Nat)(h:i<xs.length):xs.getD (i:Int).toNat be=xs[i]:=by
 rw [Cg];exact Ad xs i h
theorem BC{α:Type}{c:Prop}[Decidable c]{o:Option α}(h:c):ck c o=o:=if_pos h
theorem BX{i n:Nat}(h:i<n):(i:Int)<(n:Int):=by omega
theorem Am(n:Nat): ¬(n:Int)<(n:Int):=by omega
theorem Dl{i n:Nat}(h:i<n):0≤(i:Int)∧(i:Int).toNat<n:=by omega
theorem EX{α:Type}[Inhabited α](a b:List α)(i:Nat)(h:i=a.length)(hb:0<b.length):(a++b).getD i be=b[0]:=by
 subst h;rw [Lh,TE (Ch _),Xt,Kk hb];rfl
end Dv
namespace Dv
open Go
def lm(x:Int×Int):List D:=[bc .i64 x.1,bc .i64 x.2]
def A3y(xs:Fv):Prop:=xs.length≤maxLen∧ ∀x∈xs,I64 x.1∧I64 x.2
def yo(xss:Ac):Prop:=xss.length≤maxLen∧ ∀xs∈xss,A3y xs
section
variable {T:Tys} {t e a:ab} {d:D}
theorem A75{ds:List D}(he:T.ty e= .struct [a,a])(ha:T.ty a= .int .i64)(h:Shp T e ds): ∃x:Int×Int,ds=lm x∧I64 x.1∧I64 x.2:=by
 obtain⟨hl,hx⟩:=lW he h;rcases ds with _|⟨d0,_|⟨d1,_|⟨_,_⟩⟩⟩<;>simp at hl
 obtain⟨p,h0,hl0⟩:=dO ha (hx 0 a d0 rfl rfl);obtain⟨q,h1,hl1⟩:=dO ha (hx 1 a d1 rfl rfl);simp only [List.cons.injEq,and_true]at h0 h1;subst h0 h1
 exact⟨(p,q),rfl,hl0,hl1⟩
theorem A3z{ds:List D}(ht:T.ty t= .slice e)(he:T.ty e= .struct [a,a])(ha:T.ty a= .int .i64)(h:Shp T t ds): ∃xs,ds=[.sl e (jG lm xs)]∧A3y xs:=by
 obtain⟨xss,rfl,hx,hl⟩:=Ww ht h
 have: ∀xss:List (List D),(∀xs,xs∈xss→Shp T e xs)→ ∃ys,xss.flatten=jG lm ys∧ys.length=xss.length∧ ∀y∈ys,I64 y.1∧I64 y.2:=by
  intro xss
  induction xss with
  |nil=>intro _;exact⟨[],rfl,rfl,by simp⟩
  |cons xs xss ih=>
   intro hx;obtain⟨n,rfl,hn⟩:=A75 he ha (hx xs (Ia));obtain⟨ys,h1,h2,h3⟩:=ih (fun q hq=>hx q (QL _ hq))
   refine⟨n::ys,by rw [tZ,h1];rfl,by simp [h2],fun y hy=> ?_⟩
   rcases TF.1 hy with rfl|hy
   ·exact hn
   ·exact h3 y hy
 obtain⟨ys,h1,h2,h3⟩:=this xss hx
 exact⟨ys,by rw [h1],by omega,h3⟩
theorem A1q{e2:ab}{ds:List D}(ht:T.ty t= .slice e)(he:T.ty e= .slice e2)(he2:T.ty e2= .struct [a,a])(ha:T.ty a= .int .i64)(h:Shp T t ds): ∃xss,ds=[.sl e (AR (fun x=> .sl e2 (jG lm x)) xss)]∧yo xss:=by
 obtain⟨xss,rfl,hx,hl⟩:=Ww ht h
 have: ∀xss:List (List D),(∀xs,xs∈xss→Shp T e xs)→ ∃ys,xss.flatten=AR (fun x=> .sl e2 (jG lm x)) ys∧ys.length=xss.length∧ ∀y∈ys,A3y y:=by
  intro xss
  induction xss with
  |nil=>intro _;exact⟨[],rfl,rfl,by simp⟩
  |cons xs xss ih=>
   intro hx;obtain⟨n,rfl,hn⟩:=A3z he he2 ha (hx xs (Ia));obtain⟨ys,h1,h2,h3⟩:=ih (fun q hq=>hx q (QL _ hq))
   refine⟨n::ys,by rw [tZ,h1];rfl,by simp [h2],fun y hy=> ?_⟩
   rcases TF.1 hy with rfl|hy
   ·exact hn
   ·exact h3 y hy
 obtain⟨ys,h1,h2,h3⟩:=this xss hx
 exact⟨ys,by rw [h1],by omega,h3⟩
theorem yt{b c e2:ab}(ht:T.ty t= .struct [b,c,c])(hb:T.ty b= .slice e)(he:T.ty e= .slice e2)(he2:T.ty e2= .struct [a,a])(ha:T.ty a= .int .i64)(hc:T.ty c= .slice a)(h:Arg T t d):
  ∃es is js,d= .agg [.sl e (AR (fun x=> .sl e2 (jG lm x)) es),.sl a (KS is),.sl a (KS js)]∧yo es∧A3k is∧A3k js:=by
 obtain⟨ds,rfl,hl,hx⟩:=lX ht h;rcases ds with _|⟨d0,_|⟨d1,_|⟨d2,_|⟨_,_⟩⟩⟩⟩<;>simp at hl
 obtain⟨es,h0,hl0⟩:=A1q hb he he2 ha (hx 0 b d0 rfl rfl);obtain⟨is,h1,hl1⟩:=o6 hc ha (hx 1 c d1 rfl rfl);obtain⟨js,h2,hl2⟩:=o6 hc ha (hx 2 c d2 rfl rfl);simp only [List.cons.injEq,and_true]at h0 h1 h2;subst h0 h1 h2
 exact⟨es,is,js,rfl,hl0,hl1,hl2⟩
end
end Dv
