/- Value semantics for Go code, part 5: typed lists, loops as functions. Conditions: none beyond those in each lemma. -/
import Derived.Test.YtiehjihckndgkaaGreatL4
open Dv.D renaming int → bc
open Go renaming TypeId → ab
open Inhabited renaming default → be
open List renaming replicate → ap,range → ao
set_option linter.unusedSimpArgs false
set_option linter.unusedVariables false
namespace Dv
open Go
set_option maxRecDepth 10000
def ck{α:Type}(c:Prop)[Decidable c](o:Option α):Option α:=if c then o else none
section
variable {σ ρ:Type}
def yu(f:σ→Option (σ⊕ρ)):Nat→σ→Option ρ
 |0,_=>none
 |n+1,s=>
  match f s with
  |none=>none
  |some (.inl s')=>yu f n s'
  |some (.inr r)=>some r
open Classical in
noncomputable def Dq(f:σ→Option (σ⊕ρ))(s:σ):Option ρ:=if h: ∃r n,yu f n s=some r then some h.choose else none
theorem w9{f:σ→Option (σ⊕ρ)}: ∀ {n m:Nat} {s:σ} {r:ρ},n≤m→yu f n s=some r→yu f m s=some r:=by
 intro n
 induction n with
 |zero=>intro m s r _ h;simp [yu]at h
 |succ n ih=>
  intro m s r hm h
  cases m with
  |zero=>omega
  |succ m=>
   simp only [yu]at h ⊢
   cases hs:f s with
   |none=>simp [hs]at h
   |some q=>
    cases q with
    |inl s'=>simp only [hs]at h ⊢;exact ih (by omega) h
    |inr r'=>simp only [hs]at h ⊢;exact h
theorem ol{f:σ→Option (σ⊕ρ)}{n:Nat}{s:σ}{r:ρ}(h:yu f n s=some r):Dq f s=some r:=by
 unfold Dq;have hx: ∃r n,yu f n s=some r:=⟨r,n,h⟩;rw [dif_pos hx];obtain⟨n',h'⟩:=hx.choose_spec;have h1:=w9 (Nat.le_max_left n n') h;have h2:=w9 (Nat.le_max_right n n') h';rw [h1]at h2;exact h2.symm
theorem dX{f:σ→Option (σ⊕ρ)}{s:σ}{r:ρ}(h:Dq f s=some r): ∃n,yu f n s=some r:=by
 unfold Dq at h
 split at h
 ·rename_i hx
  simp only [Option.some.injEq]at h;subst h;exact hx.choose_spec
 ·cases h
theorem Lh{f:σ→Option (σ⊕ρ)}{s s':σ}(h:f s=some (.inl s')):Dq f s=Dq f s':=by
 cases hi:Dq f s' with
 |some r=>
  obtain⟨n,hn⟩:=dX hi;exact ol (n:=n+1) (by simp only [yu,h];exact hn)
 |none=>
  cases hj:Dq f s with
  |none=>rfl
  |some r=>
   obtain⟨n,hn⟩:=dX hj
   cases n with
   |zero=>simp [yu]at hn
   |succ n=>
    simp only [yu,h]at hn;rw [ol hn]at hi;cases hi
theorem E8{f:σ→Option (σ⊕ρ)}{s:σ}{r:ρ}(h:f s=some (.inr r)):Dq f s=some r:=ol (n:=1) (by simp [yu,h])
end
def A0T{σ ρ:Type}(M:σ→St→Prop)(X:ρ→Ex→St→Prop):σ⊕ρ→Ex→St→Prop
 | .inl v,.normal,s=>M v s
 | .inl _,_,_=>False
 | .inr _,.normal,_=>False
 | .inr r,ex,s=>X r ex s
theorem Cx{σ ρ:Type}(M:σ→St→Prop)(X:ρ→Ex→St→Prop)(v:σ)(s:St):A0T M X (.inl v) .normal s=M v s:=nr rfl
theorem Gf{σ ρ:Type}(M:σ→St→Prop)(X:ρ→Ex→St→Prop)(r:ρ)(j:Nat)(s:St):A0T M X (.inr r) (.exit j) s=X r (.exit j) s:=nr rfl
theorem QC{σ ρ:Type}(M:σ→St→Prop)(X:ρ→Ex→St→Prop)(r:ρ)(s:St):A0T M X (.inr r) .ret s=X r .ret s:=nr rfl
theorem Aw{E:Env}{c:SC}{σ ρ:Type}(f:σ→Option (σ⊕ρ))(M:σ→St→Prop)(X:ρ→Ex→St→Prop)
  (hstep: ∀v s o,M v s→f v=some o→BS E c (A0T M X o) s){v:σ}{s:St}{r:ρ}(h:Dq f v=some r)(hM:M v s):BS E (.loop c) (X r) s:=by
 obtain⟨n,hn⟩:=dX h
 induction n generalizing v s with
 |zero=>simp [yu]at hn
 |succ n ih=>
  simp only [yu]at hn
  cases hf:f v with
  |none=>simp [hf]at hn
  |some o=>
   obtain⟨ex,s1,h1,h2⟩:=hstep v s o hM hf
   cases o with
   |inl v'=>
    simp only [hf]at hn
    cases ex with
    |normal=>
     obtain⟨ex',s2,h3,h4⟩:=ih (ol hn) h2 hn
     refine⟨ex',s2, ?_,h4⟩
     simp only [EP]at h3 ⊢;rw [oP,h1];exact h3
    |exit id=>exact h2.elim
    |ret=>exact h2.elim
   |inr r'=>
    simp only [hf,Option.some.injEq]at hn;subst hn
    cases ex with
    |normal=>exact h2.elim
    |exit id=>exact⟨_,s1,by simp only [EP];rw [oP,h1],h2⟩
    |ret=>exact⟨_,s1,by simp only [EP];rw [oP,h1],h2⟩
def AQ{α:Type}(c:α→D)(xs:List α):List D:=xs.map c
def jL{α:Type}(c:α→List D)(xs:List α):List D:=xs.flatMap c
section
variable {α:Type} (c:α→D)
theorem Ul:AQ c []=[]:=nr rfl
theorem Iw(x:α)(xs:List α):AQ c (x::xs)=c x::AQ c xs:=nr rfl
theorem dY(xs:List α):(AQ c xs).length=xs.length:=by simp [AQ]
theorem wB[Inhabited α](xs:List α)(i:Nat)(h:i<xs.length):(AQ c xs).getD i .undef=c (xs.getD i be):=by
 simp [AQ,LQ,h]
theorem AD7[Inhabited α](xs:List α)(i:Nat)(h:i<xs.length):(AQ c xs)[i]? =some (c (xs.getD i be)):=by
 simp [AQ,LQ,h]
theorem A0U(xs:List α)(i:Nat)(y:α):(AQ c xs).set i (c y)=AQ c (xs.set i y):=by simp [AQ]
theorem yw(xs ys:List α):AQ c xs++AQ c ys=AQ c (xs++ys):=by simp [AQ]
theorem A49(xs:List α)(n:Nat):(AQ c xs).take n=AQ c (xs.take n):=by simp [AQ]
theorem A4A(xs:List α)(n:Nat):(AQ c xs).drop n=AQ c (xs.drop n):=by simp [AQ]
theorem dZ(xs:List α)(h: ∀x,(c x).hasObj=false):Av (AQ c xs)=false:=by
 induction xs with
 |nil=>rfl
 |cons x xs ih=>simp only [Iw,Av,h,ih];rfl
theorem A7K(xs:List α)(h: ∀x,EH (c x)=some (c x)):D5 (AQ c xs)=some (AQ c xs):=by
 induction xs with
 |nil=>rfl
 |cons x xs ih=>simp only [Iw,D5,h,ih];rfl
theorem A4B(c:α→List D)(c':α→List D)(e:ab)(xs:List α)(h: ∀x,D5 (c x)=some (c' x)):D5 (AQ (fun x=>D.own e (c x)) xs)=some (AQ (fun x=>D.sl e (c' x)) xs):=by
 induction xs with
 |nil=>rfl
 |cons x xs ih=>simp only [Iw,D5,EH,h,ih];rfl
theorem A25(xs:List α)(h: ∀x,Ep (c x)=false):EI (AQ c xs)=false:=by
 induction xs with
 |nil=>rfl
 |cons x xs ih=>simp only [Iw,EI,h,ih];rfl
theorem mJ(xs:List α)(h: ∀x,D6 (c x)=true):(AQ c xs).all D6=true:=by simp [AQ,h]
end
section
variable {α:Type} (c:α→List D) (n:Nat)
theorem A0V:jL c []=[]:=nr rfl
theorem U0(x:α)(xs:List α):jL c (x::xs)=c x++jL c xs:=nr rfl
theorem df(xs ys:List α):jL c xs++jL c ys=jL c (xs++ys):=by simp [jL]
theorem dh(h: ∀x,(c x).length=n)(xs:List α):(jL c xs).length=xs.length*n:=by
 induction xs with
 |nil=>simp [A0V]
 |cons x xs ih=>simp only [U0,Np,h,ih,Jw,Nat.succ_mul];omega
theorem wC(h: ∀x,(c x).length=n)(xs:List α): ∀(i:Nat),(jL c xs).drop (i*n)=jL c (xs.drop i):=by
 induction xs with
 |nil=>intro i;simp [A0V]
 |cons x xs ih=>
  intro i
  cases i with
  |zero=>simp
  |succ i=>
   rw [U0,List.drop_append,List.drop_succ_cons,←ih i,h,Nat.succ_mul];have e1:(c x).drop (i*n+n)=[]:=List.drop_eq_nil_of_le (by rw [h];omega)
   rw [e1,Nat.add_sub_cancel];rfl
theorem yx(xs:List α)(h: ∀x,Av (c x)=false):Av (jL c xs)=false:=by
 have app: ∀(as bs:List D),Av (as++bs)=(Av as||Av bs):=by
  intro as bs
  induction as with
  |nil=>simp [Av]
  |cons a as ih=>simp [Av,ih,Bool.or_assoc]
 induction xs with
 |nil=>rfl
 |cons x xs ih=>rw [U0,app,h,ih];rfl
theorem wD: ∀(as bs as' bs':List D),D5 as=some as'→D5 bs=some bs'→D5 (as++bs)=some (as'++bs'):=by
 intro as
 induction as with
 |nil=>intro bs as' bs' h1 h2;simp [D5]at h1;subst h1;simpa using h2
 |cons a as ih=>
  intro bs as' bs' h1 h2;simp only [D5,Ju,Ct]at h1;obtain⟨a',ha,as1,has,rfl⟩:=h1;simp only [Xv,D5,ha,ih _ _ _ has h2];rfl
theorem A0W(xs:List α)(h: ∀x,D5 (c x)=some (c x)):D5 (jL c xs)=some (jL c xs):=by
 induction xs with
 |nil=>rfl
 |cons x xs ih=>rw [U0];exact wD _ _ _ _ (h x) ih
theorem ji(as bs:List D):EI (as++bs)=(EI as||EI bs):=by
 induction as with
 |nil=>simp [EI]
 |cons a as ih=>simp [EI,ih,Bool.or_assoc]
theorem mK(xs:List α)(h: ∀x,EI (c x)=false):EI (jL c xs)=false:=by
 induction xs with
 |nil=>rfl
 |cons x xs ih=>rw [U0,ji,h,ih];rfl
end
def spl{α:Type}:List α→Nat→List α→List α
 |xs,_,[]=>xs
 |xs,c,y::ys=>spl (xs.set c y) (c+1) ys
theorem yz{α:Type}(c:α→D): ∀(ys xs:List α) (n:Nat),CS (AQ c xs) n (AQ c ys)=AQ c (spl xs n ys):=by
 intro ys
 induction ys with
 |nil=>intro xs n;cases xs<;>rfl
 |cons y ys ih=>
  intro xs n
  have h1:CS (AQ c xs) n (AQ c (y::ys))=CS ((AQ c xs).set n (c y)) (n+1) (AQ c ys):=by
   rw [Iw];cases AQ c xs<;>rfl
  rw [h1,A0U,ih];rfl
theorem z8{α:Type}: ∀(ys xs:List α) (n:Nat),n+ys.length≤xs.length→spl xs n ys=xs.take n++(ys++xs.drop (n+ys.length)):=by
 intro ys
 induction ys with
 |nil=>intro xs n _;simp [spl]
 |cons y ys ih=>
  intro xs n h;simp only [Jw]at h;unfold spl;rw [ih (xs.set n y) (n+1) (by simp;omega)]
  have h1:(xs.set n y).take (n+1)=xs.take n++[y]:=by
   rw [bI (by simp;omega),uI,List.take_set_of_le (Cc _)]
  rw [h1,List.drop_set_of_lt (by omega),Jw,show n+1+ys.length=n+(ys.length+1) by omega,M4];rfl
theorem Ag{α β:Type}{o:Option α}{f:α→Option β}{r:β}(h:o.bind f=some r): ∃a,o=some a∧f a=some r:=by
 cases o with
 |none=>cases h
 |some a=>exact⟨a,rfl,h⟩
theorem Cu{α:Type}{c:Prop}[Decidable c]{o:Option α}{r:α}(h:ck c o=some r):c∧o=some r:=by
 unfold ck at h
 split at h
 ·rename_i hc;exact⟨hc,h⟩
 ·cases h
section
variable {α:Type} (c:α→D)
theorem iS{α:Type}{c:Prop}[Decidable c]{a b:Option α}{r:α}(h:(if c then a else b)=some r):(c∧a=some r)∨(¬c∧b=some r):=by
 by_cases hc:c
 ·rw [if_pos hc]at h;exact .inl ⟨hc,h⟩
 ·rw [if_neg hc]at h;exact .inr ⟨hc,h⟩
theorem Dr{α:Type}{c d:Prop}[Decidable c][Decidable d]{o:Option α}{r:α}(h:ck c (ck d o)=some r):c∧d∧o=some r:=⟨(Cu h).1,Cu (Cu h).2⟩
theorem NC{α:Type}{c d e:Prop}[Decidable c][Decidable d][Decidable e]{o:Option α}{r:α}(h:ck c (ck d (ck e o))=some r):c∧d∧e∧o=some r:=⟨(Cu h).1,Dr (Cu h).2⟩
theorem A26{α:Type}{c d e f:Prop}[Decidable c][Decidable d][Decidable e][Decidable f]{o:Option α}{r:α}(h:ck c (ck d (ck e (ck f o)))=some r):c∧d∧e∧f∧o=some r:=⟨(Cu h).1,NC (Cu h).2⟩
theorem A27(xs:List α)(y:α)(ds:List D):AQ c xs++(c y::ds)=AQ c (xs++[y])++ds:=by simp [AQ]
theorem A4C(c:α→List D)(e:ab)(xs:List α)(h: ∀x,D5 (c x)=some (c x)):D5 (AQ (fun x=>D.own e (c x)) xs)=some (AQ (fun x=>D.sl e (c x)) xs):=A4B c c e xs h
def Zl(c:α→D):Option α→D
 |some a=>c a
 |none=> .undef
theorem A0X(xs:List α):AQ (Zl c) (xs.map some)=AQ c xs:=by simp [AQ,Function.comp_def,Zl]
theorem dm(xs:List (Option α))(n:Nat):(AQ (Zl c) xs).set n .undef=AQ (Zl c) (xs.set n none):=by simp [AQ,List.map_set,Zl]
theorem A4D(xs:List (Option α))(n:Nat)(y:α):(AQ (Zl c) xs).set n (c y)=AQ (Zl c) (xs.set n (some y)):=by simp [AQ,List.map_set,Zl]
theorem A4E(xs:List α):(xs.map some).length=xs.length:=by simp
theorem wE(xs:List α)(n:Nat):(AQ c xs).set n .undef=AQ (Zl c) ((xs.map some).set n none):=by rw [←dm,A0X]
theorem A7M(xs:List (Option α))(n:Nat):AQ (Zl (Zl c)) ((xs.map some).set n none)=AQ (Zl c) (xs.set n none):=by rw [←wE,dm]
theorem A4F(xs:List α)(n:Nat)(y:α):(xs.map some).set n (some y)=(xs.set n y).map some:=List.map_set.symm
theorem A7N(n:Nat)(k:IntKind)(x:Int):ap n (bc k x)=AQ (bc k) (ap n x):=by simp [AQ]
theorem A7O(n:Nat)(e:ab):ap n (D.own e [])=AQ (fun x=>D.own e (AQ (bc .i64) x)) (ap n []):=by simp [AQ]
theorem A4G(n:Nat)(x:Bool):ap n (D.bool x)=AQ D.bool (ap n x):=by simp [AQ]
variable [Inhabited α] {T:Tys}
theorem AQN(e:ab)(n:Int)(xs:List α)(hk:T.known e=true)(hz:T.size e=1)(hn:0≤n∧n.toNat<xs.length):at1 T e n (some (e,AQ c xs,none))=some (.cptr [c (xs.getD n.toNat be)]):=by
 rw [ANy e n (AQ c xs) hk hz (by simpa [AQ] using hn),wB c xs _ hn.2]
end
theorem AQO:(true==false)=false:=nr rfl
theorem AQP:(false==true)=false:=nr rfl
theorem AQQ{s:St}(dst:Option Tmp)(u:Tmp)(i:Nat)(L:AC)(n m:Nat):yG s dst u i (some (.vw L n m))=some (s.putO dst (.vw L n m)):=by simp [yG,Dp,Ji,D.hasObj,Nw]
theorem wF{α:Type}(c:α→List D)(e:ab)(xs:List α):Av (AQ (fun x=>D.own e (c x)) xs)= !xs.isEmpty:=by
 cases xs with
 |nil=>rfl
 |cons x xs=>simp [Iw,Av,D.hasObj]
section
variable {pm:Pm} {s:St} {dst:Option Tmp}
end
def BJ(xs:Fg)(n:Nat):Int:=(xs.getD n be).1
def Bu(xs:Fg)(n:Nat):Int:=(xs.getD n be).2
def Ak(k l:IntKind)(xs:Fg):List D:=jL (fun x=>[bc k x.1,bc l x.2]) xs
theorem Ay(k l:IntKind):Ak k l []=[]:=nr rfl
theorem RF(k l:IntKind)(x:Int×Int)(xs:Fg):Ak k l (x::xs)=bc k x.1::bc l x.2::Ak k l xs:=nr rfl
theorem U1(k l:IntKind)(xs:Fg):(Ak k l xs).length=xs.length*2:=dh _ 2 (fun _=>rfl) xs
theorem mM(k l:IntKind)(v:Int): ∀(xs:Fg) (n:Nat),n<xs.length→(Ak k l xs).set (n*2) (bc k v)=Ak k l (xs.set n (v,Bu xs n)):=by
 intro xs
 induction xs with
 |nil=>intro n h;simp at h
 |cons x xs ih=>
  intro n h
  cases n with
  |zero=>rfl
  |succ n=>
   have:=ih n (by simpa using h)
   rw [RF,Nat.succ_mul,nK,nK,nK,this,RF];rfl
theorem mO(k l:IntKind)(v:Int): ∀(xs:Fg) (n:Nat),n<xs.length→(Ak k l xs).set (n*2+1) (bc l v)=Ak k l (xs.set n (BJ xs n,v)):=by
 intro xs
 induction xs with
 |nil=>intro n h;simp at h
 |cons x xs ih=>
  intro n h
  cases n with
  |zero=>rfl
  |succ n=>
   have:=ih n (by simpa using h)
   rw [RF,Nat.succ_mul,show n*2+2+1=n*2+1+1+1 by omega,nK,nK,nK,this,RF];rfl
theorem A28(k l:IntKind)(xs:Fg)(a b:Int):Ak k l xs++[bc k a,bc l b]=Ak k l (xs++[(a,b)]):=df _ xs [(a,b)]
theorem zA(k l:IntKind)(xs:Fg)(a b:Int)(ds:List D):Ak k l xs++(bc k a::bc l b::ds)=Ak k l (xs++[(a,b)])++ds:=by
 rw [←A28,M4];rfl
theorem A29(k l:IntKind)(xs:Fg)(n:Nat):(Ak k l xs).drop (n*2)=Ak k l (xs.drop n):=wC _ 2 (fun _=>rfl) xs n
theorem ZK(k l:IntKind)(xs:Fg):Av (Ak k l xs)=false:=yx _ xs (fun _=>by simp [Av,D.hasObj])
theorem A4H(k l:IntKind)(xs:Fg):D5 (Ak k l xs)=some (Ak k l xs):=A0W _ xs (fun _=>rfl)
theorem zC(k l:IntKind)(xs:Fg):EI (Ak k l xs)=false:=mK _ xs (fun _=>rfl)
theorem A4I(k l:IntKind)(n:Nat)(a b:Int):(ap n [bc k a,bc l b]).flatten=Ak k l (ap n (a,b)):=by
 simp [Ak,jL,List.flatMap_def]
def q4a(xs:List (Int×Int×Int×Int))(n:Nat):Int:=(xs.getD n be).1
def q4b(xs:List (Int×Int×Int×Int))(n:Nat):Int:=(xs.getD n be).2.1
def q4c(xs:List (Int×Int×Int×Int))(n:Nat):Int:=(xs.getD n be).2.2.1
def q4d(xs:List (Int×Int×Int×Int))(n:Nat):Int:=(xs.getD n be).2.2.2
def Oa(xs:List (Int×Int×Int×Int)):List D:=jL (fun x=>[bc .i64 x.1,bc .i64 x.2.1,bc .i64 x.2.2.1,bc .i64 x.2.2.2]) xs
theorem A2A(x:Int×Int×Int×Int)(xs:List (Int×Int×Int×Int)):Oa (x::xs)=bc .i64 x.1::bc .i64 x.2.1::bc .i64 x.2.2.1::bc .i64 x.2.2.2::Oa xs:=nr rfl
theorem ZL(xs:List (Int×Int×Int×Int)):(Oa xs).length=xs.length*4:=dh _ 4 (fun _=>rfl) xs
theorem A2B(xs:List (Int×Int×Int×Int))(a b c d:Int):Oa xs++[bc .i64 a,bc .i64 b,bc .i64 c,bc .i64 d]=Oa (xs++[(a,b,c,d)]):=df _ xs [(a,b,c,d)]
theorem zD(xs:List (Int×Int×Int×Int))(a b c d:Int)(ds:List D):Oa xs++(bc .i64 a::bc .i64 b::bc .i64 c::bc .i64 d::ds)=Oa (xs++[(a,b,c,d)])++ds:=by
 rw [←A2B,M4];rfl
theorem A2C(xs:List (Int×Int×Int×Int))(n:Nat):(Oa xs).drop (n*4)=Oa (xs.drop n):=wC _ 4 (fun _=>rfl) xs n
theorem A4J(xs:List (Int×Int×Int×Int)):D5 (Oa xs)=some (Oa xs):=A0W _ xs (fun _=>rfl)
theorem zF(xs:List (Int×Int×Int×Int)):EI (Oa xs)=false:=mK _ xs (fun _=>rfl)
theorem A8i{T:Tys}(e:ab)(xs:List (Int×Int×Int×Int))(h:T.size e=4):T.len e (Oa xs)=xs.length:=by
 unfold Tys.len;rw [h,if_neg (by decide),ZL,Nat.mul_div_cancel _ (by decide)]
theorem AQR{T:Tys}(e:ab)(n:Int)(xs:List (Int×Int×Int×Int))(hk:T.known e=true)(hz:T.size e=4)(hn:0≤n∧n.toNat<xs.length):at1 T e n (some (e,Oa xs,none))=some (.cptr [bc .i64 (q4a xs n.toNat),bc .i64 (q4b xs n.toNat),bc .i64 (q4c xs n.toNat),bc .i64 (q4d xs n.toNat)]):=by
 simp only [at1,hk,A8i e xs hz];rw [if_pos ⟨trivial,trivial,hn.1,hn.2⟩,hz,A2C,ZY hn.2,A2A];unfold q4a q4b q4c q4d;rw [LQ,KP hn.2];rfl
section
variable {T:Tys} {pm:Pm} {s:St} {t:ab}
theorem A4K(k l:IntKind)(e:ab)(xs:Fg)(h:T.size e=2):T.len e (Ak k l xs)=xs.length:=by
 unfold Tys.len;rw [h,if_neg (by decide),U1,Nat.mul_div_cancel _ (by decide)]
theorem AQS(k l:IntKind)(e:ab)(n:Int)(xs:Fg)(hk:T.known e=true)(hz:T.size e=2)(hn:0≤n∧n.toNat<xs.length):at1 T e n (some (e,Ak k l xs,none))=some (.cptr [bc k (BJ xs n.toNat),bc l (Bu xs n.toNat)]):=by
 simp only [at1,hk,A4K k l e xs hz];rw [if_pos ⟨trivial,trivial,hn.1,hn.2⟩,hz,A29,ZY hn.2,RF];unfold BJ Bu;rw [LQ,KP hn.2];rfl
theorem AQT(k l:IntKind)(e:ab)(n:Int)(xs:Fg)(L:AC)(a b:Nat)(hk:T.known e=true)(hz:T.size e=2)(hn:0≤n∧n.toNat<xs.length):at1 T e n (some (e,Ak k l xs,some (L,a,b)))=some (.pe L (n.toNat*2) a b):=by
 simp only [at1,hk,A4K k l e xs hz];rw [if_pos ⟨trivial,trivial,hn.1,hn.2⟩,hz]
def sq1(T:Tys)(pm:Pm)(t:ab)(u:Tmp)(a b:D)(s:St):Option D→Nat→AC→Option St
 |some (.own e xs),c,L=>if T.known t&&T.isStruct t&&pm.wr (L.headD 0)&&D6 a&&D6 b&&(T.size t==2)&&decide (c+2≤xs.length)&& !a.hasObj&& !b.hasObj&& !Av xs then some (s.set L (.own e ((xs.set c a).set (c+1) b)))else uB T pm t (.tmp u) (some (.agg [a,b],s))
 |_,_,_=>uB T pm t (.tmp u) (some (.agg [a,b],s))
theorem AQU(u:Tmp)(a b:D)(L:AC)(c n m:Nat)(h:s.v u= .pe L c n m):uB T pm t (.tmp u) (some (.agg [a,b],s))=sq1 T pm t u a b s (s.look pm L n m) c L:=by
 cases hl:s.look pm L n m with
 |none=>rfl
 |some o=>
  cases o<;>try rfl
  rename_i e xs
  simp only [sq1];split
  ·rename_i hc
   simp only [El,beq_iff_eq,decide_eq_true_eq,ML]at hc;obtain⟨⟨⟨⟨⟨⟨⟨⟨⟨hk,hs⟩,hw⟩,ha⟩,hb⟩,hz⟩,hl2⟩,ha2⟩,hb2⟩,hx2⟩:=hc;simp only [uB,ev,h,Jm,hl,D.asCells,D.isAgg,D.cells,D.withCells,hk,hs,hw,hz,Xw,ha,hb,List.all_nil,Bool.and_self,Jw,Qu,beq_self_eq_true,VV,D.hasObj,Av,ha2,hb2,hx2,Bool.or_self,Nq,if_false,CS];rw [if_pos (by simpa using hl2)]
  ·rfl
theorem AQV(u:Tmp)(a b:D)(L:AC)(c n m:Nat)(h:s.v u= .pe L c n m):sw1 T pm t u [a,b] s (.pe L c n m)=sq1 T pm t u a b s (s.look pm L n m) c L:=by
 rw [←AQU u a b L c n m h];rfl
theorem zG(k l:IntKind)(xs:Fg)(n:Nat)(a b:Int)(h:n<xs.length):((Ak k l xs).set (n*2) (bc k a)).set (n*2+1) (bc l b)=Ak k l (xs.set n (a,b)):=by
 rw [mM k l a xs n h,mO k l b _ n (by simpa using h),jT]
 congr 2
 simp [BJ,LQ,h]
theorem AQW(k l:IntKind)(u:Tmp)(a b:Int)(L:AC)(e:ab)(n:Nat)(xs:Fg)(hk:T.known t=true)(hs:T.isStruct t=true)(hw:pm.wr (L.headD 0)=true)(hz:T.size t=2)(h:n<xs.length):
  sq1 T pm t u (.int k a) (.int l b) s (some (.own e (Ak k l xs))) (n*2) L=some (s.set L (.own e (Ak k l (xs.set n (a,b))))):=by
 simp only [sq1];rw [if_pos,zG k l xs n a b h];simp only [hk,hs,hw,hz,D6,U1,ZK,D.hasObj,El,decide_eq_true_eq,beq_self_eq_true,Bool.not_false,and_true,true_and];omega
end
set_option linter.defProp false
def AIT:=A7 @AQQ (A7 @yz (A7 @wF (A7 @AQN (A7 @dY (A7 @AD7 (A7 @wB (A7 @A0U (A7 @yw (A7 @A27 (A7 @A49 (A7 @A4A (A7 @dZ (A7 @A7K (A7 @A4C (A7 @A25 (A7 @mJ (A7 @A7O (A7 @A0X (A7 @A4E (A7 @wE (A7 @A4F (A7 (A7 @A7M @dm) (A7 @A4D (A7 @A7N (A7 @A4G (A7 @AQO @AQP))))))))))))))))))))))))))
theorem tk2(a b:D)(l:List D):List.take 2 (a::b::l)=[a,b]:=nr rfl
theorem tk4(a b c d:D)(l:List D):List.take 4 (a::b::c::d::l)=[a,b,c,d]:=nr rfl
theorem tk7(a b c d e f g:D)(l:List D):List.take 7 (a::b::c::d::e::f::g::l)=[a,b,c,d,e,f,g]:=nr rfl
theorem dr0(l:List D):List.drop 0 l=l:=nr rfl
theorem dr1(a:D)(l:List D):List.drop 1 (a::l)=l:=nr rfl
theorem dr4(a0 a1 a2 a3:D)(l:List D):List.drop 4 (a0::a1::a2::a3::l)=l:=nr rfl
theorem dr7(a0 a1 a2 a3 a4 a5 a6:D)(l:List D):List.drop 7 (a0::a1::a2::a3::a4::a5::a6::l)=l:=nr rfl
theorem AIU{n m:Nat}(h:n<m):n*2<m*2:=by omega
theorem AIV{n m:Nat}(h:n<m):n*2+1<m*2:=by omega
def xc2:=A7 @Nat.add_zero (A7 @ZL (A7 @zD (A7 @A4J (A7 @zF (A7 @A8i (A7 @AQR (A7 @U1 (A7 @zA (A7 @ZK (A7 @A4H (A7 @zC (A7 @A4I (A7 @A4K (A7 @AQS (A7 @AQT (A7 @AQV (A7 @tk2 (A7 @tk7 (A7 @tk4 (A7 @dr0 (A7 @dr1 (A7 @dr4 (A7 @dr7 (A7 @AIU (A7 @AIV (A7 @mM (A7 @mO (A7 @List.length_set.{0} (@AQW)))))))))))))))))))))))))))))
def Cg:=A7 @implies_true.{1} (A7 @Option.bind_some.{0,0} (A7 @Option.map_some.{0,0} (A7 @Option.isSome_some.{0} (A7 @List.contains_cons.{0} (A7 @List.contains_nil.{0} (A7 @List.getD_cons_zero.{0} (A7 @List.getD_cons_succ.{0} (A7 @List.getD_nil.{0} (A7 @List.length_cons.{0} (A7 @List.length_nil.{0} (A7 @List.size_toArray.{0} (A7 @List.toList_toArray.{0} (A7 @List.zip_cons_cons.{0,0} (A7 @List.zip_nil_left.{0,0} (A7 @List.append_nil.{0} (A7 @List.nil_append.{0} (A7 @List.cons_append.{0} (A7 @List.map_cons.{0,0} (A7 @List.map_nil.{0,0} (A7 @List.replicate_succ.{0} (A7 @List.replicate_zero.{0} (A7 @List.set_cons_zero.{0} (A7 @List.set_cons_succ.{0} (A7 @List.set_set.{0} (A7 @List.all_cons.{0} (A7 @List.any_cons.{0} (A7 @List.any_nil.{0} (A7 @List.all_nil.{0} (A7 @List.getElem?_cons_zero.{0} (A7 @List.getElem?_cons_succ.{0} (A7 @List.getElem?_nil.{0} (@beq_self_eq_true.{0}))))))))))))))))))))))))))))))))
end Dv
namespace Dv
open Go
section
variable {σ ρ α β:Type}
theorem Bn(f:σ→Option (σ⊕ρ))(st:Nat→σ): ∀(n:Nat) (r:ρ),(∀i,i<n→f (st i)=some (.inl (st (i+1))))→f (st n)=some (.inr r)→Dq f (st 0)=some r:=by
 intro n r h e
 have key: ∀k,k≤n→Dq f (st (n-k))=some r:=by
  intro k
  induction k with
  |zero=>intro _;exact E8 e
  |succ k ih=>
   intro hk;have h1:=h (n-(k+1)) (by omega)
   rw [Lh h1,show n-(k+1)+1=n-k by omega]
   exact ih (by omega)
 have:=key n (Cc _)
 rwa [WE]at this
theorem SL(f:σ→Option (σ⊕ρ))(I:Nat→σ→Prop)(Q:ρ→Prop)(step: ∀n s,I n s→(∃s' m,f s=some (.inl s')∧m<n∧I m s')∨(∃r,f s=some (.inr r)∧Q r)):
  ∀(n:Nat) (s:σ),I n s→ ∃r,Dq f s=some r∧Q r:=by
 intro n
 induction n using Nat.strongRecOn with
 |_ n ih=>
  intro s hI;rcases step n s hI with⟨s',m,h1,h2,h3⟩|⟨r,h1,h2⟩
  ·rw [Lh h1];exact ih m h2 s' h3
  ·exact⟨r,E8 h1,h2⟩
theorem U2(f:σ→Option (σ⊕ρ))(mk:Nat→β→σ)(P:Nat→β→Prop)(xs:List α)(g:β→α→β)(fin:β→ρ)
  (h: ∀(i:Nat) (b:β) (hi:i<xs.length),P i b→f (mk i b)=some (.inl (mk (i+1) (g b xs[i])))∧P (i+1) (g b xs[i]))
  (e: ∀b,P xs.length b→f (mk xs.length b)=some (.inr (fin b)))(b0:β)(h0:P 0 b0):Dq f (mk 0 b0)=some (fin (xs.foldl g b0))∧P xs.length (xs.foldl g b0):=by
 have key: ∀(k:Nat) (b:β),k≤xs.length→P (xs.length-k) b→Dq f (mk (xs.length-k) b)=some (fin ((xs.drop (xs.length-k)).foldl g b))∧P xs.length ((xs.drop (xs.length-k)).foldl g b):=by
  intro k
  induction k with
  |zero=>intro b _ hp;simp only [Nat.sub_zero,List.drop_length,List.foldl_nil]at hp ⊢;exact⟨E8 (e b hp),hp⟩
  |succ k ih=>
   intro b hk hp;have hl:xs.length-(k+1)<xs.length:=by omega
   obtain⟨h1,h2⟩:=h (xs.length-(k+1)) b hl hp;rw [ZY hl,VS,Lh h1];have e1:xs.length-(k+1)+1=xs.length-k:=by omega
   rw [e1]at h2 ⊢;exact ih _ (by omega) h2
 have:=key xs.length b0 (Cc _) (by rwa [WE])
 rwa [WE,WC]at this
end
theorem SN{n:Nat}{P:Nat→Bool}(h: ¬ ∀i,i<n→P i=true): ∃m,m<n∧P m=false∧ ∀i,i<m→P i=true:=by
 induction n with
 |zero=>exact absurd (fun i hi=>absurd hi (Nat.not_lt_zero _)) h
 |succ n ih=>
  by_cases hn: ∀i,i<n→P i=true
  ·refine⟨n,Nat.lt_succ_self _, ?_,hn⟩
   cases hp:P n with
   |false=>rfl
   |true=>exact absurd (fun i hi=>by rcases Nat.lt_succ_iff_lt_or_eq.1 hi with h1|rfl;exact hn i h1;exact hp) h
  ·obtain⟨m,h1,h2,h3⟩:=ih hn
   exact⟨m,by omega,h2,h3⟩
theorem Ch{n:Nat}{P:Nat→Bool}:(ao n).all P=true↔ ∀i,i<n→P i=true:=by
 simp [Jv]
theorem wG{σ ρ:Type}(f:σ→Option (σ⊕ρ))(st:Nat→σ)(n:Nat)(P:Nat→Bool)(bad good:ρ)
  (h: ∀i,i<n→(∀j,j<i→P j=true)→f (st i)=if P i=true then some (.inl (st (i+1)))else some (.inr bad))(e:(∀j,j<n→P j=true)→f (st n)=some (.inr good)):Dq f (st 0)=some (if(ao n).all P=true then good else bad):=by
 by_cases hp: ∀i,i<n→P i=true
 ·rw [if_pos (Ch.2 hp)];refine Bn f st n good (fun i hi=> ?_) (e hp);rw [h i hi (fun j hj=>hp j (by omega)),if_pos (hp i hi)]
 ·rw [if_neg (fun hc=>hp (Ch.1 hc))];obtain⟨m,h1,h2,h3⟩:=SN hp;refine Bn f st m bad (fun i hi=> ?_) ?_
  ·rw [h i (by omega) (fun j hj=>h3 j (by omega)),if_pos (h3 i hi)]
  ·rw [h m h1 h3,h2];rfl
theorem E9{σ ρ:Type}(f:σ→Option (σ⊕ρ))(st:Nat→σ)(n:Nat)(P:Nat→Bool)(bad good:ρ)
  (h: ∀i,i<n→f (st i)=if P i=true then some (.inl (st (i+1)))else some (.inr bad))(e:f (st n)=some (.inr good)):Dq f (st 0)=some (if(ao n).all P=true then good else bad):=
 wG f st n P bad good (fun i hi _=>h i hi) (fun _=>e)
theorem Wo{α:Type}[Inhabited α](p:α→Bool)(xs:List α):(ao xs.length).all (fun i=>p (xs.getD i be))=xs.all p:=by
 rw [V7,Ch,Jv]
 constructor
 ·intro h x hx;obtain⟨i,hi,rfl⟩:=V4 hx;have:=h i hi
  rwa [LQ,KP hi]at this
 ·intro h i hi;rw [LQ,KP hi];exact h _ (NA hi)
theorem U3{α:Type}[DecidableEq α][Inhabited α](a b:List α)(hl:a.length=b.length):(ao a.length).all (fun i=>decide (a.getD i be=b.getD i be))=decide (a=b):=by
 by_cases he:a=b
 ·subst he;simp
 ·rw [decide_eq_false he,G8];intro hc;rw [Ch]at hc;refine he (Za hl fun i h1 h2=> ?_);have:=hc i h1
  rw [LQ,LQ,KP h1,KP h2]at this;simpa using this
theorem dw{α γ:Type}(f:List γ×Int→Option ((List γ×Int)⊕List γ))(xs:List α)(g:α→γ)(z:γ)
  (h: ∀(i:Nat) (hi:i<xs.length) (out:List γ),out.length=xs.length→f (out,(i:Int))=some (.inl (out.set i (g xs[i]),((i+1:Nat):Int))))
  (e: ∀out:List γ,out.length=xs.length→f (out,(xs.length:Int))=some (.inr out)):Dq f (ap xs.length z,0)=some (xs.map g):=by
 have key:=Bn f (fun i=>((xs.take i).map g++ap (xs.length-i) z,(i:Int))) xs.length (xs.map g) ?_ ?_
 ·simpa using key
 ·intro i hi;have:=h i hi ((xs.take i).map g++ap (xs.length-i) z) (by simp;omega)
  rw [this];have e1:xs.length-i=(xs.length-(i+1))+1:=by omega
  have e2:i-((xs.take i).map g).length=0:=by simp;omega
  rw [e1,uJ,nJ _ _ (by simp;omega),e2,uK,bI hi,jS,M4];rfl
 ·simp only [uM,WE,List.replicate_zero,TI];exact e _ (by simp)
theorem RG{α γ:Type}(f:List γ×Int→Option ((List γ×Int)⊕List γ))(xs:List α)(g:α→γ)
  (h: ∀(i:Nat) (hi:i<xs.length) (out:List γ),out.length=i→f (out,(i:Int))=some (.inl (out++[g xs[i]],((i+1:Nat):Int))))
  (e: ∀out:List γ,out.length=xs.length→f (out,(xs.length:Int))=some (.inr out)):Dq f ([],0)=some (xs.map g):=by
 have key:=Bn f (fun i=>((xs.take i).map g,(i:Int))) xs.length (xs.map g) ?_ ?_
 ·simpa using key
 ·intro i hi;have:=h i hi ((xs.take i).map g) (by simp;omega)
  rw [this,bI hi,jS];rfl
 ·simp only [uM];exact e _ (by simp)
theorem Gc(i:Nat)(h:i<4611686018427387904):IntKind.i64.wrap ((i:Int)+1)=((i+1:Nat):Int):=by
 rw [GG _ (by omega)];rfl
theorem Ac{α:Type}[Inhabited α](xs:List α)(i:Nat)(h:i<xs.length):xs.getD i be=xs[i]:=by
 rw [LQ,KP h];rfl
theorem GH{α:Type}[Inhabited α](xs:List α)(i:Nat)(h:i<xs.length):xs.getD (i:Int).toNat be=xs[i]:=by
 rw [Cq];exact Ac xs i h
theorem BC{α:Type}{c:Prop}[Decidable c]{o:Option α}(h:c):ck c o=o:=if_pos h
theorem BU{i n:Nat}(h:i<n):(i:Int)<(n:Int):=by omega
theorem Am(n:Nat): ¬(n:Int)<(n:Int):=by omega
theorem DY{i n:Nat}(h:i<n):0≤(i:Int)∧(i:Int).toNat<n:=by omega
theorem FK{α:Type}[Inhabited α](a b:List α)(i:Nat)(h:i=a.length)(hb:0<b.length):(a++b).getD i be=b[0]:=by
 subst h;rw [LQ,Ru (Cc _),WE,KP hb];rfl
end Dv
namespace Dv
open Go
def mP(x:Int×Int):List D:=[bc .i64 x.1,bc .i64 x.2]
def A4L(xs:Fg):Prop:=xs.length≤maxLen∧ ∀x∈xs,I64 x.1∧I64 x.2
def zH(xss:Ad):Prop:=xss.length≤maxLen∧ ∀xs∈xss,A4L xs
section
variable {T:Tys} {t e a:ab} {d:D}
theorem A7P{ds:List D}(he:T.ty e= .struct [a,a])(ha:T.ty a= .int .i64)(h:Shp T e ds): ∃x:Int×Int,ds=mP x∧I64 x.1∧I64 x.2:=by
 obtain⟨hl,hx⟩:=mH he h;rcases ds with _|⟨d0,_|⟨d1,_|⟨_,_⟩⟩⟩<;>simp at hl
 obtain⟨p,h0,hl0⟩:=dW ha (hx 0 a d0 rfl rfl);obtain⟨q,h1,hl1⟩:=dW ha (hx 1 a d1 rfl rfl);simp only [List.cons.injEq,and_true]at h0 h1;subst h0 h1
 exact⟨(p,q),rfl,hl0,hl1⟩
theorem A4M{ds:List D}(ht:T.ty t= .slice e)(he:T.ty e= .struct [a,a])(ha:T.ty a= .int .i64)(h:Shp T t ds): ∃xs,ds=[.sl e (jL mP xs)]∧A4L xs:=by
 obtain⟨xss,rfl,hx,hl⟩:=Wn ht h
 have: ∀xss:List (List D),(∀xs,xs∈xss→Shp T e xs)→ ∃ys,xss.flatten=jL mP ys∧ys.length=xss.length∧ ∀y∈ys,I64 y.1∧I64 y.2:=by
  intro xss
  induction xss with
  |nil=>intro _;exact⟨[],rfl,rfl,by simp⟩
  |cons xs xss ih=>
   intro hx;obtain⟨n,rfl,hn⟩:=A7P he ha (hx xs (Gu));obtain⟨ys,h1,h2,h3⟩:=ih (fun q hq=>hx q (PL _ hq))
   refine⟨n::ys,by rw [uL,h1];rfl,by simp [h2],fun y hy=> ?_⟩
   rcases Rw.1 hy with rfl|hy
   ·exact hn
   ·exact h3 y hy
 obtain⟨ys,h1,h2,h3⟩:=this xss hx
 exact⟨ys,by rw [h1],by omega,h3⟩
theorem A2D{e2:ab}{ds:List D}(ht:T.ty t= .slice e)(he:T.ty e= .slice e2)(he2:T.ty e2= .struct [a,a])(ha:T.ty a= .int .i64)(h:Shp T t ds): ∃xss,ds=[.sl e (AQ (fun x=> .sl e2 (jL mP x)) xss)]∧zH xss:=by
 obtain⟨xss,rfl,hx,hl⟩:=Wn ht h
 have: ∀xss:List (List D),(∀xs,xs∈xss→Shp T e xs)→ ∃ys,xss.flatten=AQ (fun x=> .sl e2 (jL mP x)) ys∧ys.length=xss.length∧ ∀y∈ys,A4L y:=by
  intro xss
  induction xss with
  |nil=>intro _;exact⟨[],rfl,rfl,by simp⟩
  |cons xs xss ih=>
   intro hx;obtain⟨n,rfl,hn⟩:=A4M he he2 ha (hx xs (Gu));obtain⟨ys,h1,h2,h3⟩:=ih (fun q hq=>hx q (PL _ hq))
   refine⟨n::ys,by rw [uL,h1];rfl,by simp [h2],fun y hy=> ?_⟩
   rcases Rw.1 hy with rfl|hy
   ·exact hn
   ·exact h3 y hy
 obtain⟨ys,h1,h2,h3⟩:=this xss hx
 exact⟨ys,by rw [h1],by omega,h3⟩
theorem zI{b c e2:ab}(ht:T.ty t= .struct [b,c,c])(hb:T.ty b= .slice e)(he:T.ty e= .slice e2)(he2:T.ty e2= .struct [a,a])(ha:T.ty a= .int .i64)(hc:T.ty c= .slice a)(h:Arg T t d):
  ∃es is js,d= .agg [.sl e (AQ (fun x=> .sl e2 (jL mP x)) es),.sl a (K9 is),.sl a (K9 js)]∧zH es∧A47 is∧A47 js:=by
 obtain⟨ds,rfl,hl,hx⟩:=mI ht h;rcases ds with _|⟨d0,_|⟨d1,_|⟨d2,_|⟨_,_⟩⟩⟩⟩<;>simp at hl
 obtain⟨es,h0,hl0⟩:=A2D hb he he2 ha (hx 0 b d0 rfl rfl);obtain⟨is,h1,hl1⟩:=og hc ha (hx 1 c d1 rfl rfl);obtain⟨js,h2,hl2⟩:=og hc ha (hx 2 c d2 rfl rfl);simp only [List.cons.injEq,and_true]at h0 h1 h2;subst h0 h1 h2
 exact⟨es,is,js,rfl,hl0,hl1,hl2⟩
end
end Dv
