/- Value semantics for Go code, part 5: typed lists, loops as functions. Conditions: none beyond those in each lemma. -/
import Derived.Test.YtiehjihckndgkaaGreatL4
set_option linter.unusedSimpArgs false
set_option linter.unusedVariables false
namespace Dv
open Go
set_option maxRecDepth 10000
def ck{α:Type}(c:Prop)[Decidable c](o:Option α):Option α:=if c then o else none
section
variable {σ ρ:Type}
def ul(f:σ→Option (σ⊕ρ)):Nat→σ→Option ρ
 |0,_=>none
 |n+1,s=>
  match f s with
  |none=>none
  |some (.inl s')=>ul f n s'
  |some (.inr r)=>some r
open Classical in
noncomputable def Fb(f:σ→Option (σ⊕ρ))(s:σ):Option ρ:=if h: ∃r n,ul f n s=some r then some h.choose else none
theorem qb{f:σ→Option (σ⊕ρ)}: ∀ {n m:Nat} {s:σ} {r:ρ},n≤m→ul f n s=some r→ul f m s=some r:=by
 intro n
 induction n with
 |zero=>intro m s r _ h;simp [ul]at h
 |succ n ih=>
  intro m s r hm h
  cases m with
  |zero=>omega
  |succ m=>
   simp only [ul]at h ⊢
   cases hs:f s with
   |none=>simp [hs]at h
   |some q=>
    cases q with
    |inl s'=>simp only [hs]at h ⊢;exact ih (by omega) h
    |inr r'=>simp only [hs]at h ⊢;exact h
theorem l6{f:σ→Option (σ⊕ρ)}{n:Nat}{s:σ}{r:ρ}(h:ul f n s=some r):Fb f s=some r:=by
 unfold Fb;have hx: ∃r n,ul f n s=some r:=⟨r,n,h⟩;rw [dif_pos hx];obtain⟨n',h'⟩:=hx.choose_spec;have h1:=qb (Nat.le_max_left n n') h;have h2:=qb (Nat.le_max_right n n') h';rw [h1]at h2;exact h2.symm
theorem aI{f:σ→Option (σ⊕ρ)}{s:σ}{r:ρ}(h:Fb f s=some r): ∃n,ul f n s=some r:=by
 unfold Fb at h
 split at h
 ·rename_i hx
  simp only [Option.some.injEq]at h;subst h;exact hx.choose_spec
 ·cases h
theorem QB{f:σ→Option (σ⊕ρ)}{s s':σ}(h:f s=some (.inl s')):Fb f s=Fb f s':=by
 cases hi:Fb f s' with
 |some r=>
  obtain⟨n,hn⟩:=aI hi;exact l6 (n:=n+1) (by simp only [ul,h];exact hn)
 |none=>
  cases hj:Fb f s with
  |none=>rfl
  |some r=>
   obtain⟨n,hn⟩:=aI hj
   cases n with
   |zero=>simp [ul]at hn
   |succ n=>
    simp only [ul,h]at hn;rw [l6 hn]at hi;cases hi
theorem Hy{f:σ→Option (σ⊕ρ)}{s:σ}{r:ρ}(h:f s=some (.inr r)):Fb f s=some r:=l6 (n:=1) (by simp [ul,h])
end
def xF{σ ρ:Type}(M:σ→St→Prop)(X:ρ→Ex→St→Prop):σ⊕ρ→Ex→St→Prop
 | .inl v,.normal,s=>M v s
 | .inl _,_,_=>False
 | .inr _,.normal,_=>False
 | .inr r,ex,s=>X r ex s
theorem En{σ ρ:Type}(M:σ→St→Prop)(X:ρ→Ex→St→Prop)(v:σ)(s:St):xF M X (.inl v) .normal s=M v s:=nr rfl
theorem K3{σ ρ:Type}(M:σ→St→Prop)(X:ρ→Ex→St→Prop)(r:ρ)(j:Nat)(s:St):xF M X (.inr r) (.exit j) s=X r (.exit j) s:=nr rfl
theorem Qu{σ ρ:Type}(M:σ→St→Prop)(X:ρ→Ex→St→Prop)(r:ρ)(s:St):xF M X (.inr r) .ret s=X r .ret s:=nr rfl
theorem BH{E:Env}{c:SC}{σ ρ:Type}(f:σ→Option (σ⊕ρ))(M:σ→St→Prop)(X:ρ→Ex→St→Prop)
  (hstep: ∀v s o,M v s→f v=some o→Br E c (xF M X o) s){v:σ}{s:St}{r:ρ}(h:Fb f v=some r)(hM:M v s):Br E (.loop c) (X r) s:=by
 obtain⟨n,hn⟩:=aI h
 induction n generalizing v s with
 |zero=>simp [ul]at hn
 |succ n ih=>
  simp only [ul]at hn
  cases hf:f v with
  |none=>simp [hf]at hn
  |some o=>
   obtain⟨ex,s1,h1,h2⟩:=hstep v s o hM hf
   cases o with
   |inl v'=>
    simp only [hf]at hn
    cases ex with
    |normal=>
     obtain⟨ex',s2,h3,h4⟩:=ih (l6 hn) h2 hn
     refine⟨ex',s2, ?_,h4⟩
     simp only [FK]at h3 ⊢;rw [kr,h1];exact h3
    |exit id=>exact h2.elim
    |ret=>exact h2.elim
   |inr r'=>
    simp only [hf,Option.some.injEq]at hn;subst hn
    cases ex with
    |normal=>exact h2.elim
    |exit id=>exact⟨_,s1,by simp only [FK];rw [kr,h1],h2⟩
    |ret=>exact⟨_,s1,by simp only [FK];rw [kr,h1],h2⟩
def AQ{α:Type}(c:α→D)(xs:List α):List D:=xs.map c
def eY{α:Type}(c:α→List D)(xs:List α):List D:=xs.flatMap c
section
variable {α:Type} (c:α→D)
theorem Vm:AQ c []=[]:=nr rfl
theorem KW(x:α)(xs:List α):AQ c (x::xs)=c x::AQ c xs:=nr rfl
theorem aJ(xs:List α):(AQ c xs).length=xs.length:=by simp [AQ]
theorem qc[Inhabited α](xs:List α)(i:Nat)(h:i<xs.length):(AQ c xs).getD i .undef=c (xs.getD i default):=by
 simp [AQ,Le,h]
theorem A9W[Inhabited α](xs:List α)(i:Nat)(h:i<xs.length):(AQ c xs)[i]? =some (c (xs.getD i default)):=by
 simp [AQ,Le,h]
theorem xG(xs:List α)(i:Nat)(y:α):(AQ c xs).set i (c y)=AQ c (xs.set i y):=by simp [AQ]
theorem um(xs ys:List α):AQ c xs++AQ c ys=AQ c (xs++ys):=by simp [AQ]
theorem A1P(xs:List α)(n:Nat):(AQ c xs).take n=AQ c (xs.take n):=by simp [AQ]
theorem A1Q(xs:List α)(n:Nat):(AQ c xs).drop n=AQ c (xs.drop n):=by simp [AQ]
theorem aK(xs:List α)(h: ∀x,(c x).hasObj=false):BB (AQ c xs)=false:=by
 induction xs with
 |nil=>rfl
 |cons x xs ih=>simp only [KW,BB,h,ih];rfl
theorem A42(xs:List α)(h: ∀x,F3 (c x)=some (c x)):ED (AQ c xs)=some (AQ c xs):=by
 induction xs with
 |nil=>rfl
 |cons x xs ih=>simp only [KW,ED,h,ih];rfl
theorem A1R(c:α→List D)(c':α→List D)(e:TypeId)(xs:List α)(h: ∀x,ED (c x)=some (c' x)):ED (AQ (fun x=>D.own e (c x)) xs)=some (AQ (fun x=>D.sl e (c' x)) xs):=by
 induction xs with
 |nil=>rfl
 |cons x xs ih=>simp only [KW,ED,F3,h,ih];rfl
theorem zT(xs:List α)(h: ∀x,Fj (c x)=false):F4 (AQ c xs)=false:=by
 induction xs with
 |nil=>rfl
 |cons x xs ih=>simp only [KW,F4,h,ih];rfl
theorem jG(xs:List α)(h: ∀x,EE (c x)=true):(AQ c xs).all EE=true:=by simp [AQ,h]
end
section
variable {α:Type} (c:α→List D) (n:Nat)
theorem xH:eY c []=[]:=nr rfl
theorem TE(x:α)(xs:List α):eY c (x::xs)=c x++eY c xs:=nr rfl
theorem aL(xs ys:List α):eY c xs++eY c ys=eY c (xs++ys):=by simp [eY]
theorem aM(h: ∀x,(c x).length=n)(xs:List α):(eY c xs).length=xs.length*n:=by
 induction xs with
 |nil=>simp [xH]
 |cons x xs ih=>simp only [TE,Nf,h,ih,Lb,Nat.succ_mul];omega
theorem qd(h: ∀x,(c x).length=n)(xs:List α): ∀(i:Nat),(eY c xs).drop (i*n)=eY c (xs.drop i):=by
 induction xs with
 |nil=>intro i;simp [xH]
 |cons x xs ih=>
  intro i
  cases i with
  |zero=>simp
  |succ i=>
   rw [TE,List.drop_append,List.drop_succ_cons,←ih i,h,Nat.succ_mul];have e1:(c x).drop (i*n+n)=[]:=List.drop_eq_nil_of_le (by rw [h];omega)
   rw [e1,Nat.add_sub_cancel];rfl
theorem uo(xs:List α)(h: ∀x,BB (c x)=false):BB (eY c xs)=false:=by
 have app: ∀(as bs:List D),BB (as++bs)=(BB as||BB bs):=by
  intro as bs
  induction as with
  |nil=>simp [BB]
  |cons a as ih=>simp [BB,ih,Bool.or_assoc]
 induction xs with
 |nil=>rfl
 |cons x xs ih=>rw [TE,app,h,ih];rfl
theorem qf: ∀(as bs as' bs':List D),ED as=some as'→ED bs=some bs'→ED (as++bs)=some (as'++bs'):=by
 intro as
 induction as with
 |nil=>intro bs as' bs' h1 h2;simp [ED]at h1;subst h1;simpa using h2
 |cons a as ih=>
  intro bs as' bs' h1 h2;simp only [ED,KI,Dp]at h1;obtain⟨a',ha,as1,has,rfl⟩:=h1;simp only [Wm,ED,ha,ih _ _ _ has h2];rfl
theorem xI(xs:List α)(h: ∀x,ED (c x)=some (c x)):ED (eY c xs)=some (eY c xs):=by
 induction xs with
 |nil=>rfl
 |cons x xs ih=>rw [TE];exact qf _ _ _ _ (h x) ih
theorem fu(as bs:List D):F4 (as++bs)=(F4 as||F4 bs):=by
 induction as with
 |nil=>simp [F4]
 |cons a as ih=>simp [F4,ih,Bool.or_assoc]
theorem jH(xs:List α)(h: ∀x,F4 (c x)=false):F4 (eY c xs)=false:=by
 induction xs with
 |nil=>rfl
 |cons x xs ih=>rw [TE,fu,h,ih];rfl
end
def spl{α:Type}:List α→Nat→List α→List α
 |xs,_,[]=>xs
 |xs,c,y::ys=>spl (xs.set c y) (c+1) ys
theorem uq{α:Type}(c:α→D): ∀(ys xs:List α) (n:Nat),D8 (AQ c xs) n (AQ c ys)=AQ c (spl xs n ys):=by
 intro ys
 induction ys with
 |nil=>intro xs n;cases xs<;>rfl
 |cons y ys ih=>
  intro xs n
  have h1:D8 (AQ c xs) n (AQ c (y::ys))=D8 ((AQ c xs).set n (c y)) (n+1) (AQ c ys):=by
   rw [KW];cases AQ c xs<;>rfl
  rw [h1,xG,ih];rfl
theorem ut{α:Type}: ∀(ys xs:List α) (n:Nat),n+ys.length≤xs.length→spl xs n ys=xs.take n++(ys++xs.drop (n+ys.length)):=by
 intro ys
 induction ys with
 |nil=>intro xs n _;simp [spl]
 |cons y ys ih=>
  intro xs n h;simp only [Lb]at h;unfold spl;rw [ih (xs.set n y) (n+1) (by simp;omega)]
  have h1:(xs.set n y).take (n+1)=xs.take n++[y]:=by
   rw [jh (by simp;omega),oK,List.take_set_of_le (Dh _)]
  rw [h1,List.drop_set_of_lt (by omega),Lb,show n+1+ys.length=n+(ys.length+1) by omega,OC];rfl
theorem Ak{α β:Type}{o:Option α}{f:α→Option β}{r:β}(h:o.bind f=some r): ∃a,o=some a∧f a=some r:=by
 cases o with
 |none=>cases h
 |some a=>exact⟨a,rfl,h⟩
theorem ES{α:Type}{c:Prop}[Decidable c]{o:Option α}{r:α}(h:ck c o=some r):c∧o=some r:=by
 unfold ck at h
 split at h
 ·rename_i hc;exact⟨hc,h⟩
 ·cases h
section
variable {α:Type} (c:α→D)
theorem iS{α:Type}{c:Prop}[Decidable c]{a b:Option α}{r:α}(h:(if c then a else b)=some r):(c∧a=some r)∨(¬c∧b=some r):=by
 by_cases hc:c
 ·rw [if_pos hc]at h;exact .inl ⟨hc,h⟩
 ·rw [if_neg hc]at h;exact .inr ⟨hc,h⟩
theorem GX{α:Type}{c d:Prop}[Decidable c][Decidable d]{o:Option α}{r:α}(h:ck c (ck d o)=some r):c∧d∧o=some r:=⟨(ES h).1,ES (ES h).2⟩
theorem Q3{α:Type}{c d e:Prop}[Decidable c][Decidable d][Decidable e]{o:Option α}{r:α}(h:ck c (ck d (ck e o))=some r):c∧d∧e∧o=some r:=⟨(ES h).1,GX (ES h).2⟩
theorem A1S{α:Type}{c d e f:Prop}[Decidable c][Decidable d][Decidable e][Decidable f]{o:Option α}{r:α}(h:ck c (ck d (ck e (ck f o)))=some r):c∧d∧e∧f∧o=some r:=⟨(ES h).1,Q3 (ES h).2⟩
theorem zU(xs:List α)(y:α)(ds:List D):AQ c xs++(c y::ds)=AQ c (xs++[y])++ds:=by simp [AQ]
theorem A1T(c:α→List D)(e:TypeId)(xs:List α)(h: ∀x,ED (c x)=some (c x)):ED (AQ (fun x=>D.own e (c x)) xs)=some (AQ (fun x=>D.sl e (c x)) xs):=A1R c c e xs h
def YN(c:α→D):Option α→D
 |some a=>c a
 |none=> .undef
theorem xJ(xs:List α):AQ (YN c) (xs.map some)=AQ c xs:=by simp [AQ,Function.comp_def,YN]
theorem aN(xs:List (Option α))(n:Nat):(AQ (YN c) xs).set n .undef=AQ (YN c) (xs.set n none):=by simp [AQ,List.map_set,YN]
theorem A1U(xs:List (Option α))(n:Nat)(y:α):(AQ (YN c) xs).set n (c y)=AQ (YN c) (xs.set n (some y)):=by simp [AQ,List.map_set,YN]
theorem A1V(xs:List α):(xs.map some).length=xs.length:=by simp
theorem qg(xs:List α)(n:Nat):(AQ c xs).set n .undef=AQ (YN c) ((xs.map some).set n none):=by rw [←aN,xJ]
theorem A44(xs:List (Option α))(n:Nat):AQ (YN (YN c)) ((xs.map some).set n none)=AQ (YN c) (xs.set n none):=by rw [←qg,aN]
theorem A1W(xs:List α)(n:Nat)(y:α):(xs.map some).set n (some y)=(xs.set n y).map some:=List.map_set.symm
theorem A45(n:Nat)(k:IntKind)(x:Int):List.replicate n (D.int k x)=AQ (D.int k) (List.replicate n x):=by simp [AQ]
theorem A46(n:Nat)(e:TypeId):List.replicate n (D.own e [])=AQ (fun x=>D.own e (AQ (D.int .i64) x)) (List.replicate n []):=by simp [AQ]
theorem A1X(n:Nat)(x:Bool):List.replicate n (D.bool x)=AQ D.bool (List.replicate n x):=by simp [AQ]
variable [Inhabited α] {T:Tys}
theorem AME(e:TypeId)(n:Int)(xs:List α)(hk:T.known e=true)(hz:T.size e=1)(hn:0≤n∧n.toNat<xs.length):zR T e n (some (e,AQ c xs,none))=some (.cptr [c (xs.getD n.toNat default)]):=by
 rw [AJo e n (AQ c xs) hk hz (by simpa [AQ] using hn),qc c xs _ hn.2]
end
theorem AMF:(true==false)=false:=nr rfl
theorem AMG:(false==true)=false:=nr rfl
theorem qh{α:Type}(c:α→List D)(e:TypeId)(xs:List α):BB (AQ (fun x=>D.own e (c x)) xs)= !xs.isEmpty:=by
 cases xs with
 |nil=>rfl
 |cons x xs=>simp [KW,BB,D.hasObj]
section
variable {pm:Pm} {s:St} {dst:Option Tmp}
end
def BP(xs:List (Int×Int))(n:Nat):Int:=(xs.getD n default).1
def Ck(xs:List (Int×Int))(n:Nat):Int:=(xs.getD n default).2
def Au(k l:IntKind)(xs:List (Int×Int)):List D:=eY (fun x=>[D.int k x.1,D.int l x.2]) xs
theorem CR(k l:IntKind):Au k l []=[]:=nr rfl
theorem Qv(k l:IntKind)(x:Int×Int)(xs:List (Int×Int)):Au k l (x::xs)=D.int k x.1::D.int l x.2::Au k l xs:=nr rfl
theorem TF(k l:IntKind)(xs:List (Int×Int)):(Au k l xs).length=xs.length*2:=aM _ 2 (fun _=>rfl) xs
theorem jI(k l:IntKind)(v:Int): ∀(xs:List (Int×Int)) (n:Nat),n<xs.length→(Au k l xs).set (n*2) (D.int k v)=Au k l (xs.set n (v,Ck xs n)):=by
 intro xs
 induction xs with
 |nil=>intro n h;simp at h
 |cons x xs ih=>
  intro n h
  cases n with
  |zero=>rfl
  |succ n=>
   have:=ih n (by simpa using h)
   rw [Qv,Nat.succ_mul,oO,oO,oO,this,Qv];rfl
theorem jJ(k l:IntKind)(v:Int): ∀(xs:List (Int×Int)) (n:Nat),n<xs.length→(Au k l xs).set (n*2+1) (D.int l v)=Au k l (xs.set n (BP xs n,v)):=by
 intro xs
 induction xs with
 |nil=>intro n h;simp at h
 |cons x xs ih=>
  intro n h
  cases n with
  |zero=>rfl
  |succ n=>
   have:=ih n (by simpa using h)
   rw [Qv,Nat.succ_mul,show n*2+2+1=n*2+1+1+1 by omega,oO,oO,oO,this,Qv];rfl
theorem zV(k l:IntKind)(xs:List (Int×Int))(a b:Int):Au k l xs++[D.int k a,D.int l b]=Au k l (xs++[(a,b)]):=aL _ xs [(a,b)]
theorem uu(k l:IntKind)(xs:List (Int×Int))(a b:Int)(ds:List D):Au k l xs++(D.int k a::D.int l b::ds)=Au k l (xs++[(a,b)])++ds:=by
 rw [←zV,OC];rfl
theorem zW(k l:IntKind)(xs:List (Int×Int))(n:Nat):(Au k l xs).drop (n*2)=Au k l (xs.drop n):=qd _ 2 (fun _=>rfl) xs n
theorem Xu(k l:IntKind)(xs:List (Int×Int)):BB (Au k l xs)=false:=uo _ xs (fun _=>by simp [BB,D.hasObj])
theorem A1Y(k l:IntKind)(xs:List (Int×Int)):ED (Au k l xs)=some (Au k l xs):=xI _ xs (fun _=>rfl)
theorem uw(k l:IntKind)(xs:List (Int×Int)):F4 (Au k l xs)=false:=jH _ xs (fun _=>rfl)
theorem A1Z(k l:IntKind)(n:Nat)(a b:Int):(List.replicate n [D.int k a,D.int l b]).flatten=Au k l (List.replicate n (a,b)):=by
 simp [Au,eY,List.flatMap_def]
def q4a(xs:List (Int×Int×Int×Int))(n:Nat):Int:=(xs.getD n default).1
def q4b(xs:List (Int×Int×Int×Int))(n:Nat):Int:=(xs.getD n default).2.1
def q4c(xs:List (Int×Int×Int×Int))(n:Nat):Int:=(xs.getD n default).2.2.1
def q4d(xs:List (Int×Int×Int×Int))(n:Nat):Int:=(xs.getD n default).2.2.2
def OV(xs:List (Int×Int×Int×Int)):List D:=eY (fun x=>[D.int .i64 x.1,D.int .i64 x.2.1,D.int .i64 x.2.2.1,D.int .i64 x.2.2.2]) xs
theorem zX(x:Int×Int×Int×Int)(xs:List (Int×Int×Int×Int)):OV (x::xs)=D.int .i64 x.1::D.int .i64 x.2.1::D.int .i64 x.2.2.1::D.int .i64 x.2.2.2::OV xs:=nr rfl
theorem Xv(xs:List (Int×Int×Int×Int)):(OV xs).length=xs.length*4:=aM _ 4 (fun _=>rfl) xs
theorem zY(xs:List (Int×Int×Int×Int))(a b c d:Int):OV xs++[D.int .i64 a,D.int .i64 b,D.int .i64 c,D.int .i64 d]=OV (xs++[(a,b,c,d)]):=aL _ xs [(a,b,c,d)]
theorem uy(xs:List (Int×Int×Int×Int))(a b c d:Int)(ds:List D):OV xs++(D.int .i64 a::D.int .i64 b::D.int .i64 c::D.int .i64 d::ds)=OV (xs++[(a,b,c,d)])++ds:=by
 rw [←zY,OC];rfl
theorem zZ(xs:List (Int×Int×Int×Int))(n:Nat):(OV xs).drop (n*4)=OV (xs.drop n):=qd _ 4 (fun _=>rfl) xs n
theorem A1a(xs:List (Int×Int×Int×Int)):ED (OV xs)=some (OV xs):=xI _ xs (fun _=>rfl)
theorem uz(xs:List (Int×Int×Int×Int)):F4 (OV xs)=false:=jH _ xs (fun _=>rfl)
theorem A5E{T:Tys}(e:TypeId)(xs:List (Int×Int×Int×Int))(h:T.size e=4):T.len e (OV xs)=xs.length:=by
 unfold Tys.len;rw [h,if_neg (by decide),Xv,Nat.mul_div_cancel _ (by decide)]
theorem AMH{T:Tys}(e:TypeId)(n:Int)(xs:List (Int×Int×Int×Int))(hk:T.known e=true)(hz:T.size e=4)(hn:0≤n∧n.toNat<xs.length):zR T e n (some (e,OV xs,none))=some (.cptr [D.int .i64 (q4a xs n.toNat),D.int .i64 (q4b xs n.toNat),D.int .i64 (q4c xs n.toNat),D.int .i64 (q4d xs n.toNat)]):=by
 simp only [zR,hk,A5E e xs hz];rw [if_pos ⟨trivial,trivial,hn.1,hn.2⟩,hz,zZ,ed hn.2,zX];unfold q4a q4b q4c q4d;rw [Le,Kh hn.2];rfl
section
variable {T:Tys} {pm:Pm} {s:St} {t:TypeId}
theorem A1b(k l:IntKind)(e:TypeId)(xs:List (Int×Int))(h:T.size e=2):T.len e (Au k l xs)=xs.length:=by
 unfold Tys.len;rw [h,if_neg (by decide),TF,Nat.mul_div_cancel _ (by decide)]
theorem AMI(k l:IntKind)(e:TypeId)(n:Int)(xs:List (Int×Int))(hk:T.known e=true)(hz:T.size e=2)(hn:0≤n∧n.toNat<xs.length):zR T e n (some (e,Au k l xs,none))=some (.cptr [D.int k (BP xs n.toNat),D.int l (Ck xs n.toNat)]):=by
 simp only [zR,hk,A1b k l e xs hz];rw [if_pos ⟨trivial,trivial,hn.1,hn.2⟩,hz,zW,ed hn.2,Qv];unfold BP Ck;rw [Le,Kh hn.2];rfl
theorem AMJ(k l:IntKind)(e:TypeId)(n:Int)(xs:List (Int×Int))(L:AJ)(a b:Nat)(hk:T.known e=true)(hz:T.size e=2)(hn:0≤n∧n.toNat<xs.length):zR T e n (some (e,Au k l xs,some (L,a,b)))=some (.pe L (n.toNat*2) a b):=by
 simp only [zR,hk,A1b k l e xs hz];rw [if_pos ⟨trivial,trivial,hn.1,hn.2⟩,hz]
def sq1(T:Tys)(pm:Pm)(t:TypeId)(u:Tmp)(a b:D)(s:St):Option D→Nat→AJ→Option St
 |some (.own e xs),c,L=>if T.known t&&T.isStruct t&&pm.wr (L.headD 0)&&EE a&&EE b&&(T.size t==2)&&decide (c+2≤xs.length)&& !a.hasObj&& !b.hasObj&& !BB xs then some (s.set L (.own e ((xs.set c a).set (c+1) b)))else oD T pm t (.tmp u) (some (.agg [a,b],s))
 |_,_,_=>oD T pm t (.tmp u) (some (.agg [a,b],s))
theorem AMK(u:Tmp)(a b:D)(L:AJ)(c n m:Nat)(h:s.v u= .pe L c n m):oD T pm t (.tmp u) (some (.agg [a,b],s))=sq1 T pm t u a b s (s.look pm L n m) c L:=by
 cases hl:s.look pm L n m with
 |none=>rfl
 |some o=>
  cases o<;>try rfl
  rename_i e xs
  simp only [sq1];split
  ·rename_i hc
   simp only [Gb,beq_iff_eq,decide_eq_true_eq,OT]at hc;obtain⟨⟨⟨⟨⟨⟨⟨⟨⟨hk,hs⟩,hw⟩,ha⟩,hb⟩,hz⟩,hl2⟩,ha2⟩,hb2⟩,hx2⟩:=hc;simp only [oD,ev,h,K9,hl,D.asCells,D.isAgg,D.cells,D.withCells,hk,hs,hw,hz,YD,ha,hb,List.all_nil,Bool.and_self,Lb,Sd,beq_self_eq_true,fF,D.hasObj,BB,ha2,hb2,hx2,Bool.or_self,OB,if_false,D8];rw [if_pos (by simpa using hl2)]
  ·rfl
theorem AML(u:Tmp)(a b:D)(L:AJ)(c n m:Nat)(h:s.v u= .pe L c n m):sw1 T pm t u [a,b] s (.pe L c n m)=sq1 T pm t u a b s (s.look pm L n m) c L:=by
 rw [←AMK u a b L c n m h];rfl
theorem vB(k l:IntKind)(xs:List (Int×Int))(n:Nat)(a b:Int)(h:n<xs.length):((Au k l xs).set (n*2) (D.int k a)).set (n*2+1) (D.int l b)=Au k l (xs.set n (a,b)):=by
 rw [jI k l a xs n h,jJ k l b _ n (by simpa using h),List.set_set]
 congr 2
 simp [BP,Le,h]
theorem AMM(k l:IntKind)(u:Tmp)(a b:Int)(L:AJ)(e:TypeId)(n:Nat)(xs:List (Int×Int))(hk:T.known t=true)(hs:T.isStruct t=true)(hw:pm.wr (L.headD 0)=true)(hz:T.size t=2)(h:n<xs.length):
  sq1 T pm t u (.int k a) (.int l b) s (some (.own e (Au k l xs))) (n*2) L=some (s.set L (.own e (Au k l (xs.set n (a,b))))):=by
 simp only [sq1];rw [if_pos,vB k l xs n a b h];simp only [hk,hs,hw,hz,EE,TF,Xu,D.hasObj,Gb,decide_eq_true_eq,beq_self_eq_true,Bool.not_false,and_true,true_and];omega
end
set_option linter.defProp false
def AEW:=A7 @uq (A7 @qh (A7 @AME (A7 @aJ (A7 @A9W (A7 @qc (A7 @xG (A7 @um (A7 @zU (A7 @A1P (A7 @A1Q (A7 @aK (A7 @A42 (A7 @A1T (A7 @zT (A7 @jG (A7 @A46 (A7 @xJ (A7 @A1V (A7 @qg (A7 @A1W (A7 (A7 @A44 @aN) (A7 @A1U (A7 @A45 (A7 @A1X (A7 @AMF @AMG)))))))))))))))))))))))))
theorem tk2(a b:D)(l:List D):List.take 2 (a::b::l)=[a,b]:=nr rfl
theorem tk4(a b c d:D)(l:List D):List.take 4 (a::b::c::d::l)=[a,b,c,d]:=nr rfl
theorem tk7(a b c d e f g:D)(l:List D):List.take 7 (a::b::c::d::e::f::g::l)=[a,b,c,d,e,f,g]:=nr rfl
theorem dr0(l:List D):List.drop 0 l=l:=nr rfl
theorem dr1(a:D)(l:List D):List.drop 1 (a::l)=l:=nr rfl
theorem dr4(a0 a1 a2 a3:D)(l:List D):List.drop 4 (a0::a1::a2::a3::l)=l:=nr rfl
theorem dr7(a0 a1 a2 a3 a4 a5 a6:D)(l:List D):List.drop 7 (a0::a1::a2::a3::a4::a5::a6::l)=l:=nr rfl
theorem AEX{n m:Nat}(h:n<m):n*2<m*2:=by omega
theorem AEY{n m:Nat}(h:n<m):n*2+1<m*2:=by omega
def xc2:=A7 @Nat.add_zero (A7 @Xv (A7 @uy (A7 @A1a (A7 @uz (A7 @A5E (A7 @AMH (A7 @TF (A7 @uu (A7 @Xu (A7 @A1Y (A7 @uw (A7 @A1Z (A7 @A1b (A7 @AMI (A7 @AMJ (A7 @AML (A7 @tk2 (A7 @tk7 (A7 @tk4 (A7 @dr0 (A7 @dr1 (A7 @dr4 (A7 @dr7 (A7 @AEX (A7 @AEY (A7 @jI (A7 @jJ (A7 @List.length_set.{0} (@AMM)))))))))))))))))))))))))))))
def Ei:=A7 @implies_true.{1} (A7 @Option.bind_some.{0,0} (A7 @Option.map_some.{0,0} (A7 @Option.isSome_some.{0} (A7 @List.contains_cons.{0} (A7 @List.contains_nil.{0} (A7 @List.getD_cons_zero.{0} (A7 @List.getD_cons_succ.{0} (A7 @List.getD_nil.{0} (A7 @List.length_cons.{0} (A7 @List.length_nil.{0} (A7 @List.size_toArray.{0} (A7 @List.toList_toArray.{0} (A7 @List.zip_cons_cons.{0,0} (A7 @List.zip_nil_left.{0,0} (A7 @List.append_nil.{0} (A7 @List.nil_append.{0} (A7 @List.cons_append.{0} (A7 @List.map_cons.{0,0} (A7 @List.map_nil.{0,0} (A7 @List.replicate_succ.{0} (A7 @List.replicate_zero.{0} (A7 @List.set_cons_zero.{0} (A7 @List.set_cons_succ.{0} (A7 @List.set_set.{0} (A7 @List.all_cons.{0} (A7 @List.any_cons.{0} (A7 @List.any_nil.{0} (A7 @List.all_nil.{0} (A7 @List.getElem?_cons_zero.{0} (A7 @List.getElem?_cons_succ.{0} (A7 @List.getElem?_nil.{0} (@beq_self_eq_true.{0}))))))))))))))))))))))))))))))))
end Dv
namespace Dv
open Go
section
variable {σ ρ α β:Type}
theorem Cf(f:σ→Option (σ⊕ρ))(st:Nat→σ): ∀(n:Nat) (r:ρ),(∀i,i<n→f (st i)=some (.inl (st (i+1))))→f (st n)=some (.inr r)→Fb f (st 0)=some r:=by
 intro n r h e
 have key: ∀k,k≤n→Fb f (st (n-k))=some r:=by
  intro k
  induction k with
  |zero=>intro _;exact Hy e
  |succ k ih=>
   intro hk;have h1:=h (n-(k+1)) (by omega)
   rw [QB h1,show n-(k+1)+1=n-k by omega]
   exact ih (by omega)
 have:=key n (Dh _)
 rwa [Nat.sub_self]at this
theorem Rc(f:σ→Option (σ⊕ρ))(I:Nat→σ→Prop)(Q:ρ→Prop)(step: ∀n s,I n s→(∃s' m,f s=some (.inl s')∧m<n∧I m s')∨(∃r,f s=some (.inr r)∧Q r)):
  ∀(n:Nat) (s:σ),I n s→ ∃r,Fb f s=some r∧Q r:=by
 intro n
 induction n using Nat.strongRecOn with
 |_ n ih=>
  intro s hI;rcases step n s hI with⟨s',m,h1,h2,h3⟩|⟨r,h1,h2⟩
  ·rw [QB h1];exact ih m h2 s' h3
  ·exact⟨r,Hy h1,h2⟩
theorem qi(f:σ→Option (σ⊕ρ))(mk:Nat→β→σ)(P:Nat→β→Prop)(xs:List α)(g:β→α→β)(fin:β→ρ)
  (h: ∀(i:Nat) (b:β) (hi:i<xs.length),P i b→f (mk i b)=some (.inl (mk (i+1) (g b xs[i])))∧P (i+1) (g b xs[i]))
  (e: ∀b,P xs.length b→f (mk xs.length b)=some (.inr (fin b)))(b0:β)(h0:P 0 b0):Fb f (mk 0 b0)=some (fin (xs.foldl g b0))∧P xs.length (xs.foldl g b0):=by
 have key: ∀(k:Nat) (b:β),k≤xs.length→P (xs.length-k) b→Fb f (mk (xs.length-k) b)=some (fin ((xs.drop (xs.length-k)).foldl g b))∧P xs.length ((xs.drop (xs.length-k)).foldl g b):=by
  intro k
  induction k with
  |zero=>intro b _ hp;simp only [Nat.sub_zero,List.drop_length,List.foldl_nil]at hp ⊢;exact⟨Hy (e b hp),hp⟩
  |succ k ih=>
   intro b hk hp;have hl:xs.length-(k+1)<xs.length:=by omega
   obtain⟨h1,h2⟩:=h (xs.length-(k+1)) b hl hp;rw [ed hl,YB,QB h1];have e1:xs.length-(k+1)+1=xs.length-k:=by omega
   rw [e1]at h2 ⊢;exact ih _ (by omega) h2
 have:=key xs.length b0 (Dh _) (by rwa [Nat.sub_self])
 rwa [Nat.sub_self,YC]at this
end
theorem Uk{n:Nat}{P:Nat→Bool}(h: ¬ ∀i,i<n→P i=true): ∃m,m<n∧P m=false∧ ∀i,i<m→P i=true:=by
 induction n with
 |zero=>exact absurd (fun i hi=>absurd hi (Nat.not_lt_zero _)) h
 |succ n ih=>
  by_cases hn: ∀i,i<n→P i=true
  ·refine⟨n,Nat.lt_succ_self _, ?_,hn⟩
   cases hp:P n with
   |false=>rfl
   |true=>exact absurd (fun i hi=>by rcases Nat.lt_succ_iff_lt_or_eq.1 hi with h1|rfl;exact hn i h1;exact hp) h
  ·obtain⟨m,h1,h2,h3⟩:=ih hn
   exact⟨m,by omega,h2,h3⟩
theorem DV{n:Nat}{P:Nat→Bool}:(List.range n).all P=true↔ ∀i,i<n→P i=true:=by
 simp [KN]
theorem qj{σ ρ:Type}(f:σ→Option (σ⊕ρ))(st:Nat→σ)(n:Nat)(P:Nat→Bool)(bad good:ρ)
  (h: ∀i,i<n→(∀j,j<i→P j=true)→f (st i)=if P i=true then some (.inl (st (i+1)))else some (.inr bad))(e:(∀j,j<n→P j=true)→f (st n)=some (.inr good)):Fb f (st 0)=some (if(List.range n).all P=true then good else bad):=by
 by_cases hp: ∀i,i<n→P i=true
 ·rw [if_pos (DV.2 hp)];refine Cf f st n good (fun i hi=> ?_) (e hp);rw [h i hi (fun j hj=>hp j (by omega)),if_pos (hp i hi)]
 ·rw [if_neg (fun hc=>hp (DV.1 hc))];obtain⟨m,h1,h2,h3⟩:=Uk hp;refine Cf f st m bad (fun i hi=> ?_) ?_
  ·rw [h i (by omega) (fun j hj=>h3 j (by omega)),if_pos (h3 i hi)]
  ·rw [h m h1 h3,h2];rfl
theorem Fe{σ ρ:Type}(f:σ→Option (σ⊕ρ))(st:Nat→σ)(n:Nat)(P:Nat→Bool)(bad good:ρ)
  (h: ∀i,i<n→f (st i)=if P i=true then some (.inl (st (i+1)))else some (.inr bad))(e:f (st n)=some (.inr good)):Fb f (st 0)=some (if(List.range n).all P=true then good else bad):=
 qj f st n P bad good (fun i hi _=>h i hi) (fun _=>e)
theorem aO{α:Type}[Inhabited α](p:α→Bool)(xs:List α):(List.range xs.length).all (fun i=>p (xs.getD i default))=xs.all p:=by
 rw [VE,DV,KN]
 constructor
 ·intro h x hx;obtain⟨i,hi,rfl⟩:=jm hx;have:=h i hi
  rwa [Le,Kh hi]at this
 ·intro h i hi;rw [Le,Kh hi];exact h _ (Nh hi)
theorem TG{α:Type}[DecidableEq α][Inhabited α](a b:List α)(hl:a.length=b.length):(List.range a.length).all (fun i=>decide (a.getD i default=b.getD i default))=decide (a=b):=by
 by_cases he:a=b
 ·subst he;simp
 ·rw [decide_eq_false he,Jw];intro hc;rw [DV]at hc;refine he (VC hl fun i h1 h2=> ?_);have:=hc i h1
  rw [Le,Le,Kh h1,Kh h2]at this;simpa using this
theorem aP{α γ:Type}(f:List γ×Int→Option ((List γ×Int)⊕List γ))(xs:List α)(g:α→γ)(z:γ)
  (h: ∀(i:Nat) (hi:i<xs.length) (out:List γ),out.length=xs.length→f (out,(i:Int))=some (.inl (out.set i (g xs[i]),((i+1:Nat):Int))))
  (e: ∀out:List γ,out.length=xs.length→f (out,(xs.length:Int))=some (.inr out)):Fb f (List.replicate xs.length z,0)=some (xs.map g):=by
 have key:=Cf f (fun i=>((xs.take i).map g++List.replicate (xs.length-i) z,(i:Int))) xs.length (xs.map g) ?_ ?_
 ·simpa using key
 ·intro i hi;have:=h i hi ((xs.take i).map g++List.replicate (xs.length-i) z) (by simp;omega)
  rw [this];have e1:xs.length-i=(xs.length-(i+1))+1:=by omega
  have e2:i-((xs.take i).map g).length=0:=by simp;omega
  rw [e1,yI,List.set_append_right _ _ (by simp;omega),e2,List.set_cons_zero,jh hi,List.map_append,OC];rfl
 ·simp only [oQ,Nat.sub_self,List.replicate_zero,VD];exact e _ (by simp)
theorem PZ{α γ:Type}(f:List γ×Int→Option ((List γ×Int)⊕List γ))(xs:List α)(g:α→γ)
  (h: ∀(i:Nat) (hi:i<xs.length) (out:List γ),out.length=i→f (out,(i:Int))=some (.inl (out++[g xs[i]],((i+1:Nat):Int))))
  (e: ∀out:List γ,out.length=xs.length→f (out,(xs.length:Int))=some (.inr out)):Fb f ([],0)=some (xs.map g):=by
 have key:=Cf f (fun i=>((xs.take i).map g,(i:Int))) xs.length (xs.map g) ?_ ?_
 ·simpa using key
 ·intro i hi;have:=h i hi ((xs.take i).map g) (by simp;omega)
  rw [this,jh hi,List.map_append];rfl
 ·simp only [oQ];exact e _ (by simp)
theorem K4(i:Nat)(h:i<4611686018427387904):IntKind.i64.wrap ((i:Int)+1)=((i+1:Nat):Int):=by
 rw [I7 _ (by omega)];rfl
theorem Ao{α:Type}[Inhabited α](xs:List α)(i:Nat)(h:i<xs.length):xs.getD i default=xs[i]:=by
 rw [Le,Kh h];rfl
theorem Gr{α:Type}[Inhabited α](xs:List α)(i:Nat)(h:i<xs.length):xs.getD (i:Int).toNat default=xs[i]:=by
 rw [EC];exact Ao xs i h
theorem BL{α:Type}{c:Prop}[Decidable c]{o:Option α}(h:c):ck c o=o:=if_pos h
theorem CL{i n:Nat}(h:i<n):(i:Int)<(n:Int):=by omega
theorem Az(n:Nat): ¬(n:Int)<(n:Int):=by omega
theorem Ff{i n:Nat}(h:i<n):0≤(i:Int)∧(i:Int).toNat<n:=by omega
theorem KX{α:Type}[Inhabited α](a b:List α)(i:Nat)(h:i=a.length)(hb:0<b.length):(a++b).getD i default=b[0]:=by
 subst h;rw [Le,RN (Dh _),Nat.sub_self,Kh hb];rfl
end Dv
namespace Dv
open Go
def jK(x:Int×Int):List D:=[D.int .i64 x.1,D.int .i64 x.2]
def A1c(xs:List (Int×Int)):Prop:=xs.length≤maxLen∧ ∀x∈xs,I64 x.1∧I64 x.2
def vC(xss:List (List (Int×Int))):Prop:=xss.length≤maxLen∧ ∀xs∈xss,A1c xs
section
variable {T:Tys} {t e a:TypeId} {d:D}
theorem A47{ds:List D}(he:T.ty e= .struct [a,a])(ha:T.ty a= .int .i64)(h:Shp T e ds): ∃x:Int×Int,ds=jK x∧I64 x.1∧I64 x.2:=by
 obtain⟨hl,hx⟩:=jE he h;rcases ds with _|⟨d0,_|⟨d1,_|⟨_,_⟩⟩⟩<;>simp at hl
 obtain⟨p,h0,hl0⟩:=aH ha (hx 0 a d0 rfl rfl);obtain⟨q,h1,hl1⟩:=aH ha (hx 1 a d1 rfl rfl);simp only [List.cons.injEq,and_true]at h0 h1;subst h0 h1
 exact⟨(p,q),rfl,hl0,hl1⟩
theorem A1d{ds:List D}(ht:T.ty t= .slice e)(he:T.ty e= .struct [a,a])(ha:T.ty a= .int .i64)(h:Shp T t ds): ∃xs,ds=[.sl e (eY jK xs)]∧A1c xs:=by
 obtain⟨xss,rfl,hx,hl⟩:=Vl ht h
 have: ∀xss:List (List D),(∀xs,xs∈xss→Shp T e xs)→ ∃ys,xss.flatten=eY jK ys∧ys.length=xss.length∧ ∀y∈ys,I64 y.1∧I64 y.2:=by
  intro xss
  induction xss with
  |nil=>intro _;exact⟨[],rfl,rfl,by simp⟩
  |cons xs xss ih=>
   intro hx;obtain⟨n,rfl,hn⟩:=A47 he ha (hx xs (KM));obtain⟨ys,h1,h2,h3⟩:=ih (fun q hq=>hx q (RL _ hq))
   refine⟨n::ys,by rw [oP,h1];rfl,by simp [h2],fun y hy=> ?_⟩
   rcases SK.1 hy with rfl|hy
   ·exact hn
   ·exact h3 y hy
 obtain⟨ys,h1,h2,h3⟩:=this xss hx
 exact⟨ys,by rw [h1],by omega,h3⟩
theorem za{e2:TypeId}{ds:List D}(ht:T.ty t= .slice e)(he:T.ty e= .slice e2)(he2:T.ty e2= .struct [a,a])(ha:T.ty a= .int .i64)(h:Shp T t ds): ∃xss,ds=[.sl e (AQ (fun x=> .sl e2 (eY jK x)) xss)]∧vC xss:=by
 obtain⟨xss,rfl,hx,hl⟩:=Vl ht h
 have: ∀xss:List (List D),(∀xs,xs∈xss→Shp T e xs)→ ∃ys,xss.flatten=AQ (fun x=> .sl e2 (eY jK x)) ys∧ys.length=xss.length∧ ∀y∈ys,A1c y:=by
  intro xss
  induction xss with
  |nil=>intro _;exact⟨[],rfl,rfl,by simp⟩
  |cons xs xss ih=>
   intro hx;obtain⟨n,rfl,hn⟩:=A1d he he2 ha (hx xs (KM));obtain⟨ys,h1,h2,h3⟩:=ih (fun q hq=>hx q (RL _ hq))
   refine⟨n::ys,by rw [oP,h1];rfl,by simp [h2],fun y hy=> ?_⟩
   rcases SK.1 hy with rfl|hy
   ·exact hn
   ·exact h3 y hy
 obtain⟨ys,h1,h2,h3⟩:=this xss hx
 exact⟨ys,by rw [h1],by omega,h3⟩
theorem vD{b c e2:TypeId}(ht:T.ty t= .struct [b,c,c])(hb:T.ty b= .slice e)(he:T.ty e= .slice e2)(he2:T.ty e2= .struct [a,a])(ha:T.ty a= .int .i64)(hc:T.ty c= .slice a)(h:Arg T t d):
  ∃es is js,d= .agg [.sl e (AQ (fun x=> .sl e2 (eY jK x)) es),.sl a (KV is),.sl a (KV js)]∧vC es∧A1N is∧A1N js:=by
 obtain⟨ds,rfl,hl,hx⟩:=jF ht h;rcases ds with _|⟨d0,_|⟨d1,_|⟨d2,_|⟨_,_⟩⟩⟩⟩<;>simp at hl
 obtain⟨es,h0,hl0⟩:=za hb he he2 ha (hx 0 b d0 rfl rfl);obtain⟨is,h1,hl1⟩:=l5 hc ha (hx 1 c d1 rfl rfl);obtain⟨js,h2,hl2⟩:=l5 hc ha (hx 2 c d2 rfl rfl);simp only [List.cons.injEq,and_true]at h0 h1 h2;subst h0 h1 h2
 exact⟨es,is,js,rfl,hl0,hl1,hl2⟩
end
end Dv
