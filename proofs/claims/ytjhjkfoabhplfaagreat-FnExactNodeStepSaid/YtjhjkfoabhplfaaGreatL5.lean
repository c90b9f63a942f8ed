/- Value semantics for Go code, part 5: typed lists, loops as functions. Conditions: none beyond those in each lemma. -/
import Derived.Test.YtjhjkfoabhplfaaGreatL4
set_option linter.unusedSimpArgs false
set_option linter.unusedVariables false
namespace Dv
open Go
set_option maxRecDepth 10000
def ck{α:Type}(c:Prop)[Decidable c](o:Option α):Option α:=if c then o else none
section
variable {σ ρ:Type}
def p8(f:σ→Option (σ⊕ρ)):Nat→σ→Option ρ
 |0,_=>none
 |n+1,s=>
  match f s with
  |none=>none
  |some (.inl s')=>p8 f n s'
  |some (.inr r)=>some r
open Classical in
noncomputable def Hu(f:σ→Option (σ⊕ρ))(s:σ):Option ρ:=if h: ∃r n,p8 f n s=some r then some h.choose else none
theorem kz{f:σ→Option (σ⊕ρ)}: ∀ {n m:Nat} {s:σ} {r:ρ},n≤m→p8 f n s=some r→p8 f m s=some r:=by
 intro n
 induction n with
 |zero=>intro m s r _ h;simp [p8]at h
 |succ n ih=>
  intro m s r hm h
  cases m with
  |zero=>omega
  |succ m=>
   simp only [p8]at h ⊢
   cases hs:f s with
   |none=>simp [hs]at h
   |some q=>
    cases q with
    |inl s'=>simp only [hs]at h ⊢;exact ih (by omega) h
    |inr r'=>simp only [hs]at h ⊢;exact h
theorem fB{f:σ→Option (σ⊕ρ)}{n:Nat}{s:σ}{r:ρ}(h:p8 f n s=some r):Hu f s=some r:=by
 unfold Hu;have hx: ∃r n,p8 f n s=some r:=⟨r,n,h⟩;rw [dif_pos hx];obtain⟨n',h'⟩:=hx.choose_spec;have h1:=kz (Nat.le_max_left n n') h;have h2:=kz (Nat.le_max_right n n') h';rw [h1]at h2;exact h2.symm
theorem Ye{f:σ→Option (σ⊕ρ)}{s:σ}{r:ρ}(h:Hu f s=some r): ∃n,p8 f n s=some r:=by
 unfold Hu at h
 split at h
 ·rename_i hx
  simp only [Option.some.injEq]at h;subst h;exact hx.choose_spec
 ·cases h
theorem NM{f:σ→Option (σ⊕ρ)}{s s':σ}(h:f s=some (.inl s')):Hu f s=Hu f s':=by
 cases hi:Hu f s' with
 |some r=>
  obtain⟨n,hn⟩:=Ye hi;exact fB (n:=n+1) (by simp only [p8,h];exact hn)
 |none=>
  cases hj:Hu f s with
  |none=>rfl
  |some r=>
   obtain⟨n,hn⟩:=Ye hj
   cases n with
   |zero=>simp [p8]at hn
   |succ n=>
    simp only [p8,h]at hn;rw [fB hn]at hi;cases hi
theorem GV{f:σ→Option (σ⊕ρ)}{s:σ}{r:ρ}(h:f s=some (.inr r)):Hu f s=some r:=fB (n:=1) (by simp [p8,h])
end
def qy{σ ρ:Type}(M:σ→St→Prop)(X:ρ→Ex→St→Prop):σ⊕ρ→Ex→St→Prop
 | .inl v,.normal,s=>M v s
 | .inl _,_,_=>False
 | .inr _,.normal,_=>False
 | .inr r,ex,s=>X r ex s
theorem FV{σ ρ:Type}(M:σ→St→Prop)(X:ρ→Ex→St→Prop)(v:σ)(s:St):qy M X (.inl v) .normal s=M v s:=nr rfl
theorem KF{σ ρ:Type}(M:σ→St→Prop)(X:ρ→Ex→St→Prop)(r:ρ)(j:Nat)(s:St):qy M X (.inr r) (.exit j) s=X r (.exit j) s:=nr rfl
theorem U2{σ ρ:Type}(M:σ→St→Prop)(X:ρ→Ex→St→Prop)(r:ρ)(s:St):qy M X (.inr r) .ret s=X r .ret s:=nr rfl
theorem BD{E:Env}{c:SC}{σ ρ:Type}(f:σ→Option (σ⊕ρ))(M:σ→St→Prop)(X:ρ→Ex→St→Prop)
  (hstep: ∀v s o,M v s→f v=some o→CG E c (qy M X o) s){v:σ}{s:St}{r:ρ}(h:Hu f v=some r)(hM:M v s):CG E (.loop c) (X r) s:=by
 obtain⟨n,hn⟩:=Ye h
 induction n generalizing v s with
 |zero=>simp [p8]at hn
 |succ n ih=>
  simp only [p8]at hn
  cases hf:f v with
  |none=>simp [hf]at hn
  |some o=>
   obtain⟨ex,s1,h1,h2⟩:=hstep v s o hM hf
   cases o with
   |inl v'=>
    simp only [hf]at hn
    cases ex with
    |normal=>
     obtain⟨ex',s2,h3,h4⟩:=ih (fB hn) h2 hn
     refine⟨ex',s2, ?_,h4⟩
     simp only [FJ]at h3 ⊢;rw [eU,h1];exact h3
    |exit id=>exact h2.elim
    |ret=>exact h2.elim
   |inr r'=>
    simp only [hf,Option.some.injEq]at hn;subst hn
    cases ex with
    |normal=>exact h2.elim
    |exit id=>exact⟨_,s1,by simp only [FJ];rw [eU,h1],h2⟩
    |ret=>exact⟨_,s1,by simp only [FJ];rw [eU,h1],h2⟩
def AV{α:Type}(c:α→D)(xs:List α):List D:=xs.map c
def cat{α:Type}(c:α→List D)(xs:List α):List D:=xs.flatMap c
section
variable {α:Type} (c:α→D)
theorem fC:AV c []=[]:=nr rfl
theorem Nk(x:α)(xs:List α):AV c (x::xs)=c x::AV c xs:=nr rfl
theorem Co(xs:List α):(AV c xs).length=xs.length:=by simp [AV]
theorem l6[Inhabited α](xs:List α)(i:Nat)(h:i<xs.length):(AV c xs).getD i .undef=c (xs.getD i default):=by
 simp [AV,M8,h]
theorem A5G[Inhabited α](xs:List α)(i:Nat)(h:i<xs.length):(AV c xs)[i]? =some (c (xs.getD i default)):=by
 simp [AV,M8,h]
theorem qz(xs:List α)(i:Nat)(y:α):(AV c xs).set i (c y)=AV c (xs.set i y):=by simp [AV]
theorem p9(xs ys:List α):AV c xs++AV c ys=AV c (xs++ys):=by simp [AV]
theorem xf(xs:List α)(n:Nat):(AV c xs).take n=AV c (xs.take n):=by simp [AV]
theorem xg(xs:List α)(n:Nat):(AV c xs).drop n=AV c (xs.drop n):=by simp [AV]
theorem Yf(xs:List α)(h: ∀x,(c x).hasObj=false):Am (AV c xs)=false:=by
 induction xs with
 |nil=>rfl
 |cons x xs ih=>simp only [Nk,Am,h,ih];rfl
theorem A0y(xs:List α)(h: ∀x,ET (c x)=some (c x)):FE (AV c xs)=some (AV c xs):=by
 induction xs with
 |nil=>rfl
 |cons x xs ih=>simp only [Nk,FE,h,ih];rfl
theorem xh(c:α→List D)(c':α→List D)(e:TypeId)(xs:List α)(h: ∀x,FE (c x)=some (c' x)):FE (AV (fun x=>D.own e (c x)) xs)=some (AV (fun x=>D.sl e (c' x)) xs):=by
 induction xs with
 |nil=>rfl
 |cons x xs ih=>simp only [Nk,FE,ET,h,ih];rfl
theorem uR(xs:List α)(h: ∀x,Ez (c x)=false):Iq (AV c xs)=false:=by
 induction xs with
 |nil=>rfl
 |cons x xs ih=>simp only [Nk,Iq,h,ih];rfl
theorem bf(xs:List α)(h: ∀x,Dn (c x)=true):(AV c xs).all Dn=true:=by simp [AV,h]
end
section
variable {α:Type} (c:α→List D) (n:Nat)
theorem A0z:cat c []=[]:=nr rfl
theorem l7(x:α)(xs:List α):cat c (x::xs)=c x++cat c xs:=nr rfl
theorem pE(h: ∀x,(c x).length=n)(xs:List α):(cat c xs).length=xs.length*n:=by
 induction xs with
 |nil=>simp [A0z]
 |cons x xs ih=>simp only [l7,Ko,h,ih,Ji,Nat.succ_mul];omega
theorem pF(xs:List α)(h: ∀x,Am (c x)=false):Am (cat c xs)=false:=by
 have app: ∀(as bs:List D),Am (as++bs)=(Am as||Am bs):=by
  intro as bs
  induction as with
  |nil=>simp [Am]
  |cons a as ih=>simp [Am,ih,Bool.or_assoc]
 induction xs with
 |nil=>rfl
 |cons x xs ih=>rw [l7,app,h,ih];rfl
end
def pG{α:Type}:List α→Nat→List α→List α
 |xs,_,[]=>xs
 |xs,c,y::ys=>pG (xs.set c y) (c+1) ys
theorem Yg{α:Type}(c:α→D): ∀(ys xs:List α) (n:Nat),Cu (AV c xs) n (AV c ys)=AV c (pG xs n ys):=by
 intro ys
 induction ys with
 |nil=>intro xs n;cases xs<;>rfl
 |cons y ys ih=>
  intro xs n
  have h1:Cu (AV c xs) n (AV c (y::ys))=Cu ((AV c xs).set n (c y)) (n+1) (AV c ys):=by
   rw [Nk];cases AV c xs<;>rfl
  rw [h1,qz,ih];rfl
theorem xk{α:Type}: ∀(ys xs:List α) (n:Nat),n+ys.length≤xs.length→pG xs n ys=xs.take n++(ys++xs.drop (n+ys.length)):=by
 intro ys
 induction ys with
 |nil=>intro xs n _;simp [pG]
 |cons y ys ih=>
  intro xs n h;simp only [Ji]at h;unfold pG;rw [ih (xs.set n y) (n+1) (by simp;omega)]
  have h1:(xs.set n y).take (n+1)=xs.take n++[y]:=by
   rw [TH (by simp;omega),List.getElem_set_self,List.take_set_of_le (JE _)]
  rw [h1,List.drop_set_of_lt (by omega),Ji,show n+1+ys.length=n+(ys.length+1) by omega,TJ];rfl
theorem Aa{α β:Type}{o:Option α}{f:α→Option β}{r:β}(h:o.bind f=some r): ∃a,o=some a∧f a=some r:=by
 cases o with
 |none=>cases h
 |some a=>exact⟨a,rfl,h⟩
theorem EQ{α:Type}{c:Prop}[Decidable c]{o:Option α}{r:α}(h:ck c o=some r):c∧o=some r:=by
 unfold ck at h
 split at h
 ·rename_i hc;exact⟨hc,h⟩
 ·cases h
section
variable {α:Type} (c:α→D)
theorem iS{α:Type}{c:Prop}[Decidable c]{a b:Option α}{r:α}(h:(if c then a else b)=some r):(c∧a=some r)∨(¬c∧b=some r):=by
 by_cases hc:c
 ·rw [if_pos hc]at h;exact .inl ⟨hc,h⟩
 ·rw [if_neg hc]at h;exact .inr ⟨hc,h⟩
theorem Hw{α:Type}{c d:Prop}[Decidable c][Decidable d]{o:Option α}{r:α}(h:ck c (ck d o)=some r):c∧d∧o=some r:=⟨(EQ h).1,EQ (EQ h).2⟩
theorem XE{α:Type}{c d e:Prop}[Decidable c][Decidable d][Decidable e]{o:Option α}{r:α}(h:ck c (ck d (ck e o))=some r):c∧d∧e∧o=some r:=⟨(EQ h).1,Hw (EQ h).2⟩
theorem aH{α:Type}{c d e f:Prop}[Decidable c][Decidable d][Decidable e][Decidable f]{o:Option α}{r:α}(h:ck c (ck d (ck e (ck f o)))=some r):c∧d∧e∧f∧o=some r:=⟨(EQ h).1,XE (EQ h).2⟩
theorem uS(xs:List α)(y:α)(ds:List D):AV c xs++(c y::ds)=AV c (xs++[y])++ds:=by simp [AV]
theorem xm(c:α→List D)(e:TypeId)(xs:List α)(h: ∀x,FE (c x)=some (c x)):FE (AV (fun x=>D.own e (c x)) xs)=some (AV (fun x=>D.sl e (c x)) xs):=xh c c e xs h
def QQ(c:α→D):Option α→D
 |some a=>c a
 |none=> .undef
theorem l8[Inhabited α](o:Option α)(h:o.isSome=true):QQ c o=c (o.getD default):=by cases o with|none=>cases h|some _=>rfl
theorem fD(xs:List α):AV (QQ c) (xs.map some)=AV c xs:=by simp [AV,Function.comp_def,QQ]
theorem Yh(xs:List (Option α))(n:Nat):(AV (QQ c) xs).set n .undef=AV (QQ c) (xs.set n none):=by simp [AV,List.map_set,QQ]
theorem xn(xs:List (Option α))(n:Nat)(y:α):(AV (QQ c) xs).set n (c y)=AV (QQ c) (xs.set n (some y)):=by simp [AV,List.map_set,QQ]
theorem xq(xs:List α):(xs.map some).length=xs.length:=by simp
theorem l9(xs:List α)(n:Nat):(AV c xs).set n .undef=AV (QQ c) ((xs.map some).set n none):=by rw [←Yh,fD]
theorem A10(xs:List (Option α))(n:Nat):AV (QQ (QQ c)) ((xs.map some).set n none)=AV (QQ c) (xs.set n none):=by rw [←l9,Yh]
theorem xu(xs:List α)(n:Nat)(y:α):(xs.map some).set n (some y)=(xs.set n y).map some:=List.map_set.symm
theorem pI(ys:List α)(xs:List (Option α))(n:Nat):Cu (AV (QQ c) xs) n (AV c ys)=AV (QQ c) (pG xs n (ys.map some)):=by
 rw [←fD c ys,Yg]
theorem rA[Inhabited α]: ∀(xs:List (Option α)),(xs.all Option.isSome)=true→AV (QQ c) xs=AV c (xs.map fun o=>o.getD default)
 | [],_=>rfl
 |x::xs,h=>by
  simp only [Xo,KG]at h;show QQ c x::AV (QQ c) xs=_
  rw [l8 c x h.1,rA xs h.2];rfl
theorem A11(n:Nat)(k:IntKind)(x:Int):List.replicate n (D.int k x)=AV (D.int k) (List.replicate n x):=by simp [AV]
theorem A12(n:Nat)(e:TypeId):List.replicate n (D.own e [])=AV (fun x=>D.own e (AV (D.int .i64) x)) (List.replicate n []):=by simp [AV]
theorem xw(n:Nat)(x:Bool):List.replicate n (D.bool x)=AV D.bool (List.replicate n x):=by simp [AV]
variable [Inhabited α] {T:Tys}
theorem AH7(e:TypeId)(n:Int)(xs:List α)(hk:T.known e=true)(hz:T.size e=1)(hn:0≤n∧n.toNat<xs.length):at1 T e n (some (e,AV c xs,none))=some (.cptr [c (xs.getD n.toNat default)]):=by
 rw [AEi e n (AV c xs) hk hz (by simpa [AV] using hn),l6 c xs _ hn.2]
end
theorem AH8{s:St}(dst:Option Tmp)(u:Tmp)(i:Nat)(L:AJ)(n m:Nat):jK s dst u i (some (.vw L n m))=some (s.putO dst (.vw L n m)):=by simp [jK,Dy,Ii,D.hasObj,N7]
theorem lC{α:Type}(c:α→D)(xs:List α):(AV c xs).isEmpty=xs.isEmpty:=by cases xs<;>rfl
theorem A1q{α:Type}(c:α→D)(e:TypeId)(xs:List α):Ez (.sl e (AV c xs))= !xs.isEmpty:=by simp only [Ez,lC]
theorem pJ{α β:Type}(c:β→D)(f:α→List β)(e:TypeId)(xs:List α):Iq (AV (fun x=>D.sl e (AV c (f x))) xs)=xs.any fun x=> !(f x).isEmpty:=by
 induction xs with
 |nil=>rfl
 |cons x xs ih=>simp only [Nk,Iq,A1q,ih,List.any_cons]
theorem lD{α:Type}(c:α→List D)(e:TypeId)(xs:List α):Am (AV (fun x=>D.own e (c x)) xs)= !xs.isEmpty:=by
 cases xs with
 |nil=>rfl
 |cons x xs=>simp [Nk,Am,D.hasObj]
section
variable {pm:Pm} {s:St} {dst:Option Tmp}
theorem AH9(ls:List (AJ×D))(r:D)(o:List D)(h:Ez r=true):cb2 pm s dst ls (some (r,o))=if(FY (ls.map (·.1))&&ls.all (fun l=>pm.wr (l.1.headD 0)))=true then(Kt ls).map fun ls'=>(back false s ls').putO dst r else none:=by
 simp [cb2,h]
theorem faN:Kt []=some []:=nr rfl
def fac(L:AJ)(o:Option (List (AJ×D))):Option D→Option (List (AJ×D))
 |some c=>o.map ((L,c):: ·)
 |none=>none
theorem faC(L:AJ)(c:D)(rest:List (AJ×D)):Kt ((L,c)::rest)=fac L (Kt rest) (ET c):=by
 simp only [Kt];cases ET c<;>rfl
theorem AHA(L:AJ)(ls:List (AJ×D))(c:D):fac L (some ls) (some c)=some ((L,c)::ls):=nr rfl
end
def A13(xs:List (Int×Int))(n:Nat):Int:=(xs.getD n default).1
def A5H(xs:List (Int×Int))(n:Nat):Int:=(xs.getD n default).2
def RS(k l:IntKind)(xs:List (Int×Int)):List D:=cat (fun x=>[D.int k x.1,D.int l x.2]) xs
theorem Ad(k l:IntKind):RS k l []=[]:=nr rfl
theorem QR(k l:IntKind)(x:Int×Int)(xs:List (Int×Int)):RS k l (x::xs)=D.int k x.1::D.int l x.2::RS k l xs:=nr rfl
theorem Wx(k l:IntKind)(xs:List (Int×Int)):(RS k l xs).length=xs.length*2:=pE _ 2 (fun _=>rfl) xs
theorem xx(k l:IntKind)(xs:List (Int×Int)): ∀(n:Nat),n<xs.length→(RS k l xs)[n*2]? =some (D.int k (A13 xs n))∧(RS k l xs)[n*2+1]? =some (D.int l (A5H xs n)):=by
 induction xs with
 |nil=>intro n h;simp at h
 |cons x xs ih=>
  intro n h
  cases n with
  |zero=>exact⟨rfl,rfl⟩
  |succ n=>
   have:=ih n (by simpa using h)
   rw [QR,Nat.succ_mul];exact this
theorem uT(k l:IntKind)(v:Int): ∀(xs:List (Int×Int)) (n:Nat),n<xs.length→(RS k l xs).set (n*2) (D.int k v)=RS k l (xs.set n (v,A5H xs n)):=by
 intro xs
 induction xs with
 |nil=>intro n h;simp at h
 |cons x xs ih=>
  intro n h
  cases n with
  |zero=>rfl
  |succ n=>
   have:=ih n (by simpa using h)
   rw [QR,Nat.succ_mul,jP,jP,jP,this,QR];rfl
theorem uU(k l:IntKind)(v:Int): ∀(xs:List (Int×Int)) (n:Nat),n<xs.length→(RS k l xs).set (n*2+1) (D.int l v)=RS k l (xs.set n (A13 xs n,v)):=by
 intro xs
 induction xs with
 |nil=>intro n h;simp at h
 |cons x xs ih=>
  intro n h
  cases n with
  |zero=>rfl
  |succ n=>
   have:=ih n (by simpa using h)
   rw [QR,Nat.succ_mul,show n*2+2+1=n*2+1+1+1 by omega,jP,jP,jP,this,QR];rfl
theorem lF(k l:IntKind)(xs:List (Int×Int)):Am (RS k l xs)=false:=pF _ xs (fun _=>by simp [Am,D.hasObj])
section
variable {T:Tys} {pm:Pm} {s:St} {t:TypeId}
theorem cs2(k l:IntKind)(L:AJ)(e:TypeId)(n:Nat)(xs:List (Int×Int))(h:n<xs.length):cellsOf s L (n*2) 2 (some (.own e (RS k l xs)))=some (.agg [D.int k (A13 xs n),D.int l (A5H xs n)]):=by
 obtain⟨h0,h1⟩:=xx k l xs n h
 show(if n*2+2≤(RS k l xs).length then Dy (.agg ((List.range 2).map fun i=>Ii s L (n*2+i) ((RS k l xs).getD (n*2+i) .undef)))else none)=_
 rw [if_pos (by rw [Wx];omega),rg2,Nat.add_zero,M8,M8,h0,h1];rfl
def sq1(T:Tys)(pm:Pm)(t:TypeId)(u:Tmp)(a b:D)(s:St):Option D→Nat→AJ→Option St
 |some (.own e xs),c,L=>if T.known t&&T.isStruct t&&pm.wr (L.headD 0)&&Dn a&&Dn b&&(T.size t==2)&&decide (c+2≤xs.length)&& !a.hasObj&& !b.hasObj&& !Am xs then some (s.set L (.own e ((xs.set c a).set (c+1) b)))else jL T pm t (.tmp u) (some (.agg [a,b],s))
 |_,_,_=>jL T pm t (.tmp u) (some (.agg [a,b],s))
theorem pK(k l:IntKind)(xs:List (Int×Int))(n:Nat)(a b:Int)(h:n<xs.length):((RS k l xs).set (n*2) (D.int k a)).set (n*2+1) (D.int l b)=RS k l (xs.set n (a,b)):=by
 rw [uT k l a xs n h,uU k l b _ n (by simpa using h),List.set_set]
 congr 2
 simp [A13,M8,h]
theorem AHB(k l:IntKind)(u:Tmp)(a b:Int)(L:AJ)(e:TypeId)(n:Nat)(xs:List (Int×Int))(hk:T.known t=true)(hs:T.isStruct t=true)(hw:pm.wr (L.headD 0)=true)(hz:T.size t=2)(h:n<xs.length):
  sq1 T pm t u (.int k a) (.int l b) s (some (.own e (RS k l xs))) (n*2) L=some (s.set L (.own e (RS k l (xs.set n (a,b))))):=by
 simp only [sq1];rw [if_pos,pK k l xs n a b h];simp only [hk,hs,hw,hz,Dn,Wx,lF,D.hasObj,KG,decide_eq_true_eq,beq_self_eq_true,Bool.not_false,and_true,true_and];omega
end
set_option linter.defProp false
def A5I:=A7 @AH8 (A7 @Yg (A7 @lD (A7 @A1q (A7 @pJ (A7 @AH9 (A7 @faN (A7 @faC (A7 @AHA (A7 @AH7 (A7 @Co (A7 @A5G (A7 @l6 (A7 @qz (A7 @p9 (A7 @uS (A7 @xf (A7 @xg (A7 @Yf (A7 @A0y (A7 @xm (A7 @uR (A7 @bf (A7 @A12 (A7 @l8 (A7 @fD (A7 @xq (A7 @l9 (A7 @xu (A7 (A7 @A10 @Yh) (A7 @xn (A7 @pI (A7 @rA (A7 @A11 @xw)))))))))))))))))))))))))))))))))
theorem tk4(a b c d:D)(l:List D):List.take 4 (a::b::c::d::l)=[a,b,c,d]:=nr rfl
theorem dr0(l:List D):List.drop 0 l=l:=nr rfl
theorem dr1(a:D)(l:List D):List.drop 1 (a::l)=l:=nr rfl
theorem dr4(a0 a1 a2 a3:D)(l:List D):List.drop 4 (a0::a1::a2::a3::l)=l:=nr rfl
def xc2:=A7 @Nat.add_zero (A7 @tk4 (A7 @dr0 (A7 @dr1 (A7 @dr4 (A7 @List.length_set.{0} (@AHB))))))
def Da:=A7 @implies_true.{1} (A7 @Option.bind_some.{0,0} (A7 @Option.map_some.{0,0} (A7 @Option.isSome_some.{0} (A7 @List.contains_cons.{0} (A7 @List.contains_nil.{0} (A7 @List.getD_cons_zero.{0} (A7 @List.getD_cons_succ.{0} (A7 @List.getD_nil.{0} (A7 @List.length_cons.{0} (A7 @List.length_nil.{0} (A7 @List.size_toArray.{0} (A7 @List.toList_toArray.{0} (A7 @List.zip_cons_cons.{0,0} (A7 @List.zip_nil_left.{0,0} (A7 @List.append_nil.{0} (A7 @List.nil_append.{0} (A7 @List.cons_append.{0} (A7 @List.map_cons.{0,0} (A7 @List.map_nil.{0,0} (A7 @List.replicate_succ.{0} (A7 @List.replicate_zero.{0} (A7 @List.set_cons_zero.{0} (A7 @List.set_cons_succ.{0} (A7 @List.set_set.{0} (A7 @List.all_cons.{0} (A7 @List.any_cons.{0} (A7 @List.any_nil.{0} (A7 @List.all_nil.{0} (A7 @List.getElem?_cons_zero.{0} (A7 @List.getElem?_cons_succ.{0} (A7 @List.getElem?_nil.{0} (@beq_self_eq_true.{0}))))))))))))))))))))))))))))))))
end Dv
namespace Dv
open Go
section
variable {σ ρ α β:Type}
theorem Bv(f:σ→Option (σ⊕ρ))(st:Nat→σ): ∀(n:Nat) (r:ρ),(∀i,i<n→f (st i)=some (.inl (st (i+1))))→f (st n)=some (.inr r)→Hu f (st 0)=some r:=by
 intro n r h e
 have key: ∀k,k≤n→Hu f (st (n-k))=some r:=by
  intro k
  induction k with
  |zero=>intro _;exact GV e
  |succ k ih=>
   intro hk;have h1:=h (n-(k+1)) (by omega)
   rw [NM h1,show n-(k+1)+1=n-k by omega]
   exact ih (by omega)
 have:=key n (JE _)
 rwa [X6]at this
theorem Jk(f:σ→Option (σ⊕ρ))(I:Nat→σ→Prop)(Q:ρ→Prop)(step: ∀n s,I n s→(∃s' m,f s=some (.inl s')∧m<n∧I m s')∨(∃r,f s=some (.inr r)∧Q r)):
  ∀(n:Nat) (s:σ),I n s→ ∃r,Hu f s=some r∧Q r:=by
 intro n
 induction n using Nat.strongRecOn with
 |_ n ih=>
  intro s hI;rcases step n s hI with⟨s',m,h1,h2,h3⟩|⟨r,h1,h2⟩
  ·rw [NM h1];exact ih m h2 s' h3
  ·exact⟨r,GV h1,h2⟩
theorem xy(f:σ→Option (σ⊕ρ))(mk:Nat→β→σ)(P:Nat→β→Prop)(xs:List α)(g:β→α→β)(FX:β→ρ)
  (h: ∀(i:Nat) (b:β) (hi:i<xs.length),P i b→f (mk i b)=some (.inl (mk (i+1) (g b xs[i])))∧P (i+1) (g b xs[i]))
  (e: ∀b,P xs.length b→f (mk xs.length b)=some (.inr (FX b)))(b0:β)(h0:P 0 b0):Hu f (mk 0 b0)=some (FX (xs.foldl g b0))∧P xs.length (xs.foldl g b0):=by
 have key: ∀(k:Nat) (b:β),k≤xs.length→P (xs.length-k) b→Hu f (mk (xs.length-k) b)=some (FX ((xs.drop (xs.length-k)).foldl g b))∧P xs.length ((xs.drop (xs.length-k)).foldl g b):=by
  intro k
  induction k with
  |zero=>intro b _ hp;simp only [Nat.sub_zero,List.drop_length,List.foldl_nil]at hp ⊢;exact⟨GV (e b hp),hp⟩
  |succ k ih=>
   intro b hk hp;have hl:xs.length-(k+1)<xs.length:=by omega
   obtain⟨h1,h2⟩:=h (xs.length-(k+1)) b hl hp;rw [dI hl,X5,NM h1];have e1:xs.length-(k+1)+1=xs.length-k:=by omega
   rw [e1]at h2 ⊢;exact ih _ (by omega) h2
 have:=key xs.length b0 (JE _) (by rwa [X6])
 rwa [X6,Tu]at this
end
theorem U3{n:Nat}{P:Nat→Bool}(h: ¬ ∀i,i<n→P i=true): ∃m,m<n∧P m=false∧ ∀i,i<m→P i=true:=by
 induction n with
 |zero=>exact absurd (fun i hi=>absurd hi (Nat.not_lt_zero _)) h
 |succ n ih=>
  by_cases hn: ∀i,i<n→P i=true
  ·refine⟨n,Nat.lt_succ_self _, ?_,hn⟩
   cases hp:P n with
   |false=>rfl
   |true=>exact absurd (fun i hi=>by rcases Nat.lt_succ_iff_lt_or_eq.1 hi with h1|rfl;exact hn i h1;exact hp) h
  ·obtain⟨m,h1,h2,h3⟩:=ih hn
   exact⟨m,by omega,h2,h3⟩
theorem KO{n:Nat}{P:Nat→Bool}:(List.range n).all P=true↔ ∀i,i<n→P i=true:=by
 simp [Jr]
theorem lG{σ ρ:Type}(f:σ→Option (σ⊕ρ))(st:Nat→σ)(n:Nat)(P:Nat→Bool)(bad good:ρ)
  (h: ∀i,i<n→(∀j,j<i→P j=true)→f (st i)=if P i=true then some (.inl (st (i+1)))else some (.inr bad))(e:(∀j,j<n→P j=true)→f (st n)=some (.inr good)):Hu f (st 0)=some (if(List.range n).all P=true then good else bad):=by
 by_cases hp: ∀i,i<n→P i=true
 ·rw [if_pos (KO.2 hp)];refine Bv f st n good (fun i hi=> ?_) (e hp);rw [h i hi (fun j hj=>hp j (by omega)),if_pos (hp i hi)]
 ·rw [if_neg (fun hc=>hp (KO.1 hc))];obtain⟨m,h1,h2,h3⟩:=U3 hp;refine Bv f st m bad (fun i hi=> ?_) ?_
  ·rw [h i (by omega) (fun j hj=>h3 j (by omega)),if_pos (h3 i hi)]
  ·rw [h m h1 h3,h2];rfl
theorem PW{σ ρ:Type}(f:σ→Option (σ⊕ρ))(st:Nat→σ)(n:Nat)(P:Nat→Bool)(bad good:ρ)
  (h: ∀i,i<n→f (st i)=if P i=true then some (.inl (st (i+1)))else some (.inr bad))(e:f (st n)=some (.inr good)):Hu f (st 0)=some (if(List.range n).all P=true then good else bad):=
 lG f st n P bad good (fun i hi _=>h i hi) (fun _=>e)
theorem lH{α:Type}[Inhabited α](p:α→Bool)(xs:List α):(List.range xs.length).all (fun i=>p (xs.getD i default))=xs.all p:=by
 rw [Bool.eq_iff_iff,KO,Jr]
 constructor
 ·intro h x hx;obtain⟨i,hi,rfl⟩:=Tt hx;have:=h i hi
  rwa [M8,Ga hi]at this
 ·intro h i hi;rw [M8,Ga hi];exact h _ (GG hi)
theorem Yi{α:Type}[DecidableEq α][Inhabited α](a b:List α)(hl:a.length=b.length):(List.range a.length).all (fun i=>decide (a.getD i default=b.getD i default))=decide (a=b):=by
 by_cases he:a=b
 ·subst he;simp
 ·rw [decide_eq_false he,Ju];intro hc;rw [KO]at hc;refine he (List.ext_getElem hl fun i h1 h2=> ?_);have:=hc i h1
  rw [M8,M8,Ga h1,Ga h2]at this;simpa using this
theorem xz{α γ:Type}(f:List γ×Int→Option ((List γ×Int)⊕List γ))(xs:List α)(g:α→γ)
  (h: ∀(i:Nat) (hi:i<xs.length) (out:List γ),out.length=i→f (out,(i:Int))=some (.inl (out++[g xs[i]],((i+1:Nat):Int))))
  (e: ∀out:List γ,out.length=xs.length→f (out,(xs.length:Int))=some (.inr out)):Hu f ([],0)=some (xs.map g):=by
 have key:=Bv f (fun i=>((xs.take i).map g,(i:Int))) xs.length (xs.map g) ?_ ?_
 ·simpa using key
 ·intro i hi;have:=h i hi ((xs.take i).map g) (by simp;omega)
  rw [this,TH hi,UR];rfl
 ·simp only [Md];exact e _ (by simp)
theorem JS(i:Nat)(h:i<4611686018427387904):IntKind.i64.wrap ((i:Int)+1)=((i+1:Nat):Int):=by
 rw [Ec _ (by omega)];rfl
theorem Af{α:Type}[Inhabited α](xs:List α)(i:Nat)(h:i<xs.length):xs.getD i default=xs[i]:=by
 rw [M8,Ga h];rfl
theorem MH{α:Type}[Inhabited α](xs:List α)(i:Nat)(h:i<xs.length):xs.getD (i:Int).toNat default=xs[i]:=by
 rw [JD];exact Af xs i h
theorem BF{α:Type}{c:Prop}[Decidable c]{o:Option α}(h:c):ck c o=o:=if_pos h
theorem CV{i n:Nat}(h:i<n):(i:Int)<(n:Int):=by omega
theorem Au(n:Nat): ¬(n:Int)<(n:Int):=by omega
theorem Iu{i n:Nat}(h:i<n):0≤(i:Int)∧(i:Int).toNat<n:=by omega
theorem EG{α:Type}[Inhabited α](a b:List α)(i:Nat)(h:i=a.length)(hb:0<b.length):(a++b).getD i default=b[0]:=by
 subst h;rw [M8,RO (JE _),X6,Ga hb];rfl
end Dv
namespace Dv
open Go
section
variable {T:Tys} {t e a:TypeId} {d:D}
end
end Dv
