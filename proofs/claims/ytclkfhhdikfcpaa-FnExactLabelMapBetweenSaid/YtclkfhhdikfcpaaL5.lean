/- Value semantics for Go code, part 5: typed lists, loops as functions. Conditions: none beyond those in each lemma. -/
import Derived.Test.YtclkfhhdikfcpaaL4
set_option linter.unusedSimpArgs false
set_option linter.unusedVariables false
namespace Dv
open Go
set_option maxRecDepth 10000
def ck{α:Type}(c:Prop)[Decidable c](o:Option α):Option α:=if c then o else none
section
variable {σ ρ:Type}
def Za(f:σ→Option (σ⊕ρ)):Nat→σ→Option ρ
 |0,_=>none
 |n+1,s=>
  match f s with
  |none=>none
  |some (.inl s')=>Za f n s'
  |some (.inr r)=>some r
open Classical in
noncomputable def Iw(f:σ→Option (σ⊕ρ))(s:σ):Option ρ:=if h: ∃r n,Za f n s=some r then some h.choose else none
theorem Y1{f:σ→Option (σ⊕ρ)}: ∀ {n m:Nat} {s:σ} {r:ρ},n≤m→Za f n s=some r→Za f m s=some r:=by
 intro n
 induction n with
 |zero=>intro m s r _ h;simp [Za]at h
 |succ n ih=>
  intro m s r hm h
  cases m with
  |zero=>omega
  |succ m=>
   simp only [Za]at h ⊢
   cases hs:f s with
   |none=>simp [hs]at h
   |some q=>
    cases q with
    |inl s'=>simp only [hs]at h ⊢;exact ih (by omega) h
    |inr r'=>simp only [hs]at h ⊢;exact h
theorem Vr{f:σ→Option (σ⊕ρ)}{n:Nat}{s:σ}{r:ρ}(h:Za f n s=some r):Iw f s=some r:=by
 unfold Iw;have hx: ∃r n,Za f n s=some r:=⟨r,n,h⟩;rw [dif_pos hx];obtain⟨n',h'⟩:=hx.choose_spec;have h1:=Y1 (Nat.le_max_left n n') h;have h2:=Y1 (Nat.le_max_right n n') h';rw [h1]at h2;exact h2.symm
theorem NA{f:σ→Option (σ⊕ρ)}{s:σ}{r:ρ}(h:Iw f s=some r): ∃n,Za f n s=some r:=by
 unfold Iw at h
 split at h
 ·rename_i hx
  simp only [Option.some.injEq]at h;subst h;exact hx.choose_spec
 ·cases h
theorem IX{f:σ→Option (σ⊕ρ)}{s s':σ}(h:f s=some (.inl s')):Iw f s=Iw f s':=by
 cases hi:Iw f s' with
 |some r=>
  obtain⟨n,hn⟩:=NA hi;exact Vr (n:=n+1) (by simp only [Za,h];exact hn)
 |none=>
  cases hj:Iw f s with
  |none=>rfl
  |some r=>
   obtain⟨n,hn⟩:=NA hj
   cases n with
   |zero=>simp [Za]at hn
   |succ n=>
    simp only [Za,h]at hn;rw [Vr hn]at hi;cases hi
theorem Dy{f:σ→Option (σ⊕ρ)}{s:σ}{r:ρ}(h:f s=some (.inr r)):Iw f s=some r:=Vr (n:=1) (by simp [Za,h])
end
def aN{σ ρ:Type}(M:σ→St→Prop)(X:ρ→Ex→St→Prop):σ⊕ρ→Ex→St→Prop
 | .inl v,.normal,s=>M v s
 | .inl _,_,_=>False
 | .inr _,.normal,_=>False
 | .inr r,ex,s=>X r ex s
theorem DN{σ ρ:Type}(M:σ→St→Prop)(X:ρ→Ex→St→Prop)(v:σ)(s:St):aN M X (.inl v) .normal s=M v s:=nr rfl
theorem DR{σ ρ:Type}(M:σ→St→Prop)(X:ρ→Ex→St→Prop)(r:ρ)(j:Nat)(s:St):aN M X (.inr r) (.exit j) s=X r (.exit j) s:=nr rfl
theorem DT{σ ρ:Type}(M:σ→St→Prop)(X:ρ→Ex→St→Prop)(r:ρ)(s:St):aN M X (.inr r) .ret s=X r .ret s:=nr rfl
theorem CX{E:Env}{c:SC}{σ ρ:Type}(f:σ→Option (σ⊕ρ))(M:σ→St→Prop)(X:ρ→Ex→St→Prop)
  (hstep: ∀v s o,M v s→f v=some o→D6 E c (aN M X o) s){v:σ}{s:St}{r:ρ}(h:Iw f v=some r)(hM:M v s):D6 E (.loop c) (X r) s:=by
 obtain⟨n,hn⟩:=NA h
 induction n generalizing v s with
 |zero=>simp [Za]at hn
 |succ n ih=>
  simp only [Za]at hn
  cases hf:f v with
  |none=>simp [hf]at hn
  |some o=>
   obtain⟨ex,s1,h1,h2⟩:=hstep v s o hM hf
   cases o with
   |inl v'=>
    simp only [hf]at hn
    cases ex with
    |normal=>
     obtain⟨ex',s2,h3,h4⟩:=ih (Vr hn) h2 hn
     refine⟨ex',s2, ?_,h4⟩
     simp only [EJ]at h3 ⊢;rw [Vl,h1];exact h3
    |exit id=>exact h2.elim
    |ret=>exact h2.elim
   |inr r'=>
    simp only [hf,Option.some.injEq]at hn;subst hn
    cases ex with
    |normal=>exact h2.elim
    |exit id=>exact⟨_,s1,by simp only [EJ];rw [Vl,h1],h2⟩
    |ret=>exact⟨_,s1,by simp only [EJ];rw [Vl,h1],h2⟩
def A9{α:Type}(c:α→D)(xs:List α):List D:=xs.map c
def zu{α:Type}(c:α→List D)(xs:List α):List D:=xs.flatMap c
section
variable {α:Type} (c:α→D)
theorem P7:A9 c []=[]:=nr rfl
theorem IL(x:α)(xs:List α):A9 c (x::xs)=c x::A9 c xs:=nr rfl
theorem Zb(xs:List α):(A9 c xs).length=xs.length:=by simp [A9]
theorem Y2[Inhabited α](xs:List α)(i:Nat)(h:i<xs.length):(A9 c xs).getD i .undef=c (xs.getD i default):=by
 simp [A9,JL,h]
theorem yH[Inhabited α](xs:List α)(i:Nat)(h:i<xs.length):(A9 c xs)[i]? =some (c (xs.getD i default)):=by
 simp [A9,JL,h]
theorem lL(xs:List α)(i:Nat)(y:α):(A9 c xs).set i (c y)=A9 c (xs.set i y):=by simp [A9]
theorem Zc(xs ys:List α):A9 c xs++A9 c ys=A9 c (xs++ys):=by simp [A9]
theorem gz(xs:List α)(n:Nat):(A9 c xs).take n=A9 c (xs.take n):=by simp [A9]
theorem Zd(xs:List α)(h: ∀x,(c x).hasObj=false):Al (A9 c xs)=false:=by
 induction xs with
 |nil=>rfl
 |cons x xs ih=>simp only [IL,Al,h,ih];rfl
theorem lM(xs:List α)(h: ∀x,Dx (c x)=some (c x)):Ey (A9 c xs)=some (A9 c xs):=by
 induction xs with
 |nil=>rfl
 |cons x xs ih=>simp only [IL,Ey,h,ih];rfl
theorem iA(c:α→List D)(c':α→List D)(e:TypeId)(xs:List α)(h: ∀x,Ey (c x)=some (c' x)):Ey (A9 (fun x=>D.own e (c x)) xs)=some (A9 (fun x=>D.sl e (c' x)) xs):=by
 induction xs with
 |nil=>rfl
 |cons x xs ih=>simp only [IL,Ey,Dx,h,ih];rfl
theorem dC(xs:List α)(h: ∀x,E8 (c x)=false):H6 (A9 c xs)=false:=by
 induction xs with
 |nil=>rfl
 |cons x xs ih=>simp only [IL,H6,h,ih];rfl
theorem dD(xs:List α)(h: ∀x,Dh (c x)=true):(A9 c xs).all Dh=true:=by simp [A9,h]
end
section
variable {α:Type} (c:α→List D) (n:Nat)
theorem Na:zu c []=[]:=nr rfl
theorem KF(x:α)(xs:List α):zu c (x::xs)=c x++zu c xs:=nr rfl
theorem Ze(h: ∀x,(c x).length=n)(xs:List α):(zu c xs).length=xs.length*n:=by
 induction xs with
 |nil=>simp [Na]
 |cons x xs ih=>simp only [KF,Jz,h,ih,Jn,Nat.succ_mul];omega
theorem Zf(xs:List α)(h: ∀x,Al (c x)=false):Al (zu c xs)=false:=by
 have app: ∀(as bs:List D),Al (as++bs)=(Al as||Al bs):=by
  intro as bs
  induction as with
  |nil=>simp [Al]
  |cons a as ih=>simp [Al,ih,Bool.or_assoc]
 induction xs with
 |nil=>rfl
 |cons x xs ih=>rw [KF,app,h,ih];rfl
end
theorem BC{α β:Type}{o:Option α}{f:α→Option β}{r:β}(h:o.bind f=some r): ∃a,o=some a∧f a=some r:=by
 cases o with
 |none=>cases h
 |some a=>exact⟨a,rfl,h⟩
theorem Bw{α:Type}{c:Prop}[Decidable c]{o:Option α}{r:α}(h:ck c o=some r):c∧o=some r:=by
 unfold ck at h
 split at h
 ·rename_i hc;exact⟨hc,h⟩
 ·cases h
section
variable {α:Type} (c:α→D)
theorem dE(xs:List α)(y:α)(ds:List D):A9 c xs++(c y::ds)=A9 c (xs++[y])++ds:=by simp [A9]
theorem iB(c:α→List D)(e:TypeId)(xs:List α)(h: ∀x,Ey (c x)=some (c x)):Ey (A9 (fun x=>D.own e (c x)) xs)=some (A9 (fun x=>D.sl e (c x)) xs):=iA c c e xs h
def Qu(c:α→D):Option α→D
 |some a=>c a
 |none=> .undef
theorem aO(xs:List α):A9 (Qu c) (xs.map some)=A9 c xs:=by simp [A9,Function.comp_def,Qu]
theorem Sl(xs:List (Option α))(n:Nat):(A9 (Qu c) xs).set n .undef=A9 (Qu c) (xs.set n none):=by simp [A9,List.map_set,Qu]
theorem iC(xs:List (Option α))(n:Nat)(y:α):(A9 (Qu c) xs).set n (c y)=A9 (Qu c) (xs.set n (some y)):=by simp [A9,List.map_set,Qu]
theorem iD(xs:List α):(xs.map some).length=xs.length:=by simp
theorem Y3(xs:List α)(n:Nat):(A9 c xs).set n .undef=A9 (Qu c) ((xs.map some).set n none):=by rw [←Sl,aO]
theorem lN(xs:List (Option α))(n:Nat):A9 (Qu (Qu c)) ((xs.map some).set n none)=A9 (Qu c) (xs.set n none):=by rw [←Y3,Sl]
theorem iE(xs:List α)(n:Nat)(y:α):(xs.map some).set n (some y)=(xs.set n y).map some:=List.map_set.symm
theorem lQ(n:Nat)(k:IntKind)(x:Int):List.replicate n (D.int k x)=A9 (D.int k) (List.replicate n x):=by simp [A9]
theorem lS(n:Nat)(e:TypeId):List.replicate n (D.own e [])=A9 (fun x=>D.own e (A9 (D.int .i64) x)) (List.replicate n []):=by simp [A9]
theorem iF(n:Nat)(x:Bool):List.replicate n (D.bool x)=A9 D.bool (List.replicate n x):=by simp [A9]
variable [Inhabited α] {T:Tys}
theorem A90(e:TypeId)(n:Int)(xs:List α)(hk:T.known e=true)(hz:T.size e=1)(hn:0≤n∧n.toNat<xs.length):xI T e n (some (e,A9 c xs,none))=some (.cptr [c (xs.getD n.toNat default)]):=by
 rw [A78 e n (A9 c xs) hk hz (by simpa [A9] using hn),Y2 c xs _ hn.2]
end
theorem A91:(true==false)=false:=nr rfl
theorem A92:(false==true)=false:=nr rfl
theorem A93{s:St}(dst:Option Tmp)(u:Tmp)(i:Nat)(L:AA)(n m:Nat):XW s dst u i (some (.vw L n m))=some (s.putO dst (.vw L n m)):=by simp [XW,DI,Gd,D.hasObj,JY]
theorem Y4{α:Type}(c:α→D)(xs:List α):(A9 c xs).isEmpty=xs.isEmpty:=by cases xs<;>rfl
theorem A2a{α:Type}(c:α→D)(e:TypeId)(xs:List α):E8 (.sl e (A9 c xs))= !xs.isEmpty:=by simp only [E8,Y4]
theorem Y5{α:Type}(c:α→List D)(e:TypeId)(xs:List α):Al (A9 (fun x=>D.own e (c x)) xs)= !xs.isEmpty:=by
 cases xs with
 |nil=>rfl
 |cons x xs=>simp [IL,Al,D.hasObj]
section
variable {pm:Pm} {s:St} {dst:Option Tmp}
theorem A94(ls:List (AA×D))(r:D)(o:List D)(h:E8 r=true):xY pm s dst ls (some (r,o))=if(Ez (ls.map (·.1))&&ls.all (fun l=>pm.wr (l.1.headD 0)))=true then(I8 ls).map fun ls'=>(back false s ls').putO dst r else none:=by
 simp [xY,h]
theorem faN:I8 []=some []:=nr rfl
def fac(L:AA)(o:Option (List (AA×D))):Option D→Option (List (AA×D))
 |some c=>o.map ((L,c):: ·)
 |none=>none
theorem faC(L:AA)(c:D)(rest:List (AA×D)):I8 ((L,c)::rest)=fac L (I8 rest) (Dx c):=by
 simp only [I8];cases Dx c<;>rfl
theorem A95(L:AA)(ls:List (AA×D))(c:D):fac L (some ls) (some c)=some ((L,c)::ls):=nr rfl
end
def A2b(xs:List (Int×Int))(n:Nat):Int:=(xs.getD n default).1
def A96(xs:List (Int×Int))(n:Nat):Int:=(xs.getD n default).2
def Q4(k l:IntKind)(xs:List (Int×Int)):List D:=zu (fun x=>[D.int k x.1,D.int l x.2]) xs
theorem A8(k l:IntKind):Q4 k l []=[]:=nr rfl
theorem Nb(k l:IntKind)(x:Int×Int)(xs:List (Int×Int)):Q4 k l (x::xs)=D.int k x.1::D.int l x.2::Q4 k l xs:=nr rfl
theorem Y6(k l:IntKind)(xs:List (Int×Int)):(Q4 k l xs).length=xs.length*2:=Ze _ 2 (fun _=>rfl) xs
theorem dF(k l:IntKind)(v:Int): ∀(xs:List (Int×Int)) (n:Nat),n<xs.length→(Q4 k l xs).set (n*2) (D.int k v)=Q4 k l (xs.set n (v,A96 xs n)):=by
 intro xs
 induction xs with
 |nil=>intro n h;simp at h
 |cons x xs ih=>
  intro n h
  cases n with
  |zero=>rfl
  |succ n=>
   have:=ih n (by simpa using h)
   rw [Nb,Nat.succ_mul,VC,VC,VC,this,Nb];rfl
theorem dG(k l:IntKind)(v:Int): ∀(xs:List (Int×Int)) (n:Nat),n<xs.length→(Q4 k l xs).set (n*2+1) (D.int l v)=Q4 k l (xs.set n (A2b xs n,v)):=by
 intro xs
 induction xs with
 |nil=>intro n h;simp at h
 |cons x xs ih=>
  intro n h
  cases n with
  |zero=>rfl
  |succ n=>
   have:=ih n (by simpa using h)
   rw [Nb,Nat.succ_mul,show n*2+2+1=n*2+1+1+1 by omega,VC,VC,VC,this,Nb];rfl
theorem Y7(k l:IntKind)(xs:List (Int×Int)):Al (Q4 k l xs)=false:=Zf _ xs (fun _=>by simp [Al,D.hasObj])
section
variable {T:Tys} {pm:Pm} {s:St} {t:TypeId}
def sq1(T:Tys)(pm:Pm)(t:TypeId)(u:Tmp)(a b:D)(s:St):Option D→Nat→AA→Option St
 |some (.own e xs),c,L=>if T.known t&&T.isStruct t&&pm.wr (L.headD 0)&&Dh a&&Dh b&&(T.size t==2)&&decide (c+2≤xs.length)&& !a.hasObj&& !b.hasObj&& !Al xs then some (s.set L (.own e ((xs.set c a).set (c+1) b)))else Ya T pm t (.tmp u) (some (.agg [a,b],s))
 |_,_,_=>Ya T pm t (.tmp u) (some (.agg [a,b],s))
theorem Zg(k l:IntKind)(xs:List (Int×Int))(n:Nat)(a b:Int)(h:n<xs.length):((Q4 k l xs).set (n*2) (D.int k a)).set (n*2+1) (D.int l b)=Q4 k l (xs.set n (a,b)):=by
 rw [dF k l a xs n h,dG k l b _ n (by simpa using h),List.set_set]
 congr 2
 simp [A2b,JL,h]
theorem A97(k l:IntKind)(u:Tmp)(a b:Int)(L:AA)(e:TypeId)(n:Nat)(xs:List (Int×Int))(hk:T.known t=true)(hs:T.isStruct t=true)(hw:pm.wr (L.headD 0)=true)(hz:T.size t=2)(h:n<xs.length):
  sq1 T pm t u (.int k a) (.int l b) s (some (.own e (Q4 k l xs))) (n*2) L=some (s.set L (.own e (Q4 k l (xs.set n (a,b))))):=by
 simp only [sq1];rw [if_pos,Zg k l xs n a b h];simp only [hk,hs,hw,hz,Dh,Y6,Y7,D.hasObj,Hm,decide_eq_true_eq,beq_self_eq_true,Bool.not_false,and_true,true_and];omega
end
set_option linter.defProp false
def A98:=A7 @A93 (A7 @Y5 (A7 @A2a (A7 @A94 (A7 @faN (A7 @faC (A7 @A95 (A7 @A90 (A7 @Zb (A7 @yH (A7 @Y2 (A7 @lL (A7 @Zc (A7 @dE (A7 @gz (A7 @Zd (A7 @lM (A7 @iB (A7 @dC (A7 @dD (A7 @lS (A7 @aO (A7 @iD (A7 @Y3 (A7 @iE (A7 (A7 @lN @Sl) (A7 @iC (A7 @lQ (A7 @iF (A7 @A91 @A92)))))))))))))))))))))))))))))
theorem dr8(a0 a1 a2 a3 a4 a5 a6 a7:D)(l:List D):List.drop 8 (a0::a1::a2::a3::a4::a5::a6::a7::l)=l:=nr rfl
def xc2:=A7 @Nat.add_zero (A7 @dr8 (A7 @List.length_set.{0} (@A97)))
def A2c:=A7 @implies_true.{1} (A7 @Option.bind_some.{0,0} (A7 @Option.map_some.{0,0} (A7 @Option.isSome_some.{0} (A7 @List.contains_cons.{0} (A7 @List.contains_nil.{0} (A7 @List.getD_cons_zero.{0} (A7 @List.getD_cons_succ.{0} (A7 @List.getD_nil.{0} (A7 @List.length_cons.{0} (A7 @List.length_nil.{0} (A7 @List.size_toArray.{0} (A7 @List.toList_toArray.{0} (A7 @List.zip_cons_cons.{0,0} (A7 @List.zip_nil_left.{0,0} (A7 @List.append_nil.{0} (A7 @List.nil_append.{0} (A7 @List.cons_append.{0} (A7 @List.map_cons.{0,0} (A7 @List.map_nil.{0,0} (A7 @List.replicate_succ.{0} (A7 @List.replicate_zero.{0} (A7 @List.set_cons_zero.{0} (A7 @List.set_cons_succ.{0} (A7 @List.set_set.{0} (A7 @List.all_cons.{0} (A7 @List.any_cons.{0} (A7 @List.any_nil.{0} (A7 @List.all_nil.{0} (A7 @List.getElem?_cons_zero.{0} (A7 @List.getElem?_cons_succ.{0} (A7 @List.getElem?_nil.{0} (@beq_self_eq_true.{0}))))))))))))))))))))))))))))))))
theorem Ah:List.range 0=[]:=nr rfl
end Dv
namespace Dv
open Go
section
variable {σ ρ α β:Type}
theorem Hy(f:σ→Option (σ⊕ρ))(st:Nat→σ): ∀(n:Nat) (r:ρ),(∀i,i<n→f (st i)=some (.inl (st (i+1))))→f (st n)=some (.inr r)→Iw f (st 0)=some r:=by
 intro n r h e
 have key: ∀k,k≤n→Iw f (st (n-k))=some r:=by
  intro k
  induction k with
  |zero=>intro _;exact Dy e
  |succ k ih=>
   intro hk;have h1:=h (n-(k+1)) (by omega)
   rw [IX h1,show n-(k+1)+1=n-k by omega]
   exact ih (by omega)
 have:=key n (I7 _)
 rwa [Nat.sub_self]at this
theorem Nc(f:σ→Option (σ⊕ρ))(I:Nat→σ→Prop)(Q:ρ→Prop)(step: ∀n s,I n s→(∃s' m,f s=some (.inl s')∧m<n∧I m s')∨(∃r,f s=some (.inr r)∧Q r)):
  ∀(n:Nat) (s:σ),I n s→ ∃r,Iw f s=some r∧Q r:=by
 intro n
 induction n using Nat.strongRecOn with
 |_ n ih=>
  intro s hI;rcases step n s hI with⟨s',m,h1,h2,h3⟩|⟨r,h1,h2⟩
  ·rw [IX h1];exact ih m h2 s' h3
  ·exact⟨r,Dy h1,h2⟩
theorem iG(f:σ→Option (σ⊕ρ))(st:Nat→σ)(xs:List α)(g:α→Option ρ)(r:ρ)
  (h: ∀(i:Nat) (hi:i<xs.length),f (st i)=match g xs[i]with|none=>some (.inl (st (i+1)))|some q=>some (.inr q))
  (e:f (st xs.length)=some (.inr r)):Iw f (st 0)=some ((xs.findSome? g).getD r):=by
 have key: ∀(k:Nat),k≤xs.length→Iw f (st (xs.length-k))=some (((xs.drop (xs.length-k)).findSome? g).getD r):=by
  intro k
  induction k with
  |zero=>intro _;simp only [Nat.sub_zero,List.drop_length,List.findSome?_nil,Option.getD_none];exact Dy e
  |succ k ih=>
   intro hk;have hl:xs.length-(k+1)<xs.length:=by omega
   have h1:=h (xs.length-(k+1)) hl;rw [ah hl,List.findSome?_cons]
   cases hg:g xs[xs.length-(k+1)]with
   |none=>
    rw [hg]at h1;rw [IX h1,show xs.length-(k+1)+1=xs.length-k by omega]
    exact ih (by omega)
   |some q=>
    rw [hg]at h1;rw [Dy h1];rfl
 have:=key xs.length (I7 _)
 rwa [Nat.sub_self,List.drop_zero]at this
theorem iH(f:σ→Option (σ⊕ρ))(mk:Nat→β→σ)(P:Nat→β→Prop)(xs:List α)(g:β→α→β)(I6:β→ρ)
  (h: ∀(i:Nat) (b:β) (hi:i<xs.length),P i b→f (mk i b)=some (.inl (mk (i+1) (g b xs[i])))∧P (i+1) (g b xs[i]))
  (e: ∀b,P xs.length b→f (mk xs.length b)=some (.inr (I6 b)))(b0:β)(h0:P 0 b0):Iw f (mk 0 b0)=some (I6 (xs.foldl g b0))∧P xs.length (xs.foldl g b0):=by
 have key: ∀(k:Nat) (b:β),k≤xs.length→P (xs.length-k) b→Iw f (mk (xs.length-k) b)=some (I6 ((xs.drop (xs.length-k)).foldl g b))∧P xs.length ((xs.drop (xs.length-k)).foldl g b):=by
  intro k
  induction k with
  |zero=>intro b _ hp;simp only [Nat.sub_zero,List.drop_length,List.foldl_nil]at hp ⊢;exact⟨Dy (e b hp),hp⟩
  |succ k ih=>
   intro b hk hp;have hl:xs.length-(k+1)<xs.length:=by omega
   obtain⟨h1,h2⟩:=h (xs.length-(k+1)) b hl hp;rw [ah hl,Tp,IX h1];have e1:xs.length-(k+1)+1=xs.length-k:=by omega
   rw [e1]at h2 ⊢;exact ih _ (by omega) h2
 have:=key xs.length b0 (I7 _) (by rwa [Nat.sub_self])
 rwa [Nat.sub_self,List.drop_zero]at this
end
theorem Sm{n:Nat}{P:Nat→Bool}(h: ¬ ∀i,i<n→P i=true): ∃m,m<n∧P m=false∧ ∀i,i<m→P i=true:=by
 induction n with
 |zero=>exact absurd (fun i hi=>absurd hi (Nat.not_lt_zero _)) h
 |succ n ih=>
  by_cases hn: ∀i,i<n→P i=true
  ·refine⟨n,Nat.lt_succ_self _, ?_,hn⟩
   cases hp:P n with
   |false=>rfl
   |true=>exact absurd (fun i hi=>by rcases Nat.lt_succ_iff_lt_or_eq.1 hi with h1|rfl;exact hn i h1;exact hp) h
  ·obtain⟨m,h1,h2,h3⟩:=ih hn
   exact⟨m,by omega,h2,h3⟩
theorem F5{n:Nat}{P:Nat→Bool}:(List.range n).all P=true↔ ∀i,i<n→P i=true:=by
 simp [Ho]
theorem Y8{σ ρ:Type}(f:σ→Option (σ⊕ρ))(st:Nat→σ)(n:Nat)(P:Nat→Bool)(bad good:ρ)
  (h: ∀i,i<n→(∀j,j<i→P j=true)→f (st i)=if P i=true then some (.inl (st (i+1)))else some (.inr bad))(e:(∀j,j<n→P j=true)→f (st n)=some (.inr good)):Iw f (st 0)=some (if(List.range n).all P=true then good else bad):=by
 by_cases hp: ∀i,i<n→P i=true
 ·rw [if_pos (F5.2 hp)];refine Hy f st n good (fun i hi=> ?_) (e hp);rw [h i hi (fun j hj=>hp j (by omega)),if_pos (hp i hi)]
 ·rw [if_neg (fun hc=>hp (F5.1 hc))];obtain⟨m,h1,h2,h3⟩:=Sm hp;refine Hy f st m bad (fun i hi=> ?_) ?_
  ·rw [h i (by omega) (fun j hj=>h3 j (by omega)),if_pos (h3 i hi)]
  ·rw [h m h1 h3,h2];rfl
theorem JO{σ ρ:Type}(f:σ→Option (σ⊕ρ))(st:Nat→σ)(n:Nat)(P:Nat→Bool)(bad good:ρ)
  (h: ∀i,i<n→f (st i)=if P i=true then some (.inl (st (i+1)))else some (.inr bad))(e:f (st n)=some (.inr good)):Iw f (st 0)=some (if(List.range n).all P=true then good else bad):=
 Y8 f st n P bad good (fun i hi _=>h i hi) (fun _=>e)
theorem P8{α:Type}[Inhabited α](p:α→Bool)(xs:List α):(List.range xs.length).all (fun i=>p (xs.getD i default))=xs.all p:=by
 rw [Bool.eq_iff_iff,F5,Ho]
 constructor
 ·intro h x hx;obtain⟨i,hi,rfl⟩:=RV hx;have:=h i hi
  rwa [JL,IC hi]at this
 ·intro h i hi;rw [JL,IC hi];exact h _ (Ij hi)
theorem Sn{α:Type}[DecidableEq α][Inhabited α](a b:List α)(hl:a.length=b.length):(List.range a.length).all (fun i=>decide (a.getD i default=b.getD i default))=decide (a=b):=by
 by_cases he:a=b
 ·subst he;simp
 ·rw [decide_eq_false he,Gm];intro hc;rw [F5]at hc;refine he (List.ext_getElem hl fun i h1 h2=> ?_);have:=hc i h1
  rw [JL,JL,IC h1,IC h2]at this;simpa using this
theorem iI{α γ:Type}(f:List γ×Int→Option ((List γ×Int)⊕List γ))(xs:List α)(g:α→γ)(z:γ)
  (h: ∀(i:Nat) (hi:i<xs.length) (out:List γ),out.length=xs.length→f (out,(i:Int))=some (.inl (out.set i (g xs[i]),((i+1:Nat):Int))))
  (e: ∀out:List γ,out.length=xs.length→f (out,(xs.length:Int))=some (.inr out)):Iw f (List.replicate xs.length z,0)=some (xs.map g):=by
 have key:=Hy f (fun i=>((xs.take i).map g++List.replicate (xs.length-i) z,(i:Int))) xs.length (xs.map g) ?_ ?_
 ·simpa using key
 ·intro i hi;have:=h i hi ((xs.take i).map g++List.replicate (xs.length-i) z) (by simp;omega)
  rw [this];have e1:xs.length-i=(xs.length-(i+1))+1:=by omega
  have e2:i-((xs.take i).map g).length=0:=by simp;omega
  rw [e1,ak,aj _ _ (by simp;omega),e2,List.set_cons_zero,dm hi,List.map_append,Pb];rfl
 ·simp only [VD,Nat.sub_self,List.replicate_zero,O9];exact e _ (by simp)
theorem iJ{α γ:Type}(f:List γ×Int→Option ((List γ×Int)⊕List γ))(xs:List α)(g:α→γ)
  (h: ∀(i:Nat) (hi:i<xs.length) (out:List γ),out.length=i→f (out,(i:Int))=some (.inl (out++[g xs[i]],((i+1:Nat):Int))))
  (e: ∀out:List γ,out.length=xs.length→f (out,(xs.length:Int))=some (.inr out)):Iw f ([],0)=some (xs.map g):=by
 have key:=Hy f (fun i=>((xs.take i).map g,(i:Int))) xs.length (xs.map g) ?_ ?_
 ·simpa using key
 ·intro i hi;have:=h i hi ((xs.take i).map g) (by simp;omega)
  rw [this,dm hi,List.map_append];rfl
 ·simp only [VD];exact e _ (by simp)
theorem Ny(i:Nat)(h:i<4611686018427387904):IntKind.i64.wrap ((i:Int)+1)=((i+1:Nat):Int):=by
 rw [IK _ (by omega)];rfl
theorem Av{α:Type}[Inhabited α](xs:List α)(i:Nat)(h:i<xs.length):xs.getD i default=xs[i]:=by
 rw [JL,IC h];rfl
theorem Iy{α:Type}[Inhabited α](xs:List α)(i:Nat)(h:i<xs.length):xs.getD (i:Int).toNat default=xs[i]:=by
 rw [KP];exact Av xs i h
theorem CU{α:Type}{c:Prop}[Decidable c]{o:Option α}(h:c):ck c o=o:=if_pos h
theorem GJ{i n:Nat}(h:i<n):(i:Int)<(n:Int):=by omega
theorem CY(n:Nat): ¬(n:Int)<(n:Int):=by omega
theorem Fh{i n:Nat}(h:i<n):0≤(i:Int)∧(i:Int).toNat<n:=by omega
theorem DU{α:Type}[Inhabited α](a b:List α)(i:Nat)(h:i=a.length)(hb:0<b.length):(a++b).getD i default=b[0]:=by
 subst h;rw [JL,O8 (I7 _),Nat.sub_self,IC hb];rfl
end Dv
namespace Dv
open Go
section
variable {T:Tys} {t e a:TypeId} {d:D}
end
end Dv
