/- Value semantics for Go code, part 5: typed lists, loops as functions. Conditions: none beyond those in each lemma. -/
import Derived.Test.YtaogbcdlpgfplaaDoorL4
set_option linter.unusedSimpArgs false
set_option linter.unusedVariables false
namespace Dv
open Go
set_option maxRecDepth 10000
def ck{α:Type}(c:Prop)[Decidable c](o:Option α):Option α:=if c then o else none
section
variable {σ ρ:Type}
def Yj(f:σ→Option (σ⊕ρ)):Nat→σ→Option ρ
 |0,_=>none
 |n+1,s=>
  match f s with
  |none=>none
  |some (.inl s')=>Yj f n s'
  |some (.inr r)=>some r
open Classical in
noncomputable def Jk(f:σ→Option (σ⊕ρ))(s:σ):Option ρ:=if h: ∃r n,Yj f n s=some r then some h.choose else none
theorem Ww{f:σ→Option (σ⊕ρ)}: ∀ {n m:Nat} {s:σ} {r:ρ},n≤m→Yj f n s=some r→Yj f m s=some r:=by
 intro n
 induction n with
 |zero=>intro m s r _ h;simp [Yj]at h
 |succ n ih=>
  intro m s r hm h
  cases m with
  |zero=>omega
  |succ m=>
   simp only [Yj]at h ⊢
   cases hs:f s with
   |none=>simp [hs]at h
   |some q=>
    cases q with
    |inl s'=>simp only [hs]at h ⊢;exact ih (by omega) h
    |inr r'=>simp only [hs]at h ⊢;exact h
theorem Uk{f:σ→Option (σ⊕ρ)}{n:Nat}{s:σ}{r:ρ}(h:Yj f n s=some r):Jk f s=some r:=by
 unfold Jk
 have hx: ∃r n,Yj f n s=some r:=⟨r,n,h⟩
 rw [dif_pos hx]
 obtain⟨n',h'⟩:=hx.choose_spec
 have h1:=Ww (Nat.le_max_left n n') h
 have h2:=Ww (Nat.le_max_right n n') h'
 rw [h1]at h2
 exact h2.symm
theorem R4{f:σ→Option (σ⊕ρ)}{s:σ}{r:ρ}(h:Jk f s=some r): ∃n,Yj f n s=some r:=by
 unfold Jk at h
 split at h
 ·rename_i hx
  simp only [Option.some.injEq]at h
  subst h
  exact hx.choose_spec
 ·cases h
theorem JB{f:σ→Option (σ⊕ρ)}{s s':σ}(h:f s=some (.inl s')):Jk f s=Jk f s':=by
 cases hi:Jk f s' with
 |some r=>
  obtain⟨n,hn⟩:=R4 hi
  exact Uk (n:=n+1) (by simp only [Yj,h];exact hn)
 |none=>
  cases hj:Jk f s with
  |none=>rfl
  |some r=>
   obtain⟨n,hn⟩:=R4 hj
   cases n with
   |zero=>simp [Yj]at hn
   |succ n=>
    simp only [Yj,h]at hn
    rw [Uk hn]at hi;cases hi
theorem FD{f:σ→Option (σ⊕ρ)}{s:σ}{r:ρ}(h:f s=some (.inr r)):Jk f s=some r:=Uk (n:=1) (by simp [Yj,h])
end
def Zk{σ ρ:Type}(M:σ→St→Prop)(X:ρ→Ex→St→Prop):σ⊕ρ→Ex→St→Prop
 | .inl v, .normal,s=>M v s
 | .inl _,_,_=>False
 | .inr _, .normal,_=>False
 | .inr r,ex,s=>X r ex s
theorem De{σ ρ:Type}(M:σ→St→Prop)(X:ρ→Ex→St→Prop)(v:σ)(s:St):Zk M X (.inl v) .normal s=M v s:=nr rfl
theorem Df{σ ρ:Type}(M:σ→St→Prop)(X:ρ→Ex→St→Prop)(r:ρ)(j:Nat)(s:St):Zk M X (.inr r) (.exit j) s=X r (.exit j) s:=nr rfl
theorem Dh{σ ρ:Type}(M:σ→St→Prop)(X:ρ→Ex→St→Prop)(r:ρ)(s:St):Zk M X (.inr r) .ret s=X r .ret s:=nr rfl
theorem DL{E:Env}{c:SC}{σ ρ:Type}(f:σ→Option (σ⊕ρ))(M:σ→St→Prop)(X:ρ→Ex→St→Prop)
  (hstep: ∀v s o,M v s→f v=some o→Cu E c (Zk M X o) s){v:σ}{s:St}{r:ρ}(h:Jk f v=some r)(hM:M v s):Cu E (.loop c) (X r) s:=by
 obtain⟨n,hn⟩:=R4 h
 induction n generalizing v s with
 |zero=>simp [Yj]at hn
 |succ n ih=>
  simp only [Yj]at hn
  cases hf:f v with
  |none=>simp [hf]at hn
  |some o=>
   obtain⟨ex,s1,h1,h2⟩:=hstep v s o hM hf
   cases o with
   |inl v'=>
    simp only [hf]at hn
    cases ex with
    |normal=>
     obtain⟨ex',s2,h3,h4⟩:=ih (Uk hn) h2 hn
     refine⟨ex',s2, ?_,h4⟩
     simp only [Ck]at h3 ⊢
     rw [Ud,h1];exact h3
    |exit id=>exact h2.elim
    |ret=>exact h2.elim
   |inr r'=>
    simp only [hf,Option.some.injEq]at hn
    subst hn
    cases ex with
    |normal=>exact h2.elim
    |exit id=>exact⟨_,s1,by simp only [Ck];rw [Ud,h1],h2⟩
    |ret=>exact⟨_,s1,by simp only [Ck];rw [Ud,h1],h2⟩
def AJ{α:Type}(c:α→D)(xs:List α):List D:=xs.map c
def TZ{α:Type}(c:α→List D)(xs:List α):List D:=xs.flatMap c
section
variable {α:Type} (c:α→D)
theorem Zl:AJ c []=[]:=nr rfl
theorem Fz(x:α)(xs:List α):AJ c (x::xs)=c x::AJ c xs:=nr rfl
theorem Gy(xs:List α):(AJ c xs).length=xs.length:=by simp [AJ]
theorem R5[Inhabited α](xs:List α)(i:Nat)(h:i<xs.length):(AJ c xs).getD i .undef=c (xs.getD i default):=by
 simp [AJ,List.getD_eq_getElem?_getD,h]
theorem vE[Inhabited α](xs:List α)(i:Nat)(h:i<xs.length):(AJ c xs)[i]? =some (c (xs.getD i default)):=by
 simp [AJ,List.getD_eq_getElem?_getD,h]
theorem Zm(xs:List α)(i:Nat)(y:α):(AJ c xs).set i (c y)=AJ c (xs.set i y):=by simp [AJ]
theorem Yk(xs ys:List α):AJ c xs++AJ c ys=AJ c (xs++ys):=by simp [AJ]
theorem gu(xs:List α)(n:Nat):(AJ c xs).take n=AJ c (xs.take n):=by simp [AJ]
theorem gy(xs:List α)(n:Nat):(AJ c xs).drop n=AJ c (xs.drop n):=by simp [AJ]
theorem R6(xs:List α)(h: ∀x,(c x).hasObj=false):AU (AJ c xs)=false:=by
 induction xs with
 |nil=>rfl
 |cons x xs ih=>simp only [Fz,AU,h,ih];rfl
theorem lJ(xs:List α)(h: ∀x,CZ (c x)=some (c x)):Bz (AJ c xs)=some (AJ c xs):=by
 induction xs with
 |nil=>rfl
 |cons x xs ih=>simp only [Fz,Bz,h,ih];rfl
theorem Wx(c:α→List D)(c':α→List D)(e:TypeId)(xs:List α)(h: ∀x,Bz (c x)=some (c' x)):Bz (AJ (fun x=>D.own e (c x)) xs)=some (AJ (fun x=>D.sl e (c' x)) xs):=by
 induction xs with
 |nil=>rfl
 |cons x xs ih=>simp only [Fz,Bz,CZ,h,ih];rfl
theorem bZ(xs:List α)(h: ∀x,CG (c x)=false):CJ (AJ c xs)=false:=by
 induction xs with
 |nil=>rfl
 |cons x xs ih=>simp only [Fz,CJ,h,ih];rfl
theorem bf(xs:List α)(h: ∀x,BX (c x)=true):(AJ c xs).all BX=true:=by simp [AJ,h]
end
theorem gz(xs:List Int):F6 xs=AJ (D.int .i64) xs:=nr rfl
theorem lK(e:TypeId)(l:List (List Int)):Ui e l=AJ (fun x=> .sl e (AJ (D.int .i64) x)) l:=nr rfl
theorem iA(e:TypeId)(l:List (List Int)):Kn e l=AJ (fun x=> .own e (AJ (D.int .i64) x)) l:=nr rfl
section
variable {α:Type} (c:α→List D) (n:Nat)
theorem MI:TZ c []=[]:=nr rfl
theorem Gf(x:α)(xs:List α):TZ c (x::xs)=c x++TZ c xs:=nr rfl
theorem JX(xs ys:List α):TZ c xs++TZ c ys=TZ c (xs++ys):=by simp [TZ]
theorem R7(h: ∀x,(c x).length=n)(xs:List α):(TZ c xs).length=xs.length*n:=by
 induction xs with
 |nil=>simp [MI]
 |cons x xs ih=>simp only [Gf,List.length_append,h,ih,List.length_cons,Nat.succ_mul];omega
theorem Wy(h: ∀x,(c x).length=n)(xs:List α): ∀(i:Nat),(TZ c xs).drop (i*n)=TZ c (xs.drop i):=by
 induction xs with
 |nil=>intro i;simp [MI]
 |cons x xs ih=>
  intro i
  cases i with
  |zero=>simp
  |succ i=>
   rw [Gf,List.drop_append,List.drop_succ_cons,←ih i,h,Nat.succ_mul]
   have e1:(c x).drop (i*n+n)=[]:=List.drop_eq_nil_of_le (by rw [h];omega)
   rw [e1,Nat.add_sub_cancel];rfl
theorem iB(h: ∀x,(c x).length=n)(xs:List α): ∀(i:Nat),(TZ c xs).take (i*n)=TZ c (xs.take i):=by
 induction xs with
 |nil=>intro i;simp [MI]
 |cons x xs ih=>
  intro i
  cases i with
  |zero=>simp [MI]
  |succ i=>
   rw [Gf,List.take_append,List.take_succ_cons,Gf,←ih i,h,Nat.succ_mul,Nat.add_sub_cancel]
   rw [List.take_of_length_le (by rw [h];omega)]
theorem N9(xs:List α)(h: ∀x,AU (c x)=false):AU (TZ c xs)=false:=by
 have app: ∀(as bs:List D),AU (as++bs)=(AU as||AU bs):=by
  intro as bs
  induction as with
  |nil=>simp [AU]
  |cons a as ih=>simp [AU,ih,Bool.or_assoc]
 induction xs with
 |nil=>rfl
 |cons x xs ih=>rw [Gf,app,h,ih];rfl
theorem Wz: ∀(as bs as' bs':List D),Bz as=some as'→Bz bs=some bs'→Bz (as++bs)=some (as'++bs'):=by
 intro as
 induction as with
 |nil=>intro bs as' bs' h1 h2;simp [Bz]at h1;subst h1;simpa using h2
 |cons a as ih=>
  intro bs as' bs' h1 h2
  simp only [Bz,Option.bind_eq_some_iff,Option.map_eq_some_iff]at h1
  obtain⟨a',ha,as1,has,rfl⟩:=h1
  simp only [List.cons_append,Bz,ha,ih _ _ _ has h2];rfl
theorem Ul(xs:List α)(h: ∀x,Bz (c x)=some (c x)):Bz (TZ c xs)=some (TZ c xs):=by
 induction xs with
 |nil=>rfl
 |cons x xs ih=>rw [Gf];exact Wz _ _ _ _ (h x) ih
theorem SV(as bs:List D):CJ (as++bs)=(CJ as||CJ bs):=by
 induction as with
 |nil=>simp [CJ]
 |cons a as ih=>simp [CJ,ih,Bool.or_assoc]
theorem Oc(xs:List α)(h: ∀x,CJ (c x)=false):CJ (TZ c xs)=false:=by
 induction xs with
 |nil=>rfl
 |cons x xs ih=>rw [Gf,SV,h,ih];rfl
theorem Od(xs:List α)(h: ∀x,(c x).all BX=true):(TZ c xs).all BX=true:=by
 induction xs with
 |nil=>rfl
 |cons x xs ih=>rw [Gf,List.all_append,h,ih];rfl
end
def spl{α:Type}:List α→Nat→List α→List α
 |xs,_,[]=>xs
 |xs,c,y::ys=>spl (xs.set c y) (c+1) ys
theorem R8{α:Type}(c:α→D): ∀(ys xs:List α) (n:Nat),BR (AJ c xs) n (AJ c ys)=AJ c (spl xs n ys):=by
 intro ys
 induction ys with
 |nil=>intro xs n;cases xs<;>rfl
 |cons y ys ih=>
  intro xs n
  have h1:BR (AJ c xs) n (AJ c (y::ys))=BR ((AJ c xs).set n (c y)) (n+1) (AJ c ys):=by
   rw [Fz];cases AJ c xs<;>rfl
  rw [h1,Zm,ih];rfl
theorem BP{α β:Type}{o:Option α}{f:α→Option β}{r:β}(h:o.bind f=some r): ∃a,o=some a∧f a=some r:=by
 cases o with
 |none=>cases h
 |some a=>exact⟨a,rfl,h⟩
theorem Cf{α:Type}{c:Prop}[Decidable c]{o:Option α}{r:α}(h:ck c o=some r):c∧o=some r:=by
 unfold ck at h
 split at h
 ·rename_i hc;exact⟨hc,h⟩
 ·cases h
section
variable {α:Type} (c:α→D)
theorem bg(x:α)(xs:List α):c x::AJ c xs=AJ c (x::xs):=nr rfl
theorem bi(xs:List α)(y:α)(ds:List D):AJ c xs++(c y::ds)=AJ c (xs++[y])++ds:=by simp [AJ]
theorem X0(c:α→List D)(e:TypeId)(xs:List α)(h: ∀x,Bz (c x)=some (c x)):Bz (AJ (fun x=>D.own e (c x)) xs)=some (AJ (fun x=>D.sl e (c x)) xs):=Wx c c e xs h
theorem iC{β:Type}(b:β→List D)(e e':TypeId)(f:α→List β)(xs:List α)(h: ∀x,Bz (b x)=some (b x)):Bz (AJ (fun x=>D.own e (AJ (fun y=>D.own e' (b y)) (f x))) xs)=some (AJ (fun x=>D.sl e (AJ (fun y=>D.sl e' (b y)) (f x))) xs):=
 Wx (fun x=>AJ (fun y=>D.own e' (b y)) (f x)) (fun x=>AJ (fun y=>D.sl e' (b y)) (f x)) e xs (fun x=>X0 b e' (f x) h)
def L8(c:α→D):Option α→D
 |some a=>c a
 |none=> .undef
theorem X3[Inhabited α](o:Option α)(h:o.isSome=true):L8 c o=c (o.getD default):=by cases o with|none=>cases h|some _=>rfl
theorem Um(xs:List α):AJ (L8 c) (xs.map some)=AJ c xs:=by simp [AJ,Function.comp_def,L8]
theorem R9(xs:List (Option α))(n:Nat):(AJ (L8 c) xs).set n .undef=AJ (L8 c) (xs.set n none):=by simp [AJ,List.map_set,L8]
theorem iD(xs:List (Option α))(n:Nat)(y:α):(AJ (L8 c) xs).set n (c y)=AJ (L8 c) (xs.set n (some y)):=by simp [AJ,List.map_set,L8]
theorem lL(e:TypeId)(k:IntKind)(x y:List Int)(i:Nat)(h:i<2):([D.sl e (AJ (D.int k) x),D.sl e (AJ (D.int k) y)]:List D)[i]? =some (D.sl e (AJ (D.int k) ([x,y].getD i default))):=by
 rcases i with _|_|i
 ·rfl
 ·rfl
 ·omega
theorem lM(xs:List α)(n:Nat):((xs.map some).set n none).length=xs.length:=by simp
theorem iE(xs:List α):(xs.map some).length=xs.length:=by simp
theorem X4(xs:List α)(n:Nat):(AJ c xs).set n .undef=AJ (L8 c) ((xs.map some).set n none):=by rw [←R9,Um]
theorem lN(xs:List (Option α))(n:Nat):AJ (L8 (L8 c)) ((xs.map some).set n none)=AJ (L8 c) (xs.set n none):=by rw [←X4,R9]
theorem iF(xs:List α)(n:Nat)(y:α):(xs.map some).set n (some y)=(xs.set n y).map some:=List.map_set.symm
theorem iG(xs:List (Option α))(n:Nat)(a b:Option α):(xs.set n a).set n b=xs.set n b:=List.set_set ..
theorem Yl(ys:List α)(xs:List (Option α))(n:Nat):BR (AJ (L8 c) xs) n (AJ c ys)=AJ (L8 c) (spl xs n (ys.map some)):=by
 rw [←Um c ys,R8]
theorem Zn[Inhabited α]: ∀(xs:List (Option α)),(xs.all Option.isSome)=true→AJ (L8 c) xs=AJ c (xs.map fun o=>o.getD default)
 | [],_=>rfl
 |x::xs,h=>by
  simp only [List.all_cons,Bool.and_eq_true]at h
  show L8 c x::AJ (L8 c) xs=_
  rw [X3 c x h.1,Zn xs h.2];rfl
theorem lQ(n:Nat)(k:IntKind)(x:Int):List.replicate n (D.int k x)=AJ (D.int k) (List.replicate n x):=by simp [AJ]
theorem vF(n:Nat)(e:TypeId):List.replicate n (D.sl e [])=AJ (fun x=>D.sl e (AJ (D.int .i64) x)) (List.replicate n []):=by simp [AJ]
theorem lS(n:Nat)(e:TypeId):List.replicate n (D.own e [])=AJ (fun x=>D.own e (AJ (D.int .i64) x)) (List.replicate n []):=by simp [AJ]
theorem iH(n:Nat)(x:Bool):List.replicate n (D.bool x)=AJ D.bool (List.replicate n x):=by simp [AJ]
variable [Inhabited α] {T:Tys}
theorem ABf(e:TypeId)(n:Int)(xs:List α)(hk:T.known e=true)(hz:T.size e=1)(hn:0≤n∧n.toNat<xs.length):TW T e n (some (e,AJ c xs,none))=some (.cptr [c (xs.getD n.toNat default)]):=by
 rw [sJ e n (AJ c xs) hk hz (by simpa [AJ] using hn),R5 c xs _ hn.2]
end
theorem A34{α:Type}(c:α→D){T:Tys}(e:TypeId)(n:Int)(xs:List α)(L:AA)(a b:Nat)(hk:T.known e=true)(hz:T.size e=1)(hn:0≤n∧n.toNat<xs.length):TW T e n (some (e,AJ c xs,some (L,a,b)))=some (.pe L n.toNat a b):=
 kg e n (AJ c xs) L a b hk hz (by simpa [AJ] using hn)
theorem ABg:(true==false)=false:=nr rfl
theorem ABh:(false==true)=false:=nr rfl
theorem ABi:(true==true)=true:=nr rfl
theorem ABj:(false==false)=true:=nr rfl
theorem A35:((0:Nat):Int)=0:=nr rfl
theorem A36:((1:Nat):Int)=1:=nr rfl
theorem A37(n:Nat):((OfNat.ofNat n:Nat):Int)=OfNat.ofNat n:=nr rfl
theorem ABk{s:St}(dst:Option Tmp)(u:Tmp)(i:Nat)(L:AA)(n m:Nat):PM s dst u i (some (.vw L n m))=some (s.putO dst (.vw L n m)):=by simp [PM,BO,Bc,D.hasObj,FN]
theorem X5{α:Type}(c:α→D)(xs:List α):(AJ c xs).isEmpty=xs.isEmpty:=by cases xs<;>rfl
theorem mr{α:Type}(c:α→D)(e:TypeId)(xs:List α):CG (.sl e (AJ c xs))= !xs.isEmpty:=by simp only [CG,X5]
theorem A38(e:TypeId):CG (.sl e [])=false:=nr rfl
theorem A39(e:TypeId)(x:D)(xs:List D):CG (.sl e (x::xs))=true:=nr rfl
theorem Ym{α β:Type}(c:β→D)(f:α→List β)(e:TypeId)(xs:List α):CJ (AJ (fun x=>D.sl e (AJ c (f x))) xs)=xs.any fun x=> !(f x).isEmpty:=by
 induction xs with
 |nil=>rfl
 |cons x xs ih=>simp only [Fz,CJ,mr,ih,List.any_cons]
theorem X6{α:Type}(c:α→List D)(e:TypeId)(xs:List α):AU (AJ (fun x=>D.own e (c x)) xs)= !xs.isEmpty:=by
 cases xs with
 |nil=>rfl
 |cons x xs=>simp [Fz,AU,D.hasObj]
section
variable {pm:Pm} {s:St} {dst:Option Tmp}
theorem ABl(ls:List (AA×D))(r:D)(o:List D)(h:CG r=true):u6 pm s dst ls (some (r,o))=if(Di (ls.map (·.1))&&ls.all (fun l=>pm.wr (l.1.headD 0)))=true then(GX ls).map fun ls'=>(back false s ls').putO dst r else none:=by
 simp [u6,h]
theorem faN:GX []=some []:=nr rfl
def fac(L:AA)(o:Option (List (AA×D))):Option D→Option (List (AA×D))
 |some c=>o.map ((L,c):: ·)
 |none=>none
theorem faC(L:AA)(c:D)(rest:List (AA×D)):GX ((L,c)::rest)=fac L (GX rest) (CZ c):=by
 simp only [GX];cases CZ c<;>rfl
theorem ABm(L:AA)(ls:List (AA×D))(c:D):fac L (some ls) (some c)=some ((L,c)::ls):=nr rfl
end
def SX(xs:List (Int×Int))(n:Nat):Int:=(xs.getD n default).1
def Yn(xs:List (Int×Int))(n:Nat):Int:=(xs.getD n default).2
def DT(k l:IntKind)(xs:List (Int×Int)):List D:=TZ (fun x=>[D.int k x.1,D.int l x.2]) xs
theorem A7(k l:IntKind):DT k l []=[]:=nr rfl
theorem JL(k l:IntKind)(x:Int×Int)(xs:List (Int×Int)):DT k l (x::xs)=D.int k x.1::D.int l x.2::DT k l xs:=nr rfl
theorem Jl(k l:IntKind)(xs:List (Int×Int)):(DT k l xs).length=xs.length*2:=R7 _ 2 (fun _=>rfl) xs
theorem RA(k l:IntKind)(xs:List (Int×Int)): ∀(n:Nat),n<xs.length→(DT k l xs)[n*2]? =some (D.int k (SX xs n))∧(DT k l xs)[n*2+1]? =some (D.int l (Yn xs n)):=by
 induction xs with
 |nil=>intro n h;simp at h
 |cons x xs ih=>
  intro n h
  cases n with
  |zero=>exact⟨rfl,rfl⟩
  |succ n=>
   have:=ih n (by simpa using h)
   rw [JL,Nat.succ_mul]
   exact this
theorem X7(k l:IntKind)(xs:List (Int×Int))(n:Nat)(h:n<xs.length):(DT k l xs)[n*2]? =some (D.int k (SX xs n)):=(RA k l xs n h).1
theorem bn(k l:IntKind)(xs:List (Int×Int))(n:Nat)(h:n<xs.length):(DT k l xs)[n*2+0]? =some (D.int k (SX xs n)):=(RA k l xs n h).1
theorem X8(k l:IntKind)(xs:List (Int×Int))(n:Nat)(h:n<xs.length):(DT k l xs)[n*2+1]? =some (D.int l (Yn xs n)):=(RA k l xs n h).2
theorem Oe(k l:IntKind)(v:Int): ∀(xs:List (Int×Int)) (n:Nat),n<xs.length→(DT k l xs).set (n*2) (D.int k v)=DT k l (xs.set n (v,Yn xs n)):=by
 intro xs
 induction xs with
 |nil=>intro n h;simp at h
 |cons x xs ih=>
  intro n h
  cases n with
  |zero=>rfl
  |succ n=>
   have:=ih n (by simpa using h)
   rw [JL,Nat.succ_mul,List.set_cons_succ,List.set_cons_succ,List.set_cons_succ,this,JL];rfl
theorem Og(k l:IntKind)(v:Int): ∀(xs:List (Int×Int)) (n:Nat),n<xs.length→(DT k l xs).set (n*2+1) (D.int l v)=DT k l (xs.set n (SX xs n,v)):=by
 intro xs
 induction xs with
 |nil=>intro n h;simp at h
 |cons x xs ih=>
  intro n h
  cases n with
  |zero=>rfl
  |succ n=>
   have:=ih n (by simpa using h)
   rw [JL,Nat.succ_mul,show n*2+2+1=n*2+1+1+1 by omega,List.set_cons_succ,List.set_cons_succ,List.set_cons_succ,this,JL];rfl
theorem X9(k l:IntKind)(xs ys:List (Int×Int)):DT k l xs++DT k l ys=DT k l (xs++ys):=JX _ xs ys
theorem Ta(k l:IntKind)(xs:List (Int×Int))(a b:Int):DT k l xs++[D.int k a,D.int l b]=DT k l (xs++[(a,b)]):=JX _ xs [(a,b)]
theorem Yo(k l:IntKind)(xs:List (Int×Int))(a b:Int)(ds:List D):DT k l xs++(D.int k a::D.int l b::ds)=DT k l (xs++[(a,b)])++ds:=by
 rw [←Ta,List.append_assoc];rfl
theorem bq(k l:IntKind)(xs:List (Int×Int))(n:Nat):(DT k l xs).take (n*2)=DT k l (xs.take n):=iB _ 2 (fun _=>rfl) xs n
theorem Tc(k l:IntKind)(xs:List (Int×Int))(n:Nat):(DT k l xs).drop (n*2)=DT k l (xs.drop n):=Wy _ 2 (fun _=>rfl) xs n
theorem Lf(k l:IntKind)(xs:List (Int×Int)):AU (DT k l xs)=false:=N9 _ xs (fun _=>by simp [AU,D.hasObj])
theorem iI(k l:IntKind)(xs:List (Int×Int)):Bz (DT k l xs)=some (DT k l xs):=Ul _ xs (fun _=>rfl)
theorem Yp(k l:IntKind)(xs:List (Int×Int)):CJ (DT k l xs)=false:=Oc _ xs (fun _=>rfl)
theorem Yq(k l:IntKind)(xs:List (Int×Int)):(DT k l xs).all BX=true:=Od _ xs (fun _=>rfl)
theorem Un(k l:IntKind)(xs:List (Int×Int)):(DT k l xs).isEmpty=xs.isEmpty:=by cases xs<;>rfl
theorem iJ(k l:IntKind)(n:Nat)(a b:Int):(List.replicate n [D.int k a,D.int l b]).flatten=DT k l (List.replicate n (a,b)):=by
 simp [DT,TZ,List.flatMap_def]
theorem nA(k l:IntKind)(e:TypeId)(xs:List (Int×Int)):CG (.sl e (DT k l xs))= !xs.isEmpty:=by simp only [CG,Un]
theorem XA{α:Type}(k l:IntKind)(f:α→List (Int×Int))(e:TypeId)(xs:List α):CJ (AJ (fun x=>D.sl e (DT k l (f x))) xs)=xs.any fun x=> !(f x).isEmpty:=by
 induction xs with
 |nil=>rfl
 |cons x xs ih=>simp only [Fz,CJ,nA,ih,List.any_cons]
def xP(xs:List (Int×Int×Int×Int))(n:Nat):Int:=(xs.getD n default).1
def xQ(xs:List (Int×Int×Int×Int))(n:Nat):Int:=(xs.getD n default).2.1
def xR(xs:List (Int×Int×Int×Int))(n:Nat):Int:=(xs.getD n default).2.2.1
def xS(xs:List (Int×Int×Int×Int))(n:Nat):Int:=(xs.getD n default).2.2.2
def GZ(xs:List (Int×Int×Int×Int)):List D:=TZ (fun x=>[D.int .i64 x.1,D.int .i64 x.2.1,D.int .i64 x.2.2.1,D.int .i64 x.2.2.2]) xs
theorem Td(x:Int×Int×Int×Int)(xs:List (Int×Int×Int×Int)):GZ (x::xs)=D.int .i64 x.1::D.int .i64 x.2.1::D.int .i64 x.2.2.1::D.int .i64 x.2.2.2::GZ xs:=nr rfl
theorem Lg(xs:List (Int×Int×Int×Int)):(GZ xs).length=xs.length*4:=R7 _ 4 (fun _=>rfl) xs
theorem XB(xs ys:List (Int×Int×Int×Int)):GZ xs++GZ ys=GZ (xs++ys):=JX _ xs ys
theorem Te(xs:List (Int×Int×Int×Int))(a b c d:Int):GZ xs++[D.int .i64 a,D.int .i64 b,D.int .i64 c,D.int .i64 d]=GZ (xs++[(a,b,c,d)]):=JX _ xs [(a,b,c,d)]
theorem Yr(xs:List (Int×Int×Int×Int))(a b c d:Int)(ds:List D):GZ xs++(D.int .i64 a::D.int .i64 b::D.int .i64 c::D.int .i64 d::ds)=GZ (xs++[(a,b,c,d)])++ds:=by
 rw [←Te,List.append_assoc];rfl
theorem Tf(xs:List (Int×Int×Int×Int))(n:Nat):(GZ xs).drop (n*4)=GZ (xs.drop n):=Wy _ 4 (fun _=>rfl) xs n
theorem XC(xs:List (Int×Int×Int×Int)):AU (GZ xs)=false:=N9 _ xs (fun _=>by simp [AU,D.hasObj])
theorem iK(xs:List (Int×Int×Int×Int)):Bz (GZ xs)=some (GZ xs):=Ul _ xs (fun _=>rfl)
theorem Yt(xs:List (Int×Int×Int×Int)):CJ (GZ xs)=false:=Oc _ xs (fun _=>rfl)
theorem Yu(xs:List (Int×Int×Int×Int)):(GZ xs).all BX=true:=Od _ xs (fun _=>rfl)
theorem iL{T:Tys}(e:TypeId)(xs:List (Int×Int×Int×Int))(h:T.size e=4):T.len e (GZ xs)=xs.length:=by
 unfold Tys.len
 rw [h,if_neg (by decide),Lg,Nat.mul_div_cancel _ (by decide)]
theorem ABn{T:Tys}(e:TypeId)(n:Int)(xs:List (Int×Int×Int×Int))(hk:T.known e=true)(hz:T.size e=4)(hn:0≤n∧n.toNat<xs.length):TW T e n (some (e,GZ xs,none))=some (.cptr [D.int .i64 (xP xs n.toNat),D.int .i64 (xQ xs n.toNat),D.int .i64 (xR xs n.toNat),D.int .i64 (xS xs n.toNat)]):=by
 simp only [TW,hk,iL e xs hz]
 rw [if_pos ⟨trivial,trivial,hn.1,hn.2⟩,hz,Tf,List.drop_eq_getElem_cons hn.2,Td]
 unfold xP xQ xR xS
 rw [List.getD_eq_getElem?_getD,List.getElem?_eq_getElem hn.2];rfl
section
variable {T:Tys} {pm:Pm} {s:St} {t:TypeId}
theorem iM(k l:IntKind)(e:TypeId)(xs:List (Int×Int))(h:T.size e=2):T.len e (DT k l xs)=xs.length:=by
 unfold Tys.len
 rw [h,if_neg (by decide),Jl,Nat.mul_div_cancel _ (by decide)]
theorem ABo(k l:IntKind)(e:TypeId)(n:Int)(xs:List (Int×Int))(hk:T.known e=true)(hz:T.size e=2)(hn:0≤n∧n.toNat<xs.length):TW T e n (some (e,DT k l xs,none))=some (.cptr [D.int k (SX xs n.toNat),D.int l (Yn xs n.toNat)]):=by
 simp only [TW,hk,iM k l e xs hz]
 rw [if_pos ⟨trivial,trivial,hn.1,hn.2⟩,hz,Tc,List.drop_eq_getElem_cons hn.2,JL]
 unfold SX Yn
 rw [List.getD_eq_getElem?_getD,List.getElem?_eq_getElem hn.2];rfl
theorem ABp(k l:IntKind)(e:TypeId)(n:Int)(xs:List (Int×Int))(L:AA)(a b:Nat)(hk:T.known e=true)(hz:T.size e=2)(hn:0≤n∧n.toNat<xs.length):TW T e n (some (e,DT k l xs,some (L,a,b)))=some (.pe L (n.toNat*2) a b):=by
 simp only [TW,hk,iM k l e xs hz]
 rw [if_pos ⟨trivial,trivial,hn.1,hn.2⟩,hz]
theorem ABq(e:TypeId)(n:Int)(xs:List (Int×Int×Int×Int))(L:AA)(a b:Nat)(hk:T.known e=true)(hz:T.size e=4)(hn:0≤n∧n.toNat<xs.length):TW T e n (some (e,GZ xs,some (L,a,b)))=some (.pe L (n.toNat*4) a b):=by
 simp only [TW,hk,iL e xs hz]
 rw [if_pos ⟨trivial,trivial,hn.1,hn.2⟩,hz]
theorem Lh(xs:List (Int×Int×Int×Int))(n:Nat)(h:n<xs.length):(GZ xs)[n*4]? =some (D.int .i64 (xP xs n))∧(GZ xs)[n*4+1]? =some (D.int .i64 (xQ xs n))∧(GZ xs)[n*4+2]? =some (D.int .i64 (xR xs n))∧(GZ xs)[n*4+3]? =some (D.int .i64 (xS xs n)):=by
 have e:=Tf xs n
 rw [List.drop_eq_getElem_cons h,Td]at e
 have g: ∀i,(GZ xs)[n*4+i]? =((GZ xs).drop (n*4))[i]? :=fun i=>by rw [List.getElem?_drop]
 have q:xs.getD n default=xs[n]:=by rw [List.getD_eq_getElem?_getD,List.getElem?_eq_getElem h];rfl
 unfold xP xQ xR xS
 rw [q]
 refine⟨?_, ?_, ?_, ?_⟩
 ·have:=g 0;rw [e]at this;exact this
 ·rw [g 1,e];rfl
 ·rw [g 2,e];rfl
 ·rw [g 3,e];rfl
theorem ABr{n m:Nat}(h:n<m):n*4+4≤m*4:=by omega
theorem Yv(xs:List (Int×Int×Int×Int))(n:Nat)(d:D)(h:n<xs.length):(GZ xs).getD (n*4) d=D.int .i64 (xP xs n):=by rw [List.getD_eq_getElem?_getD,(Lh xs n h).1];rfl
theorem Yw(xs:List (Int×Int×Int×Int))(n:Nat)(d:D)(h:n<xs.length):(GZ xs).getD (n*4+1) d=D.int .i64 (xQ xs n):=by rw [List.getD_eq_getElem?_getD,(Lh xs n h).2.1];rfl
theorem Yx(xs:List (Int×Int×Int×Int))(n:Nat)(d:D)(h:n<xs.length):(GZ xs).getD (n*4+2) d=D.int .i64 (xR xs n):=by rw [List.getD_eq_getElem?_getD,(Lh xs n h).2.2.1];rfl
theorem Yy(xs:List (Int×Int×Int×Int))(n:Nat)(d:D)(h:n<xs.length):(GZ xs).getD (n*4+3) d=D.int .i64 (xS xs n):=by rw [List.getD_eq_getElem?_getD,(Lh xs n h).2.2.2];rfl
theorem cs4(L:AA)(e:TypeId)(n:Nat)(xs:List (Int×Int×Int×Int))(h:n<xs.length):cellsOf s L (n*4) 4 (some (.own e (GZ xs)))=some (.agg [D.int .i64 (xP xs n),D.int .i64 (xQ xs n),D.int .i64 (xR xs n),D.int .i64 (xS xs n)]):=by
 obtain⟨h0,h1,h2,h3⟩:=Lh xs n h
 show(if n*4+4≤(GZ xs).length then BO (.agg ((List.range 4).map fun i=>Bc s L (n*4+i) ((GZ xs).getD (n*4+i) .undef)))else none)=_
 rw [if_pos (by rw [Lg];omega),rg4,Nat.add_zero,List.getD_eq_getElem?_getD,List.getD_eq_getElem?_getD,List.getD_eq_getElem?_getD,List.getD_eq_getElem?_getD,h0,h1,h2,h3];rfl
theorem vG(k l:IntKind)(L:AA)(e:TypeId)(n:Nat)(v:Int)(xs:List (Int×Int))(h:n<xs.length):gF s L (n*2+1) (.int l v) (some (.own e (DT k l xs)))=some (s.set L (.own e (DT k l (xs.set n (SX xs n,v))))):=by
 show(if n*2+1<(DT k l xs).length then(if(D.int l v).hasObj||AU (DT k l xs)then some ((s.set L (.own e ((DT k l xs).set (n*2+1) (.int l v)))).bump (L.headD 0))else some (s.set L (.own e ((DT k l xs).set (n*2+1) (.int l v)))))else none)=_
 rw [if_pos (by rw [Jl];omega),Lf,Og k l v xs n h];rfl
def sq1(T:Tys)(pm:Pm)(t:TypeId)(u:Tmp)(a b:D)(s:St):Option D→Nat→AA→Option St
 |some (.own e xs),c,L=>if T.known t&&T.isStruct t&&pm.wr (L.headD 0)&&BX a&&BX b&&(T.size t==2)&&decide (c+2≤xs.length)&& !a.hasObj&& !b.hasObj&& !AU xs then some (s.set L (.own e ((xs.set c a).set (c+1) b)))else TY T pm t (.tmp u) (some (.agg [a,b],s))
 |_,_,_=>TY T pm t (.tmp u) (some (.agg [a,b],s))
theorem ABs(u:Tmp)(a b:D)(L:AA)(c n m:Nat)(h:s.v u= .pe L c n m):TY T pm t (.tmp u) (some (.agg [a,b],s))=sq1 T pm t u a b s (s.look pm L n m) c L:=by
 cases hl:s.look pm L n m with
 |none=>rfl
 |some o=>
  cases o<;>try rfl
  rename_i e xs
  simp only [sq1]
  split
  ·rename_i hc
   simp only [Bool.and_eq_true,beq_iff_eq,decide_eq_true_eq,Bool.not_eq_true']at hc
   obtain⟨⟨⟨⟨⟨⟨⟨⟨⟨hk,hs⟩,hw⟩,ha⟩,hb⟩,hz⟩,hl2⟩,ha2⟩,hb2⟩,hx2⟩:=hc
   simp only [TY,ev,h,Ee,hl,D.asCells,D.isAgg,D.cells,D.withCells,hk,hs,hw,hz,List.all_cons,ha,hb,List.all_nil,Bool.and_self,List.length_cons,List.length_nil,beq_self_eq_true,Bool.true_and,D.hasObj,AU,ha2,hb2,hx2,Bool.or_self,Bool.false_eq_true,if_false,BR]
   rw [if_pos (by simpa using hl2)]
  ·rfl
theorem ABt(u:Tmp)(a b:D)(L:AA)(c n m:Nat)(h:s.v u= .pe L c n m):sw1 T pm t u [a,b] s (.pe L c n m)=sq1 T pm t u a b s (s.look pm L n m) c L:=by
 rw [←ABs u a b L c n m h];rfl
theorem Yz(k l:IntKind)(xs:List (Int×Int))(n:Nat)(a b:Int)(h:n<xs.length):((DT k l xs).set (n*2) (D.int k a)).set (n*2+1) (D.int l b)=DT k l (xs.set n (a,b)):=by
 rw [Oe k l a xs n h,Og k l b _ n (by simpa using h),List.set_set]
 congr 2
 simp [SX,List.getD_eq_getElem?_getD,h]
theorem ABu(k l:IntKind)(u:Tmp)(a b:Int)(L:AA)(e:TypeId)(n:Nat)(xs:List (Int×Int))(hk:T.known t=true)(hs:T.isStruct t=true)(hw:pm.wr (L.headD 0)=true)(hz:T.size t=2)(h:n<xs.length):
  sq1 T pm t u (.int k a) (.int l b) s (some (.own e (DT k l xs))) (n*2) L=some (s.set L (.own e (DT k l (xs.set n (a,b))))):=by
 simp only [sq1]
 rw [if_pos,Yz k l xs n a b h]
 simp only [hk,hs,hw,hz,BX,Jl,Lf,D.hasObj,Bool.and_eq_true,decide_eq_true_eq,beq_self_eq_true,Bool.not_false,and_true,true_and]
 omega
theorem XD: ∀(xs:List Int),IP (AJ (D.int .i64) xs)=some xs
 | []=>rfl
 |x::xs=>by rw [Fz,IP,XD xs];rfl
theorem A3B(xs:List Int)(h':xs.length≤14∧14≤xs.length):H5 true 14 (.agg (AJ (D.int .i64) xs))=some xs:=by
 have h:xs.length=14:=by omega
 simp only [H5,Gy,h,and_self,if_true,XD]
theorem A3C(a0 a1 a2 a3 a4 a5 a6 a7 a8 a9 a10 a11 a12 a13:Int):H5 true 14 (.agg [.int .i64 a0, .int .i64 a1, .int .i64 a2, .int .i64 a3, .int .i64 a4, .int .i64 a5, .int .i64 a6, .int .i64 a7, .int .i64 a8, .int .i64 a9, .int .i64 a10, .int .i64 a11, .int .i64 a12, .int .i64 a13])=some [a0,a1,a2,a3,a4,a5,a6,a7,a8,a9,a10,a11,a12,a13]:=nr rfl
theorem csA(L:AA)(xs:List Int)(h':xs.length≤14∧14≤xs.length):cellsOf s L 0 14 (some (.box (AJ (D.int .i64) xs)))=some (.agg (AJ (D.int .i64) xs)):=by
 have h:xs.length=14:=by omega
 have e:((List.range 14).map fun i=>Bc s L (0+i) ((AJ (D.int .i64) xs).getD (0+i) .undef))=AJ (D.int .i64) xs:=by
  refine List.ext_getElem (by simp [Gy,h]) (fun i h1 h2=> ?_)
  have hi:i<xs.length:=by rw [Gy]at h2;exact h2
  simp only [List.getElem_map,List.getElem_range,Nat.zero_add,R5 _ xs i hi,Bc]
  simp [AJ,hi]
 show(if 0+14≤(AJ (D.int .i64) xs).length then BO (.agg ((List.range 14).map fun i=>Bc s L (0+i) ((AJ (D.int .i64) xs).getD (0+i) .undef)))else none)=_
 rw [if_pos (by rw [Gy,h];omega),e]
 simp only [BO,D.hasObj,R6 (D.int .i64) xs (fun _=>rfl)]
 rfl
theorem ndL{α:Type}(e:TypeId)(c:α→D)(xs:List α)(h:0<xs.length):Mo pm s (.sl e (AJ c xs))=some false:=by
 cases xs with
 |nil=>exact(Nat.lt_irrefl 0 h).elim
 |cons x xs=>rfl
end
set_option linter.defProp false
def AO:=And.intro @ABk (And.intro @R8 (And.intro @X6 (And.intro @mr (And.intro @A38 (And.intro @A39 (And.intro @Ym (And.intro @ABl (And.intro @faN (And.intro @faC (And.intro @ABm (And.intro @ABf (And.intro @A34 (And.intro @Gy (And.intro @vE (And.intro @R5 (And.intro @Zm (And.intro @Yk (And.intro @bi (And.intro @bg
 (And.intro @gu (And.intro @gy (And.intro @R6 (And.intro @lJ (And.intro @X0 (And.intro @iC (And.intro @bZ (And.intro @bf (And.intro @vF (And.intro @lS (And.intro @X3 (And.intro @Um (And.intro @lL (And.intro @lM (And.intro @iE (And.intro @X4 (And.intro @iF (And.intro @iG (And.intro (And.intro @lN @R9) (And.intro @iD (And.intro @Yl (And.intro @Zn (And.intro @lQ (And.intro @iH
 (And.intro @JX (And.intro @N9 (And.intro @Ul (And.intro @Oc (And.intro @Od (And.intro @gz (And.intro @lK (And.intro @iA
 (And.intro @ABg (And.intro @ABh (And.intro @ABi (And.intro @ABj (And.intro @A35 (And.intro @A36 @A37)))))))))))))))))))))))))))))))))))))))))))))))))))))))))
theorem tk2(a b:D)(l:List D):List.take 2 (a::b::l)=[a,b]:=nr rfl
theorem tk3(a b c:D)(l:List D):List.take 3 (a::b::c::l)=[a,b,c]:=nr rfl
theorem tk4(a b c d:D)(l:List D):List.take 4 (a::b::c::d::l)=[a,b,c,d]:=nr rfl
theorem tk7(a b c d e f g:D)(l:List D):List.take 7 (a::b::c::d::e::f::g::l)=[a,b,c,d,e,f,g]:=nr rfl
theorem dr0(l:List D):List.drop 0 l=l:=nr rfl
theorem dr1(a:D)(l:List D):List.drop 1 (a::l)=l:=nr rfl
theorem dr2(a0 a1:D)(l:List D):List.drop 2 (a0::a1::l)=l:=nr rfl
theorem dr3(a0 a1 a2:D)(l:List D):List.drop 3 (a0::a1::a2::l)=l:=nr rfl
theorem dr4(a0 a1 a2 a3:D)(l:List D):List.drop 4 (a0::a1::a2::a3::l)=l:=nr rfl
theorem dr5(a0 a1 a2 a3 a4:D)(l:List D):List.drop 5 (a0::a1::a2::a3::a4::l)=l:=nr rfl
theorem dr6(a0 a1 a2 a3 a4 a5:D)(l:List D):List.drop 6 (a0::a1::a2::a3::a4::a5::l)=l:=nr rfl
theorem dr7(a0 a1 a2 a3 a4 a5 a6:D)(l:List D):List.drop 7 (a0::a1::a2::a3::a4::a5::a6::l)=l:=nr rfl
theorem dr8(a0 a1 a2 a3 a4 a5 a6 a7:D)(l:List D):List.drop 8 (a0::a1::a2::a3::a4::a5::a6::a7::l)=l:=nr rfl
theorem dr9(a0 a1 a2 a3 a4 a5 a6 a7 a8:D)(l:List D):List.drop 9 (a0::a1::a2::a3::a4::a5::a6::a7::a8::l)=l:=nr rfl
theorem ABv(a0 a1 a2 a3 a4 a5 a6 a7 a8 a9:D)(l:List D):List.drop 10 (a0::a1::a2::a3::a4::a5::a6::a7::a8::a9::l)=l:=nr rfl
theorem ABw(a0 a1 a2 a3 a4 a5 a6 a7 a8 a9 a10:D)(l:List D):List.drop 11 (a0::a1::a2::a3::a4::a5::a6::a7::a8::a9::a10::l)=l:=nr rfl
theorem A3D{n m:Nat}(h:n<m):n*2<m*2:=by omega
theorem vH{n m:Nat}(h:n<m):n*2+0<m*2:=by omega
theorem A3E{n m:Nat}(h:n<m):n*2+1<m*2:=by omega
theorem A3F{n m:Nat}(h:n<m):n*2+2≤m*2:=by omega
theorem Z0(k l:IntKind)(v:Int)(xs:List (Int×Int))(n:Nat)(h:n<xs.length):(DT k l xs).set (n*2+0) (D.int k v)=DT k l (xs.set n (v,Yn xs n)):=Oe k l v xs n h
theorem RB(k l:IntKind)(xs:List (Int×Int))(n:Nat)(d:D)(h:n<xs.length):(DT k l xs).getD (n*2) d=D.int k (SX xs n):=by rw [List.getD_eq_getElem?_getD,X7 k l xs n h];rfl
theorem XE(k l:IntKind)(xs:List (Int×Int))(n:Nat)(d:D)(h:n<xs.length):(DT k l xs).getD (n*2+0) d=D.int k (SX xs n):=RB k l xs n d h
theorem Z4(k l:IntKind)(xs:List (Int×Int))(n:Nat)(d:D)(h:n<xs.length):(DT k l xs).getD (n*2+1) d=D.int l (Yn xs n):=by rw [List.getD_eq_getElem?_getD,X8 k l xs n h];rfl
def Ao:=And.intro (And.intro @A3B (And.intro @A3C (And.intro @csA @ndL))) (And.intro @ABq (And.intro @cs4 (And.intro @ABr (And.intro @Yv (And.intro @Yw (And.intro @Yx (And.intro @Yy (And.intro @Nat.add_zero (And.intro @Lg (And.intro @XB (And.intro @Te (And.intro @Yr (And.intro @XC (And.intro @iK (And.intro @Yt (And.intro @Yu (And.intro @iL (And.intro @ABn (And.intro @Jl (And.intro @X7 (And.intro @bn (And.intro @X8 (And.intro @X9 (And.intro @Ta (And.intro @Yo (And.intro @bq (And.intro @Tc (And.intro @Lf (And.intro @iI (And.intro @Yp (And.intro @Yq (And.intro @iJ (And.intro @nA (And.intro @XA (And.intro @iM (And.intro @ABo (And.intro @ABp (And.intro @ABt (And.intro @tk2 (And.intro @tk3 (And.intro @tk7 (And.intro @tk4 (And.intro @dr0 (And.intro @dr1 (And.intro @dr2 (And.intro @dr3 (And.intro @dr4 (And.intro @dr5 (And.intro @dr6 (And.intro @dr7 (And.intro @dr8 (And.intro @dr9 (And.intro @ABv (And.intro @ABw (And.intro @A3D (And.intro @vH (And.intro @A3E (And.intro @A3F (And.intro @Oe (And.intro @Z0 (And.intro @Og (And.intro @RB (And.intro @XE (And.intro @Z4 (And.intro @List.length_set.{0} (@ABu))))))))))))))))))))))))))))))))))))))))))))))))))))))))))))))))))
def AC:=And.intro @implies_true.{1} (And.intro @Option.bind_some.{0,0} (And.intro @Option.map_some.{0,0} (And.intro @Option.isSome_some.{0} (And.intro @List.contains_cons.{0} (And.intro @List.contains_nil.{0} (And.intro @List.getD_cons_zero.{0} (And.intro @List.getD_cons_succ.{0} (And.intro @List.getD_nil.{0} (And.intro @List.length_cons.{0} (And.intro @List.length_nil.{0} (And.intro @List.size_toArray.{0} (And.intro @List.toList_toArray.{0} (And.intro @List.zip_cons_cons.{0,0} (And.intro @List.zip_nil_left.{0,0} (And.intro @List.append_nil.{0} (And.intro @List.nil_append.{0} (And.intro @List.cons_append.{0} (And.intro @List.map_cons.{0,0} (And.intro @List.map_nil.{0,0} (And.intro @List.replicate_succ.{0} (And.intro @List.replicate_zero.{0} (And.intro @List.set_cons_zero.{0} (And.intro @List.set_cons_succ.{0} (And.intro @List.set_set.{0} (And.intro @List.all_cons.{0} (And.intro @List.any_cons.{0} (And.intro @List.any_nil.{0} (And.intro @List.all_nil.{0} (And.intro @List.getElem?_cons_zero.{0} (And.intro @List.getElem?_cons_succ.{0} (And.intro @List.getElem?_nil.{0} (@beq_self_eq_true.{0}))))))))))))))))))))))))))))))))
theorem Ap:List.range 0=[]:=nr rfl
end Dv
namespace Dv
open Go
section
variable {σ ρ α β:Type}
theorem JC(f:σ→Option (σ⊕ρ))(st:Nat→σ): ∀(n:Nat) (r:ρ),(∀i,i<n→f (st i)=some (.inl (st (i+1))))→f (st n)=some (.inr r)→Jk f (st 0)=some r:=by
 intro n r h e
 have key: ∀k,k≤n→Jk f (st (n-k))=some r:=by
  intro k
  induction k with
  |zero=>intro _;exact FD e
  |succ k ih=>
   intro hk
   have h1:=h (n-(k+1)) (by omega)
   rw [JB h1,show n-(k+1)+1=n-k by omega]
   exact ih (by omega)
 have:=key n (Nat.le_refl _)
 rwa [Nat.sub_self]at this
end
theorem RD{n:Nat}{P:Nat→Bool}(h: ¬ ∀i,i<n→P i=true): ∃m,m<n∧P m=false∧ ∀i,i<m→P i=true:=by
 induction n with
 |zero=>exact absurd (fun i hi=>absurd hi (Nat.not_lt_zero _)) h
 |succ n ih=>
  by_cases hn: ∀i,i<n→P i=true
  ·refine⟨n,Nat.lt_succ_self _, ?_,hn⟩
   cases hp:P n with
   |false=>rfl
   |true=>exact absurd (fun i hi=>by rcases Nat.lt_succ_iff_lt_or_eq.1 hi with h1|rfl;exact hn i h1;exact hp) h
  ·obtain⟨m,h1,h2,h3⟩:=ih hn
   exact⟨m,by omega,h2,h3⟩
theorem H6{n:Nat}{P:Nat→Bool}:(List.range n).all P=true↔ ∀i,i<n→P i=true:=by
 simp [List.all_eq_true]
theorem XF{σ ρ:Type}(f:σ→Option (σ⊕ρ))(st:Nat→σ)(n:Nat)(P:Nat→Bool)(bad good:ρ)
  (h: ∀i,i<n→(∀j,j<i→P j=true)→f (st i)=if P i=true then some (.inl (st (i+1)))else some (.inr bad))(e:(∀j,j<n→P j=true)→f (st n)=some (.inr good)):Jk f (st 0)=some (if(List.range n).all P=true then good else bad):=by
 by_cases hp: ∀i,i<n→P i=true
 ·rw [if_pos (H6.2 hp)]
  refine JC f st n good (fun i hi=> ?_) (e hp)
  rw [h i hi (fun j hj=>hp j (by omega)),if_pos (hp i hi)]
 ·rw [if_neg (fun hc=>hp (H6.1 hc))]
  obtain⟨m,h1,h2,h3⟩:=RD hp
  refine JC f st m bad (fun i hi=> ?_) ?_
  ·rw [h i (by omega) (fun j hj=>h3 j (by omega)),if_pos (h3 i hi)]
  ·rw [h m h1 h3,h2];rfl
theorem MJ{σ ρ:Type}(f:σ→Option (σ⊕ρ))(st:Nat→σ)(n:Nat)(P:Nat→Bool)(bad good:ρ)
  (h: ∀i,i<n→f (st i)=if P i=true then some (.inl (st (i+1)))else some (.inr bad))(e:f (st n)=some (.inr good)):Jk f (st 0)=some (if(List.range n).all P=true then good else bad):=
 XF f st n P bad good (fun i hi _=>h i hi) (fun _=>e)
theorem iO{α:Type}[Inhabited α](p:α→Bool)(xs:List α):(List.range xs.length).all (fun i=>p (xs.getD i default))=xs.all p:=by
 rw [Bool.eq_iff_iff,H6,List.all_eq_true]
 constructor
 ·intro h x hx
  obtain⟨i,hi,rfl⟩:=List.getElem_of_mem hx
  have:=h i hi
  rwa [List.getD_eq_getElem?_getD,List.getElem?_eq_getElem hi]at this
 ·intro h i hi
  rw [List.getD_eq_getElem?_getD,List.getElem?_eq_getElem hi]
  exact h _ (List.getElem_mem hi)
theorem XG{α:Type}[DecidableEq α][Inhabited α](a b:List α)(hl:a.length=b.length):(List.range a.length).all (fun i=>decide (a.getD i default=b.getD i default))=decide (a=b):=by
 by_cases he:a=b
 ·subst he;simp
 ·rw [decide_eq_false he,Bool.eq_false_iff]
  intro hc
  rw [H6]at hc
  refine he (List.ext_getElem hl fun i h1 h2=> ?_)
  have:=hc i h1
  rw [List.getD_eq_getElem?_getD,List.getD_eq_getElem?_getD,List.getElem?_eq_getElem h1,List.getElem?_eq_getElem h2]at this
  simpa using this
theorem PV(i:Nat)(h:i<4611686018427387904):IntKind.i64.wrap ((i:Int)+1)=((i+1:Nat):Int):=by
 rw [KQ _ (by omega)];rfl
theorem Cm{α:Type}[Inhabited α](xs:List α)(i:Nat)(h:i<xs.length):xs.getD i default=xs[i]:=by
 rw [List.getD_eq_getElem?_getD,List.getElem?_eq_getElem h];rfl
theorem Nr{α:Type}[Inhabited α](xs:List α)(i:Nat)(h:i<xs.length):xs.getD (i:Int).toNat default=xs[i]:=by
 rw [Int.toNat_natCast];exact Cm xs i h
theorem Cn{α:Type}{c:Prop}[Decidable c]{o:Option α}(h:c):ck c o=o:=if_pos h
theorem EJ{i n:Nat}(h:i<n):(i:Int)<(n:Int):=by omega
theorem Bq(n:Nat): ¬(n:Int)<(n:Int):=by omega
theorem Hu{i n:Nat}(h:i<n):0≤(i:Int)∧(i:Int).toNat<n:=by omega
theorem Dw{α:Type}[Inhabited α](a b:List α)(i:Nat)(h:i=a.length)(hb:0<b.length):(a++b).getD i default=b[0]:=by
 subst h
 rw [List.getD_eq_getElem?_getD,List.getElem?_append_right (Nat.le_refl _),Nat.sub_self,List.getElem?_eq_getElem hb];rfl
end Dv
namespace Dv
open Go
section
variable {T:Tys} {t e a:TypeId} {d:D}
end
end Dv
