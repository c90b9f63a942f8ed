/- Value semantics for Go code, part 5: typed lists, loops as functions. Conditions: none beyond those in each lemma. -/
import Derived.Test.YtjhjkfoabhplfaaGreatL4
set_option linter.unusedSimpArgs false
set_option linter.unusedVariables false
namespace Dv
open Go
set_option maxRecDepth 10000
def ck{α:Type}(c:Prop)[Decidable c](o:Option α):Option α:=if c then o else none
section
variable {σ ρ:Type}
def ry(f:σ→Option (σ⊕ρ)):Nat→σ→Option ρ
 |0,_=>none
 |n+1,s=>
  match f s with
  |none=>none
  |some (.inl s')=>ry f n s'
  |some (.inr r)=>some r
open Classical in
noncomputable def Fv(f:σ→Option (σ⊕ρ))(s:σ):Option ρ:=if h: ∃r n,ry f n s=some r then some h.choose else none
theorem nS{f:σ→Option (σ⊕ρ)}: ∀ {n m:Nat} {s:σ} {r:ρ},n≤m→ry f n s=some r→ry f m s=some r:=by
 intro n
 induction n with
 |zero=>intro m s r _ h;simp [ry]at h
 |succ n ih=>
  intro m s r hm h
  cases m with
  |zero=>omega
  |succ m=>
   simp only [ry]at h ⊢
   cases hs:f s with
   |none=>simp [hs]at h
   |some q=>
    cases q with
    |inl s'=>simp only [hs]at h ⊢;exact ih (by omega) h
    |inr r'=>simp only [hs]at h ⊢;exact h
theorem iR{f:σ→Option (σ⊕ρ)}{n:Nat}{s:σ}{r:ρ}(h:ry f n s=some r):Fv f s=some r:=by
 unfold Fv;have hx: ∃r n,ry f n s=some r:=⟨r,n,h⟩;rw [dif_pos hx];obtain⟨n',h'⟩:=hx.choose_spec;have h1:=nS (Nat.le_max_left n n') h;have h2:=nS (Nat.le_max_right n n') h';rw [h1]at h2;exact h2.symm
theorem ZO{f:σ→Option (σ⊕ρ)}{s:σ}{r:ρ}(h:Fv f s=some r): ∃n,ry f n s=some r:=by
 unfold Fv at h
 split at h
 ·rename_i hx
  simp only [Option.some.injEq]at h;subst h;exact hx.choose_spec
 ·cases h
theorem NH{f:σ→Option (σ⊕ρ)}{s s':σ}(h:f s=some (.inl s')):Fv f s=Fv f s':=by
 cases hi:Fv f s' with
 |some r=>
  obtain⟨n,hn⟩:=ZO hi;exact iR (n:=n+1) (by simp only [ry,h];exact hn)
 |none=>
  cases hj:Fv f s with
  |none=>rfl
  |some r=>
   obtain⟨n,hn⟩:=ZO hj
   cases n with
   |zero=>simp [ry]at hn
   |succ n=>
    simp only [ry,h]at hn;rw [iR hn]at hi;cases hi
theorem Fp{f:σ→Option (σ⊕ρ)}{s:σ}{r:ρ}(h:f s=some (.inr r)):Fv f s=some r:=iR (n:=1) (by simp [ry,h])
end
def ug{σ ρ:Type}(M:σ→St→Prop)(X:ρ→Ex→St→Prop):σ⊕ρ→Ex→St→Prop
 | .inl v,.normal,s=>M v s
 | .inl _,_,_=>False
 | .inr _,.normal,_=>False
 | .inr r,ex,s=>X r ex s
theorem Dw{σ ρ:Type}(M:σ→St→Prop)(X:ρ→Ex→St→Prop)(v:σ)(s:St):ug M X (.inl v) .normal s=M v s:=nr rfl
theorem Ir{σ ρ:Type}(M:σ→St→Prop)(X:ρ→Ex→St→Prop)(r:ρ)(j:Nat)(s:St):ug M X (.inr r) (.exit j) s=X r (.exit j) s:=nr rfl
theorem Tz{σ ρ:Type}(M:σ→St→Prop)(X:ρ→Ex→St→Prop)(r:ρ)(s:St):ug M X (.inr r) .ret s=X r .ret s:=nr rfl
theorem Ap{E:Env}{c:SC}{σ ρ:Type}(f:σ→Option (σ⊕ρ))(M:σ→St→Prop)(X:ρ→Ex→St→Prop)
  (hstep: ∀v s o,M v s→f v=some o→BU E c (ug M X o) s){v:σ}{s:St}{r:ρ}(h:Fv f v=some r)(hM:M v s):BU E (.loop c) (X r) s:=by
 obtain⟨n,hn⟩:=ZO h
 induction n generalizing v s with
 |zero=>simp [ry]at hn
 |succ n ih=>
  simp only [ry]at hn
  cases hf:f v with
  |none=>simp [hf]at hn
  |some o=>
   obtain⟨ex,s1,h1,h2⟩:=hstep v s o hM hf
   cases o with
   |inl v'=>
    simp only [hf]at hn
    cases ex with
    |normal=>
     obtain⟨ex',s2,h3,h4⟩:=ih (iR hn) h2 hn
     refine⟨ex',s2, ?_,h4⟩
     simp only [Eg]at h3 ⊢;rw [iJ,h1];exact h3
    |exit id=>exact h2.elim
    |ret=>exact h2.elim
   |inr r'=>
    simp only [hf,Option.some.injEq]at hn;subst hn
    cases ex with
    |normal=>exact h2.elim
    |exit id=>exact⟨_,s1,by simp only [Eg];rw [iJ,h1],h2⟩
    |ret=>exact⟨_,s1,by simp only [Eg];rw [iJ,h1],h2⟩
def AJ{α:Type}(c:α→D)(xs:List α):List D:=xs.map c
def cat{α:Type}(c:α→List D)(xs:List α):List D:=xs.flatMap c
section
variable {α:Type} (c:α→D)
theorem VQ:AJ c []=[]:=nr rfl
theorem Ki(x:α)(xs:List α):AJ c (x::xs)=c x::AJ c xs:=nr rfl
theorem CP(xs:List α):(AJ c xs).length=xs.length:=by simp [AJ]
theorem nT[Inhabited α](xs:List α)(i:Nat)(h:i<xs.length):(AJ c xs).getD i .undef=c (xs.getD i default):=by
 simp [AJ,Lp,h]
theorem A71[Inhabited α](xs:List α)(i:Nat)(h:i<xs.length):(AJ c xs)[i]? =some (c (xs.getD i default)):=by
 simp [AJ,Lp,h]
theorem uh(xs:List α)(i:Nat)(y:α):(AJ c xs).set i (c y)=AJ c (xs.set i y):=by simp [AJ]
theorem rz(xs ys:List α):AJ c xs++AJ c ys=AJ c (xs++ys):=by simp [AJ]
theorem zy(xs:List α)(n:Nat):(AJ c xs).take n=AJ c (xs.take n):=by simp [AJ]
theorem zz(xs:List α)(n:Nat):(AJ c xs).drop n=AJ c (xs.drop n):=by simp [AJ]
theorem ZP(xs:List α)(h: ∀x,(c x).hasObj=false):Ag (AJ c xs)=false:=by
 induction xs with
 |nil=>rfl
 |cons x xs ih=>simp only [Ki,Ag,h,ih];rfl
theorem A2l(xs:List α)(h: ∀x,Dr (c x)=some (c x)):Ed (AJ c xs)=some (AJ c xs):=by
 induction xs with
 |nil=>rfl
 |cons x xs ih=>simp only [Ki,Ed,h,ih];rfl
theorem A00(c:α→List D)(c':α→List D)(e:TypeId)(xs:List α)(h: ∀x,Ed (c x)=some (c' x)):Ed (AJ (fun x=>D.own e (c x)) xs)=some (AJ (fun x=>D.sl e (c' x)) xs):=by
 induction xs with
 |nil=>rfl
 |cons x xs ih=>simp only [Ki,Ed,Dr,h,ih];rfl
theorem x9(xs:List α)(h: ∀x,ES (c x)=false):IV (AJ c xs)=false:=by
 induction xs with
 |nil=>rfl
 |cons x xs ih=>simp only [Ki,IV,h,ih];rfl
theorem eU(xs:List α)(h: ∀x,D9 (c x)=true):(AJ c xs).all D9=true:=by simp [AJ,h]
end
section
variable {α:Type} (c:α→List D) (n:Nat)
theorem A2m:cat c []=[]:=nr rfl
theorem nU(x:α)(xs:List α):cat c (x::xs)=c x++cat c xs:=nr rfl
theorem sD(h: ∀x,(c x).length=n)(xs:List α):(cat c xs).length=xs.length*n:=by
 induction xs with
 |nil=>simp [A2m]
 |cons x xs ih=>simp only [nU,KU,h,ih,JS,Nat.succ_mul];omega
theorem sG(xs:List α)(h: ∀x,Ag (c x)=false):Ag (cat c xs)=false:=by
 have app: ∀(as bs:List D),Ag (as++bs)=(Ag as||Ag bs):=by
  intro as bs
  induction as with
  |nil=>simp [Ag]
  |cons a as ih=>simp [Ag,ih,Bool.or_assoc]
 induction xs with
 |nil=>rfl
 |cons x xs ih=>rw [nU,app,h,ih];rfl
end
def sI{α:Type}:List α→Nat→List α→List α
 |xs,_,[]=>xs
 |xs,c,y::ys=>sI (xs.set c y) (c+1) ys
theorem ZQ{α:Type}(c:α→D): ∀(ys xs:List α) (n:Nat),CS (AJ c xs) n (AJ c ys)=AJ c (sI xs n ys):=by
 intro ys
 induction ys with
 |nil=>intro xs n;cases xs<;>rfl
 |cons y ys ih=>
  intro xs n
  have h1:CS (AJ c xs) n (AJ c (y::ys))=CS ((AJ c xs).set n (c y)) (n+1) (AJ c ys):=by
   rw [Ki];cases AJ c xs<;>rfl
  rw [h1,uh,ih];rfl
theorem A01{α:Type}: ∀(ys xs:List α) (n:Nat),n+ys.length≤xs.length→sI xs n ys=xs.take n++(ys++xs.drop (n+ys.length)):=by
 intro ys
 induction ys with
 |nil=>intro xs n _;simp [sI]
 |cons y ys ih=>
  intro xs n h;simp only [JS]at h;unfold sI;rw [ih (xs.set n y) (n+1) (by simp;omega)]
  have h1:(xs.set n y).take (n+1)=xs.take n++[y]:=by
   rw [S9 (by simp;omega),List.getElem_set_self,List.take_set_of_le (Io _)]
  rw [h1,List.drop_set_of_lt (by omega),JS,show n+1+ys.length=n+(ys.length+1) by omega,Tv];rfl
theorem AQ{α β:Type}{o:Option α}{f:α→Option β}{r:β}(h:o.bind f=some r): ∃a,o=some a∧f a=some r:=by
 cases o with
 |none=>cases h
 |some a=>exact⟨a,rfl,h⟩
theorem DL{α:Type}{c:Prop}[Decidable c]{o:Option α}{r:α}(h:ck c o=some r):c∧o=some r:=by
 unfold ck at h
 split at h
 ·rename_i hc;exact⟨hc,h⟩
 ·cases h
section
variable {α:Type} (c:α→D)
theorem iS{α:Type}{c:Prop}[Decidable c]{a b:Option α}{r:α}(h:(if c then a else b)=some r):(c∧a=some r)∨(¬c∧b=some r):=by
 by_cases hc:c
 ·rw [if_pos hc]at h;exact .inl ⟨hc,h⟩
 ·rw [if_neg hc]at h;exact .inr ⟨hc,h⟩
theorem Fy{α:Type}{c d:Prop}[Decidable c][Decidable d]{o:Option α}{r:α}(h:ck c (ck d o)=some r):c∧d∧o=some r:=⟨(DL h).1,DL (DL h).2⟩
theorem Wm{α:Type}{c d e:Prop}[Decidable c][Decidable d][Decidable e]{o:Option α}{r:α}(h:ck c (ck d (ck e o))=some r):c∧d∧e∧o=some r:=⟨(DL h).1,Fy (DL h).2⟩
theorem bY{α:Type}{c d e f:Prop}[Decidable c][Decidable d][Decidable e][Decidable f]{o:Option α}{r:α}(h:ck c (ck d (ck e (ck f o)))=some r):c∧d∧e∧f∧o=some r:=⟨(DL h).1,Wm (DL h).2⟩
theorem xA(xs:List α)(y:α)(ds:List D):AJ c xs++(c y::ds)=AJ c (xs++[y])++ds:=by simp [AJ]
theorem A02(c:α→List D)(e:TypeId)(xs:List α)(h: ∀x,Ed (c x)=some (c x)):Ed (AJ (fun x=>D.own e (c x)) xs)=some (AJ (fun x=>D.sl e (c x)) xs):=A00 c c e xs h
def Qb(c:α→D):Option α→D
 |some a=>c a
 |none=> .undef
theorem nV[Inhabited α](o:Option α)(h:o.isSome=true):Qb c o=c (o.getD default):=by cases o with|none=>cases h|some _=>rfl
theorem iT(xs:List α):AJ (Qb c) (xs.map some)=AJ c xs:=by simp [AJ,Function.comp_def,Qb]
theorem ZR(xs:List (Option α))(n:Nat):(AJ (Qb c) xs).set n .undef=AJ (Qb c) (xs.set n none):=by simp [AJ,List.map_set,Qb]
theorem A03(xs:List (Option α))(n:Nat)(y:α):(AJ (Qb c) xs).set n (c y)=AJ (Qb c) (xs.set n (some y)):=by simp [AJ,List.map_set,Qb]
theorem A04(xs:List α):(xs.map some).length=xs.length:=by simp
theorem nW(xs:List α)(n:Nat):(AJ c xs).set n .undef=AJ (Qb c) ((xs.map some).set n none):=by rw [←ZR,iT]
theorem A2n(xs:List (Option α))(n:Nat):AJ (Qb (Qb c)) ((xs.map some).set n none)=AJ (Qb c) (xs.set n none):=by rw [←nW,ZR]
theorem A05(xs:List α)(n:Nat)(y:α):(xs.map some).set n (some y)=(xs.set n y).map some:=List.map_set.symm
theorem sJ(ys:List α)(xs:List (Option α))(n:Nat):CS (AJ (Qb c) xs) n (AJ c ys)=AJ (Qb c) (sI xs n (ys.map some)):=by
 rw [←iT c ys,ZQ]
theorem uj[Inhabited α]: ∀(xs:List (Option α)),(xs.all Option.isSome)=true→AJ (Qb c) xs=AJ c (xs.map fun o=>o.getD default)
 | [],_=>rfl
 |x::xs,h=>by
  simp only [Xo,Ju]at h;show Qb c x::AJ (Qb c) xs=_
  rw [nV c x h.1,uj xs h.2];rfl
theorem A2o(n:Nat)(k:IntKind)(x:Int):List.replicate n (D.int k x)=AJ (D.int k) (List.replicate n x):=by simp [AJ]
theorem A2p(n:Nat)(e:TypeId):List.replicate n (D.own e [])=AJ (fun x=>D.own e (AJ (D.int .i64) x)) (List.replicate n []):=by simp [AJ]
theorem A06(n:Nat)(x:Bool):List.replicate n (D.bool x)=AJ D.bool (List.replicate n x):=by simp [AJ]
variable [Inhabited α] {T:Tys}
theorem AJI(e:TypeId)(n:Int)(xs:List α)(hk:T.known e=true)(hz:T.size e=1)(hn:0≤n∧n.toNat<xs.length):at1 T e n (some (e,AJ c xs,none))=some (.cptr [c (xs.getD n.toNat default)]):=by
 rw [AGt e n (AJ c xs) hk hz (by simpa [AJ] using hn),nT c xs _ hn.2]
end
theorem AJJ{s:St}(dst:Option Tmp)(u:Tmp)(i:Nat)(L:A9)(n m:Nat):lJ s dst u i (some (.vw L n m))=some (s.putO dst (.vw L n m)):=by simp [lJ,DN,IK,D.hasObj,Mo]
theorem nX{α:Type}(c:α→D)(xs:List α):(AJ c xs).isEmpty=xs.isEmpty:=by cases xs<;>rfl
theorem A3b{α:Type}(c:α→D)(e:TypeId)(xs:List α):ES (.sl e (AJ c xs))= !xs.isEmpty:=by simp only [ES,nX]
theorem sK{α β:Type}(c:β→D)(f:α→List β)(e:TypeId)(xs:List α):IV (AJ (fun x=>D.sl e (AJ c (f x))) xs)=xs.any fun x=> !(f x).isEmpty:=by
 induction xs with
 |nil=>rfl
 |cons x xs ih=>simp only [Ki,IV,A3b,ih,List.any_cons]
theorem nY{α:Type}(c:α→List D)(e:TypeId)(xs:List α):Ag (AJ (fun x=>D.own e (c x)) xs)= !xs.isEmpty:=by
 cases xs with
 |nil=>rfl
 |cons x xs=>simp [Ki,Ag,D.hasObj]
section
variable {pm:Pm} {s:St} {dst:Option Tmp}
theorem AJK(ls:List (A9×D))(r:D)(o:List D)(h:ES r=true):cb2 pm s dst ls (some (r,o))=if(Ev (ls.map (·.1))&&ls.all (fun l=>pm.wr (l.1.headD 0)))=true then(KW ls).map fun ls'=>(back false s ls').putO dst r else none:=by
 simp [cb2,h]
theorem faN:KW []=some []:=nr rfl
def fac(L:A9)(o:Option (List (A9×D))):Option D→Option (List (A9×D))
 |some c=>o.map ((L,c):: ·)
 |none=>none
theorem faC(L:A9)(c:D)(rest:List (A9×D)):KW ((L,c)::rest)=fac L (KW rest) (Dr c):=by
 simp only [KW];cases Dr c<;>rfl
theorem AJL(L:A9)(ls:List (A9×D))(c:D):fac L (some ls) (some c)=some ((L,c)::ls):=nr rfl
end
def A2q(xs:List (Int×Int))(n:Nat):Int:=(xs.getD n default).1
def A72(xs:List (Int×Int))(n:Nat):Int:=(xs.getD n default).2
def Rq(k l:IntKind)(xs:List (Int×Int)):List D:=cat (fun x=>[D.int k x.1,D.int l x.2]) xs
theorem AU(k l:IntKind):Rq k l []=[]:=nr rfl
theorem Qc(k l:IntKind)(x:Int×Int)(xs:List (Int×Int)):Rq k l (x::xs)=D.int k x.1::D.int l x.2::Rq k l xs:=nr rfl
theorem Xe(k l:IntKind)(xs:List (Int×Int)):(Rq k l xs).length=xs.length*2:=sD _ 2 (fun _=>rfl) xs
theorem A07(k l:IntKind)(xs:List (Int×Int)): ∀(n:Nat),n<xs.length→(Rq k l xs)[n*2]? =some (D.int k (A2q xs n))∧(Rq k l xs)[n*2+1]? =some (D.int l (A72 xs n)):=by
 induction xs with
 |nil=>intro n h;simp at h
 |cons x xs ih=>
  intro n h
  cases n with
  |zero=>exact⟨rfl,rfl⟩
  |succ n=>
   have:=ih n (by simpa using h)
   rw [Qc,Nat.succ_mul];exact this
theorem xB(k l:IntKind)(v:Int): ∀(xs:List (Int×Int)) (n:Nat),n<xs.length→(Rq k l xs).set (n*2) (D.int k v)=Rq k l (xs.set n (v,A72 xs n)):=by
 intro xs
 induction xs with
 |nil=>intro n h;simp at h
 |cons x xs ih=>
  intro n h
  cases n with
  |zero=>rfl
  |succ n=>
   have:=ih n (by simpa using h)
   rw [Qc,Nat.succ_mul,lN,lN,lN,this,Qc];rfl
theorem xC(k l:IntKind)(v:Int): ∀(xs:List (Int×Int)) (n:Nat),n<xs.length→(Rq k l xs).set (n*2+1) (D.int l v)=Rq k l (xs.set n (A2q xs n,v)):=by
 intro xs
 induction xs with
 |nil=>intro n h;simp at h
 |cons x xs ih=>
  intro n h
  cases n with
  |zero=>rfl
  |succ n=>
   have:=ih n (by simpa using h)
   rw [Qc,Nat.succ_mul,show n*2+2+1=n*2+1+1+1 by omega,lN,lN,lN,this,Qc];rfl
theorem nZ(k l:IntKind)(xs:List (Int×Int)):Ag (Rq k l xs)=false:=sG _ xs (fun _=>by simp [Ag,D.hasObj])
section
variable {T:Tys} {pm:Pm} {s:St} {t:TypeId}
theorem cs2(k l:IntKind)(L:A9)(e:TypeId)(n:Nat)(xs:List (Int×Int))(h:n<xs.length):cellsOf s L (n*2) 2 (some (.own e (Rq k l xs)))=some (.agg [D.int k (A2q xs n),D.int l (A72 xs n)]):=by
 obtain⟨h0,h1⟩:=A07 k l xs n h
 show(if n*2+2≤(Rq k l xs).length then DN (.agg ((List.range 2).map fun i=>IK s L (n*2+i) ((Rq k l xs).getD (n*2+i) .undef)))else none)=_
 rw [if_pos (by rw [Xe];omega),rg2,Nat.add_zero,Lp,Lp,h0,h1];rfl
def sq1(T:Tys)(pm:Pm)(t:TypeId)(u:Tmp)(a b:D)(s:St):Option D→Nat→A9→Option St
 |some (.own e xs),c,L=>if T.known t&&T.isStruct t&&pm.wr (L.headD 0)&&D9 a&&D9 b&&(T.size t==2)&&decide (c+2≤xs.length)&& !a.hasObj&& !b.hasObj&& !Ag xs then some (s.set L (.own e ((xs.set c a).set (c+1) b)))else lK T pm t (.tmp u) (some (.agg [a,b],s))
 |_,_,_=>lK T pm t (.tmp u) (some (.agg [a,b],s))
theorem sM(k l:IntKind)(xs:List (Int×Int))(n:Nat)(a b:Int)(h:n<xs.length):((Rq k l xs).set (n*2) (D.int k a)).set (n*2+1) (D.int l b)=Rq k l (xs.set n (a,b)):=by
 rw [xB k l a xs n h,xC k l b _ n (by simpa using h),List.set_set]
 congr 2
 simp [A2q,Lp,h]
theorem AJM(k l:IntKind)(u:Tmp)(a b:Int)(L:A9)(e:TypeId)(n:Nat)(xs:List (Int×Int))(hk:T.known t=true)(hs:T.isStruct t=true)(hw:pm.wr (L.headD 0)=true)(hz:T.size t=2)(h:n<xs.length):
  sq1 T pm t u (.int k a) (.int l b) s (some (.own e (Rq k l xs))) (n*2) L=some (s.set L (.own e (Rq k l (xs.set n (a,b))))):=by
 simp only [sq1];rw [if_pos,sM k l xs n a b h];simp only [hk,hs,hw,hz,D9,Xe,nZ,D.hasObj,Ju,decide_eq_true_eq,beq_self_eq_true,Bool.not_false,and_true,true_and];omega
end
set_option linter.defProp false
def A73:=A7 @AJJ (A7 @ZQ (A7 @nY (A7 @A3b (A7 @sK (A7 @AJK (A7 @faN (A7 @faC (A7 @AJL (A7 @AJI (A7 @CP (A7 @A71 (A7 @nT (A7 @uh (A7 @rz (A7 @xA (A7 @zy (A7 @zz (A7 @ZP (A7 @A2l (A7 @A02 (A7 @x9 (A7 @eU (A7 @A2p (A7 @nV (A7 @iT (A7 @A04 (A7 @nW (A7 @A05 (A7 (A7 @A2n @ZR) (A7 @A03 (A7 @sJ (A7 @uj (A7 @A2o @A06)))))))))))))))))))))))))))))))))
theorem tk4(a b c d:D)(l:List D):List.take 4 (a::b::c::d::l)=[a,b,c,d]:=nr rfl
theorem dr0(l:List D):List.drop 0 l=l:=nr rfl
theorem dr1(a:D)(l:List D):List.drop 1 (a::l)=l:=nr rfl
theorem dr4(a0 a1 a2 a3:D)(l:List D):List.drop 4 (a0::a1::a2::a3::l)=l:=nr rfl
def xc2:=A7 @Nat.add_zero (A7 @tk4 (A7 @dr0 (A7 @dr1 (A7 @dr4 (A7 @List.length_set.{0} (@AJM))))))
def Ce:=A7 @implies_true.{1} (A7 @Option.bind_some.{0,0} (A7 @Option.map_some.{0,0} (A7 @Option.isSome_some.{0} (A7 @List.contains_cons.{0} (A7 @List.contains_nil.{0} (A7 @List.getD_cons_zero.{0} (A7 @List.getD_cons_succ.{0} (A7 @List.getD_nil.{0} (A7 @List.length_cons.{0} (A7 @List.length_nil.{0} (A7 @List.size_toArray.{0} (A7 @List.toList_toArray.{0} (A7 @List.zip_cons_cons.{0,0} (A7 @List.zip_nil_left.{0,0} (A7 @List.append_nil.{0} (A7 @List.nil_append.{0} (A7 @List.cons_append.{0} (A7 @List.map_cons.{0,0} (A7 @List.map_nil.{0,0} (A7 @List.replicate_succ.{0} (A7 @List.replicate_zero.{0} (A7 @List.set_cons_zero.{0} (A7 @List.set_cons_succ.{0} (A7 @List.set_set.{0} (A7 @List.all_cons.{0} (A7 @List.any_cons.{0} (A7 @List.any_nil.{0} (A7 @List.all_nil.{0} (A7 @List.getElem?_cons_zero.{0} (A7 @List.getElem?_cons_succ.{0} (A7 @List.getElem?_nil.{0} (@beq_self_eq_true.{0}))))))))))))))))))))))))))))))))
end Dv
namespace Dv
open Go
section
variable {σ ρ α β:Type}
theorem BD(f:σ→Option (σ⊕ρ))(st:Nat→σ): ∀(n:Nat) (r:ρ),(∀i,i<n→f (st i)=some (.inl (st (i+1))))→f (st n)=some (.inr r)→Fv f (st 0)=some r:=by
 intro n r h e
 have key: ∀k,k≤n→Fv f (st (n-k))=some r:=by
  intro k
  induction k with
  |zero=>intro _;exact Fp e
  |succ k ih=>
   intro hk;have h1:=h (n-(k+1)) (by omega)
   rw [NH h1,show n-(k+1)+1=n-k by omega]
   exact ih (by omega)
 have:=key n (Io _)
 rwa [Xp]at this
theorem JV(f:σ→Option (σ⊕ρ))(I:Nat→σ→Prop)(Q:ρ→Prop)(step: ∀n s,I n s→(∃s' m,f s=some (.inl s')∧m<n∧I m s')∨(∃r,f s=some (.inr r)∧Q r)):
  ∀(n:Nat) (s:σ),I n s→ ∃r,Fv f s=some r∧Q r:=by
 intro n
 induction n using Nat.strongRecOn with
 |_ n ih=>
  intro s hI;rcases step n s hI with⟨s',m,h1,h2,h3⟩|⟨r,h1,h2⟩
  ·rw [NH h1];exact ih m h2 s' h3
  ·exact⟨r,Fp h1,h2⟩
theorem A08(f:σ→Option (σ⊕ρ))(mk:Nat→β→σ)(P:Nat→β→Prop)(xs:List α)(g:β→α→β)(Du:β→ρ)
  (h: ∀(i:Nat) (b:β) (hi:i<xs.length),P i b→f (mk i b)=some (.inl (mk (i+1) (g b xs[i])))∧P (i+1) (g b xs[i]))
  (e: ∀b,P xs.length b→f (mk xs.length b)=some (.inr (Du b)))(b0:β)(h0:P 0 b0):Fv f (mk 0 b0)=some (Du (xs.foldl g b0))∧P xs.length (xs.foldl g b0):=by
 have key: ∀(k:Nat) (b:β),k≤xs.length→P (xs.length-k) b→Fv f (mk (xs.length-k) b)=some (Du ((xs.drop (xs.length-k)).foldl g b))∧P xs.length ((xs.drop (xs.length-k)).foldl g b):=by
  intro k
  induction k with
  |zero=>intro b _ hp;simp only [Nat.sub_zero,List.drop_length,List.foldl_nil]at hp ⊢;exact⟨Fp (e b hp),hp⟩
  |succ k ih=>
   intro b hk hp;have hl:xs.length-(k+1)<xs.length:=by omega
   obtain⟨h1,h2⟩:=h (xs.length-(k+1)) b hl hp;rw [fw hl,Xn,NH h1];have e1:xs.length-(k+1)+1=xs.length-k:=by omega
   rw [e1]at h2 ⊢;exact ih _ (by omega) h2
 have:=key xs.length b0 (Io _) (by rwa [Xp])
 rwa [Xp,UT]at this
end
theorem RH{n:Nat}{P:Nat→Bool}(h: ¬ ∀i,i<n→P i=true): ∃m,m<n∧P m=false∧ ∀i,i<m→P i=true:=by
 induction n with
 |zero=>exact absurd (fun i hi=>absurd hi (Nat.not_lt_zero _)) h
 |succ n ih=>
  by_cases hn: ∀i,i<n→P i=true
  ·refine⟨n,Nat.lt_succ_self _, ?_,hn⟩
   cases hp:P n with
   |false=>rfl
   |true=>exact absurd (fun i hi=>by rcases Nat.lt_succ_iff_lt_or_eq.1 hi with h1|rfl;exact hn i h1;exact hp) h
  ·obtain⟨m,h1,h2,h3⟩:=ih hn
   exact⟨m,by omega,h2,h3⟩
theorem K5{n:Nat}{P:Nat→Bool}:(List.range n).all P=true↔ ∀i,i<n→P i=true:=by
 simp [JR]
theorem ng{σ ρ:Type}(f:σ→Option (σ⊕ρ))(st:Nat→σ)(n:Nat)(P:Nat→Bool)(bad good:ρ)
  (h: ∀i,i<n→(∀j,j<i→P j=true)→f (st i)=if P i=true then some (.inl (st (i+1)))else some (.inr bad))(e:(∀j,j<n→P j=true)→f (st n)=some (.inr good)):Fv f (st 0)=some (if(List.range n).all P=true then good else bad):=by
 by_cases hp: ∀i,i<n→P i=true
 ·rw [if_pos (K5.2 hp)];refine BD f st n good (fun i hi=> ?_) (e hp);rw [h i hi (fun j hj=>hp j (by omega)),if_pos (hp i hi)]
 ·rw [if_neg (fun hc=>hp (K5.1 hc))];obtain⟨m,h1,h2,h3⟩:=RH hp;refine BD f st m bad (fun i hi=> ?_) ?_
  ·rw [h i (by omega) (fun j hj=>h3 j (by omega)),if_pos (h3 i hi)]
  ·rw [h m h1 h3,h2];rfl
theorem Pi{σ ρ:Type}(f:σ→Option (σ⊕ρ))(st:Nat→σ)(n:Nat)(P:Nat→Bool)(bad good:ρ)
  (h: ∀i,i<n→f (st i)=if P i=true then some (.inl (st (i+1)))else some (.inr bad))(e:f (st n)=some (.inr good)):Fv f (st 0)=some (if(List.range n).all P=true then good else bad):=
 ng f st n P bad good (fun i hi _=>h i hi) (fun _=>e)
theorem ZT{α:Type}[Inhabited α](p:α→Bool)(xs:List α):(List.range xs.length).all (fun i=>p (xs.getD i default))=xs.all p:=by
 rw [Bool.eq_iff_iff,K5,JR]
 constructor
 ·intro h x hx;obtain⟨i,hi,rfl⟩:=UO hx;have:=h i hi
  rwa [Lp,Fz hi]at this
 ·intro h i hi;rw [Lp,Fz hi];exact h _ (FT hi)
theorem ZU{α:Type}[DecidableEq α][Inhabited α](a b:List α)(hl:a.length=b.length):(List.range a.length).all (fun i=>decide (a.getD i default=b.getD i default))=decide (a=b):=by
 by_cases he:a=b
 ·subst he;simp
 ·rw [decide_eq_false he,Gf];intro hc;rw [K5]at hc;refine he (List.ext_getElem hl fun i h1 h2=> ?_);have:=hc i h1
  rw [Lp,Lp,Fz h1,Fz h2]at this;simpa using this
theorem A09{α γ:Type}(f:List γ×Int→Option ((List γ×Int)⊕List γ))(xs:List α)(g:α→γ)
  (h: ∀(i:Nat) (hi:i<xs.length) (out:List γ),out.length=i→f (out,(i:Int))=some (.inl (out++[g xs[i]],((i+1:Nat):Int))))
  (e: ∀out:List γ,out.length=xs.length→f (out,(xs.length:Int))=some (.inr out)):Fv f ([],0)=some (xs.map g):=by
 have key:=BD f (fun i=>((xs.take i).map g,(i:Int))) xs.length (xs.map g) ?_ ?_
 ·simpa using key
 ·intro i hi;have:=h i hi ((xs.take i).map g) (by simp;omega)
  rw [this,S9 hi,UR];rfl
 ·simp only [Lr];exact e _ (by simp)
theorem H9(i:Nat)(h:i<4611686018427387904):IntKind.i64.wrap ((i:Int)+1)=((i+1:Nat):Int):=by
 rw [Db _ (by omega)];rfl
theorem AX{α:Type}[Inhabited α](xs:List α)(i:Nat)(h:i<xs.length):xs.getD i default=xs[i]:=by
 rw [Lp,Fz h];rfl
theorem M7{α:Type}[Inhabited α](xs:List α)(i:Nat)(h:i<xs.length):xs.getD (i:Int).toNat default=xs[i]:=by
 rw [H5];exact AX xs i h
theorem Ao{α:Type}{c:Prop}[Decidable c]{o:Option α}(h:c):ck c o=o:=if_pos h
theorem BZ{i n:Nat}(h:i<n):(i:Int)<(n:Int):=by omega
theorem Ae(n:Nat): ¬(n:Int)<(n:Int):=by omega
theorem Gj{i n:Nat}(h:i<n):0≤(i:Int)∧(i:Int).toNat<n:=by omega
theorem Dc{α:Type}[Inhabited α](a b:List α)(i:Nat)(h:i=a.length)(hb:0<b.length):(a++b).getD i default=b[0]:=by
 subst h;rw [Lp,Ro (Io _),Xp,Fz hb];rfl
end Dv
namespace Dv
open Go
section
variable {T:Tys} {t e a:TypeId} {d:D}
end
end Dv
