/- Value semantics for Go code, part 5: typed lists, loops as functions. Conditions: none beyond those in each lemma. -/
import Derived.Test.YtipfckompmhljaaGreatL4
set_option linter.unusedSimpArgs false
set_option linter.unusedVariables false
namespace Dv
open Go
set_option maxRecDepth 10000
def ck{α:Type}(c:Prop)[Decidable c](o:Option α):Option α:=if c then o else none
section
variable {σ ρ:Type}
def Y7(f:σ→Option (σ⊕ρ)):Nat→σ→Option ρ
 | 0,_=>none
 | n+1,s=>
  match f s with
  | none=>none
  | some (.inl s')=>Y7 f n s'
  | some (.inr r)=>some r
open Classical in
noncomputable def DT(f:σ→Option (σ⊕ρ))(s:σ):Option ρ:=if h: ∃r n,Y7 f n s=some r then some h.choose else none
theorem WF{f:σ→Option (σ⊕ρ)}: ∀ {n m:Nat} {s:σ} {r:ρ},n≤m→Y7 f n s=some r→Y7 f m s=some r:=by
 intro n
 induction n with
 | zero=>intro m s r _ h;simp [Y7]at h
 | succ n ih=>
  intro m s r hm h
  cases m with
  | zero=>omega
  | succ m=>
   simp only [Y7]at h ⊢
   cases hs:f s with
   | none=>simp [hs]at h
   | some q=>
    cases q with
    | inl s'=>simp only [hs]at h ⊢;exact ih (by omega) h
    | inr r'=>simp only [hs]at h ⊢;exact h
theorem TR{f:σ→Option (σ⊕ρ)}{n:Nat}{s:σ}{r:ρ}(h:Y7 f n s=some r):DT f s=some r:=by
 unfold DT
 have hx: ∃r n,Y7 f n s=some r:=⟨r,n,h⟩
 rw [dif_pos hx]
 obtain⟨n',h'⟩:=hx.choose_spec
 have h1:=WF (Nat.le_max_left n n') h
 have h2:=WF (Nat.le_max_right n n') h'
 rw [h1]at h2
 exact h2.symm
theorem Q8{f:σ→Option (σ⊕ρ)}{s:σ}{r:ρ}(h:DT f s=some r): ∃n,Y7 f n s=some r:=by
 unfold DT at h
 split at h
 ·rename_i hx
  simp only [Option.some.injEq]at h
  subst h
  exact hx.choose_spec
 ·cases h
theorem GU{f:σ→Option (σ⊕ρ)}{s s':σ}(h:f s=some (.inl s')):DT f s=DT f s':=by
 cases hi:DT f s' with
 | some r=>
  obtain⟨n,hn⟩:=Q8 hi
  exact TR (n:=n+1) (by simp only [Y7,h];exact hn)
 | none=>
  cases hj:DT f s with
  | none=>rfl
  | some r=>
   obtain⟨n,hn⟩:=Q8 hj
   cases n with
   | zero=>simp [Y7]at hn
   | succ n=>
    simp only [Y7,h]at hn
    rw [TR hn]at hi;cases hi
theorem C5{f:σ→Option (σ⊕ρ)}{s:σ}{r:ρ}(h:f s=some (.inr r)):DT f s=some r:=TR (n:=1) (by simp [Y7,h])
end
def ZD{σ ρ:Type}(M:σ→St→Prop)(X:ρ→Ex→St→Prop):σ⊕ρ→Ex→St→Prop
 | .inl v, .normal,s=>M v s
 | .inl _,_,_=>False
 | .inr _, .normal,_=>False
 | .inr r,ex,s=>X r ex s
theorem Ei{σ ρ:Type}(M:σ→St→Prop)(X:ρ→Ex→St→Prop)(v:σ)(s:St):ZD M X (.inl v) .normal s=M v s:=nr rfl
theorem Ge{σ ρ:Type}(M:σ→St→Prop)(X:ρ→Ex→St→Prop)(r:ρ)(j:Nat)(s:St):ZD M X (.inr r) (.exit j) s=X r (.exit j) s:=nr rfl
theorem Ho{σ ρ:Type}(M:σ→St→Prop)(X:ρ→Ex→St→Prop)(r:ρ)(s:St):ZD M X (.inr r) .ret s=X r .ret s:=nr rfl
theorem Aa{E:Env}{c:SC}{σ ρ:Type}(f:σ→Option (σ⊕ρ))(M:σ→St→Prop)(X:ρ→Ex→St→Prop)
  (hstep: ∀v s o,M v s→f v=some o→Av E c (ZD M X o) s){v:σ}{s:St}{r:ρ}(h:DT f v=some r)(hM:M v s):Av E (.loop c) (X r) s:=by
 obtain⟨n,hn⟩:=Q8 h
 induction n generalizing v s with
 | zero=>simp [Y7]at hn
 | succ n ih=>
  simp only [Y7]at hn
  cases hf:f v with
  | none=>simp [hf]at hn
  | some o=>
   obtain⟨ex,s1,h1,h2⟩:=hstep v s o hM hf
   cases o with
   | inl v'=>
    simp only [hf]at hn
    cases ex with
    | normal=>
     obtain⟨ex',s2,h3,h4⟩:=ih (TR hn) h2 hn
     refine⟨ex',s2, ?_,h4⟩
     simp only [CC]at h3 ⊢
     rw [TL,h1];exact h3
    | exit id=>exact h2.elim
    | ret=>exact h2.elim
   | inr r'=>
    simp only [hf,Option.some.injEq]at hn
    subst hn
    cases ex with
    | normal=>exact h2.elim
    | exit id=>exact⟨_,s1,by simp only [CC];rw [TL,h1],h2⟩
    | ret=>exact⟨_,s1,by simp only [CC];rw [TL,h1],h2⟩
def A9{α:Type}(c:α→D)(xs:List α):List D:=xs.map c
def Ob{α:Type}(c:α→List D)(xs:List α):List D:=xs.flatMap c
section
variable {α:Type} (c:α→D)
theorem PA:A9 c []=[]:=nr rfl
theorem EY(x:α)(xs:List α):A9 c (x::xs)=c x::A9 c xs:=nr rfl
theorem Lu(xs:List α):(A9 c xs).length=xs.length:=by simp [A9]
theorem WG[Inhabited α](xs:List α)(i:Nat)(h:i<xs.length):(A9 c xs).getD i .undef=c (xs.getD i default):=by
 simp [A9,List.getD_eq_getElem?_getD,h]
theorem lP[Inhabited α](xs:List α)(i:Nat)(h:i<xs.length):(A9 c xs)[i]? =some (c (xs.getD i default)):=by
 simp [A9,List.getD_eq_getElem?_getD,h]
theorem ZE(xs:List α)(i:Nat)(y:α):(A9 c xs).set i (c y)=A9 c (xs.set i y):=by simp [A9]
theorem Y8(xs ys:List α):A9 c xs++A9 c ys=A9 c (xs++ys):=by simp [A9]
theorem cP(xs:List α)(n:Nat):(A9 c xs).take n=A9 c (xs.take n):=by simp [A9]
theorem cQ(xs:List α)(n:Nat):(A9 c xs).drop n=A9 c (xs.drop n):=by simp [A9]
theorem Lv(xs:List α)(h: ∀x,(c x).hasObj=false):AF (A9 c xs)=false:=by
 induction xs with
 | nil=>rfl
 | cons x xs ih=>simp only [EY,AF,h,ih];rfl
theorem gA(xs:List α)(h: ∀x,Bz (c x)=some (c x)):BI (A9 c xs)=some (A9 c xs):=by
 induction xs with
 | nil=>rfl
 | cons x xs ih=>simp only [EY,BI,h,ih];rfl
theorem WH(c:α→List D)(c':α→List D)(e:TypeId)(xs:List α)(h: ∀x,BI (c x)=some (c' x)):BI (A9 (fun x=>D.own e (c x)) xs)=some (A9 (fun x=>D.sl e (c' x)) xs):=by
 induction xs with
 | nil=>rfl
 | cons x xs ih=>simp only [EY,BI,Bz,h,ih];rfl
theorem aI(xs:List α)(h: ∀x,BQ (c x)=false):BR (A9 c xs)=false:=by
 induction xs with
 | nil=>rfl
 | cons x xs ih=>simp only [EY,BR,h,ih];rfl
theorem Nd(xs:List α)(h: ∀x,Ax (c x)=true):(A9 c xs).all Ax=true:=by simp [A9,h]
end
theorem cR(xs:List Int):BP xs=A9 (D.int .i64) xs:=nr rfl
theorem gB(e:TypeId)(l:List (List Int)):Q6 e l=A9 (fun x=> .sl e (A9 (D.int .i64) x)) l:=nr rfl
theorem cT(e:TypeId)(l:List (List Int)):Jv e l=A9 (fun x=> .own e (A9 (D.int .i64) x)) l:=nr rfl
section
variable {α:Type} (c:α→List D) (n:Nat)
theorem PB:Ob c []=[]:=nr rfl
theorem Ha(x:α)(xs:List α):Ob c (x::xs)=c x++Ob c xs:=nr rfl
theorem IN(xs ys:List α):Ob c xs++Ob c ys=Ob c (xs++ys):=by simp [Ob]
theorem Q9(h: ∀x,(c x).length=n)(xs:List α):(Ob c xs).length=xs.length*n:=by
 induction xs with
 | nil=>simp [PB]
 | cons x xs ih=>simp only [Ha,List.length_append,h,ih,List.length_cons,Nat.succ_mul];omega
theorem WI(h: ∀x,(c x).length=n)(xs:List α): ∀(i:Nat),(Ob c xs).drop (i*n)=Ob c (xs.drop i):=by
 induction xs with
 | nil=>intro i;simp [PB]
 | cons x xs ih=>
  intro i
  cases i with
  | zero=>simp
  | succ i=>
   rw [Ha,List.drop_append,List.drop_succ_cons,←ih i,h,Nat.succ_mul]
   have e1:(c x).drop (i*n+n)=[]:=List.drop_eq_nil_of_le (by rw [h];omega)
   rw [e1,Nat.add_sub_cancel];rfl
theorem cU(h: ∀x,(c x).length=n)(xs:List α): ∀(i:Nat),(Ob c xs).take (i*n)=Ob c (xs.take i):=by
 induction xs with
 | nil=>intro i;simp [PB]
 | cons x xs ih=>
  intro i
  cases i with
  | zero=>simp [PB]
  | succ i=>
   rw [Ha,List.take_append,List.take_succ_cons,Ha,←ih i,h,Nat.succ_mul,Nat.add_sub_cancel]
   rw [List.take_of_length_le (by rw [h];omega)]
theorem Lw(xs:List α)(h: ∀x,AF (c x)=false):AF (Ob c xs)=false:=by
 have app: ∀(as bs:List D),AF (as++bs)=(AF as||AF bs):=by
  intro as bs
  induction as with
  | nil=>simp [AF]
  | cons a as ih=>simp [AF,ih,Bool.or_assoc]
 induction xs with
 | nil=>rfl
 | cons x xs ih=>rw [Ha,app,h,ih];rfl
theorem WJ: ∀(as bs as' bs':List D),BI as=some as'→BI bs=some bs'→BI (as++bs)=some (as'++bs'):=by
 intro as
 induction as with
 | nil=>intro bs as' bs' h1 h2;simp [BI]at h1;subst h1;simpa using h2
 | cons a as ih=>
  intro bs as' bs' h1 h2
  simp only [BI,Option.bind_eq_some_iff,Option.map_eq_some_iff]at h1
  obtain⟨a',ha,as1,has,rfl⟩:=h1
  simp only [List.cons_append,BI,ha,ih _ _ _ has h2];rfl
theorem TS(xs:List α)(h: ∀x,BI (c x)=some (c x)):BI (Ob c xs)=some (Ob c xs):=by
 induction xs with
 | nil=>rfl
 | cons x xs ih=>rw [Ha];exact WJ _ _ _ _ (h x) ih
theorem RP(as bs:List D):BR (as++bs)=(BR as||BR bs):=by
 induction as with
 | nil=>simp [BR]
 | cons a as ih=>simp [BR,ih,Bool.or_assoc]
theorem Nf(xs:List α)(h: ∀x,BR (c x)=false):BR (Ob c xs)=false:=by
 induction xs with
 | nil=>rfl
 | cons x xs ih=>rw [Ha,RP,h,ih];rfl
theorem Ng(xs:List α)(h: ∀x,(c x).all Ax=true):(Ob c xs).all Ax=true:=by
 induction xs with
 | nil=>rfl
 | cons x xs ih=>rw [Ha,List.all_append,h,ih];rfl
end
def fB{α:Type}:List α→Nat→List α→List α
 | xs,_,[]=>xs
 | xs,c,y::ys=>fB (xs.set c y) (c+1) ys
theorem QA{α:Type}(c:α→D): ∀(ys xs:List α) (n:Nat),B3 (A9 c xs) n (A9 c ys)=A9 c (fB xs n ys):=by
 intro ys
 induction ys with
 | nil=>intro xs n;cases xs<;>rfl
 | cons y ys ih=>
  intro xs n
  have h1:B3 (A9 c xs) n (A9 c (y::ys))=B3 ((A9 c xs).set n (c y)) (n+1) (A9 c ys):=by
   rw [EY];cases A9 c xs<;>rfl
  rw [h1,ZE,ih];rfl
theorem Y9{α:Type}: ∀(ys xs:List α) (n:Nat),n+ys.length≤xs.length→fB xs n ys=xs.take n++(ys++xs.drop (n+ys.length)):=by
 intro ys
 induction ys with
 | nil=>intro xs n _;simp [fB]
 | cons y ys ih=>
  intro xs n h
  simp only [List.length_cons]at h
  unfold fB
  rw [ih (xs.set n y) (n+1) (by simp;omega)]
  have h1:(xs.set n y).take (n+1)=xs.take n++[y]:=by
   rw [List.take_succ_eq_append_getElem (by simp;omega),List.getElem_set_self,List.take_set_of_le (Nat.le_refl _)]
  rw [h1,List.drop_set_of_lt (by omega),List.length_cons,show n+1+ys.length=n+(ys.length+1) by omega,List.append_assoc];rfl
theorem AL{α β:Type}{o:Option α}{f:α→Option β}{r:β}(h:o.bind f=some r): ∃a,o=some a∧f a=some r:=by
 cases o with
 | none=>cases h
 | some a=>exact⟨a,rfl,h⟩
theorem Ae{α:Type}{c:Prop}[Decidable c]{o:Option α}{r:α}(h:ck c o=some r):c∧o=some r:=by
 unfold ck at h
 split at h
 ·rename_i hc;exact⟨hc,h⟩
 ·cases h
section
variable {α:Type} (c:α→D)
theorem aJ(x:α)(xs:List α):c x::A9 c xs=A9 c (x::xs):=nr rfl
theorem aK(xs:List α)(y:α)(ds:List D):A9 c xs++(c y::ds)=A9 c (xs++[y])++ds:=by simp [A9]
theorem WK(c:α→List D)(e:TypeId)(xs:List α)(h: ∀x,BI (c x)=some (c x)):BI (A9 (fun x=>D.own e (c x)) xs)=some (A9 (fun x=>D.sl e (c x)) xs):=WH c c e xs h
theorem cV{β:Type}(b:β→List D)(e e':TypeId)(f:α→List β)(xs:List α)(h: ∀x,BI (b x)=some (b x)):BI (A9 (fun x=>D.own e (A9 (fun y=>D.own e' (b y)) (f x))) xs)=some (A9 (fun x=>D.sl e (A9 (fun y=>D.sl e' (b y)) (f x))) xs):=
 WH (fun x=>A9 (fun y=>D.own e' (b y)) (f x)) (fun x=>A9 (fun y=>D.sl e' (b y)) (f x)) e xs (fun x=>WK b e' (f x) h)
def Lx(c:α→D):Option α→D
 | some a=>c a
 | none=> .undef
theorem WL[Inhabited α](o:Option α)(h:o.isSome=true):Lx c o=c (o.getD default):=by cases o with | none=>cases h | some _=>rfl
theorem TT(xs:List α):A9 (Lx c) (xs.map some)=A9 c xs:=by simp [A9,Function.comp_def,Lx]
theorem WM(xs:List (Option α))(n:Nat):(A9 (Lx c) xs).set n .undef=A9 (Lx c) (xs.set n none):=by simp [A9,List.map_set,Lx]
theorem cW(xs:List (Option α))(n:Nat)(y:α):(A9 (Lx c) xs).set n (c y)=A9 (Lx c) (xs.set n (some y)):=by simp [A9,List.map_set,Lx]
theorem gC(e:TypeId)(k:IntKind)(x y:List Int)(i:Nat)(h:i<2):([D.sl e (A9 (D.int k) x),D.sl e (A9 (D.int k) y)]:List D)[i]? =some (D.sl e (A9 (D.int k) ([x,y].getD i default))):=by
 rcases i with _ | _ | i
 ·rfl
 ·rfl
 ·omega
theorem gD(xs:List α)(n:Nat):((xs.map some).set n none).length=xs.length:=by simp
theorem cX(xs:List α):(xs.map some).length=xs.length:=by simp
theorem cY(xs:List α)(n:Nat):(A9 c xs).set n .undef=A9 (Lx c) ((xs.map some).set n none):=by rw [←WM,TT]
theorem cZ(xs:List α)(n:Nat)(y:α):(xs.map some).set n (some y)=(xs.set n y).map some:=List.map_set.symm
theorem ca(xs:List (Option α))(n:Nat)(a b:Option α):(xs.set n a).set n b=xs.set n b:=List.set_set ..
theorem YA(ys:List α)(xs:List (Option α))(n:Nat):B3 (A9 (Lx c) xs) n (A9 c ys)=A9 (Lx c) (fB xs n (ys.map some)):=by
 rw [←TT c ys,QA]
theorem ZF[Inhabited α]: ∀(xs:List (Option α)),(xs.all Option.isSome)=true→A9 (Lx c) xs=A9 c (xs.map fun o=>o.getD default)
 | [],_=>rfl
 | x::xs,h=>by
  simp only [List.all_cons,Bool.and_eq_true]at h
  show Lx c x::A9 (Lx c) xs=_
  rw [WL c x h.1,ZF xs h.2];rfl
theorem gE(n:Nat)(k:IntKind)(x:Int):List.replicate n (D.int k x)=A9 (D.int k) (List.replicate n x):=by simp [A9]
theorem lQ(n:Nat)(e:TypeId):List.replicate n (D.sl e [])=A9 (fun x=>D.sl e (A9 (D.int .i64) x)) (List.replicate n []):=by simp [A9]
theorem gF(n:Nat)(e:TypeId):List.replicate n (D.own e [])=A9 (fun x=>D.own e (A9 (D.int .i64) x)) (List.replicate n []):=by simp [A9]
theorem cb(n:Nat)(x:Bool):List.replicate n (D.bool x)=A9 D.bool (List.replicate n x):=by simp [A9]
variable [Inhabited α] {T:Tys}
theorem A2J(e:TypeId)(n:Int)(xs:List α)(hk:T.known e=true)(hz:T.size e=1)(hn:0≤n∧n.toNat<xs.length):SS T e n (some (e,A9 c xs,none))=some (.cptr [c (xs.getD n.toNat default)]):=by
 rw [kC e n (A9 c xs) hk hz (by simpa [A9] using hn),WG c xs _ hn.2]
end
theorem tH{α:Type}(c:α→D){T:Tys}(e:TypeId)(n:Int)(xs:List α)(L:A5)(a b:Nat)(hk:T.known e=true)(hz:T.size e=1)(hn:0≤n∧n.toNat<xs.length):SS T e n (some (e,A9 c xs,some (L,a,b)))=some (.pe L n.toNat a b):=
 ft e n (A9 c xs) L a b hk hz (by simpa [A9] using hn)
theorem A2K:(true==false)=false:=nr rfl
theorem A2L:(false==true)=false:=nr rfl
theorem A2M:(true==true)=true:=nr rfl
theorem A2N:(false==false)=true:=nr rfl
theorem tI:((0:Nat):Int)=0:=nr rfl
theorem tJ:((1:Nat):Int)=1:=nr rfl
theorem tK(n:Nat):((OfNat.ofNat n:Nat):Int)=OfNat.ofNat n:=nr rfl
theorem A2O{s:St}(dst:Option Tmp)(u:Tmp)(i:Nat)(L:A5)(n m:Nat):RC s dst u i (some (.vw L n m))=some (s.putO dst (.vw L n m)):=by simp [RC,Ay,CO,D.hasObj,H9]
theorem WN{α:Type}(c:α→D)(xs:List α):(A9 c xs).isEmpty=xs.isEmpty:=by cases xs<;>rfl
theorem gn{α:Type}(c:α→D)(e:TypeId)(xs:List α):BQ (.sl e (A9 c xs))= !xs.isEmpty:=by simp only [BQ,WN]
theorem tM(e:TypeId):BQ (.sl e [])=false:=nr rfl
theorem tO(e:TypeId)(x:D)(xs:List D):BQ (.sl e (x::xs))=true:=nr rfl
theorem YB{α β:Type}(c:β→D)(f:α→List β)(e:TypeId)(xs:List α):BR (A9 (fun x=>D.sl e (A9 c (f x))) xs)=xs.any fun x=> !(f x).isEmpty:=by
 induction xs with
 | nil=>rfl
 | cons x xs ih=>simp only [EY,BR,gn,ih,List.any_cons]
theorem WO{α:Type}(c:α→List D)(e:TypeId)(xs:List α):AF (A9 (fun x=>D.own e (c x)) xs)= !xs.isEmpty:=by
 cases xs with
 | nil=>rfl
 | cons x xs=>simp [EY,AF,D.hasObj]
section
variable {pm:Pm} {s:St} {dst:Option Tmp}
theorem A2P(ls:List (A5×D))(r:D)(o:List D)(h:BQ r=true):kg pm s dst ls (some (r,o))=if(CS (ls.map (·.1))&&ls.all (fun l=>pm.wr (l.1.headD 0)))=true then(GC ls).map fun ls'=>(back false s ls').putO dst r else none:=by
 simp [kg,h]
theorem faN:GC []=some []:=nr rfl
def fac(L:A5)(o:Option (List (A5×D))):Option D→Option (List (A5×D))
 | some c=>o.map ((L,c):: ·)
 | none=>none
theorem faC(L:A5)(c:D)(rest:List (A5×D)):GC ((L,c)::rest)=fac L (GC rest) (Bz c):=by
 simp only [GC];cases Bz c<;>rfl
theorem A2Q(L:A5)(ls:List (A5×D))(c:D):fac L (some ls) (some c)=some ((L,c)::ls):=nr rfl
end
def An(xs:List (Int×Int))(n:Nat):Int:=(xs.getD n default).1
def BJ(xs:List (Int×Int))(n:Nat):Int:=(xs.getD n default).2
def AO(k l:IntKind)(xs:List (Int×Int)):List D:=Ob (fun x=>[D.int k x.1,D.int l x.2]) xs
theorem Aq(k l:IntKind):AO k l []=[]:=nr rfl
theorem IB(k l:IntKind)(x:Int×Int)(xs:List (Int×Int)):AO k l (x::xs)=D.int k x.1::D.int l x.2::AO k l xs:=nr rfl
theorem Ki(k l:IntKind)(xs:List (Int×Int)):(AO k l xs).length=xs.length*2:=Q9 _ 2 (fun _=>rfl) xs
theorem QB(k l:IntKind)(xs:List (Int×Int)): ∀(n:Nat),n<xs.length→(AO k l xs)[n*2]? =some (D.int k (An xs n))∧(AO k l xs)[n*2+1]? =some (D.int l (BJ xs n)):=by
 induction xs with
 | nil=>intro n h;simp at h
 | cons x xs ih=>
  intro n h
  cases n with
  | zero=>exact⟨rfl,rfl⟩
  | succ n=>
   have:=ih n (by simpa using h)
   rw [IB,Nat.succ_mul]
   exact this
theorem WP(k l:IntKind)(xs:List (Int×Int))(n:Nat)(h:n<xs.length):(AO k l xs)[n*2]? =some (D.int k (An xs n)):=(QB k l xs n h).1
theorem aL(k l:IntKind)(xs:List (Int×Int))(n:Nat)(h:n<xs.length):(AO k l xs)[n*2+0]? =some (D.int k (An xs n)):=(QB k l xs n h).1
theorem WQ(k l:IntKind)(xs:List (Int×Int))(n:Nat)(h:n<xs.length):(AO k l xs)[n*2+1]? =some (D.int l (BJ xs n)):=(QB k l xs n h).2
theorem Nh(k l:IntKind)(v:Int): ∀(xs:List (Int×Int)) (n:Nat),n<xs.length→(AO k l xs).set (n*2) (D.int k v)=AO k l (xs.set n (v,BJ xs n)):=by
 intro xs
 induction xs with
 | nil=>intro n h;simp at h
 | cons x xs ih=>
  intro n h
  cases n with
  | zero=>rfl
  | succ n=>
   have:=ih n (by simpa using h)
   rw [IB,Nat.succ_mul,List.set_cons_succ,List.set_cons_succ,List.set_cons_succ,this,IB];rfl
theorem SX(k l:IntKind)(v:Int): ∀(xs:List (Int×Int)) (n:Nat),n<xs.length→(AO k l xs).set (n*2+1) (D.int l v)=AO k l (xs.set n (An xs n,v)):=by
 intro xs
 induction xs with
 | nil=>intro n h;simp at h
 | cons x xs ih=>
  intro n h
  cases n with
  | zero=>rfl
  | succ n=>
   have:=ih n (by simpa using h)
   rw [IB,Nat.succ_mul,show n*2+2+1=n*2+1+1+1 by omega,List.set_cons_succ,List.set_cons_succ,List.set_cons_succ,this,IB];rfl
theorem WS(k l:IntKind)(xs ys:List (Int×Int)):AO k l xs++AO k l ys=AO k l (xs++ys):=IN _ xs ys
theorem SY(k l:IntKind)(xs:List (Int×Int))(a b:Int):AO k l xs++[D.int k a,D.int l b]=AO k l (xs++[(a,b)]):=IN _ xs [(a,b)]
theorem YC(k l:IntKind)(xs:List (Int×Int))(a b:Int)(ds:List D):AO k l xs++(D.int k a::D.int l b::ds)=AO k l (xs++[(a,b)])++ds:=by
 rw [←SY,List.append_assoc];rfl
theorem aM(k l:IntKind)(xs:List (Int×Int))(n:Nat):(AO k l xs).take (n*2)=AO k l (xs.take n):=cU _ 2 (fun _=>rfl) xs n
theorem SZ(k l:IntKind)(xs:List (Int×Int))(n:Nat):(AO k l xs).drop (n*2)=AO k l (xs.drop n):=WI _ 2 (fun _=>rfl) xs n
theorem ON(k l:IntKind)(xs:List (Int×Int)):AF (AO k l xs)=false:=Lw _ xs (fun _=>by simp [AF,D.hasObj])
theorem cc(k l:IntKind)(xs:List (Int×Int)):BI (AO k l xs)=some (AO k l xs):=TS _ xs (fun _=>rfl)
theorem YD(k l:IntKind)(xs:List (Int×Int)):BR (AO k l xs)=false:=Nf _ xs (fun _=>rfl)
theorem YE(k l:IntKind)(xs:List (Int×Int)):(AO k l xs).all Ax=true:=Ng _ xs (fun _=>rfl)
theorem TU(k l:IntKind)(xs:List (Int×Int)):(AO k l xs).isEmpty=xs.isEmpty:=by cases xs<;>rfl
theorem cd(k l:IntKind)(n:Nat)(a b:Int):(List.replicate n [D.int k a,D.int l b]).flatten=AO k l (List.replicate n (a,b)):=by
 simp [AO,Ob,List.flatMap_def]
theorem go(k l:IntKind)(e:TypeId)(xs:List (Int×Int)):BQ (.sl e (AO k l xs))= !xs.isEmpty:=by simp only [BQ,TU]
theorem WT{α:Type}(k l:IntKind)(f:α→List (Int×Int))(e:TypeId)(xs:List α):BR (A9 (fun x=>D.sl e (AO k l (f x))) xs)=xs.any fun x=> !(f x).isEmpty:=by
 induction xs with
 | nil=>rfl
 | cons x xs ih=>simp only [EY,BR,go,ih,List.any_cons]
def av(xs:List (Int×Int×Int×Int))(n:Nat):Int:=(xs.getD n default).1
def ng(xs:List (Int×Int×Int×Int))(n:Nat):Int:=(xs.getD n default).2.1
def aw(xs:List (Int×Int×Int×Int))(n:Nat):Int:=(xs.getD n default).2.2.1
def nh(xs:List (Int×Int×Int×Int))(n:Nat):Int:=(xs.getD n default).2.2.2
def EE(xs:List (Int×Int×Int×Int)):List D:=Ob (fun x=>[D.int .i64 x.1,D.int .i64 x.2.1,D.int .i64 x.2.2.1,D.int .i64 x.2.2.2]) xs
theorem Sa(x:Int×Int×Int×Int)(xs:List (Int×Int×Int×Int)):EE (x::xs)=D.int .i64 x.1::D.int .i64 x.2.1::D.int .i64 x.2.2.1::D.int .i64 x.2.2.2::EE xs:=nr rfl
theorem Kj(xs:List (Int×Int×Int×Int)):(EE xs).length=xs.length*4:=Q9 _ 4 (fun _=>rfl) xs
theorem WU(xs ys:List (Int×Int×Int×Int)):EE xs++EE ys=EE (xs++ys):=IN _ xs ys
theorem Sb(xs:List (Int×Int×Int×Int))(a b c d:Int):EE xs++[D.int .i64 a,D.int .i64 b,D.int .i64 c,D.int .i64 d]=EE (xs++[(a,b,c,d)]):=IN _ xs [(a,b,c,d)]
theorem YF(xs:List (Int×Int×Int×Int))(a b c d:Int)(ds:List D):EE xs++(D.int .i64 a::D.int .i64 b::D.int .i64 c::D.int .i64 d::ds)=EE (xs++[(a,b,c,d)])++ds:=by
 rw [←Sb,List.append_assoc];rfl
theorem Sc(xs:List (Int×Int×Int×Int))(n:Nat):(EE xs).drop (n*4)=EE (xs.drop n):=WI _ 4 (fun _=>rfl) xs n
theorem WV(xs:List (Int×Int×Int×Int)):AF (EE xs)=false:=Lw _ xs (fun _=>by simp [AF,D.hasObj])
theorem ce(xs:List (Int×Int×Int×Int)):BI (EE xs)=some (EE xs):=TS _ xs (fun _=>rfl)
theorem YG(xs:List (Int×Int×Int×Int)):BR (EE xs)=false:=Nf _ xs (fun _=>rfl)
theorem YH(xs:List (Int×Int×Int×Int)):(EE xs).all Ax=true:=Ng _ xs (fun _=>rfl)
theorem cf{T:Tys}(e:TypeId)(xs:List (Int×Int×Int×Int))(h:T.size e=4):T.len e (EE xs)=xs.length:=by
 unfold Tys.len
 rw [h,if_neg (by decide),Kj,Nat.mul_div_cancel _ (by decide)]
theorem A2R{T:Tys}(e:TypeId)(n:Int)(xs:List (Int×Int×Int×Int))(hk:T.known e=true)(hz:T.size e=4)(hn:0≤n∧n.toNat<xs.length):SS T e n (some (e,EE xs,none))=some (.cptr [D.int .i64 (av xs n.toNat),D.int .i64 (ng xs n.toNat),D.int .i64 (aw xs n.toNat),D.int .i64 (nh xs n.toNat)]):=by
 simp only [SS,hk,cf e xs hz]
 rw [if_pos ⟨trivial,trivial,hn.1,hn.2⟩,hz,Sc,List.drop_eq_getElem_cons hn.2,Sa]
 unfold av ng aw nh
 rw [List.getD_eq_getElem?_getD,List.getElem?_eq_getElem hn.2];rfl
section
variable {T:Tys} {pm:Pm} {s:St} {t:TypeId}
theorem cg(k l:IntKind)(e:TypeId)(xs:List (Int×Int))(h:T.size e=2):T.len e (AO k l xs)=xs.length:=by
 unfold Tys.len
 rw [h,if_neg (by decide),Ki,Nat.mul_div_cancel _ (by decide)]
theorem A2S(k l:IntKind)(e:TypeId)(n:Int)(xs:List (Int×Int))(hk:T.known e=true)(hz:T.size e=2)(hn:0≤n∧n.toNat<xs.length):SS T e n (some (e,AO k l xs,none))=some (.cptr [D.int k (An xs n.toNat),D.int l (BJ xs n.toNat)]):=by
 simp only [SS,hk,cg k l e xs hz]
 rw [if_pos ⟨trivial,trivial,hn.1,hn.2⟩,hz,SZ,List.drop_eq_getElem_cons hn.2,IB]
 unfold An BJ
 rw [List.getD_eq_getElem?_getD,List.getElem?_eq_getElem hn.2];rfl
theorem A2T(k l:IntKind)(e:TypeId)(n:Int)(xs:List (Int×Int))(L:A5)(a b:Nat)(hk:T.known e=true)(hz:T.size e=2)(hn:0≤n∧n.toNat<xs.length):SS T e n (some (e,AO k l xs,some (L,a,b)))=some (.pe L (n.toNat*2) a b):=by
 simp only [SS,hk,cg k l e xs hz]
 rw [if_pos ⟨trivial,trivial,hn.1,hn.2⟩,hz]
theorem A2U(e:TypeId)(n:Int)(xs:List (Int×Int×Int×Int))(L:A5)(a b:Nat)(hk:T.known e=true)(hz:T.size e=4)(hn:0≤n∧n.toNat<xs.length):SS T e n (some (e,EE xs,some (L,a,b)))=some (.pe L (n.toNat*4) a b):=by
 simp only [SS,hk,cf e xs hz]
 rw [if_pos ⟨trivial,trivial,hn.1,hn.2⟩,hz]
theorem Kk(xs:List (Int×Int×Int×Int))(n:Nat)(h:n<xs.length):(EE xs)[n*4]? =some (D.int .i64 (av xs n))∧(EE xs)[n*4+1]? =some (D.int .i64 (ng xs n))∧(EE xs)[n*4+2]? =some (D.int .i64 (aw xs n))∧(EE xs)[n*4+3]? =some (D.int .i64 (nh xs n)):=by
 have e:=Sc xs n
 rw [List.drop_eq_getElem_cons h,Sa]at e
 have g: ∀i,(EE xs)[n*4+i]? =((EE xs).drop (n*4))[i]? :=fun i=>by rw [List.getElem?_drop]
 have q:xs.getD n default=xs[n]:=by rw [List.getD_eq_getElem?_getD,List.getElem?_eq_getElem h];rfl
 unfold av ng aw nh
 rw [q]
 refine⟨?_, ?_, ?_, ?_⟩
 ·have:=g 0;rw [e]at this;exact this
 ·rw [g 1,e];rfl
 ·rw [g 2,e];rfl
 ·rw [g 3,e];rfl
theorem A2V{n m:Nat}(h:n<m):n*4+4≤m*4:=by omega
theorem YI(xs:List (Int×Int×Int×Int))(n:Nat)(d:D)(h:n<xs.length):(EE xs).getD (n*4) d=D.int .i64 (av xs n):=by rw [List.getD_eq_getElem?_getD,(Kk xs n h).1];rfl
theorem YJ(xs:List (Int×Int×Int×Int))(n:Nat)(d:D)(h:n<xs.length):(EE xs).getD (n*4+1) d=D.int .i64 (ng xs n):=by rw [List.getD_eq_getElem?_getD,(Kk xs n h).2.1];rfl
theorem YK(xs:List (Int×Int×Int×Int))(n:Nat)(d:D)(h:n<xs.length):(EE xs).getD (n*4+2) d=D.int .i64 (aw xs n):=by rw [List.getD_eq_getElem?_getD,(Kk xs n h).2.2.1];rfl
theorem YL(xs:List (Int×Int×Int×Int))(n:Nat)(d:D)(h:n<xs.length):(EE xs).getD (n*4+3) d=D.int .i64 (nh xs n):=by rw [List.getD_eq_getElem?_getD,(Kk xs n h).2.2.2];rfl
theorem cs4(L:A5)(e:TypeId)(n:Nat)(xs:List (Int×Int×Int×Int))(h:n<xs.length):cellsOf s L (n*4) 4 (some (.own e (EE xs)))=some (.agg [D.int .i64 (av xs n),D.int .i64 (ng xs n),D.int .i64 (aw xs n),D.int .i64 (nh xs n)]):=by
 obtain⟨h0,h1,h2,h3⟩:=Kk xs n h
 show(if n*4+4≤(EE xs).length then Ay (.agg ((List.range 4).map fun i=>CO s L (n*4+i) ((EE xs).getD (n*4+i) .undef)))else none)=_
 rw [if_pos (by rw [Kj];omega),rg4,Nat.add_zero,List.getD_eq_getElem?_getD,List.getD_eq_getElem?_getD,List.getD_eq_getElem?_getD,List.getD_eq_getElem?_getD,h0,h1,h2,h3];rfl
def tP(T:Tys)(pm:Pm)(t:TypeId)(u:Tmp)(a b:D)(s:St):Option D→Nat→A5→Option St
 | some (.own e xs),c,L=>if T.known t&&T.isStruct t&&pm.wr (L.headD 0)&&Ax a&&Ax b&&(T.size t==2)&&decide (c+2≤xs.length)&& !a.hasObj&& !b.hasObj&& !AF xs then some (s.set L (.own e ((xs.set c a).set (c+1) b)))else ST T pm t (.tmp u) (some (.agg [a,b],s))
 | _,_,_=>ST T pm t (.tmp u) (some (.agg [a,b],s))
theorem A2W(u:Tmp)(a b:D)(L:A5)(c n m:Nat)(h:s.v u= .pe L c n m):ST T pm t (.tmp u) (some (.agg [a,b],s))=tP T pm t u a b s (s.look pm L n m) c L:=by
 cases hl:s.look pm L n m with
 | none=>rfl
 | some o=>
  cases o<;>try rfl
  rename_i e xs
  simp only [tP]
  split
  ·rename_i hc
   simp only [Bool.and_eq_true,beq_iff_eq,decide_eq_true_eq,Bool.not_eq_true']at hc
   obtain⟨⟨⟨⟨⟨⟨⟨⟨⟨hk,hs⟩,hw⟩,ha⟩,hb⟩,hz⟩,hl2⟩,ha2⟩,hb2⟩,hx2⟩:=hc
   simp only [ST,ev,h,EW,hl,D.asCells,D.isAgg,D.cells,D.withCells,hk,hs,hw,hz,List.all_cons,ha,hb,List.all_nil,Bool.and_self,List.length_cons,List.length_nil,beq_self_eq_true,Bool.true_and,D.hasObj,AF,ha2,hb2,hx2,Bool.or_self,Bool.false_eq_true,if_false,B3]
   rw [if_pos (by simpa using hl2)]
  ·rfl
theorem A2X(u:Tmp)(a b:D)(L:A5)(c n m:Nat)(h:s.v u= .pe L c n m):ss T pm t u [a,b] s (.pe L c n m)=tP T pm t u a b s (s.look pm L n m) c L:=by
 rw [←A2W u a b L c n m h];rfl
theorem YM(k l:IntKind)(xs:List (Int×Int))(n:Nat)(a b:Int)(h:n<xs.length):((AO k l xs).set (n*2) (D.int k a)).set (n*2+1) (D.int l b)=AO k l (xs.set n (a,b)):=by
 rw [Nh k l a xs n h,SX k l b _ n (by simpa using h),List.set_set]
 congr 2
 simp [An,List.getD_eq_getElem?_getD,h]
theorem A2Y(k l:IntKind)(u:Tmp)(a b:Int)(L:A5)(e:TypeId)(n:Nat)(xs:List (Int×Int))(hk:T.known t=true)(hs:T.isStruct t=true)(hw:pm.wr (L.headD 0)=true)(hz:T.size t=2)(h:n<xs.length):
  tP T pm t u (.int k a) (.int l b) s (some (.own e (AO k l xs))) (n*2) L=some (s.set L (.own e (AO k l (xs.set n (a,b))))):=by
 simp only [tP]
 rw [if_pos,YM k l xs n a b h]
 simp only [hk,hs,hw,hz,Ax,Ki,ON,D.hasObj,Bool.and_eq_true,decide_eq_true_eq,beq_self_eq_true,Bool.not_false,and_true,true_and]
 omega
end
set_option linter.defProp false
def AE:=And.intro @A2O (And.intro @QA (And.intro @WO (And.intro @gn (And.intro @tM (And.intro @tO (And.intro @YB (And.intro @A2P (And.intro @faN (And.intro @faC (And.intro @A2Q (And.intro @A2J (And.intro @tH (And.intro @Lu (And.intro @lP (And.intro @WG (And.intro @ZE (And.intro @Y8 (And.intro @aK (And.intro @aJ
 (And.intro @cP (And.intro @cQ (And.intro @Lv (And.intro @gA (And.intro @WK (And.intro @cV (And.intro @aI (And.intro @Nd (And.intro @lQ (And.intro @gF (And.intro @WL (And.intro @TT (And.intro @gC (And.intro @gD (And.intro @cX (And.intro @cY (And.intro @cZ (And.intro @ca (And.intro @WM (And.intro @cW (And.intro @YA (And.intro @ZF (And.intro @gE (And.intro @cb
 (And.intro @IN (And.intro @Lw (And.intro @TS (And.intro @Nf (And.intro @Ng (And.intro @cR (And.intro @gB (And.intro @cT
 (And.intro @A2K (And.intro @A2L (And.intro @A2M (And.intro @A2N (And.intro @tI (And.intro @tJ @tK)))))))))))))))))))))))))))))))))))))))))))))))))))))))))
theorem tk2(a b:D)(l:List D):List.take 2 (a::b::l)=[a,b]:=nr rfl
theorem tk3(a b c:D)(l:List D):List.take 3 (a::b::c::l)=[a,b,c]:=nr rfl
theorem tk4(a b c d:D)(l:List D):List.take 4 (a::b::c::d::l)=[a,b,c,d]:=nr rfl
theorem dr0(l:List D):List.drop 0 l=l:=nr rfl
theorem dr1(a:D)(l:List D):List.drop 1 (a::l)=l:=nr rfl
theorem dr2(a0 a1:D)(l:List D):List.drop 2 (a0::a1::l)=l:=nr rfl
theorem dr3(a0 a1 a2:D)(l:List D):List.drop 3 (a0::a1::a2::l)=l:=nr rfl
theorem dr4(a0 a1 a2 a3:D)(l:List D):List.drop 4 (a0::a1::a2::a3::l)=l:=nr rfl
theorem dr5(a0 a1 a2 a3 a4:D)(l:List D):List.drop 5 (a0::a1::a2::a3::a4::l)=l:=nr rfl
theorem dr6(a0 a1 a2 a3 a4 a5:D)(l:List D):List.drop 6 (a0::a1::a2::a3::a4::a5::l)=l:=nr rfl
theorem dr7(a0 a1 a2 a3 a4 a5 a6:D)(l:List D):List.drop 7 (a0::a1::a2::a3::a4::a5::a6::l)=l:=nr rfl
theorem dr8(a0 a1 a2 a3 a4 a5 a6 a7:D)(l:List D):List.drop 8 (a0::a1::a2::a3::a4::a5::a6::a7::l)=l:=nr rfl
theorem dr9(a0 a1 a2 a3 a4 a5 a6 a7 a8:D)(l:List D):List.drop 9 (a0::a1::a2::a3::a4::a5::a6::a7::a8::l)=l:=nr rfl
theorem A2Z(a0 a1 a2 a3 a4 a5 a6 a7 a8 a9:D)(l:List D):List.drop 10 (a0::a1::a2::a3::a4::a5::a6::a7::a8::a9::l)=l:=nr rfl
theorem A2a(a0 a1 a2 a3 a4 a5 a6 a7 a8 a9 a10:D)(l:List D):List.drop 11 (a0::a1::a2::a3::a4::a5::a6::a7::a8::a9::a10::l)=l:=nr rfl
theorem tQ{n m:Nat}(h:n<m):n*2<m*2:=by omega
theorem lR{n m:Nat}(h:n<m):n*2+0<m*2:=by omega
theorem tR{n m:Nat}(h:n<m):n*2+1<m*2:=by omega
theorem tS{n m:Nat}(h:n<m):n*2+2≤m*2:=by omega
theorem YN(k l:IntKind)(v:Int)(xs:List (Int×Int))(n:Nat)(h:n<xs.length):(AO k l xs).set (n*2+0) (D.int k v)=AO k l (xs.set n (v,BJ xs n)):=Nh k l v xs n h
theorem QC(k l:IntKind)(xs:List (Int×Int))(n:Nat)(d:D)(h:n<xs.length):(AO k l xs).getD (n*2) d=D.int k (An xs n):=by rw [List.getD_eq_getElem?_getD,WP k l xs n h];rfl
theorem WW(k l:IntKind)(xs:List (Int×Int))(n:Nat)(d:D)(h:n<xs.length):(AO k l xs).getD (n*2+0) d=D.int k (An xs n):=QC k l xs n d h
theorem YO(k l:IntKind)(xs:List (Int×Int))(n:Nat)(d:D)(h:n<xs.length):(AO k l xs).getD (n*2+1) d=D.int l (BJ xs n):=by rw [List.getD_eq_getElem?_getD,WQ k l xs n h];rfl
def Ap:=And.intro @A2U (And.intro @cs4 (And.intro @A2V (And.intro @YI (And.intro @YJ (And.intro @YK (And.intro @YL (And.intro @Nat.add_zero (And.intro @Kj (And.intro @WU (And.intro @Sb (And.intro @YF (And.intro @WV (And.intro @ce (And.intro @YG (And.intro @YH (And.intro @cf (And.intro @A2R (And.intro @Ki (And.intro @WP (And.intro @aL (And.intro @WQ (And.intro @WS (And.intro @SY (And.intro @YC (And.intro @aM (And.intro @SZ (And.intro @ON (And.intro @cc (And.intro @YD (And.intro @YE (And.intro @cd (And.intro @go (And.intro @WT (And.intro @cg (And.intro @A2S (And.intro @A2T (And.intro @A2X (And.intro @tk2 (And.intro @tk3 (And.intro @tk4 (And.intro @dr0 (And.intro @dr1 (And.intro @dr2 (And.intro @dr3 (And.intro @dr4 (And.intro @dr5 (And.intro @dr6 (And.intro @dr7 (And.intro @dr8 (And.intro @dr9 (And.intro @A2Z (And.intro @A2a (And.intro @tQ (And.intro @lR (And.intro @tR (And.intro @tS (And.intro @Nh (And.intro @YN (And.intro @SX (And.intro @QC (And.intro @WW (And.intro @YO (And.intro @List.length_set.{0} (@A2Y))))))))))))))))))))))))))))))))))))))))))))))))))))))))))))))))
def A6:=And.intro @implies_true.{1} (And.intro @Option.bind_some.{0,0} (And.intro @Option.map_some.{0,0} (And.intro @Option.isSome_some.{0} (And.intro @List.contains_cons.{0} (And.intro @List.contains_nil.{0} (And.intro @List.getD_cons_zero.{0} (And.intro @List.getD_cons_succ.{0} (And.intro @List.getD_nil.{0} (And.intro @List.length_cons.{0} (And.intro @List.length_nil.{0} (And.intro @List.size_toArray.{0} (And.intro @List.toList_toArray.{0} (And.intro @List.zip_cons_cons.{0,0} (And.intro @List.zip_nil_left.{0,0} (And.intro @List.append_nil.{0} (And.intro @List.nil_append.{0} (And.intro @List.cons_append.{0} (And.intro @List.map_cons.{0,0} (And.intro @List.map_nil.{0,0} (And.intro @List.replicate_succ.{0} (And.intro @List.replicate_zero.{0} (And.intro @List.set_cons_zero.{0} (And.intro @List.set_cons_succ.{0} (And.intro @List.set_set.{0} (And.intro @List.all_cons.{0} (And.intro @List.any_cons.{0} (And.intro @List.any_nil.{0} (And.intro @List.all_nil.{0} (And.intro @List.getElem?_cons_zero.{0} (And.intro @List.getElem?_cons_succ.{0} (And.intro @List.getElem?_nil.{0} (@beq_self_eq_true.{0}))))))))))))))))))))))))))))))))
end Dv
namespace Dv
open Go
section
variable {σ ρ α β:Type}
theorem CD(f:σ→Option (σ⊕ρ))(st:Nat→σ): ∀(n:Nat) (r:ρ),(∀i,i<n→f (st i)=some (.inl (st (i+1))))→f (st n)=some (.inr r)→DT f (st 0)=some r:=by
 intro n r h e
 have key: ∀k,k≤n→DT f (st (n-k))=some r:=by
  intro k
  induction k with
  | zero=>intro _;exact C5 e
  | succ k ih=>
   intro hk
   have h1:=h (n-(k+1)) (by omega)
   rw [GU h1,show n-(k+1)+1=n-k by omega]
   exact ih (by omega)
 have:=key n (Nat.le_refl _)
 rwa [Nat.sub_self]at this
theorem ZG(f:σ→Option (σ⊕ρ))(I:Nat→σ→Prop)(Q:ρ→Prop)(step: ∀n s,I n s→(∃s' m,f s=some (.inl s')∧m<n∧I m s')∨(∃r,f s=some (.inr r)∧Q r)):
  ∀(n:Nat) (s:σ),I n s→ ∃r,DT f s=some r∧Q r:=by
 intro n
 induction n using Nat.strongRecOn with
 | _ n ih=>
  intro s hI
  rcases step n s hI with⟨s',m,h1,h2,h3⟩ | ⟨r,h1,h2⟩
  ·rw [GU h1];exact ih m h2 s' h3
  ·exact⟨r,C5 h1,h2⟩
theorem WX(f:σ→Option (σ⊕ρ))(mk:Nat→β→σ)(P:Nat→β→Prop)(xs:List α)(g:β→α→β)(fin:β→ρ)
  (h: ∀(i:Nat) (b:β) (hi:i<xs.length),P i b→f (mk i b)=some (.inl (mk (i+1) (g b xs[i])))∧P (i+1) (g b xs[i]))
  (e: ∀b,P xs.length b→f (mk xs.length b)=some (.inr (fin b)))(b0:β)(h0:P 0 b0):DT f (mk 0 b0)=some (fin (xs.foldl g b0))∧P xs.length (xs.foldl g b0):=by
 have key: ∀(k:Nat) (b:β),k≤xs.length→P (xs.length-k) b→DT f (mk (xs.length-k) b)=some (fin ((xs.drop (xs.length-k)).foldl g b))∧P xs.length ((xs.drop (xs.length-k)).foldl g b):=by
  intro k
  induction k with
  | zero=>intro b _ hp;simp only [Nat.sub_zero,List.drop_length,List.foldl_nil]at hp ⊢;exact⟨C5 (e b hp),hp⟩
  | succ k ih=>
   intro b hk hp
   have hl:xs.length-(k+1)<xs.length:=by omega
   obtain⟨h1,h2⟩:=h (xs.length-(k+1)) b hl hp
   rw [List.drop_eq_getElem_cons hl,List.foldl_cons,GU h1]
   have e1:xs.length-(k+1)+1=xs.length-k:=by omega
   rw [e1]at h2 ⊢
   exact ih _ (by omega) h2
 have:=key xs.length b0 (Nat.le_refl _) (by rwa [Nat.sub_self])
 rwa [Nat.sub_self,List.drop_zero]at this
end
theorem Ly{n:Nat}{P:Nat→Bool}(h: ¬ ∀i,i<n→P i=true): ∃m,m<n∧P m=false∧ ∀i,i<m→P i=true:=by
 induction n with
 | zero=>exact absurd (fun i hi=>absurd hi (Nat.not_lt_zero _)) h
 | succ n ih=>
  by_cases hn: ∀i,i<n→P i=true
  ·refine⟨n,Nat.lt_succ_self _, ?_,hn⟩
   cases hp:P n with
   | false=>rfl
   | true=>exact absurd (fun i hi=>by rcases Nat.lt_succ_iff_lt_or_eq.1 hi with h1 | rfl;exact hn i h1;exact hp) h
  ·obtain⟨m,h1,h2,h3⟩:=ih hn
   exact⟨m,by omega,h2,h3⟩
theorem BW{n:Nat}{P:Nat→Bool}:(List.range n).all P=true↔ ∀i,i<n→P i=true:=by
 simp [List.all_eq_true]
theorem WY{σ ρ:Type}(f:σ→Option (σ⊕ρ))(st:Nat→σ)(n:Nat)(P:Nat→Bool)(bad good:ρ)
  (h: ∀i,i<n→(∀j,j<i→P j=true)→f (st i)=if P i=true then some (.inl (st (i+1)))else some (.inr bad))(e:(∀j,j<n→P j=true)→f (st n)=some (.inr good)):DT f (st 0)=some (if(List.range n).all P=true then good else bad):=by
 by_cases hp: ∀i,i<n→P i=true
 ·rw [if_pos (BW.2 hp)]
  refine CD f st n good (fun i hi=> ?_) (e hp)
  rw [h i hi (fun j hj=>hp j (by omega)),if_pos (hp i hi)]
 ·rw [if_neg (fun hc=>hp (BW.1 hc))]
  obtain⟨m,h1,h2,h3⟩:=Ly hp
  refine CD f st m bad (fun i hi=> ?_) ?_
  ·rw [h i (by omega) (fun j hj=>h3 j (by omega)),if_pos (h3 i hi)]
  ·rw [h m h1 h3,h2];rfl
theorem CE{σ ρ:Type}(f:σ→Option (σ⊕ρ))(st:Nat→σ)(n:Nat)(P:Nat→Bool)(bad good:ρ)
  (h: ∀i,i<n→f (st i)=if P i=true then some (.inl (st (i+1)))else some (.inr bad))(e:f (st n)=some (.inr good)):DT f (st 0)=some (if(List.range n).all P=true then good else bad):=
 WY f st n P bad good (fun i hi _=>h i hi) (fun _=>e)
theorem Mk{α:Type}[Inhabited α](p:α→Bool)(xs:List α):(List.range xs.length).all (fun i=>p (xs.getD i default))=xs.all p:=by
 rw [Bool.eq_iff_iff,BW,List.all_eq_true]
 constructor
 ·intro h x hx
  obtain⟨i,hi,rfl⟩:=List.getElem_of_mem hx
  have:=h i hi
  rwa [List.getD_eq_getElem?_getD,List.getElem?_eq_getElem hi]at this
 ·intro h i hi
  rw [List.getD_eq_getElem?_getD,List.getElem?_eq_getElem hi]
  exact h _ (List.getElem_mem hi)
theorem Kl{α:Type}[DecidableEq α][Inhabited α](a b:List α)(hl:a.length=b.length):(List.range a.length).all (fun i=>decide (a.getD i default=b.getD i default))=decide (a=b):=by
 by_cases he:a=b
 ·subst he;simp
 ·rw [decide_eq_false he,Bool.eq_false_iff]
  intro hc
  rw [BW]at hc
  refine he (List.ext_getElem hl fun i h1 h2=> ?_)
  have:=hc i h1
  rw [List.getD_eq_getElem?_getD,List.getD_eq_getElem?_getD,List.getElem?_eq_getElem h1,List.getElem?_eq_getElem h2]at this
  simpa using this
theorem QD{α γ:Type}(f:List γ×Int→Option ((List γ×Int)⊕List γ))(xs:List α)(g:α→γ)(z:γ)
  (h: ∀(i:Nat) (hi:i<xs.length) (out:List γ),out.length=xs.length→f (out,(i:Int))=some (.inl (out.set i (g xs[i]),((i+1:Nat):Int))))
  (e: ∀out:List γ,out.length=xs.length→f (out,(xs.length:Int))=some (.inr out)):DT f (List.replicate xs.length z,0)=some (xs.map g):=by
 have key:=CD f (fun i=>((xs.take i).map g++List.replicate (xs.length-i) z,(i:Int))) xs.length (xs.map g) ?_ ?_
 ·simpa using key
 ·intro i hi
  have:=h i hi ((xs.take i).map g++List.replicate (xs.length-i) z) (by simp;omega)
  rw [this]
  have e1:xs.length-i=(xs.length-(i+1))+1:=by omega
  have e2:i-((xs.take i).map g).length=0:=by simp;omega
  rw [e1,List.replicate_succ,List.set_append_right _ _ (by simp;omega),e2,List.set_cons_zero,List.take_succ_eq_append_getElem hi,List.map_append,List.append_assoc];rfl
 ·simp only [List.take_length,Nat.sub_self,List.replicate_zero,List.append_nil]
  exact e _ (by simp)
theorem Ml{α γ:Type}(f:List γ×Int→Option ((List γ×Int)⊕List γ))(xs:List α)(g:α→γ)
  (h: ∀(i:Nat) (hi:i<xs.length) (out:List γ),out.length=i→f (out,(i:Int))=some (.inl (out++[g xs[i]],((i+1:Nat):Int))))
  (e: ∀out:List γ,out.length=xs.length→f (out,(xs.length:Int))=some (.inr out)):DT f ([],0)=some (xs.map g):=by
 have key:=CD f (fun i=>((xs.take i).map g,(i:Int))) xs.length (xs.map g) ?_ ?_
 ·simpa using key
 ·intro i hi
  have:=h i hi ((xs.take i).map g) (by simp;omega)
  rw [this,List.take_succ_eq_append_getElem hi,List.map_append];rfl
 ·simp only [List.take_length]
  exact e _ (by simp)
theorem Gm(i:Nat)(h:i<4611686018427387904):IntKind.i64.wrap ((i:Int)+1)=((i+1:Nat):Int):=by
 rw [Gl _ (by omega)];rfl
theorem Ar{α:Type}[Inhabited α](xs:List α)(i:Nat)(h:i<xs.length):xs.getD i default=xs[i]:=by
 rw [List.getD_eq_getElem?_getD,List.getElem?_eq_getElem h];rfl
theorem D4{α:Type}[Inhabited α](xs:List α)(i:Nat)(h:i<xs.length):xs.getD (i:Int).toNat default=xs[i]:=by
 rw [Int.toNat_natCast];exact Ar xs i h
theorem Ac{α:Type}{c:Prop}[Decidable c]{o:Option α}(h:c):ck c o=o:=if_pos h
theorem Ak{i n:Nat}(h:i<n):(i:Int)<(n:Int):=by omega
theorem AH(n:Nat): ¬(n:Int)<(n:Int):=by omega
theorem BS{i n:Nat}(h:i<n):0≤(i:Int)∧(i:Int).toNat<n:=by omega
theorem CA{α:Type}[Inhabited α](a b:List α)(i:Nat)(h:i=a.length)(hb:0<b.length):(a++b).getD i default=b[0]:=by
 subst h
 rw [List.getD_eq_getElem?_getD,List.getElem?_append_right (Nat.le_refl _),Nat.sub_self,List.getElem?_eq_getElem hb];rfl
end Dv
namespace Dv
open Go
def Sd(x:Int×Int):List D:=[D.int .i64 x.1,D.int .i64 x.2]
def ci(xs:List (Int×Int)):Prop:=xs.length≤maxLen∧ ∀x∈xs,au x.1∧au x.2
def YP(xss:List (List (Int×Int))):Prop:=xss.length≤maxLen∧ ∀xs∈xss,ci xs
section
variable {T:Tys} {t e a:TypeId} {d:D}
theorem gG{ds:List D}(he:T.ty e= .struct [a,a])(ha:T.ty a= .int .i64)(h:Shp T e ds): ∃x:Int×Int,ds=Sd x∧au x.1∧au x.2:=by
 obtain⟨hl,hx⟩:=SV he h
 rcases ds with _ | ⟨d0,_ | ⟨d1,_ | ⟨_,_⟩⟩⟩<;>simp at hl
 obtain⟨p,h0,hl0⟩:=Q7 ha (hx 0 a d0 rfl rfl)
 obtain⟨q,h1,hl1⟩:=Q7 ha (hx 1 a d1 rfl rfl)
 simp only [List.cons.injEq,and_true]at h0 h1
 subst h0 h1
 exact⟨(p,q),rfl,hl0,hl1⟩
theorem cj{ds:List D}(ht:T.ty t= .slice e)(he:T.ty e= .struct [a,a])(ha:T.ty a= .int .i64)(h:Shp T t ds): ∃xs,ds=[.sl e (Ob Sd xs)]∧ci xs:=by
 obtain⟨xss,rfl,hx,hl⟩:=Mj ht h
 have: ∀xss:List (List D),(∀xs,xs∈xss→Shp T e xs)→ ∃ys,xss.flatten=Ob Sd ys∧ys.length=xss.length∧ ∀y∈ys,au y.1∧au y.2:=by
  intro xss
  induction xss with
  | nil=>intro _;exact⟨[],rfl,rfl,by simp⟩
  | cons xs xss ih=>
   intro hx
   obtain⟨n,rfl,hn⟩:=gG he ha (hx xs (List.mem_cons_self))
   obtain⟨ys,h1,h2,h3⟩:=ih (fun q hq=>hx q (List.mem_cons_of_mem _ hq))
   refine⟨n::ys,by rw [List.flatten_cons,h1];rfl,by simp [h2],fun y hy=> ?_⟩
   rcases List.mem_cons.1 hy with rfl | hy
   ·exact hn
   ·exact h3 y hy
 obtain⟨ys,h1,h2,h3⟩:=this xss hx
 exact⟨ys,by rw [h1],by omega,h3⟩
theorem aN{e2:TypeId}{ds:List D}(ht:T.ty t= .slice e)(he:T.ty e= .slice e2)(he2:T.ty e2= .struct [a,a])(ha:T.ty a= .int .i64)(h:Shp T t ds): ∃xss,ds=[.sl e (A9 (fun x=> .sl e2 (Ob Sd x)) xss)]∧YP xss:=by
 obtain⟨xss,rfl,hx,hl⟩:=Mj ht h
 have: ∀xss:List (List D),(∀xs,xs∈xss→Shp T e xs)→ ∃ys,xss.flatten=A9 (fun x=> .sl e2 (Ob Sd x)) ys∧ys.length=xss.length∧ ∀y∈ys,ci y:=by
  intro xss
  induction xss with
  | nil=>intro _;exact⟨[],rfl,rfl,by simp⟩
  | cons xs xss ih=>
   intro hx
   obtain⟨n,rfl,hn⟩:=cj he he2 ha (hx xs (List.mem_cons_self))
   obtain⟨ys,h1,h2,h3⟩:=ih (fun q hq=>hx q (List.mem_cons_of_mem _ hq))
   refine⟨n::ys,by rw [List.flatten_cons,h1];rfl,by simp [h2],fun y hy=> ?_⟩
   rcases List.mem_cons.1 hy with rfl | hy
   ·exact hn
   ·exact h3 y hy
 obtain⟨ys,h1,h2,h3⟩:=this xss hx
 exact⟨ys,by rw [h1],by omega,h3⟩
theorem YQ{b c e2:TypeId}(ht:T.ty t= .struct [b,c,c])(hb:T.ty b= .slice e)(he:T.ty e= .slice e2)(he2:T.ty e2= .struct [a,a])(ha:T.ty a= .int .i64)(hc:T.ty c= .slice a)(h:nZ T t d):
  ∃es is js,d= .agg [.sl e (A9 (fun x=> .sl e2 (Ob Sd x)) es), .sl a (BP is), .sl a (BP js)]∧YP es∧cO is∧cO js:=by
 obtain⟨ds,rfl,hl,hx⟩:=SW ht h
 rcases ds with _ | ⟨d0,_ | ⟨d1,_ | ⟨d2,_ | ⟨_,_⟩⟩⟩⟩<;>simp at hl
 obtain⟨es,h0,hl0⟩:=aN hb he he2 ha (hx 0 b d0 rfl rfl)
 obtain⟨is,h1,hl1⟩:=TQ hc ha (hx 1 c d1 rfl rfl)
 obtain⟨js,h2,hl2⟩:=TQ hc ha (hx 2 c d2 rfl rfl)
 simp only [List.cons.injEq,and_true]at h0 h1 h2
 subst h0 h1 h2
 exact⟨es,is,js,rfl,hl0,hl1,hl2⟩
end
end Dv
