/- Value semantics for Go code, part 5: typed lists, loops as functions. Conditions: none beyond those in each lemma. -/
import Derived.Test.YtipfckompmhljaaL4
set_option linter.unusedSimpArgs false
set_option linter.unusedVariables false
namespace Dv
open Go
set_option maxRecDepth 10000
def ck{α:Type}(c:Prop)[Decidable c](o:Option α):Option α:=if c then o else none
section
variable {σ ρ:Type}
def fG(f:σ→Option (σ⊕ρ)):Nat→σ→Option ρ
 | 0,_=>none
 | n+1,s=>
  match f s with
  | none=>none
  | some (.inl s')=>fG f n s'
  | some (.inr r)=>some r
open Classical in
noncomputable def Ht(f:σ→Option (σ⊕ρ))(s:σ):Option ρ:=if h: ∃r n,fG f n s=some r then some h.choose else none
theorem aW{f:σ→Option (σ⊕ρ)}: ∀ {n m:Nat} {s:σ} {r:ρ},n≤m→fG f n s=some r→fG f m s=some r:=by
 intro n
 induction n with
 | zero=>intro m s r _ h;simp [fG]at h
 | succ n ih=>
  intro m s r hm h
  cases m with
  | zero=>omega
  | succ m=>
   simp only [fG]at h ⊢
   cases hs:f s with
   | none=>simp [hs]at h
   | some q=>
    cases q with
    | inl s'=>simp only [hs]at h ⊢;exact ih (by omega) h
    | inr r'=>simp only [hs]at h ⊢;exact h
theorem Xz{f:σ→Option (σ⊕ρ)}{n:Nat}{s:σ}{r:ρ}(h:fG f n s=some r):Ht f s=some r:=by
 unfold Ht;have hx: ∃r n,fG f n s=some r:=⟨r,n,h⟩;rw [dif_pos hx];obtain⟨n',h'⟩:=hx.choose_spec;have h1:=aW (Nat.le_max_left n n') h;have h2:=aW (Nat.le_max_right n n') h';rw [h1]at h2;exact h2.symm
theorem UM{f:σ→Option (σ⊕ρ)}{s:σ}{r:ρ}(h:Ht f s=some r): ∃n,fG f n s=some r:=by
 unfold Ht at h
 split at h
 ·rename_i hx
  simp only [Option.some.injEq]at h;subst h;exact hx.choose_spec
 ·cases h
theorem Lm{f:σ→Option (σ⊕ρ)}{s s':σ}(h:f s=some (.inl s')):Ht f s=Ht f s':=by
 cases hi:Ht f s' with
 | some r=>
  obtain⟨n,hn⟩:=UM hi;exact Xz (n:=n+1) (by simp only [fG,h];exact hn)
 | none=>
  cases hj:Ht f s with
  | none=>rfl
  | some r=>
   obtain⟨n,hn⟩:=UM hj
   cases n with
   | zero=>simp [fG]at hn
   | succ n=>
    simp only [fG,h]at hn;rw [Xz hn]at hi;cases hi
theorem JM{f:σ→Option (σ⊕ρ)}{s:σ}{r:ρ}(h:f s=some (.inr r)):Ht f s=some r:=Xz (n:=1) (by simp [fG,h])
end
def ib{σ ρ:Type}(M:σ→St→Prop)(X:ρ→Ex→St→Prop):σ⊕ρ→Ex→St→Prop
 | .inl v,.normal,s=>M v s
 | .inl _,_,_=>False
 | .inr _,.normal,_=>False
 | .inr r,ex,s=>X r ex s
theorem G9{σ ρ:Type}(M:σ→St→Prop)(X:ρ→Ex→St→Prop)(v:σ)(s:St):ib M X (.inl v) .normal s=M v s:=nr rfl
theorem JF{σ ρ:Type}(M:σ→St→Prop)(X:ρ→Ex→St→Prop)(r:ρ)(j:Nat)(s:St):ib M X (.inr r) (.exit j) s=X r (.exit j) s:=nr rfl
theorem MX{σ ρ:Type}(M:σ→St→Prop)(X:ρ→Ex→St→Prop)(r:ρ)(s:St):ib M X (.inr r) .ret s=X r .ret s:=nr rfl
theorem BR{E:Env}{c:SC}{σ ρ:Type}(f:σ→Option (σ⊕ρ))(M:σ→St→Prop)(X:ρ→Ex→St→Prop)
  (hstep: ∀v s o,M v s→f v=some o→Bo E c (ib M X o) s){v:σ}{s:St}{r:ρ}(h:Ht f v=some r)(hM:M v s):Bo E (.loop c) (X r) s:=by
 obtain⟨n,hn⟩:=UM h
 induction n generalizing v s with
 | zero=>simp [fG]at hn
 | succ n ih=>
  simp only [fG]at hn
  cases hf:f v with
  | none=>simp [hf]at hn
  | some o=>
   obtain⟨ex,s1,h1,h2⟩:=hstep v s o hM hf
   cases o with
   | inl v'=>
    simp only [hf]at hn
    cases ex with
    | normal=>
     obtain⟨ex',s2,h3,h4⟩:=ih (Xz hn) h2 hn
     refine⟨ex',s2, ?_,h4⟩
     simp only [Dm]at h3 ⊢;rw [Xt,h1];exact h3
    | exit id=>exact h2.elim
    | ret=>exact h2.elim
   | inr r'=>
    simp only [hf,Option.some.injEq]at hn;subst hn
    cases ex with
    | normal=>exact h2.elim
    | exit id=>exact⟨_,s1,by simp only [Dm];rw [Xt,h1],h2⟩
    | ret=>exact⟨_,s1,by simp only [Dm];rw [Xt,h1],h2⟩
def AQ{α:Type}(c:α→D)(xs:List α):List D:=xs.map c
def SX{α:Type}(c:α→List D)(xs:List α):List D:=xs.flatMap c
section
variable {α:Type} (c:α→D)
theorem TE:AQ c []=[]:=nr rfl
theorem Iu(x:α)(xs:List α):AQ c (x::xs)=c x::AQ c xs:=nr rfl
theorem UN(xs:List α):(AQ c xs).length=xs.length:=by simp [AQ]
theorem aX[Inhabited α](xs:List α)(i:Nat)(h:i<xs.length):(AQ c xs).getD i .undef=c (xs.getD i default):=by
 simp [AQ,List.getD_eq_getElem?_getD,h]
theorem A3G[Inhabited α](xs:List α)(i:Nat)(h:i<xs.length):(AQ c xs)[i]? =some (c (xs.getD i default)):=by
 simp [AQ,List.getD_eq_getElem?_getD,h]
theorem ic(xs:List α)(i:Nat)(y:α):(AQ c xs).set i (c y)=AQ c (xs.set i y):=by simp [AQ]
theorem fH(xs ys:List α):AQ c xs++AQ c ys=AQ c (xs++ys):=by simp [AQ]
theorem oI(xs:List α)(n:Nat):(AQ c xs).take n=AQ c (xs.take n):=by simp [AQ]
theorem oJ(xs:List α)(n:Nat):(AQ c xs).drop n=AQ c (xs.drop n):=by simp [AQ]
theorem UO(xs:List α)(h: ∀x,(c x).hasObj=false):Ah (AQ c xs)=false:=by
 induction xs with
 | nil=>rfl
 | cons x xs ih=>simp only [Iu,Ah,h,ih];rfl
theorem uW(xs:List α)(h: ∀x,D6 (c x)=some (c x)):CS (AQ c xs)=some (AQ c xs):=by
 induction xs with
 | nil=>rfl
 | cons x xs ih=>simp only [Iu,CS,h,ih];rfl
theorem aY(c:α→List D)(c':α→List D)(e:TypeId)(xs:List α)(h: ∀x,CS (c x)=some (c' x)):CS (AQ (fun x=>D.own e (c x)) xs)=some (AQ (fun x=>D.sl e (c' x)) xs):=by
 induction xs with
 | nil=>rfl
 | cons x xs ih=>simp only [Iu,CS,D6,h,ih];rfl
theorem kT(xs:List α)(h: ∀x,Cb (c x)=false):Cc (AQ c xs)=false:=by
 induction xs with
 | nil=>rfl
 | cons x xs ih=>simp only [Iu,Cc,h,ih];rfl
theorem X3(xs:List α)(h: ∀x,Bf (c x)=true):(AQ c xs).all Bf=true:=by simp [AQ,h]
end
theorem oK(xs:List Int):Ca xs=AQ (D.int .i64) xs:=nr rfl
theorem uX(e:TypeId)(l:List (List Int)):Xx e l=AQ (fun x=> .sl e (AQ (D.int .i64) x)) l:=nr rfl
theorem oL(e:TypeId)(l:List (List Int)):NA e l=AQ (fun x=> .own e (AQ (D.int .i64) x)) l:=nr rfl
section
variable {α:Type} (c:α→List D) (n:Nat)
theorem TF:SX c []=[]:=nr rfl
theorem KI(x:α)(xs:List α):SX c (x::xs)=c x++SX c xs:=nr rfl
theorem LG(xs ys:List α):SX c xs++SX c ys=SX c (xs++ys):=by simp [SX]
theorem UQ(h: ∀x,(c x).length=n)(xs:List α):(SX c xs).length=xs.length*n:=by
 induction xs with
 | nil=>simp [TF]
 | cons x xs ih=>simp only [KI,List.length_append,h,ih,List.length_cons,Nat.succ_mul];omega
theorem aZ(h: ∀x,(c x).length=n)(xs:List α): ∀(i:Nat),(SX c xs).drop (i*n)=SX c (xs.drop i):=by
 induction xs with
 | nil=>intro i;simp [TF]
 | cons x xs ih=>
  intro i
  cases i with
  | zero=>simp
  | succ i=>
   rw [KI,List.drop_append,List.drop_succ_cons,←ih i,h,Nat.succ_mul];have e1:(c x).drop (i*n+n)=[]:=List.drop_eq_nil_of_le (by rw [h];omega)
   rw [e1,Nat.add_sub_cancel];rfl
theorem oM(h: ∀x,(c x).length=n)(xs:List α): ∀(i:Nat),(SX c xs).take (i*n)=SX c (xs.take i):=by
 induction xs with
 | nil=>intro i;simp [TF]
 | cons x xs ih=>
  intro i
  cases i with
  | zero=>simp [TF]
  | succ i=>
   rw [KI,List.take_append,List.take_succ_cons,KI,←ih i,h,Nat.succ_mul,Nat.add_sub_cancel];rw [List.take_of_length_le (by rw [h];omega)]
theorem PM(xs:List α)(h: ∀x,Ah (c x)=false):Ah (SX c xs)=false:=by
 have app: ∀(as bs:List D),Ah (as++bs)=(Ah as||Ah bs):=by
  intro as bs
  induction as with
  | nil=>simp [Ah]
  | cons a as ih=>simp [Ah,ih,Bool.or_assoc]
 induction xs with
 | nil=>rfl
 | cons x xs ih=>rw [KI,app,h,ih];rfl
theorem aa: ∀(as bs as' bs':List D),CS as=some as'→CS bs=some bs'→CS (as++bs)=some (as'++bs'):=by
 intro as
 induction as with
 | nil=>intro bs as' bs' h1 h2;simp [CS]at h1;subst h1;simpa using h2
 | cons a as ih=>
  intro bs as' bs' h1 h2;simp only [CS,Option.bind_eq_some_iff,Option.map_eq_some_iff]at h1;obtain⟨a',ha,as1,has,rfl⟩:=h1;simp only [List.cons_append,CS,ha,ih _ _ _ has h2];rfl
theorem Y1(xs:List α)(h: ∀x,CS (c x)=some (c x)):CS (SX c xs)=some (SX c xs):=by
 induction xs with
 | nil=>rfl
 | cons x xs ih=>rw [KI];exact aa _ _ _ _ (h x) ih
theorem Vs(as bs:List D):Cc (as++bs)=(Cc as||Cc bs):=by
 induction as with
 | nil=>simp [Cc]
 | cons a as ih=>simp [Cc,ih,Bool.or_assoc]
theorem R3(xs:List α)(h: ∀x,Cc (c x)=false):Cc (SX c xs)=false:=by
 induction xs with
 | nil=>rfl
 | cons x xs ih=>rw [KI,Vs,h,ih];rfl
theorem R4(xs:List α)(h: ∀x,(c x).all Bf=true):(SX c xs).all Bf=true:=by
 induction xs with
 | nil=>rfl
 | cons x xs ih=>rw [KI,List.all_append,h,ih];rfl
end
def sM{α:Type}:List α→Nat→List α→List α
 | xs,_,[]=>xs
 | xs,c,y::ys=>sM (xs.set c y) (c+1) ys
theorem UR{α:Type}(c:α→D): ∀(ys xs:List α) (n:Nat),Bn (AQ c xs) n (AQ c ys)=AQ c (sM xs n ys):=by
 intro ys
 induction ys with
 | nil=>intro xs n;cases xs<;>rfl
 | cons y ys ih=>
  intro xs n
  have h1:Bn (AQ c xs) n (AQ c (y::ys))=Bn ((AQ c xs).set n (c y)) (n+1) (AQ c ys):=by
   rw [Iu];cases AQ c xs<;>rfl
  rw [h1,ic,ih];rfl
theorem fI{α:Type}: ∀(ys xs:List α) (n:Nat),n+ys.length≤xs.length→sM xs n ys=xs.take n++(ys++xs.drop (n+ys.length)):=by
 intro ys
 induction ys with
 | nil=>intro xs n _;simp [sM]
 | cons y ys ih=>
  intro xs n h;simp only [List.length_cons]at h;unfold sM;rw [ih (xs.set n y) (n+1) (by simp;omega)]
  have h1:(xs.set n y).take (n+1)=xs.take n++[y]:=by
   rw [List.take_succ_eq_append_getElem (by simp;omega),List.getElem_set_self,List.take_set_of_le (Nat.le_refl _)]
  rw [h1,List.drop_set_of_lt (by omega),List.length_cons,show n+1+ys.length=n+(ys.length+1) by omega,List.append_assoc];rfl
theorem Aw{α β:Type}{o:Option α}{f:α→Option β}{r:β}(h:o.bind f=some r): ∃a,o=some a∧f a=some r:=by
 cases o with
 | none=>cases h
 | some a=>exact⟨a,rfl,h⟩
theorem BO{α:Type}{c:Prop}[Decidable c]{o:Option α}{r:α}(h:ck c o=some r):c∧o=some r:=by
 unfold ck at h
 split at h
 ·rename_i hc;exact⟨hc,h⟩
 ·cases h
section
variable {α:Type} (c:α→D)
theorem kU(x:α)(xs:List α):c x::AQ c xs=AQ c (x::xs):=nr rfl
theorem kV(xs:List α)(y:α)(ds:List D):AQ c xs++(c y::ds)=AQ c (xs++[y])++ds:=by simp [AQ]
theorem ae(c:α→List D)(e:TypeId)(xs:List α)(h: ∀x,CS (c x)=some (c x)):CS (AQ (fun x=>D.own e (c x)) xs)=some (AQ (fun x=>D.sl e (c x)) xs):=aY c c e xs h
theorem oN{β:Type}(b:β→List D)(e e':TypeId)(f:α→List β)(xs:List α)(h: ∀x,CS (b x)=some (b x)):CS (AQ (fun x=>D.own e (AQ (fun y=>D.own e' (b y)) (f x))) xs)=some (AQ (fun x=>D.sl e (AQ (fun y=>D.sl e' (b y)) (f x))) xs):=
 aY (fun x=>AQ (fun y=>D.own e' (b y)) (f x)) (fun x=>AQ (fun y=>D.sl e' (b y)) (f x)) e xs (fun x=>ae b e' (f x) h)
def NS(c:α→D):Option α→D
 | some a=>c a
 | none=> .undef
theorem af[Inhabited α](o:Option α)(h:o.isSome=true):NS c o=c (o.getD default):=by cases o with | none=>cases h | some _=>rfl
theorem Y2(xs:List α):AQ (NS c) (xs.map some)=AQ c xs:=by simp [AQ,Function.comp_def,NS]
theorem UT(xs:List (Option α))(n:Nat):(AQ (NS c) xs).set n .undef=AQ (NS c) (xs.set n none):=by simp [AQ,List.map_set,NS]
theorem oO(xs:List (Option α))(n:Nat)(y:α):(AQ (NS c) xs).set n (c y)=AQ (NS c) (xs.set n (some y)):=by simp [AQ,List.map_set,NS]
theorem uY(e:TypeId)(k:IntKind)(x y:List Int)(i:Nat)(h:i<2):([D.sl e (AQ (D.int k) x),D.sl e (AQ (D.int k) y)]:List D)[i]? =some (D.sl e (AQ (D.int k) ([x,y].getD i default))):=by
 rcases i with _ | _ | i
 ·rfl
 ·rfl
 ·omega
theorem uZ(xs:List α)(n:Nat):((xs.map some).set n none).length=xs.length:=by simp
theorem oP(xs:List α):(xs.map some).length=xs.length:=by simp
theorem ah(xs:List α)(n:Nat):(AQ c xs).set n .undef=AQ (NS c) ((xs.map some).set n none):=by rw [←UT,Y2]
theorem uf(xs:List (Option α))(n:Nat):AQ (NS (NS c)) ((xs.map some).set n none)=AQ (NS c) (xs.set n none):=by rw [←ah,UT]
theorem oQ(xs:List α)(n:Nat)(y:α):(xs.map some).set n (some y)=(xs.set n y).map some:=List.map_set.symm
theorem oU(xs:List (Option α))(n:Nat)(a b:Option α):(xs.set n a).set n b=xs.set n b:=List.set_set ..
theorem fJ(ys:List α)(xs:List (Option α))(n:Nat):Bn (AQ (NS c) xs) n (AQ c ys)=AQ (NS c) (sM xs n (ys.map some)):=by
 rw [←Y2 c ys,UR]
theorem ig[Inhabited α]: ∀(xs:List (Option α)),(xs.all Option.isSome)=true→AQ (NS c) xs=AQ c (xs.map fun o=>o.getD default)
 | [],_=>rfl
 | x::xs,h=>by
  simp only [List.all_cons,Bool.and_eq_true]at h;show NS c x::AQ (NS c) xs=_
  rw [af c x h.1,ig xs h.2];rfl
theorem ug(n:Nat)(k:IntKind)(x:Int):List.replicate n (D.int k x)=AQ (D.int k) (List.replicate n x):=by simp [AQ]
theorem A3H(n:Nat)(e:TypeId):List.replicate n (D.sl e [])=AQ (fun x=>D.sl e (AQ (D.int .i64) x)) (List.replicate n []):=by simp [AQ]
theorem uh(n:Nat)(e:TypeId):List.replicate n (D.own e [])=AQ (fun x=>D.own e (AQ (D.int .i64) x)) (List.replicate n []):=by simp [AQ]
theorem oV(n:Nat)(x:Bool):List.replicate n (D.bool x)=AQ D.bool (List.replicate n x):=by simp [AQ]
variable [Inhabited α] {T:Tys}
theorem AHu(e:TypeId)(n:Int)(xs:List α)(hk:T.known e=true)(hz:T.size e=1)(hn:0≤n∧n.toNat<xs.length):Wx T e n (some (e,AQ c xs,none))=some (.cptr [c (xs.getD n.toNat default)]):=by
 rw [A27 e n (AQ c xs) hk hz (by simpa [AQ] using hn),aX c xs _ hn.2]
end
theorem A9H{α:Type}(c:α→D){T:Tys}(e:TypeId)(n:Int)(xs:List α)(L:AB)(a b:Nat)(hk:T.known e=true)(hz:T.size e=1)(hn:0≤n∧n.toNat<xs.length):Wx T e n (some (e,AQ c xs,some (L,a,b)))=some (.pe L n.toNat a b):=
 uI e n (AQ c xs) L a b hk hz (by simpa [AQ] using hn)
theorem AHv:(true==false)=false:=nr rfl
theorem AHw:(false==true)=false:=nr rfl
theorem AHx:(true==true)=true:=nr rfl
theorem AHy:(false==false)=true:=nr rfl
theorem A9I:((0:Nat):Int)=0:=nr rfl
theorem A9J:((1:Nat):Int)=1:=nr rfl
theorem A9K(n:Nat):((OfNat.ofNat n:Nat):Int)=OfNat.ofNat n:=nr rfl
theorem AHz{s:St}(dst:Option Tmp)(u:Tmp)(i:Nat)(L:AB)(n m:Nat):Va s dst u i (some (.vw L n m))=some (s.putO dst (.vw L n m)):=by simp [Va,Bd,Cz,D.hasObj,Il]
theorem ai{α:Type}(c:α→D)(xs:List α):(AQ c xs).isEmpty=xs.isEmpty:=by cases xs<;>rfl
theorem wH{α:Type}(c:α→D)(e:TypeId)(xs:List α):Cb (.sl e (AQ c xs))= !xs.isEmpty:=by simp only [Cb,ai]
theorem A9L(e:TypeId):Cb (.sl e [])=false:=nr rfl
theorem A9M(e:TypeId)(x:D)(xs:List D):Cb (.sl e (x::xs))=true:=nr rfl
theorem fK{α β:Type}(c:β→D)(f:α→List β)(e:TypeId)(xs:List α):Cc (AQ (fun x=>D.sl e (AQ c (f x))) xs)=xs.any fun x=> !(f x).isEmpty:=by
 induction xs with
 | nil=>rfl
 | cons x xs ih=>simp only [Iu,Cc,wH,ih,List.any_cons]
theorem aj{α:Type}(c:α→List D)(e:TypeId)(xs:List α):Ah (AQ (fun x=>D.own e (c x)) xs)= !xs.isEmpty:=by
 cases xs with
 | nil=>rfl
 | cons x xs=>simp [Iu,Ah,D.hasObj]
section
variable {pm:Pm} {s:St} {dst:Option Tmp}
theorem AI0(ls:List (AB×D))(r:D)(o:List D)(h:Cb r=true):cb2 pm s dst ls (some (r,o))=if(E9 (ls.map (·.1))&&ls.all (fun l=>pm.wr (l.1.headD 0)))=true then(Ij ls).map fun ls'=>(back false s ls').putO dst r else none:=by
 simp [cb2,h]
theorem faN:Ij []=some []:=nr rfl
def fac(L:AB)(o:Option (List (AB×D))):Option D→Option (List (AB×D))
 | some c=>o.map ((L,c):: ·)
 | none=>none
theorem faC(L:AB)(c:D)(rest:List (AB×D)):Ij ((L,c)::rest)=fac L (Ij rest) (D6 c):=by
 simp only [Ij];cases D6 c<;>rfl
theorem AI1(L:AB)(ls:List (AB×D))(c:D):fac L (some ls) (some c)=some ((L,c)::ls):=nr rfl
end
def BA(xs:List (Int×Int))(n:Nat):Int:=(xs.getD n default).1
def Bc(xs:List (Int×Int))(n:Nat):Int:=(xs.getD n default).2
def Ai(k l:IntKind)(xs:List (Int×Int)):List D:=SX (fun x=>[D.int k x.1,D.int l x.2]) xs
theorem Ar(k l:IntKind):Ai k l []=[]:=nr rfl
theorem Kq(k l:IntKind)(x:Int×Int)(xs:List (Int×Int)):Ai k l (x::xs)=D.int k x.1::D.int l x.2::Ai k l xs:=nr rfl
theorem O9(k l:IntKind)(xs:List (Int×Int)):(Ai k l xs).length=xs.length*2:=UQ _ 2 (fun _=>rfl) xs
theorem UU(k l:IntKind)(xs:List (Int×Int)): ∀(n:Nat),n<xs.length→(Ai k l xs)[n*2]? =some (D.int k (BA xs n))∧(Ai k l xs)[n*2+1]? =some (D.int l (Bc xs n)):=by
 induction xs with
 | nil=>intro n h;simp at h
 | cons x xs ih=>
  intro n h
  cases n with
  | zero=>exact⟨rfl,rfl⟩
  | succ n=>
   have:=ih n (by simpa using h)
   rw [Kq,Nat.succ_mul];exact this
theorem ak(k l:IntKind)(xs:List (Int×Int))(n:Nat)(h:n<xs.length):(Ai k l xs)[n*2]? =some (D.int k (BA xs n)):=(UU k l xs n h).1
theorem kW(k l:IntKind)(xs:List (Int×Int))(n:Nat)(h:n<xs.length):(Ai k l xs)[n*2+0]? =some (D.int k (BA xs n)):=(UU k l xs n h).1
theorem au(k l:IntKind)(xs:List (Int×Int))(n:Nat)(h:n<xs.length):(Ai k l xs)[n*2+1]? =some (D.int l (Bc xs n)):=(UU k l xs n h).2
theorem R5(k l:IntKind)(v:Int): ∀(xs:List (Int×Int)) (n:Nat),n<xs.length→(Ai k l xs).set (n*2) (D.int k v)=Ai k l (xs.set n (v,Bc xs n)):=by
 intro xs
 induction xs with
 | nil=>intro n h;simp at h
 | cons x xs ih=>
  intro n h
  cases n with
  | zero=>rfl
  | succ n=>
   have:=ih n (by simpa using h)
   rw [Kq,Nat.succ_mul,List.set_cons_succ,List.set_cons_succ,List.set_cons_succ,this,Kq];rfl
theorem X4(k l:IntKind)(v:Int): ∀(xs:List (Int×Int)) (n:Nat),n<xs.length→(Ai k l xs).set (n*2+1) (D.int l v)=Ai k l (xs.set n (BA xs n,v)):=by
 intro xs
 induction xs with
 | nil=>intro n h;simp at h
 | cons x xs ih=>
  intro n h
  cases n with
  | zero=>rfl
  | succ n=>
   have:=ih n (by simpa using h)
   rw [Kq,Nat.succ_mul,show n*2+2+1=n*2+1+1+1 by omega,List.set_cons_succ,List.set_cons_succ,List.set_cons_succ,this,Kq];rfl
theorem av(k l:IntKind)(xs ys:List (Int×Int)):Ai k l xs++Ai k l ys=Ai k l (xs++ys):=LG _ xs ys
theorem X5(k l:IntKind)(xs:List (Int×Int))(a b:Int):Ai k l xs++[D.int k a,D.int l b]=Ai k l (xs++[(a,b)]):=LG _ xs [(a,b)]
theorem fM(k l:IntKind)(xs:List (Int×Int))(a b:Int)(ds:List D):Ai k l xs++(D.int k a::D.int l b::ds)=Ai k l (xs++[(a,b)])++ds:=by
 rw [←X5,List.append_assoc];rfl
theorem kX(k l:IntKind)(xs:List (Int×Int))(n:Nat):(Ai k l xs).take (n*2)=Ai k l (xs.take n):=oM _ 2 (fun _=>rfl) xs n
theorem X6(k l:IntKind)(xs:List (Int×Int))(n:Nat):(Ai k l xs).drop (n*2)=Ai k l (xs.drop n):=aZ _ 2 (fun _=>rfl) xs n
theorem Rv(k l:IntKind)(xs:List (Int×Int)):Ah (Ai k l xs)=false:=PM _ xs (fun _=>by simp [Ah,D.hasObj])
theorem oW(k l:IntKind)(xs:List (Int×Int)):CS (Ai k l xs)=some (Ai k l xs):=Y1 _ xs (fun _=>rfl)
theorem fO(k l:IntKind)(xs:List (Int×Int)):Cc (Ai k l xs)=false:=R3 _ xs (fun _=>rfl)
theorem fP(k l:IntKind)(xs:List (Int×Int)):(Ai k l xs).all Bf=true:=R4 _ xs (fun _=>rfl)
theorem Y3(k l:IntKind)(xs:List (Int×Int)):(Ai k l xs).isEmpty=xs.isEmpty:=by cases xs<;>rfl
theorem oZ(k l:IntKind)(n:Nat)(a b:Int):(List.replicate n [D.int k a,D.int l b]).flatten=Ai k l (List.replicate n (a,b)):=by
 simp [Ai,SX,List.flatMap_def]
theorem wI(k l:IntKind)(e:TypeId)(xs:List (Int×Int)):Cb (.sl e (Ai k l xs))= !xs.isEmpty:=by simp only [Cb,Y3]
theorem ay{α:Type}(k l:IntKind)(f:α→List (Int×Int))(e:TypeId)(xs:List α):Cc (AQ (fun x=>D.sl e (Ai k l (f x))) xs)=xs.any fun x=> !(f x).isEmpty:=by
 induction xs with
 | nil=>rfl
 | cons x xs ih=>simp only [Iu,Cc,wI,ih,List.any_cons]
def NT(xs:List (Int×Int×Int×Int))(n:Nat):Int:=(xs.getD n default).1
def R6(xs:List (Int×Int×Int×Int))(n:Nat):Int:=(xs.getD n default).2.1
def Oq(xs:List (Int×Int×Int×Int))(n:Nat):Int:=(xs.getD n default).2.2.1
def R7(xs:List (Int×Int×Int×Int))(n:Nat):Int:=(xs.getD n default).2.2.2
def EO(xs:List (Int×Int×Int×Int)):List D:=SX (fun x=>[D.int .i64 x.1,D.int .i64 x.2.1,D.int .i64 x.2.2.1,D.int .i64 x.2.2.2]) xs
theorem X7(x:Int×Int×Int×Int)(xs:List (Int×Int×Int×Int)):EO (x::xs)=D.int .i64 x.1::D.int .i64 x.2.1::D.int .i64 x.2.2.1::D.int .i64 x.2.2.2::EO xs:=nr rfl
theorem OA(xs:List (Int×Int×Int×Int)):(EO xs).length=xs.length*4:=UQ _ 4 (fun _=>rfl) xs
theorem az(xs ys:List (Int×Int×Int×Int)):EO xs++EO ys=EO (xs++ys):=LG _ xs ys
theorem X8(xs:List (Int×Int×Int×Int))(a b c d:Int):EO xs++[D.int .i64 a,D.int .i64 b,D.int .i64 c,D.int .i64 d]=EO (xs++[(a,b,c,d)]):=LG _ xs [(a,b,c,d)]
theorem fQ(xs:List (Int×Int×Int×Int))(a b c d:Int)(ds:List D):EO xs++(D.int .i64 a::D.int .i64 b::D.int .i64 c::D.int .i64 d::ds)=EO (xs++[(a,b,c,d)])++ds:=by
 rw [←X8,List.append_assoc];rfl
theorem X9(xs:List (Int×Int×Int×Int))(n:Nat):(EO xs).drop (n*4)=EO (xs.drop n):=aZ _ 4 (fun _=>rfl) xs n
theorem bA(xs:List (Int×Int×Int×Int)):Ah (EO xs)=false:=PM _ xs (fun _=>by simp [Ah,D.hasObj])
theorem og(xs:List (Int×Int×Int×Int)):CS (EO xs)=some (EO xs):=Y1 _ xs (fun _=>rfl)
theorem fT(xs:List (Int×Int×Int×Int)):Cc (EO xs)=false:=R3 _ xs (fun _=>rfl)
theorem fU(xs:List (Int×Int×Int×Int)):(EO xs).all Bf=true:=R4 _ xs (fun _=>rfl)
theorem ol{T:Tys}(e:TypeId)(xs:List (Int×Int×Int×Int))(h:T.size e=4):T.len e (EO xs)=xs.length:=by
 unfold Tys.len;rw [h,if_neg (by decide),OA,Nat.mul_div_cancel _ (by decide)]
theorem AI2{T:Tys}(e:TypeId)(n:Int)(xs:List (Int×Int×Int×Int))(hk:T.known e=true)(hz:T.size e=4)(hn:0≤n∧n.toNat<xs.length):Wx T e n (some (e,EO xs,none))=some (.cptr [D.int .i64 (NT xs n.toNat),D.int .i64 (R6 xs n.toNat),D.int .i64 (Oq xs n.toNat),D.int .i64 (R7 xs n.toNat)]):=by
 simp only [Wx,hk,ol e xs hz];rw [if_pos ⟨trivial,trivial,hn.1,hn.2⟩,hz,X9,List.drop_eq_getElem_cons hn.2,X7];unfold NT R6 Oq R7;rw [List.getD_eq_getElem?_getD,List.getElem?_eq_getElem hn.2];rfl
section
variable {T:Tys} {pm:Pm} {s:St} {t:TypeId}
theorem oo(k l:IntKind)(e:TypeId)(xs:List (Int×Int))(h:T.size e=2):T.len e (Ai k l xs)=xs.length:=by
 unfold Tys.len;rw [h,if_neg (by decide),O9,Nat.mul_div_cancel _ (by decide)]
theorem AI3(k l:IntKind)(e:TypeId)(n:Int)(xs:List (Int×Int))(hk:T.known e=true)(hz:T.size e=2)(hn:0≤n∧n.toNat<xs.length):Wx T e n (some (e,Ai k l xs,none))=some (.cptr [D.int k (BA xs n.toNat),D.int l (Bc xs n.toNat)]):=by
 simp only [Wx,hk,oo k l e xs hz];rw [if_pos ⟨trivial,trivial,hn.1,hn.2⟩,hz,X6,List.drop_eq_getElem_cons hn.2,Kq];unfold BA Bc;rw [List.getD_eq_getElem?_getD,List.getElem?_eq_getElem hn.2];rfl
theorem AI4(k l:IntKind)(e:TypeId)(n:Int)(xs:List (Int×Int))(L:AB)(a b:Nat)(hk:T.known e=true)(hz:T.size e=2)(hn:0≤n∧n.toNat<xs.length):Wx T e n (some (e,Ai k l xs,some (L,a,b)))=some (.pe L (n.toNat*2) a b):=by
 simp only [Wx,hk,oo k l e xs hz];rw [if_pos ⟨trivial,trivial,hn.1,hn.2⟩,hz]
theorem AI5(e:TypeId)(n:Int)(xs:List (Int×Int×Int×Int))(L:AB)(a b:Nat)(hk:T.known e=true)(hz:T.size e=4)(hn:0≤n∧n.toNat<xs.length):Wx T e n (some (e,EO xs,some (L,a,b)))=some (.pe L (n.toNat*4) a b):=by
 simp only [Wx,hk,ol e xs hz];rw [if_pos ⟨trivial,trivial,hn.1,hn.2⟩,hz]
theorem OB(xs:List (Int×Int×Int×Int))(n:Nat)(h:n<xs.length):(EO xs)[n*4]? =some (D.int .i64 (NT xs n))∧(EO xs)[n*4+1]? =some (D.int .i64 (R6 xs n))∧(EO xs)[n*4+2]? =some (D.int .i64 (Oq xs n))∧(EO xs)[n*4+3]? =some (D.int .i64 (R7 xs n)):=by
 have e:=X9 xs n;rw [List.drop_eq_getElem_cons h,X7]at e;have g: ∀i,(EO xs)[n*4+i]? =((EO xs).drop (n*4))[i]? :=fun i=>by rw [List.getElem?_drop]
 have q:xs.getD n default=xs[n]:=by rw [List.getD_eq_getElem?_getD,List.getElem?_eq_getElem h];rfl
 unfold NT R6 Oq R7;rw [q]
 refine⟨?_, ?_, ?_, ?_⟩
 ·have:=g 0;rw [e]at this;exact this
 ·rw [g 1,e];rfl
 ·rw [g 2,e];rfl
 ·rw [g 3,e];rfl
theorem AI6{n m:Nat}(h:n<m):n*4+4≤m*4:=by omega
theorem fV(xs:List (Int×Int×Int×Int))(n:Nat)(d:D)(h:n<xs.length):(EO xs).getD (n*4) d=D.int .i64 (NT xs n):=by rw [List.getD_eq_getElem?_getD,(OB xs n h).1];rfl
theorem fZ(xs:List (Int×Int×Int×Int))(n:Nat)(d:D)(h:n<xs.length):(EO xs).getD (n*4+1) d=D.int .i64 (R6 xs n):=by rw [List.getD_eq_getElem?_getD,(OB xs n h).2.1];rfl
theorem fe(xs:List (Int×Int×Int×Int))(n:Nat)(d:D)(h:n<xs.length):(EO xs).getD (n*4+2) d=D.int .i64 (Oq xs n):=by rw [List.getD_eq_getElem?_getD,(OB xs n h).2.2.1];rfl
theorem fq(xs:List (Int×Int×Int×Int))(n:Nat)(d:D)(h:n<xs.length):(EO xs).getD (n*4+3) d=D.int .i64 (R7 xs n):=by rw [List.getD_eq_getElem?_getD,(OB xs n h).2.2.2];rfl
theorem cs4(L:AB)(e:TypeId)(n:Nat)(xs:List (Int×Int×Int×Int))(h:n<xs.length):cellsOf s L (n*4) 4 (some (.own e (EO xs)))=some (.agg [D.int .i64 (NT xs n),D.int .i64 (R6 xs n),D.int .i64 (Oq xs n),D.int .i64 (R7 xs n)]):=by
 obtain⟨h0,h1,h2,h3⟩:=OB xs n h
 show(if n*4+4≤(EO xs).length then Bd (.agg ((List.range 4).map fun i=>Cz s L (n*4+i) ((EO xs).getD (n*4+i) .undef)))else none)=_
 rw [if_pos (by rw [OA];omega),rg4,Nat.add_zero,List.getD_eq_getElem?_getD,List.getD_eq_getElem?_getD,List.getD_eq_getElem?_getD,List.getD_eq_getElem?_getD,h0,h1,h2,h3];rfl
def sq1(T:Tys)(pm:Pm)(t:TypeId)(u:Tmp)(a b:D)(s:St):Option D→Nat→AB→Option St
 | some (.own e xs),c,L=>if T.known t&&T.isStruct t&&pm.wr (L.headD 0)&&Bf a&&Bf b&&(T.size t==2)&&decide (c+2≤xs.length)&& !a.hasObj&& !b.hasObj&& !Ah xs then some (s.set L (.own e ((xs.set c a).set (c+1) b)))else Wy T pm t (.tmp u) (some (.agg [a,b],s))
 | _,_,_=>Wy T pm t (.tmp u) (some (.agg [a,b],s))
theorem AI7(u:Tmp)(a b:D)(L:AB)(c n m:Nat)(h:s.v u= .pe L c n m):Wy T pm t (.tmp u) (some (.agg [a,b],s))=sq1 T pm t u a b s (s.look pm L n m) c L:=by
 cases hl:s.look pm L n m with
 | none=>rfl
 | some o=>
  cases o<;>try rfl
  rename_i e xs
  simp only [sq1];split
  ·rename_i hc
   simp only [Bool.and_eq_true,beq_iff_eq,decide_eq_true_eq,Bool.not_eq_true']at hc;obtain⟨⟨⟨⟨⟨⟨⟨⟨⟨hk,hs⟩,hw⟩,ha⟩,hb⟩,hz⟩,hl2⟩,ha2⟩,hb2⟩,hx2⟩:=hc;simp only [Wy,ev,h,GN,hl,D.asCells,D.isAgg,D.cells,D.withCells,hk,hs,hw,hz,List.all_cons,ha,hb,List.all_nil,Bool.and_self,List.length_cons,List.length_nil,beq_self_eq_true,Bool.true_and,D.hasObj,Ah,ha2,hb2,hx2,Bool.or_self,Bool.false_eq_true,if_false,Bn];rw [if_pos (by simpa using hl2)]
  ·rfl
theorem AI8(u:Tmp)(a b:D)(L:AB)(c n m:Nat)(h:s.v u= .pe L c n m):sw1 T pm t u [a,b] s (.pe L c n m)=sq1 T pm t u a b s (s.look pm L n m) c L:=by
 rw [←AI7 u a b L c n m h];rfl
theorem fu(k l:IntKind)(xs:List (Int×Int))(n:Nat)(a b:Int)(h:n<xs.length):((Ai k l xs).set (n*2) (D.int k a)).set (n*2+1) (D.int l b)=Ai k l (xs.set n (a,b)):=by
 rw [R5 k l a xs n h,X4 k l b _ n (by simpa using h),List.set_set]
 congr 2
 simp [BA,List.getD_eq_getElem?_getD,h]
theorem AI9(k l:IntKind)(u:Tmp)(a b:Int)(L:AB)(e:TypeId)(n:Nat)(xs:List (Int×Int))(hk:T.known t=true)(hs:T.isStruct t=true)(hw:pm.wr (L.headD 0)=true)(hz:T.size t=2)(h:n<xs.length):
  sq1 T pm t u (.int k a) (.int l b) s (some (.own e (Ai k l xs))) (n*2) L=some (s.set L (.own e (Ai k l (xs.set n (a,b))))):=by
 simp only [sq1];rw [if_pos,fu k l xs n a b h];simp only [hk,hs,hw,hz,Bf,O9,Rv,D.hasObj,Bool.and_eq_true,decide_eq_true_eq,beq_self_eq_true,Bool.not_false,and_true,true_and];omega
end
set_option linter.defProp false
def Ae:=And.intro @AHz (And.intro @UR (And.intro @aj (And.intro @wH (And.intro @A9L (And.intro @A9M (And.intro @fK (And.intro @AI0 (And.intro @faN (And.intro @faC (And.intro @AI1 (And.intro @AHu (And.intro @A9H (And.intro @UN (And.intro @A3G (And.intro @aX (And.intro @ic (And.intro @fH (And.intro @kV (And.intro @kU
 (And.intro @oI (And.intro @oJ (And.intro @UO (And.intro @uW (And.intro @ae (And.intro @oN (And.intro @kT (And.intro @X3 (And.intro @A3H (And.intro @uh (And.intro @af (And.intro @Y2 (And.intro @uY (And.intro @uZ (And.intro @oP (And.intro @ah (And.intro @oQ (And.intro @oU (And.intro (And.intro @uf @UT) (And.intro @oO (And.intro @fJ (And.intro @ig (And.intro @ug (And.intro @oV
 (And.intro @LG (And.intro @PM (And.intro @Y1 (And.intro @R3 (And.intro @R4 (And.intro @oK (And.intro @uX (And.intro @oL
 (And.intro @AHv (And.intro @AHw (And.intro @AHx (And.intro @AHy (And.intro @A9I (And.intro @A9J @A9K)))))))))))))))))))))))))))))))))))))))))))))))))))))))))
theorem tk2(a b:D)(l:List D):List.take 2 (a::b::l)=[a,b]:=nr rfl
theorem tk3(a b c:D)(l:List D):List.take 3 (a::b::c::l)=[a,b,c]:=nr rfl
theorem tk4(a b c d:D)(l:List D):List.take 4 (a::b::c::d::l)=[a,b,c,d]:=nr rfl
theorem dr0(l:List D):List.drop 0 l=l:=nr rfl
theorem dr1(a:D)(l:List D):List.drop 1 (a::l)=l:=nr rfl
theorem dr2(a0 a1:D)(l:List D):List.drop 2 (a0::a1::l)=l:=nr rfl
theorem dr3(a0 a1 a2:D)(l:List D):List.drop 3 (a0::a1::a2::l)=l:=nr rfl
theorem dr4(a0 a1 a2 a3:D)(l:List D):List.drop 4 (a0::a1::a2::a3::l)=l:=nr rfl
theorem dr5(a0 a1 a2 a3 a4:D)(l:List D):List.drop 5 (a0::a1::a2::a3::a4::l)=l:=nr rfl
theorem dr6(a0 a1 a2 a3 a4 a5:D)(l:List D):List.drop 6 (a0::a1::a2::a3::a4::a5::l)=l:=nr rfl
theorem dr7(a0 a1 a2 a3 a4 a5 a6:D)(l:List D):List.drop 7 (a0::a1::a2::a3::a4::a5::a6::l)=l:=nr rfl
theorem dr8(a0 a1 a2 a3 a4 a5 a6 a7:D)(l:List D):List.drop 8 (a0::a1::a2::a3::a4::a5::a6::a7::l)=l:=nr rfl
theorem dr9(a0 a1 a2 a3 a4 a5 a6 a7 a8:D)(l:List D):List.drop 9 (a0::a1::a2::a3::a4::a5::a6::a7::a8::l)=l:=nr rfl
theorem AIA(a0 a1 a2 a3 a4 a5 a6 a7 a8 a9:D)(l:List D):List.drop 10 (a0::a1::a2::a3::a4::a5::a6::a7::a8::a9::l)=l:=nr rfl
theorem AIB(a0 a1 a2 a3 a4 a5 a6 a7 a8 a9 a10:D)(l:List D):List.drop 11 (a0::a1::a2::a3::a4::a5::a6::a7::a8::a9::a10::l)=l:=nr rfl
theorem A9O{n m:Nat}(h:n<m):n*2<m*2:=by omega
theorem A3I{n m:Nat}(h:n<m):n*2+0<m*2:=by omega
theorem A9P{n m:Nat}(h:n<m):n*2+1<m*2:=by omega
theorem A9Q{n m:Nat}(h:n<m):n*2+2≤m*2:=by omega
theorem fw(k l:IntKind)(v:Int)(xs:List (Int×Int))(n:Nat)(h:n<xs.length):(Ai k l xs).set (n*2+0) (D.int k v)=Ai k l (xs.set n (v,Bc xs n)):=R5 k l v xs n h
theorem UV(k l:IntKind)(xs:List (Int×Int))(n:Nat)(d:D)(h:n<xs.length):(Ai k l xs).getD (n*2) d=D.int k (BA xs n):=by rw [List.getD_eq_getElem?_getD,ak k l xs n h];rfl
theorem bB(k l:IntKind)(xs:List (Int×Int))(n:Nat)(d:D)(h:n<xs.length):(Ai k l xs).getD (n*2+0) d=D.int k (BA xs n):=UV k l xs n d h
theorem gB(k l:IntKind)(xs:List (Int×Int))(n:Nat)(d:D)(h:n<xs.length):(Ai k l xs).getD (n*2+1) d=D.int l (Bc xs n):=by rw [List.getD_eq_getElem?_getD,au k l xs n h];rfl
def BV:=And.intro @AI5 (And.intro @cs4 (And.intro @AI6 (And.intro @fV (And.intro @fZ (And.intro @fe (And.intro @fq (And.intro @Nat.add_zero (And.intro @OA (And.intro @az (And.intro @X8 (And.intro @fQ (And.intro @bA (And.intro @og (And.intro @fT (And.intro @fU (And.intro @ol (And.intro @AI2 (And.intro @O9 (And.intro @ak (And.intro @kW (And.intro @au (And.intro @av (And.intro @X5 (And.intro @fM (And.intro @kX (And.intro @X6 (And.intro @Rv (And.intro @oW (And.intro @fO (And.intro @fP (And.intro @oZ (And.intro @wI (And.intro @ay (And.intro @oo (And.intro @AI3 (And.intro @AI4 (And.intro @AI8 (And.intro @tk2 (And.intro @tk3 (And.intro @tk4 (And.intro @dr0 (And.intro @dr1 (And.intro @dr2 (And.intro @dr3 (And.intro @dr4 (And.intro @dr5 (And.intro @dr6 (And.intro @dr7 (And.intro @dr8 (And.intro @dr9 (And.intro @AIA (And.intro @AIB (And.intro @A9O (And.intro @A3I (And.intro @A9P (And.intro @A9Q (And.intro @R5 (And.intro @fw (And.intro @X4 (And.intro @UV (And.intro @bB (And.intro @gB (And.intro @List.length_set.{0} (@AI9))))))))))))))))))))))))))))))))))))))))))))))))))))))))))))))))
def AL:=And.intro @implies_true.{1} (And.intro @Option.bind_some.{0,0} (And.intro @Option.map_some.{0,0} (And.intro @Option.isSome_some.{0} (And.intro @List.contains_cons.{0} (And.intro @List.contains_nil.{0} (And.intro @List.getD_cons_zero.{0} (And.intro @List.getD_cons_succ.{0} (And.intro @List.getD_nil.{0} (And.intro @List.length_cons.{0} (And.intro @List.length_nil.{0} (And.intro @List.size_toArray.{0} (And.intro @List.toList_toArray.{0} (And.intro @List.zip_cons_cons.{0,0} (And.intro @List.zip_nil_left.{0,0} (And.intro @List.append_nil.{0} (And.intro @List.nil_append.{0} (And.intro @List.cons_append.{0} (And.intro @List.map_cons.{0,0} (And.intro @List.map_nil.{0,0} (And.intro @List.replicate_succ.{0} (And.intro @List.replicate_zero.{0} (And.intro @List.set_cons_zero.{0} (And.intro @List.set_cons_succ.{0} (And.intro @List.set_set.{0} (And.intro @List.all_cons.{0} (And.intro @List.any_cons.{0} (And.intro @List.any_nil.{0} (And.intro @List.all_nil.{0} (And.intro @List.getElem?_cons_zero.{0} (And.intro @List.getElem?_cons_succ.{0} (And.intro @List.getElem?_nil.{0} (@beq_self_eq_true.{0}))))))))))))))))))))))))))))))))
theorem Pe:List.range 0=[]:=nr rfl
end Dv
namespace Dv
open Go
section
variable {σ ρ α β:Type}
theorem Bb(f:σ→Option (σ⊕ρ))(st:Nat→σ): ∀(n:Nat) (r:ρ),(∀i,i<n→f (st i)=some (.inl (st (i+1))))→f (st n)=some (.inr r)→Ht f (st 0)=some r:=by
 intro n r h e
 have key: ∀k,k≤n→Ht f (st (n-k))=some r:=by
  intro k
  induction k with
  | zero=>intro _;exact JM e
  | succ k ih=>
   intro hk;have h1:=h (n-(k+1)) (by omega)
   rw [Lm h1,show n-(k+1)+1=n-k by omega]
   exact ih (by omega)
 have:=key n (Nat.le_refl _)
 rwa [Nat.sub_self]at this
theorem uj(f:σ→Option (σ⊕ρ))(I:Nat→σ→Prop)(Q:ρ→Prop)(step: ∀n s,I n s→(∃s' m,f s=some (.inl s')∧m<n∧I m s')∨(∃r,f s=some (.inr r)∧Q r)):
  ∀(n:Nat) (s:σ),I n s→ ∃r,Ht f s=some r∧Q r:=by
 intro n
 induction n using Nat.strongRecOn with
 | _ n ih=>
  intro s hI;rcases step n s hI with⟨s',m,h1,h2,h3⟩ | ⟨r,h1,h2⟩
  ·rw [Lm h1];exact ih m h2 s' h3
  ·exact⟨r,JM h1,h2⟩
theorem bC(f:σ→Option (σ⊕ρ))(mk:Nat→β→σ)(P:Nat→β→Prop)(xs:List α)(g:β→α→β)(fin:β→ρ)
  (h: ∀(i:Nat) (b:β) (hi:i<xs.length),P i b→f (mk i b)=some (.inl (mk (i+1) (g b xs[i])))∧P (i+1) (g b xs[i]))
  (e: ∀b,P xs.length b→f (mk xs.length b)=some (.inr (fin b)))(b0:β)(h0:P 0 b0):Ht f (mk 0 b0)=some (fin (xs.foldl g b0))∧P xs.length (xs.foldl g b0):=by
 have key: ∀(k:Nat) (b:β),k≤xs.length→P (xs.length-k) b→Ht f (mk (xs.length-k) b)=some (fin ((xs.drop (xs.length-k)).foldl g b))∧P xs.length ((xs.drop (xs.length-k)).foldl g b):=by
  intro k
  induction k with
  | zero=>intro b _ hp;simp only [Nat.sub_zero,List.drop_length,List.foldl_nil]at hp ⊢;exact⟨JM (e b hp),hp⟩
  | succ k ih=>
   intro b hk hp;have hl:xs.length-(k+1)<xs.length:=by omega
   obtain⟨h1,h2⟩:=h (xs.length-(k+1)) b hl hp;rw [List.drop_eq_getElem_cons hl,List.foldl_cons,Lm h1];have e1:xs.length-(k+1)+1=xs.length-k:=by omega
   rw [e1]at h2 ⊢;exact ih _ (by omega) h2
 have:=key xs.length b0 (Nat.le_refl _) (by rwa [Nat.sub_self])
 rwa [Nat.sub_self,List.drop_zero]at this
end
theorem NB{n:Nat}{P:Nat→Bool}(h: ¬ ∀i,i<n→P i=true): ∃m,m<n∧P m=false∧ ∀i,i<m→P i=true:=by
 induction n with
 | zero=>exact absurd (fun i hi=>absurd hi (Nat.not_lt_zero _)) h
 | succ n ih=>
  by_cases hn: ∀i,i<n→P i=true
  ·refine⟨n,Nat.lt_succ_self _, ?_,hn⟩
   cases hp:P n with
   | false=>rfl
   | true=>exact absurd (fun i hi=>by rcases Nat.lt_succ_iff_lt_or_eq.1 hi with h1 | rfl;exact hn i h1;exact hp) h
  ·obtain⟨m,h1,h2,h3⟩:=ih hn
   exact⟨m,by omega,h2,h3⟩
theorem FU{n:Nat}{P:Nat→Bool}:(List.range n).all P=true↔ ∀i,i<n→P i=true:=by
 simp [List.all_eq_true]
theorem oq{σ ρ:Type}(f:σ→Option (σ⊕ρ))(st:Nat→σ)(n:Nat)(P:Nat→Bool)(bad good:ρ)
  (h: ∀i,i<n→(∀j,j<i→P j=true)→f (st i)=if P i=true then some (.inl (st (i+1)))else some (.inr bad))(e:(∀j,j<n→P j=true)→f (st n)=some (.inr good)):Ht f (st 0)=some (if(List.range n).all P=true then good else bad):=by
 by_cases hp: ∀i,i<n→P i=true
 ·rw [if_pos (FU.2 hp)];refine Bb f st n good (fun i hi=> ?_) (e hp);rw [h i hi (fun j hj=>hp j (by omega)),if_pos (hp i hi)]
 ·rw [if_neg (fun hc=>hp (FU.1 hc))];obtain⟨m,h1,h2,h3⟩:=NB hp;refine Bb f st m bad (fun i hi=> ?_) ?_
  ·rw [h i (by omega) (fun j hj=>h3 j (by omega)),if_pos (h3 i hi)]
  ·rw [h m h1 h3,h2];rfl
theorem JN{σ ρ:Type}(f:σ→Option (σ⊕ρ))(st:Nat→σ)(n:Nat)(P:Nat→Bool)(bad good:ρ)
  (h: ∀i,i<n→f (st i)=if P i=true then some (.inl (st (i+1)))else some (.inr bad))(e:f (st n)=some (.inr good)):Ht f (st 0)=some (if(List.range n).all P=true then good else bad):=
 oq f st n P bad good (fun i hi _=>h i hi) (fun _=>e)
theorem bD{α:Type}[Inhabited α](p:α→Bool)(xs:List α):(List.range xs.length).all (fun i=>p (xs.getD i default))=xs.all p:=by
 rw [Bool.eq_iff_iff,FU,List.all_eq_true]
 constructor
 ·intro h x hx;obtain⟨i,hi,rfl⟩:=List.getElem_of_mem hx;have:=h i hi
  rwa [List.getD_eq_getElem?_getD,List.getElem?_eq_getElem hi]at this
 ·intro h i hi;rw [List.getD_eq_getElem?_getD,List.getElem?_eq_getElem hi];exact h _ (List.getElem_mem hi)
theorem UW{α:Type}[DecidableEq α][Inhabited α](a b:List α)(hl:a.length=b.length):(List.range a.length).all (fun i=>decide (a.getD i default=b.getD i default))=decide (a=b):=by
 by_cases he:a=b
 ·subst he;simp
 ·rw [decide_eq_false he,Bool.eq_false_iff];intro hc;rw [FU]at hc;refine he (List.ext_getElem hl fun i h1 h2=> ?_);have:=hc i h1
  rw [List.getD_eq_getElem?_getD,List.getD_eq_getElem?_getD,List.getElem?_eq_getElem h1,List.getElem?_eq_getElem h2]at this;simpa using this
theorem ou{α γ:Type}(f:List γ×Int→Option ((List γ×Int)⊕List γ))(xs:List α)(g:α→γ)(z:γ)
  (h: ∀(i:Nat) (hi:i<xs.length) (out:List γ),out.length=xs.length→f (out,(i:Int))=some (.inl (out.set i (g xs[i]),((i+1:Nat):Int))))
  (e: ∀out:List γ,out.length=xs.length→f (out,(xs.length:Int))=some (.inr out)):Ht f (List.replicate xs.length z,0)=some (xs.map g):=by
 have key:=Bb f (fun i=>((xs.take i).map g++List.replicate (xs.length-i) z,(i:Int))) xs.length (xs.map g) ?_ ?_
 ·simpa using key
 ·intro i hi;have:=h i hi ((xs.take i).map g++List.replicate (xs.length-i) z) (by simp;omega)
  rw [this];have e1:xs.length-i=(xs.length-(i+1))+1:=by omega
  have e2:i-((xs.take i).map g).length=0:=by simp;omega
  rw [e1,List.replicate_succ,List.set_append_right _ _ (by simp;omega),e2,List.set_cons_zero,List.take_succ_eq_append_getElem hi,List.map_append,List.append_assoc];rfl
 ·simp only [List.take_length,Nat.sub_self,List.replicate_zero,List.append_nil];exact e _ (by simp)
theorem Je(i:Nat)(h:i<4611686018427387904):IntKind.i64.wrap ((i:Int)+1)=((i+1:Nat):Int):=by
 rw [Ir _ (by omega)];rfl
theorem Av{α:Type}[Inhabited α](xs:List α)(i:Nat)(h:i<xs.length):xs.getD i default=xs[i]:=by
 rw [List.getD_eq_getElem?_getD,List.getElem?_eq_getElem h];rfl
theorem JO{α:Type}[Inhabited α](xs:List α)(i:Nat)(h:i<xs.length):xs.getD (i:Int).toNat default=xs[i]:=by
 rw [Int.toNat_natCast];exact Av xs i h
theorem BM{α:Type}{c:Prop}[Decidable c]{o:Option α}(h:c):ck c o=o:=if_pos h
theorem BZ{i n:Nat}(h:i<n):(i:Int)<(n:Int):=by omega
theorem Aq(n:Nat): ¬(n:Int)<(n:Int):=by omega
theorem FV{i n:Nat}(h:i<n):0≤(i:Int)∧(i:Int).toNat<n:=by omega
theorem LH{α:Type}[Inhabited α](a b:List α)(i:Nat)(h:i=a.length)(hb:0<b.length):(a++b).getD i default=b[0]:=by
 subst h;rw [List.getD_eq_getElem?_getD,List.getElem?_append_right (Nat.le_refl _),Nat.sub_self,List.getElem?_eq_getElem hb];rfl
end Dv
namespace Dv
open Go
def XA(x:Int×Int):List D:=[D.int .i64 x.1,D.int .i64 x.2]
def oz(xs:List (Int×Int)):Prop:=xs.length≤maxLen∧ ∀x∈xs,sJ x.1∧sJ x.2
def gD(xss:List (List (Int×Int))):Prop:=xss.length≤maxLen∧ ∀xs∈xss,oz xs
section
variable {T:Tys} {t e a:TypeId} {d:D}
theorem uk{ds:List D}(he:T.ty e= .struct [a,a])(ha:T.ty a= .int .i64)(h:Shp T e ds): ∃x:Int×Int,ds=XA x∧sJ x.1∧sJ x.2:=by
 obtain⟨hl,hx⟩:=X0 he h;rcases ds with _ | ⟨d0,_ | ⟨d1,_ | ⟨_,_⟩⟩⟩<;>simp at hl
 obtain⟨p,h0,hl0⟩:=fC ha (hx 0 a d0 rfl rfl);obtain⟨q,h1,hl1⟩:=fC ha (hx 1 a d1 rfl rfl);simp only [List.cons.injEq,and_true]at h0 h1;subst h0 h1
 exact⟨(p,q),rfl,hl0,hl1⟩
theorem p8{ds:List D}(ht:T.ty t= .slice e)(he:T.ty e= .struct [a,a])(ha:T.ty a= .int .i64)(h:Shp T t ds): ∃xs,ds=[.sl e (SX XA xs)]∧oz xs:=by
 obtain⟨xss,rfl,hx,hl⟩:=UL ht h
 have: ∀xss:List (List D),(∀xs,xs∈xss→Shp T e xs)→ ∃ys,xss.flatten=SX XA ys∧ys.length=xss.length∧ ∀y∈ys,sJ y.1∧sJ y.2:=by
  intro xss
  induction xss with
  | nil=>intro _;exact⟨[],rfl,rfl,by simp⟩
  | cons xs xss ih=>
   intro hx;obtain⟨n,rfl,hn⟩:=uk he ha (hx xs (List.mem_cons_self));obtain⟨ys,h1,h2,h3⟩:=ih (fun q hq=>hx q (List.mem_cons_of_mem _ hq))
   refine⟨n::ys,by rw [List.flatten_cons,h1];rfl,by simp [h2],fun y hy=> ?_⟩
   rcases List.mem_cons.1 hy with rfl | hy
   ·exact hn
   ·exact h3 y hy
 obtain⟨ys,h1,h2,h3⟩:=this xss hx
 exact⟨ys,by rw [h1],by omega,h3⟩
theorem kY{e2:TypeId}{ds:List D}(ht:T.ty t= .slice e)(he:T.ty e= .slice e2)(he2:T.ty e2= .struct [a,a])(ha:T.ty a= .int .i64)(h:Shp T t ds): ∃xss,ds=[.sl e (AQ (fun x=> .sl e2 (SX XA x)) xss)]∧gD xss:=by
 obtain⟨xss,rfl,hx,hl⟩:=UL ht h
 have: ∀xss:List (List D),(∀xs,xs∈xss→Shp T e xs)→ ∃ys,xss.flatten=AQ (fun x=> .sl e2 (SX XA x)) ys∧ys.length=xss.length∧ ∀y∈ys,oz y:=by
  intro xss
  induction xss with
  | nil=>intro _;exact⟨[],rfl,rfl,by simp⟩
  | cons xs xss ih=>
   intro hx;obtain⟨n,rfl,hn⟩:=p8 he he2 ha (hx xs (List.mem_cons_self));obtain⟨ys,h1,h2,h3⟩:=ih (fun q hq=>hx q (List.mem_cons_of_mem _ hq))
   refine⟨n::ys,by rw [List.flatten_cons,h1];rfl,by simp [h2],fun y hy=> ?_⟩
   rcases List.mem_cons.1 hy with rfl | hy
   ·exact hn
   ·exact h3 y hy
 obtain⟨ys,h1,h2,h3⟩:=this xss hx
 exact⟨ys,by rw [h1],by omega,h3⟩
theorem gF{b c e2:TypeId}(ht:T.ty t= .struct [b,c,c])(hb:T.ty b= .slice e)(he:T.ty e= .slice e2)(he2:T.ty e2= .struct [a,a])(ha:T.ty a= .int .i64)(hc:T.ty c= .slice a)(h:Arg T t d):
  ∃es is js,d= .agg [.sl e (AQ (fun x=> .sl e2 (SX XA x)) es),.sl a (Ca is),.sl a (Ca js)]∧gD es∧A34 is∧A34 js:=by
 obtain⟨ds,rfl,hl,hx⟩:=kR ht h;rcases ds with _ | ⟨d0,_ | ⟨d1,_ | ⟨d2,_ | ⟨_,_⟩⟩⟩⟩<;>simp at hl
 obtain⟨es,h0,hl0⟩:=kY hb he he2 ha (hx 0 b d0 rfl rfl);obtain⟨is,h1,hl1⟩:=iZ hc ha (hx 1 c d1 rfl rfl);obtain⟨js,h2,hl2⟩:=iZ hc ha (hx 2 c d2 rfl rfl);simp only [List.cons.injEq,and_true]at h0 h1 h2;subst h0 h1 h2
 exact⟨es,is,js,rfl,hl0,hl1,hl2⟩
end
end Dv
