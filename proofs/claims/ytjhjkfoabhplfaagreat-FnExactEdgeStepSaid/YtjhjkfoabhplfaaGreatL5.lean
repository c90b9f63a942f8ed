/- Value semantics for Go code, part 5: typed lists, loops as functions. Conditions: none beyond those in each lemma. -/
import Derived.Test.YtjhjkfoabhplfaaGreatL4
set_option linter.unusedSimpArgs false
set_option linter.unusedVariables false
namespace Dv
open Go
set_option maxRecDepth 10000
def ck{α:Type}(c:Prop)[Decidable c](o:Option α):Option α:=if c then o else none
section
variable {σ ρ:Type}
def iT(f:σ→Option (σ⊕ρ)):Nat→σ→Option ρ
 | 0,_=>none
 | n+1,s=>
  match f s with
  | none=>none
  | some (.inl s')=>iT f n s'
  | some (.inr r)=>some r
open Classical in
noncomputable def Gb(f:σ→Option (σ⊕ρ))(s:σ):Option ρ:=if h: ∃r n,iT f n s=some r then some h.choose else none
theorem d9{f:σ→Option (σ⊕ρ)}: ∀ {n m:Nat} {s:σ} {r:ρ},n≤m→iT f n s=some r→iT f m s=some r:=by
 intro n
 induction n with
 | zero=>intro m s r _ h;simp [iT]at h
 | succ n ih=>
  intro m s r hm h
  cases m with
  | zero=>omega
  | succ m=>
   simp only [iT]at h ⊢
   cases hs:f s with
   | none=>simp [hs]at h
   | some q=>
    cases q with
    | inl s'=>simp only [hs]at h ⊢;exact ih (by omega) h
    | inr r'=>simp only [hs]at h ⊢;exact h
theorem Yc{f:σ→Option (σ⊕ρ)}{n:Nat}{s:σ}{r:ρ}(h:iT f n s=some r):Gb f s=some r:=by
 unfold Gb;have hx: ∃r n,iT f n s=some r:=⟨r,n,h⟩;rw [dif_pos hx];obtain⟨n',h'⟩:=hx.choose_spec;have h1:=d9 (Nat.le_max_left n n') h;have h2:=d9 (Nat.le_max_right n n') h';rw [h1]at h2;exact h2.symm
theorem VC{f:σ→Option (σ⊕ρ)}{s:σ}{r:ρ}(h:Gb f s=some r): ∃n,iT f n s=some r:=by
 unfold Gb at h
 split at h
 ·rename_i hx
  simp only [Option.some.injEq]at h;subst h;exact hx.choose_spec
 ·cases h
theorem KC{f:σ→Option (σ⊕ρ)}{s s':σ}(h:f s=some (.inl s')):Gb f s=Gb f s':=by
 cases hi:Gb f s' with
 | some r=>
  obtain⟨n,hn⟩:=VC hi;exact Yc (n:=n+1) (by simp only [iT,h];exact hn)
 | none=>
  cases hj:Gb f s with
  | none=>rfl
  | some r=>
   obtain⟨n,hn⟩:=VC hj
   cases n with
   | zero=>simp [iT]at hn
   | succ n=>
    simp only [iT,h]at hn;rw [Yc hn]at hi;cases hi
theorem Ep{f:σ→Option (σ⊕ρ)}{s:σ}{r:ρ}(h:f s=some (.inr r)):Gb f s=some r:=Yc (n:=1) (by simp [iT,h])
end
def kI{σ ρ:Type}(M:σ→St→Prop)(X:ρ→Ex→St→Prop):σ⊕ρ→Ex→St→Prop
 | .inl v,.normal,s=>M v s
 | .inl _,_,_=>False
 | .inr _,.normal,_=>False
 | .inr r,ex,s=>X r ex s
theorem FD{σ ρ:Type}(M:σ→St→Prop)(X:ρ→Ex→St→Prop)(v:σ)(s:St):kI M X (.inl v) .normal s=M v s:=nr rfl
theorem JH{σ ρ:Type}(M:σ→St→Prop)(X:ρ→Ex→St→Prop)(r:ρ)(j:Nat)(s:St):kI M X (.inr r) (.exit j) s=X r (.exit j) s:=nr rfl
theorem Pz{σ ρ:Type}(M:σ→St→Prop)(X:ρ→Ex→St→Prop)(r:ρ)(s:St):kI M X (.inr r) .ret s=X r .ret s:=nr rfl
theorem BA{E:Env}{c:SC}{σ ρ:Type}(f:σ→Option (σ⊕ρ))(M:σ→St→Prop)(X:ρ→Ex→St→Prop)
  (hstep: ∀v s o,M v s→f v=some o→Bf E c (kI M X o) s){v:σ}{s:St}{r:ρ}(h:Gb f v=some r)(hM:M v s):Bf E (.loop c) (X r) s:=by
 obtain⟨n,hn⟩:=VC h
 induction n generalizing v s with
 | zero=>simp [iT]at hn
 | succ n ih=>
  simp only [iT]at hn
  cases hf:f v with
  | none=>simp [hf]at hn
  | some o=>
   obtain⟨ex,s1,h1,h2⟩:=hstep v s o hM hf
   cases o with
   | inl v'=>
    simp only [hf]at hn
    cases ex with
    | normal=>
     obtain⟨ex',s2,h3,h4⟩:=ih (Yc hn) h2 hn
     refine⟨ex',s2, ?_,h4⟩
     simp only [Dr]at h3 ⊢;rw [YX,h1];exact h3
    | exit id=>exact h2.elim
    | ret=>exact h2.elim
   | inr r'=>
    simp only [hf,Option.some.injEq]at hn;subst hn
    cases ex with
    | normal=>exact h2.elim
    | exit id=>exact⟨_,s1,by simp only [Dr];rw [YX,h1],h2⟩
    | ret=>exact⟨_,s1,by simp only [Dr];rw [YX,h1],h2⟩
def AB{α:Type}(c:α→D)(xs:List α):List D:=xs.map c
def Xf{α:Type}(c:α→List D)(xs:List α):List D:=xs.flatMap c
section
variable {α:Type} (c:α→D)
theorem Qr:AB c []=[]:=nr rfl
theorem Hq(x:α)(xs:List α):AB c (x::xs)=c x::AB c xs:=nr rfl
theorem CF(xs:List α):(AB c xs).length=xs.length:=by simp [AB]
theorem dA[Inhabited α](xs:List α)(i:Nat)(h:i<xs.length):(AB c xs).getD i .undef=c (xs.getD i default):=by
 simp [AB,List.getD_eq_getElem?_getD,h]
theorem A2h[Inhabited α](xs:List α)(i:Nat)(h:i<xs.length):(AB c xs)[i]? =some (c (xs.getD i default)):=by
 simp [AB,List.getD_eq_getElem?_getD,h]
theorem kJ(xs:List α)(i:Nat)(y:α):(AB c xs).set i (c y)=AB c (xs.set i y):=by simp [AB]
theorem iU(xs ys:List α):AB c xs++AB c ys=AB c (xs++ys):=by simp [AB]
theorem qo(xs:List α)(n:Nat):(AB c xs).take n=AB c (xs.take n):=by simp [AB]
theorem qp(xs:List α)(n:Nat):(AB c xs).drop n=AB c (xs.drop n):=by simp [AB]
theorem VD(xs:List α)(h: ∀x,(c x).hasObj=false):AP (AB c xs)=false:=by
 induction xs with
 | nil=>rfl
 | cons x xs ih=>simp only [Hq,AP,h,ih];rfl
theorem xD(xs:List α)(h: ∀x,D8 (c x)=some (c x)):CW (AB c xs)=some (AB c xs):=by
 induction xs with
 | nil=>rfl
 | cons x xs ih=>simp only [Hq,CW,h,ih];rfl
theorem dB(c:α→List D)(c':α→List D)(e:TypeId)(xs:List α)(h: ∀x,CW (c x)=some (c' x)):CW (AB (fun x=>D.own e (c x)) xs)=some (AB (fun x=>D.sl e (c' x)) xs):=by
 induction xs with
 | nil=>rfl
 | cons x xs ih=>simp only [Hq,CW,D8,h,ih];rfl
theorem mQ(xs:List α)(h: ∀x,Ce (c x)=false):Cf (AB c xs)=false:=by
 induction xs with
 | nil=>rfl
 | cons x xs ih=>simp only [Hq,Cf,h,ih];rfl
theorem Xg(xs:List α)(h: ∀x,Bh (c x)=true):(AB c xs).all Bh=true:=by simp [AB,h]
end
theorem qw(xs:List Int):CE xs=AB (D.int .i64) xs:=nr rfl
theorem xE(e:TypeId)(l:List (List Int)):VA e l=AB (fun x=> .sl e (AB (D.int .i64) x)) l:=nr rfl
theorem qx(e:TypeId)(l:List (List Int)):O0 e l=AB (fun x=> .own e (AB (D.int .i64) x)) l:=nr rfl
section
variable {α:Type} (c:α→List D) (n:Nat)
theorem UE:Xf c []=[]:=nr rfl
theorem Kb(x:α)(xs:List α):Xf c (x::xs)=c x++Xf c xs:=nr rfl
theorem Lj(xs ys:List α):Xf c xs++Xf c ys=Xf c (xs++ys):=by simp [Xf]
theorem VE(h: ∀x,(c x).length=n)(xs:List α):(Xf c xs).length=xs.length*n:=by
 induction xs with
 | nil=>simp [UE]
 | cons x xs ih=>simp only [Kb,List.length_append,h,ih,List.length_cons,Nat.succ_mul];omega
theorem dC(h: ∀x,(c x).length=n)(xs:List α): ∀(i:Nat),(Xf c xs).drop (i*n)=Xf c (xs.drop i):=by
 induction xs with
 | nil=>intro i;simp [UE]
 | cons x xs ih=>
  intro i
  cases i with
  | zero=>simp
  | succ i=>
   rw [Kb,List.drop_append,List.drop_succ_cons,←ih i,h,Nat.succ_mul];have e1:(c x).drop (i*n+n)=[]:=List.drop_eq_nil_of_le (by rw [h];omega)
   rw [e1,Nat.add_sub_cancel];rfl
theorem qy(h: ∀x,(c x).length=n)(xs:List α): ∀(i:Nat),(Xf c xs).take (i*n)=Xf c (xs.take i):=by
 induction xs with
 | nil=>intro i;simp [UE]
 | cons x xs ih=>
  intro i
  cases i with
  | zero=>simp [UE]
  | succ i=>
   rw [Kb,List.take_append,List.take_succ_cons,Kb,←ih i,h,Nat.succ_mul,Nat.add_sub_cancel];rw [List.take_of_length_le (by rw [h];omega)]
theorem Q3(xs:List α)(h: ∀x,AP (c x)=false):AP (Xf c xs)=false:=by
 have app: ∀(as bs:List D),AP (as++bs)=(AP as||AP bs):=by
  intro as bs
  induction as with
  | nil=>simp [AP]
  | cons a as ih=>simp [AP,ih,Bool.or_assoc]
 induction xs with
 | nil=>rfl
 | cons x xs ih=>rw [Kb,app,h,ih];rfl
theorem dD: ∀(as bs as' bs':List D),CW as=some as'→CW bs=some bs'→CW (as++bs)=some (as'++bs'):=by
 intro as
 induction as with
 | nil=>intro bs as' bs' h1 h2;simp [CW]at h1;subst h1;simpa using h2
 | cons a as ih=>
  intro bs as' bs' h1 h2;simp only [CW,Option.bind_eq_some_iff,Option.map_eq_some_iff]at h1;obtain⟨a',ha,as1,has,rfl⟩:=h1;simp only [List.cons_append,CW,ha,ih _ _ _ has h2];rfl
theorem Yd(xs:List α)(h: ∀x,CW (c x)=some (c x)):CW (Xf c xs)=some (Xf c xs):=by
 induction xs with
 | nil=>rfl
 | cons x xs ih=>rw [Kb];exact dD _ _ _ _ (h x) ih
theorem Wn(as bs:List D):Cf (as++bs)=(Cf as||Cf bs):=by
 induction as with
 | nil=>simp [Cf]
 | cons a as ih=>simp [Cf,ih,Bool.or_assoc]
theorem SA(xs:List α)(h: ∀x,Cf (c x)=false):Cf (Xf c xs)=false:=by
 induction xs with
 | nil=>rfl
 | cons x xs ih=>rw [Kb,Wn,h,ih];rfl
theorem SB(xs:List α)(h: ∀x,(c x).all Bh=true):(Xf c xs).all Bh=true:=by
 induction xs with
 | nil=>rfl
 | cons x xs ih=>rw [Kb,List.all_append,h,ih];rfl
end
def iV{α:Type}:List α→Nat→List α→List α
 | xs,_,[]=>xs
 | xs,c,y::ys=>iV (xs.set c y) (c+1) ys
theorem VF{α:Type}(c:α→D): ∀(ys xs:List α) (n:Nat),Bo (AB c xs) n (AB c ys)=AB c (iV xs n ys):=by
 intro ys
 induction ys with
 | nil=>intro xs n;cases xs<;>rfl
 | cons y ys ih=>
  intro xs n
  have h1:Bo (AB c xs) n (AB c (y::ys))=Bo ((AB c xs).set n (c y)) (n+1) (AB c ys):=by
   rw [Hq];cases AB c xs<;>rfl
  rw [h1,kJ,ih];rfl
theorem qz{α:Type}: ∀(ys xs:List α) (n:Nat),n+ys.length≤xs.length→iV xs n ys=xs.take n++(ys++xs.drop (n+ys.length)):=by
 intro ys
 induction ys with
 | nil=>intro xs n _;simp [iV]
 | cons y ys ih=>
  intro xs n h;simp only [List.length_cons]at h;unfold iV;rw [ih (xs.set n y) (n+1) (by simp;omega)]
  have h1:(xs.set n y).take (n+1)=xs.take n++[y]:=by
   rw [List.take_succ_eq_append_getElem (by simp;omega),List.getElem_set_self,List.take_set_of_le (Nat.le_refl _)]
  rw [h1,List.drop_set_of_lt (by omega),List.length_cons,show n+1+ys.length=n+(ys.length+1) by omega,List.append_assoc];rfl
theorem AU{α β:Type}{o:Option α}{f:α→Option β}{r:β}(h:o.bind f=some r): ∃a,o=some a∧f a=some r:=by
 cases o with
 | none=>cases h
 | some a=>exact⟨a,rfl,h⟩
theorem Av{α:Type}{c:Prop}[Decidable c]{o:Option α}{r:α}(h:ck c o=some r):c∧o=some r:=by
 unfold ck at h
 split at h
 ·rename_i hc;exact⟨hc,h⟩
 ·cases h
section
variable {α:Type} (c:α→D)
theorem mR(x:α)(xs:List α):c x::AB c xs=AB c (x::xs):=nr rfl
theorem mU(xs:List α)(y:α)(ds:List D):AB c xs++(c y::ds)=AB c (xs++[y])++ds:=by simp [AB]
theorem dE(c:α→List D)(e:TypeId)(xs:List α)(h: ∀x,CW (c x)=some (c x)):CW (AB (fun x=>D.own e (c x)) xs)=some (AB (fun x=>D.sl e (c x)) xs):=dB c c e xs h
theorem rA{β:Type}(b:β→List D)(e e':TypeId)(f:α→List β)(xs:List α)(h: ∀x,CW (b x)=some (b x)):CW (AB (fun x=>D.own e (AB (fun y=>D.own e' (b y)) (f x))) xs)=some (AB (fun x=>D.sl e (AB (fun y=>D.sl e' (b y)) (f x))) xs):=
 dB (fun x=>AB (fun y=>D.own e' (b y)) (f x)) (fun x=>AB (fun y=>D.sl e' (b y)) (f x)) e xs (fun x=>dE b e' (f x) h)
def NJ(c:α→D):Option α→D
 | some a=>c a
 | none=> .undef
theorem dF[Inhabited α](o:Option α)(h:o.isSome=true):NJ c o=c (o.getD default):=by cases o with | none=>cases h | some _=>rfl
theorem Ye(xs:List α):AB (NJ c) (xs.map some)=AB c xs:=by simp [AB,Function.comp_def,NJ]
theorem VH(xs:List (Option α))(n:Nat):(AB (NJ c) xs).set n .undef=AB (NJ c) (xs.set n none):=by simp [AB,List.map_set,NJ]
theorem rC(xs:List (Option α))(n:Nat)(y:α):(AB (NJ c) xs).set n (c y)=AB (NJ c) (xs.set n (some y)):=by simp [AB,List.map_set,NJ]
theorem xF(e:TypeId)(k:IntKind)(x y:List Int)(i:Nat)(h:i<2):([D.sl e (AB (D.int k) x),D.sl e (AB (D.int k) y)]:List D)[i]? =some (D.sl e (AB (D.int k) ([x,y].getD i default))):=by
 rcases i with _ | _ | i
 ·rfl
 ·rfl
 ·omega
theorem xG(xs:List α)(n:Nat):((xs.map some).set n none).length=xs.length:=by simp
theorem rD(xs:List α):(xs.map some).length=xs.length:=by simp
theorem dG(xs:List α)(n:Nat):(AB c xs).set n .undef=AB (NJ c) ((xs.map some).set n none):=by rw [←VH,Ye]
theorem xH(xs:List (Option α))(n:Nat):AB (NJ (NJ c)) ((xs.map some).set n none)=AB (NJ c) (xs.set n none):=by rw [←dG,VH]
theorem rE(xs:List α)(n:Nat)(y:α):(xs.map some).set n (some y)=(xs.set n y).map some:=List.map_set.symm
theorem rF(xs:List (Option α))(n:Nat)(a b:Option α):(xs.set n a).set n b=xs.set n b:=List.set_set ..
theorem iW(ys:List α)(xs:List (Option α))(n:Nat):Bo (AB (NJ c) xs) n (AB c ys)=AB (NJ c) (iV xs n (ys.map some)):=by
 rw [←Ye c ys,VF]
theorem kK[Inhabited α]: ∀(xs:List (Option α)),(xs.all Option.isSome)=true→AB (NJ c) xs=AB c (xs.map fun o=>o.getD default)
 | [],_=>rfl
 | x::xs,h=>by
  simp only [List.all_cons,Bool.and_eq_true]at h;show NJ c x::AB (NJ c) xs=_
  rw [dF c x h.1,kK xs h.2];rfl
theorem xI(n:Nat)(k:IntKind)(x:Int):List.replicate n (D.int k x)=AB (D.int k) (List.replicate n x):=by simp [AB]
theorem A2i(n:Nat)(e:TypeId):List.replicate n (D.sl e [])=AB (fun x=>D.sl e (AB (D.int .i64) x)) (List.replicate n []):=by simp [AB]
theorem xJ(n:Nat)(e:TypeId):List.replicate n (D.own e [])=AB (fun x=>D.own e (AB (D.int .i64) x)) (List.replicate n []):=by simp [AB]
theorem rG(n:Nat)(x:Bool):List.replicate n (D.bool x)=AB D.bool (List.replicate n x):=by simp [AB]
variable [Inhabited α] {T:Tys}
theorem AHT(e:TypeId)(n:Int)(xs:List α)(hk:T.known e=true)(hz:T.size e=1)(hn:0≤n∧n.toNat<xs.length):Xc T e n (some (e,AB c xs,none))=some (.cptr [c (xs.getD n.toNat default)]):=by
 rw [A1Y e n (AB c xs) hk hz (by simpa [AB] using hn),dA c xs _ hn.2]
end
theorem A91{α:Type}(c:α→D){T:Tys}(e:TypeId)(n:Int)(xs:List α)(L:A9)(a b:Nat)(hk:T.known e=true)(hz:T.size e=1)(hn:0≤n∧n.toNat<xs.length):Xc T e n (some (e,AB c xs,some (L,a,b)))=some (.pe L n.toNat a b):=
 wX e n (AB c xs) L a b hk hz (by simpa [AB] using hn)
theorem AHU:(true==false)=false:=nr rfl
theorem AHV:(false==true)=false:=nr rfl
theorem AHW:(true==true)=true:=nr rfl
theorem AHX:(false==false)=true:=nr rfl
theorem A92:((0:Nat):Int)=0:=nr rfl
theorem A93:((1:Nat):Int)=1:=nr rfl
theorem A94(n:Nat):((OfNat.ofNat n:Nat):Int)=OfNat.ofNat n:=nr rfl
theorem AHY{s:St}(dst:Option Tmp)(u:Tmp)(i:Nat)(L:A9)(n m:Nat):WS s dst u i (some (.vw L n m))=some (s.putO dst (.vw L n m)):=by simp [WS,Bc,Dn,D.hasObj,Ic]
theorem dH{α:Type}(c:α→D)(xs:List α):(AB c xs).isEmpty=xs.isEmpty:=by cases xs<;>rfl
theorem yM{α:Type}(c:α→D)(e:TypeId)(xs:List α):Ce (.sl e (AB c xs))= !xs.isEmpty:=by simp only [Ce,dH]
theorem A95(e:TypeId):Ce (.sl e [])=false:=nr rfl
theorem A96(e:TypeId)(x:D)(xs:List D):Ce (.sl e (x::xs))=true:=nr rfl
theorem iX{α β:Type}(c:β→D)(f:α→List β)(e:TypeId)(xs:List α):Cf (AB (fun x=>D.sl e (AB c (f x))) xs)=xs.any fun x=> !(f x).isEmpty:=by
 induction xs with
 | nil=>rfl
 | cons x xs ih=>simp only [Hq,Cf,yM,ih,List.any_cons]
theorem dI{α:Type}(c:α→List D)(e:TypeId)(xs:List α):AP (AB (fun x=>D.own e (c x)) xs)= !xs.isEmpty:=by
 cases xs with
 | nil=>rfl
 | cons x xs=>simp [Hq,AP,D.hasObj]
section
variable {pm:Pm} {s:St} {dst:Option Tmp}
theorem AHZ(ls:List (A9×D))(r:D)(o:List D)(h:Ce r=true):cb2 pm s dst ls (some (r,o))=if(E9 (ls.map (·.1))&&ls.all (fun l=>pm.wr (l.1.headD 0)))=true then(Ia ls).map fun ls'=>(back false s ls').putO dst r else none:=by
 simp [cb2,h]
theorem faN:Ia []=some []:=nr rfl
def fac(L:A9)(o:Option (List (A9×D))):Option D→Option (List (A9×D))
 | some c=>o.map ((L,c):: ·)
 | none=>none
theorem faC(L:A9)(c:D)(rest:List (A9×D)):Ia ((L,c)::rest)=fac L (Ia rest) (D8 c):=by
 simp only [Ia];cases D8 c<;>rfl
theorem AHa(L:A9)(ls:List (A9×D))(c:D):fac L (some ls) (some c)=some ((L,c)::ls):=nr rfl
end
def Wo(xs:List (Int×Int))(n:Nat):Int:=(xs.getD n default).1
def dJ(xs:List (Int×Int))(n:Nat):Int:=(xs.getD n default).2
def EB(k l:IntKind)(xs:List (Int×Int)):List D:=Xf (fun x=>[D.int k x.1,D.int l x.2]) xs
theorem Aa(k l:IntKind):EB k l []=[]:=nr rfl
theorem LV(k l:IntKind)(x:Int×Int)(xs:List (Int×Int)):EB k l (x::xs)=D.int k x.1::D.int l x.2::EB k l xs:=nr rfl
theorem MM(k l:IntKind)(xs:List (Int×Int)):(EB k l xs).length=xs.length*2:=VE _ 2 (fun _=>rfl) xs
theorem Qs(k l:IntKind)(xs:List (Int×Int)): ∀(n:Nat),n<xs.length→(EB k l xs)[n*2]? =some (D.int k (Wo xs n))∧(EB k l xs)[n*2+1]? =some (D.int l (dJ xs n)):=by
 induction xs with
 | nil=>intro n h;simp at h
 | cons x xs ih=>
  intro n h
  cases n with
  | zero=>exact⟨rfl,rfl⟩
  | succ n=>
   have:=ih n (by simpa using h)
   rw [LV,Nat.succ_mul];exact this
theorem dK(k l:IntKind)(xs:List (Int×Int))(n:Nat)(h:n<xs.length):(EB k l xs)[n*2]? =some (D.int k (Wo xs n)):=(Qs k l xs n h).1
theorem mV(k l:IntKind)(xs:List (Int×Int))(n:Nat)(h:n<xs.length):(EB k l xs)[n*2+0]? =some (D.int k (Wo xs n)):=(Qs k l xs n h).1
theorem dL(k l:IntKind)(xs:List (Int×Int))(n:Nat)(h:n<xs.length):(EB k l xs)[n*2+1]? =some (D.int l (dJ xs n)):=(Qs k l xs n h).2
theorem SE(k l:IntKind)(v:Int): ∀(xs:List (Int×Int)) (n:Nat),n<xs.length→(EB k l xs).set (n*2) (D.int k v)=EB k l (xs.set n (v,dJ xs n)):=by
 intro xs
 induction xs with
 | nil=>intro n h;simp at h
 | cons x xs ih=>
  intro n h
  cases n with
  | zero=>rfl
  | succ n=>
   have:=ih n (by simpa using h)
   rw [LV,Nat.succ_mul,List.set_cons_succ,List.set_cons_succ,List.set_cons_succ,this,LV];rfl
theorem Xh(k l:IntKind)(v:Int): ∀(xs:List (Int×Int)) (n:Nat),n<xs.length→(EB k l xs).set (n*2+1) (D.int l v)=EB k l (xs.set n (Wo xs n,v)):=by
 intro xs
 induction xs with
 | nil=>intro n h;simp at h
 | cons x xs ih=>
  intro n h
  cases n with
  | zero=>rfl
  | succ n=>
   have:=ih n (by simpa using h)
   rw [LV,Nat.succ_mul,show n*2+2+1=n*2+1+1+1 by omega,List.set_cons_succ,List.set_cons_succ,List.set_cons_succ,this,LV];rfl
theorem dM(k l:IntKind)(xs ys:List (Int×Int)):EB k l xs++EB k l ys=EB k l (xs++ys):=Lj _ xs ys
theorem Xi(k l:IntKind)(xs:List (Int×Int))(a b:Int):EB k l xs++[D.int k a,D.int l b]=EB k l (xs++[(a,b)]):=Lj _ xs [(a,b)]
theorem iY(k l:IntKind)(xs:List (Int×Int))(a b:Int)(ds:List D):EB k l xs++(D.int k a::D.int l b::ds)=EB k l (xs++[(a,b)])++ds:=by
 rw [←Xi,List.append_assoc];rfl
theorem mW(k l:IntKind)(xs:List (Int×Int))(n:Nat):(EB k l xs).take (n*2)=EB k l (xs.take n):=qy _ 2 (fun _=>rfl) xs n
theorem Xj(k l:IntKind)(xs:List (Int×Int))(n:Nat):(EB k l xs).drop (n*2)=EB k l (xs.drop n):=dC _ 2 (fun _=>rfl) xs n
theorem TQ(k l:IntKind)(xs:List (Int×Int)):AP (EB k l xs)=false:=Q3 _ xs (fun _=>by simp [AP,D.hasObj])
theorem rH(k l:IntKind)(xs:List (Int×Int)):CW (EB k l xs)=some (EB k l xs):=Yd _ xs (fun _=>rfl)
theorem iZ(k l:IntKind)(xs:List (Int×Int)):Cf (EB k l xs)=false:=SA _ xs (fun _=>rfl)
theorem ib(k l:IntKind)(xs:List (Int×Int)):(EB k l xs).all Bh=true:=SB _ xs (fun _=>rfl)
theorem Yf(k l:IntKind)(xs:List (Int×Int)):(EB k l xs).isEmpty=xs.isEmpty:=by cases xs<;>rfl
theorem rJ(k l:IntKind)(n:Nat)(a b:Int):(List.replicate n [D.int k a,D.int l b]).flatten=EB k l (List.replicate n (a,b)):=by
 simp [EB,Xf,List.flatMap_def]
theorem yN(k l:IntKind)(e:TypeId)(xs:List (Int×Int)):Ce (.sl e (EB k l xs))= !xs.isEmpty:=by simp only [Ce,Yf]
theorem dN{α:Type}(k l:IntKind)(f:α→List (Int×Int))(e:TypeId)(xs:List α):Cf (AB (fun x=>D.sl e (EB k l (f x))) xs)=xs.any fun x=> !(f x).isEmpty:=by
 induction xs with
 | nil=>rfl
 | cons x xs ih=>simp only [Hq,Cf,yN,ih,List.any_cons]
def q4a(xs:List (Int×Int×Int×Int))(n:Nat):Int:=(xs.getD n default).1
def q4b(xs:List (Int×Int×Int×Int))(n:Nat):Int:=(xs.getD n default).2.1
def q4c(xs:List (Int×Int×Int×Int))(n:Nat):Int:=(xs.getD n default).2.2.1
def q4d(xs:List (Int×Int×Int×Int))(n:Nat):Int:=(xs.getD n default).2.2.2
def Ig(xs:List (Int×Int×Int×Int)):List D:=Xf (fun x=>[D.int .i64 x.1,D.int .i64 x.2.1,D.int .i64 x.2.2.1,D.int .i64 x.2.2.2]) xs
theorem Xk(x:Int×Int×Int×Int)(xs:List (Int×Int×Int×Int)):Ig (x::xs)=D.int .i64 x.1::D.int .i64 x.2.1::D.int .i64 x.2.2.1::D.int .i64 x.2.2.2::Ig xs:=nr rfl
theorem Oq(xs:List (Int×Int×Int×Int)):(Ig xs).length=xs.length*4:=VE _ 4 (fun _=>rfl) xs
theorem dO(xs ys:List (Int×Int×Int×Int)):Ig xs++Ig ys=Ig (xs++ys):=Lj _ xs ys
theorem Xl(xs:List (Int×Int×Int×Int))(a b c d:Int):Ig xs++[D.int .i64 a,D.int .i64 b,D.int .i64 c,D.int .i64 d]=Ig (xs++[(a,b,c,d)]):=Lj _ xs [(a,b,c,d)]
theorem ic(xs:List (Int×Int×Int×Int))(a b c d:Int)(ds:List D):Ig xs++(D.int .i64 a::D.int .i64 b::D.int .i64 c::D.int .i64 d::ds)=Ig (xs++[(a,b,c,d)])++ds:=by
 rw [←Xl,List.append_assoc];rfl
theorem Xm(xs:List (Int×Int×Int×Int))(n:Nat):(Ig xs).drop (n*4)=Ig (xs.drop n):=dC _ 4 (fun _=>rfl) xs n
theorem dP(xs:List (Int×Int×Int×Int)):AP (Ig xs)=false:=Q3 _ xs (fun _=>by simp [AP,D.hasObj])
theorem rM(xs:List (Int×Int×Int×Int)):CW (Ig xs)=some (Ig xs):=Yd _ xs (fun _=>rfl)
theorem ig(xs:List (Int×Int×Int×Int)):Cf (Ig xs)=false:=SA _ xs (fun _=>rfl)
theorem ik(xs:List (Int×Int×Int×Int)):(Ig xs).all Bh=true:=SB _ xs (fun _=>rfl)
theorem rO{T:Tys}(e:TypeId)(xs:List (Int×Int×Int×Int))(h:T.size e=4):T.len e (Ig xs)=xs.length:=by
 unfold Tys.len;rw [h,if_neg (by decide),Oq,Nat.mul_div_cancel _ (by decide)]
theorem AHb{T:Tys}(e:TypeId)(n:Int)(xs:List (Int×Int×Int×Int))(hk:T.known e=true)(hz:T.size e=4)(hn:0≤n∧n.toNat<xs.length):Xc T e n (some (e,Ig xs,none))=some (.cptr [D.int .i64 (q4a xs n.toNat),D.int .i64 (q4b xs n.toNat),D.int .i64 (q4c xs n.toNat),D.int .i64 (q4d xs n.toNat)]):=by
 simp only [Xc,hk,rO e xs hz];rw [if_pos ⟨trivial,trivial,hn.1,hn.2⟩,hz,Xm,List.drop_eq_getElem_cons hn.2,Xk];unfold q4a q4b q4c q4d;rw [List.getD_eq_getElem?_getD,List.getElem?_eq_getElem hn.2];rfl
section
variable {T:Tys} {pm:Pm} {s:St} {t:TypeId}
theorem rP(k l:IntKind)(e:TypeId)(xs:List (Int×Int))(h:T.size e=2):T.len e (EB k l xs)=xs.length:=by
 unfold Tys.len;rw [h,if_neg (by decide),MM,Nat.mul_div_cancel _ (by decide)]
theorem AHc(k l:IntKind)(e:TypeId)(n:Int)(xs:List (Int×Int))(hk:T.known e=true)(hz:T.size e=2)(hn:0≤n∧n.toNat<xs.length):Xc T e n (some (e,EB k l xs,none))=some (.cptr [D.int k (Wo xs n.toNat),D.int l (dJ xs n.toNat)]):=by
 simp only [Xc,hk,rP k l e xs hz];rw [if_pos ⟨trivial,trivial,hn.1,hn.2⟩,hz,Xj,List.drop_eq_getElem_cons hn.2,LV];unfold Wo dJ;rw [List.getD_eq_getElem?_getD,List.getElem?_eq_getElem hn.2];rfl
theorem AHd(k l:IntKind)(e:TypeId)(n:Int)(xs:List (Int×Int))(L:A9)(a b:Nat)(hk:T.known e=true)(hz:T.size e=2)(hn:0≤n∧n.toNat<xs.length):Xc T e n (some (e,EB k l xs,some (L,a,b)))=some (.pe L (n.toNat*2) a b):=by
 simp only [Xc,hk,rP k l e xs hz];rw [if_pos ⟨trivial,trivial,hn.1,hn.2⟩,hz]
theorem AHe(e:TypeId)(n:Int)(xs:List (Int×Int×Int×Int))(L:A9)(a b:Nat)(hk:T.known e=true)(hz:T.size e=4)(hn:0≤n∧n.toNat<xs.length):Xc T e n (some (e,Ig xs,some (L,a,b)))=some (.pe L (n.toNat*4) a b):=by
 simp only [Xc,hk,rO e xs hz];rw [if_pos ⟨trivial,trivial,hn.1,hn.2⟩,hz]
theorem Ot(xs:List (Int×Int×Int×Int))(n:Nat)(h:n<xs.length):(Ig xs)[n*4]? =some (D.int .i64 (q4a xs n))∧(Ig xs)[n*4+1]? =some (D.int .i64 (q4b xs n))∧(Ig xs)[n*4+2]? =some (D.int .i64 (q4c xs n))∧(Ig xs)[n*4+3]? =some (D.int .i64 (q4d xs n)):=by
 have e:=Xm xs n;rw [List.drop_eq_getElem_cons h,Xk]at e;have g: ∀i,(Ig xs)[n*4+i]? =((Ig xs).drop (n*4))[i]? :=fun i=>by rw [List.getElem?_drop]
 have q:xs.getD n default=xs[n]:=by rw [List.getD_eq_getElem?_getD,List.getElem?_eq_getElem h];rfl
 unfold q4a q4b q4c q4d;rw [q]
 refine⟨?_, ?_, ?_, ?_⟩
 ·have:=g 0;rw [e]at this;exact this
 ·rw [g 1,e];rfl
 ·rw [g 2,e];rfl
 ·rw [g 3,e];rfl
theorem AHf{n m:Nat}(h:n<m):n*4+4≤m*4:=by omega
theorem il(xs:List (Int×Int×Int×Int))(n:Nat)(d:D)(h:n<xs.length):(Ig xs).getD (n*4) d=D.int .i64 (q4a xs n):=by rw [List.getD_eq_getElem?_getD,(Ot xs n h).1];rfl
theorem iq(xs:List (Int×Int×Int×Int))(n:Nat)(d:D)(h:n<xs.length):(Ig xs).getD (n*4+1) d=D.int .i64 (q4b xs n):=by rw [List.getD_eq_getElem?_getD,(Ot xs n h).2.1];rfl
theorem iw(xs:List (Int×Int×Int×Int))(n:Nat)(d:D)(h:n<xs.length):(Ig xs).getD (n*4+2) d=D.int .i64 (q4c xs n):=by rw [List.getD_eq_getElem?_getD,(Ot xs n h).2.2.1];rfl
theorem iy(xs:List (Int×Int×Int×Int))(n:Nat)(d:D)(h:n<xs.length):(Ig xs).getD (n*4+3) d=D.int .i64 (q4d xs n):=by rw [List.getD_eq_getElem?_getD,(Ot xs n h).2.2.2];rfl
theorem cs4(L:A9)(e:TypeId)(n:Nat)(xs:List (Int×Int×Int×Int))(h:n<xs.length):cellsOf s L (n*4) 4 (some (.own e (Ig xs)))=some (.agg [D.int .i64 (q4a xs n),D.int .i64 (q4b xs n),D.int .i64 (q4c xs n),D.int .i64 (q4d xs n)]):=by
 obtain⟨h0,h1,h2,h3⟩:=Ot xs n h
 show(if n*4+4≤(Ig xs).length then Bc (.agg ((List.range 4).map fun i=>Dn s L (n*4+i) ((Ig xs).getD (n*4+i) .undef)))else none)=_
 rw [if_pos (by rw [Oq];omega),rg4,Nat.add_zero,List.getD_eq_getElem?_getD,List.getD_eq_getElem?_getD,List.getD_eq_getElem?_getD,List.getD_eq_getElem?_getD,h0,h1,h2,h3];rfl
theorem cs2(k l:IntKind)(L:A9)(e:TypeId)(n:Nat)(xs:List (Int×Int))(h:n<xs.length):cellsOf s L (n*2) 2 (some (.own e (EB k l xs)))=some (.agg [D.int k (Wo xs n),D.int l (dJ xs n)]):=by
 obtain⟨h0,h1⟩:=Qs k l xs n h
 show(if n*2+2≤(EB k l xs).length then Bc (.agg ((List.range 2).map fun i=>Dn s L (n*2+i) ((EB k l xs).getD (n*2+i) .undef)))else none)=_
 rw [if_pos (by rw [MM];omega),rg2,Nat.add_zero,List.getD_eq_getElem?_getD,List.getD_eq_getElem?_getD,h0,h1];rfl
def sq1(T:Tys)(pm:Pm)(t:TypeId)(u:Tmp)(a b:D)(s:St):Option D→Nat→A9→Option St
 | some (.own e xs),c,L=>if T.known t&&T.isStruct t&&pm.wr (L.headD 0)&&Bh a&&Bh b&&(T.size t==2)&&decide (c+2≤xs.length)&& !a.hasObj&& !b.hasObj&& !AP xs then some (s.set L (.own e ((xs.set c a).set (c+1) b)))else Xd T pm t (.tmp u) (some (.agg [a,b],s))
 | _,_,_=>Xd T pm t (.tmp u) (some (.agg [a,b],s))
theorem AHg(u:Tmp)(a b:D)(L:A9)(c n m:Nat)(h:s.v u= .pe L c n m):Xd T pm t (.tmp u) (some (.agg [a,b],s))=sq1 T pm t u a b s (s.look pm L n m) c L:=by
 cases hl:s.look pm L n m with
 | none=>rfl
 | some o=>
  cases o<;>try rfl
  rename_i e xs
  simp only [sq1];split
  ·rename_i hc
   simp only [Bool.and_eq_true,beq_iff_eq,decide_eq_true_eq,Bool.not_eq_true']at hc;obtain⟨⟨⟨⟨⟨⟨⟨⟨⟨hk,hs⟩,hw⟩,ha⟩,hb⟩,hz⟩,hl2⟩,ha2⟩,hb2⟩,hx2⟩:=hc;simp only [Xd,ev,h,Gc,hl,D.asCells,D.isAgg,D.cells,D.withCells,hk,hs,hw,hz,List.all_cons,ha,hb,List.all_nil,Bool.and_self,List.length_cons,List.length_nil,beq_self_eq_true,Bool.true_and,D.hasObj,AP,ha2,hb2,hx2,Bool.or_self,Bool.false_eq_true,if_false,Bo];rw [if_pos (by simpa using hl2)]
  ·rfl
theorem AHh(u:Tmp)(a b:D)(L:A9)(c n m:Nat)(h:s.v u= .pe L c n m):sw1 T pm t u [a,b] s (.pe L c n m)=sq1 T pm t u a b s (s.look pm L n m) c L:=by
 rw [←AHg u a b L c n m h];rfl
theorem j3(k l:IntKind)(xs:List (Int×Int))(n:Nat)(a b:Int)(h:n<xs.length):((EB k l xs).set (n*2) (D.int k a)).set (n*2+1) (D.int l b)=EB k l (xs.set n (a,b)):=by
 rw [SE k l a xs n h,Xh k l b _ n (by simpa using h),List.set_set]
 congr 2
 simp [Wo,List.getD_eq_getElem?_getD,h]
theorem AHi(k l:IntKind)(u:Tmp)(a b:Int)(L:A9)(e:TypeId)(n:Nat)(xs:List (Int×Int))(hk:T.known t=true)(hs:T.isStruct t=true)(hw:pm.wr (L.headD 0)=true)(hz:T.size t=2)(h:n<xs.length):
  sq1 T pm t u (.int k a) (.int l b) s (some (.own e (EB k l xs))) (n*2) L=some (s.set L (.own e (EB k l (xs.set n (a,b))))):=by
 simp only [sq1];rw [if_pos,j3 k l xs n a b h];simp only [hk,hs,hw,hz,Bh,MM,TQ,D.hasObj,Bool.and_eq_true,decide_eq_true_eq,beq_self_eq_true,Bool.not_false,and_true,true_and];omega
end
set_option linter.defProp false
def AO:=And.intro @AHY (And.intro @VF (And.intro @dI (And.intro @yM (And.intro @A95 (And.intro @A96 (And.intro @iX (And.intro @AHZ (And.intro @faN (And.intro @faC (And.intro @AHa (And.intro @AHT (And.intro @A91 (And.intro @CF (And.intro @A2h (And.intro @dA (And.intro @kJ (And.intro @iU (And.intro @mU (And.intro @mR
 (And.intro @qo (And.intro @qp (And.intro @VD (And.intro @xD (And.intro @dE (And.intro @rA (And.intro @mQ (And.intro @Xg (And.intro @A2i (And.intro @xJ (And.intro @dF (And.intro @Ye (And.intro @xF (And.intro @xG (And.intro @rD (And.intro @dG (And.intro @rE (And.intro @rF (And.intro (And.intro @xH @VH) (And.intro @rC (And.intro @iW (And.intro @kK (And.intro @xI (And.intro @rG
 (And.intro @Lj (And.intro @Q3 (And.intro @Yd (And.intro @SA (And.intro @SB (And.intro @qw (And.intro @xE (And.intro @qx
 (And.intro @AHU (And.intro @AHV (And.intro @AHW (And.intro @AHX (And.intro @A92 (And.intro @A93 @A94)))))))))))))))))))))))))))))))))))))))))))))))))))))))))
theorem tk2(a b:D)(l:List D):List.take 2 (a::b::l)=[a,b]:=nr rfl
theorem tk3(a b c:D)(l:List D):List.take 3 (a::b::c::l)=[a,b,c]:=nr rfl
theorem tk4(a b c d:D)(l:List D):List.take 4 (a::b::c::d::l)=[a,b,c,d]:=nr rfl
theorem dr0(l:List D):List.drop 0 l=l:=nr rfl
theorem dr1(a:D)(l:List D):List.drop 1 (a::l)=l:=nr rfl
theorem dr2(a0 a1:D)(l:List D):List.drop 2 (a0::a1::l)=l:=nr rfl
theorem dr3(a0 a1 a2:D)(l:List D):List.drop 3 (a0::a1::a2::l)=l:=nr rfl
theorem dr4(a0 a1 a2 a3:D)(l:List D):List.drop 4 (a0::a1::a2::a3::l)=l:=nr rfl
theorem dr5(a0 a1 a2 a3 a4:D)(l:List D):List.drop 5 (a0::a1::a2::a3::a4::l)=l:=nr rfl
theorem dr6(a0 a1 a2 a3 a4 a5:D)(l:List D):List.drop 6 (a0::a1::a2::a3::a4::a5::l)=l:=nr rfl
theorem dr7(a0 a1 a2 a3 a4 a5 a6:D)(l:List D):List.drop 7 (a0::a1::a2::a3::a4::a5::a6::l)=l:=nr rfl
theorem dr8(a0 a1 a2 a3 a4 a5 a6 a7:D)(l:List D):List.drop 8 (a0::a1::a2::a3::a4::a5::a6::a7::l)=l:=nr rfl
theorem dr9(a0 a1 a2 a3 a4 a5 a6 a7 a8:D)(l:List D):List.drop 9 (a0::a1::a2::a3::a4::a5::a6::a7::a8::l)=l:=nr rfl
theorem AHj(a0 a1 a2 a3 a4 a5 a6 a7 a8 a9:D)(l:List D):List.drop 10 (a0::a1::a2::a3::a4::a5::a6::a7::a8::a9::l)=l:=nr rfl
theorem AHk(a0 a1 a2 a3 a4 a5 a6 a7 a8 a9 a10:D)(l:List D):List.drop 11 (a0::a1::a2::a3::a4::a5::a6::a7::a8::a9::a10::l)=l:=nr rfl
theorem A98{n m:Nat}(h:n<m):n*2<m*2:=by omega
theorem A2j{n m:Nat}(h:n<m):n*2+0<m*2:=by omega
theorem A99{n m:Nat}(h:n<m):n*2+1<m*2:=by omega
theorem A9A{n m:Nat}(h:n<m):n*2+2≤m*2:=by omega
theorem j4(k l:IntKind)(v:Int)(xs:List (Int×Int))(n:Nat)(h:n<xs.length):(EB k l xs).set (n*2+0) (D.int k v)=EB k l (xs.set n (v,dJ xs n)):=SE k l v xs n h
theorem VI(k l:IntKind)(xs:List (Int×Int))(n:Nat)(d:D)(h:n<xs.length):(EB k l xs).getD (n*2) d=D.int k (Wo xs n):=by rw [List.getD_eq_getElem?_getD,dK k l xs n h];rfl
theorem dQ(k l:IntKind)(xs:List (Int×Int))(n:Nat)(d:D)(h:n<xs.length):(EB k l xs).getD (n*2+0) d=D.int k (Wo xs n):=VI k l xs n d h
theorem j5(k l:IntKind)(xs:List (Int×Int))(n:Nat)(d:D)(h:n<xs.length):(EB k l xs).getD (n*2+1) d=D.int l (dJ xs n):=by rw [List.getD_eq_getElem?_getD,dL k l xs n h];rfl
def BM:=And.intro @AHe (And.intro @cs4 (And.intro @AHf (And.intro @il (And.intro @iq (And.intro @iw (And.intro @iy (And.intro @Nat.add_zero (And.intro @Oq (And.intro @dO (And.intro @Xl (And.intro @ic (And.intro @dP (And.intro @rM (And.intro @ig (And.intro @ik (And.intro @rO (And.intro @AHb (And.intro @MM (And.intro @dK (And.intro @mV (And.intro @dL (And.intro @dM (And.intro @Xi (And.intro @iY (And.intro @mW (And.intro @Xj (And.intro @TQ (And.intro @rH (And.intro @iZ (And.intro @ib (And.intro @rJ (And.intro @yN (And.intro @dN (And.intro @rP (And.intro @AHc (And.intro @AHd (And.intro @AHh (And.intro @tk2 (And.intro @tk3 (And.intro @tk4 (And.intro @dr0 (And.intro @dr1 (And.intro @dr2 (And.intro @dr3 (And.intro @dr4 (And.intro @dr5 (And.intro @dr6 (And.intro @dr7 (And.intro @dr8 (And.intro @dr9 (And.intro @AHj (And.intro @AHk (And.intro @A98 (And.intro @A2j (And.intro @A99 (And.intro @A9A (And.intro @SE (And.intro @j4 (And.intro @Xh (And.intro @VI (And.intro @dQ (And.intro @j5 (And.intro @List.length_set.{0} (@AHi))))))))))))))))))))))))))))))))))))))))))))))))))))))))))))))))
def AA:=And.intro @implies_true.{1} (And.intro @Option.bind_some.{0,0} (And.intro @Option.map_some.{0,0} (And.intro @Option.isSome_some.{0} (And.intro @List.contains_cons.{0} (And.intro @List.contains_nil.{0} (And.intro @List.getD_cons_zero.{0} (And.intro @List.getD_cons_succ.{0} (And.intro @List.getD_nil.{0} (And.intro @List.length_cons.{0} (And.intro @List.length_nil.{0} (And.intro @List.size_toArray.{0} (And.intro @List.toList_toArray.{0} (And.intro @List.zip_cons_cons.{0,0} (And.intro @List.zip_nil_left.{0,0} (And.intro @List.append_nil.{0} (And.intro @List.nil_append.{0} (And.intro @List.cons_append.{0} (And.intro @List.map_cons.{0,0} (And.intro @List.map_nil.{0,0} (And.intro @List.replicate_succ.{0} (And.intro @List.replicate_zero.{0} (And.intro @List.set_cons_zero.{0} (And.intro @List.set_cons_succ.{0} (And.intro @List.set_set.{0} (And.intro @List.all_cons.{0} (And.intro @List.any_cons.{0} (And.intro @List.any_nil.{0} (And.intro @List.all_nil.{0} (And.intro @List.getElem?_cons_zero.{0} (And.intro @List.getElem?_cons_succ.{0} (And.intro @List.getElem?_nil.{0} (@beq_self_eq_true.{0}))))))))))))))))))))))))))))))))
end Dv
namespace Dv
open Go
section
variable {σ ρ α β:Type}
theorem Be(f:σ→Option (σ⊕ρ))(st:Nat→σ): ∀(n:Nat) (r:ρ),(∀i,i<n→f (st i)=some (.inl (st (i+1))))→f (st n)=some (.inr r)→Gb f (st 0)=some r:=by
 intro n r h e
 have key: ∀k,k≤n→Gb f (st (n-k))=some r:=by
  intro k
  induction k with
  | zero=>intro _;exact Ep e
  | succ k ih=>
   intro hk;have h1:=h (n-(k+1)) (by omega)
   rw [KC h1,show n-(k+1)+1=n-k by omega]
   exact ih (by omega)
 have:=key n (Nat.le_refl _)
 rwa [Nat.sub_self]at this
theorem KD(f:σ→Option (σ⊕ρ))(I:Nat→σ→Prop)(Q:ρ→Prop)(step: ∀n s,I n s→(∃s' m,f s=some (.inl s')∧m<n∧I m s')∨(∃r,f s=some (.inr r)∧Q r)):
  ∀(n:Nat) (s:σ),I n s→ ∃r,Gb f s=some r∧Q r:=by
 intro n
 induction n using Nat.strongRecOn with
 | _ n ih=>
  intro s hI;rcases step n s hI with⟨s',m,h1,h2,h3⟩ | ⟨r,h1,h2⟩
  ·rw [KC h1];exact ih m h2 s' h3
  ·exact⟨r,Ep h1,h2⟩
theorem rQ(f:σ→Option (σ⊕ρ))(mk:Nat→β→σ)(P:Nat→β→Prop)(xs:List α)(g:β→α→β)(EG:β→ρ)
  (h: ∀(i:Nat) (b:β) (hi:i<xs.length),P i b→f (mk i b)=some (.inl (mk (i+1) (g b xs[i])))∧P (i+1) (g b xs[i]))
  (e: ∀b,P xs.length b→f (mk xs.length b)=some (.inr (EG b)))(b0:β)(h0:P 0 b0):Gb f (mk 0 b0)=some (EG (xs.foldl g b0))∧P xs.length (xs.foldl g b0):=by
 have key: ∀(k:Nat) (b:β),k≤xs.length→P (xs.length-k) b→Gb f (mk (xs.length-k) b)=some (EG ((xs.drop (xs.length-k)).foldl g b))∧P xs.length ((xs.drop (xs.length-k)).foldl g b):=by
  intro k
  induction k with
  | zero=>intro b _ hp;simp only [Nat.sub_zero,List.drop_length,List.foldl_nil]at hp ⊢;exact⟨Ep (e b hp),hp⟩
  | succ k ih=>
   intro b hk hp;have hl:xs.length-(k+1)<xs.length:=by omega
   obtain⟨h1,h2⟩:=h (xs.length-(k+1)) b hl hp;rw [List.drop_eq_getElem_cons hl,List.foldl_cons,KC h1];have e1:xs.length-(k+1)+1=xs.length-k:=by omega
   rw [e1]at h2 ⊢;exact ih _ (by omega) h2
 have:=key xs.length b0 (Nat.le_refl _) (by rwa [Nat.sub_self])
 rwa [Nat.sub_self,List.drop_zero]at this
end
theorem O1{n:Nat}{P:Nat→Bool}(h: ¬ ∀i,i<n→P i=true): ∃m,m<n∧P m=false∧ ∀i,i<m→P i=true:=by
 induction n with
 | zero=>exact absurd (fun i hi=>absurd hi (Nat.not_lt_zero _)) h
 | succ n ih=>
  by_cases hn: ∀i,i<n→P i=true
  ·refine⟨n,Nat.lt_succ_self _, ?_,hn⟩
   cases hp:P n with
   | false=>rfl
   | true=>exact absurd (fun i hi=>by rcases Nat.lt_succ_iff_lt_or_eq.1 hi with h1 | rfl;exact hn i h1;exact hp) h
  ·obtain⟨m,h1,h2,h3⟩:=ih hn
   exact⟨m,by omega,h2,h3⟩
theorem IB{n:Nat}{P:Nat→Bool}:(List.range n).all P=true↔ ∀i,i<n→P i=true:=by
 simp [List.all_eq_true]
theorem dR{σ ρ:Type}(f:σ→Option (σ⊕ρ))(st:Nat→σ)(n:Nat)(P:Nat→Bool)(bad good:ρ)
  (h: ∀i,i<n→(∀j,j<i→P j=true)→f (st i)=if P i=true then some (.inl (st (i+1)))else some (.inr bad))(e:(∀j,j<n→P j=true)→f (st n)=some (.inr good)):Gb f (st 0)=some (if(List.range n).all P=true then good else bad):=by
 by_cases hp: ∀i,i<n→P i=true
 ·rw [if_pos (IB.2 hp)];refine Be f st n good (fun i hi=> ?_) (e hp);rw [h i hi (fun j hj=>hp j (by omega)),if_pos (hp i hi)]
 ·rw [if_neg (fun hc=>hp (IB.1 hc))];obtain⟨m,h1,h2,h3⟩:=O1 hp;refine Be f st m bad (fun i hi=> ?_) ?_
  ·rw [h i (by omega) (fun j hj=>h3 j (by omega)),if_pos (h3 i hi)]
  ·rw [h m h1 h3,h2];rfl
theorem MN{σ ρ:Type}(f:σ→Option (σ⊕ρ))(st:Nat→σ)(n:Nat)(P:Nat→Bool)(bad good:ρ)
  (h: ∀i,i<n→f (st i)=if P i=true then some (.inl (st (i+1)))else some (.inr bad))(e:f (st n)=some (.inr good)):Gb f (st 0)=some (if(List.range n).all P=true then good else bad):=
 dR f st n P bad good (fun i hi _=>h i hi) (fun _=>e)
theorem VJ{α:Type}[Inhabited α](p:α→Bool)(xs:List α):(List.range xs.length).all (fun i=>p (xs.getD i default))=xs.all p:=by
 rw [Bool.eq_iff_iff,IB,List.all_eq_true]
 constructor
 ·intro h x hx;obtain⟨i,hi,rfl⟩:=List.getElem_of_mem hx;have:=h i hi
  rwa [List.getD_eq_getElem?_getD,List.getElem?_eq_getElem hi]at this
 ·intro h i hi;rw [List.getD_eq_getElem?_getD,List.getElem?_eq_getElem hi];exact h _ (List.getElem_mem hi)
theorem VK{α:Type}[DecidableEq α][Inhabited α](a b:List α)(hl:a.length=b.length):(List.range a.length).all (fun i=>decide (a.getD i default=b.getD i default))=decide (a=b):=by
 by_cases he:a=b
 ·subst he;simp
 ·rw [decide_eq_false he,Bool.eq_false_iff];intro hc;rw [IB]at hc;refine he (List.ext_getElem hl fun i h1 h2=> ?_);have:=hc i h1
  rw [List.getD_eq_getElem?_getD,List.getD_eq_getElem?_getD,List.getElem?_eq_getElem h1,List.getElem?_eq_getElem h2]at this;simpa using this
theorem rR{α γ:Type}(f:List γ×Int→Option ((List γ×Int)⊕List γ))(xs:List α)(g:α→γ)
  (h: ∀(i:Nat) (hi:i<xs.length) (out:List γ),out.length=i→f (out,(i:Int))=some (.inl (out++[g xs[i]],((i+1:Nat):Int))))
  (e: ∀out:List γ,out.length=xs.length→f (out,(xs.length:Int))=some (.inr out)):Gb f ([],0)=some (xs.map g):=by
 have key:=Be f (fun i=>((xs.take i).map g,(i:Int))) xs.length (xs.map g) ?_ ?_
 ·simpa using key
 ·intro i hi;have:=h i hi ((xs.take i).map g) (by simp;omega)
  rw [this,List.take_succ_eq_append_getElem hi,List.map_append];rfl
 ·simp only [List.take_length];exact e _ (by simp)
theorem JM(i:Nat)(h:i<4611686018427387904):IntKind.i64.wrap ((i:Int)+1)=((i+1:Nat):Int):=by
 rw [Ie _ (by omega)];rfl
theorem Ae{α:Type}[Inhabited α](xs:List α)(i:Nat)(h:i<xs.length):xs.getD i default=xs[i]:=by
 rw [List.getD_eq_getElem?_getD,List.getElem?_eq_getElem h];rfl
theorem JW{α:Type}[Inhabited α](xs:List α)(i:Nat)(h:i<xs.length):xs.getD (i:Int).toNat default=xs[i]:=by
 rw [Int.toNat_natCast];exact Ae xs i h
theorem Az{α:Type}{c:Prop}[Decidable c]{o:Option α}(h:c):ck c o=o:=if_pos h
theorem CJ{i n:Nat}(h:i<n):(i:Int)<(n:Int):=by omega
theorem Ak(n:Nat): ¬(n:Int)<(n:Int):=by omega
theorem FH{i n:Nat}(h:i<n):0≤(i:Int)∧(i:Int).toNat<n:=by omega
theorem DD{α:Type}[Inhabited α](a b:List α)(i:Nat)(h:i=a.length)(hb:0<b.length):(a++b).getD i default=b[0]:=by
 subst h;rw [List.getD_eq_getElem?_getD,List.getElem?_append_right (Nat.le_refl _),Nat.sub_self,List.getElem?_eq_getElem hb];rfl
end Dv
namespace Dv
open Go
section
variable {T:Tys} {t e a:TypeId} {d:D}
end
end Dv
