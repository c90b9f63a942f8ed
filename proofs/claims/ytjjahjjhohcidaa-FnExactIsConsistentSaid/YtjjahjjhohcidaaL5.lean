/- Value semantics for Go code, part 5: typed lists, loops as functions. Conditions: none beyond those in each lemma. -/
import Derived.Test.YtjjahjjhohcidaaL4
set_option linter.unusedSimpArgs false
set_option linter.unusedVariables false
namespace Dv
open Go
set_option maxRecDepth 10000
def ck{α:Type}(c:Prop)[Decidable c](o:Option α):Option α:=if c then o else none
section
variable {σ ρ:Type}
def Py(f:σ→Option (σ⊕ρ)):Nat→σ→Option ρ
 | 0,_=>none
 | n+1,s=>
  match f s with
  | none=>none
  | some (.inl s')=>Py f n s'
  | some (.inr r)=>some r
open Classical in
noncomputable def Gc(f:σ→Option (σ⊕ρ))(s:σ):Option ρ:=if h: ∃r n,Py f n s=some r then some h.choose else none
theorem OK{f:σ→Option (σ⊕ρ)}: ∀ {n m:Nat} {s:σ} {r:ρ},n≤m→Py f n s=some r→Py f m s=some r:=by
 intro n
 induction n with
 | zero=>intro m s r _ h;simp [Py]at h
 | succ n ih=>
  intro m s r hm h
  cases m with
  | zero=>omega
  | succ m=>
   simp only [Py]at h ⊢
   cases hs:f s with
   | none=>simp [hs]at h
   | some q=>
    cases q with
    | inl s'=>simp only [hs]at h ⊢;exact ih (by omega) h
    | inr r'=>simp only [hs]at h ⊢;exact h
theorem Md{f:σ→Option (σ⊕ρ)}{n:Nat}{s:σ}{r:ρ}(h:Py f n s=some r):Gc f s=some r:=by
 unfold Gc
 have hx: ∃r n,Py f n s=some r:=⟨r,n,h⟩
 rw [dif_pos hx]
 obtain⟨n',h'⟩:=hx.choose_spec
 have h1:=OK (Nat.le_max_left n n') h
 have h2:=OK (Nat.le_max_right n n') h'
 rw [h1]at h2
 exact h2.symm
theorem KH{f:σ→Option (σ⊕ρ)}{s:σ}{r:ρ}(h:Gc f s=some r): ∃n,Py f n s=some r:=by
 unfold Gc at h
 split at h
 ·rename_i hx
  simp only [Option.some.injEq]at h
  subst h
  exact hx.choose_spec
 ·cases h
theorem Qr{f:σ→Option (σ⊕ρ)}{s s':σ}(h:f s=some (.inl s')):Gc f s=Gc f s':=by
 cases hi:Gc f s' with
 | some r=>
  obtain⟨n,hn⟩:=KH hi
  exact Md (n:=n+1) (by simp only [Py,h];exact hn)
 | none=>
  cases hj:Gc f s with
  | none=>rfl
  | some r=>
   obtain⟨n,hn⟩:=KH hj
   cases n with
   | zero=>simp [Py]at hn
   | succ n=>
    simp only [Py,h]at hn
    rw [Md hn]at hi;cases hi
theorem Me{f:σ→Option (σ⊕ρ)}{s:σ}{r:ρ}(h:f s=some (.inr r)):Gc f s=some r:=Md (n:=1) (by simp [Py,h])
end
def Qs{σ ρ:Type}(M:σ→St→Prop)(X:ρ→Ex→St→Prop):σ⊕ρ→Ex→St→Prop
 | .inl v, .normal,s=>M v s
 | .inl _,_,_=>False
 | .inr _, .normal,_=>False
 | .inr r,ex,s=>X r ex s
theorem D6{σ ρ:Type}(M:σ→St→Prop)(X:ρ→Ex→St→Prop)(v:σ)(s:St):Qs M X (.inl v) .normal s=M v s:=nr rfl
theorem D7{σ ρ:Type}(M:σ→St→Prop)(X:ρ→Ex→St→Prop)(r:ρ)(j:Nat)(s:St):Qs M X (.inr r) (.exit j) s=X r (.exit j) s:=nr rfl
theorem D8{σ ρ:Type}(M:σ→St→Prop)(X:ρ→Ex→St→Prop)(r:ρ)(s:St):Qs M X (.inr r) .ret s=X r .ret s:=nr rfl
theorem CO{E:Env}{c:SC}{σ ρ:Type}(f:σ→Option (σ⊕ρ))(M:σ→St→Prop)(X:ρ→Ex→St→Prop)
  (hstep: ∀v s o,M v s→f v=some o→Bw E c (Qs M X o) s){v:σ}{s:St}{r:ρ}(h:Gc f v=some r)(hM:M v s):Bw E (.loop c) (X r) s:=by
 obtain⟨n,hn⟩:=KH h
 induction n generalizing v s with
 | zero=>simp [Py]at hn
 | succ n ih=>
  simp only [Py]at hn
  cases hf:f v with
  | none=>simp [hf]at hn
  | some o=>
   obtain⟨ex,s1,h1,h2⟩:=hstep v s o hM hf
   cases o with
   | inl v'=>
    simp only [hf]at hn
    cases ex with
    | normal=>
     obtain⟨ex',s2,h3,h4⟩:=ih (Md hn) h2 hn
     refine⟨ex',s2, ?_,h4⟩
     simp only [Bk]at h3 ⊢
     rw [MV,h1];exact h3
    | exit id=>exact h2.elim
    | ret=>exact h2.elim
   | inr r'=>
    simp only [hf,Option.some.injEq]at hn
    subst hn
    cases ex with
    | normal=>exact h2.elim
    | exit id=>exact⟨_,s1,by simp only [Bk];rw [MV,h1],h2⟩
    | ret=>exact⟨_,s1,by simp only [Bk];rw [MV,h1],h2⟩
def A8{α:Type}(c:α→D)(xs:List α):List D:=xs.map c
def J7{α:Type}(c:α→List D)(xs:List α):List D:=xs.flatMap c
section
variable {α:Type} (c:α→D)
theorem ET(x:α)(xs:List α):A8 c (x::xs)=c x::A8 c xs:=nr rfl
theorem KI(xs:List α):(A8 c xs).length=xs.length:=by simp [A8]
theorem OL[Inhabited α](xs:List α)(i:Nat)(h:i<xs.length):(A8 c xs).getD i .undef=c (xs.getD i default):=by
 simp [A8,List.getD_eq_getElem?_getD,h]
theorem bT[Inhabited α](xs:List α)(i:Nat)(h:i<xs.length):(A8 c xs)[i]? =some (c (xs.getD i default)):=by
 simp [A8,List.getD_eq_getElem?_getD,h]
theorem Qt(xs:List α)(i:Nat)(y:α):(A8 c xs).set i (c y)=A8 c (xs.set i y):=by simp [A8]
theorem Pz(xs ys:List α):A8 c xs++A8 c ys=A8 c (xs++ys):=by simp [A8]
theorem TR(xs:List α)(n:Nat):(A8 c xs).take n=A8 c (xs.take n):=by simp [A8]
theorem TS(xs:List α)(n:Nat):(A8 c xs).drop n=A8 c (xs.drop n):=by simp [A8]
theorem KJ(xs:List α)(h: ∀x,(c x).hasObj=false):AC (A8 c xs)=false:=by
 induction xs with
 | nil=>rfl
 | cons x xs ih=>simp only [ET,AC,h,ih];rfl
theorem VV(xs:List α)(h: ∀x,BX (c x)=some (c x)):B5 (A8 c xs)=some (A8 c xs):=by
 induction xs with
 | nil=>rfl
 | cons x xs ih=>simp only [ET,B5,h,ih];rfl
theorem OM(c:α→List D)(c':α→List D)(e:TypeId)(xs:List α)(h: ∀x,B5 (c x)=some (c' x)):B5 (A8 (fun x=>D.own e (c x)) xs)=some (A8 (fun x=>D.sl e (c' x)) xs):=by
 induction xs with
 | nil=>rfl
 | cons x xs ih=>simp only [ET,B5,BX,h,ih];rfl
theorem Rn(xs:List α)(h: ∀x,BA (c x)=false):BB (A8 c xs)=false:=by
 induction xs with
 | nil=>rfl
 | cons x xs ih=>simp only [ET,BB,h,ih];rfl
theorem Lq(xs:List α)(h: ∀x,Ai (c x)=true):(A8 c xs).all Ai=true:=by simp [A8,h]
end
theorem TT(xs:List Int):B8 xs=A8 (D.int .i64) xs:=nr rfl
theorem VW(e:TypeId)(l:List (List Int)):Ma e l=A8 (fun x=> .sl e (A8 (D.int .i64) x)) l:=nr rfl
theorem TU(e:TypeId)(l:List (List Int)):G2 e l=A8 (fun x=> .own e (A8 (D.int .i64) x)) l:=nr rfl
section
variable {α:Type} (c:α→List D) (n:Nat)
theorem JM:J7 c []=[]:=nr rfl
theorem EU(x:α)(xs:List α):J7 c (x::xs)=c x++J7 c xs:=nr rfl
theorem F2(xs ys:List α):J7 c xs++J7 c ys=J7 c (xs++ys):=by simp [J7]
theorem KK(h: ∀x,(c x).length=n)(xs:List α):(J7 c xs).length=xs.length*n:=by
 induction xs with
 | nil=>simp [JM]
 | cons x xs ih=>simp only [EU,List.length_append,h,ih,List.length_cons,Nat.succ_mul];omega
theorem ON(h: ∀x,(c x).length=n)(xs:List α): ∀(i:Nat),(J7 c xs).drop (i*n)=J7 c (xs.drop i):=by
 induction xs with
 | nil=>intro i;simp [JM]
 | cons x xs ih=>
  intro i
  cases i with
  | zero=>simp
  | succ i=>
   rw [EU,List.drop_append,List.drop_succ_cons,←ih i,h,Nat.succ_mul]
   have e1:(c x).drop (i*n+n)=[]:=List.drop_eq_nil_of_le (by rw [h];omega)
   rw [e1,Nat.add_sub_cancel];rfl
theorem TV(h: ∀x,(c x).length=n)(xs:List α): ∀(i:Nat),(J7 c xs).take (i*n)=J7 c (xs.take i):=by
 induction xs with
 | nil=>intro i;simp [JM]
 | cons x xs ih=>
  intro i
  cases i with
  | zero=>simp [JM]
  | succ i=>
   rw [EU,List.take_append,List.take_succ_cons,EU,←ih i,h,Nat.succ_mul,Nat.add_sub_cancel]
   rw [List.take_of_length_le (by rw [h];omega)]
theorem HI(xs:List α)(h: ∀x,AC (c x)=false):AC (J7 c xs)=false:=by
 have app: ∀(as bs:List D),AC (as++bs)=(AC as||AC bs):=by
  intro as bs
  induction as with
  | nil=>simp [AC]
  | cons a as ih=>simp [AC,ih,Bool.or_assoc]
 induction xs with
 | nil=>rfl
 | cons x xs ih=>rw [EU,app,h,ih];rfl
theorem OO: ∀(as bs as' bs':List D),B5 as=some as'→B5 bs=some bs'→B5 (as++bs)=some (as'++bs'):=by
 intro as
 induction as with
 | nil=>intro bs as' bs' h1 h2;simp [B5]at h1;subst h1;simpa using h2
 | cons a as ih=>
  intro bs as' bs' h1 h2
  simp only [B5,Option.bind_eq_some_iff,Option.map_eq_some_iff]at h1
  obtain⟨a',ha,as1,has,rfl⟩:=h1
  simp only [List.cons_append,B5,ha,ih _ _ _ has h2];rfl
theorem Mf(xs:List α)(h: ∀x,B5 (c x)=some (c x)):B5 (J7 c xs)=some (J7 c xs):=by
 induction xs with
 | nil=>rfl
 | cons x xs ih=>rw [EU];exact OO _ _ _ _ (h x) ih
theorem L8(as bs:List D):BB (as++bs)=(BB as||BB bs):=by
 induction as with
 | nil=>simp [BB]
 | cons a as ih=>simp [BB,ih,Bool.or_assoc]
theorem IN(xs:List α)(h: ∀x,BB (c x)=false):BB (J7 c xs)=false:=by
 induction xs with
 | nil=>rfl
 | cons x xs ih=>rw [EU,L8,h,ih];rfl
theorem Ja0(xs:List α)(h: ∀x,(c x).all Ai=true):(J7 c xs).all Ai=true:=by
 induction xs with
 | nil=>rfl
 | cons x xs ih=>rw [EU,List.all_append,h,ih];rfl
end
def t8{α:Type}:List α→Nat→List α→List α
 | xs,_,[]=>xs
 | xs,c,y::ys=>t8 (xs.set c y) (c+1) ys
theorem KL{α:Type}(c:α→D): ∀(ys xs:List α) (n:Nat),Al (A8 c xs) n (A8 c ys)=A8 c (t8 xs n ys):=by
 intro ys
 induction ys with
 | nil=>intro xs n;cases xs<;>rfl
 | cons y ys ih=>
  intro xs n
  have h1:Al (A8 c xs) n (A8 c (y::ys))=Al ((A8 c xs).set n (c y)) (n+1) (A8 c ys):=by
   rw [ET];cases A8 c xs<;>rfl
  rw [h1,Qt,ih];rfl
theorem Bg{α β:Type}{o:Option α}{f:α→Option β}{r:β}(h:o.bind f=some r): ∃a,o=some a∧f a=some r:=by
 cases o with
 | none=>cases h
 | some a=>exact⟨a,rfl,h⟩
theorem C7{α:Type}{c:Prop}[Decidable c]{o:Option α}{r:α}(h:ck c o=some r):c∧o=some r:=by
 unfold ck at h
 split at h
 ·rename_i hc;exact⟨hc,h⟩
 ·cases h
section
variable {α:Type} (c:α→D)
theorem Ro(x:α)(xs:List α):c x::A8 c xs=A8 c (x::xs):=nr rfl
theorem Rp(xs:List α)(y:α)(ds:List D):A8 c xs++(c y::ds)=A8 c (xs++[y])++ds:=by simp [A8]
theorem OP(c:α→List D)(e:TypeId)(xs:List α)(h: ∀x,B5 (c x)=some (c x)):B5 (A8 (fun x=>D.own e (c x)) xs)=some (A8 (fun x=>D.sl e (c x)) xs):=OM c c e xs h
theorem TW{β:Type}(b:β→List D)(e e':TypeId)(f:α→List β)(xs:List α)(h: ∀x,B5 (b x)=some (b x)):B5 (A8 (fun x=>D.own e (A8 (fun y=>D.own e' (b y)) (f x))) xs)=some (A8 (fun x=>D.sl e (A8 (fun y=>D.sl e' (b y)) (f x))) xs):=
 OM (fun x=>A8 (fun y=>D.own e' (b y)) (f x)) (fun x=>A8 (fun y=>D.sl e' (b y)) (f x)) e xs (fun x=>OP b e' (f x) h)
def HJ(c:α→D):Option α→D
 | some a=>c a
 | none=> .undef
theorem OQ[Inhabited α](o:Option α)(h:o.isSome=true):HJ c o=c (o.getD default):=by cases o with | none=>cases h | some _=>rfl
theorem Mg(xs:List α):A8 (HJ c) (xs.map some)=A8 c xs:=by simp [A8,Function.comp_def,HJ]
theorem OR(xs:List (Option α))(n:Nat):(A8 (HJ c) xs).set n .undef=A8 (HJ c) (xs.set n none):=by simp [A8,List.map_set,HJ]
theorem TX(xs:List (Option α))(n:Nat)(y:α):(A8 (HJ c) xs).set n (c y)=A8 (HJ c) (xs.set n (some y)):=by simp [A8,List.map_set,HJ]
theorem VX(e:TypeId)(k:IntKind)(x y:List Int)(i:Nat)(h:i<2):([D.sl e (A8 (D.int k) x),D.sl e (A8 (D.int k) y)]:List D)[i]? =some (D.sl e (A8 (D.int k) ([x,y].getD i default))):=by
 rcases i with _ | _ | i
 ·rfl
 ·rfl
 ·omega
theorem VY(xs:List α)(n:Nat):((xs.map some).set n none).length=xs.length:=by simp
theorem TY(xs:List α):(xs.map some).length=xs.length:=by simp
theorem TZ(xs:List α)(n:Nat):(A8 c xs).set n .undef=A8 (HJ c) ((xs.map some).set n none):=by rw [←OR,Mg]
theorem Ta(xs:List α)(n:Nat)(y:α):(xs.map some).set n (some y)=(xs.set n y).map some:=List.map_set.symm
theorem Tb(xs:List (Option α))(n:Nat)(a b:Option α):(xs.set n a).set n b=xs.set n b:=List.set_set ..
theorem Q1(ys:List α)(xs:List (Option α))(n:Nat):Al (A8 (HJ c) xs) n (A8 c ys)=A8 (HJ c) (t8 xs n (ys.map some)):=by
 rw [←Mg c ys,KL]
theorem Qu[Inhabited α]: ∀(xs:List (Option α)),(xs.all Option.isSome)=true→A8 (HJ c) xs=A8 c (xs.map fun o=>o.getD default)
 | [],_=>rfl
 | x::xs,h=>by
  simp only [List.all_cons,Bool.and_eq_true]at h
  show HJ c x::A8 (HJ c) xs=_
  rw [OQ c x h.1,Qu xs h.2];rfl
theorem VZ(n:Nat)(k:IntKind)(x:Int):List.replicate n (D.int k x)=A8 (D.int k) (List.replicate n x):=by simp [A8]
theorem bU(n:Nat)(e:TypeId):List.replicate n (D.sl e [])=A8 (fun x=>D.sl e (A8 (D.int .i64) x)) (List.replicate n []):=by simp [A8]
theorem Va(n:Nat)(e:TypeId):List.replicate n (D.own e [])=A8 (fun x=>D.own e (A8 (D.int .i64) x)) (List.replicate n []):=by simp [A8]
theorem Tc(n:Nat)(x:Bool):List.replicate n (D.bool x)=A8 D.bool (List.replicate n x):=by simp [A8]
variable [Inhabited α] {T:Tys}
theorem tA(e:TypeId)(n:Int)(xs:List α)(hk:T.known e=true)(hz:T.size e=1)(hn:0≤n∧n.toNat<xs.length):Lm T e n (some (e,A8 c xs,none))=some (.cptr [c (xs.getD n.toNat default)]):=by
 rw [aF e n (A8 c xs) hk hz (by simpa [A8] using hn),OL c xs _ hn.2]
end
theorem j6{α:Type}(c:α→D){T:Tys}(e:TypeId)(n:Int)(xs:List α)(L:A2)(a b:Nat)(hk:T.known e=true)(hz:T.size e=1)(hn:0≤n∧n.toNat<xs.length):Lm T e n (some (e,A8 c xs,some (L,a,b)))=some (.pe L n.toNat a b):=
 VD e n (A8 c xs) L a b hk hz (by simpa [A8] using hn)
theorem tB:(true==false)=false:=nr rfl
theorem tC:(false==true)=false:=nr rfl
theorem tD:(true==true)=true:=nr rfl
theorem tF:(false==false)=true:=nr rfl
theorem j7:((0:Nat):Int)=0:=nr rfl
theorem j8:((1:Nat):Int)=1:=nr rfl
theorem j9(n:Nat):((OfNat.ofNat n:Nat):Int)=OfNat.ofNat n:=nr rfl
theorem tG{s:St}(dst:Option Tmp)(u:Tmp)(i:Nat)(L:A2)(n m:Nat):Kp s dst u i (some (.vw L n m))=some (s.putO dst (.vw L n m)):=by simp [Kp,Aj,Bq,D.hasObj,Dh]
theorem OS{α:Type}(c:α→D)(xs:List α):(A8 c xs).isEmpty=xs.isEmpty:=by cases xs<;>rfl
theorem W1{α:Type}(c:α→D)(e:TypeId)(xs:List α):BA (.sl e (A8 c xs))= !xs.isEmpty:=by simp only [BA,OS]
theorem jA(e:TypeId):BA (.sl e [])=false:=nr rfl
theorem jB(e:TypeId)(x:D)(xs:List D):BA (.sl e (x::xs))=true:=nr rfl
theorem Q2{α β:Type}(c:β→D)(f:α→List β)(e:TypeId)(xs:List α):BB (A8 (fun x=>D.sl e (A8 c (f x))) xs)=xs.any fun x=> !(f x).isEmpty:=by
 induction xs with
 | nil=>rfl
 | cons x xs ih=>simp only [ET,BB,W1,ih,List.any_cons]
theorem OT{α:Type}(c:α→List D)(e:TypeId)(xs:List α):AC (A8 (fun x=>D.own e (c x)) xs)= !xs.isEmpty:=by
 cases xs with
 | nil=>rfl
 | cons x xs=>simp [ET,AC,D.hasObj]
section
variable {pm:Pm} {s:St} {dst:Option Tmp}
theorem tH(ls:List (A2×D))(r:D)(o:List D)(h:BA r=true):aj pm s dst ls (some (r,o))=if(Bu (ls.map (·.1))&&ls.all (fun l=>pm.wr (l.1.headD 0)))=true then(Df ls).map fun ls'=>(back false s ls').putO dst r else none:=by
 simp [aj,h]
theorem yx:Df []=some []:=nr rfl
def vS(L:A2)(o:Option (List (A2×D))):Option D→Option (List (A2×D))
 | some c=>o.map ((L,c):: ·)
 | none=>none
theorem yy(L:A2)(c:D)(rest:List (A2×D)):Df ((L,c)::rest)=vS L (Df rest) (BX c):=by
 simp only [Df];cases BX c<;>rfl
theorem tI(L:A2)(ls:List (A2×D))(c:D):vS L (some ls) (some c)=some ((L,c)::ls):=nr rfl
end
def Ad(xs:List (Int×Int))(n:Nat):Int:=(xs.getD n default).1
def Az(xs:List (Int×Int))(n:Nat):Int:=(xs.getD n default).2
def AT(k l:IntKind)(xs:List (Int×Int)):List D:=J7 (fun x=>[D.int k x.1,D.int l x.2]) xs
theorem A3(k l:IntKind):AT k l []=[]:=nr rfl
theorem Ek(k l:IntKind)(x:Int×Int)(xs:List (Int×Int)):AT k l (x::xs)=D.int k x.1::D.int l x.2::AT k l xs:=nr rfl
theorem Gd(k l:IntKind)(xs:List (Int×Int)):(AT k l xs).length=xs.length*2:=KK _ 2 (fun _=>rfl) xs
theorem KM(k l:IntKind)(xs:List (Int×Int)): ∀(n:Nat),n<xs.length→(AT k l xs)[n*2]? =some (D.int k (Ad xs n))∧(AT k l xs)[n*2+1]? =some (D.int l (Az xs n)):=by
 induction xs with
 | nil=>intro n h;simp at h
 | cons x xs ih=>
  intro n h
  cases n with
  | zero=>exact⟨rfl,rfl⟩
  | succ n=>
   have:=ih n (by simpa using h)
   rw [Ek,Nat.succ_mul]
   exact this
theorem OU(k l:IntKind)(xs:List (Int×Int))(n:Nat)(h:n<xs.length):(AT k l xs)[n*2]? =some (D.int k (Ad xs n)):=(KM k l xs n h).1
theorem Rq(k l:IntKind)(xs:List (Int×Int))(n:Nat)(h:n<xs.length):(AT k l xs)[n*2+0]? =some (D.int k (Ad xs n)):=(KM k l xs n h).1
theorem OV(k l:IntKind)(xs:List (Int×Int))(n:Nat)(h:n<xs.length):(AT k l xs)[n*2+1]? =some (D.int l (Az xs n)):=(KM k l xs n h).2
theorem IP(k l:IntKind)(v:Int): ∀(xs:List (Int×Int)) (n:Nat),n<xs.length→(AT k l xs).set (n*2) (D.int k v)=AT k l (xs.set n (v,Az xs n)):=by
 intro xs
 induction xs with
 | nil=>intro n h;simp at h
 | cons x xs ih=>
  intro n h
  cases n with
  | zero=>rfl
  | succ n=>
   have:=ih n (by simpa using h)
   rw [Ek,Nat.succ_mul,List.set_cons_succ,List.set_cons_succ,List.set_cons_succ,this,Ek];rfl
theorem Lr(k l:IntKind)(v:Int): ∀(xs:List (Int×Int)) (n:Nat),n<xs.length→(AT k l xs).set (n*2+1) (D.int l v)=AT k l (xs.set n (Ad xs n,v)):=by
 intro xs
 induction xs with
 | nil=>intro n h;simp at h
 | cons x xs ih=>
  intro n h
  cases n with
  | zero=>rfl
  | succ n=>
   have:=ih n (by simpa using h)
   rw [Ek,Nat.succ_mul,show n*2+2+1=n*2+1+1+1 by omega,List.set_cons_succ,List.set_cons_succ,List.set_cons_succ,this,Ek];rfl
theorem OW(k l:IntKind)(xs ys:List (Int×Int)):AT k l xs++AT k l ys=AT k l (xs++ys):=F2 _ xs ys
theorem Lt(k l:IntKind)(xs:List (Int×Int))(a b:Int):AT k l xs++[D.int k a,D.int l b]=AT k l (xs++[(a,b)]):=F2 _ xs [(a,b)]
theorem Q3(k l:IntKind)(xs:List (Int×Int))(a b:Int)(ds:List D):AT k l xs++(D.int k a::D.int l b::ds)=AT k l (xs++[(a,b)])++ds:=by
 rw [←Lt,List.append_assoc];rfl
theorem Rr(k l:IntKind)(xs:List (Int×Int))(n:Nat):(AT k l xs).take (n*2)=AT k l (xs.take n):=TV _ 2 (fun _=>rfl) xs n
theorem Lu(k l:IntKind)(xs:List (Int×Int))(n:Nat):(AT k l xs).drop (n*2)=AT k l (xs.drop n):=ON _ 2 (fun _=>rfl) xs n
theorem Ir(k l:IntKind)(xs:List (Int×Int)):AC (AT k l xs)=false:=HI _ xs (fun _=>by simp [AC,D.hasObj])
theorem Td(k l:IntKind)(xs:List (Int×Int)):B5 (AT k l xs)=some (AT k l xs):=Mf _ xs (fun _=>rfl)
theorem Q4(k l:IntKind)(xs:List (Int×Int)):BB (AT k l xs)=false:=IN _ xs (fun _=>rfl)
theorem Q5(k l:IntKind)(xs:List (Int×Int)):(AT k l xs).all Ai=true:=Ja0 _ xs (fun _=>rfl)
theorem Mh(k l:IntKind)(xs:List (Int×Int)):(AT k l xs).isEmpty=xs.isEmpty:=by cases xs<;>rfl
theorem Te(k l:IntKind)(n:Nat)(a b:Int):(List.replicate n [D.int k a,D.int l b]).flatten=AT k l (List.replicate n (a,b)):=by
 simp [AT,J7,List.flatMap_def]
theorem W2(k l:IntKind)(e:TypeId)(xs:List (Int×Int)):BA (.sl e (AT k l xs))= !xs.isEmpty:=by simp only [BA,Mh]
theorem OX{α:Type}(k l:IntKind)(f:α→List (Int×Int))(e:TypeId)(xs:List α):BB (A8 (fun x=>D.sl e (AT k l (f x))) xs)=xs.any fun x=> !(f x).isEmpty:=by
 induction xs with
 | nil=>rfl
 | cons x xs ih=>simp only [ET,BB,W2,ih,List.any_cons]
def cd(xs:List (Int×Int×Int×Int))(n:Nat):Int:=(xs.getD n default).1
def ce(xs:List (Int×Int×Int×Int))(n:Nat):Int:=(xs.getD n default).2.1
def cf(xs:List (Int×Int×Int×Int))(n:Nat):Int:=(xs.getD n default).2.2.1
def cg(xs:List (Int×Int×Int×Int))(n:Nat):Int:=(xs.getD n default).2.2.2
def Di(xs:List (Int×Int×Int×Int)):List D:=J7 (fun x=>[D.int .i64 x.1,D.int .i64 x.2.1,D.int .i64 x.2.2.1,D.int .i64 x.2.2.2]) xs
theorem Lv(x:Int×Int×Int×Int)(xs:List (Int×Int×Int×Int)):Di (x::xs)=D.int .i64 x.1::D.int .i64 x.2.1::D.int .i64 x.2.2.1::D.int .i64 x.2.2.2::Di xs:=nr rfl
theorem Ge(xs:List (Int×Int×Int×Int)):(Di xs).length=xs.length*4:=KK _ 4 (fun _=>rfl) xs
theorem OY(xs ys:List (Int×Int×Int×Int)):Di xs++Di ys=Di (xs++ys):=F2 _ xs ys
theorem Lw(xs:List (Int×Int×Int×Int))(a b c d:Int):Di xs++[D.int .i64 a,D.int .i64 b,D.int .i64 c,D.int .i64 d]=Di (xs++[(a,b,c,d)]):=F2 _ xs [(a,b,c,d)]
theorem Q6(xs:List (Int×Int×Int×Int))(a b c d:Int)(ds:List D):Di xs++(D.int .i64 a::D.int .i64 b::D.int .i64 c::D.int .i64 d::ds)=Di (xs++[(a,b,c,d)])++ds:=by
 rw [←Lw,List.append_assoc];rfl
theorem Lx(xs:List (Int×Int×Int×Int))(n:Nat):(Di xs).drop (n*4)=Di (xs.drop n):=ON _ 4 (fun _=>rfl) xs n
theorem OZ(xs:List (Int×Int×Int×Int)):AC (Di xs)=false:=HI _ xs (fun _=>by simp [AC,D.hasObj])
theorem Tf(xs:List (Int×Int×Int×Int)):B5 (Di xs)=some (Di xs):=Mf _ xs (fun _=>rfl)
theorem Q7(xs:List (Int×Int×Int×Int)):BB (Di xs)=false:=IN _ xs (fun _=>rfl)
theorem Q8(xs:List (Int×Int×Int×Int)):(Di xs).all Ai=true:=Ja0 _ xs (fun _=>rfl)
theorem Tg{T:Tys}(e:TypeId)(xs:List (Int×Int×Int×Int))(h:T.size e=4):T.len e (Di xs)=xs.length:=by
 unfold Tys.len
 rw [h,if_neg (by decide),Ge,Nat.mul_div_cancel _ (by decide)]
theorem tJ{T:Tys}(e:TypeId)(n:Int)(xs:List (Int×Int×Int×Int))(hk:T.known e=true)(hz:T.size e=4)(hn:0≤n∧n.toNat<xs.length):Lm T e n (some (e,Di xs,none))=some (.cptr [D.int .i64 (cd xs n.toNat),D.int .i64 (ce xs n.toNat),D.int .i64 (cf xs n.toNat),D.int .i64 (cg xs n.toNat)]):=by
 simp only [Lm,hk,Tg e xs hz]
 rw [if_pos ⟨trivial,trivial,hn.1,hn.2⟩,hz,Lx,List.drop_eq_getElem_cons hn.2,Lv]
 unfold cd ce cf cg
 rw [List.getD_eq_getElem?_getD,List.getElem?_eq_getElem hn.2];rfl
section
variable {T:Tys} {pm:Pm} {s:St} {t:TypeId}
theorem Th(k l:IntKind)(e:TypeId)(xs:List (Int×Int))(h:T.size e=2):T.len e (AT k l xs)=xs.length:=by
 unfold Tys.len
 rw [h,if_neg (by decide),Gd,Nat.mul_div_cancel _ (by decide)]
theorem tK(k l:IntKind)(e:TypeId)(n:Int)(xs:List (Int×Int))(hk:T.known e=true)(hz:T.size e=2)(hn:0≤n∧n.toNat<xs.length):Lm T e n (some (e,AT k l xs,none))=some (.cptr [D.int k (Ad xs n.toNat),D.int l (Az xs n.toNat)]):=by
 simp only [Lm,hk,Th k l e xs hz]
 rw [if_pos ⟨trivial,trivial,hn.1,hn.2⟩,hz,Lu,List.drop_eq_getElem_cons hn.2,Ek]
 unfold Ad Az
 rw [List.getD_eq_getElem?_getD,List.getElem?_eq_getElem hn.2];rfl
theorem tL(k l:IntKind)(e:TypeId)(n:Int)(xs:List (Int×Int))(L:A2)(a b:Nat)(hk:T.known e=true)(hz:T.size e=2)(hn:0≤n∧n.toNat<xs.length):Lm T e n (some (e,AT k l xs,some (L,a,b)))=some (.pe L (n.toNat*2) a b):=by
 simp only [Lm,hk,Th k l e xs hz]
 rw [if_pos ⟨trivial,trivial,hn.1,hn.2⟩,hz]
theorem tM(e:TypeId)(n:Int)(xs:List (Int×Int×Int×Int))(L:A2)(a b:Nat)(hk:T.known e=true)(hz:T.size e=4)(hn:0≤n∧n.toNat<xs.length):Lm T e n (some (e,Di xs,some (L,a,b)))=some (.pe L (n.toNat*4) a b):=by
 simp only [Lm,hk,Tg e xs hz]
 rw [if_pos ⟨trivial,trivial,hn.1,hn.2⟩,hz]
theorem Gf(xs:List (Int×Int×Int×Int))(n:Nat)(h:n<xs.length):(Di xs)[n*4]? =some (D.int .i64 (cd xs n))∧(Di xs)[n*4+1]? =some (D.int .i64 (ce xs n))∧(Di xs)[n*4+2]? =some (D.int .i64 (cf xs n))∧(Di xs)[n*4+3]? =some (D.int .i64 (cg xs n)):=by
 have e:=Lx xs n
 rw [List.drop_eq_getElem_cons h,Lv]at e
 have g: ∀i,(Di xs)[n*4+i]? =((Di xs).drop (n*4))[i]? :=fun i=>by rw [List.getElem?_drop]
 have q:xs.getD n default=xs[n]:=by rw [List.getD_eq_getElem?_getD,List.getElem?_eq_getElem h];rfl
 unfold cd ce cf cg
 rw [q]
 refine⟨?_, ?_, ?_, ?_⟩
 ·have:=g 0;rw [e]at this;exact this
 ·rw [g 1,e];rfl
 ·rw [g 2,e];rfl
 ·rw [g 3,e];rfl
theorem tN{n m:Nat}(h:n<m):n*4+4≤m*4:=by omega
theorem Q9(xs:List (Int×Int×Int×Int))(n:Nat)(d:D)(h:n<xs.length):(Di xs).getD (n*4) d=D.int .i64 (cd xs n):=by rw [List.getD_eq_getElem?_getD,(Gf xs n h).1];rfl
theorem QA(xs:List (Int×Int×Int×Int))(n:Nat)(d:D)(h:n<xs.length):(Di xs).getD (n*4+1) d=D.int .i64 (ce xs n):=by rw [List.getD_eq_getElem?_getD,(Gf xs n h).2.1];rfl
theorem QB(xs:List (Int×Int×Int×Int))(n:Nat)(d:D)(h:n<xs.length):(Di xs).getD (n*4+2) d=D.int .i64 (cf xs n):=by rw [List.getD_eq_getElem?_getD,(Gf xs n h).2.2.1];rfl
theorem QC(xs:List (Int×Int×Int×Int))(n:Nat)(d:D)(h:n<xs.length):(Di xs).getD (n*4+3) d=D.int .i64 (cg xs n):=by rw [List.getD_eq_getElem?_getD,(Gf xs n h).2.2.2];rfl
theorem yz(L:A2)(e:TypeId)(n:Nat)(xs:List (Int×Int×Int×Int))(h:n<xs.length):cellsOf s L (n*4) 4 (some (.own e (Di xs)))=some (.agg [D.int .i64 (cd xs n),D.int .i64 (ce xs n),D.int .i64 (cf xs n),D.int .i64 (cg xs n)]):=by
 obtain⟨h0,h1,h2,h3⟩:=Gf xs n h
 show(if n*4+4≤(Di xs).length then Aj (.agg ((List.range 4).map fun i=>Bq s L (n*4+i) ((Di xs).getD (n*4+i) .undef)))else none)=_
 rw [if_pos (by rw [Ge];omega),vM,Nat.add_zero,List.getD_eq_getElem?_getD,List.getD_eq_getElem?_getD,List.getD_eq_getElem?_getD,List.getD_eq_getElem?_getD,h0,h1,h2,h3];rfl
def jC(T:Tys)(pm:Pm)(t:TypeId)(u:Tmp)(a b:D)(s:St):Option D→Nat→A2→Option St
 | some (.own e xs),c,L=>if T.known t&&T.isStruct t&&pm.wr (L.headD 0)&&Ai a&&Ai b&&(T.size t==2)&&decide (c+2≤xs.length)&& !a.hasObj&& !b.hasObj&& !AC xs then some (s.set L (.own e ((xs.set c a).set (c+1) b)))else Ln T pm t (.tmp u) (some (.agg [a,b],s))
 | _,_,_=>Ln T pm t (.tmp u) (some (.agg [a,b],s))
theorem tO(u:Tmp)(a b:D)(L:A2)(c n m:Nat)(h:s.v u= .pe L c n m):Ln T pm t (.tmp u) (some (.agg [a,b],s))=jC T pm t u a b s (s.look pm L n m) c L:=by
 cases hl:s.look pm L n m with
 | none=>rfl
 | some o=>
  cases o<;>try rfl
  rename_i e xs
  simp only [jC]
  split
  ·rename_i hc
   simp only [Bool.and_eq_true,beq_iff_eq,decide_eq_true_eq,Bool.not_eq_true']at hc
   obtain⟨⟨⟨⟨⟨⟨⟨⟨⟨hk,hs⟩,hw⟩,ha⟩,hb⟩,hz⟩,hl2⟩,ha2⟩,hb2⟩,hx2⟩:=hc
   simp only [Ln,ev,h,Cr,hl,D.asCells,D.isAgg,D.cells,D.withCells,hk,hs,hw,hz,List.all_cons,ha,hb,List.all_nil,Bool.and_self,List.length_cons,List.length_nil,beq_self_eq_true,Bool.true_and,D.hasObj,AC,ha2,hb2,hx2,Bool.or_self,Bool.false_eq_true,if_false,Al]
   rw [if_pos (by simpa using hl2)]
  ·rfl
theorem tP(u:Tmp)(a b:D)(L:A2)(c n m:Nat)(h:s.v u= .pe L c n m):iq T pm t u [a,b] s (.pe L c n m)=jC T pm t u a b s (s.look pm L n m) c L:=by
 rw [←tO u a b L c n m h];rfl
theorem QD(k l:IntKind)(xs:List (Int×Int))(n:Nat)(a b:Int)(h:n<xs.length):((AT k l xs).set (n*2) (D.int k a)).set (n*2+1) (D.int l b)=AT k l (xs.set n (a,b)):=by
 rw [IP k l a xs n h,Lr k l b _ n (by simpa using h),List.set_set]
 congr 2
 simp [Ad,List.getD_eq_getElem?_getD,h]
theorem tQ(k l:IntKind)(u:Tmp)(a b:Int)(L:A2)(e:TypeId)(n:Nat)(xs:List (Int×Int))(hk:T.known t=true)(hs:T.isStruct t=true)(hw:pm.wr (L.headD 0)=true)(hz:T.size t=2)(h:n<xs.length):
  jC T pm t u (.int k a) (.int l b) s (some (.own e (AT k l xs))) (n*2) L=some (s.set L (.own e (AT k l (xs.set n (a,b))))):=by
 simp only [jC]
 rw [if_pos,QD k l xs n a b h]
 simp only [hk,hs,hw,hz,Ai,Gd,Ir,D.hasObj,Bool.and_eq_true,decide_eq_true_eq,beq_self_eq_true,Bool.not_false,and_true,true_and]
 omega
end
set_option linter.defProp false
def AB:=And.intro @tG (And.intro @KL (And.intro @OT (And.intro @W1 (And.intro @jA (And.intro @jB (And.intro @Q2 (And.intro @tH (And.intro @yx (And.intro @yy (And.intro @tI (And.intro @tA (And.intro @j6 (And.intro @KI (And.intro @bT (And.intro @OL (And.intro @Qt (And.intro @Pz (And.intro @Rp (And.intro @Ro
 (And.intro @TR (And.intro @TS (And.intro @KJ (And.intro @VV (And.intro @OP (And.intro @TW (And.intro @Rn (And.intro @Lq (And.intro @bU (And.intro @Va (And.intro @OQ (And.intro @Mg (And.intro @VX (And.intro @VY (And.intro @TY (And.intro @TZ (And.intro @Ta (And.intro @Tb (And.intro @OR (And.intro @TX (And.intro @Q1 (And.intro @Qu (And.intro @VZ (And.intro @Tc
 (And.intro @F2 (And.intro @HI (And.intro @Mf (And.intro @IN (And.intro @Ja0 (And.intro @TT (And.intro @VW (And.intro @TU
 (And.intro @tB (And.intro @tC (And.intro @tD (And.intro @tF (And.intro @j7 (And.intro @j8 @j9)))))))))))))))))))))))))))))))))))))))))))))))))))))))))
theorem z6(a b:D)(l:List D):List.take 2 (a::b::l)=[a,b]:=nr rfl
theorem z7(a b c:D)(l:List D):List.take 3 (a::b::c::l)=[a,b,c]:=nr rfl
theorem z8(a b c d:D)(l:List D):List.take 4 (a::b::c::d::l)=[a,b,c,d]:=nr rfl
theorem zA(l:List D):List.drop 0 l=l:=nr rfl
theorem zC(a:D)(l:List D):List.drop 1 (a::l)=l:=nr rfl
theorem zD(a0 a1:D)(l:List D):List.drop 2 (a0::a1::l)=l:=nr rfl
theorem zE(a0 a1 a2:D)(l:List D):List.drop 3 (a0::a1::a2::l)=l:=nr rfl
theorem zF(a0 a1 a2 a3:D)(l:List D):List.drop 4 (a0::a1::a2::a3::l)=l:=nr rfl
theorem zG(a0 a1 a2 a3 a4:D)(l:List D):List.drop 5 (a0::a1::a2::a3::a4::l)=l:=nr rfl
theorem zH(a0 a1 a2 a3 a4 a5:D)(l:List D):List.drop 6 (a0::a1::a2::a3::a4::a5::l)=l:=nr rfl
theorem zI(a0 a1 a2 a3 a4 a5 a6:D)(l:List D):List.drop 7 (a0::a1::a2::a3::a4::a5::a6::l)=l:=nr rfl
theorem zJ(a0 a1 a2 a3 a4 a5 a6 a7:D)(l:List D):List.drop 8 (a0::a1::a2::a3::a4::a5::a6::a7::l)=l:=nr rfl
theorem zK(a0 a1 a2 a3 a4 a5 a6 a7 a8:D)(l:List D):List.drop 9 (a0::a1::a2::a3::a4::a5::a6::a7::a8::l)=l:=nr rfl
theorem tR(a0 a1 a2 a3 a4 a5 a6 a7 a8 a9:D)(l:List D):List.drop 10 (a0::a1::a2::a3::a4::a5::a6::a7::a8::a9::l)=l:=nr rfl
theorem tS(a0 a1 a2 a3 a4 a5 a6 a7 a8 a9 a10:D)(l:List D):List.drop 11 (a0::a1::a2::a3::a4::a5::a6::a7::a8::a9::a10::l)=l:=nr rfl
theorem jD{n m:Nat}(h:n<m):n*2<m*2:=by omega
theorem bV{n m:Nat}(h:n<m):n*2+0<m*2:=by omega
theorem jE{n m:Nat}(h:n<m):n*2+1<m*2:=by omega
theorem jF{n m:Nat}(h:n<m):n*2+2≤m*2:=by omega
theorem QE(k l:IntKind)(v:Int)(xs:List (Int×Int))(n:Nat)(h:n<xs.length):(AT k l xs).set (n*2+0) (D.int k v)=AT k l (xs.set n (v,Az xs n)):=IP k l v xs n h
theorem KN(k l:IntKind)(xs:List (Int×Int))(n:Nat)(d:D)(h:n<xs.length):(AT k l xs).getD (n*2) d=D.int k (Ad xs n):=by rw [List.getD_eq_getElem?_getD,OU k l xs n h];rfl
theorem Oa(k l:IntKind)(xs:List (Int×Int))(n:Nat)(d:D)(h:n<xs.length):(AT k l xs).getD (n*2+0) d=D.int k (Ad xs n):=KN k l xs n d h
theorem QF(k l:IntKind)(xs:List (Int×Int))(n:Nat)(d:D)(h:n<xs.length):(AT k l xs).getD (n*2+1) d=D.int l (Az xs n):=by rw [List.getD_eq_getElem?_getD,OV k l xs n h];rfl
def AY:=And.intro @tM (And.intro @yz (And.intro @tN (And.intro @Q9 (And.intro @QA (And.intro @QB (And.intro @QC (And.intro @Nat.add_zero (And.intro @Ge (And.intro @OY (And.intro @Lw (And.intro @Q6 (And.intro @OZ (And.intro @Tf (And.intro @Q7 (And.intro @Q8 (And.intro @Tg (And.intro @tJ (And.intro @Gd (And.intro @OU (And.intro @Rq (And.intro @OV (And.intro @OW (And.intro @Lt (And.intro @Q3 (And.intro @Rr (And.intro @Lu (And.intro @Ir (And.intro @Td (And.intro @Q4 (And.intro @Q5 (And.intro @Te (And.intro @W2 (And.intro @OX (And.intro @Th (And.intro @tK (And.intro @tL (And.intro @tP (And.intro @z6 (And.intro @z7 (And.intro @z8 (And.intro @zA (And.intro @zC (And.intro @zD (And.intro @zE (And.intro @zF (And.intro @zG (And.intro @zH (And.intro @zI (And.intro @zJ (And.intro @zK (And.intro @tR (And.intro @tS (And.intro @jD (And.intro @bV (And.intro @jE (And.intro @jF (And.intro @IP (And.intro @QE (And.intro @Lr (And.intro @KN (And.intro @Oa (And.intro @QF (And.intro @List.length_set.{0} (@tQ))))))))))))))))))))))))))))))))))))))))))))))))))))))))))))))))
def A6:=And.intro @implies_true.{1} (And.intro @Option.bind_some.{0,0} (And.intro @Option.map_some.{0,0} (And.intro @Option.isSome_some.{0} (And.intro @List.contains_cons.{0} (And.intro @List.contains_nil.{0} (And.intro @List.getD_cons_zero.{0} (And.intro @List.getD_cons_succ.{0} (And.intro @List.getD_nil.{0} (And.intro @List.length_cons.{0} (And.intro @List.length_nil.{0} (And.intro @List.size_toArray.{0} (And.intro @List.toList_toArray.{0} (And.intro @List.zip_cons_cons.{0,0} (And.intro @List.zip_nil_left.{0,0} (And.intro @List.append_nil.{0} (And.intro @List.nil_append.{0} (And.intro @List.cons_append.{0} (And.intro @List.map_cons.{0,0} (And.intro @List.map_nil.{0,0} (And.intro @List.replicate_succ.{0} (And.intro @List.replicate_zero.{0} (And.intro @List.set_cons_zero.{0} (And.intro @List.set_cons_succ.{0} (And.intro @List.set_set.{0} (And.intro @List.all_cons.{0} (And.intro @List.any_cons.{0} (And.intro @List.any_nil.{0} (And.intro @List.all_nil.{0} (And.intro @List.getElem?_cons_zero.{0} (And.intro @List.getElem?_cons_succ.{0} (And.intro @List.getElem?_nil.{0} (@beq_self_eq_true.{0}))))))))))))))))))))))))))))))))
theorem AZ:List.range 0=[]:=nr rfl
end Dv
namespace Dv
open Go
section
variable {σ ρ α β:Type}
theorem G3(f:σ→Option (σ⊕ρ))(st:Nat→σ): ∀(n:Nat) (r:ρ),(∀i,i<n→f (st i)=some (.inl (st (i+1))))→f (st n)=some (.inr r)→Gc f (st 0)=some r:=by
 intro n r h e
 have key: ∀k,k≤n→Gc f (st (n-k))=some r:=by
  intro k
  induction k with
  | zero=>intro _;exact Me e
  | succ k ih=>
   intro hk
   have h1:=h (n-(k+1)) (by omega)
   rw [Qr h1,show n-(k+1)+1=n-k by omega]
   exact ih (by omega)
 have:=key n (Nat.le_refl _)
 rwa [Nat.sub_self]at this
end
theorem KO{n:Nat}{P:Nat→Bool}(h: ¬ ∀i,i<n→P i=true): ∃m,m<n∧P m=false∧ ∀i,i<m→P i=true:=by
 induction n with
 | zero=>exact absurd (fun i hi=>absurd hi (Nat.not_lt_zero _)) h
 | succ n ih=>
  by_cases hn: ∀i,i<n→P i=true
  ·refine⟨n,Nat.lt_succ_self _, ?_,hn⟩
   cases hp:P n with
   | false=>rfl
   | true=>exact absurd (fun i hi=>by rcases Nat.lt_succ_iff_lt_or_eq.1 hi with h1 | rfl;exact hn i h1;exact hp) h
  ·obtain⟨m,h1,h2,h3⟩:=ih hn
   exact⟨m,by omega,h2,h3⟩
theorem BR{n:Nat}{P:Nat→Bool}:(List.range n).all P=true↔ ∀i,i<n→P i=true:=by
 simp [List.all_eq_true]
theorem Ti{σ ρ:Type}(f:σ→Option (σ⊕ρ))(st:Nat→σ)(n:Nat)(P:Nat→Bool)(bad good:ρ)
  (h: ∀i,i<n→(∀j,j<i→P j=true)→f (st i)=if P i=true then some (.inl (st (i+1)))else some (.inr bad))(e:(∀j,j<n→P j=true)→f (st n)=some (.inr good)):Gc f (st 0)=some (if(List.range n).all P=true then good else bad):=by
 by_cases hp: ∀i,i<n→P i=true
 ·rw [if_pos (BR.2 hp)]
  refine G3 f st n good (fun i hi=> ?_) (e hp)
  rw [h i hi (fun j hj=>hp j (by omega)),if_pos (hp i hi)]
 ·rw [if_neg (fun hc=>hp (BR.1 hc))]
  obtain⟨m,h1,h2,h3⟩:=KO hp
  refine G3 f st m bad (fun i hi=> ?_) ?_
  ·rw [h i (by omega) (fun j hj=>h3 j (by omega)),if_pos (h3 i hi)]
  ·rw [h m h1 h3,h2];rfl
theorem CT{σ ρ:Type}(f:σ→Option (σ⊕ρ))(st:Nat→σ)(n:Nat)(P:Nat→Bool)(bad good:ρ)
  (h: ∀i,i<n→f (st i)=if P i=true then some (.inl (st (i+1)))else some (.inr bad))(e:f (st n)=some (.inr good)):Gc f (st 0)=some (if(List.range n).all P=true then good else bad):=
 Ti f st n P bad good (fun i hi _=>h i hi) (fun _=>e)
theorem Ob{α:Type}[Inhabited α](p:α→Bool)(xs:List α):(List.range xs.length).all (fun i=>p (xs.getD i default))=xs.all p:=by
 rw [Bool.eq_iff_iff,BR,List.all_eq_true]
 constructor
 ·intro h x hx
  obtain⟨i,hi,rfl⟩:=List.getElem_of_mem hx
  have:=h i hi
  rwa [List.getD_eq_getElem?_getD,List.getElem?_eq_getElem hi]at this
 ·intro h i hi
  rw [List.getD_eq_getElem?_getD,List.getElem?_eq_getElem hi]
  exact h _ (List.getElem_mem hi)
theorem KP{α:Type}[DecidableEq α][Inhabited α](a b:List α)(hl:a.length=b.length):(List.range a.length).all (fun i=>decide (a.getD i default=b.getD i default))=decide (a=b):=by
 by_cases he:a=b
 ·subst he;simp
 ·rw [decide_eq_false he,Bool.eq_false_iff]
  intro hc
  rw [BR]at hc
  refine he (List.ext_getElem hl fun i h1 h2=> ?_)
  have:=hc i h1
  rw [List.getD_eq_getElem?_getD,List.getD_eq_getElem?_getD,List.getElem?_eq_getElem h1,List.getElem?_eq_getElem h2]at this
  simpa using this
theorem KQ(i:Nat)(h:i<4611686018427387904):IntKind.i64.wrap ((i:Int)+1)=((i+1:Nat):Int):=by
 rw [MZ _ (by omega)];rfl
theorem B0{α:Type}[Inhabited α](xs:List α)(i:Nat)(h:i<xs.length):xs.getD i default=xs[i]:=by
 rw [List.getD_eq_getElem?_getD,List.getElem?_eq_getElem h];rfl
theorem E8{α:Type}[Inhabited α](xs:List α)(i:Nat)(h:i<xs.length):xs.getD (i:Int).toNat default=xs[i]:=by
 rw [Int.toNat_natCast];exact B0 xs i h
theorem C3{α:Type}{c:Prop}[Decidable c]{o:Option α}(h:c):ck c o=o:=if_pos h
theorem CE{i n:Nat}(h:i<n):(i:Int)<(n:Int):=by omega
theorem Am(n:Nat): ¬(n:Int)<(n:Int):=by omega
theorem E9{i n:Nat}(h:i<n):0≤(i:Int)∧(i:Int).toNat<n:=by omega
end Dv
namespace Dv
open Go
def Ly(x:Int×Int):List D:=[D.int .i64 x.1,D.int .i64 x.2]
def Tj(xs:List (Int×Int)):Prop:=xs.length≤maxLen∧ ∀x∈xs,UX x.1∧UX x.2
def QG(xss:List (List (Int×Int))):Prop:=xss.length≤maxLen∧ ∀xs∈xss,Tj xs
section
variable {T:Tys} {t e a:TypeId} {d:D}
theorem Vb{ds:List D}(he:T.ty e= .struct [a,a])(ha:T.ty a= .int .i64)(h:Shp T e ds): ∃x:Int×Int,ds=Ly x∧UX x.1∧UX x.2:=by
 obtain⟨hl,hx⟩:=Lp he h
 rcases ds with _ | ⟨d0,_ | ⟨d1,_ | ⟨_,_⟩⟩⟩<;>simp at hl
 obtain⟨p,h0,hl0⟩:=Pu ha (hx 0 a d0 rfl rfl)
 obtain⟨q,h1,hl1⟩:=Pu ha (hx 1 a d1 rfl rfl)
 simp only [List.cons.injEq,and_true]at h0 h1
 subst h0 h1
 exact⟨(p,q),rfl,hl0,hl1⟩
theorem Tl{ds:List D}(ht:T.ty t= .slice e)(he:T.ty e= .struct [a,a])(ha:T.ty a= .int .i64)(h:Shp T t ds): ∃xs,ds=[.sl e (J7 Ly xs)]∧Tj xs:=by
 obtain⟨xss,rfl,hx,hl⟩:=KG ht h
 have: ∀xss:List (List D),(∀xs,xs∈xss→Shp T e xs)→ ∃ys,xss.flatten=J7 Ly ys∧ys.length=xss.length∧ ∀y∈ys,UX y.1∧UX y.2:=by
  intro xss
  induction xss with
  | nil=>intro _;exact⟨[],rfl,rfl,by simp⟩
  | cons xs xss ih=>
   intro hx
   obtain⟨n,rfl,hn⟩:=Vb he ha (hx xs (List.mem_cons_self))
   obtain⟨ys,h1,h2,h3⟩:=ih (fun q hq=>hx q (List.mem_cons_of_mem _ hq))
   refine⟨n::ys,by rw [List.flatten_cons,h1];rfl,by simp [h2],fun y hy=> ?_⟩
   rcases List.mem_cons.1 hy with rfl | hy
   ·exact hn
   ·exact h3 y hy
 obtain⟨ys,h1,h2,h3⟩:=this xss hx
 exact⟨ys,by rw [h1],by omega,h3⟩
theorem Rs{e2:TypeId}{ds:List D}(ht:T.ty t= .slice e)(he:T.ty e= .slice e2)(he2:T.ty e2= .struct [a,a])(ha:T.ty a= .int .i64)(h:Shp T t ds): ∃xss,ds=[.sl e (A8 (fun x=> .sl e2 (J7 Ly x)) xss)]∧QG xss:=by
 obtain⟨xss,rfl,hx,hl⟩:=KG ht h
 have: ∀xss:List (List D),(∀xs,xs∈xss→Shp T e xs)→ ∃ys,xss.flatten=A8 (fun x=> .sl e2 (J7 Ly x)) ys∧ys.length=xss.length∧ ∀y∈ys,Tj y:=by
  intro xss
  induction xss with
  | nil=>intro _;exact⟨[],rfl,rfl,by simp⟩
  | cons xs xss ih=>
   intro hx
   obtain⟨n,rfl,hn⟩:=Tl he he2 ha (hx xs (List.mem_cons_self))
   obtain⟨ys,h1,h2,h3⟩:=ih (fun q hq=>hx q (List.mem_cons_of_mem _ hq))
   refine⟨n::ys,by rw [List.flatten_cons,h1];rfl,by simp [h2],fun y hy=> ?_⟩
   rcases List.mem_cons.1 hy with rfl | hy
   ·exact hn
   ·exact h3 y hy
 obtain⟨ys,h1,h2,h3⟩:=this xss hx
 exact⟨ys,by rw [h1],by omega,h3⟩
theorem QH{b c e2:TypeId}(ht:T.ty t= .struct [b,c,c])(hb:T.ty b= .slice e)(he:T.ty e= .slice e2)(he2:T.ty e2= .struct [a,a])(ha:T.ty a= .int .i64)(hc:T.ty c= .slice a)(h:cQ T t d):
  ∃es is js,d= .agg [.sl e (A8 (fun x=> .sl e2 (J7 Ly x)) es), .sl a (B8 is), .sl a (B8 js)]∧QG es∧VP is∧VP js:=by
 obtain⟨ds,rfl,hl,hx⟩:=Rl ht h
 rcases ds with _ | ⟨d0,_ | ⟨d1,_ | ⟨d2,_ | ⟨_,_⟩⟩⟩⟩<;>simp at hl
 obtain⟨es,h0,hl0⟩:=Rs hb he he2 ha (hx 0 b d0 rfl rfl)
 obtain⟨is,h1,hl1⟩:=Mc hc ha (hx 1 c d1 rfl rfl)
 obtain⟨js,h2,hl2⟩:=Mc hc ha (hx 2 c d2 rfl rfl)
 simp only [List.cons.injEq,and_true]at h0 h1 h2
 subst h0 h1 h2
 exact⟨es,is,js,rfl,hl0,hl1,hl2⟩
end
end Dv
