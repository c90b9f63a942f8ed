/- Value semantics for Go code, part 5: typed lists, loops as functions. Conditions: none beyond those in each lemma. -/
import Derived.Test.YtipfckompmhljaaL4
set_option linter.unusedSimpArgs false
set_option linter.unusedVariables false
namespace Dv
open Go
set_option maxRecDepth 10000
def ck{α:Type}(c:Prop)[Decidable c](o:Option α):Option α:=if c then o else none
section
variable {σ ρ:Type}
def bH(f:σ→Option (σ⊕ρ)):Nat→σ→Option ρ
 | 0,_=>none
 | n+1,s=>
  match f s with
  | none=>none
  | some (.inl s')=>bH f n s'
  | some (.inr r)=>some r
open Classical in
noncomputable def Hy(f:σ→Option (σ⊕ρ))(s:σ):Option ρ:=if h: ∃r n,bH f n s=some r then some h.choose else none
theorem Yt{f:σ→Option (σ⊕ρ)}: ∀ {n m:Nat} {s:σ} {r:ρ},n≤m→bH f n s=some r→bH f m s=some r:=by
 intro n
 induction n with
 | zero=>intro m s r _ h;simp [bH]at h
 | succ n ih=>
  intro m s r hm h
  cases m with
  | zero=>omega
  | succ m=>
   simp only [bH]at h ⊢
   cases hs:f s with
   | none=>simp [hs]at h
   | some q=>
    cases q with
    | inl s'=>simp only [hs]at h ⊢;exact ih (by omega) h
    | inr r'=>simp only [hs]at h ⊢;exact h
theorem WS{f:σ→Option (σ⊕ρ)}{n:Nat}{s:σ}{r:ρ}(h:bH f n s=some r):Hy f s=some r:=by
 unfold Hy
 have hx: ∃r n,bH f n s=some r:=⟨r,n,h⟩
 rw [dif_pos hx]
 obtain⟨n',h'⟩:=hx.choose_spec
 have h1:=Yt (Nat.le_max_left n n') h
 have h2:=Yt (Nat.le_max_right n n') h'
 rw [h1]at h2
 exact h2.symm
theorem Sg{f:σ→Option (σ⊕ρ)}{s:σ}{r:ρ}(h:Hy f s=some r): ∃n,bH f n s=some r:=by
 unfold Hy at h
 split at h
 ·rename_i hx
  simp only [Option.some.injEq]at h
  subst h
  exact hx.choose_spec
 ·cases h
theorem Ku{f:σ→Option (σ⊕ρ)}{s s':σ}(h:f s=some (.inl s')):Hy f s=Hy f s':=by
 cases hi:Hy f s' with
 | some r=>
  obtain⟨n,hn⟩:=Sg hi
  exact WS (n:=n+1) (by simp only [bH,h];exact hn)
 | none=>
  cases hj:Hy f s with
  | none=>rfl
  | some r=>
   obtain⟨n,hn⟩:=Sg hj
   cases n with
   | zero=>simp [bH]at hn
   | succ n=>
    simp only [bH,h]at hn
    rw [WS hn]at hi;cases hi
theorem IX{f:σ→Option (σ⊕ρ)}{s:σ}{r:ρ}(h:f s=some (.inr r)):Hy f s=some r:=WS (n:=1) (by simp [bH,h])
end
def dm{σ ρ:Type}(M:σ→St→Prop)(X:ρ→Ex→St→Prop):σ⊕ρ→Ex→St→Prop
 | .inl v, .normal,s=>M v s
 | .inl _,_,_=>False
 | .inr _, .normal,_=>False
 | .inr r,ex,s=>X r ex s
theorem Ik{σ ρ:Type}(M:σ→St→Prop)(X:ρ→Ex→St→Prop)(v:σ)(s:St):dm M X (.inl v) .normal s=M v s:=nr rfl
theorem KF{σ ρ:Type}(M:σ→St→Prop)(X:ρ→Ex→St→Prop)(r:ρ)(j:Nat)(s:St):dm M X (.inr r) (.exit j) s=X r (.exit j) s:=nr rfl
theorem Qp{σ ρ:Type}(M:σ→St→Prop)(X:ρ→Ex→St→Prop)(r:ρ)(s:St):dm M X (.inr r) .ret s=X r .ret s:=nr rfl
theorem BN{E:Env}{c:SC}{σ ρ:Type}(f:σ→Option (σ⊕ρ))(M:σ→St→Prop)(X:ρ→Ex→St→Prop)
  (hstep: ∀v s o,M v s→f v=some o→Bq E c (dm M X o) s){v:σ}{s:St}{r:ρ}(h:Hy f v=some r)(hM:M v s):Bq E (.loop c) (X r) s:=by
 obtain⟨n,hn⟩:=Sg h
 induction n generalizing v s with
 | zero=>simp [bH]at hn
 | succ n ih=>
  simp only [bH]at hn
  cases hf:f v with
  | none=>simp [hf]at hn
  | some o=>
   obtain⟨ex,s1,h1,h2⟩:=hstep v s o hM hf
   cases o with
   | inl v'=>
    simp only [hf]at hn
    cases ex with
    | normal=>
     obtain⟨ex',s2,h3,h4⟩:=ih (WS hn) h2 hn
     refine⟨ex',s2, ?_,h4⟩
     simp only [DR]at h3 ⊢
     rw [WL,h1];exact h3
    | exit id=>exact h2.elim
    | ret=>exact h2.elim
   | inr r'=>
    simp only [hf,Option.some.injEq]at hn
    subst hn
    cases ex with
    | normal=>exact h2.elim
    | exit id=>exact⟨_,s1,by simp only [DR];rw [WL,h1],h2⟩
    | ret=>exact⟨_,s1,by simp only [DR];rw [WL,h1],h2⟩
def AP{α:Type}(c:α→D)(xs:List α):List D:=xs.map c
def Qq{α:Type}(c:α→List D)(xs:List α):List D:=xs.flatMap c
section
variable {α:Type} (c:α→D)
theorem qb:AP c []=[]:=nr rfl
theorem IY(x:α)(xs:List α):AP c (x::xs)=c x::AP c xs:=nr rfl
theorem Si(xs:List α):(AP c xs).length=xs.length:=by simp [AP]
theorem Yu[Inhabited α](xs:List α)(i:Nat)(h:i<xs.length):(AP c xs).getD i .undef=c (xs.getD i default):=by
 simp [AP,List.getD_eq_getElem?_getD,h]
theorem A1W[Inhabited α](xs:List α)(i:Nat)(h:i<xs.length):(AP c xs)[i]? =some (c (xs.getD i default)):=by
 simp [AP,List.getD_eq_getElem?_getD,h]
theorem dw(xs:List α)(i:Nat)(y:α):(AP c xs).set i (c y)=AP c (xs.set i y):=by simp [AP]
theorem bI(xs ys:List α):AP c xs++AP c ys=AP c (xs++ys):=by simp [AP]
theorem lD(xs:List α)(n:Nat):(AP c xs).take n=AP c (xs.take n):=by simp [AP]
theorem lF(xs:List α)(n:Nat):(AP c xs).drop n=AP c (xs.drop n):=by simp [AP]
theorem Sj(xs:List α)(h: ∀x,(c x).hasObj=false):AZ (AP c xs)=false:=by
 induction xs with
 | nil=>rfl
 | cons x xs ih=>simp only [IY,AZ,h,ih];rfl
theorem qc(xs:List α)(h: ∀x,D7 (c x)=some (c x)):C9 (AP c xs)=some (AP c xs):=by
 induction xs with
 | nil=>rfl
 | cons x xs ih=>simp only [IY,C9,h,ih];rfl
theorem Yv(c:α→List D)(c':α→List D)(e:TypeId)(xs:List α)(h: ∀x,C9 (c x)=some (c' x)):C9 (AP (fun x=>D.own e (c x)) xs)=some (AP (fun x=>D.sl e (c' x)) xs):=by
 induction xs with
 | nil=>rfl
 | cons x xs ih=>simp only [IY,C9,D7,h,ih];rfl
theorem gm(xs:List α)(h: ∀x,CK (c x)=false):CL (AP c xs)=false:=by
 induction xs with
 | nil=>rfl
 | cons x xs ih=>simp only [IY,CL,h,ih];rfl
theorem VN(xs:List α)(h: ∀x,BS (c x)=true):(AP c xs).all BS=true:=by simp [AP,h]
end
theorem lG(xs:List Int):CJ xs=AP (D.int .i64) xs:=nr rfl
theorem qd(e:TypeId)(l:List (List Int)):WP e l=AP (fun x=> .sl e (AP (D.int .i64) x)) l:=nr rfl
theorem lH(e:TypeId)(l:List (List Int)):M9 e l=AP (fun x=> .own e (AP (D.int .i64) x)) l:=nr rfl
section
variable {α:Type} (c:α→List D) (n:Nat)
theorem RN:Qq c []=[]:=nr rfl
theorem JY(x:α)(xs:List α):Qq c (x::xs)=c x++Qq c xs:=nr rfl
theorem KV(xs ys:List α):Qq c xs++Qq c ys=Qq c (xs++ys):=by simp [Qq]
theorem Sk(h: ∀x,(c x).length=n)(xs:List α):(Qq c xs).length=xs.length*n:=by
 induction xs with
 | nil=>simp [RN]
 | cons x xs ih=>simp only [JY,List.length_append,h,ih,List.length_cons,Nat.succ_mul];omega
theorem Yw(h: ∀x,(c x).length=n)(xs:List α): ∀(i:Nat),(Qq c xs).drop (i*n)=Qq c (xs.drop i):=by
 induction xs with
 | nil=>intro i;simp [RN]
 | cons x xs ih=>
  intro i
  cases i with
  | zero=>simp
  | succ i=>
   rw [JY,List.drop_append,List.drop_succ_cons,←ih i,h,Nat.succ_mul]
   have e1:(c x).drop (i*n+n)=[]:=List.drop_eq_nil_of_le (by rw [h];omega)
   rw [e1,Nat.add_sub_cancel];rfl
theorem lI(h: ∀x,(c x).length=n)(xs:List α): ∀(i:Nat),(Qq c xs).take (i*n)=Qq c (xs.take i):=by
 induction xs with
 | nil=>intro i;simp [RN]
 | cons x xs ih=>
  intro i
  cases i with
  | zero=>simp [RN]
  | succ i=>
   rw [JY,List.take_append,List.take_succ_cons,JY,←ih i,h,Nat.succ_mul,Nat.add_sub_cancel]
   rw [List.take_of_length_le (by rw [h];omega)]
theorem O5(xs:List α)(h: ∀x,AZ (c x)=false):AZ (Qq c xs)=false:=by
 have app: ∀(as bs:List D),AZ (as++bs)=(AZ as||AZ bs):=by
  intro as bs
  induction as with
  | nil=>simp [AZ]
  | cons a as ih=>simp [AZ,ih,Bool.or_assoc]
 induction xs with
 | nil=>rfl
 | cons x xs ih=>rw [JY,app,h,ih];rfl
theorem Yx: ∀(as bs as' bs':List D),C9 as=some as'→C9 bs=some bs'→C9 (as++bs)=some (as'++bs'):=by
 intro as
 induction as with
 | nil=>intro bs as' bs' h1 h2;simp [C9]at h1;subst h1;simpa using h2
 | cons a as ih=>
  intro bs as' bs' h1 h2
  simp only [C9,Option.bind_eq_some_iff,Option.map_eq_some_iff]at h1
  obtain⟨a',ha,as1,has,rfl⟩:=h1
  simp only [List.cons_append,C9,ha,ih _ _ _ has h2];rfl
theorem WT(xs:List α)(h: ∀x,C9 (c x)=some (c x)):C9 (Qq c xs)=some (Qq c xs):=by
 induction xs with
 | nil=>rfl
 | cons x xs ih=>rw [JY];exact Yx _ _ _ _ (h x) ih
theorem UE(as bs:List D):CL (as++bs)=(CL as||CL bs):=by
 induction as with
 | nil=>simp [CL]
 | cons a as ih=>simp [CL,ih,Bool.or_assoc]
theorem Pk(xs:List α)(h: ∀x,CL (c x)=false):CL (Qq c xs)=false:=by
 induction xs with
 | nil=>rfl
 | cons x xs ih=>rw [JY,UE,h,ih];rfl
theorem Pn(xs:List α)(h: ∀x,(c x).all BS=true):(Qq c xs).all BS=true:=by
 induction xs with
 | nil=>rfl
 | cons x xs ih=>rw [JY,List.all_append,h,ih];rfl
end
def ol{α:Type}:List α→Nat→List α→List α
 | xs,_,[]=>xs
 | xs,c,y::ys=>ol (xs.set c y) (c+1) ys
theorem Sl{α:Type}(c:α→D): ∀(ys xs:List α) (n:Nat),Ba (AP c xs) n (AP c ys)=AP c (ol xs n ys):=by
 intro ys
 induction ys with
 | nil=>intro xs n;cases xs<;>rfl
 | cons y ys ih=>
  intro xs n
  have h1:Ba (AP c xs) n (AP c (y::ys))=Ba ((AP c xs).set n (c y)) (n+1) (AP c ys):=by
   rw [IY];cases AP c xs<;>rfl
  rw [h1,dw,ih];rfl
theorem bJ{α:Type}: ∀(ys xs:List α) (n:Nat),n+ys.length≤xs.length→ol xs n ys=xs.take n++(ys++xs.drop (n+ys.length)):=by
 intro ys
 induction ys with
 | nil=>intro xs n _;simp [ol]
 | cons y ys ih=>
  intro xs n h
  simp only [List.length_cons]at h
  unfold ol
  rw [ih (xs.set n y) (n+1) (by simp;omega)]
  have h1:(xs.set n y).take (n+1)=xs.take n++[y]:=by
   rw [List.take_succ_eq_append_getElem (by simp;omega),List.getElem_set_self,List.take_set_of_le (Nat.le_refl _)]
  rw [h1,List.drop_set_of_lt (by omega),List.length_cons,show n+1+ys.length=n+(ys.length+1) by omega,List.append_assoc];rfl
theorem Ao{α β:Type}{o:Option α}{f:α→Option β}{r:β}(h:o.bind f=some r): ∃a,o=some a∧f a=some r:=by
 cases o with
 | none=>cases h
 | some a=>exact⟨a,rfl,h⟩
theorem BF{α:Type}{c:Prop}[Decidable c]{o:Option α}{r:α}(h:ck c o=some r):c∧o=some r:=by
 unfold ck at h
 split at h
 ·rename_i hc;exact⟨hc,h⟩
 ·cases h
section
variable {α:Type} (c:α→D)
theorem gp(x:α)(xs:List α):c x::AP c xs=AP c (x::xs):=nr rfl
theorem gq(xs:List α)(y:α)(ds:List D):AP c xs++(c y::ds)=AP c (xs++[y])++ds:=by simp [AP]
theorem Yy(c:α→List D)(e:TypeId)(xs:List α)(h: ∀x,C9 (c x)=some (c x)):C9 (AP (fun x=>D.own e (c x)) xs)=some (AP (fun x=>D.sl e (c x)) xs):=Yv c c e xs h
theorem lJ{β:Type}(b:β→List D)(e e':TypeId)(f:α→List β)(xs:List α)(h: ∀x,C9 (b x)=some (b x)):C9 (AP (fun x=>D.own e (AP (fun y=>D.own e' (b y)) (f x))) xs)=some (AP (fun x=>D.sl e (AP (fun y=>D.sl e' (b y)) (f x))) xs):=
 Yv (fun x=>AP (fun y=>D.own e' (b y)) (f x)) (fun x=>AP (fun y=>D.sl e' (b y)) (f x)) e xs (fun x=>Yy b e' (f x) h)
def O6(c:α→D):Option α→D
 | some a=>c a
 | none=> .undef
theorem Yz[Inhabited α](o:Option α)(h:o.isSome=true):O6 c o=c (o.getD default):=by cases o with | none=>cases h | some _=>rfl
theorem WU(xs:List α):AP (O6 c) (xs.map some)=AP c xs:=by simp [AP,Function.comp_def,O6]
theorem Z0(xs:List (Option α))(n:Nat):(AP (O6 c) xs).set n .undef=AP (O6 c) (xs.set n none):=by simp [AP,List.map_set,O6]
theorem lK(xs:List (Option α))(n:Nat)(y:α):(AP (O6 c) xs).set n (c y)=AP (O6 c) (xs.set n (some y)):=by simp [AP,List.map_set,O6]
theorem qf(e:TypeId)(k:IntKind)(x y:List Int)(i:Nat)(h:i<2):([D.sl e (AP (D.int k) x),D.sl e (AP (D.int k) y)]:List D)[i]? =some (D.sl e (AP (D.int k) ([x,y].getD i default))):=by
 rcases i with _ | _ | i
 ·rfl
 ·rfl
 ·omega
theorem qg(xs:List α)(n:Nat):((xs.map some).set n none).length=xs.length:=by simp
theorem lL(xs:List α):(xs.map some).length=xs.length:=by simp
theorem lM(xs:List α)(n:Nat):(AP c xs).set n .undef=AP (O6 c) ((xs.map some).set n none):=by rw [←Z0,WU]
theorem lN(xs:List α)(n:Nat)(y:α):(xs.map some).set n (some y)=(xs.set n y).map some:=List.map_set.symm
theorem lQ(xs:List (Option α))(n:Nat)(a b:Option α):(xs.set n a).set n b=xs.set n b:=List.set_set ..
theorem bK(ys:List α)(xs:List (Option α))(n:Nat):Ba (AP (O6 c) xs) n (AP c ys)=AP (O6 c) (ol xs n (ys.map some)):=by
 rw [←WU c ys,Sl]
theorem dz[Inhabited α]: ∀(xs:List (Option α)),(xs.all Option.isSome)=true→AP (O6 c) xs=AP c (xs.map fun o=>o.getD default)
 | [],_=>rfl
 | x::xs,h=>by
  simp only [List.all_cons,Bool.and_eq_true]at h
  show O6 c x::AP (O6 c) xs=_
  rw [Yz c x h.1,dz xs h.2];rfl
theorem qh(n:Nat)(k:IntKind)(x:Int):List.replicate n (D.int k x)=AP (D.int k) (List.replicate n x):=by simp [AP]
theorem A1X(n:Nat)(e:TypeId):List.replicate n (D.sl e [])=AP (fun x=>D.sl e (AP (D.int .i64) x)) (List.replicate n []):=by simp [AP]
theorem qi(n:Nat)(e:TypeId):List.replicate n (D.own e [])=AP (fun x=>D.own e (AP (D.int .i64) x)) (List.replicate n []):=by simp [AP]
theorem lS(n:Nat)(x:Bool):List.replicate n (D.bool x)=AP D.bool (List.replicate n x):=by simp [AP]
variable [Inhabited α] {T:Tys}
theorem AFl(e:TypeId)(n:Int)(xs:List α)(hk:T.known e=true)(hz:T.size e=1)(hn:0≤n∧n.toNat<xs.length):VJ T e n (some (e,AP c xs,none))=some (.cptr [c (xs.getD n.toNat default)]):=by
 rw [A0Q e n (AP c xs) hk hz (by simpa [AP] using hn),Yu c xs _ hn.2]
end
theorem A7U{α:Type}(c:α→D){T:Tys}(e:TypeId)(n:Int)(xs:List α)(L:AA)(a b:Nat)(hk:T.known e=true)(hz:T.size e=1)(hn:0≤n∧n.toNat<xs.length):VJ T e n (some (e,AP c xs,some (L,a,b)))=some (.pe L n.toNat a b):=
 qM e n (AP c xs) L a b hk hz (by simpa [AP] using hn)
theorem AFm:(true==false)=false:=nr rfl
theorem AFn:(false==true)=false:=nr rfl
theorem AFo:(true==true)=true:=nr rfl
theorem AFp:(false==false)=true:=nr rfl
theorem A7V:((0:Nat):Int)=0:=nr rfl
theorem A7W:((1:Nat):Int)=1:=nr rfl
theorem A7X(n:Nat):((OfNat.ofNat n:Nat):Int)=OfNat.ofNat n:=nr rfl
theorem AFq{s:St}(dst:Option Tmp)(u:Tmp)(i:Nat)(L:AA)(n m:Nat):Tx s dst u i (some (.vw L n m))=some (s.putO dst (.vw L n m)):=by simp [Tx,BU,DZ,D.hasObj,Hr]
theorem Z4{α:Type}(c:α→D)(xs:List α):(AP c xs).isEmpty=xs.isEmpty:=by cases xs<;>rfl
theorem sK{α:Type}(c:α→D)(e:TypeId)(xs:List α):CK (.sl e (AP c xs))= !xs.isEmpty:=by simp only [CK,Z4]
theorem A7Y(e:TypeId):CK (.sl e [])=false:=nr rfl
theorem A7Z(e:TypeId)(x:D)(xs:List D):CK (.sl e (x::xs))=true:=nr rfl
theorem bL{α β:Type}(c:β→D)(f:α→List β)(e:TypeId)(xs:List α):CL (AP (fun x=>D.sl e (AP c (f x))) xs)=xs.any fun x=> !(f x).isEmpty:=by
 induction xs with
 | nil=>rfl
 | cons x xs ih=>simp only [IY,CL,sK,ih,List.any_cons]
theorem Z5{α:Type}(c:α→List D)(e:TypeId)(xs:List α):AZ (AP (fun x=>D.own e (c x)) xs)= !xs.isEmpty:=by
 cases xs with
 | nil=>rfl
 | cons x xs=>simp [IY,AZ,D.hasObj]
section
variable {pm:Pm} {s:St} {dst:Option Tmp}
theorem AFr(ls:List (AA×D))(r:D)(o:List D)(h:CK r=true):cb2 pm s dst ls (some (r,o))=if(De (ls.map (·.1))&&ls.all (fun l=>pm.wr (l.1.headD 0)))=true then(Ho ls).map fun ls'=>(back false s ls').putO dst r else none:=by
 simp [cb2,h]
theorem faN:Ho []=some []:=nr rfl
def fac(L:AA)(o:Option (List (AA×D))):Option D→Option (List (AA×D))
 | some c=>o.map ((L,c):: ·)
 | none=>none
theorem faC(L:AA)(c:D)(rest:List (AA×D)):Ho ((L,c)::rest)=fac L (Ho rest) (D7 c):=by
 simp only [Ho];cases D7 c<;>rfl
theorem AFs(L:AA)(ls:List (AA×D))(c:D):fac L (some ls) (some c)=some ((L,c)::ls):=nr rfl
end
def BB(xs:List (Int×Int))(n:Nat):Int:=(xs.getD n default).1
def Bt(xs:List (Int×Int))(n:Nat):Int:=(xs.getD n default).2
def AY(k l:IntKind)(xs:List (Int×Int)):List D:=Qq (fun x=>[D.int k x.1,D.int l x.2]) xs
theorem Bu(k l:IntKind):AY k l []=[]:=nr rfl
theorem KG(k l:IntKind)(x:Int×Int)(xs:List (Int×Int)):AY k l (x::xs)=D.int k x.1::D.int l x.2::AY k l xs:=nr rfl
theorem N8(k l:IntKind)(xs:List (Int×Int)):(AY k l xs).length=xs.length*2:=Sk _ 2 (fun _=>rfl) xs
theorem Sm(k l:IntKind)(xs:List (Int×Int)): ∀(n:Nat),n<xs.length→(AY k l xs)[n*2]? =some (D.int k (BB xs n))∧(AY k l xs)[n*2+1]? =some (D.int l (Bt xs n)):=by
 induction xs with
 | nil=>intro n h;simp at h
 | cons x xs ih=>
  intro n h
  cases n with
  | zero=>exact⟨rfl,rfl⟩
  | succ n=>
   have:=ih n (by simpa using h)
   rw [KG,Nat.succ_mul]
   exact this
theorem Z6(k l:IntKind)(xs:List (Int×Int))(n:Nat)(h:n<xs.length):(AY k l xs)[n*2]? =some (D.int k (BB xs n)):=(Sm k l xs n h).1
theorem gu(k l:IntKind)(xs:List (Int×Int))(n:Nat)(h:n<xs.length):(AY k l xs)[n*2+0]? =some (D.int k (BB xs n)):=(Sm k l xs n h).1
theorem Z7(k l:IntKind)(xs:List (Int×Int))(n:Nat)(h:n<xs.length):(AY k l xs)[n*2+1]? =some (D.int l (Bt xs n)):=(Sm k l xs n h).2
theorem Po(k l:IntKind)(v:Int): ∀(xs:List (Int×Int)) (n:Nat),n<xs.length→(AY k l xs).set (n*2) (D.int k v)=AY k l (xs.set n (v,Bt xs n)):=by
 intro xs
 induction xs with
 | nil=>intro n h;simp at h
 | cons x xs ih=>
  intro n h
  cases n with
  | zero=>rfl
  | succ n=>
   have:=ih n (by simpa using h)
   rw [KG,Nat.succ_mul,List.set_cons_succ,List.set_cons_succ,List.set_cons_succ,this,KG];rfl
theorem VO(k l:IntKind)(v:Int): ∀(xs:List (Int×Int)) (n:Nat),n<xs.length→(AY k l xs).set (n*2+1) (D.int l v)=AY k l (xs.set n (BB xs n,v)):=by
 intro xs
 induction xs with
 | nil=>intro n h;simp at h
 | cons x xs ih=>
  intro n h
  cases n with
  | zero=>rfl
  | succ n=>
   have:=ih n (by simpa using h)
   rw [KG,Nat.succ_mul,show n*2+2+1=n*2+1+1+1 by omega,List.set_cons_succ,List.set_cons_succ,List.set_cons_succ,this,KG];rfl
theorem Z8(k l:IntKind)(xs ys:List (Int×Int)):AY k l xs++AY k l ys=AY k l (xs++ys):=KV _ xs ys
theorem VP(k l:IntKind)(xs:List (Int×Int))(a b:Int):AY k l xs++[D.int k a,D.int l b]=AY k l (xs++[(a,b)]):=KV _ xs [(a,b)]
theorem bM(k l:IntKind)(xs:List (Int×Int))(a b:Int)(ds:List D):AY k l xs++(D.int k a::D.int l b::ds)=AY k l (xs++[(a,b)])++ds:=by
 rw [←VP,List.append_assoc];rfl
theorem gy(k l:IntKind)(xs:List (Int×Int))(n:Nat):(AY k l xs).take (n*2)=AY k l (xs.take n):=lI _ 2 (fun _=>rfl) xs n
theorem VQ(k l:IntKind)(xs:List (Int×Int))(n:Nat):(AY k l xs).drop (n*2)=AY k l (xs.drop n):=Yw _ 2 (fun _=>rfl) xs n
theorem QV(k l:IntKind)(xs:List (Int×Int)):AZ (AY k l xs)=false:=O5 _ xs (fun _=>by simp [AZ,D.hasObj])
theorem lT(k l:IntKind)(xs:List (Int×Int)):C9 (AY k l xs)=some (AY k l xs):=WT _ xs (fun _=>rfl)
theorem bN(k l:IntKind)(xs:List (Int×Int)):CL (AY k l xs)=false:=Pk _ xs (fun _=>rfl)
theorem bP(k l:IntKind)(xs:List (Int×Int)):(AY k l xs).all BS=true:=Pn _ xs (fun _=>rfl)
theorem WV(k l:IntKind)(xs:List (Int×Int)):(AY k l xs).isEmpty=xs.isEmpty:=by cases xs<;>rfl
theorem lU(k l:IntKind)(n:Nat)(a b:Int):(List.replicate n [D.int k a,D.int l b]).flatten=AY k l (List.replicate n (a,b)):=by
 simp [AY,Qq,List.flatMap_def]
theorem sM(k l:IntKind)(e:TypeId)(xs:List (Int×Int)):CK (.sl e (AY k l xs))= !xs.isEmpty:=by simp only [CK,WV]
theorem Z9{α:Type}(k l:IntKind)(f:α→List (Int×Int))(e:TypeId)(xs:List α):CL (AP (fun x=>D.sl e (AY k l (f x))) xs)=xs.any fun x=> !(f x).isEmpty:=by
 induction xs with
 | nil=>rfl
 | cons x xs ih=>simp only [IY,CL,sM,ih,List.any_cons]
def q4a(xs:List (Int×Int×Int×Int))(n:Nat):Int:=(xs.getD n default).1
def q4b(xs:List (Int×Int×Int×Int))(n:Nat):Int:=(xs.getD n default).2.1
def q4c(xs:List (Int×Int×Int×Int))(n:Nat):Int:=(xs.getD n default).2.2.1
def q4d(xs:List (Int×Int×Int×Int))(n:Nat):Int:=(xs.getD n default).2.2.2
def Ht(xs:List (Int×Int×Int×Int)):List D:=Qq (fun x=>[D.int .i64 x.1,D.int .i64 x.2.1,D.int .i64 x.2.2.1,D.int .i64 x.2.2.2]) xs
theorem VS(x:Int×Int×Int×Int)(xs:List (Int×Int×Int×Int)):Ht (x::xs)=D.int .i64 x.1::D.int .i64 x.2.1::D.int .i64 x.2.2.1::D.int .i64 x.2.2.2::Ht xs:=nr rfl
theorem N9(xs:List (Int×Int×Int×Int)):(Ht xs).length=xs.length*4:=Sk _ 4 (fun _=>rfl) xs
theorem ZA(xs ys:List (Int×Int×Int×Int)):Ht xs++Ht ys=Ht (xs++ys):=KV _ xs ys
theorem VT(xs:List (Int×Int×Int×Int))(a b c d:Int):Ht xs++[D.int .i64 a,D.int .i64 b,D.int .i64 c,D.int .i64 d]=Ht (xs++[(a,b,c,d)]):=KV _ xs [(a,b,c,d)]
theorem bQ(xs:List (Int×Int×Int×Int))(a b c d:Int)(ds:List D):Ht xs++(D.int .i64 a::D.int .i64 b::D.int .i64 c::D.int .i64 d::ds)=Ht (xs++[(a,b,c,d)])++ds:=by
 rw [←VT,List.append_assoc];rfl
theorem VU(xs:List (Int×Int×Int×Int))(n:Nat):(Ht xs).drop (n*4)=Ht (xs.drop n):=Yw _ 4 (fun _=>rfl) xs n
theorem ZB(xs:List (Int×Int×Int×Int)):AZ (Ht xs)=false:=O5 _ xs (fun _=>by simp [AZ,D.hasObj])
theorem lV(xs:List (Int×Int×Int×Int)):C9 (Ht xs)=some (Ht xs):=WT _ xs (fun _=>rfl)
theorem bR(xs:List (Int×Int×Int×Int)):CL (Ht xs)=false:=Pk _ xs (fun _=>rfl)
theorem bS(xs:List (Int×Int×Int×Int)):(Ht xs).all BS=true:=Pn _ xs (fun _=>rfl)
theorem lW{T:Tys}(e:TypeId)(xs:List (Int×Int×Int×Int))(h:T.size e=4):T.len e (Ht xs)=xs.length:=by
 unfold Tys.len
 rw [h,if_neg (by decide),N9,Nat.mul_div_cancel _ (by decide)]
theorem AFt{T:Tys}(e:TypeId)(n:Int)(xs:List (Int×Int×Int×Int))(hk:T.known e=true)(hz:T.size e=4)(hn:0≤n∧n.toNat<xs.length):VJ T e n (some (e,Ht xs,none))=some (.cptr [D.int .i64 (q4a xs n.toNat),D.int .i64 (q4b xs n.toNat),D.int .i64 (q4c xs n.toNat),D.int .i64 (q4d xs n.toNat)]):=by
 simp only [VJ,hk,lW e xs hz]
 rw [if_pos ⟨trivial,trivial,hn.1,hn.2⟩,hz,VU,List.drop_eq_getElem_cons hn.2,VS]
 unfold q4a q4b q4c q4d
 rw [List.getD_eq_getElem?_getD,List.getElem?_eq_getElem hn.2];rfl
section
variable {T:Tys} {pm:Pm} {s:St} {t:TypeId}
theorem lX(k l:IntKind)(e:TypeId)(xs:List (Int×Int))(h:T.size e=2):T.len e (AY k l xs)=xs.length:=by
 unfold Tys.len
 rw [h,if_neg (by decide),N8,Nat.mul_div_cancel _ (by decide)]
theorem AFu(k l:IntKind)(e:TypeId)(n:Int)(xs:List (Int×Int))(hk:T.known e=true)(hz:T.size e=2)(hn:0≤n∧n.toNat<xs.length):VJ T e n (some (e,AY k l xs,none))=some (.cptr [D.int k (BB xs n.toNat),D.int l (Bt xs n.toNat)]):=by
 simp only [VJ,hk,lX k l e xs hz]
 rw [if_pos ⟨trivial,trivial,hn.1,hn.2⟩,hz,VQ,List.drop_eq_getElem_cons hn.2,KG]
 unfold BB Bt
 rw [List.getD_eq_getElem?_getD,List.getElem?_eq_getElem hn.2];rfl
theorem AFv(k l:IntKind)(e:TypeId)(n:Int)(xs:List (Int×Int))(L:AA)(a b:Nat)(hk:T.known e=true)(hz:T.size e=2)(hn:0≤n∧n.toNat<xs.length):VJ T e n (some (e,AY k l xs,some (L,a,b)))=some (.pe L (n.toNat*2) a b):=by
 simp only [VJ,hk,lX k l e xs hz]
 rw [if_pos ⟨trivial,trivial,hn.1,hn.2⟩,hz]
theorem AFw(e:TypeId)(n:Int)(xs:List (Int×Int×Int×Int))(L:AA)(a b:Nat)(hk:T.known e=true)(hz:T.size e=4)(hn:0≤n∧n.toNat<xs.length):VJ T e n (some (e,Ht xs,some (L,a,b)))=some (.pe L (n.toNat*4) a b):=by
 simp only [VJ,hk,lW e xs hz]
 rw [if_pos ⟨trivial,trivial,hn.1,hn.2⟩,hz]
theorem NA(xs:List (Int×Int×Int×Int))(n:Nat)(h:n<xs.length):(Ht xs)[n*4]? =some (D.int .i64 (q4a xs n))∧(Ht xs)[n*4+1]? =some (D.int .i64 (q4b xs n))∧(Ht xs)[n*4+2]? =some (D.int .i64 (q4c xs n))∧(Ht xs)[n*4+3]? =some (D.int .i64 (q4d xs n)):=by
 have e:=VU xs n
 rw [List.drop_eq_getElem_cons h,VS]at e
 have g: ∀i,(Ht xs)[n*4+i]? =((Ht xs).drop (n*4))[i]? :=fun i=>by rw [List.getElem?_drop]
 have q:xs.getD n default=xs[n]:=by rw [List.getD_eq_getElem?_getD,List.getElem?_eq_getElem h];rfl
 unfold q4a q4b q4c q4d
 rw [q]
 refine⟨?_, ?_, ?_, ?_⟩
 ·have:=g 0;rw [e]at this;exact this
 ·rw [g 1,e];rfl
 ·rw [g 2,e];rfl
 ·rw [g 3,e];rfl
theorem AFx{n m:Nat}(h:n<m):n*4+4≤m*4:=by omega
theorem bT(xs:List (Int×Int×Int×Int))(n:Nat)(d:D)(h:n<xs.length):(Ht xs).getD (n*4) d=D.int .i64 (q4a xs n):=by rw [List.getD_eq_getElem?_getD,(NA xs n h).1];rfl
theorem bU(xs:List (Int×Int×Int×Int))(n:Nat)(d:D)(h:n<xs.length):(Ht xs).getD (n*4+1) d=D.int .i64 (q4b xs n):=by rw [List.getD_eq_getElem?_getD,(NA xs n h).2.1];rfl
theorem bV(xs:List (Int×Int×Int×Int))(n:Nat)(d:D)(h:n<xs.length):(Ht xs).getD (n*4+2) d=D.int .i64 (q4c xs n):=by rw [List.getD_eq_getElem?_getD,(NA xs n h).2.2.1];rfl
theorem bW(xs:List (Int×Int×Int×Int))(n:Nat)(d:D)(h:n<xs.length):(Ht xs).getD (n*4+3) d=D.int .i64 (q4d xs n):=by rw [List.getD_eq_getElem?_getD,(NA xs n h).2.2.2];rfl
theorem cs4(L:AA)(e:TypeId)(n:Nat)(xs:List (Int×Int×Int×Int))(h:n<xs.length):cellsOf s L (n*4) 4 (some (.own e (Ht xs)))=some (.agg [D.int .i64 (q4a xs n),D.int .i64 (q4b xs n),D.int .i64 (q4c xs n),D.int .i64 (q4d xs n)]):=by
 obtain⟨h0,h1,h2,h3⟩:=NA xs n h
 show(if n*4+4≤(Ht xs).length then BU (.agg ((List.range 4).map fun i=>DZ s L (n*4+i) ((Ht xs).getD (n*4+i) .undef)))else none)=_
 rw [if_pos (by rw [N9];omega),rg4,Nat.add_zero,List.getD_eq_getElem?_getD,List.getD_eq_getElem?_getD,List.getD_eq_getElem?_getD,List.getD_eq_getElem?_getD,h0,h1,h2,h3];rfl
def sq1(T:Tys)(pm:Pm)(t:TypeId)(u:Tmp)(a b:D)(s:St):Option D→Nat→AA→Option St
 | some (.own e xs),c,L=>if T.known t&&T.isStruct t&&pm.wr (L.headD 0)&&BS a&&BS b&&(T.size t==2)&&decide (c+2≤xs.length)&& !a.hasObj&& !b.hasObj&& !AZ xs then some (s.set L (.own e ((xs.set c a).set (c+1) b)))else VK T pm t (.tmp u) (some (.agg [a,b],s))
 | _,_,_=>VK T pm t (.tmp u) (some (.agg [a,b],s))
theorem AFy(u:Tmp)(a b:D)(L:AA)(c n m:Nat)(h:s.v u= .pe L c n m):VK T pm t (.tmp u) (some (.agg [a,b],s))=sq1 T pm t u a b s (s.look pm L n m) c L:=by
 cases hl:s.look pm L n m with
 | none=>rfl
 | some o=>
  cases o<;>try rfl
  rename_i e xs
  simp only [sq1]
  split
  ·rename_i hc
   simp only [Bool.and_eq_true,beq_iff_eq,decide_eq_true_eq,Bool.not_eq_true']at hc
   obtain⟨⟨⟨⟨⟨⟨⟨⟨⟨hk,hs⟩,hw⟩,ha⟩,hb⟩,hz⟩,hl2⟩,ha2⟩,hb2⟩,hx2⟩:=hc
   simp only [VK,ev,h,FU,hl,D.asCells,D.isAgg,D.cells,D.withCells,hk,hs,hw,hz,List.all_cons,ha,hb,List.all_nil,Bool.and_self,List.length_cons,List.length_nil,beq_self_eq_true,Bool.true_and,D.hasObj,AZ,ha2,hb2,hx2,Bool.or_self,Bool.false_eq_true,if_false,Ba]
   rw [if_pos (by simpa using hl2)]
  ·rfl
theorem AFz(u:Tmp)(a b:D)(L:AA)(c n m:Nat)(h:s.v u= .pe L c n m):sw1 T pm t u [a,b] s (.pe L c n m)=sq1 T pm t u a b s (s.look pm L n m) c L:=by
 rw [←AFy u a b L c n m h];rfl
theorem bX(k l:IntKind)(xs:List (Int×Int))(n:Nat)(a b:Int)(h:n<xs.length):((AY k l xs).set (n*2) (D.int k a)).set (n*2+1) (D.int l b)=AY k l (xs.set n (a,b)):=by
 rw [Po k l a xs n h,VO k l b _ n (by simpa using h),List.set_set]
 congr 2
 simp [BB,List.getD_eq_getElem?_getD,h]
theorem AG0(k l:IntKind)(u:Tmp)(a b:Int)(L:AA)(e:TypeId)(n:Nat)(xs:List (Int×Int))(hk:T.known t=true)(hs:T.isStruct t=true)(hw:pm.wr (L.headD 0)=true)(hz:T.size t=2)(h:n<xs.length):
  sq1 T pm t u (.int k a) (.int l b) s (some (.own e (AY k l xs))) (n*2) L=some (s.set L (.own e (AY k l (xs.set n (a,b))))):=by
 simp only [sq1]
 rw [if_pos,bX k l xs n a b h]
 simp only [hk,hs,hw,hz,BS,N8,QV,D.hasObj,Bool.and_eq_true,decide_eq_true_eq,beq_self_eq_true,Bool.not_false,and_true,true_and]
 omega
end
set_option linter.defProp false
def Ac:=And.intro @AFq (And.intro @Sl (And.intro @Z5 (And.intro @sK (And.intro @A7Y (And.intro @A7Z (And.intro @bL (And.intro @AFr (And.intro @faN (And.intro @faC (And.intro @AFs (And.intro @AFl (And.intro @A7U (And.intro @Si (And.intro @A1W (And.intro @Yu (And.intro @dw (And.intro @bI (And.intro @gq (And.intro @gp
 (And.intro @lD (And.intro @lF (And.intro @Sj (And.intro @qc (And.intro @Yy (And.intro @lJ (And.intro @gm (And.intro @VN (And.intro @A1X (And.intro @qi (And.intro @Yz (And.intro @WU (And.intro @qf (And.intro @qg (And.intro @lL (And.intro @lM (And.intro @lN (And.intro @lQ (And.intro @Z0 (And.intro @lK (And.intro @bK (And.intro @dz (And.intro @qh (And.intro @lS
 (And.intro @KV (And.intro @O5 (And.intro @WT (And.intro @Pk (And.intro @Pn (And.intro @lG (And.intro @qd (And.intro @lH
 (And.intro @AFm (And.intro @AFn (And.intro @AFo (And.intro @AFp (And.intro @A7V (And.intro @A7W @A7X)))))))))))))))))))))))))))))))))))))))))))))))))))))))))
theorem tk2(a b:D)(l:List D):List.take 2 (a::b::l)=[a,b]:=nr rfl
theorem tk3(a b c:D)(l:List D):List.take 3 (a::b::c::l)=[a,b,c]:=nr rfl
theorem tk4(a b c d:D)(l:List D):List.take 4 (a::b::c::d::l)=[a,b,c,d]:=nr rfl
theorem dr0(l:List D):List.drop 0 l=l:=nr rfl
theorem dr1(a:D)(l:List D):List.drop 1 (a::l)=l:=nr rfl
theorem dr2(a0 a1:D)(l:List D):List.drop 2 (a0::a1::l)=l:=nr rfl
theorem dr3(a0 a1 a2:D)(l:List D):List.drop 3 (a0::a1::a2::l)=l:=nr rfl
theorem dr4(a0 a1 a2 a3:D)(l:List D):List.drop 4 (a0::a1::a2::a3::l)=l:=nr rfl
theorem dr5(a0 a1 a2 a3 a4:D)(l:List D):List.drop 5 (a0::a1::a2::a3::a4::l)=l:=nr rfl
theorem dr6(a0 a1 a2 a3 a4 a5:D)(l:List D):List.drop 6 (a0::a1::a2::a3::a4::a5::l)=l:=nr rfl
theorem dr7(a0 a1 a2 a3 a4 a5 a6:D)(l:List D):List.drop 7 (a0::a1::a2::a3::a4::a5::a6::l)=l:=nr rfl
theorem dr8(a0 a1 a2 a3 a4 a5 a6 a7:D)(l:List D):List.drop 8 (a0::a1::a2::a3::a4::a5::a6::a7::l)=l:=nr rfl
theorem dr9(a0 a1 a2 a3 a4 a5 a6 a7 a8:D)(l:List D):List.drop 9 (a0::a1::a2::a3::a4::a5::a6::a7::a8::l)=l:=nr rfl
theorem AG1(a0 a1 a2 a3 a4 a5 a6 a7 a8 a9:D)(l:List D):List.drop 10 (a0::a1::a2::a3::a4::a5::a6::a7::a8::a9::l)=l:=nr rfl
theorem AG2(a0 a1 a2 a3 a4 a5 a6 a7 a8 a9 a10:D)(l:List D):List.drop 11 (a0::a1::a2::a3::a4::a5::a6::a7::a8::a9::a10::l)=l:=nr rfl
theorem A7b{n m:Nat}(h:n<m):n*2<m*2:=by omega
theorem A1Y{n m:Nat}(h:n<m):n*2+0<m*2:=by omega
theorem A7c{n m:Nat}(h:n<m):n*2+1<m*2:=by omega
theorem A7d{n m:Nat}(h:n<m):n*2+2≤m*2:=by omega
theorem bY(k l:IntKind)(v:Int)(xs:List (Int×Int))(n:Nat)(h:n<xs.length):(AY k l xs).set (n*2+0) (D.int k v)=AY k l (xs.set n (v,Bt xs n)):=Po k l v xs n h
theorem Sn(k l:IntKind)(xs:List (Int×Int))(n:Nat)(d:D)(h:n<xs.length):(AY k l xs).getD (n*2) d=D.int k (BB xs n):=by rw [List.getD_eq_getElem?_getD,Z6 k l xs n h];rfl
theorem ZC(k l:IntKind)(xs:List (Int×Int))(n:Nat)(d:D)(h:n<xs.length):(AY k l xs).getD (n*2+0) d=D.int k (BB xs n):=Sn k l xs n d h
theorem bZ(k l:IntKind)(xs:List (Int×Int))(n:Nat)(d:D)(h:n<xs.length):(AY k l xs).getD (n*2+1) d=D.int l (Bt xs n):=by rw [List.getD_eq_getElem?_getD,Z7 k l xs n h];rfl
def BP:=And.intro @AFw (And.intro @cs4 (And.intro @AFx (And.intro @bT (And.intro @bU (And.intro @bV (And.intro @bW (And.intro @Nat.add_zero (And.intro @N9 (And.intro @ZA (And.intro @VT (And.intro @bQ (And.intro @ZB (And.intro @lV (And.intro @bR (And.intro @bS (And.intro @lW (And.intro @AFt (And.intro @N8 (And.intro @Z6 (And.intro @gu (And.intro @Z7 (And.intro @Z8 (And.intro @VP (And.intro @bM (And.intro @gy (And.intro @VQ (And.intro @QV (And.intro @lT (And.intro @bN (And.intro @bP (And.intro @lU (And.intro @sM (And.intro @Z9 (And.intro @lX (And.intro @AFu (And.intro @AFv (And.intro @AFz (And.intro @tk2 (And.intro @tk3 (And.intro @tk4 (And.intro @dr0 (And.intro @dr1 (And.intro @dr2 (And.intro @dr3 (And.intro @dr4 (And.intro @dr5 (And.intro @dr6 (And.intro @dr7 (And.intro @dr8 (And.intro @dr9 (And.intro @AG1 (And.intro @AG2 (And.intro @A7b (And.intro @A1Y (And.intro @A7c (And.intro @A7d (And.intro @Po (And.intro @bY (And.intro @VO (And.intro @Sn (And.intro @ZC (And.intro @bZ (And.intro @List.length_set.{0} (@AG0))))))))))))))))))))))))))))))))))))))))))))))))))))))))))))))))
def AJ:=And.intro @implies_true.{1} (And.intro @Option.bind_some.{0,0} (And.intro @Option.map_some.{0,0} (And.intro @Option.isSome_some.{0} (And.intro @List.contains_cons.{0} (And.intro @List.contains_nil.{0} (And.intro @List.getD_cons_zero.{0} (And.intro @List.getD_cons_succ.{0} (And.intro @List.getD_nil.{0} (And.intro @List.length_cons.{0} (And.intro @List.length_nil.{0} (And.intro @List.size_toArray.{0} (And.intro @List.toList_toArray.{0} (And.intro @List.zip_cons_cons.{0,0} (And.intro @List.zip_nil_left.{0,0} (And.intro @List.append_nil.{0} (And.intro @List.nil_append.{0} (And.intro @List.cons_append.{0} (And.intro @List.map_cons.{0,0} (And.intro @List.map_nil.{0,0} (And.intro @List.replicate_succ.{0} (And.intro @List.replicate_zero.{0} (And.intro @List.set_cons_zero.{0} (And.intro @List.set_cons_succ.{0} (And.intro @List.set_set.{0} (And.intro @List.all_cons.{0} (And.intro @List.any_cons.{0} (And.intro @List.any_nil.{0} (And.intro @List.all_nil.{0} (And.intro @List.getElem?_cons_zero.{0} (And.intro @List.getElem?_cons_succ.{0} (And.intro @List.getElem?_nil.{0} (@beq_self_eq_true.{0}))))))))))))))))))))))))))))))))
end Dv
namespace Dv
open Go
section
variable {σ ρ α β:Type}
theorem Bd(f:σ→Option (σ⊕ρ))(st:Nat→σ): ∀(n:Nat) (r:ρ),(∀i,i<n→f (st i)=some (.inl (st (i+1))))→f (st n)=some (.inr r)→Hy f (st 0)=some r:=by
 intro n r h e
 have key: ∀k,k≤n→Hy f (st (n-k))=some r:=by
  intro k
  induction k with
  | zero=>intro _;exact IX e
  | succ k ih=>
   intro hk
   have h1:=h (n-(k+1)) (by omega)
   rw [Ku h1,show n-(k+1)+1=n-k by omega]
   exact ih (by omega)
 have:=key n (Nat.le_refl _)
 rwa [Nat.sub_self]at this
theorem eB(f:σ→Option (σ⊕ρ))(I:Nat→σ→Prop)(Q:ρ→Prop)(step: ∀n s,I n s→(∃s' m,f s=some (.inl s')∧m<n∧I m s')∨(∃r,f s=some (.inr r)∧Q r)):
  ∀(n:Nat) (s:σ),I n s→ ∃r,Hy f s=some r∧Q r:=by
 intro n
 induction n using Nat.strongRecOn with
 | _ n ih=>
  intro s hI
  rcases step n s hI with⟨s',m,h1,h2,h3⟩ | ⟨r,h1,h2⟩
  ·rw [Ku h1];exact ih m h2 s' h3
  ·exact⟨r,IX h1,h2⟩
theorem lY(f:σ→Option (σ⊕ρ))(mk:Nat→β→σ)(P:Nat→β→Prop)(xs:List α)(g:β→α→β)(fin:β→ρ)
  (h: ∀(i:Nat) (b:β) (hi:i<xs.length),P i b→f (mk i b)=some (.inl (mk (i+1) (g b xs[i])))∧P (i+1) (g b xs[i]))
  (e: ∀b,P xs.length b→f (mk xs.length b)=some (.inr (fin b)))(b0:β)(h0:P 0 b0):Hy f (mk 0 b0)=some (fin (xs.foldl g b0))∧P xs.length (xs.foldl g b0):=by
 have key: ∀(k:Nat) (b:β),k≤xs.length→P (xs.length-k) b→Hy f (mk (xs.length-k) b)=some (fin ((xs.drop (xs.length-k)).foldl g b))∧P xs.length ((xs.drop (xs.length-k)).foldl g b):=by
  intro k
  induction k with
  | zero=>intro b _ hp;simp only [Nat.sub_zero,List.drop_length,List.foldl_nil]at hp ⊢;exact⟨IX (e b hp),hp⟩
  | succ k ih=>
   intro b hk hp
   have hl:xs.length-(k+1)<xs.length:=by omega
   obtain⟨h1,h2⟩:=h (xs.length-(k+1)) b hl hp
   rw [List.drop_eq_getElem_cons hl,List.foldl_cons,Ku h1]
   have e1:xs.length-(k+1)+1=xs.length-k:=by omega
   rw [e1]at h2 ⊢
   exact ih _ (by omega) h2
 have:=key xs.length b0 (Nat.le_refl _) (by rwa [Nat.sub_self])
 rwa [Nat.sub_self,List.drop_zero]at this
end
theorem O7{n:Nat}{P:Nat→Bool}(h: ¬ ∀i,i<n→P i=true): ∃m,m<n∧P m=false∧ ∀i,i<m→P i=true:=by
 induction n with
 | zero=>exact absurd (fun i hi=>absurd hi (Nat.not_lt_zero _)) h
 | succ n ih=>
  by_cases hn: ∀i,i<n→P i=true
  ·refine⟨n,Nat.lt_succ_self _, ?_,hn⟩
   cases hp:P n with
   | false=>rfl
   | true=>exact absurd (fun i hi=>by rcases Nat.lt_succ_iff_lt_or_eq.1 hi with h1 | rfl;exact hn i h1;exact hp) h
  ·obtain⟨m,h1,h2,h3⟩:=ih hn
   exact⟨m,by omega,h2,h3⟩
theorem Gw{n:Nat}{P:Nat→Bool}:(List.range n).all P=true↔ ∀i,i<n→P i=true:=by
 simp [List.all_eq_true]
theorem lZ{σ ρ:Type}(f:σ→Option (σ⊕ρ))(st:Nat→σ)(n:Nat)(P:Nat→Bool)(bad good:ρ)
  (h: ∀i,i<n→(∀j,j<i→P j=true)→f (st i)=if P i=true then some (.inl (st (i+1)))else some (.inr bad))(e:(∀j,j<n→P j=true)→f (st n)=some (.inr good)):Hy f (st 0)=some (if(List.range n).all P=true then good else bad):=by
 by_cases hp: ∀i,i<n→P i=true
 ·rw [if_pos (Gw.2 hp)]
  refine Bd f st n good (fun i hi=> ?_) (e hp)
  rw [h i hi (fun j hj=>hp j (by omega)),if_pos (hp i hi)]
 ·rw [if_neg (fun hc=>hp (Gw.1 hc))]
  obtain⟨m,h1,h2,h3⟩:=O7 hp
  refine Bd f st m bad (fun i hi=> ?_) ?_
  ·rw [h i (by omega) (fun j hj=>h3 j (by omega)),if_pos (h3 i hi)]
  ·rw [h m h1 h3,h2];rfl
theorem IZ{σ ρ:Type}(f:σ→Option (σ⊕ρ))(st:Nat→σ)(n:Nat)(P:Nat→Bool)(bad good:ρ)
  (h: ∀i,i<n→f (st i)=if P i=true then some (.inl (st (i+1)))else some (.inr bad))(e:f (st n)=some (.inr good)):Hy f (st 0)=some (if(List.range n).all P=true then good else bad):=
 lZ f st n P bad good (fun i hi _=>h i hi) (fun _=>e)
theorem ZE{α:Type}[Inhabited α](p:α→Bool)(xs:List α):(List.range xs.length).all (fun i=>p (xs.getD i default))=xs.all p:=by
 rw [Bool.eq_iff_iff,Gw,List.all_eq_true]
 constructor
 ·intro h x hx
  obtain⟨i,hi,rfl⟩:=List.getElem_of_mem hx
  have:=h i hi
  rwa [List.getD_eq_getElem?_getD,List.getElem?_eq_getElem hi]at this
 ·intro h i hi
  rw [List.getD_eq_getElem?_getD,List.getElem?_eq_getElem hi]
  exact h _ (List.getElem_mem hi)
theorem Sq{α:Type}[DecidableEq α][Inhabited α](a b:List α)(hl:a.length=b.length):(List.range a.length).all (fun i=>decide (a.getD i default=b.getD i default))=decide (a=b):=by
 by_cases he:a=b
 ·subst he;simp
 ·rw [decide_eq_false he,Bool.eq_false_iff]
  intro hc
  rw [Gw]at hc
  refine he (List.ext_getElem hl fun i h1 h2=> ?_)
  have:=hc i h1
  rw [List.getD_eq_getElem?_getD,List.getD_eq_getElem?_getD,List.getElem?_eq_getElem h1,List.getElem?_eq_getElem h2]at this
  simpa using this
theorem lg{α γ:Type}(f:List γ×Int→Option ((List γ×Int)⊕List γ))(xs:List α)(g:α→γ)
  (h: ∀(i:Nat) (hi:i<xs.length) (out:List γ),out.length=i→f (out,(i:Int))=some (.inl (out++[g xs[i]],((i+1:Nat):Int))))
  (e: ∀out:List γ,out.length=xs.length→f (out,(xs.length:Int))=some (.inr out)):Hy f ([],0)=some (xs.map g):=by
 have key:=Bd f (fun i=>((xs.take i).map g,(i:Int))) xs.length (xs.map g) ?_ ?_
 ·simpa using key
 ·intro i hi
  have:=h i hi ((xs.take i).map g) (by simp;omega)
  rw [this,List.take_succ_eq_append_getElem hi,List.map_append];rfl
 ·simp only [List.take_length]
  exact e _ (by simp)
theorem KH(i:Nat)(h:i<4611686018427387904):IntKind.i64.wrap ((i:Int)+1)=((i+1:Nat):Int):=by
 rw [LP _ (by omega)];rfl
theorem Av{α:Type}[Inhabited α](xs:List α)(i:Nat)(h:i<xs.length):xs.getD i default=xs[i]:=by
 rw [List.getD_eq_getElem?_getD,List.getElem?_eq_getElem h];rfl
theorem Ia{α:Type}[Inhabited α](xs:List α)(i:Nat)(h:i<xs.length):xs.getD (i:Int).toNat default=xs[i]:=by
 rw [Int.toNat_natCast];exact Av xs i h
theorem BL{α:Type}{c:Prop}[Decidable c]{o:Option α}(h:c):ck c o=o:=if_pos h
theorem BV{i n:Nat}(h:i<n):(i:Int)<(n:Int):=by omega
theorem Ag(n:Nat): ¬(n:Int)<(n:Int):=by omega
theorem Ew{i n:Nat}(h:i<n):0≤(i:Int)∧(i:Int).toNat<n:=by omega
theorem KW{α:Type}[Inhabited α](a b:List α)(i:Nat)(h:i=a.length)(hb:0<b.length):(a++b).getD i default=b[0]:=by
 subst h
 rw [List.getD_eq_getElem?_getD,List.getElem?_append_right (Nat.le_refl _),Nat.sub_self,List.getElem?_eq_getElem hb];rfl
end Dv
namespace Dv
open Go
def VV(x:Int×Int):List D:=[D.int .i64 x.1,D.int .i64 x.2]
def lh(xs:List (Int×Int)):Prop:=xs.length≤maxLen∧ ∀x∈xs,l8 x.1∧l8 x.2
def bf(xss:List (List (Int×Int))):Prop:=xss.length≤maxLen∧ ∀xs∈xss,lh xs
section
variable {T:Tys} {t e a:TypeId} {d:D}
theorem qj{ds:List D}(he:T.ty e= .struct [a,a])(ha:T.ty a= .int .i64)(h:Shp T e ds): ∃x:Int×Int,ds=VV x∧l8 x.1∧l8 x.2:=by
 obtain⟨hl,hx⟩:=VM he h
 rcases ds with _ | ⟨d0,_ | ⟨d1,_ | ⟨_,_⟩⟩⟩<;>simp at hl
 obtain⟨p,h0,hl0⟩:=bD ha (hx 0 a d0 rfl rfl)
 obtain⟨q,h1,hl1⟩:=bD ha (hx 1 a d1 rfl rfl)
 simp only [List.cons.injEq,and_true]at h0 h1
 subst h0 h1
 exact⟨(p,q),rfl,hl0,hl1⟩
theorem ll{ds:List D}(ht:T.ty t= .slice e)(he:T.ty e= .struct [a,a])(ha:T.ty a= .int .i64)(h:Shp T t ds): ∃xs,ds=[.sl e (Qq VV xs)]∧lh xs:=by
 obtain⟨xss,rfl,hx,hl⟩:=Sd ht h
 have: ∀xss:List (List D),(∀xs,xs∈xss→Shp T e xs)→ ∃ys,xss.flatten=Qq VV ys∧ys.length=xss.length∧ ∀y∈ys,l8 y.1∧l8 y.2:=by
  intro xss
  induction xss with
  | nil=>intro _;exact⟨[],rfl,rfl,by simp⟩
  | cons xs xss ih=>
   intro hx
   obtain⟨n,rfl,hn⟩:=qj he ha (hx xs (List.mem_cons_self))
   obtain⟨ys,h1,h2,h3⟩:=ih (fun q hq=>hx q (List.mem_cons_of_mem _ hq))
   refine⟨n::ys,by rw [List.flatten_cons,h1];rfl,by simp [h2],fun y hy=> ?_⟩
   rcases List.mem_cons.1 hy with rfl | hy
   ·exact hn
   ·exact h3 y hy
 obtain⟨ys,h1,h2,h3⟩:=this xss hx
 exact⟨ys,by rw [h1],by omega,h3⟩
theorem gz{e2:TypeId}{ds:List D}(ht:T.ty t= .slice e)(he:T.ty e= .slice e2)(he2:T.ty e2= .struct [a,a])(ha:T.ty a= .int .i64)(h:Shp T t ds): ∃xss,ds=[.sl e (AP (fun x=> .sl e2 (Qq VV x)) xss)]∧bf xss:=by
 obtain⟨xss,rfl,hx,hl⟩:=Sd ht h
 have: ∀xss:List (List D),(∀xs,xs∈xss→Shp T e xs)→ ∃ys,xss.flatten=AP (fun x=> .sl e2 (Qq VV x)) ys∧ys.length=xss.length∧ ∀y∈ys,lh y:=by
  intro xss
  induction xss with
  | nil=>intro _;exact⟨[],rfl,rfl,by simp⟩
  | cons xs xss ih=>
   intro hx
   obtain⟨n,rfl,hn⟩:=ll he he2 ha (hx xs (List.mem_cons_self))
   obtain⟨ys,h1,h2,h3⟩:=ih (fun q hq=>hx q (List.mem_cons_of_mem _ hq))
   refine⟨n::ys,by rw [List.flatten_cons,h1];rfl,by simp [h2],fun y hy=> ?_⟩
   rcases List.mem_cons.1 hy with rfl | hy
   ·exact hn
   ·exact h3 y hy
 obtain⟨ys,h1,h2,h3⟩:=this xss hx
 exact⟨ys,by rw [h1],by omega,h3⟩
theorem bg{b c e2:TypeId}(ht:T.ty t= .struct [b,c,c])(hb:T.ty b= .slice e)(he:T.ty e= .slice e2)(he2:T.ty e2= .struct [a,a])(ha:T.ty a= .int .i64)(hc:T.ty c= .slice a)(h:Arg T t d):
  ∃es is js,d= .agg [.sl e (AP (fun x=> .sl e2 (Qq VV x)) es), .sl a (CJ is), .sl a (CJ js)]∧bf es∧A1L is∧A1L js:=by
 obtain⟨ds,rfl,hl,hx⟩:=gY ht h
 rcases ds with _ | ⟨d0,_ | ⟨d1,_ | ⟨d2,_ | ⟨_,_⟩⟩⟩⟩<;>simp at hl
 obtain⟨es,h0,hl0⟩:=gz hb he he2 ha (hx 0 b d0 rfl rfl)
 obtain⟨is,h1,hl1⟩:=dh hc ha (hx 1 c d1 rfl rfl)
 obtain⟨js,h2,hl2⟩:=dh hc ha (hx 2 c d2 rfl rfl)
 simp only [List.cons.injEq,and_true]at h0 h1 h2
 subst h0 h1 h2
 exact⟨es,is,js,rfl,hl0,hl1,hl2⟩
end
end Dv
