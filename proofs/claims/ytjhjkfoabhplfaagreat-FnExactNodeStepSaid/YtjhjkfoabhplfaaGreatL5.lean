/- Value semantics for Go code, part 5: typed lists, loops as functions. Conditions: none beyond those in each lemma. -/
import Derived.Test.YtjhjkfoabhplfaaGreatL4
set_option linter.unusedSimpArgs false
set_option linter.unusedVariables false
namespace Dv
open Go
set_option maxRecDepth 10000
def ck{α:Type}(c:Prop)[Decidable c](o:Option α):Option α:=if c then o else none
section
variable {σ ρ:Type}
def mX(f:σ→Option (σ⊕ρ)):Nat→σ→Option ρ
 | 0,_=>none
 | n+1,s=>
  match f s with
  | none=>none
  | some (.inl s')=>mX f n s'
  | some (.inr r)=>some r
open Classical in
noncomputable def GQ(f:σ→Option (σ⊕ρ))(s:σ):Option ρ:=if h: ∃r n,mX f n s=some r then some h.choose else none
theorem jM{f:σ→Option (σ⊕ρ)}: ∀ {n m:Nat} {s:σ} {r:ρ},n≤m→mX f n s=some r→mX f m s=some r:=by
 intro n
 induction n with
 | zero=>intro m s r _ h;simp [mX]at h
 | succ n ih=>
  intro m s r hm h
  cases m with
  | zero=>omega
  | succ m=>
   simp only [mX]at h ⊢
   cases hs:f s with
   | none=>simp [hs]at h
   | some q=>
    cases q with
    | inl s'=>simp only [hs]at h ⊢;exact ih (by omega) h
    | inr r'=>simp only [hs]at h ⊢;exact h
theorem bU{f:σ→Option (σ⊕ρ)}{n:Nat}{s:σ}{r:ρ}(h:mX f n s=some r):GQ f s=some r:=by
 unfold GQ;have hx: ∃r n,mX f n s=some r:=⟨r,n,h⟩;rw [dif_pos hx];obtain⟨n',h'⟩:=hx.choose_spec;have h1:=jM (Nat.le_max_left n n') h;have h2:=jM (Nat.le_max_right n n') h';rw [h1]at h2;exact h2.symm
theorem Xj{f:σ→Option (σ⊕ρ)}{s:σ}{r:ρ}(h:GQ f s=some r): ∃n,mX f n s=some r:=by
 unfold GQ at h
 split at h
 ·rename_i hx
  simp only [Option.some.injEq]at h;subst h;exact hx.choose_spec
 ·cases h
theorem MC{f:σ→Option (σ⊕ρ)}{s s':σ}(h:f s=some (.inl s')):GQ f s=GQ f s':=by
 cases hi:GQ f s' with
 | some r=>
  obtain⟨n,hn⟩:=Xj hi;exact bU (n:=n+1) (by simp only [mX,h];exact hn)
 | none=>
  cases hj:GQ f s with
  | none=>rfl
  | some r=>
   obtain⟨n,hn⟩:=Xj hj
   cases n with
   | zero=>simp [mX]at hn
   | succ n=>
    simp only [mX,h]at hn;rw [bU hn]at hi;cases hi
theorem FR{f:σ→Option (σ⊕ρ)}{s:σ}{r:ρ}(h:f s=some (.inr r)):GQ f s=some r:=bU (n:=1) (by simp [mX,h])
end
def ow{σ ρ:Type}(M:σ→St→Prop)(X:ρ→Ex→St→Prop):σ⊕ρ→Ex→St→Prop
 | .inl v,.normal,s=>M v s
 | .inl _,_,_=>False
 | .inr _,.normal,_=>False
 | .inr r,ex,s=>X r ex s
theorem Ef{σ ρ:Type}(M:σ→St→Prop)(X:ρ→Ex→St→Prop)(v:σ)(s:St):ow M X (.inl v) .normal s=M v s:=nr rfl
theorem JK{σ ρ:Type}(M:σ→St→Prop)(X:ρ→Ex→St→Prop)(r:ρ)(j:Nat)(s:St):ow M X (.inr r) (.exit j) s=X r (.exit j) s:=nr rfl
theorem Sv{σ ρ:Type}(M:σ→St→Prop)(X:ρ→Ex→St→Prop)(r:ρ)(s:St):ow M X (.inr r) .ret s=X r .ret s:=nr rfl
theorem Ao{E:Env}{c:SC}{σ ρ:Type}(f:σ→Option (σ⊕ρ))(M:σ→St→Prop)(X:ρ→Ex→St→Prop)
  (hstep: ∀v s o,M v s→f v=some o→BZ E c (ow M X o) s){v:σ}{s:St}{r:ρ}(h:GQ f v=some r)(hM:M v s):BZ E (.loop c) (X r) s:=by
 obtain⟨n,hn⟩:=Xj h
 induction n generalizing v s with
 | zero=>simp [mX]at hn
 | succ n ih=>
  simp only [mX]at hn
  cases hf:f v with
  | none=>simp [hf]at hn
  | some o=>
   obtain⟨ex,s1,h1,h2⟩:=hstep v s o hM hf
   cases o with
   | inl v'=>
    simp only [hf]at hn
    cases ex with
    | normal=>
     obtain⟨ex',s2,h3,h4⟩:=ih (bU hn) h2 hn
     refine⟨ex',s2, ?_,h4⟩
     simp only [EW]at h3 ⊢;rw [bN,h1];exact h3
    | exit id=>exact h2.elim
    | ret=>exact h2.elim
   | inr r'=>
    simp only [hf,Option.some.injEq]at hn;subst hn
    cases ex with
    | normal=>exact h2.elim
    | exit id=>exact⟨_,s1,by simp only [EW];rw [bN,h1],h2⟩
    | ret=>exact⟨_,s1,by simp only [EW];rw [bN,h1],h2⟩
def A8{α:Type}(c:α→D)(xs:List α):List D:=xs.map c
def cat{α:Type}(c:α→List D)(xs:List α):List D:=xs.flatMap c
section
variable {α:Type} (c:α→D)
theorem bV:A8 c []=[]:=nr rfl
theorem MZ(x:α)(xs:List α):A8 c (x::xs)=c x::A8 c xs:=nr rfl
theorem CK(xs:List α):(A8 c xs).length=xs.length:=by simp [A8]
theorem jO[Inhabited α](xs:List α)(i:Nat)(h:i<xs.length):(A8 c xs).getD i .undef=c (xs.getD i default):=by
 simp [A8,Kw,h]
theorem A4U[Inhabited α](xs:List α)(i:Nat)(h:i<xs.length):(A8 c xs)[i]? =some (c (xs.getD i default)):=by
 simp [A8,Kw,h]
theorem oz(xs:List α)(i:Nat)(y:α):(A8 c xs).set i (c y)=A8 c (xs.set i y):=by simp [A8]
theorem mY(xs ys:List α):A8 c xs++A8 c ys=A8 c (xs++ys):=by simp [A8]
theorem wG(xs:List α)(n:Nat):(A8 c xs).take n=A8 c (xs.take n):=by simp [A8]
theorem wH(xs:List α)(n:Nat):(A8 c xs).drop n=A8 c (xs.drop n):=by simp [A8]
theorem Xk(xs:List α)(h: ∀x,(c x).hasObj=false):Ac (A8 c xs)=false:=by
 induction xs with
 | nil=>rfl
 | cons x xs ih=>simp only [MZ,Ac,h,ih];rfl
theorem A0C(xs:List α)(h: ∀x,Dl (c x)=some (c x)):ES (A8 c xs)=some (A8 c xs):=by
 induction xs with
 | nil=>rfl
 | cons x xs ih=>simp only [MZ,ES,h,ih];rfl
theorem wI(c:α→List D)(c':α→List D)(e:TypeId)(xs:List α)(h: ∀x,ES (c x)=some (c' x)):ES (A8 (fun x=>D.own e (c x)) xs)=some (A8 (fun x=>D.sl e (c' x)) xs):=by
 induction xs with
 | nil=>rfl
 | cons x xs ih=>simp only [MZ,ES,Dl,h,ih];rfl
theorem rT(xs:List α)(h: ∀x,EK (c x)=false):Hl (A8 c xs)=false:=by
 induction xs with
 | nil=>rfl
 | cons x xs ih=>simp only [MZ,Hl,h,ih];rfl
theorem Zr(xs:List α)(h: ∀x,Cz (c x)=true):(A8 c xs).all Cz=true:=by simp [A8,h]
end
section
variable {α:Type} (c:α→List D) (n:Nat)
theorem A0D:cat c []=[]:=nr rfl
theorem jP(x:α)(xs:List α):cat c (x::xs)=c x++cat c xs:=nr rfl
theorem mZ(h: ∀x,(c x).length=n)(xs:List α):(cat c xs).length=xs.length*n:=by
 induction xs with
 | nil=>simp [A0D]
 | cons x xs ih=>simp only [jP,Jq,h,ih,Ik,Nat.succ_mul];omega
theorem ma(xs:List α)(h: ∀x,Ac (c x)=false):Ac (cat c xs)=false:=by
 have app: ∀(as bs:List D),Ac (as++bs)=(Ac as||Ac bs):=by
  intro as bs
  induction as with
  | nil=>simp [Ac]
  | cons a as ih=>simp [Ac,ih,Bool.or_assoc]
 induction xs with
 | nil=>rfl
 | cons x xs ih=>rw [jP,app,h,ih];rfl
end
def mf{α:Type}:List α→Nat→List α→List α
 | xs,_,[]=>xs
 | xs,c,y::ys=>mf (xs.set c y) (c+1) ys
theorem Xl{α:Type}(c:α→D): ∀(ys xs:List α) (n:Nat),CQ (A8 c xs) n (A8 c ys)=A8 c (mf xs n ys):=by
 intro ys
 induction ys with
 | nil=>intro xs n;cases xs<;>rfl
 | cons y ys ih=>
  intro xs n
  have h1:CQ (A8 c xs) n (A8 c (y::ys))=CQ ((A8 c xs).set n (c y)) (n+1) (A8 c ys):=by
   rw [MZ];cases A8 c xs<;>rfl
  rw [h1,oz,ih];rfl
theorem wJ{α:Type}: ∀(ys xs:List α) (n:Nat),n+ys.length≤xs.length→mf xs n ys=xs.take n++(ys++xs.drop (n+ys.length)):=by
 intro ys
 induction ys with
 | nil=>intro xs n _;simp [mf]
 | cons y ys ih=>
  intro xs n h;simp only [Ik]at h;unfold mf;rw [ih (xs.set n y) (n+1) (by simp;omega)]
  have h1:(xs.set n y).take (n+1)=xs.take n++[y]:=by
   rw [Rw (by simp;omega),List.getElem_set_self,List.take_set_of_le (IB _)]
  rw [h1,List.drop_set_of_lt (by omega),Ik,show n+1+ys.length=n+(ys.length+1) by omega,Ry];rfl
theorem AO{α β:Type}{o:Option α}{f:α→Option β}{r:β}(h:o.bind f=some r): ∃a,o=some a∧f a=some r:=by
 cases o with
 | none=>cases h
 | some a=>exact⟨a,rfl,h⟩
theorem Ar{α:Type}{c:Prop}[Decidable c]{o:Option α}{r:α}(h:ck c o=some r):c∧o=some r:=by
 unfold ck at h
 split at h
 ·rename_i hc;exact⟨hc,h⟩
 ·cases h
section
variable {α:Type} (c:α→D)
theorem rU(xs:List α)(y:α)(ds:List D):A8 c xs++(c y::ds)=A8 c (xs++[y])++ds:=by simp [A8]
theorem wK(c:α→List D)(e:TypeId)(xs:List α)(h: ∀x,ES (c x)=some (c x)):ES (A8 (fun x=>D.own e (c x)) xs)=some (A8 (fun x=>D.sl e (c x)) xs):=wI c c e xs h
def PQ(c:α→D):Option α→D
 | some a=>c a
 | none=> .undef
theorem jQ[Inhabited α](o:Option α)(h:o.isSome=true):PQ c o=c (o.getD default):=by cases o with | none=>cases h | some _=>rfl
theorem bW(xs:List α):A8 (PQ c) (xs.map some)=A8 c xs:=by simp [A8,Function.comp_def,PQ]
theorem Xm(xs:List (Option α))(n:Nat):(A8 (PQ c) xs).set n .undef=A8 (PQ c) (xs.set n none):=by simp [A8,List.map_set,PQ]
theorem wL(xs:List (Option α))(n:Nat)(y:α):(A8 (PQ c) xs).set n (c y)=A8 (PQ c) (xs.set n (some y)):=by simp [A8,List.map_set,PQ]
theorem wM(xs:List α):(xs.map some).length=xs.length:=by simp
theorem jR(xs:List α)(n:Nat):(A8 c xs).set n .undef=A8 (PQ c) ((xs.map some).set n none):=by rw [←Xm,bW]
theorem A0E(xs:List (Option α))(n:Nat):A8 (PQ (PQ c)) ((xs.map some).set n none)=A8 (PQ c) (xs.set n none):=by rw [←jR,Xm]
theorem wN(xs:List α)(n:Nat)(y:α):(xs.map some).set n (some y)=(xs.set n y).map some:=List.map_set.symm
theorem mg(ys:List α)(xs:List (Option α))(n:Nat):CQ (A8 (PQ c) xs) n (A8 c ys)=A8 (PQ c) (mf xs n (ys.map some)):=by
 rw [←bW c ys,Xl]
theorem p8[Inhabited α]: ∀(xs:List (Option α)),(xs.all Option.isSome)=true→A8 (PQ c) xs=A8 c (xs.map fun o=>o.getD default)
 | [],_=>rfl
 | x::xs,h=>by
  simp only [Ws,JM]at h;show PQ c x::A8 (PQ c) xs=_
  rw [jQ c x h.1,p8 xs h.2];rfl
theorem A0F(n:Nat)(k:IntKind)(x:Int):List.replicate n (D.int k x)=A8 (D.int k) (List.replicate n x):=by simp [A8]
theorem A0G(n:Nat)(e:TypeId):List.replicate n (D.own e [])=A8 (fun x=>D.own e (A8 (D.int .i64) x)) (List.replicate n []):=by simp [A8]
theorem wO(n:Nat)(x:Bool):List.replicate n (D.bool x)=A8 D.bool (List.replicate n x):=by simp [A8]
variable [Inhabited α] {T:Tys}
theorem AGS(e:TypeId)(n:Int)(xs:List α)(hk:T.known e=true)(hz:T.size e=1)(hn:0≤n∧n.toNat<xs.length):at1 T e n (some (e,A8 c xs,none))=some (.cptr [c (xs.getD n.toNat default)]):=by
 rw [AE3 e n (A8 c xs) hk hz (by simpa [A8] using hn),jO c xs _ hn.2]
end
theorem AGT{s:St}(dst:Option Tmp)(u:Tmp)(i:Nat)(L:A9)(n m:Nat):gM s dst u i (some (.vw L n m))=some (s.putO dst (.vw L n m)):=by simp [gM,DF,HV,D.hasObj,Lr]
theorem jS{α:Type}(c:α→D)(xs:List α):(A8 c xs).isEmpty=xs.isEmpty:=by cases xs<;>rfl
theorem A14{α:Type}(c:α→D)(e:TypeId)(xs:List α):EK (.sl e (A8 c xs))= !xs.isEmpty:=by simp only [EK,jS]
theorem mh{α β:Type}(c:β→D)(f:α→List β)(e:TypeId)(xs:List α):Hl (A8 (fun x=>D.sl e (A8 c (f x))) xs)=xs.any fun x=> !(f x).isEmpty:=by
 induction xs with
 | nil=>rfl
 | cons x xs ih=>simp only [MZ,Hl,A14,ih,List.any_cons]
theorem jT{α:Type}(c:α→List D)(e:TypeId)(xs:List α):Ac (A8 (fun x=>D.own e (c x)) xs)= !xs.isEmpty:=by
 cases xs with
 | nil=>rfl
 | cons x xs=>simp [MZ,Ac,D.hasObj]
section
variable {pm:Pm} {s:St} {dst:Option Tmp}
theorem AGU(ls:List (A9×D))(r:D)(o:List D)(h:EK r=true):cb2 pm s dst ls (some (r,o))=if(Ei (ls.map (·.1))&&ls.all (fun l=>pm.wr (l.1.headD 0)))=true then(Jt ls).map fun ls'=>(back false s ls').putO dst r else none:=by
 simp [cb2,h]
theorem faN:Jt []=some []:=nr rfl
def fac(L:A9)(o:Option (List (A9×D))):Option D→Option (List (A9×D))
 | some c=>o.map ((L,c):: ·)
 | none=>none
theorem faC(L:A9)(c:D)(rest:List (A9×D)):Jt ((L,c)::rest)=fac L (Jt rest) (Dl c):=by
 simp only [Jt];cases Dl c<;>rfl
theorem AGV(L:A9)(ls:List (A9×D))(c:D):fac L (some ls) (some c)=some ((L,c)::ls):=nr rfl
end
def A0H(xs:List (Int×Int))(n:Nat):Int:=(xs.getD n default).1
def A4V(xs:List (Int×Int))(n:Nat):Int:=(xs.getD n default).2
def QX(k l:IntKind)(xs:List (Int×Int)):List D:=cat (fun x=>[D.int k x.1,D.int l x.2]) xs
theorem AR(k l:IntKind):QX k l []=[]:=nr rfl
theorem PR(k l:IntKind)(x:Int×Int)(xs:List (Int×Int)):QX k l (x::xs)=D.int k x.1::D.int l x.2::QX k l xs:=nr rfl
theorem Vo(k l:IntKind)(xs:List (Int×Int)):(QX k l xs).length=xs.length*2:=mZ _ 2 (fun _=>rfl) xs
theorem wP(k l:IntKind)(xs:List (Int×Int)): ∀(n:Nat),n<xs.length→(QX k l xs)[n*2]? =some (D.int k (A0H xs n))∧(QX k l xs)[n*2+1]? =some (D.int l (A4V xs n)):=by
 induction xs with
 | nil=>intro n h;simp at h
 | cons x xs ih=>
  intro n h
  cases n with
  | zero=>exact⟨rfl,rfl⟩
  | succ n=>
   have:=ih n (by simpa using h)
   rw [PR,Nat.succ_mul];exact this
theorem rV(k l:IntKind)(v:Int): ∀(xs:List (Int×Int)) (n:Nat),n<xs.length→(QX k l xs).set (n*2) (D.int k v)=QX k l (xs.set n (v,A4V xs n)):=by
 intro xs
 induction xs with
 | nil=>intro n h;simp at h
 | cons x xs ih=>
  intro n h
  cases n with
  | zero=>rfl
  | succ n=>
   have:=ih n (by simpa using h)
   rw [PR,Nat.succ_mul,gT,gT,gT,this,PR];rfl
theorem rW(k l:IntKind)(v:Int): ∀(xs:List (Int×Int)) (n:Nat),n<xs.length→(QX k l xs).set (n*2+1) (D.int l v)=QX k l (xs.set n (A0H xs n,v)):=by
 intro xs
 induction xs with
 | nil=>intro n h;simp at h
 | cons x xs ih=>
  intro n h
  cases n with
  | zero=>rfl
  | succ n=>
   have:=ih n (by simpa using h)
   rw [PR,Nat.succ_mul,show n*2+2+1=n*2+1+1+1 by omega,gT,gT,gT,this,PR];rfl
theorem jU(k l:IntKind)(xs:List (Int×Int)):Ac (QX k l xs)=false:=ma _ xs (fun _=>by simp [Ac,D.hasObj])
section
variable {T:Tys} {pm:Pm} {s:St} {t:TypeId}
theorem cs2(k l:IntKind)(L:A9)(e:TypeId)(n:Nat)(xs:List (Int×Int))(h:n<xs.length):cellsOf s L (n*2) 2 (some (.own e (QX k l xs)))=some (.agg [D.int k (A0H xs n),D.int l (A4V xs n)]):=by
 obtain⟨h0,h1⟩:=wP k l xs n h
 show(if n*2+2≤(QX k l xs).length then DF (.agg ((List.range 2).map fun i=>HV s L (n*2+i) ((QX k l xs).getD (n*2+i) .undef)))else none)=_
 rw [if_pos (by rw [Vo];omega),rg2,Nat.add_zero,Kw,Kw,h0,h1];rfl
def sq1(T:Tys)(pm:Pm)(t:TypeId)(u:Tmp)(a b:D)(s:St):Option D→Nat→A9→Option St
 | some (.own e xs),c,L=>if T.known t&&T.isStruct t&&pm.wr (L.headD 0)&&Cz a&&Cz b&&(T.size t==2)&&decide (c+2≤xs.length)&& !a.hasObj&& !b.hasObj&& !Ac xs then some (s.set L (.own e ((xs.set c a).set (c+1) b)))else gN T pm t (.tmp u) (some (.agg [a,b],s))
 | _,_,_=>gN T pm t (.tmp u) (some (.agg [a,b],s))
theorem mo(k l:IntKind)(xs:List (Int×Int))(n:Nat)(a b:Int)(h:n<xs.length):((QX k l xs).set (n*2) (D.int k a)).set (n*2+1) (D.int l b)=QX k l (xs.set n (a,b)):=by
 rw [rV k l a xs n h,rW k l b _ n (by simpa using h),List.set_set]
 congr 2
 simp [A0H,Kw,h]
theorem AGW(k l:IntKind)(u:Tmp)(a b:Int)(L:A9)(e:TypeId)(n:Nat)(xs:List (Int×Int))(hk:T.known t=true)(hs:T.isStruct t=true)(hw:pm.wr (L.headD 0)=true)(hz:T.size t=2)(h:n<xs.length):
  sq1 T pm t u (.int k a) (.int l b) s (some (.own e (QX k l xs))) (n*2) L=some (s.set L (.own e (QX k l (xs.set n (a,b))))):=by
 simp only [sq1];rw [if_pos,mo k l xs n a b h];simp only [hk,hs,hw,hz,Cz,Vo,jU,D.hasObj,JM,decide_eq_true_eq,beq_self_eq_true,Bool.not_false,and_true,true_and];omega
end
set_option linter.defProp false
def A4W:=A7 @AGT (A7 @Xl (A7 @jT (A7 @A14 (A7 @mh (A7 @AGU (A7 @faN (A7 @faC (A7 @AGV (A7 @AGS (A7 @CK (A7 @A4U (A7 @jO (A7 @oz (A7 @mY (A7 @rU (A7 @wG (A7 @wH (A7 @Xk (A7 @A0C (A7 @wK (A7 @rT (A7 @Zr (A7 @A0G (A7 @jQ (A7 @bW (A7 @wM (A7 @jR (A7 @wN (A7 (A7 @A0E @Xm) (A7 @wL (A7 @mg (A7 @p8 (A7 @A0F @wO)))))))))))))))))))))))))))))))))
theorem tk4(a b c d:D)(l:List D):List.take 4 (a::b::c::d::l)=[a,b,c,d]:=nr rfl
theorem dr0(l:List D):List.drop 0 l=l:=nr rfl
theorem dr1(a:D)(l:List D):List.drop 1 (a::l)=l:=nr rfl
theorem dr4(a0 a1 a2 a3:D)(l:List D):List.drop 4 (a0::a1::a2::a3::l)=l:=nr rfl
def xc2:=A7 @Nat.add_zero (A7 @tk4 (A7 @dr0 (A7 @dr1 (A7 @dr4 (A7 @List.length_set.{0} (@AGW))))))
def Co:=A7 @implies_true.{1} (A7 @Option.bind_some.{0,0} (A7 @Option.map_some.{0,0} (A7 @Option.isSome_some.{0} (A7 @List.contains_cons.{0} (A7 @List.contains_nil.{0} (A7 @List.getD_cons_zero.{0} (A7 @List.getD_cons_succ.{0} (A7 @List.getD_nil.{0} (A7 @List.length_cons.{0} (A7 @List.length_nil.{0} (A7 @List.size_toArray.{0} (A7 @List.toList_toArray.{0} (A7 @List.zip_cons_cons.{0,0} (A7 @List.zip_nil_left.{0,0} (A7 @List.append_nil.{0} (A7 @List.nil_append.{0} (A7 @List.cons_append.{0} (A7 @List.map_cons.{0,0} (A7 @List.map_nil.{0,0} (A7 @List.replicate_succ.{0} (A7 @List.replicate_zero.{0} (A7 @List.set_cons_zero.{0} (A7 @List.set_cons_succ.{0} (A7 @List.set_set.{0} (A7 @List.all_cons.{0} (A7 @List.any_cons.{0} (A7 @List.any_nil.{0} (A7 @List.all_nil.{0} (A7 @List.getElem?_cons_zero.{0} (A7 @List.getElem?_cons_succ.{0} (A7 @List.getElem?_nil.{0} (@beq_self_eq_true.{0}))))))))))))))))))))))))))))))))
end Dv
namespace Dv
open Go
section
variable {σ ρ α β:Type}
theorem BO(f:σ→Option (σ⊕ρ))(st:Nat→σ): ∀(n:Nat) (r:ρ),(∀i,i<n→f (st i)=some (.inl (st (i+1))))→f (st n)=some (.inr r)→GQ f (st 0)=some r:=by
 intro n r h e
 have key: ∀k,k≤n→GQ f (st (n-k))=some r:=by
  intro k
  induction k with
  | zero=>intro _;exact FR e
  | succ k ih=>
   intro hk;have h1:=h (n-(k+1)) (by omega)
   rw [MC h1,show n-(k+1)+1=n-k by omega]
   exact ih (by omega)
 have:=key n (IB _)
 rwa [Vw]at this
theorem Im(f:σ→Option (σ⊕ρ))(I:Nat→σ→Prop)(Q:ρ→Prop)(step: ∀n s,I n s→(∃s' m,f s=some (.inl s')∧m<n∧I m s')∨(∃r,f s=some (.inr r)∧Q r)):
  ∀(n:Nat) (s:σ),I n s→ ∃r,GQ f s=some r∧Q r:=by
 intro n
 induction n using Nat.strongRecOn with
 | _ n ih=>
  intro s hI;rcases step n s hI with⟨s',m,h1,h2,h3⟩ | ⟨r,h1,h2⟩
  ·rw [MC h1];exact ih m h2 s' h3
  ·exact⟨r,FR h1,h2⟩
theorem wQ(f:σ→Option (σ⊕ρ))(mk:Nat→β→σ)(P:Nat→β→Prop)(xs:List α)(g:β→α→β)(Eh:β→ρ)
  (h: ∀(i:Nat) (b:β) (hi:i<xs.length),P i b→f (mk i b)=some (.inl (mk (i+1) (g b xs[i])))∧P (i+1) (g b xs[i]))
  (e: ∀b,P xs.length b→f (mk xs.length b)=some (.inr (Eh b)))(b0:β)(h0:P 0 b0):GQ f (mk 0 b0)=some (Eh (xs.foldl g b0))∧P xs.length (xs.foldl g b0):=by
 have key: ∀(k:Nat) (b:β),k≤xs.length→P (xs.length-k) b→GQ f (mk (xs.length-k) b)=some (Eh ((xs.drop (xs.length-k)).foldl g b))∧P xs.length ((xs.drop (xs.length-k)).foldl g b):=by
  intro k
  induction k with
  | zero=>intro b _ hp;simp only [Nat.sub_zero,List.drop_length,List.foldl_nil]at hp ⊢;exact⟨FR (e b hp),hp⟩
  | succ k ih=>
   intro b hk hp;have hl:xs.length-(k+1)<xs.length:=by omega
   obtain⟨h1,h2⟩:=h (xs.length-(k+1)) b hl hp;rw [aS hl,Vv,MC h1];have e1:xs.length-(k+1)+1=xs.length-k:=by omega
   rw [e1]at h2 ⊢;exact ih _ (by omega) h2
 have:=key xs.length b0 (IB _) (by rwa [Vw])
 rwa [Vw,Sk]at this
end
theorem Sw{n:Nat}{P:Nat→Bool}(h: ¬ ∀i,i<n→P i=true): ∃m,m<n∧P m=false∧ ∀i,i<m→P i=true:=by
 induction n with
 | zero=>exact absurd (fun i hi=>absurd hi (Nat.not_lt_zero _)) h
 | succ n ih=>
  by_cases hn: ∀i,i<n→P i=true
  ·refine⟨n,Nat.lt_succ_self _, ?_,hn⟩
   cases hp:P n with
   | false=>rfl
   | true=>exact absurd (fun i hi=>by rcases Nat.lt_succ_iff_lt_or_eq.1 hi with h1 | rfl;exact hn i h1;exact hp) h
  ·obtain⟨m,h1,h2,h3⟩:=ih hn
   exact⟨m,by omega,h2,h3⟩
theorem JU{n:Nat}{P:Nat→Bool}:(List.range n).all P=true↔ ∀i,i<n→P i=true:=by
 simp [Iw]
theorem jV{σ ρ:Type}(f:σ→Option (σ⊕ρ))(st:Nat→σ)(n:Nat)(P:Nat→Bool)(bad good:ρ)
  (h: ∀i,i<n→(∀j,j<i→P j=true)→f (st i)=if P i=true then some (.inl (st (i+1)))else some (.inr bad))(e:(∀j,j<n→P j=true)→f (st n)=some (.inr good)):GQ f (st 0)=some (if(List.range n).all P=true then good else bad):=by
 by_cases hp: ∀i,i<n→P i=true
 ·rw [if_pos (JU.2 hp)];refine BO f st n good (fun i hi=> ?_) (e hp);rw [h i hi (fun j hj=>hp j (by omega)),if_pos (hp i hi)]
 ·rw [if_neg (fun hc=>hp (JU.1 hc))];obtain⟨m,h1,h2,h3⟩:=Sw hp;refine BO f st m bad (fun i hi=> ?_) ?_
  ·rw [h i (by omega) (fun j hj=>h3 j (by omega)),if_pos (h3 i hi)]
  ·rw [h m h1 h3,h2];rfl
theorem OM{σ ρ:Type}(f:σ→Option (σ⊕ρ))(st:Nat→σ)(n:Nat)(P:Nat→Bool)(bad good:ρ)
  (h: ∀i,i<n→f (st i)=if P i=true then some (.inl (st (i+1)))else some (.inr bad))(e:f (st n)=some (.inr good)):GQ f (st 0)=some (if(List.range n).all P=true then good else bad):=
 jV f st n P bad good (fun i hi _=>h i hi) (fun _=>e)
theorem jW{α:Type}[Inhabited α](p:α→Bool)(xs:List α):(List.range xs.length).all (fun i=>p (xs.getD i default))=xs.all p:=by
 rw [Bool.eq_iff_iff,JU,Iw]
 constructor
 ·intro h x hx;obtain⟨i,hi,rfl⟩:=Sj hx;have:=h i hi
  rwa [Kw,FV hi]at this
 ·intro h i hi;rw [Kw,FV hi];exact h _ (FE hi)
theorem Xn{α:Type}[DecidableEq α][Inhabited α](a b:List α)(hl:a.length=b.length):(List.range a.length).all (fun i=>decide (a.getD i default=b.getD i default))=decide (a=b):=by
 by_cases he:a=b
 ·subst he;simp
 ·rw [decide_eq_false he,J2];intro hc;rw [JU]at hc;refine he (List.ext_getElem hl fun i h1 h2=> ?_);have:=hc i h1
  rw [Kw,Kw,FV h1,FV h2]at this;simpa using this
theorem wR{α γ:Type}(f:List γ×Int→Option ((List γ×Int)⊕List γ))(xs:List α)(g:α→γ)
  (h: ∀(i:Nat) (hi:i<xs.length) (out:List γ),out.length=i→f (out,(i:Int))=some (.inl (out++[g xs[i]],((i+1:Nat):Int))))
  (e: ∀out:List γ,out.length=xs.length→f (out,(xs.length:Int))=some (.inr out)):GQ f ([],0)=some (xs.map g):=by
 have key:=BO f (fun i=>((xs.take i).map g,(i:Int))) xs.length (xs.map g) ?_ ?_
 ·simpa using key
 ·intro i hi;have:=h i hi ((xs.take i).map g) (by simp;omega)
  rw [this,Rw hi,TT];rfl
 ·simp only [LZ];exact e _ (by simp)
theorem IR(i:Nat)(h:i<4611686018427387904):IntKind.i64.wrap ((i:Int)+1)=((i+1:Nat):Int):=by
 rw [Dw _ (by omega)];rfl
theorem AV{α:Type}[Inhabited α](xs:List α)(i:Nat)(h:i<xs.length):xs.getD i default=xs[i]:=by
 rw [Kw,FV h];rfl
theorem LB{α:Type}[Inhabited α](xs:List α)(i:Nat)(h:i<xs.length):xs.getD (i:Int).toNat default=xs[i]:=by
 rw [IA];exact AV xs i h
theorem Am{α:Type}{c:Prop}[Decidable c]{o:Option α}(h:c):ck c o=o:=if_pos h
theorem Bi{i n:Nat}(h:i<n):(i:Int)<(n:Int):=by omega
theorem Af(n:Nat): ¬(n:Int)<(n:Int):=by omega
theorem Ho{i n:Nat}(h:i<n):0≤(i:Int)∧(i:Int).toNat<n:=by omega
theorem DX{α:Type}[Inhabited α](a b:List α)(i:Nat)(h:i=a.length)(hb:0<b.length):(a++b).getD i default=b[0]:=by
 subst h;rw [Kw,QU (IB _),Vw,FV hb];rfl
end Dv
namespace Dv
open Go
section
variable {T:Tys} {t e a:TypeId} {d:D}
end
end Dv
