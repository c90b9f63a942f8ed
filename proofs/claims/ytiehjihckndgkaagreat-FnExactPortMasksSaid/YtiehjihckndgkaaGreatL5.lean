/- Value semantics for Go code, part 5: typed lists, loops as functions. Conditions: none beyond those in each lemma. -/
import Derived.Test.YtiehjihckndgkaaGreatL4
set_option linter.unusedSimpArgs false
set_option linter.unusedVariables false
namespace Dv
open Go
set_option maxRecDepth 10000
def ck{α:Type}(c:Prop)[Decidable c](o:Option α):Option α:=if c then o else none
section
variable {σ ρ:Type}
def lZ(f:σ→Option (σ⊕ρ)):Nat→σ→Option ρ
 |0,_=>none
 |n+1,s=>
  match f s with
  |none=>none
  |some (.inl s')=>lZ f n s'
  |some (.inr r)=>some r
open Classical in
noncomputable def I4(f:σ→Option (σ⊕ρ))(s:σ):Option ρ:=if h: ∃r n,lZ f n s=some r then some h.choose else none
theorem iq{f:σ→Option (σ⊕ρ)}: ∀ {n m:Nat} {s:σ} {r:ρ},n≤m→lZ f n s=some r→lZ f m s=some r:=by
 intro n
 induction n with
 |zero=>intro m s r _ h;simp [lZ]at h
 |succ n ih=>
  intro m s r hm h
  cases m with
  |zero=>omega
  |succ m=>
   simp only [lZ]at h ⊢
   cases hs:f s with
   |none=>simp [hs]at h
   |some q=>
    cases q with
    |inl s'=>simp only [hs]at h ⊢;exact ih (by omega) h
    |inr r'=>simp only [hs]at h ⊢;exact h
theorem bT{f:σ→Option (σ⊕ρ)}{n:Nat}{s:σ}{r:ρ}(h:lZ f n s=some r):I4 f s=some r:=by
 unfold I4;have hx: ∃r n,lZ f n s=some r:=⟨r,n,h⟩;rw [dif_pos hx];obtain⟨n',h'⟩:=hx.choose_spec;have h1:=iq (Nat.le_max_left n n') h;have h2:=iq (Nat.le_max_right n n') h';rw [h1]at h2;exact h2.symm
theorem XN{f:σ→Option (σ⊕ρ)}{s:σ}{r:ρ}(h:I4 f s=some r): ∃n,lZ f n s=some r:=by
 unfold I4 at h
 split at h
 ·rename_i hx
  simp only [Option.some.injEq]at h;subst h;exact hx.choose_spec
 ·cases h
theorem Jg{f:σ→Option (σ⊕ρ)}{s s':σ}(h:f s=some (.inl s')):I4 f s=I4 f s':=by
 cases hi:I4 f s' with
 |some r=>
  obtain⟨n,hn⟩:=XN hi;exact bT (n:=n+1) (by simp only [lZ,h];exact hn)
 |none=>
  cases hj:I4 f s with
  |none=>rfl
  |some r=>
   obtain⟨n,hn⟩:=XN hj
   cases n with
   |zero=>simp [lZ]at hn
   |succ n=>
    simp only [lZ,h]at hn;rw [bT hn]at hi;cases hi
theorem EH{f:σ→Option (σ⊕ρ)}{s:σ}{r:ρ}(h:f s=some (.inr r)):I4 f s=some r:=bT (n:=1) (by simp [lZ,h])
end
def nk{σ ρ:Type}(M:σ→St→Prop)(X:ρ→Ex→St→Prop):σ⊕ρ→Ex→St→Prop
 | .inl v,.normal,s=>M v s
 | .inl _,_,_=>False
 | .inr _,.normal,_=>False
 | .inr r,ex,s=>X r ex s
theorem GZ{σ ρ:Type}(M:σ→St→Prop)(X:ρ→Ex→St→Prop)(v:σ)(s:St):nk M X (.inl v) .normal s=M v s:=nr rfl
theorem KW{σ ρ:Type}(M:σ→St→Prop)(X:ρ→Ex→St→Prop)(r:ρ)(j:Nat)(s:St):nk M X (.inr r) (.exit j) s=X r (.exit j) s:=nr rfl
theorem MP{σ ρ:Type}(M:σ→St→Prop)(X:ρ→Ex→St→Prop)(r:ρ)(s:St):nk M X (.inr r) .ret s=X r .ret s:=nr rfl
theorem BN{E:Env}{c:SC}{σ ρ:Type}(f:σ→Option (σ⊕ρ))(M:σ→St→Prop)(X:ρ→Ex→St→Prop)
  (hstep: ∀v s o,M v s→f v=some o→CF E c (nk M X o) s){v:σ}{s:St}{r:ρ}(h:I4 f v=some r)(hM:M v s):CF E (.loop c) (X r) s:=by
 obtain⟨n,hn⟩:=XN h
 induction n generalizing v s with
 |zero=>simp [lZ]at hn
 |succ n ih=>
  simp only [lZ]at hn
  cases hf:f v with
  |none=>simp [hf]at hn
  |some o=>
   obtain⟨ex,s1,h1,h2⟩:=hstep v s o hM hf
   cases o with
   |inl v'=>
    simp only [hf]at hn
    cases ex with
    |normal=>
     obtain⟨ex',s2,h3,h4⟩:=ih (bT hn) h2 hn
     refine⟨ex',s2, ?_,h4⟩
     simp only [EW]at h3 ⊢;rw [bM,h1];exact h3
    |exit id=>exact h2.elim
    |ret=>exact h2.elim
   |inr r'=>
    simp only [hf,Option.some.injEq]at hn;subst hn
    cases ex with
    |normal=>exact h2.elim
    |exit id=>exact⟨_,s1,by simp only [EW];rw [bM,h1],h2⟩
    |ret=>exact⟨_,s1,by simp only [EW];rw [bM,h1],h2⟩
def AL{α:Type}(c:α→D)(xs:List α):List D:=xs.map c
def iw{α:Type}(c:α→List D)(xs:List α):List D:=xs.flatMap c
section
variable {α:Type} (c:α→D)
theorem bU:AL c []=[]:=nr rfl
theorem Kg(x:α)(xs:List α):AL c (x::xs)=c x::AL c xs:=nr rfl
theorem XO(xs:List α):(AL c xs).length=xs.length:=by simp [AL]
theorem iy[Inhabited α](xs:List α)(i:Nat)(h:i<xs.length):(AL c xs).getD i .undef=c (xs.getD i default):=by
 simp [AL,MQ,h]
theorem A4I[Inhabited α](xs:List α)(i:Nat)(h:i<xs.length):(AL c xs)[i]? =some (c (xs.getD i default)):=by
 simp [AL,MQ,h]
theorem nu(xs:List α)(i:Nat)(y:α):(AL c xs).set i (c y)=AL c (xs.set i y):=by simp [AL]
theorem lg(xs ys:List α):AL c xs++AL c ys=AL c (xs++ys):=by simp [AL]
theorem uX(xs:List α)(n:Nat):(AL c xs).take n=AL c (xs.take n):=by simp [AL]
theorem uY(xs:List α)(n:Nat):(AL c xs).drop n=AL c (xs.drop n):=by simp [AL]
theorem XP(xs:List α)(h: ∀x,(c x).hasObj=false):Aj (AL c xs)=false:=by
 induction xs with
 |nil=>rfl
 |cons x xs ih=>simp only [Kg,Aj,h,ih];rfl
theorem yg(xs:List α)(h: ∀x,EL (c x)=some (c x)):Dc (AL c xs)=some (AL c xs):=by
 induction xs with
 |nil=>rfl
 |cons x xs ih=>simp only [Kg,Dc,h,ih];rfl
theorem uZ(c:α→List D)(c':α→List D)(e:TypeId)(xs:List α)(h: ∀x,Dc (c x)=some (c' x)):Dc (AL (fun x=>D.own e (c x)) xs)=some (AL (fun x=>D.sl e (c' x)) xs):=by
 induction xs with
 |nil=>rfl
 |cons x xs ih=>simp only [Kg,Dc,EL,h,ih];rfl
theorem qZ(xs:List α)(h: ∀x,En (c x)=false):EZ (AL c xs)=false:=by
 induction xs with
 |nil=>rfl
 |cons x xs ih=>simp only [Kg,EZ,h,ih];rfl
theorem aD(xs:List α)(h: ∀x,Di (c x)=true):(AL c xs).all Di=true:=by simp [AL,h]
end
section
variable {α:Type} (c:α→List D) (n:Nat)
theorem ny:iw c []=[]:=nr rfl
theorem QD(x:α)(xs:List α):iw c (x::xs)=c x++iw c xs:=nr rfl
theorem lh(h: ∀x,(c x).length=n)(xs:List α):(iw c xs).length=xs.length*n:=by
 induction xs with
 |nil=>simp [ny]
 |cons x xs ih=>simp only [QD,Rp,h,ih,Lt,Nat.succ_mul];omega
theorem uf(h: ∀x,(c x).length=n)(xs:List α): ∀(i:Nat),(iw c xs).drop (i*n)=iw c (xs.drop i):=by
 induction xs with
 |nil=>intro i;simp [ny]
 |cons x xs ih=>
  intro i
  cases i with
  |zero=>simp
  |succ i=>
   rw [QD,List.drop_append,List.drop_succ_cons,←ih i,h,Nat.succ_mul];have e1:(c x).drop (i*n+n)=[]:=List.drop_eq_nil_of_le (by rw [h];omega)
   rw [e1,Nat.add_sub_cancel];rfl
theorem ll(xs:List α)(h: ∀x,Aj (c x)=false):Aj (iw c xs)=false:=by
 have app: ∀(as bs:List D),Aj (as++bs)=(Aj as||Aj bs):=by
  intro as bs
  induction as with
  |nil=>simp [Aj]
  |cons a as ih=>simp [Aj,ih,Bool.or_assoc]
 induction xs with
 |nil=>rfl
 |cons x xs ih=>rw [QD,app,h,ih];rfl
theorem j3: ∀(as bs as' bs':List D),Dc as=some as'→Dc bs=some bs'→Dc (as++bs)=some (as'++bs'):=by
 intro as
 induction as with
 |nil=>intro bs as' bs' h1 h2;simp [Dc]at h1;subst h1;simpa using h2
 |cons a as ih=>
  intro bs as' bs' h1 h2;simp only [Dc,JE,D6]at h1;obtain⟨a',ha,as1,has,rfl⟩:=h1;simp only [VC,Dc,ha,ih _ _ _ has h2];rfl
theorem yh(xs:List α)(h: ∀x,Dc (c x)=some (c x)):Dc (iw c xs)=some (iw c xs):=by
 induction xs with
 |nil=>rfl
 |cons x xs ih=>rw [QD];exact j3 _ _ _ _ (h x) ih
theorem Yz(as bs:List D):EZ (as++bs)=(EZ as||EZ bs):=by
 induction as with
 |nil=>simp [EZ]
 |cons a as ih=>simp [EZ,ih,Bool.or_assoc]
theorem qa(xs:List α)(h: ∀x,EZ (c x)=false):EZ (iw c xs)=false:=by
 induction xs with
 |nil=>rfl
 |cons x xs ih=>rw [QD,Yz,h,ih];rfl
end
def yj{α:Type}:List α→Nat→List α→List α
 |xs,_,[]=>xs
 |xs,c,y::ys=>yj (xs.set c y) (c+1) ys
theorem lm{α:Type}(c:α→D): ∀(ys xs:List α) (n:Nat),Cg (AL c xs) n (AL c ys)=AL c (yj xs n ys):=by
 intro ys
 induction ys with
 |nil=>intro xs n;cases xs<;>rfl
 |cons y ys ih=>
  intro xs n
  have h1:Cg (AL c xs) n (AL c (y::ys))=Cg ((AL c xs).set n (c y)) (n+1) (AL c ys):=by
   rw [Kg];cases AL c xs<;>rfl
  rw [h1,nu,ih];rfl
theorem lq{α:Type}: ∀(ys xs:List α) (n:Nat),n+ys.length≤xs.length→yj xs n ys=xs.take n++(ys++xs.drop (n+ys.length)):=by
 intro ys
 induction ys with
 |nil=>intro xs n _;simp [yj]
 |cons y ys ih=>
  intro xs n h;simp only [Lt]at h;unfold yj;rw [ih (xs.set n y) (n+1) (by simp;omega)]
  have h1:(xs.set n y).take (n+1)=xs.take n++[y]:=by
   rw [jo (by simp;omega),oz,List.take_set_of_le (KS _)]
  rw [h1,List.drop_set_of_lt (by omega),Lt,show n+1+ys.length=n+(ys.length+1) by omega,Qy];rfl
theorem Ag{α β:Type}{o:Option α}{f:α→Option β}{r:β}(h:o.bind f=some r): ∃a,o=some a∧f a=some r:=by
 cases o with
 |none=>cases h
 |some a=>exact⟨a,rfl,h⟩
theorem FK{α:Type}{c:Prop}[Decidable c]{o:Option α}{r:α}(h:ck c o=some r):c∧o=some r:=by
 unfold ck at h
 split at h
 ·rename_i hc;exact⟨hc,h⟩
 ·cases h
section
variable {α:Type} (c:α→D)
theorem iS{α:Type}{c:Prop}[Decidable c]{a b:Option α}{r:α}(h:(if c then a else b)=some r):(c∧a=some r)∨(¬c∧b=some r):=by
 by_cases hc:c
 ·rw [if_pos hc]at h;exact .inl ⟨hc,h⟩
 ·rw [if_neg hc]at h;exact .inr ⟨hc,h⟩
theorem Ei{α:Type}{c d:Prop}[Decidable c][Decidable d]{o:Option α}{r:α}(h:ck c (ck d o)=some r):c∧d∧o=some r:=⟨(FK h).1,FK (FK h).2⟩
theorem Oa{α:Type}{c d e:Prop}[Decidable c][Decidable d][Decidable e]{o:Option α}{r:α}(h:ck c (ck d (ck e o))=some r):c∧d∧e∧o=some r:=⟨(FK h).1,Ei (FK h).2⟩
theorem yl{α:Type}{c d e f:Prop}[Decidable c][Decidable d][Decidable e][Decidable f]{o:Option α}{r:α}(h:ck c (ck d (ck e (ck f o)))=some r):c∧d∧e∧f∧o=some r:=⟨(FK h).1,Oa (FK h).2⟩
theorem qb(xs:List α)(y:α)(ds:List D):AL c xs++(c y::ds)=AL c (xs++[y])++ds:=by simp [AL]
theorem ug(c:α→List D)(e:TypeId)(xs:List α)(h: ∀x,Dc (c x)=some (c x)):Dc (AL (fun x=>D.own e (c x)) xs)=some (AL (fun x=>D.sl e (c x)) xs):=uZ c c e xs h
def VO(c:α→D):Option α→D
 |some a=>c a
 |none=> .undef
theorem nz(xs:List α):AL (VO c) (xs.map some)=AL c xs:=by simp [AL,Function.comp_def,VO]
theorem XQ(xs:List (Option α))(n:Nat):(AL (VO c) xs).set n .undef=AL (VO c) (xs.set n none):=by simp [AL,List.map_set,VO]
theorem uh(xs:List (Option α))(n:Nat)(y:α):(AL (VO c) xs).set n (c y)=AL (VO c) (xs.set n (some y)):=by simp [AL,List.map_set,VO]
theorem uj(xs:List α):(xs.map some).length=xs.length:=by simp
theorem j4(xs:List α)(n:Nat):(AL c xs).set n .undef=AL (VO c) ((xs.map some).set n none):=by rw [←XQ,nz]
theorem ym(xs:List (Option α))(n:Nat):AL (VO (VO c)) ((xs.map some).set n none)=AL (VO c) (xs.set n none):=by rw [←j4,XQ]
theorem uk(xs:List α)(n:Nat)(y:α):(xs.map some).set n (some y)=(xs.set n y).map some:=List.map_set.symm
theorem yn(n:Nat)(k:IntKind)(x:Int):List.replicate n (D.int k x)=AL (D.int k) (List.replicate n x):=by simp [AL]
theorem yo(n:Nat)(e:TypeId):List.replicate n (D.own e [])=AL (fun x=>D.own e (AL (D.int .i64) x)) (List.replicate n []):=by simp [AL]
variable [Inhabited α] {T:Tys}
theorem AGB(e:TypeId)(n:Int)(xs:List α)(hk:T.known e=true)(hz:T.size e=1)(hn:0≤n∧n.toNat<xs.length):uR T e n (some (e,AL c xs,none))=some (.cptr [c (xs.getD n.toNat default)]):=by
 rw [ADu e n (AL c xs) hk hz (by simpa [AL] using hn),iy c xs _ hn.2]
end
theorem AGC:(true==false)=false:=nr rfl
theorem AGD:(false==true)=false:=nr rfl
theorem AGE{s:St}(dst:Option Tmp)(u:Tmp)(i:Nat)(L:AA)(n m:Nat):kv s dst u i (some (.vw L n m))=some (s.putO dst (.vw L n m)):=by simp [kv,Dx,J8,D.hasObj,MS]
theorem j5{α:Type}(c:α→List D)(e:TypeId)(xs:List α):Aj (AL (fun x=>D.own e (c x)) xs)= !xs.isEmpty:=by
 cases xs with
 |nil=>rfl
 |cons x xs=>simp [Kg,Aj,D.hasObj]
section
variable {pm:Pm} {s:St} {dst:Option Tmp}
end
def CV(xs:List (Int×Int))(n:Nat):Int:=(xs.getD n default).1
def Cx(xs:List (Int×Int))(n:Nat):Int:=(xs.getD n default).2
def Ay(k l:IntKind)(xs:List (Int×Int)):List D:=iw (fun x=>[D.int k x.1,D.int l x.2]) xs
theorem BP(k l:IntKind):Ay k l []=[]:=nr rfl
theorem Ob(k l:IntKind)(x:Int×Int)(xs:List (Int×Int)):Ay k l (x::xs)=D.int k x.1::D.int l x.2::Ay k l xs:=nr rfl
theorem QE(k l:IntKind)(xs:List (Int×Int)):(Ay k l xs).length=xs.length*2:=lh _ 2 (fun _=>rfl) xs
theorem aF(k l:IntKind)(v:Int): ∀(xs:List (Int×Int)) (n:Nat),n<xs.length→(Ay k l xs).set (n*2) (D.int k v)=Ay k l (xs.set n (v,Cx xs n)):=by
 intro xs
 induction xs with
 |nil=>intro n h;simp at h
 |cons x xs ih=>
  intro n h
  cases n with
  |zero=>rfl
  |succ n=>
   have:=ih n (by simpa using h)
   rw [Ob,Nat.succ_mul,aR,aR,aR,this,Ob];rfl
theorem aG(k l:IntKind)(v:Int): ∀(xs:List (Int×Int)) (n:Nat),n<xs.length→(Ay k l xs).set (n*2+1) (D.int l v)=Ay k l (xs.set n (CV xs n,v)):=by
 intro xs
 induction xs with
 |nil=>intro n h;simp at h
 |cons x xs ih=>
  intro n h
  cases n with
  |zero=>rfl
  |succ n=>
   have:=ih n (by simpa using h)
   rw [Ob,Nat.succ_mul,show n*2+2+1=n*2+1+1+1 by omega,aR,aR,aR,this,Ob];rfl
theorem qc(k l:IntKind)(xs:List (Int×Int))(n:Nat):(Ay k l xs).drop (n*2)=Ay k l (xs.drop n):=uf _ 2 (fun _=>rfl) xs n
theorem V4(k l:IntKind)(xs:List (Int×Int)):Aj (Ay k l xs)=false:=ll _ xs (fun _=>by simp [Aj,D.hasObj])
theorem ul(k l:IntKind)(xs:List (Int×Int)):Dc (Ay k l xs)=some (Ay k l xs):=yh _ xs (fun _=>rfl)
theorem lu(k l:IntKind)(xs:List (Int×Int)):EZ (Ay k l xs)=false:=qa _ xs (fun _=>rfl)
theorem um(k l:IntKind)(n:Nat)(a b:Int):(List.replicate n [D.int k a,D.int l b]).flatten=Ay k l (List.replicate n (a,b)):=by
 simp [Ay,iw,List.flatMap_def]
section
variable {T:Tys} {pm:Pm} {s:St} {t:TypeId}
theorem uo(k l:IntKind)(e:TypeId)(xs:List (Int×Int))(h:T.size e=2):T.len e (Ay k l xs)=xs.length:=by
 unfold Tys.len;rw [h,if_neg (by decide),QE,Nat.mul_div_cancel _ (by decide)]
theorem AGF(k l:IntKind)(e:TypeId)(n:Int)(xs:List (Int×Int))(hk:T.known e=true)(hz:T.size e=2)(hn:0≤n∧n.toNat<xs.length):uR T e n (some (e,Ay k l xs,none))=some (.cptr [D.int k (CV xs n.toNat),D.int l (Cx xs n.toNat)]):=by
 simp only [uR,hk,uo k l e xs hz];rw [if_pos ⟨trivial,trivial,hn.1,hn.2⟩,hz,qc,WH hn.2,Ob];unfold CV Cx;rw [MQ,K4 hn.2];rfl
theorem AGG(k l:IntKind)(e:TypeId)(n:Int)(xs:List (Int×Int))(L:AA)(a b:Nat)(hk:T.known e=true)(hz:T.size e=2)(hn:0≤n∧n.toNat<xs.length):uR T e n (some (e,Ay k l xs,some (L,a,b)))=some (.pe L (n.toNat*2) a b):=by
 simp only [uR,hk,uo k l e xs hz];rw [if_pos ⟨trivial,trivial,hn.1,hn.2⟩,hz]
def sq1(T:Tys)(pm:Pm)(t:TypeId)(u:Tmp)(a b:D)(s:St):Option D→Nat→AA→Option St
 |some (.own e xs),c,L=>if T.known t&&T.isStruct t&&pm.wr (L.headD 0)&&Di a&&Di b&&(T.size t==2)&&decide (c+2≤xs.length)&& !a.hasObj&& !b.hasObj&& !Aj xs then some (s.set L (.own e ((xs.set c a).set (c+1) b)))else fV T pm t (.tmp u) (some (.agg [a,b],s))
 |_,_,_=>fV T pm t (.tmp u) (some (.agg [a,b],s))
theorem AGH(u:Tmp)(a b:D)(L:AA)(c n m:Nat)(h:s.v u= .pe L c n m):fV T pm t (.tmp u) (some (.agg [a,b],s))=sq1 T pm t u a b s (s.look pm L n m) c L:=by
 cases hl:s.look pm L n m with
 |none=>rfl
 |some o=>
  cases o<;>try rfl
  rename_i e xs
  simp only [sq1];split
  ·rename_i hc
   simp only [Fa,beq_iff_eq,decide_eq_true_eq,O9]at hc;obtain⟨⟨⟨⟨⟨⟨⟨⟨⟨hk,hs⟩,hw⟩,ha⟩,hb⟩,hz⟩,hl2⟩,ha2⟩,hb2⟩,hx2⟩:=hc;simp only [fV,ev,h,JH,hl,D.asCells,D.isAgg,D.cells,D.withCells,hk,hs,hw,hz,VF,ha,hb,List.all_nil,Bool.and_self,Lt,Pn,beq_self_eq_true,OH,D.hasObj,Aj,ha2,hb2,hx2,Bool.or_self,Md,if_false,Cg];rw [if_pos (by simpa using hl2)]
  ·rfl
theorem AGI(u:Tmp)(a b:D)(L:AA)(c n m:Nat)(h:s.v u= .pe L c n m):sw1 T pm t u [a,b] s (.pe L c n m)=sq1 T pm t u a b s (s.look pm L n m) c L:=by
 rw [←AGH u a b L c n m h];rfl
theorem lw(k l:IntKind)(xs:List (Int×Int))(n:Nat)(a b:Int)(h:n<xs.length):((Ay k l xs).set (n*2) (D.int k a)).set (n*2+1) (D.int l b)=Ay k l (xs.set n (a,b)):=by
 rw [aF k l a xs n h,aG k l b _ n (by simpa using h),List.set_set]
 congr 2
 simp [CV,MQ,h]
theorem AGJ(k l:IntKind)(u:Tmp)(a b:Int)(L:AA)(e:TypeId)(n:Nat)(xs:List (Int×Int))(hk:T.known t=true)(hs:T.isStruct t=true)(hw:pm.wr (L.headD 0)=true)(hz:T.size t=2)(h:n<xs.length):
  sq1 T pm t u (.int k a) (.int l b) s (some (.own e (Ay k l xs))) (n*2) L=some (s.set L (.own e (Ay k l (xs.set n (a,b))))):=by
 simp only [sq1];rw [if_pos,lw k l xs n a b h];simp only [hk,hs,hw,hz,Di,QE,V4,D.hasObj,Fa,decide_eq_true_eq,beq_self_eq_true,Bool.not_false,and_true,true_and];omega
end
set_option linter.defProp false
def A92:=A7 @AGE (A7 @lm (A7 @j5 (A7 @AGB (A7 @XO (A7 @A4I (A7 @iy (A7 @nu (A7 @lg (A7 @qb (A7 @uX (A7 @uY (A7 @XP (A7 @yg (A7 @ug (A7 @qZ (A7 @aD (A7 @yo (A7 @nz (A7 @uj (A7 @j4 (A7 @uk (A7 (A7 @ym @XQ) (A7 @uh (A7 @yn (A7 @AGC @AGD)))))))))))))))))))))))))
theorem tk2(a b:D)(l:List D):List.take 2 (a::b::l)=[a,b]:=nr rfl
theorem tk4(a b c d:D)(l:List D):List.take 4 (a::b::c::d::l)=[a,b,c,d]:=nr rfl
theorem dr0(l:List D):List.drop 0 l=l:=nr rfl
theorem dr1(a:D)(l:List D):List.drop 1 (a::l)=l:=nr rfl
theorem dr4(a0 a1 a2 a3:D)(l:List D):List.drop 4 (a0::a1::a2::a3::l)=l:=nr rfl
theorem dr7(a0 a1 a2 a3 a4 a5 a6:D)(l:List D):List.drop 7 (a0::a1::a2::a3::a4::a5::a6::l)=l:=nr rfl
theorem A93{n m:Nat}(h:n<m):n*2<m*2:=by omega
theorem A94{n m:Nat}(h:n<m):n*2+1<m*2:=by omega
def xc2:=A7 @Nat.add_zero (A7 @QE (A7 @V4 (A7 @ul (A7 @lu (A7 @um (A7 @uo (A7 @AGF (A7 @AGG (A7 @AGI (A7 @tk2 (A7 @tk4 (A7 @dr0 (A7 @dr1 (A7 @dr4 (A7 @dr7 (A7 @A93 (A7 @A94 (A7 @aF (A7 @aG (A7 @List.length_set.{0} (@AGJ)))))))))))))))))))))
def DK:=A7 @implies_true.{1} (A7 @Option.bind_some.{0,0} (A7 @Option.map_some.{0,0} (A7 @Option.isSome_some.{0} (A7 @List.contains_cons.{0} (A7 @List.contains_nil.{0} (A7 @List.getD_cons_zero.{0} (A7 @List.getD_cons_succ.{0} (A7 @List.getD_nil.{0} (A7 @List.length_cons.{0} (A7 @List.length_nil.{0} (A7 @List.size_toArray.{0} (A7 @List.toList_toArray.{0} (A7 @List.zip_cons_cons.{0,0} (A7 @List.zip_nil_left.{0,0} (A7 @List.append_nil.{0} (A7 @List.nil_append.{0} (A7 @List.cons_append.{0} (A7 @List.map_cons.{0,0} (A7 @List.map_nil.{0,0} (A7 @List.replicate_succ.{0} (A7 @List.replicate_zero.{0} (A7 @List.set_cons_zero.{0} (A7 @List.set_cons_succ.{0} (A7 @List.set_set.{0} (A7 @List.all_cons.{0} (A7 @List.any_cons.{0} (A7 @List.any_nil.{0} (A7 @List.all_nil.{0} (A7 @List.getElem?_cons_zero.{0} (A7 @List.getElem?_cons_succ.{0} (A7 @List.getElem?_nil.{0} (@beq_self_eq_true.{0}))))))))))))))))))))))))))))))))
end Dv
namespace Dv
open Go
section
variable {σ ρ α β:Type}
theorem EX(f:σ→Option (σ⊕ρ))(st:Nat→σ): ∀(n:Nat) (r:ρ),(∀i,i<n→f (st i)=some (.inl (st (i+1))))→f (st n)=some (.inr r)→I4 f (st 0)=some r:=by
 intro n r h e
 have key: ∀k,k≤n→I4 f (st (n-k))=some r:=by
  intro k
  induction k with
  |zero=>intro _;exact EH e
  |succ k ih=>
   intro hk;have h1:=h (n-(k+1)) (by omega)
   rw [Jg h1,show n-(k+1)+1=n-k by omega]
   exact ih (by omega)
 have:=key n (KS _)
 rwa [Nat.sub_self]at this
theorem bV(f:σ→Option (σ⊕ρ))(I:Nat→σ→Prop)(Q:ρ→Prop)(step: ∀n s,I n s→(∃s' m,f s=some (.inl s')∧m<n∧I m s')∨(∃r,f s=some (.inr r)∧Q r)):
  ∀(n:Nat) (s:σ),I n s→ ∃r,I4 f s=some r∧Q r:=by
 intro n
 induction n using Nat.strongRecOn with
 |_ n ih=>
  intro s hI;rcases step n s hI with⟨s',m,h1,h2,h3⟩|⟨r,h1,h2⟩
  ·rw [Jg h1];exact ih m h2 s' h3
  ·exact⟨r,EH h1,h2⟩
theorem Oc(f:σ→Option (σ⊕ρ))(mk:Nat→β→σ)(P:Nat→β→Prop)(xs:List α)(g:β→α→β)(ES:β→ρ)
  (h: ∀(i:Nat) (b:β) (hi:i<xs.length),P i b→f (mk i b)=some (.inl (mk (i+1) (g b xs[i])))∧P (i+1) (g b xs[i]))
  (e: ∀b,P xs.length b→f (mk xs.length b)=some (.inr (ES b)))(b0:β)(h0:P 0 b0):I4 f (mk 0 b0)=some (ES (xs.foldl g b0))∧P xs.length (xs.foldl g b0):=by
 have key: ∀(k:Nat) (b:β),k≤xs.length→P (xs.length-k) b→I4 f (mk (xs.length-k) b)=some (ES ((xs.drop (xs.length-k)).foldl g b))∧P xs.length ((xs.drop (xs.length-k)).foldl g b):=by
  intro k
  induction k with
  |zero=>intro b _ hp;simp only [Nat.sub_zero,List.drop_length,List.foldl_nil]at hp ⊢;exact⟨EH (e b hp),hp⟩
  |succ k ih=>
   intro b hk hp;have hl:xs.length-(k+1)<xs.length:=by omega
   obtain⟨h1,h2⟩:=h (xs.length-(k+1)) b hl hp;rw [WH hl,VE,Jg h1];have e1:xs.length-(k+1)+1=xs.length-k:=by omega
   rw [e1]at h2 ⊢;exact ih _ (by omega) h2
 have:=key xs.length b0 (KS _) (by rwa [Nat.sub_self])
 rwa [Nat.sub_self,Ru]at this
end
theorem PG{n:Nat}{P:Nat→Bool}(h: ¬ ∀i,i<n→P i=true): ∃m,m<n∧P m=false∧ ∀i,i<m→P i=true:=by
 induction n with
 |zero=>exact absurd (fun i hi=>absurd hi (Nat.not_lt_zero _)) h
 |succ n ih=>
  by_cases hn: ∀i,i<n→P i=true
  ·refine⟨n,Nat.lt_succ_self _, ?_,hn⟩
   cases hp:P n with
   |false=>rfl
   |true=>exact absurd (fun i hi=>by rcases Nat.lt_succ_iff_lt_or_eq.1 hi with h1|rfl;exact hn i h1;exact hp) h
  ·obtain⟨m,h1,h2,h3⟩:=ih hn
   exact⟨m,by omega,h2,h3⟩
theorem CW{n:Nat}{P:Nat→Bool}:(List.range n).all P=true↔ ∀i,i<n→P i=true:=by
 simp [JG]
theorem j6{σ ρ:Type}(f:σ→Option (σ⊕ρ))(st:Nat→σ)(n:Nat)(P:Nat→Bool)(bad good:ρ)
  (h: ∀i,i<n→(∀j,j<i→P j=true)→f (st i)=if P i=true then some (.inl (st (i+1)))else some (.inr bad))(e:(∀j,j<n→P j=true)→f (st n)=some (.inr good)):I4 f (st 0)=some (if(List.range n).all P=true then good else bad):=by
 by_cases hp: ∀i,i<n→P i=true
 ·rw [if_pos (CW.2 hp)];refine EX f st n good (fun i hi=> ?_) (e hp);rw [h i hi (fun j hj=>hp j (by omega)),if_pos (hp i hi)]
 ·rw [if_neg (fun hc=>hp (CW.1 hc))];obtain⟨m,h1,h2,h3⟩:=PG hp;refine EX f st m bad (fun i hi=> ?_) ?_
  ·rw [h i (by omega) (fun j hj=>h3 j (by omega)),if_pos (h3 i hi)]
  ·rw [h m h1 h3,h2];rfl
theorem Db{σ ρ:Type}(f:σ→Option (σ⊕ρ))(st:Nat→σ)(n:Nat)(P:Nat→Bool)(bad good:ρ)
  (h: ∀i,i<n→f (st i)=if P i=true then some (.inl (st (i+1)))else some (.inr bad))(e:f (st n)=some (.inr good)):I4 f (st 0)=some (if(List.range n).all P=true then good else bad):=
 j6 f st n P bad good (fun i hi _=>h i hi) (fun _=>e)
theorem NK{α:Type}[Inhabited α](p:α→Bool)(xs:List α):(List.range xs.length).all (fun i=>p (xs.getD i default))=xs.all p:=by
 rw [Rt,CW,JG]
 constructor
 ·intro h x hx;obtain⟨i,hi,rfl⟩:=VB hx;have:=h i hi
  rwa [MQ,K4 hi]at this
 ·intro h i hi;rw [MQ,K4 hi];exact h _ (OA hi)
theorem QF{α:Type}[DecidableEq α][Inhabited α](a b:List α)(hl:a.length=b.length):(List.range a.length).all (fun i=>decide (a.getD i default=b.getD i default))=decide (a=b):=by
 by_cases he:a=b
 ·subst he;simp
 ·rw [decide_eq_false he,Fx];intro hc;rw [CW]at hc;refine he (List.ext_getElem hl fun i h1 h2=> ?_);have:=hc i h1
  rw [MQ,MQ,K4 h1,K4 h2]at this;simpa using this
theorem uq{α γ:Type}(f:List γ×Int→Option ((List γ×Int)⊕List γ))(xs:List α)(g:α→γ)
  (h: ∀(i:Nat) (hi:i<xs.length) (out:List γ),out.length=i→f (out,(i:Int))=some (.inl (out++[g xs[i]],((i+1:Nat):Int))))
  (e: ∀out:List γ,out.length=xs.length→f (out,(xs.length:Int))=some (.inr out)):I4 f ([],0)=some (xs.map g):=by
 have key:=EX f (fun i=>((xs.take i).map g,(i:Int))) xs.length (xs.map g) ?_ ?_
 ·simpa using key
 ·intro i hi;have:=h i hi ((xs.take i).map g) (by simp;omega)
  rw [this,jo hi,List.map_append];rfl
 ·simp only [List.take_length];exact e _ (by simp)
theorem Kh(i:Nat)(h:i<4611686018427387904):IntKind.i64.wrap ((i:Int)+1)=((i+1:Nat):Int):=by
 rw [J9 _ (by omega)];rfl
theorem Am{α:Type}[Inhabited α](xs:List α)(i:Nat)(h:i<xs.length):xs.getD i default=xs[i]:=by
 rw [MQ,K4 h];rfl
theorem G5{α:Type}[Inhabited α](xs:List α)(i:Nat)(h:i<xs.length):xs.getD (i:Int).toNat default=xs[i]:=by
 rw [IV];exact Am xs i h
theorem BJ{α:Type}{c:Prop}[Decidable c]{o:Option α}(h:c):ck c o=o:=if_pos h
theorem CJ{i n:Nat}(h:i<n):(i:Int)<(n:Int):=by omega
theorem Ar(n:Nat): ¬(n:Int)<(n:Int):=by omega
theorem Df{i n:Nat}(h:i<n):0≤(i:Int)∧(i:Int).toNat<n:=by omega
theorem EN{α:Type}[Inhabited α](a b:List α)(i:Nat)(h:i=a.length)(hb:0<b.length):(a++b).getD i default=b[0]:=by
 subst h;rw [MQ,Qv (KS _),Nat.sub_self,K4 hb];rfl
end Dv
namespace Dv
open Go
def aH(x:Int×Int):List D:=[D.int .i64 x.1,D.int .i64 x.2]
def ut(xs:List (Int×Int)):Prop:=xs.length≤maxLen∧ ∀x∈xs,rO x.1∧rO x.2
def mD(xss:List (List (Int×Int))):Prop:=xss.length≤maxLen∧ ∀xs∈xss,ut xs
section
variable {T:Tys} {t e a:TypeId} {d:D}
theorem yt{ds:List D}(he:T.ty e= .struct [a,a])(ha:T.ty a= .int .i64)(h:Shp T e ds): ∃x:Int×Int,ds=aH x∧rO x.1∧rO x.2:=by
 obtain⟨hl,hx⟩:=Zz he h;rcases ds with _|⟨d0,_|⟨d1,_|⟨_,_⟩⟩⟩<;>simp at hl
 obtain⟨p,h0,hl0⟩:=XL ha (hx 0 a d0 rfl rfl);obtain⟨q,h1,hl1⟩:=XL ha (hx 1 a d1 rfl rfl);simp only [List.cons.injEq,and_true]at h0 h1;subst h0 h1
 exact⟨(p,q),rfl,hl0,hl1⟩
theorem uu{ds:List D}(ht:T.ty t= .slice e)(he:T.ty e= .struct [a,a])(ha:T.ty a= .int .i64)(h:Shp T t ds): ∃xs,ds=[.sl e (iw aH xs)]∧ut xs:=by
 obtain⟨xss,rfl,hx,hl⟩:=Sn ht h
 have: ∀xss:List (List D),(∀xs,xs∈xss→Shp T e xs)→ ∃ys,xss.flatten=iw aH ys∧ys.length=xss.length∧ ∀y∈ys,rO y.1∧rO y.2:=by
  intro xss
  induction xss with
  |nil=>intro _;exact⟨[],rfl,rfl,by simp⟩
  |cons xs xss ih=>
   intro hx;obtain⟨n,rfl,hn⟩:=yt he ha (hx xs (KV));obtain⟨ys,h1,h2,h3⟩:=ih (fun q hq=>hx q (JY _ hq))
   refine⟨n::ys,by rw [fe,h1];rfl,by simp [h2],fun y hy=> ?_⟩
   rcases Rv.1 hy with rfl|hy
   ·exact hn
   ·exact h3 y hy
 obtain⟨ys,h1,h2,h3⟩:=this xss hx
 exact⟨ys,by rw [h1],by omega,h3⟩
theorem qd{e2:TypeId}{ds:List D}(ht:T.ty t= .slice e)(he:T.ty e= .slice e2)(he2:T.ty e2= .struct [a,a])(ha:T.ty a= .int .i64)(h:Shp T t ds): ∃xss,ds=[.sl e (AL (fun x=> .sl e2 (iw aH x)) xss)]∧mD xss:=by
 obtain⟨xss,rfl,hx,hl⟩:=Sn ht h
 have: ∀xss:List (List D),(∀xs,xs∈xss→Shp T e xs)→ ∃ys,xss.flatten=AL (fun x=> .sl e2 (iw aH x)) ys∧ys.length=xss.length∧ ∀y∈ys,ut y:=by
  intro xss
  induction xss with
  |nil=>intro _;exact⟨[],rfl,rfl,by simp⟩
  |cons xs xss ih=>
   intro hx;obtain⟨n,rfl,hn⟩:=uu he he2 ha (hx xs (KV));obtain⟨ys,h1,h2,h3⟩:=ih (fun q hq=>hx q (JY _ hq))
   refine⟨n::ys,by rw [fe,h1];rfl,by simp [h2],fun y hy=> ?_⟩
   rcases Rv.1 hy with rfl|hy
   ·exact hn
   ·exact h3 y hy
 obtain⟨ys,h1,h2,h3⟩:=this xss hx
 exact⟨ys,by rw [h1],by omega,h3⟩
theorem mE{b c e2:TypeId}(ht:T.ty t= .struct [b,c,c])(hb:T.ty b= .slice e)(he:T.ty e= .slice e2)(he2:T.ty e2= .struct [a,a])(ha:T.ty a= .int .i64)(hc:T.ty c= .slice a)(h:Arg T t d):
  ∃es is js,d= .agg [.sl e (AL (fun x=> .sl e2 (iw aH x)) es),.sl a (JM is),.sl a (JM js)]∧mD es∧uU is∧uU js:=by
 obtain⟨ds,rfl,hl,hx⟩:=aB ht h;rcases ds with _|⟨d0,_|⟨d1,_|⟨d2,_|⟨_,_⟩⟩⟩⟩<;>simp at hl
 obtain⟨es,h0,hl0⟩:=qd hb he he2 ha (hx 0 b d0 rfl rfl);obtain⟨is,h1,hl1⟩:=bS hc ha (hx 1 c d1 rfl rfl);obtain⟨js,h2,hl2⟩:=bS hc ha (hx 2 c d2 rfl rfl);simp only [List.cons.injEq,and_true]at h0 h1 h2;subst h0 h1 h2
 exact⟨es,is,js,rfl,hl0,hl1,hl2⟩
end
end Dv
