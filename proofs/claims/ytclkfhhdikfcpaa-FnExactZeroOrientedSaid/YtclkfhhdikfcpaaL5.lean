/- Value semantics for Go code, part 5: typed lists, loops as functions. Conditions: none beyond those in each lemma. -/
import Derived.Test.YtclkfhhdikfcpaaL4
open Dv.D renaming int → bh
open Go renaming TypeId → ab
open Inhabited renaming default → bj
open List renaming range → an,replicate → ao
set_option linter.unusedSimpArgs false
set_option linter.unusedVariables false
namespace Dv
open Go
set_option maxRecDepth 10000
def ck{α:Type}(c:Prop)[Decidable c](o:Option α):Option α:=if c then o else none
section
variable {σ ρ:Type}
def dP(f:σ→Option (σ⊕ρ)):Nat→σ→Option ρ
 |0,_=>none
 |n+1,s=>
  match f s with
  |none=>none
  |some (.inl s')=>dP f n s'
  |some (.inr r)=>some r
open Classical in
noncomputable def JZ(f:σ→Option (σ⊕ρ))(s:σ):Option ρ:=if h: ∃r n,dP f n s=some r then some h.choose else none
theorem Zq{f:σ→Option (σ⊕ρ)}: ∀ {n m:Nat} {s:σ} {r:ρ},n≤m→dP f n s=some r→dP f m s=some r:=by
 intro n
 induction n with
 |zero=>intro m s r _ h;simp [dP]at h
 |succ n ih=>
  intro m s r hm h
  cases m with
  |zero=>omega
  |succ m=>
   simp only [dP]at h ⊢
   cases hs:f s with
   |none=>simp [hs]at h
   |some q=>
    cases q with
    |inl s'=>simp only [hs]at h ⊢;exact ih (by omega) h
    |inr r'=>simp only [hs]at h ⊢;exact h
theorem Xz{f:σ→Option (σ⊕ρ)}{n:Nat}{s:σ}{r:ρ}(h:dP f n s=some r):JZ f s=some r:=by
 unfold JZ;have hx: ∃r n,dP f n s=some r:=⟨r,n,h⟩;rw [dif_pos hx];obtain⟨n',h'⟩:=hx.choose_spec;have h1:=Zq (Nat.le_max_left n n') h;have h2:=Zq (Nat.le_max_right n n') h';rw [h1]at h2;exact h2.symm
theorem UL{f:σ→Option (σ⊕ρ)}{s:σ}{r:ρ}(h:JZ f s=some r): ∃n,dP f n s=some r:=by
 unfold JZ at h
 split at h
 ·rename_i hx
  simp only [Option.some.injEq]at h;subst h;exact hx.choose_spec
 ·cases h
theorem JB{f:σ→Option (σ⊕ρ)}{s s':σ}(h:f s=some (.inl s')):JZ f s=JZ f s':=by
 cases hi:JZ f s' with
 |some r=>
  obtain⟨n,hn⟩:=UL hi;exact Xz (n:=n+1) (by simp only [dP,h];exact hn)
 |none=>
  cases hj:JZ f s with
  |none=>rfl
  |some r=>
   obtain⟨n,hn⟩:=UL hj
   cases n with
   |zero=>simp [dP]at hn
   |succ n=>
    simp only [dP,h]at hn;rw [Xz hn]at hi;cases hi
theorem FZ{f:σ→Option (σ⊕ρ)}{s:σ}{r:ρ}(h:f s=some (.inr r)):JZ f s=some r:=Xz (n:=1) (by simp [dP,h])
end
def fI{σ ρ:Type}(M:σ→St→Prop)(X:ρ→Ex→St→Prop):σ⊕ρ→Ex→St→Prop
 | .inl v,.normal,s=>M v s
 | .inl _,_,_=>False
 | .inr _,.normal,_=>False
 | .inr r,ex,s=>X r ex s
theorem Cx{σ ρ:Type}(M:σ→St→Prop)(X:ρ→Ex→St→Prop)(v:σ)(s:St):fI M X (.inl v) .normal s=M v s:=nr rfl
theorem Cy{σ ρ:Type}(M:σ→St→Prop)(X:ρ→Ex→St→Prop)(r:ρ)(j:Nat)(s:St):fI M X (.inr r) (.exit j) s=X r (.exit j) s:=nr rfl
theorem Cz{σ ρ:Type}(M:σ→St→Prop)(X:ρ→Ex→St→Prop)(r:ρ)(s:St):fI M X (.inr r) .ret s=X r .ret s:=nr rfl
theorem CF{E:Env}{c:SC}{σ ρ:Type}(f:σ→Option (σ⊕ρ))(M:σ→St→Prop)(X:ρ→Ex→St→Prop)
  (hstep: ∀v s o,M v s→f v=some o→CU E c (fI M X o) s){v:σ}{s:St}{r:ρ}(h:JZ f v=some r)(hM:M v s):CU E (.loop c) (X r) s:=by
 obtain⟨n,hn⟩:=UL h
 induction n generalizing v s with
 |zero=>simp [dP]at hn
 |succ n ih=>
  simp only [dP]at hn
  cases hf:f v with
  |none=>simp [hf]at hn
  |some o=>
   obtain⟨ex,s1,h1,h2⟩:=hstep v s o hM hf
   cases o with
   |inl v'=>
    simp only [hf]at hn
    cases ex with
    |normal=>
     obtain⟨ex',s2,h3,h4⟩:=ih (Xz hn) h2 hn
     refine⟨ex',s2, ?_,h4⟩
     simp only [DR]at h3 ⊢;rw [Xt,h1];exact h3
    |exit id=>exact h2.elim
    |ret=>exact h2.elim
   |inr r'=>
    simp only [hf,Option.some.injEq]at hn;subst hn
    cases ex with
    |normal=>exact h2.elim
    |exit id=>exact⟨_,s1,by simp only [DR];rw [Xt,h1],h2⟩
    |ret=>exact⟨_,s1,by simp only [DR];rw [Xt,h1],h2⟩
def AP{α:Type}(c:α→D)(xs:List α):List D:=xs.map c
def cat{α:Type}(c:α→List D)(xs:List α):List D:=xs.flatMap c
section
variable {α:Type} (c:α→D)
theorem JC:AP c []=[]:=nr rfl
theorem DT(x:α)(xs:List α):AP c (x::xs)=c x::AP c xs:=nr rfl
theorem Kq(xs:List α):(AP c xs).length=xs.length:=by simp [AP]
theorem UM[Inhabited α](xs:List α)(i:Nat)(h:i<xs.length):(AP c xs).getD i .undef=c (xs.getD i bj):=by
 simp [AP,MJ,h]
theorem A14[Inhabited α](xs:List α)(i:Nat)(h:i<xs.length):(AP c xs)[i]? =some (c (xs.getD i bj)):=by
 simp [AP,MJ,h]
theorem fJ(xs:List α)(i:Nat)(y:α):(AP c xs).set i (c y)=AP c (xs.set i y):=by simp [AP]
theorem dQ(xs ys:List α):AP c xs++AP c ys=AP c (xs++ys):=by simp [AP]
theorem lm(xs:List α)(n:Nat):(AP c xs).take n=AP c (xs.take n):=by simp [AP]
theorem lq(xs:List α)(n:Nat):(AP c xs).drop n=AP c (xs.drop n):=by simp [AP]
theorem UN(xs:List α)(h: ∀x,(c x).hasObj=false):Ae (AP c xs)=false:=by
 induction xs with
 |nil=>rfl
 |cons x xs ih=>simp only [DT,Ae,h,ih];rfl
theorem qJ(xs:List α)(h: ∀x,Dj (c x)=some (c x)):Dz (AP c xs)=some (AP c xs):=by
 induction xs with
 |nil=>rfl
 |cons x xs ih=>simp only [DT,Dz,h,ih];rfl
theorem lu(c:α→List D)(c':α→List D)(e:ab)(xs:List α)(h: ∀x,Dz (c x)=some (c' x)):Dz (AP (fun x=>D.own e (c x)) xs)=some (AP (fun x=>D.sl e (c' x)) xs):=by
 induction xs with
 |nil=>rfl
 |cons x xs ih=>simp only [DT,Dz,Dj,h,ih];rfl
theorem jH(xs:List α)(h: ∀x,Dp (c x)=false):GG (AP c xs)=false:=by
 induction xs with
 |nil=>rfl
 |cons x xs ih=>simp only [DT,GG,h,ih];rfl
theorem jI(xs:List α)(h: ∀x,DC (c x)=true):(AP c xs).all DC=true:=by simp [AP,h]
end
section
variable {α:Type} (c:α→List D) (n:Nat)
theorem Ia:cat c []=[]:=nr rfl
theorem Ff(x:α)(xs:List α):cat c (x::xs)=c x++cat c xs:=nr rfl
theorem dR(h: ∀x,(c x).length=n)(xs:List α):(cat c xs).length=xs.length*n:=by
 induction xs with
 |nil=>simp [Ia]
 |cons x xs ih=>simp only [Ff,Ow,h,ih,KZ,Nat.succ_mul];omega
theorem dS(xs:List α)(h: ∀x,Ae (c x)=false):Ae (cat c xs)=false:=by
 have app: ∀(as bs:List D),Ae (as++bs)=(Ae as||Ae bs):=by
  intro as bs
  induction as with
  |nil=>simp [Ae]
  |cons a as ih=>simp [Ae,ih,Bool.or_assoc]
 induction xs with
 |nil=>rfl
 |cons x xs ih=>rw [Ff,app,h,ih];rfl
end
def qK{α:Type}:List α→Nat→List α→List α
 |xs,_,[]=>xs
 |xs,c,y::ys=>qK (xs.set c y) (c+1) ys
theorem dU{α:Type}(c:α→D): ∀(ys xs:List α) (n:Nat),CV (AP c xs) n (AP c ys)=AP c (qK xs n ys):=by
 intro ys
 induction ys with
 |nil=>intro xs n;cases xs<;>rfl
 |cons y ys ih=>
  intro xs n
  have h1:CV (AP c xs) n (AP c (y::ys))=CV ((AP c xs).set n (c y)) (n+1) (AP c ys):=by
   rw [DT];cases AP c xs<;>rfl
  rw [h1,fJ,ih];rfl
theorem dV{α:Type}: ∀(ys xs:List α) (n:Nat),n+ys.length≤xs.length→qK xs n ys=xs.take n++(ys++xs.drop (n+ys.length)):=by
 intro ys
 induction ys with
 |nil=>intro xs n _;simp [qK]
 |cons y ys ih=>
  intro xs n h;simp only [KZ]at h;unfold qK;rw [ih (xs.set n y) (n+1) (by simp;omega)]
  have h1:(xs.set n y).take (n+1)=xs.take n++[y]:=by
   rw [oO (by simp;omega),List.getElem_set_self,List.take_set_of_le (Hq _)]
  rw [h1,List.drop_set_of_lt (by omega),KZ,show n+1+ys.length=n+(ys.length+1) by omega,QY];rfl
theorem Ao{α β:Type}{o:Option α}{f:α→Option β}{r:β}(h:o.bind f=some r): ∃a,o=some a∧f a=some r:=by
 cases o with
 |none=>cases h
 |some a=>exact⟨a,rfl,h⟩
theorem Cb{α:Type}{c:Prop}[Decidable c]{o:Option α}{r:α}(h:ck c o=some r):c∧o=some r:=by
 unfold ck at h
 split at h
 ·rename_i hc;exact⟨hc,h⟩
 ·cases h
section
variable {α:Type} (c:α→D)
theorem jJ(xs:List α)(y:α)(ds:List D):AP c xs++(c y::ds)=AP c (xs++[y])++ds:=by simp [AP]
theorem lw(c:α→List D)(e:ab)(xs:List α)(h: ∀x,Dz (c x)=some (c x)):Dz (AP (fun x=>D.own e (c x)) xs)=some (AP (fun x=>D.sl e (c x)) xs):=lu c c e xs h
def SG(c:α→D):Option α→D
 |some a=>c a
 |none=> .undef
theorem fK(xs:List α):AP (SG c) (xs.map some)=AP c xs:=by simp [AP,Function.comp_def,SG]
theorem UO(xs:List (Option α))(n:Nat):(AP (SG c) xs).set n .undef=AP (SG c) (xs.set n none):=by simp [AP,List.map_set,SG]
theorem mD(xs:List (Option α))(n:Nat)(y:α):(AP (SG c) xs).set n (c y)=AP (SG c) (xs.set n (some y)):=by simp [AP,List.map_set,SG]
theorem mE(xs:List α):(xs.map some).length=xs.length:=by simp
theorem Zr(xs:List α)(n:Nat):(AP c xs).set n .undef=AP (SG c) ((xs.map some).set n none):=by rw [←UO,fK]
theorem qL(xs:List (Option α))(n:Nat):AP (SG (SG c)) ((xs.map some).set n none)=AP (SG c) (xs.set n none):=by rw [←Zr,UO]
theorem mF(xs:List α)(n:Nat)(y:α):(xs.map some).set n (some y)=(xs.set n y).map some:=List.map_set.symm
theorem qM(n:Nat)(k:IntKind)(x:Int):ao n (bh k x)=AP (bh k) (ao n x):=by simp [AP]
theorem qN(n:Nat)(e:ab):ao n (D.own e [])=AP (fun x=>D.own e (AP (bh .i64) x)) (ao n []):=by simp [AP]
variable [Inhabited α] {T:Tys}
theorem ACd(e:ab)(n:Int)(xs:List α)(hk:T.known e=true)(hz:T.size e=1)(hn:0≤n∧n.toNat<xs.length):at1 T e n (some (e,AP c xs,none))=some (.cptr [c (xs.getD n.toNat bj)]):=by
 rw [AAO e n (AP c xs) hk hz (by simpa [AP] using hn),UM c xs _ hn.2]
end
theorem ACe:(true==false)=false:=nr rfl
theorem ACf:(false==true)=false:=nr rfl
theorem ACg{s:St}(dst:Option Tmp)(u:Tmp)(i:Nat)(L:AO)(n m:Nat):bi s dst u i (some (.vw L n m))=some (s.putO dst (.vw L n m)):=by simp [bi,D9,Cn,D.hasObj,KD]
theorem Zt{α:Type}(c:α→D)(xs:List α):(AP c xs).isEmpty=xs.isEmpty:=by cases xs<;>rfl
theorem A5F{α:Type}(c:α→D)(e:ab)(xs:List α):Dp (.sl e (AP c xs))= !xs.isEmpty:=by simp only [Dp,Zt]
theorem dW{α β:Type}(c:β→D)(f:α→List β)(e:ab)(xs:List α):GG (AP (fun x=>D.sl e (AP c (f x))) xs)=xs.any fun x=> !(f x).isEmpty:=by
 induction xs with
 |nil=>rfl
 |cons x xs ih=>simp only [DT,GG,A5F,ih,List.any_cons]
theorem Zu{α:Type}(c:α→List D)(e:ab)(xs:List α):Ae (AP (fun x=>D.own e (c x)) xs)= !xs.isEmpty:=by
 cases xs with
 |nil=>rfl
 |cons x xs=>simp [DT,Ae,D.hasObj]
section
variable {pm:Pm} {s:St} {dst:Option Tmp}
theorem ACh(ls:List (AO×D))(r:D)(o:List D)(h:Dp r=true):cb2 pm s dst ls (some (r,o))=if(EN (ls.map (·.1))&&ls.all (fun l=>pm.wr (l.1.headD 0)))=true then(IE ls).map fun ls'=>(back false s ls').putO dst r else none:=by
 simp [cb2,h]
theorem faN:IE []=some []:=nr rfl
def fac(L:AO)(o:Option (List (AO×D))):Option D→Option (List (AO×D))
 |some c=>o.map ((L,c):: ·)
 |none=>none
theorem faC(L:AO)(c:D)(rest:List (AO×D)):IE ((L,c)::rest)=fac L (IE rest) (Dj c):=by
 simp only [IE];cases Dj c<;>rfl
theorem ACi(L:AO)(ls:List (AO×D))(c:D):fac L (some ls) (some c)=some ((L,c)::ls):=nr rfl
end
def A5G(xs:jh)(n:Nat):Int:=(xs.getD n bj).1
def ACj(xs:jh)(n:Nat):Int:=(xs.getD n bj).2
def Qr(k l:IntKind)(xs:jh):List D:=cat (fun x=>[bh k x.1,bh l x.2]) xs
theorem AC(k l:IntKind):Qr k l []=[]:=nr rfl
theorem OJ(k l:IntKind)(x:Int×Int)(xs:jh):Qr k l (x::xs)=bh k x.1::bh l x.2::Qr k l xs:=nr rfl
theorem Zv(k l:IntKind)(xs:jh):(Qr k l xs).length=xs.length*2:=dR _ 2 (fun _=>rfl) xs
theorem jK(k l:IntKind)(v:Int): ∀(xs:jh) (n:Nat),n<xs.length→(Qr k l xs).set (n*2) (bh k v)=Qr k l (xs.set n (v,ACj xs n)):=by
 intro xs
 induction xs with
 |nil=>intro n h;simp at h
 |cons x xs ih=>
  intro n h
  cases n with
  |zero=>rfl
  |succ n=>
   have:=ih n (by simpa using h)
   rw [OJ,Nat.succ_mul,Yk,Yk,Yk,this,OJ];rfl
theorem jL(k l:IntKind)(v:Int): ∀(xs:jh) (n:Nat),n<xs.length→(Qr k l xs).set (n*2+1) (bh l v)=Qr k l (xs.set n (A5G xs n,v)):=by
 intro xs
 induction xs with
 |nil=>intro n h;simp at h
 |cons x xs ih=>
  intro n h
  cases n with
  |zero=>rfl
  |succ n=>
   have:=ih n (by simpa using h)
   rw [OJ,Nat.succ_mul,show n*2+2+1=n*2+1+1+1 by omega,Yk,Yk,Yk,this,OJ];rfl
theorem Zw(k l:IntKind)(xs:jh):Ae (Qr k l xs)=false:=dS _ xs (fun _=>by simp [Ae,D.hasObj])
section
variable {T:Tys} {pm:Pm} {s:St} {t:ab}
def sq1(T:Tys)(pm:Pm)(t:ab)(u:Tmp)(a b:D)(s:St):Option D→Nat→AO→Option St
 |some (.own e xs),c,L=>if T.known t&&T.isStruct t&&pm.wr (L.headD 0)&&DC a&&DC b&&(T.size t==2)&&decide (c+2≤xs.length)&& !a.hasObj&& !b.hasObj&& !Ae xs then some (s.set L (.own e ((xs.set c a).set (c+1) b)))else au T pm t (.tmp u) (some (.agg [a,b],s))
 |_,_,_=>au T pm t (.tmp u) (some (.agg [a,b],s))
theorem dX(k l:IntKind)(xs:jh)(n:Nat)(a b:Int)(h:n<xs.length):((Qr k l xs).set (n*2) (bh k a)).set (n*2+1) (bh l b)=Qr k l (xs.set n (a,b)):=by
 rw [jK k l a xs n h,jL k l b _ n (by simpa using h),List.set_set]
 congr 2
 simp [A5G,MJ,h]
theorem ACk(k l:IntKind)(u:Tmp)(a b:Int)(L:AO)(e:ab)(n:Nat)(xs:jh)(hk:T.known t=true)(hs:T.isStruct t=true)(hw:pm.wr (L.headD 0)=true)(hz:T.size t=2)(h:n<xs.length):
  sq1 T pm t u (.int k a) (.int l b) s (some (.own e (Qr k l xs))) (n*2) L=some (s.set L (.own e (Qr k l (xs.set n (a,b))))):=by
 simp only [sq1];rw [if_pos,dX k l xs n a b h];simp only [hk,hs,hw,hz,DC,Zv,Zw,D.hasObj,Gl,decide_eq_true_eq,beq_self_eq_true,Bool.not_false,and_true,true_and];omega
theorem Zx: ∀(xs:AU),XJ (AP (bh .i64) xs)=some xs
 | []=>rfl
 |x::xs=>by rw [DT,XJ,Zx xs];rfl
theorem A5H(xs:AU)(h':xs.length≤14∧14≤xs.length):Og true 14 (.agg (AP (bh .i64) xs))=some xs:=by
 have h:xs.length=14:=by omega
 simp only [Og,Kq,h,and_self,if_true,Zx]
theorem A5I(a0 a1 a2 a3 a4 a5 a6 a7 a8 a9 a10 a11 a12 a13:Int):Og true 14 (.agg [.int .i64 a0,.int .i64 a1,.int .i64 a2,.int .i64 a3,.int .i64 a4,.int .i64 a5,.int .i64 a6,.int .i64 a7,.int .i64 a8,.int .i64 a9,.int .i64 a10,.int .i64 a11,.int .i64 a12,.int .i64 a13])=some [a0,a1,a2,a3,a4,a5,a6,a7,a8,a9,a10,a11,a12,a13]:=nr rfl
theorem csA(L:AO)(xs:AU)(h':xs.length≤14∧14≤xs.length):cellsOf s L 0 14 (some (.box (AP (bh .i64) xs)))=some (.agg (AP (bh .i64) xs)):=by
 have h:xs.length=14:=by omega
 have e:((an 14).map fun i=>Cn s L (0+i) ((AP (bh .i64) xs).getD (0+i) .undef))=AP (bh .i64) xs:=by
  refine List.ext_getElem (by simp [Kq,h]) (fun i h1 h2=> ?_)
  have hi:i<xs.length:=by rw [Kq]at h2;exact h2
  simp only [List.getElem_map,List.getElem_range,JS,UM _ xs i hi,Cn];simp [AP,hi]
 show(if 0+14≤(AP (bh .i64) xs).length then D9 (.agg ((an 14).map fun i=>Cn s L (0+i) ((AP (bh .i64) xs).getD (0+i) .undef)))else none)=_
 rw [if_pos (by rw [Kq,h];omega),e]
 simp only [D9,D.hasObj,UN (bh .i64) xs (fun _=>rfl)];rfl
theorem ndL{α:Type}(e:ab)(c:α→D)(xs:List α)(h:0<xs.length):PZ pm s (.sl e (AP c xs))=some false:=by
 cases xs with
 |nil=>exact(Nat.lt_irrefl 0 h).elim
 |cons x xs=>rfl
end
set_option linter.defProp false
def ACl:=A7 @ACg (A7 @dU (A7 @Zu (A7 @dW (A7 @ACh (A7 @faN (A7 @faC (A7 @ACi (A7 @ACd (A7 @Kq (A7 @A14 (A7 @UM (A7 @fJ (A7 @dQ (A7 @jJ (A7 @lm (A7 @lq (A7 @UN (A7 @qJ (A7 @lw (A7 @jH (A7 @jI (A7 @qN (A7 @fK (A7 @mE (A7 @Zr (A7 @mF (A7 (A7 @qL @UO) (A7 @mD (A7 @qM (A7 @ACe @ACf))))))))))))))))))))))))))))))
theorem tk4(a b c d:D)(l:List D):List.take 4 (a::b::c::d::l)=[a,b,c,d]:=nr rfl
theorem dr1(a:D)(l:List D):List.drop 1 (a::l)=l:=nr rfl
def xc2:=A7 (A7 @A5H (A7 @A5I (A7 @csA @ndL))) (A7 @Nat.add_zero (A7 @tk4 (A7 @dr1 (A7 @List.length_set.{0} (@ACk)))))
def A5J:=A7 @implies_true.{1} (A7 @Option.bind_some.{0,0} (A7 @Option.map_some.{0,0} (A7 @Option.isSome_some.{0} (A7 @List.contains_cons.{0} (A7 @List.contains_nil.{0} (A7 @List.getD_cons_zero.{0} (A7 @List.getD_cons_succ.{0} (A7 @List.getD_nil.{0} (A7 @List.length_cons.{0} (A7 @List.length_nil.{0} (A7 @List.size_toArray.{0} (A7 @List.toList_toArray.{0} (A7 @List.zip_cons_cons.{0,0} (A7 @List.zip_nil_left.{0,0} (A7 @List.append_nil.{0} (A7 @List.nil_append.{0} (A7 @List.cons_append.{0} (A7 @List.map_cons.{0,0} (A7 @List.map_nil.{0,0} (A7 @List.replicate_succ.{0} (A7 @List.replicate_zero.{0} (A7 @List.set_cons_zero.{0} (A7 @List.set_cons_succ.{0} (A7 @List.set_set.{0} (A7 @List.all_cons.{0} (A7 @List.any_cons.{0} (A7 @List.any_nil.{0} (A7 @List.all_nil.{0} (A7 @List.getElem?_cons_zero.{0} (A7 @List.getElem?_cons_succ.{0} (A7 @List.getElem?_nil.{0} (@beq_self_eq_true.{0}))))))))))))))))))))))))))))))))
theorem Aj:an 0=[]:=nr rfl
end Dv
namespace Dv
open Go
section
variable {σ ρ α β:Type}
theorem Fa(f:σ→Option (σ⊕ρ))(st:Nat→σ): ∀(n:Nat) (r:ρ),(∀i,i<n→f (st i)=some (.inl (st (i+1))))→f (st n)=some (.inr r)→JZ f (st 0)=some r:=by
 intro n r h e
 have key: ∀k,k≤n→JZ f (st (n-k))=some r:=by
  intro k
  induction k with
  |zero=>intro _;exact FZ e
  |succ k ih=>
   intro hk;have h1:=h (n-(k+1)) (by omega)
   rw [JB h1,show n-(k+1)+1=n-k by omega]
   exact ih (by omega)
 have:=key n (Hq _)
 rwa [Nat.sub_self]at this
theorem Q8(f:σ→Option (σ⊕ρ))(I:Nat→σ→Prop)(Q:ρ→Prop)(step: ∀n s,I n s→(∃s' m,f s=some (.inl s')∧m<n∧I m s')∨(∃r,f s=some (.inr r)∧Q r)):
  ∀(n:Nat) (s:σ),I n s→ ∃r,JZ f s=some r∧Q r:=by
 intro n
 induction n using Nat.strongRecOn with
 |_ n ih=>
  intro s hI;rcases step n s hI with⟨s',m,h1,h2,h3⟩|⟨r,h1,h2⟩
  ·rw [JB h1];exact ih m h2 s' h3
  ·exact⟨r,FZ h1,h2⟩
end
theorem PG{n:Nat}{P:Nat→Bool}(h: ¬ ∀i,i<n→P i=true): ∃m,m<n∧P m=false∧ ∀i,i<m→P i=true:=by
 induction n with
 |zero=>exact absurd (fun i hi=>absurd hi (Nat.not_lt_zero _)) h
 |succ n ih=>
  by_cases hn: ∀i,i<n→P i=true
  ·refine⟨n,Nat.lt_succ_self _, ?_,hn⟩
   cases hp:P n with
   |false=>rfl
   |true=>exact absurd (fun i hi=>by rcases Nat.lt_succ_iff_lt_or_eq.1 hi with h1|rfl;exact hn i h1;exact hp) h
  ·obtain⟨m,h1,h2,h3⟩:=ih hn
   exact⟨m,by omega,h2,h3⟩
theorem Dl{n:Nat}{P:Nat→Bool}:(an n).all P=true↔ ∀i,i<n→P i=true:=by
 simp [Hr]
theorem Zy{σ ρ:Type}(f:σ→Option (σ⊕ρ))(st:Nat→σ)(n:Nat)(P:Nat→Bool)(bad good:ρ)
  (h: ∀i,i<n→(∀j,j<i→P j=true)→f (st i)=if P i=true then some (.inl (st (i+1)))else some (.inr bad))(e:(∀j,j<n→P j=true)→f (st n)=some (.inr good)):JZ f (st 0)=some (if(an n).all P=true then good else bad):=by
 by_cases hp: ∀i,i<n→P i=true
 ·rw [if_pos (Dl.2 hp)];refine Fa f st n good (fun i hi=> ?_) (e hp);rw [h i hi (fun j hj=>hp j (by omega)),if_pos (hp i hi)]
 ·rw [if_neg (fun hc=>hp (Dl.1 hc))];obtain⟨m,h1,h2,h3⟩:=PG hp;refine Fa f st m bad (fun i hi=> ?_) ?_
  ·rw [h i (by omega) (fun j hj=>h3 j (by omega)),if_pos (h3 i hi)]
  ·rw [h m h1 h3,h2];rfl
theorem Jm{σ ρ:Type}(f:σ→Option (σ⊕ρ))(st:Nat→σ)(n:Nat)(P:Nat→Bool)(bad good:ρ)
  (h: ∀i,i<n→f (st i)=if P i=true then some (.inl (st (i+1)))else some (.inr bad))(e:f (st n)=some (.inr good)):JZ f (st 0)=some (if(an n).all P=true then good else bad):=
 Zy f st n P bad good (fun i hi _=>h i hi) (fun _=>e)
theorem UQ{α:Type}[Inhabited α](p:α→Bool)(xs:List α):(an xs.length).all (fun i=>p (xs.getD i bj))=xs.all p:=by
 rw [Bool.eq_iff_iff,Dl,Hr]
 constructor
 ·intro h x hx;obtain⟨i,hi,rfl⟩:=List.getElem_of_mem hx;have:=h i hi
  rwa [MJ,IC hi]at this
 ·intro h i hi;rw [MJ,IC hi];exact h _ (OX hi)
theorem UR{α:Type}[DecidableEq α][Inhabited α](a b:List α)(hl:a.length=b.length):(an a.length).all (fun i=>decide (a.getD i bj=b.getD i bj))=decide (a=b):=by
 by_cases he:a=b
 ·subst he;simp
 ·rw [decide_eq_false he,Iw];intro hc;rw [Dl]at hc;refine he (List.ext_getElem hl fun i h1 h2=> ?_);have:=hc i h1
  rw [MJ,MJ,IC h1,IC h2]at this;simpa using this
theorem Md(i:Nat)(h:i<4611686018427387904):IntKind.i64.wrap ((i:Int)+1)=((i+1:Nat):Int):=by
 rw [JA _ (by omega)];rfl
theorem DF{α:Type}[Inhabited α](xs:List α)(i:Nat)(h:i<xs.length):xs.getD i bj=xs[i]:=by
 rw [MJ,IC h];rfl
theorem JD{α:Type}[Inhabited α](xs:List α)(i:Nat)(h:i<xs.length):xs.getD (i:Int).toNat bj=xs[i]:=by
 rw [ML];exact DF xs i h
theorem Ce{α:Type}{c:Prop}[Decidable c]{o:Option α}(h:c):ck c o=o:=if_pos h
theorem EP{i n:Nat}(h:i<n):(i:Int)<(n:Int):=by omega
theorem Bj(n:Nat): ¬(n:Int)<(n:Int):=by omega
theorem Ea{i n:Nat}(h:i<n):0≤(i:Int)∧(i:Int).toNat<n:=by omega
theorem Fg{α:Type}[Inhabited α](a b:List α)(i:Nat)(h:i=a.length)(hb:0<b.length):(a++b).getD i bj=b[0]:=by
 subst h;rw [MJ,Ou (Hq _),Nat.sub_self,IC hb];rfl
end Dv
namespace Dv
open Go
section
variable {T:Tys} {t e a:ab} {d:D}
end
end Dv
