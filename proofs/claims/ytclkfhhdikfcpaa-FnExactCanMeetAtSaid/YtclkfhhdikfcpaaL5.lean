/- Value semantics for Go code, part 5: typed lists, loops as functions. Conditions: none beyond those in each lemma. -/
import Derived.Test.YtclkfhhdikfcpaaL4
open Dv.D renaming int → bd
open Go renaming TypeId → ab
open Inhabited renaming default → be
open List renaming range → an,replicate → ao
set_option linter.unusedSimpArgs false
set_option linter.unusedVariables false
namespace Dv
open Go
set_option maxRecDepth 10000
def ck{α:Type}(c:Prop)[Decidable c](o:Option α):Option α:=if c then o else none
section
variable {σ ρ:Type}
def aJ(f:σ→Option (σ⊕ρ)):Nat→σ→Option ρ
 |0,_=>none
 |n+1,s=>
  match f s with
  |none=>none
  |some (.inl s')=>aJ f n s'
  |some (.inr r)=>some r
open Classical in
noncomputable def Io(f:σ→Option (σ⊕ρ))(s:σ):Option ρ:=if h: ∃r n,aJ f n s=some r then some h.choose else none
theorem YP{f:σ→Option (σ⊕ρ)}: ∀ {n m:Nat} {s:σ} {r:ρ},n≤m→aJ f n s=some r→aJ f m s=some r:=by
 intro n
 induction n with
 |zero=>intro m s r _ h;simp [aJ]at h
 |succ n ih=>
  intro m s r hm h
  cases m with
  |zero=>omega
  |succ m=>
   simp only [aJ]at h ⊢
   cases hs:f s with
   |none=>simp [hs]at h
   |some q=>
    cases q with
    |inl s'=>simp only [hs]at h ⊢;exact ih (by omega) h
    |inr r'=>simp only [hs]at h ⊢;exact h
theorem WO{f:σ→Option (σ⊕ρ)}{n:Nat}{s:σ}{r:ρ}(h:aJ f n s=some r):Io f s=some r:=by
 unfold Io;have hx: ∃r n,aJ f n s=some r:=⟨r,n,h⟩;rw [dif_pos hx];obtain⟨n',h'⟩:=hx.choose_spec;have h1:=YP (Nat.le_max_left n n') h;have h2:=YP (Nat.le_max_right n n') h';rw [h1]at h2;exact h2.symm
theorem Sj{f:σ→Option (σ⊕ρ)}{s:σ}{r:ρ}(h:Io f s=some r): ∃n,aJ f n s=some r:=by
 unfold Io at h
 split at h
 ·rename_i hx
  simp only [Option.some.injEq]at h;subst h;exact hx.choose_spec
 ·cases h
theorem WP{f:σ→Option (σ⊕ρ)}{s s':σ}(h:f s=some (.inl s')):Io f s=Io f s':=by
 cases hi:Io f s' with
 |some r=>
  obtain⟨n,hn⟩:=Sj hi;exact WO (n:=n+1) (by simp only [aJ,h];exact hn)
 |none=>
  cases hj:Io f s with
  |none=>rfl
  |some r=>
   obtain⟨n,hn⟩:=Sj hj
   cases n with
   |zero=>simp [aJ]at hn
   |succ n=>
    simp only [aJ,h]at hn;rw [WO hn]at hi;cases hi
theorem R4{f:σ→Option (σ⊕ρ)}{s:σ}{r:ρ}(h:f s=some (.inr r)):Io f s=some r:=WO (n:=1) (by simp [aJ,h])
end
def bg{σ ρ:Type}(M:σ→St→Prop)(X:ρ→Ex→St→Prop):σ⊕ρ→Ex→St→Prop
 | .inl v,.normal,s=>M v s
 | .inl _,_,_=>False
 | .inr _,.normal,_=>False
 | .inr r,ex,s=>X r ex s
theorem Cm{σ ρ:Type}(M:σ→St→Prop)(X:ρ→Ex→St→Prop)(v:σ)(s:St):bg M X (.inl v) .normal s=M v s:=nr rfl
theorem Cn{σ ρ:Type}(M:σ→St→Prop)(X:ρ→Ex→St→Prop)(r:ρ)(j:Nat)(s:St):bg M X (.inr r) (.exit j) s=X r (.exit j) s:=nr rfl
theorem Co{σ ρ:Type}(M:σ→St→Prop)(X:ρ→Ex→St→Prop)(r:ρ)(s:St):bg M X (.inr r) .ret s=X r .ret s:=nr rfl
theorem Bc{E:Env}{c:SC}{σ ρ:Type}(f:σ→Option (σ⊕ρ))(M:σ→St→Prop)(X:ρ→Ex→St→Prop)
  (hstep: ∀v s o,M v s→f v=some o→CK E c (bg M X o) s){v:σ}{s:St}{r:ρ}(h:Io f v=some r)(hM:M v s):CK E (.loop c) (X r) s:=by
 obtain⟨n,hn⟩:=Sj h
 induction n generalizing v s with
 |zero=>simp [aJ]at hn
 |succ n ih=>
  simp only [aJ]at hn
  cases hf:f v with
  |none=>simp [hf]at hn
  |some o=>
   obtain⟨ex,s1,h1,h2⟩:=hstep v s o hM hf
   cases o with
   |inl v'=>
    simp only [hf]at hn
    cases ex with
    |normal=>
     obtain⟨ex',s2,h3,h4⟩:=ih (WO hn) h2 hn
     refine⟨ex',s2, ?_,h4⟩
     simp only [Dt]at h3 ⊢;rw [WJ,h1];exact h3
    |exit id=>exact h2.elim
    |ret=>exact h2.elim
   |inr r'=>
    simp only [hf,Option.some.injEq]at hn;subst hn
    cases ex with
    |normal=>exact h2.elim
    |exit id=>exact⟨_,s1,by simp only [Dt];rw [WJ,h1],h2⟩
    |ret=>exact⟨_,s1,by simp only [Dt];rw [WJ,h1],h2⟩
def AQ{α:Type}(c:α→D)(xs:List α):List D:=xs.map c
def U8{α:Type}(c:α→List D)(xs:List α):List D:=xs.flatMap c
section
variable {α:Type} (c:α→D)
theorem o8:AQ c []=[]:=nr rfl
theorem JM(x:α)(xs:List α):AQ c (x::xs)=c x::AQ c xs:=nr rfl
theorem J5(xs:List α):(AQ c xs).length=xs.length:=by simp [AQ]
theorem Sk[Inhabited α](xs:List α)(i:Nat)(h:i<xs.length):(AQ c xs).getD i .undef=c (xs.getD i be):=by
 simp [AQ,Jg,h]
theorem A0G[Inhabited α](xs:List α)(i:Nat)(h:i<xs.length):(AQ c xs)[i]? =some (c (xs.getD i be)):=by
 simp [AQ,Jg,h]
theorem bi(xs:List α)(i:Nat)(y:α):(AQ c xs).set i (c y)=AQ c (xs.set i y):=by simp [AQ]
theorem kE(xs:List α)(n:Nat):(AQ c xs).take n=AQ c (xs.take n):=by simp [AQ]
theorem kF(xs:List α)(n:Nat):(AQ c xs).drop n=AQ c (xs.drop n):=by simp [AQ]
theorem Ny(xs:List α)(h: ∀x,(c x).hasObj=false):Ak (AQ c xs)=false:=by
 induction xs with
 |nil=>rfl
 |cons x xs ih=>simp only [JM,Ak,h,ih];rfl
theorem o9(xs:List α)(h: ∀x,E5 (c x)=some (c x)):DL (AQ c xs)=some (AQ c xs):=by
 induction xs with
 |nil=>rfl
 |cons x xs ih=>simp only [JM,DL,h,ih];rfl
theorem kG(c:α→List D)(c':α→List D)(e:ab)(xs:List α)(h: ∀x,DL (c x)=some (c' x)):DL (AQ (fun x=>D.own e (c x)) xs)=some (AQ (fun x=>D.sl e (c' x)) xs):=by
 induction xs with
 |nil=>rfl
 |cons x xs ih=>simp only [JM,DL,E5,h,ih];rfl
theorem gJ(xs:List α)(h: ∀x,Df (c x)=false):Dh (AQ c xs)=false:=by
 induction xs with
 |nil=>rfl
 |cons x xs ih=>simp only [JM,Dh,h,ih];rfl
theorem VO(xs:List α)(h: ∀x,DJ (c x)=true):(AQ c xs).all DJ=true:=by simp [AQ,h]
end
section
variable {α:Type} (c:α→List D) (n:Nat)
theorem WQ:U8 c []=[]:=nr rfl
theorem L9(x:α)(xs:List α):U8 c (x::xs)=c x++U8 c xs:=nr rfl
theorem aK(xs ys:List α):U8 c xs++U8 c ys=U8 c (xs++ys):=by simp [U8]
theorem Sl(h: ∀x,(c x).length=n)(xs:List α):(U8 c xs).length=xs.length*n:=by
 induction xs with
 |nil=>simp [WQ]
 |cons x xs ih=>simp only [L9,KG,h,ih,NU,Nat.succ_mul];omega
theorem YQ(h: ∀x,(c x).length=n)(xs:List α): ∀(i:Nat),(U8 c xs).drop (i*n)=U8 c (xs.drop i):=by
 induction xs with
 |nil=>intro i;simp [WQ]
 |cons x xs ih=>
  intro i
  cases i with
  |zero=>simp
  |succ i=>
   rw [L9,List.drop_append,List.drop_succ_cons,←ih i,h,Nat.succ_mul];have e1:(c x).drop (i*n+n)=[]:=List.drop_eq_nil_of_le (by rw [h];omega)
   rw [e1,Nat.add_sub_cancel];rfl
theorem aL(xs:List α)(h: ∀x,Ak (c x)=false):Ak (U8 c xs)=false:=by
 have app: ∀(as bs:List D),Ak (as++bs)=(Ak as||Ak bs):=by
  intro as bs
  induction as with
  |nil=>simp [Ak]
  |cons a as ih=>simp [Ak,ih,Bool.or_assoc]
 induction xs with
 |nil=>rfl
 |cons x xs ih=>rw [L9,app,h,ih];rfl
theorem YR: ∀(as bs as' bs':List D),DL as=some as'→DL bs=some bs'→DL (as++bs)=some (as'++bs'):=by
 intro as
 induction as with
 |nil=>intro bs as' bs' h1 h2;simp [DL]at h1;subst h1;simpa using h2
 |cons a as ih=>
  intro bs as' bs' h1 h2;simp only [DL,Gl,Cb]at h1;obtain⟨a',ha,as1,has,rfl⟩:=h1;simp only [PR,DL,ha,ih _ _ _ has h2];rfl
theorem bn(xs:List α)(h: ∀x,DL (c x)=some (c x)):DL (U8 c xs)=some (U8 c xs):=by
 induction xs with
 |nil=>rfl
 |cons x xs ih=>rw [L9];exact YR _ _ _ _ (h x) ih
theorem UW(as bs:List D):Dh (as++bs)=(Dh as||Dh bs):=by
 induction as with
 |nil=>simp [Dh]
 |cons a as ih=>simp [Dh,ih,Bool.or_assoc]
theorem VP(xs:List α)(h: ∀x,Dh (c x)=false):Dh (U8 c xs)=false:=by
 induction xs with
 |nil=>rfl
 |cons x xs ih=>rw [L9,UW,h,ih];rfl
end
def qZ{α:Type}:List α→Nat→List α→List α
 |xs,_,[]=>xs
 |xs,c,y::ys=>qZ (xs.set c y) (c+1) ys
theorem aM{α:Type}(c:α→D): ∀(ys xs:List α) (n:Nat),Br (AQ c xs) n (AQ c ys)=AQ c (qZ xs n ys):=by
 intro ys
 induction ys with
 |nil=>intro xs n;cases xs<;>rfl
 |cons y ys ih=>
  intro xs n
  have h1:Br (AQ c xs) n (AQ c (y::ys))=Br ((AQ c xs).set n (c y)) (n+1) (AQ c ys):=by
   rw [JM];cases AQ c xs<;>rfl
  rw [h1,bi,ih];rfl
theorem A0H{α:Type}: ∀(ys xs:List α) (n:Nat),n+ys.length≤xs.length→qZ xs n ys=xs.take n++(ys++xs.drop (n+ys.length)):=by
 intro ys
 induction ys with
 |nil=>intro xs n _;simp [qZ]
 |cons y ys ih=>
  intro xs n h;simp only [NU]at h;unfold qZ;rw [ih (xs.set n y) (n+1) (by simp;omega)]
  have h1:(xs.set n y).take (n+1)=xs.take n++[y]:=by
   rw [List.take_succ_eq_append_getElem (by simp;omega),List.getElem_set_self,List.take_set_of_le (Hq _)]
  rw [h1,List.drop_set_of_lt (by omega),NU,show n+1+ys.length=n+(ys.length+1) by omega,OD];rfl
theorem BA{α β:Type}{o:Option α}{f:α→Option β}{r:β}(h:o.bind f=some r): ∃a,o=some a∧f a=some r:=by
 cases o with
 |none=>cases h
 |some a=>exact⟨a,rfl,h⟩
theorem Bw{α:Type}{c:Prop}[Decidable c]{o:Option α}{r:α}(h:ck c o=some r):c∧o=some r:=by
 unfold ck at h
 split at h
 ·rename_i hc;exact⟨hc,h⟩
 ·cases h
section
variable {α:Type} (c:α→D)
theorem gK(xs:List α)(y:α)(ds:List D):AQ c xs++(c y::ds)=AQ c (xs++[y])++ds:=by simp [AQ]
theorem kH(c:α→List D)(e:ab)(xs:List α)(h: ∀x,DL (c x)=some (c x)):DL (AQ (fun x=>D.own e (c x)) xs)=some (AQ (fun x=>D.sl e (c x)) xs):=kG c c e xs h
def Qf(c:α→D):Option α→D
 |some a=>c a
 |none=> .undef
theorem bq(xs:List α):AQ (Qf c) (xs.map some)=AQ c xs:=by simp [AQ,Function.comp_def,Qf]
theorem Sm(xs:List (Option α))(n:Nat):(AQ (Qf c) xs).set n .undef=AQ (Qf c) (xs.set n none):=by simp [AQ,List.map_set,Qf]
theorem kI(xs:List (Option α))(n:Nat)(y:α):(AQ (Qf c) xs).set n (c y)=AQ (Qf c) (xs.set n (some y)):=by simp [AQ,List.map_set,Qf]
theorem kJ(xs:List α):(xs.map some).length=xs.length:=by simp
theorem YS(xs:List α)(n:Nat):(AQ c xs).set n .undef=AQ (Qf c) ((xs.map some).set n none):=by rw [←Sm,bq]
theorem oD(xs:List (Option α))(n:Nat):AQ (Qf (Qf c)) ((xs.map some).set n none)=AQ (Qf c) (xs.set n none):=by rw [←YS,Sm]
theorem kK(xs:List α)(n:Nat)(y:α):(xs.map some).set n (some y)=(xs.set n y).map some:=List.map_set.symm
theorem oG(n:Nat)(k:IntKind)(x:Int):ao n (bd k x)=AQ (bd k) (ao n x):=by simp [AQ]
theorem oH(n:Nat)(e:ab):ao n (D.own e [])=AQ (fun x=>D.own e (AQ (bd .i64) x)) (ao n []):=by simp [AQ]
variable [Inhabited α] {T:Tys}
theorem AC5(e:ab)(n:Int)(xs:List α)(hk:T.known e=true)(hz:T.size e=1)(hn:0≤n∧n.toNat<xs.length):gG T e n (some (e,AQ c xs,none))=some (.cptr [c (xs.getD n.toNat be)]):=by
 rw [A9j e n (AQ c xs) hk hz (by simpa [AQ] using hn),Sk c xs _ hn.2]
end
theorem AC6:(true==false)=false:=nr rfl
theorem AC7:(false==true)=false:=nr rfl
theorem AC8{s:St}(dst:Option Tmp)(u:Tmp)(i:Nat)(L:AB)(n m:Nat):eT s dst u i (some (.vw L n m))=some (s.putO dst (.vw L n m)):=by simp [eT,D6,FQ,D.hasObj,J4]
theorem YT{α:Type}(c:α→D)(xs:List α):(AQ c xs).isEmpty=xs.isEmpty:=by cases xs<;>rfl
theorem A4T{α:Type}(c:α→D)(e:ab)(xs:List α):Df (.sl e (AQ c xs))= !xs.isEmpty:=by simp only [Df,YT]
theorem YU{α:Type}(c:α→List D)(e:ab)(xs:List α):Ak (AQ (fun x=>D.own e (c x)) xs)= !xs.isEmpty:=by
 cases xs with
 |nil=>rfl
 |cons x xs=>simp [JM,Ak,D.hasObj]
section
variable {pm:Pm} {s:St} {dst:Option Tmp}
theorem AC9(ls:List (AB×D))(r:D)(o:List D)(h:Df r=true):zk pm s dst ls (some (r,o))=if(Ed (ls.map (·.1))&&ls.all (fun l=>pm.wr (l.1.headD 0)))=true then(Ho ls).map fun ls'=>(back false s ls').putO dst r else none:=by
 simp [zk,h]
theorem faN:Ho []=some []:=nr rfl
def fac(L:AB)(o:Option (List (AB×D))):Option D→Option (List (AB×D))
 |some c=>o.map ((L,c):: ·)
 |none=>none
theorem faC(L:AB)(c:D)(rest:List (AB×D)):Ho ((L,c)::rest)=fac L (Ho rest) (E5 c):=by
 simp only [Ho];cases E5 c<;>rfl
theorem ACA(L:AB)(ls:List (AB×D))(c:D):fac L (some ls) (some c)=some ((L,c)::ls):=nr rfl
end
def BJ(xs:IM)(n:Nat):Int:=(xs.getD n be).1
def CG(xs:IM)(n:Nat):Int:=(xs.getD n be).2
def Aw(k l:IntKind)(xs:IM):List D:=U8 (fun x=>[bd k x.1,bd l x.2]) xs
theorem A8(k l:IntKind):Aw k l []=[]:=nr rfl
theorem LA(k l:IntKind)(x:Int×Int)(xs:IM):Aw k l (x::xs)=bd k x.1::bd l x.2::Aw k l xs:=nr rfl
theorem Mq(k l:IntKind)(xs:IM):(Aw k l xs).length=xs.length*2:=Sl _ 2 (fun _=>rfl) xs
theorem VQ(k l:IntKind)(v:Int): ∀(xs:IM) (n:Nat),n<xs.length→(Aw k l xs).set (n*2) (bd k v)=Aw k l (xs.set n (v,CG xs n)):=by
 intro xs
 induction xs with
 |nil=>intro n h;simp at h
 |cons x xs ih=>
  intro n h
  cases n with
  |zero=>rfl
  |succ n=>
   have:=ih n (by simpa using h)
   rw [LA,Nat.succ_mul,XQ,XQ,XQ,this,LA];rfl
theorem VS(k l:IntKind)(v:Int): ∀(xs:IM) (n:Nat),n<xs.length→(Aw k l xs).set (n*2+1) (bd l v)=Aw k l (xs.set n (BJ xs n,v)):=by
 intro xs
 induction xs with
 |nil=>intro n h;simp at h
 |cons x xs ih=>
  intro n h
  cases n with
  |zero=>rfl
  |succ n=>
   have:=ih n (by simpa using h)
   rw [LA,Nat.succ_mul,show n*2+2+1=n*2+1+1+1 by omega,XQ,XQ,XQ,this,LA];rfl
theorem gL(k l:IntKind)(xs:IM)(n:Nat):(Aw k l xs).drop (n*2)=Aw k l (xs.drop n):=YQ _ 2 (fun _=>rfl) xs n
theorem QO(k l:IntKind)(xs:IM):Ak (Aw k l xs)=false:=aL _ xs (fun _=>by simp [Ak,D.hasObj])
theorem kL(k l:IntKind)(xs:IM):DL (Aw k l xs)=some (Aw k l xs):=bn _ xs (fun _=>rfl)
theorem aN(k l:IntKind)(xs:IM):Dh (Aw k l xs)=false:=VP _ xs (fun _=>rfl)
theorem kM(k l:IntKind)(n:Nat)(a b:Int):(ao n [bd k a,bd l b]).flatten=Aw k l (ao n (a,b)):=by
 simp [Aw,U8,List.flatMap_def]
def q4a(xs:List (Int×Int×Int×Int))(n:Nat):Int:=(xs.getD n be).1
def q4b(xs:List (Int×Int×Int×Int))(n:Nat):Int:=(xs.getD n be).2.1
def q4c(xs:List (Int×Int×Int×Int))(n:Nat):Int:=(xs.getD n be).2.2.1
def q4d(xs:List (Int×Int×Int×Int))(n:Nat):Int:=(xs.getD n be).2.2.2
def KI(xs:List (Int×Int×Int×Int)):List D:=U8 (fun x=>[bd .i64 x.1,bd .i64 x.2.1,bd .i64 x.2.2.1,bd .i64 x.2.2.2]) xs
theorem gM(x:Int×Int×Int×Int)(xs:List (Int×Int×Int×Int)):KI (x::xs)=bd .i64 x.1::bd .i64 x.2.1::bd .i64 x.2.2.1::bd .i64 x.2.2.2::KI xs:=nr rfl
theorem QP(xs:List (Int×Int×Int×Int)):(KI xs).length=xs.length*4:=Sl _ 4 (fun _=>rfl) xs
theorem gN(xs:List (Int×Int×Int×Int))(a b c d:Int):KI xs++[bd .i64 a,bd .i64 b,bd .i64 c,bd .i64 d]=KI (xs++[(a,b,c,d)]):=aK _ xs [(a,b,c,d)]
theorem aO(xs:List (Int×Int×Int×Int))(a b c d:Int)(ds:List D):KI xs++(bd .i64 a::bd .i64 b::bd .i64 c::bd .i64 d::ds)=KI (xs++[(a,b,c,d)])++ds:=by
 rw [←gN,OD];rfl
theorem gP(xs:List (Int×Int×Int×Int))(n:Nat):(KI xs).drop (n*4)=KI (xs.drop n):=YQ _ 4 (fun _=>rfl) xs n
theorem kN(xs:List (Int×Int×Int×Int)):DL (KI xs)=some (KI xs):=bn _ xs (fun _=>rfl)
theorem aP(xs:List (Int×Int×Int×Int)):Dh (KI xs)=false:=VP _ xs (fun _=>rfl)
theorem qa{T:Tys}(e:ab)(xs:List (Int×Int×Int×Int))(h:T.size e=4):T.len e (KI xs)=xs.length:=by
 unfold Tys.len;rw [h,if_neg (by decide),QP,Nat.mul_div_cancel _ (by decide)]
theorem ACB{T:Tys}(e:ab)(n:Int)(xs:List (Int×Int×Int×Int))(hk:T.known e=true)(hz:T.size e=4)(hn:0≤n∧n.toNat<xs.length):gG T e n (some (e,KI xs,none))=some (.cptr [bd .i64 (q4a xs n.toNat),bd .i64 (q4b xs n.toNat),bd .i64 (q4c xs n.toNat),bd .i64 (q4d xs n.toNat)]):=by
 simp only [gG,hk,qa e xs hz];rw [if_pos ⟨trivial,trivial,hn.1,hn.2⟩,hz,gP,List.drop_eq_getElem_cons hn.2,gM];unfold q4a q4b q4c q4d;rw [Jg,Gc hn.2];rfl
section
variable {T:Tys} {pm:Pm} {s:St} {t:ab}
theorem kP(k l:IntKind)(e:ab)(xs:IM)(h:T.size e=2):T.len e (Aw k l xs)=xs.length:=by
 unfold Tys.len;rw [h,if_neg (by decide),Mq,Nat.mul_div_cancel _ (by decide)]
theorem ACC(k l:IntKind)(e:ab)(n:Int)(xs:IM)(hk:T.known e=true)(hz:T.size e=2)(hn:0≤n∧n.toNat<xs.length):gG T e n (some (e,Aw k l xs,none))=some (.cptr [bd k (BJ xs n.toNat),bd l (CG xs n.toNat)]):=by
 simp only [gG,hk,kP k l e xs hz];rw [if_pos ⟨trivial,trivial,hn.1,hn.2⟩,hz,gL,List.drop_eq_getElem_cons hn.2,LA];unfold BJ CG;rw [Jg,Gc hn.2];rfl
theorem ACD(k l:IntKind)(e:ab)(n:Int)(xs:IM)(L:AB)(a b:Nat)(hk:T.known e=true)(hz:T.size e=2)(hn:0≤n∧n.toNat<xs.length):gG T e n (some (e,Aw k l xs,some (L,a,b)))=some (.pe L (n.toNat*2) a b):=by
 simp only [gG,hk,kP k l e xs hz];rw [if_pos ⟨trivial,trivial,hn.1,hn.2⟩,hz]
def sq1(T:Tys)(pm:Pm)(t:ab)(u:Tmp)(a b:D)(s:St):Option D→Nat→AB→Option St
 |some (.own e xs),c,L=>if T.known t&&T.isStruct t&&pm.wr (L.headD 0)&&DJ a&&DJ b&&(T.size t==2)&&decide (c+2≤xs.length)&& !a.hasObj&& !b.hasObj&& !Ak xs then some (s.set L (.own e ((xs.set c a).set (c+1) b)))else XO T pm t (.tmp u) (some (.agg [a,b],s))
 |_,_,_=>XO T pm t (.tmp u) (some (.agg [a,b],s))
theorem ACE(u:Tmp)(a b:D)(L:AB)(c n m:Nat)(h:s.v u= .pe L c n m):XO T pm t (.tmp u) (some (.agg [a,b],s))=sq1 T pm t u a b s (s.look pm L n m) c L:=by
 cases hl:s.look pm L n m with
 |none=>rfl
 |some o=>
  cases o<;>try rfl
  rename_i e xs
  simp only [sq1];split
  ·rename_i hc
   simp only [F9,beq_iff_eq,decide_eq_true_eq,Kg]at hc;obtain⟨⟨⟨⟨⟨⟨⟨⟨⟨hk,hs⟩,hw⟩,ha⟩,hb⟩,hz⟩,hl2⟩,ha2⟩,hb2⟩,hx2⟩:=hc;simp only [XO,ev,h,Hm,hl,D.asCells,D.isAgg,D.cells,D.withCells,hk,hs,hw,hz,PT,ha,hb,List.all_nil,Bool.and_self,NU,RN,beq_self_eq_true,OE,D.hasObj,Ak,ha2,hb2,hx2,Bool.or_self,Ik,if_false,Br];rw [if_pos (by simpa using hl2)]
  ·rfl
theorem ACF(u:Tmp)(a b:D)(L:AB)(c n m:Nat)(h:s.v u= .pe L c n m):sw1 T pm t u [a,b] s (.pe L c n m)=sq1 T pm t u a b s (s.look pm L n m) c L:=by
 rw [←ACE u a b L c n m h];rfl
theorem aQ(k l:IntKind)(xs:IM)(n:Nat)(a b:Int)(h:n<xs.length):((Aw k l xs).set (n*2) (bd k a)).set (n*2+1) (bd l b)=Aw k l (xs.set n (a,b)):=by
 rw [VQ k l a xs n h,VS k l b _ n (by simpa using h),List.set_set]
 congr 2
 simp [BJ,Jg,h]
theorem ACG(k l:IntKind)(u:Tmp)(a b:Int)(L:AB)(e:ab)(n:Nat)(xs:IM)(hk:T.known t=true)(hs:T.isStruct t=true)(hw:pm.wr (L.headD 0)=true)(hz:T.size t=2)(h:n<xs.length):
  sq1 T pm t u (.int k a) (.int l b) s (some (.own e (Aw k l xs))) (n*2) L=some (s.set L (.own e (Aw k l (xs.set n (a,b))))):=by
 simp only [sq1];rw [if_pos,aQ k l xs n a b h];simp only [hk,hs,hw,hz,DJ,Mq,QO,D.hasObj,F9,decide_eq_true_eq,beq_self_eq_true,Bool.not_false,and_true,true_and];omega
theorem YV: ∀(xs:AL),Vf (AQ (bd .i64) xs)=some xs
 | []=>rfl
 |x::xs=>by rw [JM,Vf,YV xs];rfl
theorem A4V(xs:AL)(h':xs.length≤14∧14≤xs.length):Ir true 14 (.agg (AQ (bd .i64) xs))=some xs:=by
 have h:xs.length=14:=by omega
 simp only [Ir,J5,h,and_self,if_true,YV]
theorem A4W(a0 a1 a2 a3 a4 a5 a6 a7 a8 a9 a10 a11 a12 a13:Int):Ir true 14 (.agg [.int .i64 a0,.int .i64 a1,.int .i64 a2,.int .i64 a3,.int .i64 a4,.int .i64 a5,.int .i64 a6,.int .i64 a7,.int .i64 a8,.int .i64 a9,.int .i64 a10,.int .i64 a11,.int .i64 a12,.int .i64 a13])=some [a0,a1,a2,a3,a4,a5,a6,a7,a8,a9,a10,a11,a12,a13]:=nr rfl
theorem csA(L:AB)(xs:AL)(h':xs.length≤14∧14≤xs.length):cellsOf s L 0 14 (some (.box (AQ (bd .i64) xs)))=some (.agg (AQ (bd .i64) xs)):=by
 have h:xs.length=14:=by omega
 have e:((an 14).map fun i=>FQ s L (0+i) ((AQ (bd .i64) xs).getD (0+i) .undef))=AQ (bd .i64) xs:=by
  refine List.ext_getElem (by simp [J5,h]) (fun i h1 h2=> ?_)
  have hi:i<xs.length:=by rw [J5]at h2;exact h2
  simp only [List.getElem_map,Va,Il,Sk _ xs i hi,FQ];simp [AQ,hi]
 show(if 0+14≤(AQ (bd .i64) xs).length then D6 (.agg ((an 14).map fun i=>FQ s L (0+i) ((AQ (bd .i64) xs).getD (0+i) .undef)))else none)=_
 rw [if_pos (by rw [J5,h];omega),e]
 simp only [D6,D.hasObj,Ny (bd .i64) xs (fun _=>rfl)];rfl
theorem ndL{α:Type}(e:ab)(c:α→D)(xs:List α)(h:0<xs.length):OI pm s (.sl e (AQ c xs))=some false:=by
 cases xs with
 |nil=>exact(Nat.lt_irrefl 0 h).elim
 |cons x xs=>rfl
end
set_option linter.defProp false
def ACH:=A7 @AC8 (A7 @aM (A7 @YU (A7 @A4T (A7 @AC9 (A7 @faN (A7 @faC (A7 @ACA (A7 @AC5 (A7 @J5 (A7 @A0G (A7 @Sk (A7 @bi (A7 @gK (A7 @kE (A7 @kF (A7 @Ny (A7 @o9 (A7 @kH (A7 @gJ (A7 @VO (A7 @oH (A7 @bq (A7 @kJ (A7 @YS (A7 @kK (A7 (A7 @oD @Sm) (A7 @kI (A7 @oG (A7 @AC6 @AC7)))))))))))))))))))))))))))))
theorem tk2(a b:D)(l:List D):List.take 2 (a::b::l)=[a,b]:=nr rfl
theorem tk3(a b c:D)(l:List D):List.take 3 (a::b::c::l)=[a,b,c]:=nr rfl
theorem tk4(a b c d:D)(l:List D):List.take 4 (a::b::c::d::l)=[a,b,c,d]:=nr rfl
theorem A4X{n m:Nat}(h:n<m):n*2<m*2:=by omega
theorem A4Y{n m:Nat}(h:n<m):n*2+1<m*2:=by omega
def xc2:=A7 (A7 @A4V (A7 @A4W (A7 @csA @ndL))) (A7 @Nat.add_zero (A7 @QP (A7 @aO (A7 @kN (A7 @aP (A7 @qa (A7 @ACB (A7 @Mq (A7 @QO (A7 @kL (A7 @aN (A7 @kM (A7 @kP (A7 @ACC (A7 @ACD (A7 @ACF (A7 @tk2 (A7 @tk3 (A7 @tk4 (A7 @A4X (A7 @A4Y (A7 @VQ (A7 @VS (A7 @List.length_set.{0} (@ACG)))))))))))))))))))))))))
def A4Z:=A7 @implies_true.{1} (A7 @Option.bind_some.{0,0} (A7 @Option.map_some.{0,0} (A7 @Option.isSome_some.{0} (A7 @List.contains_cons.{0} (A7 @List.contains_nil.{0} (A7 @List.getD_cons_zero.{0} (A7 @List.getD_cons_succ.{0} (A7 @List.getD_nil.{0} (A7 @List.length_cons.{0} (A7 @List.length_nil.{0} (A7 @List.size_toArray.{0} (A7 @List.toList_toArray.{0} (A7 @List.zip_cons_cons.{0,0} (A7 @List.zip_nil_left.{0,0} (A7 @List.append_nil.{0} (A7 @List.nil_append.{0} (A7 @List.cons_append.{0} (A7 @List.map_cons.{0,0} (A7 @List.map_nil.{0,0} (A7 @List.replicate_succ.{0} (A7 @List.replicate_zero.{0} (A7 @List.set_cons_zero.{0} (A7 @List.set_cons_succ.{0} (A7 @List.set_set.{0} (A7 @List.all_cons.{0} (A7 @List.any_cons.{0} (A7 @List.any_nil.{0} (A7 @List.all_nil.{0} (A7 @List.getElem?_cons_zero.{0} (A7 @List.getElem?_cons_succ.{0} (A7 @List.getElem?_nil.{0} (@beq_self_eq_true.{0}))))))))))))))))))))))))))))))))
theorem Ai:an 0=[]:=nr rfl
end Dv
namespace Dv
open Go
section
variable {σ ρ α β:Type}
theorem Ce(f:σ→Option (σ⊕ρ))(st:Nat→σ): ∀(n:Nat) (r:ρ),(∀i,i<n→f (st i)=some (.inl (st (i+1))))→f (st n)=some (.inr r)→Io f (st 0)=some r:=by
 intro n r h e
 have key: ∀k,k≤n→Io f (st (n-k))=some r:=by
  intro k
  induction k with
  |zero=>intro _;exact R4 e
  |succ k ih=>
   intro hk;have h1:=h (n-(k+1)) (by omega)
   rw [WP h1,show n-(k+1)+1=n-k by omega]
   exact ih (by omega)
 have:=key n (Hq _)
 rwa [Nat.sub_self]at this
theorem bu(f:σ→Option (σ⊕ρ))(I:Nat→σ→Prop)(Q:ρ→Prop)(step: ∀n s,I n s→(∃s' m,f s=some (.inl s')∧m<n∧I m s')∨(∃r,f s=some (.inr r)∧Q r)):
  ∀(n:Nat) (s:σ),I n s→ ∃r,Io f s=some r∧Q r:=by
 intro n
 induction n using Nat.strongRecOn with
 |_ n ih=>
  intro s hI;rcases step n s hI with⟨s',m,h1,h2,h3⟩|⟨r,h1,h2⟩
  ·rw [WP h1];exact ih m h2 s' h3
  ·exact⟨r,R4 h1,h2⟩
end
theorem Nz{n:Nat}{P:Nat→Bool}(h: ¬ ∀i,i<n→P i=true): ∃m,m<n∧P m=false∧ ∀i,i<m→P i=true:=by
 induction n with
 |zero=>exact absurd (fun i hi=>absurd hi (Nat.not_lt_zero _)) h
 |succ n ih=>
  by_cases hn: ∀i,i<n→P i=true
  ·refine⟨n,Nat.lt_succ_self _, ?_,hn⟩
   cases hp:P n with
   |false=>rfl
   |true=>exact absurd (fun i hi=>by rcases Nat.lt_succ_iff_lt_or_eq.1 hi with h1|rfl;exact hn i h1;exact hp) h
  ·obtain⟨m,h1,h2,h3⟩:=ih hn
   exact⟨m,by omega,h2,h3⟩
theorem GA{n:Nat}{P:Nat→Bool}:(an n).all P=true↔ ∀i,i<n→P i=true:=by
 simp [IQ]
theorem kQ{σ ρ:Type}(f:σ→Option (σ⊕ρ))(st:Nat→σ)(n:Nat)(P:Nat→Bool)(bad good:ρ)
  (h: ∀i,i<n→(∀j,j<i→P j=true)→f (st i)=if P i=true then some (.inl (st (i+1)))else some (.inr bad))(e:(∀j,j<n→P j=true)→f (st n)=some (.inr good)):Io f (st 0)=some (if(an n).all P=true then good else bad):=by
 by_cases hp: ∀i,i<n→P i=true
 ·rw [if_pos (GA.2 hp)];refine Ce f st n good (fun i hi=> ?_) (e hp);rw [h i hi (fun j hj=>hp j (by omega)),if_pos (hp i hi)]
 ·rw [if_neg (fun hc=>hp (GA.1 hc))];obtain⟨m,h1,h2,h3⟩:=Nz hp;refine Ce f st m bad (fun i hi=> ?_) ?_
  ·rw [h i (by omega) (fun j hj=>h3 j (by omega)),if_pos (h3 i hi)]
  ·rw [h m h1 h3,h2];rfl
theorem IA{σ ρ:Type}(f:σ→Option (σ⊕ρ))(st:Nat→σ)(n:Nat)(P:Nat→Bool)(bad good:ρ)
  (h: ∀i,i<n→f (st i)=if P i=true then some (.inl (st (i+1)))else some (.inr bad))(e:f (st n)=some (.inr good)):Io f (st 0)=some (if(an n).all P=true then good else bad):=
 kQ f st n P bad good (fun i hi _=>h i hi) (fun _=>e)
theorem YW{α:Type}[Inhabited α](p:α→Bool)(xs:List α):(an xs.length).all (fun i=>p (xs.getD i be))=xs.all p:=by
 rw [PS,GA,IQ]
 constructor
 ·intro h x hx;obtain⟨i,hi,rfl⟩:=ZC hx;have:=h i hi
  rwa [Jg,Gc hi]at this
 ·intro h i hi;rw [Jg,Gc hi];exact h _ (JH hi)
theorem Sn{α:Type}[DecidableEq α][Inhabited α](a b:List α)(hl:a.length=b.length):(an a.length).all (fun i=>decide (a.getD i be=b.getD i be))=decide (a=b):=by
 by_cases he:a=b
 ·subst he;simp
 ·rw [decide_eq_false he,JF];intro hc;rw [GA]at hc;refine he (List.ext_getElem hl fun i h1 h2=> ?_);have:=hc i h1
  rw [Jg,Jg,Gc h1,Gc h2]at this;simpa using this
theorem Kk(i:Nat)(h:i<4611686018427387904):IntKind.i64.wrap ((i:Int)+1)=((i+1:Nat):Int):=by
 rw [L8 _ (by omega)];rfl
theorem BC{α:Type}[Inhabited α](xs:List α)(i:Nat)(h:i<xs.length):xs.getD i be=xs[i]:=by
 rw [Jg,Gc h];rfl
theorem Ia{α:Type}[Inhabited α](xs:List α)(i:Nat)(h:i<xs.length):xs.getD (i:Int).toNat be=xs[i]:=by
 rw [Jh];exact BC xs i h
theorem Bu{α:Type}{c:Prop}[Decidable c]{o:Option α}(h:c):ck c o=o:=if_pos h
theorem Bd{i n:Nat}(h:i<n):(i:Int)<(n:Int):=by omega
theorem Ap(n:Nat): ¬(n:Int)<(n:Int):=by omega
theorem Ib{i n:Nat}(h:i<n):0≤(i:Int)∧(i:Int).toNat<n:=by omega
end Dv
namespace Dv
open Go
def VT(x:Int×Int):List D:=[bd .i64 x.1,bd .i64 x.2]
def kR(xs:IM):Prop:=xs.length≤maxLen∧ ∀x∈xs,jw x.1∧jw x.2
def aR(xss:Ar):Prop:=xss.length≤maxLen∧ ∀xs∈xss,kR xs
section
variable {T:Tys} {t e a:ab} {d:D}
theorem oJ{ds:List D}(he:T.ty e= .struct [a,a])(ha:T.ty a= .int .i64)(h:Shp T e ds): ∃x:Int×Int,ds=VT x∧jw x.1∧jw x.2:=by
 obtain⟨hl,hx⟩:=VN he h;rcases ds with _|⟨d0,_|⟨d1,_|⟨_,_⟩⟩⟩<;>simp at hl
 obtain⟨p,h0,hl0⟩:=aG ha (hx 0 a d0 rfl rfl);obtain⟨q,h1,hl1⟩:=aG ha (hx 1 a d1 rfl rfl);simp only [List.cons.injEq,and_true]at h0 h1;subst h0 h1
 exact⟨(p,q),rfl,hl0,hl1⟩
theorem kS{ds:List D}(ht:T.ty t= .slice e)(he:T.ty e= .struct [a,a])(ha:T.ty a= .int .i64)(h:Shp T t ds): ∃xs,ds=[.sl e (U8 VT xs)]∧kR xs:=by
 obtain⟨xss,rfl,hx,hl⟩:=Si ht h
 have: ∀xss:List (List D),(∀xs,xs∈xss→Shp T e xs)→ ∃ys,xss.flatten=U8 VT ys∧ys.length=xss.length∧ ∀y∈ys,jw y.1∧jw y.2:=by
  intro xss
  induction xss with
  |nil=>intro _;exact⟨[],rfl,rfl,by simp⟩
  |cons xs xss ih=>
   intro hx;obtain⟨n,rfl,hn⟩:=oJ he ha (hx xs (Ke));obtain⟨ys,h1,h2,h3⟩:=ih (fun q hq=>hx q (JG _ hq))
   refine⟨n::ys,by rw [ZF,h1];rfl,by simp [h2],fun y hy=> ?_⟩
   rcases OH.1 hy with rfl|hy
   ·exact hn
   ·exact h3 y hy
 obtain⟨ys,h1,h2,h3⟩:=this xss hx
 exact⟨ys,by rw [h1],by omega,h3⟩
theorem gQ{e2:ab}{ds:List D}(ht:T.ty t= .slice e)(he:T.ty e= .slice e2)(he2:T.ty e2= .struct [a,a])(ha:T.ty a= .int .i64)(h:Shp T t ds): ∃xss,ds=[.sl e (AQ (fun x=> .sl e2 (U8 VT x)) xss)]∧aR xss:=by
 obtain⟨xss,rfl,hx,hl⟩:=Si ht h
 have: ∀xss:List (List D),(∀xs,xs∈xss→Shp T e xs)→ ∃ys,xss.flatten=AQ (fun x=> .sl e2 (U8 VT x)) ys∧ys.length=xss.length∧ ∀y∈ys,kR y:=by
  intro xss
  induction xss with
  |nil=>intro _;exact⟨[],rfl,rfl,by simp⟩
  |cons xs xss ih=>
   intro hx;obtain⟨n,rfl,hn⟩:=kS he he2 ha (hx xs (Ke));obtain⟨ys,h1,h2,h3⟩:=ih (fun q hq=>hx q (JG _ hq))
   refine⟨n::ys,by rw [ZF,h1];rfl,by simp [h2],fun y hy=> ?_⟩
   rcases OH.1 hy with rfl|hy
   ·exact hn
   ·exact h3 y hy
 obtain⟨ys,h1,h2,h3⟩:=this xss hx
 exact⟨ys,by rw [h1],by omega,h3⟩
theorem aS{b c e2:ab}(ht:T.ty t= .struct [b,c,c])(hb:T.ty b= .slice e)(he:T.ty e= .slice e2)(he2:T.ty e2= .struct [a,a])(ha:T.ty a= .int .i64)(hc:T.ty c= .slice a)(h:Arg T t d):
  ∃es is js,d= .agg [.sl e (AQ (fun x=> .sl e2 (U8 VT x)) es),.sl a (Hd is),.sl a (Hd js)]∧aR es∧A08 is∧A08 js:=by
 obtain⟨ds,rfl,hl,hx⟩:=gI ht h;rcases ds with _|⟨d0,_|⟨d1,_|⟨d2,_|⟨_,_⟩⟩⟩⟩<;>simp at hl
 obtain⟨es,h0,hl0⟩:=gQ hb he he2 ha (hx 0 b d0 rfl rfl);obtain⟨is,h1,hl1⟩:=bf hc ha (hx 1 c d1 rfl rfl);obtain⟨js,h2,hl2⟩:=bf hc ha (hx 2 c d2 rfl rfl);simp only [List.cons.injEq,and_true]at h0 h1 h2;subst h0 h1 h2
 exact⟨es,is,js,rfl,hl0,hl1,hl2⟩
end
end Dv
