/- Value semantics for Go code, part 5: typed lists, loops as functions. Conditions: none beyond those in each lemma. -/
import Derived.Test.YtclkfhhdikfcpaaL4
open Dv.D renaming int → bd
open Go renaming TypeId → ab
open Inhabited renaming default → be
open List renaming range → an,replicate → ao
set_option linter.unusedSimpArgs false
set_option linter.unusedVariables false
namespace Dv
open Go
set_option maxRecDepth 10000
def ck{α:Type}(c:Prop)[Decidable c](o:Option α):Option α:=if c then o else none
section
variable {σ ρ:Type}
def df(f:σ→Option (σ⊕ρ)):Nat→σ→Option ρ
 |0,_=>none
 |n+1,s=>
  match f s with
  |none=>none
  |some (.inl s')=>df f n s'
  |some (.inr r)=>some r
open Classical in
noncomputable def Iy(f:σ→Option (σ⊕ρ))(s:σ):Option ρ:=if h: ∃r n,df f n s=some r then some h.choose else none
theorem Zy{f:σ→Option (σ⊕ρ)}: ∀ {n m:Nat} {s:σ} {r:ρ},n≤m→df f n s=some r→df f m s=some r:=by
 intro n
 induction n with
 |zero=>intro m s r _ h;simp [df]at h
 |succ n ih=>
  intro m s r hm h
  cases m with
  |zero=>omega
  |succ m=>
   simp only [df]at h ⊢
   cases hs:f s with
   |none=>simp [hs]at h
   |some q=>
    cases q with
    |inl s'=>simp only [hs]at h ⊢;exact ih (by omega) h
    |inr r'=>simp only [hs]at h ⊢;exact h
theorem Xz{f:σ→Option (σ⊕ρ)}{n:Nat}{s:σ}{r:ρ}(h:df f n s=some r):Iy f s=some r:=by
 unfold Iy;have hx: ∃r n,df f n s=some r:=⟨r,n,h⟩;rw [dif_pos hx];obtain⟨n',h'⟩:=hx.choose_spec;have h1:=Zy (Nat.le_max_left n n') h;have h2:=Zy (Nat.le_max_right n n') h';rw [h1]at h2;exact h2.symm
theorem UG{f:σ→Option (σ⊕ρ)}{s:σ}{r:ρ}(h:Iy f s=some r): ∃n,df f n s=some r:=by
 unfold Iy at h
 split at h
 ·rename_i hx
  simp only [Option.some.injEq]at h;subst h;exact hx.choose_spec
 ·cases h
theorem Q8{f:σ→Option (σ⊕ρ)}{s s':σ}(h:f s=some (.inl s')):Iy f s=Iy f s':=by
 cases hi:Iy f s' with
 |some r=>
  obtain⟨n,hn⟩:=UG hi;exact Xz (n:=n+1) (by simp only [df,h];exact hn)
 |none=>
  cases hj:Iy f s with
  |none=>rfl
  |some r=>
   obtain⟨n,hn⟩:=UG hj
   cases n with
   |zero=>simp [df]at hn
   |succ n=>
    simp only [df,h]at hn;rw [Xz hn]at hi;cases hi
theorem Mj{f:σ→Option (σ⊕ρ)}{s:σ}{r:ρ}(h:f s=some (.inr r)):Iy f s=some r:=Xz (n:=1) (by simp [df,h])
end
def gT{σ ρ:Type}(M:σ→St→Prop)(X:ρ→Ex→St→Prop):σ⊕ρ→Ex→St→Prop
 | .inl v,.normal,s=>M v s
 | .inl _,_,_=>False
 | .inr _,.normal,_=>False
 | .inr r,ex,s=>X r ex s
theorem CU{σ ρ:Type}(M:σ→St→Prop)(X:ρ→Ex→St→Prop)(v:σ)(s:St):gT M X (.inl v) .normal s=M v s:=nr rfl
theorem CV{σ ρ:Type}(M:σ→St→Prop)(X:ρ→Ex→St→Prop)(r:ρ)(j:Nat)(s:St):gT M X (.inr r) (.exit j) s=X r (.exit j) s:=nr rfl
theorem CW{σ ρ:Type}(M:σ→St→Prop)(X:ρ→Ex→St→Prop)(r:ρ)(s:St):gT M X (.inr r) .ret s=X r .ret s:=nr rfl
theorem BV{E:Env}{c:SC}{σ ρ:Type}(f:σ→Option (σ⊕ρ))(M:σ→St→Prop)(X:ρ→Ex→St→Prop)
  (hstep: ∀v s o,M v s→f v=some o→Bq E c (gT M X o) s){v:σ}{s:St}{r:ρ}(h:Iy f v=some r)(hM:M v s):Bq E (.loop c) (X r) s:=by
 obtain⟨n,hn⟩:=UG h
 induction n generalizing v s with
 |zero=>simp [df]at hn
 |succ n ih=>
  simp only [df]at hn
  cases hf:f v with
  |none=>simp [hf]at hn
  |some o=>
   obtain⟨ex,s1,h1,h2⟩:=hstep v s o hM hf
   cases o with
   |inl v'=>
    simp only [hf]at hn
    cases ex with
    |normal=>
     obtain⟨ex',s2,h3,h4⟩:=ih (Xz hn) h2 hn
     refine⟨ex',s2, ?_,h4⟩
     simp only [Dx]at h3 ⊢;rw [Xu,h1];exact h3
    |exit id=>exact h2.elim
    |ret=>exact h2.elim
   |inr r'=>
    simp only [hf,Option.some.injEq]at hn;subst hn
    cases ex with
    |normal=>exact h2.elim
    |exit id=>exact⟨_,s1,by simp only [Dx];rw [Xu,h1],h2⟩
    |ret=>exact⟨_,s1,by simp only [Dx];rw [Xu,h1],h2⟩
def AR{α:Type}(c:α→D)(xs:List α):List D:=xs.map c
def Va{α:Type}(c:α→List D)(xs:List α):List D:=xs.flatMap c
section
variable {α:Type} (c:α→D)
theorem sP:AR c []=[]:=nr rfl
theorem K3(x:α)(xs:List α):AR c (x::xs)=c x::AR c xs:=nr rfl
theorem Jh(xs:List α):(AR c xs).length=xs.length:=by simp [AR]
theorem UH[Inhabited α](xs:List α)(i:Nat)(h:i<xs.length):(AR c xs).getD i .undef=c (xs.getD i be):=by
 simp [AR,KG,h]
theorem A2I[Inhabited α](xs:List α)(i:Nat)(h:i<xs.length):(AR c xs)[i]? =some (c (xs.getD i be)):=by
 simp [AR,KG,h]
theorem gU(xs:List α)(i:Nat)(y:α):(AR c xs).set i (c y)=AR c (xs.set i y):=by simp [AR]
theorem nS(xs:List α)(n:Nat):(AR c xs).take n=AR c (xs.take n):=by simp [AR]
theorem nT(xs:List α)(n:Nat):(AR c xs).drop n=AR c (xs.drop n):=by simp [AR]
theorem PK(xs:List α)(h: ∀x,(c x).hasObj=false):Al (AR c xs)=false:=by
 induction xs with
 |nil=>rfl
 |cons x xs ih=>simp only [K3,Al,h,ih];rfl
theorem sQ(xs:List α)(h: ∀x,EA (c x)=some (c x)):DT (AR c xs)=some (AR c xs):=by
 induction xs with
 |nil=>rfl
 |cons x xs ih=>simp only [K3,DT,h,ih];rfl
theorem nU(c:α→List D)(c':α→List D)(e:ab)(xs:List α)(h: ∀x,DT (c x)=some (c' x)):DT (AR (fun x=>D.own e (c x)) xs)=some (AR (fun x=>D.sl e (c' x)) xs):=by
 induction xs with
 |nil=>rfl
 |cons x xs ih=>simp only [K3,DT,EA,h,ih];rfl
theorem kL(xs:List α)(h: ∀x,Dj (c x)=false):Dk (AR c xs)=false:=by
 induction xs with
 |nil=>rfl
 |cons x xs ih=>simp only [K3,Dk,h,ih];rfl
theorem X7(xs:List α)(h: ∀x,DN (c x)=true):(AR c xs).all DN=true:=by simp [AR,h]
end
section
variable {α:Type} (c:α→List D) (n:Nat)
theorem Y1:Va c []=[]:=nr rfl
theorem MF(x:α)(xs:List α):Va c (x::xs)=c x++Va c xs:=nr rfl
theorem dh(xs ys:List α):Va c xs++Va c ys=Va c (xs++ys):=by simp [Va]
theorem UI(h: ∀x,(c x).length=n)(xs:List α):(Va c xs).length=xs.length*n:=by
 induction xs with
 |nil=>simp [Y1]
 |cons x xs ih=>simp only [MF,KS,h,ih,Lr,Nat.succ_mul];omega
theorem Zz(h: ∀x,(c x).length=n)(xs:List α): ∀(i:Nat),(Va c xs).drop (i*n)=Va c (xs.drop i):=by
 induction xs with
 |nil=>intro i;simp [Y1]
 |cons x xs ih=>
  intro i
  cases i with
  |zero=>simp
  |succ i=>
   rw [MF,List.drop_append,List.drop_succ_cons,←ih i,h,Nat.succ_mul];have e1:(c x).drop (i*n+n)=[]:=List.drop_eq_nil_of_le (by rw [h];omega)
   rw [e1,Nat.add_sub_cancel];rfl
theorem dm(xs:List α)(h: ∀x,Al (c x)=false):Al (Va c xs)=false:=by
 have app: ∀(as bs:List D),Al (as++bs)=(Al as||Al bs):=by
  intro as bs
  induction as with
  |nil=>simp [Al]
  |cons a as ih=>simp [Al,ih,Bool.or_assoc]
 induction xs with
 |nil=>rfl
 |cons x xs ih=>rw [MF,app,h,ih];rfl
theorem aA: ∀(as bs as' bs':List D),DT as=some as'→DT bs=some bs'→DT (as++bs)=some (as'++bs'):=by
 intro as
 induction as with
 |nil=>intro bs as' bs' h1 h2;simp [DT]at h1;subst h1;simpa using h2
 |cons a as ih=>
  intro bs as' bs' h1 h2;simp only [DT,Hl,Cj]at h1;obtain⟨a',ha,as1,has,rfl⟩:=h1;simp only [QZ,DT,ha,ih _ _ _ has h2];rfl
theorem gV(xs:List α)(h: ∀x,DT (c x)=some (c x)):DT (Va c xs)=some (Va c xs):=by
 induction xs with
 |nil=>rfl
 |cons x xs ih=>rw [MF];exact aA _ _ _ _ (h x) ih
theorem Vw(as bs:List D):Dk (as++bs)=(Dk as||Dk bs):=by
 induction as with
 |nil=>simp [Dk]
 |cons a as ih=>simp [Dk,ih,Bool.or_assoc]
theorem X8(xs:List α)(h: ∀x,Dk (c x)=false):Dk (Va c xs)=false:=by
 induction xs with
 |nil=>rfl
 |cons x xs ih=>rw [MF,Vw,h,ih];rfl
end
def vI{α:Type}:List α→Nat→List α→List α
 |xs,_,[]=>xs
 |xs,c,y::ys=>vI (xs.set c y) (c+1) ys
theorem dn{α:Type}(c:α→D): ∀(ys xs:List α) (n:Nat),C8 (AR c xs) n (AR c ys)=AR c (vI xs n ys):=by
 intro ys
 induction ys with
 |nil=>intro xs n;cases xs<;>rfl
 |cons y ys ih=>
  intro xs n
  have h1:C8 (AR c xs) n (AR c (y::ys))=C8 ((AR c xs).set n (c y)) (n+1) (AR c ys):=by
   rw [K3];cases AR c xs<;>rfl
  rw [h1,gU,ih];rfl
theorem A2J{α:Type}: ∀(ys xs:List α) (n:Nat),n+ys.length≤xs.length→vI xs n ys=xs.take n++(ys++xs.drop (n+ys.length)):=by
 intro ys
 induction ys with
 |nil=>intro xs n _;simp [vI]
 |cons y ys ih=>
  intro xs n h;simp only [Lr]at h;unfold vI;rw [ih (xs.set n y) (n+1) (by simp;omega)]
  have h1:(xs.set n y).take (n+1)=xs.take n++[y]:=by
   rw [List.take_succ_eq_append_getElem (by simp;omega),List.getElem_set_self,List.take_set_of_le (IG _)]
  rw [h1,List.drop_set_of_lt (by omega),Lr,show n+1+ys.length=n+(ys.length+1) by omega,P5];rfl
theorem Av{α β:Type}{o:Option α}{f:α→Option β}{r:β}(h:o.bind f=some r): ∃a,o=some a∧f a=some r:=by
 cases o with
 |none=>cases h
 |some a=>exact⟨a,rfl,h⟩
theorem BS{α:Type}{c:Prop}[Decidable c]{o:Option α}{r:α}(h:ck c o=some r):c∧o=some r:=by
 unfold ck at h
 split at h
 ·rename_i hc;exact⟨hc,h⟩
 ·cases h
section
variable {α:Type} (c:α→D)
theorem kM(xs:List α)(y:α)(ds:List D):AR c xs++(c y::ds)=AR c (xs++[y])++ds:=by simp [AR]
theorem nV(c:α→List D)(e:ab)(xs:List α)(h: ∀x,DT (c x)=some (c x)):DT (AR (fun x=>D.own e (c x)) xs)=some (AR (fun x=>D.sl e (c x)) xs):=nU c c e xs h
def Rw(c:α→D):Option α→D
 |some a=>c a
 |none=> .undef
theorem gW(xs:List α):AR (Rw c) (xs.map some)=AR c xs:=by simp [AR,Function.comp_def,Rw]
theorem UJ(xs:List (Option α))(n:Nat):(AR (Rw c) xs).set n .undef=AR (Rw c) (xs.set n none):=by simp [AR,List.map_set,Rw]
theorem nW(xs:List (Option α))(n:Nat)(y:α):(AR (Rw c) xs).set n (c y)=AR (Rw c) (xs.set n (some y)):=by simp [AR,List.map_set,Rw]
theorem nX(xs:List α):(xs.map some).length=xs.length:=by simp
theorem aB(xs:List α)(n:Nat):(AR c xs).set n .undef=AR (Rw c) ((xs.map some).set n none):=by rw [←UJ,gW]
theorem sU(xs:List (Option α))(n:Nat):AR (Rw (Rw c)) ((xs.map some).set n none)=AR (Rw c) (xs.set n none):=by rw [←aB,UJ]
theorem nY(xs:List α)(n:Nat)(y:α):(xs.map some).set n (some y)=(xs.set n y).map some:=List.map_set.symm
theorem sV(n:Nat)(k:IntKind)(x:Int):ao n (bd k x)=AR (bd k) (ao n x):=by simp [AR]
theorem sW(n:Nat)(e:ab):ao n (D.own e [])=AR (fun x=>D.own e (AR (bd .i64) x)) (ao n []):=by simp [AR]
variable [Inhabited α] {T:Tys}
theorem AEL(e:ab)(n:Int)(xs:List α)(hk:T.known e=true)(hz:T.size e=1)(hn:0≤n∧n.toNat<xs.length):kI T e n (some (e,AR c xs,none))=some (.cptr [c (xs.getD n.toNat be)]):=by
 rw [ABx e n (AR c xs) hk hz (by simpa [AR] using hn),UH c xs _ hn.2]
end
theorem AEM:(true==false)=false:=nr rfl
theorem AEN:(false==true)=false:=nr rfl
theorem AEO{s:St}(dst:Option Tmp)(u:Tmp)(i:Nat)(L:AJ)(n m:Nat):cZ s dst u i (some (.vw L n m))=some (s.putO dst (.vw L n m)):=by simp [cZ,Cu,FW,D.hasObj,JU]
theorem aD{α:Type}(c:α→D)(xs:List α):(AR c xs).isEmpty=xs.isEmpty:=by cases xs<;>rfl
theorem A6e{α:Type}(c:α→D)(e:ab)(xs:List α):Dj (.sl e (AR c xs))= !xs.isEmpty:=by simp only [Dj,aD]
theorem aF{α:Type}(c:α→List D)(e:ab)(xs:List α):Al (AR (fun x=>D.own e (c x)) xs)= !xs.isEmpty:=by
 cases xs with
 |nil=>rfl
 |cons x xs=>simp [K3,Al,D.hasObj]
section
variable {pm:Pm} {s:St} {dst:Option Tmp}
theorem AEP(ls:List (AJ×D))(r:D)(o:List D)(h:Dj r=true):cb2 pm s dst ls (some (r,o))=if(Ei (ls.map (·.1))&&ls.all (fun l=>pm.wr (l.1.headD 0)))=true then(IY ls).map fun ls'=>(back false s ls').putO dst r else none:=by
 simp [cb2,h]
theorem faN:IY []=some []:=nr rfl
def fac(L:AJ)(o:Option (List (AJ×D))):Option D→Option (List (AJ×D))
 |some c=>o.map ((L,c):: ·)
 |none=>none
theorem faC(L:AJ)(c:D)(rest:List (AJ×D)):IY ((L,c)::rest)=fac L (IY rest) (EA c):=by
 simp only [IY];cases EA c<;>rfl
theorem AEQ(L:AJ)(ls:List (AJ×D))(c:D):fac L (some ls) (some c)=some ((L,c)::ls):=nr rfl
end
def BH(xs:G8)(n:Nat):Int:=(xs.getD n be).1
def CK(xs:G8)(n:Nat):Int:=(xs.getD n be).2
def Ay(k l:IntKind)(xs:G8):List D:=Va (fun x=>[bd k x.1,bd l x.2]) xs
theorem A9(k l:IntKind):Ay k l []=[]:=nr rfl
theorem MG(k l:IntKind)(x:Int×Int)(xs:G8):Ay k l (x::xs)=bd k x.1::bd l x.2::Ay k l xs:=nr rfl
theorem O0(k l:IntKind)(xs:G8):(Ay k l xs).length=xs.length*2:=UI _ 2 (fun _=>rfl) xs
theorem X9(k l:IntKind)(v:Int): ∀(xs:G8) (n:Nat),n<xs.length→(Ay k l xs).set (n*2) (bd k v)=Ay k l (xs.set n (v,CK xs n)):=by
 intro xs
 induction xs with
 |nil=>intro n h;simp at h
 |cons x xs ih=>
  intro n h
  cases n with
  |zero=>rfl
  |succ n=>
   have:=ih n (by simpa using h)
   rw [MG,Nat.succ_mul,Yx,Yx,Yx,this,MG];rfl
theorem XA(k l:IntKind)(v:Int): ∀(xs:G8) (n:Nat),n<xs.length→(Ay k l xs).set (n*2+1) (bd l v)=Ay k l (xs.set n (BH xs n,v)):=by
 intro xs
 induction xs with
 |nil=>intro n h;simp at h
 |cons x xs ih=>
  intro n h
  cases n with
  |zero=>rfl
  |succ n=>
   have:=ih n (by simpa using h)
   rw [MG,Nat.succ_mul,show n*2+2+1=n*2+1+1+1 by omega,Yx,Yx,Yx,this,MG];rfl
theorem kN(k l:IntKind)(xs:G8)(n:Nat):(Ay k l xs).drop (n*2)=Ay k l (xs.drop n):=Zz _ 2 (fun _=>rfl) xs n
theorem Rf(k l:IntKind)(xs:G8):Al (Ay k l xs)=false:=dm _ xs (fun _=>by simp [Al,D.hasObj])
theorem nZ(k l:IntKind)(xs:G8):DT (Ay k l xs)=some (Ay k l xs):=gV _ xs (fun _=>rfl)
theorem dw(k l:IntKind)(xs:G8):Dk (Ay k l xs)=false:=X8 _ xs (fun _=>rfl)
theorem ng(k l:IntKind)(n:Nat)(a b:Int):(ao n [bd k a,bd l b]).flatten=Ay k l (ao n (a,b)):=by
 simp [Ay,Va,List.flatMap_def]
def q4a(xs:List (Int×Int×Int×Int))(n:Nat):Int:=(xs.getD n be).1
def q4b(xs:List (Int×Int×Int×Int))(n:Nat):Int:=(xs.getD n be).2.1
def q4c(xs:List (Int×Int×Int×Int))(n:Nat):Int:=(xs.getD n be).2.2.1
def q4d(xs:List (Int×Int×Int×Int))(n:Nat):Int:=(xs.getD n be).2.2.2
def LH(xs:List (Int×Int×Int×Int)):List D:=Va (fun x=>[bd .i64 x.1,bd .i64 x.2.1,bd .i64 x.2.2.1,bd .i64 x.2.2.2]) xs
theorem kP(x:Int×Int×Int×Int)(xs:List (Int×Int×Int×Int)):LH (x::xs)=bd .i64 x.1::bd .i64 x.2.1::bd .i64 x.2.2.1::bd .i64 x.2.2.2::LH xs:=nr rfl
theorem Rh(xs:List (Int×Int×Int×Int)):(LH xs).length=xs.length*4:=UI _ 4 (fun _=>rfl) xs
theorem kQ(xs:List (Int×Int×Int×Int))(a b c d:Int):LH xs++[bd .i64 a,bd .i64 b,bd .i64 c,bd .i64 d]=LH (xs++[(a,b,c,d)]):=dh _ xs [(a,b,c,d)]
theorem dz(xs:List (Int×Int×Int×Int))(a b c d:Int)(ds:List D):LH xs++(bd .i64 a::bd .i64 b::bd .i64 c::bd .i64 d::ds)=LH (xs++[(a,b,c,d)])++ds:=by
 rw [←kQ,P5];rfl
theorem kR(xs:List (Int×Int×Int×Int))(n:Nat):(LH xs).drop (n*4)=LH (xs.drop n):=Zz _ 4 (fun _=>rfl) xs n
theorem ni(xs:List (Int×Int×Int×Int)):DT (LH xs)=some (LH xs):=gV _ xs (fun _=>rfl)
theorem eB(xs:List (Int×Int×Int×Int)):Dk (LH xs)=false:=X8 _ xs (fun _=>rfl)
theorem vJ{T:Tys}(e:ab)(xs:List (Int×Int×Int×Int))(h:T.size e=4):T.len e (LH xs)=xs.length:=by
 unfold Tys.len;rw [h,if_neg (by decide),Rh,Nat.mul_div_cancel _ (by decide)]
theorem AER{T:Tys}(e:ab)(n:Int)(xs:List (Int×Int×Int×Int))(hk:T.known e=true)(hz:T.size e=4)(hn:0≤n∧n.toNat<xs.length):kI T e n (some (e,LH xs,none))=some (.cptr [bd .i64 (q4a xs n.toNat),bd .i64 (q4b xs n.toNat),bd .i64 (q4c xs n.toNat),bd .i64 (q4d xs n.toNat)]):=by
 simp only [kI,hk,vJ e xs hz];rw [if_pos ⟨trivial,trivial,hn.1,hn.2⟩,hz,kR,jA hn.2,kP];unfold q4a q4b q4c q4d;rw [KG,GM hn.2];rfl
section
variable {T:Tys} {pm:Pm} {s:St} {t:ab}
theorem nk(k l:IntKind)(e:ab)(xs:G8)(h:T.size e=2):T.len e (Ay k l xs)=xs.length:=by
 unfold Tys.len;rw [h,if_neg (by decide),O0,Nat.mul_div_cancel _ (by decide)]
theorem AES(k l:IntKind)(e:ab)(n:Int)(xs:G8)(hk:T.known e=true)(hz:T.size e=2)(hn:0≤n∧n.toNat<xs.length):kI T e n (some (e,Ay k l xs,none))=some (.cptr [bd k (BH xs n.toNat),bd l (CK xs n.toNat)]):=by
 simp only [kI,hk,nk k l e xs hz];rw [if_pos ⟨trivial,trivial,hn.1,hn.2⟩,hz,kN,jA hn.2,MG];unfold BH CK;rw [KG,GM hn.2];rfl
theorem AET(k l:IntKind)(e:ab)(n:Int)(xs:G8)(L:AJ)(a b:Nat)(hk:T.known e=true)(hz:T.size e=2)(hn:0≤n∧n.toNat<xs.length):kI T e n (some (e,Ay k l xs,some (L,a,b)))=some (.pe L (n.toNat*2) a b):=by
 simp only [kI,hk,nk k l e xs hz];rw [if_pos ⟨trivial,trivial,hn.1,hn.2⟩,hz]
def sq1(T:Tys)(pm:Pm)(t:ab)(u:Tmp)(a b:D)(s:St):Option D→Nat→AJ→Option St
 |some (.own e xs),c,L=>if T.known t&&T.isStruct t&&pm.wr (L.headD 0)&&DN a&&DN b&&(T.size t==2)&&decide (c+2≤xs.length)&& !a.hasObj&& !b.hasObj&& !Al xs then some (s.set L (.own e ((xs.set c a).set (c+1) b)))else Yv T pm t (.tmp u) (some (.agg [a,b],s))
 |_,_,_=>Yv T pm t (.tmp u) (some (.agg [a,b],s))
theorem AEU(u:Tmp)(a b:D)(L:AJ)(c n m:Nat)(h:s.v u= .pe L c n m):Yv T pm t (.tmp u) (some (.agg [a,b],s))=sq1 T pm t u a b s (s.look pm L n m) c L:=by
 cases hl:s.look pm L n m with
 |none=>rfl
 |some o=>
  cases o<;>try rfl
  rename_i e xs
  simp only [sq1];split
  ·rename_i hc
   simp only [FV,beq_iff_eq,decide_eq_true_eq,Lh]at hc;obtain⟨⟨⟨⟨⟨⟨⟨⟨⟨hk,hs⟩,hw⟩,ha⟩,hb⟩,hz⟩,hl2⟩,ha2⟩,hb2⟩,hx2⟩:=hc;simp only [Yv,ev,h,IX,hl,D.asCells,D.isAgg,D.cells,D.withCells,hk,hs,hw,hz,Qc,ha,hb,List.all_nil,Bool.and_self,Lr,Qa,beq_self_eq_true,PZ,D.hasObj,Al,ha2,hb2,hx2,Bool.or_self,JQ,if_false,C8];rw [if_pos (by simpa using hl2)]
  ·rfl
theorem AEV(u:Tmp)(a b:D)(L:AJ)(c n m:Nat)(h:s.v u= .pe L c n m):sw1 T pm t u [a,b] s (.pe L c n m)=sq1 T pm t u a b s (s.look pm L n m) c L:=by
 rw [←AEU u a b L c n m h];rfl
theorem eD(k l:IntKind)(xs:G8)(n:Nat)(a b:Int)(h:n<xs.length):((Ay k l xs).set (n*2) (bd k a)).set (n*2+1) (bd l b)=Ay k l (xs.set n (a,b)):=by
 rw [X9 k l a xs n h,XA k l b _ n (by simpa using h),List.set_set]
 congr 2
 simp [BH,KG,h]
theorem AEW(k l:IntKind)(u:Tmp)(a b:Int)(L:AJ)(e:ab)(n:Nat)(xs:G8)(hk:T.known t=true)(hs:T.isStruct t=true)(hw:pm.wr (L.headD 0)=true)(hz:T.size t=2)(h:n<xs.length):
  sq1 T pm t u (.int k a) (.int l b) s (some (.own e (Ay k l xs))) (n*2) L=some (s.set L (.own e (Ay k l (xs.set n (a,b))))):=by
 simp only [sq1];rw [if_pos,eD k l xs n a b h];simp only [hk,hs,hw,hz,DN,O0,Rf,D.hasObj,FV,decide_eq_true_eq,beq_self_eq_true,Bool.not_false,and_true,true_and];omega
theorem aG: ∀(xs:AO),XP (AR (bd .i64) xs)=some xs
 | []=>rfl
 |x::xs=>by rw [K3,XP,aG xs];rfl
theorem A6g(xs:AO)(h':xs.length≤14∧14≤xs.length):JY true 14 (.agg (AR (bd .i64) xs))=some xs:=by
 have h:xs.length=14:=by omega
 simp only [JY,Jh,h,and_self,if_true,aG]
theorem A6h(a0 a1 a2 a3 a4 a5 a6 a7 a8 a9 a10 a11 a12 a13:Int):JY true 14 (.agg [.int .i64 a0,.int .i64 a1,.int .i64 a2,.int .i64 a3,.int .i64 a4,.int .i64 a5,.int .i64 a6,.int .i64 a7,.int .i64 a8,.int .i64 a9,.int .i64 a10,.int .i64 a11,.int .i64 a12,.int .i64 a13])=some [a0,a1,a2,a3,a4,a5,a6,a7,a8,a9,a10,a11,a12,a13]:=nr rfl
theorem csA(L:AJ)(xs:AO)(h':xs.length≤14∧14≤xs.length):cellsOf s L 0 14 (some (.box (AR (bd .i64) xs)))=some (.agg (AR (bd .i64) xs)):=by
 have h:xs.length=14:=by omega
 have e:((an 14).map fun i=>FW s L (0+i) ((AR (bd .i64) xs).getD (0+i) .undef))=AR (bd .i64) xs:=by
  refine List.ext_getElem (by simp [Jh,h]) (fun i h1 h2=> ?_)
  have hi:i<xs.length:=by rw [Jh]at h2;exact h2
  simp only [List.getElem_map,XJ,JR,UH _ xs i hi,FW];simp [AR,hi]
 show(if 0+14≤(AR (bd .i64) xs).length then Cu (.agg ((an 14).map fun i=>FW s L (0+i) ((AR (bd .i64) xs).getD (0+i) .undef)))else none)=_
 rw [if_pos (by rw [Jh,h];omega),e]
 simp only [Cu,D.hasObj,PK (bd .i64) xs (fun _=>rfl)];rfl
theorem ndL{α:Type}(e:ab)(c:α→D)(xs:List α)(h:0<xs.length):Pd pm s (.sl e (AR c xs))=some false:=by
 cases xs with
 |nil=>exact(Nat.lt_irrefl 0 h).elim
 |cons x xs=>rfl
end
set_option linter.defProp false
def AEX:=A7 @AEO (A7 @dn (A7 @aF (A7 @A6e (A7 @AEP (A7 @faN (A7 @faC (A7 @AEQ (A7 @AEL (A7 @Jh (A7 @A2I (A7 @UH (A7 @gU (A7 @kM (A7 @nS (A7 @nT (A7 @PK (A7 @sQ (A7 @nV (A7 @kL (A7 @X7 (A7 @sW (A7 @gW (A7 @nX (A7 @aB (A7 @nY (A7 (A7 @sU @UJ) (A7 @nW (A7 @sV (A7 @AEM @AEN)))))))))))))))))))))))))))))
theorem tk2(a b:D)(l:List D):List.take 2 (a::b::l)=[a,b]:=nr rfl
theorem tk3(a b c:D)(l:List D):List.take 3 (a::b::c::l)=[a,b,c]:=nr rfl
theorem tk4(a b c d:D)(l:List D):List.take 4 (a::b::c::d::l)=[a,b,c,d]:=nr rfl
theorem A6i{n m:Nat}(h:n<m):n*2<m*2:=by omega
theorem A6j{n m:Nat}(h:n<m):n*2+1<m*2:=by omega
def xc2:=A7 (A7 @A6g (A7 @A6h (A7 @csA @ndL))) (A7 @Nat.add_zero (A7 @Rh (A7 @dz (A7 @ni (A7 @eB (A7 @vJ (A7 @AER (A7 @O0 (A7 @Rf (A7 @nZ (A7 @dw (A7 @ng (A7 @nk (A7 @AES (A7 @AET (A7 @AEV (A7 @tk2 (A7 @tk3 (A7 @tk4 (A7 @A6i (A7 @A6j (A7 @X9 (A7 @XA (A7 @List.length_set.{0} (@AEW)))))))))))))))))))))))))
def A6k:=A7 @implies_true.{1} (A7 @Option.bind_some.{0,0} (A7 @Option.map_some.{0,0} (A7 @Option.isSome_some.{0} (A7 @List.contains_cons.{0} (A7 @List.contains_nil.{0} (A7 @List.getD_cons_zero.{0} (A7 @List.getD_cons_succ.{0} (A7 @List.getD_nil.{0} (A7 @List.length_cons.{0} (A7 @List.length_nil.{0} (A7 @List.size_toArray.{0} (A7 @List.toList_toArray.{0} (A7 @List.zip_cons_cons.{0,0} (A7 @List.zip_nil_left.{0,0} (A7 @List.append_nil.{0} (A7 @List.nil_append.{0} (A7 @List.cons_append.{0} (A7 @List.map_cons.{0,0} (A7 @List.map_nil.{0,0} (A7 @List.replicate_succ.{0} (A7 @List.replicate_zero.{0} (A7 @List.set_cons_zero.{0} (A7 @List.set_cons_succ.{0} (A7 @List.set_set.{0} (A7 @List.all_cons.{0} (A7 @List.any_cons.{0} (A7 @List.any_nil.{0} (A7 @List.all_nil.{0} (A7 @List.getElem?_cons_zero.{0} (A7 @List.getElem?_cons_succ.{0} (A7 @List.getElem?_nil.{0} (@beq_self_eq_true.{0}))))))))))))))))))))))))))))))))
theorem Ae:an 0=[]:=nr rfl
end Dv
namespace Dv
open Go
section
variable {σ ρ α β:Type}
theorem CB(f:σ→Option (σ⊕ρ))(st:Nat→σ): ∀(n:Nat) (r:ρ),(∀i,i<n→f (st i)=some (.inl (st (i+1))))→f (st n)=some (.inr r)→Iy f (st 0)=some r:=by
 intro n r h e
 have key: ∀k,k≤n→Iy f (st (n-k))=some r:=by
  intro k
  induction k with
  |zero=>intro _;exact Mj e
  |succ k ih=>
   intro hk;have h1:=h (n-(k+1)) (by omega)
   rw [Q8 h1,show n-(k+1)+1=n-k by omega]
   exact ih (by omega)
 have:=key n (IG _)
 rwa [Qd]at this
theorem gX(f:σ→Option (σ⊕ρ))(I:Nat→σ→Prop)(Q:ρ→Prop)(step: ∀n s,I n s→(∃s' m,f s=some (.inl s')∧m<n∧I m s')∨(∃r,f s=some (.inr r)∧Q r)):
  ∀(n:Nat) (s:σ),I n s→ ∃r,Iy f s=some r∧Q r:=by
 intro n
 induction n using Nat.strongRecOn with
 |_ n ih=>
  intro s hI;rcases step n s hI with⟨s',m,h1,h2,h3⟩|⟨r,h1,h2⟩
  ·rw [Q8 h1];exact ih m h2 s' h3
  ·exact⟨r,Mj h1,h2⟩
end
theorem PL{n:Nat}{P:Nat→Bool}(h: ¬ ∀i,i<n→P i=true): ∃m,m<n∧P m=false∧ ∀i,i<m→P i=true:=by
 induction n with
 |zero=>exact absurd (fun i hi=>absurd hi (Nat.not_lt_zero _)) h
 |succ n ih=>
  by_cases hn: ∀i,i<n→P i=true
  ·refine⟨n,Nat.lt_succ_self _, ?_,hn⟩
   cases hp:P n with
   |false=>rfl
   |true=>exact absurd (fun i hi=>by rcases Nat.lt_succ_iff_lt_or_eq.1 hi with h1|rfl;exact hn i h1;exact hp) h
  ·obtain⟨m,h1,h2,h3⟩:=ih hn
   exact⟨m,by omega,h2,h3⟩
theorem Gf{n:Nat}{P:Nat→Bool}:(an n).all P=true↔ ∀i,i<n→P i=true:=by
 simp [JC]
theorem nu{σ ρ:Type}(f:σ→Option (σ⊕ρ))(st:Nat→σ)(n:Nat)(P:Nat→Bool)(bad good:ρ)
  (h: ∀i,i<n→(∀j,j<i→P j=true)→f (st i)=if P i=true then some (.inl (st (i+1)))else some (.inr bad))(e:(∀j,j<n→P j=true)→f (st n)=some (.inr good)):Iy f (st 0)=some (if(an n).all P=true then good else bad):=by
 by_cases hp: ∀i,i<n→P i=true
 ·rw [if_pos (Gf.2 hp)];refine CB f st n good (fun i hi=> ?_) (e hp);rw [h i hi (fun j hj=>hp j (by omega)),if_pos (hp i hi)]
 ·rw [if_neg (fun hc=>hp (Gf.1 hc))];obtain⟨m,h1,h2,h3⟩:=PL hp;refine CB f st m bad (fun i hi=> ?_) ?_
  ·rw [h i (by omega) (fun j hj=>h3 j (by omega)),if_pos (h3 i hi)]
  ·rw [h m h1 h3,h2];rfl
theorem Iz{σ ρ:Type}(f:σ→Option (σ⊕ρ))(st:Nat→σ)(n:Nat)(P:Nat→Bool)(bad good:ρ)
  (h: ∀i,i<n→f (st i)=if P i=true then some (.inl (st (i+1)))else some (.inr bad))(e:f (st n)=some (.inr good)):Iy f (st 0)=some (if(an n).all P=true then good else bad):=
 nu f st n P bad good (fun i hi _=>h i hi) (fun _=>e)
theorem aH{α:Type}[Inhabited α](p:α→Bool)(xs:List α):(an xs.length).all (fun i=>p (xs.getD i be))=xs.all p:=by
 rw [Qb,Gf,JC]
 constructor
 ·intro h x hx;obtain⟨i,hi,rfl⟩:=bJ hx;have:=h i hi
  rwa [KG,GM hi]at this
 ·intro h i hi;rw [KG,GM hi];exact h _ (Jc hi)
theorem UK{α:Type}[DecidableEq α][Inhabited α](a b:List α)(hl:a.length=b.length):(an a.length).all (fun i=>decide (a.getD i be=b.getD i be))=decide (a=b):=by
 by_cases he:a=b
 ·subst he;simp
 ·rw [decide_eq_false he,JA];intro hc;rw [Gf]at hc;refine he (List.ext_getElem hl fun i h1 h2=> ?_);have:=hc i h1
  rw [KG,KG,GM h1,GM h2]at this;simpa using this
theorem KO(i:Nat)(h:i<4611686018427387904):IntKind.i64.wrap ((i:Int)+1)=((i+1:Nat):Int):=by
 rw [KI _ (by omega)];rfl
theorem BA{α:Type}[Inhabited α](xs:List α)(i:Nat)(h:i<xs.length):xs.getD i be=xs[i]:=by
 rw [KG,GM h];rfl
theorem JK{α:Type}[Inhabited α](xs:List α)(i:Nat)(h:i<xs.length):xs.getD (i:Int).toNat be=xs[i]:=by
 rw [JX];exact BA xs i h
theorem Bb{α:Type}{c:Prop}[Decidable c]{o:Option α}(h:c):ck c o=o:=if_pos h
theorem Be{i n:Nat}(h:i<n):(i:Int)<(n:Int):=by omega
theorem Am(n:Nat): ¬(n:Int)<(n:Int):=by omega
theorem IZ{i n:Nat}(h:i<n):0≤(i:Int)∧(i:Int).toNat<n:=by omega
theorem O1{α:Type}[Inhabited α](a b:List α)(i:Nat)(h:i=a.length)(hb:0<b.length):(a++b).getD i be=b[0]:=by
 subst h;rw [KG,NM (IG _),Qd,GM hb];rfl
end Dv
namespace Dv
open Go
def XB(x:Int×Int):List D:=[bd .i64 x.1,bd .i64 x.2]
def ny(xs:G8):Prop:=xs.length≤maxLen∧ ∀x∈xs,nP x.1∧nP x.2
def eF(xss:Aq):Prop:=xss.length≤maxLen∧ ∀xs∈xss,ny xs
section
variable {T:Tys} {t e a:ab} {d:D}
theorem sZ{ds:List D}(he:T.ty e= .struct [a,a])(ha:T.ty a= .int .i64)(h:Shp T e ds): ∃x:Int×Int,ds=XB x∧nP x.1∧nP x.2:=by
 obtain⟨hl,hx⟩:=X6 he h;rcases ds with _|⟨d0,_|⟨d1,_|⟨_,_⟩⟩⟩<;>simp at hl
 obtain⟨p,h0,hl0⟩:=dX ha (hx 0 a d0 rfl rfl);obtain⟨q,h1,hl1⟩:=dX ha (hx 1 a d1 rfl rfl);simp only [List.cons.injEq,and_true]at h0 h1;subst h0 h1
 exact⟨(p,q),rfl,hl0,hl1⟩
theorem nz{ds:List D}(ht:T.ty t= .slice e)(he:T.ty e= .struct [a,a])(ha:T.ty a= .int .i64)(h:Shp T t ds): ∃xs,ds=[.sl e (Va XB xs)]∧ny xs:=by
 obtain⟨xss,rfl,hx,hl⟩:=UF ht h
 have: ∀xss:List (List D),(∀xs,xs∈xss→Shp T e xs)→ ∃ys,xss.flatten=Va XB ys∧ys.length=xss.length∧ ∀y∈ys,nP y.1∧nP y.2:=by
  intro xss
  induction xss with
  |nil=>intro _;exact⟨[],rfl,rfl,by simp⟩
  |cons xs xss ih=>
   intro hx;obtain⟨n,rfl,hn⟩:=sZ he ha (hx xs (LF));obtain⟨ys,h1,h2,h3⟩:=ih (fun q hq=>hx q (Jb _ hq))
   refine⟨n::ys,by rw [bM,h1];rfl,by simp [h2],fun y hy=> ?_⟩
   rcases Pb.1 hy with rfl|hy
   ·exact hn
   ·exact h3 y hy
 obtain⟨ys,h1,h2,h3⟩:=this xss hx
 exact⟨ys,by rw [h1],by omega,h3⟩
theorem kS{e2:ab}{ds:List D}(ht:T.ty t= .slice e)(he:T.ty e= .slice e2)(he2:T.ty e2= .struct [a,a])(ha:T.ty a= .int .i64)(h:Shp T t ds): ∃xss,ds=[.sl e (AR (fun x=> .sl e2 (Va XB x)) xss)]∧eF xss:=by
 obtain⟨xss,rfl,hx,hl⟩:=UF ht h
 have: ∀xss:List (List D),(∀xs,xs∈xss→Shp T e xs)→ ∃ys,xss.flatten=AR (fun x=> .sl e2 (Va XB x)) ys∧ys.length=xss.length∧ ∀y∈ys,ny y:=by
  intro xss
  induction xss with
  |nil=>intro _;exact⟨[],rfl,rfl,by simp⟩
  |cons xs xss ih=>
   intro hx;obtain⟨n,rfl,hn⟩:=nz he he2 ha (hx xs (LF));obtain⟨ys,h1,h2,h3⟩:=ih (fun q hq=>hx q (Jb _ hq))
   refine⟨n::ys,by rw [bM,h1];rfl,by simp [h2],fun y hy=> ?_⟩
   rcases Pb.1 hy with rfl|hy
   ·exact hn
   ·exact h3 y hy
 obtain⟨ys,h1,h2,h3⟩:=this xss hx
 exact⟨ys,by rw [h1],by omega,h3⟩
theorem eG{b c e2:ab}(ht:T.ty t= .struct [b,c,c])(hb:T.ty b= .slice e)(he:T.ty e= .slice e2)(he2:T.ty e2= .struct [a,a])(ha:T.ty a= .int .i64)(hc:T.ty c= .slice a)(h:Arg T t d):
  ∃es is js,d= .agg [.sl e (AR (fun x=> .sl e2 (Va XB x)) es),.sl a (IQ is),.sl a (IQ js)]∧eF es∧A2A is∧A2A js:=by
 obtain⟨ds,rfl,hl,hx⟩:=kK ht h;rcases ds with _|⟨d0,_|⟨d1,_|⟨d2,_|⟨_,_⟩⟩⟩⟩<;>simp at hl
 obtain⟨es,h0,hl0⟩:=kS hb he he2 ha (hx 0 b d0 rfl rfl);obtain⟨is,h1,hl1⟩:=gQ hc ha (hx 1 c d1 rfl rfl);obtain⟨js,h2,hl2⟩:=gQ hc ha (hx 2 c d2 rfl rfl);simp only [List.cons.injEq,and_true]at h0 h1 h2;subst h0 h1 h2
 exact⟨es,is,js,rfl,hl0,hl1,hl2⟩
end
end Dv
