/- Value semantics for Go code, part 5: typed lists, loops as functions. Conditions: none beyond those in each lemma. -/
import Derived.Test.YtclkfhhdikfcpaaL4
open Dv.D renaming int → bk
open Go renaming TypeId → ab
open Inhabited renaming default → bl
open List renaming range → an,replicate → ao
set_option linter.unusedSimpArgs false
set_option linter.unusedVariables false
namespace Dv
open Go
set_option maxRecDepth 10000
def ck{α:Type}(c:Prop)[Decidable c](o:Option α):Option α:=if c then o else none
section
variable {σ ρ:Type}
def Xc(f:σ→Option (σ⊕ρ)):Nat→σ→Option ρ
 |0,_=>none
 |n+1,s=>
  match f s with
  |none=>none
  |some (.inl s')=>Xc f n s'
  |some (.inr r)=>some r
open Classical in
noncomputable def Jf(f:σ→Option (σ⊕ρ))(s:σ):Option ρ:=if h: ∃r n,Xc f n s=some r then some h.choose else none
theorem Vs{f:σ→Option (σ⊕ρ)}: ∀ {n m:Nat} {s:σ} {r:ρ},n≤m→Xc f n s=some r→Xc f m s=some r:=by
 intro n
 induction n with
 |zero=>intro m s r _ h;simp [Xc]at h
 |succ n ih=>
  intro m s r hm h
  cases m with
  |zero=>omega
  |succ m=>
   simp only [Xc]at h ⊢
   cases hs:f s with
   |none=>simp [hs]at h
   |some q=>
    cases q with
    |inl s'=>simp only [hs]at h ⊢;exact ih (by omega) h
    |inr r'=>simp only [hs]at h ⊢;exact h
theorem U5{f:σ→Option (σ⊕ρ)}{n:Nat}{s:σ}{r:ρ}(h:Xc f n s=some r):Jf f s=some r:=by
 unfold Jf;have hx: ∃r n,Xc f n s=some r:=⟨r,n,h⟩;rw [dif_pos hx];obtain⟨n',h'⟩:=hx.choose_spec;have h1:=Vs (Nat.le_max_left n n') h;have h2:=Vs (Nat.le_max_right n n') h';rw [h1]at h2;exact h2.symm
theorem QW{f:σ→Option (σ⊕ρ)}{s:σ}{r:ρ}(h:Jf f s=some r): ∃n,Xc f n s=some r:=by
 unfold Jf at h
 split at h
 ·rename_i hx
  simp only [Option.some.injEq]at h;subst h;exact hx.choose_spec
 ·cases h
theorem YS{f:σ→Option (σ⊕ρ)}{s s':σ}(h:f s=some (.inl s')):Jf f s=Jf f s':=by
 cases hi:Jf f s' with
 |some r=>
  obtain⟨n,hn⟩:=QW hi;exact U5 (n:=n+1) (by simp only [Xc,h];exact hn)
 |none=>
  cases hj:Jf f s with
  |none=>rfl
  |some r=>
   obtain⟨n,hn⟩:=QW hj
   cases n with
   |zero=>simp [Xc]at hn
   |succ n=>
    simp only [Xc,h]at hn;rw [U5 hn]at hi;cases hi
theorem U6{f:σ→Option (σ⊕ρ)}{s:σ}{r:ρ}(h:f s=some (.inr r)):Jf f s=some r:=U5 (n:=1) (by simp [Xc,h])
end
def YT{σ ρ:Type}(M:σ→St→Prop)(X:ρ→Ex→St→Prop):σ⊕ρ→Ex→St→Prop
 | .inl v,.normal,s=>M v s
 | .inl _,_,_=>False
 | .inr _,.normal,_=>False
 | .inr r,ex,s=>X r ex s
theorem EA{σ ρ:Type}(M:σ→St→Prop)(X:ρ→Ex→St→Prop)(v:σ)(s:St):YT M X (.inl v) .normal s=M v s:=nr rfl
theorem EB{σ ρ:Type}(M:σ→St→Prop)(X:ρ→Ex→St→Prop)(r:ρ)(j:Nat)(s:St):YT M X (.inr r) (.exit j) s=X r (.exit j) s:=nr rfl
theorem EC{σ ρ:Type}(M:σ→St→Prop)(X:ρ→Ex→St→Prop)(r:ρ)(s:St):YT M X (.inr r) .ret s=X r .ret s:=nr rfl
theorem DK{E:Env}{c:SC}{σ ρ:Type}(f:σ→Option (σ⊕ρ))(M:σ→St→Prop)(X:ρ→Ex→St→Prop)
  (hstep: ∀v s o,M v s→f v=some o→Cb E c (YT M X o) s){v:σ}{s:St}{r:ρ}(h:Jf f v=some r)(hM:M v s):Cb E (.loop c) (X r) s:=by
 obtain⟨n,hn⟩:=QW h
 induction n generalizing v s with
 |zero=>simp [Xc]at hn
 |succ n ih=>
  simp only [Xc]at hn
  cases hf:f v with
  |none=>simp [hf]at hn
  |some o=>
   obtain⟨ex,s1,h1,h2⟩:=hstep v s o hM hf
   cases o with
   |inl v'=>
    simp only [hf]at hn
    cases ex with
    |normal=>
     obtain⟨ex',s2,h3,h4⟩:=ih (U5 hn) h2 hn
     refine⟨ex',s2, ?_,h4⟩
     simp only [D7]at h3 ⊢;rw [U0,h1];exact h3
    |exit id=>exact h2.elim
    |ret=>exact h2.elim
   |inr r'=>
    simp only [hf,Option.some.injEq]at hn;subst hn
    cases ex with
    |normal=>exact h2.elim
    |exit id=>exact⟨_,s1,by simp only [D7];rw [U0,h1],h2⟩
    |ret=>exact⟨_,s1,by simp only [D7];rw [U0,h1],h2⟩
def AV{α:Type}(c:α→D)(xs:List α):List D:=xs.map c
def RN{α:Type}(c:α→List D)(xs:List α):List D:=xs.flatMap c
section
variable {α:Type} (c:α→D)
theorem Ie(x:α)(xs:List α):AV c (x::xs)=c x::AV c xs:=nr rfl
theorem HV(xs:List α):(AV c xs).length=xs.length:=by simp [AV]
theorem QX[Inhabited α](xs:List α)(i:Nat)(h:i<xs.length):(AV c xs).getD i .undef=c (xs.getD i bl):=by
 simp [AV,Je,h]
theorem vM[Inhabited α](xs:List α)(i:Nat)(h:i<xs.length):(AV c xs)[i]? =some (c (xs.getD i bl)):=by
 simp [AV,Je,h]
theorem YU(xs:List α)(i:Nat)(y:α):(AV c xs).set i (c y)=AV c (xs.set i y):=by simp [AV]
theorem dH(xs:List α)(n:Nat):(AV c xs).take n=AV c (xs.take n):=by simp [AV]
theorem dI(xs:List α)(n:Nat):(AV c xs).drop n=AV c (xs.drop n):=by simp [AV]
theorem ME(xs:List α)(h: ∀x,(c x).hasObj=false):Am (AV c xs)=false:=by
 induction xs with
 |nil=>rfl
 |cons x xs ih=>simp only [Ie,Am,h,ih];rfl
theorem iR(xs:List α)(h: ∀x,DL (c x)=some (c x)):Cr (AV c xs)=some (AV c xs):=by
 induction xs with
 |nil=>rfl
 |cons x xs ih=>simp only [Ie,Cr,h,ih];rfl
theorem dJ(c:α→List D)(c':α→List D)(e:ab)(xs:List α)(h: ∀x,Cr (c x)=some (c' x)):Cr (AV (fun x=>D.own e (c x)) xs)=some (AV (fun x=>D.sl e (c' x)) xs):=by
 induction xs with
 |nil=>rfl
 |cons x xs ih=>simp only [Ie,Cr,DL,h,ih];rfl
theorem Zm(xs:List α)(h: ∀x,DX (c x)=false):D5 (AV c xs)=false:=by
 induction xs with
 |nil=>rfl
 |cons x xs ih=>simp only [Ie,D5,h,ih];rfl
theorem TB(xs:List α)(h: ∀x,Cn (c x)=true):(AV c xs).all Cn=true:=by simp [AV,h]
end
section
variable {α:Type} (c:α→List D) (n:Nat)
theorem YV:RN c []=[]:=nr rfl
theorem Ko(x:α)(xs:List α):RN c (x::xs)=c x++RN c xs:=nr rfl
theorem Xd(xs ys:List α):RN c xs++RN c ys=RN c (xs++ys):=by simp [RN]
theorem QY(h: ∀x,(c x).length=n)(xs:List α):(RN c xs).length=xs.length*n:=by
 induction xs with
 |nil=>simp [YV]
 |cons x xs ih=>simp only [Ko,PQ,h,ih,MQ,Nat.succ_mul];omega
theorem Vt(h: ∀x,(c x).length=n)(xs:List α): ∀(i:Nat),(RN c xs).drop (i*n)=RN c (xs.drop i):=by
 induction xs with
 |nil=>intro i;simp [YV]
 |cons x xs ih=>
  intro i
  cases i with
  |zero=>simp
  |succ i=>
   rw [Ko,List.drop_append,List.drop_succ_cons,←ih i,h,Nat.succ_mul];have e1:(c x).drop (i*n+n)=[]:=List.drop_eq_nil_of_le (by rw [h];omega)
   rw [e1,Nat.add_sub_cancel];rfl
theorem Xe(xs:List α)(h: ∀x,Am (c x)=false):Am (RN c xs)=false:=by
 have app: ∀(as bs:List D),Am (as++bs)=(Am as||Am bs):=by
  intro as bs
  induction as with
  |nil=>simp [Am]
  |cons a as ih=>simp [Am,ih,Bool.or_assoc]
 induction xs with
 |nil=>rfl
 |cons x xs ih=>rw [Ko,app,h,ih];rfl
theorem Vu: ∀(as bs as' bs':List D),Cr as=some as'→Cr bs=some bs'→Cr (as++bs)=some (as'++bs'):=by
 intro as
 induction as with
 |nil=>intro bs as' bs' h1 h2;simp [Cr]at h1;subst h1;simpa using h2
 |cons a as ih=>
  intro bs as' bs' h1 h2;simp only [Cr,FN,CF]at h1;obtain⟨a',ha,as1,has,rfl⟩:=h1;simp only [NT,Cr,ha,ih _ _ _ has h2];rfl
theorem YW(xs:List α)(h: ∀x,Cr (c x)=some (c x)):Cr (RN c xs)=some (RN c xs):=by
 induction xs with
 |nil=>rfl
 |cons x xs ih=>rw [Ko];exact Vu _ _ _ _ (h x) ih
theorem Rp(as bs:List D):D5 (as++bs)=(D5 as||D5 bs):=by
 induction as with
 |nil=>simp [D5]
 |cons a as ih=>simp [D5,ih,Bool.or_assoc]
theorem TC(xs:List α)(h: ∀x,D5 (c x)=false):D5 (RN c xs)=false:=by
 induction xs with
 |nil=>rfl
 |cons x xs ih=>rw [Ko,Rp,h,ih];rfl
end
def spl{α:Type}:List α→Nat→List α→List α
 |xs,_,[]=>xs
 |xs,c,y::ys=>spl (xs.set c y) (c+1) ys
theorem Xf{α:Type}(c:α→D): ∀(ys xs:List α) (n:Nat),C8 (AV c xs) n (AV c ys)=AV c (spl xs n ys):=by
 intro ys
 induction ys with
 |nil=>intro xs n;cases xs<;>rfl
 |cons y ys ih=>
  intro xs n
  have h1:C8 (AV c xs) n (AV c (y::ys))=C8 ((AV c xs).set n (c y)) (n+1) (AV c ys):=by
   rw [Ie];cases AV c xs<;>rfl
  rw [h1,YU,ih];rfl
theorem BS{α β:Type}{o:Option α}{f:α→Option β}{r:β}(h:o.bind f=some r): ∃a,o=some a∧f a=some r:=by
 cases o with
 |none=>cases h
 |some a=>exact⟨a,rfl,h⟩
theorem Cq{α:Type}{c:Prop}[Decidable c]{o:Option α}{r:α}(h:ck c o=some r):c∧o=some r:=by
 unfold ck at h
 split at h
 ·rename_i hc;exact⟨hc,h⟩
 ·cases h
section
variable {α:Type} (c:α→D)
theorem Zn(xs:List α)(y:α)(ds:List D):AV c xs++(c y::ds)=AV c (xs++[y])++ds:=by simp [AV]
theorem dK(c:α→List D)(e:ab)(xs:List α)(h: ∀x,Cr (c x)=some (c x)):Cr (AV (fun x=>D.own e (c x)) xs)=some (AV (fun x=>D.sl e (c x)) xs):=dJ c c e xs h
def Ol(c:α→D):Option α→D
 |some a=>c a
 |none=> .undef
theorem YX(xs:List α):AV (Ol c) (xs.map some)=AV c xs:=by simp [AV,Function.comp_def,Ol]
theorem QZ(xs:List (Option α))(n:Nat):(AV (Ol c) xs).set n .undef=AV (Ol c) (xs.set n none):=by simp [AV,List.map_set,Ol]
theorem dL(xs:List (Option α))(n:Nat)(y:α):(AV (Ol c) xs).set n (c y)=AV (Ol c) (xs.set n (some y)):=by simp [AV,List.map_set,Ol]
theorem dM(xs:List α):(xs.map some).length=xs.length:=by simp
theorem Vv(xs:List α)(n:Nat):(AV c xs).set n .undef=AV (Ol c) ((xs.map some).set n none):=by rw [←QZ,YX]
theorem iT(xs:List (Option α))(n:Nat):AV (Ol (Ol c)) ((xs.map some).set n none)=AV (Ol c) (xs.set n none):=by rw [←Vv,QZ]
theorem dN(xs:List α)(n:Nat)(y:α):(xs.map some).set n (some y)=(xs.set n y).map some:=List.map_set.symm
theorem iU(n:Nat)(k:IntKind)(x:Int):ao n (bk k x)=AV (bk k) (ao n x):=by simp [AV]
theorem iV(n:Nat)(e:ab):ao n (D.own e [])=AV (fun x=>D.own e (AV (bk .i64) x)) (ao n []):=by simp [AV]
variable [Inhabited α] {T:Tys}
theorem A8B(e:ab)(n:Int)(xs:List α)(hk:T.known e=true)(hz:T.size e=1)(hn:0≤n∧n.toNat<xs.length):Zl T e n (some (e,AV c xs,none))=some (.cptr [c (xs.getD n.toNat bl)]):=by
 rw [A5t e n (AV c xs) hk hz (by simpa [AV] using hn),QX c xs _ hn.2]
end
theorem A8C:(true==false)=false:=nr rfl
theorem A8D:(false==true)=false:=nr rfl
theorem Vw{α:Type}(c:α→List D)(e:ab)(xs:List α):Am (AV (fun x=>D.own e (c x)) xs)= !xs.isEmpty:=by
 cases xs with
 |nil=>rfl
 |cons x xs=>simp [Ie,Am,D.hasObj]
section
variable {pm:Pm} {s:St} {dst:Option Tmp}
end
def BJ(xs:Cz)(n:Nat):Int:=(xs.getD n bl).1
def Bo(xs:Cz)(n:Nat):Int:=(xs.getD n bl).2
def BG(k l:IntKind)(xs:Cz):List D:=RN (fun x=>[bk k x.1,bk l x.2]) xs
theorem AB(k l:IntKind):BG k l []=[]:=nr rfl
theorem Ja(k l:IntKind)(x:Int×Int)(xs:Cz):BG k l (x::xs)=bk k x.1::bk l x.2::BG k l xs:=nr rfl
theorem Kq(k l:IntKind)(xs:Cz):(BG k l xs).length=xs.length*2:=QY _ 2 (fun _=>rfl) xs
theorem TD(k l:IntKind)(v:Int): ∀(xs:Cz) (n:Nat),n<xs.length→(BG k l xs).set (n*2) (bk k v)=BG k l (xs.set n (v,Bo xs n)):=by
 intro xs
 induction xs with
 |nil=>intro n h;simp at h
 |cons x xs ih=>
  intro n h
  cases n with
  |zero=>rfl
  |succ n=>
   have:=ih n (by simpa using h)
   rw [Ja,Nat.succ_mul,TL,TL,TL,this,Ja];rfl
theorem TE(k l:IntKind)(v:Int): ∀(xs:Cz) (n:Nat),n<xs.length→(BG k l xs).set (n*2+1) (bk l v)=BG k l (xs.set n (BJ xs n,v)):=by
 intro xs
 induction xs with
 |nil=>intro n h;simp at h
 |cons x xs ih=>
  intro n h
  cases n with
  |zero=>rfl
  |succ n=>
   have:=ih n (by simpa using h)
   rw [Ja,Nat.succ_mul,show n*2+2+1=n*2+1+1+1 by omega,TL,TL,TL,this,Ja];rfl
theorem Zo(k l:IntKind)(xs:Cz)(n:Nat):(BG k l xs).drop (n*2)=BG k l (xs.drop n):=Vt _ 2 (fun _=>rfl) xs n
theorem OP(k l:IntKind)(xs:Cz):Am (BG k l xs)=false:=Xe _ xs (fun _=>by simp [Am,D.hasObj])
theorem dO(k l:IntKind)(xs:Cz):Cr (BG k l xs)=some (BG k l xs):=YW _ xs (fun _=>rfl)
theorem Xg(k l:IntKind)(xs:Cz):D5 (BG k l xs)=false:=TC _ xs (fun _=>rfl)
theorem dP(k l:IntKind)(n:Nat)(a b:Int):(ao n [bk k a,bk l b]).flatten=BG k l (ao n (a,b)):=by
 simp [BG,RN,List.flatMap_def]
def q4a(xs:List (Int×Int×Int×Int))(n:Nat):Int:=(xs.getD n bl).1
def q4b(xs:List (Int×Int×Int×Int))(n:Nat):Int:=(xs.getD n bl).2.1
def q4c(xs:List (Int×Int×Int×Int))(n:Nat):Int:=(xs.getD n bl).2.2.1
def q4d(xs:List (Int×Int×Int×Int))(n:Nat):Int:=(xs.getD n bl).2.2.2
def Mx(xs:List (Int×Int×Int×Int)):List D:=RN (fun x=>[bk .i64 x.1,bk .i64 x.2.1,bk .i64 x.2.2.1,bk .i64 x.2.2.2]) xs
theorem Zp(x:Int×Int×Int×Int)(xs:List (Int×Int×Int×Int)):Mx (x::xs)=bk .i64 x.1::bk .i64 x.2.1::bk .i64 x.2.2.1::bk .i64 x.2.2.2::Mx xs:=nr rfl
theorem OQ(xs:List (Int×Int×Int×Int)):(Mx xs).length=xs.length*4:=QY _ 4 (fun _=>rfl) xs
theorem Zq(xs:List (Int×Int×Int×Int))(a b c d:Int):Mx xs++[bk .i64 a,bk .i64 b,bk .i64 c,bk .i64 d]=Mx (xs++[(a,b,c,d)]):=Xd _ xs [(a,b,c,d)]
theorem Xh(xs:List (Int×Int×Int×Int))(a b c d:Int)(ds:List D):Mx xs++(bk .i64 a::bk .i64 b::bk .i64 c::bk .i64 d::ds)=Mx (xs++[(a,b,c,d)])++ds:=by
 rw [←Zq,RU];rfl
theorem Zr(xs:List (Int×Int×Int×Int))(n:Nat):(Mx xs).drop (n*4)=Mx (xs.drop n):=Vt _ 4 (fun _=>rfl) xs n
theorem dQ(xs:List (Int×Int×Int×Int)):Cr (Mx xs)=some (Mx xs):=YW _ xs (fun _=>rfl)
theorem Xi(xs:List (Int×Int×Int×Int)):D5 (Mx xs)=false:=TC _ xs (fun _=>rfl)
theorem jq{T:Tys}(e:ab)(xs:List (Int×Int×Int×Int))(h:T.size e=4):T.len e (Mx xs)=xs.length:=by
 unfold Tys.len;rw [h,if_neg (by decide),OQ,Nat.mul_div_cancel _ (by decide)]
theorem A8E{T:Tys}(e:ab)(n:Int)(xs:List (Int×Int×Int×Int))(hk:T.known e=true)(hz:T.size e=4)(hn:0≤n∧n.toNat<xs.length):Zl T e n (some (e,Mx xs,none))=some (.cptr [bk .i64 (q4a xs n.toNat),bk .i64 (q4b xs n.toNat),bk .i64 (q4c xs n.toNat),bk .i64 (q4d xs n.toNat)]):=by
 simp only [Zl,hk,jq e xs hz];rw [if_pos ⟨trivial,trivial,hn.1,hn.2⟩,hz,Zr,List.drop_eq_getElem_cons hn.2,Zp];unfold q4a q4b q4c q4d;rw [Je,Fg hn.2];rfl
section
variable {T:Tys} {pm:Pm} {s:St} {t:ab}
theorem dR(k l:IntKind)(e:ab)(xs:Cz)(h:T.size e=2):T.len e (BG k l xs)=xs.length:=by
 unfold Tys.len;rw [h,if_neg (by decide),Kq,Nat.mul_div_cancel _ (by decide)]
theorem A8F(k l:IntKind)(e:ab)(n:Int)(xs:Cz)(hk:T.known e=true)(hz:T.size e=2)(hn:0≤n∧n.toNat<xs.length):Zl T e n (some (e,BG k l xs,none))=some (.cptr [bk k (BJ xs n.toNat),bk l (Bo xs n.toNat)]):=by
 simp only [Zl,hk,dR k l e xs hz];rw [if_pos ⟨trivial,trivial,hn.1,hn.2⟩,hz,Zo,List.drop_eq_getElem_cons hn.2,Ja];unfold BJ Bo;rw [Je,Fg hn.2];rfl
theorem A8G(k l:IntKind)(e:ab)(n:Int)(xs:Cz)(L:AJ)(a b:Nat)(hk:T.known e=true)(hz:T.size e=2)(hn:0≤n∧n.toNat<xs.length):Zl T e n (some (e,BG k l xs,some (L,a,b)))=some (.pe L (n.toNat*2) a b):=by
 simp only [Zl,hk,dR k l e xs hz];rw [if_pos ⟨trivial,trivial,hn.1,hn.2⟩,hz]
def sq1(T:Tys)(pm:Pm)(t:ab)(u:Tmp)(a b:D)(s:St):Option D→Nat→AJ→Option St
 |some (.own e xs),c,L=>if T.known t&&T.isStruct t&&pm.wr (L.headD 0)&&Cn a&&Cn b&&(T.size t==2)&&decide (c+2≤xs.length)&& !a.hasObj&& !b.hasObj&& !Am xs then some (s.set L (.own e ((xs.set c a).set (c+1) b)))else Uj T pm t (.tmp u) (some (.agg [a,b],s))
 |_,_,_=>Uj T pm t (.tmp u) (some (.agg [a,b],s))
theorem A8H(u:Tmp)(a b:D)(L:AJ)(c n m:Nat)(h:s.v u= .pe L c n m):Uj T pm t (.tmp u) (some (.agg [a,b],s))=sq1 T pm t u a b s (s.look pm L n m) c L:=by
 cases hl:s.look pm L n m with
 |none=>rfl
 |some o=>
  cases o<;>try rfl
  rename_i e xs
  simp only [sq1];split
  ·rename_i hc
   simp only [ED,beq_iff_eq,decide_eq_true_eq,Ik]at hc;obtain⟨⟨⟨⟨⟨⟨⟨⟨⟨hk,hs⟩,hw⟩,ha⟩,hb⟩,hz⟩,hl2⟩,ha2⟩,hb2⟩,hx2⟩:=hc;simp only [Uj,ev,h,GA,hl,D.asCells,D.isAgg,D.cells,D.withCells,hk,hs,hw,hz,MS,ha,hb,List.all_nil,Bool.and_self,MQ,PS,beq_self_eq_true,Gd,D.hasObj,Am,ha2,hb2,hx2,Bool.or_self,H5,if_false,C8];rw [if_pos (by simpa using hl2)]
  ·rfl
theorem A8I(u:Tmp)(a b:D)(L:AJ)(c n m:Nat)(h:s.v u= .pe L c n m):sw1 T pm t u [a,b] s (.pe L c n m)=sq1 T pm t u a b s (s.look pm L n m) c L:=by
 rw [←A8H u a b L c n m h];rfl
theorem Xj(k l:IntKind)(xs:Cz)(n:Nat)(a b:Int)(h:n<xs.length):((BG k l xs).set (n*2) (bk k a)).set (n*2+1) (bk l b)=BG k l (xs.set n (a,b)):=by
 rw [TD k l a xs n h,TE k l b _ n (by simpa using h),List.set_set]
 congr 2
 simp [BJ,Je,h]
theorem A8J(k l:IntKind)(u:Tmp)(a b:Int)(L:AJ)(e:ab)(n:Nat)(xs:Cz)(hk:T.known t=true)(hs:T.isStruct t=true)(hw:pm.wr (L.headD 0)=true)(hz:T.size t=2)(h:n<xs.length):
  sq1 T pm t u (.int k a) (.int l b) s (some (.own e (BG k l xs))) (n*2) L=some (s.set L (.own e (BG k l (xs.set n (a,b))))):=by
 simp only [sq1];rw [if_pos,Xj k l xs n a b h];simp only [hk,hs,hw,hz,Cn,Kq,OP,D.hasObj,ED,decide_eq_true_eq,beq_self_eq_true,Bool.not_false,and_true,true_and];omega
theorem Vx: ∀(xs:AX),TQ (AV (bk .i64) xs)=some xs
 | []=>rfl
 |x::xs=>by rw [Ie,TQ,Vx xs];rfl
theorem A11(xs:AX)(h':xs.length≤14∧14≤xs.length):Gz true 14 (.agg (AV (bk .i64) xs))=some xs:=by
 have h:xs.length=14:=by omega
 simp only [Gz,HV,h,and_self,if_true,Vx]
theorem A12(a0 a1 a2 a3 a4 a5 a6 a7 a8 a9 a10 a11 a12 a13:Int):Gz true 14 (.agg [.int .i64 a0,.int .i64 a1,.int .i64 a2,.int .i64 a3,.int .i64 a4,.int .i64 a5,.int .i64 a6,.int .i64 a7,.int .i64 a8,.int .i64 a9,.int .i64 a10,.int .i64 a11,.int .i64 a12,.int .i64 a13])=some [a0,a1,a2,a3,a4,a5,a6,a7,a8,a9,a10,a11,a12,a13]:=nr rfl
theorem csA(L:AJ)(xs:AX)(h':xs.length≤14∧14≤xs.length):cellsOf s L 0 14 (some (.box (AV (bk .i64) xs)))=some (.agg (AV (bk .i64) xs)):=by
 have h:xs.length=14:=by omega
 have e:((an 14).map fun i=>CJ s L (0+i) ((AV (bk .i64) xs).getD (0+i) .undef))=AV (bk .i64) xs:=by
  refine List.ext_getElem (by simp [HV,h]) (fun i h1 h2=> ?_)
  have hi:i<xs.length:=by rw [HV]at h2;exact h2
  simp only [List.getElem_map,List.getElem_range,Gx,QX _ xs i hi,CJ];simp [AV,hi]
 show(if 0+14≤(AV (bk .i64) xs).length then Ce (.agg ((an 14).map fun i=>CJ s L (0+i) ((AV (bk .i64) xs).getD (0+i) .undef)))else none)=_
 rw [if_pos (by rw [HV,h];omega),e]
 simp only [Ce,D.hasObj,ME (bk .i64) xs (fun _=>rfl)];rfl
theorem ndL{α:Type}(e:ab)(c:α→D)(xs:List α)(h:0<xs.length):MU pm s (.sl e (AV c xs))=some false:=by
 cases xs with
 |nil=>exact(Nat.lt_irrefl 0 h).elim
 |cons x xs=>rfl
end
set_option linter.defProp false
def A8K:=A7 @Xf (A7 @Vw (A7 @A8B (A7 @HV (A7 @vM (A7 @QX (A7 @YU (A7 @Zn (A7 @dH (A7 @dI (A7 @ME (A7 @iR (A7 @dK (A7 @Zm (A7 @TB (A7 @iV (A7 @YX (A7 @dM (A7 @Vv (A7 @dN (A7 (A7 @iT @QZ) (A7 @dL (A7 @iU (A7 @A8C @A8D)))))))))))))))))))))))
theorem tk2(a b:D)(l:List D):List.take 2 (a::b::l)=[a,b]:=nr rfl
theorem tk4(a b c d:D)(l:List D):List.take 4 (a::b::c::d::l)=[a,b,c,d]:=nr rfl
theorem A13{n m:Nat}(h:n<m):n*2<m*2:=by omega
theorem A14{n m:Nat}(h:n<m):n*2+1<m*2:=by omega
def xc2:=A7 (A7 @A11 (A7 @A12 (A7 @csA @ndL))) (A7 @Nat.add_zero (A7 @OQ (A7 @Xh (A7 @dQ (A7 @Xi (A7 @jq (A7 @A8E (A7 @Kq (A7 @OP (A7 @dO (A7 @Xg (A7 @dP (A7 @dR (A7 @A8F (A7 @A8G (A7 @A8I (A7 @tk2 (A7 @tk4 (A7 @A13 (A7 @A14 (A7 @TD (A7 @TE (A7 @List.length_set.{0} (@A8J))))))))))))))))))))))))
def A15:=A7 @implies_true.{1} (A7 @Option.bind_some.{0,0} (A7 @Option.map_some.{0,0} (A7 @Option.isSome_some.{0} (A7 @List.contains_cons.{0} (A7 @List.contains_nil.{0} (A7 @List.getD_cons_zero.{0} (A7 @List.getD_cons_succ.{0} (A7 @List.getD_nil.{0} (A7 @List.length_cons.{0} (A7 @List.length_nil.{0} (A7 @List.size_toArray.{0} (A7 @List.toList_toArray.{0} (A7 @List.zip_cons_cons.{0,0} (A7 @List.zip_nil_left.{0,0} (A7 @List.append_nil.{0} (A7 @List.nil_append.{0} (A7 @List.cons_append.{0} (A7 @List.map_cons.{0,0} (A7 @List.map_nil.{0,0} (A7 @List.replicate_succ.{0} (A7 @List.replicate_zero.{0} (A7 @List.set_cons_zero.{0} (A7 @List.set_cons_succ.{0} (A7 @List.set_set.{0} (A7 @List.all_cons.{0} (A7 @List.any_cons.{0} (A7 @List.any_nil.{0} (A7 @List.all_nil.{0} (A7 @List.getElem?_cons_zero.{0} (A7 @List.getElem?_cons_succ.{0} (A7 @List.getElem?_nil.{0} (@beq_self_eq_true.{0}))))))))))))))))))))))))))))))))
theorem Au:an 0=[]:=nr rfl
end Dv
namespace Dv
open Go
section
variable {σ ρ α β:Type}
theorem GN(f:σ→Option (σ⊕ρ))(st:Nat→σ): ∀(n:Nat) (r:ρ),(∀i,i<n→f (st i)=some (.inl (st (i+1))))→f (st n)=some (.inr r)→Jf f (st 0)=some r:=by
 intro n r h e
 have key: ∀k,k≤n→Jf f (st (n-k))=some r:=by
  intro k
  induction k with
  |zero=>intro _;exact U6 e
  |succ k ih=>
   intro hk;have h1:=h (n-(k+1)) (by omega)
   rw [YS h1,show n-(k+1)+1=n-k by omega]
   exact ih (by omega)
 have:=key n (GR _)
 rwa [Nat.sub_self]at this
end
theorem MF{n:Nat}{P:Nat→Bool}(h: ¬ ∀i,i<n→P i=true): ∃m,m<n∧P m=false∧ ∀i,i<m→P i=true:=by
 induction n with
 |zero=>exact absurd (fun i hi=>absurd hi (Nat.not_lt_zero _)) h
 |succ n ih=>
  by_cases hn: ∀i,i<n→P i=true
  ·refine⟨n,Nat.lt_succ_self _, ?_,hn⟩
   cases hp:P n with
   |false=>rfl
   |true=>exact absurd (fun i hi=>by rcases Nat.lt_succ_iff_lt_or_eq.1 hi with h1|rfl;exact hn i h1;exact hp) h
  ·obtain⟨m,h1,h2,h3⟩:=ih hn
   exact⟨m,by omega,h2,h3⟩
theorem CB{n:Nat}{P:Nat→Bool}:(an n).all P=true↔ ∀i,i<n→P i=true:=by
 simp [I6]
theorem dS{σ ρ:Type}(f:σ→Option (σ⊕ρ))(st:Nat→σ)(n:Nat)(P:Nat→Bool)(bad good:ρ)
  (h: ∀i,i<n→(∀j,j<i→P j=true)→f (st i)=if P i=true then some (.inl (st (i+1)))else some (.inr bad))(e:(∀j,j<n→P j=true)→f (st n)=some (.inr good)):Jf f (st 0)=some (if(an n).all P=true then good else bad):=by
 by_cases hp: ∀i,i<n→P i=true
 ·rw [if_pos (CB.2 hp)];refine GN f st n good (fun i hi=> ?_) (e hp);rw [h i hi (fun j hj=>hp j (by omega)),if_pos (hp i hi)]
 ·rw [if_neg (fun hc=>hp (CB.1 hc))];obtain⟨m,h1,h2,h3⟩:=MF hp;refine GN f st m bad (fun i hi=> ?_) ?_
  ·rw [h i (by omega) (fun j hj=>h3 j (by omega)),if_pos (h3 i hi)]
  ·rw [h m h1 h3,h2];rfl
theorem EO{σ ρ:Type}(f:σ→Option (σ⊕ρ))(st:Nat→σ)(n:Nat)(P:Nat→Bool)(bad good:ρ)
  (h: ∀i,i<n→f (st i)=if P i=true then some (.inl (st (i+1)))else some (.inr bad))(e:f (st n)=some (.inr good)):Jf f (st 0)=some (if(an n).all P=true then good else bad):=
 dS f st n P bad good (fun i hi _=>h i hi) (fun _=>e)
theorem Vy{α:Type}[Inhabited α](p:α→Bool)(xs:List α):(an xs.length).all (fun i=>p (xs.getD i bl))=xs.all p:=by
 rw [Bool.eq_iff_iff,CB,I6]
 constructor
 ·intro h x hx;obtain⟨i,hi,rfl⟩:=Ul hx;have:=h i hi
  rwa [Je,Fg hi]at this
 ·intro h i hi;rw [Je,Fg hi];exact h _ (KO hi)
theorem Qa{α:Type}[DecidableEq α][Inhabited α](a b:List α)(hl:a.length=b.length):(an a.length).all (fun i=>decide (a.getD i bl=b.getD i bl))=decide (a=b):=by
 by_cases he:a=b
 ·subst he;simp
 ·rw [decide_eq_false he,Gw];intro hc;rw [CB]at hc;refine he (List.ext_getElem hl fun i h1 h2=> ?_);have:=hc i h1
  rw [Je,Je,Fg h1,Fg h2]at this;simpa using this
theorem Nr(i:Nat)(h:i<4611686018427387904):IntKind.i64.wrap ((i:Int)+1)=((i+1:Nat):Int):=by
 rw [Oj _ (by omega)];rfl
theorem BL{α:Type}[Inhabited α](xs:List α)(i:Nat)(h:i<xs.length):xs.getD i bl=xs[i]:=by
 rw [Je,Fg h];rfl
theorem Gr{α:Type}[Inhabited α](xs:List α)(i:Nat)(h:i<xs.length):xs.getD (i:Int).toNat bl=xs[i]:=by
 rw [Fj];exact BL xs i h
theorem Ch{α:Type}{c:Prop}[Decidable c]{o:Option α}(h:c):ck c o=o:=if_pos h
theorem D8{i n:Nat}(h:i<n):(i:Int)<(n:Int):=by omega
theorem BK(n:Nat): ¬(n:Int)<(n:Int):=by omega
theorem Gs{i n:Nat}(h:i<n):0≤(i:Int)∧(i:Int).toNat<n:=by omega
end Dv
namespace Dv
open Go
def TF(x:Int×Int):List D:=[bk .i64 x.1,bk .i64 x.2]
def dU(xs:Cz):Prop:=xs.length≤maxLen∧ ∀x∈xs,fq x.1∧fq x.2
def Xk(xss:BN):Prop:=xss.length≤maxLen∧ ∀xs∈xss,dU xs
section
variable {T:Tys} {t e a:ab} {d:D}
theorem iW{ds:List D}(he:T.ty e= .struct [a,a])(ha:T.ty a= .int .i64)(h:Shp T e ds): ∃x:Int×Int,ds=TF x∧fq x.1∧fq x.2:=by
 obtain⟨hl,hx⟩:=T9 he h;rcases ds with _|⟨d0,_|⟨d1,_|⟨_,_⟩⟩⟩<;>simp at hl
 obtain⟨p,h0,hl0⟩:=Nq ha (hx 0 a d0 rfl rfl);obtain⟨q,h1,hl1⟩:=Nq ha (hx 1 a d1 rfl rfl);simp only [List.cons.injEq,and_true]at h0 h1;subst h0 h1
 exact⟨(p,q),rfl,hl0,hl1⟩
theorem dV{ds:List D}(ht:T.ty t= .slice e)(he:T.ty e= .struct [a,a])(ha:T.ty a= .int .i64)(h:Shp T t ds): ∃xs,ds=[.sl e (RN TF xs)]∧dU xs:=by
 obtain⟨xss,rfl,hx,hl⟩:=QV ht h
 have: ∀xss:List (List D),(∀xs,xs∈xss→Shp T e xs)→ ∃ys,xss.flatten=RN TF ys∧ys.length=xss.length∧ ∀y∈ys,fq y.1∧fq y.2:=by
  intro xss
  induction xss with
  |nil=>intro _;exact⟨[],rfl,rfl,by simp⟩
  |cons xs xss ih=>
   intro hx;obtain⟨n,rfl,hn⟩:=iW he ha (hx xs (JJ));obtain⟨ys,h1,h2,h3⟩:=ih (fun q hq=>hx q (Hw _ hq))
   refine⟨n::ys,by rw [Wl,h1];rfl,by simp [h2],fun y hy=> ?_⟩
   rcases M4.1 hy with rfl|hy
   ·exact hn
   ·exact h3 y hy
 obtain⟨ys,h1,h2,h3⟩:=this xss hx
 exact⟨ys,by rw [h1],by omega,h3⟩
theorem Zt{e2:ab}{ds:List D}(ht:T.ty t= .slice e)(he:T.ty e= .slice e2)(he2:T.ty e2= .struct [a,a])(ha:T.ty a= .int .i64)(h:Shp T t ds): ∃xss,ds=[.sl e (AV (fun x=> .sl e2 (RN TF x)) xss)]∧Xk xss:=by
 obtain⟨xss,rfl,hx,hl⟩:=QV ht h
 have: ∀xss:List (List D),(∀xs,xs∈xss→Shp T e xs)→ ∃ys,xss.flatten=AV (fun x=> .sl e2 (RN TF x)) ys∧ys.length=xss.length∧ ∀y∈ys,dU y:=by
  intro xss
  induction xss with
  |nil=>intro _;exact⟨[],rfl,rfl,by simp⟩
  |cons xs xss ih=>
   intro hx;obtain⟨n,rfl,hn⟩:=dV he he2 ha (hx xs (JJ));obtain⟨ys,h1,h2,h3⟩:=ih (fun q hq=>hx q (Hw _ hq))
   refine⟨n::ys,by rw [Wl,h1];rfl,by simp [h2],fun y hy=> ?_⟩
   rcases M4.1 hy with rfl|hy
   ·exact hn
   ·exact h3 y hy
 obtain⟨ys,h1,h2,h3⟩:=this xss hx
 exact⟨ys,by rw [h1],by omega,h3⟩
theorem Xl{b c e2:ab}(ht:T.ty t= .struct [b,c,c])(hb:T.ty b= .slice e)(he:T.ty e= .slice e2)(he2:T.ty e2= .struct [a,a])(ha:T.ty a= .int .i64)(hc:T.ty c= .slice a)(h:xk T t d):
  ∃es is js,d= .agg [.sl e (AV (fun x=> .sl e2 (RN TF x)) es),.sl a (Fz is),.sl a (Fz js)]∧Xk es∧vE is∧vE js:=by
 obtain⟨ds,rfl,hl,hx⟩:=TA ht h;rcases ds with _|⟨d0,_|⟨d1,_|⟨d2,_|⟨_,_⟩⟩⟩⟩<;>simp at hl
 obtain⟨es,h0,hl0⟩:=Zt hb he he2 ha (hx 0 b d0 rfl rfl);obtain⟨is,h1,hl1⟩:=U4 hc ha (hx 1 c d1 rfl rfl);obtain⟨js,h2,hl2⟩:=U4 hc ha (hx 2 c d2 rfl rfl);simp only [List.cons.injEq,and_true]at h0 h1 h2;subst h0 h1 h2
 exact⟨es,is,js,rfl,hl0,hl1,hl2⟩
end
end Dv
