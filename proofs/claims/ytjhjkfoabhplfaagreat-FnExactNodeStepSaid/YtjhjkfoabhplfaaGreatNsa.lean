/- Sets that complete choices, and full lists, as plain functions. Conditions: those in each lemma. -/
import Derived.Test.YtjhjkfoabhplfaaGreatL6
import Derived.Test.YtjhjkfoabhplfaaGreatEmu
import Derived.Test.YtjhjkfoabhplfaaGreatChc
import Derived.Test.YtjhjkfoabhplfaaGreatBit
import Derived.Test.YtjhjkfoabhplfaaGreatEsb
namespace Go.Proofs.YtjhjkfoabhplfaaGreat
open Go Dv
set_option linter.unusedSimpArgs false
set_option linter.unusedVariables false
set_option maxRecDepth 100000
theorem QJ(x a:Nat):EQ (x:Int) a=x.testBit a:=by
 unfold EQ;rw [Nat.testBit_eq_decide_div_mod_eq];have e:(2:Int) ^ a=((2 ^ a:Nat):Int):=by norm_cast
 rw [e,←Int.natCast_ediv];generalize x / 2 ^ a=q;by_cases c:q % 2=1
 ·rw [decide_eq_true c,decide_eq_true (by omega)]
 ·rw [decide_eq_false c,decide_eq_false (by omega)]
theorem A0o(x y:Nat)(hx:x<256)(hy:y<256):Kj .and .i64 (x:Int) (y:Int)=((x &&& y:Nat):Int):=by
 have hxy:x &&& y≤x:=Nat.and_le_left;show IntKind.i64.wrap (((BitVec.ofInt 64 (x:Int) &&& BitVec.ofInt 64 (y:Int):BitVec 64).toNat:Nat):Int)=_
 have e1:BitVec.ofInt 64 (x:Int)=BitVec.ofNat 64 x:=by simp
 have e2:BitVec.ofInt 64 (y:Int)=BitVec.ofNat 64 y:=by simp
 rw [e1,e2,BitVec.toNat_and,BitVec.toNat_ofNat,BitVec.toNat_ofNat,Nat.mod_eq_of_lt (by omega),Nat.mod_eq_of_lt (by omega),Dw _ (by omega)]
theorem yz(n:Nat): ∀(x:Int),0≤x→x<2 ^ n→BQ (EQ x) n=x:=by
 intro x h0 h1;have hr:=Gr (EQ x) n;obtain⟨a,rfl⟩: ∃a:Nat,x=(a:Int):=⟨x.toNat,by omega⟩
 obtain⟨b,hb⟩: ∃b:Nat,BQ (EQ (a:Int)) n=(b:Int):=⟨(BQ (EQ (a:Int)) n).toNat,by omega⟩
 have h2: ∀i,EQ (BQ (EQ (a:Int)) n) i=(decide (i<n)&&EQ (a:Int) i):=Rq _ n;rw [hb]at h2 ⊢;have e:(2:Int) ^ n=((2 ^ n:Nat):Int):=by norm_cast
 rw [e]at h1;have ha:a<2 ^ n:=by omega
 congr 1
 refine Nat.eq_of_testBit_eq fun i=> ?_;rw [←QJ b i,h2 i,QJ];by_cases c:i<n
 ·rw [decide_eq_true c,Bool.true_and]
 ·rw [decide_eq_false c,Bool.false_and]
  exact(Nat.testBit_lt_two_pow (aT ha (qF (by omega) (by omega)))).symm
theorem Dk{p q:Nat→Bool}: ∀ {n:Nat},(∀a,a<n→p a=q a)→BQ p n=BQ q n
 | 0,_=>rfl
 | n+1,h=>by unfold BQ;rw [Dk fun a ha=>h a (by omega),h n (by omega)]
theorem aK(p:Nat→Bool)(n:Nat)(hn:n≤8):BQ p n<256:=by
 have h:=Gr p n;have h2:(2:Int) ^ n≤2 ^ 8:=Kn hn;have e:(2:Int) ^ 8=256:=by decide
 omega
theorem kK(p q:Nat→Bool)(n:Nat)(hn:n≤8):Kj .and .i64 (BQ p n) (BQ q n)=BQ (fun a=>p a&&q a) n:=by
 have h1:=Gr p n;have h2:=Gr q n;have l1:=aK p n hn;have l2:=aK q n hn;obtain⟨a,ha⟩: ∃a:Nat,BQ p n=(a:Int):=⟨(BQ p n).toNat,by omega⟩
 obtain⟨b,hb⟩: ∃b:Nat,BQ q n=(b:Int):=⟨(BQ q n).toNat,by omega⟩
 have p1:=Rq p n;have p2:=Rq q n;rw [ha]at p1 h1 l1 ⊢;rw [hb]at p2 h2 l2 ⊢;have hab:a &&& b≤a:=Nat.and_le_left;have e:(2:Int) ^ n=((2 ^ n:Nat):Int):=by norm_cast
 rw [A0o a b (by omega) (by omega),←yz n ((a &&& b:Nat):Int) (by omega) (by rw [e]at h1 ⊢;omega)]
 refine Dk fun i hi=> ?_;have q1:=p1 i;have q2:=p2 i;rw [QJ,decide_eq_true hi,Bool.true_and]at q1 q2;rw [QJ,Nat.testBit_and,q1,q2]
theorem aL: ∀n,BQ (fun _=>true) n=2 ^ n-1
 | 0=>by simp [BQ]
 | n+1=>by unfold BQ;rw [aL n,if_pos rfl,Int.pow_succ];omega
theorem aM{p:Nat→Bool}{n:Nat}(h:BQ p n=0): ∀a,a<n→p a=false:=fun a ha=>by
 have:=Rq p n a
 rw [h,decide_eq_true ha,Bool.true_and]at this;rw [←this]
 exact(by unfold EQ;simp:EQ 0 a=false)
theorem kL{s:Int}{n:Nat}(h0:0≤s)(h1:s<2 ^ n)(hn:n≤8):AU s 8=AU s n:=(aF s n 8 h0 hn (kV h0 h1)).symm
def Ue(good:List Int→Bool):List (List Int)→List Int→Bool
 | [],c=>good c
 | L::Ls,c=>L.all fun a=>Ue good Ls (c++[a])
theorem Wl(good:List Int→Bool): ∀(Ls:List (List Int)) (c:List Int),Ue good Ls c=true↔ ∀d,pU d Ls→good (c++d)=true
 | [],c=>by
  unfold Ue
  constructor
  ·intro h d hd
   cases d with
   | nil=>rwa [Oj]
   | cons a d=>exact hd.elim
  ·intro h;have:=h [] trivial;rwa [Oj]at this
 | L::Ls,c=>by
  unfold Ue;rw [Iw]
  constructor
  ·intro h d hd
   cases d with
   | nil=>exact hd.elim
   | cons a d=>
    have:=(Wl good Ls (c++[a])).1 (h a hd.1) d hd.2
    rwa [Ry]at this
  ·intro h a ha
   refine(Wl good Ls (c++[a])).2 fun d hd=> ?_
   have:=h (a::d) ⟨ha,hd⟩
   rwa [Ry]
theorem tZ{Ls Ls':List (List Int)}(h:Ls.Perm Ls'): ∀d',pU d' Ls'→ ∃d,pU d Ls∧d.Perm d':=by
 induction h with
 | nil=>intro d' hd;exact⟨d',hd,List.Perm.refl _⟩
 | cons x _ ih=>
  intro d' hd
  cases d' with
  | nil=>exact hd.elim
  | cons a d'=>
   obtain⟨d,h1,h2⟩:=ih d' hd.2
   exact⟨a::d,⟨hd.1,h1⟩,h2.cons a⟩
 | swap x y l=>
  intro d' hd
  match d',hd with
  | a::b::d',hd=>exact⟨b::a::d',⟨hd.2.1,hd.1,hd.2.2⟩,List.Perm.swap a b d'⟩
  | [a],hd=>exact hd.2.elim
  | [],hd=>exact hd.elim
 | trans _ _ ih1 ih2=>
  intro d' hd;obtain⟨d,h1,h2⟩:=ih2 d' hd;obtain⟨e,h3,h4⟩:=ih1 d h1
  exact⟨e,h3,h4.trans h2⟩
theorem z8{good:List Int→Bool}(hg: ∀c d,c.Perm d→good c=good d){Ls Ls':List (List Int)}(h:Ls.Perm Ls'):Ue good Ls []=Ue good Ls' []:=by
 have key: ∀ {A B:List (List Int)},A.Perm B→Ue good A []=true→Ue good B []=true:=fun {A B} hp ha=>by
  refine(Wl good B []).2 fun d hd=> ?_
  obtain⟨e,h1,h2⟩:=tZ hp d hd;have:=(Wl good A []).1 ha e h1
  rw [QV]at this ⊢;rw [←hg e d h2];exact this
 cases ha:Ue good Ls []with
 | true=>rw [key h ha]
 | false=>
  cases hb:Ue good Ls' []with
  | false=>rfl
  | true=>rw [key h.symm hb]at ha;cases ha
theorem Sb{c d:List Int}(h:c.Perm d):Bn c=Bn d:=by
 refine List.Perm.eq_of_pairwise (le:=fun a b:Int=>a≤b) (fun a b _ _ h1 h2=>by omega) (TG c) (TG d) ((Nw c).trans (h.trans (Nw d).symm))
def JJ(ns:List (List Int))(n:Nat)(sets:List Int):Int:=BQ (fun b=>Ue (fun c=>ns.contains (Bn (c++[(b:Int)]))) (sets.map fun s=>AU s 8) []) n
theorem Ru(ns:List (List Int))(n:Nat)(sets:List Int):0≤JJ ns n sets∧JJ ns n sets<2 ^ n:=Gr _ n
theorem nk(ns:List (List Int))(n:Nat){s t:List Int}(h:s.Perm t):JJ ns n s=JJ ns n t:=
 Dk fun b _=>z8 (fun c d hcd=>by rw [Sb (hcd.append_right [(b:Int)])]) (h.map _)
def tq(ns:List (List Int))(n:Nat)(l:List Int):Prop:= ∀i (h:i<l.length),JJ ns n (l.eraseIdx i)=l[i]
theorem tq.perm{ns:List (List Int)}{n:Nat}{l l':List Int}(h:tq ns n l)(hp:l.Perm l'):tq ns n l':=fun i hi=>by
 have hm:l'[i]∈l:=hp.mem_iff.2 (FE hi);obtain⟨j,hj,e⟩:=Sj hm;have h1:(l[j]::l.eraseIdx j).Perm (l'[i]::l'.eraseIdx i):=(YT l j hj).trans (hp.trans (YT l' i hi).symm);rw [e]at h1;rw [←nk ns n ((List.perm_cons _).1 h1),h j hj,e]
abbrev zA(l:List Int):Prop:=l.Pairwise fun a b=>a≤b
theorem gI{x:List Int}{a:Int}(h0: ∀y∈x,0≤y)(ha:0≤a):zA (x++[a])↔zA x∧CU x≤a:=by
 unfold zA;rw [List.pairwise_append]
 constructor
 ·rintro⟨h1,_,h3⟩
  refine⟨h1, ?_⟩
  unfold CU;split
  ·rw [AV _ _ (by omega)]
   exact h3 _ (FE _) a (by simp)
  ·exact ha
 ·rintro⟨h1,h2⟩
  refine⟨h1,List.pairwise_singleton _ _,fun y hy b hb=> ?_⟩
  rw [TR.1 hb];obtain⟨j,hj,rfl⟩:=Sj hy
  have h3:x[j]≤CU x:=by
   unfold CU;rw [if_pos (by omega),AV _ _ (by omega)]
   by_cases e:j=x.length-1
   ·subst e;exact Int.le_refl _
   ·exact(Vu.1 h1) j (x.length-1) hj (by omega) (by omega)
  omega
theorem Hg(n:Int): ∀(k:Nat) (x:List Int),x∈AZ n k↔x.length=k∧zA x∧ ∀y∈x,0≤y∧y<n
 | 0,x=>by
  simp only [AZ,TR]
  constructor
  ·rintro rfl;exact⟨rfl,List.Pairwise.nil,fun y hy=>by cases hy⟩
  ·rintro⟨h,_⟩;exact kU h
 | k+1,x=>by
  simp only [AZ,List.mem_flatMap,ext,GV,Mx]
  constructor
  ·rintro⟨y,hy,j,hj,rfl⟩
   obtain⟨h1,h2,h3⟩:=(Hg n k y).1 hy;have h0: ∀z∈y,0≤z:=fun z hz=>(h3 z hz).1;have hl:=KO h0
   refine⟨by simp [h1],(gI h0 (by omega)).2 ⟨h2,by omega⟩,fun z hz=> ?_⟩
   rcases OB.1 hz with hz | hz
   ·exact h3 z hz
   ·rw [TR.1 hz];omega
  ·rintro⟨h1,h2,h3⟩
   have hne:x≠[]:=fun e=>by rw [e]at h1;cases h1
   have ex:=(List.dropLast_concat_getLast hne).symm;generalize hy:x.dropLast=y at ex;generalize ha:x.getLast hne=a at ex;subst ex;have h0: ∀z∈y,0≤z:=fun z hz=>(h3 z (by simp [hz])).1
   have ha0:=h3 a (by simp)
   obtain⟨q1,q2⟩:=(gI h0 ha0.1).1 h2;have hl:=KO h0
   refine⟨y,(Hg n k y).2 ⟨by simpa using h1,q1,fun z hz=>h3 z (by simp [hz])⟩,(a-CU y).toNat,by omega, ?_⟩
   congr 2
   omega
end Go.Proofs.YtjhjkfoabhplfaaGreat
