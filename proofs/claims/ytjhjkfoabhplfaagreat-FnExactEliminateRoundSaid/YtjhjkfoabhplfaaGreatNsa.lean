/- Sets that complete choices, and full lists, as plain functions. Conditions: those in each lemma. -/
import Derived.Test.YtjhjkfoabhplfaaGreatL6
import Derived.Test.YtjhjkfoabhplfaaGreatEmu
import Derived.Test.YtjhjkfoabhplfaaGreatChc
import Derived.Test.YtjhjkfoabhplfaaGreatBit
import Derived.Test.YtjhjkfoabhplfaaGreatEsb
namespace Go.Proofs.YtjhjkfoabhplfaaGreat
open Go Dv
set_option linter.unusedSimpArgs false
set_option linter.unusedVariables false
set_option maxRecDepth 100000
theorem Rb(x a:Nat):Ea (x:Int) a=x.testBit a:=by
 unfold Ea;rw [Nat.testBit_eq_decide_div_mod_eq];have e:(2:Int) ^ a=((2 ^ a:Nat):Int):=by norm_cast
 rw [e,←Int.natCast_ediv];generalize x / 2 ^ a=q;by_cases c:q % 2=1
 ·rw [decide_eq_true c,decide_eq_true (by omega)]
 ·rw [decide_eq_false c,decide_eq_false (by omega)]
theorem A3L(x y:Nat)(hx:x<256)(hy:y<256):Lv .and .i64 (x:Int) (y:Int)=((x &&& y:Nat):Int):=by
 have hxy:x &&& y≤x:=Nat.and_le_left;show IntKind.i64.wrap (((BitVec.ofInt 64 (x:Int) &&& BitVec.ofInt 64 (y:Int):BitVec 64).toNat:Nat):Int)=_
 have e1:BitVec.ofInt 64 (x:Int)=BitVec.ofNat 64 x:=by simp
 have e2:BitVec.ofInt 64 (y:Int)=BitVec.ofNat 64 y:=by simp
 rw [e1,e2,BitVec.toNat_and,BitVec.toNat_ofNat,BitVec.toNat_ofNat,Nat.mod_eq_of_lt (by omega),Nat.mod_eq_of_lt (by omega),Db _ (by omega)]
theorem A1q(n:Nat): ∀(x:Int),0≤x→x<2 ^ n→Az (Ea x) n=x:=by
 intro x h0 h1;have hr:=Eh (Ea x) n;obtain⟨a,rfl⟩: ∃a:Nat,x=(a:Int):=⟨x.toNat,by omega⟩
 obtain⟨b,hb⟩: ∃b:Nat,Az (Ea (a:Int)) n=(b:Int):=⟨(Az (Ea (a:Int)) n).toNat,by omega⟩
 have h2: ∀i,Ea (Az (Ea (a:Int)) n) i=(decide (i<n)&&Ea (a:Int) i):=Tj _ n;rw [hb]at h2 ⊢;have e:(2:Int) ^ n=((2 ^ n:Nat):Int):=by norm_cast
 rw [e]at h1;have ha:a<2 ^ n:=by omega
 congr 1
 refine Nat.eq_of_testBit_eq fun i=> ?_;rw [←Rb b i,h2 i,Rb];by_cases c:i<n
 ·rw [decide_eq_true c,Bool.true_and]
 ·rw [decide_eq_false c,Bool.false_and]
  exact(Nat.testBit_lt_two_pow (gD ha (qJ (by omega) (by omega)))).symm
theorem Dq{p q:Nat→Bool}: ∀ {n:Nat},(∀a,a<n→p a=q a)→Az p n=Az q n
 |0,_=>rfl
 |n+1,h=>by unfold Az;rw [Dq fun a ha=>h a (by omega),h n (by omega)]
theorem fQ(p:Nat→Bool)(n:Nat)(hn:n≤8):Az p n<256:=by
 have h:=Eh p n;have h2:(2:Int) ^ n≤2 ^ 8:=I1 hn;have e:(2:Int) ^ 8=256:=by decide
 omega
theorem pV(p q:Nat→Bool)(n:Nat)(hn:n≤8):Lv .and .i64 (Az p n) (Az q n)=Az (fun a=>p a&&q a) n:=by
 have h1:=Eh p n;have h2:=Eh q n;have l1:=fQ p n hn;have l2:=fQ q n hn;obtain⟨a,ha⟩: ∃a:Nat,Az p n=(a:Int):=⟨(Az p n).toNat,by omega⟩
 obtain⟨b,hb⟩: ∃b:Nat,Az q n=(b:Int):=⟨(Az q n).toNat,by omega⟩
 have p1:=Tj p n;have p2:=Tj q n;rw [ha]at p1 h1 l1 ⊢;rw [hb]at p2 h2 l2 ⊢;have hab:a &&& b≤a:=Nat.and_le_left;have e:(2:Int) ^ n=((2 ^ n:Nat):Int):=by norm_cast
 rw [A3L a b (by omega) (by omega),←A1q n ((a &&& b:Nat):Int) (by omega) (by rw [e]at h1 ⊢;omega)]
 refine Dq fun i hi=> ?_;have q1:=p1 i;have q2:=p2 i;rw [Rb,decide_eq_true hi,Bool.true_and]at q1 q2;rw [Rb,Nat.testBit_and,q1,q2]
theorem fT: ∀n,Az (fun _=>true) n=2 ^ n-1
 |0=>by simp [Az]
 |n+1=>by unfold Az;rw [fT n,if_pos rfl,Int.pow_succ];omega
theorem fU{p:Nat→Bool}{n:Nat}(h:Az p n=0): ∀a,a<n→p a=false:=fun a ha=>by
 have:=Tj p n a
 rw [h,decide_eq_true ha,Bool.true_and]at this;rw [←this]
 exact(by unfold Ea;simp:Ea 0 a=false)
theorem pW{s:Int}{n:Nat}(h0:0≤s)(h1:s<2 ^ n)(hn:n≤8):AR s 8=AR s n:=(fG s n 8 h0 hn (qD h0 h1)).symm
def WJ(good:AA→Bool):AL→AA→Bool
 | [],c=>good c
 |L::Ls,c=>L.all fun a=>WJ good Ls (c++[a])
theorem YQ(good:AA→Bool): ∀(Ls:AL) (c:AA),WJ good Ls c=true↔ ∀d,vI d Ls→good (c++d)=true
 | [],c=>by
  unfold WJ
  constructor
  ·intro h d hd
   cases d with
   |nil=>rwa [O6]
   |cons a d=>exact hd.elim
  ·intro h;have:=h [] trivial;rwa [O6]at this
 |L::Ls,c=>by
  unfold WJ;rw [JR]
  constructor
  ·intro h d hd
   cases d with
   |nil=>exact hd.elim
   |cons a d=>
    have:=(YQ good Ls (c++[a])).1 (h a hd.1) d hd.2
    rwa [Tv]at this
  ·intro h a ha
   refine(YQ good Ls (c++[a])).2 fun d hd=> ?_
   have:=h (a::d) ⟨ha,hd⟩
   rwa [Tv]
theorem yA{Ls Ls':AL}(h:Ls.Perm Ls'): ∀d',vI d' Ls'→ ∃d,vI d Ls∧d.Perm d':=by
 induction h with
 |nil=>intro d' hd;exact⟨d',hd,List.Perm.refl _⟩
 |cons x _ ih=>
  intro d' hd
  cases d' with
  |nil=>exact hd.elim
  |cons a d'=>
   obtain⟨d,h1,h2⟩:=ih d' hd.2
   exact⟨a::d,⟨hd.1,h1⟩,h2.cons a⟩
 |swap x y l=>
  intro d' hd
  match d',hd with
  |a::b::d',hd=>exact⟨b::a::d',⟨hd.2.1,hd.1,hd.2.2⟩,List.Perm.swap a b d'⟩
  | [a],hd=>exact hd.2.elim
  | [],hd=>exact hd.elim
 |trans _ _ ih1 ih2=>
  intro d' hd;obtain⟨d,h1,h2⟩:=ih2 d' hd;obtain⟨e,h3,h4⟩:=ih1 d h1
  exact⟨e,h3,h4.trans h2⟩
theorem A1r{good:AA→Bool}(hg: ∀c d,c.Perm d→good c=good d){Ls Ls':AL}(h:Ls.Perm Ls'):WJ good Ls []=WJ good Ls' []:=by
 have key: ∀ {A B:AL},A.Perm B→WJ good A []=true→WJ good B []=true:=fun {A B} hp ha=>by
  refine(YQ good B []).2 fun d hd=> ?_
  obtain⟨e,h1,h2⟩:=yA hp d hd;have:=(YQ good A []).1 ha e h1
  rw [R5]at this ⊢;rw [←hg e d h2];exact this
 cases ha:WJ good Ls []with
 |true=>rw [key h ha]
 |false=>
  cases hb:WJ good Ls' []with
  |false=>rfl
  |true=>rw [key h.symm hb]at ha;cases ha
theorem UK{c d:AA}(h:c.Perm d):Bt c=Bt d:=by
 refine List.Perm.eq_of_pairwise (le:=fun a b:Int=>a≤b) (fun a b _ _ h1 h2=>by omega) (Uk c) (Uk d) ((PI c).trans (h.trans (PI d).symm))
def Jt(ns:AL)(n:Nat)(sets:AA):Int:=Az (fun b=>WJ (fun c=>ns.contains (Bt (c++[(b:Int)]))) (sets.map fun s=>AR s 8) []) n
theorem Tq(ns:AL)(n:Nat)(sets:AA):0≤Jt ns n sets∧Jt ns n sets<2 ^ n:=Eh _ n
theorem uH(ns:AL)(n:Nat){s t:AA}(h:s.Perm t):Jt ns n s=Jt ns n t:=
 Dq fun b _=>A1r (fun c d hcd=>by rw [UK (hcd.append_right [(b:Int)])]) (h.map _)
def yB(ns:AL)(n:Nat)(l:AA):Prop:= ∀i (h:i<l.length),Jt ns n (l.eraseIdx i)=l[i]
theorem yB.perm{ns:AL}{n:Nat}{l l':AA}(h:yB ns n l)(hp:l.Perm l'):yB ns n l':=fun i hi=>by
 have hm:l'[i]∈l:=hp.mem_iff.2 (FT hi);obtain⟨j,hj,e⟩:=UO hm;have h1:(l[j]::l.eraseIdx j).Perm (l'[i]::l'.eraseIdx i):=(aX l j hj).trans (hp.trans (aX l' i hi).symm);rw [e]at h1;rw [←uH ns n ((List.perm_cons _).1 h1),h j hj,e]
abbrev Ndc(l:AA):Prop:=l.Pairwise fun a b=>a≤b
theorem lG{x:AA}{a:Int}(h0: ∀y∈x,0≤y)(ha:0≤a):Ndc (x++[a])↔Ndc x∧CW x≤a:=by
 unfold Ndc;rw [List.pairwise_append]
 constructor
 ·rintro⟨h1,_,h3⟩
  refine⟨h1, ?_⟩
  unfold CW;split
  ·rw [AX _ _ (by omega)]
   exact h3 _ (FT _) a (by simp)
  ·exact ha
 ·rintro⟨h1,h2⟩
  refine⟨h1,List.pairwise_singleton _ _,fun y hy b hb=> ?_⟩
  rw [UQ.1 hb];obtain⟨j,hj,rfl⟩:=UO hy
  have h3:x[j]≤CW x:=by
   unfold CW;rw [if_pos (by omega),AX _ _ (by omega)]
   by_cases e:j=x.length-1
   ·subst e;exact Int.le_refl _
   ·exact(WK.1 h1) j (x.length-1) hj (by omega) (by omega)
  omega
theorem IU(n:Int): ∀(k:Nat) (x:AA),x∈AY n k↔x.length=k∧Ndc x∧ ∀y∈x,0≤y∧y<n
 |0,x=>by
  simp only [AY,UQ]
  constructor
  ·rintro rfl;exact⟨rfl,List.Pairwise.nil,fun y hy=>by cases hy⟩
  ·rintro⟨h,_⟩;exact qC h
 |k+1,x=>by
  simp only [AY,List.mem_flatMap,ext,Fq,Lt]
  constructor
  ·rintro⟨y,hy,j,hj,rfl⟩
   obtain⟨h1,h2,h3⟩:=(IU n k y).1 hy;have h0: ∀z∈y,0≤z:=fun z hz=>(h3 z hz).1;have hl:=L6 h0
   refine⟨by simp [h1],(lG h0 (by omega)).2 ⟨h2,by omega⟩,fun z hz=> ?_⟩
   rcases PW.1 hz with hz|hz
   ·exact h3 z hz
   ·rw [UQ.1 hz];omega
  ·rintro⟨h1,h2,h3⟩
   have hne:x≠[]:=fun e=>by rw [e]at h1;cases h1
   have ex:=(List.dropLast_concat_getLast hne).symm;generalize hy:x.dropLast=y at ex;generalize ha:x.getLast hne=a at ex;subst ex;have h0: ∀z∈y,0≤z:=fun z hz=>(h3 z (by simp [hz])).1
   have ha0:=h3 a (by simp)
   obtain⟨q1,q2⟩:=(lG h0 ha0.1).1 h2;have hl:=L6 h0
   refine⟨y,(IU n k y).2 ⟨by simpa using h1,q1,fun z hz=>h3 z (by simp [hz])⟩,(a-CW y).toNat,by omega, ?_⟩
   congr 2
   omega
end Go.Proofs.YtjhjkfoabhplfaaGreat
