/- Sets that complete choices, and full lists, as plain functions. Conditions: those in each lemma. -/
import Derived.Test.YtjhjkfoabhplfaaGreatL6
import Derived.Test.YtjhjkfoabhplfaaGreatEmu
import Derived.Test.YtjhjkfoabhplfaaGreatChc
import Derived.Test.YtjhjkfoabhplfaaGreatBit
import Derived.Test.YtjhjkfoabhplfaaGreatEsb
namespace Go.Proofs.YtjhjkfoabhplfaaGreat
open Go Dv
set_option linter.unusedSimpArgs false
set_option linter.unusedVariables false
set_option maxRecDepth 100000
theorem R8(x a:Nat):FB (x:Int) a=x.testBit a:=by
 unfold FB;rw [Nat.testBit_eq_decide_div_mod_eq];have e:(2:Int) ^ a=((2 ^ a:Nat):Int):=by norm_cast
 rw [e,←Int.natCast_ediv];generalize x / 2 ^ a=q;by_cases c:q % 2=1
 ·rw [decide_eq_true c,decide_eq_true (by omega)]
 ·rw [decide_eq_false c,decide_eq_false (by omega)]
theorem A1a(x y:Nat)(hx:x<256)(hy:y<256):Ml .and .i64 (x:Int) (y:Int)=((x &&& y:Nat):Int):=by
 have hxy:x &&& y≤x:=Nat.and_le_left;show IntKind.i64.wrap (((BitVec.ofInt 64 (x:Int) &&& BitVec.ofInt 64 (y:Int):BitVec 64).toNat:Nat):Int)=_
 have e1:BitVec.ofInt 64 (x:Int)=BitVec.ofNat 64 x:=by simp
 have e2:BitVec.ofInt 64 (y:Int)=BitVec.ofNat 64 y:=by simp
 rw [e1,e2,BitVec.toNat_and,BitVec.toNat_ofNat,BitVec.toNat_ofNat,Nat.mod_eq_of_lt (by omega),Nat.mod_eq_of_lt (by omega),Ec _ (by omega)]
theorem A02(n:Nat): ∀(x:Int),0≤x→x<2 ^ n→Bz (FB x) n=x:=by
 intro x h0 h1;have hr:=IR (FB x) n;obtain⟨a,rfl⟩: ∃a:Nat,x=(a:Int):=⟨x.toNat,by omega⟩
 obtain⟨b,hb⟩: ∃b:Nat,Bz (FB (a:Int)) n=(b:Int):=⟨(Bz (FB (a:Int)) n).toNat,by omega⟩
 have h2: ∀i,FB (Bz (FB (a:Int)) n) i=(decide (i<n)&&FB (a:Int) i):=TC _ n;rw [hb]at h2 ⊢;have e:(2:Int) ^ n=((2 ^ n:Nat):Int):=by norm_cast
 rw [e]at h1;have ha:a<2 ^ n:=by omega
 congr 1
 refine Nat.eq_of_testBit_eq fun i=> ?_;rw [←R8 b i,h2 i,R8];by_cases c:i<n
 ·rw [decide_eq_true c,Bool.true_and]
 ·rw [decide_eq_false c,Bool.false_and]
  exact(Nat.testBit_lt_two_pow (dJ ha (sG (by omega) (by omega)))).symm
theorem ES{p q:Nat→Bool}: ∀ {n:Nat},(∀a,a<n→p a=q a)→Bz p n=Bz q n
 |0,_=>rfl
 |n+1,h=>by unfold Bz;rw [ES fun a ha=>h a (by omega),h n (by omega)]
theorem dA(p:Nat→Bool)(n:Nat)(hn:n≤8):Bz p n<256:=by
 have h:=IR p n;have h2:(2:Int) ^ n≤2 ^ 8:=Lu hn;have e:(2:Int) ^ 8=256:=by decide
 omega
theorem mO(p q:Nat→Bool)(n:Nat)(hn:n≤8):Ml .and .i64 (Bz p n) (Bz q n)=Bz (fun a=>p a&&q a) n:=by
 have h1:=IR p n;have h2:=IR q n;have l1:=dA p n hn;have l2:=dA q n hn;obtain⟨a,ha⟩: ∃a:Nat,Bz p n=(a:Int):=⟨(Bz p n).toNat,by omega⟩
 obtain⟨b,hb⟩: ∃b:Nat,Bz q n=(b:Int):=⟨(Bz q n).toNat,by omega⟩
 have p1:=TC p n;have p2:=TC q n;rw [ha]at p1 h1 l1 ⊢;rw [hb]at p2 h2 l2 ⊢;have hab:a &&& b≤a:=Nat.and_le_left;have e:(2:Int) ^ n=((2 ^ n:Nat):Int):=by norm_cast
 rw [A1a a b (by omega) (by omega),←A02 n ((a &&& b:Nat):Int) (by omega) (by rw [e]at h1 ⊢;omega)]
 refine ES fun i hi=> ?_;have q1:=p1 i;have q2:=p2 i;rw [R8,decide_eq_true hi,Bool.true_and]at q1 q2;rw [R8,Nat.testBit_and,q1,q2]
theorem dB: ∀n,Bz (fun _=>true) n=2 ^ n-1
 |0=>by simp [Bz]
 |n+1=>by unfold Bz;rw [dB n,if_pos rfl,Int.pow_succ];omega
theorem dC{p:Nat→Bool}{n:Nat}(h:Bz p n=0): ∀a,a<n→p a=false:=fun a ha=>by
 have:=TC p n a
 rw [h,decide_eq_true ha,Bool.true_and]at this;rw [←this]
 exact(by unfold FB;simp:FB 0 a=false)
theorem mP{s:Int}{n:Nat}(h0:0≤s)(h1:s<2 ^ n)(hn:n≤8):Ae s 8=Ae s n:=(cO s n 8 h0 hn (ma h0 h1)).symm
def VY(good:AL→Bool):AO→AL→Bool
 | [],c=>good c
 |L::Ls,c=>L.all fun a=>VY good Ls (c++[a])
theorem Xi(good:AL→Bool): ∀(Ls:AO) (c:AL),VY good Ls c=true↔ ∀d,rR d Ls→good (c++d)=true
 | [],c=>by
  unfold VY
  constructor
  ·intro h d hd
   cases d with
   |nil=>rwa [Pv]
   |cons a d=>exact hd.elim
  ·intro h;have:=h [] trivial;rwa [Pv]at this
 |L::Ls,c=>by
  unfold VY;rw [Jr]
  constructor
  ·intro h d hd
   cases d with
   |nil=>exact hd.elim
   |cons a d=>
    have:=(Xi good Ls (c++[a])).1 (h a hd.1) d hd.2
    rwa [TJ]at this
  ·intro h a ha
   refine(Xi good Ls (c++[a])).2 fun d hd=> ?_
   have:=h (a::d) ⟨ha,hd⟩
   rwa [TJ]
theorem vN{Ls Ls':AO}(h:Ls.Perm Ls'): ∀d',rR d' Ls'→ ∃d,rR d Ls∧d.Perm d':=by
 induction h with
 |nil=>intro d' hd;exact⟨d',hd,List.Perm.refl _⟩
 |cons x _ ih=>
  intro d' hd
  cases d' with
  |nil=>exact hd.elim
  |cons a d'=>
   obtain⟨d,h1,h2⟩:=ih d' hd.2
   exact⟨a::d,⟨hd.1,h1⟩,h2.cons a⟩
 |swap x y l=>
  intro d' hd
  match d',hd with
  |a::b::d',hd=>exact⟨b::a::d',⟨hd.2.1,hd.1,hd.2.2⟩,List.Perm.swap a b d'⟩
  | [a],hd=>exact hd.2.elim
  | [],hd=>exact hd.elim
 |trans _ _ ih1 ih2=>
  intro d' hd;obtain⟨d,h1,h2⟩:=ih2 d' hd;obtain⟨e,h3,h4⟩:=ih1 d h1
  exact⟨e,h3,h4.trans h2⟩
theorem A03{good:AL→Bool}(hg: ∀c d,c.Perm d→good c=good d){Ls Ls':AO}(h:Ls.Perm Ls'):VY good Ls []=VY good Ls' []:=by
 have key: ∀ {A B:AO},A.Perm B→VY good A []=true→VY good B []=true:=fun {A B} hp ha=>by
  refine(Xi good B []).2 fun d hd=> ?_
  obtain⟨e,h1,h2⟩:=vN hp d hd;have:=(Xi good A []).1 ha e h1
  rw [RP]at this ⊢;rw [←hg e d h2];exact this
 cases ha:VY good Ls []with
 |true=>rw [key h ha]
 |false=>
  cases hb:VY good Ls' []with
  |false=>rfl
  |true=>rw [key h.symm hb]at ha;cases ha
theorem Tj{c d:AL}(h:c.Perm d):CY c=CY d:=by
 refine List.Perm.eq_of_pairwise (le:=fun a b:Int=>a≤b) (fun a b _ _ h1 h2=>by omega) (UD c) (UD d) ((Oy c).trans (h.trans (Oy d).symm))
def KE(ns:AO)(n:Nat)(sets:AL):Int:=Bz (fun b=>VY (fun c=>ns.contains (CY (c++[(b:Int)]))) (sets.map fun s=>Ae s 8) []) n
theorem TF(ns:AO)(n:Nat)(sets:AL):0≤KE ns n sets∧KE ns n sets<2 ^ n:=IR _ n
theorem qO(ns:AO)(n:Nat){s t:AL}(h:s.Perm t):KE ns n s=KE ns n t:=
 ES fun b _=>A03 (fun c d hcd=>by rw [Tj (hcd.append_right [(b:Int)])]) (h.map _)
def vO(ns:AO)(n:Nat)(l:AL):Prop:= ∀i (h:i<l.length),KE ns n (l.eraseIdx i)=l[i]
theorem vO.perm{ns:AO}{n:Nat}{l l':AL}(h:vO ns n l)(hp:l.Perm l'):vO ns n l':=fun i hi=>by
 have hm:l'[i]∈l:=hp.mem_iff.2 (GG hi);obtain⟨j,hj,e⟩:=Tt hm;have h1:(l[j]::l.eraseIdx j).Perm (l'[i]::l'.eraseIdx i):=(ZT l j hj).trans (hp.trans (ZT l' i hi).symm);rw [e]at h1;rw [←qO ns n ((List.perm_cons _).1 h1),h j hj,e]
abbrev Ndc(l:AL):Prop:=l.Pairwise fun a b=>a≤b
theorem jG{x:AL}{a:Int}(h0: ∀y∈x,0≤y)(ha:0≤a):Ndc (x++[a])↔Ndc x∧Cy x≤a:=by
 unfold Ndc;rw [List.pairwise_append]
 constructor
 ·rintro⟨h1,_,h3⟩
  refine⟨h1, ?_⟩
  unfold Cy;split
  ·rw [Af _ _ (by omega)]
   exact h3 _ (GG _) a (by simp)
  ·exact ha
 ·rintro⟨h1,h2⟩
  refine⟨h1,List.pairwise_singleton _ _,fun y hy b hb=> ?_⟩
  rw [UO.1 hb];obtain⟨j,hj,rfl⟩:=Tt hy
  have h3:x[j]≤Cy x:=by
   unfold Cy;rw [if_pos (by omega),Af _ _ (by omega)]
   by_cases e:j=x.length-1
   ·subst e;exact Int.le_refl _
   ·exact(X4.1 h1) j (x.length-1) hj (by omega) (by omega)
  omega
theorem Ip(n:Int): ∀(k:Nat) (x:AL),x∈Aj n k↔x.length=k∧Ndc x∧ ∀y∈x,0≤y∧y<n
 |0,x=>by
  simp only [Aj,UO]
  constructor
  ·rintro rfl;exact⟨rfl,List.Pairwise.nil,fun y hy=>by cases hy⟩
  ·rintro⟨h,_⟩;exact mZ h
 |k+1,x=>by
  simp only [Aj,List.mem_flatMap,ext,I1,O7]
  constructor
  ·rintro⟨y,hy,j,hj,rfl⟩
   obtain⟨h1,h2,h3⟩:=(Ip n k y).1 hy;have h0: ∀z∈y,0≤z:=fun z hz=>(h3 z hz).1;have hl:=LV h0
   refine⟨by simp [h1],(jG h0 (by omega)).2 ⟨h2,by omega⟩,fun z hz=> ?_⟩
   rcases PN.1 hz with hz|hz
   ·exact h3 z hz
   ·rw [UO.1 hz];omega
  ·rintro⟨h1,h2,h3⟩
   have hne:x≠[]:=fun e=>by rw [e]at h1;cases h1
   have ex:=(List.dropLast_concat_getLast hne).symm;generalize hy:x.dropLast=y at ex;generalize ha:x.getLast hne=a at ex;subst ex;have h0: ∀z∈y,0≤z:=fun z hz=>(h3 z (by simp [hz])).1
   have ha0:=h3 a (by simp)
   obtain⟨q1,q2⟩:=(jG h0 ha0.1).1 h2;have hl:=LV h0
   refine⟨y,(Ip n k y).2 ⟨by simpa using h1,q1,fun z hz=>h3 z (by simp [hz])⟩,(a-Cy y).toNat,by omega, ?_⟩
   congr 2
   omega
end Go.Proofs.YtjhjkfoabhplfaaGreat
