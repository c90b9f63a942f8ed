/- Functions of the program as plain functions, and what they compute. Conditions: those in each lemma. -/
import Derived.Test.YtiehjihckndgkaaGreatL6
import Derived.Test.YtiehjihckndgkaaGreatCnp
import Derived.Test.YtiehjihckndgkaaGreatDt
import Derived.Test.YtiehjihckndgkaaGreatDstA
open Inhabited renaming default → be
open List renaming range → ao,replicate → ap,any_eq_false → cc,countP_append → cf,countP_singleton → cg,countP_le_length → cj,getElem_set → cm,take_take → co,take_of_length_le → ct,getD_cons_succ → cv,map_replicate → cw,mem_append_left → cx,mem_append_right → cy
open Go.IntKind renaming i64 → bm
open Int renaming pow_pos → ce,tdiv_eq_ediv_of_nonneg → cr
open Classical renaming byContradiction → cq
noncomputable section
namespace Go.Proofs.YtiehjihckndgkaaGreat
open Go Dv
set_option linter.unusedSimpArgs false
set_option linter.unusedVariables false
set_option maxRecDepth 100000
theorem iZ(a b:Int):Kh a b=some (Rx a b):=by
 unfold Kh Rx
 split<;>split<;>first|rfl|(congr 1;omega)
theorem Ux(a b:Nat):J7 (Df a) (Df b)=some (Df (a+b)):=by
 have h1:=LF a;have h2:=LF b;unfold J7;rw [GG _ (by omega),iZ,A8B];rfl
theorem xG(a b:Nat)(h0:a≠0):((1000000000001:Int).tdiv (Df a)<Df b→Df (a*b)=1000000000001)∧(¬(1000000000001:Int).tdiv (Df a)<Df b→Df a*Df b≤1000000000001∧Df (a*b)=Df a*Df b):=by
 have h1:=LF a;have h2:=LF b;have hp:0<Df a:=by have:=N8 a;omega
 rw [cr (by decide)]
 constructor
 ·intro h;have:=(Int.ediv_lt_iff_lt_mul hp).1 h
  rw [Int.mul_comm]at this;exact ZT a b (by omega)
 ·intro h;have:=(Int.le_ediv_iff_mul_le hp).1 (Int.not_lt.1 h)
  rw [Int.mul_comm]at this
  refine⟨this, ?_⟩
  by_cases c:Df a*Df b<1000000000001
  ·exact(A8D a b c).symm
  ·rw [ZT a b (by omega)];omega
theorem A5z(a:Nat)(h0:a≠0):0≤(1000000000001:Int).tdiv (Df a)∧(1000000000001:Int).tdiv (Df a)≤1000000000001:=by
 have h1:=LF a;rw [cr (by decide)]
 exact⟨Int.ediv_nonneg (by decide) h1.1,Int.ediv_le_self _ (by decide)⟩
theorem Vw(a b:Nat):IG (Df a) (Df b)=some (Df (a*b)):=by
 have h1:=LF a;have h2:=LF b;unfold IG;by_cases h0:a=0
 ·subst h0;have hz:Df 0=0:=(N8 0).2 rfl;rw [hz,if_neg (by decide),Int.zero_mul,iZ,Nat.zero_mul,hz];rfl
 ·obtain⟨c1,c2⟩:=xG a b h0;have hd:=A5z a h0;have hz:Df a≠0:=fun e=>h0 ((N8 a).1 e);rw [if_pos (by omega),BC hz,GG _ (by omega)]
  by_cases c:(1000000000001:Int).tdiv (Df a)<Df b
  ·rw [if_pos c,c1 c]
  ·obtain⟨c3,c4⟩:=c2 c;have hn:0≤Df a*Df b:=Int.mul_nonneg h1.1 h2.1;rw [if_neg c,GG _ (by omega),iZ,CB,c4]
   unfold Rx;rw [if_neg (by omega)]
theorem A2d{α:Type}(l:List α)(a:α)(f:α→Nat):Qq (l++[a]) f=Qq l f+f a:=by simp [Qq]
structure RelW(n:Nat)(i a:Int)(Ws:List (Int→Nat))(ways:AX):Prop where
 len:ways.length=Ws.length
 at_: ∀k,(hk:k<Ws.length)→(k:Int)≠i→(ways.getD k be).length=n∧ ∀b:Nat,b<n→(ways.getD k be).getD b be=Df (Ws[k] (b:Int))
 one: ∀k,(hk:k<Ws.length)→(k:Int)=i→ ∀b:Int,Ws[k] b=if b=a then 1 else 0
theorem mg{n:Nat}{i a:Int}{Ws:List (Int→Nat)}{ways:AX}(h:RelW n i a Ws ways)(hl:Ws.length≤6): ∀(m k fuel:Nat) (x:AO),m+k=Ws.length→x.length=m→m<fuel→(∀y∈x,0≤y∧y<n)→FV fuel x ways (k:Int) i a=some (Df (T9 (Ws.drop k) x))
 |0,k,0,x,_,_,hf,_=>by omega
 |0,k,fuel+1,x,hk,hx,_,_=>by
  have hwl:=h.len;show MC (FV fuel) x ways (k:Int) i a=_
  unfold MC;rw [if_pos (by omega),List.drop_of_length_le (by omega)];rfl
 |m+1,k,0,x,_,_,hf,_=>by omega
 |m+1,k,fuel+1,x,hk,hx,hf,hr=>by
  have hwl:=h.len;have hkl:k<Ws.length:=by omega
  have hd:Ws.drop k=Ws[k]::Ws.drop (k+1):=ZY hkl;show MC (FV fuel) x ways (k:Int) i a=_
  unfold MC Qj;rw [if_neg (by omega),hd]
  have key:=Bn (fun v=>Jg (FV fuel) x ways (k:Int) i a v.1 v.2) (fun j=>(Df (Ej j fun j=>if 0<j∧x.getD (j-1) be=x.getD j be then 0 else Ws[k] (x.getD j be)*T9 (Ws.drop (k+1)) (x.eraseIdx j)),(j:Int))) x.length (Df (T9 (Ws[k]::Ws.drop (k+1)) x)) ?_ ?_
  ·have e0:Df (Ej 0 fun j=>if 0<j∧x.getD (j-1) be=x.getD j be then 0 else Ws[k] (x.getD j be)*T9 (Ws.drop (k+1)) (x.eraseIdx j))=0:=(N8 _).2 rfl
   rw [e0,EW]at key;rw [key];rfl
  ·intro j hj;have hrj:=hr _ (NA hj);have hgj:x.getD j be=x[j]:=Ac _ _ hj;have e1:bm.wrap ((j:Int)+1)=((j+1:Nat):Int):=Gc j (by omega)
   have e2:bm.wrap ((k:Int)+1)=((k+1:Nat):Int):=Gc k (by omega)
   have er:(x.take j).drop 0++(x.take x.length).drop (j+1)=x.eraseIdx j:=by
    rw [WC,uM,List.eraseIdx_eq_take_drop_succ]
   have lt1:(x.take j).length≤x.length:=by rw [VQ];omega
   have lt2:(x.drop (j+1)).length≤x.length:=by rw [List.length_drop];omega
   have hrec:=mg h hl m (k+1) fuel (x.eraseIdx j) (by omega) (by rw [List.length_eraseIdx_of_lt hj];omega) (by omega) (fun y hm=>hr y (List.mem_of_mem_eraseIdx hm))
   have go: ∀(M:Int),M=Df (Ws[k] (x.getD j be))→ ¬(0<j∧x.getD (j-1) be=x.getD j be)→(ck (0≤(j:Int))<|ck (j≤x.length)<|(KZ ((x.take j).drop 0)).bind fun EL=>ck (0≤((j+1:Nat):Int))<|ck (j+1≤x.length)<|ck (EL.length+((x.take x.length).drop (j+1)).length<1099511627776)<|(FV fuel (EL++((x.take x.length).drop (j+1))) ways ((k+1:Nat):Int) i a).bind fun UW=>(IG M UW).bind fun UX=>(J7 (Df (Ej j fun j=>if 0<j∧x.getD (j-1) be=x.getD j be then 0 else Ws[k] (x.getD j be)*T9 (Ws.drop (k+1)) (x.eraseIdx j))) UX).bind fun Yc=>(some (Sum.inl (Yc,((j+1:Nat):Int))):Option ((Int×Int)⊕Int)))=
     some (Sum.inl (Df (Ej (j+1) fun j=>if 0<j∧x.getD (j-1) be=x.getD j be then 0 else Ws[k] (x.getD j be)*T9 (Ws.drop (k+1)) (x.eraseIdx j)),((j+1:Nat):Int))):=by
    intro M hM hnd;unfold KZ;rw [BC (by omega),BC (by omega),BC (by rw [WC];omega),CB,BC (by omega),BC (by omega),BC (by rw [WC,uM];omega),er,hrec,CB,hM,Vw,CB,Ux,CB,EU,if_neg hnd]
   have skip:(if 0<j∧x.getD (j-1) be=x.getD j be then 0 else Ws[k] (x.getD j be)*T9 (Ws.drop (k+1)) (x.eraseIdx j))=0→Df (Ej (j+1) fun j=>if 0<j∧x.getD (j-1) be=x.getD j be then 0 else Ws[k] (x.getD j be)*T9 (Ws.drop (k+1)) (x.eraseIdx j))=Df (Ej j fun j=>if 0<j∧x.getD (j-1) be=x.getD j be then 0 else Ws[k] (x.getD j be)*T9 (Ws.drop (k+1)) (x.eraseIdx j)):=by
    intro h0;rw [EU,h0,Nat.add_zero]
   simp only [Jg,Cq,e1,e2];rw [if_pos (BU hj),BC (by omega)]
   by_cases ci:(k:Int)=i
   ·have hone:=h.one k hkl ci (x.getD j be);rw [if_pos ci];by_cases ca:a=x.getD j be
    ·rw [if_pos ca];have hM:(1:Int)=Df (Ws[k] (x.getD j be)):=by rw [hone,if_pos ca.symm];rfl
     by_cases c0:0<j
     ·have e3:bm.wrap ((j:Int)-1)=((j-1:Nat):Int):=by rw [GG _ (by omega)];omega
      rw [if_pos (by omega),e3,Cq,BC (by omega)]
      by_cases cd:x.getD (j-1) be=x.getD j be
      ·rw [if_pos cd,skip (if_pos ⟨c0,cd⟩)]
      ·rw [if_neg cd,go 1 hM (fun q=>cd q.2)]
     ·rw [if_neg (by omega),go 1 hM (fun q=>c0 q.1)]
    ·rw [if_neg ca,skip ?_];have hz:Ws[k] (x.getD j be)=0:=by rw [hone,if_neg (fun e=>ca e.symm)]
     rw [hz,Nat.zero_mul,ite_self]
   ·obtain⟨hwn,hwat⟩:=h.at_ k hkl ci
    have hM:(ways.getD k be).getD (x.getD j be).toNat be=Df (Ws[k] (x.getD j be)):=by
     have:=hwat (x.getD j be).toNat (by omega)
     rwa [show(((x.getD j be).toNat:Nat):Int)=x.getD j be by omega]at this
    rw [if_neg ci,BC (by omega),BC (by omega)]
    by_cases cz:(ways.getD k be).getD (x.getD j be).toNat be=0
    ·rw [if_pos cz,skip ?_];rw [hM]at cz;rw [(N8 _).1 cz,Nat.zero_mul]
     split<;>rfl
    ·rw [if_neg cz];by_cases c0:0<j
     ·have e3:bm.wrap ((j:Int)-1)=((j-1:Nat):Int):=by rw [GG _ (by omega)];omega
      rw [if_pos (by omega),e3,Cq,BC (by omega)]
      by_cases cd:x.getD (j-1) be=x.getD j be
      ·rw [if_pos cd,skip (if_pos ⟨c0,cd⟩)]
      ·rw [if_neg cd,go _ hM (fun q=>cd q.2)]
     ·rw [if_neg (by omega),go _ hM (fun q=>c0 q.1)]
  ·simp only [Jg];rw [if_neg (Am _)];rfl
def gdC(ns:AX)(c:AO):Nat:=if ns.contains (Hm c)=true then 1 else 0
theorem A8F{ns:AX}(hn:ns.Nodup)(hs: ∀x∈ns,x.Pairwise fun a b=>a≤b)(c:AO):gdC ns c=Qq ns fun x=>UZ x c:=by
 have huniq: ∀x∈ns,(c.Perm x↔x=Hm c):=fun x hx=>⟨fun hp=>List.Perm.eq_of_pairwise (le:=fun a b:Int=>a≤b) (fun a b _ _ h1 h2=>Int.le_antisymm h1 h2) (hs x hx) (SY c) (hp.symm.trans (M8 c).symm),fun e=>by rw [e];exact(M8 c).symm⟩
 unfold gdC;by_cases hc:ns.contains (Hm c)=true
 ·have hm:=TU.1 hc;rw [if_pos hc,A5w hn hm fun x hx hne=> ?_]
  ·unfold UZ;rw [if_pos ((huniq _ hm).2 rfl)]
  ·unfold UZ;rw [if_neg fun hp=>hne ((huniq x hx).1 hp)]
 ·rw [if_neg hc,mZ fun x hx=> ?_];unfold UZ;rw [if_neg fun hp=>hc (TU.2 (((huniq x hx).1 hp)▸hx))]
theorem A2e{n:Nat}{i a:Int}{Ws:List (Int→Nat)}{ways ns:AX}(es:AX)(L:Int)(h:RelW n i a Ws ways)(hl:Ws.length≤6)(hn:ns.Nodup)(hnl:ns.length<1099511627776)(hs: ∀x∈ns,x.Pairwise fun a b=>a≤b)(hc: ∀x∈ns,x.length=Ws.length∧ ∀y∈x,0≤y∧y<n):
  Oz L (Ws.length:Int) ns es ways i a=some (Df (MK n (gdC ns) Ws [])):=by
 have hwl:=h.len
 have htot:MK n (gdC ns) Ws []=Qq ns fun x=>T9 Ws x:=by
  have e1:MK n (gdC ns) Ws []=MK n (fun c=>Qq ns fun x=>UZ x c) Ws []:=Vv Ws [] fun d _=>A8F hn hs _;rw [e1,xE]
  have: ∀l:AX,(∀x∈l,x∈ns)→(Qq l fun x=>MK n (UZ x) Ws [])=Qq l fun x=>T9 Ws x:=by
   intro l
   induction l with
   |nil=>intro _;rfl
   |cons x l ih=>
    intro hm;have hx:=hm x Gu;have:=A5y Ws x [] (hc x hx).1 (hs x hx) (hc x hx).2
    rw [PO]at this;rw [NN,NN,this,ih fun y hy=>hm y (PL _ hy)]
  exact this ns fun _ h=>h
 unfold Oz Su;rw [if_pos (by omega),htot]
 have key:=Bn (fun v=>L8 ns ways i a v.1 v.2) (fun k=>(Df (Qq (ns.take k) fun x=>T9 Ws x),(k:Int))) ns.length (Df (Qq ns fun x=>T9 Ws x)) ?_ ?_
 ·have e0:Df (Qq (ns.take 0) fun x=>T9 Ws x)=0:=(N8 _).2 rfl;rw [e0,EW]at key;rw [key];rfl
 ·intro k hk;have hx:=hc _ (NA hk);have hw:=mg h hl Ws.length 0 1000000 ns[k] (by omega) hx.1 (by omega) hx.2
  rw [EW,WC]at hw;simp only [L8,Cq,Ac _ _ hk];unfold iO;rw [if_pos (BU hk),BC (by omega),hw,CB,Ux,CB,Gc k (by omega)]
  rw [bI hk,A2d]
 ·simp only [L8];rw [if_neg (Am _),uM]
def CQ(set:Int)(a:Nat):Bool:=decide (set / 2 ^ a % 2=1)
theorem mh{a b:Nat}(h:a≤b):(2:Int) ^ a≤2 ^ b:=by
 have:=Nat.pow_le_pow_right (n:=2) (by decide) h
 exact_mod_cast this
theorem A2f(set:Int)(a:Nat)(ha:a≤64):set.fdiv (2 ^ (min a bm.bits))=set / 2 ^ a:=by
 have:min a bm.bits=a:=by show min a 64=a;omega
 rw [this,A33 _ (Int.pow_nonneg (by decide))]
theorem Ua(set:Int)(a:Nat)(h:0≤set):0≤set / 2 ^ a:=Int.ediv_nonneg h (Int.pow_nonneg (by decide))
def Yo(set:Int)(n:Nat):AO:=((ao n).filter (CQ set)).map fun(a:Nat)=>(a:Int)
theorem A8G: ∀x:Fin 256,G9 .and .i64 (x.val:Int) 1=(x.val:Int) % 2:=by decide+kernel
theorem A60(x:Int)(h:0≤x∧x≤255):G9 .and .i64 x 1=x % 2:=by
 have:=A8G ⟨x.toNat,by omega⟩
 simp only at this;rwa [show((x.toNat:Nat):Int)=x by omega]at this
theorem A16(set:Int)(a:Nat)(h:0≤set):set / 2 ^ a≤set:=by
 have:(1:Int)≤2 ^ a:=by
  have:=Nat.one_le_two_pow (n:=a)
  exact_mod_cast this
 exact Int.ediv_le_self _ h
theorem Xg{set:Int}{n:Nat}{x:Int}:x∈Yo set n↔ ∃a:Nat,x=(a:Int)∧a<n∧CQ set a=true:=by
 unfold Yo;rw [MI]
 constructor
 ·rintro⟨a,ha,rfl⟩
  rw [nN,Fa]at ha
  exact⟨a,rfl,ha.1,ha.2⟩
 ·rintro⟨a,rfl,h1,h2⟩
  exact⟨a,nN.2 ⟨Fa.2 h1,h2⟩,rfl⟩
theorem mo(mask:Int)(a:Nat)(h:0≤mask∧mask≤255)(ha:a≤8):UO mask (a:Int)=some (CQ mask a):=by
 have loop:Px (mask,(a:Int))=some (mask / 2 ^ a):=by
  unfold Px;have key:=Bn (fun v=>Km v.1 v.2) (fun k=>(mask / 2 ^ k,((a-k:Nat):Int))) a (mask / 2 ^ a) ?_ ?_
  ·simpa using key
  ·intro k hk;have h0:=Ua mask k h.1;have h1:=Int.le_trans (A16 mask k h.1) h.2;simp only [Km];rw [if_pos (by omega),cr h0,GG _ (by omega),GG _ (by omega),Int.pow_succ,←Int.ediv_ediv_of_nonneg (Int.pow_nonneg (by decide))]
   congr 3
   omega
  ·simp only [Km];rw [if_neg (by omega)]
 unfold UO bC;rw [loop,CB,CB,Int.tmod_eq_emod_of_nonneg (Ua mask a h.1)];rfl
structure RelM(Ls:AX)(masks:AO):Prop where
 len:masks.length=Ls.length
 rng: ∀k,k<masks.length→0≤masks.getD k be∧masks.getD k be≤255
 has: ∀k a:Nat,k<masks.length→a<8→CQ (masks.getD k be) a=(Ls.getD k be).contains (a:Int)
theorem ib{α:Type}(p:α→Bool): ∀l:List α,(l.all fun c=> !p c)= !(l.any p)
 | []=>rfl
 |a::l=>by rw [Xw,List.any_cons,ib p l];cases p a<;>rfl
theorem A17{ns:AX}(Ls:AX)(hs: ∀c∈ns,c.Pairwise fun a b=>a≤b):chc (fun c=>ns.contains (Hm c)) Ls []=ns.any (plc Ls):=by
 rw [V7,bD,Zb]
 constructor
 ·rintro⟨d,h1,h2⟩
  rw [PO]at h2;have h2:=TU.1 h2
  exact⟨_,h2,(bE Ls _).2 ⟨d,h1,(M8 d).symm⟩⟩
 ·rintro⟨c,hc,h⟩
  obtain⟨d,h1,h2⟩:=(bE Ls c).1 h
  refine⟨d,h1, ?_⟩
  rw [PO];have:Hm d=c:=List.Perm.eq_of_pairwise (le:=fun a b:Int=>a≤b) (fun a b _ _ h1 h2=>Int.le_antisymm h1 h2) (SY d) (hs c hc) ((M8 d).trans h2)
  rw [this];exact TU.2 hc
theorem sU(m:Int)(b:Nat)(h:0≤m∧m≤255)(hb:b≤64):G9 .and .i64 (m.fdiv (2 ^ (min b bm.bits))) 1=m / 2 ^ b % 2:=by
 rw [A2f m b hb,A60 _ ⟨Ua m b h.1,Int.le_trans (A16 m b h.1) h.2⟩]
def Rj(row:AO)(n i:Nat)(a:Int):AX:=(row.map fun m=>Yo m n).set i [a]
theorem Rk(row:AO)(n i:Nat)(a:Int):(Rj row n i a).length=row.length:=by simp [Rj]
theorem Xh{row:AO}{n i:Nat}{a:Int}{k:Nat}(hk:k<row.length):(Rj row n i a)[k]'(by rw [Rk];exact hk)=if i=k then [a]else Yo (row.getD k be) n:=by
 unfold Rj;rw [cm];by_cases e:i=k
 ·rw [if_pos e,if_pos e]
 ·rw [if_neg e,if_neg e,PM,Ac _ _ hk]
def gdN(ns:AX)(c:AO):Bool:=ns.contains (Hm c)
theorem Yp{n D v i:Nat}{a:Int}{ns es:AX}{en:Ad}{ids inp:AO}{M:AX}{row:AO}(hn:n≤8)(hD:D≤4)(hv:v<M.length)(hrow:M.getD v be=row)(hl:row.length=D)
  (hr: ∀k,k<D→0≤row.getD k be∧row.getD k be≤255)(hns:BQ ns)(hinc:TK ns=true)(hi:i<D):
  ∀(m k fuel:Nat) (o:AO),m+k=D→o.length=D→o.getD i be=a→m<fuel→ ∃o',BM fuel (k:Int) o (n:Int) (D:Int) ns es en ids inp M (i:Int) (v:Int)=some (chc (gdN ns) ((Rj row n i a).drop k) (o.take k),o')∧o'.length=D∧o'.take k=o.take k∧o'.getD i be=a
 |0,k,0,o,_,_,_,hf=>by omega
 |0,k,fuel+1,o,hk,ho,ha,_=>by
  refine⟨o, ?_,ho,rfl,ha⟩
  show Bw (BM fuel) (k:Int) o (n:Int) (D:Int) ns es en ids inp M (i:Int) (v:Int)=_
  have hfl:=Rk row n i a;unfold Bw;rw [if_pos (by omega),List.drop_of_length_le (by omega),ct (by omega)]
  unfold Mi;rw [BC hns,BC (by omega),BC hinc];rfl
 |m+1,k,0,o,_,_,_,hf=>by omega
 |m+1,k,fuel+1,o,hk,ho,ha,hf=>by
  have hkl:k<row.length:=by omega
  have hfl:=Rk row n i a;have hd:(Rj row n i a).drop k=(Rj row n i a)[k]'(by omega)::(Rj row n i a).drop (k+1):=ZY (by omega)
  rw [Xh hkl]at hd;show ∃o',Bw (BM fuel) (k:Int) o (n:Int) (D:Int) ns es en ids inp M (i:Int) (v:Int)=_∧_
  unfold Bw;rw [if_neg (by omega)]
  by_cases e:i=k
  ·subst e;obtain⟨o2,g1,g2,g3,g4⟩:=Yp (a:=a) (es:=es) (en:=en) (ids:=ids) (inp:=inp) hn hD hv hrow hl hr hns hinc hi m (i+1) fuel o (by omega) ho ha (by omega)
   rw [if_pos rfl,hd,if_pos rfl,Gc i (by omega),g1,CB]
   have et:o.take (i+1)=o.take i++[a]:=by
    have hoa:o[i]'(by omega)=a:=by rw [←Ac _ _ (by omega:i<o.length)];exact ha
    rw [bI (by omega),hoa]
   refine⟨o2, ?_,g2, ?_,g4⟩
   ·rw [et];simp only [chc,List.any_cons,List.any_nil,Bool.or_false]
   ·have:=congrArg (List.take i) g3
    rw [co,co,Nat.min_eq_left (by omega)]at this
    exact this
  ·rw [if_neg (by omega),hd,if_neg e]
   have hrk:=hr k (by omega)
   have key:=SL (fun v1=>CY (BM fuel) (k:Int) (n:Int) (D:Int) ns es en ids inp M (i:Int) (v:Int) v1.1 v1.2)
    (fun q s=> ∃b:Nat,q=n-b∧b≤n∧s.1=(b:Int)∧s.2.length=D∧s.2.take k=o.take k∧s.2.getD i be=a∧ ∀j:Nat,j<b→CQ (row.getD k be) j=true→chc (gdN ns) ((Rj row n i a).drop (k+1)) (o.take k++[(j:Int)])=false)
    (fun r=> ∃o',(r= .inl o'∧chc (gdN ns) (Yo (row.getD k be) n::(Rj row n i a).drop (k+1)) (o.take k)=true∨r= .inr o'∧chc (gdN ns) (Yo (row.getD k be) n::(Rj row n i a).drop (k+1)) (o.take k)=false)∧o'.length=D∧o'.take k=o.take k∧o'.getD i be=a) ?_ n ((0:Int),o) ⟨0,rfl,by omega,rfl,ho,rfl,ha,fun j hj=>by omega⟩
   ·obtain⟨r,hr',o',h1,h2,h3,h4⟩:=key
    refine⟨o', ?_,h2,h3,h4⟩
    have hr2:Db (BM fuel) (k:Int) (n:Int) (D:Int) ns es en ids inp M (i:Int) (v:Int) (0,o)=some r:=hr';rw [hr2,CB];rcases h1 with⟨rfl,e⟩|⟨rfl,e⟩<;>rw [e]
   ·rintro q ⟨b',o1⟩ ⟨b,hq,hb,eb,h1,h2,h5,h3⟩
    dsimp only at eb h1 h2 h5;subst eb;simp only [CY,Cq,hrow];by_cases c:b<n
    ·rw [if_pos (by omega),BC (by omega),BC (by omega),BC (by omega),sU _ b hrk (by omega),Gc b (by omega)]
     by_cases hb1:row.getD k be / 2 ^ b % 2=1
     ·have hhas:CQ (row.getD k be) b=true:=decide_eq_true hb1;rw [if_pos hb1,BC (by omega),Gc k (by omega)]
      obtain⟨o2,g1,g2,g3,g4⟩:=Yp (a:=a) (es:=es) (en:=en) (ids:=ids) (inp:=inp) hn hD hv hrow hl hr hns hinc hi m (k+1) fuel (o1.set k (b:Int)) (by omega) (by rw [Jy];exact h1) (by rw [LQ,A1K (by omega),←LQ];exact h5) (by omega)
      have et:(o1.set k (b:Int)).take (k+1)=o.take k++[(b:Int)]:=by
       rw [bI (by rw [Jy];omega),uI,List.take_set_of_le (Cc _),h2]
      rw [et]at g1 g3
      have g5:o2.take k=o.take k:=by
       have:=congrArg (List.take k) g3
       rw [co,Nat.min_eq_left (by omega)]at this
       rw [this,List.take_append_of_le_length (by rw [VQ];omega),co,Nat.min_self]
      rw [g1,CB]
      cases hc:chc (gdN ns) ((Rj row n i a).drop (k+1)) (o.take k++[(b:Int)])with
      |true=>
       right
       refine⟨_,rfl,o2,.inl ⟨rfl, ?_⟩,g2,g5,g4⟩
       unfold chc;rw [Zb]
       exact⟨(b:Int),Xg.2 ⟨b,rfl,c,hhas⟩,hc⟩
      |false=>
       left
       refine⟨_,n-(b+1),rfl,by omega,b+1,rfl,by omega,rfl,g2,g5,g4,fun j hj hh=> ?_⟩
       by_cases ej:j=b
       ·rw [ej];exact hc
       ·exact h3 j (by omega) hh
     ·rw [if_neg hb1]
      left
      refine⟨_,n-(b+1),rfl,by omega,b+1,rfl,by omega,rfl,h1,h2,h5,fun j hj hh=> ?_⟩
      by_cases ej:j=b
      ·rw [ej]at hh;exact absurd (of_decide_eq_true hh) hb1
      ·exact h3 j (by omega) hh
    ·rw [if_neg (by omega)]
     right
     refine⟨_,rfl,o1,.inr ⟨rfl, ?_⟩,h1,h2,h5⟩
     unfold chc;rw [cc];intro x hx;obtain⟨j,rfl,hj,hh⟩:=Xg.1 hx;have:=h3 j (by omega) hh
     simp [this]
def PI(M:AX)(v i:Nat):Int:=(M.getD v be).getD i be
def QH(en:Ad)(v i:Nat):Nat:=(BJ (en.getD v be) i).toNat
def Qt(en:Ad)(v i:Nat):Nat:=(Bu (en.getD v be) i).toNat
def xH(en:Ad)(v i:Nat):Bool:=(BJ (en.getD v be) i==(v:Int))&&(Bu (en.getD v be) i==(i:Int))
structure OkM(en:Ad)(n:Nat)(M:AX):Prop where
 len:M.length=en.length
 row: ∀v,v<en.length→(M.getD v be).length=(en.getD v be).length
 rng: ∀v i,v<en.length→i<(en.getD v be).length→0≤PI M v i∧PI M v i<2 ^ n
structure NetOk(en:Ad):Prop where
 big:en.length≤40
 deg: ∀v,v<en.length→(en.getD v be).length≤6
 prt: ∀v i,v<en.length→i<(en.getD v be).length→VN en v i=true
theorem ic{E:Ad}{ids ins:AO}(hw:Dt E ids ins=true):NetOk E:=by
 unfold Dt at hw;simp only [El]at hw
 refine⟨?_,fun v hv=> ?_,fun v i hv hi=> ?_⟩
 ·have:=EA.1 hw.1;omega
 ·have:=Ch.1 hw.2.2.2.2 v hv
  rw [PH,El,decide_eq_true_eq]at this;exact this.1
 ·have:=Ch.1 hw.2.2.2.2 v hv
  rw [PH,El]at this;exact Ch.1 this.2 i hi
theorem NetOk.at{en:Ad}(h:NetOk en){v i:Nat}(hv:v<en.length)(hi:i<(en.getD v be).length):
  BJ (en.getD v be) i=(QH en v i:Int)∧Bu (en.getD v be) i=(Qt en v i:Int)∧QH en v i<en.length∧Qt en v i<(en.getD (QH en v i) be).length∧QH en (QH en v i) (Qt en v i)=v∧Qt en (QH en v i) (Qt en v i)=i:=by
 have hp:=h.prt v i hv hi;rw [Uv]at hp;simp only [El,beq_iff_eq]at hp;have p1:=EA.1 hp.1;have p2:=EA.1 hp.2.1;have e1:BJ (en.getD v be) i=(QH en v i:Int):=by unfold QH;omega
 have e2:Bu (en.getD v be) i=(Qt en v i:Int):=by unfold Qt;omega
 refine⟨e1,e2,by omega, ?_, ?_, ?_⟩
 ·rw [e1,Cq]at p2;omega
 ·have:=hp.2.2.1
  show(BJ (en.getD (QH en v i) be) (Qt en v i)).toNat=v
  rw [show QH en v i=(BJ (en.getD v be) i).toNat from rfl,show Qt en v i=(Bu (en.getD v be) i).toNat from rfl,this,Cq]
 ·have:=hp.2.2.2
  show(Bu (en.getD (QH en v i) be) (Qt en v i)).toNat=i
  rw [show QH en v i=(BJ (en.getD v be) i).toNat from rfl,show Qt en v i=(Bu (en.getD v be) i).toNat from rfl,this,Cq]
theorem A8H{n:Nat}(hn:n≤8):(2:Int) ^ n≤256:=by
 have:=mh hn
 have e:(2:Int) ^ 8=256:=by decide
 omega
theorem OkM.le{en:Ad}{n:Nat}{M:AX}(h:OkM en n M)(hn:n≤8){v i:Nat}(hv:v<en.length)(hi:i<(en.getD v be).length):0≤PI M v i∧PI M v i≤255:=by
 have:=h.rng v i hv hi
 have:=A8H hn
 omega
theorem mq{m:Int}{n a:Nat}(h:0≤m∧m<2 ^ n)(ha:n≤a):CQ m a=false:=by
 unfold CQ;have:m / 2 ^ a=0:=Int.ediv_eq_zero_of_lt h.1 (Int.lt_of_lt_of_le h.2 (mh ha))
 rw [this];rfl
def A61(en:Ad)(es:AX)(n:Nat)(M:AX)(v i a:Nat):Bool:=
 if xH en v i=true then KI es a a else(ao n).any fun b=>CQ (PI M (QH en v i) (Qt en v i)) b&&KI es a b
def A8I(ns:AX)(n:Nat)(M:AX)(v i a:Nat):Bool:=ns.any (plc (Rj (M.getD v be) n i a))
def Jl(en:Ad)(ns es:AX)(n D:Nat)(M:AX)(v i a:Nat):Bool:=A61 en es n M v i a&&(!decide ((en.getD v be).length=D)||A8I ns n M v i a)
theorem A2g{en:Ad}(ids inp:AO){ns es M:AX}{n D v i a:Nat}(hN:NetOk en)(hM:OkM en n M)(hn:n≤8)(he:BQ es)(hie:TK es=true)(hv:v<en.length)(hi:i<(en.getD v be).length):
  Du (n:Int) (D:Int) ns es en ids inp M (v:Int) (i:Int) (a:Int)=some (A61 en es n M v i a):=by
 obtain⟨f1,f2,f3,f4,_,_⟩:=hN.at hv hi;have hl:=hM.len;have hr:=hM.row _ f3;unfold Du A61 xH;simp only [Cq];rw [BC (by omega),BC (by omega)]
 split
 ·rw [BC he,BC hie]
 ·unfold ED;have key:=E9 (fun w=>CF (n:Int) (D:Int) ns es en ids inp M (v:Int) (i:Int) (a:Int) w) (fun b=>(b:Int)) n (fun b=> !(CQ (PI M (QH en v i) (Qt en v i)) b&&KI es a b)) (.inl ()) (.inr ()) ?_ ?_
  ·rw [EW]at key;rw [key,CB,ib]
   cases (ao n).any fun b=>CQ (PI M (QH en v i) (Qt en v i)) b&&KI es a b<;>rfl
  ·intro b hb;have hm:0≤(M.getD (QH en v i) be).getD (Qt en v i) be∧(M.getD (QH en v i) be).getD (Qt en v i) be≤255:=hM.le hn f3 f4;simp only [CF,Cq,f1,f2];rw [if_pos (BU hb),BC (by omega),BC (by omega),BC (by omega),sU _ b hm (by omega),Gc b (by omega)]
   by_cases h1:(M.getD (QH en v i) be).getD (Qt en v i) be / 2 ^ b % 2=1
   ·have:CQ (PI M (QH en v i) (Qt en v i)) b=true:=decide_eq_true h1
    rw [if_pos h1,BC he,BC hie,this,VV]
    cases KI es a b<;>rfl
   ·have:CQ (PI M (QH en v i) (Qt en v i)) b=false:=decide_eq_false h1
    rw [if_neg h1,this];rfl
  ·simp only [CF];rw [if_neg (Am _)]
theorem A2h{en:Ad}(ids inp:AO){ns es M:AX}{n D v i a:Nat}(hM:OkM en n M)(hn:n≤8)(hD:D≤4)(hs:BQ ns)(hi2:TK ns=true)(hp: ∀c∈ns,c.Pairwise fun a b=>a≤b)(hv:v<en.length)(hi:i<(en.getD v be).length)(hl:(en.getD v be).length=D):
  Dw (n:Int) (D:Int) ns es en ids inp M (v:Int) (i:Int) (a:Int)=some (A8I ns n M v i a):=by
 have hrow:=hM.row v hv;unfold Dw;rw [XN _ _ (by omega),CB,Cq,BC (by rw [MH];omega),Cq]
 obtain⟨o',h1,_⟩:=Yp (a:=(a:Int)) (es:=es) (en:=en) (ids:=ids) (inp:=inp) (v:=v) (M:=M) hn hD (by have:=hM.len;omega) rfl (by omega) (fun k hk=>hM.le hn hv (by omega)) hs hi2 (by omega:i<D) D 0 1000000 ((ap D (-1)).set i (a:Int)) rfl (by simp) (by rw [Ac _ _ (by simp;omega),uI]) (by omega)
 rw [EW,WC,bJ]at h1;unfold I1;rw [h1,CB]
 congr 1
 exact A17 _ hp
theorem zu: ∀a b:Fin 8,CQ (2 ^ a.val) b.val=decide (b=a):=by decide+kernel
def zw(n:Nat)(f:Nat→Nat):AO:=(ao n).map fun a=>Df (f a)
theorem sV(n:Nat)(f:Nat→Nat):(zw n f).length=n:=by simp [zw]
theorem A62{n:Nat}(f:Nat→Nat){a:Nat}(ha:a<n):(zw n f).getD a be=Df (f a):=by
 unfold zw;rw [Ac _ _ (by simpa using ha),PM,OU]
theorem sW(f:AO×Int→Option ((AO×Int)⊕AO))(n:Nat)(g:Nat→Int)
  (h: ∀(a:Nat) (w:AO),a<n→w.length=n→w.getD a be=0→f (w,(a:Int))=some (.inl (w.set a (g a),((a+1:Nat):Int))))
  (e: ∀w:AO,w.length=n→f (w,(n:Int))=some (.inr w)):Dq f (ap n 0,0)=some ((ao n).map g):=by
 have key:=Bn f (fun k=>((ao n).map fun x=>if x<k then g x else 0,(k:Int))) n ((ao n).map g) ?_ ?_
 ·have e0:((ao n).map fun x=>if x<0 then g x else 0)=ap n 0:=by
   refine Za (by simp) fun i h1 h2=> ?_
   simp
  rw [e0,EW]at key;exact key
 ·intro k hk;rw [h k _ hk (by simp) (by rw [Ac _ _ (by simpa using hk)];simp)]
  congr 3
  refine Za (by simp) fun i h1 h2=> ?_
  rw [cm];simp only [PM,OU];by_cases c:k=i
  ·subst c;rw [if_pos rfl,if_pos (by omega)]
  ·rw [if_neg c];by_cases d:i<k
   ·rw [if_pos d,if_pos (by omega)]
   ·rw [if_neg d,if_neg (by omega)]
 ·rw [e _ (by simp)]
  congr 2
  exact lM fun a ha=>if_pos (Fa.1 ha)
theorem ZU{n:Nat}{g:AO→Nat}: ∀(W1 W2:List (Int→Nat)) (c:AO),W1.length=W2.length→(∀k (h1:k<W1.length) (h2:k<W2.length) (b:Nat),b<n→W1[k] (b:Int)=W2[k] (b:Int))→MK n g W1 c=MK n g W2 c
 | [],[],c,_,_=>rfl
 |w1::W1,w2::W2,c,hl,h=>by
  unfold MK;refine KO fun b hb=> ?_;have h0:w1 (b:Int)=w2 (b:Int):=h 0 (by simp) (by simp) b hb
  rw [h0,ZU W1 W2 _ (by simpa using hl) fun k h1 h2 b hb=>h (k+1) (by simpa using h1) (by simpa using h2) b hb]
 | [],_::_,_,hl,_=>by cases hl
 |_::_,[],_,hl,_=>by cases hl
theorem xI{n:Nat}: ∀(Ws:List (Int→Nat)) (c:AO),MK n (fun _=>1) Ws c=(Ws.map fun w=>Ej n fun b=>w (b:Int)).prod
 | [],c=>rfl
 |w::Ws,c=>by
  unfold MK;rw [VU,List.prod_cons,Nat.mul_comm,←A5v];refine KO fun b _=> ?_;rw [xI Ws,Nat.mul_comm]
def uE(E:Ad)(es:AX)(n:Nat)(m:Nat→Nat→Nat→Bool)(T:Nat→Nat→Nat→Nat)(v:Nat)(i:Int)(a:Nat)(k:Nat):Int→Nat:=
 if(k:Int)=i then fun b=>if b=(a:Int)then 1 else 0
 else fun b=>if m v k b.toNat=true then Ej n fun c=>if KI es b (c:Int)=true then T (QH E v k) (Qt E v k) c else 0 else 0
def wgs(E:Ad)(es:AX)(n:Nat)(m:Nat→Nat→Nat→Bool)(T:Nat→Nat→Nat→Nat)(v:Nat)(i:Int)(a:Nat):List (Int→Nat):=
 (ao (E.getD v be).length).map (uE E es n m T v i a)
def NE(E:Ad)(ns es:AX)(n D:Nat)(m:Nat→Nat→Nat→Bool):Nat→Nat→Int→Nat→Nat
 |0,_,_,_=>0
 |f+1,v,i,a=>MK n (if(E.getD v be).length=D then gdC ns else fun _=>1) (wgs E es n m (fun u j c=>if m u j c=true then NE E ns es n D m f u (j:Int) c else 0) v i a) []
def sZ(E:Ad):Nat→Nat→Int→Prop
 |0,_,_=>False
 |f+1,v,i=>v<E.length∧ ∀k,k<(E.getD v be).length→(k:Int)≠i→sZ E f (QH E v k) (Qt E v k:Nat)
theorem P9(E:Ad)(es:AX)(n:Nat)(m:Nat→Nat→Nat→Bool)(T:Nat→Nat→Nat→Nat)(v:Nat)(i:Int)(a:Nat):(wgs E es n m T v i a).length=(E.getD v be).length:=by simp [wgs]
theorem Yq(E:Ad)(es:AX)(n:Nat)(m:Nat→Nat→Nat→Bool)(T:Nat→Nat→Nat→Nat)(v:Nat)(i:Int)(a:Nat){k:Nat}(hk:k<(wgs E es n m T v i a).length):(wgs E es n m T v i a)[k]=uE E es n m T v i a k:=by simp [wgs]
structure Ctx(en:Ad)(ns es:AX)(n D:Nat):Prop where
 hN:NetOk en
 hn:n≤8
 hD:D≤4
 hs:BQ ns
 he:BQ es
 hin:TK ns=true
 hie:TK es=true
 hp: ∀c∈ns,c.Pairwise fun a b=>a≤b
 hc: ∀c∈ns,c.length=D∧ ∀a∈c,0≤a∧a<8
theorem su(a:Nat)(ha:a≤8):bm.wrap (1*2 ^ (min a bm.bits))=2 ^ a:=by
 have:min a bm.bits=a:=by show min a 64=a;omega
 have h1:=A8H ha;have h2:(0:Int)<2 ^ a:=ce (by decide)
 rw [this,Int.one_mul,GG _ (by omega)]
theorem zx: ∀b:Fin 8,∀x:Fin 256,CQ (x.val:Int) b.val=true→G9 .andNot .i64 (x.val:Int) (2 ^ b.val)=(x.val:Int)-2 ^ b.val:=by decide+kernel
theorem xJ(x:Int)(b:Nat)(hb:b<8)(h:0≤x∧x≤255)(hh:CQ x b=true):G9 .andNot .i64 x (2 ^ b)=x-2 ^ b:=by
 have hx:((x.toNat:Nat):Int)=x:=by omega
 have:=zx ⟨b,hb⟩ ⟨x.toNat,by omega⟩
 simp only [hx]at this;exact this hh
theorem AFP{m:Int}{a:Nat}(h0:0≤m)(h:CQ m a=true):2 ^ a≤m:=by
 apply cq
 intro hc;rw [mq ⟨h0,by omega⟩ (Cc a)]at h
 cases h
theorem sw: ∀(l:AO) (i:Nat) (x:Int),i<l.length→(l.set i x).sum=l.sum-l.getD i be+x
 |y::l,0,x,_=>by simp;omega
 |y::l,i+1,x,h=>by
  have ih:=sw l i x (by simpa using h)
  simp only [nK,List.sum_cons,cv];omega
def wt(M:AX):Int:=(M.map List.sum).sum
theorem AFQ{M:AX}{v i:Nat}{x:Int}(hv:v<M.length)(hi:i<(M.getD v be).length):wt (M.set v ((M.getD v be).set i x))=wt M-PI M v i+x:=by
 unfold wt;rw [List.map_set,sw _ _ _ (by rw [QD];exact hv),sw _ _ _ hi]
 have:(M.map List.sum).getD v be=(M.getD v be).sum:=by
  rw [Ac _ _ (by rw [QD];exact hv),PM,Ac _ _ hv]
 rw [this];unfold PI;omega
theorem bF{M:AX}{v i:Nat}{x:Int}(hv:v<M.length)(hi:i<(M.getD v be).length)(w j:Nat)(hj:j<(M.getD w be).length):PI (M.set v ((M.getD v be).set i x)) w j=if v=w∧i=j then x else PI M w j:=by
 unfold PI;by_cases e:v=w
 ·subst e;rw [Ac (M.set v _) v (by rw [Jy];exact hv),uI,Ac _ _ (by rw [Jy];exact hj),cm,Ac _ j hj]
  by_cases e2:i=j
  ·rw [if_pos e2,if_pos ⟨rfl,e2⟩]
  ·rw [if_neg e2,if_neg (fun h=>e2 h.2)]
 ·rw [if_neg (fun h=>e h.1)]
  have:(M.set v ((M.getD v be).set i x)).getD w be=M.getD w be:=by
   rw [LQ,A1K e,←LQ]
  rw [this]
theorem A18{M:AX}{v i:Nat}{x:Int}(w:Nat):((M.set v ((M.getD v be).set i x)).getD w be).length=(M.getD w be).length:=by
 by_cases e:v=w
 ·subst e;by_cases hv:v<M.length
  ·rw [Ac (M.set v _) v (by rw [Jy];exact hv),uI,Jy]
  ·rw [List.set_eq_of_length_le (by omega)]
 ·rw [LQ,A1K e,←LQ]
theorem OkM.set{en:Ad}{n:Nat}{M:AX}(h:OkM en n M){v i:Nat}{x:Int}(hv:v<en.length)(hi:i<(en.getD v be).length)(hx:0≤x∧x<2 ^ n):OkM en n (M.set v ((M.getD v be).set i x)):=by
 refine⟨by rw [Jy];exact h.len,fun w hw=>by rw [A18];exact h.row w hw,fun w j hw hj=> ?_⟩
 have:=h.len
 rw [bF (by omega) (by rw [h.row v hv];exact hi) w j (by rw [h.row w hw];exact hj)]
 split
 ·exact hx
 ·exact h.rng w j hw hj
theorem Vx: ∀(l:AO),(∀x∈l,0≤x)→0≤l.sum
 | [],_=>by simp
 |y::l,h=>by
  have:=Vx l fun x hx=>h x (PL _ hx)
  have:=h y Gu
  rw [List.sum_cons];omega
theorem OkM.nonneg{en:Ad}{n:Nat}{M:AX}(h:OkM en n M):0≤wt M:=by
 refine Vx _ fun x hx=> ?_;obtain⟨row,hr,rfl⟩:=MI.1 hx;refine Vx _ fun y hy=> ?_;obtain⟨v,hv,rfl⟩:=V4 hr;obtain⟨i,hi,rfl⟩:=V4 hy;have hl:=h.len;have hrow:=h.row v (by omega)
 rw [Ac _ _ hv]at hrow;have:=(h.rng v i (by omega) (by omega)).1
 unfold PI at this;rw [Ac _ _ hv,Ac _ _ hi]at this;exact this
def stA(sup:AX→Nat→Nat→Nat→Bool)(v i:Nat)(q:Bool×AX)(a:Nat):Bool×AX:=
 if(CQ (PI q.2 v i) a&& !sup q.2 v i a)=true then(true,q.2.set v ((q.2.getD v be).set i (PI q.2 v i-2 ^ a)))else q
def stI(sup:AX→Nat→Nat→Nat→Bool)(n v:Nat)(q:Bool×AX)(i:Nat):Bool×AX:=(ao n).foldl (stA sup v i) q
def stV(sup:AX→Nat→Nat→Nat→Bool)(n:Nat)(en:Ad)(q:Bool×AX)(v:Nat):Bool×AX:=(ao (en.getD v be).length).foldl (stI sup n v) q
def Q9(sup:AX→Nat→Nat→Nat→Bool)(n:Nat)(en:Ad)(q:Bool×AX):Bool×AX:=(ao en.length).foldl (stV sup n en) q
def lI(sup:AX→Nat→Nat→Nat→Bool)(n:Nat)(en:Ad):Nat→AX→AX
 |0,M=>M
 |k+1,M=>if(Q9 sup n en (false,M)).1=true then lI sup n en k (Q9 sup n en (false,M)).2 else(Q9 sup n en (false,M)).2
def DnM(en:Ad)(n:Nat)(q q':Bool×AX):Prop:=OkM en n q'.2∧(q'=q∨q'.1=true∧wt q'.2<wt q.2)
theorem Xi{en:Ad}{n:Nat}(g:Bool×AX→Nat→Bool×AX): ∀(l:List Nat),(∀q,OkM en n q.2→ ∀x∈l,DnM en n q (g q x))→ ∀q,OkM en n q.2→DnM en n q (l.foldl g q)
 | [],_,q,hq=>⟨hq,.inl rfl⟩
 |x::l,h,q,hq=>by
  obtain⟨h1,h2⟩:=h q hq x Gu;obtain⟨h3,h4⟩:=Xi g l (fun q hq y hy=>h q hq y (PL _ hy)) (g q x) h1;rw [VS]
  refine⟨h3, ?_⟩
  rcases h2 with e|⟨e1,e2⟩
  ·rw [e]at h4 ⊢;exact h4
  ·rcases h4 with e|⟨e3,e4⟩
   ·right;rw [e];exact⟨e1,e2⟩
   ·right;exact⟨e3,by omega⟩
theorem tC{en:Ad}{n:Nat}(sup:AX→Nat→Nat→Nat→Bool){v i:Nat}(hv:v<en.length)(hi:i<(en.getD v be).length)(q:Bool×AX)(hq:OkM en n q.2)(a:Nat):DnM en n q (stA sup v i q a):=by
 unfold stA;split
 ·rename_i h
  rw [El]at h;have hr:=hq.rng v i hv hi;have hg:=AFP hr.1 h.1;have hp:(0:Int)<2 ^ a:=ce (by decide)
  have hl:=hq.len
  refine⟨hq.set hv hi (by omega),.inr ⟨rfl, ?_⟩⟩
  dsimp only;rw [AFQ (by omega) (by rw [hq.row v hv];exact hi)]
  omega
 ·exact⟨hq,.inl rfl⟩
theorem zy{en:Ad}{n:Nat}(sup:AX→Nat→Nat→Nat→Bool){v i:Nat}(hv:v<en.length)(hi:i<(en.getD v be).length)(q:Bool×AX)(hq:OkM en n q.2):DnM en n q (stI sup n v q i):=
 Xi _ _ (fun q hq a _=>tC sup hv hi q hq a) q hq
theorem zz{en:Ad}{n:Nat}(sup:AX→Nat→Nat→Nat→Bool){v:Nat}(hv:v<en.length)(q:Bool×AX)(hq:OkM en n q.2):DnM en n q (stV sup n en q v):=
 Xi _ _ (fun q hq i hi=>zy sup hv (Fa.1 hi) q hq) q hq
theorem A19{en:Ad}{n:Nat}(sup:AX→Nat→Nat→Nat→Bool)(q:Bool×AX)(hq:OkM en n q.2):DnM en n q (Q9 sup n en q):=
 Xi _ _ (fun q hq v hv=>zz sup (Fa.1 hv) q hq) q hq
section
variable {en:Ad} {ns es:AX} {n D:Nat} (C:Ctx en ns es n D) (ids inp:AO)
include C
theorem A8J(T7 T100:AX){v i:Nat}(hv:v<en.length)(hi:i<(en.getD v be).length)(q:Bool×AX)(hq:OkM en n q.2):
  Ih (n:Int) (D:Int) ns es en ids inp T7 (v:Int) T100 (i:Int) (q.1,0,q.2)=some (stI (Jl en ns es n D) n v q i):=by
 have hn:=C.hn;have key:=U2 (fun w=>DC (n:Int) (D:Int) ns es en ids inp T7 (v:Int) T100 (i:Int) w.1 w.2.1 w.2.2) (fun k q=>(q.1,(k:Int),q.2)) (fun _ q=>OkM en n q.2) (ao n) (stA (Jl en ns es n D) v i) (fun q=>q) ?_ ?_ q hq
 ·exact key.1
 ·intro a q ha hq;rw [Rv]at ha
  refine⟨?_,(tC _ hv hi q hq _).1⟩
  rw [OU];have hl:=hq.len;have hrow:=hq.row v hv;have hm:=hq.le hn hv hi;have hm':0≤(q.2.getD v be).getD i be∧(q.2.getD v be).getD i be≤255:=hm;simp only [DC,Cq];rw [if_pos (BU ha),BC (by omega),BC (by omega),BC (by omega),sU _ a hm' (by omega),Gc a (by omega)]
  unfold stA;by_cases hb:(q.2.getD v be).getD i be / 2 ^ a % 2=1
  ·have hh:CQ (PI q.2 v i) a=true:=decide_eq_true hb;rw [if_neg (by omega),A2g ids inp C.hN hq hn C.he C.hie hv hi,CB,hh,VV]
   rw [su a (by omega),show G9 .andNot .i64 ((q.2.getD v be).getD i be) (2 ^ a)=PI q.2 v i-2 ^ a from xJ _ a (by omega) hm hh]
   unfold Jl
   cases A61 en es n q.2 v i a with
   |false=>rw [if_neg (by decide)];rfl
   |true=>
    rw [if_pos rfl,VV];by_cases hd:(en.getD v be).length=D
    ·rw [if_pos (by omega),A2h ids inp hq hn C.hD C.hs C.hin C.hp hv hi hd,CB,decide_eq_true hd]
     cases A8I ns n q.2 v i a<;>rfl
    ·rw [if_neg (by omega),decide_eq_false hd];rfl
  ·have hh:CQ (PI q.2 v i) a=false:=decide_eq_false hb;rw [if_pos (by omega),hh];rfl
 ·intro q _;simp only [DC,Rv];rw [if_neg (Am _)]
theorem A8K(T7 T100:AX){v:Nat}(hv:v<en.length)(hT:(T100.getD v be).length=(en.getD v be).length)(q:Bool×AX)(hq:OkM en n q.2):
  Ii (n:Int) (D:Int) ns es en ids inp T7 (v:Int) T100 (q.1,0,q.2)=some (stV (Jl en ns es n D) n en q v):=by
 have hg:=C.hN.deg v hv;have key:=U2 (fun w=>DD (n:Int) (D:Int) ns es en ids inp T7 (v:Int) T100 w.1 w.2.1 w.2.2) (fun k q=>(q.1,(k:Int),q.2)) (fun _ q=>OkM en n q.2) (ao (en.getD v be).length) (stI (Jl en ns es n D) n v) (fun q=>q) ?_ ?_ q hq
 ·exact key.1
 ·intro i q hi hq;rw [Rv]at hi
  refine⟨?_, ?_⟩
  ·rw [OU];simp only [DD,Cq];rw [if_pos (by omega),A8J C ids inp T7 T100 hv hi q hq,CB,Gc i (by omega)]
  ·rw [OU]
   exact(zy _ hv hi q hq).1
 ·intro q _;simp only [DD,Rv,Cq];rw [if_neg (by omega)]
theorem A8L(T7:AX)(hT:T7.length=en.length)(q:Bool×AX)(hq:OkM en n q.2):
  Ij (n:Int) (D:Int) ns es en ids inp T7 (q.1,0,q.2)=some (Q9 (Jl en ns es n D) n en q):=by
 have hg:=C.hN.big;have key:=U2 (fun w=>DF (n:Int) (D:Int) ns es en ids inp T7 w.1 w.2.1 w.2.2) (fun k q=>(q.1,(k:Int),q.2)) (fun _ q=>OkM en n q.2) (ao en.length) (stV (Jl en ns es n D) n en) (fun q=>q) ?_ ?_ q hq
 ·exact key.1
 ·intro v q hv hq;rw [Rv]at hv
  refine⟨?_, ?_⟩
  ·rw [OU];have hl:=hq.len;simp only [DF,Cq];rw [if_pos (by omega),BC (by omega),A8K C ids inp T7 q.2 hv (hq.row v hv) q hq,CB,Gc v (by omega)]
  ·rw [OU]
   exact(zz _ hv q hq).1
 ·intro q _;simp only [DF,Rv];rw [if_neg (by omega)]
theorem ig: ∀(k:Nat) (M:AX),OkM en n M→wt M<k→I5 ((n:Int),(D:Int),ns,es,en,ids,inp,M)=some ((n:Int),(D:Int),ns,es,en,ids,inp,lI (Jl en ns es n D) n en k M)∧OkM en n (lI (Jl en ns es n D) n en k M)
 |0,M,hM,hk=>by have:=hM.nonneg;omega
 |k+1,M,hM,hk=>by
  obtain⟨h1,h2⟩:=A19 (n:=n) (Jl en ns es n D) (false,M) hM
  have hsh:J3 (n:Int) (D:Int) ns es en ids inp M=some ((Q9 (Jl en ns es n D) n en (false,M)).1,(n:Int),(D:Int),ns,es,en,ids,inp,(Q9 (Jl en ns es n D) n en (false,M)).2):=by
   unfold J3;have:=A8L C ids inp M hM.len (false,M) hM
   dsimp only at this;rw [this,CB]
  unfold lI;by_cases hf:(Q9 (Jl en ns es n D) n en (false,M)).1=true
  ·rw [if_pos hf]
   have hlt:wt (Q9 (Jl en ns es n D) n en (false,M)).2<wt M:=by
    rcases h2 with e|e
    ·rw [e]at hf;cases hf
    ·exact e.2
   obtain⟨g1,g2⟩:=ig k _ h1 (by omega)
   refine⟨?_,g2⟩
   rw [←g1];unfold I5;refine Lh ?_;simp only [I4,hsh,CB];rw [if_pos hf]
  ·rw [if_neg hf]
   refine⟨?_,h1⟩
   unfold I5;refine E8 ?_;simp only [I4,hsh,CB];rw [if_neg hf]
end
theorem A63{α:Type}(g:α→α)(l:List α)(k:Nat)(hk:k<l.length)(x:α):((l.take k).map g++l.drop k).set k x=(l.take k).map g++x::l.drop (k+1):=by
 rw [nJ _ _ (by simp;omega),ZY hk]
 have:k-((l.take k).map g).length=0:=by simp;omega
 rw [this];rfl
theorem xK{α:Type}[Inhabited α](g:α→α)(l:List α)(k:Nat)(hk:k<l.length):((l.take k).map g++l.drop k).set k (g (l.getD k be))=(l.take (k+1)).map g++l.drop (k+1):=by
 rw [A63 g l k hk,bI hk,jS,M4,Ac _ _ hk];rfl
theorem A1A{α:Type}[Inhabited α](g:α→α)(l:List α)(k:Nat)(hk:k<l.length):((l.take k).map g++l.drop k).getD k be=l.getD k be:=by
 rw [LQ,Ru (by simp [Nat.min_le_left])]
 have:k-((l.take k).map g).length=0:=by simp;omega
 rw [this,TV,Nat.add_zero,←LQ]
theorem A1B{α:Type}(g:α→α)(l:List α)(k:Nat)(hk:k≤l.length):((l.take k).map g++l.drop k).length=l.length:=by simp;omega
theorem A1C{α:Type}[Inhabited α](f:List α×Int→Option ((List α×Int)⊕List α))(g:α→α)(l:List α)
  (h: ∀(k:Nat) (o:List α),k<l.length→o.length=l.length→o.getD k be=l.getD k be→f (o,(k:Int))=some (.inl (o.set k (g (l.getD k be)),((k+1:Nat):Int))))
  (e: ∀o,f (o,(l.length:Int))=some (.inr o)):Dq f (l,0)=some (l.map g):=by
 have key:=Bn f (fun k=>((l.take k).map g++l.drop k,(k:Int))) l.length (l.map g) ?_ ?_
 ·simpa using key
 ·intro k hk;rw [h k _ hk (A1B g l k (by omega)) (A1A g l k hk),xK g l k hk]
 ·rw [e,uM,List.drop_length,TI]
theorem ik{α:Type}[Inhabited α](l:List α)(v:Nat)(hv:v<l.length):l.set v (l.getD v be)=l:=by
 rw [Ac _ _ hv,List.set_getElem_self]
theorem Xj{α:Type}[Inhabited α](l:List α)(v:Nat)(x:α)(hv:v<l.length):(l.set v x).getD v be=x:=by
 rw [Ac _ _ (by rw [Jy];exact hv),uI]
theorem mr(f:AX×Int→Option ((AX×Int)⊕AX))(g:Int→Int)(M:AX)(v:Nat)(hv:v<M.length)
  (h: ∀(k:Nat) (M':AX),k<(M.getD v be).length→M'.length=M.length→(M'.getD v be).length=(M.getD v be).length→(M'.getD v be).getD k be=(M.getD v be).getD k be→f (M',(k:Int))=some (.inl (M'.set v ((M'.getD v be).set k (g ((M.getD v be).getD k be))),((k+1:Nat):Int))))
  (e: ∀M',f (M',((M.getD v be).length:Int))=some (.inr M')):Dq f (M,0)=some (M.set v ((M.getD v be).map g)):=by
 have key:=Bn f (fun k=>(M.set v (((M.getD v be).take k).map g++(M.getD v be).drop k),(k:Int))) (M.getD v be).length (M.set v ((M.getD v be).map g)) ?_ ?_
 ·simp only [bJ,List.map_nil,WC,PO,ik M v hv,EW]at key;exact key
 ·intro k hk;have hg:(M.set v (((M.getD v be).take k).map g++(M.getD v be).drop k)).getD v be=((M.getD v be).take k).map g++(M.getD v be).drop k:=Xj M v _ hv;rw [h k _ hk (by rw [Jy]) (by rw [hg,A1B g _ k (by omega)]) (by rw [hg,A1A g _ k hk]),hg,jT,xK g _ k hk]
 ·rw [e,uM,List.drop_length,TI]
theorem A8M(l:AX)(h:BQ l):OA l=some l:=by
 unfold OA;have h1:=h.1;rw [BC (by omega)]
 have key:=Bn (fun v=>Ez l v.1 v.2) (fun i=>(l.take i++ap (l.length-i) [],(i:Int))) l.length l ?_ ?_
 ·unfold Mh;have e:((0:Nat):Int)=0:=rfl;simp only [e,Nat.sub_zero,bJ,PO]at key;rw [key];rfl
 ·intro i hi
  have e1:(l.take i++ap (l.length-i) []).set i l[i]=l.take (i+1)++ap (l.length-(i+1)) ([]:AO):=by
   rw [nJ _ _ (by simp;omega)]
   have:i-(l.take i).length=0:=by simp;omega
   rw [this,bI hi,M4,show l.length-i=(l.length-(i+1))+1 by omega,uJ];rfl
  simp only [Ez,Cq];rw [if_pos (BU hi),BC (by omega),BC (h.getD i),BC (by simp;omega),Gc i (by omega),Ac _ _ hi,e1]
 ·simp only [Ez];rw [if_neg (Am _)]
  simp
theorem A8N(l:AX)(h:BQ l):UM l=some l:=by
 have h1:=h.1;unfold UM Qe;have key:=RG (fun v=>JQ l v.1 v.2) l (fun x=>x) ?_ ?_
 ·rw [key,List.map_id'];rfl
 ·intro i hi out ho;simp only [JQ,KZ,Cq];rw [if_pos (BU hi),BC (by omega),BC (by have:=h.getD i;omega),CB,BC (by omega),Gc i (by omega),Ac _ _ hi]
 ·intro out ho;simp only [JQ];rw [if_neg (Am _)]
def Rl(n:Nat)(a:Int):Int:=if a<0 then 2 ^ n-1 else 2 ^ a.toNat
def Dn(n:Nat)(l:AX):AX:=l.map fun row=>row.map (Rl n)
structure ShpL(en:Ad)(n:Nat)(l:AX):Prop where
 len:l.length=en.length
 row: ∀v,v<en.length→(l.getD v be).length=(en.getD v be).length
 rng: ∀v i,v<en.length→i<(en.getD v be).length→ -1≤(l.getD v be).getD i be∧(l.getD v be).getD i be<n
theorem xL(n:Nat)(hn:n≤8):bm.wrap (bm.wrap (1*2 ^ (min n bm.bits))-1)=2 ^ n-1:=by
 have h1:=A8H hn;have h2:(0:Int)<2 ^ n:=ce (by decide)
 rw [su n hn,GG _ (by omega)]
theorem Yr(n:Nat)(l:AX)(v:Nat)(hv:v<l.length):(Dn n l).getD v be=(l.getD v be).map (Rl n):=by
 unfold Dn;rw [Ac _ _ (by rw [QD];exact hv),PM,Ac _ _ hv]
theorem Ub{en:Ad}{n:Nat}{l:AX}(h:ShpL en n l):OkM en n (Dn n l):=by
 have hl:=h.len
 refine⟨by unfold Dn;rw [QD,hl],fun v hv=> ?_,fun v i hv hi=> ?_⟩
 ·rw [Yr n l v (by omega),QD];exact h.row v hv
 ·have hr:=h.row v hv;have hx:=h.rng v i hv hi;unfold PI;rw [Yr n l v (by omega),Ac _ _ (by rw [QD];omega),PM]
  rw [Ac _ _ (by omega)]at hx
  unfold Rl;have hp:(0:Int)<2 ^ n:=ce (by decide)
  split
  ·omega
  ·refine⟨Int.le_of_lt (ce (by decide)), ?_⟩
   have:(2:Nat) ^ (l.getD v be)[i].toNat<2 ^ n:=Nat.pow_lt_pow_right (by decide) (by omega)
   exact_mod_cast this
section
variable {en:Ad} {ns es:AX} {n D:Nat} (C:Ctx en ns es n D) (ids inp:AO)
include C
theorem A00(l:AX)(h:ShpL en n l):KL (n:Int) (D:Int) ns es en ids inp l (l,0)=some (Dn n l):=by
 have hn:=C.hn;have hb:=C.hN.big;have hl:=h.len;unfold KL;refine A1C (fun w=>F5 (n:Int) (D:Int) ns es en ids inp l w.1 w.2) (fun row=>row.map (Rl n)) l ?_ ?_
 ·intro v o hv ho hg;have hr:=h.row v (by omega)
  have hd:=C.hN.deg v (by omega)
  simp only [F5]
  have inner:KJ (n:Int) (D:Int) ns es en ids inp l (v:Int) (o,0)=some (o.set v ((o.getD v be).map (Rl n))):=by
   unfold KJ;refine mr (fun w=>F4 (n:Int) (D:Int) ns es en ids inp l (v:Int) w.1 w.2) (Rl n) o v (by omega) ?_ ?_
   ·intro k M' hk hM' hrow hget;rw [hg]at hk hrow hget ⊢;have hx:=h.rng v k (by omega) (by omega)
    simp only [F4,Cq,xL n hn];rw [if_pos (BU hk),BC (by omega),BC (by omega),BC (by omega),BC (by omega),Gc k (by omega)]
    unfold Rl;by_cases c:0≤(l.getD v be).getD k be
    ·rw [if_pos c,if_neg (by omega),BC (by omega)]
     have hq:(M'.set v ((M'.getD v be).set k (2 ^ n-1))).getD v be=(M'.getD v be).set k (2 ^ n-1):=Xj _ _ _ (by omega)
     rw [hq,BC (by rw [Jy];omega),su _ (by omega),jT,jT]
    ·rw [if_neg c,if_pos (by omega)]
   ·intro M';rw [hg];simp only [F4,Cq];rw [if_neg (by omega)]
  rw [if_pos (BU hv),BC (by omega),inner,CB,hg,Gc v (by omega)]
 ·intro o;simp only [F5];rw [if_neg (Am _)]
theorem A2i(l:AX)(h:ShpL en n l)(hs:BQ l):UN (n:Int) (D:Int) ns es l=some (Dn n l):=by
 have hn:=C.hn;have hb:=C.hN.big;have hl:=h.len;have hu: ∀a:Int,0≤a∧a<1000→IntKind.u64.wrap a=a:=fun a ha=>gG _ (by omega)
 have outer:OE (n:Int) (D:Int) ns es l (l,0)=some (Dn n l):=by
  unfold OE;refine A1C (fun w=>JU (n:Int) (D:Int) ns es l w.1 w.2) (fun row=>row.map (Rl n)) l ?_ ?_
  ·intro v o hv ho hg;have hr:=h.row v (by omega)
   have hd:=C.hN.deg v (by omega)
   simp only [JU]
   have inner:OD (n:Int) (D:Int) ns es l o (v:Int) (o,0)=some (o.set v ((o.getD v be).map (Rl n))):=by
    unfold OD;refine mr (fun w=>JS (n:Int) (D:Int) ns es l o (v:Int) w.1 w.2) (Rl n) o v (by omega) ?_ ?_
    ·intro k M' hk hM' hrow hget;rw [hg]at hk hrow hget ⊢;have hx:=h.rng v k (by omega) (by omega)
     simp only [JS,Cq,hget,hg];rw [if_pos (BU hk),BC (by omega),BC (by omega),Gc k (by omega)]
     unfold Rl;by_cases c:(l.getD v be).getD k be<0
     ·rw [if_pos c,if_pos c,hu _ (by omega),BC (by omega),BC (by omega),Cq,xL n hn]
     ·rw [if_neg c,if_neg c,hu _ (by omega),BC (by omega),BC (by omega),su _ (by omega)]
    ·intro M';simp only [JS,Cq];rw [if_neg (by omega)]
   rw [if_pos (BU hv),BC (by omega),inner,CB,hg,Gc v (by omega)]
  ·intro o;simp only [JU];rw [if_neg (Am _)]
 unfold UN;rw [A8N l hs,CB,outer];rfl
def Rm(en:Ad)(ns es:AX)(n D:Nat)(M:AX):AX:=lI (Jl en ns es n D) n en ((wt M).toNat+1) M
omit C in
theorem OkM.short{M:AX}(hN:NetOk en)(h:OkM en n M):BQ M:=by
 have hb:=hN.big;have hl:=h.len
 refine⟨by omega,fun x hx=> ?_⟩
 obtain⟨v,hv,rfl⟩:=V4 hx;have:=h.row v (by omega)
 have:=hN.deg v (by omega)
 rw [Ac _ _ hv]at*;omega
theorem AFS{M:AX}(h:OkM en n M):OkM en n (Rm en ns es n D M):=(ig C [] [] ((wt M).toNat+1) M h (by have:=h.nonneg;omega)).2
theorem il(l:AX)(h:ShpL en n l)(hs:BQ l):OC (n:Int) (D:Int) ns es en ids inp l=some (if(Rm en ns es n D (Dn n l)).all (fun row=> !row.contains (0:Int))=true then(Rm en ns es n D (Dn n l),true)else([],false)):=by
 have hM:=Ub h;have hF:=ig C ids inp ((wt (Dn n l)).toNat+1) (Dn n l) hM (by have:=hM.nonneg;omega)
 have hG:OkM en n (Rm en ns es n D (Dn n l)):=hF.2;have sG:=hG.short C.hN;have sG1:=sG.1;unfold OC;rw [A8M l hs,CB,A00 C ids inp l h,CB,hF.1,CB];have key:=E9 (fun w=>F6 ((n:Int),(D:Int),ns,es,en,ids,inp,Rm en ns es n D (Dn n l)) w) (fun j=>(j:Int)) (Rm en ns es n D (Dn n l)).length (fun j=> !((Rm en ns es n D (Dn n l)).getD j be).contains (0:Int)) (.inl ()) (.inr ()) ?_ ?_
 ·rw [EW]at key;have key2:Mj ((n:Int),(D:Int),ns,es,en,ids,inp,lI (Jl en ns es n D) n en ((wt (Dn n l)).toNat+1) (Dn n l)) 0=_:=key;rw [key2,CB,Wo (fun row:AO=> !row.contains (0:Int))]
  cases (Rm en ns es n D (Dn n l)).all (fun row=> !row.contains (0:Int))<;>rfl
 ·intro j hj;simp only [F6,Cq];rw [if_pos (BU hj),BC (by omega),BC (sG.getD j),Gc j (by omega)]
  by_cases hc:((Rm en ns es n D (Dn n l)).getD j be).contains (0:Int)=true
  ·rw [if_pos hc,hc];rfl
  ·rw [if_neg hc,G8.2 hc];rfl
 ·simp only [F6];rw [if_neg (Am _)]
end
theorem AFT{n D:Nat}{ns es:AX}{E:Ad}{ids ins:AO}(h:M7 n D ns es=true)(hw:Dt E ids ins=true)(hn:BQ ns)(he:BQ es):Ctx E ns es n D:=by
 obtain⟨ha,hd,c1,c2⟩:=Vm h
 refine⟨ic hw,by omega,by omega,hn,he,mX c1,mX c2,fun c hc=>qf (XH c1 hc).2.1,fun c hc=>⟨?_,fun a hac=> ?_⟩⟩
 ·have:=(XH c1 hc).1;omega
 ·have h3:=(XH c1 hc).2.2;unfold FO at h3;have:=EA.1 (Jv.1 h3 a hac)
  omega
theorem A01{l:AX}(h:TK l=true):l.Nodup:=by
 refine A1I.2 fun i j hi hj hij e=> ?_;have:=X5 h hij hj
 rw [Ac _ _ hi,Ac _ _ hj,e,Ur]at this;omega
structure Ctn(E:Ad)(ns es:AX)(n D:Nat):Prop extends Ctx E ns es n D where
 hcn: ∀c∈ns,∀a∈c,0≤a∧a<n
theorem AFU{n D:Nat}{ns es:AX}{E:Ad}{ids ins:AO}(h:M7 n D ns es=true)(hw:Dt E ids ins=true)(hn:BQ ns)(he:BQ es):Ctn E ns es n D:=by
 refine⟨AFT h hw hn he,fun c hc a hac=> ?_⟩
 obtain⟨_,_,c1,_⟩:=Vm h;have h3:=(XH c1 hc).2.2;unfold FO at h3;have:=EA.1 (Jv.1 h3 a hac)
 omega
theorem A2j(l:List Nat)(x:Nat):(l++[x]).prod=l.prod*x:=by simp
theorem A02{n:Nat}{i:Int}{a:Nat}{Ws:List (Int→Nat)}{ways ns:AX}(es:AX)(L D:Int)(h:RelW n i (a:Int) Ws ways)(hl:Ws.length≤6)(hn:n≤8)(hd:(Ws.length:Int)≠D)(hz: ∀k:Nat,k<Ws.length→(k:Int)=i→ways.getD k be=[])(hi:a<n∨i<0):
  Oz L D ns es ways i (a:Int)=some (Df (MK n (fun _=>1) Ws [])):=by
 have hwl:=h.len;unfold Oz Sw;rw [if_neg (by omega),xI]
 have key:=Bn (fun v=>L9 ways i v.1 v.2) (fun k=>(Df (((Ws.map fun w=>Ej n fun b=>w (b:Int)).take k).prod),(k:Int))) Ws.length (Df ((Ws.map fun w=>Ej n fun b=>w (b:Int)).prod)) ?_ ?_
 ·have e0:Df (((Ws.map fun w=>Ej n fun b=>w (b:Int)).take 0).prod)=1:=rfl;rw [e0,EW]at key;rw [key];rfl
 ·intro k hk
  have et:((Ws.map fun w=>Ej n fun b=>w (b:Int)).take (k+1)).prod=((Ws.map fun w=>Ej n fun b=>w (b:Int)).take k).prod*Ej n fun b=>Ws[k] (b:Int):=by
   rw [bI (by simpa using hk),A2j,PM]
  have inner: ∃z,Q6 ways i (Df (((Ws.map fun w=>Ej n fun b=>w (b:Int)).take k).prod)) (k:Int) (0,0)=some z∧((k:Int)≠i→z=Df (Ej n fun b=>Ws[k] (b:Int))):=by
   unfold Q6;by_cases ci:(k:Int)=i
   ·refine⟨0, ?_,fun hc=>absurd ci hc⟩
    have hw:=hz k hk ci;have key:=Bn (fun v=>Gb ways i (Df (((Ws.map fun w=>Ej n fun b=>w (b:Int)).take k).prod)) (k:Int) v.1 v.2) (fun j=>((0:Int),(j:Int))) 0 0 (fun i hi=>by omega) ?_
    ·exact key
    ·simp only [Gb,Cq,hw];rfl
   ·obtain⟨w1,w2⟩:=h.at_ k hk ci
    refine⟨_, ?_,fun _=>rfl⟩
    have key:=Bn (fun v=>Gb ways i (Df (((Ws.map fun w=>Ej n fun b=>w (b:Int)).take k).prod)) (k:Int) v.1 v.2) (fun j=>(Df (Ej j fun b=>Ws[k] (b:Int)),(j:Int))) n (Df (Ej n fun b=>Ws[k] (b:Int))) ?_ ?_
    ·exact key
    ·intro j hj;simp only [Gb,Cq];rw [if_pos (by omega),BC (by omega),w2 j hj,Ux,CB,Gc j (by omega),EU]
    ·simp only [Gb,Cq];rw [if_neg (by omega)]
  obtain⟨z,hz1,hz2⟩:=inner;simp only [L9];rw [if_pos (by omega),BC (by omega),hz1,CB,et,Gc k (by omega)]
  by_cases ci:(k:Int)=i
  ·rw [if_pos ci]
   have:(Ej n fun b=>Ws[k] (b:Int))=1:=by
    have ha:a<n:=by omega
    rw [iY ha fun b _ hne=>by rw [h.one k hk ci,if_neg (by omega)],h.one k hk ci,if_pos rfl]
   rw [this,TJ]
  ·rw [if_neg ci,hz2 ci,Vw,CB]
 ·simp only [L9];rw [if_neg (by omega),ct (by simp)]
section
variable {E:Ad} {ns es:AX} {n D:Nat} (C:Ctn E ns es n D) (ids inp:AO)
include C
def Rn(M:AX)(v k a:Nat):Bool:=CQ (PI M v k) a
theorem A64{M:AX}(hM:OkM E n M){v k:Nat}{i:Int}(hv:v<E.length)(hk:k<(E.getD v be).length)(hki:(k:Int)≠i)(T:Nat→Nat→Nat→Nat)(t11:AX)(x:Nat):
  Ld (n:Int) (D:Int) ns es E ids inp M (v:Int) i t11 (k:Int) (zw n (T (QH E v k) (Qt E v k))) (ap n 0,0)=some (zw n fun a=>uE E es n (Rn M) T v i x k (a:Int)):=by
 have hn:=C.hn;have hl:=hM.len;have hr:=hM.row v hv;unfold Ld;refine sW (fun w=>Fx (n:Int) (D:Int) ns es E ids inp M (v:Int) i t11 (k:Int) (zw n (T (QH E v k) (Qt E v k))) w.1 w.2) n (fun a=>Df (uE E es n (Rn M) T v i x k (a:Int))) ?_ ?_
 ·intro a w ha hw hwa
  have inner:Lc (n:Int) (D:Int) ns es E ids inp M (v:Int) i t11 (k:Int) (zw n (T (QH E v k) (Qt E v k))) (a:Int) (w,0)=some (w.set a (Df (uE E es n (Rn M) T v i x k (a:Int)))):=by
   have hsi:UO ((M.getD v be).getD k be) (a:Int)=some (Rn M v k a):=mo _ a (hM.le hn hv hk) (by omega)
   have hW:uE E es n (Rn M) T v i x k (a:Int)=if Rn M v k a=true then Ej n fun c=>if KI es (a:Int) (c:Int)=true then T (QH E v k) (Qt E v k) c else 0 else 0:=by
    unfold uE;rw [if_neg hki,Cq]
   unfold Lc;have key:=Bn (fun z=>Fw (n:Int) (D:Int) ns es E ids inp M (v:Int) i t11 (k:Int) (zw n (T (QH E v k) (Qt E v k))) (a:Int) z.1 z.2) (fun j=>(w.set a (Df (if Rn M v k a=true then Ej j fun c=>if KI es (a:Int) (c:Int)=true then T (QH E v k) (Qt E v k) c else 0 else 0)),(j:Int))) n (w.set a (Df (uE E es n (Rn M) T v i x k (a:Int)))) ?_ ?_
   ·have e0:w.set a (Df (if Rn M v k a=true then Ej 0 fun c=>if KI es (a:Int) (c:Int)=true then T (QH E v k) (Qt E v k) c else 0 else 0))=w:=by
     rw [Yn,ite_self,(N8 0).2 rfl,←hwa];exact ik w a (by omega)
    rw [e0,EW]at key;exact key
   ·intro j hj;simp only [Fw,Cq,sV];rw [if_pos (by omega),BC (by omega),BC (by omega),BC (by omega),hsi,CB,Gc j (by omega)]
    cases hm:Rn M v k a with
    |false=>rfl
    |true=>
     rw [if_pos rfl,if_pos rfl,if_pos rfl,BC C.he,EU]
     cases hh:KI es (a:Int) (j:Int)with
     |false=>rfl
     |true=>
      rw [if_pos rfl,if_pos rfl,BC (by rw [Jy];omega),Xj _ _ _ (by omega),A62 _ hj,Ux,CB,jT]
   ·simp only [Fw,Cq,sV];rw [if_neg (by omega),hW]
  simp only [Fx,Cq,MH];rw [if_pos (by omega),inner,CB,Gc a (by omega)]
 ·intro w hw;simp only [Fx,Cq,MH];rw [if_neg (by omega)]
theorem ZV{M:AX}(hM:OkM E n M): ∀(f F v:Nat) (i:Int),f≤F→sZ E f v i→(i= -1∨(0≤i∧i.toNat<(E.getD v be).length))→
  EG F (n:Int) (D:Int) ns es E ids inp M (v:Int) i=some (if i<0 then [Df (NE E ns es n D (Rn M) f v i 0)]else zw n fun a=>if Rn M v i.toNat a=true then NE E ns es n D (Rn M) f v i a else 0)
 |0,F,v,i,_,hd,_=>hd.elim
 |f+1,0,v,i,hF,_,_=>by omega
 |f+1,F+1,v,i,hF,hd,hi=>by
  obtain⟨hv,hd⟩:=hd;have hn:=C.hn;have hl:=hM.len;have hr:=hM.row v hv;have hdeg:=C.hN.deg v hv;have hbig:=C.hN.big;show Mw (EG F) (n:Int) (D:Int) ns es E ids inp M (v:Int) i=_
  unfold Mw
  let T:Nat→Nat→Nat→Nat:=fun u j c=>if Rn M u j c=true then NE E ns es n D (Rn M) f u (j:Int) c else 0
  have hways:Le (EG F) (n:Int) (D:Int) ns es E ids inp M (v:Int) i ([],0)=some ((ao (E.getD v be).length).map fun(k:Nat)=>if(k:Int)=i then []else zw n fun a=>uE E es n (Rn M) T v i 0 k (a:Int)):=by
   unfold Le;have key:=RG (fun w=>Fy (EG F) (n:Int) (D:Int) ns es E ids inp M (v:Int) i w.1 w.2) (ao (E.getD v be).length) (fun(k:Nat)=>if(k:Int)=i then []else zw n fun a=>uE E es n (Rn M) T v i 0 k (a:Int)) ?_ ?_
   ·exact key
   ·intro k hk out ho;rw [Rv]at hk;simp only [Fy,Cq,OU];rw [if_pos (by omega),BC (by omega),BC (by omega),Gc k (by omega)]
    by_cases ci:(k:Int)=i
    ·rw [if_pos ci,if_pos ci,BC (by omega)]
    ·obtain⟨f1,f2,f3,f4,_,_⟩:=C.hN.at hv hk;have ih:=ZV hM f F (QH E v k) (Qt E v k:Nat) (by omega) (hd k hk ci) (.inr (by omega))
     rw [if_neg (by omega),Cq]at ih
     rw [if_neg ci,if_neg ci,f1,f2,ih,CB,A64 C ids inp hM hv hk ci T out 0,CB,BC (by omega)]
   ·intro out ho;simp only [Fy,Cq,Rv];rw [if_neg (by omega)]
  have hsum: ∀a:Nat,(a<n∨i<0)→Oz (n:Int) (D:Int) ns es ((ao (E.getD v be).length).map fun(k:Nat)=>if(k:Int)=i then []else zw n fun a=>uE E es n (Rn M) T v i 0 k (a:Int)) i (a:Int)=some (Df (NE E ns es n D (Rn M) (f+1) v i a)):=by
   intro a ha
   have hrel:RelW n i (a:Int) (wgs E es n (Rn M) T v i a) ((ao (E.getD v be).length).map fun(k:Nat)=>if(k:Int)=i then []else zw n fun a=>uE E es n (Rn M) T v i 0 k (a:Int)):=by
    refine⟨by simp [wgs],fun k hk hki=> ?_,fun k hk hki b=> ?_⟩
    ·rw [P9]at hk;rw [Ac _ _ (by simpa using hk)]
     simp only [PM,OU];rw [if_neg hki]
     refine⟨sV _ _,fun b hb=> ?_⟩
     rw [A62 _ hb,Yq];unfold uE;rw [if_neg hki,if_neg hki]
    ·rw [Yq];unfold uE;rw [if_pos hki]
   have hwl:=P9 E es n (Rn M) T v i a;show _=some (Df (MK n (if(E.getD v be).length=D then gdC ns else fun _=>1) (wgs E es n (Rn M) T v i a) []))
   by_cases hD:(E.getD v be).length=D
   ·rw [if_pos hD];have:=A2e (n:=n) (ns:=ns) es (n:Int) hrel (by omega) (A01 C.hin) C.hs.1 C.hp (fun x hx=>⟨by have:=(C.hc x hx).1;omega,C.hcn x hx⟩)
    rw [show((wgs E es n (Rn M) T v i a).length:Int)=(D:Int) by omega]at this
    exact this
   ·rw [if_neg hD];refine A02 (ns:=ns) es (n:Int) (D:Int) hrel (by omega) hn (by omega) (fun k hk hki=> ?_) ha
    rw [hwl]at hk;rw [Ac _ _ (by simpa using hk)]
    simp only [PM,OU];rw [if_pos hki]
  simp only [Cq];rw [BC (by omega),hways,CB]
  by_cases c0:i<0
  ·have ei:i= -1:=by omega
   have:=hsum 0 (.inr c0)
   rw [ei,EW]at this;rw [if_pos c0,if_pos c0,ei,this];rfl
  ·rw [if_neg c0,if_neg c0,BC (by omega)]
   obtain⟨j,rfl⟩: ∃j:Nat,i=(j:Int):=⟨i.toNat,by omega⟩
   have hj:j<(E.getD v be).length:=by omega
   have hrow:=hM.row v hv;unfold Ni;have key:=sW (fun w=>Fz (n:Int) (D:Int) ns es M (v:Int) (j:Int) ((ao (E.getD v be).length).map fun(k:Nat)=>if(k:Int)=(j:Int)then []else zw n fun a=>uE E es n (Rn M) T v (j:Int) 0 k (a:Int)) w.1 w.2) n (fun a=>Df (if Rn M v j a=true then NE E ns es n D (Rn M) (f+1) v (j:Int) a else 0)) ?_ ?_
   ·rw [key];rfl
   ·intro a w ha hw hwa;have hsi:UO ((M.getD v be).getD j be) (a:Int)=some (Rn M v j a):=mo _ a (hM.le hn hv hj) (by omega)
    simp only [Fz,Cq,MH];rw [if_pos (by omega),BC (by omega),BC (by omega),hsi,CB,Gc a (by omega)]
    cases hm:Rn M v j a with
    |true=>rw [if_pos rfl,if_pos rfl,hsum a (.inl ha),CB,BC (by omega)]
    |false=>
     have e0:Df (if false=true then NE E ns es n D (Rn M) (f+1) v (j:Int) a else 0)=0:=rfl
     rw [if_neg (by decide),e0]
     have:w.set a 0=w:=by rw [←hwa];exact ik w a (by omega)
     rw [this]
   ·intro w hw;simp only [Fz,Cq,MH];rw [if_neg (by omega)]
end

section
variable {E:Ad} {ns es:AX} {n D:Nat} (C:Ctn E ns es n D) (ids inp:AO)
include C
end
section
variable {E:Ad} {ns es:AX} {n D:Nat} (C:Ctn E ns es n D) (ids inp:AO)
include C
end
def at_(o:AO)(x:Nat):Int:=o.getD x be
theorem A03(o:AO)(x y:Nat)(a:Int)(h:x<o.length):at_ (o.set x a) y=if y=x then a else at_ o y:=by
 unfold at_;rw [LQ,LQ,ZZ];by_cases e:y=x
 ·subst e;rw [if_pos rfl,if_pos rfl,if_pos h];rfl
 ·rw [if_neg (fun c=>e c.symm),if_neg e]
inductive Rch(adj:Nat→AO)(v:Nat):Nat→Nat→Prop where
 |z:Rch adj v 0 v
 |s {k x:Nat} {y:Int}:Rch adj v k x→y∈adj x→Rch adj v (k+1) y.toNat
def VC(o:AO):Nat:=o.countP fun x=>decide (x<0)
theorem iq(o:AO)(x:Nat)(a:Int)(h:x<o.length)(h1:at_ o x<0)(ha:0≤a):VC (o.set x a)+1=VC o:=by
 unfold VC at_ at*;rw [Ac _ _ h]at h1;have:=List.countP_set (p:=fun x=>decide (x<0)) (l:=o) (i:=x) (a:=a) h
 rw [this,if_pos (by simpa using h1),if_neg (by simpa using ha)]
 have:0<o.countP fun x=>decide (x<0):=List.countP_pos_iff.2 ⟨o[x],NA h,by simpa using h1⟩
 omega
def Co(w:Nat):AO→AO×AO→AO×AO
 | [],s=>s
 |x::xs,s=>Co w xs (if at_ s.1 x.toNat<0 then(s.1.set x.toNat (at_ s.1 w+1),s.2++[x])else s)
theorem Qr(w:Nat): ∀(xs ys:AO) (s:AO×AO),Co w (xs++ys) s=Co w ys (Co w xs s)
 | [],_,_=>rfl
 |x::xs,ys,s=>by simp only [Xv,Co];exact Qr w xs ys _
def bfs(adj:Nat→AO):Nat→AO→AO→AO
 |0,o,_=>o
 |_+1,o,[]=>o
 |k+1,o,w::q=>bfs adj k (Co w.toNat (adj w.toNat) (o,q)).1 (Co w.toNat (adj w.toNat) (o,q)).2
structure MidB(adj:Nat→AO)(n v w:Nat)(d:Int)(don:AO)(o q:AO):Prop where
 len:o.length=n
 wn:w<n
 ow:at_ o w=d
 d0:0≤d
 qn: ∀x∈q,0≤x∧x.toNat<n∧d≤at_ o x.toNat
 hi: ∀x,x<n→at_ o x≤d+1
 lo: ∀x,x<n→ -1≤at_ o x
 src:at_ o v=0
 rch: ∀x,x<n→0≤at_ o x→Rch adj v (at_ o x).toNat x
 srt:q.Pairwise fun a b=>at_ o a.toNat≤at_ o b.toNat
 cl: ∀x,x<n→0≤at_ o x→(x:Int) ∉ q→x≠w→ ∀y∈adj x,0≤at_ o y.toNat∧at_ o y.toNat≤at_ o x+1
 dn: ∀y∈don,0≤at_ o y.toNat∧at_ o y.toNat≤d+1
 bd:d+1+((q.length+VC o:Nat):Int)≤n
theorem MidB.step{adj:Nat→AO}{n v w:Nat}{d:Int}{don o q:AO}(h:MidB adj n v w d don o q){x:Int}(hx:x∈adj w)(hxn:0≤x∧x.toNat<n):
  MidB adj n v w d (don++[x]) (Co w [x] (o,q)).1 (Co w [x] (o,q)).2:=by
 obtain⟨len,wn,ow,d0,qn,hi,lo,src,rch,srt,cl,dn,bd⟩:=h;simp only [Co];by_cases hn:at_ o x.toNat<0
 ·rw [if_pos hn];have hl:x.toNat<o.length:=by omega
  have hs: ∀y,at_ (o.set x.toNat (at_ o w+1)) y=if y=x.toNat then d+1 else at_ o y:=fun y=>by rw [A03 _ _ _ _ hl,ow]
  have hv:v≠x.toNat:=fun e=>by rw [←e,src]at hn;omega
  have hw:w≠x.toNat:=fun e=>by rw [←e,ow]at hn;omega
  have keep: ∀y:Nat,0≤at_ o y→at_ (o.set x.toNat (at_ o w+1)) y=at_ o y:=fun y hy=>by rw [hs,if_neg (fun e=>by rw [e]at hy;omega)]
  have hng:=iq o x.toNat (at_ o w+1) hl hn (by omega)
  refine⟨by simpa using len,wn,by rw [keep _ (by omega)];exact ow,d0, ?_, ?_, ?_,by rw [keep _ (by omega)];exact src, ?_, ?_, ?_, ?_, ?_⟩
  ·intro y hy;rcases PN.1 hy with h|h
   ·have:=qn y h
    rw [keep _ (by omega)];exact this
   ·rw [WB]at h;subst h;rw [hs,if_pos rfl];omega
  ·intro y hy;rw [hs];split
   ·omega
   ·exact hi y hy
  ·intro y hy;rw [hs];split
   ·omega
   ·exact lo y hy
  ·intro y hy h0;rw [hs]at h0 ⊢;by_cases e:y=x.toNat
   ·subst e;rw [if_pos rfl];have:=rch w wn (by omega)
    rw [ow]at this;have:=Rch.s this hx
    rwa [show(d+1).toNat=d.toNat+1 by omega]
   ·rw [if_neg e]at h0 ⊢;exact rch y hy h0
  ·rw [List.pairwise_append]
   refine⟨srt.imp_of_mem fun {a b} ha hb hab=> ?_,List.pairwise_singleton ..,fun a ha b hb=> ?_⟩
   ·have h1:=qn a ha;have h2:=qn b hb;rw [keep _ (by omega),keep _ (by omega)];exact hab
   ·rw [WB]at hb;subst hb;have h1:=qn a ha;rw [keep _ (by omega),hs,if_pos rfl]
    exact hi _ (by omega)
  ·intro y hy h0 hq hyw z hz;rw [PN,WB,not_or]at hq;have hyx:y≠x.toNat:=fun e=>hq.2 (by omega)
   rw [hs,if_neg hyx]at h0;have:=cl y hy h0 hq.1 hyw z hz
   rw [keep _ this.1,keep _ h0];exact this
  ·intro y hy;rcases PN.1 hy with h|h
   ·have:=dn y h
    rw [keep _ this.1];exact this
   ·rw [WB]at h;subst h;rw [hs,if_pos rfl];omega
  ·show d+1+(((q++[x]).length+VC (o.set x.toNat (at_ o w+1)):Nat):Int)≤n
   rw [Np,W9];omega
 ·rw [if_neg hn]
  refine⟨len,wn,ow,d0,qn,hi,lo,src,rch,srt,cl, ?_,bd⟩
  intro y hy;rcases PN.1 hy with h|h
  ·exact dn y h
  ·rw [WB]at h;subst h;have:=hi y.toNat hxn.2
   show 0≤at_ o y.toNat∧at_ o y.toNat≤d+1
   omega
theorem MidB.steps{adj:Nat→AO}{n v w:Nat}{d:Int}: ∀(xs:AO) {don o q:AO},MidB adj n v w d don o q→(∀x∈xs,x∈adj w∧0≤x∧x.toNat<n)→
  MidB adj n v w d (don++xs) (Co w xs (o,q)).1 (Co w xs (o,q)).2
 | [],don,o,q,h,_=>by simpa [Co] using h
 |x::xs,don,o,q,h,hx=>by
  obtain⟨h1,h2⟩:=hx x Gu;have h3:=MidB.steps xs (h.step h1 h2) (fun y hy=>hx y (PL _ hy));rw [M4]at h3;have:Co w (x::xs) (o,q)=Co w xs (Co w [x] (o,q)):=Qr w [x] xs (o,q)
  rw [this];exact h3
structure InvB(adj:Nat→AO)(n v:Nat)(o q:AO):Prop where
 len:o.length=n
 qn: ∀x∈q,0≤x∧x.toNat<n∧0≤at_ o x.toNat
 hi: ∀h∈q.head?,∀x,x<n→at_ o x≤at_ o h.toNat+1
 lo: ∀x,x<n→ -1≤at_ o x
 src:at_ o v=0
 rch: ∀x,x<n→0≤at_ o x→Rch adj v (at_ o x).toNat x
 srt:q.Pairwise fun a b=>at_ o a.toNat≤at_ o b.toNat
 cl: ∀x,x<n→0≤at_ o x→(x:Int) ∉ q→ ∀y∈adj x,0≤at_ o y.toNat∧at_ o y.toNat≤at_ o x+1
 bd: ∀h∈q.head?,at_ o h.toNat+((q.length+VC o:Nat):Int)≤n
theorem InvB.pop{adj:Nat→AO}{n v:Nat}{o q:AO}{w:Int}(h:InvB adj n v o (w::q)):MidB adj n v w.toNat (at_ o w.toNat) [] o q:=by
 obtain⟨len,qn,hi,lo,src,rch,srt,cl,bd⟩:=h;have h1:=qn w Gu;have h2:=bd w rfl;rw [List.pairwise_cons]at srt
 refine⟨len,h1.2.1,rfl,h1.2.2,fun x hx=> ?_,hi w rfl,lo,src,rch,srt.2,fun x hx h0 hq hw=>cl x hx h0 ?_,(fun y hy=>by cases hy), ?_⟩
 ·have:=qn x (PL _ hx)
  exact⟨this.1,this.2.1,srt.1 x hx⟩
 ·rw [Rw,not_or]
  exact⟨fun e=>hw (by omega),hq⟩
 ·simp only [Jw]at h2;omega
theorem MidB.fin{adj:Nat→AO}{n v w:Nat}{d:Int}{o q:AO}(h:MidB adj n v w d (adj w) o q):InvB adj n v o q:=by
 obtain⟨len,wn,ow,d0,qn,hi,lo,src,rch,srt,cl,dn,bd⟩:=h
 refine⟨len,fun x hx=> ?_,fun x hx y hy=> ?_,lo,src,rch,srt,fun x hx h0 hq=> ?_,fun x hx=> ?_⟩
 ·have:=qn x hx;omega
 ·have h1:=(qn x (List.mem_of_mem_head? hx)).2.2;have:=hi y hy
  omega
 ·by_cases e:x=w
  ·subst e;intro y hy;rw [ow];exact dn y hy
  ·exact cl x hx h0 hq e
 ·have h1:=qn x (List.mem_of_mem_head? hx);have:=hi x.toNat h1.2.1
  omega
theorem InvB.next{adj:Nat→AO}{n v:Nat}{o q:AO}{w:Int}(hA: ∀x,x<n→ ∀y∈adj x,0≤y∧y.toNat<n)(h:InvB adj n v o (w::q)):
  InvB adj n v (Co w.toNat (adj w.toNat) (o,q)).1 (Co w.toNat (adj w.toNat) (o,q)).2:=by
 have h1:=h.pop;have h2:=MidB.steps (adj w.toNat) h1 (fun x hx=>⟨hx,hA _ h1.wn x hx⟩);rw [PO]at h2;exact h2.fin
theorem Uc(w:Nat)(n:Nat): ∀(xs o q:AO),o.length=n→0≤at_ o w→(∀x∈xs,x.toNat<n)→
  (Co w xs (o,q)).2.length+VC (Co w xs (o,q)).1=q.length+VC o
 | [],_,_,_,_,_=>rfl
 |x::xs,o,q,hl,hw,hx=>by
  simp only [Co];have hx':=fun y hy=>hx y (PL _ hy);have h0:=hx x Gu;by_cases h:at_ o x.toNat<0
  ·rw [if_pos h];have e:w≠x.toNat:=fun e=>by rw [e]at hw;omega
   have hlx:x.toNat<o.length:=by rw [hl];exact h0
   rw [Uc w n xs _ _ (by simpa using hl) (by rw [A03 _ _ _ _ hlx,if_neg e];exact hw) hx']
   have:=iq o x.toNat (at_ o w+1) hlx h (by omega)
   rw [Np,W9];omega
  ·rw [if_neg h];exact Uc w n xs o q hl hw hx'
structure FinB(adj:Nat→AO)(n v:Nat)(o:AO):Prop where
 len:o.length=n
 lo: ∀x,x<n→ -1≤at_ o x
 hi: ∀x,x<n→at_ o x≤n
 rch: ∀x,x<n→0≤at_ o x→Rch adj v (at_ o x).toNat x
 all: ∀k x,Rch adj v k x→0≤at_ o x∧at_ o x≤k
theorem Xk{σ ρ:Type}(adj:Nat→AO)(n v:Nat)(hv:v<n)(hA: ∀x,x<n→ ∀y∈adj x,0≤y∧y.toNat<n)(f:σ→Option (σ⊕ρ))(mk:AO→AO→AO→σ)(fin:AO→ρ)
  (h1: ∀don o w q,InvB adj n v o (w::q)→don.length+(w::q).length+VC o≤n→f (mk don o (w::q))=some (.inl (mk (don++[w]) (Co w.toNat (adj w.toNat) (o,q)).1 (Co w.toNat (adj w.toNat) (o,q)).2)))
  (h2: ∀don o,o.length=n→don.length≤n→f (mk don o [])=some (.inr (fin o))):
  ∀m don o q,InvB adj n v o q→q.length+VC o≤m→(∀x,x<n→at_ o x≤n)→don.length+q.length+VC o≤n→Dq f (mk don o q)=some (fin (bfs adj m o q))∧FinB adj n v (bfs adj m o q):=by
 have fin0: ∀o,InvB adj n v o []→(∀x,x<n→at_ o x≤n)→FinB adj n v o:=by
  intro o hI hn
  refine⟨hI.len,hI.lo,hn,hI.rch,fun k x hr=> ?_⟩
  have key: ∀k x,Rch adj v k x→x<n∧0≤at_ o x∧at_ o x≤k:=by
   intro k x hr
   induction hr with
   |z=>exact⟨hv,by rw [hI.src];omega,by rw [hI.src];omega⟩
   |s hr hy ih=>
    obtain⟨i1,i2,i3⟩:=ih;have:=hI.cl _ i1 i2 (by simp) _ hy
    exact⟨(hA _ i1 _ hy).2,this.1,by omega⟩
  exact(key k x hr).2
 intro m
 induction m with
 |zero=>
  intro don o q hI hm hn hd;have hq:q=[]:=uG (by omega)
  subst hq
  exact⟨E8 (h2 don o hI.len (by omega)),fin0 o hI hn⟩
 |succ m ih=>
  intro don o q hI hm hn hd
  cases q with
  |nil=>exact⟨E8 (h2 don o hI.len (by omega)),fin0 o hI hn⟩
  |cons w q=>
   have hp:=hI.pop;have hme:=Uc w.toNat n (adj w.toNat) o q hI.len hp.d0 (fun x hx=>(hA _ hp.wn x hx).2);have hx:=hI.next hA;simp only [Jw]at hm hd;have hq:(Co w.toNat (adj w.toNat) (o,q)).2.length+VC (Co w.toNat (adj w.toNat) (o,q)).1=q.length+VC o:=hme;have h3:=MidB.steps (adj w.toNat) hp (fun x hx=>⟨hx,hA _ hp.wn x hx⟩);have:=ih (don++[w]) _ _ hx (by omega) (fun x hx'=>by have a:=h3.hi x hx';have b:=h3.bd;omega) (by rw [Np,W9];omega)
   rw [Lh (h1 don o w q hI (by simp only [Jw];omega))]
   exact this
def ME(n v:Nat):AO:=(ap n (-1)).set v 0
theorem PK(n v x:Nat)(hv:v<n)(hx:x<n):at_ (ME n v) x=if x=v then 0 else-1:=by
 unfold ME;rw [A03 _ _ _ _ (by simpa using hv)]
 split
 ·rfl
 ·unfold at_;rw [Ac _ _ (by simpa using hx)];simp
theorem TA(adj:Nat→AO)(n v:Nat)(hv:v<n):InvB adj n v (ME n v) [(v:Int)]∧1+VC (ME n v)=n∧(∀x,x<n→at_ (ME n v) x≤n):=by
 have hl:(ME n v).length=n:=by simp [ME]
 have hneg:VC (ME n v)+1=n:=by
  unfold ME;have:at_ (ap n (-1)) v<0:=by unfold at_;rw [Ac _ _ (by simpa using hv)];simp
  rw [iq _ v 0 (by simpa using hv) this (by omega)]
  unfold VC;rw [List.countP_replicate];simp
 have h0:at_ (ME n v) v=0:=by rw [PK n v v hv hv,if_pos rfl]
 refine⟨⟨hl, ?_, ?_, ?_,h0, ?_,List.pairwise_singleton .., ?_, ?_⟩,by omega, ?_⟩
 ·intro x hx;rw [WB]at hx;subst hx
  rw [Cq,h0];omega
 ·intro h hh x hx;simp only [List.head?_cons,Option.mem_def,Option.some.injEq]at hh;subst hh;rw [Cq,h0,PK n v x hv hx];split<;>omega
 ·intro x hx;rw [PK n v x hv hx];split<;>omega
 ·intro x hx hr;rw [PK n v x hv hx]at hr ⊢;by_cases e:x=v
  ·subst e;rw [if_pos rfl];exact Rch.z
  ·rw [if_neg e]at hr;omega
 ·intro x hx hr hq;rw [PK n v x hv hx]at hr;by_cases e:x=v
  ·subst e;simp at hq
  ·rw [if_neg e]at hr;omega
 ·intro h hh;simp only [List.head?_cons,Option.mem_def,Option.some.injEq]at hh;subst hh;rw [Cq,h0,W9];omega
 ·intro x hx;rw [PK n v x hv hx];split<;>omega
theorem Rch.trans{adj:Nat→AO}{u x:Nat}{k:Nat}(h1:Rch adj u k x): ∀ {l y:Nat},Rch adj x l y→Rch adj u (k+l) y:=by
 intro l y h2
 induction h2 with
 |z=>exact h1
 |s _ hy ih=>exact ih.s hy
theorem Rch.rev{adj:Nat→AO}(hs: ∀x y,y∈adj x→(x:Int)∈adj y.toNat){u x k:Nat}(h:Rch adj u k x):Rch adj x k u:=by
 induction h with
 |z=>exact Rch.z
 |s h1 hy ih=>
  have:=(Rch.s (adj:=adj) Rch.z (hs _ _ hy)).trans ih
  rwa [MM,Nat.add_comm]at this
theorem FinB.conn{adj:Nat→AO}{n v:Nat}{o:AO}(h:FinB adj n v o){x:Nat}(hx:x<n):0≤at_ o x↔ ∃k,Rch adj v k x:=
 ⟨fun h0=>⟨_,h.rch x hx h0⟩,fun⟨k,hk⟩=>(h.all k x hk).1⟩
theorem FinB.near{adj:Nat→AO}{n v:Nat}{o:AO}(h:FinB adj n v o){x:Nat}(hx:x<n){t:Nat}:(0≤at_ o x∧at_ o x≤t)↔ ∃k,k≤t∧Rch adj v k x:=
 ⟨fun⟨h0,h1⟩=>⟨_,by omega,h.rch x hx h0⟩,fun⟨k,hk,hr⟩=>by have:=h.all k x hr;omega⟩
theorem OM{E:Ad}{ids ins:AO}(h:Dt E ids ins=true):E.length≤40∧1≤E.length∧(∀v,v<E.length→(E.getD v be).length≤6)∧
  ∀v i,v<E.length→i<(E.getD v be).length→ ∃w p:Nat,BJ (E.getD v be) i=(w:Int)∧Bu (E.getD v be) i=(p:Int)∧w<E.length∧p<(E.getD w be).length∧BJ (E.getD w be) p=(v:Int)∧Bu (E.getD w be) p=(i:Int):=by
 unfold Dt at h;simp only [El]at h;obtain⟨h1,_,_,_,h5⟩:=h;have h1:=EA.1 h1;have hn: ∀v,v<E.length→XG E v=true:=Ch.1 h5
 refine⟨by omega,by omega,fun v hv=> ?_,fun v i hv hi=> ?_⟩
 ·have:=hn v hv
  rw [PH,El,decide_eq_true_eq]at this;exact this.1
 ·have:=hn v hv
  rw [PH,El]at this;have:=Ch.1 this.2 i hi
  rw [Uv]at this;simp only [El,beq_iff_eq]at this;obtain⟨k1,k2,k3,k4⟩:=this;have k1:=EA.1 k1;have k2:=EA.1 k2
  refine⟨(BJ (E.getD v be) i).toNat,(Bu (E.getD v be) i).toNat,by omega,by omega,by omega,by omega,k3,k4⟩
def Dh(E:Ad)(x:Nat):AO:=(E.getD x be).map (·.1)
theorem Ro(E:Ad)(x:Nat):(Dh E x).length=(E.getD x be).length:=by simp [Dh]
theorem iw(E:Ad)(x i:Nat)(h:i<(Dh E x).length):(Dh E x)[i]=BJ (E.getD x be) i:=by
 have h':i<(E.getD x be).length:=by rwa [Ro]at h
 unfold BJ;rw [Ac _ _ h'];simp [Dh]
theorem QA{E:Ad}{x:Nat}{y:Int}:y∈Dh E x↔ ∃i,i<(E.getD x be).length∧BJ (E.getD x be) i=y:=by
 constructor
 ·intro h;obtain⟨i,hi,rfl⟩:=V4 h
  exact⟨i,by rwa [Ro]at hi,(iw E x i hi).symm⟩
 ·rintro⟨i,hi,rfl⟩
  have hi':i<(Dh E x).length:=by rwa [Ro]
  rw [←iw E x i hi'];exact NA hi'
theorem Xl{E:Ad}{ids ins:AO}(h:Dt E ids ins=true): ∀x,x<E.length→ ∀y∈Dh E x,0≤y∧y.toNat<E.length:=by
 intro x hx y hy;obtain⟨i,hi,rfl⟩:=QA.1 hy;obtain⟨_,_,_,hp⟩:=OM h;obtain⟨w,p,e1,_,hw,_⟩:=hp x i hx hi;omega
theorem A65{E:Ad}{ids ins:AO}(h:Dt E ids ins=true): ∀x y,x<E.length→y∈Dh E x→(x:Int)∈Dh E y.toNat:=by
 intro x y hx hy;obtain⟨i,hi,rfl⟩:=QA.1 hy;obtain⟨_,_,_,hp⟩:=OM h;obtain⟨w,p,e1,_,hw,hpl,b1,_⟩:=hp x i hx hi;rw [e1,Cq];exact QA.2 ⟨p,hpl,b1⟩
def OO(E:Ad)(v:Nat):AO:=bfs (Dh E) E.length (ME E.length v) [(v:Int)]
theorem Ud(w:Nat): ∀(xs:AO) (s:AO×AO),xs.foldl (fun b x=>Co w [x] b) s=Co w xs s
 | [],_=>rfl
 |x::xs,s=>by
  rw [VS,Ud w xs]
  exact(Qr w [x] xs s).symm
theorem tF(E:Ad)(ids ins:AO)(n v w:Nat)(d:Int)(hn:n≤40)(hd:(E.getD w be).length≤6)(hA: ∀y∈Dh E w,0≤y∧y.toNat<n)(queue o q:AO)(hw:queue.getD 0 be=(w:Int))(hM:MidB (Dh E) n v w d [] o q):
  Ik E ids ins queue (o,q,0)=some (Co w (Dh E w) (o,q)):=by
 have key:=U2 (fun x=>DK E ids ins queue x.1 x.2.1 x.2.2) (fun i (b:AO×AO)=>(b.1,b.2,(i:Int))) (fun _ b=> ∃don,MidB (Dh E) n v w d don b.1 b.2) (Dh E w) (fun b x=>Co w [x] b) (fun b=>b) ?_ ?_ (o,q) ⟨[],hM⟩
 ·rw [Ud]at key;exact key.1
 ·rintro i ⟨o',q'⟩ hi ⟨don,h⟩
  have hx:(Dh E w)[i]∈Dh E w:=NA hi;have h0:=hA _ hx
  refine⟨?_,_,h.step hx h0⟩
  have e:=iw E w i hi;rw [Ro]at hi;have hb:=h.bd;have hl:=h.len;have hwn:=h.wn;have how:=h.ow;have hd0:=h.d0;dsimp only at hb hl how;simp only [DK,hw,Cq,←e];rw [if_pos (BU hi),BC ⟨by omega,hi⟩,BC (by omega),Gc i (by omega)]
  simp only [Co];by_cases hneg:at_ o' (Dh E w)[i].toNat<0
  ·rw [if_pos hneg,if_pos (by exact hneg),BC (by omega),BC (by omega)]
   have:bm.wrap (o'.getD w be+1)=at_ o' w+1:=by
    show bm.wrap (at_ o' w+1)=_
    rw [GG _ (by omega)]
   rw [this]
  ·rw [if_neg hneg,if_neg (by exact hneg)]
 ·rintro⟨o',q'⟩ _
  simp only [DK,hw,Cq];rw [Ro,if_neg (Am _)]
theorem Yt{E:Ad}{ids ins:AO}(h:Dt E ids ins=true)(v:Nat)(hv:v<E.length):FinB (Dh E) E.length v (OO E v):=by
 obtain⟨i1,i2,i3⟩:=TA (Dh E) E.length v hv;have:=Xk (Dh E) E.length v hv (Xl h) (fun s:AO×AO=>match s.2 with| []=>some (.inr s.1)|w::q=>some (.inl (Co w.toNat (Dh E w.toNat) (s.1,q)))) (fun _ o q=>(o,q)) (fun o=>o) (fun _ _ _ _ _ _=>rfl) (fun _ _ _ _=>rfl)
  E.length [] (ME E.length v) [(v:Int)] i1 (by simp only [W9];omega) i3 (by simp only [W9,Qu];omega)
 exact this.2
theorem A2k{E:Ad}{ids ins:AO}(h:Dt E ids ins=true)(v:Nat)(hv:v<E.length):J4 E ids ins (v:Int)=some (OO E v):=by
 obtain⟨hn,_,hd,_⟩:=OM h;obtain⟨i1,i2,i3⟩:=TA (Dh E) E.length v hv;have key:=Xk (Dh E) E.length v hv (Xl h) (fun s=>DL E ids ins s.1 s.2) (fun _ o q=>(o,q)) (fun o=>o) ?_ ?_
  E.length [] (ME E.length v) [(v:Int)] i1 (by simp only [W9];omega) i3 (by simp only [W9,Qu];omega)
 ·unfold J4;rw [XN (-1) (E.length:Int) (by omega),CB,Cq,BC (by rw [MH];omega),Cq]
  have:Il E ids ins ((ap E.length (-1)).set v 0,[(v:Int)])=some (OO E v):=key.1
  rw [this];rfl
 ·intro don o w q hI _;have hw:=hI.qn w Gu;have hwn:((w.toNat:Nat):Int)=w:=by omega
  have:=tF E ids ins E.length v w.toNat _ hn (hd _ hw.2.1) (Xl h _ hw.2.1) (w::q) o q (by simpa using hwn.symm) hI.pop
  simp only [DL];rw [if_pos (by simp only [Jw];omega),BC (by simp),BC (by simp),BC (by simpa using ⟨hw.1,hw.2.1⟩),List.drop_one,List.tail_cons,this]
  rfl
 ·intro don o _ _;simp only [DL];rw [if_neg (by simp)]
theorem nA(E:Ad)(ids ins:AO)(v:Nat)(hv:v<E.length)(hd:(E.getD v be).length≤6):UR E ids ins (v:Int)=some (Dh E v):=by
 unfold UR Qf;rw [BC (by omega)]
 have key:=Bn (fun x=>JW E (v:Int) x.1 x.2) (fun i=>(((E.getD v be).take i).map (·.1),(i:Int))) (E.getD v be).length ((E.getD v be).map (·.1)) ?_ ?_
 ·have e:((0:Nat):Int)=0:=rfl;simp only [e,bJ,List.map_nil]at key;rw [key];rfl
 ·intro i hi;simp only [JW,Cq];rw [if_pos (BU hi),BC (by omega),BC (by rw [QD,VQ];omega),Gc i (by omega),List.take_add_one,KP hi,jS]
  unfold BJ;rw [Ac (E.getD v be) _ hi];rfl
 ·simp only [JW,Cq];rw [if_neg (Am _),uM]
theorem Xm(E:Ad)(ids ins:AO)(n v w:Nat)(d:Int)(hn:n≤40)(hd:(E.getD w be).length≤6)(hA: ∀y∈Dh E w,0≤y∧y.toNat<n)(don:AO)(hdon:don.length≤40)(o q:AO)(hM:MidB (Dh E) n v w d [] o q):
  Qg E ids ins (don.length:Int) (Dh E w) (o,don++(w:Int)::q,0)=some ((Co w (Dh E w) (o,q)).1,(don++[(w:Int)])++(Co w (Dh E w) (o,q)).2):=by
 have key:=U2 (fun x=>JY E ids ins (don.length:Int) (Dh E w) x.1 x.2.1 x.2.2) (fun i (b:AO×AO)=>(b.1,(don++[(w:Int)])++b.2,(i:Int))) (fun _ b=> ∃don,MidB (Dh E) n v w d don b.1 b.2) (Dh E w) (fun b x=>Co w [x] b) (fun b=>(b.1,(don++[(w:Int)])++b.2)) ?_ ?_ (o,q) ⟨[],hM⟩
 ·rw [Ud]at key;have e:don++(w:Int)::q=(don++[(w:Int)])++q:=by simp
  rw [e];exact key.1
 ·rintro i ⟨o',q'⟩ hi ⟨don',h⟩
  have hx:(Dh E w)[i]∈Dh E w:=NA hi;have h0:=hA _ hx
  refine⟨?_,_,h.step hx h0⟩
  have hb:=h.bd;have hl:=h.len;have hwn:=h.wn;have how:=h.ow;have hd0:=h.d0;dsimp only at hb hl how;have hi6:i<6:=by rw [Ro]at hi;omega
  have ew:((don++[(w:Int)])++q').getD don.length be=(w:Int):=by
   rw [LQ,M4,Ru (Cc _),WE];rfl
  have el:((don++[(w:Int)])++q').length=don.length+1+q'.length:=by simp;omega
  simp only [JY,Cq,Ac _ _ hi,ew,el];rw [if_pos (BU hi),BC ⟨by omega,hi⟩,BC (by omega),Gc i (by omega)]
  simp only [Co];by_cases hneg:at_ o' (Dh E w)[i].toNat<0
  ·rw [if_pos hneg,if_pos (by exact hneg),BC (by omega),BC (by omega),BC (by omega)]
   have:bm.wrap (o'.getD w be+1)=at_ o' w+1:=by
    show bm.wrap (at_ o' w+1)=_
    rw [GG _ (by omega)]
   rw [this,M4]
  ·rw [if_neg hneg,if_neg (by exact hneg)]
 ·rintro⟨o',q'⟩ _
  simp only [JY];rw [if_neg (Am _)]
theorem A2l{E:Ad}{ids ins:AO}(h:Dt E ids ins=true)(v:Nat)(hv:v<E.length):OI E ids ins (v:Int)=some (OO E v):=by
 obtain⟨hn,_,hd,_⟩:=OM h;obtain⟨i1,i2,i3⟩:=TA (Dh E) E.length v hv;have fill:=dw (fun x=>EE E ids ins (v:Int) x.1 x.2) (ap E.length (0:Int)) (fun _=>(-1:Int)) (0:Int) ?_ ?_
 ·have key:=Xk (Dh E) E.length v hv (Xl h) (fun s=>EF E ids ins s.1 s.2.1 s.2.2) (fun don o q=>(o,don++q,(don.length:Int))) (fun o=>o) ?_ ?_
   E.length [] (ME E.length v) [(v:Int)] i1 (by simp only [W9];omega) i3 (by simp only [W9,Qu];omega)
  ·unfold OI;rw [MH,cw]at fill;rw [BC (by omega)]
   have f2:OG E ids ins (v:Int) (ap E.length 0,0)=some (ap E.length (-1)):=fill;rw [f2,CB,Cq,BC (by rw [MH];omega)]
   have:OH E ids ins ((ap E.length (-1)).set v 0,[(v:Int)],0)=some (OO E v):=key.1
   rw [this];rfl
  ·intro don o w q hI hb;simp only [Jw]at hb;have hw:=hI.qn w Gu;have hwn:((w.toNat:Nat):Int)=w:=by omega
   have:=Xm E ids ins E.length v w.toNat _ hn (hd _ hw.2.1) (Xl h _ hw.2.1) don (by omega) o q hI.pop
   rw [hwn]at this
   have e1:(don++w::q).getD don.length be=w:=by
    rw [LQ,Ru (Cc _),WE];rfl
   have e2:=nA E ids ins w.toNat hw.2.1 (hd _ hw.2.1);rw [hwn]at e2;simp only [EF,Cq,e1];rw [if_pos (by simp only [Np,Jw];omega),BC (by simp only [Np,Jw];omega),e2,CB,this,CB,Gc _ (by omega)]
   simp
  ·intro don o _ _;simp only [EF];rw [if_neg (by simp)]
 ·intro i hi out ho;simp only [MH]at hi ho;simp only [EE,Cq,MH];rw [if_pos (BU hi),BC (by omega),Gc i (by omega)]
 ·intro out ho;simp only [EE,MH];rw [if_neg (Am _)]
theorem PD(n:Nat)(P:Nat→Bool):Bl (n+1) P=(match Bl n P with|some u=>some u|none=>if P n=true then some n else none):=by
 unfold Bl;rw [VT,List.find?_append]
 cases List.find? P (ao n)with
 |some u=>rfl
 |none=>cases h:P n<;>simp [h]
def OY(con:Nat→Nat→Bool)(n v:Nat):AO:=(ao n).map fun x=>match Bl v (fun u=>con u x)with|some u=>(u:Int)|none=> -1
theorem xM(con:Nat→Nat→Bool)(n v:Nat):(OY con n v).length=n:=by simp [OY]
theorem tH(con:Nat→Nat→Bool)(n v x:Nat)(hx:x<n):(OY con n v).getD x be=match Bl v (fun u=>con u x)with|some u=>(u:Int)|none=> -1:=by
 rw [Ac _ _ (by rw [xM];exact hx)]
 simp [OY]
theorem A2m(con:Nat→Nat→Bool)(n:Nat):OY con n 0=ap n (-1):=by
 refine Za (by simp [OY]) fun i h1 h2=> ?_
 simp [OY,Bl]
structure EqvB(con:Nat→Nat→Bool)(n:Nat):Prop where
 rfl': ∀x,x<n→con x x=true
 sym: ∀x y,x<n→y<n→con x y=true→con y x=true
 trn: ∀x y z,x<n→y<n→z<n→con x y=true→con y z=true→con x z=true
theorem A2n{con:Nat→Nat→Bool}{n v:Nat}(h:EqvB con n)(hv:v<n)(h0:0≤(OY con n v).getD v be):OY con n (v+1)=OY con n v:=by
 rw [tH con n v v hv]at h0;refine Za (by simp [OY]) fun x h1 h2=> ?_
 simp only [OY,QD,Rv]at h1;simp only [OY,PM,OU];rw [PD]
 cases e:Bl v (fun u=>con u x)with
 |some u=>rfl
 |none=>
  cases hc:con v x with
  |false=>rfl
  |true=>
   exfalso
   cases e2:Bl v (fun u=>con u v)with
   |none=>rw [e2]at h0;simp at h0
   |some u=>
    obtain⟨q1,q2⟩:=Si e2;have:(Bl v (fun u=>con u x)).isSome=true:=Hz.2 ⟨u,q1,h.trn u v x (by omega) hv h1 q2 hc⟩
    rw [e]at this;cases this
theorem A66{con:Nat→Nat→Bool}{n v:Nat}(h:EqvB con n)(hv:v<n)(h0: ¬0≤(OY con n v).getD v be):OY con n (v+1)=(ao n).map fun x=>if con v x=true then(v:Int)else(OY con n v).getD x be:=by
 rw [tH con n v v hv]at h0;refine Za (by simp [OY]) fun x h1 h2=> ?_
 simp only [OY,QD,Rv]at h1;simp only [PM,OU];rw [tH con n v x h1];simp only [OY,PM,OU];rw [PD]
 cases e:Bl v (fun u=>con u x)with
 |none=>cases hc:con v x<;>rfl
 |some u=>
  cases hc:con v x with
  |false=>rfl
  |true=>
   exfalso;obtain⟨q1,q2⟩:=Si e;have:(Bl v (fun u=>con u v)).isSome=true:=Hz.2 ⟨u,q1,h.trn u x v (by omega) h1 hv q2 (h.sym v x hv h1 hc)⟩
   cases e2:Bl v (fun u=>con u v)with
   |none=>rw [e2]at this;cases this
   |some w=>rw [e2]at h0;simp at h0
def tJ(con:Nat→Nat→Bool)(n x:Nat):Nat:=(Bl n (fun u=>con u x)).getD 0
theorem A67{con:Nat→Nat→Bool}{n:Nat}(h:EqvB con n):OY con n n=(ao n).map fun x=>(tJ con n x:Int):=by
 refine Za (by simp [OY]) fun x h1 h2=> ?_
 simp only [OY,QD,Rv]at h1;simp only [OY,tJ,PM,OU]
 cases e:Bl n (fun u=>con u x)with
 |some u=>rfl
 |none=>
  have:(Bl n (fun u=>con u x)).isSome=true:=Hz.2 ⟨x,h1,h.rfl' x h1⟩
  rw [e]at this;cases this
theorem A68{con:Nat→Nat→Bool}{n x:Nat}(h:EqvB con n)(hx:x<n):Bl n (fun u=>con x u)=some (tJ con n x):=by
 have:Bl n (fun u=>con x u)=Bl n (fun u=>con u x):=by
  have key: ∀m,m≤n→Bl m (fun u=>con x u)=Bl m (fun u=>con u x):=by
   intro m
   induction m with
   |zero=>intro _;rfl
   |succ m ih=>
    intro hm
    have e:con x m=con m x:=by
     rw [V7]
     exact⟨h.sym x m hx (by omega),h.sym m x (by omega) hx⟩
    rw [PD,PD,ih (by omega),e]
  exact key n (Cc _)
 rw [this,tJ]
 cases e:Bl n (fun u=>con u x)with
 |some u=>rfl
 |none=>
  have:(Bl n (fun u=>con u x)).isSome=true:=Hz.2 ⟨x,hx,h.rfl' x hx⟩
  rw [e]at this;cases this
theorem A2o{E:Ad}{ids ins:AO}(h:Dt E ids ins=true): ∀x y,y∈Dh E x→(x:Int)∈Dh E y.toNat:=by
 intro x y hy;by_cases hx:x<E.length
 ·exact A65 h x y hx hy
 ·unfold Dh at hy;rw [LQ,jO (by omega)]at hy
  exact absurd hy (by simp [be])
def LP(E:Ad)(u x:Nat):Bool:=decide (0≤at_ (OO E u) x)
theorem OP{E:Ad}{ids ins:AO}(h:Dt E ids ins=true){u x:Nat}(hu:u<E.length)(hx:x<E.length):LP E u x=true↔ ∃k,Rch (Dh E) u k x:=by
 unfold LP;rw [decide_eq_true_eq]
 exact(Yt h u hu).conn hx
theorem xN{E:Ad}{ids ins:AO}(h:Dt E ids ins=true):EqvB (LP E) E.length:=by
 refine⟨fun x hx=>(OP h hx hx).2 ⟨0,Rch.z⟩,fun x y hx hy hc=> ?_,fun x y z hx hy hz h1 h2=> ?_⟩
 ·obtain⟨k,hk⟩:=(OP h hx hy).1 hc
  exact(OP h hy hx).2 ⟨k,hk.rev (A2o h)⟩
 ·obtain⟨k,hk⟩:=(OP h hx hy).1 h1;obtain⟨l,hl⟩:=(OP h hy hz).1 h2
  exact(OP h hx hz).2 ⟨k+l,hk.trans hl⟩
def VD(E:Ad):AO:=(ao E.length).map fun x=>(tJ (LP E) E.length x:Int)
def lJ(P:List (Nat×Nat))(x:Nat):AO:=P.flatMap fun e=>(if e.1=x then [(e.2:Int)]else [])++(if e.2=x then [(e.1:Int)]else [])
theorem N9{P:List (Nat×Nat)}{x:Nat}{y:Int}:y∈lJ P x↔ ∃e∈P,(e.1=x∧y=(e.2:Int))∨(e.2=x∧y=(e.1:Int)):=by
 unfold lJ;rw [List.mem_flatMap]
 constructor
 ·rintro⟨e,he,h⟩
  refine⟨e,he, ?_⟩
  rcases PN.1 h with h|h
  ·split at h
   ·rename_i c;rw [WB]at h;exact .inl ⟨c,h⟩
   ·cases h
  ·split at h
   ·rename_i c;rw [WB]at h;exact .inr ⟨c,h⟩
   ·cases h
 ·rintro⟨e,he,h⟩
  refine⟨e,he,PN.2 ?_⟩
  rcases h with⟨c,h⟩|⟨c,h⟩
  ·left;rw [if_pos c,h];simp
  ·right;rw [if_pos c,h];simp
def Cn(adj:Nat→AO)(x y:Nat):Prop:= ∃k,Rch adj x k y
theorem Cn.refl{adj:Nat→AO}(x:Nat):Cn adj x x:=⟨0,Rch.z⟩
theorem Cn.trans{adj:Nat→AO}{x y z:Nat}(h1:Cn adj x y)(h2:Cn adj y z):Cn adj x z:=by
 obtain⟨k,hk⟩:=h1;obtain⟨l,hl⟩:=h2
 exact⟨_,hk.trans hl⟩
theorem Cn.of{adj:Nat→AO}{x:Nat}{y:Int}(h:y∈adj x):Cn adj x y.toNat:=⟨1,Rch.s Rch.z h⟩
theorem A69{adj adj':Nat→AO}(h: ∀x y,y∈adj x→y∈adj' x){v k x:Nat}(hr:Rch adj v k x):Rch adj' v k x:=by
 induction hr with
 |z=>exact Rch.z
 |s _ hy ih=>exact Rch.s ih (h _ _ hy)
theorem Cn.mono{adj adj':Nat→AO}(h: ∀x y,y∈adj x→y∈adj' x){x y:Nat}(hr:Cn adj x y):Cn adj' x y:=by
 obtain⟨k,hk⟩:=hr
 exact⟨k,A69 h hk⟩
theorem A6A(P:List (Nat×Nat)): ∀x y,y∈lJ P x→(x:Int)∈lJ P y.toNat:=by
 intro x y h;obtain⟨e,he,h⟩:=N9.1 h;refine N9.2 ⟨e,he, ?_⟩;rcases h with⟨c,h⟩|⟨c,h⟩
 ·right;subst h;exact⟨by omega,by omega⟩
 ·left;subst h;exact⟨by omega,by omega⟩
def CP(P:List (Nat×Nat)):Nat→Nat→Prop:=Cn (lJ P)
theorem CP.symm{P:List (Nat×Nat)}{x y:Nat}(h:CP P x y):CP P y x:=by
 obtain⟨k,hk⟩:=h
 exact⟨k,hk.rev (A6A P)⟩
theorem CP.sub{P Q:List (Nat×Nat)}(h: ∀e∈P,e∈Q){x y:Nat}(hc:CP P x y):CP Q x y:=
 Cn.mono (fun x y hy=>by obtain⟨e,he,q⟩:=N9.1 hy;exact N9.2 ⟨e,h e he,q⟩) hc
theorem CP.edge{P:List (Nat×Nat)}{e:Nat×Nat}(h:e∈P):CP P e.1 e.2:=by
 have:=Cn.of (N9.2 ⟨e,h,.inl ⟨rfl,rfl⟩⟩:(e.2:Int)∈lJ P e.1)
 rwa [Cq]at this
theorem CP.cons{P:List (Nat×Nat)}{e:Nat×Nat}{x y:Nat}:CP (e::P) x y↔CP P x y∨(CP P x e.1∧CP P e.2 y)∨(CP P x e.2∧CP P e.1 y):=by
 have up: ∀ {x y:Nat},CP P x y→CP (e::P) x y:=fun h=>h.sub fun _ he=>PL _ he;have he:CP (e::P) e.1 e.2:=CP.edge Gu
 constructor
 ·rintro⟨k,hk⟩
  induction hk with
  |z=>exact .inl (Cn.refl x)
  | @s k z w _ hw ih=>
   obtain⟨f,hf,hq⟩:=N9.1 hw;rcases Rw.1 hf with rfl|hf
   ·rcases hq with⟨c,q⟩|⟨c,q⟩
    ·rw [q,Cq];subst c;rcases ih with h|⟨h1,h2⟩|⟨h1,h2⟩
     ·exact .inr (.inl ⟨h,Cn.refl _⟩)
     ·exact .inr (.inl ⟨h1,Cn.refl _⟩)
     ·exact .inl h1
    ·rw [q,Cq];subst c;rcases ih with h|⟨h1,h2⟩|⟨h1,h2⟩
     ·exact .inr (.inr ⟨h,Cn.refl _⟩)
     ·exact .inl h1
     ·exact .inr (.inr ⟨h1,Cn.refl _⟩)
   ·have hz:CP P z w.toNat:=Cn.of (N9.2 ⟨f,hf,hq⟩);rcases ih with h|⟨h1,h2⟩|⟨h1,h2⟩
    ·exact .inl (h.trans hz)
    ·exact .inr (.inl ⟨h1,h2.trans hz⟩)
    ·exact .inr (.inr ⟨h1,h2.trans hz⟩)
 ·rintro(h|⟨h1,h2⟩|⟨h1,h2⟩)
  ·exact up h
  ·exact((up h1).trans he).trans (up h2)
  ·exact((up h1).trans he.symm).trans (up h2)
def dcd(p:Prop):Bool:= @decide p (Classical.propDecidable p)
theorem Gx{p:Prop}:dcd p=true↔p:= @decide_eq_true_iff p (Classical.propDecidable p)
def FU(n:Nat)(R:Nat→Nat→Prop):Nat:=(ao n).countP fun v=>dcd (∀u,u<v→ ¬R u v)
theorem iy(p q:Nat→Bool)(r:Nat): ∀n,r<n→p r=true→q r=false→(∀v,v≠r→q v=p v)→(ao n).countP p=(ao n).countP q+1
 |0,h,_,_,_=>by omega
 |n+1,h,hp,hq,hs=>by
  rw [VT,cf,cf,cg,cg];by_cases e:r=n
  ·subst e;rw [if_pos hp,hq];have:(ao r).countP p=(ao r).countP q:=List.countP_congr fun v hv=>by rw [hs v (by have:=Fa.1 hv;omega)]
   rw [this];simp
  ·rw [iy p q r n (by omega) hp hq hs,hs n (fun h=>e h.symm)]
   omega
theorem j3(R:Nat→Nat→Prop)(hr: ∀x,R x x)(a:Nat): ∃r,R r a∧r≤a∧ ∀u,u<r→ ¬R u a:=by
 have key: ∀k x,x≤k→R x a→ ∃r,R r a∧r≤x∧ ∀u,u<r→ ¬R u a:=by
  intro k
  induction k with
  |zero=>
   intro x hx h
   exact⟨x,h,Cc _,fun u hu=>by omega⟩
  |succ k ih=>
   intro x hx h;by_cases c: ∃u,u<x∧R u a
   ·obtain⟨u,hu,h1⟩:=c;obtain⟨r,r1,r2,r3⟩:=ih u (by omega) h1
    exact⟨r,r1,by omega,r3⟩
   ·exact⟨x,h,Cc _,fun u hu h1=>c ⟨u,hu,h1⟩⟩
 obtain⟨r,r1,r2,r3⟩:=key a a (Cc _) (hr a)
 exact⟨r,r1,r2,r3⟩
theorem ZW{n:Nat}{R R':Nat→Nat→Prop}(h: ∀x y,R x y↔R' x y):FU n R=FU n R':=by
 have:R=R':=by funext x y;exact propext (h x y)
 rw [this]
theorem xO{n:Nat}{R R':Nat→Nat→Prop}(hr: ∀x,R x x)(hs: ∀ {x y},R x y→R y x)(ht: ∀ {x y z},R x y→R y z→R x z){a b:Nat}(ha:a<n)(hb:b<n)(hab: ¬R a b)
  (h': ∀x y,R' x y↔R x y∨(R x a∧R b y)∨(R x b∧R a y)):FU n R=FU n R'+1:=by
 obtain⟨ra,a1,a2,a3⟩:=j3 R hr a;obtain⟨rb,b1,b2,b3⟩:=j3 R hr b;have hne:ra≠rb:=fun e=>hab (ht (hs a1) (e▸b1))
 have key: ∀(c d rc rd:Nat),R rc c→R rd d→(∀u,u<rc→ ¬R u c)→(∀u,u<rd→ ¬R u d)→ ¬R c d→rc<rd→rd<n→(∀x y,R' x y↔R x y∨(R x c∧R d y)∨(R x d∧R c y))→FU n R=FU n R'+1:=by
  intro c d rc rd c1 d1 c3 d3 hcd hlt hn hR;unfold FU;refine iy _ _ rd n hn ?_ ?_ ?_
  ·rw [Gx];exact fun u hu h=>d3 u hu (ht h d1)
  ·rw [←jQ,Gx];intro h;exact h rc hlt ((hR _ _).2 (.inr (.inl ⟨c1,hs d1⟩)))
  ·intro v hv
   have hiff:(∀u,u<v→ ¬R' u v)↔(∀u,u<v→ ¬R u v):=by
    constructor
    ·intro h u hu h1;exact h u hu ((hR _ _).2 (.inl h1))
    ·intro h u hu h1
     rcases(hR _ _).1 h1 with h1|⟨h1,h2⟩|⟨h1,h2⟩
     ·exact h u hu h1
     ·
      apply hv
      have e1: ¬rd<v:=fun hl=>h rd hl (ht d1 h2);have e2: ¬v<rd:=fun hl=>d3 v hl (hs h2);omega
     ·
      have e1: ¬rc<v:=fun hl=>h rc hl (ht c1 h2);have: ¬u<rd:=fun hl=>d3 u hl h1
      omega
   rw [V7,Gx,Gx];exact hiff
 rcases Nat.lt_or_gt_of_ne hne with hl|hl
 ·exact key a b ra rb a1 b1 a3 b3 hab hl (by omega) h'
 ·refine key b a rb ra b1 a1 b3 a3 (fun h=>hab (hs h)) hl (by omega) fun x y=> ?_
  rw [h' x y]
  constructor
  ·rintro(h|h|h)
   ·exact .inl h
   ·exact .inr (.inr h)
   ·exact .inr (.inl h)
  ·rintro(h|h|h)
   ·exact .inl h
   ·exact .inr (.inr h)
   ·exact .inr (.inl h)
def bG:List (Nat×Nat)→Prop
 | []=>True
 |e::P=> ¬CP P e.1 e.2∧bG P
theorem A2p(n:Nat):FU n (CP [])=n:=by
 unfold FU
 have:(ao n).countP (fun v=>dcd (∀u,u<v→ ¬CP [] u v))=(ao n).countP (fun _=>true):=by
  refine List.countP_congr fun v _=> ?_;rw [Gx]
  refine⟨fun _=>rfl,fun _ u hu h=> ?_⟩
  obtain⟨k,hk⟩:=h
  have: ∀k x,Rch (lJ []) u k x→x=u:=by
   intro k x hx
   induction hx with
   |z=>rfl
   |s _ hy _=>exact absurd hy (by simp [lJ])
  have:=this k v hk
  omega
 rw [this];simp
theorem j4{n:Nat}{P:List (Nat×Nat)}{e:Nat×Nat}(he:e.1<n∧e.2<n):(CP P e.1 e.2→FU n (CP (e::P))=FU n (CP P))∧(¬CP P e.1 e.2→FU n (CP P)=FU n (CP (e::P))+1):=by
 constructor
 ·intro h;refine ZW fun x y=> ?_;rw [CP.cons]
  constructor
  ·rintro(h1|⟨h1,h2⟩|⟨h1,h2⟩)
   ·exact h1
   ·exact(h1.trans h).trans h2
   ·exact(h1.trans h.symm).trans h2
  ·exact .inl
 ·intro h;exact xO (fun x=>Cn.refl x) (fun h=>CP.symm h) (fun h1 h2=>Cn.trans h1 h2) he.1 he.2 h fun x y=>CP.cons
theorem Xn{n:Nat}: ∀ {P:List (Nat×Nat)},(∀e∈P,e.1<n∧e.2<n)→n≤FU n (CP P)+P.length∧(FU n (CP P)+P.length=n↔bG P)
 | [],_=>by rw [A2p];exact⟨by simp,by simp [bG]⟩
 |e::P,h=>by
  obtain⟨h1,h2⟩:=Xn (P:=P) fun f hf=>h f (PL _ hf);obtain⟨g1,g2⟩:=j4 (P:=P) (h e Gu);rw [Jw];by_cases c:CP P e.1 e.2
  ·rw [g1 c]
   refine⟨by omega,fun hh=>by omega,fun hh=>absurd c hh.1⟩
  ·have:=g2 c
   refine⟨by omega,fun hh=>⟨c,h2.1 (by omega)⟩,fun hh=> ?_⟩
   have:=h2.2 hh.2
   omega
def AFW(P:List (Nat×Nat)):Prop:= ∀A e B,P=A++e::B→ ¬CP (A++B) e.1 e.2
theorem A2q{n:Nat}{P:List (Nat×Nat)}(h: ∀e∈P,e.1<n∧e.2<n):AFW P↔bG P:=by
 constructor
 ·clear h
  induction P with
  |nil=>intro _;trivial
  |cons e P ih=>
   intro ha
   refine⟨ha [] e P rfl,ih fun A f B hP hc=> ?_⟩
   subst hP;exact ha (e::A) f B rfl (hc.sub fun g hg=>PL _ hg)
 ·intro hj A e B hP hc;subst hP;have hmem: ∀f,f∈A++e::B↔f∈e::(A++B):=fun f=>by simp [or_left_comm]
  have e1:FU n (CP (A++e::B))=FU n (CP (A++B)):=by
   rw [←(j4 (P:=A++B) (h e (by simp))).1 hc]
   exact ZW fun x y=>⟨fun q=>q.sub fun f hf=>(hmem f).1 hf,fun q=>q.sub fun f hf=>(hmem f).2 hf⟩
  have e2:=(Xn h).2.2 hj
  have e3:=(Xn (n:=n) (P:=A++B) fun f hf=>h f (by
   rcases PN.1 hf with hf|hf
   ·exact cx _ hf
   ·exact cy _ (PL _ hf))).1
  simp only [Np,Jw]at e2 e3;omega
theorem A04{n:Nat}{P:List (Nat×Nat)}(h: ∀e∈P,e.1<n∧e.2<n):P.length=n-FU n (CP P)↔AFW P:=by
 rw [A2q h,←(Xn h).2]
 have hl:FU n (CP P)≤n:=by
  unfold FU;exact VW cj (by simp)
 omega
theorem A05{E:Ad}(ids ins:AO)(hn:E.length≤40)(hd: ∀v,v<E.length→(E.getD v be).length≤6)(hA: ∀x,x<E.length→ ∀y∈Dh E x,0≤y∧y.toNat<E.length)(v:Nat)(hv:v<E.length):
  OI E ids ins (v:Int)=some (OO E v)∧FinB (Dh E) E.length v (OO E v):=by
 obtain⟨i1,i2,i3⟩:=TA (Dh E) E.length v hv;have fill:=dw (fun x=>EE E ids ins (v:Int) x.1 x.2) (ap E.length (0:Int)) (fun _=>(-1:Int)) (0:Int) ?_ ?_
 ·have key:=Xk (Dh E) E.length v hv hA (fun s=>EF E ids ins s.1 s.2.1 s.2.2) (fun don o q=>(o,don++q,(don.length:Int))) (fun o=>o) ?_ ?_
   E.length [] (ME E.length v) [(v:Int)] i1 (by simp only [W9];omega) i3 (by simp only [W9,Qu];omega)
  ·refine⟨?_,key.2⟩
   unfold OI;rw [MH,cw]at fill;rw [BC (by omega)]
   have f2:OG E ids ins (v:Int) (ap E.length 0,0)=some (ap E.length (-1)):=fill;rw [f2,CB,Cq,BC (by rw [MH];omega)]
   have:OH E ids ins ((ap E.length (-1)).set v 0,[(v:Int)],0)=some (OO E v):=key.1
   rw [this];rfl
  ·intro don o w q hI hb;simp only [Jw]at hb;have hw:=hI.qn w Gu;have hwn:((w.toNat:Nat):Int)=w:=by omega
   have:=Xm E ids ins E.length v w.toNat _ hn (hd _ hw.2.1) (hA _ hw.2.1) don (by omega) o q hI.pop
   rw [hwn]at this
   have e1:(don++w::q).getD don.length be=w:=by
    rw [LQ,Ru (Cc _),WE];rfl
   have e2:=nA E ids ins w.toNat hw.2.1 (hd _ hw.2.1);rw [hwn]at e2;simp only [EF,Cq,e1];rw [if_pos (by simp only [Np,Jw];omega),BC (by simp only [Np,Jw];omega),e2,CB,this,CB,Gc _ (by omega)]
   simp
  ·intro don o _ _;simp only [EF];rw [if_neg (by simp)]
 ·intro i hi out ho;simp only [MH]at hi ho;simp only [EE,Cq,MH];rw [if_pos (BU hi),BC (by omega),Gc i (by omega)]
 ·intro out ho;simp only [EE,MH];rw [if_neg (Am _)]
def Rp(E:Ad):List (List Bool):=(ao E.length).map fun v=>ap (E.getD v be).length true
theorem A2r{E:Ad}(ids ins:AO)(hn:E.length≤40)(h6: ∀v,v<E.length→(E.getD v be).length≤6):XX E ids ins=some (Rp E):=by
 unfold XX Sm;have key:=RG (fun x=>Kr E x.1 x.2) (ao E.length) (fun v=>ap (E.getD v be).length true) ?_ ?_
 ·rw [key];rfl
 ·intro v hv out ho;rw [Rv]at hv;have hl:=h6 v hv
  have inner:Pz E out (v:Int) (ap (E.getD v be).length false,0)=some (ap (E.getD v be).length true):=by
   unfold Pz;have k2:=dw (fun x=>Kq E out (v:Int) x.1 x.2) (ap (E.getD v be).length false) (fun _=>true) false ?_ ?_
   ·rw [MH,cw]at k2;exact k2
   ·intro i hi o2 ho2;rw [MH]at hi ho2;simp only [Kq,Cq,MH];rw [if_pos (BU hi),BC (by omega),Gc i (by omega)]
   ·intro o2 ho2;simp only [Kq,Cq,MH];rw [if_neg (Am _)]
  simp only [Kr,Cq,OU];rw [if_pos (BU hv),BC (by omega),BC (by omega),inner,CB,BC (by omega),Gc v (by omega)]
 ·intro out ho;simp only [Kr,Rv];rw [if_neg (Am _)]
def kpt(K:List (List Bool))(x y:Nat):Bool:=(K.getD x be).getD y be
structure ShK{α:Type}(E:Ad)(K:List (List α)):Prop where
 len:K.length=E.length
 row: ∀v,v<E.length→(K.getD v be).length=(E.getD v be).length
theorem A8O{E:Ad}(ids ins:AO)(hn:E.length≤40)(h6: ∀v,v<E.length→(E.getD v be).length≤6){K:List (List Bool)}(hK:ShK E K): ∃T,Q3 E ids ins K (ap E.length [],0)=some T∧ShK E T:=by
 have hkl:=hK.len;unfold Q3;have key:=SL (fun x=>Mm E ids ins K x.1 x.2) (fun n s=> ∃v:Nat,n=E.length-v∧v≤E.length∧s.2=(v:Int)∧s.1.length=E.length∧(∀x,x<v→(s.1.getD x be).length=(E.getD x be).length)∧ ∀x,v≤x→x<E.length→s.1.getD x be=[])
  (fun T=>ShK E T) ?_ E.length (ap E.length ([]:AO),(0:Int)) ⟨0,rfl,by omega,rfl,by simp,fun x hx=>by omega,fun x _ hx=>by rw [Ac _ _ (by simpa using hx),List.getElem_replicate]⟩
 ·exact key
 ·rintro n ⟨T,v'⟩ ⟨v,hn',hv,ev,hl,h1,h2⟩
  dsimp only at ev hl h1 h2;subst ev;simp only [Mm];by_cases c:v<E.length
  ·have hd:=h6 v c;have hkr:=hK.row v c;rw [if_pos (by omega),BC (by omega)]
   have k2:=SL (fun x=>Ml E ids ins K (v:Int) x.1 x.2.1 x.2.2) (fun n s=> ∃i k:Nat,n=(E.getD v be).length-i∧i≤(E.getD v be).length∧k≤i∧s.2.2=(i:Int)∧s.2.1=(k:Int)∧s.1.length=E.length∧(s.1.getD v be).length=i∧ ∀x,x≠v→s.1.getD x be=T.getD x be)
    (fun T'=>T'.length=E.length∧(T'.getD v be).length=(E.getD v be).length∧ ∀x,x≠v→T'.getD x be=T.getD x be) ?_ (E.getD v be).length (T,(0:Int),(0:Int)) ⟨0,0,rfl,by omega,by omega,rfl,rfl,hl,by rw [h2 v (by omega) c];rfl,fun _ _=>rfl⟩
   ·obtain⟨T',e1,e2,e3,e4⟩:=k2;have e1':Sn E ids ins K (v:Int) (T,0,0)=some T':=e1;rw [e1',CB,Gc v (by omega)]
    left
    refine⟨_,E.length-(v+1),rfl,by omega,v+1,rfl,by omega,rfl,e2,fun x hx=> ?_,fun x hx hx2=> ?_⟩
    ·dsimp only;by_cases e:x=v
     ·rw [e];exact e3
     ·rw [e4 x e];exact h1 x (by omega)
    ·dsimp only;rw [e4 x (by omega)]
     exact h2 x (by omega) hx2
   ·rintro n2 ⟨T2,k',i'⟩ ⟨i,k,hn2,hi,hki,ei,ek,g1,g2,g3⟩
    dsimp only at ei ek g1 g2 g3;subst ei;subst ek;simp only [Ml,Cq];by_cases c2:i<(E.getD v be).length
    ·have fin: ∀(z:Int),(T2.set v (T2.getD v be++[z])).length=E.length∧((T2.set v (T2.getD v be++[z])).getD v be).length=i+1∧ ∀x,x≠v→(T2.set v (T2.getD v be++[z])).getD x be=T.getD x be:=by
      intro z
      refine⟨by rw [Jy];exact g1, ?_,fun x hx=> ?_⟩
      ·rw [Ac _ _ (by rw [Jy];omega),uI,Np,g2];rfl
      ·rw [LQ,A1K (fun e=>hx e.symm),←LQ];exact g3 x hx
     rw [if_pos (by omega),BC (by omega),BC (by omega),BC (by omega),BC (by omega),Gc i (by omega),Gc k (by omega)]
     left
     split
     ·exact⟨_,(E.getD v be).length-(i+1),rfl,by omega,i+1,k+1,rfl,by omega,by omega,rfl,rfl,fin _⟩
     ·exact⟨_,(E.getD v be).length-(i+1),rfl,by omega,i+1,k,rfl,by omega,by omega,rfl,rfl,fin _⟩
    ·rw [if_neg (by omega)]
     right
     exact⟨_,rfl,g1,by omega,g3⟩
  ·rw [if_neg (by omega)]
   right
   exact⟨_,rfl,hl,fun x hx=>h1 x (by omega)⟩
def ZX(E:Ad)(K:List (List Bool))(x:Nat):List Nat:=(ao (E.getD x be).length).filter (kpt K x)
theorem A6B{E:Ad}(ids ins:AO)(hn:E.length≤40)(h6: ∀v,v<E.length→(E.getD v be).length≤6)(hp: ∀v i,v<E.length→i<(E.getD v be).length→ ∃w p:Nat,BJ (E.getD v be) i=(w:Int)∧Bu (E.getD v be) i=(p:Int)∧w<E.length∧p<(E.getD w be).length)(h1:ids.length<1099511627776)(h2:ins.length<1099511627776){K:List (List Bool)}(hK:ShK E K):
  ∃E',Uw E ids ins K=some (E',ids,ins)∧E'.length=E.length∧ ∀x,x<E.length→(E'.getD x be).map (·.1)=(ZX E K x).map (BJ (E.getD x be)):=by
 obtain⟨T,t1,t2⟩:=A8O ids ins hn h6 hK;have hkl:=hK.len;have htl:=t2.len
 refine⟨(ao E.length).map fun x=>(ZX E K x).map fun y=>(BJ (E.getD x be) y,(T.getD (BJ (E.getD x be) y).toNat be).getD (Bu (E.getD x be) y).toNat be), ?_,by simp,fun x hx=> ?_⟩
 ·unfold Uw KZ;rw [BC (by omega),t1,CB,BC (by omega),CB,BC (by omega),CB]
  have key:=RG (fun w=>Ky E K T ids ins w.1 w.2) (ao E.length) (fun x=>(ZX E K x).map fun y=>(BJ (E.getD x be) y,(T.getD (BJ (E.getD x be) y).toNat be).getD (Bu (E.getD x be) y).toNat be)) ?_ ?_
  ·unfold Sq;rw [key];rfl
  ·intro x hx out ho;rw [Rv]at hx;have hd:=h6 x hx;have hkr:=hK.row x hx;simp only [Ky,OU]
   have inner:Q4 E K T ids ins out (x:Int) ([],0)=some ((ZX E K x).map fun y=>(BJ (E.getD x be) y,(T.getD (BJ (E.getD x be) y).toNat be).getD (Bu (E.getD x be) y).toNat be)):=by
    unfold Q4 ZX;have k2:=Bn (fun w=>Kv E K T ids ins out (x:Int) w.1 w.2) (fun i=>(((ao i).filter (kpt K x)).map fun y=>(BJ (E.getD x be) y,(T.getD (BJ (E.getD x be) y).toNat be).getD (Bu (E.getD x be) y).toNat be),(i:Int))) (E.getD x be).length (((ao (E.getD x be).length).filter (kpt K x)).map fun y=>(BJ (E.getD x be) y,(T.getD (BJ (E.getD x be) y).toNat be).getD (Bu (E.getD x be) y).toNat be)) ?_ ?_
    ·exact k2
    ·intro i hi;obtain⟨w,p,q1,q2,q3,q4⟩:=hp x i hx hi;have htr:=t2.row w q3;have hfl:((ao i).filter (kpt K x)).length≤i:=VW (A1J _ _) (by simp)
     simp only [Kv,Cq,q1,q2,QD];rw [if_pos (BU hi),BC (by omega),BC (by omega),BC (by omega),Gc i (by omega),VT,xY,jS]
     by_cases c:(K.getD x be).getD i be=true
     ·have c':kpt K x i=true:=c;rw [if_pos c,BC (by omega),BC (by omega),BC (by omega)]
      simp only [c',List.filter_cons,List.filter_nil,if_true,VU,List.map_nil,q1,q2,Cq]
     ·have c':kpt K x i=false:=G8.2 c;rw [if_neg c];simp [c']
    ·simp only [Kv,Cq];rw [if_neg (Am _)]
   rw [if_pos (BU hx),BC (by omega),inner,CB,BC (by omega),Gc x (by omega)]
  ·intro out ho;simp only [Ky,Rv];rw [if_neg (Am _)]
 ·rw [Ac _ _ (by simpa using hx)]
  simp only [PM,OU,List.map_map];rfl
def j5(E:Ad)(v i:Nat):Bool:=decide ((v:Int)<BJ (E.getD v be) i)||(decide ((v:Int)=BJ (E.getD v be) i)&&decide ((i:Int)≤Bu (E.getD v be) i))
def uF(E:Ad)(v:Nat):Nat→List (Int×Int×Int×Int)
 |0=>[]
 |i+1=>if j5 E v i=true then uF E v i++[((v:Int),(i:Int),BJ (E.getD v be) i,Bu (E.getD v be) i)]else uF E v i
def j6(E:Ad):Nat→List (Int×Int×Int×Int)
 |0=>[]
 |v+1=>j6 E v++uF E v (E.getD v be).length
theorem tO(E:Ad)(v:Nat): ∀i,(uF E v i).length≤i
 |0=>Cc _
 |i+1=>by
  have:=tO E v i
  unfold uF;split
  ·rw [Np,W9];omega
  ·omega
theorem tQ(E:Ad)(h: ∀v,v<E.length→(E.getD v be).length≤6): ∀v,v≤E.length→(j6 E v).length≤6*v
 |0,_=>Cc _
 |v+1,hv=>by
  have h1:=tQ E h v (by omega)
  have h2:=tO E v (E.getD v be).length;have h3:=h v (by omega)
  unfold j6;rw [Np];omega
theorem bH(E:Ad)(v:Nat)(x:Int×Int×Int×Int): ∀n,x∈uF E v n↔ ∃i,i<n∧j5 E v i=true∧x=((v:Int),(i:Int),BJ (E.getD v be) i,Bu (E.getD v be) i)
 |0=>by simp [uF]
 |n+1=>by
  have ih:=bH E v x n;unfold uF;split
  ·rename_i hc
   rw [PN,WB,ih]
   constructor
   ·rintro(⟨i,h1,h2,h3⟩|h)
    ·exact⟨i,by omega,h2,h3⟩
    ·exact⟨n,by omega,hc,h⟩
   ·rintro⟨i,h1,h2,h3⟩
    by_cases e:i=n
    ·subst e;exact .inr h3
    ·exact .inl ⟨i,by omega,h2,h3⟩
  ·rename_i hc
   rw [ih]
   constructor
   ·rintro⟨i,h1,h2,h3⟩;exact⟨i,by omega,h2,h3⟩
   ·rintro⟨i,h1,h2,h3⟩
    by_cases e:i=n
    ·subst e;exact absurd h2 hc
    ·exact⟨i,by omega,h2,h3⟩
theorem tT(E:Ad)(x:Int×Int×Int×Int): ∀n,x∈j6 E n↔ ∃v i,v<n∧i<(E.getD v be).length∧j5 E v i=true∧x=((v:Int),(i:Int),BJ (E.getD v be) i,Bu (E.getD v be) i)
 |0=>by simp [j6]
 |n+1=>by
  unfold j6;rw [PN,tT E x n,bH]
  constructor
  ·rintro(⟨v,i,h1,h2⟩|⟨i,h1,h2⟩)
   ·exact⟨v,i,by omega,h2⟩
   ·exact⟨n,i,by omega,h1,h2⟩
  ·rintro⟨v,i,h1,h2,h3⟩
   by_cases e:v=n
   ·subst e;exact .inr ⟨i,h2,h3⟩
   ·exact .inl ⟨v,i,by omega,h2,h3⟩
theorem A6C(E:Ad)(v:Nat)(out:List (Int×Int×Int×Int))(hd:(E.getD v be).length≤6)(ho:out.length≤1000):
  FT E (v:Int) (out,0)=some (out++uF E v (E.getD v be).length):=by
 unfold FT;have key:=Bn (fun w=>DR E (v:Int) w.1 w.2) (fun i=>(out++uF E v i,(i:Int))) (E.getD v be).length (out++uF E v (E.getD v be).length) ?_ ?_
 ·have e:((0:Nat):Int)=0:=rfl;simp only [e,uF,TI]at key;exact key
 ·intro i hi;have hl:=tO E v i;have hlen:(out++uF E v i).length*4+4<1099511627776:=by rw [Np];omega
  simp only [DR,Cq];rw [if_pos (BU hi),BC (by omega),Gc i (by omega)]
  have hc:j5 E v i=(decide ((v:Int)<BJ (E.getD v be) i)||(decide ((v:Int)=BJ (E.getD v be) i)&&decide ((i:Int)≤Bu (E.getD v be) i))):=rfl;have hs:uF E v (i+1)=if j5 E v i=true then uF E v i++[((v:Int),(i:Int),BJ (E.getD v be) i,Bu (E.getD v be) i)]else uF E v i:=rfl
  rw [hs];by_cases c1:(v:Int)<BJ (E.getD v be) i
  ·rw [if_pos c1,BC hlen,if_pos (by rw [hc,decide_eq_true c1];rfl),M4]
  ·rw [if_neg c1];by_cases c2:(v:Int)=BJ (E.getD v be) i
   ·rw [if_pos c2];by_cases c3:(i:Int)≤Bu (E.getD v be) i
    ·rw [if_pos c3,BC hlen,if_pos (by rw [hc,decide_eq_true c2,decide_eq_true c3,Zc,Bool.or_true]),M4]
    ·rw [if_neg c3,if_neg (by rw [hc,decide_eq_false c1,decide_eq_false c3,Bool.and_false];simp)]
   ·rw [if_neg c2,if_neg (by rw [hc,decide_eq_false c1,decide_eq_false c2];simp)]
 ·simp only [DR,Cq];rw [if_neg (Am _)]
theorem A6D(E:Ad)(ids ins:AO)(hE:E.length≤40)(hd: ∀v,v<E.length→(E.getD v be).length≤6):J5 E ids ins=some (j6 E E.length):=by
 unfold J5 Im;have key:=Bn (fun w=>DT E w.1 w.2) (fun v=>(j6 E v,(v:Int))) E.length (j6 E E.length) ?_ ?_
 ·have e:((0:Nat):Int)=0:=rfl;simp only [e]at key;rw [show(([],0):List (Int×Int×Int×Int)×Int)=(j6 E 0,0)from rfl,key];rfl
 ·intro v hv;have hl:=tQ E hd v (by omega)
  simp only [DT];rw [if_pos (BU hv),BC (by omega),A6C E v _ (hd v hv) (by omega),CB,Gc v (by omega)]
  rfl
 ·simp only [DT];rw [if_neg (Am _)]
theorem AFX(L:List (Int×Int×Int×Int))(f:Int→Int→Int→Int→Option Bool)(p:Int×Int×Int×Int→Bool)(hL:L.length<1099511627776)(hf: ∀x∈L,f x.1 x.2.1 x.2.2.1 x.2.2.2=some (p x)):
  Ai L f=some (L.any p):=by
 unfold Ai Aq Ap;have key:=A5I (fun v=>Ae L f v) (fun i=>(i:Int)) L.length (fun i=>p (L.getD i be)) (fun i=> .inl (i:Int)) (.inr ()) ?_ ?_
 ·rw [EW]at key;rw [key]
  have hany:L.any p=(Bl L.length fun i=>p (L.getD i be)).isSome:=by
   rw [V7,Hz,Zb]
   constructor
   ·rintro⟨x,hx,hp⟩
    obtain⟨i,hi,rfl⟩:=V4 hx
    exact⟨i,hi,by rw [Ac _ _ hi];exact hp⟩
   ·rintro⟨i,hi,hp⟩
    rw [Ac _ _ hi]at hp
    exact⟨_,NA hi,hp⟩
  rw [hany]
  cases Bl L.length fun i=>p (L.getD i be)with
  |none=>rfl
  |some i=>simp
 ·intro i hi;have hx:=hf _ (NA hi);simp only [Ae,Cq,q4a,q4b,q4c,q4d];rw [if_pos (BU hi),BC (by omega),Ac _ _ hi,hx,CB,Gc i (by omega)]
 ·simp only [Ae];rw [if_neg (Am _)]
theorem nC(E:Ad)(v:Nat): ∀n,(uF E v n).Nodup
 |0=>List.nodup_nil
 |n+1=>by
  have ih:=nC E v n;unfold uF;split
  ·rw [List.nodup_append]
   refine⟨ih,by simp,fun a ha b hb e=> ?_⟩
   subst e;obtain⟨i,hi,_,rfl⟩:=(bH E v a n).1 ha;simp only [WB,Prod.mk.injEq]at hb;omega
  ·exact ih
theorem nD(E:Ad): ∀n,(j6 E n).Nodup
 |0=>List.nodup_nil
 |n+1=>by
  have ih:=nD E n;unfold j6;rw [List.nodup_append]
  refine⟨ih,nC E n _,fun a ha b hb e=> ?_⟩
  subst e;obtain⟨v,i,hv,_,_,rfl⟩:=(tT E a n).1 ha;obtain⟨j,_,_,he⟩:=(bH E n _ _).1 hb;simp only [Prod.mk.injEq]at he;omega
theorem A06{E:Ad}{ids ins:AO}(h:Dt E ids ins=true):Mk E ids ins=some (VD E):=by
 obtain⟨hn,_,_,_⟩:=OM h;have hq:=xN h
 have inner: ∀v:Nat,v<E.length→ ∀out:AO,out.length=E.length→ ∀r1:AO,J6 E ids ins r1 (v:Int) (OO E v) (out,0)=some ((ao E.length).map fun x=>if LP E v x=true then(v:Int)else out.getD x be):=by
  intro v hv out hout r1;have hF:=Yt h v hv;unfold J6;have key:=Bn (fun w=>ES E ids ins r1 (v:Int) (OO E v) w.1 w.2) (fun i=>((ao E.length).map fun x=>if x<i∧LP E v x=true then(v:Int)else out.getD x be,(i:Int))) E.length ((ao E.length).map fun x=>if LP E v x=true then(v:Int)else out.getD x be) ?_ ?_
  ·have e:((ao E.length).map fun x=>if x<0∧LP E v x=true then(v:Int)else out.getD x be)=out:=by
    refine Za (by simp [hout]) fun i h1 h2=> ?_
    simp only [PM,OU,Nat.not_lt_zero,false_and,if_false];exact Ac _ _ h2
   simp only [e,EW]at key;exact key
  ·intro i hi;simp only [ES,Cq,hF.len];rw [if_pos (BU hi),BC ⟨by omega,hi⟩,Gc i (by omega)]
   have hc:(0≤(OO E v).getD i be)↔LP E v i=true:=by unfold LP at_;rw [decide_eq_true_eq]
   by_cases c:LP E v i=true
   ·rw [if_pos (hc.2 c),BC ⟨by omega,by simpa using hi⟩]
    congr 3
    refine Za (by simp) fun j h1 h2=> ?_
    simp only [Jy,QD,Rv]at h1;simp only [cm,PM,OU];by_cases e:i=j
    ·subst e;rw [if_pos rfl,if_pos ⟨by omega,c⟩]
    ·rw [if_neg e];by_cases e2:j<i
     ·by_cases c2:LP E v j=true
      ·rw [if_pos ⟨e2,c2⟩,if_pos ⟨by omega,c2⟩]
      ·rw [if_neg (fun q=>c2 q.2),if_neg (fun q=>c2 q.2)]
     ·rw [if_neg (fun q=>e2 q.1),if_neg (fun q=>by omega)]
   ·rw [if_neg (fun q=>c (hc.1 q))]
    congr 3
    refine lM fun j _=> ?_;by_cases c2:j<i∧LP E v j=true
    ·rw [if_pos c2,if_pos ⟨by omega,c2.2⟩]
    ·rw [if_neg c2,if_neg (fun q=>c2 ⟨by
      rcases Nat.lt_succ_iff_lt_or_eq.1 q.1 with h1|h1
      ·exact h1
      ·exact absurd (h1▸q.2) c,q.2⟩)]
  ·simp only [ES,hF.len];rw [if_neg (Am _)]
   congr 2
   refine lM fun j hj=> ?_;have hj:=Fa.1 hj;by_cases c2:LP E v j=true
   ·rw [if_pos ⟨hj,c2⟩,if_pos c2]
   ·rw [if_neg (fun q=>c2 q.2),if_neg c2]
 have key:=Bn (fun w=>ET E ids ins (ap E.length (-1)) w.1 w.2) (fun v=>(OY (LP E) E.length v,(v:Int))) E.length (VD E) ?_ ?_
 ·unfold Mk Ll;rw [XN (-1) (E.length:Int) (by omega),CB,Cq]
  simp only [A2m,EW]at key;rw [key];rfl
 ·intro v hv;have hl:=xM (LP E) E.length v;simp only [ET,Cq,MH];rw [if_pos (BU hv),BC ⟨by omega,by omega⟩,Gc v (by omega)]
  by_cases c:0≤(OY (LP E) E.length v).getD v be
  ·rw [if_pos c,A2n hq hv c]
  ·rw [if_neg c,A2k h v hv,CB,inner v hv _ hl,CB,A66 hq hv c]
 ·simp only [ET,MH];rw [if_neg (Am _),A67 hq];rfl
theorem A8P{E:Ad}{ids ins:AO}(h:Dt E ids ins=true)(v:Nat)(hv:v<E.length):UV E ids ins (v:Int) 40=some (((ao E.length).filter (LP E v)).map fun(x:Nat)=>(x:Int)):=by
 obtain⟨hn,_,_,_⟩:=OM h;have hF:=Yt h v hv;unfold UV Qi;rw [A2l h v hv,CB];have key:=Bn (fun w=>Jf 40 (OO E v) w.1 w.2) (fun i=>(((ao i).filter (LP E v)).map fun(x:Nat)=>(x:Int),(i:Int))) E.length (((ao E.length).filter (LP E v)).map fun(x:Nat)=>(x:Int)) ?_ ?_
 ·have e:(((ao 0).filter (LP E v)).map fun(x:Nat)=>(x:Int))=[]:=rfl;simp only [e,EW]at key;rw [key];rfl
 ·intro i hi
  have hl:(((ao i).filter (LP E v)).map fun(x:Nat)=>(x:Int)).length≤i:=by
   rw [QD];exact VW (A1J _ _) (by simp)
  simp only [Jf,Cq,hF.len];rw [if_pos (BU hi),BC ⟨by omega,hi⟩,Gc i (by omega),VT,xY,jS]
  have h1:=hF.hi i hi
  have hc:Jz ((OO E v).getD i be) 0 40=LP E v i:=by
   unfold Jz LP;have:at_ (OO E v) i=(OO E v).getD i be:=rfl
   rw [V7,decide_eq_true_eq,decide_eq_true_eq,this];rw [this]at h1;omega
  rw [hc]
  cases c:LP E v i with
  |true=>rw [if_pos rfl,BC (by omega)];simp [c]
  |false=>rw [if_neg (by decide)];simp [c]
 ·simp only [Jf,hF.len];rw [if_neg (Am _)]
theorem A07(n:Nat)(P:Nat→Bool)(u:Nat)(h:Bl n P=some u): ∃l:List Nat,(ao n).filter P=u::l:=by
 unfold Bl at h;have:((ao n).filter P).head? =some u:=by rw [List.head?_filter];exact h
 cases e:(ao n).filter P with
 |nil=>rw [e]at this;cases this
 |cons a l=>rw [e]at this;simp at this;subst this;exact⟨l,rfl⟩
theorem A08{E:Ad}{ids ins:AO}(h:Dt E ids ins=true):Ra E ids ins=some (VD E):=by
 obtain⟨hn,_,_,_⟩:=OM h;have hq:=xN h;unfold Ra Ox;have key:=RG (fun v=>I8 E ids ins v.1 v.2) (ao E.length) (fun x=>(tJ (LP E) E.length x:Int)) ?_ ?_
 ·rw [key];rfl
 ·intro i hi out ho;rw [Rv]at hi;obtain⟨l,hl⟩:=A07 _ _ _ (A68 hq hi);simp only [I8,OU];rw [if_pos (BU hi),A8P h i hi,CB,Gc i (by omega)]
  have e:(ao E.length).filter (LP E i)=tJ (LP E) E.length i::l:=hl;rw [e,BC (by simp),BC (by omega)]
  rfl
 ·intro out ho;simp only [I8,Rv];rw [if_neg (Am _)]
def JB(E:Ad)(v i:Nat):Nat:=(BJ (E.getD v be) i).toNat
def TG(E:Ad)(v i:Nat):Nat:=(Bu (E.getD v be) i).toNat
def QI(E:Ad)(v i:Nat):Bool:=(BJ (E.getD v be) i==(v:Int))&&(Bu (E.getD v be) i==(i:Int))
def xP(E:Ad)(v i x y:Nat):Bool:= !(decide (x=v)&&decide (y=i))&& !(decide (x=JB E v i)&&decide (y=TG E v i))
def OQ(E:Ad)(v i x:Nat):AO:=((ao (E.getD x be).length).filter (xP E v i x)).map (BJ (E.getD x be))
theorem Rq{E:Ad}{v i x:Nat}{y:Int}:y∈OQ E v i x↔ ∃k,k<(E.getD x be).length∧xP E v i x k=true∧y=BJ (E.getD x be) k:=by
 unfold OQ;rw [MI]
 constructor
 ·rintro⟨k,hk,rfl⟩
  rw [nN,Fa]at hk
  exact⟨k,hk.1,hk.2,rfl⟩
 ·rintro⟨k,h1,h2,rfl⟩
  exact⟨k,nN.2 ⟨Fa.2 h1,h2⟩,rfl⟩
structure PortN(E:Ad):Prop where
 big:E.length≤40∧1≤E.length
 deg: ∀v,v<E.length→(E.getD v be).length≤6
 prt: ∀v i,v<E.length→i<(E.getD v be).length→BJ (E.getD v be) i=(JB E v i:Int)∧Bu (E.getD v be) i=(TG E v i:Int)∧JB E v i<E.length∧TG E v i<(E.getD (JB E v i) be).length∧JB E (JB E v i) (TG E v i)=v∧TG E (JB E v i) (TG E v i)=i
theorem Xo{E:Ad}{ids ins:AO}(h:Dt E ids ins=true):PortN E:=by
 obtain⟨h1,h2,h3,h4⟩:=OM h
 refine⟨⟨h1,h2⟩,h3,fun v i hv hi=> ?_⟩
 obtain⟨w,p,q1,q2,q3,q4,q5,q6⟩:=h4 v i hv hi;unfold JB TG;rw [q1,q2,Cq,Cq,q5,q6,Cq,Cq]
 exact⟨rfl,rfl,q3,q4,rfl,rfl⟩
def jA(E:Ad)(v i w j:Nat):List (List Bool):=
 ((Rp E).set v (((Rp E).getD v be).set i false)).set w ((((Rp E).set v (((Rp E).getD v be).set i false)).getD w be).set j false)
theorem LG{α:Type}[Inhabited α](l:List α)(a b:Nat)(x:α)(ha:a<l.length):(l.set a x).getD b be=if a=b then x else l.getD b be:=by
 by_cases e:a=b
 ·subst e;rw [if_pos rfl,Ac _ _ (by rw [Jy];exact ha),uI]
 ·rw [if_neg e,LQ,A1K e,←LQ]
theorem tV(E:Ad):ShK E (Rp E):=⟨by simp [Rp],fun v hv=>by unfold Rp;rw [Ac _ _ (by simpa using hv)];simp⟩
theorem A1D{E:Ad}{x y:Nat}(hx:x<E.length)(hy:y<(E.getD x be).length):((Rp E).getD x be).getD y be=true:=by
 unfold Rp;rw [Ac ((ao E.length).map _) x (by simpa using hx)]
 simp only [PM,OU];rw [Ac _ _ (by simpa using hy),List.getElem_replicate]
theorem A6E{E:Ad}{v i w j:Nat}(hv:v<E.length)(hw:w<E.length):ShK E (jA E v i w j):=by
 have ha:=tV E;have hl:=ha.len
 refine⟨by unfold jA;rw [Jy,Jy,hl],fun x hx=> ?_⟩
 unfold jA;rw [LG _ _ _ _ (by rw [Jy];omega)]
 split
 ·rename_i e
  subst e;rw [Jy,LG _ _ _ _ (by omega)]
  split
  ·rename_i e;subst e;rw [Jy];exact ha.row _ hx
  ·exact ha.row _ hx
 ·rw [LG _ _ _ _ (by omega)]
  split
  ·rename_i e;subst e;rw [Jy];exact ha.row _ hx
  ·exact ha.row _ hx
theorem A6F{E:Ad}{v i w j x y:Nat}(hv:v<E.length)(hi:i<(E.getD v be).length)(hw:w<E.length)(hj:j<(E.getD w be).length)(hx:x<E.length)(hy:y<(E.getD x be).length):
  kpt (jA E v i w j) x y=(!(decide (x=v)&&decide (y=i))&& !(decide (x=w)&&decide (y=j))):=by
 have ha:=tV E;have hl:=ha.len;have hr:=ha.row x hx
 have inner: ∀z,z<E.length→z=x→(((Rp E).set v (((Rp E).getD v be).set i false)).getD z be).getD y be= !(decide (x=v)&&decide (y=i)):=by
  intro z hz e;subst e;rw [LG _ _ _ _ (by omega)]
  split
  ·rename_i e
   subst e;rw [LG _ _ _ _ (by rw [hr];exact hi)]
   split
   ·rename_i e;subst e;simp
   ·rename_i e
    rw [A1D hx hy,decide_eq_false (p:=y=i) (fun q=>e q.symm)];simp
  ·rename_i e
   rw [A1D hx hy,decide_eq_false (p:=z=v) (fun q=>e q.symm)];rfl
 unfold kpt jA;rw [LG _ _ _ _ (by rw [Jy];omega)]
 split
 ·rename_i e
  subst e
  have hrow:(((Rp E).set v (((Rp E).getD v be).set i false)).getD w be).length=(E.getD w be).length:=by
   rw [LG _ _ _ _ (by omega)]
   split
   ·rename_i e;subst e;rw [Jy];exact hr
   ·exact hr
  rw [LG _ _ _ _ (by rw [hrow];exact hj)]
  split
  ·rename_i e;subst e;simp
  ·rename_i e
   rw [inner w hw rfl,decide_eq_false (p:=y=j) (fun q=>e q.symm)];simp
 ·rename_i e
  rw [inner x hx rfl,decide_eq_false (p:=x=w) (fun q=>e q.symm)];simp
theorem A09{E:Ad}{ids ins:AO}(H:PortN E)(h1:ids.length<1099511627776)(h2:ins.length<1099511627776){v i:Nat}(hv:v<E.length)(hi:i<(E.getD v be).length):
  ∃d,RY E ids ins (v:Int) (i:Int)=some d∧ -1≤d∧d≤40∧(0≤d↔Cn (OQ E v i) v (JB E v i)):=by
 obtain⟨p1,p2,p3,p4,p5,p6⟩:=H.prt v i hv hi;have hn:=H.big;have hall:=tV E;have hal:=hall.len;have har:=hall.row v hv;have hK:=A6E (E:=E) (v:=v) (i:=i) (w:=JB E v i) (j:=TG E v i) hv p3;obtain⟨E',c1,c2,c3⟩:=A6B ids ins hn.1 H.deg (fun x y hx hy=>by obtain⟨q1,q2,q3,q4,_⟩:=H.prt x y hx hy;exact⟨_,_,q1,q2,q3,q4⟩) h1 h2 hK
 have hrowF:(((Rp E).set v (((Rp E).getD v be).set i false)).getD (JB E v i) be).length=(E.getD (JB E v i) be).length:=by
  rw [LG _ _ _ _ (by omega)]
  split
  ·rename_i e;rw [Jy,←e];exact hall.row v hv
  ·exact hall.row _ p3
 have hkl: ∀x,(ZX E (jA E v i (JB E v i) (TG E v i)) x).length≤(E.getD x be).length:=fun x=>VW (A1J _ _) (by simp)
 have hd': ∀x,x<E'.length→(E'.getD x be).length≤6:=fun x hx=>by
  have:=congrArg List.length (c3 x (by omega))
  rw [QD,QD]at this;have:=hkl x
  have:=H.deg x (by omega)
  omega
 have hadj:Dh E'=OQ E v i:=by
  funext x
  unfold Dh OQ;by_cases hx:x<E.length
  ·have hk:ZX E (jA E v i (JB E v i) (TG E v i)) x=(ao (E.getD x be).length).filter (xP E v i x):=by
    unfold ZX;refine List.filter_congr fun y hy=> ?_;rw [A6F hv hi p3 p4 hx (Fa.1 hy)];unfold xP;rfl
   rw [c3 x hx,hk]
  ·have e1:E'.getD x be=[]:=by rw [LQ,jO (by omega)];rfl
   have e2:E.getD x be=[]:=by rw [LQ,jO (by omega)];rfl
   rw [e1,e2];rfl
 have hA': ∀x,x<E'.length→ ∀y∈Dh E' x,0≤y∧y.toNat<E'.length:=by
  intro x hx y hy;rw [hadj]at hy;obtain⟨k,k1,_,rfl⟩:=Rq.1 hy;obtain⟨q1,_,q3,_⟩:=H.prt x k (by omega) k1
  omega
 obtain⟨d1,d2⟩:=A05 ids ins (by omega) hd' hA' v (by omega)
 refine⟨(OO E' v).getD (JB E v i) be, ?_, ?_, ?_, ?_⟩
 ·unfold RY;simp only [Cq,p1,p2];rw [BC (by omega),BC (by omega),A2r ids ins hn.1 H.deg,CB,BC (by omega),BC (by omega),BC (by omega),BC (by rw [hrowF];omega)]
  have e:Uw E ids ins (((Rp E).set v (((Rp E).getD v be).set i false)).set (JB E v i) ((((Rp E).set v (((Rp E).getD v be).set i false)).getD (JB E v i) be).set (TG E v i) false))=some (E',ids,ins):=c1;rw [e,CB,d1,CB,BC (by rw [d2.len];omega)]
 ·exact d2.lo _ (by omega)
 ·have:=d2.hi (JB E v i) (by omega)
  unfold at_ at this;omega
 ·have:=d2.conn (x:=JB E v i) (by omega)
  rw [hadj]at this;exact this
theorem A0A{E:Ad}{ids ins:AO}(H:PortN E)(h1:ids.length<1099511627776)(h2:ins.length<1099511627776):
  ∃g,RZ E ids ins=some g∧0≤g∧(g=0↔ ∀v,v<E.length→ ∀i,i<(E.getD v be).length→QI E v i=false→ ¬Cn (OQ E v i) v (JB E v i)):=by
 have hn:=H.big;unfold RZ Ow;have key:=SL (fun w=>KN E ids ins w.1 w.2) (fun n s=> ∃v:Nat,n=E.length-v∧v≤E.length∧s.2=(v:Int)∧(0≤s.1∧s.1≤41)∧(s.1=0↔ ∀x,x<v→ ∀i,i<(E.getD x be).length→QI E x i=false→ ¬Cn (OQ E x i) x (JB E x i)))
  (fun g=>0≤g∧(g=0↔ ∀v,v<E.length→ ∀i,i<(E.getD v be).length→QI E v i=false→ ¬Cn (OQ E v i) v (JB E v i))) ?_ E.length ((0:Int),(0:Int)) ⟨0,rfl,by omega,rfl,⟨by omega,by omega⟩,⟨fun _ x hx=>by omega,fun _=>rfl⟩⟩
 ·obtain⟨g,e1,e2,e3⟩:=key;rw [e1]
  exact⟨g,rfl,e2,e3⟩
 ·rintro n ⟨o,v'⟩ ⟨v,hn',hv,ev,ho,hA⟩
  dsimp only at ev ho hA;subst ev;simp only [KN];by_cases c:v<E.length
  ·have hd:=H.deg v c;rw [if_pos (by omega),BC (by omega)]
   have k2:=SL (fun w=>KM E ids ins (v:Int) w.1 w.2) (fun n s=> ∃i:Nat,n=(E.getD v be).length-i∧i≤(E.getD v be).length∧s.2=(i:Int)∧(0≤s.1∧s.1≤41)∧(s.1=0↔o=0∧ ∀k,k<i→QI E v k=false→ ¬Cn (OQ E v k) v (JB E v k)))
    (fun g=>(0≤g∧g≤41)∧(g=0↔o=0∧ ∀k,k<(E.getD v be).length→QI E v k=false→ ¬Cn (OQ E v k) v (JB E v k))) ?_ (E.getD v be).length (o,(0:Int)) ⟨0,rfl,by omega,rfl,ho,⟨fun e=>⟨e,fun k hk=>by omega⟩,fun e=>e.1⟩⟩
   ·obtain⟨g,e1,e2,e3⟩:=k2;have e1':Ov E ids ins (v:Int) (o,0)=some g:=e1;rw [e1',CB,Gc v (by omega)]
    left
    refine⟨_,E.length-(v+1),rfl,by omega,v+1,rfl,by omega,rfl,e2, ?_⟩
    dsimp only;rw [e3,hA]
    constructor
    ·rintro⟨q1,q2⟩ x hx i hi hs
     by_cases e:x=v
     ·subst e;exact q2 i hi hs
     ·exact q1 x (by omega) i hi hs
    ·intro q
     exact⟨fun x hx=>q x (by omega),fun k hk=>q v (by omega) k hk⟩
   ·rintro n2 ⟨o2,i'⟩ ⟨i,hn2,hi,ei,ho2,hB⟩
    dsimp only at ei ho2 hB;subst ei;simp only [KM,Cq];by_cases c2:i<(E.getD v be).length
    ·rw [if_pos (by omega),BC (by omega),Gc i (by omega)]
     rw [show((BJ (E.getD v be) i==(v:Int))&&(Bu (E.getD v be) i==(i:Int)))=QI E v i from rfl]
     left
     cases hs:QI E v i with
     |true=>
      rw [if_pos rfl]
      refine⟨_,(E.getD v be).length-(i+1),rfl,by omega,i+1,rfl,by omega,rfl,ho2, ?_⟩
      dsimp only;rw [hB]
      constructor
      ·rintro⟨q1,q2⟩
       refine⟨q1,fun k hk hks=> ?_⟩
       by_cases e:k=i
       ·subst e;rw [hs]at hks;cases hks
       ·exact q2 k (by omega) hks
      ·rintro⟨q1,q2⟩
       exact⟨q1,fun k hk=>q2 k (by omega)⟩
     |false=>
      obtain⟨d,d1,d2,d3,d4⟩:=A09 H h1 h2 c c2;rw [if_neg (by decide),d1,CB]
      by_cases c3:0≤d
      ·have hbad: ∀z:Int,z≠0→(z=0↔o=0∧ ∀k,k<i+1→QI E v k=false→ ¬Cn (OQ E v k) v (JB E v k)):=fun z hz=>⟨fun e=>absurd e hz,fun q=>absurd (d4.1 c3) (q.2 i (by omega) hs)⟩
       rw [if_pos c3,GG (d+1) (by omega)]
       by_cases c4:o2=0
       ·rw [if_pos c4]
        exact⟨_,(E.getD v be).length-(i+1),rfl,by omega,i+1,rfl,by omega,rfl,by dsimp only;omega,hbad _ (by dsimp only;omega)⟩
       ·rw [if_neg c4];by_cases c5:d+1<o2
        ·rw [if_pos c5]
         exact⟨_,(E.getD v be).length-(i+1),rfl,by omega,i+1,rfl,by omega,rfl,by dsimp only;omega,hbad _ (by dsimp only;omega)⟩
        ·rw [if_neg c5]
         exact⟨_,(E.getD v be).length-(i+1),rfl,by omega,i+1,rfl,by omega,rfl,ho2,hbad _ c4⟩
      ·rw [if_neg c3]
       refine⟨_,(E.getD v be).length-(i+1),rfl,by omega,i+1,rfl,by omega,rfl,ho2, ?_⟩
       dsimp only;rw [hB]
       constructor
       ·rintro⟨q1,q2⟩
        refine⟨q1,fun k hk hks=> ?_⟩
        by_cases e:k=i
        ·subst e;exact fun hc=>c3 (d4.2 hc)
        ·exact q2 k (by omega) hks
       ·rintro⟨q1,q2⟩
        exact⟨q1,fun k hk=>q2 k (by omega)⟩
    ·rw [if_neg (by omega)]
     right
     refine⟨_,rfl,ho2, ?_⟩
     have:i=(E.getD v be).length:=by omega
     subst this;exact hB
  ·rw [if_neg (by omega)]
   right
   have:v=E.length:=by omega
   subst this
   exact⟨_,rfl,ho.1,hA⟩
def Xp(E:Ad):Bool:=(ao E.length).any fun v=>(ao (E.getD v be).length).any (QI E v)
theorem Vy{α:Type}(p:α→Bool): ∀l:List α,(l.all fun c=> !p c)= !(l.any p)
 | []=>rfl
 |a::l=>by rw [Xw,List.any_cons,Vy p l];cases p a<;>rfl
theorem A2s{E:Ad}(ids ins:AO)(H:PortN E):UU E ids ins=some (Xp E):=by
 have hn:=H.big
 have inner: ∀v,v<E.length→OJ E ids ins (v:Int) 0=some (if(ao (E.getD v be).length).any (QI E v)=true then .inl ()else .inr ()):=by
  intro v hv;have hd:=H.deg v hv;unfold OJ;have key:=E9 (fun w=>Jb E ids ins (v:Int) w) (fun i=>(i:Int)) (E.getD v be).length (fun i=> !QI E v i) (.inl ()) (.inr ()) ?_ ?_
  ·rw [EW]at key;rw [key,Vy]
   cases (ao (E.getD v be).length).any (QI E v)<;>rfl
  ·intro i hi;simp only [Jb,Cq];rw [if_pos (BU hi),BC (by omega),Gc i (by omega)]
   by_cases hs:((BJ (E.getD v be) i==(v:Int))&&(Bu (E.getD v be) i==(i:Int)))=true
   ·have hs':QI E v i=true:=hs;rw [if_pos hs,hs'];rfl
   ·have hs':QI E v i=false:=G8.2 hs;rw [if_neg hs,hs'];rfl
  ·simp only [Jb,Cq];rw [if_neg (Am _)]
 unfold UU Qh;have key:=E9 (fun w=>Jc E ids ins w) (fun v=>(v:Int)) E.length (fun v=> !(ao (E.getD v be).length).any (QI E v)) (.inl ()) (.inr ()) ?_ ?_
 ·rw [EW]at key;rw [key,CB,Vy];unfold Xp
  cases (ao E.length).any fun v=>(ao (E.getD v be).length).any (QI E v)<;>rfl
 ·intro v hv;simp only [Jc];rw [if_pos (BU hv),BC (by omega),inner v hv,CB,Gc v (by omega)]
  cases (ao (E.getD v be).length).any (QI E v)<;>rfl
 ·simp only [Jc];rw [if_neg (Am _)]
def A6G(E:Ad):Prop:= ∀v,v<E.length→ ∀i,i<(E.getD v be).length→QI E v i=false→ ¬Cn (OQ E v i) v (JB E v i)
def lK(E:Ad):Bool:= !Xp E&&dcd (A6G E)
theorem xQ{E:Ad}{ids ins:AO}(H:PortN E)(h1:ids.length<1099511627776)(h2:ins.length<1099511627776):Q5 E ids ins=some (lK E):=by
 unfold Q5 lK;rw [A2s ids ins H,CB]
 cases hs:Xp E with
 |true=>rfl
 |false=>
  obtain⟨g,g1,g2,g3⟩:=A0A H h1 h2;rw [if_neg (by decide),g1,CB]
  congr 1
  rw [Bool.not_false,VV,V7,decide_eq_true_eq,Gx,g3];rfl
def nE(x:Int×Int×Int×Int):Nat×Nat:=(x.1.toNat,x.2.2.1.toNat)
def xU(E:Ad):List (Nat×Nat):=(j6 E E.length).map nE
def Ue(E:Ad)(v i:Nat):Int×Int×Int×Int:=((v:Int),(i:Int),(JB E v i:Int),(TG E v i:Int))
theorem Ql{E:Ad}(H:PortN E){x:Int×Int×Int×Int}:x∈j6 E E.length↔ ∃v i,v<E.length∧i<(E.getD v be).length∧(v<JB E v i∨(v=JB E v i∧i≤TG E v i))∧x=Ue E v i:=by
 rw [tT]
 constructor
 ·rintro⟨v,i,hv,hi,hc,rfl⟩
  obtain⟨p1,p2,_⟩:=H.prt v i hv hi
  refine⟨v,i,hv,hi, ?_,by unfold Ue;rw [p1,p2]⟩
  unfold j5 at hc;rw [p1,p2]at hc;simp only [TW,El,decide_eq_true_eq]at hc;omega
 ·rintro⟨v,i,hv,hi,hc,rfl⟩
  obtain⟨p1,p2,_⟩:=H.prt v i hv hi
  refine⟨v,i,hv,hi, ?_,by unfold Ue;rw [p1,p2]⟩
  unfold j5;rw [p1,p2];simp only [TW,El,decide_eq_true_eq];omega
def Rs(E:Ad)(v i:Nat):Int×Int×Int×Int:=if v<JB E v i∨(v=JB E v i∧i≤TG E v i)then Ue E v i else Ue E (JB E v i) (TG E v i)
theorem jB{E:Ad}(H:PortN E){v i:Nat}(hv:v<E.length)(hi:i<(E.getD v be).length):Rs E v i∈j6 E E.length:=by
 obtain⟨p1,p2,p3,p4,p5,p6⟩:=H.prt v i hv hi;unfold Rs;split
 ·rename_i c
  exact(Ql H).2 ⟨v,i,hv,hi,c,rfl⟩
 ·rename_i c
  exact(Ql H).2 ⟨JB E v i,TG E v i,p3,p4,by rw [p5,p6];omega,rfl⟩
theorem Yu{E:Ad}(H:PortN E){v i:Nat}(hv:v<E.length)(hi:i<(E.getD v be).length):nE (Rs E v i)=(v,JB E v i)∨nE (Rs E v i)=(JB E v i,v):=by
 obtain⟨p1,p2,p3,p4,p5,p6⟩:=H.prt v i hv hi;unfold Rs;split
 ·left;simp [nE,Ue]
 ·right;simp [nE,Ue,p5]
theorem A6H{E:Ad}(H:PortN E)(x:Nat)(y:Int):y∈lJ (xU E) x↔y∈Dh E x:=by
 rw [N9,QA]
 constructor
 ·rintro⟨e,he,hq⟩
  obtain⟨z,hz,rfl⟩:=MI.1 he;obtain⟨v,i,hv,hi,_,rfl⟩:=(Ql H).1 hz;obtain⟨p1,p2,p3,p4,p5,p6⟩:=H.prt v i hv hi;rcases hq with⟨c,q⟩|⟨c,q⟩
  ·simp only [nE,Ue,Cq]at c q;subst c
   exact⟨i,hi,by rw [p1,q]⟩
  ·simp only [nE,Ue,Cq]at c q;subst c
   refine⟨TG E v i,p4, ?_⟩
   rw [(H.prt _ _ p3 p4).1,p5,q]
 ·rintro⟨i,hi,rfl⟩
  have hx:x<E.length:=by
   apply cq
   intro hc;rw [LQ,jO (by omega)]at hi
   exact absurd hi (by simp [be])
  obtain⟨p1,_⟩:=H.prt x i hx hi
  refine⟨nE (Rs E x i),MI.2 ⟨_,jB H hx hi,rfl⟩, ?_⟩
  rw [p1];rcases Yu H hx hi with e|e
  ·rw [e];exact .inl ⟨rfl,rfl⟩
  ·rw [e];exact .inr ⟨rfl,rfl⟩
theorem A1E{E:Ad}(H:PortN E){x y:Nat}:CP (xU E) x y↔Cn (Dh E) x y:=
 ⟨fun h=>Cn.mono (fun x y hy=>(A6H H x y).1 hy) h,fun h=>Cn.mono (fun x y hy=>(A6H H x y).2 hy) h⟩
theorem A8Q{E:Ad}(H:PortN E): ∀e∈xU E,e.1<E.length∧e.2<E.length:=by
 intro e he;obtain⟨z,hz,rfl⟩:=MI.1 he;obtain⟨v,i,hv,hi,_,rfl⟩:=(Ql H).1 hz;obtain⟨p1,p2,p3,_⟩:=H.prt v i hv hi;simp only [nE,Ue,Cq]
 exact⟨hv,p3⟩
theorem tX{E:Ad}(H:PortN E){v i x k:Nat}(hv:v<E.length)(hi:i<(E.getD v be).length)(hx:x<E.length)(hk:k<(E.getD x be).length):xP E v i x k=true↔Rs E x k≠Rs E v i:=by
 obtain⟨p1,p2,p3,p4,p5,p6⟩:=H.prt v i hv hi;obtain⟨q1,q2,q3,q4,q5,q6⟩:=H.prt x k hx hk
 have key:Rs E x k=Rs E v i↔(x=v∧k=i)∨(x=JB E v i∧k=TG E v i):=by
  constructor
  ·intro e;unfold Rs at e
   split at e<;>split at e<;>simp only [Ue,Prod.mk.injEq,Int.natCast_inj]at e
   ·exact .inl ⟨e.1,e.2.1⟩
   ·exact .inr ⟨e.1,e.2.1⟩
   ·right;exact⟨by omega,by omega⟩
   ·left;exact⟨by omega,by omega⟩
  ·rintro(⟨rfl,rfl⟩|⟨rfl,rfl⟩)
   ·rfl
   ·unfold Rs;rw [p5,p6];by_cases c1:JB E v i<v∨(JB E v i=v∧TG E v i≤i)
    ·rw [if_pos c1];by_cases c2:v<JB E v i∨(v=JB E v i∧i≤TG E v i)
     ·rw [if_pos c2];have e1:JB E v i=v:=by omega
      have e2:TG E v i=i:=by omega
      rw [e1,e2]
     ·rw [if_neg c2]
    ·rw [if_neg c1,if_pos (by omega)]
 unfold xP;rw [El,ML,ML,Bool.and_eq_false_iff,Bool.and_eq_false_iff,decide_eq_false_iff_not,decide_eq_false_iff_not,decide_eq_false_iff_not,decide_eq_false_iff_not,ne_eq,key]
 constructor
 ·rintro⟨h1,h2⟩ (⟨a,b⟩|⟨a,b⟩)
  ·rcases h1 with h|h
   ·exact h a
   ·exact h b
  ·rcases h2 with h|h
   ·exact h a
   ·exact h b
 ·intro h
  refine⟨?_, ?_⟩
  ·by_cases a:x=v
   ·exact .inr fun b=>h (.inl ⟨a,b⟩)
   ·exact .inl a
  ·by_cases a:x=JB E v i
   ·exact .inr fun b=>h (.inr ⟨a,b⟩)
   ·exact .inl a
theorem nG{E:Ad}(H:PortN E){v i:Nat}(hv:v<E.length)(hi:i<(E.getD v be).length)(hc:v<JB E v i∨(v=JB E v i∧i≤TG E v i)):Rs E v i=Ue E v i:=by unfold Rs;rw [if_pos hc]
theorem A8R{E:Ad}(H:PortN E)(hs:Xp E=false):AFW (xU E)↔A6G E:=by
 have hns: ∀v,v<E.length→ ∀i,i<(E.getD v be).length→QI E v i=false:=by
  intro v hv i hi;unfold Xp at hs;rw [cc]at hs;have:=hs v (Fa.2 hv)
  rw [jQ,cc]at this;exact jQ _▸this i (Fa.2 hi)
 have walk: ∀v i,v<E.length→i<(E.getD v be).length→ ∀A B,j6 E E.length=A++Rs E v i::B→ ∀x y:Nat,Cn (OQ E v i) x y↔CP (A.map nE++B.map nE) x y:=by
  intro v i hv hi A B hAB x y;have hnd:=nD E E.length;rw [hAB]at hnd
  have hmem: ∀z,z∈A++B↔z∈j6 E E.length∧z≠Rs E v i:=by
   intro z;rw [hAB];have hd:=(List.nodup_append.1 hnd);have hb:=List.nodup_cons.1 hd.2.1
   constructor
   ·intro hz;rcases PN.1 hz with hz|hz
    ·exact⟨cx _ hz,hd.2.2 z hz _ Gu⟩
    ·exact⟨cy _ (PL _ hz),fun e=>hb.1 (e▸hz)⟩
   ·rintro⟨hz,hne⟩
    rcases PN.1 hz with hz|hz
    ·exact cx _ hz
    ·rcases Rw.1 hz with hz|hz
     ·exact absurd hz hne
     ·exact cy _ hz
  have hadj: ∀x y,y∈OQ E v i x↔y∈lJ (A.map nE++B.map nE) x:=by
   intro x y;rw [Rq,N9,←jS]
   constructor
   ·rintro⟨k,hk,ho,rfl⟩
    have hx:x<E.length:=by
     apply cq
     intro hc;rw [LQ,jO (by omega)]at hk
     exact absurd hk (by simp [be])
    obtain⟨q1,_⟩:=H.prt x k hx hk
    refine⟨nE (Rs E x k),MI.2 ⟨_,(hmem _).2 ⟨jB H hx hk,(tX H hv hi hx hk).1 ho⟩,rfl⟩, ?_⟩
    rw [q1];rcases Yu H hx hk with e|e
    ·rw [e];exact .inl ⟨rfl,rfl⟩
    ·rw [e];exact .inr ⟨rfl,rfl⟩
   ·rintro⟨e,he,hq⟩
    obtain⟨z,hz,rfl⟩:=MI.1 he;obtain⟨hz1,hz2⟩:=(hmem z).1 hz;obtain⟨a,k,ha,hk,hc,rfl⟩:=(Ql H).1 hz1;obtain⟨q1,q2,q3,q4,q5,q6⟩:=H.prt a k ha hk;have hself:=nG H ha hk hc;rcases hq with⟨c,q⟩|⟨c,q⟩
    ·simp only [nE,Ue,Cq]at c q;subst c
     exact⟨k,hk,(tX H hv hi ha hk).2 (by rw [hself];exact hz2),by rw [q1,q]⟩
    ·simp only [nE,Ue,Cq]at c q;subst c
     refine⟨TG E a k,q4,(tX H hv hi q3 q4).2 ?_,by rw [(H.prt _ _ q3 q4).1,q5,q]⟩
     have:Rs E (JB E a k) (TG E a k)=Ue E a k:=by
      unfold Rs;rw [q5,q6];by_cases c1:JB E a k<a∨(JB E a k=a∧TG E a k≤k)
      ·rw [if_pos c1];have e1:JB E a k=a:=by omega
       have e2:TG E a k=k:=by omega
       rw [e1,e2]
      ·rw [if_neg c1]
     rw [this];exact hz2
  exact⟨fun h=>Cn.mono (fun x y hy=>(hadj x y).1 hy) h,fun h=>Cn.mono (fun x y hy=>(hadj x y).2 hy) h⟩
 constructor
 ·intro hP v hv i hi hsl hc;obtain⟨A,B,hAB⟩:=List.append_of_mem (jB H hv hi);have h1:=(walk v i hv hi A B hAB v (JB E v i)).1 hc;have h2:=hP (A.map nE) (nE (Rs E v i)) (B.map nE) (by unfold xU;rw [hAB];simp)
  rcases Yu H hv hi with e|e
  ·rw [e]at h2;exact h2 h1
  ·rw [e]at h2;exact h2 h1.symm
 ·intro hE A' e B' hP hc;unfold xU at hP;obtain⟨A,R,hAB,hA,hR⟩:=List.map_eq_append_iff.1 hP;obtain⟨z,B,hz,hze,hB⟩:=List.map_eq_cons_iff.1 hR;subst hz;have hzm:z∈j6 E E.length:=by rw [hAB];simp
  obtain⟨v,i,hv,hi,hcd,rfl⟩:=(Ql H).1 hzm;have hself:=nG H hv hi hcd
  have h1:=(walk v i hv hi A B (by rw [hself];exact hAB) v (JB E v i)).2 (by
   rw [hA,hB];rw [←hze]at hc
   simpa only [nE,Ue,Cq] using hc)
  exact hE v hv i hi (hns v hv i hi) h1
theorem jC{E:Ad}{ids ins:AO}(h:Dt E ids ins=true)(H:PortN E){v:Nat}(hv:v<E.length):(v:Int)=(VD E).getD v be↔ ∀u,u<v→ ¬CP (xU E) u v:=by
 have hg:(VD E).getD v be=(tJ (LP E) E.length v:Int):=by
  unfold VD;rw [Ac _ _ (by simpa using hv)];simp
 have hself:LP E v v=true:=(OP h hv hv).2 ⟨0,Rch.z⟩;have hiff: ∀u,u<E.length→(LP E u v=true↔CP (xU E) u v):=fun u hu=>by rw [OP h hu hv,A1E H];rfl
 rw [hg];unfold tJ
 cases hf:Bl E.length (fun u=>LP E u v)with
 |none=>
  have:=(Hz (P:=fun u=>LP E u v)).2 ⟨v,hv,hself⟩
  rw [hf]at this;cases this
 |some m=>
  obtain⟨m1,m2⟩:=Si hf;have m3:=wz hf;rw [nL]
  constructor
  ·intro e u hu hc;have:=m3 u (by omega)
   have hx:=(hiff u (by omega)).2 hc
   rw [this]at hx;cases hx
  ·intro hall;have a1: ¬m<v:=fun hl=>hall m hl ((hiff m m1).1 m2)
   have a2: ¬v<m:=fun hl=>by
    have:=m3 v hl
    rw [hself]at this;cases this
   omega
theorem tY{E:Ad}{ids ins:AO}(h:Dt E ids ins=true):Py E ids ins=some (lK E):=by
 have H:=Xo h;have hn:=H.big;have hlen:=tQ E H.deg E.length (Cc _)
 have hany:(j6 E E.length).any (fun x=>decide (x.1=x.2.2.1)&&decide (x.2.1=x.2.2.2))=Xp E:=by
  rw [V7,Zb];unfold Xp;rw [Zb]
  constructor
  ·rintro⟨x,hx,hp⟩
   obtain⟨v,i,hv,hi,_,rfl⟩:=(Ql H).1 hx;obtain⟨p1,p2,_⟩:=H.prt v i hv hi;have hp:(decide ((v:Int)=(JB E v i:Int))&&decide ((i:Int)=(TG E v i:Int)))=true:=hp;rw [El,decide_eq_true_eq,decide_eq_true_eq]at hp
   refine⟨v,Fa.2 hv,Zb.2 ⟨i,Fa.2 hi, ?_⟩⟩
   unfold QI;rw [p1,p2,El,beq_iff_eq,beq_iff_eq];omega
  ·rintro⟨v,hv,hp⟩
   have hv:=Fa.1 hv;obtain⟨i,hi,hp⟩:=Zb.1 hp;have hi:=Fa.1 hi;obtain⟨p1,p2,_⟩:=H.prt v i hv hi;unfold QI at hp;rw [p1,p2,El,beq_iff_eq,beq_iff_eq]at hp
   refine⟨Ue E v i,(Ql H).2 ⟨v,i,hv,hi,by omega,rfl⟩, ?_⟩
   show(decide ((v:Int)=(JB E v i:Int))&&decide ((i:Int)=(TG E v i:Int)))=true
   rw [El,decide_eq_true_eq,decide_eq_true_eq];omega
 have hcon:=AFX (j6 E E.length) (fun a0_0 a0_1 a0_2 a0_3=>MG a0_0 a0_1 a0_2 a0_3) (fun x=>decide (x.1=x.2.2.1)&&decide (x.2.1=x.2.2.2)) (by omega) (fun x _=>by
  unfold MG;by_cases c:x.1=x.2.2.1
  ·rw [if_pos c,decide_eq_true c];rfl
  ·rw [if_neg c,decide_eq_false c];rfl)
 have hcount:Lb E ids ins (j6 E E.length) (VD E) (0,0)=some (FU E.length (CP (xU E)):Int):=by
  have hpl:(VD E).length=E.length:=by simp [VD]
  unfold Lb;have key:=Bn (fun w=>Fv E ids ins (j6 E E.length) (VD E) w.1 w.2) (fun k=>((((ao k).countP fun v=>dcd (∀u,u<v→ ¬CP (xU E) u v):Nat):Int),(k:Int))) E.length (FU E.length (CP (xU E)):Int) ?_ ?_
  ·exact key
  ·intro k hk;have hc:(ao k).countP (fun v=>dcd (∀u,u<v→ ¬CP (xU E) u v))≤k:=VW cj (by simp)
   have hr:=jC h H hk;simp only [Fv,Cq];rw [if_pos (by omega),BC (by omega),Gc k (by omega),VT,cf,cg]
   by_cases c:(k:Int)=(VD E).getD k be
   ·rw [if_pos c,if_pos (Gx.2 (hr.1 c)),GG _ (by omega)];rfl
   ·rw [if_neg c,if_neg (fun q=>c (hr.2 (Gx.1 q)))];rfl
  ·simp only [Fv];rw [if_neg (by omega)];rfl
 unfold Py lK;rw [A6D E ids ins hn.1 H.deg,CB,hcon,CB,hany]
 cases hs:Xp E with
 |true=>rfl
 |false=>
  have hle:FU E.length (CP (xU E))≤E.length:=by
   unfold FU;exact VW cj (by simp)
  rw [if_neg (by decide),A06 h,CB,hcount,CB,GG _ (by omega)]
  congr 1
  have hc:=A04 (A8Q H);rw [A8R H hs]at hc;have hl:(xU E).length=(j6 E E.length).length:=by simp [xU]
  rw [Bool.not_false,VV,V7,decide_eq_true_eq,Gx,←hc,hl];omega
theorem nH(p q:Nat→Bool)(h: ∀x,q x=true→p x=true)(r:Nat)(hp:p r=true)(hq:q r=false): ∀n,r<n→(ao n).countP q<(ao n).countP p
 |0,h=>by omega
 |n+1,hr=>by
  rw [VT,cf,cf,cg,cg];by_cases e:r=n
  ·subst e;have:(ao r).countP q≤(ao r).countP p:=List.countP_mono_left fun x _=>h x
   rw [if_pos hp,hq];simp only [Nq,if_false];omega
  ·have ih:=nH p q h r hp hq n (by omega)
   by_cases c:q n=true
   ·rw [if_pos c,if_pos (h n c)];omega
   ·rw [if_neg c];omega
def msr(E:Ad)(v i:Nat):Nat:=(ao E.length).countP fun x=>dcd (Cn (OQ E v i) v x)
theorem tZ{E:Ad}(hs:Xp E=false){v i:Nat}(hv:v<E.length)(hi:i<(E.getD v be).length):QI E v i=false:=by
 unfold Xp at hs;rw [cc]at hs;have h1:=hs v (Fa.2 hv);rw [jQ,cc]at h1;have h2:=h1 i (Fa.2 hi);simpa using h2
theorem jD{E:Ad}(H:PortN E)(hs:Xp E=false)(ha:A6G E){v i k:Nat}(hv:v<E.length)(hi:i<(E.getD v be).length)(hk:k<(E.getD v be).length)(hki:k≠i):
  (∀x,Cn (OQ E (JB E v k) (TG E v k)) (JB E v k) x→Cn (OQ E v i) v x)∧ ¬Cn (OQ E (JB E v k) (TG E v k)) (JB E v k) v:=by
 obtain⟨p1,p2,p3,p4,p5,p6⟩:=H.prt v k hv hk;obtain⟨q1,q2,q3,q4,q5,q6⟩:=H.prt v i hv hi
 have hno: ¬Cn (OQ E (JB E v k) (TG E v k)) (JB E v k) v:=by
  have:=ha (JB E v k) p3 (TG E v k) p4 (tZ hs p3 p4)
  rwa [p5]at this
 have hself:JB E v i≠v:=by
  intro e;have:=ha v hv i hi (tZ hs hv hi)
  rw [e]at this;exact this (Cn.refl v)
 refine⟨fun x hx=> ?_,hno⟩
 obtain⟨l,hl⟩:=hx
 induction hl with
 |z=>
  have hm:BJ (E.getD v be) k∈OQ E v i v:=by
   rw [Rq]
   refine⟨k,hk, ?_,rfl⟩
   unfold xP;rw [decide_eq_true (rfl:v=v),decide_eq_false hki,decide_eq_false (fun e:v=JB E v i=>hself e.symm)];rfl
  have:=Cn.of hm
  rwa [p1,Cq]at this
 | @s l x y hr hy ih=>
  have hx:x≠v:=fun e=>hno (Eq.subst (motive:=fun z=>Cn (OQ E (JB E v k) (TG E v k)) (JB E v k) z) e ⟨_,hr⟩);have hyv:y.toNat≠v:=fun e=>hno (Eq.subst (motive:=fun z=>Cn (OQ E (JB E v k) (TG E v k)) (JB E v k) z) e ⟨_,Rch.s hr hy⟩);obtain⟨p,hp,_,rfl⟩:=Rq.1 hy;refine ih.trans (Cn.of (Rq.2 ⟨p,hp, ?_,rfl⟩));unfold xP;rw [decide_eq_false hx,Bool.false_and];by_cases e1:x=JB E v i
  ·by_cases e2:p=TG E v i
   ·exfalso;apply hyv
    rw [e1,e2];exact q5
   ·rw [decide_eq_false e2,Bool.and_false];rfl
  ·rw [decide_eq_false e1];rfl
theorem A0B{E:Ad}(H:PortN E)(hs:Xp E=false)(ha:A6G E): ∀(f v i:Nat),v<E.length→i<(E.getD v be).length→msr E v i≤f→sZ E f v (i:Int)
 |0,v,i,hv,hi,hm=>by
  have:0<msr E v i:=by
   unfold msr;rw [List.countP_pos_iff]
   exact⟨v,Fa.2 hv,Gx.2 (Cn.refl v)⟩
  omega
 |f+1,v,i,hv,hi,hm=>by
  refine⟨hv,fun k hk hki=> ?_⟩
  have hki':k≠i:=by omega
  obtain⟨p1,p2,p3,p4,p5,p6⟩:=H.prt v k hv hk;obtain⟨b1,b2⟩:=jD H hs ha hv hi hk hki';refine A0B H hs ha f (JB E v k) (TG E v k) p3 p4 ?_
  have:msr E (JB E v k) (TG E v k)<msr E v i:=by
   unfold msr
   exact nH _ _ (fun x hx=>Gx.2 (b1 x (Gx.1 hx))) v (Gx.2 (Cn.refl v)) (by
    rw [G8];intro hc
    exact b2 (Gx.1 hc)) E.length hv
  omega
theorem A6I{E:Ad}(H:PortN E)(hf:lK E=true){v:Nat}(hv:v<E.length):sZ E (E.length+1) v (-1):=by
 unfold lK at hf;rw [El,ML,Gx]at hf
 refine⟨hv,fun k hk _=> ?_⟩
 obtain⟨p1,p2,p3,p4,p5,p6⟩:=H.prt v k hv hk;refine A0B H hf.1 hf.2 E.length (JB E v k) (TG E v k) p3 p4 ?_;unfold msr;exact VW cj (by simp)
theorem A6J: ∀n:Fin 9,∀a:Fin 8,a.val<n.val→CQ (2 ^ n.val-1) a.val=true:=by decide+kernel
def Bj(E:Ad):AX:=E.map fun row=>(ao row.length).map fun _=>(-1:Int)
theorem A0C{E:Ad}(ids inp:AO)(hN:NetOk E):Rb E ids inp=some (Bj E):=by
 have hb:=hN.big;unfold Rb Oy;have key:=RG (fun w=>IB E w.1 w.2) E (fun row=>(ao row.length).map fun _=>(-1:Int)) ?_ ?_
 ·rw [key];rfl
 ·intro v hv out ho;have hd:=hN.deg v hv
  have inner:Ms E out (v:Int) (ap (E.getD v be).length 0,0)=some ((ao (E.getD v be).length).map fun _=>(-1:Int)):=by
   unfold Ms;refine sW (fun w=>IA E out (v:Int) w.1 w.2) (E.getD v be).length (fun _=> -1) ?_ ?_
   ·intro a w ha hw _;simp only [IA,Cq,MH];rw [if_pos (by omega),BC (by omega),Gc a (by omega)]
   ·intro w hw;simp only [IA,Cq,MH];rw [if_neg (by omega)]
  simp only [IB,Cq];rw [if_pos (by omega),BC (by omega),BC (by omega),inner,CB,BC (by omega),Gc v (by omega),Ac _ _ hv]
 ·intro out ho;simp only [IB];rw [if_neg (by omega)]
theorem QB{E:Ad}{v:Nat}(hv:v<E.length):(Bj E).getD v be=(ao (E.getD v be).length).map fun _=>(-1:Int):=by
 unfold Bj;rw [Ac _ _ (by simpa using hv),PM,Ac _ _ hv]
theorem jE(E:Ad)(n:Nat):ShpL E n (Bj E):=by
 refine⟨by simp [Bj],fun v hv=>by rw [QB hv];simp,fun v i hv hi=> ?_⟩
 rw [QB hv,Ac _ _ (by simpa using hi),PM]
 omega
theorem Xq{E:Ad}(hN:NetOk E):BQ (Bj E):=by
 have hb:=hN.big
 refine⟨by simp [Bj];omega,fun x hx=> ?_⟩
 unfold Bj at hx;obtain⟨row,hr,rfl⟩:=MI.1 hx;obtain⟨v,hv,rfl⟩:=V4 hr;have:=hN.deg v hv
 rw [Ac _ _ hv]at this
 simp;omega
def Yv(g:Nat→Nat)(R:Nat→Bool):Nat→Nat
 |0=>1
 |k+1=>if R k=true then Yv g R k*g k else Yv g R k
def Rt(E:Ad)(v:Nat):Bool:=decide ((v:Int)=(VD E).getD v be)
theorem A6K(E:Ad):(VD E).length=E.length:=by simp [VD]
section
variable {E:Ad} {ns es:AX} {n D:Nat} (C:Ctn E ns es n D) {ids inp:AO}
include C
theorem A0D(h:Dt E ids inp=true)(hf:lK E=true){M:AX}(hM:OkM E n M):
  Rf (n:Int) (D:Int) ns es E ids inp M=some (Df (Yv (fun v=>NE E ns es n D (Rn M) (E.length+1) v (-1) 0) (Rt E) E.length)):=by
 have H:=Xo h;have hb:=H.big;have hpl:=A6K E;unfold Rf P8;rw [A08 h,CB];have key:=Bn (fun w=>IJ (n:Int) (D:Int) ns es E ids inp M (VD E) w.1 w.2) (fun k=>(Df (Yv (fun v=>NE E ns es n D (Rn M) (E.length+1) v (-1) 0) (Rt E) k),(k:Int))) E.length (Df (Yv (fun v=>NE E ns es n D (Rn M) (E.length+1) v (-1) 0) (Rt E) E.length)) ?_ ?_
 ·have e0:Df (Yv (fun v=>NE E ns es n D (Rn M) (E.length+1) v (-1) 0) (Rt E) 0)=1:=rfl;rw [e0,EW]at key;rw [key];rfl
 ·intro v hv;have hbr:=ZV C ids inp hM (E.length+1) 1000000 v (-1) (by omega) (A6I H hf hv) (.inl rfl)
  rw [if_pos (by decide)]at hbr
  simp only [IJ,Cq,Yv];rw [if_pos (by omega),BC (by omega),Gc v (by omega)]
  unfold Vs;by_cases c:(v:Int)=(VD E).getD v be
  ·have hr:Rt E v=true:=decide_eq_true c;rw [if_pos c,if_pos hr,hbr,CB,BC (by simp)]
   simp only [List.getD_cons_zero];rw [Vw,CB]
  ·have hr: ¬Rt E v=true:=by unfold Rt;rw [decide_eq_true_eq];exact c
   rw [if_neg c,if_neg hr]
 ·simp only [IJ];rw [if_neg (by omega)]
end
theorem jF: ∀(d:AO) (L:AX),ZR d L↔d.length=L.length∧ ∀k (h1:k<d.length) (h2:k<L.length),d[k]∈L[k]
 | [],[]=>by simp [ZR]
 | [],_::_=>by simp [ZR]
 |_::_,[]=>by simp [ZR]
 |a::d,l::L=>by
  unfold ZR;rw [jF d L]
  constructor
  ·rintro⟨h1,h2,h3⟩
   refine⟨by simp [h2],fun k k1 k2=> ?_⟩
   cases k with
   |zero=>exact h1
   |succ k=>exact h3 k (by simpa using k1) (by simpa using k2)
  ·rintro⟨h1,h2⟩
   exact⟨h2 0 (by simp) (by simp),by simpa using h1,fun k k1 k2=>h2 (k+1) (by simpa using k1) (by simpa using k2)⟩
def A6L(E:Ad)(ns es:AX)(n D:Nat)(P:Nat→Nat→Nat→Prop)(v i a:Nat):Prop:=
 (∃b,b<n∧P (QH E v i) (Qt E v i) b∧KI es (a:Int) (b:Int)=true)∧
 ((E.getD v be).length=D→ ∃d:AO,d.length=D∧d.getD i be=(a:Int)∧(∀k,k<D→k≠i→ ∃c:Nat,c<n∧d.getD k be=(c:Int)∧P v k c)∧ns.contains (Hm d)=true)
def IP(M:AX)(v i a:Nat):Prop:=CQ (PI M v i) a=true
theorem xR{E:Ad}{ns es:AX}{n D:Nat}(hp: ∀c∈ns,c.Pairwise fun a b=>a≤b){M:AX}(hM:OkM E n M){v i a:Nat}(hv:v<E.length)(hi:i<(E.getD v be).length)(hs:xH E v i=false):
  Jl E ns es n D M v i a=true↔A6L E ns es n D (IP M) v i a:=by
 have hrow:=hM.row v hv;unfold Jl A6L A61 A8I;rw [hs,if_neg (by decide),El,Zb]
 refine and_congr ?_ ?_
 ·constructor
  ·rintro⟨b,hb,h⟩
   rw [El]at h
   exact⟨b,Fa.1 hb,h.1,h.2⟩
  ·rintro⟨b,hb,h1,h2⟩
   exact⟨b,Fa.2 hb,by rw [h2,Zc];exact h1⟩
 ·rw [TW,ML,decide_eq_false_iff_not,←A17 _ hp,bD]
  constructor
  ·intro h hD;rcases h with h|⟨d,h1,h2⟩
   ·exact absurd hD h
   ·obtain⟨e1,e2⟩:=(jF _ _).1 h1;have hfl:=Rk (M.getD v be) n i (a:Int)
    refine⟨d,by omega, ?_,fun k hk hki=> ?_,by simpa using h2⟩
    ·have:=e2 i (by omega) (by omega)
     rw [Xh (by omega),if_pos rfl,WB]at this
     rw [Ac _ _ (by omega),this]
    ·have:=e2 k (by omega) (by omega)
     rw [Xh (by omega),if_neg (fun e=>hki e.symm),Xg]at this
     obtain⟨c,q1,q2,q3⟩:=this
     exact⟨c,q2,by rw [Ac _ _ (by omega),q1],q3⟩
  ·intro h;by_cases hD:(E.getD v be).length=D
   ·obtain⟨d,h1,h2,h3,h4⟩:=h hD
    right
    have hfl:=Rk (M.getD v be) n i (a:Int)
    refine⟨d,(jF _ _).2 ⟨by omega,fun k k1 k2=> ?_⟩,by simpa using h4⟩
    rw [Xh (by omega)]
    by_cases e:i=k
    ·subst e;rw [if_pos rfl,WB,←h2,Ac _ _ k1]
    ·rw [if_neg e,Xg];obtain⟨c,q1,q2,q3⟩:=h3 k (by omega) (fun q=>e q.symm)
     exact⟨c,by rw [←q2,Ac _ _ k1],q1,q3⟩
   ·exact .inl hD
theorem A2t{E:Ad}{ns es:AX}{n D:Nat}{P Q:Nat→Nat→Nat→Prop}(hN:NetOk E)(h: ∀v i a,v<E.length→i<(E.getD v be).length→a<n→P v i a→Q v i a){v i a:Nat}(hv:v<E.length)(hi:i<(E.getD v be).length)(hs:A6L E ns es n D P v i a):A6L E ns es n D Q v i a:=by
 obtain⟨⟨b,h1,h2,h3⟩,h4⟩:=hs;obtain⟨_,_,f3,f4,_,_⟩:=hN.at hv hi
 refine⟨⟨b,h1,h _ _ _ f3 f4 h1 h2,h3⟩,fun hD=> ?_⟩
 obtain⟨d,e1,e2,e3,e4⟩:=h4 hD
 refine⟨d,e1,e2,fun k hk hki=> ?_,e4⟩
 obtain⟨c,c1,c2,c3⟩:=e3 k hk hki
 exact⟨c,c1,c2,h v k c hv (by omega) c1 c3⟩
theorem A8S: ∀a b:Fin 8,∀x:Fin 256,CQ (x.val:Int) a.val=true→CQ ((x.val:Int)-2 ^ a.val) b.val=(CQ (x.val:Int) b.val&& !decide (b=a)):=by decide+kernel
def tq(E:Ad)(ns es:AX)(n D:Nat)(P:Nat→Nat→Nat→Prop):Prop:= ∀v i a,v<E.length→i<(E.getD v be).length→a<n→P v i a→A6L E ns es n D P v i a
def Qs(E:Ad)(n:Nat)(P Q:Nat→Nat→Nat→Prop):Prop:= ∀v i a,v<E.length→i<(E.getD v be).length→a<n→P v i a→Q v i a
section
variable {E:Ad} {ns es:AX} {n D:Nat} (C:Ctx E ns es n D) (hns: ∀v i,v<E.length→i<(E.getD v be).length→xH E v i=false)
include C hns
theorem A6M{P:Nat→Nat→Nat→Prop}(hP:tq E ns es n D P){M0:AX}{v i:Nat}(hv:v<E.length)(hi:i<(E.getD v be).length){a:Nat}(ha:a<n){q:Bool×AX}(hq:OkM E n q.2)(h1:Qs E n P (IP q.2))(h2:Qs E n (IP q.2) (IP M0)):
  Qs E n P (IP (stA (Jl E ns es n D) v i q a).2)∧Qs E n (IP (stA (Jl E ns es n D) v i q a).2) (IP M0):=by
 have hn:=C.hn;unfold stA;split
 ·rename_i h
  rw [El,ML]at h;have hl:=hq.len;have hr:=hq.row v hv;have hx:=hq.le hn hv hi;have hget: ∀w j,w<E.length→j<(E.getD w be).length→PI (q.2.set v ((q.2.getD v be).set i (PI q.2 v i-2 ^ a))) w j=if v=w∧i=j then PI q.2 v i-2 ^ a else PI q.2 w j:=fun w j hw hj=>bF (by omega) (by omega) w j (by have:=hq.row w hw;omega)
  have hsub: ∀b,b<n→CQ (PI q.2 v i-2 ^ a) b=(CQ (PI q.2 v i) b&& !decide (b=a)):=by
   intro b hb;have hxx:(((PI q.2 v i).toNat:Nat):Int)=PI q.2 v i:=by omega
   have:=A8S ⟨a,by omega⟩ ⟨b,by omega⟩ ⟨(PI q.2 v i).toNat,by omega⟩
   simp only [hxx,Fin.mk.injEq]at this;exact this h.1
  constructor
  ·intro w j b hw hj hb hp;have hp1:=h1 w j b hw hj hb hp;show CQ (PI _ w j) b=true
   dsimp only;rw [hget w j hw hj];by_cases e:v=w∧i=j
   ·rw [if_pos e,hsub b hb];obtain⟨rfl,rfl⟩:=e;by_cases eb:b=a
    ·subst eb;have:=(xR C.hp hq hv hi (hns v i hv hi)).2 (A2t C.hN h1 hv hi (hP v i b hv hi hb hp))
     rw [this]at h;exact absurd h.2 (by decide)
    ·rw [decide_eq_false eb,Bool.not_false,Zc];exact hp1
   ·rw [if_neg e];exact hp1
  ·intro w j b hw hj hb hp;have hp':CQ (PI (q.2.set v ((q.2.getD v be).set i (PI q.2 v i-2 ^ a))) w j) b=true:=hp;rw [hget w j hw hj]at hp';by_cases e:v=w∧i=j
   ·rw [if_pos e,hsub b hb,El]at hp';obtain⟨rfl,rfl⟩:=e;exact h2 v i b hv hi hb hp'.1
   ·rw [if_neg e]at hp';exact h2 w j b hw hj hb hp'
 ·exact⟨h1,h2⟩
omit C hns in
theorem Uy(I:Bool×AX→Prop)(g:Bool×AX→Nat→Bool×AX): ∀(l:List Nat),(∀q,I q→ ∀x∈l,I (g q x))→ ∀q,I q→I (l.foldl g q)
 | [],_,q,hq=>hq
 |x::l,h,q,hq=>Uy I g l (fun q hq y hy=>h q hq y (PL _ hy)) _ (h q hq x Gu)
omit C hns in
theorem TB{g:Bool×AX→Nat→Bool×AX}: ∀(l:List Nat),(∀q,OkM E n q.2→ ∀x∈l,DnM E n q (g q x))→ ∀q,OkM E n q.2→(l.foldl g q).1=false→ ∀x∈l,g q x=q
 | [],_,q,_,_=>fun x hx=>by cases hx
 |y::l,h,q,hq,hf=>by
  obtain⟨h1,h2⟩:=h q hq y Gu;have hrest:=Xi g l (fun q hq z hz=>h q hq z (PL _ hz)) (g q y) h1
  have hy:g q y=q:=by
   rcases h2 with h2|⟨h2,_⟩
   ·exact h2
   ·exfalso;rw [VS]at hf;rcases hrest.2 with h3|⟨h3,_⟩
    ·rw [h3,h2]at hf;cases hf
    ·rw [h3]at hf;cases hf
  intro x hx;rcases Rw.1 hx with rfl|hx
  ·exact hy
  ·rw [VS,hy]at hf;exact TB l (fun q hq z hz=>h q hq z (PL _ hz)) q hq hf x hx
theorem A2u{P:Nat→Nat→Nat→Prop}(hP:tq E ns es n D P){M0:AX}{q:Bool×AX}(hq:OkM E n q.2)(h1:Qs E n P (IP q.2))(h2:Qs E n (IP q.2) (IP M0)):
  Qs E n P (IP (Q9 (Jl E ns es n D) n E q).2)∧Qs E n (IP (Q9 (Jl E ns es n D) n E q).2) (IP M0):=by
 have key:=Uy (fun q=>OkM E n q.2∧Qs E n P (IP q.2)∧Qs E n (IP q.2) (IP M0)) (stV (Jl E ns es n D) n E) (ao E.length) (fun q hq v hv=>by
  have hv:=Fa.1 hv;refine Uy (fun q=>OkM E n q.2∧Qs E n P (IP q.2)∧Qs E n (IP q.2) (IP M0)) (stI (Jl E ns es n D) n v) (ao (E.getD v be).length) (fun q hq i hi=> ?_) q hq;have hi:=Fa.1 hi;refine Uy (fun q=>OkM E n q.2∧Qs E n P (IP q.2)∧Qs E n (IP q.2) (IP M0)) (stA (Jl E ns es n D) v i) (ao n) (fun q hq a ha=> ?_) q hq
  exact⟨(tC _ hv hi q hq.1 a).1,A6M C hns hP hv hi (Fa.1 ha) hq.1 hq.2.1 hq.2.2⟩) q ⟨hq,h1,h2⟩
 exact key.2
theorem A0E{M:AX}(hM:OkM E n M)(h:(Q9 (Jl E ns es n D) n E (false,M)).1=false):tq E ns es n D (IP M):=by
 intro v i a hv hi ha hp;have k1:=TB (n:=n) (ao E.length) (fun q hq v hv=>zz (Jl E ns es n D) (Fa.1 hv) q hq) (false,M) hM h v (Fa.2 hv);have k2:=TB (n:=n) (ao (E.getD v be).length) (fun q hq i hi=>zy (Jl E ns es n D) hv (Fa.1 hi) q hq) (false,M) hM (by have:=congrArg Prod.fst k1;exact this) i (Fa.2 hi)
 have k3:=TB (n:=n) (ao n) (fun q hq a _=>tC (Jl E ns es n D) hv hi q hq a) (false,M) hM (by have:=congrArg Prod.fst k2;exact this) a (Fa.2 ha)
 unfold stA at k3;have hp':CQ (PI M v i) a=true:=hp;rw [←xR C.hp hM hv hi (hns v i hv hi)]
 cases hsup:Jl E ns es n D M v i a with
 |true=>rfl
 |false=>
  dsimp only at k3;rw [hsup,hp',if_pos (by decide)]at k3
  have:=congrArg Prod.fst k3
  cases this
theorem Yw{P:Nat→Nat→Nat→Prop}(hP:tq E ns es n D P){M0:AX}: ∀(k:Nat) (M:AX),OkM E n M→wt M<k→Qs E n P (IP M)→Qs E n (IP M) (IP M0)→
  Qs E n P (IP (lI (Jl E ns es n D) n E k M))∧Qs E n (IP (lI (Jl E ns es n D) n E k M)) (IP M0)∧tq E ns es n D (IP (lI (Jl E ns es n D) n E k M))
 |0,M,hM,hk,_,_=>by have:=hM.nonneg;omega
 |k+1,M,hM,hk,h1,h2=>by
  obtain⟨d1,d2⟩:=A19 (n:=n) (Jl E ns es n D) (false,M) hM;obtain⟨p1,p2⟩:=A2u C hns hP (q:=(false,M)) hM h1 h2;unfold lI;split
  ·rename_i c
   rcases d2 with d2|⟨_,d2⟩
   ·rw [d2]at c;cases c
   ·exact Yw hP k _ d1 (by have:wt (Q9 (Jl E ns es n D) n E (false,M)).2<wt M:=d2;omega) p1 p2
  ·rename_i c
   have c':(Q9 (Jl E ns es n D) n E (false,M)).1=false:=by simpa using c
   have e:Q9 (Jl E ns es n D) n E (false,M)=(false,M):=by
    rcases d2 with d2|⟨d2,_⟩
    ·exact d2
    ·rw [d2]at c';cases c'
   rw [e]
   exact⟨h1,h2,A0E C hns hM c'⟩
theorem A8T{M:AX}(hM:OkM E n M):tq E ns es n D (IP (Rm E ns es n D M)):=
 (Yw C hns (M0:=M) (P:=fun _ _ _=>False) (fun _ _ _ _ _ _ h=>h.elim) _ M hM (by have:=hM.nonneg;omega) (fun _ _ _ _ _ _ h=>h.elim) (fun _ _ _ _ _ _ h=>h)).2.2
theorem A8U{M:AX}(hM:OkM E n M){P:Nat→Nat→Nat→Prop}(hP:tq E ns es n D P)(h:Qs E n P (IP M)):Qs E n P (IP (Rm E ns es n D M)):=
 (Yw C hns (M0:=M) hP _ M hM (by have:=hM.nonneg;omega) h (fun _ _ _ _ _ _ h=>h)).1
end
theorem jG{f:Nat→Nat}: ∀n,0<Ej n f↔ ∃i,i<n∧0<f i
 |0=>by simp [Yn]
 |n+1=>by
  rw [EU];have ih:=jG (f:=f) n
  constructor
  ·intro h;by_cases c:0<f n
   ·exact⟨n,by omega,c⟩
   ·obtain⟨i,h1,h2⟩:=ih.1 (by omega)
    exact⟨i,by omega,h2⟩
  ·rintro⟨i,h1,h2⟩
   by_cases c:i=n
   ·subst c;omega
   ·have:=ih.2 ⟨i,by omega,h2⟩
    omega
theorem jH{n:Nat}{g:AO→Nat}: ∀(Ws:List (Int→Nat)) (c:AO),0<MK n g Ws c↔ ∃d:AO,d.length=Ws.length∧(∀k (h:k<Ws.length),∃b:Nat,b<n∧d.getD k be=(b:Int)∧0<Ws[k] (b:Int))∧0<g (c++d)
 | [],c=>by
  unfold MK
  constructor
  ·intro h
   exact⟨[],rfl,fun k hk=>by simp at hk,by rwa [TI]⟩
  ·rintro⟨d,h1,_,h3⟩
   have:d=[]:=uG h1
   rw [this,TI]at h3;exact h3
 |w::Ws,c=>by
  unfold MK;rw [jG]
  constructor
  ·rintro⟨b,hb,h⟩
   have h1:0<w (b:Int):=Nat.pos_of_mul_pos_right h;have h2:0<MK n g Ws (c++[(b:Int)]):=Nat.pos_of_mul_pos_left h;obtain⟨d,d1,d2,d3⟩:=(jH Ws _).1 h2
   refine⟨(b:Int)::d,by simp [d1],fun k hk=> ?_,by rw [M4]at d3;exact d3⟩
   cases k with
   |zero=>exact⟨b,hb,rfl,h1⟩
   |succ k=>
    obtain⟨x,x1,x2,x3⟩:=d2 k (by simpa using hk)
    exact⟨x,x1,by rw [cv];exact x2,by simpa using x3⟩
  ·rintro⟨d,d1,d2,d3⟩
   cases d with
   |nil=>simp at d1
   |cons y d=>
    obtain⟨b,b1,b2,b3⟩:=d2 0 (by simp)
    have e:y=(b:Int):=by simpa using b2
    subst e
    refine⟨b,b1,Nat.mul_pos (by simpa using b3) ((jH Ws _).2 ⟨d,by simpa using d1,fun k hk=> ?_,by rw [M4];exact d3⟩)⟩
    obtain⟨x,x1,x2,x3⟩:=d2 (k+1) (by simpa using hk)
    exact⟨x,x1,by rw [cv]at x2;exact x2,by simpa using x3⟩
theorem A1F{ns:AX}{c:AO}:0<gdC ns c↔ns.contains (Hm c)=true:=by
 unfold gdC;split
 ·rename_i h;exact⟨fun _=>h,fun _=>by decide⟩
 ·rename_i h;exact⟨fun h=>by omega,fun q=>absurd q h⟩
theorem A2v(es:AX)(a b:Int):KI es a b=KI es b a:=by
 unfold KI;by_cases c:b<a
 ·rw [if_pos c,if_neg (by omega)]
 ·by_cases d:a<b
  ·rw [if_neg c,if_pos d]
  ·have:a=b:=by omega
   rw [this]
section
variable {E:Ad} {ns es:AX} {n D:Nat} {m:Nat→Nat→Nat→Bool}
theorem Uz: ∀(f f' v:Nat) (i:Int) (a:Nat),f≤f'→sZ E f v i→NE E ns es n D m f v i a=NE E ns es n D m f' v i a
 |0,_,_,_,_,_,hd=>hd.elim
 |f+1,0,_,_,_,h,_=>by omega
 |f+1,f'+1,v,i,a,h,hd=>by
  obtain⟨hv,hd⟩:=hd;unfold NE;refine ZU _ _ [] (by rw [P9,P9]) fun k h1 h2 b hb=> ?_
  rw [P9]at h1;rw [Yq,Yq];unfold uE;by_cases ci:(k:Int)=i
  ·rw [if_pos ci,if_pos ci]
  ·rw [if_neg ci,if_neg ci]
   have:(Ej n fun c=>if KI es (b:Int) (c:Int)=true then(fun u j c=>if m u j c=true then NE E ns es n D m f u (j:Int) c else 0) (QH E v k) (Qt E v k) c else 0)=Ej n fun c=>if KI es (b:Int) (c:Int)=true then(fun u j c=>if m u j c=true then NE E ns es n D m f' u (j:Int) c else 0) (QH E v k) (Qt E v k) c else 0:=by
    refine KO fun c hc=> ?_;dsimp only;rw [Uz f f' _ _ c (by omega) (hd k h1 ci)]
   rw [this]
def Tm(E:Ad)(ns es:AX)(n D:Nat)(m:Nat→Nat→Nat→Bool)(u j c:Nat):Prop:=m u j c=true∧0<NE E ns es n D m E.length u (j:Int) c
def Bm(E:Ad)(ns es:AX)(n D:Nat)(m:Nat→Nat→Nat→Bool)(u j c:Nat):Prop:=Tm E ns es n D m u j c∧ ∃c',c'<n∧Tm E ns es n D m (QH E u j) (Qt E u j) c'∧KI es (c:Int) (c':Int)=true
def Lab(E:Ad)(ns es:AX)(n D:Nat)(m:Nat→Nat→Nat→Bool)(u:Nat)(d:AO):Prop:=
 d.length=(E.getD u be).length∧(∀k,k<(E.getD u be).length→ ∃b,b<n∧d.getD k be=(b:Int)∧m u k b=true∧ ∃c,c<n∧Tm E ns es n D m (QH E u k) (Qt E u k) c∧KI es (b:Int) (c:Int)=true)∧((E.getD u be).length=D→ns.contains (Hm d)=true)
theorem jI{f v:Nat}{i:Int}{a:Nat}(hf:f≤E.length)(hd:sZ E (f+1) v i):0<NE E ns es n D m (f+1) v i a↔ ∃d:AO,d.length=(E.getD v be).length∧(∀k,k<(E.getD v be).length→ ∃b,b<n∧d.getD k be=(b:Int)∧if(k:Int)=i then b=a else(m v k b=true∧ ∃c,c<n∧Tm E ns es n D m (QH E v k) (Qt E v k) c∧KI es (b:Int) (c:Int)=true))∧((E.getD v be).length=D→ns.contains (Hm d)=true):=by
 obtain⟨hv,hd⟩:=hd;unfold NE;rw [jH]
 have hw: ∀k (hk:k<(E.getD v be).length) (b:Nat),b<n→(0<uE E es n m (fun u j c=>if m u j c=true then NE E ns es n D m f u (j:Int) c else 0) v i a k (b:Int)↔if(k:Int)=i then b=a else(m v k b=true∧ ∃c,c<n∧Tm E ns es n D m (QH E v k) (Qt E v k) c∧KI es (b:Int) (c:Int)=true)):=by
  intro k hk b hb;unfold uE;by_cases ci:(k:Int)=i
  ·rw [if_pos ci,if_pos ci];by_cases e:b=a
   ·rw [if_pos (by omega)];exact⟨fun _=>e,fun _=>by decide⟩
   ·rw [if_neg (by omega)];exact⟨fun h=>by omega,fun q=>absurd q e⟩
  ·rw [if_neg ci,if_neg ci,Cq]
   cases hm:m v k b with
   |false=>simp
   |true=>
    rw [if_pos rfl,jG];simp only [true_and]
    constructor
    ·rintro⟨c,c1,c2⟩
     by_cases he:KI es (b:Int) (c:Int)=true
     ·rw [if_pos he]at c2;by_cases h1:m (QH E v k) (Qt E v k) c=true
      ·rw [if_pos h1,Uz f E.length _ _ c hf (hd k hk ci)]at c2
       exact⟨c,c1,⟨h1,c2⟩,he⟩
      ·rw [if_neg h1]at c2;omega
     ·rw [if_neg he]at c2;omega
    ·rintro⟨c,c1,⟨c2,c3⟩,he⟩
     refine⟨c,c1, ?_⟩
     rw [if_pos he,if_pos c2,Uz f E.length _ _ c hf (hd k hk ci)];exact c3
 constructor
 ·rintro⟨d,d1,d2,d3⟩
  rw [P9]at d1
  refine⟨d,d1,fun k hk=> ?_,fun hD=> ?_⟩
  ·obtain⟨b,b1,b2,b3⟩:=d2 k (by rw [P9];exact hk)
   rw [Yq]at b3
   exact⟨b,b1,b2,(hw k hk b b1).1 b3⟩
  ·rw [if_pos hD]at d3;exact A1F.1 d3
 ·rintro⟨d,d1,d2,d3⟩
  refine⟨d,by rw [P9];exact d1,fun k hk=> ?_, ?_⟩
  ·rw [P9]at hk;obtain⟨b,b1,b2,b3⟩:=d2 k hk;rw [Yq]
   exact⟨b,b1,b2,(hw k hk b b1).2 b3⟩
  ·by_cases hD:(E.getD v be).length=D
   ·rw [if_pos hD];exact A1F.2 (d3 hD)
   ·rw [if_neg hD];decide
end
structure Fo(E:Ad):Prop where
 hN:NetOk E
 hP:PortN E
 st:Xp E=false
 ac:A6G E
theorem AMV{E:Ad}{ids ins:AO}(h:Dt E ids ins=true)(hf:lK E=true):Fo E:=by
 unfold lK at hf;rw [El,ML,Gx]at hf
 exact⟨ic h,Xo h,hf.1,hf.2⟩
theorem Fo.dep{E:Ad}(H:Fo E){v i:Nat}(hv:v<E.length)(hi:i<(E.getD v be).length):sZ E E.length v (i:Int):=by
 refine A0B H.hP H.st H.ac E.length v i hv hi ?_;unfold msr;exact VW cj (by simp)
theorem Fo.root{E:Ad}(H:Fo E){v:Nat}(hv:v<E.length):sZ E (E.length+1) v (-1):=⟨hv,fun k hk _=>by
 obtain⟨_,_,p3,p4,_,_⟩:=H.hN.at hv hk
 exact H.dep p3 p4⟩
section
variable {E:Ad} {ns es:AX} {n D:Nat} {m:Nat→Nat→Nat→Bool} (H:Fo E)
include H
theorem A6N{u j a:Nat}(hu:u<E.length)(hj:j<(E.getD u be).length):0<NE E ns es n D m E.length u (j:Int) a↔ ∃d:AO,d.length=(E.getD u be).length∧(∀k,k<(E.getD u be).length→ ∃b,b<n∧d.getD k be=(b:Int)∧if(k:Int)=(j:Int)then b=a else(m u k b=true∧ ∃c,c<n∧Tm E ns es n D m (QH E u k) (Qt E u k) c∧KI es (b:Int) (c:Int)=true))∧((E.getD u be).length=D→ns.contains (Hm d)=true):=by
 have hd:=H.dep hu hj;have hE:E.length=(E.length-1)+1:=by omega
 rw [hE]at hd;have:=jI (ns:=ns) (es:=es) (n:=n) (D:=D) (m:=m) (a:=a) (f:=E.length-1) (by omega) hd
 rw [←hE]at this;exact this
theorem xS{r:Nat}(hr:r<E.length):0<NE E ns es n D m (E.length+1) r (-1) 0↔ ∃d,Lab E ns es n D m r d:=by
 rw [jI (Cc _) (H.root hr)];refine exists_congr fun d=>and_congr Iff.rfl (and_congr ?_ Iff.rfl);refine forall_congr' fun k=>forall_congr' fun hk=>exists_congr fun b=>and_congr Iff.rfl (and_congr Iff.rfl ?_);rw [if_neg (by omega)]
theorem A1G{u:Nat}{d:AO}(hu:u<E.length)(h:Lab E ns es n D m u d){k:Nat}(hk:k<(E.getD u be).length): ∃b,b<n∧d.getD k be=(b:Int)∧Bm E ns es n D m u k b:=by
 obtain⟨h1,h2,h3⟩:=h;obtain⟨b,b1,b2,b3,c,c1,c2,c3⟩:=h2 k hk
 refine⟨b,b1,b2,⟨b3,(A6N H hu hk).2 ⟨d,h1,fun l hl=> ?_,h3⟩⟩,c,c1,c2,c3⟩
 obtain⟨x,x1,x2,x3,x4⟩:=h2 l hl
 refine⟨x,x1,x2, ?_⟩
 by_cases e:(l:Int)=(k:Int)
 ·rw [if_pos e];have:l=k:=by omega
  subst this;omega
 ·rw [if_neg e];exact⟨x3,x4⟩
theorem ABb{u j a:Nat}(hu:u<E.length)(hj:j<(E.getD u be).length)(h:Bm E ns es n D m u j a): ∃d,Lab E ns es n D m u d∧d.getD j be=(a:Int):=by
 obtain⟨⟨h1,h2⟩,c,c1,c2,c3⟩:=h;obtain⟨d,d1,d2,d3⟩:=(A6N H hu hj).1 h2;obtain⟨b,b1,b2,b3⟩:=d2 j hj;rw [if_pos rfl]at b3;subst b3
 refine⟨d,⟨d1,fun k hk=> ?_,d3⟩,b2⟩
 obtain⟨x,x1,x2,x3⟩:=d2 k hk;by_cases e:(k:Int)=(j:Int)
 ·have:k=j:=by omega
  subst this
  exact⟨b,b1,b2,h1,c,c1,c2,c3⟩
 ·rw [if_neg e]at x3
  exact⟨x,x1,x2,x3.1,x3.2⟩
theorem A6O{u j a:Nat}(hu:u<E.length)(hj:j<(E.getD u be).length)(h:Bm E ns es n D m u j a): ∃b,b<n∧Bm E ns es n D m (QH E u j) (Qt E u j) b∧KI es (a:Int) (b:Int)=true:=by
 obtain⟨h1,c,c1,c2,c3⟩:=h;obtain⟨_,_,f3,f4,f5,f6⟩:=H.hN.at hu hj
 refine⟨c,c1,⟨c2,a, ?_, ?_,by rw [A2v];exact c3⟩,c3⟩
 ·obtain⟨d,d1,d2,d3⟩:=(A6N H hu hj).1 h1.2;obtain⟨b,b1,b2,b3⟩:=d2 j hj;rw [if_pos rfl]at b3;omega
 ·rw [f5,f6];exact h1
theorem ABc:tq E ns es n D (Bm E ns es n D m):=by
 intro v i a hv hi ha h
 refine⟨A6O H hv hi h,fun hD=> ?_⟩
 obtain⟨d,hd,e⟩:=ABb H hv hi h
 refine⟨d,by rw [hd.1,hD],e,fun k hk _=> ?_,hd.2.2 hD⟩
 obtain⟨b,b1,b2,b3⟩:=A1G H hv hd (k:=k) (by omega)
 exact⟨b,b1,b2,b3⟩
def lL(E:Ad)(n:Nat)(P:Nat→Nat→Nat→Prop)(u:Nat):Prop:= ∀k,k<(E.getD u be).length→ ∃a,a<n∧P u k a
theorem AMW{u j a:Nat}(hu:u<E.length)(hj:j<(E.getD u be).length)(h:Bm E ns es n D m u j a):lL E n (Bm E ns es n D m) u:=by
 intro k hk;obtain⟨d,hd,_⟩:=ABb H hu hj h;obtain⟨b,b1,_,b3⟩:=A1G H hu hd hk
 exact⟨b,b1,b3⟩
theorem A6P{u x:Nat}(hu:u<E.length)(h:lL E n (Bm E ns es n D m) u)(hc:Cn (Dh E) u x):x<E.length∧lL E n (Bm E ns es n D m) x:=by
 obtain⟨l,hl⟩:=hc
 induction hl with
 |z=>exact⟨hu,h⟩
 |s hr hy ih=>
  obtain⟨hx,hB⟩:=ih;obtain⟨k,hk,rfl⟩:=QA.1 hy;obtain⟨f1,f2,f3,f4,_,_⟩:=H.hN.at hx hk;obtain⟨a,a1,a2⟩:=hB k hk;obtain⟨b,b1,b2,_⟩:=A6O H hx hk a2;rw [f1,Cq]
  exact⟨f3,AMW H f3 f4 b2⟩
end
section
variable {E:Ad} {ns es:AX} {n D:Nat} {P:Nat→Nat→Nat→Prop} (H:Fo E) (hcl:tq E ns es n D P) (hne: ∀u,u<E.length→lL E n P u)
include H hcl hne
omit H in
theorem A6Q{u j c:Nat}(hu:u<E.length)(hj:j<(E.getD u be).length)(hc:c<n)(h:P u j c): ∃d:AO,d.length=(E.getD u be).length∧d.getD j be=(c:Int)∧(∀k,k<(E.getD u be).length→ ∃b,b<n∧d.getD k be=(b:Int)∧P u k b)∧((E.getD u be).length=D→ns.contains (Hm d)=true):=by
 by_cases hD:(E.getD u be).length=D
 ·obtain⟨d,d1,d2,d3,d4⟩:=(hcl u j c hu hj hc h).2 hD
  refine⟨d,by omega,d2,fun k hk=> ?_,fun _=>d4⟩
  by_cases e:k=j
  ·subst e;exact⟨c,hc,d2,h⟩
  ·obtain⟨b,b1,b2,b3⟩:=d3 k (by omega) e
   exact⟨b,b1,b2,b3⟩
 ·have hg0: ∀k,∃x,k<(E.getD u be).length→x<n∧P u k x:=by
   intro k;by_cases hk:k<(E.getD u be).length
   ·obtain⟨x,hx⟩:=hne u hu k hk
    exact⟨x,fun _=>hx⟩
   ·exact⟨0,fun q=>absurd q hk⟩
  have hg: ∃g:Nat→Nat,∀k,k<(E.getD u be).length→g k<n∧P u k (g k):=⟨fun k=>Classical.choose (hg0 k),fun k hk=>Classical.choose_spec (hg0 k) hk⟩;obtain⟨g,hg⟩:=hg
  have hget: ∀k,k<(E.getD u be).length→((ao (E.getD u be).length).map fun k=>((if k=j then c else g k:Nat):Int)).getD k be=((if k=j then c else g k:Nat):Int):=by
   intro k hk;rw [Ac _ _ (by simpa using hk),PM,OU]
  refine⟨(ao (E.getD u be).length).map fun k=>((if k=j then c else g k:Nat):Int),by simp,by rw [hget j hj,if_pos rfl],fun k hk=>⟨if k=j then c else g k, ?_,hget k hk, ?_⟩,fun q=>absurd q hD⟩
  ·split
   ·exact hc
   ·exact(hg k hk).1
  ·split
   ·rename_i e;subst e;exact h
   ·exact(hg k hk).2
theorem grow{m:Nat→Nat→Nat→Bool}(X:Nat→Prop)(hm: ∀x k c,X x→x<E.length→k<(E.getD x be).length→c<n→P x k c→m x k c=true):
  ∀(f u j c:Nat),f≤E.length→sZ E f u (j:Int)→u<E.length→j<(E.getD u be).length→(∀x,Cn (OQ E u j) u x→X x)→c<n→P u j c→0<NE E ns es n D m f u (j:Int) c
 |0,u,j,c,_,hd,_,_,_,_,_=>hd.elim
 |f+1,u,j,c,hf,hd,hu,hj,hX,hc,hp=>by
  obtain⟨d,d1,d2,d3,d4⟩:=A6Q hcl hne hu hj hc hp
  refine(jI (by omega) hd).2 ⟨d,d1,fun k hk=> ?_,d4⟩
  obtain⟨b,b1,b2,b3⟩:=d3 k hk
  refine⟨b,b1,b2, ?_⟩
  by_cases e:(k:Int)=(j:Int)
  ·rw [if_pos e];have:k=j:=by omega
   subst this;omega
  ·rw [if_neg e];obtain⟨_,_,f3,f4,_,_⟩:=H.hN.at hu hk;obtain⟨s1,s2⟩:=jD H.hP H.st H.ac hu hj hk (by omega)
   obtain⟨b',q1,q2,q3⟩:=(hcl u k b hu hk b1 b3).1;have hdk:=hd.2 k hk e;have hX': ∀x,Cn (OQ E (QH E u k) (Qt E u k)) (QH E u k) x→X x:=fun x hx=>hX x (s1 x hx)
   refine⟨hm u k b (hX u (Cn.refl u)) hu hk b1 b3,b',q1,⟨hm _ _ _ (hX' _ (Cn.refl _)) f3 f4 q1 q2, ?_⟩,q3⟩
   rw [←Uz f E.length _ _ b' (by omega) hdk]
   exact grow X hm f _ _ b' (by omega) hdk f3 f4 hX' q1 q2
theorem tu{m:Nat→Nat→Nat→Bool}(X:Nat→Prop)(hm: ∀x k c,X x→x<E.length→k<(E.getD x be).length→c<n→P x k c→m x k c=true){u j c:Nat}(hu:u<E.length)(hj:j<(E.getD u be).length)(hX: ∀x,Cn (OQ E u j) u x→X x)(hc:c<n)(h:P u j c):Tm E ns es n D m u j c:=
 ⟨hm u j c (hX u (Cn.refl u)) hu hj hc h,grow H hcl hne X hm E.length u j c (Cc _) (H.dep hu hj) hu hj hX hc h⟩
theorem A2w{m:Nat→Nat→Nat→Bool}(hD:1≤D)(hm:Qs E n P fun x k c=>m x k c=true){r:Nat}(hr:r<E.length):0<NE E ns es n D m (E.length+1) r (-1) 0:=by
 rw [xS H hr];by_cases h0:(E.getD r be).length=0
 ·exact⟨[],h0.symm,fun k hk=>by omega,fun h=>by omega⟩
 ·obtain⟨a,a1,a2⟩:=hne r hr 0 (by omega)
  obtain⟨d,d1,d2,d3,d4⟩:=A6Q hcl hne hr (by omega:0<(E.getD r be).length) a1 a2
  refine⟨d,d1,fun k hk=> ?_,d4⟩
  obtain⟨b,b1,b2,b3⟩:=d3 k hk;obtain⟨_,_,f3,f4,_,_⟩:=H.hN.at hr hk;obtain⟨b',q1,q2,q3⟩:=(hcl r k b hr hk b1 b3).1
  exact⟨b,b1,b2,hm r k b hr hk b1 b3,b',q1,tu H hcl hne (fun _=>True) (fun x k c _ hx hk hc h=>hm x k c hx hk hc h) f3 f4 (fun _ _=>trivial) q1 q2,q3⟩
theorem A8V{m:Nat→Nat→Nat→Bool}{v i a:Nat}(hv:v<E.length)(hi:i<(E.getD v be).length)(ha:a<n)(hp:P v i a)(hm1:m v i a=true)
  (hm: ∀x k c,x<E.length→k<(E.getD x be).length→c<n→ ¬(x=v∧k=i)→P x k c→m x k c=true): ∀u,u<E.length→lL E n (Bm E ns es n D m) u:=by
 have hoff: ∀x k c,x≠v→x<E.length→k<(E.getD x be).length→c<n→P x k c→m x k c=true:=fun x k c hx h1 h2 h3 h4=>hm x k c h1 h2 h3 (fun e=>hx e.1) h4
 have hsub: ∀ {u k x:Nat},Cn (OQ E u k) u x→Cn (Dh E) u x:=fun h=>Cn.mono (fun x y hy=>by
  obtain⟨p,hp,_,rfl⟩:=Rq.1 hy
  exact QA.2 ⟨p,hp,rfl⟩) h
 have hbr: ∀k,k<(E.getD v be).length→ ∀b,b<n→P v k b→ ∃b',b'<n∧Tm E ns es n D m (QH E v k) (Qt E v k) b'∧KI es (b:Int) (b':Int)=true:=by
  intro k hk b hb hpk;obtain⟨_,_,f3,f4,f5,f6⟩:=H.hN.at hv hk;obtain⟨b',q1,q2,q3⟩:=(hcl v k b hv hk hb hpk).1
  refine⟨b',q1,tu H hcl hne (fun x=>x≠v) (fun x k c hx h1 h2 h3 h4=>hoff x k c hx h1 h2 h3 h4) f3 f4 (fun x hx e=> ?_) q1 q2,q3⟩
  have:=H.ac _ f3 _ f4 (tZ H.st f3 f4)
  have e5:JB E (QH E v k) (Qt E v k)=v:=f5;rw [e5]at this;exact this (e▸hx)
 have hLv: ∃d,Lab E ns es n D m v d:=by
  obtain⟨d,d1,d2,d3,d4⟩:=A6Q hcl hne hv hi ha hp
  refine⟨d,d1,fun k hk=> ?_,d4⟩
  obtain⟨b,b1,b2,b3⟩:=d3 k hk
  refine⟨b,b1,b2, ?_,hbr k hk b b1 b3⟩
  by_cases e:k=i
  ·subst e;have:b=a:=by omega
   subst this;exact hm1
  ·exact hm v k b hv hk b1 (fun q=>e q.2) b3
 have hQv:lL E n (Bm E ns es n D m) v:=by
  obtain⟨d,hd⟩:=hLv;intro k hk;obtain⟨b,b1,_,b3⟩:=A1G H hv hd hk
  exact⟨b,b1,b3⟩
 intro u hu;by_cases hc:Cn (Dh E) v u
 ·exact(A6P H hv hQv hc).2
 ·have hsy: ∀ {x y:Nat},Cn (Dh E) x y→Cn (Dh E) y x:=fun h=>(A1E H.hP).1 (CP.symm ((A1E H.hP).2 h));intro k hk;obtain⟨c,c1,c2⟩:=hne u hu k hk;obtain⟨f1,_,f3,f4,_,_⟩:=H.hN.at hu hk;obtain⟨b',q1,q2,q3⟩:=(hcl u k c hu hk c1 c2).1
  have hw:Cn (Dh E) u (QH E u k):=by
   have:=Cn.of (QA.2 ⟨k,hk,rfl⟩:BJ (E.getD u be) k∈Dh E u)
   rwa [f1,Cq]at this
  refine⟨c,c1,tu H hcl hne (fun x=>x≠v) (fun x k c hx h1 h2 h3 h4=>hoff x k c hx h1 h2 h3 h4) hu hk (fun x hx e=> ?_) c1 c2,b',q1,tu H hcl hne (fun x=>x≠v) (fun x k c hx h1 h2 h3 h4=>hoff x k c hx h1 h2 h3 h4) f3 f4 (fun x hx e=> ?_) q1 q2,q3⟩
  ·exact hc (hsy (e▸hsub hx))
  ·exact hc (hsy (hw.trans (e▸hsub hx)))
end
section
variable {E:Ad} {ns es:AX} {n D:Nat} {m:Nat→Nat→Nat→Bool} (H:Fo E)
include H
omit H in
theorem jJ{g:Nat→Nat}{R:Nat→Bool}: ∀k,0<Yv g R k↔ ∀v,v<k→R v=true→0<g v
 |0=>⟨fun _ v hv=>by omega,fun _=>by simp [Yv]⟩
 |k+1=>by
  unfold Yv;have ih:=jJ (g:=g) (R:=R) k;by_cases c:R k=true
  ·rw [if_pos c]
   constructor
   ·intro h v hv hr;by_cases e:v=k
    ·subst e;exact Nat.pos_of_mul_pos_left h
    ·exact ih.1 (Nat.pos_of_mul_pos_right h) v (by omega) hr
   ·intro h;exact Nat.mul_pos (ih.2 fun v hv hr=>h v (by omega) hr) (h k (by omega) c)
  ·rw [if_neg c]
   constructor
   ·intro h v hv hr;by_cases e:v=k
    ·subst e;exact absurd hr c
    ·exact ih.1 h v (by omega) hr
   ·intro h;exact ih.2 fun v hv hr=>h v (by omega) hr
theorem A8W{ids ins:AO}(h:Dt E ids ins=true)(ht:0<Yv (fun v=>NE E ns es n D m (E.length+1) v (-1) 0) (Rt E) E.length): ∀u,u<E.length→lL E n (Bm E ns es n D m) u:=by
 intro u hu;obtain⟨r,r1,r2,r3⟩:=j3 (CP (xU E)) (fun x=>Cn.refl x) u;have hr:r<E.length:=by omega
 have hroot:Rt E r=true:=by
  unfold Rt;rw [decide_eq_true_eq,jC h H.hP hr];intro w hw hc;exact r3 w hw (hc.trans r1)
 have hpos:=(jJ (g:=fun v=>NE E ns es n D m (E.length+1) v (-1) 0) (R:=Rt E) E.length).1 ht r hr hroot;obtain⟨d,hd⟩:=(xS H hr).1 hpos
 refine(A6P H hr (fun k hk=> ?_) ((A1E H.hP).1 r1)).2
 obtain⟨b,b1,_,b3⟩:=A1G H hr hd hk
 exact⟨b,b1,b3⟩
end
theorem AFY: ∀x:Fin 256,x.val≠0→ ∃a:Fin 8,CQ (x.val:Int) a.val=true:=by decide+kernel
theorem A6R{n:Nat}{x:Int}(hn:n≤8)(h:0≤x∧x<2 ^ n):x≠0↔ ∃a,a<n∧CQ x a=true:=by
 have:=A8H hn
 have hx:((x.toNat:Nat):Int)=x:=by omega
 constructor
 ·intro h0;obtain⟨a,ha⟩:=AFY ⟨x.toNat,by omega⟩ (by show x.toNat≠0;omega)
  simp only [hx]at ha
  refine⟨a.val, ?_,ha⟩
  apply cq
  intro hc;rw [mq h (by omega)]at ha
  cases ha
 ·rintro⟨a,_,ha⟩ e
  subst e;unfold CQ at ha;simp at ha
theorem A8X{E:Ad}{n:Nat}{M:AX}(hn:n≤8)(hM:OkM E n M):M.all (fun row=> !row.contains (0:Int))=true↔ ∀u,u<E.length→lL E n (IP M) u:=by
 have hl:=hM.len;rw [Jv]
 constructor
 ·intro h u hu k hk;have hr:=hM.row u hu;have:=h _ (NA (by omega:u<M.length))
  rw [ML,G8,Ne,TU]at this
  refine(A6R hn (hM.rng u k hu hk)).1 fun e=>this ?_
  unfold PI at e;rw [Ac _ _ (by omega:u<M.length)]at e hr
  rw [Ac _ _ (by omega)]at e
  rw [←e];exact NA _
 ·intro h row hrow;rw [ML,G8,Ne,TU];intro hm;obtain⟨u,hu,rfl⟩:=V4 hrow;obtain⟨k,hk,e⟩:=V4 hm;have hr:=hM.row u (by omega)
  rw [Ac _ _ hu]at hr
  refine(A6R hn (hM.rng u k (by omega) (by omega))).2 (h u (by omega) k (by omega)) ?_
  unfold PI;rw [Ac _ _ hu,Ac _ _ hk];exact e
def OT(l:AX)(v i:Nat)(a:Int):AX:=l.set v ((l.getD v be).set i a)
theorem jK{E:Ad}{n:Nat}{l:AX}(h:ShpL E n l){v i a:Nat}(hv:v<E.length)(hi:i<(E.getD v be).length)(ha:a<n):ShpL E n (OT l v i (a:Int)):=by
 have hl:=h.len;have hr:=h.row v hv
 refine⟨by unfold OT;rw [Jy,hl],fun u hu=>by unfold OT;rw [A18];exact h.row u hu,fun u k hu hk=> ?_⟩
 have hru:=h.row u hu;have e:((OT l v i (a:Int)).getD u be).getD k be=PI (OT l v i (a:Int)) u k:=rfl;rw [e];unfold OT;rw [bF (by omega) (by omega) u k (by omega)]
 have:=h.rng u k hu hk
 unfold PI
 split<;>omega
theorem u6{E:Ad}{n:Nat}{l:AX}(h:ShpL E n l){v i a u k:Nat}(hv:v<E.length)(hi:i<(E.getD v be).length)(hu:u<E.length)(hk:k<(E.getD u be).length):((OT l v i (a:Int)).getD u be).getD k be=if v=u∧i=k then(a:Int)else(l.getD u be).getD k be:=by
 have hl:=h.len;have hr:=h.row v hv;have hru:=h.row u hu;exact bF (by omega) (by omega) u k (by omega)
theorem A2x{l:AX}{v i:Nat}{a b:Int}(hv:v<l.length):OT (OT l v i a) v i b=OT l v i b:=by
 unfold OT;rw [Xj _ _ _ hv,jT,jT]
theorem Xr{E:Ad}{n:Nat}{l:AX}(hn:n≤8)(h:ShpL E n l){u k c:Nat}(hu:u<E.length)(hk:k<(E.getD u be).length)(hc:c<n):IP (Dn n l) u k c↔(l.getD u be).getD k be<0∨(l.getD u be).getD k be=(c:Int):=by
 have hl:=h.len;have hr:=h.row u hu;have hx:=h.rng u k hu hk
 have e:PI (Dn n l) u k=Rl n ((l.getD u be).getD k be):=by
  unfold PI;rw [Yr n l u (by omega),Ac _ _ (by rw [QD];omega),PM,Ac _ k (by omega)]
 unfold IP;rw [e];unfold Rl;by_cases c0:(l.getD u be).getD k be<0
 ·rw [if_pos c0,A6J ⟨n,by omega⟩ ⟨c,by omega⟩ hc]
  exact⟨fun _=> .inl c0,fun _=>rfl⟩
 ·rw [if_neg c0];have:=zu ⟨((l.getD u be).getD k be).toNat,by omega⟩ ⟨c,by omega⟩
  simp only at this;rw [this,decide_eq_true_eq,Fin.mk.injEq];omega
theorem A8Y{E:Ad}(H:Fo E): ∀v i,v<E.length→i<(E.getD v be).length→xH E v i=false:=fun _ _ hv hi=>tZ H.st hv hi
section
variable {E:Ad} {ns es:AX} {n D:Nat} (C:Ctn E ns es n D) (H:Fo E)
include C H
theorem A8Z{ids inp:AO}(h:Dt E ids inp=true)(hD1:1≤D){v i a:Nat}(hv:v<E.length)(hi:i<(E.getD v be).length)(ha:a<n):
  0<Yv (fun r=>NE E ns es n D (Rn (Dn n (OT (Bj E) v i (a:Int)))) (E.length+1) r (-1) 0) (Rt E) E.length↔
   (∀u,u<E.length→lL E n (IP (Rm E ns es n D (Dn n (Bj E)))) u)∧IP (Rm E ns es n D (Dn n (Bj E))) v i a:=by
 have hn:=C.hn;have hS:=jE E n;have hS':=jK hS hv hi ha;have hM:=Ub hS;have hM':=Ub hS';have hns:=A8Y H
 constructor
 ·intro ht;have hall:=A8W (ns:=ns) (es:=es) (n:=n) (D:=D) (m:=Rn (Dn n (OT (Bj E) v i (a:Int)))) H h ht;have hcl:=ABc (ns:=ns) (es:=es) (n:=n) (D:=D) (m:=Rn (Dn n (OT (Bj E) v i (a:Int)))) H;have hle:=A8U C.toCtx hns hM hcl (fun u k c hu hk hc _=>(Xr hn hS hu hk hc).2 (.inl (by rw [QB hu,Ac _ _ (by simpa using hk),PM];decide)))
  refine⟨fun u hu k hk=> ?_, ?_⟩
  ·obtain⟨c,c1,c2⟩:=hall u hu k hk
   exact⟨c,c1,hle u k c hu hk c1 c2⟩
  ·obtain⟨c,c1,c2⟩:=hall v hv i hi;have hc:IP (Dn n (OT (Bj E) v i (a:Int))) v i c:=c2.1.1;rw [Xr hn hS' hv hi c1,u6 hS hv hi hv hi,if_pos ⟨rfl,rfl⟩]at hc;have:c=a:=by omega
   rw [←this];exact hle v i c hv hi c1 c2
 ·rintro⟨hall,hp⟩
  have hcl:=A8T C.toCtx hns hM;have hpin:=A8V H hcl hall (m:=Rn (Dn n (OT (Bj E) v i (a:Int)))) hv hi ha hp
   ((Xr hn hS' hv hi ha).2 (by rw [u6 hS hv hi hv hi,if_pos ⟨rfl,rfl⟩];exact .inr rfl))
   (fun x k c hx hk hc hne _=>(Xr hn hS' hx hk hc).2 (by
    rw [u6 hS hv hi hx hk,if_neg (fun e=>hne ⟨e.1.symm,e.2.symm⟩),QB hx,Ac _ _ (by simpa using hk),PM]
    exact .inl (by decide)))
  rw [jJ];intro r hr _;exact A2w (ns:=ns) (es:=es) (n:=n) (D:=D) (m:=Rn (Dn n (OT (Bj E) v i (a:Int)))) H (ABc (ns:=ns) (es:=es) (n:=n) (D:=D) (m:=Rn (Dn n (OT (Bj E) v i (a:Int)))) H) hpin hD1 (fun u k c hu hk hc hb=>hb.1.1) hr
end
theorem A6S{E:Ad}(ids inp:AO)(hN:NetOk E):OL E ids inp=some (Bj E):=by
 have hb:=hN.big;unfold OL N7;rw [BC (by omega)]
 have key:=Bn (fun w=>FB E w.1 w.2) (fun k=>((Bj E).take k++ap (E.length-k) [],(k:Int))) E.length (Bj E) ?_ ?_
 ·have e0:(Bj E).take 0++ap (E.length-0) []=ap E.length ([]:AO):=by simp
  rw [e0,EW]at key;rw [key];rfl
 ·intro v hv;have hel:(Bj E).length=E.length:=by simp [Bj]
  have hd:=hN.deg v hv
  have e1:((Bj E).take v++ap (E.length-v) []).set v (ap (E.getD v be).length (-1))=(Bj E).take (v+1)++ap (E.length-(v+1)) ([]:AO):=by
   rw [nJ _ _ (by simp;omega)]
   have:v-((Bj E).take v).length=0:=by simp;omega
   have er:(Bj E)[v]'(by omega)=ap (E.getD v be).length (-1):=by
    rw [←Ac _ _ (by omega),QB hv]
    refine Za (by simp) fun i h1 h2=> ?_
    simp
   rw [this,bI (by omega),M4,show E.length-v=(E.length-(v+1))+1 by omega,uJ,er];rfl
  simp only [FB,Cq];rw [if_pos (by omega),BC (by omega),XN _ _ (by omega),CB]
  simp only [Cq];rw [BC (by simp;omega),e1,Gc v (by omega)]
 ·simp only [FB];have hel:(Bj E).length=E.length:=by simp [Bj]
  rw [if_neg (by omega),ct (by omega),WE,List.replicate_zero,TI]
theorem A1H(x:Nat):0<Df x↔0<x:=by unfold Df xF;omega
theorem A2y(a d:Int)(ns es:AX)(E:Ad)(ids ins:AO)(w j:Int)(hn:BQ ns)(he:BQ es)(hE:Cf E)(hids:ids.length<1099511627776)(hins:ins.length<1099511627776):
  ∃x y,Q8 a d ns es E ids ins w j=some (x,y)∧Q7 a d ns es E ids ins w j=some (x,y)∧x.length≤8:=by
 unfold Q8 Q7 Sr;rw [BC hn,BC he,BC hn,BC he,BC hE,BC hids,BC hins,BC hE,BC hids,BC hins];by_cases h:M7 a d ns es=true
 ·rw [if_pos h,if_pos h];by_cases hw:Dt E ids ins=true
  ·rw [if_pos hw,if_pos hw,xQ (Xo hw) hids hins,tY hw];simp only [CB];by_cases hf:lK E=true
   ·rw [if_pos hf,if_pos hf];have HN:=ic hw;have hb:=HN.big;unfold Xd ER GQ;rw [BC hE,BC hids,BC hins,if_pos hw,GG _ (by omega)]
    simp only [CB];by_cases hv:Jz w 0 ((E.length:Int)-1)=true
    ·rw [if_pos hv];have hvr:=EA.1 hv;rw [BC (by omega)]
     obtain⟨v,rfl⟩: ∃v:Nat,w=(v:Int):=⟨w.toNat,by omega⟩
     have hv':v<E.length:=by omega
     have hdg:=HN.deg v hv';simp only [Cq,CB];rw [GG _ (by omega)]
     by_cases hi:Jz j 0 (((E.getD v be).length:Int)-1)=true
     ·rw [if_pos hi,if_pos hi];have hir:=EA.1 hi;obtain⟨i,rfl⟩: ∃i:Nat,j=(i:Int):=⟨j.toNat,by omega⟩
      have hi':i<(E.getD v be).length:=by omega
      obtain⟨ha,hd,c1,c2⟩:=Vm h;obtain⟨n,rfl⟩: ∃n:Nat,a=(n:Int):=⟨a.toNat,by omega⟩
      obtain⟨D,rfl⟩: ∃D:Nat,d=(D:Int):=⟨d.toNat,by omega⟩
      have C:=AFU h hw hn he;have H:=AMV hw hf;have hnn:=C.hn;have hS:=jE E n;have hM:=Ub hS;have hG:=AFS C.toCtx hM;have hel:(Bj E).length=E.length:=by simp [Bj]
      let G:=Rm E ns es n D (Dn n (Bj E))
      let ok:Bool:=G.all (fun row=> !row.contains (0:Int))
      let p:Nat→Bool:=fun a=>ok&&CQ (PI G v i) a
      have hok:ok=true↔ ∀u,u<E.length→lL E n (IP G) u:=A8X hnn hG
      refine⟨((ao n).filter p).map (fun(a:Nat)=>(a:Int)),true, ?_, ?_, ?_⟩
      ·
       rw [A0C ids ins C.hN,CB];unfold Nk;have key:=Bn (fun z=>Ee (n:Int) (D:Int) ns es E ids ins (v:Int) (i:Int) z.1 z.2.1 z.2.2) (fun k=>(((ao k).filter p).map (fun(a:Nat)=>(a:Int)),(if k=0 then Bj E else OT (Bj E) v i ((k-1:Nat):Int)),(k:Int))) n (((ao n).filter p).map (fun(a:Nat)=>(a:Int))) ?_ ?_
       ·have key2:Dq (fun z=>Ee (n:Int) (D:Int) ns es E ids ins (v:Int) (i:Int) z.1 z.2.1 z.2.2) (([]:AO),Bj E,(0:Int))=_:=key;rw [key2];rfl
       ·intro k hk
        have hpl: ∀L:AX,(L=Bj E∨ ∃b:Nat,b<n∧L=OT (Bj E) v i (b:Int))→L.length=E.length∧(L.getD v be).length=(E.getD v be).length∧L.set v ((L.getD v be).set i (k:Int))=OT (Bj E) v i (k:Int):=by
         rintro L (rfl|⟨b,hb,rfl⟩)
         ·exact⟨hel,hS.row v hv',rfl⟩
         ·have hS':=jK hS hv' hi' hb
          exact⟨hS'.len,hS'.row v hv',A2x (by omega)⟩
        obtain⟨p1,p2,p3⟩:=hpl (if k=0 then Bj E else OT (Bj E) v i ((k-1:Nat):Int)) (by
         by_cases k0:k=0
         ·rw [if_pos k0];exact .inl rfl
         ·rw [if_neg k0];exact .inr ⟨k-1,by omega,rfl⟩)
        have hS':=jK hS hv' hi' hk;have hM':=Ub hS'
        have sh:BQ (OT (Bj E) v i (k:Int)):=by
         have q:=Xq C.hN
         refine⟨by have:=hS'.len;omega,fun x hx=> ?_⟩
         obtain⟨u,hu,rfl⟩:=V4 hx;have q1:=hS'.len;have q2:=hS'.row u (by omega)
         have q3:=C.hN.deg u (by omega)
         rw [Ac _ _ hu]at q2;omega
        have hfl:((ao k).filter p).length≤k:=by
         have:=A1J p (ao k)
         simpa using this
        simp only [Ee,Cq];rw [if_pos (by omega),BC (by omega),BC (by omega),p3,A2i C.toCtx _ hS' sh,CB,A0D C hw hf hM',CB,Gc k (by omega)]
        have hsucc:(if k+1=0 then Bj E else OT (Bj E) v i ((k+1-1:Nat):Int))=OT (Bj E) v i (k:Int):=by rw [if_neg (by omega),Nat.add_sub_cancel]
        have hpi:=A8Z C H hw (by omega) hv' hi' hk
        rw [hsucc];by_cases hp:p k=true
        ·have hp2:ok=true∧CQ (PI G v i) k=true:=by simpa [p] using hp
         have:=hpi.2 ⟨hok.1 hp2.1,hp2.2⟩
         rw [if_pos ((A1H _).2 this),BC (by simp;omega),VT,xY,jS]
         simp [hp]
        ·have: ¬0<Df (Yv (fun r=>NE E ns es n D (Rn (Dn n (OT (Bj E) v i (k:Int)))) (E.length+1) r (-1) 0) (Rt E) E.length):=by
          rw [A1H];intro hc;obtain⟨q1,q2⟩:=hpi.1 hc;exact hp (by show(ok&&CQ (PI G v i) k)=true;rw [hok.2 q1,VV];exact q2)
         rw [if_neg this,VT,xY,jS];simp [hp]
       ·simp only [Ee];rw [if_neg (by omega)]
      ·
       rw [A6S ids ins C.hN,CB,il C.toCtx ids ins _ hS (Xq C.hN),CB];have hGok:(Rm E ns es n D (Dn n (Bj E))).all (fun row=> !row.contains (0:Int))=ok:=rfl;rw [hGok];by_cases hk:ok=true
       ·rw [if_pos hk];simp only [if_true];unfold Nj;have key:=Bn (fun z=>Ec (n:Int) (v:Int) (i:Int) (Rm E ns es n D (Dn n (Bj E)),true) z.1 z.2) (fun k=>(((ao k).filter p).map (fun(a:Nat)=>(a:Int)),(k:Int))) n (((ao n).filter p).map (fun(a:Nat)=>(a:Int))) ?_ ?_
        ·have key2:Dq (fun z=>Ec (n:Int) (v:Int) (i:Int) (Rm E ns es n D (Dn n (Bj E)),true) z.1 z.2) (([]:AO),(0:Int))=_:=key;rw [key2];rfl
        ·intro k hkn;have g1:=hG.len;have g2:=hG.row v hv';have g3:0≤((Rm E ns es n D (Dn n (Bj E))).getD v be).getD i be∧((Rm E ns es n D (Dn n (Bj E))).getD v be).getD i be≤255:=hG.le hnn hv' hi'
         have hfl:((ao k).filter p).length≤k:=by
          have:=A1J p (ao k)
          simpa using this
         simp only [Ec,Cq];rw [if_pos (by omega),BC (by omega),BC (by omega),BC (by omega),sU _ k g3 (by omega),Gc k (by omega),VT,xY,jS]
         have hpk:p k=CQ (PI G v i) k:=by show(ok&&_)=_;rw [hk,VV]
         by_cases hb1:((Rm E ns es n D (Dn n (Bj E))).getD v be).getD i be / 2 ^ k % 2=1
         ·have:CQ (PI G v i) k=true:=decide_eq_true hb1
          rw [if_pos hb1,BC (by simp;omega)]
          simp [hpk,this]
         ·have:CQ (PI G v i) k=false:=decide_eq_false hb1
          rw [if_neg hb1];simp [hpk,this]
        ·simp only [Ec];rw [if_neg (by omega)]
       ·rw [if_neg hk];simp only [Nq,if_false]
        have:(ao n).filter p=[]:=by
         rw [List.filter_eq_nil_iff];intro x _;have:ok=false:=by simpa using hk
         simp [p,this]
        rw [this];rfl
      ·have:=A1J p (ao n)
       simp at this ⊢;omega
     ·rw [if_neg hi,if_neg hi]
      exact⟨_,_,rfl,rfl,by simp⟩
    ·rw [if_neg hv]
     exact⟨_,_,rfl,rfl,by simp⟩
   ·rw [if_neg hf,if_neg hf]
    exact⟨_,_,rfl,rfl,by simp⟩
  ·rw [if_neg hw,if_neg hw]
   exact⟨_,_,rfl,rfl,by simp⟩
 ·rw [if_neg h,if_neg h]
  exact⟨_,_,rfl,rfl,by simp⟩
theorem A6T(a d:Int)(ns es:AX)(E:Ad)(ids ins:AO)(v i:Int)(hn:Vg ns)(he:Vg es)(hE:VM E)(hids:ids.length<9223372036854775808)(hins:ins.length<9223372036854775808):Jt a d ns es E ids ins v i=some true:=by
 unfold Jt;rw [BC hn,BC he,BC (by omega)]
 by_cases q1:szP 1048576 ns es<0
 ·rw [if_pos q1]
 ·obtain⟨f1,sn,se,f2⟩:=A7U (by omega) q1
  rw [if_neg q1,BC hE,BC hids,BC hins,BC (by omega)]
  by_cases q2:szW (szP 1048576 ns es) E ids ins<0
  ·rw [if_pos q2]
  ·obtain⟨g1,sE,g2⟩:=A7n (by omega) q2
   have tE:=Cb (fE E);have t1:=Cb ns;have t2:=Cb es;have h1:ids.length<1099511627776:=by omega
   have h2:ins.length<1099511627776:=by omega
   obtain⟨r,ok,hS,hI,hr⟩:=A2y a d ns es E ids ins v i sn se sE h1 h2;have c0:r.length<1099511627776:=by omega
   have c1:(0:Int)≤1∧1+CL ns+CL es<1099511627776:=by omega
   have c2:0≤1+CL ns+CL es∧1+CL ns+CL es+2*CL (fE E)+ids.length+ins.length<1099511627776:=by omega
   have c3: ¬1+CL ns+CL es+2*CL (fE E)+ids.length+ins.length<0:=by omega
   have c4:(0:Int)≤1∧(1:Int)<1099511627776:=by omega
   have c5:(0:Int)≤1∧(1:Int)+r.length<1099511627776:=by omega
   have c6: ¬(1:Int)+r.length<0:=by omega
   rw [if_neg q2,BC sn,BC se,BC sE,BC h1,BC h2];simp only [hS,hI,CB,BC c0,decide_true,zN,zZ,if_true,BC c1,BC c2,if_neg c3,BC c4,U8,BC c5,A2J,if_neg c6]
   cases ok<;>rfl
theorem A6U(ds:List D)(h:ABs Aj [24,28,3,3] ds):Y.call 5 ds []=some (.bool true,[]):=by
 rcases ds with _|⟨x,_|⟨y,_|⟨z,_|⟨w,_|⟨_,_⟩⟩⟩⟩⟩
 ·cases h
 ·exact h.2.elim
 ·exact h.2.2.elim
 ·exact h.2.2.2.elim
 ·obtain⟨a,d,ns,es,rfl,_,_,hn,he⟩:=yn ADA ty3 AD9 A7Q ty3 h.1;obtain⟨E,ids,ins,rfl,hE,hids,hins⟩:=zI ADC ADB ADE A4S ty3 A7Q h.2.1;obtain⟨v,rfl,_⟩:=A46 ty3 h.2.2.1;obtain⟨i,rfl,_⟩:=A46 ty3 h.2.2.2.1;exact Sz a d ns es E ids ins v i (A6T a d ns es E ids ins v i (A0a hn) (A0a he) (A57 hE) (xZ hids.1 (by decide)) (xZ hins.1 (by decide)))
 ·exact h.2.2.2.2.elim
end Go.Proofs.YtiehjihckndgkaaGreat
end
