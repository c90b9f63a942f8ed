/- Labelings counted: the reference's sums. Conditions: those in each lemma. -/
import Derived.Test.YtiehjihckndgkaaGreatL6
import Derived.Test.YtiehjihckndgkaaGreatCfA
import Derived.Test.YtiehjihckndgkaaGreatCnp
namespace Go.Proofs.YtiehjihckndgkaaGreat
open Go Dv
set_option linter.unusedSimpArgs false
set_option linter.unusedVariables false
set_option maxRecDepth 100000
theorem df(a b:Int):L8 a b=some (KO a b):=by
 unfold L8 KO
 split<;>split<;>first|rfl|(congr 1;omega)
theorem UE(a b:Nat):JN (D7 a) (D7 b)=some (D7 (a+b)):=by
 have h1:=HY a;have h2:=HY b;unfold JN;rw [I7 _ (by omega),df,yC];rfl
theorem Y2(a b:Nat)(h0:a≠0):((1000000000001:Int).tdiv (D7 a)<D7 b→D7 (a*b)=1000000000001)∧(¬(1000000000001:Int).tdiv (D7 a)<D7 b→D7 a*D7 b≤1000000000001∧D7 (a*b)=D7 a*D7 b):=by
 have h1:=HY a;have h2:=HY b;have hp:0<D7 a:=by have:=FE a;omega
 rw [Int.tdiv_eq_ediv_of_nonneg (by decide)]
 constructor
 ·intro h;have:=(Int.ediv_lt_iff_lt_mul hp).1 h
  rw [Int.mul_comm]at this;exact Y1 a b (by omega)
 ·intro h;have:=(Int.le_ediv_iff_mul_le hp).1 (Int.not_lt.1 h)
  rw [Int.mul_comm]at this
  refine⟨this, ?_⟩
  by_cases c:D7 a*D7 b<1000000000001
  ·exact(A4u a b c).symm
  ·rw [Y1 a b (by omega)];omega
theorem ru(a:Nat)(h0:a≠0):0≤(1000000000001:Int).tdiv (D7 a)∧(1000000000001:Int).tdiv (D7 a)≤1000000000001:=by
 have h1:=HY a;rw [Int.tdiv_eq_ediv_of_nonneg (by decide)]
 exact⟨Int.ediv_nonneg (by decide) h1.1,Int.ediv_le_self _ (by decide)⟩
theorem V3(a b:Nat):QW (D7 a) (D7 b)=some (D7 (a*b)):=by
 have h1:=HY a;have h2:=HY b;unfold QW;by_cases h0:a=0
 ·subst h0;rw [if_pos ((FE 0).2 rfl),(FE 0).2 rfl,Int.zero_mul,Nat.zero_mul,(FE 0).2 rfl];rfl
 ·obtain⟨c1,c2⟩:=Y2 a b h0;have hd:=ru a h0;rw [if_neg (fun e=>h0 ((FE a).1 e)),I7 _ (by omega)]
  by_cases c:(1000000000001:Int).tdiv (D7 a)<D7 b
  ·rw [if_pos c,c1 c]
  ·obtain⟨c3,c4⟩:=c2 c;have hn:0≤D7 a*D7 b:=Int.mul_nonneg h1.1 h2.1;rw [if_neg c,I7 _ (by omega),c4]
theorem V4(a b:Nat):Ig (D7 a) (D7 b)=some (D7 (a*b)):=by
 have h1:=HY a;have h2:=HY b;unfold Ig;by_cases h0:a=0
 ·subst h0;have hz:D7 0=0:=(FE 0).2 rfl;rw [hz,if_neg (by decide),Int.zero_mul,df,Nat.zero_mul,hz];rfl
 ·obtain⟨c1,c2⟩:=Y2 a b h0;have hd:=ru a h0;have hz:D7 a≠0:=fun e=>h0 ((FE a).1 e);rw [if_pos (by omega),BL hz,I7 _ (by omega)]
  by_cases c:(1000000000001:Int).tdiv (D7 a)<D7 b
  ·rw [if_pos c,c1 c]
  ·obtain⟨c3,c4⟩:=c2 c;have hn:0≤D7 a*D7 b:=Int.mul_nonneg h1.1 h2.1;rw [if_neg c,I7 _ (by omega),df,Cz,c4]
   unfold KO;rw [if_neg (by omega)]
theorem zx{α:Type}(l:List α)(a:α)(f:α→Nat):Qe (l++[a]) f=Qe l f+f a:=by simp [Qe]
structure RelW(n:Nat)(i a:Int)(Ws:List (Int→Nat))(ways:AY):Prop where
 len:ways.length=Ws.length
 at_: ∀k,(hk:k<Ws.length)→(k:Int)≠i→(ways.getD k default).length=n∧ ∀b:Nat,b<n→(ways.getD k default).getD b default=D7 (Ws[k] (b:Int))
 one: ∀k,(hk:k<Ws.length)→(k:Int)=i→ ∀b:Int,Ws[k] b=if b=a then 1 else 0
theorem jX{n:Nat}{i a:Int}{Ws:List (Int→Nat)}{ways:AY}(h:RelW n i a Ws ways)(hl:Ws.length≤6): ∀(m k fuel:Nat) (x:AB),m+k=Ws.length→x.length=m→m<fuel→(∀y∈x,0≤y∧y<n)→GQ fuel x ways (k:Int) i a=some (D7 (Rx (Ws.drop k) x))
 |0,k,0,x,_,_,hf,_=>by omega
 |0,k,fuel+1,x,hk,hx,_,_=>by
  have hwl:=h.len;show ME (GQ fuel) x ways (k:Int) i a=_
  unfold ME;rw [if_pos (by omega),List.drop_of_length_le (by omega)];rfl
 |m+1,k,0,x,_,_,hf,_=>by omega
 |m+1,k,fuel+1,x,hk,hx,hf,hr=>by
  have hwl:=h.len;have hkl:k<Ws.length:=by omega
  have hd:Ws.drop k=Ws[k]::Ws.drop (k+1):=ed hkl;show ME (GQ fuel) x ways (k:Int) i a=_
  unfold ME QX;rw [if_neg (by omega),hd]
  have key:=Cf (fun v=>Jv (GQ fuel) x ways (k:Int) i a v.1 v.2) (fun j=>(D7 (Dm j fun j=>if 0<j∧x.getD (j-1) default=x.getD j default then 0 else Ws[k] (x.getD j default)*Rx (Ws.drop (k+1)) (x.eraseIdx j)),(j:Int))) x.length (D7 (Rx (Ws[k]::Ws.drop (k+1)) x)) ?_ ?_
  ·have e0:D7 (Dm 0 fun j=>if 0<j∧x.getD (j-1) default=x.getD j default then 0 else Ws[k] (x.getD j default)*Rx (Ws.drop (k+1)) (x.eraseIdx j))=0:=(FE _).2 rfl
   rw [e0,Gn]at key;rw [key];rfl
  ·intro j hj;have hrj:=hr _ (Nh hj);have hgj:x.getD j default=x[j]:=Ao _ _ hj;have e1:IntKind.i64.wrap ((j:Int)+1)=((j+1:Nat):Int):=K4 j (by omega)
   have e2:IntKind.i64.wrap ((k:Int)+1)=((k+1:Nat):Int):=K4 k (by omega)
   have er:(x.take j).drop 0++(x.take x.length).drop (j+1)=x.eraseIdx j:=by
    rw [YC,oQ,List.eraseIdx_eq_take_drop_succ]
   have lt1:(x.take j).length≤x.length:=by rw [Ud];omega
   have lt2:(x.drop (j+1)).length≤x.length:=by rw [List.length_drop];omega
   have hrec:=jX h hl m (k+1) fuel (x.eraseIdx j) (by omega) (by rw [List.length_eraseIdx_of_lt hj];omega) (by omega) (fun y hm=>hr y (List.mem_of_mem_eraseIdx hm))
   have go: ∀(M:Int),M=D7 (Ws[k] (x.getD j default))→ ¬(0<j∧x.getD (j-1) default=x.getD j default)→(ck (0≤(j:Int))<|ck (j≤x.length)<|(Ku ((x.take j).drop 0)).bind fun FD=>ck (0≤((j+1:Nat):Int))<|ck (j+1≤x.length)<|ck (FD.length+((x.take x.length).drop (j+1)).length<1099511627776)<|(GQ fuel (FD++((x.take x.length).drop (j+1))) ways ((k+1:Nat):Int) i a).bind fun Tg=>(Ig M Tg).bind fun Ti=>(JN (D7 (Dm j fun j=>if 0<j∧x.getD (j-1) default=x.getD j default then 0 else Ws[k] (x.getD j default)*Rx (Ws.drop (k+1)) (x.eraseIdx j))) Ti).bind fun XN=>(some (Sum.inl (XN,((j+1:Nat):Int))):Option ((Int×Int)⊕Int)))=
     some (Sum.inl (D7 (Dm (j+1) fun j=>if 0<j∧x.getD (j-1) default=x.getD j default then 0 else Ws[k] (x.getD j default)*Rx (Ws.drop (k+1)) (x.eraseIdx j)),((j+1:Nat):Int))):=by
    intro M hM hnd;unfold Ku;rw [BL (by omega),BL (by omega),BL (by rw [YC];omega),Cz,BL (by omega),BL (by omega),BL (by rw [YC,oQ];omega),er,hrec,Cz,hM,V4,Cz,UE,Cz,Ef,if_neg hnd]
   have skip:(if 0<j∧x.getD (j-1) default=x.getD j default then 0 else Ws[k] (x.getD j default)*Rx (Ws.drop (k+1)) (x.eraseIdx j))=0→D7 (Dm (j+1) fun j=>if 0<j∧x.getD (j-1) default=x.getD j default then 0 else Ws[k] (x.getD j default)*Rx (Ws.drop (k+1)) (x.eraseIdx j))=D7 (Dm j fun j=>if 0<j∧x.getD (j-1) default=x.getD j default then 0 else Ws[k] (x.getD j default)*Rx (Ws.drop (k+1)) (x.eraseIdx j)):=by
    intro h0;rw [Ef,h0,YE]
   simp only [Jv,EC,e1,e2];rw [if_pos (CL hj),BL (by omega)]
   by_cases ci:(k:Int)=i
   ·have hone:=h.one k hkl ci (x.getD j default);rw [if_pos ci];by_cases ca:a=x.getD j default
    ·rw [if_pos ca];have hM:(1:Int)=D7 (Ws[k] (x.getD j default)):=by rw [hone,if_pos ca.symm];rfl
     by_cases c0:0<j
     ·have e3:IntKind.i64.wrap ((j:Int)-1)=((j-1:Nat):Int):=by rw [I7 _ (by omega)];omega
      rw [if_pos (by omega),e3,EC,BL (by omega)]
      by_cases cd:x.getD (j-1) default=x.getD j default
      ·rw [if_pos cd,skip (if_pos ⟨c0,cd⟩)]
      ·rw [if_neg cd,go 1 hM (fun q=>cd q.2)]
     ·rw [if_neg (by omega),go 1 hM (fun q=>c0 q.1)]
    ·rw [if_neg ca,skip ?_];have hz:Ws[k] (x.getD j default)=0:=by rw [hone,if_neg (fun e=>ca e.symm)]
     rw [hz,Nat.zero_mul,ite_self]
   ·obtain⟨hwn,hwat⟩:=h.at_ k hkl ci
    have hM:(ways.getD k default).getD (x.getD j default).toNat default=D7 (Ws[k] (x.getD j default)):=by
     have:=hwat (x.getD j default).toNat (by omega)
     rwa [show(((x.getD j default).toNat:Nat):Int)=x.getD j default by omega]at this
    rw [if_neg ci,BL (by omega),BL (by omega)]
    by_cases cz:(ways.getD k default).getD (x.getD j default).toNat default=0
    ·rw [if_pos cz,skip ?_];rw [hM]at cz;rw [(FE _).1 cz,Nat.zero_mul]
     split<;>rfl
    ·rw [if_neg cz];by_cases c0:0<j
     ·have e3:IntKind.i64.wrap ((j:Int)-1)=((j-1:Nat):Int):=by rw [I7 _ (by omega)];omega
      rw [if_pos (by omega),e3,EC,BL (by omega)]
      by_cases cd:x.getD (j-1) default=x.getD j default
      ·rw [if_pos cd,skip (if_pos ⟨c0,cd⟩)]
      ·rw [if_neg cd,go _ hM (fun q=>cd q.2)]
     ·rw [if_neg (by omega),go _ hM (fun q=>c0 q.1)]
  ·simp only [Jv];rw [if_neg (Az _)];rfl
def sO(ns:AY)(c:AB):Nat:=if ns.contains (Me c)=true then 1 else 0
theorem A4v{ns:AY}(hn:ns.Nodup)(hs: ∀x∈ns,x.Pairwise fun a b=>a≤b)(c:AB):sO ns c=Qe ns fun x=>Tm x c:=by
 have huniq: ∀x∈ns,(c.Perm x↔x=Me c):=fun x hx=>⟨fun hp=>List.Perm.eq_of_pairwise (le:=fun a b:Int=>a≤b) (fun a b _ _ h1 h2=>Int.le_antisymm h1 h2) (hs x hx) (Uq c) (hp.symm.trans (Pd c).symm),fun e=>by rw [e];exact(Pd c).symm⟩
 unfold sO;by_cases hc:ns.contains (Me c)=true
 ·have hm:=jl.1 hc;rw [if_pos hc,A2m hn hm fun x hx hne=> ?_]
  ·unfold Tm;rw [if_pos ((huniq _ hm).2 rfl)]
  ·unfold Tm;rw [if_neg fun hp=>hne ((huniq x hx).1 hp)]
 ·rw [if_neg hc,jV fun x hx=> ?_];unfold Tm;rw [if_neg fun hp=>hc (jl.2 (((huniq x hx).1 hp)▸hx))]
theorem zy{n:Nat}{i a:Int}{Ws:List (Int→Nat)}{ways ns:AY}(es:AY)(L:Int)(h:RelW n i a Ws ways)(hl:Ws.length≤6)(hn:ns.Nodup)(hnl:ns.length<1099511627776)(hs: ∀x∈ns,x.Pairwise fun a b=>a≤b)(hc: ∀x∈ns,x.length=Ws.length∧ ∀y∈x,0≤y∧y<n):
  Oy L (Ws.length:Int) ns es ways i a=some (D7 (Hw n (sO ns) Ws [])):=by
 have hwl:=h.len
 have htot:Hw n (sO ns) Ws []=Qe ns fun x=>Rx Ws x:=by
  have e1:Hw n (sO ns) Ws []=Hw n (fun c=>Qe ns fun x=>Tm x c) Ws []:=Uz Ws [] fun d _=>A4v hn hs _;rw [e1,rq]
  have: ∀l:AY,(∀x∈l,x∈ns)→(Qe l fun x=>Hw n (Tm x) Ws [])=Qe l fun x=>Rx Ws x:=by
   intro l
   induction l with
   |nil=>intro _;rfl
   |cons x l ih=>
    intro hm;have hx:=hm x KM;have:=A2o Ws x [] (hc x hx).1 (hs x hx) (hc x hx).2
    rw [Ue]at this;rw [NL,NL,this,ih fun y hy=>hm y (RL _ hy)]
  exact this ns fun _ h=>h
 unfold Oy Rv;rw [if_pos (by omega),htot]
 have key:=Cf (fun v=>LU ns ways i a v.1 v.2) (fun k=>(D7 (Qe (ns.take k) fun x=>Rx Ws x),(k:Int))) ns.length (D7 (Qe ns fun x=>Rx Ws x)) ?_ ?_
 ·have e0:D7 (Qe (ns.take 0) fun x=>Rx Ws x)=0:=(FE _).2 rfl;rw [e0,Gn]at key;rw [key];rfl
 ·intro k hk;have hx:=hc _ (Nh hk);have hw:=jX h hl Ws.length 0 1000000 ns[k] (by omega) hx.1 (by omega) hx.2
  rw [Gn,YC]at hw;simp only [LU,EC,Ao _ _ hk];unfold dS;rw [if_pos (CL hk),BL (by omega),hw,Cz,UE,Cz,K4 k (by omega)]
  rw [jh hk,zx]
 ·simp only [LU];rw [if_neg (Az _),oQ]
end Go.Proofs.YtiehjihckndgkaaGreat
