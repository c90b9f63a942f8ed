/- The edge step: sets that stand beside each other. Conditions: those in each lemma. -/
import Derived.Test.YtjhjkfoabhplfaaGreatL6
import Derived.Test.YtjhjkfoabhplfaaGreatEstA
import Derived.Test.YtjhjkfoabhplfaaGreatEsb
import Derived.Test.YtjhjkfoabhplfaaGreatEsc
import Derived.Test.YtjhjkfoabhplfaaGreatFst
namespace Go.Proofs.YtjhjkfoabhplfaaGreat
open Go Dv
set_option linter.unusedSimpArgs false
set_option linter.unusedVariables false
set_option maxRecDepth 100000
theorem WO{α:Type}(P:α→Bool): ∀l:List α,(l.find? P).isNone=l.all fun a=> !P a
 | []=>rfl
 | a::l=>by cases h:P a<;>simp [h,WO P l]
theorem vJ(es:List (List Int))(out:List Int)(b:Nat):JO es out b=out.all fun a=>P8 es a (b:Int):=by
 unfold JO Xw;rw [Option.isNone_map];unfold Jd;rw [WO,←VJ (fun a=>P8 es a (b:Int))]
 congr 1
 funext i
 unfold P9 Jd;rw [Option.not_isSome,WO]
 simp
theorem TZ(n:Nat)(D:Int)(ns es:List (List Int))(set:Int)(h:0≤set∧set≤255)(hn:n≤8)(he:Ai es):Nh (n:Int) D ns es set=some (H9 (JO es (AZ set 8)) n):=by
 have hl:=Jz set 8;unfold Nh Mj;have key:=Be (fun v=>H5 (n:Int) D ns es set v.1 v.2) (fun i=>(H9 (JO es (AZ set 8)) i,(i:Int))) n (H9 (JO es (AZ set 8)) n) ?_ ?_
 ·have e0:H9 (JO es (AZ set 8)) 0=0:=rfl;rw [e0,Int.natCast_zero]at key;rw [key];rfl
 ·intro i hi;have hr:=PX (JO es (AZ set 8)) i;have h7:(2:Int) ^ i≤2 ^ 7:=Na (by omega)
  have e7:(2:Int) ^ 7=128:=by decide
  have e8:min i IntKind.i64.bits=i:=by show min i 64=i;omega
  have hp:=Int.pow_nonneg (m:=i) (show(0:Int)≤2 by decide)
  have inner:Kv (n:Int) D ns es set (H9 (JO es (AZ set 8)) i) (i:Int) (AZ set 8) (true,0)=some (JO es (AZ set 8) i):=by
   unfold Kv;have k2:=Be (fun v=>Gz (n:Int) D ns es set (H9 (JO es (AZ set 8)) i) (i:Int) (AZ set 8) v.1 v.2) (fun j=>(((AZ set 8).take j).all fun a=>P8 es a (i:Int),(j:Int))) (AZ set 8).length (JO es (AZ set 8) i) ?_ ?_
   ·rw [List.take_zero,Int.natCast_zero]at k2;exact k2
   ·intro j hj;simp only [Gz,Int.toNat_natCast,Ae _ _ hj];rw [if_pos (CJ hj),Az (by omega),JM j (by omega),List.take_succ_eq_append_getElem hj,List.all_append,List.all_cons,List.all_nil,Bool.and_true]
    cases ((AZ set 8).take j).all fun a=>P8 es a (i:Int)with
    | true=>rw [if_pos rfl,Az he,Bool.true_and]
    | false=>rw [if_neg (by decide),Bool.false_and]
   ·simp only [Gz];rw [if_neg (Ak _),List.take_length,vJ]
  simp only [H5,Int.toNat_natCast];rw [if_pos (CJ hi),Po set h,Option.bind_some,inner,Option.bind_some,JM i (by omega)]
  have em:H9 (JO es (AZ set 8)) (i+1)=H9 (JO es (AZ set 8)) i+if JO es (AZ set 8) i=true then 2 ^ i else 0:=rfl
  rw [em]
  cases hb:JO es (AZ set 8) i with
  | true=>
   rw [if_pos rfl,if_pos rfl,Az (by omega),e8,Int.one_mul,Ie ((2:Int) ^ i) (by omega),Ie _ (by omega)]
  | false=>rw [if_neg (by decide),if_neg (by decide),Int.add_zero]
 ·simp only [H5];rw [if_neg (Ak _)]
def FV(es:List (List Int))(n:Nat)(set:Int):Int:=H9 (JO es (AZ set 8)) n
theorem WP(es:List (List Int))(n:Nat)(hn:n≤8)(set:Int):0≤FV es n set∧FV es n set≤255:=by
 have h:=PX (JO es (AZ set 8)) n;have h2:(2:Int) ^ n≤2 ^ 8:=Na (by omega)
 have e:(2:Int) ^ 8=256:=by decide
 unfold FV;omega
def Kz(es:List (List Int))(n:Nat)(m:Nat):List (List Int):=((List.range m).filter fun(k:Nat)=>decide (1≤k)&&decide (FV es n (k:Int)≠0)&&decide (FV es n (FV es n (k:Int))=(k:Int))).map fun(k:Nat)=>[(k:Int),FV es n (k:Int)]
theorem OD(es:List (List Int))(n k:Nat):Kz es n (k+1)=Kz es n k++if(decide (1≤k)&&decide (FV es n (k:Int)≠0)&&decide (FV es n (FV es n (k:Int))=(k:Int)))=true then [[(k:Int),FV es n (k:Int)]]else []:=by
 unfold Kz;rw [List.range_succ,List.filter_append,List.map_append]
 congr 1
 rw [List.filter_cons,List.filter_nil]
 split<;>rfl
theorem Sy(es:List (List Int))(n m:Nat):(Kz es n m).length≤m:=by
 unfold Kz;rw [List.length_map];have:=List.length_filter_le (fun(k:Nat)=>decide (1≤k)&&decide (FV es n (k:Int)≠0)&&decide (FV es n (FV es n (k:Int))=(k:Int))) (List.range m)
 rwa [List.length_range]at this
theorem vK(es:List (List Int))(n:Nat)(hn:n≤8)(m:Nat)(hm:m≤256):FullOk (Kz es n m) 2 where
 len:=by have:=Sy es n m;omega
 wid:=by omega
 row:=fun x hx=>by
  obtain⟨k,hk,rfl⟩:=List.mem_map.1 hx;obtain⟨h1,h2⟩:=List.mem_filter.1 hk;have:=List.mem_range.1 h1
  have hr:=WP es n hn (k:Int);simp only [Bool.and_eq_true,decide_eq_true_eq]at h2
  refine⟨rfl,fun a ha=> ?_⟩
  simp only [List.mem_cons,List.not_mem_nil,or_false]at ha;rcases ha with rfl | rfl<;>omega
theorem WQ(n:Nat)(hn:n≤8):IntKind.i64.wrap (1*2 ^ (min (n:Int).toNat (IntKind.i64.bits)))=((2 ^ n:Nat):Int)∧2 ^ n≤256:=by
 have e8:min (n:Int).toNat IntKind.i64.bits=n:=by show min (n:Int).toNat 64=n;omega
 have h2:2 ^ n≤2 ^ 8:=Nat.pow_le_pow_right (by omega) hn
 have e:(2:Int) ^ n=((2 ^ n:Nat):Int):=by norm_cast
 have h3:2 ^ n≤256:=by omega
 rw [e8,Int.one_mul,e];generalize 2 ^ n=q at h3 ⊢
 exact⟨Ie _ (by omega),h3⟩
theorem fD(n:Nat):1≤2 ^ n:=Nat.one_le_two_pow
theorem jf(n:Nat)(D:Int)(ns es:List (List Int))(hn:n≤8)(he:Ai es)(hi:QF es=true):J5 (n:Int) D ns es ([],1)=some (Kz es n (2 ^ n)):=by
 obtain⟨hp,hp2⟩:=WQ n hn;have hp1:=fD n;unfold J5;have key:=Be (fun v=>Ez (n:Int) D ns es v.1 v.2) (fun i=>(Kz es n (i+1),((i+1:Nat):Int))) (2 ^ n-1) (Kz es n (2 ^ n)) ?_ ?_
 ·have e0:Kz es n (0+1)=[]:=by rw [OD,if_neg (by simp)];simp [Kz]
  rw [e0]at key;exact key
 ·intro i hi';have hl:=Sy es n (i+1);have hr:=WP es n hn ((i+1:Nat):Int);simp only [Ez];rw [Az (by omega),hp,if_pos (by omega),TV n D ns es _ (by omega) hn he hi,Option.bind_some]
  have e1:H9 (JO es (AZ ((i+1:Nat):Int) 8)) n=FV es n ((i+1:Nat):Int):=rfl;rw [e1,TV n D ns es _ hr hn he hi,Option.bind_some,JM (i+1) (by omega),OD es n (i+1)]
  have e2:H9 (JO es (AZ (FV es n ((i+1:Nat):Int)) 8)) n=FV es n (FV es n ((i+1:Nat):Int)):=rfl;rw [e2,decide_eq_true (by omega:1≤i+1),Bool.true_and]
  by_cases c1:FV es n ((i+1:Nat):Int)=0
  ·rw [if_pos c1,if_neg (by rw [decide_eq_false (fun h=>h c1),Bool.false_and];decide),List.append_nil]
  ·rw [if_neg c1];by_cases c2:FV es n (FV es n ((i+1:Nat):Int))=((i+1:Nat):Int)
   ·rw [if_pos c2,Az (by omega),if_pos (by rw [decide_eq_true c1,decide_eq_true c2];rfl)]
   ·rw [if_neg c2,if_neg (by rw [decide_eq_false c2,Bool.and_false];decide),List.append_nil]
 ·simp only [Ez];rw [Az (by omega),hp,if_neg (by omega),show 2 ^ n-1+1=2 ^ n by omega]
theorem jg(n:Nat)(D:Int)(ns es:List (List Int))(hn:n≤8)(he:Ai es):Kw (n:Int) D ns es ([],1)=some (Kz es n (2 ^ n)):=by
 obtain⟨hp,hp2⟩:=WQ n hn;have hp1:=fD n;unfold Kw;have key:=Be (fun v=>H6 (n:Int) D ns es v.1 v.2) (fun i=>(Kz es n (i+1),((i+1:Nat):Int))) (2 ^ n-1) (Kz es n (2 ^ n)) ?_ ?_
 ·have e0:Kz es n (0+1)=[]:=by rw [OD,if_neg (by simp)];simp [Kz]
  rw [e0]at key;exact key
 ·intro i hi';have hl:=Sy es n (i+1);have hr:=WP es n hn ((i+1:Nat):Int);simp only [H6];rw [Az (by omega),hp,if_pos (by omega),TZ n D ns es _ (by omega) hn he,Option.bind_some]
  have e1:H9 (JO es (AZ ((i+1:Nat):Int) 8)) n=FV es n ((i+1:Nat):Int):=rfl;rw [e1,TZ n D ns es _ hr hn he,Option.bind_some,JM (i+1) (by omega),OD es n (i+1)]
  have e2:H9 (JO es (AZ (FV es n ((i+1:Nat):Int)) 8)) n=FV es n (FV es n ((i+1:Nat):Int)):=rfl;rw [e2,decide_eq_true (by omega:1≤i+1),Bool.true_and]
  by_cases c1:FV es n ((i+1:Nat):Int)=0
  ·rw [if_neg (by omega),if_neg (by rw [decide_eq_false (fun h=>h c1),Bool.false_and];decide),List.append_nil]
  ·rw [if_pos (by omega)]
   by_cases c2:FV es n (FV es n ((i+1:Nat):Int))=((i+1:Nat):Int)
   ·rw [if_pos c2,Az (by omega),if_pos (by rw [decide_eq_true c1,decide_eq_true c2];rfl)]
   ·rw [if_neg c2,if_neg (by rw [decide_eq_false c2,Bool.and_false];decide),List.append_nil]
 ·simp only [H6];rw [Az (by omega),hp,if_neg (by omega),show 2 ^ n-1+1=2 ^ n by omega]
theorem ny(n D:Int)(ns es:List (List Int))(sets x:List Int)(hN:Ai ns)(iN:QF ns=true)(hs: ∀s∈sets,0≤s∧s≤255)(hx:inN x sets.length)(hl:x.length≤4):IZ x n D ns es sets=some (gd ns sets x):=by
 unfold IZ FC;rw [jd sets x hs hx (by omega),Option.bind_some]
 obtain⟨r,hr⟩:=jb ((kY sets x).map fun s=>AZ s 8) (fun a0=>Ci a0 n D ns es) (fun c=>ns.contains (DI c)) (by rw [List.length_map,UH];omega) (fun L hL=>by
  obtain⟨s,_,rfl⟩:=List.mem_map.1 hL
  have:=Jz s 8;omega) fun c hc=>by
   unfold Ci Jm;rw [Az hN,Az (by rw [hc,List.length_map,UH];omega),Az iN];rfl
 rw [hr,Option.bind_some];rfl
theorem jh{n D:Int}{ns es:List (List Int)}(h:JF n D ns es=true):(1≤n∧n≤8)∧(1≤D∧D≤4)∧Ir ns D n=true∧Ir es 2 n=true:=by
 unfold JF at h;simp only [Bool.and_eq_true,MZ]at h
 exact⟨h.1.1.1,h.1.1.2,h.1.2,h.2⟩
theorem fE{full:List (List Int)}{w:Nat}(h:FullOk full w): ∀s∈Ck full,0≤s∧s≤255:=fun s hs=>by
 obtain⟨x,hx,hsx⟩:=(M8 full s).1 hs;have:=(h.row x hx).2 s hsx;omega
def okR(ns es:List (List Int))(r:List Int):Prop:=Ai ns∧Ai es∧ns.length≤1000000∧es.length≤1000000∧Ab ns≤4000000∧Ab es≤4000000∧r.length≤8
theorem ji{full:List (List Int)}{w:Nat}(h:FullOk full w):(PK full).length≤1000000∧ ∀x∈PK full,x.length=w:=by
 have:=h.len
 refine⟨?_,fun x hx=>(WK h x ((fC _ _).1 hx)).1⟩
 unfold PK Dv.dedL;have h1:=Dv.keptL_le (Dv.kpL (Er (Ni full))) (Er (Ni full)).length;rw [LC]at h1;have h2:(Ni full).length=full.length:=by simp [Ni]
 rw [List.length_map,LC];omega
theorem Y2(n D:Int)(ns es:List (List Int))(hN:Ai ns)(hE:Ai es):
  ∃n' D' ns' es' sets ok,(FT n D ns es=some (.inl (n',D',ns',es',sets,ok))∨(FT n D ns es=some (.inr (.inr (n',D',ns',es',sets,ok)))∧(n',D',ns',es',sets,ok)=((0:Int),(0:Int),([]:List (List Int)),([]:List (List Int)),([]:List Int),false)))∧
   En n D ns es=some (n',D',ns',es',sets,ok)∧okR ns' es' sets:=by
 unfold FT En;rw [Az hN,Az hE,Az hN,Az hE];have e0:okR [] [] []:=by unfold okR Ai;simp [Ab]
 by_cases h:JF n D ns es=true
 ·rw [if_pos h,if_pos h];obtain⟨⟨n1,n2⟩,⟨d1,d2⟩,cn,ce⟩:=jh h;have iN:=Xu cn;have iE:=Xu ce;obtain⟨m,rfl⟩: ∃m:Nat,n=(m:Int):=⟨n.toNat,by omega⟩
  obtain⟨_,hp2⟩:=WQ m (by omega)
  have hF:=vK es m (by omega) (2 ^ m) hp2
  generalize hfull:Kz es m (2 ^ m)=full at hF;have hsl:=QK hF;unfold Rk OC;rw [jg m D ns es (by omega) hE,jf m D ns es (by omega) hE iE,Option.bind_some,Option.bind_some,hfull,aD hF,Option.bind_some]
  unfold Ri;rw [ni _ _ _ _ _ hF,Option.bind_some];by_cases c:Ms ((Ck full).length:Int) 1 8=true
  ·have c8:=MZ.1 c;simp only [if_pos c]
   rw [nk _ _ _ _ _ hF,Option.bind_some,nu ns (Ck full) D (fE hF) (by omega) (by omega) (by have:=hN.1;omega),
    je ns (Ck full) D _ (by omega) (by omega) fun x hx hin=>ny _ D ns es (Ck full) x hN iN (fE hF) hin (by omega)]
   obtain⟨f1,f2⟩:=ja ((Ck full).length:Int) (by omega) D.toNat (by omega) (gd ns (Ck full))
   obtain⟨r1,r2⟩:=ji hF;have hck:=I4 ((Ck full).length:Int) 8 (by omega) D.toNat
   refine⟨((Ck full).length:Int),D,(BF ((Ck full).length:Int) D.toNat).filter (gd ns (Ck full)),PK full,Ck full,true,.inl rfl,rfl,⟨by omega,fun x hx=> ?_⟩,⟨by omega,fun x hx=> ?_⟩,by omega,by omega,by omega, ?_,by omega⟩
   ·have:=(hck.1 x (List.mem_filter.1 hx).1).1;omega
   ·have:=r2 x hx;omega
   ·have:=jZ 2 (PK full) fun x hx=>by have:=r2 x hx;omega
    omega
  ·simp only [if_neg c]
   exact⟨_,_,_,_,_,_,.inr ⟨rfl,rfl⟩,rfl,e0⟩
 ·rw [if_neg h,if_neg h]
  exact⟨_,_,_,_,_,_,.inr ⟨rfl,rfl⟩,rfl,e0⟩
theorem vL(n D:Int)(ns es:List (List Int))(hN:Ai ns)(hE:Ai es):
  (FT n D ns es=some (.inl ((En n D ns es).getD (0,0,[],[],[],false)))∨(FT n D ns es=some (.inr (.inr ((En n D ns es).getD (0,0,[],[],[],false))))∧(En n D ns es).getD (0,0,[],[],[],false)=(0,0,[],[],[],false)))∧
   En n D ns es=some ((En n D ns es).getD (0,0,[],[],[],false))∧True:=by
 obtain⟨n',D',ns',es',sets,ok,hS,hI,_⟩:=Y2 n D ns es hN hE;rw [hI]
 exact⟨hS,rfl,trivial⟩
end Go.Proofs.YtjhjkfoabhplfaaGreat
