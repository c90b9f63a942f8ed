/- The edge step: sets that stand beside each other. Conditions: those in each lemma. -/
import Derived.Test.YtjhjkfoabhplfaaGreatL6
import Derived.Test.YtjhjkfoabhplfaaGreatEstA
import Derived.Test.YtjhjkfoabhplfaaGreatEsd
import Derived.Test.YtjhjkfoabhplfaaGreatFst
namespace Go.Proofs.YtjhjkfoabhplfaaGreat
open Go Dv
set_option linter.unusedSimpArgs false
set_option linter.unusedVariables false
set_option maxRecDepth 100000
theorem ai{α:Type}(P:α→Bool): ∀l:List α,(l.find? P).isNone=l.all fun a=> !P a
 | []=>rfl
 |a::l=>by cases h:P a<;>simp [h,ai P l]
theorem A1m(es:AL)(out:AA)(b:Nat):Lm es out b=out.all fun a=>RQ es a (b:Int):=by
 unfold Lm fF;rw [Option.isNone_map];unfold ML;rw [ai,←ZT (fun a=>RQ es a (b:Int))]
 congr 1
 funext i
 unfold TA ML;rw [Option.not_isSome,ai]
 simp
theorem Xl(n:Nat)(D:Int)(ns es:AL)(set:Int)(h:0≤set∧set≤255)(hn:n≤8)(he:Ah es):Qv (n:Int) D ns es set=some (Az (Lm es (AR set 8)) n):=by
 have hl:=Jk set 8;unfold Qv Q7;have key:=BD (fun v=>JM (n:Int) D ns es set v.1 v.2) (fun i=>(Az (Lm es (AR set 8)) i,(i:Int))) n (Az (Lm es (AR set 8)) n) ?_ ?_
 ·have e0:Az (Lm es (AR set 8)) 0=0:=rfl;rw [e0,Jb]at key;rw [key];rfl
 ·intro i hi;have hr:=Eh (Lm es (AR set 8)) i;have h7:(2:Int) ^ i≤2 ^ 7:=I1 (by omega)
  have e7:(2:Int) ^ 7=128:=by decide
  have e8:min i IntKind.i64.bits=i:=by show min i 64=i;omega
  have hp:=gH (m:=i) (show(0:Int)≤2 by decide)
  have inner:Ny (n:Int) D ns es set (Az (Lm es (AR set 8)) i) (i:Int) (AR set 8) (true,0)=some (Lm es (AR set 8) i):=by
   unfold Ny;have k2:=BD (fun v=>JL (n:Int) D ns es set (Az (Lm es (AR set 8)) i) (i:Int) (AR set 8) v.1 v.2) (fun j=>(((AR set 8).take j).all fun a=>RQ es a (i:Int),(j:Int))) (AR set 8).length (Lm es (AR set 8) i) ?_ ?_
   ·rw [List.take_zero,Jb]at k2;exact k2
   ·intro j hj;simp only [JL,H5,AX _ _ hj];rw [if_pos (BZ hj),Ao (by omega),H9 j (by omega),S9 hj,List.all_append,Xo,List.all_nil,gI]
    cases ((AR set 8).take j).all fun a=>RQ es a (i:Int)with
    |true=>rw [if_pos rfl,Ao he,Bool.true_and]
    |false=>rw [if_neg (by decide),Bool.false_and]
   ·simp only [JL];rw [if_neg (Ae _),Lr,A1m]
  simp only [JM,H5];rw [if_pos (BZ hi),QI set h,Bl,inner,Bl,H9 i (by omega)]
  have em:Az (Lm es (AR set 8)) (i+1)=Az (Lm es (AR set 8)) i+if Lm es (AR set 8) i=true then 2 ^ i else 0:=rfl
  rw [em]
  cases hb:Lm es (AR set 8) i with
  |true=>
   rw [if_pos rfl,if_pos rfl,Ao (by omega),e8,Int.one_mul,Db ((2:Int) ^ i) (by omega),Db _ (by omega)]
  |false=>rw [if_neg (by decide),if_neg (by decide),Int.add_zero]
 ·simp only [JM];rw [if_neg (Ae _)]
def Gw(es:AL)(n:Nat)(set:Int):Int:=Az (Lm es (AR set 8)) n
theorem aj(es:AL)(n:Nat)(hn:n≤8)(set:Int):0≤Gw es n set∧Gw es n set≤255:=by
 have h:=Eh (Lm es (AR set 8)) n;have h2:(2:Int) ^ n≤2 ^ 8:=I1 (by omega)
 have e:(2:Int) ^ 8=256:=by decide
 unfold Gw;omega
def O4(es:AL)(n:Nat)(m:Nat):AL:=((List.range m).filter fun(k:Nat)=>decide (1≤k)&&decide (Gw es n (k:Int)≠0)&&decide (Gw es n (Gw es n (k:Int))=(k:Int))).map fun(k:Nat)=>[(k:Int),Gw es n (k:Int)]
theorem Ra(es:AL)(n k:Nat):O4 es n (k+1)=O4 es n k++if(decide (1≤k)&&decide (Gw es n (k:Int)≠0)&&decide (Gw es n (Gw es n (k:Int))=(k:Int)))=true then [[(k:Int),Gw es n (k:Int)]]else []:=by
 unfold O4;rw [YU,lM,UR]
 congr 1
 rw [List.filter_cons,List.filter_nil]
 split<;>rfl
theorem XI(es:AL)(n m:Nat):(O4 es n m).length≤m:=by
 unfold O4;rw [R4];have:=qF (fun(k:Nat)=>decide (1≤k)&&decide (Gw es n (k:Int)≠0)&&decide (Gw es n (Gw es n (k:Int))=(k:Int))) (List.range m)
 rwa [List.length_range]at this
theorem A1n(es:AL)(n:Nat)(hn:n≤8)(m:Nat)(hm:m≤256):FullOk (O4 es n m) 2 where
 len:=by have:=XI es n m;omega
 wid:=by omega
 row:=fun x hx=>by
  obtain⟨k,hk,rfl⟩:=Fq.1 hx;obtain⟨h1,h2⟩:=QD.1 hk;have:=Lt.1 h1
  have hr:=aj es n hn (k:Int);simp only [Ju,decide_eq_true_eq]at h2
  refine⟨rfl,fun a ha=> ?_⟩
  simp only [MW,List.not_mem_nil,or_false]at ha;rcases ha with rfl|rfl<;>omega
theorem ak(n:Nat)(hn:n≤8):IntKind.i64.wrap (1*2 ^ (min (n:Int).toNat (IntKind.i64.bits)))=((2 ^ n:Nat):Int)∧2 ^ n≤256:=by
 have e8:min (n:Int).toNat IntKind.i64.bits=n:=by show min (n:Int).toNat 64=n;omega
 have h2:2 ^ n≤2 ^ 8:=qJ (by omega) hn
 have e:(2:Int) ^ n=((2 ^ n:Nat):Int):=by norm_cast
 have h3:2 ^ n≤256:=by omega
 rw [e8,Int.one_mul,e];generalize 2 ^ n=q at h3 ⊢
 exact⟨Db _ (by omega),h3⟩
theorem pQ(n:Nat):1≤2 ^ n:=Nat.one_le_two_pow
theorem uF(n:Nat)(D:Int)(ns es:AL)(hn:n≤8)(he:Ah es)(hi:LP es=true):Ku (n:Int) D ns es ([],1)=some (O4 es n (2 ^ n)):=by
 obtain⟨hp,hp2⟩:=ak n hn;have hp1:=pQ n;unfold Ku;have key:=BD (fun v=>GD (n:Int) D ns es v.1 v.2) (fun i=>(O4 es n (i+1),((i+1:Nat):Int))) (2 ^ n-1) (O4 es n (2 ^ n)) ?_ ?_
 ·have e0:O4 es n (0+1)=[]:=by rw [Ra,if_neg (by simp)];simp [O4]
  rw [e0]at key;exact key
 ·intro i hi';have hl:=XI es n (i+1);have hr:=aj es n hn ((i+1:Nat):Int);simp only [GD];rw [Ao (by omega),hp,if_pos (by omega),Xi n D ns es _ (by omega) hn he hi,Bl]
  have e1:Az (Lm es (AR ((i+1:Nat):Int) 8)) n=Gw es n ((i+1:Nat):Int):=rfl;rw [e1,Xi n D ns es _ hr hn he hi,Bl,H9 (i+1) (by omega),Ra es n (i+1)]
  have e2:Az (Lm es (AR (Gw es n ((i+1:Nat):Int)) 8)) n=Gw es n (Gw es n ((i+1:Nat):Int)):=rfl;rw [e2,decide_eq_true (by omega:1≤i+1),Bool.true_and]
  by_cases c1:Gw es n ((i+1:Nat):Int)=0
  ·rw [if_pos c1,if_neg (by rw [decide_eq_false (fun h=>h c1),Bool.false_and];decide),O6]
  ·rw [if_neg c1];by_cases c2:Gw es n (Gw es n ((i+1:Nat):Int))=((i+1:Nat):Int)
   ·rw [if_pos c2,Ao (by omega),if_pos (by rw [decide_eq_true c1,decide_eq_true c2];rfl)]
   ·rw [if_neg c2,if_neg (by rw [decide_eq_false c2,Bool.and_false];decide),O6]
 ·simp only [GD];rw [Ao (by omega),hp,if_neg (by omega),show 2 ^ n-1+1=2 ^ n by omega]
theorem uG(n:Nat)(D:Int)(ns es:AL)(hn:n≤8)(he:Ah es):Nz (n:Int) D ns es ([],1)=some (O4 es n (2 ^ n)):=by
 obtain⟨hp,hp2⟩:=ak n hn;have hp1:=pQ n;unfold Nz;have key:=BD (fun v=>JN (n:Int) D ns es v.1 v.2) (fun i=>(O4 es n (i+1),((i+1:Nat):Int))) (2 ^ n-1) (O4 es n (2 ^ n)) ?_ ?_
 ·have e0:O4 es n (0+1)=[]:=by rw [Ra,if_neg (by simp)];simp [O4]
  rw [e0]at key;exact key
 ·intro i hi';have hl:=XI es n (i+1);have hr:=aj es n hn ((i+1:Nat):Int);simp only [JN];rw [Ao (by omega),hp,if_pos (by omega),Xl n D ns es _ (by omega) hn he,Bl]
  have e1:Az (Lm es (AR ((i+1:Nat):Int) 8)) n=Gw es n ((i+1:Nat):Int):=rfl;rw [e1,Xl n D ns es _ hr hn he,Bl,H9 (i+1) (by omega),Ra es n (i+1)]
  have e2:Az (Lm es (AR (Gw es n ((i+1:Nat):Int)) 8)) n=Gw es n (Gw es n ((i+1:Nat):Int)):=rfl;rw [e2,decide_eq_true (by omega:1≤i+1),Bool.true_and]
  by_cases c1:Gw es n ((i+1:Nat):Int)=0
  ·rw [if_neg (by omega),if_neg (by rw [decide_eq_false (fun h=>h c1),Bool.false_and];decide),O6]
  ·rw [if_pos (by omega)]
   by_cases c2:Gw es n (Gw es n ((i+1:Nat):Int))=((i+1:Nat):Int)
   ·rw [if_pos c2,Ao (by omega),if_pos (by rw [decide_eq_true c1,decide_eq_true c2];rfl)]
   ·rw [if_neg c2,if_neg (by rw [decide_eq_false c2,Bool.and_false];decide),O6]
 ·simp only [JN];rw [Ao (by omega),hp,if_neg (by omega),show 2 ^ n-1+1=2 ^ n by omega]
theorem y8(n D:Int)(ns es:AL)(sets x:AA)(hN:Ah ns)(iN:LP ns=true)(hs: ∀s∈sets,0≤s∧s≤255)(hx:inN x sets.length)(hl:x.length≤4):KP x n D ns es sets=some (gd ns sets x):=by
 unfold KP Ga;rw [aZ sets x hs hx (by omega),Bl]
 obtain⟨r,hr⟩:=aY ((uD sets x).map fun s=>AR s 8) (fun a0=>Cs a0 n D ns es) (fun c=>ns.contains (Bt c)) (by rw [R4,Tp];omega) (fun L hL=>by
  obtain⟨s,_,rfl⟩:=Fq.1 hL
  have:=Jk s 8;omega) fun c hc=>by
   unfold Cs IA;rw [Ao hN,Ao (by rw [hc,R4,Tp];omega),Ao iN];rfl
 rw [hr,Bl];rfl
theorem pR{l:AL}(h:yN l):LP l=true:=by
 unfold LP;rw [JR];intro i hi;have hi':=Lt.1 hi;by_cases c:i=0
 ·rw [decide_eq_true c];rfl
 ·rw [decide_eq_false c,Bool.false_or,decide_eq_true_eq,AX _ _ (by omega:i-1<l.length),AX _ _ hi',←A3I]
  exact(WK.1 h) (i-1) i (by omega) hi' (by omega)
theorem vJ: ∀(a b u v:AA),a.length=b.length→Dv.cmpL a b<0→Dv.cmpL (a++u) (b++v)<0
 | [],[],_,_,_,h=>by simp [Dv.cmpL]at h
 | [],_::_,_,_,h,_=>by simp at h
 |_::_,[],_,_,h,_=>by simp at h
 |x::a,y::b,u,v,hl,h=>by
  simp only [WN,Dv.cmpL]at h ⊢;by_cases c:Dv.cmpI x y=0
  ·rw [if_pos c]at h ⊢;exact vJ a b u v (by simpa using hl) h
  ·rw [if_neg c]at h ⊢;exact h
theorem pU: ∀(a:AA) (x y:Int),x<y→Dv.cmpL (a++[x]) (a++[y])<0
 | [],x,y,h=>by
  have h1:=(Dv.cmpI_neg x y).2 h;simp only [R5,Dv.cmpL];rw [if_neg (by omega)];exact h1
 |z::a,x,y,h=>by
  simp only [WN,Dv.cmpL];rw [if_pos ((Dv.cmpI_eq z z).2 rfl)];exact pU a x y h
theorem Xm(n:Int): ∀k,yN (AY n k)
 |0=>List.pairwise_singleton _ _
 |k+1=>by
  have hl: ∀x∈AY n k,x.length=k:=by
   have key: ∀k,∀x∈AY n k,x.length=k:=by
    intro k
    induction k with
    |zero=>intro x hx;simp only [AY,UQ]at hx;rw [hx];rfl
    |succ k ih=>
     intro x hx;simp only [AY,List.mem_flatMap,ext,Fq]at hx;obtain⟨y,hy,j,_,rfl⟩:=hx;simp [ih y hy]
   exact key k
  unfold yN AY;rw [List.pairwise_flatMap]
  refine⟨fun x _=> ?_, ?_⟩
  ·unfold ext;rw [List.pairwise_map];exact List.pairwise_lt_range.imp fun hij=>pU _ _ _ (by omega)
  ·refine(Xm n k).imp_of_mem fun {a b} ha hb hab x hx y hy=> ?_
   unfold ext at hx hy;obtain⟨i,_,rfl⟩:=Fq.1 hx;obtain⟨j,_,rfl⟩:=Fq.1 hy;exact vJ a b _ _ (by rw [hl a ha,hl b hb]) hab
theorem A1o(n:Int)(k:Nat)(g:AA→Bool):LP ((AY n k).filter g)=true:=pR ((Xm n k).filter _)
theorem A1p(full:AL):LP (Fg full)=true:=pR (WG _)
def AFN(D n' D':Int)(ns' es':AL):Prop:=(1≤n'∧n'≤8)∧D'=D∧LP ns'=true∧LP es'=true
theorem au(m:Nat)(D:Int)(ns es:AL)(hm:1≤m∧m≤8)(hD:1≤D∧D≤4)(hN:Ah ns)(iN:LP ns=true)(hE:Ah es)(iE:LP es=true):
  ∃n' D' ns' es' sets ok,(Qw (m:Int) D ns es=some (.inl (n',D',ns',es',sets,ok))∨Qw (m:Int) D ns es=some (.inr (.inr (n',D',ns',es',sets,ok))))∧
   NA (m:Int) D ns es=some (n',D',ns',es',sets,ok)∧y7 ns' es' sets∧(ok=true→AFN D n' D' ns' es'):=by
 have e0:y7 [] [] []:=by unfold y7 Ah;simp [Bi]
 obtain⟨_,hp2⟩:=ak m (by omega)
 have hF:=A1n es m (by omega) (2 ^ m) hp2
 generalize hfull:O4 es m (2 ^ m)=full at hF;have hsl:=RZ hF;unfold Qw NA;rw [uG m D ns es (by omega) hE,uF m D ns es (by omega) hE iE,Bl,Bl,hfull,WH hF,Bl]
 unfold Nw;rw [fK _ _ _ _ _ hF,Bl];by_cases c:OQ ((Al full).length:Int) 1 8=true
 ·have c8:=MG.1 c;simp only [if_pos c]
  rw [fM _ _ _ _ _ hF,Bl,fP ns (Al full) D (af hF) (by omega) (by omega) (by have:=hN.1;omega),
   aa ns (Al full) D _ (by omega) (by omega) fun x hx hin=>y8 _ D ns es (Al full) x hN iN (af hF) hin (by omega)]
  obtain⟨f1,f2⟩:=aW ((Al full).length:Int) (by omega) D.toNat (by omega) (gd ns (Al full))
  obtain⟨r1,r2⟩:=ah hF;have hck:=Fh ((Al full).length:Int) 8 (by omega) D.toNat
  refine⟨((Al full).length:Int),D,(AY ((Al full).length:Int) D.toNat).filter (gd ns (Al full)),Fg full,Al full,true,.inl rfl,rfl,⟨⟨by omega,fun x hx=> ?_⟩,⟨by omega,fun x hx=> ?_⟩,by omega,by omega,by omega, ?_,by omega⟩,fun _=>⟨by omega,rfl,A1o _ _ _,A1p _⟩⟩
  ·have:=(hck.1 x (QD.1 hx).1).1;omega
  ·have:=r2 x hx;omega
  ·have:=lD 2 (Fg full) fun x hx=>by have:=r2 x hx;omega
   omega
 ·simp only [if_neg c]
  exact⟨_,_,_,_,_,_,.inr rfl,rfl,e0,fun h=>by cases h⟩
theorem y9(n D:Int)(ns es:AL)(hN:Ah ns)(hE:Ah es):
  ∃r,PP n D ns es=some r∧Uq n D ns es=some r∧y7 r.2.2.1 r.2.2.2.1 r.2.2.2.2.1:=by
 have e0:y7 [] [] []:=by unfold y7 Ah;simp [Bi]
 unfold PP Uq;rw [Ao hN,Ao hE,Ao hN,Ao hE];by_cases h:LM n D ns es=true
 ·rw [if_pos h,if_pos h];obtain⟨⟨n1,n2⟩,hD,cn,ce⟩:=ae h;obtain⟨m,rfl⟩: ∃m:Nat,n=(m:Int):=⟨n.toNat,by omega⟩
  obtain⟨n',D',ns',es',sets,ok,hS,hI,ho,_⟩:=au m D ns es (by omega) hD hN (Tg cn) hE (Tg ce)
  rw [hI,Bl]
  refine⟨(n',D',ns',es',sets,ok), ?_,rfl,ho⟩
  rcases hS with hS|hS<;>rw [hS]<;>rfl
 ·rw [if_neg h,if_neg h]
  exact⟨_,rfl,rfl,e0⟩
end Go.Proofs.YtjhjkfoabhplfaaGreat
