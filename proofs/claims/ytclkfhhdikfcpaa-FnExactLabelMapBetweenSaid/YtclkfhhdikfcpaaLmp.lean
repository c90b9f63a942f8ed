/- Label maps: the program's search, as a plain function. Conditions: those in each lemma. -/
import Derived.Test.YtclkfhhdikfcpaaL6
import Derived.Test.YtclkfhhdikfcpaaLmA
import Derived.Test.YtclkfhhdikfcpaaRbp
import Derived.Test.YtclkfhhdikfcpaaHas
import Derived.Test.YtclkfhhdikfcpaaCut
namespace Go.Proofs.Ytclkfhhdikfcpaa
open Go Dv
set_option linter.unusedSimpArgs false
set_option linter.unusedVariables false
set_option maxRecDepth 100000
def MP(c:List Int):Int:=c.getD (c.length-1) default
theorem Td{c:List Int}(h:c.Pairwise fun a b=>a≤b){a:Int}(ha:a∈c):a≤MP c:=by
 obtain⟨i,hi,rfl⟩:=RV ha;unfold MP;rw [Av _ _ (by omega)]
 by_cases e:i=c.length-1
 ·subst e;exact Int.le_refl _
 ·exact List.pairwise_iff_getElem.1 h i (c.length-1) hi (by omega) (by omega)
structure GoodC(l:List (List Int))(n:Int):Prop where
 len: ∀c∈l,1≤c.length∧c.length≤4
 srt: ∀c∈l,c.Pairwise fun a b=>a≤b
 rng: ∀c∈l,∀a∈c,0≤a∧a<n
theorem YU{l:List (List Int)}{s n:Int}(hs:1≤s∧s≤4)(h:Hd l s n=true):GoodC l n:=by
 refine⟨fun c hc=> ?_,fun c hc=>WW (NN h hc).2.1,fun c hc a ha=> ?_⟩
 ·have:=(NN h hc).1;omega
 ·have:=(NN h hc).2.2
  unfold J2 at this;have:=Kj.1 (Ho.1 this a ha)
  omega
def dS(l m:List (List Int))(r:List Int)(t:Nat):Bool:= !decide (MP (l.getD t default)=(r.length:Int)-1)||m.contains (Dp ((l.getD t default).map (Je r)))
def PW(l m:List (List Int))(r:List Int):Bool:=(List.range l.length).all (dS l m r)
theorem YV{l m:List (List Int)}{r:List Int}:PW l m r=true↔ ∀c∈l,MP c=(r.length:Int)-1→Dp (c.map (Je r))∈m:=by
 unfold PW dS;rw [P8 (fun c=> !decide (MP c=(r.length:Int)-1)||m.contains (Dp (c.map (Je r)))),Ho]
 constructor
 ·intro h c hc hl;have:=h c hc
  rw [decide_eq_true hl]at this;simpa using this
 ·intro h c hc;by_cases hl:MP c=(r.length:Int)-1
  ·have:=h c hc hl
   rw [decide_eq_true hl];simpa using this
  ·rw [decide_eq_false hl];rfl
theorem V4(x0 x1:Int)(x2 x3:List (List Int))(x4 x5:Int)(x6 x7:List (List Int)){l m:List (List Int)}{n:Int}(r:List Int)(hg:GoodC l n)(h8:r.length≤8)(hl:BM l)(hm:BM m)(hi:UR m=true):
  Ec x0 x1 x2 x3 x4 x5 x6 x7 r l m=some (PW l m r):=by
 have h1:=hl.1
 have inner: ∀t:Nat,t<l.length→MP (l.getD t default)=(r.length:Int)-1→EX x0 x1 x2 x3 x4 x5 x6 x7 r l m (t:Int) ([],0)=some ((l.getD t default).map (Je r)):=by
  intro t ht hlast;have hc:l.getD t default∈l:=by rw [Av _ _ ht];exact Ij ht
  have hlen:=hg.len _ hc;unfold EX;refine iJ (fun v=>Cx x0 x1 x2 x3 x4 x5 x6 x7 r l m (t:Int) v.1 v.2) (l.getD t default) (Je r) ?_ ?_
  ·intro i hi' out ho;have ha:=Td (hg.srt _ hc) (Ij hi');have h0:=hg.rng _ hc _ (Ij hi');simp only [Cx,KP,Av _ _ hi'];rw [if_pos (GJ hi'),CU ⟨by omega,hi'⟩,CU (by omega),CU (by omega),Ny i (by omega)]
   rfl
  ·intro out ho;simp only [Cx,KP];rw [if_neg (CY _)]
 unfold Ec Fa;have key:=JO (fun v=>Cy x0 x1 x2 x3 x4 x5 x6 x7 r l m v) (fun i=>(i:Int)) l.length (dS l m r) (.inl ()) (.inr ()) ?_ ?_
 ·rw [Jo]at key;rw [key,Ee];unfold PW
  cases (List.range l.length).all (dS l m r)<;>rfl
 ·intro t ht;have hc:l.getD t default∈l:=by rw [Av _ _ ht];exact Ij ht
  have hlen:=hg.len _ hc;simp only [Cy,KP,IK (((l.getD t default).length:Int)-1) (by omega),IK ((r.length:Int)-1) (by omega),show(((l.getD t default).length:Int)-1).toNat=(l.getD t default).length-1 by omega]
  rw [if_pos (GJ ht),CU ⟨by omega,ht⟩,CU (by omega),Ny t (by omega)]
  by_cases hlast:MP (l.getD t default)=(r.length:Int)-1
  ·rw [if_pos (by exact hlast),inner t ht hlast,Ee,CU hm,CU (by rw [Ql];omega),CU hi]
   unfold dS;rw [decide_eq_true hlast]
   cases m.contains (Dp ((l.getD t default).map (Je r)))<;>rfl
  ·rw [if_neg (by exact hlast)]
   unfold dS;rw [decide_eq_false hlast];rfl
 ·simp only [Cy];rw [if_neg (CY _)]
theorem YW{l m:List (List Int)}{n:Nat}(hg:GoodC l n){r:List Int}(hr:r.length=n)(h: ∀j,1≤j→j≤r.length→PW l m (r.take j)=true): ∀c∈l,Dp (c.map (Je r))∈m:=by
 intro c hc;have hl:=hg.len c hc;have hlast:MP c∈c:=by unfold MP;rw [Av _ _ (by omega)];exact Ij _
 have h0:=hg.rng c hc _ hlast;have:=YV.1 (h ((MP c).toNat+1) (by omega) (by omega)) c hc (by rw [Pd];omega)
 have e:c.map (Je (r.take ((MP c).toNat+1)))=c.map (Je r):=by
  refine List.map_congr_left fun a ha=> ?_;have q1:=Td (hg.srt c hc) ha;have q2:=hg.rng c hc a ha;unfold Je;rw [JL,JL,Mc (by omega)]
 rwa [e]at this
def kF(ns es ms fs:List (List Int))(r:List Int)(b:Nat):Bool:=PW ns ms (r++[(b:Int)])&&PW es fs (r++[(b:Int)])
theorem NA{σ ρ:Type}(f:σ→Option (σ⊕ρ))(st:Nat→σ)(n:Nat)(g:Nat→Option ρ)(miss:ρ)(h: ∀b,b<n→f (st b)=match g b with|none=>some (.inl (st (b+1)))|some q=>some (.inr q))(e:f (st n)=some (.inr miss)):
  Iw f (st 0)=some (((List.range n).findSome? g).getD miss):=by
 have:=iG f st (List.range n) g miss (fun i hi=>by rw [List.getElem_range];exact h i (by simpa using hi)) (by rw [List.length_range];exact e)
 exact this
theorem PX{α β γ:Type}(g:α→Option β)(f:β→γ): ∀l:List α,l.findSome? (fun x=>(g x).map f)=(l.findSome? g).map f
 | []=>rfl
 |x::l=>by
  rw [List.findSome?_cons,List.findSome?_cons]
  cases g x with
  |none=>exact PX g f l
  |some y=>rfl
structure TwoQ(ns es ms fs:List (List Int))(p q:Nat):Prop where
 p8:p≤8
 q8:q≤8
 gn:GoodC ns p
 ge:GoodC es p
 sn:BM ns
 se:BM es
 sm:BM ms
 sf:BM fs
 im:UR ms=true
 jf:UR fs=true
def Wv(n:Nat)(cond:List Int→Nat→Bool):Nat→List Int→Option (List Int)
 |0,π=>some π
 |m+1,π=>(List.range n).findSome? fun(b:Nat)=>if cond π b=true then Wv n cond m (π++[(b:Int)])else none
theorem V5{ns es ms fs:List (List Int)}{p q:Nat}(h:TwoQ ns es ms fs p q)(d d':Int): ∀(m k:Nat) (r:List Int),r.length+m=p→m<k→
  Bo k (p:Int) d ns es (q:Int) d' ms fs r=some (match Wv q (kF ns es ms fs) m r with|some x=>(true,(p:Int),d,ns,es,(q:Int),d',ms,fs,x)|none=>(false,(p:Int),d,ns,es,(q:Int),d',ms,fs,r))
 |0,0,_,_,hk=>by omega
 |0,k+1,r,hr,_=>by
  show DX (Bo k) (p:Int) d ns es (q:Int) d' ms fs r=_
  unfold DX;rw [if_pos (by omega)];rfl
 |m+1,0,_,_,hk=>by omega
 |m+1,k+1,r,hr,hk=>by
  have p8:=h.p8;have q8:=h.q8;show DX (Bo k) (p:Int) d ns es (q:Int) d' ms fs r=_
  unfold DX;rw [if_neg (by omega)]
  have key:=NA (fun v=>D8 (Bo k) (q:Int) v.1 v.2.1 v.2.2.1 v.2.2.2.1 v.2.2.2.2.1 v.2.2.2.2.2.1 v.2.2.2.2.2.2.1 v.2.2.2.2.2.2.2.1 v.2.2.2.2.2.2.2.2.1 v.2.2.2.2.2.2.2.2.2) (fun b=>((b:Int),(p:Int),d,ns,es,(q:Int),d',ms,fs,r)) q
   (fun(b:Nat)=>(if kF ns es ms fs r b=true then Wv q (kF ns es ms fs) m (r++[(b:Int)])else none).map fun x=> .inl ((p:Int),d,ns,es,(q:Int),d',ms,fs,x)) (.inr ((p:Int),d,ns,es,(q:Int),d',ms,fs,r)) ?_ ?_
  ·rw [Jo]at key;have e:Ga (Bo k) (q:Int) (0,(p:Int),d,ns,es,(q:Int),d',ms,fs,r)=_:=key;rw [e,PX,Ee];simp only [Wv]
   cases (List.range q).findSome? fun(b:Nat)=>if kF ns es ms fs r b=true then Wv q (kF ns es ms fs) m (r++[(b:Int)])else none<;>rfl
  ·intro b hb;have ht: ∀x:List Int,x.length=r.length+1→(IntKind.i64.wrap ((x.length:Int)-1))=(r.length:Int):=fun x hx=>by rw [IK _ (by omega)];omega
   have hl:(r++[(b:Int)]).length=r.length+1:=by simp
   have htk:(r++[(b:Int)]).take r.length=r:=by rw [af (I7 _),VD]
   simp only [D8];rw [if_pos (GJ hb),Ny b (by omega),CU (by omega),V4 _ _ _ _ _ _ _ _ (r++[(b:Int)]) h.gn (by omega) h.sn h.sm h.im,Ee]
   rw [show kF ns es ms fs r b=(PW ns ms (r++[(b:Int)])&&PW es fs (r++[(b:Int)]))from rfl]
   cases h1:PW ns ms (r++[(b:Int)])with
   |false=>
    rw [if_neg (by decide),ht _ hl,CU (by omega),CU (by omega),KP,htk];rfl
   |true=>
    rw [if_pos rfl,V4 _ _ _ _ _ _ _ _ (r++[(b:Int)]) h.ge (by omega) h.se h.sf h.jf,Ee]
    cases h2:PW es fs (r++[(b:Int)])with
    |false=>
     rw [if_neg (by decide),ht _ hl,CU (by omega),CU (by omega),KP,htk];rfl
    |true=>
     rw [if_pos rfl,V5 h d d' m k (r++[(b:Int)]) (by omega) (by omega),Ee]
     simp only [Bool.and_self,if_true]
     cases Wv q (kF ns es ms fs) m (r++[(b:Int)])with
     |none=>
      dsimp only;rw [if_neg (by decide),ht _ hl,CU (by omega),CU (by omega),KP,htk];rfl
     |some x=>rfl
  ·simp only [D8];rw [if_neg (CY _)]
def KO(n:Nat)(good:List Int→Bool):Nat→List Int→Option (List Int)
 |0,π=>if good π=true then some π else none
 |m+1,π=>(List.range n).findSome? fun(b:Nat)=>KO n good m (π++[(b:Int)])
theorem Ld{n:Nat}{good:List Int→Bool}: ∀(m:Nat) (π:List Int),KO n good m π=none↔ ∀d:List Int,d.length=m→(∀x∈d,0≤x∧x<n)→good (π++d)=false
 |0,π=>by
  unfold KO
  constructor
  ·intro h d hd _;rw [ae hd,O9]
   split at h
   ·cases h
   ·rename_i h2;exact Gm.2 h2
  ·intro h;have:=h [] rfl (by simp)
   rw [O9]at this;rw [this];rfl
 |m+1,π=>by
  unfold KO;rw [List.findSome?_eq_none_iff]
  constructor
  ·intro h d hd hr
   cases d with
   |nil=>cases hd
   |cons x d=>
    have hx:=hr x Jm;have h1:=(Ld m (π++[((x.toNat:Nat):Int)])).1 (h x.toNat (OA.2 (by omega))) d (by simpa using hd) (fun y hy=>hr y (Il _ hy))
    rw [show((x.toNat:Nat):Int)=x by omega,Pb]at h1
    exact h1
  ·intro h b hb;have hb:=OA.1 hb
   refine(Ld m _).2 fun d hd hr=> ?_
   have:=h ((b:Int)::d) (by simp [hd]) (fun x hx=>by
    rcases Pg.1 hx with rfl|hx
    ·omega
    ·exact hr x hx)
   rw [Pb];exact this
def Jk(ns es ms fs:List (List Int))(f:List Int):Bool:=ns.all (fun c=>ms.contains (Dp (c.map (Je f))))&&es.all (fun c=>fs.contains (Dp (c.map (Je f))))
theorem Nn{ns es ms fs:List (List Int)}{f:List Int}:Jk ns es ms fs f=true↔(∀c∈ns,Dp (c.map (Je f))∈ms)∧ ∀c∈es,Dp (c.map (Je f))∈fs:=by
 unfold Jk;simp only [Hm,Ho,RU]
theorem jb{l m:List (List Int)}{n:Nat}(hg:GoodC l n){r d:List Int}(h: ∀c∈l,Dp (c.map (Je (r++d)))∈m):PW l m r=true:=by
 rw [YV];intro c hc hl;have:=h c hc
 have e:c.map (Je (r++d))=c.map (Je r):=by
  refine List.map_congr_left fun a ha=> ?_;have q1:=Td (hg.srt c hc) ha;have q2:=hg.rng c hc a ha;unfold Je;rw [JL,JL,Ma (by omega)]
 rwa [e]at this
theorem jc{ns es ms fs:List (List Int)}{p q:Nat}(h:TwoQ ns es ms fs p q): ∀(m:Nat) (r:List Int),r.length+m=p→(∀j,1≤j→j≤r.length→PW ns ms (r.take j)=true∧PW es fs (r.take j)=true)→Wv q (kF ns es ms fs) m r=KO q (Jk ns es ms fs) m r
 |0,r,hr,hQ=>by
  unfold Wv KO;rw [if_pos (Nn.2 ⟨YW h.gn (by omega) fun j j1 j2=>(hQ j j1 j2).1,YW h.ge (by omega) fun j j1 j2=>(hQ j j1 j2).2⟩)]
 |m+1,r,hr,hQ=>by
  unfold Wv KO
  congr 1
  funext b
  split
  ·rename_i hc
   refine jc h m _ (by simp;omega) fun j j1 j2=> ?_
   rw [Jz,ai]at j2;by_cases e:j≤r.length
   ·rw [af e];exact hQ j j1 e
   ·have:(r++[(b:Int)]).take j=r++[(b:Int)]:=List.take_of_length_le (by simp;omega)
    rw [this];unfold kF at hc;rwa [Hm]at hc
  ·rename_i hc
   symm
   rw [Ld];intro d _ _;apply Classical.byContradiction
   intro hg;rw [Bool.not_eq_false,Nn]at hg;refine hc ?_;unfold kF;rw [jb h.gn hg.1,jb h.ge hg.2];rfl
end Go.Proofs.Ytclkfhhdikfcpaa
