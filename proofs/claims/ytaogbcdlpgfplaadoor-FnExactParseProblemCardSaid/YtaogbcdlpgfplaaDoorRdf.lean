/- Texts read: the functions of program and reference. Conditions: those in each lemma. -/
import Derived.Test.YtaogbcdlpgfplaaDoorL6
import Derived.Test.YtaogbcdlpgfplaaDoorTxB
import Derived.Test.YtaogbcdlpgfplaaDoorLnr
namespace Go.Proofs.YtaogbcdlpgfplaaDoor
open Go Dv
set_option linter.unusedSimpArgs false
set_option linter.unusedVariables false
set_option maxRecDepth 100000
def VU{α β:Type}(g:Nat→β→α→Option β):Nat→β→List α→Option β
 |_,b,[]=>some b
 |t,b,x::r=>(g t b x).bind fun c=>VU g (t+1) c r
theorem MU{α β:Type}(g:Nat→β→α→Option β)(t:Nat)(b:β)(x:α)(r:List α):VU g t b (x::r)=(g t b x).bind fun c=>VU g (t+1) c r:=rfl
theorem M8{α β σ ρ:Type}(f:σ→Option (σ⊕ρ))(mk:Nat→β→σ)(xs:List α)(g:Nat→β→α→Option β)(P:Nat→β→Prop)(bad:ρ)(HZ:β→ρ)
  (h: ∀(i:Nat) (b:β) (hi:i<xs.length),P i b→f (mk i b)=some (match g i b xs[i]with|some c=> .inl (mk (i+1) c)|none=> .inr bad))
  (hP: ∀(i:Nat) (b c:β) (hi:i<xs.length),P i b→g i b xs[i]=some c→P (i+1) c)
  (e: ∀b,P xs.length b→f (mk xs.length b)=some (.inr (HZ b)))(b0:β)(h0:P 0 b0):
  Jk f (mk 0 b0)=some (match VU g 0 b0 xs with|some b=>HZ b|none=>bad):=by
 have key: ∀(k t:Nat) (b:β),k=xs.length-t→t≤xs.length→P t b→Jk f (mk t b)=some (match VU g t b (xs.drop t)with|some b=>HZ b|none=>bad):=by
  intro k
  induction k with
  |zero=>
   intro t b hk ht hb
   have:t=xs.length:=by omega
   subst this
   rw [List.drop_length]
   exact FD (e b hb)
  |succ k ih=>
   intro t b hk ht hb
   have hlt:t<xs.length:=by omega
   have h1:=h t b hlt hb
   rw [List.drop_eq_getElem_cons hlt,MU]
   cases hg:g t b xs[t]with
   |none=>rw [hg]at h1;rw [FD h1];rfl
   |some c=>
    rw [hg]at h1
    rw [JB h1,Option.bind_some]
    exact ih (t+1) c (by omega) (by omega) (hP t b c hlt hb hg)
 have:=key xs.length 0 b0 (by omega) (Nat.zero_le _) h0
 rwa [List.drop_zero]at this
theorem jR(a b:List UInt8):((Br a).toList==(Br b).toList)=decide (a=b):=by
 rw [XY,Bool.eq_iff_iff,decide_eq_true_eq,decide_eq_true_eq]
 exact⟨fun h=>by rw [←Re a,h,Re],fun h=>by rw [h]⟩
theorem IQ(L:List (List UInt8)){i:Nat}(h:i<L.length):(L.map Br).getD i default=Br L[i]:=by
 rw [Cm _ _ (by rw [List.length_map];exact h),List.getElem_map]
theorem VV(l:List UInt8)(a b:Nat):(Br l).extract a b=Br ((l.drop a).take (b-a)):=by
 apply ZE
 rw [Re]
 show((Br l).extract a b).data.toList=_
 rw [ByteArray.data_extract]
 simp [Br]
theorem jS(l:List UInt8)(i:Nat)(h:i<l.length):U4 (Br l) (i:Int)=((l[i].toNat:Nat):Int):=by
 unfold U4 Br
 simp [h]
theorem Xg(l:List UInt8)(hl:l.length≤6):G9 (Br l) (0,0)=some (match ED 0 l with|some n=> .inr (n:Int)|none=> .inl ()):=by
 have hg: ∀(r:List UInt8) (t a:Nat),VU (fun _ (a:Nat) (c:UInt8)=>if 48≤c.toNat∧c.toNat≤57 then some (a*10+(c.toNat-48))else none) t a r=ED a r:=by
  intro r
  induction r with
  |nil=>intro t a;rfl
  |cons c r ih=>
   intro t a
   rw [MU,NH]
   by_cases h:48≤c.toNat∧c.toNat≤57
   ·rw [if_pos h,if_pos h,Option.bind_some,ih]
   ·rw [if_neg h,if_neg h];rfl
 have key:=M8 (fun v=>Fe (Br l) v.1 v.2) (fun i (a:Nat)=>((a:Int),(i:Int))) l (fun _ (a:Nat) (c:UInt8)=>if 48≤c.toNat∧c.toNat≤57 then some (a*10+(c.toNat-48))else none) (fun i a=>a<10 ^ i) (.inl ()) (fun a=> .inr (a:Int)) ?_ ?_ ?_ 0 (by simp)
 ·rw [hg]at key
  unfold G9
  rw [Int.natCast_zero]at key
  rw [key]
  cases ED 0 l<;>rfl
 ·intro i a hi ha
  have h6:10 ^ i≤10 ^ 6:=Nat.pow_le_pow_right (by decide) (by omega)
  have h3:(10:Nat) ^ 6=1000000:=by decide
  simp only [Fe]
  rw [BN,if_pos (EJ hi),Cn (Hu hi),jS l i hi]
  have hb:=l[i].toNat_lt
  generalize l[i].toNat=c at hb
  by_cases h1:c<48
  ·rw [if_pos (by omega),if_neg (by omega)]
  ·rw [if_neg (by omega)]
   by_cases h2:57<c
   ·rw [if_pos (by omega),if_neg (by omega)]
   ·have hw:IntKind.u8.wrap ((c:Int)-48)=((c-48:Nat):Int):=by
     unfold IntKind.wrap
     simp only [IntKind.signed,IntKind.bits]
     simp
     omega
    have hw2:IntKind.i64.wrap (10*(a:Int))=10*(a:Int):=KQ _ (by omega)
    have hw3:IntKind.i64.wrap ((c-48:Nat):Int)=((c-48:Nat):Int):=KQ _ (by omega)
    rw [if_neg (by omega),if_pos (by omega),PV i (by omega),hw,hw2,hw3,KQ _ (by omega)]
    simp only
    congr 3
    omega
 ·intro i a c hi ha hc
  split at hc
  ·injection hc with hc
   rw [Nat.pow_succ];omega
  ·cases hc
 ·intro a ha
  simp only [Fe]
  rw [BN,if_neg (Bq _)]
theorem wy(l:List UInt8):Lv (Br l)=some (match IM l with|some n=>(n:Int)|none=> -1):=by
 unfold Lv IM
 rw [BN]
 by_cases h:Kr (l.length:Int) 1 6=true
 ·have h':=Fg.1 h
  have hne:l≠[]:=fun e=>by rw [e]at h';simp at h'
  rw [if_pos h,Cn (by omega)]
  cases l with
  |nil=>exact absurd rfl hne
  |cons c r=>
   have hat:=jS (c::r) 0 (by simp)
   have eat:U4 (Br (c::r)) 0=(c.toNat:Int):=by simpa using hat
   have ec:c.toNat=48↔(c::r).head? =some 48:=by
    simp only [List.head?_cons,Option.some.injEq]
    exact⟨fun e=>UInt8.toNat_inj.1 e,fun e=>by rw [e];rfl⟩
   have HZ:((G9 (Br (c::r)) (0,0)).bind fun AZ=>match AZ with| .inl q1000_=>some (-1)| .inr q1000_=>some q1000_)=some (match ED 0 (c::r)with|some n=>(n:Int)|none=> -1):=by
    rw [Xg _ (by omega)]
    cases ED 0 (c::r)<;>rfl
   rw [eat]
   by_cases h0:c.toNat=48
   ·rw [if_pos (by omega)]
    by_cases h1:(c::r).length=1
    ·rw [if_neg (by omega),if_pos ⟨hne,by omega,fun _=>h1⟩]
     exact HZ
    ·rw [if_pos (by omega),if_neg (fun hh=>h1 (hh.2.2 (ec.1 h0)))]
   ·rw [if_neg (by omega),if_pos ⟨hne,by omega,fun e=>absurd (ec.2 e) h0⟩]
    exact HZ
 ·rw [if_neg h,if_neg]
  rintro⟨h1,h2,_⟩
  apply h
  refine Fg.2 ⟨?_,by omega⟩
  cases l with
  |nil=>exact absurd rfl h1
  |cons c r=>simp;omega
theorem OI(n:Int)(h:0≤n):G5 n=Br (Ga n.toNat):=Rf n h
theorem dC(n:Int)(h:n<0):G5 n=Br (45::Ga n.natAbs):=by
 unfold G5 Lib.itoa Ga Br
 rw [if_pos h]
theorem jT{a b:List UInt8}(h:Br a=Br b):a=b:=by rw [←Re a,h,Re]
theorem wz(w:List UInt8):I7 (Br w)=some (match IM w with|some n=>((n:Int),true)|none=>(0,false)):=by
 unfold I7
 rw [BN]
 by_cases h1:(w.length:Int)<1
 ·have e:w=[]:=List.eq_nil_of_length_eq_zero (by omega)
  subst e
  rw [if_pos h1];rfl
 ·rw [if_neg h1]
  by_cases h2:6<(w.length:Int)
  ·have:IM w=none:=by unfold IM;rw [if_neg (fun hh=>by omega)]
   rw [if_pos h2,this]
  ·rw [if_neg h2]
   rcases ZK (Br w) (by rw [BN];omega)with⟨n,hn,hw,ha⟩|⟨hno,hx⟩
   ·rw [ha,Option.bind_some]
    by_cases c:n<0
    ·have e:=jT (hw.trans (dC n c))
     have:IM w=none:=by
      cases hr:IM w with
      |none=>rfl
      |some m=>
       have e2:=((MR _ _).1 hr).2
       have h45:=Rp m 45 (by rw [←e2,e];simp)
       exact absurd h45.1 (by decide)
     simp only [if_pos c,this]
    ·have e:=jT (hw.trans (OI n (by omega)))
     have hs:=Rn _ _ _ (Kv n.toNat)
     have h6:10 ^ (Ga n.toNat).length≤10 ^ 6:=Nat.pow_le_pow_right (by decide) (by rw [←e];omega)
     have h3:(10:Nat) ^ 6=1000000:=by decide
     have hr:IM w=some n.toNat:=(MR _ _).2 ⟨by omega,e⟩
     simp only [if_neg c,hr]
     rw [Cn hn,←hw]
     simp only [beq_self_eq_true,if_true]
     congr 2;omega
   ·have hr:IM w=none:=by
     cases hr:IM w with
     |none=>rfl
     |some m=>
      have e2:=(MR _ _).1 hr
      exact absurd (by rw [OI _ (by omega),e2.2];rfl) (hno (m:Int) (by omega))
    rw [hr]
    rcases hx with⟨q,ha,hq,hne⟩|⟨q,ha⟩
    ·rw [ha,Option.bind_some]
     by_cases c:q<0
     ·simp only [if_pos c]
     ·have:((G5 q).toList==(Br w).toList)=false:=by
       rw [XY];exact decide_eq_false hne
      simp only [if_neg c]
      rw [Cn hq,this]
      rfl
    ·rw [ha,Option.bind_some]
theorem NI: ∀(r:List (List UInt8)) (t:Nat) (out:List Int),VU (fun _ (out:List Int) (w:List UInt8)=>(Me w).map fun k=>out++[k]) t out r=(IB r).map fun l=>out++l
 | [],t,out=>by simp [VU,IB]
 |w::r,t,out=>by
  rw [MU]
  unfold IB
  cases Me w with
  |none=>rfl
  |some k=>
   rw [Option.map_some,Option.bind_some,Option.bind_some,NI r]
   cases IB r with
   |none=>rfl
   |some l=>simp
theorem Zw:Me [42]=some (-1):=rfl
theorem Zx{w:List UInt8}(h:w≠[42]):Me w=(IM w).map fun n=>(n:Int):=by unfold Me;rw [if_neg h]
theorem ww:({data:= #[42]}:ByteArray)=Br [42]:=rfl
theorem x8(L:List (List UInt8))(hL:L.length<1099511627776):Gq (L.map Br)=some (match IB L with|some l=>(l,true)|none=>([],false)):=by
 have key:=M8 (fun v=>DC (L.map Br) v.1 v.2) (fun i (out:List Int)=>(out,(i:Int))) L (fun _ (out:List Int) (w:List UInt8)=>(Me w).map fun k=>out++[k]) (fun i out=>out.length=i) (.inl ()) (fun out=> .inr out) ?_ ?_ ?_ [] rfl
 ·rw [NI]at key
  unfold Gq GR
  rw [Int.natCast_zero]at key
  rw [key]
  cases IB L<;>rfl
 ·intro i out hi ho
  simp only [DC,Int.toNat_natCast]
  rw [List.length_map,if_pos (EJ hi),Cn (by omega),IQ L hi,wz,Option.bind_some,ww,jR,PV i (by omega)]
  by_cases hw:L[i]=[42]
  ·rw [hw,decide_eq_true rfl,if_pos rfl,Cn (by omega),Zw];rfl
  ·rw [decide_eq_false hw,if_neg (by decide),Zx hw]
   cases IM L[i]with
   |none=>rfl
   |some n=>simp only [Option.map_some];rw [if_pos trivial,Cn (by omega)];rfl
 ·intro i out c hi ho hc
  cases hs:Me L[i]with
  |none=>rw [hs]at hc;cases hc
  |some k=>rw [hs]at hc;injection hc with hc;rw [←hc,List.length_append,ho];rfl
 ·intro out ho
  simp only [DC]
  rw [List.length_map,if_neg (Bq _)]
theorem x9(L:List (List UInt8))(hL:L.length<1099511627776):Iy (L.map Br)=some (match IB L with|some l=>(l,true)|none=>([],false)):=by
 have key:=M8 (fun v=>Dr (L.map Br) v.1 v.2) (fun i (out:List Int)=>(out,(i:Int))) L (fun _ (out:List Int) (w:List UInt8)=>(Me w).map fun k=>out++[k]) (fun i out=>out.length=i) (.inl ()) (fun out=> .inr out) ?_ ?_ ?_ [] rfl
 ·rw [NI]at key
  unfold Iy I9
  rw [Int.natCast_zero]at key
  rw [key]
  cases IB L<;>rfl
 ·intro i out hi ho
  simp only [Dr,Int.toNat_natCast]
  rw [List.length_map,if_pos (EJ hi),Cn (by omega),IQ L hi,wy,Option.bind_some,ww,jR,PV i (by omega)]
  by_cases hw:L[i]=[42]
  ·have hr:IM [42]=none:=rfl
   rw [hw,hr,Zw]
   simp only [decide_true,if_true]
   rw [if_pos (by omega),Cn (by omega)];rfl
  ·rw [decide_eq_false hw,Zx hw]
   cases IM L[i]with
   |none=>rfl
   |some n=>simp only [Option.map_some];rw [if_neg (by omega),Cn (by omega)];rfl
 ·intro i out c hi ho hc
  cases hs:Me L[i]with
  |none=>rw [hs]at hc;cases hc
  |some k=>rw [hs]at hc;injection hc with hc;rw [←hc,List.length_append,ho];rfl
 ·intro out ho
  simp only [Dr]
  rw [List.length_map,if_neg (Bq _)]
theorem VW(c:UInt8)(l:List UInt8)(hl:l.length<4294967296): ∀(rest pre cur:List UInt8) (out:List ByteArray),c ∉ cur→l=pre++cur++rest→out.length≤pre.length→
  ∃out' fr,FK (Br l) (c.toNat:Int) (out,(pre.length:Int),((pre.length+cur.length:Nat):Int))=some (out',((fr:Nat):Int))∧fr≤l.length∧out'.length≤l.length∧out'++[(Br l).extract fr l.length]=out++(Da c (cur++rest)).map Br:=by
 intro rest
 induction rest with
 |nil=>
  intro pre cur out hc hl0 ho
  rw [List.append_nil]at hl0 ⊢
  have hlen:=congrArg List.length hl0
  rw [List.length_append]at hlen
  refine⟨out,pre.length, ?_,by omega,by omega, ?_⟩
  ·unfold FK
   refine FD ?_
   simp only [Ey]
   rw [BN,if_neg (by omega)]
  ·rw [VV,KX c cur hc,hl0]
   simp
 |cons x rest ih=>
  intro pre cur out hc hl0 ho
  have hlen:=congrArg List.length hl0
  rw [List.length_append,List.length_append,List.length_cons]at hlen
  have hi:pre.length+cur.length<l.length:=by omega
  have hx:l[pre.length+cur.length]=x:=by
   simp only [hl0]
   rw [List.getElem_append_right (by simp)]
   simp
  have ha:=jS l _ hi
  rw [hx]at ha
  have hif:(U4 (Br l) ((pre.length+cur.length:Nat):Int)=(c.toNat:Int))↔x=c:=by
   rw [ha]
   exact⟨fun e=>UInt8.toNat_inj.1 (by omega),fun e=>by rw [e]⟩
  by_cases e:x=c
  ·obtain⟨out',fr,h1,h2,h3,h4⟩:=ih (pre++cur++[c]) [] (out++[Br cur]) (by simp) (by rw [hl0,e];simp) (by simp;omega)
   refine⟨out',fr, ?_,h2,h3, ?_⟩
   ·unfold FK at h1 ⊢
    rw [JB (s':=(out++[Br cur],((pre++cur++[c]).length:Int),(((pre++cur++[c]).length+([]:List UInt8).length:Nat):Int)))]
    ·exact h1
    ·simp only [Ey]
     have hex:(Br l).extract pre.length (pre.length+cur.length)=Br cur:=by
      rw [VV,hl0]
      simp
     rw [BN,if_pos (EJ hi),Cn (Hu hi),if_pos (hif.2 e),Cn (by omega),Cn (by omega),Int.toNat_natCast,Int.toNat_natCast,Cn (by omega),Cn (by omega),hex,PV _ (by omega)]
     have:(pre++cur++[c]).length=pre.length+cur.length+1:=by simp;omega
     rw [this]
     rfl
   ·rw [h4,e,M7 c cur rest hc]
    simp
  ·obtain⟨out',fr,h1,h2,h3,h4⟩:=ih pre (cur++[x]) out (fun hm=>by
    rcases List.mem_append.1 hm with hm|hm
    ·exact hc hm
    ·exact e (List.mem_singleton.1 hm).symm) (by rw [hl0];simp) ho
   refine⟨out',fr, ?_,h2,h3, ?_⟩
   ·unfold FK at h1 ⊢
    rw [JB (s':=(out,(pre.length:Int),((pre.length+(cur++[x]).length:Nat):Int)))]
    ·exact h1
    ·simp only [Ey]
     rw [BN,if_pos (EJ hi),Cn (Hu hi),if_neg (fun h=>e (hif.1 h)),PV _ (by omega)]
     have:pre.length+(cur++[x]).length=pre.length+cur.length+1:=by simp;omega
     rw [this]
   ·rw [h4];simp
theorem Zy(c:UInt8)(l:List UInt8)(hl:l.length<4294967296):JM (Br l) (c.toNat:Int)=some ((Da c l).map Br):=by
 obtain⟨out,fr,h1,h2,h3,h4⟩:=VW c l hl l [] [] [] (by simp) rfl (Nat.le_refl _)
 unfold JM
 rw [show(([],0,0):List ByteArray×Int×Int)=([],(([]:List UInt8).length:Int),((([]:List UInt8).length+([]:List UInt8).length:Nat):Int))from rfl,h1,Option.bind_some]
 rw [BN,Cn (by simp only;omega),Int.toNat_natCast,Cn (by omega),Cn (by simp only;omega),h4]
 rfl
end Go.Proofs.YtaogbcdlpgfplaaDoor
