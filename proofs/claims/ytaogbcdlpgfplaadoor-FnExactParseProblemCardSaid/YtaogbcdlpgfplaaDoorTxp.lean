/- Texts of problems: program and reference agree. Conditions: those in each lemma. -/
import Derived.Test.YtaogbcdlpgfplaaDoorL6
import Derived.Test.YtaogbcdlpgfplaaDoorTxn
namespace Go.Proofs.YtaogbcdlpgfplaaDoor
open Go Dv
set_option linter.unusedSimpArgs false
set_option linter.unusedVariables false
set_option maxRecDepth 100000
theorem Tz{l:List (List Int)}{s n:Int}(h:H9 l s n=true)(hs:s≤4)(hn:n≤8)(hl:l.length≤1048576):CfgOk l:=by
 refine⟨hl,fun x hx=> ?_⟩
 obtain⟨i,hi,rfl⟩:=List.getElem_of_mem hx
 have:=H6.1 h i hi
 unfold K3 at this
 rw [Cm _ _ hi]at this
 simp only [Bool.and_eq_true,decide_eq_true_eq]at this
 have hlen:=this.1.1.1
 have hall:=this.1.2
 refine⟨⟨by omega,fun k hk=> ?_⟩,by omega⟩
 unfold Hz at hall
 have:=Fg.1 (List.all_eq_true.1 hall k hk)
 omega
theorem NJ{a d:Int}{ns es:List (List Int)}(h:DZ a d ns es=true)(hn:ns.length≤1048576)(he:es.length≤1048576):(1≤a∧a≤8)∧(1≤d∧d≤4)∧CfgOk ns∧CfgOk es:=by
 simp only [DZ,Bool.and_eq_true]at h
 have ha:=Fg.1 h.1.1.1
 have hd:=Fg.1 h.1.1.2
 exact⟨ha,hd,Tz h.1.2 hd.2 ha.2 hn,Tz h.2 (by decide) ha.2 he⟩
theorem jU(f:List ByteArray→Int→Option ((List ByteArray×Int)⊕List ByteArray))(w:List UInt8)(hw:w.length≤7)(l:List (List Int))(h:CfgOk l)
  (hf: ∀(L:List ByteArray) (i:Nat),i<l.length→L.length+1<1099511627776→f L (i:Int)=some (.inl (L++[Br (Bf w (l.getD i default))],((i+1:Nat):Int))))(he: ∀L,f L (l.length:Int)=some (.inr L))(L0:List ByteArray)(h0:L0.length≤2097152):
  Jk (fun v=>f v.1 v.2) (L0,0)=some (L0++l.map fun x=>Br (Bf w x)):=by
 have key:=JC (fun v=>f v.1 v.2) (fun i=>(L0++(l.take i).map (fun x=>Br (Bf w x)),(i:Int))) l.length (L0++l.map fun x=>Br (Bf w x)) ?_ ?_
 ·simpa using key
 ·intro i hi
  have hl:=h.len
  have hlen:(L0++(l.take i).map (fun x=>Br (Bf w x))).length+1<1099511627776:=by
   rw [List.length_append,List.length_map,List.length_take];omega
  simp only
  rw [hf _ i hi hlen,List.take_succ_eq_append_getElem hi,List.map_append,Cm _ _ hi,List.append_assoc]
  rfl
 ·simp only
  rw [List.take_length,he]
theorem xA(L:List (List UInt8)):(L.map Br).map (fun b=>b.data.toList)=L:=by
 rw [List.map_map]
 have:((fun b:ByteArray=>b.data.toList)∘Br)=id:=funext fun l=>rfl
 rw [this,List.map_id]
theorem Oz{L:List (List UInt8)}(h: ∀x∈L,x.length≤119):((L.map (· ++[10])).flatten).length≤120*L.length:=
 M3 (fun x:List UInt8=>x++[10]) 120 L (fun x hx=>by have:=h x hx;simp;omega)
theorem dD{a d:Int}{ns es:List (List Int)}(ha:0≤a∧a≤8)(hd:0≤d∧d≤4)(hn:CfgOk ns)(he:CfgOk es):(∀x∈Cg a d ns es,x.length≤119)∧(Cg a d ns es).length≤2097153:=by
 have h1:=hn.len
 have h2:=he.len
 refine⟨fun x hx=> ?_,by unfold Cg;simp;omega⟩
 unfold Cg at hx
 rcases List.mem_cons.1 hx with rfl|hx
 ·refine GA (by decide) ⟨⟨by simp,fun k hk=> ?_⟩,by simp⟩
  simp at hk
  omega
 ·rcases List.mem_append.1 hx with hx|hx
  ·obtain⟨y,hy,rfl⟩:=List.mem_map.1 hx
   exact GA (by decide) (hn.row y hy)
  ·obtain⟨y,hy,rfl⟩:=List.mem_map.1 hx
   exact GA (by decide) (he.row y hy)
theorem ZQ{a d:Int}(ha:0≤a∧a≤8)(hd:0≤d∧d≤4):mG [a,d]:=⟨by simp,fun k hk=>by simp at hk;omega⟩
theorem xB{a d:Int}{ns es:List (List Int)}(ha:0≤a∧a≤8)(hd:0≤d∧d≤4)(hn:CfgOk ns)(he:CfgOk es):Gm a d ns es=some (Br (M5 a d ns es)):=by
 unfold Gm
 have eP:({data:= #[112,114,111,98,108,101,109]}:ByteArray)=Br F5:=rfl
 have Hd:({data:= #[10]}:ByteArray)=Br [10]:=rfl
 rw [eP,ZF F5 [a,d] (ZQ ha hd) (by decide),Option.bind_some]
 have k0:Eu a d ns es ([Br (Bf F5 [a,d])],0)=some ([Br (Bf F5 [a,d])]++ns.map fun x=>Br (Bf F9 x)):=by
  unfold Eu
  refine jU (fun L t=>D6 a d ns es L t) F9 (by decide) ns hn (fun L i hi hL=> ?_) (fun L=> ?_) _ (by simp)
  ·have hr:=(hn.at hi).1
   have eN:({data:= #[110,111,100,101]}:ByteArray)=Br F9:=rfl
   simp only [D6,Int.toNat_natCast]
   rw [if_pos (EJ hi),Cn (by omega),eN,ZF F9 _ (by rw [Cm _ _ hi];exact hr) (by decide),Option.bind_some,Cn hL,PV i (by have:=hn.len;omega)]
  ·simp only [D6]
   rw [if_neg (Bq _)]
 rw [k0,Option.bind_some]
 have k1:Ev es ([Br (Bf F5 [a,d])]++ns.map (fun x=>Br (Bf F9 x)),0)=some (([Br (Bf F5 [a,d])]++ns.map fun x=>Br (Bf F9 x))++es.map fun x=>Br (Bf GV x)):=by
  unfold Ev
  refine jU (fun L t=>D7 es L t) GV (by decide) es he (fun L i hi hL=> ?_) (fun L=> ?_) _ (by have:=hn.len;simp;omega)
  ·have hr:=(he.at hi).1
   have eN:({data:= #[101,100,103,101]}:ByteArray)=Br GV:=rfl
   simp only [D7,Int.toNat_natCast]
   rw [if_pos (EJ hi),Cn (by omega),eN,ZF GV _ (by rw [Cm _ _ hi];exact hr) (by decide),Option.bind_some,Cn hL,PV i (by have:=he.len;omega)]
  ·simp only [D7]
   rw [if_neg (Bq _)]
 rw [k1,Option.bind_some]
 have eL:([Br (Bf F5 [a,d])]++ns.map fun x=>Br (Bf F9 x))++es.map (fun x=>Br (Bf GV x))=(Cg a d ns es).map Br:=by
  unfold Cg
  simp [List.map_append,Function.comp_def]
 obtain⟨hs,hc⟩:=dD ha hd hn he
 have ht:=Oz hs
 have hj:Hw ((Cg a d ns es).map Br) (Br [10])=Br (Lib.join (Cg a d ns es) [10]):=by
  unfold Hw
  rw [xA]
  rfl
 have hjl:=Rj (Cg a d ns es) (by unfold Cg;simp)
 have hlen:(Lib.join (Cg a d ns es) [10]).length+1≤120*2097153:=by
  have:=congrArg List.length hjl
  rw [List.length_append,List.length_cons,List.length_nil]at this
  omega
 rw [eL,Hd,hj,List.length_map,BN,BN,Cn (by omega),Cn (by simp;omega),Ic,hjl]
 rfl
theorem jV(f:ByteArray→Int→Option ((ByteArray×Int)⊕ByteArray))(w:List UInt8)(hw:w.length≤7)(l:List (List Int))(h:CfgOk l)
  (hf: ∀(b:ByteArray) (i:Nat),i<l.length→b.size≤1000000000→f b (i:Int)=some (.inl (b++Br (Bf w (l.getD i default)++[10]),((i+1:Nat):Int))))(he: ∀b,f b (l.length:Int)=some (.inr b))(b0:List UInt8)(h0:b0.length≤500000000):
  Jk (fun v=>f v.1 v.2) (Br b0,0)=some (Br (b0++((l.map (Bf w)).map (· ++[10])).flatten)):=by
 have key:=JC (fun v=>f v.1 v.2) (fun i=>(Br (b0++(((l.take i).map (Bf w)).map (· ++[10])).flatten),(i:Int))) l.length (Br (b0++((l.map (Bf w)).map (· ++[10])).flatten)) ?_ ?_
 ·simpa using key
 ·intro i hi
  have hl:=h.len
  have hlen:=Oz (L:=(l.take i).map (Bf w)) (fun x hx=>by
   obtain⟨y,hy,rfl⟩:=List.mem_map.1 hx
   exact GA hw (h.row y (List.mem_of_mem_take hy)))
  rw [List.length_map,List.length_take]at hlen
  have hsz:(Br (b0++(((l.take i).map (Bf w)).map (· ++[10])).flatten)).size≤1000000000:=by
   rw [BN,List.length_append];omega
  simp only
  rw [hf _ i hi hsz,List.take_succ_eq_append_getElem hi,List.map_append,List.map_append,List.flatten_append,Cm _ _ hi,Ic,List.append_assoc]
  congr 4
  simp
 ·simp only
  rw [List.take_length,he]
theorem xC{a d:Int}{ns es:List (List Int)}(ha:0≤a∧a≤8)(hd:0≤d∧d≤4)(hn:CfgOk ns)(he:CfgOk es):Lr a d ns es=some (Br (M5 a d ns es)):=by
 unfold Lr
 have eP:({data:= #[112,114,111,98,108,101,109]}:ByteArray)=Br F5:=rfl
 have Hd:({data:= #[10]}:ByteArray)=Br [10]:=rfl
 have hl0:=GA (w:=F5) (x:=[a,d]) (by decide) ⟨ZQ ha hd,by simp⟩
 have hn0:=hn.len
 have he0:=he.len
 rw [eP,ZG F5 [a,d] (ZQ ha hd) (by decide),Option.bind_some,Hd,BN,BN,Cn (by simp;omega),Ic]
 have stp: ∀(w x:List UInt8) (b:ByteArray),x.length≤119→b.size≤1000000000→(Br x).size+(Br [10]).size<1099511627776∧b.size+(Br x++Br [10]).size<1099511627776:=fun w x b h1 h2=>by
  rw [Ic,BN,BN,BN]
  simp only [List.length_append,List.length_cons,List.length_nil]
  omega
 have k0:Iu a d ns es (Br (Bf F5 [a,d]++[10]),0)=some (Br ((Bf F5 [a,d]++[10])++((ns.map (Bf F9)).map (· ++[10])).flatten)):=by
  unfold Iu
  refine jV (fun b t=>FY a d ns es b t) F9 (by decide) ns hn (fun b i hi hb=> ?_) (fun b=> ?_) _ (by rw [List.length_append];simp;omega)
  ·have hr:mG (ns.getD i default)∧(ns.getD i default).length≤8:=by rw [Cm _ _ hi];exact hn.at hi
   have hx:=stp F9 (Bf F9 (ns.getD i default)) b (GA (by decide) hr) hb
   have eN:({data:= #[110,111,100,101]}:ByteArray)=Br F9:=rfl
   simp only [FY,Int.toNat_natCast]
   rw [if_pos (EJ hi),Cn (by omega),eN,ZG F9 _ hr.1 (by decide),Option.bind_some,Hd,Cn hx.1,Cn hx.2,PV i (by omega),Ic]
  ·simp only [FY]
   rw [if_neg (Bq _)]
 have hflat:=Oz (L:=ns.map (Bf F9)) (fun x hx=>by
  obtain⟨y,hy,rfl⟩:=List.mem_map.1 hx
  exact GA (by decide) (hn.row y hy))
 rw [List.length_map]at hflat
 rw [k0,Option.bind_some]
 have k1:Iw es (Br ((Bf F5 [a,d]++[10])++((ns.map (Bf F9)).map (· ++[10])).flatten),0)=some (Br (((Bf F5 [a,d]++[10])++((ns.map (Bf F9)).map (· ++[10])).flatten)++((es.map (Bf GV)).map (· ++[10])).flatten)):=by
  unfold Iw
  refine jV (fun b t=>FZ es b t) GV (by decide) es he (fun b i hi hb=> ?_) (fun b=> ?_) _ (by rw [List.length_append,List.length_append];simp only [List.length_cons,List.length_nil];omega)
  ·have hr:mG (es.getD i default)∧(es.getD i default).length≤8:=by rw [Cm _ _ hi];exact he.at hi
   have hx:=stp GV (Bf GV (es.getD i default)) b (GA (by decide) hr) hb
   have eN:({data:= #[101,100,103,101]}:ByteArray)=Br GV:=rfl
   simp only [FZ,Int.toNat_natCast]
   rw [if_pos (EJ hi),Cn (by omega),eN,ZG GV _ hr.1 (by decide),Option.bind_some,Hd,Cn hx.1,Cn hx.2,PV i (by omega),Ic]
  ·simp only [FZ]
   rw [if_neg (Bq _)]
 rw [k1,Option.bind_some]
 congr 2
 unfold M5 Cg
 simp [List.map_append,List.flatten_append,List.append_assoc]
end Go.Proofs.YtaogbcdlpgfplaaDoor
