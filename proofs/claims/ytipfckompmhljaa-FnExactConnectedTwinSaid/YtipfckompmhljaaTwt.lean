/- A connected network is a forest exactly where all its edges are in the tree. Conditions: those in each lemma. -/
import Derived.Test.YtipfckompmhljaaL6
import Derived.Test.YtipfckompmhljaaTwf
namespace Go.Proofs.Ytipfckompmhljaa
open Go Dv
set_option linter.unusedSimpArgs false
set_option linter.unusedVariables false
set_option maxRecDepth 100000
theorem ZE{α:Type}[DecidableEq α]: ∀(l m:List α),l.Nodup→(∀x∈l,x∈m)→l.length≤m.length
 | [],_,_,_=>Nat.zero_le _
 | x::l,m,hn,hs=>by
  obtain⟨h1,h2⟩:=List.nodup_cons.1 hn;have hx:x∈m:=hs x List.mem_cons_self;have:=ZE l (m.erase x) h2 fun y hy=>(List.mem_erase_of_ne (fun(e:y=x)=>h1 (by rw [←e];exact hy))).2 (hs y (List.mem_cons_of_mem _ hy))
  rw [List.length_erase_of_mem hx]at this;have:=List.length_pos_of_mem hx
  simp only [List.length_cons];omega
theorem XI(E:List (List (Int×Int)))(v:Nat): ∀n,(SE E v n).Nodup
 | 0=>List.nodup_nil
 | n+1=>by
  have ih:=XI E v n;unfold SE;split
  ·rw [List.nodup_append]
   refine⟨ih,by simp,fun a ha b hb e=> ?_⟩
   subst e;obtain⟨i,hi,_,rfl⟩:=(TN E v a n).1 ha;simp only [List.mem_singleton,Prod.mk.injEq]at hb;omega
  ·exact ih
theorem RZ(E:List (List (Int×Int))): ∀n,(F9 E n).Nodup
 | 0=>List.nodup_nil
 | n+1=>by
  have ih:=RZ E n;unfold F9;rw [List.nodup_append]
  refine⟨ih,XI E n _,fun a ha b hb e=> ?_⟩
  subst e;obtain⟨v,i,hv,_,_,rfl⟩:=(Jb E a n).1 ha;obtain⟨j,_,_,he⟩:=(TN E n _ _).1 hb;simp only [Prod.mk.injEq]at he;omega
theorem lG{E:List (List (Int×Int))}{ids ins:List Int}(h:Bj E ids ins=true)(hc:Qh E=true)(v:Nat)(hv:v<E.length)(h0:v≠0):
  ∃i w j:Nat,i<(E.getD v default).length∧NN E (BJ E 0) v=(i:Int)∧BA (E.getD v default) i=(w:Int)∧Bc (E.getD v default) i=(j:Int)∧w<E.length∧j<(E.getD w default).length∧
   BA (E.getD w default) j=(v:Int)∧Bc (E.getD w default) j=(i:Int)∧(BJ E 0).getD w default=(BJ E 0).getD v default-1∧0<(BJ E 0).getD v default:=by
 obtain⟨p1,p2,p3,p4⟩:=Dj h;have hF:=Mk h 0 (by omega)
 have ha:=ZC h hc v hv;have hr:=hF.rch v hv ha;generalize hk:(GM (BJ E 0) v).toNat=k at hr;have hkv:(BJ E 0).getD v default=(k:Int):=by unfold GM at hk;omega
 cases k with
 | zero=>cases hr;exact(h0 rfl).elim
 | succ k=>
  have step: ∃u p:Nat,u<E.length∧p<(E.getD u default).length∧BA (E.getD u default) p=(v:Int)∧Rch (Ec E) 0 k u:=by
   generalize hv':v=v' at hr
   cases hr with
   | s hr hy=>
    rename_i u y
    obtain⟨p,hp,hpy⟩:=List.getElem_of_mem hy;have hpl:p<(E.getD u default).length:=by rw [←IQ];exact hp
    have hu:u<E.length:=by
     rcases Nat.lt_or_ge u E.length with c | c
     ·exact c
     ·rw [List.getD_eq_getElem?_getD,List.getElem?_eq_none c]at hpl;exact absurd hpl (by simp [default])
    obtain⟨w,j,e1,_⟩:=p4 u p hu hpl;have ey:y=(w:Int):=by rw [←hpy,Lc E u p hp,e1]
    refine⟨u,p,hu,hpl, ?_,hr⟩
    rw [e1,←ey];rw [ey]at hv' ⊢;omega
  obtain⟨u,p,hu,hp,e1,hru⟩:=step;obtain⟨w,q,f1,f2,hw,hq,f3,f4⟩:=p4 u p hu hp;have hwv:w=v:=by omega
  subst hwv;have hu1:=(hF.all k u hru).2;have hu0:=ZC h hc u hu;have hru':=hF.rch u hu hu0
  have hup:((u:Nat):Int)∈Ec E w:=by
   have hq':q<(Ec E w).length:=by rw [IQ];exact hq
   rw [←f3,←Lc E w q hq'];exact List.getElem_mem hq'
  have hvu:((w:Nat):Int)∈Ec E u:=by
   have hp':p<(Ec E u).length:=by rw [IQ];exact hp
   rw [←e1,←Lc E u p hp'];exact List.getElem_mem hp'
  have hv1:=(hF.all _ _ (Rch.s hru' hvu)).2;rw [Int.toNat_natCast]at hv1;have hu2:(BJ E 0).getD u default=(BJ E 0).getD w default-1:=by unfold GM at hu1 hv1;omega
  have hP:(decide (0<(BJ E 0).getD w default)&&decide ((BJ E 0).getD (BA (E.getD w default) q).toNat default=(BJ E 0).getD w default-1))=true:=by
   rw [f3,Int.toNat_natCast,decide_eq_true (by omega:0<(BJ E 0).getD w default),decide_eq_true hu2];rfl
  have hs:(EC (E.getD w default).length (fun i=>decide (0<(BJ E 0).getD w default)&&decide ((BJ E 0).getD (BA (E.getD w default) i).toNat default=(BJ E 0).getD w default-1))).isSome=true:=by
   rw [OU];exact⟨q,hq,hP⟩
  obtain⟨i,hi⟩:=Option.isSome_iff_exists.1 hs
  have hi1:i<(E.getD w default).length∧(decide (0<(BJ E 0).getD w default)&&decide ((BJ E 0).getD (BA (E.getD w default) i).toNat default=(BJ E 0).getD w default-1))=true:=by
   unfold EC at hi;rw [List.find?_range_eq_some]at hi
   exact⟨List.mem_range.1 hi.2.1,hi.1⟩
  obtain⟨w',j,g1,g2,g3,g4,g5,g6⟩:=p4 w i hv hi1.1
  refine⟨i,w',j,hi1.1,by unfold NN;rw [hi],g1,g2,g3,g4,g5,g6, ?_,by omega⟩
  have:=hi1.2
  rw [Bool.and_eq_true,decide_eq_true_eq,decide_eq_true_eq,g1,Int.toNat_natCast]at this;exact this.2
end Go.Proofs.Ytipfckompmhljaa
