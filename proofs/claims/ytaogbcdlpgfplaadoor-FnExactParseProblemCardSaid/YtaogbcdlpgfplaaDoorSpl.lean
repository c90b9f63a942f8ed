/- Texts cut at one letter. Conditions: those in each lemma. -/
import Derived.Test.YtaogbcdlpgfplaaDoorL6
import Derived.Test.YtaogbcdlpgfplaaDoorTxn
namespace Go.Proofs.YtaogbcdlpgfplaaDoor
open Go Dv
set_option linter.unusedSimpArgs false
set_option linter.unusedVariables false
set_option maxRecDepth 100000
def Da(c:UInt8):List UInt8→List (List UInt8)
 | []=>[[]]
 |x::l=>if x=c then []::Da c l else match Da c l with
  | []=>[[x]]
  |h::t=>(x::h)::t
theorem MQ(c x:UInt8)(l:List UInt8):Da c (x::l)=if x=c then []::Da c l else match Da c l with
  | []=>[[x]]
  |h::t=>(x::h)::t:=rfl
theorem OG(c:UInt8)(l:List UInt8):Da c l≠[]:=by
 cases l with
 |nil=>simp [Da]
 |cons x l=>
  unfold Da
  split
  ·simp
  ·split<;>simp
theorem M6(c:UInt8): ∀l:List UInt8,(Da c l).length=l.count c+1
 | []=>rfl
 |x::l=>by
  have ih:=M6 c l
  unfold Da
  by_cases h:x=c
  ·rw [if_pos h,List.length_cons,ih,h,List.count_cons_self]
  ·rw [if_neg h,List.count_cons_of_ne h]
   cases e:Da c l with
   |nil=>exact absurd e (OG c l)
   |cons a t=>rw [e]at ih;simpa using ih
theorem M7(c:UInt8): ∀(w l:List UInt8),c ∉ w→Da c (w++c::l)=w::Da c l
 | [],l,_=>by simp [Da]
 |x::w,l,h=>by
  have hx: ¬x=c:=fun e=>h (by rw [e];exact List.mem_cons_self)
  rw [List.cons_append]
  rw [MQ,if_neg hx,M7 c w l (fun hm=>h (List.mem_cons_of_mem _ hm))]
theorem KX(c:UInt8): ∀w:List UInt8,c ∉ w→Da c w=[w]
 | [],_=>rfl
 |x::w,h=>by
  have hx: ¬x=c:=fun e=>h (by rw [e];exact List.mem_cons_self)
  rw [MQ,if_neg hx,KX c w (fun hm=>h (List.mem_cons_of_mem _ hm))]
theorem ZH(x y:List UInt8)(r:List (List UInt8))(s:List UInt8):Lib.join (x::y::r) s=x++s++Lib.join (y::r) s:=by
 rw [Lib.join_cons,Lib.join_cons]
 unfold Lib.joinTail
 simp [List.append_assoc]
theorem Tj(c:UInt8): ∀(r:List (List UInt8)) (x:List UInt8),(∀y∈x::r,c ∉ y)→Da c (Lib.join (x::r) [c])=x::r
 | [],x,h=>by rw [Lib.join_one,KX c x (h x List.mem_cons_self)]
 |y::r,x,h=>by
  rw [ZH,List.append_assoc,List.singleton_append,M7 c x _ (h x List.mem_cons_self),Tj c r y (fun z hz=>h z (List.mem_cons_of_mem _ hz))]
theorem Rk(c:UInt8): ∀(l:List UInt8) (w:List UInt8),w∈Da c l→w.length≤l.length
 | [],w,h=>by simp [Da]at h;simp [h]
 |x::l,w,h=>by
  have ih:=Rk c l
  unfold Da at h
  by_cases hx:x=c
  ·rw [if_pos hx]at h
   rcases List.mem_cons.1 h with rfl|h
   ·simp
   ·have:=ih w h;simp;omega
  ·rw [if_neg hx]at h
   cases e:Da c l with
   |nil=>exact absurd e (OG c l)
   |cons a t=>
    rw [e]at h ih
    rcases List.mem_cons.1 h with rfl|h
    ·have:=ih a List.mem_cons_self;simpa using this
    ·have:=ih w (List.mem_cons_of_mem _ h);simp;omega
theorem jQ(c:UInt8)(w l:List UInt8)(h:c ∉ w):Lib.index (w++c::l) [c]=w.length:=by
 rw [Lib.index_one]
 induction w with
 |nil=>simp [Lib.indexByte]
 |cons x w ih=>
  have hx:(x==c)=false:=by rw [beq_eq_false_iff_ne];exact fun e=>h (by rw [e];exact List.mem_cons_self)
  rw [List.cons_append]
  unfold Lib.indexByte
  rw [hx,ih (fun hm=>h (List.mem_cons_of_mem _ hm))]
  have:((w.length:Int)== -1)=false:=by rw [beq_eq_false_iff_ne];omega
  simp [this]
theorem Tm(c:UInt8): ∀l:List UInt8,c∈l→ ∃w r,l=w++c::r∧c ∉ w
 | [],h=>by cases h
 |x::l,h=>by
  by_cases hx:x=c
  ·exact⟨[],l,by rw [hx];rfl,by simp⟩
  ·rcases List.mem_cons.1 h with e|h
   ·exact absurd e.symm hx
   ·obtain⟨w,r,e,hw⟩:=Tm c l h
    exact⟨x::w,r,by rw [e];rfl,fun hm=>by rcases List.mem_cons.1 hm with e|hm;exact hx e.symm;exact hw hm⟩
theorem Rl(c:UInt8): ∀(n:Nat) (l:List UInt8),l.count c=n→Lib.splitK [c] 0 n l=Da c l
 |0,l,h=>by
  have:c ∉ l:=fun hm=>by have:=List.count_pos_iff.2 hm;omega
  rw [KX c l this];rfl
 |n+1,l,h=>by
  obtain⟨w,r,rfl,hw⟩:=Tm c l (List.count_pos_iff.1 (by omega))
  have hr:r.count c=n:=by
   rw [List.count_append,List.count_eq_zero.2 hw,List.count_cons_self]at h;omega
  unfold Lib.splitK
  rw [jQ c w r hw,M7 c w r hw]
  have:((w.length:Int)== -1)=false:=by rw [beq_eq_false_iff_ne];omega
  rw [this]
  simp only [Bool.false_eq_true,if_false,Int.toNat_natCast,Nat.add_zero,List.length_cons,List.length_nil]
  rw [List.take_left,←Rl c n r hr]
  congr 1
  rw [show w++c::r=(w++[c])++r by simp,List.drop_left' (by simp)]
theorem Rm(s:ByteArray)(c:UInt8):Bl s (Br [c])=(Da c (BL s)).map Br:=by
 have h:=Lib.splitB_data (Br [c]) 0 (Lib.countB s (Br [c])) s
 have hc:Lib.countB s (Br [c])=(BL s).count c:=by
  show Lib.count _ [c]=_
  rw [Lib.count_one]
 have h2:(Bl s (Br [c])).map BL=Da c (BL s):=by
  unfold Bl
  refine h.trans ?_
  rw [hc]
  exact Rl c _ (BL s) rfl
 rw [←h2,List.map_map]
 have:Br∘BL=id:=funext fun b=>Zr b
 rw [this,List.map_id]
end Go.Proofs.YtaogbcdlpgfplaaDoor
