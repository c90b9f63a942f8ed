/- slices.CompactFunc of lists of numbers by slices.Equal: the machine's side. Conditions: the list is no longer than a machine holds. -/
import Derived.WalkKit
import Derived.Deep.LoopGhost
import Derived.Deep.Draws
import Derived.Deep.QuietTactic
import Derived.BigQuiet
import Derived.Sort.WalkB12
import Derived.Shelf.RegionOpenPlain
import Derived.Shelf.Small.Wraps
import Derived.Shelf.SlSortCmp.NoneTotal
import Derived.Lib.SliceRun
import Derived.Test.YtjhjkfoabhplfaaGreatProg
import Derived.Test.YtjhjkfoabhplfaaGreatL6
namespace Go.Proofs
set_option linter.unusedVariables false
open Go.Shelf Go.RowKit Go.Lib Go.Sort
open Dv (keptL Cinv)
set_option maxHeartbeats 2000000 in
set_option maxRecDepth 100000 in
theorem ce.equal_n(n:Nat)(A1 A2:Option Addr)(c1 c2:Nat)(f1 f2:Nat→Int)(w:World)(hbig:n≤9223372036854775807)
    (h1: ∀k,k<n→ ∃b o,A1=some ⟨b,o,none⟩∧w.cell? ⟨b,o+k,none⟩=some (.int .i64 (f1 k)))
    (h2: ∀k,k<n→ ∃b o,A2=some ⟨b,o,none⟩∧w.cell? ⟨b,o+k,none⟩=some (.int .i64 (f2 k))):
    Calls Tryz.prog 104 #[.slice A1 n c1,.slice A2 n c2] w fun e w'=> ∃t:Bool,e= .returned (.bool t)∧(t=true↔ ∀j,j<n→f1 j=f2 j)∧ ∃m,w'=w.drewN m:=by
  go_enter Tryz.func104,Tryz.ntmps104
  go_wp2
  go_loopg [13] n (fun g s13 wr=> ∃k q:Nat,k≤n∧n-k≤g∧s13= .int .i64 k∧wr=w.drewN q∧Aside (∀j,j<k→f1 j=f2 j))
  case atStart=>exact⟨0,0,Nat.zero_le _,by omega,rfl,rfl,fun j hj=>absurd hj (Nat.not_lt_zero _)⟩
  case round=>
    obtain⟨k,q,hk,hg,rfl,rfl,A⟩:=hrel;by_cases hlt:k<n
    · obtain⟨b1,o1,e1,g1⟩:=h1 k hlt
      subst e1;obtain⟨b2,o2,e2,g2⟩:=h2 k hlt;subst e2;clear h1 h2;generalize hxk:f1 k=x at g1;generalize hyk:f2 k=y at g2;have B:Aside (f1 k=x∧f2 k=y):=⟨hxk,hyk⟩;clear hxk hyk;by_cases hxy:x=y
      · subst hxy
        go_wp2_with fail
        go_region
        go_wp2
        go_roundg (n-(k+1))
        case measure=>omega
        case rel=>
          refine⟨k+1,q+1,by omega,by omega,by go_num,rfl,(show Aside _ from fun j hj=> ?_)⟩
          by_cases e:j=k
          · subst e
            rw [B.out.1,B.out.2]
          · exact A.out j (by omega)
      · go_wp2_with fail
        go_region
        go_wp2
        go_ret
        exact⟨false,rfl,⟨fun h=>absurd h (by decide),fun h=>absurd (by have:=h k hlt;rwa [B.out.1,B.out.2]at this) hxy⟩,q+1,rfl⟩
    · clear h1 h2
      have:k=n:=by omega
      subst this
      go_wp2
      go_ret
      exact⟨true,rfl,⟨fun _=>A.out,fun _=>rfl⟩,q,rfl⟩
set_option maxHeartbeats 2000000 in
set_option maxRecDepth 100000 in
theorem ce.equal_ne(n m:Nat)(A1 A2:Option Addr)(c1 c2:Nat)(w:World)(hne: ¬n=m):Calls Tryz.prog 104 #[.slice A1 n c1,.slice A2 m c2] w fun e w'=>e= .returned (.bool false)∧w'=w:=by
  have hz: ¬(n:Int)=(m:Int):=by omega
  go_enter Tryz.func104,Tryz.ntmps104
  go_wp2
  go_ret
  exact⟨rfl,rfl⟩
theorem ce.equal(A1 A2:Option Addr)(c1 c2:Nat)(xs ys:List Int)(w:World)(hb1:xs.length≤9223372036854775807)(hb2:ys.length≤9223372036854775807)
    (h1: ∀k,k<xs.length→ ∃b o,A1=some ⟨b,o,none⟩∧w.cell? ⟨b,o+k,none⟩=some (.int .i64 xs[k]!))
    (h2: ∀k,k<ys.length→ ∃b o,A2=some ⟨b,o,none⟩∧w.cell? ⟨b,o+k,none⟩=some (.int .i64 ys[k]!)):
    Calls Tryz.prog 104 #[.slice A1 xs.length c1,.slice A2 ys.length c2] w fun e w'=>e= .returned (.bool (decide (xs=ys)))∧ ∃m,w'=w.drewN m:=by
  by_cases hl:xs.length=ys.length
  · rw [←hl]
    refine(ce.equal_n xs.length A1 A2 c1 c2 (fun k=>xs[k]!) (fun k=>ys[k]!) w hb1 h1 (fun k hk=>h2 k (by omega))).mono fun e w' ⟨t,h3,h4,h5⟩=>⟨?_,h5⟩
    rw [h3]
    congr 2
    by_cases hxy:xs=ys
    · rw [decide_eq_true hxy];exact h4.2 fun j _=>by rw [hxy]
    · rw [decide_eq_false hxy]
      cases t with
      |false=>rfl
      |true=>
        refine absurd ?_ hxy;apply List.ext_getElem hl
        intro i k1 k2;have:=h4.1 rfl i k1
        simpa [getElem!_pos xs i k1,getElem!_pos ys i k2] using this
  · refine(ce.equal_ne xs.length ys.length A1 A2 c1 c2 w hl).mono fun e w' ⟨h3,h4⟩=>⟨?_,0,h4⟩
    rw [h3,decide_eq_false (fun h=>hl (by rw [h]))]
theorem ce.enters: ∀args w,(callFunc 104 args).run Tryz.prog w= .ok (.enter 104 args) w:=enters_of Tryz.func104 (by kernel_rfl) rfl
theorem cf.drewN_put(enc:Nat→Value)(w:World)(q m blk off:Nat)(dk:Array Nat):(putRow enc (Sort.ahead w q) blk off dk).drewN m=putRow enc (Sort.ahead w (q+m)) blk off dk:=by
  show Sort.ahead (putRow enc (Sort.ahead w q) blk off dk) m=_
  rw [putRow_ahead enc w q,ahead_ahead,←putRow_ahead]
theorem cf.store{enc:Nat→Value}{w wr:World}{q blk off:Nat}{dk:Array Nat}{i x:Nat}{v:Value}(hwr:wr=putRow enc (Sort.ahead w q) blk off dk)(hv:enc x=v)(hi:i<dk.size)(m:Nat):
    (wr.drewN m).setCell ⟨blk,off+i,none⟩ v=putRow enc (Sort.ahead w (q+m)) blk off (dk.setIfInBounds i x):=by
  subst hwr hv;rw [cf.drewN_put,putRow_set enc _ blk off dk i x hi]
set_option maxHeartbeats 4000000 in
set_option maxRecDepth 1000000 in
theorem cf.compact(n:Nat)(enc:Nat→Value)(kp:Nat→Bool)(blk off cap:Nat)(w:World)(hsl: ∀x,∃a l c,enc x= .slice a l c)(hz:enc n= .slice none 0 0)(hk0:kp 0=true)
    (hq: ∀(q:Nat) (dk:Array Nat) (i:Nat),dk.size=n→0<i→i<n→Calls Tryz.prog 104 #[enc i,enc (i-1)] (putRow enc (Sort.ahead w q) blk off dk) fun x w'=>x= .returned (.bool (!kp i))∧ ∃m,w'=putRow enc (Sort.ahead w (q+m)) blk off dk)
    (hH:Holds enc w blk off (Array.range n))(hpos:0<n)(hcap:n≤cap)(hsz:n≤9223372036854775807):
    Calls Tryz.prog 103 #[.slice (some ⟨blk,off,none⟩) n cap,.func (.func 104) #[] #[]] w fun x w'=>x= .returned (.slice (some ⟨blk,off,none⟩) (keptL kp n).length cap)∧ ∃q,w'=putRow enc (Sort.ahead w q) blk off (keptL kp n++List.replicate (n-(keptL kp n).length) n).toArray:=by
  have eg:=ce.enters;have hself: ∀q,putRow enc (Sort.ahead w q) blk off (Array.range n)=w.drewN q:=fun q=>putRow_self enc (Sort.ahead w q) blk off _ (holds_ahead enc w q blk off _ hH)
  have same: ∀q,(∀j,j<n→kp j=true)→(keptL kp n).length=n∧w.drewN q=putRow enc (Sort.ahead w q) blk off (keptL kp n++List.replicate (n-(keptL kp n).length) n).toArray:=by
    intro q hall;rw [Dv.keptL_all hall]
    refine⟨by simp, ?_⟩
    simp only [List.length_range,Nat.sub_self,List.replicate_zero,List.append_nil];rw [show(List.range n).toArray=Array.range n by simp]
    exact(hself q).symm
  have HS:Aside (∀q,(∀j,j<n→kp j=true)→(keptL kp n).length=n∧w.drewN q=putRow enc (Sort.ahead w q) blk off (keptL kp n++List.replicate (n-(keptL kp n).length) n).toArray):=same;have HF:Aside (∀q,putRow enc (Sort.ahead w q) blk off (Array.range n)=w.drewN q):=hself;have HQ:Aside (∀(q:Nat) (dk:Array Nat) (i:Nat),dk.size=n→0<i→i<n→Calls Tryz.prog 104 #[enc i,enc (i-1)] (putRow enc (Sort.ahead w q) blk off dk) fun x w'=>x= .returned (.bool (!kp i))∧ ∃m,w'=putRow enc (Sort.ahead w (q+m)) blk off dk):=hq;have HH:Aside (Holds enc w blk off (Array.range n)):=hH;have HL:Aside (∀x,∃a l c,enc x= .slice a l c):=hsl;have HZ:Aside (enc n= .slice none 0 0∧kp 0=true):=⟨hz,hk0⟩
  have z0: ∀j,j<1→kp j=true:=fun j hj=>by
    have e:j=0:=by omega
    rw [e];exact hk0
  have Z0:Aside (∀j,j<1→kp j=true):=z0;clear same hself hq hH hsl hz hk0 z0;by_cases h2:n<2
  · go_enter Tryz.func103,Tryz.ntmps103
    go_wp2
    go_ret
    obtain⟨e1,e2⟩:=HS.out 0 (fun j hj=>Z0.out j (by omega))
    exact⟨by rw [e1];rfl,0,e2⟩
  · go_enter Tryz.func103,Tryz.ntmps103
    go_wp2
    go_loopg [5] n (fun g s5 wr=> ∃k q:Nat,1≤k∧k≤n∧n-k≤g∧s5= .int .i64 k∧wr=w.drewN q∧Aside (∀j,j<k→kp j=true))
    case atStart=>exact⟨1,0,Nat.le_refl _,by omega,by omega,rfl,rfl,Z0.out⟩
    case round=>
      obtain⟨k,q,hk1,hk,hg,rfl,rfl,A⟩:=hrel;by_cases hlt:k<n
      · obtain⟨f1,_⟩:=HH.out k (by simpa using hlt)
        obtain⟨f0,_⟩:=HH.out (k-1) (by simp;omega)
        rw [Dv.range_at n k hlt]at f1;rw [Dv.range_at n (k-1) (by omega)]at f0
        have hc:=HQ.out q (Array.range n) k (by simp) (by omega) hlt
        rw [HF.out q]at hc
        have hc2: ∀m,Calls Tryz.prog 104 #[enc k,enc (k-1)] (w.drewN (q+m)) fun x w'=>x= .returned (.bool (!kp k))∧ ∃m',w'=w.drewN (q+m'):=fun m=>by
          have:=HQ.out (q+m) (Array.range n) k (by simp) (by omega) hlt
          rw [HF.out (q+m)]at this;refine this.mono fun e w' ⟨h3,m',h4⟩=>⟨h3,m+m', ?_⟩;rw [h4,HF.out,Nat.add_assoc]
        clear hc;obtain⟨a1,l1,c1,e1⟩:=HL.out k;obtain⟨a0,l0,c0,e0⟩:=HL.out (k-1);rw [e1]at f1 hc2;rw [e0]at f0 hc2;clear e1 e0;have ek:IntKind.i64.wrap ((k:Int)-1)=((k-1:Nat):Int):=by rw [IntKind.wrap_i64];omega
        obtain⟨j,hj⟩: ∃j,j=k-1:=⟨_,rfl⟩;rw [←hj]at ek f0;have hjn:j<n:=by omega
        clear hj
        cases hkp:kp k with
        |false=>
          rw [hkp]at hc2;have K:Aside (kp k=false):=hkp;clear hkp
          go_wp2_with fail
          go_quiet (first|(go_at_call 104;exact hc2 _))
          clear f0 f1 hc2 ek hjn
          go_wp2
          go_loopg [5,7] n (fun g s5 s7 wr=> ∃(kk k2 q2:Nat) (dk:Array Nat),s5= .int .i64 kk∧s7= .int .i64 k2∧1≤k2∧k+k2≤n∧n-(k+k2)≤g∧Aside (wr=putRow enc (Sort.ahead w q2) blk off dk)∧Aside (Cinv kp n (k+k2) kk dk))
          case atStart=>exact⟨k,1,q+nq,Array.range n,rfl,rfl,Nat.le_refl _,by omega,by omega,(show Aside _ from(HF.out _).symm),(show Aside _ from Cinv.start A.out K.out hlt)⟩
          case round=>
            obtain⟨kk,k2,q2,dk,rfl,rfl,h1,hle,hg2,W2,I2⟩:=hrel;have hkk:=I2.out.lt;by_cases hlt2:k+k2<n
            · have hds:=I2.out.size
              have hHk:Holds enc wr blk off dk:=by rw [W2.out];exact holds_putRow enc _ blk off (Array.range n) dk (holds_ahead enc w q2 blk off _ HH.out) (by rw [hds];simp)
              obtain⟨cm,_⟩:=hHk (k+k2) (by omega)
              obtain⟨cp,_⟩:=hHk (k+k2-1) (by omega)
              obtain⟨ck,fk⟩:=hHk kk (by omega)
              rw [I2.out.high (k+k2) (by omega) hlt2,show off+(k+k2)=off+k+k2 by omega]at cm
              rw [I2.out.high (k+k2-1) (by omega) (by omega),show off+(k+k2-1)=off+k+(k2-1) by omega]at cp
              have hc2: ∀m,Calls Tryz.prog 104 #[enc (k+k2),enc (k+k2-1)] (wr.drewN m) fun x w'=>x= .returned (.bool (!kp (k+k2)))∧ ∃m',w'=wr.drewN m':=fun m=>by
                have:=HQ.out (q2+m) dk (k+k2) hds (by omega) hlt2
                rw [W2.out,cf.drewN_put];refine this.mono fun e w' ⟨h3,m',h4⟩=>⟨h3,m+m', ?_⟩;rw [h4,cf.drewN_put,Nat.add_assoc]
              clear hHk hds;generalize enc dk[kk]! =old at ck;obtain⟨a1,l1,c1,e1⟩:=HL.out (k+k2);obtain⟨a0,l0,c0,e0⟩:=HL.out (k+k2-1);rw [e1]at cm hc2;rw [e0]at cp hc2;have E1:Aside (enc (k+k2)= .slice a1 l1 c1):=e1;clear e1 e0;have ek:IntKind.i64.wrap ((k2:Int)-1)=((k2-1:Nat):Int):=by rw [IntKind.wrap_i64];omega
              obtain⟨j,hj⟩: ∃j,j=k2-1:=⟨_,rfl⟩;rw [←hj]at ek cp;have hjn:j<n-k:=by omega
              have hk2n:k2<n-k:=by omega
              have hkkn:kk<n:=by omega
              clear hj
              cases hkp:kp (k+k2)with
              |false=>
                rw [hkp]at hc2;have K2:Aside (kp (k+k2)=false):=hkp;clear hkp
                go_wp2_with fail
                go_quiet (first|(go_at_call 104;exact hc2 _))
                clear cm cp ck fk hc2 ek hjn hk2n hkkn
                go_wp2
                go_roundg (n-(k+(k2+1)))
                case measure=>omega
                case rel=>exact⟨kk,k2+1,q2+nq,dk,rfl,by go_num,by omega,by omega,Nat.le_refl _,(show Aside _ from(by show _=_;rw [W2.out,cf.drewN_put])),(show Aside _ from I2.out.skip K2.out)⟩
              |true=>
                rw [hkp]at hc2;have K2:Aside (kp (k+k2)=true):=hkp;clear hkp
                go_wp2_with fail
                go_quiet (first|(go_at_call 104;exact hc2 _))
                clear hc2 cp ek hjn
                go_wp2
                go_roundg (n-(k+(k2+1)))
                case measure=>omega
                case rel=>exact⟨kk+1,k2+1,q2+nq,dk.setIfInBounds kk (k+k2),by go_num,by go_num,by omega,by omega,Nat.le_refl _,(show Aside _ from cf.store W2.out E1.out (by have:=I2.out.size;omega) nq),(show Aside _ from I2.out.keep hlt2 K2.out)⟩
            · have hend:k+k2=n:=by omega
              have hds:=I2.out.size;have hHk:Holds enc wr blk off dk:=by rw [W2.out];exact holds_putRow enc _ blk off (Array.range n) dk (holds_ahead enc w q2 blk off _ HH.out) (by rw [hds];simp)
              have hcl: ∀ty,(Builtin.clear_ #[22] ty #[.slice (some ⟨blk,off+kk,none⟩) (n-kk) (cap-kk)]).run Tryz.prog wr= .ok (.tuple #[]) (wr.setCells blk (off+kk) (List.replicate (n-kk) (.slice none 0 0))):=
                fun ty=>Lib.run_clear_slice wr _ 27 ty _ (by kernel_rfl) (fun w=>by kernel_rfl) rfl rfl blk (off+kk) _ _ (by omega) (fun j hj=>by rw [show off+kk+j=off+(kk+j) by omega,(hHk (kk+j) (by omega)).1];rfl) (fun j hj=>by rw [show off+kk+j=off+(kk+j) by omega];exact(hHk (kk+j) (by omega)).2)
              clear hHk hds;have hkn:kk<n:=by omega
              go_wp2
              go_ret
              have hI:=I2.out;rw [hend]at hI;have hl:(List.replicate (n-kk) (Value.slice none 0 0))=(List.replicate (n-kk) n).map enc:=by rw [List.map_replicate,HZ.out.1]
              refine⟨by rw [hI.len];rfl,q2, ?_⟩
              rw [hI.len,←hI.done,←putRow_setCells enc _ blk off _ dk kk (by have:=hI.size;simp;omega),←W2.out,←hl]
        |true=>
          rw [hkp]at hc2;have K:Aside (kp k=true):=hkp;clear hkp
          go_wp2_with fail
          go_quiet (first|(go_at_call 104;exact hc2 _))
          clear f0 f1 hc2 ek hjn
          go_wp2
          go_roundg (n-(k+1))
          case measure=>omega
          case rel=>
            refine⟨k+1,q+nq,by omega,by omega,Nat.le_refl _,by go_num,by simp,(show Aside _ from fun j hj=> ?_)⟩
            by_cases e:j=k
            · subst e;exact K.out
            · exact A.out j (by omega)
      · have:k=n:=by omega
        subst this
        go_wp2
        go_ret
        obtain⟨e1,e2⟩:=HS.out q A.out
        exact⟨by rw [e1];rfl,q,e2⟩
set_option maxHeartbeats 1000000 in
theorem cf.none_(p:Option Addr)(cap:Nat)(fv:Value)(w:World):Calls Tryz.prog 103 #[.slice p 0 cap,fv] w fun x w'=>x= .returned (.slice p 0 cap)∧w'=w:=by
  go_enter Tryz.func103,Tryz.ntmps103
  go_wp2
  go_ret
  exact⟨rfl,rfl⟩
end Go.Proofs
