/- slices.SortFunc of lists of numbers by slices.Compare: the machine's side. Conditions: the list is no longer than a machine holds. -/
import Derived.Shelf.SlSortCmp.NoneTotal
import Derived.Shelf.Small.Wraps
import Derived.Test.YtjhjkfoabhplfaaGreatProg
import Derived.Test.YtjhjkfoabhplfaaGreatL6
namespace Go.Proofs
open Go.Shelf
def Tryz.lays122_ren:Go.Shelf.Ren:=⟨fun|122=>96|215=>111|n=>n,fun|3=>3|4=>4|n=>n,fun|n=>n⟩
theorem Tryz.lays122:Go.Proofs.Lays.n122 Tryz.prog Tryz.lays122_ren:={
  mixed:=by kernel_rfl
  f122:=Tryz.func96.trans (congrArg some (by kernel_rfl))
  f215:=Tryz.func111.trans (congrArg some (by kernel_rfl))
  t3:=Tryz.underlying3
  a3:=Tryz.isAgg3
  z3:=Tryz.sizeOf3
  v3:=Tryz.zeroValue3
  t4:=Tryz.underlying4
  a4:=Tryz.isAgg4
  z4:=Tryz.sizeOf4
  v4:=Tryz.zeroValue4}
open Go.RowKit in
theorem Tryz.cmp_Compare_int(x y:Int)(w:World):
    Calls Tryz.prog 96 #[.int .i64 x,.int .i64 y] w fun e w'=>e= .returned (.int .i64 (Lib.compareInt x y))∧w'=w:=Any.cmp_Compare_int Tryz.lays122 x y w
def Tryz.laysSlF6_f102_ren:Go.Shelf.Ren:=⟨fun|6=>102|15=>100|14=>123|28=>121|29=>122|20=>132|21=>133|22=>134|23=>135|24=>136|25=>137|26=>138|27=>139|46=>143|47=>128|48=>129|49=>144|50=>145|57=>147|n=>n,fun|22=>22|24=>27|25=>62|3=>3|39=>91|0=>0|53=>106|55=>108|4=>4|46=>101|45=>100|50=>72|5=>5|9=>9|66=>115|70=>119|76=>126|77=>127|n=>n,fun|n=>n⟩
theorem Tryz.laysSlF6_f102:Go.Proofs.SlLaysF.n6 Tryz.prog Tryz.laysSlF6_f102_ren:={
  mixed:=by kernel_rfl
  f6:=⟨Tryz.f102.name,by decide,Tryz.func102.trans (congrArg some (by kernel_rfl))⟩
  f14:=⟨Tryz.f123.name,by decide,Tryz.func123.trans (congrArg some (by kernel_rfl))⟩
  f15:=Tryz.func100.trans (congrArg some (by kernel_rfl))
  f20:=⟨Tryz.f132.name,by decide,Tryz.func132.trans (congrArg some (by kernel_rfl))⟩
  f21:=⟨Tryz.f133.name,by decide,Tryz.func133.trans (congrArg some (by kernel_rfl))⟩
  f22:=⟨Tryz.f134.name,by decide,Tryz.func134.trans (congrArg some (by kernel_rfl))⟩
  f23:=⟨Tryz.f135.name,by decide,Tryz.func135.trans (congrArg some (by kernel_rfl))⟩
  f24:=⟨Tryz.f136.name,by decide,Tryz.func136.trans (congrArg some (by kernel_rfl))⟩
  f25:=⟨Tryz.f137.name,by decide,Tryz.func137.trans (congrArg some (by kernel_rfl))⟩
  f26:=⟨Tryz.f138.name,by decide,Tryz.func138.trans (congrArg some (by kernel_rfl))⟩
  f27:=⟨Tryz.f139.name,by decide,Tryz.func139.trans (congrArg some (by kernel_rfl))⟩
  f28:=Tryz.func121.trans (congrArg some (by kernel_rfl))
  f29:=Tryz.func122.trans (congrArg some (by kernel_rfl))
  f46:=⟨Tryz.f143.name,by decide,Tryz.func143.trans (congrArg some (by kernel_rfl))⟩
  f47:=Tryz.func128.trans (congrArg some (by kernel_rfl))
  f48:=Tryz.func129.trans (congrArg some (by kernel_rfl))
  f49:=⟨Tryz.f144.name,by decide,Tryz.func144.trans (congrArg some (by kernel_rfl))⟩
  f50:=⟨Tryz.f145.name,by decide,Tryz.func145.trans (congrArg some (by kernel_rfl))⟩
  f57:=⟨Tryz.f147.name,by decide,Tryz.func147.trans (congrArg some (by kernel_rfl))⟩
  t0:=Tryz.underlying0
  a0:=Tryz.isAgg0
  z0:=Tryz.sizeOf0
  v0:=Tryz.zeroValue0
  t3:=Tryz.underlying3
  a3:=Tryz.isAgg3
  z3:=Tryz.sizeOf3
  v3:=Tryz.zeroValue3
  t4:=Tryz.underlying4
  a4:=Tryz.isAgg4
  z4:=Tryz.sizeOf4
  v4:=Tryz.zeroValue4
  t5:=Tryz.underlying5
  a5:=Tryz.isAgg5
  z5:=Tryz.sizeOf5
  v5:=Tryz.zeroValue5
  t9:=Tryz.underlying9
  a9:=Tryz.isAgg9
  z9:=Tryz.sizeOf9
  v9:=Tryz.zeroValue9
  t22:=Tryz.underlying22
  a22:=Tryz.isAgg22
  z22:=Tryz.sizeOf22
  v22:=Tryz.zeroValue22
  a24:=Tryz.isAgg27
  z24:=Tryz.sizeOf27
  t25:=Tryz.underlying62
  a25:=Tryz.isAgg62
  z25:=Tryz.sizeOf62
  v25:=Tryz.zeroValue62
  t39:=Tryz.underlying91
  a39:=Tryz.isAgg91
  z39:=Tryz.sizeOf91
  v39:=Tryz.zeroValue91
  t45:=Tryz.underlying100
  a45:=Tryz.isAgg100
  z45:=Tryz.sizeOf100
  v45:=Tryz.zeroValue100
  t46:=Tryz.underlying101
  a46:=Tryz.isAgg101
  z46:=Tryz.sizeOf101
  v46:=Tryz.zeroValue101
  t50:=Tryz.underlying72
  a50:=Tryz.isAgg72
  z50:=Tryz.sizeOf72
  v50:=Tryz.zeroValue72
  t53:=Tryz.underlying106
  a53:=Tryz.isAgg106
  z53:=Tryz.sizeOf106
  v53:=Tryz.zeroValue106
  t55:=Tryz.underlying108
  a55:=Tryz.isAgg108
  z55:=Tryz.sizeOf108
  v55:=Tryz.zeroValue108
  t66:=Tryz.underlying115
  a66:=Tryz.isAgg115
  z66:=Tryz.sizeOf115
  v66:=Tryz.zeroValue115
  t70:=Tryz.underlying119
  a70:=Tryz.isAgg119
  z70:=Tryz.sizeOf119
  v70:=Tryz.zeroValue119
  t76:=Tryz.underlying126
  a76:=Tryz.isAgg126
  z76:=Tryz.sizeOf126
  v76:=Tryz.zeroValue126
  t77:=Tryz.underlying127
  a77:=Tryz.isAgg127
  z77:=Tryz.sizeOf127
  v77:=Tryz.zeroValue127}
open Go.RowKit Go.Lib Go.Sort in
theorem Tryz.slices_SortFunc{α:Type}[Inhabited α](enc:α→Value)(h1:OneCell enc)(cf:α→α→Int)(hO:SWO (ltOf cf))(g:Nat)(cb:Array Value)(blk off cap:Nat)(d:Array α)(w:World)(eg: ∀args w,(callFunc g args).run Tryz.prog w= .ok (.enter g args) w)(hcmp:CmpLays1 Tryz.prog g cb enc cf blk off d.size w)(hH:Holds enc w blk off d)(hblk:blk<w.heap.size)(hsz:d.size<4611686018427387904):
    Calls Tryz.prog 102 #[.slice (some ⟨blk,off,none⟩) d.size cap,.func (.func g) #[] cb] w fun e w'=>
      e= .returned (.tuple #[])∧ ∃d' n os,PermIn 0 d.size d d'∧SortedIn (ltOf cf) 0 d.size d'∧w'=sortWorld enc w blk off n d' os:=Any.slices_SortFunc Tryz.laysSlF6_f102 enc h1 cf hO g cb blk off cap d w eg hcmp hH hblk hsz
def Tryz.laysSlF06_f102_ren:Go.Shelf.Ren:=⟨fun|6=>102|15=>100|14=>123|28=>121|29=>122|20=>132|21=>133|22=>134|23=>135|24=>136|25=>137|26=>138|27=>139|46=>143|47=>128|48=>129|49=>144|50=>145|57=>147|n=>n,fun|22=>22|24=>27|25=>62|3=>3|39=>91|0=>0|53=>106|55=>108|4=>4|46=>101|45=>100|50=>72|5=>5|9=>9|66=>115|70=>119|76=>126|77=>127|n=>n,fun|n=>n⟩
theorem Tryz.laysSlF06_f102:Go.Proofs.SlLaysF0.n6 Tryz.prog Tryz.laysSlF06_f102_ren:={
  mixed:=by kernel_rfl
  f6:=⟨Tryz.f102.name,by decide,Tryz.func102.trans (congrArg some (by kernel_rfl))⟩
  f14:=⟨Tryz.f123.name,by decide,Tryz.func123.trans (congrArg some (by kernel_rfl))⟩
  f15:=Tryz.func100.trans (congrArg some (by kernel_rfl))
  f20:=⟨Tryz.f132.name,by decide,Tryz.func132.trans (congrArg some (by kernel_rfl))⟩
  f21:=⟨Tryz.f133.name,by decide,Tryz.func133.trans (congrArg some (by kernel_rfl))⟩
  f22:=⟨Tryz.f134.name,by decide,Tryz.func134.trans (congrArg some (by kernel_rfl))⟩
  f23:=⟨Tryz.f135.name,by decide,Tryz.func135.trans (congrArg some (by kernel_rfl))⟩
  f24:=⟨Tryz.f136.name,by decide,Tryz.func136.trans (congrArg some (by kernel_rfl))⟩
  f25:=⟨Tryz.f137.name,by decide,Tryz.func137.trans (congrArg some (by kernel_rfl))⟩
  f26:=⟨Tryz.f138.name,by decide,Tryz.func138.trans (congrArg some (by kernel_rfl))⟩
  f27:=⟨Tryz.f139.name,by decide,Tryz.func139.trans (congrArg some (by kernel_rfl))⟩
  f28:=Tryz.func121.trans (congrArg some (by kernel_rfl))
  f29:=Tryz.func122.trans (congrArg some (by kernel_rfl))
  f46:=⟨Tryz.f143.name,by decide,Tryz.func143.trans (congrArg some (by kernel_rfl))⟩
  f47:=Tryz.func128.trans (congrArg some (by kernel_rfl))
  f48:=Tryz.func129.trans (congrArg some (by kernel_rfl))
  f49:=⟨Tryz.f144.name,by decide,Tryz.func144.trans (congrArg some (by kernel_rfl))⟩
  f50:=⟨Tryz.f145.name,by decide,Tryz.func145.trans (congrArg some (by kernel_rfl))⟩
  f57:=⟨Tryz.f147.name,by decide,Tryz.func147.trans (congrArg some (by kernel_rfl))⟩
  t0:=Tryz.underlying0
  a0:=Tryz.isAgg0
  z0:=Tryz.sizeOf0
  v0:=Tryz.zeroValue0
  t3:=Tryz.underlying3
  a3:=Tryz.isAgg3
  z3:=Tryz.sizeOf3
  v3:=Tryz.zeroValue3
  t4:=Tryz.underlying4
  a4:=Tryz.isAgg4
  z4:=Tryz.sizeOf4
  v4:=Tryz.zeroValue4
  t5:=Tryz.underlying5
  a5:=Tryz.isAgg5
  z5:=Tryz.sizeOf5
  v5:=Tryz.zeroValue5
  t9:=Tryz.underlying9
  a9:=Tryz.isAgg9
  z9:=Tryz.sizeOf9
  v9:=Tryz.zeroValue9
  t22:=Tryz.underlying22
  a22:=Tryz.isAgg22
  z22:=Tryz.sizeOf22
  v22:=Tryz.zeroValue22
  t25:=Tryz.underlying62
  a25:=Tryz.isAgg62
  z25:=Tryz.sizeOf62
  v25:=Tryz.zeroValue62
  t39:=Tryz.underlying91
  a39:=Tryz.isAgg91
  z39:=Tryz.sizeOf91
  v39:=Tryz.zeroValue91
  t45:=Tryz.underlying100
  a45:=Tryz.isAgg100
  z45:=Tryz.sizeOf100
  v45:=Tryz.zeroValue100
  t46:=Tryz.underlying101
  a46:=Tryz.isAgg101
  z46:=Tryz.sizeOf101
  v46:=Tryz.zeroValue101
  t50:=Tryz.underlying72
  a50:=Tryz.isAgg72
  z50:=Tryz.sizeOf72
  v50:=Tryz.zeroValue72
  t53:=Tryz.underlying106
  a53:=Tryz.isAgg106
  z53:=Tryz.sizeOf106
  v53:=Tryz.zeroValue106
  t55:=Tryz.underlying108
  a55:=Tryz.isAgg108
  z55:=Tryz.sizeOf108
  v55:=Tryz.zeroValue108
  t66:=Tryz.underlying115
  a66:=Tryz.isAgg115
  z66:=Tryz.sizeOf115
  v66:=Tryz.zeroValue115
  t70:=Tryz.underlying119
  a70:=Tryz.isAgg119
  z70:=Tryz.sizeOf119
  v70:=Tryz.zeroValue119
  t76:=Tryz.underlying126
  a76:=Tryz.isAgg126
  z76:=Tryz.sizeOf126
  v76:=Tryz.zeroValue126
  t77:=Tryz.underlying127
  a77:=Tryz.isAgg127
  z77:=Tryz.sizeOf127
  v77:=Tryz.zeroValue127}
open Go.RowKit Go.Lib Go.Sort in
theorem Tryz.slices_SortFunc_none{α:Type}[Inhabited α](p:Option Addr)(cap:Nat)(fv:Value)(w:World):
    Calls Tryz.prog 102 #[.slice p 0 cap,fv] w fun e w'=>e= .returned (.tuple #[])∧w'=w:=AnyF.slices_SortFunc_none Tryz.laysSlF06_f102 p cap fv w
set_option linter.unusedVariables false
open Go.RowKit Go.Lib Go.Sort
open Dv (cmpL cmpI)
theorem sf.cc(x y:Int)(w:World):Calls Tryz.prog 96 #[.int .i64 x,.int .i64 y] w fun e w'=>e= .returned (.int .i64 (cmpI x y))∧w'=w:=Tryz.cmp_Compare_int x y w
theorem sf.cmp_drop: ∀(k:Nat) (xs ys:List Int),k≤xs.length→k≤ys.length→(∀j,j<k→xs[j]! =ys[j]!)→cmpL xs ys=cmpL (xs.drop k) (ys.drop k)
  |0,_,_,_,_,_=>by simp
  |k+1,[],_,h,_,_=>by simp at h
  |k+1,_::_,[],_,h,_=>by simp at h
  |k+1,x::xs,y::ys,h1,h2,h=>by
    have h0:=h 0 (by omega)
    simp at h0;subst h0;have hc:cmpI x x=0:=by exact(Dv.cmpI_eq _ _).2 rfl
    have ih:=sf.cmp_drop k xs ys (by simpa using h1) (by simpa using h2) (fun j hj=>by have:=h (j+1) (by omega);simpa using this)
    simp only [cmpL,hc,if_true,List.drop_succ_cons];exact ih
theorem sf.drop_at(xs:List Int)(k:Nat)(h:k<xs.length):xs.drop k=xs[k]! ::xs.drop (k+1):=by
  rw [List.drop_eq_getElem_cons h];simp [h]
set_option maxHeartbeats 2000000 in
set_option maxRecDepth 100000 in
theorem sf.compare(A1 A2:Option Addr)(c1 c2:Nat)(xs ys:List Int)(w:World)(hb1:xs.length≤9223372036854775807)(hb2:ys.length≤9223372036854775807)
    (h1: ∀k,k<xs.length→ ∃b o,A1=some ⟨b,o,none⟩∧w.cell? ⟨b,o+k,none⟩=some (.int .i64 xs[k]!))
    (h2: ∀k,k<ys.length→ ∃b o,A2=some ⟨b,o,none⟩∧w.cell? ⟨b,o+k,none⟩=some (.int .i64 ys[k]!)):
    Calls Tryz.prog 64 #[.slice A1 xs.length c1,.slice A2 ys.length c2] w fun e w'=>e= .returned (.int .i64 (cmpL xs ys))∧w'=w:=by
  go_enter Tryz.func64,Tryz.ntmps64
  go_wp2
  go_loopg [11] xs.length (fun g s11 wr=> ∃k:Nat,k≤xs.length∧k≤ys.length∧xs.length-k≤g∧s11= .int .i64 k∧wr=w∧Aside (∀j,j<k→xs[j]! =ys[j]!))
  case atStart=>exact⟨0,Nat.zero_le _,Nat.zero_le _,by omega,rfl,rfl,fun j hj=>absurd hj (Nat.not_lt_zero _)⟩
  case round=>
    obtain⟨k,hk,hk2,hg,rfl,rfl,Q⟩:=hrel;by_cases hlt:k<xs.length
    · obtain⟨b1,o1,e1,g1⟩:=h1 k hlt
      subst e1;by_cases hlt2:k<ys.length
      · obtain⟨b2,o2,e2,g2⟩:=h2 k hlt2
        subst e2;clear h1 h2;have hx:=sf.drop_at xs k hlt;have hy:=sf.drop_at ys k hlt2;generalize hxk:xs[k]! =x at g1 hx;generalize hyk:ys[k]! =y at g2 hy;have B:Aside (xs[k]! =x∧ys[k]! =y∧xs.drop k=x::xs.drop (k+1)∧ys.drop k=y::ys.drop (k+1)):=⟨hxk,hyk,hx,hy⟩;clear hxk hyk hx hy;by_cases hxy:y=x
        · subst hxy
          have hc:cmpI y y=0:=by exact(Dv.cmpI_eq _ _).2 rfl
          go_wp2_with (go_at_call 96;refine(sf.cc _ _ _).mono ?_;rintro e w' ⟨rfl,rfl⟩;rw [hc])
          go_roundg (xs.length-(k+1))
          case measure=>omega
          case rel=>
            refine⟨k+1,by omega,by omega,by omega,by go_num,rfl,(show Aside _ from fun j hj=> ?_)⟩
            by_cases e:j=k
            · subst e
              rw [B.out.1,B.out.2.1]
            · exact Q.out j (by omega)
        · have hc: ¬cmpI x y=0:=fun h=>hxy ((Dv.cmpI_eq x y).1 h).symm
          have hval:cmpL xs ys=cmpI x y:=by
            rw [sf.cmp_drop k xs ys hk hk2 Q.out,B.out.2.2.1,B.out.2.2.2];simp only [cmpL,hc,if_false]
          generalize hr:cmpI x y=r at hc hval;have hcall:Calls Tryz.prog 96 #[.int .i64 x,.int .i64 y] wr fun e w'=>e= .returned (.int .i64 r)∧w'=wr:=hr▸sf.cc x y wr;clear hr
          go_wp2_with (go_at_call 96;refine hcall.mono ?_;rintro e w' ⟨rfl,rfl⟩)
          go_ret
          exact⟨by rw [hval];rfl,rfl⟩
      · clear h1 h2
        have hval:cmpL xs ys=1:=by
          rw [sf.cmp_drop k xs ys hk hk2 Q.out,sf.drop_at xs _ hlt,show k=ys.length by omega,List.drop_length]
          rfl
        have hge:ys.length≤k:=by omega
        go_wp2
        go_ret
        exact⟨by rw [hval];rfl,rfl⟩
    · clear h1 h2
      have hval:cmpL xs ys=if xs.length<ys.length then-1 else 0:=by
        have hkx:k=xs.length:=by omega
        subst hkx;rw [sf.cmp_drop xs.length xs ys hk hk2 Q.out,List.drop_length];split
        · rename_i hl;rw [sf.drop_at ys _ hl];rfl
        · rename_i hl
          have:xs.length=ys.length:=by omega
          rw [this,List.drop_length];rfl
      by_cases hl:xs.length<ys.length
      · rw [if_pos hl]at hval
        go_wp2
        go_ret
        exact⟨by rw [hval];rfl,rfl⟩
      · rw [if_neg hl]at hval
        go_wp2
        go_ret
        exact⟨by rw [hval];rfl,rfl⟩
theorem sf.enters: ∀args w,(callFunc 64 args).run Tryz.prog w= .ok (.enter 64 args) w:=enters_of Tryz.func64 (by kernel_rfl) rfl
theorem sf.sorts(n:Nat)[Inhabited (Fin n)](enc:Fin n→Value)(cf:Fin n→Fin n→Int)(blk off cap:Nat)(w:World)(h1: ∀x,(enc x).oneCell'=true)(hO:SWO (ltOf cf))(hc:CmpLays1 Tryz.prog 64 #[] enc cf blk off n w)(hH:Holds enc w blk off (Array.ofFn (n:=n) id))(hb:blk<w.heap.size)(hn:n<4611686018427387904):
    Calls Tryz.prog 102 #[.slice (some ⟨blk,off,none⟩) n cap,.func (.func 64) #[] #[]] w fun x w'=>x= .returned (.tuple #[])∧ ∃d' m os,PermIn 0 n (Array.ofFn (n:=n) id) d'∧SortedIn (ltOf cf) 0 n d'∧w'=sortWorld enc w blk off m d' os:=by
  have hs:(Array.ofFn (n:=n) (id:Fin n→Fin n)).size=n:=by simp
  have:=Tryz.slices_SortFunc enc h1 cf hO 64 #[] blk off cap (Array.ofFn (n:=n) id) w sf.enters (by rw [hs];exact hc) hH hb (by rw [hs];exact hn)
  rw [hs]at this;exact this
end Go.Proofs
