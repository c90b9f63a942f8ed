/- slices.SortFunc of lists of numbers by slices.Compare: the machine's side. Conditions: the list is no longer than a machine holds. -/
import Derived.Shelf.SlSortCmp.NoneTotal
import Derived.Shelf.Small.Wraps
import Derived.Test.YtdjfaadpmbkcmaaProg
import Derived.Test.YtdjfaadpmbkcmaaL6
namespace Go.Proofs
open Go.Shelf
def Try.lays122_ren : Go.Shelf.Ren := ⟨fun | 122 => 105 | 215 => 124 | n => n, fun | 3 => 3 | 4 => 4 | n => n, fun | n => n⟩
theorem Try.lays122 : Go.Proofs.Lays.n122 Try.prog Try.lays122_ren := {
  mixed := by kernel_rfl
  f122 := Try.func105.trans (congrArg some (by kernel_rfl))
  f215 := Try.func124.trans (congrArg some (by kernel_rfl))
  t3 := Try.underlying3
  a3 := Try.isAgg3
  z3 := Try.sizeOf3
  v3 := Try.zeroValue3
  t4 := Try.underlying4
  a4 := Try.isAgg4
  z4 := Try.sizeOf4
  v4 := Try.zeroValue4 }
open Go.RowKit in
theorem Try.cmp_Compare_int (x y : Int) (w : World) :
    Calls Try.prog 105 #[.int .i64 x, .int .i64 y] w fun e w' => e = .returned (.int .i64 (Lib.compareInt x y)) ∧ w' = w := Any.cmp_Compare_int Try.lays122 x y w
def Try.laysSlF6_f98_ren : Go.Shelf.Ren := ⟨fun | 6 => 98 | 15 => 97 | 14 => 120 | 28 => 118 | 29 => 119 | 20 => 131 | 21 => 132 | 22 => 133 | 23 => 134 | 24 => 135 | 25 => 136 | 26 => 137 | 27 => 138 | 46 => 140 | 47 => 127 | 48 => 128 | 49 => 141 | 50 => 142 | 57 => 143 | n => n, fun | 22 => 22 | 24 => 33 | 25 => 88 | 3 => 3 | 39 => 92 | 0 => 0 | 53 => 108 | 55 => 110 | 4 => 4 | 46 => 103 | 45 => 102 | 50 => 82 | 5 => 5 | 9 => 9 | 66 => 118 | 70 => 122 | 76 => 129 | 77 => 130 | n => n, fun | n => n⟩
theorem Try.laysSlF6_f98 : Go.Proofs.SlLaysF.n6 Try.prog Try.laysSlF6_f98_ren := {
  mixed := by kernel_rfl
  f6 := ⟨Try.f98.name, by decide, Try.func98.trans (congrArg some (by kernel_rfl))⟩
  f14 := ⟨Try.f120.name, by decide, Try.func120.trans (congrArg some (by kernel_rfl))⟩
  f15 := Try.func97.trans (congrArg some (by kernel_rfl))
  f20 := ⟨Try.f131.name, by decide, Try.func131.trans (congrArg some (by kernel_rfl))⟩
  f21 := ⟨Try.f132.name, by decide, Try.func132.trans (congrArg some (by kernel_rfl))⟩
  f22 := ⟨Try.f133.name, by decide, Try.func133.trans (congrArg some (by kernel_rfl))⟩
  f23 := ⟨Try.f134.name, by decide, Try.func134.trans (congrArg some (by kernel_rfl))⟩
  f24 := ⟨Try.f135.name, by decide, Try.func135.trans (congrArg some (by kernel_rfl))⟩
  f25 := ⟨Try.f136.name, by decide, Try.func136.trans (congrArg some (by kernel_rfl))⟩
  f26 := ⟨Try.f137.name, by decide, Try.func137.trans (congrArg some (by kernel_rfl))⟩
  f27 := ⟨Try.f138.name, by decide, Try.func138.trans (congrArg some (by kernel_rfl))⟩
  f28 := Try.func118.trans (congrArg some (by kernel_rfl))
  f29 := Try.func119.trans (congrArg some (by kernel_rfl))
  f46 := ⟨Try.f140.name, by decide, Try.func140.trans (congrArg some (by kernel_rfl))⟩
  f47 := Try.func127.trans (congrArg some (by kernel_rfl))
  f48 := Try.func128.trans (congrArg some (by kernel_rfl))
  f49 := ⟨Try.f141.name, by decide, Try.func141.trans (congrArg some (by kernel_rfl))⟩
  f50 := ⟨Try.f142.name, by decide, Try.func142.trans (congrArg some (by kernel_rfl))⟩
  f57 := ⟨Try.f143.name, by decide, Try.func143.trans (congrArg some (by kernel_rfl))⟩
  t0 := Try.underlying0
  a0 := Try.isAgg0
  z0 := Try.sizeOf0
  v0 := Try.zeroValue0
  t3 := Try.underlying3
  a3 := Try.isAgg3
  z3 := Try.sizeOf3
  v3 := Try.zeroValue3
  t4 := Try.underlying4
  a4 := Try.isAgg4
  z4 := Try.sizeOf4
  v4 := Try.zeroValue4
  t5 := Try.underlying5
  a5 := Try.isAgg5
  z5 := Try.sizeOf5
  v5 := Try.zeroValue5
  t9 := Try.underlying9
  a9 := Try.isAgg9
  z9 := Try.sizeOf9
  v9 := Try.zeroValue9
  t22 := Try.underlying22
  a22 := Try.isAgg22
  z22 := Try.sizeOf22
  v22 := Try.zeroValue22
  a24 := Try.isAgg33
  z24 := Try.sizeOf33
  t25 := Try.underlying88
  a25 := Try.isAgg88
  z25 := Try.sizeOf88
  v25 := Try.zeroValue88
  t39 := Try.underlying92
  a39 := Try.isAgg92
  z39 := Try.sizeOf92
  v39 := Try.zeroValue92
  t45 := Try.underlying102
  a45 := Try.isAgg102
  z45 := Try.sizeOf102
  v45 := Try.zeroValue102
  t46 := Try.underlying103
  a46 := Try.isAgg103
  z46 := Try.sizeOf103
  v46 := Try.zeroValue103
  t50 := Try.underlying82
  a50 := Try.isAgg82
  z50 := Try.sizeOf82
  v50 := Try.zeroValue82
  t53 := Try.underlying108
  a53 := Try.isAgg108
  z53 := Try.sizeOf108
  v53 := Try.zeroValue108
  t55 := Try.underlying110
  a55 := Try.isAgg110
  z55 := Try.sizeOf110
  v55 := Try.zeroValue110
  t66 := Try.underlying118
  a66 := Try.isAgg118
  z66 := Try.sizeOf118
  v66 := Try.zeroValue118
  t70 := Try.underlying122
  a70 := Try.isAgg122
  z70 := Try.sizeOf122
  v70 := Try.zeroValue122
  t76 := Try.underlying129
  a76 := Try.isAgg129
  z76 := Try.sizeOf129
  v76 := Try.zeroValue129
  t77 := Try.underlying130
  a77 := Try.isAgg130
  z77 := Try.sizeOf130
  v77 := Try.zeroValue130 }
open Go.RowKit Go.Lib Go.Sort in
theorem Try.slices_SortFunc {α : Type} [Inhabited α] (enc : α → Value) (h1 : OneCell enc) (cf : α → α → Int) (hO : SWO (ltOf cf)) (g : Nat) (cb : Array Value) (blk off cap : Nat) (d : Array α) (w : World) (eg : ∀ args w, (callFunc g args).run Try.prog w = .ok (.enter g args) w) (hcmp : CmpLays1 Try.prog g cb enc cf blk off d.size w) (hH : Holds enc w blk off d) (hblk : blk < w.heap.size) (hsz : d.size < 4611686018427387904) :
    Calls Try.prog 98 #[.slice (some ⟨blk, off, none⟩) d.size cap, .func (.func g) #[] cb] w fun e w' =>
      e = .returned (.tuple #[]) ∧ ∃ d' n os, PermIn 0 d.size d d' ∧ SortedIn (ltOf cf) 0 d.size d' ∧ w' = sortWorld enc w blk off n d' os := Any.slices_SortFunc Try.laysSlF6_f98 enc h1 cf hO g cb blk off cap d w eg hcmp hH hblk hsz
def Try.laysSlF06_f98_ren : Go.Shelf.Ren := ⟨fun | 6 => 98 | 15 => 97 | 14 => 120 | 28 => 118 | 29 => 119 | 20 => 131 | 21 => 132 | 22 => 133 | 23 => 134 | 24 => 135 | 25 => 136 | 26 => 137 | 27 => 138 | 46 => 140 | 47 => 127 | 48 => 128 | 49 => 141 | 50 => 142 | 57 => 143 | n => n, fun | 22 => 22 | 24 => 33 | 25 => 88 | 3 => 3 | 39 => 92 | 0 => 0 | 53 => 108 | 55 => 110 | 4 => 4 | 46 => 103 | 45 => 102 | 50 => 82 | 5 => 5 | 9 => 9 | 66 => 118 | 70 => 122 | 76 => 129 | 77 => 130 | n => n, fun | n => n⟩
theorem Try.laysSlF06_f98 : Go.Proofs.SlLaysF0.n6 Try.prog Try.laysSlF06_f98_ren := {
  mixed := by kernel_rfl
  f6 := ⟨Try.f98.name, by decide, Try.func98.trans (congrArg some (by kernel_rfl))⟩
  f14 := ⟨Try.f120.name, by decide, Try.func120.trans (congrArg some (by kernel_rfl))⟩
  f15 := Try.func97.trans (congrArg some (by kernel_rfl))
  f20 := ⟨Try.f131.name, by decide, Try.func131.trans (congrArg some (by kernel_rfl))⟩
  f21 := ⟨Try.f132.name, by decide, Try.func132.trans (congrArg some (by kernel_rfl))⟩
  f22 := ⟨Try.f133.name, by decide, Try.func133.trans (congrArg some (by kernel_rfl))⟩
  f23 := ⟨Try.f134.name, by decide, Try.func134.trans (congrArg some (by kernel_rfl))⟩
  f24 := ⟨Try.f135.name, by decide, Try.func135.trans (congrArg some (by kernel_rfl))⟩
  f25 := ⟨Try.f136.name, by decide, Try.func136.trans (congrArg some (by kernel_rfl))⟩
  f26 := ⟨Try.f137.name, by decide, Try.func137.trans (congrArg some (by kernel_rfl))⟩
  f27 := ⟨Try.f138.name, by decide, Try.func138.trans (congrArg some (by kernel_rfl))⟩
  f28 := Try.func118.trans (congrArg some (by kernel_rfl))
  f29 := Try.func119.trans (congrArg some (by kernel_rfl))
  f46 := ⟨Try.f140.name, by decide, Try.func140.trans (congrArg some (by kernel_rfl))⟩
  f47 := Try.func127.trans (congrArg some (by kernel_rfl))
  f48 := Try.func128.trans (congrArg some (by kernel_rfl))
  f49 := ⟨Try.f141.name, by decide, Try.func141.trans (congrArg some (by kernel_rfl))⟩
  f50 := ⟨Try.f142.name, by decide, Try.func142.trans (congrArg some (by kernel_rfl))⟩
  f57 := ⟨Try.f143.name, by decide, Try.func143.trans (congrArg some (by kernel_rfl))⟩
  t0 := Try.underlying0
  a0 := Try.isAgg0
  z0 := Try.sizeOf0
  v0 := Try.zeroValue0
  t3 := Try.underlying3
  a3 := Try.isAgg3
  z3 := Try.sizeOf3
  v3 := Try.zeroValue3
  t4 := Try.underlying4
  a4 := Try.isAgg4
  z4 := Try.sizeOf4
  v4 := Try.zeroValue4
  t5 := Try.underlying5
  a5 := Try.isAgg5
  z5 := Try.sizeOf5
  v5 := Try.zeroValue5
  t9 := Try.underlying9
  a9 := Try.isAgg9
  z9 := Try.sizeOf9
  v9 := Try.zeroValue9
  t22 := Try.underlying22
  a22 := Try.isAgg22
  z22 := Try.sizeOf22
  v22 := Try.zeroValue22
  t25 := Try.underlying88
  a25 := Try.isAgg88
  z25 := Try.sizeOf88
  v25 := Try.zeroValue88
  t39 := Try.underlying92
  a39 := Try.isAgg92
  z39 := Try.sizeOf92
  v39 := Try.zeroValue92
  t45 := Try.underlying102
  a45 := Try.isAgg102
  z45 := Try.sizeOf102
  v45 := Try.zeroValue102
  t46 := Try.underlying103
  a46 := Try.isAgg103
  z46 := Try.sizeOf103
  v46 := Try.zeroValue103
  t50 := Try.underlying82
  a50 := Try.isAgg82
  z50 := Try.sizeOf82
  v50 := Try.zeroValue82
  t53 := Try.underlying108
  a53 := Try.isAgg108
  z53 := Try.sizeOf108
  v53 := Try.zeroValue108
  t55 := Try.underlying110
  a55 := Try.isAgg110
  z55 := Try.sizeOf110
  v55 := Try.zeroValue110
  t66 := Try.underlying118
  a66 := Try.isAgg118
  z66 := Try.sizeOf118
  v66 := Try.zeroValue118
  t70 := Try.underlying122
  a70 := Try.isAgg122
  z70 := Try.sizeOf122
  v70 := Try.zeroValue122
  t76 := Try.underlying129
  a76 := Try.isAgg129
  z76 := Try.sizeOf129
  v76 := Try.zeroValue129
  t77 := Try.underlying130
  a77 := Try.isAgg130
  z77 := Try.sizeOf130
  v77 := Try.zeroValue130 }
open Go.RowKit Go.Lib Go.Sort in
theorem Try.slices_SortFunc_none {α : Type} [Inhabited α] (p : Option Addr) (cap : Nat) (fv : Value) (w : World) :
    Calls Try.prog 98 #[.slice p 0 cap, fv] w fun e w' => e = .returned (.tuple #[]) ∧ w' = w := AnyF.slices_SortFunc_none Try.laysSlF06_f98 p cap fv w

set_option linter.unusedVariables false
open Go.RowKit Go.Lib Go.Sort

open Dv (cmpL cmpI)
theorem sf.cc (x y : Int) (w : World) : Calls Try.prog 105 #[.int .i64 x, .int .i64 y] w fun e w' => e = .returned (.int .i64 (cmpI x y)) ∧ w' = w := Try.cmp_Compare_int x y w

theorem sf.cmp_drop : ∀ (k : Nat) (xs ys : List Int), k ≤ xs.length → k ≤ ys.length → (∀ j, j < k → xs[j]! = ys[j]!) → cmpL xs ys = cmpL (xs.drop k) (ys.drop k)
  | 0, _, _, _, _, _ => by simp
  | k + 1, [], _, h, _, _ => by simp at h
  | k + 1, _ :: _, [], _, h, _ => by simp at h
  | k + 1, x :: xs, y :: ys, h1, h2, h => by
    have h0 := h 0 (by omega)
    simp at h0
    subst h0
    have hc : cmpI x x = 0 := by exact (Dv.cmpI_eq _ _).2 rfl
    have ih := sf.cmp_drop k xs ys (by simpa using h1) (by simpa using h2) (fun j hj => by have := h (j + 1) (by omega); simpa using this)
    simp only [cmpL, hc, if_true, List.drop_succ_cons]
    exact ih

theorem sf.drop_at (xs : List Int) (k : Nat) (h : k < xs.length) : xs.drop k = xs[k]! :: xs.drop (k + 1) := by
  rw [List.drop_eq_getElem_cons h]
  simp [h]

set_option maxHeartbeats 2000000 in
set_option maxRecDepth 100000 in
/-- slices.Compare at numbers. -/
theorem sf.compare (A1 A2 : Option Addr) (c1 c2 : Nat) (xs ys : List Int) (w : World) (hb1 : xs.length ≤ 9223372036854775807) (hb2 : ys.length ≤ 9223372036854775807)
    (h1 : ∀ k, k < xs.length → ∃ b o, A1 = some ⟨b, o, none⟩ ∧ w.cell? ⟨b, o + k, none⟩ = some (.int .i64 xs[k]!))
    (h2 : ∀ k, k < ys.length → ∃ b o, A2 = some ⟨b, o, none⟩ ∧ w.cell? ⟨b, o + k, none⟩ = some (.int .i64 ys[k]!)) :
    Calls Try.prog 88 #[.slice A1 xs.length c1, .slice A2 ys.length c2] w fun e w' => e = .returned (.int .i64 (cmpL xs ys)) ∧ w' = w := by
  go_enter Try.func88, Try.ntmps88
  go_wp2
  go_loopg [11] xs.length (fun g s11 wr => ∃ k : Nat, k ≤ xs.length ∧ k ≤ ys.length ∧ xs.length - k ≤ g ∧ s11 = .int .i64 k ∧ wr = w ∧ Aside (∀ j, j < k → xs[j]! = ys[j]!))
  case atStart => exact ⟨0, Nat.zero_le _, Nat.zero_le _, by omega, rfl, rfl, fun j hj => absurd hj (Nat.not_lt_zero _)⟩
  case round =>
    obtain ⟨k, hk, hk2, hg, rfl, rfl, Q⟩ := hrel
    by_cases hlt : k < xs.length
    · obtain ⟨b1, o1, e1, g1⟩ := h1 k hlt
      subst e1
      by_cases hlt2 : k < ys.length
      · obtain ⟨b2, o2, e2, g2⟩ := h2 k hlt2
        subst e2
        clear h1 h2
        have hx := sf.drop_at xs k hlt
        have hy := sf.drop_at ys k hlt2
        generalize hxk : xs[k]! = x at g1 hx
        generalize hyk : ys[k]! = y at g2 hy
        have B : Aside (xs[k]! = x ∧ ys[k]! = y ∧ xs.drop k = x :: xs.drop (k + 1) ∧ ys.drop k = y :: ys.drop (k + 1)) := ⟨hxk, hyk, hx, hy⟩
        clear hxk hyk hx hy
        by_cases hxy : y = x
        · subst hxy
          have hc : cmpI y y = 0 := by exact (Dv.cmpI_eq _ _).2 rfl
          go_wp2_with (go_at_call 105; refine (sf.cc _ _ _).mono ?_; rintro e w' ⟨rfl, rfl⟩; rw [hc])
          go_roundg (xs.length - (k + 1))
          case measure => omega
          case rel =>
            refine ⟨k + 1, by omega, by omega, by omega, by go_num, rfl, (show Aside _ from fun j hj => ?_)⟩
            by_cases e : j = k
            · subst e
              rw [B.out.1, B.out.2.1]
            · exact Q.out j (by omega)
        · have hc : ¬ cmpI x y = 0 := fun h => hxy ((Dv.cmpI_eq x y).1 h).symm
          have hval : cmpL xs ys = cmpI x y := by
            rw [sf.cmp_drop k xs ys hk hk2 Q.out, B.out.2.2.1, B.out.2.2.2]
            simp only [cmpL, hc, if_false]
          generalize hr : cmpI x y = r at hc hval
          have hcall : Calls Try.prog 105 #[.int .i64 x, .int .i64 y] wr fun e w' => e = .returned (.int .i64 r) ∧ w' = wr := hr ▸ sf.cc x y wr
          clear hr
          go_wp2_with (go_at_call 105; refine hcall.mono ?_; rintro e w' ⟨rfl, rfl⟩)
          go_ret
          exact ⟨by rw [hval]; rfl, rfl⟩
      · clear h1 h2
        have hval : cmpL xs ys = 1 := by
          rw [sf.cmp_drop k xs ys hk hk2 Q.out, sf.drop_at xs _ hlt, show k = ys.length by omega, List.drop_length]
          rfl
        have hge : ys.length ≤ k := by omega
        go_wp2
        go_ret
        exact ⟨by rw [hval]; rfl, rfl⟩
    · clear h1 h2
      have hval : cmpL xs ys = if xs.length < ys.length then -1 else 0 := by
        have hkx : k = xs.length := by omega
        subst hkx
        rw [sf.cmp_drop xs.length xs ys hk hk2 Q.out, List.drop_length]
        split
        · rename_i hl; rw [sf.drop_at ys _ hl]; rfl
        · rename_i hl
          have : xs.length = ys.length := by omega
          rw [this, List.drop_length]; rfl
      by_cases hl : xs.length < ys.length
      · rw [if_pos hl] at hval
        go_wp2
        go_ret
        exact ⟨by rw [hval]; rfl, rfl⟩
      · rw [if_neg hl] at hval
        go_wp2
        go_ret
        exact ⟨by rw [hval]; rfl, rfl⟩
theorem sf.enters : ∀ args w, (callFunc 88 args).run Try.prog w = .ok (.enter 88 args) w := enters_of Try.func88 (by kernel_rfl) rfl
theorem sf.sorts (n : Nat) [Inhabited (Fin n)] (enc : Fin n → Value) (cf : Fin n → Fin n → Int) (blk cap : Nat) (w : World) (h1 : ∀ x, (enc x).oneCell' = true) (hO : SWO (ltOf cf)) (hc : CmpLays1 Try.prog 88 #[] enc cf blk 0 n w) (hH : Holds enc w blk 0 (Array.ofFn (n := n) id)) (hb : blk < w.heap.size) (hn : n < 4611686018427387904) :
    Calls Try.prog 98 #[.slice (some ⟨blk, 0, none⟩) n cap, .func (.func 88) #[] #[]] w fun x w' => x = .returned (.tuple #[]) ∧ ∃ d' m os, PermIn 0 n (Array.ofFn (n := n) id) d' ∧ SortedIn (ltOf cf) 0 n d' ∧ w' = sortWorld enc w blk 0 m d' os := by
  have hs : (Array.ofFn (n := n) (id : Fin n → Fin n)).size = n := by simp
  have := Try.slices_SortFunc enc h1 cf hO 88 #[] blk 0 cap (Array.ofFn (n := n) id) w sf.enters (by rw [hs]; exact hc) hH hb (by rw [hs]; exact hn)
  rw [hs] at this
  exact this
end Go.Proofs
