/- Value semantics for Go code, part 4: arguments of laws, slim code and rules. Conditions: none beyond those in each lemma. -/
import Derived.Test.YtipfckompmhljaaL3
import Derived.WalkKit
import Derived.ProofKit
import Derived.OpenShut
import Derived.ShutString
import Derived.ChangeOld
import Derived.Below
import Derived.Carry
import Derived.IntWalk
set_option linter.unusedSimpArgs false
set_option linter.unusedVariables false
/- Value semantics for Go code: arguments that can be read as data are data. Conditions: the types are what the table says. -/
namespace Dv
open Go

/-- The cells of a value of a type, as data that nobody writes. -/
inductive Shp (T : Tys) : TypeId → List D → Prop
 | int {t k n} (ht : T.ty t = .int k) (hw : (Lit.int k n).wf = true) : Shp T t [.int k n]
 | bool {t b} (ht : T.ty t = .bool) : Shp T t [.bool b]
 | string {t s} (ht : T.ty t = .string) (hs : s.size ≤ maxLen) : Shp T t [.str s]
 | slice {t e} {xss : List (List D)} (ht : T.ty t = .slice e) (hx : ∀ xs, xs ∈ xss → Shp T e xs) (hl : xss.length ≤ maxLen) : Shp T t [.sl e xss.flatten]
 | struct {t fs} {ds : List D} (ht : T.ty t = .struct fs) (hl : ds.length = fs.length) (hx : ∀ (i : Nat) (f : TypeId) (d : D), fs[i]? = some f → ds[i]? = some d → Shp T f [d]) : Shp T t ds

/-- Types that are known to the bottom. -/
def deepB (T : Tys) : Nat → TypeId → Bool
 | 0, _ => false
 | n + 1, t => match T.ty t with
  | .int _ => true
  | .bool => true
  | .string => true
  | .slice e => T.known e && deepB T n e
  | .struct fs => (T.nest t).isNone && !fs.isEmpty && fs.all (deepB T n)
  | _ => false

theorem Shp.length {T : Tys} {t : TypeId} {ds : List D} (h : Shp T t ds) : ds.length = T.size t := by
 cases h with
 | int ht => simp [Tys.size, ht, Ty.size]
 | bool ht => simp [Tys.size, ht, Ty.size]
 | string ht => simp [Tys.size, ht, Ty.size]
 | slice ht => simp [Tys.size, ht, Ty.size]
 | struct ht hl => simp [Tys.size, ht, Ty.size, hl]

theorem flatten_get {α : Type} {n : Nat} (hn : 0 < n) : ∀ (xss : List (List α)), (∀ xs ∈ xss, xs.length = n) → ∀ k : Nat, xss.flatten[k]? = (xss[k / n]?).bind fun xs => xs[k % n]? := by
 intro xss
 induction xss with
 | nil => intro _ k; simp
 | cons xs xss ih =>
  intro h k
  have hx := h xs (List.mem_cons_self)
  rw [List.flatten_cons]
  rcases Nat.lt_or_ge k n with hk | hk
  ·rw [List.getElem?_append_left (by omega), Nat.div_eq_of_lt hk, Nat.mod_eq_of_lt hk]; rfl
  ·rw [List.getElem?_append_right (by omega), ih (fun ys hy => h ys (List.mem_cons_of_mem _ hy)), hx]
   have h1 : k / n = (k - n) / n + 1 := by
    rw [Nat.div_eq_sub_div hn hk]
   have h2 : k % n = (k - n) % n := by rw [Nat.mod_eq_sub_mod hk]
   rw [h1, h2]; rfl

theorem flatten_length {α : Type} {n : Nat} : ∀ (xss : List (List α)), (∀ xs ∈ xss, xs.length = n) → xss.flatten.length = xss.length * n := by
 intro xss
 induction xss with
 | nil => intro _; simp
 | cons xs xss ih =>
  intro h
  rw [List.flatten_cons, List.length_append, ih (fun ys hy => h ys (List.mem_cons_of_mem _ hy)), h xs (List.mem_cons_self), List.length_cons, Nat.add_mul]; omega

abbrev Old (w : World) : Nat → Prop := fun k => k < w.heap.size

section
variable {P : Program} {T : Tys} {H : Type} {enc : TypeId × Value → H} {w : World} {spare : Nat → Bool} {held : Bool}

theorem TyOk.cells (h : TyOk P T) {t : TypeId} (hk : T.known t = true) : P.cellsOf t = T.size t := by
 obtain ⟨i, h1, h2, _⟩ := h.info hk
 simp [Program.cellsOf, h1, h2]

theorem deep_known {n : Nat} {t : TypeId} (h : deepB T n t = true) : T.known t = true := by
 cases n with
 | zero => cases h
 | succ n =>
  unfold deepB at h
  unfold Tys.known
  cases ht : T.ty t with
  | struct fs =>
   rw [ht] at h
   cases fs with
   | nil => simp at h
   | cons => rfl
  | other => rw [ht] at h; cases h
  | map => rw [ht] at h; cases h
  | _ => rfl

theorem size_pos {t : TypeId} (hk : T.known t = true) : 0 < T.size t := by
 unfold Tys.known at hk
 unfold Tys.size
 cases ht : T.ty t with
 | struct fs =>
  rw [ht] at hk
  cases fs with
  | nil => cases hk
  | cons => simp [Ty.size]
 | _ => simp [Ty.size]

theorem cells_get2 {base : Nat} {a : Addr} {n : Nat} {cs : List Value} (h : w.cells? base a n = some cs) : cs.length = n ∧ ∀ i, i < n → w.cell? (a.add i) = cs[i]? := by
 unfold World.cells? at h
 split at h
 ·exact ⟨by simpa using mapM_some_length h, fun i hi => by have := mapM_some_get h i i (by simp [hi]); simpa using this⟩
 ·cases h

theorem cell_lt {ad : Addr} {v : Value} (h : w.cell? ad = some v) : ad.block < w.heap.size := by
 rcases Nat.lt_or_ge ad.block w.heap.size with hl | hl
 ·exact hl
 ·have h1 := Array.getElem?_eq_none hl
  simp [World.cell?, h1] at h


theorem trod_shp (hT : TyOk P T) : ∀ (fuel : Nat) (n : Nat) (t : TypeId) (cs : List Value) (x : DataW H × List MemPlace), deepB T n t = true → DataW.trod enc P w 0 spare held fuel t cs = some x →
  ∃ ds, Shp T t ds ∧ cs.length = ds.length ∧ ∀ (i : Nat) (d : D), ds[i]? = some d → ∃ v, cs[i]? = some v ∧ W T (Old w) w V0 Vp0 d v (fun _ => False) := by
 have hE : Em (fun _ : Nat => False) := fun _ h => h
 have one : ∀ (d0 : D) (v0 : Value), W T (Old w) w V0 Vp0 d0 v0 (fun _ => False) → ∀ (i : Nat) (d : D), [d0][i]? = some d → ∃ v, [v0][i]? = some v ∧ W T (Old w) w V0 Vp0 d v (fun _ => False) := by
  intro d0 v0 h i d hi
  cases i with
  | zero => simp at hi; subst hi; exact ⟨v0, rfl, h⟩
  | succ i => simp at hi
 intro fuel
 induction fuel with
 | zero => intro n t cs x _ h; simp [DataW.trod] at h
 | succ fuel ih =>
  intro n t cs x hd h
  have hk := deep_known hd
  have h0 := (hT t).1
  unfold TyFact at h0
  cases n with
  | zero => cases hd
  | succ n =>
   unfold deepB at hd
   cases ht : T.ty t <;> rw [ht] at h0 hd <;> simp only at h0 hd
   case int k =>
    obtain ⟨m, rfl, _, hw⟩ := DataW.trod_int h0.1 h
    exact ⟨[.int k m], .int ht hw, rfl, one _ _ (.int hE)⟩
   case bool =>
    obtain ⟨b, rfl, _⟩ := DataW.trod_bool h0.1 h
    exact ⟨[.bool b], .bool ht, rfl, one _ _ (.bool hE)⟩
   case string =>
    obtain ⟨s, rfl, _, hs⟩ := DataW.trod_string h0.1 h
    exact ⟨[.str s], .string ht hs, rfl, one _ _ (.str hE)⟩
   case slice e =>
    simp only [Bool.and_eq_true] at hd
    have hc := hT.cells hd.1
    have hpos := size_pos hd.1
    rcases DataW.trod_slice h0.1 h with ⟨rfl, _⟩ | ⟨a, len, cap, elems, rest, m, hm, rfl, _, _, hl, hcap, hlen, hel, _, _⟩
    ·exact ⟨[.sl e ([] : List (List D)).flatten], .slice ht (by simp) (by simp [maxLen]), rfl, one _ _ (.sl (fun _ => undef) hE (by simp) (Nat.le_refl _) (by simp [maxLen]) (by simp) (by simp))⟩
    ·injection hm with hm
     subst hm
     have hex : ∀ i, i < len → ∃ ds, Shp T e ds ∧ ∀ (j : Nat) (d : D), ds[j]? = some d → ∃ v, w.cell? (a.add (i * T.size e + j)) = some v ∧ W T (Old w) w V0 Vp0 d v (fun _ => False) := by
      intro i hi
      have h1 := hel i hi
      rw [List.getElem?_eq_getElem (by omega), Option.bind_eq_some_iff] at h1
      obtain ⟨cs', h2, h3⟩ := h1
      obtain ⟨ds, q1, q2, q3⟩ := ih n e cs' _ hd.2 h3
      refine ⟨ds, q1, fun j d hj => ?_⟩
      obtain ⟨v, hv, hW⟩ := q3 j d hj
      obtain ⟨c1, c2⟩ := cells_get2 h2
      rw [hc] at c1 c2
      have hj' : j < T.size e := by rw [← c1]; exact (List.getElem?_eq_some_iff.1 hv).1
      have h4 := c2 j hj'
      rw [add_add] at h4
      exact ⟨v, by rw [h4, hv], hW⟩
     let ch : Nat → List D := fun i => if h : i < len then (hex i h).choose else []
     have hch : ∀ i, i < len → Shp T e (ch i) ∧ ∀ (j : Nat) (d : D), (ch i)[j]? = some d → ∃ v, w.cell? (a.add (i * T.size e + j)) = some v ∧ W T (Old w) w V0 Vp0 d v (fun _ => False) := by
      intro i hi
      have := (hex i hi).choose_spec
      simp only [ch, hi, dif_pos]; exact this
     have hall : ∀ xs ∈ (List.range len).map ch, xs.length = T.size e := by
      intro xs hxs
      obtain ⟨i, hi, rfl⟩ := List.mem_map.1 hxs
      exact (hch i (List.mem_range.1 hi)).1.length
     refine ⟨[.sl e ((List.range len).map ch).flatten], .slice ht (fun xs hxs => ?_) (by simp; omega), rfl, one _ _ ?_⟩
     ·obtain ⟨i, hi, rfl⟩ := List.mem_map.1 hxs
      exact (hch i (List.mem_range.1 hi)).1
     ·have key : ∀ (i : Nat) (x : D), ((List.range len).map ch).flatten[i]? = some x → ∃ v, w.cell? (a.add i) = some v ∧ W T (Old w) w V0 Vp0 x v (fun _ => False) := by
       intro i x hi
       rw [flatten_get hpos _ hall, Option.bind_eq_some_iff] at hi
       obtain ⟨xs, h1, h2⟩ := hi
       rw [List.getElem?_map, Option.map_eq_some_iff] at h1
       obtain ⟨q, hq, rfl⟩ := h1
       obtain ⟨hq1, hq2⟩ := List.getElem?_eq_some_iff.1 hq
       simp only [List.getElem_range] at hq2
       subst hq2
       obtain ⟨v, hv, hW⟩ := (hch _ (by simpa using hq1)).2 _ x h2
       rw [show i / T.size e * T.size e + i % T.size e = i by rw [Nat.mul_comm]; exact Nat.div_add_mod i (T.size e)] at hv
       exact ⟨v, hv, hW⟩
      refine .sl (fun i => (w.cell? (a.add i)).getD undef) hE (by rw [flatten_length _ hall]; simp) hl hcap (fun i x hi => ?_) (fun i x hi => ?_)
      ·obtain ⟨v, hv, _⟩ := key i x hi
       exact ⟨a, rfl, by have := cell_lt hv; rw [add_block] at this; exact this, by rw [hv]; rfl⟩
      ·obtain ⟨v, hv, hW⟩ := key i x hi
       simp only [hv, Option.getD_some]; exact hW
   case struct fs =>
    simp only [Bool.and_eq_true, List.all_eq_true, Option.isNone_iff_eq_none] at hd
    obtain ⟨⟨fields, hu, hfx⟩, hinfo⟩ := h0
    rw [hd.1.1] at hfx
    obtain ⟨hfl, hfi⟩ := hfx
    obtain ⟨xs, m, hm, _, hcl, hxl, hx⟩ := DataW.trod_struct hu h
    injection hm with hm
    subst hm
    rw [hT.cells hk] at hcl
    have hsz : T.size t = fs.length := by simp [Tys.size, ht, Ty.size]
    have hex : ∀ i, i < fs.length → ∃ d f, fs[i]? = some f ∧ Shp T f [d] ∧ ∃ v, cs[i]? = some v ∧ W T (Old w) w V0 Vp0 d v (fun _ => False) := by
     intro i hi
     have hif : i < fields.size := by omega
     obtain ⟨f1, f2, f3, f4⟩ := hfi i _ (Array.getElem?_eq_getElem hif)
     have h1 := hx i _ (Array.getElem?_eq_getElem hif)
     have hs1 : T.size fields[i].type = 1 := by
      unfold Tys.isStruct at f4
      unfold Tys.size
      cases hty : T.ty fields[i].type <;> simp_all [Ty.isStruct, Ty.size]
     rw [f1, hT.cells f3, hs1, List.getElem?_eq_getElem (by omega)] at h1
     obtain ⟨ds, q1, q2, q3⟩ := ih n _ _ _ (hd.2 _ (List.mem_of_getElem? f2)) h1
     have hl1 : ds.length = 1 := by rw [q1.length, hs1]
     obtain ⟨d, rfl⟩ := List.length_eq_one_iff.1 hl1
     obtain ⟨v, hv, hW⟩ := q3 0 d rfl
     refine ⟨d, _, f2, q1, v, ?_, hW⟩
     rw [List.getElem?_take] at hv
     simp only [Nat.zero_lt_one, if_true, List.getElem?_drop, Nat.add_zero] at hv
     exact hv
    let ch : Nat → D := fun i => if h : i < fs.length then (hex i h).choose else .undef
    have hch : ∀ i, i < fs.length → ∃ f, fs[i]? = some f ∧ Shp T f [ch i] ∧ ∃ v, cs[i]? = some v ∧ W T (Old w) w V0 Vp0 (ch i) v (fun _ => False) := by
     intro i hi
     have := (hex i hi).choose_spec
     simp only [ch, hi, dif_pos]; exact this
    have hget : ∀ (i : Nat) (d : D), ((List.range fs.length).map ch)[i]? = some d → i < fs.length ∧ d = ch i := by
     intro i d hi
     rw [List.getElem?_map, Option.map_eq_some_iff] at hi
     obtain ⟨q, hq, rfl⟩ := hi
     obtain ⟨hq1, hq2⟩ := List.getElem?_eq_some_iff.1 hq
     simp only [List.getElem_range] at hq2
     subst hq2
     exact ⟨by simpa using hq1, rfl⟩
    refine ⟨(List.range fs.length).map ch, .struct ht (by simp) (fun i f d hf hi => ?_), by simp; omega, fun i d hi => ?_⟩
    ·obtain ⟨h1, rfl⟩ := hget i d hi
     obtain ⟨f', hf', hs, _⟩ := hch i h1
     rw [hf] at hf'; injection hf' with hf'; subst hf'; exact hs
    ·obtain ⟨h1, rfl⟩ := hget i d hi
     obtain ⟨f', hf', hs, v, hv, hW⟩ := hch i h1
     exact ⟨v, hv, hW⟩
   all_goals (cases hd)

/-- A value of a type out of its cells. -/
def top (T : Tys) (t : TypeId) (ds : List D) : D := if T.isStruct t then .agg ds else ds.headD .undef

/-- An argument is data. -/
def Arg (T : Tys) (t : TypeId) (d : D) : Prop := ∃ ds, Shp T t ds ∧ d = top T t ds

theorem arg_W (hT : TyOk P T) {r : Reach} {base n : Nat} {t : TypeId} {v : Value} {d0 : DataW H} {ps : List MemPlace} (hd : deepB T n t = true) (hv : Value.okWide P w r base t v) (h : DataW.Trod enc P w 0 spare held t v d0 ps) :
  ∃ d, Arg T t d ∧ W T (Old w) w V0 Vp0 d v (fun _ => False) := by
 obtain ⟨fuel, hf⟩ := h
 obtain ⟨ds, q1, q2, q3⟩ := trod_shp hT fuel n t _ _ hd hf
 have hfact := (hT t).1
 unfold TyFact at hfact
 have flat : T.isStruct t = false → v.cells.toList = [v] → ∃ d, Arg T t d ∧ W T (Old w) w V0 Vp0 d v (fun _ => False) := by
  intro hs hc
  have hl : ds.length = 1 := by rw [← q2, hc]; rfl
  obtain ⟨d, rfl⟩ := List.length_eq_one_iff.1 hl
  obtain ⟨v', hv', hW⟩ := q3 0 d rfl
  rw [hc] at hv'
  simp only [List.getElem?_cons_zero, Option.some.injEq] at hv'
  subst hv'
  exact ⟨d, ⟨[d], q1, by simp [top, hs]⟩, hW⟩
 cases n with
 | zero => cases hd
 | succ n =>
  unfold deepB at hd
  cases ht : T.ty t <;> rw [ht] at hfact hd <;> simp only at hfact hd
  case int k =>
   refine flat (by simp [Tys.isStruct, ht, Ty.isStruct]) ?_
   simp only [Value.okWide, hfact.1, Cell.okWide] at hv
   cases v <;> simp_all [Cell.ok, Value.cells]
  case bool =>
   refine flat (by simp [Tys.isStruct, ht, Ty.isStruct]) ?_
   simp only [Value.okWide, hfact.1, Cell.okWide] at hv
   cases v <;> simp_all [Cell.ok, Value.cells]
  case string =>
   refine flat (by simp [Tys.isStruct, ht, Ty.isStruct]) ?_
   simp only [Value.okWide, hfact.1, Cell.okWide] at hv
   cases v <;> simp_all [Cell.ok, Value.cells]
  case slice e =>
   refine flat (by simp [Tys.isStruct, ht, Ty.isStruct]) ?_
   simp only [Value.okWide, hfact.1, Cell.okWide] at hv
   cases v <;> simp_all [Cell.ok, Value.cells]
  case struct fs =>
   obtain ⟨⟨fields, hu, _⟩, _⟩ := hfact
   obtain ⟨cs, rfl, hcs⟩ := WideShapes.okWide_struct hu hv
   have hval : ∀ (i : Nat) (d : D), ds[i]? = some d → cs[i]? = some (cs.getD i undef) ∧ W T (Old w) w V0 Vp0 d (cs.getD i undef) (fun _ => False) := by
    intro i d hi
    obtain ⟨v, hv', hW⟩ := q3 i d hi
    have : cs[i]? = some v := by simpa [Value.cells] using hv'
    rw [Array.getD_eq_getD_getElem?, this]; exact ⟨rfl, hW⟩
   refine ⟨.agg ds, ⟨ds, q1, by simp [top, Tys.isStruct, ht, Ty.isStruct]⟩, .agg (fun i => cs.getD i undef) (fun _ _ => False) (by simpa [Value.cells] using q2) (fun i x hi => (hval i x hi).1) (fun k => ⟨fun h => h.elim, fun ⟨_, _, h⟩ => h⟩) (fun _ _ _ _ _ _ h => h.elim) (fun i x hi => (hval i x hi).2)⟩
  all_goals (cases hd)
end

/-- Arguments are data. -/
def Args (T : Tys) : List TypeId → List D → Prop
 | [], [] => True
 | t :: ts, d :: ds => Arg T t d ∧ Args T ts ds
 | _, _ => False

theorem args_W {P : Program} {T : Tys} {H : Type} {enc : TypeId × Value → H} {w : World} {r : Reach} {base n : Nat} (hT : TyOk P T) : ∀ (ts : List TypeId) (vs : List Value) (d0 : List (DataW H)) (ps : List MemPlace), ts.all (deepB T n) = true →
  (∀ (j : Nat) (t : TypeId) (v : Value), ts[j]? = some t → vs[j]? = some v → Value.okWide P w r base t v) → DataW.TrodAll enc P w 0 (fun _ => true) true ts vs d0 ps →
  ∃ ds, Args T ts ds ∧ vs.length = ds.length ∧ ∀ (i : Nat) (d : D), ds[i]? = some d → ∃ v, vs[i]? = some v ∧ W T (Old w) w V0 Vp0 d v (fun _ => False) := by
 intro ts
 induction ts with
 | nil =>
  intro vs d0 ps _ _ h
  cases vs <;> cases d0 <;> simp [DataW.TrodAll] at h
  exact ⟨[], trivial, rfl, by simp⟩
 | cons t ts ih =>
  intro vs d0 ps hd hv h
  cases vs with
  | nil => cases d0 <;> simp [DataW.TrodAll] at h
  | cons v vs =>
   cases d0 with
   | nil => simp [DataW.TrodAll] at h
   | cons d0 ds0 =>
    simp only [DataW.TrodAll] at h
    obtain ⟨p, q, h1, h2, _⟩ := h
    simp only [List.all_cons, Bool.and_eq_true] at hd
    obtain ⟨d, ha, hW⟩ := arg_W hT hd.1 (hv 0 t v rfl rfl) h1
    obtain ⟨ds, hb, hl, hWs⟩ := ih vs ds0 q hd.2 (fun j t' v' hj hj' => hv (j + 1) t' v' (by simpa using hj) (by simpa using hj')) h2
    refine ⟨d :: ds, ⟨ha, hb⟩, by simp [hl], fun i x hi => ?_⟩
    cases i with
    | zero => simp at hi; subst hi; exact ⟨v, rfl, hW⟩
    | succ i => simpa using hWs i x (by simpa using hi)

/-- A law that holds over data holds in the machine. -/
theorem law_calls {Y : Sys} (hY : Y.Ok) {f : FuncId} {ds : List D} (hc : Y.call f ds [] = some (.bool true, [])) {vs : Array Value} {w : World} (hl : vs.size = ds.length)
  (hW : ∀ (i : Nat) (d : D), ds[i]? = some d → ∃ v, vs[i]? = some v ∧ W Y.T (Old w) w V0 Vp0 d v (fun _ => False)) :
  Calls Y.P f vs w fun e w' => e = .returned (.bool true) ∧ RowKit.Below w.heap.size w w' := by
 have hg := Sys.call_good hY hc
 refine Calls.mono (hg.2 vs (fun _ => undef) w (Old w) (fun _ _ => False) hl (fun i d hi => ?_) (fun j d hj => by simp at hj) (fun _ _ _ h => h) (fun _ _ _ _ h => h.elim) (fun _ h => h)) ?_
 ·obtain ⟨v, hv, hWv⟩ := hW i d hi
  exact ⟨v, hv, hWv.up⟩
 ·intro e w' he
  cases e with
  | returned v =>
   obtain ⟨S', F, FL', h1, _, _, _, hst, _, _⟩ := he
   cases h1 with
   | bool => exact ⟨rfl, hst.os, hst.tape, hst.output, hst.size, fun k hk => hst.heap k hk (fun _ h => h)⟩
  | panicked => exact he.elim
  | outgrown => exact he.elim

/-- Arguments read as they did. -/
theorem trodAll_below {H : Type} {enc : TypeId × Value → H} {P : Program} (hl : laidOutB P = true) {W W' : World} (hb : RowKit.Below W.heap.size W W') : ∀ {ts : List TypeId} {vs : List Value} {ds : List (DataW H)} {ps : List MemPlace},
  ts.all (fun t => P.readableRec t && decide (t < P.types.size)) = true → DataW.TrodAll enc P W 0 (fun _ => true) true ts vs ds ps → DataW.TrodAll enc P W' 0 (fun b => decide (b < W.heap.size)) true ts vs ds ps := by
 intro ts
 induction ts with
 | nil =>
  intro vs ds ps _ h
  cases vs <;> cases ds <;> simp [DataW.TrodAll] at h ⊢
  exact h
 | cons t ts ih =>
  intro vs ds ps hr h
  cases vs with
  | nil => cases ds <;> simp [DataW.TrodAll] at h
  | cons v vs =>
   cases ds with
   | nil => simp [DataW.TrodAll] at h
   | cons d ds =>
    simp only [DataW.TrodAll] at h ⊢
    obtain ⟨p, q, h1, h2, h3⟩ := h
    simp only [List.all_cons, Bool.and_eq_true, decide_eq_true_eq] at hr
    have lt0 : ∀ x ∈ p, x.block < W.heap.size := by obtain ⟨m, hm⟩ := h1; exact DataW.trod_lt m _ _ _ hm
    exact ⟨p, q, RowKit.Below.trod hl hr.1.1 hr.1.2 h1 hb lt0, ih (by simpa using hr.2) h2, h3⟩
end Dv
/- Value semantics for Go code: slim code, and rules for runs over data. Conditions: none beyond those in each lemma. -/
namespace Dv
open Go

/-- An equation as it is, so that it is used by its proof. -/
theorem nr {α : Type} {a b : α} (h : a = b) : a = b := h

/-- An operation without what orders it. -/
structure SOp where
 dst : Option Tmp
 op : Op
 type : TypeId
 guard : Option (Option Tmp × Bool)

/-- Which roots an operation may read and turn. -/
structure PmL where
 n : List Nat
 r : List Nat
 w : List Nat
def PmL.pm (l : PmL) : Pm := ⟨fun r => l.n.contains r || !l.r.contains r, fun r => l.w.contains r⟩

inductive SC where
 | skip
 | ops (l : List SOp)
 | draws (l : List (PmL × SOp))
 | seq (a b : SC)
 | cond (c : Operand) (a b : SC)
 | block (id : Nat) (c : SC)
 | loop (c : SC)
 | exit (id : Nat)
 | ret
 | bad

def slimOp (ops : Array Oper) (o : Oper) : SOp := ⟨o.dst, o.op, o.type, match o.guard with | none => none | some (j, b) => some ((ops[j]?).bind (·.dst), b)⟩

def slim (lends : FuncId → Bool) : Code → SC
 | .skip => .skip
 | .region _ ops draw =>
  if draw then
   (if drawOk lends ops.toList then .draws (ops.toList.map fun o => (⟨names ops.toList o, ops.toList.flatMap (writes lends ops.toList), writes lends ops.toList o⟩, slimOp ops (tagC lends ops.toList o))) else .bad)
  else .ops (ops.toList.map fun o => slimOp ops (tag lends ops.toList o))
 | .seq a b => .seq (slim lends a) (slim lends b)
 | .cond c a b => .cond c (slim lends a) (slim lends b)
 | .block id c => .block id (slim lends c)
 | .loop c => .loop (slim lends c)
 | .exit id => .exit id
 | .ret => .ret
 | _ => .bad

/-- One operation that is carried out. -/
def opS (E : Env) (pm : Pm) (s : St) (dst : Option Tmp) (op : Op) (type : TypeId) : Option St := opD E pm s ⟨dst, op, type, "", #[], none⟩

def stepS (E : Env) (pm : Pm) (s : St) (o : SOp) : Option St :=
 match o.guard with
 | none => opS E pm s o.dst o.op o.type
 | some (none, _) => some (s.putO o.dst (.konst undef))
 | some (some t, b) =>
  match s.v t with
  | .bool b' => if b' == b then opS E pm s o.dst o.op o.type else some (s.putO o.dst (.konst undef))
  | .konst (.tuple _) => some (s.putO o.dst (.konst undef))
  | _ => none

def seqS (E : Env) : List SOp → St → Option St
 | [], s => some s
 | o :: l, s => (stepS E Pm.all s o).bind fun s' => seqS E l s'

def mvOkS (pm : Pm) (s : St) (op : Op) : Bool :=
 match op with
 | .move (.tmp u) => !(s.v u).hasObj || (s.v u).isObj || pm.wr u
 | _ => true

def drawS (E : Env) : List (PmL × SOp) → St → Option St
 | [], s => some s
 | (p, o) :: l, s => if mvOkS p.pm s o.op then (stepS E p.pm s o).bind fun s' => drawS E l s' else none

noncomputable def execS (E : Env) : SC → St → Option (Ex × St)
 | .skip, s => some (.normal, s)
 | .ops l, s => (seqS E l s).map fun s' => (.normal, s')
 | .draws l, s => (drawS E l s).map fun s' => (.normal, s')
 | .seq a b, s =>
  match execS E a s with
  | some (.normal, s') => execS E b s'
  | r => r
 | .cond c a b, s =>
  match ev E.T s 0 c with
  | some (.bool t) => if t then execS E a s else execS E b s
  | _ => none
 | .block id c, s =>
  match execS E c s with
  | some (.exit j, s') => if j = id then some (.normal, s') else some (.exit j, s')
  | r => r
 | .loop c, s => iter (execS E c) s
 | .exit id, s => some (.exit id, s)
 | .ret, s => some (.ret, s)
 | .bad, _ => none

theorem stepS_eq (E : Env) (ops : Array Oper) (pm : Pm) (s : St) (o : Oper) : stepS E pm s (slimOp ops o) = stepD E ops pm s o := by
 obtain ⟨dst, op, type, pos, after, guard⟩ := o
 unfold stepS stepD wantD slimOp
 cases guard with
 | none => rfl
 | some g =>
  obtain ⟨j, b⟩ := g
  simp only
  cases (ops[j]?).bind (·.dst) with
  | none => rfl
  | some t =>
   simp only
   cases hv : s.v t with
   | bool b' => simp only; cases hb : (b' == b) <;> simp <;> rfl
   | konst v => cases v <;> rfl
   | _ => rfl

theorem seqS_eq (E : Env) (ops : Array Oper) : ∀ (l : List Oper) (s : St), seqS E (l.map fun o => slimOp ops (tag E.lends ops.toList o)) s = seqD E ops s l := by
 intro l
 induction l with
 | nil => intro s; rfl
 | cons o l ih =>
  intro s
  simp only [List.map_cons, seqS, seqD, stepS_eq]
  cases stepD E ops Pm.all s (tag E.lends ops.toList o) with
  | none => rfl
  | some s' => simp only [Option.bind_some]; exact ih s'

theorem drawS_eq (E : Env) (ops : Array Oper) (l0 : List Oper) : ∀ (l : List Oper) (s : St),
  drawS E (l.map fun o => (⟨names l0 o, l0.flatMap (writes E.lends l0), writes E.lends l0 o⟩, slimOp ops (tagC E.lends ops.toList o))) s = drawD E ops l0 s l := by
 intro l
 induction l with
 | nil => intro s; rfl
 | cons o l ih =>
  intro s
  simp only [List.map_cons, drawS, drawD, stepS_eq]
  have h1 : (PmL.mk (names l0 o) (l0.flatMap (writes E.lends l0)) (writes E.lends l0 o)).pm = pmAt E.lends l0 o := nr rfl
  have h2 : mvOkS (pmAt E.lends l0 o) s (slimOp ops (tagC E.lends ops.toList o)).op = mvOk (pmAt E.lends l0 o) s o := nr rfl
  rw [h1, h2]
  split
  ·cases stepD E ops (pmAt E.lends l0 o) s (tagC E.lends ops.toList o) with
   | none => rfl
   | some s' => simp only [Option.bind_some]; exact ih s'
  ·rfl

theorem execS_eq (E : Env) : ∀ (c : Code), execS E (slim E.lends c) = exec E c := by
 intro c
 induction c with
 | skip => rfl
 | region id ops draw =>
  funext s
  simp only [slim, exec]
  cases draw with
  | true =>
   simp only [if_true]
   split
   ·simp only [execS]; rw [drawS_eq]
   ·rfl
  | false => simp only [Bool.false_eq_true, if_false, execS]; rw [seqS_eq]
 | seq a b iha ihb => funext s; simp only [slim, execS, exec, iha, ihb]; rfl
 | cond x a b iha ihb => funext s; simp only [slim, execS, exec, iha, ihb]; rfl
 | block id c ih => funext s; simp only [slim, execS, exec, ih]; rfl
 | loop c ih => funext s; simp only [slim, execS, exec, ih]
 | exit id => rfl
 | ret => rfl
 | rangeFunc => rfl
 | scope => rfl
 | label => rfl
 | goto => rfl
 | refuse => rfl

/-! ### Runs and what holds behind them -/

def wpD (E : Env) (c : SC) (Q : Ex → St → Prop) (s : St) : Prop := ∃ ex s', execS E c s = some (ex, s') ∧ Q ex s'

section
variable {E : Env} {Q : Ex → St → Prop} {s : St}

/-- What holds behind a part, before the rest. -/
def thenS (E : Env) (b : SC) (Q : Ex → St → Prop) : Ex → St → Prop
 | .normal, s => wpD E b Q s
 | ex, s => Q ex s
def inBlock (id : Nat) (Q : Ex → St → Prop) : Ex → St → Prop
 | .exit j, s => if j = id then Q .normal s else Q (.exit j) s
 | ex, s => Q ex s

theorem wd_seq {a b : SC} (h : wpD E a (thenS E b Q) s) : wpD E (.seq a b) Q s := by
 obtain ⟨ex, s1, h1, h2⟩ := h
 cases ex with
 | normal =>
  obtain ⟨ex', s2, h3, h4⟩ := h2
  exact ⟨ex', s2, by simp [execS, h1, h3], h4⟩
 | exit id => exact ⟨_, s1, by simp [execS, h1], h2⟩
 | ret => exact ⟨_, s1, by simp [execS, h1], h2⟩
theorem wd_block {id : Nat} {c : SC} (h : wpD E c (inBlock id Q) s) : wpD E (.block id c) Q s := by
 obtain ⟨ex, s1, h1, h2⟩ := h
 cases ex with
 | normal => exact ⟨_, s1, by simp [execS, h1], h2⟩
 | exit j =>
  simp only [inBlock] at h2
  by_cases hj : j = id
  ·subst hj; rw [if_pos rfl] at h2; exact ⟨.normal, s1, by simp [execS, h1], h2⟩
  ·rw [if_neg hj] at h2; exact ⟨_, s1, by simp [execS, h1, hj], h2⟩
 | ret => exact ⟨_, s1, by simp [execS, h1], h2⟩
theorem wd_mono {c : SC} {Q' : Ex → St → Prop} (h : wpD E c Q s) (hq : ∀ ex s, Q ex s → Q' ex s) : wpD E c Q' s := by
 obtain ⟨ex, s1, h1, h2⟩ := h; exact ⟨ex, s1, h1, hq _ _ h2⟩

/-- What a round must leave. -/
def inLoop (I : St → Prop) (Q : Ex → St → Prop) : Ex → St → Prop
 | .normal, s => I s
 | ex, s => Q ex s

end

/-- What a function's end must be. -/
def fin (T : Tys) (n : Nat) (rs : List ResultVar) (r : D × List D) : Ex → St → Prop
 | .normal, s => finD T n rs s = some r
 | .ret, s => finD T n rs s = some r
 | .exit _, _ => False

/-- A call, by its function's slim code. -/
theorem Sys.call_wp {Y : Sys} {f : FuncId} {fn : Func} {c : Code} {k : SC} {a l : List D} {r : D × List D} (hb : Y.base f a l = none) (hf : Y.P.funcs[f]? = some fn) (hok : fnOk fn a.length = true)
  (hbody : fn.body = some c) (hk : slim Y.lends c = k) (h : wpD Y.env k (fin Y.T l.length fn.results.toList r) (entry a l)) : Y.call f a l = some r := by
 refine Sys.call_run hb hf hok ?_
 obtain ⟨ex, s1, h1, h2⟩ := h
 unfold runF
 rw [← hk] at h1
 have h3 : execS Y.env (slim Y.env.lends c) = exec Y.env c := execS_eq Y.env c
 have h4 : exec Y.env c (entry a l) = some (ex, s1) := by rw [← h3]; exact h1
 rw [hbody]
 simp only [h4]
 cases ex with
 | normal => exact h2
 | ret => exact h2
 | exit id => exact h2.elim

/-! ### Rules for one operation -/

section
variable (E : Env) (pm : Pm) (s : St) (dst : Option Tmp) (ty : TypeId)

theorem stepS_none (op : Op) : stepS E pm s ⟨dst, op, ty, none⟩ = opS E pm s dst op ty := nr rfl
/-- A guarded operation. -/
def grd (E : Env) (pm : Pm) (s : St) (dst : Option Tmp) (op : Op) (ty : TypeId) (b : Bool) (d : D) : Option St :=
 match d with
 | .bool b' => if b' == b then opS E pm s dst op ty else some (s.putO dst (.konst undef))
 | .konst (.tuple _) => some (s.putO dst (.konst undef))
 | _ => none
theorem stepS_guard (op : Op) (t : Tmp) (b : Bool) : stepS E pm s ⟨dst, op, ty, some (some t, b)⟩ = grd E pm s dst op ty b (s.v t) := nr rfl
theorem grdT (op : Op) (b' : Bool) : grd E pm s dst op ty true (.bool b') = if b' = true then opS E pm s dst op ty else some (s.putO dst (.konst undef)) := by cases b' <;> rfl
theorem grdF (op : Op) (b' : Bool) : grd E pm s dst op ty false (.bool b') = if b' = true then some (s.putO dst (.konst undef)) else opS E pm s dst op ty := by cases b' <;> rfl
theorem grdU (op : Op) (b : Bool) : grd E pm s dst op ty b (.konst undef) = some (s.putO dst (.konst undef)) := nr rfl
def pk (s : St) (dst : Option Tmp) (c a b : Option D) : Option St :=
 match c, a, b with
 | some (.bool t), some x, some y => if (if t then x else y).hasObj then none else some (s.putO dst (if t then x else y))
 | _, _, _ => none
theorem opS_pick (c a b : Operand) : opS E pm s dst (.pick c a b) ty = pk s dst (ev E.T s ty c) (ev E.T s ty a) (ev E.T s ty b) := nr rfl
theorem pkT (x y : D) (h : x.hasObj = false) : pk s dst (some (.bool true)) (some x) (some y) = some (s.putO dst x) := by simp [pk, h]
theorem pkF (x y : D) (h : y.hasObj = false) : pk s dst (some (.bool false)) (some x) (some y) = some (s.putO dst y) := by simp [pk, h]
theorem pkB (t p q : Bool) : pk s dst (some (.bool t)) (some (.bool p)) (some (.bool q)) = some (s.putO dst (.bool (if t then p else q))) := by cases t <;> rfl
theorem hoB (b : Bool) : (D.bool b).hasObj = false := by simp [D.hasObj]
theorem hoI (k : IntKind) (n : Int) : (D.int k n).hasObj = false := by simp [D.hasObj]
theorem hoS (b : ByteArray) : (D.str b).hasObj = false := by simp [D.hasObj]
theorem opS_alloc (t : TypeId) : opS E pm s dst (.alloc t) ty = if E.T.known t then some (s.putO dst (.box (E.T.zeros t))) else none := nr rfl
theorem opS_box (t : TypeId) (x : Operand) : opS E pm s dst (.box t x) ty = if ty = 900003 then (opBox E.T pm s dst t x).bind fun s1 => frzDst pm s1 dst else opBox E.T pm s dst t x := nr rfl
theorem opBox_eq (t : TypeId) (x : Operand) : opBox E.T pm s dst t x = match keepA (ev E.T s t x) with
  | some ds => if E.T.isStruct t then some (s.putO dst (.box ds)) else none
  | none =>
   match take E.T pm s t x with
   | some (d, s1) => if E.T.isStruct t == d.isAgg then some (s1.putO dst (.box d.asCells)) else none
   | none => none := nr rfl
theorem opS_build (t : TypeId) (parts : Array (Nat × Operand)) : opS E pm s dst (.build t parts) ty = match E.T.nest t with
  | some fl => if E.T.isStruct t && E.T.known t then (fillN E.T pm fl s (E.T.zeros t) parts.toList).map fun r => r.2.putO dst (.agg r.1) else none
  | none => match E.T.ty t with
   | .struct fs => if E.T.known t then (fillD E.T pm (fun i => fs.getD i 0) 1 s (E.T.zeros t) parts.toList).map fun r => r.2.putO dst (.agg r.1) else none
   | _ => none := nr rfl
theorem opS_buildSlice (t : TypeId) (len : Nat) (parts : Array (Nat × Operand)) : opS E pm s dst (.buildSlice t len parts) ty = if ty = 900004 then (opBs E.T pm s dst t len parts).bind fun s1 => frzCs pm s1 dst else opBs E.T pm s dst t len parts := nr rfl
theorem opS_store (t : TypeId) (a x : Operand) : opS E pm s none (.store t a x) ty = if ty = 900007 then opStoreG E.T pm t a (takeM E.T pm s t x) else if ty = 900010 then opTie E.T pm s t a x else opStore E.T pm s t a x := nr rfl
def putR (s : St) (dst : Option Tmp) : Option D → Option St
 | some r => some (s.putO dst r)
 | none => none
theorem putRS (r : D) : putR s dst (some r) = some (s.putO dst r) := nr rfl
def putQ (dst : Option Tmp) : Option (D × St) → Option St
 | some r => some (r.2.putO dst r.1)
 | none => none
theorem putQS (r : D) (s : St) : putQ dst (some (r, s)) = some (s.putO dst r) := nr rfl
def bin1 (T : Tys) (s : St) (dst : Option Tmp) (op : BinOp) (t : TypeId) : Option D → Option D → Option St
 | some a, some b => if boolOk T t a then putR s dst (binD op a b) else none
 | _, _ => none
theorem bin1S (T : Tys) (op : BinOp) (t : TypeId) (a b : D) : bin1 T s dst op t (some a) (some b) = if boolOk T t a then putR s dst (binD op a b) else none := nr rfl
def fzB (pm : Pm) (dst : Option Tmp) (u : Tmp) : Option St → Option St
 | some s1 => frzF pm s1 dst u
 | none => none
def fbC (pm : Pm) (s1 : St) (u : Tmp) : D → Option St
 | .bool b => if b then some s1 else frzDst pm s1 (some u)
 | _ => none
theorem fzBS (s1 : St) (t u : Tmp) (h : pm.rd t = true) : fzB pm (some t) u (some s1) = fbC pm s1 u (s1.v t) := by
 show (if pm.rd t then _ else none) = _
 rw [if_pos h]
 cases s1.v t <;> rfl
theorem bin0 (op : BinOp) (t : TypeId) (x y : Operand) (t' : TypeId) : opS E pm s dst (.binOp op t x y t') ty = if ty < 2000000 then opBinS E.T pm s dst op t x y else fzB pm dst (ty - 2000000) (opBinS E.T pm s dst op t x y) := by
 show (if ty < 2000000 then opBinS E.T pm s dst op t x y else (opBinS E.T pm s dst op t x y).bind fun s1 => frzF pm s1 dst (ty - 2000000)) = _
 cases opBinS E.T pm s dst op t x y <;> rfl
theorem opB_bin (op : BinOp) (t : TypeId) (x y : Operand) (hq : nilQ E.T op t y = none) : opBinS E.T pm s dst op t x y = bin1 E.T s dst op t (ev E.T s t x) (ev E.T s t y) := by
 unfold opBinS
 rw [hq]
 simp only
 cases ev E.T s t x <;> cases ev E.T s t y <;> simp only [bin1]
 rename_i a b
 cases binD op a b <;> rfl
theorem binT (op : BinOp) (t : TypeId) (x : Operand) (u : Tmp) (t' : TypeId) : opS E pm s dst (.binOp op t x (.tmp u) t') ty = if ty < 2000000 then bin1 E.T s dst op t (ev E.T s t x) (some (s.v u)) else fzB pm dst (ty - 2000000) (bin1 E.T s dst op t (ev E.T s t x) (some (s.v u))) := by
 rw [bin0, opB_bin E pm s dst op t x (.tmp u) rfl]; rfl
theorem binI (op : BinOp) (t : TypeId) (x : Operand) (k : IntKind) (n : Int) (t' : TypeId) : opS E pm s dst (.binOp op t x (.const (.int k n)) t') ty = if ty < 2000000 then bin1 E.T s dst op t (ev E.T s t x) (some (.int k n)) else fzB pm dst (ty - 2000000) (bin1 E.T s dst op t (ev E.T s t x) (some (.int k n))) := by
 rw [bin0, opB_bin E pm s dst op t x _ rfl]; rfl
theorem binBo (op : BinOp) (t : TypeId) (x : Operand) (b : Bool) (t' : TypeId) : opS E pm s dst (.binOp op t x (.const (.bool b)) t') ty = if ty < 2000000 then bin1 E.T s dst op t (ev E.T s t x) (some (.bool b)) else fzB pm dst (ty - 2000000) (bin1 E.T s dst op t (ev E.T s t x) (some (.bool b))) := by
 rw [bin0, opB_bin E pm s dst op t x _ rfl]; rfl
theorem binSt (op : BinOp) (t : TypeId) (x : Operand) (b : ByteArray) (t' : TypeId) : opS E pm s dst (.binOp op t x (.const (.string b)) t') ty = if ty < 2000000 then bin1 E.T s dst op t (ev E.T s t x) (some (.str b)) else fzB pm dst (ty - 2000000) (bin1 E.T s dst op t (ev E.T s t x) (some (.str b))) := by
 rw [bin0, opB_bin E pm s dst op t x _ rfl]; rfl
def putN (s : St) (dst : Option Tmp) (q : Bool) : Option Bool → Option St
 | some b => some (s.putO dst (.bool (b == q)))
 | none => none
theorem putNT (b : Bool) : putN s dst true (some b) = some (s.putO dst (.bool b)) := by cases b <;> rfl
theorem putNF (b : Bool) : putN s dst false (some b) = some (s.putO dst (.bool (!b))) := by cases b <;> rfl
def nt0 (op : BinOp) (s : St) (dst : Option Tmp) (r : Option Bool) (o : Option St) : Ty → Option St
 | .slice _ => match op with | .eql => putN s dst true r | .neq => putN s dst false r | _ => o
 | _ => o
theorem nt0E (r : Option Bool) (o : Option St) (e : TypeId) : nt0 .eql s dst r o (.slice e) = putN s dst true r := nr rfl
theorem nt0N (r : Option Bool) (o : Option St) (e : TypeId) : nt0 .neq s dst r o (.slice e) = putN s dst false r := nr rfl
theorem opB_nil (op : BinOp) (t : TypeId) (u : Tmp) : opBinS E.T pm s dst op t (.tmp u) (.const (.slice none 0 0)) = nt0 op s dst (nilD pm s (s.v u)) (bin1 E.T s dst op t (some (s.v u)) (ev E.T s t (.const (.slice none 0 0)))) (E.T.ty t) := by
 have key : ∀ q, nilQ E.T op t (.const (.slice none 0 0)) = some q → opBinS E.T pm s dst op t (.tmp u) (.const (.slice none 0 0)) = putN s dst q (nilD pm s (s.v u)) := by
  intro q hq
  unfold opBinS
  rw [hq]
  simp only [ev, Option.bind_some]
  cases nilD pm s (s.v u) <;> rfl
 cases ht : E.T.ty t with
 | slice e =>
  cases op <;> first
   | (simp only [nt0]; exact key true (by simp [nilQ, ht]))
   | (simp only [nt0]; exact key false (by simp [nilQ, ht]))
   | (simp only [nt0]; exact opB_bin E pm s dst _ t _ _ (by simp [nilQ, ht]))
 | _ => exact opB_bin E pm s dst _ t _ _ (by simp [nilQ, ht])
theorem binNil (op : BinOp) (t : TypeId) (u : Tmp) (t' : TypeId) : opS E pm s dst (.binOp op t (.tmp u) (.const (.slice none 0 0)) t') ty = if ty < 2000000 then nt0 op s dst (nilD pm s (s.v u)) (bin1 E.T s dst op t (some (s.v u)) (ev E.T s t (.const (.slice none 0 0)))) (E.T.ty t)
  else fzB pm dst (ty - 2000000) (nt0 op s dst (nilD pm s (s.v u)) (bin1 E.T s dst op t (some (s.v u)) (ev E.T s t (.const (.slice none 0 0)))) (E.T.ty t)) := by
 rw [bin0, opB_nil]
theorem ndSl (e : TypeId) (x : D) (xs : List D) : nilD pm s (.sl e (x :: xs)) = some false := nr rfl
theorem ndOwn (e : TypeId) (x : D) (xs : List D) : nilD pm s (.own e (x :: xs)) = some false := nr rfl
theorem ndK (A : Option Addr) (n c : Nat) : nilD pm s (.konst (.slice A n c)) = some A.isNone := nr rfl
theorem opS_convert (src d : TypeId) (x : Operand) : opS E pm s dst (.convert src d x) ty = if E.T.known src then
   match ev E.T s src x, E.T.ty d with
   | some (.int _ n), .int k => some (s.putO dst (.int k (k.wrap n)))
   | some (.str b), .string => some (s.putO dst (.str b))
   | _, _ => none
  else none := nr rfl
theorem opS_makeFunc (f : FuncId) (first captured : Array Operand) : opS E pm s dst (.makeFunc (.func f) first captured) ty = if ty < 3000000 then (if first.isEmpty then (capD pm s captured.toList).map fun r => r.2.putO dst (.clo f r.1) else none)
  else (if first.isEmpty then (capV pm s (ty - 3000000) captured.toList).map fun r => r.2.putO dst (.ocl false f r.1) else none) := nr rfl
theorem opS_nilCheck (x : Operand) : opS E pm s dst (.nilCheck x) ty = (ev E.T s ty x).bind fun d =>
   match d with
   | .box _ => some (opMove s dst x d)
   | .vw L n m => match s.look pm L n m with | some (.box _) => some (opMove s dst x d) | _ => none
   | .pe L _ n m => match s.look pm L n m with | some _ => some (opMove s dst x d) | none => none
   | .cptr _ => some (opMove s dst x d)
   | .clo _ _ => some (opMove s dst x d)
   | .ocl false _ _ => some (opMove s dst x d)
   | _ => none := nr rfl
theorem opS_append (x y : Operand) (t t' : TypeId) : opS E pm s dst (.call ⟨.builtin .append, #[x, y], #[t, t']⟩) ty = if t = t' then (if isZ (ev E.T s t y) then opAppZ E.T pm s t x else opAppend E.T pm s t x y).map fun r => r.2.putO dst r.1 else none := nr rfl
theorem opS_call (f : FuncId) (args : Array Operand) (ts : Array TypeId) : opS E pm s dst (.call ⟨.value (.func f), args, ts⟩) ty = if args.size = ts.size then callD E pm s dst f (args.toList.zip ts.toList) [] else none := nr rfl
theorem opS_callv (u : Tmp) (args : Array Operand) (ts : Array TypeId) : opS E pm s dst (.call ⟨.value (.tmp u), args, ts⟩) ty = match s.v u with
   | .clo f caps => if args.size = ts.size then callD E pm s dst f (args.toList.zip ts.toList) caps else none
   | .ocl false f caps => if args.size = ts.size then callO E pm s dst f (args.toList.zip ts.toList) caps else none
   | _ => none := nr rfl
end

theorem ev_tmp (T : Tys) (s : St) (t : TypeId) (u : Tmp) : ev T s t (.tmp u) = some (s.v u) := nr rfl
theorem ev_int (T : Tys) (s : St) (t : TypeId) (k : IntKind) (n : Int) : ev T s t (.const (.int k n)) = some (.int k n) := nr rfl
theorem ev_bool (T : Tys) (s : St) (t : TypeId) (b : Bool) : ev T s t (.const (.bool b)) = some (.bool b) := nr rfl
theorem ev_str (T : Tys) (s : St) (t : TypeId) (b : ByteArray) : ev T s t (.const (.string b)) = some (.str b) := nr rfl
theorem ev_nil (T : Tys) (s : St) (t : TypeId) : ev T s t (.const (.slice none 0 0)) = match T.ty t with | .slice e => some (.own e []) | _ => none := nr rfl
theorem ev_func (T : Tys) (s : St) (t : TypeId) (f : FuncId) : ev T s t (.func f) = some (.clo f []) := nr rfl

/-- What a slot holds behind a filling. -/
theorem v_put (s : St) (t u : Nat) (d : D) : (s.put t d).v u = if u = t then d else s.v u := by rw [put_v]; rfl
theorem k_put (s : St) (t u : Nat) (d : D) : (s.put t d).k u = if u = t then (if d.hasObj then s.k t + 1 else s.k t) else s.k u := by
 unfold St.put
 by_cases h : u = t
 ·subst h; cases hd : d.hasObj <;> simp [upd]
 ·cases hd : d.hasObj <;> simp [upd, h]
theorem m_put (s : St) (t u : Nat) (d : D) : (s.put t d).m u = s.m u := by unfold St.put; split <;> rfl
theorem v_clr (s : St) (t u : Nat) : (s.clr t).v u = if u = t then .undef else s.v u := nr rfl
theorem k_clr (s : St) (t u : Nat) : (s.clr t).k u = s.k u := nr rfl
theorem m_clr (s : St) (t u : Nat) : (s.clr t).m u = s.m u := nr rfl
theorem v_bump (s : St) (t u : Nat) : (s.bump t).v u = s.v u := nr rfl
theorem k_bump (s : St) (t u : Nat) : (s.bump t).k u = s.k u := nr rfl
theorem m_bump (s : St) (t u : Nat) : (s.bump t).m u = if u = t then s.m t + 1 else s.m u := nr rfl
theorem v_set (s : St) (t u : Nat) (p : Place) (d : D) : (s.set (t :: p) d).v u = if u = t then setp (s.v t) p d else s.v u := nr rfl
theorem k_set (s : St) (t u : Nat) (p : Place) (d : D) : (s.set (t :: p) d).k u = s.k u := nr rfl
theorem m_set (s : St) (t u : Nat) (p : Place) (d : D) : (s.set (t :: p) d).m u = s.m u := nr rfl
theorem putO_some (s : St) (t : Tmp) (d : D) : s.putO (some t) d = s.put t d := nr rfl
theorem putO_none (s : St) (d : D) : s.putO none d = s := nr rfl
theorem env_T (Y : Sys) : Y.env.T = Y.T := nr rfl
theorem env_lends (Y : Sys) : Y.env.lends = Y.lends := nr rfl
theorem env_call (Y : Sys) : Y.env.call = Y.call := nr rfl
theorem entry_v (a l : List D) (t : Nat) : (entry a l).v t = if t < G then a.getD t .undef else l.getD (t - G) .undef := nr rfl
theorem entry_k (a l : List D) (t : Nat) : (entry a l).k t = 0 := nr rfl
theorem entry_m (a l : List D) (t : Nat) : (entry a l).m t = 0 := nr rfl

/-! ### Rules that a run is rewritten by -/

theorem one_state {r : Ex × St} {Q : Ex → St → Prop} : (∃ ex s', some r = some (ex, s') ∧ Q ex s') = Q r.1 r.2 :=
 propext ⟨fun ⟨ex, s', h, hq⟩ => by injection h with h; subst h; exact hq, fun h => ⟨r.1, r.2, rfl, h⟩⟩

section
variable (E : Env) (Q : Ex → St → Prop) (s : St)

theorem xSkip : wpD E .skip Q s = Q .normal s := one_state
theorem xExit (id : Nat) : wpD E (.exit id) Q s = Q (.exit id) s := one_state
theorem xRet : wpD E .ret Q s = Q .ret s := one_state
theorem xNil : wpD E (.ops []) Q s = Q .normal s := one_state
/-- The rest of a list of operations. -/
def nxt (E : Env) (l : List SOp) (Q : Ex → St → Prop) : Option St → Prop
 | some s => wpD E (.ops l) Q s
 | none => False
theorem nxtS (l : List SOp) : nxt E l Q (some s) = wpD E (.ops l) Q s := nr rfl
theorem xCons (o : SOp) (l : List SOp) : wpD E (.ops (o :: l)) Q s = nxt E l Q (stepS E Pm.all s o) := by
 unfold wpD
 simp only [execS, seqS]
 cases stepS E Pm.all s o with
 | none => simp [nxt]
 | some s' => simp [nxt, wpD, execS]
theorem xDNil : wpD E (.draws []) Q s = Q .normal s := one_state
/-- The rest of a list of operations that draws its order. -/
def nxtD (E : Env) (l : List (PmL × SOp)) (Q : Ex → St → Prop) : Bool → Option St → Prop
 | true, some s => wpD E (.draws l) Q s
 | _, _ => False
theorem nxtDS (l : List (PmL × SOp)) : nxtD E l Q true (some s) = wpD E (.draws l) Q s := nr rfl
theorem xDCons (p : PmL) (o : SOp) (l : List (PmL × SOp)) : wpD E (.draws ((p, o) :: l)) Q s = nxtD E l Q (mvOkS p.pm s o.op) (stepS E p.pm s o) := by
 unfold wpD
 simp only [execS, drawS]
 cases mvOkS p.pm s o.op with
 | true =>
  cases stepS E p.pm s o with
  | none => simp [nxtD]
  | some s' => simp [nxtD, wpD, execS]
 | false => simp [nxtD]
theorem xSeq (a b : SC) : wpD E (.seq a b) Q s = wpD E a (thenS E b Q) s := by
 refine propext ⟨fun ⟨ex, s1, h1, h2⟩ => ?_, wd_seq⟩
 simp only [execS] at h1
 cases ha : execS E a s with
 | none => simp [ha] at h1
 | some q =>
  obtain ⟨ex', s2⟩ := q
  cases ex' with
  | normal => simp only [ha] at h1; exact ⟨_, s2, ha, ex, s1, h1, h2⟩
  | exit id => simp only [ha, Option.some.injEq, Prod.mk.injEq] at h1; obtain ⟨rfl, rfl⟩ := h1; exact ⟨_, s2, ha, h2⟩
  | ret => simp only [ha, Option.some.injEq, Prod.mk.injEq] at h1; obtain ⟨rfl, rfl⟩ := h1; exact ⟨_, s2, ha, h2⟩
/-- A test. -/
def cnd (E : Env) (a b : SC) (Q : Ex → St → Prop) (s : St) : Option D → Prop
 | some (.bool t) => if t = true then wpD E a Q s else wpD E b Q s
 | _ => False
theorem cndB (a b : SC) (t : Bool) : cnd E a b Q s (some (.bool t)) = if t = true then wpD E a Q s else wpD E b Q s := nr rfl
theorem xCond (c : Operand) (a b : SC) : wpD E (.cond c a b) Q s = cnd E a b Q s (ev E.T s 0 c) := by
 unfold wpD
 simp only [execS]
 cases ev E.T s 0 c with
 | none => simp [cnd]
 | some d => cases d with
  | bool t => cases t <;> simp [cnd, wpD]
  | _ => simp [cnd]
theorem xBlock (id : Nat) (c : SC) : wpD E (.block id c) Q s = wpD E c (inBlock id Q) s := by
 refine propext ⟨fun ⟨ex, s1, h1, h2⟩ => ?_, wd_block⟩
 simp only [execS] at h1
 cases ha : execS E c s with
 | none => simp [ha] at h1
 | some q =>
  obtain ⟨ex', s2⟩ := q
  cases ex' with
  | normal => simp only [ha, Option.some.injEq, Prod.mk.injEq] at h1; obtain ⟨rfl, rfl⟩ := h1; exact ⟨_, s2, ha, h2⟩
  | exit j =>
   simp only [ha] at h1
   by_cases hj : j = id
   ·simp only [hj, if_true, Option.some.injEq, Prod.mk.injEq] at h1; obtain ⟨rfl, rfl⟩ := h1; exact ⟨_, s2, ha, by simpa [inBlock, hj] using h2⟩
   ·simp only [hj, if_false, Option.some.injEq, Prod.mk.injEq] at h1; obtain ⟨rfl, rfl⟩ := h1; exact ⟨_, s2, ha, by simpa [inBlock, hj] using h2⟩
  | ret => simp only [ha, Option.some.injEq, Prod.mk.injEq] at h1; obtain ⟨rfl, rfl⟩ := h1; exact ⟨_, s2, ha, h2⟩
theorem xThenN (b : SC) : thenS E b Q .normal s = wpD E b Q s := nr rfl
theorem xThenE (b : SC) (id : Nat) : thenS E b Q (.exit id) s = Q (.exit id) s := nr rfl
theorem xThenR (b : SC) : thenS E b Q .ret s = Q .ret s := nr rfl
theorem xInN (id : Nat) : inBlock id Q .normal s = Q .normal s := nr rfl
theorem xInE (id j : Nat) : inBlock id Q (.exit j) s = if j = id then Q .normal s else Q (.exit j) s := nr rfl
theorem xInR (id : Nat) : inBlock id Q .ret s = Q .ret s := nr rfl
theorem xLoN (I : St → Prop) : inLoop I Q .normal s = I s := nr rfl
theorem xLoE (I : St → Prop) (id : Nat) : inLoop I Q (.exit id) s = Q (.exit id) s := nr rfl
theorem xLoR (I : St → Prop) : inLoop I Q .ret s = Q .ret s := nr rfl
theorem xFinN (T : Tys) (n : Nat) (rs : List ResultVar) (r : D × List D) : fin T n rs r .normal s = (finD T n rs s = some r) := nr rfl
theorem xFinR (T : Tys) (n : Nat) (rs : List ResultVar) (r : D × List D) : fin T n rs r .ret s = (finD T n rs s = some r) := nr rfl
end

section
variable (s : St) (dst : Option Tmp) (u : Tmp) (k : IntKind) (n : Int) (b : Bool) (x : ByteArray) (e : TypeId) (xs : List D) (L : Place) (i j c : Nat) (v : Value) (f : FuncId)
theorem mvInt : opMove s dst (.tmp u) (.int k n) = s.putO dst (.int k n) := nr rfl
theorem mvBool : opMove s dst (.tmp u) (.bool b) = s.putO dst (.bool b) := nr rfl
theorem mvStr : opMove s dst (.tmp u) (.str x) = s.putO dst (.str x) := nr rfl
theorem mvSl : opMove s dst (.tmp u) (.sl e xs) = s.putO dst (.sl e xs) := nr rfl
theorem mvKonst : opMove s dst (.tmp u) (.konst v) = s.putO dst (.konst v) := nr rfl
theorem mvOwn : opMove s dst (.tmp u) (.own e xs) = s.putO dst (.vw [u] (s.k u) (s.m u)) := nr rfl
theorem mvBox : opMove s dst (.tmp u) (.box xs) = s.putO dst (.vw [u] (s.k u) (s.m u)) := nr rfl
theorem mvVw : opMove s dst (.tmp u) (.vw L i j) = s.putO dst (.vw L i j) := nr rfl
theorem mvPe : opMove s dst (.tmp u) (.pe L c i j) = s.putO dst (.pe L c i j) := nr rfl
theorem mvCptr : opMove s dst (.tmp u) (.cptr xs) = s.putO dst (.cptr xs) := nr rfl
theorem mvOcl : opMove s dst (.tmp u) (.ocl b f xs) = s.putO dst (.ocl b f xs) := nr rfl
theorem mvClo : opMove s dst (.tmp u) (.clo f xs) = s.putO dst (.clo f xs) := nr rfl
theorem mvTup : opMove s dst (.tmp u) (.tup xs) = if hasObjs xs then (if hasObjs (seenT s u 0 xs) then (s.clr u).putO dst (.tup xs) else s.putO dst (.tup (seenT s u 0 xs))) else s.putO dst (.tup xs) := nr rfl
theorem stNil (i : Nat) : seenT s u i [] = [] := nr rfl
theorem stCons (i : Nat) (x : D) : seenT s u i (x :: xs) = seenC s u i x :: seenT s u (i + 1) xs := nr rfl
theorem scAgg (i : Nat) : seenC s u i (.agg xs) = .agg (seenL s [u, i] 0 xs) := nr rfl
theorem scInt (i : Nat) : seenC s u i (.int k n) = .int k n := nr rfl
theorem scBool (i : Nat) : seenC s u i (.bool b) = .bool b := nr rfl
theorem scStr (i : Nat) : seenC s u i (.str x) = .str x := nr rfl
theorem scSl (i : Nat) : seenC s u i (.sl e xs) = .sl e xs := nr rfl
theorem scKonst (i : Nat) : seenC s u i (.konst v) = .konst v := nr rfl
theorem scUndef (i : Nat) : seenC s u i .undef = .undef := nr rfl
theorem scOwn (i : Nat) : seenC s u i (.own e xs) = .vw [u, i] (s.k u) (s.m u) := nr rfl
theorem scVw (c : Nat) (L : Place) : seenC s u c (.vw L i j) = .vw L i j := nr rfl
theorem scBox (i : Nat) : seenC s u i (.box xs) = .vw [u, i] (s.k u) (s.m u) := nr rfl
theorem slNil (L : Place) (i : Nat) : seenL s L i [] = [] := nr rfl
theorem slIntP (L : Place) (i : Nat) : seenL s L i (.int k n :: xs) = .int k n :: seenL s L (i + 1) xs := nr rfl
theorem slBoolP (L : Place) (i : Nat) : seenL s L i (.bool b :: xs) = .bool b :: seenL s L (i + 1) xs := nr rfl
theorem slStrP (L : Place) (i : Nat) : seenL s L i (.str x :: xs) = .str x :: seenL s L (i + 1) xs := nr rfl
theorem slSlP (L : Place) (i : Nat) (zs : List D) : seenL s L i (.sl e zs :: xs) = .sl e zs :: seenL s L (i + 1) xs := nr rfl
theorem slKonstP (L : Place) (i : Nat) : seenL s L i (.konst v :: xs) = .konst v :: seenL s L (i + 1) xs := nr rfl
theorem slUndefP (L : Place) (i : Nat) : seenL s L i (.undef :: xs) = .undef :: seenL s L (i + 1) xs := nr rfl
theorem slVwP (L : Place) (i : Nat) (M : Place) (i2 j2 : Nat) : seenL s L i (.vw M i2 j2 :: xs) = .vw M i2 j2 :: seenL s L (i + 1) xs := nr rfl
theorem slOwnP (r c : Nat) (i : Nat) (zs : List D) : seenL s [r, c] i (.own e zs :: xs) = .vw [r, c, i] (s.k r) (s.m r) :: seenL s [r, c] (i + 1) xs := nr rfl
theorem slBoxP (r c : Nat) (i : Nat) (zs : List D) : seenL s [r, c] i (.box zs :: xs) = .vw [r, c, i] (s.k r) (s.m r) :: seenL s [r, c] (i + 1) xs := nr rfl
theorem mvAgg : opMove s dst (.tmp u) (.agg xs) = if hasObjs xs then (s.clr u).putO dst (.agg xs) else s.putO dst (.agg xs) := nr rfl
variable (pm : Pm)
theorem zsInt : opAssign pm s dst (.tmp u) (.int k n) = some (s.putO dst (.int k n)) := nr rfl
theorem zsBool : opAssign pm s dst (.tmp u) (.bool b) = some (s.putO dst (.bool b)) := nr rfl
theorem zsStr : opAssign pm s dst (.tmp u) (.str x) = some (s.putO dst (.str x)) := nr rfl
theorem zsSl : opAssign pm s dst (.tmp u) (.sl e xs) = some (s.putO dst (.sl e xs)) := nr rfl
theorem zsKonst : opAssign pm s dst (.tmp u) (.konst v) = some (s.putO dst (.konst v)) := nr rfl
theorem zsOwn : opAssign pm s dst (.tmp u) (.own e xs) = some ((s.clr u).putO dst (.own e xs)) := nr rfl
theorem zsBox : opAssign pm s dst (.tmp u) (.box xs) = some ((s.clr u).putO dst (.box xs)) := nr rfl
theorem zsVw1 (r : Nat) : opAssign pm s dst (.tmp u) (.vw [r] i j) = (pull pm s [r] i j).map fun q => q.2.putO dst q.1 := nr rfl
def asT (_s : St) (dst : Option Tmp) (a : Option (D × St)) (b : Option St) : Bool → Option St
 | true => a.map fun q => q.2.putO dst q.1
 | false => b
theorem asTT (a : Option (D × St)) (b : Option St) : asT s dst a b true = a.map fun q => q.2.putO dst q.1 := nr rfl
theorem asTF (a : Option (D × St)) (b : Option St) : asT s dst a b false = b := nr rfl
theorem zsVw2 (r r' : Nat) (p : Place) : opAssign pm s dst (.tmp u) (.vw (r :: r' :: p) i j) = asT s dst (takeD pm s (.vw (r :: r' :: p) i j)) (some (s.putO dst (.vw (r :: r' :: p) i j))) (isT pm s r) := by
 by_cases h : isT pm s r = true
 ·have h' : tupD pm s (.vw (r :: r' :: p) i j) = true := h
  unfold opAssign
  simp only [h', h, if_true]
  rfl
 ·have h' : tupD pm s (.vw (r :: r' :: p) i j) = false := Bool.eq_false_iff.mpr h
  unfold opAssign
  simp only [h', Bool.eq_false_iff.mpr h]
  rfl
theorem isTE (r : Nat) : isT pm s r = (pm.rd r && tupQ (s.v r)) := nr rfl
theorem tqTup : tupQ (.tup xs) = true := nr rfl
theorem tqAgg : tupQ (.agg xs) = false := nr rfl
theorem tqOwn : tupQ (.own e xs) = false := nr rfl
theorem tqBox : tupQ (.box xs) = false := nr rfl
theorem tqVw : tupQ (.vw L i j) = false := nr rfl
theorem tqU : tupQ .undef = false := nr rfl
theorem vtInt : vwT pm s (.int k n) = false := nr rfl
theorem vtBool : vwT pm s (.bool b) = false := nr rfl
theorem vtStr : vwT pm s (.str x) = false := nr rfl
theorem vtSl : vwT pm s (.sl e xs) = false := nr rfl
theorem vtOwn : vwT pm s (.own e xs) = false := nr rfl
theorem vtVw1 (r : Nat) : vwT pm s (.vw [r] i j) = false := nr rfl
theorem vtVw2 (r r' : Nat) (p : Place) : vwT pm s (.vw (r :: r' :: p) i j) = isT pm s r := nr rfl
theorem vtClo : vwT pm s (.clo f xs) = false := nr rfl
theorem zsPe : opAssign pm s dst (.tmp u) (.pe L c i j) = some (s.putO dst (.pe L c i j)) := nr rfl
theorem zsCptr : opAssign pm s dst (.tmp u) (.cptr xs) = some (s.putO dst (.cptr xs)) := nr rfl
theorem zsClo : opAssign pm s dst (.tmp u) (.clo f xs) = some (s.putO dst (.clo f xs)) := nr rfl
theorem zsTup : opAssign pm s dst (.tmp u) (.tup xs) = some (if hasObjs xs then (s.clr u).putO dst (.tup xs) else s.putO dst (.tup xs)) := nr rfl
theorem zsAgg : opAssign pm s dst (.tmp u) (.agg xs) = asT s dst (takeD pm s (.agg xs)) (some (if hasObjs xs then (s.clr u).putO dst (.agg xs) else s.putO dst (.agg xs))) (!hasObjs xs && xs.any (vwT pm s)) := by
 by_cases h : (!hasObjs xs && xs.any (vwT pm s)) = true
 ·have h' : tupD pm s (.agg xs) = true := h
  unfold opAssign
  simp only [h', h, if_true]
  rfl
 ·have h' : tupD pm s (.agg xs) = false := Bool.eq_false_iff.mpr h
  unfold opAssign
  simp only [h', Bool.eq_false_iff.mpr h]
  rfl
end

section
variable (k : IntKind) (x y : Int) (p q : Bool) (a b : ByteArray)
theorem biAdd : binD .add (.int k x) (.int k y) = some (.int k (k.wrap (x + y))) := by simp [binD]
theorem biSub : binD .sub (.int k x) (.int k y) = some (.int k (k.wrap (x - y))) := by simp [binD]
theorem biMul : binD .mul (.int k x) (.int k y) = some (.int k (k.wrap (x * y))) := by simp [binD]
theorem biQuo : binD .quo (.int k x) (.int k y) = if y = 0 then none else some (.int k (k.wrap (x.tdiv y))) := by simp [binD]
theorem biRem : binD .rem (.int k x) (.int k y) = if y = 0 then none else some (.int k (x.tmod y)) := by simp [binD]
theorem biAnd : binD .and (.int k x) (.int k y) = some (.int k (bitsD .and k x y)) := by simp [binD]
theorem biOr : binD .or (.int k x) (.int k y) = some (.int k (bitsD .or k x y)) := by simp [binD]
theorem biXor : binD .xor (.int k x) (.int k y) = some (.int k (bitsD .xor k x y)) := by simp [binD]
theorem biAndNot : binD .andNot (.int k x) (.int k y) = some (.int k (bitsD .andNot k x y)) := by simp [binD]
theorem biShl (k' : IntKind) : binD .shl (.int k x) (.int k' y) = if y < 0 then none else some (.int k (k.wrap (x * 2 ^ (min y.toNat k.bits)))) := by simp [binD]
theorem biShr (k' : IntKind) : binD .shr (.int k x) (.int k' y) = if y < 0 then none else some (.int k (x.fdiv (2 ^ (min y.toNat k.bits)))) := by simp [binD]
theorem biEq : binD .eql (.int k x) (.int k y) = some (.bool (decide (x = y))) := by simp [binD]; rfl
theorem biNe : binD .neq (.int k x) (.int k y) = some (.bool (!decide (x = y))) := by simp [binD]; rfl
theorem biLt : binD .lss (.int k x) (.int k y) = some (.bool (decide (x < y))) := by simp [binD]
theorem biLe : binD .leq (.int k x) (.int k y) = some (.bool (decide (x ≤ y))) := by simp [binD]
theorem biGt : binD .gtr (.int k x) (.int k y) = some (.bool (decide (y < x))) := by simp [binD]
theorem biGe : binD .geq (.int k x) (.int k y) = some (.bool (decide (y ≤ x))) := by simp [binD]
theorem biEqB : binD .eql (.bool p) (.bool q) = some (.bool (p == q)) := nr rfl
theorem biNeB : binD .neq (.bool p) (.bool q) = some (.bool (!(p == q))) := nr rfl
theorem biEqS : binD .eql (.str a) (.str b) = some (.bool (a.toList == b.toList)) := nr rfl
theorem biNeS : binD .neq (.str a) (.str b) = some (.bool (!(a.toList == b.toList))) := nr rfl
theorem biLtS : binD .lss (.str a) (.str b) = some (.bool (Op.bytesLess a.toList b.toList)) := nr rfl
theorem biAddS : binD .add (.str a) (.str b) = if a.size + b.size < 1099511627776 then some (.str (a ++ b)) else none := nr rfl
theorem unNot : unD .not (.bool p) = some (.bool (!p)) := nr rfl
theorem unNeg : unD .neg (.int k x) = some (.int k (k.wrap (0 - x))) := nr rfl
theorem boI (T : Tys) (t : TypeId) : boolOk T t (.int k x) = true := nr rfl
theorem boS (T : Tys) (t : TypeId) : boolOk T t (.str a) = true := nr rfl
theorem boB (T : Tys) (t : TypeId) : boolOk T t (.bool p) = match T.ty t with | .bool => true | _ => false := nr rfl
theorem boA (T : Tys) (t : TypeId) (k l : IntKind) (x y : Int) : boolOk T t (.agg [.int k x, .int l y]) = aggOk T k l (T.ty t) := nr rfl
theorem aggOkS (T : Tys) (k l : IntKind) (a b : TypeId) : aggOk T k l (.struct [a, b]) = (intK k (T.ty a) && intK l (T.ty b)) := nr rfl
theorem intKS (k : IntKind) : intK k (.int k) = true := by simp [intK]
theorem biEqA (k l : IntKind) (a b c d : Int) : binD .eql (.agg [.int k a, .int l b]) (.agg [.int k c, .int l d]) = some (.bool ((a == c) && (b == d))) := by simp [binD]
theorem biNeA (k l : IntKind) (a b c d : Int) : binD .neq (.agg [.int k a, .int l b]) (.agg [.int k c, .int l d]) = some (.bool (!((a == c) && (b == d)))) := by simp [binD]
end

/-! ### Lists of numbers -/

def ints (xs : List Int) : List D := xs.map (D.int .i64)
theorem ints_length (xs : List Int) : (ints xs).length = xs.length := by simp [ints]
theorem ints_get (xs : List Int) (i : Nat) : (ints xs)[i]? = (xs[i]?).map (D.int .i64) := by simp [ints]
theorem ints_hasSl (xs : List Int) : hasSls (ints xs) = false := by
 induction xs with
 | nil => rfl
 | cons x xs ih => simp only [ints, List.map_cons, hasSls, hasSl, Bool.false_or]; exact ih
theorem ints_hasObj (xs : List Int) : hasObjs (ints xs) = false := by
 induction xs with
 | nil => rfl
 | cons x xs ih => simp only [ints, List.map_cons, hasObjs, D.hasObj, Bool.false_or]; exact ih
theorem ints_frz (xs : List Int) : frzs (ints xs) = some (ints xs) := by
 induction xs with
 | nil => rfl
 | cons x xs ih => simp only [ints, List.map_cons, frzs, frz, Option.bind_some] at ih ⊢; rw [ih]; rfl
theorem ints_solid (xs : List Int) : (ints xs).all solid = true := by simp [ints, solid]
end Dv
/- Value semantics for Go code: a table of types, held against the program by the kernel. Conditions: the check passes. -/
namespace Dv
open Go

def zB : Value → Value → Bool
 | .int k n, .int k' n' => decide (k = k') && decide (n = n')
 | .bool b, .bool b' => b == b'
 | .string s, .string s' => s.size == 0 && s'.size == 0
 | .slice none 0 0, .slice none 0 0 => true
 | .nilFunc, .nilFunc => true
 | .pointer none, .pointer none => true
 | _, _ => false

theorem zB_eq {a b : Value} (h : zB a b = true) : a = b := by
 unfold zB at h
 split at h
 ·simp only [Bool.and_eq_true, decide_eq_true_eq] at h; rw [h.1, h.2]
 ·simp only [beq_iff_eq] at h; rw [h]
 ·simp only [Bool.and_eq_true, beq_iff_eq] at h
  rename_i s s'
  have : ∀ t : ByteArray, t.size = 0 → t = ByteArray.empty := by
   intro t ht
   obtain ⟨d⟩ := t
   have : d = #[] := Array.size_eq_zero_iff.1 ht
   rw [this]; rfl
  rw [this s h.1, this s' h.2]
 ·rfl
 ·rfl
 ·rfl
 ·cases h

def zsB : List Value → List Value → Bool
 | [], [] => true
 | a :: as, b :: bs => zB a b && zsB as bs
 | _, _ => false
theorem zsB_eq : ∀ {a b : List Value}, zsB a b = true → a = b
 | [], [], _ => rfl
 | [], _ :: _, h => by cases h
 | _ :: _, [], h => by cases h
 | a :: as, b :: bs, h => by
  simp only [zsB, Bool.and_eq_true] at h
  rw [zB_eq h.1, zsB_eq h.2]

def infoB (P : Program) (t : TypeId) (n : Nat) (z : Value) : Bool :=
 match P.info? t with
 | some i => (i.size == n) && (decide (4 < n) || decide (i.bytes ≤ 128)) && (match i.zero, z with | some (.agg a), .agg b => zsB a.toList b.toList | some v, z => zB v z | _, _ => false)
 | none => false

theorem infoB_is {P : Program} {t : TypeId} {n : Nat} {z : Value} (h : infoB P t n z = true) : InfoIs P t n z := by
 unfold infoB at h
 split at h
 ·rename_i i hi
  simp only [Bool.and_eq_true, Bool.or_eq_true, beq_iff_eq, decide_eq_true_eq] at h
  refine ⟨i, hi, h.1.1, ?_, fun h4 => h.1.2.resolve_left (by omega)⟩
  have h2 := h.2
  split at h2
  ·rename_i a b hz
   rw [hz]
   have := zsB_eq h2
   rw [← Array.toArray_toList (xs := a), this]
  ·rename_i v z' hz _
   rw [hz, zB_eq h2]
  ·cases h2
 ·cases h

def tyFactB (P : Program) (T : Tys) (t : TypeId) : Bool :=
 match T.ty t with
 | .int k => (match P.underlying t with | some (.int k') => decide (k' = k) | _ => false) && infoB P t 1 (.int k 0)
 | .bool => (match P.underlying t with | some .bool => true | _ => false) && infoB P t 1 (.bool false)
 | .string => (match P.underlying t with | some .string => true | _ => false) && infoB P t 1 (.string ByteArray.empty)
 | .slice e => (match P.underlying t with | some (.slice e') => e' == e | _ => false) && infoB P t 1 (.slice none 0 0)
 | .struct fs => (match P.underlying t with
   | some (.struct fields) =>
    match T.nest t with
    | none => (fields.size == fs.length) && (List.range fields.size).all (fun j => match fields[j]?, fs[j]? with | some f, some g => (f.offset == j) && (f.type == g) && T.known g && !T.isStruct g | _, _ => false)
    | some fl => decide (4 < fs.length) && (fields.size == fl.length) && (List.range fields.size).all (fun j => match fields[j]?, fl[j]? with | some f, some g => (f.offset == g.1) && (f.type == g.2) && T.known g.2 | _, _ => false)
   | _ => false) && infoB P t fs.length (.agg (fs.map (zeroV T)).toArray)
 | .func => (match P.underlying t with | some (.func ..) => true | _ => false) && infoB P t 1 .nilFunc
 | .ptr => (match P.underlying t with | some (.pointer _) => true | _ => false) && infoB P t 1 (.pointer none)
 | .map k e => match P.underlying t with | some (.map k' e') => (k' == k) && (e' == e) | _ => false
 | .other => true

theorem tyFactB_is {P : Program} {T : Tys} {t : TypeId} (h : tyFactB P T t = true) : TyFact P T t := by
 unfold tyFactB at h
 unfold TyFact
 cases hty : T.ty t <;> rw [hty] at h <;> simp only [Bool.and_eq_true] at h ⊢
 case int k =>
  refine ⟨?_, infoB_is h.2⟩
  have h1 := h.1
  split at h1
  ·rename_i k' hu; rw [hu]; simp only [decide_eq_true_eq] at h1; rw [h1]
  ·cases h1
 case bool =>
  refine ⟨?_, infoB_is h.2⟩
  have h1 := h.1
  split at h1
  ·assumption
  ·cases h1
 case string =>
  refine ⟨?_, infoB_is h.2⟩
  have h1 := h.1
  split at h1
  ·assumption
  ·cases h1
 case map k e =>
  split at h
  ·rename_i k' e' hu; rw [hu]; simp only [Bool.and_eq_true, beq_iff_eq] at h; rw [h.1, h.2]
  ·cases h
 case slice e =>
  refine ⟨?_, infoB_is h.2⟩
  have h1 := h.1
  split at h1
  ·rename_i k' hu; rw [hu]; simp only [beq_iff_eq] at h1; rw [h1]
  ·cases h1
 case struct fs =>
  refine ⟨?_, infoB_is h.2⟩
  have h1 := h.1
  split at h1
  ·rename_i fields hu
   refine ⟨fields, hu, ?_⟩
   cases hn : T.nest t with
   | none =>
    simp only [hn, Bool.and_eq_true, beq_iff_eq, List.all_eq_true, List.mem_range] at h1 ⊢
    refine ⟨h1.1, fun j f hf => ?_⟩
    have hlt := (Array.getElem?_eq_some_iff.1 hf).1
    have := h1.2 j hlt
    rw [hf] at this
    split at this
    ·rename_i f' g hf' hg
     simp only [Option.some.injEq] at hf'
     subst hf'
     simp only [Bool.and_eq_true, beq_iff_eq, Bool.not_eq_true'] at this
     obtain ⟨⟨⟨q1, q2⟩, q3⟩, q4⟩ := this
     subst q2
     exact ⟨q1, hg, q3, q4⟩
    ·cases this
   | some fl =>
    simp only [hn, Bool.and_eq_true, beq_iff_eq, List.all_eq_true, List.mem_range, decide_eq_true_eq] at h1 ⊢
    refine ⟨h1.1.1, h1.1.2, fun j f hf => ?_⟩
    have hlt := (Array.getElem?_eq_some_iff.1 hf).1
    have := h1.2 j hlt
    rw [hf] at this
    split at this
    ·rename_i f' g hf' hg
     simp only [Option.some.injEq] at hf'
     subst hf'
     simp only [Bool.and_eq_true, beq_iff_eq] at this
     obtain ⟨⟨q1, q2⟩, q3⟩ := this
     refine ⟨?_, by rw [q2]; exact q3⟩
     rw [hg, q1, q2]
    ·cases this
  ·cases h1
 case func =>
  refine ⟨?_, infoB_is h.2⟩
  have h1 := h.1
  split at h1
  ·exact ⟨_, _, _, by assumption⟩
  ·cases h1
 case ptr =>
  refine ⟨?_, infoB_is h.2⟩
  have h1 := h.1
  split at h1
  ·exact ⟨_, by assumption⟩
  ·cases h1

def tysN (tab : List Ty) (nst : List (TypeId × List (Nat × TypeId))) : Tys := { ty := fun t => tab.getD t .other, nest := fun t => nst.lookup t }

theorem tyOk_n {P : Program} {tab : List Ty} {nst : List (TypeId × List (Nat × TypeId))} (h : ((List.range tab.length).all fun t => tyFactB P (tysN tab nst) t && cmpB P (tysN tab nst) t) = true) : TyOk P (tysN tab nst) := by
 intro t
 rcases Nat.lt_or_ge t tab.length with ht | ht
 ·have := List.all_eq_true.1 h t (List.mem_range.2 ht)
  rw [Bool.and_eq_true] at this
  exact ⟨tyFactB_is this.1, this.2⟩
 ·have : (tysN tab nst).ty t = .other := by simp [tysN, List.getD_eq_getElem?_getD, List.getElem?_eq_none ht]
  refine ⟨?_, ?_⟩
  ·unfold TyFact
   rw [this]; trivial
  ·unfold cmpB
   rw [this]

theorem call_slim {Y : Sys} {f : FuncId} {fn : Func} {k : SC} {a l : List D} {r : D × List D} (hb : Y.base f a l = none) (hf : Y.P.funcs[f]? = some fn) (hok : fnOk fn a.length = true)
  (hk : fn.body.map (slim Y.lends) = some k) (h : wpD Y.env k (fin Y.T l.length fn.results.toList r) (entry a l)) : Y.call f a l = some r := by
 obtain ⟨c, hc, hk⟩ := Option.map_eq_some_iff.1 hk
 exact Sys.call_wp hb hf hok hc hk h
end Dv
/- Value semantics for Go code: rules that operations over data are rewritten by. Conditions: none beyond those in each lemma. -/
namespace Dv
open Go

section
variable (E : Env) (pm : Pm) (s : St) (dst : Option Tmp) (ty : TypeId) (u : Tmp) (t : TypeId)

theorem map_putR (o : Option D) : (o.map fun r => s.putO dst r) = putR s dst o := by cases o <;> rfl
theorem map_putQ (o : Option (D × St)) : (o.map fun r => r.2.putO dst r.1) = putQ dst o := by cases o <;> rfl

theorem yMove : opS E pm s dst (.move (.tmp u)) ty = some (opMove s dst (.tmp u) (s.v u)) := nr rfl
def frB (pm : Pm) : Option Tmp → Option St → Option St
 | some t, some s1 => frzDst pm s1 (some t)
 | _, _ => none
def frC (s1 : St) (t : Tmp) : Option D → Option St
 | some c => some (s1.set [t] c)
 | none => none
theorem frBS (s1 : St) (t : Tmp) (h1 : pm.rd t = true) (h2 : pm.wr t = true) : frB pm (some t) (some s1) = frC s1 t (frz (s1.v t)) := by
 show (if pm.rd t && pm.wr t then (frz (s1.v t)).map fun c => s1.set [t] c else none) = _
 rw [h1, h2]
 cases frz (s1.v t) <;> rfl
theorem fbCB (s1 : St) (u : Tmp) (b : Bool) : fbC pm s1 u (.bool b) = if b = true then some s1 else frB pm (some u) (some s1) := by
 cases b <;> rfl
theorem frCS (s1 : St) (t : Tmp) (c : D) : frC s1 t (some c) = some (s1.set [t] c) := nr rfl
def fcB (pm : Pm) : Option Tmp → Option St → Option St
 | some t, some s1 => frzCs pm s1 (some t)
 | _, _ => none
def fcD (s1 : St) (t : Tmp) (e : TypeId) : Option (List D) → Option St
 | some ys => some (s1.set [t] (.own e ys))
 | none => none
def fcC (s1 : St) (t : Tmp) : D → Option St
 | .own e xs => fcD s1 t e (frzs xs)
 | _ => none
theorem fcBS (s1 : St) (t : Tmp) (h1 : pm.rd t = true) (h2 : pm.wr t = true) : fcB pm (some t) (some s1) = fcC s1 t (s1.v t) := by
 show frzCs pm s1 (some t) = _
 unfold frzCs fcC
 dsimp only
 rw [h1, h2]
 cases s1.v t with
 | own e xs => simp only [Bool.and_self, if_true]; cases frzs xs <;> rfl
 | _ => rfl
theorem fcCS (s1 : St) (t : Tmp) (e : TypeId) (xs : List D) : fcC s1 t (.own e xs) = fcD s1 t e (frzs xs) := nr rfl
theorem fcDS (s1 : St) (t : Tmp) (e : TypeId) (ys : List D) : fcD s1 t e (some ys) = some (s1.set [t] (.own e ys)) := nr rfl
theorem yAssign : opS E pm s dst (.assign (.tmp u)) ty = if ty = 900003 then frB pm dst (opAssign pm s dst (.tmp u) (s.v u)) else if ty < 1000000 then opAssign pm s dst (.tmp u) (s.v u) else frB pm dst (opAssign pm s dst (.tmp u) (s.v u)) := by
 have hfr : ((opAssign pm s dst (.tmp u) (s.v u)).bind fun s1 => frzDst pm s1 dst) = frB pm dst (opAssign pm s dst (.tmp u) (s.v u)) := by
  rcases opAssign pm s dst (.tmp u) (s.v u) with _ | s1 <;> cases dst <;> rfl
 show (if frzQ ty = true then (opAssign pm s dst (.tmp u) (s.v u)).bind fun s1 => frzDst pm s1 dst else opAssign pm s dst (.tmp u) (s.v u)) = _
 rw [hfr]
 unfold frzQ
 by_cases h1 : ty = 900003
 ·rw [if_pos h1, if_pos h1]; rfl
 ·rw [if_neg h1, if_neg h1]
  by_cases h2 : ty < 1000000
  ·rw [if_pos h2, if_pos h2]; rfl
  ·rw [if_neg h2, if_neg h2]; rfl
theorem yAssignC (v : Value) : opS E pm s dst (.assign (.const v)) ty = if ty = 900003 then frB pm dst (putR s dst (ev E.T s ty (.const v))) else if ty < 1000000 then putR s dst (ev E.T s ty (.const v)) else frB pm dst (putR s dst (ev E.T s (ty - 1000000) (.const v))) := by
 have hfr : ∀ t, ((ev E.T s t (.const v)).bind fun d => (opAssign pm s dst (.const v) d).bind fun s1 => frzDst pm s1 dst) = frB pm dst (putR s dst (ev E.T s t (.const v))) := by
  intro t
  cases ev E.T s t (.const v) <;> cases dst <;> rfl
 have hno : ∀ t, ((ev E.T s t (.const v)).bind fun d => opAssign pm s dst (.const v) d) = putR s dst (ev E.T s t (.const v)) := by
  intro t
  cases ev E.T s t (.const v) <;> rfl
 show ((ev E.T s (asTy ty) (.const v)).bind fun d => if frzQ ty = true then (opAssign pm s dst (.const v) d).bind fun s1 => frzDst pm s1 dst else opAssign pm s dst (.const v) d) = _
 unfold frzQ asTy
 by_cases h1 : ty = 900003
 ·simp only [if_pos h1, if_true]; exact hfr _
 ·by_cases h2 : ty < 1000000
  ·simp only [if_neg h1, if_pos h2, Bool.false_eq_true, if_false]; exact hno _
  ·simp only [if_neg h1, if_neg h2, if_true]; exact hfr _
theorem yMoveC (v : Value) : opS E pm s dst (.move (.const v)) ty = putR s dst (ev E.T s ty (.const v)) := by
 show ((ev E.T s ty (.const v)).map fun d => opMove s dst (.const v) d) = _
 cases ev E.T s ty (.const v) <;> rfl
theorem yLoad : opS E pm s dst (.load t (.tmp u)) ty = putR s dst (opLoad E.T pm s t (.tmp u) (s.v u)) := map_putR s dst _
theorem yUn (op : UnOp) : opS E pm s dst (.unOp op t (.tmp u)) ty = putR s dst (unD op (s.v u)) := map_putR s dst _
theorem yField (i : Nat) : opS E pm s dst (.fieldAddr t (.tmp u) i) ty = putR s dst (opFieldAddr E.T pm s t (.tmp u) (s.v u) i) := map_putR s dst _
theorem yLen : opS E pm s dst (.call ⟨.builtin .len, #[.tmp u], #[t]⟩) ty = putR s dst (opLnM E.T pm s t (.tmp u) (s.v u)) := map_putR s dst _
theorem yExtract (i : Nat) : opS E pm s dst (.extract (.tmp u) i) ty = opExtract s dst (.tmp u) (s.v u) i := nr rfl
def slC (T : Tys) (pm : Pm) (s : St) (dst : Option Tmp) (t : TypeId) (x : Operand) (hi : Option Operand) : Option Operand → Option Operand → Option St
 | none, none => putQ dst (opCut T pm s t x hi)
 | _, _ => none
theorem slCS (T : Tys) (x : Operand) (hi : Option Operand) : slC T pm s dst t x hi none none = putQ dst (opCut T pm s t x hi) := nr rfl
def slF (T : Tys) (pm : Pm) (s : St) (dst : Option Tmp) (t : TypeId) (x : Operand) (lo : Option Operand) : Option Operand → Option Operand → Option St
 | none, none => putQ dst (opCutF T pm s t x lo)
 | _, _ => none
theorem slFS (T : Tys) (x : Operand) (lo : Option Operand) : slF T pm s dst t x lo none none = putQ dst (opCutF T pm s t x lo) := nr rfl
theorem ySlice (lo hi mx : Option Operand) : opS E pm s dst (.slice t (.tmp u) lo hi mx) ty =
  if ty = 900002 then slC E.T pm s dst t (.tmp u) hi lo mx
  else if ty = 900005 then slF E.T pm s dst t (.tmp u) lo hi mx
  else if ty = 900001 then putQ dst (opSlice E.T pm.see s t (.tmp u) (s.v u) lo hi mx) else putQ dst (opSlice E.T pm s t (.tmp u) (s.v u) lo hi mx) := by
 show (if ty = 900002 then (if lo.isNone && mx.isNone then (opCut E.T pm s t (.tmp u) hi).map fun r => r.2.putO dst r.1 else none)
  else if ty = 900005 then (if hi.isNone && mx.isNone then (opCutF E.T pm s t (.tmp u) lo).map fun r => r.2.putO dst r.1 else none)
  else (ev E.T s t (.tmp u)).bind fun d => (opSlice E.T (if ty = 900001 then pm.see else pm) s t (.tmp u) d lo hi mx).map fun r => r.2.putO dst r.1) = _
 split
 ·cases lo <;> cases mx <;> first | rfl | exact map_putQ dst _
 ·split
  ·cases hi <;> cases mx <;> first | rfl | exact map_putQ dst _
  ·split
   ·exact map_putQ dst _
   ·exact map_putQ dst _
def apI (T : Tys) (pm : Pm) (s : St) (t : TypeId) (x y : Operand) (d : D) : Option (D × St) := if isZ (some d) then opAppZ T pm s t x else opAppend T pm s t x y
theorem yAppend (x : Operand) (v : Tmp) : opS E pm s dst (.call ⟨.builtin .append, #[x, .tmp v], #[t, t]⟩) ty = putQ dst (apI E.T pm s t x (.tmp v) (s.v v)) := by
 rw [opS_append, if_pos rfl, map_putQ]; rfl
def mn1 (mx : Bool) : Option D → Option D → Option D
 | some a, some b => minD mx a b
 | _, _ => none
theorem mn1S (mx : Bool) (a b : D) : mn1 mx (some a) (some b) = minD mx a b := nr rfl
theorem minII (k : IntKind) (x y : Int) : minD false (.int k x) (.int k y) = some (.int k (leastI x y)) := by simp [minD]
theorem maxII (k : IntKind) (x y : Int) : minD true (.int k x) (.int k y) = some (.int k (mostI x y)) := by simp [minD]
theorem yMin (x y : Operand) (t' : TypeId) : opS E pm s dst (.call ⟨.builtin .min, #[x, y], #[t, t']⟩) ty = putR s dst (mn1 false (ev E.T s t x) (ev E.T s t' y)) := by
 show (match ev E.T s t x, ev E.T s t' y with | some a, some b => (minD false a b).map fun r => s.putO dst r | _, _ => none) = _
 cases ev E.T s t x <;> cases ev E.T s t' y <;> first | rfl | exact map_putR s dst _
theorem yMax (x y : Operand) (t' : TypeId) : opS E pm s dst (.call ⟨.builtin .max, #[x, y], #[t, t']⟩) ty = putR s dst (mn1 true (ev E.T s t x) (ev E.T s t' y)) := by
 show (match ev E.T s t x, ev E.T s t' y with | some a, some b => (minD true a b).map fun r => s.putO dst r | _, _ => none) = _
 cases ev E.T s t x <;> cases ev E.T s t' y <;> first | rfl | exact map_putR s dst _
theorem apSl (T : Tys) (x y : Operand) (e : TypeId) (xs : List D) : apI T pm s t x y (.sl e xs) = opAppend T pm s t x y := nr rfl
theorem apOwn (T : Tys) (x y : Operand) (e : TypeId) (xs : List D) : apI T pm s t x y (.own e xs) = opAppend T pm s t x y := nr rfl
theorem apVw (T : Tys) (x y : Operand) (L : Place) (n m : Nat) : apI T pm s t x y (.vw L n m) = opAppend T pm s t x y := nr rfl
theorem apK (T : Tys) (x y : Operand) (A : Option Addr) (c : Nat) : apI T pm s t x y (.konst (.slice A 0 c)) = opAppZ T pm s t x := nr rfl
/-- An index, once it is known. -/
def ix1 (T : Tys) (pm : Pm) (s : St) (t : TypeId) (x : Operand) (d : D) : Option D → Option D
 | some i => opIx T pm s t x d i
 | none => none
theorem ix1S (T : Tys) (x : Operand) (d i : D) : ix1 T pm s t x d (some i) = opIx T pm s t x d i := nr rfl
theorem yIndex (i : Operand) : opS E pm s dst (.indexAddr t (.tmp u) i) ty = putR s dst (ix1 E.T pm s t (.tmp u) (s.v u) (ev E.T s 0 i)) := by
 show (match some (s.v u), ev E.T s 0 i with
  | some a, some b => (opIx E.T pm s t (.tmp u) a b).map fun r => s.putO dst r
  | _, _ => none) = _
 cases ev E.T s 0 i with
 | none => rfl
 | some b => exact map_putR s dst _
def mk1 (T : Tys) (t : TypeId) : Option D → Option D → Option D
 | some a, some b => opMakeSlice T t a b
 | _, _ => none
theorem mk1S (T : Tys) (a b : D) : mk1 T t (some a) (some b) = opMakeSlice T t a b := nr rfl
theorem yMake (l c : Operand) : opS E pm s dst (.makeSlice t l c) ty = putR s dst (mk1 E.T t (ev E.T s 0 l) (ev E.T s 0 c)) := by
 show (match ev E.T s 0 l, ev E.T s 0 c with
  | some a, some b => (opMakeSlice E.T t a b).map fun r => s.putO dst r
  | _, _ => none) = _
 cases ev E.T s 0 l <;> cases ev E.T s 0 c <;> first | rfl | exact map_putR s dst _
def cv1 (s : St) (dst : Option Tmp) : Option D → Ty → Option St
 | some (.int _ n), .int k => some (s.putO dst (.int k (k.wrap n)))
 | some (.str b), .string => some (s.putO dst (.str b))
 | _, _ => none
theorem cv1I (k k' : IntKind) (n : Int) : cv1 s dst (some (.int k n)) (.int k') = some (s.putO dst (.int k' (k'.wrap n))) := nr rfl
theorem cv1S (b : ByteArray) : cv1 s dst (some (.str b)) .string = some (s.putO dst (.str b)) := nr rfl
theorem yConvert (src d : TypeId) (x : Operand) : opS E pm s dst (.convert src d x) ty = if E.T.known src then cv1 s dst (ev E.T s src x) (E.T.ty d) else none := by
 rw [opS_convert]
 split
 ·rcases ev E.T s src x with _ | d' <;> cases E.T.ty d <;> first | rfl | (cases d' <;> rfl)
 ·rfl
theorem yCall (f : FuncId) (args : Array Operand) (ts : Array TypeId) (h : args.size = ts.size) : opS E pm s dst (.call ⟨.value (.func f), args, ts⟩) ty = callD E pm s dst f (args.toList.zip ts.toList) [] := by
 rw [opS_call, if_pos h]
end

/-! ### Loads and addresses -/

section
variable {T : Tys} {pm : Pm} {s : St} {t : TypeId}

theorem ldC (x : Operand) (xs : List D) (hk : T.known t = true) (hs : T.isStruct t = false) : opLoad T pm s t x (.cptr xs) = xs[0]? := by simp [opLoad, hk, hs]
theorem ldCS (x : Operand) (xs : List D) (hk : T.known t = true) (hs : T.isStruct t = true) : opLoad T pm s t x (.cptr xs) = if T.size t ≤ xs.length then some (.agg (xs.take (T.size t))) else none := by simp [opLoad, hk, hs]

/-- A cell of an object that is found. -/
def cellOf (s : St) (L : Place) (c : Nat) : Option D → Option D
 | some o => (o.cells[c]?).bind fun x => noObjD (seen s L c x)
 | none => none
def cellsOf (s : St) (L : Place) (c n : Nat) : Option D → Option D
 | some o => if c + n ≤ o.cells.length then noObjD (.agg ((List.range n).map fun i => seen s L (c + i) (o.cells.getD (c + i) .undef))) else none
 | none => none
theorem ldP (x : Operand) (L : Place) (c n m : Nat) (hk : T.known t = true) (hs : T.isStruct t = false) : opLoad T pm s t x (.pe L c n m) = cellOf s L c (s.look pm L n m) := by
 simp only [opLoad, hk, hs, if_true, addrD]
 cases s.look pm L n m <;> simp [cellOf]
theorem ldPS (x : Operand) (L : Place) (c n m : Nat) (hk : T.known t = true) (hs : T.isStruct t = true) : opLoad T pm s t x (.pe L c n m) = cellsOf s L c (T.size t) (s.look pm L n m) := by
 simp only [opLoad, hk, hs, if_true, addrD]
 cases s.look pm L n m <;> simp [cellsOf]
theorem ldB (u : Tmp) (xs : List D) (hk : T.known t = true) (hs : T.isStruct t = false) : opLoad T pm s t (.tmp u) (.box xs) = cellOf s [u] 0 (some (.box xs)) := by
 simp only [opLoad, hk, hs, if_true, addrD]
 simp [cellOf]
theorem ldBS (u : Tmp) (xs : List D) (hk : T.known t = true) (hs : T.isStruct t = true) : opLoad T pm s t (.tmp u) (.box xs) = cellsOf s [u] 0 (T.size t) (some (.box xs)) := by
 simp only [opLoad, hk, hs, if_true, addrD]
 simp [cellsOf]
/-- The box at the end of a view. -/
def boxAt (s : St) (pm : Pm) (L : Place) (n m : Nat) : Option D :=
 match s.look pm L n m with
 | some (.box xs) => some (.box xs)
 | _ => none
theorem ldV (x : Operand) (L : Place) (n m : Nat) (hk : T.known t = true) (hs : T.isStruct t = false) : opLoad T pm s t x (.vw L n m) = cellOf s L 0 (boxAt s pm L n m) := by
 simp only [opLoad, hk, hs, if_true, addrD, boxAt]
 cases s.look pm L n m with
 | none => simp [cellOf]
 | some o => cases o <;> simp [cellOf]
theorem ldVS (x : Operand) (L : Place) (n m : Nat) (hk : T.known t = true) (hs : T.isStruct t = true) : opLoad T pm s t x (.vw L n m) = cellsOf s L 0 (T.size t) (boxAt s pm L n m) := by
 simp only [opLoad, hk, hs, if_true, addrD, boxAt]
 cases s.look pm L n m with
 | none => simp [cellsOf]
 | some o => cases o <;> simp [cellsOf]

/-- The object of a slot, seen from it. -/
def objOf : D → Option D
 | .own e xs => some (.own e xs)
 | .box xs => some (.box xs)
 | _ => none
theorem objOwn (e : TypeId) (xs : List D) : objOf (.own e xs) = some (.own e xs) := nr rfl
theorem objBox (xs : List D) : objOf (.box xs) = some (.box xs) := nr rfl
theorem look1 (u n m : Nat) : s.look pm [u] n m = if pm.rd u && (s.k u == n) then objOf (s.v u) else none := by
 simp only [St.look, List.isEmpty_nil, Bool.true_or, Bool.and_true, getp]
 split
 ·cases s.v u <;> rfl
 ·rfl
/-- The object of a cell of a slot's object. -/
def objO : Option D → Option D
 | some d => objOf d
 | none => none
theorem look2 (u c n m : Nat) (p : Place) : s.look pm (u :: c :: p) n m = if pm.rd u && (s.k u == n) && (s.m u == m) then objO (getp (s.v u) (c :: p)) else none := by
 simp only [St.look, List.isEmpty_cons, Bool.false_or]
 split
 ·cases getp (s.v u) (c :: p) with
  | none => rfl
  | some d => cases d <;> rfl
 ·rfl
theorem objOS (d : D) : objO (some d) = objOf d := nr rfl

theorem slSl (x : Operand) (e : TypeId) (xs : List D) : sliceD pm s x (.sl e xs) = some (e, xs, none) := nr rfl
theorem slOwn (u : Tmp) (e : TypeId) (xs : List D) : sliceD pm s (.tmp u) (.own e xs) = some (e, xs, some ([u], s.k u, s.m u)) := nr rfl
/-- The slice at the end of a view. -/
def slAt (L : Place) (n m : Nat) : Option D → Option (TypeId × List D × Option (Place × Nat × Nat))
 | some (.own e xs) => some (e, xs, some (L, n, m))
 | _ => none
theorem slAtS (L : Place) (n m : Nat) (e : TypeId) (xs : List D) : slAt L n m (some (.own e xs)) = some (e, xs, some (L, n, m)) := nr rfl
theorem slVw (x : Operand) (L : Place) (n m : Nat) : sliceD pm s x (.vw L n m) = slAt L n m (s.look pm L n m) := by
 simp only [sliceD]
 cases s.look pm L n m with
 | none => rfl
 | some o => cases o <;> rfl

/-- The length of a slice that is known. -/
def len1 (T : Tys) : Option (TypeId × List D × Option (Place × Nat × Nat)) → Option D
 | some (e, xs, _) => if T.known e then some (.int .i64 (T.len e xs)) else none
 | none => none
theorem len1S (e : TypeId) (xs : List D) (o : Option (Place × Nat × Nat)) (hk : T.known e = true) : len1 T (some (e, xs, o)) = some (.int .i64 (T.len e xs)) := by simp [len1, hk]
def ln0 (T : Tys) (pm : Pm) (s : St) (x : Operand) (d : D) : Ty → Option D
 | .string => match d with | .str b => some (.int .i64 b.size) | _ => none
 | .slice _ => len1 T (sliceD pm s x d)
 | _ => none
theorem lnT (x : Operand) (d : D) : opLen T pm s t x d = ln0 T pm s x d (T.ty t) := by
 unfold opLen ln0
 cases T.ty t with
 | slice e =>
  simp only
  cases sliceD pm s x d with
  | none => rfl
  | some q => rfl
 | string => cases d <;> rfl
 | _ => rfl
theorem lnKSl (x : Operand) (e : TypeId) (xs : List D) : opLnM T pm s t x (.sl e xs) = opLen T pm s t x (.sl e xs) := nr rfl
theorem lnKOwn (x : Operand) (e : TypeId) (xs : List D) : opLnM T pm s t x (.own e xs) = opLen T pm s t x (.own e xs) := nr rfl
def lnW (T : Tys) (pm : Pm) (s : St) (t : TypeId) (x : Operand) (L : Place) (n m : Nat) : Ty → Option D
 | .map _ _ => (s.lookM pm L n).map fun q => .int .i64 q.2.2.length
 | _ => opLen T pm s t x (.vw L n m)
theorem lnKVw (x : Operand) (L : Place) (n m : Nat) : opLnM T pm s t x (.vw L n m) = lnW T pm s t x L n m (T.ty t) := by
 show (match T.ty t with | .map _ _ => lenM T pm s t x (.vw L n m) | _ => opLn T pm s t x (.vw L n m)) = _
 unfold lnW lenM
 cases h : T.ty t <;> simp only [mapD] <;> first | rfl | (cases s.lookM pm L n <;> rfl)
theorem lnWM (T : Tys) (x : Operand) (L : Place) (n m : Nat) (k e : TypeId) : lnW T pm s t x L n m (.map k e) = (s.lookM pm L n).map fun q => .int .i64 q.2.2.length := nr rfl
theorem lnWS (T : Tys) (x : Operand) (L : Place) (n m : Nat) (e : TypeId) : lnW T pm s t x L n m (.slice e) = opLen T pm s t x (.vw L n m) := nr rfl
theorem lnWStr (T : Tys) (x : Operand) (L : Place) (n m : Nat) : lnW T pm s t x L n m .string = opLen T pm s t x (.vw L n m) := nr rfl
def mpOf : D → Option (TypeId × TypeId × List (List Int × List Int))
 | .mp k e es => some (k, e, es)
 | _ => none
theorem mpOfS (k e : TypeId) (es : List (List Int × List Int)) : mpOf (.mp k e es) = some (k, e, es) := nr rfl
theorem lookM1 (u n : Nat) : s.lookM pm [u] n = if pm.rd u && (s.k u == n) then mpOf (s.v u) else none := by
 simp only [St.lookM]
 split
 ·cases s.v u <;> rfl
 ·rfl
theorem lnKStr (x : Operand) (b : ByteArray) : opLnM T pm s t x (.str b) = opLen T pm s t x (.str b) := nr rfl
theorem lnKVs (x : Operand) (e : TypeId) (L : Place) (n m lo len : Nat) : opLnM T pm s t x (.vs e L n m lo len) = lnVs len (T.ty t) := nr rfl
theorem lnVsS (len : Nat) (e : TypeId) : lnVs len (.slice e) = some (.int .i64 len) := nr rfl
theorem ixKSl (x : Operand) (e : TypeId) (xs : List D) (i : D) : opIx T pm s t x (.sl e xs) i = opIndexAddr T pm s t x (.sl e xs) i := nr rfl
theorem ixKOwn (x : Operand) (e : TypeId) (xs : List D) (i : D) : opIx T pm s t x (.own e xs) i = opIndexAddr T pm s t x (.own e xs) i := nr rfl
theorem ixKVw (x : Operand) (L : Place) (n m : Nat) (i : D) : opIx T pm s t x (.vw L n m) i = opIndexAddr T pm s t x (.vw L n m) i := nr rfl
def ixV2 (T : Tys) (e e1 : TypeId) (L : Place) (va vb lo len : Nat) (n : Int) : Option D → Option D
 | some (.own e2 xs) => if e1 = e ∧ e2 = e ∧ T.known e = true ∧ T.size e = 1 ∧ 0 ≤ n ∧ n.toNat < len ∧ lo + len ≤ xs.length then some (.pe L (lo + n.toNat) va vb) else none
 | _ => none
def ixV1 (T : Tys) (pm : Pm) (s : St) (e1 : TypeId) (L : Place) (va vb lo len : Nat) (n : Int) : Ty → Option D
 | .slice e => ixV2 T e e1 L va vb lo len n (s.look pm L va vb)
 | _ => none
theorem ixKVs (x : Operand) (e : TypeId) (L : Place) (va vb lo len : Nat) (k : IntKind) (n : Int) : opIx T pm s t x (.vs e L va vb lo len) (.int k n) = ixV1 T pm s e L va vb lo len n (T.ty t) := by
 show ixVs T pm s t e L va vb lo len (.int k n) = _
 unfold ixVs ixV1
 cases T.ty t with
 | slice e' =>
  simp only
  rcases s.look pm L va vb with _ | d
  ·rfl
  ·cases d <;> rfl
 | _ => rfl
theorem ixV1S (e1 : TypeId) (L : Place) (va vb lo len : Nat) (n : Int) (e : TypeId) : ixV1 T pm s e1 L va vb lo len n (.slice e) = ixV2 T e e1 L va vb lo len n (s.look pm L va vb) := nr rfl
theorem ixV2S (e : TypeId) (L : Place) (va vb lo len : Nat) (n : Int) (xs : List D) (hk : T.known e = true) (hz : T.size e = 1) (h1 : 0 ≤ n ∧ n.toNat < len) (h2 : lo + len ≤ xs.length) : ixV2 T e e L va vb lo len n (some (.own e xs)) = some (.pe L (lo + n.toNat) va vb) := by
 unfold ixV2
 dsimp only
 rw [if_pos ⟨rfl, rfl, hk, hz, h1.1, h1.2, h2⟩]
theorem lnSl (x : Operand) (d : D) (e : TypeId) : ln0 T pm s x d (.slice e) = len1 T (sliceD pm s x d) := nr rfl
theorem lnStr (x : Operand) (b : ByteArray) : ln0 T pm s x (.str b) .string = some (.int .i64 b.size) := nr rfl
theorem len_1 (e : TypeId) (xs : List D) (h : T.size e = 1) : T.len e xs = xs.length := by simp [Tys.len, h]

/-- The address of an element. -/
def at1 (T : Tys) (e : TypeId) (n : Int) : Option (TypeId × List D × Option (Place × Nat × Nat)) → Option D
 | some (e', xs, o) =>
  if e' = e ∧ T.known e = true ∧ 0 ≤ n ∧ n.toNat < T.len e xs then
   match o with
   | none => some (.cptr ((xs.drop (n.toNat * T.size e)).take (T.size e)))
   | some (L, a, b) => some (.pe L (n.toNat * T.size e) a b)
  else none
 | none => none
def ix0 (T : Tys) (pm : Pm) (s : St) (x : Operand) (d : D) (n : Int) : Ty → Option D
 | .slice e => at1 T e n (sliceD pm s x d)
 | _ => none
theorem ixT (x : Operand) (d : D) (k : IntKind) (n : Int) : opIndexAddr T pm s t x d (.int k n) = ix0 T pm s x d n (T.ty t) := by
 unfold opIndexAddr ix0
 cases T.ty t with
 | slice e =>
  simp only
  cases sliceD pm s x d with
  | none => rfl
  | some q => rfl
 | _ => rfl
theorem ixSl (x : Operand) (d : D) (n : Int) (e : TypeId) : ix0 T pm s x d n (.slice e) = at1 T e n (sliceD pm s x d) := nr rfl
theorem at1N (e : TypeId) (n : Int) (xs : List D) (hk : T.known e = true) (hz : T.size e = 1) (hn : 0 ≤ n ∧ n.toNat < xs.length) : at1 T e n (some (e, xs, none)) = some (.cptr [xs.getD n.toNat .undef]) := by
 simp only [at1, hk, hz, Tys.len, if_true]
 rw [if_pos ⟨trivial, trivial, hn.1, hn.2⟩, Nat.mul_one, List.drop_eq_getElem_cons hn.2, List.getD_eq_getElem?_getD, List.getElem?_eq_getElem hn.2]; rfl
theorem at1P (e : TypeId) (n : Int) (xs : List D) (L : Place) (a b : Nat) (hk : T.known e = true) (hz : T.size e = 1) (hn : 0 ≤ n ∧ n.toNat < xs.length) : at1 T e n (some (e, xs, some (L, a, b))) = some (.pe L n.toNat a b) := by
 simp only [at1, hk, hz, Tys.len, if_true]
 rw [if_pos ⟨trivial, trivial, hn.1, hn.2⟩, Nat.mul_one]
end

/-! ### Values that are used up -/

section
variable {T : Tys} {pm : Pm} {s : St} {t : TypeId} (u : Tmp)

/-- A slot's value is used up. -/
def tk1 (pm : Pm) (s : St) (u : Tmp) (d : D) : Option (D × St) := takeD pm (if d.hasObj then s.clr u else s) d
theorem tkTmp : take T pm s t (.tmp u) = tk1 pm s u (s.v u) := nr rfl
theorem tkC (v : Value) : take T pm s t (.const v) = match ev T s t (.const v) with | none => none | some d => takeD pm s d := nr rfl
theorem tdInt (k : IntKind) (n : Int) : takeD pm s (.int k n) = some (.int k n, s) := by simp [takeD]
theorem tdBool (b : Bool) : takeD pm s (.bool b) = some (.bool b, s) := by simp [takeD]
theorem tdStr (b : ByteArray) : takeD pm s (.str b) = some (.str b, s) := by simp [takeD]
theorem tdSl (e : TypeId) (xs : List D) : takeD pm s (.sl e xs) = some (.sl e xs, s) := by simp [takeD]
theorem tdOwn (e : TypeId) (xs : List D) : takeD pm s (.own e xs) = some (.own e xs, s) := by simp [takeD]
theorem tdBox (xs : List D) : takeD pm s (.box xs) = some (.box xs, s) := by simp [takeD]
theorem tdClo (f : FuncId) (xs : List D) : takeD pm s (.clo f xs) = some (.clo f xs, s) := by simp [takeD]
theorem tdCptr (xs : List D) : takeD pm s (.cptr xs) = some (.cptr xs, s) := by simp [takeD]
theorem tdVw (L : Place) (n m : Nat) : takeD pm s (.vw L n m) = pull pm s L n m := by simp [takeD]
def td1 : Option (List D × St) → Option (D × St)
 | some r => some (.agg r.1, r.2)
 | none => none
theorem td1S (r : List D × St) : td1 (some r) = some (.agg r.1, r.2) := nr rfl
theorem tdAgg (xs : List D) : takeD pm s (.agg xs) = td1 (takeDs pm s xs) := by simp only [takeD]; cases takeDs pm s xs <;> rfl
def td2 (pm : Pm) (ds : List D) : Option (D × St) → Option (List D × St)
 | some r => (takeDs pm r.2 ds).map fun q => (r.1 :: q.1, q.2)
 | none => none
theorem td2S (ds : List D) (d : D) : td2 pm ds (some (d, s)) = (takeDs pm s ds).map fun q => (d :: q.1, q.2) := nr rfl
theorem tdsNil : takeDs pm s [] = some ([], s) := by simp [takeDs]
theorem tdsCons (d : D) (ds : List D) : takeDs pm s (d :: ds) = td2 pm ds (takeD pm s d) := by simp only [takeDs]; cases takeD pm s d <;> rfl
theorem t1Int (k : IntKind) (n : Int) : tk1 pm s u (.int k n) = some (.int k n, s) := by simp [tk1, takeD, D.hasObj]
theorem t1Bool (b : Bool) : tk1 pm s u (.bool b) = some (.bool b, s) := by simp [tk1, takeD, D.hasObj]
theorem t1Str (b : ByteArray) : tk1 pm s u (.str b) = some (.str b, s) := by simp [tk1, takeD, D.hasObj]
theorem t1Sl (e : TypeId) (xs : List D) : tk1 pm s u (.sl e xs) = some (.sl e xs, s) := by simp [tk1, takeD, D.hasObj]
theorem t1Own (e : TypeId) (xs : List D) : tk1 pm s u (.own e xs) = some (.own e xs, s.clr u) := by simp [tk1, takeD, D.hasObj]
theorem t1Box (xs : List D) : tk1 pm s u (.box xs) = some (.box xs, s.clr u) := by simp [tk1, takeD, D.hasObj]
theorem t1Clo (f : FuncId) (xs : List D) : tk1 pm s u (.clo f xs) = some (.clo f xs, s) := by simp [tk1, takeD, D.hasObj]
theorem t1Cptr (xs : List D) : tk1 pm s u (.cptr xs) = some (.cptr xs, s) := by simp [tk1, takeD, D.hasObj]
theorem t1Vw (L : Place) (n m : Nat) : tk1 pm s u (.vw L n m) = pull pm s L n m := by simp [tk1, takeD, D.hasObj]
theorem t1Agg (xs : List D) : tk1 pm s u (.agg xs) = td1 (takeDs pm (if hasObjs xs then s.clr u else s) xs) := by
 simp only [tk1, D.hasObj]; rw [tdAgg]; rfl
theorem hosNil : hasObjs [] = false := by simp [hasObjs]
theorem hosCons (d : D) (ds : List D) : hasObjs (d :: ds) = (d.hasObj || hasObjs ds) := by simp [hasObjs]
theorem hoSl (e : TypeId) (xs : List D) : (D.sl e xs).hasObj = false := by simp [D.hasObj]
theorem hoOwn (e : TypeId) (xs : List D) : (D.own e xs).hasObj = true := by simp [D.hasObj]
theorem hoBox (xs : List D) : (D.box xs).hasObj = true := by simp [D.hasObj]
theorem hoClo (f : FuncId) (xs : List D) : (D.clo f xs).hasObj = false := by simp [D.hasObj]
theorem hoCptr (xs : List D) : (D.cptr xs).hasObj = false := by simp [D.hasObj]
theorem hoVw (L : Place) (n m : Nat) : (D.vw L n m).hasObj = false := by simp [D.hasObj]
theorem hoPe (L : Place) (c n m : Nat) : (D.pe L c n m).hasObj = false := by simp [D.hasObj]
theorem hoK (v : Value) : (D.konst v).hasObj = false := by simp [D.hasObj]
theorem hoU : D.undef.hasObj = false := by simp [D.hasObj]
theorem hoAgg (xs : List D) : (D.agg xs).hasObj = hasObjs xs := by simp [D.hasObj]
theorem hoTup (xs : List D) : (D.tup xs).hasObj = hasObjs xs := by simp [D.hasObj]

/-- An object is pulled out of its slot. -/
def pl1 (s : St) (r : Nat) : Option D → Option (D × St)
 | some c => some (c, s.set [r] .undef)
 | none => none
theorem pl1S (r : Nat) (c : D) : pl1 s r (some c) = some (c, s.set [r] .undef) := nr rfl
theorem pull1 (r n m : Nat) (hw : pm.wr r = true) : pull pm s [r] n m = pl1 s r (s.look pm [r] n m) := by
 unfold pull
 cases s.look pm [r] n m with
 | none => rfl
 | some c => simp [hw, St.get, pl1]
/-- An object is pulled out of a cell. -/
def pl2 (s : St) (L : Place) (o : Option D) : Option D → Option (D × St)
 | some c => match o with
  | some (.own _ _) => (frz c).map fun c' => (c', s.set L c')
  | _ => some (c, s.set L .undef)
 | none => none
theorem pl2B (L : Place) (xs : List D) (c : D) : pl2 s L (some (.box xs)) (some c) = some (c, s.set L .undef) := nr rfl
theorem pl2A (L : Place) (xs : List D) (c : D) : pl2 s L (some (.agg xs)) (some c) = some (c, s.set L .undef) := nr rfl
theorem pl2O (L : Place) (e : TypeId) (xs : List D) (c : D) : pl2 s L (some (.own e xs)) (some c) = (frz c).map fun c' => (c', s.set L c') := nr rfl
theorem pull2 (u' c n m : Nat) (p : Place) (hw : pm.wr u' = true) : pull pm s (u' :: c :: p) n m = pl2 s (u' :: c :: p) (s.get (u' :: c :: p).dropLast) (s.look pm (u' :: c :: p) n m) := by
 unfold pull
 cases s.look pm (u' :: c :: p) n m with
 | none => rfl
 | some d => simp only [List.headD_cons, hw, if_true, pl2]; rfl
theorem get1 (r : Nat) : s.get [r] = some (s.v r) := nr rfl
theorem gpNil (d : D) : getp d [] = some d := by cases d <;> rfl
theorem gpOwn (e : TypeId) (xs : List D) (c : Nat) (p : Place) : getp (.own e xs) (c :: p) = (xs[c]?).bind fun d => getp d p := nr rfl
theorem gpBox (xs : List D) (c : Nat) (p : Place) : getp (.box xs) (c :: p) = (xs[c]?).bind fun d => getp d p := nr rfl
theorem gpAgg (xs : List D) (c : Nat) (p : Place) : getp (.agg xs) (c :: p) = (xs[c]?).bind fun d => getp d p := nr rfl
theorem spNil (d x : D) : setp d [] x = x := by cases d <;> rfl
theorem spOwn (e : TypeId) (xs : List D) (c : Nat) (p : Place) (x : D) : setp (.own e xs) (c :: p) x = .own e (xs.set c (setp (xs.getD c .undef) p x)) := nr rfl
theorem spBox (xs : List D) (c : Nat) (p : Place) (x : D) : setp (.box xs) (c :: p) x = .box (xs.set c (setp (xs.getD c .undef) p x)) := nr rfl
theorem spAgg (xs : List D) (c : Nat) (p : Place) (x : D) : setp (.agg xs) (c :: p) x = .agg (xs.set c (setp (xs.getD c .undef) p x)) := nr rfl
end

/-! ### Stores -/

section
variable {T : Tys} {pm : Pm} {s : St} {t : TypeId}

/-- A store, once the value is in hand. -/
def st1 (T : Tys) (pm : Pm) (t : TypeId) (ax : Operand) : Option (D × St) → Option St
 | none => none
 | some (d, s1) =>
  match ev T s1 t ax with
  | none => none
  | some ad =>
   match addrD pm s1 ax ad with
   | none => none
   | some (L, c, o) =>
    if T.known t && pm.wr (L.headD 0) && d.asCells.all solid && (T.size t == d.asCells.length) && (T.isStruct t == d.isAgg) && decide (c + T.size t ≤ o.cells.length) then
     let s2 := s1.set L (o.withCells (splice o.cells c d.asCells))
     some (if d.hasObj || hasObjs o.cells then s2.bump (L.headD 0) else s2)
    else none
theorem yStore (ax x : Operand) : opStore T pm s t ax x = st1 T pm t ax (take T pm s t x) := by
 unfold opStore opStoreG st1
 rcases take T pm s t x with _ | ⟨d, s1⟩ <;> rfl
theorem yStoreM (ax : Operand) (q : Option (D × St)) : opStoreG T pm t ax q = st1 T pm t ax q := by
 unfold opStoreG st1
 rcases q with _ | ⟨d, s1⟩ <;> rfl
def tm1 (T : Tys) (pm : Pm) (s : St) (t : TypeId) (u : Tmp) : D → Option (D × St)
 | .vw L n m => pullM pm s L n m
 | _ => take T pm s t (.tmp u)
theorem takeM1 (u : Tmp) : takeM T pm s t (.tmp u) = tm1 T pm s t u (s.v u) := by
 unfold takeM
 simp only [ev]
 cases s.v u <;> rfl
def tm2 (s : St) (L : Place) : Option D → Option (D × St)
 | some c => some (c, s.set L .undef)
 | none => none
theorem tm1V (u : Tmp) (L : Place) (n m : Nat) (hw : pm.wr (L.headD 0) = true) : tm1 T pm s t u (.vw L n m) = tm2 s L (s.look pm L n m) := by
 show pullM pm s L n m = _
 unfold pullM tm2
 cases s.look pm L n m with
 | none => rfl
 | some c => simp only [hw, if_true]
theorem tm1I (u : Tmp) (k : IntKind) (n : Int) : tm1 T pm s t u (.int k n) = take T pm s t (.tmp u) := nr rfl
theorem tm1Own (u : Tmp) (e : TypeId) (xs : List D) : tm1 T pm s t u (.own e xs) = take T pm s t (.tmp u) := nr rfl
theorem tm1K (u : Tmp) (v : Value) : tm1 T pm s t u (.konst v) = take T pm s t (.tmp u) := nr rfl
theorem tm1U (u : Tmp) : tm1 T pm s t u .undef = take T pm s t (.tmp u) := nr rfl
theorem takeMC (v : Value) : takeM T pm s t (.const v) = take T pm s t (.const v) := by
 unfold takeM
 split
 ·rename_i L n m he
  simp only [ev, constD] at he
  split at he <;> try (cases he; done)
  split at he <;> cases he
 ·rfl
theorem tm1Sl (u : Tmp) (e : TypeId) (xs : List D) : tm1 T pm s t u (.sl e xs) = take T pm s t (.tmp u) := nr rfl
theorem tm2S (L : Place) (c : D) : tm2 s L (some c) = some (c, s.set L .undef) := nr rfl
/-- A store into an object that is found. -/
def st2 (s1 : St) (L : Place) (c : Nat) (d : D) : Option D → Option St
 | none => none
 | some o => if c < o.cells.length then (if d.hasObj || hasObjs o.cells then some ((s1.set L (o.withCells (o.cells.set c d))).bump (L.headD 0)) else some (s1.set L (o.withCells (o.cells.set c d)))) else none
/-- A store of one cell, once the pointer is known. -/
def sd1 (T : Tys) (pm : Pm) (t : TypeId) (u : Tmp) (d : D) (s : St) : D → Option St
 | .pe L c n m => if T.known t && !T.isStruct t && pm.wr (L.headD 0) && solid d then st2 s L c d (s.look pm L n m) else st1 T pm t (.tmp u) (some (d, s))
 | .vw L n m => if T.known t && !T.isStruct t && pm.wr (L.headD 0) && solid d then st2 s L 0 d (boxAt s pm L n m) else st1 T pm t (.tmp u) (some (d, s))
 | .box xs => if T.known t && !T.isStruct t && pm.wr u && solid d then st2 s [u] 0 d (some (.box xs)) else st1 T pm t (.tmp u) (some (d, s))
 | _ => st1 T pm t (.tmp u) (some (d, s))
theorem solid_cells {d : D} (hd : solid d = true) : d.asCells = [d] ∧ d.isAgg = false := by
 cases d <;> first | exact ⟨rfl, rfl⟩ | (simp [solid] at hd)
theorem one_size {T : Tys} {t : TypeId} (hs : T.isStruct t = false) : T.size t = 1 := by
 unfold Tys.isStruct at hs
 unfold Tys.size
 cases hty : T.ty t <;> simp_all [Ty.isStruct, Ty.size]
theorem sd1E (u : Tmp) (d : D) (_ : d.isAgg = false) : st1 T pm t (.tmp u) (some (d, s)) = sd1 T pm t u d s (s.v u) := by
 cases hv : s.v u <;> simp only [sd1]
 case pe L c n m =>
  split
  ·rename_i hc
   simp only [Bool.and_eq_true, Bool.not_eq_true'] at hc
   obtain ⟨⟨⟨hk, hs⟩, hw⟩, hd⟩ := hc
   obtain ⟨ha, hg⟩ := solid_cells hd
   have hz := one_size hs
   simp only [st1, ev, hv, addrD]
   cases s.look pm L n m with
   | none => rfl
   | some o =>
    simp only [st2, hk, hw, ha, hz, hs, hg, List.all_cons, hd, List.all_nil, List.length_cons, List.length_nil, Bool.and_true, splice, beq_self_eq_true, Nat.zero_add]
    by_cases hc : c < o.cells.length
    ·have h1 : c + 1 ≤ o.cells.length := hc
     simp only [hc, h1, decide_true, Bool.and_true, if_true]; split <;> first | rfl | (rename_i hq; simp only [hq]; rfl)
    ·have h1 : ¬ c + 1 ≤ o.cells.length := hc
     simp only [hc, h1, decide_false, Bool.and_false, Bool.false_eq_true, if_false]
  ·rfl
 case vw L n m =>
  split
  ·rename_i hc
   simp only [Bool.and_eq_true, Bool.not_eq_true'] at hc
   obtain ⟨⟨⟨hk, hs⟩, hw⟩, hd⟩ := hc
   obtain ⟨ha, hg⟩ := solid_cells hd
   have hz := one_size hs
   simp only [st1, ev, hv, addrD, boxAt]
   cases s.look pm L n m with
   | none => rfl
   | some o =>
    cases o <;> try rfl
    rename_i xs
    simp only [st2, hk, hw, ha, hz, hs, hg, List.all_cons, hd, List.all_nil, List.length_cons, List.length_nil, Bool.and_true, splice, beq_self_eq_true, Nat.zero_add, D.cells]
    by_cases hc : 0 < xs.length
    ·have h1 : 1 ≤ xs.length := hc
     simp only [hc, h1, decide_true, Bool.and_true, if_true]; split <;> first | rfl | (rename_i hq; simp only [hq]; rfl)
    ·have h1 : ¬ 1 ≤ xs.length := hc
     simp only [hc, h1, decide_false, Bool.and_false, Bool.false_eq_true, if_false]
  ·rfl
 case box xs =>
  split
  ·rename_i hc
   simp only [Bool.and_eq_true, Bool.not_eq_true'] at hc
   obtain ⟨⟨⟨hk, hs⟩, hw⟩, hd⟩ := hc
   obtain ⟨ha, hg⟩ := solid_cells hd
   have hz := one_size hs
   simp only [st1, ev, hv, addrD]
   simp only [st2, hk, hw, ha, hz, hs, hg, List.all_cons, hd, List.all_nil, List.length_cons, List.length_nil, Bool.and_true, splice, beq_self_eq_true, Nat.zero_add, D.cells, List.headD_cons]
   by_cases hc : 0 < xs.length
   ·have h1 : 1 ≤ xs.length := hc
    simp only [hc, h1, decide_true, Bool.and_true, if_true]; split <;> first | rfl | (rename_i hq; simp only [hq]; rfl)
   ·have h1 : ¬ 1 ≤ xs.length := hc
    simp only [hc, h1, decide_false, Bool.and_false, Bool.false_eq_true, if_false]
  ·rfl
theorem sd1P (u : Tmp) (d : D) (L : Place) (c n m : Nat) (hk : T.known t = true) (hs : T.isStruct t = false) (hw : pm.wr (L.headD 0) = true) (hd : solid d = true) : sd1 T pm t u d s (.pe L c n m) = st2 s L c d (s.look pm L n m) := by
 simp [sd1, hk, hs, hd]; intro h; simp_all
theorem sd1V (u : Tmp) (d : D) (L : Place) (n m : Nat) (hk : T.known t = true) (hs : T.isStruct t = false) (hw : pm.wr (L.headD 0) = true) (hd : solid d = true) : sd1 T pm t u d s (.vw L n m) = st2 s L 0 d (boxAt s pm L n m) := by
 simp [sd1, hk, hs, hd]; intro h; simp_all
theorem sd1B (u : Tmp) (d : D) (xs : List D) (hk : T.known t = true) (hs : T.isStruct t = false) (hw : pm.wr u = true) (hd : solid d = true) : sd1 T pm t u d s (.box xs) = st2 s [u] 0 d (some (.box xs)) := by
 simp [sd1, hk, hs, hd]; intro h; simp_all
def bx1 : Option D → Option D
 | some (.box xs) => some (.box xs)
 | _ => none
theorem bxA (L : Place) (n m : Nat) : boxAt s pm L n m = bx1 (s.look pm L n m) := by
 unfold boxAt bx1
 cases s.look pm L n m with
 | none => rfl
 | some o => cases o <;> rfl
theorem bx1S (xs : List D) : bx1 (some (.box xs)) = some (.box xs) := nr rfl
theorem hdC (a : Nat) (l : Place) (d : Nat) : List.headD (a :: l) d = a := nr rfl
theorem st2S (L : Place) (c : Nat) (d o : D) : st2 s L c d (some o) = if c < o.cells.length then (if d.hasObj || hasObjs o.cells then some ((s.set L (o.withCells (o.cells.set c d))).bump (L.headD 0)) else some (s.set L (o.withCells (o.cells.set c d)))) else none := nr rfl
theorem ceOwn (e : TypeId) (xs : List D) : (D.own e xs).cells = xs := nr rfl
theorem ceBox (xs : List D) : (D.box xs).cells = xs := nr rfl
theorem wcOwn (e : TypeId) (xs ys : List D) : (D.own e xs).withCells ys = .own e ys := nr rfl
theorem wcBox (xs ys : List D) : (D.box xs).withCells ys = .box ys := nr rfl
theorem soInt (k : IntKind) (n : Int) : solid (.int k n) = true := nr rfl
theorem soBool (b : Bool) : solid (.bool b) = true := nr rfl
theorem soStr (b : ByteArray) : solid (.str b) = true := nr rfl
theorem soSl (e : TypeId) (xs : List D) : solid (.sl e xs) = true := nr rfl
theorem soOwn (e : TypeId) (xs : List D) : solid (.own e xs) = true := nr rfl
theorem soBox (xs : List D) : solid (.box xs) = true := nr rfl
theorem soClo (f : FuncId) (xs : List D) : solid (.clo f xs) = true := nr rfl
theorem soCptr (xs : List D) : solid (.cptr xs) = true := nr rfl
theorem ceS (L : Place) (c : Nat) (o : D) : cellOf s L c (some o) = (o.cells[c]?).bind fun x => noObjD (seen s L c x) := nr rfl
theorem nsInt (L : Place) (c : Nat) (k : IntKind) (n : Int) : noObjD (seen s L c (.int k n)) = some (.int k n) := nr rfl
theorem nsBool (L : Place) (c : Nat) (b : Bool) : noObjD (seen s L c (.bool b)) = some (.bool b) := nr rfl
theorem nsStr (L : Place) (c : Nat) (b : ByteArray) : noObjD (seen s L c (.str b)) = some (.str b) := nr rfl
theorem nsSl (L : Place) (c : Nat) (e : TypeId) (xs : List D) : noObjD (seen s L c (.sl e xs)) = some (.sl e xs) := nr rfl
theorem nsClo (L : Place) (c : Nat) (f : FuncId) (xs : List D) : noObjD (seen s L c (.clo f xs)) = some (.clo f xs) := nr rfl
theorem nsVw (L : Place) (c : Nat) (M : Place) (n m : Nat) : noObjD (seen s L c (.vw M n m)) = some (.vw M n m) := nr rfl
theorem nsOwn (L : Place) (c : Nat) (e : TypeId) (xs : List D) : noObjD (seen s L c (.own e xs)) = some (mkv s (L ++ [c])) := nr rfl
theorem mkvC (r : Nat) (p : Place) : mkv s (r :: p) = .vw (r :: p) (s.k r) (s.m r) := nr rfl

/-! ### Append -/

def ap1 (T : Tys) (pm : Pm) (e : TypeId) (ty : TypeId) (y : Operand) : Option (D × St) → Option (D × St)
 | some (.own e1 xs, s1) =>
   match ev T s1 ty y with
   | some d =>
    match sliceD pm s1 y d with
    | some (e2, ys, _) =>
     if e1 = e ∧ e2 = e ∧ T.elem e = true ∧ ys.all solid = true ∧ xs.length + ys.length < 1099511627776 then
      if hasObjs ys then
       match d, y with
       | .own _ _, .tmp u => some (.own e (xs ++ ys), s1.clr u)
       | _, _ => none
      else some (.own e (xs ++ ys), s1)
     else none
    | none => none
   | none => none
 | _ => none
def az1 (T : Tys) (e : TypeId) : Option (D × St) → Option (D × St)
 | some (.own e1 xs, s1) => if e1 = e ∧ T.known e = true then some (.own e xs, s1) else none
 | _ => none
def az0 (T : Tys) (pm : Pm) (s : St) (ty : TypeId) (x : Operand) : Ty → Option (D × St)
 | .slice e => az1 T e (take T pm s ty x)
 | _ => none
theorem yAppZ (ty : TypeId) (x : Operand) : opAppZ T pm s ty x = az0 T pm s ty x (T.ty ty) := by
 unfold opAppZ az0
 cases T.ty ty with
 | slice e =>
  simp only [az1]
  rcases take T pm s ty x with _ | ⟨d, s1⟩
  ·rfl
  ·cases d <;> rfl
 | _ => rfl
theorem elem_of {T : Tys} {e : TypeId} (hk : T.known e = true) (h4 : T.size e ≤ 4) : T.elem e = true := by simp [Tys.elem, hk, h4]
theorem az0S (ty : TypeId) (x : Operand) (e : TypeId) : az0 T pm s ty x (.slice e) = az1 T e (take T pm s ty x) := nr rfl
theorem az1S (e : TypeId) (xs : List D) (hk : T.known e = true) : az1 T e (some (.own e xs, s)) = some (.own e xs, s) := by simp [az1, hk]
def ap0 (T : Tys) (pm : Pm) (s : St) (ty : TypeId) (x y : Operand) : Ty → Option (D × St)
 | .slice e => ap1 T pm e ty y (takeM T pm s ty x)
 | _ => none
theorem yApp (ty : TypeId) (x y : Operand) : opAppend T pm s ty x y = ap0 T pm s ty x y (T.ty ty) := by
 unfold opAppend ap0
 cases T.ty ty with
 | slice e =>
  simp only [ap1]
  rcases takeM T pm s ty x with _ | ⟨d, s1⟩
  ·rfl
  ·cases d <;> rfl
 | _ => rfl
theorem ap0S (ty : TypeId) (x y : Operand) (e : TypeId) : ap0 T pm s ty x y (.slice e) = ap1 T pm e ty y (takeM T pm s ty x) := nr rfl
def ap2 (T : Tys) (e e1 : TypeId) (xs : List D) (s : St) (u : Tmp) (d : D) : Option (TypeId × List D × Option (Place × Nat × Nat)) → Option (D × St)
 | some (e2, ys, _) =>
     if e1 = e ∧ e2 = e ∧ T.elem e = true ∧ ys.all solid = true ∧ xs.length + ys.length < 1099511627776 then
      if hasObjs ys then
       match d with
       | .own _ _ => some (.own e (xs ++ ys), s.clr u)
       | _ => none
      else some (.own e (xs ++ ys), s)
     else none
 | none => none
theorem ap1T (ty e e1 : TypeId) (u : Tmp) (xs : List D) : ap1 T pm e ty (.tmp u) (some (.own e1 xs, s)) = ap2 T e e1 xs s u (s.v u) (sliceD pm s (.tmp u) (s.v u)) := by
 simp only [ap1, ev, ap2]
 rcases sliceD pm s (.tmp u) (s.v u) with _ | ⟨e2, ys, o⟩
 ·rfl
 ·simp only
  split
  ·split
   ·cases s.v u <;> rfl
   ·rfl
  ·rfl
/-- Append of a slice that owns no objects. -/
theorem ap2V (e : TypeId) (u : Tmp) (xs ys : List D) (d : D) (o : Option (Place × Nat × Nat)) (hk : T.known e = true) (h4 : T.size e ≤ 4) (hy : ys.all solid = true) (hno : hasObjs ys = false) (hl : xs.length + ys.length < 1099511627776) :
  ap2 T e e xs s u d (some (e, ys, o)) = some (.own e (xs ++ ys), s) := by
 simp only [ap2]
 rw [if_pos ⟨trivial, trivial, elem_of hk h4, hy, hl⟩, hno]; simp
/-- Append of a slice that owns objects: it is used up. -/
theorem ap2O (e e' : TypeId) (u : Tmp) (xs ys zs : List D) (o : Option (Place × Nat × Nat)) (hk : T.known e = true) (h4 : T.size e ≤ 4) (hy : ys.all solid = true) (hno : hasObjs ys = true) (hl : xs.length + ys.length < 1099511627776) :
  ap2 T e e xs s u (.own e' zs) (some (e, ys, o)) = some (.own e (xs ++ ys), s.clr u) := by
 simp only [ap2]
 rw [if_pos ⟨trivial, trivial, elem_of hk h4, hy, hl⟩, hno]; simp
end

/-! ### Calls -/

section
variable {E : Env} {pm : Pm} {s : St} {dst : Option Tmp}

def aJoin (a : D) (l : List (Place × D)) : Option (List D × List (Place × D)) → Option (List D × List (Place × D))
 | some (as, ls) => some (a :: as, l ++ ls)
 | none => none
theorem aJoinS (a : D) (l : List (Place × D)) (as : List D) (ls : List (Place × D)) : aJoin a l (some (as, ls)) = some (a :: as, l ++ ls) := nr rfl
def aNext (E : Env) (lend : Bool) (pm : Pm) (s : St) (j : Nat) (rest : List (Operand × TypeId)) : Option (D × List (Place × D)) → Option (List D × List (Place × D))
 | some (a, l) => aJoin a l (argsD E lend pm s (j + l.length) rest)
 | none => none
theorem aNextS (lend : Bool) (j : Nat) (rest : List (Operand × TypeId)) (a : D) (l : List (Place × D)) : aNext E lend pm s j rest (some (a, l)) = aJoin a l (argsD E lend pm s (j + l.length) rest) := nr rfl
theorem arNil (lend : Bool) (j : Nat) : argsD E lend pm s j [] = some ([], []) := nr rfl
theorem arTmp (lend : Bool) (j : Nat) (u : Tmp) (t : TypeId) (rest : List (Operand × TypeId)) : argsD E lend pm s j ((.tmp u, t) :: rest) = aNext E lend pm s j rest (argX E.T lend pm s j [u] (s.v u)) := by
 simp only [argsD, ev]
 rcases argX E.T lend pm s j [u] (s.v u) with _ | ⟨a, l⟩
 ·rfl
 ·simp only [aNext]; rcases argsD E lend pm s (j + l.length) rest with _ | ⟨as, ls⟩ <;> rfl
def aC (E : Env) (lend : Bool) (pm : Pm) (s : St) (j : Nat) (rest : List (Operand × TypeId)) : Option D → Option (List D × List (Place × D))
 | some d => aNext E lend pm s j rest (argX E.T lend pm s j [] d)
 | none => none
theorem aCS (lend : Bool) (j : Nat) (rest : List (Operand × TypeId)) (d : D) : aC E lend pm s j rest (some d) = aNext E lend pm s j rest (argX E.T lend pm s j [] d) := nr rfl
theorem arC (lend : Bool) (j : Nat) (v : Value) (t : TypeId) (rest : List (Operand × TypeId)) : argsD E lend pm s j ((.const v, t) :: rest) = aC E lend pm s j rest (ev E.T s t (.const v)) := by
 simp only [argsD]
 cases ev E.T s t (.const v) with
 | none => rfl
 | some d =>
  simp only [aC]
  rcases argX E.T lend pm s j [] d with _ | ⟨a, l⟩
  ·rfl
  ·simp only [aNext]; rcases argsD E lend pm s (j + l.length) rest with _ | ⟨as, ls⟩ <;> rfl
theorem arF (lend : Bool) (j : Nat) (f : FuncId) (t : TypeId) (rest : List (Operand × TypeId)) : argsD E lend pm s j ((.func f, t) :: rest) = aNext E lend pm s j rest (argX E.T lend pm s j [] (.clo f [])) := by
 simp only [argsD, ev]
 rcases argX E.T lend pm s j [] (.clo f []) with _ | ⟨a, l⟩
 ·rfl
 ·simp only [aNext]; rcases argsD E lend pm s (j + l.length) rest with _ | ⟨as, ls⟩ <;> rfl
variable (lend : Bool) (j : Nat) (L : Place)
theorem axInt (T : Tys) (k : IntKind) (n : Int) : argX T lend pm s j L (.int k n) = argTop lend pm s j L (.int k n) := nr rfl
theorem axBool (T : Tys) (b : Bool) : argX T lend pm s j L (.bool b) = argTop lend pm s j L (.bool b) := nr rfl
theorem axStr (T : Tys) (b : ByteArray) : argX T lend pm s j L (.str b) = argTop lend pm s j L (.str b) := nr rfl
theorem axSl (T : Tys) (e : TypeId) (xs : List D) : argX T lend pm s j L (.sl e xs) = argTop lend pm s j L (.sl e xs) := nr rfl
theorem axClo (T : Tys) (f : FuncId) (xs : List D) : argX T lend pm s j L (.clo f xs) = argTop lend pm s j L (.clo f xs) := nr rfl
theorem axCptr (T : Tys) (xs : List D) : argX T lend pm s j L (.cptr xs) = argTop lend pm s j L (.cptr xs) := nr rfl
theorem axK (T : Tys) (v : Value) : argX T lend pm s j L (.konst v) = argTop lend pm s j L (.konst v) := nr rfl
theorem axOwn (T : Tys) (e : TypeId) (xs : List D) : argX T lend pm s j L (.own e xs) = argTop lend pm s j L (.own e xs) := nr rfl
theorem axBox (T : Tys) (xs : List D) : argX T lend pm s j L (.box xs) = argTop lend pm s j L (.box xs) := nr rfl
theorem axVw (T : Tys) (M : Place) (n m : Nat) : argX T lend pm s j L (.vw M n m) = argTop lend pm s j L (.vw M n m) := nr rfl
theorem axAgg (T : Tys) (xs : List D) : argX T lend pm s j L (.agg xs) = argTop lend pm s j L (.agg xs) := nr rfl
theorem atInt (k : IntKind) (n : Int) : argTop lend pm s j L (.int k n) = some (.int k n, []) := nr rfl
theorem atBool (b : Bool) : argTop lend pm s j L (.bool b) = some (.bool b, []) := nr rfl
theorem atStr (b : ByteArray) : argTop lend pm s j L (.str b) = some (.str b, []) := nr rfl
theorem atSl (e : TypeId) (xs : List D) : argTop lend pm s j L (.sl e xs) = some (.sl e xs, []) := nr rfl
theorem atClo (f : FuncId) (xs : List D) : argTop lend pm s j L (.clo f xs) = some (.clo f xs, []) := nr rfl
theorem atCptr (xs : List D) : argTop lend pm s j L (.cptr xs) = some (.cptr xs, []) := nr rfl
theorem atK (v : Value) : argTop lend pm s j L (.konst v) = some (.konst v, []) := nr rfl
def fz1 (l : List (Place × D)) : Option D → Option (D × List (Place × D))
 | some c => some (c, l)
 | none => none
theorem fz1S (l : List (Place × D)) (c : D) : fz1 l (some c) = some (c, l) := nr rfl
theorem atOwn (e : TypeId) (xs : List D) : argTop false pm s j L (.own e xs) = fz1 [(L, .own e xs)] (frz (.own e xs)) := by
 show ((frz (.own e xs)).map fun c' => (c', [(L, D.own e xs)])) = _
 cases frz (.own e xs) <;> rfl
theorem atBox (xs : List D) : argTop false pm s j L (.box xs) = fz1 [(L, .box xs)] (frz (.box xs)) := by
 show ((frz (.box xs)).map fun c' => (c', [(L, D.box xs)])) = _
 cases frz (.box xs) <;> rfl
def fz2 (L : Place) : Option D → Option (D × List (Place × D))
 | some c => fz1 [(L, c)] (frz c)
 | none => none
theorem fz2S (c : D) : fz2 L (some c) = fz1 [(L, c)] (frz c) := nr rfl
theorem atVw (M : Place) (n m : Nat) : argTop false pm s j L (.vw M n m) = fz2 M (s.look pm M n m) := by
 simp only [argTop, argCell]
 cases s.look pm M n m with
 | none => rfl
 | some c => simp only [fz2]; cases frz c <;> rfl
theorem atOwnL (e : TypeId) (xs : List D) : argTop true pm s j L (.own e xs) = some (.vw [G + j] 0 0, [(L, .own e xs)]) := nr rfl
theorem atBoxL (xs : List D) : argTop true pm s j L (.box xs) = some (.vw [G + j] 0 0, [(L, .box xs)]) := nr rfl
def ln2 (j : Nat) (L : Place) : Option D → Option (D × List (Place × D))
 | some c => some (.vw [G + j] 0 0, [(L, c)])
 | none => none
theorem ln2S (c : D) : ln2 j L (some c) = some (.vw [G + j] 0 0, [(L, c)]) := nr rfl
theorem atVwL (M : Place) (n m : Nat) : argTop true pm s j L (.vw M n m) = ln2 j M (s.look pm M n m) := by
 simp only [argTop, argCell]
 cases s.look pm M n m <;> rfl
def ag1 : Option (List D × List (Place × D)) → Option (D × List (Place × D))
 | some r => some (.agg r.1, r.2)
 | none => none
theorem ag1S (r : List D × List (Place × D)) : ag1 (some r) = some (.agg r.1, r.2) := nr rfl
theorem atAgg (xs : List D) : argTop lend pm s j L (.agg xs) = ag1 (argCells lend pm s L j 0 xs) := by
 simp only [argTop]
 cases argCells lend pm s L j 0 xs <;> rfl
def cNext (lend : Bool) (pm : Pm) (s : St) (L0 : Place) (j i : Nat) (ds : List D) : Option (D × List (Place × D)) → Option (List D × List (Place × D))
 | some (a, l) => aJoin a l (argCells lend pm s L0 (j + l.length) (i + 1) ds)
 | none => none
theorem cNextS (i : Nat) (ds : List D) (a : D) (l : List (Place × D)) : cNext lend pm s L j i ds (some (a, l)) = aJoin a l (argCells lend pm s L (j + l.length) (i + 1) ds) := nr rfl
theorem acNil (i : Nat) : argCells lend pm s L j i [] = some ([], []) := nr rfl
theorem acCons (i : Nat) (d : D) (ds : List D) (h : d.isAgg = false) : argCells lend pm s L j i (d :: ds) = cNext lend pm s L j i ds (argTop lend pm s j (L ++ [i]) d) := by
 have : argTop lend pm s j (L ++ [i]) d = argCell lend pm s j (L ++ [i]) d := by cases d <;> first | rfl | (simp [D.isAgg] at h)
 rw [this]
 simp only [argCells]
 rcases argCell lend pm s j (L ++ [i]) d with _ | ⟨a, l⟩
 ·rfl
 ·simp only [cNext]; rcases argCells lend pm s L (j + l.length) (i + 1) ds with _ | ⟨as, ls⟩ <;> rfl
theorem iaInt (k : IntKind) (n : Int) : (D.int k n).isAgg = false := nr rfl
theorem iaBool (b : Bool) : (D.bool b).isAgg = false := nr rfl
theorem iaStr (b : ByteArray) : (D.str b).isAgg = false := nr rfl
theorem iaSl (e : TypeId) (xs : List D) : (D.sl e xs).isAgg = false := nr rfl
theorem iaOwn (e : TypeId) (xs : List D) : (D.own e xs).isAgg = false := nr rfl
theorem iaVw (M : Place) (n m : Nat) : (D.vw M n m).isAgg = false := nr rfl
theorem iaClo (f : FuncId) (xs : List D) : (D.clo f xs).isAgg = false := nr rfl
theorem iaBox (xs : List D) : (D.box xs).isAgg = false := nr rfl
theorem iaCptr (xs : List D) : (D.cptr xs).isAgg = false := nr rfl
theorem iaAgg (xs : List D) : (D.agg xs).isAgg = true := nr rfl

/-- A call by borrowed arguments, once they are known. -/
def cb1 (E : Env) (pm : Pm) (s : St) (dst : Option Tmp) (f : FuncId) (caps : List D) : Option (List D × List (Place × D)) → Option St
 | none => none
 | some (as, ls) =>
  match E.call f (as ++ caps) [] with
  | some (r, _) =>
   if hasSl r then
    if apartL (ls.map (·.1)) && ls.all (fun l => pm.wr (l.1.headD 0)) then (frzAll ls).map fun ls' => (back false s ls').putO dst r else none
   else some (s.putO dst r)
  | none => none
theorem cdB (f : FuncId) (xs : List (Operand × TypeId)) (caps : List D) (h : E.lends f = false) : callD E pm s dst f xs caps = cb1 E pm s dst f caps (argsD E false pm s 0 xs) := by
 unfold callD cb1
 rw [h]
 simp only [Bool.false_eq_true, if_false]
 rcases argsD E false pm s 0 xs with _ | ⟨as, ls⟩ <;> rfl
/-- What comes of a borrowing call's answer. -/
def cb2 (pm : Pm) (s : St) (dst : Option Tmp) (ls : List (Place × D)) : Option (D × List D) → Option St
 | some (r, _) =>
   if hasSl r then
    if apartL (ls.map (·.1)) && ls.all (fun l => pm.wr (l.1.headD 0)) then (frzAll ls).map fun ls' => (back false s ls').putO dst r else none
   else some (s.putO dst r)
 | none => none
theorem cb1S (f : FuncId) (caps as : List D) (ls : List (Place × D)) : cb1 E pm s dst f caps (some (as, ls)) = cb2 pm s dst ls (E.call f (as ++ caps) []) := by
 simp only [cb1]
 rcases E.call f (as ++ caps) [] with _ | ⟨r, o⟩ <;> rfl
theorem cb2N (ls : List (Place × D)) (r : D) (o : List D) (h : hasSl r = false) : cb2 pm s dst ls (some (r, o)) = some (s.putO dst r) := by simp [cb2, h]
theorem cb2E (r : D) (o : List D) : cb2 pm s dst [] (some (r, o)) = some (s.putO dst r) := by
 simp only [cb2]; split <;> rfl

/-- A call by lent arguments, once they are known. -/
def cl1 (E : Env) (pm : Pm) (s : St) (dst : Option Tmp) (f : FuncId) (caps : List D) : Option (List D × List (Place × D)) → Option St
 | none => none
 | some (as, ls) =>
   if apartL (ls.map (·.1)) && ls.all (fun l => pm.wr (l.1.headD 0)) && ls.all (fun l => okD l.2) then
    match E.call f (as ++ caps) (ls.map (·.2)) with
    | some (r, outs) => if outs.length = ls.length then some ((backL s (ls.map (·.1)) outs).putO dst r) else none
    | none => none
   else none
theorem cdL (f : FuncId) (xs : List (Operand × TypeId)) (caps : List D) (h : E.lends f = true) : callD E pm s dst f xs caps = cl1 E pm s dst f caps (argsD E true pm s 0 xs) := by
 unfold callD cl1
 rw [h]
 simp only [if_true]
 rcases argsD E true pm s 0 xs with _ | ⟨as, ls⟩ <;> rfl
def cl2 (s : St) (dst : Option Tmp) (ls : List (Place × D)) : Option (D × List D) → Option St
 | some (r, outs) => if outs.length = ls.length then some ((backL s (ls.map (·.1)) outs).putO dst r) else none
 | none => none
theorem cl1S (f : FuncId) (caps as : List D) (ls : List (Place × D)) (h : (apartL (ls.map (·.1)) && ls.all (fun l => pm.wr (l.1.headD 0)) && ls.all (fun l => okD l.2)) = true) : cl1 E pm s dst f caps (some (as, ls)) = cl2 s dst ls (E.call f (as ++ caps) (ls.map (·.2))) := by
 simp only [cl1, h, if_true]
 rcases E.call f (as ++ caps) (ls.map (·.2)) with _ | ⟨r, o⟩ <;> rfl
theorem cl2S (ls : List (Place × D)) (r : D) (outs : List D) (h : outs.length = ls.length) : cl2 s dst ls (some (r, outs)) = some ((backL s (ls.map (·.1)) outs).putO dst r) := by simp [cl2, h]
end

/-! ### Shared and frozen -/

theorem hsInt (k : IntKind) (n : Int) : hasSl (.int k n) = false := by simp [hasSl]
theorem hsBool (b : Bool) : hasSl (.bool b) = false := by simp [hasSl]
theorem hsStr (b : ByteArray) : hasSl (.str b) = false := by simp [hasSl]
theorem hsOwn (e : TypeId) (xs : List D) : hasSl (.own e xs) = hasSls xs := by simp [hasSl]
theorem hsBox (xs : List D) : hasSl (.box xs) = hasSls xs := by simp [hasSl]
theorem hsAgg (xs : List D) : hasSl (.agg xs) = hasSls xs := by simp [hasSl]
theorem hsTup (xs : List D) : hasSl (.tup xs) = hasSls xs := by simp [hasSl]
theorem hssNil : hasSls [] = false := by simp [hasSls]
theorem hssCons (d : D) (ds : List D) : hasSls (d :: ds) = (hasSl d || hasSls ds) := by simp [hasSls]
theorem fzInt (k : IntKind) (n : Int) : frz (.int k n) = some (.int k n) := by simp [frz]
theorem fzBool (b : Bool) : frz (.bool b) = some (.bool b) := by simp [frz]
theorem fzStr (b : ByteArray) : frz (.str b) = some (.str b) := by simp [frz]
theorem fzSl (e : TypeId) (xs : List D) : frz (.sl e xs) = some (.sl e xs) := by simp [frz]
theorem fzClo (f : FuncId) (xs : List D) : frz (.clo f xs) = some (.clo f xs) := by simp [frz]
theorem fzCptr (xs : List D) : frz (.cptr xs) = some (.cptr xs) := by simp [frz]
def fzM (f : List D → D) : Option (List D) → Option D
 | some xs => some (f xs)
 | none => none
theorem fzMS (f : List D → D) (xs : List D) : fzM f (some xs) = some (f xs) := nr rfl
theorem fzOwn (e : TypeId) (xs : List D) : frz (.own e xs) = fzM (.sl e) (frzs xs) := by simp only [frz]; cases frzs xs <;> rfl
theorem fzBox (xs : List D) : frz (.box xs) = fzM .cptr (frzs xs) := by simp only [frz]; cases frzs xs <;> rfl
theorem fzAgg (xs : List D) : frz (.agg xs) = fzM .agg (frzs xs) := by simp only [frz]; cases frzs xs <;> rfl
theorem fzTup (xs : List D) : frz (.tup xs) = fzM .tup (frzs xs) := by simp only [frz]; cases frzs xs <;> rfl
theorem fzsNil : frzs [] = some [] := by simp [frzs]
def fzC : Option D → Option (List D) → Option (List D)
 | some d, some ds => some (d :: ds)
 | _, _ => none
theorem fzCS (d : D) (ds : List D) : fzC (some d) (some ds) = some (d :: ds) := nr rfl
theorem fzsCons (d : D) (ds : List D) : frzs (d :: ds) = fzC (frz d) (frzs ds) := by
 simp only [frzs]; cases frz d <;> cases frzs ds <;> rfl
theorem okDe (d : D) : okD d = (frz d).isSome := nr rfl

/-! ### Results -/

section
variable {T : Tys} {s : St}
def fi1 (n : Nat) : Option (D × St) → Option (D × List D)
 | none => none
 | some (r, s') => if okD r && ((List.range n).map fun j => s'.v (G + j)).all okL then some (r, (List.range n).map fun j => s'.v (G + j)) else none
theorem fiD (n : Nat) (rs : List ResultVar) : finD T n rs s = fi1 n (resultD T s rs) := by
 unfold finD fi1
 rcases resultD T s rs with _ | ⟨r, s'⟩ <;> rfl
theorem fi0 (r : D) : fi1 0 (some (r, s)) = if okD r then some (r, []) else none := by simp [fi1]
theorem fiA (r : D) : fi1 1 (some (r, s)) = if okD r && okL (s.v 100000) then some (r, [s.v 100000]) else none := by
 simp [fi1, G, List.range_succ]
theorem fiB (r : D) : fi1 2 (some (r, s)) = if okD r && (okL (s.v 100000) && okL (s.v 100001)) then some (r, [s.v 100000, s.v 100001]) else none := by
 simp [fi1, G, List.range_succ, and_assoc]
theorem fiC (r : D) : fi1 3 (some (r, s)) = if okD r && (okL (s.v 100000) && (okL (s.v 100001) && okL (s.v 100002))) then some (r, [s.v 100000, s.v 100001, s.v 100002]) else none := by
 simp [fi1, G, List.range_succ, and_assoc]
theorem fiE (r : D) : fi1 4 (some (r, s)) = if okD r && (okL (s.v 100000) && (okL (s.v 100001) && (okL (s.v 100002) && okL (s.v 100003)))) then some (r, [s.v 100000, s.v 100001, s.v 100002, s.v 100003]) else none := by
 simp [fi1, G, List.range_succ, and_assoc]
theorem okLOwn (e : TypeId) (xs : List D) : okL (.own e xs) = (frz (.own e xs)).isSome := nr rfl
theorem okLBox (xs : List D) : okL (.box xs) = (frz (.box xs)).isSome := nr rfl
theorem okLU : okL .undef = true := nr rfl
theorem okLSl (e : TypeId) (xs : List D) : okL (.sl e xs) = true := by simp [okL, frz]
theorem re1 (r : ResultVar) : resultD T s [r] = resD T s r := nr rfl
def reT : Option (List D × St) → Option (D × St)
 | some q => some (.tup q.1, q.2)
 | none => none
theorem reTS (q : List D × St) : reT (some q) = some (.tup q.1, q.2) := nr rfl
theorem re2 (r r' : ResultVar) (rs : List ResultVar) : resultD T s (r :: r' :: rs) = reT (resDs T s (r :: r' :: rs)) := by
 show ((resDs T s (r :: r' :: rs)).map fun q => (D.tup q.1, q.2)) = _
 cases resDs T s (r :: r' :: rs) <;> rfl
theorem re0 : resultD T s [] = some (.tup [], s) := nr rfl
theorem rdTmp (t : Tmp) : resD T s (.tmp t) = tk1 Pm.all s t (s.v t) := nr rfl
theorem rdNil : resDs T s [] = some ([], s) := nr rfl
def rdN (T : Tys) (rs : List ResultVar) : Option (D × St) → Option (List D × St)
 | some (d, s) => (resDs T s rs).map fun p => (d :: p.1, p.2)
 | none => none
theorem rdNS (rs : List ResultVar) (d : D) : rdN T rs (some (d, s)) = (resDs T s rs).map fun p => (d :: p.1, p.2) := nr rfl
theorem rdCons (r : ResultVar) (rs : List ResultVar) : resDs T s (r :: rs) = rdN T rs (resD T s r) := by
 simp only [resDs]
 rcases resD T s r with _ | ⟨d, s'⟩ <;> rfl
theorem allR (r : Nat) : Pm.all.rd r = true := nr rfl
theorem allW (r : Nat) : Pm.all.wr r = true := nr rfl
def ex1 (s : St) (dst : Option Tmp) (u : Tmp) (i : Nat) : Option D → Option St
 | none => none
 | some (.agg ys) => putR s dst (noObjD (.agg ((List.range ys.length).map fun j => seen s [u, i] j (ys.getD j .undef))))
 | some c => putR s dst (noObjD (seen s [u] i c))
theorem exTup (dst : Option Tmp) (u : Tmp) (xs : List D) (i : Nat) : opExtract s dst (.tmp u) (.tup xs) i = ex1 s dst u i xs[i]? := by
 simp only [opExtract]
 rcases xs[i]? with _ | c
 ·rfl
 ·cases c <;> first | exact map_putR s dst _ | rfl
theorem exAgg (dst : Option Tmp) (u : Tmp) (i : Nat) (ys : List D) : ex1 s dst u i (some (.agg ys)) = putR s dst (noObjD (.agg ((List.range ys.length).map fun j => seen s [u, i] j (ys.getD j .undef)))) := nr rfl
theorem exInt (dst : Option Tmp) (u : Tmp) (i : Nat) (k : IntKind) (n : Int) : ex1 s dst u i (some (.int k n)) = some (s.putO dst (.int k n)) := by simp [ex1, noObjD, seen, D.hasObj, putR]
theorem exBool (dst : Option Tmp) (u : Tmp) (i : Nat) (b : Bool) : ex1 s dst u i (some (.bool b)) = some (s.putO dst (.bool b)) := by simp [ex1, noObjD, seen, D.hasObj, putR]
theorem exStr (dst : Option Tmp) (u : Tmp) (i : Nat) (b : ByteArray) : ex1 s dst u i (some (.str b)) = some (s.putO dst (.str b)) := by simp [ex1, noObjD, seen, D.hasObj, putR]
theorem exSl (dst : Option Tmp) (u : Tmp) (i : Nat) (e : TypeId) (xs : List D) : ex1 s dst u i (some (.sl e xs)) = some (s.putO dst (.sl e xs)) := by simp [ex1, noObjD, seen, D.hasObj, putR]
theorem exOwn (dst : Option Tmp) (u : Tmp) (i : Nat) (e : TypeId) (xs : List D) : ex1 s dst u i (some (.own e xs)) = some (s.putO dst (.vw [u, i] (s.k u) (s.m u))) := by simp [ex1, noObjD, seen, D.hasObj, putR, mkv]
theorem exClo (dst : Option Tmp) (u : Tmp) (i : Nat) (f : FuncId) (xs : List D) : ex1 s dst u i (some (.clo f xs)) = some (s.putO dst (.clo f xs)) := by simp [ex1, noObjD, seen, D.hasObj, putR]
theorem gpTup (xs : List D) (c : Nat) (p : Place) : getp (.tup xs) (c :: p) = (xs[c]?).bind fun d => getp d p := nr rfl
theorem spTup (xs : List D) (c : Nat) (p : Place) (x : D) : setp (.tup xs) (c :: p) x = .tup (xs.set c (setp (xs.getD c .undef) p x)) := nr rfl
theorem pl2T (L : Place) (xs : List D) (c : D) : pl2 s L (some (.tup xs)) (some c) = some (c, s.set L .undef) := nr rfl
theorem bkNil (deep : Bool) : back deep s [] = s := nr rfl
theorem bkT (t : Nat) (p : Place) (c : D) (rest : List (Place × D)) : back true s ((t :: p, c) :: rest) = back true ((s.set (t :: p) c).bump t) rest := nr rfl
theorem bkF (t : Nat) (p : Place) (c : D) (rest : List (Place × D)) : back false s ((t :: p, c) :: rest) = back false (s.set (t :: p) c) rest := nr rfl
theorem bkE (deep : Bool) (c : D) (rest : List (Place × D)) : back deep s (([], c) :: rest) = back deep s rest := nr rfl
theorem bkL (Ls : List Place) (outs : List D) : backL s Ls outs = back true (back false s (Ls.map fun L => (L, .undef))) (Ls.zip outs) := nr rfl
theorem apNil : apartL [] = true := nr rfl
theorem apCons (L : Place) (Ls : List Place) : apartL (L :: Ls) = ((L.isEmpty || Ls.all fun M => M.isEmpty || (!L.isPrefixOf M && !M.isPrefixOf L)) && apartL Ls) := nr rfl
theorem ipC (a b : Nat) (l m : Place) : List.isPrefixOf (a :: l) (b :: m) = (a == b && List.isPrefixOf l m) := nr rfl
theorem ipN (l : Place) : List.isPrefixOf [] l = true := by cases l <;> rfl
theorem ipE (a : Nat) (l : Place) : List.isPrefixOf (a :: l) [] = false := nr rfl
theorem ieC (a : Nat) (l : Place) : List.isEmpty (a :: l) = false := nr rfl
theorem ieN : List.isEmpty ([] : Place) = true := nr rfl
end

/-! ### Parts of a composite -/

section
variable {T : Tys} {pm : Pm} {s : St}
def fl1 (T : Tys) (pm : Pm) (tf : Nat → TypeId) (sz : Nat) (cs : List D) (i : Nat) (rest : List (Nat × Operand)) : Option (D × St) → Option (List D × St)
 | none => none
 | some (d, s1) => if d.asCells.length = sz ∧ i * sz + sz ≤ cs.length then fillD T pm tf sz s1 (splice cs (i * sz) d.asCells) rest else none
theorem flNil (tf : Nat → TypeId) (sz : Nat) (cs : List D) : fillD T pm tf sz s cs [] = some (cs, s) := nr rfl
theorem flCons (tf : Nat → TypeId) (sz : Nat) (cs : List D) (i : Nat) (x : Operand) (rest : List (Nat × Operand)) : fillD T pm tf sz s cs ((i, x) :: rest) = fl1 T pm tf sz cs i rest (take T pm s (tf i) x) := by
 simp only [fillD]
 rcases take T pm s (tf i) x with _ | ⟨d, s1⟩ <;> rfl
theorem fl1S (tf : Nat → TypeId) (cs : List D) (i : Nat) (rest : List (Nat × Operand)) (d : D) (h : d.isAgg = false) : fl1 T pm tf 1 cs i rest (some (d, s)) = if i + 1 ≤ cs.length then fillD T pm tf 1 s (cs.set i d) rest else none := by
 have ha : d.asCells = [d] := by cases d <;> first | rfl | (simp [D.isAgg] at h)
 simp only [fl1, ha, List.length_cons, List.length_nil, Nat.zero_add, Nat.mul_one, true_and, splice]
end

/-! ### Regions that draw -/

section
variable (pm : Pm) (s : St) (u : Tmp)
def mv1 (pm : Pm) (u : Tmp) (d : D) : Bool := !d.hasObj || d.isObj || pm.wr u
theorem mvT : mvOkS pm s (.move (.tmp u)) = mv1 pm u (s.v u) := nr rfl
theorem mvTC (v : Value) : mvOkS pm s (.move (.const v)) = true := nr rfl
theorem mvTF (f : FuncId) : mvOkS pm s (.move (.func f)) = true := nr rfl
theorem mv1Int (k : IntKind) (n : Int) : mv1 pm u (.int k n) = true := by simp [mv1, D.hasObj]
theorem mv1Bool (b : Bool) : mv1 pm u (.bool b) = true := by simp [mv1, D.hasObj]
theorem mv1Str (b : ByteArray) : mv1 pm u (.str b) = true := by simp [mv1, D.hasObj]
theorem mv1Sl (e : TypeId) (xs : List D) : mv1 pm u (.sl e xs) = true := by simp [mv1, D.hasObj]
theorem mv1Own (e : TypeId) (xs : List D) : mv1 pm u (.own e xs) = true := by simp [mv1, D.isObj]
theorem mv1Box (xs : List D) : mv1 pm u (.box xs) = true := by simp [mv1, D.isObj]
theorem mv1Vw (L : Place) (n m : Nat) : mv1 pm u (.vw L n m) = true := by simp [mv1, D.hasObj]
theorem mv1Pe (L : Place) (c n m : Nat) : mv1 pm u (.pe L c n m) = true := by simp [mv1, D.hasObj]
theorem mv1K (v : Value) : mv1 pm u (.konst v) = true := by simp [mv1, D.hasObj]
theorem mv1Clo (f : FuncId) (xs : List D) : mv1 pm u (.clo f xs) = true := by simp [mv1, D.hasObj]
theorem mv1Cptr (xs : List D) : mv1 pm u (.cptr xs) = true := by simp [mv1, D.hasObj]
theorem mv1Agg (xs : List D) : mv1 pm u (.agg xs) = (!hasObjs xs || pm.wr u) := by simp [mv1, D.hasObj, D.isObj]
theorem mv1Tup (xs : List D) : mv1 pm u (.tup xs) = (!hasObjs xs || pm.wr u) := by simp [mv1, D.hasObj, D.isObj]
theorem moAssign (x : Operand) : mvOkS pm s (.assign x) = true := nr rfl
theorem moPick (a b c : Operand) : mvOkS pm s (.pick a b c) = true := nr rfl
theorem moAlloc (t : TypeId) : mvOkS pm s (.alloc t) = true := nr rfl
theorem moBox (t : TypeId) (x : Operand) : mvOkS pm s (.box t x) = true := nr rfl
theorem moBuild (t : TypeId) (p : Array (Nat × Operand)) : mvOkS pm s (.build t p) = true := nr rfl
theorem moBs (t : TypeId) (n : Nat) (p : Array (Nat × Operand)) : mvOkS pm s (.buildSlice t n p) = true := nr rfl
theorem moLoad (t : TypeId) (x : Operand) : mvOkS pm s (.load t x) = true := nr rfl
theorem moStore (t : TypeId) (x y : Operand) : mvOkS pm s (.store t x y) = true := nr rfl
theorem moBin (o : BinOp) (t : TypeId) (x y : Operand) (t' : TypeId) : mvOkS pm s (.binOp o t x y t') = true := nr rfl
theorem moUn (o : UnOp) (t : TypeId) (x : Operand) : mvOkS pm s (.unOp o t x) = true := nr rfl
theorem moConv (t t' : TypeId) (x : Operand) : mvOkS pm s (.convert t t' x) = true := nr rfl
theorem moMf (f : Fn) (a b : Array Operand) : mvOkS pm s (.makeFunc f a b) = true := nr rfl
theorem moMs (t : TypeId) (a b : Operand) : mvOkS pm s (.makeSlice t a b) = true := nr rfl
theorem moSl (t : TypeId) (x : Operand) (a b c : Option Operand) : mvOkS pm s (.slice t x a b c) = true := nr rfl
theorem moNc (x : Operand) : mvOkS pm s (.nilCheck x) = true := nr rfl
theorem moFa (t : TypeId) (x : Operand) (i : Nat) : mvOkS pm s (.fieldAddr t x i) = true := nr rfl
theorem moIa (t : TypeId) (x i : Operand) : mvOkS pm s (.indexAddr t x i) = true := nr rfl
theorem moEx (x : Operand) (i : Nat) : mvOkS pm s (.extract x i) = true := nr rfl
theorem moCall (c : Call) : mvOkS pm s (.call c) = true := nr rfl
theorem pmR (n r w : List Nat) (x : Nat) : (PmL.pm ⟨n, r, w⟩).rd x = (n.contains x || !r.contains x) := nr rfl
theorem pmW (n r w : List Nat) (x : Nat) : (PmL.pm ⟨n, r, w⟩).wr x = w.contains x := nr rfl

end
end Dv
/- Value semantics for Go code: rules for lists of numbers and lists of lists. Conditions: none beyond those in each lemma. -/
namespace Dv
open Go

theorem wr64 (n : Int) (h : -9223372036854775808 ≤ n ∧ n ≤ 9223372036854775807) : IntKind.i64.wrap n = n := IntWalk.i64_in n h

section
variable {T : Tys} {pm : Pm} {s : St} {t : TypeId}

theorem ints_getD (xs : List Int) (i : Nat) (h : i < xs.length) : (ints xs).getD i .undef = .int .i64 (xs.getD i 0) := by
 simp [ints, List.getD_eq_getElem?_getD, h]
theorem ints_at (xs : List Int) (i : Nat) (h : i < xs.length) : (ints xs)[i]? = some (.int .i64 (xs.getD i 0)) := by
 simp [ints, List.getD_eq_getElem?_getD, h]
theorem ints_set (xs : List Int) (i : Nat) (n : Int) : (ints xs).set i (.int .i64 n) = ints (xs.set i n) := by simp [ints]
theorem ints_append (xs ys : List Int) : ints xs ++ ints ys = ints (xs ++ ys) := by simp [ints]
theorem ints_cons (x : Int) (xs : List Int) : ints (x :: xs) = .int .i64 x :: ints xs := nr rfl
theorem ints_rep (n : Nat) (x : Int) : List.replicate n (D.int .i64 x) = ints (List.replicate n x) := by simp [ints]

theorem at1I (e : TypeId) (n : Int) (xs : List Int) (hk : T.known e = true) (hz : T.size e = 1) (hn : 0 ≤ n ∧ n.toNat < xs.length) : at1 T e n (some (e, ints xs, none)) = some (.cptr [.int .i64 (xs.getD n.toNat 0)]) := by
 rw [at1N e n (ints xs) hk hz (by simpa [ints] using hn), ints_getD xs _ hn.2]
theorem at1IP (e : TypeId) (n : Int) (xs : List Int) (L : Place) (a b : Nat) (hk : T.known e = true) (hz : T.size e = 1) (hn : 0 ≤ n ∧ n.toNat < xs.length) : at1 T e n (some (e, ints xs, some (L, a, b))) = some (.pe L n.toNat a b) :=
 at1P e n (ints xs) L a b hk hz (by simpa [ints] using hn)

/-- A list of lists as shared slices, as owned ones. -/
def sls (e : TypeId) (xss : List (List Int)) : List D := xss.map fun xs => .sl e (ints xs)
def owns (e : TypeId) (xss : List (List Int)) : List D := xss.map fun xs => .own e (ints xs)
theorem sls_length (e : TypeId) (xss : List (List Int)) : (sls e xss).length = xss.length := by simp [sls]
theorem owns_length (e : TypeId) (xss : List (List Int)) : (owns e xss).length = xss.length := by simp [owns]
theorem sls_hasObj (e : TypeId) (xss : List (List Int)) : hasObjs (sls e xss) = false := by
 induction xss with
 | nil => rfl
 | cons x xss ih => simp only [sls, List.map_cons, hasObjs, D.hasObj, Bool.false_or]; exact ih
theorem sls_frz (e : TypeId) (xss : List (List Int)) : frzs (sls e xss) = some (sls e xss) := by
 induction xss with
 | nil => rfl
 | cons x xss ih => simp only [sls, List.map_cons, fzsCons, fzSl] at ih ⊢; rw [ih]; rfl
theorem owns_frz (e : TypeId) (xss : List (List Int)) : frzs (owns e xss) = some (sls e xss) := by
 induction xss with
 | nil => rfl
 | cons x xss ih => simp only [owns, sls, List.map_cons, fzsCons, fzOwn, ints_frz, fzMS] at ih ⊢; rw [ih]; rfl
theorem owns_hasSl (e : TypeId) (xss : List (List Int)) : hasSls (owns e xss) = false := by
 induction xss with
 | nil => rfl
 | cons x xss ih => simp only [owns, List.map_cons, hssCons, hsOwn, ints_hasSl, Bool.false_or]; exact ih
theorem sls_solid (e : TypeId) (xss : List (List Int)) : (sls e xss).all solid = true := by simp [sls, solid]
theorem owns_solid (e : TypeId) (xss : List (List Int)) : (owns e xss).all solid = true := by simp [owns, solid]
theorem sls_getD (e : TypeId) (xss : List (List Int)) (i : Nat) (h : i < xss.length) : (sls e xss).getD i .undef = .sl e (ints (xss.getD i [])) := by
 simp [sls, List.getD_eq_getElem?_getD, h]
theorem sls_at (e : TypeId) (xss : List (List Int)) (i : Nat) (h : i < xss.length) : (sls e xss)[i]? = some (.sl e (ints (xss.getD i []))) := by
 simp [sls, List.getD_eq_getElem?_getD, h]
theorem owns_at (e : TypeId) (xss : List (List Int)) (i : Nat) (h : i < xss.length) : (owns e xss)[i]? = some (.own e (ints (xss.getD i []))) := by
 simp [owns, List.getD_eq_getElem?_getD, h]
theorem owns_set (e : TypeId) (xss : List (List Int)) (i : Nat) (x : List Int) : (owns e xss).set i (.own e (ints x)) = owns e (xss.set i x) := by simp [owns]
theorem owns_hasObjC (e : TypeId) (x : List Int) (xss : List (List Int)) : hasObjs (owns e (x :: xss)) = true := by simp [owns, hasObjs, D.hasObj]
theorem at1S (e e' : TypeId) (n : Int) (xss : List (List Int)) (hk : T.known e = true) (hz : T.size e = 1) (hn : 0 ≤ n ∧ n.toNat < xss.length) : at1 T e n (some (e, sls e' xss, none)) = some (.cptr [.sl e' (ints (xss.getD n.toNat []))]) := by
 rw [at1N e n (sls e' xss) hk hz (by simpa [sls] using hn), sls_getD e' xss _ hn.2]
theorem at1OP (e e' : TypeId) (n : Int) (xss : List (List Int)) (L : Place) (a b : Nat) (hk : T.known e = true) (hz : T.size e = 1) (hn : 0 ≤ n ∧ n.toNat < xss.length) : at1 T e n (some (e, owns e' xss, some (L, a, b))) = some (.pe L n.toNat a b) :=
 at1P e n (owns e' xss) L a b hk hz (by simpa [owns] using hn)

/-! ### Composites -/

variable {E : Env} {dst : Option Tmp} {ty : TypeId}
def putB (e : TypeId) (dst : Option Tmp) : Option (List D × St) → Option St
 | some (xs, s) => some (s.putO dst (.own e xs))
 | none => none
theorem putBS (e : TypeId) (xs : List D) : putB e dst (some (xs, s)) = some (s.putO dst (.own e xs)) := nr rfl
def putG (dst : Option Tmp) : Option (List D × St) → Option St
 | some (xs, s) => some (s.putO dst (.agg xs))
 | none => none
theorem putGS (xs : List D) : putG dst (some (xs, s)) = some (s.putO dst (.agg xs)) := nr rfl
theorem flat_one (T : Tys) {e : TypeId} (hs : T.isStruct e = false) : T.size e = 1 ∧ T.zeros e = [T.zero1 e] := by
 unfold Tys.isStruct at hs
 unfold Tys.size Tys.zeros
 cases hty : T.ty e <;> simp_all [Ty.isStruct, Ty.size]
def bs0 (E : Env) (pm : Pm) (s : St) (dst : Option Tmp) (len : Nat) (parts : Array (Nat × Operand)) : Ty → Option St
 | .slice e =>
   if len * E.T.size e ≤ 4096 ∧ E.T.known e = true then
    (fillD E.T pm (fun _ => e) (E.T.size e) s ((List.range (len * E.T.size e)).map fun j => (E.T.zeros e).getD (j % E.T.size e) .undef) parts.toList).map fun r => r.2.putO dst (.own e r.1)
   else none
 | _ => none
theorem bs0_eq (len : Nat) (parts : Array (Nat × Operand)) : opBs E.T pm s dst t len parts = bs0 E pm s dst len parts (E.T.ty t) := by
 unfold opBs bs0
 cases E.T.ty t <;> rfl
theorem yBs (len : Nat) (parts : Array (Nat × Operand)) : opS E pm s dst (.buildSlice t len parts) ty = if ty = 900004 then fcB pm dst (bs0 E pm s dst len parts (E.T.ty t)) else bs0 E pm s dst len parts (E.T.ty t) := by
 rw [opS_buildSlice, bs0_eq]
 by_cases h : ty = 900004
 ·rw [if_pos h, if_pos h]
  unfold fcB
  cases bs0 E pm s dst len parts (E.T.ty t) <;> cases dst <;> rfl
 ·rw [if_neg h, if_neg h]
theorem bs0S (len : Nat) (parts : Array (Nat × Operand)) (e : TypeId) (hk : E.T.known e = true) (hs : E.T.isStruct e = false) (hl : len ≤ 4096) :
  bs0 E pm s dst len parts (.slice e) = putB e dst (fillD E.T pm (fun _ => e) 1 s (List.replicate len (E.T.zero1 e)) parts.toList) := by
 obtain ⟨hz, hzz⟩ := flat_one E.T hs
 have hrep : ((List.range (len * 1)).map fun j => (E.T.zeros e).getD (j % 1) .undef) = List.replicate len (E.T.zero1 e) := by
  rw [hzz]
  apply List.ext_getElem
  ·simp
  ·intro i h1 h2
   simp [Nat.mod_one]
 simp only [bs0, hz]
 rw [if_pos ⟨by omega, hk⟩, hrep]
 rcases fillD E.T pm (fun _ => e) 1 s (List.replicate len (E.T.zero1 e)) parts.toList with _ | ⟨a, b⟩ <;> rfl
def bsA (E : Env) (e : TypeId) (dst : Option Tmp) : Option (D × St) → Option St
 | some (d, s1) => if d.asCells.length = E.T.size e then some (s1.putO dst (.own e d.asCells)) else none
 | none => none
theorem bsAS (e : TypeId) (xs : List D) (h : xs.length = E.T.size e) : bsA E e dst (some (.agg xs, s)) = some (s.putO dst (.own e xs)) := by
 show (if xs.length = E.T.size e then some (s.putO dst (.own e xs)) else none) = _
 rw [if_pos h]
theorem splice_full (cs ys : List D) (h : ys.length = cs.length) : splice cs 0 ys = ys := by
 refine List.ext_getElem? fun i => ?_
 rw [splice_get (by omega)]
 by_cases hi : i < ys.length
 ·rw [if_pos (by omega)]; rfl
 ·rw [if_neg (by omega), List.getElem?_eq_none (by omega), List.getElem?_eq_none (by omega)]
theorem bs0A (e : TypeId) (x : Operand) (hk : E.T.known e = true) (hs : E.T.isStruct e = true) (hz : E.T.size e ≤ 4096) : bs0 E pm s dst 1 #[(0, x)] (.slice e) = bsA E e dst (take E.T pm s e x) := by
 simp only [bs0, fillD]
 rw [if_pos ⟨by omega, hk⟩]
 rcases take E.T pm s e x with _ | ⟨d, s1⟩
 ·rfl
 ·simp only [bsA]
  by_cases h : d.asCells.length = E.T.size e
  ·rw [if_pos ⟨h, by simp⟩, if_pos h, Nat.zero_mul, splice_full _ _ (by simp [h])]; rfl
  ·rw [if_neg (fun hc => h hc.1), if_neg h]; rfl
theorem zsVs (u : Tmp) (e : TypeId) (L : Place) (n m lo len : Nat) : opAssign pm s dst (.tmp u) (.vs e L n m lo len) = some (s.putO dst (.vs e L n m lo len)) := by
 show some (if (D.vs e L n m lo len).hasObj then (s.clr u).putO dst (.vs e L n m lo len) else s.putO dst (.vs e L n m lo len)) = _
 rw [if_neg (by simp [D.hasObj])]
theorem bs0Z (e : TypeId) (hk : E.T.known e = true) : bs0 E pm s dst 0 #[] (.slice e) = some (s.putO dst (.own e [])) := by
 simp [bs0, hk, fillD]
def bdN (E : Env) (pm : Pm) (s : St) (dst : Option Tmp) (t : TypeId) (parts : Array (Nat × Operand)) : Option St :=
 match E.T.ty t with
 | .struct fs => if E.T.known t then putG dst (fillD E.T pm (fun i => fs.getD i 0) 1 s (E.T.zeros t) parts.toList) else none
 | _ => none
def bd0 (E : Env) (pm : Pm) (s : St) (dst : Option Tmp) (t : TypeId) (parts : Array (Nat × Operand)) : Option (List (Nat × TypeId)) → Option St
 | some fl => if E.T.isStruct t && E.T.known t then putG dst (fillN E.T pm fl s (E.T.zeros t) parts.toList) else none
 | none => bdN E pm s dst t parts
theorem yBuild (parts : Array (Nat × Operand)) : opS E pm s dst (.build t parts) ty = bd0 E pm s dst t parts (E.T.nest t) := by
 rw [opS_build]
 unfold bd0 bdN
 cases E.T.nest t with
 | some fl =>
  simp only
  split
  ·rcases fillN E.T pm fl s (E.T.zeros t) parts.toList with _ | ⟨a, b⟩ <;> rfl
  ·rfl
 | none =>
  simp only
  cases E.T.ty t with
  | struct fs =>
   simp only
   split
   ·rcases fillD E.T pm (fun i => fs.getD i 0) 1 s (E.T.zeros t) parts.toList with _ | ⟨a, b⟩ <;> rfl
   ·rfl
  | _ => rfl
theorem bd0M (parts : Array (Nat × Operand)) (fl : List (Nat × TypeId)) (hk : E.T.known t = true) (hs : E.T.isStruct t = true) : bd0 E pm s dst t parts (some fl) = putG dst (fillN E.T pm fl s (E.T.zeros t) parts.toList) := by
 simp [bd0, hk, hs]
def bdT (E : Env) (pm : Pm) (s : St) (dst : Option Tmp) (t : TypeId) (parts : Array (Nat × Operand)) : Ty → Option St
 | .struct fs => if E.T.known t then putG dst (fillD E.T pm (fun i => fs.getD i 0) 1 s (E.T.zeros t) parts.toList) else none
 | _ => none
theorem bd0F (parts : Array (Nat × Operand)) : bd0 E pm s dst t parts none = bdT E pm s dst t parts (E.T.ty t) := by
 show bdN E pm s dst t parts = _
 unfold bdN bdT
 cases E.T.ty t <;> rfl
theorem bd0S (parts : Array (Nat × Operand)) (fs : List TypeId) (hk : E.T.known t = true) : bdT E pm s dst t parts (.struct fs) = putG dst (fillD E.T pm (fun i => fs.getD i 0) 1 s (E.T.zeros t) parts.toList) := by
 simp [bdT, hk]
def fn1 (T : Tys) (pm : Pm) (fl : List (Nat × TypeId)) (cs : List D) (off : Nat) (ty : TypeId) (rest : List (Nat × Operand)) : Option (D × St) → Option (List D × St)
 | none => none
 | some (d, s1) => if d.asCells.length = T.size ty ∧ off + T.size ty ≤ cs.length then fillN T pm fl s1 (splice cs off d.asCells) rest else none
theorem fnNil (T : Tys) (fl : List (Nat × TypeId)) (cs : List D) : fillN T pm fl s cs [] = some (cs, s) := nr rfl
def fn0 (T : Tys) (pm : Pm) (fl : List (Nat × TypeId)) (s : St) (cs : List D) (x : Operand) (rest : List (Nat × Operand)) : Option (Nat × TypeId) → Option (List D × St)
 | none => none
 | some (off, ty) => fn1 T pm fl cs off ty rest (take T pm s ty x)
theorem fnCons (T : Tys) (fl : List (Nat × TypeId)) (cs : List D) (i : Nat) (x : Operand) (rest : List (Nat × Operand)) : fillN T pm fl s cs ((i, x) :: rest) = fn0 T pm fl s cs x rest (fl[i]?) := by
 simp only [fillN]
 rcases fl[i]? with _ | ⟨off, ty⟩
 ·rfl
 ·simp only [fn0, fn1]
  rcases take T pm s ty x with _ | ⟨d, s1⟩ <;> rfl
theorem fn0S (T : Tys) (fl : List (Nat × TypeId)) (cs : List D) (x : Operand) (rest : List (Nat × Operand)) (off : Nat) (ty : TypeId) : fn0 T pm fl s cs x rest (some (off, ty)) = fn1 T pm fl cs off ty rest (take T pm s ty x) := nr rfl
theorem fn1S (T : Tys) (fl : List (Nat × TypeId)) (cs : List D) (off : Nat) (ty : TypeId) (rest : List (Nat × Operand)) (d : D) (h1 : d.asCells.length = T.size ty) (h2 : off + T.size ty ≤ cs.length) :
  fn1 T pm fl cs off ty rest (some (d, s)) = fillN T pm fl s (splice cs off d.asCells) rest := by simp only [fn1, h1, h2, and_self, if_true]
theorem fnA (ds : List D) : (D.agg ds).asCells = ds := nr rfl
theorem spN (cs : List D) (c : Nat) : splice cs c [] = cs := by cases cs <;> rfl
theorem spC (cs : List D) (c : Nat) (y : D) (ys : List D) : splice cs c (y :: ys) = splice (cs.set c y) (c + 1) ys := by cases cs <;> rfl
def mk0 (T : Tys) (n : Int) : Ty → Option D
 | .slice e => if 0 ≤ n ∧ n < 1099511627776 ∧ T.elem e = true then
   if T.isStruct e = true then some (.own e (List.replicate n.toNat (T.zeros e)).flatten)
   else if T.size e = 1 then some (.own e (List.replicate n.toNat (T.zero1 e))) else none
  else none
 | _ => none
theorem yMk (n : Int) : opMakeSlice T t (.int .i64 n) (.int .i64 n) = mk0 T n (T.ty t) := by
 unfold opMakeSlice mk0
 cases T.ty t <;> simp
theorem mk0S (n : Int) (e : TypeId) (hk : T.known e = true) (h4 : T.size e ≤ 4) (hs : T.isStruct e = false) (h0 : 0 ≤ n) (hn : n < 1099511627776) : mk0 T n (.slice e) = some (.own e (List.replicate n.toNat (T.zero1 e))) := by
 obtain ⟨hz, _⟩ := flat_one T hs
 simp only [mk0]
 rw [if_pos ⟨h0, hn, elem_of hk h4⟩, if_neg (by rw [hs]; decide), if_pos hz]
theorem mk0T (n : Int) (e : TypeId) (hk : T.known e = true) (h4 : T.size e ≤ 4) (hs : T.isStruct e = true) (h0 : 0 ≤ n) (hn : n < 1099511627776) : mk0 T n (.slice e) = some (.own e (List.replicate n.toNat (T.zeros e)).flatten) := by
 simp only [mk0]
 rw [if_pos ⟨h0, hn, elem_of hk h4⟩, if_pos hs]
end
end Dv
/- Value semantics for Go code: arguments of laws, opened. Conditions: none beyond those in each lemma. -/
namespace Dv
open Go

/-- A number of 64 bits. -/
def I64 (n : Int) : Prop := -9223372036854775808 ≤ n ∧ n ≤ 9223372036854775807
theorem I64_of {n : Int} (h : (Lit.int .i64 n).wf = true) : I64 n := by
 have h1 : IntKind.i64.min = -9223372036854775808 := by decide
 have h2 : IntKind.i64.max = 9223372036854775807 := by decide
 simp only [Lit.wf, h1, h2, Bool.and_eq_true, decide_eq_true_eq] at h
 exact h

section
variable {T : Tys} {t e : TypeId} {d : D}

theorem shpInt {ds : List D} (ht : T.ty t = .int .i64) (h : Shp T t ds) : ∃ n, ds = [.int .i64 n] ∧ I64 n := by
 cases h with
 | int ht' hw => rw [ht] at ht'; injection ht' with ht'; subst ht'; exact ⟨_, rfl, I64_of hw⟩
 | bool ht' => rw [ht] at ht'; cases ht'
 | string ht' => rw [ht] at ht'; cases ht'
 | slice ht' => rw [ht] at ht'; cases ht'
 | struct ht' => rw [ht] at ht'; cases ht'

theorem shpSlice {ds : List D} (ht : T.ty t = .slice e) (h : Shp T t ds) : ∃ xss : List (List D), ds = [.sl e xss.flatten] ∧ (∀ xs, xs ∈ xss → Shp T e xs) ∧ xss.length ≤ maxLen := by
 cases h with
 | int ht' hw => rw [ht] at ht'; cases ht'
 | bool ht' => rw [ht] at ht'; cases ht'
 | string ht' hs => rw [ht] at ht'; cases ht'
 | slice ht' hx hl => rw [ht] at ht'; injection ht' with ht'; subst ht'; exact ⟨_, rfl, hx, hl⟩
 | struct ht' => rw [ht] at ht'; cases ht'

theorem shpStruct {fs : List TypeId} {ds : List D} (ht : T.ty t = .struct fs) (h : Shp T t ds) : ds.length = fs.length ∧ ∀ (i : Nat) (f : TypeId) (d : D), fs[i]? = some f → ds[i]? = some d → Shp T f [d] := by
 cases h with
 | int ht' hw => rw [ht] at ht'; cases ht'
 | bool ht' => rw [ht] at ht'; cases ht'
 | string ht' hs => rw [ht] at ht'; cases ht'
 | slice ht' hx hl => rw [ht] at ht'; cases ht'
 | struct ht' hl hx => rw [ht] at ht'; injection ht' with ht'; subst ht'; exact ⟨hl, hx⟩

/-- A list of numbers. -/
def Nums (xs : List Int) : Prop := xs.length ≤ maxLen ∧ ∀ x ∈ xs, I64 x
/-- A list of lists of numbers. -/
def Numss (xss : List (List Int)) : Prop := xss.length ≤ maxLen ∧ ∀ xs ∈ xss, Nums xs

theorem shpInts {ds : List D} (ht : T.ty t = .slice e) (he : T.ty e = .int .i64) (h : Shp T t ds) : ∃ xs, ds = [.sl e (ints xs)] ∧ Nums xs := by
 obtain ⟨xss, rfl, hx, hl⟩ := shpSlice ht h
 have : ∀ xss : List (List D), (∀ xs, xs ∈ xss → Shp T e xs) → ∃ ys, xss.flatten = ints ys ∧ ys.length = xss.length ∧ ∀ y ∈ ys, I64 y := by
  intro xss
  induction xss with
  | nil => intro _; exact ⟨[], rfl, rfl, by simp⟩
  | cons xs xss ih =>
   intro hx
   obtain ⟨n, rfl, hn⟩ := shpInt he (hx xs (List.mem_cons_self))
   obtain ⟨ys, h1, h2, h3⟩ := ih (fun q hq => hx q (List.mem_cons_of_mem _ hq))
   refine ⟨n :: ys, by rw [List.flatten_cons, h1]; rfl, by simp [h2], fun y hy => ?_⟩
   rcases List.mem_cons.1 hy with rfl | hy
   ·exact hn
   ·exact h3 y hy
 obtain ⟨ys, h1, h2, h3⟩ := this xss hx
 exact ⟨ys, by rw [h1], by omega, h3⟩

theorem shpIntss {e2 : TypeId} {ds : List D} (ht : T.ty t = .slice e) (he : T.ty e = .slice e2) (he2 : T.ty e2 = .int .i64) (h : Shp T t ds) : ∃ xss, ds = [.sl e (sls e2 xss)] ∧ Numss xss := by
 obtain ⟨xss, rfl, hx, hl⟩ := shpSlice ht h
 have : ∀ xss : List (List D), (∀ xs, xs ∈ xss → Shp T e xs) → ∃ ys, xss.flatten = sls e2 ys ∧ ys.length = xss.length ∧ ∀ y ∈ ys, Nums y := by
  intro xss
  induction xss with
  | nil => intro _; exact ⟨[], rfl, rfl, by simp⟩
  | cons xs xss ih =>
   intro hx
   obtain ⟨n, rfl, hn⟩ := shpInts he he2 (hx xs (List.mem_cons_self))
   obtain ⟨ys, h1, h2, h3⟩ := ih (fun q hq => hx q (List.mem_cons_of_mem _ hq))
   refine ⟨n :: ys, by rw [List.flatten_cons, h1]; rfl, by simp [h2], fun y hy => ?_⟩
   rcases List.mem_cons.1 hy with rfl | hy
   ·exact hn
   ·exact h3 y hy
 obtain ⟨ys, h1, h2, h3⟩ := this xss hx
 exact ⟨ys, by rw [h1], by omega, h3⟩

theorem argStruct {fs : List TypeId} (ht : T.ty t = .struct fs) (h : Arg T t d) : ∃ ds, d = .agg ds ∧ ds.length = fs.length ∧ ∀ (i : Nat) (f : TypeId) (d : D), fs[i]? = some f → ds[i]? = some d → Shp T f [d] := by
 obtain ⟨ds, hs, rfl⟩ := h
 obtain ⟨h1, h2⟩ := shpStruct ht hs
 exact ⟨ds, by simp [top, Tys.isStruct, ht, Ty.isStruct], h1, h2⟩

/-- A struct of two numbers and two lists of lists. -/
theorem argProblem {a b : TypeId} (ht : T.ty t = .struct [a, a, b, b]) (ha : T.ty a = .int .i64) (hb : T.ty b = .slice e) {e2 : TypeId} (he : T.ty e = .slice e2) (he2 : T.ty e2 = .int .i64) (h : Arg T t d) :
  ∃ l k ns es, d = .agg [.int .i64 l, .int .i64 k, .sl e (sls e2 ns), .sl e (sls e2 es)] ∧ I64 l ∧ I64 k ∧ Numss ns ∧ Numss es := by
 obtain ⟨ds, rfl, hl, hx⟩ := argStruct ht h
 rcases ds with _ | ⟨d0, _ | ⟨d1, _ | ⟨d2, _ | ⟨d3, _ | ⟨_, _⟩⟩⟩⟩⟩ <;> simp at hl
 obtain ⟨l, h0, hl0⟩ := shpInt ha (hx 0 a d0 rfl rfl)
 obtain ⟨k, h1, hl1⟩ := shpInt ha (hx 1 a d1 rfl rfl)
 obtain ⟨ns, h2, hl2⟩ := shpIntss hb he he2 (hx 2 b d2 rfl rfl)
 obtain ⟨es, h3, hl3⟩ := shpIntss hb he he2 (hx 3 b d3 rfl rfl)
 simp only [List.cons.injEq, and_true] at h0 h1 h2 h3
 subst h0 h1 h2 h3
 exact ⟨l, k, ns, es, rfl, hl0, hl1, hl2, hl3⟩
end

theorem trodAll_len {H : Type} {enc : TypeId × Value → H} {P : Program} {w : World} {base : Nat} {spare : Nat → Bool} {held : Bool} : ∀ {ts : List TypeId} {vs : List Value} {ds : List (DataW H)} {ps : List MemPlace},
  DataW.TrodAll enc P w base spare held ts vs ds ps → ds.length = ts.length ∧ vs.length = ts.length := by
 intro ts
 induction ts with
 | nil => intro vs ds ps h; cases vs <;> cases ds <;> simp [DataW.TrodAll] at h; exact ⟨rfl, rfl⟩
 | cons t ts ih =>
  intro vs ds ps h
  cases vs with
  | nil => cases ds <;> simp [DataW.TrodAll] at h
  | cons v vs =>
   cases ds with
   | nil => simp [DataW.TrodAll] at h
   | cons d ds =>
    simp only [DataW.TrodAll] at h
    obtain ⟨p, q, h1, h2, _⟩ := h
    obtain ⟨e1, e2⟩ := ih h2
    exact ⟨by simp [e1], by simp [e2]⟩
end Dv
/- Value semantics for Go code: rules for variables, structs and closures. Conditions: none beyond those in each lemma. -/
namespace Dv
open Go

section
variable {E : Env} {T : Tys} {pm : Pm} {s : St} {dst : Option Tmp} {ty t : TypeId}

/-! ### New variables -/
def bo0 (T : Tys) (t : TypeId) (dst : Option Tmp) : Option (D × St) → Option St
 | some (d, s1) => if T.isStruct t == d.isAgg then some (s1.putO dst (.box d.asCells)) else none
 | none => none
def bk0 (E : Env) (pm : Pm) (s : St) (t : TypeId) (x : Operand) (dst : Option Tmp) : D → Option St
 | .agg ds => if hasObjs ds then bo0 E.T t dst (take E.T pm s t x) else (if E.T.isStruct t then some (s.putO dst (.box ds)) else none)
 | _ => bo0 E.T t dst (take E.T pm s t x)
theorem bk0_eq (u : Tmp) : opBox E.T pm s dst t (.tmp u) = bk0 E pm s t (.tmp u) dst (s.v u) := by
 rw [opBox_eq]
 cases hk : keepA (ev E.T s t (.tmp u)) with
 | some ds =>
  simp only [ev] at hk
  cases hv : s.v u <;> rw [hv] at hk <;> simp only [keepA] at hk <;> try (cases hk; done)
  split at hk
  ·cases hk
  ·rename_i ho
   simp only [Option.some.injEq] at hk
   subst hk
   simp only [bk0, ho]; rfl
 | none =>
  have hold : bk0 E pm s t (.tmp u) dst (s.v u) = bo0 E.T t dst (take E.T pm s t (.tmp u)) := by
   simp only [ev] at hk
   cases hv : s.v u <;> try rfl
   rw [hv] at hk
   simp only [keepA] at hk
   split at hk
   ·rename_i ho; simp only [bk0, ho, if_true]
   ·cases hk
  rw [hold]
  simp only
  rcases take E.T pm s t (.tmp u) with _ | ⟨d, s1⟩ <;> rfl
theorem yBox (u : Tmp) : opS E pm s dst (.box t (.tmp u)) ty = if ty = 900003 then frB pm dst (bk0 E pm s t (.tmp u) dst (s.v u)) else bk0 E pm s t (.tmp u) dst (s.v u) := by
 rw [opS_box, bk0_eq]
 by_cases h : ty = 900003
 ·rw [if_pos h, if_pos h]
  unfold frB
  cases bk0 E pm s t (.tmp u) dst (s.v u) <;> cases dst <;> rfl
 ·rw [if_neg h, if_neg h]
theorem bkK (x : Operand) (ds : List D) (hs : E.T.isStruct t = true) : bk0 E pm s t x dst (.agg ds) = if hasObjs ds then bo0 E.T t dst (take E.T pm s t x) else some (s.putO dst (.box ds)) := by simp [bk0, hs]
theorem bkInt (x : Operand) (k : IntKind) (n : Int) : bk0 E pm s t x dst (.int k n) = bo0 E.T t dst (take E.T pm s t x) := nr rfl
theorem bkBool (x : Operand) (b : Bool) : bk0 E pm s t x dst (.bool b) = bo0 E.T t dst (take E.T pm s t x) := nr rfl
theorem bkStr (x : Operand) (b : ByteArray) : bk0 E pm s t x dst (.str b) = bo0 E.T t dst (take E.T pm s t x) := nr rfl
theorem bkSl (x : Operand) (e : TypeId) (xs : List D) : bk0 E pm s t x dst (.sl e xs) = bo0 E.T t dst (take E.T pm s t x) := nr rfl
theorem bkOwn (x : Operand) (e : TypeId) (xs : List D) : bk0 E pm s t x dst (.own e xs) = bo0 E.T t dst (take E.T pm s t x) := nr rfl
theorem bkVw (x : Operand) (L : Place) (n m : Nat) : bk0 E pm s t x dst (.vw L n m) = bo0 E.T t dst (take E.T pm s t x) := nr rfl
theorem bkClo (x : Operand) (f : FuncId) (xs : List D) : bk0 E pm s t x dst (.clo f xs) = bo0 E.T t dst (take E.T pm s t x) := nr rfl
theorem bo0A (ds : List D) (hs : T.isStruct t = true) : bo0 T t dst (some (.agg ds, s)) = some (s.putO dst (.box ds)) := by simp [bo0, hs, D.isAgg, D.asCells]
theorem bo0V (d : D) (hs : T.isStruct t = false) (hd : d.isAgg = false) : bo0 T t dst (some (d, s)) = some (s.putO dst (.box [d])) := by
 have : d.asCells = [d] := by cases d <;> first | rfl | (simp [D.isAgg] at hd)
 simp [bo0, hs, hd, this]

/-! ### Fields -/
def fa1 (L : Place) (i n m : Nat) : Option D → Option D
 | some _ => some (.pe L i n m)
 | none => none
theorem fa1S (L : Place) (i n m : Nat) (d : D) : fa1 L i n m (some d) = some (.pe L i n m) := nr rfl
def fa0 (T : Tys) (pm : Pm) (s : St) (t : TypeId) (x : Operand) (d : D) : Option Nat → Option D
 | none => none
 | some j =>
  if T.isStruct t then
   match d with
   | .box _ => match x with | .tmp u => some (.pe [u] j (s.k u) (s.m u)) | _ => none
   | .vw L n m => match s.look pm L n m with | some (.box _) => some (.pe L j n m) | _ => none
   | .pe L c n m => match s.look pm L n m with | some _ => some (.pe L (c + j) n m) | none => none
   | .cptr xs => some (.cptr (xs.drop j))
   | _ => none
  else none
theorem faE (x : Operand) (d : D) (i : Nat) : opFieldAddr T pm s t x d i = fa0 T pm s t x d (T.foff t i) := by
 unfold opFieldAddr fa0
 cases T.foff t i <;> rfl
theorem foN (i : Nat) (hn : T.nest t = none) (hi : i < T.size t) : T.foff t i = some i := by simp [Tys.foff, hn, hi]
theorem faBox (u : Tmp) (xs : List D) (i : Nat) (hs : T.isStruct t = true) : fa0 T pm s t (.tmp u) (.box xs) (some i) = some (.pe [u] i (s.k u) (s.m u)) := by simp [fa0, hs]
theorem faVw (x : Operand) (L : Place) (n m i : Nat) (hs : T.isStruct t = true) : fa0 T pm s t x (.vw L n m) (some i) = fa1 L i n m (boxAt s pm L n m) := by
 simp only [fa0, hs, if_true, boxAt]
 cases s.look pm L n m with
 | none => rfl
 | some o => cases o <;> rfl
theorem faPe (x : Operand) (L : Place) (c n m i : Nat) (hs : T.isStruct t = true) : fa0 T pm s t x (.pe L c n m) (some i) = fa1 L (c + i) n m (s.look pm L n m) := by
 simp only [fa0, hs, if_true]
 cases s.look pm L n m <;> rfl
theorem faCp (x : Operand) (xs : List D) (i : Nat) (hs : T.isStruct t = true) : fa0 T pm s t x (.cptr xs) (some i) = some (.cptr (xs.drop i)) := by simp [fa0, hs]

/-! ### Structs as a whole -/
theorem csS (L : Place) (c n : Nat) (o : D) : cellsOf s L c n (some o) = if c + n ≤ o.cells.length then noObjD (.agg ((List.range n).map fun i => seen s L (c + i) (o.cells.getD (c + i) .undef))) else none := nr rfl
variable {α : Type} (f : Nat → α)
theorem rg1 : (List.range 1).map f = [f 0] := nr rfl
theorem rg2 : (List.range 2).map f = [f 0, f 1] := nr rfl
theorem rg3 : (List.range 3).map f = [f 0, f 1, f 2] := nr rfl
theorem rg4 : (List.range 4).map f = [f 0, f 1, f 2, f 3] := nr rfl
theorem rg5 : (List.range 5).map f = [f 0, f 1, f 2, f 3, f 4] := nr rfl
theorem rg6 : (List.range 6).map f = [f 0, f 1, f 2, f 3, f 4, f 5] := nr rfl
theorem rg7 : (List.range 7).map f = [f 0, f 1, f 2, f 3, f 4, f 5, f 6] := nr rfl
theorem rg8 : (List.range 8).map f = [f 0, f 1, f 2, f 3, f 4, f 5, f 6, f 7] := nr rfl
theorem rg9 : (List.range 9).map f = [f 0, f 1, f 2, f 3, f 4, f 5, f 6, f 7, f 8] := nr rfl
theorem rg10 : (List.range 10).map f = [f 0, f 1, f 2, f 3, f 4, f 5, f 6, f 7, f 8, f 9] := nr rfl
theorem rg11 : (List.range 11).map f = [f 0, f 1, f 2, f 3, f 4, f 5, f 6, f 7, f 8, f 9, f 10] := nr rfl
theorem rg12 : (List.range 12).map f = [f 0, f 1, f 2, f 3, f 4, f 5, f 6, f 7, f 8, f 9, f 10, f 11] := nr rfl
theorem seInt (L : Place) (c : Nat) (k : IntKind) (n : Int) : seen s L c (.int k n) = .int k n := nr rfl
theorem seBool (L : Place) (c : Nat) (b : Bool) : seen s L c (.bool b) = .bool b := nr rfl
theorem seStr (L : Place) (c : Nat) (b : ByteArray) : seen s L c (.str b) = .str b := nr rfl
theorem seSl (L : Place) (c : Nat) (e : TypeId) (xs : List D) : seen s L c (.sl e xs) = .sl e xs := nr rfl
theorem seOwn (L : Place) (c : Nat) (e : TypeId) (xs : List D) : seen s L c (.own e xs) = mkv s (L ++ [c]) := nr rfl
theorem seClo (L : Place) (c : Nat) (g : FuncId) (xs : List D) : seen s L c (.clo g xs) = .clo g xs := nr rfl
theorem seVw (L : Place) (c : Nat) (M : Place) (n m : Nat) : seen s L c (.vw M n m) = .vw M n m := nr rfl
theorem noA (xs : List D) : noObjD (.agg xs) = if hasObjs xs then none else some (.agg xs) := by simp only [noObjD, D.hasObj]; rfl

theorem noInt (k : IntKind) (n : Int) : noObjD (.int k n) = some (.int k n) := by simp [noObjD, D.hasObj]
theorem noBool (b : Bool) : noObjD (.bool b) = some (.bool b) := by simp [noObjD, D.hasObj]
theorem noStr (b : ByteArray) : noObjD (.str b) = some (.str b) := by simp [noObjD, D.hasObj]
theorem noSl (e : TypeId) (xs : List D) : noObjD (.sl e xs) = some (.sl e xs) := by simp [noObjD, D.hasObj]
theorem noVw (L : Place) (n m : Nat) : noObjD (.vw L n m) = some (.vw L n m) := by simp [noObjD, D.hasObj]
theorem noClo (g : FuncId) (xs : List D) : noObjD (.clo g xs) = some (.clo g xs) := by simp [noObjD, D.hasObj]
theorem dl2 (a b : Nat) (l : Place) : List.dropLast (a :: b :: l) = a :: List.dropLast (b :: l) := nr rfl
theorem dl1 (a : Nat) : List.dropLast [a] = [] := nr rfl
theorem get2 (r c : Nat) (p : Place) : s.get (r :: c :: p) = getp (s.v r) (c :: p) := nr rfl
theorem splice_all : ∀ (ds xs : List D), xs.length = ds.length → splice xs 0 ds = ds := by
 have key : ∀ (ds pre xs : List D), xs.length = ds.length → splice (pre ++ xs) pre.length ds = pre ++ ds := by
  intro ds
  induction ds with
  | nil => intro pre xs h; simp at h; subst h; rfl
  | cons d ds ih =>
   intro pre xs h
   cases xs with
   | nil => simp at h
   | cons x xs =>
    simp only [splice]
    have := ih (pre ++ [d]) xs (by simpa using h)
    simpa using this
 intro ds xs h
 simpa using key ds [] xs h

/-- A struct goes into a variable. -/
def sw1 (T : Tys) (pm : Pm) (t : TypeId) (u : Tmp) (ds : List D) (s : St) : D → Option St
 | .box xs => if T.known t && T.isStruct t && pm.wr u && ds.all solid && (T.size t == ds.length) && (xs.length == ds.length) then (if hasObjs ds || hasObjs xs then some ((s.set [u] (.box ds)).bump u) else some (s.set [u] (.box ds))) else st1 T pm t (.tmp u) (some (.agg ds, s))
 | _ => st1 T pm t (.tmp u) (some (.agg ds, s))
theorem sw1E (u : Tmp) (ds : List D) : st1 T pm t (.tmp u) (some (.agg ds, s)) = sw1 T pm t u ds s (s.v u) := by
 cases hv : s.v u <;> simp only [sw1]
 rename_i xs
 split
 ·rename_i hc
  simp only [Bool.and_eq_true, beq_iff_eq] at hc
  obtain ⟨⟨⟨⟨⟨hk, hs⟩, hw⟩, hd⟩, hz⟩, hl⟩ := hc
  have hz' : T.size t ≤ xs.length := by omega
  simp only [st1, ev, hv, addrD, D.asCells, D.isAgg, D.cells, D.withCells, hk, hs, hw, hd, hz, List.headD_cons, beq_self_eq_true, Bool.and_self, Nat.zero_add, D.hasObj]
  rw [splice_all ds xs hl]
  have h2 : ds.length ≤ xs.length := by omega
  simp only [h2, decide_true, Bool.and_self, if_true]
  split <;> first | rfl | (rename_i hq; simp only [hq]; rfl)
 ·rfl
theorem sw1B (u : Tmp) (ds xs : List D) (hk : T.known t = true) (hs : T.isStruct t = true) (hw : pm.wr u = true) (hd : ds.all solid = true) (hz : T.size t = ds.length) (hl : xs.length = ds.length) :
  sw1 T pm t u ds s (.box xs) = if hasObjs ds || hasObjs xs then some ((s.set [u] (.box ds)).bump u) else some (s.set [u] (.box ds)) := by
 simp [sw1, hk, hs, hw, hd, hz, hl]

/-! ### Results in variables -/
def rc1 (T : Tys) (s : St) (t : Tmp) (ty : TypeId) : D → Option (D × St)
 | .box xs => if T.isStruct ty then (if xs.length = T.size ty then td1 (takeDs Pm.all (s.clr t) xs) else none) else (match xs with | [d] => takeD Pm.all (s.clr t) d | _ => none)
 | .cptr xs => if T.isStruct ty then (if xs.length = T.size ty then some (.agg xs, s) else none) else (match xs with | [d] => some (d, s) | _ => none)
 | _ => none
theorem rdCell (u : Tmp) (hk : T.known ty = true) : resD T s (.cell u ty) = rc1 T s u ty (s.v u) := by
 simp only [resD, hk, if_true, rc1]
 cases s.v u with
 | box xs =>
  simp only
  split
  ·split
   ·cases takeDs Pm.all (s.clr u) xs <;> rfl
   ·rfl
  ·rfl
 | _ => rfl
theorem rc1S (u : Tmp) (xs : List D) (hs : T.isStruct ty = true) (hl : xs.length = T.size ty) : rc1 T s u ty (.box xs) = td1 (takeDs Pm.all (s.clr u) xs) := by simp [rc1, hs, hl]
theorem rc1V (u : Tmp) (d : D) (hs : T.isStruct ty = false) : rc1 T s u ty (.box [d]) = takeD Pm.all (s.clr u) d := by simp [rc1, hs]
theorem rc1C (u : Tmp) (d : D) (hs : T.isStruct ty = false) : rc1 T s u ty (.cptr [d]) = some (d, s) := by simp [rc1, hs]

/-! ### Closures -/
def cp1 (pm : Pm) (s : St) (u : Tmp) (rest : List Operand) : D → Option (List D × St)
 | .box xs => match frzs xs with
  | some ys => if pm.wr u then (capD pm (s.set [u] (.cptr ys)) rest).map fun r => (.cptr ys :: r.1, r.2) else none
  | none => none
 | .cptr ys => (capD pm s rest).map fun r => (.cptr ys :: r.1, r.2)
 | _ => none
theorem cpNil : capD pm s [] = some ([], s) := nr rfl
theorem cpTmp (u : Tmp) (rest : List Operand) : capD pm s (.tmp u :: rest) = cp1 pm s u rest (s.v u) := by
 simp only [capD]
 cases s.v u <;> rfl
def cp2 (pm : Pm) (s : St) (u : Tmp) (rest : List Operand) : Option (List D) → Option (List D × St)
 | some ys => if pm.wr u then (capD pm (s.set [u] (.cptr ys)) rest).map fun r => (.cptr ys :: r.1, r.2) else none
 | none => none
theorem cp1B (u : Tmp) (rest : List Operand) (xs : List D) : cp1 pm s u rest (.box xs) = cp2 pm s u rest (frzs xs) := by
 simp only [cp1]; cases frzs xs <;> rfl
theorem cp2S (u : Tmp) (rest : List Operand) (ys : List D) (hw : pm.wr u = true) : cp2 pm s u rest (some ys) = (capD pm (s.set [u] (.cptr ys)) rest).map fun r => (.cptr ys :: r.1, r.2) := by simp [cp2, hw]
theorem cp1C (u : Tmp) (rest : List Operand) (ys : List D) : cp1 pm s u rest (.cptr ys) = (capD pm s rest).map fun r => (.cptr ys :: r.1, r.2) := nr rfl
def clN (E : Env) (pm : Pm) (s : St) (dst : Option Tmp) (args : Array Operand) (ts : Array TypeId) : D → Option St
 | .clo f caps => if args.size = ts.size then callD E pm s dst f (args.toList.zip ts.toList) caps else none
 | .ocl false f caps => if args.size = ts.size then callO E pm s dst f (args.toList.zip ts.toList) caps else none
 | _ => none
theorem yCallv (u : Tmp) (args : Array Operand) (ts : Array TypeId) : opS E pm s dst (.call ⟨.value (.tmp u), args, ts⟩) ty = clN E pm s dst args ts (s.v u) := by
 rw [opS_callv]; cases s.v u <;> first | rfl | (rename_i b _ _; cases b <;> rfl)
theorem clNS (args : Array Operand) (ts : Array TypeId) (f' : FuncId) (caps : List D) (h : args.size = ts.size) : clN E pm s dst args ts (.clo f' caps) = callD E pm s dst f' (args.toList.zip ts.toList) caps := by simp [clN, h]
def mf0 (f : FuncId) (dst : Option Tmp) : Option (List D × St) → Option St
 | some r => some (r.2.putO dst (.clo f r.1))
 | none => none
theorem mf0S (g : FuncId) (xs : List D) : mf0 g dst (some (xs, s)) = some (s.putO dst (.clo g xs)) := nr rfl
def mfV (f : FuncId) (dst : Option Tmp) : Option (List D × St) → Option St
 | some r => some (r.2.putO dst (.ocl false f r.1))
 | none => none
theorem mfVS (g : FuncId) (xs : List D) : mfV g dst (some (xs, s)) = some (s.putO dst (.ocl false g xs)) := nr rfl
theorem yMf (g : FuncId) (captured : Array Operand) : opS E pm s dst (.makeFunc (.func g) #[] captured) ty = if ty < 3000000 then mf0 g dst (capD pm s captured.toList) else mfV g dst (capV pm s (ty - 3000000) captured.toList) := by
 rw [opS_makeFunc]
 simp only [List.isEmpty_toArray, List.isEmpty_nil, if_true]
 by_cases h : ty < 3000000
 ·rw [if_pos h, if_pos h]
  cases capD pm s captured.toList <;> rfl
 ·rw [if_neg h, if_neg h]
  cases capV pm s (ty - 3000000) captured.toList <;> rfl
/-- Captured variables that are seen. -/
def cvp (l : List Operand) : Option (List D × St) → Option (List D × St)
 | none => none
 | some (_, s1) => (capE s1 l).map fun ds => (ds, s1)
theorem cvE (m : Nat) (l : List Operand) : capV pm s m l = cvp l (capD pm s (unmask m 0 l)) := by
 unfold capV cvp
 rcases capD pm s (unmask m 0 l) with _ | ⟨ys, s1⟩ <;> rfl
def cvq (s : St) : Option (List D) → Option (List D × St)
 | some ds => some (ds, s)
 | none => none
theorem cvpS (l : List Operand) (ys : List D) : cvp l (some (ys, s)) = cvq s (capE s l) := by
 simp only [cvp]; cases capE s l <;> rfl
theorem cvqE (ds : List D) : cvq s (some ds) = some (ds, s) := nr rfl
theorem umN (m i : Nat) : unmask m i [] = [] := nr rfl
theorem umC (m i : Nat) (x : Operand) (xs : List Operand) : unmask m i (x :: xs) = if m / 2 ^ i % 2 = 1 then unmask m (i + 1) xs else x :: unmask m (i + 1) xs := by
 rw [unmask, Nat.testBit_eq_decide_div_mod_eq]
 by_cases h : m / 2 ^ i % 2 = 1 <;> simp [h]
def ce1 (s : St) (u : Tmp) (r : Option (List D)) : D → Option (List D)
 | .box _ => r.map (mkv s [u] :: ·)
 | .cptr ys => r.map (.cptr ys :: ·)
 | _ => none
theorem ceN : capE s [] = some [] := nr rfl
theorem ceT (u : Tmp) (rest : List Operand) : capE s (.tmp u :: rest) = ce1 s u (capE s rest) (s.v u) := by
 simp only [capE]
 cases s.v u <;> rfl
theorem ce1B (u : Tmp) (l xs : List D) : ce1 s u (some l) (.box xs) = some (mkv s [u] :: l) := nr rfl
theorem ce1C (u : Tmp) (l ys : List D) : ce1 s u (some l) (.cptr ys) = some (.cptr ys :: l) := nr rfl
/-- A closure is laid in its own variable. -/
def tie0 (T : Tys) (pm : Pm) (s : St) (t : TypeId) (t0 : Tmp) : D → D → Option St
 | .box [_], .ocl false f xs => if T.known t && !T.isStruct t && (T.size t == 1) && pm.rd t0 && pm.wr t0 then some (s.set [t0] (.ocl true f (xs.map (untie s t0)))) else none
 | _, _ => none
theorem tieE (T : Tys) (t0 u : Tmp) : opTie T pm s t (.tmp t0) (.tmp u) = tie0 T pm s t t0 (s.v t0) (s.v u) := by
 show (match s.v t0, s.v u with
  | .box [_], .ocl false f xs => if T.known t && !T.isStruct t && (T.size t == 1) && pm.rd t0 && pm.wr t0 then some (s.set [t0] (.ocl true f (xs.map (untie s t0)))) else none
  | _, _ => none) = _
 rfl
theorem tieS (T : Tys) (t0 : Tmp) (x : D) (f : FuncId) (xs : List D) (hk : T.known t = true) (hs : T.isStruct t = false) (hz : T.size t = 1) (hr : pm.rd t0 = true) (hw : pm.wr t0 = true) :
  tie0 T pm s t t0 (.box [x]) (.ocl false f xs) = some (s.set [t0] (.ocl true f (xs.map (untie s t0)))) := by simp [tie0, hk, hs, hz, hr, hw]
theorem utV (t0 r n m : Nat) : untie s t0 (.vw [r] n m) = if r = t0 then (if n = s.k t0 then .undef else .vw [r] n m) else .vw [r] n m := by
 unfold untie
 by_cases h : r = t0 <;> by_cases h2 : n = s.k t0 <;> simp [h, h2]
theorem utC (t0 : Nat) (ys : List D) : untie s t0 (.cptr ys) = .cptr ys := nr rfl
theorem ldO (T : Tys) (x : Operand) (f : FuncId) (xs : List D) (hk : T.known t = true) (hs : T.isStruct t = false) : opLoad T pm s t x (.ocl true f xs) = some (.ocl false f xs) := by simp [opLoad, hk, hs]
/-- A call of a closure that is lent what it captured. -/
def co2 (E : Env) (pm : Pm) (s : St) (dst : Option Tmp) (f : FuncId) (as : List D) (ls : List (Place × D)) : Option (List D × List (Place × D)) → Option St
 | none => none
 | some (cs, lc) =>
  if apartL ((ls ++ lc).map (·.1)) && (ls ++ lc).all (fun l => pm.wr (l.1.headD 0)) && (ls ++ lc).all (fun l => okD l.2) then
   cl2 s dst (ls ++ lc) (E.call f (as ++ cs.map (selfArg f cs)) ((ls ++ lc).map (·.2)))
  else none
def co1 (E : Env) (pm : Pm) (s : St) (dst : Option Tmp) (f : FuncId) (caps : List D) : Option (List D × List (Place × D)) → Option St
 | none => none
 | some (as, ls) => co2 E pm s dst f as ls (oclArg pm s ls.length caps)
theorem coE (f : FuncId) (xs : List (Operand × TypeId)) (caps : List D) : callO E pm s dst f xs caps = co1 E pm s dst f caps (argsD E true pm s 0 xs) := by
 unfold callO co1
 rcases argsD E true pm s 0 xs with _ | ⟨as, ls⟩
 ·rfl
 ·simp only
  unfold co2
  rcases oclArg pm s ls.length caps with _ | ⟨cs, lc⟩
  ·rfl
  ·simp only
   split
   ·unfold cl2
    rcases E.call f (as ++ cs.map (selfArg f cs)) ((ls ++ lc).map (·.2)) with _ | ⟨r, o⟩ <;> rfl
   ·rfl
theorem co1S (f : FuncId) (caps as : List D) (ls : List (Place × D)) : co1 E pm s dst f caps (some (as, ls)) = co2 E pm s dst f as ls (oclArg pm s ls.length caps) := nr rfl
theorem co2S (f : FuncId) (as cs : List D) (ls lc : List (Place × D)) (h : (apartL ((ls ++ lc).map (·.1)) && (ls ++ lc).all (fun l => pm.wr (l.1.headD 0)) && (ls ++ lc).all (fun l => okD l.2)) = true) :
  co2 E pm s dst f as ls (some (cs, lc)) = cl2 s dst (ls ++ lc) (E.call f (as ++ cs.map (selfArg f cs)) ((ls ++ lc).map (·.2))) := by simp only [co2, h, if_true]
def oaJ (a : D) (l : List (Place × D)) : Option (List D × List (Place × D)) → Option (List D × List (Place × D))
 | some r => some (a :: r.1, l ++ r.2)
 | none => none
theorem oaJS (a : D) (l : List (Place × D)) (r : List D) (m : List (Place × D)) : oaJ a l (some (r, m)) = some (a :: r, l ++ m) := nr rfl
def oa1 (pm : Pm) (s : St) (j : Nat) (L : Place) (rest : List D) : Option D → Option (List D × List (Place × D))
 | some c => oaJ (.vw [G + j] 0 0) [(L, c)] (oclArg pm s (j + 1) rest)
 | none => none
theorem oa1S (j : Nat) (L : Place) (rest : List D) (c : D) : oa1 pm s j L rest (some c) = oaJ (.vw [G + j] 0 0) [(L, c)] (oclArg pm s (j + 1) rest) := nr rfl
theorem oaN (j : Nat) : oclArg pm s j [] = some ([], []) := nr rfl
theorem oaV (j : Nat) (L : Place) (n m : Nat) (rest : List D) : oclArg pm s j (.vw L n m :: rest) = oa1 pm s j L rest (s.look pm L n m) := by
 rw [oclArg]
 cases s.look pm L n m with
 | none => rfl
 | some c => simp only [oa1]; rcases oclArg pm s (j + 1) rest with _ | ⟨a, b⟩ <;> rfl
theorem oaC (j : Nat) (ys rest : List D) : oclArg pm s j (.cptr ys :: rest) = oaJ (.cptr ys) [] (oclArg pm s j rest) := by
 rw [oclArg]
 rcases oclArg pm s j rest with _ | ⟨a, b⟩ <;> rfl
theorem oaU (j : Nat) (rest : List D) : oclArg pm s j (.undef :: rest) = oaJ .undef [] (oclArg pm s j rest) := by
 rw [oclArg]
 rcases oclArg pm s j rest with _ | ⟨a, b⟩ <;> rfl
theorem saU (f : FuncId) (cs : List D) : selfArg f cs .undef = .ocl true f cs := nr rfl
theorem saV (f : FuncId) (cs : List D) (L : Place) (n m : Nat) : selfArg f cs (.vw L n m) = .vw L n m := nr rfl
theorem saC (f : FuncId) (cs ys : List D) : selfArg f cs (.cptr ys) = .cptr ys := nr rfl
theorem clNO (args : Array Operand) (ts : Array TypeId) (f' : FuncId) (caps : List D) (h : args.size = ts.size) : clN E pm s dst args ts (.ocl false f' caps) = callO E pm s dst f' (args.toList.zip ts.toList) caps := by simp [clN, h]
theorem hasSlClo0 (g : FuncId) : hasSl (.clo g []) = false := by simp [hasSl]

/-! ### Slices of slices -/
def bn1 (dflt : Nat) : Option D → Option Nat
 | some (.int _ n) => if 0 ≤ n then some n.toNat else none
 | _ => none
theorem bnN (n : Nat) : bnd T s n none = some n := nr rfl
theorem bnS (n : Nat) (x : Operand) : bnd T s n (some x) = bn1 n (ev T s 0 x) := by
 simp only [bnd]
 rcases ev T s 0 x with _ | d
 ·rfl
 ·cases d <;> rfl
theorem bn1S (n : Nat) (k : IntKind) (i : Int) (h : 0 ≤ i) : bn1 n (some (.int k i)) = some i.toNat := by simp [bn1, h]
def sl0 (T : Tys) (pm : Pm) (s : St) (x : Operand) (d : D) (lo hi mx : Option Operand) : Ty → Option (D × St)
 | .slice e' => match sliceD pm s x d with
  | none => none
  | some (e, xs, o) =>
   match bnd T s 0 lo, bnd T s (T.len e xs) hi with
   | some l, some h =>
    if e' = e ∧ T.known e = true ∧ l ≤ h ∧ h ≤ T.len e xs then
     if mx.isSome then
      match bnd T s 0 mx with
      | some q => if l = h ∧ h = q ∧ hi.isSome = true then some (.own e [], s) else none
      | none => none
     else match o with
      | none => some (.sl e ((xs.take (h * T.size e)).drop (l * T.size e)), s)
      | some (L, va, vb) =>
       if pm.wr (L.headD 0) then
        match frzs xs with
        | some ys => some (.sl e ((ys.take (h * T.size e)).drop (l * T.size e)), s.set L (.sl e ys))
        | none => none
       else viewS L va vb e l h s
    else none
   | _, _ => none
 | .string => match d with
  | .str b => match bnd T s 0 lo, bnd T s b.size hi with
   | some l, some h => if l ≤ h ∧ h ≤ b.size ∧ mx.isNone then some (.str (b.extract l h), s) else none
   | _, _ => none
  | _ => none
 | _ => none
theorem slT (x : Operand) (d : D) (lo hi mx : Option Operand) : opSlice T pm s t x d lo hi mx = sl0 T pm s x d lo hi mx (T.ty t) := by
 unfold opSlice sl0
 cases T.ty t <;> first | rfl | (cases d <;> rfl)
def sl1 (T : Tys) (pm : Pm) (s : St) (e : TypeId) (xs : List D) (o : Option (Place × Nat × Nat)) : Option Nat → Option Nat → Option (D × St)
 | some l, some h =>
  if l ≤ h ∧ h ≤ xs.length then
   match o with
   | none => some (.sl e ((xs.take h).drop l), s)
   | some (L, va, vb) =>
    if pm.wr (L.headD 0) then
     match frzs xs with
     | some ys => some (.sl e ((ys.take h).drop l), s.set L (.sl e ys))
     | none => none
    else viewS L va vb e l h s
  else none
 | _, _ => none
def sl2 (T : Tys) (pm : Pm) (s : St) (e' : TypeId) (lo hi : Option Operand) : Option (TypeId × List D × Option (Place × Nat × Nat)) → Option (D × St)
 | some (e, xs, o) => if e' = e ∧ T.known e = true then sl1 T pm s e xs o (bnd T s 0 lo) (bnd T s xs.length hi) else none
 | none => none
theorem sl0S (x : Operand) (d : D) (lo hi : Option Operand) (e : TypeId) (hz : T.isStruct e = false) : sl0 T pm s x d lo hi none (.slice e) = sl2 T pm s e lo hi (sliceD pm s x d) := by
 have h1 := one_size hz
 simp only [sl0, sl2, Option.isSome_none, Bool.false_eq_true, if_false]
 rcases sliceD pm s x d with _ | ⟨e', xs, o⟩
 ·rfl
 ·simp only
  by_cases he : e = e'
  ·subst he
   simp only [true_and, h1, Nat.mul_one, Tys.len, if_true]
   cases bnd T s 0 lo <;> cases bnd T s xs.length hi <;> simp only [sl1] <;> (by_cases hk : T.known e = true <;> simp [hk])
  ·simp only [he, false_and, if_false]
   cases bnd T s 0 lo <;> cases bnd T s (T.len e' xs) hi <;> rfl
theorem sl2S (e : TypeId) (lo hi : Option Operand) (xs : List D) (o : Option (Place × Nat × Nat)) (hk : T.known e = true) : sl2 T pm s e lo hi (some (e, xs, o)) = sl1 T pm s e xs o (bnd T s 0 lo) (bnd T s xs.length hi) := by simp [sl2, hk]
theorem sl1N (e : TypeId) (xs : List D) (l h : Nat) (h1 : l ≤ h) (h2 : h ≤ xs.length) : sl1 T pm s e xs none (some l) (some h) = some (.sl e ((xs.take h).drop l), s) := by simp [sl1, h1, h2]
def sl3 (pm : Pm) (s : St) (e : TypeId) (L : Place) (a b l h : Nat) (o : Option (List D)) : Option (D × St) :=
 if pm.wr (L.headD 0) then
  match o with
  | some ys => some (.sl e ((ys.take h).drop l), s.set L (.sl e ys))
  | none => none
 else viewS L a b e l h s
theorem sl1O (e : TypeId) (xs : List D) (L : Place) (a b l h : Nat) (h1 : l ≤ h) (h2 : h ≤ xs.length) : sl1 T pm s e xs (some (L, a, b)) (some l) (some h) = sl3 pm s e L a b l h (frzs xs) := by
 simp only [sl1, h1, h2, and_self, if_true]; rfl
theorem sl3S (e : TypeId) (L : Place) (a b l h : Nat) (ys : List D) (hw : pm.wr (L.headD 0) = true) : sl3 pm s e L a b l h (some ys) = some (.sl e ((ys.take h).drop l), s.set L (.sl e ys)) := by simp only [sl3]; rw [if_pos hw]
theorem sl3V (e : TypeId) (L : Place) (a b l h : Nat) (o : Option (List D)) (hw : pm.wr (L.headD 0) = false) : sl3 pm s e L a b l h o = some (.vs e L a b l (h - l), s) := by simp only [sl3]; rw [if_neg (by rw [hw]; decide)]; rfl

theorem seeRd (r : Nat) : pm.see.rd r = pm.rd r := nr rfl
theorem seeWr (r : Nat) : pm.see.wr r = false := nr rfl
theorem wrOT (u : Tmp) : wrO pm (.tmp u) = pm.wr u := nr rfl
/-! ### cuts -/
def ct2 (e : TypeId) (xs : List D) (s1 : St) : Option Nat → Option (D × St)
 | some h => if h ≤ xs.length then some (.own e (xs.take h), s1) else none
 | none => none
def ct1 (T : Tys) (s : St) (e' : TypeId) (hi : Option Operand) : Option (D × St) → Option (D × St)
 | some (.own e xs, s1) =>
  match bnd T s (T.len e xs) hi with
  | some h => if e' = e ∧ T.known e = true ∧ h ≤ T.len e xs then some (.own e (xs.take (h * T.size e)), s1) else none
  | none => none
 | _ => none
def ct0 (T : Tys) (pm : Pm) (s : St) (t : TypeId) (x : Operand) (hi : Option Operand) : Ty → Option (D × St)
 | .slice e => ct1 T s e hi (if wrO pm x then take T pm s t x else none)
 | _ => none
theorem ctT (x : Operand) (hi : Option Operand) : opCut T pm s t x hi = ct0 T pm s t x hi (T.ty t) := by
 unfold opCut ct0 ct1
 cases T.ty t <;> rfl
theorem ct0S (x : Operand) (hi : Option Operand) (e : TypeId) (hw : wrO pm x = true) : ct0 T pm s t x hi (.slice e) = ct1 T s e hi (take T pm s t x) := by
 unfold ct0; rw [if_pos hw]
theorem ct1S (hi : Option Operand) (e : TypeId) (xs : List D) (s1 : St) (hk : T.known e = true) (hz : T.isStruct e = false) : ct1 T s e hi (some (.own e xs, s1)) = ct2 e xs s1 (bnd T s xs.length hi) := by
 have h1 := one_size hz
 simp only [ct1, hk, true_and, h1, Nat.mul_one, Tys.len, if_true]
 cases bnd T s xs.length hi <;> rfl
theorem ct2S (e : TypeId) (xs : List D) (s1 : St) (h : Nat) (hle : h ≤ xs.length) : ct2 e xs s1 (some h) = some (.own e (xs.take h), s1) := by
 show (if h ≤ xs.length then some (D.own e (xs.take h), s1) else none) = _
 rw [if_pos hle]
def cf2 (e : TypeId) (xs : List D) (s1 : St) : Option Nat → Option (D × St)
 | some l => if l ≤ xs.length then some (.own e (xs.drop l), s1) else none
 | none => none
def cf1 (T : Tys) (s : St) (e' : TypeId) (lo : Option Operand) : Option (D × St) → Option (D × St)
 | some (.own e xs, s1) =>
  match bnd T s 0 lo with
  | some l => if e' = e ∧ T.known e = true ∧ l ≤ T.len e xs then some (.own e (xs.drop (l * T.size e)), s1) else none
  | none => none
 | _ => none
def cf0 (T : Tys) (pm : Pm) (s : St) (t : TypeId) (x : Operand) (lo : Option Operand) : Ty → Option (D × St)
 | .slice e => cf1 T s e lo (if wrO pm x then take T pm s t x else none)
 | _ => none
theorem cfT (x : Operand) (lo : Option Operand) : opCutF T pm s t x lo = cf0 T pm s t x lo (T.ty t) := by
 unfold opCutF cf0 cf1
 cases T.ty t <;> rfl
theorem cf0S (x : Operand) (lo : Option Operand) (e : TypeId) (hw : wrO pm x = true) : cf0 T pm s t x lo (.slice e) = cf1 T s e lo (take T pm s t x) := by
 unfold cf0; rw [if_pos hw]
theorem cf1S (lo : Option Operand) (e : TypeId) (xs : List D) (s1 : St) (hk : T.known e = true) (hz : T.isStruct e = false) : cf1 T s e lo (some (.own e xs, s1)) = cf2 e xs s1 (bnd T s 0 lo) := by
 have h1 := one_size hz
 simp only [cf1, hk, true_and, h1, Nat.mul_one, Tys.len, if_true]
 cases bnd T s 0 lo <;> rfl
theorem cf2S (e : TypeId) (xs : List D) (s1 : St) (l : Nat) (hle : l ≤ xs.length) : cf2 e xs s1 (some l) = some (.own e (xs.drop l), s1) := by
 show (if l ≤ xs.length then some (D.own e (xs.drop l), s1) else none) = _
 rw [if_pos hle]
/-! ### parts seen by calls -/
def va1 (T : Tys) (e : TypeId) (L : Place) (lo len : Nat) : Option D → Option (D × List (Place × D))
 | some (.own e' xs) =>
  if e' = e ∧ T.known e = true ∧ (lo + len) * T.size e ≤ xs.length then
   (frzs xs).map fun ys => (.sl e ((ys.drop (lo * T.size e)).take (len * T.size e)), [(L, .own e' xs)])
  else none
 | _ => none
theorem axVs (e : TypeId) (L L0 : Place) (n m lo len j : Nat) : argX T false pm s j L0 (.vs e L n m lo len) = va1 T e L lo len (s.look pm L n m) := by
 show vsArg T pm s e L n m lo len = _
 unfold vsArg va1
 rcases s.look pm L n m with _ | d
 ·rfl
 ·cases d <;> rfl
def va2 (e : TypeId) (L : Place) (lo len : Nat) (xs : List D) : Option (List D) → Option (D × List (Place × D))
 | some ys => some (.sl e ((ys.drop lo).take len), [(L, .own e xs)])
 | none => none
theorem va1S (e : TypeId) (L : Place) (l h : Nat) (xs : List D) (hk : T.known e = true) (hz : T.isStruct e = false) (h1 : l ≤ h) (h2 : h ≤ xs.length) : va1 T e L l (h - l) (some (.own e xs)) = va2 e L l (h - l) xs (frzs xs) := by
 have h3 := one_size hz
 unfold va1
 simp only [h3, Nat.mul_one]
 rw [if_pos ⟨trivial, hk, by omega⟩]
 cases frzs xs <;> rfl
theorem va1L (e : TypeId) (L : Place) (lo len : Nat) (xs : List D) (hk : T.known e = true) (hz : T.isStruct e = false) (h1 : lo + len ≤ xs.length) : va1 T e L lo len (some (.own e xs)) = va2 e L lo len xs (frzs xs) := by
 have h3 := one_size hz
 unfold va1
 simp only [h3, Nat.mul_one]
 rw [if_pos ⟨trivial, hk, h1⟩]
 cases frzs xs <;> rfl
theorem va2S (e : TypeId) (L : Place) (lo len : Nat) (xs ys : List D) : va2 e L lo len xs (some ys) = some (.sl e ((ys.drop lo).take len), [(L, .own e xs)]) := nr rfl

/-! ### copy -/
theorem yCopy (x y : Tmp) (t' : TypeId) : opS E pm s dst (.call ⟨.builtin .copy, #[.tmp x, .tmp y], #[t, t']⟩) ty = putQ dst (opCopy E.T pm s t (.tmp x) (.tmp y) (s.v x) (s.v y)) := map_putQ dst _
def cpy1 (T : Tys) (pm : Pm) (s : St) (t : TypeId) : Option (TypeId × Place × List D × Nat × Nat) → Option (TypeId × List D) → Option (D × St)
 | some (e, L, xs, lo, len), some (e', ys) =>
  if T.isSl t e && (e == e') && T.known e && (T.size e == 1) && !hasObjs xs && !hasObjs ys && ys.all solid && pm.wr (L.headD 0) then
   some (.int .i64 (min len ys.length : Nat), s.set L (.own e (splice xs lo (ys.take (min len ys.length)))))
  else none
 | _, _ => none
theorem cpyE (x y : Operand) (a b : D) : opCopy T pm s t x y a b = cpy1 T pm s t (dstV pm s x a) (srcV pm s y b) := by
 unfold opCopy cpy1
 rcases dstV pm s x a with _ | ⟨_, _, _, _, _⟩ <;> rcases srcV pm s y b with _ | ⟨_, _⟩ <;> rfl
theorem cpyS (e : TypeId) (L : Place) (xs ys : List D) (lo len : Nat) (h1 : T.isSl t e = true) (h2 : T.known e = true) (h3 : T.size e = 1) (h4 : hasObjs xs = false) (h5 : hasObjs ys = false) (h6 : ys.all solid = true) (h7 : pm.wr (L.headD 0) = true) :
  cpy1 T pm s t (some (e, L, xs, lo, len)) (some (e, ys)) = some (.int .i64 (min len ys.length : Nat), s.set L (.own e (splice xs lo (ys.take (min len ys.length))))) := by
 unfold cpy1
 dsimp only
 rw [if_pos (by rw [h1, h2, h3, h4, h5, h6, h7]; simp)]
/-! ### clear -/
theorem yClear (x : Tmp) : opS E pm s dst (.call ⟨.builtin .clear, #[.tmp x], #[t]⟩) ty = putQ dst (opClear E.T pm s t (.tmp x) (s.v x)) := map_putQ dst _
def clr1 (T : Tys) (pm : Pm) (s : St) (t : TypeId) : Option (TypeId × Place × List D × Nat × Nat) → Option (D × St)
 | some (e, L, xs, lo, len) =>
  if T.isSl t e && T.known e && (T.size e == 1) && !T.isStruct e && solid (T.zero1 e) && pm.wr (L.headD 0) then
   some (.tup [], (s.set L (.own e (splice xs lo (List.replicate len (T.zero1 e))))).bump (L.headD 0))
  else none
 | none => none
theorem clrE (x : Operand) (a : D) : opClear T pm s t x a = clr1 T pm s t (dstV pm s x a) := by
 unfold opClear clr1
 rcases dstV pm s x a with _ | ⟨_, _, _, _, _⟩ <;> rfl
theorem clrS (e : TypeId) (L : Place) (xs : List D) (lo len : Nat) (h1 : T.isSl t e = true) (h2 : T.known e = true) (h3 : T.isStruct e = false) (h5 : solid (T.zero1 e) = true) (h7 : pm.wr (L.headD 0) = true) :
  clr1 T pm s t (some (e, L, xs, lo, len)) = some (.tup [], (s.set L (.own e (splice xs lo (List.replicate len (T.zero1 e))))).bump (L.headD 0)) := by
 have h8 := one_size h3
 unfold clr1
 dsimp only
 rw [if_pos (by rw [h1, h2, h3, h5, h7, h8]; simp)]
def isl1 (e : TypeId) : Ty → Bool
 | .slice e' => e' == e
 | _ => false
theorem islT (e : TypeId) : T.isSl t e = isl1 e (T.ty t) := by unfold Tys.isSl isl1; cases T.ty t <;> rfl
theorem islS (e e' : TypeId) : isl1 e (.slice e') = (e' == e) := nr rfl
def dv0 : Option (TypeId × List D × Option (Place × Nat × Nat)) → Option (TypeId × Place × List D × Nat × Nat)
 | some (e, xs, some (L, _, _)) => some (e, L, xs, 0, xs.length)
 | _ => none
theorem dv0S (e : TypeId) (xs : List D) (L : Place) (a b : Nat) : dv0 (some (e, xs, some (L, a, b))) = some (e, L, xs, 0, xs.length) := nr rfl
theorem dvW (x : Operand) (L : Place) (n m : Nat) : dstV pm s x (.vw L n m) = dv0 (sliceD pm s x (.vw L n m)) := by
 show (match sliceD pm s x (.vw L n m) with | some (e, xs, some (L, _, _)) => some (e, L, xs, 0, xs.length) | _ => none) = _
 rcases sliceD pm s x (.vw L n m) with _ | ⟨_, _, _ | ⟨_, _, _⟩⟩ <;> rfl
theorem dvO (x : Operand) (e : TypeId) (xs : List D) : dstV pm s x (.own e xs) = dv0 (sliceD pm s x (.own e xs)) := by
 show (match sliceD pm s x (.own e xs) with | some (e, xs, some (L, _, _)) => some (e, L, xs, 0, xs.length) | _ => none) = _
 rcases sliceD pm s x (.own e xs) with _ | ⟨_, _, _ | ⟨_, _, _⟩⟩ <;> rfl
def dv1 (e : TypeId) (L : Place) (lo len : Nat) : Option D → Option (TypeId × Place × List D × Nat × Nat)
 | some (.own e' xs) => if e' = e ∧ lo + len ≤ xs.length then some (e, L, xs, lo, len) else none
 | _ => none
theorem dvS (x : Operand) (e : TypeId) (L : Place) (n m lo len : Nat) : dstV pm s x (.vs e L n m lo len) = dv1 e L lo len (s.look pm L n m) := by
 show (match s.look pm L n m with | some (.own e' xs) => if e' = e ∧ lo + len ≤ xs.length then some (e, L, xs, lo, len) else none | _ => none) = _
 rcases s.look pm L n m with _ | d
 ·rfl
 ·cases d <;> rfl
theorem dv1S (e : TypeId) (L : Place) (lo len : Nat) (xs : List D) (h : lo + len ≤ xs.length) : dv1 e L lo len (some (.own e xs)) = some (e, L, xs, lo, len) := by simp [dv1, h]
def sv0 : Option (TypeId × List D × Option (Place × Nat × Nat)) → Option (TypeId × List D)
 | some (e, xs, _) => some (e, xs)
 | _ => none
theorem sv0S (e : TypeId) (xs : List D) (o : Option (Place × Nat × Nat)) : sv0 (some (e, xs, o)) = some (e, xs) := nr rfl
theorem svW (x : Operand) (L : Place) (n m : Nat) : srcV pm s x (.vw L n m) = sv0 (sliceD pm s x (.vw L n m)) := by
 show (sliceD pm s x (.vw L n m)).map (fun r => (r.1, r.2.1)) = _
 rcases sliceD pm s x (.vw L n m) with _ | ⟨_, _, _⟩ <;> rfl
theorem svO (x : Operand) (e : TypeId) (xs : List D) : srcV pm s x (.own e xs) = sv0 (sliceD pm s x (.own e xs)) := by
 show (sliceD pm s x (.own e xs)).map (fun r => (r.1, r.2.1)) = _
 rcases sliceD pm s x (.own e xs) with _ | ⟨_, _, _⟩ <;> rfl
theorem svL (x : Operand) (e : TypeId) (xs : List D) : srcV pm s x (.sl e xs) = some (e, xs) := nr rfl
def sv1 (e : TypeId) (lo len : Nat) : Option D → Option (TypeId × List D)
 | some (.own e' xs) => if e' = e ∧ lo + len ≤ xs.length then some (e, (xs.drop lo).take len) else none
 | _ => none
theorem svS (x : Operand) (e : TypeId) (L : Place) (n m lo len : Nat) : srcV pm s x (.vs e L n m lo len) = sv1 e lo len (s.look pm L n m) := by
 show (match s.look pm L n m with | some (.own e' xs) => if e' = e ∧ lo + len ≤ xs.length then some (e, (xs.drop lo).take len) else none | _ => none) = _
 rcases s.look pm L n m with _ | d
 ·rfl
 ·cases d <;> rfl
theorem sv1S (e : TypeId) (lo len : Nat) (xs : List D) (h : lo + len ≤ xs.length) : sv1 e lo len (some (.own e xs)) = some (e, (xs.drop lo).take len) := by simp [sv1, h]
theorem mvVs (x : Tmp) (e : TypeId) (L : Place) (n m lo len : Nat) : opMove s dst (.tmp x) (.vs e L n m lo len) = s.putO dst (.vs e L n m lo len) := nr rfl
theorem mv1Vs (x : Tmp) (e : TypeId) (L : Place) (n m lo len : Nat) : mv1 pm x (.vs e L n m lo len) = true := by simp [mv1, D.hasObj]
theorem hoVs (e : TypeId) (L : Place) (n m lo len : Nat) : (D.vs e L n m lo len).hasObj = false := by simp [D.hasObj]

/-- s[:0:0]: a new slice. -/
theorem sl0E (x : Operand) (d : D) (e : TypeId) (hk : T.known e = true) : sl0 T pm s x d none (some (.const (.int .i64 0))) (some (.const (.int .i64 0))) (.slice e) = match sliceD pm s x d with | some (e', _, _) => if e = e' then some (.own e [], s) else none | none => none := by
 simp only [sl0]
 rcases sliceD pm s x d with _ | ⟨e', xs, o⟩
 ·rfl
 ·simp only [bnd, ev, constD, Int.le_refl, if_true, Int.toNat_zero, Nat.zero_le, and_true, Option.isSome_some, true_and]
  by_cases he : e = e'
  ·subst he; simp [hk]
  ·simp [he]
end

/-- A call on a slice of no elements, by its calls on each such value. -/
theorem good_empty {P : Program} {T : Tys} {f : FuncId} {e : TypeId} {r : D} {outs : List D} (hk : T.known e = true) (h : ∀ A c, Good P T f [.konst (.slice A 0 c)] [] r outs) : Good P T f [.sl e []] [] r outs := by
 refine ⟨(h none 0).1, fun vs gh w S FL hsz hA hL hL0 hLd hlt => ?_⟩
 obtain ⟨v, hv, hW⟩ := hA 0 _ rfl
 obtain ⟨A, c, rfl⟩ : ∃ A c, v = .slice A 0 c := by
  cases hW with
  | sl us hE hn hc hm hx hw =>
   rename_i A n c
   have hp := size_pos hk
   have : n = 0 := by
    simp only [List.length_nil] at hn
    rcases Nat.mul_eq_zero.1 hn.symm with h0 | h0
    ·exact h0
    ·omega
   subst this
   exact ⟨_, _, rfl⟩
 refine (h A c).2 vs gh w S FL hsz (fun i d hi => ?_) hL hL0 hLd hlt
 cases i with
 | zero => simp at hi; subst hi; exact ⟨_, hv, .konst (fun _ h => h)⟩
 | succ i => simp at hi
end Dv
/- Value semantics for Go code: the rules in two bundles. Conditions: none. -/
namespace Dv
open Go
set_option maxRecDepth 10000
set_option linter.defProp false
theorem geq : G = 100000 := nr rfl
def xpre := And.intro @slFS (And.intro @yCopy (And.intro @yClear (And.intro @slCS (
 And.intro @yMin (
 And.intro @yMax (
 And.intro @binT (
 And.intro @binI (
 And.intro @binBo (
 And.intro @binSt (
 And.intro @binNil (
 And.intro @yBox (
 And.intro @yMf (
 And.intro @yCallv (
 And.intro @xSeq (
 And.intro @xCons (
 And.intro @xNil (
 And.intro @xDCons (
 And.intro @xDNil (
 And.intro @xCond (
 And.intro @xBlock (
 And.intro @xSkip (
 And.intro @xExit (
 And.intro @xRet (
 And.intro @xThenN (
 And.intro @xThenE (
 And.intro @xThenR (
 And.intro @xInN (
 And.intro @xInE (
 And.intro @xInR (
 And.intro @xLoN (
 And.intro @xLoE (
 And.intro @xLoR (
 And.intro @xFinN (
 And.intro @xFinR (
 And.intro @stepS_none (
 And.intro @stepS_guard (
 And.intro @yMove (
 And.intro @yAssign (
 And.intro @yAssignC (
 And.intro @yMoveC (
 And.intro @yLoad (
 And.intro @yUn (
 And.intro @yField (
 And.intro @yLen (
 And.intro @yExtract (
 And.intro @ySlice (
 And.intro @yAppend (
 And.intro @yIndex (
 And.intro @yMake (
 And.intro @yConvert (
 And.intro @yCall (
 And.intro @opS_pick (
 And.intro @opS_store (
 And.intro @opS_alloc (
 And.intro @yBuild (
 And.intro @yBs (@opS_nilCheck)))))))))))))))))))))))))))))))))))))))))))))))))))))))))
def xpost := And.intro @lnWM (And.intro @lnWS (And.intro @lnWStr (And.intro @mpOfS (And.intro @lookM1 (And.intro @rg8 (And.intro @rg9 (And.intro @rg10 (And.intro @rg11 (And.intro @rg12 (And.intro @moNc (And.intro @tm1Own (And.intro @tm1K (And.intro @tm1U (And.intro @takeMC (And.intro @faE (And.intro @foN (And.intro @bd0M (And.intro @bd0F (And.intro @fnNil (And.intro @fnCons (And.intro @fn0S (And.intro @fn1S (And.intro @fnA (And.intro @spN (And.intro @spC (And.intro @cfT (And.intro @cf0S (And.intro @cf1S (And.intro @cf2S (And.intro @mvOcl (And.intro @mfVS (And.intro @cvE (And.intro @cvpS (And.intro @cvqE (And.intro @umN (And.intro @umC (And.intro @ceN (And.intro @ceT (And.intro @ce1B (And.intro @ce1C (And.intro @tieE (And.intro @tieS (And.intro @utV (And.intro @utC (And.intro @ldO (And.intro @coE (And.intro @co1S (And.intro @co2S (And.intro @oaJS (And.intro @oa1S (And.intro @oaN (And.intro @oaV (And.intro @oaC (And.intro @oaU (And.intro @saU (And.intro @saV (And.intro @saC (And.intro @clNO (And.intro @fcBS (And.intro @fcCS (And.intro @fcDS (And.intro @clrE ( And.intro @clrS ( And.intro @fzBS ( And.intro @fbCB ( And.intro @yStoreM ( And.intro @takeM1 ( And.intro @tm1V ( And.intro @tm1I ( And.intro @tm1Sl ( And.intro @tm2S ( And.intro @lnKSl ( And.intro @lnKOwn ( And.intro @lnKVw ( And.intro @lnKStr ( And.intro @lnKVs ( And.intro @lnVsS ( And.intro @ixKSl ( And.intro @ixKOwn ( And.intro @ixKVw ( And.intro @ixKVs ( And.intro @ixV1S ( And.intro @ixV2S (And.intro @sl3V (And.intro @frBS (And.intro @frCS (
 And.intro @seeRd (
 And.intro @seeWr (
 And.intro @wrOT (
 And.intro @ctT (
 And.intro @ct0S (
 And.intro @ct1S (
 And.intro @ct2S (
 And.intro @axVs (
 And.intro @va1S (
 And.intro @va1L (
 And.intro @va2S (
 And.intro @axInt (
 And.intro @axBool (
 And.intro @axStr (
 And.intro @axSl (
 And.intro @axClo (
 And.intro @axCptr (
 And.intro @axK (
 And.intro @axOwn (
 And.intro @axBox (
 And.intro @axVw (
 And.intro @axAgg (
 And.intro @cpyE (
 And.intro @cpyS (
 And.intro @islT (
 And.intro @islS (
 And.intro @dv0S (
 And.intro @dvW (
 And.intro @dvO (
 And.intro @dvS (
 And.intro @dv1S (
 And.intro @sv0S (
 And.intro @svW (
 And.intro @svO (
 And.intro @svL (
 And.intro @svS (
 And.intro @sv1S (
 And.intro @mvVs (
 And.intro @mv1Vs (
 And.intro @hoVs (
 And.intro @asTT (
 And.intro @asTF (
 And.intro @isTE (
 And.intro @tqTup (
 And.intro @tqAgg (
 And.intro @tqOwn (
 And.intro @tqBox (
 And.intro @tqVw (
 And.intro @tqU (
 And.intro @vtInt (
 And.intro @vtBool (
 And.intro @vtStr (
 And.intro @vtSl (
 And.intro @vtOwn (
 And.intro @vtVw1 (
 And.intro @vtVw2 (
 And.intro @vtClo (
 And.intro @exAgg (
 And.intro @exInt (
 And.intro @exBool (
 And.intro @exStr (
 And.intro @exSl (
 And.intro @exOwn (
 And.intro @exClo (
 And.intro @gpTup (
 And.intro @spTup (
 And.intro @pl2T (
 And.intro @bkK (
 And.intro @bkInt (
 And.intro @bkBool (
 And.intro @bkStr (
 And.intro @bkSl (
 And.intro @bkOwn (
 And.intro @bkVw (
 And.intro @bkClo (
 And.intro @putNT (
 And.intro @putNF (
 And.intro @nt0E (
 And.intro @nt0N (
 And.intro @ndSl (
 And.intro @ndOwn (
 And.intro @ndK (
 And.intro @apSl (
 And.intro @apOwn (
 And.intro @apVw (
 And.intro @apK (
 And.intro @yAppZ (
 And.intro @az0S (
 And.intro @az1S (
 And.intro @iaClo (
 And.intro @iaBox (
 And.intro @iaCptr (
 And.intro @dl2 (
 And.intro @dl1 (
 And.intro @get2 (
 And.intro @noInt (
 And.intro @noBool (
 And.intro @noStr (
 And.intro @noSl (
 And.intro @noVw (
 And.intro @noClo (
 And.intro @seClo (
 And.intro @bo0A (
 And.intro @bo0V (
 And.intro @fa1S (
 And.intro @faBox (
 And.intro @faVw (
 And.intro @faPe (
 And.intro @faCp (
 And.intro @csS (
 And.intro @rg1 (
 And.intro @rg2 (
 And.intro @rg3 (
 And.intro @rg4 (
 And.intro @rg5 (
 And.intro @rg6 (
 And.intro @rg7 (
 And.intro @seInt (
 And.intro @seBool (
 And.intro @seStr (
 And.intro @seSl (
 And.intro @seOwn (
 And.intro @seVw (
 And.intro @noA (
 And.intro @sw1E (
 And.intro @sw1B (
 And.intro @rdCell (
 And.intro @rc1S (
 And.intro @rc1V (
 And.intro @rc1C (
 And.intro @cpNil (
 And.intro @cpTmp (
 And.intro @cp1B (
 And.intro @cp2S (
 And.intro @cp1C (
 And.intro @clNS (
 And.intro @mf0S (
 And.intro @hasSlClo0 (
 And.intro @bnN (
 And.intro @bnS (
 And.intro @bn1S (
 And.intro @slT (
 And.intro @sl0S (
 And.intro @sl0E (
 And.intro @sl2S (
 And.intro @sl1N (
 And.intro @sl1O (
 And.intro @sl3S (
 And.intro @bkNil (
 And.intro @bkT (
 And.intro @bkF (
 And.intro @bkE (
 And.intro @bkL (
 And.intro @apNil (
 And.intro @apCons (
 And.intro @ipC (
 And.intro @ipN (
 And.intro @ipE (
 And.intro @ieC (
 And.intro @ieN (
 And.intro @fiA (
 And.intro @fiB (
 And.intro @fiC (
 And.intro @fiE (
 And.intro @okLOwn (
 And.intro @okLBox (
 And.intro @okLU (
 And.intro @okLSl (
 And.intro @sd1E (
 And.intro @sd1P (
 And.intro @sd1V (
 And.intro @sd1B (
 And.intro @bxA (
 And.intro @bx1S (
 And.intro @hdC (
 And.intro @ap1T (
 And.intro @ap2V (
 And.intro @ap2O (
 And.intro @mvT (
 And.intro @mvTC (
 And.intro @mvTF (
 And.intro @mv1Int (
 And.intro @mv1Bool (
 And.intro @mv1Str (
 And.intro @mv1Sl (
 And.intro @mv1Own (
 And.intro @mv1Box (
 And.intro @mv1Vw (
 And.intro @mv1Pe (
 And.intro @mv1K (
 And.intro @mv1Clo (
 And.intro @mv1Cptr (
 And.intro @mv1Agg (
 And.intro @mv1Tup (
 And.intro @moAssign (
 And.intro @moPick (
 And.intro @moAlloc (
 And.intro @moBox (
 And.intro @moBuild (
 And.intro @moBs (
 And.intro @moLoad (
 And.intro @moStore (
 And.intro @moBin (
 And.intro @moUn (
 And.intro @moConv (
 And.intro @moMf (
 And.intro @moMs (
 And.intro @moSl (
 And.intro @moFa (
 And.intro @moIa (
 And.intro @moEx (
 And.intro @moCall (
 And.intro @pmR (
 And.intro @pmW (
 And.intro @nxtS (
 And.intro @nxtDS (
 And.intro @cndB (
 And.intro @grdT (
 And.intro @grdF (
 And.intro @grdU (
 And.intro @bd0S (
 And.intro @bs0A (And.intro @bsAS (And.intro @zsVs (And.intro @bs0Z (
 And.intro @bs0S (
 And.intro @yMk (
 And.intro @mk0S (
 And.intro @mk0T (
 And.intro @putBS (
 And.intro @putGS (
 And.intro @ev_tmp (
 And.intro @ev_int (
 And.intro @ev_bool (
 And.intro @ev_str (
 And.intro @ev_nil (
 And.intro @ev_func (
 And.intro @mvInt (
 And.intro @mvBool (
 And.intro @mvStr (
 And.intro @mvSl (
 And.intro @mvKonst (
 And.intro @mvOwn (
 And.intro @mvBox (
 And.intro @mvVw (
 And.intro @mvPe (
 And.intro @mvCptr (
 And.intro @mvClo (
 And.intro @mvTup (
 And.intro @stNil (
 And.intro @stCons (
 And.intro @scAgg (
 And.intro @scInt (
 And.intro @scBool (
 And.intro @scStr (
 And.intro @scSl (
 And.intro @scKonst (
 And.intro @scUndef (
 And.intro @scOwn (
 And.intro @scBox (
 And.intro @scVw (
 And.intro @slNil (
 And.intro @slIntP (
 And.intro @slBoolP (
 And.intro @slStrP (
 And.intro @slSlP (
 And.intro @slKonstP (
 And.intro @slUndefP (
 And.intro @slVwP (
 And.intro @slOwnP (
 And.intro @slBoxP (
 And.intro @mvAgg (
 And.intro @zsInt (
 And.intro @zsBool (
 And.intro @zsStr (
 And.intro @zsSl (
 And.intro @zsKonst (
 And.intro @zsOwn (
 And.intro @zsBox (
 And.intro @zsVw1 (
 And.intro @zsVw2 (
 And.intro @zsPe (
 And.intro @zsCptr (
 And.intro @zsClo (
 And.intro @zsTup (
 And.intro @zsAgg (
 And.intro @pkB (
 And.intro @pkT (
 And.intro @pkF (
 And.intro @putRS (
 And.intro @putQS (
 And.intro @bin1S (
 And.intro @mn1S (
 And.intro @minII (
 And.intro @maxII (
 And.intro @ix1S (
 And.intro @mk1S (
 And.intro @cv1I (
 And.intro @cv1S (
 And.intro @biAdd (
 And.intro @biSub (
 And.intro @biMul (
 And.intro @biQuo (
 And.intro @biRem (
 And.intro @biAnd (
 And.intro @biOr (
 And.intro @biXor (
 And.intro @biAndNot (
 And.intro @biShl (
 And.intro @biShr (
 And.intro @biEq (
 And.intro @biNe (
 And.intro @biLt (
 And.intro @biLe (
 And.intro @biGt (
 And.intro @biGe (
 And.intro @biEqB (
 And.intro @biNeB (
 And.intro @biEqS (
 And.intro @biNeS (
 And.intro @biLtS (
 And.intro @biAddS (
 And.intro @unNot (
 And.intro @unNeg (
 And.intro @boI (
 And.intro @boS (
 And.intro @boB (
 And.intro @boA (
 And.intro @aggOkS (
 And.intro @intKS (
 And.intro @biEqA (
 And.intro @biNeA (
 And.intro @ldC (
 And.intro @ldCS (
 And.intro @ldP (
 And.intro @ldPS (
 And.intro @ldB (
 And.intro @ldBS (
 And.intro @ldV (
 And.intro @ldVS (
 And.intro @look1 (
 And.intro @look2 (
 And.intro @objOwn (
 And.intro @objBox (
 And.intro @objOS (
 And.intro @slSl (
 And.intro @slOwn (
 And.intro @slVw (
 And.intro @slAtS (
 And.intro @len1S (
 And.intro @lnT (
 And.intro @lnSl (
 And.intro @lnStr (
 And.intro @len_1 (
 And.intro @ixT (
 And.intro @ixSl (
 And.intro @at1I (
 And.intro @at1IP (
 And.intro @at1S (
 And.intro @at1OP (
 And.intro @at1P (
 And.intro @sls_length (
 And.intro @owns_length (
 And.intro @sls_hasObj (
 And.intro @sls_frz (
 And.intro @owns_frz (
 And.intro @owns_hasSl (
 And.intro @sls_solid (
 And.intro @owns_solid (
 And.intro @owns_hasObjC (
 And.intro @ints_at (
 And.intro @sls_at (
 And.intro @owns_at (
 And.intro @ints_set (
 And.intro @owns_set (
 And.intro @ints_append (
 And.intro @ints_rep (
 And.intro @tkTmp (
 And.intro @tkC (
 And.intro @t1Int (
 And.intro @t1Bool (
 And.intro @t1Str (
 And.intro @t1Sl (
 And.intro @t1Own (
 And.intro @t1Box (
 And.intro @t1Clo (
 And.intro @t1Cptr (
 And.intro @t1Vw (
 And.intro @t1Agg (
 And.intro @tdInt (
 And.intro @tdBool (
 And.intro @tdStr (
 And.intro @tdSl (
 And.intro @tdOwn (
 And.intro @tdBox (
 And.intro @tdClo (
 And.intro @tdCptr (
 And.intro @tdVw (
 And.intro @tdAgg (
 And.intro @td1S (
 And.intro @td2S (
 And.intro @tdsNil (
 And.intro @tdsCons (
 And.intro @hosNil (
 And.intro @hosCons (
 And.intro @hoI (
 And.intro @hoB (
 And.intro @hoS (
 And.intro @hoSl (
 And.intro @hoOwn (
 And.intro @hoBox (
 And.intro @hoClo (
 And.intro @hoCptr (
 And.intro @hoVw (
 And.intro @hoPe (
 And.intro @hoK (
 And.intro @hoU (
 And.intro @hoAgg (
 And.intro @hoTup (
 And.intro @pull1 (
 And.intro @pl1S (
 And.intro @pull2 (
 And.intro @pl2B (
 And.intro @pl2A (
 And.intro @pl2O (
 And.intro @get1 (
 And.intro @gpNil (
 And.intro @gpOwn (
 And.intro @gpBox (
 And.intro @gpAgg (
 And.intro @spNil (
 And.intro @spOwn (
 And.intro @spBox (
 And.intro @spAgg (
 And.intro @yStore (
 And.intro @st2S (
 And.intro @ceOwn (
 And.intro @ceBox (
 And.intro @wcOwn (
 And.intro @wcBox (
 And.intro @soInt (
 And.intro @soBool (
 And.intro @soStr (
 And.intro @soSl (
 And.intro @soOwn (
 And.intro @soBox (
 And.intro @soClo (
 And.intro @soCptr (
 And.intro @ceS (
 And.intro @nsInt (
 And.intro @nsBool (
 And.intro @nsStr (
 And.intro @nsSl (
 And.intro @nsClo (
 And.intro @nsVw (
 And.intro @nsOwn (
 And.intro @mkvC (
 And.intro @yApp (
 And.intro @ap0S (
 And.intro @aJoinS (
 And.intro @aNextS (
 And.intro @arNil (
 And.intro @arTmp (
 And.intro @arC (
 And.intro @arF (
 And.intro @aCS (
 And.intro @atInt (
 And.intro @atBool (
 And.intro @atStr (
 And.intro @atSl (
 And.intro @atClo (
 And.intro @atCptr (
 And.intro @atK (
 And.intro @atOwn (
 And.intro @atBox (
 And.intro @atVw (
 And.intro @atOwnL (
 And.intro @atBoxL (
 And.intro @atVwL (
 And.intro @atAgg (
 And.intro @fz1S (
 And.intro @fz2S (
 And.intro @ln2S (
 And.intro @ag1S (
 And.intro @cNextS (
 And.intro @acNil (
 And.intro @acCons (
 And.intro @iaInt (
 And.intro @iaBool (
 And.intro @iaStr (
 And.intro @iaSl (
 And.intro @iaOwn (
 And.intro @iaVw (
 And.intro @iaAgg (
 And.intro @cdB (
 And.intro @cb1S (
 And.intro @cb2N (
 And.intro @cb2E (
 And.intro @cdL (
 And.intro @cl1S (
 And.intro @cl2S (
 And.intro @hsInt (
 And.intro @hsBool (
 And.intro @hsStr (
 And.intro @hsOwn (
 And.intro @hsBox (
 And.intro @hsAgg (
 And.intro @hsTup (
 And.intro @hssNil (
 And.intro @hssCons (
 And.intro @fzInt (
 And.intro @fzBool (
 And.intro @fzStr (
 And.intro @fzSl (
 And.intro @fzClo (
 And.intro @fzCptr (
 And.intro @fzMS (
 And.intro @fzOwn (
 And.intro @fzBox (
 And.intro @fzAgg (
 And.intro @fzTup (
 And.intro @fzsNil (
 And.intro @fzCS (
 And.intro @fzsCons (
 And.intro @okDe (
 And.intro @fiD (
 And.intro @fi0 (
 And.intro @re0 (
 And.intro @re1 (
 And.intro @re2 (
 And.intro @reTS (
 And.intro @rdTmp (
 And.intro @rdNil (
 And.intro @rdNS (
 And.intro @rdCons (
 And.intro @allR (
 And.intro @allW (
 And.intro @exTup (
 And.intro @flNil (
 And.intro @flCons (
 And.intro @fl1S (
 And.intro @ints_length (
 And.intro @ints_get (
 And.intro @ints_hasSl (
 And.intro @ints_hasObj (
 And.intro @ints_frz (
 And.intro @ints_solid (
 And.intro @v_put (
 And.intro @v_clr (
 And.intro @v_bump (
 And.intro @v_set (
 And.intro @k_put (
 And.intro @k_clr (
 And.intro @k_bump (
 And.intro @k_set (
 And.intro @m_put (
 And.intro @m_clr (
 And.intro @m_bump (
 And.intro @m_set (
 And.intro @putO_some (
 And.intro @putO_none (
 And.intro @env_T (
 And.intro @env_lends (
 And.intro @env_call (
 And.intro @entry_v (
 And.intro @entry_k (
 And.intro @entry_m (
 And.intro @geq (
 And.intro @Int.toNat_natCast (
 And.intro @Int.toNat_zero (
 And.intro @Int.natCast_nonneg (
 And.intro @Nat.zero_le (
 And.intro @Int.le_refl (
 And.intro @Nat.le_refl (
 And.intro @Bool.and_true (
 And.intro @Bool.true_and (
 And.intro @Bool.and_false (
 And.intro @Bool.false_and (
 And.intro @Bool.or_false (
 And.intro @Bool.false_or (
 And.intro @Bool.or_true (
 And.intro @Bool.true_or (
 And.intro @Bool.not_true (
 And.intro @Bool.not_false (
 And.intro @Bool.false_eq_true (
 And.intro @decide_true (
 And.intro @decide_false (
 And.intro @and_self (
 And.intro @and_true (@true_and))))))))))))))))))))))))))))))))))))))))))))))))))))))))))))))))))))))))))))))))))))))))))))))))))))))))))))))))))))))))))))))))))))))))))))))))))))))))))))))))))))))))))))))))))))))))))))))))))))))))))))))))))))))))))))))))))))))))))))))))))))))))))))))))))))))))))))))))))))))))))))))))))))))))))))))))))))))))))))))))))))))))))))))))))))))))))))))))))))))))))))))))))))))))))))))))))))))))))))))))))))))))))))))))))))))))))))))))))))))))))))))))))))))))))))))))))))))))))))))))))))))))))))))))))))))))))))))))))))))))))))))))))))))))))))))))))))))))))))))))))))))))))))))))))))))))))))))))))))))))))))))))))))))))))))))))))))))))))))))))))))))))))))))))))))))))))))))))))))
end Dv
