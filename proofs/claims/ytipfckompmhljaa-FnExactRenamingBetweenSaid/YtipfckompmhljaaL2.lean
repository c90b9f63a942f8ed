/- Value semantics for Go code, part 2: one operation. Conditions: none beyond those in each lemma. -/
import Derived.Test.YtipfckompmhljaaL1
import Derived.Laws.CopyRow
import Derived.Laws.Entries
import Derived.Laws.StructEq
import Derived.MapKept
import Derived.ArgAppend
import Derived.Laws.MakeOwn
import Derived.Laws.IdiomCopy
import Derived.Orders
import Derived.Lib.SliceRun
import Derived.Laws.Cover3
set_option linter.unusedSimpArgs false
set_option linter.unusedVariables false
/- Value semantics for Go code: objects in memory, turned in place. Conditions: none beyond those in each lemma. -/
namespace Dv
open Go

theorem followV_append (w : World) : ∀ (p : Place) (v : Value) (q : Place), followV w v (p ++ q) = (followV w v p).bind fun u => followV w u q := by
 intro p
 induction p with
 | nil => intro v q; simp [followV]
 | cons c p ih =>
  intro v q
  cases v with
  | slice A n m =>
   cases A with
   | none => simp [followV]
   | some ad => simp only [List.cons_append, followV]; cases w.cell? (ad.add c) <;> simp [ih]
  | pointer A =>
   cases A with
   | none => simp [followV]
   | some ad => simp only [List.cons_append, followV]; cases w.cell? (ad.add c) <;> simp [ih]
  | agg cs => simp only [List.cons_append, followV]; cases cs[c]? <;> simp [ih]
  | tuple cs => simp only [List.cons_append, followV]; cases cs[c]? <;> simp [ih]
  | _ => simp [followV]

theorem add_add (a : Addr) (i j : Nat) : (a.add i).add j = a.add (i + j) := by
 unfold Addr.add
 by_cases hi : i = 0 <;> by_cases hj : j = 0 <;> simp [hi, hj, Nat.add_assoc]

theorem add_zero (a : Addr) : a.add 0 = a := by simp [Addr.add]

/-- The cells of an object that lies in memory. -/
theorem objCells {T : Tys} {S : Nat → Prop} {w : World} {V : Place → Nat → Nat → Value → Prop} {Vp : Place → Nat → Nat → Nat → Value → Prop} {o : D} {hv : Value} {F : Nat → Prop}
  (h : W T S w V Vp o hv F) (ho : o.isObj = true) (hne : o.cells ≠ []) :
  ∃ (b off : Nat) (cs : Array Value) (t : TypeId) (us : Nat → Value) (Fi : Nat → Nat → Prop), addrOf hv = some ⟨b, off, none⟩ ∧ w.heap[b]? = some (.cells cs t (0, 0)) ∧ off + o.cells.length ≤ cs.size ∧
   (∀ i x, o.cells[i]? = some x → cs[off + i]? = some (us i) ∧ W T S w V Vp x (us i) (Fi i)) ∧
   (∀ k, F k ↔ k = b ∨ ∃ i, i < o.cells.length ∧ Fi i k) ∧ (∀ i, i < o.cells.length → ¬ Fi i b) ∧
   (∀ i j k, i < o.cells.length → j < o.cells.length → i ≠ j → Fi i k → ¬ Fi j k) ∧ ¬ S b ∧
   (∀ (w' : World) (S' : Nat → Prop) (V' : Place → Nat → Nat → Value → Prop) (Vp' : Place → Nat → Nat → Nat → Value → Prop) (ys : List D) (cs' : Array Value) (us' : Nat → Value) (Fi' : Nat → Nat → Prop) (F' : Nat → Prop),
    ys.length = o.cells.length → cs'.size = cs.size → w'.heap[b]? = some (.cells cs' t (0, 0)) → ¬ S' b → (∀ i y, ys[i]? = some y → cs'[off + i]? = some (us' i) ∧ W T S' w' V' Vp' y (us' i) (Fi' i)) →
    (∀ k, F' k ↔ k = b ∨ ∃ i, i < ys.length ∧ Fi' i k) → (∀ i, i < ys.length → ¬ Fi' i b) → (∀ i j k, i < ys.length → j < ys.length → i ≠ j → Fi' i k → ¬ Fi' j k) →
    W T S' w' V' Vp' (o.withCells ys) hv F') := by
 cases h with
 | own us Fi hb hz hn hc hm hx hF hFb hd hSb hw =>
  refine ⟨_, _, _, _, us, Fi, rfl, hb, ?_, fun i x hi => ⟨hx i x hi, hw i x hi⟩, hF, hFb, hd, hSb, ?_⟩
  ·simp only [D.cells]; rw [hz, hn]; exact Nat.add_le_add_left (Nat.mul_le_mul_right _ hc) _
  ·intro w' S' V' Vp' ys cs' us' Fi' F' hl hs hb' hS' hel hF' hFb' hd'
   simp only [D.cells] at hl
   exact .own us' Fi' hb' (hs.trans hz) (hl.trans hn) hc hm (fun i y hy => (hel i y hy).1) hF' hFb' hd' hS' (fun i y hy => (hel i y hy).2)
 | own0 => simp [D.cells] at hne
 | mp => simp [D.cells] at hne
 | box us Fi hb hz hx hF hFb hd hSb hw =>
  refine ⟨_, 0, _, _, us, Fi, rfl, hb, ?_, fun i x hi => ⟨by rw [Nat.zero_add]; exact hx i x hi, hw i x hi⟩, hF, hFb, hd, hSb, ?_⟩
  ·simp only [D.cells]; omega
  ·intro w' S' V' Vp' ys cs' us' Fi' F' hl hs hb' hS' hel hF' hFb' hd'
   simp only [D.cells] at hl
   exact .box us' Fi' hb' (by omega) (fun i y hy => by have := (hel i y hy).1; rw [Nat.zero_add] at this; exact this) hF' hFb' hd' hS' (fun i y hy => (hel i y hy).2)
 | _ => simp [D.isObj] at ho

theorem cells_get {o : D} {c : Nat} {r : Place} (ho : o.isObj = true) : getp o (c :: r) = (o.cells[c]?).bind fun x => getp x r := by
 cases o <;> simp [D.isObj] at ho <;> rfl

theorem withCells_obj {o : D} {ys : List D} (ho : o.isObj = true) (hne : o.cells ≠ []) : (o.withCells ys).isObj = true ∧ (o.withCells ys).cells = ys := by
 cases o <;> simp [D.isObj] at ho <;> first | exact ⟨rfl, rfl⟩ | (simp [D.cells] at hne; done)

section
variable {T : Tys} {s s' : St} {rv : Nat → Value} {w w' : World} {S : Nat → Prop} {Fs : Nat → Nat → Prop}

/-- An object is turned in place: the views that still lead to something are as they were. -/
theorem Keeps.inplace (h : Rel T s rv w S Fs) {t : Nat} {p : Place} {o o' : D} {F : Nat → Prop} (hg : getp (s.v t) p = some o) (ho : o.isObj = true)
  (hv : s'.v = upd s.v t (setp (s.v t) p o')) (hk : s'.k = s.k) (hm : s'.m = upd s.m t (s.m t + 1) ∨ (s'.m = s.m ∧ (o'.isObj = true → hasObjs o'.cells = false) ∧ (o'.isObj = false → o'.hasObj = false)))
  (hfar : ∀ u k, Fs u k → ¬ F k → w'.heap[k]? = w.heap[k]?) (hF : ∀ k, F k → Fs t k)
  (hst : ∀ (q : Place) (x : D), getp (s.v t) q = some x → ¬ strictly p q → followV w' (rv t) q = followV w (rv t) q) : Keeps s w rv s' w' rv := by
 refine ⟨fun u => by rw [hk]; exact Nat.le_refl _, fun u => ?_, fun L n m he hva => ?_⟩
 ·rcases hm with hm | ⟨hm, _⟩ <;> rw [hm]
  ·by_cases hu : u = t
   ·subst hu; simp [upd_same]
   ·simp [upd_other _ _ hu]
  ·exact Nat.le_refl _
 ·obtain ⟨t', q, x, rfl, h1, h2, h3, h4⟩ := hva
  rw [hk] at h1
  by_cases htt : t' = t
  ·subst htt
   rw [hv] at h3
   simp only [upd_same] at h3
   rcases hm with hm | ⟨hm, hn1, hn2⟩
   ·have hq : q = [] := by
     rcases h2 with h2 | h2
     ·exact h2
     ·rw [hm] at h2
      simp only [upd_same] at h2
      have := he.2
      simp only [List.headD_cons] at this
      omega
    subst hq
    refine ⟨?_, by simp [foll, followV]⟩
    rcases getp_setp hg h3 h4 with ⟨r, hr, hr'⟩ | ⟨_, o2, ho2, hoo⟩
    ·have : p = [] := by cases p with | nil => rfl | cons a b => simp at hr
     subst this
     exact ⟨t', [], o, rfl, h1, .inl rfl, hg, ho⟩
    ·exact ⟨t', [], o2, rfl, h1, .inl rfl, ho2, hoo⟩
   ·rw [hm] at h2
    rcases getp_setp hg h3 h4 with ⟨r, rfl, hr⟩ | ⟨hne, o2, ho2, hoo⟩
    ·cases r with
     | nil =>
      simp only [List.append_nil] at h2 ⊢
      exact ⟨⟨t', p, o, rfl, h1, h2, hg, ho⟩, hst p o hg (fun ⟨c, r, e⟩ => by simp at e)⟩
     | cons c r =>
      cases ho' : o'.isObj with
      | true =>
       rw [cells_get ho', Option.bind_eq_some_iff] at hr
       obtain ⟨y, hy, hr⟩ := hr
       have := getp_noObj (hasObjs_get (hn1 ho') hy) hr
       rw [h4] at this; cases this
      | false =>
       have := getp_noObj (hn2 ho') hr
       rw [h4] at this; cases this
    ·exact ⟨⟨t', q, o2, rfl, h1, h2, ho2, hoo⟩, hst q o2 ho2 (fun ⟨c, r, e⟩ => hne _ e)⟩
  ·rw [hv] at h3
   simp only [upd_other _ _ htt] at h3
   have h2' : q = [] ∨ s.m t' = m := by
    rcases h2 with h2 | h2
    ·exact .inl h2
    ·right
     rcases hm with hm | ⟨hm, _⟩ <;> rw [hm] at h2
     ·simpa [upd_other _ _ htt] using h2
     ·exact h2
   refine ⟨⟨t', q, x, rfl, h1, h2', h3, h4⟩, ?_⟩
   simp only [foll]
   exact (h.val t').follow_frame (fun k hf => hfar t' k hf (fun hF' => h.disj t' t k htt hf (hF k hF'))) x h3

/-- New blocks and draws keep every view. -/
theorem Keeps.grow (h : Rel T s rv w S Fs) (hw : ∀ k, k < w.heap.size → w'.heap[k]? = w.heap[k]?) : Keeps s w rv s w' rv := by
 refine ⟨fun _ => Nat.le_refl _, fun _ => Nat.le_refl _, fun L n m _ hva => ⟨hva, ?_⟩⟩
 obtain ⟨t, q, x, rfl, h1, h2, h3, h4⟩ := hva
 simp only [foll]
 exact (h.val t).follow_frame (fun k hf => hw k ((h.val t).lt k hf)) x h3

/-- A state in a world with more in it. -/
theorem Rel.grow (h : Rel T s rv w S Fs) (hw : ∀ k, k < w.heap.size → w'.heap[k]? = w.heap[k]?) (hsz : w.heap.size ≤ w'.heap.size) : Rel T s rv w' S Fs := by
 have hk := Keeps.grow h hw
 exact ⟨fun t => (h.val t).keep hk (fun k hs => ⟨hs, hw k (h.lt k hs)⟩) (fun k hf => ⟨(h.val t).notS k hf, hw k ((h.val t).lt k hf)⟩), h.disj, fun k hs => Nat.lt_of_lt_of_le (h.lt k hs) hsz⟩

end
end Dv
/- Value semantics for Go code: operations that fill a slot and turn nothing else. Conditions: the types are what the table says. -/
namespace Dv
open Go

/-! ### What is asked of the table of types -/

def InfoIs (P : Program) (t : TypeId) (n : Nat) (z : Value) : Prop := ∃ i, P.info? t = some i ∧ i.size = n ∧ i.zero = some z ∧ (n ≤ 4 → i.bytes ≤ 128)

def zeroV (T : Tys) (t : TypeId) : Value :=
 match T.ty t with
 | .int k => .int k 0
 | .bool => .bool false
 | .string => .string ByteArray.empty
 | .slice _ => .slice none 0 0
 | .func => .nilFunc
 | .ptr => .pointer none
 | _ => undef

def zeroOf (T : Tys) (t : TypeId) : Value :=
 match T.ty t with
 | .struct fs => .agg (fs.map (zeroV T)).toArray
 | _ => zeroV T t

def TyFact (P : Program) (T : Tys) (t : TypeId) : Prop :=
 match T.ty t with
 | .int k => P.underlying t = some (.int k) ∧ InfoIs P t 1 (.int k 0)
 | .bool => P.underlying t = some .bool ∧ InfoIs P t 1 (.bool false)
 | .string => P.underlying t = some .string ∧ InfoIs P t 1 (.string ByteArray.empty)
 | .slice e => P.underlying t = some (.slice e) ∧ InfoIs P t 1 (.slice none 0 0)
 | .struct fs => (∃ fields : Array Field, P.underlying t = some (.struct fields) ∧
   match T.nest t with
   | none => fields.size = fs.length ∧ ∀ (j : Nat) (f : Field), fields[j]? = some f → f.offset = j ∧ fs[j]? = some f.type ∧ T.known f.type = true ∧ T.isStruct f.type = false
   | some fl => 4 < fs.length ∧ fields.size = fl.length ∧ ∀ (j : Nat) (f : Field), fields[j]? = some f → fl[j]? = some (f.offset, f.type) ∧ T.known f.type = true) ∧ InfoIs P t fs.length (.agg (fs.map (zeroV T)).toArray)
 | .func => (∃ ps rs v, P.underlying t = some (.func ps rs v)) ∧ InfoIs P t 1 .nilFunc
 | .ptr => (∃ e, P.underlying t = some (.pointer e)) ∧ InfoIs P t 1 (.pointer none)
 | .map k e => P.underlying t = some (.map k e)
 | .other => True

/-- Structs of two numbers may be compared. -/
def cmpB (P : Program) (T : Tys) (t : TypeId) : Bool :=
 match T.ty t with
 | .struct [a, b] =>
  match T.ty a, T.ty b with
  | .int _, .int _ =>
   match P.underlying t with
   | some (.struct fields) => fields.toList.all (fun f => f.name != "_") && !P.stoodInHeld t && !P.eqGuardType P.depth t
   | _ => true
  | _, _ => true
 | _ => true

def TyOk (P : Program) (T : Tys) : Prop := ∀ t, TyFact P T t ∧ cmpB P T t = true

section
variable {P : Program} {T : Tys}

theorem TyOk.struct (h : TyOk P T) {t : TypeId} (hs : T.isStruct t = true) (hn : T.nest t = none) : ∃ fs fields, T.ty t = .struct fs ∧ P.underlying t = some (.struct fields) ∧ fields.size = fs.length ∧
  (∀ (j : Nat) (f : Field), fields[j]? = some f → f.offset = j ∧ fs[j]? = some f.type ∧ T.known f.type = true ∧ T.isStruct f.type = false) ∧ InfoIs P t fs.length (.agg (fs.map (zeroV T)).toArray) := by
 have h0 := (h t).1
 unfold TyFact at h0
 unfold Tys.isStruct Ty.isStruct at hs
 split at hs
 ·rename_i fs hty
  rw [hty] at h0
  obtain ⟨⟨fields, h1, h2⟩, h4⟩ := h0
  rw [hn] at h2
  exact ⟨fs, fields, hty, h1, h2.1, h2.2, h4⟩
 ·cases hs
theorem TyOk.structN (h : TyOk P T) {t : TypeId} (hs : T.isStruct t = true) {fl : List (Nat × TypeId)} (hn : T.nest t = some fl) : ∃ fs fields, T.ty t = .struct fs ∧ P.underlying t = some (.struct fields) ∧ 4 < fs.length ∧ fields.size = fl.length ∧
  (∀ (j : Nat) (f : Field), fields[j]? = some f → fl[j]? = some (f.offset, f.type) ∧ T.known f.type = true) := by
 have h0 := (h t).1
 unfold TyFact at h0
 unfold Tys.isStruct Ty.isStruct at hs
 split at hs
 ·rename_i fs hty
  rw [hty] at h0
  obtain ⟨⟨fields, h1, h2⟩, _⟩ := h0
  rw [hn] at h2
  exact ⟨fs, fields, hty, h1, h2.1, h2.2.1, h2.2.2⟩
 ·cases hs
/-- A field's place. -/
theorem TyOk.field (h : TyOk P T) {t : TypeId} (hs : T.isStruct t = true) {i j : Nat} (hf : T.foff t i = some j) : ∃ (fields : Array Field) (f : Field), P.underlying t = some (.struct fields) ∧ fields[i]? = some f ∧ f.offset = j ∧ T.known f.type = true := by
 unfold Tys.foff at hf
 split at hf
 ·rename_i hn
  split at hf
  ·rename_i hi
   injection hf with hf
   subst hf
   obtain ⟨fs, fields, hty, hun, hsz, hfl, _⟩ := h.struct hs hn
   have hsize : T.size t = fs.length := by unfold Tys.size; rw [hty]; rfl
   have hif : i < fields.size := by omega
   obtain ⟨q1, _, q3, _⟩ := hfl i _ (Array.getElem?_eq_getElem hif)
   exact ⟨fields, _, hun, Array.getElem?_eq_getElem hif, q1, q3⟩
  ·cases hf
 ·rename_i fl hn
  obtain ⟨fs, fields, hty, hun, _, hsz, hfl⟩ := h.structN hs hn
  obtain ⟨p, hp, rfl⟩ := Option.map_eq_some_iff.1 hf
  have hif : i < fields.size := by rw [hsz]; exact (List.getElem?_eq_some_iff.1 hp).1
  obtain ⟨q1, q2⟩ := hfl i _ (Array.getElem?_eq_getElem hif)
  rw [hp] at q1
  injection q1 with q1
  exact ⟨fields, _, hun, Array.getElem?_eq_getElem hif, by rw [q1], q2⟩

theorem TyOk.info (h : TyOk P T) {t : TypeId} (hk : T.known t = true) : ∃ i, P.info? t = some i ∧ i.size = T.size t ∧ (T.size t ≤ 4 → i.bytes ≤ 128) ∧ i.zero = some (zeroOf T t) := by
 have h0 := (h t).1
 unfold TyFact at h0
 unfold Tys.known at hk
 unfold Tys.size
 cases ht : T.ty t <;> rw [ht] at h0 <;> simp only [ht] at hk h0 ⊢
 case other => cases hk
 case map => cases hk
 case struct fs =>
  obtain ⟨_, i, h1, h2, h3, h4⟩ := h0
  exact ⟨i, h1, by simpa [Ty.size] using h2, by simpa [Ty.size] using h4, by simpa [zeroOf, ht] using h3⟩
 all_goals
  obtain ⟨_, i, h1, h2, h3, h4⟩ := h0
  exact ⟨i, h1, by simpa [Ty.size] using h2, by simpa [Ty.size] using h4, by simpa [zeroOf, zeroV, ht] using h3⟩

theorem elem_known {t : TypeId} (h : T.elem t = true) : T.known t = true ∧ T.size t ≤ 4 := by
 unfold Tys.elem at h
 simpa using h
theorem TyOk.isAgg (h : TyOk P T) {t : TypeId} (hk : T.known t = true) (w : World) : (isAgg t).run P w = .ok (T.isStruct t) w := by
 have h0 := (h t).1
 unfold TyFact at h0
 unfold Tys.known at hk
 unfold Go.isAgg Tys.isStruct
 cases ht : T.ty t <;> rw [ht] at h0 <;> simp only [ht] at hk h0 ⊢
 case other => cases hk
 case map => cases hk
 case struct fs => obtain ⟨⟨fields, h1, _⟩, _⟩ := h0; simp [run_underlying h1, Ty.isStruct]
 case func => obtain ⟨⟨a, b, c, h1⟩, _⟩ := h0; simp [run_underlying h1, Ty.isStruct]
 case ptr => obtain ⟨⟨e, h1⟩, _⟩ := h0; simp [run_underlying h1, Ty.isStruct]
 all_goals (obtain ⟨h1, _⟩ := h0; simp [run_underlying h1, Ty.isStruct])

theorem TyOk.szOf (h : TyOk P T) {t : TypeId} (hk : T.known t = true) (w : World) : (Go.sizeOf t).run P w = .ok (T.size t) w := by
 obtain ⟨i, h1, h2, _⟩ := h.info hk
 simp [Go.sizeOf, typeInfo, h1, h2]

theorem TyOk.slice (h : TyOk P T) {t e : TypeId} (ht : T.ty t = .slice e) : P.underlying t = some (.slice e) := by
 have h0 := (h t).1
 unfold TyFact at h0
 rw [ht] at h0
 exact h0.1

theorem TyOk.cmp (h : TyOk P T) {t a b : TypeId} {k l : IntKind} (ht : T.ty t = .struct [a, b]) (ha : T.ty a = .int k) (hb : T.ty b = .int l) :
  ∃ f0 f1 : Field, P.underlying t = some (.struct #[f0, f1]) ∧ f0.offset = 0 ∧ f1.offset = 1 ∧ P.underlying f0.type = some (.int k) ∧ P.underlying f1.type = some (.int l) ∧ f0.name ≠ "_" ∧ f1.name ≠ "_" ∧ P.stoodInHeld t = false ∧ P.eqGuardType P.depth t = false := by
 obtain ⟨fs, fields, ht', hu, hsz, hf, _⟩ := h.struct (t := t) (by simp [Tys.isStruct, ht, Ty.isStruct]) (by
  cases hn : T.nest t with
  | none => rfl
  | some fl =>
   obtain ⟨fs, _, h1, _, h2, _⟩ := h.structN (t := t) (by simp [Tys.isStruct, ht, Ty.isStruct]) hn
   rw [ht] at h1
   injection h1 with h1
   subst h1
   simp at h2)
 rw [ht] at ht'
 injection ht' with ht'
 subst ht'
 have hc := (h t).2
 unfold cmpB at hc
 rw [ht] at hc
 simp only [ha, hb, hu] at hc
 simp only [Bool.and_eq_true, Bool.not_eq_true', List.all_eq_true, bne_iff_ne] at hc
 obtain ⟨⟨c1, c2⟩, c3⟩ := hc
 obtain ⟨l0⟩ := fields
 rcases l0 with _ | ⟨f0, _ | ⟨f1, _ | ⟨_, _⟩⟩⟩ <;> simp at hsz
 obtain ⟨o0, q0, _, _⟩ := hf 0 f0 rfl
 obtain ⟨o1, q1, _, _⟩ := hf 1 f1 rfl
 have e0 : a = f0.type := by simpa using q0
 have e1 : b = f1.type := by simpa using q1
 have u0 := (h a).1
 have u1 := (h b).1
 unfold TyFact at u0 u1
 rw [ha] at u0
 rw [hb] at u1
 exact ⟨f0, f1, hu, o0, o1, by rw [← e0]; exact u0.1, by rw [← e1]; exact u1.1, c1 f0 (by simp), c1 f1 (by simp), c2, c3⟩

theorem run_loadAt1 (h : TyOk P T) {t : TypeId} (hk : T.known t = true) (hs : T.isStruct t = false) {w : World} {A : Addr} {u : Value} (hc : w.cell? A = some u) :
  (Instr.loadAt t (.pointer (some A))).run P w = .ok u w := by
 simp [Instr.loadAt, Instr.sureAddr, loadVar, h.isAgg hk, hs, hc]

theorem run_loadAtS (h : TyOk P T) {t : TypeId} (hk : T.known t = true) (hs : T.isStruct t = true) {w : World} {A : Addr} (f : Nat → Value) (hc : ∀ j, j < T.size t → w.cell? (A.add j) = some (f j)) :
  (Instr.loadAt t (.pointer (some A))).run P w = .ok (.agg ((List.range (T.size t)).map f).toArray) w := by
 simp [Instr.loadAt, Instr.sureAddr, loadVar, h.isAgg hk, hs, h.szOf hk, run_loadCells w A (T.size t) f hc]
end

/-! ### Steps -/

/-- A state, a frame and a world. -/
structure Fr (T : Tys) (N : Nat) (gh : Nat → Value) (s : St) (a : Act) (w : World) (S : Nat → Prop) (Fs : Nat → Nat → Prop) : Prop where
 rel : Rel T s (rvOf a gh) w S Fs
 defs : a.defers = []
 size : a.tmps.size = N
 small : N ≤ G

theorem wp_value {P : Program} {o : Oper} {a : Act} {w w' : World} {K : Act → World → Prop} {Q : Exit → Act → World → Prop} {v : Value}
  (hr : (execOp a.eval o).run P w = .ok (.value v) w') (h : K (a.put o.dst v) w') : o.wp P a w K Q := by
 unfold Oper.wp; rw [hr]; exact h

def dstOk (N : Nat) (dst : Option Tmp) : Prop := ∀ t, dst = some t → t < N

section
variable {P : Program} {T : Tys} {s s' : St} {gh : Nat → Value} {a : Act} {w : World} {S : Nat → Prop} {Fs : Nat → Nat → Prop} {N : Nat}

/-- A value that owns nothing is laid into a slot. -/
theorem post_val (h : Fr T N gh s a w S Fs) {dst : Option Tmp} (hd : dstOk N dst) {d : D} {v : Value} {F : Nat → Prop} (hW : WR T s (rvOf a gh) w S d v F) (hE : Em F) :
  Post T gh N (s.putO dst d) w S Fs (a.put dst v) w :=
 post_put h.rel hW (fun _ k _ hf => (hE k hf).elim) (Step.refl _ _ _) (fun k hf => (hE k hf).elim) h.defs h.size h.small hd

/-- A slot's own value goes to another slot. -/
theorem post_moved (h : Fr T N gh s a w S Fs) {dst : Option Tmp} (hd : dstOk N dst) {u : Nat} {v : Value} (hv : v = rvOf a gh u) :
  Post T gh N ((s.clr u).putO dst (s.v u)) w S Fs (a.put dst v) w := by
 subst hv
 have hk := Keeps.clr s w (rvOf a gh) u
 have hsub : ∀ t k, upd Fs u (fun _ => False) t k → Fs t k := fun t k ht => by
  by_cases htu : t = u
  ·subst htu; simp [upd_same] at ht
  ·rwa [upd_other _ _ htu] at ht
 refine post_put (h.rel.clr u) ((h.rel.val u).same hk) (fun t k _ hf ht => ?_) (Step.of_sub (fun _ h => h) (fun _ h => .inl h) (fun t k ht => ⟨t, hsub t k ht⟩)) (fun k hf => .inl ⟨u, hf⟩) h.defs h.size h.small hd
 by_cases htu : t = u
 ·subst htu; simp [upd_same] at ht
 ·rw [upd_other _ _ htu] at ht; exact h.rel.disj t u k htu ht hf

theorem mkv_VR (L : Place) (rv : Nat → Value) (v : Value) (hf : foll w rv L = some v) : VR s w rv L (s.k (L.headD 0)) (s.m (L.headD 0)) v :=
 ⟨⟨Nat.le_refl _, Nat.le_refl _⟩, fun _ => hf⟩

theorem seen_T {t : Nat} {p : Place} {rv : Nat → Value} {c : Nat} {x : D} {u : Value} {F : Nat → Prop} (hfc : foll w rv (t :: p ++ [c]) = some u) (hW : WR T s rv w S x u F) (hn : (seen s (t :: p) c x).hasObj = false) : WR T s rv w S (seen s (t :: p) c x) u (fun _ => False) := by
 have hvw : WR T s rv w S (mkv s (t :: p ++ [c])) u (fun _ => False) := .vw (fun _ h => h) (mkv_VR _ _ _ hfc)
 cases x with
 | own e xs => exact hvw
 | box xs => exact hvw
 | _ =>
  all_goals first
   | exact hW.congr fun k => ⟨fun hf => (noObj_empty hW hn k hf).elim, fun hf => hf.elim⟩

theorem seenL_get (s : St) (L : Place) : ∀ (ys : List D) (i j : Nat), (seenL s L i ys)[j]? = (ys[j]?).map (seen s L (i + j)) := by
 intro ys
 induction ys with
 | nil => intro i j; simp [seenL]
 | cons y ys ih =>
  intro i j
  cases j with
  | zero => simp [seenL]
  | succ j => simp only [seenL, List.getElem?_cons_succ, ih]; rw [show i + 1 + j = i + (j + 1) by omega]
theorem seenL_len (s : St) (L : Place) : ∀ (ys : List D) (i : Nat), (seenL s L i ys).length = ys.length := by
 intro ys
 induction ys with
 | nil => intro i; rfl
 | cons y ys ih => intro i; simp [seenL, ih]
theorem seenT_get (s : St) (u : Nat) : ∀ (ys : List D) (i j : Nat), (seenT s u i ys)[j]? = (ys[j]?).map (seenC s u (i + j)) := by
 intro ys
 induction ys with
 | nil => intro i j; simp [seenT]
 | cons y ys ih =>
  intro i j
  cases j with
  | zero => simp [seenT]
  | succ j => simp only [seenT, List.getElem?_cons_succ, ih]; rw [show i + 1 + j = i + (j + 1) by omega]
theorem seenT_len (s : St) (u : Nat) : ∀ (ys : List D) (i : Nat), (seenT s u i ys).length = ys.length := by
 intro ys
 induction ys with
 | nil => intro i; rfl
 | cons y ys ih => intro i; simp [seenT, ih]
theorem seenC_W {u i : Nat} {rv : Nat → Value} {x : D} {v : Value} {F : Nat → Prop} (hfc : foll w rv [u, i] = some v) (hW : WR T s rv w S x v F) (hn : (seenC s u i x).hasObj = false) : WR T s rv w S (seenC s u i x) v (fun _ => False) := by
 cases x with
 | agg ys =>
  cases hW with
  | agg us' Fi' hz' hxs' hF' hdj' hw' =>
   have hn' : hasObjs (seenL s [u, i] 0 ys) = false := hn
   refine .agg us' (fun _ _ => False) (by rw [seenL_len]; exact hz') (fun j y hy => ?_) (fun k => ⟨fun h => h.elim, fun ⟨_, _, h⟩ => h⟩) (fun _ _ _ _ _ _ h => h.elim) (fun j y hy => ?_)
   ·rw [seenL_get] at hy
    obtain ⟨z, hz, _⟩ := Option.map_eq_some_iff.1 hy
    exact hxs' j _ hz
   ·have hno := hasObjs_get hn' hy
    rw [seenL_get] at hy
    obtain ⟨z, hz, rfl⟩ := Option.map_eq_some_iff.1 hy
    rw [Nat.zero_add] at hno ⊢
    refine seen_T (t := u) (p := [i]) ?_ (hw' j _ hz) hno
    have hfc' : followV w (rv u) [i] = some _ := hfc
    show followV w (rv u) ([i] ++ [j]) = _
    rw [followV_append, hfc']
    simp only [Option.bind_some, followV, hxs' j _ hz]
 | _ => exact seen_T (t := u) (p := []) hfc hW hn
theorem move_sound (h : Fr T N gh s a w S Fs) {dst : Option Tmp} (hd : dstOk N dst) {t : TypeId} {x : Operand} (hx : opdOk N x) {d : D} (he : ev T s t x = some d) :
  Post T gh N (opMove s dst x d) w S Fs (a.put dst (a.eval x)) w := by
 have hW := ev_W h.rel h.small hx he
 cases x with
 | tmp u =>
  have hev := eval_tmp (a := a) (gh := gh) h.small hx
  simp only [ev, Option.some.injEq] at he
  subst he
  simp only [opMove]
  split
  ·refine post_val h hd (F := fun _ => False) (.vw (fun _ h => h) ?_) (fun _ h => h)
   exact mkv_VR [u] _ _ (by simp [foll, followV, hev])
  ·split
   ·unfold opMoveO
    split
    ·rename_i xs hxx
     split
     ·rw [← hxx]; exact post_moved h hd hev
     ·rename_i hno
      have hno' : hasObjs (seenT s u 0 xs) = false := by simpa using hno
      rw [hxx] at hW
      simp only [opdF] at hW
      generalize hvv : a.eval (.tmp u) = vv at *
      cases hW with
      | tup us Fi hz hxs hF hdj hw =>
       refine post_val h hd (F := fun _ => False) ?_ (fun _ h => h)
       refine .tup us (fun _ _ => False) (by rw [seenT_len]; exact hz) (fun j y hy => ?_) (fun k => ⟨fun h => h.elim, fun ⟨_, _, h⟩ => h⟩) (fun _ _ _ _ _ _ h => h.elim) (fun j y hy => ?_)
       ·rw [seenT_get] at hy
        obtain ⟨z, hz, _⟩ := Option.map_eq_some_iff.1 hy
        exact hxs j _ hz
       ·have hnj := hasObjs_get hno' hy
        rw [seenT_get] at hy
        obtain ⟨z, hz, rfl⟩ := Option.map_eq_some_iff.1 hy
        rw [Nat.zero_add] at hnj ⊢
        refine seenC_W ?_ (hw j _ hz) hnj
        simp only [foll, ← hev, followV, hxs j _ hz, Option.bind_some]
    ·exact post_moved h hd hev
   ·rename_i ho
    exact post_val h hd hW (noObj_empty hW (by simpa using ho))
 | const v =>
  simp only [opMove]
  exact post_val h hd hW (fun _ h => h)
 | func f => simp only [opMove]; exact post_val h hd hW (fun _ h => h)
 | global g => simp [ev] at he

/-- An object that was pulled is laid into a slot. -/
theorem post_pulled (h : Fr T N gh s a w S Fs) {pm : Pm} {dst : Option Tmp} (hd : dstOk N dst) {L : Place} {n m : Nat} {v : Value} {q : D × St} (hv : VR s w (rvOf a gh) L n m v) (hp : pull pm s L n m = some q) :
  Post T gh N (q.2.putO dst q.1) w S Fs (a.put dst v) w := by
 obtain ⟨d, s1⟩ := q
 obtain ⟨S', Fs', F, r, hh, k, sb⟩ := pull_sound h.rel hp hv
 exact post_put r hh.val (fun t k _ hf => hh.apart t k hf) (Step.of_sub sb.sS sb.sS' (fun u k hu => ⟨u, sb.sF u k hu⟩)) (fun k hf => .inl (sb.sH k hf)) h.defs h.size h.small hd

theorem assign_sound (h : Fr T N gh s a w S Fs) {pm : Pm} {dst : Option Tmp} (hd : dstOk N dst) {t : TypeId} {x : Operand} (hx : opdOk N x) {d : D} (he : ev T s t x = some d)
  (ha : opAssign pm s dst x d = some s') : Post T gh N s' w S Fs (a.put dst (a.eval x)) w := by
 have hW := ev_W h.rel h.small hx he
 cases x with
 | tmp u =>
  have hev := eval_tmp (a := a) (gh := gh) h.small hx
  simp only [ev, Option.some.injEq] at he
  simp only [opAssign] at ha
  split at ha
  ·rename_i htup
   simp only [Option.map_eq_some_iff] at ha
   obtain ⟨⟨d1, s1⟩, hq, rfl⟩ := ha
   have hno : d.hasObj = false := by
    unfold tupD at htup
    split at htup
    ·simp only [Bool.and_eq_true, Bool.not_eq_true'] at htup; simpa [D.hasObj] using htup.1
    ·cases d <;> first | rfl | (simp [vwT] at htup)
   have hE := noObj_empty hW hno
   obtain ⟨S', Fs', F', r, hh', k', tk⟩ := takeD_sound d hq h.rel ⟨hW, fun t k hf => (hE k hf).elim⟩
   refine post_put r hh'.val (fun t k _ hf => hh'.apart t k hf) (Step.of_sub tk.sS (fun k hk => ?_) (fun u k hu => ⟨u, tk.sF u k hu⟩)) (fun k hf => .inl ?_) h.defs h.size h.small hd
   ·rcases tk.sS' k hk with hk | hv | hf
    ·exact .inl hk
    ·exact .inr hv
    ·exact (hE k hf).elim
   ·rcases tk.sH k hf with hf | hv
    ·exact (hE k hf).elim
    ·exact hv
  split at ha
  ·rename_i r n m
   simp only [Option.map_eq_some_iff] at ha
   obtain ⟨q, hq, rfl⟩ := ha
   cases hW with
   | vw hE hv => exact post_pulled h hd hv hq
  ·simp only [Option.some.injEq] at ha
   subst ha
   split
   ·subst he; exact post_moved h hd hev
   ·rename_i ho
    exact post_val h hd hW (noObj_empty hW (by simpa using ho))
 | const v =>
  simp only [opAssign, Option.some.injEq] at ha; subst ha
  exact post_val h hd hW (fun _ h => h)
 | func f =>
  simp only [opAssign, Option.some.injEq] at ha; subst ha
  exact post_val h hd hW (fun _ h => h)
 | global g => simp [ev] at he

/-- Where a pointer leads. -/
theorem addrD_sound (h : Fr T N gh s a w S Fs) {pm : Pm} {x : Operand} (hx : opdOk N x) {d : D} {F : Nat → Prop} (hW : WR T s (rvOf a gh) w S d (a.eval x) F) (he : ∀ u, x = .tmp u → s.v u = d)
  {L : Place} {c : Nat} {o : D} (hd : addrD pm s x d = some (L, c, o)) :
  ∃ t p, L = t :: p ∧ getp (s.v t) p = some o ∧ o.isObj = true ∧ ∃ hv ad, foll w (rvOf a gh) L = some hv ∧ addrOf hv = some ad ∧ a.eval x = .pointer (some (ad.add c)) := by
 unfold addrD at hd
 split at hd
 ·rename_i xs
  split at hd
  ·rename_i u
   simp only [Option.some.injEq, Prod.mk.injEq] at hd
   obtain ⟨rfl, rfl, rfl⟩ := hd
   have hu := he u rfl
   refine ⟨u, [], rfl, by rw [hu]; rfl, rfl, a.eval (.tmp u), ?_⟩
   have hev := eval_tmp (a := a) (gh := gh) h.small hx
   generalize a.eval (.tmp u) = v at *
   cases hW with
   | box us Fi hb hz hx' hF hFb hdj hSb hw =>
    exact ⟨_, by simp [foll, followV, ← hev], rfl, by rw [add_zero]⟩
  ·cases hd
 ·rename_i L' n m
  split at hd
  ·rename_i xs hl
   simp only [Option.some.injEq, Prod.mk.injEq] at hd
   obtain ⟨rfl, rfl, rfl⟩ := hd
   obtain ⟨t, p, rfl, hg, ho, hva⟩ := look_spec hl
   cases hW with
   | vw hE hv =>
    have hf := hv.2 hva
    obtain ⟨v', F', hfo, hW', _⟩ := h.rel.focus hg
    rw [hf] at hfo
    injection hfo with hfo
    rw [← hfo] at hW'
    generalize a.eval x = v at *
    cases hW' with
    | box us Fi hb hz hx' hF hFb hdj hSb hw => exact ⟨t, p, rfl, hg, rfl, _, _, hf, rfl, by rw [add_zero]⟩
  ·cases hd
 ·rename_i L' c' n m
  split at hd
  ·rename_i o' hl
   simp only [Option.some.injEq, Prod.mk.injEq] at hd
   obtain ⟨rfl, rfl, rfl⟩ := hd
   obtain ⟨t, p, rfl, hg, ho, hva⟩ := look_spec hl
   cases hW with
   | pe hE hv =>
    obtain ⟨hv', ad, h1, h2, h3⟩ := hv.2 hva
    exact ⟨t, p, rfl, hg, ho, hv', ad, h1, h2, h3⟩
  ·cases hd
 ·cases hd

/-- A cell of an object, seen. -/
theorem seen_W {t : Nat} {p : Place} {hv : Value} {ad : Addr} {rv : Nat → Value} (hfo : foll w rv (t :: p) = some hv) (had : addrOf hv = some ad) {c : Nat} {x : D} {u : Value} {F : Nat → Prop}
  (hc : w.cell? (ad.add c) = some u) (hW : WR T s rv w S x u F) (hn : (seen s (t :: p) c x).hasObj = false) : WR T s rv w S (seen s (t :: p) c x) u (fun _ => False) := by
 have hfc : foll w rv (t :: p ++ [c]) = some u := by
  simp only [foll, List.cons_append, followV_append]
  simp only [foll] at hfo
  rw [hfo]
  simp only [Option.bind_some]
  cases hv with
  | slice A n m => simp only [addrOf] at had; subst had; simp [followV, hc]
  | pointer A => simp only [addrOf] at had; subst had; simp [followV, hc]
  | _ => simp [addrOf] at had
 have hvw : WR T s rv w S (mkv s (t :: p ++ [c])) u (fun _ => False) := .vw (fun _ h => h) (mkv_VR _ _ _ hfc)
 cases x with
 | own e xs => exact hvw
 | box xs => exact hvw
 | _ =>
  all_goals first
   | exact hW.congr fun k => ⟨fun hf => (noObj_empty hW hn k hf).elim, fun hf => hf.elim⟩

theorem load_sound (hT : TyOk P T) (h : Fr T N gh s a w S Fs) {pm : Pm} {dst : Option Tmp} (hd : dstOk N dst) {t tt : TypeId} {x : Operand} (hx : opdOk N x) {d r : D} (he : ev T s tt x = some d)
  (hl : opLoad T pm s t x d = some r) : ∃ v, (Instr.loadAt t (a.eval x)).run P w = .ok v w ∧ Post T gh N (s.putO dst r) w S Fs (a.put dst v) w := by
 have hW := ev_W h.rel h.small hx he
 have hslot : ∀ u, x = .tmp u → s.v u = d := fun u hu => by subst hu; simpa [ev] using he
 unfold opLoad at hl
 split at hl
 ·rename_i hk
  split at hl
  ·rename_i xs
   generalize hv : a.eval x = v at *
   cases hW with
   | cptr us hE hxs hws =>
    split at hl
    ·rename_i hst
     split at hl
     ·rename_i hle
      simp only [Option.some.injEq] at hl; subst hl
      refine ⟨_, run_loadAtS hT hk hst us (fun j hj => ?_), ?_⟩
      ·exact (hxs j _ (List.getElem?_eq_getElem (by omega))).2
      ·refine post_val h hd (F := fun _ => False) (.agg us (fun _ _ => False) (by simp; omega) (fun i y hy => ?_) (by simp) (by simp) (fun i y hy => ?_)) (fun _ h => h)
       ·have hi := (List.getElem?_eq_some_iff.1 hy).1
        have hi' : i < T.size t := by simp at hi; omega
        simp [hi']
       ·have hi := (List.getElem?_eq_some_iff.1 hy).1
        have hi' : i < T.size t := by simp at hi; omega
        rw [List.getElem?_take_of_lt hi'] at hy
        exact (hws i y hy).up
     ·cases hl
    ·rename_i hst
     obtain ⟨hs0, hc0⟩ := hxs 0 r hl
     rw [add_zero] at hc0
     exact ⟨_, run_loadAt1 hT hk (by simpa using hst) hc0, post_val h hd (hws 0 r hl).up (fun _ h => h)⟩
  ·rename_i g xs
   split at hl
   ·cases hl
   ·rename_i hst
    simp only [Option.some.injEq] at hl
    subst hl
    generalize a.eval x = v at hW ⊢
    cases hW with
    | ocl us hE hz hxx hww hs hv =>
     rcases hv with ⟨h1, _⟩ | ⟨_, ad, rfl, hS, hc⟩
     ·cases h1
     ·rw [add_zero] at hc
      exact ⟨_, run_loadAt1 hT hk (by simpa using hst) hc, post_val h hd (F := fun _ => False) (.ocl us (fun _ h => h) hz hxx hww hs (.inl ⟨rfl, rfl⟩)) (fun _ h => h)⟩
  ·rename_i d' hnc1 hnc
   split at hl
   ·cases hl
   ·rename_i L c o ha
    obtain ⟨t', p, rfl, hg, ho, hv, ad, hfo, had, hev⟩ := addrD_sound h hx hW hslot ha
    rw [hev]
    obtain ⟨v', F', hfo', hWo, _⟩ := h.rel.focus hg
    rw [hfo] at hfo'
    injection hfo' with hfo'
    subst hfo'
    split at hl
    ·rename_i hst
     split at hl
     ·rename_i hle
      unfold noObjD at hl
      split at hl
      ·cases hl
      ·rename_i hno
       simp only [Option.some.injEq] at hl
       subst hl
       by_cases hz : T.size t = 0
       ·refine ⟨_, run_loadAtS hT hk hst (fun _ => undef) (fun j hj => by omega), ?_⟩
        simp only [hz, List.range_zero, List.map_nil]
        exact post_val h hd (F := fun _ => False) (.agg (fun _ => undef) (fun _ _ => False) rfl (by simp) (by simp) (by simp) (by simp)) (fun _ h => h)
       ·have hne : o.cells ≠ [] := fun h0 => by rw [h0] at hle; simp at hle; omega
        obtain ⟨b, off, cs, te, us, Fi, hb1, hb2, hb3, hb4, _⟩ := objCells hWo ho hne
        rw [had] at hb1
        injection hb1 with hb1
        subst hb1
        have hcell : ∀ j, j < T.size t → w.cell? ((Addr.add ⟨b, off, none⟩ c).add j) = some (us (c + j)) := fun j hj => by
         rw [add_add, cell_off hb2]
         exact (hb4 (c + j) _ (List.getElem?_eq_getElem (by omega))).1
        refine ⟨_, run_loadAtS hT hk hst (fun j => us (c + j)) hcell, ?_⟩
        have hno' : hasObjs ((List.range (T.size t)).map fun i => seen s (t' :: p) (c + i) (o.cells.getD (c + i) .undef)) = false := by simpa [D.hasObj] using hno
        refine post_val h hd (F := fun _ => False) (.agg (fun j => us (c + j)) (fun _ _ => False) (by simp) (fun i y hy => ?_) (by simp) (by simp) (fun i y hy => ?_)) (fun _ h => h)
        ·have hi := (List.getElem?_eq_some_iff.1 hy).1
         simp at hi
         simp [hi]
        ·have hi := (List.getElem?_eq_some_iff.1 hy).1
         simp at hi
         have hno'' := hasObjs_get hno' hy
         simp only [List.getElem?_map, List.getElem?_range hi, Option.map_some, Option.some.injEq] at hy
         subst hy
         have hx' : o.cells[c + i]? = some (o.cells[c + i]'(by omega)) := List.getElem?_eq_getElem (by omega)
         rw [getD_of hx'] at hno'' ⊢
         refine seen_W hfo had (u := us (c + i)) ?_ (hb4 _ _ hx').2 hno''
         have := hcell i hi
         rwa [add_add] at this
     ·cases hl
    ·rename_i hst
     simp only [Option.bind_eq_some_iff] at hl
     obtain ⟨y, hy, hl⟩ := hl
     unfold noObjD at hl
     split at hl
     ·cases hl
     ·rename_i hno
      simp only [Option.some.injEq] at hl
      subst hl
      have hne : o.cells ≠ [] := fun h0 => by rw [h0] at hy; simp at hy
      obtain ⟨b, off, cs, te, us, Fi, hb1, hb2, hb3, hb4, _⟩ := objCells hWo ho hne
      rw [had] at hb1
      injection hb1 with hb1
      subst hb1
      have hcell : w.cell? (Addr.add ⟨b, off, none⟩ c) = some (us c) := by rw [cell_off hb2]; exact (hb4 c y hy).1
      exact ⟨_, run_loadAt1 hT hk (by simpa using hst) hcell, post_val h hd (seen_W hfo had hcell (hb4 c y hy).2 (by simpa using hno)) (fun _ h => h)⟩
 ·cases hl

end
end Dv
/- Value semantics for Go code: addresses, lengths, arithmetic, new objects. Conditions: the types are what the table says. -/
namespace Dv
open Go

section
variable {P : Program} {T : Tys} {s s' : St} {gh : Nat → Value} {a : Act} {w : World} {S : Nat → Prop} {Fs : Nat → Nat → Prop} {N : Nat}

theorem add_block (a : Addr) (i : Nat) : (a.add i).block = a.block := by unfold Addr.add; split <;> rfl

theorem known_pos {t : TypeId} (h : T.known t = true) : 0 < T.size t := by
 unfold Tys.known at h
 unfold Tys.size Ty.size
 split at h
 ·cases h
 ·cases h
 ·cases h
 ·rename_i h0 h1 h2
  split
  ·rename_i fs hfs
   cases fs with
   | nil => exact absurd hfs h2
   | cons x y => simp
  ·omega

theorem len_eq {e : TypeId} (h : T.known e = true) {xs : List D} {n : Nat} (hn : xs.length = n * T.size e) : T.len e xs = n := by
 unfold Tys.len
 split
 ·rename_i h1; rw [hn, h1, Nat.mul_one]
 ·rw [hn]; exact Nat.mul_div_cancel _ (known_pos h)

/-- What a slice is. -/
theorem sliceD_sound (h : Fr T N gh s a w S Fs) {pm : Pm} {x : Operand} (hx : opdOk N x) {d : D} {F : Nat → Prop} (hW : WR T s (rvOf a gh) w S d (a.eval x) F) (he : ∀ u, x = .tmp u → s.v u = d)
  {e : TypeId} {xs : List D} {o : Option (Place × Nat × Nat)} (hs : sliceD pm s x d = some (e, xs, o)) :
  ∃ A n c, a.eval x = .slice A n c ∧ xs.length = n * T.size e ∧ n ≤ c ∧ c ≤ maxLen ∧
   (∀ i y, xs[i]? = some y → ∃ ad u Fi, A = some ad ∧ w.cell? (ad.add i) = some u ∧ WR T s (rvOf a gh) w S y u Fi) ∧
   (o = none → ∃ us : Nat → Value, ∀ i y, xs[i]? = some y → ∃ ad, A = some ad ∧ S ad.block ∧ w.cell? (ad.add i) = some (us i) ∧ W T S w V0 Vp0 y (us i) (fun _ => False)) ∧
   (∀ L n' m', o = some (L, n', m') → ∃ t p, L = t :: p ∧ getp (s.v t) p = some (.own e xs) ∧ foll w (rvOf a gh) L = some (.slice A n c) ∧ early s L n' m') := by
 have hown : ∀ {v : Value} {F : Nat → Prop}, WR T s (rvOf a gh) w S (.own e xs) v F → ∃ A n c, v = .slice A n c ∧ xs.length = n * T.size e ∧ n ≤ c ∧ c ≤ maxLen ∧
   (∀ i y, xs[i]? = some y → ∃ ad u Fi, A = some ad ∧ w.cell? (ad.add i) = some u ∧ WR T s (rvOf a gh) w S y u Fi) := by
  intro v F hW
  cases hW with
  | own0 => exact ⟨_, 0, 0, rfl, by simp, Nat.le_refl _, Nat.zero_le _, by simp⟩
  | own us Fi hb hz hn hc hm hx hF hFb hd hSb hw =>
   exact ⟨_, _, _, rfl, hn, hc, hm, fun i y hy => ⟨_, us i, Fi i, rfl, by rw [cell_off hb]; exact hx i y hy, hw i y hy⟩⟩
 unfold sliceD at hs
 split at hs
 ·rename_i e' xs'
  simp only [Option.some.injEq, Prod.mk.injEq] at hs
  obtain ⟨rfl, rfl, rfl⟩ := hs
  generalize a.eval x = v at *
  cases hW with
  | sl us hE hn hc hm hxs hws =>
   refine ⟨_, _, _, rfl, hn, hc, hm, fun i y hy => ?_, fun _ => ⟨us, fun i y hy => ?_⟩, by simp⟩
   ·obtain ⟨ad, h1, h2, h3⟩ := hxs i y hy
    exact ⟨ad, us i, _, h1, h3, (hws i y hy).up⟩
   ·obtain ⟨ad, h1, h2, h3⟩ := hxs i y hy
    exact ⟨ad, h1, h2, h3, hws i y hy⟩
 ·rename_i e' xs'
  split at hs
  ·rename_i u
   simp only [Option.some.injEq, Prod.mk.injEq] at hs
   obtain ⟨rfl, rfl, rfl⟩ := hs
   obtain ⟨A, n, c, h1, h2, h3, h4, h5⟩ := hown hW
   refine ⟨A, n, c, h1, h2, h3, h4, h5, by simp, fun L n' m' ho => ?_⟩
   simp only [Option.some.injEq, Prod.mk.injEq] at ho
   obtain ⟨rfl, rfl, rfl⟩ := ho
   refine ⟨u, [], rfl, by rw [he u rfl]; rfl, ?_, Nat.le_refl _, Nat.le_refl _⟩
   have hev := eval_tmp (a := a) (gh := gh) h.small hx
   simp only [foll, followV, ← hev, h1]
  ·split at hs
   ·rename_i hnil
    simp only [Option.some.injEq, Prod.mk.injEq] at hs
    obtain ⟨rfl, rfl, rfl⟩ := hs
    obtain ⟨A, n, c, h1, h2, h3, h4, h5⟩ := hown hW
    have hnil : xs' = [] := by simpa using hnil
    subst hnil
    exact ⟨A, n, c, h1, h2, h3, h4, h5, fun _ => ⟨fun _ => undef, by simp⟩, by simp⟩
   ·cases hs
 ·rename_i L n m
  split at hs
  ·rename_i e' xs' hl
   simp only [Option.some.injEq, Prod.mk.injEq] at hs
   obtain ⟨rfl, rfl, rfl⟩ := hs
   obtain ⟨t, p, rfl, hg, ho, hva⟩ := look_spec hl
   cases hW with
   | vw hE hv =>
    have hf := hv.2 hva
    obtain ⟨v', F', hfo, hW', _⟩ := h.rel.focus hg
    rw [hf] at hfo
    injection hfo with hfo
    rw [← hfo] at hW'
    obtain ⟨A, n', c, h1, h2, h3, h4, h5⟩ := hown hW'
    refine ⟨A, n', c, h1, h2, h3, h4, h5, by simp, fun L n'' m'' ho => ?_⟩
    simp only [Option.some.injEq, Prod.mk.injEq] at ho
    obtain ⟨rfl, rfl, rfl⟩ := ho
    exact ⟨t, p, rfl, hg, by rw [hf, h1], hv.1⟩
  ·cases hs
 ·cases hs

theorem ev_slot {t : TypeId} {x : Operand} {d : D} (he : ev T s t x = some d) : ∀ u, x = .tmp u → s.v u = d := fun u hu => by subst hu; simpa [ev] using he

theorem fieldAddr_sound (hT : TyOk P T) (h : Fr T N gh s a w S Fs) {pm : Pm} {dst : Option Tmp} (hd : dstOk N dst) {t tt : TypeId} {x : Operand} (hx : opdOk N x) {d r : D} {i : Nat} (he : ev T s tt x = some d)
  (hl : opFieldAddr T pm s t x d i = some r) : ∃ v, (Instr.fieldAt t (a.eval x) i).run P w = .ok v w ∧ Post T gh N (s.putO dst r) w S Fs (a.put dst v) w := by
 have hW := ev_W h.rel h.small hx he
 unfold opFieldAddr at hl
 cases hfo : T.foff t i with
 | none => simp [hfo] at hl
 | some j0 =>
 simp only [hfo] at hl
 split at hl
 ·rename_i hst
  obtain ⟨fields, f, hun, hif, hoff, hkn⟩ := hT.field hst hfo
  have hrun : ∀ A : Addr, (Instr.fieldAt t (.pointer (some A)) i).run P w = .ok (.pointer (some (A.add j0))) w := fun A => by
   have hne : T.size f.type ≠ 0 := by have := known_pos hkn; omega
   simp [Instr.fieldAt, run_underlying hun, hif, Instr.sureAddr, fieldPlace, hT.szOf hkn, hne, hoff]
  clear hfo
  split at hl
  ·rename_i xs
   split at hl
   ·rename_i u
    simp only [Option.some.injEq] at hl; subst hl
    have hev := eval_tmp (a := a) (gh := gh) h.small hx
    generalize a.eval (.tmp u) = v at *
    cases hW with
    | box us Fi hb hz hx' hF hFb hdj hSb hw =>
     refine ⟨_, hrun _, post_val h hd (F := fun _ => False) (.pe (fun _ h => h) ⟨⟨Nat.le_refl _, Nat.le_refl _⟩, fun _ => ⟨rvOf a gh u, _, rfl, by rw [← hev]; rfl, rfl⟩⟩) (fun _ h => h)⟩
   ·cases hl
  ·rename_i L n m
   split at hl
   ·rename_i xs hlk
    simp only [Option.some.injEq] at hl; subst hl
    obtain ⟨t', p, rfl, hg, ho, hva⟩ := look_spec hlk
    cases hW with
    | vw hE hv =>
     have hf := hv.2 hva
     obtain ⟨v', F', hfo, hW', _⟩ := h.rel.focus hg
     rw [hf] at hfo
     injection hfo with hfo
     rw [← hfo] at hW'
     generalize a.eval x = v at *
     cases hW' with
     | box us Fi hb hz hx' hF hFb hdj hSb hw =>
      exact ⟨_, hrun _, post_val h hd (F := fun _ => False) (.pe (fun _ h => h) ⟨hv.1, fun _ => ⟨_, _, hf, rfl, rfl⟩⟩) (fun _ h => h)⟩
   ·cases hl
  ·rename_i L c n m
   split at hl
   ·rename_i o hlk
    simp only [Option.some.injEq] at hl; subst hl
    obtain ⟨t', p, rfl, hg, ho, hva⟩ := look_spec hlk
    cases hW with
    | pe hE hv =>
     obtain ⟨hv', ad, h1, h2, h3⟩ := hv.2 hva
     rw [h3]
     exact ⟨_, hrun _, post_val h hd (F := fun _ => False) (.pe (fun _ h => h) ⟨hv.1, fun _ => ⟨hv', ad, h1, h2, by rw [add_add]⟩⟩) (fun _ h => h)⟩
   ·cases hl
  ·rename_i xs
   simp only [Option.some.injEq] at hl; subst hl
   generalize a.eval x = v at *
   cases hW with
   | cptr us hE hxs hws =>
    refine ⟨_, hrun _, post_val h hd (F := fun _ => False) (.cptr (fun j => us (j0 + j)) (fun _ h => h) (fun j y hy => ?_) (fun j y hy => ?_)) (fun _ h => h)⟩
    ·rw [List.getElem?_drop] at hy
     obtain ⟨h1, h2⟩ := hxs _ y hy
     refine ⟨?_, by rw [add_add]; exact h2⟩
     rw [add_block]; exact h1
    ·rw [List.getElem?_drop] at hy
     exact hws _ y hy
  ·cases hl
 ·cases hl

theorem indexAddr_sound (hT : TyOk P T) (h : Fr T N gh s a w S Fs) {pm : Pm} {dst : Option Tmp} (hd : dstOk N dst) {t tt ti : TypeId} {x y : Operand} (hx : opdOk N x) (hy : opdOk N y) {d i r : D}
  (he : ev T s tt x = some d) (hi : ev T s ti y = some i) (hl : opIndexAddr T pm s t x d i = some r) :
  ∃ v, (Instr.indexAt t (a.eval x) (a.eval y)).run P w = .ok v w ∧ Post T gh N (s.putO dst r) w S Fs (a.put dst v) w := by
 have hW := ev_W h.rel h.small hx he
 have hWi := ev_W h.rel h.small hy hi
 unfold opIndexAddr at hl
 split at hl
 ·rename_i e k n hty
  split at hl
  ·rename_i e' xs o hs
   split at hl
   ·rename_i hc
    obtain ⟨rfl, hkn, hn0, hnl⟩ := hc
    obtain ⟨A, n', c, hv, hn, hcc, hm, hcell, hnone, hsome⟩ := sliceD_sound h hx hW (ev_slot he) hs
    have hlen := len_eq hkn hn
    rw [hlen] at hnl
    have hpos := known_pos hkn
    have hidx : n.toNat * T.size e' < xs.length := by
     rw [hn]; exact Nat.mul_lt_mul_of_pos_right hnl hpos
    obtain ⟨ad, u, Fi, hA, _, _⟩ := hcell _ _ (List.getElem?_eq_getElem hidx)
    subst hA
    have hyv : a.eval y = .int k n := by
     generalize a.eval y = vy at *
     cases hWi with
     | int => rfl
    have hrun : (Instr.indexAt t (a.eval x) (a.eval y)).run P w = .ok (.pointer (some (ad.add (n.toNat * T.size e')))) w := by
     rw [hv, hyv]
     have hlt : n < (n' : Int) := by omega
     simp [Instr.indexAt, asIntOf, run_underlying (hT.slice hty), hn0, hlt, hT.szOf hkn]
    refine ⟨_, hrun, ?_⟩
    cases ho : o with
    | none =>
     rw [ho] at hl
     simp only [Option.some.injEq] at hl; subst hl
     obtain ⟨us, hus⟩ := hnone ho
     refine post_val h hd (F := fun _ => False) (.cptr (fun j => us (n.toNat * T.size e' + j)) (fun _ h => h) (fun j y' hy' => ?_) (fun j y' hy' => ?_)) (fun _ h => h)
     ·have hj : j < T.size e' := by have := (List.getElem?_eq_some_iff.1 hy').1; simp at this; omega
      rw [List.getElem?_take_of_lt hj, List.getElem?_drop] at hy'
      obtain ⟨ad', h1, h2, h3, h4⟩ := hus _ _ hy'
      injection h1 with h1
      subst h1
      refine ⟨?_, by rw [add_add]; exact h3⟩
      rw [add_block]; exact h2
     ·have hj : j < T.size e' := by have := (List.getElem?_eq_some_iff.1 hy').1; simp at this; omega
      rw [List.getElem?_take_of_lt hj, List.getElem?_drop] at hy'
      obtain ⟨ad', h1, h2, h3, h4⟩ := hus _ _ hy'
      exact h4
    | some q =>
     obtain ⟨L, n1, m1⟩ := q
     rw [ho] at hl
     simp only [Option.some.injEq] at hl; subst hl
     obtain ⟨t', p, rfl, hg, hfo, her⟩ := hsome L n1 m1 ho
     exact post_val h hd (F := fun _ => False) (.pe (fun _ h => h) ⟨her, fun _ => ⟨_, ad, hfo, rfl, rfl⟩⟩) (fun _ h => h)
   ·cases hl
  ·cases hl
 ·cases hl

theorem len_sound (hT : TyOk P T) (h : Fr T N gh s a w S Fs) {pm : Pm} {dst : Option Tmp} (hd : dstOk N dst) {t tt : TypeId} {x : Operand} (hx : opdOk N x) {d r : D} (ty : TypeId)
  (he : ev T s tt x = some d) (hl : opLen T pm s t x d = some r) :
  ∃ v, (Builtin.len_ #[t] ty #[a.eval x]).run P w = .ok v w ∧ Post T gh N (s.putO dst r) w S Fs (a.put dst v) w := by
 have hW := ev_W h.rel h.small hx he
 unfold opLen at hl
 split at hl
 ·rename_i b hty
  simp only [Option.some.injEq] at hl; subst hl
  have h0 := (hT t).1
  unfold TyFact at h0
  rw [hty] at h0
  have hv : a.eval x = .string b := by
   generalize a.eval x = v at *
   cases hW with
   | str => rfl
  refine ⟨.int .i64 b.size, ?_, post_val h hd (F := fun _ => False) (.int (fun _ h => h)) (fun _ h => h)⟩
  rw [hv]
  simp [Builtin.len_, run_underlying h0.1, goInt]
 ·rename_i e0 hty
  split at hl
  ·rename_i e' xs o hs
   split at hl
   ·rename_i hkn
    simp only [Option.some.injEq] at hl; subst hl
    obtain ⟨A, n', c, hv, hn, _⟩ := sliceD_sound h hx hW (ev_slot he) hs
    have hlen := len_eq hkn hn
    refine ⟨.int .i64 n', ?_, ?_⟩
    ·rw [hv]
     simp [Builtin.len_, run_underlying (hT.slice hty), goInt]
    ·rw [hlen]
     exact post_val h hd (F := fun _ => False) (.int (fun _ h => h)) (fun _ h => h)
   ·cases hl
  ·cases hl
 ·cases hl

/-- A cell of a part that is seen. -/
theorem ix_sound (hT : TyOk P T) (h : Fr T N gh s a w S Fs) {pm : Pm} {dst : Option Tmp} (hd : dstOk N dst) {t tt ti : TypeId} {x y : Operand} (hx : opdOk N x) (hy : opdOk N y) {d i r : D}
  (he : ev T s tt x = some d) (hi : ev T s ti y = some i) (hl : opIx T pm s t x d i = some r) :
  ∃ v, (Instr.indexAt t (a.eval x) (a.eval y)).run P w = .ok v w ∧ Post T gh N (s.putO dst r) w S Fs (a.put dst v) w := by
 unfold opIx at hl
 split at hl
 ·rename_i e1 L va vb lo len
  have hW := ev_W h.rel h.small hx he
  have hWi := ev_W h.rel h.small hy hi
  unfold ixVs at hl
  split at hl
  ·rename_i e k n hty
   split at hl
   ·rename_i e2 xs hlk
    split at hl
    ·rename_i hc
     obtain ⟨rfl, rfl, hkn, hsz, hn0, hnl, hle⟩ := hc
     simp only [Option.some.injEq] at hl; subst hl
     obtain ⟨t', p, rfl, hg, hobj, hval⟩ := look_spec hlk
     generalize hvx : a.eval x = vx at *
     cases hW with
     | vs hE hl2 hm hv =>
      obtain ⟨ad, rfl, hp⟩ := hv (by omega)
      obtain ⟨hv0, ad0, e1, e2, e3⟩ := hp.2 hval
      rw [hsz, Nat.mul_one] at e3
      injection e3 with e3
      injection e3 with e3
      have hyv : a.eval y = .int k n := by
       generalize a.eval y = vy at *
       cases hWi with
       | int => rfl
      rename_i q
      have hrun : (Instr.indexAt t (.slice (some ad) len q) (a.eval y)).run P w = .ok (.pointer (some (ad.add n.toNat))) w := by
       rw [hyv]
       have hlt : n < (len : Int) := by omega
       simp [Instr.indexAt, asIntOf, run_underlying (hT.slice hty), hn0, hlt, hT.szOf hkn, hsz]
      refine ⟨_, hrun, ?_⟩
      exact post_val h hd (F := fun _ => False) (.pe (fun _ h => h) ⟨hp.1, fun _ => ⟨_, ad0, e1, e2, by rw [e3, add_add]⟩⟩) (fun _ h => h)
    ·cases hl
   ·cases hl
  ·cases hl
 ·exact indexAddr_sound hT h hd hx hy he hi hl

theorem ln_sound (hT : TyOk P T) (h : Fr T N gh s a w S Fs) {pm : Pm} {dst : Option Tmp} (hd : dstOk N dst) {t tt : TypeId} {x : Operand} (hx : opdOk N x) {d r : D} (ty : TypeId)
  (he : ev T s tt x = some d) (hl : opLn T pm s t x d = some r) :
  ∃ v, (Builtin.len_ #[t] ty #[a.eval x]).run P w = .ok v w ∧ Post T gh N (s.putO dst r) w S Fs (a.put dst v) w := by
 unfold opLn at hl
 split at hl
 ·rename_i e1 L va vb lo len
  have hW := ev_W h.rel h.small hx he
  unfold lnVs at hl
  split at hl
  ·rename_i e0 hty
   simp only [Option.some.injEq] at hl; subst hl
   generalize hvx : a.eval x = vx at *
   cases hW with
   | vs hE hl2 hm hv =>
    refine ⟨.int .i64 len, ?_, post_val h hd (F := fun _ => False) (.int (fun _ h => h)) (fun _ h => h)⟩
    simp [Builtin.len_, run_underlying (hT.slice hty), goInt]
  ·cases hl
 ·exact len_sound hT h hd hx ty he hl

theorem run_eqBool {t : TypeId} (hu : P.underlying t = some .bool) (d : Nat) (x y : Bool) (w : World) : (Op.equalIn (d + 1) t (.bool x) (.bool y)).run P w = .ok (x == y) w := by
 simp [Op.equalIn, run_underlying hu]

theorem run_eqlBool {t : TypeId} (hu : P.underlying t = some .bool) (x y : Bool) (w : World) : (binOp .eql t (.bool x) (.bool y)).run P w = .ok (.bool (x == y)) w := by
 have := run_eqBool (P := P) hu 9999 x y w
 simp only [binOp, Op.equal, Op.maxDepth, Sem.run_bind, this, Result.andThen_ok, Sem.run_pure]
theorem run_neqBool {t : TypeId} (hu : P.underlying t = some .bool) (x y : Bool) (w : World) : (binOp .neq t (.bool x) (.bool y)).run P w = .ok (.bool (!(x == y))) w := by
 have := run_eqBool (P := P) hu 9999 x y w
 simp only [binOp, Op.equal, Op.maxDepth, Sem.run_bind, this, Result.andThen_ok, Sem.run_pure]

theorem run_binInt {op : BinOp} {k k' : IntKind} {x y : Int} {r : D} {t : TypeId} (w : World) (h : binD op (.int k x) (.int k' y) = some r) :
  ∃ v, (binOp op t (.int k x) (.int k' y)).run P w = .ok v w ∧ ∀ (S : Nat → Prop) (V : Place → Nat → Nat → Value → Prop) (Vp : Place → Nat → Nat → Nat → Value → Prop), W T S w V Vp r v (fun _ => False) := by
 have hE : Em (fun _ : Nat => False) := fun _ h => h
 simp only [binD] at h
 by_cases hkk : k = k'
 ·subst hkk
  simp only [if_true] at h
  cases op
  case add => simp only [Option.some.injEq] at h; subst h; exact ⟨_, by simp only [binOp, ne_eq, not_true_eq_false, if_false]; rfl, fun _ _ _ => .int hE⟩
  case sub => simp only [Option.some.injEq] at h; subst h; exact ⟨_, by simp only [binOp, ne_eq, not_true_eq_false, if_false]; rfl, fun _ _ _ => .int hE⟩
  case mul => simp only [Option.some.injEq] at h; subst h; exact ⟨_, by simp only [binOp, ne_eq, not_true_eq_false, if_false]; rfl, fun _ _ _ => .int hE⟩
  case and => simp only [Option.some.injEq] at h; subst h; exact ⟨_, by simp only [binOp, ne_eq, not_true_eq_false, if_false]; rfl, fun _ _ _ => .int hE⟩
  case or => simp only [Option.some.injEq] at h; subst h; exact ⟨_, by simp only [binOp, ne_eq, not_true_eq_false, if_false]; rfl, fun _ _ _ => .int hE⟩
  case xor => simp only [Option.some.injEq] at h; subst h; exact ⟨_, by simp only [binOp, ne_eq, not_true_eq_false, if_false]; rfl, fun _ _ _ => .int hE⟩
  case andNot => simp only [Option.some.injEq] at h; subst h; exact ⟨_, by simp only [binOp, ne_eq, not_true_eq_false, if_false]; rfl, fun _ _ _ => .int hE⟩
  case eql => simp only [Option.some.injEq] at h; subst h; exact ⟨_, by simp only [binOp, ne_eq, not_true_eq_false, if_false]; rfl, fun _ _ _ => .bool hE⟩
  case neq => simp only [Option.some.injEq] at h; subst h; exact ⟨_, by simp only [binOp, ne_eq, not_true_eq_false, if_false]; rfl, fun _ _ _ => .bool hE⟩
  case lss => simp only [Option.some.injEq] at h; subst h; exact ⟨_, by simp only [binOp, ne_eq, not_true_eq_false, if_false]; rfl, fun _ _ _ => .bool hE⟩
  case leq => simp only [Option.some.injEq] at h; subst h; exact ⟨_, by simp only [binOp, ne_eq, not_true_eq_false, if_false]; rfl, fun _ _ _ => .bool hE⟩
  case gtr => simp only [Option.some.injEq] at h; subst h; exact ⟨_, by simp only [binOp, ne_eq, not_true_eq_false, if_false]; rfl, fun _ _ _ => .bool hE⟩
  case geq => simp only [Option.some.injEq] at h; subst h; exact ⟨_, by simp only [binOp, ne_eq, not_true_eq_false, if_false]; rfl, fun _ _ _ => .bool hE⟩
  case quo =>
   by_cases hz : y = 0
   ·simp [hz] at h
   ·simp only [hz, if_false, Option.some.injEq] at h; subst h
    exact ⟨_, by simp only [binOp, ne_eq, not_true_eq_false, if_false, Op.intDiv, hz]; rfl, fun _ _ _ => .int hE⟩
  case rem =>
   by_cases hz : y = 0
   ·simp [hz] at h
   ·simp only [hz, if_false, Option.some.injEq] at h; subst h
    exact ⟨_, by simp only [binOp, ne_eq, not_true_eq_false, if_false, Op.intDiv, hz]; rfl, fun _ _ _ => .int hE⟩
  case shl =>
   by_cases hz : y < 0
   ·simp [hz] at h
   ·simp only [hz, if_false, Option.some.injEq] at h; subst h
    exact ⟨_, by simp only [binOp, Op.shift, hz, if_false]; rfl, fun _ _ _ => .int hE⟩
  case shr =>
   by_cases hz : y < 0
   ·simp [hz] at h
   ·simp only [hz, if_false, Option.some.injEq] at h; subst h
    exact ⟨_, by simp only [binOp, Op.shift, hz, if_false]; rfl, fun _ _ _ => .int hE⟩
  all_goals (simp at h)
 ·simp only [hkk, if_false] at h
  cases op
  case shl =>
   by_cases hz : y < 0
   ·simp [hz] at h
   ·simp only [hz, if_false, Option.some.injEq] at h; subst h
    exact ⟨_, by simp only [binOp, Op.shift, hz, if_false]; rfl, fun _ _ _ => .int hE⟩
  case shr =>
   by_cases hz : y < 0
   ·simp [hz] at h
   ·simp only [hz, if_false, Option.some.injEq] at h; subst h
    exact ⟨_, by simp only [binOp, Op.shift, hz, if_false]; rfl, fun _ _ _ => .int hE⟩
  all_goals (simp at h)

theorem run_binStr {op : BinOp} {x y : ByteArray} {r : D} {t : TypeId} (w : World) (h : binD op (.str x) (.str y) = some r) :
  ∃ v, (binOp op t (.string x) (.string y)).run P w = .ok v w ∧ ∀ (S : Nat → Prop) (V : Place → Nat → Nat → Value → Prop) (Vp : Place → Nat → Nat → Nat → Value → Prop), W T S w V Vp r v (fun _ => False) := by
 have hE : Em (fun _ : Nat => False) := fun _ h => h
 simp only [binD] at h
 cases op
 case add =>
  simp only at h
  split at h
  ·rename_i hlt
   simp only [Option.some.injEq] at h; subst h
   refine ⟨_, ?_, fun _ _ _ => .str hE⟩
   have : ¬ ((x.size + y.size : Nat) : Int) > IntKind.i64.max := by
    have : IntKind.i64.max = 9223372036854775807 := by decide
    omega
   simp only [binOp, Op.stringOp, this, if_false, Sem.run_pure]
  ·cases h
 case eql => simp only [Option.some.injEq] at h; subst h; exact ⟨_, rfl, fun _ _ _ => .bool hE⟩
 case neq => simp only [Option.some.injEq] at h; subst h; exact ⟨_, rfl, fun _ _ _ => .bool hE⟩
 case lss => simp only [Option.some.injEq] at h; subst h; exact ⟨_, rfl, fun _ _ _ => .bool hE⟩
 all_goals (simp at h)

theorem run_equal2 {t : TypeId} {f0 f1 : Field} {k l : IntKind} (hu : P.underlying t = some (.struct #[f0, f1])) (o0 : f0.offset = 0) (o1 : f1.offset = 1) (u0 : P.underlying f0.type = some (.int k)) (u1 : P.underlying f1.type = some (.int l))
  (n0 : f0.name ≠ "_") (n1 : f1.name ≠ "_") (hp : P.stoodInHeld t = false) (x y x' y' : Int) (w : World) :
  (Op.equalIn 10000 t (.agg #[.int k x, .int l y]) (.agg #[.int k x', .int l y'])).run P w = .ok ((x == x') && (y == y')) w := by
 have hf : P.fieldsOf t = #[f0, f1] := by unfold Program.fieldsOf; rw [hu]
 have e0 := run_equalIn_int (P := P) w 9998 f0.type k k x x' u0
 have e1 := run_equalIn_int (P := P) w 9998 f1.type l l y y' u1
 rw [show (10000 : Nat) = 9999 + 1 from rfl, run_equalIn_agg w 9999 t _ _ (by rw [hf]; exact hu) hp, hf]
 simp only [Op.eqFields, if_pos n0, if_pos n1, ne_eq, n0, n1, not_false_eq_true, if_true, part, Go.isAgg, Sem.run_bind, run_underlying u0, run_underlying u1, Result.andThen_ok, o0, o1, Sem.run_pure]
 simp [e0, e1, part, Go.isAgg, run_underlying u0, run_underlying u1]
 cases hx : (x == x') <;> cases hy : (y == y') <;> simp_all

theorem binD_agg {op : BinOp} {xs ys : List D} {r : D} (h : binD op (.agg xs) (.agg ys) = some r) :
  ∃ k l x y x' y', xs = [.int k x, .int l y] ∧ ys = [.int k x', .int l y'] ∧ ((op = .eql ∧ r = .bool ((x == x') && (y == y'))) ∨ (op = .neq ∧ r = .bool (!((x == x') && (y == y'))))) := by
 unfold binD at h
 split at h <;> try (rename_i h1 h2; cases h1; done)
 ·rename_i k x l y k' x' l' y' h1 h2
  injection h1 with h1
  injection h2 with h2
  subst h1 h2
  split at h
  ·rename_i hc
   obtain ⟨rfl, rfl⟩ := hc
   split at h
   ·simp only [Option.some.injEq] at h
    exact ⟨_, _, _, _, _, _, rfl, rfl, .inl ⟨rfl, h.symm⟩⟩
   ·simp only [Option.some.injEq] at h
    exact ⟨_, _, _, _, _, _, rfl, rfl, .inr ⟨rfl, h.symm⟩⟩
   ·cases h
  ·cases h
 ·cases h
theorem W_pair {k l : IntKind} {x y : Int} {v : Value} {V : Place → Nat → Nat → Value → Prop} {Vp : Place → Nat → Nat → Nat → Value → Prop} {F : Nat → Prop} (h : W T S w V Vp (.agg [.int k x, .int l y]) v F) : v = .agg #[.int k x, .int l y] := by
 cases h with
 | agg us Fi hz hx hF hd hw =>
  rename_i cs
  have w0 := hw 0 _ rfl
  have w1 := hw 1 _ rfl
  have c0 := hx 0 _ rfl
  have c1 := hx 1 _ rfl
  have u0 : us 0 = .int k x := by generalize us 0 = u at *; cases w0; rfl
  have u1 : us 1 = .int l y := by generalize us 1 = u at *; cases w1; rfl
  rw [u0] at c0
  rw [u1] at c1
  obtain ⟨cl⟩ := cs
  rcases cl with _ | ⟨a, _ | ⟨b, _ | ⟨_, _⟩⟩⟩ <;> simp at hz
  simp at c0 c1
  rw [c0, c1]
theorem binD_sound {op : BinOp} {x y r : D} {t : TypeId} {vx vy : Value} {V : Place → Nat → Nat → Value → Prop} {Vp : Place → Nat → Nat → Nat → Value → Prop} {F F' : Nat → Prop}
  (hb : (∃ b, x = .bool b) → P.underlying t = some .bool)
  (ha : ∀ k l m n, x = .agg [.int k m, .int l n] → ∃ f0 f1 : Field, P.underlying t = some (.struct #[f0, f1]) ∧ f0.offset = 0 ∧ f1.offset = 1 ∧ P.underlying f0.type = some (.int k) ∧ P.underlying f1.type = some (.int l) ∧ f0.name ≠ "_" ∧ f1.name ≠ "_" ∧ P.stoodInHeld t = false ∧ P.eqGuardType P.depth t = false) (hx : W T S w V Vp x vx F) (hy : W T S w V Vp y vy F') (h : binD op x y = some r) :
  ∃ v, (binOp op t vx vy).run P w = .ok v w ∧ W T S w V Vp r v (fun _ => False) := by
 have hE : Em (fun _ : Nat => False) := fun _ h => h
 have hx' := hx
 have hy' := hy
 cases hx <;> cases hy <;> try (simp [binD] at h; done)
 case int.int => obtain ⟨v, h1, h2⟩ := run_binInt (P := P) (T := T) (t := t) w h; exact ⟨v, h1, h2 _ _ _⟩
 case str.str => obtain ⟨v, h1, h2⟩ := run_binStr (P := P) (T := T) (t := t) w h; exact ⟨v, h1, h2 _ _ _⟩
 case bool.bool b _ b' _ =>
  have hu := hb ⟨b, rfl⟩
  cases op <;> try (simp [binD] at h; done)
  ·simp only [binD, Option.some.injEq] at h; subst h
   exact ⟨_, run_eqlBool hu _ _ w, .bool hE⟩
  ·simp only [binD, Option.some.injEq] at h; subst h
   exact ⟨_, run_neqBool hu _ _ w, .bool hE⟩
 case agg.agg =>
  obtain ⟨k, l, m, n, m', n', rfl, rfl, ho⟩ := binD_agg h
  obtain ⟨f0, f1, hu, o0, o1, u0, u1, n0, n1, hp, _⟩ := ha k l m n rfl
  rw [W_pair hx', W_pair hy']
  have he := run_equal2 hu o0 o1 u0 u1 n0 n1 hp m n m' n' w
  rcases ho with ⟨rfl, rfl⟩ | ⟨rfl, rfl⟩
  ·exact ⟨_, by rw [run_eql_struct, he]; rfl, .bool hE⟩
  ·exact ⟨_, by rw [run_neq_struct, he]; rfl, .bool hE⟩
end
end Dv
/- Value semantics for Go code: new objects, stores. Conditions: the types are what the table says. -/
namespace Dv
open Go

section
variable {P : Program} {T : Tys} {s s' : St} {gh : Nat → Value} {a : Act} {w : World} {S : Nat → Prop} {Fs : Nat → Nat → Prop} {N : Nat}

/-- The cells of a value in hand. -/
theorem asCells_W {rv : Nat → Value} {d : D} {v : Value} {F : Nat → Prop} (h : WR T s rv w S d v F) (hs : solid d = true ∨ ∃ xs, d = .agg xs) :
  ∃ (us : Nat → Value) (Gi : Nat → Nat → Prop), v.cells.size = d.asCells.length ∧ (∀ i x, d.asCells[i]? = some x → v.cells[i]? = some (us i) ∧ WR T s rv w S x (us i) (Gi i)) ∧
   (∀ k, F k ↔ ∃ i, i < d.asCells.length ∧ Gi i k) ∧ (∀ i j k, i < d.asCells.length → j < d.asCells.length → i ≠ j → Gi i k → ¬ Gi j k) := by
 rcases hs with hs | ⟨xs, rfl⟩
 ·have hc := solid_one h hs
  have hd : d.asCells = [d] := by cases d <;> first | rfl | (simp [solid] at hs)
  refine ⟨fun _ => v, fun _ => F, by rw [hd, hc.2]; rfl, fun i x hx => ?_, fun k => ?_, fun i j k hi hj hij => ?_⟩
  ·rw [hd] at hx
   cases i with
   | zero => simp at hx; subst hx; exact ⟨by rw [hc.2]; rfl, h⟩
   | succ i => simp at hx
  ·rw [hd]; exact ⟨fun h => ⟨0, by simp, h⟩, fun ⟨_, _, h⟩ => h⟩
  ·rw [hd] at hi hj; simp at hi hj; omega
 ·cases h with
  | agg us Fi hz hx hF hd hw => exact ⟨us, Fi, hz, fun i x hi => ⟨hx i x hi, hw i x hi⟩, hF, hd⟩

theorem alloc_le (w : World) (o : Obj) : w.heap.size ≤ (w.alloc o).heap.size := by
 show w.heap.size ≤ (w.heap.push o).size
 simp
theorem heap_new (w : World) (o : Obj) : (w.alloc o).heap[w.heap.size]? = some o := heap_alloc_new w o
theorem heap_old (w : World) (o : Obj) {k : Nat} (h : k < w.heap.size) : (w.alloc o).heap[k]? = w.heap[k]? := heap_alloc_old w o k h

theorem step_alloc (w : World) (o : Obj) (S : Nat → Prop) (Fs : Nat → Nat → Prop) : Step w S Fs (w.alloc o) S Fs :=
 ⟨rfl, rfl, rfl, alloc_le w o, fun _ hk _ => heap_old w o hk, fun _ h => h, fun _ h => .inl h, fun u _ h => .inl ⟨u, h⟩⟩

/-- The block of a new object's own, and what its cells own. -/
def newF (b n : Nat) (Gi : Nat → Nat → Prop) (k : Nat) : Prop := k = b ∨ ∃ i, i < n ∧ Gi i k

/-- A new object. -/
theorem new_obj {rv : Nat → Value} (h : Rel T s rv w S Fs) {xs : List D} {us : Nat → Value} {Gi : Nat → Nat → Prop} (hel : ∀ i x, xs[i]? = some x → WR T s rv w S x (us i) (Gi i))
  (hga : ∀ i t k, i < xs.length → Gi i k → ¬ Fs t k) (hgd : ∀ i j k, i < xs.length → j < xs.length → i ≠ j → Gi i k → ¬ Gi j k)
  {cs : Array Value} {e : TypeId} (hcs : ∀ i x, xs[i]? = some x → cs[i]? = some (us i)) :
  Rel T s rv (w.alloc (.cells cs e)) S Fs ∧ (∀ t k, newF w.heap.size xs.length Gi k → ¬ Fs t k) ∧
   (cs.size = xs.length → WR T s rv (w.alloc (.cells cs e)) S (.box xs) (.pointer (some ⟨w.heap.size, 0, none⟩)) (newF w.heap.size xs.length Gi)) ∧
   (∀ n c, cs.size = c * T.size e → xs.length = n * T.size e → n ≤ c → c ≤ maxLen →
    WR T s rv (w.alloc (.cells cs e)) S (.own e xs) (.slice (some ⟨w.heap.size, 0, none⟩) n c) (newF w.heap.size xs.length Gi)) := by
 have hw : ∀ k, k < w.heap.size → (w.alloc (.cells cs e)).heap[k]? = w.heap[k]? := fun k hk => heap_old w _ hk
 have hk := Keeps.grow h hw
 have hr := h.grow hw (alloc_le w _)
 have hel' : ∀ i x, xs[i]? = some x → WR T s rv (w.alloc (.cells cs e)) S x (us i) (Gi i) := fun i x hx =>
  (hel i x hx).keep hk (fun k hs => ⟨hs, hw k (h.lt k hs)⟩) (fun k hf => ⟨(hel i x hx).notS k hf, hw k ((hel i x hx).lt k hf)⟩)
 have hb : ∀ i, i < xs.length → ¬ Gi i w.heap.size := fun i hi hg => by
  have := (hel i _ (List.getElem?_eq_getElem hi)).lt _ hg; omega
 have hS : ¬ S w.heap.size := fun hs => by have := h.lt _ hs; omega
 refine ⟨hr, ?_, fun hz => ?_, fun n c hz hn hc hm => ?_⟩
 ·rintro t k (rfl | ⟨i, hi, hg⟩) hf
  ·have := (h.val t).lt _ hf; omega
  ·exact hga i t k hi hg hf
 ·exact .box us Gi (heap_new w _) hz hcs (fun k => Iff.rfl) hb hgd hS hel'
 ·exact .own us Gi (heap_new w _) (by rw [Nat.zero_add]; exact hz) hn hc hm (fun i x hi => by rw [Nat.zero_add]; exact hcs i x hi) (fun k => Iff.rfl) hb hgd hS hel'

theorem zero1_W {V : Place → Nat → Nat → Value → Prop} {Vp : Place → Nat → Nat → Nat → Value → Prop} (t : TypeId) : W T S w V Vp (T.zero1 t) (zeroV T t) (fun _ => False) := by
 have hE : Em (fun _ : Nat => False) := fun _ h => h
 unfold Tys.zero1 zeroV
 cases T.ty t
 ·exact .int hE
 ·exact .bool hE
 ·exact .str hE
 ·exact .own0 hE
 ·exact .undef hE
 ·exact .konst hE
 ·exact .konst hE
 ·exact .undef hE
 ·exact .undef hE

/-- The cells of a type's zero. -/
theorem zeros_W (hT : TyOk P T) {t : TypeId} (hk : T.known t = true) : ∃ z, (∀ w : World, (zeroValue t).run P w = .ok z w) ∧ z.cells.size = (T.zeros t).length ∧ (T.zeros t).length = T.size t ∧
  ∀ (i : Nat) (x : D), (T.zeros t)[i]? = some x → ∃ u, z.cells[i]? = some u ∧ ∀ (S : Nat → Prop) (w : World) (V : Place → Nat → Nat → Value → Prop) (Vp : Place → Nat → Nat → Nat → Value → Prop), W T S w V Vp x u (fun _ => False) := by
 obtain ⟨i, h1, h2, h3, h4⟩ := hT.info hk
 refine ⟨zeroOf T t, fun w => by simp [zeroValue, typeInfo, h1, h4], ?_⟩
 unfold Tys.zeros zeroOf Tys.size
 cases hty : T.ty t with
 | struct fs =>
  simp only [Value.cells, Ty.size]
  refine ⟨by simp, by simp, fun j x hx => ?_⟩
  simp only [List.getElem?_map, Option.map_eq_some_iff] at hx
  obtain ⟨f, hf, rfl⟩ := hx
  exact ⟨zeroV T f, by simp [hf], fun _ _ _ _ => zero1_W f⟩
 | _ =>
  all_goals
   simp only [Ty.size]
   have hc : (zeroV T t).cells = #[zeroV T t] := by unfold zeroV; rw [hty]; rfl
   refine ⟨by rw [hc]; rfl, rfl, fun j x hx => ?_⟩
   cases j with
   | zero => simp at hx; subst hx; exact ⟨zeroV T t, by rw [hc]; rfl, fun _ _ _ _ => zero1_W t⟩
   | succ j => simp at hx

theorem alloc_sound (hT : TyOk P T) (h : Fr T N gh s a w S Fs) {dst : Option Tmp} (hd : dstOk N dst) {t : TypeId} (hk : T.known t = true) :
  ∃ v w', (Instr.alloc t true (.tuple #[])).run P w = .ok v w' ∧ Post T gh N (s.putO dst (.box (T.zeros t))) w S Fs (a.put dst v) w' := by
 obtain ⟨z, hz, hsz, hl, hel⟩ := zeros_W hT hk
 obtain ⟨us, hus⟩ : ∃ us : Nat → Value, ∀ (i : Nat) (x : D), (T.zeros t)[i]? = some x → z.cells[i]? = some (us i) ∧ WR T s (rvOf a gh) w S x (us i) (fun _ => False) := by
  refine ⟨fun i => z.cells.getD i undef, fun i x hx => ?_⟩
  obtain ⟨u, hu, hw⟩ := hel i x hx
  have : z.cells.getD i undef = u := by rw [Array.getD_eq_getD_getElem?, hu]; rfl
  simp only [this]
  exact ⟨hu, hw _ _ _ _⟩
 obtain ⟨hr, hap, hbox, _⟩ := new_obj (e := t) (cs := z.cells) h.rel (Gi := fun _ _ => False) (fun i x hx => (hus i x hx).2) (by simp) (by simp) (fun i x hx => (hus i x hx).1)
 refine ⟨.pointer (some ⟨w.heap.size, 0, none⟩), _, ?_, post_put hr (hbox hsz) (fun t k _ => hap t k) (step_alloc w _ S Fs) ?_ h.defs h.size h.small hd⟩
 ·simp only [Instr.alloc, Sem.run_bind, hz, Result.andThen_ok, newVar, newRow, run_newObj, Sem.run_pure]; rfl
 ·rintro k (rfl | ⟨_, _, hf⟩)
  ·exact .inr (Nat.le_refl _)
  ·exact hf.elim

theorem box_sound (h : Fr T N gh s a w S Fs) {pm : Pm} {dst : Option Tmp} (hd : dstOk N dst) {t : TypeId} {x : Operand} (hx : opdOk N x) {d : D} (ht : take T pm s t x = some (d, s')) :
  ∃ v w', (Instr.box t (a.eval x)).run P w = .ok v w' ∧ Post T gh N (s'.putO dst (.box d.asCells)) w S Fs (a.put dst v) w' := by
 have hsol : solid d = true ∨ ∃ xs, d = .agg xs := by
  unfold take at ht
  cases he : ev T s t x with
  | none => simp [he] at ht
  | some d0 =>
   simp only [he] at ht
   cases x <;> simp only at ht <;> exact takeD_solid ht
 obtain ⟨S', Fs', F, r, hh, hk, hst, hFF, hFs⟩ := take_sound h.rel h.small hx ht
 obtain ⟨us, Gi, h1, h2, h3, h4⟩ := asCells_W hh.val hsol
 obtain ⟨hr, hap, hbox, _⟩ := new_obj (e := t) (cs := (a.eval x).cells) r (fun i y hy => (h2 i y hy).2) (fun i t k hi hg => hh.apart t k ((h3 k).2 ⟨i, hi, hg⟩)) h4 (fun i y hy => (h2 i y hy).1)
 refine ⟨.pointer (some ⟨w.heap.size, 0, none⟩), _, ?_, post_put hr (hbox h1) (fun t k _ => hap t k) (hst.trans (step_alloc w _ _ _)) ?_ h.defs h.size h.small hd⟩
 ·simp only [Instr.box, Sem.run_bind, Result.andThen_ok, newVar, newRow, run_newObj, Sem.run_pure]; rfl
 ·rintro k (rfl | ⟨i, hi, hf⟩)
  ·exact .inr (Nat.le_refl _)
  ·exact .inl (hFF k ((h3 k).2 ⟨i, hi, hf⟩))

theorem box_keep (h : Fr T N gh s a w S Fs) {dst : Option Tmp} (hd : dstOk N dst) {t : TypeId} {x : Operand} (hx : opdOk N x) {ds : List D} (he : keepA (ev T s t x) = some ds) :
  ∃ v w', (Instr.box t (a.eval x)).run P w = .ok v w' ∧ Post T gh N (s.putO dst (.box ds)) w S Fs (a.put dst v) w' := by
 unfold keepA at he
 split at he
 ·rename_i xs hev
  split at he
  ·cases he
  ·rename_i hno
   simp only [Option.some.injEq] at he
   subst he
   have hW := ev_W h.rel h.small hx hev
   have hE := noObj_empty hW (by simpa [D.hasObj] using hno)
   obtain ⟨us, Gi, h1, h2, h3, h4⟩ := asCells_W hW (.inr ⟨xs, rfl⟩)
   simp only [D.asCells] at h1 h2 h3 h4
   obtain ⟨hr, hap, hbox, _⟩ := new_obj (e := t) (cs := (a.eval x).cells) h.rel (fun i y hy => (h2 i y hy).2) (fun i t k hi hg => (hE k ((h3 k).2 ⟨i, hi, hg⟩)).elim) h4 (fun i y hy => (h2 i y hy).1)
   refine ⟨.pointer (some ⟨w.heap.size, 0, none⟩), _, ?_, post_put hr (hbox h1) (fun t k _ => hap t k) (step_alloc w _ _ _) ?_ h.defs h.size h.small hd⟩
   ·simp only [Instr.box, Sem.run_bind, Result.andThen_ok, newVar, newRow, run_newObj, Sem.run_pure]; rfl
   ·rintro k (rfl | ⟨i, hi, hf⟩)
    ·exact .inr (Nat.le_refl _)
    ·exact (hE k ((h3 k).2 ⟨i, hi, hf⟩)).elim
 ·cases he

theorem splice_eq : ∀ (ys xs : List D) (c : Nat), c + ys.length ≤ xs.length → splice xs c ys = xs.take c ++ ys ++ xs.drop (c + ys.length) := by
 intro ys
 induction ys with
 | nil => intro xs c _; simp [splice]
 | cons y ys ih =>
  intro xs c h
  simp only [List.length_cons] at h
  have hlt : c < xs.length := by omega
  rw [splice, ih _ _ (by simp; omega)]
  rw [List.take_add_one, List.take_set_of_le (by omega), List.drop_set_of_lt (by omega)]
  simp [hlt]
  congr 1
  omega

theorem splice_length (xs ys : List D) (c : Nat) (h : c + ys.length ≤ xs.length) : (splice xs c ys).length = xs.length := by
 rw [splice_eq ys xs c h]; simp; omega

theorem splice_get {xs ys : List D} {c : Nat} (h : c + ys.length ≤ xs.length) (i : Nat) : (splice xs c ys)[i]? = if c ≤ i ∧ i < c + ys.length then ys[i - c]? else xs[i]? := by
 rw [splice_eq ys xs c h]
 by_cases h1 : i < c
 ·rw [List.append_assoc, List.getElem?_append_left (by simp; omega), List.getElem?_take_of_lt h1, if_neg (by omega)]
 ·by_cases h2 : i < c + ys.length
  ·rw [List.append_assoc, List.getElem?_append_right (by simp; omega), List.getElem?_append_left (by simp; omega), if_pos ⟨by omega, h2⟩]
   congr 1
   simp; omega
  ·rw [List.getElem?_append_right (by simp; omega), List.getElem?_drop, if_neg (by omega)]
   congr 1
   simp; omega

theorem arr_get {cs : Array Value} {vs : List Value} {c : Nat} (h : c + vs.length ≤ cs.size) (i : Nat) :
  (cs.toList.take c ++ vs ++ cs.toList.drop (c + vs.length)).toArray[i]? = if c ≤ i ∧ i < c + vs.length then vs[i - c]? else cs[i]? := by
 simp only [List.getElem?_toArray]
 by_cases h1 : i < c
 ·rw [List.append_assoc, List.getElem?_append_left (by simp; omega), List.getElem?_take_of_lt h1, if_neg (by omega)]; simp
 ·by_cases h2 : i < c + vs.length
  ·rw [List.append_assoc, List.getElem?_append_right (by simp; omega), List.getElem?_append_left (by simp; omega), if_pos ⟨by omega, h2⟩]
   congr 1
   simp; omega
  ·rw [List.getElem?_append_right (by simp; omega), List.getElem?_drop, if_neg (by omega), Array.getElem?_toList]
   congr 1
   simp; omega


theorem setRow_far (w : World) (g : Nat) (cs : Array Value) {k : Nat} (h : k ≠ g) : (w.setRow g cs).heap[k]? = w.heap[k]? := setRow_other w g k cs h

theorem hasObjs_of {xs : List D} (h : ∀ (i : Nat) (x : D), xs[i]? = some x → x.hasObj = false) : hasObjs xs = false := by
 induction xs with
 | nil => rfl
 | cons d ds ih =>
  simp only [hasObjs, h 0 d rfl, Bool.false_or]
  exact ih fun i x hx => h (i + 1) x (by simpa using hx)

theorem asCells_noObj {d : D} (h : d.hasObj = false) : hasObjs d.asCells = false := by
 cases d <;> simp_all [D.hasObj, D.asCells, hasObjs]

/-- Cells of an object are overwritten. -/
theorem storeG_sound (hT : TyOk P T) (h : Fr T N gh s a w S Fs) {pm : Pm} {t : TypeId} {ax x : Operand} (hax : opdOk N ax) {d : D} {s1 : St}
  (htk : ∃ S' Fs' F, Rel T s1 (rvOf a gh) w S' Fs' ∧ Hand T s1 (rvOf a gh) w S' Fs' d (a.eval x) F ∧ Keeps s w (rvOf a gh) s1 w (rvOf a gh) ∧ Step w S Fs w S' Fs' ∧ (∀ k, F k → ∃ u, Fs u k) ∧ (∀ u k, Fs' u k → Fs u k))
  (hs : opStoreG T pm t ax (some (d, s1)) = some s') :
  ∃ w', (Instr.storeAt t (a.eval ax) (a.eval x)).run P w = .ok () w' ∧ Post T gh N s' w S Fs (a.put none undef) w' := by
 unfold opStoreG at hs
 simp only at hs
 obtain ⟨S1, Fs1, F, r, hh, hk1, hst1, hFF, hFs1⟩ := htk
 cases he : ev T s1 t ax with
 | none => simp [he] at hs
 | some ad =>
  simp only [he] at hs
  cases hA : addrD pm s1 ax ad with
  | none => simp [hA] at hs
  | some q =>
   obtain ⟨L, c, o⟩ := q
   simp only [hA] at hs
   split at hs
   ·rename_i hc
    simp only [Bool.and_eq_true, beq_iff_eq, decide_eq_true_eq] at hc
    obtain ⟨⟨⟨⟨⟨hkn, _⟩, hsol⟩, hsz⟩, hagg⟩, hle⟩ := hc
    simp only [Option.some.injEq] at hs
    have h1 : Fr T N gh s1 a w S1 Fs1 := ⟨r, h.defs, h.size, h.small⟩
    obtain ⟨t', p, rfl, hg, ho, hv, A, hfo, hadr, hev⟩ := addrD_sound h1 hax (ev_W r h.small hax he) (ev_slot he) hA
    obtain ⟨v', Fo, hfo', hWo, hsub, hset, hstab⟩ := r.focus hg
    rw [hfo] at hfo'
    injection hfo' with hfo'
    subst hfo'
    have hsolid : solid d = true ∨ ∃ xs, d = .agg xs := by
     cases d <;> first | exact .inr ⟨_, rfl⟩ | (left; simpa [D.asCells] using hsol)
    obtain ⟨us2, Gi2, hz2, hel2, hF2, hd2⟩ := asCells_W hh.val hsolid
    have hpos := known_pos hkn
    have hne : o.cells ≠ [] := fun h0 => by rw [h0] at hle; simp at hle; omega
    obtain ⟨b, off, cs, te, us, Fi, hb1, hb2, hb3, hb4, hb5, hb6, hb7, hb8, hb9⟩ := objCells hWo ho hne
    rw [hadr] at hb1
    injection hb1 with hb1
    subst hb1
    generalize hvx : a.eval x = vx at *
    have hvl : vx.cells.toList.length = d.asCells.length := by simp [hz2]
    have hone : ∀ u ∈ vx.cells.toList, u.oneCell' = true := fun u hu => by
     obtain ⟨i, hi⟩ := List.getElem?_of_mem hu
     have hlt : i < d.asCells.length := by have := (List.getElem?_eq_some_iff.1 hi).1; omega
     obtain ⟨hci, hwi⟩ := hel2 i _ (List.getElem?_eq_getElem hlt)
     have hs' := List.all_eq_true.1 hsol _ (List.getElem_mem hlt)
     have := (solid_one hwi hs').1
     rw [Array.getElem?_toList, hci] at hi
     injection hi with hi
     rw [← hi]; exact this
    let cs' := (cs.toList.take (off + c) ++ vx.cells.toList ++ cs.toList.drop (off + c + vx.cells.toList.length)).toArray
    have hfit : off + c + vx.cells.toList.length ≤ cs.size := by omega
    have hrun : (Instr.storeAt t (a.eval ax) vx).run P w = .ok () (w.setRow b cs') := by
     rw [hev, add_off]
     have hst := run_storeCells_at P b (off + c) te vx.cells.toList 0 cs w hb2 (by omega) hone
     have hszv : ¬ vx.cells.size ≠ T.size t := by rw [hz2, hsz]; simp
     simp only [Instr.storeAt, Instr.sureAddr, storeVar, Sem.run_bind, Sem.run_pure, Result.andThen_ok, hT.szOf hkn, hszv, if_false, hst]
     rfl
    have hfar : ∀ k, k ≠ b → (w.setRow b cs').heap[k]? = w.heap[k]? := fun k hk => setRow_far w b cs' hk
    have hbF : Fo b := (hb5 b).2 (.inl rfl)
    have hheap : (w.setRow b cs').heap[b]? = some (.cells cs' te (0, 0)) := setRow_heap w b cs cs' te (0, 0) hb2
    have hlen : c + d.asCells.length ≤ o.cells.length := by omega
    refine ⟨_, hrun, ?_⟩
    -- the state behind
    let ys := splice o.cells c d.asCells
    have hys : ys.length = o.cells.length := splice_length _ _ _ hlen
    let us' : Nat → Value := fun i => if c ≤ i ∧ i < c + d.asCells.length then us2 (i - c) else us i
    let Fi' : Nat → Nat → Prop := fun i => if c ≤ i ∧ i < c + d.asCells.length then Gi2 (i - c) else Fi i
    have hsv : s'.v = upd s1.v t' (setp (s1.v t') p (o.withCells ys)) := by
     rw [← hs]
     split <;> rfl
    have hkeep : Keeps s1 w (rvOf a gh) s' (w.setRow b cs') (rvOf a gh) := by
     refine Keeps.inplace r hg ho hsv ?_ ?_ (F := Fo) (fun u k hu hn => hfar k (fun e => hn (e ▸ hbF))) hsub (hstab _ (fun k hu hn => hfar k (fun e => hn (e ▸ hbF))))
     ·rw [← hs]; split <;> rfl
     ·by_cases hob : (d.hasObj || hasObjs o.cells) = true
      ·left; rw [← hs, if_pos hob]; rfl
      ·right
       rw [← hs, if_neg hob]
       refine ⟨rfl, fun _ => ?_, fun hf => ?_⟩
       ·rw [(withCells_obj ho hne).2]
        simp only [Bool.or_eq_true, not_or, Bool.not_eq_true] at hob
        refine hasObjs_of fun i y hy => ?_
        simp only [ys] at hy
        rw [splice_get hlen] at hy
        split at hy
        ·exact hasObjs_get (asCells_noObj hob.1) hy
        ·exact hasObjs_get hob.2 hy
       ·rw [(withCells_obj ho hne).1] at hf; cases hf
    have hnewF : ∀ k u, Fs1 u k → ¬ Fo k → ¬ (k = b ∨ ∃ i, i < ys.length ∧ Fi' i k) := by
     rintro k u hu hn (rfl | ⟨i, hi, hf⟩)
     ·exact hn hbF
     ·by_cases hci : c ≤ i ∧ i < c + d.asCells.length
      ·simp only [Fi', hci, and_self, if_true] at hf
       exact hh.apart u k ((hF2 k).2 ⟨i - c, by omega, hf⟩) hu
      ·simp only [Fi', hci, if_false] at hf
       exact hn ((hb5 k).2 (.inr ⟨i, by omega, hf⟩))
    have hS1b : ∀ k, S1 k → (w.setRow b cs').heap[k]? = w.heap[k]? := fun k hk => hfar k (fun e => hb8 (e ▸ hk))
    have hdb : ∀ i, i < d.asCells.length → ¬ Gi2 i b := fun i hi hf => hh.apart t' b ((hF2 b).2 ⟨i, hi, hf⟩) (hsub b hbF)
    have hnew : WR T s' (rvOf a gh) (w.setRow b cs') S1 (o.withCells ys) hv (fun k => k = b ∨ ∃ i, i < ys.length ∧ Fi' i k) := by
     refine hb9 _ _ _ _ ys cs' us' Fi' _ hys (by simp [cs']; omega) hheap hb8 (fun i y hy => ?_) (fun _ => Iff.rfl) (fun i hi => ?_) (fun i j k hi hj hij => ?_)
     ·rw [splice_get hlen] at hy
      have hci' := arr_get hfit (off + i)
      by_cases hci : c ≤ i ∧ i < c + d.asCells.length
      ·simp only [hci, and_self, if_true] at hy
       obtain ⟨h5, h6⟩ := hel2 _ _ hy
       refine ⟨?_, ?_⟩
       ·show cs'[off + i]? = _
        rw [hci', if_pos (by omega), Array.getElem?_toList, show off + i - (off + c) = i - c by omega, h5]
        simp [us', hci]
       ·simp only [us', Fi', hci, and_self, if_true]
        exact h6.keep hkeep (fun k hk => ⟨hk, hS1b k hk⟩) (fun k hf => ⟨h6.notS k hf, hfar k (fun e => hdb (i - c) (by omega) (e ▸ hf))⟩)
      ·simp only [hci, if_false] at hy
       obtain ⟨h5, h6⟩ := hb4 _ _ hy
       have hi := (List.getElem?_eq_some_iff.1 hy).1
       refine ⟨?_, ?_⟩
       ·show cs'[off + i]? = _
        rw [hci', if_neg (by omega), h5]
        simp [us', hci]
       ·simp only [us', Fi', hci, if_false]
        exact WR.keep h6 hkeep (fun k hk => ⟨hk, hS1b k hk⟩) (fun k hf => ⟨h6.notS k hf, hfar k (fun e => hb6 i hi (e ▸ hf))⟩)
     ·rw [hys] at hi
      by_cases hci : c ≤ i ∧ i < c + d.asCells.length
      ·simp only [Fi', hci, and_self, if_true]; exact hdb _ (by omega)
      ·simp only [Fi', hci, if_false]; exact hb6 i hi
     ·rw [hys] at hi hj
      by_cases hci : c ≤ i ∧ i < c + d.asCells.length <;> by_cases hcj : c ≤ j ∧ j < c + d.asCells.length
      ·simp only [Fi', hci, hcj, and_self, if_true]; exact hd2 _ _ k (by omega) (by omega) (by omega)
      ·simp only [Fi', hci, hcj, and_self, if_true, if_false]
       exact fun hf hf' => hh.apart t' k ((hF2 k).2 ⟨i - c, by omega, hf⟩) (hsub k ((hb5 k).2 (.inr ⟨j, hj, hf'⟩)))
      ·simp only [Fi', hci, hcj, and_self, if_true, if_false]
       exact fun hf hf' => hh.apart t' k ((hF2 k).2 ⟨j - c, by omega, hf'⟩) (hsub k ((hb5 k).2 (.inr ⟨i, hi, hf⟩)))
      ·simp only [Fi', hci, hcj, if_false]; exact hb7 i j k hi hj hij
    have hrel := hset (w.setRow b cs') S1 s' (o.withCells ys) _ hsv (fun k u hu hn => ⟨hfar k (fun e => hn (e ▸ hbF)), (r.val u).notS k hu, hnewF k u hu hn⟩) (fun k hk => ⟨hk, hS1b k hk⟩)
     (fun k hk => by have := r.lt k hk; simpa [World.setRow] using this) hkeep hnew
    refine ⟨S1, _, hrel, ⟨rfl, rfl, rfl, by simp [World.setRow], fun k _ hn => hfar k (fun e => hn t' (e ▸ hFs1 _ _ (hsub b hbF))), hst1.sS, hst1.sS', fun u k hu => ?_⟩, h.defs, h.size⟩
    by_cases hut : u = t'
    ·subst hut
     simp only [upd_same] at hu
     rcases hu with ⟨hu, _⟩ | hb | ⟨i, hi, hf⟩
     ·exact .inl ⟨u, hFs1 _ _ hu⟩
     ·subst hb; exact .inl ⟨u, hFs1 _ _ (hsub _ hbF)⟩
     ·rw [hys] at hi
      by_cases hci : c ≤ i ∧ i < c + d.asCells.length
      ·simp only [Fi', hci, and_self, if_true] at hf
       exact .inl (hFF k ((hF2 k).2 ⟨i - c, by omega, hf⟩))
      ·simp only [Fi', hci, if_false] at hf
       exact .inl ⟨u, hFs1 _ _ (hsub k ((hb5 k).2 (.inr ⟨i, hi, hf⟩)))⟩
    ·rw [upd_other _ _ hut] at hu
     exact .inl ⟨u, hFs1 _ _ hu⟩
   ·cases hs

theorem store_sound (hT : TyOk P T) (h : Fr T N gh s a w S Fs) {pm : Pm} {dst : Option Tmp} (hdst : dst = none) {t : TypeId} {ax x : Operand} (hax : opdOk N ax) (hx : opdOk N x) (hs : opStore T pm s t ax x = some s') :
  ∃ w', (Instr.storeAt t (a.eval ax) (a.eval x)).run P w = .ok () w' ∧ Post T gh N s' w S Fs (a.put dst undef) w' := by
 subst hdst
 unfold opStore at hs
 cases ht : take T pm s t x with
 | none => simp [ht, opStoreG] at hs
 | some q =>
  obtain ⟨d, s1⟩ := q
  rw [ht] at hs
  exact storeG_sound hT h hax (take_sound h.rel h.small hx ht) hs
theorem storeM_sound (hT : TyOk P T) (h : Fr T N gh s a w S Fs) {pm : Pm} {dst : Option Tmp} (hdst : dst = none) {t : TypeId} {ax x : Operand} (hax : opdOk N ax) (hx : opdOk N x) (hs : opStoreG T pm t ax (takeM T pm s t x) = some s') :
  ∃ w', (Instr.storeAt t (a.eval ax) (a.eval x)).run P w = .ok () w' ∧ Post T gh N s' w S Fs (a.put dst undef) w' := by
 subst hdst
 cases ht : takeM T pm s t x with
 | none => simp [ht, opStoreG] at hs
 | some q =>
  obtain ⟨d, s1⟩ := q
  rw [ht] at hs
  exact storeG_sound hT h hax (takeM_sound h.rel h.small hx ht) hs

/-! ### Maps -/
theorem numL_get : ∀ {xs : List D} {l : List Int}, numL xs = some l → l.length = xs.length ∧ ∀ (i : Nat) (x : D), xs[i]? = some x → x = .int .i64 (l.getD i 0)
 | [], l, h => by simp only [numL, Option.some.injEq] at h; subst h; simp
 | d :: ds, l, h => by
  cases d <;> try (simp [numL] at h; done)
  rename_i k n
  cases k <;> try (simp [numL] at h; done)
  simp only [numL, Option.map_eq_some_iff] at h
  obtain ⟨m, hm, rfl⟩ := h
  obtain ⟨h1, h2⟩ := numL_get hm
  refine ⟨by simp [h1], fun i x hx => ?_⟩
  cases i with
  | zero => simp at hx; subst hx; simp
  | succ i => simp at hx; have := h2 i x hx; simpa using this
theorem numsD_W {V : Place → Nat → Nat → Value → Prop} {Vp : Place → Nat → Nat → Nat → Value → Prop} {ag : Bool} {n : Nat} {d : D} {l : List Int} {v : Value} {F : Nat → Prop} (h : W T S w V Vp d v F) (hn : numsD ag n d = some l) : v = numsV ag l ∧ l.length = n := by
 cases h with
 | @int _ _ k m _ h =>
  cases k <;> simp [numsD] at hn
  obtain ⟨⟨rfl, rfl⟩, rfl⟩ := hn
  exact ⟨rfl, rfl⟩
 | @agg _ _ xs vs _ us Fi hz hx hF hd hw =>
  simp only [numsD] at hn
  split at hn
  ·rename_i hc
   obtain ⟨rfl, hl⟩ := hc
   obtain ⟨h1, h2⟩ := numL_get hn
   refine ⟨?_, by omega⟩
   unfold numsV
   rw [if_pos rfl]
   congr 1
   refine Array.ext (by simp; omega) fun i hi hi' => ?_
   have hix : i < xs.length := by omega
   have q1 := hx i _ (List.getElem?_eq_getElem hix)
   have q2 := hw i _ (List.getElem?_eq_getElem hix)
   rw [h2 i _ (List.getElem?_eq_getElem hix)] at q2
   generalize hu : us i = u at q1 q2
   cases q2
   rw [Array.getElem?_eq_getElem hi, Option.some.injEq] at q1
   rw [q1]
   simp at hi'
   simp [List.getD_eq_getElem?_getD, hi']
  ·cases hn
 | _ => simp [numsD] at hn
theorem W_ofNums {V : Place → Nat → Nat → Value → Prop} {Vp : Place → Nat → Nat → Nat → Value → Prop} (ag : Bool) (l : List Int) : W T S w V Vp (ofNums ag l) (numsV ag l) (fun _ => False) := by
 have hE : Em (fun _ : Nat => False) := fun _ h => h
 unfold ofNums numsV
 cases ag
 ·exact .int hE
 ·rw [if_pos rfl, if_pos rfl]
  refine .agg (fun i => .int .i64 (l.getD i 0)) (fun _ _ => False) (by simp) (fun i x hx => ?_) (by simp) (by simp) (fun i x hx => ?_)
  ·have hi := (List.getElem?_eq_some_iff.1 hx).1
   simp at hi
   simp [List.getD_eq_getElem?_getD, hi]
  ·simp only [List.getElem?_map, Option.map_eq_some_iff] at hx
   obtain ⟨y, hy, rfl⟩ := hx
   simp only [List.getD_eq_getElem?_getD, hy, Option.getD_some]
   exact .int hE
theorem nums_spec {t : TypeId} {ag : Bool} {n : Nat} (h : T.nums t = some (ag, n)) : (ag = false ∧ n = 1 ∧ T.ty t = .int .i64) ∨ (ag = true ∧ n = 2 ∧ ∃ a b, T.ty t = .struct [a, b] ∧ T.ty a = .int .i64 ∧ T.ty b = .int .i64) := by
 unfold Tys.nums at h
 split at h
 ·rename_i ht; injection h with h; injection h with h1 h2; exact .inl ⟨h1.symm, h2.symm, ht⟩
 ·rename_i a b ht
  split at h
  ·rename_i h1 h2 h3
   injection h with h; injection h with h4 h5; exact .inr ⟨h4.symm, h5.symm, a, b, ht, h1, h2⟩
  ·cases h
 ·cases h
theorem int_under (hT : TyOk P T) {t : TypeId} {k : IntKind} (ht : T.ty t = .int k) : P.underlying t = some (.int k) := by
 have h0 := (hT t).1
 unfold TyFact at h0
 rw [ht] at h0
 exact h0.1
theorem check_int {t : TypeId} {k : IntKind} (hu : P.underlying t = some (.int k)) (em : Bool) (n : Nat) (x : Int) (w : World) : (Instr.checkKey em (n + 1) t (.int k x)).run P w = .ok () w := by
 simp [Instr.checkKey, run_underlying hu]
theorem check_pair {t : TypeId} {f0 f1 : Field} {k l : IntKind} (hu : P.underlying t = some (.struct #[f0, f1])) (o0 : f0.offset = 0) (o1 : f1.offset = 1) (u0 : P.underlying f0.type = some (.int k)) (u1 : P.underlying f1.type = some (.int l))
  (n0 : f0.name ≠ "_") (n1 : f1.name ≠ "_") (em : Bool) (n : Nat) (x y : Int) (w : World) : (Instr.checkKey em (n + 2) t (.agg #[.int k x, .int l y])).run P w = .ok () w := by
 have e0 : ∀ w : World, (isAgg f0.type).run P w = .ok false w := fun w => by simp [Go.isAgg, run_underlying u0]
 have e1 : ∀ w : World, (isAgg f1.type).run P w = .ok false w := fun w => by simp [Go.isAgg, run_underlying u1]
 have c0 := fun w : World => check_int u0 em n x w
 have c1 := fun w : World => check_int u1 em n y w
 rw [Instr.checkKey]
 simp [run_underlying hu, n0, n1, part, e0, e1, o0, o1, c0, c1]
theorem nums_check (hT : TyOk P T) {t : TypeId} {ag : Bool} {n : Nat} (h : T.nums t = some (ag, n)) (em : Bool) {l : List Int} (hl : l.length = n) (w : World) : (Instr.checkKey em 10000 t (numsV ag l)).run P w = .ok () w := by
 rcases nums_spec h with ⟨rfl, rfl, ht⟩ | ⟨rfl, rfl, a, b, ht, ha, hb⟩
 ·exact check_int (int_under hT ht) em 9999 _ w
 ·obtain ⟨f0, f1, hu, o0, o1, u0, u1, n0, n1, _, _⟩ := hT.cmp ht ha hb
  rcases l with _ | ⟨x, _ | ⟨y, _ | ⟨_, _⟩⟩⟩ <;> simp at hl
  exact check_pair hu o0 o1 u0 u1 n0 n1 em 9998 x y w
theorem nums_equal (hT : TyOk P T) {t : TypeId} {ag : Bool} {n : Nat} (h : T.nums t = some (ag, n)) {a b : List Int} (ha : a.length = n) (hb : b.length = n) (w : World) : (Op.equal t (numsV ag a) (numsV ag b)).run P w = .ok (a == b) w := by
 rcases nums_spec h with ⟨rfl, rfl, ht⟩ | ⟨rfl, rfl, x, y, ht, hx, hy⟩
 ·rcases a with _ | ⟨p, _ | ⟨_, _⟩⟩ <;> simp at ha
  rcases b with _ | ⟨q, _ | ⟨_, _⟩⟩ <;> simp at hb
  have := run_equalIn_int (P := P) w 9999 t .i64 .i64 p q (int_under hT ht)
  have e : ([p] == [q]) = (p == q) := by simp
  rw [e]
  exact this
 ·obtain ⟨f0, f1, hu, o0, o1, u0, u1, n0, n1, q1, _⟩ := hT.cmp ht hx hy
  rcases a with _ | ⟨p, _ | ⟨p', _ | ⟨_, _⟩⟩⟩ <;> simp at ha
  rcases b with _ | ⟨q, _ | ⟨q', _ | ⟨_, _⟩⟩⟩ <;> simp at hb
  have := run_equal2 (P := P) hu o0 o1 u0 u1 n0 n1 q1 p p' q q' w
  have e : ([p, p'] == [q, q']) = ((p == q) && (p' == q')) := by simp
  rw [e]
  exact this
def fndL (key : List Int) : List (List Int × List Int) → Nat → Option (Nat × List Int)
 | [], _ => none
 | p :: ps, i => if (key == p.1) = true then some (i, p.2) else fndL key ps (i + 1)
theorem fndL_spec (key : List Int) : ∀ (es : List (List Int × List Int)) (i : Nat),
  (fndL key es i = none ∧ es.findIdx? (fun p => p.1 == key) = none ∧ es.find? (fun p => p.1 == key) = none) ∨
  ∃ j l, fndL key es i = some (i + j, l) ∧ es.findIdx? (fun p => p.1 == key) = some j ∧ es.find? (fun p => p.1 == key) = some (key, l) ∧ es[j]? = some (key, l)
 | [], i => .inl ⟨rfl, rfl, rfl⟩
 | p :: ps, i => by
  obtain ⟨a, b⟩ := p
  by_cases h : a = key
  ·subst h
   refine .inr ⟨0, b, ?_, ?_, ?_, rfl⟩
   ·simp [fndL]
   ·simp [List.findIdx?_cons]
   ·simp
  ·have h1 : (a == key) = false := by simpa using h
   have h2 : (key == a) = false := by simpa using fun e => h e.symm
   rcases fndL_spec key ps (i + 1) with ⟨q1, q2, q3⟩ | ⟨j, l, q1, q2, q3, q4⟩
   ·exact .inl ⟨by simp [fndL, h2, q1], by simp [List.findIdx?_cons, h1, q2], by simp only [List.find?_cons, h1]; exact q3⟩
   ·exact .inr ⟨j + 1, l, by simp [fndL, h2, q1]; omega, by simp [List.findIdx?_cons, h1, q2], by simp only [List.find?_cons, h1]; exact q3, by simpa using q4⟩
theorem findAsking_run (hT : TyOk P T) {t : TypeId} {ag ea : Bool} {n : Nat} (h : T.nums t = some (ag, n)) {key : List Int} (hk : key.length = n) (w : World) : ∀ (ents : List MapEntry) (es : List (List Int × List Int)) (i : Nat),
  ents.map (fun x => (x.key, x.val)) = es.map (fun p => (numsV ag p.1, numsV ea p.2)) → (∀ p ∈ es, p.1.length = n) →
  (Instr.findAsking t (numsV ag key) ents i).run P w = .ok ((fndL key es i).map fun r => (r.1, numsV ea r.2)) w
 | [], es, i, he, _ => by
  cases es with
  | nil => rfl
  | cons p ps => simp at he
 | x :: xs, es, i, he, hl => by
  cases es with
  | nil => simp at he
  | cons p ps =>
   simp only [List.map_cons, List.cons.injEq, Prod.mk.injEq] at he
   obtain ⟨⟨h1, h2⟩, h3⟩ := he
   have q := nums_equal hT h hk (hl p List.mem_cons_self) w
   have ih := findAsking_run hT h hk w xs ps (i + 1) h3 (fun y hy => hl y (List.mem_cons_of_mem _ hy))
   simp only [Instr.findAsking, Sem.run_bind, h1, q, Result.andThen_ok, fndL]
   cases hb : (key == p.1)
   ·simp [ih]
   ·simp [h2]
theorem findNow_run {x : Int} {ea : Bool} : ∀ (ents : List MapEntry) (es : List (List Int × List Int)) (i : Nat),
  ents.map (fun x => (x.key, x.val)) = es.map (fun p => (numsV false p.1, numsV ea p.2)) → (∀ p ∈ es, p.1.length = 1) →
  Instr.findNow (.int .i64) (.int .i64 x) ents i = some ((fndL [x] es i).map fun r => (r.1, numsV ea r.2))
 | [], es, i, he, _ => by
  cases es with
  | nil => rfl
  | cons p ps => simp at he
 | y :: ys, es, i, he, hl => by
  cases es with
  | nil => simp at he
  | cons p ps =>
   simp only [List.map_cons, List.cons.injEq, Prod.mk.injEq] at he
   obtain ⟨⟨h1, h2⟩, h3⟩ := he
   have hp := hl p List.mem_cons_self
   obtain ⟨a, b⟩ := p
   rcases a with _ | ⟨z, _ | ⟨_, _⟩⟩ <;> simp at hp
   have ih := findNow_run (x := x) ys ps (i + 1) h3 (fun y hy => hl y (List.mem_cons_of_mem _ hy))
   have e : ([x] == [z]) = (x == z) := by simp
   simp only [Instr.findNow, h1, numsV, if_neg Bool.false_ne_true, List.headD_cons, Instr.sameNow, if_true, fndL, e]
   cases hb : (x == z)
   ·exact ih
   ·simp only [if_true, h2, Option.map_some]; rfl
theorem nums_find (hT : TyOk P T) {t : TypeId} {ag ea : Bool} {n : Nat} (h : T.nums t = some (ag, n)) {key : List Int} (hk : key.length = n) (w : World) (ents : List MapEntry) (es : List (List Int × List Int))
  (he : ents.map (fun x => (x.key, x.val)) = es.map (fun p => (numsV ag p.1, numsV ea p.2))) (hl : ∀ p ∈ es, p.1.length = n) :
  (Instr.findKey t (numsV ag key) ents).run P w = .ok ((fndL key es 0).map fun r => (r.1, numsV ea r.2)) w := by
 have h2 := findAsking_run hT h hk w ents es 0 he hl
 rcases nums_spec h with ⟨rfl, rfl, ht⟩ | ⟨rfl, rfl, a, b, ht, ha, hb⟩
 ·rcases key with _ | ⟨x, _ | ⟨_, _⟩⟩ <;> simp at hk
  have := findNow_run (x := x) ents es 0 he hl
  simp [Instr.findKey, run_underlying (int_under hT ht), numsV, this]
 ·obtain ⟨f0, f1, hu, _⟩ := hT.cmp ht ha hb
  cases ents with
  | nil =>
   cases es with
   | nil => simp [Instr.findKey, run_underlying hu, Instr.findNow, fndL]
   | cons p ps => simp at he
  | cons y ys =>
   have : Instr.findNow (.struct #[f0, f1]) (numsV true key) (y :: ys) 0 = none := by simp [Instr.findNow, Instr.sameNow, numsV]
   simp only [Instr.findKey, Sem.run_bind, run_underlying hu, Result.andThen_ok, this]
   exact h2
theorem same_int {n : Nat} {k : IntKind} {x : Int} : Instr.sameBits n (.int k x) (.int k x) = true := by simp [Instr.sameBits]
theorem nums_stays (ag : Bool) (l : List Int) (w : World) : (Instr.keyThatStays (numsV ag l) (numsV ag l)).run P w = .ok (numsV ag l) w := by
 have : Instr.sameBits 10000 (numsV ag l) (numsV ag l) = true := by
  unfold numsV
  cases ag
  ·exact same_int
  ·rw [if_pos rfl, show (10000 : Nat) = 9999 + 1 from rfl]
   simp only [Instr.sameBits, beq_self_eq_true, Bool.true_and]
   rw [List.all_eq_true]
   rintro ⟨x, y⟩ hx
   have hz : ∀ (m : List Value), (∀ v ∈ m, ∃ i, v = Value.int .i64 i) → ∀ p ∈ m.zip m, Instr.sameBits 9999 p.1 p.2 = true := by
    intro m
    induction m with
    | nil => intro _ p hp; simp at hp
    | cons v m ih =>
     intro hv p hp
     rw [List.zip_cons_cons, List.mem_cons] at hp
     rcases hp with rfl | hp
     ·obtain ⟨i, rfl⟩ := hv v List.mem_cons_self
      exact same_int
     ·exact ih (fun u hu => hv u (List.mem_cons_of_mem _ hu)) p hp
   refine hz _ ?_ (x, y) hx
   intro v hv
   simp only [List.mem_map] at hv
   obtain ⟨i, _, rfl⟩ := hv
   exact ⟨i, rfl⟩
 simp [Instr.keyThatStays, this]
theorem nums_zero (hT : TyOk P T) {t : TypeId} {ag : Bool} {n : Nat} (h : T.nums t = some (ag, n)) (w : World) : (zeroValue t).run P w = .ok (numsV ag (List.replicate n 0)) w := by
 have hk : T.known t = true := by
  rcases nums_spec h with ⟨_, _, ht⟩ | ⟨_, _, a, b, ht, _, _⟩ <;> simp [Tys.known, ht]
 obtain ⟨i, h1, _, _, h4⟩ := hT.info hk
 have : zeroOf T t = numsV ag (List.replicate n 0) := by
  rcases nums_spec h with ⟨rfl, rfl, ht⟩ | ⟨rfl, rfl, a, b, ht, ha, hb⟩
  ·simp [zeroOf, ht, zeroV, numsV]
  ·simp [zeroOf, ht, zeroV, ha, hb, numsV]
 simp [zeroValue, typeInfo, h1, h4, this]
/-- Where a map lies. -/
theorem mapD_sound (h : Fr T N gh s a w S Fs) {pm : Pm} {x : Operand} (hx : opdOk N x) {tt : TypeId} {d : D} (he : ev T s tt x = some d) {k e : TypeId} {es : List (List Int × List Int)} {L : Place} (hm : mapD pm s x d = some (k, e, es, L)) :
  ∃ u, L = [u] ∧ s.v u = .mp k e es ∧ a.eval x = rvOf a gh u := by
 have hW := ev_W h.rel h.small hx he
 unfold mapD at hm
 split at hm
 ·split at hm
  ·rename_i u
   simp only [Option.some.injEq, Prod.mk.injEq] at hm
   obtain ⟨rfl, rfl, rfl, rfl⟩ := hm
   exact ⟨u, rfl, by simpa [ev] using he, eval_tmp (a := a) (gh := gh) h.small hx⟩
  ·cases hm
 ·rename_i L' n m
  simp only [Option.map_eq_some_iff, Prod.mk.injEq] at hm
  obtain ⟨⟨k', e', es'⟩, hl, rfl, rfl, rfl, rfl⟩ := hm
  unfold St.lookM at hl
  split at hl
  ·rename_i t
   split at hl
   ·rename_i hc
    simp only [Bool.and_eq_true, beq_iff_eq] at hc
    split at hl
    ·rename_i k2 e2 es2 hs
     simp only [Option.some.injEq, Prod.mk.injEq] at hl
     obtain ⟨rfl, rfl, rfl⟩ := hl
     cases hW with
     | vw hE hv =>
      have hf := hv.2 ⟨t, [], _, rfl, hc.2, .inl rfl, rfl, by rw [hs]; rfl⟩
      simp only [foll, followV, Option.some.injEq] at hf
      exact ⟨t, rfl, hs, hf.symm⟩
    ·cases hl
   ·cases hl
  ·cases hl
 ·cases hm
theorem makeMap_sound (h : Fr T N gh s a w S Fs) {dst : Option Tmp} (hd : dstOk N dst) {t : TypeId} {r : D} (hm : opMakeMap T t = some r) :
  ∃ v w', (Instr.makeMap t none).run P w = .ok v w' ∧ Post T gh N (s.putO dst r) w S Fs (a.put dst v) w' := by
 unfold opMakeMap at hm
 split at hm
 ·rename_i k e ht
  split at hm
  ·rename_i hc
   simp only [Option.some.injEq] at hm
   subst hm
   rw [Bool.and_eq_true, Option.isSome_iff_exists, Option.isSome_iff_exists] at hc
   obtain ⟨⟨⟨ka, kn⟩, hka⟩, ⟨⟨ea, en⟩, hea⟩⟩ := hc
   have hw : ∀ k, k < w.heap.size → (w.alloc (.map #[] 0)).heap[k]? = w.heap[k]? := fun k hk => heap_old w _ hk
   have hr := h.rel.grow hw (alloc_le w _)
   have hS : ¬ S w.heap.size := fun hs => by have := h.rel.lt _ hs; omega
   refine ⟨.map (some w.heap.size), w.alloc (.map #[] 0), rfl, post_put (F := fun j => j = w.heap.size) hr (.mp hka hea (heap_new w _) rfl (by simp) (fun _ => Iff.rfl) hS) ?_ (step_alloc w _ S Fs) ?_ h.defs h.size h.small hd⟩
   ·rintro t' k' _ rfl hf
    have := (h.rel.val t').lt _ hf; omega
   ·rintro k' rfl; exact .inr (Nat.le_refl _)
  ·cases hm
 ·cases hm
theorem mp_inv {k e : TypeId} {es : List (List Int × List Int)} {V : Place → Nat → Nat → Value → Prop} {Vp : Place → Nat → Nat → Nat → Value → Prop} {v : Value} {F : Nat → Prop} (h : W T S w V Vp (.mp k e es) v F) {ka ea : Bool} {kn en : Nat} (hka : T.nums k = some (ka, kn)) (hea : T.nums e = some (ea, en)) :
  ∃ b ents clock, v = .map (some b) ∧ w.heap[b]? = some (.map ents clock) ∧ ents.toList.map (fun x => (x.key, x.val)) = es.map (fun p => (numsV ka p.1, numsV ea p.2)) ∧ (∀ p ∈ es, p.1.length = kn ∧ p.2.length = en) ∧ (∀ j, F j ↔ j = b) ∧ ¬ S b := by
 cases h with
 | mp hka' hea' hb hes hl hF hS =>
  rw [hka] at hka'
  rw [hea] at hea'
  injection hka' with hka'
  injection hea' with hea'
  injection hka' with q1 q2
  injection hea' with q3 q4
  subst q1 q2 q3 q4
  exact ⟨_, _, _, rfl, hb, hes, hl, hF, hS⟩
theorem map_under (hT : TyOk P T) {t k e : TypeId} (ht : T.ty t = .map k e) : P.underlying t = some (.map k e) := by
 have h0 := (hT t).1
 unfold TyFact at h0
 rw [ht] at h0
 exact h0
theorem lookup_sound (hT : TyOk P T) (h : Fr T N gh s a w S Fs) {pm : Pm} {dst : Option Tmp} (hd : dstOk N dst) {t tt ti : TypeId} {x y : Operand} (hx : opdOk N x) (hy : opdOk N y) {d i r : D} {ok : Bool} (he : ev T s tt x = some d) (hi : ev T s ti y = some i)
  (hl : opLookup T pm s t x d i ok = some r) : ∃ v, (Instr.lookup t (a.eval x) (a.eval y) ok).run P w = .ok v w ∧ Post T gh N (s.putO dst r) w S Fs (a.put dst v) w := by
 unfold opLookup at hl
 split at hl
 ·rename_i k e k' e' es L ht hm
  obtain ⟨u, rfl, hs, hev⟩ := mapD_sound h hx he hm
  split at hl
  ·rename_i ka kn ea en hka hea
   split at hl
   ·rename_i hc
    obtain ⟨rfl, rfl⟩ := hc
    simp only [Option.map_eq_some_iff] at hl
    obtain ⟨key, hkey, rfl⟩ := hl
    obtain ⟨hky, hkl⟩ := numsD_W (ev_W h.rel h.small hy hi) hkey
    obtain ⟨v', F', hfo, hW, _⟩ := h.rel.focus (t := u) (p := []) (d := .mp k' e' es) (by rw [getp, hs])
    simp only [foll, followV, Option.some.injEq] at hfo
    subst hfo
    obtain ⟨b, ents, clock, hv, hb, hes, hlen, hF, hSb⟩ := mp_inv hW hka hea
    have hfind := nums_find (ea := ea) hT hka hkl w ents.toList es hes (fun p hp => (hlen p hp).1)
    have hchk := nums_check hT hka ents.isEmpty hkl w
    have hz := nums_zero hT hea w
    have hval : WR T s (rvOf a gh) w S (ofNums ea (getM es key en).1) (numsV ea (getM es key en).1) (fun _ => False) := W_ofNums ea _
    have hrun : (Instr.lookup t (a.eval x) (a.eval y) ok).run P w = .ok (if ok = true then .tuple #[numsV ea (getM es key en).1, .bool (getM es key en).2] else numsV ea (getM es key en).1) w := by
     rw [hev, hv, hky]
     rcases fndL_spec key es 0 with ⟨q1, _, q3⟩ | ⟨j, l, q1, _, q3, _⟩
     ·have g : getM es key en = (List.replicate en 0, false) := by simp [getM, q3]
      rw [g]
      rw [q1] at hfind
      simp [Instr.lookup, run_underlying (map_under hT ht), MapKept.run_getObj_map hb, hchk, hfind, hz]
     ·have g : getM es key en = (l, true) := by simp [getM, q3]
      rw [g]
      rw [q1] at hfind
      simp [Instr.lookup, run_underlying (map_under hT ht), MapKept.run_getObj_map hb, hchk, hfind]
    refine ⟨_, hrun, ?_⟩
    cases ok
    ·exact post_val h hd hval (fun _ h => h)
    ·refine post_val h hd (F := fun _ => False) (.tup (fun i => if i = 0 then numsV ea (getM es key en).1 else .bool (getM es key en).2) (fun _ _ => False) rfl (fun i x hx => ?_) (by simp) (by simp) (fun i x hx => ?_)) (fun _ h => h)
     ·rcases i with _ | _ | i <;> simp at hx ⊢
     ·rcases i with _ | _ | i <;> simp at hx
      ·subst hx; exact hval
      ·subst hx; exact .bool (fun _ h => h)
   ·cases hl
  ·cases hl
 ·cases hl
theorem mapUp_sound (hT : TyOk P T) (h : Fr T N gh s a w S Fs) {pm : Pm} {t tt ti tv : TypeId} {x y z : Operand} (hx : opdOk N x) (hy : opdOk N y) (hz : opdOk N z) {d i v : D} (he : ev T s tt x = some d) (hi : ev T s ti y = some i) (hv : ev T s tv z = some v)
  (hs : opMapUp T pm s t x d i v = some s') : ∃ w', (Instr.mapUpdate t (a.eval x) (a.eval y) (a.eval z)).run P w = .ok () w' ∧ Post T gh N s' w S Fs (a.put none undef) w' := by
 unfold opMapUp at hs
 split at hs
 ·rename_i k e k' e' es L ht hm
  obtain ⟨u, rfl, hsu, hev⟩ := mapD_sound h hx he hm
  split at hs
  ·rename_i ka kn ea en hka hea
   split at hs
   ·rename_i hc
    obtain ⟨rfl, rfl, _⟩ := hc
    split at hs
    ·rename_i key val hkey hval
     simp only [Option.some.injEq] at hs
     subst hs
     obtain ⟨hky, hkl⟩ := numsD_W (ev_W h.rel h.small hy hi) hkey
     obtain ⟨hvz, hvl⟩ := numsD_W (ev_W h.rel h.small hz hv) hval
     have hg : getp (s.v u) [] = some (.mp k' e' es) := by rw [getp, hsu]
     obtain ⟨v', F', hfo, hW, hsub, hset, hstab⟩ := h.rel.focus (t := u) (p := []) hg
     simp only [foll, followV, Option.some.injEq] at hfo
     subst hfo
     obtain ⟨b, ents, clock, hvm, hb, hes, hlen, hF, hSb⟩ := mp_inv hW hka hea
     have hfind := nums_find (ea := ea) hT hka hkl w ents.toList es hes (fun p hp => (hlen p hp).1)
     have hchk := nums_check hT hka false hkl w
     have hsz : es.length = ents.size := by have := congrArg List.length hes; simpa using this.symm
     -- the map behind
     obtain ⟨ents', clock', hrun, hes'⟩ : ∃ (ents' : Array MapEntry) (clock' : Nat), (Instr.mapUpdate t (a.eval x) (a.eval y) (a.eval z)).run P w = .ok () { w with heap := w.heap.setIfInBounds b (.map ents' clock') } ∧
       ents'.toList.map (fun x => (x.key, x.val)) = (putM es key val).map (fun p => (numsV ka p.1, numsV ea p.2)) := by
      rw [hev, hvm, hky, hvz]
      rcases fndL_spec key es 0 with ⟨q1, q2, _⟩ | ⟨j, l, q1, q2, _, q4⟩
      ·rw [q1] at hfind
       refine ⟨ents.push { key := numsV ka key, val := numsV ea val, born := clock }, clock + 1, ?_, ?_⟩
       ·simp [Instr.mapUpdate, run_underlying (map_under hT ht), MapKept.run_getObj_map hb, hchk, hfind, MapKept.run_setObj_map _ hb]
       ·simp [putM, q2, hes]
      ·rw [q1] at hfind
       rw [Nat.zero_add] at hfind
       have hj : j < ents.size := by have := (List.getElem?_eq_some_iff.1 q4).1; omega
       have hkj : ents[j].key = numsV ka key := by
        have h1 := congrArg (fun l => l[j]?) hes
        simp [q4, hj] at h1
        exact h1.1
       refine ⟨ents.modify j fun e => { e with key := numsV ka key, val := numsV ea val }, clock, ?_, ?_⟩
       ·simp [Instr.mapUpdate, run_underlying (map_under hT ht), MapKept.run_getObj_map hb, hchk, hfind, hj, hkj, nums_stays, MapKept.run_setObj_map _ hb]
       ·simp only [putM, q2]
        refine List.ext_getElem? fun i => ?_
        have h1 := congrArg (fun l => l[i]?) hes
        simp only [List.getElem?_map] at h1
        simp only [List.getElem?_map, List.getElem?_set]
        by_cases hij : j = i
        ·subst hij
         rw [if_pos rfl, if_pos (by omega)]
         simp [Array.getElem?_modify, hj]
        ·rw [if_neg hij]
         rw [← h1]
         simp [Array.getElem?_modify, hij]
     refine ⟨_, hrun, ?_⟩
     have hbF : F' b := (hF b).2 rfl
     have hfar : ∀ k, k ≠ b → ({ w with heap := w.heap.setIfInBounds b (.map ents' clock') } : World).heap[k]? = w.heap[k]? := fun k hk => by simp [Array.getElem?_setIfInBounds, Ne.symm hk]
     have hbl : b < w.heap.size := lt_of_heap hb
     have hnewb : ({ w with heap := w.heap.setIfInBounds b (.map ents' clock') } : World).heap[b]? = some (.map ents' clock') := by simp [Array.getElem?_setIfInBounds, hbl]
     have hlen' : ∀ p ∈ putM es key val, p.1.length = kn ∧ p.2.length = en := by
      intro p hp
      unfold putM at hp
      split at hp
      ·rcases List.mem_or_eq_of_mem_set hp with hp | rfl
       ·exact hlen p hp
       ·exact ⟨hkl, hvl⟩
      ·rcases List.mem_append.1 hp with hp | hp
       ·exact hlen p hp
       ·rw [List.mem_singleton] at hp; subst hp; exact ⟨hkl, hvl⟩
     have hkeep : Keeps s w (rvOf a gh) (s.set [u] (.mp k' e' (putM es key val))) { w with heap := w.heap.setIfInBounds b (.map ents' clock') } (rvOf a gh) := by
      refine Keeps.inplace h.rel hg rfl rfl rfl (.inr ⟨rfl, fun _ => rfl, fun hf => by cases hf⟩) (F := F') (fun u k hu hn => hfar k (fun e => hn (e ▸ hbF))) hsub (hstab _ (fun k hu hn => hfar k (fun e => hn (e ▸ hbF))))
     have hnew : WR T (s.set [u] (.mp k' e' (putM es key val))) (rvOf a gh) { w with heap := w.heap.setIfInBounds b (.map ents' clock') } S (.mp k' e' (putM es key val)) (rvOf a gh u) F' := by
      rw [hvm]
      exact .mp hka hea hnewb hes' hlen' hF hSb
     have hrel := hset _ S _ _ F' rfl (fun k u hu hn => ⟨hfar k (fun e => hn (e ▸ hbF)), (h.rel.val u).notS k hu, hn⟩) (fun k hk => ⟨hk, hfar k (fun e => hSb (e ▸ hk))⟩)
      (fun k hk => by have := h.rel.lt k hk; simpa using this) hkeep hnew
     refine ⟨S, _, hrel, ⟨rfl, rfl, rfl, by simp, fun k _ hn => hfar k (fun e => hn u (e ▸ hsub b hbF)), fun _ h => h, fun _ h => .inl h, fun u' k hu => ?_⟩, h.defs, h.size⟩
     by_cases hut : u' = u
     ·subst hut
      simp only [upd_same] at hu
      rcases hu with ⟨hu, _⟩ | hu
      ·exact .inl ⟨u', hu⟩
      ·exact .inl ⟨u', hsub k hu⟩
     ·rw [upd_other _ _ hut] at hu
      exact .inl ⟨u', hu⟩
    ·cases hs
   ·cases hs
  ·cases hs
 ·cases hs
theorem lenM_sound (hT : TyOk P T) (h : Fr T N gh s a w S Fs) {pm : Pm} {dst : Option Tmp} (hd : dstOk N dst) {t tt : TypeId} {x : Operand} (hx : opdOk N x) {d r : D} (ty : TypeId)
  (he : ev T s tt x = some d) (hl : lenM T pm s t x d = some r) :
  ∃ v, (Builtin.len_ #[t] ty #[a.eval x]).run P w = .ok v w ∧ Post T gh N (s.putO dst r) w S Fs (a.put dst v) w := by
 unfold lenM at hl
 split at hl
 ·rename_i k0 e0 k e es L ht hm
  simp only [Option.some.injEq] at hl
  subst hl
  obtain ⟨u, rfl, hs, hev⟩ := mapD_sound h hx he hm
  obtain ⟨v', F', hfo, hW, _⟩ := h.rel.focus (t := u) (p := []) (d := .mp k e es) (by rw [getp, hs])
  simp only [foll, followV, Option.some.injEq] at hfo
  subst hfo
  rw [hev]
  generalize rvOf a gh u = v at hW ⊢
  cases hW with
  | mp hka hea hb hes hl hF hS =>
   have hsz := congrArg List.length hes
   simp only [List.length_map, Array.length_toList] at hsz
   refine ⟨.int .i64 es.length, ?_, post_val h hd (F := fun _ => False) (.int (fun _ h => h)) (fun _ h => h)⟩
   simp [Builtin.len_, run_underlying (map_under hT ht), MapKept.run_getObj_map hb, goInt, hsz]
 ·cases hl
theorem lnM_sound (hT : TyOk P T) (h : Fr T N gh s a w S Fs) {pm : Pm} {dst : Option Tmp} (hd : dstOk N dst) {t tt : TypeId} {x : Operand} (hx : opdOk N x) {d r : D} (ty : TypeId)
  (he : ev T s tt x = some d) (hl : opLnM T pm s t x d = some r) :
  ∃ v, (Builtin.len_ #[t] ty #[a.eval x]).run P w = .ok v w ∧ Post T gh N (s.putO dst r) w S Fs (a.put dst v) w := by
 unfold opLnM at hl
 split at hl
 ·exact lenM_sound hT h hd hx ty he hl
 ·split at hl
  ·exact lenM_sound hT h hd hx ty he hl
  ·exact ln_sound hT h hd hx ty he hl
 ·exact ln_sound hT h hd hx ty he hl
end
end Dv
/- Value semantics for Go code: append. Conditions: the types are what the table says. -/
namespace Dv
open Go

section
variable {P : Program} {T : Tys} {s s' : St} {gh : Nat → Value} {a : Act} {w w' : World} {S : Nat → Prop} {Fs : Nat → Nat → Prop} {N : Nat}

/-- A state in a world that has turned elsewhere. -/
theorem Rel.world {rv : Nat → Value} (h : Rel T s rv w S Fs) (hS : ∀ k, S k → w'.heap[k]? = w.heap[k]?) (hF : ∀ u k, Fs u k → w'.heap[k]? = w.heap[k]?) (hsz : w.heap.size ≤ w'.heap.size) :
  Keeps s w rv s w' rv ∧ Rel T s rv w' S Fs := by
 have hk : Keeps s w rv s w' rv := by
  refine ⟨fun _ => Nat.le_refl _, fun _ => Nat.le_refl _, fun L n m _ hva => ⟨hva, ?_⟩⟩
  obtain ⟨t, q, x, rfl, h1, h2, h3, h4⟩ := hva
  simp only [foll]
  exact (h.val t).follow_frame (fun k hf => hF t k hf) x h3
 exact ⟨hk, fun t => (h.val t).keep hk (fun k hs => ⟨hs, hS k hs⟩) (fun k hf => ⟨(h.val t).notS k hf, hF t k hf⟩), h.disj, fun k hs => Nat.lt_of_lt_of_le (h.lt k hs) hsz⟩

theorem run_append_zero (hT : TyOk P T) {t e : TypeId} (ht : T.ty t = .slice e) (hk : T.known e = true) (ty : TypeId) {A B : Option Addr} {n cap c : Nat} (hn : n ≤ cap) (w : World) :
  (Builtin.append_ #[t, t] ty #[.slice B n cap, .slice A 0 c]).run P w = .ok (.slice B n cap) w := by
 cases B <;> cases A <;> simp [Builtin.append_, run_underlying (hT.slice ht), hT.szOf hk, Builtin.lenOf, Builtin.firstCells, hn, storeCells, loadCells, loadCellsFrom]

theorem run_append_cap0 (hT : TyOk P T) {t e : TypeId} (ht : T.ty t = .slice e) (hk : T.known e = true) (h4e : T.size e ≤ 4) (ty : TypeId) {A : Option Addr} {ad : Addr} {m c : Nat} (hm : 0 < m) (hmx : m < 1099511627776) (w : World) :
  (Builtin.append_ #[t, t] ty #[.slice (some ad) 0 0, .slice A m c]).run P w = (Builtin.append_ #[t, t] ty #[.slice none 0 0, .slice A m c]).run P w := by
 obtain ⟨i, h1, h2, h3, h4⟩ := hT.info hk
 have h3 := h3 h4e
 have hcap : ¬ Builtin.nextslicecap (0 + m) 0 * i.bytes > 2 ^ 48 := by
  have : Builtin.nextslicecap (0 + m) 0 = m := by simp [Builtin.nextslicecap, hm]
  rw [this]
  have := Nat.mul_le_mul (Nat.le_of_lt hmx) h3
  omega
 have hcap' : ¬ Builtin.nextslicecap m 0 * i.bytes > 2 ^ 48 := by simpa using hcap
 have hne : ¬ m ≤ 0 := by omega
 have hne' : ¬ m = 0 := by omega
 simp only [Nat.zero_add] at hcap
 simp [Builtin.append_, run_underlying (hT.slice ht), Go.sizeOf, typeInfo, h1, Builtin.lenOf, Builtin.firstCells, hne', hcap, loadCells, loadCellsFrom]

/-- An owned slice: its row, from some cell on. -/
def rowO (w : World) (e : TypeId) (size : Nat) (v : Value) (n : Nat) (xs : List Value) : Prop :=
 xs.length = n * size ∧ ((v = .slice none 0 0 ∧ n = 0) ∨
  ∃ g o cap cur, v = .slice (some ⟨g, o, none⟩) n cap ∧ w.heap[g]? = some (.cells cur e (0, 0)) ∧ n ≤ cap ∧ cap ≤ maxLen ∧ cur.size = o + cap * size ∧ (cur.toList.drop o).take (n * size) = xs)
theorem rowO_of {w : World} {base : Nat} {e : TypeId} {size : Nat} {v : Value} {n : Nat} {xs : List Value} (h : w.ownsRow base e size v n xs) : rowO w e size v n xs := by
 refine ⟨h.1, ?_⟩
 rcases h.2 with h | ⟨g, cap, cur, h1, _, h3, h4, h5, h6, h7⟩
 ·exact .inl h
 ·exact .inr ⟨g, 0, cap, cur, h1, h3, h4, h5, by rw [Nat.zero_add]; exact h6, by rw [List.drop_zero]; exact h7⟩
theorem grownBy_any {w w' : World} {row : Option Nat} (h : w.grownBy w' none) : w.grownBy w' row := ⟨h.os, h.tape, h.output, h.size, fun k hk _ => h.block k hk (by simp)⟩
theorem run_append_row (w : World) (t ty e : TypeId) (i : TypeInfo) (z : Value) (size bytes : Nat) (ht : P.underlying t = some (.slice e)) (hi : P.info? e = some i) (hz : i.zero = some z)
  (hsize : i.size = size) (hby : i.bytes = bytes) (hzs : z.cells.size = size) (hsz : 0 < size)
  (v : Value) (n : Nat) (xs : List Value) (hown : rowO w e size v n xs)
  (a : Addr) (m c : Nat) (news : List Value) (hl : news.length = m * size) (hnews : ∀ j u, news[j]? = some u → w.cell? (a.add j) = some u) (h1 : ∀ u ∈ news, u.oneCell' = true)
  (h63 : n + m ≤ maxLen) (hbytes : (n + m) * bytes ≤ 140737488355328) :
  ∃ v' w', (Builtin.append_ #[t, t] ty #[v, .slice (some a) m c]).run P w = .ok v' w' ∧ rowO w' e size v' (n + m) (xs ++ news) ∧ w.grownBy w' v.ownBlock ∧ (v'.ownBlock = v.ownBlock ∨ ∃ g, v'.ownBlock = some g ∧ w.heap.size ≤ g) := by
 rcases hown.2 with ⟨rfl, rfl⟩ | ⟨g, o, cap, cur, rfl, hg, hnc, hcm, hcs, htake⟩
 ·have hx : xs = [] := List.eq_nil_of_length_eq_zero (by simpa using hown.1)
  subst hx
  obtain ⟨v', w', r1, r2, r3, _, r4⟩ := run_append_own_at (P := P) w 0 t ty e i z size bytes ht hi hz hsize hby hzs hsz (.slice none 0 0) 0 [] (World.ownsRow_nil w 0 e _) a m c news hl hnews h1 h63 hbytes (Nat.zero_le _)
  exact ⟨v', w', r1, rowO_of r2, r3, r4.imp id fun h => ⟨_, h, Nat.le_refl _⟩⟩
 ·have hlen : (xs ++ news).length = (n + m) * size := by rw [List.length_append, hown.1, hl, Nat.add_mul]
  by_cases hroom : n + m ≤ cap
  ·have hmul : (n + m) * size ≤ cap * size := Nat.mul_le_mul_right _ hroom
   rw [Nat.add_mul] at hmul
   have hfit : o + n * size + news.length ≤ cur.size := by rw [hl, hcs]; omega
   subst hsize
   have hfc := run_firstCells_some (P := P) w i.size m a m c news hl hnews
   have hst := run_storeCells_at P g (o + n * i.size) e news 0 cur w hg (by simpa using hfit) h1
   simp only [Nat.add_zero] at hst
   have hr : (Builtin.append_ #[t, t] ty #[.slice (some ⟨g, o, none⟩) n cap, .slice (some a) m c]).run P w =
     .ok (.slice (some ⟨g, o, none⟩) (n + m) cap) (w.setRow g (cur.toList.take (o + n * i.size) ++ news ++ cur.toList.drop (o + n * i.size + news.length)).toArray) := by
    simp [Builtin.append_, run_underlying ht, Go.sizeOf, typeInfo, hi, Builtin.lenOf, hroom, hfc, Addr.add_lit, hst]
   refine ⟨_, _, hr, ⟨hlen, .inr ⟨g, o, cap, _, rfl, setRow_heap w g cur _ e _ hg, hroom, hcm, ?_, ?_⟩⟩, ⟨rfl, rfl, rfl, by simp, fun k _ hk => setRow_other w g k _ (fun e => hk (by simp [Value.ownBlock, e]))⟩, Or.inl rfl⟩
   ·simp only [List.size_toArray, List.length_append, List.length_take, List.length_drop, Array.length_toList]
    omega
   ·rw [← hlen, List.append_assoc, List.drop_append_of_le_length (by simp; omega), ← List.append_assoc]
    have e1 : (cur.toList.take (o + n * i.size)).drop o = xs := by rw [List.drop_take, Nat.add_sub_cancel_left]; exact htake
    rw [e1]
    exact List.take_left
  ·have holds : ∀ j u, xs[j]? = some u → w.cell? ((⟨g, o, none⟩ : Addr).add j) = some u := by
    intro j u hu
    rw [cell_off hg]
    have hlt := (List.getElem?_eq_some_iff.1 hu).1
    rw [hown.1] at hlt
    rw [← htake, List.getElem?_take_of_lt hlt, List.getElem?_drop, Array.getElem?_toList] at hu
    exact hu
   obtain ⟨v', w', r1, r2, r3⟩ := run_append_arg_grows (P := P) w t ty e i z size bytes ht hi hz hsize hby hzs hsz ⟨g, o, none⟩ n cap xs hown.1 holds a m c news hl hnews (by omega) h63 hbytes
   refine ⟨v', w', r1, rowO_of r2, grownBy_any r3, ?_⟩
   rcases r2.2 with ⟨rfl, h0⟩ | ⟨g', cap', cur', rfl, hb, _⟩
   ·have := hl
    exact .inl (by omega)
   ·exact .inr ⟨g', rfl, hb⟩

/-- An owned slice as the library has it. -/
theorem own_row {rv : Nat → Value} {e : TypeId} {xs : List D} {v : Value} {F : Nat → Prop} (h : WR T s rv w S (.own e xs) v F) :
  (∃ A, v = .slice A 0 0 ∧ xs = [] ∧ Em F) ∨ ∃ (b n c : Nat) (olds : List Value) (Fi : Nat → Nat → Prop), (∃ o, v = .slice (some ⟨b, o, none⟩) n c) ∧ n ≤ c ∧ rowO w e (T.size e) v n olds ∧ xs.length = n * T.size e ∧ olds.length = xs.length ∧
   (∀ i x, xs[i]? = some x → ∃ u, olds[i]? = some u ∧ WR T s rv w S x u (Fi i)) ∧ (∀ k, F k ↔ k = b ∨ ∃ i, i < xs.length ∧ Fi i k) ∧ (∀ i, i < xs.length → ¬ Fi i b) ∧
   (∀ i j k, i < xs.length → j < xs.length → i ≠ j → Fi i k → ¬ Fi j k) := by
 cases h with
 | own0 hE => exact .inl ⟨_, rfl, rfl, hE⟩
 | own us Fi hb hz hn hc hm hx hF hFb hd hSb hw =>
  rename_i b o n c cs
  right
  have hle : o + xs.length ≤ cs.size := by rw [hz, hn]; exact Nat.add_le_add_left (Nat.mul_le_mul_right _ hc) _
  refine ⟨b, n, c, (cs.toList.drop o).take (n * T.size e), Fi, ⟨o, rfl⟩, hc, ⟨by simp; omega, .inr ⟨b, o, c, cs, rfl, hb, hc, hm, hz, rfl⟩⟩, hn, by simp; omega, fun i x hi => ⟨us i, ?_, hw i x hi⟩, hF, hFb, hd⟩
  have hlt := (List.getElem?_eq_some_iff.1 hi).1
  rw [List.getElem?_take_of_lt (by omega), List.getElem?_drop, Array.getElem?_toList]
  exact hx i x hi

/-- The cells of a list of data, as values. -/
theorem pick_values {rv : Nat → Value} {A : Option Addr} {ys : List D} (h : ∀ i y, ys[i]? = some y → ∃ ad u Fi, A = some ad ∧ w.cell? (ad.add i) = some u ∧ WR T s rv w S y u Fi) :
  ∃ news : List Value, news.length = ys.length ∧ (∀ (i : Nat) (y : D), ys[i]? = some y → ∃ u Fi, news[i]? = some u ∧ WR T s rv w S y u Fi) ∧ ∀ ad, A = some ad → ∀ (j : Nat) (u : Value), news[j]? = some u → w.cell? (ad.add j) = some u := by
 cases A with
 | none =>
  have : ys = [] := by
   cases ys with
   | nil => rfl
   | cons y ys => obtain ⟨ad, u, Fi, h1, _⟩ := h 0 y rfl; cases h1
  subst this
  exact ⟨[], rfl, by simp, by simp⟩
 | some ad =>
  refine ⟨(List.range ys.length).map fun i => (w.cell? (ad.add i)).getD undef, by simp, fun i y hy => ?_, fun ad' h1 j u hu => ?_⟩
  ·have hlt := (List.getElem?_eq_some_iff.1 hy).1
   obtain ⟨ad', u, Fi, h1, h2, h3⟩ := h i y hy
   injection h1 with h1; subst h1
   exact ⟨u, Fi, by simp [hlt, h2], h3⟩
  ·injection h1 with h1; subst h1
   have hlt : j < ys.length := by have := (List.getElem?_eq_some_iff.1 hu).1; simpa using this
   obtain ⟨ad', u', Fi, h1, h2, h3⟩ := h j _ (List.getElem?_eq_getElem hlt)
   injection h1 with h1; subst h1
   simp [hlt, h2] at hu
   rw [h2, hu]

/-- What an append leaves. -/
theorem append_core (hT : TyOk P T) {t e : TypeId} (ht : T.ty t = .slice e) (hk : T.known e = true) (h4e : T.size e ≤ 4) (ty : TypeId) {rv : Nat → Value} (hr : Rel T s rv w S Fs) {xs : List D} {v : Value} {F : Nat → Prop} (h : Hand T s rv w S Fs (.own e xs) v F)
  {A : Option Addr} {m c : Nat} {ys : List D} {news : List Value} {Gi : Nat → Nat → Prop} (hyl : ys.length = m * T.size e) (hnl : news.length = ys.length)
  (hcell : ∀ ad, A = some ad → ∀ (j : Nat) (u : Value), news[j]? = some u → w.cell? (ad.add j) = some u) (hA : 0 < m → ∃ ad, A = some ad) (hsol : ys.all solid = true)
  (hel : ∀ (i : Nat) (y : D), ys[i]? = some y → ∃ u, news[i]? = some u ∧ WR T s rv w S y u (Gi i)) (hgF : ∀ i k, i < ys.length → Gi i k → ¬ F k) (hgFs : ∀ i u k, i < ys.length → Gi i k → ¬ Fs u k)
  (hgd : ∀ i j k, i < ys.length → j < ys.length → i ≠ j → Gi i k → ¬ Gi j k) (hmx : xs.length + ys.length < 1099511627776) :
  ∃ v' w' F', (Builtin.append_ #[t, t] ty #[v, .slice A m c]).run P w = .ok v' w' ∧ Rel T s rv w' S Fs ∧ WR T s rv w' S (.own e (xs ++ ys)) v' F' ∧
   (∀ k, F' k → F k ∨ (∃ i, i < ys.length ∧ Gi i k) ∨ w.heap.size ≤ k) ∧ (∀ u k, F' k → ¬ Fs u k) ∧ (∀ k, k < w.heap.size → ¬ F k → w'.heap[k]? = w.heap[k]?) ∧
   w'.os = w.os ∧ w'.tape = w.tape ∧ w'.output = w.output ∧ w.heap.size ≤ w'.heap.size := by
 have hpos := known_pos hk
 obtain ⟨i, hi1, hi2, hi3, hi4⟩ := hT.info hk
 have hi3 := hi3 h4e
 obtain ⟨z, hz, hzs, hzl, _⟩ := zeros_W hT hk
 have hzero : i.zero = some z := by
  have := hz w
  simp only [zeroValue, typeInfo, Sem.run_bind, run_program, Result.andThen_ok, hi1, hi4, Sem.run_pure] at this
  injection this with this
  rw [hi4, this]
 by_cases hm : m = 0
 ·subst hm
  have hy : ys = [] := List.eq_nil_of_length_eq_zero (by simpa using hyl)
  subst hy
  rw [List.append_nil]
  have hv : ∃ B n cap, v = .slice B n cap ∧ n ≤ cap := by
   rcases own_row h.val with ⟨B, rfl, _, _⟩ | ⟨b, n, cap, olds, Fi, ⟨o, rfl⟩, hle, _⟩
   ·exact ⟨_, _, _, rfl, Nat.le_refl _⟩
   ·exact ⟨_, _, _, rfl, hle⟩
  obtain ⟨B, n, cap, rfl, hle⟩ := hv
  exact ⟨_, w, F, run_append_zero hT ht hk ty hle w, hr, h.val, fun k hk => .inl hk, fun u k hf => h.apart u k hf, fun _ _ _ => rfl, rfl, rfl, rfl, Nat.le_refl _⟩
 ·have hmp : 0 < m := by omega
  obtain ⟨ad, rfl⟩ := hA hmp
  have hm40 : m < 1099511627776 := by
   have : m ≤ m * T.size e := Nat.le_mul_of_pos_right m hpos
   omega
  have hone : ∀ u ∈ news, u.oneCell' = true := fun u hu => by
   obtain ⟨j, hj⟩ := List.getElem?_of_mem hu
   have hlt : j < ys.length := by have := (List.getElem?_eq_some_iff.1 hj).1; omega
   obtain ⟨u', hu', hw⟩ := hel j _ (List.getElem?_eq_getElem hlt)
   rw [hj] at hu'; injection hu' with hu'
   rw [hu']
   exact (solid_one hw (List.all_eq_true.1 hsol _ (List.getElem_mem hlt))).1
  -- what was there
  obtain ⟨v0, n, olds, Fi, b, hown, hol, hxn, hxe, hrun0, hblk, hF, hFb, hFd, hFx⟩ : ∃ (v0 : Value) (n : Nat) (olds : List Value) (Fi : Nat → Nat → Prop) (b : Option Nat), rowO w e (T.size e) v0 n olds ∧ olds.length = xs.length ∧ xs.length = n * T.size e ∧
    (∀ (i : Nat) (x : D), xs[i]? = some x → ∃ u, olds[i]? = some u ∧ WR T s rv w S x u (Fi i)) ∧
    (Builtin.append_ #[t, t] ty #[v, .slice (some ad) m c]).run P w = (Builtin.append_ #[t, t] ty #[v0, .slice (some ad) m c]).run P w ∧ v0.ownBlock = b ∧
    (∀ k, F k ↔ some k = b ∨ ∃ i, i < xs.length ∧ Fi i k) ∧ (∀ i k, i < xs.length → some k = b → ¬ Fi i k) ∧ (∀ i j k, i < xs.length → j < xs.length → i ≠ j → Fi i k → ¬ Fi j k) ∧ (∀ k, some k = b → F k) := by
   rcases own_row h.val with ⟨B, rfl, rfl, hE⟩ | ⟨b, n, cap, olds, Fi, ⟨o, hv⟩, _, hrow, h1, h2, h3, h4, h5, h6⟩
   ·refine ⟨.slice none 0 0, 0, [], fun _ _ => False, none, rowO_of (World.ownsRow_nil w 0 e _), rfl, by simp, by simp, ?_, rfl, fun k => ⟨fun hf => (hE k hf).elim, ?_⟩, by simp, by simp, by simp⟩
    ·cases B with
     | none => rfl
     | some ad' => exact run_append_cap0 hT ht hk h4e ty hmp hm40 w
    ·rintro (h | ⟨_, hi, _⟩)
     ·cases h
     ·simp at hi
   ·subst hv
    refine ⟨_, n, olds, Fi, some b, hrow, h2, h1, h3, rfl, rfl, fun k => ?_, fun i k hi hk => ?_, h6, fun k hk => ?_⟩
    ·rw [h4 k]; simp
    ·injection hk with hk; subst hk; exact h5 i hi
    ·injection hk with hk; subst hk; exact (h4 k).2 (.inl rfl)
  obtain ⟨v', w', hrun, hown', hgrow, hob⟩ := run_append_row (P := P) w t ty e i z (T.size e) i.bytes (hT.slice ht) hi1 hzero hi2 rfl (by rw [hzs, hzl]) hpos v0 n olds hown ad m c news
   (by rw [hnl, hyl]) (hcell ad rfl) hone (by have : n ≤ n * T.size e := Nat.le_mul_of_pos_right n hpos; simp only [maxLen]; omega)
   (by
    have h1 : n ≤ n * T.size e := Nat.le_mul_of_pos_right n hpos
    have h2 : m ≤ m * T.size e := Nat.le_mul_of_pos_right m hpos
    have h3 : n + m ≤ 1099511627776 := by omega
    have := Nat.mul_le_mul h3 hi3
    omega)
  have hnot : ∀ k, ¬ F k → k < w.heap.size → w'.heap[k]? = w.heap[k]? := fun k hf hlt => hgrow.block k hlt (fun e => hf (hFx k (hblk ▸ e)))
  have hS' : ∀ k, S k → w'.heap[k]? = w.heap[k]? := fun k hs => hnot k (fun hf => h.val.notS k hf hs) (hr.lt k hs)
  obtain ⟨hkeep, hrel⟩ := hr.world hS' (fun u k hu => hnot k (fun hf => h.apart u k hf hu) ((hr.val u).lt k hu)) hgrow.size
  obtain ⟨hlen', hcase⟩ := hown'
  rcases hcase with ⟨_, h0⟩ | ⟨g, off, cap', cur, rfl, hg, hnc, hcm, hcs, htake⟩
  ·omega
  have hg' : some g = b ∨ w.heap.size ≤ g := by
   rcases hob with e | e
   ·left; rw [← hblk, ← e]; rfl
   ·right
    obtain ⟨g', h1, h2⟩ := e
    simp only [Value.ownBlock, Option.some.injEq] at h1
    omega
  have hgF0 : ¬ S g := by
   rcases hg' with e | e
   ·exact h.val.notS g (hFx g e)
   ·intro hs; have := hr.lt _ hs; omega
  let Hi : Nat → Nat → Prop := fun j => if j < xs.length then Fi j else Gi (j - xs.length)
  have hxk : ∀ (j : Nat) (x : D), (xs ++ ys)[j]? = some x → ∃ u, (olds ++ news)[j]? = some u ∧ WR T s rv w' S x u (Hi j) := by
   intro j x hx
   by_cases hj : j < xs.length
   ·rw [List.getElem?_append_left hj] at hx
    obtain ⟨u, hu, hw⟩ := hxe j x hx
    refine ⟨u, by rw [List.getElem?_append_left (by omega)]; exact hu, ?_⟩
    simp only [Hi, hj, if_true]
    refine hw.keep hkeep (fun k hs => ⟨hs, hS' k hs⟩) (fun k hf => ⟨hw.notS k hf, hgrow.block k (hw.lt k hf) (fun e => hFb j k hj (hblk ▸ e) hf)⟩)
   ·rw [List.getElem?_append_right (by omega)] at hx
    have hjl := (List.getElem?_eq_some_iff.1 hx).1
    obtain ⟨u, hu, hw⟩ := hel _ x hx
    refine ⟨u, by rw [List.getElem?_append_right (by omega), hol]; exact hu, ?_⟩
    simp only [Hi, hj, if_false]
    exact hw.keep hkeep (fun k hs => ⟨hs, hS' k hs⟩) (fun k hf => ⟨hw.notS k hf, hnot k (hgF _ k hjl hf) (hw.lt k hf)⟩)
  have hHg : ∀ j, j < (xs ++ ys).length → ¬ Hi j g := by
   intro j hj hf
   simp only [List.length_append] at hj
   by_cases hjx : j < xs.length
   ·simp only [Hi, hjx, if_true] at hf
    rcases hg' with e | e
    ·exact hFb j g hjx e hf
    ·obtain ⟨u, _, hw⟩ := hxe j _ (List.getElem?_eq_getElem hjx)
     have := hw.lt _ hf; omega
   ·simp only [Hi, hjx, if_false] at hf
    rcases hg' with e | e
    ·exact hgF _ g (by omega) hf (hFx g e)
    ·obtain ⟨u, _, hw⟩ := hel (j - xs.length) _ (List.getElem?_eq_getElem (by omega))
     have := hw.lt _ hf; omega
  refine ⟨_, w', fun k => k = g ∨ ∃ j, j < (xs ++ ys).length ∧ Hi j k, hrun0.trans hrun, hrel, ?_, ?_, ?_, fun k hlt hf => hnot k hf hlt, hgrow.os, hgrow.tape, hgrow.output, hgrow.size⟩
  ·have hcget : ∀ (j : Nat) (x : D), (xs ++ ys)[j]? = some x → cur[off + j]? = some ((olds ++ news).getD j undef) := fun j x hx => by
    obtain ⟨u, hu, _⟩ := hxk j x hx
    rw [List.getD_eq_getElem?_getD, hu, Option.getD_some]
    have hlt := (List.getElem?_eq_some_iff.1 hx).1
    rw [← htake] at hu
    rw [List.getElem?_take_of_lt (by rw [List.length_append, hxn, hyl, ← Nat.add_mul] at hlt; exact hlt), List.getElem?_drop, Array.getElem?_toList] at hu
    exact hu
   refine .own (fun j => (olds ++ news).getD j undef) Hi hg hcs (by rw [List.length_append, hxn, hyl, ← Nat.add_mul]) hnc hcm hcget (fun _ => Iff.rfl) hHg ?_ hgF0 (fun j x hx => ?_)
   ·intro i j k hi hj hij
    simp only [List.length_append] at hi hj
    by_cases h1 : i < xs.length <;> by_cases h2 : j < xs.length
    ·simp only [Hi, h1, h2, if_true]; exact hFd i j k h1 h2 hij
    ·simp only [Hi, h1, h2, if_true, if_false]
     exact fun hf hg => hgF _ k (by omega) hg ((hF k).2 (.inr ⟨i, h1, hf⟩))
    ·simp only [Hi, h1, h2, if_true, if_false]
     exact fun hg hf => hgF _ k (by omega) hg ((hF k).2 (.inr ⟨j, h2, hf⟩))
    ·simp only [Hi, h1, h2, if_false]; exact hgd _ _ k (by omega) (by omega) (by omega)
   ·obtain ⟨u, hu, hw⟩ := hxk j x hx
    have : (olds ++ news).getD j undef = u := by rw [List.getD_eq_getElem?_getD, hu]; rfl
    simp only [this]; exact hw
  ·rintro k (rfl | ⟨j, hj, hf⟩)
   ·rcases hg' with e | e
    ·exact .inl (hFx _ e)
    ·exact .inr (.inr (by omega))
   ·simp only [List.length_append] at hj
    by_cases hjx : j < xs.length
    ·simp only [Hi, hjx, if_true] at hf; exact .inl ((hF k).2 (.inr ⟨j, hjx, hf⟩))
    ·simp only [Hi, hjx, if_false] at hf; exact .inr (.inl ⟨_, by omega, hf⟩)
  ·rintro u k (rfl | ⟨j, hj, hf⟩) hu
   ·rcases hg' with e | e
    ·exact h.apart u _ (hFx _ e) hu
    ·have := (hr.val u).lt _ hu; omega
   ·simp only [List.length_append] at hj
    by_cases hjx : j < xs.length
    ·simp only [Hi, hjx, if_true] at hf; exact h.apart u k ((hF k).2 (.inr ⟨j, hjx, hf⟩)) hu
    ·simp only [Hi, hjx, if_false] at hf; exact hgFs _ u k (by omega) hf hu
end
end Dv
/- Value semantics for Go code: append, make, slices, captured variables, parts of tuples. Conditions: the types are what the table says. -/
namespace Dv
open Go

section
variable {P : Program} {T : Tys} {s s' : St} {gh : Nat → Value} {a : Act} {w w' : World} {S : Nat → Prop} {Fs : Nat → Nat → Prop} {N : Nat}

theorem append_sound (hT : TyOk P T) (h : Fr T N gh s a w S Fs) {pm : Pm} {dst : Option Tmp} (hd : dstOk N dst) {t : TypeId} {x y : Operand} (hx : opdOk N x) (hy : opdOk N y) {r : D} (ty : TypeId)
  (hap : opAppend T pm s t x y = some (r, s')) :
  ∃ v w', (Builtin.append_ #[t, t] ty #[a.eval x, a.eval y]).run P w = .ok v w' ∧ Post T gh N (s'.putO dst r) w S Fs (a.put dst v) w' := by
 unfold opAppend at hap
 split at hap
 ·rename_i e hty
  split at hap
  ·rename_i e1 xs s1 htk
   obtain ⟨S1, Fs1, F, rel1, hh, hk1, hst1, hFF, hFs1⟩ := takeM_sound h.rel h.small hx htk
   have h1 : Fr T N gh s1 a w S1 Fs1 := ⟨rel1, h.defs, h.size, h.small⟩
   split at hap
   ·rename_i d hev
    have hWy := ev_W rel1 h.small hy hev
    split at hap
    ·rename_i e2 ys o hsl
     split at hap
     ·rename_i hc
      obtain ⟨rfl, rfl, hkn0, hsol, hmx⟩ := hc
      obtain ⟨hkn, h4e⟩ := elem_known hkn0
      obtain ⟨A, m, c, hvy, hyl, hmc, hcm, hcell, _⟩ := sliceD_sound h1 hy hWy (ev_slot hev) hsl
      have hpos := known_pos hkn
      have hA : 0 < m → ∃ ad, A = some ad := fun hm => by
       have : 0 < ys.length := by rw [hyl]; exact Nat.mul_pos hm hpos
       obtain ⟨ad, _, _, hA, _⟩ := hcell 0 _ (List.getElem?_eq_getElem this)
       exact ⟨ad, hA⟩
      split at hap
      ·rename_i hob
       split at hap
       ·rename_i e' ys' u
        simp only [Option.some.injEq, Prod.mk.injEq] at hap
        obtain ⟨rfl, rfl⟩ := hap
        have hys : ys' = ys ∧ e' = e2 := by
         simp only [sliceD, Option.some.injEq, Prod.mk.injEq] at hsl
         exact ⟨hsl.2.1, hsl.1⟩
        obtain ⟨rfl, rfl⟩ := hys
        have hkc := Keeps.clr s1 w (rvOf a gh) u
        have rel2 := rel1.clr u
        have hsub : ∀ v k, upd Fs1 u (fun _ => False) v k → Fs1 v k := fun v k hv => by
         by_cases hvu : v = u
         ·subst hvu; simp [upd_same] at hv
         ·rwa [upd_other _ _ hvu] at hv
        have hh2 : Hand T (s1.clr u) (rvOf a gh) w S1 (upd Fs1 u (fun _ => False)) (.own e' xs) (a.eval x) F :=
         hh.keep hkc (fun _ h => h) (fun k hf => hh.val.notS k hf) (fun v k hf hv => hh.apart v k hf (hsub v k hv))
        rw [hvy] at hWy
        simp only [opdF] at hWy
        cases hWy with
        | own0 => simp [hasObjs] at hob
        | own us Fi hb hz hn hcc hmm hxx hF hFb hdd hSb hww =>
         obtain ⟨v', w', F', hrun, hrel, hW', hF1, hF2, hheap, q1, q2, q3, q4⟩ := append_core hT hty hkn h4e ty rel2 hh2 (m := m) (c := c) (ys := ys') (news := (List.range ys'.length).map us) (Gi := Fi) hyl (by simp)
          (fun ad hA j v hj => by
           injection hA with hA; subst hA
           have hlt : j < ys'.length := by have := (List.getElem?_eq_some_iff.1 hj).1; simpa using this
           simp [hlt] at hj
           rw [cell_off hb, hxx j _ (List.getElem?_eq_getElem hlt), hj])
          hA hsol (fun i y hy => ⟨us i, by have := (List.getElem?_eq_some_iff.1 hy).1; simp [this], (show WR T s1 (rvOf a gh) w S1 y (us i) (Fi i) from hww i y hy).same hkc⟩)
          (fun i k hi hf hF' => hh.apart u k hF' ((hF k).2 (.inr ⟨i, hi, hf⟩)))
          (fun i v k hi hf hv => by
           by_cases hvu : v = u
           ·subst hvu; simp [upd_same] at hv
           ·rw [upd_other _ _ hvu] at hv; exact rel1.disj v u k hvu hv ((hF k).2 (.inr ⟨i, hi, hf⟩)))
          hdd hmx
         rw [hvy]
         refine ⟨v', w', hrun, post_put hrel hW' (fun v k _ hf => hF2 v k hf) ⟨q1, q2, q3, q4, fun k hlt hn => hheap k hlt (fun hf => by obtain ⟨v, hv⟩ := hFF k hf; exact hn v hv), hst1.sS, hst1.sS', fun v k hv => .inl ⟨v, hFs1 v k (hsub v k hv)⟩⟩ (fun k hf => ?_) h.defs h.size h.small hd⟩
         rcases hF1 k hf with hf | ⟨i, hi, hf⟩ | hge
         ·exact .inl (hFF k hf)
         ·exact .inl ⟨u, hFs1 u k ((hF k).2 (.inr ⟨i, hi, hf⟩))⟩
         ·exact .inr hge
       ·cases hap
      ·rename_i hob
       simp only [Option.some.injEq, Prod.mk.injEq] at hap
       obtain ⟨rfl, rfl⟩ := hap
       obtain ⟨news, hnl, hnw, hnc⟩ := pick_values hcell
       obtain ⟨v', w', F', hrun, hrel, hW', hF1, hF2, hheap, q1, q2, q3, q4⟩ := append_core hT hty hkn h4e ty rel1 hh (m := m) (c := c) (ys := ys) (news := news) (Gi := fun _ _ => False) hyl hnl hnc
        hA hsol (fun i y hy => by
         obtain ⟨u, Fi, hu, hw⟩ := hnw i y hy
         exact ⟨u, hu, hw.congr fun k => ⟨fun hf => (noObj_empty hw (hasObjs_get (by simpa using hob) hy) k hf).elim, fun hf => hf.elim⟩⟩)
        (fun _ _ _ hf => hf.elim) (fun _ _ _ _ hf => hf.elim) (fun _ _ _ _ _ _ hf => hf.elim) hmx
       rw [hvy]
       refine ⟨v', w', hrun, post_put hrel hW' (fun v k _ hf => hF2 v k hf) ⟨q1, q2, q3, q4, fun k hlt hn => hheap k hlt (fun hf => by obtain ⟨v, hv⟩ := hFF k hf; exact hn v hv), hst1.sS, hst1.sS', fun v k hv => .inl ⟨v, hFs1 v k hv⟩⟩ (fun k hf => ?_) h.defs h.size h.small hd⟩
       rcases hF1 k hf with hf | ⟨i, hi, hf⟩ | hge
       ·exact .inl (hFF k hf)
       ·exact hf.elim
       ·exact .inr hge
     ·cases hap
    ·cases hap
   ·cases hap
  ·cases hap
 ·cases hap

theorem rep_get {α : Type} {l : List α} : ∀ (m j : Nat) (x : α), (List.replicate m l).flatten[j]? = some x → l[j % l.length]? = some x := by
 intro m
 induction m with
 | zero => intro j x h; simp at h
 | succ m ih =>
  intro j x h
  rw [List.replicate_succ, List.flatten_cons] at h
  by_cases hj : j < l.length
  ·rw [List.getElem?_append_left hj] at h
   rw [Nat.mod_eq_of_lt hj]; exact h
  ·rw [List.getElem?_append_right (by omega)] at h
   have := ih _ _ h
   rwa [Nat.mod_eq_sub_mod (by omega)]
theorem rep_len {α : Type} {l : List α} (m : Nat) : (List.replicate m l).flatten.length = m * l.length := by
 induction m with
 | zero => simp
 | succ m ih => rw [List.replicate_succ, List.flatten_cons, List.length_append, ih, Nat.succ_mul, Nat.add_comm]
/-- The cells of a zero value. -/
theorem zeroCells {t : TypeId} (hk : T.known t = true) : (zeroOf T t).cells.size = (T.zeros t).length ∧ (T.zeros t).length = T.size t ∧
  ∀ (i : Nat) (x : D), (T.zeros t)[i]? = some x → ∃ u, (zeroOf T t).cells[i]? = some u ∧ ∀ (S : Nat → Prop) (w : World) (V : Place → Nat → Nat → Value → Prop) (Vp : Place → Nat → Nat → Nat → Value → Prop), W T S w V Vp x u (fun _ => False) := by
 unfold Tys.zeros zeroOf Tys.size
 cases hty : T.ty t with
 | struct fs =>
  simp only [Value.cells, Ty.size]
  refine ⟨by simp, by simp, fun j x hx => ?_⟩
  simp only [List.getElem?_map, Option.map_eq_some_iff] at hx
  obtain ⟨f, hf, rfl⟩ := hx
  exact ⟨zeroV T f, by simp [hf], fun _ _ _ _ => zero1_W f⟩
 | _ =>
  all_goals
   simp only [Ty.size]
   have hc : (zeroV T t).cells = #[zeroV T t] := by unfold zeroV; rw [hty]; rfl
   refine ⟨by rw [hc]; rfl, rfl, fun j x hx => ?_⟩
   cases j with
   | zero => simp at hx; subst hx; exact ⟨zeroV T t, by rw [hc]; rfl, fun _ _ _ _ => zero1_W t⟩
   | succ j => simp at hx

theorem makeSlice_sound (hT : TyOk P T) (h : Fr T N gh s a w S Fs) {dst : Option Tmp} (hd : dstOk N dst) {t tl tc : TypeId} {x y : Operand} (hx : opdOk N x) (hy : opdOk N y) {l c r : D}
  (hel : ev T s tl x = some l) (hec : ev T s tc y = some c) (hm : opMakeSlice T t l c = some r) :
  ∃ v w', (Instr.makeSlice t (a.eval x) (a.eval y)).run P w = .ok v w' ∧ Post T gh N (s.putO dst r) w S Fs (a.put dst v) w' := by
 have hWl := ev_W h.rel h.small hx hel
 have hWc := ev_W h.rel h.small hy hec
 unfold opMakeSlice at hm
 split at hm
 ·rename_i e n q hty
  split at hm
  ·rename_i hc
   obtain ⟨hn0, rfl, hmx, hkn0⟩ := hc
   obtain ⟨hkn, h4e⟩ := elem_known hkn0
   obtain ⟨m, rfl⟩ := Int.eq_ofNat_of_zero_le hn0
   have hpos := known_pos hkn
   obtain ⟨zs, zl, zel⟩ := zeroCells hkn
   have hr : ∃ xs, r = .own e xs ∧ xs.length = m * T.size e ∧ ∀ (j : Nat) (x : D), xs[j]? = some x → (T.zeros e)[j % T.size e]? = some x := by
    split at hm
    ·simp only [Option.some.injEq] at hm; subst hm
     refine ⟨_, rfl, ?_, fun j x hj => ?_⟩
     ·rw [rep_len, zl]; simp
     ·have := rep_get _ _ _ hj
      rwa [zl] at this
    ·split at hm
     ·rename_i hst hsz
      simp only [Option.some.injEq] at hm; subst hm
      refine ⟨_, rfl, by simp [hsz], fun j x hj => ?_⟩
      obtain ⟨hlt, hx⟩ := List.getElem?_eq_some_iff.1 hj
      simp at hx; subst hx
      rw [hsz, Nat.mod_one]
      have : T.zeros e = [T.zero1 e] := by
       unfold Tys.zeros
       unfold Tys.isStruct Ty.isStruct at hst
       cases hte : T.ty e <;> rw [hte] at hst <;> first | rfl | exact absurd rfl hst
      rw [this]; rfl
     ·cases hm
   obtain ⟨xs, rfl, hxl, hxz⟩ := hr
   have hvl : a.eval x = .int .i64 m := by
    generalize a.eval x = v at *
    cases hWl with
    | int => rfl
   have hvc : a.eval y = .int .i64 m := by
    generalize a.eval y = v at *
    cases hWc with
    | int => rfl
   obtain ⟨i, hi1, hi2, hi3, hi4⟩ := hT.info hkn
   have hb : (i.bytes : Int) * (m : Int) ≤ 281474976710656 := by
    have : i.bytes * m ≤ 128 * 1099511627776 := Nat.mul_le_mul (hi3 h4e) (by omega)
    have h2 : ((i.bytes * m : Nat) : Int) ≤ 140737488355328 := by omega
    rw [Int.natCast_mul] at h2
    omega
   have hrun := run_make (P := P) w t e i (zeroOf T e) (hT.slice hty) hi1 hi4 .i64 .i64 m m (by omega) (by omega) hb (by omega)
   rw [← hvl] at hrun
   have hrun : (Instr.makeSlice t (a.eval x) (a.eval y)).run P w = .ok (.slice (some ⟨w.heap.size, 0, none⟩) m m) (w.alloc (.cells (madeCells (zeroOf T e).cells (m * i.size)) e)) := by
    rw [hvc, ← hvl]; simpa using hrun
   have hcsz : (madeCells (zeroOf T e).cells (m * i.size)).size = m * T.size e := by rw [size_madeCells, hi2]
   let us : Nat → Value := fun j => (zeroOf T e).cells.getD (j % T.size e) undef
   have hus : ∀ (j : Nat) (x : D), xs[j]? = some x → (zeroOf T e).cells[j % T.size e]? = some (us j) ∧ ∀ (S : Nat → Prop) (w : World) (V : Place → Nat → Nat → Value → Prop) (Vp : Place → Nat → Nat → Nat → Value → Prop), W T S w V Vp x (us j) (fun _ => False) := fun j x hj => by
    obtain ⟨u, hu, hw⟩ := zel _ _ (hxz j x hj)
    have : us j = u := by simp only [us]; rw [Array.getD_eq_getD_getElem?, hu]; rfl
    rw [this]; exact ⟨hu, hw⟩
   obtain ⟨hr, hap, _, hown⟩ := new_obj (xs := xs) (us := us) (e := e) (cs := madeCells (zeroOf T e).cells (m * i.size)) h.rel (Gi := fun _ _ => False)
    (fun j x hx => (hus j x hx).2 _ _ _ _) (by simp) (by simp)
    (fun j x hx => by
     have hj := (List.getElem?_eq_some_iff.1 hx).1
     have hu := (hus j x hx).1
     have hzs : (zeroOf T e).cells.size = T.size e := zs.trans zl
     rw [Array.getElem?_eq_getElem (by omega)]
     simp only [madeCells, Array.getElem_map, Array.getElem_range, hzs, Option.some.injEq]
     rw [Array.getElem!_eq_getD, Array.getD_eq_getD_getElem?, hu]; rfl)
   refine ⟨_, _, hrun, post_put hr (hown m m hcsz hxl (Nat.le_refl _) (by simp only [maxLen]; omega)) (fun t k _ => hap t k) (step_alloc w _ S Fs) ?_ h.defs h.size h.small hd⟩
   rintro k (rfl | ⟨_, _, hf⟩)
   ·exact .inr (Nat.le_refl _)
   ·exact hf.elim
  ·cases hm
 ·cases hm

theorem bnd_sound (h : Fr T N gh s a w S Fs) {dflt l : Nat} {x : Option Operand} (hx : ∀ o, x = some o → opdOk N o) (hb : bnd T s dflt x = some l) :
  (x = none ∧ l = dflt) ∨ ∃ o k, x = some o ∧ a.eval o = .int k (l : Int) := by
 cases x with
 | none => simp only [bnd, Option.some.injEq] at hb; exact .inl ⟨rfl, hb.symm⟩
 | some o =>
  right
  simp only [bnd] at hb
  split at hb
  ·rename_i k n he
   split at hb
   ·rename_i hn
    simp only [Option.some.injEq] at hb; subst hb
    have hW := ev_W h.rel h.small (hx o rfl) he
    refine ⟨o, k, rfl, ?_⟩
    rw [Int.toNat_of_nonneg hn]
    generalize a.eval o = v at *
    cases hW with
    | int => rfl
   ·cases hb
  ·cases hb

theorem sliceBounds_run {P : Program} (w : World) (isS : Bool) {len cap l h : Nat} {lo hi : Option Value} (hlo : (lo = none ∧ l = 0) ∨ ∃ k, lo = some (.int k (l : Int))) (hhi : (hi = none ∧ h = len) ∨ ∃ k, hi = some (.int k (h : Int)))
  (h1 : l ≤ h) (h2 : h ≤ cap) : (Instr.sliceBounds isS len cap lo hi none).run P w = .ok (l, h, cap) w := by
 rcases hlo with ⟨rfl, rfl⟩ | ⟨k, rfl⟩ <;> rcases hhi with ⟨rfl, rfl⟩ | ⟨k', rfl⟩
 ·simp [Instr.sliceBounds]
 ·simp [Instr.sliceBounds, Instr.sliceBound, asIntOf, Nat.not_lt.2 h2]
 ·simp [Instr.sliceBounds, Instr.sliceBound, asIntOf, Nat.not_lt.2 h1]
 ·simp [Instr.sliceBounds, Instr.sliceBound, asIntOf, h1, h2]

theorem sliceBounds_run3 {P : Program} (w : World) (isS : Bool) {len cap l : Nat} {lo hi : Option Value} {k0 : IntKind} (hlo : (lo = none ∧ l = 0) ∨ ∃ k, lo = some (.int k (l : Int))) (hhi : ∃ k, hi = some (.int k (l : Int)))
  (h2 : l ≤ cap) : (Instr.sliceBounds isS len cap lo hi (some (.int k0 (l : Int)))).run P w = .ok (l, l, l) w := by
 obtain ⟨k', rfl⟩ := hhi
 rcases hlo with ⟨rfl, rfl⟩ | ⟨k, rfl⟩
 ·simp [Instr.sliceBounds, Instr.sliceBound, asIntOf]
 ·simp [Instr.sliceBounds, Instr.sliceBound, asIntOf, h2]

theorem map_bnd {x : Option Operand} {d l : Nat} (h : (x = none ∧ l = d) ∨ ∃ o k, x = some o ∧ a.eval o = .int k (l : Int)) : (x.map a.eval = none ∧ l = d) ∨ ∃ k, x.map a.eval = some (.int k (l : Int)) := by
 rcases h with ⟨rfl, rfl⟩ | ⟨o, k, rfl, h⟩
 ·exact .inl ⟨rfl, rfl⟩
 ·exact .inr ⟨k, by simp [h]⟩

/-- A cut of shared cells. -/
theorem sl_cut {V : Place → Nat → Nat → Value → Prop} {Vp : Place → Nat → Nat → Nat → Value → Prop} {e : TypeId} {xs : List D} {A : Option Addr} {n c l h : Nat} {us : Nat → Value} (hn : xs.length = n * T.size e) (hc : n ≤ c) (hm : c ≤ maxLen)
  (hx : ∀ (i : Nat) (x : D), xs[i]? = some x → ∃ ad, A = some ad ∧ S ad.block ∧ w.cell? (ad.add i) = some (us i)) (hw : ∀ (i : Nat) (x : D), xs[i]? = some x → W T S w V0 Vp0 x (us i) (fun _ => False)) (h1 : l ≤ h) (h2 : h ≤ n) :
  W T S w V Vp (.sl e ((xs.take (h * T.size e)).drop (l * T.size e))) (.slice (if c = l then A else A.map (·.add (l * T.size e))) (h - l) (c - l)) (fun _ => False) := by
 have hle : h * T.size e ≤ xs.length := by rw [hn]; exact Nat.mul_le_mul_right _ h2
 have hget : ∀ (i : Nat) (x : D), ((xs.take (h * T.size e)).drop (l * T.size e))[i]? = some x → xs[l * T.size e + i]? = some x ∧ l < h := fun i x hi => by
  rw [List.getElem?_drop] at hi
  have hlt := (List.getElem?_eq_some_iff.1 hi).1
  simp only [List.length_take] at hlt
  rw [List.getElem?_take_of_lt (by omega)] at hi
  refine ⟨hi, ?_⟩
  rcases Nat.lt_or_ge l h with hh | hh
  ·exact hh
  ·have := Nat.mul_le_mul_right (T.size e) hh; omega
 refine .sl (fun i => us (l * T.size e + i)) (fun _ h => h) (by simp [List.length_take]; rw [Nat.min_eq_left hle, Nat.sub_mul]) (by omega) (by omega) (fun i x hi => ?_) (fun i x hi => ?_)
 ·obtain ⟨hi, hlh⟩ := hget i x hi
  obtain ⟨ad, h3, h4, h5⟩ := hx _ x hi
  subst h3
  rw [if_neg (by omega)]
  exact ⟨_, rfl, by rw [add_block]; exact h4, by rw [add_add]; exact h5⟩
 ·obtain ⟨hi, _⟩ := hget i x hi
  exact hw _ x hi

theorem slice_sound (hT : TyOk P T) (h : Fr T N gh s a w S Fs) {pm : Pm} {dst : Option Tmp} (hd : dstOk N dst) {t tt : TypeId} {x : Operand} {lo hi mx : Option Operand} (hx : opdOk N x) (hlo : ∀ o, lo = some o → opdOk N o)
  (hhi : ∀ o, hi = some o → opdOk N o) (hmx : ∀ o, mx = some o → opdOk N o) {d r : D} (he : ev T s tt x = some d) (hs : opSlice T pm s t x d lo hi mx = some (r, s')) :
  ∃ v, (Instr.sliceAt t (a.eval x) (lo.map a.eval) (hi.map a.eval) (mx.map a.eval)).run P w = .ok v w ∧ Post T gh N (s'.putO dst r) w S Fs (a.put dst v) w := by
 have hW := ev_W h.rel h.small hx he
 unfold opSlice at hs
 split at hs
 ·rename_i b hty
  split at hs
  ·rename_i l hh hl1 hh1
   split at hs
   ·rename_i hc
    obtain ⟨h1, h2, h3⟩ := hc
    simp only [Option.some.injEq, Prod.mk.injEq] at hs
    obtain ⟨rfl, rfl⟩ := hs
    have h0 := (hT t).1
    unfold TyFact at h0
    rw [hty] at h0
    have hv : a.eval x = .string b := by
     generalize a.eval x = v at *
     cases hW with
     | str => rfl
    have hmn : mx = none := by simpa using h3
    subst hmn
    refine ⟨.string (b.extract l hh), ?_, post_val h hd (F := fun _ => False) (.str (fun _ h => h)) (fun _ h => h)⟩
    rw [hv]
    have := sliceBounds_run (P := P) w false (len := b.size) (cap := b.size) (map_bnd (a := a) (bnd_sound h hlo hl1)) (map_bnd (a := a) (bnd_sound h hhi hh1)) h1 h2
    simp [Instr.sliceAt, Instr.slice, run_underlying h0.1, this]
   ·cases hs
  ·cases hs
 ·rename_i e' hty
  split at hs
  ·cases hs
  ·rename_i e xs o hsl
   split at hs
   ·rename_i l hh hl1 hh1
    split at hs
    ·rename_i hc
     obtain ⟨rfl, hkn, h1, h2⟩ := hc
     obtain ⟨A, n, c, hv, hn, hnc, hcm, hcell, hnone, hsome⟩ := sliceD_sound h hx hW (ev_slot he) hsl
     rw [len_eq hkn hn] at h2 hh1
     have hun := hT.slice hty
     split at hs
     ·rename_i hms
      split at hs
      ·rename_i q hq
       split at hs
       ·rename_i hqq
        obtain ⟨rfl, rfl, hhs⟩ := hqq
        simp only [Option.some.injEq, Prod.mk.injEq] at hs
        obtain ⟨rfl, rfl⟩ := hs
        rcases bnd_sound h hmx hq with ⟨rfl, _⟩ | ⟨om, km, rfl, hom⟩
        ·simp at hms
        ·rcases bnd_sound h hhi hh1 with ⟨rfl, _⟩ | ⟨oh, kh, rfl, hoh⟩
         ·simp at hhs
         ·refine ⟨.slice A 0 0, ?_, post_val h hd (F := fun _ => False) (.own0 (fun _ h => h)) (fun _ h => h)⟩
          rw [hv]
          have := sliceBounds_run3 (P := P) w true (len := n) (cap := c) (k0 := km) (map_bnd (a := a) (bnd_sound h hlo hl1)) ⟨kh, rfl⟩ (by omega)
          simp [Instr.sliceAt, Instr.slice, run_underlying hun, hom, hoh, this, hT.szOf hkn]
       ·cases hs
      ·cases hs
     ·rename_i hms
      have hmn : mx = none := by simpa using hms
      subst hmn
      have hrun : (Instr.sliceAt t (a.eval x) (lo.map a.eval) (hi.map a.eval) ((none : Option Operand).map a.eval)).run P w = .ok (.slice (if c = l then A else A.map (·.add (l * T.size e'))) (hh - l) (c - l)) w := by
       rw [hv]
       have := sliceBounds_run (P := P) w true (len := n) (cap := c) (map_bnd (a := a) (bnd_sound h hlo hl1)) (map_bnd (a := a) (bnd_sound h hhi hh1)) h1 (by omega)
       simp [Instr.sliceAt, Instr.slice, run_underlying hun, this, hT.szOf hkn]
      refine ⟨_, hrun, ?_⟩
      split at hs
      ·simp only [Option.some.injEq, Prod.mk.injEq] at hs
       obtain ⟨rfl, rfl⟩ := hs
       obtain ⟨us, hus⟩ := hnone rfl
       refine post_val h hd (sl_cut (us := us) hn hnc hcm (fun i x hi => ?_) (fun i x hi => ?_) h1 h2) (fun _ h => h)
       ·obtain ⟨ad, q1, q2, q3, _⟩ := hus i x hi; exact ⟨ad, q1, q2, q3⟩
       ·obtain ⟨ad, _, _, _, q4⟩ := hus i x hi; exact q4
      ·rename_i L n1 m1
       split at hs
       ·split at hs
        ·rename_i ys hys
         simp only [Option.some.injEq, Prod.mk.injEq] at hs
         obtain ⟨rfl, rfl⟩ := hs
         obtain ⟨t', p, rfl, hg, hfo, her⟩ := hsome L n1 m1 rfl
         obtain ⟨v', Fo, hfo', hWo, hsub, hset, _⟩ := h.rel.focus hg
         rw [hfo] at hfo'
         injection hfo' with hfo'
         subst hfo'
         have hfz : frz (.own e' xs) = some (.sl e' ys) := by simp [frz, hys]
         have hno : (D.sl e' ys).hasObj = false := rfl
         have hk := Keeps.set0 (w := w) (rv := rvOf a gh) hg hno
         have hWf := hWo.freeze _ hfz (S' := fun k => S k ∨ Fo k) (fun k hk => .inr hk) (fun k hk => .inl hk)
         have hrel := hset w (fun k => S k ∨ Fo k) _ (.sl e' ys) (fun _ => False) rfl (fun k u hu hn => ⟨rfl, (by
           rintro (hs | hf)
           ·exact (h.rel.val u).notS k hu hs
           ·exact hn hf), id⟩) (fun k hk => ⟨.inl hk, rfl⟩) (by
           rintro k (hs | hf)
           ·exact h.rel.lt k hs
           ·exact hWo.lt k hf) hk hWf.up
         obtain ⟨hl', _⟩ := frzs_get hys
         refine post_put hrel (F := fun _ => False) ?_ (fun _ _ _ h => h.elim) (Step.of_sub (fun k hk => .inl hk) ?_ ?_) (fun _ h => h.elim) h.defs h.size h.small hd
         ·cases hWf with
          | sl us hE hn' hc' hm' hx' hw' => exact sl_cut (us := us) (by rw [hl']; exact hn) hnc hcm hx' hw' h1 h2
         ·rintro k (hs | hf)
          ·exact .inl hs
          ·exact .inr ⟨t', hsub k hf⟩
         ·intro u k hu
          by_cases hut : u = t'
          ·subst hut; simp only [upd_same, or_false] at hu; exact ⟨u, hu.1⟩
          ·rw [upd_other _ _ hut] at hu; exact ⟨u, hu⟩
        ·cases hs
       ·simp only [viewS, Option.some.injEq, Prod.mk.injEq] at hs
        obtain ⟨rfl, rfl⟩ := hs
        obtain ⟨t', p, rfl, hg, hfo, her⟩ := hsome L n1 m1 rfl
        refine post_val h hd (F := fun _ => False) (.vs (fun _ h => h) (by omega) (by omega) (fun h0 => ?_)) (fun _ h => h)
        have hsz := known_pos hkn
        have hxl : 0 < xs.length := by rw [hn]; exact Nat.mul_pos (by omega) hsz
        obtain ⟨ad, _, _, rfl, _⟩ := hcell 0 _ (List.getElem?_eq_getElem hxl)
        rw [if_neg (by omega)]
        exact ⟨_, rfl, her, fun _ => ⟨_, _, hfo, rfl, rfl⟩⟩
    ·cases hs
   ·cases hs
 ·cases hs

theorem cut_sound (hT : TyOk P T) (h : Fr T N gh s a w S Fs) {pm : Pm} {dst : Option Tmp} (hd : dstOk N dst) {t : TypeId} {x : Operand} {hi : Option Operand} (hx : opdOk N x)
  (hhi : ∀ o, hi = some o → opdOk N o) {r : D} (hs : opCut T pm s t x hi = some (r, s')) :
  ∃ v, (Instr.sliceAt t (a.eval x) none (hi.map a.eval) none).run P w = .ok v w ∧ Post T gh N (s'.putO dst r) w S Fs (a.put dst v) w := by
 unfold opCut at hs
 split at hs
 ·rename_i e' hty
  split at hs
  ·rename_i e xs s1 htk
   have htk : take T pm s t x = some (.own e xs, s1) := by
    split at htk
    ·exact htk
    ·cases htk
   obtain ⟨S1, Fs1, F, rel1, hh, hk1, hst1, hFF, hFs1⟩ := take_sound h.rel h.small hx htk
   split at hs
   ·rename_i q hq
    split at hs
    ·rename_i hc
     simp only [Option.some.injEq, Prod.mk.injEq] at hs
     obtain ⟨rfl, rfl⟩ := hs
     obtain ⟨rfl, hkn, hle⟩ := hc
     have hun := hT.slice hty
     have hv := hh.val
     obtain ⟨n, c, A, hvx, hn, hnc, F', hW', hsub⟩ : ∃ (n c : Nat) (A : Option Addr), a.eval x = .slice A n c ∧ xs.length = n * T.size e' ∧ n ≤ c ∧ ∃ F' : Nat → Prop,
       WR T s1 (rvOf a gh) w S1 (.own e' (xs.take (q * T.size e'))) (.slice A q c) F' ∧ ∀ k, F' k → F k := by
      generalize a.eval x = vx at hv
      cases hv with
      | own0 hE =>
       refine ⟨0, 0, _, rfl, by simp, Nat.le_refl _, fun _ => False, ?_, fun _ h => h.elim⟩
       have hq0 : q = 0 := by
        have : T.len e' ([] : List D) = 0 := by unfold Tys.len; split <;> simp
        omega
       subst hq0
       simpa using (W.own0 (fun _ h => h))
      | own us Fi hb hz hn hnc hm hx hF hFb hdj hSb hw =>
       rename_i b o n c cs
       rw [len_eq hkn hn] at hle
       have hlen : q * T.size e' ≤ xs.length := by rw [hn]; exact Nat.mul_le_mul_right _ hle
       have hgt : ∀ (i : Nat) (y : D), (xs.take (q * T.size e'))[i]? = some y → xs[i]? = some y := fun i y hy => by
        have hl := (List.getElem?_eq_some_iff.1 hy).1
        simp only [List.length_take] at hl
        rwa [List.getElem?_take_of_lt (by omega)] at hy
       refine ⟨n, c, _, rfl, hn, hnc, fun k => k = b ∨ ∃ i, i < (xs.take (q * T.size e')).length ∧ Fi i k, ?_, ?_⟩
       ·refine .own us Fi hb hz (by simp only [List.length_take]; rw [Nat.min_eq_left hlen]) (by omega) hm (fun i y hy => hx i y (hgt i y hy)) (fun k => Iff.rfl) ?_ ?_ hSb (fun i y hy => hw i y (hgt i y hy))
        ·intro i hi; simp only [List.length_take] at hi; exact hFb i (by omega)
        ·intro i j k hi hj; simp only [List.length_take] at hi hj; exact hdj i j k (by omega) (by omega)
       ·rintro k (rfl | ⟨i, hi, hf⟩)
        ·exact (hF _).2 (.inl rfl)
        ·simp only [List.length_take] at hi; exact (hF k).2 (.inr ⟨i, by omega, hf⟩)
     rw [len_eq hkn hn] at hle hq
     refine ⟨.slice A q c, ?_, post_put rel1 hW' (fun t k _ hf => hh.apart t k (hsub k hf)) hst1 (fun k hf => .inl (hFF k (hsub k hf))) h.defs h.size h.small hd⟩
     rw [hvx]
     have := sliceBounds_run (P := P) w true (len := n) (cap := c) (l := 0) (lo := none) (.inl ⟨rfl, rfl⟩) (map_bnd (a := a) (bnd_sound h hhi hq)) (Nat.zero_le _) (by omega)
     have hA : (if c = 0 then A else A.map (·.add (0 * T.size e'))) = A := by
      split
      ·rfl
      ·cases A with
       | none => rfl
       | some ad => simp [add_zero]
     simp only [Instr.sliceAt, Option.map_none, Instr.slice, Sem.run_bind, run_underlying hun, Result.andThen_ok, this, hT.szOf hkn, Sem.run_pure]
     rw [hA]; rfl
    ·cases hs
   ·cases hs
  ·cases hs
 ·cases hs

theorem cutF_sound (hT : TyOk P T) (h : Fr T N gh s a w S Fs) {pm : Pm} {dst : Option Tmp} (hd : dstOk N dst) {t : TypeId} {x : Operand} {lo : Option Operand} (hx : opdOk N x)
  (hlo : ∀ o, lo = some o → opdOk N o) {r : D} (hs : opCutF T pm s t x lo = some (r, s')) :
  ∃ v, (Instr.sliceAt t (a.eval x) (lo.map a.eval) none none).run P w = .ok v w ∧ Post T gh N (s'.putO dst r) w S Fs (a.put dst v) w := by
 unfold opCutF at hs
 split at hs
 ·rename_i e' hty
  split at hs
  ·rename_i e xs s1 htk
   have htk : take T pm s t x = some (.own e xs, s1) := by
    split at htk
    ·exact htk
    ·cases htk
   obtain ⟨S1, Fs1, F, rel1, hh, hk1, hst1, hFF, hFs1⟩ := take_sound h.rel h.small hx htk
   split at hs
   ·rename_i q hq
    split at hs
    ·rename_i hc
     simp only [Option.some.injEq, Prod.mk.injEq] at hs
     obtain ⟨rfl, rfl⟩ := hs
     obtain ⟨rfl, hkn, hle⟩ := hc
     have hun := hT.slice hty
     have hpos := known_pos hkn
     have hv := hh.val
     obtain ⟨n, c, A, hvx, hn, hnc, hqn, F', hW', hsub⟩ : ∃ (n c : Nat) (A : Option Addr), a.eval x = .slice A n c ∧ xs.length = n * T.size e' ∧ n ≤ c ∧ q ≤ n ∧ ∃ F' : Nat → Prop,
       WR T s1 (rvOf a gh) w S1 (.own e' (xs.drop (q * T.size e'))) (.slice (if c - q = 0 then A else A.map (·.add (q * T.size e'))) (n - q) (c - q)) F' ∧ ∀ k, F' k → F k := by
      generalize a.eval x = vx at hv
      cases hv with
      | own0 hE =>
       have hq0 : q = 0 := by
        have : T.len e' ([] : List D) = 0 := by unfold Tys.len; split <;> simp
        omega
       subst hq0
       refine ⟨0, 0, _, rfl, by simp, Nat.le_refl _, Nat.le_refl _, fun _ => False, ?_, fun _ h => h.elim⟩
       simpa using (W.own0 (fun _ h => h))
      | own us Fi hb hz hn hnc hm hx hF hFb hdj hSb hw =>
       rename_i b o n c cs
       rw [len_eq hkn hn] at hle
       refine ⟨n, c, _, rfl, hn, hnc, hle, ?_⟩
       by_cases hcq : c - q = 0
       ·have hqn : n = q := by omega
        subst hqn
        have hnil : xs.drop (n * T.size e') = [] := List.drop_eq_nil_of_le (by omega)
        refine ⟨fun _ => False, ?_, fun _ h => h.elim⟩
        rw [hnil, hcq, Nat.sub_self]
        exact .own0 (fun _ h => h)
       ·rw [if_neg hcq]
        have hgt : ∀ (i : Nat) (y : D), (xs.drop (q * T.size e'))[i]? = some y → xs[q * T.size e' + i]? = some y := fun i y hy => by rwa [List.getElem?_drop] at hy
        have hdl : (xs.drop (q * T.size e')).length = xs.length - q * T.size e' := List.length_drop ..
        refine ⟨fun k => k = b ∨ ∃ i, i < (xs.drop (q * T.size e')).length ∧ Fi (q * T.size e' + i) k, ?_, ?_⟩
        ·show WR T s1 (rvOf a gh) w S1 _ (.slice (some ((⟨b, o, none⟩ : Addr).add (q * T.size e'))) (n - q) (c - q)) _
         rw [add_off]
         have hmul : q * T.size e' + (c - q) * T.size e' = c * T.size e' := by rw [← Nat.add_mul]; congr 1; omega
         refine .own (fun i => us (q * T.size e' + i)) (fun i => Fi (q * T.size e' + i)) hb (by omega) (by rw [hdl, hn, Nat.sub_mul]) (by omega) (by omega) (fun i y hy => ?_) (fun k => Iff.rfl) (fun i hi => hFb _ (by omega)) (fun i j k hi hj hij => hdj _ _ k (by omega) (by omega) (by omega)) hSb (fun i y hy => hw _ y (hgt i y hy))
         rw [Nat.add_assoc]; exact hx _ y (hgt i y hy)
        ·rintro k (rfl | ⟨i, hi, hf⟩)
         ·exact (hF _).2 (.inl rfl)
         ·exact (hF k).2 (.inr ⟨_, by omega, hf⟩)
     refine ⟨_, ?_, post_put rel1 hW' (fun t k _ hf => hh.apart t k (hsub k hf)) hst1 (fun k hf => .inl (hFF k (hsub k hf))) h.defs h.size h.small hd⟩
     rw [hvx]
     have := sliceBounds_run (P := P) w true (len := n) (cap := c) (l := q) (h := n) (hi := none) (map_bnd (a := a) (bnd_sound h hlo hq)) (.inl ⟨rfl, rfl⟩) hqn hnc
     simp only [Instr.sliceAt, Option.map_none, Instr.slice, Sem.run_bind, run_underlying hun, Result.andThen_ok, this, hT.szOf hkn, Sem.run_pure]
     rw [show (if c - q = 0 then A else A.map (·.add (q * T.size e'))) = (if c = q then A else A.map (·.add (q * T.size e'))) from ite_congr (propext ⟨fun _ => by omega, fun _ => by omega⟩) (fun _ => rfl) (fun _ => rfl)]
    ·cases hs
   ·cases hs
  ·cases hs
 ·cases hs

theorem appZ_sound (hT : TyOk P T) (h : Fr T N gh s a w S Fs) {pm : Pm} {dst : Option Tmp} (hd : dstOk N dst) {t : TypeId} {x y : Operand} (hx : opdOk N x) (hy : opdOk N y) {r : D} (ty : TypeId)
  (hz : isZ (ev T s t y) = true) (hap : opAppZ T pm s t x = some (r, s')) :
  ∃ v w', (Builtin.append_ #[t, t] ty #[a.eval x, a.eval y]).run P w = .ok v w' ∧ Post T gh N (s'.putO dst r) w S Fs (a.put dst v) w' := by
 obtain ⟨A, c, hvy⟩ : ∃ A c, a.eval y = .slice A 0 c := by
  unfold isZ at hz
  split at hz
  ·rename_i A c he
   have hW := ev_W h.rel h.small hy he
   generalize a.eval y = v at *
   cases hW with
   | konst => exact ⟨_, _, rfl⟩
  ·cases hz
 unfold opAppZ at hap
 split at hap
 ·rename_i e hty
  split at hap
  ·rename_i e1 xs s1 htk
   obtain ⟨S1, Fs1, F, rel1, hh, hk1, hst1, hFF, hFs1⟩ := take_sound h.rel h.small hx htk
   split at hap
   ·rename_i hc
    simp only [Option.some.injEq, Prod.mk.injEq] at hap
    obtain ⟨rfl, rfl⟩ := hap
    obtain ⟨rfl, hkn⟩ := hc
    obtain ⟨B, n, cap, hvx, hle⟩ : ∃ B n cap, a.eval x = .slice B n cap ∧ n ≤ cap := by
     rcases own_row hh.val with ⟨B, h1, _, _⟩ | ⟨b, n, cap, olds, Fi, ⟨o, h1⟩, hc, _⟩
     ·exact ⟨_, _, _, h1, Nat.le_refl _⟩
     ·exact ⟨_, _, _, h1, hc⟩
    refine ⟨_, w, by rw [hvx, hvy]; exact run_append_zero hT hty hkn ty hle w, ?_⟩
    rw [← hvx]
    exact post_put rel1 hh.val (fun t k _ hf => hh.apart t k hf) hst1 (fun k hf => .inl (hFF k hf)) h.defs h.size h.small hd
   ·cases hap
  ·cases hap
 ·cases hap

/-- A test for nil. -/
theorem nilD_sound (h : Fr T N gh s a w S Fs) {pm : Pm} {x : Operand} (hx : opdOk N x) {t : TypeId} {d : D} (he : ev T s t x = some d) {b : Bool} (hb : nilD pm s d = some b) : ∃ A n c, a.eval x = .slice A n c ∧ b = A.isNone := by
 have hW := ev_W h.rel h.small hx he
 generalize hv : a.eval x = v at hW
 unfold nilD at hb
 split at hb
 ·simp only [Option.some.injEq] at hb
  subst hb
  cases hW with
  | sl us hE hn hc hm hcell hw =>
   obtain ⟨ad, hA, _⟩ := hcell 0 _ rfl
   exact ⟨_, _, _, rfl, by rw [hA]; rfl⟩
 ·simp only [Option.some.injEq] at hb
  subst hb
  cases hW with
  | own => exact ⟨_, _, _, rfl, rfl⟩
 ·rename_i L n m
  split at hb
  ·rename_i e y ys hl
   simp only [Option.some.injEq] at hb
   subst hb
   obtain ⟨u, p, rfl, hg, _, hval⟩ := look_spec hl
   cases hW with
   | vw hE hvr =>
    have hfo := hvr.2 hval
    obtain ⟨v', F, hfo', hW', _⟩ := h.rel.focus hg
    rw [hfo] at hfo'
    injection hfo' with hfo'
    subst hfo'
    cases hW' with
    | own => exact ⟨_, _, _, rfl, rfl⟩
  ·cases hb
 ·simp only [Option.some.injEq] at hb
  subst hb
  cases hW with
  | konst => exact ⟨_, _, _, rfl, rfl⟩
 ·cases hb

/-- Where a copy goes. -/
theorem dstV_sound (h : Fr T N gh s a w S Fs) {pm : Pm} {x : Operand} (hx : opdOk N x) {d : D} {F : Nat → Prop} (hW : WR T s (rvOf a gh) w S d (a.eval x) F) (he : ∀ u, x = .tmp u → s.v u = d)
  {e : TypeId} {L : Place} {xs : List D} {lo len : Nat} (hs : dstV pm s x d = some (e, L, xs, lo, len)) (h1 : T.size e = 1) :
  ∃ A q t p hv, a.eval x = .slice A len q ∧ L = t :: p ∧ getp (s.v t) p = some (.own e xs) ∧ foll w (rvOf a gh) L = some hv ∧ lo + len ≤ xs.length ∧ (0 < len → ∃ ad, addrOf hv = some ad ∧ A = some (ad.add lo)) := by
 unfold dstV at hs
 split at hs
 ·rename_i e0 L0 n m lo0 len0
  split at hs
  ·rename_i e' xs' hl
   split at hs
   ·rename_i hc
    obtain ⟨rfl, hle⟩ := hc
    simp only [Option.some.injEq, Prod.mk.injEq] at hs
    obtain ⟨rfl, rfl, rfl, rfl, rfl⟩ := hs
    obtain ⟨t, p, rfl, hg, hobj, hval⟩ := look_spec hl
    obtain ⟨v', Fo, hfo, _⟩ := h.rel.focus hg
    generalize a.eval x = v at *
    cases hW with
    | vs hE hl2 hm hv =>
     refine ⟨_, _, t, p, v', rfl, rfl, hg, hfo, hle, fun h0 => ?_⟩
     obtain ⟨ad, rfl, hp⟩ := hv h0
     obtain ⟨hv0, ad0, e1, e2, e3⟩ := hp.2 hval
     rw [hfo] at e1
     injection e1 with e1
     subst e1
     rw [h1, Nat.mul_one] at e3
     injection e3 with e3
     exact ⟨ad0, e2, e3⟩
   ·cases hs
  ·cases hs
 ·split at hs
  ·rename_i e1 xs1 L1 n1 m1 hsl
   simp only [Option.some.injEq, Prod.mk.injEq] at hs
   obtain ⟨rfl, rfl, rfl, rfl, rfl⟩ := hs
   obtain ⟨A, n, c, hv, hn, hnc, hcm, hcell, hnone, hsome⟩ := sliceD_sound h hx hW he hsl
   rw [h1, Nat.mul_one] at hn
   obtain ⟨t, p, rfl, hg, hfo, _⟩ := hsome L1 n1 m1 rfl
   refine ⟨A, c, t, p, _, by rw [hv, hn], rfl, hg, hfo, by omega, fun h0 => ?_⟩
   obtain ⟨ad, _, _, rfl, _⟩ := hcell 0 _ (List.getElem?_eq_getElem h0)
   refine ⟨ad, rfl, ?_⟩
   unfold Addr.add
   cases ad with
   | mk b i m => cases m <;> simp
  ·cases hs

/-- What a copy takes. -/
theorem srcV_sound (h : Fr T N gh s a w S Fs) {pm : Pm} {x : Operand} (hx : opdOk N x) {d : D} {F : Nat → Prop} (hW : WR T s (rvOf a gh) w S d (a.eval x) F) (he : ∀ u, x = .tmp u → s.v u = d)
  {e : TypeId} {ys : List D} (hs : srcV pm s x d = some (e, ys)) (h1 : T.size e = 1) :
  ∃ A q, a.eval x = .slice A ys.length q ∧ ∀ i y, ys[i]? = some y → ∃ ad u Fi, A = some ad ∧ w.cell? (ad.add i) = some u ∧ WR T s (rvOf a gh) w S y u Fi := by
 unfold srcV at hs
 split at hs
 ·rename_i e0 L0 n m lo0 len0
  split at hs
  ·rename_i e' xs' hl
   split at hs
   ·rename_i hc
    obtain ⟨rfl, hle⟩ := hc
    simp only [Option.some.injEq, Prod.mk.injEq] at hs
    obtain ⟨rfl, rfl⟩ := hs
    obtain ⟨t, p, rfl, hg, hobj, hval⟩ := look_spec hl
    obtain ⟨v', Fo, hfo, hWo, _⟩ := h.rel.focus hg
    generalize a.eval x = v at *
    cases hW with
    | vs hE hl2 hm hv =>
     have hln : ((xs'.drop lo0).take len0).length = len0 := by simp; omega
     rw [hln]
     refine ⟨_, _, rfl, fun i y hi => ?_⟩
     have hlt := (List.getElem?_eq_some_iff.1 hi).1
     rw [hln] at hlt
     rw [List.getElem?_take_of_lt hlt, List.getElem?_drop] at hi
     obtain ⟨ad, rfl, hp⟩ := hv (by omega)
     obtain ⟨hv0, ad0, e1, e2, e3⟩ := hp.2 hval
     rw [hfo] at e1
     injection e1 with e1
     subst e1
     rw [h1, Nat.mul_one] at e3
     injection e3 with e3
     injection e3 with e3
     have hne : xs' ≠ [] := fun h0' => by rw [h0'] at hi; simp at hi
     obtain ⟨b, off, cs, te, us, Fi, hb1, hb2, hb3, hb4, _⟩ := objCells hWo hobj hne
     rw [e2] at hb1
     injection hb1 with hb1
     obtain ⟨g1, g2⟩ := hb4 (lo0 + i) y hi
     refine ⟨ad, us (lo0 + i), Fi (lo0 + i), rfl, ?_, g2⟩
     rw [e3, hb1, add_add, cell_off hb2]
     exact g1
   ·cases hs
  ·cases hs
 ·simp only [Option.map_eq_some_iff, Prod.mk.injEq] at hs
  obtain ⟨⟨e1, xs1, o⟩, hsl, rfl, rfl⟩ := hs
  obtain ⟨A, n, c, hv, hn, hnc, hcm, hcell, _⟩ := sliceD_sound h hx hW he hsl
  rw [h1, Nat.mul_one] at hn
  exact ⟨A, c, by rw [hv, hn], hcell⟩

theorem setp_self : ∀ (p : Place) (d x : D), getp d p = some x → setp d p x = d
 | [], d, x, h => by rw [show getp d [] = some d by cases d <;> rfl] at h; injection h with h; subst h; cases d <;> rfl
 | c :: p, d, x, h => by
  have key : ∀ (xs : List D), ((xs[c]?).bind fun d => getp d p) = some x → xs.set c (setp (xs.getD c .undef) p x) = xs := fun xs hx => by
   obtain ⟨y, hy, hyp⟩ := Option.bind_eq_some_iff.1 hx
   rw [List.getD_eq_getElem?_getD, hy, Option.getD_some, setp_self p y x hyp]
   obtain ⟨hlt, rfl⟩ := List.getElem?_eq_some_iff.1 hy
   exact List.set_getElem_self hlt
  cases d <;> first | (simp [getp] at h; done) | (simp only [getp] at h; simp only [setp, key _ h])

theorem copy_sound (hT : TyOk P T) (h : Fr T N gh s a w S Fs) {pm : Pm} {dst : Option Tmp} (hd : dstOk N dst) {t t' : TypeId} {x y : Operand} (hx : opdOk N x) (hy : opdOk N y) (ty : TypeId) {da db r : D}
  (hea : ev T s t x = some da) (heb : ev T s t y = some db) (hr : opCopy T pm s t x y da db = some (r, s')) :
  ∃ v w', (Builtin.copy_ #[t, t'] ty #[a.eval x, a.eval y]).run P w = .ok v w' ∧ Post T gh N (s'.putO dst r) w S Fs (a.put dst v) w' := by
 unfold opCopy at hr
 split at hr
 ·rename_i e L xs lo len e' ys hds hsr
  split at hr
  ·rename_i hc
   simp only [Bool.and_eq_true, beq_iff_eq, Bool.not_eq_true'] at hc
   obtain ⟨⟨⟨⟨⟨⟨⟨hts, hee⟩, hkn⟩, hsz⟩, hox⟩, hoy⟩, hsol⟩, hwr⟩ := hc
   subst hee
   simp only [Option.some.injEq, Prod.mk.injEq] at hr
   obtain ⟨rfl, rfl⟩ := hr
   have hty : T.ty t = .slice e := by
    unfold Tys.isSl at hts
    split at hts
    ·rename_i e0 hq; rw [hq]; simp at hts; rw [hts]
    ·cases hts
   obtain ⟨A, q, t', p, hv, hvx, rfl, hg, hfo, hle, hadr⟩ := dstV_sound h hx (ev_W h.rel h.small hx hea) (ev_slot hea) hds hsz
   obtain ⟨B, q', hvy, hcell⟩ := srcV_sound h hy (ev_W h.rel h.small hy heb) (ev_slot heb) hsr hsz
   have hinfo : (P.info? e).map (·.size) = some 1 := by
    obtain ⟨i, q1, q2, _⟩ := hT.info hkn
    rw [q1, Option.map_some, q2, hsz]
   rcases Nat.eq_zero_or_pos (min len ys.length) with hk0 | hk0
   · -- nothing is copied
    have hspl : splice xs lo (ys.take (min len ys.length)) = xs := by rw [hk0, List.take_zero]; cases xs <;> rfl
    rw [hspl, hk0]
    have hset : s.set (t' :: p) (.own e xs) = s := by
     unfold St.set
     simp only [setp_self p _ _ hg]
     cases s with
     | mk v k m =>
      congr 1
      funext u
      simp only [upd]
      split
      ·rename_i hu; rw [hu]
      ·rfl
    rw [hset]
    refine ⟨goInt 0, w, ?_, post_val h hd (F := fun _ => False) (.int (fun _ h => h)) (fun _ h => h)⟩
    rw [hvx, hvy]
    exact run_copy_none w t t' ty e A B len q ys.length q' (hT.slice hty) hinfo (by show min ys.length len = 0; omega)
   ·have hlen : 0 < len := by omega
    have hyl : 0 < ys.length := by omega
    obtain ⟨ad, had, rfl⟩ := hadr hlen
    let zs := ys.take (min len ys.length)
    have hzl : zs.length = min len ys.length := by simp only [zs, List.length_take]; omega
    obtain ⟨v', Fo, hfo', hWo, hsub, hset, hstab⟩ := h.rel.focus hg
    rw [hfo] at hfo'
    injection hfo' with hfo'
    subst hfo'
    have hne : (D.own e xs).cells ≠ [] := fun h0 => by
     have h0' : xs = [] := h0
     rw [h0'] at hle; simp at hle; omega
    obtain ⟨b, off, cs, te, us, Fi, hb1, hb2, hb3, hb4, hb5, hb6, hb7, hb8, hb9⟩ := objCells hWo rfl hne
    rw [had] at hb1
    injection hb1 with hb1
    subst hb1
    have hb3' : off + xs.length ≤ cs.size := hb3
    -- the values that are copied
    have hval : ∀ i, i < zs.length → ∃ u, (∃ ad', B = some ad' ∧ w.cell? (ad'.add i) = some u) ∧ ∀ z, zs[i]? = some z → WR T s (rvOf a gh) w S z u (fun _ => False) ∧ u.oneCell' = true := fun i hi => by
     have hiy : i < ys.length := by omega
     have hzi : zs[i]? = ys[i]? := by simp only [zs]; rw [List.getElem?_take_of_lt (by omega)]
     obtain ⟨ad', u, Fu, h1, h2, h3⟩ := hcell i _ (List.getElem?_eq_getElem hiy)
     refine ⟨u, ⟨ad', h1, h2⟩, fun z hz => ?_⟩
     rw [hzi, List.getElem?_eq_getElem hiy] at hz
     injection hz with hz
     subst hz
     have hno := hasObjs_get hoy (List.getElem?_eq_getElem hiy)
     have hem := noObj_empty h3 hno
     have hFF : Fu = fun _ => False := funext fun k => propext ⟨fun hk => hem k hk, fun hk => hk.elim⟩
     subst hFF
     exact ⟨h3, (solid_one h3 (List.all_eq_true.1 hsol _ (List.getElem_mem hiy))).1⟩
    have hex : ∃ us2 : Nat → Value, ∀ i, i < zs.length → (∃ ad', B = some ad' ∧ w.cell? (ad'.add i) = some (us2 i)) ∧ ∀ z, zs[i]? = some z → WR T s (rvOf a gh) w S z (us2 i) (fun _ => False) ∧ (us2 i).oneCell' = true := by
     refine ⟨fun i => if hi : i < zs.length then (hval i hi).choose else undef, fun i hi => ?_⟩
     simp only [dif_pos hi]
     exact (hval i hi).choose_spec
    obtain ⟨us2, hus2⟩ := hex
    let vs := (List.range zs.length).map us2
    have hvsl : vs.length = zs.length := by simp [vs]
    have hvsi : ∀ i, i < zs.length → vs[i]? = some (us2 i) := fun i hi => by simp [vs, hi]
    obtain ⟨adB, hB, _⟩ := (hus2 0 (by omega)).1
    let cs' := (cs.toList.take (off + lo) ++ vs ++ cs.toList.drop (off + lo + vs.length)).toArray
    have hfit : off + lo + vs.length ≤ cs.size := by omega
    have hrun : (Builtin.copy_ #[t, t'] ty #[a.eval x, a.eval y]).run P w = .ok (goInt vs.length) (w.setRow b cs') := by
     rw [hvx, hvy, hB, add_off]
     refine run_copy_row P w t t' ty e b (off + lo) len q adB ys.length q' cs te vs (hT.slice hty) hinfo hb2 (by rw [hvsl, hzl]; show min len ys.length = min ys.length len; omega) (fun j v hj => ?_) hfit (fun v hv => ?_)
     ·have hlt := (List.getElem?_eq_some_iff.1 hj).1
      rw [hvsl] at hlt
      rw [hvsi j hlt] at hj
      injection hj with hj
      subst hj
      obtain ⟨ad', h1, h2⟩ := (hus2 j hlt).1
      rw [hB] at h1
      injection h1 with h1
      rw [h1]; exact h2
     ·obtain ⟨i, hi⟩ := List.getElem?_of_mem hv
      have hlt := (List.getElem?_eq_some_iff.1 hi).1
      rw [hvsl] at hlt
      rw [hvsi i hlt] at hi
      injection hi with hi
      rw [← hi]
      exact ((hus2 i hlt).2 _ (List.getElem?_eq_getElem hlt)).2
    have hfar : ∀ k, k ≠ b → (w.setRow b cs').heap[k]? = w.heap[k]? := fun k hk => setRow_far w b cs' hk
    have hbF : Fo b := (hb5 b).2 (.inl rfl)
    have hheap : (w.setRow b cs').heap[b]? = some (.cells cs' te (0, 0)) := setRow_heap w b cs cs' te (0, 0) hb2
    have hlz : lo + zs.length ≤ xs.length := by omega
    let ys' := splice xs lo zs
    have hys : ys'.length = xs.length := splice_length _ _ _ hlz
    let us' : Nat → Value := fun i => if lo ≤ i ∧ i < lo + zs.length then us2 (i - lo) else us i
    let Fi' : Nat → Nat → Prop := fun i => if lo ≤ i ∧ i < lo + zs.length then (fun _ => False) else Fi i
    let s1 := s.set (t' :: p) (.own e ys')
    have hsv : s1.v = upd s.v t' (setp (s.v t') p (.own e ys')) := rfl
    have hnoy : hasObjs ys' = false := hasObjs_of fun i z hz => by
     simp only [ys'] at hz
     rw [splice_get hlz] at hz
     split at hz
     ·have hz' : z ∈ ys := by
       have := List.mem_of_getElem? hz
       exact List.mem_of_mem_take this
      obtain ⟨j, hj⟩ := List.getElem?_of_mem hz'
      exact hasObjs_get hoy hj
     ·exact hasObjs_get hox hz
    have hkeep : Keeps s w (rvOf a gh) s1 (w.setRow b cs') (rvOf a gh) := by
     refine Keeps.inplace h.rel hg rfl hsv rfl (.inr ⟨rfl, fun _ => hnoy, fun hf => by cases hf⟩) (F := Fo) (fun u k hu hn => hfar k (fun e => hn (e ▸ hbF))) hsub (hstab _ (fun k hu hn => hfar k (fun e => hn (e ▸ hbF))))
    have hnewF : ∀ k u, Fs u k → ¬ Fo k → ¬ (k = b ∨ ∃ i, i < ys'.length ∧ Fi' i k) := by
     rintro k u hu hn (rfl | ⟨i, hi, hf⟩)
     ·exact hn hbF
     ·by_cases hci : lo ≤ i ∧ i < lo + zs.length
      ·simp only [Fi', hci, and_self, if_true] at hf
      ·simp only [Fi', hci, if_false] at hf
       exact hn ((hb5 k).2 (.inr ⟨i, by rw [hys] at hi; exact hi, hf⟩))
    have hS1b : ∀ k, S k → (w.setRow b cs').heap[k]? = w.heap[k]? := fun k hk => hfar k (fun e => hb8 (e ▸ hk))
    have hnew : WR T s1 (rvOf a gh) (w.setRow b cs') S (.own e ys') hv (fun k => k = b ∨ ∃ i, i < ys'.length ∧ Fi' i k) := by
     refine hb9 _ _ _ _ ys' cs' us' Fi' _ hys (by simp [cs']; omega) hheap hb8 (fun i z hz => ?_) (fun _ => Iff.rfl) (fun i hi => ?_) (fun i j k hi hj hij => ?_)
     ·simp only [ys'] at hz
      rw [splice_get hlz] at hz
      have hci' := arr_get hfit (off + i)
      by_cases hci : lo ≤ i ∧ i < lo + zs.length
      ·simp only [hci, and_self, if_true] at hz
       obtain ⟨h6, _⟩ := (hus2 (i - lo) (by omega)).2 z hz
       refine ⟨?_, ?_⟩
       ·show cs'[off + i]? = _
        rw [hci', if_pos (by omega), show off + i - (off + lo) = i - lo by omega, hvsi _ (by omega)]
        simp [us', hci]
       ·simp only [us', Fi', hci, and_self, if_true]
        exact WR.keep h6 hkeep (fun k hk => ⟨hk, hS1b k hk⟩) (fun k hf => hf.elim)
      ·simp only [hci, if_false] at hz
       obtain ⟨h5, h6⟩ := hb4 i z hz
       have hi := (List.getElem?_eq_some_iff.1 hz).1
       refine ⟨?_, ?_⟩
       ·show cs'[off + i]? = _
        rw [hci', if_neg (by omega), h5]
        simp [us', hci]
       ·simp only [us', Fi', hci, if_false]
        exact WR.keep h6 hkeep (fun k hk => ⟨hk, hS1b k hk⟩) (fun k hf => ⟨h6.notS k hf, hfar k (fun e => hb6 i hi (e ▸ hf))⟩)
     ·rw [hys] at hi
      by_cases hci : lo ≤ i ∧ i < lo + zs.length
      ·simp only [Fi', hci, and_self, if_true]; exact fun hf => hf
      ·simp only [Fi', hci, if_false]; exact hb6 i hi
     ·rw [hys] at hi hj
      by_cases hci : lo ≤ i ∧ i < lo + zs.length
      ·simp only [Fi', hci, and_self, if_true]; exact fun hf => hf.elim
      ·by_cases hcj : lo ≤ j ∧ j < lo + zs.length
       ·simp only [Fi', hcj, and_self, if_true]; exact fun _ hf => hf
       ·simp only [Fi', hci, hcj, if_false]; exact hb7 i j k hi hj hij
    have hrel := hset (w.setRow b cs') S s1 (.own e ys') _ hsv (fun k u hu hn => ⟨hfar k (fun e => hn (e ▸ hbF)), (h.rel.val u).notS k hu, hnewF k u hu hn⟩) (fun k hk => ⟨hk, hS1b k hk⟩)
     (fun k hk => by have := h.rel.lt k hk; simpa [World.setRow] using this) hkeep hnew
    refine ⟨_, _, hrun, ?_⟩
    have hres : goInt vs.length = .int .i64 ((min len ys.length : Nat) : Int) := by rw [hvsl, hzl]; rfl
    rw [hres]
    refine post_put hrel (F := fun _ => False) (.int (fun _ h => h)) (fun _ _ _ h => h.elim) ⟨rfl, rfl, rfl, by simp [World.setRow], fun k _ hn => hfar k (fun e => hn t' (e ▸ hsub b hbF)), fun _ h => h, fun _ h => .inl h, fun u k hu => ?_⟩ (fun _ h => h.elim) h.defs h.size h.small hd
    by_cases hut : u = t'
    ·subst hut
     simp only [upd_same] at hu
     rcases hu with ⟨hu, _⟩ | hb | ⟨i, hi, hf⟩
     ·exact .inl ⟨u, hu⟩
     ·subst hb; exact .inl ⟨u, hsub _ hbF⟩
     ·rw [hys] at hi
      by_cases hci : lo ≤ i ∧ i < lo + zs.length
      ·simp only [Fi', hci, and_self, if_true] at hf
      ·simp only [Fi', hci, if_false] at hf
       exact .inl ⟨u, hsub k ((hb5 k).2 (.inr ⟨i, hi, hf⟩))⟩
    ·rw [upd_other _ _ hut] at hu
     exact .inl ⟨u, hu⟩
  ·cases hr
 ·cases hr
theorem run_clear_row (w : World) {t e : TypeId} (ty : TypeId) {z : Value} (ht : P.underlying t = some (.slice e)) (hv : ∀ w : World, (zeroValue e).run P w = .ok z w) (hz : z.cells = #[z]) (h1 : z.oneCell' = true) (g o n c : Nat) (cur : Array Value) (te : TypeId) (hg : w.heap[g]? = some (.cells cur te (0, 0)))
  (hfit : o + n ≤ cur.size) (hn : 0 < n) : (Builtin.clear_ #[t] ty #[.slice (some ⟨g, o, none⟩) n c]).run P w = .ok (.tuple #[]) (w.setRow g (cur.toList.take o ++ List.replicate n z ++ cur.toList.drop (o + n)).toArray) := by
 have hzc : (Builtin.zeroCells z.cells n).toList = List.replicate n z := by
  rw [hz]
  simp [Builtin.zeroCells]
  apply List.ext_getElem
  ·simp
  ·intro i h1 h2
   simp [Nat.mod_one]
 have hst := run_storeCells_at P g o te (List.replicate n z) 0 cur w hg (by simpa using hfit) (fun v hv' => by rw [List.eq_of_mem_replicate hv']; exact h1)
 simp only [Nat.add_zero, List.length_replicate] at hst
 obtain ⟨m, rfl⟩ : ∃ m, n = m + 1 := ⟨n - 1, by omega⟩
 simp [Builtin.clear_, run_underlying ht, hv, hzc, hst]

theorem run_clear_none (w : World) {t e : TypeId} (ty : TypeId) (ht : P.underlying t = some (.slice e)) (A : Option Addr) (c : Nat) : (Builtin.clear_ #[t] ty #[.slice A 0 c]).run P w = .ok (.tuple #[]) w := by
 cases A <;> simp [Builtin.clear_, run_underlying ht]

theorem zero1_Z {T : Tys} {e : TypeId} (hT : TyOk P T) (hk : T.known e = true) (hs : T.isStruct e = false) :
  ∃ z, (∀ w : World, (zeroValue e).run P w = .ok z w) ∧ z.cells = #[z] ∧ ∀ (S : Nat → Prop) (w : World) (V : Place → Nat → Nat → Value → Prop) (Vp : Place → Nat → Nat → Nat → Value → Prop), W T S w V Vp (T.zero1 e) z (fun _ => False) := by
 obtain ⟨i, h1, h2, h3, h4⟩ := hT.info hk
 have hzo : zeroOf T e = zeroV T e := by
  unfold zeroOf
  unfold Tys.isStruct Ty.isStruct at hs
  split
  ·rename_i fs hq; rw [hq] at hs; simp at hs
  ·rfl
 refine ⟨zeroV T e, fun w => by simp [zeroValue, typeInfo, h1, h4, hzo], ?_, fun S w V Vp => zero1_W e⟩
 unfold zeroV; cases T.ty e <;> rfl

theorem Keeps.bump (s : St) (w : World) (rv : Nat → Value) (u : Nat) : Keeps s w rv (s.bump u) w rv := by
 refine ⟨fun _ => Nat.le_refl _, fun t => ?_, fun L n m he hv => ⟨?_, rfl⟩⟩
 ·simp only [St.bump]
  by_cases h : t = u
  ·subst h; simp [upd_same]
  ·simp [upd_other _ _ h]
 ·obtain ⟨t, p, d, rfl, h1, h2, h3, h4⟩ := hv
  refine ⟨t, p, d, rfl, h1, ?_, h3, h4⟩
  rcases h2 with h2 | h2
  ·exact .inl h2
  ·right
   simp only [St.bump] at h2
   by_cases h : t = u
   ·subst h
    simp only [upd_same] at h2
    have := he.2
    simp only [List.headD_cons] at this
    omega
   ·rwa [upd_other _ _ h] at h2
theorem Rel.bump {rv : Nat → Value} (h : Rel T s rv w S Fs) (u : Nat) : Rel T (s.bump u) rv w S Fs := ⟨fun t => (h.val t).same (Keeps.bump s w rv u), h.disj, h.lt⟩

theorem clear_sound (hT : TyOk P T) (h : Fr T N gh s a w S Fs) {pm : Pm} {dst : Option Tmp} (hd : dstOk N dst) {t : TypeId} {x : Operand} (hx : opdOk N x) (ty : TypeId) {da r : D}
  (hea : ev T s t x = some da) (hr : opClear T pm s t x da = some (r, s')) :
  ∃ v w', (Builtin.clear_ #[t] ty #[a.eval x]).run P w = .ok v w' ∧ Post T gh N (s'.putO dst r) w S Fs (a.put dst v) w' := by
 unfold opClear at hr
 split at hr
 ·rename_i e L xs lo len hds
  split at hr
  ·rename_i hc
   simp only [Bool.and_eq_true, beq_iff_eq, Bool.not_eq_true'] at hc
   obtain ⟨⟨⟨⟨⟨hts, hkn⟩, hsz⟩, hstr⟩, hsol⟩, hwr⟩ := hc
   simp only [Option.some.injEq, Prod.mk.injEq] at hr
   obtain ⟨rfl, rfl⟩ := hr
   have hty : T.ty t = .slice e := by
    unfold Tys.isSl at hts
    split at hts
    ·rename_i e0 hq; rw [hq]; simp at hts; rw [hts]
    ·cases hts
   obtain ⟨A, q, t', p, hv, hvx, rfl, hg, hfo, hle, hadr⟩ := dstV_sound h hx (ev_W h.rel h.small hx hea) (ev_slot hea) hds hsz
   obtain ⟨z, hz, hzc, hzW⟩ := zero1_Z (P := P) hT hkn hstr
   have tupW : ∀ (s1 : St) (w1 : World) (S1 : Nat → Prop), WR T s1 (rvOf a gh) w1 S1 (.tup []) (.tuple #[]) (fun _ => False) := fun _ _ _ =>
    .tup (fun _ => undef) (fun _ _ => False) rfl (by simp) (by simp) (by simp) (by simp)
   rcases Nat.eq_zero_or_pos len with hk0 | hk0
   ·subst hk0
    have hspl : splice xs lo (List.replicate 0 (T.zero1 e)) = xs := by cases xs <;> rfl
    rw [hspl]
    have hset : s.set (t' :: p) (.own e xs) = s := by
     unfold St.set
     simp only [setp_self p _ _ hg]
     cases s with
     | mk v k m =>
      congr 1
      funext u
      simp only [upd]
      split
      ·rename_i hu; rw [hu]
      ·rfl
    rw [hset]
    have hb : Fr T N gh (s.bump ((t' :: p).headD 0)) a w S Fs := ⟨h.rel.bump _, h.defs, h.size, h.small⟩
    refine ⟨.tuple #[], w, ?_, post_val hb hd (F := fun _ => False) (tupW _ _ _) (fun _ h => h)⟩
    rw [hvx]
    exact run_clear_none w ty (hT.slice hty) A q
   ·obtain ⟨ad, had, rfl⟩ := hadr hk0
    let zs := List.replicate len (T.zero1 e)
    have hzl : zs.length = len := by simp only [zs, List.length_replicate]
    obtain ⟨v', Fo, hfo', hWo, hsub, hset, hstab⟩ := h.rel.focus hg
    rw [hfo] at hfo'
    injection hfo' with hfo'
    subst hfo'
    have hne : (D.own e xs).cells ≠ [] := fun h0 => by
     have h0' : xs = [] := h0
     rw [h0'] at hle; simp at hle; omega
    obtain ⟨b, off, cs, te, us, Fi, hb1, hb2, hb3, hb4, hb5, hb6, hb7, hb8, hb9⟩ := objCells hWo rfl hne
    rw [had] at hb1
    injection hb1 with hb1
    subst hb1
    have hb3' : off + xs.length ≤ cs.size := hb3
    let us2 : Nat → Value := fun _ => z
    have hus2 : ∀ i, i < zs.length → ∀ y, zs[i]? = some y → WR T s (rvOf a gh) w S y (us2 i) (fun _ => False) ∧ (us2 i).oneCell' = true := fun i hi y hy => by
     have : y = T.zero1 e := by
      have := List.mem_of_getElem? hy
      exact List.eq_of_mem_replicate this
     subst this
     exact ⟨hzW _ _ _ _, (solid_one (hzW S w V0 Vp0) hsol).1⟩
    let vs := List.replicate len z
    have hvsl : vs.length = zs.length := by simp [vs, zs]
    have hvsi : ∀ i, i < zs.length → vs[i]? = some (us2 i) := fun i hi => by simp only [vs, us2]; rw [List.getElem?_replicate, if_pos (by omega)]
    let cs' := (cs.toList.take (off + lo) ++ vs ++ cs.toList.drop (off + lo + vs.length)).toArray
    have hfit : off + lo + vs.length ≤ cs.size := by omega
    have hrun : (Builtin.clear_ #[t] ty #[a.eval x]).run P w = .ok (.tuple #[]) (w.setRow b cs') := by
     rw [hvx, add_off]
     have := run_clear_row (P := P) w ty (hT.slice hty) hz hzc (solid_one (hzW S w V0 Vp0) hsol).1 b (off + lo) len q cs te hb2 (by omega) hk0
     rw [this]
     simp only [cs', vs, List.length_replicate]
    have hfar : ∀ k, k ≠ b → (w.setRow b cs').heap[k]? = w.heap[k]? := fun k hk => setRow_far w b cs' hk
    have hbF : Fo b := (hb5 b).2 (.inl rfl)
    have hheap : (w.setRow b cs').heap[b]? = some (.cells cs' te (0, 0)) := setRow_heap w b cs cs' te (0, 0) hb2
    have hlz : lo + zs.length ≤ xs.length := by omega
    let ys' := splice xs lo zs
    have hys : ys'.length = xs.length := splice_length _ _ _ hlz
    let us' : Nat → Value := fun i => if lo ≤ i ∧ i < lo + zs.length then us2 (i - lo) else us i
    let Fi' : Nat → Nat → Prop := fun i => if lo ≤ i ∧ i < lo + zs.length then (fun _ => False) else Fi i
    let s1 := (s.set (t' :: p) (.own e ys')).bump t'
    have hsv : s1.v = upd s.v t' (setp (s.v t') p (.own e ys')) := rfl
    have hkeep : Keeps s w (rvOf a gh) s1 (w.setRow b cs') (rvOf a gh) := by
     refine Keeps.inplace h.rel hg rfl hsv rfl (.inl rfl) (F := Fo) (fun u k hu hn => hfar k (fun e => hn (e ▸ hbF))) hsub (hstab _ (fun k hu hn => hfar k (fun e => hn (e ▸ hbF))))
    have hnewF : ∀ k u, Fs u k → ¬ Fo k → ¬ (k = b ∨ ∃ i, i < ys'.length ∧ Fi' i k) := by
     rintro k u hu hn (rfl | ⟨i, hi, hf⟩)
     ·exact hn hbF
     ·by_cases hci : lo ≤ i ∧ i < lo + zs.length
      ·simp only [Fi', hci, and_self, if_true] at hf
      ·simp only [Fi', hci, if_false] at hf
       exact hn ((hb5 k).2 (.inr ⟨i, by rw [hys] at hi; exact hi, hf⟩))
    have hS1b : ∀ k, S k → (w.setRow b cs').heap[k]? = w.heap[k]? := fun k hk => hfar k (fun e => hb8 (e ▸ hk))
    have hnew : WR T s1 (rvOf a gh) (w.setRow b cs') S (.own e ys') hv (fun k => k = b ∨ ∃ i, i < ys'.length ∧ Fi' i k) := by
     refine hb9 _ _ _ _ ys' cs' us' Fi' _ hys (by simp [cs']; omega) hheap hb8 (fun i y0 hz => ?_) (fun _ => Iff.rfl) (fun i hi => ?_) (fun i j k hi hj hij => ?_)
     ·simp only [ys'] at hz
      rw [splice_get hlz] at hz
      have hci' := arr_get hfit (off + i)
      by_cases hci : lo ≤ i ∧ i < lo + zs.length
      ·simp only [hci, and_self, if_true] at hz
       obtain ⟨h6, _⟩ := hus2 (i - lo) (by omega) y0 hz
       refine ⟨?_, ?_⟩
       ·show cs'[off + i]? = _
        rw [hci', if_pos (by omega), show off + i - (off + lo) = i - lo by omega, hvsi _ (by omega)]
        simp [us', hci]
       ·simp only [us', Fi', hci, and_self, if_true]
        exact WR.keep h6 hkeep (fun k hk => ⟨hk, hS1b k hk⟩) (fun k hf => hf.elim)
      ·simp only [hci, if_false] at hz
       obtain ⟨h5, h6⟩ := hb4 i y0 hz
       have hi := (List.getElem?_eq_some_iff.1 hz).1
       refine ⟨?_, ?_⟩
       ·show cs'[off + i]? = _
        rw [hci', if_neg (by omega), h5]
        simp [us', hci]
       ·simp only [us', Fi', hci, if_false]
        exact WR.keep h6 hkeep (fun k hk => ⟨hk, hS1b k hk⟩) (fun k hf => ⟨h6.notS k hf, hfar k (fun e => hb6 i hi (e ▸ hf))⟩)
     ·rw [hys] at hi
      by_cases hci : lo ≤ i ∧ i < lo + zs.length
      ·simp only [Fi', hci, and_self, if_true]; exact fun hf => hf
      ·simp only [Fi', hci, if_false]; exact hb6 i hi
     ·rw [hys] at hi hj
      by_cases hci : lo ≤ i ∧ i < lo + zs.length
      ·simp only [Fi', hci, and_self, if_true]; exact fun hf => hf.elim
      ·by_cases hcj : lo ≤ j ∧ j < lo + zs.length
       ·simp only [Fi', hcj, and_self, if_true]; exact fun _ hf => hf
       ·simp only [Fi', hci, hcj, if_false]; exact hb7 i j k hi hj hij
    have hrel := hset (w.setRow b cs') S s1 (.own e ys') _ hsv (fun k u hu hn => ⟨hfar k (fun e => hn (e ▸ hbF)), (h.rel.val u).notS k hu, hnewF k u hu hn⟩) (fun k hk => ⟨hk, hS1b k hk⟩)
     (fun k hk => by have := h.rel.lt k hk; simpa [World.setRow] using this) hkeep hnew
    refine ⟨_, _, hrun, ?_⟩
    refine post_put hrel (F := fun _ => False) (tupW _ _ _) (fun _ _ _ h => h.elim) ⟨rfl, rfl, rfl, by simp [World.setRow], fun k _ hn => hfar k (fun e => hn t' (e ▸ hsub b hbF)), fun _ h => h, fun _ h => .inl h, fun u k hu => ?_⟩ (fun _ h => h.elim) h.defs h.size h.small hd
    by_cases hut : u = t'
    ·subst hut
     simp only [upd_same] at hu
     rcases hu with ⟨hu, _⟩ | hb | ⟨i, hi, hf⟩
     ·exact .inl ⟨u, hu⟩
     ·subst hb; exact .inl ⟨u, hsub _ hbF⟩
     ·rw [hys] at hi
      by_cases hci : lo ≤ i ∧ i < lo + zs.length
      ·simp only [Fi', hci, and_self, if_true] at hf
      ·simp only [Fi', hci, if_false] at hf
       exact .inl ⟨u, hsub k ((hb5 k).2 (.inr ⟨i, hi, hf⟩))⟩
    ·rw [upd_other _ _ hut] at hu
     exact .inl ⟨u, hu⟩
  ·cases hr
 ·cases hr
end
end Dv
/- Value semantics for Go code: composite values, parts of tuples, captured variables. Conditions: the types are what the table says. -/
namespace Dv
open Go

section
variable {P : Program} {T : Tys} {s s' : St} {gh : Nat → Value} {a : Act} {w w' : World} {S : Nat → Prop} {Fs : Nat → Nat → Prop} {N : Nat}

theorem extract_sound (h : Fr T N gh s a w S Fs) {dst : Option Tmp} (hd : dstOk N dst) {tt : TypeId} {x : Operand} (hx : opdOk N x) {d : D} {i : Nat} (he : ev T s tt x = some d) (ho : opExtract s dst x d i = some s') :
  ∃ v, (Instr.extract (a.eval x) i).run P w = .ok v w ∧ Post T gh N s' w S Fs (a.put dst v) w := by
 have hW := ev_W h.rel h.small hx he
 unfold opExtract at ho
 split at ho
 ·rename_i u xs
  have hev := eval_tmp (a := a) (gh := gh) h.small hx
  simp only [opdF] at hW
  generalize hvv : a.eval (.tmp u) = vv at *
  cases hW with
  | tup us Fi hz hxs hF hdj hw =>
   rename_i vs
   split at ho
   ·cases ho
   ·rename_i ys hc
    simp only [Option.map_eq_some_iff] at ho
    obtain ⟨r, hr, rfl⟩ := ho
    refine ⟨us i, by simp [Instr.extract, hxs i _ hc], ?_⟩
    unfold noObjD at hr
    split at hr
    ·cases hr
    ·rename_i hno
     simp only [Option.some.injEq] at hr
     subst hr
     have hWi := hw i _ hc
     have hxi := hxs i _ hc
     generalize hui : us i = ui at hWi hxi ⊢
     cases hWi with
     | agg us' Fi' hz' hxs' hF' hdj' hw' =>
      rename_i vs'
      have hnj : ∀ j, j < ys.length → (seen s [u, i] j (ys.getD j .undef)).hasObj = false := by
       intro j hj
       have hno' : hasObjs ((List.range ys.length).map fun j => seen s [u, i] j (ys.getD j .undef)) = false := by simpa [D.hasObj] using hno
       exact hasObjs_get hno' (c := j) (by simp [hj])
      refine post_val h hd (F := fun _ => False) ?_ (fun _ h => h)
      refine .agg us' (fun _ _ => False) (by simp [hz']) (fun j y hy => ?_) (fun k => ⟨fun h => h.elim, fun ⟨_, _, h⟩ => h⟩) (fun _ _ _ _ _ _ h => h.elim) (fun j y hy => ?_)
      ·have hj : j < ys.length := by simpa using (List.getElem?_eq_some_iff.1 hy).1
       exact hxs' j _ (List.getElem?_eq_getElem hj)
      ·have hj : j < ys.length := by simpa using (List.getElem?_eq_some_iff.1 hy).1
       rw [List.getElem?_map, List.getElem?_range hj] at hy
       simp only [Option.map_some, Option.some.injEq] at hy
       subst hy
       have hyj : ys[j]? = some (ys.getD j .undef) := by rw [List.getD_eq_getElem?_getD, List.getElem?_eq_getElem hj]; rfl
       refine seen_T (t := u) (p := [i]) ?_ (hw' j _ hyj) (hnj j hj)
       simp only [foll, List.cons_append, List.nil_append, ← hev, followV, hxi, Option.bind_some, hxs' j _ hyj]
   ·rename_i c hne hc
    simp only [Option.map_eq_some_iff] at ho
    obtain ⟨r, hr, rfl⟩ := ho
    refine ⟨us i, by simp [Instr.extract, hxs i _ hc], ?_⟩
    unfold noObjD at hr
    split at hr
    ·cases hr
    ·rename_i hno
     simp only [Option.some.injEq] at hr
     subst hr
     refine post_val h hd (F := fun _ => False) (seen_T (t := u) (p := []) ?_ (hw i _ hc) (by simpa using hno)) (fun _ h => h)
     simp only [foll, List.cons_append, List.nil_append, ← hev, followV, hxs i _ hc, Option.bind_some]
 ·cases ho

theorem unD_sound {op : UnOp} {x r : D} {vx : Value} {V : Place → Nat → Nat → Value → Prop} {Vp : Place → Nat → Nat → Nat → Value → Prop} {F : Nat → Prop} (hx : W T S w V Vp x vx F) (h : unD op x = some r) :
  ∃ v, (Op.unary op vx).run P w = .ok v w ∧ W T S w V Vp r v (fun _ => False) := by
 have hE : Em (fun _ : Nat => False) := fun _ h => h
 cases hx <;> cases op <;> try (simp [unD] at h; done)
 ·simp only [unD, Option.some.injEq] at h; subst h; exact ⟨_, rfl, .int hE⟩
 ·simp only [unD, Option.some.injEq] at h; subst h; exact ⟨_, rfl, .bool hE⟩

/-! ### Parts laid into cells -/

theorem foldl_set (vc : List Value) : ∀ (off : Nat) (cs : Array Value), ((vc.zipIdx off).foldl (fun cs (q : Value × Nat) => cs.setIfInBounds q.2 q.1) cs).size = cs.size ∧
  ∀ j, j < cs.size → ((vc.zipIdx off).foldl (fun cs (q : Value × Nat) => cs.setIfInBounds q.2 q.1) cs)[j]? = if off ≤ j ∧ j < off + vc.length then vc[j - off]? else cs[j]? := by
 induction vc with
 | nil => intro off cs; refine ⟨rfl, fun j hj => ?_⟩; simp; intro h1 h2; omega
 | cons v vc ih =>
  intro off cs
  simp only [List.zipIdx_cons, List.foldl_cons]
  obtain ⟨h1, h2⟩ := ih (off + 1) (cs.setIfInBounds off v)
  refine ⟨by simpa using h1, fun j hj => ?_⟩
  rw [h2 j (by simpa using hj)]
  by_cases hjo : j = off
  ·subst hjo
   rw [if_neg (by omega), if_pos (by simp)]
   simp [hj]
  ·by_cases hr : off + 1 ≤ j ∧ j < off + 1 + vc.length
   ·rw [if_pos hr, if_pos (by simp; omega)]
    rw [show j - off = (j - (off + 1)) + 1 by omega]; simp
   ·rw [if_neg hr, if_neg (by simp; omega), Array.getElem?_setIfInBounds_ne (fun e => hjo e.symm)]

theorem fill_step {place : Nat → Option (Nat × Nat)} {cs : Array Value} {i off sz : Nat} {v : Value} {rest : List (Nat × Value)} (hp : place i = some (off, sz)) (hv : v.cells.size = sz) (hle : off + sz ≤ cs.size) :
  ∃ cs' : Array Value, Instr.fill place cs ((i, v) :: rest) = Instr.fill place cs' rest ∧ cs'.size = cs.size ∧ ∀ j, j < cs.size → cs'[j]? = if off ≤ j ∧ j < off + sz then v.cells[j - off]? else cs[j]? := by
 have hfold : v.cells.zipIdx.foldl (fun cs (x : Value × Nat) => match x with | (c, j) => cs.setIfInBounds (off + j) c) cs = (v.cells.toList.zipIdx off).foldl (fun cs (q : Value × Nat) => cs.setIfInBounds q.2 q.1) cs := by
  rw [← Array.foldl_toList, Array.toList_zipIdx]
  generalize v.cells.toList = l
  have : ∀ (l : List Value) (k : Nat) (cs : Array Value), (l.zipIdx k).foldl (fun cs (x : Value × Nat) => match x with | (c, j) => cs.setIfInBounds (off + j) c) cs = (l.zipIdx (off + k)).foldl (fun cs (q : Value × Nat) => cs.setIfInBounds q.2 q.1) cs := by
   intro l
   induction l with
   | nil => intro k cs; rfl
   | cons v l ih => intro k cs; simp only [List.zipIdx_cons, List.foldl_cons]; rw [ih (k + 1)]; rfl
  exact this l 0 cs
 obtain ⟨h1, h2⟩ := foldl_set v.cells.toList off cs
 refine ⟨_, ?_, h1, fun j hj => ?_⟩
 ·rw [Instr.fill, hp]
  have hc : (decide (v.cells.size ≠ sz) || decide (off + v.cells.size > cs.size)) = false := by simp [hv]; omega
  simp only [hc, Bool.false_eq_true, if_false]
  rw [hfold]
 ·rw [h2 j hj]; simp [hv]

/-- Parts laid into cells, as values. -/
theorem fillD_sound {pm : Pm} {tf : Nat → TypeId} {sz : Nat} {rv : Nat → Value} {place : Nat → Option (Nat × Nat)} (hrv : rv = rvOf a gh) (hG : N ≤ G) : ∀ (parts : List (Nat × Operand)) {s s' : St} {cs cs' : List D} {S : Nat → Prop} {Fs : Nat → Nat → Prop} {vcs : Array Value} {us : Nat → Value} {Hi : Nat → Nat → Prop},
  (∀ q ∈ parts, opdOk N q.2) → (∀ q ∈ parts, q.1 * sz + sz ≤ cs.length → place q.1 = some (q.1 * sz, sz)) → fillD T pm tf sz s cs parts = some (cs', s') → Rel T s rv w S Fs → vcs.size = cs.length → (∀ j y, cs[j]? = some y → vcs[j]? = some (us j) ∧ WR T s rv w S y (us j) (Hi j)) →
  (∀ j u k, j < cs.length → Hi j k → ¬ Fs u k) → (∀ i j k, i < cs.length → j < cs.length → i ≠ j → Hi i k → ¬ Hi j k) →
  ∃ (vcs' : Array Value) (S' : Nat → Prop) (Fs' : Nat → Nat → Prop) (us' : Nat → Value) (Hi' : Nat → Nat → Prop), Instr.fill place vcs (parts.map fun q => (q.1, a.eval q.2)) = some vcs' ∧ Rel T s' rv w S' Fs' ∧ cs'.length = cs.length ∧ vcs'.size = cs.length ∧
   (∀ j y, cs'[j]? = some y → vcs'[j]? = some (us' j) ∧ WR T s' rv w S' y (us' j) (Hi' j)) ∧ (∀ j u k, j < cs.length → Hi' j k → ¬ Fs' u k) ∧ (∀ i j k, i < cs.length → j < cs.length → i ≠ j → Hi' i k → ¬ Hi' j k) ∧
   Step w S Fs w S' Fs' ∧ (∀ u k, Fs' u k → Fs u k) ∧ (∀ j k, j < cs.length → Hi' j k → Hi j k ∨ ∃ u, Fs u k) := by
 subst hrv
 intro parts
 induction parts with
 | nil =>
  intro s s' cs cs' S Fs vcs us Hi _ _ hf hr hv hel hap hdj
  simp only [fillD, Option.some.injEq, Prod.mk.injEq] at hf
  obtain ⟨rfl, rfl⟩ := hf
  exact ⟨vcs, S, Fs, us, Hi, rfl, hr, rfl, hv, hel, hap, hdj, Step.refl _ _ _, fun _ _ h => h, fun _ _ _ h => .inl h⟩
 | cons q parts ih =>
  obtain ⟨i, x⟩ := q
  intro s s' cs cs' S Fs vcs us Hi hok hpl hf hr hv hel hap hdj
  simp only [fillD] at hf
  cases ht : take T pm s (tf i) x with
  | none => simp [ht] at hf
  | some q =>
   obtain ⟨d, s1⟩ := q
   simp only [ht] at hf
   split at hf
   ·rename_i hc
    obtain ⟨hdl, hle⟩ := hc
    have hsol : solid d = true ∨ ∃ xs, d = .agg xs := by
     unfold take at ht
     cases he : ev T s (tf i) x with
     | none => simp [he] at ht
     | some d0 =>
      simp only [he] at ht
      cases x <;> simp only at ht <;> exact takeD_solid ht
    obtain ⟨S1, Fs1, F, r1, hh, hk1, hst1, hFF, hFs1⟩ := take_sound hr hG (hok (i, x) (by simp)) ht
    obtain ⟨us2, Gi2, hz2, hel2, hF2, hd2⟩ := asCells_W hh.val hsol
    obtain ⟨vcs1, hfe, hsz1, hget1⟩ := fill_step (v := a.eval x) (rest := parts.map fun q => (q.1, a.eval q.2)) (hpl (i, x) (by simp) hle) (by rw [hz2, hdl]) (by rw [hv]; exact hle)
    have hnS : ∀ k, S1 k → S k ∨ ∃ u, Fs u k := fun k hk => by
     rcases hst1.sS' k hk with h | h | h
     ·exact .inl h
     ·exact .inr h
     ·have := r1.lt k hk; omega
    have hlen : (splice cs (i * sz) d.asCells).length = cs.length := splice_length _ _ _ (by omega)
    let us1 : Nat → Value := fun j => if i * sz ≤ j ∧ j < i * sz + sz then us2 (j - i * sz) else us j
    let Hi1 : Nat → Nat → Prop := fun j => if i * sz ≤ j ∧ j < i * sz + sz then Gi2 (j - i * sz) else Hi j
    have hFH : ∀ j k, j < cs.length → F k → ¬ Hi j k := fun j k hj hf hg => by obtain ⟨u, hu⟩ := hFF k hf; exact hap j u k hj hg hu
    obtain ⟨vcs', S', Fs', us', Hi', q1, q2, q3, q4, q5, q6, q7, q8, q9, q10⟩ := ih (vcs := vcs1) (us := us1) (Hi := Hi1) (fun q hq => hok q (by simp [hq])) (fun q hq hle' => hpl q (by simp [hq]) (by rwa [hlen] at hle')) hf r1 (by rw [hsz1, hv, hlen])
     (fun j y hy => by
      rw [splice_get (by omega)] at hy
      by_cases hj : i * sz ≤ j ∧ j < i * sz + sz
      ·rw [if_pos (by omega)] at hy
       obtain ⟨h5, h6⟩ := hel2 _ _ hy
       refine ⟨?_, ?_⟩
       ·rw [hget1 j (by omega), if_pos hj, h5]; simp [us1, hj]
       ·simp only [us1, Hi1, hj, and_self, if_true]; exact h6
      ·rw [if_neg (by omega)] at hy
       have hjl := (List.getElem?_eq_some_iff.1 hy).1
       obtain ⟨h5, h6⟩ := hel j y hy
       refine ⟨?_, ?_⟩
       ·rw [hget1 j (by omega), if_neg hj, h5]; simp [us1, hj]
       ·simp only [us1, Hi1, hj, if_false]
        refine WR.keep h6 hk1 (fun k hk => ⟨hst1.sS k hk, rfl⟩) (fun k hf => ⟨fun hs => ?_, rfl⟩)
        rcases hnS k hs with hs | ⟨u, hu⟩
        ·exact h6.notS k hf hs
        ·exact hap j u k hjl hf hu)
     (fun j u k hj hf => by
      rw [hlen] at hj
      by_cases hjc : i * sz ≤ j ∧ j < i * sz + sz
      ·simp only [Hi1, hjc, and_self, if_true] at hf; exact hh.apart u k ((hF2 k).2 ⟨_, by omega, hf⟩)
      ·simp only [Hi1, hjc, if_false] at hf; exact fun hu => hap j u k hj hf (hFs1 u k hu))
     (fun j j' k hj hj' hjj => by
      rw [hlen] at hj hj'
      by_cases h1 : i * sz ≤ j ∧ j < i * sz + sz <;> by_cases h2 : i * sz ≤ j' ∧ j' < i * sz + sz
      ·simp only [Hi1, h1, h2, and_self, if_true]; exact hd2 _ _ k (by omega) (by omega) (by omega)
      ·simp only [Hi1, h1, h2, and_self, if_true, if_false]; exact fun hf hg => hFH j' k hj' ((hF2 k).2 ⟨_, by omega, hf⟩) hg
      ·simp only [Hi1, h1, h2, and_self, if_true, if_false]; exact fun hg hf => hFH j k hj ((hF2 k).2 ⟨_, by omega, hf⟩) hg
      ·simp only [Hi1, h1, h2, if_false]; exact hdj j j' k hj hj' hjj)
    rw [hlen] at q3 q4 q6 q7 q10
    refine ⟨vcs', S', Fs', us', Hi', by simp only [List.map_cons]; rw [hfe]; exact q1, q2, q3, q4, q5, q6, q7, hst1.trans q8, fun u k hu => hFs1 u k (q9 u k hu), fun j k hj hf => ?_⟩
    rcases q10 j k hj hf with hf | ⟨u, hu⟩
    ·by_cases hjc : i * sz ≤ j ∧ j < i * sz + sz
     ·simp only [Hi1, hjc, and_self, if_true] at hf
      exact .inr (hFF k ((hF2 k).2 ⟨_, by omega, hf⟩))
     ·simp only [Hi1, hjc, if_false] at hf; exact .inl hf
    ·exact .inr ⟨u, hFs1 u k hu⟩
   ·cases hf
theorem fillN_sound {pm : Pm} {fl : List (Nat × TypeId)} {rv : Nat → Value} {place : Nat → Option (Nat × Nat)} (hrv : rv = rvOf a gh) (hG : N ≤ G) : ∀ (parts : List (Nat × Operand)) {s s' : St} {cs cs' : List D} {S : Nat → Prop} {Fs : Nat → Nat → Prop} {vcs : Array Value} {us : Nat → Value} {Hi : Nat → Nat → Prop},
  (∀ q ∈ parts, opdOk N q.2) → (∀ (q : Nat × Operand) (off : Nat) (ty : TypeId), q ∈ parts → fl[q.1]? = some (off, ty) → place q.1 = some (off, T.size ty)) → fillN T pm fl s cs parts = some (cs', s') → Rel T s rv w S Fs → vcs.size = cs.length → (∀ j y, cs[j]? = some y → vcs[j]? = some (us j) ∧ WR T s rv w S y (us j) (Hi j)) →
  (∀ j u k, j < cs.length → Hi j k → ¬ Fs u k) → (∀ i j k, i < cs.length → j < cs.length → i ≠ j → Hi i k → ¬ Hi j k) →
  ∃ (vcs' : Array Value) (S' : Nat → Prop) (Fs' : Nat → Nat → Prop) (us' : Nat → Value) (Hi' : Nat → Nat → Prop), Instr.fill place vcs (parts.map fun q => (q.1, a.eval q.2)) = some vcs' ∧ Rel T s' rv w S' Fs' ∧ cs'.length = cs.length ∧ vcs'.size = cs.length ∧
   (∀ j y, cs'[j]? = some y → vcs'[j]? = some (us' j) ∧ WR T s' rv w S' y (us' j) (Hi' j)) ∧ (∀ j u k, j < cs.length → Hi' j k → ¬ Fs' u k) ∧ (∀ i j k, i < cs.length → j < cs.length → i ≠ j → Hi' i k → ¬ Hi' j k) ∧
   Step w S Fs w S' Fs' ∧ (∀ u k, Fs' u k → Fs u k) ∧ (∀ j k, j < cs.length → Hi' j k → Hi j k ∨ ∃ u, Fs u k) := by
 subst hrv
 intro parts
 induction parts with
 | nil =>
  intro s s' cs cs' S Fs vcs us Hi _ _ hf hr hv hel hap hdj
  simp only [fillN, Option.some.injEq, Prod.mk.injEq] at hf
  obtain ⟨rfl, rfl⟩ := hf
  exact ⟨vcs, S, Fs, us, Hi, rfl, hr, rfl, hv, hel, hap, hdj, Step.refl _ _ _, fun _ _ h => h, fun _ _ _ h => .inl h⟩
 | cons q parts ih =>
  obtain ⟨i, x⟩ := q
  intro s s' cs cs' S Fs vcs us Hi hok hpl hf hr hv hel hap hdj
  simp only [fillN] at hf
  cases hfl : fl[i]? with
  | none => simp [hfl] at hf
  | some p =>
  obtain ⟨off, ty⟩ := p
  simp only [hfl] at hf
  cases ht : take T pm s ty x with
  | none => simp [ht] at hf
  | some q =>
   obtain ⟨d, s1⟩ := q
   simp only [ht] at hf
   split at hf
   ·rename_i hc
    obtain ⟨hdl, hle⟩ := hc
    have hsol : solid d = true ∨ ∃ xs, d = .agg xs := by
     unfold take at ht
     cases he : ev T s ty x with
     | none => simp [he] at ht
     | some d0 =>
      simp only [he] at ht
      cases x <;> simp only at ht <;> exact takeD_solid ht
    obtain ⟨S1, Fs1, F, r1, hh, hk1, hst1, hFF, hFs1⟩ := take_sound hr hG (hok (i, x) (by simp)) ht
    obtain ⟨us2, Gi2, hz2, hel2, hF2, hd2⟩ := asCells_W hh.val hsol
    obtain ⟨vcs1, hfe, hsz1, hget1⟩ := fill_step (v := a.eval x) (rest := parts.map fun q => (q.1, a.eval q.2)) (hpl (i, x) off ty (by simp) hfl) (by rw [hz2, hdl]) (by rw [hv]; exact hle)
    have hnS : ∀ k, S1 k → S k ∨ ∃ u, Fs u k := fun k hk => by
     rcases hst1.sS' k hk with h | h | h
     ·exact .inl h
     ·exact .inr h
     ·have := r1.lt k hk; omega
    have hlen : (splice cs (off) d.asCells).length = cs.length := splice_length _ _ _ (by omega)
    let us1 : Nat → Value := fun j => if off ≤ j ∧ j < off + T.size ty then us2 (j - off) else us j
    let Hi1 : Nat → Nat → Prop := fun j => if off ≤ j ∧ j < off + T.size ty then Gi2 (j - off) else Hi j
    have hFH : ∀ j k, j < cs.length → F k → ¬ Hi j k := fun j k hj hf hg => by obtain ⟨u, hu⟩ := hFF k hf; exact hap j u k hj hg hu
    obtain ⟨vcs', S', Fs', us', Hi', q1, q2, q3, q4, q5, q6, q7, q8, q9, q10⟩ := ih (vcs := vcs1) (us := us1) (Hi := Hi1) (fun q hq => hok q (by simp [hq])) (fun q off' ty' hq hq' => hpl q off' ty' (by simp [hq]) hq') hf r1 (by rw [hsz1, hv, hlen])
     (fun j y hy => by
      rw [splice_get (by omega)] at hy
      by_cases hj : off ≤ j ∧ j < off + T.size ty
      ·rw [if_pos (by omega)] at hy
       obtain ⟨h5, h6⟩ := hel2 _ _ hy
       refine ⟨?_, ?_⟩
       ·rw [hget1 j (by omega), if_pos hj, h5]; simp [us1, hj]
       ·simp only [us1, Hi1, hj, and_self, if_true]; exact h6
      ·rw [if_neg (by omega)] at hy
       have hjl := (List.getElem?_eq_some_iff.1 hy).1
       obtain ⟨h5, h6⟩ := hel j y hy
       refine ⟨?_, ?_⟩
       ·rw [hget1 j (by omega), if_neg hj, h5]; simp [us1, hj]
       ·simp only [us1, Hi1, hj, if_false]
        refine WR.keep h6 hk1 (fun k hk => ⟨hst1.sS k hk, rfl⟩) (fun k hf => ⟨fun hs => ?_, rfl⟩)
        rcases hnS k hs with hs | ⟨u, hu⟩
        ·exact h6.notS k hf hs
        ·exact hap j u k hjl hf hu)
     (fun j u k hj hf => by
      rw [hlen] at hj
      by_cases hjc : off ≤ j ∧ j < off + T.size ty
      ·simp only [Hi1, hjc, and_self, if_true] at hf; exact hh.apart u k ((hF2 k).2 ⟨_, by omega, hf⟩)
      ·simp only [Hi1, hjc, if_false] at hf; exact fun hu => hap j u k hj hf (hFs1 u k hu))
     (fun j j' k hj hj' hjj => by
      rw [hlen] at hj hj'
      by_cases h1 : off ≤ j ∧ j < off + T.size ty <;> by_cases h2 : off ≤ j' ∧ j' < off + T.size ty
      ·simp only [Hi1, h1, h2, and_self, if_true]; exact hd2 _ _ k (by omega) (by omega) (by omega)
      ·simp only [Hi1, h1, h2, and_self, if_true, if_false]; exact fun hf hg => hFH j' k hj' ((hF2 k).2 ⟨_, by omega, hf⟩) hg
      ·simp only [Hi1, h1, h2, and_self, if_true, if_false]; exact fun hg hf => hFH j k hj ((hF2 k).2 ⟨_, by omega, hf⟩) hg
      ·simp only [Hi1, h1, h2, if_false]; exact hdj j j' k hj hj' hjj)
    rw [hlen] at q3 q4 q6 q7 q10
    refine ⟨vcs', S', Fs', us', Hi', by simp only [List.map_cons]; rw [hfe]; exact q1, q2, q3, q4, q5, q6, q7, hst1.trans q8, fun u k hu => hFs1 u k (q9 u k hu), fun j k hj hf => ?_⟩
    rcases q10 j k hj hf with hf | ⟨u, hu⟩
    ·by_cases hjc : off ≤ j ∧ j < off + T.size ty
     ·simp only [Hi1, hjc, and_self, if_true] at hf
      exact .inr (hFF k ((hF2 k).2 ⟨_, by omega, hf⟩))
     ·simp only [Hi1, hjc, if_false] at hf; exact .inl hf
    ·exact .inr ⟨u, hFs1 u k hu⟩
   ·cases hf
end
end Dv
/- Value semantics for Go code: structs and slices written out, closures. Conditions: the types are what the table says. -/
namespace Dv
open Go

section
variable {P : Program} {T : Tys} {s s' : St} {gh : Nat → Value} {a : Act} {w w' : World} {S : Nat → Prop} {Fs : Nat → Nat → Prop} {N : Nat}

theorem run_mapM {α β : Type} (f : α → Sem β) (g : α → β) (xs : Array α) (h : ∀ x ∈ xs, (f x).run P w = .ok (g x) w) : (xs.mapM f).run P w = .ok (xs.map g) w := by
 have hl : ∀ l : List α, (∀ x ∈ l, (f x).run P w = .ok (g x) w) → (l.mapM f).run P w = .ok (l.map g) w := by
  intro l
  induction l with
  | nil => intro _; simp
  | cons x l ih => intro h; simp [List.mapM_cons, h x (by simp), ih (fun y hy => h y (by simp [hy]))]
 rw [Array.mapM_eq_mapM_toList]
 simp only [Sem.run_map, hl xs.toList (fun x hx => h x (by simpa using hx)), Result.andThen_ok]
 rw [← Array.toList_map]

theorem build_sound (hT : TyOk P T) (h : Fr T N gh s a w S Fs) {pm : Pm} {dst : Option Tmp} (hd : dstOk N dst) {t : TypeId} {fs : List TypeId} (hty : T.ty t = .struct fs) (hkn : T.known t = true) (hnest : T.nest t = none) {parts : Array (Nat × Operand)} (hok : ∀ q ∈ parts.toList, opdOk N q.2)
  {r : List D × St} (hf : fillD T pm (fun i => fs.getD i 0) 1 s (T.zeros t) parts.toList = some r) :
  ∃ v, (Instr.build t (parts.map fun (q : Nat × Operand) => (q.1, a.eval q.2))).run P w = .ok v w ∧ Post T gh N (r.2.putO dst (.agg r.1)) w S Fs (a.put dst v) w := by
 obtain ⟨cs', s1⟩ := r
 have hst : T.isStruct t = true := by unfold Tys.isStruct; rw [hty]; rfl
 obtain ⟨fs', fields, hty', hun, hsz, hfl, _⟩ := hT.struct hst hnest
 obtain ⟨z, hz, hzs, hzl, hzel⟩ := zeros_W hT hkn
 have hfsz : T.size t = fields.size := by unfold Tys.size; rw [hty', hsz]; rfl
 let us : Nat → Value := fun i => z.cells.getD i undef
 have hel : ∀ (j : Nat) (y : D), (T.zeros t)[j]? = some y → z.cells[j]? = some (us j) ∧ WR T s (rvOf a gh) w S y (us j) (fun _ => False) := fun j y hy => by
  obtain ⟨u, hu, hw⟩ := hzel j y hy
  have : us j = u := by simp only [us]; rw [Array.getD_eq_getD_getElem?, hu]; rfl
  rw [this]; exact ⟨hu, hw _ _ _ _⟩
 let place : Nat → Option (Nat × Nat) := fun i => (fields.map fun f => (f.offset, 1))[i]?
 obtain ⟨vcs', S', Fs', us', Hi', q1, q2, q3, q4, q5, q6, q7, q8, q9, q10⟩ := fillD_sound (a := a) (gh := gh) (place := place) rfl h.small parts.toList (us := us) (Hi := fun _ _ => False) hok (fun q _ hq => by
   have hlt : q.1 < fields.size := by rw [hzl, hfsz] at hq; omega
   simp only [place, Array.getElem?_map, Array.getElem?_eq_getElem hlt, Option.map_some]
   rw [(hfl q.1 _ (Array.getElem?_eq_getElem hlt)).1, Nat.mul_one]) hf h.rel hzs hel (by simp) (by simp)
 refine ⟨.agg vcs', ?_, ?_⟩
 ·have hm : (fields.mapM fun (f : Field) => (do pure (f.offset, ← Go.sizeOf f.type) : Sem (Nat × Nat))).run P w = .ok (fields.map fun (f : Field) => (f.offset, 1)) w :=
   run_mapM _ _ _ (fun f hf => by
    obtain ⟨j, hj⟩ := Array.getElem?_of_mem hf
    obtain ⟨_, _, hk, hns⟩ := hfl j f hj
    have h1 : T.size f.type = 1 := by
     unfold Tys.isStruct Ty.isStruct at hns
     unfold Tys.size Ty.size
     split
     ·rename_i hh; rw [hh] at hns; cases hns
     ·rfl
    simp [hT.szOf hk, h1])
  have hq : Instr.fill (fun i => (fields.map fun f => (f.offset, 1))[i]?) z.cells (parts.map fun (q : Nat × Operand) => (q.1, a.eval q.2)).toList = some vcs' := by
   rw [Array.toList_map]; exact q1
  simp only [Instr.build, Sem.run_bind, hz, Result.andThen_ok, run_underlying hun, hm, hq, Sem.run_pure]
 ·have hlen : cs'.length = (T.zeros t).length := q3
  refine post_put q2 (F := fun k => ∃ j, j < cs'.length ∧ Hi' j k) (.agg us' Hi' (by rw [q4, hlen]) (fun j y hy => (q5 j y hy).1) (fun _ => Iff.rfl) (fun i j k (hi : i < cs'.length) (hj : j < cs'.length) => q7 i j k (by omega) (by omega)) (fun j y hy => (q5 j y hy).2))
   (fun u k _ ⟨j, hj, hf⟩ => q6 j u k (by omega) hf) q8 (fun k ⟨j, hj, hf⟩ => ?_) h.defs h.size h.small hd
  rcases q10 j k (by omega) hf with hf | hf
  ·exact hf.elim
  ·exact .inl hf

theorem buildN_sound (hT : TyOk P T) (h : Fr T N gh s a w S Fs) {pm : Pm} {dst : Option Tmp} (hd : dstOk N dst) {t : TypeId} {fl : List (Nat × TypeId)} (hst : T.isStruct t = true) (hkn : T.known t = true) (hnest : T.nest t = some fl) {parts : Array (Nat × Operand)} (hok : ∀ q ∈ parts.toList, opdOk N q.2)
  {r : List D × St} (hf : fillN T pm fl s (T.zeros t) parts.toList = some r) :
  ∃ v, (Instr.build t (parts.map fun (q : Nat × Operand) => (q.1, a.eval q.2))).run P w = .ok v w ∧ Post T gh N (r.2.putO dst (.agg r.1)) w S Fs (a.put dst v) w := by
 obtain ⟨cs', s1⟩ := r
 obtain ⟨fs', fields, hty', hun, _, hsz, hfl⟩ := hT.structN hst hnest
 obtain ⟨z, hz, hzs, hzl, hzel⟩ := zeros_W hT hkn
 let us : Nat → Value := fun i => z.cells.getD i undef
 have hel : ∀ (j : Nat) (y : D), (T.zeros t)[j]? = some y → z.cells[j]? = some (us j) ∧ WR T s (rvOf a gh) w S y (us j) (fun _ => False) := fun j y hy => by
  obtain ⟨u, hu, hw⟩ := hzel j y hy
  have : us j = u := by simp only [us]; rw [Array.getD_eq_getD_getElem?, hu]; rfl
  rw [this]; exact ⟨hu, hw _ _ _ _⟩
 let place : Nat → Option (Nat × Nat) := fun i => (fields.map fun f => (f.offset, T.size f.type))[i]?
 obtain ⟨vcs', S', Fs', us', Hi', q1, q2, q3, q4, q5, q6, q7, q8, q9, q10⟩ := fillN_sound (a := a) (gh := gh) (place := place) rfl h.small parts.toList (us := us) (Hi := fun _ _ => False) hok (fun q off ty _ hq => by
   have hlt : q.1 < fields.size := by rw [hsz]; exact (List.getElem?_eq_some_iff.1 hq).1
   simp only [place, Array.getElem?_map, Array.getElem?_eq_getElem hlt, Option.map_some]
   have := (hfl q.1 _ (Array.getElem?_eq_getElem hlt)).1
   rw [hq] at this
   injection this with this
   injection this with e1 e2
   rw [← e1, ← e2]) hf h.rel hzs hel (by simp) (by simp)
 refine ⟨.agg vcs', ?_, ?_⟩
 ·have hm : (fields.mapM fun (f : Field) => (do pure (f.offset, ← Go.sizeOf f.type) : Sem (Nat × Nat))).run P w = .ok (fields.map fun (f : Field) => (f.offset, T.size f.type)) w :=
   run_mapM _ _ _ (fun f hf => by
    obtain ⟨j, hj⟩ := Array.getElem?_of_mem hf
    obtain ⟨_, hk⟩ := hfl j f hj
    simp [hT.szOf hk])
  have hq : Instr.fill (fun i => (fields.map fun f => (f.offset, T.size f.type))[i]?) z.cells (parts.map fun (q : Nat × Operand) => (q.1, a.eval q.2)).toList = some vcs' := by
   rw [Array.toList_map]; exact q1
  simp only [Instr.build, Sem.run_bind, hz, Result.andThen_ok, run_underlying hun, hm, hq, Sem.run_pure]
 ·have hlen : cs'.length = (T.zeros t).length := q3
  refine post_put q2 (F := fun k => ∃ j, j < cs'.length ∧ Hi' j k) (.agg us' Hi' (by rw [q4, hlen]) (fun j y hy => (q5 j y hy).1) (fun _ => Iff.rfl) (fun i j k (hi : i < cs'.length) (hj : j < cs'.length) => q7 i j k (by omega) (by omega)) (fun j y hy => (q5 j y hy).2))
   (fun u k _ ⟨j, hj, hf⟩ => q6 j u k (by omega) hf) q8 (fun k ⟨j, hj, hf⟩ => ?_) h.defs h.size h.small hd
  rcases q10 j k (by omega) hf with hf | hf
  ·exact hf.elim
  ·exact .inl hf

theorem buildSlice_sound (hT : TyOk P T) (h : Fr T N gh s a w S Fs) {pm : Pm} {dst : Option Tmp} (hd : dstOk N dst) {t e : TypeId} (hty : T.ty t = .slice e) (hkn : T.known e = true) {len : Nat} (hlen : len * T.size e ≤ 4096) {parts : Array (Nat × Operand)} (hok : ∀ q ∈ parts.toList, opdOk N q.2)
  {r : List D × St} (hf : fillD T pm (fun _ => e) (T.size e) s ((List.range (len * T.size e)).map fun j => (T.zeros e).getD (j % T.size e) .undef) parts.toList = some r) :
  ∃ v w', (Instr.buildSlice t len (parts.map fun (q : Nat × Operand) => (q.1, a.eval q.2))).run P w = .ok v w' ∧ Post T gh N (r.2.putO dst (.own e r.1)) w S Fs (a.put dst v) w' := by
 obtain ⟨cs', s1⟩ := r
 have hpos := known_pos hkn
 obtain ⟨z, hz, hzs, hzl, hzel⟩ := zeros_W hT hkn
 let zc : Array Value := if len * T.size e = 0 then #[] else z.cells
 let vcs : Array Value := (Array.range (len * T.size e)).map (zc[· % zc.size]!)
 let us : Nat → Value := fun j => vcs.getD j undef
 have hel : ∀ (j : Nat) (y : D), ((List.range (len * T.size e)).map fun j => (T.zeros e).getD (j % T.size e) .undef)[j]? = some y → vcs[j]? = some (us j) ∧ WR T s (rvOf a gh) w S y (us j) (fun _ => False) := fun j y hy => by
  have hj : j < len * T.size e := by have := (List.getElem?_eq_some_iff.1 hy).1; simpa using this
  simp only [List.getElem?_map, List.getElem?_range hj, Option.map_some, Option.some.injEq] at hy
  have hm : j % T.size e < (T.zeros e).length := by rw [hzl]; exact Nat.mod_lt _ hpos
  have hzj : (T.zeros e)[j % T.size e]? = some ((T.zeros e)[j % T.size e]'hm) := List.getElem?_eq_getElem hm
  rw [getD_of hzj] at hy
  obtain ⟨u, hu, hw⟩ := hzel _ _ hzj
  have hzc : zc = z.cells := by simp only [zc]; rw [if_neg (by omega)]
  have hv : vcs[j]? = some u := by
   simp only [vcs, Array.getElem?_map]
   rw [Array.getElem?_eq_getElem (by simpa using hj)]
   simp only [Array.getElem_range, Option.map_some, Option.some.injEq, hzc]
   rw [hzs, hzl]
   have : j % T.size e < z.cells.size := by rw [hzs]; exact hm
   rw [Array.getElem?_eq_getElem this] at hu
   injection hu with hu
   simp [this, hu]
  have : us j = u := by simp only [us]; rw [Array.getD_eq_getD_getElem?, hv]; rfl
  rw [this, ← hy]; exact ⟨hv, hw _ _ _ _⟩
 obtain ⟨vcs', S', Fs', us', Hi', q1, q2, q3, q4, q5, q6, q7, q8, q9, q10⟩ := fillD_sound (a := a) (gh := gh) (place := fun i => some (i * T.size e, T.size e)) rfl h.small parts.toList (vcs := vcs) (us := us) (Hi := fun _ _ => False) hok (fun _ _ _ => rfl) hf h.rel (by simp [vcs]) hel (by simp) (by simp)
 simp only [List.length_map, List.length_range] at q3 q4 q6 q7 q10
 obtain ⟨hr, hap, _, hown⟩ := new_obj (e := e) (cs := vcs') q2 (fun j y hy => (q5 j y hy).2) (fun j u k hj hf => q6 j u k (by omega) hf) (fun i j k hi hj => q7 i j k (by omega) (by omega)) (fun j y hy => (q5 j y hy).1)
 refine ⟨.slice (some ⟨w.heap.size, 0, none⟩) len len, _, ?_, post_put hr (hown len len q4 q3 (Nat.le_refl _) (by have : len ≤ len * T.size e := Nat.le_mul_of_pos_right len hpos; simp only [maxLen]; omega)) (fun u k _ => hap u k) (q8.trans (step_alloc w _ _ _)) ?_ h.defs h.size h.small hd⟩
 ·have hbig : ¬ len * T.size e > 2 ^ 24 := by omega
  have hq : Instr.fill (fun i => some (i * T.size e, T.size e)) vcs (parts.map fun (q : Nat × Operand) => (q.1, a.eval q.2)).toList = some vcs' := by
   rw [Array.toList_map]; exact q1
  simp only [vcs] at hq
  by_cases h0 : len * T.size e = 0
  ·have hzc : zc = #[] := if_pos h0
   rw [hzc] at hq
   simp only [Instr.buildSlice, Sem.run_bind, run_underlying (hT.slice hty), Result.andThen_ok, hT.szOf hkn, hbig, if_false, Sem.run_pure, if_pos h0, hq, newRow, run_newObj]
   rfl
  ·have hzc : zc = z.cells := if_neg h0
   rw [hzc] at hq
   simp only [Instr.buildSlice, Sem.run_bind, run_underlying (hT.slice hty), Result.andThen_ok, hT.szOf hkn, hbig, if_false, Sem.run_pure, if_neg h0, hz, hq, newRow, run_newObj]
   rfl
 ·rintro k (rfl | ⟨j, hj, hf⟩)
  ·exact .inr (Nat.le_refl _)
  ·rcases q10 j k (by omega) hf with hf | hf
   ·exact hf.elim
   ·exact .inl hf

theorem capD_sound {pm : Pm} (hG : N ≤ G) : ∀ (xs : List Operand) {s s' : St} {ys : List D} {S : Nat → Prop} {Fs : Nat → Nat → Prop}, (∀ x ∈ xs, opdOk N x) → capD pm s xs = some (ys, s') → Rel T s (rvOf a gh) w S Fs →
  ∃ (S' : Nat → Prop) (Fs' : Nat → Nat → Prop), Rel T s' (rvOf a gh) w S' Fs' ∧ ys.length = xs.length ∧ (∀ (i : Nat) (y : D), ys[i]? = some y → ∃ o, xs[i]? = some o ∧ W T S' w V0 Vp0 y (a.eval o) (fun _ => False)) ∧ Step w S Fs w S' Fs' := by
 intro xs
 induction xs with
 | nil =>
  intro s s' ys S Fs _ hc hr
  simp only [capD, Option.some.injEq, Prod.mk.injEq] at hc
  obtain ⟨rfl, rfl⟩ := hc
  exact ⟨S, Fs, hr, rfl, by simp, Step.refl _ _ _⟩
 | cons x xs ih =>
  intro s s' ys S Fs hok hc hr
  simp only [capD] at hc
  split at hc
  ·rename_i u
   have hu := hok (.tmp u) (by simp)
   have hev := eval_tmp (a := a) (gh := gh) hG hu
   split at hc
   ·rename_i cs hcs
    split at hc
    ·rename_i fz hfz
     split at hc
     ·simp only [Option.map_eq_some_iff, Prod.mk.injEq] at hc
      obtain ⟨⟨ys', s2⟩, hy, rfl, rfl⟩ := hc
      have hg : getp (s.v u) [] = some (.box cs) := by rw [hcs]; rfl
      obtain ⟨v', Fo, hfo, hWo, hsub, hset, _⟩ := hr.focus hg
      have hv' : v' = a.eval (.tmp u) := by simp only [foll, followV, Option.some.injEq] at hfo; rw [hev, hfo]
      subst hv'
      have hfr : frz (.box cs) = some (.cptr fz) := by simp [frz, hfz]
      have hno : (D.cptr fz).hasObj = false := rfl
      have hk := Keeps.set0 (w := w) (rv := rvOf a gh) hg hno
      have hWf := hWo.freeze _ hfr (S' := fun k => S k ∨ Fo k) (fun k hk => .inr hk) (fun k hk => .inl hk)
      have hrel := hset w (fun k => S k ∨ Fo k) (s.set [u] (.cptr fz)) (.cptr fz) (fun _ => False) rfl (fun k u hu hn => ⟨rfl, (by
        rintro (hs | hf)
        ·exact (hr.val u).notS k hu hs
        ·exact hn hf), id⟩) (fun k hk => ⟨.inl hk, rfl⟩) (by
        rintro k (hs | hf)
        ·exact hr.lt k hs
        ·exact hWo.lt k hf) hk hWf.up
      obtain ⟨S', Fs', r', hl, hel, hst⟩ := ih (fun x hx => hok x (by simp [hx])) hy hrel
      have hstep : Step w S Fs w (fun k => S k ∨ Fo k) (upd Fs u (fun k => (Fs u k ∧ ¬ Fo k) ∨ False)) := by
       refine Step.of_sub (fun k hk => .inl hk) ?_ ?_
       ·rintro k (hs | hf)
        ·exact .inl hs
        ·exact .inr ⟨u, hsub k hf⟩
       ·intro t k ht
        by_cases htu : t = u
        ·subst htu; simp only [upd_same, or_false] at ht; exact ⟨t, ht.1⟩
        ·rw [upd_other _ _ htu] at ht; exact ⟨t, ht⟩
      refine ⟨S', Fs', r', by simp [hl], fun i y hyy => ?_, hstep.trans hst⟩
      cases i with
      | zero =>
       simp at hyy; subst hyy
       exact ⟨.tmp u, rfl, W.mono (fun k hk => ⟨hst.sS k hk, rfl⟩) hWf _ _ (fun _ _ _ _ h => h) (fun _ _ _ _ _ h => h) (fun _ h => h.elim)⟩
      | succ i => simp at hyy; simpa using hel i y hyy
     ·cases hc
    ·cases hc
   ·rename_i cs hcs
    simp only [Option.map_eq_some_iff, Prod.mk.injEq] at hc
    obtain ⟨⟨ys', s2⟩, hy, rfl, rfl⟩ := hc
    have hW0 := hr.val u
    rw [hcs, ← hev] at hW0
    obtain ⟨S', Fs', r', hl, hel, hst⟩ := ih (fun x hx => hok x (by simp [hx])) hy hr
    refine ⟨S', Fs', r', by simp [hl], fun i y hyy => ?_, hst⟩
    cases i with
    | zero =>
     simp at hyy; subst hyy
     refine ⟨.tmp u, rfl, ?_⟩
     generalize a.eval (.tmp u) = v at *
     cases hW0 with
     | cptr us hE hx hw =>
      exact W.mono (S' := S') (w' := w) (fun k hk => ⟨hst.sS k hk, rfl⟩) (W.cptr (V := V0) (Vp := Vp0) us (fun _ h => h) hx hw) _ _ (fun _ _ _ _ h => h) (fun _ _ _ _ _ h => h) (fun _ h => h.elim)
    | succ i => simp at hyy; simpa using hel i y hyy
   ·cases hc
  ·cases hc
end
end Dv
/- Value semantics for Go code: one operation, whatever it is (a call by its contract). Conditions: the types are what the table says; the operation's slots lie in the frame. -/
namespace Dv
open Go

/-- The slots of an operation lie in the frame. -/
def opOk (N : Nat) (o : Oper) : Prop := dstOk N o.dst ∧ ∀ x ∈ o.op.operands.toList, opdOk N x

theorem foll_one' {w : World} (rv : Nat → Value) (t : Nat) : foll w rv [t] = some (rv t) := by simp [foll, followV]

section
variable {P : Program} {E : Env} {s s' : St} {gh : Nat → Value} {a : Act} {w w' : World} {S : Nat → Prop} {Fs : Nat → Nat → Prop} {N : Nat}

/-- What is asked of calls. -/
def CallsD (P : Program) (E : Env) : Prop :=
 ∀ {pm : Pm} {s s' : St} {gh : Nat → Value} {a : Act} {w : World} {S : Nat → Prop} {Fs : Nat → Nat → Prop} {N : Nat} {Q : Exit → Act → World → Prop} {o : Oper} {c : Call} (f : FuncId) (caps : List D) (vcaps : Array Value),
  Fr E.T N gh s a w S Fs → opOk N o → o.op = .call c → c.args.size = c.argTypes.size → callD E pm s o.dst f (c.args.toList.zip c.argTypes.toList) caps = some s' →
  vcaps.size = caps.length → (∀ (i : Nat) (d : D), caps[i]? = some d → ∃ v, vcaps[i]? = some v ∧ W E.T S w V0 Vp0 d v (fun _ => False)) →
  (∀ w0, (execOp a.eval o).run P w0 = (callFunc f (c.args.map a.eval ++ vcaps)).run P w0) → o.wp P a w (Post E.T gh N s' w S Fs) Q

/-- What is asked of calls of closures that are lent what they captured. -/
def CallsO (P : Program) (E : Env) : Prop :=
 ∀ {pm : Pm} {s s' : St} {gh : Nat → Value} {a : Act} {w : World} {S : Nat → Prop} {Fs : Nat → Nat → Prop} {N : Nat} {Q : Exit → Act → World → Prop} {o : Oper} {c : Call} (f : FuncId) (caps : List D) (vcaps : Array Value) (us : Nat → Value),
  Fr E.T N gh s a w S Fs → opOk N o → o.op = .call c → c.args.size = c.argTypes.size → callO E pm s o.dst f (c.args.toList.zip c.argTypes.toList) caps = some s' →
  vcaps.size = caps.length → (∀ (i : Nat) (d : D), caps[i]? = some d → vcaps[i]? = some (us i)) → (∀ (i : Nat) (d : D), caps[i]? = some d → WR E.T s (rvOf a gh) w S d (us i) (fun _ => False)) →
  (∀ i, caps[i]? = some .undef → ∃ ad, us i = .pointer (some ad) ∧ S ad.block ∧ w.cell? (ad.add 0) = some (.func (.func f) #[] vcaps)) →
  (∀ w0, (execOp a.eval o).run P w0 = (callFunc f (c.args.map a.eval ++ vcaps)).run P w0) → o.wp P a w (Post E.T gh N s' w S Fs) Q
def CallsOk (P : Program) (E : Env) : Prop := CallsD P E ∧ CallsO P E

theorem unmask_sub (m : Nat) : ∀ (l : List Operand) (i : Nat) (x : Operand), x ∈ unmask m i l → x ∈ l
 | [], _, _, h => by simp [unmask] at h
 | y :: l, i, x, h => by
  unfold unmask at h
  split at h
  ·exact List.mem_cons_of_mem _ (unmask_sub m l _ x h)
  ·rcases List.mem_cons.1 h with rfl | h
   ·exact List.mem_cons_self
   ·exact List.mem_cons_of_mem _ (unmask_sub m l _ x h)
theorem capE_sound {T : Tys} {s : St} {gh : Nat → Value} {a : Act} {w : World} {S : Nat → Prop} {Fs : Nat → Nat → Prop} (hG : N ≤ G) (hr : Rel T s (rvOf a gh) w S Fs) : ∀ (l : List Operand) {ds : List D}, (∀ x ∈ l, opdOk N x) → capE s l = some ds →
  ds.length = l.length ∧ ∀ (i : Nat) (y : D), ds[i]? = some y → y ≠ .undef ∧ ∃ o, l[i]? = some o ∧ WR T s (rvOf a gh) w S y (a.eval o) (fun _ => False)
 | [], ds, _, h => by simp only [capE, Option.some.injEq] at h; subst h; exact ⟨rfl, by simp⟩
 | x :: l, ds, hok, h => by
  simp only [capE] at h
  split at h
  ·rename_i u
   have hu := hok (.tmp u) (by simp)
   have hev := eval_tmp (a := a) (gh := gh) hG hu
   have tail : ∀ (d : D) (es : List D), d ≠ .undef → WR T s (rvOf a gh) w S d (rvOf a gh u) (fun _ => False) → capE s l = some es → ds = d :: es →
     ds.length = (Operand.tmp u :: l).length ∧ ∀ (i : Nat) (y : D), ds[i]? = some y → y ≠ .undef ∧ ∃ o, (Operand.tmp u :: l)[i]? = some o ∧ WR T s (rvOf a gh) w S y (a.eval o) (fun _ => False) := by
    intro d es hne hW he hds
    subst hds
    obtain ⟨h1, h2⟩ := capE_sound hG hr l (fun x hx => hok x (List.mem_cons_of_mem _ hx)) he
    refine ⟨by simp [h1], fun i y hy => ?_⟩
    cases i with
    | zero =>
     simp only [List.getElem?_cons_zero, Option.some.injEq] at hy
     subst hy
     exact ⟨hne, _, rfl, by rw [hev]; exact hW⟩
    | succ i => simpa using h2 i y (by simpa using hy)
   split at h
   ·rename_i cs hcs
    obtain ⟨es, he, hd⟩ := Option.map_eq_some_iff.1 h
    exact tail _ es (by simp [mkv]) (.vw (fun _ h => h) (mkv_VR [u] (rvOf a gh) _ (foll_one' _ u))) he hd.symm
   ·rename_i ys hys
    obtain ⟨es, he, hd⟩ := Option.map_eq_some_iff.1 h
    refine tail _ es (by simp) ?_ he hd.symm
    have := hr.val u
    rw [hys] at this
    have hem := noObj_empty this rfl
    exact this.congr fun k => ⟨fun h => hem k h, fun h => h.elim⟩
   ·cases h
  ·cases h
theorem capV_sound {T : Tys} {s s' : St} {gh : Nat → Value} {a : Act} {w : World} {S : Nat → Prop} {Fs : Nat → Nat → Prop} {pm : Pm} {m : Nat} (hG : N ≤ G) {l : List Operand} {ds : List D} (hok : ∀ x ∈ l, opdOk N x) (h : capV pm s m l = some (ds, s')) (hr : Rel T s (rvOf a gh) w S Fs) :
  ∃ (S' : Nat → Prop) (Fs' : Nat → Nat → Prop), Rel T s' (rvOf a gh) w S' Fs' ∧ Step w S Fs w S' Fs' ∧ ds.length = l.length ∧
   ∀ (i : Nat) (y : D), ds[i]? = some y → y ≠ .undef ∧ ∃ o, l[i]? = some o ∧ WR T s' (rvOf a gh) w S' y (a.eval o) (fun _ => False) := by
 unfold capV at h
 split at h
 ·cases h
 ·rename_i ys s1 hc
  obtain ⟨es, he, hd⟩ := Option.map_eq_some_iff.1 h
  simp only [Prod.mk.injEq] at hd
  obtain ⟨rfl, rfl⟩ := hd
  obtain ⟨S', Fs', r', _, _, hst⟩ := capD_sound (a := a) (gh := gh) hG _ (fun x hx => hok x (unmask_sub m l 0 x hx)) hc hr
  obtain ⟨h1, h2⟩ := capE_sound hG r' l hok he
  exact ⟨S', Fs', r', hst, h1, h2⟩

/-- A closure is laid in its own variable, which is frozen. -/
theorem tie_sound {T : Tys} (hT : TyOk P T) (h : Fr T N gh s a w S Fs) {pm : Pm} {dst : Option Tmp} (hdst : dst = none) {t : TypeId} {ax x : Operand} (hax : opdOk N ax) (hx : opdOk N x) (hs : opTie T pm s t ax x = some s') :
  ∃ w', (Instr.storeAt t (a.eval ax) (a.eval x)).run P w = .ok () w' ∧ Post T gh N s' w S Fs (a.put dst undef) w' := by
 subst hdst
 unfold opTie at hs
 split at hs
 ·rename_i t0 u
  split at hs
  ·rename_i x0 f xs hb hu
   split at hs
   ·rename_i hc
    simp only [Bool.and_eq_true, beq_iff_eq, Bool.not_eq_true'] at hc
    obtain ⟨⟨⟨⟨hkn, hst⟩, hsz⟩, _⟩, _⟩ := hc
    simp only [Option.some.injEq] at hs
    have hg : getp (s.v t0) [] = some (.box [x0]) := by rw [hb]; rfl
    obtain ⟨hv, Fo, hfo, hWo, hsub, hset, hstab⟩ := h.rel.focus hg
    have hv0 : hv = rvOf a gh t0 := by simp only [foll, followV, Option.some.injEq] at hfo; exact hfo.symm
    subst hv0
    rw [eval_tmp (gh := gh) h.small hax, eval_tmp (gh := gh) h.small hx]
    have hWu := h.rel.val u
    rw [hu] at hWu
    generalize hvu : rvOf a gh u = vu at hWu ⊢
    generalize hvt : rvOf a gh t0 = vt at hWo hset ⊢
    cases hWu with
    | ocl us hE hz hxx hww hself hval =>
     rename_i vs
     rcases hval with ⟨_, rfl⟩ | ⟨h1, _⟩
     ·cases hWo with
      | box us0 Fi0 hbk hbz hbx hF hFb hd hSb hw0 =>
       rename_i te b cs
       have hcs1 : cs.size = 1 := by simpa using hbz
       let cs' : Array Value := #[.func (.func f) #[] vs]
       have hbF : Fo b := (hF b).2 (.inl rfl)
       have hrun : (Instr.storeAt t (.pointer (some ⟨b, 0, none⟩)) (.func (.func f) #[] vs)).run P w = .ok () (w.setRow b cs') := by
        have hst := run_storeCells_at P b 0 te [.func (.func f) #[] vs] 0 cs w hbk (by simp [hcs1]) (by simp [Value.oneCell'])
        have hcells : (Value.func (.func f) #[] vs).cells = #[.func (.func f) #[] vs] := rfl
        have hszv : ¬ (Value.func (.func f) #[] vs).cells.size ≠ T.size t := by rw [hcells, hsz]; simp
        have hcs' : (cs.toList.take 0 ++ [Value.func (.func f) #[] vs] ++ cs.toList.drop (0 + [Value.func (.func f) #[] vs].length)).toArray = cs' := by
         simp only [List.take_zero, List.nil_append, Nat.zero_add, List.length_singleton]
         rw [List.drop_eq_nil_of_le (by simp [hcs1])]
         rfl
        simp only [Nat.add_zero] at hst
        rw [hcs'] at hst
        simp only [Instr.storeAt, Instr.sureAddr, storeVar, Sem.run_bind, Sem.run_pure, Result.andThen_ok, hT.szOf hkn, hszv, if_false]
        rw [hcells, hst]
       have hfar : ∀ k, k ≠ b → (w.setRow b cs').heap[k]? = w.heap[k]? := fun k hk => setRow_far w b cs' hk
       have hheap : (w.setRow b cs').heap[b]? = some (.cells cs' te (0, 0)) := setRow_heap w b cs cs' te (0, 0) hbk
       have hcell : (w.setRow b cs').cell? ((⟨b, 0, none⟩ : Addr).add 0) = some (.func (.func f) #[] vs) := by rw [cell_of hheap]; rfl
       have hblt := lt_of_heap hbk
       let s2 := s.set [t0] (.ocl true f (xs.map (untie s t0)))
       have hsv : s2.v = upd s.v t0 (setp (s.v t0) [] (.ocl true f (xs.map (untie s t0)))) := rfl
       have hkeep : Keeps s w (rvOf a gh) s2 (w.setRow b cs') (rvOf a gh) :=
        Keeps.inplace h.rel hg rfl hsv rfl (.inr ⟨rfl, (fun hh => Bool.noConfusion hh), fun _ => rfl⟩) (F := Fo) (fun u k hu hn => hfar k (fun e => hn (e ▸ hbF))) hsub (hstab _ (fun k hu hn => hfar k (fun e => hn (e ▸ hbF))))
       have hSh : ∀ k, S k → (S k ∨ k = b) ∧ (w.setRow b cs').heap[k]? = w.heap[k]? := fun k hk => ⟨.inl hk, hfar k (fun e => hSb (e ▸ hk))⟩
       have hget : ∀ (i : Nat) (y : D), (xs.map (untie s t0))[i]? = some y → ∃ x, xs[i]? = some x ∧ y = untie s t0 x := fun i y hy => by
        rw [List.getElem?_map] at hy
        obtain ⟨x, h1, h2⟩ := Option.map_eq_some_iff.1 hy
        exact ⟨x, h1, h2.symm⟩
       have hunt : ∀ x : D, (untie s t0 x = x) ∨ (untie s t0 x = .undef ∧ ∃ m, x = .vw [t0] (s.k t0) m) := fun x => by
        unfold untie
        split
        ·rename_i r n m
         by_cases hrn : r = t0 ∧ n = s.k t0
         ·rw [if_pos hrn]; right; exact ⟨rfl, m, by rw [hrn.1, hrn.2]⟩
         ·rw [if_neg hrn]; exact .inl rfl
        ·exact .inl rfl
       have hnew : WR T s2 (rvOf a gh) (w.setRow b cs') (fun k => S k ∨ k = b) (.ocl true f (xs.map (untie s t0))) (.pointer (some ⟨b, 0, none⟩)) (fun _ => False) := by
        refine .ocl us (fun _ h => h) (by simpa using hz) (fun i y hy => ?_) (fun i y hy => ?_) (fun i hi => ?_) (.inr ⟨rfl, ⟨b, 0, none⟩, rfl, .inr rfl, hcell⟩)
        ·obtain ⟨x, h1, _⟩ := hget i y hy; exact hxx i x h1
        ·obtain ⟨x, h1, rfl⟩ := hget i y hy
         rcases hunt x with h2 | ⟨h2, _⟩
         ·rw [h2]; exact WR.keep (hww i x h1) hkeep hSh (fun k hk => hk.elim)
         ·rw [h2]; exact .undef (fun _ h => h)
        ·obtain ⟨x, h1, h2⟩ := hget i _ hi
         rcases hunt x with h3 | ⟨_, m, rfl⟩
         ·rw [h3] at h2
          subst h2
          obtain ⟨ad, q1, q2, q3⟩ := hself i h1
          exact ⟨ad, q1, .inl q2, by rw [cell_block (hSh _ q2).2]; exact q3⟩
         ·have hW := hww i _ h1
          generalize us i = ui at hW ⊢
          cases hW with
          | vw _ hV =>
           have := hV.2 ⟨t0, [], _, rfl, rfl, .inl rfl, hg, rfl⟩
           simp only [foll, followV, Option.some.injEq] at this
           rw [← this, hvt]
           exact ⟨⟨b, 0, none⟩, rfl, .inr rfl, hcell⟩
       have hrel := hset (w.setRow b cs') (fun k => S k ∨ k = b) s2 _ (fun _ => False) hsv (fun k u hu hn => ⟨hfar k (fun e => hn (e ▸ hbF)), by
         rintro (hk | hk)
         ·exact (h.rel.val u).notS k hu hk
         ·exact hn (hk ▸ hbF), fun h => h⟩) hSh (by
         rintro k (hk | rfl)
         ·have := h.rel.lt k hk; simpa [World.setRow] using this
         ·simpa [World.setRow] using hblt) hkeep hnew
       subst hs
       refine ⟨_, hrun, _, _, hrel, ⟨rfl, rfl, rfl, by simp [World.setRow], fun k _ hn => hfar k (fun e => hn t0 (e ▸ hsub b hbF)), fun k hk => .inl hk, ?_, fun u k hu => ?_⟩, h.defs, h.size⟩
       ·rintro k (hk | rfl)
        ·exact .inl hk
        ·exact .inr (.inl ⟨t0, hsub _ hbF⟩)
       ·by_cases hut : u = t0
        ·subst hut
         simp only [upd_same, or_false] at hu
         exact .inl ⟨u, hu.1⟩
        ·rw [upd_other _ _ hut] at hu; exact .inl ⟨u, hu⟩
     ·cases h1
   ·cases hs
  ·cases hs
 ·cases hs

theorem agg_cmp {P : Program} {T : Tys} (hT : TyOk P T) {t : TypeId} {k l : IntKind} {m n : Int} (hb : boolOk T t (.agg [.int k m, .int l n]) = true) :
  ∃ f0 f1 : Field, P.underlying t = some (.struct #[f0, f1]) ∧ f0.offset = 0 ∧ f1.offset = 1 ∧ P.underlying f0.type = some (.int k) ∧ P.underlying f1.type = some (.int l) ∧ f0.name ≠ "_" ∧ f1.name ≠ "_" ∧ P.stoodInHeld t = false ∧ P.eqGuardType P.depth t = false := by
 simp only [boolOk] at hb
 unfold aggOk at hb
 split at hb
 ·rename_i a b hty
  rw [Bool.and_eq_true] at hb
  obtain ⟨h1, h2⟩ := hb
  unfold intK at h1 h2
  split at h1
  ·rename_i k' hk
   split at h2
   ·rename_i l' hl
    simp only [decide_eq_true_eq] at h1 h2
    subst h1 h2
    exact hT.cmp hty hk hl
   ·cases h2
  ·cases h1
 ·cases hb

theorem frzDst_sound {pm : Pm} {s1 : St} {a' : Act} {dst : Option Tmp} (h : Post E.T gh N s1 w S Fs a' w') (hf : frzDst pm s1 dst = some s') : Post E.T gh N s' w S Fs a' w' := by
 unfold frzDst at hf
 split at hf
 ·rename_i t
  split at hf
  ·simp only [Option.map_eq_some_iff] at hf
   obtain ⟨c, hfz, rfl⟩ := hf
   obtain ⟨S1, Fs1, rel, hst, hdf, hsz⟩ := h
   obtain ⟨v', Fo, hfo', hWo, hsub, hset, _⟩ := rel.focus (t := t) (p := []) (d := s1.v t) rfl
   have hno : c.hasObj = false := frz_noObj _ _ hfz
   have hk := Keeps.set0 (s := s1) (w := w') (rv := rvOf a' gh) (t := t) (p := []) (x := c) (y := s1.v t) rfl hno
   have hWf := hWo.freeze _ hfz (S' := fun k => S1 k ∨ Fo k) (fun k hk => .inr hk) (fun k hk => .inl hk)
   have hrel := hset w' (fun k => S1 k ∨ Fo k) _ c (fun _ => False) rfl (fun k u hu hn => ⟨rfl, (by
     rintro (hs | hf)
     ·exact (rel.val u).notS k hu hs
     ·exact hn hf), id⟩) (fun k hk => ⟨.inl hk, rfl⟩) (by
     rintro k (hs | hf)
     ·exact rel.lt k hs
     ·exact hWo.lt k hf) hk hWf.up
   refine ⟨_, _, hrel, hst.trans (Step.of_sub (fun k hk => .inl hk) ?_ ?_), hdf, hsz⟩
   ·rintro k (hs | hf)
    ·exact .inl hs
    ·exact .inr ⟨t, hsub k hf⟩
   ·intro u k hu
    by_cases hut : u = t
    ·subst hut; simp only [upd_same, or_false] at hu; exact ⟨u, hu.1⟩
    ·rw [upd_other _ _ hut] at hu; exact ⟨u, hu⟩
  ·cases hf
 ·cases hf

/-- The cells of an owned slice, frozen. -/
theorem own_frzs {T : Tys} {S : Nat → Prop} {w : World} {V : Place → Nat → Nat → Value → Prop} {Vp : Place → Nat → Nat → Nat → Value → Prop} {e : TypeId} {xs ys : List D} {v : Value} {F : Nat → Prop} (h : W T S w V Vp (.own e xs) v F) (hf : frzs xs = some ys) :
  ∃ (S' F' : Nat → Prop), W T S' w V Vp (.own e ys) v F' ∧ (∀ k, S k → S' k) ∧ (∀ k, S' k → S k ∨ F k) ∧ (∀ k, F' k → F k) := by
 cases h with
 | own0 hE =>
  simp only [frzs, Option.some.injEq] at hf
  subst hf
  exact ⟨S, F, .own0 hE, fun _ h => h, fun _ h => .inl h, fun _ h => h⟩
 | own us Fi hb hz hn hc hm hx hF hFb hd hS hw =>
  rename_i b off n c cs
  obtain ⟨hl, hg⟩ := frzs_get hf
  refine ⟨fun k => S k ∨ ∃ i, i < xs.length ∧ Fi i k, fun k => k = b, .own us (fun _ _ => False) hb hz (hl.trans hn) hc hm (fun i y hi => ?_) (fun k => ⟨fun h => .inl h, fun h => h.elim id (fun ⟨_, _, hf⟩ => hf.elim)⟩) (fun _ _ h => h) (fun _ _ _ _ _ _ h => h.elim) (fun h => ?_) (fun i y hi => ?_), fun k hk => .inl hk, fun k hk => ?_, fun k hk => ?_⟩
  ·obtain ⟨x, hxi, _⟩ := frzs_back hf hi
   exact hx i x hxi
  ·rcases h with h | ⟨i, hi, h⟩
   ·exact hS h
   ·exact hFb i hi h
  ·obtain ⟨x, hxi, hfx⟩ := frzs_back hf hi
   exact ((hw i x hxi).freeze _ hfx (fun k hk => .inr ⟨i, (List.getElem?_eq_some_iff.1 hxi).1, hk⟩) (fun k hk => .inl hk)).up
  ·rcases hk with hk | hk
   ·exact .inl hk
   ·exact .inr ((hF k).2 (.inr hk))
  ·exact (hF k).2 (.inl hk)

theorem frzCs_sound {pm : Pm} {s1 : St} {a' : Act} {dst : Option Tmp} (h : Post E.T gh N s1 w S Fs a' w') (hf : frzCs pm s1 dst = some s') : Post E.T gh N s' w S Fs a' w' := by
 unfold frzCs at hf
 split at hf
 ·rename_i t
  split at hf
  ·split at hf
   ·rename_i e xs hv
    simp only [Option.map_eq_some_iff] at hf
    obtain ⟨ys, hfz, rfl⟩ := hf
    obtain ⟨S1, Fs1, rel, hst, hdf, hsz⟩ := h
    have hg0 : getp (s1.v t) [] = some (.own e xs) := by rw [hv]; rfl
    obtain ⟨v', Fo, hfo', hWo, hsub, hset, _⟩ := rel.focus (t := t) (p := []) hg0
    obtain ⟨S', F', hW', hSS, hS', hF'⟩ := own_frzs hWo hfz
    have hno : hasObjs ys = false := frzs_noObj _ _ hfz
    have hk : Keeps s1 w' (rvOf a' gh) (s1.set [t] (.own e ys)) w' (rvOf a' gh) :=
     Keeps.inplace (F := Fo) rel hg0 rfl rfl rfl (.inr ⟨rfl, fun _ => hno, fun hf => by cases hf⟩) (fun _ _ _ _ => rfl) hsub (fun _ _ _ _ => rfl)
    have hrel := hset w' S' _ (.own e ys) F' rfl (fun k u hu hn => ⟨rfl, (by
      intro hs
      rcases hS' k hs with hs | hs
      ·exact (rel.val u).notS k hu hs
      ·exact hn hs), fun hf => hn (hF' k hf)⟩) (fun k hk => ⟨hSS k hk, rfl⟩) (by
      intro k hs
      rcases hS' k hs with hs | hs
      ·exact rel.lt k hs
      ·exact hWo.lt k hs) hk (hW'.mono (fun k hk => ⟨hk, rfl⟩) _ _ hk.VR hk.VpR (fun k hf => ⟨hW'.notS k hf, rfl⟩))
    refine ⟨_, _, hrel, hst.trans (Step.of_sub hSS ?_ ?_), hdf, hsz⟩
    ·intro k hs
     rcases hS' k hs with hs | hs
     ·exact .inl hs
     ·exact .inr ⟨t, hsub k hs⟩
    ·intro u k hu
     by_cases hut : u = t
     ·subst hut
      simp only [upd_same] at hu
      rcases hu with hu | hu
      ·exact ⟨u, hu.1⟩
      ·exact ⟨u, hsub k (hF' k hu)⟩
     ·rw [upd_other _ _ hut] at hu; exact ⟨u, hu⟩
   ·cases hf
  ·cases hf
 ·cases hf

theorem opBox_sound {pm : Pm} {dst : Option Tmp} {t : TypeId} {x : Operand} (h : Fr E.T N gh s a w S Fs) (hd : dstOk N dst) (hx : opdOk N x) (ho : opBox E.T pm s dst t x = some s') :
  ∃ v w', (Instr.box t (a.eval x)).run P w = .ok v w' ∧ Post E.T gh N s' w S Fs (a.put dst v) w' := by
 unfold opBox at ho
 split at ho
 ·rename_i ds hkp
  split at ho
  ·simp only [Option.some.injEq] at ho; subst ho
   exact box_keep (P := P) h hd hx hkp
  ·cases ho
 split at ho
 ·rename_i d s1 ht
  split at ho
  ·simp only [Option.some.injEq] at ho; subst ho
   exact box_sound (P := P) h hd hx ht
  ·cases ho
 ·cases ho

theorem bs_sound {pm : Pm} {dst : Option Tmp} {t : TypeId} {len : Nat} {parts : Array (Nat × Operand)} (hT : TyOk P E.T) (h : Fr E.T N gh s a w S Fs) (hd : dstOk N dst) (hx : ∀ q ∈ parts.toList, opdOk N q.2) (ho : opBs E.T pm s dst t len parts = some s') :
  ∃ v w', (Instr.buildSlice t len (parts.map fun q => (q.1, a.eval q.2))).run P w = .ok v w' ∧ Post E.T gh N s' w S Fs (a.put dst v) w' := by
 unfold opBs at ho
 split at ho
 ·rename_i e hty
  split at ho
  ·rename_i hc
   simp only [Option.map_eq_some_iff] at ho
   obtain ⟨r, hf, rfl⟩ := ho
   exact buildSlice_sound (P := P) hT h hd hty hc.2 hc.1 hx hf
  ·cases ho
 ·cases ho

theorem opBin_wp {pm : Pm} {o : Oper} {Q : Exit → Act → World → Prop} {op : BinOp} {t ty : TypeId} {x y : Operand} (hT : TyOk P E.T) (h : Fr E.T N gh s a w S Fs) (hd : dstOk N o.dst) (hop : o.op = .binOp op t x y ty) (hx : ∀ z ∈ (Op.binOp op t x y ty).operands.toList, opdOk N z)
  (ho : opBinS E.T pm s o.dst op t x y = some s') : o.wp P a w (Post E.T gh N s' w S Fs) Q := by
 unfold opBinS at ho
 split at ho
 ·rename_i q hq
  simp only [Option.bind_eq_some_iff, Option.map_eq_some_iff] at ho
  obtain ⟨d, he, b, hb, rfl⟩ := ho
  obtain ⟨A, n, cp, hvx, rfl⟩ := nilD_sound h (hx x (by simp [Op.operands])) he hb
  unfold nilQ at hq
  split at hq
  ·split at hq
   ·rename_i e hty
    have hu := hT.slice hty
    have hvy : a.eval (.const (.slice none 0 0)) = .slice none 0 0 := rfl
    have hres : ∀ r : Bool, WR E.T s (rvOf a gh) w S (.bool r) (.bool r) (fun _ => False) := fun r => .bool (fun _ h => h)
    split at hq
    ·simp only [Option.some.injEq] at hq; subst hq
     have hrun : (binOp .eql t (a.eval x) (a.eval (.const (.slice none 0 0)))).run P w = .ok (.bool (A.isNone == true)) w := by
      rw [hvx, hvy, show (A.isNone == true) = A.isNone by cases A.isNone <;> rfl]; exact Lib.run_eql_slice_nil w t e A n cp 0 0 hu
     have hg : (eqGuard .eql t x (.const (.slice none 0 0)) (a.eval x) (a.eval (.const (.slice none 0 0)))).run P w = .ok () w := by rw [hvx, hvy]; rfl
     exact wp_value (by simp [execOp, hop, hg, hrun]) (post_val h hd (hres _) (fun _ h => h))
    ·simp only [Option.some.injEq] at hq; subst hq
     have hrun : (binOp .neq t (a.eval x) (a.eval (.const (.slice none 0 0)))).run P w = .ok (.bool (A.isNone == false)) w := by
      rw [hvx, hvy, show (A.isNone == false) = !A.isNone by cases A.isNone <;> rfl]; exact run_neq_slice_nil w t e A n cp hu
     have hg : (eqGuard .neq t x (.const (.slice none 0 0)) (a.eval x) (a.eval (.const (.slice none 0 0)))).run P w = .ok () w := by rw [hvx, hvy]; rfl
     exact wp_value (by simp [execOp, hop, hg, hrun]) (post_val h hd (hres _) (fun _ h => h))
    ·cases hq
   ·cases hq
  ·cases hq
 split at ho
 ·rename_i dx dy hxx hyy
  split at ho
  ·rename_i hb
   simp only [Option.map_eq_some_iff] at ho
   obtain ⟨r, hr, rfl⟩ := ho
   have hWx := ev_W h.rel h.small (hx x (by simp [Op.operands])) hxx
   have hWy := ev_W h.rel h.small (hx y (by simp [Op.operands])) hyy
   obtain ⟨v, hrun, hW⟩ := binD_sound (P := P) (t := t) (fun ⟨b, e⟩ => by
    subst e
    simp only [boolOk] at hb
    have h0 := (hT t).1
    unfold TyFact at h0
    split at hb
    ·rename_i hty; rw [hty] at h0; exact h0.1
    ·cases hb) (fun k l m n e => by
    subst e
    exact agg_cmp hT hb) hWx hWy hr
   have hg : (eqGuard op t x y (a.eval x) (a.eval y)).run P w = .ok () w := by
    generalize a.eval x = vx at *
    generalize a.eval y = vy at *
    cases hWx <;> cases hWy <;> first
     | (simp [binD] at hr; done)
     | (cases op <;> rfl)
     | (obtain ⟨k, l, m, n, m', n', rfl, rfl, _⟩ := binD_agg hr; obtain ⟨_, _, _, _, _, _, _, _, _, _, hm⟩ := agg_cmp hT hb; exact run_eqGuard_agg w op t x y _ _ hm)
   exact wp_value (by simp [execOp, hop, hg, hrun]) (post_val h hd hW (fun _ h => h))
  ·cases ho
 ·cases ho

theorem frzF_sound {pm : Pm} {s1 : St} {a' : Act} {dst : Option Tmp} {u : Tmp} (h : Post E.T gh N s1 w S Fs a' w') (hf : frzF pm s1 dst u = some s') : Post E.T gh N s' w S Fs a' w' := by
 unfold frzF at hf
 split at hf
 ·split at hf
  ·split at hf
   ·split at hf
    ·simp only [Option.some.injEq] at hf; subst hf; exact h
    ·exact frzDst_sound h hf
   ·cases hf
  ·cases hf
 ·cases hf

theorem opD_sound {pm : Pm} {o : Oper} {Q : Exit → Act → World → Prop} (hT : TyOk P E.T) (hC : CallsOk P E) (h : Fr E.T N gh s a w S Fs) (hok : opOk N o) (ho : opD E pm s o = some s') : o.wp P a w (Post E.T gh N s' w S Fs) Q := by
 obtain ⟨hd, hx⟩ := hok
 unfold opD at ho
 cases hop : o.op <;> simp only [hop] at ho hx
 case move x =>
  simp only [Option.map_eq_some_iff] at ho
  obtain ⟨d, he, rfl⟩ := ho
  exact wp_value (by simp [execOp, hop]) (move_sound h hd (hx x (by simp [Op.operands])) he)
 case assign x =>
  simp only [Option.bind_eq_some_iff] at ho
  obtain ⟨d, he, ha⟩ := ho
  split at ha
  ·simp only [Option.bind_eq_some_iff] at ha
   obtain ⟨s1, ha, hf⟩ := ha
   exact wp_value (by simp [execOp, hop]) (frzDst_sound (assign_sound h hd (hx x (by simp [Op.operands])) he ha) hf)
  ·exact wp_value (by simp [execOp, hop]) (assign_sound h hd (hx x (by simp [Op.operands])) he ha)
 case pick c x y =>
  split at ho
  ·rename_i t dx dy hc hxx hyy
   have hWc := ev_W h.rel h.small (hx c (by simp [Op.operands])) hc
   have hWx := ev_W h.rel h.small (hx x (by simp [Op.operands])) hxx
   have hWy := ev_W h.rel h.small (hx y (by simp [Op.operands])) hyy
   have hcv : a.eval c = .bool t := by
    generalize a.eval c = v at *
    cases hWc with
    | bool => rfl
   cases t
   ·simp only [Bool.false_eq_true, if_false] at ho
    split at ho
    ·cases ho
    ·rename_i hno
     simp only [Option.some.injEq] at ho; subst ho
     exact wp_value (v := a.eval y) (by simp [execOp, hop, hcv, asBool]) (post_val h hd hWy (noObj_empty hWy (by simpa using hno)))
   ·simp only [if_true] at ho
    split at ho
    ·cases ho
    ·rename_i hno
     simp only [Option.some.injEq] at ho; subst ho
     exact wp_value (v := a.eval x) (by simp [execOp, hop, hcv, asBool]) (post_val h hd hWx (noObj_empty hWx (by simpa using hno)))
  ·cases ho
 case alloc t =>
  split at ho
  ·rename_i hk
   simp only [Option.some.injEq] at ho; subst ho
   obtain ⟨v, w', hr, hp⟩ := alloc_sound hT h hd hk
   exact wp_value (by simp [execOp, hop, hr]) hp
  ·cases ho
 case box t x =>
  split at ho
  ·simp only [Option.bind_eq_some_iff] at ho
   obtain ⟨s1, ho, hf⟩ := ho
   obtain ⟨v, w', hr, hp⟩ := opBox_sound (P := P) h hd (hx x (by simp [Op.operands])) ho
   exact wp_value (by simp [execOp, hop, hr]) (frzDst_sound hp hf)
  ·obtain ⟨v, w', hr, hp⟩ := opBox_sound (P := P) h hd (hx x (by simp [Op.operands])) ho
   exact wp_value (by simp [execOp, hop, hr]) hp
 case build t parts =>
  split at ho
  ·rename_i fl hn
   split at ho
   ·rename_i hk
    rw [Bool.and_eq_true] at hk
    simp only [Option.map_eq_some_iff] at ho
    obtain ⟨r, hf, rfl⟩ := ho
    obtain ⟨v, hr, hp⟩ := buildN_sound (P := P) hT h hd hk.1 hk.2 hn (fun q hq => hx q.2 (by simp [Op.operands]; exact ⟨q.1, by simpa using hq⟩)) hf
    exact wp_value (by simp [execOp, hop, hr]) hp
   ·cases ho
  rename_i hn
  split at ho
  ·rename_i fs hty
   split at ho
   ·rename_i hk
    simp only [Option.map_eq_some_iff] at ho
    obtain ⟨r, hf, rfl⟩ := ho
    obtain ⟨v, hr, hp⟩ := build_sound (P := P) hT h hd hty hk hn (fun q hq => hx q.2 (by simp [Op.operands]; exact ⟨q.1, by simpa using hq⟩)) hf
    exact wp_value (by simp [execOp, hop, hr]) hp
   ·cases ho
  ·cases ho
 case buildSlice t len parts =>
  have hxs : ∀ q ∈ parts.toList, opdOk N q.2 := fun q hq => hx q.2 (by simp [Op.operands]; exact ⟨q.1, by simpa using hq⟩)
  split at ho
  ·simp only [Option.bind_eq_some_iff] at ho
   obtain ⟨s1, ho, hf⟩ := ho
   obtain ⟨v, w', hr, hp⟩ := bs_sound (P := P) hT h hd hxs ho
   exact wp_value (by simp [execOp, hop, hr]) (frzCs_sound hp hf)
  ·obtain ⟨v, w', hr, hp⟩ := bs_sound (P := P) hT h hd hxs ho
   exact wp_value (by simp [execOp, hop, hr]) hp
 case load t x =>
  simp only [Option.bind_eq_some_iff, Option.map_eq_some_iff] at ho
  obtain ⟨d, he, r, hl, rfl⟩ := ho
  obtain ⟨v, hr, hp⟩ := load_sound hT h hd (hx x (by simp [Op.operands])) he hl
  exact wp_value (by simp [execOp, hop, hr]) hp
 case store t ax x =>
  split at ho
  ·rename_i hn
   have key : ∃ w', (Instr.storeAt t (a.eval ax) (a.eval x)).run P w = .ok () w' ∧ Post E.T gh N s' w S Fs (a.put o.dst undef) w' := by
    split at ho
    ·exact storeM_sound (P := P) hT h (dst := o.dst) (by simpa using hn) (hx ax (by simp [Op.operands])) (hx x (by simp [Op.operands])) ho
    split at ho
    ·exact tie_sound (P := P) hT h (dst := o.dst) (by simpa using hn) (hx ax (by simp [Op.operands])) (hx x (by simp [Op.operands])) ho
    ·exact store_sound (P := P) hT h (dst := o.dst) (by simpa using hn) (hx ax (by simp [Op.operands])) (hx x (by simp [Op.operands])) ho
   obtain ⟨w', hr, hp⟩ := key
   unfold Oper.wp
   have : (execOp a.eval o).run P w = .ok .skip w' := by simp [execOp, hop, hr]
   rw [this]
   exact hp
  ·cases ho
 case nilCheck x =>
  simp only [Option.bind_eq_some_iff] at ho
  obtain ⟨d, he, ha⟩ := ho
  have hxo := hx x (by simp [Op.operands])
  have hW := ev_W h.rel h.small hxo he
  have hrun : (∀ A, a.eval x = .pointer (some A) → (execOp a.eval o).run P w = .ok (.value (a.eval x)) w) ∧ (∀ f vs, a.eval x = .func (.func f) #[] vs → (execOp a.eval o).run P w = .ok (.value (a.eval x)) w) := by
   refine ⟨fun A hA => by simp [execOp, hop, hA], fun f vs hA => by simp [execOp, hop, hA]⟩
  split at ha
  ·simp only [Option.some.injEq] at ha; subst ha
   have hv : ∃ A, a.eval x = .pointer (some A) := by
    generalize a.eval x = v at *
    cases hW with
    | box => exact ⟨_, rfl⟩
   obtain ⟨A, hv⟩ := hv
   exact wp_value (hrun.1 A hv) (move_sound h hd hxo he)
  ·rename_i L n m
   split at ha
   ·rename_i xs hl
    simp only [Option.some.injEq] at ha; subst ha
    obtain ⟨t, p, rfl, hg, hob, hva⟩ := look_spec hl
    have hv : ∃ A, a.eval x = .pointer (some A) := by
     obtain ⟨v', F', hfo, hW', _⟩ := h.rel.focus hg
     cases hW with
     | vw hE hv =>
      rw [hv.2 hva] at hfo
      injection hfo with hfo
      rw [hfo]
      cases hW' with
      | box => exact ⟨_, rfl⟩
    obtain ⟨A, hv⟩ := hv
    exact wp_value (hrun.1 A hv) (move_sound h hd hxo he)
   ·cases ha
  ·rename_i L c n m
   split at ha
   ·rename_i o' hl
    simp only [Option.some.injEq] at ha; subst ha
    obtain ⟨t, p, rfl, hg, hob, hva⟩ := look_spec hl
    have hv : ∃ A, a.eval x = .pointer (some A) := by
     cases hW with
     | pe hE hv =>
      obtain ⟨hv', ad, _, _, h3⟩ := hv.2 hva
      exact ⟨_, h3⟩
    obtain ⟨A, hv⟩ := hv
    exact wp_value (hrun.1 A hv) (move_sound h hd hxo he)
   ·cases ha
  ·simp only [Option.some.injEq] at ha; subst ha
   have hv : ∃ A, a.eval x = .pointer (some A) := by
    generalize a.eval x = v at *
    cases hW with
    | cptr => exact ⟨_, rfl⟩
   obtain ⟨A, hv⟩ := hv
   exact wp_value (hrun.1 A hv) (move_sound h hd hxo he)
  ·simp only [Option.some.injEq] at ha; subst ha
   have hv : ∃ f vs, a.eval x = .func (.func f) #[] vs := by
    generalize a.eval x = v at *
    cases hW with
    | clo => exact ⟨_, _, rfl⟩
   obtain ⟨f, vs, hv⟩ := hv
   exact wp_value (hrun.2 f vs hv) (move_sound h hd hxo he)
  ·simp only [Option.some.injEq] at ha; subst ha
   have hv : ∃ f vs, a.eval x = .func (.func f) #[] vs := by
    generalize a.eval x = v at *
    cases hW with
    | ocl us hE hz hxx hww hs hv =>
     rcases hv with ⟨_, rfl⟩ | ⟨h1, _⟩
     ·exact ⟨_, _, rfl⟩
     ·cases h1
   obtain ⟨f, vs, hv⟩ := hv
   exact wp_value (hrun.2 f vs hv) (move_sound h hd hxo he)
  ·cases ha
 case binOp op t x y ty =>
  split at ho
  ·exact opBin_wp hT h hd hop hx ho
  ·simp only [Option.bind_eq_some_iff] at ho
   obtain ⟨s1, ho, hf⟩ := ho
   exact Oper.wp_mono (fun a' w' hp => frzF_sound hp hf) (opBin_wp hT h hd hop hx ho)
 case unOp op t x =>
  simp only [Option.bind_eq_some_iff, Option.map_eq_some_iff] at ho
  obtain ⟨d, he, r, hr, rfl⟩ := ho
  have hW := ev_W h.rel h.small (hx x (by simp [Op.operands])) he
  obtain ⟨v, hrun, hW'⟩ := unD_sound (P := P) hW hr
  exact wp_value (by simp [execOp, hop, hrun]) (post_val h hd hW' (fun _ h => h))
 case convert src dst x =>
  split at ho
  ·rename_i hk
   have hsrc : ∃ d, P.underlying src = some d := by
    have h0 := (hT src).1
    unfold TyFact at h0
    unfold Tys.known at hk
    cases hty : E.T.ty src <;> rw [hty] at h0 hk
    case struct => obtain ⟨⟨_, h1, _⟩, _⟩ := h0; exact ⟨_, h1⟩
    case func => obtain ⟨⟨_, _, _, h1⟩, _⟩ := h0; exact ⟨_, h1⟩
    case ptr => obtain ⟨⟨_, h1⟩, _⟩ := h0; exact ⟨_, h1⟩
    case other => cases hk
    case map => cases hk
    all_goals exact ⟨_, h0.1⟩
   obtain ⟨ds, hds⟩ := hsrc
   split at ho
   ·rename_i k0 n k he hty
    simp only [Option.some.injEq] at ho; subst ho
    have hW := ev_W h.rel h.small (hx x (by simp [Op.operands])) he
    have hv : a.eval x = .int k0 n := by
     generalize a.eval x = v at *
     cases hW with
     | int => rfl
    have h0 := (hT dst).1
    unfold TyFact at h0
    rw [hty] at h0
    refine wp_value (v := .int k (k.wrap n)) ?_ (post_val h hd (F := fun _ => False) (.int (fun _ h => h)) (fun _ h => h))
    simp [execOp, hop, hv, convert, run_underlying hds, run_underlying h0.1, Conv.intToInt]
   ·rename_i b he hty
    simp only [Option.some.injEq] at ho; subst ho
    have hW := ev_W h.rel h.small (hx x (by simp [Op.operands])) he
    have hv : a.eval x = .string b := by
     generalize a.eval x = v at *
     cases hW with
     | str => rfl
    have h0 := (hT dst).1
    unfold TyFact at h0
    rw [hty] at h0
    refine wp_value (v := .string b) ?_ (post_val h hd (F := fun _ => False) (.str (fun _ h => h)) (fun _ h => h))
    simp [execOp, hop, hv, convert, run_underlying hds, run_underlying h0.1]
   ·cases ho
  ·cases ho
 case makeFunc fn first captured =>
  cases fn <;> simp only at ho <;> try (cases ho; done)
  rename_i f
  split at ho
  ·split at ho
   ·rename_i hfe
    simp only [Option.map_eq_some_iff] at ho
    obtain ⟨⟨ys, s1⟩, hc, rfl⟩ := ho
    obtain ⟨S', Fs', r', hl, hel, hst⟩ := capD_sound (a := a) (gh := gh) h.small captured.toList (fun x hx' => hx x (by simp [Op.operands]; right; simpa using hx')) hc h.rel
    have hfe' : first = #[] := by simpa using hfe
    subst hfe'
    refine wp_value (v := .func (.func f) #[] (captured.map a.eval)) (w' := w) (by simp [execOp, hop, Instr.makeFunc]) ?_
    refine post_put r' (F := fun _ => False) (.clo (fun i => (captured.map a.eval).getD i undef) (fun _ h => h) (by simp [hl]) (fun i y hy => ?_) (fun i y hy => ?_)) (fun _ _ _ h => h.elim) hst (fun _ h => h.elim) h.defs h.size h.small hd
    ·have hlt : i < captured.size := by have := (List.getElem?_eq_some_iff.1 hy).1; rw [hl] at this; simpa using this
     simp [Array.getD_eq_getD_getElem?, hlt]
    ·obtain ⟨x, hx', hw⟩ := hel i y hy
     have : (captured.map a.eval).getD i undef = a.eval x := by
      rw [Array.getD_eq_getD_getElem?, Array.getElem?_map, ← Array.getElem?_toList, hx']; rfl
     simp only [this]; exact hw
   ·cases ho
  ·split at ho
   ·rename_i hfe
    simp only [Option.map_eq_some_iff] at ho
    obtain ⟨⟨ys, s1⟩, hc, rfl⟩ := ho
    obtain ⟨S', Fs', r', hst, hl, hel⟩ := capV_sound (a := a) (gh := gh) h.small (fun x hx' => hx x (by simp [Op.operands]; right; simpa using hx')) hc h.rel
    have hfe' : first = #[] := by simpa using hfe
    subst hfe'
    have hge : ∀ (i : Nat) (y : D), ys[i]? = some y → (captured.map a.eval)[i]? = some ((captured.map a.eval).getD i undef) := fun i y hy => by
     have hlt : i < captured.size := by have := (List.getElem?_eq_some_iff.1 hy).1; rw [hl] at this; simpa using this
     simp [Array.getD_eq_getD_getElem?, hlt]
    refine wp_value (v := .func (.func f) #[] (captured.map a.eval)) (w' := w) (by simp [execOp, hop, Instr.makeFunc]) ?_
    refine post_put r' (F := fun _ => False) (.ocl (fun i => (captured.map a.eval).getD i undef) (fun _ h => h) (by simp [hl]) hge (fun i y hy => ?_) (fun i hi => absurd rfl (hel i _ hi).1) (.inl ⟨rfl, rfl⟩)) (fun _ _ _ h => h.elim) hst (fun _ h => h.elim) h.defs h.size h.small hd
    obtain ⟨_, x, hx', hw⟩ := hel i y hy
    have : (captured.map a.eval).getD i undef = a.eval x := by
     rw [Array.getD_eq_getD_getElem?, Array.getElem?_map, ← Array.getElem?_toList, hx']; rfl
    simp only [this]; exact hw
   ·cases ho
 case makeSlice t l c =>
  split at ho
  ·rename_i dl dc hl hc
   simp only [Option.map_eq_some_iff] at ho
   obtain ⟨r, hr, rfl⟩ := ho
   obtain ⟨v, w', hrun, hp⟩ := makeSlice_sound (P := P) hT h hd (hx l (by simp [Op.operands])) (hx c (by simp [Op.operands])) hl hc hr
   exact wp_value (by simp [execOp, hop, hrun]) hp
  ·cases ho
 case slice t x lo hi mx =>
  split at ho
  ·split at ho
   ·rename_i hlm
    simp only [Bool.and_eq_true, Option.isNone_iff_eq_none] at hlm
    obtain ⟨rfl, rfl⟩ := hlm
    simp only [Option.map_eq_some_iff] at ho
    obtain ⟨r, hr, rfl⟩ := ho
    obtain ⟨v, hrun, hp⟩ := cut_sound (P := P) hT h hd (hx x (by simp [Op.operands])) (fun o ho => hx o (by simp [Op.operands, ho])) hr
    exact wp_value (by simp [execOp, hop, hrun]) hp
   ·cases ho
  split at ho
  ·split at ho
   ·rename_i hlm
    simp only [Bool.and_eq_true, Option.isNone_iff_eq_none] at hlm
    obtain ⟨rfl, rfl⟩ := hlm
    simp only [Option.map_eq_some_iff] at ho
    obtain ⟨r, hr, rfl⟩ := ho
    obtain ⟨v, hrun, hp⟩ := cutF_sound (P := P) hT h hd (hx x (by simp [Op.operands])) (fun o ho => hx o (by simp [Op.operands, ho])) hr
    exact wp_value (by simp [execOp, hop, hrun]) hp
   ·cases ho
  simp only [Option.bind_eq_some_iff, Option.map_eq_some_iff] at ho
  obtain ⟨d, he, r, hr, rfl⟩ := ho
  obtain ⟨v, hrun, hp⟩ := slice_sound (P := P) hT h hd (hx x (by simp [Op.operands])) (fun o ho => hx o (by simp [Op.operands, ho])) (fun o ho => hx o (by simp [Op.operands, ho])) (fun o ho => hx o (by simp [Op.operands, ho])) he hr
  exact wp_value (by simp [execOp, hop, hrun]) hp
 case fieldAddr t x i =>
  simp only [Option.bind_eq_some_iff, Option.map_eq_some_iff] at ho
  obtain ⟨d, he, r, hr, rfl⟩ := ho
  obtain ⟨v, hrun, hp⟩ := fieldAddr_sound (P := P) hT h hd (hx x (by simp [Op.operands])) he hr
  exact wp_value (by simp [execOp, hop, hrun]) hp
 case indexAddr t x i =>
  split at ho
  ·rename_i dx di hxx hii
   simp only [Option.map_eq_some_iff] at ho
   obtain ⟨r, hr, rfl⟩ := ho
   obtain ⟨v, hrun, hp⟩ := ix_sound (P := P) hT h hd (hx x (by simp [Op.operands])) (hx i (by simp [Op.operands])) hxx hii hr
   exact wp_value (by simp [execOp, hop, hrun]) hp
  ·cases ho
 case makeMap t r =>
  split at ho
  ·rename_i hr0
   rw [Option.isNone_iff_eq_none] at hr0
   subst hr0
   simp only [Option.map_eq_some_iff] at ho
   obtain ⟨r, hr, rfl⟩ := ho
   obtain ⟨v, w', hrun, hp⟩ := makeMap_sound (P := P) h hd hr
   exact wp_value (by simp [execOp, hop, hrun]) hp
  ·cases ho
 case lookup t x i ok =>
  split at ho
  ·rename_i dx di hxx hii
   simp only [Option.map_eq_some_iff] at ho
   obtain ⟨r, hr, rfl⟩ := ho
   obtain ⟨v, hrun, hp⟩ := lookup_sound (P := P) hT h hd (hx x (by simp [Op.operands])) (hx i (by simp [Op.operands])) hxx hii hr
   exact wp_value (by simp [execOp, hop, hrun]) hp
  ·cases ho
 case mapUpdate t x i v =>
  split at ho
  ·rename_i hdst
   rw [Option.isNone_iff_eq_none] at hdst
   split at ho
   ·rename_i dx di dv hxx hii hvv
    obtain ⟨w', hrun, hp⟩ := mapUp_sound (P := P) hT h (hx x (by simp [Op.operands])) (hx i (by simp [Op.operands])) (hx v (by simp [Op.operands])) hxx hii hvv ho
    unfold Oper.wp
    have : (execOp a.eval o).run P w = .ok .skip w' := by simp [execOp, hop, hrun]
    rw [this]
    rw [← hdst] at hp
    exact hp
   ·cases ho
  ·cases ho
 case extract x i =>
  simp only [Option.bind_eq_some_iff] at ho
  obtain ⟨d, he, ha⟩ := ho
  obtain ⟨v, hrun, hp⟩ := extract_sound (P := P) h hd (hx x (by simp [Op.operands])) he ha
  exact wp_value (by simp [execOp, hop, hrun]) hp
 case call c =>
  have hopn : ∀ x ∈ c.args.toList, opdOk N x := fun x hx' => hx x (by simp only [Op.operands, Call.operands]; simp; right; simpa using hx')
  cases hcal : c.callee <;> simp only [hcal] at ho
  case builtin b =>
   cases b <;> simp only at ho
   case len =>
    split at ho
    ·rename_i x t hargs hts
     simp only [Option.bind_eq_some_iff, Option.map_eq_some_iff] at ho
     obtain ⟨d, he, r, hr, rfl⟩ := ho
     have ha : c.args = #[x] := by rw [← Array.toArray_toList (xs := c.args), hargs]
     have ht : c.argTypes = #[t] := by rw [← Array.toArray_toList (xs := c.argTypes), hts]
     obtain ⟨v, hrun, hp⟩ := lnM_sound (P := P) hT h hd (hopn x (by rw [hargs]; simp)) o.type he hr
     refine wp_value ?_ hp
     simp [execOp, hop, resolve, hcal, invoke, builtin, ha, ht, hrun]
    ·cases ho
   case append =>
    split at ho
    ·rename_i x y t t' hargs hts
     split at ho
     ·rename_i htt
      subst htt
      simp only [Option.map_eq_some_iff] at ho
      obtain ⟨r, hr, rfl⟩ := ho
      have ha : c.args = #[x, y] := by rw [← Array.toArray_toList (xs := c.args), hargs]
      have ht : c.argTypes = #[t, t] := by rw [← Array.toArray_toList (xs := c.argTypes), hts]
      by_cases hz : isZ (ev E.T s t y) = true
      ·rw [if_pos hz] at hr
       obtain ⟨v, w', hrun, hp⟩ := appZ_sound (P := P) hT h hd (hopn x (by rw [hargs]; simp)) (hopn y (by rw [hargs]; simp)) o.type (r := r.1) (s' := r.2) hz (by rw [hr])
       refine wp_value ?_ hp
       simp [execOp, hop, resolve, hcal, invoke, builtin, ha, ht, hrun]
      ·rw [if_neg hz] at hr
       obtain ⟨v, w', hrun, hp⟩ := append_sound (P := P) hT h hd (hopn x (by rw [hargs]; simp)) (hopn y (by rw [hargs]; simp)) o.type (r := r.1) (s' := r.2) (by rw [hr])
       refine wp_value ?_ hp
       simp [execOp, hop, resolve, hcal, invoke, builtin, ha, ht, hrun]
     ·cases ho
    ·cases ho
   case copy =>
    split at ho
    ·rename_i x y t t' hargs hts
     split at ho
     ·rename_i da db hea heb
      simp only [Option.map_eq_some_iff] at ho
      obtain ⟨r, hr, rfl⟩ := ho
      have ha : c.args = #[x, y] := by rw [← Array.toArray_toList (xs := c.args), hargs]
      have ht : c.argTypes = #[t, t'] := by rw [← Array.toArray_toList (xs := c.argTypes), hts]
      obtain ⟨v, w', hrun, hp⟩ := copy_sound (P := P) hT h hd (t' := t') (hopn x (by rw [hargs]; simp)) (hopn y (by rw [hargs]; simp)) o.type (r := r.1) (s' := r.2) hea heb (by rw [hr])
      refine wp_value ?_ hp
      simp [execOp, hop, resolve, hcal, invoke, builtin, ha, ht, hrun]
     ·cases ho
    ·cases ho
   case clear =>
    split at ho
    ·rename_i x t hargs hts
     simp only [Option.bind_eq_some_iff, Option.map_eq_some_iff] at ho
     obtain ⟨da, hea, r, hr, rfl⟩ := ho
     have ha : c.args = #[x] := by rw [← Array.toArray_toList (xs := c.args), hargs]
     have ht : c.argTypes = #[t] := by rw [← Array.toArray_toList (xs := c.argTypes), hts]
     obtain ⟨v, w', hrun, hp⟩ := clear_sound (P := P) hT h hd (hopn x (by rw [hargs]; simp)) o.type (r := r.1) (s' := r.2) hea (by rw [hr])
     refine wp_value ?_ hp
     simp [execOp, hop, resolve, hcal, invoke, builtin, ha, ht, hrun]
    ·cases ho
   case min =>
    split at ho
    ·rename_i x y t t' hargs hts
     split at ho
     ·rename_i da db hea heb
      simp only [Option.map_eq_some_iff] at ho
      obtain ⟨r, hr, rfl⟩ := ho
      have ha : c.args = #[x, y] := by rw [← Array.toArray_toList (xs := c.args), hargs]
      have ht : c.argTypes = #[t, t'] := by rw [← Array.toArray_toList (xs := c.argTypes), hts]
      have hWx := ev_W h.rel h.small (hopn x (by rw [hargs]; simp)) hea
      have hWy := ev_W h.rel h.small (hopn y (by rw [hargs]; simp)) heb
      unfold minD at hr
      split at hr
      ·rename_i k m k' n'
       split at hr
       ·rename_i hk
        subst hk
        simp only [Option.some.injEq] at hr
        subst hr
        have hvx : a.eval x = .int k m := by generalize a.eval x = v at *; cases hWx; rfl
        have hvy : a.eval y = .int k n' := by generalize a.eval y = v at *; cases hWy; rfl
        refine wp_value (v := .int k (leastI m n')) (w' := w) ?_ (post_val h hd (.int (fun _ hf => hf)) (fun _ hf => hf))
        simp [execOp, hop, resolve, hcal, invoke, builtin, ha, ht, hvx, hvy, Builtin.min_, Builtin.min2, leastI]
       ·cases hr
      ·cases hr
     ·cases ho
    ·cases ho
   case max =>
    split at ho
    ·rename_i x y t t' hargs hts
     split at ho
     ·rename_i da db hea heb
      simp only [Option.map_eq_some_iff] at ho
      obtain ⟨r, hr, rfl⟩ := ho
      have ha : c.args = #[x, y] := by rw [← Array.toArray_toList (xs := c.args), hargs]
      have ht : c.argTypes = #[t, t'] := by rw [← Array.toArray_toList (xs := c.argTypes), hts]
      have hWx := ev_W h.rel h.small (hopn x (by rw [hargs]; simp)) hea
      have hWy := ev_W h.rel h.small (hopn y (by rw [hargs]; simp)) heb
      unfold minD at hr
      split at hr
      ·rename_i k m k' n'
       split at hr
       ·rename_i hk
        subst hk
        simp only [Option.some.injEq] at hr
        subst hr
        have hvx : a.eval x = .int k m := by generalize a.eval x = v at *; cases hWx; rfl
        have hvy : a.eval y = .int k n' := by generalize a.eval y = v at *; cases hWy; rfl
        refine wp_value (v := .int k (mostI m n')) (w' := w) ?_ (post_val h hd (.int (fun _ hf => hf)) (fun _ hf => hf))
        simp [execOp, hop, resolve, hcal, invoke, builtin, ha, ht, hvx, hvy, Builtin.max_, Builtin.max2, mostI]
       ·cases hr
      ·cases hr
     ·cases ho
    ·cases ho
   all_goals (cases ho)
  case value fo =>
   cases fo <;> simp only at ho
   case func f =>
    split at ho
    ·rename_i hsz
     exact hC.1 f [] #[] h ⟨hd, by rw [hop]; exact hx⟩ hop hsz ho rfl (by simp) (fun w0 => by simp [execOp, hop, resolve, hcal, Act.eval, Deferred.ofValue, invoke])
    ·cases ho
   case tmp u =>
    split at ho
    ·rename_i f caps hu
     split at ho
     ·rename_i hsz
      have huN : u < N := hx (.tmp u) (by simp [Op.operands, Call.operands, hcal])
      have hW := h.rel.val u
      rw [hu] at hW
      have hev := eval_tmp (a := a) (gh := gh) h.small huN
      rw [← hev] at hW
      generalize hvv : a.eval (.tmp u) = vv at *
      cases hW with
      | clo us hE hz hxx hww =>
       rename_i vs
       exact hC.1 f caps vs h ⟨hd, by rw [hop]; exact hx⟩ hop hsz ho hz (fun i d hi => ⟨us i, hxx i d hi, hww i d hi⟩) (fun w0 => by simp [execOp, hop, resolve, hcal, hvv, Deferred.ofValue, invoke])
     ·cases ho
    ·rename_i f caps hu
     split at ho
     ·rename_i hsz
      have huN : u < N := hx (.tmp u) (by simp [Op.operands, Call.operands, hcal])
      have hW := h.rel.val u
      rw [hu] at hW
      have hev := eval_tmp (a := a) (gh := gh) h.small huN
      rw [← hev] at hW
      generalize hvv : a.eval (.tmp u) = vv at *
      cases hW with
      | ocl us hE hz hxx hww hself hval =>
       rename_i vs
       rcases hval with ⟨_, rfl⟩ | ⟨h1, _⟩
       ·exact hC.2 f caps vs us h ⟨hd, by rw [hop]; exact hx⟩ hop hsz ho hz hxx hww hself (fun w0 => by simp [execOp, hop, resolve, hcal, hvv, Deferred.ofValue, invoke])
       ·cases h1
     ·cases ho
    ·cases ho
   all_goals (cases ho)
  all_goals (cases ho)
 all_goals (cases ho)
end
end Dv
