/- Value semantics for Go code, part 3: regions, control, calls and whole functions. Conditions: none beyond those in each lemma. -/
import Derived.Test.YtaogbcdlpgfplaaDoorL2
import Derived.LoopN
import Derived.Orders
import Derived.Maps.RangeRun
set_option linter.unusedSimpArgs false
set_option linter.unusedVariables false
/- Value semantics for Go code: regions and control. Conditions: the types are what the table says; the code's slots lie in the frame. -/
namespace Dv
open Go

def opdOkB (N : Nat) : Operand → Bool
 | .tmp u => decide (u < N)
 | _ => true
def opOkB (N : Nat) (o : Oper) : Bool := (match o.dst with | some t => decide (t < N) | none => true) && o.op.operands.toList.all (opdOkB N)
def opsOkB (N : Nat) (ops : Array Oper) : Bool := ops.toList.all (opOkB N)

theorem opOk_of {N : Nat} {o : Oper} (h : opOkB N o = true) : opOk N o := by
 simp only [opOkB, Bool.and_eq_true, List.all_eq_true] at h
 refine ⟨fun t ht => ?_, fun x hx => ?_⟩
 ·rw [ht] at h; simpa using h.1
 ·have := h.2 x hx
  cases x <;> simp_all [opdOkB, opdOk]

def codeOkB (N : Nat) : Code → Bool
 | .region _ ops _ => opsOkB N ops
 | .seq a b => codeOkB N a && codeOkB N b
 | .cond c a b => opdOkB N c && codeOkB N a && codeOkB N b
 | .block _ c => codeOkB N c
 | .loop c => codeOkB N c
 | .scope c => codeOkB N c
 | _ => true

section
variable {P : Program} {E : Env} {s s' : St} {gh : Nat → Value} {a : Act} {w w' : World} {S : Nat → Prop} {Fs : Nat → Nat → Prop} {N : Nat}

theorem want_sound (h : Fr E.T N gh s a w S Fs) {ops : Array Oper} (hops : ∀ (j : Nat) (o : Oper), ops[j]? = some o → opOk N o) {o : Oper} {b : Bool} (hw : wantD ops s o = some b) : Region.wanted o (yielded ops a.tmps) = b := by
 unfold wantD at hw
 unfold Region.wanted
 split at hw
 ·rename_i hg; simp only [Option.some.injEq] at hw; subst hw; rw [hg]
 ·rename_i j b' hg
  rw [hg]
  simp only
  cases hj : (ops[j]?).bind (·.dst) with
  | none =>
   rw [hj] at hw
   simp only [Option.some.injEq] at hw; subst hw
   simp [yielded, hj]
  | some t =>
   rw [hj] at hw
   simp only at hw
   have htN : t < N := by
    simp only [Option.bind_eq_some_iff] at hj
    obtain ⟨oj, h1, h2⟩ := hj
    exact (hops j oj h1).1 t h2
   have hlt : t < a.tmps.size := by rw [h.size]; exact htN
   have hrv : rvOf a gh t = a.tmps[t] := by
    have : t < G := Nat.lt_of_lt_of_le htN h.small
    simp [rvOf, this, Array.getD, hlt]
   have hW := h.rel.val t
   rw [hrv] at hW
   have hy : yielded ops a.tmps j = match a.tmps[t] with | .bool b => some b | _ => none := by
    simp only [yielded, hj, Option.bind_some, Array.getElem?_eq_getElem hlt]
    cases a.tmps[t] <;> rfl
   rw [hy]
   generalize a.tmps[t] = v at *
   split at hw
   ·rename_i b1 hv
    rw [hv] at hW
    simp only [Option.some.injEq] at hw; subst hw
    cases hW with
    | bool => cases b1 <;> cases b' <;> rfl
   ·rename_i vs hv
    rw [hv] at hW
    simp only [Option.some.injEq] at hw; subst hw
    cases hW with
    | konst => rfl
   ·cases hw

/-- Post as a frame. -/
theorem Post.fr {s0 s' : St} {a0 a' : Act} (hF : Fr E.T N gh s0 a0 w S Fs) (h : Post E.T gh N s' w S Fs a' w') : ∃ S' Fs', Fr E.T N gh s' a' w' S' Fs' ∧ Step w S Fs w' S' Fs' := by
 obtain ⟨S', Fs', h1, h2, h3, h4⟩ := h
 exact ⟨S', Fs', ⟨h1, h3, h4, hF.small, hF.inv.step hF.rel h2⟩, h2⟩

theorem Post.back {s' : St} {a' : Act} {S' : Nat → Prop} {Fs' : Nat → Nat → Prop} {w'' : World} (hst : Step w S Fs w' S' Fs') (h : Post E.T gh N s' w' S' Fs' a' w'') : Post E.T gh N s' w S Fs a' w'' := by
 obtain ⟨S2, Fs2, h1, h2, h3, h4⟩ := h
 exact ⟨S2, Fs2, h1, hst.trans h2, h3, h4⟩

theorem stepD_sound {pm : Pm} {ops : Array Oper} {i : Nat} {o : Oper} {Q : Exit → Act → World → Prop} {K : Act → World → Prop} (hT : TyOk P E.T) (hC : CallsOk P E) (h : Fr E.T N gh s a w S Fs)
  (hops : ∀ (j : Nat) (o : Oper), ops[j]? = some o → opOk N o) (hi : ops[i]? = some o) (hs : stepD E ops pm s o = some s') (hK : ∀ a' w', Post E.T gh N s' w S Fs a' w' → K a' w') : wpOp P ops Q i K a w := by
 unfold stepD at hs
 unfold wpOp
 simp only [hi]
 cases hw : wantD ops s o with
 | none => simp [hw] at hs
 | some b =>
  have hwant := want_sound h hops hw
  cases b with
  | true =>
   simp only [hw] at hs
   simp only [hwant, if_true]
   exact .inl (Oper.wp_mono hK (opD_sound hT hC h (hops i o hi) hs))
  | false =>
   simp only [hw, Option.some.injEq] at hs
   subst hs
   simp only [hwant, Bool.false_eq_true, if_false]
   exact hK _ _ (post_val h (hops i o hi).1 (F := fun _ => False) (.konst (fun _ h => h)) (fun _ h => h))

theorem tagY_sound {pm : Pm} {ops : Array Oper} {i : Nat} {o : Oper} {ty : TypeId} {Q : Exit → Act → World → Prop} {K : Act → World → Prop} (hT : TyOk P E.T) (hC : CallsOk P E) (h : Fr E.T N gh s a w S Fs)
  (hops : ∀ (j : Nat) (o : Oper), ops[j]? = some o → opOk N o) (hi : ops[i]? = some o) (hs : stepD E ops pm s ({ o with type := ty } : Oper) = some s') (hty : ty = o.type ∨ (∃ t x lo hi mx, o.op = .slice t x lo hi mx) ∨ (∃ x, o.op = .assign x) ∨ (∃ t n p, o.op = .buildSlice t n p) ∨ (∃ t x, o.op = .box t x) ∨ (∃ p t x y z, o.op = .binOp p t x y z) ∨ (∃ t x y, o.op = .store t x y) ∨ (∃ g x y, o.op = .makeFunc g x y) ∨ (∃ t l c, o.op = .makeSlice t l c) ∨ (∃ f xs ts, o.op = .call ⟨.value (.func f), xs, ts⟩) ∨ ∃ t p, o.op = .build t p) (hK : ∀ a' w', Post E.T gh N s' w S Fs a' w' → K a' w') : wpOp P ops Q i K a w := by
 rcases hty with rfl | hop
 ·exact stepD_sound hT hC h hops hi hs hK
 unfold stepD at hs
 unfold wpOp
 simp only [hi]
 have hwd : wantD ops s ({ o with type := ty } : Oper) = wantD ops s o := rfl
 rw [hwd] at hs
 cases hw : wantD ops s o with
 | none => simp [hw] at hs
 | some b =>
  have hwant := want_sound h hops hw
  cases b with
  | true =>
   simp only [hw] at hs
   simp only [hwant, if_true]
   have hok := hops i o hi
   have hok' : opOk N ({ o with type := ty } : Oper) := hok
   have hp := fun (Q0 : Exit → Act → World → Prop) => Oper.wp_mono (Q := Q0) hK (opD_sound (P := P) (Q := Q0) hT hC h hok' hs)
   refine .inl ?_
   obtain ⟨dst, op, type, pos, after, guard⟩ := o
   simp only at hop
   rcases hop with ⟨t, x, lo, hi', mx, rfl⟩ | ⟨x, rfl⟩ | ⟨t, n, p, rfl⟩ | ⟨t, x, rfl⟩ | ⟨p, t, x, y, z, rfl⟩ | ⟨t, x, y, rfl⟩ | ⟨g, x, y, rfl⟩ | ⟨t, l, c, rfl⟩ | ⟨f, xs, ts, rfl⟩ | ⟨t, p, rfl⟩
   ·exact hp Q
   ·exact hp Q
   ·exact hp Q
   ·exact hp Q
   ·exact hp Q
   ·exact hp Q
   ·exact hp Q
   ·exact hp Q
   ·exact hp Q
   ·exact hp Q
  | false =>
   simp only [hw, Option.some.injEq] at hs
   subst hs
   simp only [hwant, Bool.false_eq_true, if_false]
   exact hK _ _ (post_val h (hops i o hi).1 (F := fun _ => False) (.konst (fun _ h => h)) (fun _ h => h))

theorem tagT_slice (lends : FuncId → Bool) (l : List Oper) (o : Oper) : tagT lends l o = o.type ∨ (∃ t x lo hi mx, o.op = .slice t x lo hi mx) ∨ (∃ x, o.op = .assign x) ∨ (∃ t n p, o.op = .buildSlice t n p) ∨ (∃ t x, o.op = .box t x) ∨ (∃ p t x y z, o.op = .binOp p t x y z) ∨ (∃ t x y, o.op = .store t x y) ∨ (∃ g x y, o.op = .makeFunc g x y) ∨ (∃ t l c, o.op = .makeSlice t l c) ∨ (∃ f xs ts, o.op = .call ⟨.value (.func f), xs, ts⟩) ∨ ∃ t p, o.op = .build t p := by
 obtain ⟨dst, op, type, pos, after, guard⟩ := o
 cases op with
 | slice t x lo hi mx => exact .inr (.inl ⟨_, _, _, _, _, rfl⟩)
 | assign x => exact .inr (.inr (.inl ⟨_, rfl⟩))
 | buildSlice t n p => exact .inr (.inr (.inr (.inl ⟨_, _, _, rfl⟩)))
 | box t x => exact .inr (.inr (.inr (.inr (.inl ⟨_, _, rfl⟩))))
 | binOp p t x y z => exact .inr (.inr (.inr (.inr (.inr (.inl ⟨_, _, _, _, _, rfl⟩)))))
 | store t x y => exact .inr (.inr (.inr (.inr (.inr (.inr (.inl ⟨_, _, _, rfl⟩))))))
 | makeFunc g x y => exact .inr (.inr (.inr (.inr (.inr (.inr (.inr (.inl ⟨_, _, _, rfl⟩)))))))
 | build t p => exact .inr (.inr (.inr (.inr (.inr (.inr (.inr (.inr (.inr (.inr ⟨_, _, rfl⟩)))))))))
 | makeSlice t l c => exact .inr (.inr (.inr (.inr (.inr (.inr (.inr (.inr (.inl ⟨_, _, _, rfl⟩))))))))
 | call c =>
  obtain ⟨g, xs, ts⟩ := c
  cases g with
  | value x =>
   cases x with
   | func f => exact .inr (.inr (.inr (.inr (.inr (.inr (.inr (.inr (.inr (.inl ⟨_, _, _, rfl⟩)))))))))
   | _ => left; unfold tagT; rfl
  | _ => left; unfold tagT; rfl
 | _ => exact .inl rfl
theorem tagD_sound {pm : Pm} {ops : Array Oper} {i : Nat} {o : Oper} {l : List Oper} {Q : Exit → Act → World → Prop} {K : Act → World → Prop} (hT : TyOk P E.T) (hC : CallsOk P E) (h : Fr E.T N gh s a w S Fs)
  (hops : ∀ (j : Nat) (o : Oper), ops[j]? = some o → opOk N o) (hi : ops[i]? = some o) (hs : stepD E ops pm s (tag E.lends l o) = some s') (hK : ∀ a' w', Post E.T gh N s' w S Fs a' w' → K a' w') : wpOp P ops Q i K a w :=
 tagY_sound hT hC h hops hi hs (tagT_slice _ _ _) hK
theorem tagC_sound {pm : Pm} {ops : Array Oper} {i : Nat} {o : Oper} {l : List Oper} {Q : Exit → Act → World → Prop} {K : Act → World → Prop} (hT : TyOk P E.T) (hC : CallsOk P E) (h : Fr E.T N gh s a w S Fs)
  (hops : ∀ (j : Nat) (o : Oper), ops[j]? = some o → opOk N o) (hi : ops[i]? = some o) (hs : stepD E ops pm s (tagC E.lends l o) = some s') (hK : ∀ a' w', Post E.T gh N s' w S Fs a' w' → K a' w') : wpOp P ops Q i K a w := by
 refine tagY_sound hT hC h hops hi hs ?_ hK
 rcases tagT_slice E.lends l o with h1 | h1
 ·left; split
  ·exact h1
  ·rfl
 ·exact .inr h1

theorem seqD_sound {ops : Array Oper} (hT : TyOk P E.T) (hC : CallsOk P E) (hops : ∀ (j : Nat) (o : Oper), ops[j]? = some o → opOk N o) : ∀ (l : List Oper) (k : Nat) {s s' : St} {a : Act} {w : World} {S : Nat → Prop} {Fs : Nat → Nat → Prop} {Q : Exit → Act → World → Prop},
  ops.toList.drop k = l → Fr E.T N gh s a w S Fs → seqD E ops s l = some s' → (∀ a' w', Post E.T gh N s' w S Fs a' w' → Q .normal a' w') → wpOps P ops Q (List.range' k l.length) a w := by
 intro l
 induction l with
 | nil =>
  intro k s s' a w S Fs Q _ h hs hQ
  simp only [seqD, Option.some.injEq] at hs
  subst hs
  simp only [List.length_nil, List.range'_zero, wpOps]
  exact hQ a w ⟨S, Fs, h.rel, Step.refl _ _ _, h.defs, h.size⟩
 | cons o l ih =>
  intro k s s' a w S Fs Q hl h hs hQ
  simp only [seqD, Option.bind_eq_some_iff] at hs
  obtain ⟨s1, h1, h2⟩ := hs
  have hk : ops[k]? = some o := by
   have : (ops.toList.drop k)[0]? = some o := by rw [hl]; rfl
   rw [List.getElem?_drop] at this
   simpa using this
  rw [List.length_cons, List.range'_succ, wpOps_cons]
  refine tagD_sound hT hC h hops hk h1 (fun a' w' hp => ?_)
  obtain ⟨S', Fs', hf, hst⟩ := hp.fr h
  refine ih (k + 1) ?_ hf h2 (fun a2 w2 hp2 => hQ a2 w2 (hp2.back hst))
  rw [← List.drop_drop, hl]; rfl

def toExit : Ex → Exit
 | .normal => .normal
 | .exit id => .exit id
 | .ret => .ret

/-- What is asked of regions that draw their order. -/
def DrawsOk (P : Program) (E : Env) : Prop :=
 ∀ {s s' : St} {gh : Nat → Value} {a : Act} {w : World} {S : Nat → Prop} {Fs : Nat → Nat → Prop} {N : Nat} {ops : Array Oper} {Q : Exit → Act → World → Prop},
  Fr E.T N gh s a w S Fs → opsOkB N ops = true → drawOk E.lends ops.toList = true → drawD E ops ops.toList s ops.toList = some s' → (∀ a' w', Post E.T gh N s' w S Fs a' w' → Q .normal a' w') → ∀ t, wpOps P ops Q (Region.schedule (P.follows .mixedOrders) ops t) a { w with drawn := w.drawn + 1 }

theorem iter_some {step : St → Option (Ex × St)} {s : St} {r : Ex × St} (h : iter step s = some r) : ∃ n, iterN step n s = some r := by
 unfold iter at h
 split at h
 ·rename_i hx
  simp only [Option.some.injEq] at h
  subst h
  exact hx.choose_spec
 ·cases h

/-! ### Loops through a map that look for a value -/

section
variable {T : Tys}
theorem undefs_rel {w : World} {S : Nat → Prop} : ∀ (ds : List Tmp) {s : St} {rv : Nat → Value} {Fs : Nat → Nat → Prop} (rv' : Nat → Value), Rel T s rv w S Fs → (∀ t, t ∉ ds → rv' t = rv t) →
  ∃ Fs', Rel T (undefs s ds) rv' w S Fs' ∧ ∀ t k, Fs' t k → Fs t k
 | [], s, rv, Fs, rv', h, hr => by
  have : rv' = rv := funext fun t => hr t (by simp)
  subst this
  exact ⟨Fs, h, fun _ _ h => h⟩
 | t :: ds, s, rv, Fs, rv', h, hr => by
  have h1 := h.put t (d := .undef) (v := rv' t) (F := fun _ => False) (.undef (fun _ h => h)) (fun u k _ hf => hf.elim)
  obtain ⟨Fs', q1, q2⟩ := undefs_rel ds rv' h1 (fun u hu => by
   by_cases e : u = t
   ·subst e; rw [upd_same]
   ·rw [upd_other _ _ e]; exact hr u (by simp [e, hu]))
  refine ⟨Fs', q1, fun u k hk => ?_⟩
  have := q2 u k hk
  by_cases e : u = t
  ·subst e; rw [upd_same] at this; exact this.elim
  ·rw [upd_other _ _ e] at this; exact this
/-- A frame that differs in some slots. -/
def AgA (gh : Nat → Value) (N : Nat) (ds : List Tmp) (a a' : Act) : Prop := a'.defers = [] ∧ a'.tmps.size = N ∧ ∀ u, u ∉ ds → rvOf a' gh u = rvOf a gh u
theorem AgA.put {gh : Nat → Value} {N : Nat} {ds : List Tmp} {a a' : Act} (h : AgA gh N ds a a') (hG : N ≤ G) {t : Tmp} (ht : t ∈ ds) (htN : t < N) (v : Value) : AgA gh N ds a (a'.put (some t) v) := by
 refine ⟨by simpa [Act.put] using h.1, by simpa [Act.put] using h.2.1, fun u hu => ?_⟩
 rw [rvOf_put h.2.1 htN hG, upd_other _ _ (fun e => hu (by rw [e]; exact ht))]
 exact h.2.2 u hu
/-- A world in which nothing of old has turned. -/
structure FarW (w w' : World) : Prop where
 os : w'.os = w.os
 tape : w'.tape = w.tape
 output : w'.output = w.output
 size : w.heap.size ≤ w'.heap.size
 heap : ∀ k, k < w.heap.size → w'.heap[k]? = w.heap[k]?
theorem FarW.setBlock {w w' : World} (h : FarW w w') {r : Nat} (hr : w.heap.size ≤ r) (o : Obj) : FarW w (ChangeMaps.setBlock w' r o) :=
 ⟨h.os, h.tape, h.output, by simpa [ChangeMaps.setBlock] using h.size, fun k hk => by rw [← h.heap k hk]; simp [ChangeMaps.setBlock, Array.getElem?_setIfInBounds, show r ≠ k by omega]⟩
theorem FarW.drew {w w' : World} (h : FarW w w') : FarW w w'.drew := ⟨h.os, h.tape, h.output, h.size, h.heap⟩
theorem any_post {N : Nat} {gh : Nat → Value} {s : St} {a a' : Act} {w w' : World} {S : Nat → Prop} {Fs : Nat → Nat → Prop} (h : Fr T N gh s a w S Fs) {ds : List Tmp} (ha : AgA gh N ds a a') (hw : FarW w w') : Post T gh N (undefs s ds) w S Fs a' w' := by
 have h1 := h.rel.grow hw.heap hw.size
 obtain ⟨Fs', q1, q2⟩ := undefs_rel ds (rvOf a' gh) h1 ha.2.2
 exact ⟨S, Fs', q1, ⟨hw.os, hw.tape, hw.output, hw.size, fun k hk _ => hw.heap k hk, fun _ h => h, fun _ h => .inl h, fun u k hk => .inl ⟨u, q2 u k hk⟩⟩, ha.1, ha.2.1⟩
end

theorem wp_one {ops : Array Oper} {i : Nat} {o : Oper} {Q : Exit → Act → World → Prop} {K : Act → World → Prop} {v : Value} (hi : ops[i]? = some o) (hg : o.guard = none) (hr : (execOp a.eval o).run P w = .ok (.value v) w') (h : K (a.put o.dst v) w') : wpOp P ops Q i K a w := by
 unfold wpOp
 simp only [hi]
 have hw : Region.wanted o (yielded ops a.tmps) = true := by simp [Region.wanted, hg]
 rw [if_pos hw]
 exact .inl (wp_value hr h)
/-- An operation of a region. -/
def IsO (o : Oper) (d : Tmp) (op : Op) : Prop := o.dst = some d ∧ o.op = op ∧ o.guard = none
theorem opsOf_inv {c : Code} {l : List (Option Tmp × Op × Bool)} (h : opsOf c = some l) : ∃ id ops, c = .region id ops false ∧ ops.toList.map (fun o => (o.dst, o.op, o.guard.isNone)) = l := by
 unfold opsOf at h
 split at h
 ·exact ⟨_, _, rfl, by simpa using h⟩
 ·cases h
theorem isO_of {o : Oper} {d : Tmp} {op : Op} (h : (o.dst, o.op, o.guard.isNone) = (some d, op, true)) : IsO o d op := by
 simp only [Prod.mk.injEq, Option.isNone_iff_eq_none] at h
 exact ⟨h.1, h.2.1, h.2.2⟩
theorem map1 {α β : Type} {f : α → β} {l : List α} {b : β} (h : l.map f = [b]) : ∃ x, l = [x] ∧ f x = b := by
 rcases l with _ | ⟨x, _ | ⟨_, _⟩⟩ <;> simp at h
 exact ⟨x, rfl, h⟩
theorem map2 {α β : Type} {f : α → β} {l : List α} {b c : β} (h : l.map f = [b, c]) : ∃ x y, l = [x, y] ∧ f x = b ∧ f y = c := by
 rcases l with _ | ⟨x, _ | ⟨y, _ | ⟨_, _⟩⟩⟩ <;> simp at h
 exact ⟨x, y, rfl, h.1, h.2⟩
theorem map3 {α β : Type} {f : α → β} {l : List α} {b c d : β} (h : l.map f = [b, c, d]) : ∃ x y z, l = [x, y, z] ∧ f x = b ∧ f y = c ∧ f z = d := by
 rcases l with _ | ⟨x, _ | ⟨y, _ | ⟨z, _ | ⟨_, _⟩⟩⟩⟩ <;> simp at h
 exact ⟨x, y, z, rfl, h.1, h.2.1, h.2.2⟩
theorem anyI_inv {x y : Code} {q : AnyI} (h : anyI x y = some q) : ∃ (i8 i9 ia ib ic bid bid2 : Nat) (A8 A9 Aa Ab Ac : Array Oper) (o1 o2 o3 o4 o5 o6 o7 o8 o9 o10 : Oper) (ty : TypeId),
  x = .region i8 A8 false ∧ y = .block bid (.loop (.seq (.region i9 A9 false) (.seq (.cond (.tmp q.n1) .skip (.exit bid)) (.block bid2 (.seq (.region ia Aa false) (.seq (.region ib Ab false) (.cond (.tmp q.c) (.seq (.region ic Ac false) .ret) .skip))))))) ∧
  A8.toList = [o1, o2] ∧ A9.toList = [o3, o4] ∧ Aa.toList = [o5, o6, o7] ∧ Ab.toList = [o8, o9] ∧ Ac.toList = [o10] ∧
  IsO o1 q.d0 (.move (.tmp q.m)) ∧ IsO o2 q.d1 (.range q.tm (.tmp q.d0)) ∧ IsO o3 q.n0 (.next (.tmp q.d1) false) ∧ IsO o4 q.n1 (.extract (.tmp q.n0) 0) ∧ IsO o5 q.e0 (.entry (.tmp q.d1)) ∧ IsO o6 q.e1 (.extract (.tmp q.e0) 1) ∧ IsO o7 q.v (.assign (.tmp q.e1)) ∧
  IsO o8 q.x (.move (.tmp q.v)) ∧ IsO o9 q.c (.binOp .eql q.t3 (.tmp q.x) (.const (.int .i64 q.cst)) ty) ∧ IsO o10 q.r (.assign (.const (.bool q.bb))) ∧ (q.m :: q.ds).Nodup := by
 unfold anyI at h
 split at h
 ·rename_i bid lp
  split at h
  ·rename_i r9 n1' b' r10 r11 c' r12 hb
   split at h
   ·rename_i h8 h9 ha hbb hc
    split at h
    ·rename_i hcond
     obtain ⟨rfl, rfl, rfl, rfl, rfl, rfl, rfl, rfl, rfl, rfl, rfl, hnd⟩ := hcond
     simp only [Option.some.injEq] at h
     subst h
     unfold anyBody at hb
     split at hb
     ·simp only [Option.some.injEq, Prod.mk.injEq] at hb
      obtain ⟨rfl, rfl, rfl, rfl, rfl, rfl, rfl⟩ := hb
      obtain ⟨i8, A8, rfl, e8⟩ := opsOf_inv h8
      obtain ⟨i9, A9, rfl, e9⟩ := opsOf_inv h9
      obtain ⟨ia, Aa, rfl, ea⟩ := opsOf_inv ha
      obtain ⟨ib, Ab, rfl, eb⟩ := opsOf_inv hbb
      obtain ⟨ic, Ac, rfl, ec⟩ := opsOf_inv hc
      obtain ⟨o1, o2, l8, f1, f2⟩ := map2 e8
      obtain ⟨o3, o4, l9, f3, f4⟩ := map2 e9
      obtain ⟨o5, o6, o7, la, f5, f6, f7⟩ := map3 ea
      obtain ⟨o8, o9, lb, f8, f9⟩ := map2 eb
      obtain ⟨o10, lc, f10⟩ := map1 ec
      exact ⟨i8, i9, ia, ib, ic, _, _, A8, A9, Aa, Ab, Ac, o1, o2, o3, o4, o5, o6, o7, o8, o9, o10, _, rfl, rfl, l8, l9, la, lb, lc, isO_of f1, isO_of f2, isO_of f3, isO_of f4, isO_of f5, isO_of f6, isO_of f7, isO_of f8, isO_of f9, isO_of f10, hnd⟩
     ·cases hb
    ·cases h
   ·cases h
  ·cases h
 ·cases h
theorem arrI_get {α : Type} {A : Array α} {l : List α} (h : A.toList = l) (i : Nat) : A[i]? = l[i]? := by rw [← h, Array.getElem?_toList]
theorem arrI_size {α : Type} {A : Array α} {l : List α} (h : A.toList = l) : A.size = l.length := by rw [← h, Array.length_toList]
theorem ev_put_same {a : Act} (hN : a.tmps.size = N) (hG : N ≤ G) {t : Tmp} (ht : t < N) (v : Value) : (a.put (some t) v).eval (.tmp t) = v := by
 rw [eval_tmp (gh := fun _ => undef) hG ht, rvOf_put hN ht hG, upd_same]
theorem rv_put_ne {a : Act} (hN : a.tmps.size = N) (hG : N ≤ G) {t u : Tmp} (ht : t < N) (h : u ≠ t) (v : Value) : rvOf (a.put (some t) v) gh u = rvOf a gh u := by
 rw [rvOf_put hN ht hG, upd_other _ _ h]
theorem left_mem {ents : Array MapEntry} {seen : Array Nat} {e : MapEntry} (h : e ∈ (leftOf ents seen).toList) : e ∈ ents.toList ∧ e.born ∉ seen := by
 unfold leftOf at h
 simpa using h
theorem left_lt {ents : Array MapEntry} {seen : Array Nat} {e : MapEntry} (h : e ∈ (leftOf ents seen).toList) : (leftOf ents (seen.push e.born)).size < (leftOf ents seen).size := by
 obtain ⟨h1, h2⟩ := left_mem h
 have hs : ∀ sn : Array Nat, (leftOf ents sn).size = ents.toList.countP (fun e => !sn.contains e.born) := fun sn => by
  unfold leftOf
  rw [List.countP_eq_length_filter, ← Array.toList_filter, Array.length_toList]
 rw [hs, hs]
 have key : ∀ l : List MapEntry, e ∈ l → l.countP (fun e_1 => !(seen.push e.born).contains e_1.born) < l.countP (fun e => !seen.contains e.born) := by
  intro l
  induction l with
  | nil => intro hm; cases hm
  | cons x l ih =>
   intro hm
   have hle : l.countP (fun e_1 => !(seen.push e.born).contains e_1.born) ≤ l.countP (fun e => !seen.contains e.born) := List.countP_mono_left fun x _ hx => by
    simp at hx ⊢
    exact hx.1
   rw [List.countP_cons, List.countP_cons]
   rcases List.mem_cons.1 hm with rfl | hm
   ·have e1 : (!(seen.push e.born).contains e.born) = false := by simp
    have e2 : (!seen.contains e.born) = true := by simpa using h2
    rw [e1, e2, if_neg (by decide), if_pos rfl]; omega
   ·have := ih hm
    have hx : ((!(seen.push e.born).contains x.born) = true → (!seen.contains x.born) = true) := fun hx => by
     simp at hx ⊢
     exact hx.1
    by_cases c1 : (!(seen.push e.born).contains x.born) = true
    ·rw [if_pos c1, if_pos (hx c1)]; omega
    ·rw [if_neg c1]; omega
 exact key _ h1
theorem any_sound {T : Tys} (hT : TyOk P T) {x y : Code} {q : AnyI} (hq : anyI x y = some q) (h : Fr T N gh s a w S Fs) (hk : (codeOkB N x && codeOkB N y) = true) {ex : Ex} (he : execAny T s q = some (ex, s')) :
  (Code.seq x y).wp P (fun e a' w' => e = toExit ex ∧ Post T gh N s' w S Fs a' w') a w := by
 obtain ⟨i8, i9, ia, ib, ic, bid, bid2, A8, A9, Aa, Ab, Ac, o1, o2, o3, o4, o5, o6, o7, o8, o9, o10, ty, rfl, rfl, l8, l9, la, lb, lc, f1, f2, f3, f4, f5, f6, f7, f8, f9, f10, hnd⟩ := anyI_inv hq
 have hG := h.small
 have hsz := h.size
 simp only [codeOkB, opsOkB, l8, l9, la, lb, lc, List.all_cons, List.all_nil, opOkB, f1.1, f2.1, f3.1, f4.1, f5.1, f6.1, f7.1, f8.1, f9.1, f10.1, f1.2.1, Op.operands, opdOkB, Bool.and_true, Bool.and_eq_true, decide_eq_true_eq] at hk
 obtain ⟨⟨⟨hd0, hm⟩, hd1, _⟩, ⟨⟨hn0, _⟩, hn1, _⟩, _, ⟨⟨he0, _⟩, ⟨he1, _⟩, hv, _⟩, ⟨⟨hx, _⟩, hc, _⟩, _, hr⟩ := hk
 simp only [AnyI.ds, List.nodup_cons, List.mem_cons, List.not_mem_nil, or_false, not_or] at hnd
 obtain ⟨_, _, ⟨g1, g2, g3, g4, g5, g6, g7⟩, _⟩ := hnd
 unfold execAny at he
 split at he
 rotate_left
 ·cases he
 rename_i k0 e0 k e es htm hsm ht3
 split at he
 rotate_left
 ·cases he
 rename_i hnum
 have hW := h.rel.val q.m
 rw [hsm] at hW
 generalize hvm : rvOf a gh q.m = vm at hW
 cases hW with
 | mp hka hea hb hes hl hB hF hSb =>
 rename_i b clock ents ka kn ea en
 rw [hnum] at hea
 injection hea with hea
 injection hea with hea1 hea2
 subst hea1 hea2
 have hbl := lt_of_heap hb
 have hvals : ∀ z ∈ ents.toList, ∃ n : Int, z.val = .int .i64 n ∧ ∃ p ∈ es, p.2 = [n] := by
  intro z hz
  have hm : (z.key, z.val) ∈ es.map (fun p => (numsV ka p.1, numsV false p.2)) := by rw [← hes]; exact List.mem_map.2 ⟨z, hz, rfl⟩
  obtain ⟨p, hp, he2⟩ := List.mem_map.1 hm
  have hlp := (hl p hp).2
  obtain ⟨n, hn⟩ : ∃ n, p.2 = [n] := by
   rcases hpp : p.2 with _ | ⟨n, _ | ⟨_, _⟩⟩ <;> rw [hpp] at hlp <;> simp at hlp
   exact ⟨n, rfl⟩
  refine ⟨n, ?_, p, hp, hn⟩
  have := congrArg Prod.snd he2
  simp only [hn] at this
  rw [← this]; rfl
 have hany : es.any (fun p => p.2 == [q.cst]) = true → ∃ z ∈ ents.toList, z.val = .int .i64 q.cst := by
  intro ha
  obtain ⟨p, hp, hpc⟩ := List.any_eq_true.1 ha
  have hpc : p.2 = [q.cst] := by simpa using hpc
  have hm : (numsV ka p.1, numsV false p.2) ∈ ents.toList.map (fun x => (x.key, x.val)) := by rw [hes]; exact List.mem_map.2 ⟨p, hp, rfl⟩
  obtain ⟨z, hz, he2⟩ := List.mem_map.1 hm
  refine ⟨z, hz, ?_⟩
  have := congrArg Prod.snd he2
  simp only [hpc] at this
  rw [this]; rfl
 have hevm : a.eval (.tmp q.m) = .map (some b) := by rw [eval_tmp (gh := gh) hG hm]; exact hvm
 refine wp_seq ?_
 refine wp_region ?_
 rw [arrI_size l8]
 show wpOps P A8 _ [0, 1] a w
 rw [wpOps_cons]
 refine wp_one (o := o1) (v := .map (some b)) (w' := w) (by rw [arrI_get l8]; rfl) f1.2.2 (by simp [execOp, f1.2.1, hevm]) ?_
 rw [f1.1, wpOps_cons]
 have hag0 : AgA gh N q.ds a a := ⟨h.defs, hsz, fun _ _ => rfl⟩
 have hag1 := hag0.put hG (t := q.d0) (by simp [AnyI.ds]) hd0 (.map (some b))
 have hev1 := ev_put_same (a := a) hsz hG hd0 (.map (some b))
 have hrng := run_range_map (P := P) w q.tm k0 e0 b ents clock (map_under hT htm) hb
 refine wp_one (o := o2) (v := .pointer (some ⟨w.heap.size, 0, none⟩)) (w' := w.alloc (.mapIter (some b) clock #[] clock)) (by rw [arrI_get l8]; rfl) f2.2.2 (by simp [execOp, f2.2.1, hev1, hrng]) ?_
 rw [f2.1]
 have hag2 := hag1.put hG (t := q.d1) (by simp [AnyI.ds]) hd1 (.pointer (some ⟨w.heap.size, 0, none⟩))
 have hfar : FarW w (w.alloc (.mapIter (some b) clock #[] clock)) := ⟨rfl, rfl, rfl, alloc_le w _, fun k hk => heap_alloc_old w _ hk⟩
 show (Code.block bid _).wp P _ _ _
 refine wp_block ?_
 refine wp_loop_rounds (ents.size + 1) ?_
 have key : ∀ (n : Nat) (a' : Act) (w' : World) (seen : Array Nat) (c0 : Nat), (leftOf ents seen).size ≤ n → AgA gh N q.ds a a' → FarW w w' → rvOf a' gh q.d1 = .pointer (some ⟨w.heap.size, 0, none⟩) → w'.heap[w.heap.size]? = some (.mapIter (some b) clock seen c0) → clock ≤ c0 →
   (∀ z ∈ ents.toList, z.born ∈ seen → z.val ≠ .int .i64 q.cst) →
   Code.rounds P (.seq (.region i9 A9 false) (.seq (.cond (.tmp q.n1) .skip (.exit bid)) (.block bid2 (.seq (.region ia Aa false) (.seq (.region ib Ab false) (.cond (.tmp q.c) (.seq (.region ic Ac false) .ret) .skip))))))
    (Exit.inBlock bid (fun e a' w' => e = toExit ex ∧ Post T gh N s' w S Fs a' w')) (n + 1) a' w' := by
  intro n
  induction n using Nat.strongRecOn with
  | _ n ih =>
  intro a' w' seen c0 hleft hag hfw hptr hit hc0 hseen
  have hbm : w'.heap[b]? = some (.map ents clock) := by rw [hfw.heap b hbl]; exact hb
  have hsz' := hag.2.1
  rw [rounds_succ]
  refine wp_seq ?_
  refine wp_region ?_
  rw [arrI_size l9]
  show wpOps P A9 _ [0, 1] a' w'
  rw [wpOps_cons]
  have hev : a'.eval (.tmp q.d1) = .pointer (some ⟨w.heap.size, 0, none⟩) := by rw [eval_tmp (gh := gh) hG hd1]; exact hptr
  rcases run_next_at (P := P) w' o3.type w.heap.size b clock c0 seen ents clock hit hbm hB.1 hc0 with ⟨hz, hrun⟩ | ⟨z, hzl, w1, hw1, hrun⟩
  ·refine wp_one (o := o3) (v := .tuple #[.bool false]) (w' := w') (by rw [arrI_get l9]; rfl) f3.2.2 (by simp [execOp, f3.2.1, hev, hrun]) ?_
   rw [f3.1, wpOps_cons]
   have hg3 := hag.put hG (t := q.n0) (by simp [AnyI.ds]) hn0 (.tuple #[.bool false])
   have hev3 := ev_put_same (a := a') hsz' hG hn0 (.tuple #[.bool false])
   refine wp_one (o := o4) (v := .bool false) (w' := w') (by rw [arrI_get l9]; rfl) f4.2.2 (by simp [execOp, f4.2.1, hev3, Instr.extract]) ?_
   rw [f4.1]
   have hg4 := hg3.put hG (t := q.n1) (by simp [AnyI.ds]) hn1 (.bool false)
   have hev4 := ev_put_same (a := a'.put (some q.n0) (.tuple #[.bool false])) hg3.2.1 hG hn1 (.bool false)
   refine wp_seq ?_
   refine wp_cond hev4 ?_
   refine wp_exit ?_
   show (if bid = bid then _ else _)
   rw [if_pos rfl]
   have hno : ¬ es.any (fun p => p.2 == [q.cst]) = true := by
    intro ha
    obtain ⟨z, hz1, hz2⟩ := hany ha
    refine hseen z hz1 ?_ hz2
    have hn : z ∉ (leftOf ents seen).toList := by
     have : (leftOf ents seen).toList = [] := by rw [← List.length_eq_zero_iff, Array.length_toList]; exact hz
     rw [this]; exact List.not_mem_nil
    unfold leftOf at hn
    simp at hn
    exact hn (by simpa using hz1)
   rw [if_neg hno] at he
   simp only [Option.some.injEq, Prod.mk.injEq] at he
   obtain ⟨rfl, rfl⟩ := he
   exact ⟨rfl, any_post h hg4 hfw⟩
  ·obtain ⟨hz1, hz2⟩ := left_mem hzl
   obtain ⟨y, hy, p, hp, hpy⟩ := hvals z hz1
   have hlt := left_lt hzl
   let w2 := ChangeMaps.setBlock w1 w.heap.size (.mapIter (some b) clock (seen.push z.born) clock)
   have hfw1 : FarW w w1 := by rcases hw1 with rfl | rfl; exact hfw; exact hfw.drew
   have hfw2 : FarW w w2 := hfw1.setBlock (Nat.le_refl _) _
   have hit2 : w2.heap[w.heap.size]? = some (.mapIter (some b) clock (seen.push z.born) clock) := by
    have hl1 : w.heap.size < w1.heap.size := by
     have : w.heap.size < w'.heap.size := lt_of_heap hit
     rcases hw1 with rfl | rfl <;> exact this
    simp [w2, ChangeMaps.setBlock, Array.getElem?_setIfInBounds, hl1]
   have hbm2 : w2.heap[b]? = some (.map ents clock) := by rw [hfw2.heap b hbl]; exact hb
   refine wp_one (o := o3) (v := .tuple #[.bool true, z.key, z.val]) (w' := w2) (by rw [arrI_get l9]; rfl) f3.2.2 (by simp [execOp, f3.2.1, hev, hrun, w2]) ?_
   rw [f3.1, wpOps_cons]
   have hg3 := hag.put hG (t := q.n0) (by simp [AnyI.ds]) hn0 (.tuple #[.bool true, z.key, z.val])
   have hev3 := ev_put_same (a := a') hsz' hG hn0 (.tuple #[.bool true, z.key, z.val])
   refine wp_one (o := o4) (v := .bool true) (w' := w2) (by rw [arrI_get l9]; rfl) f4.2.2 (by simp [execOp, f4.2.1, hev3, Instr.extract]) ?_
   rw [f4.1]
   have hg4 := hg3.put hG (t := q.n1) (by simp [AnyI.ds]) hn1 (.bool true)
   have hev4 := ev_put_same (a := a'.put (some q.n0) (.tuple #[.bool true, z.key, z.val])) hg3.2.1 hG hn1 (.bool true)
   refine wp_seq ?_
   refine wp_cond hev4 ?_
   refine wp_skip ?_
   show (Code.block bid2 _).wp P _ _ _
   refine wp_block ?_
   refine wp_seq ?_
   refine wp_region ?_
   rw [arrI_size la]
   show wpOps P Aa _ [0, 1, 2] _ w2
   rw [wpOps_cons]
   generalize ha4 : (a'.put (some q.n0) (.tuple #[.bool true, z.key, z.val])).put (some q.n1) (.bool true) = a4 at hg4 ⊢
   have hp4 : rvOf a4 gh q.d1 = .pointer (some ⟨w.heap.size, 0, none⟩) := by
    rw [← ha4, rv_put_ne hg3.2.1 hG hn1 g2, rv_put_ne hsz' hG hn0 g1]; exact hptr
   have hevd : a4.eval (.tmp q.d1) = .pointer (some ⟨w.heap.size, 0, none⟩) := by rw [eval_tmp (gh := gh) hG hd1]; exact hp4
   have hent := run_entry_at (P := P) w2 w.heap.size b clock seen ents clock z hit2 hbm2 hz1 hB.2
   refine wp_one (o := o5) (v := .tuple #[z.key, z.val]) (w' := w2) (by rw [arrI_get la]; rfl) f5.2.2 (by simp [execOp, f5.2.1, hevd, hent]) ?_
   rw [f5.1, wpOps_cons]
   have hg5 := hg4.put hG (t := q.e0) (by simp [AnyI.ds]) he0 (.tuple #[z.key, z.val])
   have hev5 := ev_put_same (a := a4) hg4.2.1 hG he0 (.tuple #[z.key, z.val])
   have hp5 := (rv_put_ne (gh := gh) hg4.2.1 hG he0 g3 (.tuple #[z.key, z.val])).trans hp4
   generalize a4.put (some q.e0) (.tuple #[z.key, z.val]) = a5 at hg5 hev5 hp5 ⊢
   refine wp_one (o := o6) (v := .int .i64 y) (w' := w2) (by rw [arrI_get la]; rfl) f6.2.2 (by simp [execOp, f6.2.1, hev5, Instr.extract, hy]) ?_
   rw [f6.1, wpOps_cons]
   have hg6 := hg5.put hG (t := q.e1) (by simp [AnyI.ds]) he1 (.int .i64 y)
   have hev6 := ev_put_same (a := a5) hg5.2.1 hG he1 (.int .i64 y)
   have hp6 := (rv_put_ne (gh := gh) hg5.2.1 hG he1 g4 (.int .i64 y)).trans hp5
   generalize a5.put (some q.e1) (.int .i64 y) = a6 at hg6 hev6 hp6 ⊢
   refine wp_one (o := o7) (v := .int .i64 y) (w' := w2) (by rw [arrI_get la]; rfl) f7.2.2 (by simp [execOp, f7.2.1, hev6]) ?_
   rw [f7.1]
   have hg7 := hg6.put hG (t := q.v) (by simp [AnyI.ds]) hv (.int .i64 y)
   have hev7 := ev_put_same (a := a6) hg6.2.1 hG hv (.int .i64 y)
   have hp7 := (rv_put_ne (gh := gh) hg6.2.1 hG hv g5 (.int .i64 y)).trans hp6
   generalize a6.put (some q.v) (.int .i64 y) = a7 at hg7 hev7 hp7 ⊢
   show (Code.seq _ _).wp P _ a7 w2
   refine wp_seq ?_
   refine wp_region ?_
   rw [arrI_size lb]
   show wpOps P Ab _ [0, 1] _ w2
   rw [wpOps_cons]
   refine wp_one (o := o8) (v := .int .i64 y) (w' := w2) (by rw [arrI_get lb]; rfl) f8.2.2 (by simp [execOp, f8.2.1, hev7]) ?_
   rw [f8.1, wpOps_cons]
   have hg8 := hg7.put hG (t := q.x) (by simp [AnyI.ds]) hx (.int .i64 y)
   have hev8 := ev_put_same (a := a7) hg7.2.1 hG hx (.int .i64 y)
   have hp8 := (rv_put_ne (gh := gh) hg7.2.1 hG hx g6 (.int .i64 y)).trans hp7
   generalize a7.put (some q.x) (.int .i64 y) = a8 at hg8 hev8 hp8 ⊢
   have hbin : (binOp .eql q.t3 (.int .i64 y) (.int .i64 q.cst)).run P w2 = .ok (.bool (y == q.cst)) w2 := by
    obtain ⟨v, hv1, hv2⟩ := run_binInt (P := P) (T := T) (t := q.t3) (op := .eql) (k := .i64) (k' := .i64) (x := y) (y := q.cst) (r := .bool (y == q.cst)) w2 rfl
    have hv3 := hv2 S V0 Vp0
    cases hv3
    exact hv1
   have hgd : (eqGuard .eql q.t3 (.tmp q.x) (.const (.int .i64 q.cst)) (.int .i64 y) (.int .i64 q.cst)).run P w2 = .ok () w2 := rfl
   have hec : a8.eval (.const (.int .i64 q.cst)) = .int .i64 q.cst := rfl
   refine wp_one (o := o9) (v := .bool (y == q.cst)) (w' := w2) (by rw [arrI_get lb]; rfl) f9.2.2 (by simp [execOp, f9.2.1, hev8, hec, hgd, hbin]) ?_
   rw [f9.1]
   have hg9 := hg8.put hG (t := q.c) (by simp [AnyI.ds]) hc (.bool (y == q.cst))
   have hev9 := ev_put_same (a := a8) hg8.2.1 hG hc (.bool (y == q.cst))
   have hp9 := (rv_put_ne (gh := gh) hg8.2.1 hG hc g7 (.bool (y == q.cst))).trans hp8
   generalize a8.put (some q.c) (.bool (y == q.cst)) = a9 at hg9 hev9 hp9 ⊢
   show (Code.cond _ _ _).wp P _ a9 w2
   refine wp_cond hev9 ?_
   by_cases hyc : y = q.cst
   ·subst hyc
    have hyes : es.any (fun p => p.2 == [q.cst]) = true := List.any_eq_true.2 ⟨p, hp, by rw [hpy]; simp⟩
    rw [if_pos hyes] at he
    simp only [Option.some.injEq, Prod.mk.injEq] at he
    obtain ⟨rfl, rfl⟩ := he
    rw [if_pos (by simp)]
    refine wp_seq ?_
    refine wp_region ?_
    rw [arrI_size lc]
    show wpOps P Ac _ [0] _ w2
    rw [wpOps_cons]
    have hec2 : a9.eval (.const (.bool q.bb)) = .bool q.bb := rfl
    refine wp_one (o := o10) (v := .bool q.bb) (w' := w2) (by rw [arrI_get lc]; rfl) f10.2.2 (by simp [execOp, f10.2.1, hec2]) ?_
    rw [f10.1]
    show Code.ret.wp P _ _ w2
    refine wp_ret ?_
    show _ ∧ _
    refine ⟨rfl, ?_⟩
    obtain ⟨S', Fs', q1, q2, q3, q4⟩ := any_post h hg9 hfw2
    have hf : Fr T N gh (undefs s q.ds) a9 w2 S' Fs' := ⟨q1, q3, q4, hG, h.inv.step h.rel q2⟩
    obtain ⟨S2, Fs2, r1, r2, r3, r4⟩ := post_val hf (dst := some q.r) (d := .bool q.bb) (v := .bool q.bb) (fun t ht => by injection ht with ht; subst ht; exact hr.1) (F := fun _ => False) (.bool (fun _ h => h)) (fun _ h => h)
    exact ⟨S2, Fs2, r1, q2.trans r2, r3, r4⟩
   ·rw [if_neg (by simpa using hyc)]
    refine wp_skip ?_
    have hn1' : n - 1 + 1 = n := by omega
    show Code.rounds P _ _ n a9 w2
    have := ih (n - 1) (by omega) a9 w2 (seen.push z.born) clock (by omega) hg9 hfw2 hp9 hit2 (Nat.le_refl _) (fun u hu hub => by
     rw [Array.mem_push] at hub
     rcases hub with hub | hub
     ·exact hseen u hu hub
     ·have : u = z := by
       have h1 := find_born u ents.toList hB.2 hu
       have h2 := find_born z ents.toList hB.2 hz1
       rw [hub, h2] at h1
       injection h1 with h1
       exact h1.symm
      subst this
      rw [hy]
      intro hc
      injection hc with _ hc
      exact hyc hc)
    rwa [hn1'] at this
 refine key ents.size _ _ #[] clock ?_ hag2 hfar ?_ (heap_alloc_new w _) (Nat.le_refl _) (fun z _ hz => by simp at hz)
 ·unfold leftOf; exact Array.size_filter_le
 ·rw [rvOf_put hag1.2.1 hd1 hG, upd_same]

/-! ### Regions that see all that is owned as frozen -/

theorem oper_turn {o : Oper} {a : Act} {w : World} {K K' : Act → World → Prop} {Q Q' : Exit → Act → World → Prop} (hQ : ∀ e a w, e ≠ .normal → Q e a w → Q' e a w)
  (hK : ∀ a' w', (∀ u, o.dst ≠ some u → a'.tmps[u]? = a.tmps[u]?) → K a' w' → K' a' w') (hh : o.wp P a w K Q) : o.wp P a w K' Q' := by
 have hp : ∀ (b : Act) (v : Value), b.tmps = a.tmps → ∀ u, o.dst ≠ some u → (b.put o.dst v).tmps[u]? = a.tmps[u]? := fun b v hb u hu => by
  cases hd : o.dst with
  | none => simp only [Act.put]; rw [hb]
  | some d =>
   have : d ≠ u := fun e => hu (by rw [hd, e])
   simp only [Act.put]
   rw [hb, Array.getElem?_setIfInBounds, if_neg this]
 unfold Oper.wp at *
 generalize (execOp a.eval o).run P w = r at *
 cases r with
 | ok n w' =>
  cases n <;> simp only [Oper.upon] at hh ⊢
  ·exact hK _ _ (hp _ _ rfl) hh
  all_goals first
   | exact hK _ _ (hp _ _ rfl) hh
   | exact Calls.mono hh (fun e w'' he => by
     cases e with
     | returned v => exact hK _ _ (hp _ _ rfl) he
     | panicked chain => exact hQ _ _ _ (by simp) he
     | outgrown => obtain ⟨a0, w0, hq⟩ := he; exact ⟨a0, w0, hQ _ _ _ (by simp) hq⟩)
   | exact Rows.mono hh (fun _ _ he => hK _ _ (hp _ _ rfl) he)
 | halt x w' => cases x <;> simp only [Oper.upon] at hh ⊢ <;> first | exact hh | exact hQ _ _ _ (by simp) hh
theorem wpOps_frame {ops : Array Oper} {Q : Exit → Act → World → Prop} {ds : List Tmp} (hds : ∀ (i : Nat) (o : Oper) (d : Tmp), ops[i]? = some o → o.dst = some d → d ∈ ds) {a0 : Act} : ∀ (l : List Nat) (a : Act) (w : World), (∀ u, u ∉ ds → a.tmps[u]? = a0.tmps[u]?) → wpOps P ops Q l a w →
  wpOps P ops (fun e a' w' => Q e a' w' ∧ (e = .normal → ∀ u, u ∉ ds → a'.tmps[u]? = a0.tmps[u]?)) l a w
 | [], a, w, ha, h => ⟨h, fun _ => ha⟩
 | i :: rest, a, w, ha, h => by
  rw [wpOps_cons] at h ⊢
  unfold wpOp at h ⊢
  cases ho : ops[i]? with
  | none => simp only [ho] at h ⊢; exact wpOps_frame hds rest a w ha h
  | some o =>
   simp only [ho] at h ⊢
   have hn : ∀ e a' w', e ≠ Exit.normal → Q e a' w' → Q e a' w' ∧ (e = .normal → ∀ u, u ∉ ds → a'.tmps[u]? = a0.tmps[u]?) := fun e a' w' he hq => ⟨hq, fun h => absurd h he⟩
   have hs : ∀ a' : Act, (∀ u, o.dst ≠ some u → a'.tmps[u]? = a.tmps[u]?) → ∀ u, u ∉ ds → a'.tmps[u]? = a0.tmps[u]? := fun a' hf u hu => by
    rw [hf u (fun e => hu (hds i o u ho e))]; exact ha u hu
   split
   ·rename_i hw
    rw [if_pos hw] at h
    rcases h with h | ⟨hk, a1, w1, hq⟩
    ·exact .inl (oper_turn hn (fun a' w' hf hk => wpOps_frame hds rest a' w' (hs a' hf) hk) h)
    ·exact .inr ⟨hk, a1, w1, hn _ _ _ (by simp) hq⟩
   ·rename_i hw
    rw [if_neg hw] at h
    refine wpOps_frame hds rest _ w (hs _ (fun u hu => ?_)) h
    cases hd : o.dst with
    | none => rfl
    | some d =>
     have : d ≠ u := fun e => hu (by rw [hd, e])
     simp only [Act.put]
     rw [Array.getElem?_setIfInBounds, if_neg this]
/-- What is owned is seen as frozen. -/
theorem loan_rel {T : Tys} {s : St} {rv : Nat → Value} {w : World} {S : Nat → Prop} {Fs : Nat → Nat → Prop} (h : Rel T s rv w S Fs) : Rel T (loanSt s) rv w (fun k => S k ∨ ∃ u, Fs u k) (fun _ _ => False) := by
 refine ⟨fun t => ?_, fun _ _ _ _ hf => hf.elim, fun k hk => ?_⟩
 ·show WR T (loanSt s) rv w _ (loanD (s.v t)) (rv t) (fun _ => False)
  unfold loanD
  cases hf : frz (s.v t) with
  | none => exact .undef (fun _ h => h)
  | some d' => exact ((h.val t).freeze d' hf (S' := fun k => S k ∨ ∃ u, Fs u k) (fun k hk => .inr ⟨t, hk⟩) (fun k hk => .inl hk)).up
 ·rcases hk with hk | ⟨u, hk⟩
  ·exact h.lt k hk
  ·exact (h.val u).lt k hk
theorem rvOf_get {gh : Nat → Value} {a a' : Act} {u : Nat} (h : a'.tmps[u]? = a.tmps[u]?) : rvOf a' gh u = rvOf a gh u := by
 unfold rvOf
 rw [Array.getD_eq_getD_getElem?, Array.getD_eq_getD_getElem?, h]
theorem loan_sound (hT : TyOk P E.T) (hC : CallsOk P E) (hD : DrawsOk P E) {x y : Code} {q : List Tmp × Tmp} (hq : loanI x y = some q) (h : Fr E.T N gh s a w S Fs) (hk : (codeOkB N x && codeOkB N y) = true) {ex : Ex}
  (he : loanR s q.1 q.2 (match exec E x (loanSt s) with | some (.normal, s1) => exec E y s1 | _ => none) = some (ex, s')) :
  (Code.seq x y).wp P (fun e a' w' => e = toExit ex ∧ Post E.T gh N s' w S Fs a' w') a w := by
 unfold loanI at hq
 split at hq
 ·rename_i i1 A i2 B
  split at hq
  ·rename_i o ho
   rw [Option.map_eq_some_iff] at hq
   obtain ⟨g, _, rfl⟩ := hq
   simp only at he
   rw [Bool.and_eq_true] at hk
   obtain ⟨hkx, hky⟩ := hk
   simp only [codeOkB] at hkx hky
   have hA : ∀ (i : Nat) (o : Oper) (d : Tmp), A[i]? = some o → o.dst = some d → d ∈ (A.toList ++ B.toList).filterMap (·.dst) := fun i o d ho hd =>
    List.mem_filterMap.2 ⟨o, List.mem_append_left _ (by simpa using Array.mem_of_getElem? ho), hd⟩
   have hB : ∀ (i : Nat) (o : Oper) (d : Tmp), B[i]? = some o → o.dst = some d → d ∈ (A.toList ++ B.toList).filterMap (·.dst) := fun i o d ho hd =>
    List.mem_filterMap.2 ⟨o, List.mem_append_right _ (by simpa using Array.mem_of_getElem? ho), hd⟩
   generalize (A.toList ++ B.toList).filterMap (·.dst) = ds at he hA hB
   simp only [exec, if_true, Bool.false_eq_true, if_false] at he
   by_cases hdr : drawOk E.lends A.toList = true
   case neg => simp [hdr, loanR] at he
   rw [if_pos hdr] at he
   cases h1 : drawD E A A.toList (loanSt s) A.toList with
   | none => simp [h1, loanR] at he
   | some s1 =>
    simp only [h1, Option.map_some] at he
    cases h2 : seqD E B s1 B.toList with
    | none => simp [h2, loanR] at he
    | some s2 =>
     simp only [h2, Option.map_some, loanR] at he
     have hf0 : Fr E.T N gh (loanSt s) a w (fun k => S k ∨ ∃ u, Fs u k) (fun _ _ => False) := ⟨loan_rel h.rel, h.defs, h.size, h.small, h.inv.more (fun k hk => .inl hk) (fun _ _ => rfl)⟩
     refine wp_seq ?_
     refine wp_mono (wp_region_draw fun t => wpOps_frame hA _ a _ (fun _ _ => rfl) (hD (Q := fun e a' w' => e = Exit.normal ∧ Post E.T gh N s1 w (fun k => S k ∨ ∃ u, Fs u k) (fun _ _ => False) a' w') hf0 hkx hdr h1 (fun a' w' hp => ⟨rfl, hp⟩) t)) ?_
     rintro e a1 w1 ⟨⟨rfl, hp1⟩, hfr1⟩
     obtain ⟨S', Fs', hf1, hst1⟩ := hp1.fr hf0
     have hopsB : ∀ (j : Nat) (o : Oper), B[j]? = some o → opOk N o := fun j o ho => opOk_of (List.all_eq_true.1 hky o (by simpa using Array.mem_of_getElem? ho))
     have hw2 := seqD_sound (P := P) (Q := fun e a' w' => e = Exit.normal ∧ Post E.T gh N s2 w1 S' Fs' a' w') hT hC hopsB B.toList 0 rfl hf1 h2 (fun a' w' hp => ⟨rfl, hp⟩)
     rw [Array.length_toList, ← List.range_eq_range'] at hw2
     refine wp_mono (wp_region (wpOps_frame hB _ a1 _ (hfr1 rfl) hw2)) ?_
     rintro e a2 w2 ⟨⟨rfl, hp2⟩, hfr2⟩
     obtain ⟨S2, F2, hr2, hst, hd2, hs2⟩ := hp2.back hst1
     have hfar : FarW w w2 := ⟨hst.os, hst.tape, hst.output, hst.size, fun k hk => hst.heap k hk (fun _ h => h)⟩
     have hag : AgA gh N ds a a2 := ⟨hd2, hs2, fun u hu => rvOf_get (hfr2 rfl u hu)⟩
     cases hv : s2.v g with
     | bool t =>
      simp only [hv] at he
      split at he
      ·simp only [Option.some.injEq, Prod.mk.injEq] at he
       obtain ⟨rfl, rfl⟩ := he
       have hg := hr2.val g
       rw [hv] at hg
       have hgv : rvOf a2 gh g = .bool t := by
        generalize rvOf a2 gh g = z at hg ⊢
        cases hg with
        | bool => rfl
       obtain ⟨S3, F3, hr3, hst3, hd3, hs3⟩ := any_post h hag hfar
       have hr4 := hr3.put g (d := .bool t) (v := rvOf a2 gh g) (F := fun _ => False) (by rw [hgv]; exact .bool (fun _ h => h)) (fun _ _ _ hf => hf.elim)
       have hup : upd (rvOf a2 gh) g (rvOf a2 gh g) = rvOf a2 gh := funext fun u => by unfold upd; split <;> simp_all
       rw [hup] at hr4
       refine ⟨rfl, S3, _, hr4, ⟨hst3.os, hst3.tape, hst3.output, hst3.size, hst3.heap, hst3.sS, hst3.sS', fun u k hu => ?_⟩, hd3, hs3⟩
       by_cases e : u = g
       ·subst e; rw [upd_same] at hu; exact hu.elim
       ·rw [upd_other _ _ e] at hu; exact hst3.sF u k hu
      ·cases he
     | _ => simp [hv] at he
  ·cases hq
 ·cases hq

theorem exec_sound (hT : TyOk P E.T) (hC : CallsOk P E) (hD : DrawsOk P E) : ∀ (c : Code) {s s' : St} {ex : Ex} {a : Act} {w : World} {S : Nat → Prop} {Fs : Nat → Nat → Prop}, codeOkB N c = true → Fr E.T N gh s a w S Fs → exec E c s = some (ex, s') →
  c.wp P (fun e a' w' => e = toExit ex ∧ Post E.T gh N s' w S Fs a' w') a w := by
 intro c
 induction c with
 | skip =>
  intro s s' ex a w S Fs _ h he
  simp only [exec, Option.some.injEq, Prod.mk.injEq] at he
  obtain ⟨rfl, rfl⟩ := he
  exact wp_skip ⟨rfl, S, Fs, h.rel, Step.refl _ _ _, h.defs, h.size⟩
 | region id ops draw =>
  intro s s' ex a w S Fs hk h he
  simp only [codeOkB] at hk
  have hops : ∀ (j : Nat) (o : Oper), ops[j]? = some o → opOk N o := fun j o ho => opOk_of (List.all_eq_true.1 hk o (by simpa using Array.mem_of_getElem? ho))
  simp only [exec] at he
  cases draw with
  | true =>
   simp only [if_true] at he
   split at he
   ·rename_i hdr
    simp only [Option.map_eq_some_iff, Prod.mk.injEq] at he
    obtain ⟨s1, h1, rfl, rfl⟩ := he
    exact wp_region_draw (hD h hk hdr h1 (fun a' w' hp => ⟨rfl, hp⟩))
   ·cases he
  | false =>
   simp only [Bool.false_eq_true, if_false, Option.map_eq_some_iff, Prod.mk.injEq] at he
   obtain ⟨s1, h1, rfl, rfl⟩ := he
   refine wp_region ?_
   have := seqD_sound (P := P) (Q := fun e a' w' => e = toExit Ex.normal ∧ Post E.T gh N s1 w S Fs a' w') hT hC hops ops.toList 0 rfl h h1 (fun a' w' hp => ⟨rfl, hp⟩)
   rwa [Array.length_toList, ← List.range_eq_range'] at this
 | seq x y ihx ihy =>
  intro s s' ex a w S Fs hk h he
  simp only [codeOkB, Bool.and_eq_true] at hk
  simp only [exec] at he
  cases hany : anyI x y with
  | some q =>
   rw [hany] at he
   exact any_sound hT hany h (by rw [Bool.and_eq_true]; exact hk) he
  | none =>
  rw [hany] at he
  simp only at he
  cases hloan : loanI x y with
  | some q =>
   rw [hloan] at he
   exact loan_sound hT hC hD hloan h (by rw [Bool.and_eq_true]; exact hk) he
  | none =>
  rw [hloan] at he
  simp only at he
  refine wp_seq ?_
  cases hx : exec E x s with
  | none => simp [hx] at he
  | some r =>
   obtain ⟨ex1, s1⟩ := r
   have h1 := ihx hk.1 h hx
   refine wp_mono h1 ?_
   rintro e a' w' ⟨rfl, hp⟩
   cases ex1 with
   | normal =>
    simp only [hx] at he
    obtain ⟨S', Fs', hf, hst⟩ := hp.fr h
    exact wp_mono (ihy hk.2 hf he) (fun e a2 w2 ⟨q1, q2⟩ => ⟨q1, q2.back hst⟩)
   | exit id =>
    simp only [hx, Option.some.injEq, Prod.mk.injEq] at he
    obtain ⟨rfl, rfl⟩ := he
    exact ⟨rfl, hp⟩
   | ret =>
    simp only [hx, Option.some.injEq, Prod.mk.injEq] at he
    obtain ⟨rfl, rfl⟩ := he
    exact ⟨rfl, hp⟩
 | cond c x y ihx ihy =>
  intro s s' ex a w S Fs hk h he
  simp only [codeOkB, Bool.and_eq_true] at hk
  simp only [exec] at he
  split at he
  ·rename_i t hc
   have hcd : opdOk N c := by have := hk.1.1; cases c <;> simp_all [opdOkB, opdOk]
   have hW := ev_W h.rel h.small hcd hc
   have hv : a.eval c = .bool t := by
    generalize a.eval c = v at *
    cases hW with
    | bool => rfl
   refine wp_cond hv ?_
   cases t with
   | true => simp only [if_true] at he ⊢; exact ihx hk.1.2 h he
   | false => simp only [Bool.false_eq_true, if_false] at he ⊢; exact ihy hk.2 h he
  ·cases he
 | block id c ih =>
  intro s s' ex a w S Fs hk h he
  simp only [codeOkB] at hk
  simp only [exec] at he
  refine wp_block ?_
  cases hx : exec E c s with
  | none => simp [hx] at he
  | some r =>
   obtain ⟨ex1, s1⟩ := r
   refine wp_mono (ih hk h hx) ?_
   rintro e a' w' ⟨rfl, hp⟩
   cases ex1 with
   | normal =>
    simp only [hx, Option.some.injEq, Prod.mk.injEq] at he
    obtain ⟨rfl, rfl⟩ := he
    exact ⟨rfl, hp⟩
   | exit j =>
    simp only [hx] at he
    simp only [toExit, Exit.inBlock]
    split at he
    ·rename_i hj
     simp only [Option.some.injEq, Prod.mk.injEq] at he
     obtain ⟨rfl, rfl⟩ := he
     rw [if_pos hj]; exact ⟨rfl, hp⟩
    ·rename_i hj
     simp only [Option.some.injEq, Prod.mk.injEq] at he
     obtain ⟨rfl, rfl⟩ := he
     rw [if_neg hj]; exact ⟨rfl, hp⟩
   | ret =>
    simp only [hx, Option.some.injEq, Prod.mk.injEq] at he
    obtain ⟨rfl, rfl⟩ := he
    exact ⟨rfl, hp⟩
 | loop c ih =>
  intro s s' ex a w S Fs hk h he
  simp only [codeOkB] at hk
  simp only [exec] at he
  obtain ⟨n, hn⟩ := iter_some he
  refine wp_loop_rounds n ?_
  have key : ∀ (n : Nat) {s : St} {a1 : Act} {w1 : World} {S1 : Nat → Prop} {Fs1 : Nat → Nat → Prop}, iterN (exec E c) n s = some (ex, s') → Fr E.T N gh s a1 w1 S1 Fs1 → Step w S Fs w1 S1 Fs1 →
    Code.rounds P c (fun e a' w' => e = toExit ex ∧ Post E.T gh N s' w S Fs a' w') n a1 w1 := by
   intro n
   induction n with
   | zero => intro s a1 w1 S1 Fs1 hn; simp [iterN] at hn
   | succ n ihn =>
    intro s a1 w1 S1 Fs1 hn hf hst
    simp only [iterN] at hn
    rw [rounds_succ]
    cases hx : exec E c s with
    | none => simp [hx] at hn
    | some r =>
     obtain ⟨ex1, s1⟩ := r
     refine wp_mono (ih hk hf hx) ?_
     rintro e a' w' ⟨rfl, hp⟩
     cases ex1 with
     | normal =>
      simp only [hx] at hn
      obtain ⟨S', Fs', hf', hst'⟩ := hp.fr hf
      exact ihn hn hf' (hst.trans hst')
     | exit id =>
      simp only [hx, Option.some.injEq, Prod.mk.injEq] at hn
      obtain ⟨rfl, rfl⟩ := hn
      exact ⟨rfl, hp.back hst⟩
     | ret =>
      simp only [hx, Option.some.injEq, Prod.mk.injEq] at hn
      obtain ⟨rfl, rfl⟩ := hn
      exact ⟨rfl, hp.back hst⟩
  exact key n hn h (Step.refl _ _ _)
 | exit id =>
  intro s s' ex a w S Fs _ h he
  simp only [exec, Option.some.injEq, Prod.mk.injEq] at he
  obtain ⟨rfl, rfl⟩ := he
  exact wp_exit ⟨rfl, S, Fs, h.rel, Step.refl _ _ _, h.defs, h.size⟩
 | ret =>
  intro s s' ex a w S Fs _ h he
  simp only [exec, Option.some.injEq, Prod.mk.injEq] at he
  obtain ⟨rfl, rfl⟩ := he
  exact wp_ret ⟨rfl, S, Fs, h.rel, Step.refl _ _ _, h.defs, h.size⟩
 | rangeFunc => intro s s' ex a w S Fs _ h he; simp [exec] at he
 | scope => intro s s' ex a w S Fs _ h he; simp [exec] at he
 | label => intro s s' ex a w S Fs _ h he; simp [exec] at he
 | goto => intro s s' ex a w S Fs _ h he; simp [exec] at he
 | refuse => intro s s' ex a w S Fs _ h he; simp [exec] at he
end
end Dv
/- Value semantics for Go code: what an operation looks at and what it turns (locality). Conditions: the operation's slots are among those that may be read. -/
namespace Dv
open Go

/-- Two states that agree on some slots. -/
def Agr (A : Nat → Bool) (s t : St) : Prop := ∀ r, A r = true → s.v r = t.v r ∧ s.k r = t.k r ∧ s.m r = t.m r
/-- Only some slots are turned. -/
def Same (B : Nat → Bool) (s s' : St) : Prop := ∀ r, B r = false → s'.v r = s.v r ∧ s'.k r = s.k r ∧ s'.m r = s.m r

theorem Same.refl (B : Nat → Bool) (s : St) : Same B s s := fun _ _ => ⟨rfl, rfl, rfl⟩
theorem Same.trans {B : Nat → Bool} {s s1 s2 : St} (h : Same B s s1) (h' : Same B s1 s2) : Same B s s2 := fun r hr =>
 ⟨(h' r hr).1.trans (h r hr).1, (h' r hr).2.1.trans (h r hr).2.1, (h' r hr).2.2.trans (h r hr).2.2⟩

section
variable {A B : Nat → Bool} {s t : St}

theorem upd_eq {α : Type} (f : Nat → α) (u : Nat) (d : α) (r : Nat) : upd f u d r = if r = u then d else f r := rfl

theorem Agr.put (h : Agr A s t) (u : Nat) (d : D) : Agr A (s.put u d) (t.put u d) := by
 intro r hr
 obtain ⟨h1, h2, h3⟩ := h r hr
 unfold St.put
 split
 ·by_cases e : r = u
  ·subst e; simp [upd_eq, h2, h3]
  ·simp [upd_eq, e, h1, h2, h3]
 ·by_cases e : r = u
  ·subst e; simp [upd_eq, h2, h3]
  ·simp [upd_eq, e, h1, h2, h3]
theorem Agr.putO (h : Agr A s t) (u : Option Tmp) (d : D) : Agr A (s.putO u d) (t.putO u d) := by
 cases u with
 | none => exact h
 | some u => exact h.put u d
theorem Agr.clr (h : Agr A s t) (u : Nat) : Agr A (s.clr u) (t.clr u) := by
 intro r hr
 obtain ⟨h1, h2, h3⟩ := h r hr
 by_cases e : r = u
 ·subst e; simp [St.clr, upd_eq, h2, h3]
 ·simp [St.clr, upd_eq, e, h1, h2, h3]
theorem Agr.bump (h : Agr A s t) (u : Nat) : Agr A (s.bump u) (t.bump u) := by
 intro r hr
 obtain ⟨h1, h2, h3⟩ := h r hr
 by_cases e : r = u
 ·subst e; simp [St.bump, upd_eq, h1, h2, h3]
 ·simp [St.bump, upd_eq, e, h1, h2, h3]
theorem Agr.set (h : Agr A s t) (L : Place) (d : D) : Agr A (s.set L d) (t.set L d) := by
 cases L with
 | nil => exact h
 | cons u p =>
  intro r hr
  obtain ⟨h1, h2, h3⟩ := h r hr
  by_cases e : r = u
  ·subst e; simp [St.set, upd_eq, h1, h2, h3]
  ·simp [St.set, upd_eq, e, h1, h2, h3]

theorem Same.put {u : Nat} (hu : B u = true) (d : D) : Same B s (s.put u d) := by
 intro r hr
 have e : r ≠ u := fun e => by subst e; simp [hu] at hr
 unfold St.put
 split <;> simp [upd_eq, e]
theorem Same.putO {u : Option Tmp} (hu : ∀ t, u = some t → B t = true) (d : D) : Same B s (s.putO u d) := by
 cases u with
 | none => exact Same.refl _ _
 | some u => exact Same.put (hu u rfl) d
theorem Same.clr {u : Nat} (hu : B u = true) : Same B s (s.clr u) := by
 intro r hr
 have e : r ≠ u := fun e => by subst e; simp [hu] at hr
 simp [St.clr, upd_eq, e]
theorem Same.bump {u : Nat} (hu : B u = true) : Same B s (s.bump u) := by
 intro r hr
 have e : r ≠ u := fun e => by subst e; simp [hu] at hr
 simp [St.bump, upd_eq, e]
theorem Same.set {L : Place} (hu : L ≠ [] → B (L.headD 0) = true) (d : D) : Same B s (s.set L d) := by
 cases L with
 | nil => exact Same.refl _ _
 | cons u p =>
  intro r hr
  have e : r ≠ u := fun e => by subst e; have := hu (by simp); simp at this; simp [this] at hr
  simp [St.set, upd_eq, e]

/-- The slots of an operand may be read. -/
def opdIn (A : Nat → Bool) (x : Operand) : Prop := ∀ u, x = .tmp u → A u = true

theorem ev_agr (T : Tys) (h : Agr A s t) (ty : TypeId) {x : Operand} (hx : opdIn A x) : ev T s ty x = ev T t ty x := by
 cases x with
 | tmp u => simp only [ev]; rw [(h u (hx u rfl)).1]
 | _ => rfl

theorem mkv_agr (h : Agr A s t) {L : Place} (hL : A (L.headD 0) = true) : mkv s L = mkv t L := by
 obtain ⟨_, h2, h3⟩ := h _ hL
 unfold mkv
 rw [h2, h3]
end

section
variable {pm : Pm} {s t : St}

theorem look_agr (h : Agr pm.rd s t) (L : Place) (n m : Nat) : s.look pm L n m = t.look pm L n m := by
 cases L with
 | nil => rfl
 | cons u p =>
  unfold St.look
  simp only
  by_cases hu : pm.rd u = true
  ·obtain ⟨h1, h2, h3⟩ := h u hu
   rw [h1, h2, h3]
  ·simp [hu]

theorem look_rd {L : Place} {n m : Nat} {d : D} (h : s.look pm L n m = some d) : L ≠ [] ∧ pm.rd (L.headD 0) = true := by
 cases L with
 | nil => simp [St.look] at h
 | cons u p =>
  refine ⟨by simp, ?_⟩
  unfold St.look at h
  simp only at h
  split at h
  ·rename_i hc; simp only [Bool.and_eq_true] at hc; simpa using hc.1.1
  ·cases h

theorem addrD_agr (h : Agr pm.rd s t) (x : Operand) (d : D) : addrD pm s x d = addrD pm t x d := by
 unfold addrD
 split <;> simp only [look_agr h]

theorem addrD_rd {x : Operand} {d : D} {L : Place} {c : Nat} {o : D} (hx : opdIn pm.rd x) (h : addrD pm s x d = some (L, c, o)) : pm.rd (L.headD 0) = true := by
 unfold addrD at h
 split at h
 ·split at h
  ·simp only [Option.some.injEq, Prod.mk.injEq] at h
   obtain ⟨rfl, _⟩ := h
   exact hx _ rfl
  ·cases h
 ·split at h
  ·rename_i hl
   simp only [Option.some.injEq, Prod.mk.injEq] at h
   obtain ⟨rfl, _⟩ := h
   exact (look_rd hl).2
  ·cases h
 ·split at h
  ·rename_i hl
   simp only [Option.some.injEq, Prod.mk.injEq] at h
   obtain ⟨rfl, _⟩ := h
   exact (look_rd hl).2
  ·cases h
 ·cases h

theorem sliceD_agr (h : Agr pm.rd s t) {x : Operand} (hx : opdIn pm.rd x) (d : D) : sliceD pm s x d = sliceD pm t x d := by
 unfold sliceD
 split
 ·rfl
 ·split
  ·rename_i u
   obtain ⟨_, h2, h3⟩ := h u (hx u rfl)
   rw [h2, h3]
  ·rfl
 ·simp only [look_agr h]
 ·rfl

theorem seen_agr (h : Agr pm.rd s t) {L : Place} (hne : L ≠ []) (hL : pm.rd (L.headD 0) = true) (c : Nat) (d : D) : seen s L c d = seen t L c d := by
 have : pm.rd ((L ++ [c]).headD 0) = true := by cases L with
  | nil => exact absurd rfl hne
  | cons u p => simpa using hL
 unfold seen
 split
 ·exact mkv_agr h this
 ·exact mkv_agr h this
 ·rfl

theorem addrD_ne {x : Operand} {d : D} {L : Place} {c : Nat} {o : D} (h : addrD pm s x d = some (L, c, o)) : L ≠ [] := by
 unfold addrD at h
 split at h
 ·split at h
  ·simp only [Option.some.injEq, Prod.mk.injEq] at h
   obtain ⟨rfl, _⟩ := h
   simp
  ·cases h
 ·split at h
  ·rename_i hl
   simp only [Option.some.injEq, Prod.mk.injEq] at h
   obtain ⟨rfl, _⟩ := h
   exact (look_rd hl).1
  ·cases h
 ·split at h
  ·rename_i hl
   simp only [Option.some.injEq, Prod.mk.injEq] at h
   obtain ⟨rfl, _⟩ := h
   exact (look_rd hl).1
  ·cases h
 ·cases h

theorem opLoad_agr (T : Tys) (h : Agr pm.rd s t) (ty : TypeId) {x : Operand} (hx : opdIn pm.rd x) (d : D) : opLoad T pm s ty x d = opLoad T pm t ty x d := by
 unfold opLoad
 split
 ·split
  ·rfl
  ·rfl
  ·rw [← addrD_agr h]
   cases ha : addrD pm s x d with
   | none => rfl
   | some r =>
    obtain ⟨L, c, o⟩ := r
    have h1 := addrD_ne ha
    have h2 := addrD_rd hx ha
    simp only [seen_agr h h1 h2]
 ·rfl

theorem opFieldAddr_agr (T : Tys) (h : Agr pm.rd s t) (ty : TypeId) {x : Operand} (hx : opdIn pm.rd x) (d : D) (i : Nat) : opFieldAddr T pm s ty x d i = opFieldAddr T pm t ty x d i := by
 unfold opFieldAddr
 cases T.foff ty i with
 | none => rfl
 | some j =>
 simp only
 split
 ·split
  ·split
   ·rename_i u
    obtain ⟨_, h2, h3⟩ := h u (hx u rfl)
    rw [h2, h3]
   ·rfl
  ·simp only [look_agr h]
  ·simp only [look_agr h]
  ·rfl
  ·rfl
 ·rfl

theorem opIndexAddr_agr (T : Tys) (h : Agr pm.rd s t) (ty : TypeId) {x : Operand} (hx : opdIn pm.rd x) (d i : D) : opIndexAddr T pm s ty x d i = opIndexAddr T pm t ty x d i := by
 unfold opIndexAddr
 split
 ·simp only [sliceD_agr h hx]
 ·split
  ·split
   ·split
    ·rename_i u
     obtain ⟨_, h2, h3⟩ := h u (hx u rfl)
     rw [h2, h3]
    ·rfl
   ·simp only [look_agr h]
   ·rfl
   ·rfl
  ·rfl
 ·rfl

theorem opLen_agr (T : Tys) (h : Agr pm.rd s t) (ty : TypeId) {x : Operand} (hx : opdIn pm.rd x) (d : D) : opLen T pm s ty x d = opLen T pm t ty x d := by
 unfold opLen
 simp only [sliceD_agr h hx]

theorem opIx_agr (T : Tys) (h : Agr pm.rd s t) (ty : TypeId) {x : Operand} (hx : opdIn pm.rd x) (d i : D) : opIx T pm s ty x d i = opIx T pm t ty x d i := by
 unfold opIx
 split
 ·unfold ixVs
  simp only [look_agr h]
 ·exact opIndexAddr_agr T h ty hx _ i
theorem opLn_agr (T : Tys) (h : Agr pm.rd s t) (ty : TypeId) {x : Operand} (hx : opdIn pm.rd x) (d : D) : opLn T pm s ty x d = opLn T pm t ty x d := by
 unfold opLn
 split
 ·rfl
 ·exact opLen_agr T h ty hx _

theorem lookM_agr (h : Agr pm.rd s t) (L : Place) (n : Nat) : s.lookM pm L n = t.lookM pm L n := by
 unfold St.lookM
 split
 ·rename_i u
  by_cases hu : pm.rd u = true
  ·obtain ⟨h1, h2, _⟩ := h u hu
   rw [h1, h2]
  ·simp [hu]
 ·rfl
theorem mapD_agr (h : Agr pm.rd s t) (x : Operand) (d : D) : mapD pm s x d = mapD pm t x d := by
 unfold mapD
 split
 ·rfl
 ·rw [lookM_agr h]
 ·rfl
theorem opLookup_agr (T : Tys) (h : Agr pm.rd s t) (ty : TypeId) (x : Operand) (d i : D) (ok : Bool) : opLookup T pm s ty x d i ok = opLookup T pm t ty x d i ok := by
 unfold opLookup
 rw [mapD_agr h]
theorem opLnM_agr (T : Tys) (h : Agr pm.rd s t) (ty : TypeId) {x : Operand} (hx : opdIn pm.rd x) (d : D) : opLnM T pm s ty x d = opLnM T pm t ty x d := by
 unfold opLnM
 split
 ·unfold lenM; rw [mapD_agr h]
 ·split
  ·unfold lenM; rw [mapD_agr h]
  ·exact opLn_agr T h ty hx _
 ·exact opLn_agr T h ty hx _

theorem bnd_agr (T : Tys) (h : Agr pm.rd s t) (n : Nat) {x : Option Operand} (hx : ∀ o, x = some o → opdIn pm.rd o) : bnd T s n x = bnd T t n x := by
 cases x with
 | none => rfl
 | some o => simp only [bnd, ev_agr T h 0 (hx o rfl)]

/-- What a step of one state says about the same step of the other. -/
def Loc {α : Type} (pm : Pm) (s t : St) (r r' : Option (α × St)) : Prop :=
 ∀ d s1, r = some (d, s1) → Same pm.wr s s1 ∧ ∃ t1, r' = some (d, t1) ∧ Agr pm.rd s1 t1

theorem pull_loc (h : Agr pm.rd s t) (L : Place) (n m : Nat) : Loc pm s t (pull pm s L n m) (pull pm t L n m) := by
 intro d s1 hp
 unfold pull at hp ⊢
 rw [← look_agr h]
 cases hl : s.look pm L n m with
 | none => simp [hl] at hp
 | some c =>
  simp only [hl] at hp ⊢
  obtain ⟨hne, hrd⟩ := look_rd hl
  have hget : s.get L.dropLast = t.get L.dropLast := by
   cases L with
   | nil => exact absurd rfl hne
   | cons u p =>
    cases p with
    | nil => rfl
    | cons q p => simp only [List.dropLast, St.get]; rw [(h u hrd).1]
  rw [← hget]
  split at hp
  ·rename_i hw
   simp only [hw, if_true]
   split at hp
   ·simp only [Option.map_eq_some_iff, Prod.mk.injEq] at hp
    obtain ⟨c', hc, rfl, rfl⟩ := hp
    exact ⟨Same.set (fun _ => hw) _, t.set L c', by simp [hc], h.set _ _⟩
   ·simp only [Option.some.injEq, Prod.mk.injEq] at hp
    obtain ⟨rfl, rfl⟩ := hp
    exact ⟨Same.set (fun _ => hw) _, t.set L .undef, rfl, h.set _ _⟩
  ·cases hp

mutual
theorem takeD_loc (d0 : D) : ∀ {s t : St}, Agr pm.rd s t → Loc pm s t (takeD pm s d0) (takeD pm t d0) := by
 intro s t h d s1 hd
 cases d0 <;> simp only [takeD] at hd ⊢
 case vw L n m => exact pull_loc h L n m d s1 hd
 case agg xs =>
  simp only [Option.map_eq_some_iff, Prod.mk.injEq] at hd
  obtain ⟨⟨ys, s2⟩, h1, rfl, rfl⟩ := hd
  obtain ⟨hs, t1, ht, ha⟩ := takeDs_loc xs h _ _ h1
  exact ⟨hs, t1, by simp [ht], ha⟩
 case konst v =>
  cases v <;> simp only at hd ⊢ <;> first
   | (cases hd; done)
   | (simp only [Option.some.injEq, Prod.mk.injEq] at hd; obtain ⟨rfl, rfl⟩ := hd; exact ⟨Same.refl _ _, t, rfl, h⟩)
 all_goals first
  | (cases hd; done)
  | (simp only [Option.some.injEq, Prod.mk.injEq] at hd; obtain ⟨rfl, rfl⟩ := hd; exact ⟨Same.refl _ _, t, rfl, h⟩)
theorem takeDs_loc (l : List D) : ∀ {s t : St}, Agr pm.rd s t → Loc pm s t (takeDs pm s l) (takeDs pm t l) := by
 intro s t h d s1 hd
 cases l with
 | nil =>
  simp only [takeDs, Option.some.injEq, Prod.mk.injEq] at hd ⊢
  obtain ⟨rfl, rfl⟩ := hd
  exact ⟨Same.refl _ _, t, ⟨rfl, rfl⟩, h⟩
 | cons x xs =>
  simp only [takeDs, Option.bind_eq_some_iff, Option.map_eq_some_iff, Prod.mk.injEq] at hd
  obtain ⟨⟨y, s2⟩, h1, ⟨ys, s3⟩, h2, rfl, rfl⟩ := hd
  obtain ⟨hs, t1, ht, ha⟩ := takeD_loc x h _ _ h1
  obtain ⟨hs', t2, ht', ha'⟩ := takeDs_loc xs ha _ _ h2
  exact ⟨hs.trans hs', t2, by simp [takeDs, ht, ht'], ha'⟩
end

theorem take_loc (T : Tys) (h : Agr pm.rd s t) (ty : TypeId) {x : Operand} (hx : opdIn pm.rd x) (hw : opdIn pm.wr x) : Loc pm s t (take T pm s ty x) (take T pm t ty x) := by
 intro d s1 hd
 unfold take at hd ⊢
 rw [← ev_agr T h ty hx]
 cases he : ev T s ty x with
 | none => simp [he] at hd
 | some d0 =>
  simp only [he] at hd ⊢
  cases x with
  | tmp u =>
   simp only at hd ⊢
   split at hd
   ·rename_i ho
    simp only [ho, if_true]
    obtain ⟨hs, r⟩ := takeD_loc d0 (h.clr u) _ _ hd
    exact ⟨(Same.clr (hw u rfl)).trans hs, r⟩
   ·rename_i ho
    simp only [ho]
    exact takeD_loc d0 h _ _ hd
  | _ => exact takeD_loc d0 h _ _ hd

theorem fillD_loc (T : Tys) (tf : Nat → TypeId) (sz : Nat) : ∀ (l : List (Nat × Operand)) {s t : St} (cs : List D), Agr pm.rd s t → (∀ q ∈ l, opdIn pm.rd q.2 ∧ opdIn pm.wr q.2) → Loc pm s t (fillD T pm tf sz s cs l) (fillD T pm tf sz t cs l) := by
 intro l
 induction l with
 | nil =>
  intro s t cs h _ d s1 hd
  simp only [fillD, Option.some.injEq, Prod.mk.injEq] at hd ⊢
  obtain ⟨rfl, rfl⟩ := hd
  exact ⟨Same.refl _ _, t, ⟨rfl, rfl⟩, h⟩
 | cons q l ih =>
  obtain ⟨i, x⟩ := q
  intro s t cs h hl d s1 hd
  simp only [fillD] at hd ⊢
  cases ht : take T pm s (tf i) x with
  | none => simp [ht] at hd
  | some r =>
   obtain ⟨d0, s2⟩ := r
   obtain ⟨hs, t1, ht1, ha⟩ := take_loc T h (tf i) (hl (i, x) (by simp)).1 (hl (i, x) (by simp)).2 _ _ ht
   simp only [ht] at hd
   simp only [ht1]
   split at hd
   ·rename_i hc
    simp only [hc, and_self, if_true]
    obtain ⟨hs', r'⟩ := ih _ ha (fun q hq => hl q (by simp [hq])) _ _ hd
    exact ⟨hs.trans hs', r'⟩
   ·cases hd

theorem fillN_loc (T : Tys) (fl : List (Nat × TypeId)) : ∀ (l : List (Nat × Operand)) {s t : St} (cs : List D), Agr pm.rd s t → (∀ q ∈ l, opdIn pm.rd q.2 ∧ opdIn pm.wr q.2) → Loc pm s t (fillN T pm fl s cs l) (fillN T pm fl t cs l) := by
 intro l
 induction l with
 | nil =>
  intro s t cs h _ d s1 hd
  simp only [fillN, Option.some.injEq, Prod.mk.injEq] at hd ⊢
  obtain ⟨rfl, rfl⟩ := hd
  exact ⟨Same.refl _ _, t, ⟨rfl, rfl⟩, h⟩
 | cons q l ih =>
  obtain ⟨i, x⟩ := q
  intro s t cs h hl d s1 hd
  simp only [fillN] at hd ⊢
  cases hfi : fl[i]? with
  | none => simp [hfi] at hd
  | some p =>
   obtain ⟨off, ty⟩ := p
   simp only [hfi] at hd ⊢
   cases ht : take T pm s ty x with
   | none => simp [ht] at hd
   | some r =>
    obtain ⟨d0, s2⟩ := r
    obtain ⟨hs, t1, ht1, ha⟩ := take_loc T h ty (hl (i, x) (by simp)).1 (hl (i, x) (by simp)).2 _ _ ht
    simp only [ht] at hd
    simp only [ht1]
    split at hd
    ·rename_i hc
     simp only [hc, and_self, if_true]
     obtain ⟨hs', r'⟩ := ih _ ha (fun q hq => hl q (by simp [hq])) _ _ hd
     exact ⟨hs.trans hs', r'⟩
    ·cases hd

theorem opSlice_loc (T : Tys) (h : Agr pm.rd s t) (ty : TypeId) {x : Operand} (hx : opdIn pm.rd x) (d0 : D) {lo hi mx : Option Operand} (h1 : ∀ o, lo = some o → opdIn pm.rd o) (h2 : ∀ o, hi = some o → opdIn pm.rd o) (h3 : ∀ o, mx = some o → opdIn pm.rd o) :
  Loc pm s t (opSlice T pm s ty x d0 lo hi mx) (opSlice T pm t ty x d0 lo hi mx) := by
 intro d s1 hd
 unfold opSlice at hd ⊢
 simp only [← sliceD_agr h hx, ← bnd_agr T h _ h1, ← bnd_agr T h _ h2, ← bnd_agr T h _ h3]
 split at hd
 ·split at hd
  ·rename_i l q hl hq
   split at hd
   ·rename_i hc
    simp only [Option.some.injEq, Prod.mk.injEq] at hd
    obtain ⟨rfl, rfl⟩ := hd
    exact ⟨Same.refl _ _, t, by simp only [hl, hq, hc, and_self, if_true], h⟩
   ·cases hd
  ·cases hd
 ·split at hd
  ·cases hd
  ·rename_i e xs o hsl
   try simp only [hsl]
   split at hd
   ·rename_i l q hl hq
    split at hd
    ·rename_i hc
     simp only [hl, hq, hc, and_self, if_true]
     split at hd
     ·rename_i hm
      simp only [hm, if_true]
      split at hd
      ·rename_i z hz
       split at hd
       ·rename_i hc2
        simp only [Option.some.injEq, Prod.mk.injEq] at hd
        obtain ⟨rfl, rfl⟩ := hd
        exact ⟨Same.refl _ _, t, by simp only [hz, hc2, and_self, if_true], h⟩
       ·cases hd
      ·cases hd
     ·rename_i hm
      simp only [hm]
      split at hd
      ·simp only [Option.some.injEq, Prod.mk.injEq] at hd
       obtain ⟨rfl, rfl⟩ := hd
       exact ⟨Same.refl _ _, t, by simp, h⟩
      ·split at hd
       ·rename_i hw
        split at hd
        ·rename_i ys hy
         simp only [Option.some.injEq, Prod.mk.injEq] at hd
         obtain ⟨rfl, rfl⟩ := hd
         exact ⟨Same.set (fun _ => hw) _, t.set _ _, by simp only [hw, Bool.false_eq_true, if_true, if_false], h.set _ _⟩
        ·cases hd
       ·rename_i hw
        simp only [viewS, Option.some.injEq, Prod.mk.injEq] at hd
        obtain ⟨rfl, rfl⟩ := hd
        exact ⟨Same.refl _ _, t, by simp only [hw, viewS, Bool.false_eq_true, if_false], h⟩
    ·cases hd
   ·cases hd
 ·cases hd

theorem dstV_agr (h : Agr pm.rd s t) {x : Operand} (hx : opdIn pm.rd x) (d : D) : dstV pm s x d = dstV pm t x d := by
 unfold dstV
 split
 ·simp only [look_agr h]
 ·simp only [sliceD_agr h hx]
theorem srcV_agr (h : Agr pm.rd s t) {x : Operand} (hx : opdIn pm.rd x) (d : D) : srcV pm s x d = srcV pm t x d := by
 unfold srcV
 split
 ·simp only [look_agr h]
 ·simp only [sliceD_agr h hx]
theorem opCopy_loc (T : Tys) (h : Agr pm.rd s t) (ty : TypeId) {x y : Operand} (hx : opdIn pm.rd x) (hy : opdIn pm.rd y) (da db : D) :
  Loc pm s t (opCopy T pm s ty x y da db) (opCopy T pm t ty x y da db) := by
 intro d s1 hd
 unfold opCopy at hd ⊢
 simp only [← dstV_agr h hx, ← srcV_agr h hy]
 split at hd
 ·rename_i e L xs lo len e' ys hds hsr
  try simp only [hds, hsr]
  split at hd
  ·rename_i hc
   rw [if_pos hc]
   simp only [Option.some.injEq, Prod.mk.injEq] at hd
   obtain ⟨rfl, rfl⟩ := hd
   simp only [Bool.and_eq_true] at hc
   exact ⟨Same.set (fun _ => hc.2) _, t.set _ _, rfl, h.set _ _⟩
  ·cases hd
 ·cases hd

theorem opClear_loc (T : Tys) (h : Agr pm.rd s t) (ty : TypeId) {x : Operand} (hx : opdIn pm.rd x) (da : D) :
  Loc pm s t (opClear T pm s ty x da) (opClear T pm t ty x da) := by
 intro d s1 hd
 unfold opClear at hd ⊢
 simp only [← dstV_agr h hx]
 split at hd
 ·rename_i e L xs lo len hds
  try simp only [hds]
  split at hd
  ·rename_i hc
   rw [if_pos hc]
   simp only [Option.some.injEq, Prod.mk.injEq] at hd
   obtain ⟨rfl, rfl⟩ := hd
   simp only [Bool.and_eq_true] at hc
   exact ⟨(Same.set (fun _ => hc.2) _).trans (Same.bump hc.2), (t.set _ _).bump _, rfl, (h.set _ _).bump _⟩
  ·cases hd
 ·cases hd

theorem opCut_loc (T : Tys) (h : Agr pm.rd s t) (ty : TypeId) {x : Operand} (hx : opdIn pm.rd x) {hi : Option Operand} (h2 : ∀ o, hi = some o → opdIn pm.rd o) :
  Loc pm s t (opCut T pm s ty x hi) (opCut T pm t ty x hi) := by
 intro d s1 hd
 unfold opCut at hd ⊢
 split at hd
 ·rename_i e' hty
  split at hd
  ·rename_i e xs s2 htk
   split at htk
   case isFalse => cases htk
   rename_i hwx
   have hw : opdIn pm.wr x := by
    intro u hu; subst hu; exact hwx
   obtain ⟨hs, t1, ht1, ha⟩ := take_loc T h ty hx hw _ _ htk
   simp only [if_pos hwx, ht1, ← bnd_agr T h _ h2]
   split at hd
   ·rename_i q hq
    split at hd
    ·rename_i hc
     simp only [Option.some.injEq, Prod.mk.injEq] at hd
     obtain ⟨rfl, rfl⟩ := hd
     exact ⟨hs, t1, by simp only [hq, hc, and_self, if_true], ha⟩
    ·cases hd
   ·cases hd
  ·cases hd
 ·cases hd

theorem opCutF_loc (T : Tys) (h : Agr pm.rd s t) (ty : TypeId) {x : Operand} (hx : opdIn pm.rd x) {hi : Option Operand} (h2 : ∀ o, hi = some o → opdIn pm.rd o) :
  Loc pm s t (opCutF T pm s ty x hi) (opCutF T pm t ty x hi) := by
 intro d s1 hd
 unfold opCutF at hd ⊢
 split at hd
 ·rename_i e' hty
  split at hd
  ·rename_i e xs s2 htk
   split at htk
   case isFalse => cases htk
   rename_i hwx
   have hw : opdIn pm.wr x := by
    intro u hu; subst hu; exact hwx
   obtain ⟨hs, t1, ht1, ha⟩ := take_loc T h ty hx hw _ _ htk
   simp only [if_pos hwx, ht1, ← bnd_agr T h _ h2]
   split at hd
   ·rename_i q hq
    split at hd
    ·rename_i hc
     simp only [Option.some.injEq, Prod.mk.injEq] at hd
     obtain ⟨rfl, rfl⟩ := hd
     exact ⟨hs, t1, by simp only [hq, hc, and_self, if_true], ha⟩
    ·cases hd
   ·cases hd
  ·cases hd
 ·cases hd
theorem untie_agr (h : Agr pm.rd s t) {t0 : Nat} (h0 : pm.rd t0 = true) (d : D) : untie s t0 d = untie t t0 d := by
 unfold untie
 rw [(h t0 h0).2.1]
theorem opTie_loc (T : Tys) (h : Agr pm.rd s t) (ty : TypeId) {ax x : Operand} (hx : opdIn pm.rd x) {s1 : St} (hd : opTie T pm s ty ax x = some s1) :
  Same pm.wr s s1 ∧ ∃ t1, opTie T pm t ty ax x = some t1 ∧ Agr pm.rd s1 t1 := by
 unfold opTie at hd ⊢
 split at hd
 ·rename_i t0 u
  split at hd
  ·rename_i x0 f xs hb hu
   split at hd
   ·rename_i hc
    have hc' := hc
    simp only [Bool.and_eq_true] at hc'
    simp only [Option.some.injEq] at hd
    subst hd
    have hr0 := hc'.1.2
    have hb' : t.v t0 = .box [x0] := by rw [← (h t0 hr0).1]; exact hb
    have hu' : t.v u = .ocl false f xs := by rw [← (h u (hx u rfl)).1]; exact hu
    have hm : xs.map (untie t t0) = xs.map (untie s t0) := List.map_congr_left fun d _ => (untie_agr h hr0 d).symm
    refine ⟨Same.set (fun _ => hc'.2) _, _, ?_, h.set [t0] (.ocl true f (xs.map (untie s t0)))⟩
    simp only [hb', hu']
    rw [if_pos hc, hm]
   ·cases hd
  ·cases hd
 ·cases hd

theorem opMapUp_loc (T : Tys) (h : Agr pm.rd s t) (ty : TypeId) (x : Operand) (d i v : D) {s1 : St} (hd : opMapUp T pm s ty x d i v = some s1) :
  Same pm.wr s s1 ∧ ∃ t1, opMapUp T pm t ty x d i v = some t1 ∧ Agr pm.rd s1 t1 := by
 unfold opMapUp at hd ⊢
 rw [← mapD_agr h]
 split at hd
 ·rename_i k e k' e' es L hty hm
  try simp only [hm]
  split at hd
  ·rename_i ka kn ea en hka hea
   try simp only [hka, hea]
   split at hd
   ·rename_i hc
    rw [if_pos hc]
    split at hd
    ·rename_i key val hk hv
     try simp only [hk, hv]
     simp only [Option.some.injEq] at hd
     subst hd
     exact ⟨Same.set (fun _ => hc.2.2) _, _, rfl, h.set _ _⟩
    ·cases hd
   ·cases hd
  ·cases hd
 ·cases hd
theorem takeM_loc (T : Tys) (h : Agr pm.rd s t) (ty : TypeId) {x : Operand} (hx : opdIn pm.rd x) (hxw : opdIn pm.wr x) : Loc pm s t (takeM T pm s ty x) (takeM T pm t ty x) := by
 intro d s1 hd
 unfold takeM at hd ⊢
 rw [← ev_agr T h ty hx]
 split at hd
 ·rename_i L n m he
  try simp only [he]
  unfold pullM at hd ⊢
  rw [← look_agr h]
  cases hl : s.look pm L n m with
  | none => simp [hl] at hd
  | some c =>
   simp only [hl] at hd ⊢
   split at hd
   ·rename_i hw
    simp only [hw, if_true]
    simp only [Option.some.injEq, Prod.mk.injEq] at hd
    obtain ⟨rfl, rfl⟩ := hd
    exact ⟨Same.set (fun _ => hw) _, t.set L .undef, rfl, h.set _ _⟩
   ·cases hd
 ·exact take_loc T h ty hx hxw _ _ hd
theorem opAppend_loc (T : Tys) (h : Agr pm.rd s t) (ty : TypeId) {x y : Operand} (hx : opdIn pm.rd x) (hxw : opdIn pm.wr x) (hy : opdIn pm.rd y) (hyw : opdIn pm.wr y) :
  Loc pm s t (opAppend T pm s ty x y) (opAppend T pm t ty x y) := by
 intro d s1 hd
 unfold opAppend at hd ⊢
 split at hd
 ·split at hd
  ·rename_i e hty e1 xs s2 htk
   obtain ⟨hs, t1, ht1, ha⟩ := takeM_loc T h ty hx hxw _ _ htk
   simp only [ht1, ← ev_agr T ha ty hy, ← sliceD_agr ha hy]
   split at hd
   ·rename_i d1 hev
    try simp only [hev]
    split at hd
    ·rename_i e2 ys o hsl
     try simp only [hsl]
     split at hd
     ·rename_i hc
      rw [if_pos hc]
      split at hd
      ·rename_i ho
       rw [if_pos ho]
       split at hd
       ·simp only [Option.some.injEq, Prod.mk.injEq] at hd
        obtain ⟨rfl, rfl⟩ := hd
        exact ⟨hs.trans (Same.clr (hyw _ rfl)), _, rfl, ha.clr _⟩
       ·cases hd
      ·rename_i ho
       rw [if_neg ho]
       simp only [Option.some.injEq, Prod.mk.injEq] at hd
       obtain ⟨rfl, rfl⟩ := hd
       exact ⟨hs, t1, rfl, ha⟩
     ·cases hd
    ·cases hd
   ·cases hd
  ·cases hd
 ·cases hd

theorem opAppZ_loc (T : Tys) (h : Agr pm.rd s t) (ty : TypeId) {x : Operand} (hx : opdIn pm.rd x) (hxw : opdIn pm.wr x) : Loc pm s t (opAppZ T pm s ty x) (opAppZ T pm t ty x) := by
 intro d s1 hd
 unfold opAppZ at hd ⊢
 split at hd
 ·split at hd
  ·rename_i e hty e1 xs s2 htk
   obtain ⟨hs, t1, ht1, ha⟩ := take_loc T h ty hx hxw _ _ htk
   simp only [ht1]
   split at hd
   ·rename_i hc
    rw [if_pos hc]
    simp only [Option.some.injEq, Prod.mk.injEq] at hd
    obtain ⟨rfl, rfl⟩ := hd
    exact ⟨hs, t1, rfl, ha⟩
   ·cases hd
  ·cases hd
 ·cases hd
theorem nilD_agr (h : Agr pm.rd s t) (d : D) : nilD pm s d = nilD pm t d := by
 unfold nilD
 simp only [look_agr h]

theorem isT_agr (h : Agr pm.rd s t) (r : Nat) : isT pm s r = isT pm t r := by
 unfold isT
 cases hr : pm.rd r with
 | false => rfl
 | true => rw [(h r hr).1]
theorem vwT_agr (h : Agr pm.rd s t) (d : D) : vwT pm s d = vwT pm t d := by
 unfold vwT
 split
 ·exact isT_agr h _
 ·rfl
theorem tupD_agr (h : Agr pm.rd s t) (d : D) : tupD pm s d = tupD pm t d := by
 have hf : vwT pm s = vwT pm t := funext (vwT_agr h)
 unfold tupD
 rw [hf]

theorem opStoreG_loc (T : Tys) (ty : TypeId) {ax : Operand} (ha : opdIn pm.rd ax) {q q' : Option (D × St)} (hq : Loc pm s t q q') {s1 : St} (hd : opStoreG T pm ty ax q = some s1) :
  Same pm.wr s s1 ∧ ∃ t1, opStoreG T pm ty ax q' = some t1 ∧ Agr pm.rd s1 t1 := by
 unfold opStoreG at hd ⊢
 split at hd
 ·cases hd
 ·rename_i d s2 htk
  obtain ⟨hs, t1, ht1, hag⟩ := hq _ _ rfl
  simp only [ht1, ← ev_agr T hag ty ha]
  split at hd
  ·cases hd
  ·rename_i ad hev
   simp only [hev, ← addrD_agr hag]
   split at hd
   ·cases hd
   ·rename_i L c o had
    try simp only [had]
    split at hd
    ·rename_i hc
     rw [if_pos hc]
     simp only [Bool.and_eq_true] at hc
     have hw : pm.wr (L.headD 0) = true := hc.1.1.1.1.2
     simp only [Option.some.injEq] at hd
     subst hd
     split
     ·exact ⟨hs.trans ((Same.set (fun _ => hw) _).trans (Same.bump hw)), _, rfl, (hag.set _ _).bump _⟩
     ·exact ⟨hs.trans (Same.set (fun _ => hw) _), _, rfl, hag.set _ _⟩
    ·cases hd
theorem opStoreH_loc (ok : D → Bool) (T : Tys) (ty : TypeId) {ax : Operand} (ha : opdIn pm.rd ax) {q q' : Option (D × St)} (hq : Loc pm s t q q') {s1 : St} (hd : opStoreH ok T pm ty ax q = some s1) :
  Same pm.wr s s1 ∧ ∃ t1, opStoreH ok T pm ty ax q' = some t1 ∧ Agr pm.rd s1 t1 := by
 unfold opStoreH at hd ⊢
 split at hd
 ·cases hd
 ·rename_i d s2 htk
  obtain ⟨hs, t1, ht1, hag⟩ := hq _ _ rfl
  simp only [ht1, ← ev_agr T hag ty ha]
  split at hd
  ·cases hd
  ·rename_i ad hev
   simp only [hev, ← addrD_agr hag]
   split at hd
   ·cases hd
   ·rename_i L c o had
    try simp only [had]
    split at hd
    ·rename_i hc
     rw [if_pos hc]
     simp only [Bool.and_eq_true] at hc
     have hw : pm.wr (L.headD 0) = true := hc.1.1.1.1.2
     simp only [Option.some.injEq] at hd
     subst hd
     split
     ·exact ⟨hs.trans ((Same.set (fun _ => hw) _).trans (Same.bump hw)), _, rfl, (hag.set _ _).bump _⟩
     ·exact ⟨hs.trans (Same.set (fun _ => hw) _), _, rfl, hag.set _ _⟩
    ·cases hd
theorem cellV_agr (h : Agr pm.rd s t) : cellV pm s = cellV pm t := by
 funext d
 cases d <;> first | rfl | (simp only [cellV, look_agr h])
theorem opStoreK_loc (T : Tys) (h : Agr pm.rd s t) (ty : TypeId) {ax x : Operand} (hx : opdIn pm.rd x) (ha : opdIn pm.rd ax) {s1 : St} (hd : opStoreK T pm s ty ax x = some s1) :
  Same pm.wr s s1 ∧ ∃ t1, opStoreK T pm t ty ax x = some t1 ∧ Agr pm.rd s1 t1 := by
 unfold opStoreK at hd ⊢
 rw [← ev_agr T h ty hx, ← cellV_agr h]
 split at hd
 ·rename_i ds hk
  refine opStoreH_loc (t := t) _ T ty ha (q := some (.agg ds, s)) (q' := some (.agg ds, t)) ?_ hd
  intro d s2 he
  simp only [Option.some.injEq, Prod.mk.injEq] at he
  obtain ⟨rfl, rfl⟩ := he
  exact ⟨Same.refl _ _, t, rfl, h⟩
 ·cases hd
theorem fillV_agr (T : Tys) (h : Agr pm.rd s t) (tf : Nat → TypeId) : ∀ (parts : List (Nat × Operand)) (cs : List D), (∀ q ∈ parts, opdIn pm.rd q.2) → fillV T pm s tf cs parts = fillV T pm t tf cs parts := by
 intro parts
 induction parts with
 | nil => intro cs _; rfl
 | cons q parts ih =>
  obtain ⟨i, x⟩ := q
  intro cs hx
  simp only [fillV, ev_agr T h (tf i) (hx (i, x) (by simp)), cellV_agr h]
  split
  ·rfl
  ·split
   ·exact ih _ (fun q hq => hx q (by simp [hq]))
   ·rfl
theorem opBuildV_agr (T : Tys) (h : Agr pm.rd s t) (ty : TypeId) (parts : List (Nat × Operand)) (hx : ∀ q ∈ parts, opdIn pm.rd q.2) : opBuildV T pm s ty parts = opBuildV T pm t ty parts := by
 unfold opBuildV
 simp only [fillV_agr T h _ parts _ hx]
theorem opStore_loc (T : Tys) (h : Agr pm.rd s t) (ty : TypeId) {ax x : Operand} (hx : opdIn pm.rd x) (hxw : opdIn pm.wr x) (ha : opdIn pm.rd ax) {s1 : St} (hd : opStore T pm s ty ax x = some s1) :
  Same pm.wr s s1 ∧ ∃ t1, opStore T pm t ty ax x = some t1 ∧ Agr pm.rd s1 t1 := by
 unfold opStore at hd ⊢
 exact opStoreG_loc T ty ha (take_loc T h ty hx hxw) hd

theorem capD_loc : ∀ (l : List Operand) {s t : St}, Agr pm.rd s t → (∀ x ∈ l, opdIn pm.rd x) → Loc pm s t (capD pm s l) (capD pm t l) := by
 intro l
 induction l with
 | nil =>
  intro s t h _ d s1 hd
  simp only [capD, Option.some.injEq, Prod.mk.injEq] at hd ⊢
  obtain ⟨rfl, rfl⟩ := hd
  exact ⟨Same.refl _ _, t, ⟨rfl, rfl⟩, h⟩
 | cons x l ih =>
  intro s t h hl d s1 hd
  unfold capD at hd ⊢
  cases x with
  | tmp u =>
   simp only at hd ⊢
   rw [← (h u (hl (.tmp u) (by simp) u rfl)).1]
   split at hd
   ·rename_i xs hu
    split at hd
    ·rename_i ys hy
     split at hd
     ·rename_i hw
      simp only [Option.map_eq_some_iff, Prod.mk.injEq] at hd
      obtain ⟨⟨zs, s2⟩, h1, rfl, rfl⟩ := hd
      obtain ⟨hs, t1, ht1, ha⟩ := ih (h.set [u] (.cptr ys)) (fun x hx => hl x (by simp [hx])) _ _ h1
      exact ⟨(Same.set (fun _ => hw) _).trans hs, t1, by simp [hy, hw, ht1], ha⟩
     ·cases hd
    ·cases hd
   ·rename_i ys hu
    simp only [Option.map_eq_some_iff, Prod.mk.injEq] at hd
    obtain ⟨⟨zs, s2⟩, h1, rfl, rfl⟩ := hd
    obtain ⟨hs, t1, ht1, ha⟩ := ih h (fun x hx => hl x (by simp [hx])) _ _ h1
    exact ⟨hs, t1, by simp [ht1], ha⟩
   ·cases hd
  | _ => simp at hd

theorem capE_agr (h : Agr pm.rd s t) : ∀ (l : List Operand), (∀ x ∈ l, opdIn pm.rd x) → capE s l = capE t l
 | [], _ => rfl
 | x :: l, hl => by
  unfold capE
  cases x with
  | tmp u =>
   have hu := hl (.tmp u) (by simp) u rfl
   simp only
   rw [← (h u hu).1, capE_agr h l (fun x hx => hl x (List.mem_cons_of_mem _ hx)), mkv_agr (L := [u]) h hu]
  | _ => rfl
theorem unmask_in (m : Nat) {A : Nat → Bool} : ∀ (l : List Operand) (i : Nat), (∀ x ∈ l, opdIn A x) → ∀ x ∈ unmask m i l, opdIn A x
 | [], _, _, x, h => by simp [unmask] at h
 | y :: l, i, hl, x, h => by
  unfold unmask at h
  split at h
  ·exact unmask_in m l _ (fun x hx => hl x (List.mem_cons_of_mem _ hx)) x h
  ·rcases List.mem_cons.1 h with rfl | h
   ·exact hl _ List.mem_cons_self
   ·exact unmask_in m l _ (fun x hx => hl x (List.mem_cons_of_mem _ hx)) x h
theorem capV_loc (m : Nat) (l : List Operand) (h : Agr pm.rd s t) (hl : ∀ x ∈ l, opdIn pm.rd x) : Loc pm s t (capV pm s m l) (capV pm t m l) := by
 intro d s1 hd
 unfold capV at hd ⊢
 split at hd
 ·cases hd
 ·rename_i ys s2 hc
  obtain ⟨es, he, hd⟩ := Option.map_eq_some_iff.1 hd
  simp only [Prod.mk.injEq] at hd
  obtain ⟨rfl, rfl⟩ := hd
  obtain ⟨hs, t1, ht1, ha⟩ := capD_loc _ h (unmask_in m l 0 hl) _ _ hc
  exact ⟨hs, t1, by simp only [ht1]; rw [← capE_agr ha l hl, he]; rfl, ha⟩

/-! ### Calls -/

theorem argCell_agr (lend : Bool) (h : Agr pm.rd s t) (j : Nat) (L0 : Place) (d : D) : argCell lend pm s j L0 d = argCell lend pm t j L0 d := by
 unfold argCell
 split <;> simp only [look_agr h]
theorem argCells_agr (lend : Bool) (h : Agr pm.rd s t) (L0 : Place) : ∀ (l : List D) (j i : Nat), argCells lend pm s L0 j i l = argCells lend pm t L0 j i l := by
 intro l
 induction l with
 | nil => intro j i; rfl
 | cons d l ih => intro j i; simp only [argCells, argCell_agr lend h, ih]
theorem argTop_agr (lend : Bool) (h : Agr pm.rd s t) (j : Nat) (L0 : Place) (d : D) : argTop lend pm s j L0 d = argTop lend pm t j L0 d := by
 unfold argTop
 split
 ·rw [argCells_agr lend h]
 ·rw [argCell_agr lend h]
theorem cloA_agr (h : Agr pm.rd s t) : ∀ (l : List D), cloA pm s l = cloA pm t l
 | [] => rfl
 | d :: l => by
  unfold cloA
  cases d with
  | vw L n m => simp only [look_agr h, cloA_agr h l]
  | cptr ys => simp only [cloA_agr h l]
  | _ => rfl
theorem argX_agr (T : Tys) (lend : Bool) (h : Agr pm.rd s t) (j : Nat) (L0 : Place) (d : D) : argX T lend pm s j L0 d = argX T lend pm t j L0 d := by
 unfold argX
 split
 ·simp only [cloA_agr h]
 ·unfold vsArg; simp only [look_agr h]
 ·rw [argTop_agr lend h]
theorem argsD_agr (E : Env) (lend : Bool) (h : Agr pm.rd s t) : ∀ (l : List (Operand × TypeId)) (j : Nat), (∀ x ∈ l, opdIn pm.rd x.1) → argsD E lend pm s j l = argsD E lend pm t j l := by
 intro l
 induction l with
 | nil => intro j _; rfl
 | cons q l ih =>
  obtain ⟨x, ty⟩ := q
  intro j hl
  simp only [argsD, ev_agr E.T h ty (hl (x, ty) (by simp)), argX_agr E.T lend h, ih _ (fun x hx => hl x (by simp [hx]))]

theorem back_agr (deep : Bool) : ∀ (l : List (Place × D)) {s t : St}, Agr pm.rd s t → Agr pm.rd (back deep s l) (back deep t l) := by
 intro l
 induction l with
 | nil => intro s t h; exact h
 | cons q l ih =>
  obtain ⟨L, c⟩ := q
  intro s t h
  simp only [back]
  split
  ·exact ih h
  ·split
   ·exact ih ((h.set _ _).bump _)
   ·exact ih (h.set _ _)
theorem back_same (deep : Bool) : ∀ (l : List (Place × D)) {s : St}, (∀ q ∈ l, pm.wr (q.1.headD 0) = true) → Same pm.wr s (back deep s l) := by
 intro l
 induction l with
 | nil => intro s _; exact Same.refl _ _
 | cons q l ih =>
  obtain ⟨L, c⟩ := q
  intro s h
  have hw := h (L, c) (by simp)
  simp only [back]
  refine Same.trans ?_ (ih (fun q hq => h q (by simp [hq])))
  split
  ·exact Same.refl _ _
  ·split
   ·exact (Same.set (fun _ => hw) _).trans (Same.bump hw)
   ·exact Same.set (fun _ => hw) _

theorem frzAll_places : ∀ {l l' : List (Place × D)}, frzAll l = some l' → l'.map (·.1) = l.map (·.1) := by
 intro l
 induction l with
 | nil => intro l' h; simp only [frzAll, Option.some.injEq] at h; subst h; rfl
 | cons q l ih =>
  obtain ⟨L, c⟩ := q
  intro l' h
  simp only [frzAll, Option.bind_eq_some_iff, Option.map_eq_some_iff] at h
  obtain ⟨c', _, l2, h2, rfl⟩ := h
  simp [ih h2]

theorem oclArg_agr (h : Agr pm.rd s t) : ∀ (l : List D) (j : Nat), oclArg pm s j l = oclArg pm t j l
 | [], _ => rfl
 | d :: l, j => by
  unfold oclArg
  cases d with
  | vw L n m => simp only [look_agr h, oclArg_agr h l (j + 1)]
  | cptr ys => simp only [oclArg_agr h l j]
  | undef => simp only [oclArg_agr h l j]
  | _ => rfl
theorem callO_loc {E : Env} (h : Agr pm.rd s t) {dst : Option Tmp} (hdst : ∀ u, dst = some u → pm.wr u = true) {f : FuncId} {xs : List (Operand × TypeId)} (hxs : ∀ x ∈ xs, opdIn pm.rd x.1) {caps : List D} {s1 : St} (hd : callO E pm s dst f xs caps = some s1) :
  Same pm.wr s s1 ∧ ∃ t1, callO E pm t dst f xs caps = some t1 ∧ Agr pm.rd s1 t1 := by
 unfold callO at hd ⊢
 simp only [← argsD_agr E _ h xs _ hxs, ← oclArg_agr h]
 split at hd
 ·cases hd
 ·rename_i as ls has
  try simp only [has]
  split at hd
  ·cases hd
  ·rename_i cs lc hcs
   try simp only [hcs]
   split at hd
   ·rename_i hc
    rw [if_pos hc]
    simp only [Bool.and_eq_true, List.all_eq_true] at hc
    split at hd
    ·rename_i r outs hcall
     try simp only [hcall]
     split at hd
     ·rename_i hz
      rw [if_pos hz]
      simp only [Option.some.injEq] at hd
      subst hd
      refine ⟨((back_same false _ ?_).trans (back_same true _ ?_)).trans (Same.putO hdst r), _, rfl, (back_agr true _ (back_agr false _ h)).putO dst r⟩
      ·intro q hq
       obtain ⟨L, h1, rfl⟩ := List.mem_map.1 hq
       obtain ⟨l, hl', rfl⟩ := List.mem_map.1 h1
       exact hc.1.2 l hl'
      ·intro q hq
       obtain ⟨l, hl', e⟩ := List.mem_map.1 (List.of_mem_zip hq).1
       rw [← e]; exact hc.1.2 l hl'
     ·cases hd
    ·cases hd
   ·cases hd

theorem callD_loc {E : Env} (h : Agr pm.rd s t) {dst : Option Tmp} (hdst : ∀ u, dst = some u → pm.wr u = true) {f : FuncId} {xs : List (Operand × TypeId)} (hxs : ∀ x ∈ xs, opdIn pm.rd x.1) {caps : List D} {s1 : St} (hd : callD E pm s dst f xs caps = some s1) :
  Same pm.wr s s1 ∧ ∃ t1, callD E pm t dst f xs caps = some t1 ∧ Agr pm.rd s1 t1 := by
 unfold callD at hd ⊢
 simp only [← argsD_agr E _ h xs _ hxs]
 split at hd
 ·rename_i hl
  rw [if_pos hl]
  split at hd
  ·cases hd
  ·rename_i as ls has
   try simp only [has]
   split at hd
   ·rename_i hc
    rw [if_pos hc]
    simp only [Bool.and_eq_true, List.all_eq_true] at hc
    split at hd
    ·rename_i r outs hcall
     try simp only [hcall]
     split at hd
     ·rename_i hz
      rw [if_pos hz]
      simp only [Option.some.injEq] at hd
      subst hd
      refine ⟨((back_same false _ ?_).trans (back_same true _ ?_)).trans (Same.putO hdst r), _, rfl, (back_agr true _ (back_agr false _ h)).putO dst r⟩
      ·intro q hq
       simp only [List.mem_map] at hq
       obtain ⟨L, ⟨l, hl', rfl⟩, rfl⟩ := hq
       exact hc.1.2 l hl'
      ·intro q hq
       have := (List.of_mem_zip hq).1
       simp only [List.mem_map] at this
       obtain ⟨l, hl', e⟩ := this
       rw [← e]; exact hc.1.2 l hl'
     ·cases hd
    ·cases hd
   ·cases hd
 ·rename_i hl
  rw [if_neg hl]
  split at hd
  ·cases hd
  ·rename_i as ls has
   try simp only [has]
   split at hd
   ·rename_i r outs hcall
    try simp only [hcall]
    split at hd
    ·rename_i hsl
     rw [if_pos hsl]
     split at hd
     ·rename_i hc
      rw [if_pos hc]
      simp only [Bool.and_eq_true, List.all_eq_true] at hc
      simp only [Option.map_eq_some_iff] at hd
      obtain ⟨ls', hf, rfl⟩ := hd
      refine ⟨(back_same false _ ?_).trans (Same.putO hdst r), _, by rw [hf]; rfl, (back_agr false _ h).putO dst r⟩
      intro q hq
      have : q.1 ∈ ls.map (·.1) := by rw [← frzAll_places hf]; exact List.mem_map_of_mem hq
      simp only [List.mem_map] at this
      obtain ⟨l, hl', e⟩ := this
      rw [← e]; exact hc.2 l hl'
     ·cases hd
    ·rename_i hsl
     rw [if_neg hsl]
     simp only [Option.some.injEq] at hd
     subst hd
     exact ⟨Same.putO hdst r, _, rfl, h.putO dst r⟩
   ·cases hd
end
end Dv
/- Value semantics for Go code: regions that draw their order. Conditions: the program follows mixed orders; the check 'drawOk' passes. -/
namespace Dv
open Go

/-- Operations that may empty the slots they name. -/
def tak : Op → Bool
 | .assign _ | .box .. | .build .. | .buildSlice .. | .store .. => true
 | .call { callee := .builtin .append, .. } => true
 | _ => false

section
variable {pm : Pm} {s t s' : St} {E : Env}

/-- What a step of one state says about the same step of the other, if only a state comes out. -/
def LocS (pm : Pm) (s t s' : St) (r : Option St) : Prop := Same pm.wr s s' ∧ ∃ t', r = some t' ∧ Agr pm.rd s' t'

theorem LocS.put (h : Agr pm.rd s t) {dst : Option Tmp} (hd : ∀ u, dst = some u → pm.wr u = true) (d : D) : LocS pm s t (s.putO dst d) (some (t.putO dst d)) :=
 ⟨Same.putO hd d, _, rfl, h.putO dst d⟩

theorem LocS.of {α : Type} {r r' : Option (α × St)} {x : α} {s1 : St} {dst : Option Tmp} (hd : ∀ u, dst = some u → pm.wr u = true) (f : α → D) (h : Loc pm s t r r') (hr : r = some (x, s1)) :
  LocS pm s t (s1.putO dst (f x)) (r'.map fun q => q.2.putO dst (f q.1)) := by
 obtain ⟨hs, t1, ht, ha⟩ := h _ _ hr
 exact ⟨hs.trans (Same.putO hd _), _, by rw [ht]; rfl, ha.putO dst _⟩

theorem seenL_agr (h : Agr pm.rd s t) {L : Place} (hne : L ≠ []) (hL : pm.rd (L.headD 0) = true) : ∀ (ys : List D) (i : Nat), seenL s L i ys = seenL t L i ys := by
 intro ys
 induction ys with
 | nil => intro i; rfl
 | cons y ys ih => intro i; simp only [seenL, ih, seen_agr h hne hL]
theorem seenC_agr (h : Agr pm.rd s t) {u : Nat} (hu : pm.rd u = true) (i : Nat) (d : D) : seenC s u i d = seenC t u i d := by
 unfold seenC
 split
 ·rw [seenL_agr h (L := [u, i]) (by simp) (by simpa using hu)]
 ·exact seen_agr h (L := [u]) (by simp) (by simpa using hu) i _
theorem seenT_agr (h : Agr pm.rd s t) {u : Nat} (hu : pm.rd u = true) : ∀ {xs : List D} {i : Nat}, seenT s u i xs = seenT t u i xs := by
 intro xs
 induction xs with
 | nil => intro i; rfl
 | cons y ys ih => intro i; simp only [seenT, ih, seenC_agr h hu]
theorem opMove_loc (h : Agr pm.rd s t) {dst : Option Tmp} (hd : ∀ u, dst = some u → pm.wr u = true) {x : Operand} (hx : opdIn pm.rd x) {d : D} (hm : ∀ u, x = .tmp u → d.hasObj = true → d.isObj = false → pm.wr u = true) :
  LocS pm s t (opMove s dst x d) (some (opMove t dst x d)) := by
 cases x with
 | tmp u =>
  unfold opMove
  simp only
  split
  ·rw [mkv_agr h (L := [u]) (hx u rfl)]; exact LocS.put h hd _
  ·rename_i ho
   split
   ·rename_i ho'
    have hw := hm u rfl ho' (by simpa using ho)
    have hcl : ∀ d', LocS pm s t ((s.clr u).putO dst d') (some ((t.clr u).putO dst d')) := fun d' => ⟨(Same.clr hw).trans (Same.putO hd _), _, rfl, (h.clr u).putO dst _⟩
    unfold opMoveO
    split
    ·rw [← seenT_agr h (hx u rfl)]
     split
     ·exact hcl _
     ·exact LocS.put h hd _
    ·exact hcl _
   ·exact LocS.put h hd _
 | _ => exact LocS.put h hd _

theorem opAssign_loc (h : Agr pm.rd s t) {dst : Option Tmp} (hd : ∀ u, dst = some u → pm.wr u = true) {x : Operand} (hw : opdIn pm.wr x) {d : D} (ha : opAssign pm s dst x d = some s') :
  LocS pm s t s' (opAssign pm t dst x d) := by
 unfold opAssign at ha ⊢
 cases x with
 | tmp u =>
  simp only at ha ⊢
  rw [← tupD_agr h]
  split at ha
  ·rename_i htup
   rw [if_pos htup]
   simp only [Option.map_eq_some_iff] at ha
   obtain ⟨⟨d1, s1⟩, h1, rfl⟩ := ha
   exact LocS.of hd (fun x => x) (takeD_loc d h) h1
  rename_i htup
  rw [if_neg htup]
  split at ha
  ·simp only [Option.map_eq_some_iff] at ha
   obtain ⟨⟨d1, s1⟩, h1, rfl⟩ := ha
   exact LocS.of hd (fun x => x) (pull_loc h _ _ _) h1
  ·simp only [Option.some.injEq] at ha
   subst ha
   split
   ·exact ⟨(Same.clr (hw u rfl)).trans (Same.putO hd _), _, rfl, (h.clr u).putO dst _⟩
   ·exact LocS.put h hd _
 | _ =>
  simp only [Option.some.injEq] at ha ⊢
  subst ha
  exact LocS.put h hd _

theorem opExtract_loc (h : Agr pm.rd s t) {dst : Option Tmp} (hd : ∀ u, dst = some u → pm.wr u = true) {x : Operand} (hx : opdIn pm.rd x) {d : D} {i : Nat} (ha : opExtract s dst x d i = some s') :
  LocS pm s t s' (opExtract t dst x d i) := by
 unfold opExtract at ha ⊢
 split at ha
 ·rename_i u xs
  have hru := hx u rfl
  split at ha
  ·cases ha
  ·rename_i ys hc
   simp only [Option.map_eq_some_iff] at ha
   obtain ⟨r, hr, rfl⟩ := ha
   have : (fun j => seen s [u, i] j (ys.getD j .undef)) = fun j => seen t [u, i] j (ys.getD j .undef) := by
    funext j; exact seen_agr h (by simp) (by simpa using hru) j _
   simp only [hc, ← this, hr]
   exact LocS.put h hd _
  ·rename_i c hne hc
   simp only [Option.map_eq_some_iff] at ha
   obtain ⟨r, hr, rfl⟩ := ha
   have : seen s [u] i c = seen t [u] i c := seen_agr h (by simp) (by simpa using hru) i c
   rw [this] at hr
   rw [hr]
   exact LocS.put h hd _
 ·cases ha

theorem opBs_loc {T : Tys} (h : Agr pm.rd s t) {dst : Option Tmp} (hd : ∀ u, dst = some u → pm.wr u = true) {ty : TypeId} {len : Nat} {parts : Array (Nat × Operand)}
  (hps : ∀ q ∈ parts.toList, opdIn pm.rd q.2 ∧ opdIn pm.wr q.2) (ho : opBs T pm s dst ty len parts = some s') : LocS pm s t s' (opBs T pm t dst ty len parts) := by
 unfold opBs at ho ⊢
 split at ho
 ·rename_i e hty
  split at ho
  ·rename_i hk
   rw [if_pos hk]
   simp only [Option.map_eq_some_iff] at ho
   obtain ⟨⟨ys, s1⟩, hf, rfl⟩ := ho
   exact LocS.of hd (fun x => D.own e x) (fillD_loc T _ _ parts.toList _ h hps) hf
  ·cases ho
 ·cases ho

theorem opBox_loc {T : Tys} (h : Agr pm.rd s t) {dst : Option Tmp} (hd : ∀ u, dst = some u → pm.wr u = true) {ty : TypeId} {x : Operand} (hx : opdIn pm.rd x) (hw : opdIn pm.wr x)
  (ho : opBox T pm s dst ty x = some s') : LocS pm s t s' (opBox T pm t dst ty x) := by
 unfold opBox at ho ⊢
 rw [← ev_agr T h _ hx]
 split at ho
 ·split at ho
  ·rename_i hc
   rw [if_pos hc]
   simp only [Option.some.injEq] at ho; subst ho
   exact LocS.put h hd _
  ·cases ho
 split at ho
 ·rename_i d s1 ht
  obtain ⟨hs, t1, ht1, ha⟩ := take_loc T h ty hx hw _ _ ht
  simp only [ht1]
  split at ho
  ·rename_i hc
   rw [if_pos hc]
   simp only [Option.some.injEq] at ho; subst ho
   exact ⟨hs.trans (Same.putO hd _), _, rfl, ha.putO _ _⟩
  ·cases ho
 ·cases ho

theorem opBin_loc {T : Tys} (h : Agr pm.rd s t) {dst : Option Tmp} (hd : ∀ u, dst = some u → pm.wr u = true) {op : BinOp} {ty : TypeId} {x y : Operand} (hx : opdIn pm.rd x) (hy : opdIn pm.rd y)
  (ho : opBinS T pm s dst op ty x y = some s') : LocS pm s t s' (opBinS T pm t dst op ty x y) := by
 unfold opBinS at ho ⊢
 rw [← ev_agr T h _ hx, ← ev_agr T h _ hy]
 split at ho
 ·simp only [Option.bind_eq_some_iff, Option.map_eq_some_iff] at ho
  obtain ⟨d, he, b, hb, rfl⟩ := ho
  simp only [he, Option.bind_some, ← nilD_agr h, hb]
  exact LocS.put h hd _
 split at ho
 ·simp only [Option.bind_eq_some_iff, Option.map_eq_some_iff] at ho
  obtain ⟨d, he, b, hb, rfl⟩ := ho
  simp only [he, Option.bind_some, hb]
  exact LocS.put h hd _
 split at ho
 ·split at ho
  ·rename_i hb
   rw [if_pos hb]
   simp only [Option.map_eq_some_iff] at ho
   obtain ⟨r, hr, rfl⟩ := ho
   rw [hr]; exact LocS.put h hd _
  ·cases ho
 ·cases ho

theorem frzDst_loc {dst : Option Tmp} {s1 t1 : St} (q1 : Same pm.wr s s1) (q3 : Agr pm.rd s1 t1) (hf : frzDst pm s1 dst = some s') : LocS pm s t s' (frzDst pm t1 dst) := by
 unfold frzDst at hf ⊢
 split at hf
 ·rename_i u
  split at hf
  ·rename_i hc
   rw [if_pos hc]
   simp only [Bool.and_eq_true] at hc
   simp only [Option.map_eq_some_iff] at hf
   obtain ⟨c, hfz, rfl⟩ := hf
   rw [← (q3 u hc.1).1, hfz]
   exact ⟨q1.trans (Same.set (L := [u]) (fun _ => hc.2) _), _, rfl, q3.set _ _⟩
  ·cases hf
 ·cases hf
theorem frzCs_loc {dst : Option Tmp} {s1 t1 : St} (q1 : Same pm.wr s s1) (q3 : Agr pm.rd s1 t1) (hf : frzCs pm s1 dst = some s') : LocS pm s t s' (frzCs pm t1 dst) := by
 unfold frzCs at hf ⊢
 split at hf
 ·rename_i u
  split at hf
  ·rename_i hc
   rw [if_pos hc]
   simp only [Bool.and_eq_true] at hc
   split at hf
   ·rename_i e xs hv
    simp only [Option.map_eq_some_iff] at hf
    obtain ⟨c, hfz, rfl⟩ := hf
    rw [← (q3 u hc.1).1, hv]
    simp only [hfz, Option.map_some]
    exact ⟨q1.trans (Same.set (L := [u]) (fun _ => hc.2) _), _, rfl, q3.set _ _⟩
   ·cases hf
  ·cases hf
 ·cases hf
theorem frzF_loc {dst : Option Tmp} {u : Tmp} {s1 t1 : St} (q1 : Same pm.wr s s1) (q3 : Agr pm.rd s1 t1) (hf : frzF pm s1 dst u = some s') : LocS pm s t s' (frzF pm t1 dst u) := by
 unfold frzF at hf ⊢
 split at hf
 ·rename_i d
  split at hf
  ·rename_i hr
   rw [if_pos hr, ← (q3 d hr).1]
   split at hf
   ·rename_i b hv
    split at hf
    ·rename_i hb
     rw [if_pos hb]
     simp only [Option.some.injEq] at hf; subst hf
     exact ⟨q1, _, rfl, q3⟩
    ·rename_i hb
     rw [if_neg hb]
     unfold frzDst at hf ⊢
     simp only at hf ⊢
     split at hf
     ·rename_i hc
      rw [if_pos hc]
      simp only [Bool.and_eq_true] at hc
      simp only [Option.map_eq_some_iff] at hf
      obtain ⟨c, hfz, rfl⟩ := hf
      rw [← (q3 u hc.1).1, hfz]
      exact ⟨q1.trans (Same.set (L := [u]) (fun _ => hc.2) _), _, rfl, q3.set _ _⟩
     ·cases hf
   ·cases hf
  ·cases hf
 ·cases hf

theorem opD_loc {o : Oper} (h : Agr pm.rd s t) (hd : ∀ u, o.dst = some u → pm.wr u = true) (hx : ∀ x ∈ o.op.operands.toList, opdIn pm.rd x)
  (hw : tak o.op = true → ∀ x ∈ o.op.operands.toList, opdIn pm.wr x) (hm : mvOk pm s o = true) (ho : opD E pm s o = some s') : LocS pm s t s' (opD E pm t o) := by
 unfold opD at ho ⊢
 cases hop : o.op <;> simp only [hop] at ho hx hw ⊢
 case move x =>
  rw [← ev_agr E.T h _ (hx x (by simp [Op.operands]))]
  simp only [Option.map_eq_some_iff] at ho
  obtain ⟨d, he, rfl⟩ := ho
  rw [he]
  refine opMove_loc h hd (hx x (by simp [Op.operands])) (fun u hu h1 h2 => ?_)
  subst hu
  simp only [ev, Option.some.injEq] at he
  subst he
  simp only [mvOk, hop, Bool.or_eq_true, Bool.not_eq_true', h1, h2] at hm
  simpa using hm
 case assign x =>
  rw [← ev_agr E.T h _ (hx x (by simp [Op.operands]))]
  simp only [Option.bind_eq_some_iff] at ho
  obtain ⟨d, he, ha⟩ := ho
  rw [he, Option.bind_some]
  split at ha
  ·rename_i htg
   rw [if_pos htg]
   simp only [Option.bind_eq_some_iff] at ha
   obtain ⟨s1, ha, hf⟩ := ha
   obtain ⟨q1, t1, q2, q3⟩ := opAssign_loc h hd (hw rfl x (by simp [Op.operands])) ha
   rw [q2, Option.bind_some]
   unfold frzDst at hf ⊢
   split at hf
   ·rename_i u _
    split at hf
    ·rename_i hc
     rw [if_pos hc]
     simp only [Bool.and_eq_true] at hc
     simp only [Option.map_eq_some_iff] at hf
     obtain ⟨c, hfz, rfl⟩ := hf
     rw [← (q3 u hc.1).1, hfz]
     exact ⟨q1.trans (Same.set (L := [u]) (fun _ => hc.2) _), _, rfl, q3.set _ _⟩
    ·cases hf
   ·cases hf
  ·rename_i htg
   rw [if_neg htg]
   exact opAssign_loc h hd (hw rfl x (by simp [Op.operands])) ha
 case nilCheck x =>
  rw [← ev_agr E.T h _ (hx x (by simp [Op.operands]))]
  simp only [Option.bind_eq_some_iff] at ho
  obtain ⟨d, he, ha⟩ := ho
  rw [he]
  have key : (d.hasObj = false ∨ d.isObj = true) → LocS pm s t (opMove s o.dst x d) (some (opMove t o.dst x d)) := fun hq => opMove_loc h hd (hx x (by simp [Op.operands])) (d := d) (fun u hu h1 h2 => by rcases hq with hq | hq <;> simp_all)
  simp only [Option.bind_some, ← look_agr h]
  split at ha
  ·simp only [Option.some.injEq] at ha; subst ha; exact key (.inr rfl)
  ·split at ha
   ·rename_i hl; simp only [Option.some.injEq] at ha; subst ha; exact key (.inl rfl)
   ·cases ha
  ·split at ha
   ·rename_i hl; simp only [Option.some.injEq] at ha; subst ha; exact key (.inl rfl)
   ·cases ha
  ·simp only [Option.some.injEq] at ha; subst ha; exact key (.inl rfl)
  ·simp only [Option.some.injEq] at ha; subst ha; exact key (.inl rfl)
  ·simp only [Option.some.injEq] at ha; subst ha; exact key (.inl rfl)
  ·cases ha
 case pick c x y =>
  rw [← ev_agr E.T h _ (hx c (by simp [Op.operands])), ← ev_agr E.T h _ (hx x (by simp [Op.operands])), ← ev_agr E.T h _ (hx y (by simp [Op.operands]))]
  split at ho
  ·rename_i tb dx dy _ _ _
   by_cases hn : (if tb = true then dx else dy).hasObj = true
   ·rw [if_pos hn] at ho; cases ho
   ·rw [if_neg hn] at ho
    rw [if_neg hn]
    simp only [Option.some.injEq] at ho; subst ho
    exact LocS.put h hd _
  ·cases ho
 case alloc ty =>
  split at ho
  ·rename_i hk; rw [if_pos hk]; simp only [Option.some.injEq] at ho; subst ho; exact LocS.put h hd _
  ·cases ho
 case box ty x =>
  have hxr := hx x (by simp [Op.operands])
  have hxw := hw rfl x (by simp [Op.operands])
  split at ho
  ·rename_i htg
   rw [if_pos htg]
   simp only [Option.bind_eq_some_iff] at ho
   obtain ⟨s1, ha, hf⟩ := ho
   obtain ⟨q1, t1, q2, q3⟩ := opBox_loc (T := E.T) h hd hxr hxw ha
   rw [q2, Option.bind_some]
   unfold frzDst at hf ⊢
   split at hf
   ·rename_i u _
    split at hf
    ·rename_i hc
     rw [if_pos hc]
     simp only [Bool.and_eq_true] at hc
     simp only [Option.map_eq_some_iff] at hf
     obtain ⟨c, hfz, rfl⟩ := hf
     rw [← (q3 u hc.1).1, hfz]
     exact ⟨q1.trans (Same.set (L := [u]) (fun _ => hc.2) _), _, rfl, q3.set _ _⟩
    ·cases hf
   ·cases hf
  ·rename_i htg
   rw [if_neg htg]
   exact opBox_loc (T := E.T) h hd hxr hxw ho
 case build ty parts =>
  split at ho
  ·rename_i htg
   rw [if_pos htg]
   simp only [Option.map_eq_some_iff] at ho
   obtain ⟨r, hf, rfl⟩ := ho
   rw [← opBuildV_agr E.T h ty parts.toList (fun q hq => hx q.2 (by simp [Op.operands]; exact ⟨q.1, by simpa using hq⟩)), hf, Option.map_some]
   exact LocS.put h hd _
  rename_i htg
  rw [if_neg htg]
  split at ho
  ·rename_i fl hn
   split at ho
   ·rename_i hk
    rw [if_pos hk]
    simp only [Option.map_eq_some_iff] at ho
    obtain ⟨⟨ys, s1⟩, hf, rfl⟩ := ho
    exact LocS.of hd (fun x => D.agg x) (fillN_loc E.T _ parts.toList _ h (fun q hq => ⟨hx q.2 (by simp [Op.operands]; exact ⟨q.1, by simpa using hq⟩), hw rfl q.2 (by simp [Op.operands]; exact ⟨q.1, by simpa using hq⟩)⟩)) hf
   ·cases ho
  split at ho
  ·rename_i fs hty
   split at ho
   ·rename_i hk
    rw [if_pos hk]
    simp only [Option.map_eq_some_iff] at ho
    obtain ⟨⟨ys, s1⟩, hf, rfl⟩ := ho
    exact LocS.of hd (fun x => D.agg x) (fillD_loc E.T _ 1 parts.toList _ h (fun q hq => ⟨hx q.2 (by simp [Op.operands]; exact ⟨q.1, by simpa using hq⟩), hw rfl q.2 (by simp [Op.operands]; exact ⟨q.1, by simpa using hq⟩)⟩)) hf
   ·cases ho
  ·cases ho
 case buildSlice ty len parts =>
  have hps : ∀ q ∈ parts.toList, opdIn pm.rd q.2 ∧ opdIn pm.wr q.2 := fun q hq => ⟨hx q.2 (by simp [Op.operands]; exact ⟨q.1, by simpa using hq⟩), hw rfl q.2 (by simp [Op.operands]; exact ⟨q.1, by simpa using hq⟩)⟩
  split at ho
  ·rename_i htg
   rw [if_pos htg]
   simp only [Option.bind_eq_some_iff] at ho
   obtain ⟨s1, ha, hf⟩ := ho
   obtain ⟨q1, t1, q2, q3⟩ := opBs_loc (T := E.T) h hd hps ha
   rw [q2, Option.bind_some]
   unfold frzCs at hf ⊢
   split at hf
   ·rename_i u _
    split at hf
    ·rename_i hc
     rw [if_pos hc]
     simp only [Bool.and_eq_true] at hc
     split at hf
     ·rename_i e xs hv
      simp only [Option.map_eq_some_iff] at hf
      obtain ⟨c, hfz, rfl⟩ := hf
      rw [← (q3 u hc.1).1, hv]
      simp only [hfz, Option.map_some]
      exact ⟨q1.trans (Same.set (L := [u]) (fun _ => hc.2) _), _, rfl, q3.set _ _⟩
     ·cases hf
    ·cases hf
   ·cases hf
  ·rename_i htg
   rw [if_neg htg]
   exact opBs_loc (T := E.T) h hd hps ho
 case load ty x =>
  have hxi := hx x (by simp [Op.operands])
  rw [← ev_agr E.T h _ hxi]
  simp only [Option.bind_eq_some_iff, Option.map_eq_some_iff] at ho
  obtain ⟨d, he, r, hl, rfl⟩ := ho
  rw [he, Option.bind_some, ← opLoad_agr E.T h ty hxi, hl]
  exact LocS.put h hd _
 case store ty ax x =>
  split at ho
  ·rename_i hn
   rw [if_pos hn]
   split at ho
   ·rename_i htg
    rw [if_pos htg]
    exact opStoreG_loc E.T ty (hx ax (by simp [Op.operands])) (takeM_loc E.T h ty (hx x (by simp [Op.operands])) (hw rfl x (by simp [Op.operands]))) ho
   rename_i htg
   rw [if_neg htg]
   split at ho
   ·rename_i htg
    rw [if_pos htg]
    exact opTie_loc E.T h ty (hx x (by simp [Op.operands])) ho
   rename_i htg
   rw [if_neg htg]
   split at ho
   ·rename_i htg
    rw [if_pos htg]
    simp only [Option.bind_eq_some_iff] at ho
    obtain ⟨s1, ha, hf⟩ := ho
    obtain ⟨q1, t1, q2, q3⟩ := opStore_loc E.T h ty (hx x (by simp [Op.operands])) (hw rfl x (by simp [Op.operands])) (hx ax (by simp [Op.operands])) ha
    rw [q2, Option.bind_some]
    exact frzDst_loc q1 q3 hf
   rename_i htg
   rw [if_neg htg]
   split at ho
   ·rename_i htg
    rw [if_pos htg]
    exact opStoreK_loc E.T h ty (hx x (by simp [Op.operands])) (hx ax (by simp [Op.operands])) ho
   ·rename_i htg
    rw [if_neg htg]
    exact opStore_loc E.T h ty (hx x (by simp [Op.operands])) (hw rfl x (by simp [Op.operands])) (hx ax (by simp [Op.operands])) ho
  ·cases ho
 case binOp op ty x y ty' =>
  split at ho
  ·rename_i htg
   rw [if_pos htg]
   exact opBin_loc h hd (hx x (by simp [Op.operands])) (hx y (by simp [Op.operands])) ho
  ·rename_i htg
   rw [if_neg htg]
   simp only [Option.bind_eq_some_iff] at ho
   obtain ⟨s1, ha, hf⟩ := ho
   obtain ⟨q1, t1, q2, q3⟩ := opBin_loc h hd (hx x (by simp [Op.operands])) (hx y (by simp [Op.operands])) ha
   rw [q2, Option.bind_some]
   exact frzF_loc q1 q3 hf
 case unOp op ty x =>
  rw [← ev_agr E.T h _ (hx x (by simp [Op.operands]))]
  simp only [Option.bind_eq_some_iff, Option.map_eq_some_iff] at ho
  obtain ⟨d, he, r, hl, rfl⟩ := ho
  rw [he, Option.bind_some, hl]
  exact LocS.put h hd _
 case convert src dst x =>
  split at ho
  ·rename_i hk
   rw [if_pos hk, ← ev_agr E.T h _ (hx x (by simp [Op.operands]))]
   split at ho
   ·simp only [Option.some.injEq] at ho; subst ho; exact LocS.put h hd _
   ·simp only [Option.some.injEq] at ho; subst ho; exact LocS.put h hd _
   ·rename_i e n hev hty
    unfold cvB at ho ⊢
    split at ho
    ·split at ho
     ·rename_i he
      simp only [Option.some.injEq] at ho; subst ho
      rw [if_pos he]
      exact LocS.put h hd _
     ·cases ho
    ·cases ho
   ·cases ho
  ·cases ho
 case index ty x i =>
  rw [← ev_agr E.T h _ (hx x (by simp [Op.operands])), ← ev_agr E.T h _ (hx i (by simp [Op.operands]))]
  split at ho
  ·simp only [Option.map_eq_some_iff] at ho
   obtain ⟨r, hr, rfl⟩ := ho
   rw [hr]
   exact LocS.put h hd _
  ·cases ho
 case makeFunc fn first captured =>
  cases fn <;> simp only at ho ⊢ <;> try (cases ho; done)
  rename_i f
  split at ho
  ·rename_i hty
   rw [if_pos hty]
   split at ho
   ·rename_i hfe
    rw [if_pos hfe]
    simp only [Option.map_eq_some_iff] at ho
    obtain ⟨⟨ys, s1⟩, hc, rfl⟩ := ho
    exact LocS.of hd (fun x => D.clo f x) (capD_loc captured.toList h (fun x hx' => hx x (by simp [Op.operands]; right; simpa using hx'))) hc
   ·cases ho
  ·rename_i hty
   rw [if_neg hty]
   split at ho
   ·rename_i hfe
    rw [if_pos hfe]
    simp only [Option.map_eq_some_iff] at ho
    obtain ⟨⟨ys, s1⟩, hc, rfl⟩ := ho
    exact LocS.of hd (fun x => D.ocl false f x) (capV_loc _ captured.toList h (fun x hx' => hx x (by simp [Op.operands]; right; simpa using hx'))) hc
   ·cases ho
 case makeSlice ty l c =>
  have key : ∀ s1, opMk E.T s o.dst ty l c = some s1 → LocS pm s t s1 (opMk E.T t o.dst ty l c) := by
   intro s1 ho
   unfold opMk at ho ⊢
   rw [← ev_agr E.T h _ (hx l (by simp [Op.operands])), ← ev_agr E.T h _ (hx c (by simp [Op.operands]))]
   split at ho
   ·simp only [Option.map_eq_some_iff] at ho
    obtain ⟨r, hr, rfl⟩ := ho
    rw [hr]; exact LocS.put h hd _
   ·cases ho
  split at ho
  ·rename_i htg
   rw [if_pos htg]
   simp only [Option.bind_eq_some_iff] at ho
   obtain ⟨s1, ha, hf⟩ := ho
   obtain ⟨q1, t1, q2, q3⟩ := key s1 ha
   rw [q2, Option.bind_some]
   exact frzCs_loc q1 q3 hf
  ·rename_i htg
   rw [if_neg htg]
   exact key _ ho
 case slice ty x lo hi mx =>
  have hxi := hx x (by simp [Op.operands])
  split at ho
  ·rename_i htg
   rw [if_pos htg]
   split at ho
   ·rename_i hlm
    rw [if_pos hlm]
    simp only [Option.map_eq_some_iff] at ho
    obtain ⟨⟨r, s1⟩, hl, rfl⟩ := ho
    exact LocS.of hd (fun x => x) (opCut_loc E.T h ty hxi (fun o ho => hx o (by simp [Op.operands, ho]))) hl
   ·cases ho
  rename_i htg
  rw [if_neg htg]
  split at ho
  ·rename_i htg
   rw [if_pos htg]
   split at ho
   ·rename_i hlm
    rw [if_pos hlm]
    simp only [Option.map_eq_some_iff] at ho
    obtain ⟨⟨r, s1⟩, hl, rfl⟩ := ho
    exact LocS.of hd (fun x => x) (opCutF_loc E.T h ty hxi (fun o ho => hx o (by simp [Op.operands, ho]))) hl
   ·cases ho
  rename_i htg
  rw [if_neg htg]
  rw [← ev_agr E.T h _ hxi]
  simp only [Option.bind_eq_some_iff, Option.map_eq_some_iff] at ho
  obtain ⟨d, he, ⟨r, s1⟩, hl, rfl⟩ := ho
  rw [he, Option.bind_some]
  have hloc : Loc pm s t (opSlice E.T (if o.type = 900001 then pm.see else pm) s ty x d lo hi mx) (opSlice E.T (if o.type = 900001 then pm.see else pm) t ty x d lo hi mx) := by
   split
   ·intro d1 s2 hd1
    obtain ⟨q1, q2⟩ := opSlice_loc (pm := pm.see) E.T h ty hxi d (fun o ho => hx o (by simp [Op.operands, ho])) (fun o ho => hx o (by simp [Op.operands, ho])) (fun o ho => hx o (by simp [Op.operands, ho])) d1 s2 hd1
    exact ⟨fun r _ => q1 r rfl, q2⟩
   ·exact opSlice_loc E.T h ty hxi d (fun o ho => hx o (by simp [Op.operands, ho])) (fun o ho => hx o (by simp [Op.operands, ho])) (fun o ho => hx o (by simp [Op.operands, ho]))
  exact LocS.of hd (fun x => x) hloc hl
 case fieldAddr ty x i =>
  have hxi := hx x (by simp [Op.operands])
  rw [← ev_agr E.T h _ hxi]
  simp only [Option.bind_eq_some_iff, Option.map_eq_some_iff] at ho
  obtain ⟨d, he, r, hl, rfl⟩ := ho
  rw [he, Option.bind_some, ← opFieldAddr_agr E.T h ty hxi, hl]
  exact LocS.put h hd _
 case indexAddr ty x i =>
  have hxi := hx x (by simp [Op.operands])
  rw [← ev_agr E.T h _ hxi, ← ev_agr E.T h _ (hx i (by simp [Op.operands]))]
  split at ho
  ·simp only [Option.map_eq_some_iff] at ho
   obtain ⟨r, hr, rfl⟩ := ho
   simp only [← opIx_agr E.T h ty hxi, hr]
   exact LocS.put h hd _
  ·cases ho
 case makeMap ty r =>
  split at ho
  ·rename_i hr0
   rw [if_pos hr0]
   simp only [Option.map_eq_some_iff] at ho
   obtain ⟨r, hr, rfl⟩ := ho
   rw [hr]
   exact LocS.put h hd _
  ·cases ho
 case lookup ty x i ok =>
  rw [← ev_agr E.T h _ (hx x (by simp [Op.operands])), ← ev_agr E.T h _ (hx i (by simp [Op.operands]))]
  split at ho
  ·simp only [Option.map_eq_some_iff] at ho
   obtain ⟨r, hr, rfl⟩ := ho
   simp only [← opLookup_agr E.T h ty, hr]
   exact LocS.put h hd _
  ·cases ho
 case mapUpdate ty x i v =>
  split at ho
  ·rename_i hn
   rw [if_pos hn, ← ev_agr E.T h _ (hx x (by simp [Op.operands])), ← ev_agr E.T h _ (hx i (by simp [Op.operands])), ← ev_agr E.T h _ (hx v (by simp [Op.operands]))]
   split at ho
   ·exact opMapUp_loc E.T h ty x _ _ _ ho
   ·cases ho
  ·cases ho
 case extract x i =>
  rw [← ev_agr E.T h _ (hx x (by simp [Op.operands]))]
  simp only [Option.bind_eq_some_iff] at ho
  obtain ⟨d, he, ha⟩ := ho
  rw [he]
  exact opExtract_loc h hd (hx x (by simp [Op.operands])) ha
 case call c =>
  have hargs : ∀ x ∈ c.args.toList, opdIn pm.rd x := fun x hx' => hx x (by simp only [Op.operands, Call.operands]; simp; right; simpa using hx')
  have hzip : ∀ q ∈ c.args.toList.zip c.argTypes.toList, opdIn pm.rd q.1 := fun q hq => hargs q.1 (List.of_mem_zip hq).1
  cases hcal : c.callee <;> simp only [hcal] at ho ⊢
  case builtin b =>
   cases b <;> simp only at ho ⊢
   case len =>
    split at ho
    ·rename_i x ty hargs' hts
     have hxi := hargs x (by rw [hargs']; simp)
     rw [← ev_agr E.T h _ hxi]
     simp only [Option.bind_eq_some_iff, Option.map_eq_some_iff] at ho
     obtain ⟨d, he, r, hr, rfl⟩ := ho
     rw [he, Option.bind_some, ← opLnM_agr E.T h ty hxi, hr]
     exact LocS.put h hd _
    ·cases ho
   case append =>
    split at ho
    ·rename_i x y ty ty' hargs' hts
     split at ho
     ·rename_i htt
      rw [if_pos htt]
      simp only [Option.map_eq_some_iff] at ho
      obtain ⟨⟨r, s1⟩, hr, rfl⟩ := ho
      have hwa : ∀ x ∈ c.args.toList, opdIn pm.wr x := fun x hx' => hw (by obtain ⟨cal, _, _⟩ := c; simp only at hcal; subst hcal; rfl) x (by simp only [Op.operands, Call.operands]; simp; right; simpa using hx')
      rw [← ev_agr E.T h ty (hargs y (by rw [hargs']; simp))]
      by_cases hz : isZ (ev E.T s ty y) = true
      ·simp only [hz, if_true] at hr ⊢
       exact LocS.of hd (fun x => x) (opAppZ_loc E.T h ty (hargs x (by rw [hargs']; simp)) (hwa x (by rw [hargs']; simp))) hr
      ·simp only [hz] at hr ⊢
       exact LocS.of hd (fun x => x) (opAppend_loc E.T h ty (hargs x (by rw [hargs']; simp)) (hwa x (by rw [hargs']; simp)) (hargs y (by rw [hargs']; simp)) (hwa y (by rw [hargs']; simp))) hr
     ·cases ho
    ·cases ho
   case min =>
    split at ho
    ·rename_i x y ty ty' hargs' hts
     rw [← ev_agr E.T h ty (hargs x (by rw [hargs']; simp)), ← ev_agr E.T h ty' (hargs y (by rw [hargs']; simp))]
     split at ho
     ·rename_i da db hea heb
      simp only [Option.map_eq_some_iff] at ho
      obtain ⟨r, hr, rfl⟩ := ho
      rw [hr]
      exact LocS.put h hd _
     ·cases ho
    ·cases ho
   case max =>
    split at ho
    ·rename_i x y ty ty' hargs' hts
     rw [← ev_agr E.T h ty (hargs x (by rw [hargs']; simp)), ← ev_agr E.T h ty' (hargs y (by rw [hargs']; simp))]
     split at ho
     ·rename_i da db hea heb
      simp only [Option.map_eq_some_iff] at ho
      obtain ⟨r, hr, rfl⟩ := ho
      rw [hr]
      exact LocS.put h hd _
     ·cases ho
    ·cases ho
   case clear =>
    split at ho
    ·rename_i x ty hargs' hts
     rw [← ev_agr E.T h ty (hargs x (by rw [hargs']; simp))]
     simp only [Option.bind_eq_some_iff, Option.map_eq_some_iff] at ho
     obtain ⟨da, hea, ⟨r, s1⟩, hr, rfl⟩ := ho
     rw [hea, Option.bind_some]
     exact LocS.of hd (fun x => x) (opClear_loc E.T h ty (hargs x (by rw [hargs']; simp)) da) hr
    ·cases ho
   case copy =>
    split at ho
    ·rename_i x y ty ty' hargs' hts
     rw [← ev_agr E.T h ty (hargs x (by rw [hargs']; simp)), ← ev_agr E.T h ty (hargs y (by rw [hargs']; simp))]
     split at ho
     ·rename_i da db hea heb
      simp only [Option.map_eq_some_iff] at ho
      obtain ⟨⟨r, s1⟩, hr, rfl⟩ := ho
      exact LocS.of hd (fun x => x) (opCopy_loc E.T h ty (hargs x (by rw [hargs']; simp)) (hargs y (by rw [hargs']; simp)) da db) hr
     ·cases ho
    ·cases ho
   all_goals (cases ho)
  case value fo =>
   cases fo <;> simp only at ho ⊢
   case func f =>
    split at ho
    ·rename_i hsz
     rw [if_pos hsz]
     split at ho
     ·rename_i hty
      rw [if_pos hty]
      obtain ⟨s1, h1, h2⟩ := Option.bind_eq_some_iff.1 ho
      obtain ⟨q1, t1, q2, q3⟩ := callD_loc h hd (fun q hq => hargs q.1 (List.of_mem_zip hq).1) h1
      rw [q2]
      exact frzDst_loc q1 q3 h2
     ·rename_i hty
      rw [if_neg hty]
      exact callD_loc h hd (fun q hq => hargs q.1 (List.of_mem_zip hq).1) ho
    ·cases ho
   case tmp u =>
    rw [← (h u (hx (.tmp u) (by simp [Op.operands, Call.operands, hcal]) u rfl)).1]
    split at ho
    ·split at ho
     ·rename_i hsz
      rw [if_pos hsz]
      exact callD_loc h hd hzip ho
     ·cases ho
    ·split at ho
     ·rename_i hsz
      rw [if_pos hsz]
      exact callO_loc h hd hzip ho
     ·cases ho
    ·cases ho
   all_goals (cases ho)
  all_goals (cases ho)
 all_goals (cases ho)

theorem wantD_agr {ops : Array Oper} (h : Agr pm.rd s t) {o : Oper} (hg : ∀ j b u, o.guard = some (j, b) → (ops[j]?).bind (·.dst) = some u → pm.rd u = true) : wantD ops s o = wantD ops t o := by
 unfold wantD
 split
 ·rfl
 ·rename_i j b hgd
  cases hj : (ops[j]?).bind (·.dst) with
  | none => rfl
  | some u => simp only; rw [(h u (hg j b u hgd hj)).1]

/-- A step that is let to, as the draws take it. -/
def stepG (E : Env) (ops : Array Oper) (pm : Pm) (s : St) (o : Oper) : Option St := if mvOk pm s o then stepD E ops pm s (tagC E.lends ops.toList o) else none

theorem stepG_loc {ops : Array Oper} {o : Oper} (h : Agr pm.rd s t) (hd : ∀ u, o.dst = some u → pm.wr u = true) (hx : ∀ x ∈ o.op.operands.toList, opdIn pm.rd x)
  (hw : tak o.op = true → ∀ x ∈ o.op.operands.toList, opdIn pm.wr x) (hg : ∀ j b u, o.guard = some (j, b) → (ops[j]?).bind (·.dst) = some u → pm.rd u = true)
  (ho : stepG E ops pm s o = some s') : LocS pm s t s' (stepG E ops pm t o) := by
 unfold stepG at ho ⊢
 split at ho
 ·rename_i hm
  have hmt : mvOk pm t o = true := by
   unfold mvOk at hm ⊢
   split
   ·rename_i u hu
    simp only [hu] at hm
    rw [← (h u (hx (.tmp u) (by simp [hu, Op.operands]) u rfl)).1]; exact hm
   ·rfl
  rw [if_pos hmt]
  unfold stepD at ho ⊢
  have hwd : ∀ q, wantD ops q (tagC E.lends ops.toList o) = wantD ops q o := fun _ => rfl
  rw [hwd] at ho ⊢
  rw [← wantD_agr h hg]
  split at ho
  ·exact opD_loc (o := tagC E.lends ops.toList o) h hd hx hw hm ho
  ·simp only [Option.some.injEq] at ho; subst ho; exact LocS.put h hd _
  ·cases ho
 ·cases ho
end
end Dv
/- Value semantics for Go code: a region that draws its order comes to what the text's order comes to. Conditions: the program follows mixed orders; the check 'drawOk' passes. -/
namespace Dv
open Go

theorem St.eq_of {s t : St} (h : ∀ r, s.v r = t.v r ∧ s.k r = t.k r ∧ s.m r = t.m r) : s = t := by
 obtain ⟨v, k, m⟩ := s
 obtain ⟨v', k', m'⟩ := t
 have h1 : v = v' := funext fun r => (h r).1
 have h2 : k = k' := funext fun r => (h r).2.1
 have h3 : m = m' := funext fun r => (h r).2.2
 subst h1 h2 h3; rfl

section
variable {E : Env} {ops : Array Oper} {l : List Oper} {lends : FuncId → Bool}

theorem mem_opSlots {o : Oper} {u : Nat} : u ∈ opSlots o ↔ Operand.tmp u ∈ o.op.operands.toList := by
 simp only [opSlots, List.mem_filterMap]
 constructor
 ·rintro ⟨x, hx, hu⟩
  cases x <;> simp at hu
  subst hu; exact hx
 ·intro h; exact ⟨_, h, rfl⟩

theorem dst_names {o : Oper} {u : Nat} (h : o.dst = some u) : u ∈ names l o := by
 simp [names, h]
theorem slot_names {o : Oper} {u : Nat} (h : u ∈ opSlots o) : u ∈ names l o := by
 simp [names, h]

theorem dst_writes {o : Oper} {u : Nat} (h : o.dst = some u) : u ∈ writes lends l o := by
 unfold writes
 split
 ·split
  ·simp [h]
  ·exact dst_names h
 split
 ·simp [h]
 ·split
  ·simp [h]
  ·simp [h]
  ·split
   ·simp [h]
   ·split <;> simp [h]
  ·simp [h]
  ·simp [h]
  ·split
   ·simp [h]
   ·exact dst_names h
  ·split
   ·simp [h]
   ·exact dst_names h
  ·split
   ·simp [h]
   ·exact dst_names h
  ·exact dst_names h

theorem writes_names {o : Oper} {r : Nat} (h : r ∈ writes lends l o) : r ∈ names l o := by
 unfold writes at h
 split at h
 ·split at h
  ·unfold names
   simp only [List.mem_append] at h ⊢
   rcases h with (h | h) | h <;> simp [h]
  ·exact h
 split at h
 ·exact dst_names (by simpa using h)
 ·split at h
  ·rename_i u hu
   simp only [List.mem_append] at h
   rcases h with h | h
   ·exact dst_names (by simpa using h)
   ·split at h
    ·simp only [List.mem_singleton] at h
     subst h
     exact slot_names (mem_opSlots.2 (by simp [hu, Op.operands]))
    ·cases h
  ·exact dst_names (by simpa using h)
  ·rename_i hop
   split at h
   ·rcases List.mem_append.1 h with h | h
    ·unfold names
     simp only [List.mem_append] at h ⊢
     rcases h with (h | h) | h <;> simp [h]
    ·obtain ⟨u, hu, rfl⟩ := List.mem_map.1 h
     have hu := (List.mem_filter.1 hu).1
     unfold names rootsOf
     rw [hop]
     simp only [List.mem_append, List.mem_map]
     exact .inl (.inr ⟨u, hu, rfl⟩)
   ·split at h
    ·rcases List.mem_append.1 h with h | h
     ·exact dst_names (by simpa using h)
     ·exact slot_names h
    ·exact dst_names (by simpa using h)
  ·rename_i hop
   rcases List.mem_append.1 h with h | h
   ·rcases List.mem_append.1 h with h | h
    ·exact dst_names (by simpa using h)
    ·exact slot_names h
   ·obtain ⟨u, hu, rfl⟩ := List.mem_map.1 h
    have hu := (List.mem_filter.1 hu).1
    unfold names rootsOf
    rw [hop]
    simp only [List.mem_append, List.mem_map]
    exact .inl (.inr ⟨u, hu, rfl⟩)
  ·rename_i hop
   rcases List.mem_append.1 h with h | h
   ·rcases List.mem_append.1 h with h | h
    ·exact dst_names (by simpa using h)
    ·exact slot_names h
   ·obtain ⟨u, hu, rfl⟩ := List.mem_map.1 h
    have hu := (List.mem_filter.1 hu).1
    unfold names rootsOf
    rw [hop]
    simp only [List.mem_append, List.mem_map]
    exact .inl (.inr ⟨u, hu, rfl⟩)
  ·split at h
   ·rcases List.mem_append.1 h with h | h
    ·exact dst_names (by simpa using h)
    ·exact slot_names h
   ·exact h
  ·split at h
   ·exact dst_names (by simpa using h)
   ·exact h
  ·split at h
   ·rcases List.mem_append.1 h with h | h
    ·exact dst_names (by simpa using h)
    ·exact slot_names h
   ·exact h
  ·exact h

theorem tak_writes {o : Oper} (h : tak o.op = true) {u : Nat} (hu : u ∈ opSlots o) : u ∈ writes lends l o := by
 have hn : u ∈ names l o := slot_names hu
 unfold writes
 split
 ·split
  ·exact List.mem_append_right _ hu
  ·exact hn
 cases hop : o.op <;> simp only [hop, tak] at h <;> try (cases h; done)
 all_goals (try (simp [Op.calm, hn, hu]; done))
 ·simp only [Op.calm, Bool.false_eq_true, if_false]
  split
  ·exact List.mem_append_right _ hu
  ·exact hn
 rename_i c
 obtain ⟨cal, _, _⟩ := c
 cases cal with
 | builtin b => cases b <;> first | (simp [Op.calm, hn]; done) | (cases h; done) | (simp only [Op.calm, Bool.false_eq_true, if_false]; split <;> simp [hn, hu])
 | _ => cases h

theorem rd_names {o : Oper} {r : Nat} (h : r ∈ names l o) : (pmAt lends l o).rd r = true := by
 simp [pmAt, h]
theorem wr_writes {o : Oper} {r : Nat} : (pmAt lends l o).wr r = true ↔ r ∈ writes lends l o := by
 simp [pmAt]

theorem stepG_at (hl : l = ops.toList) {s t s' : St} {o : Oper} (h : Agr (pmAt E.lends l o).rd s t) (ho : stepG E ops (pmAt E.lends l o) s o = some s') :
  LocS (pmAt E.lends l o) s t s' (stepG E ops (pmAt E.lends l o) t o) := by
 refine stepG_loc h (fun u hu => wr_writes.2 (dst_writes hu)) (fun x hx u hu => rd_names (slot_names (mem_opSlots.2 (hu ▸ hx)))) (fun ht x hx u hu => wr_writes.2 ?_) (fun j b u hg hj => rd_names ?_) ho
 ·exact tak_writes ht (mem_opSlots.2 (hu ▸ hx))
 ·have hj' : (l[j]?).bind (·.dst) = some u := by rw [hl]; simpa using hj
  simp [names, hg, hj']

theorem meets_false {a b : List Nat} (h : meets a b = false) : ∀ r, r ∈ a → r ∉ b := by
 intro r hr hb
 simp only [meets, List.any_eq_false, List.contains_iff_mem] at h
 exact h r hr hb

/-- What one step leaves alone, another may read. -/
theorem agr_of {s s1 : St} {oi oj : Oper} (hj : oj ∈ l) (hs : Same (pmAt lends l oj).wr s s1) (hm : ∀ r, r ∈ writes lends l oj → r ∉ names l oi) : Agr (pmAt lends l oi).rd s1 s := by
 intro r hr
 have hnw : (pmAt lends l oj).wr r = false := by
  cases hw : (pmAt lends l oj).wr r with
  | false => rfl
  | true =>
   rw [wr_writes] at hw
   have h1 := hm r hw
   have h2 : r ∈ l.flatMap (writes lends l) := List.mem_flatMap.2 ⟨oj, hj, hw⟩
   simp only [pmAt, Bool.or_eq_true, List.contains_iff_mem, Bool.not_eq_true'] at hr
   rcases hr with hr | hr
   ·exact (h1 hr).elim
   ·rw [← Bool.not_eq_true, List.contains_iff_mem] at hr
    exact (hr h2).elim
 exact hs r hnw

theorem Agr.symm {A : Nat → Bool} {s t : St} (h : Agr A s t) : Agr A t s := fun r hr => ⟨(h r hr).1.symm, (h r hr).2.1.symm, (h r hr).2.2.symm⟩
theorem Agr.refl {A : Nat → Bool} {s : St} : Agr A s s := fun _ _ => ⟨rfl, rfl, rfl⟩

/-- Two steps that have nothing to do with each other. -/
theorem swap (hl : l = ops.toList) {s s1 s2 : St} {oi oj : Oper} (hi : oi ∈ l) (hj : oj ∈ l) (h1 : ∀ r, r ∈ writes E.lends l oj → r ∉ names l oi) (h2 : ∀ r, r ∈ writes E.lends l oi → r ∉ names l oj)
  (a : stepG E ops (pmAt E.lends l oj) s oj = some s1) (b : stepG E ops (pmAt E.lends l oi) s1 oi = some s2) :
  ∃ t1, stepG E ops (pmAt E.lends l oi) s oi = some t1 ∧ stepG E ops (pmAt E.lends l oj) t1 oj = some s2 := by
 have sj := (stepG_at hl Agr.refl a).1
 obtain ⟨si, t1, e1, a1⟩ := stepG_at hl (agr_of hj sj h1) b
 have si' := (stepG_at hl Agr.refl e1).1
 obtain ⟨_, t2, e2, a2⟩ := stepG_at hl (agr_of hi si' h2).symm a
 have sj' := (stepG_at hl Agr.refl e2).1
 refine ⟨t1, e1, ?_⟩
 rw [e2]
 congr 1
 refine St.eq_of fun r => ?_
 by_cases hwi : r ∈ writes E.lends l oi
 ·have hnj : (pmAt E.lends l oj).wr r = false := by
   cases hw : (pmAt E.lends l oj).wr r with
   | false => rfl
   | true => exact (h1 r (wr_writes.1 hw) (writes_names hwi)).elim
  obtain ⟨p1, p2, p3⟩ := sj' r hnj
  obtain ⟨q1, q2, q3⟩ := a1 r (rd_names (writes_names hwi))
  exact ⟨p1.trans q1.symm, p2.trans q2.symm, p3.trans q3.symm⟩
 ·have hni : (pmAt E.lends l oi).wr r = false := by
   cases hw : (pmAt E.lends l oi).wr r with
   | false => rfl
   | true => exact (hwi (wr_writes.1 hw)).elim
  obtain ⟨p1, p2, p3⟩ := si r hni
  by_cases hwj : r ∈ writes E.lends l oj
  ·obtain ⟨q1, q2, q3⟩ := a2 r (rd_names (writes_names hwj))
   exact ⟨(p1.trans q1).symm, (p2.trans q2).symm, (p3.trans q3).symm⟩
  ·have hnj : (pmAt E.lends l oj).wr r = false := by
    cases hw : (pmAt E.lends l oj).wr r with
    | false => rfl
    | true => exact (hwj (wr_writes.1 hw)).elim
   obtain ⟨q1, q2, q3⟩ := sj r hnj
   obtain ⟨u1, u2, u3⟩ := sj' r hnj
   obtain ⟨x1, x2, x3⟩ := si' r hni
   exact ⟨(u1.trans x1).trans (p1.trans q1).symm, (u2.trans x2).trans (p2.trans q2).symm, (u3.trans x3).trans (p3.trans q3).symm⟩

/-- One step, by its number. -/
def stI (E : Env) (ops : Array Oper) (l : List Oper) (s : St) (i : Nat) : Option St :=
 match ops[i]? with
 | some o => stepG E ops (pmAt E.lends l o) s o
 | none => none
def runI (E : Env) (ops : Array Oper) (l : List Oper) : St → List Nat → Option St
 | s, [] => some s
 | s, i :: is => (stI E ops l s i).bind fun s' => runI E ops l s' is

theorem drawD_runI : ∀ (q : List Oper) (k : Nat) (s : St), ops.toList.drop k = q → drawD E ops l s q = runI E ops l s (List.range' k q.length) := by
 intro q
 induction q with
 | nil => intro k s _; rfl
 | cons o q ih =>
  intro k s hq
  have hk : ops[k]? = some o := by
   have : (ops.toList.drop k)[0]? = some o := by rw [hq]; rfl
   rw [List.getElem?_drop] at this
   simpa using this
  have hd : ops.toList.drop (k + 1) = q := by rw [← List.drop_drop, hq]; rfl
  simp only [drawD, List.length_cons, List.range'_succ, runI, stI, hk, stepG]
  split
  ·cases stepD E ops (pmAt E.lends l o) s (tagC E.lends ops.toList o) with
   | none => rfl
   | some s1 => simp only [Option.bind_some]; exact ih (k + 1) s1 hd
  ·rfl

/-- Numbers of steps that have nothing to do with each other. -/
def free (lends : FuncId → Bool) (ops : Array Oper) (l : List Oper) (j i : Nat) : Prop :=
 ∀ oi oj, ops[i]? = some oi → ops[j]? = some oj → (∀ r, r ∈ writes lends l oj → r ∉ names l oi) ∧ (∀ r, r ∈ writes lends l oi → r ∉ names l oj)

theorem runI_front (hl : l = ops.toList) {i : Nat} {post : List Nat} : ∀ (pre : List Nat) {s s' : St}, (∀ j ∈ pre, free E.lends ops l j i) → runI E ops l s (pre ++ i :: post) = some s' →
  ∃ t, stI E ops l s i = some t ∧ runI E ops l t (pre ++ post) = some s' := by
 intro pre
 induction pre with
 | nil =>
  intro s s' _ h
  simp only [List.nil_append, runI, Option.bind_eq_some_iff] at h
  exact h
 | cons j pre ih =>
  intro s s' hf h
  simp only [List.cons_append, runI, Option.bind_eq_some_iff] at h
  obtain ⟨s1, e1, h⟩ := h
  obtain ⟨s2, e2, h⟩ := ih (fun j' hj' => hf j' (List.mem_cons_of_mem _ hj')) h
  unfold stI at e1 e2
  cases hj : ops[j]? with
  | none => simp [hj] at e1
  | some oj =>
   cases hi : ops[i]? with
   | none => simp [hi] at e2
   | some oi =>
    simp only [hj] at e1
    simp only [hi] at e2
    obtain ⟨f1, f2⟩ := hf j (List.mem_cons_self) oi oj hi hj
    have mi : oi ∈ l := by rw [hl]; exact List.mem_of_getElem? (i := i) (by simpa using hi)
    have mj : oj ∈ l := by rw [hl]; exact List.mem_of_getElem? (i := j) (by simpa using hj)
    obtain ⟨t1, g1, g2⟩ := swap hl mi mj f1 f2 e1 e2
    refine ⟨t1, by simp [stI, hi, g1], ?_⟩
    simp only [List.cons_append, runI, stI, hj, g2, Option.bind_some]
    exact h

/-! ### What comes before what -/

def befStep (acc : List Nat) (o : Oper) : List Nat := acc ++ [befM acc o]

theorem befores_eq (a : List Oper) : befores a = a.foldl befStep [] := rfl

theorem bef_ext : ∀ (q : List Oper) (acc : List Nat), ∃ ext, q.foldl befStep acc = acc ++ ext ∧ ext.length = q.length := by
 intro q
 induction q with
 | nil => intro acc; exact ⟨[], by simp, rfl⟩
 | cons o q ih =>
  intro acc
  obtain ⟨ext, h1, h2⟩ := ih (befStep acc o)
  exact ⟨_ :: ext, by rw [List.foldl_cons, h1, befStep, List.append_assoc]; rfl, by simp [h2]⟩

theorem befM_congr {acc acc' : List Nat} {o : Oper} (h : ∀ e ∈ o.after.toList, Region.binds .any e = true → acc.getD e.on 0 = acc'.getD e.on 0) : befM acc o = befM acc' o := by
 unfold befM
 generalize o.after.toList = l at h
 generalize (0 : Nat) = m0 at h ⊢
 suffices hs : ∀ (m : Nat), l.foldl (fun m e => if Region.binds .any e then (m ||| 2 ^ e.on) ||| acc.getD e.on m0 else m) m = l.foldl (fun m e => if Region.binds .any e then (m ||| 2 ^ e.on) ||| acc'.getD e.on m0 else m) m from hs m0
 induction l with
 | nil => intro m; rfl
 | cons e l ih =>
  intro m
  rw [List.foldl_cons, List.foldl_cons]
  have : (if Region.binds .any e then (m ||| 2 ^ e.on) ||| acc.getD e.on m0 else m) = (if Region.binds .any e then (m ||| 2 ^ e.on) ||| acc'.getD e.on m0 else m) := by
   split
   ·rename_i hb; rw [h e (List.mem_cons_self) hb]
   ·rfl
  rw [this]
  exact ih (fun e' he' => h e' (List.mem_cons_of_mem _ he')) _

theorem befM_test {acc : List Nat} {o : Oper} {j : Nat} (h : (befM acc o).testBit j = true) : ∃ e ∈ o.after.toList, Region.binds .any e = true ∧ (j = e.on ∨ (acc.getD e.on 0).testBit j = true) := by
 unfold befM at h
 suffices hs : ∀ (l : List _) (m : Nat), (l.foldl (fun m e => if Region.binds .any e then (m ||| 2 ^ e.on) ||| acc.getD e.on 0 else m) m).testBit j = true → m.testBit j = true ∨ ∃ e ∈ l, Region.binds .any e = true ∧ (j = e.on ∨ (acc.getD e.on 0).testBit j = true) by
  rcases hs _ _ h with h0 | h0
  ·simp at h0
  ·exact h0
 intro l
 induction l with
 | nil => intro m hm; exact .inl hm
 | cons e l ih =>
  intro m hm
  rw [List.foldl_cons] at hm
  rcases ih _ hm with h1 | ⟨e', he', h2⟩
  ·split at h1
   ·rename_i hb
    rw [Nat.testBit_or, Nat.testBit_or, Bool.or_eq_true, Bool.or_eq_true] at h1
    rcases h1 with (h1 | h1) | h1
    ·exact .inl h1
    ·rw [Nat.testBit_two_pow, decide_eq_true_eq] at h1
     exact .inr ⟨e, List.mem_cons_self, hb, .inl h1.symm⟩
    ·exact .inr ⟨e, List.mem_cons_self, hb, .inr h1⟩
   ·exact .inl h1
  ·exact .inr ⟨e', List.mem_cons_of_mem _ he', h2⟩

theorem bef_get : ∀ (q : List Oper) (acc : List Nat) (i : Nat) (o : Oper), q[i]? = some o → (∀ e ∈ o.after.toList, Region.binds .any e = true → e.on < acc.length + i) →
  (q.foldl befStep acc).getD (acc.length + i) 0 = befM (q.foldl befStep acc) o := by
 intro q
 induction q with
 | nil => intro acc i o h; simp at h
 | cons p q ih =>
  intro acc i o hi he
  cases i with
  | zero =>
   simp only [List.getElem?_cons_zero, Option.some.injEq] at hi
   subst hi
   obtain ⟨ext, h1, h2⟩ := bef_ext q (befStep acc p)
   rw [List.foldl_cons, h1]
   have h3 : (befStep acc p ++ ext).getD (acc.length + 0) 0 = befM acc p := by
    simp [befStep, List.getD_eq_getElem?_getD]
   rw [h3]
   refine befM_congr fun e hm hb => ?_
   have := he e hm hb
   simp only [befStep, List.append_assoc, List.getD_eq_getElem?_getD]
   rw [List.getElem?_append_left (by omega)]
  | succ i =>
   simp only [List.getElem?_cons_succ] at hi
   have hlen : (befStep acc p).length = acc.length + 1 := by simp [befStep]
   have := ih (befStep acc p) i o hi (fun e hm hb => by rw [hlen]; have := he e hm hb; omega)
   rw [List.foldl_cons]
   rw [hlen] at this
   rw [show acc.length + (i + 1) = acc.length + 1 + i by omega]
   exact this

/-- The listed steps go back as far as the binding edges go. -/
def closed (ops : Array Oper) (listed : Array Bool) : Prop :=
 ∀ (i : Nat) (o : Oper), ops[i]? = some o → listed.getD i false = true → ∀ e ∈ o.after.toList, Region.binds .any e = true → listed.getD e.on false = true

def backw (ops : Array Oper) : Prop := ∀ (i : Nat) (o : Oper), ops[i]? = some o → ∀ e ∈ o.after.toList, Region.binds .any e = true → e.on < i

theorem befores_listed (hb : backw ops) {listed : Array Bool} (hc : closed ops listed) : ∀ (n i : Nat) (o : Oper), i ≤ n → ops[i]? = some o → (∀ e ∈ o.after.toList, Region.binds .any e = true → listed.getD e.on false = true) →
  ∀ j, ((befores ops.toList).getD i 0).testBit j = true → listed.getD j false = true := by
 intro n
 induction n with
 | zero =>
  intro i o hi ho _ j hj
  have : i = 0 := by omega
  subst this
  have h := bef_get ops.toList [] 0 o (by simpa using ho) (fun e hm hbi => by have := hb 0 o ho e hm hbi; omega)
  rw [befores_eq] at hj
  simp only [List.length_nil, Nat.zero_add] at h
  rw [h] at hj
  obtain ⟨e, hm, hbi, hj⟩ := befM_test hj
  have := hb 0 o ho e hm hbi; omega
 | succ n ih =>
  intro i o hi ho hl j hj
  have h := bef_get ops.toList [] i o (by simpa using ho) (fun e hm hbi => by have := hb i o ho e hm hbi; simpa using this)
  rw [befores_eq] at hj
  simp only [List.length_nil, Nat.zero_add] at h
  rw [h] at hj
  obtain ⟨e, hm, hbi, hj⟩ := befM_test hj
  have hlt := hb i o ho e hm hbi
  have hle := hl e hm hbi
  rcases hj with rfl | hj
  ·exact hle
  ·have hon : e.on < ops.size := by
    have : i < ops.size := (Array.getElem?_eq_some_iff.1 ho).1
    omega
   exact ih e.on ops[e.on] (by omega) (Array.getElem?_eq_getElem hon) (hc e.on _ (Array.getElem?_eq_getElem hon) hle) j hj

theorem drawOk_backw (h : drawOk lends ops.toList = true) : backw ops := by
 simp only [drawOk, Bool.and_eq_true, List.all_eq_true] at h
 intro i o ho e hm hb
 have := h.1 (o, i) (by rw [List.mem_zipIdx_iff_getElem?]; simpa using ho) e hm
 simpa [hb] using this

theorem drawOk_free (h : drawOk lends ops.toList = true) {i j : Nat} (hji : j < i) (hi : i < ops.size) (hn : ¬ ((befores ops.toList).getD i 0).testBit j = true) : free lends ops ops.toList j i := by
 simp only [drawOk, Bool.and_eq_true, List.all_eq_true] at h
 have := h.2 i (by simpa using hi) j (by simpa using hji)
 simp only [Bool.or_eq_true, Bool.and_eq_true, Bool.not_eq_true'] at this
 rcases this with hc | ⟨h1, h2⟩
 ·exact (hn hc).elim
 ·intro oi oj hoi hoj
  have gi : ops.toList[i]? = some oi := by simpa using hoi
  have gj : ops.toList[j]? = some oj := by simpa using hoj
  simp only [List.getD_eq_getElem?_getD, List.getElem?_map, gi, gj, Option.map_some, Option.getD_some] at h1 h2
  exact ⟨meets_false h1, fun r hw hn => meets_false h2 r hn hw⟩

/-! ### Any order -/

def rem (n : Nat) (listed : Array Bool) : List Nat := (List.range n).filter fun i => !listed.getD i true

theorem range_split {n i : Nat} (h : i < n) : List.range n = List.range i ++ i :: List.range' (i + 1) (n - i - 1) := by
 have h1 : n = i + ((n - i - 1) + 1) := by omega
 rw [List.range_eq_range', List.range_eq_range']
 conv => lhs; rw [h1, ← List.range'_append_1]
 rw [List.range'_succ]
 simp

theorem getD_set_ne {listed : Array Bool} {i j : Nat} (h : j ≠ i) (b c : Bool) : (listed.setIfInBounds i b).getD j c = listed.getD j c := by
 simp only [Array.getD_eq_getD_getElem?]
 rw [Array.getElem?_setIfInBounds_ne (Ne.symm h)]
theorem getD_set_eq {listed : Array Bool} {i : Nat} (h : i < listed.size) (b c : Bool) : (listed.setIfInBounds i b).getD i c = b := by
 simp [Array.getD_eq_getD_getElem?, h]

theorem rem_split {n i : Nat} {listed : Array Bool} (hsz : listed.size = n) (hi : i < n) (hl : listed.getD i true = false) :
  ∃ pre post, rem n listed = pre ++ i :: post ∧ rem n (listed.setIfInBounds i true) = pre ++ post ∧ ∀ j ∈ pre, j < i ∧ listed.getD j true = false := by
 refine ⟨(List.range i).filter fun i => !listed.getD i true, (List.range' (i + 1) (n - i - 1)).filter fun i => !listed.getD i true, ?_, ?_, fun j hj => ?_⟩
 ·rw [rem, range_split hi, List.filter_append, List.filter_cons]; simp [hl]
 ·rw [rem, range_split hi, List.filter_append, List.filter_cons, getD_set_eq (by omega)]
  simp only [Bool.not_true, Bool.false_eq_true, if_false]
  congr 1
  ·refine List.filter_congr fun j hj => ?_
   rw [getD_set_ne (by simp at hj; omega)]
  ·refine List.filter_congr fun j hj => ?_
   rw [getD_set_ne (by simp [List.mem_range'] at hj; omega)]
 ·simp only [List.mem_filter, List.mem_range, Bool.not_eq_true'] at hj
  exact hj

theorem getD_any {listed : Array Bool} {i : Nat} (h : i < listed.size) (b c : Bool) : listed.getD i b = listed.getD i c := by
 simp [Array.getD_eq_getD_getElem?, h]

theorem mem_ready {listed : Array Bool} {i : Nat} : i ∈ Region.ready .any ops listed ↔ ∃ o, ops[i]? = some o ∧ listed.getD i true = false ∧ ∀ e ∈ o.after.toList, Region.binds .any e = true → listed.getD e.on false = true := by
 simp only [Region.ready, List.mem_filter, List.mem_range, Bool.and_eq_true, Bool.not_eq_true']
 constructor
 ·rintro ⟨h1, h2, h3⟩
  refine ⟨ops[i], Array.getElem?_eq_getElem h1, h2, fun e he hb => ?_⟩
  rw [Array.getElem?_eq_getElem h1] at h3
  simp only [Option.map_some, Option.getD_some, Array.all_eq_true_iff_forall_mem, Bool.or_eq_true, Bool.not_eq_true'] at h3
  rcases h3 e (by simpa using he) with h | h
  ·rw [hb] at h; cases h
  ·exact h
 ·rintro ⟨o, ho, h2, h3⟩
  refine ⟨(Array.getElem?_eq_some_iff.1 ho).1, h2, ?_⟩
  rw [ho]
  simp only [Option.map_some, Option.getD_some, Array.all_eq_true_iff_forall_mem, Bool.or_eq_true, Bool.not_eq_true']
  intro e he
  cases hb : Region.binds .any e with
  | false => exact .inl rfl
  | true => exact .inr (h3 e (by simpa using he) hb)

/-- While something is left, something is ready. -/
theorem ready_nil (hb : backw ops) {listed : Array Bool} (hsz : listed.size = ops.size) (h : Region.ready .any ops listed = []) : rem ops.size listed = [] := by
 have key : ∀ (n i : Nat), i ≤ n → i < ops.size → listed.getD i false = true := by
  intro n
  induction n with
  | zero =>
   intro i hi hlt
   have : i = 0 := by omega
   subst this
   rw [getD_any (by omega) false true]
   cases hl : listed.getD 0 true with
   | true => rfl
   | false =>
    have : 0 ∈ Region.ready .any ops listed := mem_ready.2 ⟨ops[0], Array.getElem?_eq_getElem hlt, hl, fun e he hbi => by have := hb 0 _ (Array.getElem?_eq_getElem hlt) e he hbi; omega⟩
    rw [h] at this; cases this
  | succ n ih =>
   intro i hi hlt
   rw [getD_any (by omega) false true]
   cases hl : listed.getD i true with
   | true => rfl
   | false =>
    have : i ∈ Region.ready .any ops listed := mem_ready.2 ⟨ops[i], Array.getElem?_eq_getElem hlt, hl, fun e he hbi => by
     have := hb i _ (Array.getElem?_eq_getElem hlt) e he hbi
     exact ih e.on (by omega) (by omega)⟩
    rw [h] at this; cases this
 rw [rem, List.filter_eq_nil_iff]
 intro i hi
 have := key i i (Nat.le_refl _) (by simpa using hi)
 rw [getD_any (by simp at hi; omega) true false, this]; simp

theorem draw_any {P : Program} {N : Nat} {gh : Nat → Value} (hT : TyOk P E.T) (hC : CallsOk P E) (hops : ∀ (j : Nat) (o : Oper), ops[j]? = some o → opOk N o) (hok : drawOk E.lends ops.toList = true) :
  ∀ (fuel : Nat) (listed : Array Bool) {s s' : St} {a : Act} {w : World} {S : Nat → Prop} {Fs : Nat → Nat → Prop} {Q : Exit → Act → World → Prop},
  listed.size = ops.size → closed ops listed → (rem ops.size listed).length ≤ fuel → Fr E.T N gh s a w S Fs → runI E ops ops.toList s (rem ops.size listed) = some s' →
  (∀ a' w', Post E.T gh N s' w S Fs a' w' → Q .normal a' w') → wpAny P .any ops Q fuel listed a w := by
 have hb := drawOk_backw hok
 have hdone : ∀ {listed : Array Bool} {s s' : St} {a : Act} {w : World} {S : Nat → Prop} {Fs : Nat → Nat → Prop} {Q : Exit → Act → World → Prop}, rem ops.size listed = [] → Fr E.T N gh s a w S Fs → runI E ops ops.toList s (rem ops.size listed) = some s' →
   (∀ a' w', Post E.T gh N s' w S Fs a' w' → Q .normal a' w') → Q .normal a w := by
  intro listed s s' a w S Fs Q hr hf hrun hQ
  rw [hr] at hrun
  simp only [runI, Option.some.injEq] at hrun
  subst hrun
  exact hQ a w ⟨S, Fs, hf.rel, Step.refl _ _ _, hf.defs, hf.size⟩
 intro fuel
 induction fuel with
 | zero =>
  intro listed s s' a w S Fs Q hsz hc hlen hf hrun hQ
  have hr : rem ops.size listed = [] := List.eq_nil_of_length_eq_zero (by omega)
  refine ⟨?_, hdone hr hf hrun hQ⟩
  rw [List.eq_nil_iff_forall_not_mem]
  intro i hi
  obtain ⟨o, ho, hl, _⟩ := mem_ready.1 hi
  have : i ∈ rem ops.size listed := by
   simp only [rem, List.mem_filter, List.mem_range, hl]
   exact ⟨(Array.getElem?_eq_some_iff.1 ho).1, rfl⟩
  rw [hr] at this; cases this
 | succ fuel ih =>
  intro listed s s' a w S Fs Q hsz hc hlen hf hrun hQ
  refine ⟨fun hr => hdone (ready_nil hb hsz hr) hf hrun hQ, fun i hi => ?_⟩
  obtain ⟨o, ho, hl, he⟩ := mem_ready.1 hi
  have hlt : i < ops.size := (Array.getElem?_eq_some_iff.1 ho).1
  obtain ⟨pre, post, e1, e2, hpre⟩ := rem_split hsz hlt hl
  rw [e1] at hrun hlen
  obtain ⟨t, ht, hrun'⟩ := runI_front rfl pre (fun j hj => by
   obtain ⟨hji, hjl⟩ := hpre j hj
   refine drawOk_free hok hji hlt (fun hm => ?_)
   have := befores_listed hb hc i i o (Nat.le_refl _) ho he j hm
   rw [getD_any (by omega) false true, hjl] at this; cases this) hrun
  have hst : stepD E ops (pmAt E.lends ops.toList o) s (tagC E.lends ops.toList o) = some t := by
   simp only [stI, ho, stepG] at ht
   split at ht
   ·exact ht
   ·cases ht
  refine tagC_sound hT hC hf hops ho hst (fun a' w' hp => ?_)
  obtain ⟨S', Fs', hf', hst'⟩ := hp.fr hf
  refine ih _ (by simp [hsz]) ?_ (by rw [e2]; simp at hlen ⊢; omega) hf' (by rw [e2]; exact hrun') (fun a2 w2 hp2 => hQ a2 w2 (hp2.back hst'))
  intro k ok hk hkl e hm hbi
  by_cases hki : k = i
  ·subst hki
   rw [ho] at hk
   simp only [Option.some.injEq] at hk
   subst hk
   have hon := hb k o ho e hm hbi
   rw [getD_set_ne (by omega)]
   exact he e hm hbi
  ·rw [getD_set_ne hki] at hkl
   have := hc k ok hk hkl e hm hbi
   by_cases hei : e.on = i
   ·rw [hei, getD_set_eq (by omega)]
   ·rw [getD_set_ne hei]; exact this

theorem Fr.drawn {T : Tys} {N : Nat} {gh : Nat → Value} {s : St} {a : Act} {w : World} {S : Nat → Prop} {Fs : Nat → Nat → Prop} (h : Fr T N gh s a w S Fs) (n : Nat) : Fr T N gh s a { w with drawn := n } S Fs :=
 ⟨h.rel.grow (fun _ _ => rfl) (Nat.le_refl _), h.defs, h.size, h.small, h.inv⟩

theorem drawsOk {P : Program} (hm : P.follows .mixedOrders = true) (hT : TyOk P E.T) (hC : CallsOk P E) : DrawsOk P E := by
 intro s s' gh a w S Fs N ops Q hf hk hok hd hQ t
 have hops : ∀ (j : Nat) (o : Oper), ops[j]? = some o → opOk N o := fun j o ho => opOk_of (List.all_eq_true.1 hk o (by simpa using Array.mem_of_getElem? ho))
 simp only [Region.schedule, hm, Bool.true_or, if_true]
 refine wpAny_sound ops.size _ _ a _ ?_
 have hrem : rem ops.size (Array.replicate ops.size false) = List.range ops.size := by
  rw [rem, List.filter_eq_self]
  intro i hi
  simp at hi
  simp [Array.getD_eq_getD_getElem?, hi]
 refine draw_any (s' := s') hT hC hops hok ops.size _ (by simp) ?_ (by rw [hrem]; simp) (hf.drawn _) ?_ (fun a' w' hp => hQ a' w' ?_)
 ·intro i o ho hl
  have : i < ops.size := (Array.getElem?_eq_some_iff.1 ho).1
  simp [Array.getD_eq_getD_getElem?, this] at hl
 ·rw [drawD_runI ops.toList 0 s rfl] at hd
  rw [hrem, List.range_eq_range']
  simpa using hd
 ·obtain ⟨S', Fs', h1, h2, h3, h4⟩ := hp
  exact ⟨S', Fs', h1, ⟨h2.os, h2.tape, h2.output, h2.size, h2.heap, h2.sS, h2.sS', h2.sF⟩, h3, h4⟩
end
end Dv
/- Value semantics for Go code: arguments of calls. Conditions: none beyond those in each lemma. -/
namespace Dv
open Go

/-- The views that a callee gets of what was lent to it. -/
def VG (gh : Nat → Value) : Place → Nat → Nat → Value → Prop := fun L n m v => ∃ j, L = [G + j] ∧ n = 0 ∧ m = 0 ∧ v = gh j

/-- Where an argument's object lies. -/
def Src (s : St) (w : World) (rv : Nat → Value) (L : Place) (c : D) (v : Value) : Prop :=
 c.isObj = true ∧ ((L = [] ∧ (∃ e, c = .own e []) ∧ ∃ A, v = .slice A 0 0) ∨ ∃ t p, L = t :: p ∧ getp (s.v t) p = some c ∧ foll w rv L = some v)

section
variable {T : Tys} {s s' : St} {rv : Nat → Value} {w w' : World} {S S' : Nat → Prop} {Fs : Nat → Nat → Prop} {pm : Pm}
variable {V : Place → Nat → Nat → Value → Prop} {Vp : Place → Nat → Nat → Nat → Value → Prop}

mutual
theorem frz_V0 : ∀ (d : D) {v : Value} {F : Nat → Prop}, W T S w V Vp d v F → (frz d).isSome = true → W T S w V0 Vp0 d v F
 | .own e xs, _, _, h, ho => by
  cases h with
  | own0 h => exact .own0 h
  | own us Fi hb hz hn hc hm hx hF hFb hd hS hw =>
   refine .own us Fi hb hz hn hc hm hx hF hFb hd hS (fun i x hi => frzs_V0 xs (by simpa [frz] using ho) i x hi (hw i x hi))
 | .box xs, _, _, h, ho => by
  cases h with
  | box us Fi hb hz hx hF hFb hd hS hw =>
   exact .box us Fi hb hz hx hF hFb hd hS (fun i x hi => frzs_V0 xs (by simpa [frz] using ho) i x hi (hw i x hi))
 | .agg xs, _, _, h, ho => by
  cases h with
  | agg us Fi hz hx hF hd hw => exact .agg us Fi hz hx hF hd (fun i x hi => frzs_V0 xs (by simpa [frz] using ho) i x hi (hw i x hi))
 | .tup xs, _, _, h, ho => by
  cases h with
  | tup us Fi hz hx hF hd hw => exact .tup us Fi hz hx hF hd (fun i x hi => frzs_V0 xs (by simpa [frz] using ho) i x hi (hw i x hi))
 | .vw _ _ _, _, _, _, ho => by simp [frz] at ho
 | .pe _ _ _ _, _, _, _, ho => by simp [frz] at ho
 | .vs _ _ _ _ _ _, _, _, _, ho => by simp [frz] at ho
 | .undef, _, _, _, ho => by simp [frz] at ho
 | .int k n, _, _, h, _ => by cases h with | int h => exact .int h
 | .bool b, _, _, h, _ => by cases h with | bool h => exact .bool h
 | .str x, _, _, h, _ => by cases h with | str h => exact .str h
 | .konst v, _, _, h, _ => by cases h with | konst h => exact .konst h
 | .err, _, _, h, _ => by cases h with | err h => exact .err h
 | .sl e xs, _, _, h, _ => by cases h with | sl us h hn hc hm hx hw => exact .sl us h hn hc hm hx hw
 | .clo f xs, _, _, h, _ => by cases h with | clo us h hz hx hw => exact .clo us h hz hx hw
 | .ocl _ _ _, _, _, _, ho => by simp [frz] at ho
 | .cptr xs, _, _, h, _ => by cases h with | cptr us h hx hw => exact .cptr us h hx hw
theorem frzs_V0 : ∀ (xs : List D), (frzs xs).isSome = true → ∀ (i : Nat) (x : D), xs[i]? = some x → ∀ {v : Value} {F : Nat → Prop}, W T S w V Vp x v F → W T S w V0 Vp0 x v F
 | [], _, i, x, hi, _, _, _ => by simp at hi
 | d :: ds, ho, i, x, hi, _, _, h => by
  simp only [frzs, Option.isSome_bind, Option.any_eq_true, Option.isSome_map] at ho
  obtain ⟨d', hd, hds⟩ := ho
  cases i with
  | zero =>
   simp only [List.getElem?_cons_zero, Option.some.injEq] at hi
   subst hi
   exact frz_V0 d h (by simp [hd])
  | succ i =>
   simp only [List.getElem?_cons_succ] at hi
   exact frzs_V0 ds hds i x hi h
end

/-- What owns nothing shared says so of fewer shared blocks too. -/
theorem noSl_W {d : D} {v : Value} {F : Nat → Prop} (h : W T S' w V Vp d v F) : hasSl d = false → (∀ k, F k → ¬ S k) → W T S w V Vp d v F := by
 have hsl : ∀ (xs : List D), hasSls xs = false → ∀ (i : Nat) (x : D), xs[i]? = some x → hasSl x = false := by
  intro xs
  induction xs with
  | nil => intro _ i x hi; simp at hi
  | cons d ds ih =>
   intro hx i x hi
   simp only [hasSls, Bool.or_eq_false_iff] at hx
   cases i with
   | zero => simp at hi; subst hi; exact hx.1
   | succ i => simp at hi; exact ih hx.2 i x hi
 induction h with
 | undef h => exact fun _ _ => .undef h
 | int h => exact fun _ _ => .int h
 | bool h => exact fun _ _ => .bool h
 | str h => exact fun _ _ => .str h
 | konst h => exact fun _ _ => .konst h
 | err h => exact fun _ _ => .err h
 | sl us h hn hc hm hx hw ih =>
  intro hs _
  simp only [hasSl, Bool.not_eq_false', List.isEmpty_iff] at hs
  subst hs
  exact .sl us h hn hc hm (by simp) (by simp)
 | own0 h => exact fun _ _ => .own0 h
 | own us Fi hb hz hn hc hm hx hF hFb hd hSb hw ih =>
  intro hs hk
  exact .own us Fi hb hz hn hc hm hx hF hFb hd (hk _ ((hF _).2 (.inl rfl))) (fun i x hi => ih i x hi (hsl _ (by simpa [hasSl] using hs) i x hi) (fun k hf => hk k ((hF k).2 (.inr ⟨i, (List.getElem?_eq_some_iff.1 hi).1, hf⟩))))
 | box us Fi hb hz hx hF hFb hd hSb hw ih =>
  intro hs hk
  exact .box us Fi hb hz hx hF hFb hd (hk _ ((hF _).2 (.inl rfl))) (fun i x hi => ih i x hi (hsl _ (by simpa [hasSl] using hs) i x hi) (fun k hf => hk k ((hF k).2 (.inr ⟨i, (List.getElem?_eq_some_iff.1 hi).1, hf⟩))))
 | cptr us h hx hw ih => intro hs; simp [hasSl] at hs
 | agg us Fi hz hx hF hd hw ih =>
  intro hs hk
  exact .agg us Fi hz hx hF hd (fun i x hi => ih i x hi (hsl _ (by simpa [hasSl] using hs) i x hi) (fun k hf => hk k ((hF k).2 ⟨i, (List.getElem?_eq_some_iff.1 hi).1, hf⟩)))
 | tup us Fi hz hx hF hd hw ih =>
  intro hs hk
  exact .tup us Fi hz hx hF hd (fun i x hi => ih i x hi (hsl _ (by simpa [hasSl] using hs) i x hi) (fun k hf => hk k ((hF k).2 ⟨i, (List.getElem?_eq_some_iff.1 hi).1, hf⟩)))
 | clo us h hz hx hw ih =>
  intro hs _
  simp only [hasSl, Bool.not_eq_false', List.isEmpty_iff] at hs
  subst hs
  exact .clo us h hz (by simp) (by simp)
 | ocl => intro hs; simp [hasSl] at hs
 | mp => intro hs; simp [hasSl] at hs
 | vw => intro hs; simp [hasSl] at hs
 | pe => intro hs; simp [hasSl] at hs
 | vs => intro hs; simp [hasSl] at hs

theorem foll_one (rv : Nat → Value) (t : Nat) : foll w rv [t] = some (rv t) := by simp [foll, followV]

/-- What an argument's cell comes to. -/
theorem argCell_sound {lend : Bool} {j : Nat} {L0 : Place} {d a : D} {v : Value} {F : Nat → Prop} {l : List (Place × D)} (hW : WR T s rv w S d v F)
  (hsrc : d.isObj = true → (L0 = [] ∧ (∃ e, d = .own e []) ∧ ∃ A, v = .slice A 0 0) ∨ ∃ t p, L0 = t :: p ∧ getp (s.v t) p = some d ∧ foll w rv L0 = some v)
  (ha : argCell lend pm s j L0 d = some (a, l)) :
  (l = [] ∧ ∀ S' V Vp, (∀ k, S k → S' k) → W T S' w V Vp a v (fun _ => False)) ∨
   ∃ L c, l = [(L, c)] ∧ Src s w rv L c v ∧ (lend = true → a = .vw [G + j] 0 0) ∧ (lend = false → frz c = some a) := by
 have plain : d.hasObj = false → frz d = some d → a = d → l = [] → (l = [] ∧ ∀ S' V Vp, (∀ k, S k → S' k) → W T S' w V Vp a v (fun _ => False)) := by
  intro hno hf ha hl
  refine ⟨hl, fun S' V Vp hS => ?_⟩
  subst ha
  exact (hW.freeze a hf (fun k hk => (noObj_empty hW hno k hk).elim) hS).up
 unfold argCell at ha
 split at ha
 ·rename_i L n m
  cases hl : s.look pm L n m with
  | none => simp [hl] at ha
  | some c =>
   simp only [hl] at ha
   obtain ⟨t, p, rfl, hg, hobj, hval⟩ := look_spec hl
   have hfo : foll w rv (t :: p) = some v := by
    cases hW with
    | vw h hv => exact hv.2 hval
   have hS : Src s w rv (t :: p) c v := ⟨hobj, .inr ⟨t, p, rfl, hg, hfo⟩⟩
   right
   cases lend with
   | true =>
    simp only [if_true, Option.some.injEq, Prod.mk.injEq] at ha
    obtain ⟨rfl, rfl⟩ := ha
    exact ⟨_, _, rfl, hS, (fun _ => rfl), (fun h => by cases h)⟩
   | false =>
    simp only [Bool.false_eq_true, if_false, Option.map_eq_some_iff, Prod.mk.injEq] at ha
    obtain ⟨c', hc', rfl, rfl⟩ := ha
    exact ⟨_, _, rfl, hS, (fun h => by cases h), fun _ => hc'⟩
 ·rename_i e xs
  have hS : Src s w rv L0 (.own e xs) v := ⟨rfl, hsrc rfl⟩
  right
  cases lend with
  | true =>
   simp only [if_true, Option.some.injEq, Prod.mk.injEq] at ha
   obtain ⟨rfl, rfl⟩ := ha
   exact ⟨_, _, rfl, hS, (fun _ => rfl), (fun h => by cases h)⟩
  | false =>
   simp only [Bool.false_eq_true, if_false, Option.map_eq_some_iff, Prod.mk.injEq] at ha
   obtain ⟨c', hc', rfl, rfl⟩ := ha
   exact ⟨_, _, rfl, hS, (fun h => by cases h), fun _ => hc'⟩
 ·rename_i xs
  have hS : Src s w rv L0 (.box xs) v := ⟨rfl, hsrc rfl⟩
  right
  cases lend with
  | true =>
   simp only [if_true, Option.some.injEq, Prod.mk.injEq] at ha
   obtain ⟨rfl, rfl⟩ := ha
   exact ⟨_, _, rfl, hS, (fun _ => rfl), (fun h => by cases h)⟩
  | false =>
   simp only [Bool.false_eq_true, if_false, Option.map_eq_some_iff, Prod.mk.injEq] at ha
   obtain ⟨c', hc', rfl, rfl⟩ := ha
   exact ⟨_, _, rfl, hS, (fun h => by cases h), fun _ => hc'⟩
 ·cases ha
 ·cases ha
 ·cases ha
 ·cases ha
 ·cases ha
 ·cases ha
 ·cases ha
 ·rename_i h1 h2 h3 h4 h5 h6 h7 h8 h9 h10
  simp only [Option.some.injEq, Prod.mk.injEq] at ha
  left
  refine plain ?_ ?_ ha.1.symm ha.2.symm
  ·cases d <;> first | rfl | (exact (h2 _ _ rfl).elim) | (exact (h3 _ rfl).elim) | (exact (h5 _ rfl).elim) | (exact (h6 _ rfl).elim) | (exact (h10 _ _ _ rfl).elim)
  ·cases d <;> first | rfl | (exact (h1 _ _ _ rfl).elim) | (exact (h2 _ _ rfl).elim) | (exact (h3 _ rfl).elim) | (exact (h4 rfl).elim) | (exact (h5 _ rfl).elim) | (exact (h6 _ rfl).elim) | (exact (h7 _ _ _ _ rfl).elim) | (exact (h8 _ _ _ _ _ _ rfl).elim) | (exact (h9 _ _ _ rfl).elim) | (exact (h10 _ _ _ rfl).elim)

/-- What is known of the objects of some arguments. -/
def Objs (s : St) (w : World) (rv : Nat → Value) (ls : List (Place × D)) (lv : List Value) : Prop :=
 lv.length = ls.length ∧ ∀ (i : Nat) (q : Place × D) (v : Value), ls[i]? = some q → lv[i]? = some v → Src s w rv q.1 q.2 v

theorem Objs.nil : Objs s w rv [] [] := ⟨rfl, by simp⟩
theorem Objs.append {l1 l2 : List (Place × D)} {v1 v2 : List Value} (h1 : Objs s w rv l1 v1) (h2 : Objs s w rv l2 v2) : Objs s w rv (l1 ++ l2) (v1 ++ v2) := by
 refine ⟨by simp [h1.1, h2.1], fun i q v hq hv => ?_⟩
 rcases Nat.lt_or_ge i l1.length with hi | hi
 ·rw [List.getElem?_append_left hi] at hq
  rw [List.getElem?_append_left (by rw [h1.1]; exact hi)] at hv
  exact h1.2 i q v hq hv
 ·rw [List.getElem?_append_right hi] at hq
  rw [List.getElem?_append_right (by rw [h1.1]; exact hi), h1.1] at hv
  exact h2.2 _ q v hq hv

/-- How arguments stand against values, once it is known how what they lead to is given. -/
def Gives (T : Tys) (s : St) (w : World) (rv : Nat → Value) (S : Nat → Prop) (lend : Bool) (j : Nat) (ls : List (Place × D)) (lv : List Value) (K : (gh : Nat → Value) → (S' : Nat → Prop) → Prop) : Prop :=
 ∀ (gh : Nat → Value) (S' : Nat → Prop), (∀ k, S k → S' k) → (lend = true → ∀ (i : Nat) (v : Value), lv[i]? = some v → gh (j + i) = v) →
  (lend = false → ∀ (i : Nat) (q : Place × D) (v : Value) (c' : D), ls[i]? = some q → lv[i]? = some v → Src s w rv q.1 q.2 v → frz q.2 = some c' → W T S' w V0 Vp0 c' v (fun _ => False)) → K gh S'

theorem Gives.left {lend : Bool} {j : Nat} {l1 l2 : List (Place × D)} {v1 v2 : List Value} {K : (gh : Nat → Value) → (S' : Nat → Prop) → Prop} (h1 : Objs s w rv l1 v1) (h : Gives T s w rv S lend j l1 v1 K) : Gives T s w rv S lend j (l1 ++ l2) (v1 ++ v2) K := by
 intro gh S' hS hg ha
 refine h gh S' hS (fun hl i v hv => ?_) (fun hl i q v c' hq hv hs hf => ?_)
 ·exact hg hl i v (by rw [List.getElem?_append_left (List.getElem?_eq_some_iff.1 hv).1]; exact hv)
 ·exact ha hl i q v c' (by rw [List.getElem?_append_left (List.getElem?_eq_some_iff.1 hq).1]; exact hq) (by rw [List.getElem?_append_left (List.getElem?_eq_some_iff.1 hv).1]; exact hv) hs hf

theorem Gives.right {lend : Bool} {j : Nat} {l1 l2 : List (Place × D)} {v1 v2 : List Value} {K : (gh : Nat → Value) → (S' : Nat → Prop) → Prop} (h1 : Objs s w rv l1 v1) (h : Gives T s w rv S lend (j + l1.length) l2 v2 K) : Gives T s w rv S lend j (l1 ++ l2) (v1 ++ v2) K := by
 intro gh S' hS hg ha
 refine h gh S' hS (fun hl i v hv => ?_) (fun hl i q v c' hq hv hs hf => ?_)
 ·rw [Nat.add_assoc]
  exact hg hl (l1.length + i) v (by rw [← h1.1, List.getElem?_append_right (by omega)]; simpa using hv)
 ·exact ha hl (l1.length + i) q v c' (by rw [List.getElem?_append_right (by omega)]; simpa using hq) (by rw [← h1.1, List.getElem?_append_right (by omega)]; simpa using hv) hs hf

theorem argCell_gives {lend : Bool} {j : Nat} {L0 : Place} {d a : D} {v : Value} {F : Nat → Prop} {l : List (Place × D)} (hW : WR T s rv w S d v F)
  (hsrc : d.isObj = true → (L0 = [] ∧ (∃ e, d = .own e []) ∧ ∃ A, v = .slice A 0 0) ∨ ∃ t p, L0 = t :: p ∧ getp (s.v t) p = some d ∧ foll w rv L0 = some v)
  (ha : argCell lend pm s j L0 d = some (a, l)) : ∃ lv, Objs s w rv l lv ∧ Gives T s w rv S lend j l lv (fun gh S' => W T S' w (VG gh) Vp0 a v (fun _ => False)) := by
 rcases argCell_sound hW hsrc ha with ⟨rfl, h⟩ | ⟨L, c, rfl, hS, h1, h2⟩
 ·exact ⟨[], Objs.nil, fun gh S' hS _ _ => h S' _ _ hS⟩
 ·refine ⟨[v], ⟨rfl, fun i q u hq hu => ?_⟩, fun gh S' hS' hg hA => ?_⟩
  ·cases i with
   | zero => simp at hq hu; subst hq; subst hu; exact hS
   | succ i => simp at hq
  ·cases lend with
   | true =>
    rw [h1 rfl]
    exact .vw (fun _ h => h) ⟨j, rfl, rfl, rfl, (hg rfl 0 v rfl).symm⟩
   | false => exact (hA rfl 0 (L, c) v a rfl rfl hS (h2 rfl)).up

theorem argCells_gives {lend : Bool} {t0 : Nat} {p0 : Place} (L0 : Place) (hL0 : L0 = t0 :: p0) : ∀ (ds : List D) (j i : Nat) {as : List D} {ls : List (Place × D)} (us : Nat → Value) (Fi : Nat → Nat → Prop),
  (∀ k x, ds[k]? = some x → WR T s rv w S x (us k) (Fi k) ∧ getp (s.v t0) (p0 ++ [i + k]) = some x ∧ foll w rv (t0 :: (p0 ++ [i + k])) = some (us k)) →
  argCells lend pm s L0 j i ds = some (as, ls) → ∃ lv, Objs s w rv ls lv ∧ as.length = ds.length ∧
   Gives T s w rv S lend j ls lv (fun gh S' => ∀ k x, as[k]? = some x → W T S' w (VG gh) Vp0 x (us k) (fun _ => False)) := by
 intro ds
 induction ds with
 | nil =>
  intro j i as ls us Fi _ ha
  simp only [argCells, Option.some.injEq, Prod.mk.injEq] at ha
  obtain ⟨rfl, rfl⟩ := ha
  exact ⟨[], Objs.nil, rfl, fun gh S' _ _ _ k x hk => by simp at hk⟩
 | cons d ds ih =>
  intro j i as ls us Fi hd ha
  simp only [argCells] at ha
  split at ha
  ·cases ha
  ·rename_i a l hc
   split at ha
   ·cases ha
   ·rename_i as' ls' hcs
    simp only [Option.some.injEq, Prod.mk.injEq] at ha
    obtain ⟨rfl, rfl⟩ := ha
    obtain ⟨h1, h2, h3⟩ := hd 0 d rfl
    obtain ⟨lv1, o1, g1⟩ := argCell_gives h1 (fun _ => .inr ⟨t0, p0 ++ [i], by simp [hL0], h2, by rw [hL0]; exact h3⟩) hc
    obtain ⟨lv2, o2, hlen, g2⟩ := ih (j + l.length) (i + 1) (fun k => us (k + 1)) (fun k => Fi (k + 1)) (fun k x hk => by
     have := hd (k + 1) x (by simpa using hk)
     rw [show i + 1 + k = i + (k + 1) by omega]; exact this) hcs
    refine ⟨lv1 ++ lv2, o1.append o2, by simp [hlen], fun gh S' hS hg hA k x hk => ?_⟩
    cases k with
    | zero =>
     simp only [List.getElem?_cons_zero, Option.some.injEq] at hk
     subst hk
     exact Gives.left o1 g1 gh S' hS hg hA
    | succ k =>
     simp only [List.getElem?_cons_succ] at hk
     exact Gives.right o1 g2 gh S' hS hg hA k x hk

theorem argTop_gives {lend : Bool} {j : Nat} {L0 : Place} {d a : D} {v : Value} {F : Nat → Prop} {l : List (Place × D)} (hW : WR T s rv w S d v F)
  (hsrc : (∃ t, L0 = [t] ∧ s.v t = d ∧ rv t = v) ∨ (L0 = [] ∧ (∀ xs, d ≠ .agg xs) ∧ (d.isObj = true → (∃ e, d = .own e []) ∧ ∃ A, v = .slice A 0 0)))
  (ha : argTop lend pm s j L0 d = some (a, l)) : ∃ lv, Objs s w rv l lv ∧ Gives T s w rv S lend j l lv (fun gh S' => W T S' w (VG gh) Vp0 a v (fun _ => False)) := by
 unfold argTop at ha
 split at ha
 ·rename_i xs
  simp only [Option.map_eq_some_iff, Prod.mk.injEq] at ha
  obtain ⟨⟨as, ls⟩, hc, rfl, rfl⟩ := ha
  rcases hsrc with ⟨t, rfl, hst, hrv⟩ | ⟨_, hn, _⟩
  ·cases hW with
   | agg us Fi hz hx hF hd hw =>
    obtain ⟨lv, o, hlen, g⟩ := argCells_gives (p0 := []) [t] rfl xs j 0 us Fi (fun k x hk => ⟨hw k x hk, by simp [getp, hst, hk], by simp [foll, hrv, followV, hx k x hk]⟩) hc
    refine ⟨lv, o, fun gh S' hS hg hA => ?_⟩
    have := g gh S' hS hg hA
    refine .agg us (fun _ _ => False) (by rw [hz, hlen]) (fun i x hi => ?_) (fun k => ⟨fun h => h.elim, fun ⟨_, _, h⟩ => h⟩) (fun _ _ _ _ _ _ h => h.elim) this
    have hi' : i < xs.length := by rw [← hlen]; exact (List.getElem?_eq_some_iff.1 hi).1
    exact hx i _ (List.getElem?_eq_getElem hi')
  ·exact (hn xs rfl).elim
 ·refine argCell_gives hW (fun ho => ?_) ha
  rcases hsrc with ⟨t, rfl, hst, hrv⟩ | ⟨h1, _, h2⟩
  ·exact .inr ⟨t, [], rfl, by simp [getp, hst], by simp [foll, followV, hrv]⟩
  ·exact .inl ⟨h1, h2 ho⟩

theorem vsArg_gives {N : Nat} {gh0 : Nat → Value} {a0 : Act} {lend : Bool} (h : Rel T s (rvOf a0 gh0) w S Fs) {j : Nat} {e : TypeId} {L : Place} {n m lo len : Nat} {a : D} {v : Value} {F : Nat → Prop} {l : List (Place × D)}
  (hW : WR T s (rvOf a0 gh0) w S (.vs e L n m lo len) v F) (hl : lend = false) (ha : vsArg T pm s e L n m lo len = some (a, l)) :
  ∃ lv, Objs s w (rvOf a0 gh0) l lv ∧ Gives T s w (rvOf a0 gh0) S lend j l lv (fun gh S' => W T S' w (VG gh) Vp0 a v (fun _ => False)) := by
 subst hl
 unfold vsArg at ha
 split at ha
 ·rename_i e' xs hlk
  split at ha
  ·rename_i hc
   obtain ⟨rfl, hkn, hle⟩ := hc
   simp only [Option.map_eq_some_iff, Prod.mk.injEq] at ha
   obtain ⟨ys, hys, rfl, rfl⟩ := ha
   obtain ⟨t, p, rfl, hg, hobj, hval⟩ := look_spec hlk
   obtain ⟨v0, F0, hfo, hW0, _⟩ := h.focus hg
   have hS : Src s w (rvOf a0 gh0) (t :: p) (.own e' xs) v0 := ⟨rfl, .inr ⟨t, p, rfl, hg, hfo⟩⟩
   have hfz : frz (.own e' xs) = some (.sl e' ys) := by simp [frz, hys]
   obtain ⟨hyl, _⟩ := frzs_get hys
   refine ⟨[v0], ⟨rfl, fun i q u hq hu => ?_⟩, fun gh S' hS' _ hA => ?_⟩
   ·cases i with
    | zero => simp at hq hu; subst hq; subst hu; exact hS
    | succ i => simp at hq
   ·have hWf := hA rfl 0 (t :: p, .own e' xs) v0 (.sl e' ys) rfl rfl hS hfz
    cases hW with
    | vs hE hlq hmq hv =>
     rename_i A q
     cases hWf with
     | sl us hE' hn' hc' hm' hx' hw' =>
      rename_i A0 n0 c0
      have hget : ∀ (i : Nat) (x : D), ((ys.drop (lo * T.size e')).take (len * T.size e'))[i]? = some x → ys[lo * T.size e' + i]? = some x ∧ 0 < len := fun i x hi => by
       have hlt := (List.getElem?_eq_some_iff.1 hi).1
       simp only [List.length_take, List.length_drop] at hlt
       rw [List.getElem?_take_of_lt (by omega), List.getElem?_drop] at hi
       refine ⟨hi, ?_⟩
       rcases Nat.eq_zero_or_pos len with h0 | h0
       ·subst h0; simp only [Nat.zero_mul] at hlt; omega
       ·exact h0
      refine .sl (fun i => us (lo * T.size e' + i)) (fun _ h => h) ?_ hlq hmq (fun i x hi => ?_) (fun i x hi => ?_)
      ·simp only [List.length_drop, List.length_take]
       rw [hyl]; rw [Nat.add_mul] at hle; omega
      ·obtain ⟨hi, h0⟩ := hget i x hi
       obtain ⟨ad, hA1, _, hvp⟩ := hv h0
       obtain ⟨hv', ad', hfo', had', hptr⟩ := hvp hval
       rw [hfo] at hfo'
       injection hfo' with hfo'
       subst hfo'
       obtain ⟨ad2, h3, h4, h5⟩ := hx' _ x hi
       simp only [addrOf] at had'
       rw [had'] at h3
       injection h3 with h3
       subst h3
       injection hptr with hptr
       injection hptr with hptr
       subst hptr
       exact ⟨_, hA1, by rw [add_block]; exact h4, by rw [add_add]; exact h5⟩
      ·obtain ⟨hi, _⟩ := hget i x hi
       exact hw' _ x hi
  ·cases ha
 ·cases ha

/-- What a closure captured, as it goes to a call of it. -/
theorem oclArg_gives : ∀ (caps : List D) (j : Nat) {cs : List D} {lc : List (Place × D)} (us : Nat → Value),
  (∀ (k : Nat) (x : D), caps[k]? = some x → WR T s rv w S x (us k) (fun _ => False)) → oclArg pm s j caps = some (cs, lc) →
  ∃ lv : List Value, Objs s w rv lc lv ∧ cs.length = caps.length ∧ (∀ k : Nat, cs[k]? = some D.undef → caps[k]? = some D.undef) ∧
   Gives T s w rv S true j lc lv (fun gh S' => ∀ (k : Nat) (x : D), cs[k]? = some x → W T S' w (VG gh) Vp0 x (us k) (fun _ => False)) := by
 intro caps
 induction caps with
 | nil =>
  intro j cs lc us _ ha
  simp only [oclArg, Option.some.injEq, Prod.mk.injEq] at ha
  obtain ⟨rfl, rfl⟩ := ha
  exact ⟨[], Objs.nil, rfl, by simp, fun gh S' _ _ _ k x hk => by simp at hk⟩
 | cons d caps ih =>
  intro j cs lc us hd ha
  have h0 := hd 0 d rfl
  have hd' : ∀ k x, caps[k]? = some x → WR T s rv w S x (us (k + 1)) (fun _ => False) := fun k x hk => hd (k + 1) x (by simpa using hk)
  have join : ∀ (a : D) (l1 : List (Place × D)) (cs' : List D) (l2 : List (Place × D)), argCell true pm s j [] d = some (a, l1) → d.isObj = false → (a = D.undef → d = D.undef) →
    oclArg pm s (j + l1.length) caps = some (cs', l2) → cs = a :: cs' → lc = l1 ++ l2 →
    ∃ lv : List Value, Objs s w rv lc lv ∧ cs.length = (d :: caps).length ∧ (∀ k : Nat, cs[k]? = some D.undef → (d :: caps)[k]? = some D.undef) ∧
     Gives T s w rv S true j lc lv (fun gh S' => ∀ (k : Nat) (x : D), cs[k]? = some x → W T S' w (VG gh) Vp0 x (us k) (fun _ => False)) := by
   intro a l1 cs' l2 hc ho hu hr e1 e2
   subst e1 e2
   obtain ⟨lv1, o1, g1⟩ := argCell_gives h0 (fun h => by rw [ho] at h; cases h) hc
   obtain ⟨lv2, o2, hlen, hun, g2⟩ := ih (j + l1.length) (fun k => us (k + 1)) hd' hr
   refine ⟨lv1 ++ lv2, o1.append o2, by simp [hlen], fun k hk => ?_, fun gh S' hS hg hA k x hk => ?_⟩
   ·cases k with
    | zero => simp only [List.getElem?_cons_zero, Option.some.injEq] at hk ⊢; exact hu hk
    | succ k => simp only [List.getElem?_cons_succ] at hk ⊢; exact hun k hk
   ·cases k with
    | zero =>
     simp only [List.getElem?_cons_zero, Option.some.injEq] at hk
     subst hk
     exact Gives.left o1 g1 gh S' hS hg hA
    | succ k =>
     simp only [List.getElem?_cons_succ] at hk
     exact Gives.right o1 g2 gh S' hS hg hA k x hk
  unfold oclArg at ha
  split at ha
  ·rename_i L n m
   split at ha
   ·rename_i c hl
    obtain ⟨⟨cs', l2⟩, hr, he⟩ := Option.map_eq_some_iff.1 ha
    simp only [Prod.mk.injEq] at he
    exact join (.vw [G + j] 0 0) [(L, c)] cs' l2 (by simp [argCell, hl]) rfl (fun h => by cases h) hr he.1.symm he.2.symm
   ·cases ha
  ·rename_i ys
   obtain ⟨⟨cs', l2⟩, hr, he⟩ := Option.map_eq_some_iff.1 ha
   simp only [Prod.mk.injEq] at he
   exact join (.cptr ys) [] cs' l2 (by simp [argCell]) rfl (fun h => by cases h) hr he.1.symm he.2.symm
  ·obtain ⟨⟨cs', l2⟩, hr, he⟩ := Option.map_eq_some_iff.1 ha
   simp only [Prod.mk.injEq] at he
   obtain ⟨rfl, rfl⟩ := he
   obtain ⟨lv2, o2, hlen, hun, g2⟩ := ih j (fun k => us (k + 1)) hd' hr
   refine ⟨lv2, o2, by simp [hlen], fun k hk => ?_, fun gh S' hS hg hA k x hk => ?_⟩
   ·cases k with
    | zero => rfl
    | succ k => simp only [List.getElem?_cons_succ] at hk ⊢; exact hun k hk
   ·cases k with
    | zero =>
     simp only [List.getElem?_cons_zero, Option.some.injEq] at hk
     subst hk
     exact .undef (fun _ h => h)
    | succ k =>
     simp only [List.getElem?_cons_succ] at hk
     exact g2 gh S' hS hg hA k x hk
  ·cases ha

/-- What a closure captured that it sees, frozen for a call. -/
theorem cloA_gives : ∀ (caps : List D) (j : Nat) {cs : List D} {lc : List (Place × D)} (us : Nat → Value),
  (∀ (k : Nat) (x : D), caps[k]? = some x → WR T s rv w S x (us k) (fun _ => False)) → cloA pm s caps = some (cs, lc) →
  ∃ lv : List Value, Objs s w rv lc lv ∧ cs.length = caps.length ∧
   Gives T s w rv S false j lc lv (fun _ S' => ∀ (k : Nat) (x : D), cs[k]? = some x → W T S' w V0 Vp0 x (us k) (fun _ => False)) := by
 intro caps
 induction caps with
 | nil =>
  intro j cs lc us _ ha
  simp only [cloA, Option.some.injEq, Prod.mk.injEq] at ha
  obtain ⟨rfl, rfl⟩ := ha
  exact ⟨[], Objs.nil, rfl, fun gh S' _ _ _ k x hk => by simp at hk⟩
 | cons d caps ih =>
  intro j cs lc us hd ha
  have h0 := hd 0 d rfl
  have hd' : ∀ k x, caps[k]? = some x → WR T s rv w S x (us (k + 1)) (fun _ => False) := fun k x hk => hd (k + 1) x (by simpa using hk)
  have join : ∀ (a : D) (l1 : List (Place × D)) (cs' : List D) (l2 : List (Place × D)), argCell false pm s j [] d = some (a, l1) → d.isObj = false →
    cloA pm s caps = some (cs', l2) → cs = a :: cs' → lc = l1 ++ l2 →
    ∃ lv : List Value, Objs s w rv lc lv ∧ cs.length = (d :: caps).length ∧
     Gives T s w rv S false j lc lv (fun _ S' => ∀ (k : Nat) (x : D), cs[k]? = some x → W T S' w V0 Vp0 x (us k) (fun _ => False)) := by
   intro a l1 cs' l2 hc ho hr e1 e2
   subst e1 e2
   have first : ∃ lv1 : List Value, Objs s w rv l1 lv1 ∧ Gives T s w rv S false j l1 lv1 (fun _ S' => W T S' w V0 Vp0 a (us 0) (fun _ => False)) := by
    rcases argCell_sound h0 (fun h => by rw [ho] at h; cases h) hc with ⟨rfl, h⟩ | ⟨L, c, rfl, hS, h1, h2⟩
    ·exact ⟨[], Objs.nil, fun gh S' hS _ _ => h S' _ _ hS⟩
    ·exact ⟨[us 0], ⟨rfl, fun i q u hq hu => by
      cases i with
      | zero => simp at hq hu; subst hq; subst hu; exact hS
      | succ i => simp at hq⟩, fun gh S' _ _ hA => hA rfl 0 (L, c) (us 0) a rfl rfl hS (h2 rfl)⟩
   obtain ⟨lv1, o1, g1⟩ := first
   obtain ⟨lv2, o2, hlen, g2⟩ := ih (j + l1.length) (fun k => us (k + 1)) hd' hr
   refine ⟨lv1 ++ lv2, o1.append o2, by simp [hlen], fun gh S' hS hg hA k x hk => ?_⟩
   cases k with
   | zero =>
    simp only [List.getElem?_cons_zero, Option.some.injEq] at hk
    subst hk
    exact Gives.left o1 g1 gh S' hS hg hA
   | succ k =>
    simp only [List.getElem?_cons_succ] at hk
    exact Gives.right o1 g2 gh S' hS hg hA k x hk
  unfold cloA at ha
  split at ha
  ·rename_i L n m
   split at ha
   ·rename_i c hl
    obtain ⟨c', hf, ha⟩ := Option.bind_eq_some_iff.1 ha
    obtain ⟨⟨cs', l2⟩, hr, he⟩ := Option.map_eq_some_iff.1 ha
    simp only [Prod.mk.injEq] at he
    exact join c' [(L, c)] cs' l2 (by simp [argCell, hl, hf]) rfl hr he.1.symm he.2.symm
   ·cases ha
  ·rename_i ys
   obtain ⟨⟨cs', l2⟩, hr, he⟩ := Option.map_eq_some_iff.1 ha
   simp only [Prod.mk.injEq] at he
   exact join (.cptr ys) [] cs' l2 (by simp [argCell]) rfl hr he.1.symm he.2.symm
  ·cases ha

theorem argX_gives {N : Nat} {gh0 : Nat → Value} {a0 : Act} {lend : Bool} (h : Rel T s (rvOf a0 gh0) w S Fs) {j : Nat} {L0 : Place} {d a : D} {v : Value} {F : Nat → Prop} {l : List (Place × D)} (hW : WR T s (rvOf a0 gh0) w S d v F)
  (hsrc : (∃ t, L0 = [t] ∧ s.v t = d ∧ rvOf a0 gh0 t = v) ∨ (L0 = [] ∧ (∀ xs, d ≠ .agg xs) ∧ (d.isObj = true → (∃ e, d = .own e []) ∧ ∃ A, v = .slice A 0 0)))
  (ha : argX T lend pm s j L0 d = some (a, l)) : ∃ lv, Objs s w (rvOf a0 gh0) l lv ∧ Gives T s w (rvOf a0 gh0) S lend j l lv (fun gh S' => W T S' w (VG gh) Vp0 a v (fun _ => False)) := by
 unfold argX at ha
 split at ha
 ·rename_i p f caps
  split at ha
  ·cases ha
  ·rename_i hlp
   simp only [Bool.or_eq_true, not_or, Bool.not_eq_true] at hlp
   obtain ⟨rfl, rfl⟩ := hlp
   obtain ⟨⟨cs, lc⟩, hc, he⟩ := Option.map_eq_some_iff.1 ha
   simp only [Prod.mk.injEq] at he
   obtain ⟨rfl, rfl⟩ := he
   cases hW with
   | ocl us hE hz hx hw hs hv =>
    rcases hv with ⟨_, rfl⟩ | ⟨hp, _⟩
    ·obtain ⟨lv, ho, hlen, hg⟩ := cloA_gives caps j us hw hc
     refine ⟨lv, ho, fun gh S' hS hgh hA => ?_⟩
     have hW' := hg gh S' hS hgh hA
     refine .clo us (fun _ h => h) (by rw [hz, hlen]) (fun i x hi => ?_) hW'
     have hi' : i < caps.length := by rw [← hlen]; exact (List.getElem?_eq_some_iff.1 hi).1
     exact hx i _ (List.getElem?_eq_getElem hi')
    ·cases hp
 ·cases lend with
  | true => cases ha
  | false => exact vsArg_gives (N := N) h hW rfl ha
 ·exact argTop_gives hW hsrc ha

theorem argsD_gives {E : Env} {lend : Bool} {N : Nat} {gh0 : Nat → Value} {a : Act} (h : Rel E.T s (rvOf a gh0) w S Fs) (hG : N ≤ G) : ∀ (xs : List (Operand × TypeId)) (j : Nat) {as : List D} {ls : List (Place × D)},
  (∀ q ∈ xs, opdOk N q.1) → argsD E lend pm s j xs = some (as, ls) → ∃ lv, Objs s w (rvOf a gh0) ls lv ∧ as.length = xs.length ∧
   Gives E.T s w (rvOf a gh0) S lend j ls lv (fun gh S' => ∀ (k : Nat) (x : D), as[k]? = some x → ∃ q : Operand × TypeId, xs[k]? = some q ∧ W E.T S' w (VG gh) Vp0 x (a.eval q.1) (fun _ => False)) := by
 intro xs
 induction xs with
 | nil =>
  intro j as ls _ ha
  simp only [argsD, Option.some.injEq, Prod.mk.injEq] at ha
  obtain ⟨rfl, rfl⟩ := ha
  exact ⟨[], Objs.nil, rfl, fun gh S' _ _ _ k x hk => by simp at hk⟩
 | cons q xs ih =>
  obtain ⟨x, t⟩ := q
  intro j as ls hok ha
  simp only [argsD] at ha
  split at ha
  ·cases ha
  ·rename_i d he
   split at ha
   ·cases ha
   ·rename_i b l hc
    split at ha
    ·cases ha
    ·rename_i as' ls' hcs
     simp only [Option.some.injEq, Prod.mk.injEq] at ha
     obtain ⟨rfl, rfl⟩ := ha
     have hx := hok _ (List.mem_cons_self)
     have hW := ev_W h hG hx he
     obtain ⟨lv1, o1, g1⟩ := argX_gives (N := N) h hW (by
      cases x with
      | tmp u =>
       simp only [ev, Option.some.injEq] at he
       exact .inl ⟨u, rfl, he, (eval_tmp hG hx).symm⟩
      | const v =>
       right
       refine ⟨rfl, fun xs hxs => ?_, fun ho => ?_⟩
       ·subst hxs
        simp only [ev, constD] at he
        split at he <;> try (cases he; done)
        split at he <;> cases he
       ·simp only [ev, constD] at he
        split at he <;> try (simp only [Option.some.injEq] at he; subst he; simp [D.isObj] at ho; done)
        ·split at he
         ·simp only [Option.some.injEq] at he
          subst he
          exact ⟨⟨_, rfl⟩, none, rfl⟩
         ·simp only [Option.some.injEq] at he
          subst he; simp [D.isObj] at ho
         ·cases he
        ·cases he
      | func f =>
       simp only [ev, Option.some.injEq] at he
       subst he
       exact .inr ⟨rfl, (fun xs hxs => by cases hxs), (fun ho => by simp [D.isObj] at ho)⟩
      | global g => simp [ev] at he) hc
     obtain ⟨lv2, o2, hlen, g2⟩ := ih (j + l.length) (fun q hq => hok q (List.mem_cons_of_mem _ hq)) hcs
     refine ⟨lv1 ++ lv2, o1.append o2, by simp [hlen], fun gh S' hS hg hA k y hk => ?_⟩
     cases k with
     | zero =>
      simp only [List.getElem?_cons_zero, Option.some.injEq] at hk
      subst hk
      exact ⟨(x, t), rfl, Gives.left o1 g1 gh S' hS hg hA⟩
     | succ k =>
      simp only [List.getElem?_cons_succ] at hk
      obtain ⟨q, hq, hWq⟩ := Gives.right o1 g2 gh S' hS hg hA k y hk
      exact ⟨q, by simpa using hq, hWq⟩
end
end Dv
/- Value semantics for Go code: calls by their contracts. Conditions: each call that is known has its contract. -/
namespace Dv
open Go

/-- What a call leaves. -/
def CallPost (T : Tys) (gh : Nat → Value) (r : D) (outs : List D) (w : World) (S : Nat → Prop) (FL : Nat → Nat → Prop) (v : Value) (w' : World) : Prop :=
 ∃ (S' F : Nat → Prop) (FL' : Nat → Nat → Prop), W T S' w' V0 Vp0 r v F ∧ (∀ (j : Nat) (d : D), outs[j]? = some d → W T S' w' V0 Vp0 d (gh j) (FL' j)) ∧
  (∀ i j k, i ≠ j → FL' i k → ¬ FL' j k) ∧ (∀ j k, F k → ¬ FL' j k) ∧ Step w S FL w' S' FL' ∧ (∀ k, F k → (∃ j, FL j k) ∨ w.heap.size ≤ k) ∧ (∀ k, S' k → k < w'.heap.size)

/-- A call's contract. -/
def Good (P : Program) (T : Tys) (f : FuncId) (args lent : List D) (r : D) (outs : List D) : Prop :=
 (∃ fn, P.funcs[f]? = some fn ∧ fn.body.isSome = true ∧ (fn.name == "runtime.NumGoroutine") = false) ∧
 ∀ (vs : Array Value) (gh : Nat → Value) (w : World) (S : Nat → Prop) (FL : Nat → Nat → Prop), vs.size = args.length →
  (∀ (i : Nat) (d : D), args[i]? = some d → ∃ v, vs[i]? = some v ∧ W T S w (VG gh) Vp0 d v (fun _ => False)) →
  (∀ (j : Nat) (d : D), lent[j]? = some d → W T S w V0 Vp0 d (gh j) (FL j)) → (∀ j, lent.length ≤ j → Em (FL j)) → (∀ i j k, i ≠ j → FL i k → ¬ FL j k) → (∀ k, S k → k < w.heap.size) → Inv T w S →
  Calls P f vs w fun | .returned v, w' => CallPost T gh r outs w S FL v w' | _, _ => False

def Contract (P : Program) (E : Env) : Prop := ∀ (f : FuncId) (args lent : List D) (r : D) (outs : List D), E.call f args lent = some (r, outs) → Good P E.T f args lent r outs

theorem run_callFunc {P : Program} {f : FuncId} {fn : Func} {args : Array Value} (hf : P.funcs[f]? = some fn) (hb : fn.body.isSome = true) (hn : (fn.name == "runtime.NumGoroutine") = false) (w : World) :
  (callFunc f args).run P w = .ok (.enter f args) w := by
 have hb' : fn.body ≠ none := by cases h : fn.body <;> simp_all
 have hn' : fn.name ≠ "runtime.NumGoroutine" := by simpa using hn
 simp [callFunc, hf, hb', hn']

/-! ### Places apart -/

def far (L M : Place) : Prop := ¬ L <+: M ∧ ¬ M <+: L
theorem far.symm {L M : Place} (h : far L M) : far M L := ⟨h.2, h.1⟩

theorem apartL_cons {L : Place} {Ls : List Place} (h : apartL (L :: Ls) = true) : (L = [] ∨ ∀ M ∈ Ls, M = [] ∨ far L M) ∧ apartL Ls = true := by
 simp only [apartL, Bool.and_eq_true, Bool.or_eq_true, List.isEmpty_iff, List.all_eq_true, Bool.not_eq_true', ← Bool.not_eq_true, List.isPrefixOf_iff_prefix] at h
 exact ⟨h.1, h.2⟩

theorem getp_setp_far : ∀ (p : Place) (d x : D) (q : Place), far p q → getp (setp d p x) q = getp d q := by
 intro p
 induction p with
 | nil => intro d x q h; exact (h.1 List.nil_prefix).elim
 | cons c p ih =>
  intro d x q h
  cases q with
  | nil => exact (h.2 List.nil_prefix).elim
  | cons c' q =>
   have key : ∀ xs : List D, ((xs.set c (setp (xs.getD c .undef) p x))[c']?).bind (fun d => getp d q) = (xs[c']?).bind (fun d => getp d q) := by
    intro xs
    by_cases hc : c = c'
    ·subst hc
     have hf : far p q := ⟨fun hh => h.1 (by simpa using hh), fun hh => h.2 (by simpa using hh)⟩
     rcases Nat.lt_or_ge c xs.length with hl | hl
     ·simp only [List.getElem?_set_self hl, Option.bind_some, List.getElem?_eq_getElem hl]
      rw [ih _ _ _ hf, List.getD_eq_getElem?_getD, List.getElem?_eq_getElem hl]; rfl
     ·rw [List.set_eq_of_length_le hl]
    ·rw [List.getElem?_set_ne hc]
   cases d <;> first | rfl | (simp only [setp, getp]; exact key _)

theorem set_far {s : St} {L : Place} {x : D} {t : Nat} {p : Place} (h : L = [] ∨ far L (t :: p)) : getp ((s.set L x).v t) p = getp (s.v t) p := by
 unfold St.set
 cases L with
 | nil => rfl
 | cons u q =>
  rcases h with h | h
  ·cases h
  ·by_cases hut : t = u
   ·subst hut
    simp only [upd_same]
    exact getp_setp_far _ _ _ _ ⟨fun hh => h.1 (by simpa using hh), fun hh => h.2 (by simpa using hh)⟩
   ·simp only [upd_other _ _ hut]

/-- One thing laid back. -/
def back1 (deep : Bool) (s : St) (L : Place) (c : D) : St := if L.isEmpty then s else if deep then (s.set L c).bump (L.headD 0) else s.set L c
theorem back_cons (deep : Bool) (s : St) (L : Place) (c : D) (rest : List (Place × D)) : back deep s ((L, c) :: rest) = back deep (back1 deep s L c) rest := rfl
theorem back1_v (deep : Bool) (s : St) (L : Place) (c : D) : (back1 deep s L c).v = (s.set L c).v := by
 unfold back1
 cases L with
 | nil => rfl
 | cons t p => cases deep <;> rfl
theorem back1_k (deep : Bool) (s : St) (L : Place) (c : D) : (back1 deep s L c).k = s.k := by
 unfold back1
 cases L with
 | nil => rfl
 | cons t p => cases deep <;> rfl

theorem back_far (deep : Bool) {t : Nat} {p : Place} : ∀ (l : List (Place × D)) (s : St), (∀ q ∈ l, q.1 = [] ∨ far q.1 (t :: p)) → getp ((back deep s l).v t) p = getp (s.v t) p := by
 intro l
 induction l with
 | nil => intro s _; rfl
 | cons q l ih =>
  obtain ⟨L, c⟩ := q
  intro s h
  rw [back_cons, ih _ (fun q hq => h q (List.mem_cons_of_mem _ hq)), back1_v]
  exact set_far (h _ (List.mem_cons_self))

theorem back_k (deep : Bool) : ∀ (l : List (Place × D)) (s : St), (back deep s l).k = s.k := by
 intro l
 induction l with
 | nil => intro s; rfl
 | cons q l ih => obtain ⟨L, c⟩ := q; intro s; rw [back_cons, ih, back1_k]

theorem back1_m (deep : Bool) (s : St) (L : Place) (c : D) (t : Nat) : (back1 deep s L c).m t = if L ≠ [] ∧ deep = true ∧ L.headD 0 = t then s.m t + 1 else s.m t := by
 unfold back1
 cases L with
 | nil => simp
 | cons u p =>
  cases deep with
  | false => simp [St.set]
  | true =>
   simp only [List.isEmpty_cons, Bool.false_eq_true, if_false, if_true, St.bump, St.set, List.headD_cons]
   by_cases h : t = u
   ·subst h; simp [upd_same]
   ·simp [upd_other _ _ h, Ne.symm h]

theorem back_m_le (deep : Bool) (t : Nat) : ∀ (l : List (Place × D)) (s : St), s.m t ≤ (back deep s l).m t := by
 intro l
 induction l with
 | nil => intro s; exact Nat.le_refl _
 | cons q l ih =>
  obtain ⟨L, c⟩ := q
  intro s
  rw [back_cons]
  refine Nat.le_trans ?_ (ih _)
  rw [back1_m]; split <;> omega

theorem back_m_lt (t : Nat) : ∀ (l : List (Place × D)) (s : St), (∃ q ∈ l, q.1 ≠ [] ∧ q.1.headD 0 = t) → s.m t < (back true s l).m t := by
 intro l
 induction l with
 | nil => intro s ⟨q, hq, _⟩; cases hq
 | cons q l ih =>
  obtain ⟨L, c⟩ := q
  intro s ⟨q, hq, h1, h2⟩
  rw [back_cons]
  rcases List.mem_cons.1 hq with rfl | hq
  ·refine Nat.lt_of_lt_of_le ?_ (back_m_le true t l _)
   rw [back1_m, if_pos ⟨h1, rfl, h2⟩]; omega
  ·refine Nat.lt_of_le_of_lt ?_ (ih _ ⟨q, hq, h1, h2⟩)
   rw [back1_m]; split <;> omega

theorem back_m_false (t : Nat) : ∀ (l : List (Place × D)) (s : St), (back false s l).m t = s.m t := by
 intro l
 induction l with
 | nil => intro s; rfl
 | cons q l ih => obtain ⟨L, c⟩ := q; intro s; rw [back_cons, ih, back1_m]; simp

theorem back_other (deep : Bool) (t : Nat) : ∀ (l : List (Place × D)) (s : St), (∀ q ∈ l, q.1 = [] ∨ q.1.headD 0 ≠ t) → (back deep s l).v t = s.v t ∧ (back deep s l).m t = s.m t := by
 intro l
 induction l with
 | nil => intro s _; exact ⟨rfl, rfl⟩
 | cons q l ih =>
  obtain ⟨L, c⟩ := q
  intro s h
  rw [back_cons]
  obtain ⟨h1, h2⟩ := ih (back1 deep s L c) (fun q hq => h q (List.mem_cons_of_mem _ hq))
  rw [h1, h2, back1_v, back1_m]
  rcases h _ (List.mem_cons_self) with h | h
  ·simp only at h; subst h; simp [St.set]
  ·cases L with
   | nil => simp [St.set]
   | cons u p =>
    simp only [List.headD_cons] at h
    simp [St.set, upd_other _ _ (Ne.symm h), h]

theorem setp_isObj {d x : D} {c : Nat} {p : Place} : (setp d (c :: p) x).isObj = d.isObj := by cases d <;> rfl

theorem back_root (deep : Bool) (t : Nat) : ∀ (l : List (Place × D)) (s : St), (∀ q ∈ l, q.1 ≠ [t]) → ((back deep s l).v t).isObj = (s.v t).isObj := by
 intro l
 induction l with
 | nil => intro s _; rfl
 | cons q l ih =>
  obtain ⟨L, c⟩ := q
  intro s h
  rw [back_cons, ih _ (fun q hq => h q (List.mem_cons_of_mem _ hq)), back1_v]
  have := h _ (List.mem_cons_self)
  cases L with
  | nil => rfl
  | cons u p =>
   by_cases hut : t = u
   ·subst hut
    cases p with
    | nil => exact (this rfl).elim
    | cons a p => simp only [St.set, upd_same]; exact setp_isObj
   ·simp only [St.set, upd_other _ _ hut]

/-! ### A state under views of another one -/

structure RelV (T : Tys) (V : Place → Nat → Nat → Value → Prop) (Vp : Place → Nat → Nat → Nat → Value → Prop) (s : St) (rv : Nat → Value) (w : World) (S : Nat → Prop) (Fs : Nat → Nat → Prop) : Prop where
 val : ∀ t, W T S w V Vp (s.v t) (rv t) (Fs t)
 disj : ∀ t u k, t ≠ u → Fs t k → ¬ Fs u k

section
variable {T : Tys} {s s' : St} {rv : Nat → Value} {w w' : World} {S S' : Nat → Prop} {Fs : Nat → Nat → Prop} {pm : Pm}
variable {V : Place → Nat → Nat → Value → Prop} {Vp : Place → Nat → Nat → Nat → Value → Prop}

theorem RelV.focus (h : RelV T V Vp s rv w S Fs) {t : Nat} {p : Place} {d : D} (hg : getp (s.v t) p = some d) :
  ∃ v F, foll w rv (t :: p) = some v ∧ W T S w V Vp d v F ∧ (∀ k, F k → Fs t k) ∧
   (∀ (s' : St) (d' : D) (F' : Nat → Prop), s'.v = (s.set (t :: p) d').v → (∀ k u, Fs u k → ¬ F k → ¬ F' k) → W T S w V Vp d' v F' →
    RelV T V Vp s' rv w S (upd Fs t (fun k => (Fs t k ∧ ¬ F k) ∨ F' k))) := by
 obtain ⟨v, F, hfo, hW, hsub, hset, _⟩ := (h.val t).focus d hg
 refine ⟨v, F, hfo, hW, hsub, fun s' d' F' hs' hr hn => ?_⟩
 refine ⟨fun u => ?_, fun u u' k hne => ?_⟩
 ·rw [hs']
  by_cases hut : u = t
  ·subst hut
   simp only [St.set, upd_same]
   exact hset w S V Vp d' F' (fun k hf hn => ⟨rfl, (h.val u).notS k hf, hr k u hf hn⟩) (fun k hk => ⟨hk, rfl⟩) (fun _ _ _ _ h => h) (fun _ _ _ _ _ h => h) hn
  ·simp only [St.set, upd_other _ _ hut]
   exact h.val u
 ·by_cases h1 : u = t
  ·subst h1
   have h2 : u' ≠ u := fun e => hne e.symm
   simp only [upd_same, upd_other _ _ h2]
   rintro (⟨hf, _⟩ | hf) hg
   ·exact h.disj u u' k hne hf hg
   ·exact hr k u' hg (fun hF => h.disj u' u k h2 hg (hsub k hF)) hf
  ·by_cases h2 : u' = t
   ·subst h2
    simp only [upd_same, upd_other _ _ h1]
    rintro hf (⟨hg, _⟩ | hg)
    ·exact h.disj u u' k hne hf hg
    ·exact hr k u hf (fun hF => h.disj u u' k h1 hf (hsub k hF)) hg
   ·simp only [upd_other _ _ h1, upd_other _ _ h2]; exact h.disj u u' k hne

theorem upd_sub {Fs : Nat → Nat → Prop} {t : Nat} {F F' : Nat → Prop} {u k : Nat} (h : upd Fs t (fun k => (Fs t k ∧ ¬ F k) ∨ F' k) u k) : Fs u k ∨ F' k := by
 by_cases hut : u = t
 ·subst hut; simp only [upd_same] at h; exact h.imp (·.1) id
 ·rw [upd_other _ _ hut] at h; exact .inl h

theorem W.undef_Em {v : Value} {F : Nat → Prop} (h : W T S w V Vp .undef v F) : Em F := by cases h with | undef h => exact h

/-- Places are emptied. -/
theorem empty_all : ∀ (l : List (Place × D)) {s : St} {Fs : Nat → Nat → Prop}, RelV T V Vp s rv w S Fs → apartL (l.map (·.1)) = true →
  (∀ q ∈ l, q.1 = [] ∨ ∃ t p, q.1 = t :: p ∧ getp (s.v t) p = some q.2) →
  ∃ (Fs1 FL : Nat → Nat → Prop), RelV T V Vp (back false s (l.map fun q => (q.1, .undef))) rv w S Fs1 ∧
   (∀ (i : Nat) (q : Place × D) (t : Nat) (p : Place), l[i]? = some q → q.1 = t :: p → getp ((back false s (l.map fun q => (q.1, .undef))).v t) p = some .undef ∧ ∃ v, foll w rv q.1 = some v ∧ W T S w V Vp q.2 v (FL i)) ∧
   (∀ i, (∀ q, l[i]? = some q → q.1 = []) → Em (FL i)) ∧ (∀ i j k, i ≠ j → FL i k → ¬ FL j k) ∧ (∀ i u k, FL i k → ¬ Fs1 u k) ∧ (∀ u k, Fs1 u k → Fs u k) ∧
   (∀ i k, FL i k → ∃ q t p, l[i]? = some q ∧ q.1 = t :: p ∧ Fs t k) := by
 intro l
 induction l with
 | nil =>
  intro s Fs h _ _
  exact ⟨Fs, fun _ _ => False, h, by simp, fun _ _ _ h => h, fun _ _ _ _ h => h.elim, fun _ _ _ h => h.elim, fun _ _ h => h, fun _ _ h => h.elim⟩
 | cons q l ih =>
  obtain ⟨L, c⟩ := q
  intro s Fs h hap hq
  simp only [List.map_cons] at hap
  obtain ⟨ha, hap2⟩ := apartL_cons hap
  have hq0 := hq _ (List.mem_cons_self)
  simp only [List.map_cons, back_cons]
  cases L with
  | nil =>
   obtain ⟨Fs1, FL, r1, r2, r3, r4, r5, r6, r7⟩ := ih h hap2 (fun q hm => hq q (List.mem_cons_of_mem _ hm))
   refine ⟨Fs1, fun i => match i with | 0 => fun _ => False | i + 1 => FL i, r1, fun i q t p hi ht => ?_, fun i hi => ?_, fun i j k hij => ?_, fun i u k => ?_, r6, fun i k => ?_⟩
   ·cases i with
    | zero => simp at hi; subst hi; cases ht
    | succ i => exact r2 i q t p (by simpa using hi) ht
   ·cases i with
    | zero => exact fun _ h => h
    | succ i => exact r3 i (fun q hq => hi q (by simpa using hq))
   ·cases i with
    | zero => exact fun h => h.elim
    | succ i => cases j with
     | zero => exact fun _ h => h
     | succ j => exact r4 i j k (by omega)
   ·cases i with
    | zero => exact fun h => h.elim
    | succ i => exact r5 i u k
   ·cases i with
    | zero => exact fun h => h.elim
    | succ i => intro hk; obtain ⟨q, t, p, h1, h2⟩ := r7 i k hk; exact ⟨q, t, p, by simpa using h1, h2⟩
  | cons t p =>
   have hg : getp (s.v t) p = some c := by
    rcases hq0 with h | ⟨t', p', h1, h2⟩
    ·cases h
    ·simp only at h1 h2; injection h1 with e1 e2; subst e1; subst e2; exact h2
   have hfar : ∀ q ∈ l, q.1 = [] ∨ far (t :: p) q.1 := fun q hm => by
    rcases ha with ha | ha
    ·cases ha
    ·exact ha q.1 (List.mem_map_of_mem hm)
   obtain ⟨v, F, hfo, hW, hsub, hset⟩ := h.focus hg
   have h1 := hset (back1 false s (t :: p) .undef) .undef (fun _ => False) (by rw [back1_v]) (fun _ _ _ _ h => h) (.undef fun _ h => h)
   obtain ⟨Fs1, FL, r1, r2, r3, r4, r5, r6, r7⟩ := ih h1 hap2 (fun q hm => by
    rcases hq q (List.mem_cons_of_mem _ hm) with h | ⟨t', p', e, hh⟩
    ·exact .inl h
    ·refine .inr ⟨t', p', e, ?_⟩
     rw [back1_v, set_far]
     ·exact hh
     ·right
      rcases hfar q hm with h | h
      ·rw [h] at e; cases e
      ·rw [← e]; exact h)
   have hFn : ∀ u k, F k → ¬ Fs1 u k := fun u k hf hu => by
    have := r6 u k hu
    by_cases hut : u = t
    ·subst hut; simp only [upd_same, or_false] at this; exact this.2 hf
    ·rw [upd_other _ _ hut] at this; exact h.disj u t k hut this (hsub k hf)
   have hFL : ∀ i k, FL i k → ¬ F k := fun i k hi hf => by
    obtain ⟨q, t', p', _, _, hk⟩ := r7 i k hi
    by_cases hut : t' = t
    ·subst hut; simp only [upd_same, or_false] at hk; exact hk.2 hf
    ·rw [upd_other _ _ hut] at hk; exact h.disj t' t k hut hk (hsub k hf)
   refine ⟨Fs1, fun i => match i with | 0 => F | i + 1 => FL i, r1, fun i q t' p' hi ht => ?_, fun i hi => ?_, fun i j k hij => ?_, fun i u k => ?_, fun u k hu => ?_, fun i k => ?_⟩
   ·cases i with
    | zero =>
     simp only [List.getElem?_cons_zero, Option.some.injEq] at hi
     subst hi
     simp only at ht
     injection ht with e1 e2
     subst e1; subst e2
     refine ⟨?_, v, hfo, hW⟩
     rw [back_far false]
     ·rw [back1_v]; simp only [St.set, upd_same]; exact setp_get hg
     ·intro q hm
      simp only [List.mem_map] at hm
      obtain ⟨q', hm, rfl⟩ := hm
      exact (hfar q' hm).imp id far.symm
    | succ i => exact r2 i q t' p' (by simpa using hi) ht
   ·cases i with
    | zero => have := hi _ rfl; cases this
    | succ i => exact r3 i (fun q hq => hi q (by simpa using hq))
   ·cases i with
    | zero => cases j with
     | zero => exact (hij rfl).elim
     | succ j => exact fun hf hj => hFL j k hj hf
    | succ i => cases j with
     | zero => exact fun hi hf => hFL i k hi hf
     | succ j => exact r4 i j k (by omega)
   ·cases i with
    | zero => exact hFn u k
    | succ i => exact r5 i u k
   ·rcases upd_sub (r6 u k hu) with h | h
    ·exact h
    ·exact h.elim
   ·cases i with
    | zero => exact fun hf => ⟨_, t, p, rfl, rfl, hsub k hf⟩
    | succ i =>
     intro hk
     obtain ⟨q, t', p', h1, h2, h3⟩ := r7 i k hk
     refine ⟨q, t', p', by simpa using h1, h2, ?_⟩
     rcases upd_sub h3 with h | h
     ·exact h
     ·exact h.elim

/-- Places are filled. -/
theorem fill_all : ∀ (l : List (Place × D)) {s : St} {Fs FL : Nat → Nat → Prop} {gh : Nat → Value}, RelV T V Vp s rv w S Fs → apartL (l.map (·.1)) = true →
  (∀ (i : Nat) (q : Place × D), l[i]? = some q → q.1 = [] ∨ ∃ t p, q.1 = t :: p ∧ getp (s.v t) p = some .undef ∧ foll w rv q.1 = some (gh i)) →
  (∀ (i : Nat) (q : Place × D), l[i]? = some q → W T S w V Vp q.2 (gh i) (FL i)) → (∀ i j k, i ≠ j → FL i k → ¬ FL j k) → (∀ i u k, FL i k → ¬ Fs u k) →
  ∃ (Fs1 : Nat → Nat → Prop), RelV T V Vp (back true s l) rv w S Fs1 ∧ ∀ u k, Fs1 u k → Fs u k ∨ ∃ j, FL j k := by
 intro l
 induction l with
 | nil => intro s Fs FL gh h _ _ _ _ _; exact ⟨Fs, h, fun u k h => .inl h⟩
 | cons q l ih =>
  obtain ⟨L, c⟩ := q
  intro s Fs FL gh h hap hq hw hd hn
  simp only [List.map_cons] at hap
  obtain ⟨ha, hap2⟩ := apartL_cons hap
  rw [back_cons]
  cases L with
  | nil =>
   obtain ⟨Fs1, r1, r2⟩ := ih (FL := fun i => FL (i + 1)) (gh := fun i => gh (i + 1)) h hap2 (fun i q hi => hq (i + 1) q (by simpa using hi)) (fun i q hi => hw (i + 1) q (by simpa using hi)) (fun i j k hij => hd _ _ k (by omega)) (fun i => hn (i + 1))
   exact ⟨Fs1, r1, fun u k hu => (r2 u k hu).imp id (fun ⟨j, hj⟩ => ⟨_, hj⟩)⟩
  | cons t p =>
   have hfar : ∀ q ∈ l, q.1 = [] ∨ far (t :: p) q.1 := fun q hm => by
    rcases ha with ha | ha
    ·cases ha
    ·exact ha q.1 (List.mem_map_of_mem hm)
   obtain ⟨hg, hfo0⟩ : getp (s.v t) p = some .undef ∧ foll w rv (t :: p) = some (gh 0) := by
    rcases hq 0 _ rfl with h | ⟨t', p', h1, h2, h3⟩
    ·cases h
    ·simp only at h1 h2 h3; injection h1 with e1 e2; subst e1; subst e2; exact ⟨h2, h3⟩
   obtain ⟨v, F, hfo, hW, hsub, hset⟩ := h.focus hg
   have hFE := hW.undef_Em
   rw [hfo0] at hfo
   injection hfo with hfo
   subst hfo
   have h1 := hset (back1 true s (t :: p) c) c (FL 0) (by rw [back1_v]) (fun k u hu _ hf => hn 0 u k hf hu) (hw 0 _ rfl)
   obtain ⟨Fs1, r1, r2⟩ := ih (FL := fun i => FL (i + 1)) (gh := fun i => gh (i + 1)) h1 hap2 (fun i q hi => by
    rcases hq (i + 1) q (by simpa using hi) with h | ⟨t', p', e, hh, hf⟩
    ·exact .inl h
    ·refine .inr ⟨t', p', e, ?_, hf⟩
     rw [back1_v, set_far]
     ·exact hh
     ·right
      rcases hfar q (List.mem_of_getElem? hi) with h | h
      ·rw [h] at e; cases e
      ·rw [← e]; exact h) (fun i q hi => hw (i + 1) q (by simpa using hi)) (fun i j k hij => hd _ _ k (by omega)) (fun i u k hi hu => by
       rcases upd_sub hu with h | h
       ·exact hn (i + 1) u k hi h
       ·exact hd (i + 1) 0 k (by omega) hi h)
   refine ⟨Fs1, r1, fun u k hu => ?_⟩
   rcases r2 u k hu with h | ⟨j, hj⟩
   ·rcases upd_sub h with h | h
    ·exact .inl h
    ·exact .inr ⟨0, h⟩
   ·exact .inr ⟨_, hj⟩

/-- Places are frozen. -/
theorem freeze_all : ∀ (l : List (Place × D)) {l' : List (Place × D)} {s : St} {S : Nat → Prop} {Fs : Nat → Nat → Prop}, frzAll l = some l' → apartL (l.map (·.1)) = true → Rel T s rv w S Fs →
  (∀ q ∈ l, q.1 = [] ∨ ∃ t p, q.1 = t :: p ∧ getp (s.v t) p = some q.2) →
  ∃ (S1 : Nat → Prop) (Fs1 : Nat → Nat → Prop), Rel T (back false s l') rv w S1 Fs1 ∧ Step w S Fs w S1 Fs1 ∧
   (∀ (q : Place × D) (v : Value) (c' : D), q ∈ l → Src s w rv q.1 q.2 v → frz q.2 = some c' → W T S1 w V0 Vp0 c' v (fun _ => False)) := by
 intro l
 induction l with
 | nil =>
  intro l' s S Fs hf _ h _
  simp only [frzAll, Option.some.injEq] at hf
  subst hf
  exact ⟨S, Fs, h, Step.refl _ _ _, fun q v c' hq => by cases hq⟩
 | cons q l ih =>
  obtain ⟨L, c⟩ := q
  intro l' s S Fs hf hap h hq
  simp only [frzAll, Option.bind_eq_some_iff, Option.map_eq_some_iff] at hf
  obtain ⟨c', hc', ls', hls, rfl⟩ := hf
  simp only [List.map_cons] at hap
  obtain ⟨ha, hap2⟩ := apartL_cons hap
  rw [back_cons]
  have hsrc0 : ∀ (q : Place × D) (v : Value) (c' : D) (S1 : Nat → Prop), q.1 = [] → Src s w rv q.1 q.2 v → frz q.2 = some c' → W T S1 w V0 Vp0 c' v (fun _ => False) := by
   intro q v c' S1 e hs hf
   obtain ⟨_, ⟨_, ⟨e1, h1⟩, A, h2⟩ | ⟨t, p, h1, _⟩⟩ := hs
   ·have : W T S1 w V0 Vp0 (.own e1 []) (.slice A 0 0) (fun _ => False) := .own0 fun _ h => h
    rw [h1] at hf
    rw [h2]
    exact this.freeze c' hf (fun _ h => h.elim) (fun _ h => h)
   ·rw [e] at h1; cases h1
  cases L with
  | nil =>
   obtain ⟨S1, Fs1, r1, r2, r3⟩ := ih hls hap2 h (fun q hm => hq q (List.mem_cons_of_mem _ hm))
   refine ⟨S1, Fs1, r1, r2, fun q v d hm hs hf => ?_⟩
   rcases List.mem_cons.1 hm with rfl | hm
   ·exact hsrc0 _ v d S1 rfl hs hf
   ·exact r3 q v d hm hs hf
  | cons t p =>
   have hfar : ∀ q ∈ l, q.1 = [] ∨ far (t :: p) q.1 := fun q hm => by
    rcases ha with ha | ha
    ·cases ha
    ·exact ha q.1 (List.mem_map_of_mem hm)
   have hg : getp (s.v t) p = some c := by
    rcases hq _ (List.mem_cons_self) with h | ⟨t', p', h1, h2⟩
    ·cases h
    ·simp only at h1 h2; injection h1 with e1 e2; subst e1; subst e2; exact h2
   obtain ⟨v, F, hfo, hW, hsub, hset, _⟩ := h.focus hg
   have hk := Keeps.set0 (w := w) (rv := rv) hg (frz_noObj c c' hc')
   have hWf : W T (fun k => S k ∨ F k) w V0 Vp0 c' v (fun _ => False) := hW.freeze c' hc' (fun k hk => .inr hk) (fun k hk => .inl hk)
   have h1 := hset w (fun k => S k ∨ F k) (s.set (t :: p) c') c' (fun _ => False) rfl (fun k u hu hn => ⟨rfl, fun hs => hs.elim ((h.val u).notS k hu) hn, id⟩) (fun k hk => ⟨.inl hk, rfl⟩) (fun k hs => hs.elim (h.lt k) (hW.lt k)) hk hWf.up
   have hset' : back1 false s (t :: p) c' = s.set (t :: p) c' := rfl
   have hstep : Step w S Fs w (fun k => S k ∨ F k) (upd Fs t (fun k => (Fs t k ∧ ¬ F k) ∨ False)) :=
    Step.of_sub (fun k hk => .inl hk) (fun k hk => hk.imp id (fun hf => ⟨t, hsub k hf⟩)) (fun u k hu => (upd_sub hu).elim (fun h => ⟨u, h⟩) (fun h => h.elim))
   have hst2 : ∀ q ∈ l, ∀ t' p', q.1 = t' :: p' → getp ((s.set (t :: p) c').v t') p' = getp (s.v t') p' := fun q hm t' p' e => by
    refine set_far (.inr ?_)
    rcases hfar q hm with h | h
    ·rw [h] at e; cases e
    ·rw [← e]; exact h
   rw [hset']
   obtain ⟨S1, Fs1, r1, r2, r3⟩ := ih hls hap2 h1 (fun q hm => by
    rcases hq q (List.mem_cons_of_mem _ hm) with h | ⟨t', p', e, hh⟩
    ·exact .inl h
    ·exact .inr ⟨t', p', e, by rw [hst2 q hm t' p' e]; exact hh⟩)
   refine ⟨S1, Fs1, r1, hstep.trans r2, fun q u d hm hs hf => ?_⟩
   rcases List.mem_cons.1 hm with rfl | hm
   ·simp only at hf
    rw [hc'] at hf
    injection hf with hf
    subst hf
    have hu : u = v := by
     obtain ⟨_, ⟨h1, _⟩ | ⟨t', p', h1, h2, h3⟩⟩ := hs
     ·cases h1
     ·simp only at h3; rw [hfo] at h3; injection h3 with h3; exact h3.symm
    subst hu
    exact W.mono (fun k hk => ⟨r2.sS k hk, rfl⟩) hWf _ _ (fun _ _ _ _ h => h) (fun _ _ _ _ _ h => h) (fun _ h => h.elim)
   ·refine r3 q u d hm ?_ hf
    obtain ⟨ho, h1 | ⟨t', p', h1, h2, h3⟩⟩ := hs
    ·exact ⟨ho, .inl h1⟩
    ·exact ⟨ho, .inr ⟨t', p', h1, by rw [hst2 q hm t' p' h1]; exact h2, h3⟩⟩

end
end Dv
/- Value semantics for Go code: what a call does, by its contract. Conditions: each call that is known has its contract. -/
namespace Dv
open Go

section
variable {P : Program} {E : Env} {s s' : St} {gh : Nat → Value} {a : Act} {w w' : World} {S : Nat → Prop} {Fs : Nat → Nat → Prop} {N : Nat} {pm : Pm}

/-- Values of the arguments, one behind the other. -/
theorem args_vals {T : Tys} {S0 : Nat → Prop} {gh0 : Nat → Value} {xs : List (Operand × TypeId)} {as caps : List D} {args vcaps : Array Value} (hlen : as.length = xs.length) (hsz : args.size = xs.length)
  (hargs : ∀ (i : Nat) (q : Operand × TypeId), xs[i]? = some q → args[i]? = some (a.eval q.1))
  (h : ∀ (k : Nat) (x : D), as[k]? = some x → ∃ q : Operand × TypeId, xs[k]? = some q ∧ W T S0 w (VG gh0) Vp0 x (a.eval q.1) (fun _ => False))
  (hc : vcaps.size = caps.length) (hcaps : ∀ (i : Nat) (d : D), caps[i]? = some d → ∃ v, vcaps[i]? = some v ∧ W T S0 w (VG gh0) Vp0 d v (fun _ => False)) :
  (args ++ vcaps).size = (as ++ caps).length ∧ ∀ (i : Nat) (d : D), (as ++ caps)[i]? = some d → ∃ v, (args ++ vcaps)[i]? = some v ∧ W T S0 w (VG gh0) Vp0 d v (fun _ => False) := by
 refine ⟨by simp [hlen, hsz, hc], fun i d hi => ?_⟩
 rcases Nat.lt_or_ge i as.length with hl | hl
 ·rw [List.getElem?_append_left hl] at hi
  obtain ⟨q, hq, hW⟩ := h i d hi
  exact ⟨_, by rw [Array.getElem?_append_left (by omega)]; exact hargs i q hq, hW⟩
 ·rw [List.getElem?_append_right hl] at hi
  obtain ⟨v, hv, hW⟩ := hcaps _ d hi
  exact ⟨v, by rw [Array.getElem?_append_right (by omega), show i - args.size = i - as.length by omega]; exact hv, hW⟩

theorem caps_up {T : Tys} {S0 : Nat → Prop} {gh0 : Nat → Value} {caps : List D} {vcaps : Array Value} (hS : ∀ k, S k → S0 k)
  (hcaps : ∀ (i : Nat) (d : D), caps[i]? = some d → ∃ v, vcaps[i]? = some v ∧ W T S w V0 Vp0 d v (fun _ => False)) :
  ∀ (i : Nat) (d : D), caps[i]? = some d → ∃ v, vcaps[i]? = some v ∧ W T S0 w (VG gh0) Vp0 d v (fun _ => False) := by
 intro i d hi
 obtain ⟨v, hv, hW⟩ := hcaps i d hi
 exact ⟨v, hv, (W.mono (fun k hk => ⟨hS k hk, rfl⟩) hW V0 Vp0 (fun _ _ _ _ h => h) (fun _ _ _ _ _ h => h) (fun _ h => h.elim)).up⟩

theorem zip_args {c : Call} {ts : List TypeId} (hsz : c.args.size = ts.length) : (c.args.map a.eval).size = (c.args.toList.zip ts).length ∧
  ∀ (i : Nat) (q : Operand × TypeId), (c.args.toList.zip ts)[i]? = some q → (c.args.map a.eval)[i]? = some (a.eval q.1) := by
 refine ⟨by simp [hsz], fun i q hi => ?_⟩
 rw [List.getElem?_zip_eq_some] at hi
 rw [Array.getElem?_map]
 have : c.args[i]? = some q.1 := by simpa using hi.1
 rw [this]; rfl

/-- Arguments are borrowed, and what comes back shares nothing. -/
theorem borrow_sound (h : Fr E.T N gh s a w S Fs) {xs : List (Operand × TypeId)} (hxs : ∀ q ∈ xs, opdOk N q.1) {as caps : List D} {ls : List (Place × D)} (ha : argsD E false pm s 0 xs = some (as, ls))
  {args vcaps : Array Value} (hsz : args.size = xs.length) (hargs : ∀ (i : Nat) (q : Operand × TypeId), xs[i]? = some q → args[i]? = some (a.eval q.1))
  (hc : vcaps.size = caps.length) (hcaps : ∀ (i : Nat) (d : D), caps[i]? = some d → ∃ v, vcaps[i]? = some v ∧ W E.T S w V0 Vp0 d v (fun _ => False))
  {f : FuncId} {r : D} {outs : List D} (hg : Good P E.T f (as ++ caps) [] r outs) (hno : hasSl r = false) {dst : Option Tmp} (hd : dstOk N dst) :
  Calls P f (args ++ vcaps) w fun | .returned v, w' => Post E.T gh N (s.putO dst r) w S Fs (a.put dst v) w' | _, _ => False := by
 obtain ⟨lv, ho, hlen, hgi⟩ := argsD_gives h.rel h.small xs 0 hxs ha
 have hA := hgi (fun _ => undef) (fun k => S k ∨ ∃ u, Fs u k) (fun k hk => .inl hk) (fun hl => by cases hl) (fun _ i q v c' hq hv hs hf => by
  obtain ⟨_, ⟨e, ⟨e1, h1⟩, A, h2⟩ | ⟨t, p, h1, h2, h3⟩⟩ := hs
  ·have : W E.T (fun k => S k ∨ ∃ u, Fs u k) w V0 Vp0 (.own e1 []) (.slice A 0 0) (fun _ => False) := .own0 fun _ h => h
   rw [h1] at hf
   rw [h2]
   exact this.freeze c' hf (fun _ h => h.elim) (fun _ h => h)
  ·obtain ⟨v', F, hfo, hW, hsub, _⟩ := h.rel.focus h2
   rw [h1, hfo] at h3
   injection h3 with h3
   subst h3
   exact hW.freeze c' hf (fun k hk => .inr ⟨t, hsub k hk⟩) (fun k hk => .inl hk))
 obtain ⟨e1, e2⟩ := args_vals hlen hsz hargs hA hc (caps_up (fun k hk => .inl hk) hcaps)
 refine Calls.mono (hg.2 _ (fun _ => undef) w _ (fun _ _ => False) e1 e2 (fun j d hj => by simp at hj) (fun _ _ _ h => h) (fun _ _ _ _ h => h.elim) (fun k hk => hk.elim (h.rel.lt k) (fun ⟨u, hu⟩ => (h.rel.val u).lt k hu)) (h.inv.more (fun _ hk => .inl hk) (fun _ _ => rfl))) ?_
 intro e w' he
 cases e with
 | returned v =>
  obtain ⟨S', F, FL', hW, _, _, _, hst, hF, hlt⟩ := he
  have hheap : ∀ k, k < w.heap.size → w'.heap[k]? = w.heap[k]? := fun k hk => hst.heap k hk (fun _ h => h)
  have hFn : ∀ k, F k → w.heap.size ≤ k := fun k hk => (hF k hk).elim (fun ⟨_, h⟩ => h.elim) id
  have hW' : W E.T S w' V0 Vp0 r v F := noSl_W hW hno (fun k hk hs => by have := hFn k hk; have := h.rel.lt k hs; omega)
  exact post_put (h.rel.grow hheap hst.size) hW'.up (fun t k _ hf hu => by have := hFn k hf; have := (h.rel.val t).lt k hu; omega)
   ⟨hst.os, hst.tape, hst.output, hst.size, fun k hk _ => hheap k hk, fun _ h => h, fun _ h => .inl h, fun u k h => .inl ⟨u, h⟩⟩ (fun k hk => .inr (hFn k hk)) h.defs h.size h.small hd
 | panicked => exact he.elim
 | outgrown => exact he.elim

theorem objs_at {l : List (Place × D)} {lv : List Value} {rv : Nat → Value} (ho : Objs s w rv l lv) : ∀ q ∈ l, q.1 = [] ∨ ∃ t p, q.1 = t :: p ∧ getp (s.v t) p = some q.2 := by
 intro q hq
 obtain ⟨i, hi⟩ := List.getElem?_of_mem hq
 have hlt : i < lv.length := by rw [ho.1]; exact (List.getElem?_eq_some_iff.1 hi).1
 obtain ⟨_, ⟨h, _⟩ | ⟨t, p, h1, h2, _⟩⟩ := ho.2 i q _ hi (List.getElem?_eq_getElem hlt)
 ·exact .inl h
 ·exact .inr ⟨t, p, h1, h2⟩

/-- Arguments are frozen, and what comes back may share with them. -/
theorem share_sound (h : Fr E.T N gh s a w S Fs) {xs : List (Operand × TypeId)} (hxs : ∀ q ∈ xs, opdOk N q.1) {as caps : List D} {ls ls' : List (Place × D)} (ha : argsD E false pm s 0 xs = some (as, ls))
  {args vcaps : Array Value} (hsz : args.size = xs.length) (hargs : ∀ (i : Nat) (q : Operand × TypeId), xs[i]? = some q → args[i]? = some (a.eval q.1))
  (hc : vcaps.size = caps.length) (hcaps : ∀ (i : Nat) (d : D), caps[i]? = some d → ∃ v, vcaps[i]? = some v ∧ W E.T S w V0 Vp0 d v (fun _ => False))
  {f : FuncId} {r : D} {outs : List D} (hg : Good P E.T f (as ++ caps) [] r outs) (hap : apartL (ls.map (·.1)) = true) (hfz : frzAll ls = some ls') {dst : Option Tmp} (hd : dstOk N dst) :
  Calls P f (args ++ vcaps) w fun | .returned v, w' => Post E.T gh N ((back false s ls').putO dst r) w S Fs (a.put dst v) w' | _, _ => False := by
 obtain ⟨lv, ho, hlen, hgi⟩ := argsD_gives h.rel h.small xs 0 hxs ha
 obtain ⟨S1, Fs1, r1, r2, r3⟩ := freeze_all ls hfz hap h.rel (objs_at ho)
 have hA := hgi (fun _ => undef) S1 r2.sS (fun hl => by cases hl) (fun _ i q v c' hq hv hs hf => r3 q v c' (List.mem_of_getElem? hq) hs hf)
 obtain ⟨e1, e2⟩ := args_vals hlen hsz hargs hA hc (caps_up r2.sS hcaps)
 refine Calls.mono (hg.2 _ (fun _ => undef) w _ (fun _ _ => False) e1 e2 (fun j d hj => by simp at hj) (fun _ _ _ h => h) (fun _ _ _ _ h => h.elim) r1.lt (h.inv.more (fun k hk => r2.sS k hk) (fun _ _ => rfl))) ?_
 intro e w' he
 cases e with
 | returned v =>
  obtain ⟨S', F, FL', hW, _, _, _, hst, hF, hlt⟩ := he
  have hheap : ∀ k, k < w.heap.size → w'.heap[k]? = w.heap[k]? := fun k hk => hst.heap k hk (fun _ h => h)
  have hFn : ∀ k, F k → w.heap.size ≤ k := fun k hk => (hF k hk).elim (fun ⟨_, h⟩ => h.elim) id
  have hk := Keeps.grow r1 hheap
  have hnS : ∀ u k, Fs1 u k → ¬ S' k := fun u k hu hs => by
   rcases hst.sS' k hs with h1 | ⟨_, h1⟩ | h1
   ·exact (r1.val u).notS k hu h1
   ·exact h1
   ·have := (r1.val u).lt k hu; omega
  have hrel : Rel E.T (back false s ls') (rvOf a gh) w' S' Fs1 := ⟨fun t => (r1.val t).keep hk (fun k hs => ⟨hst.sS k hs, hheap k (r1.lt k hs)⟩) (fun k hf => ⟨hnS t k hf, hheap k ((r1.val t).lt k hf)⟩), r1.disj, hlt⟩
  refine post_put hrel hW.up (fun t k _ hf hu => by have := hFn k hf; have := (r1.val t).lt k hu; omega) (r2.trans ⟨hst.os, hst.tape, hst.output, hst.size, fun k hk _ => hheap k hk, hst.sS, fun k hs => ?_, fun u k h => .inl ⟨u, h⟩⟩) (fun k hk => .inr (hFn k hk)) h.defs h.size h.small hd
  rcases hst.sS' k hs with h1 | ⟨_, h1⟩ | h1
  ·exact .inl h1
  ·exact h1.elim
  ·exact .inr (.inr h1)
 | panicked => exact he.elim
 | outgrown => exact he.elim

/-- The views that still lead to something, where things were lent and came back. -/
theorem keeps_backL {T : Tys} {rv : Nat → Value} (h : Rel T s rv w S Fs) {l : List (Place × D)} {lv : List Value} (ho : Objs s w rv l lv) {outs : List D} (hlen : outs.length = l.length)
  (hheap : ∀ t, (∀ q ∈ l, q.1 = [] ∨ q.1.headD 0 ≠ t) → ∀ k, Fs t k → w'.heap[k]? = w.heap[k]?) : Keeps s w rv (backL s (l.map (·.1)) outs) w' rv := by
 have hzip : ∀ L, L ∈ l.map (·.1) → ∃ q ∈ (l.map (·.1)).zip outs, q.1 = L := by
  intro L hL
  obtain ⟨i, hi⟩ := List.getElem?_of_mem hL
  have hl : i < outs.length := by rw [hlen]; simpa using (List.getElem?_eq_some_iff.1 hi).1
  exact ⟨(L, outs[i]), List.mem_of_getElem? (i := i) (by rw [List.getElem?_zip_eq_some]; exact ⟨hi, List.getElem?_eq_getElem hl⟩), rfl⟩
 refine ⟨fun t => by unfold backL; rw [back_k, back_k]; exact Nat.le_refl _, fun t => ?_, fun L n m he hva => ?_⟩
 ·unfold backL
  refine Nat.le_trans ?_ (back_m_le true t _ _)
  rw [back_m_false]; exact Nat.le_refl _
 ·obtain ⟨t, q, x, rfl, h1, h2, h3, h4⟩ := hva
  unfold backL at h1 h2 h3
  rw [back_k, back_k] at h1
  by_cases htch : ∃ q ∈ l, q.1 ≠ [] ∧ q.1.headD 0 = t
  ·obtain ⟨q0, hm, hne, hhd⟩ := htch
   have hq : q = [] := by
    rcases h2 with h2 | h2
    ·exact h2
    ·obtain ⟨q1, hm1, e1⟩ := hzip q0.1 (List.mem_map_of_mem hm)
     have := back_m_lt t ((l.map (·.1)).zip outs) (back false s ((l.map (·.1)).map fun L => (L, .undef))) ⟨q1, hm1, by rw [e1]; exact hne, by rw [e1]; exact hhd⟩
     rw [back_m_false] at this
     have h5 := he.2
     simp only [List.headD_cons] at h5
     omega
   subst hq
   simp only [getp, Option.some.injEq] at h3
   refine ⟨⟨t, [], s.v t, rfl, h1, .inl rfl, rfl, ?_⟩, by simp [foll, followV]⟩
   by_cases hroot : ∃ q ∈ l, q.1 = [t]
   ·obtain ⟨q2, hm2, e2⟩ := hroot
    obtain ⟨i, hi⟩ := List.getElem?_of_mem hm2
    have hlt : i < lv.length := by rw [ho.1]; exact (List.getElem?_eq_some_iff.1 hi).1
    obtain ⟨hob, ⟨h5, _⟩ | ⟨t', p', h5, h6, _⟩⟩ := ho.2 i q2 _ hi (List.getElem?_eq_getElem hlt)
    ·rw [h5] at e2; cases e2
    ·rw [e2] at h5
     injection h5 with h5 h7
     subst h5; subst h7
     simp only [getp, Option.some.injEq] at h6
     rw [h6]; exact hob
   ·have hr : ∀ L, L ∈ l.map (·.1) → L ≠ [t] := fun L hL e => by
     obtain ⟨q', hm', e'⟩ := List.mem_map.1 hL
     exact hroot ⟨q', hm', e'.trans e⟩
    rw [← h3, back_root, back_root] at h4
    ·exact h4
    ·intro q hq
     obtain ⟨L, hL, rfl⟩ := List.mem_map.1 hq
     exact hr L hL
    ·intro q hq
     exact hr q.1 (List.of_mem_zip hq).1
  ·have hu : ∀ q ∈ l, q.1 = [] ∨ q.1.headD 0 ≠ t := fun q hq => by
    by_cases hn : q.1 = []
    ·exact .inl hn
    ·exact .inr fun e => htch ⟨q, hq, hn, e⟩
   have hu1 : ∀ q ∈ (l.map (·.1)).map (fun L => (L, D.undef)), q.1 = [] ∨ q.1.headD 0 ≠ t := by
    intro q hq
    obtain ⟨L, hL, rfl⟩ := List.mem_map.1 hq
    obtain ⟨q', hm', rfl⟩ := List.mem_map.1 hL
    exact hu q' hm'
   have hu2 : ∀ q ∈ (l.map (·.1)).zip outs, q.1 = [] ∨ q.1.headD 0 ≠ t := by
    intro q hq
    obtain ⟨q', hm', e⟩ := List.mem_map.1 (List.of_mem_zip hq).1
    rw [← e]; exact hu q' hm'
   obtain ⟨b1, b2⟩ := back_other true t _ (back false s ((l.map (·.1)).map fun L => (L, .undef))) hu2
   obtain ⟨c1, c2⟩ := back_other false t _ s hu1
   rw [b1, c1] at h3
   rw [b2, c2] at h2
   refine ⟨⟨t, q, x, rfl, h1, h2, h3, h4⟩, ?_⟩
   simp only [foll]
   exact (h.val t).follow_frame (hheap t hu) x h3

/-- Arguments are lent. -/
theorem lend_core (h : Fr E.T N gh s a w S Fs) {args : List D} {ls : List (Place × D)} {lv : List Value} (ho : Objs s w (rvOf a gh) ls lv) {vs : Array Value}
  (e1 : vs.size = args.length) (e2 : ∀ (i : Nat) (d : D), args[i]? = some d → ∃ v, vs[i]? = some v ∧ W E.T S w (VG fun j => lv.getD j undef) Vp0 d v (fun _ => False))
  {f : FuncId} {r : D} {outs : List D} (hg : Good P E.T f args (ls.map (·.2)) r outs) (hap : apartL (ls.map (·.1)) = true) (hok : ls.all (fun l => okD l.2) = true) (hol : outs.length = ls.length) {dst : Option Tmp} (hd : dstOk N dst) :
  Calls P f vs w fun | .returned v, w' => Post E.T gh N ((backL s (ls.map (·.1)) outs).putO dst r) w S Fs (a.put dst v) w' | _, _ => False := by
 have hV : RelV E.T (VR s w (rvOf a gh)) (VpR s w (rvOf a gh)) s (rvOf a gh) w S Fs := ⟨h.rel.val, h.rel.disj⟩
 obtain ⟨Fs1, FL, q1, q2, q3, q4, q5, q6, q7⟩ := empty_all ls hV hap (objs_at ho)
 have hlent : ∀ (j : Nat) (q : Place × D), ls[j]? = some q → W E.T S w V0 Vp0 q.2 (lv.getD j undef) (FL j) := by
  intro j q hj
  have hlt : j < lv.length := by rw [ho.1]; exact (List.getElem?_eq_some_iff.1 hj).1
  have hgd : lv.getD j undef = lv[j] := by simp [List.getD_eq_getElem?_getD, hlt]
  obtain ⟨hob, ⟨h1, ⟨e, h2⟩, A, h3⟩ | ⟨t, p, h1, h2, h3⟩⟩ := ho.2 j q _ hj (List.getElem?_eq_getElem hlt)
  ·rw [hgd, h2, h3]
   exact .own0 (q3 j (fun q' hq' => by rw [hj] at hq'; injection hq' with hq'; rw [← hq']; exact h1))
  ·obtain ⟨_, v, hv, hW⟩ := q2 j q t p hj h1
   rw [h3] at hv
   injection hv with hv
   rw [hgd, hv]
   exact frz_V0 q.2 hW (by simpa [okD] using List.all_eq_true.1 hok q (List.mem_of_getElem? hj))
 refine Calls.mono (hg.2 _ (fun j => lv.getD j undef) w S FL e1 e2 (fun j d hj => by
   rw [List.getElem?_map] at hj
   obtain ⟨q, hq, rfl⟩ := Option.map_eq_some_iff.1 hj
   exact hlent j q hq) (fun j hj => q3 j (fun q hq => by have := (List.getElem?_eq_some_iff.1 hq).1; simp at hj; omega)) q4 h.rel.lt h.inv) ?_
 intro e w' he
 cases e with
 | returned v =>
  obtain ⟨S', F, FL', hW, hWo, hd1, hd2, hst, hF, hlt⟩ := he
  have hFs1lt : ∀ u k, Fs1 u k → k < w.heap.size := fun u k hu => (h.rel.val u).lt k (q6 u k hu)
  have hheap1 : ∀ u k, Fs1 u k → w'.heap[k]? = w.heap[k]? := fun u k hu => hst.heap k (hFs1lt u k hu) (fun j hj => q5 j u k hj hu)
  have hnS : ∀ u k, Fs1 u k → ¬ S' k := fun u k hu hs => by
   rcases hst.sS' k hs with h1 | ⟨j, h1⟩ | h1
   ·exact (q1.val u).notS k hu h1
   ·exact q5 j u k h1 hu
   ·have := hFs1lt u k hu; omega
  have hFLS : ∀ j k, FL j k → ¬ S k := fun j k hj hs => by
   obtain ⟨q, t, p, _, _, hk⟩ := q7 j k hj
   exact (h.rel.val t).notS k hk hs
  have hSheap : ∀ k, S k → S' k ∧ w'.heap[k]? = w.heap[k]? := fun k hs => ⟨hst.sS k hs, hst.heap k (h.rel.lt k hs) (fun j hj => hFLS j k hj hs)⟩
  have hV1 : RelV E.T (VR s w (rvOf a gh)) (VpR s w (rvOf a gh)) (back false s (ls.map fun q => (q.1, .undef))) (rvOf a gh) w' S' Fs1 :=
   ⟨fun t => W.mono hSheap (q1.val t) _ _ (fun _ _ _ _ h => h) (fun _ _ _ _ _ h => h) (fun k hk => ⟨hnS t k hk, hheap1 t k hk⟩), q1.disj⟩
  have hFLn : ∀ j u k, FL' j k → ¬ Fs1 u k := fun j u k hj hu => by
   rcases hst.sF j k hj with ⟨i, hi⟩ | hge
   ·exact q5 i u k hi hu
   ·have := hFs1lt u k hu; omega
  have hzg : ∀ (i : Nat) (q : Place × D), ((ls.map (·.1)).zip outs)[i]? = some q → ∃ q', ls[i]? = some q' ∧ q'.1 = q.1 ∧ outs[i]? = some q.2 := by
   intro i q hi
   rw [List.getElem?_zip_eq_some, List.getElem?_map] at hi
   obtain ⟨q', h1, h2⟩ := Option.map_eq_some_iff.1 hi.1
   exact ⟨q', h1, h2, hi.2⟩
  obtain ⟨Fs2, f1, f2⟩ := fill_all ((ls.map (·.1)).zip outs) (FL := FL') (gh := fun j => lv.getD j undef) hV1 (by
    have : ((ls.map (·.1)).zip outs).map (·.1) = ls.map (·.1) := List.map_fst_zip (by simp [hol])
    rw [this]; exact hap) (fun i q hi => by
    obtain ⟨q', h1, h2, h3⟩ := hzg i q hi
    cases hL : q.1 with
    | nil => exact .inl rfl
    | cons t p =>
     right
     obtain ⟨g1, v1, g2, g3⟩ := q2 i q' t p h1 (h2.trans hL)
     refine ⟨t, p, rfl, g1, ?_⟩
     have hlt' : i < lv.length := by rw [ho.1]; exact (List.getElem?_eq_some_iff.1 h1).1
     have hgd : lv.getD i undef = lv[i] := by simp [List.getD_eq_getElem?_getD, hlt']
     obtain ⟨hob, ⟨h4, _⟩ | ⟨t', p', h4, h5, h6⟩⟩ := ho.2 i q' _ h1 (List.getElem?_eq_getElem hlt')
     ·rw [h2, hL] at h4; cases h4
     ·rw [h2, hL] at h6
      simp only [hgd, ← h6, foll]
      exact (q1.val t).follow_frame (fun k hk => hheap1 t k hk) _ g1)
   (fun i q hi => by
    obtain ⟨q', h1, h2, h3⟩ := hzg i q hi
    exact (hWo i q.2 h3).up) hd1 hFLn
  have hbk : backL s (ls.map (·.1)) outs = back true (back false s (ls.map fun q => (q.1, .undef))) ((ls.map (·.1)).zip outs) := by
   unfold backL
   rw [List.map_map]; rfl
  have hkeep : Keeps s w (rvOf a gh) (backL s (ls.map (·.1)) outs) w' (rvOf a gh) := keeps_backL h.rel ho hol (fun t ht k hk => by
   refine hst.heap k ((h.rel.val t).lt k hk) (fun j hj => ?_)
   obtain ⟨q, t', p, h1, h2, h3⟩ := q7 j k hj
   rcases ht q (List.mem_of_getElem? h1) with h4 | h4
   ·rw [h4] at h2; cases h2
   ·rw [h2] at h4
    exact h.rel.disj t t' k (fun e => h4 (by simpa using e.symm)) hk h3)
  have hFs2 : ∀ u k, Fs2 u k → (∃ u, Fs u k) ∨ w.heap.size ≤ k := fun u k hu => by
   rcases f2 u k hu with h1 | ⟨j, h1⟩
   ·exact .inl ⟨u, q6 u k h1⟩
   ·rcases hst.sF j k h1 with ⟨i, hi⟩ | hge
    ·obtain ⟨q, t', p, _, _, h3⟩ := q7 i k hi
     exact .inl ⟨t', h3⟩
    ·exact .inr hge
  have hrel : Rel E.T (backL s (ls.map (·.1)) outs) (rvOf a gh) w' S' Fs2 := by
   refine ⟨fun t => ?_, f1.disj, hlt⟩
   have := f1.val t
   rw [← hbk] at this
   exact W.mono (fun k hk => ⟨hk, rfl⟩) this _ _ hkeep.VR hkeep.VpR (fun k hk => ⟨this.notS k hk, rfl⟩)
  refine post_put hrel hW.up (fun t k _ hf hu => ?_) ⟨hst.os, hst.tape, hst.output, hst.size, fun k hk hn => hst.heap k hk (fun j hj => ?_), hst.sS, fun k hs => ?_, hFs2⟩ (fun k hf => ?_) h.defs h.size h.small hd
  ·rcases f2 t k hu with h1 | ⟨j, h1⟩
   ·rcases hF k hf with ⟨j, hj⟩ | hge
    ·exact q5 j t k hj h1
    ·have := hFs1lt t k h1; omega
   ·exact hd2 j k hf h1
  ·obtain ⟨q, t', p, _, _, h3⟩ := q7 j k hj
   exact hn t' h3
  ·rcases hst.sS' k hs with h1 | ⟨j, h1⟩ | h1
   ·exact .inl h1
   ·obtain ⟨q, t', p, _, _, h3⟩ := q7 j k h1
    exact .inr (.inl ⟨t', h3⟩)
   ·exact .inr (.inr h1)
  ·rcases hF k hf with ⟨j, hj⟩ | hge
   ·obtain ⟨q, t', p, _, _, h3⟩ := q7 j k hj
    exact .inl ⟨t', h3⟩
   ·exact .inr hge
 | panicked => exact he.elim
 | outgrown => exact he.elim

theorem lend_sound (h : Fr E.T N gh s a w S Fs) {xs : List (Operand × TypeId)} (hxs : ∀ q ∈ xs, opdOk N q.1) {as caps : List D} {ls : List (Place × D)} (ha : argsD E true pm s 0 xs = some (as, ls))
  {args vcaps : Array Value} (hsz : args.size = xs.length) (hargs : ∀ (i : Nat) (q : Operand × TypeId), xs[i]? = some q → args[i]? = some (a.eval q.1))
  (hc : vcaps.size = caps.length) (hcaps : ∀ (i : Nat) (d : D), caps[i]? = some d → ∃ v, vcaps[i]? = some v ∧ W E.T S w V0 Vp0 d v (fun _ => False))
  {f : FuncId} {r : D} {outs : List D} (hg : Good P E.T f (as ++ caps) (ls.map (·.2)) r outs) (hap : apartL (ls.map (·.1)) = true) (hok : ls.all (fun l => okD l.2) = true) (hol : outs.length = ls.length) {dst : Option Tmp} (hd : dstOk N dst) :
  Calls P f (args ++ vcaps) w fun | .returned v, w' => Post E.T gh N ((backL s (ls.map (·.1)) outs).putO dst r) w S Fs (a.put dst v) w' | _, _ => False := by
 obtain ⟨lv, ho, hlen, hgi⟩ := argsD_gives h.rel h.small xs 0 hxs ha
 have hA := hgi (fun j => lv.getD j undef) S (fun _ h => h) (fun _ i v hv => by rw [Nat.zero_add, List.getD_eq_getElem?_getD, hv]; rfl) (fun hl => by cases hl)
 obtain ⟨e1, e2⟩ := args_vals hlen hsz hargs hA hc (caps_up (fun _ h => h) hcaps)
 exact lend_core h ho e1 e2 hg hap hok hol hd

/-- A closure is lent what it captured. -/
theorem ocl_sound (h : Fr E.T N gh s a w S Fs) {xs : List (Operand × TypeId)} (hxs : ∀ q ∈ xs, opdOk N q.1) {as caps cs : List D} {ls lc : List (Place × D)} (ha : argsD E true pm s 0 xs = some (as, ls)) (hoc : oclArg pm s ls.length caps = some (cs, lc))
  {args vcaps : Array Value} (hsz : args.size = xs.length) (hargs : ∀ (i : Nat) (q : Operand × TypeId), xs[i]? = some q → args[i]? = some (a.eval q.1)) {f : FuncId} {us : Nat → Value}
  (hc : vcaps.size = caps.length) (hcx : ∀ (i : Nat) (d : D), caps[i]? = some d → vcaps[i]? = some (us i)) (hcw : ∀ (i : Nat) (d : D), caps[i]? = some d → WR E.T s (rvOf a gh) w S d (us i) (fun _ => False))
  (hself : ∀ i, caps[i]? = some D.undef → ∃ ad, us i = .pointer (some ad) ∧ S ad.block ∧ w.cell? (ad.add 0) = some (.func (.func f) #[] vcaps))
  {r : D} {outs : List D} (hg : Good P E.T f (as ++ cs.map (selfArg f cs)) ((ls ++ lc).map (·.2)) r outs) (hap : apartL ((ls ++ lc).map (·.1)) = true) (hok : (ls ++ lc).all (fun l => okD l.2) = true) (hol : outs.length = (ls ++ lc).length) {dst : Option Tmp} (hd : dstOk N dst) :
  Calls P f (args ++ vcaps) w fun | .returned v, w' => Post E.T gh N ((backL s ((ls ++ lc).map (·.1)) outs).putO dst r) w S Fs (a.put dst v) w' | _, _ => False := by
 obtain ⟨lv1, ho1, hlen, hgi⟩ := argsD_gives h.rel h.small xs 0 hxs ha
 obtain ⟨lv2, ho2, hlc, hun, hgo⟩ := oclArg_gives caps ls.length us hcw hoc
 have ho := ho1.append ho2
 have hgd : ∀ (i : Nat) (v : Value), (lv1 ++ lv2)[i]? = some v → (lv1 ++ lv2).getD i undef = v := fun i v hv => by rw [List.getD_eq_getElem?_getD, hv]; rfl
 have hA := Gives.left (l2 := lc) (v2 := lv2) ho1 hgi (fun j => (lv1 ++ lv2).getD j undef) S (fun _ h => h) (fun _ i v hv => by rw [Nat.zero_add]; exact hgd i v hv) (fun hl => by cases hl)
 have hO := Gives.right (l1 := ls) (v1 := lv1) (j := 0) ho1 (by rw [Nat.zero_add]; exact hgo) (fun j => (lv1 ++ lv2).getD j undef) S (fun _ h => h) (fun _ i v hv => by rw [Nat.zero_add]; exact hgd i v hv) (fun hl => by cases hl)
 have hvi : ∀ (i : Nat) (d : D), cs[i]? = some d → vcaps[i]? = some (us i) := fun i d hi => by
  have hlt := (List.getElem?_eq_some_iff.1 hi).1
  exact hcx i _ (List.getElem?_eq_getElem (by rw [← hlc]; exact hlt))
 obtain ⟨e1, e2⟩ := args_vals hlen hsz hargs hA (caps := cs.map (selfArg f cs)) (vcaps := vcaps) (by rw [hc, List.length_map, hlc]) (fun i d hi => by
  rw [List.getElem?_map] at hi
  obtain ⟨x, hx, rfl⟩ := Option.map_eq_some_iff.1 hi
  refine ⟨us i, hvi i x hx, ?_⟩
  by_cases hu : x = D.undef
  ·subst hu
   obtain ⟨ad, s1, s2, s3⟩ := hself i (hun i hx)
   rw [s1]
   exact .ocl us (fun _ h => h) (by rw [hc, hlc]) hvi hO (fun k hk => hself k (hun k hk)) (.inr ⟨rfl, ad, rfl, s2, s3⟩)
  ·have : selfArg f cs x = x := by unfold selfArg; split <;> first | exact absurd rfl hu | rfl
   rw [this]
   exact hO i x hx)
 exact lend_core h ho e1 e2 hg hap hok hol hd

theorem callsOkD (hK : Contract P E) : CallsD P E := by
 intro pm s s' gh a w S Fs N Q o c f caps vcaps ts h hok hop hsz hcd hvc hcaps hrun
 obtain ⟨hd, hx⟩ := hok
 have hxs : ∀ q ∈ c.args.toList.zip ts, opdOk N q.1 := fun q hq => hx q.1 (by
  have := (List.of_mem_zip hq).1
  rw [hop]; simp only [Op.operands, Call.operands]; simp; right; simpa using this)
 obtain ⟨z1, z2⟩ := zip_args (a := a) hsz
 have key : ∀ {args lent : List D} {r : D} {outs : List D}, Good P E.T f args lent r outs → (Calls P f (c.args.map a.eval ++ vcaps) w fun | .returned v, w' => Post E.T gh N s' w S Fs (a.put o.dst v) w' | _, _ => False) → o.wp P a w (Post E.T gh N s' w S Fs) Q := by
  intro args lent r outs hg hcalls
  obtain ⟨⟨fn, hf, hb, hn⟩, _⟩ := hg
  unfold Oper.wp
  rw [hrun, run_callFunc hf hb hn, Oper.upon_enter]
  refine Calls.mono hcalls ?_
  intro e w' he
  cases e with
  | returned v => exact he
  | panicked => exact he.elim
  | outgrown => exact he.elim
 unfold callD at hcd
 split at hcd
 ·split at hcd
  ·cases hcd
  ·rename_i as ls ha
   split at hcd
   ·rename_i hcond
    simp only [Bool.and_eq_true] at hcond
    split at hcd
    ·rename_i r outs hcall
     split at hcd
     ·rename_i hol
      simp only [Option.some.injEq] at hcd
      subst hcd
      exact key (hK _ _ _ _ _ hcall) (lend_sound h hxs ha z1 z2 hvc hcaps (hK _ _ _ _ _ hcall) hcond.1.1 hcond.2 hol hd)
     ·cases hcd
    ·cases hcd
   ·cases hcd
 ·split at hcd
  ·cases hcd
  ·rename_i as ls ha
   split at hcd
   ·rename_i r outs hcall
    split at hcd
    ·split at hcd
     ·rename_i hcond
      simp only [Bool.and_eq_true] at hcond
      simp only [Option.map_eq_some_iff] at hcd
      obtain ⟨ls', hfz, rfl⟩ := hcd
      exact key (hK _ _ _ _ _ hcall) (share_sound h hxs ha z1 z2 hvc hcaps (hK _ _ _ _ _ hcall) hcond.1 hfz hd)
     ·cases hcd
    ·rename_i hno
     simp only [Option.some.injEq] at hcd
     subst hcd
     exact key (hK _ _ _ _ _ hcall) (borrow_sound h hxs ha z1 z2 hvc hcaps (hK _ _ _ _ _ hcall) (by simpa using hno) hd)
   ·cases hcd
theorem callsOkO (hK : Contract P E) : CallsO P E := by
 intro pm s s' gh a w S Fs N Q o c f caps vcaps us h hok hop hsz hcd hvc hcx hcw hself hrun
 obtain ⟨hd, hx⟩ := hok
 have hxs : ∀ q ∈ c.args.toList.zip c.argTypes.toList, opdOk N q.1 := fun q hq => hx q.1 (by
  have := (List.of_mem_zip hq).1
  rw [hop]; simp only [Op.operands, Call.operands]; simp; right; simpa using this)
 obtain ⟨z1, z2⟩ := zip_args (a := a) (ts := c.argTypes.toList) (by simpa using hsz)
 unfold callO at hcd
 split at hcd
 ·cases hcd
 ·rename_i as ls ha
  split at hcd
  ·cases hcd
  ·rename_i cs lc hoc
   split at hcd
   ·rename_i hcond
    simp only [Bool.and_eq_true] at hcond
    split at hcd
    ·rename_i r outs hcall
     split at hcd
     ·rename_i hol
      simp only [Option.some.injEq] at hcd
      subst hcd
      have hg := hK _ _ _ _ _ hcall
      have hcalls := ocl_sound h hxs ha hoc z1 z2 hvc hcx hcw hself hg hcond.1.1 hcond.2 hol hd
      obtain ⟨⟨fn, hf, hb, hn⟩, _⟩ := hg
      unfold Oper.wp
      rw [hrun, run_callFunc hf hb hn, Oper.upon_enter]
      refine Calls.mono hcalls ?_
      intro e w' he
      cases e with
      | returned v => exact he
      | panicked => exact he.elim
      | outgrown => exact he.elim
     ·cases hcd
    ·cases hcd
   ·cases hcd
theorem callsOk (hK : Contract P E) : CallsOk P E := ⟨callsOkD hK, callsOkO hK⟩
end
end Dv
/- Value semantics for Go code: a whole function. Conditions: the types are what the table says; each call that is known has its contract; the program follows mixed orders. -/
namespace Dv
open Go

/-- The value of one result. -/
def resV (a : Act) : ResultVar → Sem Value
 | .tmp t => pure (a.tmps.getD t undef)
 | .cell x t => do loadVar t (← asAddr (a.tmps.getD x undef))

def resOk (N : Nat) : ResultVar → Bool
 | .tmp t => decide (t < N)
 | .cell t _ => decide (t < N)

section
variable {P : Program} {T : Tys} {s s' : St} {gh : Nat → Value} {a : Act} {w w' : World} {S : Nat → Prop} {Fs : Nat → Nat → Prop} {N : Nat}

theorem rv_tmp (hG : N ≤ G) {t : Nat} (ht : t < N) : a.tmps.getD t undef = rvOf a gh t := by
 have : t < G := by omega
 simp [rvOf, this]

theorem run_loadVar1 (h : TyOk P T) {t : TypeId} (hk : T.known t = true) (hs : T.isStruct t = false) {w : World} {A : Addr} {u : Value} (hc : w.cell? A = some u) : (loadVar t A).run P w = .ok u w := by
 simp [loadVar, h.isAgg hk, hs, hc]
theorem run_loadVarS (h : TyOk P T) {t : TypeId} (hk : T.known t = true) (hs : T.isStruct t = true) {w : World} {A : Addr} (f : Nat → Value) (hc : ∀ j, j < T.size t → w.cell? (A.add j) = some (f j)) :
  (loadVar t A).run P w = .ok (.agg ((List.range (T.size t)).map f).toArray) w := by
 simp [loadVar, h.isAgg hk, hs, h.szOf hk, run_loadCells w A (T.size t) f hc]

theorem resD_sound (hT : TyOk P T) (h : Rel T s (rvOf a gh) w S Fs) (hG : N ≤ G) {r : ResultVar} (hr : resOk N r = true) {d : D} (hd : resD T s r = some (d, s')) :
  ∃ v, (resV a r).run P w = .ok v w ∧ ∃ S' Fs' F, Rel T s' (rvOf a gh) w S' Fs' ∧ Hand T s' (rvOf a gh) w S' Fs' d v F ∧ Keeps s w (rvOf a gh) s' w (rvOf a gh) ∧ Sub S Fs S' Fs' F := by
 cases r with
 | tmp t =>
  simp only [resOk, decide_eq_true_eq] at hr
  have ht : take T Pm.all s 0 (.tmp t) = some (d, s') := by simpa [take, ev, resD] using hd
  obtain ⟨S', Fs', F, h1, h2, h3, h4, h5, h6⟩ := take_sound h hG (x := .tmp t) hr ht
  rw [eval_tmp (gh := gh) hG hr] at h2
  refine ⟨rvOf a gh t, by simp only [resV, Sem.run_pure]; rw [rv_tmp (gh := gh) hG hr], S', Fs', F, h1, h2, h3, h4.sS, fun k hk => ?_, h6, h5⟩
  rcases h4.sS' k hk with h | h | h
  ·exact .inl h
  ·exact .inr h
  ·have := h1.lt k hk; omega
 | cell t ty =>
  simp only [resOk, decide_eq_true_eq] at hr
  simp only [resD] at hd
  split at hd
  ·rename_i hk
   have hW := h.val t
   split at hd
   ·rename_i xs hv
    rw [hv] at hW
    have hrv := rv_tmp (a := a) (gh := gh) hG hr
    generalize hgen : rvOf a gh t = v0 at hW
    cases hW with
    | box us Fi hb hz hx hF hFb hdj hS hw =>
     rename_i ty0 b cs
     have hcell : ∀ i x, xs[i]? = some x → w.cell? (Addr.add ⟨b, 0, none⟩ i) = some (us i) := fun i x hi => by rw [cell_of hb]; exact hx i x hi
     have hkc := Keeps.clr s w (rvOf a gh) t
     have hcl := h.clr t
     have hnF : ∀ i u k, i < xs.length → Fi i k → ¬ upd Fs t (fun _ => False) u k := fun i u k hi hf hu => by
      by_cases hut : u = t
      ·subst hut; simp [upd_same] at hu
      ·rw [upd_other _ _ hut] at hu; exact h.disj u t k hut hu ((hF k).2 (.inr ⟨i, hi, hf⟩))
     have hsub : ∀ u k, upd Fs t (fun _ => False) u k → Fs u k := fun u k hu => by
      by_cases hut : u = t
      ·subst hut; simp [upd_same] at hu
      ·rwa [upd_other _ _ hut] at hu
     split at hd
     ·rename_i hst
      split at hd
      ·rename_i hlen
       simp only [Option.map_eq_some_iff, Prod.mk.injEq] at hd
       obtain ⟨⟨ys, s1⟩, hts, rfl, rfl⟩ := hd
       obtain ⟨S', Fs', Gi, r1, r2, r3, r4, r5, r6, r7, r8, r9, r10⟩ := takeDs_sound xs hts hcl us Fi (fun i x hi => WR.same (hw i x hi) hkc) hnF hdj
       refine ⟨.agg ((List.range (T.size ty)).map us).toArray, ?_, S', Fs', fun k => ∃ i, i < ys.length ∧ Gi i k, r1, ⟨?_, fun u k ⟨i, hi, hk⟩ => r4 i u k hi hk⟩, hkc.trans r6, r7, fun k hs => ?_, fun u k hu => hsub u k (r9 u k hu), fun k ⟨i, hi, hk⟩ => ?_⟩
       ·simp only [resV, hrv, hgen, asAddr, Sem.run_bind, Sem.run_pure]
        exact run_loadVarS hT hk hst us (fun j hj => hcell j _ (List.getElem?_eq_getElem (by omega)))
       ·refine .agg us Gi (by simp [r2, hlen]) (fun i x hi => ?_) (fun _ => Iff.rfl) r5 r3
        have := (List.getElem?_eq_some_iff.1 hi).1
        simp only at this r2
        have hi' : i < T.size ty := by omega
        simp [hi']
       ·rcases r8 k hs with h | ⟨u, hu⟩ | ⟨i, hi, hf⟩
        ·exact .inl h
        ·exact .inr ⟨u, hsub u k hu⟩
        ·exact .inr ⟨t, (hF k).2 (.inr ⟨i, hi, hf⟩)⟩
       ·rcases r10 i k hi hk with hf | ⟨u, hu⟩
        ·exact ⟨t, (hF k).2 (.inr ⟨i, by omega, hf⟩)⟩
        ·exact ⟨u, hsub u k hu⟩
      ·cases hd
     ·rename_i hst
      split at hd
      ·rename_i d0
       obtain ⟨S', Fs', F', r1, r2, r3, r4⟩ := takeD_sound d0 hd hcl ⟨WR.same (hw 0 d0 rfl) hkc, fun u k hf => hnF 0 u k (by simp) hf⟩
       refine ⟨us 0, ?_, S', Fs', F', r1, r2, hkc.trans r3, r4.sS, fun k hs => ?_, fun u k hu => hsub u k (r4.sF u k hu), fun k hk => ?_⟩
       ·simp only [resV, hrv, hgen, asAddr, Sem.run_bind, Sem.run_pure]
        have h0 := hcell 0 d0 rfl
        rw [add_zero] at h0
        exact run_loadVar1 hT hk (by simpa using hst) h0
       ·rcases r4.sS' k hs with h | ⟨u, hu⟩ | hf
        ·exact .inl h
        ·exact .inr ⟨u, hsub u k hu⟩
        ·exact .inr ⟨t, (hF k).2 (.inr ⟨0, by simp, hf⟩)⟩
       ·rcases r4.sH k hk with hf | ⟨u, hu⟩
        ·exact ⟨t, (hF k).2 (.inr ⟨0, by simp, hf⟩)⟩
        ·exact ⟨u, hsub u k hu⟩
      ·cases hd
   ·rename_i xs hv
    rw [hv] at hW
    have hrv := rv_tmp (a := a) (gh := gh) hG hr
    generalize hgen : rvOf a gh t = v0 at hW
    cases hW with
    | cptr us hE hx hw =>
     rename_i ad
     split at hd
     ·rename_i hst
      split at hd
      ·rename_i hlen
       simp only [Option.some.injEq, Prod.mk.injEq] at hd
       obtain ⟨rfl, rfl⟩ := hd
       refine ⟨.agg ((List.range (T.size ty)).map us).toArray, ?_, S, Fs, fun _ => False, h, ⟨?_, fun _ _ h => h.elim⟩, Keeps.refl _ _ _, fun _ h => h, fun _ h => .inl h, fun _ _ h => h, fun _ h => h.elim⟩
       ·simp only [resV, hrv, hgen, asAddr, Sem.run_bind, Sem.run_pure]
        exact run_loadVarS hT hk hst us (fun j hj => (hx j _ (List.getElem?_eq_getElem (by omega))).2)
       ·refine .agg us (fun _ _ => False) (by simp [hlen]) (fun i x hi => ?_) (fun k => ⟨fun h => h.elim, fun ⟨_, _, h⟩ => h⟩) (fun _ _ _ _ _ _ h => h.elim) (fun i x hi => (hw i x hi).up)
        have := (List.getElem?_eq_some_iff.1 hi).1
        have hi' : i < T.size ty := by omega
        simp [hi']
      ·cases hd
     ·rename_i hst
      split at hd
      ·rename_i d0
       simp only [Option.some.injEq, Prod.mk.injEq] at hd
       obtain ⟨rfl, rfl⟩ := hd
       refine ⟨us 0, ?_, S, Fs, fun _ => False, h, ⟨(hw 0 d0 rfl).up, fun _ _ h => h.elim⟩, Keeps.refl _ _ _, fun _ h => h, fun _ h => .inl h, fun _ _ h => h, fun _ h => h.elim⟩
       simp only [resV, hrv, hgen, asAddr, Sem.run_bind, Sem.run_pure]
       have h0 := (hx 0 d0 rfl).2
       rw [add_zero] at h0
       exact run_loadVar1 hT hk (by simpa using hst) h0
      ·cases hd
   ·cases hd
  ·cases hd

theorem resDs_sound (hT : TyOk P T) (hG : N ≤ G) : ∀ (rs : List ResultVar) {s s' : St} {S : Nat → Prop} {Fs : Nat → Nat → Prop} {ds : List D}, Rel T s (rvOf a gh) w S Fs → rs.all (resOk N) = true → resDs T s rs = some (ds, s') →
  ∃ vs : List Value, (rs.mapM (resV a)).run P w = .ok vs w ∧ vs.length = rs.length ∧ ds.length = rs.length ∧ ∃ (S' : Nat → Prop) (Fs' Gi : Nat → Nat → Prop), Rel T s' (rvOf a gh) w S' Fs' ∧
   (∀ (i : Nat) (d : D), ds[i]? = some d → ∃ v, vs[i]? = some v ∧ WR T s' (rvOf a gh) w S' d v (Gi i)) ∧ (∀ i t k, i < ds.length → Gi i k → ¬ Fs' t k) ∧ (∀ i j k, i < ds.length → j < ds.length → i ≠ j → Gi i k → ¬ Gi j k) ∧
   Keeps s w (rvOf a gh) s' w (rvOf a gh) ∧ (∀ k, S k → S' k) ∧ (∀ k, S' k → S k ∨ ∃ u, Fs u k) ∧ (∀ u k, Fs' u k → Fs u k) ∧ (∀ i k, i < ds.length → Gi i k → ∃ u, Fs u k) := by
 intro rs
 induction rs with
 | nil =>
  intro s s' S Fs ds h _ hd
  simp only [resDs, Option.some.injEq, Prod.mk.injEq] at hd
  obtain ⟨rfl, rfl⟩ := hd
  exact ⟨[], by simp, rfl, rfl, S, Fs, fun _ _ => False, h, by simp, by simp, by simp, Keeps.refl _ _ _, fun _ h => h, fun _ h => .inl h, fun _ _ h => h, by simp⟩
 | cons r rs ih =>
  intro s s' S Fs ds h hok hd
  simp only [List.all_cons, Bool.and_eq_true] at hok
  simp only [resDs, Option.bind_eq_some_iff, Option.map_eq_some_iff, Prod.mk.injEq] at hd
  obtain ⟨⟨d, s1⟩, hd1, ⟨ds', s2⟩, hds, rfl, rfl⟩ := hd
  obtain ⟨v, hv, S1, Fs1, F, r1, r2, r3, r4⟩ := resD_sound (P := P) hT h hG hok.1 hd1
  obtain ⟨vs, hvs, hl1, hl2, S2, Fs2, Gi, q1, q2, q3, q4, q5, q6, q7, q8, q9⟩ := ih r1 hok.2 hds
  have hFS2 : ∀ k, F k → ¬ S2 k := fun k hf hs => by
   rcases q7 k hs with h | ⟨u, hu⟩
   ·exact r2.val.notS k hf h
   ·exact r2.apart u k hf hu
  refine ⟨v :: vs, by simp [List.mapM_cons, hv, hvs], by simp [hl1], by simp [hl2], S2, Fs2, fun i => match i with | 0 => F | i + 1 => Gi i, q1, fun i x hi => ?_, fun i t k hi => ?_, fun i j k hi hj hij => ?_, r3.trans q5, fun k hk => q6 k (r4.sS k hk), fun k hk => ?_, fun u k hu => r4.sF u k (q8 u k hu), fun i k hi => ?_⟩
  ·cases i with
   | zero =>
    simp only [List.getElem?_cons_zero, Option.some.injEq] at hi
    subst hi
    exact ⟨v, rfl, WR.keep r2.val q5 (fun k hk => ⟨q6 k hk, rfl⟩) (fun k hf => ⟨hFS2 k hf, rfl⟩)⟩
   | succ i => exact q2 i x (by simpa using hi)
  ·cases i with
   | zero => exact fun hf hu => r2.apart t k hf (q8 t k hu)
   | succ i => exact q3 i t k (by simpa using hi)
  ·cases i with
   | zero => cases j with
    | zero => exact (hij rfl).elim
    | succ j =>
     intro hf hg
     obtain ⟨u, hu⟩ := q9 j k (by simpa using hj) hg
     exact r2.apart u k hf hu
   | succ i => cases j with
    | zero =>
     intro hg hf
     obtain ⟨u, hu⟩ := q9 i k (by simpa using hi) hg
     exact r2.apart u k hf hu
    | succ j => exact q4 i j k (by simpa using hi) (by simpa using hj) (by omega)
  ·rcases q7 k hk with h | ⟨u, hu⟩
   ·exact r4.sS' k h
   ·exact .inr ⟨u, r4.sF u k hu⟩
  ·cases i with
   | zero => exact r4.sH k
   | succ i =>
    intro hg
    obtain ⟨u, hu⟩ := q9 i k (by simpa using hi) hg
    exact ⟨u, r4.sF u k hu⟩

theorem results_eq (fn : Func) : results fn a.tmps = (do let vs ← fn.results.mapM (resV a); pure (if h : vs.size = 1 then vs[0] else .tuple vs)) := by
 unfold results
 congr 1

theorem resultD_sound (hT : TyOk P T) (h : Rel T s (rvOf a gh) w S Fs) (hG : N ≤ G) {fn : Func} (hok : fn.results.toList.all (resOk N) = true) {d : D} (hd : resultD T s fn.results.toList = some (d, s')) :
  ∃ v, (results fn a.tmps).run P w = .ok v w ∧ ∃ S' Fs' F, Rel T s' (rvOf a gh) w S' Fs' ∧ Hand T s' (rvOf a gh) w S' Fs' d v F ∧ Keeps s w (rvOf a gh) s' w (rvOf a gh) ∧ Sub S Fs S' Fs' F := by
 unfold resultD at hd
 split at hd
 ·rename_i r hrs
  rw [hrs] at hok
  simp only [List.all_cons, List.all_nil, Bool.and_true] at hok
  obtain ⟨v, hv, rest⟩ := resD_sound (P := P) hT h hG hok hd
  refine ⟨v, ?_, rest⟩
  have : fn.results = #[r] := by rw [← Array.toArray_toList (xs := fn.results), hrs]
  rw [results_eq, this]
  simp [hv]
 ·rename_i hne
  simp only [Option.map_eq_some_iff, Prod.mk.injEq] at hd
  obtain ⟨⟨ds, s1⟩, hds, rfl, rfl⟩ := hd
  obtain ⟨vs, hvs, hl1, hl2, S2, Fs2, Gi, q1, q2, q3, q4, q5, q6, q7, q8, q9⟩ := resDs_sound (P := P) hT hG _ h hok hds
  refine ⟨.tuple vs.toArray, ?_, S2, Fs2, fun k => ∃ i, i < ds.length ∧ Gi i k, q1, ⟨?_, fun u k ⟨i, hi, hk⟩ => q3 i u k hi hk⟩, q5, q6, q7, q8, fun k ⟨i, hi, hk⟩ => q9 i k hi hk⟩
  ·rw [results_eq, Array.mapM_eq_mapM_toList]
   have hl : vs.length ≠ 1 := fun e => by
    rw [hl1] at e
    obtain ⟨r, hr⟩ := List.length_eq_one_iff.1 e
    exact hne r hr
   simp [hvs, hl]
  ·have hval : ∀ (i : Nat) (d : D), ds[i]? = some d → vs[i]? = some (vs.getD i undef) ∧ WR T s1 (rvOf a gh) w S2 d (vs.getD i undef) (Gi i) := fun i d hi => by
    obtain ⟨v, hv, hW⟩ := q2 i d hi
    rw [List.getD_eq_getElem?_getD, hv]; exact ⟨rfl, hW⟩
   exact .tup (fun i => vs.getD i undef) Gi (by simp [hl1, hl2]) (fun i x hi => by simpa using (hval i x hi).1) (fun _ => Iff.rfl) q4 (fun i x hi => (hval i x hi).2)

end

/-- What is asked of a function's form. -/
def fnOk (fn : Func) (n : Nat) : Bool :=
 (match fn.body with | some c => codeOkB fn.ntmps c | none => false) && fn.results.toList.all (resOk fn.ntmps) && decide (fn.ntmps ≤ G) && decide (n ≤ fn.ntmps) && !(fn.name == "runtime.NumGoroutine")

theorem okL_V0 {T : Tys} {S : Nat → Prop} {w : World} {V : Place → Nat → Nat → Value → Prop} {Vp : Place → Nat → Nat → Nat → Value → Prop} {d : D} {v : Value} {F : Nat → Prop} (h : W T S w V Vp d v F) (ho : okL d = true) : W T S w V0 Vp0 d v F := by
 unfold okL at ho
 split at ho
 ·cases h with | undef h => exact .undef h
 ·exact frz_V0 _ h ho

theorem runF_good {P : Program} {E : Env} (hT : TyOk P E.T) (hm : P.follows .mixedOrders = true) (hK : Contract P E) {f : FuncId} {fn : Func} (hf : P.funcs[f]? = some fn) {args lent : List D} {r : D} {outs : List D}
  (hok : fnOk fn args.length = true) (hr : runF E fn args lent = some (r, outs)) : Good P E.T f args lent r outs := by
 simp only [fnOk, Bool.and_eq_true, decide_eq_true_eq, Bool.not_eq_true'] at hok
 obtain ⟨⟨⟨⟨hcode, hres⟩, hG⟩, hargs⟩, hname⟩ := hok
 unfold runF at hr
 cases hb : fn.body with
 | none => simp [hb] at hr
 | some c =>
  rw [hb] at hcode hr
  simp only at hcode hr
  refine ⟨⟨fn, hf, by simp [hb], hname⟩, fun vs gh w S FL hsz hA hL hL0 hLd hlt hinv => ?_⟩
  refine calls_of_wp hf hb ?_
  have hent : Fr E.T fn.ntmps gh (entry args lent) { tmps := vs ++ Array.replicate (fn.ntmps - vs.size) undef, defers := [] } w S (fun t => if t < G then fun _ => False else FL (t - G)) := by
   refine ⟨⟨fun t => ?_, fun t u k htu => ?_, hlt⟩, rfl, by simp; omega, hG, hinv⟩
   ·by_cases htG : t < G
    ·simp only [entry, htG, if_true, rvOf]
     cases ha : args[t]? with
     | none => rw [List.getD_eq_getElem?_getD, ha]; exact .undef fun _ h => h
     | some d =>
      obtain ⟨v, hv, hW⟩ := hA t d ha
      have hvt : (vs ++ Array.replicate (fn.ntmps - vs.size) undef).getD t undef = v := by
       rw [Array.getD_eq_getD_getElem?, Array.getElem?_append_left (by rw [hsz]; exact (List.getElem?_eq_some_iff.1 ha).1), hv]; rfl
      rw [List.getD_eq_getElem?_getD, ha]
      simp only [Option.getD_some]
      rw [hvt]
      refine W.mono (fun k hk => ⟨hk, rfl⟩) hW _ _ ?_ (fun _ _ _ _ _ h => h.elim) (fun _ h => h.elim)
      rintro L n m u ⟨j, rfl, rfl, rfl, rfl⟩
      refine ⟨⟨Nat.zero_le _, Nat.zero_le _⟩, fun _ => ?_⟩
      have : ¬ G + j < G := by omega
      simp [foll, followV, rvOf, this]
    ·simp only [entry, htG, if_false, rvOf]
     cases hl : lent[t - G]? with
     | none => rw [List.getD_eq_getElem?_getD, hl]; exact .undef (hL0 _ (by simpa using hl))
     | some d => rw [List.getD_eq_getElem?_getD, hl]; exact (hL _ d hl).up
   ·by_cases h1 : t < G
    ·simp [h1]
    ·by_cases h2 : u < G
     ·simp [h1, h2]
     ·simp only [h1, h2, if_false]; exact hLd _ _ k (by omega)
  have hfin : ∀ (s1 : St) (a1 : Act) (w1 : World), finD E.T lent.length fn.results.toList s1 = some (r, outs) → Post E.T gh fn.ntmps s1 w S (fun t => if t < G then fun _ => False else FL (t - G)) a1 w1 →
    a1.defers = [] ∧ ∃ v, (results fn a1.tmps).run P w1 = .ok v w1 ∧ CallPost E.T gh r outs w S FL v w1 := by
   intro s1 a1 w1 hfd hp
   obtain ⟨S1, Fs1, hrel, hst, hdef, hsz1⟩ := hp
   refine ⟨hdef, ?_⟩
   unfold finD at hfd
   split at hfd
   ·cases hfd
   ·rename_i r0 s2 hres2
    split at hfd
    ·rename_i hoks
     simp only [Bool.and_eq_true] at hoks
     simp only [Option.some.injEq, Prod.mk.injEq] at hfd
     obtain ⟨rfl, rfl⟩ := hfd
     obtain ⟨v, hv, S2, Fs2, F, p1, p2, p3, p4⟩ := resultD_sound (P := P) hT hrel hG hres hres2
     have hFs : ∀ u k, Fs1 u k → (∃ j, FL j k) ∨ w.heap.size ≤ k := fun u k hu => by
      rcases hst.sF u k hu with ⟨u', h⟩ | h
      ·by_cases hu' : u' < G
       ·simp [hu'] at h
       ·simp only [hu', if_false] at h; exact .inl ⟨_, h⟩
      ·exact .inr h
     refine ⟨v, hv, S2, F, fun j => Fs2 (G + j), frz_V0 _ p2.val (by simpa [okD] using hoks.1), fun j d hj => ?_, fun i j k hij => p1.disj _ _ k (by omega), fun j k hf => p2.apart _ k hf, ⟨hst.os, hst.tape, hst.output, hst.size, fun k hk hn => hst.heap k hk (fun u hu => ?_), fun k hk => p4.sS k (hst.sS k hk), fun k hk => ?_, fun j k hj => hFs _ k (p4.sF _ k hj)⟩, fun k hk => ?_, p1.lt⟩
     ·rw [List.getElem?_map] at hj
      obtain ⟨j', hj', rfl⟩ := Option.map_eq_some_iff.1 hj
      have hj2 := List.getElem?_eq_some_iff.1 hj'
      obtain ⟨hlt', hjj⟩ := hj2
      simp only [List.getElem_range] at hjj
      subst hjj
      have hall := List.all_eq_true.1 hoks.2 (s2.v (G + j)) (List.mem_map.2 ⟨j, List.mem_range.2 (by simpa using hlt'), rfl⟩)
      have hW := p1.val (G + j)
      have hrv : rvOf a1 gh (G + j) = gh j := by
       have : ¬ G + j < G := by omega
       simp [rvOf, this]
      rw [hrv] at hW
      exact okL_V0 hW hall
     ·by_cases hu' : u < G
      ·simp [hu'] at hu
      ·simp only [hu', if_false] at hu; exact hn _ hu
     ·rcases p4.sS' k hk with h | ⟨u, hu⟩
      ·rcases hst.sS' k h with h | ⟨u, hu⟩ | h
       ·exact .inl h
       ·by_cases hu' : u < G
        ·simp [hu'] at hu
        ·simp only [hu', if_false] at hu; exact .inr (.inl ⟨_, hu⟩)
       ·exact .inr (.inr h)
      ·exact .inr (hFs u k hu)
     ·obtain ⟨u, hu⟩ := p4.sH k hk
      exact hFs u k hu
    ·cases hfd
  cases hx : exec E c (entry args lent) with
  | none => simp [hx] at hr
  | some q =>
   obtain ⟨ex, s1⟩ := q
   rw [hx] at hr
   refine wp_mono (exec_sound hT (callsOk hK) (drawsOk hm hT (callsOk hK)) c hcode hent hx) ?_
   rintro e a1 w1 ⟨rfl, hp⟩
   cases ex with
   | normal => exact hfin s1 a1 w1 hr hp
   | ret => exact hfin s1 a1 w1 hr hp
   | exit id => simp at hr
end Dv
/- Value semantics for Go code: what calls come to, as a least fixed point; one soundness theorem. Conditions: the types are what the table says; the program follows mixed orders. -/
namespace Dv
open Go

abbrev CallT := FuncId → List D → List D → Option (D × List D)

/-- Whatever the one knows, the others know from some number on. -/
def Lim (c : CallT) (cn : Nat → CallT) : Prop := ∀ f a l r, c f a l = some r → ∃ n, ∀ m, n ≤ m → cn m f a l = some r

section
variable {T : Tys} {lends : FuncId → Bool} {c : CallT} {cn : Nat → CallT}

theorem argsD_env (lend : Bool) (pm : Pm) (s : St) (c c' : CallT) : ∀ (xs : List (Operand × TypeId)) (j : Nat), argsD ⟨T, lends, c⟩ lend pm s j xs = argsD ⟨T, lends, c'⟩ lend pm s j xs := by
 intro xs
 induction xs with
 | nil => intro j; rfl
 | cons q xs ih =>
  intro j
  obtain ⟨x, t⟩ := q
  simp only [argsD]
  cases ev T s t x with
  | none => rfl
  | some d =>
   simp only
   cases argX T lend pm s j (match x with | .tmp u => [u] | _ => []) d with
   | none => rfl
   | some q => simp only; rw [ih]

theorem callD_lim (h : Lim c cn) {pm : Pm} {s s' : St} {dst : Option Tmp} {f : FuncId} {xs : List (Operand × TypeId)} {caps : List D} (hd : callD ⟨T, lends, c⟩ pm s dst f xs caps = some s') :
  ∃ n, ∀ m, n ≤ m → callD ⟨T, lends, cn m⟩ pm s dst f xs caps = some s' := by
 unfold callD at hd
 simp only at hd
 by_cases hl : lends f = true
 ·rw [if_pos hl] at hd
  cases ha : argsD ⟨T, lends, c⟩ true pm s 0 xs with
  | none => simp [ha] at hd
  | some q =>
   obtain ⟨as, ls⟩ := q
   simp only [ha] at hd
   split at hd
   ·rename_i hcond
    cases hc : c f (as ++ caps) (ls.map (·.2)) with
    | none => simp [hc] at hd
    | some r =>
     obtain ⟨n, hn⟩ := h _ _ _ _ hc
     refine ⟨n, fun m hm => ?_⟩
     unfold callD
     simp only
     rw [if_pos hl, argsD_env true pm s (cn m) c, ha]
     simp only
     rw [if_pos hcond, hn m hm]
     rw [hc] at hd
     exact hd
   ·cases hd
 ·rw [if_neg hl] at hd
  cases ha : argsD ⟨T, lends, c⟩ false pm s 0 xs with
  | none => simp [ha] at hd
  | some q =>
   obtain ⟨as, ls⟩ := q
   simp only [ha] at hd
   cases hc : c f (as ++ caps) [] with
   | none => simp [hc] at hd
   | some r =>
    obtain ⟨n, hn⟩ := h _ _ _ _ hc
    refine ⟨n, fun m hm => ?_⟩
    unfold callD
    simp only
    rw [if_neg hl, argsD_env false pm s (cn m) c, ha]
    simp only
    rw [hn m hm]
    rw [hc] at hd
    exact hd

theorem callO_lim (h : Lim c cn) {pm : Pm} {s s' : St} {dst : Option Tmp} {f : FuncId} {xs : List (Operand × TypeId)} {caps : List D} (hd : callO ⟨T, lends, c⟩ pm s dst f xs caps = some s') :
  ∃ n, ∀ m, n ≤ m → callO ⟨T, lends, cn m⟩ pm s dst f xs caps = some s' := by
 unfold callO at hd
 simp only at hd
 cases ha : argsD ⟨T, lends, c⟩ true pm s 0 xs with
 | none => simp [ha] at hd
 | some q =>
  obtain ⟨as, ls⟩ := q
  simp only [ha] at hd
  cases ho : oclArg pm s ls.length caps with
  | none => simp [ho] at hd
  | some p =>
   obtain ⟨cs, lc⟩ := p
   simp only [ho] at hd
   split at hd
   ·rename_i hcond
    cases hc : c f (as ++ cs.map (selfArg f cs)) ((ls ++ lc).map (·.2)) with
    | none => simp only [hc] at hd; cases hd
    | some r =>
     obtain ⟨n, hn⟩ := h _ _ _ _ hc
     refine ⟨n, fun m hm => ?_⟩
     unfold callO
     simp only
     rw [argsD_env true pm s (cn m) c, ha]
     simp only [ho]
     rw [if_pos hcond, hn m hm]
     rw [hc] at hd
     exact hd
   ·cases hd

theorem opD_lim (h : Lim c cn) {pm : Pm} {s s' : St} {o : Oper} (hd : opD ⟨T, lends, c⟩ pm s o = some s') : ∃ n, ∀ m, n ≤ m → opD ⟨T, lends, cn m⟩ pm s o = some s' := by
 unfold opD at hd ⊢
 cases hop : o.op <;> simp only [hop] at hd ⊢
 case call cl =>
  cases hcal : cl.callee <;> simp only [hcal] at hd ⊢
  case builtin b => cases b <;> simp only at hd ⊢ <;> exact ⟨0, fun _ _ => hd⟩
  case value fo =>
   cases fo <;> simp only at hd ⊢
   case func f =>
    split at hd
    ·rename_i hsz
     simp only [hsz, if_true]
     split at hd
     ·rename_i hty
      obtain ⟨s1, h1, h2⟩ := Option.bind_eq_some_iff.1 hd
      obtain ⟨n, hn⟩ := callD_lim h h1
      refine ⟨n, fun m hm => ?_⟩
      rw [if_pos hty, hn m hm]
      exact h2
     ·rename_i hty
      simp only [if_neg hty]
      exact callD_lim h hd
    ·cases hd
   case tmp u =>
    cases hv : s.v u <;> simp only [hv] at hd ⊢
    case clo f caps =>
     split at hd
     ·rename_i hsz
      simp only [hsz, if_true]
      exact callD_lim h hd
     ·cases hd
    case ocl b f caps =>
     cases b
     ·simp only at hd ⊢
      split at hd
      ·rename_i hsz
       simp only [hsz, if_true]
       exact callO_lim h hd
      ·cases hd
     ·cases hd
    all_goals (cases hd)
   all_goals (cases hd)
  all_goals (cases hd)
 case makeFunc fn first captured => cases fn <;> exact ⟨0, fun _ _ => hd⟩
 all_goals exact ⟨0, fun _ _ => hd⟩

theorem stepD_lim (h : Lim c cn) {ops : Array Oper} {pm : Pm} {s s' : St} {o : Oper} (hd : stepD ⟨T, lends, c⟩ ops pm s o = some s') : ∃ n, ∀ m, n ≤ m → stepD ⟨T, lends, cn m⟩ ops pm s o = some s' := by
 unfold stepD at hd ⊢
 split at hd
 ·exact opD_lim h hd
 ·exact ⟨0, fun _ _ => hd⟩
 ·cases hd

theorem seqD_lim (h : Lim c cn) {ops : Array Oper} : ∀ (l : List Oper) {s s' : St}, seqD ⟨T, lends, c⟩ ops s l = some s' → ∃ n, ∀ m, n ≤ m → seqD ⟨T, lends, cn m⟩ ops s l = some s' := by
 intro l
 induction l with
 | nil => intro s s' hd; exact ⟨0, fun _ _ => hd⟩
 | cons o l ih =>
  intro s s' hd
  simp only [seqD, Option.bind_eq_some_iff] at hd ⊢
  obtain ⟨s1, h1, h2⟩ := hd
  obtain ⟨n1, e1⟩ := stepD_lim h h1
  obtain ⟨n2, e2⟩ := ih h2
  exact ⟨max n1 n2, fun m hm => ⟨s1, e1 m (by omega), e2 m (by omega)⟩⟩

theorem drawD_lim (h : Lim c cn) {ops : Array Oper} {l0 : List Oper} : ∀ (l : List Oper) {s s' : St}, drawD ⟨T, lends, c⟩ ops l0 s l = some s' → ∃ n, ∀ m, n ≤ m → drawD ⟨T, lends, cn m⟩ ops l0 s l = some s' := by
 intro l
 induction l with
 | nil => intro s s' hd; exact ⟨0, fun _ _ => hd⟩
 | cons o l ih =>
  intro s s' hd
  simp only [drawD] at hd ⊢
  split at hd
  ·rename_i hmv
   simp only [hmv, if_true]
   simp only [Option.bind_eq_some_iff] at hd ⊢
   obtain ⟨s1, h1, h2⟩ := hd
   obtain ⟨n1, e1⟩ := stepD_lim h h1
   obtain ⟨n2, e2⟩ := ih h2
   exact ⟨max n1 n2, fun m hm => ⟨s1, e1 m (by omega), e2 m (by omega)⟩⟩
  ·cases hd

theorem iterN_mono {step : St → Option (Ex × St)} : ∀ {n m : Nat} {s : St} {r : Ex × St}, n ≤ m → iterN step n s = some r → iterN step m s = some r := by
 intro n
 induction n with
 | zero => intro m s r _ h; simp [iterN] at h
 | succ n ih =>
  intro m s r hm h
  cases m with
  | zero => omega
  | succ m =>
   simp only [iterN] at h ⊢
   cases hs : step s with
   | none => simp [hs] at h
   | some q =>
    obtain ⟨ex, s1⟩ := q
    cases ex with
    | normal => simp only [hs] at h ⊢; exact ih (by omega) h
    | exit id => simp only [hs] at h ⊢; exact h
    | ret => simp only [hs] at h ⊢; exact h

theorem iter_of {step : St → Option (Ex × St)} {n : Nat} {s : St} {r : Ex × St} (h : iterN step n s = some r) : iter step s = some r := by
 unfold iter
 have hx : ∃ r n, iterN step n s = some r := ⟨r, n, h⟩
 rw [dif_pos hx]
 obtain ⟨n', h'⟩ := hx.choose_spec
 have h1 := iterN_mono (Nat.le_max_left n n') h
 have h2 := iterN_mono (Nat.le_max_right n n') h'
 rw [h1] at h2
 exact h2.symm

/-- A loop, one round at a time. -/
theorem iter_eq (step : St → Option (Ex × St)) (s : St) : iter step s = match step s with | none => none | some (.normal, s') => iter step s' | some r => some r := by
 cases hs : step s with
 | none =>
  simp only
  cases hi : iter step s with
  | none => rfl
  | some r =>
   obtain ⟨n, hn⟩ := iter_some hi
   cases n <;> simp [iterN, hs] at hn
 | some q =>
  obtain ⟨ex, s1⟩ := q
  cases ex with
  | normal =>
   simp only
   cases hi : iter step s with
   | some r =>
    obtain ⟨n, hn⟩ := iter_some hi
    cases n with
    | zero => simp [iterN] at hn
    | succ n => simp only [iterN, hs] at hn; exact (iter_of hn).symm
   | none =>
    cases hj : iter step s1 with
    | none => rfl
    | some r =>
     obtain ⟨n, hn⟩ := iter_some hj
     have : iterN step (n + 1) s = some r := by simp only [iterN, hs]; exact hn
     rw [iter_of this] at hi
     cases hi
  | exit id => simp only; exact iter_of (n := 1) (by simp [iterN, hs])
  | ret => simp only; exact iter_of (n := 1) (by simp [iterN, hs])

theorem exec_lim (h : Lim c cn) : ∀ (k : Code) {s : St} {r : Ex × St}, exec ⟨T, lends, c⟩ k s = some r → ∃ n, ∀ m, n ≤ m → exec ⟨T, lends, cn m⟩ k s = some r := by
 intro k
 induction k with
 | skip => intro s r hd; exact ⟨0, fun _ _ => hd⟩
 | region id ops draw =>
  intro s r hd
  simp only [exec] at hd ⊢
  split at hd
  ·rename_i hdr
   simp only [hdr, if_true]
   split at hd
   ·rename_i hok
    simp only [hok, if_true]
    simp only [Option.map_eq_some_iff] at hd ⊢
    obtain ⟨s1, h1, rfl⟩ := hd
    obtain ⟨n, hn⟩ := drawD_lim h _ h1
    exact ⟨n, fun m hm => ⟨s1, hn m hm, rfl⟩⟩
   ·cases hd
  ·rename_i hdr
   simp only [hdr]
   simp only [Option.map_eq_some_iff] at hd ⊢
   obtain ⟨s1, h1, rfl⟩ := hd
   obtain ⟨n, hn⟩ := seqD_lim h _ h1
   exact ⟨n, fun m hm => by simpa using hn m hm⟩
 | seq x y ihx ihy =>
  intro s r hd
  simp only [exec] at hd ⊢
  cases hany : anyI x y with
  | some q => rw [hany] at hd; exact ⟨0, fun m _ => hd⟩
  | none =>
  rw [hany] at hd
  simp only at hd ⊢
  cases hloan : loanI x y with
  | some q =>
   rw [hloan] at hd
   simp only at hd ⊢
   cases hx : exec ⟨T, lends, c⟩ x (loanSt s) with
   | none => simp [hx, loanR] at hd
   | some r1 =>
    obtain ⟨n1, e1⟩ := ihx hx
    obtain ⟨ex, s1⟩ := r1
    cases ex with
    | normal =>
     simp only [hx] at hd
     cases hy : exec ⟨T, lends, c⟩ y s1 with
     | none => simp [hy, loanR] at hd
     | some r2 =>
      obtain ⟨n2, e2⟩ := ihy hy
      rw [hy] at hd
      exact ⟨max n1 n2, fun m hm => by rw [e1 m (by omega)]; simp only; rw [e2 m (by omega)]; exact hd⟩
    | exit id => simp [hx, loanR] at hd
    | ret => simp [hx, loanR] at hd
  | none =>
  rw [hloan] at hd
  simp only at hd ⊢
  cases hx : exec ⟨T, lends, c⟩ x s with
  | none => simp [hx] at hd
  | some q =>
   obtain ⟨n1, e1⟩ := ihx hx
   obtain ⟨ex, s1⟩ := q
   cases ex with
   | normal =>
    simp only [hx] at hd
    obtain ⟨n2, e2⟩ := ihy hd
    exact ⟨max n1 n2, fun m hm => by rw [e1 m (by omega)]; exact e2 m (by omega)⟩
   | exit id => simp only [hx] at hd; exact ⟨n1, fun m hm => by rw [e1 m hm]; exact hd⟩
   | ret => simp only [hx] at hd; exact ⟨n1, fun m hm => by rw [e1 m hm]; exact hd⟩
 | cond x a b iha ihb =>
  intro s r hd
  simp only [exec] at hd ⊢
  cases hx : ev T s 0 x with
  | none => simp [hx] at hd
  | some d =>
   cases d <;> simp only [hx] at hd ⊢ <;> try (cases hd; done)
   rename_i t
   cases t with
   | true => simp only [if_true] at hd ⊢; exact iha hd
   | false => simp only [Bool.false_eq_true, if_false] at hd ⊢; exact ihb hd
 | block id x ih =>
  intro s r hd
  simp only [exec] at hd ⊢
  cases hx : exec ⟨T, lends, c⟩ x s with
  | none => simp [hx] at hd
  | some q =>
   obtain ⟨n1, e1⟩ := ih hx
   exact ⟨n1, fun m hm => by rw [e1 m hm]; rw [hx] at hd; exact hd⟩
 | loop x ih =>
  intro s r hd
  simp only [exec] at hd ⊢
  obtain ⟨k, hk⟩ := iter_some hd
  have key : ∀ (k : Nat) {s : St}, iterN (exec ⟨T, lends, c⟩ x) k s = some r → ∃ n, ∀ m, n ≤ m → iterN (exec ⟨T, lends, cn m⟩ x) k s = some r := by
   intro k
   induction k with
   | zero => intro s hk; simp [iterN] at hk
   | succ k ihk =>
    intro s hk
    simp only [iterN] at hk ⊢
    cases hx : exec ⟨T, lends, c⟩ x s with
    | none => simp [hx] at hk
    | some q =>
     obtain ⟨n1, e1⟩ := ih hx
     obtain ⟨ex, s1⟩ := q
     cases ex with
     | normal =>
      simp only [hx] at hk
      obtain ⟨n2, e2⟩ := ihk hk
      exact ⟨max n1 n2, fun m hm => by rw [e1 m (by omega)]; exact e2 m (by omega)⟩
     | exit id => simp only [hx] at hk; exact ⟨n1, fun m hm => by rw [e1 m hm]; exact hk⟩
     | ret => simp only [hx] at hk; exact ⟨n1, fun m hm => by rw [e1 m hm]; exact hk⟩
  obtain ⟨n, hn⟩ := key k hk
  exact ⟨n, fun m hm => iter_of (hn m hm)⟩
 | exit id => intro s r hd; exact ⟨0, fun _ _ => hd⟩
 | ret => intro s r hd; exact ⟨0, fun _ _ => hd⟩
 | rangeFunc => intro s r hd; simp [exec] at hd
 | scope => intro s r hd; simp [exec] at hd
 | label => intro s r hd; simp [exec] at hd
 | goto => intro s r hd; simp [exec] at hd
 | refuse => intro s r hd; simp [exec] at hd

theorem runF_lim (h : Lim c cn) {fn : Func} {args lent : List D} {r : D × List D} (hd : runF ⟨T, lends, c⟩ fn args lent = some r) : ∃ n, ∀ m, n ≤ m → runF ⟨T, lends, cn m⟩ fn args lent = some r := by
 unfold runF at hd ⊢
 cases hb : fn.body with
 | none => simp [hb] at hd
 | some k =>
  simp only [hb] at hd ⊢
  cases hx : exec ⟨T, lends, c⟩ k (entry args lent) with
  | none => simp [hx] at hd
  | some q =>
   obtain ⟨n, hn⟩ := exec_lim h k hx
   exact ⟨n, fun m hm => by rw [hn m hm]; rw [hx] at hd; exact hd⟩
end

/-- A program as the steps see it: its functions, its types, which functions are lent their slices, and calls that are known by other means. -/
structure Sys where
 P : Program
 T : Tys
 lends : FuncId → Bool
 base : CallT

namespace Sys
variable (Y : Sys)

/-- Calls to a depth. -/
noncomputable def callN : Nat → CallT
 | 0 => Y.base
 | n + 1 => fun f a l =>
  match Y.base f a l with
  | some r => some r
  | none =>
   match Y.P.funcs[f]? with
   | some fn => if fnOk fn a.length then runF ⟨Y.T, Y.lends, callN n⟩ fn a l else none
   | none => none

open Classical in
/-- What a call comes to. -/
noncomputable def call : CallT := fun f a l => if h : ∃ r n, Y.callN n f a l = some r then some h.choose else none

noncomputable def env : Env := ⟨Y.T, Y.lends, Y.call⟩

variable {Y}

theorem callN_succ {n : Nat} : ∀ {f : FuncId} {a l : List D} {r : D × List D}, Y.callN n f a l = some r → Y.callN (n + 1) f a l = some r := by
 induction n with
 | zero => intro f a l r h; simp only [callN] at h ⊢; rw [h]
 | succ n ih =>
  intro f a l r h
  rw [callN] at h ⊢
  simp only at h ⊢
  cases hb : Y.base f a l with
  | some q => simp only [hb] at h ⊢; exact h
  | none =>
   simp only [hb] at h ⊢
   cases hf : Y.P.funcs[f]? with
   | none => simp [hf] at h
   | some fn =>
    simp only [hf] at h ⊢
    split at h
    ·rename_i hok
     rw [if_pos hok]
     obtain ⟨k, hk⟩ := runF_lim (cn := fun _ => Y.callN (n + 1)) (fun f a l r hh => ⟨0, fun _ _ => ih hh⟩) h
     exact hk k (Nat.le_refl _)
    ·cases h

theorem callN_mono {n m : Nat} (hm : n ≤ m) {f : FuncId} {a l : List D} {r : D × List D} (h : Y.callN n f a l = some r) : Y.callN m f a l = some r := by
 induction hm with
 | refl => exact h
 | step _ ih => exact callN_succ ih

theorem call_of {n : Nat} {f : FuncId} {a l : List D} {r : D × List D} (h : Y.callN n f a l = some r) : Y.call f a l = some r := by
 unfold call
 have hx : ∃ r n, Y.callN n f a l = some r := ⟨r, n, h⟩
 rw [dif_pos hx]
 obtain ⟨n', h'⟩ := hx.choose_spec
 have h1 := callN_mono (Nat.le_max_left n n') h
 have h2 := callN_mono (Nat.le_max_right n n') h'
 rw [h1] at h2
 exact h2.symm

theorem call_some {f : FuncId} {a l : List D} {r : D × List D} (h : Y.call f a l = some r) : ∃ n, Y.callN n f a l = some r := by
 unfold call at h
 split at h
 ·rename_i hx
  simp only [Option.some.injEq] at h
  subst h
  exact hx.choose_spec
 ·cases h

theorem lim_call : Lim Y.call Y.callN := fun f a l r h => by
 obtain ⟨n, hn⟩ := call_some h
 exact ⟨n, fun m hm => callN_mono hm hn⟩

/-- A call comes to what the function's run comes to. -/
theorem call_run {f : FuncId} {fn : Func} {a l : List D} {r : D × List D} (hb : Y.base f a l = none) (hf : Y.P.funcs[f]? = some fn) (hok : fnOk fn a.length = true) (hr : runF Y.env fn a l = some r) : Y.call f a l = some r := by
 obtain ⟨n, hn⟩ := runF_lim lim_call hr
 refine call_of (n := n + 1) ?_
 rw [callN]
 simp only [hb, hf, hok, if_true]
 exact hn n (Nat.le_refl _)

theorem call_base {f : FuncId} {a l : List D} {r : D × List D} (hb : Y.base f a l = some r) : Y.call f a l = some r := call_of (n := 0) hb

structure Ok (Y : Sys) : Prop where
 ty : TyOk Y.P Y.T
 mixed : Y.P.follows .mixedOrders = true
 base : ∀ f a l r outs, Y.base f a l = some (r, outs) → Good Y.P Y.T f a l r outs

theorem callN_good (h : Y.Ok) : ∀ n f a l r outs, Y.callN n f a l = some (r, outs) → Good Y.P Y.T f a l r outs := by
 intro n
 induction n with
 | zero => exact h.base
 | succ n ih =>
  intro f a l r outs hc
  rw [callN] at hc
  simp only at hc
  cases hb : Y.base f a l with
  | some q => simp only [hb, Option.some.injEq] at hc; subst hc; exact h.base _ _ _ _ _ hb
  | none =>
   simp only [hb] at hc
   cases hf : Y.P.funcs[f]? with
   | none => simp [hf] at hc
   | some fn =>
    simp only [hf] at hc
    split at hc
    ·rename_i hok
     exact runF_good (E := ⟨Y.T, Y.lends, Y.callN n⟩) h.ty h.mixed (fun f a l r outs hh => ih f a l r outs hh) hf hok hc
    ·cases hc

/-- Soundness: a call that comes to something over data does so in the machine. -/
theorem call_good (h : Y.Ok) {f : FuncId} {a l : List D} {r : D} {outs : List D} (hc : Y.call f a l = some (r, outs)) : Good Y.P Y.T f a l r outs := by
 obtain ⟨n, hn⟩ := call_some hc
 exact callN_good h n f a l r outs hn

end Sys
end Dv
