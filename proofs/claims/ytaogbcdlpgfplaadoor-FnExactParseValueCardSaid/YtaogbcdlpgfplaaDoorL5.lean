/- Value semantics for Go code, part 5: typed lists, loops as functions. Conditions: none beyond those in each lemma. -/
import Derived.Test.YtaogbcdlpgfplaaDoorL4
set_option linter.unusedSimpArgs false
set_option linter.unusedVariables false
/- Value semantics for Go code: typed lists, loops as functions. Conditions: those in each lemma. -/
namespace Dv
open Go
set_option maxRecDepth 10000

/-! ### Checks and loops over plain values -/

/-- A check: without it there is no outcome. -/
def ck {α : Type} (c : Prop) [Decidable c] (o : Option α) : Option α := if c then o else none
section
variable {σ ρ : Type}
def itN (f : σ → Option (σ ⊕ ρ)) : Nat → σ → Option ρ
 | 0, _ => none
 | n + 1, s =>
  match f s with
  | none => none
  | some (.inl s') => itN f n s'
  | some (.inr r) => some r
open Classical in
/-- A loop: rounds until one ends it. -/
noncomputable def itO (f : σ → Option (σ ⊕ ρ)) (s : σ) : Option ρ := if h : ∃ r n, itN f n s = some r then some h.choose else none

theorem itN_mono {f : σ → Option (σ ⊕ ρ)} : ∀ {n m : Nat} {s : σ} {r : ρ}, n ≤ m → itN f n s = some r → itN f m s = some r := by
 intro n
 induction n with
 | zero => intro m s r _ h; simp [itN] at h
 | succ n ih =>
  intro m s r hm h
  cases m with
  | zero => omega
  | succ m =>
   simp only [itN] at h ⊢
   cases hs : f s with
   | none => simp [hs] at h
   | some q =>
    cases q with
    | inl s' => simp only [hs] at h ⊢; exact ih (by omega) h
    | inr r' => simp only [hs] at h ⊢; exact h

theorem itO_of {f : σ → Option (σ ⊕ ρ)} {n : Nat} {s : σ} {r : ρ} (h : itN f n s = some r) : itO f s = some r := by
 unfold itO
 have hx : ∃ r n, itN f n s = some r := ⟨r, n, h⟩
 rw [dif_pos hx]
 obtain ⟨n', h'⟩ := hx.choose_spec
 have h1 := itN_mono (Nat.le_max_left n n') h
 have h2 := itN_mono (Nat.le_max_right n n') h'
 rw [h1] at h2
 exact h2.symm

theorem itO_some {f : σ → Option (σ ⊕ ρ)} {s : σ} {r : ρ} (h : itO f s = some r) : ∃ n, itN f n s = some r := by
 unfold itO at h
 split at h
 ·rename_i hx
  simp only [Option.some.injEq] at h
  subst h
  exact hx.choose_spec
 ·cases h

/-- One round. -/
theorem itO_inl {f : σ → Option (σ ⊕ ρ)} {s s' : σ} (h : f s = some (.inl s')) : itO f s = itO f s' := by
 cases hi : itO f s' with
 | some r =>
  obtain ⟨n, hn⟩ := itO_some hi
  exact itO_of (n := n + 1) (by simp only [itN, h]; exact hn)
 | none =>
  cases hj : itO f s with
  | none => rfl
  | some r =>
   obtain ⟨n, hn⟩ := itO_some hj
   cases n with
   | zero => simp [itN] at hn
   | succ n =>
    simp only [itN, h] at hn
    rw [itO_of hn] at hi; cases hi
theorem itO_inr {f : σ → Option (σ ⊕ ρ)} {s : σ} {r : ρ} (h : f s = some (.inr r)) : itO f s = some r := itO_of (n := 1) (by simp [itN, h])
end

/-- What a round must leave. -/
def stepX {σ ρ : Type} (M : σ → St → Prop) (X : ρ → Ex → St → Prop) : σ ⊕ ρ → Ex → St → Prop
 | .inl v, .normal, s => M v s
 | .inl _, _, _ => False
 | .inr _, .normal, _ => False
 | .inr r, ex, s => X r ex s
theorem sxN {σ ρ : Type} (M : σ → St → Prop) (X : ρ → Ex → St → Prop) (v : σ) (s : St) : stepX M X (.inl v) .normal s = M v s := nr rfl
theorem sxE {σ ρ : Type} (M : σ → St → Prop) (X : ρ → Ex → St → Prop) (r : ρ) (j : Nat) (s : St) : stepX M X (.inr r) (.exit j) s = X r (.exit j) s := nr rfl
theorem sxR {σ ρ : Type} (M : σ → St → Prop) (X : ρ → Ex → St → Prop) (r : ρ) (s : St) : stepX M X (.inr r) .ret s = X r .ret s := nr rfl

/-- A loop of the code, by a loop over plain values. -/
theorem wd_itO {E : Env} {c : SC} {σ ρ : Type} (f : σ → Option (σ ⊕ ρ)) (M : σ → St → Prop) (X : ρ → Ex → St → Prop)
  (hstep : ∀ v s o, M v s → f v = some o → wpD E c (stepX M X o) s) {v : σ} {s : St} {r : ρ} (h : itO f v = some r) (hM : M v s) : wpD E (.loop c) (X r) s := by
 obtain ⟨n, hn⟩ := itO_some h
 induction n generalizing v s with
 | zero => simp [itN] at hn
 | succ n ih =>
  simp only [itN] at hn
  cases hf : f v with
  | none => simp [hf] at hn
  | some o =>
   obtain ⟨ex, s1, h1, h2⟩ := hstep v s o hM hf
   cases o with
   | inl v' =>
    simp only [hf] at hn
    cases ex with
    | normal =>
     obtain ⟨ex', s2, h3, h4⟩ := ih (itO_of hn) h2 hn
     refine ⟨ex', s2, ?_, h4⟩
     simp only [execS] at h3 ⊢
     rw [iter_eq, h1]; exact h3
    | exit id => exact h2.elim
    | ret => exact h2.elim
   | inr r' =>
    simp only [hf, Option.some.injEq] at hn
    subst hn
    cases ex with
    | normal => exact h2.elim
    | exit id => exact ⟨_, s1, by simp only [execS]; rw [iter_eq, h1], h2⟩
    | ret => exact ⟨_, s1, by simp only [execS]; rw [iter_eq, h1], h2⟩

/-! ### Typed lists -/

/-- Elements of one cell. -/
def lst {α : Type} (c : α → D) (xs : List α) : List D := xs.map c
/-- Elements of several cells. -/
def cat {α : Type} (c : α → List D) (xs : List α) : List D := xs.flatMap c

section
variable {α : Type} (c : α → D)
theorem lst_cons (x : α) (xs : List α) : lst c (x :: xs) = c x :: lst c xs := nr rfl
theorem lst_length (xs : List α) : (lst c xs).length = xs.length := by simp [lst]
theorem lst_getD [Inhabited α] (xs : List α) (i : Nat) (h : i < xs.length) : (lst c xs).getD i .undef = c (xs.getD i default) := by
 simp [lst, List.getD_eq_getElem?_getD, h]
theorem lst_at [Inhabited α] (xs : List α) (i : Nat) (h : i < xs.length) : (lst c xs)[i]? = some (c (xs.getD i default)) := by
 simp [lst, List.getD_eq_getElem?_getD, h]
theorem lst_set (xs : List α) (i : Nat) (y : α) : (lst c xs).set i (c y) = lst c (xs.set i y) := by simp [lst]
theorem lst_append (xs ys : List α) : lst c xs ++ lst c ys = lst c (xs ++ ys) := by simp [lst]
theorem lst_take (xs : List α) (n : Nat) : (lst c xs).take n = lst c (xs.take n) := by simp [lst]
theorem lst_drop (xs : List α) (n : Nat) : (lst c xs).drop n = lst c (xs.drop n) := by simp [lst]
theorem lst_hasObj (xs : List α) (h : ∀ x, (c x).hasObj = false) : hasObjs (lst c xs) = false := by
 induction xs with
 | nil => rfl
 | cons x xs ih => simp only [lst_cons, hasObjs, h, ih]; rfl
theorem lst_frz (xs : List α) (h : ∀ x, frz (c x) = some (c x)) : frzs (lst c xs) = some (lst c xs) := by
 induction xs with
 | nil => rfl
 | cons x xs ih => simp only [lst_cons, frzs, h, ih]; rfl
theorem lst_frzO (c : α → List D) (c' : α → List D) (e : TypeId) (xs : List α) (h : ∀ x, frzs (c x) = some (c' x)) : frzs (lst (fun x => D.own e (c x)) xs) = some (lst (fun x => D.sl e (c' x)) xs) := by
 induction xs with
 | nil => rfl
 | cons x xs ih => simp only [lst_cons, frzs, frz, h, ih]; rfl
theorem lst_hasSl (xs : List α) (h : ∀ x, hasSl (c x) = false) : hasSls (lst c xs) = false := by
 induction xs with
 | nil => rfl
 | cons x xs ih => simp only [lst_cons, hasSls, h, ih]; rfl
theorem lst_solid (xs : List α) (h : ∀ x, solid (c x) = true) : (lst c xs).all solid = true := by simp [lst, h]
end

theorem ints_lst (xs : List Int) : ints xs = lst (D.int .i64) xs := nr rfl
theorem sls_lst (e : TypeId) (l : List (List Int)) : sls e l = lst (fun x => .sl e (lst (D.int .i64) x)) l := nr rfl
theorem owns_lst (e : TypeId) (l : List (List Int)) : owns e l = lst (fun x => .own e (lst (D.int .i64) x)) l := nr rfl

section
variable {α : Type} (c : α → List D) (n : Nat)
theorem cat_nil : cat c [] = [] := nr rfl
theorem cat_cons (x : α) (xs : List α) : cat c (x :: xs) = c x ++ cat c xs := nr rfl
theorem cat_append (xs ys : List α) : cat c xs ++ cat c ys = cat c (xs ++ ys) := by simp [cat]
theorem cat_length (h : ∀ x, (c x).length = n) (xs : List α) : (cat c xs).length = xs.length * n := by
 induction xs with
 | nil => simp [cat_nil]
 | cons x xs ih => simp only [cat_cons, List.length_append, h, ih, List.length_cons, Nat.succ_mul]; omega
theorem cat_drop (h : ∀ x, (c x).length = n) (xs : List α) : ∀ (i : Nat), (cat c xs).drop (i * n) = cat c (xs.drop i) := by
 induction xs with
 | nil => intro i; simp [cat_nil]
 | cons x xs ih =>
  intro i
  cases i with
  | zero => simp
  | succ i =>
   rw [cat_cons, List.drop_append, List.drop_succ_cons, ← ih i, h, Nat.succ_mul]
   have e1 : (c x).drop (i * n + n) = [] := List.drop_eq_nil_of_le (by rw [h]; omega)
   rw [e1, Nat.add_sub_cancel]; rfl
theorem cat_take (h : ∀ x, (c x).length = n) (xs : List α) : ∀ (i : Nat), (cat c xs).take (i * n) = cat c (xs.take i) := by
 induction xs with
 | nil => intro i; simp [cat_nil]
 | cons x xs ih =>
  intro i
  cases i with
  | zero => simp [cat_nil]
  | succ i =>
   rw [cat_cons, List.take_append, List.take_succ_cons, cat_cons, ← ih i, h, Nat.succ_mul, Nat.add_sub_cancel]
   rw [List.take_of_length_le (by rw [h]; omega)]
theorem cat_hasObj (xs : List α) (h : ∀ x, hasObjs (c x) = false) : hasObjs (cat c xs) = false := by
 have app : ∀ (as bs : List D), hasObjs (as ++ bs) = (hasObjs as || hasObjs bs) := by
  intro as bs
  induction as with
  | nil => simp [hasObjs]
  | cons a as ih => simp [hasObjs, ih, Bool.or_assoc]
 induction xs with
 | nil => rfl
 | cons x xs ih => rw [cat_cons, app, h, ih]; rfl
theorem frzs_append : ∀ (as bs as' bs' : List D), frzs as = some as' → frzs bs = some bs' → frzs (as ++ bs) = some (as' ++ bs') := by
 intro as
 induction as with
 | nil => intro bs as' bs' h1 h2; simp [frzs] at h1; subst h1; simpa using h2
 | cons a as ih =>
  intro bs as' bs' h1 h2
  simp only [frzs, Option.bind_eq_some_iff, Option.map_eq_some_iff] at h1
  obtain ⟨a', ha, as1, has, rfl⟩ := h1
  simp only [List.cons_append, frzs, ha, ih _ _ _ has h2]; rfl
theorem cat_frz (xs : List α) (h : ∀ x, frzs (c x) = some (c x)) : frzs (cat c xs) = some (cat c xs) := by
 induction xs with
 | nil => rfl
 | cons x xs ih => rw [cat_cons]; exact frzs_append _ _ _ _ (h x) ih
theorem hasSls_append (as bs : List D) : hasSls (as ++ bs) = (hasSls as || hasSls bs) := by
 induction as with
 | nil => simp [hasSls]
 | cons a as ih => simp [hasSls, ih, Bool.or_assoc]
theorem cat_hasSl (xs : List α) (h : ∀ x, hasSls (c x) = false) : hasSls (cat c xs) = false := by
 induction xs with
 | nil => rfl
 | cons x xs ih => rw [cat_cons, hasSls_append, h, ih]; rfl
theorem cat_solid (xs : List α) (h : ∀ x, (c x).all solid = true) : (cat c xs).all solid = true := by
 induction xs with
 | nil => rfl
 | cons x xs ih => rw [cat_cons, List.all_append, h, ih]; rfl
end

/-- Elements from c on are overwritten. -/
def spl {α : Type} : List α → Nat → List α → List α
 | xs, _, [] => xs
 | xs, c, y :: ys => spl (xs.set c y) (c + 1) ys
theorem lst_splice {α : Type} (c : α → D) : ∀ (ys xs : List α) (n : Nat), splice (lst c xs) n (lst c ys) = lst c (spl xs n ys) := by
 intro ys
 induction ys with
 | nil => intro xs n; cases xs <;> rfl
 | cons y ys ih =>
  intro xs n
  have h1 : splice (lst c xs) n (lst c (y :: ys)) = splice ((lst c xs).set n (c y)) (n + 1) (lst c ys) := by
   rw [lst_cons]; cases lst c xs <;> rfl
  rw [h1, lst_set, ih]; rfl
theorem bindS {α β : Type} {o : Option α} {f : α → Option β} {r : β} (h : o.bind f = some r) : ∃ a, o = some a ∧ f a = some r := by
 cases o with
 | none => cases h
 | some a => exact ⟨a, rfl, h⟩
theorem ckS {α : Type} {c : Prop} [Decidable c] {o : Option α} {r : α} (h : ck c o = some r) : c ∧ o = some r := by
 unfold ck at h
 split at h
 ·rename_i hc; exact ⟨hc, h⟩
 ·cases h

/-! ### Rules for typed lists in runs -/

section
variable {α : Type} (c : α → D)
theorem lst_consR (x : α) (xs : List α) : c x :: lst c xs = lst c (x :: xs) := nr rfl
theorem lst_snocC (xs : List α) (y : α) (ds : List D) : lst c xs ++ (c y :: ds) = lst c (xs ++ [y]) ++ ds := by simp [lst]
theorem lst_frzP (c : α → List D) (e : TypeId) (xs : List α) (h : ∀ x, frzs (c x) = some (c x)) : frzs (lst (fun x => D.own e (c x)) xs) = some (lst (fun x => D.sl e (c x)) xs) := lst_frzO c c e xs h
theorem lst_frzQ {β : Type} (b : β → List D) (e e' : TypeId) (f : α → List β) (xs : List α) (h : ∀ x, frzs (b x) = some (b x)) : frzs (lst (fun x => D.own e (lst (fun y => D.own e' (b y)) (f x))) xs) = some (lst (fun x => D.sl e (lst (fun y => D.sl e' (b y)) (f x))) xs) :=
 lst_frzO (fun x => lst (fun y => D.own e' (b y)) (f x)) (fun x => lst (fun y => D.sl e' (b y)) (f x)) e xs (fun x => lst_frzP b e' (f x) h)
/-- A cell that may be a gap. -/
def optD (c : α → D) : Option α → D
 | some a => c a
 | none => .undef
theorem opt_some [Inhabited α] (o : Option α) (h : o.isSome = true) : optD c o = c (o.getD default) := by cases o with | none => cases h | some _ => rfl
theorem opt_map (xs : List α) : lst (optD c) (xs.map some) = lst c xs := by simp [lst, Function.comp_def, optD]
theorem opt_setN (xs : List (Option α)) (n : Nat) : (lst (optD c) xs).set n .undef = lst (optD c) (xs.set n none) := by simp [lst, List.map_set, optD]
theorem opt_setS (xs : List (Option α)) (n : Nat) (y : α) : (lst (optD c) xs).set n (c y) = lst (optD c) (xs.set n (some y)) := by simp [lst, List.map_set, optD]
theorem own2_at (e : TypeId) (k : IntKind) (x y : List Int) (i : Nat) (h : i < 2) : ([D.sl e (lst (D.int k) x), D.sl e (lst (D.int k) y)] : List D)[i]? = some (D.sl e (lst (D.int k) ([x, y].getD i default))) := by
 rcases i with _ | _ | i
 ·rfl
 ·rfl
 ·omega
theorem gap_len (xs : List α) (n : Nat) : ((xs.map some).set n none).length = xs.length := by simp
theorem full_len (xs : List α) : (xs.map some).length = xs.length := by simp
theorem lst_setU (xs : List α) (n : Nat) : (lst c xs).set n .undef = lst (optD c) ((xs.map some).set n none) := by rw [← opt_setN, opt_map]
theorem opt_fix (xs : List (Option α)) (n : Nat) : lst (optD (optD c)) ((xs.map some).set n none) = lst (optD c) (xs.set n none) := by rw [← lst_setU, opt_setN]
theorem some_set (xs : List α) (n : Nat) (y : α) : (xs.map some).set n (some y) = (xs.set n y).map some := List.map_set.symm
theorem set_setE (xs : List (Option α)) (n : Nat) (a b : Option α) : (xs.set n a).set n b = xs.set n b := List.set_set ..
theorem opt_splice (ys : List α) (xs : List (Option α)) (n : Nat) : splice (lst (optD c) xs) n (lst c ys) = lst (optD c) (spl xs n (ys.map some)) := by
 rw [← opt_map c ys, lst_splice]
theorem opt_all [Inhabited α] : ∀ (xs : List (Option α)), (xs.all Option.isSome) = true → lst (optD c) xs = lst c (xs.map fun o => o.getD default)
 | [], _ => rfl
 | x :: xs, h => by
  simp only [List.all_cons, Bool.and_eq_true] at h
  show optD c x :: lst (optD c) xs = _
  rw [opt_some c x h.1, opt_all xs h.2]; rfl
theorem int_rep (n : Nat) (k : IntKind) (x : Int) : List.replicate n (D.int k x) = lst (D.int k) (List.replicate n x) := by simp [lst]
theorem sl_rep (n : Nat) (e : TypeId) : List.replicate n (D.sl e []) = lst (fun x => D.sl e (lst (D.int .i64) x)) (List.replicate n []) := by simp [lst]
theorem own_rep (n : Nat) (e : TypeId) : List.replicate n (D.own e []) = lst (fun x => D.own e (lst (D.int .i64) x)) (List.replicate n []) := by simp [lst]
theorem bool_rep (n : Nat) (x : Bool) : List.replicate n (D.bool x) = lst D.bool (List.replicate n x) := by simp [lst]
variable [Inhabited α] {T : Tys}
theorem at1L (e : TypeId) (n : Int) (xs : List α) (hk : T.known e = true) (hz : T.size e = 1) (hn : 0 ≤ n ∧ n.toNat < xs.length) : at1 T e n (some (e, lst c xs, none)) = some (.cptr [c (xs.getD n.toNat default)]) := by
 rw [at1N e n (lst c xs) hk hz (by simpa [lst] using hn), lst_getD c xs _ hn.2]
end
theorem at1LP {α : Type} (c : α → D) {T : Tys} (e : TypeId) (n : Int) (xs : List α) (L : Place) (a b : Nat) (hk : T.known e = true) (hz : T.size e = 1) (hn : 0 ≤ n ∧ n.toNat < xs.length) : at1 T e n (some (e, lst c xs, some (L, a, b))) = some (.pe L n.toNat a b) :=
 at1P e n (lst c xs) L a b hk hz (by simpa [lst] using hn)
theorem eqTF : (true == false) = false := nr rfl
theorem eqFT : (false == true) = false := nr rfl
theorem eqTT : (true == true) = true := nr rfl
theorem eqFF : (false == false) = true := nr rfl
theorem cast0 : ((0 : Nat) : Int) = 0 := nr rfl
theorem cast1 : ((1 : Nat) : Int) = 1 := nr rfl
theorem castN (n : Nat) : ((OfNat.ofNat n : Nat) : Int) = OfNat.ofNat n := nr rfl

theorem exVw {s : St} (dst : Option Tmp) (u : Tmp) (i : Nat) (L : Place) (n m : Nat) : ex1 s dst u i (some (.vw L n m)) = some (s.putO dst (.vw L n m)) := by simp [ex1, noObjD, seen, D.hasObj, putR]
theorem lst_isEmpty {α : Type} (c : α → D) (xs : List α) : (lst c xs).isEmpty = xs.isEmpty := by cases xs <;> rfl
theorem hsSlL {α : Type} (c : α → D) (e : TypeId) (xs : List α) : hasSl (.sl e (lst c xs)) = !xs.isEmpty := by simp only [hasSl, lst_isEmpty]
theorem hsSlE (e : TypeId) : hasSl (.sl e []) = false := nr rfl
theorem hsSlC (e : TypeId) (x : D) (xs : List D) : hasSl (.sl e (x :: xs)) = true := nr rfl
theorem lst_hasSlS {α β : Type} (c : β → D) (f : α → List β) (e : TypeId) (xs : List α) : hasSls (lst (fun x => D.sl e (lst c (f x))) xs) = xs.any fun x => !(f x).isEmpty := by
 induction xs with
 | nil => rfl
 | cons x xs ih => simp only [lst_cons, hasSls, hsSlL, ih, List.any_cons]
theorem lst_hasObjO {α : Type} (c : α → List D) (e : TypeId) (xs : List α) : hasObjs (lst (fun x => D.own e (c x)) xs) = !xs.isEmpty := by
 cases xs with
 | nil => rfl
 | cons x xs => simp [lst_cons, hasObjs, D.hasObj]
section
variable {pm : Pm} {s : St} {dst : Option Tmp}
theorem cb2T (ls : List (Place × D)) (r : D) (o : List D) (h : hasSl r = true) : cb2 pm s dst ls (some (r, o)) = if (apartL (ls.map (·.1)) && ls.all (fun l => pm.wr (l.1.headD 0))) = true then (frzAll ls).map fun ls' => (back false s ls').putO dst r else none := by
 simp [cb2, h]
theorem faN : frzAll [] = some [] := nr rfl
def fac (L : Place) (o : Option (List (Place × D))) : Option D → Option (List (Place × D))
 | some c => o.map ((L, c) :: ·)
 | none => none
theorem faC (L : Place) (c : D) (rest : List (Place × D)) : frzAll ((L, c) :: rest) = fac L (frzAll rest) (frz c) := by
 simp only [frzAll]; cases frz c <;> rfl
theorem facS (L : Place) (ls : List (Place × D)) (c : D) : fac L (some ls) (some c) = some ((L, c) :: ls) := nr rfl
end
/-! ### Lists of pairs of numbers -/

/-- The parts of a pair of a list. -/
def fstD (xs : List (Int × Int)) (n : Nat) : Int := (xs.getD n default).1
def sndD (xs : List (Int × Int)) (n : Nat) : Int := (xs.getD n default).2
/-- The cells of pairs, one behind the other. -/
def cat2 (k l : IntKind) (xs : List (Int × Int)) : List D := cat (fun x => [D.int k x.1, D.int l x.2]) xs
theorem cat2_nil (k l : IntKind) : cat2 k l [] = [] := nr rfl
theorem cat2_cons (k l : IntKind) (x : Int × Int) (xs : List (Int × Int)) : cat2 k l (x :: xs) = D.int k x.1 :: D.int l x.2 :: cat2 k l xs := nr rfl
theorem cat2_length (k l : IntKind) (xs : List (Int × Int)) : (cat2 k l xs).length = xs.length * 2 := cat_length _ 2 (fun _ => rfl) xs
theorem cat2_get (k l : IntKind) (xs : List (Int × Int)) : ∀ (n : Nat), n < xs.length → (cat2 k l xs)[n * 2]? = some (D.int k (fstD xs n)) ∧ (cat2 k l xs)[n * 2 + 1]? = some (D.int l (sndD xs n)) := by
 induction xs with
 | nil => intro n h; simp at h
 | cons x xs ih =>
  intro n h
  cases n with
  | zero => exact ⟨rfl, rfl⟩
  | succ n =>
   have := ih n (by simpa using h)
   rw [cat2_cons, Nat.succ_mul]
   exact this
theorem cat2_at0 (k l : IntKind) (xs : List (Int × Int)) (n : Nat) (h : n < xs.length) : (cat2 k l xs)[n * 2]? = some (D.int k (fstD xs n)) := (cat2_get k l xs n h).1
theorem cat2_at0' (k l : IntKind) (xs : List (Int × Int)) (n : Nat) (h : n < xs.length) : (cat2 k l xs)[n * 2 + 0]? = some (D.int k (fstD xs n)) := (cat2_get k l xs n h).1
theorem cat2_at1 (k l : IntKind) (xs : List (Int × Int)) (n : Nat) (h : n < xs.length) : (cat2 k l xs)[n * 2 + 1]? = some (D.int l (sndD xs n)) := (cat2_get k l xs n h).2
theorem cat2_set0 (k l : IntKind) (v : Int) : ∀ (xs : List (Int × Int)) (n : Nat), n < xs.length → (cat2 k l xs).set (n * 2) (D.int k v) = cat2 k l (xs.set n (v, sndD xs n)) := by
 intro xs
 induction xs with
 | nil => intro n h; simp at h
 | cons x xs ih =>
  intro n h
  cases n with
  | zero => rfl
  | succ n =>
   have := ih n (by simpa using h)
   rw [cat2_cons, Nat.succ_mul, List.set_cons_succ, List.set_cons_succ, List.set_cons_succ, this, cat2_cons]; rfl
theorem cat2_set1 (k l : IntKind) (v : Int) : ∀ (xs : List (Int × Int)) (n : Nat), n < xs.length → (cat2 k l xs).set (n * 2 + 1) (D.int l v) = cat2 k l (xs.set n (fstD xs n, v)) := by
 intro xs
 induction xs with
 | nil => intro n h; simp at h
 | cons x xs ih =>
  intro n h
  cases n with
  | zero => rfl
  | succ n =>
   have := ih n (by simpa using h)
   rw [cat2_cons, Nat.succ_mul, show n * 2 + 2 + 1 = n * 2 + 1 + 1 + 1 by omega, List.set_cons_succ, List.set_cons_succ, List.set_cons_succ, this, cat2_cons]; rfl
theorem cat2_append (k l : IntKind) (xs ys : List (Int × Int)) : cat2 k l xs ++ cat2 k l ys = cat2 k l (xs ++ ys) := cat_append _ xs ys
theorem cat2_snoc (k l : IntKind) (xs : List (Int × Int)) (a b : Int) : cat2 k l xs ++ [D.int k a, D.int l b] = cat2 k l (xs ++ [(a, b)]) := cat_append _ xs [(a, b)]
theorem cat2_snocC (k l : IntKind) (xs : List (Int × Int)) (a b : Int) (ds : List D) : cat2 k l xs ++ (D.int k a :: D.int l b :: ds) = cat2 k l (xs ++ [(a, b)]) ++ ds := by
 rw [← cat2_snoc, List.append_assoc]; rfl
theorem cat2_take (k l : IntKind) (xs : List (Int × Int)) (n : Nat) : (cat2 k l xs).take (n * 2) = cat2 k l (xs.take n) := cat_take _ 2 (fun _ => rfl) xs n
theorem cat2_drop (k l : IntKind) (xs : List (Int × Int)) (n : Nat) : (cat2 k l xs).drop (n * 2) = cat2 k l (xs.drop n) := cat_drop _ 2 (fun _ => rfl) xs n
theorem cat2_hasObj (k l : IntKind) (xs : List (Int × Int)) : hasObjs (cat2 k l xs) = false := cat_hasObj _ xs (fun _ => by simp [hasObjs, D.hasObj])
theorem cat2_frz (k l : IntKind) (xs : List (Int × Int)) : frzs (cat2 k l xs) = some (cat2 k l xs) := cat_frz _ xs (fun _ => rfl)
theorem cat2_hasSl (k l : IntKind) (xs : List (Int × Int)) : hasSls (cat2 k l xs) = false := cat_hasSl _ xs (fun _ => rfl)
theorem cat2_solid (k l : IntKind) (xs : List (Int × Int)) : (cat2 k l xs).all solid = true := cat_solid _ xs (fun _ => rfl)
theorem cat2_isEmpty (k l : IntKind) (xs : List (Int × Int)) : (cat2 k l xs).isEmpty = xs.isEmpty := by cases xs <;> rfl
theorem cat2_rep (k l : IntKind) (n : Nat) (a b : Int) : (List.replicate n [D.int k a, D.int l b]).flatten = cat2 k l (List.replicate n (a, b)) := by
 simp [cat2, cat, List.flatMap_def]
theorem hsSl2 (k l : IntKind) (e : TypeId) (xs : List (Int × Int)) : hasSl (.sl e (cat2 k l xs)) = !xs.isEmpty := by simp only [hasSl, cat2_isEmpty]
theorem cat2_hasSlS {α : Type} (k l : IntKind) (f : α → List (Int × Int)) (e : TypeId) (xs : List α) : hasSls (lst (fun x => D.sl e (cat2 k l (f x))) xs) = xs.any fun x => !(f x).isEmpty := by
 induction xs with
 | nil => rfl
 | cons x xs ih => simp only [lst_cons, hasSls, hsSl2, ih, List.any_cons]
/-! ### Lists of four numbers each -/
def q4a (xs : List (Int × Int × Int × Int)) (n : Nat) : Int := (xs.getD n default).1
def q4b (xs : List (Int × Int × Int × Int)) (n : Nat) : Int := (xs.getD n default).2.1
def q4c (xs : List (Int × Int × Int × Int)) (n : Nat) : Int := (xs.getD n default).2.2.1
def q4d (xs : List (Int × Int × Int × Int)) (n : Nat) : Int := (xs.getD n default).2.2.2
/-- The cells of fours, one behind the other. -/
def cat4 (xs : List (Int × Int × Int × Int)) : List D := cat (fun x => [D.int .i64 x.1, D.int .i64 x.2.1, D.int .i64 x.2.2.1, D.int .i64 x.2.2.2]) xs
theorem cat4_cons (x : Int × Int × Int × Int) (xs : List (Int × Int × Int × Int)) : cat4 (x :: xs) = D.int .i64 x.1 :: D.int .i64 x.2.1 :: D.int .i64 x.2.2.1 :: D.int .i64 x.2.2.2 :: cat4 xs := nr rfl
theorem cat4_length (xs : List (Int × Int × Int × Int)) : (cat4 xs).length = xs.length * 4 := cat_length _ 4 (fun _ => rfl) xs
theorem cat4_append (xs ys : List (Int × Int × Int × Int)) : cat4 xs ++ cat4 ys = cat4 (xs ++ ys) := cat_append _ xs ys
theorem cat4_snoc (xs : List (Int × Int × Int × Int)) (a b c d : Int) : cat4 xs ++ [D.int .i64 a, D.int .i64 b, D.int .i64 c, D.int .i64 d] = cat4 (xs ++ [(a, b, c, d)]) := cat_append _ xs [(a, b, c, d)]
theorem cat4_snocC (xs : List (Int × Int × Int × Int)) (a b c d : Int) (ds : List D) : cat4 xs ++ (D.int .i64 a :: D.int .i64 b :: D.int .i64 c :: D.int .i64 d :: ds) = cat4 (xs ++ [(a, b, c, d)]) ++ ds := by
 rw [← cat4_snoc, List.append_assoc]; rfl
theorem cat4_drop (xs : List (Int × Int × Int × Int)) (n : Nat) : (cat4 xs).drop (n * 4) = cat4 (xs.drop n) := cat_drop _ 4 (fun _ => rfl) xs n
theorem cat4_hasObj (xs : List (Int × Int × Int × Int)) : hasObjs (cat4 xs) = false := cat_hasObj _ xs (fun _ => by simp [hasObjs, D.hasObj])
theorem cat4_frz (xs : List (Int × Int × Int × Int)) : frzs (cat4 xs) = some (cat4 xs) := cat_frz _ xs (fun _ => rfl)
theorem cat4_hasSl (xs : List (Int × Int × Int × Int)) : hasSls (cat4 xs) = false := cat_hasSl _ xs (fun _ => rfl)
theorem cat4_solid (xs : List (Int × Int × Int × Int)) : (cat4 xs).all solid = true := cat_solid _ xs (fun _ => rfl)
theorem len_4 {T : Tys} (e : TypeId) (xs : List (Int × Int × Int × Int)) (h : T.size e = 4) : T.len e (cat4 xs) = xs.length := by
 unfold Tys.len
 rw [h, if_neg (by decide), cat4_length, Nat.mul_div_cancel _ (by decide)]
theorem at4L {T : Tys} (e : TypeId) (n : Int) (xs : List (Int × Int × Int × Int)) (hk : T.known e = true) (hz : T.size e = 4) (hn : 0 ≤ n ∧ n.toNat < xs.length) : at1 T e n (some (e, cat4 xs, none)) = some (.cptr [D.int .i64 (q4a xs n.toNat), D.int .i64 (q4b xs n.toNat), D.int .i64 (q4c xs n.toNat), D.int .i64 (q4d xs n.toNat)]) := by
 simp only [at1, hk, len_4 e xs hz]
 rw [if_pos ⟨trivial, trivial, hn.1, hn.2⟩, hz, cat4_drop, List.drop_eq_getElem_cons hn.2, cat4_cons]
 unfold q4a q4b q4c q4d
 rw [List.getD_eq_getElem?_getD, List.getElem?_eq_getElem hn.2]; rfl
section
variable {T : Tys} {pm : Pm} {s : St} {t : TypeId}
theorem len_2 (k l : IntKind) (e : TypeId) (xs : List (Int × Int)) (h : T.size e = 2) : T.len e (cat2 k l xs) = xs.length := by
 unfold Tys.len
 rw [h, if_neg (by decide), cat2_length, Nat.mul_div_cancel _ (by decide)]
theorem at2L (k l : IntKind) (e : TypeId) (n : Int) (xs : List (Int × Int)) (hk : T.known e = true) (hz : T.size e = 2) (hn : 0 ≤ n ∧ n.toNat < xs.length) : at1 T e n (some (e, cat2 k l xs, none)) = some (.cptr [D.int k (fstD xs n.toNat), D.int l (sndD xs n.toNat)]) := by
 simp only [at1, hk, len_2 k l e xs hz]
 rw [if_pos ⟨trivial, trivial, hn.1, hn.2⟩, hz, cat2_drop, List.drop_eq_getElem_cons hn.2, cat2_cons]
 unfold fstD sndD
 rw [List.getD_eq_getElem?_getD, List.getElem?_eq_getElem hn.2]; rfl
theorem at2P (k l : IntKind) (e : TypeId) (n : Int) (xs : List (Int × Int)) (L : Place) (a b : Nat) (hk : T.known e = true) (hz : T.size e = 2) (hn : 0 ≤ n ∧ n.toNat < xs.length) : at1 T e n (some (e, cat2 k l xs, some (L, a, b))) = some (.pe L (n.toNat * 2) a b) := by
 simp only [at1, hk, len_2 k l e xs hz]
 rw [if_pos ⟨trivial, trivial, hn.1, hn.2⟩, hz]
theorem at4P (e : TypeId) (n : Int) (xs : List (Int × Int × Int × Int)) (L : Place) (a b : Nat) (hk : T.known e = true) (hz : T.size e = 4) (hn : 0 ≤ n ∧ n.toNat < xs.length) : at1 T e n (some (e, cat4 xs, some (L, a, b))) = some (.pe L (n.toNat * 4) a b) := by
 simp only [at1, hk, len_4 e xs hz]
 rw [if_pos ⟨trivial, trivial, hn.1, hn.2⟩, hz]
theorem cat4_get (xs : List (Int × Int × Int × Int)) (n : Nat) (h : n < xs.length) : (cat4 xs)[n * 4]? = some (D.int .i64 (q4a xs n)) ∧ (cat4 xs)[n * 4 + 1]? = some (D.int .i64 (q4b xs n)) ∧ (cat4 xs)[n * 4 + 2]? = some (D.int .i64 (q4c xs n)) ∧ (cat4 xs)[n * 4 + 3]? = some (D.int .i64 (q4d xs n)) := by
 have e := cat4_drop xs n
 rw [List.drop_eq_getElem_cons h, cat4_cons] at e
 have g : ∀ i, (cat4 xs)[n * 4 + i]? = ((cat4 xs).drop (n * 4))[i]? := fun i => by rw [List.getElem?_drop]
 have q : xs.getD n default = xs[n] := by rw [List.getD_eq_getElem?_getD, List.getElem?_eq_getElem h]; rfl
 unfold q4a q4b q4c q4d
 rw [q]
 refine ⟨?_, ?_, ?_, ?_⟩
 ·have := g 0; rw [e] at this; exact this
 ·rw [g 1, e]; rfl
 ·rw [g 2, e]; rfl
 ·rw [g 3, e]; rfl
theorem c4le {n m : Nat} (h : n < m) : n * 4 + 4 ≤ m * 4 := by omega
theorem cat4_getD0 (xs : List (Int × Int × Int × Int)) (n : Nat) (d : D) (h : n < xs.length) : (cat4 xs).getD (n * 4) d = D.int .i64 (q4a xs n) := by rw [List.getD_eq_getElem?_getD, (cat4_get xs n h).1]; rfl
theorem cat4_getD1 (xs : List (Int × Int × Int × Int)) (n : Nat) (d : D) (h : n < xs.length) : (cat4 xs).getD (n * 4 + 1) d = D.int .i64 (q4b xs n) := by rw [List.getD_eq_getElem?_getD, (cat4_get xs n h).2.1]; rfl
theorem cat4_getD2 (xs : List (Int × Int × Int × Int)) (n : Nat) (d : D) (h : n < xs.length) : (cat4 xs).getD (n * 4 + 2) d = D.int .i64 (q4c xs n) := by rw [List.getD_eq_getElem?_getD, (cat4_get xs n h).2.2.1]; rfl
theorem cat4_getD3 (xs : List (Int × Int × Int × Int)) (n : Nat) (d : D) (h : n < xs.length) : (cat4 xs).getD (n * 4 + 3) d = D.int .i64 (q4d xs n) := by rw [List.getD_eq_getElem?_getD, (cat4_get xs n h).2.2.2]; rfl
theorem cs4 (L : Place) (e : TypeId) (n : Nat) (xs : List (Int × Int × Int × Int)) (h : n < xs.length) : cellsOf s L (n * 4) 4 (some (.own e (cat4 xs))) = some (.agg [D.int .i64 (q4a xs n), D.int .i64 (q4b xs n), D.int .i64 (q4c xs n), D.int .i64 (q4d xs n)]) := by
 obtain ⟨h0, h1, h2, h3⟩ := cat4_get xs n h
 show (if n * 4 + 4 ≤ (cat4 xs).length then noObjD (.agg ((List.range 4).map fun i => seen s L (n * 4 + i) ((cat4 xs).getD (n * 4 + i) .undef))) else none) = _
 rw [if_pos (by rw [cat4_length]; omega), rg4, Nat.add_zero, List.getD_eq_getElem?_getD, List.getD_eq_getElem?_getD, List.getD_eq_getElem?_getD, List.getD_eq_getElem?_getD, h0, h1, h2, h3]; rfl
theorem st21 (k l : IntKind) (L : Place) (e : TypeId) (n : Nat) (v : Int) (xs : List (Int × Int)) (h : n < xs.length) : st2 s L (n * 2 + 1) (.int l v) (some (.own e (cat2 k l xs))) = some (s.set L (.own e (cat2 k l (xs.set n (fstD xs n, v))))) := by
 show (if n * 2 + 1 < (cat2 k l xs).length then (if (D.int l v).hasObj || hasObjs (cat2 k l xs) then some ((s.set L (.own e ((cat2 k l xs).set (n * 2 + 1) (.int l v)))).bump (L.headD 0)) else some (s.set L (.own e ((cat2 k l xs).set (n * 2 + 1) (.int l v))))) else none) = _
 rw [if_pos (by rw [cat2_length]; omega), cat2_hasObj, cat2_set1 k l v xs n h]; rfl
/-- A struct goes into a list of structs. -/
def sq1 (T : Tys) (pm : Pm) (t : TypeId) (u : Tmp) (a b : D) (s : St) : Option D → Nat → Place → Option St
 | some (.own e xs), c, L => if T.known t && T.isStruct t && pm.wr (L.headD 0) && solid a && solid b && (T.size t == 2) && decide (c + 2 ≤ xs.length) && !a.hasObj && !b.hasObj && !hasObjs xs then some (s.set L (.own e ((xs.set c a).set (c + 1) b))) else st1 T pm t (.tmp u) (some (.agg [a, b], s))
 | _, _, _ => st1 T pm t (.tmp u) (some (.agg [a, b], s))
theorem sw2P (u : Tmp) (a b : D) (L : Place) (c n m : Nat) (h : s.v u = .pe L c n m) : st1 T pm t (.tmp u) (some (.agg [a, b], s)) = sq1 T pm t u a b s (s.look pm L n m) c L := by
 cases hl : s.look pm L n m with
 | none => rfl
 | some o =>
  cases o <;> try rfl
  rename_i e xs
  simp only [sq1]
  split
  ·rename_i hc
   simp only [Bool.and_eq_true, beq_iff_eq, decide_eq_true_eq, Bool.not_eq_true'] at hc
   obtain ⟨⟨⟨⟨⟨⟨⟨⟨⟨hk, hs⟩, hw⟩, ha⟩, hb⟩, hz⟩, hl2⟩, ha2⟩, hb2⟩, hx2⟩ := hc
   simp only [st1, ev, h, addrD, hl, D.asCells, D.isAgg, D.cells, D.withCells, hk, hs, hw, hz, List.all_cons, ha, hb, List.all_nil, Bool.and_self, List.length_cons, List.length_nil, beq_self_eq_true, Bool.true_and, D.hasObj, hasObjs, ha2, hb2, hx2, Bool.or_self, Bool.false_eq_true, if_false, splice]
   rw [if_pos (by simpa using hl2)]
  ·rfl
theorem sw1P (u : Tmp) (a b : D) (L : Place) (c n m : Nat) (h : s.v u = .pe L c n m) : sw1 T pm t u [a, b] s (.pe L c n m) = sq1 T pm t u a b s (s.look pm L n m) c L := by
 rw [← sw2P u a b L c n m h]; rfl
theorem cat2_store (k l : IntKind) (xs : List (Int × Int)) (n : Nat) (a b : Int) (h : n < xs.length) : ((cat2 k l xs).set (n * 2) (D.int k a)).set (n * 2 + 1) (D.int l b) = cat2 k l (xs.set n (a, b)) := by
 rw [cat2_set0 k l a xs n h, cat2_set1 k l b _ n (by simpa using h), List.set_set]
 congr 2
 simp [fstD, List.getD_eq_getElem?_getD, h]
theorem sq1S (k l : IntKind) (u : Tmp) (a b : Int) (L : Place) (e : TypeId) (n : Nat) (xs : List (Int × Int)) (hk : T.known t = true) (hs : T.isStruct t = true) (hw : pm.wr (L.headD 0) = true) (hz : T.size t = 2) (h : n < xs.length) :
  sq1 T pm t u (.int k a) (.int l b) s (some (.own e (cat2 k l xs))) (n * 2) L = some (s.set L (.own e (cat2 k l (xs.set n (a, b))))) := by
 simp only [sq1]
 rw [if_pos, cat2_store k l xs n a b h]
 simp only [hk, hs, hw, hz, solid, cat2_length, cat2_hasObj, D.hasObj, Bool.and_eq_true, decide_eq_true_eq, beq_self_eq_true, Bool.not_false, and_true, true_and]
 omega
theorem numL_lst : ∀ (xs : List Int), numL (lst (D.int .i64) xs) = some xs
 | [] => rfl
 | x :: xs => by rw [lst_cons, numL, numL_lst xs]; rfl
theorem numsA (xs : List Int) (h' : xs.length ≤ 14 ∧ 14 ≤ xs.length) : numsD true 14 (.agg (lst (D.int .i64) xs)) = some xs := by
 have h : xs.length = 14 := by omega
 simp only [numsD, lst_length, h, and_self, if_true, numL_lst]
theorem numsE (a0 a1 a2 a3 a4 a5 a6 a7 a8 a9 a10 a11 a12 a13 : Int) : numsD true 14 (.agg [.int .i64 a0, .int .i64 a1, .int .i64 a2, .int .i64 a3, .int .i64 a4, .int .i64 a5, .int .i64 a6, .int .i64 a7, .int .i64 a8, .int .i64 a9, .int .i64 a10, .int .i64 a11, .int .i64 a12, .int .i64 a13]) = some [a0, a1, a2, a3, a4, a5, a6, a7, a8, a9, a10, a11, a12, a13] := nr rfl
theorem csA (L : Place) (xs : List Int) (h' : xs.length ≤ 14 ∧ 14 ≤ xs.length) : cellsOf s L 0 14 (some (.box (lst (D.int .i64) xs))) = some (.agg (lst (D.int .i64) xs)) := by
 have h : xs.length = 14 := by omega
 have e : ((List.range 14).map fun i => seen s L (0 + i) ((lst (D.int .i64) xs).getD (0 + i) .undef)) = lst (D.int .i64) xs := by
  refine List.ext_getElem (by simp [lst_length, h]) (fun i h1 h2 => ?_)
  have hi : i < xs.length := by rw [lst_length] at h2; exact h2
  simp only [List.getElem_map, List.getElem_range, Nat.zero_add, lst_getD _ xs i hi, seen]
  simp [lst, hi]
 show (if 0 + 14 ≤ (lst (D.int .i64) xs).length then noObjD (.agg ((List.range 14).map fun i => seen s L (0 + i) ((lst (D.int .i64) xs).getD (0 + i) .undef))) else none) = _
 rw [if_pos (by rw [lst_length, h]; omega), e]
 simp only [noObjD, D.hasObj, lst_hasObj (D.int .i64) xs (fun _ => rfl)]
 rfl
theorem ndL {α : Type} (e : TypeId) (c : α → D) (xs : List α) (h : 0 < xs.length) : nilD pm s (.sl e (lst c xs)) = some false := by
 cases xs with
 | nil => exact (Nat.lt_irrefl 0 h).elim
 | cons x xs => rfl
end
set_option linter.defProp false
def xlst := And.intro @exVw (And.intro @lst_splice (And.intro @lst_hasObjO (And.intro @hsSlL (And.intro @hsSlE (And.intro @hsSlC (And.intro @lst_hasSlS (And.intro @cb2T (And.intro @faN (And.intro @faC (And.intro @facS ( And.intro @at1L (And.intro @at1LP (And.intro @lst_length (And.intro @lst_at (And.intro @lst_getD (And.intro @lst_set (And.intro @lst_append (And.intro @lst_snocC (And.intro @lst_consR
 (And.intro @lst_take (And.intro @lst_drop (And.intro @lst_hasObj (And.intro @lst_frz (And.intro @lst_frzP (And.intro @lst_frzQ (And.intro @lst_hasSl (And.intro @lst_solid (And.intro @sl_rep (And.intro @own_rep (And.intro @opt_some (And.intro @opt_map (And.intro @own2_at (And.intro @gap_len (And.intro @full_len (And.intro @lst_setU (And.intro @some_set (And.intro @set_setE (And.intro (And.intro @opt_fix @opt_setN) (And.intro @opt_setS (And.intro @opt_splice (And.intro @opt_all (And.intro @int_rep (And.intro @bool_rep
 (And.intro @cat_append (And.intro @cat_hasObj (And.intro @cat_frz (And.intro @cat_hasSl (And.intro @cat_solid (And.intro @ints_lst (And.intro @sls_lst (And.intro @owns_lst
 (And.intro @eqTF (And.intro @eqFT (And.intro @eqTT (And.intro @eqFF (And.intro @cast0 (And.intro @cast1 @castN)))))))))))))))))))))))))))))))))))))))))))))))))))))))))

theorem tk2 (a b : D) (l : List D) : List.take 2 (a :: b :: l) = [a, b] := nr rfl
theorem tk3 (a b c : D) (l : List D) : List.take 3 (a :: b :: c :: l) = [a, b, c] := nr rfl
theorem tk4 (a b c d : D) (l : List D) : List.take 4 (a :: b :: c :: d :: l) = [a, b, c, d] := nr rfl
theorem tk7 (a b c d e f g : D) (l : List D) : List.take 7 (a :: b :: c :: d :: e :: f :: g :: l) = [a, b, c, d, e, f, g] := nr rfl
theorem dr0 (l : List D) : List.drop 0 l = l := nr rfl
theorem dr1 (a : D) (l : List D) : List.drop 1 (a :: l) = l := nr rfl
theorem dr2 (a0 a1 : D) (l : List D) : List.drop 2 (a0 :: a1 :: l) = l := nr rfl
theorem dr3 (a0 a1 a2 : D) (l : List D) : List.drop 3 (a0 :: a1 :: a2 :: l) = l := nr rfl
theorem dr4 (a0 a1 a2 a3 : D) (l : List D) : List.drop 4 (a0 :: a1 :: a2 :: a3 :: l) = l := nr rfl
theorem dr5 (a0 a1 a2 a3 a4 : D) (l : List D) : List.drop 5 (a0 :: a1 :: a2 :: a3 :: a4 :: l) = l := nr rfl
theorem dr6 (a0 a1 a2 a3 a4 a5 : D) (l : List D) : List.drop 6 (a0 :: a1 :: a2 :: a3 :: a4 :: a5 :: l) = l := nr rfl
theorem dr7 (a0 a1 a2 a3 a4 a5 a6 : D) (l : List D) : List.drop 7 (a0 :: a1 :: a2 :: a3 :: a4 :: a5 :: a6 :: l) = l := nr rfl
theorem dr8 (a0 a1 a2 a3 a4 a5 a6 a7 : D) (l : List D) : List.drop 8 (a0 :: a1 :: a2 :: a3 :: a4 :: a5 :: a6 :: a7 :: l) = l := nr rfl
theorem dr9 (a0 a1 a2 a3 a4 a5 a6 a7 a8 : D) (l : List D) : List.drop 9 (a0 :: a1 :: a2 :: a3 :: a4 :: a5 :: a6 :: a7 :: a8 :: l) = l := nr rfl
theorem dr10 (a0 a1 a2 a3 a4 a5 a6 a7 a8 a9 : D) (l : List D) : List.drop 10 (a0 :: a1 :: a2 :: a3 :: a4 :: a5 :: a6 :: a7 :: a8 :: a9 :: l) = l := nr rfl
theorem dr11 (a0 a1 a2 a3 a4 a5 a6 a7 a8 a9 a10 : D) (l : List D) : List.drop 11 (a0 :: a1 :: a2 :: a3 :: a4 :: a5 :: a6 :: a7 :: a8 :: a9 :: a10 :: l) = l := nr rfl
theorem c2lt0 {n m : Nat} (h : n < m) : n * 2 < m * 2 := by omega
theorem c2lt0' {n m : Nat} (h : n < m) : n * 2 + 0 < m * 2 := by omega
theorem c2lt1 {n m : Nat} (h : n < m) : n * 2 + 1 < m * 2 := by omega
theorem c2le2 {n m : Nat} (h : n < m) : n * 2 + 2 ≤ m * 2 := by omega
theorem cat2_set0' (k l : IntKind) (v : Int) (xs : List (Int × Int)) (n : Nat) (h : n < xs.length) : (cat2 k l xs).set (n * 2 + 0) (D.int k v) = cat2 k l (xs.set n (v, sndD xs n)) := cat2_set0 k l v xs n h
theorem cat2_getD0 (k l : IntKind) (xs : List (Int × Int)) (n : Nat) (d : D) (h : n < xs.length) : (cat2 k l xs).getD (n * 2) d = D.int k (fstD xs n) := by rw [List.getD_eq_getElem?_getD, cat2_at0 k l xs n h]; rfl
theorem cat2_getD0' (k l : IntKind) (xs : List (Int × Int)) (n : Nat) (d : D) (h : n < xs.length) : (cat2 k l xs).getD (n * 2 + 0) d = D.int k (fstD xs n) := cat2_getD0 k l xs n d h
theorem cat2_getD1 (k l : IntKind) (xs : List (Int × Int)) (n : Nat) (d : D) (h : n < xs.length) : (cat2 k l xs).getD (n * 2 + 1) d = D.int l (sndD xs n) := by rw [List.getD_eq_getElem?_getD, cat2_at1 k l xs n h]; rfl
def xc2 := And.intro (And.intro @numsA (And.intro @numsE (And.intro @csA @ndL))) (And.intro @at4P (And.intro @cs4 (And.intro @c4le (And.intro @cat4_getD0 (And.intro @cat4_getD1 (And.intro @cat4_getD2 (And.intro @cat4_getD3 (And.intro @Nat.add_zero (And.intro @cat4_length (And.intro @cat4_append (And.intro @cat4_snoc (And.intro @cat4_snocC (And.intro @cat4_hasObj (And.intro @cat4_frz (And.intro @cat4_hasSl (And.intro @cat4_solid (And.intro @len_4 (And.intro @at4L (And.intro @cat2_length (And.intro @cat2_at0 (And.intro @cat2_at0' (And.intro @cat2_at1 (And.intro @cat2_append (And.intro @cat2_snoc (And.intro @cat2_snocC (And.intro @cat2_take (And.intro @cat2_drop (And.intro @cat2_hasObj (And.intro @cat2_frz (And.intro @cat2_hasSl (And.intro @cat2_solid (And.intro @cat2_rep (And.intro @hsSl2 (And.intro @cat2_hasSlS (And.intro @len_2 (And.intro @at2L (And.intro @at2P (And.intro @sw1P (And.intro @tk2 (And.intro @tk3 (And.intro @tk7 (And.intro @tk4 (And.intro @dr0 (And.intro @dr1 (And.intro @dr2 (And.intro @dr3 (And.intro @dr4 (And.intro @dr5 (And.intro @dr6 (And.intro @dr7 (And.intro @dr8 (And.intro @dr9 (And.intro @dr10 (And.intro @dr11 (And.intro @c2lt0 (And.intro @c2lt0' (And.intro @c2lt1 (And.intro @c2le2 (And.intro @cat2_set0 (And.intro @cat2_set0' (And.intro @cat2_set1 (And.intro @cat2_getD0 (And.intro @cat2_getD0' (And.intro @cat2_getD1 (And.intro @List.length_set.{0} (@sq1S))))))))))))))))))))))))))))))))))))))))))))))))))))))))))))))))))
def xcore := And.intro @implies_true.{1} (And.intro @Option.bind_some.{0,0} (And.intro @Option.map_some.{0,0} (And.intro @Option.isSome_some.{0} (And.intro @List.contains_cons.{0} (And.intro @List.contains_nil.{0} (And.intro @List.getD_cons_zero.{0} (And.intro @List.getD_cons_succ.{0} (And.intro @List.getD_nil.{0} (And.intro @List.length_cons.{0} (And.intro @List.length_nil.{0} (And.intro @List.size_toArray.{0} (And.intro @List.toList_toArray.{0} (And.intro @List.zip_cons_cons.{0,0} (And.intro @List.zip_nil_left.{0,0} (And.intro @List.append_nil.{0} (And.intro @List.nil_append.{0} (And.intro @List.cons_append.{0} (And.intro @List.map_cons.{0,0} (And.intro @List.map_nil.{0,0} (And.intro @List.replicate_succ.{0} (And.intro @List.replicate_zero.{0} (And.intro @List.set_cons_zero.{0} (And.intro @List.set_cons_succ.{0} (And.intro @List.set_set.{0} (And.intro @List.all_cons.{0} (And.intro @List.any_cons.{0} (And.intro @List.any_nil.{0} (And.intro @List.all_nil.{0} (And.intro @List.getElem?_cons_zero.{0} (And.intro @List.getElem?_cons_succ.{0} (And.intro @List.getElem?_nil.{0} (@beq_self_eq_true.{0}))))))))))))))))))))))))))))))))
theorem rg0 : List.range 0 = [] := nr rfl

end Dv
/- Plain laws of loops: a loop that runs through numbers or through a list. Conditions: those in each lemma. -/
namespace Dv
open Go

section
variable {σ ρ α β : Type}
/-- A loop whose states are known one by one. -/
theorem itO_for (f : σ → Option (σ ⊕ ρ)) (st : Nat → σ) : ∀ (n : Nat) (r : ρ), (∀ i, i < n → f (st i) = some (.inl (st (i + 1)))) → f (st n) = some (.inr r) → itO f (st 0) = some r := by
 intro n r h e
 have key : ∀ k, k ≤ n → itO f (st (n - k)) = some r := by
  intro k
  induction k with
  | zero => intro _; exact itO_inr e
  | succ k ih =>
   intro hk
   have h1 := h (n - (k + 1)) (by omega)
   rw [itO_inl h1, show n - (k + 1) + 1 = n - k by omega]
   exact ih (by omega)
 have := key n (Nat.le_refl _)
 rwa [Nat.sub_self] at this

end

/-- The first number at which something fails. -/
theorem first_fail {n : Nat} {P : Nat → Bool} (h : ¬ ∀ i, i < n → P i = true) : ∃ m, m < n ∧ P m = false ∧ ∀ i, i < m → P i = true := by
 induction n with
 | zero => exact absurd (fun i hi => absurd hi (Nat.not_lt_zero _)) h
 | succ n ih =>
  by_cases hn : ∀ i, i < n → P i = true
  ·refine ⟨n, Nat.lt_succ_self _, ?_, hn⟩
   cases hp : P n with
   | false => rfl
   | true => exact absurd (fun i hi => by rcases Nat.lt_succ_iff_lt_or_eq.1 hi with h1 | rfl; exact hn i h1; exact hp) h
  ·obtain ⟨m, h1, h2, h3⟩ := ih hn
   exact ⟨m, by omega, h2, h3⟩
theorem range_all {n : Nat} {P : Nat → Bool} : (List.range n).all P = true ↔ ∀ i, i < n → P i = true := by
 simp [List.all_eq_true]
/-- A loop through numbers that stops where something fails. -/
theorem itO_all' {σ ρ : Type} (f : σ → Option (σ ⊕ ρ)) (st : Nat → σ) (n : Nat) (P : Nat → Bool) (bad good : ρ)
  (h : ∀ i, i < n → (∀ j, j < i → P j = true) → f (st i) = if P i = true then some (.inl (st (i + 1))) else some (.inr bad)) (e : (∀ j, j < n → P j = true) → f (st n) = some (.inr good)) : itO f (st 0) = some (if (List.range n).all P = true then good else bad) := by
 by_cases hp : ∀ i, i < n → P i = true
 ·rw [if_pos (range_all.2 hp)]
  refine itO_for f st n good (fun i hi => ?_) (e hp)
  rw [h i hi (fun j hj => hp j (by omega)), if_pos (hp i hi)]
 ·rw [if_neg (fun hc => hp (range_all.1 hc))]
  obtain ⟨m, h1, h2, h3⟩ := first_fail hp
  refine itO_for f st m bad (fun i hi => ?_) ?_
  ·rw [h i (by omega) (fun j hj => h3 j (by omega)), if_pos (h3 i hi)]
  ·rw [h m h1 h3, h2]; rfl
theorem itO_all {σ ρ : Type} (f : σ → Option (σ ⊕ ρ)) (st : Nat → σ) (n : Nat) (P : Nat → Bool) (bad good : ρ)
  (h : ∀ i, i < n → f (st i) = if P i = true then some (.inl (st (i + 1))) else some (.inr bad)) (e : f (st n) = some (.inr good)) : itO f (st 0) = some (if (List.range n).all P = true then good else bad) :=
 itO_all' f st n P bad good (fun i hi _ => h i hi) (fun _ => e)
/-- Two lists are the same. -/
theorem all_same {α : Type} [DecidableEq α] [Inhabited α] (a b : List α) (hl : a.length = b.length) : (List.range a.length).all (fun i => decide (a.getD i default = b.getD i default)) = decide (a = b) := by
 by_cases he : a = b
 ·subst he; simp
 ·rw [decide_eq_false he, Bool.eq_false_iff]
  intro hc
  rw [range_all] at hc
  refine he (List.ext_getElem hl fun i h1 h2 => ?_)
  have := hc i h1
  rw [List.getD_eq_getElem?_getD, List.getD_eq_getElem?_getD, List.getElem?_eq_getElem h1, List.getElem?_eq_getElem h2] at this
  simpa using this
/-- A loop that pushes a value for each element. -/
theorem itO_push {α γ : Type} (f : List γ × Int → Option ((List γ × Int) ⊕ List γ)) (xs : List α) (g : α → γ)
  (h : ∀ (i : Nat) (hi : i < xs.length) (out : List γ), out.length = i → f (out, (i : Int)) = some (.inl (out ++ [g xs[i]], ((i + 1 : Nat) : Int))))
  (e : ∀ out : List γ, out.length = xs.length → f (out, (xs.length : Int)) = some (.inr out)) : itO f ([], 0) = some (xs.map g) := by
 have key := itO_for f (fun i => ((xs.take i).map g, (i : Int))) xs.length (xs.map g) ?_ ?_
 ·simpa using key
 ·intro i hi
  have := h i hi ((xs.take i).map g) (by simp; omega)
  rw [this, List.take_succ_eq_append_getElem hi, List.map_append]; rfl
 ·simp only [List.take_length]
  exact e _ (by simp)
/-- The next number. -/
theorem wrS (i : Nat) (h : i < 4611686018427387904) : IntKind.i64.wrap ((i : Int) + 1) = ((i + 1 : Nat) : Int) := by
 rw [wr64 _ (by omega)]; rfl
theorem getD_get {α : Type} [Inhabited α] (xs : List α) (i : Nat) (h : i < xs.length) : xs.getD i default = xs[i] := by
 rw [List.getD_eq_getElem?_getD, List.getElem?_eq_getElem h]; rfl
theorem ckT {α : Type} {c : Prop} [Decidable c] {o : Option α} (h : c) : ck c o = o := if_pos h
theorem lt_nat {i n : Nat} (h : i < n) : (i : Int) < (n : Int) := by omega
theorem not_lt_nat (n : Nat) : ¬ (n : Int) < (n : Int) := by omega
theorem ix_nat {i n : Nat} (h : i < n) : 0 ≤ (i : Int) ∧ (i : Int).toNat < n := by omega
end Dv
/- Value semantics for Go code: arguments of laws with lists of pairs, opened. Conditions: none beyond those in each lemma. -/
namespace Dv
open Go

/-- A list of pairs of numbers. -/
def Pairs (xs : List (Int × Int)) : Prop := xs.length ≤ maxLen ∧ ∀ x ∈ xs, I64 x.1 ∧ I64 x.2
section
variable {T : Tys} {t e a : TypeId} {d : D}
end
end Dv
