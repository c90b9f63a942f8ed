/- Refusals made, lifted. Conditions: none. -/
import Derived.Test.YtjlphfbpaejicaaL6
import Derived.Test.YtjlphfbpaejicaaZep
namespace Go.Proofs.Ytjlphfbpaejicaa
open Go Dv
set_option linter.unusedSimpArgs false
set_option linter.unusedVariables false
set_option maxRecDepth 100000
set_option maxHeartbeats 4000000

noncomputable def i_RefusalOfPair_l0_S (p_Labels : Int) (p_Degree : Int) (p_Nodes : List (List Int)) (p_Edges : List (List Int)) (t16_ : Int) (out1 : List (List Int)) (j : Int) : Option (((List (List Int)) × Int) ⊕ (Unit ⊕ ((List (List Int))))) :=
  if j < (p_Nodes.length : Int) then
    ck (0 ≤ j ∧ j.toNat < p_Nodes.length) <|
    (i_badPair p_Labels p_Degree p_Nodes p_Edges (p_Nodes.getD t16_.toNat default) (p_Nodes.getD j.toNat default)).bind fun r9_ =>
    if r9_.2 = true then
      ck (0 < r9_.1.length) <|
      ck (1 < r9_.1.length) <|
      ck (out1.length + 1 < 1099511627776) <|
      some (Sum.inl ((out1 ++ [[t16_, j, (r9_.1.getD 0 default), (r9_.1.getD 1 default)]]), IntKind.i64.wrap (j + 1)))
    else
      some (Sum.inr (Sum.inl ()))
  else
    some (Sum.inr (Sum.inr out1))
noncomputable def i_RefusalOfPair_l0 (p_Labels : Int) (p_Degree : Int) (p_Nodes : List (List Int)) (p_Edges : List (List Int)) (t16_ : Int) (v : (List (List Int)) × Int) : Option (Unit ⊕ ((List (List Int)))) := itO (fun v => i_RefusalOfPair_l0_S p_Labels p_Degree p_Nodes p_Edges t16_ v.1 v.2) v
noncomputable def i_RefusalOfPair_l1_S (p_Labels : Int) (p_Degree : Int) (p_Nodes : List (List Int)) (p_Edges : List (List Int)) (out : List (List Int)) (t16_ : Int) : Option (((List (List Int)) × Int) ⊕ (Unit ⊕ ((List (List Int))))) :=
  if t16_ < (p_Nodes.length : Int) then
    ck (0 ≤ t16_ ∧ t16_.toNat < p_Nodes.length) <|
    (i_RefusalOfPair_l0 p_Labels p_Degree p_Nodes p_Edges t16_ (out, t16_)).bind fun r8_ =>
    match r8_ with
    | .inl q8_ =>
      some (Sum.inr (Sum.inl ()))
    | .inr q8_ =>
      some (Sum.inl (q8_, IntKind.i64.wrap (t16_ + 1)))
  else
    some (Sum.inr (Sum.inr out))
noncomputable def i_RefusalOfPair_l1 (p_Labels : Int) (p_Degree : Int) (p_Nodes : List (List Int)) (p_Edges : List (List Int)) (v : (List (List Int)) × Int) : Option (Unit ⊕ ((List (List Int)))) := itO (fun v => i_RefusalOfPair_l1_S p_Labels p_Degree p_Nodes p_Edges v.1 v.2) v
noncomputable def i_RefusalOfPair (p_Labels : Int) (p_Degree : Int) (p_Nodes : List (List Int)) (p_Edges : List (List Int)) : Option ((List (List Int)) × Bool) :=
  ck (Short p_Nodes) <|
  ck (Short p_Edges) <|
  if (isProb p_Labels p_Degree p_Nodes p_Edges) = true then
    (i_RefusalOfPair_l1 p_Labels p_Degree p_Nodes p_Edges ([], 0)).bind fun r6_ =>
    match r6_ with
    | .inl q6_ =>
      some ([], false)
    | .inr q6_ =>
      some (q6_, true)
  else
    some ([], false)
/-- impl.RefusalOfPair -/
def k49_l0b : SC :=
  .seq
    (.seq
      (.ops [
        ⟨(some 22), (Op.move (Operand.tmp 7)), 3, none⟩,
        ⟨(some 23), (Op.fieldAddr 28 (Operand.tmp 1) 2), 0, none⟩,
        ⟨(some 24), (Op.load 22 (Operand.tmp 23)), 22, none⟩,
        ⟨(some 25), (Op.call { callee := (Callee.builtin Builtin.len), args := #[(Operand.tmp 24)], argTypes := #[22] }), 3, none⟩,
        ⟨(some 26), (Op.binOp BinOp.lss 3 (Operand.tmp 22) (Operand.tmp 25) 3), 4, none⟩])
      (.cond (Operand.tmp 26)
        .skip
        (.exit 2)))
    (.seq
      (.block 3
        (.seq
          (.draws [
            (⟨[30, 1, 1], [30, 31, 32, 33, 34, 35, 36, 37, 29, 37, 38, 39, 8, 38, 37, 9, 39], [30]⟩, ⟨(some 30), (Op.load 28 (Operand.tmp 1)), 28, none⟩),
            (⟨[31, 6, 6], [30, 31, 32, 33, 34, 35, 36, 37, 29, 37, 38, 39, 8, 38, 37, 9, 39], [31]⟩, ⟨(some 31), (Op.move (Operand.tmp 6)), 32, none⟩),
            (⟨[32, 1, 1], [30, 31, 32, 33, 34, 35, 36, 37, 29, 37, 38, 39, 8, 38, 37, 9, 39], [32]⟩, ⟨(some 32), (Op.fieldAddr 28 (Operand.tmp 1) 2), 0, none⟩),
            (⟨[33, 32, 1], [30, 31, 32, 33, 34, 35, 36, 37, 29, 37, 38, 39, 8, 38, 37, 9, 39], [33]⟩, ⟨(some 33), (Op.load 22 (Operand.tmp 32)), 22, none⟩),
            (⟨[34, 7, 7], [30, 31, 32, 33, 34, 35, 36, 37, 29, 37, 38, 39, 8, 38, 37, 9, 39], [34]⟩, ⟨(some 34), (Op.move (Operand.tmp 7)), 3, none⟩),
            (⟨[35, 33, 34, 1, 7], [30, 31, 32, 33, 34, 35, 36, 37, 29, 37, 38, 39, 8, 38, 37, 9, 39], [35]⟩, ⟨(some 35), (Op.indexAddr 22 (Operand.tmp 33) (Operand.tmp 34)), 0, none⟩),
            (⟨[36, 35, 1], [30, 31, 32, 33, 34, 35, 36, 37, 29, 37, 38, 39, 8, 38, 37, 9, 39], [36]⟩, ⟨(some 36), (Op.load 32 (Operand.tmp 35)), 32, none⟩),
            (⟨[37, 30, 31, 36, 1, 6, 1], [30, 31, 32, 33, 34, 35, 36, 37, 29, 37, 38, 39, 8, 38, 37, 9, 39], [37]⟩, ⟨(some 37), (Op.call { callee := (Callee.value (Operand.func 79)), args := #[(Operand.tmp 30), (Operand.tmp 31), (Operand.tmp 36)], argTypes := #[28, 32, 32] }), 33, none⟩),
            (⟨[29, 37, 37], [30, 31, 32, 33, 34, 35, 36, 37, 29, 37, 38, 39, 8, 38, 37, 9, 39], [29, 37]⟩, ⟨(some 29), (Op.move (Operand.tmp 37)), 33, none⟩),
            (⟨[38, 29], [30, 31, 32, 33, 34, 35, 36, 37, 29, 37, 38, 39, 8, 38, 37, 9, 39], [38]⟩, ⟨(some 38), (Op.extract (Operand.tmp 29) 0), 32, none⟩),
            (⟨[39, 29], [30, 31, 32, 33, 34, 35, 36, 37, 29, 37, 38, 39, 8, 38, 37, 9, 39], [39]⟩, ⟨(some 39), (Op.extract (Operand.tmp 29) 1), 4, none⟩),
            (⟨[8, 38, 37], [30, 31, 32, 33, 34, 35, 36, 37, 29, 37, 38, 39, 8, 38, 37, 9, 39], [8, 38, 37]⟩, ⟨(some 8), (Op.assign (Operand.tmp 38)), 32, none⟩),
            (⟨[9, 39], [30, 31, 32, 33, 34, 35, 36, 37, 29, 37, 38, 39, 8, 38, 37, 9, 39], [9, 39]⟩, ⟨(some 9), (Op.assign (Operand.tmp 39)), 4, none⟩)])
          (.seq
            (.seq
              (.ops [
                ⟨(some 40), (Op.move (Operand.tmp 9)), 4, none⟩,
                ⟨(some 41), (Op.unOp UnOp.not 4 (Operand.tmp 40)), 4, none⟩])
              (.cond (Operand.tmp 41)
                (.seq
                  (.ops [
                    ⟨(some 2), (Op.assign (Operand.const (Value.slice none 0 0))), 22, none⟩,
                    ⟨(some 3), (Op.assign (Operand.const (Value.bool false))), 4, none⟩])
                  .ret)
                .skip))
            (.draws [
              (⟨[42, 4, 4], [42, 43, 44, 45, 46, 47, 48, 49, 50, 51, 43, 44, 47, 50, 5, 7, 8, 8, 52, 51, 51, 53, 42, 52, 4, 52, 4, 53, 53], [42]⟩, ⟨(some 42), (Op.move (Operand.tmp 4)), 22, none⟩),
              (⟨[43, 5, 5], [42, 43, 44, 45, 46, 47, 48, 49, 50, 51, 43, 44, 47, 50, 5, 7, 8, 8, 52, 51, 51, 53, 42, 52, 4, 52, 4, 53, 53], [43]⟩, ⟨(some 43), (Op.move (Operand.tmp 5)), 3, none⟩),
              (⟨[44, 7, 7], [42, 43, 44, 45, 46, 47, 48, 49, 50, 51, 43, 44, 47, 50, 5, 7, 8, 8, 52, 51, 51, 53, 42, 52, 4, 52, 4, 53, 53], [44]⟩, ⟨(some 44), (Op.move (Operand.tmp 7)), 3, none⟩),
              (⟨[45, 8, 8], [42, 43, 44, 45, 46, 47, 48, 49, 50, 51, 43, 44, 47, 50, 5, 7, 8, 8, 52, 51, 51, 53, 42, 52, 4, 52, 4, 53, 53], [45]⟩, ⟨(some 45), (Op.move (Operand.tmp 8)), 32, none⟩),
              (⟨[46, 45, 8], [42, 43, 44, 45, 46, 47, 48, 49, 50, 51, 43, 44, 47, 50, 5, 7, 8, 8, 52, 51, 51, 53, 42, 52, 4, 52, 4, 53, 53], [46]⟩, ⟨(some 46), (Op.indexAddr 32 (Operand.tmp 45) (Operand.const (Value.int IntKind.i64 0))), 0, none⟩),
              (⟨[47, 46, 8], [42, 43, 44, 45, 46, 47, 48, 49, 50, 51, 43, 44, 47, 50, 5, 7, 8, 8, 52, 51, 51, 53, 42, 52, 4, 52, 4, 53, 53], [47]⟩, ⟨(some 47), (Op.load 3 (Operand.tmp 46)), 3, none⟩),
              (⟨[48, 8, 8], [42, 43, 44, 45, 46, 47, 48, 49, 50, 51, 43, 44, 47, 50, 5, 7, 8, 8, 52, 51, 51, 53, 42, 52, 4, 52, 4, 53, 53], [48]⟩, ⟨(some 48), (Op.move (Operand.tmp 8)), 32, none⟩),
              (⟨[49, 48, 8], [42, 43, 44, 45, 46, 47, 48, 49, 50, 51, 43, 44, 47, 50, 5, 7, 8, 8, 52, 51, 51, 53, 42, 52, 4, 52, 4, 53, 53], [49]⟩, ⟨(some 49), (Op.indexAddr 32 (Operand.tmp 48) (Operand.const (Value.int IntKind.i64 1))), 0, none⟩),
              (⟨[50, 49, 8], [42, 43, 44, 45, 46, 47, 48, 49, 50, 51, 43, 44, 47, 50, 5, 7, 8, 8, 52, 51, 51, 53, 42, 52, 4, 52, 4, 53, 53], [50]⟩, ⟨(some 50), (Op.load 3 (Operand.tmp 49)), 3, none⟩),
              (⟨[51, 43, 44, 47, 50, 5, 7, 8, 8], [42, 43, 44, 45, 46, 47, 48, 49, 50, 51, 43, 44, 47, 50, 5, 7, 8, 8, 52, 51, 51, 53, 42, 52, 4, 52, 4, 53, 53], [51, 43, 44, 47, 50, 5, 7, 8, 8]⟩, ⟨(some 51), (Op.buildSlice 32 4 #[(0, (Operand.tmp 43)), (1, (Operand.tmp 44)), (2, (Operand.tmp 47)), (3, (Operand.tmp 50))]), 32, none⟩),
              (⟨[52, 51, 51], [42, 43, 44, 45, 46, 47, 48, 49, 50, 51, 43, 44, 47, 50, 5, 7, 8, 8, 52, 51, 51, 53, 42, 52, 4, 52, 4, 53, 53], [52, 51, 51]⟩, ⟨(some 52), (Op.buildSlice 22 1 #[(0, (Operand.tmp 51))]), 22, none⟩),
              (⟨[53, 42, 52, 4, 52], [42, 43, 44, 45, 46, 47, 48, 49, 50, 51, 43, 44, 47, 50, 5, 7, 8, 8, 52, 51, 51, 53, 42, 52, 4, 52, 4, 53, 53], [53, 42, 52, 4, 52]⟩, ⟨(some 53), (Op.call { callee := (Callee.builtin Builtin.append), args := #[(Operand.tmp 42), (Operand.tmp 52)], argTypes := #[22, 22] }), 22, none⟩),
              (⟨[4, 53, 53], [42, 43, 44, 45, 46, 47, 48, 49, 50, 51, 43, 44, 47, 50, 5, 7, 8, 8, 52, 51, 51, 53, 42, 52, 4, 52, 4, 53, 53], [4, 53, 53]⟩, ⟨(some 4), (Op.assign (Operand.tmp 53)), 22, none⟩)]))))
      (.ops [
        ⟨(some 27), (Op.move (Operand.tmp 7)), 3, none⟩,
        ⟨(some 28), (Op.binOp BinOp.add 3 (Operand.tmp 27) (Operand.const (Value.int IntKind.i64 1)) 3), 3, none⟩,
        ⟨(some 7), (Op.assign (Operand.tmp 28)), 3, none⟩]))
def k49_l0 : SC := .loop k49_l0b
def k49_l1b : SC :=
  .seq
    (.ops [
      ⟨(some 17), (Op.binOp BinOp.lss 3 (Operand.tmp 16) (Operand.tmp 15) 3), 0, none⟩])
    (.seq
      (.cond (Operand.tmp 17)
        .skip
        (.exit 0))
      (.seq
        (.block 1
          (.seq
            (.ops [
              ⟨(some 18), (Op.move (Operand.tmp 16)), 3, none⟩,
              ⟨(some 19), (Op.indexAddr 22 (Operand.tmp 14) (Operand.tmp 16)), 0, none⟩,
              ⟨(some 20), (Op.load 32 (Operand.tmp 19)), 32, none⟩,
              ⟨(some 5), (Op.assign (Operand.tmp 18)), 3, none⟩,
              ⟨(some 6), (Op.assign (Operand.tmp 20)), 32, none⟩])
            (.seq
              (.ops [
                ⟨(some 21), (Op.move (Operand.tmp 5)), 3, none⟩,
                ⟨(some 7), (Op.assign (Operand.tmp 21)), 3, none⟩])
              (.block 2
                k49_l0))))
        (.ops [
          ⟨(some 54), (Op.binOp BinOp.add 3 (Operand.tmp 16) (Operand.const (Value.int IntKind.i64 1)) 3), 3, none⟩,
          ⟨(some 16), (Op.move (Operand.tmp 54)), 3, none⟩])))
def k49_l1 : SC := .loop k49_l1b
def k49 : SC :=
  .seq
    (.ops [
      ⟨(some 1), (Op.box 28 (Operand.tmp 0)), 0, none⟩,
      ⟨(some 2), (Op.assign (Operand.const (Value.slice none 0 0))), 22, none⟩,
      ⟨(some 3), (Op.assign (Operand.const (Value.bool false))), 4, none⟩])
    (.seq
      (.seq
        (.ops [
          ⟨(some 10), (Op.load 28 (Operand.tmp 1)), 28, none⟩,
          ⟨(some 11), (Op.call { callee := (Callee.value (Operand.func 58)), args := #[(Operand.tmp 10)], argTypes := #[28] }), 4, none⟩,
          ⟨(some 12), (Op.unOp UnOp.not 4 (Operand.tmp 11)), 4, none⟩])
        (.cond (Operand.tmp 12)
          (.seq
            (.ops [
              ⟨(some 2), (Op.assign (Operand.const (Value.slice none 0 0))), 22, none⟩,
              ⟨(some 3), (Op.assign (Operand.const (Value.bool false))), 4, none⟩])
            .ret)
          .skip))
      (.seq
        (.ops [
          ⟨(some 4), (Op.assign (Operand.const (Value.slice none 0 0))), 22, none⟩])
        (.seq
          (.seq
            (.ops [
              ⟨(some 13), (Op.fieldAddr 28 (Operand.tmp 1) 2), 0, none⟩,
              ⟨(some 14), (Op.load 22 (Operand.tmp 13)), 22, none⟩,
              ⟨(some 15), (Op.call { callee := (Callee.builtin Builtin.len), args := #[(Operand.tmp 14)], argTypes := #[22] }), 3, none⟩,
              ⟨(some 16), (Op.move (Operand.const (Value.int IntKind.i64 0))), 3, none⟩])
            (.block 0
              k49_l1))
          (.seq
            (.ops [
              ⟨(some 55), (Op.move (Operand.tmp 4)), 22, none⟩,
              ⟨(some 2), (Op.assign (Operand.tmp 55)), 22, none⟩,
              ⟨(some 3), (Op.assign (Operand.const (Value.bool true))), 4, none⟩])
            .ret))))
theorem slim49 : Try.f49.body.map (slim lends) = some k49 := by kernel_rfl
theorem ok49 : fnOk Try.f49 1 = true := by kernel_rfl
theorem c49 {a l : List D} {r : D × List D} (h : wpD Y.env k49 (fin tys l.length [ResultVar.tmp 2, ResultVar.tmp 3] r) (entry a l)) (ha : a.length = 1) : Y.call 49 a l = some r :=
  call_slim (Y := Y) rfl Try.func49 (ha ▸ ok49) slim49 h
def i_RefusalOfPair_l0_M (p_Labels : Int) (p_Degree : Int) (p_Nodes : List (List Int)) (p_Edges : List (List Int)) (t16_ : Int) (out1 : List (List Int)) (j : Int) (s : St) : Prop := s.v 1 = D.box [D.int .i64 p_Labels, D.int .i64 p_Degree, D.sl 32 (lst (fun x => D.sl 3 (lst (D.int .i64) x)) p_Nodes), D.sl 32 (lst (fun x => D.sl 3 (lst (D.int .i64) x)) p_Edges)] ∧ s.v 4 = D.own 32 (lst (fun x => D.own 3 (lst (D.int .i64) x)) out1) ∧ s.v 5 = D.int .i64 t16_ ∧ s.v 6 = D.sl 3 (lst (D.int .i64) (p_Nodes.getD t16_.toNat default)) ∧ s.v 7 = D.int .i64 j ∧ s.v 14 = D.sl 32 (lst (fun x => D.sl 3 (lst (D.int .i64) x)) p_Nodes) ∧ s.v 15 = D.int .i64 (p_Nodes.length : Int) ∧ s.v 16 = D.int .i64 t16_
def i_RefusalOfPair_l0_X (p_Labels : Int) (p_Degree : Int) (p_Nodes : List (List Int)) (p_Edges : List (List Int)) (t16_ : Int) (r : Unit ⊕ ((List (List Int)))) (ex : Ex) (s : St) : Prop := match r with
  | .inl q => ex = .ret ∧ s.v 2 = D.own 32 [] ∧ s.v 3 = D.bool false
  | .inr q => ex = .exit 2 ∧ s.v 1 = D.box [D.int .i64 p_Labels, D.int .i64 p_Degree, D.sl 32 (lst (fun x => D.sl 3 (lst (D.int .i64) x)) p_Nodes), D.sl 32 (lst (fun x => D.sl 3 (lst (D.int .i64) x)) p_Edges)] ∧ s.v 4 = D.own 32 (lst (fun x => D.own 3 (lst (D.int .i64) x)) q) ∧ s.v 14 = D.sl 32 (lst (fun x => D.sl 3 (lst (D.int .i64) x)) p_Nodes) ∧ s.v 15 = D.int .i64 (p_Nodes.length : Int) ∧ s.v 16 = D.int .i64 t16_
theorem i_RefusalOfPair_l0_wp (p_Labels : Int) (p_Degree : Int) (p_Nodes : List (List Int)) (p_Edges : List (List Int)) (t16_ : Int) {v : (List (List Int)) × Int} {s : St} {r : Unit ⊕ ((List (List Int)))} (h : i_RefusalOfPair_l0 p_Labels p_Degree p_Nodes p_Edges t16_ v = some r) (hM : i_RefusalOfPair_l0_M p_Labels p_Degree p_Nodes p_Edges t16_ v.1 v.2 s) : wpD Y.env k49_l0 (i_RefusalOfPair_l0_X p_Labels p_Degree p_Nodes p_Edges t16_ r) s := by
  unfold i_RefusalOfPair_l0 at h
  refine wd_itO (c := k49_l0b) (fun v => i_RefusalOfPair_l0_S p_Labels p_Degree p_Nodes p_Edges t16_ v.1 v.2) (fun v s => i_RefusalOfPair_l0_M p_Labels p_Degree p_Nodes p_Edges t16_ v.1 v.2 s) (i_RefusalOfPair_l0_X p_Labels p_Degree p_Nodes p_Edges t16_) ?_ h hM
  clear h hM s v r
  intro v s o hM h
  obtain ⟨out1, j⟩ := v
  dsimp only at h hM
  unfold i_RefusalOfPair_l0_S at h
  unfold i_RefusalOfPair_l0_M at hM
  obtain ⟨m0, m1, m2, m3, m4, m5, m6, m7⟩ := hM
  unfold k49_l0b
  by_cases e7 : j < (p_Nodes.length : Int)
  · rw [if_pos e7] at h
    obtain ⟨e8, h⟩ := ckS h
    obtain ⟨r9_, hl9, h⟩ := bindS h
    try dsimp only at h
    have c9 := i_badPair_call p_Labels p_Degree p_Nodes p_Edges (p_Nodes.getD t16_.toNat default) (p_Nodes.getD j.toNat default) hl9
    by_cases e10 : r9_.2 = true
    · rw [if_pos e10] at h
      obtain ⟨e11, h⟩ := ckS h
      obtain ⟨e12, h⟩ := ckS h
      obtain ⟨e13, h⟩ := ckS h
      obtain rfl := Option.some.inj h
      simp (maxDischargeDepth := 9) only [↓xpre, xpost, xlst, xcore, yset, rg0, ↓reduceIte, Nat.reduceEqDiff, Nat.reduceLT, Nat.reduceLeDiff, Nat.reduceAdd, Nat.reduceMul, Nat.reduceMod, Nat.reduceSub, Nat.reduceBEq, Int.reduceLE, Int.reduceLT, Int.reduceEq, Int.reduceSub, Int.reduceAdd, Int.reduceToNat, Int.reduceNeg, m0, m1, m2, m3, m4, m5, m6, m7, e7, e8.1, e8.2, c9, e10, e11, e12, e13, i_RefusalOfPair_l0_M, i_RefusalOfPair_l0_X, sxN, sxE, sxR] <;> (repeat' apply And.intro) <;> first | rfl | exact ⟨_, rfl⟩ | simp [lst]
    · rw [if_neg e10] at h
      have e10f : r9_.2 = false := Bool.eq_false_iff.mpr e10
      obtain rfl := Option.some.inj h
      simp (maxDischargeDepth := 9) only [↓xpre, xpost, xlst, xcore, yset, rg0, ↓reduceIte, Nat.reduceEqDiff, Nat.reduceLT, Nat.reduceLeDiff, Nat.reduceAdd, Nat.reduceMul, Nat.reduceMod, Nat.reduceSub, Nat.reduceBEq, Int.reduceLE, Int.reduceLT, Int.reduceEq, Int.reduceSub, Int.reduceAdd, Int.reduceToNat, Int.reduceNeg, m0, m1, m2, m3, m4, m5, m6, m7, e7, e8.1, e8.2, c9, e10f, i_RefusalOfPair_l0_M, i_RefusalOfPair_l0_X, sxN, sxE, sxR] <;> (repeat' apply And.intro) <;> first | rfl | exact ⟨_, rfl⟩ | simp [lst]
  · rw [if_neg e7] at h
    obtain rfl := Option.some.inj h
    simp (maxDischargeDepth := 9) only [↓xpre, xpost, xlst, xcore, yset, rg0, ↓reduceIte, Nat.reduceEqDiff, Nat.reduceLT, Nat.reduceLeDiff, Nat.reduceAdd, Nat.reduceMul, Nat.reduceMod, Nat.reduceSub, Nat.reduceBEq, Int.reduceLE, Int.reduceLT, Int.reduceEq, Int.reduceSub, Int.reduceAdd, Int.reduceToNat, Int.reduceNeg, m0, m1, m2, m3, m4, m5, m6, m7, e7, i_RefusalOfPair_l0_M, i_RefusalOfPair_l0_X, sxN, sxE, sxR] <;> (repeat' apply And.intro) <;> first | rfl | exact ⟨_, rfl⟩ | simp [lst]
def i_RefusalOfPair_l1_M (p_Labels : Int) (p_Degree : Int) (p_Nodes : List (List Int)) (p_Edges : List (List Int)) (out : List (List Int)) (t16_ : Int) (s : St) : Prop := s.v 1 = D.box [D.int .i64 p_Labels, D.int .i64 p_Degree, D.sl 32 (lst (fun x => D.sl 3 (lst (D.int .i64) x)) p_Nodes), D.sl 32 (lst (fun x => D.sl 3 (lst (D.int .i64) x)) p_Edges)] ∧ s.v 4 = D.own 32 (lst (fun x => D.own 3 (lst (D.int .i64) x)) out) ∧ s.v 14 = D.sl 32 (lst (fun x => D.sl 3 (lst (D.int .i64) x)) p_Nodes) ∧ s.v 15 = D.int .i64 (p_Nodes.length : Int) ∧ s.v 16 = D.int .i64 t16_
def i_RefusalOfPair_l1_X (p_Labels : Int) (p_Degree : Int) (p_Nodes : List (List Int)) (p_Edges : List (List Int)) (r : Unit ⊕ ((List (List Int)))) (ex : Ex) (s : St) : Prop := match r with
  | .inl q => ex = .ret ∧ s.v 2 = D.own 32 [] ∧ s.v 3 = D.bool false
  | .inr q => ex = .exit 0 ∧ s.v 4 = D.own 32 (lst (fun x => D.own 3 (lst (D.int .i64) x)) q)
theorem i_RefusalOfPair_l1_wp (p_Labels : Int) (p_Degree : Int) (p_Nodes : List (List Int)) (p_Edges : List (List Int)) {v : (List (List Int)) × Int} {s : St} {r : Unit ⊕ ((List (List Int)))} (h : i_RefusalOfPair_l1 p_Labels p_Degree p_Nodes p_Edges v = some r) (hM : i_RefusalOfPair_l1_M p_Labels p_Degree p_Nodes p_Edges v.1 v.2 s) : wpD Y.env k49_l1 (i_RefusalOfPair_l1_X p_Labels p_Degree p_Nodes p_Edges r) s := by
  unfold i_RefusalOfPair_l1 at h
  refine wd_itO (c := k49_l1b) (fun v => i_RefusalOfPair_l1_S p_Labels p_Degree p_Nodes p_Edges v.1 v.2) (fun v s => i_RefusalOfPair_l1_M p_Labels p_Degree p_Nodes p_Edges v.1 v.2 s) (i_RefusalOfPair_l1_X p_Labels p_Degree p_Nodes p_Edges) ?_ h hM
  clear h hM s v r
  intro v s o hM h
  obtain ⟨out, t16_⟩ := v
  dsimp only at h hM
  unfold i_RefusalOfPair_l1_S at h
  unfold i_RefusalOfPair_l1_M at hM
  obtain ⟨m0, m1, m2, m3, m4⟩ := hM
  unfold k49_l1b
  by_cases e5 : t16_ < (p_Nodes.length : Int)
  · rw [if_pos e5] at h
    obtain ⟨e6, h⟩ := ckS h
    obtain ⟨r8_, hl8, h⟩ := bindS h
    try dsimp only at h
    simp (maxDischargeDepth := 9) only [↓xpre, xpost, xlst, xcore, yset, rg0, ↓reduceIte, Nat.reduceEqDiff, Nat.reduceLT, Nat.reduceLeDiff, Nat.reduceAdd, Nat.reduceMul, Nat.reduceMod, Nat.reduceSub, Nat.reduceBEq, Int.reduceLE, Int.reduceLT, Int.reduceEq, Int.reduceSub, Int.reduceAdd, Int.reduceToNat, Int.reduceNeg, m0, m1, m2, m3, m4, e5, e6.1, e6.2]
    refine wd_mono (i_RefusalOfPair_l0_wp p_Labels p_Degree p_Nodes p_Edges t16_ hl8 ?_) ?_
    · simp (maxDischargeDepth := 9) only [↓xpre, xpost, xlst, xcore, yset, rg0, ↓reduceIte, Nat.reduceEqDiff, Nat.reduceLT, Nat.reduceLeDiff, Nat.reduceAdd, Nat.reduceMul, Nat.reduceMod, Nat.reduceSub, Nat.reduceBEq, Int.reduceLE, Int.reduceLT, Int.reduceEq, Int.reduceSub, Int.reduceAdd, Int.reduceToNat, Int.reduceNeg, m0, m1, m2, m3, m4, e5, e6.1, e6.2, i_RefusalOfPair_l0_M] <;> (repeat' apply And.intro) <;> first | rfl | exact ⟨_, rfl⟩ | simp [lst]
    · intro ex8 s8 hX8
      rcases r8_ with q8_ | q8_
      · unfold i_RefusalOfPair_l0_X at hX8
        dsimp only at hX8 h
        obtain ⟨rfl, n8_0, n8_1⟩ := hX8
        obtain rfl := Option.some.inj h
        simp (maxDischargeDepth := 9) only [↓xpre, xpost, xlst, xcore, yset, rg0, ↓reduceIte, Nat.reduceEqDiff, Nat.reduceLT, Nat.reduceLeDiff, Nat.reduceAdd, Nat.reduceMul, Nat.reduceMod, Nat.reduceSub, Nat.reduceBEq, Int.reduceLE, Int.reduceLT, Int.reduceEq, Int.reduceSub, Int.reduceAdd, Int.reduceToNat, Int.reduceNeg, e5, e6.1, e6.2, n8_0, n8_1, i_RefusalOfPair_l1_M, i_RefusalOfPair_l1_X, sxN, sxE, sxR] <;> (repeat' apply And.intro) <;> first | rfl | exact ⟨_, rfl⟩ | simp [lst]
      · unfold i_RefusalOfPair_l0_X at hX8
        dsimp only at hX8 h
        obtain ⟨rfl, n8_0, n8_1, n8_2, n8_3, n8_4⟩ := hX8
        obtain rfl := Option.some.inj h
        simp (maxDischargeDepth := 9) only [↓xpre, xpost, xlst, xcore, yset, rg0, ↓reduceIte, Nat.reduceEqDiff, Nat.reduceLT, Nat.reduceLeDiff, Nat.reduceAdd, Nat.reduceMul, Nat.reduceMod, Nat.reduceSub, Nat.reduceBEq, Int.reduceLE, Int.reduceLT, Int.reduceEq, Int.reduceSub, Int.reduceAdd, Int.reduceToNat, Int.reduceNeg, e5, e6.1, e6.2, n8_0, n8_1, n8_2, n8_3, n8_4, i_RefusalOfPair_l1_M, i_RefusalOfPair_l1_X, sxN, sxE, sxR] <;> (repeat' apply And.intro) <;> first | rfl | exact ⟨_, rfl⟩ | simp [lst]
  · rw [if_neg e5] at h
    obtain rfl := Option.some.inj h
    simp (maxDischargeDepth := 9) only [↓xpre, xpost, xlst, xcore, yset, rg0, ↓reduceIte, Nat.reduceEqDiff, Nat.reduceLT, Nat.reduceLeDiff, Nat.reduceAdd, Nat.reduceMul, Nat.reduceMod, Nat.reduceSub, Nat.reduceBEq, Int.reduceLE, Int.reduceLT, Int.reduceEq, Int.reduceSub, Int.reduceAdd, Int.reduceToNat, Int.reduceNeg, m0, m1, m2, m3, m4, e5, i_RefusalOfPair_l1_M, i_RefusalOfPair_l1_X, sxN, sxE, sxR] <;> (repeat' apply And.intro) <;> first | rfl | exact ⟨_, rfl⟩ | simp [lst]
theorem i_RefusalOfPair_call (p_Labels : Int) (p_Degree : Int) (p_Nodes : List (List Int)) (p_Edges : List (List Int)) {r : (List (List Int)) × Bool} (h : i_RefusalOfPair p_Labels p_Degree p_Nodes p_Edges = some r) : Y.call 49 [D.agg [D.int .i64 p_Labels, D.int .i64 p_Degree, D.sl 32 (lst (fun x => D.sl 3 (lst (D.int .i64) x)) p_Nodes), D.sl 32 (lst (fun x => D.sl 3 (lst (D.int .i64) x)) p_Edges)]] [] = some (D.tup [D.own 32 (lst (fun x => D.own 3 (lst (D.int .i64) x)) r.1), D.bool r.2], []) := by
  refine c49 ?_ rfl
  unfold k49
  unfold i_RefusalOfPair at h
  obtain ⟨e1, h⟩ := ckS h
  obtain ⟨e2, h⟩ := ckS h
  have c3 := i_IsProblem_cl p_Labels p_Degree p_Nodes p_Edges e1 e2
  by_cases e4 : (isProb p_Labels p_Degree p_Nodes p_Edges) = true
  · rw [if_pos e4] at h
    obtain ⟨r6_, hl6, h⟩ := bindS h
    try dsimp only at h
    simp (maxDischargeDepth := 9) only [↓xpre, xpost, xlst, xcore, yset, rg0, ↓reduceIte, Nat.reduceEqDiff, Nat.reduceLT, Nat.reduceLeDiff, Nat.reduceAdd, Nat.reduceMul, Nat.reduceMod, Nat.reduceSub, Nat.reduceBEq, Int.reduceLE, Int.reduceLT, Int.reduceEq, Int.reduceSub, Int.reduceAdd, Int.reduceToNat, Int.reduceNeg, e1, e2, c3, e4]
    refine wd_mono (i_RefusalOfPair_l1_wp p_Labels p_Degree p_Nodes p_Edges hl6 ?_) ?_
    · simp (maxDischargeDepth := 9) only [↓xpre, xpost, xlst, xcore, yset, rg0, ↓reduceIte, Nat.reduceEqDiff, Nat.reduceLT, Nat.reduceLeDiff, Nat.reduceAdd, Nat.reduceMul, Nat.reduceMod, Nat.reduceSub, Nat.reduceBEq, Int.reduceLE, Int.reduceLT, Int.reduceEq, Int.reduceSub, Int.reduceAdd, Int.reduceToNat, Int.reduceNeg, e1, e2, c3, e4, i_RefusalOfPair_l1_M] <;> (repeat' apply And.intro) <;> first | rfl | exact ⟨_, rfl⟩ | simp [lst]
    · intro ex6 s6 hX6
      rcases r6_ with q6_ | q6_
      · unfold i_RefusalOfPair_l1_X at hX6
        dsimp only at hX6 h
        obtain ⟨rfl, n6_0, n6_1⟩ := hX6
        obtain rfl := Option.some.inj h
        simp (maxDischargeDepth := 9) only [↓xpre, xpost, xlst, xcore, yset, rg0, ↓reduceIte, Nat.reduceEqDiff, Nat.reduceLT, Nat.reduceLeDiff, Nat.reduceAdd, Nat.reduceMul, Nat.reduceMod, Nat.reduceSub, Nat.reduceBEq, Int.reduceLE, Int.reduceLT, Int.reduceEq, Int.reduceSub, Int.reduceAdd, Int.reduceToNat, Int.reduceNeg, e1, e2, c3, e4, n6_0, n6_1] <;> (repeat' apply And.intro) <;> first | rfl | exact ⟨_, rfl⟩ | simp [lst]
      · unfold i_RefusalOfPair_l1_X at hX6
        dsimp only at hX6 h
        obtain ⟨rfl, n6_0⟩ := hX6
        obtain rfl := Option.some.inj h
        simp (maxDischargeDepth := 9) only [↓xpre, xpost, xlst, xcore, yset, rg0, ↓reduceIte, Nat.reduceEqDiff, Nat.reduceLT, Nat.reduceLeDiff, Nat.reduceAdd, Nat.reduceMul, Nat.reduceMod, Nat.reduceSub, Nat.reduceBEq, Int.reduceLE, Int.reduceLT, Int.reduceEq, Int.reduceSub, Int.reduceAdd, Int.reduceToNat, Int.reduceNeg, e1, e2, c3, e4, n6_0] <;> (repeat' apply And.intro) <;> first | rfl | exact ⟨_, rfl⟩ | simp [lst]
  · rw [if_neg e4] at h
    have e4f : (isProb p_Labels p_Degree p_Nodes p_Edges) = false := Bool.eq_false_iff.mpr e4
    obtain rfl := Option.some.inj h
    simp (maxDischargeDepth := 9) only [↓xpre, xpost, xlst, xcore, yset, rg0, ↓reduceIte, Nat.reduceEqDiff, Nat.reduceLT, Nat.reduceLeDiff, Nat.reduceAdd, Nat.reduceMul, Nat.reduceMod, Nat.reduceSub, Nat.reduceBEq, Int.reduceLE, Int.reduceLT, Int.reduceEq, Int.reduceSub, Int.reduceAdd, Int.reduceToNat, Int.reduceNeg, e1, e2, c3, e4f] <;> (repeat' apply And.intro) <;> first | rfl | exact ⟨_, rfl⟩ | simp [lst]

noncomputable def s_RefusalOfPair_l0_S (t0_Labels : Int) (t0_Degree : Int) (t0_Nodes : List (List Int)) (t0_Edges : List (List Int)) (t27_ : Int) (t7_1 : List (List Int)) (t10_ : Int) : Option (((List (List Int)) × Int) ⊕ ((List (List Int)))) :=
  if t10_ < (t0_Nodes.length : Int) then
    ck (0 ≤ t10_ ∧ t10_.toNat < t0_Nodes.length) <|
    (s_zeBad t0_Labels t0_Degree t0_Nodes t0_Edges (t0_Nodes.getD t27_.toNat default) (t0_Nodes.getD t10_.toNat default)).bind fun r11_ =>
    ck (0 ≤ r11_.1 ∧ r11_.1.toNat < (t0_Nodes.getD t27_.toNat default).length) <|
    ck (0 ≤ r11_.2.1 ∧ r11_.2.1.toNat < (t0_Nodes.getD t10_.toNat default).length) <|
    ck (t7_1.length + 1 < 1099511627776) <|
    some (Sum.inl ((t7_1 ++ [[t27_, t10_, ((t0_Nodes.getD t27_.toNat default).getD r11_.1.toNat default), ((t0_Nodes.getD t10_.toNat default).getD r11_.2.1.toNat default)]]), IntKind.i64.wrap (t10_ + 1)))
  else
    some (Sum.inr t7_1)
noncomputable def s_RefusalOfPair_l0 (t0_Labels : Int) (t0_Degree : Int) (t0_Nodes : List (List Int)) (t0_Edges : List (List Int)) (t27_ : Int) (v : (List (List Int)) × Int) : Option ((List (List Int))) := itO (fun v => s_RefusalOfPair_l0_S t0_Labels t0_Degree t0_Nodes t0_Edges t27_ v.1 v.2) v
noncomputable def s_RefusalOfPair_l1_S (t0_Labels : Int) (t0_Degree : Int) (t0_Nodes : List (List Int)) (t0_Edges : List (List Int)) (t7_ : List (List Int)) (t27_ : Int) : Option (((List (List Int)) × Int) ⊕ ((List (List Int)))) :=
  if t27_ < (t0_Nodes.length : Int) then
    ck (0 ≤ t27_ ∧ t27_.toNat < t0_Nodes.length) <|
    (s_RefusalOfPair_l0 t0_Labels t0_Degree t0_Nodes t0_Edges t27_ (t7_, t27_)).bind fun r10_ =>
    some (Sum.inl (r10_, IntKind.i64.wrap (t27_ + 1)))
  else
    some (Sum.inr t7_)
noncomputable def s_RefusalOfPair_l1 (t0_Labels : Int) (t0_Degree : Int) (t0_Nodes : List (List Int)) (t0_Edges : List (List Int)) (v : (List (List Int)) × Int) : Option ((List (List Int))) := itO (fun v => s_RefusalOfPair_l1_S t0_Labels t0_Degree t0_Nodes t0_Edges v.1 v.2) v
noncomputable def s_RefusalOfPair (t0_Labels : Int) (t0_Degree : Int) (t0_Nodes : List (List Int)) (t0_Edges : List (List Int)) : Option ((List (List Int)) × Bool) :=
  ck (Short t0_Nodes) <|
  ck (Short t0_Edges) <|
  if (isProb t0_Labels t0_Degree t0_Nodes t0_Edges) = true then
    (s_zePair t0_Labels t0_Degree t0_Nodes t0_Edges).bind fun r5_ =>
    if r5_.2.2 = true then
      some ([], false)
    else
      (s_RefusalOfPair_l1 t0_Labels t0_Degree t0_Nodes t0_Edges ([], 0)).bind fun r8_ =>
      some (r8_, true)
  else
    some ([], false)
/-- spec.RefusalOfPair -/
def k48_l0b : SC :=
  .seq
    (.seq
      (.ops [
        ⟨(some 33), (Op.move (Operand.tmp 10)), 3, none⟩,
        ⟨(some 34), (Op.fieldAddr 28 (Operand.tmp 1) 2), 0, none⟩,
        ⟨(some 35), (Op.load 22 (Operand.tmp 34)), 22, none⟩,
        ⟨(some 36), (Op.call { callee := (Callee.builtin Builtin.len), args := #[(Operand.tmp 35)], argTypes := #[22] }), 3, none⟩,
        ⟨(some 37), (Op.binOp BinOp.lss 3 (Operand.tmp 33) (Operand.tmp 36) 3), 4, none⟩])
      (.cond (Operand.tmp 37)
        .skip
        (.exit 2)))
    (.seq
      (.block 3
        (.seq
          (.draws [
            (⟨[41, 1, 1], [41, 42, 43, 44, 45, 46, 47, 48, 40, 48, 49, 50, 51, 11, 49, 48, 12, 50, 13, 51], [41]⟩, ⟨(some 41), (Op.load 28 (Operand.tmp 1)), 28, none⟩),
            (⟨[42, 9, 9], [41, 42, 43, 44, 45, 46, 47, 48, 40, 48, 49, 50, 51, 11, 49, 48, 12, 50, 13, 51], [42]⟩, ⟨(some 42), (Op.move (Operand.tmp 9)), 32, none⟩),
            (⟨[43, 1, 1], [41, 42, 43, 44, 45, 46, 47, 48, 40, 48, 49, 50, 51, 11, 49, 48, 12, 50, 13, 51], [43]⟩, ⟨(some 43), (Op.fieldAddr 28 (Operand.tmp 1) 2), 0, none⟩),
            (⟨[44, 43, 1], [41, 42, 43, 44, 45, 46, 47, 48, 40, 48, 49, 50, 51, 11, 49, 48, 12, 50, 13, 51], [44]⟩, ⟨(some 44), (Op.load 22 (Operand.tmp 43)), 22, none⟩),
            (⟨[45, 10, 10], [41, 42, 43, 44, 45, 46, 47, 48, 40, 48, 49, 50, 51, 11, 49, 48, 12, 50, 13, 51], [45]⟩, ⟨(some 45), (Op.move (Operand.tmp 10)), 3, none⟩),
            (⟨[46, 44, 45, 1, 10], [41, 42, 43, 44, 45, 46, 47, 48, 40, 48, 49, 50, 51, 11, 49, 48, 12, 50, 13, 51], [46]⟩, ⟨(some 46), (Op.indexAddr 22 (Operand.tmp 44) (Operand.tmp 45)), 0, none⟩),
            (⟨[47, 46, 1], [41, 42, 43, 44, 45, 46, 47, 48, 40, 48, 49, 50, 51, 11, 49, 48, 12, 50, 13, 51], [47]⟩, ⟨(some 47), (Op.load 32 (Operand.tmp 46)), 32, none⟩),
            (⟨[48, 41, 42, 47, 1, 9, 1], [41, 42, 43, 44, 45, 46, 47, 48, 40, 48, 49, 50, 51, 11, 49, 48, 12, 50, 13, 51], [48]⟩, ⟨(some 48), (Op.call { callee := (Callee.value (Operand.func 78)), args := #[(Operand.tmp 41), (Operand.tmp 42), (Operand.tmp 47)], argTypes := #[28, 32, 32] }), 58, none⟩),
            (⟨[40, 48, 48], [41, 42, 43, 44, 45, 46, 47, 48, 40, 48, 49, 50, 51, 11, 49, 48, 12, 50, 13, 51], [40, 48]⟩, ⟨(some 40), (Op.move (Operand.tmp 48)), 58, none⟩),
            (⟨[49, 40], [41, 42, 43, 44, 45, 46, 47, 48, 40, 48, 49, 50, 51, 11, 49, 48, 12, 50, 13, 51], [49]⟩, ⟨(some 49), (Op.extract (Operand.tmp 40) 0), 3, none⟩),
            (⟨[50, 40], [41, 42, 43, 44, 45, 46, 47, 48, 40, 48, 49, 50, 51, 11, 49, 48, 12, 50, 13, 51], [50]⟩, ⟨(some 50), (Op.extract (Operand.tmp 40) 1), 3, none⟩),
            (⟨[51, 40], [41, 42, 43, 44, 45, 46, 47, 48, 40, 48, 49, 50, 51, 11, 49, 48, 12, 50, 13, 51], [51]⟩, ⟨(some 51), (Op.extract (Operand.tmp 40) 2), 4, none⟩),
            (⟨[11, 49, 48], [41, 42, 43, 44, 45, 46, 47, 48, 40, 48, 49, 50, 51, 11, 49, 48, 12, 50, 13, 51], [11, 49, 48]⟩, ⟨(some 11), (Op.assign (Operand.tmp 49)), 3, none⟩),
            (⟨[12, 50], [41, 42, 43, 44, 45, 46, 47, 48, 40, 48, 49, 50, 51, 11, 49, 48, 12, 50, 13, 51], [12, 50]⟩, ⟨(some 12), (Op.assign (Operand.tmp 50)), 3, none⟩),
            (⟨[13, 51], [41, 42, 43, 44, 45, 46, 47, 48, 40, 48, 49, 50, 51, 11, 49, 48, 12, 50, 13, 51], [13, 51]⟩, ⟨(some 13), (Op.assign (Operand.tmp 51)), 4, none⟩)])
          (.draws [
            (⟨[52, 7, 7], [52, 53, 54, 55, 56, 57, 58, 59, 60, 61, 62, 63, 64, 65, 66, 67, 53, 54, 58, 66, 8, 10, 9, 1, 68, 67, 67, 69, 52, 68, 7, 68, 7, 69, 69], [52]⟩, ⟨(some 52), (Op.move (Operand.tmp 7)), 22, none⟩),
            (⟨[53, 8, 8], [52, 53, 54, 55, 56, 57, 58, 59, 60, 61, 62, 63, 64, 65, 66, 67, 53, 54, 58, 66, 8, 10, 9, 1, 68, 67, 67, 69, 52, 68, 7, 68, 7, 69, 69], [53]⟩, ⟨(some 53), (Op.move (Operand.tmp 8)), 3, none⟩),
            (⟨[54, 10, 10], [52, 53, 54, 55, 56, 57, 58, 59, 60, 61, 62, 63, 64, 65, 66, 67, 53, 54, 58, 66, 8, 10, 9, 1, 68, 67, 67, 69, 52, 68, 7, 68, 7, 69, 69], [54]⟩, ⟨(some 54), (Op.move (Operand.tmp 10)), 3, none⟩),
            (⟨[55, 9, 9], [52, 53, 54, 55, 56, 57, 58, 59, 60, 61, 62, 63, 64, 65, 66, 67, 53, 54, 58, 66, 8, 10, 9, 1, 68, 67, 67, 69, 52, 68, 7, 68, 7, 69, 69], [55]⟩, ⟨(some 55), (Op.move (Operand.tmp 9)), 32, none⟩),
            (⟨[56, 11, 11], [52, 53, 54, 55, 56, 57, 58, 59, 60, 61, 62, 63, 64, 65, 66, 67, 53, 54, 58, 66, 8, 10, 9, 1, 68, 67, 67, 69, 52, 68, 7, 68, 7, 69, 69], [56]⟩, ⟨(some 56), (Op.move (Operand.tmp 11)), 3, none⟩),
            (⟨[57, 55, 56, 9, 11], [52, 53, 54, 55, 56, 57, 58, 59, 60, 61, 62, 63, 64, 65, 66, 67, 53, 54, 58, 66, 8, 10, 9, 1, 68, 67, 67, 69, 52, 68, 7, 68, 7, 69, 69], [57]⟩, ⟨(some 57), (Op.indexAddr 32 (Operand.tmp 55) (Operand.tmp 56)), 0, none⟩),
            (⟨[58, 57, 9], [52, 53, 54, 55, 56, 57, 58, 59, 60, 61, 62, 63, 64, 65, 66, 67, 53, 54, 58, 66, 8, 10, 9, 1, 68, 67, 67, 69, 52, 68, 7, 68, 7, 69, 69], [58]⟩, ⟨(some 58), (Op.load 3 (Operand.tmp 57)), 3, none⟩),
            (⟨[59, 1, 1], [52, 53, 54, 55, 56, 57, 58, 59, 60, 61, 62, 63, 64, 65, 66, 67, 53, 54, 58, 66, 8, 10, 9, 1, 68, 67, 67, 69, 52, 68, 7, 68, 7, 69, 69], [59]⟩, ⟨(some 59), (Op.fieldAddr 28 (Operand.tmp 1) 2), 0, none⟩),
            (⟨[60, 59, 1], [52, 53, 54, 55, 56, 57, 58, 59, 60, 61, 62, 63, 64, 65, 66, 67, 53, 54, 58, 66, 8, 10, 9, 1, 68, 67, 67, 69, 52, 68, 7, 68, 7, 69, 69], [60]⟩, ⟨(some 60), (Op.load 22 (Operand.tmp 59)), 22, none⟩),
            (⟨[61, 10, 10], [52, 53, 54, 55, 56, 57, 58, 59, 60, 61, 62, 63, 64, 65, 66, 67, 53, 54, 58, 66, 8, 10, 9, 1, 68, 67, 67, 69, 52, 68, 7, 68, 7, 69, 69], [61]⟩, ⟨(some 61), (Op.move (Operand.tmp 10)), 3, none⟩),
            (⟨[62, 60, 61, 1, 10], [52, 53, 54, 55, 56, 57, 58, 59, 60, 61, 62, 63, 64, 65, 66, 67, 53, 54, 58, 66, 8, 10, 9, 1, 68, 67, 67, 69, 52, 68, 7, 68, 7, 69, 69], [62]⟩, ⟨(some 62), (Op.indexAddr 22 (Operand.tmp 60) (Operand.tmp 61)), 0, none⟩),
            (⟨[63, 62, 1], [52, 53, 54, 55, 56, 57, 58, 59, 60, 61, 62, 63, 64, 65, 66, 67, 53, 54, 58, 66, 8, 10, 9, 1, 68, 67, 67, 69, 52, 68, 7, 68, 7, 69, 69], [63]⟩, ⟨(some 63), (Op.load 32 (Operand.tmp 62)), 32, none⟩),
            (⟨[64, 12, 12], [52, 53, 54, 55, 56, 57, 58, 59, 60, 61, 62, 63, 64, 65, 66, 67, 53, 54, 58, 66, 8, 10, 9, 1, 68, 67, 67, 69, 52, 68, 7, 68, 7, 69, 69], [64]⟩, ⟨(some 64), (Op.move (Operand.tmp 12)), 3, none⟩),
            (⟨[65, 63, 64, 1, 12], [52, 53, 54, 55, 56, 57, 58, 59, 60, 61, 62, 63, 64, 65, 66, 67, 53, 54, 58, 66, 8, 10, 9, 1, 68, 67, 67, 69, 52, 68, 7, 68, 7, 69, 69], [65]⟩, ⟨(some 65), (Op.indexAddr 32 (Operand.tmp 63) (Operand.tmp 64)), 0, none⟩),
            (⟨[66, 65, 1], [52, 53, 54, 55, 56, 57, 58, 59, 60, 61, 62, 63, 64, 65, 66, 67, 53, 54, 58, 66, 8, 10, 9, 1, 68, 67, 67, 69, 52, 68, 7, 68, 7, 69, 69], [66]⟩, ⟨(some 66), (Op.load 3 (Operand.tmp 65)), 3, none⟩),
            (⟨[67, 53, 54, 58, 66, 8, 10, 9, 1], [52, 53, 54, 55, 56, 57, 58, 59, 60, 61, 62, 63, 64, 65, 66, 67, 53, 54, 58, 66, 8, 10, 9, 1, 68, 67, 67, 69, 52, 68, 7, 68, 7, 69, 69], [67, 53, 54, 58, 66, 8, 10, 9, 1]⟩, ⟨(some 67), (Op.buildSlice 32 4 #[(0, (Operand.tmp 53)), (1, (Operand.tmp 54)), (2, (Operand.tmp 58)), (3, (Operand.tmp 66))]), 32, none⟩),
            (⟨[68, 67, 67], [52, 53, 54, 55, 56, 57, 58, 59, 60, 61, 62, 63, 64, 65, 66, 67, 53, 54, 58, 66, 8, 10, 9, 1, 68, 67, 67, 69, 52, 68, 7, 68, 7, 69, 69], [68, 67, 67]⟩, ⟨(some 68), (Op.buildSlice 22 1 #[(0, (Operand.tmp 67))]), 22, none⟩),
            (⟨[69, 52, 68, 7, 68], [52, 53, 54, 55, 56, 57, 58, 59, 60, 61, 62, 63, 64, 65, 66, 67, 53, 54, 58, 66, 8, 10, 9, 1, 68, 67, 67, 69, 52, 68, 7, 68, 7, 69, 69], [69, 52, 68, 7, 68]⟩, ⟨(some 69), (Op.call { callee := (Callee.builtin Builtin.append), args := #[(Operand.tmp 52), (Operand.tmp 68)], argTypes := #[22, 22] }), 22, none⟩),
            (⟨[7, 69, 69], [52, 53, 54, 55, 56, 57, 58, 59, 60, 61, 62, 63, 64, 65, 66, 67, 53, 54, 58, 66, 8, 10, 9, 1, 68, 67, 67, 69, 52, 68, 7, 68, 7, 69, 69], [7, 69, 69]⟩, ⟨(some 7), (Op.assign (Operand.tmp 69)), 22, none⟩)])))
      (.ops [
        ⟨(some 38), (Op.move (Operand.tmp 10)), 3, none⟩,
        ⟨(some 39), (Op.binOp BinOp.add 3 (Operand.tmp 38) (Operand.const (Value.int IntKind.i64 1)) 3), 3, none⟩,
        ⟨(some 10), (Op.assign (Operand.tmp 39)), 3, none⟩]))
def k48_l0 : SC := .loop k48_l0b
def k48_l1b : SC :=
  .seq
    (.ops [
      ⟨(some 28), (Op.binOp BinOp.lss 3 (Operand.tmp 27) (Operand.tmp 26) 3), 0, none⟩])
    (.seq
      (.cond (Operand.tmp 28)
        .skip
        (.exit 0))
      (.seq
        (.block 1
          (.seq
            (.ops [
              ⟨(some 29), (Op.move (Operand.tmp 27)), 3, none⟩,
              ⟨(some 30), (Op.indexAddr 22 (Operand.tmp 25) (Operand.tmp 27)), 0, none⟩,
              ⟨(some 31), (Op.load 32 (Operand.tmp 30)), 32, none⟩,
              ⟨(some 8), (Op.assign (Operand.tmp 29)), 3, none⟩,
              ⟨(some 9), (Op.assign (Operand.tmp 31)), 32, none⟩])
            (.seq
              (.ops [
                ⟨(some 32), (Op.move (Operand.tmp 8)), 3, none⟩,
                ⟨(some 10), (Op.assign (Operand.tmp 32)), 3, none⟩])
              (.block 2
                k48_l0))))
        (.ops [
          ⟨(some 70), (Op.binOp BinOp.add 3 (Operand.tmp 27) (Operand.const (Value.int IntKind.i64 1)) 3), 3, none⟩,
          ⟨(some 27), (Op.move (Operand.tmp 70)), 3, none⟩])))
def k48_l1 : SC := .loop k48_l1b
def k48 : SC :=
  .seq
    (.ops [
      ⟨(some 1), (Op.box 28 (Operand.tmp 0)), 0, none⟩,
      ⟨(some 2), (Op.assign (Operand.const (Value.slice none 0 0))), 22, none⟩,
      ⟨(some 3), (Op.assign (Operand.const (Value.bool false))), 4, none⟩])
    (.seq
      (.seq
        (.ops [
          ⟨(some 14), (Op.load 28 (Operand.tmp 1)), 28, none⟩,
          ⟨(some 15), (Op.call { callee := (Callee.value (Operand.func 56)), args := #[(Operand.tmp 14)], argTypes := #[28] }), 4, none⟩,
          ⟨(some 16), (Op.unOp UnOp.not 4 (Operand.tmp 15)), 4, none⟩])
        (.cond (Operand.tmp 16)
          (.seq
            (.ops [
              ⟨(some 2), (Op.assign (Operand.const (Value.slice none 0 0))), 22, none⟩,
              ⟨(some 3), (Op.assign (Operand.const (Value.bool false))), 4, none⟩])
            .ret)
          .skip))
      (.seq
        (.seq
          (.ops [
            ⟨(some 18), (Op.load 28 (Operand.tmp 1)), 28, none⟩,
            ⟨(some 19), (Op.call { callee := (Callee.value (Operand.func 68)), args := #[(Operand.tmp 18)], argTypes := #[28] }), 58, none⟩,
            ⟨(some 17), (Op.move (Operand.tmp 19)), 58, none⟩,
            ⟨(some 20), (Op.extract (Operand.tmp 17) 0), 3, none⟩,
            ⟨(some 21), (Op.extract (Operand.tmp 17) 1), 3, none⟩,
            ⟨(some 22), (Op.extract (Operand.tmp 17) 2), 4, none⟩,
            ⟨(some 4), (Op.assign (Operand.tmp 20)), 3, none⟩,
            ⟨(some 5), (Op.assign (Operand.tmp 21)), 3, none⟩,
            ⟨(some 6), (Op.assign (Operand.tmp 22)), 4, none⟩])
          (.seq
            (.ops [
              ⟨(some 23), (Op.move (Operand.tmp 6)), 4, none⟩])
            (.cond (Operand.tmp 23)
              (.seq
                (.ops [
                  ⟨(some 2), (Op.assign (Operand.const (Value.slice none 0 0))), 22, none⟩,
                  ⟨(some 3), (Op.assign (Operand.const (Value.bool false))), 4, none⟩])
                .ret)
              .skip)))
        (.seq
          (.ops [
            ⟨(some 7), (Op.assign (Operand.const (Value.slice none 0 0))), 22, none⟩])
          (.seq
            (.seq
              (.ops [
                ⟨(some 24), (Op.fieldAddr 28 (Operand.tmp 1) 2), 0, none⟩,
                ⟨(some 25), (Op.load 22 (Operand.tmp 24)), 22, none⟩,
                ⟨(some 26), (Op.call { callee := (Callee.builtin Builtin.len), args := #[(Operand.tmp 25)], argTypes := #[22] }), 3, none⟩,
                ⟨(some 27), (Op.move (Operand.const (Value.int IntKind.i64 0))), 3, none⟩])
              (.block 0
                k48_l1))
            (.seq
              (.ops [
                ⟨(some 71), (Op.move (Operand.tmp 7)), 22, none⟩,
                ⟨(some 2), (Op.assign (Operand.tmp 71)), 22, none⟩,
                ⟨(some 3), (Op.assign (Operand.const (Value.bool true))), 4, none⟩])
              .ret)))))
theorem slim48 : Try.f48.body.map (slim lends) = some k48 := by kernel_rfl
theorem ok48 : fnOk Try.f48 1 = true := by kernel_rfl
theorem c48 {a l : List D} {r : D × List D} (h : wpD Y.env k48 (fin tys l.length [ResultVar.tmp 2, ResultVar.tmp 3] r) (entry a l)) (ha : a.length = 1) : Y.call 48 a l = some r :=
  call_slim (Y := Y) rfl Try.func48 (ha ▸ ok48) slim48 h
def s_RefusalOfPair_l0_M (t0_Labels : Int) (t0_Degree : Int) (t0_Nodes : List (List Int)) (t0_Edges : List (List Int)) (t27_ : Int) (t7_1 : List (List Int)) (t10_ : Int) (s : St) : Prop := s.v 1 = D.box [D.int .i64 t0_Labels, D.int .i64 t0_Degree, D.sl 32 (lst (fun x => D.sl 3 (lst (D.int .i64) x)) t0_Nodes), D.sl 32 (lst (fun x => D.sl 3 (lst (D.int .i64) x)) t0_Edges)] ∧ s.v 7 = D.own 32 (lst (fun x => D.own 3 (lst (D.int .i64) x)) t7_1) ∧ s.v 8 = D.int .i64 t27_ ∧ s.v 9 = D.sl 3 (lst (D.int .i64) (t0_Nodes.getD t27_.toNat default)) ∧ s.v 10 = D.int .i64 t10_ ∧ s.v 25 = D.sl 32 (lst (fun x => D.sl 3 (lst (D.int .i64) x)) t0_Nodes) ∧ s.v 26 = D.int .i64 (t0_Nodes.length : Int) ∧ s.v 27 = D.int .i64 t27_
def s_RefusalOfPair_l0_X (t0_Labels : Int) (t0_Degree : Int) (t0_Nodes : List (List Int)) (t0_Edges : List (List Int)) (t27_ : Int) (r : (List (List Int))) (ex : Ex) (s : St) : Prop := ex = .exit 2 ∧ s.v 1 = D.box [D.int .i64 t0_Labels, D.int .i64 t0_Degree, D.sl 32 (lst (fun x => D.sl 3 (lst (D.int .i64) x)) t0_Nodes), D.sl 32 (lst (fun x => D.sl 3 (lst (D.int .i64) x)) t0_Edges)] ∧ s.v 7 = D.own 32 (lst (fun x => D.own 3 (lst (D.int .i64) x)) r) ∧ s.v 25 = D.sl 32 (lst (fun x => D.sl 3 (lst (D.int .i64) x)) t0_Nodes) ∧ s.v 26 = D.int .i64 (t0_Nodes.length : Int) ∧ s.v 27 = D.int .i64 t27_
theorem s_RefusalOfPair_l0_wp (t0_Labels : Int) (t0_Degree : Int) (t0_Nodes : List (List Int)) (t0_Edges : List (List Int)) (t27_ : Int) {v : (List (List Int)) × Int} {s : St} {r : (List (List Int))} (h : s_RefusalOfPair_l0 t0_Labels t0_Degree t0_Nodes t0_Edges t27_ v = some r) (hM : s_RefusalOfPair_l0_M t0_Labels t0_Degree t0_Nodes t0_Edges t27_ v.1 v.2 s) : wpD Y.env k48_l0 (s_RefusalOfPair_l0_X t0_Labels t0_Degree t0_Nodes t0_Edges t27_ r) s := by
  unfold s_RefusalOfPair_l0 at h
  refine wd_itO (c := k48_l0b) (fun v => s_RefusalOfPair_l0_S t0_Labels t0_Degree t0_Nodes t0_Edges t27_ v.1 v.2) (fun v s => s_RefusalOfPair_l0_M t0_Labels t0_Degree t0_Nodes t0_Edges t27_ v.1 v.2 s) (s_RefusalOfPair_l0_X t0_Labels t0_Degree t0_Nodes t0_Edges t27_) ?_ h hM
  clear h hM s v r
  intro v s o hM h
  obtain ⟨t7_1, t10_⟩ := v
  dsimp only at h hM
  unfold s_RefusalOfPair_l0_S at h
  unfold s_RefusalOfPair_l0_M at hM
  obtain ⟨m0, m1, m2, m3, m4, m5, m6, m7⟩ := hM
  unfold k48_l0b
  by_cases e9 : t10_ < (t0_Nodes.length : Int)
  · rw [if_pos e9] at h
    obtain ⟨e10, h⟩ := ckS h
    obtain ⟨r11_, hl11, h⟩ := bindS h
    try dsimp only at h
    have c11 := s_zeBad_call t0_Labels t0_Degree t0_Nodes t0_Edges (t0_Nodes.getD t27_.toNat default) (t0_Nodes.getD t10_.toNat default) hl11
    obtain ⟨e12, h⟩ := ckS h
    obtain ⟨e13, h⟩ := ckS h
    obtain ⟨e14, h⟩ := ckS h
    obtain rfl := Option.some.inj h
    simp (maxDischargeDepth := 9) only [↓xpre, xpost, xlst, xcore, yset, rg0, ↓reduceIte, Nat.reduceEqDiff, Nat.reduceLT, Nat.reduceLeDiff, Nat.reduceAdd, Nat.reduceMul, Nat.reduceMod, Nat.reduceSub, Nat.reduceBEq, Int.reduceLE, Int.reduceLT, Int.reduceEq, Int.reduceSub, Int.reduceAdd, Int.reduceToNat, Int.reduceNeg, m0, m1, m2, m3, m4, m5, m6, m7, e9, e10.1, e10.2, c11, e12.1, e12.2, e13.1, e13.2, e14, s_RefusalOfPair_l0_M, s_RefusalOfPair_l0_X, sxN, sxE, sxR] <;> (repeat' apply And.intro) <;> first | rfl | exact ⟨_, rfl⟩ | simp [lst]
  · rw [if_neg e9] at h
    obtain rfl := Option.some.inj h
    simp (maxDischargeDepth := 9) only [↓xpre, xpost, xlst, xcore, yset, rg0, ↓reduceIte, Nat.reduceEqDiff, Nat.reduceLT, Nat.reduceLeDiff, Nat.reduceAdd, Nat.reduceMul, Nat.reduceMod, Nat.reduceSub, Nat.reduceBEq, Int.reduceLE, Int.reduceLT, Int.reduceEq, Int.reduceSub, Int.reduceAdd, Int.reduceToNat, Int.reduceNeg, m0, m1, m2, m3, m4, m5, m6, m7, e9, s_RefusalOfPair_l0_M, s_RefusalOfPair_l0_X, sxN, sxE, sxR] <;> (repeat' apply And.intro) <;> first | rfl | exact ⟨_, rfl⟩ | simp [lst]
def s_RefusalOfPair_l1_M (t0_Labels : Int) (t0_Degree : Int) (t0_Nodes : List (List Int)) (t0_Edges : List (List Int)) (t7_ : List (List Int)) (t27_ : Int) (s : St) : Prop := s.v 1 = D.box [D.int .i64 t0_Labels, D.int .i64 t0_Degree, D.sl 32 (lst (fun x => D.sl 3 (lst (D.int .i64) x)) t0_Nodes), D.sl 32 (lst (fun x => D.sl 3 (lst (D.int .i64) x)) t0_Edges)] ∧ s.v 7 = D.own 32 (lst (fun x => D.own 3 (lst (D.int .i64) x)) t7_) ∧ s.v 25 = D.sl 32 (lst (fun x => D.sl 3 (lst (D.int .i64) x)) t0_Nodes) ∧ s.v 26 = D.int .i64 (t0_Nodes.length : Int) ∧ s.v 27 = D.int .i64 t27_
def s_RefusalOfPair_l1_X (t0_Labels : Int) (t0_Degree : Int) (t0_Nodes : List (List Int)) (t0_Edges : List (List Int)) (r : (List (List Int))) (ex : Ex) (s : St) : Prop := ex = .exit 0 ∧ s.v 7 = D.own 32 (lst (fun x => D.own 3 (lst (D.int .i64) x)) r)
theorem s_RefusalOfPair_l1_wp (t0_Labels : Int) (t0_Degree : Int) (t0_Nodes : List (List Int)) (t0_Edges : List (List Int)) {v : (List (List Int)) × Int} {s : St} {r : (List (List Int))} (h : s_RefusalOfPair_l1 t0_Labels t0_Degree t0_Nodes t0_Edges v = some r) (hM : s_RefusalOfPair_l1_M t0_Labels t0_Degree t0_Nodes t0_Edges v.1 v.2 s) : wpD Y.env k48_l1 (s_RefusalOfPair_l1_X t0_Labels t0_Degree t0_Nodes t0_Edges r) s := by
  unfold s_RefusalOfPair_l1 at h
  refine wd_itO (c := k48_l1b) (fun v => s_RefusalOfPair_l1_S t0_Labels t0_Degree t0_Nodes t0_Edges v.1 v.2) (fun v s => s_RefusalOfPair_l1_M t0_Labels t0_Degree t0_Nodes t0_Edges v.1 v.2 s) (s_RefusalOfPair_l1_X t0_Labels t0_Degree t0_Nodes t0_Edges) ?_ h hM
  clear h hM s v r
  intro v s o hM h
  obtain ⟨t7_, t27_⟩ := v
  dsimp only at h hM
  unfold s_RefusalOfPair_l1_S at h
  unfold s_RefusalOfPair_l1_M at hM
  obtain ⟨m0, m1, m2, m3, m4⟩ := hM
  unfold k48_l1b
  by_cases e7 : t27_ < (t0_Nodes.length : Int)
  · rw [if_pos e7] at h
    obtain ⟨e8, h⟩ := ckS h
    obtain ⟨r10_, hl10, h⟩ := bindS h
    try dsimp only at h
    simp (maxDischargeDepth := 9) only [↓xpre, xpost, xlst, xcore, yset, rg0, ↓reduceIte, Nat.reduceEqDiff, Nat.reduceLT, Nat.reduceLeDiff, Nat.reduceAdd, Nat.reduceMul, Nat.reduceMod, Nat.reduceSub, Nat.reduceBEq, Int.reduceLE, Int.reduceLT, Int.reduceEq, Int.reduceSub, Int.reduceAdd, Int.reduceToNat, Int.reduceNeg, m0, m1, m2, m3, m4, e7, e8.1, e8.2]
    refine wd_mono (s_RefusalOfPair_l0_wp t0_Labels t0_Degree t0_Nodes t0_Edges t27_ hl10 ?_) ?_
    · simp (maxDischargeDepth := 9) only [↓xpre, xpost, xlst, xcore, yset, rg0, ↓reduceIte, Nat.reduceEqDiff, Nat.reduceLT, Nat.reduceLeDiff, Nat.reduceAdd, Nat.reduceMul, Nat.reduceMod, Nat.reduceSub, Nat.reduceBEq, Int.reduceLE, Int.reduceLT, Int.reduceEq, Int.reduceSub, Int.reduceAdd, Int.reduceToNat, Int.reduceNeg, m0, m1, m2, m3, m4, e7, e8.1, e8.2, s_RefusalOfPair_l0_M] <;> (repeat' apply And.intro) <;> first | rfl | exact ⟨_, rfl⟩ | simp [lst]
    · intro ex10 s10 hX10
      unfold s_RefusalOfPair_l0_X at hX10
      obtain ⟨rfl, n10_0, n10_1, n10_2, n10_3, n10_4⟩ := hX10
      obtain rfl := Option.some.inj h
      simp (maxDischargeDepth := 9) only [↓xpre, xpost, xlst, xcore, yset, rg0, ↓reduceIte, Nat.reduceEqDiff, Nat.reduceLT, Nat.reduceLeDiff, Nat.reduceAdd, Nat.reduceMul, Nat.reduceMod, Nat.reduceSub, Nat.reduceBEq, Int.reduceLE, Int.reduceLT, Int.reduceEq, Int.reduceSub, Int.reduceAdd, Int.reduceToNat, Int.reduceNeg, e7, e8.1, e8.2, n10_0, n10_1, n10_2, n10_3, n10_4, s_RefusalOfPair_l1_M, s_RefusalOfPair_l1_X, sxN, sxE, sxR] <;> (repeat' apply And.intro) <;> first | rfl | exact ⟨_, rfl⟩ | simp [lst]
  · rw [if_neg e7] at h
    obtain rfl := Option.some.inj h
    simp (maxDischargeDepth := 9) only [↓xpre, xpost, xlst, xcore, yset, rg0, ↓reduceIte, Nat.reduceEqDiff, Nat.reduceLT, Nat.reduceLeDiff, Nat.reduceAdd, Nat.reduceMul, Nat.reduceMod, Nat.reduceSub, Nat.reduceBEq, Int.reduceLE, Int.reduceLT, Int.reduceEq, Int.reduceSub, Int.reduceAdd, Int.reduceToNat, Int.reduceNeg, m0, m1, m2, m3, m4, e7, s_RefusalOfPair_l1_M, s_RefusalOfPair_l1_X, sxN, sxE, sxR] <;> (repeat' apply And.intro) <;> first | rfl | exact ⟨_, rfl⟩ | simp [lst]
theorem s_RefusalOfPair_call (t0_Labels : Int) (t0_Degree : Int) (t0_Nodes : List (List Int)) (t0_Edges : List (List Int)) {r : (List (List Int)) × Bool} (h : s_RefusalOfPair t0_Labels t0_Degree t0_Nodes t0_Edges = some r) : Y.call 48 [D.agg [D.int .i64 t0_Labels, D.int .i64 t0_Degree, D.sl 32 (lst (fun x => D.sl 3 (lst (D.int .i64) x)) t0_Nodes), D.sl 32 (lst (fun x => D.sl 3 (lst (D.int .i64) x)) t0_Edges)]] [] = some (D.tup [D.own 32 (lst (fun x => D.own 3 (lst (D.int .i64) x)) r.1), D.bool r.2], []) := by
  refine c48 ?_ rfl
  unfold k48
  unfold s_RefusalOfPair at h
  obtain ⟨e1, h⟩ := ckS h
  obtain ⟨e2, h⟩ := ckS h
  have c3 := s_prGood_cl t0_Labels t0_Degree t0_Nodes t0_Edges e1 e2
  by_cases e4 : (isProb t0_Labels t0_Degree t0_Nodes t0_Edges) = true
  · rw [if_pos e4] at h
    obtain ⟨r5_, hl5, h⟩ := bindS h
    try dsimp only at h
    have c5 := s_zePair_call t0_Labels t0_Degree t0_Nodes t0_Edges hl5
    by_cases e6 : r5_.2.2 = true
    · rw [if_pos e6] at h
      obtain rfl := Option.some.inj h
      simp (maxDischargeDepth := 9) only [↓xpre, xpost, xlst, xcore, yset, rg0, ↓reduceIte, Nat.reduceEqDiff, Nat.reduceLT, Nat.reduceLeDiff, Nat.reduceAdd, Nat.reduceMul, Nat.reduceMod, Nat.reduceSub, Nat.reduceBEq, Int.reduceLE, Int.reduceLT, Int.reduceEq, Int.reduceSub, Int.reduceAdd, Int.reduceToNat, Int.reduceNeg, e1, e2, c3, e4, c5, e6] <;> (repeat' apply And.intro) <;> first | rfl | exact ⟨_, rfl⟩ | simp [lst]
    · rw [if_neg e6] at h
      have e6f : r5_.2.2 = false := Bool.eq_false_iff.mpr e6
      obtain ⟨r8_, hl8, h⟩ := bindS h
      try dsimp only at h
      simp (maxDischargeDepth := 9) only [↓xpre, xpost, xlst, xcore, yset, rg0, ↓reduceIte, Nat.reduceEqDiff, Nat.reduceLT, Nat.reduceLeDiff, Nat.reduceAdd, Nat.reduceMul, Nat.reduceMod, Nat.reduceSub, Nat.reduceBEq, Int.reduceLE, Int.reduceLT, Int.reduceEq, Int.reduceSub, Int.reduceAdd, Int.reduceToNat, Int.reduceNeg, e1, e2, c3, e4, c5, e6f]
      refine wd_mono (s_RefusalOfPair_l1_wp t0_Labels t0_Degree t0_Nodes t0_Edges hl8 ?_) ?_
      · simp (maxDischargeDepth := 9) only [↓xpre, xpost, xlst, xcore, yset, rg0, ↓reduceIte, Nat.reduceEqDiff, Nat.reduceLT, Nat.reduceLeDiff, Nat.reduceAdd, Nat.reduceMul, Nat.reduceMod, Nat.reduceSub, Nat.reduceBEq, Int.reduceLE, Int.reduceLT, Int.reduceEq, Int.reduceSub, Int.reduceAdd, Int.reduceToNat, Int.reduceNeg, e1, e2, c3, e4, c5, e6f, s_RefusalOfPair_l1_M] <;> (repeat' apply And.intro) <;> first | rfl | exact ⟨_, rfl⟩ | simp [lst]
      · intro ex8 s8 hX8
        unfold s_RefusalOfPair_l1_X at hX8
        obtain ⟨rfl, n8_0⟩ := hX8
        obtain rfl := Option.some.inj h
        simp (maxDischargeDepth := 9) only [↓xpre, xpost, xlst, xcore, yset, rg0, ↓reduceIte, Nat.reduceEqDiff, Nat.reduceLT, Nat.reduceLeDiff, Nat.reduceAdd, Nat.reduceMul, Nat.reduceMod, Nat.reduceSub, Nat.reduceBEq, Int.reduceLE, Int.reduceLT, Int.reduceEq, Int.reduceSub, Int.reduceAdd, Int.reduceToNat, Int.reduceNeg, e1, e2, c3, e4, c5, e6f, n8_0] <;> (repeat' apply And.intro) <;> first | rfl | exact ⟨_, rfl⟩ | simp [lst]
  · rw [if_neg e4] at h
    have e4f : (isProb t0_Labels t0_Degree t0_Nodes t0_Edges) = false := Bool.eq_false_iff.mpr e4
    obtain rfl := Option.some.inj h
    simp (maxDischargeDepth := 9) only [↓xpre, xpost, xlst, xcore, yset, rg0, ↓reduceIte, Nat.reduceEqDiff, Nat.reduceLT, Nat.reduceLeDiff, Nat.reduceAdd, Nat.reduceMul, Nat.reduceMod, Nat.reduceSub, Nat.reduceBEq, Int.reduceLE, Int.reduceLT, Int.reduceEq, Int.reduceSub, Int.reduceAdd, Int.reduceToNat, Int.reduceNeg, e1, e2, c3, e4f] <;> (repeat' apply And.intro) <;> first | rfl | exact ⟨_, rfl⟩ | simp [lst]

end Go.Proofs.Ytjlphfbpaejicaa
