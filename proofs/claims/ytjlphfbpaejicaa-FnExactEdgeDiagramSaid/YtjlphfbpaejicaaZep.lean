/- The first good pair of configurations, as a plain function; the law. Conditions: none. -/
import Derived.Test.YtjlphfbpaejicaaL6
import Derived.Test.YtjlphfbpaejicaaZer
namespace Go.Proofs.Ytjlphfbpaejicaa
open Go Dv
set_option linter.unusedSimpArgs false
set_option linter.unusedVariables false
set_option maxRecDepth 100000
set_option maxHeartbeats 4000000

/-- laws.FnExactZeroPair -/
def k9 : SC :=
  .seq
    (.ops [
      ⟨(some 1), (Op.box 24 (Operand.tmp 0)), 0, none⟩,
      ⟨(some 2), (Op.assign (Operand.const (Value.bool false))), 4, none⟩])
    (.seq
      (.ops [
        ⟨(some 3), (Op.assign (Operand.const (Value.int IntKind.i64 1048576))), 3, none⟩])
      (.seq
        (.ops [
          ⟨(some 17), (Op.load 24 (Operand.tmp 1)), 24, none⟩,
          ⟨(some 18), (Op.move (Operand.tmp 3)), 3, none⟩,
          ⟨(some 19), (Op.call { callee := (Callee.value (Operand.func 15)), args := #[(Operand.tmp 17), (Operand.tmp 18)], argTypes := #[24, 3] }), 3, none⟩,
          ⟨(some 3), (Op.assign (Operand.tmp 19)), 3, none⟩])
        (.seq
          (.seq
            (.ops [
              ⟨(some 20), (Op.move (Operand.tmp 3)), 3, none⟩,
              ⟨(some 21), (Op.binOp BinOp.lss 3 (Operand.tmp 20) (Operand.const (Value.int IntKind.i64 0)) 3), 4, none⟩])
            (.cond (Operand.tmp 21)
              (.seq
                (.ops [
                  ⟨(some 2), (Op.assign (Operand.const (Value.bool true))), 4, none⟩])
                .ret)
              .skip))
          (.seq
            (.ops [
              ⟨(some 23), (Op.load 24 (Operand.tmp 1)), 24, none⟩,
              ⟨(some 24), (Op.call { callee := (Callee.value (Operand.func 17)), args := #[(Operand.tmp 23)], argTypes := #[24] }), 28, none⟩,
              ⟨(some 25), (Op.call { callee := (Callee.value (Operand.func 38)), args := #[(Operand.tmp 24)], argTypes := #[28] }), 46, none⟩,
              ⟨(some 22), (Op.move (Operand.tmp 25)), 46, none⟩,
              ⟨(some 26), (Op.extract (Operand.tmp 22) 0), 32, none⟩,
              ⟨(some 27), (Op.extract (Operand.tmp 22) 1), 32, none⟩,
              ⟨(some 28), (Op.extract (Operand.tmp 22) 2), 4, none⟩,
              ⟨(some 4), (Op.assign (Operand.tmp 26)), 32, none⟩,
              ⟨(some 5), (Op.assign (Operand.tmp 27)), 32, none⟩,
              ⟨(some 6), (Op.assign (Operand.tmp 28)), 4, none⟩])
            (.seq
              (.ops [
                ⟨(some 29), (Op.load 24 (Operand.tmp 1)), 24, none⟩,
                ⟨(some 30), (Op.call { callee := (Callee.value (Operand.func 17)), args := #[(Operand.tmp 29)], argTypes := #[24] }), 28, none⟩,
                ⟨(some 7), (Op.alloc 28), 0, none⟩,
                ⟨none, (Op.store 28 (Operand.tmp 7) (Operand.tmp 30)), 0, none⟩])
              (.seq
                (.ops [
                  ⟨(some 32), (Op.load 28 (Operand.tmp 7)), 28, none⟩,
                  ⟨(some 33), (Op.call { callee := (Callee.value (Operand.func 39)), args := #[(Operand.tmp 32)], argTypes := #[28] }), 46, none⟩,
                  ⟨(some 31), (Op.move (Operand.tmp 33)), 46, none⟩,
                  ⟨(some 34), (Op.extract (Operand.tmp 31) 0), 32, none⟩,
                  ⟨(some 35), (Op.extract (Operand.tmp 31) 1), 32, none⟩,
                  ⟨(some 36), (Op.extract (Operand.tmp 31) 2), 4, none⟩,
                  ⟨(some 8), (Op.assign (Operand.tmp 34)), 32, none⟩,
                  ⟨(some 9), (Op.assign (Operand.tmp 35)), 32, none⟩,
                  ⟨(some 10), (Op.assign (Operand.tmp 36)), 4, none⟩])
                (.seq
                  (.seq
                    (.ops [
                      ⟨(some 37), (Op.move (Operand.tmp 8)), 32, none⟩,
                      ⟨(some 38), (Op.move (Operand.tmp 4)), 32, none⟩,
                      ⟨(some 39), (Op.call { callee := (Callee.value (Operand.func 22)), args := #[(Operand.tmp 37), (Operand.tmp 38)], argTypes := #[32, 32] }), 4, none⟩,
                      ⟨(some 40), (Op.unOp UnOp.not 4 (Operand.tmp 39)), 4, none⟩,
                      ⟨(some 41), (Op.move (Operand.tmp 40)), 4, none⟩,
                      ⟨(some 42), (Op.move (Operand.tmp 9)), 32, (some (some 41, false))⟩,
                      ⟨(some 43), (Op.move (Operand.tmp 5)), 32, (some (some 41, false))⟩,
                      ⟨(some 44), (Op.call { callee := (Callee.value (Operand.func 22)), args := #[(Operand.tmp 42), (Operand.tmp 43)], argTypes := #[32, 32] }), 4, (some (some 41, false))⟩,
                      ⟨(some 45), (Op.unOp UnOp.not 4 (Operand.tmp 44)), 4, (some (some 41, false))⟩,
                      ⟨(some 46), (Op.pick (Operand.tmp 41) (Operand.const (Value.bool true)) (Operand.tmp 45)), 4, none⟩,
                      ⟨(some 47), (Op.move (Operand.tmp 46)), 4, none⟩,
                      ⟨(some 48), (Op.move (Operand.tmp 10)), 4, (some (some 47, false))⟩,
                      ⟨(some 49), (Op.move (Operand.tmp 6)), 4, (some (some 47, false))⟩,
                      ⟨(some 50), (Op.binOp BinOp.neq 4 (Operand.tmp 48) (Operand.tmp 49) 4), 4, (some (some 47, false))⟩,
                      ⟨(some 51), (Op.pick (Operand.tmp 47) (Operand.const (Value.bool true)) (Operand.tmp 50)), 4, none⟩])
                    (.cond (Operand.tmp 51)
                      (.seq
                        (.ops [
                          ⟨(some 2), (Op.assign (Operand.const (Value.bool false))), 4, none⟩])
                        .ret)
                      .skip))
                  (.seq
                    (.seq
                      (.draws [
                        (⟨[52, 7, 7], [52, 53, 54, 55, 56], [52]⟩, ⟨(some 52), (Op.load 28 (Operand.tmp 7)), 28, none⟩),
                        (⟨[53, 1, 1], [52, 53, 54, 55, 56], [53]⟩, ⟨(some 53), (Op.load 24 (Operand.tmp 1)), 24, none⟩),
                        (⟨[54, 53, 1], [52, 53, 54, 55, 56], [54]⟩, ⟨(some 54), (Op.call { callee := (Callee.value (Operand.func 17)), args := #[(Operand.tmp 53)], argTypes := #[24] }), 28, none⟩),
                        (⟨[55, 52, 54, 7, 54], [52, 53, 54, 55, 56], [55]⟩, ⟨(some 55), (Op.call { callee := (Callee.value (Operand.func 19)), args := #[(Operand.tmp 52), (Operand.tmp 54)], argTypes := #[28, 28] }), 4, none⟩),
                        (⟨[56, 55, 55], [52, 53, 54, 55, 56], [56]⟩, ⟨(some 56), (Op.unOp UnOp.not 4 (Operand.tmp 55)), 4, none⟩)])
                      (.cond (Operand.tmp 56)
                        (.seq
                          (.ops [
                            ⟨(some 2), (Op.assign (Operand.const (Value.bool false))), 4, none⟩])
                          .ret)
                        .skip))
                    (.seq
                      (.ops [
                        ⟨(some 11), (Op.assign (Operand.const (Value.int IntKind.i64 1))), 3, none⟩])
                      (.seq
                        (.ops [
                          ⟨(some 57), (Op.load 28 (Operand.tmp 7)), 28, none⟩,
                          ⟨(some 58), (Op.move (Operand.tmp 11)), 3, none⟩,
                          ⟨(some 59), (Op.call { callee := (Callee.value (Operand.func 23)), args := #[(Operand.tmp 57), (Operand.tmp 58)], argTypes := #[28, 3] }), 3, none⟩,
                          ⟨(some 11), (Op.assign (Operand.tmp 59)), 3, none⟩])
                        (.seq
                          (.seq
                            (.ops [
                              ⟨(some 60), (Op.move (Operand.tmp 11)), 3, none⟩,
                              ⟨(some 61), (Op.binOp BinOp.lss 3 (Operand.tmp 60) (Operand.const (Value.int IntKind.i64 0)) 3), 4, none⟩,
                              ⟨(some 62), (Op.move (Operand.tmp 61)), 4, none⟩,
                              ⟨(some 63), (Op.move (Operand.tmp 8)), 32, (some (some 62, false))⟩,
                              ⟨(some 64), (Op.move (Operand.tmp 4)), 32, (some (some 62, false))⟩,
                              ⟨(some 65), (Op.call { callee := (Callee.value (Operand.func 22)), args := #[(Operand.tmp 63), (Operand.tmp 64)], argTypes := #[32, 32] }), 4, (some (some 62, false))⟩,
                              ⟨(some 66), (Op.unOp UnOp.not 4 (Operand.tmp 65)), 4, (some (some 62, false))⟩,
                              ⟨(some 67), (Op.pick (Operand.tmp 62) (Operand.const (Value.bool true)) (Operand.tmp 66)), 4, none⟩,
                              ⟨(some 68), (Op.move (Operand.tmp 67)), 4, none⟩,
                              ⟨(some 69), (Op.move (Operand.tmp 9)), 32, (some (some 68, false))⟩,
                              ⟨(some 70), (Op.move (Operand.tmp 5)), 32, (some (some 68, false))⟩,
                              ⟨(some 71), (Op.call { callee := (Callee.value (Operand.func 22)), args := #[(Operand.tmp 69), (Operand.tmp 70)], argTypes := #[32, 32] }), 4, (some (some 68, false))⟩,
                              ⟨(some 72), (Op.unOp UnOp.not 4 (Operand.tmp 71)), 4, (some (some 68, false))⟩,
                              ⟨(some 73), (Op.pick (Operand.tmp 68) (Operand.const (Value.bool true)) (Operand.tmp 72)), 4, none⟩,
                              ⟨(some 74), (Op.move (Operand.tmp 73)), 4, none⟩,
                              ⟨(some 75), (Op.move (Operand.tmp 10)), 4, (some (some 74, false))⟩,
                              ⟨(some 76), (Op.move (Operand.tmp 6)), 4, (some (some 74, false))⟩,
                              ⟨(some 77), (Op.binOp BinOp.neq 4 (Operand.tmp 75) (Operand.tmp 76) 4), 4, (some (some 74, false))⟩,
                              ⟨(some 78), (Op.pick (Operand.tmp 74) (Operand.const (Value.bool true)) (Operand.tmp 77)), 4, none⟩])
                            (.cond (Operand.tmp 78)
                              (.seq
                                (.ops [
                                  ⟨(some 2), (Op.assign (Operand.const (Value.bool false))), 4, none⟩])
                                .ret)
                              .skip))
                          (.seq
                            (.ops [
                              ⟨(some 12), (Op.assign (Operand.const (Value.int IntKind.i64 1))), 3, none⟩])
                            (.seq
                              (.ops [
                                ⟨(some 79), (Op.move (Operand.tmp 8)), 32, none⟩,
                                ⟨(some 80), (Op.move (Operand.tmp 12)), 3, none⟩,
                                ⟨(some 81), (Op.call { callee := (Callee.value (Operand.func 24)), args := #[(Operand.tmp 79), (Operand.tmp 80)], argTypes := #[32, 3] }), 3, none⟩,
                                ⟨(some 12), (Op.assign (Operand.tmp 81)), 3, none⟩])
                              (.seq
                                (.ops [
                                  ⟨(some 82), (Op.move (Operand.tmp 9)), 32, none⟩,
                                  ⟨(some 83), (Op.move (Operand.tmp 12)), 3, none⟩,
                                  ⟨(some 84), (Op.call { callee := (Callee.value (Operand.func 24)), args := #[(Operand.tmp 82), (Operand.tmp 83)], argTypes := #[32, 3] }), 3, none⟩,
                                  ⟨(some 12), (Op.assign (Operand.tmp 84)), 3, none⟩])
                                (.seq
                                  (.ops [
                                    ⟨(some 13), (Op.assign (Operand.const (Value.int IntKind.i64 1))), 3, none⟩])
                                  (.seq
                                    (.ops [
                                      ⟨(some 85), (Op.move (Operand.tmp 8)), 32, none⟩,
                                      ⟨(some 86), (Op.move (Operand.tmp 13)), 3, none⟩,
                                      ⟨(some 87), (Op.call { callee := (Callee.value (Operand.func 25)), args := #[(Operand.tmp 85), (Operand.tmp 86)], argTypes := #[32, 3] }), 3, none⟩,
                                      ⟨(some 13), (Op.assign (Operand.tmp 87)), 3, none⟩])
                                    (.seq
                                      (.seq
                                        (.ops [
                                          ⟨(some 88), (Op.move (Operand.tmp 13)), 3, none⟩,
                                          ⟨(some 89), (Op.binOp BinOp.lss 3 (Operand.tmp 88) (Operand.const (Value.int IntKind.i64 0)) 3), 4, none⟩])
                                        (.cond (Operand.tmp 89)
                                          (.seq
                                            (.ops [
                                              ⟨(some 2), (Op.assign (Operand.const (Value.bool false))), 4, none⟩])
                                            .ret)
                                          .skip))
                                      (.seq
                                        (.ops [
                                          ⟨(some 90), (Op.move (Operand.tmp 9)), 32, none⟩,
                                          ⟨(some 91), (Op.move (Operand.tmp 13)), 3, none⟩,
                                          ⟨(some 92), (Op.call { callee := (Callee.value (Operand.func 25)), args := #[(Operand.tmp 90), (Operand.tmp 91)], argTypes := #[32, 3] }), 3, none⟩,
                                          ⟨(some 13), (Op.assign (Operand.tmp 92)), 3, none⟩])
                                        (.seq
                                          (.seq
                                            (.ops [
                                              ⟨(some 93), (Op.move (Operand.tmp 13)), 3, none⟩,
                                              ⟨(some 94), (Op.binOp BinOp.lss 3 (Operand.tmp 93) (Operand.const (Value.int IntKind.i64 0)) 3), 4, none⟩])
                                            (.cond (Operand.tmp 94)
                                              (.seq
                                                (.ops [
                                                  ⟨(some 2), (Op.assign (Operand.const (Value.bool false))), 4, none⟩])
                                                .ret)
                                              .skip))
                                          (.seq
                                            (.seq
                                              (.ops [
                                                ⟨(some 95), (Op.move (Operand.tmp 13)), 3, none⟩,
                                                ⟨(some 96), (Op.move (Operand.tmp 12)), 3, none⟩,
                                                ⟨(some 97), (Op.binOp BinOp.neq 3 (Operand.tmp 95) (Operand.tmp 96) 3), 4, none⟩])
                                              (.cond (Operand.tmp 97)
                                                (.seq
                                                  (.ops [
                                                    ⟨(some 2), (Op.assign (Operand.const (Value.bool false))), 4, none⟩])
                                                  .ret)
                                                .skip))
                                            (.seq
                                              (.ops [
                                                ⟨(some 99), (Op.load 24 (Operand.tmp 1)), 24, none⟩,
                                                ⟨(some 100), (Op.call { callee := (Callee.value (Operand.func 17)), args := #[(Operand.tmp 99)], argTypes := #[24] }), 28, none⟩,
                                                ⟨(some 101), (Op.call { callee := (Callee.value (Operand.func 39)), args := #[(Operand.tmp 100)], argTypes := #[28] }), 46, none⟩,
                                                ⟨(some 98), (Op.move (Operand.tmp 101)), 46, none⟩,
                                                ⟨(some 102), (Op.extract (Operand.tmp 98) 0), 32, none⟩,
                                                ⟨(some 103), (Op.extract (Operand.tmp 98) 1), 32, none⟩,
                                                ⟨(some 104), (Op.extract (Operand.tmp 98) 2), 4, none⟩,
                                                ⟨(some 14), (Op.assign (Operand.tmp 102)), 32, none⟩,
                                                ⟨(some 15), (Op.assign (Operand.tmp 103)), 32, none⟩,
                                                ⟨(some 16), (Op.assign (Operand.tmp 104)), 4, none⟩])
                                              (.seq
                                                (.seq
                                                  (.ops [
                                                    ⟨(some 105), (Op.move (Operand.tmp 14)), 32, none⟩,
                                                    ⟨(some 106), (Op.move (Operand.tmp 4)), 32, none⟩,
                                                    ⟨(some 107), (Op.call { callee := (Callee.value (Operand.func 22)), args := #[(Operand.tmp 105), (Operand.tmp 106)], argTypes := #[32, 32] }), 4, none⟩,
                                                    ⟨(some 108), (Op.unOp UnOp.not 4 (Operand.tmp 107)), 4, none⟩,
                                                    ⟨(some 109), (Op.move (Operand.tmp 108)), 4, none⟩,
                                                    ⟨(some 110), (Op.move (Operand.tmp 15)), 32, (some (some 109, false))⟩,
                                                    ⟨(some 111), (Op.move (Operand.tmp 5)), 32, (some (some 109, false))⟩,
                                                    ⟨(some 112), (Op.call { callee := (Callee.value (Operand.func 22)), args := #[(Operand.tmp 110), (Operand.tmp 111)], argTypes := #[32, 32] }), 4, (some (some 109, false))⟩,
                                                    ⟨(some 113), (Op.unOp UnOp.not 4 (Operand.tmp 112)), 4, (some (some 109, false))⟩,
                                                    ⟨(some 114), (Op.pick (Operand.tmp 109) (Operand.const (Value.bool true)) (Operand.tmp 113)), 4, none⟩,
                                                    ⟨(some 115), (Op.move (Operand.tmp 114)), 4, none⟩,
                                                    ⟨(some 116), (Op.move (Operand.tmp 16)), 4, (some (some 115, false))⟩,
                                                    ⟨(some 117), (Op.move (Operand.tmp 6)), 4, (some (some 115, false))⟩,
                                                    ⟨(some 118), (Op.binOp BinOp.neq 4 (Operand.tmp 116) (Operand.tmp 117) 4), 4, (some (some 115, false))⟩,
                                                    ⟨(some 119), (Op.pick (Operand.tmp 115) (Operand.const (Value.bool true)) (Operand.tmp 118)), 4, none⟩])
                                                  (.cond (Operand.tmp 119)
                                                    (.seq
                                                      (.ops [
                                                        ⟨(some 2), (Op.assign (Operand.const (Value.bool false))), 4, none⟩])
                                                      .ret)
                                                    .skip))
                                                (.seq
                                                  (.ops [
                                                    ⟨(some 13), (Op.assign (Operand.const (Value.int IntKind.i64 1))), 3, none⟩])
                                                  (.seq
                                                    (.ops [
                                                      ⟨(some 120), (Op.move (Operand.tmp 8)), 32, none⟩,
                                                      ⟨(some 121), (Op.move (Operand.tmp 13)), 3, none⟩,
                                                      ⟨(some 122), (Op.call { callee := (Callee.value (Operand.func 25)), args := #[(Operand.tmp 120), (Operand.tmp 121)], argTypes := #[32, 3] }), 3, none⟩,
                                                      ⟨(some 13), (Op.assign (Operand.tmp 122)), 3, none⟩])
                                                    (.seq
                                                      (.seq
                                                        (.ops [
                                                          ⟨(some 123), (Op.move (Operand.tmp 13)), 3, none⟩,
                                                          ⟨(some 124), (Op.binOp BinOp.lss 3 (Operand.tmp 123) (Operand.const (Value.int IntKind.i64 0)) 3), 4, none⟩])
                                                        (.cond (Operand.tmp 124)
                                                          (.seq
                                                            (.ops [
                                                              ⟨(some 2), (Op.assign (Operand.const (Value.bool false))), 4, none⟩])
                                                            .ret)
                                                          .skip))
                                                      (.seq
                                                        (.ops [
                                                          ⟨(some 125), (Op.move (Operand.tmp 9)), 32, none⟩,
                                                          ⟨(some 126), (Op.move (Operand.tmp 13)), 3, none⟩,
                                                          ⟨(some 127), (Op.call { callee := (Callee.value (Operand.func 25)), args := #[(Operand.tmp 125), (Operand.tmp 126)], argTypes := #[32, 3] }), 3, none⟩,
                                                          ⟨(some 13), (Op.assign (Operand.tmp 127)), 3, none⟩])
                                                        (.seq
                                                          (.seq
                                                            (.ops [
                                                              ⟨(some 128), (Op.move (Operand.tmp 13)), 3, none⟩,
                                                              ⟨(some 129), (Op.binOp BinOp.lss 3 (Operand.tmp 128) (Operand.const (Value.int IntKind.i64 0)) 3), 4, none⟩])
                                                            (.cond (Operand.tmp 129)
                                                              (.seq
                                                                (.ops [
                                                                  ⟨(some 2), (Op.assign (Operand.const (Value.bool false))), 4, none⟩])
                                                                .ret)
                                                              .skip))
                                                          (.seq
                                                            (.seq
                                                              (.ops [
                                                                ⟨(some 130), (Op.move (Operand.tmp 13)), 3, none⟩,
                                                                ⟨(some 131), (Op.move (Operand.tmp 12)), 3, none⟩,
                                                                ⟨(some 132), (Op.binOp BinOp.neq 3 (Operand.tmp 130) (Operand.tmp 131) 3), 4, none⟩])
                                                              (.cond (Operand.tmp 132)
                                                                (.seq
                                                                  (.ops [
                                                                    ⟨(some 2), (Op.assign (Operand.const (Value.bool false))), 4, none⟩])
                                                                  .ret)
                                                                .skip))
                                                            (.seq
                                                              (.ops [
                                                                ⟨(some 2), (Op.assign (Operand.const (Value.bool true))), 4, none⟩])
                                                              .ret)))))))))))))))))))))))))))))
theorem slim9 : Try.f9.body.map (slim lends) = some k9 := by kernel_rfl
theorem ok9 : fnOk Try.f9 1 = true := by kernel_rfl
theorem c9 {a l : List D} {r : D × List D} (h : wpD Y.env k9 (fin tys l.length [ResultVar.tmp 2] r) (entry a l)) (ha : a.length = 1) : Y.call 9 a l = some r :=
  call_slim (Y := Y) rfl Try.func9 (ha ▸ ok9) slim9 h
end Go.Proofs.Ytjlphfbpaejicaa
