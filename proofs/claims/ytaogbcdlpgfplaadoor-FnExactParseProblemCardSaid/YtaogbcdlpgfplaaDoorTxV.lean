/- Texts of value programs, lifted. Conditions: none. -/
import Derived.Test.YtaogbcdlpgfplaaDoorL6
import Derived.Test.YtaogbcdlpgfplaaDoorTxA
namespace Go.Proofs.YtaogbcdlpgfplaaDoor
open Go Dv
set_option linter.unusedSimpArgs false
set_option linter.unusedVariables false
set_option maxRecDepth 100000
set_option maxHeartbeats 4000000
def lw:SC:=
 .seq
 (.ops [
 ⟨(some 13),(.binOp .lss 3 (.tmp 12) (.tmp 11) 3),0,none⟩])
 (.seq
 (.cond (.tmp 13)
 .skip
 (.exit 0))
 (.seq
 (.block 1
 (.seq
 (.ops [
 ⟨(some 14),(.indexAddr 26 (.tmp 10) (.tmp 12)),0,none⟩,
 ⟨(some 15),(.load 49 (.tmp 14)),49,none⟩,
 ⟨(some 6),(.alloc 49),0,none⟩,
 ⟨none,(.store 49 (.tmp 6) (.tmp 15)),0,none⟩])
 (.seq
 (.ops [
 ⟨(some 16),(.fieldAddr 49 (.tmp 6) 0),0,none⟩,
 ⟨(some 17),(.load 3 (.tmp 16)),3,none⟩,
 ⟨(some 18),(.binOp .eql 3 (.tmp 17) (.const (.int .i64 1)) 3),4,none⟩])
 (.cond (.tmp 18)
 (.ops [
 ⟨(some 19),(.move (.tmp 4)),52,none⟩,
 ⟨(some 20),(.fieldAddr 49 (.tmp 6) 1),0,none⟩,
 ⟨(some 21),(.load 3 (.tmp 20)),3,none⟩,
 ⟨(some 22),(.call ⟨(.value (.func 29)), #[(.tmp 21)], #[3]⟩),9,none⟩,
 ⟨(some 23),(.buildSlice 52 1 #[(0,(.tmp 22))]),52,none⟩,
 ⟨(some 24),(.call ⟨(.builtin .append), #[(.tmp 19),(.tmp 23)], #[52,52]⟩),52,none⟩,
 ⟨(some 4),(.assign (.tmp 24)),52,none⟩])
 (.draws [
 (⟨[25,4,4],[25,26,27,28,29,30,31,32,31,26,33,25,32,4,32,4,33,33],[25]⟩,⟨(some 25),(.move (.tmp 4)),52,none⟩),
 (⟨[26],[25,26,27,28,29,30,31,32,31,26,33,25,32,4,32,4,33,33],[26]⟩,⟨(some 26),(.call ⟨(.value (.func 30)), #[], #[]⟩),52,none⟩),
 (⟨[27,6,6],[25,26,27,28,29,30,31,32,31,26,33,25,32,4,32,4,33,33],[27]⟩,⟨(some 27),(.fieldAddr 49 (.tmp 6) 0),0,none⟩),
 (⟨[28,27,6],[25,26,27,28,29,30,31,32,31,26,33,25,32,4,32,4,33,33],[28]⟩,⟨(some 28),(.load 3 (.tmp 27)),3,none⟩),
 (⟨[29,28,6],[25,26,27,28,29,30,31,32,31,26,33,25,32,4,32,4,33,33],[29]⟩,⟨(some 29),(.binOp .sub 3 (.tmp 28) (.const (.int .i64 2)) 3),3,none⟩),
 (⟨[30,26,29,26,29],[25,26,27,28,29,30,31,32,31,26,33,25,32,4,32,4,33,33],[30]⟩,⟨(some 30),(.indexAddr 52 (.tmp 26) (.tmp 29)),0,none⟩),
 (⟨[31,30,26],[25,26,27,28,29,30,31,32,31,26,33,25,32,4,32,4,33,33],[31]⟩,⟨(some 31),(.load 9 (.tmp 30)),9,none⟩),
 (⟨[32,31,26],[25,26,27,28,29,30,31,32,31,26,33,25,32,4,32,4,33,33],[32,31,26]⟩,⟨(some 32),(.buildSlice 52 1 #[(0,(.tmp 31))]),52,none⟩),
 (⟨[33,25,32,4,32],[25,26,27,28,29,30,31,32,31,26,33,25,32,4,32,4,33,33],[33,25,32,4,32]⟩,⟨(some 33),(.call ⟨(.builtin .append), #[(.tmp 25),(.tmp 32)], #[52,52]⟩),52,none⟩),
 (⟨[4,33,33],[25,26,27,28,29,30,31,32,31,26,33,25,32,4,32,4,33,33],[4,33,33]⟩,⟨(some 4),(.assign (.tmp 33)),52,none⟩)])))))
 (.ops [
 ⟨(some 34),(.binOp .add 3 (.tmp 12) (.const (.int .i64 1)) 3),3,none⟩,
 ⟨(some 12),(.move (.tmp 34)),3,none⟩])))
def wP:SC:= .loop lw
def k10:SC:=
 .seq
 (.ops [
 ⟨(some 2),(.assign (.const (.string {data:= #[]}))),9,none⟩,
 ⟨(some 3),(.assign (.const (.bool false))),4,none⟩])
 (.seq
 (.seq
 (.ops [
 ⟨(some 7),(.move (.tmp 0)),26,none⟩,
 ⟨(some 8),(.call ⟨(.value (.func 28)), #[(.tmp 7)], #[26]⟩),4,none⟩,
 ⟨(some 9),(.unOp .not 4 (.tmp 8)),4,none⟩])
 (.cond (.tmp 9)
 (.seq
 (.ops [
 ⟨(some 2),(.assign (.const (.string {data:= #[]}))),9,none⟩,
 ⟨(some 3),(.assign (.const (.bool false))),4,none⟩])
 .ret)
 .skip))
 (.seq
 (.ops [
 ⟨(some 4),(.assign (.const (.slice none 0 0))),52,none⟩])
 (.seq
 (.seq
 (.ops [
 ⟨(some 10),(.move (.tmp 0)),26,none⟩,
 ⟨(some 11),(.call ⟨(.builtin .len), #[(.tmp 10)], #[26]⟩),3,none⟩,
 ⟨(some 12),(.move (.const (.int .i64 0))),3,none⟩])
 (.block 0
 wP))
 (.seq
 (.ops [
 ⟨(some 35),(.move (.tmp 4)),52,none⟩,
 ⟨(some 36),(.call ⟨(.value (.func 31)), #[(.tmp 35),(.const (.string {data:= #[32]}))], #[52,9]⟩),9,none⟩,
 ⟨(some 2),(.assign (.tmp 36)),9,none⟩,
 ⟨(some 3),(.assign (.const (.bool true))),4,none⟩])
 .ret))))
theorem wQ:Tryd.f10.body.map (CY lends)=some k10:=by kernel_rfl
theorem ACx:DR Tryd.f10 1=true:=by kernel_rfl
theorem wI{a l:List D}{r:D×List D}(h:Cu Y.env k10 (HZ Ak l.length [ResultVar.tmp 2,ResultVar.tmp 3] r) (entry a l))(ha:a.length=1):Y.call 10 a l=some r:=
 Ah (Y:=Y) rfl Tryd.func10 (ha▸ACx) wQ h
def k8:SC:=
 .seq
 (.ops [
 ⟨(some 2),(.assign (.const (.string {data:= #[]}))),9,none⟩,
 ⟨(some 3),(.assign (.const (.bool false))),4,none⟩])
 (.seq
 (.seq
 (.ops [
 ⟨(some 4),(.move (.tmp 0)),26,none⟩,
 ⟨(some 5),(.call ⟨(.value (.func 25)), #[(.tmp 4)], #[26]⟩),4,none⟩,
 ⟨(some 6),(.unOp .not 4 (.tmp 5)),4,none⟩])
 (.cond (.tmp 6)
 (.seq
 (.ops [
 ⟨(some 2),(.assign (.const (.string {data:= #[]}))),9,none⟩,
 ⟨(some 3),(.assign (.const (.bool false))),4,none⟩])
 .ret)
 .skip))
 (.seq
 (.ops [
 ⟨(some 7),(.move (.tmp 0)),26,none⟩,
 ⟨(some 8),(.call ⟨(.value (.func 26)), #[(.tmp 7)], #[26]⟩),9,none⟩,
 ⟨(some 2),(.assign (.tmp 8)),9,none⟩,
 ⟨(some 3),(.assign (.const (.bool true))),4,none⟩])
 .ret))
theorem A5v:Tryd.f8.body.map (CY lends)=some k8:=by kernel_rfl
theorem ok8:DR Tryd.f8 1=true:=by kernel_rfl
theorem c8{a l:List D}{r:D×List D}(h:Cu Y.env k8 (HZ Ak l.length [ResultVar.tmp 2,ResultVar.tmp 3] r) (entry a l))(ha:a.length=1):Y.call 8 a l=some r:=
 Ah (Y:=Y) rfl Tryd.func8 (ha▸ok8) A5v h
end Go.Proofs.YtaogbcdlpgfplaaDoor
