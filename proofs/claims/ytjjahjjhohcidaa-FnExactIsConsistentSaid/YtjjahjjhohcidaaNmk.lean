/- Networks marked, and marks held, as plain functions. Conditions: the lists are short. -/
import Derived.Test.YtjjahjjhohcidaaL6
import Derived.Test.YtjjahjjhohcidaaNis
namespace Go.Proofs.Ytjjahjjhohcidaa
open Go Dv
set_option linter.unusedSimpArgs false
set_option linter.unusedVariables false
set_option maxRecDepth 100000
set_option maxHeartbeats 4000000
def xC:SC:=
 .seq
 (.ops [
 ⟨(some 2),(.box 31 (.tmp 0)),0,none⟩,
 ⟨(some 4),(.assign (.const (.int .i64 0))),3,none⟩])
 (.seq
 (.ops [
 ⟨(some 5),(.fieldAddr 31 (.tmp 2) 0),0,none⟩,
 ⟨(some 6),(.load 29 (.tmp 5)),29,none⟩,
 ⟨(some 7),(.move (.tmp 1)),3,none⟩,
 ⟨(some 8),(.call ⟨(.value (.func 64)), #[(.tmp 6),(.tmp 7)], #[29,3]⟩),3,none⟩,
 ⟨(some 1),(.assign (.tmp 8)),3,none⟩])
 (.seq
 (.ops [
 ⟨(some 9),(.fieldAddr 31 (.tmp 2) 1),0,none⟩,
 ⟨(some 10),(.load 23 (.tmp 9)),23,none⟩,
 ⟨(some 11),(.move (.tmp 1)),3,none⟩,
 ⟨(some 12),(.call ⟨(.value (.func 33)), #[(.tmp 10),(.tmp 11)], #[23,3]⟩),3,none⟩,
 ⟨(some 1),(.assign (.tmp 12)),3,none⟩])
 (.seq
 (.ops [
 ⟨(some 13),(.fieldAddr 31 (.tmp 2) 2),0,none⟩,
 ⟨(some 14),(.load 23 (.tmp 13)),23,none⟩,
 ⟨(some 15),(.move (.tmp 1)),3,none⟩,
 ⟨(some 16),(.call ⟨(.value (.func 33)), #[(.tmp 14),(.tmp 15)], #[23,3]⟩),3,none⟩,
 ⟨(some 1),(.assign (.tmp 16)),3,none⟩])
 (.seq
 (.ops [
 ⟨(some 17),(.move (.tmp 1)),3,none⟩,
 ⟨(some 4),(.assign (.tmp 17)),3,none⟩])
 .ret))))
theorem cO:Try.f26.body.map (BZ lends)=some xC:=by kernel_rfl
theorem uy:CD Try.f26 2=true:=by kernel_rfl
theorem ZC{a l:List D}{r:D×List D}(h:Bw Y.env xC (Ew AE l.length [ResultVar.tmp 4] r) (entry a l))(ha:a.length=2):Y.call 26 a l=some r:=
 AN (Y:=Y) rfl Try.func26 (ha▸uy) cO h
end Go.Proofs.Ytjjahjjhohcidaa
