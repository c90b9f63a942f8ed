/- Problems copied, compared, measured and marked, as plain functions. Conditions: the lists are short. -/
import Derived.Test.YtipfckompmhljaaL6
import Derived.Test.YtipfckompmhljaaBase
namespace Go.Proofs.Ytipfckompmhljaa
open Go Dv
set_option linter.unusedSimpArgs false
set_option linter.unusedVariables false
set_option maxRecDepth 100000
set_option maxHeartbeats 4000000
def k25:SC:= .seq (.ops [⟨some 1,.box 46 (.tmp 0),0,none⟩,⟨some 2,.alloc 50,0,none⟩]) (.seq (.ops [⟨some 3,.alloc 50,0,none⟩]) (.seq (.ops [⟨some 4,.fieldAddr 46 (.tmp 1) 0,0,none⟩,⟨some 5,.load 3 (.tmp 4),3,none⟩,⟨some 6,.fieldAddr 50 (.tmp 3) 0,0,none⟩,⟨none,.store 3 (.tmp 6) (.tmp 5),0,none⟩]) (.seq (.ops [⟨some 7,.fieldAddr 46 (.tmp 1) 1,0,none⟩,⟨some 8,.load 3 (.tmp 7),3,none⟩,⟨some 9,.fieldAddr 50 (.tmp 3) 1,0,none⟩,⟨none,.store 3 (.tmp 9) (.tmp 8),0,none⟩]) (.seq (.ops [⟨some 10,.fieldAddr 46 (.tmp 1) 2,0,none⟩,⟨some 11,.load 44 (.tmp 10),44,none⟩,⟨some 12,.call ⟨(.value (.func 59)), #[(.tmp 11)], #[44]⟩,44,none⟩,⟨some 13,.fieldAddr 50 (.tmp 3) 2,0,none⟩,⟨none,.store 44 (.tmp 13) (.tmp 12),0,none⟩]) (.seq (.ops [⟨some 14,.fieldAddr 46 (.tmp 1) 3,0,none⟩,⟨some 15,.load 44 (.tmp 14),44,none⟩,⟨some 16,.call ⟨(.value (.func 59)), #[(.tmp 15)], #[44]⟩,44,none⟩,⟨some 17,.fieldAddr 50 (.tmp 3) 3,0,none⟩,⟨none,.store 44 (.tmp 17) (.tmp 16),0,none⟩]) (.seq (.ops [⟨some 18,.load 50 (.tmp 3),50,none⟩,⟨none,.store 50 (.tmp 2) (.tmp 18),0,none⟩]) .ret))))))
theorem A3W:Try.f25.body.map (Be lends)=some k25:=by kernel_rfl
theorem AIS:Bu Try.f25 1=true:=by kernel_rfl
theorem iq{a l:List D}{r:D×List D}(h:Bo Y.env k25 (fin Ad l.length [ResultVar.cell 2 50] r) (entry a l))(ha:a.length=1):Y.call 25 a l=some r:=
 Ab (Y:=Y) rfl Try.func25 (ha▸AIS) A3W h
def k28:SC:= .seq (.ops [⟨some 2,.box 50 (.tmp 0),0,none⟩,⟨some 4,.assign (.const (.int .i64 0)),3,none⟩]) (.seq (.ops [⟨some 5,.fieldAddr 50 (.tmp 2) 2,0,none⟩,⟨some 6,.load 44 (.tmp 5),44,none⟩,⟨some 7,.move (.tmp 1),3,none⟩,⟨some 8,.call ⟨(.value (.func 63)), #[(.tmp 6),(.tmp 7)], #[44,3]⟩,3,none⟩,⟨some 1,.assign (.tmp 8),3,none⟩]) (.seq (.ops [⟨some 9,.fieldAddr 50 (.tmp 2) 3,0,none⟩,⟨some 10,.load 44 (.tmp 9),44,none⟩,⟨some 11,.move (.tmp 1),3,none⟩,⟨some 12,.call ⟨(.value (.func 63)), #[(.tmp 10),(.tmp 11)], #[44,3]⟩,3,none⟩,⟨some 1,.assign (.tmp 12),3,none⟩]) (.seq (.ops [⟨some 13,.move (.tmp 1),3,none⟩,⟨some 4,.assign (.tmp 13),3,none⟩]) .ret)))
theorem A3X:Try.f28.body.map (Be lends)=some k28:=by kernel_rfl
theorem AIT:Bu Try.f28 2=true:=by kernel_rfl
theorem lS{a l:List D}{r:D×List D}(h:Bo Y.env k28 (fin Ad l.length [ResultVar.tmp 4] r) (entry a l))(ha:a.length=2):Y.call 28 a l=some r:=
 Ab (Y:=Y) rfl Try.func28 (ha▸AIT) A3X h
end Go.Proofs.Ytipfckompmhljaa
