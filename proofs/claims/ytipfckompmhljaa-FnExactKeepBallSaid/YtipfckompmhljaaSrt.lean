/- Sorting by insertion, as a plain function. Conditions: the list is short. -/
import Derived.Test.YtipfckompmhljaaL6
import Derived.Test.YtipfckompmhljaaIsP
namespace Go.Proofs.Ytipfckompmhljaa
open Go Dv
set_option linter.unusedSimpArgs false
set_option linter.unusedVariables false
set_option maxRecDepth 100000
set_option maxHeartbeats 4000000
noncomputable def MG(l:List Int):Option ((List Int)):=
 ck (0+l.length<1099511627776)<|
 some l
def k88:SC:=
 .seq
 (.ops [
 ⟨(some 2),(.assign (.const (.slice none 0 0))),23,none⟩])
 (.seq
 (.ops [
 ⟨(some 3),(.buildSlice 23 0 #[]),23,none⟩,
 ⟨(some 4),(.move (.tmp 0)),23,none⟩,
 ⟨(some 5),(.call ⟨(.builtin .append), #[(.tmp 3),(.tmp 4)], #[23,23]⟩),23,none⟩,
 ⟨(some 2),(.assign (.tmp 5)),23,none⟩])
 .ret)
theorem A1x:Try.f88.body.map (Bh lends)=some k88:=by kernel_rfl
theorem AGW:CB Try.f88 1=true:=by kernel_rfl
theorem c88{a l:List D}{r:D×List D}(h:Bq Y.env k88 (fin AX l.length [ResultVar.tmp 2] r) (entry a l))(ha:a.length=1):Y.call 88 a l=some r:=
 AU (Y:=Y) rfl Try.func88 (ha▸AGW) A1x h
theorem MH(l:List Int){r:(List Int)}(h:MG l=some r):Y.call 88 [D.sl 3 (AP (D.int .i64) l)] []=some (D.own 3 (AP (D.int .i64) r),[]):=by
 refine c88 ?_ rfl
 unfold k88
 unfold MG at h
 obtain⟨e1,h⟩:=BF h
 obtain rfl:=Option.some.inj h
 simp (maxDischargeDepth:=9) only [↓AO,AB,Ac,AJ,AQ,↓reduceIte,Nat.reduceEqDiff,Nat.reduceLT,Nat.reduceLeDiff,e1]
def Wo(x:Int):List Int→List Int
 | []=>[x]
 | y::r=>if x<y then y::Wo x r else x::y::r
def Qc(l:List Int):List Int:=(l.foldl (fun r x=>Wo x r) []).reverse
end Go.Proofs.Ytipfckompmhljaa
