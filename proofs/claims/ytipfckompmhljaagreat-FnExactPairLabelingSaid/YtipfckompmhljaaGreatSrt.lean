/- Sorting by insertion, as a plain function. Conditions: the list is short. -/
import Derived.Test.YtipfckompmhljaaGreatL6
import Derived.Test.YtipfckompmhljaaGreatIsP
namespace Go.Proofs.YtipfckompmhljaaGreat
open Go Dv
set_option linter.unusedSimpArgs false
set_option linter.unusedVariables false
set_option maxRecDepth 100000
set_option maxHeartbeats 4000000
noncomputable def K2(l:List Int):Option ((List Int)):=
 ck (0+l.length<1099511627776)<|
 some l
def k37:SC:=
 .seq
 (.ops [
 ⟨some 2, .assign (.const (.slice none 0 0)),26,none⟩])
 (.seq
 (.ops [
 ⟨some 3, .buildSlice 26 0 #[],26,none⟩,
 ⟨some 4, .move (.tmp 0),26,none⟩,
 ⟨some 5, .call ⟨(.builtin .append), #[(.tmp 3),(.tmp 4)], #[26,26]⟩,26,none⟩,
 ⟨some 2, .assign (.tmp 5),26,none⟩])
 .ret)
theorem mU:Tryz.f37.body.map (Am lends)=some k37:=by kernel_rfl
theorem A3f:As Tryz.f37 1=true:=by kernel_rfl
theorem dN{a l:List D}{r:D×List D}(h:Av Y.env k37 (fin AJ l.length [ResultVar.tmp 2] r) (entry a l))(ha:a.length=1):Y.call 37 a l=some r:=
 AC (Y:=Y) rfl Tryz.func37 (ha▸A3f) mU h
theorem K3(l:List Int){r:(List Int)}(h:K2 l=some r):Y.call 37 [D.sl 3 (A9 (D.int .i64) l)] []=some (D.own 3 (A9 (D.int .i64) r),[]):=by
 refine dN ?_ rfl
 unfold k37
 unfold K2 at h
 obtain⟨e1,h⟩:=Ae h
 cases h
 simp (maxDischargeDepth:=9) only [↓A8,A1,AE,A6,AA,↓reduceIte,Nat.reduceEqDiff,Nat.reduceLT,Nat.reduceLeDiff,e1]
def Rf(x:Int):List Int→List Int
 | []=>[x]
 | y::r=>if x<y then y::Rf x r else x::y::r
def Iv(l:List Int):List Int:=(l.foldl (fun r x=>Rf x r) []).reverse
end Go.Proofs.YtipfckompmhljaaGreat
