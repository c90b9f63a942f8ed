/- Sorting by insertion, as a plain function. Conditions: the list is short. -/
import Derived.Test.YtiehjihckndgkaaGreatL6
import Derived.Test.YtiehjihckndgkaaGreatIsP
namespace Go.Proofs.YtiehjihckndgkaaGreat
open Go Dv
set_option linter.unusedSimpArgs false
set_option linter.unusedVariables false
set_option maxRecDepth 100000
set_option maxHeartbeats 4000000
noncomputable def Lg(l:List Int):Option ((List Int)):= ck (0+l.length<1099511627776)<| some l
def k92:SC:= .seq (.ops [oX 2 (.assign (.const (.slice none 0 0))) 26]) (.seq (.ops [oX 3 (.buildSlice 26 0 #[]) 26,oM 4 0 26,oX 5 (.call ⟨(.builtin .append), #[(tK 3),(tK 4)], #[26,26]⟩) 26,oA 2 5 26]) .ret)
theorem A4w:Tryz.f92.body.map (Bf lends)=some k92:=by kernel_rfl
theorem AHL:Bz Tryz.f92 1=true:=by kernel_rfl
theorem c92{a l:List D}{r:D×List D}(h:CF Y.env k92 (ES Ae l.length [ResultVar.tmp 2] r) (entry a l))(ha:a.length=1):Y.call 92 a l=some r:=
 Ab (Y:=Y) rfl Tryz.func92 (ha▸AHL) A4w h
theorem Mh(l:List Int){r:(List Int)}(h:Lg l=some r):Y.call 92 [D.sl 3 (AL (D.int .i64) l)] []=some (D.own 3 (AL (D.int .i64) r),[]):=by
 refine c92 ?_ rfl;unfold k92;unfold Lg at h;obtain⟨e1,h⟩:=FK h
 obtain rfl:=Option.some.inj h
 simp (maxDischargeDepth:=9) only [↓AP,AQ,↓reduceIte,Nat.reduceEqDiff,Nat.reduceLT,Nat.reduceLeDiff,e1]
def ZM(x:Int):List Int→List Int
 | []=>[x]
 |y::r=>if x<y then y::ZM x r else x::y::r
def LK(l:List Int):List Int:=(l.foldl (fun r x=>ZM x r) []).reverse
end Go.Proofs.YtiehjihckndgkaaGreat
