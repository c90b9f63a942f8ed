/- Sorting by insertion, as a plain function. Conditions: the list is short. -/
import Derived.Test.YtiehjihckndgkaaGreatL6
import Derived.Test.YtiehjihckndgkaaGreatIsP
namespace Go.Proofs.YtiehjihckndgkaaGreat
open Go Dv
set_option linter.unusedSimpArgs false
set_option linter.unusedVariables false
set_option maxRecDepth 100000
set_option maxHeartbeats 4000000
noncomputable def Ku(l:AB):Option (AB):= ck (0+l.length<1099511627776)<| some l
def k92:SC:= .seq (.ops [oX 2 KL 26]) (.seq (.ops [oX 3 (.buildSlice 26 0 #[]) 26,oM 4 0 26,oX 5 (.call ⟨(.builtin .append), #[(tK 3),(tK 4)], #[26,26]⟩) 26,oA 2 5 26]) .ret)
theorem AAD:Tryz.f92.body.map (BX lends)=some k92:=by kernel_rfl
theorem ANG:Bj Tryz.f92 1=true:=by kernel_rfl
theorem c92{a l:List D}{r:D×List D}(h:Br Y.env k92 (fin Ap l.length [ResultVar.tmp 2] r) (entry a l))(ha:a.length=1):Y.call 92 a l=some r:=
 AZ (Y:=Y) rfl Tryz.func92 (ha▸ANG) AAD h
theorem Iw(l:AB){r:AB}(h:Ku l=some r):Y.call 92 [D.sl 3 (AQ (D.int .i64) l)] []=some (D.own 3 (AQ (D.int .i64) r),[]):=by
 refine c92 ?_ rfl;unfold k92;unfold Ku at h;obtain⟨e1,h⟩:=ES h
 obtain rfl:=Option.some.inj h
 simp (maxDischargeDepth:=9) only [↓AL,AO,↓reduceIte,Nat.reduceEqDiff,Nat.reduceLT,Nat.reduceLeDiff,e1]
def gP(x:Int):AB→AB
 | []=>[x]
 |y::r=>if x<y then y::gP x r else x::y::r
def Me(l:AB):AB:=(l.foldl (fun r x=>gP x r) []).reverse
end Go.Proofs.YtiehjihckndgkaaGreat
