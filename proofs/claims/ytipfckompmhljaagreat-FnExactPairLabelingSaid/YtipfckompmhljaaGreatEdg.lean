/- Edges looked up, as a plain function. Conditions: the lists are short and increasing. -/
import Derived.Test.YtipfckompmhljaaGreatL6
import Derived.Test.YtipfckompmhljaaGreatCut
namespace Go.Proofs.YtipfckompmhljaaGreat
open Go Dv
set_option linter.unusedSimpArgs false
set_option linter.unusedVariables false
set_option maxRecDepth 100000
set_option maxHeartbeats 4000000
def L2(es:List (List Int))(a b:Int):Bool:=es.contains (if b<a then [b,a]else [a,b])
noncomputable def H0(pL pD:Int)(pN pE:List (List Int))(a b:Int):Option (Bool):=
 ck (Ab pE)<|
 ck ([a,b].length<1099511627776)<|
 ck (Om pE=true)<|
 some (pE.contains (Iv [a,b]))
def k75:SC:=
 .seq
 (.ops [
 ⟨some 3, .box 33 (.tmp 0),0,none⟩,
 ⟨some 6, .assign (.const (.bool false)),4,none⟩])
 (.seq
 (.ops [
 ⟨some 7, .fieldAddr 33 (.tmp 3) 3,0,none⟩,
 ⟨some 8, .load 22 (.tmp 7),22,none⟩,
 ⟨some 9, .move (.tmp 1),3,none⟩,
 ⟨some 10, .move (.tmp 2),3,none⟩,
 ⟨some 11, .buildSlice 26 2 #[(0,(.tmp 9)),(1,(.tmp 10))],26,none⟩,
 ⟨some 12, .call ⟨(.value (.func 87)), #[(.tmp 8),(.tmp 11)], #[22,26]⟩,4,none⟩,
 ⟨some 6, .assign (.tmp 12),4,none⟩])
 .ret)
theorem ma:Tryz.f75.body.map (Am lends)=some k75:=by kernel_rfl
theorem A3q:As Tryz.f75 3=true:=by kernel_rfl
theorem c75{a l:List D}{r:D×List D}(h:Av Y.env k75 (fin AJ l.length [ResultVar.tmp 6] r) (entry a l))(ha:a.length=3):Y.call 75 a l=some r:=
 AC (Y:=Y) rfl Tryz.func75 (ha▸A3q) ma h
theorem La(pL pD:Int)(pN pE:List (List Int))(a b:Int){r:Bool}(h:H0 pL pD pN pE a b=some r):Y.call 75 [D.agg [D.int .i64 pL,D.int .i64 pD,D.sl 26 (A9 (fun x=>D.sl 3 (A9 (D.int .i64) x)) pN),D.sl 26 (A9 (fun x=>D.sl 3 (A9 (D.int .i64) x)) pE)],D.int .i64 a,D.int .i64 b] []=some (D.bool r,[]):=by
 refine c75 ?_ rfl
 unfold k75
 unfold H0 at h
 obtain⟨e1,h⟩:=Ae h
 obtain⟨e2,h⟩:=Ae h
 obtain⟨e3,h⟩:=Ae h
 have c4:=KJ pE [a,b] e1 e2 e3
 simp only [EY,PA]at c4
 cases h
 simp (maxDischargeDepth:=9) only [↓A8,A1,Ap,A6,AA,↓reduceIte,Nat.reduceEqDiff,Nat.reduceLT,Nat.reduceLeDiff,Nat.reduceAdd,c4]
noncomputable def LS(a b:Int):Option (Int):=
 if a<b then
  some a
 else
  some b
def k91:SC:=
 .seq
 (.ops [
 ⟨some 4, .assign (.const (.int .i64 0)),3,none⟩])
 (.seq
 (.seq
 (.ops [
 ⟨some 5, .move (.tmp 0),3,none⟩,
 ⟨some 6, .move (.tmp 1),3,none⟩,
 ⟨some 7, .binOp .lss 3 (.tmp 5) (.tmp 6) 3,4,none⟩])
 (.cond (.tmp 7)
 (.seq
 (.ops [
 ⟨some 8, .move (.tmp 0),3,none⟩,
 ⟨some 4, .assign (.tmp 8),3,none⟩])
 .ret)
 .skip))
 (.seq
 (.ops [
 ⟨some 9, .move (.tmp 1),3,none⟩,
 ⟨some 4, .assign (.tmp 9),3,none⟩])
 .ret))
theorem mb:Tryz.f91.body.map (Am lends)=some k91:=by kernel_rfl
theorem A3s:As Tryz.f91 2=true:=by kernel_rfl
theorem c91{a l:List D}{r:D×List D}(h:Av Y.env k91 (fin AJ l.length [ResultVar.tmp 4] r) (entry a l))(ha:a.length=2):Y.call 91 a l=some r:=
 AC (Y:=Y) rfl Tryz.func91 (ha▸A3s) mb h
theorem QZ(a b:Int){r:Int}(h:LS a b=some r):Y.call 91 [D.int .i64 a,D.int .i64 b] []=some (D.int .i64 r,[]):=by
 refine c91 ?_ rfl
 unfold k91
 unfold LS at h
 by_cases e1:a<b
 ·rw [if_pos e1]at h
  cases h
  simp (maxDischargeDepth:=9) only [↓A8,A1,A6,AA,↓reduceIte,Nat.reduceEqDiff,Nat.reduceLT,e1]
 ·rw [if_neg e1]at h
  cases h
  simp (maxDischargeDepth:=9) only [↓A8,A1,A6,AA,↓reduceIte,Nat.reduceEqDiff,Nat.reduceLT,e1]
noncomputable def N0(a b:Int):Option (Int):=
 if b<a then
  some a
 else
  some b
def k92:SC:=
 .seq
 (.ops [
 ⟨some 4, .assign (.const (.int .i64 0)),3,none⟩])
 (.seq
 (.seq
 (.ops [
 ⟨some 5, .move (.tmp 0),3,none⟩,
 ⟨some 6, .move (.tmp 1),3,none⟩,
 ⟨some 7, .binOp .gtr 3 (.tmp 5) (.tmp 6) 3,4,none⟩])
 (.cond (.tmp 7)
 (.seq
 (.ops [
 ⟨some 8, .move (.tmp 0),3,none⟩,
 ⟨some 4, .assign (.tmp 8),3,none⟩])
 .ret)
 .skip))
 (.seq
 (.ops [
 ⟨some 9, .move (.tmp 1),3,none⟩,
 ⟨some 4, .assign (.tmp 9),3,none⟩])
 .ret))
theorem mc:Tryz.f92.body.map (Am lends)=some k92:=by kernel_rfl
theorem A3u:As Tryz.f92 2=true:=by kernel_rfl
theorem c92{a l:List D}{r:D×List D}(h:Av Y.env k92 (fin AJ l.length [ResultVar.tmp 4] r) (entry a l))(ha:a.length=2):Y.call 92 a l=some r:=
 AC (Y:=Y) rfl Tryz.func92 (ha▸A3u) mc h
theorem Ri(a b:Int){r:Int}(h:N0 a b=some r):Y.call 92 [D.int .i64 a,D.int .i64 b] []=some (D.int .i64 r,[]):=by
 refine c92 ?_ rfl
 unfold k92
 unfold N0 at h
 by_cases e1:b<a
 ·rw [if_pos e1]at h
  cases h
  simp (maxDischargeDepth:=9) only [↓A8,A1,A6,AA,↓reduceIte,Nat.reduceEqDiff,Nat.reduceLT,e1]
 ·rw [if_neg e1]at h
  cases h
  simp (maxDischargeDepth:=9) only [↓A8,A1,A6,AA,↓reduceIte,Nat.reduceEqDiff,Nat.reduceLT,e1]
noncomputable def N1(pL pD:Int)(pN pE:List (List Int))(a b:Int):Option (Bool):=
 (LS a b).bind fun BB=>
 (N0 a b).bind fun Au=>
 ck (pE.length<1099511627776)<|
 ck ([BB,Au].length<1099511627776)<|
 some (pE.contains [BB,Au])
def k82:SC:=
 .seq
 (.ops [
 ⟨some 3, .box 33 (.tmp 0),0,none⟩,
 ⟨some 6, .assign (.const (.bool false)),4,none⟩])
 (.seq
 (.draws [
 (⟨[7,3,3],[7,8,9,10,11,12,13,14,15,11,14,11,14,16,6,16,16],[7]⟩,⟨some 7, .fieldAddr 33 (.tmp 3) 3,0,none⟩),
 (⟨[8,7,3],[7,8,9,10,11,12,13,14,15,11,14,11,14,16,6,16,16],[8]⟩,⟨some 8, .load 22 (.tmp 7),22,none⟩),
 (⟨[9,1,1],[7,8,9,10,11,12,13,14,15,11,14,11,14,16,6,16,16],[9]⟩,⟨some 9, .move (.tmp 1),3,none⟩),
 (⟨[10,2,2],[7,8,9,10,11,12,13,14,15,11,14,11,14,16,6,16,16],[10]⟩,⟨some 10, .move (.tmp 2),3,none⟩),
 (⟨[11,9,10,1,2],[7,8,9,10,11,12,13,14,15,11,14,11,14,16,6,16,16],[11]⟩,⟨some 11, .call ⟨(.value (.func 91)), #[(.tmp 9),(.tmp 10)], #[3,3]⟩,3,none⟩),
 (⟨[12,1,1],[7,8,9,10,11,12,13,14,15,11,14,11,14,16,6,16,16],[12]⟩,⟨some 12, .move (.tmp 1),3,none⟩),
 (⟨[13,2,2],[7,8,9,10,11,12,13,14,15,11,14,11,14,16,6,16,16],[13]⟩,⟨some 13, .move (.tmp 2),3,none⟩),
 (⟨[14,12,13,1,2],[7,8,9,10,11,12,13,14,15,11,14,11,14,16,6,16,16],[14]⟩,⟨some 14, .call ⟨(.value (.func 92)), #[(.tmp 12),(.tmp 13)], #[3,3]⟩,3,none⟩),
 (⟨[15,11,14,11,14],[7,8,9,10,11,12,13,14,15,11,14,11,14,16,6,16,16],[15,11,14,11,14]⟩,⟨some 15, .buildSlice 26 2 #[(0,(.tmp 11)),(1,(.tmp 14))],26,none⟩),
 (⟨[16,8,15,3,15],[7,8,9,10,11,12,13,14,15,11,14,11,14,16,6,16,16],[16]⟩,⟨some 16, .call ⟨(.value (.func 90)), #[(.tmp 8),(.tmp 15)], #[22,26]⟩,4,none⟩),
 (⟨[6,16,16],[7,8,9,10,11,12,13,14,15,11,14,11,14,16,6,16,16],[6,16,16]⟩,⟨some 6, .assign (.tmp 16),4,none⟩)])
 .ret)
theorem md:Tryz.f82.body.map (Am lends)=some k82:=by kernel_rfl
theorem A3w:As Tryz.f82 3=true:=by kernel_rfl
theorem c82{a l:List D}{r:D×List D}(h:Av Y.env k82 (fin AJ l.length [ResultVar.tmp 6] r) (entry a l))(ha:a.length=3):Y.call 82 a l=some r:=
 AC (Y:=Y) rfl Tryz.func82 (ha▸A3w) md h
theorem Rj(pL pD:Int)(pN pE:List (List Int))(a b:Int){r:Bool}(h:N1 pL pD pN pE a b=some r):Y.call 82 [D.agg [D.int .i64 pL,D.int .i64 pD,D.sl 26 (A9 (fun x=>D.sl 3 (A9 (D.int .i64) x)) pN),D.sl 26 (A9 (fun x=>D.sl 3 (A9 (D.int .i64) x)) pE)],D.int .i64 a,D.int .i64 b] []=some (D.bool r,[]):=by
 refine c82 ?_ rfl
 unfold k82
 unfold N1 at h
 obtain⟨BB,hl1,h⟩:=AL h
 try dsimp only at h
 have c1:=QZ a b hl1
 obtain⟨Au,hl2,h⟩:=AL h
 try dsimp only at h
 have c2:=Ri a b hl2
 obtain⟨e3,h⟩:=Ae h
 obtain⟨e4,h⟩:=Ae h
 have c5:=YZ pE [BB,Au] e3 e4
 simp only [EY,PA]at c5
 cases h
 simp (maxDischargeDepth:=9) only [↓A8,A1,Ap,A6,AA,↓reduceIte,Nat.reduceEqDiff,Nat.reduceLT,Nat.reduceLeDiff,Nat.reduceAdd,Nat.reduceBEq,c1,c2,c5]
theorem N2(l d:Int)(ns es:List (List Int))(a b:Int)(h1:Ab es)(h2:Om es=true):H0 l d ns es a b=some (L2 es a b):=by
 unfold H0 L2
 rw [Ac h1,Ac (by simp),Ac h2,ac]
theorem Wq(l d:Int)(ns es:List (List Int))(a b:Int)(h1:Ab es):N1 l d ns es a b=some (L2 es a b):=by
 unfold N1 LS N0 L2
 by_cases q1:a<b
 ·rw [if_pos q1,if_neg (by omega),if_neg (by omega),Option.bind_some,Option.bind_some,Ac h1.1,Ac (by simp)]
 ·by_cases q2:b<a
  ·rw [if_neg q1,if_pos q2,if_pos q2,Option.bind_some,Option.bind_some,Ac h1.1,Ac (by simp)]
  ·have:a=b:=by omega
   subst this
   rw [if_neg q1,if_neg q1,Option.bind_some,Option.bind_some,Ac h1.1,Ac (by simp)]
theorem N3(pL pD:Int)(pN pE:List (List Int))(a b:Int)(h0:Ab pE)(h1:Om pE=true):Y.call 75 [D.agg [D.int .i64 pL,D.int .i64 pD,D.sl 26 (A9 (fun x=>D.sl 3 (A9 (D.int .i64) x)) pN),D.sl 26 (A9 (fun x=>D.sl 3 (A9 (D.int .i64) x)) pE)],D.int .i64 a,D.int .i64 b] []=some (D.bool (L2 pE a b),[]):=La pL pD pN pE a b (N2 pL pD pN pE a b h0 h1)
theorem Wr(pL pD:Int)(pN pE:List (List Int))(a b:Int)(h0:Ab pE):Y.call 82 [D.agg [D.int .i64 pL,D.int .i64 pD,D.sl 26 (A9 (fun x=>D.sl 3 (A9 (D.int .i64) x)) pN),D.sl 26 (A9 (fun x=>D.sl 3 (A9 (D.int .i64) x)) pE)],D.int .i64 a,D.int .i64 b] []=some (D.bool (L2 pE a b),[]):=Rj pL pD pN pE a b (Wq pL pD pN pE a b h0)
end Go.Proofs.YtipfckompmhljaaGreat
