/- The types of this seat as data, and the system of its calls. Conditions: none. -/
import Derived.Test.YthaimoghceamnaaRows
import Derived.Test.YthaimoghceamnaaL5
import Derived.KernelRfl
namespace Go.Proofs.Ythaimoghceamnaa
open Go Dv
set_option linter.unusedSimpArgs false
set_option maxRecDepth 100000

def tab : List Ty := [.other, .func, .int .i64, .int .i64, .bool, .int .u8, .int .u8, .struct [2, 3, 4, 6], .struct [2, 3, 4, 6], .string, .string, .string, .int .u64, .struct [9, 12], .struct [9, 12], .ptr, .ptr, .ptr, .struct [17], .struct [17], .other, .int .i32, .other, .func, .func, .slice 3, .other, .func, .func, .func, .func, .other, .func, .func, .slice 25, .struct [3, 3, 34, 34], .struct [3, 3, 34, 34], .func, .func, .struct [3, 3, 34, 34], .func, .func, .func, .other, .func, .func, .func, .func, .func, .func, .func, .slice 9, .func, .func, .func, .func, .func, .func, .func, .func, .func, .func, .func, .func, .func, .func, .func, .func, .int .u64, .other, .func, .func, .slice 4, .func, .func, .func, .func, .func, .int .u32, .other, .func, .int .u64, .other, .func, .func, .func, .func, .func, .func, .struct [17, 17, 17, 9], .struct [17, 17, 17, 9], .other, .other, .other, .func, .int .u8, .int .u8, .func, .ptr, .int .i32, .int .i32, .struct [12, 12, 78, 95, 5, 5, 96, 97, 98, 99, 100], .struct [12, 12, 78, 95, 5, 5, 96, 97, 98, 99, 100]]
def tys : Tys := tysOf tab
def lends (f : FuncId) : Bool := [22, 31, 61, 63].contains f

theorem ty1 : tys.ty 1 = .func := nr rfl
theorem ty2 : tys.ty 2 = .int .i64 := nr rfl
theorem ty3 : tys.ty 3 = .int .i64 := nr rfl
theorem kn3 : tys.known 3 = true := nr rfl
theorem st3 : tys.isStruct 3 = false := nr rfl
theorem zr3 : tys.zeros 3 = [.int .i64 0] := nr rfl
theorem zo3 : tys.zero1 3 = .int .i64 0 := nr rfl
theorem sz3 : tys.size 3 = 1 := nr rfl
theorem ty4 : tys.ty 4 = .bool := nr rfl
theorem kn4 : tys.known 4 = true := nr rfl
theorem st4 : tys.isStruct 4 = false := nr rfl
theorem zr4 : tys.zeros 4 = [.bool false] := nr rfl
theorem zo4 : tys.zero1 4 = .bool false := nr rfl
theorem sz4 : tys.size 4 = 1 := nr rfl
theorem ty5 : tys.ty 5 = .int .u8 := nr rfl
theorem ty6 : tys.ty 6 = .int .u8 := nr rfl
theorem ty7 : tys.ty 7 = .struct [2, 3, 4, 6] := nr rfl
theorem ty8 : tys.ty 8 = .struct [2, 3, 4, 6] := nr rfl
theorem ty9 : tys.ty 9 = .string := nr rfl
theorem kn9 : tys.known 9 = true := nr rfl
theorem st9 : tys.isStruct 9 = false := nr rfl
theorem zr9 : tys.zeros 9 = [.str ByteArray.empty] := nr rfl
theorem zo9 : tys.zero1 9 = .str ByteArray.empty := nr rfl
theorem sz9 : tys.size 9 = 1 := nr rfl
theorem ty10 : tys.ty 10 = .string := nr rfl
theorem ty11 : tys.ty 11 = .string := nr rfl
theorem ty12 : tys.ty 12 = .int .u64 := nr rfl
theorem ty13 : tys.ty 13 = .struct [9, 12] := nr rfl
theorem ty14 : tys.ty 14 = .struct [9, 12] := nr rfl
theorem ty15 : tys.ty 15 = .ptr := nr rfl
theorem ty16 : tys.ty 16 = .ptr := nr rfl
theorem ty17 : tys.ty 17 = .ptr := nr rfl
theorem ty18 : tys.ty 18 = .struct [17] := nr rfl
theorem ty19 : tys.ty 19 = .struct [17] := nr rfl
theorem ty21 : tys.ty 21 = .int .i32 := nr rfl
theorem ty23 : tys.ty 23 = .func := nr rfl
theorem ty24 : tys.ty 24 = .func := nr rfl
theorem kn24 : tys.known 24 = true := nr rfl
theorem st24 : tys.isStruct 24 = false := nr rfl
theorem zr24 : tys.zeros 24 = [.konst .nilFunc] := nr rfl
theorem zo24 : tys.zero1 24 = .konst .nilFunc := nr rfl
theorem sz24 : tys.size 24 = 1 := nr rfl
theorem ty25 : tys.ty 25 = .slice 3 := nr rfl
theorem kn25 : tys.known 25 = true := nr rfl
theorem st25 : tys.isStruct 25 = false := nr rfl
theorem zr25 : tys.zeros 25 = [.own 3 []] := nr rfl
theorem zo25 : tys.zero1 25 = .own 3 [] := nr rfl
theorem sz25 : tys.size 25 = 1 := nr rfl
theorem ty27 : tys.ty 27 = .func := nr rfl
theorem ty28 : tys.ty 28 = .func := nr rfl
theorem ty29 : tys.ty 29 = .func := nr rfl
theorem ty30 : tys.ty 30 = .func := nr rfl
theorem kn30 : tys.known 30 = true := nr rfl
theorem st30 : tys.isStruct 30 = false := nr rfl
theorem zr30 : tys.zeros 30 = [.konst .nilFunc] := nr rfl
theorem zo30 : tys.zero1 30 = .konst .nilFunc := nr rfl
theorem sz30 : tys.size 30 = 1 := nr rfl
theorem ty32 : tys.ty 32 = .func := nr rfl
theorem ty33 : tys.ty 33 = .func := nr rfl
theorem ty34 : tys.ty 34 = .slice 25 := nr rfl
theorem kn34 : tys.known 34 = true := nr rfl
theorem st34 : tys.isStruct 34 = false := nr rfl
theorem zr34 : tys.zeros 34 = [.own 25 []] := nr rfl
theorem zo34 : tys.zero1 34 = .own 25 [] := nr rfl
theorem sz34 : tys.size 34 = 1 := nr rfl
theorem ty35 : tys.ty 35 = .struct [3, 3, 34, 34] := nr rfl
theorem ty36 : tys.ty 36 = .struct [3, 3, 34, 34] := nr rfl
theorem kn36 : tys.known 36 = true := nr rfl
theorem st36 : tys.isStruct 36 = true := nr rfl
theorem zr36 : tys.zeros 36 = [.int .i64 0, .int .i64 0, .own 25 [], .own 25 []] := nr rfl
theorem sz36 : tys.size 36 = 4 := nr rfl
theorem ty37 : tys.ty 37 = .func := nr rfl
theorem ty38 : tys.ty 38 = .func := nr rfl
theorem ty39 : tys.ty 39 = .struct [3, 3, 34, 34] := nr rfl
theorem kn39 : tys.known 39 = true := nr rfl
theorem st39 : tys.isStruct 39 = true := nr rfl
theorem zr39 : tys.zeros 39 = [.int .i64 0, .int .i64 0, .own 25 [], .own 25 []] := nr rfl
theorem sz39 : tys.size 39 = 4 := nr rfl
theorem ty40 : tys.ty 40 = .func := nr rfl
theorem ty41 : tys.ty 41 = .func := nr rfl
theorem ty42 : tys.ty 42 = .func := nr rfl
theorem ty44 : tys.ty 44 = .func := nr rfl
theorem ty45 : tys.ty 45 = .func := nr rfl
theorem ty46 : tys.ty 46 = .func := nr rfl
theorem ty47 : tys.ty 47 = .func := nr rfl
theorem ty48 : tys.ty 48 = .func := nr rfl
theorem ty49 : tys.ty 49 = .func := nr rfl
theorem ty50 : tys.ty 50 = .func := nr rfl
theorem ty51 : tys.ty 51 = .slice 9 := nr rfl
theorem kn51 : tys.known 51 = true := nr rfl
theorem st51 : tys.isStruct 51 = false := nr rfl
theorem zr51 : tys.zeros 51 = [.own 9 []] := nr rfl
theorem zo51 : tys.zero1 51 = .own 9 [] := nr rfl
theorem sz51 : tys.size 51 = 1 := nr rfl
theorem ty52 : tys.ty 52 = .func := nr rfl
theorem ty53 : tys.ty 53 = .func := nr rfl
theorem ty54 : tys.ty 54 = .func := nr rfl
theorem ty55 : tys.ty 55 = .func := nr rfl
theorem ty56 : tys.ty 56 = .func := nr rfl
theorem ty57 : tys.ty 57 = .func := nr rfl
theorem ty58 : tys.ty 58 = .func := nr rfl
theorem ty59 : tys.ty 59 = .func := nr rfl
theorem ty60 : tys.ty 60 = .func := nr rfl
theorem ty61 : tys.ty 61 = .func := nr rfl
theorem ty62 : tys.ty 62 = .func := nr rfl
theorem ty63 : tys.ty 63 = .func := nr rfl
theorem ty64 : tys.ty 64 = .func := nr rfl
theorem ty65 : tys.ty 65 = .func := nr rfl
theorem ty66 : tys.ty 66 = .func := nr rfl
theorem ty67 : tys.ty 67 = .func := nr rfl
theorem ty68 : tys.ty 68 = .int .u64 := nr rfl
theorem kn68 : tys.known 68 = true := nr rfl
theorem st68 : tys.isStruct 68 = false := nr rfl
theorem zr68 : tys.zeros 68 = [.int .u64 0] := nr rfl
theorem zo68 : tys.zero1 68 = .int .u64 0 := nr rfl
theorem sz68 : tys.size 68 = 1 := nr rfl
theorem ty70 : tys.ty 70 = .func := nr rfl
theorem ty71 : tys.ty 71 = .func := nr rfl
theorem ty72 : tys.ty 72 = .slice 4 := nr rfl
theorem kn72 : tys.known 72 = true := nr rfl
theorem st72 : tys.isStruct 72 = false := nr rfl
theorem zr72 : tys.zeros 72 = [.own 4 []] := nr rfl
theorem zo72 : tys.zero1 72 = .own 4 [] := nr rfl
theorem sz72 : tys.size 72 = 1 := nr rfl
theorem ty73 : tys.ty 73 = .func := nr rfl
theorem ty74 : tys.ty 74 = .func := nr rfl
theorem ty75 : tys.ty 75 = .func := nr rfl
theorem ty76 : tys.ty 76 = .func := nr rfl
theorem ty77 : tys.ty 77 = .func := nr rfl
theorem ty78 : tys.ty 78 = .int .u32 := nr rfl
theorem kn78 : tys.known 78 = true := nr rfl
theorem st78 : tys.isStruct 78 = false := nr rfl
theorem zr78 : tys.zeros 78 = [.int .u32 0] := nr rfl
theorem zo78 : tys.zero1 78 = .int .u32 0 := nr rfl
theorem sz78 : tys.size 78 = 1 := nr rfl
theorem ty80 : tys.ty 80 = .func := nr rfl
theorem ty81 : tys.ty 81 = .int .u64 := nr rfl
theorem kn81 : tys.known 81 = true := nr rfl
theorem st81 : tys.isStruct 81 = false := nr rfl
theorem zr81 : tys.zeros 81 = [.int .u64 0] := nr rfl
theorem zo81 : tys.zero1 81 = .int .u64 0 := nr rfl
theorem sz81 : tys.size 81 = 1 := nr rfl
theorem ty83 : tys.ty 83 = .func := nr rfl
theorem ty84 : tys.ty 84 = .func := nr rfl
theorem ty85 : tys.ty 85 = .func := nr rfl
theorem ty86 : tys.ty 86 = .func := nr rfl
theorem ty87 : tys.ty 87 = .func := nr rfl
theorem ty88 : tys.ty 88 = .func := nr rfl
theorem ty89 : tys.ty 89 = .struct [17, 17, 17, 9] := nr rfl
theorem ty90 : tys.ty 90 = .struct [17, 17, 17, 9] := nr rfl
theorem ty94 : tys.ty 94 = .func := nr rfl
theorem ty95 : tys.ty 95 = .int .u8 := nr rfl
theorem ty96 : tys.ty 96 = .int .u8 := nr rfl
theorem ty97 : tys.ty 97 = .func := nr rfl
theorem ty98 : tys.ty 98 = .ptr := nr rfl
theorem ty99 : tys.ty 99 = .int .i32 := nr rfl
theorem ty100 : tys.ty 100 = .int .i32 := nr rfl
theorem ty101 : tys.ty 101 = .struct [12, 12, 78, 95, 5, 5, 96, 97, 98, 99, 100] := nr rfl
theorem ty102 : tys.ty 102 = .struct [12, 12, 78, 95, 5, 5, 96, 97, 98, 99, 100] := nr rfl
theorem le3 : lends 3 = false := nr rfl
theorem le4 : lends 4 = false := nr rfl
theorem le5 : lends 5 = false := nr rfl
theorem le6 : lends 6 = false := nr rfl
theorem le7 : lends 7 = false := nr rfl
theorem le8 : lends 8 = false := nr rfl
theorem le9 : lends 9 = false := nr rfl
theorem le10 : lends 10 = false := nr rfl
theorem le11 : lends 11 = false := nr rfl
theorem le12 : lends 12 = false := nr rfl
theorem le13 : lends 13 = false := nr rfl
theorem le14 : lends 14 = false := nr rfl
theorem le15 : lends 15 = false := nr rfl
theorem le16 : lends 16 = false := nr rfl
theorem le17 : lends 17 = false := nr rfl
theorem le18 : lends 18 = false := nr rfl
theorem le19 : lends 19 = false := nr rfl
theorem le20 : lends 20 = false := nr rfl
theorem le21 : lends 21 = false := nr rfl
theorem le22 : lends 22 = true := nr rfl
theorem le23 : lends 23 = false := nr rfl
theorem le24 : lends 24 = false := nr rfl
theorem le25 : lends 25 = false := nr rfl
theorem le26 : lends 26 = false := nr rfl
theorem le27 : lends 27 = false := nr rfl
theorem le28 : lends 28 = false := nr rfl
theorem le29 : lends 29 = false := nr rfl
theorem le30 : lends 30 = false := nr rfl
theorem le31 : lends 31 = true := nr rfl
theorem le32 : lends 32 = false := nr rfl
theorem le33 : lends 33 = false := nr rfl
theorem le34 : lends 34 = false := nr rfl
theorem le35 : lends 35 = false := nr rfl
theorem le36 : lends 36 = false := nr rfl
theorem le37 : lends 37 = false := nr rfl
theorem le38 : lends 38 = false := nr rfl
theorem le39 : lends 39 = false := nr rfl
theorem le40 : lends 40 = false := nr rfl
theorem le41 : lends 41 = false := nr rfl
theorem le42 : lends 42 = false := nr rfl
theorem le43 : lends 43 = false := nr rfl
theorem le44 : lends 44 = false := nr rfl
theorem le45 : lends 45 = false := nr rfl
theorem le46 : lends 46 = false := nr rfl
theorem le47 : lends 47 = false := nr rfl
theorem le48 : lends 48 = false := nr rfl
theorem le49 : lends 49 = false := nr rfl
theorem le50 : lends 50 = false := nr rfl
theorem le51 : lends 51 = false := nr rfl
theorem le52 : lends 52 = false := nr rfl
theorem le53 : lends 53 = false := nr rfl
theorem le54 : lends 54 = false := nr rfl
theorem le55 : lends 55 = false := nr rfl
theorem le56 : lends 56 = false := nr rfl
theorem le57 : lends 57 = false := nr rfl
theorem le58 : lends 58 = false := nr rfl
theorem le59 : lends 59 = false := nr rfl
theorem le60 : lends 60 = false := nr rfl
theorem le61 : lends 61 = true := nr rfl
theorem le62 : lends 62 = false := nr rfl
theorem le63 : lends 63 = true := nr rfl
theorem le64 : lends 64 = false := nr rfl
theorem le65 : lends 65 = false := nr rfl
theorem le66 : lends 66 = false := nr rfl
theorem le67 : lends 67 = false := nr rfl
theorem le68 : lends 68 = false := nr rfl
theorem le69 : lends 69 = false := nr rfl
theorem le70 : lends 70 = false := nr rfl
theorem le71 : lends 71 = false := nr rfl
theorem le72 : lends 72 = false := nr rfl
theorem le73 : lends 73 = false := nr rfl
theorem le74 : lends 74 = false := nr rfl
theorem le75 : lends 75 = false := nr rfl
theorem le76 : lends 76 = false := nr rfl
theorem le77 : lends 77 = false := nr rfl
theorem le78 : lends 78 = false := nr rfl
theorem le79 : lends 79 = false := nr rfl
theorem le80 : lends 80 = false := nr rfl
theorem le81 : lends 81 = false := nr rfl
theorem le82 : lends 82 = false := nr rfl
theorem le83 : lends 83 = false := nr rfl
theorem le84 : lends 84 = false := nr rfl
theorem le85 : lends 85 = false := nr rfl
theorem le86 : lends 86 = false := nr rfl
theorem le87 : lends 87 = false := nr rfl
theorem le88 : lends 88 = false := nr rfl
theorem le89 : lends 89 = false := nr rfl
theorem le90 : lends 90 = false := nr rfl
theorem le91 : lends 91 = false := nr rfl
theorem le92 : lends 92 = false := nr rfl
theorem le93 : lends 93 = false := nr rfl
theorem le94 : lends 94 = false := nr rfl
theorem le95 : lends 95 = false := nr rfl
theorem le96 : lends 96 = false := nr rfl
theorem le97 : lends 97 = false := nr rfl
theorem le98 : lends 98 = false := nr rfl
theorem le99 : lends 99 = false := nr rfl
theorem le100 : lends 100 = false := nr rfl
theorem le101 : lends 101 = false := nr rfl
theorem le102 : lends 102 = false := nr rfl
theorem le103 : lends 103 = false := nr rfl
theorem le104 : lends 104 = false := nr rfl
theorem le105 : lends 105 = false := nr rfl
theorem le106 : lends 106 = false := nr rfl
theorem le107 : lends 107 = false := nr rfl
theorem le108 : lends 108 = false := nr rfl

set_option maxRecDepth 100000 in
theorem tyOk : TyOk Try.prog tys := tyOk_of (by kernel_rfl)
theorem mixed : Try.prog.follows .mixedOrders = true := by kernel_rfl
noncomputable def Y0 : Dv.Sys := { P := Try.prog, T := tys, lends := lends, base := fun _ _ _ => none }
theorem y0Ok : Dv.Sys.Ok Y0 := ⟨tyOk, mixed, fun _ _ _ _ _ h => by cases h⟩
theorem y0T : Y0.T = tys := nr rfl
theorem y0L : Y0.lends = lends := nr rfl
set_option maxRecDepth 10000 in
set_option linter.defProp false in
def yset0 :=
 And.intro @y0T (
 And.intro @y0L (
 And.intro @ty3 (
 And.intro @ty4 (
 And.intro @ty9 (
 And.intro @ty24 (
 And.intro @ty25 (
 And.intro @ty30 (
 And.intro @ty34 (
 And.intro @ty36 (
 And.intro @ty39 (
 And.intro @ty51 (
 And.intro @ty68 (
 And.intro @ty72 (
 And.intro @ty78 (
 And.intro @ty81 (
 And.intro @kn3 (
 And.intro @st3 (
 And.intro @sz3 (
 And.intro @zr3 (
 And.intro @kn4 (
 And.intro @st4 (
 And.intro @sz4 (
 And.intro @zr4 (
 And.intro @kn9 (
 And.intro @st9 (
 And.intro @sz9 (
 And.intro @zr9 (
 And.intro @kn24 (
 And.intro @st24 (
 And.intro @sz24 (
 And.intro @zr24 (
 And.intro @kn25 (
 And.intro @st25 (
 And.intro @sz25 (
 And.intro @zr25 (
 And.intro @kn30 (
 And.intro @st30 (
 And.intro @sz30 (
 And.intro @zr30 (
 And.intro @kn34 (
 And.intro @st34 (
 And.intro @sz34 (
 And.intro @zr34 (
 And.intro @kn36 (
 And.intro @st36 (
 And.intro @sz36 (
 And.intro @zr36 (
 And.intro @kn39 (
 And.intro @st39 (
 And.intro @sz39 (
 And.intro @zr39 (
 And.intro @kn51 (
 And.intro @st51 (
 And.intro @sz51 (
 And.intro @zr51 (
 And.intro @kn68 (
 And.intro @st68 (
 And.intro @sz68 (
 And.intro @zr68 (
 And.intro @kn72 (
 And.intro @st72 (
 And.intro @sz72 (
 And.intro @zr72 (
 And.intro @kn78 (
 And.intro @st78 (
 And.intro @sz78 (
 And.intro @zr78 (
 And.intro @kn81 (
 And.intro @st81 (
 And.intro @sz81 (
 And.intro @zr81 (
 And.intro @zo3 (
 And.intro @zo4 (
 And.intro @zo9 (
 And.intro @zo24 (
 And.intro @zo25 (
 And.intro @zo30 (
 And.intro @zo34 (
 And.intro @zo51 (
 And.intro @zo68 (
 And.intro @zo72 (
 And.intro @zo78 (
 And.intro @zo81 (
 And.intro @le3 (
 And.intro @le4 (
 And.intro @le5 (
 And.intro @le6 (
 And.intro @le7 (
 And.intro @le8 (
 And.intro @le9 (
 And.intro @le10 (
 And.intro @le11 (
 And.intro @le12 (
 And.intro @le13 (
 And.intro @le14 (
 And.intro @le15 (
 And.intro @le16 (
 And.intro @le17 (
 And.intro @le18 (
 And.intro @le19 (
 And.intro @le20 (
 And.intro @le21 (
 And.intro @le22 (
 And.intro @le23 (
 And.intro @le24 (
 And.intro @le25 (
 And.intro @le26 (
 And.intro @le27 (
 And.intro @le28 (
 And.intro @le29 (
 And.intro @le30 (
 And.intro @le31 (
 And.intro @le32 (
 And.intro @le33 (
 And.intro @le34 (
 And.intro @le35 (
 And.intro @le36 (
 And.intro @le37 (
 And.intro @le38 (
 And.intro @le39 (
 And.intro @le40 (
 And.intro @le41 (
 And.intro @le42 (
 And.intro @le43 (
 And.intro @le44 (
 And.intro @le45 (
 And.intro @le46 (
 And.intro @le47 (
 And.intro @le48 (
 And.intro @le49 (
 And.intro @le50 (
 And.intro @le51 (
 And.intro @le52 (
 And.intro @le53 (
 And.intro @le54 (
 And.intro @le55 (
 And.intro @le56 (
 And.intro @le57 (
 And.intro @le58 (
 And.intro @le59 (
 And.intro @le60 (
 And.intro @le61 (
 And.intro @le62 (
 And.intro @le63 (
 And.intro @le64 (
 And.intro @le65 (
 And.intro @le66 (
 And.intro @le67 (
 And.intro @le68 (
 And.intro @le69 (
 And.intro @le70 (
 And.intro @le71 (
 And.intro @le72 (
 And.intro @le73 (
 And.intro @le74 (
 And.intro @le75 (
 And.intro @le76 (
 And.intro @le77 (
 And.intro @le78 (
 And.intro @le79 (
 And.intro @le80 (
 And.intro @le81 (
 And.intro @le82 (
 And.intro @le83 (
 And.intro @le84 (
 And.intro @le85 (
 And.intro @le86 (
 And.intro @le87 (
 And.intro @le88 (
 And.intro @le89 (
 And.intro @le90 (
 And.intro @le91 (
 And.intro @le92 (
 And.intro @le93 (
 And.intro @le94 (
 And.intro @le95 (
 And.intro @le96 (
 And.intro @le97 (
 And.intro @le98 (
 And.intro @le99 (
 And.intro @le100 (
 And.intro @le101 (
 And.intro @le102 (
 And.intro @le103 (
 And.intro @le104 (
 And.intro @le105 (
 And.intro @le106 (
 And.intro @le107 (@le108)))))))))))))))))))))))))))))))))))))))))))))))))))))))))))))))))))))))))))))))))))))))))))))))))))))))))))))))))))))))))))))))))))))))))))))))))))))))))))))))))))))))))))))))))))))))))))))
/-- slices.Clone[[]int,int] -/
def k86 : SC :=
  .seq
    (.ops [
      ⟨(some 2), (Op.assign (Operand.const (Value.slice none 0 0))), 25, none⟩])
    (.seq
      (.seq
        (.ops [
          ⟨(some 3), (Op.move (Operand.tmp 0)), 25, none⟩,
          ⟨(some 4), (Op.binOp BinOp.eql 25 (Operand.tmp 3) (Operand.const (Value.slice none 0 0)) 25), 4, none⟩])
        (.cond (Operand.tmp 4)
          (.seq
            (.ops [
              ⟨(some 2), (Op.assign (Operand.const (Value.slice none 0 0))), 25, none⟩])
            .ret)
          .skip))
      (.seq
        (.ops [
          ⟨(some 5), (Op.buildSlice 25 0 #[]), 25, none⟩,
          ⟨(some 6), (Op.move (Operand.tmp 0)), 25, none⟩,
          ⟨(some 7), (Op.call { callee := (Callee.builtin Builtin.append), args := #[(Operand.tmp 5), (Operand.tmp 6)], argTypes := #[25, 25] }), 25, none⟩,
          ⟨(some 2), (Op.assign (Operand.tmp 7)), 25, none⟩])
        .ret))
theorem slim86 : Try.f86.body.map (slim lends) = some k86 := by kernel_rfl
theorem ok86 : fnOk Try.f86 1 = true := by kernel_rfl
theorem clone0_86 (A : Option Addr) (c : Nat) : Y0.call 86 [.konst (.slice A 0 c)] [] = some (.own 3 [], []) := by
  refine call_slim (Y := Y0) rfl Try.func86 ok86 slim86 ?_
  show wpD Y0.env k86 (fin tys 0 [ResultVar.tmp 2] _) _
  unfold k86
  cases A <;> simp only [↓xpre, xpost, yset0, implies_true, Option.bind_some, Option.map_some, Option.isSome_some, ↓reduceIte, Nat.reduceEqDiff, Nat.reduceLT, Nat.reduceLeDiff, Nat.reduceAdd, Nat.reduceMul, Nat.reduceMod, Nat.reduceSub, List.contains_cons, List.contains_nil, Nat.reduceBEq, List.getD_cons_zero, List.getD_cons_succ, List.getD_nil, List.length_cons, List.length_nil, List.size_toArray, List.toList_toArray, List.zip_cons_cons, List.zip_nil_left, List.append_nil, List.nil_append, List.cons_append, List.map_cons, List.map_nil, List.replicate_succ, List.replicate_zero, List.set_cons_zero, List.set_cons_succ, List.set_set, List.all_cons, List.any_cons, List.any_nil, List.all_nil, List.getElem?_cons_zero, List.getElem?_cons_succ, List.getElem?_nil, List.range_zero, beq_self_eq_true, Int.reduceLE, Int.reduceLT, Int.reduceEq, Int.reduceSub, Int.reduceAdd, Int.reduceToNat, Int.reduceNeg, Option.isNone_none, Option.isNone_some]
theorem hook86 : Dv.Good Try.prog tys 86 [.sl 3 []] [] (.own 3 []) [] := good_empty kn3 (fun A c => Dv.Sys.call_good y0Ok (clone0_86 A c))
/-- Calls that are known by other means. -/
def hooks (f : FuncId) (a l : List D) : Option (D × List D) :=
  match f, a, l with
  | 86, [.sl 3 []], [] => some (.own 3 [], [])
  | _, _, _ => none
theorem hooksOk : ∀ f a l r outs, hooks f a l = some (r, outs) → Dv.Good Try.prog tys f a l r outs := by
  intro f a l r outs h
  unfold hooks at h
  split at h
  · simp only [Option.some.injEq, Prod.mk.injEq] at h; obtain ⟨rfl, rfl⟩ := h; exact hook86
  · cases h
noncomputable def Y : Dv.Sys := { P := Try.prog, T := tys, lends := lends, base := hooks }
theorem yOk : Dv.Sys.Ok Y := ⟨tyOk, mixed, hooksOk⟩
theorem yT : Y.T = tys := nr rfl
theorem yL : Y.lends = lends := nr rfl
set_option maxRecDepth 10000 in
set_option linter.defProp false in
def yset :=
 And.intro @yT (
 And.intro @yL (
 And.intro @ty3 (
 And.intro @ty4 (
 And.intro @ty9 (
 And.intro @ty24 (
 And.intro @ty25 (
 And.intro @ty30 (
 And.intro @ty34 (
 And.intro @ty36 (
 And.intro @ty39 (
 And.intro @ty51 (
 And.intro @ty68 (
 And.intro @ty72 (
 And.intro @ty78 (
 And.intro @ty81 (
 And.intro @kn3 (
 And.intro @st3 (
 And.intro @sz3 (
 And.intro @zr3 (
 And.intro @kn4 (
 And.intro @st4 (
 And.intro @sz4 (
 And.intro @zr4 (
 And.intro @kn9 (
 And.intro @st9 (
 And.intro @sz9 (
 And.intro @zr9 (
 And.intro @kn24 (
 And.intro @st24 (
 And.intro @sz24 (
 And.intro @zr24 (
 And.intro @kn25 (
 And.intro @st25 (
 And.intro @sz25 (
 And.intro @zr25 (
 And.intro @kn30 (
 And.intro @st30 (
 And.intro @sz30 (
 And.intro @zr30 (
 And.intro @kn34 (
 And.intro @st34 (
 And.intro @sz34 (
 And.intro @zr34 (
 And.intro @kn36 (
 And.intro @st36 (
 And.intro @sz36 (
 And.intro @zr36 (
 And.intro @kn39 (
 And.intro @st39 (
 And.intro @sz39 (
 And.intro @zr39 (
 And.intro @kn51 (
 And.intro @st51 (
 And.intro @sz51 (
 And.intro @zr51 (
 And.intro @kn68 (
 And.intro @st68 (
 And.intro @sz68 (
 And.intro @zr68 (
 And.intro @kn72 (
 And.intro @st72 (
 And.intro @sz72 (
 And.intro @zr72 (
 And.intro @kn78 (
 And.intro @st78 (
 And.intro @sz78 (
 And.intro @zr78 (
 And.intro @kn81 (
 And.intro @st81 (
 And.intro @sz81 (
 And.intro @zr81 (
 And.intro @zo3 (
 And.intro @zo4 (
 And.intro @zo9 (
 And.intro @zo24 (
 And.intro @zo25 (
 And.intro @zo30 (
 And.intro @zo34 (
 And.intro @zo51 (
 And.intro @zo68 (
 And.intro @zo72 (
 And.intro @zo78 (
 And.intro @zo81 (
 And.intro @le3 (
 And.intro @le4 (
 And.intro @le5 (
 And.intro @le6 (
 And.intro @le7 (
 And.intro @le8 (
 And.intro @le9 (
 And.intro @le10 (
 And.intro @le11 (
 And.intro @le12 (
 And.intro @le13 (
 And.intro @le14 (
 And.intro @le15 (
 And.intro @le16 (
 And.intro @le17 (
 And.intro @le18 (
 And.intro @le19 (
 And.intro @le20 (
 And.intro @le21 (
 And.intro @le22 (
 And.intro @le23 (
 And.intro @le24 (
 And.intro @le25 (
 And.intro @le26 (
 And.intro @le27 (
 And.intro @le28 (
 And.intro @le29 (
 And.intro @le30 (
 And.intro @le31 (
 And.intro @le32 (
 And.intro @le33 (
 And.intro @le34 (
 And.intro @le35 (
 And.intro @le36 (
 And.intro @le37 (
 And.intro @le38 (
 And.intro @le39 (
 And.intro @le40 (
 And.intro @le41 (
 And.intro @le42 (
 And.intro @le43 (
 And.intro @le44 (
 And.intro @le45 (
 And.intro @le46 (
 And.intro @le47 (
 And.intro @le48 (
 And.intro @le49 (
 And.intro @le50 (
 And.intro @le51 (
 And.intro @le52 (
 And.intro @le53 (
 And.intro @le54 (
 And.intro @le55 (
 And.intro @le56 (
 And.intro @le57 (
 And.intro @le58 (
 And.intro @le59 (
 And.intro @le60 (
 And.intro @le61 (
 And.intro @le62 (
 And.intro @le63 (
 And.intro @le64 (
 And.intro @le65 (
 And.intro @le66 (
 And.intro @le67 (
 And.intro @le68 (
 And.intro @le69 (
 And.intro @le70 (
 And.intro @le71 (
 And.intro @le72 (
 And.intro @le73 (
 And.intro @le74 (
 And.intro @le75 (
 And.intro @le76 (
 And.intro @le77 (
 And.intro @le78 (
 And.intro @le79 (
 And.intro @le80 (
 And.intro @le81 (
 And.intro @le82 (
 And.intro @le83 (
 And.intro @le84 (
 And.intro @le85 (
 And.intro @le86 (
 And.intro @le87 (
 And.intro @le88 (
 And.intro @le89 (
 And.intro @le90 (
 And.intro @le91 (
 And.intro @le92 (
 And.intro @le93 (
 And.intro @le94 (
 And.intro @le95 (
 And.intro @le96 (
 And.intro @le97 (
 And.intro @le98 (
 And.intro @le99 (
 And.intro @le100 (
 And.intro @le101 (
 And.intro @le102 (
 And.intro @le103 (
 And.intro @le104 (
 And.intro @le105 (
 And.intro @le106 (
 And.intro @le107 (@le108)))))))))))))))))))))))))))))))))))))))))))))))))))))))))))))))))))))))))))))))))))))))))))))))))))))))))))))))))))))))))))))))))))))))))))))))))))))))))))))))))))))))))))))))))))))))))))))
theorem clone_86 (xs : List D) (h : xs.length < 1099511627776) (hs : xs.all solid = true) (ho : hasObjs xs = false) (hf : (frz (.own 3 xs)).isSome = true) : Y.call 86 [.sl 3 xs] [] = some (.own 3 xs, []) := by
  cases xs with
  | nil => exact Dv.Sys.call_base rfl
  | cons x xs =>
    refine call_slim (Y := Y) rfl Try.func86 ok86 slim86 ?_
    show wpD Y.env k86 (fin tys 0 [ResultVar.tmp 2] _) _
    unfold k86
    have h0 : 0 + (x :: xs).length < 1099511627776 := by omega
    simp only [List.length_cons, Nat.zero_add] at h0
    simp only [List.all_cons, hosCons] at hs ho
    simp only [↓xpre, xpost, yset, implies_true, Option.bind_some, Option.map_some, Option.isSome_some, ↓reduceIte, Nat.reduceEqDiff, Nat.reduceLT, Nat.reduceLeDiff, Nat.reduceAdd, Nat.reduceMul, Nat.reduceMod, Nat.reduceSub, List.contains_cons, List.contains_nil, Nat.reduceBEq, List.getD_cons_zero, List.getD_cons_succ, List.getD_nil, List.length_cons, List.length_nil, List.size_toArray, List.toList_toArray, List.zip_cons_cons, List.zip_nil_left, List.append_nil, List.nil_append, List.cons_append, List.map_cons, List.map_nil, List.replicate_succ, List.replicate_zero, List.set_cons_zero, List.set_cons_succ, List.set_set, List.all_cons, List.any_cons, List.any_nil, List.all_nil, List.getElem?_cons_zero, List.getElem?_cons_succ, List.getElem?_nil, List.range_zero, beq_self_eq_true, Int.reduceLE, Int.reduceLT, Int.reduceEq, Int.reduceSub, Int.reduceAdd, Int.reduceToNat, Int.reduceNeg, Nat.zero_add, h0, hs, ho]
    simp only [fzOwn, fzsCons] at hf
    rw [if_pos hf]
end Go.Proofs.Ythaimoghceamnaa
