/- The types of this seat as data, and the system of its calls. Conditions: none. -/
import Derived.Test.YtjlphfbpaejicaaRows
import Derived.Test.YtjlphfbpaejicaaL6
import Derived.Test.YtjlphfbpaejicaaSv
import Derived.KernelRfl
namespace Go.Proofs.Ytjlphfbpaejicaa
open Go Dv
set_option linter.unusedSimpArgs false
set_option maxRecDepth 100000

def tab : List Ty := [.other, .func, .int .i64, .int .i64, .bool, .int .u8, .int .u8, .struct [2, 3, 4, 6], .struct [2, 3, 4, 6], .string, .string, .string, .int .u64, .struct [9, 12], .struct [9, 12], .ptr, .ptr, .ptr, .struct [17], .struct [17], .other, .int .i32, .slice 32, .struct [3, 3, 22, 22], .struct [3, 3, 22, 22], .func, .other, .func, .struct [3, 3, 22, 22], .func, .func, .func, .slice 3, .other, .func, .func, .func, .func, .func, .func, .func, .func, .func, .func, .other, .func, .other, .func, .other, .func, .func, .func, .func, .func, .func, .func, .func, .func, .other, .func, .func, .func, .func, .func, .other, .func, .func, .func, .func, .func, .func, .func, .func, .func, .func, .func, .func, .func, .other, .func, .func, .func, .func, .func, .func, .func, .func, .int .u64, .func, .func, .func, .func, .func, .func, .func, .func, .func, .int .i64, .other, .func, .func, .func, .func, .int .u32, .func, .int .u64, .int .u64, .func, .func, .func, .ptr, .func, .ptr, .other, .func, .func, .struct [17, 17, 17, 9], .struct [17, 17, 17, 9], .other, .other, .other, .func, .int .u8, .int .u8, .func, .ptr, .int .i32, .int .i32, .struct [12, 12, 103, 122, 5, 5, 123, 124, 125, 126, 127], .struct [12, 12, 103, 122, 5, 5, 123, 124, 125, 126, 127]]
def tys : Tys := tysOf tab
def lends (f : FuncId) : Bool := [23, 24, 42, 111].contains f

theorem ty1 : tys.ty 1 = .func := nr rfl
theorem ty2 : tys.ty 2 = .int .i64 := nr rfl
theorem ty3 : tys.ty 3 = .int .i64 := nr rfl
theorem kn3 : tys.known 3 = true := nr rfl
theorem st3 : tys.isStruct 3 = false := nr rfl
theorem zr3 : tys.zeros 3 = [.int .i64 0] := nr rfl
theorem zo3 : tys.zero1 3 = .int .i64 0 := nr rfl
theorem sz3 : tys.size 3 = 1 := nr rfl
theorem ty4 : tys.ty 4 = .bool := nr rfl
theorem kn4 : tys.known 4 = true := nr rfl
theorem st4 : tys.isStruct 4 = false := nr rfl
theorem zr4 : tys.zeros 4 = [.bool false] := nr rfl
theorem zo4 : tys.zero1 4 = .bool false := nr rfl
theorem sz4 : tys.size 4 = 1 := nr rfl
theorem ty5 : tys.ty 5 = .int .u8 := nr rfl
theorem kn5 : tys.known 5 = true := nr rfl
theorem st5 : tys.isStruct 5 = false := nr rfl
theorem zr5 : tys.zeros 5 = [.int .u8 0] := nr rfl
theorem zo5 : tys.zero1 5 = .int .u8 0 := nr rfl
theorem sz5 : tys.size 5 = 1 := nr rfl
theorem ty6 : tys.ty 6 = .int .u8 := nr rfl
theorem ty7 : tys.ty 7 = .struct [2, 3, 4, 6] := nr rfl
theorem ty8 : tys.ty 8 = .struct [2, 3, 4, 6] := nr rfl
theorem ty9 : tys.ty 9 = .string := nr rfl
theorem ty10 : tys.ty 10 = .string := nr rfl
theorem ty11 : tys.ty 11 = .string := nr rfl
theorem ty12 : tys.ty 12 = .int .u64 := nr rfl
theorem ty13 : tys.ty 13 = .struct [9, 12] := nr rfl
theorem ty14 : tys.ty 14 = .struct [9, 12] := nr rfl
theorem ty15 : tys.ty 15 = .ptr := nr rfl
theorem ty16 : tys.ty 16 = .ptr := nr rfl
theorem ty17 : tys.ty 17 = .ptr := nr rfl
theorem ty18 : tys.ty 18 = .struct [17] := nr rfl
theorem ty19 : tys.ty 19 = .struct [17] := nr rfl
theorem ty21 : tys.ty 21 = .int .i32 := nr rfl
theorem ty22 : tys.ty 22 = .slice 32 := nr rfl
theorem kn22 : tys.known 22 = true := nr rfl
theorem st22 : tys.isStruct 22 = false := nr rfl
theorem zr22 : tys.zeros 22 = [.own 32 []] := nr rfl
theorem zo22 : tys.zero1 22 = .own 32 [] := nr rfl
theorem sz22 : tys.size 22 = 1 := nr rfl
theorem ty23 : tys.ty 23 = .struct [3, 3, 22, 22] := nr rfl
theorem ty24 : tys.ty 24 = .struct [3, 3, 22, 22] := nr rfl
theorem kn24 : tys.known 24 = true := nr rfl
theorem st24 : tys.isStruct 24 = true := nr rfl
theorem zr24 : tys.zeros 24 = [.int .i64 0, .int .i64 0, .own 32 [], .own 32 []] := nr rfl
theorem sz24 : tys.size 24 = 4 := nr rfl
theorem ty25 : tys.ty 25 = .func := nr rfl
theorem ty27 : tys.ty 27 = .func := nr rfl
theorem ty28 : tys.ty 28 = .struct [3, 3, 22, 22] := nr rfl
theorem kn28 : tys.known 28 = true := nr rfl
theorem st28 : tys.isStruct 28 = true := nr rfl
theorem zr28 : tys.zeros 28 = [.int .i64 0, .int .i64 0, .own 32 [], .own 32 []] := nr rfl
theorem sz28 : tys.size 28 = 4 := nr rfl
theorem ty29 : tys.ty 29 = .func := nr rfl
theorem ty30 : tys.ty 30 = .func := nr rfl
theorem ty31 : tys.ty 31 = .func := nr rfl
theorem ty32 : tys.ty 32 = .slice 3 := nr rfl
theorem kn32 : tys.known 32 = true := nr rfl
theorem st32 : tys.isStruct 32 = false := nr rfl
theorem zr32 : tys.zeros 32 = [.own 3 []] := nr rfl
theorem zo32 : tys.zero1 32 = .own 3 [] := nr rfl
theorem sz32 : tys.size 32 = 1 := nr rfl
theorem ty34 : tys.ty 34 = .func := nr rfl
theorem ty35 : tys.ty 35 = .func := nr rfl
theorem ty36 : tys.ty 36 = .func := nr rfl
theorem ty37 : tys.ty 37 = .func := nr rfl
theorem ty38 : tys.ty 38 = .func := nr rfl
theorem ty39 : tys.ty 39 = .func := nr rfl
theorem ty40 : tys.ty 40 = .func := nr rfl
theorem ty41 : tys.ty 41 = .func := nr rfl
theorem ty42 : tys.ty 42 = .func := nr rfl
theorem ty43 : tys.ty 43 = .func := nr rfl
theorem ty45 : tys.ty 45 = .func := nr rfl
theorem ty47 : tys.ty 47 = .func := nr rfl
theorem ty49 : tys.ty 49 = .func := nr rfl
theorem ty50 : tys.ty 50 = .func := nr rfl
theorem ty51 : tys.ty 51 = .func := nr rfl
theorem ty52 : tys.ty 52 = .func := nr rfl
theorem ty53 : tys.ty 53 = .func := nr rfl
theorem ty54 : tys.ty 54 = .func := nr rfl
theorem ty55 : tys.ty 55 = .func := nr rfl
theorem ty56 : tys.ty 56 = .func := nr rfl
theorem ty57 : tys.ty 57 = .func := nr rfl
theorem ty59 : tys.ty 59 = .func := nr rfl
theorem ty60 : tys.ty 60 = .func := nr rfl
theorem ty61 : tys.ty 61 = .func := nr rfl
theorem ty62 : tys.ty 62 = .func := nr rfl
theorem ty63 : tys.ty 63 = .func := nr rfl
theorem ty65 : tys.ty 65 = .func := nr rfl
theorem ty66 : tys.ty 66 = .func := nr rfl
theorem ty67 : tys.ty 67 = .func := nr rfl
theorem kn67 : tys.known 67 = true := nr rfl
theorem st67 : tys.isStruct 67 = false := nr rfl
theorem zr67 : tys.zeros 67 = [.konst .nilFunc] := nr rfl
theorem zo67 : tys.zero1 67 = .konst .nilFunc := nr rfl
theorem sz67 : tys.size 67 = 1 := nr rfl
theorem ty68 : tys.ty 68 = .func := nr rfl
theorem ty69 : tys.ty 69 = .func := nr rfl
theorem ty70 : tys.ty 70 = .func := nr rfl
theorem ty71 : tys.ty 71 = .func := nr rfl
theorem ty72 : tys.ty 72 = .func := nr rfl
theorem ty73 : tys.ty 73 = .func := nr rfl
theorem ty74 : tys.ty 74 = .func := nr rfl
theorem ty75 : tys.ty 75 = .func := nr rfl
theorem ty76 : tys.ty 76 = .func := nr rfl
theorem ty77 : tys.ty 77 = .func := nr rfl
theorem ty79 : tys.ty 79 = .func := nr rfl
theorem ty80 : tys.ty 80 = .func := nr rfl
theorem ty81 : tys.ty 81 = .func := nr rfl
theorem kn81 : tys.known 81 = true := nr rfl
theorem st81 : tys.isStruct 81 = false := nr rfl
theorem zr81 : tys.zeros 81 = [.konst .nilFunc] := nr rfl
theorem zo81 : tys.zero1 81 = .konst .nilFunc := nr rfl
theorem sz81 : tys.size 81 = 1 := nr rfl
theorem ty82 : tys.ty 82 = .func := nr rfl
theorem kn82 : tys.known 82 = true := nr rfl
theorem st82 : tys.isStruct 82 = false := nr rfl
theorem zr82 : tys.zeros 82 = [.konst .nilFunc] := nr rfl
theorem zo82 : tys.zero1 82 = .konst .nilFunc := nr rfl
theorem sz82 : tys.size 82 = 1 := nr rfl
theorem ty83 : tys.ty 83 = .func := nr rfl
theorem ty84 : tys.ty 84 = .func := nr rfl
theorem kn84 : tys.known 84 = true := nr rfl
theorem st84 : tys.isStruct 84 = false := nr rfl
theorem zr84 : tys.zeros 84 = [.konst .nilFunc] := nr rfl
theorem zo84 : tys.zero1 84 = .konst .nilFunc := nr rfl
theorem sz84 : tys.size 84 = 1 := nr rfl
theorem ty85 : tys.ty 85 = .func := nr rfl
theorem ty86 : tys.ty 86 = .func := nr rfl
theorem ty87 : tys.ty 87 = .int .u64 := nr rfl
theorem kn87 : tys.known 87 = true := nr rfl
theorem st87 : tys.isStruct 87 = false := nr rfl
theorem zr87 : tys.zeros 87 = [.int .u64 0] := nr rfl
theorem zo87 : tys.zero1 87 = .int .u64 0 := nr rfl
theorem sz87 : tys.size 87 = 1 := nr rfl
theorem ty88 : tys.ty 88 = .func := nr rfl
theorem ty89 : tys.ty 89 = .func := nr rfl
theorem kn89 : tys.known 89 = true := nr rfl
theorem st89 : tys.isStruct 89 = false := nr rfl
theorem zr89 : tys.zeros 89 = [.konst .nilFunc] := nr rfl
theorem zo89 : tys.zero1 89 = .konst .nilFunc := nr rfl
theorem sz89 : tys.size 89 = 1 := nr rfl
theorem ty90 : tys.ty 90 = .func := nr rfl
theorem ty91 : tys.ty 91 = .func := nr rfl
theorem ty92 : tys.ty 92 = .func := nr rfl
theorem ty93 : tys.ty 93 = .func := nr rfl
theorem ty94 : tys.ty 94 = .func := nr rfl
theorem ty95 : tys.ty 95 = .func := nr rfl
theorem ty96 : tys.ty 96 = .func := nr rfl
theorem ty97 : tys.ty 97 = .int .i64 := nr rfl
theorem kn97 : tys.known 97 = true := nr rfl
theorem st97 : tys.isStruct 97 = false := nr rfl
theorem zr97 : tys.zeros 97 = [.int .i64 0] := nr rfl
theorem zo97 : tys.zero1 97 = .int .i64 0 := nr rfl
theorem sz97 : tys.size 97 = 1 := nr rfl
theorem ty99 : tys.ty 99 = .func := nr rfl
theorem ty100 : tys.ty 100 = .func := nr rfl
theorem ty101 : tys.ty 101 = .func := nr rfl
theorem ty102 : tys.ty 102 = .func := nr rfl
theorem ty103 : tys.ty 103 = .int .u32 := nr rfl
theorem kn103 : tys.known 103 = true := nr rfl
theorem st103 : tys.isStruct 103 = false := nr rfl
theorem zr103 : tys.zeros 103 = [.int .u32 0] := nr rfl
theorem zo103 : tys.zero1 103 = .int .u32 0 := nr rfl
theorem sz103 : tys.size 103 = 1 := nr rfl
theorem ty104 : tys.ty 104 = .func := nr rfl
theorem ty105 : tys.ty 105 = .int .u64 := nr rfl
theorem kn105 : tys.known 105 = true := nr rfl
theorem st105 : tys.isStruct 105 = false := nr rfl
theorem zr105 : tys.zeros 105 = [.int .u64 0] := nr rfl
theorem zo105 : tys.zero1 105 = .int .u64 0 := nr rfl
theorem sz105 : tys.size 105 = 1 := nr rfl
theorem ty106 : tys.ty 106 = .int .u64 := nr rfl
theorem kn106 : tys.known 106 = true := nr rfl
theorem st106 : tys.isStruct 106 = false := nr rfl
theorem zr106 : tys.zeros 106 = [.int .u64 0] := nr rfl
theorem zo106 : tys.zero1 106 = .int .u64 0 := nr rfl
theorem sz106 : tys.size 106 = 1 := nr rfl
theorem ty107 : tys.ty 107 = .func := nr rfl
theorem ty108 : tys.ty 108 = .func := nr rfl
theorem ty109 : tys.ty 109 = .func := nr rfl
theorem ty110 : tys.ty 110 = .ptr := nr rfl
theorem kn110 : tys.known 110 = true := nr rfl
theorem st110 : tys.isStruct 110 = false := nr rfl
theorem zr110 : tys.zeros 110 = [.konst (.pointer none)] := nr rfl
theorem zo110 : tys.zero1 110 = .konst (.pointer none) := nr rfl
theorem sz110 : tys.size 110 = 1 := nr rfl
theorem ty111 : tys.ty 111 = .func := nr rfl
theorem ty112 : tys.ty 112 = .ptr := nr rfl
theorem ty114 : tys.ty 114 = .func := nr rfl
theorem ty115 : tys.ty 115 = .func := nr rfl
theorem ty116 : tys.ty 116 = .struct [17, 17, 17, 9] := nr rfl
theorem ty117 : tys.ty 117 = .struct [17, 17, 17, 9] := nr rfl
theorem ty121 : tys.ty 121 = .func := nr rfl
theorem ty122 : tys.ty 122 = .int .u8 := nr rfl
theorem ty123 : tys.ty 123 = .int .u8 := nr rfl
theorem ty124 : tys.ty 124 = .func := nr rfl
theorem ty125 : tys.ty 125 = .ptr := nr rfl
theorem ty126 : tys.ty 126 = .int .i32 := nr rfl
theorem ty127 : tys.ty 127 = .int .i32 := nr rfl
theorem ty128 : tys.ty 128 = .struct [12, 12, 103, 122, 5, 5, 123, 124, 125, 126, 127] := nr rfl
theorem ty129 : tys.ty 129 = .struct [12, 12, 103, 122, 5, 5, 123, 124, 125, 126, 127] := nr rfl
theorem le3 : lends 3 = false := nr rfl
theorem le4 : lends 4 = false := nr rfl
theorem le5 : lends 5 = false := nr rfl
theorem le6 : lends 6 = false := nr rfl
theorem le7 : lends 7 = false := nr rfl
theorem le8 : lends 8 = false := nr rfl
theorem le9 : lends 9 = false := nr rfl
theorem le10 : lends 10 = false := nr rfl
theorem le11 : lends 11 = false := nr rfl
theorem le12 : lends 12 = false := nr rfl
theorem le13 : lends 13 = false := nr rfl
theorem le14 : lends 14 = false := nr rfl
theorem le15 : lends 15 = false := nr rfl
theorem le16 : lends 16 = false := nr rfl
theorem le17 : lends 17 = false := nr rfl
theorem le18 : lends 18 = false := nr rfl
theorem le19 : lends 19 = false := nr rfl
theorem le20 : lends 20 = false := nr rfl
theorem le21 : lends 21 = false := nr rfl
theorem le22 : lends 22 = false := nr rfl
theorem le23 : lends 23 = true := nr rfl
theorem le24 : lends 24 = true := nr rfl
theorem le25 : lends 25 = false := nr rfl
theorem le26 : lends 26 = false := nr rfl
theorem le27 : lends 27 = false := nr rfl
theorem le28 : lends 28 = false := nr rfl
theorem le29 : lends 29 = false := nr rfl
theorem le30 : lends 30 = false := nr rfl
theorem le31 : lends 31 = false := nr rfl
theorem le32 : lends 32 = false := nr rfl
theorem le33 : lends 33 = false := nr rfl
theorem le34 : lends 34 = false := nr rfl
theorem le35 : lends 35 = false := nr rfl
theorem le36 : lends 36 = false := nr rfl
theorem le37 : lends 37 = false := nr rfl
theorem le38 : lends 38 = false := nr rfl
theorem le39 : lends 39 = false := nr rfl
theorem le40 : lends 40 = false := nr rfl
theorem le41 : lends 41 = false := nr rfl
theorem le42 : lends 42 = true := nr rfl
theorem le43 : lends 43 = false := nr rfl
theorem le44 : lends 44 = false := nr rfl
theorem le45 : lends 45 = false := nr rfl
theorem le46 : lends 46 = false := nr rfl
theorem le47 : lends 47 = false := nr rfl
theorem le48 : lends 48 = false := nr rfl
theorem le49 : lends 49 = false := nr rfl
theorem le50 : lends 50 = false := nr rfl
theorem le51 : lends 51 = false := nr rfl
theorem le52 : lends 52 = false := nr rfl
theorem le53 : lends 53 = false := nr rfl
theorem le54 : lends 54 = false := nr rfl
theorem le55 : lends 55 = false := nr rfl
theorem le56 : lends 56 = false := nr rfl
theorem le57 : lends 57 = false := nr rfl
theorem le58 : lends 58 = false := nr rfl
theorem le59 : lends 59 = false := nr rfl
theorem le60 : lends 60 = false := nr rfl
theorem le61 : lends 61 = false := nr rfl
theorem le62 : lends 62 = false := nr rfl
theorem le63 : lends 63 = false := nr rfl
theorem le64 : lends 64 = false := nr rfl
theorem le65 : lends 65 = false := nr rfl
theorem le66 : lends 66 = false := nr rfl
theorem le67 : lends 67 = false := nr rfl
theorem le68 : lends 68 = false := nr rfl
theorem le69 : lends 69 = false := nr rfl
theorem le70 : lends 70 = false := nr rfl
theorem le71 : lends 71 = false := nr rfl
theorem le72 : lends 72 = false := nr rfl
theorem le73 : lends 73 = false := nr rfl
theorem le74 : lends 74 = false := nr rfl
theorem le75 : lends 75 = false := nr rfl
theorem le76 : lends 76 = false := nr rfl
theorem le77 : lends 77 = false := nr rfl
theorem le78 : lends 78 = false := nr rfl
theorem le79 : lends 79 = false := nr rfl
theorem le80 : lends 80 = false := nr rfl
theorem le81 : lends 81 = false := nr rfl
theorem le82 : lends 82 = false := nr rfl
theorem le83 : lends 83 = false := nr rfl
theorem le84 : lends 84 = false := nr rfl
theorem le85 : lends 85 = false := nr rfl
theorem le86 : lends 86 = false := nr rfl
theorem le87 : lends 87 = false := nr rfl
theorem le88 : lends 88 = false := nr rfl
theorem le89 : lends 89 = false := nr rfl
theorem le90 : lends 90 = false := nr rfl
theorem le91 : lends 91 = false := nr rfl
theorem le92 : lends 92 = false := nr rfl
theorem le93 : lends 93 = false := nr rfl
theorem le94 : lends 94 = false := nr rfl
theorem le95 : lends 95 = false := nr rfl
theorem le96 : lends 96 = false := nr rfl
theorem le97 : lends 97 = false := nr rfl
theorem le98 : lends 98 = false := nr rfl
theorem le99 : lends 99 = false := nr rfl
theorem le100 : lends 100 = false := nr rfl
theorem le101 : lends 101 = false := nr rfl
theorem le102 : lends 102 = false := nr rfl
theorem le103 : lends 103 = false := nr rfl
theorem le104 : lends 104 = false := nr rfl
theorem le105 : lends 105 = false := nr rfl
theorem le106 : lends 106 = false := nr rfl
theorem le107 : lends 107 = false := nr rfl
theorem le108 : lends 108 = false := nr rfl
theorem le109 : lends 109 = false := nr rfl
theorem le110 : lends 110 = false := nr rfl
theorem le111 : lends 111 = true := nr rfl
theorem le112 : lends 112 = false := nr rfl
theorem le113 : lends 113 = false := nr rfl
theorem le114 : lends 114 = false := nr rfl
theorem le115 : lends 115 = false := nr rfl
theorem le116 : lends 116 = false := nr rfl
theorem le117 : lends 117 = false := nr rfl
theorem le118 : lends 118 = false := nr rfl
theorem le119 : lends 119 = false := nr rfl
theorem le120 : lends 120 = false := nr rfl
theorem le121 : lends 121 = false := nr rfl
theorem le122 : lends 122 = false := nr rfl
theorem le123 : lends 123 = false := nr rfl
theorem le124 : lends 124 = false := nr rfl
theorem le125 : lends 125 = false := nr rfl
theorem le126 : lends 126 = false := nr rfl
theorem le127 : lends 127 = false := nr rfl
theorem le128 : lends 128 = false := nr rfl
theorem le129 : lends 129 = false := nr rfl
theorem le130 : lends 130 = false := nr rfl
theorem le131 : lends 131 = false := nr rfl
theorem le132 : lends 132 = false := nr rfl
theorem le133 : lends 133 = false := nr rfl
theorem le134 : lends 134 = false := nr rfl
theorem le135 : lends 135 = false := nr rfl
theorem le136 : lends 136 = false := nr rfl
theorem le137 : lends 137 = false := nr rfl
theorem le138 : lends 138 = false := nr rfl
theorem le139 : lends 139 = false := nr rfl
theorem le140 : lends 140 = false := nr rfl
theorem le141 : lends 141 = false := nr rfl
theorem le142 : lends 142 = false := nr rfl

set_option maxRecDepth 100000 in
theorem tyOk : TyOk Try.prog tys := tyOk_of (by kernel_rfl)
theorem mixed : Try.prog.follows .mixedOrders = true := by kernel_rfl
noncomputable def Y0 : Dv.Sys := { P := Try.prog, T := tys, lends := lends, base := fun _ _ _ => none }
theorem y0Ok : Dv.Sys.Ok Y0 := ⟨tyOk, mixed, fun _ _ _ _ _ h => by cases h⟩
theorem evNf (T : Tys) (s : St) (t : TypeId) : ev T s t (.const .nilFunc) = some (.konst .nilFunc) := nr rfl
theorem evNi (T : Tys) (s : St) (t : TypeId) : ev T s t (.const .nilIface) = some (.konst .nilIface) := nr rfl
theorem evNp (T : Tys) (s : St) (t : TypeId) : ev T s t (.const (.pointer none)) = some (.konst (.pointer none)) := nr rfl
theorem y0T : Y0.T = tys := nr rfl
theorem y0L : Y0.lends = lends := nr rfl
set_option maxRecDepth 10000 in
set_option linter.defProp false in
def yset0 :=
 And.intro @y0T (
 And.intro @y0L (
 And.intro @ty3 (
 And.intro @ty4 (
 And.intro @ty5 (
 And.intro @ty22 (
 And.intro @ty24 (
 And.intro @ty28 (
 And.intro @ty32 (
 And.intro @ty67 (
 And.intro @ty81 (
 And.intro @ty82 (
 And.intro @ty84 (
 And.intro @ty87 (
 And.intro @ty89 (
 And.intro @ty97 (
 And.intro @ty103 (
 And.intro @ty105 (
 And.intro @ty106 (
 And.intro @ty110 (
 And.intro @kn3 (
 And.intro @st3 (
 And.intro @sz3 (
 And.intro @zr3 (
 And.intro @kn4 (
 And.intro @st4 (
 And.intro @sz4 (
 And.intro @zr4 (
 And.intro @kn5 (
 And.intro @st5 (
 And.intro @sz5 (
 And.intro @zr5 (
 And.intro @kn22 (
 And.intro @st22 (
 And.intro @sz22 (
 And.intro @zr22 (
 And.intro @kn24 (
 And.intro @st24 (
 And.intro @sz24 (
 And.intro @zr24 (
 And.intro @kn28 (
 And.intro @st28 (
 And.intro @sz28 (
 And.intro @zr28 (
 And.intro @kn32 (
 And.intro @st32 (
 And.intro @sz32 (
 And.intro @zr32 (
 And.intro @kn67 (
 And.intro @st67 (
 And.intro @sz67 (
 And.intro @zr67 (
 And.intro @kn81 (
 And.intro @st81 (
 And.intro @sz81 (
 And.intro @zr81 (
 And.intro @kn82 (
 And.intro @st82 (
 And.intro @sz82 (
 And.intro @zr82 (
 And.intro @kn84 (
 And.intro @st84 (
 And.intro @sz84 (
 And.intro @zr84 (
 And.intro @kn87 (
 And.intro @st87 (
 And.intro @sz87 (
 And.intro @zr87 (
 And.intro @kn89 (
 And.intro @st89 (
 And.intro @sz89 (
 And.intro @zr89 (
 And.intro @kn97 (
 And.intro @st97 (
 And.intro @sz97 (
 And.intro @zr97 (
 And.intro @kn103 (
 And.intro @st103 (
 And.intro @sz103 (
 And.intro @zr103 (
 And.intro @kn105 (
 And.intro @st105 (
 And.intro @sz105 (
 And.intro @zr105 (
 And.intro @kn106 (
 And.intro @st106 (
 And.intro @sz106 (
 And.intro @zr106 (
 And.intro @kn110 (
 And.intro @st110 (
 And.intro @sz110 (
 And.intro @zr110 (
 And.intro @zo3 (
 And.intro @zo4 (
 And.intro @zo5 (
 And.intro @zo22 (
 And.intro @zo32 (
 And.intro @zo67 (
 And.intro @zo81 (
 And.intro @zo82 (
 And.intro @zo84 (
 And.intro @zo87 (
 And.intro @zo89 (
 And.intro @zo97 (
 And.intro @zo103 (
 And.intro @zo105 (
 And.intro @zo106 (
 And.intro @zo110 (
 And.intro @le3 (
 And.intro @le4 (
 And.intro @le5 (
 And.intro @le6 (
 And.intro @le7 (
 And.intro @le8 (
 And.intro @le9 (
 And.intro @le10 (
 And.intro @le11 (
 And.intro @le12 (
 And.intro @le13 (
 And.intro @le14 (
 And.intro @le15 (
 And.intro @le16 (
 And.intro @le17 (
 And.intro @le18 (
 And.intro @le19 (
 And.intro @le20 (
 And.intro @le21 (
 And.intro @le22 (
 And.intro @le23 (
 And.intro @le24 (
 And.intro @le25 (
 And.intro @le26 (
 And.intro @le27 (
 And.intro @le28 (
 And.intro @le29 (
 And.intro @le30 (
 And.intro @le31 (
 And.intro @le32 (
 And.intro @le33 (
 And.intro @le34 (
 And.intro @le35 (
 And.intro @le36 (
 And.intro @le37 (
 And.intro @le38 (
 And.intro @le39 (
 And.intro @le40 (
 And.intro @le41 (
 And.intro @le42 (
 And.intro @le43 (
 And.intro @le44 (
 And.intro @le45 (
 And.intro @le46 (
 And.intro @le47 (
 And.intro @le48 (
 And.intro @le49 (
 And.intro @le50 (
 And.intro @le51 (
 And.intro @le52 (
 And.intro @le53 (
 And.intro @le54 (
 And.intro @le55 (
 And.intro @le56 (
 And.intro @le57 (
 And.intro @le58 (
 And.intro @le59 (
 And.intro @le60 (
 And.intro @le61 (
 And.intro @le62 (
 And.intro @le63 (
 And.intro @le64 (
 And.intro @le65 (
 And.intro @le66 (
 And.intro @le67 (
 And.intro @le68 (
 And.intro @le69 (
 And.intro @le70 (
 And.intro @le71 (
 And.intro @le72 (
 And.intro @le73 (
 And.intro @le74 (
 And.intro @le75 (
 And.intro @le76 (
 And.intro @le77 (
 And.intro @le78 (
 And.intro @le79 (
 And.intro @le80 (
 And.intro @le81 (
 And.intro @le82 (
 And.intro @le83 (
 And.intro @le84 (
 And.intro @le85 (
 And.intro @le86 (
 And.intro @le87 (
 And.intro @le88 (
 And.intro @le89 (
 And.intro @le90 (
 And.intro @le91 (
 And.intro @le92 (
 And.intro @le93 (
 And.intro @le94 (
 And.intro @le95 (
 And.intro @le96 (
 And.intro @le97 (
 And.intro @le98 (
 And.intro @le99 (
 And.intro @le100 (
 And.intro @le101 (
 And.intro @le102 (
 And.intro @le103 (
 And.intro @le104 (
 And.intro @le105 (
 And.intro @le106 (
 And.intro @le107 (
 And.intro @le108 (
 And.intro @le109 (
 And.intro @le110 (
 And.intro @le111 (
 And.intro @le112 (
 And.intro @le113 (
 And.intro @le114 (
 And.intro @le115 (
 And.intro @le116 (
 And.intro @le117 (
 And.intro @le118 (
 And.intro @le119 (
 And.intro @le120 (
 And.intro @le121 (
 And.intro @le122 (
 And.intro @le123 (
 And.intro @le124 (
 And.intro @le125 (
 And.intro @le126 (
 And.intro @le127 (
 And.intro @le128 (
 And.intro @le129 (
 And.intro @le130 (
 And.intro @le131 (
 And.intro @le132 (
 And.intro @le133 (
 And.intro @le134 (
 And.intro @le135 (
 And.intro @le136 (
 And.intro @le137 (
 And.intro @le138 (
 And.intro @le139 (
 And.intro @le140 (
 And.intro @le141 (@le142)))))))))))))))))))))))))))))))))))))))))))))))))))))))))))))))))))))))))))))))))))))))))))))))))))))))))))))))))))))))))))))))))))))))))))))))))))))))))))))))))))))))))))))))))))))))))))))))))))))))))))))))))))))))))))))))))))))))))))))))))))))))
/-- slices.Clone[[]int,int] -/
def k67 : SC :=
  .seq
    (.ops [
      ⟨(some 2), (Op.assign (Operand.const (Value.slice none 0 0))), 32, none⟩])
    (.seq
      (.seq
        (.ops [
          ⟨(some 3), (Op.move (Operand.tmp 0)), 32, none⟩,
          ⟨(some 4), (Op.binOp BinOp.eql 32 (Operand.tmp 3) (Operand.const (Value.slice none 0 0)) 32), 4, none⟩])
        (.cond (Operand.tmp 4)
          (.seq
            (.ops [
              ⟨(some 2), (Op.assign (Operand.const (Value.slice none 0 0))), 32, none⟩])
            .ret)
          .skip))
      (.seq
        (.ops [
          ⟨(some 5), (Op.buildSlice 32 0 #[]), 32, none⟩,
          ⟨(some 6), (Op.move (Operand.tmp 0)), 32, none⟩,
          ⟨(some 7), (Op.call { callee := (Callee.builtin Builtin.append), args := #[(Operand.tmp 5), (Operand.tmp 6)], argTypes := #[32, 32] }), 32, none⟩,
          ⟨(some 2), (Op.assign (Operand.tmp 7)), 32, none⟩])
        .ret))
theorem slim67 : Try.f67.body.map (slim lends) = some k67 := by kernel_rfl
theorem ok67 : fnOk Try.f67 1 = true := by kernel_rfl
theorem clone0_67 (A : Option Addr) (c : Nat) : Y0.call 67 [.konst (.slice A 0 c)] [] = some (.own 3 [], []) := by
  refine call_slim (Y := Y0) rfl Try.func67 ok67 slim67 ?_
  show wpD Y0.env k67 (fin tys 0 [ResultVar.tmp 2] _) _
  unfold k67
  cases A <;> simp only [↓xpre, xpost, yset0, implies_true, Option.bind_some, Option.map_some, Option.isSome_some, ↓reduceIte, Nat.reduceEqDiff, Nat.reduceLT, Nat.reduceLeDiff, Nat.reduceAdd, Nat.reduceMul, Nat.reduceMod, Nat.reduceSub, List.contains_cons, List.contains_nil, Nat.reduceBEq, List.getD_cons_zero, List.getD_cons_succ, List.getD_nil, List.length_cons, List.length_nil, List.size_toArray, List.toList_toArray, List.zip_cons_cons, List.zip_nil_left, List.append_nil, List.nil_append, List.cons_append, List.map_cons, List.map_nil, List.replicate_succ, List.replicate_zero, List.set_cons_zero, List.set_cons_succ, List.set_set, List.all_cons, List.any_cons, List.any_nil, List.all_nil, List.getElem?_cons_zero, List.getElem?_cons_succ, List.getElem?_nil, List.range_zero, beq_self_eq_true, Int.reduceLE, Int.reduceLT, Int.reduceEq, Int.reduceSub, Int.reduceAdd, Int.reduceToNat, Int.reduceNeg, Option.isNone_none, Option.isNone_some]
theorem hook67 : Dv.Good Try.prog tys 67 [.sl 3 []] [] (.own 3 []) [] := good_empty kn3 (fun A c => Dv.Sys.call_good y0Ok (clone0_67 A c))
/-- Calls that are known by other means. -/
def hooks (f : FuncId) (a l : List D) : Option (D × List D) :=
  match f, a, l with
  | 67, [.sl 3 []], [] => some (.own 3 [], [])
  | _, _, _ => none
theorem hooksOk : ∀ f a l r outs, hooks f a l = some (r, outs) → Dv.Good Try.prog tys f a l r outs := by
  intro f a l r outs h
  unfold hooks at h
  split at h
  · simp only [Option.some.injEq, Prod.mk.injEq] at h; obtain ⟨rfl, rfl⟩ := h; exact hook67
  · cases h
theorem sortGood : ∀ zs : List Int, zs.length < 4611686018427387904 → Dv.Good Try.prog tys 111 [.vw [100000] 0 0] [.own 3 (ints zs)] (.tup []) [.own 3 (ints (sortM zs))] := fun zs h =>
  good_sort ⟨Try.f111, Try.func111, rfl, by decide⟩ sz3 (fun blk off cap zs w h1 h2 h3 => Try.slices_Sort_int blk off cap zs w h1 h2 h3) (fun p cap w => Try.slices_Sort_int_none p cap w) zs h
theorem sortedGood : ∀ zs : List Int, zs.length < 1099511627776 → Dv.Good Try.prog tys 101 [.clo 112 [.cptr [.sl 3 (ints zs)]]] [] (.own 3 (ints (sortM zs))) [] := fun zs h =>
  good_sorted ⟨Try.f101, Try.func101, rfl, by decide⟩ sz3
    (fun p ad cap w h1 h2 => callsIn_wide.1 (Go.Proofs.sv.sorted_in 5 (Nat.le_refl _) p _ [] (by decide) (by decide) w h1 h2 (.inl ⟨ad, cap, rfl, rfl⟩)))
    (fun p b off cap zs w h0 h1 h2 h3 h4 => callsIn_wide.1 (Go.Proofs.sv.sorted_in 5 (Nat.le_refl _) p _ zs (by have : maxLen = 9223372036854775807 := rfl; omega) (by omega) w h1 h2 (.inr ⟨b, off, cap, rfl, h3, h4⟩))) zs h
noncomputable def Y : Dv.Sys := { P := Try.prog, T := tys, lends := lends, base := orHook (orHook hooks (sortHook 111 3)) (sortedHook 101 112 3) }
theorem yOk : Dv.Sys.Ok Y := ⟨tyOk, mixed, orHook_good (orHook_good hooksOk (sortHook_good sortGood)) (sortedHook_good sortedGood)⟩
theorem yT : Y.T = tys := nr rfl
theorem yL : Y.lends = lends := nr rfl
set_option maxRecDepth 10000 in
set_option linter.defProp false in
def yset :=
 And.intro @yT (
 And.intro @yL (
 And.intro @evNf (
 And.intro @evNi (
 And.intro @evNp (
 And.intro @ty3 (
 And.intro @ty4 (
 And.intro @ty5 (
 And.intro @ty22 (
 And.intro @ty24 (
 And.intro @ty28 (
 And.intro @ty32 (
 And.intro @ty67 (
 And.intro @ty81 (
 And.intro @ty82 (
 And.intro @ty84 (
 And.intro @ty87 (
 And.intro @ty89 (
 And.intro @ty97 (
 And.intro @ty103 (
 And.intro @ty105 (
 And.intro @ty106 (
 And.intro @ty110 (
 And.intro @kn3 (
 And.intro @st3 (
 And.intro @sz3 (
 And.intro @zr3 (
 And.intro @kn4 (
 And.intro @st4 (
 And.intro @sz4 (
 And.intro @zr4 (
 And.intro @kn5 (
 And.intro @st5 (
 And.intro @sz5 (
 And.intro @zr5 (
 And.intro @kn22 (
 And.intro @st22 (
 And.intro @sz22 (
 And.intro @zr22 (
 And.intro @kn24 (
 And.intro @st24 (
 And.intro @sz24 (
 And.intro @zr24 (
 And.intro @kn28 (
 And.intro @st28 (
 And.intro @sz28 (
 And.intro @zr28 (
 And.intro @kn32 (
 And.intro @st32 (
 And.intro @sz32 (
 And.intro @zr32 (
 And.intro @kn67 (
 And.intro @st67 (
 And.intro @sz67 (
 And.intro @zr67 (
 And.intro @kn81 (
 And.intro @st81 (
 And.intro @sz81 (
 And.intro @zr81 (
 And.intro @kn82 (
 And.intro @st82 (
 And.intro @sz82 (
 And.intro @zr82 (
 And.intro @kn84 (
 And.intro @st84 (
 And.intro @sz84 (
 And.intro @zr84 (
 And.intro @kn87 (
 And.intro @st87 (
 And.intro @sz87 (
 And.intro @zr87 (
 And.intro @kn89 (
 And.intro @st89 (
 And.intro @sz89 (
 And.intro @zr89 (
 And.intro @kn97 (
 And.intro @st97 (
 And.intro @sz97 (
 And.intro @zr97 (
 And.intro @kn103 (
 And.intro @st103 (
 And.intro @sz103 (
 And.intro @zr103 (
 And.intro @kn105 (
 And.intro @st105 (
 And.intro @sz105 (
 And.intro @zr105 (
 And.intro @kn106 (
 And.intro @st106 (
 And.intro @sz106 (
 And.intro @zr106 (
 And.intro @kn110 (
 And.intro @st110 (
 And.intro @sz110 (
 And.intro @zr110 (
 And.intro @zo3 (
 And.intro @zo4 (
 And.intro @zo5 (
 And.intro @zo22 (
 And.intro @zo32 (
 And.intro @zo67 (
 And.intro @zo81 (
 And.intro @zo82 (
 And.intro @zo84 (
 And.intro @zo87 (
 And.intro @zo89 (
 And.intro @zo97 (
 And.intro @zo103 (
 And.intro @zo105 (
 And.intro @zo106 (
 And.intro @zo110 (
 And.intro @le3 (
 And.intro @le4 (
 And.intro @le5 (
 And.intro @le6 (
 And.intro @le7 (
 And.intro @le8 (
 And.intro @le9 (
 And.intro @le10 (
 And.intro @le11 (
 And.intro @le12 (
 And.intro @le13 (
 And.intro @le14 (
 And.intro @le15 (
 And.intro @le16 (
 And.intro @le17 (
 And.intro @le18 (
 And.intro @le19 (
 And.intro @le20 (
 And.intro @le21 (
 And.intro @le22 (
 And.intro @le23 (
 And.intro @le24 (
 And.intro @le25 (
 And.intro @le26 (
 And.intro @le27 (
 And.intro @le28 (
 And.intro @le29 (
 And.intro @le30 (
 And.intro @le31 (
 And.intro @le32 (
 And.intro @le33 (
 And.intro @le34 (
 And.intro @le35 (
 And.intro @le36 (
 And.intro @le37 (
 And.intro @le38 (
 And.intro @le39 (
 And.intro @le40 (
 And.intro @le41 (
 And.intro @le42 (
 And.intro @le43 (
 And.intro @le44 (
 And.intro @le45 (
 And.intro @le46 (
 And.intro @le47 (
 And.intro @le48 (
 And.intro @le49 (
 And.intro @le50 (
 And.intro @le51 (
 And.intro @le52 (
 And.intro @le53 (
 And.intro @le54 (
 And.intro @le55 (
 And.intro @le56 (
 And.intro @le57 (
 And.intro @le58 (
 And.intro @le59 (
 And.intro @le60 (
 And.intro @le61 (
 And.intro @le62 (
 And.intro @le63 (
 And.intro @le64 (
 And.intro @le65 (
 And.intro @le66 (
 And.intro @le67 (
 And.intro @le68 (
 And.intro @le69 (
 And.intro @le70 (
 And.intro @le71 (
 And.intro @le72 (
 And.intro @le73 (
 And.intro @le74 (
 And.intro @le75 (
 And.intro @le76 (
 And.intro @le77 (
 And.intro @le78 (
 And.intro @le79 (
 And.intro @le80 (
 And.intro @le81 (
 And.intro @le82 (
 And.intro @le83 (
 And.intro @le84 (
 And.intro @le85 (
 And.intro @le86 (
 And.intro @le87 (
 And.intro @le88 (
 And.intro @le89 (
 And.intro @le90 (
 And.intro @le91 (
 And.intro @le92 (
 And.intro @le93 (
 And.intro @le94 (
 And.intro @le95 (
 And.intro @le96 (
 And.intro @le97 (
 And.intro @le98 (
 And.intro @le99 (
 And.intro @le100 (
 And.intro @le101 (
 And.intro @le102 (
 And.intro @le103 (
 And.intro @le104 (
 And.intro @le105 (
 And.intro @le106 (
 And.intro @le107 (
 And.intro @le108 (
 And.intro @le109 (
 And.intro @le110 (
 And.intro @le111 (
 And.intro @le112 (
 And.intro @le113 (
 And.intro @le114 (
 And.intro @le115 (
 And.intro @le116 (
 And.intro @le117 (
 And.intro @le118 (
 And.intro @le119 (
 And.intro @le120 (
 And.intro @le121 (
 And.intro @le122 (
 And.intro @le123 (
 And.intro @le124 (
 And.intro @le125 (
 And.intro @le126 (
 And.intro @le127 (
 And.intro @le128 (
 And.intro @le129 (
 And.intro @le130 (
 And.intro @le131 (
 And.intro @le132 (
 And.intro @le133 (
 And.intro @le134 (
 And.intro @le135 (
 And.intro @le136 (
 And.intro @le137 (
 And.intro @le138 (
 And.intro @le139 (
 And.intro @le140 (
 And.intro @le141 (@le142))))))))))))))))))))))))))))))))))))))))))))))))))))))))))))))))))))))))))))))))))))))))))))))))))))))))))))))))))))))))))))))))))))))))))))))))))))))))))))))))))))))))))))))))))))))))))))))))))))))))))))))))))))))))))))))))))))))))))))))))))))))))))
theorem sorted_101 (zs : List Int) (h : zs.length < 1099511627776) : Y.call 101 [.clo 112 [.cptr [.sl 3 (lst (D.int .i64) zs)]]] [] = some (.own 3 (lst (D.int .i64) (sortM zs)), []) := Dv.Sys.call_base (sortedHook_eq 101 112 3 zs h)
theorem sort_111 (zs : List Int) (h : zs.length < 4611686018427387904) : Y.call 111 [.vw [100000] 0 0] [.own 3 (lst (D.int .i64) zs)] = some (.tup [], [.own 3 (lst (D.int .i64) (sortM zs))]) := Dv.Sys.call_base (orHook_left (sortHook_eq 111 3 zs h))
theorem clone_67 (xs : List D) (h : xs.length < 1099511627776) (hs : xs.all solid = true) (ho : hasObjs xs = false) (hf : (frz (.own 3 xs)).isSome = true) : Y.call 67 [.sl 3 xs] [] = some (.own 3 xs, []) := by
  cases xs with
  | nil => exact Dv.Sys.call_base rfl
  | cons x xs =>
    refine call_slim (Y := Y) rfl Try.func67 ok67 slim67 ?_
    show wpD Y.env k67 (fin tys 0 [ResultVar.tmp 2] _) _
    unfold k67
    have h0 : 0 + (x :: xs).length < 1099511627776 := by omega
    simp only [List.length_cons, Nat.zero_add] at h0
    simp only [List.all_cons, hosCons] at hs ho
    simp only [↓xpre, xpost, yset, implies_true, Option.bind_some, Option.map_some, Option.isSome_some, ↓reduceIte, Nat.reduceEqDiff, Nat.reduceLT, Nat.reduceLeDiff, Nat.reduceAdd, Nat.reduceMul, Nat.reduceMod, Nat.reduceSub, List.contains_cons, List.contains_nil, Nat.reduceBEq, List.getD_cons_zero, List.getD_cons_succ, List.getD_nil, List.length_cons, List.length_nil, List.size_toArray, List.toList_toArray, List.zip_cons_cons, List.zip_nil_left, List.append_nil, List.nil_append, List.cons_append, List.map_cons, List.map_nil, List.replicate_succ, List.replicate_zero, List.set_cons_zero, List.set_cons_succ, List.set_set, List.all_cons, List.any_cons, List.any_nil, List.all_nil, List.getElem?_cons_zero, List.getElem?_cons_succ, List.getElem?_nil, List.range_zero, beq_self_eq_true, Int.reduceLE, Int.reduceLT, Int.reduceEq, Int.reduceSub, Int.reduceAdd, Int.reduceToNat, Int.reduceNeg, Nat.zero_add, h0, hs, ho]
    simp only [fzOwn, fzsCons] at hf
    rw [if_pos hf]
end Go.Proofs.Ytjlphfbpaejicaa
