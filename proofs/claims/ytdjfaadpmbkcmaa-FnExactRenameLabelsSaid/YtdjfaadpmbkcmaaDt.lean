/- The types of this seat as data, and the system of its calls. Conditions: none. -/
import Derived.Test.YtdjfaadpmbkcmaaRows
import Derived.Test.YtdjfaadpmbkcmaaL6
import Derived.Test.YtdjfaadpmbkcmaaSv
import Derived.Test.YtdjfaadpmbkcmaaSf
import Derived.KernelRfl
namespace Go.Proofs.Ytdjfaadpmbkcmaa
open Go Dv
set_option linter.unusedSimpArgs false
set_option maxRecDepth 100000

def tab : List Ty := [.other, .func, .int .i64, .int .i64, .bool, .int .u8, .int .u8, .struct [2, 3, 4, 6], .struct [2, 3, 4, 6], .string, .string, .string, .int .u64, .struct [9, 12], .struct [9, 12], .ptr, .ptr, .ptr, .struct [17], .struct [17], .other, .int .i32, .slice 33, .struct [3, 3, 22, 22], .struct [3, 3, 22, 22], .func, .struct [3, 3, 22, 22], .other, .func, .func, .func, .func, .func, .slice 3, .func, .func, .func, .func, .func, .other, .func, .func, .func, .func, .func, .other, .func, .func, .func, .func, .func, .func, .func, .func, .func, .func, .other, .other, .func, .ptr, .other, .other, .func, .slice 4, .func, .other, .other, .func, .func, .func, .func, .func, .func, .func, .func, .func, .func, .func, .func, .func, .func, .func, .other, .func, .func, .func, .func, .func, .func, .func, .func, .func, .int .u64, .func, .func, .other, .func, .func, .func, .func, .func, .func, .int .i64, .other, .func, .func, .func, .func, .int .u32, .func, .int .u64, .func, .other, .func, .other, .func, .func, .func, .int .u64, .func, .func, .func, .ptr, .func, .func, .func, .func, .func, .func, .ptr, .other, .func, .func, .func, .func, .func, .struct [17, 17, 17, 9], .struct [17, 17, 17, 9], .other, .other, .other, .func, .int .u8, .int .u8, .func, .ptr, .int .i32, .int .i32, .struct [12, 12, 108, 142, 5, 5, 143, 144, 145, 146, 147], .struct [12, 12, 108, 142, 5, 5, 143, 144, 145, 146, 147]]
def tys : Tys := tysOf tab
def lends (f : FuncId) : Bool := [13, 19, 39, 62, 73, 74, 98, 99].contains f

theorem ty1 : tys.ty 1 = .func := nr rfl
theorem ty2 : tys.ty 2 = .int .i64 := nr rfl
theorem ty3 : tys.ty 3 = .int .i64 := nr rfl
theorem kn3 : tys.known 3 = true := nr rfl
theorem st3 : tys.isStruct 3 = false := nr rfl
theorem zr3 : tys.zeros 3 = [.int .i64 0] := nr rfl
theorem zo3 : tys.zero1 3 = .int .i64 0 := nr rfl
theorem sz3 : tys.size 3 = 1 := nr rfl
theorem ty4 : tys.ty 4 = .bool := nr rfl
theorem kn4 : tys.known 4 = true := nr rfl
theorem st4 : tys.isStruct 4 = false := nr rfl
theorem zr4 : tys.zeros 4 = [.bool false] := nr rfl
theorem zo4 : tys.zero1 4 = .bool false := nr rfl
theorem sz4 : tys.size 4 = 1 := nr rfl
theorem ty5 : tys.ty 5 = .int .u8 := nr rfl
theorem kn5 : tys.known 5 = true := nr rfl
theorem st5 : tys.isStruct 5 = false := nr rfl
theorem zr5 : tys.zeros 5 = [.int .u8 0] := nr rfl
theorem zo5 : tys.zero1 5 = .int .u8 0 := nr rfl
theorem sz5 : tys.size 5 = 1 := nr rfl
theorem ty6 : tys.ty 6 = .int .u8 := nr rfl
theorem ty7 : tys.ty 7 = .struct [2, 3, 4, 6] := nr rfl
theorem ty8 : tys.ty 8 = .struct [2, 3, 4, 6] := nr rfl
theorem ty9 : tys.ty 9 = .string := nr rfl
theorem ty10 : tys.ty 10 = .string := nr rfl
theorem ty11 : tys.ty 11 = .string := nr rfl
theorem ty12 : tys.ty 12 = .int .u64 := nr rfl
theorem ty13 : tys.ty 13 = .struct [9, 12] := nr rfl
theorem ty14 : tys.ty 14 = .struct [9, 12] := nr rfl
theorem ty15 : tys.ty 15 = .ptr := nr rfl
theorem ty16 : tys.ty 16 = .ptr := nr rfl
theorem ty17 : tys.ty 17 = .ptr := nr rfl
theorem ty18 : tys.ty 18 = .struct [17] := nr rfl
theorem ty19 : tys.ty 19 = .struct [17] := nr rfl
theorem ty21 : tys.ty 21 = .int .i32 := nr rfl
theorem ty22 : tys.ty 22 = .slice 33 := nr rfl
theorem kn22 : tys.known 22 = true := nr rfl
theorem st22 : tys.isStruct 22 = false := nr rfl
theorem zr22 : tys.zeros 22 = [.own 33 []] := nr rfl
theorem zo22 : tys.zero1 22 = .own 33 [] := nr rfl
theorem sz22 : tys.size 22 = 1 := nr rfl
theorem ty23 : tys.ty 23 = .struct [3, 3, 22, 22] := nr rfl
theorem ty24 : tys.ty 24 = .struct [3, 3, 22, 22] := nr rfl
theorem kn24 : tys.known 24 = true := nr rfl
theorem st24 : tys.isStruct 24 = true := nr rfl
theorem zr24 : tys.zeros 24 = [.int .i64 0, .int .i64 0, .own 33 [], .own 33 []] := nr rfl
theorem sz24 : tys.size 24 = 4 := nr rfl
theorem ty25 : tys.ty 25 = .func := nr rfl
theorem ty26 : tys.ty 26 = .struct [3, 3, 22, 22] := nr rfl
theorem kn26 : tys.known 26 = true := nr rfl
theorem st26 : tys.isStruct 26 = true := nr rfl
theorem zr26 : tys.zeros 26 = [.int .i64 0, .int .i64 0, .own 33 [], .own 33 []] := nr rfl
theorem sz26 : tys.size 26 = 4 := nr rfl
theorem ty28 : tys.ty 28 = .func := nr rfl
theorem ty29 : tys.ty 29 = .func := nr rfl
theorem ty30 : tys.ty 30 = .func := nr rfl
theorem ty31 : tys.ty 31 = .func := nr rfl
theorem ty32 : tys.ty 32 = .func := nr rfl
theorem ty33 : tys.ty 33 = .slice 3 := nr rfl
theorem kn33 : tys.known 33 = true := nr rfl
theorem st33 : tys.isStruct 33 = false := nr rfl
theorem zr33 : tys.zeros 33 = [.own 3 []] := nr rfl
theorem zo33 : tys.zero1 33 = .own 3 [] := nr rfl
theorem sz33 : tys.size 33 = 1 := nr rfl
theorem ty34 : tys.ty 34 = .func := nr rfl
theorem ty35 : tys.ty 35 = .func := nr rfl
theorem ty36 : tys.ty 36 = .func := nr rfl
theorem kn36 : tys.known 36 = true := nr rfl
theorem st36 : tys.isStruct 36 = false := nr rfl
theorem zr36 : tys.zeros 36 = [.konst .nilFunc] := nr rfl
theorem zo36 : tys.zero1 36 = .konst .nilFunc := nr rfl
theorem sz36 : tys.size 36 = 1 := nr rfl
theorem ty37 : tys.ty 37 = .func := nr rfl
theorem ty38 : tys.ty 38 = .func := nr rfl
theorem ty40 : tys.ty 40 = .func := nr rfl
theorem ty41 : tys.ty 41 = .func := nr rfl
theorem ty42 : tys.ty 42 = .func := nr rfl
theorem ty43 : tys.ty 43 = .func := nr rfl
theorem ty44 : tys.ty 44 = .func := nr rfl
theorem ty46 : tys.ty 46 = .func := nr rfl
theorem ty47 : tys.ty 47 = .func := nr rfl
theorem ty48 : tys.ty 48 = .func := nr rfl
theorem kn48 : tys.known 48 = true := nr rfl
theorem st48 : tys.isStruct 48 = false := nr rfl
theorem zr48 : tys.zeros 48 = [.konst .nilFunc] := nr rfl
theorem zo48 : tys.zero1 48 = .konst .nilFunc := nr rfl
theorem sz48 : tys.size 48 = 1 := nr rfl
theorem ty49 : tys.ty 49 = .func := nr rfl
theorem ty50 : tys.ty 50 = .func := nr rfl
theorem ty51 : tys.ty 51 = .func := nr rfl
theorem ty52 : tys.ty 52 = .func := nr rfl
theorem ty53 : tys.ty 53 = .func := nr rfl
theorem ty54 : tys.ty 54 = .func := nr rfl
theorem ty55 : tys.ty 55 = .func := nr rfl
theorem ty58 : tys.ty 58 = .func := nr rfl
theorem ty59 : tys.ty 59 = .ptr := nr rfl
theorem kn59 : tys.known 59 = true := nr rfl
theorem st59 : tys.isStruct 59 = false := nr rfl
theorem zr59 : tys.zeros 59 = [.konst (.pointer none)] := nr rfl
theorem zo59 : tys.zero1 59 = .konst (.pointer none) := nr rfl
theorem sz59 : tys.size 59 = 1 := nr rfl
theorem ty62 : tys.ty 62 = .func := nr rfl
theorem ty63 : tys.ty 63 = .slice 4 := nr rfl
theorem kn63 : tys.known 63 = true := nr rfl
theorem st63 : tys.isStruct 63 = false := nr rfl
theorem zr63 : tys.zeros 63 = [.own 4 []] := nr rfl
theorem zo63 : tys.zero1 63 = .own 4 [] := nr rfl
theorem sz63 : tys.size 63 = 1 := nr rfl
theorem ty64 : tys.ty 64 = .func := nr rfl
theorem ty67 : tys.ty 67 = .func := nr rfl
theorem ty68 : tys.ty 68 = .func := nr rfl
theorem ty69 : tys.ty 69 = .func := nr rfl
theorem ty70 : tys.ty 70 = .func := nr rfl
theorem ty71 : tys.ty 71 = .func := nr rfl
theorem ty72 : tys.ty 72 = .func := nr rfl
theorem ty73 : tys.ty 73 = .func := nr rfl
theorem ty74 : tys.ty 74 = .func := nr rfl
theorem ty75 : tys.ty 75 = .func := nr rfl
theorem ty76 : tys.ty 76 = .func := nr rfl
theorem ty77 : tys.ty 77 = .func := nr rfl
theorem ty78 : tys.ty 78 = .func := nr rfl
theorem ty79 : tys.ty 79 = .func := nr rfl
theorem ty80 : tys.ty 80 = .func := nr rfl
theorem ty81 : tys.ty 81 = .func := nr rfl
theorem ty83 : tys.ty 83 = .func := nr rfl
theorem ty84 : tys.ty 84 = .func := nr rfl
theorem ty85 : tys.ty 85 = .func := nr rfl
theorem kn85 : tys.known 85 = true := nr rfl
theorem st85 : tys.isStruct 85 = false := nr rfl
theorem zr85 : tys.zeros 85 = [.konst .nilFunc] := nr rfl
theorem zo85 : tys.zero1 85 = .konst .nilFunc := nr rfl
theorem sz85 : tys.size 85 = 1 := nr rfl
theorem ty86 : tys.ty 86 = .func := nr rfl
theorem kn86 : tys.known 86 = true := nr rfl
theorem st86 : tys.isStruct 86 = false := nr rfl
theorem zr86 : tys.zeros 86 = [.konst .nilFunc] := nr rfl
theorem zo86 : tys.zero1 86 = .konst .nilFunc := nr rfl
theorem sz86 : tys.size 86 = 1 := nr rfl
theorem ty87 : tys.ty 87 = .func := nr rfl
theorem ty88 : tys.ty 88 = .func := nr rfl
theorem kn88 : tys.known 88 = true := nr rfl
theorem st88 : tys.isStruct 88 = false := nr rfl
theorem zr88 : tys.zeros 88 = [.konst .nilFunc] := nr rfl
theorem zo88 : tys.zero1 88 = .konst .nilFunc := nr rfl
theorem sz88 : tys.size 88 = 1 := nr rfl
theorem ty89 : tys.ty 89 = .func := nr rfl
theorem ty90 : tys.ty 90 = .func := nr rfl
theorem ty91 : tys.ty 91 = .func := nr rfl
theorem ty92 : tys.ty 92 = .int .u64 := nr rfl
theorem kn92 : tys.known 92 = true := nr rfl
theorem st92 : tys.isStruct 92 = false := nr rfl
theorem zr92 : tys.zeros 92 = [.int .u64 0] := nr rfl
theorem zo92 : tys.zero1 92 = .int .u64 0 := nr rfl
theorem sz92 : tys.size 92 = 1 := nr rfl
theorem ty93 : tys.ty 93 = .func := nr rfl
theorem ty94 : tys.ty 94 = .func := nr rfl
theorem ty96 : tys.ty 96 = .func := nr rfl
theorem ty97 : tys.ty 97 = .func := nr rfl
theorem kn97 : tys.known 97 = true := nr rfl
theorem st97 : tys.isStruct 97 = false := nr rfl
theorem zr97 : tys.zeros 97 = [.konst .nilFunc] := nr rfl
theorem zo97 : tys.zero1 97 = .konst .nilFunc := nr rfl
theorem sz97 : tys.size 97 = 1 := nr rfl
theorem ty98 : tys.ty 98 = .func := nr rfl
theorem ty99 : tys.ty 99 = .func := nr rfl
theorem ty100 : tys.ty 100 = .func := nr rfl
theorem ty101 : tys.ty 101 = .func := nr rfl
theorem ty102 : tys.ty 102 = .int .i64 := nr rfl
theorem kn102 : tys.known 102 = true := nr rfl
theorem st102 : tys.isStruct 102 = false := nr rfl
theorem zr102 : tys.zeros 102 = [.int .i64 0] := nr rfl
theorem zo102 : tys.zero1 102 = .int .i64 0 := nr rfl
theorem sz102 : tys.size 102 = 1 := nr rfl
theorem ty104 : tys.ty 104 = .func := nr rfl
theorem ty105 : tys.ty 105 = .func := nr rfl
theorem ty106 : tys.ty 106 = .func := nr rfl
theorem ty107 : tys.ty 107 = .func := nr rfl
theorem ty108 : tys.ty 108 = .int .u32 := nr rfl
theorem kn108 : tys.known 108 = true := nr rfl
theorem st108 : tys.isStruct 108 = false := nr rfl
theorem zr108 : tys.zeros 108 = [.int .u32 0] := nr rfl
theorem zo108 : tys.zero1 108 = .int .u32 0 := nr rfl
theorem sz108 : tys.size 108 = 1 := nr rfl
theorem ty109 : tys.ty 109 = .func := nr rfl
theorem ty110 : tys.ty 110 = .int .u64 := nr rfl
theorem kn110 : tys.known 110 = true := nr rfl
theorem st110 : tys.isStruct 110 = false := nr rfl
theorem zr110 : tys.zeros 110 = [.int .u64 0] := nr rfl
theorem zo110 : tys.zero1 110 = .int .u64 0 := nr rfl
theorem sz110 : tys.size 110 = 1 := nr rfl
theorem ty111 : tys.ty 111 = .func := nr rfl
theorem ty113 : tys.ty 113 = .func := nr rfl
theorem ty115 : tys.ty 115 = .func := nr rfl
theorem ty116 : tys.ty 116 = .func := nr rfl
theorem ty117 : tys.ty 117 = .func := nr rfl
theorem ty118 : tys.ty 118 = .int .u64 := nr rfl
theorem kn118 : tys.known 118 = true := nr rfl
theorem st118 : tys.isStruct 118 = false := nr rfl
theorem zr118 : tys.zeros 118 = [.int .u64 0] := nr rfl
theorem zo118 : tys.zero1 118 = .int .u64 0 := nr rfl
theorem sz118 : tys.size 118 = 1 := nr rfl
theorem ty119 : tys.ty 119 = .func := nr rfl
theorem ty120 : tys.ty 120 = .func := nr rfl
theorem ty121 : tys.ty 121 = .func := nr rfl
theorem ty122 : tys.ty 122 = .ptr := nr rfl
theorem kn122 : tys.known 122 = true := nr rfl
theorem st122 : tys.isStruct 122 = false := nr rfl
theorem zr122 : tys.zeros 122 = [.konst (.pointer none)] := nr rfl
theorem zo122 : tys.zero1 122 = .konst (.pointer none) := nr rfl
theorem sz122 : tys.size 122 = 1 := nr rfl
theorem ty123 : tys.ty 123 = .func := nr rfl
theorem ty124 : tys.ty 124 = .func := nr rfl
theorem ty125 : tys.ty 125 = .func := nr rfl
theorem ty126 : tys.ty 126 = .func := nr rfl
theorem ty127 : tys.ty 127 = .func := nr rfl
theorem ty128 : tys.ty 128 = .func := nr rfl
theorem ty129 : tys.ty 129 = .ptr := nr rfl
theorem ty131 : tys.ty 131 = .func := nr rfl
theorem ty132 : tys.ty 132 = .func := nr rfl
theorem ty133 : tys.ty 133 = .func := nr rfl
theorem ty134 : tys.ty 134 = .func := nr rfl
theorem ty135 : tys.ty 135 = .func := nr rfl
theorem ty136 : tys.ty 136 = .struct [17, 17, 17, 9] := nr rfl
theorem ty137 : tys.ty 137 = .struct [17, 17, 17, 9] := nr rfl
theorem ty141 : tys.ty 141 = .func := nr rfl
theorem ty142 : tys.ty 142 = .int .u8 := nr rfl
theorem ty143 : tys.ty 143 = .int .u8 := nr rfl
theorem ty144 : tys.ty 144 = .func := nr rfl
theorem ty145 : tys.ty 145 = .ptr := nr rfl
theorem ty146 : tys.ty 146 = .int .i32 := nr rfl
theorem ty147 : tys.ty 147 = .int .i32 := nr rfl
theorem ty148 : tys.ty 148 = .struct [12, 12, 108, 142, 5, 5, 143, 144, 145, 146, 147] := nr rfl
theorem ty149 : tys.ty 149 = .struct [12, 12, 108, 142, 5, 5, 143, 144, 145, 146, 147] := nr rfl
theorem le3 : lends 3 = false := nr rfl
theorem le4 : lends 4 = false := nr rfl
theorem le5 : lends 5 = false := nr rfl
theorem le6 : lends 6 = false := nr rfl
theorem le7 : lends 7 = false := nr rfl
theorem le8 : lends 8 = false := nr rfl
theorem le9 : lends 9 = false := nr rfl
theorem le10 : lends 10 = false := nr rfl
theorem le11 : lends 11 = false := nr rfl
theorem le12 : lends 12 = false := nr rfl
theorem le13 : lends 13 = true := nr rfl
theorem le14 : lends 14 = false := nr rfl
theorem le15 : lends 15 = false := nr rfl
theorem le16 : lends 16 = false := nr rfl
theorem le17 : lends 17 = false := nr rfl
theorem le18 : lends 18 = false := nr rfl
theorem le19 : lends 19 = true := nr rfl
theorem le20 : lends 20 = false := nr rfl
theorem le21 : lends 21 = false := nr rfl
theorem le22 : lends 22 = false := nr rfl
theorem le23 : lends 23 = false := nr rfl
theorem le24 : lends 24 = false := nr rfl
theorem le25 : lends 25 = false := nr rfl
theorem le26 : lends 26 = false := nr rfl
theorem le27 : lends 27 = false := nr rfl
theorem le28 : lends 28 = false := nr rfl
theorem le29 : lends 29 = false := nr rfl
theorem le30 : lends 30 = false := nr rfl
theorem le31 : lends 31 = false := nr rfl
theorem le32 : lends 32 = false := nr rfl
theorem le33 : lends 33 = false := nr rfl
theorem le34 : lends 34 = false := nr rfl
theorem le35 : lends 35 = false := nr rfl
theorem le36 : lends 36 = false := nr rfl
theorem le37 : lends 37 = false := nr rfl
theorem le38 : lends 38 = false := nr rfl
theorem le39 : lends 39 = true := nr rfl
theorem le40 : lends 40 = false := nr rfl
theorem le41 : lends 41 = false := nr rfl
theorem le42 : lends 42 = false := nr rfl
theorem le43 : lends 43 = false := nr rfl
theorem le44 : lends 44 = false := nr rfl
theorem le45 : lends 45 = false := nr rfl
theorem le46 : lends 46 = false := nr rfl
theorem le47 : lends 47 = false := nr rfl
theorem le48 : lends 48 = false := nr rfl
theorem le49 : lends 49 = false := nr rfl
theorem le50 : lends 50 = false := nr rfl
theorem le51 : lends 51 = false := nr rfl
theorem le52 : lends 52 = false := nr rfl
theorem le53 : lends 53 = false := nr rfl
theorem le54 : lends 54 = false := nr rfl
theorem le55 : lends 55 = false := nr rfl
theorem le56 : lends 56 = false := nr rfl
theorem le57 : lends 57 = false := nr rfl
theorem le58 : lends 58 = false := nr rfl
theorem le59 : lends 59 = false := nr rfl
theorem le60 : lends 60 = false := nr rfl
theorem le61 : lends 61 = false := nr rfl
theorem le62 : lends 62 = true := nr rfl
theorem le63 : lends 63 = false := nr rfl
theorem le64 : lends 64 = false := nr rfl
theorem le65 : lends 65 = false := nr rfl
theorem le66 : lends 66 = false := nr rfl
theorem le67 : lends 67 = false := nr rfl
theorem le68 : lends 68 = false := nr rfl
theorem le69 : lends 69 = false := nr rfl
theorem le70 : lends 70 = false := nr rfl
theorem le71 : lends 71 = false := nr rfl
theorem le72 : lends 72 = false := nr rfl
theorem le73 : lends 73 = true := nr rfl
theorem le74 : lends 74 = true := nr rfl
theorem le75 : lends 75 = false := nr rfl
theorem le76 : lends 76 = false := nr rfl
theorem le77 : lends 77 = false := nr rfl
theorem le78 : lends 78 = false := nr rfl
theorem le79 : lends 79 = false := nr rfl
theorem le80 : lends 80 = false := nr rfl
theorem le81 : lends 81 = false := nr rfl
theorem le82 : lends 82 = false := nr rfl
theorem le83 : lends 83 = false := nr rfl
theorem le84 : lends 84 = false := nr rfl
theorem le85 : lends 85 = false := nr rfl
theorem le86 : lends 86 = false := nr rfl
theorem le87 : lends 87 = false := nr rfl
theorem le88 : lends 88 = false := nr rfl
theorem le89 : lends 89 = false := nr rfl
theorem le90 : lends 90 = false := nr rfl
theorem le91 : lends 91 = false := nr rfl
theorem le92 : lends 92 = false := nr rfl
theorem le93 : lends 93 = false := nr rfl
theorem le94 : lends 94 = false := nr rfl
theorem le95 : lends 95 = false := nr rfl
theorem le96 : lends 96 = false := nr rfl
theorem le97 : lends 97 = false := nr rfl
theorem le98 : lends 98 = true := nr rfl
theorem le99 : lends 99 = true := nr rfl
theorem le100 : lends 100 = false := nr rfl
theorem le101 : lends 101 = false := nr rfl
theorem le102 : lends 102 = false := nr rfl
theorem le103 : lends 103 = false := nr rfl
theorem le104 : lends 104 = false := nr rfl
theorem le105 : lends 105 = false := nr rfl
theorem le106 : lends 106 = false := nr rfl
theorem le107 : lends 107 = false := nr rfl
theorem le108 : lends 108 = false := nr rfl
theorem le109 : lends 109 = false := nr rfl
theorem le110 : lends 110 = false := nr rfl
theorem le111 : lends 111 = false := nr rfl
theorem le112 : lends 112 = false := nr rfl
theorem le113 : lends 113 = false := nr rfl
theorem le114 : lends 114 = false := nr rfl
theorem le115 : lends 115 = false := nr rfl
theorem le116 : lends 116 = false := nr rfl
theorem le117 : lends 117 = false := nr rfl
theorem le118 : lends 118 = false := nr rfl
theorem le119 : lends 119 = false := nr rfl
theorem le120 : lends 120 = false := nr rfl
theorem le121 : lends 121 = false := nr rfl
theorem le122 : lends 122 = false := nr rfl
theorem le123 : lends 123 = false := nr rfl
theorem le124 : lends 124 = false := nr rfl
theorem le125 : lends 125 = false := nr rfl
theorem le126 : lends 126 = false := nr rfl
theorem le127 : lends 127 = false := nr rfl
theorem le128 : lends 128 = false := nr rfl
theorem le129 : lends 129 = false := nr rfl
theorem le130 : lends 130 = false := nr rfl
theorem le131 : lends 131 = false := nr rfl
theorem le132 : lends 132 = false := nr rfl
theorem le133 : lends 133 = false := nr rfl
theorem le134 : lends 134 = false := nr rfl
theorem le135 : lends 135 = false := nr rfl
theorem le136 : lends 136 = false := nr rfl
theorem le137 : lends 137 = false := nr rfl
theorem le138 : lends 138 = false := nr rfl
theorem le139 : lends 139 = false := nr rfl
theorem le140 : lends 140 = false := nr rfl
theorem le141 : lends 141 = false := nr rfl
theorem le142 : lends 142 = false := nr rfl
theorem le143 : lends 143 = false := nr rfl
theorem le144 : lends 144 = false := nr rfl
theorem le145 : lends 145 = false := nr rfl
theorem le146 : lends 146 = false := nr rfl
theorem le147 : lends 147 = false := nr rfl
theorem le148 : lends 148 = false := nr rfl
theorem le149 : lends 149 = false := nr rfl
theorem le150 : lends 150 = false := nr rfl
theorem le151 : lends 151 = false := nr rfl
theorem le152 : lends 152 = false := nr rfl
theorem le153 : lends 153 = false := nr rfl
theorem le154 : lends 154 = false := nr rfl
theorem le155 : lends 155 = false := nr rfl
theorem le156 : lends 156 = false := nr rfl
theorem le157 : lends 157 = false := nr rfl
theorem le158 : lends 158 = false := nr rfl
theorem le159 : lends 159 = false := nr rfl

set_option maxRecDepth 100000 in
theorem tyOk : TyOk Try.prog tys := tyOk_of (by kernel_rfl)
theorem mixed : Try.prog.follows .mixedOrders = true := by kernel_rfl
noncomputable def Y0 : Dv.Sys := { P := Try.prog, T := tys, lends := lends, base := fun _ _ _ => none }
theorem y0Ok : Dv.Sys.Ok Y0 := ⟨tyOk, mixed, fun _ _ _ _ _ h => by cases h⟩
theorem evNf (T : Tys) (s : St) (t : TypeId) : ev T s t (.const .nilFunc) = some (.konst .nilFunc) := nr rfl
theorem evNi (T : Tys) (s : St) (t : TypeId) : ev T s t (.const .nilIface) = some (.konst .nilIface) := nr rfl
theorem evNp (T : Tys) (s : St) (t : TypeId) : ev T s t (.const (.pointer none)) = some (.konst (.pointer none)) := nr rfl
theorem y0T : Y0.T = tys := nr rfl
theorem y0L : Y0.lends = lends := nr rfl
set_option maxRecDepth 10000 in
set_option linter.defProp false in
def yset0 :=
 And.intro @y0T (
 And.intro @y0L (
 And.intro @ty3 (
 And.intro @ty4 (
 And.intro @ty5 (
 And.intro @ty22 (
 And.intro @ty24 (
 And.intro @ty26 (
 And.intro @ty33 (
 And.intro @ty36 (
 And.intro @ty48 (
 And.intro @ty59 (
 And.intro @ty63 (
 And.intro @ty85 (
 And.intro @ty86 (
 And.intro @ty88 (
 And.intro @ty92 (
 And.intro @ty97 (
 And.intro @ty102 (
 And.intro @ty108 (
 And.intro @ty110 (
 And.intro @ty118 (
 And.intro @ty122 (
 And.intro @kn3 (
 And.intro @st3 (
 And.intro @sz3 (
 And.intro @zr3 (
 And.intro @kn4 (
 And.intro @st4 (
 And.intro @sz4 (
 And.intro @zr4 (
 And.intro @kn5 (
 And.intro @st5 (
 And.intro @sz5 (
 And.intro @zr5 (
 And.intro @kn22 (
 And.intro @st22 (
 And.intro @sz22 (
 And.intro @zr22 (
 And.intro @kn24 (
 And.intro @st24 (
 And.intro @sz24 (
 And.intro @zr24 (
 And.intro @kn26 (
 And.intro @st26 (
 And.intro @sz26 (
 And.intro @zr26 (
 And.intro @kn33 (
 And.intro @st33 (
 And.intro @sz33 (
 And.intro @zr33 (
 And.intro @kn36 (
 And.intro @st36 (
 And.intro @sz36 (
 And.intro @zr36 (
 And.intro @kn48 (
 And.intro @st48 (
 And.intro @sz48 (
 And.intro @zr48 (
 And.intro @kn59 (
 And.intro @st59 (
 And.intro @sz59 (
 And.intro @zr59 (
 And.intro @kn63 (
 And.intro @st63 (
 And.intro @sz63 (
 And.intro @zr63 (
 And.intro @kn85 (
 And.intro @st85 (
 And.intro @sz85 (
 And.intro @zr85 (
 And.intro @kn86 (
 And.intro @st86 (
 And.intro @sz86 (
 And.intro @zr86 (
 And.intro @kn88 (
 And.intro @st88 (
 And.intro @sz88 (
 And.intro @zr88 (
 And.intro @kn92 (
 And.intro @st92 (
 And.intro @sz92 (
 And.intro @zr92 (
 And.intro @kn97 (
 And.intro @st97 (
 And.intro @sz97 (
 And.intro @zr97 (
 And.intro @kn102 (
 And.intro @st102 (
 And.intro @sz102 (
 And.intro @zr102 (
 And.intro @kn108 (
 And.intro @st108 (
 And.intro @sz108 (
 And.intro @zr108 (
 And.intro @kn110 (
 And.intro @st110 (
 And.intro @sz110 (
 And.intro @zr110 (
 And.intro @kn118 (
 And.intro @st118 (
 And.intro @sz118 (
 And.intro @zr118 (
 And.intro @kn122 (
 And.intro @st122 (
 And.intro @sz122 (
 And.intro @zr122 (
 And.intro @zo3 (
 And.intro @zo4 (
 And.intro @zo5 (
 And.intro @zo22 (
 And.intro @zo33 (
 And.intro @zo36 (
 And.intro @zo48 (
 And.intro @zo59 (
 And.intro @zo63 (
 And.intro @zo85 (
 And.intro @zo86 (
 And.intro @zo88 (
 And.intro @zo92 (
 And.intro @zo97 (
 And.intro @zo102 (
 And.intro @zo108 (
 And.intro @zo110 (
 And.intro @zo118 (
 And.intro @zo122 (
 And.intro @le3 (
 And.intro @le4 (
 And.intro @le5 (
 And.intro @le6 (
 And.intro @le7 (
 And.intro @le8 (
 And.intro @le9 (
 And.intro @le10 (
 And.intro @le11 (
 And.intro @le12 (
 And.intro @le13 (
 And.intro @le14 (
 And.intro @le15 (
 And.intro @le16 (
 And.intro @le17 (
 And.intro @le18 (
 And.intro @le19 (
 And.intro @le20 (
 And.intro @le21 (
 And.intro @le22 (
 And.intro @le23 (
 And.intro @le24 (
 And.intro @le25 (
 And.intro @le26 (
 And.intro @le27 (
 And.intro @le28 (
 And.intro @le29 (
 And.intro @le30 (
 And.intro @le31 (
 And.intro @le32 (
 And.intro @le33 (
 And.intro @le34 (
 And.intro @le35 (
 And.intro @le36 (
 And.intro @le37 (
 And.intro @le38 (
 And.intro @le39 (
 And.intro @le40 (
 And.intro @le41 (
 And.intro @le42 (
 And.intro @le43 (
 And.intro @le44 (
 And.intro @le45 (
 And.intro @le46 (
 And.intro @le47 (
 And.intro @le48 (
 And.intro @le49 (
 And.intro @le50 (
 And.intro @le51 (
 And.intro @le52 (
 And.intro @le53 (
 And.intro @le54 (
 And.intro @le55 (
 And.intro @le56 (
 And.intro @le57 (
 And.intro @le58 (
 And.intro @le59 (
 And.intro @le60 (
 And.intro @le61 (
 And.intro @le62 (
 And.intro @le63 (
 And.intro @le64 (
 And.intro @le65 (
 And.intro @le66 (
 And.intro @le67 (
 And.intro @le68 (
 And.intro @le69 (
 And.intro @le70 (
 And.intro @le71 (
 And.intro @le72 (
 And.intro @le73 (
 And.intro @le74 (
 And.intro @le75 (
 And.intro @le76 (
 And.intro @le77 (
 And.intro @le78 (
 And.intro @le79 (
 And.intro @le80 (
 And.intro @le81 (
 And.intro @le82 (
 And.intro @le83 (
 And.intro @le84 (
 And.intro @le85 (
 And.intro @le86 (
 And.intro @le87 (
 And.intro @le88 (
 And.intro @le89 (
 And.intro @le90 (
 And.intro @le91 (
 And.intro @le92 (
 And.intro @le93 (
 And.intro @le94 (
 And.intro @le95 (
 And.intro @le96 (
 And.intro @le97 (
 And.intro @le98 (
 And.intro @le99 (
 And.intro @le100 (
 And.intro @le101 (
 And.intro @le102 (
 And.intro @le103 (
 And.intro @le104 (
 And.intro @le105 (
 And.intro @le106 (
 And.intro @le107 (
 And.intro @le108 (
 And.intro @le109 (
 And.intro @le110 (
 And.intro @le111 (
 And.intro @le112 (
 And.intro @le113 (
 And.intro @le114 (
 And.intro @le115 (
 And.intro @le116 (
 And.intro @le117 (
 And.intro @le118 (
 And.intro @le119 (
 And.intro @le120 (
 And.intro @le121 (
 And.intro @le122 (
 And.intro @le123 (
 And.intro @le124 (
 And.intro @le125 (
 And.intro @le126 (
 And.intro @le127 (
 And.intro @le128 (
 And.intro @le129 (
 And.intro @le130 (
 And.intro @le131 (
 And.intro @le132 (
 And.intro @le133 (
 And.intro @le134 (
 And.intro @le135 (
 And.intro @le136 (
 And.intro @le137 (
 And.intro @le138 (
 And.intro @le139 (
 And.intro @le140 (
 And.intro @le141 (
 And.intro @le142 (
 And.intro @le143 (
 And.intro @le144 (
 And.intro @le145 (
 And.intro @le146 (
 And.intro @le147 (
 And.intro @le148 (
 And.intro @le149 (
 And.intro @le150 (
 And.intro @le151 (
 And.intro @le152 (
 And.intro @le153 (
 And.intro @le154 (
 And.intro @le155 (
 And.intro @le156 (
 And.intro @le157 (
 And.intro @le158 (@le159))))))))))))))))))))))))))))))))))))))))))))))))))))))))))))))))))))))))))))))))))))))))))))))))))))))))))))))))))))))))))))))))))))))))))))))))))))))))))))))))))))))))))))))))))))))))))))))))))))))))))))))))))))))))))))))))))))))))))))))))))))))))))))))))))))))))))))))))))))))))))
/-- slices.Clone[[]int,int] -/
def k84 : SC :=
 .seq
 (.ops [
 ⟨(some 2), (.assign (.const (.slice none 0 0))), 33, none⟩])
 (.seq
 (.seq
 (.ops [
 ⟨(some 3), (.move (.tmp 0)), 33, none⟩,
 ⟨(some 4), (.binOp .eql 33 (.tmp 3) (.const (.slice none 0 0)) 33), 4, none⟩])
 (.cond (.tmp 4)
 (.seq
 (.ops [
 ⟨(some 2), (.assign (.const (.slice none 0 0))), 33, none⟩])
 .ret)
 .skip))
 (.seq
 (.ops [
 ⟨(some 5), (.buildSlice 33 0 #[]), 33, none⟩,
 ⟨(some 6), (.move (.tmp 0)), 33, none⟩,
 ⟨(some 7), (.call ⟨(.builtin .append), #[(.tmp 5), (.tmp 6)], #[33, 33]⟩), 33, none⟩,
 ⟨(some 2), (.assign (.tmp 7)), 33, none⟩])
 .ret))
theorem slim84 : Try.f84.body.map (slim lends) = some k84 := by kernel_rfl
theorem ok84 : fnOk Try.f84 1 = true := by kernel_rfl
theorem clone0_84 (A : Option Addr) (c : Nat) : Y0.call 84 [.konst (.slice A 0 c)] [] = some (.own 3 [], []) := by
 refine call_slim (Y := Y0) rfl Try.func84 ok84 slim84 ?_
 show wpD Y0.env k84 (fin tys 0 [ResultVar.tmp 2] _) _
 unfold k84
 cases A <;> simp only [↓xpre, xpost, yset0, implies_true, Option.bind_some, Option.map_some, Option.isSome_some, ↓reduceIte, Nat.reduceEqDiff, Nat.reduceLT, Nat.reduceLeDiff, Nat.reduceAdd, Nat.reduceMul, Nat.reduceMod, Nat.reduceSub, List.contains_cons, List.contains_nil, Nat.reduceBEq, List.getD_cons_zero, List.getD_cons_succ, List.getD_nil, List.length_cons, List.length_nil, List.size_toArray, List.toList_toArray, List.zip_cons_cons, List.zip_nil_left, List.append_nil, List.nil_append, List.cons_append, List.map_cons, List.map_nil, List.replicate_succ, List.replicate_zero, List.set_cons_zero, List.set_cons_succ, List.set_set, List.all_cons, List.any_cons, List.any_nil, List.all_nil, List.getElem?_cons_zero, List.getElem?_cons_succ, List.getElem?_nil, List.range_zero, beq_self_eq_true, Int.reduceLE, Int.reduceLT, Int.reduceEq, Int.reduceSub, Int.reduceAdd, Int.reduceToNat, Int.reduceNeg, Option.isNone_none, Option.isNone_some]
theorem hook84 : Dv.Good Try.prog tys 84 [.sl 3 []] [] (.own 3 []) [] := good_empty kn3 (fun A c => Dv.Sys.call_good y0Ok (clone0_84 A c))
/-- Calls that are known by other means. -/
def hooks (f : FuncId) (a l : List D) : Option (D × List D) :=
 match f, a, l with
 | 84, [.sl 3 []], [] => some (.own 3 [], [])
 | _, _, _ => none
theorem hooksOk : ∀ f a l r outs, hooks f a l = some (r, outs) → Dv.Good Try.prog tys f a l r outs := by
 intro f a l r outs h
 unfold hooks at h
 split at h
 ·simp only [Option.some.injEq, Prod.mk.injEq] at h; obtain ⟨rfl, rfl⟩ := h; exact hook84
 ·cases h
theorem sortGood : ∀ zs : List Int, zs.length < 4611686018427387904 → Dv.Good Try.prog tys 73 [.vw [100000] 0 0] [.own 3 (ints zs)] (.tup []) [.own 3 (ints (sortM zs))] := fun zs h =>
 good_sort ⟨Try.f73, Try.func73, rfl, by decide⟩ sz3 (fun blk off cap zs w h1 h2 h3 => Try.slices_Sort_int blk off cap zs w h1 h2 h3) (fun p cap w => Try.slices_Sort_int_none p cap w) zs h
theorem sortedGood : ∀ zs : List Int, zs.length < 1099511627776 → Dv.Good Try.prog tys 86 [.clo 104 [.cptr [.sl 3 (ints zs)]]] [] (.own 3 (ints (sortM zs))) [] := fun zs h =>
 good_sorted ⟨Try.f86, Try.func86, rfl, by decide⟩ sz3
  (fun p ad cap w h1 h2 => callsIn_wide.1 (Go.Proofs.sv.sorted_in 5 (Nat.le_refl _) p _ [] (by decide) (by decide) w h1 h2 (.inl ⟨ad, cap, rfl, rfl⟩)))
  (fun p b off cap zs w h0 h1 h2 h3 h4 => callsIn_wide.1 (Go.Proofs.sv.sorted_in 5 (Nat.le_refl _) p _ zs (by have : maxLen = 9223372036854775807 := rfl; omega) (by omega) w h1 h2 (.inr ⟨b, off, cap, rfl, h3, h4⟩))) zs h
theorem sortfGood : ∀ xss : List (List Int), xss.length < 4611686018427387904 → (∀ x ∈ xss, x.length ≤ 9223372036854775807) → Dv.Good Try.prog tys 98 [.vw [100000] 0 0, .clo 88 []] [.own 33 (lst (fun x => .own 3 (lst (D.int .i64) x)) xss)] (.tup []) [.own 33 (lst (fun x => .own 3 (lst (D.int .i64) x)) (sortL xss))] := fun xss h h2 =>
 good_sortf ⟨Try.f98, Try.func98, rfl, by decide⟩ sz33 sz3 Go.Proofs.sf.enters Go.Proofs.sf.compare Go.Proofs.sf.sorts (fun p cap fv w => Try.slices_SortFunc_none (α := Nat) p cap fv w) xss h h2
noncomputable def Y : Dv.Sys := { P := Try.prog, T := tys, lends := lends, base := orHook (orHook (orHook hooks (sortHook 73 3)) (sortedHook 86 104 3)) (sortfHook 98 88 33 3) }
theorem yOk : Dv.Sys.Ok Y := ⟨tyOk, mixed, orHook_good (orHook_good (orHook_good hooksOk (sortHook_good sortGood)) (sortedHook_good sortedGood)) (sortfHook_good sortfGood)⟩
theorem yT : Y.T = tys := nr rfl
theorem yL : Y.lends = lends := nr rfl
set_option maxRecDepth 10000 in
set_option linter.defProp false in
def yset :=
 And.intro @yT (
 And.intro @yL (
 And.intro @evNf (
 And.intro @evNi (
 And.intro @evNp (
 And.intro @ty3 (
 And.intro @ty4 (
 And.intro @ty5 (
 And.intro @ty22 (
 And.intro @ty24 (
 And.intro @ty26 (
 And.intro @ty33 (
 And.intro @ty36 (
 And.intro @ty48 (
 And.intro @ty59 (
 And.intro @ty63 (
 And.intro @ty85 (
 And.intro @ty86 (
 And.intro @ty88 (
 And.intro @ty92 (
 And.intro @ty97 (
 And.intro @ty102 (
 And.intro @ty108 (
 And.intro @ty110 (
 And.intro @ty118 (
 And.intro @ty122 (
 And.intro @kn3 (
 And.intro @st3 (
 And.intro @sz3 (
 And.intro @zr3 (
 And.intro @kn4 (
 And.intro @st4 (
 And.intro @sz4 (
 And.intro @zr4 (
 And.intro @kn5 (
 And.intro @st5 (
 And.intro @sz5 (
 And.intro @zr5 (
 And.intro @kn22 (
 And.intro @st22 (
 And.intro @sz22 (
 And.intro @zr22 (
 And.intro @kn24 (
 And.intro @st24 (
 And.intro @sz24 (
 And.intro @zr24 (
 And.intro @kn26 (
 And.intro @st26 (
 And.intro @sz26 (
 And.intro @zr26 (
 And.intro @kn33 (
 And.intro @st33 (
 And.intro @sz33 (
 And.intro @zr33 (
 And.intro @kn36 (
 And.intro @st36 (
 And.intro @sz36 (
 And.intro @zr36 (
 And.intro @kn48 (
 And.intro @st48 (
 And.intro @sz48 (
 And.intro @zr48 (
 And.intro @kn59 (
 And.intro @st59 (
 And.intro @sz59 (
 And.intro @zr59 (
 And.intro @kn63 (
 And.intro @st63 (
 And.intro @sz63 (
 And.intro @zr63 (
 And.intro @kn85 (
 And.intro @st85 (
 And.intro @sz85 (
 And.intro @zr85 (
 And.intro @kn86 (
 And.intro @st86 (
 And.intro @sz86 (
 And.intro @zr86 (
 And.intro @kn88 (
 And.intro @st88 (
 And.intro @sz88 (
 And.intro @zr88 (
 And.intro @kn92 (
 And.intro @st92 (
 And.intro @sz92 (
 And.intro @zr92 (
 And.intro @kn97 (
 And.intro @st97 (
 And.intro @sz97 (
 And.intro @zr97 (
 And.intro @kn102 (
 And.intro @st102 (
 And.intro @sz102 (
 And.intro @zr102 (
 And.intro @kn108 (
 And.intro @st108 (
 And.intro @sz108 (
 And.intro @zr108 (
 And.intro @kn110 (
 And.intro @st110 (
 And.intro @sz110 (
 And.intro @zr110 (
 And.intro @kn118 (
 And.intro @st118 (
 And.intro @sz118 (
 And.intro @zr118 (
 And.intro @kn122 (
 And.intro @st122 (
 And.intro @sz122 (
 And.intro @zr122 (
 And.intro @zo3 (
 And.intro @zo4 (
 And.intro @zo5 (
 And.intro @zo22 (
 And.intro @zo33 (
 And.intro @zo36 (
 And.intro @zo48 (
 And.intro @zo59 (
 And.intro @zo63 (
 And.intro @zo85 (
 And.intro @zo86 (
 And.intro @zo88 (
 And.intro @zo92 (
 And.intro @zo97 (
 And.intro @zo102 (
 And.intro @zo108 (
 And.intro @zo110 (
 And.intro @zo118 (
 And.intro @zo122 (
 And.intro @le3 (
 And.intro @le4 (
 And.intro @le5 (
 And.intro @le6 (
 And.intro @le7 (
 And.intro @le8 (
 And.intro @le9 (
 And.intro @le10 (
 And.intro @le11 (
 And.intro @le12 (
 And.intro @le13 (
 And.intro @le14 (
 And.intro @le15 (
 And.intro @le16 (
 And.intro @le17 (
 And.intro @le18 (
 And.intro @le19 (
 And.intro @le20 (
 And.intro @le21 (
 And.intro @le22 (
 And.intro @le23 (
 And.intro @le24 (
 And.intro @le25 (
 And.intro @le26 (
 And.intro @le27 (
 And.intro @le28 (
 And.intro @le29 (
 And.intro @le30 (
 And.intro @le31 (
 And.intro @le32 (
 And.intro @le33 (
 And.intro @le34 (
 And.intro @le35 (
 And.intro @le36 (
 And.intro @le37 (
 And.intro @le38 (
 And.intro @le39 (
 And.intro @le40 (
 And.intro @le41 (
 And.intro @le42 (
 And.intro @le43 (
 And.intro @le44 (
 And.intro @le45 (
 And.intro @le46 (
 And.intro @le47 (
 And.intro @le48 (
 And.intro @le49 (
 And.intro @le50 (
 And.intro @le51 (
 And.intro @le52 (
 And.intro @le53 (
 And.intro @le54 (
 And.intro @le55 (
 And.intro @le56 (
 And.intro @le57 (
 And.intro @le58 (
 And.intro @le59 (
 And.intro @le60 (
 And.intro @le61 (
 And.intro @le62 (
 And.intro @le63 (
 And.intro @le64 (
 And.intro @le65 (
 And.intro @le66 (
 And.intro @le67 (
 And.intro @le68 (
 And.intro @le69 (
 And.intro @le70 (
 And.intro @le71 (
 And.intro @le72 (
 And.intro @le73 (
 And.intro @le74 (
 And.intro @le75 (
 And.intro @le76 (
 And.intro @le77 (
 And.intro @le78 (
 And.intro @le79 (
 And.intro @le80 (
 And.intro @le81 (
 And.intro @le82 (
 And.intro @le83 (
 And.intro @le84 (
 And.intro @le85 (
 And.intro @le86 (
 And.intro @le87 (
 And.intro @le88 (
 And.intro @le89 (
 And.intro @le90 (
 And.intro @le91 (
 And.intro @le92 (
 And.intro @le93 (
 And.intro @le94 (
 And.intro @le95 (
 And.intro @le96 (
 And.intro @le97 (
 And.intro @le98 (
 And.intro @le99 (
 And.intro @le100 (
 And.intro @le101 (
 And.intro @le102 (
 And.intro @le103 (
 And.intro @le104 (
 And.intro @le105 (
 And.intro @le106 (
 And.intro @le107 (
 And.intro @le108 (
 And.intro @le109 (
 And.intro @le110 (
 And.intro @le111 (
 And.intro @le112 (
 And.intro @le113 (
 And.intro @le114 (
 And.intro @le115 (
 And.intro @le116 (
 And.intro @le117 (
 And.intro @le118 (
 And.intro @le119 (
 And.intro @le120 (
 And.intro @le121 (
 And.intro @le122 (
 And.intro @le123 (
 And.intro @le124 (
 And.intro @le125 (
 And.intro @le126 (
 And.intro @le127 (
 And.intro @le128 (
 And.intro @le129 (
 And.intro @le130 (
 And.intro @le131 (
 And.intro @le132 (
 And.intro @le133 (
 And.intro @le134 (
 And.intro @le135 (
 And.intro @le136 (
 And.intro @le137 (
 And.intro @le138 (
 And.intro @le139 (
 And.intro @le140 (
 And.intro @le141 (
 And.intro @le142 (
 And.intro @le143 (
 And.intro @le144 (
 And.intro @le145 (
 And.intro @le146 (
 And.intro @le147 (
 And.intro @le148 (
 And.intro @le149 (
 And.intro @le150 (
 And.intro @le151 (
 And.intro @le152 (
 And.intro @le153 (
 And.intro @le154 (
 And.intro @le155 (
 And.intro @le156 (
 And.intro @le157 (
 And.intro @le158 (@le159)))))))))))))))))))))))))))))))))))))))))))))))))))))))))))))))))))))))))))))))))))))))))))))))))))))))))))))))))))))))))))))))))))))))))))))))))))))))))))))))))))))))))))))))))))))))))))))))))))))))))))))))))))))))))))))))))))))))))))))))))))))))))))))))))))))))))))))))))))))))))))))
theorem sorted_86 (zs : List Int) (h : zs.length < 1099511627776) : Y.call 86 [.clo 104 [.cptr [.sl 3 (lst (D.int .i64) zs)]]] [] = some (.own 3 (lst (D.int .i64) (sortM zs)), []) := Dv.Sys.call_base (orHook_left (sortedHook_eq 86 104 3 zs h))
theorem sortf_98 (xss : List (List Int)) (h : xss.length < 4611686018427387904) (h2 : ∀ x ∈ xss, x.length ≤ 9223372036854775807) : Y.call 98 [.vw [100000] 0 0, .clo 88 []] [.own 33 (lst (fun x => .own 3 (lst (D.int .i64) x)) xss)] = some (.tup [], [.own 33 (lst (fun x => .own 3 (lst (D.int .i64) x)) (sortL xss))]) := Dv.Sys.call_base (sortfHook_eq 98 88 33 3 xss h h2)
theorem sort_73 (zs : List Int) (h : zs.length < 4611686018427387904) : Y.call 73 [.vw [100000] 0 0] [.own 3 (lst (D.int .i64) zs)] = some (.tup [], [.own 3 (lst (D.int .i64) (sortM zs))]) := Dv.Sys.call_base (orHook_left <| orHook_left <| (sortHook_eq 73 3 zs h))
theorem clone_84 (xs : List D) (h : xs.length < 1099511627776) (hs : xs.all solid = true) (ho : hasObjs xs = false) (hf : (frz (.own 3 xs)).isSome = true) : Y.call 84 [.sl 3 xs] [] = some (.own 3 xs, []) := by
 cases xs with
 | nil => exact Dv.Sys.call_base rfl
 | cons x xs =>
  refine call_slim (Y := Y) rfl Try.func84 ok84 slim84 ?_
  show wpD Y.env k84 (fin tys 0 [ResultVar.tmp 2] _) _
  unfold k84
  have h0 : 0 + (x :: xs).length < 1099511627776 := by omega
  simp only [List.length_cons, Nat.zero_add] at h0
  simp only [List.all_cons, hosCons] at hs ho
  simp only [↓xpre, xpost, yset, implies_true, Option.bind_some, Option.map_some, Option.isSome_some, ↓reduceIte, Nat.reduceEqDiff, Nat.reduceLT, Nat.reduceLeDiff, Nat.reduceAdd, Nat.reduceMul, Nat.reduceMod, Nat.reduceSub, List.contains_cons, List.contains_nil, Nat.reduceBEq, List.getD_cons_zero, List.getD_cons_succ, List.getD_nil, List.length_cons, List.length_nil, List.size_toArray, List.toList_toArray, List.zip_cons_cons, List.zip_nil_left, List.append_nil, List.nil_append, List.cons_append, List.map_cons, List.map_nil, List.replicate_succ, List.replicate_zero, List.set_cons_zero, List.set_cons_succ, List.set_set, List.all_cons, List.any_cons, List.any_nil, List.all_nil, List.getElem?_cons_zero, List.getElem?_cons_succ, List.getElem?_nil, List.range_zero, beq_self_eq_true, Int.reduceLE, Int.reduceLT, Int.reduceEq, Int.reduceSub, Int.reduceAdd, Int.reduceToNat, Int.reduceNeg, Nat.zero_add, h0, hs, ho]
  simp only [fzOwn, fzsCons] at hf
  rw [if_pos hf]
end Go.Proofs.Ytdjfaadpmbkcmaa
