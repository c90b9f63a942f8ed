/- The types of this seat as data, and the system of its calls. Conditions: none. -/
import Derived.Test.YtjkgcfdcfjkkbaaRows
import Derived.Test.YtjkgcfdcfjkkbaaL6
import Derived.Test.YtjkgcfdcfjkkbaaSv
import Derived.KernelRfl
namespace Go.Proofs.Ytjkgcfdcfjkkbaa
open Go Dv
set_option linter.unusedSimpArgs false
set_option maxRecDepth 100000

def tab : List Ty := [.other, .func, .int .i64, .int .i64, .bool, .int .u8, .int .u8, .struct [2, 3, 4, 6], .struct [2, 3, 4, 6], .string, .string, .string, .int .u64, .struct [9, 12], .struct [9, 12], .ptr, .ptr, .ptr, .struct [17], .struct [17], .other, .int .i32, .slice 90, .slice 3, .struct [22, 23, 23], .struct [22, 23, 23], .func, .slice 93, .struct [27, 23, 23], .struct [27, 23, 23], .other, .func, .func, .func, .func, .func, .slice 23, .struct [3, 3, 36, 36], .struct [3, 3, 36, 36], .func, .func, .other, .func, .struct [3, 3, 36, 36], .func, .func, .func, .func, .func, .func, .func, .func, .func, .slice 87, .func, .other, .func, .slice 85, .func, .func, .func, .func, .func, .other, .func, .func, .func, .func, .func, .func, .func, .func, .func, .func, .func, .func, .func, .func, .func, .func, .func, .func, .func, .func, .struct [3, 3], .struct [3, 3], .func, .struct [3, 3], .func, .func, .slice 128, .func, .func, .slice 95, .struct [3, 3], .struct [3, 3], .func, .func, .func, .func, .func, .func, .func, .func, .func, .func, .func, .func, .func, .other, .func, .func, .func, .slice 115, .struct [3, 3, 3, 3], .struct [3, 3, 3, 3], .func, .func, .func, .func, .func, .struct [3, 3, 3, 3, 23], .struct [3, 3, 3, 3, 23], .func, .struct [3, 3, 3, 3, 23], .struct [3, 3, 3, 3, 23], .func, .func, .struct [3, 3], .func, .func, .func, .int .u64, .func, .func, .func, .func, .func, .func, .func, .func, .func, .func, .func, .func, .func, .int .i64, .other, .func, .func, .func, .func, .int .u32, .func, .int .u64, .func, .func, .func, .func, .func, .int .u64, .func, .func, .func, .ptr, .func, .func, .func, .func, .ptr, .other, .func, .func, .struct [17, 17, 17, 9], .struct [17, 17, 17, 9], .other, .other, .other, .int .u8, .int .u8, .func, .ptr, .int .i32, .int .i32, .struct [12, 12, 152, 178, 5, 5, 179, 180, 181, 182, 183], .struct [12, 12, 152, 178, 5, 5, 179, 180, 181, 182, 183], .func]
def tys : Tys := tysOf tab
def lends (f : FuncId) : Bool := [13, 32, 33, 48, 81, 86].contains f

theorem ty1 : tys.ty 1 = .func := nr rfl
theorem ty2 : tys.ty 2 = .int .i64 := nr rfl
theorem ty3 : tys.ty 3 = .int .i64 := nr rfl
theorem kn3 : tys.known 3 = true := nr rfl
theorem st3 : tys.isStruct 3 = false := nr rfl
theorem zr3 : tys.zeros 3 = [.int .i64 0] := nr rfl
theorem zo3 : tys.zero1 3 = .int .i64 0 := nr rfl
theorem sz3 : tys.size 3 = 1 := nr rfl
theorem ty4 : tys.ty 4 = .bool := nr rfl
theorem kn4 : tys.known 4 = true := nr rfl
theorem st4 : tys.isStruct 4 = false := nr rfl
theorem zr4 : tys.zeros 4 = [.bool false] := nr rfl
theorem zo4 : tys.zero1 4 = .bool false := nr rfl
theorem sz4 : tys.size 4 = 1 := nr rfl
theorem ty5 : tys.ty 5 = .int .u8 := nr rfl
theorem kn5 : tys.known 5 = true := nr rfl
theorem st5 : tys.isStruct 5 = false := nr rfl
theorem zr5 : tys.zeros 5 = [.int .u8 0] := nr rfl
theorem zo5 : tys.zero1 5 = .int .u8 0 := nr rfl
theorem sz5 : tys.size 5 = 1 := nr rfl
theorem ty6 : tys.ty 6 = .int .u8 := nr rfl
theorem ty7 : tys.ty 7 = .struct [2, 3, 4, 6] := nr rfl
theorem ty8 : tys.ty 8 = .struct [2, 3, 4, 6] := nr rfl
theorem ty9 : tys.ty 9 = .string := nr rfl
theorem ty10 : tys.ty 10 = .string := nr rfl
theorem ty11 : tys.ty 11 = .string := nr rfl
theorem ty12 : tys.ty 12 = .int .u64 := nr rfl
theorem ty13 : tys.ty 13 = .struct [9, 12] := nr rfl
theorem ty14 : tys.ty 14 = .struct [9, 12] := nr rfl
theorem ty15 : tys.ty 15 = .ptr := nr rfl
theorem ty16 : tys.ty 16 = .ptr := nr rfl
theorem ty17 : tys.ty 17 = .ptr := nr rfl
theorem ty18 : tys.ty 18 = .struct [17] := nr rfl
theorem ty19 : tys.ty 19 = .struct [17] := nr rfl
theorem ty21 : tys.ty 21 = .int .i32 := nr rfl
theorem ty22 : tys.ty 22 = .slice 90 := nr rfl
theorem kn22 : tys.known 22 = true := nr rfl
theorem st22 : tys.isStruct 22 = false := nr rfl
theorem zr22 : tys.zeros 22 = [.own 90 []] := nr rfl
theorem zo22 : tys.zero1 22 = .own 90 [] := nr rfl
theorem sz22 : tys.size 22 = 1 := nr rfl
theorem ty23 : tys.ty 23 = .slice 3 := nr rfl
theorem kn23 : tys.known 23 = true := nr rfl
theorem st23 : tys.isStruct 23 = false := nr rfl
theorem zr23 : tys.zeros 23 = [.own 3 []] := nr rfl
theorem zo23 : tys.zero1 23 = .own 3 [] := nr rfl
theorem sz23 : tys.size 23 = 1 := nr rfl
theorem ty24 : tys.ty 24 = .struct [22, 23, 23] := nr rfl
theorem ty25 : tys.ty 25 = .struct [22, 23, 23] := nr rfl
theorem kn25 : tys.known 25 = true := nr rfl
theorem st25 : tys.isStruct 25 = true := nr rfl
theorem zr25 : tys.zeros 25 = [.own 90 [], .own 3 [], .own 3 []] := nr rfl
theorem sz25 : tys.size 25 = 3 := nr rfl
theorem ty26 : tys.ty 26 = .func := nr rfl
theorem ty27 : tys.ty 27 = .slice 93 := nr rfl
theorem kn27 : tys.known 27 = true := nr rfl
theorem st27 : tys.isStruct 27 = false := nr rfl
theorem zr27 : tys.zeros 27 = [.own 93 []] := nr rfl
theorem zo27 : tys.zero1 27 = .own 93 [] := nr rfl
theorem sz27 : tys.size 27 = 1 := nr rfl
theorem ty28 : tys.ty 28 = .struct [27, 23, 23] := nr rfl
theorem ty29 : tys.ty 29 = .struct [27, 23, 23] := nr rfl
theorem kn29 : tys.known 29 = true := nr rfl
theorem st29 : tys.isStruct 29 = true := nr rfl
theorem zr29 : tys.zeros 29 = [.own 93 [], .own 3 [], .own 3 []] := nr rfl
theorem sz29 : tys.size 29 = 3 := nr rfl
theorem ty31 : tys.ty 31 = .func := nr rfl
theorem ty32 : tys.ty 32 = .func := nr rfl
theorem ty33 : tys.ty 33 = .func := nr rfl
theorem ty34 : tys.ty 34 = .func := nr rfl
theorem ty35 : tys.ty 35 = .func := nr rfl
theorem ty36 : tys.ty 36 = .slice 23 := nr rfl
theorem kn36 : tys.known 36 = true := nr rfl
theorem st36 : tys.isStruct 36 = false := nr rfl
theorem zr36 : tys.zeros 36 = [.own 23 []] := nr rfl
theorem zo36 : tys.zero1 36 = .own 23 [] := nr rfl
theorem sz36 : tys.size 36 = 1 := nr rfl
theorem ty37 : tys.ty 37 = .struct [3, 3, 36, 36] := nr rfl
theorem ty38 : tys.ty 38 = .struct [3, 3, 36, 36] := nr rfl
theorem kn38 : tys.known 38 = true := nr rfl
theorem st38 : tys.isStruct 38 = true := nr rfl
theorem zr38 : tys.zeros 38 = [.int .i64 0, .int .i64 0, .own 23 [], .own 23 []] := nr rfl
theorem sz38 : tys.size 38 = 4 := nr rfl
theorem ty39 : tys.ty 39 = .func := nr rfl
theorem ty40 : tys.ty 40 = .func := nr rfl
theorem ty42 : tys.ty 42 = .func := nr rfl
theorem ty43 : tys.ty 43 = .struct [3, 3, 36, 36] := nr rfl
theorem kn43 : tys.known 43 = true := nr rfl
theorem st43 : tys.isStruct 43 = true := nr rfl
theorem zr43 : tys.zeros 43 = [.int .i64 0, .int .i64 0, .own 23 [], .own 23 []] := nr rfl
theorem sz43 : tys.size 43 = 4 := nr rfl
theorem ty44 : tys.ty 44 = .func := nr rfl
theorem ty45 : tys.ty 45 = .func := nr rfl
theorem ty46 : tys.ty 46 = .func := nr rfl
theorem ty47 : tys.ty 47 = .func := nr rfl
theorem ty48 : tys.ty 48 = .func := nr rfl
theorem ty49 : tys.ty 49 = .func := nr rfl
theorem ty50 : tys.ty 50 = .func := nr rfl
theorem ty51 : tys.ty 51 = .func := nr rfl
theorem ty52 : tys.ty 52 = .func := nr rfl
theorem ty53 : tys.ty 53 = .slice 87 := nr rfl
theorem kn53 : tys.known 53 = true := nr rfl
theorem st53 : tys.isStruct 53 = false := nr rfl
theorem zr53 : tys.zeros 53 = [.own 87 []] := nr rfl
theorem zo53 : tys.zero1 53 = .own 87 [] := nr rfl
theorem sz53 : tys.size 53 = 1 := nr rfl
theorem ty54 : tys.ty 54 = .func := nr rfl
theorem ty56 : tys.ty 56 = .func := nr rfl
theorem ty57 : tys.ty 57 = .slice 85 := nr rfl
theorem kn57 : tys.known 57 = true := nr rfl
theorem st57 : tys.isStruct 57 = false := nr rfl
theorem zr57 : tys.zeros 57 = [.own 85 []] := nr rfl
theorem zo57 : tys.zero1 57 = .own 85 [] := nr rfl
theorem sz57 : tys.size 57 = 1 := nr rfl
theorem ty58 : tys.ty 58 = .func := nr rfl
theorem ty59 : tys.ty 59 = .func := nr rfl
theorem ty60 : tys.ty 60 = .func := nr rfl
theorem ty61 : tys.ty 61 = .func := nr rfl
theorem ty62 : tys.ty 62 = .func := nr rfl
theorem ty64 : tys.ty 64 = .func := nr rfl
theorem ty65 : tys.ty 65 = .func := nr rfl
theorem ty66 : tys.ty 66 = .func := nr rfl
theorem ty67 : tys.ty 67 = .func := nr rfl
theorem ty68 : tys.ty 68 = .func := nr rfl
theorem ty69 : tys.ty 69 = .func := nr rfl
theorem ty70 : tys.ty 70 = .func := nr rfl
theorem ty71 : tys.ty 71 = .func := nr rfl
theorem kn71 : tys.known 71 = true := nr rfl
theorem st71 : tys.isStruct 71 = false := nr rfl
theorem zr71 : tys.zeros 71 = [.konst .nilFunc] := nr rfl
theorem zo71 : tys.zero1 71 = .konst .nilFunc := nr rfl
theorem sz71 : tys.size 71 = 1 := nr rfl
theorem ty72 : tys.ty 72 = .func := nr rfl
theorem kn72 : tys.known 72 = true := nr rfl
theorem st72 : tys.isStruct 72 = false := nr rfl
theorem zr72 : tys.zeros 72 = [.konst .nilFunc] := nr rfl
theorem zo72 : tys.zero1 72 = .konst .nilFunc := nr rfl
theorem sz72 : tys.size 72 = 1 := nr rfl
theorem ty73 : tys.ty 73 = .func := nr rfl
theorem ty74 : tys.ty 74 = .func := nr rfl
theorem ty75 : tys.ty 75 = .func := nr rfl
theorem ty76 : tys.ty 76 = .func := nr rfl
theorem ty77 : tys.ty 77 = .func := nr rfl
theorem ty78 : tys.ty 78 = .func := nr rfl
theorem ty79 : tys.ty 79 = .func := nr rfl
theorem kn79 : tys.known 79 = true := nr rfl
theorem st79 : tys.isStruct 79 = false := nr rfl
theorem zr79 : tys.zeros 79 = [.konst .nilFunc] := nr rfl
theorem zo79 : tys.zero1 79 = .konst .nilFunc := nr rfl
theorem sz79 : tys.size 79 = 1 := nr rfl
theorem ty80 : tys.ty 80 = .func := nr rfl
theorem ty81 : tys.ty 81 = .func := nr rfl
theorem ty82 : tys.ty 82 = .func := nr rfl
theorem ty83 : tys.ty 83 = .func := nr rfl
theorem ty84 : tys.ty 84 = .struct [3, 3] := nr rfl
theorem ty85 : tys.ty 85 = .struct [3, 3] := nr rfl
theorem kn85 : tys.known 85 = true := nr rfl
theorem st85 : tys.isStruct 85 = true := nr rfl
theorem zr85 : tys.zeros 85 = [.int .i64 0, .int .i64 0] := nr rfl
theorem sz85 : tys.size 85 = 2 := nr rfl
theorem ty86 : tys.ty 86 = .func := nr rfl
theorem ty87 : tys.ty 87 = .struct [3, 3] := nr rfl
theorem kn87 : tys.known 87 = true := nr rfl
theorem st87 : tys.isStruct 87 = true := nr rfl
theorem zr87 : tys.zeros 87 = [.int .i64 0, .int .i64 0] := nr rfl
theorem sz87 : tys.size 87 = 2 := nr rfl
theorem ty88 : tys.ty 88 = .func := nr rfl
theorem ty89 : tys.ty 89 = .func := nr rfl
theorem ty90 : tys.ty 90 = .slice 128 := nr rfl
theorem kn90 : tys.known 90 = true := nr rfl
theorem st90 : tys.isStruct 90 = false := nr rfl
theorem zr90 : tys.zeros 90 = [.own 128 []] := nr rfl
theorem zo90 : tys.zero1 90 = .own 128 [] := nr rfl
theorem sz90 : tys.size 90 = 1 := nr rfl
theorem ty91 : tys.ty 91 = .func := nr rfl
theorem ty92 : tys.ty 92 = .func := nr rfl
theorem ty93 : tys.ty 93 = .slice 95 := nr rfl
theorem kn93 : tys.known 93 = true := nr rfl
theorem st93 : tys.isStruct 93 = false := nr rfl
theorem zr93 : tys.zeros 93 = [.own 95 []] := nr rfl
theorem zo93 : tys.zero1 93 = .own 95 [] := nr rfl
theorem sz93 : tys.size 93 = 1 := nr rfl
theorem ty94 : tys.ty 94 = .struct [3, 3] := nr rfl
theorem ty95 : tys.ty 95 = .struct [3, 3] := nr rfl
theorem kn95 : tys.known 95 = true := nr rfl
theorem st95 : tys.isStruct 95 = true := nr rfl
theorem zr95 : tys.zeros 95 = [.int .i64 0, .int .i64 0] := nr rfl
theorem sz95 : tys.size 95 = 2 := nr rfl
theorem ty96 : tys.ty 96 = .func := nr rfl
theorem ty97 : tys.ty 97 = .func := nr rfl
theorem ty98 : tys.ty 98 = .func := nr rfl
theorem ty99 : tys.ty 99 = .func := nr rfl
theorem ty100 : tys.ty 100 = .func := nr rfl
theorem ty101 : tys.ty 101 = .func := nr rfl
theorem ty102 : tys.ty 102 = .func := nr rfl
theorem ty103 : tys.ty 103 = .func := nr rfl
theorem ty104 : tys.ty 104 = .func := nr rfl
theorem ty105 : tys.ty 105 = .func := nr rfl
theorem ty106 : tys.ty 106 = .func := nr rfl
theorem ty107 : tys.ty 107 = .func := nr rfl
theorem kn107 : tys.known 107 = true := nr rfl
theorem st107 : tys.isStruct 107 = false := nr rfl
theorem zr107 : tys.zeros 107 = [.konst .nilFunc] := nr rfl
theorem zo107 : tys.zero1 107 = .konst .nilFunc := nr rfl
theorem sz107 : tys.size 107 = 1 := nr rfl
theorem ty108 : tys.ty 108 = .func := nr rfl
theorem ty110 : tys.ty 110 = .func := nr rfl
theorem ty111 : tys.ty 111 = .func := nr rfl
theorem ty112 : tys.ty 112 = .func := nr rfl
theorem ty113 : tys.ty 113 = .slice 115 := nr rfl
theorem kn113 : tys.known 113 = true := nr rfl
theorem st113 : tys.isStruct 113 = false := nr rfl
theorem zr113 : tys.zeros 113 = [.own 115 []] := nr rfl
theorem zo113 : tys.zero1 113 = .own 115 [] := nr rfl
theorem sz113 : tys.size 113 = 1 := nr rfl
theorem ty114 : tys.ty 114 = .struct [3, 3, 3, 3] := nr rfl
theorem ty115 : tys.ty 115 = .struct [3, 3, 3, 3] := nr rfl
theorem kn115 : tys.known 115 = true := nr rfl
theorem st115 : tys.isStruct 115 = true := nr rfl
theorem zr115 : tys.zeros 115 = [.int .i64 0, .int .i64 0, .int .i64 0, .int .i64 0] := nr rfl
theorem sz115 : tys.size 115 = 4 := nr rfl
theorem ty116 : tys.ty 116 = .func := nr rfl
theorem ty117 : tys.ty 117 = .func := nr rfl
theorem kn117 : tys.known 117 = true := nr rfl
theorem st117 : tys.isStruct 117 = false := nr rfl
theorem zr117 : tys.zeros 117 = [.konst .nilFunc] := nr rfl
theorem zo117 : tys.zero1 117 = .konst .nilFunc := nr rfl
theorem sz117 : tys.size 117 = 1 := nr rfl
theorem ty118 : tys.ty 118 = .func := nr rfl
theorem ty119 : tys.ty 119 = .func := nr rfl
theorem ty120 : tys.ty 120 = .func := nr rfl
theorem ty121 : tys.ty 121 = .struct [3, 3, 3, 3, 23] := nr rfl
theorem ty122 : tys.ty 122 = .struct [3, 3, 3, 3, 23] := nr rfl
theorem kn122 : tys.known 122 = true := nr rfl
theorem st122 : tys.isStruct 122 = true := nr rfl
theorem zr122 : tys.zeros 122 = [.int .i64 0, .int .i64 0, .int .i64 0, .int .i64 0, .own 3 []] := nr rfl
theorem sz122 : tys.size 122 = 5 := nr rfl
theorem ty123 : tys.ty 123 = .func := nr rfl
theorem ty124 : tys.ty 124 = .struct [3, 3, 3, 3, 23] := nr rfl
theorem ty125 : tys.ty 125 = .struct [3, 3, 3, 3, 23] := nr rfl
theorem kn125 : tys.known 125 = true := nr rfl
theorem st125 : tys.isStruct 125 = true := nr rfl
theorem zr125 : tys.zeros 125 = [.int .i64 0, .int .i64 0, .int .i64 0, .int .i64 0, .own 3 []] := nr rfl
theorem sz125 : tys.size 125 = 5 := nr rfl
theorem ty126 : tys.ty 126 = .func := nr rfl
theorem ty127 : tys.ty 127 = .func := nr rfl
theorem ty128 : tys.ty 128 = .struct [3, 3] := nr rfl
theorem kn128 : tys.known 128 = true := nr rfl
theorem st128 : tys.isStruct 128 = true := nr rfl
theorem zr128 : tys.zeros 128 = [.int .i64 0, .int .i64 0] := nr rfl
theorem sz128 : tys.size 128 = 2 := nr rfl
theorem ty129 : tys.ty 129 = .func := nr rfl
theorem ty130 : tys.ty 130 = .func := nr rfl
theorem ty131 : tys.ty 131 = .func := nr rfl
theorem ty132 : tys.ty 132 = .int .u64 := nr rfl
theorem kn132 : tys.known 132 = true := nr rfl
theorem st132 : tys.isStruct 132 = false := nr rfl
theorem zr132 : tys.zeros 132 = [.int .u64 0] := nr rfl
theorem zo132 : tys.zero1 132 = .int .u64 0 := nr rfl
theorem sz132 : tys.size 132 = 1 := nr rfl
theorem ty133 : tys.ty 133 = .func := nr rfl
theorem ty134 : tys.ty 134 = .func := nr rfl
theorem ty135 : tys.ty 135 = .func := nr rfl
theorem kn135 : tys.known 135 = true := nr rfl
theorem st135 : tys.isStruct 135 = false := nr rfl
theorem zr135 : tys.zeros 135 = [.konst .nilFunc] := nr rfl
theorem zo135 : tys.zero1 135 = .konst .nilFunc := nr rfl
theorem sz135 : tys.size 135 = 1 := nr rfl
theorem ty136 : tys.ty 136 = .func := nr rfl
theorem ty137 : tys.ty 137 = .func := nr rfl
theorem ty138 : tys.ty 138 = .func := nr rfl
theorem ty139 : tys.ty 139 = .func := nr rfl
theorem ty140 : tys.ty 140 = .func := nr rfl
theorem ty141 : tys.ty 141 = .func := nr rfl
theorem ty142 : tys.ty 142 = .func := nr rfl
theorem ty143 : tys.ty 143 = .func := nr rfl
theorem ty144 : tys.ty 144 = .func := nr rfl
theorem ty145 : tys.ty 145 = .func := nr rfl
theorem ty146 : tys.ty 146 = .int .i64 := nr rfl
theorem kn146 : tys.known 146 = true := nr rfl
theorem st146 : tys.isStruct 146 = false := nr rfl
theorem zr146 : tys.zeros 146 = [.int .i64 0] := nr rfl
theorem zo146 : tys.zero1 146 = .int .i64 0 := nr rfl
theorem sz146 : tys.size 146 = 1 := nr rfl
theorem ty148 : tys.ty 148 = .func := nr rfl
theorem ty149 : tys.ty 149 = .func := nr rfl
theorem ty150 : tys.ty 150 = .func := nr rfl
theorem ty151 : tys.ty 151 = .func := nr rfl
theorem ty152 : tys.ty 152 = .int .u32 := nr rfl
theorem kn152 : tys.known 152 = true := nr rfl
theorem st152 : tys.isStruct 152 = false := nr rfl
theorem zr152 : tys.zeros 152 = [.int .u32 0] := nr rfl
theorem zo152 : tys.zero1 152 = .int .u32 0 := nr rfl
theorem sz152 : tys.size 152 = 1 := nr rfl
theorem ty153 : tys.ty 153 = .func := nr rfl
theorem ty154 : tys.ty 154 = .int .u64 := nr rfl
theorem kn154 : tys.known 154 = true := nr rfl
theorem st154 : tys.isStruct 154 = false := nr rfl
theorem zr154 : tys.zeros 154 = [.int .u64 0] := nr rfl
theorem zo154 : tys.zero1 154 = .int .u64 0 := nr rfl
theorem sz154 : tys.size 154 = 1 := nr rfl
theorem ty155 : tys.ty 155 = .func := nr rfl
theorem ty156 : tys.ty 156 = .func := nr rfl
theorem ty157 : tys.ty 157 = .func := nr rfl
theorem ty158 : tys.ty 158 = .func := nr rfl
theorem ty159 : tys.ty 159 = .func := nr rfl
theorem ty160 : tys.ty 160 = .int .u64 := nr rfl
theorem kn160 : tys.known 160 = true := nr rfl
theorem st160 : tys.isStruct 160 = false := nr rfl
theorem zr160 : tys.zeros 160 = [.int .u64 0] := nr rfl
theorem zo160 : tys.zero1 160 = .int .u64 0 := nr rfl
theorem sz160 : tys.size 160 = 1 := nr rfl
theorem ty161 : tys.ty 161 = .func := nr rfl
theorem ty162 : tys.ty 162 = .func := nr rfl
theorem ty163 : tys.ty 163 = .func := nr rfl
theorem ty164 : tys.ty 164 = .ptr := nr rfl
theorem kn164 : tys.known 164 = true := nr rfl
theorem st164 : tys.isStruct 164 = false := nr rfl
theorem zr164 : tys.zeros 164 = [.konst (.pointer none)] := nr rfl
theorem zo164 : tys.zero1 164 = .konst (.pointer none) := nr rfl
theorem sz164 : tys.size 164 = 1 := nr rfl
theorem ty165 : tys.ty 165 = .func := nr rfl
theorem ty166 : tys.ty 166 = .func := nr rfl
theorem ty167 : tys.ty 167 = .func := nr rfl
theorem ty168 : tys.ty 168 = .func := nr rfl
theorem kn168 : tys.known 168 = true := nr rfl
theorem st168 : tys.isStruct 168 = false := nr rfl
theorem zr168 : tys.zeros 168 = [.konst .nilFunc] := nr rfl
theorem zo168 : tys.zero1 168 = .konst .nilFunc := nr rfl
theorem sz168 : tys.size 168 = 1 := nr rfl
theorem ty169 : tys.ty 169 = .ptr := nr rfl
theorem ty171 : tys.ty 171 = .func := nr rfl
theorem ty172 : tys.ty 172 = .func := nr rfl
theorem ty173 : tys.ty 173 = .struct [17, 17, 17, 9] := nr rfl
theorem ty174 : tys.ty 174 = .struct [17, 17, 17, 9] := nr rfl
theorem ty178 : tys.ty 178 = .int .u8 := nr rfl
theorem ty179 : tys.ty 179 = .int .u8 := nr rfl
theorem ty180 : tys.ty 180 = .func := nr rfl
theorem ty181 : tys.ty 181 = .ptr := nr rfl
theorem ty182 : tys.ty 182 = .int .i32 := nr rfl
theorem ty183 : tys.ty 183 = .int .i32 := nr rfl
theorem ty184 : tys.ty 184 = .struct [12, 12, 152, 178, 5, 5, 179, 180, 181, 182, 183] := nr rfl
theorem ty185 : tys.ty 185 = .struct [12, 12, 152, 178, 5, 5, 179, 180, 181, 182, 183] := nr rfl
theorem ty186 : tys.ty 186 = .func := nr rfl
theorem le3 : lends 3 = false := nr rfl
theorem le4 : lends 4 = false := nr rfl
theorem le5 : lends 5 = false := nr rfl
theorem le6 : lends 6 = false := nr rfl
theorem le7 : lends 7 = false := nr rfl
theorem le8 : lends 8 = false := nr rfl
theorem le9 : lends 9 = false := nr rfl
theorem le10 : lends 10 = false := nr rfl
theorem le11 : lends 11 = false := nr rfl
theorem le12 : lends 12 = false := nr rfl
theorem le13 : lends 13 = true := nr rfl
theorem le14 : lends 14 = false := nr rfl
theorem le15 : lends 15 = false := nr rfl
theorem le16 : lends 16 = false := nr rfl
theorem le17 : lends 17 = false := nr rfl
theorem le18 : lends 18 = false := nr rfl
theorem le19 : lends 19 = false := nr rfl
theorem le20 : lends 20 = false := nr rfl
theorem le21 : lends 21 = false := nr rfl
theorem le22 : lends 22 = false := nr rfl
theorem le23 : lends 23 = false := nr rfl
theorem le24 : lends 24 = false := nr rfl
theorem le25 : lends 25 = false := nr rfl
theorem le26 : lends 26 = false := nr rfl
theorem le27 : lends 27 = false := nr rfl
theorem le28 : lends 28 = false := nr rfl
theorem le29 : lends 29 = false := nr rfl
theorem le30 : lends 30 = false := nr rfl
theorem le31 : lends 31 = false := nr rfl
theorem le32 : lends 32 = true := nr rfl
theorem le33 : lends 33 = true := nr rfl
theorem le34 : lends 34 = false := nr rfl
theorem le35 : lends 35 = false := nr rfl
theorem le36 : lends 36 = false := nr rfl
theorem le37 : lends 37 = false := nr rfl
theorem le38 : lends 38 = false := nr rfl
theorem le39 : lends 39 = false := nr rfl
theorem le40 : lends 40 = false := nr rfl
theorem le41 : lends 41 = false := nr rfl
theorem le42 : lends 42 = false := nr rfl
theorem le43 : lends 43 = false := nr rfl
theorem le44 : lends 44 = false := nr rfl
theorem le45 : lends 45 = false := nr rfl
theorem le46 : lends 46 = false := nr rfl
theorem le47 : lends 47 = false := nr rfl
theorem le48 : lends 48 = true := nr rfl
theorem le49 : lends 49 = false := nr rfl
theorem le50 : lends 50 = false := nr rfl
theorem le51 : lends 51 = false := nr rfl
theorem le52 : lends 52 = false := nr rfl
theorem le53 : lends 53 = false := nr rfl
theorem le54 : lends 54 = false := nr rfl
theorem le55 : lends 55 = false := nr rfl
theorem le56 : lends 56 = false := nr rfl
theorem le57 : lends 57 = false := nr rfl
theorem le58 : lends 58 = false := nr rfl
theorem le59 : lends 59 = false := nr rfl
theorem le60 : lends 60 = false := nr rfl
theorem le61 : lends 61 = false := nr rfl
theorem le62 : lends 62 = false := nr rfl
theorem le63 : lends 63 = false := nr rfl
theorem le64 : lends 64 = false := nr rfl
theorem le65 : lends 65 = false := nr rfl
theorem le66 : lends 66 = false := nr rfl
theorem le67 : lends 67 = false := nr rfl
theorem le68 : lends 68 = false := nr rfl
theorem le69 : lends 69 = false := nr rfl
theorem le70 : lends 70 = false := nr rfl
theorem le71 : lends 71 = false := nr rfl
theorem le72 : lends 72 = false := nr rfl
theorem le73 : lends 73 = false := nr rfl
theorem le74 : lends 74 = false := nr rfl
theorem le75 : lends 75 = false := nr rfl
theorem le76 : lends 76 = false := nr rfl
theorem le77 : lends 77 = false := nr rfl
theorem le78 : lends 78 = false := nr rfl
theorem le79 : lends 79 = false := nr rfl
theorem le80 : lends 80 = false := nr rfl
theorem le81 : lends 81 = true := nr rfl
theorem le82 : lends 82 = false := nr rfl
theorem le83 : lends 83 = false := nr rfl
theorem le84 : lends 84 = false := nr rfl
theorem le85 : lends 85 = false := nr rfl
theorem le86 : lends 86 = true := nr rfl
theorem le87 : lends 87 = false := nr rfl
theorem le88 : lends 88 = false := nr rfl
theorem le89 : lends 89 = false := nr rfl
theorem le90 : lends 90 = false := nr rfl
theorem le91 : lends 91 = false := nr rfl
theorem le92 : lends 92 = false := nr rfl
theorem le93 : lends 93 = false := nr rfl
theorem le94 : lends 94 = false := nr rfl
theorem le95 : lends 95 = false := nr rfl
theorem le96 : lends 96 = false := nr rfl
theorem le97 : lends 97 = false := nr rfl
theorem le98 : lends 98 = false := nr rfl
theorem le99 : lends 99 = false := nr rfl
theorem le100 : lends 100 = false := nr rfl
theorem le101 : lends 101 = false := nr rfl
theorem le102 : lends 102 = false := nr rfl
theorem le103 : lends 103 = false := nr rfl
theorem le104 : lends 104 = false := nr rfl
theorem le105 : lends 105 = false := nr rfl
theorem le106 : lends 106 = false := nr rfl
theorem le107 : lends 107 = false := nr rfl
theorem le108 : lends 108 = false := nr rfl
theorem le109 : lends 109 = false := nr rfl
theorem le110 : lends 110 = false := nr rfl
theorem le111 : lends 111 = false := nr rfl
theorem le112 : lends 112 = false := nr rfl
theorem le113 : lends 113 = false := nr rfl
theorem le114 : lends 114 = false := nr rfl
theorem le115 : lends 115 = false := nr rfl
theorem le116 : lends 116 = false := nr rfl
theorem le117 : lends 117 = false := nr rfl
theorem le118 : lends 118 = false := nr rfl
theorem le119 : lends 119 = false := nr rfl
theorem le120 : lends 120 = false := nr rfl
theorem le121 : lends 121 = false := nr rfl
theorem le122 : lends 122 = false := nr rfl
theorem le123 : lends 123 = false := nr rfl
theorem le124 : lends 124 = false := nr rfl
theorem le125 : lends 125 = false := nr rfl
theorem le126 : lends 126 = false := nr rfl
theorem le127 : lends 127 = false := nr rfl
theorem le128 : lends 128 = false := nr rfl
theorem le129 : lends 129 = false := nr rfl
theorem le130 : lends 130 = false := nr rfl
theorem le131 : lends 131 = false := nr rfl
theorem le132 : lends 132 = false := nr rfl
theorem le133 : lends 133 = false := nr rfl
theorem le134 : lends 134 = false := nr rfl
theorem le135 : lends 135 = false := nr rfl
theorem le136 : lends 136 = false := nr rfl
theorem le137 : lends 137 = false := nr rfl
theorem le138 : lends 138 = false := nr rfl
theorem le139 : lends 139 = false := nr rfl
theorem le140 : lends 140 = false := nr rfl
theorem le141 : lends 141 = false := nr rfl
theorem le142 : lends 142 = false := nr rfl
theorem le143 : lends 143 = false := nr rfl
theorem le144 : lends 144 = false := nr rfl
theorem le145 : lends 145 = false := nr rfl
theorem le146 : lends 146 = false := nr rfl
theorem le147 : lends 147 = false := nr rfl
theorem le148 : lends 148 = false := nr rfl
theorem le149 : lends 149 = false := nr rfl
theorem le150 : lends 150 = false := nr rfl
theorem le151 : lends 151 = false := nr rfl
theorem le152 : lends 152 = false := nr rfl
theorem le153 : lends 153 = false := nr rfl
theorem le154 : lends 154 = false := nr rfl
theorem le155 : lends 155 = false := nr rfl
theorem le156 : lends 156 = false := nr rfl
theorem le157 : lends 157 = false := nr rfl
theorem le158 : lends 158 = false := nr rfl
theorem le159 : lends 159 = false := nr rfl
theorem le160 : lends 160 = false := nr rfl
theorem le161 : lends 161 = false := nr rfl
theorem le162 : lends 162 = false := nr rfl
theorem le163 : lends 163 = false := nr rfl
theorem le164 : lends 164 = false := nr rfl
theorem le165 : lends 165 = false := nr rfl
theorem le166 : lends 166 = false := nr rfl
theorem le167 : lends 167 = false := nr rfl
theorem le168 : lends 168 = false := nr rfl
theorem le169 : lends 169 = false := nr rfl
theorem le170 : lends 170 = false := nr rfl
theorem le171 : lends 171 = false := nr rfl
theorem le172 : lends 172 = false := nr rfl
theorem le173 : lends 173 = false := nr rfl
theorem le174 : lends 174 = false := nr rfl
theorem le175 : lends 175 = false := nr rfl
theorem le176 : lends 176 = false := nr rfl
theorem le177 : lends 177 = false := nr rfl
theorem le178 : lends 178 = false := nr rfl
theorem le179 : lends 179 = false := nr rfl
theorem le180 : lends 180 = false := nr rfl
theorem le181 : lends 181 = false := nr rfl
theorem le182 : lends 182 = false := nr rfl
theorem le183 : lends 183 = false := nr rfl
theorem le184 : lends 184 = false := nr rfl
theorem le185 : lends 185 = false := nr rfl
theorem le186 : lends 186 = false := nr rfl
theorem le187 : lends 187 = false := nr rfl
theorem le188 : lends 188 = false := nr rfl
theorem le189 : lends 189 = false := nr rfl
theorem le190 : lends 190 = false := nr rfl
theorem le191 : lends 191 = false := nr rfl
theorem le192 : lends 192 = false := nr rfl
theorem le193 : lends 193 = false := nr rfl
theorem le194 : lends 194 = false := nr rfl

set_option maxRecDepth 100000 in
theorem tyOk : TyOk Try.prog tys := tyOk_of (by kernel_rfl)
theorem mixed : Try.prog.follows .mixedOrders = true := by kernel_rfl
noncomputable def Y0 : Dv.Sys := { P := Try.prog, T := tys, lends := lends, base := fun _ _ _ => none }
theorem y0Ok : Dv.Sys.Ok Y0 := ⟨tyOk, mixed, fun _ _ _ _ _ h => by cases h⟩
theorem evNf (T : Tys) (s : St) (t : TypeId) : ev T s t (.const .nilFunc) = some (.konst .nilFunc) := nr rfl
theorem evNi (T : Tys) (s : St) (t : TypeId) : ev T s t (.const .nilIface) = some (.konst .nilIface) := nr rfl
theorem evNp (T : Tys) (s : St) (t : TypeId) : ev T s t (.const (.pointer none)) = some (.konst (.pointer none)) := nr rfl
theorem y0T : Y0.T = tys := nr rfl
theorem y0L : Y0.lends = lends := nr rfl
set_option maxRecDepth 10000 in
set_option linter.defProp false in
def yset0 :=
 And.intro @y0T (
 And.intro @y0L (
 And.intro @ty3 (
 And.intro @ty4 (
 And.intro @ty5 (
 And.intro @ty22 (
 And.intro @ty23 (
 And.intro @ty25 (
 And.intro @ty27 (
 And.intro @ty29 (
 And.intro @ty36 (
 And.intro @ty38 (
 And.intro @ty43 (
 And.intro @ty53 (
 And.intro @ty57 (
 And.intro @ty71 (
 And.intro @ty72 (
 And.intro @ty79 (
 And.intro @ty85 (
 And.intro @ty87 (
 And.intro @ty90 (
 And.intro @ty93 (
 And.intro @ty95 (
 And.intro @ty107 (
 And.intro @ty113 (
 And.intro @ty115 (
 And.intro @ty117 (
 And.intro @ty122 (
 And.intro @ty125 (
 And.intro @ty128 (
 And.intro @ty132 (
 And.intro @ty135 (
 And.intro @ty146 (
 And.intro @ty152 (
 And.intro @ty154 (
 And.intro @ty160 (
 And.intro @ty164 (
 And.intro @ty168 (
 And.intro @kn3 (
 And.intro @st3 (
 And.intro @sz3 (
 And.intro @zr3 (
 And.intro @kn4 (
 And.intro @st4 (
 And.intro @sz4 (
 And.intro @zr4 (
 And.intro @kn5 (
 And.intro @st5 (
 And.intro @sz5 (
 And.intro @zr5 (
 And.intro @kn22 (
 And.intro @st22 (
 And.intro @sz22 (
 And.intro @zr22 (
 And.intro @kn23 (
 And.intro @st23 (
 And.intro @sz23 (
 And.intro @zr23 (
 And.intro @kn25 (
 And.intro @st25 (
 And.intro @sz25 (
 And.intro @zr25 (
 And.intro @kn27 (
 And.intro @st27 (
 And.intro @sz27 (
 And.intro @zr27 (
 And.intro @kn29 (
 And.intro @st29 (
 And.intro @sz29 (
 And.intro @zr29 (
 And.intro @kn36 (
 And.intro @st36 (
 And.intro @sz36 (
 And.intro @zr36 (
 And.intro @kn38 (
 And.intro @st38 (
 And.intro @sz38 (
 And.intro @zr38 (
 And.intro @kn43 (
 And.intro @st43 (
 And.intro @sz43 (
 And.intro @zr43 (
 And.intro @kn53 (
 And.intro @st53 (
 And.intro @sz53 (
 And.intro @zr53 (
 And.intro @kn57 (
 And.intro @st57 (
 And.intro @sz57 (
 And.intro @zr57 (
 And.intro @kn71 (
 And.intro @st71 (
 And.intro @sz71 (
 And.intro @zr71 (
 And.intro @kn72 (
 And.intro @st72 (
 And.intro @sz72 (
 And.intro @zr72 (
 And.intro @kn79 (
 And.intro @st79 (
 And.intro @sz79 (
 And.intro @zr79 (
 And.intro @kn85 (
 And.intro @st85 (
 And.intro @sz85 (
 And.intro @zr85 (
 And.intro @kn87 (
 And.intro @st87 (
 And.intro @sz87 (
 And.intro @zr87 (
 And.intro @kn90 (
 And.intro @st90 (
 And.intro @sz90 (
 And.intro @zr90 (
 And.intro @kn93 (
 And.intro @st93 (
 And.intro @sz93 (
 And.intro @zr93 (
 And.intro @kn95 (
 And.intro @st95 (
 And.intro @sz95 (
 And.intro @zr95 (
 And.intro @kn107 (
 And.intro @st107 (
 And.intro @sz107 (
 And.intro @zr107 (
 And.intro @kn113 (
 And.intro @st113 (
 And.intro @sz113 (
 And.intro @zr113 (
 And.intro @kn115 (
 And.intro @st115 (
 And.intro @sz115 (
 And.intro @zr115 (
 And.intro @kn117 (
 And.intro @st117 (
 And.intro @sz117 (
 And.intro @zr117 (
 And.intro @kn122 (
 And.intro @st122 (
 And.intro @sz122 (
 And.intro @zr122 (
 And.intro @kn125 (
 And.intro @st125 (
 And.intro @sz125 (
 And.intro @zr125 (
 And.intro @kn128 (
 And.intro @st128 (
 And.intro @sz128 (
 And.intro @zr128 (
 And.intro @kn132 (
 And.intro @st132 (
 And.intro @sz132 (
 And.intro @zr132 (
 And.intro @kn135 (
 And.intro @st135 (
 And.intro @sz135 (
 And.intro @zr135 (
 And.intro @kn146 (
 And.intro @st146 (
 And.intro @sz146 (
 And.intro @zr146 (
 And.intro @kn152 (
 And.intro @st152 (
 And.intro @sz152 (
 And.intro @zr152 (
 And.intro @kn154 (
 And.intro @st154 (
 And.intro @sz154 (
 And.intro @zr154 (
 And.intro @kn160 (
 And.intro @st160 (
 And.intro @sz160 (
 And.intro @zr160 (
 And.intro @kn164 (
 And.intro @st164 (
 And.intro @sz164 (
 And.intro @zr164 (
 And.intro @kn168 (
 And.intro @st168 (
 And.intro @sz168 (
 And.intro @zr168 (
 And.intro @zo3 (
 And.intro @zo4 (
 And.intro @zo5 (
 And.intro @zo22 (
 And.intro @zo23 (
 And.intro @zo27 (
 And.intro @zo36 (
 And.intro @zo53 (
 And.intro @zo57 (
 And.intro @zo71 (
 And.intro @zo72 (
 And.intro @zo79 (
 And.intro @zo90 (
 And.intro @zo93 (
 And.intro @zo107 (
 And.intro @zo113 (
 And.intro @zo117 (
 And.intro @zo132 (
 And.intro @zo135 (
 And.intro @zo146 (
 And.intro @zo152 (
 And.intro @zo154 (
 And.intro @zo160 (
 And.intro @zo164 (
 And.intro @zo168 (
 And.intro @le3 (
 And.intro @le4 (
 And.intro @le5 (
 And.intro @le6 (
 And.intro @le7 (
 And.intro @le8 (
 And.intro @le9 (
 And.intro @le10 (
 And.intro @le11 (
 And.intro @le12 (
 And.intro @le13 (
 And.intro @le14 (
 And.intro @le15 (
 And.intro @le16 (
 And.intro @le17 (
 And.intro @le18 (
 And.intro @le19 (
 And.intro @le20 (
 And.intro @le21 (
 And.intro @le22 (
 And.intro @le23 (
 And.intro @le24 (
 And.intro @le25 (
 And.intro @le26 (
 And.intro @le27 (
 And.intro @le28 (
 And.intro @le29 (
 And.intro @le30 (
 And.intro @le31 (
 And.intro @le32 (
 And.intro @le33 (
 And.intro @le34 (
 And.intro @le35 (
 And.intro @le36 (
 And.intro @le37 (
 And.intro @le38 (
 And.intro @le39 (
 And.intro @le40 (
 And.intro @le41 (
 And.intro @le42 (
 And.intro @le43 (
 And.intro @le44 (
 And.intro @le45 (
 And.intro @le46 (
 And.intro @le47 (
 And.intro @le48 (
 And.intro @le49 (
 And.intro @le50 (
 And.intro @le51 (
 And.intro @le52 (
 And.intro @le53 (
 And.intro @le54 (
 And.intro @le55 (
 And.intro @le56 (
 And.intro @le57 (
 And.intro @le58 (
 And.intro @le59 (
 And.intro @le60 (
 And.intro @le61 (
 And.intro @le62 (
 And.intro @le63 (
 And.intro @le64 (
 And.intro @le65 (
 And.intro @le66 (
 And.intro @le67 (
 And.intro @le68 (
 And.intro @le69 (
 And.intro @le70 (
 And.intro @le71 (
 And.intro @le72 (
 And.intro @le73 (
 And.intro @le74 (
 And.intro @le75 (
 And.intro @le76 (
 And.intro @le77 (
 And.intro @le78 (
 And.intro @le79 (
 And.intro @le80 (
 And.intro @le81 (
 And.intro @le82 (
 And.intro @le83 (
 And.intro @le84 (
 And.intro @le85 (
 And.intro @le86 (
 And.intro @le87 (
 And.intro @le88 (
 And.intro @le89 (
 And.intro @le90 (
 And.intro @le91 (
 And.intro @le92 (
 And.intro @le93 (
 And.intro @le94 (
 And.intro @le95 (
 And.intro @le96 (
 And.intro @le97 (
 And.intro @le98 (
 And.intro @le99 (
 And.intro @le100 (
 And.intro @le101 (
 And.intro @le102 (
 And.intro @le103 (
 And.intro @le104 (
 And.intro @le105 (
 And.intro @le106 (
 And.intro @le107 (
 And.intro @le108 (
 And.intro @le109 (
 And.intro @le110 (
 And.intro @le111 (
 And.intro @le112 (
 And.intro @le113 (
 And.intro @le114 (
 And.intro @le115 (
 And.intro @le116 (
 And.intro @le117 (
 And.intro @le118 (
 And.intro @le119 (
 And.intro @le120 (
 And.intro @le121 (
 And.intro @le122 (
 And.intro @le123 (
 And.intro @le124 (
 And.intro @le125 (
 And.intro @le126 (
 And.intro @le127 (
 And.intro @le128 (
 And.intro @le129 (
 And.intro @le130 (
 And.intro @le131 (
 And.intro @le132 (
 And.intro @le133 (
 And.intro @le134 (
 And.intro @le135 (
 And.intro @le136 (
 And.intro @le137 (
 And.intro @le138 (
 And.intro @le139 (
 And.intro @le140 (
 And.intro @le141 (
 And.intro @le142 (
 And.intro @le143 (
 And.intro @le144 (
 And.intro @le145 (
 And.intro @le146 (
 And.intro @le147 (
 And.intro @le148 (
 And.intro @le149 (
 And.intro @le150 (
 And.intro @le151 (
 And.intro @le152 (
 And.intro @le153 (
 And.intro @le154 (
 And.intro @le155 (
 And.intro @le156 (
 And.intro @le157 (
 And.intro @le158 (
 And.intro @le159 (
 And.intro @le160 (
 And.intro @le161 (
 And.intro @le162 (
 And.intro @le163 (
 And.intro @le164 (
 And.intro @le165 (
 And.intro @le166 (
 And.intro @le167 (
 And.intro @le168 (
 And.intro @le169 (
 And.intro @le170 (
 And.intro @le171 (
 And.intro @le172 (
 And.intro @le173 (
 And.intro @le174 (
 And.intro @le175 (
 And.intro @le176 (
 And.intro @le177 (
 And.intro @le178 (
 And.intro @le179 (
 And.intro @le180 (
 And.intro @le181 (
 And.intro @le182 (
 And.intro @le183 (
 And.intro @le184 (
 And.intro @le185 (
 And.intro @le186 (
 And.intro @le187 (
 And.intro @le188 (
 And.intro @le189 (
 And.intro @le190 (
 And.intro @le191 (
 And.intro @le192 (
 And.intro @le193 (@le194))))))))))))))))))))))))))))))))))))))))))))))))))))))))))))))))))))))))))))))))))))))))))))))))))))))))))))))))))))))))))))))))))))))))))))))))))))))))))))))))))))))))))))))))))))))))))))))))))))))))))))))))))))))))))))))))))))))))))))))))))))))))))))))))))))))))))))))))))))))))))))))))))))))))))))))))))))))))))))))))))))))))))))))))))))))))))))))))))))))))))))))))))))))))))))))))))))))))))))))
/-- slices.Clone[[]int,int] -/
def k83 : SC :=
 .seq
 (.ops [
 ⟨(some 2), (.assign (.const (.slice none 0 0))), 23, none⟩])
 (.seq
 (.seq
 (.ops [
 ⟨(some 3), (.move (.tmp 0)), 23, none⟩,
 ⟨(some 4), (.binOp .eql 23 (.tmp 3) (.const (.slice none 0 0)) 23), 4, none⟩])
 (.cond (.tmp 4)
 (.seq
 (.ops [
 ⟨(some 2), (.assign (.const (.slice none 0 0))), 23, none⟩])
 .ret)
 .skip))
 (.seq
 (.ops [
 ⟨(some 5), (.buildSlice 23 0 #[]), 23, none⟩,
 ⟨(some 6), (.move (.tmp 0)), 23, none⟩,
 ⟨(some 7), (.call ⟨(.builtin .append), #[(.tmp 5), (.tmp 6)], #[23, 23]⟩), 23, none⟩,
 ⟨(some 2), (.assign (.tmp 7)), 23, none⟩])
 .ret))
theorem slim83 : Try.f83.body.map (slim lends) = some k83 := by kernel_rfl
theorem ok83 : fnOk Try.f83 1 = true := by kernel_rfl
theorem clone0_83 (A : Option Addr) (c : Nat) : Y0.call 83 [.konst (.slice A 0 c)] [] = some (.own 3 [], []) := by
 refine call_slim (Y := Y0) rfl Try.func83 ok83 slim83 ?_
 show wpD Y0.env k83 (fin tys 0 [ResultVar.tmp 2] _) _
 unfold k83
 cases A <;> simp only [↓xpre, xpost, yset0, implies_true, Option.bind_some, Option.map_some, Option.isSome_some, ↓reduceIte, Nat.reduceEqDiff, Nat.reduceLT, Nat.reduceLeDiff, Nat.reduceAdd, Nat.reduceMul, Nat.reduceMod, Nat.reduceSub, List.contains_cons, List.contains_nil, Nat.reduceBEq, List.getD_cons_zero, List.getD_cons_succ, List.getD_nil, List.length_cons, List.length_nil, List.size_toArray, List.toList_toArray, List.zip_cons_cons, List.zip_nil_left, List.append_nil, List.nil_append, List.cons_append, List.map_cons, List.map_nil, List.replicate_succ, List.replicate_zero, List.set_cons_zero, List.set_cons_succ, List.set_set, List.all_cons, List.any_cons, List.any_nil, List.all_nil, List.getElem?_cons_zero, List.getElem?_cons_succ, List.getElem?_nil, List.range_zero, beq_self_eq_true, Int.reduceLE, Int.reduceLT, Int.reduceEq, Int.reduceSub, Int.reduceAdd, Int.reduceToNat, Int.reduceNeg, Option.isNone_none, Option.isNone_some]
theorem hook83 : Dv.Good Try.prog tys 83 [.sl 3 []] [] (.own 3 []) [] := good_empty kn3 (fun A c => Dv.Sys.call_good y0Ok (clone0_83 A c))
/-- slices.Clone[[]loop.example/g01084/impl.End,loop.example/g01084/impl.End] -/
def k84 : SC :=
 .seq
 (.ops [
 ⟨(some 2), (.assign (.const (.slice none 0 0))), 93, none⟩])
 (.seq
 (.seq
 (.ops [
 ⟨(some 3), (.move (.tmp 0)), 93, none⟩,
 ⟨(some 4), (.binOp .eql 93 (.tmp 3) (.const (.slice none 0 0)) 93), 4, none⟩])
 (.cond (.tmp 4)
 (.seq
 (.ops [
 ⟨(some 2), (.assign (.const (.slice none 0 0))), 93, none⟩])
 .ret)
 .skip))
 (.seq
 (.ops [
 ⟨(some 5), (.buildSlice 93 0 #[]), 93, none⟩,
 ⟨(some 6), (.move (.tmp 0)), 93, none⟩,
 ⟨(some 7), (.call ⟨(.builtin .append), #[(.tmp 5), (.tmp 6)], #[93, 93]⟩), 93, none⟩,
 ⟨(some 2), (.assign (.tmp 7)), 93, none⟩])
 .ret))
theorem slim84 : Try.f84.body.map (slim lends) = some k84 := by kernel_rfl
theorem ok84 : fnOk Try.f84 1 = true := by kernel_rfl
theorem clone0_84 (A : Option Addr) (c : Nat) : Y0.call 84 [.konst (.slice A 0 c)] [] = some (.own 95 [], []) := by
 refine call_slim (Y := Y0) rfl Try.func84 ok84 slim84 ?_
 show wpD Y0.env k84 (fin tys 0 [ResultVar.tmp 2] _) _
 unfold k84
 cases A <;> simp only [↓xpre, xpost, yset0, implies_true, Option.bind_some, Option.map_some, Option.isSome_some, ↓reduceIte, Nat.reduceEqDiff, Nat.reduceLT, Nat.reduceLeDiff, Nat.reduceAdd, Nat.reduceMul, Nat.reduceMod, Nat.reduceSub, List.contains_cons, List.contains_nil, Nat.reduceBEq, List.getD_cons_zero, List.getD_cons_succ, List.getD_nil, List.length_cons, List.length_nil, List.size_toArray, List.toList_toArray, List.zip_cons_cons, List.zip_nil_left, List.append_nil, List.nil_append, List.cons_append, List.map_cons, List.map_nil, List.replicate_succ, List.replicate_zero, List.set_cons_zero, List.set_cons_succ, List.set_set, List.all_cons, List.any_cons, List.any_nil, List.all_nil, List.getElem?_cons_zero, List.getElem?_cons_succ, List.getElem?_nil, List.range_zero, beq_self_eq_true, Int.reduceLE, Int.reduceLT, Int.reduceEq, Int.reduceSub, Int.reduceAdd, Int.reduceToNat, Int.reduceNeg, Option.isNone_none, Option.isNone_some]
theorem hook84 : Dv.Good Try.prog tys 84 [.sl 95 []] [] (.own 95 []) [] := good_empty kn95 (fun A c => Dv.Sys.call_good y0Ok (clone0_84 A c))
/-- Calls that are known by other means. -/
def hooks (f : FuncId) (a l : List D) : Option (D × List D) :=
 match f, a, l with
 | 83, [.sl 3 []], [] => some (.own 3 [], [])
 | 84, [.sl 95 []], [] => some (.own 95 [], [])
 | _, _, _ => none
theorem hooksOk : ∀ f a l r outs, hooks f a l = some (r, outs) → Dv.Good Try.prog tys f a l r outs := by
 intro f a l r outs h
 unfold hooks at h
 split at h
 ·simp only [Option.some.injEq, Prod.mk.injEq] at h; obtain ⟨rfl, rfl⟩ := h; exact hook83
 ·simp only [Option.some.injEq, Prod.mk.injEq] at h; obtain ⟨rfl, rfl⟩ := h; exact hook84
 ·cases h
theorem sortGood : ∀ zs : List Int, zs.length < 4611686018427387904 → Dv.Good Try.prog tys 81 [.vw [100000] 0 0] [.own 3 (ints zs)] (.tup []) [.own 3 (ints (sortM zs))] := fun zs h =>
 good_sort ⟨Try.f81, Try.func81, rfl, by decide⟩ sz3 (fun blk off cap zs w h1 h2 h3 => Try.slices_Sort_int blk off cap zs w h1 h2 h3) (fun p cap w => Try.slices_Sort_int_none p cap w) zs h
theorem sortedGood : ∀ zs : List Int, zs.length < 1099511627776 → Dv.Good Try.prog tys 43 [.clo 82 [.cptr [.sl 3 (ints zs)]]] [] (.own 3 (ints (sortM zs))) [] := fun zs h =>
 good_sorted ⟨Try.f43, Try.func43, rfl, by decide⟩ sz3
  (fun p ad cap w h1 h2 => callsIn_wide.1 (Go.Proofs.sv.sorted_in 5 (Nat.le_refl _) p _ [] (by decide) (by decide) w h1 h2 (.inl ⟨ad, cap, rfl, rfl⟩)))
  (fun p b off cap zs w h0 h1 h2 h3 h4 => callsIn_wide.1 (Go.Proofs.sv.sorted_in 5 (Nat.le_refl _) p _ zs (by have : maxLen = 9223372036854775807 := rfl; omega) (by omega) w h1 h2 (.inr ⟨b, off, cap, rfl, h3, h4⟩))) zs h
noncomputable def Y : Dv.Sys := { P := Try.prog, T := tys, lends := lends, base := orHook (orHook hooks (sortHook 81 3)) (sortedHook 43 82 3) }
theorem yOk : Dv.Sys.Ok Y := ⟨tyOk, mixed, orHook_good (orHook_good hooksOk (sortHook_good sortGood)) (sortedHook_good sortedGood)⟩
theorem yT : Y.T = tys := nr rfl
theorem yL : Y.lends = lends := nr rfl
set_option maxRecDepth 10000 in
set_option linter.defProp false in
def yset :=
 And.intro @yT (
 And.intro @yL (
 And.intro @evNf (
 And.intro @evNi (
 And.intro @evNp (
 And.intro @ty3 (
 And.intro @ty4 (
 And.intro @ty5 (
 And.intro @ty22 (
 And.intro @ty23 (
 And.intro @ty25 (
 And.intro @ty27 (
 And.intro @ty29 (
 And.intro @ty36 (
 And.intro @ty38 (
 And.intro @ty43 (
 And.intro @ty53 (
 And.intro @ty57 (
 And.intro @ty71 (
 And.intro @ty72 (
 And.intro @ty79 (
 And.intro @ty85 (
 And.intro @ty87 (
 And.intro @ty90 (
 And.intro @ty93 (
 And.intro @ty95 (
 And.intro @ty107 (
 And.intro @ty113 (
 And.intro @ty115 (
 And.intro @ty117 (
 And.intro @ty122 (
 And.intro @ty125 (
 And.intro @ty128 (
 And.intro @ty132 (
 And.intro @ty135 (
 And.intro @ty146 (
 And.intro @ty152 (
 And.intro @ty154 (
 And.intro @ty160 (
 And.intro @ty164 (
 And.intro @ty168 (
 And.intro @kn3 (
 And.intro @st3 (
 And.intro @sz3 (
 And.intro @zr3 (
 And.intro @kn4 (
 And.intro @st4 (
 And.intro @sz4 (
 And.intro @zr4 (
 And.intro @kn5 (
 And.intro @st5 (
 And.intro @sz5 (
 And.intro @zr5 (
 And.intro @kn22 (
 And.intro @st22 (
 And.intro @sz22 (
 And.intro @zr22 (
 And.intro @kn23 (
 And.intro @st23 (
 And.intro @sz23 (
 And.intro @zr23 (
 And.intro @kn25 (
 And.intro @st25 (
 And.intro @sz25 (
 And.intro @zr25 (
 And.intro @kn27 (
 And.intro @st27 (
 And.intro @sz27 (
 And.intro @zr27 (
 And.intro @kn29 (
 And.intro @st29 (
 And.intro @sz29 (
 And.intro @zr29 (
 And.intro @kn36 (
 And.intro @st36 (
 And.intro @sz36 (
 And.intro @zr36 (
 And.intro @kn38 (
 And.intro @st38 (
 And.intro @sz38 (
 And.intro @zr38 (
 And.intro @kn43 (
 And.intro @st43 (
 And.intro @sz43 (
 And.intro @zr43 (
 And.intro @kn53 (
 And.intro @st53 (
 And.intro @sz53 (
 And.intro @zr53 (
 And.intro @kn57 (
 And.intro @st57 (
 And.intro @sz57 (
 And.intro @zr57 (
 And.intro @kn71 (
 And.intro @st71 (
 And.intro @sz71 (
 And.intro @zr71 (
 And.intro @kn72 (
 And.intro @st72 (
 And.intro @sz72 (
 And.intro @zr72 (
 And.intro @kn79 (
 And.intro @st79 (
 And.intro @sz79 (
 And.intro @zr79 (
 And.intro @kn85 (
 And.intro @st85 (
 And.intro @sz85 (
 And.intro @zr85 (
 And.intro @kn87 (
 And.intro @st87 (
 And.intro @sz87 (
 And.intro @zr87 (
 And.intro @kn90 (
 And.intro @st90 (
 And.intro @sz90 (
 And.intro @zr90 (
 And.intro @kn93 (
 And.intro @st93 (
 And.intro @sz93 (
 And.intro @zr93 (
 And.intro @kn95 (
 And.intro @st95 (
 And.intro @sz95 (
 And.intro @zr95 (
 And.intro @kn107 (
 And.intro @st107 (
 And.intro @sz107 (
 And.intro @zr107 (
 And.intro @kn113 (
 And.intro @st113 (
 And.intro @sz113 (
 And.intro @zr113 (
 And.intro @kn115 (
 And.intro @st115 (
 And.intro @sz115 (
 And.intro @zr115 (
 And.intro @kn117 (
 And.intro @st117 (
 And.intro @sz117 (
 And.intro @zr117 (
 And.intro @kn122 (
 And.intro @st122 (
 And.intro @sz122 (
 And.intro @zr122 (
 And.intro @kn125 (
 And.intro @st125 (
 And.intro @sz125 (
 And.intro @zr125 (
 And.intro @kn128 (
 And.intro @st128 (
 And.intro @sz128 (
 And.intro @zr128 (
 And.intro @kn132 (
 And.intro @st132 (
 And.intro @sz132 (
 And.intro @zr132 (
 And.intro @kn135 (
 And.intro @st135 (
 And.intro @sz135 (
 And.intro @zr135 (
 And.intro @kn146 (
 And.intro @st146 (
 And.intro @sz146 (
 And.intro @zr146 (
 And.intro @kn152 (
 And.intro @st152 (
 And.intro @sz152 (
 And.intro @zr152 (
 And.intro @kn154 (
 And.intro @st154 (
 And.intro @sz154 (
 And.intro @zr154 (
 And.intro @kn160 (
 And.intro @st160 (
 And.intro @sz160 (
 And.intro @zr160 (
 And.intro @kn164 (
 And.intro @st164 (
 And.intro @sz164 (
 And.intro @zr164 (
 And.intro @kn168 (
 And.intro @st168 (
 And.intro @sz168 (
 And.intro @zr168 (
 And.intro @zo3 (
 And.intro @zo4 (
 And.intro @zo5 (
 And.intro @zo22 (
 And.intro @zo23 (
 And.intro @zo27 (
 And.intro @zo36 (
 And.intro @zo53 (
 And.intro @zo57 (
 And.intro @zo71 (
 And.intro @zo72 (
 And.intro @zo79 (
 And.intro @zo90 (
 And.intro @zo93 (
 And.intro @zo107 (
 And.intro @zo113 (
 And.intro @zo117 (
 And.intro @zo132 (
 And.intro @zo135 (
 And.intro @zo146 (
 And.intro @zo152 (
 And.intro @zo154 (
 And.intro @zo160 (
 And.intro @zo164 (
 And.intro @zo168 (
 And.intro @le3 (
 And.intro @le4 (
 And.intro @le5 (
 And.intro @le6 (
 And.intro @le7 (
 And.intro @le8 (
 And.intro @le9 (
 And.intro @le10 (
 And.intro @le11 (
 And.intro @le12 (
 And.intro @le13 (
 And.intro @le14 (
 And.intro @le15 (
 And.intro @le16 (
 And.intro @le17 (
 And.intro @le18 (
 And.intro @le19 (
 And.intro @le20 (
 And.intro @le21 (
 And.intro @le22 (
 And.intro @le23 (
 And.intro @le24 (
 And.intro @le25 (
 And.intro @le26 (
 And.intro @le27 (
 And.intro @le28 (
 And.intro @le29 (
 And.intro @le30 (
 And.intro @le31 (
 And.intro @le32 (
 And.intro @le33 (
 And.intro @le34 (
 And.intro @le35 (
 And.intro @le36 (
 And.intro @le37 (
 And.intro @le38 (
 And.intro @le39 (
 And.intro @le40 (
 And.intro @le41 (
 And.intro @le42 (
 And.intro @le43 (
 And.intro @le44 (
 And.intro @le45 (
 And.intro @le46 (
 And.intro @le47 (
 And.intro @le48 (
 And.intro @le49 (
 And.intro @le50 (
 And.intro @le51 (
 And.intro @le52 (
 And.intro @le53 (
 And.intro @le54 (
 And.intro @le55 (
 And.intro @le56 (
 And.intro @le57 (
 And.intro @le58 (
 And.intro @le59 (
 And.intro @le60 (
 And.intro @le61 (
 And.intro @le62 (
 And.intro @le63 (
 And.intro @le64 (
 And.intro @le65 (
 And.intro @le66 (
 And.intro @le67 (
 And.intro @le68 (
 And.intro @le69 (
 And.intro @le70 (
 And.intro @le71 (
 And.intro @le72 (
 And.intro @le73 (
 And.intro @le74 (
 And.intro @le75 (
 And.intro @le76 (
 And.intro @le77 (
 And.intro @le78 (
 And.intro @le79 (
 And.intro @le80 (
 And.intro @le81 (
 And.intro @le82 (
 And.intro @le83 (
 And.intro @le84 (
 And.intro @le85 (
 And.intro @le86 (
 And.intro @le87 (
 And.intro @le88 (
 And.intro @le89 (
 And.intro @le90 (
 And.intro @le91 (
 And.intro @le92 (
 And.intro @le93 (
 And.intro @le94 (
 And.intro @le95 (
 And.intro @le96 (
 And.intro @le97 (
 And.intro @le98 (
 And.intro @le99 (
 And.intro @le100 (
 And.intro @le101 (
 And.intro @le102 (
 And.intro @le103 (
 And.intro @le104 (
 And.intro @le105 (
 And.intro @le106 (
 And.intro @le107 (
 And.intro @le108 (
 And.intro @le109 (
 And.intro @le110 (
 And.intro @le111 (
 And.intro @le112 (
 And.intro @le113 (
 And.intro @le114 (
 And.intro @le115 (
 And.intro @le116 (
 And.intro @le117 (
 And.intro @le118 (
 And.intro @le119 (
 And.intro @le120 (
 And.intro @le121 (
 And.intro @le122 (
 And.intro @le123 (
 And.intro @le124 (
 And.intro @le125 (
 And.intro @le126 (
 And.intro @le127 (
 And.intro @le128 (
 And.intro @le129 (
 And.intro @le130 (
 And.intro @le131 (
 And.intro @le132 (
 And.intro @le133 (
 And.intro @le134 (
 And.intro @le135 (
 And.intro @le136 (
 And.intro @le137 (
 And.intro @le138 (
 And.intro @le139 (
 And.intro @le140 (
 And.intro @le141 (
 And.intro @le142 (
 And.intro @le143 (
 And.intro @le144 (
 And.intro @le145 (
 And.intro @le146 (
 And.intro @le147 (
 And.intro @le148 (
 And.intro @le149 (
 And.intro @le150 (
 And.intro @le151 (
 And.intro @le152 (
 And.intro @le153 (
 And.intro @le154 (
 And.intro @le155 (
 And.intro @le156 (
 And.intro @le157 (
 And.intro @le158 (
 And.intro @le159 (
 And.intro @le160 (
 And.intro @le161 (
 And.intro @le162 (
 And.intro @le163 (
 And.intro @le164 (
 And.intro @le165 (
 And.intro @le166 (
 And.intro @le167 (
 And.intro @le168 (
 And.intro @le169 (
 And.intro @le170 (
 And.intro @le171 (
 And.intro @le172 (
 And.intro @le173 (
 And.intro @le174 (
 And.intro @le175 (
 And.intro @le176 (
 And.intro @le177 (
 And.intro @le178 (
 And.intro @le179 (
 And.intro @le180 (
 And.intro @le181 (
 And.intro @le182 (
 And.intro @le183 (
 And.intro @le184 (
 And.intro @le185 (
 And.intro @le186 (
 And.intro @le187 (
 And.intro @le188 (
 And.intro @le189 (
 And.intro @le190 (
 And.intro @le191 (
 And.intro @le192 (
 And.intro @le193 (@le194)))))))))))))))))))))))))))))))))))))))))))))))))))))))))))))))))))))))))))))))))))))))))))))))))))))))))))))))))))))))))))))))))))))))))))))))))))))))))))))))))))))))))))))))))))))))))))))))))))))))))))))))))))))))))))))))))))))))))))))))))))))))))))))))))))))))))))))))))))))))))))))))))))))))))))))))))))))))))))))))))))))))))))))))))))))))))))))))))))))))))))))))))))))))))))))))))))))))))))))))))
theorem sorted_43 (zs : List Int) (h : zs.length < 1099511627776) : Y.call 43 [.clo 82 [.cptr [.sl 3 (lst (D.int .i64) zs)]]] [] = some (.own 3 (lst (D.int .i64) (sortM zs)), []) := Dv.Sys.call_base (sortedHook_eq 43 82 3 zs h)
theorem sort_81 (zs : List Int) (h : zs.length < 4611686018427387904) : Y.call 81 [.vw [100000] 0 0] [.own 3 (lst (D.int .i64) zs)] = some (.tup [], [.own 3 (lst (D.int .i64) (sortM zs))]) := Dv.Sys.call_base (orHook_left (sortHook_eq 81 3 zs h))
theorem clone_83 (xs : List D) (h : xs.length < 1099511627776) (hs : xs.all solid = true) (ho : hasObjs xs = false) (hf : (frz (.own 3 xs)).isSome = true) : Y.call 83 [.sl 3 xs] [] = some (.own 3 xs, []) := by
 cases xs with
 | nil => exact Dv.Sys.call_base rfl
 | cons x xs =>
  refine call_slim (Y := Y) rfl Try.func83 ok83 slim83 ?_
  show wpD Y.env k83 (fin tys 0 [ResultVar.tmp 2] _) _
  unfold k83
  have h0 : 0 + (x :: xs).length < 1099511627776 := by omega
  simp only [List.length_cons, Nat.zero_add] at h0
  simp only [List.all_cons, hosCons] at hs ho
  simp only [↓xpre, xpost, yset, implies_true, Option.bind_some, Option.map_some, Option.isSome_some, ↓reduceIte, Nat.reduceEqDiff, Nat.reduceLT, Nat.reduceLeDiff, Nat.reduceAdd, Nat.reduceMul, Nat.reduceMod, Nat.reduceSub, List.contains_cons, List.contains_nil, Nat.reduceBEq, List.getD_cons_zero, List.getD_cons_succ, List.getD_nil, List.length_cons, List.length_nil, List.size_toArray, List.toList_toArray, List.zip_cons_cons, List.zip_nil_left, List.append_nil, List.nil_append, List.cons_append, List.map_cons, List.map_nil, List.replicate_succ, List.replicate_zero, List.set_cons_zero, List.set_cons_succ, List.set_set, List.all_cons, List.any_cons, List.any_nil, List.all_nil, List.getElem?_cons_zero, List.getElem?_cons_succ, List.getElem?_nil, List.range_zero, beq_self_eq_true, Int.reduceLE, Int.reduceLT, Int.reduceEq, Int.reduceSub, Int.reduceAdd, Int.reduceToNat, Int.reduceNeg, Nat.zero_add, h0, hs, ho]
  simp only [fzOwn, fzsCons] at hf
  rw [if_pos hf]
theorem clone_84 (xs : List D) (h : xs.length < 1099511627776) (hs : xs.all solid = true) (ho : hasObjs xs = false) (hf : (frz (.own 95 xs)).isSome = true) : Y.call 84 [.sl 95 xs] [] = some (.own 95 xs, []) := by
 cases xs with
 | nil => exact Dv.Sys.call_base rfl
 | cons x xs =>
  refine call_slim (Y := Y) rfl Try.func84 ok84 slim84 ?_
  show wpD Y.env k84 (fin tys 0 [ResultVar.tmp 2] _) _
  unfold k84
  have h0 : 0 + (x :: xs).length < 1099511627776 := by omega
  simp only [List.length_cons, Nat.zero_add] at h0
  simp only [List.all_cons, hosCons] at hs ho
  simp only [↓xpre, xpost, yset, implies_true, Option.bind_some, Option.map_some, Option.isSome_some, ↓reduceIte, Nat.reduceEqDiff, Nat.reduceLT, Nat.reduceLeDiff, Nat.reduceAdd, Nat.reduceMul, Nat.reduceMod, Nat.reduceSub, List.contains_cons, List.contains_nil, Nat.reduceBEq, List.getD_cons_zero, List.getD_cons_succ, List.getD_nil, List.length_cons, List.length_nil, List.size_toArray, List.toList_toArray, List.zip_cons_cons, List.zip_nil_left, List.append_nil, List.nil_append, List.cons_append, List.map_cons, List.map_nil, List.replicate_succ, List.replicate_zero, List.set_cons_zero, List.set_cons_succ, List.set_set, List.all_cons, List.any_cons, List.any_nil, List.all_nil, List.getElem?_cons_zero, List.getElem?_cons_succ, List.getElem?_nil, List.range_zero, beq_self_eq_true, Int.reduceLE, Int.reduceLT, Int.reduceEq, Int.reduceSub, Int.reduceAdd, Int.reduceToNat, Int.reduceNeg, Nat.zero_add, h0, hs, ho]
  simp only [fzOwn, fzsCons] at hf
  rw [if_pos hf]
end Go.Proofs.Ytjkgcfdcfjkkbaa
